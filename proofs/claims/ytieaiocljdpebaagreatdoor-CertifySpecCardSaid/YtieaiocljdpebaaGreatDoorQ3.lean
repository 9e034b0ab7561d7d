/- Part 3 of the proof; the last part says what is shown. -/
import Derived.Test.YtieaiocljdpebaaGreatDoorQ2
import Derived.WalkKit
import Derived.DefersIn
set_option linter.all false
open Bool renaming and_eq_true->aIy,not_eq_true'->aIR,false_eq_true->aIU,or_eq_true->aIZ,or_eq_false_iff->aJh,eq_iff_iff->aJv,and_self->aJI,not_eq_false->aJY,and_true->aKw,not_true->aKx,rec->aK7,not_eq_true->aK9,not_false->aLp,true_eq_false->aMb,true->J,false->E
open List renaming getElem?_eq_some_iff->aIz,getElem?_eq_getElem->aIA,getElem?_append_left->aIB,getD_eq_getElem?_getD->aIC,getElem?_map->aIE,cons_append->aIF,getElem?_append_right->aIH,nil_append->aIJ,mem_cons->aIK,replicate->aIL,mem_append->aIM,all_eq_true->aIN,length_append->aIO,map_cons->aIP,getElem?_eq_none->aIT,pairwise_cons->aIV,mem_of_getElem?->aIW,map_congr_left->aIY,ext_getElem?->aI0,length_eq_one_iff->aI2,mem_map->aI3,pairwise_append->aI4,range->aI5,getElem?_take->aI6,any_eq_true->aI7,contains_iff_mem->aI9,getElem?_cons_succ->aJa,length_eq_zero_iff->aJe,getElem?_of_mem->aJg,getElem?_drop->aJi,mem_filter->aJj,getElem?_eq_none_iff->aJk,length_cons->aJm,length_map->aJn,map_map->aJo,mem_append_left->aJp,getElem?_cons_zero->aJr,getElem?_set->aJs,nodup_append->aJz,getElem?_replicate->aJD,mem_cons_of_mem->aJF,mem_filterMap->aJN,pairwise_iff_getElem->aJO,getD_cons_zero->aJP,mem_range->aJQ,length_take->aJS,length_drop->aJT,foldl_cons->aJ2,append_assoc->aJ5,map_nil->aJ7,mem_append_right->aKa,mem_cons_self->aKb,mem_of_find?_eq_some->aKc,append_nil->aKf,rec->aKp,range_eq_range'->aKq,all_cons->aKv,mem_singleton->aKB,map_append->aKD,length_nil->aKF,sublist_cons_self->aKH,all_map->aKN,filterMap_cons->aKU,find?_some->aKW,drop_left'->aK0,getElem?_toArray->aLc,mem_iff_getElem?->aLd,pairwise_map->aLx,map_set->aLC,any_map->aLD,filter_map->aLI,drop_zero->aLR,sizeOf_lt_of_mem->aLV,Sublist->aMa,append_of_mem->aMc,filterMap_map->aMd,length->Y
open Option.some renaming injEq->aID
open Nat renaming le_refl->aIG,lor->aIQ,zero_add->aI8,shiftLeft->aJc,beq->aJq,le_trans->aJL,testBit_or->aJ4,strongRecOn->aKZ,rec->aLa,div_add_mod->aLf,one_shiftLeft->aLw,eq_of_beq_eq_true->aLP,shiftRight->aLW,testBit_two_pow->aL4,add_sub_cancel'->aL5,lt_or_gt_of_ne->aL8
open Option renaming map_some->aII,isSome_iff_exists->aIS,getD_some->aJd,map_eq_some_iff->aJ8,bind_some->aKQ,isNone_iff_eq_none->aLz,some->U,none->Z
open Array renaming getElem?_eq_some_iff->aIX,ext'->aJu,getElem?_eq_getElem->aKX,getD_eq_getD_getElem?->aLs,foldl_toList->aL7
open Int renaming negSucc->aLO,ofNat->aMe
open Prod.mk renaming injEq->aKj
open List.Sublist renaming append->aKT,refl->aK5
open Go.IntKind renaming i64->I
namespace Go.Proofs.YtieaiocljdpebaaGreatDoor.Y
open Go.RowKit
noncomputable section
variable{t:T}{F:aa}{z:ah}{x:S}{A:FuncId→Code→S→(XE→S→T)→T}{y:FuncId}{N:Nat}{B:ai}{l:SV}{r:Ty}{v:TypeId}{e:SV→S→T}{g:cV}{k:World}{w:bc}{f:aP}{b:aV}
mutual
def SV.Tp(O:aa)(y:ai)(V:ai):∀(v:SV),v.zG=J->v.den (O.at y) V=v.den O V
 |.int k e,_=>by simp only[SV.den,IE.dQ]
 |.bool b,_=>by simp only[SV.den,BE.dQ]
 |.ref r,_=>by simp only[SV.den,RE.den,RE.kW]
 |.loc i o,_=>rfl
 |.el r w i o,_=>by simp only[SV.den,RE.den,RE.kW,IE.dQ]
 |.gY a b c d,_=>rfl
 |.agg l,h=>by simp only[SV.zG] at h;simp only[SV.den];rw[SV.JL O y V l h]
 |.bH l,h=>by simp only[SV.zG] at h;simp only[SV.den];rw[SV.JL O y V l h]
 |.fn f l,h=>by simp only[SV.zG] at h;simp only[SV.den];rw[SV.JL O y V l h]
 |.fh t x,h=>by simp only[SV.zG] at h;simp only[SV.den];rw[SV.Tp O y V x h]
 |.yl n,h=>by simp[SV.zG] at h
 |.any,_=>rfl
 |.mp i,_=>rfl
 |.eR e W X,h=>by simp only[SV.zG] at h;simp only[SV.den,IE.dQ];rw[SV.JL O y V X h]
def SV.JL(O:aa)(y:ai)(V:ai):∀(l:ah),SV.vU l=J->SV.aA (O.at y) V l=SV.aA O V l
 |[],_=>rfl
 |x::X,h=>by
  simp only[SV.vU,aIy] at h;simp only[SV.aA];rw[SV.Tp O y V x h.1,SV.JL O y V X h.2]
end
def Tq(O:aa)(y:ai)(V:ai):∀(l:ah),SV.vU l=J->SV.cL (O.at y) V l=SV.cL O V l
 |[],_=>rfl
 |x::W,h=>by
  simp only[SV.vU,aIy] at h;have X:=Tq O y V W h.2;have R:=SV.Tp O y V x h.1;simp only[SV.cL,aIP] at X⊢;rw[X];congr 1;cases x<;>simp only[SV.gr]<;>first|rw[R]|(rw[RE.kW])
def NW:∀{l:bw}{i:Nat}{v:TypeId×ah},Dl l=J->bU l i=U v->SV.vU v.2=J
 |[],i,v,_,h=>by simp[cw] at h
 |U x::W,0,v,X,h=>by simp[Dl] at X;simp[cw] at h;exact h▸X.1
 |Z::W,0,v,X,h=>by simp[cw] at h
 |U x::W,i+1,v,X,h=>by simp[Dl] at X;exact NW X.2 (by simpa[cw] using h)
 |Z::W,i+1,v,X,h=>by simp[Dl] at X;exact NW X (by simpa[cw] using h)
def Ts:∀{a b:bw},lz a b=J->a=b
 |[],[],_=>rfl
 |[],_::_,h=>by simp[lz] at h
 |Z::X,Z::W,h=>by simp only[lz] at h;rw[Ts h]
 |Z::X,U y::W,h=>by simp[lz] at h
 |Z::X,[],h=>by simp[lz] at h
 |U x::X,Z::W,h=>by simp[lz] at h
 |U x::X,[],h=>by simp[lz] at h
 |U x::X,U y::W,h=>by
  simp only[lz,aIy,beq_iff_eq] at h;have V:=SV.rn _ _ h.1.2;rw[Ts h.2];obtain⟨R,Q⟩:=x;obtain⟨P,O⟩:=y;simp only at h V;rw[h.1.1,V]
def NX(W:ah)(X:bw):(my W X).length=Y X:=by
 unfold my;split<;>simp
def Tt{V:ah}{X:bw}{i:Nat}{x:TypeId×ah}(h:bU (my V X) i=U x):bU X i=U x:=by
 unfold my at h;split at h;exfalso;simp only[cw] at h;rw[aIE] at h;cases W:X[i]? with
 |none=>rw[W] at h;cases h
 |some y=>rw[W] at h;cases h
 exact h
def aby{W:ah}{X:bw}{i:Nat}(h:aL (my W X) i=J):aL X i=true:=by
 obtain⟨x,V⟩:=aIS.1 h;simp[aL,Tt V]
def aya(h:ZP t=J)(p:Sp)(O:aa)(L:cV):t.aQ p O L:=by
 unfold ZP at h;split at h;simp[T.aQ,BE.den];cases h
def ayb{W:aa}(h:gT F W (Y F.i) (Y F.b) (Y F.r))(L:Y W.i=Y F.i)(H:Y W.b=Y F.b)(G:Y W.r=Y F.r):W=F:=by
 obtain⟨i,b,r,y⟩:=F;obtain⟨V,R,Q,A⟩:=W;obtain⟨P,a2,N,M⟩:=h;simp only at P a2 N M L H G;have D:V=i:=aI0 λk=>by
  by_cases X:k<Y i;have:=P k X;simp only[aIC,aIA X,aIA (show k<Y V by omega),aJd] at this⊢;rw[this];rw[aIT (by omega),aIT (by omega)]
 have C:R=b:=aI0 λk=>by
  by_cases X:k<Y b;have:=a2 k X;simp only[aIC,aIA X,aIA (show k<Y R by omega),aJd] at this⊢;rw[this];rw[aIT (by omega),aIT (by omega)]
 have B:Q=r:=aI0 λk=>by
  by_cases X:k<Y r;have:=N k X;simp only[aa.rv,aIC,aIA X,aIA (show k<Y Q by omega),aJd] at this⊢;rw[this];rw[aIT (by omega),aIT (by omega)]
 subst D C B M;rfl
def Tu(X:bc):oA X (X.map RK.rd):=by
 refine⟨by simp,λk V h=> ?_⟩;rw[aIE] at h;cases W:X[k]? with
 |none=>rw[W] at h;cases h
 |some e=>
  rw[W] at h;simp only[aII,aID] at h;refine⟨e,rfl, ?_⟩;cases e<;>simp only[RK.rd] at h<;>first|exact .inl h.symm|exact .inr (.inr ⟨_,rfl,h.symm⟩)
def ayc(W:ah)(X:bw):my W X=X\/∀i,bU (my W X) i=none:=by
 unfold my;split;right;intro i;simp only[cw];rw[aIE];cases X[i]?<;>rfl;exact .inl rfl
section
variable{p:Sp}{m:bz}
def ayd{n:Nat}(cp:∀M:Sp,M.P=p.P->kD M m->yb M m n)(ok:kD p m){g:FuncId}{L:ah}{s:S}{v:SV}{ex:bw}(h:IS m (λf c s k=>eS m n f c s iF k) g L s=U (v,ex))(cx:(m.inl g).isSome=J)
  {D:bQ}{O:aa}{V:ai}{a:Act}{W:World}(hb:s.bd=J)(R:av p.S0 p.w0 D m.ty V O s a W)(hg:ek m.gl O):(∀L W,(callFunc g L).run p.P W=.ok (.enter g L) W)/\
  Calls p.P g (SV.aA O V L).toArray W λe W'=>∃V',e=.returned (v.den O V')/\av p.S0 p.w0 D m.ty V' O (s.plus ex) a W'/\bF s O V (s.plus ex) O V':=by
 unfold IS at h;split at h;rename_i H hT;split at h;rename_i v0 c8;split at h;rename_i bl;cases h;simp only[aIy] at bl;obtain⟨⟨⟨⟨⟨⟨⟨ca,cb⟩,cv⟩,cs⟩,ct⟩,cy⟩,cA⟩,cB⟩:=bl;have br:=Ts ct;obtain⟨cC,bs⟩:=R.xQ hb;refine⟨ok.BS g (.inr cx), ?_⟩;obtain⟨S1,bx⟩:∃S1:ai,S1=((aI5 (Y s.boxes)).filter (aL (my L s.boxes))).map (ad V):=⟨_,rfl⟩;have cD:∀i,aL (my L s.boxes) i=J->ad V i∈S1:=λi X=>by
  rw[bx];refine aI3.2 ⟨i,aJj.2 ⟨aJQ.2 ?_,X⟩,rfl⟩;obtain⟨x,w⟩:=aIS.1 X;have:=(aIz.1 (i8.1 w)).1
  rwa [NX] at this
 have b0:∀b∈S1,∃i,aL (my L s.boxes) i=J/\ad V i=b:=λb hb=>by
  rw[bx] at hb;obtain⟨i,X,rfl⟩:=aI3.1 hb;exact⟨i,(aJj.1 X).2,rfl⟩
 obtain⟨M,al⟩:∃M:Sp,M={P:=p.P,ty:=p.ty,S0:=S1,w0:=W,D:=bQ.none,R:=λe _=>(match e with|.panicked _=>False|_=>True),Q:=λ_ _ _=>True}:=⟨_,rfl⟩;have ag:M.P=p.P:=by rw[al]
 have b1:M.S0=S1:=by rw[al]
 have b2:M.w0=W:=by rw[al]
 have b3:∀ch W',¬M.R (.panicked ch) W':=λch W' u=>by rw[al] at u;exact u
 have b4:kD M m:=⟨by rw[al];exact ok.pt,by rw[ag];exact ok.mix,by rw[ag];exact ok.kV,by rw[ag];exact ok.zu,by rw[ag];exact ok.BS,λch W b o _ u=>(b3 ch W u).elim,by rw[ag];exact ok.inl⟩;have hS:=To (p:=M) b4 (cp M ag b4) (D:=bQ.none) (B:=⟨sZ L s,O.at [],V,[]⟩) (yh:=iF) (Gp _ _);have B0:av M.S0 M.w0 bQ.none m.ty V (O.at []) (sZ L s) ⟨#[],[]⟩ W:=by
  rw[b1,b2];refine⟨⟨fk.refl _ _,λi X=>.inr (cD i X),λi j X C=>R.mem.inj i j (aby X) (aby C),λi t cs h=> ?_,λk e rv N q=> ?_⟩,by simp only[sZ,NX];exact R.fH,R.ei,R.eb,by simp only[sZ,aJn];exact R.er, ?_,rfl,λt sv h=>by simp[sZ] at h,λk e rv b N=> ?_⟩;rw[Tq _ _ _ _ (NW cb h)];exact R.mem.box i t cs (Tt h);have:=(R.mem.mc (Tu s.rs)).ref k e rv N q;exact⟨this.1,λb hb i X=>this.2 b hb i (aby X)⟩;exact⟨rfl,rfl,λn l r st h=>by simp[bQ.none] at h,λn n' l r r' h=>by simp[bQ.none] at h,[],rfl,λ_=>rfl,by simp[bQ.none],λd h=>by simp[bQ.none] at h⟩;exfalso;simp only[sZ,aIE] at N;cases hk:s.rs[k]? with
  |none=>rw[hk] at N;cases N
  |some x=>rw[hk] at N;cases x<;>simp[RK.rd] at N
 have cI:=hS [] (.fn g) L (sZ L s) _ _ (O.at []) V ⟨#[],[]⟩ W (λe W'=>∃V',e=.returned (v.den O V')/\av p.S0 p.w0 D m.ty V' O (s.plus (H.boxes.drop (Y s.boxes))) a W'/\bF s O V (s.plus (H.boxes.drop (Y s.boxes))) O V') ⟨bF.refl _ _ _,cJ.refl _ _⟩ (aya cB M (O.at []) []) B0 hg ?_ ?_ (λch W' pd y _ hR=>(b3 ch W' hR).elim);have:=cI.2;rw[SV.JL O [] V L ca,ag] at this;exact this;intro v2 s2 O2 G W2 L2 hl _ F a0;split at a0;rename_i b5;simp only[aIy,aiR,beq_iff_eq,decide_eq_true_eq] at b5;obtain⟨hv,⟨⟨af,cO⟩,cW⟩,c0⟩:=b5;have hv:=SV.bI _ _ hv;subst hv;have af:=Ts af;have c1:O2=O.at []:=by
  refine ayb hl.ext.agree ?_ ?_ ?_;rw[F.ei,cO];exact R.ei.symm;rw[F.eb,cW];exact R.eb.symm;rw[F.er,c0];simp only[sZ,aJn];exact R.er.symm
 subst c1;rw[b1,b2] at F;have c9:Y s.boxes<=Y H.boxes:=by
  have:=congrArg Y br;rw[NX,aJS] at this;omega
 have a9:∀i,i<Y s.boxes->bU H.boxes i=bU (my L s.boxes) i:=λi X=>by
  have:=congrArg (λl=>bU l i) br;simp only[cw,aI6,if_pos X] at this⊢;exact this
 have a1:∀i,aL (my L s.boxes) i=J->ad G i=ad V i:=λi X=>hl.ext.ad i X
 have a3:∀{i:Nat}{l:bw},aL l i=J->i<Y l:=λh=>by
  obtain⟨x,w⟩:=aIS.1 h;exact(aIz.1 (i8.1 w)).1
 have c2:∀i,Y s.boxes<=i->aL H.boxes i=J->W.heap.size<=ad G i:=by
  intro i X u;rcases F.mem.own i (by rw[af];exact u) with N|N;exact N;exfalso;obtain⟨j,C,c3⟩:=b0 _ N;have bb:j<Y s.boxes:=by have:=a3 C;rwa [NX] at this
  have c4:aL H.boxes j=true:=by simp only[aL,a9 j bb];exact C
  have:=F.mem.inj i j (by rw[af];exact u) (by rw[af];exact c4) (by rw[a1 j C];exact c3.symm);omega
 have hB:Below W.heap.size W W2:=by
  have hO:=F.mem.base;refine⟨hO.os,hO.tape,hO.output,hO.size,λk hk=> ?_⟩;by_cases b6:k∈S1;obtain⟨j,C,rfl⟩:=b0 _ b6;have bb:j<Y s.boxes:=by have:=a3 C;rwa [NX] at this
  obtain⟨x,w⟩:=aIS.1 C;obtain⟨bt,jD⟩:=x;have e1:=R.mem.box j bt jD (Tt w);have e2:=F.mem.box j bt jD (by rw[af,a9 j bb];exact w);rw[a1 j C] at e2;rw[e1,e2];congr 2;rw[Tq _ _ _ _ (NW cb w)];refine Nk (gT.refl _ _ _ _) (λk hk=>a1 k ?_) _ (rp bs (Tt w));rcases ayc L s.boxes with hm|hm;rw[hm];exact hk;rw[hm j] at w;cases w;exact hO.block k hk b6
 have R0:=R.below hB;have c5:Y G=Y H.boxes:=by rw[F.fH,af]
 have a4:∀i,i<Y s.boxes->ad (V++G.drop (Y s.boxes)) i=ad V i:=λi X=>by
  simp only[ad,aIC];rw[aIB (by rw[R.fH];exact X)]
 have bf:∀i,Y s.boxes<=i->ad (V++G.drop (Y s.boxes)) i=ad G i:=λi X=>by
  simp only[ad,aIC];rw[aIH (by rw[R.fH];exact X),R.fH,aJi,aL5 X]
 have b7:∀i,aL H.boxes i=J->ad (V++G.drop (Y s.boxes)) i=ad G i:=λi X=>by
  by_cases A:i<Y s.boxes;rw[a4 i A,a1 i (by simp only[aL,<-a9 i A];exact X)];exact bf i (by omega)
 have bg:∀i,i<Y s.boxes->bU (s.plus (H.boxes.drop (Y s.boxes))).boxes i=bU s.boxes i:=λi X=>by
  simp only[cw,S.plus,aIB X]
 have b8:∀i,Y s.boxes<=i->bU (s.plus (H.boxes.drop (Y s.boxes))).boxes i=bU H.boxes i:=λi X=>by
  simp only[cw,S.plus];rw[aIH X,aJi,aL5 X]
 have bk:∀k,aL s.boxes k=J->ad (V++G.drop (Y s.boxes)) k=ad V k:=λk hk=>a4 k (a3 hk)
 have an:∀i,aL (s.plus (H.boxes.drop (Y s.boxes))).boxes i=J->(i<Y s.boxes/\aL s.boxes i=J/\ad (V++G.drop (Y s.boxes)) i=ad V i)\/(Y s.boxes<=i/\aL s2.boxes i=J/\ad (V++G.drop (Y s.boxes)) i=ad G i/\W.heap.size<=ad G i):=λi X=>by
  by_cases A:i<Y s.boxes;exact .inl ⟨A,by simpa only[aL,bg i A] using X,a4 i A⟩;have u:aL H.boxes i=true:=by simpa only[aL,b8 i (by omega)] using X
  exact .inr ⟨by omega,by rw[af];exact u,bf i (by omega),c2 i (by omega) u⟩
 have dc:p.w0.heap.size<=W.heap.size:=R.mem.base.size;refine⟨V++G.drop (Y s.boxes), ?_,⟨⟨R0.mem.base, ?_, ?_, ?_, ?_⟩, ?_,R.ei,R.eb,R.er,R0.cM,R.size, ?_, ?_⟩,⟨⟨gT.refl _ _ _ _,aIG _,aIG _,aIG _,bk⟩, ?_, ?_,aIG _⟩⟩;rw[SV.Tp _ _ _ _ cv];have c6:v2.bd (Y O.i) (Y O.b) (Y O.r) (aL H.boxes)=true:=by rw[R.ei,R.eb,R.er];exact cy
 rw[SV.dg (gT.refl _ _ _ _) b7 v2 c6];intro i X;rcases an i X with⟨_,q,h3⟩|⟨_,_,h3,h4⟩;rw[h3];exact R.mem.own i q;rw[h3];exact .inl (by omega);intro i j X C cc;rcases an i X with⟨i1,i2,z⟩|⟨i1,i2,z,i4⟩<;>rcases an j C with⟨j1,j2,j3⟩|⟨j1,j2,j3,j4⟩;exact R.mem.inj i j i2 j2 (by rw[<-z,<-j3];exact cc);exfalso;have:=R.mem.lt i2;omega;exfalso;have:=R.mem.lt j2;omega;exact F.mem.inj i j i2 j2 (by rw[<-z,<-j3];exact cc);intro i t jD h;by_cases A:i<Y s.boxes;rw[bg i A] at h;rw[a4 i A,R0.mem.box i t jD h];congr 2;exact(Nk (gT.refl _ _ _ _) bk _ (rp bs h)).symm;rw[b8 i (by omega)] at h;rw[bf i (by omega),F.mem.box i t jD (by rw[af];exact h)];congr 2;rw[Tq _ _ _ _ (NW cs h)];have c7:SV.da (Y O.i) (Y O.b) (Y O.r) (aL H.boxes) jD=true:=by rw[R.ei,R.eb,R.er];exact rp cA h
 exact(Nk (gT.refl _ _ _ _) b7 _ c7).symm;intro k e rv N q;refine⟨(R0.mem.ref k e rv N q).1,λb cl i X=> ?_⟩;rcases an i X with⟨i1,i2,z⟩|⟨i1,i2,z,i4⟩;rw[z];exact(R.mem.ref k e rv N q).2 b cl i i2;rw[z];have:=(R.mem.ref k e rv N q).1.lt cl;omega;simp only[S.plus,aIO,aJT,c5,R.fH];intro t sv h;rcases R.tmps t sv h with N|N;exact .inl N;right;rw[SV.dg (gT.refl _ _ _ _) bk sv (ux cC h)];exact N;intro k e rv b N q h3;have T0:=R0.fl k e rv b N q h3;refine⟨T0.own,T0.mem,λi X=> ?_,T0.alone,T0.inner⟩;rcases an i X with⟨i1,i2,z⟩|⟨i1,i2,z,i4⟩;rw[z];exact T0.box i i2;rw[z];have:=(R.fl k e rv b N q h3).lt;omega;intro i X;have A:=a3 X;simp only[aL,bg i A];exact X;simp only[S.plus,aIO];omega;exact a0.elim;intro v2 s2 O2 G W2 L2 hl _ F a0;exact a0.elim;cases h;cases h;cases h
end
def aye{X:S}(W:my z X.boxes=my z x.boxes)(V:X.ni=x.ni)(R:X.nb=x.nb)(Q:X.rs=x.rs):sZ z X=sZ z x:=by
 simp only[sZ,W,V,R,Q]
def alC{m:bz}{X:S}(W:my z X.boxes=my z x.boxes)(V:X.ni=x.ni)(R:X.nb=x.nb)(Q:X.rs=x.rs)(P:Y X.boxes=Y x.boxes):IS m A y z X=IS m A y z x:=by
 unfold IS;rw[aye W V R Q,W,V,R,Q,P]
def ayf(m:bz)(X:cT)(R:FuncId->Code->S->(XE->S->T)->T):Dz X (Dm m X R):=by
 refine⟨λg Q s d v l=> ?_,λg s n t O d w N=> ?_,λg Q s r h=> ?_⟩;unfold Dm;rw[alC]<;>cases d<;>rfl
 ·unfold Dm;rw[alC]<;>cases d<;>simp[S.ck,S.put,um,my,aLC]<;>(try apply aI0)<;>(try intro i)<;>(try simp[aJs])<;>(try(intro P;subst P;by_cases W:n<Y s.boxes;(· simp[W]);(· simp[W])))
 unfold Dm at h;split at h;rename_i V;simp only[aIy] at V;exact V.1;cases h
def ayg{p:Sp}{m:bz}{M:cT}(L:∀X:Sp,X.P=p.P->kD X m->yb X m N)(H:kD p m):Ti p m (Dm m M λf c s k=>eS m N f c s iF k):=by
 intro g C s v B h D O V a W G R F;unfold Dm at h;split at h;rename_i Q;simp only[aIy] at Q;exact ayd L H h Q.2 G R F;cases h
def alD(s:S)(X:ai)(i:Nat):(s.bM X).tmps[i]?=(s.tmps[i]?).map λx=>if X.contains i then .any else x:=by
 simp only[S.bM];rw[uA,aI8]
def ayh(h:N∉B):(x.bM B).tmps[N]?=x.tmps[N]?:=by
 rw[alD];cases x.tmps[N]?<;>simp[h]
def abz{X W V:Nat}{R:Nat->Bool}(Q:ai):∀(l:ah)(n:Nat),SV.da X W V R l=J->SV.da X W V R (rg Q n l)=J
 |[],n,_=>rfl
 |x::P,n,h=>by
  simp only[SV.gI,aIy] at h;simp only[rg,SV.gI,aIy];refine⟨?_,abz Q P (n+1) h.2⟩;split;simp[SV.aS];exact h.1
def JM{ds:ai}(h:x.dZ z=J):(x.bM ds).dZ z=true:=by
 simp only[S.dZ,S.bd,aIy,S.bM] at h⊢;exact⟨⟨abz ds _ 0 h.1.1,h.1.2⟩,h.2⟩
def B5{d:bR}(h:∀X,d=U X->X∉B):(x.put d l).bM B=(x.bM B).put d l:=by
 cases d with
 |none=>rfl
 |some X=>
  have V:=h X rfl;simp only[S.put,um,S.bM];congr 1;apply aI0;intro i;rw[uA,aI8,aJs,aJs,uA,aI8,JK];by_cases W:X=i;subst W;by_cases R:X<Y x.tmps<;>simp[R,V];simp[W]
def ayi{s:S}{ds es:ai}(h:∀x∈es,x∈ds):(s.bM es).bM ds=s.bM ds:=by
 simp only[S.bM];congr 1;apply aI0;intro i;rw[uA,uA,uA,aI8];cases s.tmps[i]? with
 |none=>rfl
 |some x=>
  simp only[aII];by_cases X:i∈ds;simp[X];have:i∉es:=λW=>X (h i W)
  simp[X,this]
def ayj(v:SV):MW E v=0:=by
 cases v<;>rfl
section
variable{p:Sp}{cf:bz}{ops:cT}
def av.bM{D:bQ}{s:S}{O:aa}{V:ai}{a:Act}{W:World}(R:av p.S0 p.w0 D cf.ty V O s a W)(P:ai):av p.S0 p.w0 D cf.ty V O (s.bM P) a W:=by
 refine⟨R.mem,R.fH,R.ei,R.eb,R.er,R.cM,by simp only[S.bM,JK];exact R.size,λt N X=> ?_,R.fl⟩;rw[alD] at X;cases Q:s.tmps[t]? with
 |none=>rw[Q] at X;cases X
 |some x=>
  rw[Q] at X;simp only[aII,aID] at X;split at X;exact .inl X.symm;subst X;exact R.tmps t x Q
def alE{m:OM}{O:aa}{b:BE}(Q:lY m.o.op=J)(P:m.bC=E)(h:zH cf x m.o=U (b,l))(N:b.den O=J):(fw cf m x).gives O (x.put m.o.dst l):=by
 unfold zH at h;split at h;cases h;rename_i X;simp only[aIZ,not_or,aK9] at X;obtain⟨X,W⟩:=X;have V:(qY x m.o.dst 0 (bO cf.ty cf.gl x m.o.op)).gives O (x.put m.o.dst l):=by
  split at h;rename_i w R;cases h;rw[R];simp only[qY,OR.gives,Gk];rename_i H w R;split at h;rename_i M;cases h;rw[R];simp only[qY,M,if_true,OR.gives,Gk,and_true];exact N;cases h;cases h
 unfold fw;rw[if_neg (by rw[X];simp)];cases L:m.o.op<;>rw[L] at Q V W<;>simp only[lY,aIU,ZQ] at Q W<;>first|exact V|(simp only[P,ayj];exact V)|cases W
def Tv{o:Oper}{s:S}{O:aa}(h:∀t∈i6 ops o,t∉B):jU cf ops o s O (s.bM B) O:=jU.xY (λt X=>ayh (h t X)) rfl rfl rfl
def alF{o:Oper}{ds:ai}{r:BE×SV}(h:∀t∈i6 ops o,t∉ds)(W:zH cf x o=U r):zH cf (x.bM ds) o=U r:=by
 have R:=Tv (cf:=cf) (s:=x) (O:=⟨[],[],[],[]⟩) h;have P:=R.ev cf.gl;unfold zH at W⊢;split at W;cases W;rename_i L;have H:¬((o.op.operands.toList.any λX=>((x.bM ds).ev cf.gl X).dP)||ZQ o.op)=true:=by
  intro V;apply L;simp only[aIZ] at V⊢;rcases V with V|V;left;obtain⟨X,M,G⟩:=aI7.1 V;exact aI7.2 ⟨X,M,by rw[<-P X M];exact G⟩;exact .inr V
 rw[if_neg H];cases Q:bO cf.ty cf.gl x o.op with
 |ok w=>rw[Td (ty:=cf.ty) P R.kd R.kl (λi _=>rfl) Q (λw N=>by cases N)];rw[Q] at W;exact W
 |bj b w=>rw[Td (ty:=cf.ty) P R.kd R.kl (λi _=>rfl) Q (λw N=>by cases N)];rw[Q] at W;exact W
 |no w=>rw[Q] at W;cases W
def ayk{m:OM}{P:S}(N:M7 m.o.op=J)(h:∀t∈i6 ops m.o,t∉B)(Q:∀X,m.o.dst=U X->X∉B)(W:fw cf m x=.ok P):fw cf m (x.bM B)=.ok (P.bM B):=by
 have H:=Tv (cf:=cf) (s:=x) (O:=⟨[],[],[],[]⟩) h;have R:=H.ev cf.gl;unfold fw at W⊢;split at W;cases W;rename_i G;have F:¬(m.o.op.operands.toList.any λX=>((x.bM B).ev cf.gl X).dP)=true:=by
  intro D;apply G;obtain⟨X,M,C⟩:=aI7.1 D;exact aI7.2 ⟨X,M,by rw[<-R X M];exact C⟩
 rw[if_neg F];have r:∀(n:Nat)(t:TypeId)(L:ah),(x.bM B).ck n t L=(x.ck n t L).bM B:=λ_ _ _=>rfl
 cases A:m.o.op<;>rw[A] at N W R<;>simp only[M7,aIU] at N
 
 simp only at W⊢;split at W;split at W;rename_i V;simp only[aIy] at V;rw[if_pos (by simp only[aIy];exact⟨JM V.1,V.2⟩)];cases W;rw[B5 Q];rfl;cases W;cases W
 
 rename_i t X;simp only at W⊢;rw[R X (by simp[Op.operands])];split at W;split at W;rename_i V;simp only[aIy] at V;rw[if_pos (by simp only[aIy];exact⟨⟨⟨V.1.1.1,JM V.1.1.2⟩,V.1.2⟩,V.2⟩)];cases W;rw[B5 Q];rfl;cases W;cases W;rename_i t l parts;simp only at W⊢;have z:(parts.toList.map λq=>(q.1,(x.bM B).ev cf.gl q.2))=parts.toList.map λq=>(q.1,x.ev cf.gl q.2):=by
  refine aIY λq w=> ?_
  rw[R q.2 (by simp only[Op.operands,aI3];exact⟨q,w,rfl⟩)]
 rw[z];split at W;split at W;split at W;split at W;rename_i V;simp only[aIy] at V;rw[if_pos (by simp only[aIy];exact⟨⟨JM V.1.1,V.1.2⟩,V.2⟩)];cases W;congr 1;rw[B5 Q];rfl;cases W;cases W;cases W;cases W
 
 rename_i t X y;simp only at W⊢;rw[R X (by simp[Op.operands]),R y (by simp[Op.operands])];split at W;split at W;rename_i v;have u:ky (x.bM B).boxes _=_:=v;rw[u];simp only;split at W;rename_i V;rw[show(x.bM B).lk=x.lk from rfl,if_pos V];cases W;rw[B5 Q];rfl;cases W;cases W;cases W
def ayl{o:Oper}{s:S}(h:∀t∈i6 ops o,t∉B):∀x∈o.op.operands.toList,s.ev cf.gl x=(s.bM B).ev cf.gl x:=
 λx X=>((Tv (cf:=cf) (s:=s) (O:=⟨[],[],[],[]⟩) h).ev cf.gl x X).symm
def abA(X:RE):X.kind r (x.bM B)=X.kind r x:=BT (s:=x.bM B) (s':=x) rfl X
def abB{X:Ty}{s:S}{W:ai}:∀(ae:dS)(l:ah),kR X (s.bM W) ae l=kR X s ae l
 |[],[]=>rfl
 |[],_::_=>rfl
 |_::_,[]=>rfl
 |c::V,v::R=>by
  simp only[kR,abB V R];congr 1;unfold qX;split<;>try rfl
  rename_i z k r;cases k<;>simp only[RE.fits,abA]
def Tw{X:Ty}{s:S}{W:ai}(ae:dS):∀l:vK,lX X (s.bM W) ae l=lX X s ae l
 |[]=>rfl
 |r::V=>by simp only[lX,abB,Tw ae V]
def NY{ds:ai}{d:bR}{bj:BE}{k:RK}{X:LE}{V:ai}{b:BI}(R:∀X,d=U X->X∉ds)(h:jm x d bj v k X B V=U b):jm (x.bM ds) d bj v k X B V=U {b with s:=b.s.bM ds}:=by
 unfold jm at h⊢;split at h;rename_i W;cases h;have Q:(x.bM ds).bd=true:=by
  have P:x.dZ []=true:=by
   simp only[aIy] at W;simp only[S.dZ,SV.gI,aKw];exact W.1.1.1
  have:=JM (ds:=ds) P;simpa only[S.dZ,SV.gI,aKw] using this
 simp only[aIy] at W;rw[if_pos (by simp only[aIy];exact⟨⟨⟨Q,W.1.1.2⟩,W.1.2⟩,W.2⟩),B5 R];rfl;cases h
def aym{bC:Bool}(X:SV):vQ (x.bM B) v bC X=vQ x v bC X:=rfl
def ayn{W:TI}(X:SV):pR r (x.bM B) v W X=pR r x v W X:=by
 unfold pR;split<;>simp only[abA,Tw]<;>rfl
def alG{X:ai}{k n:Nat}:∀(l:ah)(i:Nat),rg X i (SV.nM k n l)=SV.nM k n (rg X i l)
 |[],_=>rfl
 |x::W,i=>by
  simp only[SV.nM,rg,alG W (i+1)];split<;>rfl
def alH{n:Nat}:(x.bM B).gq N n=(x.gq N n).bM B:=by
 simp only[S.bM,S.gq,alG]
def ayo{d:bR}{u:zy}(W:∀X,d=U X->X∉B)(h:FQ cf y z x d=U u):FQ cf y z (x.bM B) d=U {u with s:=u.s.bM B}:=by
 unfold FQ at h⊢;split at h;split at h;have V:(x.bM B).boxes=x.boxes:=rfl;have R:(x.bM B).rs=x.rs:=rfl;have Q:(x.bM B).ni=x.ni:=rfl;have P:(x.bM B).nb=x.nb:=rfl;simp only[V,R,Q,P];split at h;split at h;rename_i O;cases h;rw[if_pos O];congr 2;rw[B5 W,<-alH];rfl;cases h;cases h;cases h;cases h
def ayp(h:x.bd=J):(x.bM B).bd=true:=by
 simp only[S.bd,aIy,S.bM] at h⊢;exact⟨abz B _ 0 h.1,h.2⟩
def ayq{o:Oper}{u:zy}(W:dA cf (x.bM B) o=dA cf x o)(V:∀X,o.dst=U X->X∉B)(h:FR cf o x=U u):FR cf o (x.bM B)=U {u with s:=u.s.bM B}:=by
 unfold FR at h⊢;rw[W];split at h;cases h;rename_i R;have Q:(x.bM B).bd=true:=ayp (by simpa using R);rw[if_neg (by simp[Q])];generalize dA cf x o=c at h;cases c with
 |call g P=>
  cases g with
  |fn f=>exact ayo V h
  |yl n=>cases h
 |bn v=>cases h
 |no=>cases h
 |op=>cases h
def ayr{o:Oper}{bC:Bool}{b:BI}(Q:IW o.op=J)(h:∀t∈i6 ops o,t∉B)(O:∀X,o.dst=U X->X∉B)(W:dM cf o bC E x=U b):dM cf o bC E (x.bM B)=U {b with s:=b.s.bM B}:=by
 have V:=ayl (cf:=cf) (s:=x) h;unfold dM at W⊢;cases P:o.op with
 |call c=>
  rw[P] at Q W V;simp only[IW] at Q;split at Q
  ·rename_i u;simp only[u] at W⊢;have r:c.args.toList.map ((x.bM B).ev cf.gl)=c.args.toList.map (x.ev cf.gl):=aIY λX R=>(V X (by simp[Op.operands,Call.operands];exact .inr (by simpa using R))).symm
   rw[r];simp only[aym,ayn]
   repeat' split at W
   all_goals first
    |cases W;done
    |(have q:=NY (ds:=B) O W;(repeat' split)<;>first|exact q|contradiction|(exfalso;simp_all;done))
  cases Q
 |makeSlice t n m=>
  rw[P] at W V;simp only at W⊢;rw[<-V n (by simp[Op.operands]),<-V m (by simp[Op.operands])];simp only[Tw]
  repeat' split at W
  all_goals first
   |cases W;done
   |(have q:=NY (ds:=B) O W;(repeat' split)<;>first|exact q|contradiction|(exfalso;simp_all;done))
 |buildSlice t d parts=>
  rw[P] at W V;have l:(parts.toList.map λq=>(q.1,(x.bM B).ev cf.gl q.2))=parts.toList.map λq=>(q.1,x.ev cf.gl q.2):=by
   refine aIY λq M=> ?_
   rw[V q.2 (by simp only[Op.operands,aI3];exact⟨q,M,rfl⟩)]
  have j:(parts.toList.any λq=>((x.bM B).ev cf.gl q.2).dP)=parts.toList.any λq=>(x.ev cf.gl q.2).dP:=by
   rw[aJv,aI7,aI7];constructor;rintro⟨X,R,L⟩;exact⟨X,R,by rw[V X.2 (by simp only[Op.operands,aI3];exact⟨X,R,rfl⟩)];exact L⟩;rintro⟨X,R,L⟩;exact⟨X,R,by rw[<-V X.2 (by simp only[Op.operands,aI3];exact⟨X,R,rfl⟩)];exact L⟩
  simp only at W⊢;rw[l,j];simp only[Tw]
  repeat' split at W
  all_goals first
   |cases W;done
   |(have q:=NY (ds:=B) O W;(repeat' split)<;>first|exact q|contradiction|(exfalso;simp_all;done))
 |slice t X C A w=>
  rw[P] at W V;have H:∀y:Option Operand,(∀z,y=U z->z∈(Op.slice t X C A w).operands.toList)->y.map ((x.bM B).ev cf.gl)=y.map (x.ev cf.gl):=by
   intro y i;cases y with
   |none=>rfl
   |some z=>simp only[aII];rw[<-V z (i z rfl)]
  simp only at W⊢;rw[<-V X (by simp[Op.operands]),H C (λz N=>by subst N;simp[Op.operands]),H A (λz N=>by subst N;simp[Op.operands]),H w (λz N=>by subst N;simp[Op.operands])];simp only[abA]
  repeat' split at W
  all_goals first
   |cases W;done
   |(have q:=NY (ds:=B) O W;(repeat' split)<;>first|exact q|contradiction|(exfalso;simp_all;done))
 |store t a X=>
  rw[P] at W V;simp only at W⊢;rw[<-V a (by simp[Op.operands]),<-V X (by simp[Op.operands])];have g:(x.bM B).rs=x.rs:=rfl;simp only[abB];rw[g];have v:∀{bj:BE}{e:TypeId}{G:RK}{y:LE}{F D:ai}{k:Nat}{b:BI},(jm x Z bj e G y F D).map (λb=>{b with s:=(b.s.gq k (Y x.rs)).put o.dst (.bH [])})=U b->
    (jm (x.bM B) Z bj e G y F D).map (λb=>{b with s:=(b.s.gq k (Y x.rs)).put o.dst (.bH [])})=U {b with s:=b.s.bM B}:=by
   intro bj e G y F D k b M;obtain⟨b0,f,rfl⟩:=aJ8.1 M;rw[NY (ds:=B) (by simp) f];simp only[aII];rw[alH,<-B5 O]
  repeat' split at W
  all_goals first
   |cases W;done
   |(have q:=v W;clear v;(repeat' split)<;>first|exact q|contradiction|(exfalso;simp_all;done))
 |_=>rw[P] at Q;simp[IW] at Q
end
section
variable{ops:cT}
def qd(l:bY):ai:=l.filterMap (·.o.dst)
structure tc(ops:cT)(listed:Array Bool)(rem:bY):Prop where
 mem:∀m∈rem,ops[m.j]?=U m.o
 un:∀i,i<ops.size->(listed.getD i J=E<->∃m∈rem,m.j=i)
 sz:listed.size=ops.size
 dn:∀(j:Nat)(o:Oper),ops[j]?=U o->listed.getD j E=J->∀e∈j7 o,listed.getD e E=J
 nd:rem.Pairwise λx y=>x.j≠y.j
def tc.listed{listed:Array Bool}{O:bY}(W:JH ops B)(N:tc ops listed O):∀(j:Nat)(o:Oper),ops[j]?=U o->(∀e∈j7 o,listed.getD e E=J)->∀i,i<ops.size->(B.getD j 0).testBit i=J->listed.getD i E=true:=by
 intro j;induction j using aKZ with
 |_ j M=>
  intro o X V i R L;rcases W.cl j o X i R L with h|⟨e,Q,h⟩;exact V i h;have H:=W.lt j o X e Q;have G:j<ops.size:=(aIX.1 X).1;have P:ops[e]?=U ops[e]:=aKX (by omega);exact M e H ops[e] P (N.dn e _ P (V e Q)) i R h
def tc.lt{listed:Array Bool}{X:bY}(W:tc ops listed X){m:OM}(V:m∈X):m.j<ops.size:=(aIX.1 (W.mem m V)).1
def tc.not{listed:Array Bool}{V:bY}(X:tc ops listed V){m:OM}(W:m∈V):listed.getD m.j E≠true:=by
 have h:=(X.un m.j (X.lt W)).2 ⟨m,W,rfl⟩;have R:m.j<listed.size:=by rw[X.sz];exact X.lt W
 simp[R] at h⊢;exact h
def tc.next{listed:Array Bool}{V R:bY}{m:OM}(W:tc ops listed (V++m::R))(D:∀e∈j7 m.o,listed.getD e E=J):tc ops (listed.setIfInBounds m.j J) (V++R):=by
 have H:=W.mem m (by simp);have C:m.j<ops.size:=(aIX.1 H).1;have P:m.j<listed.size:=by rw[W.sz];exact C
 have O:aMa (V++R) (V++m::R):=aKT (aK5 _) (aKH _ _);have B:∀x∈V++R,x.j≠m.j:=by
  intro x X;have N:=W.nd;rw[aI4] at N;rcases aIM.1 X with h|h;exact N.2.2 x h m (by simp);exact Ne.symm ((aIV.1 N.2.1).1 x h)
 refine⟨λx X=>W.mem x (O.subset X),λi A=> ?_,by simp[W.sz],λj o M Q e G=> ?_,W.nd.sublist O⟩;rw[Gm _ _ _ _ P];by_cases L:i=m.j;subst L;simp only[if_true,aMb,false_iff];rintro⟨x,X,Q⟩;exact B x X Q;rw[if_neg L,W.un i A];constructor;rintro⟨x,X,rfl⟩;refine⟨x, ?_,rfl⟩;simp only[aIM,aIK] at X⊢;rcases X with h|h|h;exact .inl h;subst h;exact absurd rfl L;exact .inr h;rintro⟨x,X,rfl⟩;exact⟨x,O.subset X,rfl⟩;rw[Gm _ _ _ _ P];rw[Gm _ _ _ _ P] at Q;split;rfl;by_cases F:j=m.j;subst F;rw[H] at M;cases M;exact D e G;rw[if_neg F] at Q;exact W.dn j o M Q e G
def tc.some{listed:Array Bool}{W:bY}(O:JH ops B)(X:tc ops listed W):∀(j:Nat),(∃m∈W,m.j=j)->∃m∈W,∀e∈j7 m.o,listed.getD e E=true:=by
 intro j;induction j using aKZ with
 |_ j N=>
  rintro⟨m,V,rfl⟩;by_cases h:∀e∈j7 m.o,listed.getD e E=J;exact⟨m,V,h⟩;simp only[Classical.not_forall] at h;obtain⟨e,M,R⟩:=h;have Q:=O.lt m.j m.o (X.mem m V) e M;have P:e<ops.size:=Nat.lt_trans Q (X.lt V);have:listed.getD e J=false:=by
   have L:e<listed.size:=by rw[X.sz];exact P
   simp[L] at R⊢;exact R
  exact N e Q ((X.un e P).1 this)
end
def ays(X:aP)(s:S)(W:ai):((s.bM W).bS X).1=(s.bS X).1/\((s.bM W).bS X).2=(s.bS X).2.bM W:=by
 induction X generalizing s with
 |nil=>exact⟨rfl,rfl⟩
 |cons k X V=>
  simp only[S.bS];have R:((s.bM W).fresh k).1=(s.fresh k).1:=by cases k<;>rfl
  have Q:((s.bM W).fresh k).2=(s.fresh k).2.bM W:=by cases k<;>rfl
  rw[R,Q];obtain⟨P,O⟩:=V (s.fresh k).2;exact⟨by rw[P],O⟩
section
variable{p:Sp}{cf:bz}
open Classical in
noncomputable def B6(s:S)(W:ai)(k:SV->S->T):SV->S->T:=λv X=>if X.tmps=(s.bM W).tmps then k v {X with tmps:=s.tmps} else .stuck ""
def ayt{N:YH}{R:SV->S->T}
  (h:(jy cf A N (.fn y) z x e R).aQ p F g):(jy cf A N (.fn y) z (x.bM B) (B6 x B e) (B6 x B R)).aQ p F g:=by
 unfold jy at h⊢;simp only at h⊢;split at h;rename_i c v M u;split at h;rename_i H;rw[if_pos (JM H)];have:IR cf (x.bM B) M (B6 x B e) (B6 x B R)=IR cf x M e R:=by
  funext X t;cases X<;>simp only[IR,B6,if_true]
 rw[this];exact h;exact h.elim;unfold xJ at h⊢;split at h;split at h;rename_i V r;obtain⟨G,D⟩:=ays V (x.cut z V) B;have C:(x.bM B).cut z V=(x.cut z V).bM B:=rfl;rw[C,G,D];split at h;rename_i l q;split at h;rename_i Q;simp only[aIy] at Q;rw[if_pos (by simp only[aIy];exact⟨JM Q.1,Q.2⟩)];have P:((x.cut z V).bS V).2.tmps=x.tmps:=(we V (x.cut z V)).2.1;have w:B6 x B e (one l) (((x.cut z V).bS V).2.bM B)=e (one l) ((x.cut z V).bS V).2:=by
  simp only[B6];rw[if_pos (by simp only[S.bM,P])];congr 1;simp only[S.bM];generalize((x.cut z V).bS V).2=W at P;rw[<-P]
 rw[w];exact h;exact h.elim;exact h.elim;exact h.elim;exact h.elim
end
section
variable{p:Sp}{cf:bz}{ops:cT}
def alI{V:Type}:∀{l:List V}{x:V},x∈l->∃X W,l=X++x::W/\(x,X++W)∈IT l
 |[],x,h=>by cases h
 |y::r,x,h=>by
  rcases aIK.1 h with rfl|h;exact⟨[],r,rfl,by simp[IT]⟩;obtain⟨X,W,R,Q⟩:=alI h;subst R;exact⟨y::X,W,rfl,by simp only[IT,aIK,aI3];exact .inr ⟨_,Q,rfl⟩⟩
def abC{p:Sp}{O:aa}{L:cV}:∀{l:List T},(Bu l).aQ p O L->∀t∈l,t.aQ p O L
 |[],h,_,_=>h.elim
 |[t],h,x,X=>by simp only[aKB] at X;subst X;exact h
 |t::u::r,h,x,X=>by
  simp only[Bu,T.aQ,BE.den,true_implies] at h;rcases aIK.1 X with rfl|X;exact h.1;exact abC (l:=u::r) h.2 x X
def NZ:∀{l m:bw},lz l m=J->l=m
 |[],[],_=>rfl
 |[],_::_,h=>by simp[lz] at h
 |Z::_,[],h=>by simp[lz] at h
 |U _::_,[],h=>by simp[lz] at h
 |Z::X,Z::W,h=>by simp only[lz] at h;rw[NZ h]
 |Z::_,U _::_,h=>by simp[lz] at h
 |U _::_,Z::_,h=>by simp[lz] at h
 |U (t,V)::X,U (R,Q)::W,h=>by
  simp only[lz,aIy,beq_iff_eq] at h;rw[h.1.1,SV.rn _ _ h.1.2,NZ h.2]
def alJ:∀{l m:vK},IU l m=J->l=m
 |[],[],_=>rfl
 |[],_::_,h=>by simp[IU] at h
 |_::_,[],h=>by simp[IU] at h
 |x::X,y::W,h=>by
  simp only[IU,aIy] at h;rw[SV.rn _ _ h.1,alJ h.2]
def LE.bI:∀(a b:LE),LE.same a b=J->a=b
 |.ref r,b,h=>by cases b<;>simp[LE.same] at h;rw[RE.bI _ _ h]
 |.lit l,b,h=>by cases b<;>simp[LE.same] at h;rw[alJ h]
 |.kz x y,b,h=>by cases b<;>simp[LE.same] at h;rw[LE.bI _ _ h.1,LE.bI _ _ h.2]
 |.sM n W,b,h=>by cases b<;>simp[LE.same] at h;rw[IE.bI _ _ h.1,SV.rn _ _ h.2]
 |.set x i V X,b,h=>by cases b<;>simp[LE.same] at h;rw[LE.bI _ _ h.1.1.1,IE.bI _ _ h.1.1.2,h.1.2,SV.rn _ _ h.2]
 |.sub x R Q,b,h=>by cases b<;>simp[LE.same] at h;rw[LE.bI _ _ h.1.1,IE.bI _ _ h.1.2,IE.bI _ _ h.2]
 |.ins x n X,b,h=>by cases b<;>simp[LE.same] at h;rw[LE.bI _ _ h.1.1,h.1.2,SV.rn _ _ h.2]
def S.bI{s s':S}(h:S.same s s'=J):s=s':=by
 obtain⟨M,a2,L,H,a5,a6,a7,a8⟩:=s;obtain⟨G,F,D,C,B,A,z,y⟩:=s';simp only[S.same,aIy,beq_iff_eq,decide_eq_true_eq] at h;obtain⟨⟨⟨⟨⟨⟨⟨X,W⟩,V⟩,R⟩,Q⟩,P⟩,O⟩,N⟩:=h;rw[SV.rn _ _ X,NZ W,V,R,Q,P,O,N]
def T.bI:∀(a b:T),T.same a b=J->a=b
 |.out e s,b,h=>by
  cases e with
  |normal=>
   cases b with
   |out W s'=>
    cases W with
    |normal=>rw[S.bI (s:=s) (s':=s') h]
    |_=>simp[T.same] at h
   |_=>simp[T.same] at h
  |_=>simp[T.same] at h
 |.stuck _,b,h=>by simp[T.same] at h
 |.dO _ _ _ _ _ _ _ _,b,h=>by simp[T.same] at h
 |.ret v V X,b,h=>by cases b<;>simp[T.same] at h;rw[SV.bI _ _ h.1.1,NZ h.1.2,h.2]
 |.bn v,b,h=>by cases b<;>simp[T.same] at h;rw[SV.bI _ _ h]
 |.node c t f,b,h=>by cases b<;>simp[T.same] at h;rw[BE.bI _ _ h.1.1,T.bI _ _ h.1.2,T.bI _ _ h.2]
 |.bj c t,b,h=>by cases b<;>simp[T.same] at h;rw[BE.bI _ _ h.1,T.bI _ _ h.2]
 |.call f G V X R im t,b,h=>by
  cases b<;>simp[T.same] at h;obtain⟨⟨⟨⟨⟨⟨Q,P⟩,O⟩,N⟩,M⟩,L⟩,H⟩:=h;rw[Q,SV.rn _ _ P,NZ O,N,M,SV.bI _ _ L,T.bI _ _ H]
 |.loop aq R F t,b,h=>by cases b<;>simp[T.same] at h;rw[h.1.1.1,h.1.1.2,SV.rn _ _ h.1.2,T.bI _ _ h.2]
 |.back aq x,b,h=>by cases b<;>simp[T.same] at h;rw[h.1,SV.rn _ _ h.2]
 |.new e x X D t,b,h=>by cases b<;>simp[T.same] at h;rw[h.1.1.1.1,LE.bI _ _ h.1.1.1.2,h.1.1.2,h.1.2,T.bI _ _ h.2]
 |.rows k x X t,b,h=>by cases b<;>simp[T.same] at h;rw[h.1.1.1,LE.bI _ _ h.1.1.2,h.1.2,T.bI _ _ h.2]
 |.gp g k t f,b,h=>by cases b<;>simp[T.same] at h;rw[BE.bI _ _ h.1.1.1,BE.bI _ _ h.1.1.2,T.bI _ _ h.1.2,T.bI _ _ h.2]
 |.pick n g k t f,b,h=>by
  cases b<;>simp[T.same] at h;rw[IE.bI _ _ h.1.1.1.1,BE.bI _ _ h.1.1.1.2,BE.bI _ _ h.1.1.2,T.bI _ _ h.1.2,T.bI _ _ h.2]
def JN:∀{l:List T}{t:T},t∈l->t∈F0 l
 |[],t,h=>by cases h
 |u::R,t,h=>by
  simp only[F0];rcases aIK.1 h with rfl|h;split;rename_i X;obtain⟨w,W,V⟩:=aI7.1 X;rw[T.bI _ _ V];exact JN W;exact aKb;split;exact JN h;exact aJF _ (JN h)
def alK{p:Sp}{O:aa}{L:cV}:∀{l:List BE}{t:T},(R9 l t).aQ p O L->(∀b∈l,b.den O=J)/\t.aQ p O L
 |[],t,h=>⟨λ_ X=>(by cases X),h⟩
 |b::r,t,h=>by
  simp only[R9,T.aQ] at h;obtain⟨W,V⟩:=alK h.2;exact⟨λx R=>(aIK.1 R).elim (λe=>e▸h.1) (W x),V⟩
def ayu{V:ot}{kS:List BE}{X:bY}{R:ai}{k:S->T}{W:bY}(h:(nP cf V B kS X R k e N W x).aQ p F g):ZS cf kS x X=true:=by
 cases W with
 |nil=>
  cases N<;>simp only[nP] at h<;>split at h;assumption;exact h.elim;assumption;exact h.elim
 |cons m P=>
  cases N with
  |zero=>exact h.elim
  |succ N=>
   simp only[nP] at h;split at h;exact h.elim;rename_i Q;simpa using Q
def ayv(s:S):s.bM []=s:=by
 obtain⟨X,b,c,d,e,f,g,i⟩:=s;simp only[S.bM,S.mk.injEq,and_self,and_true];apply aI0;intro i;rw[uA];cases X[i]?<;>simp
def abD:∀{l:List T}{t:T},t∈F0 l->t∈l
 |[],t,h=>by cases h
 |u::X,t,h=>by
  simp only[F0] at h;split at h;exact aJF _ (abD h);rcases aIK.1 h with rfl|h;exact aKb;exact aJF _ (abD h)
def alL{O:aa}{L:cV}:∀{l:List T},l≠[]->(∀t∈l,t.aQ p O L)->(Bu l).aQ p O L
 |[],h,_=>absurd rfl h
 |[t],_,h=>h t aKb
 |t::u::r,_,h=>by
  simp only[Bu,T.aQ];exact⟨λ_=>h t aKb,λ_=>alL (l:=u::r) (by simp) λx X=>h x (aJF _ X)⟩
def alM{k:S->T}{X:SV->S->T}:∀{l:List T},(Bu l).mz k X=Bu (l.map (T.mz k X))
 |[]=>rfl
 |[t]=>rfl
 |t::u::r=>by
  simp only[Bu,T.mz,aIP];rw[alM (l:=u::r)];rfl
def ayw{k:S->T}{P N:SV->S->T}(A:∀v M F g,((P v M).mz k e).aQ p F g->(N v M).aQ p F g)(h:((xJ cf y z x P).mz k e).aQ p F g):(xJ cf y z x N).aQ p F g:=by
 unfold xJ at h⊢;cases H:cf.sig y with
 |none=>rw[H] at h;exact h.elim
 |some G=>
  simp only[H] at h⊢;cases D:gJ cf.ty G with
  |none=>rw[D] at h;exact h.elim
  |some C=>
   simp only[D] at h⊢;cases B:zv cf.ty G ((x.cut z C).bS C).1 with
   |none=>rw[B] at h;exact h.elim
   |some l=>
    simp only[B] at h⊢;split at h;rename_i w;rw[if_pos w];simp only[T.mz,T.aQ] at h⊢;intro X V W u;refine(h X V W u).mono λR j Q=> ?_
    cases R with
    |returned v=>
     obtain⟨t,r,q,o,n,m⟩:=Q;exact⟨t,r,q,o,n,A _ _ _ _ m⟩
    |panicked i=>exact Q
    |outgrown=>exact Q
    exact h.elim
def ayx{k:S->T}{t:SV->S->T}{r:YH}{m:OM}{M H:S->T}(V:∀R F g,((M R).mz k e).aQ p F g->(H R).aQ p F g)(h:((Do cf (Sa cf) B t m M x).mz k e).aQ p F g):(Do cf (jy cf A r) B e m H x).aQ p F g:=by
 unfold Do at h⊢;cases G:FR cf m.o x with
 |some u=>
  simp only[G,T.mz,T.aQ] at h⊢;obtain⟨q,l,j⟩:=h;exact⟨q,l,V _ _ _ j⟩
 |none=>
 simp only[G] at h⊢;cases Q:dA cf x m.o with
 |call c a=>
  cases c with
  |fn X=>
   simp only[Q,Sa] at h⊢;split at h;rename_i N;have N:cf.inl X=none:=by simpa using N
   simp only[jy,N];exact ayw (λv R F g i=>V _ F g i) h;exact h.elim
  |yl n=>simp only[Q] at h;exact h.elim
 |bn v=>simp only[Q] at h;exact h.elim
 |no=>simp only[Q] at h;exact h.elim
 |op=>
  simp only[Q] at h⊢;cases D:(if IW m.o.op then dM cf m.o m.bC E x else Z) with
  |some b=>
   simp only[D,T.mz,T.aQ] at h⊢;exact⟨h.1,λf d=>V _ _ _ (h.2 f d)⟩
  |none=>
   simp only[D] at h⊢;by_cases C:lY m.o.op=J;rw[if_pos C] at h⊢;cases z:zH cf x m.o with
   |none=>rw[z] at h;exact h.elim
   |some W=>
    obtain⟨b,v⟩:=W;simp only[z,T.mz,T.aQ] at h⊢;exact⟨h.1,V _ _ _ h.2⟩
   rw[if_neg C] at h⊢;by_cases y:M7 m.o.op=J;rw[if_pos y] at h⊢;cases P:fw cf m x with
   |ok R=>simp only[P] at h⊢;exact V _ _ _ h
   |bj b R=>simp only[P] at h;exact h.elim
   |split b s1 s2=>simp only[P] at h;exact h.elim
   |no w=>simp only[P] at h;exact h.elim
   rw[if_neg y] at h;exact h.elim
def ayy{k:S->T}{G:SV->S->T}{R:YH}{kS:List BE}{X:ai}:∀(n:Nat)(W:bY)(V:bY)(s:S)(O:aa)(L:cV),
  ((nP cf (Sa cf) B kS V X (.out .normal) G n W s).mz k e).aQ p O L->(nP cf (jy cf A R) B kS V X k e n W s).aQ p O L:=by
 intro n;induction n with
 |zero=>
  intro W V s O L h;cases W with
  |nil=>
   simp only[nP] at h⊢;split at h;rename_i Q;rw[if_pos Q];exact h;exact h.elim
  |cons m r=>exact h.elim
 |succ n F=>
  intro W V s O L h;cases W with
  |nil=>
   simp only[nP] at h⊢;split at h;rename_i Q;rw[if_pos Q];exact h;exact h.elim
  |cons m r=>
   simp only[nP] at h⊢;split at h;exact h.elim;rename_i Q;rw[if_neg Q];rw[alM] at h;have N:=abC h;cases M:(IT (m::r)).filter (ZT B) with
   |nil=>rw[M] at h;exact h.elim
   |cons x D=>
    rw[M] at N;refine alL (λH=> ?_) λt C=> ?_
    have:=JN (aKb (a:=Do cf (jy cf A R) X e x.1 (λP=>nP cf (jy cf A R) B kS (IX B x.1 V) X k e n x.2 P) s) (l:=D.map λx=>Do cf (jy cf A R) X e x.1 (λP=>nP cf (jy cf A R) B kS (IX B x.1 V) X k e n x.2 P) s));simp only[aIP] at H;rw[H] at this;cases this;obtain⟨y,z,rfl⟩:=aI3.1 (abD C);exact ayx (λP O L w=>F _ _ _ _ _ w) (N _ (aI3.2 ⟨_,JN (aI3.2 ⟨y,z,rfl⟩),rfl⟩))
structure alN(cf:bz)(ops:cT)(bs:ai)(qs ch:bY):Prop where
 alO:JH ops bs
 xW:∀m∈qs++ch,∀x∈qs++ch,∀d,x.o.dst=U d->d∈i6 ops m.o->(bs.getD m.j 0).testBit x.j=J
 dst:∀x∈qs++ch,∀y∈qs++ch,x.j≠y.j->∀d,x.o.dst=U d->y.o.dst≠U d
 gd:∀m∈qs++ch,m.o.guard=Z/\m.bC=E
 qt:∀q∈qs,lY q.o.op=J
def ayz{X:Fence}(hF:pj X)(ok:kD p cf){nn:Nat}(ih:yb p cf nn){D:bQ}{M:kC}{yh:YH}(hY:DD p cf D.dB M yh){Q:Exit->Act->World->Prop}(HP:∀ch a' z pd y,dG p.w0 D pd y a'.defers z->p.R (.panicked ch) z->Q (.panic ch) a' z)
   {kS:List BE}{qs ch:bY}{ds:ai}(hX:alN cf ops B qs ch)(cv:∀H∈qs++ch,∀d,H.o.dst=U d->d∈ds){k:S->T}{V0:ai}(hB:M.pZ x F V0 g)(b7:∀b∈kS,b.bd (Y F.i) (Y F.b) (Y F.r)=J/\b.den F=J)
  (hk:∀s' O' V' a' z L',bF x F V0 s' O' V'->cJ x.aq g L'->av p.S0 p.w0 D cf.ty V' O' s' a' z->(k s').aQ p O' L'->Q .normal a' z)
  (cx:∀v s' O' V' a' z L',bF x F V0 s' O' V'->cJ x.aq g L'->av p.S0 p.w0 D cf.ty V' O' s' a' z->(e v s').aQ p O' L'->Q (.panic [{v:=v.den O' V',recovered:=E}]) a' z):
  ∀(a3:Nat)(listed:Array Bool)(af ag qv:bY)(s:S)(O:aa)(V:ai)(a:Act)(W:World)(L:cV),(af++ag).length=a3->tc ops listed (af++ag)->(∀q∈af,q∈qv)->(∀q∈qv,q∈qs)->(∀m∈ag,m∈ch)->
   bF x F V0 s O V->cJ x.aq g L->av p.S0 p.w0 D cf.ty V O (s.bM (qd af)) a W->ek cf.gl O->(nP cf (jy cf (λf c s k=>eS cf nn f c s yh k) yh) B kS qv ds k e (Y ag) ag s).aQ p O L->
   wpAnyIn X N p.P .any ops Q a3 listed a W:=by
 intro a3;induction a3 with
 |zero=>
  intro listed af ag qv s O V a W L bx hW bb bg hr hl hL R hg h;have hp:∀q∈af,q∈qs:=λq hq=>bg q (bb q hq)
  have bk:af++ag=[]:=aJe.1 bx;obtain⟨rfl,rfl⟩:=List.append_eq_nil_iff.1 bk;simp only[aKF,nP] at h;split at h;refine⟨?_,hk s O V a W L hl hL (by have:=R;simp only[qd,List.filterMap_nil,ayv] at this;exact this) h⟩;cases al:Region.ready .any ops listed with
  |nil=>rfl
  |cons i r=>
   obtain⟨h1,o,ho,-⟩:=mem_ready.1 (show i∈Region.ready .any ops listed by rw[al];simp);obtain⟨m,hm,-⟩:=(hW.un i (aIX.1 ho).1).1 h1;cases hm
  exact h.elim
 |succ a3 b8=>
  intro listed af ag qv s O V a W L bx hW bb bg hr hl hL R hg h;have hp:∀q∈af,q∈qs:=λq hq=>bg q (bb q hq)
  have bf:∀m∈af++ag,m∈qs++ch:=λm hm=>by
   rcases aIM.1 hm with h1|h1;exact aJp _ (hp m h1);exact aKa _ (hr m h1)
  refine⟨λal=> ?_,λi hi=> ?_⟩;exfalso;obtain⟨m0,cy⟩:=List.exists_mem_of_length_pos (l:=af++ag) (by omega);obtain⟨m,hm,bk⟩:=tc.some hX.alO hW m0.j ⟨m0,cy,rfl⟩;have:m.j∈Region.ready .any ops listed:=
   mem_ready.2 ⟨(hW.un m.j (hW.lt hm)).2 ⟨m,hm,rfl⟩,m.o,hW.mem m hm,λG he hb=>bk G.on (aln he hb)⟩
  rw[al] at this;cases this;obtain⟨h1,o,ho,bk⟩:=mem_ready.1 hi;obtain⟨m,hm,rfl⟩:=(hW.un i (aIX.1 ho).1).1 h1;have b0:=hW.mem m hm;rw[b0] at ho;cases ho;have hd:∀G∈j7 m.o,listed.getD G E=true:=λG he=>by
   obtain⟨ed,h2,h3,rfl⟩:=alo he;exact bk ed h2 h3
  have b1:∀H∈af++ag,¬(B.getD m.j 0).testBit H.j=true:=λH hx hb=>hW.not hx (hW.listed hX.alO m.j m.o b0 hd H.j (hW.lt hx) hb)
  have al:∀t∈i6 ops m.o,t∉qd af:=λt ht hq=>by
   obtain⟨H,hx,bl⟩:=aJN.1 hq;exact b1 H (aJp _ hx) (hX.xW m (bf m hm) H (bf H (aJp _ hx)) t bl ht)
  obtain⟨cA,ca⟩:=hX.gd m (bf m hm);have cc:=ayu h;have cB:Region.wanted m.o (yielded ops a.tmps)=true:=abm R (by simp[ga,cA]);unfold wpOpIn;rw[b0];simp only[cB,if_true];rcases aIM.1 hm with cC|cD
  
  obtain⟨xs,ys,rfl⟩:=aMc cC;have hq:=aIN.1 cc m (bb m (by simp));split at hq;rename_i d b v b2 hv;split at hq;rename_i w hw;simp only[aIy,aIZ] at hq;have cI:=SV.bI _ _ hq.1;subst cI;have cO:b.den O=true:=by
   rcases hq.2 with h5|h5;cases b<;>simp only[BE.ZR,aIU] at h5;simp only[BE.den];exact h5;obtain⟨H,hx,h6⟩:=aI7.1 h5;rw[<-BE.bI _ _ h6,BE.dg hl.ext.agree H (b7 H hx).1];exact(b7 H hx).2
  have an:=alE (O:=O) (hX.qt m (hp m (by simp))) ca (alF (ops:=ops) (ds:=qd (xs++m::ys)) al hv) cO;obtain⟨v',z,V',a4,R',A⟩:=Nx R ok.kV hg m an;have a0:=hW.nd;rw[aJ5,aIF] at hW a0;have a9:d∉qd (xs++ys):=λhh=>by
   obtain⟨H,hx,bl⟩:=aJN.1 hh;have b3:H.j≠m.j:=by
    rw[aI4] at a0;rcases aIM.1 hx with h5|h5;exact a0.2.2 H h5 m (by simp);exact Ne.symm ((aIV.1 a0.2.1).1 H (by simp[h5]))
   exact hX.dst H (aJp _ (hp H (by rcases aIM.1 hx with h5|h5<;>simp[h5]))) m (aJp _ (hp m (by simp))) b3 d bl b2
  have hs:((s.bM (qd (xs++m::ys))).put m.o.dst v)=s.bM (qd (xs++ys)):=by
   rw[b2];simp only[S.put,um,S.bM];congr 1;apply aI0;intro i;rw[aJs,uA,uA,aI8,JK];have cW:=(aIz.1 hw).1;by_cases hi:d=i;subst hi;rw[if_pos rfl,if_pos cW,hw];simp[a9];rw[if_neg hi];have c0:(qd (xs++m::ys)).contains i=(qd (xs++ys)).contains i:=by
    rw[aJv,aI9,aI9];simp only[qd,List.filterMap_append,aKU,b2,aIM,aIK];constructor;rintro(h5|h5|h5);exact .inl h5;exact absurd h5.symm hi;exact .inr h5;rintro(h5|h5);exact .inl h5;exact .inr (.inr h5)
   rw[c0]
  rw[hs] at R' A;refine BP hF a4 (NF an) ?_;refine b8 _ (xs++ys) ag qv s O V' _ z L (by simp at bx⊢;omega) ?_ (λq hq=>bb q (by rcases aIM.1 hq with h5|h5<;>simp[h5])) bg hr (hl.trans ⟨A.ext,A.mono,A.len,A.aq⟩) hL R' hg h;rw[aJ5];exact hW.next hd;cases hq;cases hq
  
  obtain⟨xs,ys,rfl,cl⟩:=alI cD;have c1:(xs++m::ys).length=(xs++ys).length+1:=by simp;omega
  have c2:ZT B (m,xs++ys)=true:=by
   refine aIN.2 λH hx=> ?_
   have:=b1 H (aKa _ (by simp only[aIM,aIK] at hx⊢;exact hx.imp id .inr));simpa using this
  have h:(Do cf (jy cf (λf c s k=>eS cf nn f c s yh k) yh) ds e m (λs'=>nP cf (jy cf (λf c s k=>eS cf nn f c s yh k) yh) B kS (IX B m qv) ds k e (xs++ys).length (xs++ys) s') s).aQ p O L:=by
   rw[c1] at h;generalize c3:xs++m::ys=c4 at h cl;cases c4 with
   |nil=>simp at c3
   |cons m0 r0=>
    simp only[nP,cc,aKx,aIU,if_false] at h;exact abC h _ (JN (aI3.2 ⟨_,aJj.2 ⟨cl,c2⟩,rfl⟩))
  have c5:tc ops (listed.setIfInBounds m.j J) (af++(xs++ys)):=by
   have h5:af++(xs++m::ys)=(af++xs)++m::ys:=by simp
   rw[h5] at hW;have:=hW.next hd;simpa using this
  have a9:∀d,m.o.dst=U d->d∉qd af:=λd c6 hh=>by
   obtain⟨H,hx,bl⟩:=aJN.1 hh;have b3:H.j≠m.j:=(aI4.1 hW.nd).2.2 H hx m (by simp);exact hX.dst H (bf H (aJp _ hx)) m (bf m hm) b3 d bl c6
  have br:∀(s1:S)(O1:aa)(V1:ai)(a1:Act)(W1:World)(L1:cV),bF s O V s1 O1 V1->cJ s.aq L L1->av p.S0 p.w0 D cf.ty V1 O1 (s1.bM (qd af)) a1 W1->(nP cf (jy cf (λf c s k=>eS cf nn f c s yh k) yh) B kS (IX B m qv) ds k e (xs++ys).length (xs++ys) s1).aQ p O1 L1->wpAnyIn X N p.P .any ops Q a3 (listed.setIfInBounds m.j J) a1 W1:=
   λs1 O1 V1 a1 W1 L1 cp c7 R1 c8=>b8 _ af (xs++ys) (IX B m qv) s1 O1 V1 a1 W1 L1 (by simp at bx⊢;omega) c5 (λq hq=>aJj.2 ⟨bb q hq,by have:=b1 q (aJp _ hq);simpa using this⟩) (λq hq=>bg q (aJj.1 hq).1) (λH hx=>hr H (by simp only[aIM,aIK] at hx⊢;exact hx.imp id .inr)) (hl.trans cp) (hL.trans c7 hl.aq) R1 (hg.ext cp.ext) c8
  have cs:=(Tv (cf:=cf) (s:=s) (O:=O) al).ev cf.gl;unfold Do at h;split at h;rename_i u hu;have c9:=ayq (Gl cs) a9 hu;simp only[T.aQ] at h;obtain⟨ay,hr,h⟩:=h;obtain⟨b4,tv,dc,a0,b5⟩:=axa ok.zu R hg c9 hr;refine⟨λf _=>hF.fn f, ?_⟩;rw[Oper.semAt_eq _ _ _ a0,dc,Oper.uponIn_enter];refine⟨λhd=>by rw[hF.xW] at hd;simp at hd,CallsIn.mono (hF.calls b5) (λG z he=> ?_)⟩;obtain⟨rfl,R',A⟩:=he;exact br u.s _ V _ z L ⟨A.ext,A.mono,A.len,A.aq⟩ (cJ.refl _ _) R' h;split at h;rename_i C b4 ct;have dd:dA cf (s.bM (qd af)) m.o=.call (.fn C) b4:=by rw[Gl cs];exact ct
  have df:M.pZ (s.bM (qd af)) O V L:=by
   have:=hB.go hl hL;exact⟨⟨this.later.ext,this.later.mono,this.later.len,this.later.aq⟩,this.SS⟩
  have hC:=To ok ih hY L (.fn C) b4 (s.bM (qd af)) _ _ O V a W (λG z=>match G with
    |.returned v=>wpAnyIn X N p.P .any ops Q a3 (listed.setIfInBounds m.j J) (a.put m.o.dst v) z
    |.panicked ch=>Q (.panic ch) a z
    |.outgrown=>LetsOut Q) df (ayt h) R hg
   (λv s' O' V' z L' A b6 R' hs=>by
    simp only[B6] at hs;split at hs;rename_i bt;refine br (({s' with tmps:=s.tmps}:S).put m.o.dst v) O' V' _ z L' (bF.put (s':={s' with tmps:=s.tmps}) (show bF s O V _ O' V' from⟨A.ext,A.mono,A.len,A.aq⟩) _ _) b6 ?_ hs;rw[B5 a9];have:({s' with tmps:=s.tmps}:S).bM (qd af)=s':=by
     simp only[S.bM] at bt⊢;rw[<-bt]
    rw[this];exact R'.put _ _;exact hs.elim)
   (λv s' O' V' z L' A b6 R' hs=>by
    simp only[B6] at hs;split at hs;rename_i bt;refine cx v (({s' with tmps:=s.tmps}:S).bM ds) O' V' a z L' (hl.trans ⟨A.ext,A.mono,A.len,A.aq⟩) (hL.trans b6 hl.aq) ?_ hs;have:({s' with tmps:=s.tmps}:S).bM ds=s'.bM ds:=by
     have h6:=ayi (s:=s) (ds:=ds) (es:=qd af) (λH hx=>by
      obtain⟨y,hy,dk⟩:=aJN.1 hx;exact cv y (bf y (aJp _ hy)) H dk)
     have h7:=congrArg S.tmps h6;simp only[S.bM] at h7 bt⊢;rw[bt,h7]
    rw[this];exact R'.bM ds;exact hs.elim)
   (λch z pd y hA hR=>HP ch a z pd y hA hR)
  obtain⟨dn,b5⟩:=hC;refine⟨λf _=>hF.fn f, ?_⟩;have a0:∀c,m.o.op≠ .defer c:=λc dr=>by simp[dA,dr] at ct
  rw[Oper.semAt_eq _ _ _ a0,SX R hg dd dn,Oper.uponIn_enter];refine⟨λhd=>by rw[hF.xW] at hd;simp at hd,CallsIn.mono (hF.calls b5) (λG z he=> ?_)⟩;cases G<;>exact he;split at h;rename_i b hb;split at hb;rename_i dx;simp only[T.aQ] at h;have dy:=ayr (cf:=cf) (ops:=ops) dx al a9 hb;obtain⟨v',z,rv,a4,dz,R',A⟩:=aaB R ok.kV hg dy h.1;exact BP hF a4 (aaT hb) (br b.s _ V _ z L ⟨A.ext,A.mono,A.len,A.aq⟩ (cJ.refl _ _) R' (h.2 rv (by rw[ok.pt];exact dz)));cases hb;split at h;rename_i dT;split at h;rename_i b v hv;simp only[T.aQ] at h;have an:=alE (O:=O) dT ca (alF (ops:=ops) (ds:=qd af) al hv) h.1;obtain⟨v',z,V',a4,R',A⟩:=Nx R ok.kV hg m an;rw[<-B5 a9] at R' A;exact BP hF a4 (NF an) (br (s.put m.o.dst v) O V' _ z L ⟨A.ext,A.mono,A.len,A.aq⟩ (cJ.refl _ _) R' h.2);exact h.elim;split at h;rename_i d0;split at h;rename_i s' d1;have d2:=ayk (ops:=ops) d0 al a9 d1;have an:(fw cf m (s.bM (qd af))).gives O (s'.bM (qd af)):=by rw[d2];rfl
  obtain⟨v',z,V',a4,R',A⟩:=Nx R ok.kV hg m an;exact BP hF a4 (NF an) (br s' O V' _ z L ⟨A.ext,A.mono,A.len,A.aq⟩ (cJ.refl _ _) R' h);exact h.elim;exact h.elim;exact h.elim
def alP:∀{P:bY}{s:S}{x:S×List BE},Dn cf P s=U x->x.1={s with tmps:=x.1.tmps}/\Y x.1.tmps=Y s.tmps/\(∀t,t∉qd P->x.1.tmps[t]?=s.tmps[t]?)/\∀b∈x.2,b.bd s.ni s.nb (Y s.rs)=J
 |[],s,x,h=>by simp only[Dn,aID] at h;subst h;exact⟨rfl,rfl,λ_ _=>rfl,λ_ R=>(by cases R)⟩
 |q::r,s,x,h=>by
  simp only[Dn] at h;split at h;rename_i b v X;cases Q:Dn cf r (s.put q.o.dst v) with
  |none=>rw[Q] at h;cases h
  |some y=>
   rw[Q] at h;simp only[aII,aID] at h;subst h;obtain⟨L,H,G,O⟩:=alP Q;refine⟨?_, ?_,λt N=> ?_,λx W=> ?_⟩;show y.1=_;rw[L];cases q.o.dst<;>rfl;show Y y.1.tmps=_;rw[H];cases q.o.dst<;>simp[S.put,um];have F:t∉qd r:=λM=>N (by
    simp only[qd,aKU];cases q.o.dst with
    |none=>exact M
    |some d=>exact aJF _ M)
   show y.1.tmps[t]?=_;rw[G t F,kE (λe=>N (by simp[qd,e]))];have V:(s.put q.o.dst v).ni=s.ni/\(s.put q.o.dst v).nb=s.nb/\(s.put q.o.dst v).rs=s.rs:=by cases q.o.dst<;>exact⟨rfl,rfl,rfl⟩
   have R:b.bd s.ni s.nb (Y s.rs)=true:=by
    unfold zH at X;split at X;cases X;split at X;cases X;exact BE.aS.1 _;split at X;rename_i D;cases X;exact D;cases X;cases X
   simp only at W;split at W;have:=O x W;rwa [V.1,V.2.1,V.2.2] at this;rcases aIK.1 W with rfl|W;exact R;have:=O x W;rwa [V.1,V.2.1,V.2.2] at this
  cases h
def alQ{X:Fence}(hF:pj X)(ok:kD p cf){nn:Nat}(ih:yb p cf nn){D:bQ}{M:kC}{yh:YH}(hY:DD p cf D.dB M yh){Q:Exit->Act->World->Prop}(HP:∀z a' r pd y,dG p.w0 D pd y a'.defers r->p.R (.panicked z) r->Q (.panic z) a' r)
  {id:Nat}{so:Bool}{c:M8}{a:Act}{H:XE->S->T}(hB:M.pZ x F B g)(w:IZ cf so ops x=U c)
  (h:(Nd cf (jy cf (λf c x H=>eS cf nn f c x yh H) yh) ops H c).aQ p F g)(R:av p.S0 p.w0 D cf.ty B F x a k)(hg:ek cf.gl F)
  (hk:∀s' O' V' a' r L',bF x F B s' O' V'->cJ x.aq g L'->av p.S0 p.w0 D cf.ty V' O' s' a' r->(H .normal s').aQ p O' L'->Q .normal a' r)
  (br:∀v s' O' V' a' r L',bF x F B s' O' V'->cJ x.aq g L'->av p.S0 p.w0 D cf.ty V' O' s' a' r->(H (.bn v) s').aQ p O' L'->Q (.panic [{v:=v.den O' V',recovered:=E}]) a' r):
  (Code.region id ops J).wpIn X N p.P Q a k:=by
 unfold IZ at w;split at w;rename_i ag;obtain⟨al,an⟩:∃al,al=f9 (λ_=>E) E J 0 (Y x.boxes) ops.toList:=⟨_,rfl⟩;obtain⟨A,a4⟩:∃A,A=Bv so ops (Y x.boxes):=⟨_,rfl⟩;obtain⟨z,a9⟩:∃z,z=Bw so ops (Y x.boxes):=⟨_,rfl⟩;have bs:A=al.filter λm=>(Sb so ops).contains m.j:=by rw[a4,an];rfl
 have bt:z=al.filter λm=> !(Sb so ops).contains m.j:=by rw[a9,an];rfl
 have ag:=(aIy _ _▸ag).2;unfold IY at ag;rw[<-a4,<-a9,<-an] at ag;rw[<-a4,<-a9] at w;cases hq:Dn cf A (x.room (lx ops.toList)) with
 |none=>rw[hq] at w;cases w
 |some x1=>
  obtain⟨s1,kS⟩:=x1;rw[hq] at w;simp only[aKQ,ZW] at w;split at w;cases w;cases w;obtain⟨bd,h⟩:=alK h;simp only at h bd;have h:(nP cf (jy cf (λf c x H=>eS cf nn f c x yh H) yh) (nO ops.toList) kS A (Dk ops.toList) (H .normal) (λv=>H (.bn v)) (Y z) z s1).aQ p F g:=by
   split at h;exact h;exact ayy _ _ _ _ _ _ h
  simp only[ZV,aIy,beq_iff_eq] at ag;obtain⟨⟨⟨⟨⟨⟨⟨⟨c1,c2⟩,c4⟩,c5⟩,c6⟩,c7⟩,c8⟩,c9⟩,b4⟩:=ag;have af:∀m∈A++z,m∈al:=λm C=>by
   rcases aIM.1 C with h1|h1;rw[bs] at h1;exact(aJj.1 h1).1;rw[bt] at h1;exact(aJj.1 h1).1
  have bf:∀m∈al,ops[m.j]?=U m.o:=λm C=>by
   obtain⟨i,l⟩:=aLd.1 C;rw[an] at l;have h1:=NV _ _ _ _ _ _ _ _ l;have h2:=abt _ _ _ _ _ _ _ _ l;rw[h2,aI8];simpa using h1
  have bg:=Tm c4;have hX:alN cf ops (nO ops.toList) A z:=by
   refine⟨alA c1,λm C G hx d hd u=> ?_,λG hx y hy bx d bk bl=> ?_,λm C=> ?_,λq hq=> ?_⟩;have:=aIN.1 (aIN.1 c5 m (af m C)) G (af G hx);rw[hd] at this;simp only[aIZ,aIR] at this;rcases this with h5|h5;rw[aI9.2 u] at h5;cases h5;exact h5;obtain⟨i,l⟩:=aLd.1 (af G hx);obtain⟨j,hj⟩:=aLd.1 (af y hy);have b0:i≠j:=λe=>by subst e;rw[l] at hj;cases hj;exact bx rfl
   have a0:=(aIz.1 l);have a1:=(aIz.1 hj);rcases aL8 b0 with bb|bb;exact(aJO.1 bg i j a0.1 a1.1 bb) d (by rw[a0.2];exact bk) (by rw[a1.2];exact bl);exact(aJO.1 bg j i a1.1 a0.1 bb) d (by rw[a1.2];exact bl) (by rw[a0.2];exact bk);have:=aIN.1 c2 m (af m C);simp only[aIy,aIR,aLz] at this;exact this;have:=aIN.1 c6 q hq;simp only[aIy] at this;exact this.1
  obtain⟨Rr,a3⟩:=R.room (lx ops.toList);have Rd:=Rr.drew;obtain⟨e1,e2,e3,e4⟩:=alP hq;simp only at e1 e2 e3 e4;have Rb:av p.S0 p.w0 D cf.ty (B++aIL (lx ops.toList) 0) F (s1.bM (qd A)) a {k with drawn:=k.drawn+1}:=by
   have hh:s1.bM (qd A)={x.room (lx ops.toList) with tmps:=rg (qd A) 0 s1.tmps}:=by
    rw[e1];rfl
   rw[hh];refine⟨Rd.mem,Rd.fH,Rd.ei,Rd.eb,Rd.er,Rd.cM,by simp only[JK,e2];exact Rd.size,λt sv u=> ?_,Rd.fl⟩;simp only at u;rw[uA,aI8] at u;cases hx:s1.tmps[t]? with
   |none=>rw[hx] at u;cases u
   |some G=>
    rw[hx] at u;simp only[aII,aID] at u;split at u;exact .inl u.symm;rename_i b1;subst u;exact Rd.tmps t G (by rw[<-e3 t (λC=>b1 (aI9.2 C))];exact hx)
  have b2:bF x F B s1 F (B++aIL (lx ops.toList) 0):=by
   rw[e1];exact⟨a3.ext,a3.mono,a3.len,a3.aq⟩
  refine wpIn_region_any ok.mix ?_;refine ayz (ds:=Dk ops.toList) hF ok ih hY HP hX (λG hx d hd=> ?_) hB (λb hb=>⟨by have:=e4 b hb;rw[R.ei,R.eb,R.er];exact this,bd b hb⟩) hk br ops.size _ A z A s1 F _ a _ g c8 ?_ (λ_ h=>h) (λ_ h=>h) (λ_ h=>h) b2 (cJ.refl _ _) Rb hg h;have h2:ops.toList[G.j]?=U G.o:=by have:=bf G (af G hx);simpa using this
  exact aJN.2 ⟨G.o,aIW h2,hd⟩;refine⟨λm C=>bf m (af m C),λi l=> ?_,by simp,λj o ho hj=> ?_, ?_⟩;constructor;intro _;have:=aIN.1 c7 i (by simpa using l);obtain⟨m,C,hj⟩:=aI7.1 this;exact⟨m,C,by simpa using hj⟩;intro _;simp[l];exfalso;have b3:j<ops.size:=(aIX.1 ho).1;simp[b3] at hj;have:=abw c9;rw[aLx] at this;exact this
 cases w
end
section
variable{p:Sp}{j:bz}
def kC.here(s:S)(O:aa)(V:ai)(L:cV):(kC.mk s O V L).pZ s O V L:=⟨bF.refl _ _ _,cJ.refl _ _⟩
def ayA(W:Array Nat)(V:fe)(A:kN):(W.zip V.toArray).foldl (λ(X:kN)(x:Nat×Value)=>match x with|(t,a)=>X.setIfInBounds t a) A=(W.toList.zip V).foldl (λ(X:kN)(x:Nat×Value)=>X.setIfInBounds x.1 x.2) A:=by
 rw[<-aL7];simp[Array.toList_zip]
def ayB(ok:kD p j)(ih:yb p j N){a4:Func}(a9:p.P.funcs[y]?=U a4){ps:Array Tmp}{assign body:Code}{s:S}{L:cV}{O:aa}{V:ai}{a:Act}{sE:S}{l:Nat}{rec:Loop}{OB:List (Nat×Loop)}
  (hE:sE.boxes=s.boxes)(b0:SV.da (Y O.i) (Y O.b) (Y O.r) (aL s.boxes) s.tmps=J)(b1:a.tmps.size=Y s.tmps)(b2:∀(t:Nat)(B:SV),s.tmps[t]?=U B->B=.any\/a.tmps[t]?=U (B.den O V))
  (b3:i7 assign=E)(b4:i7 body=E){n0:Nat}(u:rec={state:=.ready,pending:=Z,fn:=y,tmps:=a.tmps,params:=ps,assign,body,defers:=rec.defers})(q:OB[n0]?=U (l,rec)):
  DD p j OB ⟨sE,O,V,L⟩ (Na n0 ps.size λH Q k1 bf=>
   eS j N y assign (Bz Q s ps.toList H) iF (M9 n0 λk=>eS j N y body (k.F3 n0 .busy) iF (Sd n0 Q k1 bf))):=by
 intro D hD L1 m H Q k1 bf G A a1 W1 R' hB h R hg hk b5 hp F hF mm;unfold Na at h;split at h;rename_i hc;simp only[aIy,beq_iff_eq,decide_eq_true_eq] at hc;obtain⟨⟨⟨⟨c1,c2⟩,c3⟩,c4⟩,c5⟩:=hc;subst c1;simp only[S.dZ,aIy] at c5;rw[<-hD] at q;have bg:pS rec .ready=rec:=by rw[u];rfl
 obtain⟨y1,y2,y3⟩:=R.cM.dB m l rec .ready q c3;rw[bg] at y2;have b6:G.y.getD m 0=l:=by simp[aIC,y1]
 rw[b6];have bk:rec.params=ps:=by rw[u]
 have b7:=run_yield (P:=p.P) (args:=(SV.aA G A H).toArray) y2 (by rw[bk];simpa using c4);refine⟨_,_,_,_,b7, ?_⟩;have e1:rec.fn=y:=by rw[u]
 have e2:rec.assign=assign:=by rw[u]
 have e3:rec.body=body:=by rw[u]
 have e4:rec.tmps=a.tmps:=by rw[u]
 rw[e1,e2,e3,e4,bk];refine ax1 hF a9 ?_;obtain⟨ms,m1,m0,m2,m3⟩:=R.cM.l9;have hA:=R.cM.enter m2 m3 J;have b8:∀(t:Nat)(B:SV),s.tmps[t]?=U B->B=.any\/a.tmps[t]?=U (B.den G A):=by
  intro t B ht;rcases b2 t B ht with h1|h1;exact .inl h1;right;have hX:=hB.later.ext;simp only[hE] at hX;rw[hX.den (ux b0 ht)];exact h1
 obtain⟨q1,q2⟩:=als (O:=G) (V:=A) ps.toList H s.tmps a.tmps b1 b8;rw[<-ayA] at q1 q2;have RS:av p.S0 p.w0 ⟨ms++D.out,D.dB,J,[]⟩ j.ty A G (Bz Q s ps.toList H) {tmps:=(ps.zip (SV.aA G A H).toArray).foldl (λ(ca:kN)(x:Nat×Value)=>match x with|(t,a)=>ca.setIfInBounds t a) a.tmps,defers:=[]} W1:=
  ⟨R.mem,R.fH,R.ei,R.eb,R.er,hA,q1,q2,R.fl⟩
 have al:∀(o:Act) z w X,dG p.w0 ⟨ms++D.out,D.dB,J,[]⟩ w X o.defers z->o.defers=[]/\dG p.w0 D w X a1.defers z:=by
  intro o z w X g;obtain⟨cc,f,p0,p2,p3⟩:=g.l9;have:cc=[]:=p0 rfl;subst this;have bl:o.defers=[]:=by simpa using f
  rw[bl] at g;refine⟨bl, ?_⟩;rw[m1];exact g.JI m0
 refine ih ⟨ms++D.out,D.dB,J,[]⟩ ⟨Bz Q s ps.toList H,G,A,L1⟩ iF (U l) y assign (Bz Q s ps.toList H) _ L1 G A _ W1 _ (Gp _ _) (kC.here _ _ _ _) rfl (λ_=>b3) ⟨a4,a9⟩ h RS hg ?_ ?_;intro ch o z w X g hR;obtain⟨f,p2⟩:=al o z w X g;exact .inr ⟨ch,rfl,f,hp ch z w X p2 hR⟩;intro e k O2 V2 a2 W2 L2 bb cl R2 d;cases e with
 |normal=>
  simp only[M9] at d;split at d;rename_i br;simp only[decide_eq_true_eq] at br;left;obtain⟨z1,z2,z3⟩:=R2.cM.dB m l rec .ready q br;rw[bg] at z2;have cp:({rec with state:=.busy}:Loop)=pS rec .busy:=by rw[u];rfl
  have bs:=run_beginRound (P:=p.P) z2 (by rw[u]);rw[cp] at bs;refine⟨rfl,_,bs, ?_⟩;have R3:av p.S0 p.w0 ⟨ms++D.out,D.dB,J,[]⟩ j.ty V2 O2 (k.F3 m .busy) a2 (W2.putObj l (.loop (pS rec .busy))):=
   R2.obj z2 rfl z3 _ rfl (R2.cM.abr q .busy)
  refine ih ⟨ms++D.out,D.dB,J,[]⟩ ⟨k.F3 m .busy,O2,V2,L2⟩ iF (U l) y body (k.F3 m .busy) _ L2 O2 V2 a2 _ _ (Gp _ _) (kC.here _ _ _ _) rfl (λ_=>b4) ⟨a4,a9⟩ d R3 (hg.ext bb.ext) ?_ ?_;intro ch o z w X g hR;obtain⟨f,p2⟩:=al o z w X g;exact⟨f,hp ch z w X p2 hR⟩
  ·intro e M O3 V3 a3 W4 L3 an cs R4 a0;have ct:m<Y M.pd:=by
    rw[<-R4.cM.len];exact(aIz.1 q).1
   obtain⟨u1,u2,u3⟩:=R4.cM.dB m l rec M.pd[m] q (aIA ct);have W:bF (Bz Q s ps.toList H) G A M O3 V3:=bb.trans (s':=k) ⟨an.ext,an.mono,an.len,an.aq⟩;have bt:cJ Q.aq L1 L3:=cJ.trans (m:=k.aq) cl cs bb.aq;have bd:∀(C:Fy)(af:Option Code),(∀ag,({pS rec ag with state:=if af.isNone then .ready else .done,pending:=af}:Loop)=pS rec C)->
     (k1 (.bool (.c af.isNone)) {M with tmps:=Q.tmps,pd:=M.pd.set m C}).aQ p O3 L3->∃v w',(Instr.endRound l af).run p.P W4=.ok v w'/\R' (.returned v) w':=by
    intro C af cv cx;have bx:=run_endRound (P:=p.P) af u2;rw[cv] at bx;refine⟨_,_,bx, ?_⟩;have R5:=R4.obj u2 rfl u3 (.loop (pS rec C)) rfl (R4.cM.abr q C);have cy:dG p.w0 D (M.pd.set m C) O3.y a1.defers (W4.putObj l (.loop (pS rec C))):=(al a3 _ _ _ (R4.cM.abr q C)).2;have cA:bF (Bz Q s ps.toList H) G A {M with pd:=M.pd.set m C} O3 V3:=⟨W.ext,W.mono,W.len,W.aq⟩;have RB:=R.back c5.1 cA rfl R5 (D2:=D) (a2:=a1) rfl cy;have:=hk (.bool (.c af.isNone)) {M with tmps:=Q.tmps,pd:=M.pd.set m C} O3 V3 _ L3 ⟨W.ext,W.mono,W.len,W.aq⟩ bt RB cx;simpa[SV.den,BE.den] using this
   cases e with
   |normal=>exact bd .ready Z (λag=>by cases ag<;>rfl) a0
   |ret=>exact bd (.done .ret) (U .ret) (λag=>by cases ag<;>rfl) a0
   |exit id=>exact bd (.done (.exit id)) (U (.exit id)) (λag=>by cases ag<;>rfl) a0
   |bn v=>
    obtain⟨f,p2⟩:=al a3 _ _ _ R4.cM;have RB:=R.back c5.1 W rfl R4 (D2:=D) (a2:=a1) rfl p2;exact⟨f,b5 v {M with tmps:=Q.tmps} O3 V3 _ L3 ⟨W.ext,W.mono,W.len,W.aq⟩ bt RB a0⟩
  exact d.elim
 |ret=>exact d.elim
 |exit id=>exact d.elim
 |bn v=>exact d.elim
 exact h.elim
def ayC(ok:kD p j)(ih:yb p j N){D:bQ}{cl:Func}(cp:p.P.funcs[y]?=U cl){f:Operand}{ps:Array Tmp}{assign body:Code}{X:XE->S->T}{a:Act}{Q:Exit->Act->World->Prop}
  (bl:D.rd=E){M:FuncId}{c:Code}{nt:Nat}(br:x.ev j.gl f=.fn M z)(bs:j.inl M=U (c,nt,[]))
  (a4:x.dZ z=J)(a9:x.vV (Y x.pd)=E)(cs:SV.pf (Y x.pd) z=E)(ct:i7 assign=E)(cv:i7 body=E)
  (h:(eS j N M c (I0 x nt z) (Na (Y x.pd) ps.size λcx s1 k1 cy=>eS j N y assign (Bz s1 x ps.toList cx) iF (M9 (Y x.pd) λs2=>eS j N y body (s2.F3 (Y x.pd) .busy) iF (Sd (Y x.pd) s1 k1 cy))) (F2 x X)).aQ p F g)
  (R:av p.S0 p.w0 D j.ty B F x a k)(hg:ek j.gl F)
  (HP:∀ch w q pd H,dG p.w0 D pd H w.defers q->p.R (.panicked ch) q->Q (.panic ch) w q)
  (hk:∀e G C o w q L',bF x F B G C o->cJ x.aq g L'->av p.S0 p.w0 D j.ty o C G w q->(X e G).aQ p C L'->Q (e.to C o) w q):
  jE Z y p.P (.rangeFunc f ps assign body) Q a k:=by
 obtain⟨ms,m1,m0,m2,m3⟩:=R.cM.l9;simp only[S.dZ,aIy] at a4;simp only[S.vV,aJh] at a9;obtain⟨rec,bb⟩:∃rec:Loop,rec={state:=.ready,pending:=Z,fn:=y,tmps:=a.tmps,params:=ps,assign,body,defers:=k.heap.size}:=⟨_,rfl⟩;obtain⟨W1,a0⟩:∃W1,(k.alloc (.deferred (U []))).alloc (.loop rec)=W1:=⟨_,rfl⟩;have cA:W1.heap[k.heap.size+1]?=U (.loop rec):=by
  rw[<-a0];have:=World.alloc_heap_new (k.alloc (.deferred (U []))) (.loop rec);rwa [World.size_alloc] at this
 have cB:W1.heap[k.heap.size]?=U (.deferred (U [])):=by
  rw[<-a0];exact(Below.heap_alloc _ _ _ (by simp)).trans (World.alloc_heap_new k _)
 have bt:Below k.heap.size k W1:=by
  rw[<-a0];exact⟨rfl,rfl,rfl,by simp;omega,λX hk=>(Below.heap_alloc _ _ _ (by simp;omega)).trans (Below.heap_alloc _ _ _ hk)⟩
 have R1:=R.below bt;have cC:pS rec .ready=rec:=by rw[bb];rfl
 have cD:p.w0.heap.size<=k.heap.size:=R.mem.base.size;have bx:∀(N l':Nat)(r':Loop),D.dB[N]?=U (l',r')->l'<k.heap.size:=by
  intro N l' r' hn;have bd:N<Y x.pd:=by rw[<-R.cM.len];exact(aIz.1 hn).1
  exact zK (R.cM.dB N l' r' x.pd[N] hn (aIA bd)).2.1
 have b0:dG p.w0 ⟨k.heap.size::(ms++D.out),D.dB++[(k.heap.size+1,rec)],E,[]⟩ (x.pd++[.ready]) (F.y++[k.heap.size+1]) [] W1:=
  R1.cM.push m2 (λd hd=>⟨(bt.block d (zK (m3 d hd).1)).trans (m3 d hd).1,(m3 d hd).2⟩) cB (λhm=>by have:=zK (m3 _ hm).1;omega) cD (by rw[cC];exact cA) (λN l' r' hn e=>by have:=bx N l' r' hn;omega) (by omega)
 have b1:Y F.y=Y x.pd:=R.cM.rm;have a1:∀m,m≠Y x.pd->(F.y++[k.heap.size+1]).getD m 0=F.y.getD m 0:=by
  intro m hm;simp only[aIC];by_cases bd:m<Y F.y;rw[aIB bd];rw[aIH (by omega),aIT (l:=F.y) (by omega),aIT (by simp;omega)]
 have b2:∀(t:Nat)(sv:SV),x.tmps[t]?=U sv->sv=.any\/a.tmps[t]?=U (sv.den (F.at (F.y++[k.heap.size+1])) B):=by
  intro t sv ht;rcases R.tmps t sv ht with u|u;exact .inl u;right;rw[SV.NT a1 B sv (alr a9.1 sv (aIW ht))];exact u
 have cI:av p.S0 p.w0 ⟨k.heap.size::(ms++D.out),D.dB++[(k.heap.size+1,rec)],E,[]⟩ j.ty B (F.at (F.y++[k.heap.size+1])) {x with pd:=x.pd++[.ready]} {a with defers:=[]} W1:=
  ⟨R1.mem.at a1 a9.2,R1.fH,R1.ei,R1.eb,R1.er,b0,R1.size,b2,λX e rv b u h2 h3=>let t:=R1.fl X e rv b u h2 h3;⟨t.own,t.mem,t.box,t.alone,t.inner⟩⟩
 have RE:=cI.enter (.yl (Y x.pd)::z) nt b0;have cO:SV.aA (F.at (F.y++[k.heap.size+1])) B (.yl (Y x.pd)::z)=.func (.yield (k.heap.size+1)) #[] #[]::SV.aA F B z:=by
  simp only[SV.aA,SV.den];rw[SV.JJ a1 B z cs];congr 3;simp only[aa.at];rw[<-b1];simp
 have cW:a.eval f=.func (.func M) #[] (SV.aA F B z).toArray:=by
  have:=cu R hg f (by rw[br];rfl);rw[br,SV.den] at this;exact this
 have eg:=ok.BS M (.inr (by rw[bs];rfl));obtain⟨an,hf,c0,c1,c2⟩:=ok.inl M c nt [] bs;refine axZ ⟨k.heap.size+1,[kB k.heap.size],W1,{target:=.fn (.func M) (SV.aA F B z).toArray,args:= #[.func (.yield (k.heap.size+1)) #[] #[]]},W1,M,
  #[.func (.yield (k.heap.size+1)) #[] #[]]++(SV.aA F B z).toArray,W1, ?_, ?_, ?_, ?_⟩
 rw[<-a0,bb];exact run_enterLoop_outer _ _ _ _ _
 ·simp only[resolve,cW];simp[go_sem]
 ·simp[invoke,go_sem,eg]
 have c3:(#[.func (.yield (k.heap.size+1)) #[] #[]]++(SV.aA F B z).toArray:kN)=(SV.aA (F.at (F.y++[k.heap.size+1])) B (.yl (Y x.pd)::z)).toArray:=by
  rw[cO];simp
 rw[c3];refine NR hf c0 ?_;rw[c1];have b3:([kB k.heap.size]++a.defers:zI)=(k.heap.size::ms).map kB++D.base:=by rw[m1];rfl
 have b4:(D.dB++[(k.heap.size+1,rec)])[Y x.pd]?=U (k.heap.size+1,rec):=by rw[<-R.cM.len];simp
 refine ih ⟨k.heap.size::(ms++D.out),D.dB++[(k.heap.size+1,rec)],E,[]⟩ ⟨I0 x nt z,F.at (F.y++[k.heap.size+1]),B,g⟩ _ Z M c (I0 x nt z) (F2 x X) g _ B _ W1 _
  (ayB ok ih cp (a:=a) (s:=x) (sE:=I0 x nt z) (L:=g) (ps:=ps) (O:=F.at (F.y++[k.heap.size+1])) (V:=B) rfl (R.xQ a4.1).1 R.size b2 ct cv (by rw[bb]) b4) (kC.here _ _ _ _) rfl (λhh=>by cases hh) ⟨an,hf⟩ (rB p _ F g _ h) RE hg ?_ ?_
 intro ch w q pd H hA hR;obtain⟨c4,q1,q0,q2,q3⟩:=hA.l9;rw[q1] at hA;have al:=(hA.p8).pop bl;show LeavesInM Fence.wide 0 p.P an w.tmps _ w.defers (.panicking ch) q;rw[q1];refine ta (by simp) (aJz.1 q2).1 (λd hd=>(q3 d (by simp[hd])).1) ?_;exact HP ch _ _ _ _ (by rw[<-b3] at al;exact al) (NU (ok.Ta ch) (λd hd=>(q3 d (by simp[hd])).2) hR);intro e G C o w q L' hl hL RR A;obtain⟨c4,q1,q0,q2,q3⟩:=RR.cM.l9;have R2:=RR.p8 q1;have al:=R2.cM.pop bl;have b5:C.y=F.y++[k.heap.size+1]:=hl.ext.agree.y;have c5:C.y.take (Y D.dB)=F.y:=by rw[b5,R.cM.len,<-b1];simp
 rw[c5,<-b3,R.cM.len] at al;have b6:∀m,m≠Y x.pd->F.y.getD m 0=C.y.getD m 0:=λm hm=>by rw[b5];exact(a1 m hm).symm
 have bf:bF x F B (x.By G) (C.at F.y) o:=⟨⟨⟨hl.ext.agree.i,hl.ext.agree.b,hl.ext.agree.r,rfl⟩,hl.ext.li,hl.ext.lb,hl.ext.lr,hl.ext.ad⟩,hl.mono,hl.len,hl.aq⟩;have b7:∀(W3:World),jB p.S0 p.w0 o C G.boxes j.ty G.rs W3->(∀(X:Nat)(e:TypeId)(rv:RV)(b:Nat),G.rs[X]?=U (.own e)->C.r[X]?=U rv->rv.jR=U b->xO p.S0 p.w0 o C G.boxes j.ty G.rs W3 X e rv b)->vW (Y x.pd) G.boxes=E->
   dG p.w0 D (G.pd.take (Y x.pd)) F.y ([kB k.heap.size]++a.defers) W3->av p.S0 p.w0 D j.ty o (C.at F.y) (x.By G) {a with defers:=[kB k.heap.size]++a.defers} W3:=by
  intro W3 hm ht hb c6;refine⟨hm.at b6 hb,R2.fH,R2.ei,R2.eb,R2.er,c6,R.size,λt sv h=> ?_,λX e rv b u h2 h3=>let t:=ht X e rv b u h2 h3;⟨t.own,t.mem,t.box,t.alone,t.inner⟩⟩;rcases R.tmps t sv h with u|u;exact .inl u;right;rw[bf.ext.den (ux (R.xQ a4.1).1 h)];exact u
 have b8:Y x.pd<Y G.pd:=by
  have:=R2.cM.len;simp only[aIO,aJm,aKF] at this;rw[R.cM.len] at this;omega
 obtain⟨u1,u2,u3⟩:=R2.cM.dB (Y x.pd) (k.heap.size+1) rec G.pd[Y x.pd] b4 (aIA b8);have bg:∀(st:Fy)(e:XE)(a3:Option Code),G.pd[Y x.pd]?=U st->(pS rec st).state≠ .busy->(pS rec st).pending=a3->vW (Y x.pd) G.boxes=E->(X e (x.By G)).aQ p C L'->
   (∀W4,Q (e.to (C.at F.y) o) {a with defers:=[kB k.heap.size]++a.defers} W4->(match a3 with|none=>Q .normal {a with defers:=[kB k.heap.size]++a.defers} W4|U c=>jE Z y p.P c Q {a with defers:=[kB k.heap.size]++a.defers} W4))->
   LeavesInM Fence.wide 0 p.P an w.tmps (abo Z y p.P (k.heap.size+1) Q {a with defers:=[kB k.heap.size]++a.defers}) w.defers .returning q:=by
  intro st e a3 af c7 hj ag c8 hq;rw[q1];refine ta (by simp) (aJz.1 q2).1 (λd hd=>(q3 d (by simp[hd])).1) ⟨_,NG R2 ok.kV (l:=[]) (by rw[c2];rfl), ?_⟩;have c9:G.pd[Y x.pd]=st:=by
   rw[aIA b8] at af;simpa using af
  rw[c9] at u2;have ca:=run_endLoop (P:=p.P) u2 c7;rw[hj] at ca;refine⟨a3,_,ca,hq _ ?_⟩;have dc:∀(N l':Nat)(r':Loop),D.dB[N]?=U (l',r')->l'≠k.heap.size+1:=λN l' r' hn e=>by have:=bx N l' r' hn;omega
  refine hk e (x.By G) (C.at F.y) o _ _ L' bf hL (b7 _ (R2.mem.obj u2 rfl u3 _) (λX e rv b u h2 h3=>(R2.fl X e rv b u h2 h3).obj u2 rfl _) ag (al.put u2 dc _)) (rB p _ C L' _ c8)
 have cc:(F2 x X .ret G).aQ p C L'->LeavesInM Fence.wide 0 p.P an w.tmps (abo Z y p.P (k.heap.size+1) Q {a with defers:=[kB k.heap.size]++a.defers}) w.defers .returning q:=by
  intro A;simp only[F2] at A;split at A;exact A.elim;rename_i ag;have bk:vW (Y x.pd) G.boxes=false:=by simpa using ag
  split at A;rename_i af;exact bg .ready .normal Z af (by simp[pS]) rfl bk A (λ_ h=>h)
  ·rename_i af;exact bg (.done .ret) .ret (U .ret) af (by simp[pS]) rfl bk A (λ_ h=>B4 (n:=0) (wpIn_ret h))
  ·rename_i id af;exact bg (.done (.exit id)) (.exit id) (U (.exit id)) af (by simp[pS]) rfl bk A (λ_ h=>B4 (n:=0) (wpIn_exit h))
  exact A.elim
 cases e with
 |normal=>exact cc A
 |ret=>exact cc A
 |exit id=>exact A.elim
 |bn v=>
  simp only[F2] at A;split at A;exact A.elim;rename_i ag;simp only[aIZ,not_or,aK9] at ag;show LeavesInM Fence.wide 0 p.P an w.tmps _ w.defers (.panicking _) q;rw[q1];refine ta (by simp) (aJz.1 q2).1 (λd hd=>(q3 d (by simp[hd])).1) ?_;have:=hk (.bn v) (x.By G) (C.at F.y) o _ _ L' bf hL (b7 _ R2.mem R2.fl ag.2 al) (rB p _ C L' _ A);simp only[XE.to] at this;rw[SV.NT b6 o v ag.1] at this;exact this
end
section
variable{d:bz}{p:Sp}{L:cV}{V:ai}{W:World}
def Up(O X:aa):Prop:=∃l,X={O with r:=O.r++l}
def Up.refl(O:aa):Up O O:=⟨[],by simp⟩
def Up.trans{X R:aa}(h:Up F X)(k:Up X R):Up F R:=by
 obtain⟨l,rfl⟩:=h;obtain⟨m,rfl⟩:=k;exact⟨l++m,by simp⟩
def Up.agree{X:aa}(h:Up F X):gT F X (Y F.i) (Y F.b) (Y F.r):=by
 obtain⟨l,rfl⟩:=h;have:∀(l:aH)(F:aa),F.ext (l.map XV.r)={F with r:=F.r++l}:=by
  intro l;induction l with
  |nil=>intro F;simp[aa.ext]
  |cons x Q R=>intro F;simp only[aIP,aa.ext,R,aa.add];simp
 rw[<-this l F];exact Dp _ _
def sR(O:aa)(X:bc)(R:sK):S:=⟨[],[],Y O.i,Y O.b,X,0,0,R⟩
def N0(X:bc):Prop:=∀(k:Nat)(e:TypeId),X[k]?≠U (RK.own e)
def alR(p:Sp)(d:bz)(D:bQ)(a:Act)(W:World)(L:cV)(V:ai)(G:bw)(N:sK)(X:aa)(v:SV)(f:bc->(SV->bc->T)->T):Prop:=
 ∀(Q:bc)(O:aa)(k:SV->bc->T),av p.S0 p.w0 D d.ty [] O (sR O Q N) a W->Up X O->N0 Q->v.bd (Y X.i) (Y X.b) (Y X.r) (aL G)=J->(f Q k).aQ p O L->
  ∃M P R,av p.S0 p.w0 D d.ty [] R (sR R P N) a W/\Up O R/\N0 P/\(∀H,Up R H->M.den H []=v.den X V)/\(k M P).aQ p R L
def Tx{D:bQ}{a:Act}{B:bw}{M:sK}{Q:aa}{f:SV->bc->(SV->bc->T)->T}(A:∀v,alR p d D a W L V B M Q v (f v)):∀(l:ah)(X:bc)(O:aa)(k:ah->bc->T),av p.S0 p.w0 D d.ty [] O (sR O X M) a W->Up Q O->N0 X->SV.da (Y Q.i) (Y Q.b) (Y Q.r) (aL B) l=J->(I2 f l X k).aQ p O L->
  ∃z H P,av p.S0 p.w0 D d.ty [] P (sR P H M) a W/\Up O P/\N0 H/\(∀N,Up P N->SV.aA N [] z=SV.aA Q V l)/\(k z H).aQ p P L
 |[],X,O,k,R,G,F,_,h=>⟨[],X,O,R,Up.refl O,F,λ_ _=>rfl,h⟩
 |x::t,X,O,k,R,G,F,C,h=>by
  rw[SV.gI.2,aIy] at C;simp only[I2] at h;obtain⟨s,q,o,n,y,m,j,g⟩:=A x X O _ R G F C.1 h;obtain⟨e,c,O2,R2,w,n2,d2,h2⟩:=Tx A t q o _ n (G.trans y) m C.2 g;exact⟨s::e,c,O2,R2,y.trans w,n2,λN u=>by simp only[SV.aA,j N (w.trans u),d2 N u],h2⟩
def abE(a3:p.ty=d.ty){D:bQ}{a:Act}{bx:bw}{pd:sK}{O0:aa}(ha:a.tmps= #[])(a4:∀i e G,ky bx i=U (e,G)->W.heap[ad V i]?=U (.cells (SV.aA O0 V G).toArray e (0,0))/\(p.w0.heap.size<=ad V i\/ad V i∈p.S0)/\SV.da (Y O0.i) (Y O0.b) (Y O0.r) (aL bx) G=J):
  ∀(n:Nat)(v:SV),alR p d D a W L V bx pd O0 v (I3 d bx n v)
 |0,v=>λy O k R x w N h=>h.elim
 |n+1,v=>by
  intro y O k R x w N h;cases v with
  |int q e=>
   refine⟨_,y,O,R,Up.refl O,w,λg M=> ?_,h⟩;rw[SV.aS.1] at N;simp only[SV.den,IE.dg (x.trans M).agree e N]
  |bool e=>
   refine⟨_,y,O,R,Up.refl O,w,λg M=> ?_,h⟩;rw[SV.aS.2.1] at N;simp only[SV.den,BE.dg (x.trans M).agree e N]
  |ref r=>
   refine⟨_,y,O,R,Up.refl O,w,λg M=> ?_,h⟩;rw[SV.aS.2.2.1] at N;simp only[SV.den,RE.dg (x.trans M).agree r N]
  |agg l=>
   rw[SV.aS.2.2.2.2.2.2.1] at N;simp only[I3] at h;obtain⟨l',bg,O',R',u',n',d',h'⟩:=Tx (abE a3 ha a4 n) l y O _ R x w N h;exact⟨.agg l',bg,O',R',u',n',λg M=>by simp only[SV.den,d' g M],h'⟩
  |gY i b1 f af=>
   simp only[I3] at h;split at h;rename_i e G bk;obtain⟨g1,g2,g3⟩:=a4 i e G bk;split at h;rename_i te bl;obtain⟨ag,Q,H,C,u1,n1,d1,h1⟩:=Tx (abE a3 ha a4 n) G y O _ R x w g3 h;split at h1;rename_i hc;simp only[aIy,beq_iff_eq,decide_eq_true_eq,bne_iff_ne,ne_eq] at hc;obtain⟨⟨⟨⟨c1,c2⟩,c3⟩,c4⟩,c5⟩:=hc;subst c3;have hw:bq d.ty (.sl e)=te.ae:=by simp[bq,bl]
   have a9:lX d.ty (sR H Q pd) (bq d.ty (.sl e)) (iN (Y te.ae) f ag)=true:=by
    rw[hw,<-c1];exact DB (s:=sR H Q pd) (s':=S.bL Q) rfl
   have bb:=aaw C a9;obtain⟨P,B⟩:∃P,P=(iN (Y te.ae) f ag).map λan=>an.map (SV.bN H):=⟨_,rfl⟩
   rw[<-B] at bb;have hN:Y P=f:=by rw[B];simp[SI]
   have br:SV.aA H [] ag=SV.aA O0 V G:=d1 H (Up.refl _);have hH:bu W d.ty (.sl e) (.mk (.slice (U ⟨ad V i,0,Z⟩) (Y P) af) P):=by
    refine aao bb ⟨_,_,_,g1⟩ (λq u hq=> ?_) (by rw[hN];exact c4);rw[B] at hq;have bd:=aax (V:=[]) (by rw[hw]) a9 (λi an o=>by rw[<-B] at o;rw[bb.len i an o,hw]) hq;rw[br] at bd;simp[World.cell?,g1,bd]
   have bs:F7 p.ty p.S0 p.w0 e (.lit (iN (Y te.ae) f ag)) Q H (.mk (.slice (U ⟨ad V i,0,Z⟩) (Y P) af) P):=by
    refine⟨⟨U ⟨ad V i,0,Z⟩,Y P,af,by rw[B];rfl,by rw[B];rfl⟩,λb hl=> ?_,λ_ _ _ _ h=>by cases h⟩;rw[a3] at hl⊢;generalize bf:RV.mk (.slice (U ⟨ad V i,0,Z⟩) (Y P) af) P=rv at hl;cases hl with
    |here e a0 b2 b3 bt=>
     injection bf with p1 p2;injection p1 with p3 p4 p5;cases p3;exact g2.imp id .inl
    |deep e v bt i j an c z k b m q2 q3 q4=>
     injection bf with p1 p2;subst p2;rw[B,aIE] at m;cases o:(iN (Y te.ae) f ag)[i]? with
     |none=>rw[o] at m;cases m
     |some b0=>
      rw[o] at m;simp only[aII,aID] at m;subst m;obtain⟨r,X,F,k3,k4⟩:=aar (Du a9 i b0 o) q2 q3 q4;exact .inr (.inr (Jm C k3 F k4).1)
   have hs:=h1 _ bs;refine⟨.ref (.v (Y Q)),Q++[.sl e],H.add (.r (.mk (.slice (U ⟨ad V i,0,Z⟩) (Y P) af) P)), ?_,u1.trans ⟨[_],rfl⟩, ?_, ?_,hs⟩;have a1:Y H.r=Y Q:=C.er;refine⟨⟨C.mem.base,λi A=>by simp[sR,aL,cw] at A,λi j A=>by simp[sR,aL,cw] at A,λi t G A=>by simp[sR,cw] at A,λk e' rv X F=> ?_⟩,rfl,rfl,rfl,by simp[sR,aa.add,a1],C.cM,by rw[ha];rfl,λt sv ht=>by simp[sR] at ht,λk e' rv b X=> ?_⟩;refine⟨?_,λb N i A=>by simp[sR,aL,cw] at A⟩;simp only[sR,aa.add] at X F;by_cases hk:k<Y Q;rw[aIB hk] at X;rw[aIB (by omega)] at F;exact(C.mem.ref k e' rv X F).1;have al:k=Y Q:=by
    have:=(aIz.1 X).1;simp at this;omega
   subst al;simp at X;rw[<-a1] at F;simp at F;subst X F;exact hH;exfalso;simp only[sR] at X;by_cases hk:k<Y Q;rw[aIB hk] at X;exact n1 _ _ X;have:=(aIz.1 X).1;have al:k=Y Q:=by simp at this;omega
   subst al;simp at X;intro k e' X;by_cases hk:k<Y Q;rw[aIB hk] at X;exact n1 _ _ X;have:=(aIz.1 X).1;have al:k=Y Q:=by simp at this;omega
   subst al;simp at X;intro g M;obtain⟨l,rfl⟩:=M;have a1:Y H.r=Y Q:=C.er;simp only[SV.den,RE.den,RE.rv,aa.rv,aa.add,aIC,aJ5];rw[<-a1,aIH (aIG _)];simp[hN];exact h1.elim;exact h.elim;exact h.elim
  |loc _ _=>exact h.elim
  |el _ _ _ _=>exact h.elim
  |bH _=>exact h.elim
  |fn _ _=>exact h.elim
  |fh _ _=>exact h.elim
  |yl _=>exact h.elim
  |any=>exact h.elim
  |mp _=>exact h.elim
  |eR _ _ _=>exact h.elim
end
section
variable{cf:bz}
section
variable{o:ai}{q:World}{D:bQ}{V:ai}{O:aa}{s:S}{a:Act}{W:World}
def abF{k:Int}:∀{R:bi}{Q:ah}{v:SV},F4 k R Q=U v->v.gr O V=.mk (jA k R (SV.aA O V Q)) []
 |[],_,v,h=>by simp[F4] at h
 |F::R,[],v,h=>by simp[F4] at h
 |F::R,u::Q,v,h=>by
  unfold F4 at h;split at h;rename_i P N;injection P with M L;injection N with H G;subst M L H G;simp only[SV.aA,jA];split at h;rename_i X;cases h;rw[if_pos X];rfl;rename_i X;rw[if_neg X];exact abF h;rename_i P N;injection P with M L;injection N with H G;subst M L H G;simp only[SV.aA,jA];split at h;rename_i X;cases h;rw[if_pos X];rfl;rename_i X;rw[if_neg X];exact abF h;cases h
def alS{x:Int}:∀{X:bi}{R:fe},¬x∈X->jA x X R=.nilFunc
 |[],_,_=>rfl
 |k::X,[],_=>rfl
 |k::X,v::R,h=>by
  simp only[aIK,not_or] at h;simp only[jA,if_neg h.1];exact alS h.2
def abG{e:IE}{k:Int}(X:e.den O=k):∀(n:Nat)(b:BE),(Nb e k n b).den O=b.den O
 |0,b=>rfl
 |n+1,b=>by
  unfold Nb;split;rfl;rename_i P N M x y R;cases R;split;rename_i Q;have:=IE.bI _ _ Q;subst this;simp only[BE.den,IE.den,gg,X,beq_iff_eq];split;exact abG X n x;exact abG X n y;rfl;rfl
def abH{e:IE}{k:Int}(X:e.den O=k):∀(n:Nat)(b:IE),(Nc e k n b).den O=b.den O
 |0,b=>rfl
 |n+1,b=>by
  unfold Nc;split;rfl;rename_i P N M x y R;cases R;split;rename_i Q;have:=IE.bI _ _ Q;subst this;simp only[BE.den,IE.den,gg,X,beq_iff_eq];split;exact abH X n x;exact abH X n y;rfl;rfl
def ayD{e:IE}{k:Int}(X:e.den O=k)(v:SV):(ZX e k v).gr O V=v.gr O V:=by
 cases v<;>simp only[ZX];simp only[SV.gr,SV.den,abH X];simp only[SV.gr,SV.den,abG X];rename_i P N M;split;rename_i R;have:=IE.bI _ _ R;subst this;split;rename_i v Q;rw[abF Q];simp only[SV.gr,SV.den,X];rfl;rfl
def ayE{e:IE}{R:bi}(Q:¬e.den O∈R)(v:SV):(Sf e R v).gr O V=v.gr O V:=by
 cases v<;>simp only[Sf];rename_i L P H;split;rename_i X;rw[aIy] at X;have:=IE.bI _ _ X.1;subst this;have N:¬e.den O∈P:=λM=>Q (by
  have:=aIN.1 X.2 _ M;exact aI9.1 this)
 simp only[SV.gr,SV.den,alS N];rfl;rfl
def abI{f:SV->SV}{l:bw}{i:Nat}{t:TypeId}{R:ah}:bU (F5 f l) i=U (t,R)<->∃jD,bU l i=U (t,jD)/\R=jD.map f:=by
 rw[i8];simp only[F5,aIE];constructor;intro h;cases X:l[i]? with
 |none=>rw[X] at h;cases h
 |some x=>
  rw[X] at h;cases x with
  |none=>cases h
  |some y=>
   simp only[aII,aID,aKj] at h;obtain⟨rfl,rfl⟩:=h;exact⟨y.2,i8.2 X,rfl⟩
 rintro⟨jD,h,rfl⟩;rw[i8] at h;rw[h];rfl
def alT{f:SV->SV}{l:bw}{i:Nat}:aL (F5 f l) i=aL l i:=by
 rw[aJv];simp only[aL,aIS];constructor;rintro⟨⟨t,X⟩,h⟩;obtain⟨jD,h,-⟩:=abI.1 h;exact⟨_,h⟩;rintro⟨⟨t,X⟩,h⟩;exact⟨_,abI.2 ⟨X,h,rfl⟩⟩
def av.fix(R:av o q D cf.ty V O s a W){f:SV->SV}(H:∀v,(f v).gr O V=v.gr O V):av o q D cf.ty V O (s.fix f) a W:=by
 have Q:∀j,aL (s.fix f).boxes j=aL s.boxes j:=λj=>alT
 refine⟨⟨R.mem.base,λj X=>R.mem.own j (by rw[<-Q];exact X),λj k X G=>R.mem.inj j k (by rw[<-Q];exact X) (by rw[<-Q];exact G),λj t y L=> ?_,λk e P N M=>⟨(R.mem.ref k e P N M).1,λb L j X=>(R.mem.ref k e P N M).2 b L j (by rw[<-Q];exact X)⟩⟩,by rw[R.fH];simp[S.fix,F5],R.ei,R.eb,R.er,R.cM,R.size,R.tmps,λk e P b F C q3=> ?_⟩;obtain⟨jD,h,rfl⟩:=abI.1 L;have:SV.cL O V (jD.map f)=SV.cL O V jD:=by
  simp only[SV.cL,aJo];exact aIY λv _=>H v
 rw[this];exact R.mem.box j t jD h;obtain⟨N,M,B,A,z⟩:=R.fl k e P b F C q3;exact⟨N,M,λj X=>B j (by rw[<-Q];exact X),A,z⟩
def alU(f:SV->SV):bF s O V (s.fix f) O V:=⟨mb.refl _ _ _,λi h=>by rw[show aL (s.fix f).boxes i=aL s.boxes i from alT];exact h,by simp[S.fix,F5],aIG _⟩
def av.ayF(R:av o q D cf.ty V O s a W){k:IntKind}{e:IE}{v:Int}(Q:s.tmps.getD N .any=.int k e)(M:e.den O=v):av o q D cf.ty V O {s with tmps:=s.tmps.set N (.int k (.c v))} a W:=by
 refine⟨R.mem,R.fH,R.ei,R.eb,R.er,R.cM,by simpa using R.size,λi L h=> ?_,R.fl⟩;simp only[aJs] at h;split at h;rename_i H;subst H;split at h;rename_i P;cases h;have G:s.tmps[N]?=U (.int k e):=by
  rw[aIC,aIA P] at Q;rw[aIA P];simpa using Q
 rcases R.tmps N _ G with X|X;cases X;right;rw[X];simp only[SV.den,IE.den,M];cases h;exact R.tmps i L h
def abJ{p:Sp}{L:cV}{e:IE}{gp:Int->S}{aI:T}{g:S->T}:∀{X:bi},(I1 e gp aI g X).aQ p O L->(∃k∈X,e.den O=k/\(g (gp k)).aQ p O L)\/(¬e.den O∈X/\aI.aQ p O L)
 |[],h=>.inr ⟨by simp,h⟩
 |k::X,h=>by
  simp only[I1,T.aQ] at h;by_cases R:e.den O=k;exact .inl ⟨k,by simp,R,h.1 (by simp[BE.den,IE.den,gg,R])⟩;rcases abJ (h.2 (by simp[BE.den,IE.den,gg,R])) with⟨N,Q,P⟩|⟨Q,P⟩;exact .inl ⟨N,by simp[Q],P⟩;exact .inr ⟨by simp[R,Q],P⟩
def ayG{p:Sp}(R:av o q D cf.ty V O s a W){id:Nat}{e:IE}{F:bi}{gp:Int->S}{aI:Option S}(Q:Sg cf N id s=U (e,F,gp,aI)){X:S->T}(h:(I1 e gp (ZY X aI) X F).aQ p O g):
  ∃M,bF s O V M O V/\M.aq=s.aq/\av o q D cf.ty V O M a W/\(X M).aQ p O g:=by
 unfold Sg at Q;split at Q;split at Q;cases Q;rcases abJ h with⟨k,H,P,G⟩|⟨H,P⟩;exact⟨_,alU _,rfl,R.fix (ayD P),G⟩;split at P;exact⟨_,alU _,rfl,R.fix (ayE H),P⟩;exact P.elim;cases Q;split at Q;cases Q;rename_i k B A C;cases Q;rw[vM] at C;rcases abJ h with⟨k,H,P,G⟩|⟨H,P⟩;refine⟨_, ?_, ?_,R.ayF C P,G⟩;exact⟨mb.refl _ _ _,λ_ h=>h,aIG _,aIG _⟩;rfl;exact P.elim;cases Q;cases Q
end
def Tz:∀(n:Nat)(p:Sp)(_:kD p cf),yb p cf n/\Tn p cf n
 |0,p,ok=>⟨λD B yh ro al c s k L O V a W Q _ _ _ _ _ h=>h.elim,λD B yh ro al c s k L O V a W Q _ _ _ _ _ _ h=>h.elim⟩
 |n+1,p,ok=>by
  have ca:=(Tz n p ok).2;have ih:=(Tz n p ok).1;have cc:∀p':Sp,p'.P=p.P->kD p' cf->yb p' cf n:=λp' _ cl=>(Tz n p' cl).1
  have b2:=ax8 ih ca;refine⟨?_,b2⟩;intro D B yh ro al c s k L O V a W Q hY hB a0 a9 a3 h R hg HP r;have bb:∀e F,cJ s.aq L F->(k e s).aQ p O F->Q (e.to O V) a W:=λe F A C=>r e s O V a W F (bF.refl _ _ _) A R C
  have h0:=h;unfold eS at h;split at h;exact B4 (n:=0) (wpIn_skip (bb .normal L (cJ.refl _ _) h));exact B4 (n:=0) (wpIn_label (bb .normal L (cJ.refl _ _) h));exact B4 (n:=0) (wpIn_ret (bb .ret L (cJ.refl _ _) h));rename_i id;exact B4 (n:=0) (wpIn_exit (bb (.exit id) L (cJ.refl _ _) h))
  
  rename_i x y;have bd:ro.isSome=J->i7 x=false:=λhr=>by have:=a9 hr;simp only[i7,aJh] at this;exact this.1
  have bf:ro.isSome=J->i7 y=false:=λhr=>by have:=a9 hr;simp only[i7,aJh] at this;exact this.2
  refine abn (ih D B yh ro al x s _ L O V a W _ hY hB a0 bd a3 h R hg (λch M H pd y hd hR=>HP ch M H pd y hd hR) ?_);intro e w d V' M H F G A u C;cases e with
  |normal=>exact ih D B yh ro al y w k F d V' M H Q hY (hB.go G A) a0 bf a3 C u (hg.ext G.ext) HP (λe2 s2 O2 V2 a2 W2 L2 ag a4 R2 af=>r e2 s2 O2 V2 a2 W2 L2 (G.trans ag) (A.trans a4 G.aq) R2 af)
  |ret=>exact r .ret w d V' M H F G A u C
  |exit id=>exact r (.exit id) w d V' M H F G A u C
  |bn v=>exact r (.bn v) w d V' M H F G A u C
  
  rename_i id x;refine axW (ih D B yh ro al x s _ L O V a W _ hY hB a0 (λhr=>by have:=a9 hr;simpa only[i7] using this) a3 h R hg (λch M H pd y hd hR=>HP ch M H pd y hd hR) ?_);intro e w d V' M H F G A u C;cases e with
  |normal=>exact r .normal w d V' M H F G A u C
  |ret=>exact r .ret w d V' M H F G A u C
  |exit j=>
   simp only[ZN] at C;split at C;rename_i hj;have bk:j=id:=by simpa using hj
   subst bk;simp only[XE.to,Exit.inBlock,if_true];exact r .normal w d V' M H F G A u C;rename_i hj;have bk:¬j=id:=by simpa using hj
   simp only[XE.to,Exit.inBlock,bk,if_false];exact r (.exit j) w d V' M H F G A u C
  |bn v=>exact r (.bn v) w d V' M H F G A u C
  
  rename_i x;refine axX (ih D B yh ro al x s _ L O V a W _ hY hB a0 (λhr=>by have:=a9 hr;simpa only[i7] using this) a3 h R hg (λch M H pd y hd hR=>⟨λl h=>by(cases h),HP ch M H pd y hd hR⟩) ?_);intro e w d V' M H F G A u C;exact⟨λl h=>(by cases e<;>cases h),r e w d V' M H F G A u C⟩
  
  rename_i x y z;have bf:ro.isSome=J->i7 y=false:=λhr=>by have:=a9 hr;simp only[i7,aJh] at this;exact this.1
  have b3:ro.isSome=J->i7 z=false:=λhr=>by have:=a9 hr;simp only[i7,aJh] at this;exact this.2
  split at h;rename_i hc;have he:=cu R hg x (by rw[hc];rfl);rw[hc] at he;exact Tk (t:=J) (by simpa[SV.den,BE.den] using he) (ih D B yh ro al y s k L O V a W Q hY hB a0 bf a3 h R hg HP r);rename_i hc;have he:=cu R hg x (by rw[hc];rfl);rw[hc] at he;exact Tk (t:=E) (by simpa[SV.den,BE.den] using he) (ih D B yh ro al z s k L O V a W Q hY hB a0 b3 a3 h R hg HP r);rename_i b d3 d4 hc;have he:=cu R hg x (by rw[hc];rfl);rw[hc] at he;split at h;rename_i t;simp only[S.ev,vM] at hc;simp only[T.aQ] at h;have b4:∀v,B.pZ {s with tmps:=s.tmps.set t v} O V L:=λv=>⟨⟨hB.later.ext,hB.later.mono,hB.later.len,hB.later.aq⟩,hB.SS⟩
  cases hv:b.den O;refine Tk (t:=E) (by simpa[SV.den,hv] using he) (ih D B yh ro al z _ k L O V a W Q hY (b4 _) a0 b3 a3 (h.2 hv) (R.akN hc hv) hg HP ?_);exact λe2 s2 O2 V2 a2 W2 L2 ag a4 R2 af=>r e2 s2 O2 V2 a2 W2 L2 ⟨ag.ext,ag.mono,ag.len,ag.aq⟩ a4 R2 af
  refine Tk (t:=J) (by simpa[SV.den,hv] using he) (ih D B yh ro al y _ k L O V a W Q hY (b4 _) a0 bf a3 (h.1 hv) (R.akN hc hv) hg HP ?_);exact λe2 s2 O2 V2 a2 W2 L2 ag a4 R2 af=>r e2 s2 O2 V2 a2 W2 L2 ⟨ag.ext,ag.mono,ag.len,ag.aq⟩ a4 R2 af
  exact h.elim;exact h.elim
  
  rename_i id bl cp;split at h;rename_i e ks gp aI hf;obtain⟨w,G,br,u,h'⟩:=ayG R hf h;exact ih D B yh ro al _ w k L O V a W Q hY (hB.go G (cJ.refl _ _)) a0 a9 a3 h' u hg HP (λe2 s2 O2 V2 a2 W2 L2 ag a4 R2 af=>r e2 s2 O2 V2 a2 W2 L2 (G.trans ag) (br▸a4) R2 af);refine B4 (n:=0) ?_;split at h;rename_i hd;subst hd;split at h;rename_i c bs;exact alQ (B3 ro) ok ih hY HP hB bs h R hg (λw d V' M H F G A u C=>r .normal w d V' M H F G A u C) (λv w d V' M H F G A u C=>r (.bn v) w d V' M H F G A u C);split at h;rename_i om cs;split at h;exact h.elim;rename_i ct;exact ax7 (B3 ro) ok (ayg cc ok) hY HP hB cs (by simpa using ct) (ayf _ _ _) h R hg (λw d V' M H F G A u C=>r .normal w d V' M H F G A u C) (λv w d V' M H F G A u C=>r (.bn v) w d V' M H F G A u C);split at h;rename_i c bs;exact alQ (B3 ro) ok ih hY HP hB bs h R hg (λw d V' M H F G A u C=>r .normal w d V' M H F G A u C) (λv w d V' M H F G A u C=>r (.bn v) w d V' M H F G A u C);exact h.elim;rename_i hd;have cv:cp=false:=by simpa using hd
  subst cv;obtain⟨Rr,bt⟩:=R.room (lx bl.toList);refine wpIn_region ?_;have:=BQ (ops:=bl) ok.pt ok.zu (B3 ro) ok.kV (ax9 _ ok (To ok ih hY)) HP (n:=0) (f9 (λ_=>E) J E 0 (Y s.boxes) bl.toList) 0 _ [] L O _ a W (λi m' hi=>by have:=NV _ _ _ _ _ _ _ _ hi;simpa using this) (hB.go bt (cJ.refl _ _)) h (λx hx=>by cases hx) Rr hg
   (λw d V' M H F G A u C=>r .normal w d V' M H F (bt.trans G) A u C)
   (λv w d V' M H F G A u C=>r (.bn v) w d V' M H F (bt.trans G) A u C)
  rw[abs] at this;simpa[aKq] using this
  
  rename_i x;have bd:ro.isSome=J->i7 x=false:=λhr=>by have:=a9 hr;simpa only[i7] using this
  split at h;rename_i cx d5;obtain⟨an,cy⟩:∃an,an=cx.at s:=⟨_,rfl⟩;rw[<-cy] at h;split at h;exact h.elim;rename_i hc;simp only[aIZ,aIR,not_or,aJY] at hc;obtain⟨⟨⟨⟨⟨cA,cB⟩,cC⟩,cD⟩,cI⟩,cO⟩:=hc;simp only[T.aQ] at h;obtain⟨X,μ,cW,c0⟩:=h;refine axY (λN a1 W1=>∃s1 O1 V1,bF s O V s1 O1 V1/\av p.S0 p.w0 D cf.ty V1 O1 s1 a1 W1/\xI an (Code.mT x) 0 s.tmps s1.tmps=J/\qZ an 0 s.boxes s1.boxes=J/\rf s1 an.ks (jx an s1)=J/\xH (iq an s) s1.rs=J/\FU (iq an s) (FT an s1)=J/\s1.pd=s.pd/\X ((jx an s1).map (SV.xv O1))/\μ ((jx an s1).map (SV.xv O1))=N)
   (μ ((jx an s).map (SV.xv O))) ⟨s,O,V,bF.refl _ _ _,R,cC,cD,cB,cI,cO,rfl,cW,rfl⟩ ?_
  rintro N a1 W1 ⟨s1,O1,V1,b5,R1,hT,c7,b6,c8,c9,dc,hI,rfl⟩;have RH:=av.head (ty:=cf.ty) cA R.ei R.eb R.er b5 R1 hT c7 b6 c8 c9 dc;have dd:=c0 _ (aaY (O1:=O1) b6) hI;have br:(pe an (Code.mT x) s).aq=s.aq+1:=(we an.ks {s with aq:=s.aq+1,rs:=iq an s}).2.2.1;have bx:bF s O V (pe an (Code.mT x) s) (O.ext ((jx an s1).map (SV.xv O1))) (V1.take (Y s.boxes)):=by
   obtain⟨e1,e2,e3,e4⟩:=we an.ks {s with aq:=s.aq+1,rs:=iq an s};have hE:=BK s.boxes O ((jx an s1).map (SV.xv O1)) V;refine⟨⟨hE.agree,hE.li,hE.lb,hE.lr,λk b7=> ?_⟩,λi hi=> ?_,by simp[pe,S7], ?_⟩;have b0:k<Y s.boxes:=by
    obtain⟨b,hb⟩:=aIS.1 b7;exact(aIz.1 (i8.1 hb)).1
   rw[BR b0];exact b5.ext.ad k b7;unfold aL at hi⊢;simp only[pe];rw[NI];simpa using hi;simp only[pe];rw[e3];exact Nat.le_succ _
  have df:∀m,cJ s.aq L (⟨s.aq,X,μ,m⟩::L):=λm l b0=>by
   simp only[mB];rw[if_neg (by omega)]
  refine ih D B yh ro al x _ _ _ _ _ a1 W1 _ hY (hB.go bx (df _)) a0 bd a3 dd RH (hg.ext bx.ext) (λch M H pd y hd hR=>HP ch M H pd y hd hR) ?_;intro e s2 O2 V2 a2 W2 L2 ag a4 R2 af;have bg:=bx.trans ag;rw[br] at a4;have b1:cJ s.aq L L2:=λl b0=>by
   rw[a4 l (by omega)];simp only[mB];rw[if_neg (by omega)]
  cases e with
  |normal=>
   simp only[Sc] at af;split at af;rename_i b8;simp only[aIy,decide_eq_true_eq] at b8;obtain⟨⟨⟨⟨⟨c1,c2⟩,c3⟩,c4⟩,c5⟩,c6⟩:=b8;have dk:mB s.aq L2=U ⟨s.aq,X,μ,μ ((jx an s1).map (SV.xv O1))⟩:=by
    rw[a4 s.aq (by omega)];simp[mB]
   simp only[T.aQ,dk] at af;exact⟨_,af.2,s2,O2,V2,bg,R2,c1,c2,c3,c4,c5,c6,af.1,rfl⟩;exact af.elim
  |ret=>exact r .ret s2 O2 V2 a2 W2 L2 bg b1 R2 af
  |exit id=>exact r (.exit id) s2 O2 V2 a2 W2 L2 bg b1 R2 af
  |bn v=>exact r (.bn v) s2 O2 V2 a2 W2 L2 bg b1 R2 af
  rename_i dn;exact alp (n+1) (b2 D B yh ro al x s k L O V a W Q hY hB a0 bd a3 (λan=>dn an) h0 R hg HP r)
  
  rename_i f ps assign body;have dr:ro=none:=by
   cases ro with
   |none=>rfl
   |some l=>have:=a9 rfl;simp[i7] at this
  subst dr;split at h;rename_i g d6 ds;split at h;rename_i c nt dx;split at h;exact h.elim;rename_i hc;simp only[aIZ,aIR,not_or,aJY,aK9] at hc;obtain⟨⟨⟨⟨dy,dz⟩,dT⟩,d0⟩,d1⟩:=hc;obtain⟨d7,d2⟩:=a3;exact ayC ok ih d2 a0 ds dx dy dz dT d0 d1 h R hg HP r;exact h.elim;exact h.elim;exact h.elim
variable{p:Sp}
def ayH{X:aa}{R:ai}:∀{l Q:ah},SV.aA F B l=SV.aA X R Q->(one l).den F B=(one Q).den X R
 |[],[],_=>rfl
 |[x],[y],h=>by
  have h:SV.den F B x=SV.den X R y:=by simpa[SV.aA] using h
  exact h
 |[],_::_,h=>by simp[SV.aA] at h
 |_::_,[],h=>by simp[SV.aA] at h
 |[_],_::_::_,h=>by simp[SV.aA] at h
 |_::_::_,[_],h=>by simp[SV.aA] at h
 |a::b::c,P::N::M,h=>by
  show Value.tuple (SV.aA F B (a::b::c)).toArray=Value.tuple (SV.aA X R (P::N::M)).toArray;rw[h]
def alV(X:bc):N0 (X.map RK.rd):=by
 intro k e h;rw[aIE] at h;cases R:X[k]? with
 |none=>rw[R] at h;cases h
 |some x=>rw[R] at h;cases x<;>simp[RK.rd] at h
def ayI{D:bQ}{a:Act}(M:p.ty=cf.ty)(R:av p.S0 p.w0 D cf.ty B F x a k)(P:(Nf cf N z x).aQ p F g):p.R (.returned ((one z).den F B)) k:=by
 unfold Nf at P;split at P;rename_i w;simp only[aIy] at w;obtain⟨⟨⟨an,a0⟩,n⟩,m⟩:=w;have H:∀i,aL ([]:bw) i=J->False:=λi Q=>by simp[aL,cw] at Q
 have h:=R.mem.mc (Tu x.rs);have f:av p.S0 p.w0 D cf.ty [] F (sR F (x.rs.map RK.rd) x.pd) ⟨#[],a.defers⟩ k:=
  ⟨⟨R.mem.base,λi Q=>(H i Q).elim,λi j Q=>(H i Q).elim,λi t v Q=>by simp[sR,cw] at Q,λX e r G c=>⟨(h.ref X e r G c).1,λb _ i Q=>(H i Q).elim⟩⟩,rfl,rfl,rfl,by simp[sR,R.er],R.cM,rfl,λt sv ht=>by simp[sR] at ht,λX e r b G=>absurd G (alV _ X e)⟩
 have af:=R.xQ n;obtain⟨l',a1,C,R3,u,_,d,h3⟩:=Tx (a:=⟨#[],a.defers⟩) (abE (bx:=x.boxes) (O0:=F) (V:=B) M rfl (λi e v ag=>by
  obtain⟨A,al⟩:=xP ag;have:=R.mem.box i e v A;rw[rq al] at this;exact⟨this,R.mem.own i (by simp[aL,A]),rp af.2 A⟩) 9) z (x.rs.map RK.rd) F _ f (Up.refl _) (alV _) (by rw[R.ei,R.eb,R.er];exact m) P
 have h4:=h3 C.y [] k (by rw[M];exact R3.mem);have h5:(one l').den C []=(one z).den F B:=ayH (d C (Up.refl _));rw[<-h5];exact h4;exact P F.y B _ (by rw[M];exact(R.mem.take _).mc (Tu _))
def TA(X:kD p cf)(n:Nat):yb p cf n/\Tn p cf n:=Tz n p X
def alW(A:kD p cf){M:Func}{c:Code}(m:p.P.funcs[y]?=U M)(b:M.body=U c)
  (ht:Ng cf N y c M.ntmps M.results.toList z x=t)(Q:t.aQ p F [])(hg:ek cf.gl F)(R:av p.S0 p.w0 bQ.none cf.ty B F {x with tmps:=[]} ⟨#[],[]⟩ p.w0):
  Calls p.P y (SV.aA F B z).toArray p.w0 p.R:=by
 subst ht;refine NR m b ?_;have RE:=R.enter z M.ntmps R.cM;refine(TA A N).1 bQ.none ⟨{x with tmps:=z++aIL (M.ntmps-Y z) (.bH [])},F,B,[]⟩ iF Z y c _ _ [] F B _ p.w0 _ (Gp _ _) (kC.here _ _ _ _) rfl (λhh=>by cases hh) ⟨M,m⟩ Q RE hg ?_ ?_;intro k L w pd X hA hR;obtain⟨af,G,q0,u,q3⟩:=hA.l9;show LeavesInM Fence.wide 0 p.P M L.tmps p.R L.defers (.panicking k) w;rw[G];exact ta (by simp) (aJz.1 u).1 (λd H=>(q3 d (by simp[H])).1) (NU (A.Ta k) (λd H=>(q3 d (by simp[H])).2) hR);intro e j i V' L w L' hl hL h Q;obtain⟨af,G,q0,u,q3⟩:=h.cM.l9;have r:=h.p8 G;have g:∀l,sQ cf j M.results.toList=U l->(Nf cf (Y x.boxes) l j).aQ p i L'->LeavesInM Fence.wide 0 p.P M L.tmps p.R L.defers .returning w:=by
  intro l C Q;rw[G];exact ta (by simp) (aJz.1 u).1 (λd H=>(q3 d (by simp[H])).1) ⟨_,NG r A.kV C,ayI A.pt r Q⟩
 cases e with
 |normal=>
  simp only[Si] at Q;split at Q;rename_i l C;exact g l C Q;exact Q.elim
 |ret=>
  simp only[Si] at Q;split at Q;rename_i l C;exact g l C Q;exact Q.elim
 |bn v=>
  show LeavesInM Fence.wide 0 p.P M L.tmps p.R L.defers (.panicking _) w;rw[G];exact ta (by simp) (aJz.1 u).1 (λd H=>(q3 d (by simp[H])).1) (Q i.y V' _ r.mem.base)
 |exit id=>exact Q.elim
end
def zEq:Value->CT->Bool
 |.int k n,.int X=>decide (k=X)&&n==0
 |.bool b,.bool=> !b
 |v,.aI z _=>FG v z
 |_,_=>E
def JO:fe->dS->Bool
 |[],[]=>J
 |v::X,c::W=>zEq v c&&JO X W
 |_,_=>E
def alY:∀(W:fe)(V:dS),JO W V=J->W=V.map ph
 |[],[],_=>rfl
 |[],_::_,h=>by simp[JO] at h
 |_::_,[],h=>by simp[JO] at h
 |v::W,c::V,h=>by
  simp only[JO,aIy] at h;rw[aIP,<-alY W V h.2];congr 1;have X:=h.1;unfold zEq at X;split at X;simp only[aIy,decide_eq_true_eq,beq_iff_eq] at X;obtain⟨rfl,rfl⟩:=X;rfl;rename_i b;cases b;rfl;cases X;exact aiZ _ _ X;cases X
def JP:List Field->List (Nat×TypeId)->Bool
 |[],[]=>J
 |f::X,x::W=>f.offset==x.1&&f.type==x.2&&JP X W
 |_,_=>E
def alZ:∀(X:List Field)(W:List (Nat×TypeId)),JP X W=J->X.map (λf=>(f.offset,f.type))=W
 |[],[],_=>rfl
 |[],_::_,h=>by simp[JP] at h
 |_::_,[],h=>by simp[JP] at h
 |f::X,x::W,h=>by
  simp only[JP,aIy,beq_iff_eq] at h;rw[aIP,alZ X W h.2,h.1.1,h.1.2]
def abK(ae:dS):TD->Option TypeDesc->Bool
 |.struct V,U (.struct F)=>JP F.toList V
 |.arr n e,U (.array R X)=>n==R&&e==X
 |.slice e,U (.slice X)=>e==X
 |.str,U .string=>J
 |.fh,U (.interface _)=>J
 |.map k e _ _,U (.map W X)=>k==W&&e==X
 |.one,U (.int k)=>match ae with
  |[.int W]=>decide (k=W)
  |_=>E
 |.one,U .bool=>match ae with
  |[.bool]=>J
  |_=>E
 |.one,U (.pointer _)|.one,U (.map _ _)|.one,U (.chan _ _)=>match ae with
  |[.aI .nilFunc _]=>E
  |[.aI _ _]=>J
  |_=>E
 |.one,U (.func _ _ _)=>match ae with
  |[.aI _ _]=>J
  |_=>E
 |_,_=>E
def ayJ{P:Program}{ae:dS}{d:TD}(h:abK ae d (P.underlying v)=J):d.Ok P v ae:=by
 unfold abK at h;split at h;rename_i N F W;exact⟨F,W,alZ _ _ h⟩;rename_i n e M R W;simp only[aIy,beq_iff_eq] at h;obtain⟨rfl,rfl⟩:=h;exact W;rename_i e R W;simp at h;subst h;exact W;rename_i W;exact W;rename_i m W;exact⟨m,W⟩;rename_i k e n L O R W;simp only[aIy,beq_iff_eq] at h;obtain⟨rfl,rfl⟩:=h;exact W;rename_i k W;split at h;rename_i O;simp at h;subst h;exact⟨_,W,⟨trivial,λk X=>(by cases X)⟩,λk X=>(by cases X;rfl),λX=>(by cases X)⟩;cases h;rename_i W;split at h;exact⟨_,W,⟨trivial,λk X=>(by cases X)⟩,λk X=>(by cases X),λX=>rfl⟩;cases h;rename_i x W;split at h;cases h;rename_i z Q V;exact⟨_,W,⟨trivial,λk X=>(V (by cases X;rfl)).elim⟩,λk X=>(by cases X),λX=>(by cases X)⟩;cases h;rename_i x y W;split at h;cases h;rename_i z Q V;exact⟨_,W,⟨trivial,λk X=>(V (by cases X;rfl)).elim⟩,λk X=>(by cases X),λX=>(by cases X)⟩;cases h;rename_i x y W;split at h;cases h;rename_i z Q V;exact⟨_,W,⟨trivial,λk X=>(V (by cases X;rfl)).elim⟩,λk X=>(by cases X),λX=>(by cases X)⟩;cases h;rename_i x y z W;split at h;exact⟨_,W,⟨trivial,λk X=>⟨_,_,_,rfl⟩⟩,λk X=>(by cases X),λX=>(by cases X)⟩;cases h;cases h
def abL(P:Program)(t:TypeId)(X:TI):Bool:=
 match P.info? t with
 |U i=>match i.zero with
  |U z=>decide (i.bytes<=131072)&&i.size==Y X.ae&&JO z.cells.toList X.ae&&abK X.ae X.d (P.underlying t)&&(Sn z==X.d.isAgg)
  |none=>E
 |none=>E
def ayK{P:Program}{X:TI}(h:abL P v X=J)(L:X.eq=J->∀(W V:fe)(r:Bool)(x y:Operand)(w:World),jS X.ae W->jS X.ae V->i9 W V=U r->
  (do eqGuard .eql v x y (.agg W.toArray) (.agg V.toArray);binOp .eql v (.agg W.toArray) (.agg V.toArray)).run P w=.ok (.bool r) w/\
  (do eqGuard .neq v x y (.agg W.toArray) (.agg V.toArray);binOp .neq v (.agg W.toArray) (.agg V.toArray)).run P w=.ok (.bool !r) w)(H:∀k e n O,X.d=.map k e n O->s5 P k n O):dV P v X:=by
 unfold abL at h;split at h;rename_i i Q;split at h;rename_i z N;simp only[aIy,beq_iff_eq,decide_eq_true_eq] at h;obtain⟨h,G⟩:=h;exact⟨⟨i,Q,h.1.1.2,z,N,alY _ _ h.1.2⟩,ayJ h.2,λj R=>(by rw[Q] at R;cases R;exact h.1.1.1),L,H,λj F R M=>(by rw[Q] at R;cases R;rw[N] at M;cases M;exact G)⟩;cases h;cases h
def al0{X:Type}(l:List (Option X))(i:Nat):Option X:=aKp (motive:=λ_=>Nat->Option X) (λ_=>Z) (λx _ W t=>aLa (motive:=λ_=>Option X) x (λm _=>W m) t) l i
def abM{X:Type}(l:List (List X))(i:Nat):List X:=aKp (motive:=λ_=>Nat->List X) (λ_=>[]) (λx _ W t=>aLa (motive:=λ_=>List X) x (λm _=>W m) t) l i
def look{X:Type}(l:List (List (Option X)))(t:Nat):Option X:=al0 (abM l (t/16)) (t%16)
def al1{X:Type}{x:X}:∀{l:List (Option X)}{i:Nat},al0 l i=U x->l[i]?=U (U x)
 |[],_,h=>by cases h
 |y::_,0,h=>by simp only[aJr];exact congrArg U h
 |_::l,i+1,h=>by rw[aJa];exact al1 (l:=l) h
def al2{X:Type}:∀(l:List (List X))(i:Nat),l[i]?=U (abM l i)\/abM l i=[]
 |[],_=>.inr rfl
 |_::_,0=>.inl rfl
 |_::l,i+1=>by rw[aJa];exact al2 l i
def Gq{W:Type}(X:Nat->W->Bool):Nat->List (Option W)->Bool
 |_,[]=>J
 |n,Z::r=>Gq X (n+1) r
 |n,U x::r=>X n x&&Gq X (n+1) r
def DE{X:Type}(W:Nat->X->Bool):Nat->List (List (Option X))->Bool
 |_,[]=>J
 |n,r::V=>Gq W n r&&DE W (n+16) V
def abN{W:Type}{V:Nat->W->Bool}:∀{r:List (Option W)}{n i:Nat}{x:W},Gq V n r=J->r[i]?=U (U x)->V (n+i) x=J
 |[],n,i,x,_,h=>by simp at h
 |Z::r,n,0,x,_,h=>by simp at h
 |Z::r,n,i+1,x,X,h=>by
  simp only[Gq] at X;have:=abN X (by simpa using h)
  rwa [show n+1+i=n+(i+1) by omega] at this
 |U y::r,n,0,x,X,h=>by simp[Gq] at X;simp at h;subst h;exact X.1
 |U y::r,n,i+1,x,X,h=>by
  simp only[Gq,aIy] at X;have:=abN X.2 (by simpa using h)
  rwa [show n+1+i=n+(i+1) by omega] at this
def al3{W:Type}{R:Nat->W->Bool}:∀{l:List (List (Option W))}{n q i:Nat}{r:List (Option W)}{x:W},DE R n l=J->l[q]?=U r->r[i]?=U (U x)->R (n+16*q+i) x=J
 |[],n,q,i,r,x,_,h,_=>by simp at h
 |y::l,n,0,i,r,x,X,h,V=>by simp only[DE,aIy] at X;simp at h;subst h;simpa using abN X.1 V
 |y::l,n,q+1,i,r,x,X,h,V=>by
  simp only[DE,aIy] at X;have:=al3 X.2 (by simpa using h) V
  rwa [show n+16+16*q+i=n+16*(q+1)+i by omega] at this
def al4{X:Type}{R:Nat->X->Bool}{l:List (List (Option X))}(h:DE R 0 l=J){x:X}(Q:look l N=U x):R N x=true:=by
 have W:=al1 Q;rcases al2 l (N/16) with V|V;have:=al3 h V W
 rwa [aI8,aLf] at this
 rw[V] at W;simp at W
def abO(P:Program)(l:ai)(g:FuncId):Option (Code×Nat×pO):=if l.contains g then(match P.funcs[g]? with
 |U X=>match X.body with
  |U c=>U (c,X.ntmps,X.results.toList)
  |none=>Z
 |none=>Z) else Z
def uB(P:Program)(g:Nat):Bool:=match P.funcs[g]? with
 |U X=>X.body.isSome&& !(X.name== "runtime.NumGoroutine")
 |none=>E
def wi{P:Program}(h:uB P N=J):∀X W,(callFunc N X).run P W=.ok (.enter N X) W:=by
 unfold uB at h;split at h;rename_i V R;simp only[aIy,aIR] at h;intro X W;have Q:V.name≠ "runtime.NumGoroutine":=by simpa using h.2
 obtain⟨c,O⟩:=aIS.1 h.1;simp[callFunc,R,Q,O];cases h
def ayL(X:Bh)(f i:Nat):Option FK:=match X.find? (λx=>x.1==f&&(x.2%1000==i&&decide (1000<=x.2))) with
 |U x=>if x.2/1000==1 then U .box else if x.2/1000<100 then U (.slot (x.2/1000-2) [0,1,2,3]) else U (.slot (x.2/1000-102) [0,1,2,3,4])
 |none=>Z
def oD(P:Program)(kV:List (List fD))(W:List (List iE))(V:lu)(R:ai)(loops:List (Nat×Nat×eF))(Q:zn)(lW:Bool:=E)(X:Bh:=[]):bz:=
 {ty:=look kV,gl:=V,inl:=abO P R,sig:=look W,loop:=λf i=>match loops.find? (λx=>x.1==f&&x.2.1==i) with
  |U x=>.inv x.2.2
  |none=>.avM,zu:=λf g=>(Q.find? λx=>x.1==f&&x.2.1==g).map (·.2.2),lW:=lW,MU:=λf i=>X.contains (f,i),frk:=λf i=>ayL X f i}
def TC{P:Program}{kV:List (List fD)}{L:List (List iE)}{G:lu}{loops:List (Nat×Nat×eF)}{O:zn}{lW:Bool}{F:Bh}{C:ai}{D:bQ}{R:Ending->World->Prop}{Q:Exit->Act->World->Prop}
  (A:iu P (look kV))(z:DE (λg _=>uB P g) 0 L=J)(y:B.all (uB P)=J)(w:P.follows .mixedOrders=J)(v:∀H W b o,k.heap.size<=b->R (.panicked H) W->R (.panicked H) (W.putObj b o))(u:∀x∈O,kU P (look kV) x.1 x.2.1 x.2.2.1 x.2.2.2.1 x.2.2.2.2):kD ⟨P,look kV,C,k,D,R,Q⟩ (oD P kV L G B loops O lW F):=by
 refine⟨rfl,w,A,λf g e p n h=> ?_,λg V=> ?_,v,λg c m l h=> ?_⟩;simp only[oD] at h;cases X:O.find? (λx=>x.1==f&&x.2.1==g) with
 |none=>rw[X] at h;cases h
 |some x=>
  rw[X] at h;simp only[aII,aID] at h;have N:=aKW X;simp only[aIy,beq_iff_eq] at N;have:=u x (aKc X);rw[N.1,N.2,h] at this;exact this
 rcases V with V|V;obtain⟨j,t⟩:=aIS.1 V;exact wi (al4 z t);obtain⟨x,M⟩:=aIS.1 V;simp only[oD,abO] at M;split at M;rename_i s;exact wi (aIN.1 y g (aI9.1 s));cases M;simp only[oD,abO] at h;split at h;split at h;rename_i r X;split at h;rename_i i q;cases h;exact⟨r,X,q,rfl,rfl⟩;cases h;cases h;cases h
section
inductive cE:RV->RV->Prop where
 |sl (A A':Option Addr) (len cap cap':Nat) (rows ay:List (List RV)) (h1:Y rows=Y ay) (h2:∀(i:Nat)(row row':List RV),rows[i]?=U row->ay[i]?=U row'->Y row=Y row')
   (h3:∀(i j:Nat)(row row':List RV)(c c':RV),rows[i]?=U row->ay[i]?=U row'->row[j]?=U c->row'[j]?=U c'->cE c c'):cE (.mk (.slice A len cap) rows) (.mk (.slice A' len cap') ay)
 |val (v:Value) (rows:List (List RV)) (h:∀a l c,v≠ .slice a l c):cE (.mk v rows) (.mk v rows)
def JQ:XV->XV->Prop
 |.i n,.i m=>n=m
 |.b x,.b y=>x=y
 |.r v,.r w=>cE v w
 |_,_=>False
def zU:aV->aV->Prop
 |[],[]=>True
 |x::X,y::W=>JQ x y/\zU X W
 |_,_=>False
structure jo(O O':aa):Prop where
 i:O.i=O'.i
 b:O.b=O'.b
 len:Y O.r=Y O'.r
 r:∀(k:Nat)(v v':RV),O.r[k]?=U v->O'.r[k]?=U v'->cE v v'
def cE.refl:∀(v:RV),cE v v
 |.mk v V=>by
  by_cases h:∃a l c,v=.slice a l c;obtain⟨a,l,c,rfl⟩:=h;refine cE.sl a a l c c V V rfl (λi P O W X=>by rw[W] at X;cases X;rfl) (λi j P O x M W X R Q=> ?_);rw[W] at X;cases X;rw[R] at Q;cases Q;exact cE.refl x;exact cE.val v V (λa l c N=>h ⟨a,l,c,N⟩)
termination_by v=>SizeOf.sizeOf v
decreasing_by
 have L:=aLV (aIW W);have H:=aLV (aIW R);simp only[RV.mk.sizeOf_spec];omega
def cE.default:cE default default:=cE.refl _
def jo.rv{O X:aa}(h:jo O X)(k:Nat):cE (O.rv k) (X.rv k):=by
 unfold aa.rv;simp only[aIC];cases W:O.r[k]? with
 |none=>
  have:X.r[k]?=none:=by rw[aJk] at W⊢;have:=h.len;omega
  rw[this];exact cE.default
 |some v=>
  cases V:X.r[k]? with
  |none=>rw[aJk] at V;have:=(aIz.1 W).1;have:=h.len;omega
  |some R=>exact h.r k v R W V
def cE.cellAt{v N:RV}(h:cE v N)(i:Int)(j:Nat):cE (Y.cellAt v.rows i j) (Y.cellAt N.rows i j):=by
 cases h with
 |sl A G F D C R ay B L H=>
  simp only[Y.cellAt,RV.lA,aIC];cases W:R[i.toNat]? with
  |none=>
   have:ay[i.toNat]?=none:=by rw[aJk] at W⊢;omega
   rw[this];exact cE.default
  |some V=>
   obtain⟨X,Q⟩:∃X,ay[i.toNat]?=U X:=by
    have:i.toNat<Y R:=(aIz.1 W).1;exact⟨ay[i.toNat],aIA (by omega)⟩
   rw[Q];simp only[aJd];have z:=L _ V X W Q;cases P:V[j]? with
   |none=>
    have:X[j]?=none:=by rw[aJk] at P⊢;omega
    rw[this];exact cE.default
   |some c=>
    obtain⟨O,M⟩:∃O,X[j]?=U O:=by
     have:j<Y V:=(aIz.1 P).1;exact⟨X[j],aIA (by omega)⟩
    rw[M];exact H _ j V X c O W Q P M
 |val v R y=>exact cE.refl _
def cE.bB{v X:RV}(h:cE v X):Y.bB v.val=Y.bB X.val/\Y.fG v.val=Y.fG X.val/\lenOf v.val=lenOf X.val/\(∀i,jz v.val i=jz X.val i)/\(∀w,rj v.val w=rj X.val w)/\∀w,rj w v.val=rj w X.val:=by
 cases h with
 |sl A V R Q P W ay=>exact⟨rfl,rfl,rfl,λ_=>rfl,λ_=>rfl,λw=>by cases w<;>rfl⟩
 |val v W O=>exact⟨rfl,rfl,rfl,λ_=>rfl,λ_=>rfl,λ_=>rfl⟩
def cE.cz{v M:RV}(h:cE v M)(k:RK):cE (Y.cz k v) (Y.cz k M):=by
 cases h with
 |sl A X W V R Q ay P O N=>
  cases k with
  |sl e=>exact cE.sl A X W V R Q ay P O N
  |str=>exact cE.refl _
  |aI=>exact cE.sl A X W V R [] [] rfl (λi L H q=>by simp at q) (λi j L H c G q=>by simp at q)
  |own e=>exact cE.sl A X W V R Q ay P O N
  |dead=>exact cE.sl A X W V R Q ay P O N
  |mr F=>exact cE.sl A X W V R Q ay P O N
 |val v Q D=>exact cE.refl _
structure eH(rows ay:am):Prop where
 len:Y rows=Y ay
 row:∀(i:Nat)(row row':aH),rows[i]?=U row->ay[i]?=U row'->Y row=Y row'
 cell:∀(i j:Nat)(row row':aH)(c c':RV),rows[i]?=U row->ay[i]?=U row'->row[j]?=U c->row'[j]?=U c'->cE c c'
def cE.JR{v R:RV}(h:cE v R):eH v.rows R.rows:=by
 cases h with
 |sl A M L H G P ay W X V=>exact⟨W,X,V⟩
 |val v P F=>exact⟨rfl,λi O N W X=>by rw[W] at X;cases X;rfl,λi j O N c D W X V Q=>by rw[W] at X;cases X;rw[V] at Q;cases Q;exact cE.refl _⟩
def mE(X W:aH):Prop:=Y X=Y W/\∀(j:Nat)(c V:RV),X[j]?=U c->W[j]?=U V->cE c V
def eH.cons{r X:aH}{O N:am}(h:eH (r::O) (X::N)):mE r X/\eH O N:=
 ⟨⟨h.row 0 r X rfl rfl,λj c W=>h.cell 0 j r X c W rfl rfl⟩,by simpa using h.len,λi V R Q P=>h.row (i+1) V R (by simpa using Q) (by simpa using P),λi j V R c W Q P=>h.cell (i+1) j V R c W (by simpa using Q) (by simpa using P)⟩
def eH.DF{r Q:aH}{P O:am}(h:mE r Q)(k:eH P O):eH (r::P) (Q::O):=by
 refine⟨by simp[k.len],λi V R X W=> ?_,λi j V R c N X W=> ?_⟩;cases i with
 |zero=>simp at X W;subst X W;exact h.1
 |succ i=>exact k.row i V R (by simpa using X) (by simpa using W)
 cases i with
 |zero=>simp at X W;subst X W;exact h.2 j c N
 |succ i=>exact k.cell i j V R c N (by simpa using X) (by simpa using W)
def mE.getD{W X:aH}(h:mE W X)(j:Nat):cE (W.getD j Inhabited.default) (X.getD j Inhabited.default):=by
 simp only[aIC];cases V:W[j]? with
 |none=>
  have:X[j]?=none:=by rw[aJk] at V⊢;have:=h.1;omega
  rw[this];exact cE.refl _
 |some c=>
  obtain⟨R,Q⟩:∃R,X[j]?=U R:=by
   have:j<Y W:=(aIz.1 V).1;exact⟨X[j]'(by have:=h.1;omega),aIA _⟩
  rw[Q];exact h.2 j c R V Q
def mE.ints{W X:aH}(h:mE W X)(n:Nat):(W.take n).map (λc=>Y.bB c.val)=(X.take n).map λc=>Y.bB c.val:=by
 apply aI0;intro j;simp only[aIE,aI6];split;cases V:W[j]? with
 |none=>
  have:X[j]?=none:=by rw[aJk] at V⊢;have:=h.1;omega
  rw[this]
 |some c=>
  obtain⟨R,Q⟩:∃R,X[j]?=U R:=by
   have:j<Y W:=(aIz.1 V).1;exact⟨X[j]'(by have:=h.1;omega),aIA _⟩
  rw[Q];simp only[aII,(h.2 j c R V Q).bB.1]
 rfl
def mE.mU{X W:aH}(h:mE X W)(n:Nat)(V:bi):Y.mU n V X=Y.mU n V W:=by
 simp only[Y.mU,h.ints n]
def TE{n:Nat}{ks:bi}:∀{X ay:am},eH X ay->(mV n ks X=Z/\mV n ks ay=Z)\/∃W V,mV n ks X=U W/\mV n ks ay=U V/\mE W V
 |[],[],_=>.inl ⟨rfl,rfl⟩
 |[],_::_,h=>by have:=h.len;simp at this
 |_::_,[],h=>by have:=h.len;simp at this
 |r::O,Q::N,h=>by
  obtain⟨R,P⟩:=h.cons;simp only[mV,List.find?_cons,<-R.mU n ks];cases Y.mU n ks r with
  |true=>exact .inr ⟨r,Q,rfl,rfl,R⟩
  |false=>exact TE P
def al5{n:Nat}{X W:aH}(h:mE X W):∀{V ay:am},eH V ay->eH (j8 n X V) (j8 n W ay)
 |[],[],k=>eH.DF h k
 |[],_::_,k=>by have:=k.len;simp at this
 |_::_,[],k=>by have:=k.len;simp at this
 |r::P,O::N,k=>by
  obtain⟨R,Q⟩:=k.cons;simp only[j8,h.ints n,<-R.mU n];split;exact eH.DF h Q;exact eH.DF R (al5 h Q)
mutual
def IE.cG{O X:aa}(h:jo O X):∀e:IE,e.den O=e.den X
 |.c n=>rfl
 |.v k=>by simp only[IE.den,h.i]
 |.bin o k a b=>by simp only[IE.den,IE.cG h a,IE.cG h b]
 |.conv k a=>by simp only[IE.den,IE.cG h a]
 |.len r=>by simp only[IE.den];exact(RE.cG h r).bB.2.2.1
 |.mm m a b=>by simp only[IE.den,IE.cG h a,IE.cG h b]
 |.cF b x y=>by simp only[IE.den,BE.cG h b,IE.cG h x,IE.cG h y]
 |.cell r i j=>by simp only[IE.den,IE.cG h i];exact((RE.cG h r).cellAt _ j).bB.1
 |.lT r i=>by simp only[IE.den,IE.cG h i];exact(RE.cG h r).bB.2.2.2.1 _
 |.look r n a b c j=>by
  simp only[IE.den,IE.cG h a,IE.cG h b,IE.cG h c];rcases TE (n:=n) (ks:=[a.den X,b.den X,c.den X]) (RE.cG h r).JR with⟨W,V⟩|⟨Q,P,W,V,R⟩;rw[W,V];rw[W,V];exact(R.getD j).bB.1
def BE.cG{O X:aa}(h:jo O X):∀e:BE,e.den O=e.den X
 |.c n=>rfl
 |.v k=>by simp only[BE.den,h.b]
 |.cmp o a b=>by simp only[BE.den,IE.cG h a,IE.cG h b]
 |.not a=>by simp only[BE.den,BE.cG h a]
 |.and a b=>by simp only[BE.den,BE.cG h a,BE.cG h b]
 |.beq a b=>by simp only[BE.den,BE.cG h a,BE.cG h b]
 |.cF b x y=>by simp only[BE.den,BE.cG h b,BE.cG h x,BE.cG h y]
 |.cell r i j=>by simp only[BE.den,IE.cG h i];exact((RE.cG h r).cellAt _ j).bB.2.1
 |.seq a b=>by simp only[BE.den];rw[(RE.cG h a).bB.2.2.2.2.1,(RE.cG h b).bB.2.2.2.2.2]
 |.look r n a b c j=>by
  simp only[BE.den,IE.cG h a,IE.cG h b,IE.cG h c];rcases TE (n:=n) (ks:=[a.den X,b.den X,c.den X]) (RE.cG h r).JR with⟨W,V⟩|⟨Q,P,W,V,R⟩;rw[W,V];rw[W,V];exact(R.getD j).bB.2.1
 |.has r n a b c=>by
  simp only[BE.den,IE.cG h a,IE.cG h b,IE.cG h c];rcases TE (n:=n) (ks:=[a.den X,b.den X,c.den X]) (RE.cG h r).JR with⟨W,V⟩|⟨Q,P,W,V,R⟩;rw[W,V];rw[W,V];rfl
def RE.cG{O X:aa}(h:jo O X):∀r:RE,cE (r.rv O) (r.rv X)
 |.v k=>by simp only[RE.rv];exact h.rv k
 |.cell r i j k=>by simp only[RE.rv,IE.cG h i];exact((RE.cG h r).cellAt _ j).cz k
 |.k v=>by simp only[RE.rv];exact cE.refl _
end
def SV.ayM{X:aa}(h:jo F X)(v:SV):JQ (v.xv F) (v.xv X):=by
 cases v<;>simp only[SV.xv,JQ];exact IE.cG h _;exact BE.cG h _;exact RE.cG h _
def SV.ayN{X:aa}(h:jo F X)(v:SV):cE (v.bN F) (v.bN X):=by
 cases v<;>simp only[SV.bN];rw[IE.cG h];exact cE.refl _;rw[BE.cG h];exact cE.refl _;exact RE.cG h _
 all_goals exact cE.refl _
def eH.of{R ay:am}(O:Y R=Y ay)(h:∀(i:Nat)(X W:aH),R[i]?=U X->ay[i]?=U W->Y X=Y W/\∀(j:Nat)(c V:RV),X[j]?=U c->W[j]?=U V->cE c V):eH R ay:=
 ⟨O,λi X W Q P=>(h i X W Q P).1,λi j X W c V Q P=>(h i X W Q P).2 j c V⟩
def TF{V:aa}(h:jo F V)(l:ah):(l.map (SV.bN F)).length=(l.map (SV.bN V)).length/\∀(j:Nat)(c R:RV),(l.map (SV.bN F))[j]?=U c->(l.map (SV.bN V))[j]?=U R->cE c R:=by
 refine⟨by simp,λj c R X W=> ?_⟩;rw[aIE] at X W;cases Q:l[j]? with
 |none=>rw[Q] at X;cases X
 |some v=>
  rw[Q] at X W;simp only[aII,aID] at X W;rw[<-X,<-W];exact SV.ayN h v
def al6:∀{O N R Q:aH}{P:Nat},Y O=Y N->(∀(j:Nat)(c X:RV),O[j]?=U c->N[j]?=U X->cE c X)->Y R=Y Q->(∀(j:Nat)(c X:RV),R[j]?=U c->Q[j]?=U X->cE c X)->
  (gF R P O).length=(gF Q P N).length/\∀(j:Nat)(c X:RV),(gF R P O)[j]?=U c->(gF Q P N)[j]?=U X->cE c X
 |[],[],R,Q,P,_,_,M,L=>⟨M,L⟩
 |[],_::_,_,_,_,h,_,_,_=>by simp at h
 |_::_,[],_,_,_,h,_,_,_=>by simp at h
 |v::O,D::N,R,Q,P,F,G,M,L=>by
  simp only[gF];refine al6 (by simpa using F) (λj c X V W=>G (j+1) c X (by simpa using V) (by simpa using W)) (by simp[M]) (λj c X V W=> ?_);rw[aJs] at V W;split at V;rename_i H;rw[if_pos H] at W;split at V;split at W;cases V;cases W;exact G 0 _ _ rfl rfl;cases W;cases V;rename_i H;rw[if_neg H] at W;exact L j c X V W
def LE.cG{O D:aa}(h:jo O D):∀x:LE,eH (x.rows O) (x.rows D)
 |.ref r=>(RE.cG h r).JR
 |.lit l=>by
  simp only[LE.rows];refine eH.of (by simp) (λi R Q X W=> ?_);rw[aIE] at X W;cases C:l[i]? with
  |none=>rw[C] at X;cases X
  |some v=>
   rw[C] at X W;simp only[aII,aID] at X W;rw[<-X,<-W];exact TF h v
 |.kz a b=>by
  simp only[LE.rows];have V:=LE.cG h a;have H:=LE.cG h b;refine eH.of (by simp[V.len,H.len]) (λi R Q X W=> ?_);by_cases L:i<(a.rows O).length;rw[aIB L] at X;rw[aIB (by rw[<-V.len];exact L)] at W;exact⟨V.row i R Q X W,λj c P=>V.cell i j R Q c P X W⟩;rw[aIH (by omega)] at X;rw[aIH (by rw[<-V.len];omega),<-V.len] at W;exact⟨H.row _ R Q X W,λj c P=>H.cell _ j R Q c P X W⟩
 |.sM n R=>by
  simp only[LE.rows,IE.cG h n];refine eH.of (by simp) (λi r w X W=> ?_);rw[aJD] at X W;split at X;rename_i L;rw[if_pos L] at W;cases X;cases W;exact TF h R;cases X
 |.set a i u G=>by
  simp only[LE.rows,IE.cG h i];have V:=LE.cG h a;have B:=TF h G;refine eH.of (by simp[V.len]) (λt R Q X W=> ?_);rcases Jr X with⟨rfl,A,N,rfl⟩|⟨F,N⟩;rcases Jr W with⟨_,z,M,rfl⟩|⟨F,_⟩;exact al6 B.1 B.2 (V.row _ A z N M) (λj c P=>V.cell _ j A z c P N M);exact absurd rfl F;rcases Jr W with⟨rfl,_⟩|⟨_,M⟩;exact absurd rfl F;exact⟨V.row _ R Q N M,λj c P=>V.cell _ j R Q c P N M⟩
 |.sub a y L=>by
  simp only[LE.rows,IE.cG h y,IE.cG h L];have V:=LE.cG h a;refine eH.of (by simp[V.len]) (λi R Q X W=> ?_);have N:=(Nz X).1;have M:=(Nz W).1;exact⟨V.row _ R Q N M,λj c P=>V.cell _ j R Q c P N M⟩
 |.ins a n G=>by
  simp only[LE.rows];exact al5 (TF h G) (LE.cG h a)
def al7{W:aa}(h:jo F W)(x:LE){A:mu}:cE (gz x F) (.mk (.slice A (x.rows W).length N) (x.rows W)):=by
 have X:=LE.cG h x;unfold gz;rw[X.len];exact cE.sl _ _ _ _ _ _ _ X.len X.row X.cell
def jo.add{O R:aa}(h:jo O R){x y:XV}(V:JQ x y):jo (O.add x) (R.add y):=by
 cases x<;>cases y<;>simp only[JQ] at V;subst V;exact⟨by simp[aa.add,h.i],h.b,h.len,h.r⟩;subst V;exact⟨h.i,by simp[aa.add,h.b],h.len,h.r⟩;refine⟨h.i,h.b,by simp[aa.add,h.len],λk v P X W=> ?_⟩;simp only[aa.add] at X W;by_cases Q:k<Y O.r;rw[aIB Q] at X;rw[aIB (by rw[<-h.len];exact Q)] at W;exact h.r k v P X W;have N:k=Y O.r:=by
  have:=(aIz.1 X).1;simp at this;omega
 subst N;simp at X;rw[h.len] at W;simp at W;subst X W;exact V
def jo.ext:∀{W V:aV}{O R:aa},jo O R->zU W V->jo (O.ext W) (R.ext V)
 |[],[],_,_,h,_=>h
 |[],_::_,_,_,_,X=>X.elim
 |_::_,[],_,_,_,X=>X.elim
 |x::W,y::V,_,_,h,X=>(h.add X.1).ext X.2
inductive bD where
 |ret (xs:List XV)
 |bn (v:Value)
abbrev jF:=Option bD
abbrev md:=FuncId->aV->jF
def abP:LK->XV->Bool
 |.int _,.i _=>J
 |.bool,.b _=>J
 |.ref _,.r _=>J
 |_,_=>E
def iP:aP->aV->Bool
 |[],[]=>J
 |k::X,x::W=>abP k x&&iP X W
 |_,_=>E
def DG(X:Ty)(W:bc):LK->SV->Bool
 |.int k,.int V _=>decide (k=V)
 |.bool,.bool _=>J
 |.ref e,.ref r=>match e with
  |.mr R=>r.oZ X ⟨[],[],0,0,W,0,0,[]⟩ R
  |e=>r.fits X ⟨[],[],0,0,W,0,0,[]⟩ e.rd
 |_,_=>E
def jG(X:Ty)(W:bc):aP->ah->Bool
 |[],[]=>J
 |k::V,v::R=>DG X W k v&&jG X W V R
 |_,_=>E
def jp(W:Ty):i5->ah->Fw
 |[],[]=>U []
 |t::V,v::R=>match W t,jp W V R with
  |U X,U r=>if X.d.isAgg then(match v with
    |.agg l=>if Y l==Y X.ae then U (l++r) else Z
    |_=>Z) else(if Y X.ae==1 then U (v::r) else Z)
  |_,_=>Z
 |_,_=>Z
def yc(n:Nat):SV->ah
 |.bH l=>if n==1 then[.bH l] else l
 |v=>[v]
def Gr(O:aa):SV->Option Value
 |.fh t (.int k e)=>U (.iface t (.int k (e.den O)))
 |_=>Z
structure Fr where
 aq:Nat
 ks:aP
 t:T
 O:aa
 rs:bc
def Gs(aq:Nat):List Fr->Option (Fr×List Fr)
 |[]=>Z
 |x::X=>if x.aq=aq then U (x,X) else Gs aq X
def iT:aP->bc
 |[]=>[]
 |.ref e::X=>e::iT X
 |_::X=>iT X
def rC:Nat->Nat->Nat->aP->ah->Bool
 |_,_,_,[],[]=>J
 |a,b,c,.int k::X,.int W (.v n)::l=>decide (k=W)&&n==a&&rC (a+1) b c X l
 |a,b,c,.bool::X,.bool (.v n)::l=>n==b&&rC a (b+1) c X l
 |a,b,c,.ref _::X,.ref (.v n)::l=>n==c&&rC a b (c+1) X l
 |_,_,_,_,_=>E
def TG:RK->RK->Bool
 |_,.dead=>J
 |.own t,.sl X=>decide (t=X)
 |.sl t,.sl X=>decide (t=X)
 |.str,.str=>J
 |.aI,.aI=>J
 |.mr a,.mr b=>decide (a=b)
 |_,_=>E
def B7:bc->bc->Bool
 |[],[]=>J
 |x::X,y::W=>TG x y&&B7 X W
 |_,_=>E
def al8:RK->RK->Bool
 |.own t,.own X=>decide (t=X)
 |x,y=>TG x y
def B8:bc->bc->Bool
 |[],[]=>J
 |x::X,y::W=>al8 x y&&B8 X W
 |_,_=>E
def abQ(X:Ty)(W:i5)(v:SV)(R:bc)(O:aa):jF:=match jp X W (yc (Y W) v),gJ X W with
 |U l,U V=>if jG X R V l&&ov V then U (.ret (l.map (SV.xv O))) else Z
 |_,_=>Z
def abR(X:Ty)(P N:FuncId->iE)(f:FuncId)(M:ah)(L:bc)(V:aP)(im:SV)(O:aa):Option aV:=match P f,N f with
 |U R,U W=>match jp X R M,gJ X R,gJ X W,jp X W (yc (Y W) im) with
  |U l,U Q,U H,U r=>if jG X L Q l&&ov Q&&decide (H=V)&&rC (Y O.i) (Y O.b) (Y O.r) V r then U (l.map (SV.xv O)) else Z
  |_,_,_,_=>Z
 |_,_=>Z
def abS(X:bc)(r:RE)(e:TypeId):Bool:=match r with
 |.v k=>decide (X[k]?=U (.own e))
 |.k (.slice Z 0 0)=>J
 |_=>E
def abT:RK->Bool
 |.mr _=>J
 |_=>E
def mE.key{x y:aH}(h:mE x y)(c:Nat):aT c x=aT c y:=(h.getD c).bB.1
def al9{d:Bool}{x W y V:aH}(R:mE x W)(Q:mE y V):∀X:ai,iO d X x y=iO d X W V
 |[]=>rfl
 |c::X=>by simp only[iO,R.key,Q.key,al9 R Q X]
def abU{X:aW}{x W y V:aH}(R:mE x W)(Q:mE y V):X.lt x y=X.lt W V:=by
 cases X with
 |lex P d=>exact al9 R Q P
 |ratio n d=>simp only[aW.lt,R.key,Q.key]
 |cn k o O=>rfl
def ayO{X:aW}{x W:aH}(V:mE x W):X.ok x=X.ok W:=by
 cases X with
 |lex R d=>rfl
 |ratio n d=>simp only[aW.ok,V.key]
 |cn k o Q=>rfl
def eH.TH{r:am}(h:eH [] r):r=[]:=by cases r with
 |nil=>rfl
 |cons x X=>have:=h.len;simp at this
def ama{V:aW}{x R:aH}(X:mE x R):∀{l W:am},eH l W->eH (dj V.lt x l) (dj V.lt R W)
 |[],W,h=>by have P:=h.TH;subst P;exact eH.DF X h
 |y::l,[],h=>by have:=h.len;simp at this
 |y::l,N::W,h=>by
  obtain⟨Q,O⟩:=h.cons;simp only[dj,abU X Q];split;exact eH.DF X h;exact eH.DF Q (ama X O)
def amc{R:aW}:∀{l W:am}{acc X:am},eH l W->eH acc X->eH (l.foldl (λacc x=>dj R.lt x acc) acc) (W.foldl (λacc x=>dj R.lt x acc) X)
 |[],W,acc,X,h,V=>by rw[h.TH];exact V
 |y::l,[],acc,X,h,V=>by have:=h.len;simp at this
 |y::l,O::W,acc,X,h,V=>by
  obtain⟨Q,P⟩:=h.cons;simp only[aJ2];exact amc P (ama Q V)
def abV{f g:aH->Bool}:∀{l X:am},(∀x W,mE x W->f x=g W)->eH l X->l.all f=X.all g
 |[],X,_,h=>by rw[h.TH];rfl
 |y::l,[],_,h=>by have:=h.len;simp at this
 |y::l,P::X,V,h=>by
  obtain⟨R,Q⟩:=h.cons;simp only[aKv,V _ _ R,abV V Q]
def amd{X:aW}:∀{l W:am},eH l W->vZ X.lt l=vZ X.lt W
 |[],W,h=>by rw[h.TH]
 |y::l,[],h=>by have:=h.len;simp at this
 |y::l,V::W,h=>by
  obtain⟨R,Q⟩:=h.cons;have O:(l.all λz=>X.lt y z||X.lt z y)=W.all λz=>X.lt V z||X.lt z V:=abV (λx N P=>by rw[abU R P,abU P R]) Q
  simp only[vZ,amd Q,O]
def ame{sp:aW}{V:Bool}{l R r:am}(h:eH l R)(X:gR sp V l=U r):∃Q,gR sp V R=U Q/\eH r Q:=by
 cases sp with
 |cn k o L=>simp[gR] at X
 |_=>
  simp only[gR] at X⊢;rw[abV (λx H P=>ayO P) h,amd h,h.len] at X;split at X;rename_i O;cases X;rw[if_pos O];exact⟨_,rfl,amc h ⟨rfl,λi N M W=>by simp at W,λi j N M c G W=>by simp at W⟩⟩;cases X
def eH.getD{l X:am}(h:eH l X)(i:Nat):mE (l.getD i []) (X.getD i []):=by
 simp only[aIC];cases V:l[i]? with
 |none=>
  have:X[i]?=none:=by rw[aJk] at V⊢;have:=h.len;omega
  rw[this];exact⟨rfl,λj c W R=>by simp at R⟩
 |some c=>
  obtain⟨W,Q⟩:∃W,X[i]?=U W:=by
   have:i<Y l:=(aIz.1 V).1;exact⟨X[i]'(by have:=h.len;omega),aIA _⟩
  rw[Q];exact⟨h.row i c W V Q,λj x P R O=>h.cell i j c W x P V Q R O⟩
def eH.set{x X:aH}(W:mE x X):∀{l V:am}(_:eH l V)(i:Nat),eH (l.set i x) (V.set i X)
 |[],[],h,_=>h
 |[],_::_,h,_=>by have:=h.len;simp at this
 |_::_,[],h,_=>by have:=h.len;simp at this
 |r::R,Q::P,h,0=>eH.DF W h.cons.2
 |r::R,Q::P,h,i+1=>eH.DF h.cons.1 (eH.set W h.cons.2 i)
def abW{l X:am}(h:eH l X):∀(n:Nat)(i:Int),eH (s4 n i l) (s4 n i X)
 |0,_=>h
 |n+1,i=>by
  simp only[s4,<-(h.getD i.toNat).key 0];split;exact h;exact eH.set ((abW h n _).getD _) (abW h n _) _
def ayP{l X:am}(h:eH l X):BB l=BB X:=by
 have e:(λk=>decide (0<=aT 0 (l.getD k []))&&decide (aT 0 (l.getD k [])<=k))=λk:Nat=>decide (0<=aT 0 (X.getD k []))&&decide (aT 0 (X.getD k [])<=k):=by
  funext k;rw[(h.getD k).key 0]
 unfold BB;rw[e,h.len]
def ayQ{R:aa}(Q:jo F R)(W:aW)(V:Bool)(l:am):mC F W V l=mC R W V l:=by
 cases W with
 |lex P d=>rfl
 |ratio n d=>rfl
 |cn k o X=>
  cases V with
  |false=>rfl
  |true=>
   cases X with
   |nil=>rfl
   |cons i X=>
    cases X with
    |nil=>simp only[mC,IE.cG Q i]
    |cons j X=>rfl
def amf{Q:aa}(M:jo F Q){V:aW}{R:Bool}{l P r:am}(h:eH l P)(X:mC F V R l=U r):∃N,mC Q V R P=U N/\eH r N:=by
 cases V with
 |lex L d=>exact ame (sp:=.lex L d) h X
 |ratio n d=>exact ame (sp:=.ratio n d) h X
 |cn k o W=>
  cases R with
  |false=>simp[mC] at X
  |true=>
   cases W with
   |nil=>simp[mC] at X
   |cons i W=>
    cases W with
    |nil=>
     simp only[mC,BC] at X⊢;rw[h.len,ayP h,IE.cG M i] at X;split at X;rename_i H;cases X;rw[if_pos H];exact⟨_,rfl,abW h _ _⟩;cases X
    |cons j W=>simp[mC] at X
def cE.dO{a b:RV}(h:cE a b){M:aa}(L:jo F M){W:aW}{V:Bool}{R Q:am}(X:mC F W V a.rows=U R)(P:mC M W V b.rows=U Q):cE (.mk a.val R) (.mk b.val Q):=by
 obtain⟨y,H,N⟩:=amf L h.JR X;rw[P] at H;cases H;cases h with
 |sl A G D C B z ay x w q3=>exact cE.sl A G D C B R Q N.len N.row N.cell
 |val v z u=>
  rw[RV.lA] at X P;rw[ayQ L W V,P] at X;cases X;exact cE.refl _
def ayR{W:RV}{R:am}(V:db r (.own v) (.mk W.val R) N)(Q:∀x∈R,x∈W.rows):db r (.own v) W N:=by
 obtain⟨X,P⟩:=W;simp only[RV.lZ,RV.lA] at V Q;cases V with
 |own v W N V=>
  refine db.own v _ N ?_;generalize O:RV.mk X R=W at V;cases V with
  |here v a M L ay=>cases O;exact db.here v a M L P
  |deep v y ay i j H c z k N G F D C=>
   cases O;obtain⟨B,A⟩:=aJg (Q _ (aIW G));exact db.deep v X P B j H c z k N A F D C
mutual
def TJ:RV->RV->Bool
 |.mk v X,.mk W ay=>(match v,W with
  |.int k a,.int V b=>decide (k=V)&&a==b
  |.bool a,.bool b=>a==b
  |.string a,.string b=>decide (a=b)
  |.slice Z a b,.slice Z c d=>a==c&&b==d
  |_,_=>E)&&JS X ay
def JS:am->am->Bool
 |[],[]=>J
 |r::X,W::V=>JT r W&&JS X V
 |_,_=>E
def JT:aH->aH->Bool
 |[],[]=>J
 |c::X,W::V=>TJ c W&&JT X V
 |_,_=>E
end
def N1:XV->XV->Bool
 |.i a,.i b=>a==b
 |.b a,.b b=>a==b
 |.r a,.r b=>TJ a b
 |_,_=>E
def N2:aV->aV->Bool
 |[],[]=>J
 |x::X,y::W=>N1 x y&&N2 X W
 |_,_=>E
def amg:Value->Value->Bool
 |.iface t (.int k a),.iface X (.int W b)=>t==X&&decide (k=W)&&a==b
 |_,_=>E
def TK:bD->bD->Bool
 |.ret a,.ret b=>N2 a b
 |.bn a,.bn b=>amg a b
 |_,_=>E
mutual
def amh:∀(a b:RV),TJ a b=J->a=b
 |.mk v X,.mk R ay,h=>by
  simp only[TJ,aIy] at h;have W:=ami X ay h.2;subst W;congr 1;have V:=h.1;split at V<;>simp_all
def ami:∀(a b:am),JS a b=J->a=b
 |[],[],_=>rfl
 |[],_::_,h=>by simp[JS] at h
 |_::_,[],h=>by simp[JS] at h
 |r::X,W::V,h=>by
  simp only[JS,aIy] at h;rw[amj r W h.1,ami X V h.2]
def amj:∀(a b:aH),JT a b=J->a=b
 |[],[],_=>rfl
 |[],_::_,h=>by simp[JT] at h
 |_::_,[],h=>by simp[JT] at h
 |r::X,W::V,h=>by
  simp only[JT,aIy] at h;rw[amh r W h.1,amj X V h.2]
end
def ayS:∀(a b:XV),N1 a b=J->a=b
 |.i a,b,h=>by cases b<;>simp[N1] at h;rw[h]
 |.b a,b,h=>by cases b<;>simp[N1] at h;rw[h]
 |.r a,b,h=>by cases b<;>simp[N1] at h;rw[amh _ _ h]
def amk:∀(a b:aV),N2 a b=J->a=b
 |[],b,h=>by cases b<;>simp[N2] at h;rfl
 |x::X,b,h=>by cases b<;>simp[N2] at h;rw[ayS _ _ h.1,amk _ _ h.2]
def ayT:∀(a b:bD),TK a b=J->a=b
 |.ret a,b,h=>by cases b<;>simp[TK] at h;rw[amk _ _ h]
 |.bn a,b,h=>by
  cases b<;>simp[TK] at h;rename_i v;unfold amg at h;split at h;simp only[aIy,beq_iff_eq,decide_eq_true_eq] at h;obtain⟨⟨rfl,rfl⟩,rfl⟩:=h;rfl;cases h
open Classical in
def B9(a b:bD):Bool:=TK a b||decide (a=b)
def abX(o:bD):B9 o o=true:=by simp[B9]
def ayU(a b:bD)(h:B9 a b=J):a=b:=by
 simp only[B9,aIZ,decide_eq_true_eq] at h;exact h.elim (ayT a b) id
def zV:jF->jF->jF
 |U a,U b=>if B9 a b then U a else Z
 |_,_=>Z
def td:List jF->jF
 |[]=>Z
 |[o]=>o
 |o::X=>zV o (td X)
def TL{a b:jF}{o:bD}(h:zV a b=U o):a=U o/\b=U o:=by
 unfold zV at h;split at h;split at h;rename_i x y X;cases h;rw[ayU _ _ X];exact⟨rfl,rfl⟩;cases h;cases h
def TN:∀{l:List jF}{o:bD},td l=U o->∀x∈l,x=U o
 |[],o,h=>by simp[td] at h
 |[x],o,h=>by simp only[td] at h;intro y W;simp at W;rw[W];exact h
 |x::y::r,o,h=>by
  simp only[td] at h;obtain⟨V,R⟩:=TL h;intro z X;rcases aIK.1 X with rfl|X;exact V;exact TN (l:=y::r) R z X
def aml{a b X W:jF}{o:bD}(h:zV a b=U o)(Q:a=U o->X=U o)(P:b=U o->W=U o):zV X W=U o:=by
 obtain⟨V,R⟩:=TL h;rw[V,R] at h;rw[Q V,P R];exact h
def amm{X:Type}{l:List X}{f g:X->jF}{o:bD}(h:td (l.map f)=U o)(V:∀x∈l,f x=U o->g x=U o):td (l.map g)=U o:=by
 rw[<-h];congr 1;refine aIY λx W=> ?_
 have:=TN h (f x) (aI3.2 ⟨x,W,rfl⟩);rw[this,V x W this]
def wj(m:IE)(g h:BE)(O:aa):List (Option Int):=(((aI5 (m.den O).toNat).map λ(j:Nat)=>(j:Int)).filter λj=>g.den (O.add (.i j))).map U++(if h.den O then[Z] else[])
def ayV{m:IE}{g h:BE}{j:Int}(W:0<=j)(V:j<m.den F)(X:g.den (F.add (.i j))=J):U j∈wj m g h F:=by
 simp only[wj,aIM,aI3,aJj,aJQ];exact .inl ⟨j,⟨⟨j.toNat,by omega,by omega⟩,X⟩,rfl⟩
def ayW{m:IE}{g h:BE}(X:h.den F=J):Z∈wj m g h F:=by
 simp[wj,X]
def run(V:Ty)(R Q:FuncId->iE)(bm:md)(P:i5):Nat->T->aa->bc->List Fr->jF
 |0,_,_,_,_=>Z
 |n+1,.ret v _ N,O,X,_=>if B7 X N then abQ V P v N O else Z
 |n+1,.bn v,O,_,_=>(Gr O v).map .bn
 |n+1,.node b t f,O,X,W=>if b.den O then run V R Q bm P n t O X W else run V R Q bm P n f O X W
 |n+1,.bj b t,O,X,W=>if b.den O then run V R Q bm P n t O X W else Z
 |n+1,.call f F _ N M im t,O,X,W=>if B7 X N then(match abR V R Q f F N M im O with
   |U D=>match bm f D with
    |U (.ret H)=>if iP M H then run V R Q bm P n t (O.ext H) (X++iT M) W else Z
    |U (.bn v)=>U (.bn v)
    |none=>Z
   |none=>Z) else Z
 |n+1,.loop aq M G t,O,X,W=>if jG V X M G then run V R Q bm P n t (O.ext (G.map (SV.xv O))) (X++iT M) (⟨aq,M,t,O,X++iT M⟩::W) else Z
 |n+1,.back aq x,O,X,W=>match Gs aq W with
  |U (L,C)=>if jG V X L.ks x then run V R Q bm P n L.t (L.O.ext (x.map (SV.xv O))) L.rs (L::C) else Z
  |none=>Z
 |n+1,.rows k x _ t,O,X,W=>if abT k then run V R Q bm P n t (O.add (.r (gz x O))) (X++[k]) W else Z
 |n+1,.gp g h t f,O,X,W=>if g.den O then(if h.den O then zV (run V R Q bm P n t O X W) (run V R Q bm P n f O X W) else run V R Q bm P n t O X W) else(if h.den O then run V R Q bm P n f O X W else Z)
 |n+1,.pick m g h t f,O,X,W=>td ((wj m g h O).map λj=>match j with
  |U j=>run V R Q bm P n t (O.add (.i j)) X W
  |none=>run V R Q bm P n f O X W)
 |n+1,.dO _ _ e B A r N t,O,X,W=>if B8 X N&&abS X r e then(match mC O B A (r.rv O).rows with
  |U z=>run V R Q bm P n t (O.add (.r (.mk (r.rv O).val z))) (X++[.own e]) W
  |none=>Z) else Z
 |n+1,.new e x N _ t,O,X,W=>if B8 X N then run V R Q bm P n t (O.add (.r (gz x O))) (X++[.own e]) W else Z
 |_,_,_,_,_=>Z
end
def N3{W:World}(h:fk [] k W):Below k.heap.size k W:=⟨h.os,h.tape,h.output,h.size,λX V=>h.block X V (by simp)⟩
def ayX{b c:World}(h:Below k.heap.size k b)(X:Below b.heap.size b c):Below k.heap.size k c:=h.trans (X.mono h.size)
def nU:aP->aV->fe
 |k::X,x::W=>x.at k::nU X W
 |_,_=>[]
def uC(u:Ty):i5->fe->fe
 |[],_=>[]
 |t::W,l=>match u t with
  |U X=>(if X.d.isAgg then .agg (l.take (Y X.ae)).toArray else l.getD 0 undef)::uC u W (l.drop (Y X.ae))
  |none=>[]
def Gt:fe->Value
 |[v]=>v
 |l=>.tuple l.toArray
def amn{u:Ty}:∀{X:i5}{W l:ah},jp u X W=U l->Y X=Y W
 |[],[],l,_=>rfl
 |[],_::_,l,h=>by simp[jp] at h
 |_::_,[],l,h=>by simp[jp] at h
 |t::X,v::W,l,h=>by
  simp only[jp] at h;split at h;rename_i R r Q V;simp[amn V];cases h
def TO{u:Ty}{O:aa}{V:ai}:∀{W:i5}{R l:ah},jp u W R=U l->SV.aA O V R=uC u W (SV.aA O V l)
 |[],[],l,_=>rfl
 |[],_::_,l,h=>by simp[jp] at h
 |_::_,[],l,h=>by simp[jp] at h
 |t::W,v::R,l,h=>by
  simp only[jp] at h;split at h;rename_i H r M L;have N:=TO (O:=O) (V:=V) L;simp only[uC,M];split at h;rename_i Q;rw[if_pos Q];split at h;rename_i F;split at h;rename_i X;simp only[beq_iff_eq] at X;cases h;rw[Sj,<-X,List.take_left' (by simp),aK0 (by simp),<-N];simp only[SV.aA,SV.den];cases h;cases h;rename_i Q;rw[if_neg Q];split at h;rename_i X;simp only[beq_iff_eq] at X;cases h;rw[X];simp only[SV.aA,aJP,List.drop_succ_cons,aLR,<-N];cases h;cases h
def amo{W:i5}(h:jp r W (yc (Y W) l)=U z):l.den F B=Gt (uC r W (SV.aA F B z)):=by
 have R:=amn h;rw[<-TO h];cases l
 case bH M=>
  simp only[yc] at R⊢;by_cases Q:Y W==1;simp[Q,SV.aA,Gt];simp only[Q,if_false,aIU] at R⊢;have N:Y M≠1:=by rw[<-R];simpa using Q
  match M,N with
  |[],_=>simp[SV.aA,Gt,SV.den]
  |[x],N=>simp at N
  |x::y::X,_=>simp[SV.aA,Gt,SV.den]
 all_goals simp[yc,SV.aA,Gt]
def ayY{O:aa}{V:ai}{k:LK}(h:DG r w k l=J):l.den O V=(l.xv O).at k/\pT k (l.xv O):=by
 unfold DG at h;split at h;rename_i k X e;simp at h;subst h;exact⟨rfl,trivial⟩;exact⟨rfl,trivial⟩;exact⟨rfl,trivial⟩;cases h
def JU{u:Ty}{W:bc}{O:aa}{V:ai}:∀{X:aP}{l:ah},jG u W X l=J->SV.aA O V l=nU X (l.map (SV.xv O))/\dU X (l.map (SV.xv O))
 |[],[],_=>⟨rfl,trivial⟩
 |[],_::_,h=>by simp[jG] at h
 |_::_,[],h=>by simp[jG] at h
 |k::X,v::l,h=>by
  simp only[jG,aIy] at h;obtain⟨R,Q⟩:=ayY (O:=O) (V:=V) h.1;obtain⟨N,M⟩:=JU (O:=O) (V:=V) h.2;exact⟨by simp only[SV.aA,aIP,nU,R,N],Q,M⟩
def ayZ(h:iP f b=J):dU f b:=by
 induction f generalizing b with
 |nil=>cases b with
  |nil=>trivial
  |cons=>simp[iP] at h
 |cons k f X=>cases b with
  |nil=>simp[iP] at h
  |cons x b=>
   simp only[iP,aIy] at h;refine⟨?_,X h.2⟩;cases k<;>cases x<;>first|trivial|simp[abP] at h
def abY:∀{X:aP}{W V:aV},dU X V->zU W V->dU X W
 |[],[],[],_,_=>trivial
 |[],_::_,[],_,h=>h.elim
 |[],_,_::_,h,_=>h.elim
 |_::_,_,[],h,_=>h.elim
 |_::_,[],_::_,_,h=>h.elim
 |k::X,x::W,y::V,h,R=>by
  refine⟨?_,abY h.2 R.2⟩;have Q:=h.1;have O:=R.1;cases k<;>cases x<;>cases y<;>simp_all[pT,JQ]
def N4{O X:aa}(h:jo O X):∀l:ah,zU (l.map (SV.xv O)) (l.map (SV.xv X))
 |[]=>trivial
 |v::l=>⟨SV.ayM h v,N4 h l⟩
def N5{V:ai}:∀{R:aP}{l:ah}{X:aV}{O:aa}{a b c:Nat},rC a b c R l=J->dU R X->Y O.i=a->Y O.b=b->Y O.r=c->SV.aA (O.ext X) V l=nU R X
 |[],[],[],O,a,b,c,_,_,_,_,_=>rfl
 |[],[],_::_,O,a,b,c,_,h,_,_,_=>h.elim
 |[],_::_,X,O,a,b,c,h,_,_,_,_=>by simp[rC] at h
 |k::R,[],X,O,a,b,c,h,_,_,_,_=>by cases k<;>simp[rC] at h
 |_::_,_::_,[],O,a,b,c,_,h,_,_,_=>h.elim
 |k::R,v::l,x::X,O,a,b,c,h,C,Q,N,M=>by
  have H:=Dp X (O.add x);obtain⟨F,D⟩:=C;simp only[SV.aA,aa.ext,nU];unfold rC at h;split at h;rename_i W;cases W;rename_i W L;cases W;cases L;cases x<;>simp[pT] at F;simp only[aIy,decide_eq_true_eq,beq_iff_eq] at h;obtain⟨⟨rfl,rfl⟩,h⟩:=h;rw[N5 h D (by simp[aa.add,Q]) (by simp[aa.add,N]) (by simp[aa.add,M])];simp only[SV.den,IE.den,XV.at];rw[H.i _ (by simp[aa.add,Q])];simp[aa.add,<-Q];rename_i W L;cases W;cases L;cases x<;>simp[pT] at F;simp only[aIy,beq_iff_eq] at h;obtain⟨rfl,h⟩:=h;rw[N5 h D (by simp[aa.add,Q]) (by simp[aa.add,N]) (by simp[aa.add,M])];simp only[SV.den,BE.den,XV.at];rw[H.b _ (by simp[aa.add,N])];simp[aa.add,<-N];rename_i W L;cases W;cases L;cases x<;>simp[pT] at F;simp only[aIy,beq_iff_eq] at h;obtain⟨rfl,h⟩:=h;rw[N5 h D (by simp[aa.add,Q]) (by simp[aa.add,N]) (by simp[aa.add,M])];simp only[SV.den,RE.den,RE.rv,XV.at];rw[H.r _ (by simp[aa.add,M])];simp[aa.add,aa.rv,<-M];cases h
def ay0{s:S}{X:RE}{e:RK}(L:e≠ .aI)(h:X.kind r s=e)(V:db r e (X.rv F) N):F.oz r s.rs N:=by
 obtain⟨R,Q,D,M,W⟩:=SC L h V;rcases W with⟨rfl,W⟩|⟨t,W,H⟩;exact⟨R,Q,M,SB (by rw[W];exact V)⟩;exact⟨R,Q,M,Jl W H⟩
def amp{e:RK}{X:RV}(h:db r e X N):db r e.rd X N:=by
 cases h with
 |own e X N h=>exact h
 |here e a V R W=>exact db.here e a V R W
 |deep e v W i j Q c z k N O M L H=>exact db.deep e v W i j Q c z k N O M L H
def ye(u:Ty)(W:aP)(V:aV)(b:Nat):Prop:=∃(q:Nat)(e:RK)(X:RV),W[q]?=U (.ref e)/\V[q]?=U (.r X)/\db u e X b
def amq{u:Ty}{R:bc}:∀{W:aP}{l:ah},jG u R W l=J->∀(q:Nat)(k:LK)(v:SV),W[q]?=U k->l[q]?=U v->DG u R k v=J
 |[],_,_,q,k,v,X,_=>by simp at X
 |_::_,[],h,q,k,v,_,_=>by simp[jG] at h
 |Q::W,O::l,h,0,k,v,X,V=>by simp only[jG,aIy] at h;simp at X V;subst X V;exact h.1
 |Q::W,O::l,h,q+1,k,v,X,V=>by simp only[jG,aIy] at h;exact amq h.2 q k v (by simpa using X) (by simpa using V)
def amr(h:jG r w f z=J){e:RK}{Q:RV}(L:f[N]?=U (.ref e))(W:(z.map (SV.xv F))[N]?=U (.r Q)):
  ∃X:RE,((∃M,e=.mr M/\X.oZ r ⟨[],[],0,0,w,0,0,[]⟩ M=J)\/X.fits r ⟨[],[],0,0,w,0,0,[]⟩ e.rd=J)/\Q=X.rv F:=by
 rw[aIE] at W;cases R:z[N]? with
 |none=>rw[R] at W;cases W
 |some v=>
  rw[R] at W;have:=amq h N _ v L R;unfold DG at this;split at this;rename_i V;cases V;rename_i V;cases V;rename_i V;cases V;simp only[aII,aID,SV.xv,XV.r.injEq] at W;refine⟨_, ?_,W.symm⟩;split at this;exact .inl ⟨_,rfl,this⟩;exact .inr this;cases this
def N6(h:jG r w f z=J)(Q:ye r f (z.map (SV.xv F)) N):F.oz r w N:=by
 obtain⟨q,e,C,M,L,V⟩:=Q;obtain⟨X,W,rfl⟩:=amr h M L;rcases W with⟨B,rfl,-⟩|W;cases V;have R:=amp V;obtain⟨H,D⟩:=aap (O:=F) W R;exact ay0 (s:=⟨[],[],0,0,w,0,0,[]⟩) D H R
def yf(u:Ty)(W:World)(V:aP)(R:aV):Prop:=∀(q:Nat)(e:RK)(X:RV),V[q]?=U (.ref e)->R[q]?=U (.r X)->bu W u e X
def ams{u:Ty}{W:World}{B:Nat}{old:Nat->Prop}:∀{V:aP}{X:aV},yf u W V X->(∀b,ye u V X b->B<=b\/old b)->I5 u W B old V X
 |[],X,_,_=>by cases X<;>trivial
 |_::_,[],_,_=>trivial
 |k::V,x::X,h,N=>by
  refine⟨?_,ams (λq e R Q O=>h (q+1) e R (by simpa using Q) (by simpa using O)) (λb ⟨q,e,R,Q,O,M⟩=>N b ⟨q+1,e,R,by simpa using Q,by simpa using O,M⟩)⟩;cases k<;>cases x<;>try trivial
  exact⟨h 0 _ _ rfl rfl,λb L=>N b ⟨0,_,_,rfl,rfl,L⟩⟩
def TP(C W:World):dG C bQ.none [] [] [] W:=⟨rfl,rfl,λn l r X h=>by simp[bQ.none] at h,λn V l r R h=>by simp[bQ.none] at h,[],rfl,λ_=>rfl,by simp[bQ.none],λd h=>by simp[bQ.none] at h⟩
def jB.TQ{N:ai}{C:World}{V:ai}{O:aa}{L:bw}{u:Ty}{X:bc}{W:World}(R:jB N C V O L u X W)(H:Y O.r=Y X)(F:∀(k:Nat)(t:TypeId),X[k]?≠U (.own t)):av N C bQ.none u [] (O.at []) ⟨[],[],Y O.i,Y O.b,X,0,0,[]⟩ ⟨#[],[]⟩ W:=
 ⟨⟨R.base,λi h=>by simp[aL,cw] at h,λi j h=>by simp[aL,cw] at h,λi t A h=>by simp[cw] at h,λk e M Q D=>⟨(R.ref k e M Q D).1,λb z i B=>by simp[aL,cw] at B⟩⟩,rfl,rfl,rfl,H,TP _ _,rfl,λt y h=>by simp at h,λk e M b Q=>absurd Q (F k e)⟩
def TR:∀{l W:bc},B7 l W=J->oA l W/\∀(k:Nat)(t:TypeId),W[k]?≠U (.own t)
 |[],[],_=>⟨oA.refl _,λk t h=>by simp at h⟩
 |[],_::_,h=>by simp[B7] at h
 |_::_,[],h=>by simp[B7] at h
 |x::N,y::M,h=>by
  simp only[B7,aIy] at h;obtain⟨V,Q⟩:=TR h.2;have R:pi x y/\∀t,y≠ .own t:=by
   have L:=h.1;cases x<;>cases y<;>simp_all[TG,pi]
  refine⟨⟨by simp[V.len],λk O X=> ?_⟩,λk t X=> ?_⟩;cases k with
  |zero=>simp at X;subst X;exact⟨x,rfl,R.1⟩
  |succ k=>exact V.get k O (by simpa using X)
  cases k with
  |zero=>simp at X;exact R.2 t X
  |succ k=>exact Q k t (by simpa using X)
def ay1{e:RK}(h:FX (.ref e)=J):e.rd=e:=by cases e<;>simp[FX] at h<;>rfl
def abZ{X:bc}(h:oA w X)(W:F.oz r X N):F.oz r w N:=by
 obtain⟨k,e,V,R⟩:=W;obtain⟨Q,M,L⟩:=h.get k e V;exact⟨k,Q,M,R.mc L⟩
def amt:∀{l W:bc},B8 l W=J->oA l W
 |[],[],_=>oA.refl _
 |[],_::_,h=>by simp[B8] at h
 |_::_,[],h=>by simp[B8] at h
 |x::O,y::N,h=>by
  simp only[B8,aIy] at h;have V:=amt h.2;have R:pi x y:=by
   have M:=h.1;cases x<;>cases y<;>simp_all[TG,al8,pi]
  refine⟨by simp[V.len],λk Q X=> ?_⟩;cases k with
  |zero=>simp at X;subst X;exact⟨x,rfl,R⟩
  |succ k=>exact V.get k Q (by simpa using X)
def amu{D:ai}{C:World}{V:ai}{O:aa}{B:bw}{u:Ty}{Q:bc}{W:World}(R:jB D C V O B u Q W)(M:Y O.r=Y Q)(L:∀(k:Nat)(t:TypeId),Q[k]?≠U (.own t)){N:aP}{l:ah}(h:jG u Q N l=J)(A:ov N=J):yf u W N (l.map (SV.xv O)):=by
 intro q e y H z;obtain⟨r,X,rfl⟩:=amr h H z;rcases X with⟨F,rfl,X⟩|X;simp only[RE.oZ,aIZ,decide_eq_true_eq] at X;rcases X with X|X;have:=pV (R.TQ M L) (e:=.mr F) (r:=r) (by simp) (by
  rw[BT (s:=⟨[],[],Y O.i,Y O.b,Q,0,0,[]⟩) (s':=⟨[],[],0,0,Q,0,0,[]⟩) rfl r];exact X)
 rwa [RE.kW] at this
 unfold RE.nil at X;split at X;exact bu.mr F [] (by simp) (by simp) (by simp) (by simp);cases X;have:=ajD (R.TQ M L) (k:=e.rd) (r:=r) (by
  unfold RE.fits at X⊢;rw[BT (s:=⟨[],[],Y O.i,Y O.b,Q,0,0,[]⟩) (s':=⟨[],[],0,0,Q,0,0,[]⟩) rfl r];exact X)
 rwa [ay1 (S3 A H),RE.kW] at this
def Gu(u:Ty)(B:Nat)(old:Nat->Prop)(O:aa)(X:bc):Prop:=∀b,O.oz u X b->B<=b\/old b
def TS:∀(X:aP)(s:S),(s.bS X).2.rs=s.rs++iT X
 |[],s=>by simp[S.bS,iT]
 |k::X,s=>by
  simp only[S.bS];rw[TS X];cases k<;>simp[S.fresh,iT]
def N7(X:dU f b)(W:Y F.r=Y w):(F.ext b).r.length=(w++iT f).length:=by
 have:=(xX f b ⟨[],[],Y F.i,Y F.b,w,0,0,[]⟩ F X rfl rfl W).2.2
 rwa [TS] at this
def Gu.ext{u:Ty}{B:Nat}{old:Nat->Prop}{O:aa}{V:bc}(h:Gu u B old O V){R:aP}{X:aV}(L:dU R X)(H:Y O.r=Y V)(D:∀b,ye u R X b->B<=b\/old b):Gu u B old (O.ext X) (V++iT R):=by
 intro b ⟨k,e,F,C⟩;have A:k<(O.ext X).r.length:=by rw[N7 L H];exact(aIz.1 F).1
 have z:(O.ext X).r[k]?=U ((O.ext X).rv k):=by simp[aa.rv,A]
 have:=Gh (PP:=λe W=>∀b,db u e W b->B<=b\/old b) R X ⟨[],[],Y O.i,Y O.b,V,0,0,[]⟩ O L H
  (λq e W N Q b M=>D b ⟨q,e,W,N,Q,M⟩) (λk e W N Q b M=>h b ⟨k,e,N,by
   have y:k<Y O.r:=(aIz.1 Q).1;have:O.rv k=W:=by simp[aa.rv,Q]
   rw[this];exact M⟩)
 rw[TS] at this;exact this k e _ F z b C
def N8(u:Ty)(D:i5)(Q:aP)(C:World)(X:aP)(d:aV)(out:bD):Ending->World->Prop
 |.returned v,V=>∃R W,out=.ret R/\zU R W/\dU Q W/\v=Gt (uC u D (nU Q W))/\Below C.heap.size C V/\yf u V Q W/\∀b,ye u Q W b->C.heap.size<=b\/ye u X d b
 |.panicked O,V=>Below C.heap.size C V/\∃v,out=.bn v/\O=[{v:=v,recovered:=E}]
 |.outgrown,_=>False
def Gv(P:Program)(u:Ty)(H M:FuncId->iE)(G:World->Prop)(f:FuncId)(F:aV->jF):Prop:=
 ∀R D X Q,H f=U R->M f=U D->gJ u R=U X->gJ u D=U Q->∀(O V:aV)(out:bD),F O=U out->zU O V->dU X V->∀W,G W->yf u W X V->
  Calls P f (uC u R (nU X V)).toArray W (N8 u D Q W X V out)
section
variable{P:Program}{u:Ty}{H M:FuncId->iE}{bm:md}{G:World->Prop}{C:World}{D:i5}{Q X:aP}{d:aV}{out:bD}{old:Nat->Prop}
def N9(P:Program)(u:Ty)(C:World)(D:i5)(Q X:aP)(d:aV)(out:bD):Sp:=⟨P,u,[],C,bQ.none,N8 u D Q C X d out,λ_ _ _=>False⟩
def Oa(u:Ty)(H M:FuncId->iE)(bm:md)(D:i5)(out:bD)(X:Fr)(V:List Fr)(R:aV)(n:Nat):Prop:=∃W,zU W R/\run u H M bm D n X.t (X.O.ext W) X.rs (X::V)=U out
def IOf(u:Ty)(H M:FuncId->iE)(bm:md)(C:World)(D:i5)(old:Nat->Prop)(out:bD)(X:Fr)(V:List Fr)(N:Nat)(W:aV):Prop:=
 (∀b,ye u X.ks W b->C.heap.size<=b\/old b)/\∃n,n<=N/\Oa u H M bm D out X V W n
def amv(W:World)(V:List PanicEntry)(R:World)(b:Nat)(o:Obj)(N:W.heap.size<=b)(h:N8 u D Q W X d out (.panicked V) R):N8 u D Q W X d out (.panicked V) (R.putObj b o):=
 ⟨⟨h.1.os,h.1.tape,h.1.output,by have:=h.1.size;simpa[World.putObj] using this,λk O=>(World.putObj_heap_other (by omega)).trans (h.1.block k O)⟩,h.2⟩
def ay2{p:Nat->Prop}:∀{n:Nat},p n->∃m,p m/\m<=n/\∀k,p k->m<=k:=by
 intro n;induction n using aKZ with
 |ind n V=>
  intro h;by_cases W:∃k,k<n/\p k;obtain⟨k,X,R⟩:=W;obtain⟨m,Q,M,O⟩:=V k X R;exact⟨m,Q,by omega,O⟩;exact⟨n,h,aIG _,λk X=>by by_cases N:k<n;exact absurd ⟨k,N,X⟩ W;omega⟩
open Classical in
noncomputable def JV(p:Nat->Prop):Nat:=if h:∃m,p m/\∀k,p k->m<=k then Classical.choose h else 0
def amw{p:Nat->Prop}(h:p N):p (JV p)/\JV p<=N:=by
 obtain⟨m,W,R,V⟩:=ay2 h;have X:∃m,p m/\∀k,p k->m<=k:=⟨m,W,V⟩;unfold JV;rw[dif_pos X];exact⟨(Classical.choose_spec X).1,(Classical.choose_spec X).2 N h⟩
inductive uD(u:Ty)(H M:FuncId->Option (List TypeId))(bm:md)(C:World)(D:List TypeId)(old:Nat->Prop)(out:bD):Nat->List Fr->List LC->Prop where
 |nil (n:Nat):uD u H M bm C D old out n [] []
 |cons (n N m:Nat) (fr:Fr) (st:List Fr) (L:List LC):n<=m->m<=N->uD u H M bm C D old out n st L->
   uD u H M bm C D old out n (fr::st) (⟨fr.aq,IOf u H M bm C D old out fr st N,λxs=>JV (Oa u H M bm D out fr st xs),m⟩::L)
def uD.mono{V:Nat}{W:List Fr}(h:uD u H M bm C D old out N W g)(O:V<=N):uD u H M bm C D old out V W g:=by
 induction h with
 |nil=>exact uD.nil _
 |cons X m F W g B R A Q=>exact uD.cons _ _ _ _ _ _ (by omega) R Q
def uD.find{aq:Nat}{R Q:List Fr}{V:Fr}(h:uD u H M bm C D old out N R g)(W:Gs aq R=U (V,Q)):
  ∃X m,N<=m/\m<=X/\mB aq g=U ⟨V.aq,IOf u H M bm C D old out V Q X,λF=>JV (Oa u H M bm D out V Q F),m⟩:=by
 induction h with
 |nil=>simp[Gs] at W
 |cons X m s R g B A r z=>
  simp only[Gs] at W;split at W;rename_i O;cases W;exact⟨X,m,B,A,by simp[mB,O]⟩;rename_i O;obtain⟨y,x,w,v,t⟩:=z W;exact⟨y,x,w,v,by simp only[mB,O,if_false];exact t⟩
def ay3(br:∀f,Gv P u H M G f (bm f))(hG:∀W W',Below W.heap.size W W'->G W->G W')(bs:G C)(bt:gJ u D=U Q)(b0:∀ys b,ye u Q ys b->old b->ye u X d b):
  ∀(n:Nat)(t:T)(p O:aa)(F:bc)(st:List Fr)(L:cV),run u H M bm D n t p F st=U out->jo p O->Y O.r=Y F->Gu u C.heap.size old O F->uD u H M bm C D old out n st L->
   t.aQ (N9 P u C D Q X d out) O L:=by
 intro n;induction n using aKZ with
 |ind n IH=>
  intro t p O F st L h R B w hC;cases n with
  |zero=>simp[run] at h
  |succ n=>
   cases t with
   |out e s=>simp[run] at h
   |stuck m=>simp[run] at h
   |ret v bx an=>
    simp only[run] at h;split at h;rename_i he;obtain⟨hw,a4⟩:=TR he;unfold abQ at h;split at h;rename_i l ks hl a;rw[bt] at a;cases a;split at h;rename_i af;cases h;simp only[aIy] at af;obtain⟨af,b1⟩:=af;intro y V W hR;have R:jo p (O.at y):=⟨R.i,R.b,R.len,R.r⟩;have B:(O.at y).r.length=Y F:=B;have w:Gu u C.heap.size old (O.at y) F:=w;generalize O.at y=O at R B w hR⊢;obtain⟨h1,h2⟩:=JU (O:=O) (V:=V) af;refine⟨_,l.map (SV.xv O),rfl,N4 R l,h2,by rw[amo hl,h1],N3 hR.base,amu hR (B.trans hw.len.symm) a4 af b1,λb q=>(w b (abZ hw (N6 af q))).imp id (b0 _ b q)⟩;cases h;cases h;cases h
   |bn v=>
    simp only[run,aJ8] at h;obtain⟨pv,hv,rfl⟩:=h;intro y V W hO;have R:jo p (O.at y):=⟨R.i,R.b,R.len,R.r⟩;refine⟨N3 hO,pv,rfl, ?_⟩;unfold Gr at hv;split at hv;cases hv;simp only[SV.den,IE.cG R];cases hv
   |node b t f=>
    simp only[run] at h;rw[BE.cG R] at h;refine⟨λq=> ?_,λq=> ?_⟩;rw[if_pos q] at h;exact IH n (by omega) t p O F st L h R B w (hC.mono (by omega));rw[if_neg (by simp[q])] at h;exact IH n (by omega) f p O F st L h R B w (hC.mono (by omega))
   |bj b t=>
    simp only[run] at h;rw[BE.cG R] at h;split at h;rename_i q;exact⟨q,IH n (by omega) t p O F st L h R B w (hC.mono (by omega))⟩;cases h
   |call f cy bx an ks im t=>
    simp only[run] at h;split at h;rename_i he;obtain⟨hw,a4⟩:=TR he;split at h;rename_i cA hx;unfold abR at hx;split at hx;rename_i ps b2 b3 b4;split at hx;rename_i l b5 b6 r hl b7 b8 ca;split at hx;rename_i hc;simp only[aIy,decide_eq_true_eq] at hc;obtain⟨⟨⟨c1,cp⟩,rfl⟩,c3⟩:=hc;cases hx;intro y V W hR;have a0:jo p (O.at y):=⟨R.i,R.b,R.len,R.r⟩;have cB:Gu u C.heap.size old (O.at y) F:=w;obtain⟨a1,a2⟩:=JU (O:=O.at y) (V:=V) c1;have hB:=N3 hR.base;have cc:=amu hR (B.trans hw.len.symm) a4 c1 cp;rw[TO hl,a1];cases ho:bm f (l.map (SV.xv p)) with
    |none=>rw[ho] at h;cases h
    |some o=>
     rw[ho] at h;refine(br f ps b2 b5 b6 b3 b4 b7 b8 _ _ o ho (N4 a0 l) a2 W (hG _ _ hB bs) cc).mono ?_;intro e W' hE;cases e with
     |outgrown=>exact hE.elim
     |panicked ch=>
      obtain⟨e1,pv,rfl,rfl⟩:=hE;simp only[aID] at h;subst h;exact⟨e1,ayX hB e1,pv,rfl,rfl⟩
     |returned v=>
      obtain⟨yh,ys,rfl,e2,e3,rfl,e5,e6,e7⟩:=hE;rw[show SV.xv (O.at y)=SV.xv O from funext (SV.abp O y)] at e7;simp only at h;split at h;rename_i cC;refine⟨ys,e3, ?_,e5,ams e6 (λb q=>(e7 b q).imp id (λcf=>N6 c1 cf)), ?_⟩;rw[<-NS,amo ca,N5 c3 e3 (by rw[a0.i]) (by rw[a0.b]) (by rw[a0.len])];refine IH n (by omega) t _ _ _ st L h (R.ext e2) (N7 e3 B) (w.ext e3 B (λb q=> ?_)) (hC.mono (by omega));rcases e7 b q with h1|h1;exact .inl (aJL hB.size h1);exact w b (abZ hw (N6 c1 h1));cases h
    cases hx;cases hx;cases hx;cases h;cases h
   |loop aq ks x0 t=>
    simp only[run] at h;split at h;rename_i af;have cD:=(JU (O:=O) (V:=[]) af).2;refine⟨IOf u H M bm C D old out ⟨aq,ks,t,p,F++iT ks⟩ st n,λxs=>JV (Oa u H M bm D out ⟨aq,ks,t,p,F++iT ks⟩ st xs),⟨λb q=>w b (N6 af q),n,aIG _,x0.map (SV.xv p),N4 R x0,h⟩, ?_⟩;intro xs hf ⟨i1,n1,i2,i3⟩;obtain⟨⟨xh,j1,j2⟩,j3⟩:=amw i3;refine IH _ (by omega) t _ _ _ _ _ j2 (R.ext j1) (N7 hf B) (w.ext hf B i1) ?_;exact uD.cons _ _ _ _ _ _ (aIG _) (aJL j3 i2) (hC.mono (by omega));cases h
   |back aq x=>
    simp only[run] at h;split at h;rename_i fr cl cs;split at h;rename_i af;obtain⟨N,m,g1,g2,g3⟩:=hC.find cs;simp only[T.aQ,g3];have bb:Oa u H M bm D out fr cl (x.map (SV.xv O)) n:=⟨x.map (SV.xv p),N4 R x,h⟩;refine⟨⟨λb q=>w b (N6 af q),n,by omega,bb⟩, ?_⟩;have:=(amw bb).2;omega;cases h;cases h
   |new e x an cI t=>
    simp only[run] at h;split at h;rename_i he;have hw:=amt he;intro rv bd;obtain⟨A,m,c,rfl,hm⟩:=bd.val;subst hm;refine IH n (by omega) t _ _ _ st L h (R.add (al7 R x)) (by simp[aa.add,B]) ?_ (hC.mono (by omega));intro b ⟨k,e',a,hl⟩;by_cases ag:k<Y F;rw[aIB ag] at a;refine w b ⟨k,e',a, ?_⟩;have:(O.add (.r (.mk (.slice A (x.rows O).length c) (x.rows O)))).rv k=O.rv k:=by simp[aa.rv,aa.add,aIB,B,ag]
    rw[<-this];exact hl;have al:k=Y F:=by
     have:=(aIz.1 a).1;simp at this;omega
    subst al;simp at a;subst a;have e1:(O.add (.r (.mk (.slice A (x.rows O).length c) (x.rows O)))).rv (Y F)=.mk (.slice A (x.rows O).length c) (x.rows O):=by rw[<-B];simp[aa.rv,aa.add]
    rw[e1] at hl;have ct:=amp hl;rcases bd.oz b ct with g|g|g;exact .inl g;cases g;exact w b (abZ hw g);cases h
   |rows k x an t=>
    simp only[run] at h;split at h;rename_i he;refine IH n (by omega) t _ _ _ st L h (R.add (al7 R x)) (by simp[aa.add,B]) ?_ (hC.mono (by omega));intro b ⟨k',e',a,hl⟩;by_cases ag:k'<Y F;rw[aIB ag] at a;refine w b ⟨k',e',a, ?_⟩;have:(O.add (.r (gz x O))).rv k'=O.rv k':=by simp[aa.rv,aa.add,aIB,B,ag]
    rw[<-this];exact hl;have al:k'=Y F:=by
     have:=(aIz.1 a).1;simp at this;omega
    subst al;simp at a;subst a;cases k<;>simp[abT] at he;cases hl;cases h
   |gp g h' t f=>
    simp only[run] at h;rw[BE.cG R,BE.cG R] at h;refine⟨λq=> ?_,λq=> ?_⟩;rw[if_pos q] at h;split at h;exact IH n (by omega) t p O F st L (TL h).1 R B w (hC.mono (by omega));exact IH n (by omega) t p O F st L h R B w (hC.mono (by omega));simp only[q,if_true] at h;split at h;exact IH n (by omega) f p O F st L (TL h).2 R B w (hC.mono (by omega));exact IH n (by omega) f p O F st L h R B w (hC.mono (by omega))
   |pick m g h' t f=>
    simp only[run] at h;refine⟨λj h1 h2 h3=> ?_,λq=> ?_⟩;have bf:jo (p.add (.i j)) (O.add (.i j)):=R.add (x:=.i j) (y:=.i j) rfl;have hj:=TN h _ (aI3.2 ⟨U j,ayV (g:=g) (h:=h') h1 (by rw[IE.cG R];exact h2) (by rw[BE.cG bf];exact h3),rfl⟩);exact IH n (by omega) t _ _ F st L hj bf B w (hC.mono (by omega));have hj:=TN h _ (aI3.2 ⟨Z,ayW (m:=m) (g:=g) (h:=h') (by rw[BE.cG R];exact q),rfl⟩);exact IH n (by omega) f _ _ F st L hj R B w (hC.mono (by omega))
   |dO f g e sp sb r an t=>
    simp only[run] at h;split at h;rename_i he;simp only[aIy] at he;obtain⟨he,a3⟩:=he;have bg:=RE.cG R r;split at h;rename_i cv bk;obtain⟨rows,a9,cO⟩:=amf R bg.JR bk;refine⟨rows,aiY a9, ?_⟩;have bl:=aaO (aiY a9);have cx:cE (.mk (r.rv p).val cv) (.mk (r.rv O).val rows):=bg.dO R bk a9;refine IH n (by omega) t _ _ _ st L h (R.add cx) (by simp[aa.add,B]) ?_ (hC.mono (by omega));intro b ⟨k,e',a,hl⟩;by_cases ag:k<Y F;rw[aIB ag] at a;refine w b ⟨k,e',a, ?_⟩;have:(O.add (.r (.mk (r.rv O).val rows))).rv k=O.rv k:=by simp[aa.rv,aa.add,aIB,B,ag]
    rw[<-this];exact hl;have al:k=Y F:=by
     have:=(aIz.1 a).1;simp at this;omega
    subst al;simp at a;subst a;have e1:(O.add (.r (.mk (r.rv O).val rows))).rv (Y F)=.mk (r.rv O).val rows:=by rw[<-B];simp[aa.rv,aa.add]
    rw[e1] at hl;unfold abS at a3;split at a3;rename_i k;exact w b ⟨k,_,of_decide_eq_true a3,ayR hl bl⟩;cases hl with
    |own e rv b hl=>
     have h0:rows=[]:=by
      cases rows with
      |nil=>rfl
      |cons x xs=>have:=bl x (by simp);simp[RE.rv] at this
     subst h0;simp only[RE.rv] at hl;cases hl with
     |deep e v rows i j cW c z k b h1 h2 h3 h4=>simp at h1
    cases a3;cases h;cases h
def uE:aP->Bool
 |[]=>J
 |.ref (.sl _)::_=>E
 |.ref (.own _)::_=>E
 |_::X=>uE X
def amx:∀{ks:aP}{xs:aV}{b:Nat},uE ks=J->¬ye u ks xs b
 |[],xs,b,_,⟨q,e,W,X,_,_⟩=>by simp at X
 |k::ks,xs,b,h,⟨0,e,W,X,V,R⟩=>by
  simp at X;subst X;cases R<;>simp[uE] at h
 |k::ks,[],b,h,⟨q+1,e,W,X,V,R⟩=>by simp at V
 |k::ks,x::xs,b,h,⟨q+1,e,W,X,V,R⟩=>amx (ks:=ks) (xs:=xs) (b:=b) (by
   cases k with
   |ref r=>cases r<;>simp[uE] at h⊢<;>exact h
   |int _=>simpa[uE] using h
   |bool=>simpa[uE] using h) ⟨q,e,W,by simpa using X,by simpa using V,R⟩
def fJ(X:aH)(W:aV):aa:=(⟨[],[],X,[]⟩:aa).ext W
end
variable{n:bD}
def Ob:SV->ah
 |.agg l=>l
 |v=>[v]
def pl:ah->ah
 |[]=>[]
 |v::X=>Ob v++pl X
def uF:SV->ah
 |.bH l=>pl l
 |v=>Ob v
def ay4:SV->Bool
 |.fh _ (.int _ _)=>J
 |_=>E
def nI:aP->Nat
 |[]=>0
 |.int _::X=>nI X+1
 |_::X=>nI X
def nB:aP->Nat
 |[]=>0
 |.bool::X=>nB X+1
 |_::X=>nB X
def amy(c:Ty)(d:i5)(v:SV)(W:bc):Bool:=match jp c d (yc (Y d) v),gJ c d with
 |U l,U X=>jG c W X l&&ov X
 |_,_=>E
def amz(c:Ty)(H M:FuncId->iE)(f:FuncId)(P:ah)(O N:Nat)(W:bc)(V:aP)(im:SV):Bool:=match H f,M f with
 |U R,U X=>match jp c R P,gJ c R,gJ c X,jp c X (yc (Y X) im) with
  |U l,U Q,U L,U r=>jG c W Q l&&ov Q&&decide (L=V)&&rC O N (Y W) V r
  |_,_,_,_=>E
 |_,_=>E
def Oc(aq:Nat):List (Nat×aP)->Option aP
 |[]=>Z
 |x::X=>if x.1=aq then U x.2 else Oc aq X
def T.gL(c:Ty)(H M:FuncId->iE)(d:i5):T->Nat->Nat->bc->List (Nat×aP)->Bool
 |.ret v _ P,_,_,X,_=>B7 X P&&amy c d v P
 |.bn v,_,_,_,_=>ay4 v
 |.node _ t f,V,R,X,W=>t.gL c H M d V R X W&&f.gL c H M d V R X W
 |.bj _ t,V,R,X,W=>t.gL c H M d V R X W
 |.call f O _ P Q im t,V,R,X,W=>B7 X P&&amz c H M f O V R P Q im&&t.gL c H M d (V+nI Q) (R+nB Q) (X++iT Q) W
 |.loop aq Q N t,V,R,X,W=>jG c X Q N&&t.gL c H M d (V+nI Q) (R+nB Q) (X++iT Q) ((aq,Q)::W)
 |.back aq x,_,_,X,W=>match Oc aq W with
  |U Q=>jG c X Q x
  |none=>E
 |.new e _ P _ t,V,R,X,W=>B8 X P&&t.gL c H M d V R (X++[.own e]) W
 |.rows k _ _ t,V,R,X,W=>abT k&&t.gL c H M d V R (X++[k]) W
 |.gp _ _ t f,V,R,X,W=>t.gL c H M d V R X W&&f.gL c H M d V R X W
 |.pick _ _ _ t f,V,R,X,W=>t.gL c H M d (V+1) R X W&&f.gL c H M d V R X W
 |.dO _ _ e _ _ r P t,V,R,X,W=>B8 X P&&abS X r e&&t.gL c H M d V R (X++[.own e]) W
 |.stuck _,_,_,_,_=>J
 |.out _ _,_,_,_,_=>E
structure Lp where
 aq:Nat
 t:T
 O:aa
abbrev jH:=List Lp
def th(aq:Nat):jH->Option (Lp×jH)
 |[]=>Z
 |x::X=>if x.aq=aq then U (x,X) else th aq X
def exec(bm:md):Nat->T->aa->jH->jF
 |0,_,_,_=>Z
 |_+1,.ret v _ _,O,_=>U (.ret ((uF v).map (SV.xv O)))
 |_+1,.bn v,O,_=>(Gr O v).map .bn
 |n+1,.node b t f,O,X=>if b.den O then exec bm n t O X else exec bm n f O X
 |n+1,.bj b t,O,X=>if b.den O then exec bm n t O X else Z
 |n+1,.call f R _ _ Q _ t,O,X=>match bm f ((pl R).map (SV.xv O)) with
  |U (.ret V)=>if iP Q V then exec bm n t (O.ext V) X else Z
  |U (.bn v)=>U (.bn v)
  |none=>Z
 |n+1,.loop aq _ P t,O,X=>exec bm n t (O.ext (P.map (SV.xv O))) (⟨aq,t,O⟩::X)
 |n+1,.back aq x,O,X=>match th aq X with
  |U (W,N)=>exec bm n W.t (W.O.ext (x.map (SV.xv O))) (W::N)
  |none=>Z
 |n+1,.new _ x _ _ t,O,X=>exec bm n t (O.add (.r (gz x O))) X
 |n+1,.rows _ x _ t,O,X=>exec bm n t (O.add (.r (gz x O))) X
 |n+1,.gp g h t f,O,X=>if g.den O then(if h.den O then zV (exec bm n t O X) (exec bm n f O X) else exec bm n t O X) else(if h.den O then exec bm n f O X else Z)
 |n+1,.pick m g h t f,O,X=>td ((wj m g h O).map λj=>match j with
  |U j=>exec bm n t (O.add (.i j)) X
  |none=>exec bm n f O X)
 |n+1,.dO _ _ _ M L r _ t,O,X=>match mC O M L (r.rv O).rows with
  |U H=>exec bm n t (O.add (.r (.mk (r.rv O).val H))) X
  |none=>Z
 |_,_,_,_=>Z
def ay5{k:LK}(h:DG r w k l=J):Ob l=[l]:=by
 unfold DG at h;split at h<;>first|rfl|cases h
def Od{c:Ty}{P:bc}:∀{d:i5}{M l:ah}{X:aP},jp c d M=U l->gJ c d=U X->jG c P X l=J->pl M=l
 |[],[],l,X,h,_,_=>by simp[jp] at h;simp[pl,h]
 |[],_::_,l,X,h,_,_=>by simp[jp] at h
 |_::_,[],l,X,h,_,_=>by simp[jp] at h
 |t::d,v::M,l,X,h,O,L=>by
  simp only[jp] at h;split at h;rename_i y r C H;simp only[gJ,C] at O;split at O;rename_i w G B F;cases B;cases O;have D:∀(a:aP)(b:ah),Y a=Y b->jG c P (a++G) (b++r)=J->jG c P a b=J/\jG c P G r=true:=by
   intro a;induction a with
   |nil=>intro b N R;cases b with
    |nil=>exact⟨rfl,R⟩
    |cons=>simp at N
   |cons k a A=>intro b N R;cases b with
    |nil=>simp at N
    |cons x b=>
     simp only[aIF,jG,aIy] at R⊢;obtain⟨W,Q⟩:=A b (by simpa using N) R.2;exact⟨⟨R.1,W⟩,Q⟩
  split at h;split at h;rename_i u;split at h;rename_i V;simp only[beq_iff_eq] at V;cases h;obtain⟨W,Q⟩:=D _ _ (by simp[V]) L;simp only[pl,Ob,Od H F Q];cases h;cases h;split at h;rename_i V;simp only[beq_iff_eq] at V;cases h;obtain⟨W,Q⟩:=D _ [v] (by simp[V]) L;obtain⟨s,z⟩:=aI2.1 V;rw[z] at W;simp only[aIP,aJ7,jG,aKw] at W;simp only[pl,ay5 W,Od H F Q,aIF,aIJ];cases h;cases O;cases h
def ay6{d:i5}(h:jp r d (yc (Y d) l)=U z)(V:gJ r d=U f)(W:jG r w f z=J):uF l=z:=by
 rw[<-Od h V W];cases l
 case bH H=>
  simp only[yc,uF];split;rename_i R;simp only[beq_iff_eq] at R;exfalso;have P:=Od h V W;simp only[yc,R,beq_self_eq_true,if_true] at h P;obtain⟨t,O⟩:=aI2.1 R;subst O;simp only[jp,gJ] at h V;split at h;rename_i G X R N;cases N;split at h;cases h;split at h;rename_i Q;cases h;rw[R] at V;simp only[aID] at V;subst V;simp only[beq_iff_eq] at Q;obtain⟨F,M⟩:=aI2.1 Q;rw[M] at W;simp only[aIP,aJ7,aKf,jG,aKw] at W;unfold DG at W;split at W<;>first|(rename_i L;cases L)|cases W
  cases h;cases h;rfl
 all_goals simp[yc,uF,pl]
section
variable{c:Ty}{H M:FuncId->iE}{bm:md}{d:i5}
def DH:∀{X:aP}{W:aV}{O:aa},dU X W->(O.ext W).i.length=Y O.i+nI X/\(O.ext W).b.length=Y O.b+nB X/\(O.ext W).r.length=Y O.r+(iT X).length
 |[],[],O,_=>⟨rfl,rfl,rfl⟩
 |[],_::_,O,h=>h.elim
 |_::_,[],O,h=>h.elim
 |k::X,x::W,O,h=>by
  obtain⟨V,R⟩:=h;obtain⟨Q,P,N⟩:=DH (O:=O.add x) R;simp only[aa.ext,Q,P,N];cases k<;>cases x<;>simp only[pT] at V<;>simp[aa.add,nI,nB,iT]<;>omega
inductive zW(c:Ty)(H M:FuncId->Option (List TypeId))(d:List TypeId):List (Nat×List LK)->List Lp->List Fr->Prop where
 |nil:zW c H M d [] [] []
 |cons (aq:Nat) (ks:List LK) (t:T) (O:aa) (rs:List RK) (lv:List (Nat×List LK)) (sl:List Lp) (st:List Fr):Y O.r=Y rs->t.gL c H M d (Y O.i+nI ks) (Y O.b+nB ks) (rs++iT ks) ((aq,ks)::lv)=J->zW c H M d lv sl st->
   zW c H M d ((aq,ks)::lv) (⟨aq,t,O⟩::sl) (⟨aq,ks,t,O,rs++iT ks⟩::st)
def zW.find{Q:List (Nat×aP)}{L G:jH}{P:List Fr}{X:Lp}(h:zW c H M d Q L P)(W:Oc N Q=U f)(V:th N L=U (X,G)):
  ∃R F D,Gs N P=U (⟨X.aq,f,X.t,X.O,R++iT f⟩,D)/\Y X.O.r=Y R/\X.t.gL c H M d (Y X.O.i+nI f) (Y X.O.b+nB f) (R++iT f) ((X.aq,f)::F)=J/\zW c H M d F G D:=by
 induction h with
 |nil=>simp[Oc] at W
 |cons B w t O R Q L P A z y x=>
  simp only[Oc,th,Gs] at W V⊢;by_cases C:B=N;rw[if_pos C] at W V⊢;cases W;cases V;exact⟨R,Q,P,rfl,A,z,y⟩;rw[if_neg C] at W V⊢;exact x W V
def tj:∀(n:Nat)(t:T)(O:aa)(P:bc)(W:List (Nat×aP))(R:jH)(Q:List Fr)(o:bD),exec bm n t O R=U o->t.gL c H M d (Y O.i) (Y O.b) P W=J->Y O.r=Y P->zW c H M d W R Q->
  run c H M bm d n t O P Q=U o
 |0,t,O,P,W,R,Q,o,h,_,_,_=>by simp[exec] at h
 |n+1,.out _ _,O,P,W,R,Q,o,h,_,_,_=>by simp[exec] at h
 |n+1,.stuck _,O,P,W,R,Q,o,h,_,_,_=>by simp[exec] at h
 |n+1,.ret v bx F,O,P,W,R,Q,o,h,X,N,L=>by
  simp only[exec,aID] at h;simp only[T.gL,aIy] at X;obtain⟨w,X⟩:=X;simp only[run,w,if_true,abQ];unfold amy at X;split at X
  ·rename_i l D u s
   try rw[u,s]
   simp only[X,if_true];simp only[aIy] at X;rw[<-ay6 u s X.1,h]
  cases X
 |n+1,.bn v,O,P,W,R,Q,o,h,X,N,L=>by simpa only[exec,run] using h
 |n+1,.node b t f,O,P,W,R,Q,o,h,X,N,L=>by
  simp only[exec] at h;simp only[T.gL,aIy] at X;simp only[run];split at h;rename_i C;rw[if_pos C];exact tj n t O P W R Q o h X.1 N L;rename_i C;rw[if_neg C];exact tj n f O P W R Q o h X.2 N L
 |n+1,.bj b t,O,P,W,R,Q,o,h,X,N,L=>by
  simp only[exec] at h;simp only[T.gL] at X;simp only[run];split at h;rename_i C;rw[if_pos C];exact tj n t O P W R Q o h X N L;cases h
 |n+1,.call f a3 bx F D im t,O,P,W,R,Q,o,h,X,N,L=>by
  simp only[exec] at h;simp only[T.gL,aIy] at X;obtain⟨⟨w,G⟩,ag⟩:=X;have al:=(TR w).1.len;simp only[run,w,if_true,abR];unfold amz at G;split at G
  ·rename_i ps qs u s
   try rw[u,s]
   try simp only
   split at G
   ·rename_i l pk qk r g1 g2 g3 g4
    try rw[g1,g2,g3,g4]
    try simp only
    rw[al,<-N] at G;rw[if_pos G];simp only[aIy] at G;rw[Od g1 g2 G.1.1.1] at h
    try simp only
    split at h
    ·rename_i ys a
     try rw[a]
     try simp only
     split at h;rename_i af;rw[if_pos af];obtain⟨B,A,z⟩:=DH (O:=O) (ayZ af);exact tj n t _ _ W R Q o h (by rw[B,A];exact ag) (by rw[z,aIO,N]) L;cases h
    ·rename_i v a;(try rw[a]);exact h
    cases h
   cases G
  cases G
 |n+1,.loop aq D x0 t,O,P,W,R,Q,o,h,X,N,L=>by
  simp only[exec] at h;simp only[T.gL,aIy] at X;simp only[run,X.1,if_true];obtain⟨B,A,z⟩:=DH (O:=O) (JU (O:=O) (V:=[]) X.1).2;exact tj n t _ _ ((aq,D)::W) _ _ o h (by rw[B,A];exact X.2) (by rw[z,aIO,N]) (zW.cons _ _ _ _ _ _ _ _ N X.2 L)
 |n+1,.back aq x,O,P,W,R,Q,o,h,X,N,L=>by
  simp only[exec] at h;simp only[T.gL] at X;split at h;rename_i p an hf;split at X;rename_i D hk;obtain⟨F,a0,a4,q1,q2,q3,q4⟩:=L.find hk hf;simp only[run,q1,X,if_true];obtain⟨B,A,z⟩:=DH (O:=p.O) (JU (O:=O) (V:=[]) X).2;exact tj n p.t _ _ ((p.aq,D)::a0) (p::an) _ o h (by rw[B,A];exact q3) (by rw[z,aIO,q2]) (zW.cons _ _ _ _ _ _ _ _ q2 q3 q4);cases X;cases h
 |n+1,.new e x F a9 t,O,P,W,R,Q,o,h,X,N,L=>by
  simp only[exec] at h;simp only[T.gL,aIy] at X;simp only[run,X.1,if_true];exact tj n t _ _ W R Q o h (by simpa[aa.add] using X.2) (by simp[aa.add,N]) L
 |n+1,.rows k x F t,O,P,W,R,Q,o,h,X,N,L=>by
  simp only[exec] at h;simp only[T.gL,aIy] at X;simp only[run,X.1,if_true];exact tj n t _ _ W R Q o h (by simpa[aa.add] using X.2) (by simp[aa.add,N]) L
 |n+1,.gp g h' t f,O,P,W,R,Q,o,h,X,N,L=>by
  simp only[exec] at h;simp only[T.gL,aIy] at X;simp only[run];have i1:=λq=>tj n t O P W R Q o q X.1 N L
  have i2:=λq=>tj n f O P W R Q o q X.2 N L
  split at h;rename_i hg;rw[if_pos hg];split at h;rename_i y;rw[if_pos y];exact aml h i1 i2;rename_i y;rw[if_neg y];exact i1 h;rename_i hg;rw[if_neg hg];split at h;rename_i y;rw[if_pos y];exact i2 h;cases h
 |n+1,.pick m g h' t f,O,P,W,R,Q,o,h,X,N,L=>by
  simp only[exec] at h;simp only[T.gL,aIy] at X;simp only[run];refine amm h λj _ q=> ?_
  cases j with
  |some j=>exact tj n t (O.add (.i j)) P W R Q o q (by simpa[aa.add] using X.1) (by simpa[aa.add] using N) L
  |none=>exact tj n f O P W R Q o q X.2 N L
 |n+1,.dO f g e sp sb r F t,O,P,W,R,Q,o,h,X,N,L=>by
  simp only[exec] at h;simp only[T.gL,aIy] at X;simp only[run,X.1.1,X.1.2,aJI,if_true];split at h
  ·rename_i bb a1
   try rw[a1]
   exact tj n t _ _ W R Q o h (by simpa[aa.add] using X.2) (by simp[aa.add,N]) L
  cases h
def uG(bm:md)(t:T)(O:aa)(X:jH)(o:bD):Prop:=∃n,exec bm n t O X=U o
def JW{bm:md}{W:jH}:uG bm t F W n<->∃X,exec bm (X+1) t F W=U n:=
 ⟨λ⟨X,h⟩=>by
  cases X with
  |zero=>simp[exec] at h
  |succ X=>exact⟨X,h⟩,λ⟨X,h⟩=>⟨X+1,h⟩⟩
@[simp] def aHC {v:SV} {X:bw} {W:bc} {O:aa} {V:jH} {o:bD}:uG bm (.ret v X W) O V o<->o=.ret ((uF v).map (SV.xv O)):=by
 rw[JW];simp only[exec,aID];exact⟨λ⟨_,h⟩=>h.symm,λh=>⟨0,h.symm⟩⟩
@[simp] def aHD {X:jH}:uG bm (.bn l) F X n<->(Gr F l).map .bn=U n:=by
 rw[JW];simp only[exec];exact⟨λ⟨_,h⟩=>h,λh=>⟨0,h⟩⟩
@[simp] def aHE {b:BE} {f:T} {X:jH}:uG bm (.node b t f) F X n<->if b.den F=J then uG bm t F X n else uG bm f F X n:=by
 rw[JW];simp only[exec];split<;>rfl
@[simp] def aHF {b:BE} {X:jH}:uG bm (.bj b t) F X n<->b.den F=J/\uG bm t F X n:=by
 rw[JW];simp only[exec];by_cases W:b.den F=J;simp only[W,if_true,true_and];rfl;simp[W]
@[simp] def aHG {X:jH}:uG bm (.loop N f z t) F X n<->uG bm t (F.ext (z.map (SV.xv F))) (⟨N,t,F⟩::X) n:=by
 rw[JW];simp only[exec];rfl
@[simp] def aHH {x:LE} {W:bc} {X:jH}:uG bm (.new v x w W t) F X n<->uG bm t (F.add (.r (gz x F))) X n:=by
 rw[JW];simp only[exec];rfl
end
structure p9(P:Program)(g:FuncId)(eT:TypeId):Prop where
 BS:∀args W,(callFunc g args).run P W=.ok (.enter g args) W
 ret:∀(W:World)(b:Nat),CallsDIn Fence.wide 0 P g #[.pointer (U ⟨b,0,Z⟩)] .returning W λen u W'=>(∃v,en=.returned v)/\u=.returning/\W'=W
 bn:∀(W:World)(b:Nat)(k0 k:Int),W.heap[b]?=U (.cells #[.int I k0] eT (0,0))->CallsDIn Fence.wide 0 P g #[.pointer (U ⟨b,0,Z⟩)] (.panicking [{v:=.iface eT (.int I k),recovered:=E}]) W λen u W'=>
  (∃v,en=.returned v)/\u=.panicking [{v:=.iface eT (.int I k),recovered:=J}]/\W'=W.putObj b (.cells #[.int I k] eT (0,0))
def ay7{c:Code}{d:DI}(h:uv c=U d):∃P O R X W first Q V,c=.seq (.region P d.rh E) (.seq (.region O R E) d.rest)/\R= #[X,W]/\X.op=.makeFunc (.func d.g) first Q/\first= #[]/\Q= #[.tmp d.te]/\X.dst=U d.tf/\X.guard=Z/\W.op=.defer V/\V.callee=.value (.tmp d.tf)/\V.args= #[]/\W.guard=Z/\W.dst=none:=by
 unfold uv at h;split at h;rename_i P rh O R y;unfold aiW at h;split at h;rename_i X W M;split at h;rename_i g first Q x V L H G F D C
 split at h;rename_i w v B A q3 z;split at h;rename_i N;simp only[beq_iff_eq] at N;subst N;cases h;exact⟨P,O,R,X,W,first,Q,V,rfl,by apply aJu;simp[M],L,by apply aJu;simp[B],by apply aJu;simp[A],H,G,F,q3,by apply aJu;simp[z],D,C⟩;cases h;cases h;cases h;cases h;cases h
section
variable{p:Sp}{cf:bz}
def ay8(b:kD p cf)(a4:∀ch W,¬p.R (.panicked ch) W){C:Func}{c:Code}(hf:p.P.funcs[y]?=U C)(hb:C.body=U c){d:DI}(hd:uv c=U d)(an:p9 p.P d.g v)
  (ht:Nh cf N y c C.ntmps C.results.toList v z x=t)(A:t.aQ p F [])(hg:ek cf.gl F)(R:av p.S0 p.w0 bQ.none cf.ty B F {x with tmps:=[]} ⟨#[],[]⟩ p.w0):
  Calls p.P y (SV.aA F B z).toArray p.w0 p.R:=by
 subst ht;unfold Nh at A;rw[hd] at A;simp only at A;obtain⟨i0,i1,cW,a,o2,first,c0,dc,hc,ho,g1,g2,g3,g4,g5,g6,g7,g8,g9,b4⟩:=ay7 hd;subst ho g2 g3;refine NR hf hb ?_;rw[hc];obtain⟨D1,a0⟩:∃D1:bQ,D1=⟨[],[],J,[]⟩:=⟨_,rfl⟩;have b5:dG p.w0 D1 x.pd F.y [] p.w0:=by
  subst a0;have h:=R.cM;exact⟨h.len,h.rm,h.dB,h.inj,[],rfl,λ_=>rfl,by simp,λd hd=>by simp at hd⟩
 have RE:=R.enter z C.ntmps b5;obtain⟨Rr,a9⟩:=RE.room (lx d.rh.toList);refine abn (B4 (n:=0) (wpIn_region ?_));have hY:=Gp (p:=p) (cf:=cf) D1.dB ⟨{x with tmps:=z++aIL (C.ntmps-Y z) (.bH [])},F,B,[]⟩;have bb:=BQ (ops:=d.rh) b.pt b.zu (B3 Z) b.kV (To b (TA b N).1 hY) (D:=D1) (k:=Z1 cf N y d v (Y x.boxes) C.results.toList) (kp:=λ_ _=>.stuck "") (Q:=Exit.then (λq o=>jE Z y p.P (.seq (.region i1 #[a,o2] E) d.rest) (bodyPostM Fence.wide 0 p.P C p.R) q o) (bodyPostM Fence.wide 0 p.P C p.R)) (λch q o pd X hA hR=>(a4 ch o hR).elim) (n:=0) (f9 (λ_=>E) J E 0 (Y x.boxes) d.rh.toList) 0 _ [] [] F _ _ p.w0
  (λi m' hi=>by have:=NV _ _ _ _ _ _ _ _ hi;simpa using this) ((kC.here _ _ _ _).go a9 (cJ.refl _ _)) A (λM hx=>by cases hx) Rr hg ?_ (λL s' O' V' q o L' hl hL R' b6=>b6.elim)
 rw[abs] at bb;simpa[aKq] using bb;intro s1 O1 G r m L1 b7 c1 R1 af;show jE Z y p.P (.seq (.region i1 #[a,o2] E) d.rest) (bodyPostM Fence.wide 0 p.P C p.R) r m;unfold Z1 at af;split at af;rename_i H b8;split at af;rename_i bd;simp only[aIy,aIR,decide_eq_true_eq] at bd;obtain⟨⟨bf,ca⟩,cc⟩:=bd;have cl:r.tmps[d.te]?=U (.pointer (U ⟨ad G H,0,Z⟩)):=by
  rcases R1.tmps _ _ b8 with h|h;cases h;exact h
 have cp:r.defers=[]:=by
  have h:=R1.cM;rw[a0] at h;obtain⟨ms,q1,q0,-,-⟩:=h.l9;have:=q0 rfl;subst this;simpa using q1
 have cs:(SV.fn d.g [.loc H 0]).den O1 G=.func (.func d.g) #[] #[.pointer (U ⟨ad G H,0,Z⟩)]:=by simp[SV.den,SV.aA]
 have j:=R1.put (U d.tf) (.fn d.g [.loc H 0]);rw[cs] at j;obtain⟨w,al⟩:∃w:Deferred,w={target:=.fn (.func d.g) #[.pointer (U ⟨ad G H,0,Z⟩)],args:= #[]}:=⟨_,rfl⟩;have ct:dG p.w0 ⟨[],[],E,[w]⟩ s1.pd O1.y [w] m:=by
  have h:=R1.cM;rw[a0] at h;exact⟨h.len,h.rm,h.dB,h.inj,[],rfl,λ_=>rfl,by simp,λd hd=>by simp at hd⟩
 have c2:(s1.put (U d.tf) (.fn d.g [.loc H 0])).pd=s1.pd:=rfl;have R2:av p.S0 p.w0 ⟨[],[],E,[w]⟩ cf.ty G O1 (s1.put (U d.tf) (.fn d.g [.loc H 0])) {r.put (U d.tf) (.func (.func d.g) #[] #[.pointer (U ⟨ad G H,0,Z⟩)]) with defers:=[w]} m:=
  ⟨j.mem,j.fH,j.ei,j.eb,j.er,ct,j.size,j.tmps,j.fl⟩
 refine abn (B4 (n:=0) (wpIn_region ?_));have cv:aI5 (#[a,o2]:cT).size=[0,1]:=rfl;rw[cv];have e1:(execOp r.eval a).run p.P m=.ok (.value (.func (.func d.g) #[] #[.pointer (U ⟨ad G H,0,Z⟩)])) m:=by
  have:r.eval (.tmp d.te)=.pointer (U ⟨ad G H,0,Z⟩):=by simp[Act.eval,aLs,cl]
  simp[execOp,g1,this,Instr.makeFunc]
 have e2:(execOp (r.put (U d.tf) (.func (.func d.g) #[] #[.pointer (U ⟨ad G H,0,Z⟩)])).eval o2).run p.P m=.ok (.defer w) m:=by
  have cx:d.tf<r.tmps.size:=by rw[R1.size];exact cc
  have:(r.put (U d.tf) (.func (.func d.g) #[] #[.pointer (U ⟨ad G H,0,Z⟩)])).eval (.tmp d.tf)=.func (.func d.g) #[] #[.pointer (U ⟨ad G H,0,Z⟩)]:=by
   simp[Act.eval,Act.put,aLs,cx]
  simp[execOp,g6,resolve,g7,g8,this,Deferred.ofValue,al]
 have cy:Region.wanted a (yielded #[a,o2] r.tmps)=true:=by simp[Region.wanted,g5]
 have cA:∀X,Region.wanted o2 X=true:=λX=>by simp[Region.wanted,g9]
 have cB:∀c',a.op≠ .defer c':=λc' bg=>by rw[g1] at bg;cases bg
 have hF:=B3 Z;show wpOpsIn _ 0 p.P #[a,o2] _ [0,1] r m;simp only[wpOpsIn,aLc,aJr,aJa,cy,cA,if_true];refine⟨λy _=>hF.fn y, ?_⟩;rw[Oper.semAt_eq _ _ _ cB,e1,Oper.uponIn_value,g4];refine⟨λy _=>hF.fn y, ?_⟩;rw[show(Tj Z).round=Z from rfl,Oper.semAt_none,e2,Oper.uponIn_defer];have cC:({(r.put (U d.tf) (.func (.func d.g) #[] #[.pointer (U ⟨ad G H,0,Z⟩)])) with defers:=w::(r.put (U d.tf) (.func (.func d.g) #[] #[.pointer (U ⟨ad G H,0,Z⟩)])).defers}:Act).put o2.dst undef={r.put (U d.tf) (.func (.func d.g) #[] #[.pointer (U ⟨ad G H,0,Z⟩)]) with defers:=[w]}:=by
  rw[b4];have:(r.put (U d.tf) (.func (.func d.g) #[] #[.pointer (U ⟨ad G H,0,Z⟩)])).defers=[]:=cp;rw[this];rfl
 rw[cC];show jE Z y p.P d.rest (bodyPostM Fence.wide 0 p.P C p.R) _ m;have cD:(kC.mk (s1.put (U d.tf) (.fn d.g [.loc H 0])) O1 G L1).pZ (s1.put (U d.tf) (.fn d.g [.loc H 0])) O1 G L1:=kC.here _ _ _ _;refine(TA b N).1 ⟨[],[],E,[w]⟩ _ iF Z y d.rest _ _ L1 O1 G _ m _ (Gp _ _) cD rfl (λhh=>by cases hh) ⟨C,hf⟩ af R2 ((hg.ext a9.ext).ext b7.ext) (λch q o pd X hA hR=>(a4 ch o hR).elim) ?_;intro e s' O' V' q o L' hl hL RR A;obtain⟨bk,q1,q0,q2,q3⟩:=RR.cM.l9;have R3:=RR.p8 q1;have c3:({q with defers:=[w]}:Act)={q with defers:=[w]}:=rfl;have bl:∀d0∈bk,o.heap[d0]?=U (.deferred (U [])):=λd0 cI=>(q3 d0 (by simp[cI])).1
 have br:bk.Nodup:=(aJz.1 q2).1;have bs:ad V' H=ad G H:=hl.ext.ad H ca;have bx:∀Wx,(invoke w.target w.args).run p.P Wx=.ok (.enter d.g #[.pointer (U ⟨ad G H,0,Z⟩)]) Wx:=λWx=>by
  rw[al];simp[invoke,an.BS]
 have b0:∀s2:S,∀Wx,av p.S0 p.w0 ⟨[],[],E,[w]⟩ cf.ty V' O' s2 {q with defers:=[w]} Wx->(I4 cf (Y x.boxes) C.results.toList s2).aQ p O' L'->LeavesInM Fence.wide 0 p.P C q.tmps p.R [] .returning Wx:=by
  intro s2 Wx R4 ag;unfold I4 at ag;split at ag;rename_i l cO;refine⟨_,NG R4 b.kV cO, ?_⟩;exact ag O'.y V' _ (by rw[b.pt];exact(R4.mem.take _).mc (Tu _));exact ag.elim
 have b1:(I4 cf (Y x.boxes) C.results.toList s').aQ p O' L'->LeavesInM Fence.wide 0 p.P C q.tmps p.R q.defers .returning o:=by
  intro ag;rw[q1];refine ta (by simp) br bl ⟨by simp,.inr ⟨by simp[Fence.wide],_,_,_,_,by rw[al],bx _,λg hg=>trivial, ?_⟩⟩;refine(an.ret _ _).mono ?_;rintro en u W4 ⟨⟨L,rfl⟩,rfl,rfl⟩;exact b0 s' _ R3 ag
 cases e with
 |normal=>exact b1 A
 |ret=>exact b1 A
 |exit id=>exact A.elim
 |bn L=>
  simp only[Z0] at A;split at A;rename_i tt M;split at A;rename_i bt X b2;split at A;rename_i b3;simp only[aIy,beq_iff_eq] at b3;obtain⟨rfl,rfl⟩:=b3;have a3:=R3.mem.box H bt _ b2;rw[rq bf] at a3;rw[bs] at a3;show LeavesInM Fence.wide 0 p.P C q.tmps p.R q.defers (.panicking _) o;rw[q1];refine ta (by simp) br bl ⟨by simp,.inr ⟨by simp[Fence.wide],_,_,_,_,by rw[al],bx _,λg hg=>trivial, ?_⟩⟩;refine(an.bn _ (ad G H) (X.den O') (M.den O') a3).mono ?_;rintro en u W4 ⟨⟨L,rfl⟩,rfl,rfl⟩;have R4:=R3.ajO (cs':=[.int I M]) b2;rw[rq bf,bs] at R4;exact b0 _ _ R4 A;exact A.elim;exact A.elim;exact A.elim
 exact af.elim;exact af.elim
end
section
variable{P:Program}{a:Ty}{H M:FuncId->iE}{bm:md}{G:World->Prop}{D m:i5}{Q X:aP}
structure Oe(a:Ty)(gl:lu)(glk:bc)(glv:aH)(W:World)(glw:aH):Prop where
 len:Y glv=Y glw
 eq:∀(k:Nat)(v v':RV),glv[k]?=U v->glw[k]?=U v'->cE v v'
 held:∀(k:Nat)(e:RK)(rv:RV),glk[k]?=U e->glw[k]?=U rv->bu W a e rv
 amA:∀xs,ek gl (fJ glw xs)
def amB{cf:bz}{x:aH}{l:ah}{nb:Nat}{B:bc}
  (an:cf.ty=a)(a0:∀f,Gv P a H M G f (bm f))(hG:∀k W',Below k.heap.size k W'->G k->G W')(a1:gJ a D=U Q)
  (hl:jp a m z=U l)(a3:rC 0 0 (Y x) X l=J)(ag:B=w++iT X)(a4:∀(V:Nat)(t:TypeId),B[V]?≠U (.own t))(a9:Y x=Y w)(g:x=[]\/uE Q=J)
  (bb:∀F L,dU X L->(fJ F L).i.length=N)(bd:∀F L,dU X L->(fJ F L).b.length=nb)
   (bf:G k){F:aH}(u:Oe a cf.gl w x k F){L:aV}{R:Nat}(hN:run a H M bm D R t (fJ x b) B []=U n)(hx:zU b L)(s:dU X L)(hH:yf a k X L):
  t.aQ (N9 P a k D Q X L n) (fJ F L) []/\SV.aA (fJ F L) [] z=uC a m (nU X L)/\av [] k bQ.none cf.ty [] (fJ F L) ⟨[],[],N,nb,B,0,0,[]⟩ ⟨#[],[]⟩ k:=by
 have af:Y F=Y w:=by rw[<-u.len];exact a9
 have hv:SV.aA (fJ F L) [] z=uC a m (nU X L):=by
  rw[TO hl,fJ,N5 (by rw[<-u.len];exact a3) s rfl rfl rfl]
 have al:(fJ F L).r.length=Y B:=by rw[ag];exact N7 s af
 have hS:jo (fJ x b) (fJ F L):=jo.ext ⟨rfl,rfl,u.len,λV v v' g1 g2=>u.eq V v v' g1 g2⟩ hx;have bg:t.aQ (N9 P a k D Q X L n) (fJ F L) []:=by
  refine ay3 (old:=λO=>ye a X L O\/F≠[]) a0 hG bf a1 (λys O p d=> ?_) R t _ _ B [] [] hN hS al ?_ (uD.nil _);rcases d with d|d;exact d;rcases g with g|g;subst g;have:F=[]:=aJe.1 (by rw[<-u.len];rfl);exact absurd this d;exact(amx g p).elim;rw[ag];refine Gu.ext (λO p=> ?_) s af (λO p=>.inr (.inl p));obtain⟨V,e,hk,hl⟩:=p;refine .inr (.inr (λhe=> ?_));subst he;have:=(aIz.1 hk).1;simp at af;omega
 have bk:∀(V:Nat)(e:RK)(C:RV),B[V]?=U e->(fJ F L).r[V]?=U C->bu k a e C:=by
  intro V e C g1 g2;have:=Gh (PP:=λe C=>bu k a e C) X L ⟨[],[],0,0,w,0,0,[]⟩ ⟨[],[],F,[]⟩ s af (λq e C A c=>hH q e C A c) (λV e C A c=>u.held V e C A c);rw[TS] at this;exact this V e C (by rw[<-ag];exact g1) g2
 exact⟨bg,hv,⟨⟨fk.refl _ _,λi h=>by simp[aL,cw] at h,λi j h=>by simp[aL,cw] at h,λi t cs h=>by simp[cw] at h,λV e C A c=>⟨by rw[an];exact bk V e C A c,λO p i hi=>by simp[aL,cw] at hi⟩⟩,rfl,bb _ L s,bd _ L s,al,by rw[show(fJ F L).y=[] from Jv L _];exact TP _ _,rfl,λt sv h=>by simp at h,λV e C O A=>absurd A (a4 V e)⟩⟩
def ay9{cf:bz}{B:Func}{c:Code}{F:aV->jF}{glk:bc}{glv:aH}{l:ah}{A x:Nat}
  (af:∀V R,(∀v W b o,V.heap.size<=b->R (.panicked v) W->R (.panicked v) (W.putObj b o))->kD ⟨P,a,[],V,bQ.none,R,λ_ _ _=>False⟩ cf)(ag:cf.ty=a)(al:∀y,Gv P a H M G y (bm y))(hG:∀W u,Below W.heap.size W u->G W->G u)
  (hf:P.funcs[y]?=U B)(hb:B.body=U c)(an:H y=U m)(a0:M y=U D)(a1:gJ a m=U X)(s:gJ a D=U Q)
  (hl:jp a m z=U l)(a3:rC 0 0 (Y glv) X l=J)(a4:w=glk++iT X)(a9:∀(k:Nat)(t:TypeId),w[k]?≠U (.own t))(bb:Y glv=Y glk)(hq:glv=[]\/uE Q=J)
  (bd:∀C L,dU X L->(fJ C L).i.length=A)(bf:∀C L,dU X L->(fJ C L).b.length=x)
  (bg:∀W,G W->∃C,Oe a cf.gl glk glv W C)
  (ht:Ng cf N y c B.ntmps B.results.toList z ⟨[],[],A,x,w,0,0,[]⟩=t)
  (hF:∀L o,dU X L->F L=U o->∃O,run a H M bm D O t (fJ glv L) w []=U o):Gv P a H M G y F:=by
 intro bl br bs bt r q j h xh L o ho g e W d hH;rw[an] at r;cases r;rw[a0] at q;cases q;rw[a1] at j;cases j;rw[s] at h;cases h;obtain⟨O,hN⟩:=hF xh o (abY e g) ho;obtain⟨C,hL⟩:=bg W d;obtain⟨bk,hv,hR⟩:=amB ag al hG s hl a3 a4 a9 bb hq bd bf d hL hN g e hH;rw[<-hv];exact alW (p:=N9 P a W D Q X L o) (cf:=cf) (af W _ (amv W)) hf hb ht bk (hL.amA L) hR
def aza{cf:bz}{A:Func}{c:Code}{F:aV->jF}{glk:bc}{glv:aH}{l:ah}{r q:Nat}{d:DI}
  (al:∀V R,(∀x W b o,V.heap.size<=b->R (.panicked x) W->R (.panicked x) (W.putObj b o))->kD ⟨P,a,[],V,bQ.none,R,λ_ _ _=>False⟩ cf)(an:cf.ty=a)(a0:∀y,Gv P a H M G y (bm y))(hG:∀W u,Below W.heap.size W u->G W->G u)
  (hf:P.funcs[y]?=U A)(hb:A.body=U c)(hd:uv c=U d)(a1:p9 P d.g v)(a3:H y=U m)(a4:M y=U D)(a9:gJ a m=U X)(j:gJ a D=U Q)
  (hl:jp a m z=U l)(bb:rC 0 0 (Y glv) X l=J)(bd:w=glk++iT X)(bf:∀(k:Nat)(t:TypeId),w[k]?≠U (.own t))(bg:Y glv=Y glk)(hq:glv=[]\/uE Q=J)
  (bk:∀B C,dU X C->(fJ B C).i.length=r)(bl:∀B C,dU X C->(fJ B C).b.length=q)
  (br:∀W,G W->∃B,Oe a cf.gl glk glv W B)
  (ht:Nh cf N y c A.ntmps A.results.toList v z ⟨[],[],r,q,w,0,0,[]⟩=t)(bs:∀C O,F C≠U (.bn O))
  (hF:∀C o,dU X C->F C=U o->∃L,run a H M bm D L t (fJ glv C) w []=U o):Gv P a H M G y F:=by
 intro bx b0 b1 b2 h e h3 h4 xh C o ho hx af W ag hH;rw[a3] at h;cases h;rw[a4] at e;cases e;rw[a9] at h3;cases h3;rw[j] at h4;cases h4;obtain⟨L,hN⟩:=hF xh o (abY af hx) ho;obtain⟨B,hL⟩:=br W ag;obtain⟨bt,hv,s⟩:=amB an a0 hG j hl bb bd bf bg hq bk bl ag hL hN hx af hH;rw[<-hv];refine ay8 (p:=N9 P a W D Q X C o) (cf:=cf) (al W _ (amv W)) (λx u s=> ?_) hf hb hd a1 ht bt (hL.amA C) s;obtain⟨-,O,h5,-⟩:=s;exact bs xh O (by rw[ho,h5])
end
def amC:Op->Bool
 |.move _|.assign _|.fieldAddr _ _ _|.field _ _ _|.load _ _|.indexAddr _ _ _|.build _ _|.index _ _ _|.unOp _ _ _|.convert _ _ _|.makeInterface _ _|.makeFunc _ _ _|.extract _ _|.nilCheck _|.alloc _|.box _ _|.pick _ _ _=>J
 |.binOp X _ _ _ _=>match X with
  |.eql|.neq=>E
  |_=>J
 |_=>E
def ab1(X:bz)(m:OM)(s:S):Bool:=(Bp X m s).isSome
def azb{X:bz}{m:OM}(h:ab1 X m x=E):Bp X m x=none:=by
 simpa[ab1] using h
def TU(R:bz)(O:ot)(m:OM)(s:S)(X:S->Fx->T)(Q:SV->S->T)(V:Fx):T:=
 if amC m.o.op then match fw R m s with
  |.ok W=>X W V
  |.bj b W=>.bj b (X W V)
  |.split b N M=>Bo s V b (X N) (X M)
  |.no L=>.stuck L
 else if ab1 R m s then zA R O m s X Q V else match zx R m s with
 |U (e,H,G,P)=>Dg e (λg F=>O (.fn g) (P++F) s (λv W=>X (W.put m.o.dst v) (nN s V)) Q) H G
 |none=>
 match dA R s m.o with
 |.call (.fn g) P=>O (.fn g) P s (λv W=>X (W.put m.o.dst v) (nN s V)) Q
 |.call (.yl n) P=>if m.so then O (.yl n) P s (λv W=>X (W.put m.o.dst v) (nN s V)) Q else .stuck ""
 |.bn v=>Q v s
 |.no=>.stuck ""
 |.op=>match zw R m s X V with
  |U t=>t
  |none=>match dM R m.o m.bC m.dr s with
  |U b=>.bj b.bj (.new b.e b.x s.rs b.s.rs (X b.s (nN s V)))
  |none=>match fw R m s with
  |.ok W=>X W V
  |.bj b W=>.bj b (X W V)
  |.split b N M=>Bo s V b (X N) (X M)
  |.no L=>.stuck L
def azc(X:bz)(R:ot)(m:OM)(s:S)(Q:S->Fx->T)(P:SV->S->T)(O:Fx):TU X R m s Q P O=zA X R m s Q P O:=by
 unfold TU;split;rename_i W;unfold zA;cases V:m.o.op<;>rw[V] at W<;>simp only[amC,aIU] at W<;>try(simp[zx,Bp,dA,zw,dM,V]<;>rfl)
 rename_i N t x y z;cases N<;>simp only[aIU] at W<;>(simp[zx,Bp,dA,zw,dM,V]<;>rfl);split;rfl;rename_i M;unfold zA;rw[azb (by simpa using M)];cases zx X m s<;>rfl
def OM.up(n:Nat)(m:OM):OM:={m with ix:=m.ix+n}
def TV(bC:Nat->Bool)(X W:Bool)(k:Nat):∀(l:oo)(j n:Nat),f9 bC X W j (n+k) l=(f9 bC X W j n l).map (OM.up k)
 |[],_,_=>rfl
 |o::r,j,n=>by
  simp only[f9,aIP];congr 1;rw[<-TV bC X W k r];congr 1;split<;>omega
def azd(k:Nat)(l:bY)(X:ai):IN (l.map (OM.up k)) X=(IN l X).map (OM.up k):=by
 simp only[IN,List.map_filterMap,aIE]
def ab2(k:Nat)(X:ai):∀l:bY,zE X (l.map (OM.up k))=zE X l
 |[]=>rfl
 |x::r=>by simp only[aIP,zE,ab2 k X r,aKN];rfl
def amD(k:Nat)(X:ai):∀(l W:bY),sW X (W.map (OM.up k)) (l.map (OM.up k))=(sW X W l).map (OM.up k)
 |[],_=>rfl
 |m::r,W=>by
  simp only[aIP,sW];congr 1;have h:=ab2 k X (m::r);simp only[aIP] at h;rw[h,aKN];rfl;rw[<-amD k X r (W++[m]),aKD];rfl
def amE(k:Nat)(X:cT):∀(l:bY)(done:ai),Dj X done (l.map (OM.up k))=Dj X done l
 |[],_=>rfl
 |x::r,done=>by simp only[aIP,Dj,amE k X r];rfl
def aze(k a b:Nat):(a+k !=b+k)=(a !=b):=by
 rw[aJv];simp
def azf(k:Nat)(X:cT)(x y:OM):sU X (OM.up k x) (OM.up k y)=sU X x y:=by
 have h:((OM.up k x).ix !=(OM.up k y).ix)=(x.ix !=y.ix):=aze k _ _;unfold sU IM M4;rw[h];rfl
def amF(k:Nat)(X:cT)(W:ai):∀l:bY,Di X W (l.map (OM.up k))=Di X W l
 |[]=>rfl
 |x::r=>by
  simp only[aIP,Di,amF k X W r,aKN];congr 2;funext y;simp only[Function.comp,azf];rfl
def amG(k:Nat):∀l:ai,ly (l.map (· +k))=ly l
 |[]=>rfl
 |x::r=>by
  simp only[aIP,ly,amG k r];congr 2;rw[aJv];simp
def nV(X:cT)(n:Nat):bY:=sW (nO X.toList) [] (IN (f9 (M6 X.toList (nO X.toList)) E J 0 n X.toList) (M5 X.toList X.size []))
def azg(X:cT)(n:Nat):nV X n=(nV X 0).map (OM.up n):=by
 unfold nV;rw[show f9 (M6 X.toList (nO X.toList)) E J 0 n X.toList=(f9 (M6 X.toList (nO X.toList)) E J 0 0 X.toList).map (OM.up n) by rw[<-TV];simp,azd,<-amD];rfl
def ab3(X:cT)(n:Nat):Option bY:=match IP X 0 with
 |U l=>U (l.map (OM.up n))
 |none=>Z
def amH(X:cT)(n:Nat):IP X n=if R7 X.toList (nO X.toList)&&Dj X [] (nV X n)&&Di X (nO X.toList) (nV X n)&&ly ((nV X n).filterMap (·.o.dst))&&ly ((nV X n).map (·.j))&&ly (((nV X n).filter λm=>fF m.o.op).map (·.ix))&&(nV X n).length==X.size&&(aI5 X.size).all (λi=>(nV X n).any λm=>m.j==i) then U (nV X n) else none:=rfl
def azh(X:cT)(n:Nat):ab3 X n=IP X n:=by
 unfold ab3;rw[amH X n,amH X 0,azg X n,amE,amF];have V:((nV X 0).map (OM.up n)).filterMap (·.o.dst)=(nV X 0).filterMap (·.o.dst):=by rw[aMd];rfl
 have R:((nV X 0).map (OM.up n)).map (·.j)=(nV X 0).map (·.j):=by rw[aJo];rfl
 have Q:(((nV X 0).map (OM.up n)).filter λm=>fF m.o.op).map (·.ix)=(((nV X 0).filter λm=>fF m.o.op).map (·.ix)).map (· +n):=by rw[aLI,aJo,aJo];rfl
 have P:∀i,(((nV X 0).map (OM.up n)).any λm=>m.j==i)=((nV X 0).any λm=>m.j==i):=λi=>by rw[aLD];rfl
 rw[V,R,Q,amG,aJn];simp only[P];split;rename_i l h;split at h;rename_i W;cases h;rw[if_pos W];cases h;rename_i h;split at h;cases h;rename_i W;rw[if_neg W]
def amI(W:Bool)(X:cT)(n:Nat):Bv W X n=(Bv W X 0).map (OM.up n)/\Bw W X n=(Bw W X 0).map (OM.up n):=by
 unfold Bv Bw;rw[show f9 (λ_=>E) E J 0 n X.toList=(f9 (λ_=>E) E J 0 0 X.toList).map (OM.up n) by rw[<-TV];simp,aLI,aLI];exact⟨rfl,rfl⟩
def azi(W:Bool)(X:cT)(n:Nat):IY W X n=IY W X 0:=by
 unfold IY;obtain⟨V,R⟩:=amI W X n;rw[V,R,show f9 (λ_=>E) E J 0 n X.toList=(f9 (λ_=>E) E J 0 0 X.toList).map (OM.up n) by rw[<-TV];simp];unfold ZV;rw[<-aKD];have Q:∀l:bY,(l.map (OM.up n)).filterMap (·.o.dst)=l.filterMap (·.o.dst):=λl=>by rw[aMd];rfl
 have P:∀l:bY,(l.map (OM.up n)).map (·.j)=l.map (·.j):=λl=>by rw[aJo];rfl
 rw[Q,P,aJn];simp only[aKN,aLD,Function.comp_def];rfl
def TW(V:bz)(W:Bool)(X:cT)(s:S):Option M8:=
 if(!W||(ZU V s X.toList||(V.lW&&X.toList.any λo=>aiS o.op))&&zE (nO X.toList) (Bw W X 0))&&IY W X 0 then(Dn V ((Bv W X 0).map (OM.up (Y s.boxes))) (s.room (lx X.toList))).bind (ZW V ((Bv W X 0).map (OM.up (Y s.boxes))) ((Bw W X 0).map (OM.up (Y s.boxes)))) else Z
def azj(V:bz)(X:Bool)(W:cT)(s:S):TW V X W s=IZ V X W s:=by
 unfold TW IZ;obtain⟨Q,R⟩:=amI X W (Y s.boxes);rw[<-Q,<-R,azi X W (Y s.boxes),R,ab2]
def Gw{X:Type}(l:List X):(List X->T)->T:=aKp (motive:=λ_=>(List X->T)->T) (λk=>k []) (λx _ W k=>W λV=>k (x::V)) l
def ab4{W:Type}:∀(l:List W)(k:List W->T),Gw l k=k l
 |[],_=>rfl
 |x::X,k=>ab4 X λX=>k (x::X)
def bP(n:Nat)(k:Nat->T):T:=aLa (motive:=λ_=>T) (k 0) (λm _=>k (Nat.succ m)) n
def jI:∀(n:Nat)(k:Nat->T),bP n k=k n
 |0,_=>rfl
 |_+1,_=>rfl
def S.ab5(s:S)(k:S->T):T:=S.rec (motive:=λ_=>T) (λX b W V R aq Q P=>Gw X λX=>Gw b λb=>bP W λW=>bP V λV=>Gw R λR=>bP aq λaq=>bP Q λQ=>Gw P λP=>k ⟨X,b,W,V,R,aq,Q,P⟩) s
def azk(s:S)(k:S->T):s.ab5 k=k s:=by
 cases s;simp only[S.ab5,ab4,jI]
def Of{X:Type}(l:List X)(k:List X->T):T:=aKp (motive:=λ_=>T) (k []) (λx W _=>k (x::W)) l
def azl{X:Type}(l:List X)(k:List X->T):Of l k=k l:=by cases l<;>rfl
def S.ab6(s:S)(k:S->T):T:=S.rec (motive:=λ_=>T) (λX b W V R aq Q P=>Of X λX=>Of b λb=>bP W λW=>bP V λV=>Of R λR=>bP aq λaq=>bP Q λQ=>Of P λP=>k ⟨X,b,W,V,R,aq,Q,P⟩) s
def azm(s:S)(k:S->T):s.ab6 k=k s:=by
 cases s;simp only[S.ab6,azl,jI]
def DJ(X:bz)(W:ot)(V:cT)(k:S->T)(R:SV->S->T):bY->S->Fx->T
 |[],s,_=>k s
 |m::Q,s,P=>s.ab6 λs=>RW V m s P (TU X W m s (DJ X W V k R Q) R) (DJ X W V k R Q (s.put m.o.dst (.bH [])))
def TX(X:bz)(W:ot)(R:cT)(k:S->T)(V:SV->S->T):∀(l:bY),DJ X W R k V l=mw X W R k V l
 |[]=>by funext s P;rfl
 |m::Q=>by
  funext s P;have:TU X W m s (DJ X W R k V Q) V=zA X W m s (mw X W R k V Q) V:=by
   funext P;rw[azc,TX X W R k V Q]
  simp only[DJ,mw,azm];rw[this,TX X W R k V Q]
def Og(n:Int)(k:Int->T):T:=Int.rec (motive:=λ_=>T) (λn=>bP n λn=>k (aMe n)) (λn=>bP n λn=>k (aLO n)) n
def azn:∀(n:Int)(k:Int->T),Og n k=k n
 |.ofNat n,k=>jI n λn=>k (aMe n)
 |.negSucc n,k=>jI n λn=>k (aLO n)
def IE.deep(e:IE):(IE->T)->T:=IE.rec (motive_1:=λ_=>(IE->T)->T) (motive_2:=λ_=>(BE->T)->T) (motive_3:=λ_=>(RE->T)->T) (λn k=>Og n λn=>k (.c n)) (λn k=>bP n λn=>k (.v n)) (λo q a b X W k=>X λa=>W λb=>k (.bin o q a b)) (λq a X k=>X λa=>k (.conv q a)) (λr V k=>V λr=>k (.len r)) (λm a b X W k=>X λa=>W λb=>k (.mm m a b)) (λb x y W P O k=>W λb=>P λx=>O λy=>k (.cF b x y)) (λr i j V R k=>V λr=>R λi=>bP j λj=>k (.cell r i j)) (λr i V R k=>V λr=>R λi=>k (.lT r i)) (λr n a b c j V X W Q k=>V λr=>X λa=>W λb=>Q λc=>bP n λn=>bP j λj=>k (.look r n a b c j)) (λb k=>k (.c b)) (λn k=>bP n λn=>k (.v n)) (λo a b X W k=>X λa=>W λb=>k (.cmp o a b)) (λa X k=>X λa=>k (.not a)) (λa b X W k=>X λa=>W λb=>k (.and a b)) (λa b X W k=>X λa=>W λb=>k (.beq a b)) (λb x y W P O k=>W λb=>P λx=>O λy=>k (.cF b x y)) (λr i j V R k=>V λr=>R λi=>bP j λj=>k (.cell r i j)) (λa b X W k=>X λa=>W λb=>k (.seq a b)) (λr n a b c j V X W Q k=>V λr=>X λa=>W λb=>Q λc=>bP n λn=>bP j λj=>k (.look r n a b c j)) (λr n a b c V X W Q k=>V λr=>X λa=>W λb=>Q λc=>bP n λn=>k (.has r n a b c)) (λn k=>bP n λn=>k (.v n)) (λr i j q V R k=>V λr=>R λi=>bP j λj=>k (.cell r i j q)) (λv k=>k (.k v)) e
def BE.deep(e:BE):(BE->T)->T:=BE.rec (motive_1:=λ_=>(IE->T)->T) (motive_2:=λ_=>(BE->T)->T) (motive_3:=λ_=>(RE->T)->T) (λn k=>Og n λn=>k (.c n)) (λn k=>bP n λn=>k (.v n)) (λo q a b X W k=>X λa=>W λb=>k (.bin o q a b)) (λq a X k=>X λa=>k (.conv q a)) (λr V k=>V λr=>k (.len r)) (λm a b X W k=>X λa=>W λb=>k (.mm m a b)) (λb x y W P O k=>W λb=>P λx=>O λy=>k (.cF b x y)) (λr i j V R k=>V λr=>R λi=>bP j λj=>k (.cell r i j)) (λr i V R k=>V λr=>R λi=>k (.lT r i)) (λr n a b c j V X W Q k=>V λr=>X λa=>W λb=>Q λc=>bP n λn=>bP j λj=>k (.look r n a b c j)) (λb k=>k (.c b)) (λn k=>bP n λn=>k (.v n)) (λo a b X W k=>X λa=>W λb=>k (.cmp o a b)) (λa X k=>X λa=>k (.not a)) (λa b X W k=>X λa=>W λb=>k (.and a b)) (λa b X W k=>X λa=>W λb=>k (.beq a b)) (λb x y W P O k=>W λb=>P λx=>O λy=>k (.cF b x y)) (λr i j V R k=>V λr=>R λi=>bP j λj=>k (.cell r i j)) (λa b X W k=>X λa=>W λb=>k (.seq a b)) (λr n a b c j V X W Q k=>V λr=>X λa=>W λb=>Q λc=>bP n λn=>bP j λj=>k (.look r n a b c j)) (λr n a b c V X W Q k=>V λr=>X λa=>W λb=>Q λc=>bP n λn=>k (.has r n a b c)) (λn k=>bP n λn=>k (.v n)) (λr i j q V R k=>V λr=>R λi=>bP j λj=>k (.cell r i j q)) (λv k=>k (.k v)) e
def RE.deep(e:RE):(RE->T)->T:=RE.rec (motive_1:=λ_=>(IE->T)->T) (motive_2:=λ_=>(BE->T)->T) (motive_3:=λ_=>(RE->T)->T) (λn k=>Og n λn=>k (.c n)) (λn k=>bP n λn=>k (.v n)) (λo q a b X W k=>X λa=>W λb=>k (.bin o q a b)) (λq a X k=>X λa=>k (.conv q a)) (λr V k=>V λr=>k (.len r)) (λm a b X W k=>X λa=>W λb=>k (.mm m a b)) (λb x y W P O k=>W λb=>P λx=>O λy=>k (.cF b x y)) (λr i j V R k=>V λr=>R λi=>bP j λj=>k (.cell r i j)) (λr i V R k=>V λr=>R λi=>k (.lT r i)) (λr n a b c j V X W Q k=>V λr=>X λa=>W λb=>Q λc=>bP n λn=>bP j λj=>k (.look r n a b c j)) (λb k=>k (.c b)) (λn k=>bP n λn=>k (.v n)) (λo a b X W k=>X λa=>W λb=>k (.cmp o a b)) (λa X k=>X λa=>k (.not a)) (λa b X W k=>X λa=>W λb=>k (.and a b)) (λa b X W k=>X λa=>W λb=>k (.beq a b)) (λb x y W P O k=>W λb=>P λx=>O λy=>k (.cF b x y)) (λr i j V R k=>V λr=>R λi=>bP j λj=>k (.cell r i j)) (λa b X W k=>X λa=>W λb=>k (.seq a b)) (λr n a b c j V X W Q k=>V λr=>X λa=>W λb=>Q λc=>bP n λn=>bP j λj=>k (.look r n a b c j)) (λr n a b c V X W Q k=>V λr=>X λa=>W λb=>Q λc=>bP n λn=>k (.has r n a b c)) (λn k=>bP n λn=>k (.v n)) (λr i j q V R k=>V λr=>R λi=>bP j λj=>k (.cell r i j q)) (λv k=>k (.k v)) e
mutual
def IE.ea:∀(e:IE)(k:IE->T),e.deep k=k e
 |.c n,k=>by show(Og n λn=>k (.c n))=_;rw[azn]
 |.v n,k=>by show(bP n λn=>k (.v n))=_;rw[jI]
 |.bin o q a b,k=>by show(IE.deep a λa=>IE.deep b λb=>k (.bin o q a b))=_;rw[IE.ea a,IE.ea b]
 |.conv q a,k=>by show(IE.deep a λa=>k (.conv q a))=_;rw[IE.ea a]
 |.len r,k=>by show(RE.deep r λr=>k (.len r))=_;rw[RE.ea r]
 |.mm m a b,k=>by show(IE.deep a λa=>IE.deep b λb=>k (.mm m a b))=_;rw[IE.ea a,IE.ea b]
 |.cF b x y,k=>by show(BE.deep b λb=>IE.deep x λx=>IE.deep y λy=>k (.cF b x y))=_;rw[BE.ea b,IE.ea x,IE.ea y]
 |.cell r i j,k=>by show(RE.deep r λr=>IE.deep i λi=>bP j λj=>k (.cell r i j))=_;rw[RE.ea r,IE.ea i,jI]
 |.lT r i,k=>by show(RE.deep r λr=>IE.deep i λi=>k (.lT r i))=_;rw[RE.ea r,IE.ea i]
 |.look r n a b c j,k=>by show(RE.deep r λr=>IE.deep a λa=>IE.deep b λb=>IE.deep c λc=>bP n λn=>bP j λj=>k (.look r n a b c j))=_;rw[RE.ea r,IE.ea a,IE.ea b,IE.ea c,jI,jI]
def BE.ea:∀(e:BE)(k:BE->T),e.deep k=k e
 |.c b,k=>rfl
 |.v n,k=>by show(bP n λn=>k (.v n))=_;rw[jI]
 |.cmp o a b,k=>by show(IE.deep a λa=>IE.deep b λb=>k (.cmp o a b))=_;rw[IE.ea a,IE.ea b]
 |.not a,k=>by show(BE.deep a λa=>k (.not a))=_;rw[BE.ea a]
 |.and a b,k=>by show(BE.deep a λa=>BE.deep b λb=>k (.and a b))=_;rw[BE.ea a,BE.ea b]
 |.beq a b,k=>by show(BE.deep a λa=>BE.deep b λb=>k (.beq a b))=_;rw[BE.ea a,BE.ea b]
 |.cF b x y,k=>by show(BE.deep b λb=>BE.deep x λx=>BE.deep y λy=>k (.cF b x y))=_;rw[BE.ea b,BE.ea x,BE.ea y]
 |.cell r i j,k=>by show(RE.deep r λr=>IE.deep i λi=>bP j λj=>k (.cell r i j))=_;rw[RE.ea r,IE.ea i,jI]
 |.seq a b,k=>by show(RE.deep a λa=>RE.deep b λb=>k (.seq a b))=_;rw[RE.ea a,RE.ea b]
 |.look r n a b c j,k=>by show(RE.deep r λr=>IE.deep a λa=>IE.deep b λb=>IE.deep c λc=>bP n λn=>bP j λj=>k (.look r n a b c j))=_;rw[RE.ea r,IE.ea a,IE.ea b,IE.ea c,jI,jI]
 |.has r n a b c,k=>by show(RE.deep r λr=>IE.deep a λa=>IE.deep b λb=>IE.deep c λc=>bP n λn=>k (.has r n a b c))=_;rw[RE.ea r,IE.ea a,IE.ea b,IE.ea c,jI]
def RE.ea:∀(e:RE)(k:RE->T),e.deep k=k e
 |.v n,k=>by show(bP n λn=>k (.v n))=_;rw[jI]
 |.cell r i j q,k=>by show(RE.deep r λr=>IE.deep i λi=>bP j λj=>k (.cell r i j q))=_;rw[RE.ea r,IE.ea i,jI]
 |.k v,k=>rfl
end
def SV.deep(v:SV):(SV->T)->T:=SV.rec (motive_1:=λ_=>(SV->T)->T) (motive_2:=λ_=>(ah->T)->T) (λq e k=>e.deep λe=>k (.int q e)) (λb k=>b.deep λb=>k (.bool b)) (λr k=>r.deep λr=>k (.ref r)) (λi o k=>bP i λi=>bP o λo=>k (.loc i o)) (λr w i o k=>r.deep λr=>i.deep λi=>bP w λw=>bP o λo=>k (.el r w i o)) (λi o l c k=>bP i λi=>bP o λo=>bP l λl=>bP c λc=>k (.gY i o l c)) (λl X k=>X λl=>k (.agg l)) (λl X k=>X λl=>k (.bH l)) (λf l X k=>X λl=>bP f λf=>k (.fn f l)) (λt x W k=>W λx=>k (.fh t x)) (λn k=>bP n λn=>k (.yl n)) (λk=>k .any) (λi k=>bP i λi=>k (.mp i)) (λe R V Q k=>e.deep λe=>Q λV=>k (.eR e R V)) (λk=>k []) (λ_ _ W P k=>W λx=>P λO=>k (x::O)) v
def SV.Ca(l:ah):(ah->T)->T:=SV.rec_1 (motive_1:=λ_=>(SV->T)->T) (motive_2:=λ_=>(ah->T)->T) (λq e k=>e.deep λe=>k (.int q e)) (λb k=>b.deep λb=>k (.bool b)) (λr k=>r.deep λr=>k (.ref r)) (λi o k=>bP i λi=>bP o λo=>k (.loc i o)) (λr w i o k=>r.deep λr=>i.deep λi=>bP w λw=>bP o λo=>k (.el r w i o)) (λi o l c k=>bP i λi=>bP o λo=>bP l λl=>bP c λc=>k (.gY i o l c)) (λl X k=>X λl=>k (.agg l)) (λl X k=>X λl=>k (.bH l)) (λf l X k=>X λl=>bP f λf=>k (.fn f l)) (λt x W k=>W λx=>k (.fh t x)) (λn k=>bP n λn=>k (.yl n)) (λk=>k .any) (λi k=>bP i λi=>k (.mp i)) (λe R V Q k=>e.deep λe=>Q λV=>k (.eR e R V)) (λk=>k []) (λ_ _ W P k=>W λx=>P λO=>k (x::O)) l
mutual
def SV.ea:∀(v:SV)(k:SV->T),v.deep k=k v
 |.int q e,k=>by show(IE.deep e λe=>k (.int q e))=_;rw[IE.ea]
 |.bool b,k=>by show(BE.deep b λb=>k (.bool b))=_;rw[BE.ea]
 |.ref r,k=>by show(RE.deep r λr=>k (.ref r))=_;rw[RE.ea]
 |.loc i o,k=>by show(bP i λi=>bP o λo=>k (.loc i o))=_;rw[jI,jI]
 |.el r w i o,k=>by show(RE.deep r λr=>IE.deep i λi=>bP w λw=>bP o λo=>k (.el r w i o))=_;rw[RE.ea,IE.ea,jI,jI]
 |.gY i o l c,k=>by show(bP i λi=>bP o λo=>bP l λl=>bP c λc=>k (.gY i o l c))=_;rw[jI,jI,jI,jI]
 |.agg l,k=>by show(SV.Ca l λl=>k (.agg l))=_;rw[SV.Gx l]
 |.bH l,k=>by show(SV.Ca l λl=>k (.bH l))=_;rw[SV.Gx l]
 |.fn f l,k=>by show(SV.Ca l λl=>bP f λf=>k (.fn f l))=_;rw[SV.Gx l,jI]
 |.fh t x,k=>by show(SV.deep x λx=>k (.fh t x))=_;rw[SV.ea x]
 |.yl n,k=>by show(bP n λn=>k (.yl n))=_;rw[jI]
 |.any,k=>rfl
 |.mp i,k=>by show(bP i λi=>k (.mp i))=_;rw[jI]
 |.eR e W X,k=>by show(IE.deep e λe=>SV.Ca X λX=>k (.eR e W X))=_;rw[IE.ea,SV.Gx X]
def SV.Gx:∀(l:ah)(k:ah->T),SV.Ca l k=k l
 |[],k=>rfl
 |x::X,k=>by show(SV.deep x λx=>SV.Ca X λX=>k (x::X))=_;rw[SV.ea x,SV.Gx X]
end
def ab7(l:bw):(bw->T)->T:=aKp (motive:=λ_=>(bw->T)->T) (λk=>k []) (λx _ V k=>Option.rec (motive:=λ_=>T) (V λX=>k (Z::X)) (λb=>Prod.rec (motive:=λ_=>T) (λt W=>bP t λt=>SV.Ca W λW=>V λX=>k (U (t,W)::X)) b) x) l
def ab8:∀(l:bw)(k:bw->T),ab7 l k=k l
 |[],_=>rfl
 |Z::X,k=>ab8 X _
 |U (t,W)::X,k=>by
  show(bP t λt=>SV.Ca W λW=>ab7 X λX=>k (U (t,W)::X))=_;rw[jI,SV.Gx,ab8]
def S.deep(s:S)(k:S->T):T:=S.rec (motive:=λ_=>T) (λX b W V R aq Q P=>SV.Ca X λX=>ab7 b λb=>bP W λW=>bP V λV=>Gw R λR=>bP aq λaq=>bP Q λQ=>Gw P λP=>k ⟨X,b,W,V,R,aq,Q,P⟩) s
def ea(s:S)(k:S->T):s.deep k=k s:=by
 cases s;simp only[S.deep,ab4,jI,SV.Gx,ab8]
def ab9(k:XE->S->T):XE->S->T:=λe s=>s.deep (k e)
def azo(k:XE->S->T):ab9 k=k:=by funext e s;exact ea s (k e)
def nW(l:ai):Nat:=aKp (motive:=λ_=>Nat) 0 (λd _ m=>aIQ (aJc 1 d) m) l
def DK(m n:Nat):Bool:=aK7 (motive:=λ_=>Bool) J E (aJq (Nat.land 1 (aLW m n)) 0)
def amJ(m n:Nat):DK m n=m.testBit n:=by
 have:m.testBit n= !(aJq (Nat.land 1 (aLW m n)) 0):=by
  show((1&&&(m>>>n))!=0)= !(aJq (1&&&(m>>>n)) 0);cases h:aJq (1&&&(m>>>n)) 0 with
  |true=>rw[aLP h];rfl
  |false=>simp only[bne,aLp,aIR,beq_eq_false_iff_ne];exact λe=>by rw[e] at h;cases h
 rw[this,DK];cases aJq (Nat.land 1 (aLW m n)) 0<;>rfl
def TY:∀(l:ai)(n:Nat),(nW l).testBit n=l.contains n
 |[],n=>by simp[nW]
 |d::l,n=>by
  have:nW (d::l)=(1<<<d)|||nW l:=rfl;rw[this,aJ4,TY l n,aLw,aL4];rw[aJv];simp only[aIZ,decide_eq_true_eq,aI9,aIK];exact⟨λh=>h.imp Eq.symm id,λh=>h.imp Eq.symm id⟩
def azp(l:ai)(n:Nat):DK (nW l) n=l.contains n:=by rw[amJ,TY]
def TZ(a:eF)(m X:Nat)(W:ah):Nat->ah->ah
 |_,[]=>[]
 |n,x::V=>(if DK X n then(uu n a.tm W).getD (if DK m n then .any else x) else if DK m n then .any else x)::TZ a m X W (n+1) V
def amK{n:Nat}:∀{W:List (Nat×LK)}{X:ah},(W.map (·.1)).contains n=E->uu n W X=Z
 |[],X,_=>by cases X<;>rfl
 |(t,k)::r,[],_=>rfl
 |(t,k)::r,v::R,h=>by
  simp only[aIP,List.contains_cons,aJh] at h;have V:(t==n)=false:=by
   have:=h.1;simp only[beq_eq_false_iff_ne,ne_eq] at this⊢;exact λe=>this e.symm
  simp only[uu,V,aIU,if_false];exact amK h.2
def amL(a:eF)(X:ai)(W:ah):∀(n:Nat)(l:ah),TZ a (nW X) (nW (a.tm.map (·.1))) W n l=zC a X W n l
 |_,[]=>rfl
 |n,x::V=>by
  simp only[TZ,zC,amL a X W (n+1) V,azp];cases R:(a.tm.map (·.1)).contains n with
  |true=>rfl
  |false=>rw[amK R];rfl
def Oi(m:Nat):Nat->ah->ah->Bool
 |_,[],[]=>J
 |n,x::X,y::W=>(DK m n||SV.same x y)&&Oi m (n+1) X W
 |_,_,_=>E
def aca(a:eF)(X:ai):∀(n:Nat)(l k:ah),Oi (aIQ (nW X) (nW (a.tm.map (·.1)))) n l k=xI a X n l k
 |_,[],[]=>rfl
 |_,[],_::_=>rfl
 |_,_::_,[]=>rfl
 |n,x::W,y::V=>by
  simp only[Oi,xI,aca a X (n+1) W V];congr 1;have:DK (aIQ (nW X) (nW (a.tm.map (·.1)))) n=(a.tm.any (·.1==n)||X.contains n):=by
   rw[amJ];change((nW X)|||(nW (a.tm.map (·.1)))).testBit n=_;rw[aJ4,TY,TY,Bool.or_comm];congr 1;rw[aJv,aI9,aI7];simp only[aI3,beq_iff_eq]
  rw[this]
def acb(a:eF)(X:ai)(s:S):S:=
 let r:ah×S:=S.bS {s with aq:=s.aq+1,rs:=iq a s} a.ks
 {r.2 with tmps:=TZ a (nW X) (nW (a.tm.map (·.1))) r.1 0 s.tmps,boxes:=sS a (r.1.drop (Y a.tm)) 0 s.boxes}
def azq(a:eF)(X:ai)(s:S):acb a X s=pe a X s:=by
 simp only[acb,pe,amL]
def acd(W:eF)(V:ai)(s:S)(k:XE->S->T):XE->S->T
 |.normal,X=>if Oi (aIQ (nW V) (nW (W.tm.map (·.1)))) 0 s.tmps X.tmps&&qZ W 0 s.boxes X.boxes&&rf X W.ks (jx W X)&&xH (iq W s) X.rs&&FU (iq W s) (FT W X)&&decide (X.pd=s.pd) then .back s.aq (jx W X) else .stuck (aiT W s X)
 |e,X=>k e X
def azr(X:eF)(W:ai)(s:S)(k:XE->S->T):acd X W s k=Sc X W s k:=by
 funext e V;cases e<;>simp only[acd,Sc,aca]
def kG(X:bz):Nat->FuncId->Code->S->YH->(XE->S->T)->T
 |0,_,_,_,_,_=>.stuck ""
 |n+1,V,c,s,W,k=>
  match c with
  |.skip=>k .normal s
  |.label _=>k .normal s
  |.ret=>k .ret s
  |.exit id=>k (.exit id) s
  |.seq a b=>kG X n V a s W (R8 (λP=>kG X n V b P W k) k)
  |.block id a=>kG X n V a s W (ZN id k)
  |.scope a=>kG X n V a s W k
  |.cond c a b=>match s.ev X.gl c with
   |.bool (.c J)=>kG X n V a s W k
   |.bool (.c E)=>kG X n V b s W k
   |.bool x=>match c with
    |.tmp t=>.node x (kG X n V a {s with tmps:=s.tmps.set t (.bool (.c J))} W k) (kG X n V b {s with tmps:=s.tmps.set t (.bool (.c E))} W k)
    |_=>.stuck ""
   |_=>.stuck ""
  |.region id R O=>match Sg X V id s with
   |U (e,G,gp,aI)=>I1 e gp (ZY (λP=>kG X n V (.region id R O) P W k) aI) (λP=>kG X n V (.region id R O) P W k) G
   |none=>s.ab5 λs=>if O then
    match TW X (!X.MU V id) R s with
    |U c=>Nd X (jy X (λf c s k=>kG X n f c s W k) W) R (ab9 k) c
    |none=>match ab3 R (Y s.boxes) with
    |U M=>if !IQ X R.toList then .stuck "" else DJ X (xM X (Dm X R λf c s k=>kG X n f c s iF k) W) R (k .normal) (λv=>k (.bn v)) M (s.zF R M) []
    |none=>match TW X E R s with
     |U c=>Nd X (jy X (λf c s k=>kG X n f c s W k) W) R (ab9 k) c
     |none=>.stuck ""
   else
   DJ X (ZO (X.MU V (id+1000000)) X (jy X (λf c s k=>kG X n f c s W k) W)) R (k .normal) (λv=>k (.bn v)) (f9 (λ_=>E) J E 0 (Y s.boxes) R.toList) (s.room (lx R.toList)) []
  |.loop a=>match(Code.first a).map (X.loop V) with
   |U (.inv Q)=>
    if !s.bd|| !rf s (Q.at s).ks (jx (Q.at s) s)|| !Oi (aIQ (nW (Code.mT a)) (nW ((Q.at s).tm.map (·.1)))) 0 s.tmps s.tmps|| !qZ (Q.at s) 0 s.boxes s.boxes|| !xH (iq (Q.at s) s) s.rs|| !FU (iq (Q.at s) s) (FT (Q.at s) s) then .stuck (aiU (Q.at s) (Code.mT a) s) else
    .loop s.aq (Q.at s).ks (jx (Q.at s) s) (kG X n V a (acb (Q.at s) (Code.mT a) s) W (acd (Q.at s) (Code.mT a) s k))
   |_=>kG X n V a s W (R8 (λP=>kG X n V (.loop a) P W k) k)
  |.rangeFunc f L assign body=>match s.ev X.gl f with
   |.fn g N=>match X.inl g with
    |U (c,F,[])=>
     if !s.dZ N||s.vV (Y s.pd)||SV.pf (Y s.pd) N||i7 assign||i7 body then .stuck "" else
     kG X n g c (I0 s F N)
      (Na (Y s.pd) L.size λD H C B=>
       kG X n V assign (Bz H s L.toList D) iF (M9 (Y s.pd) λA=>
        kG X n V body (A.F3 (Y s.pd) .busy) iF (Sd (Y s.pd) H C B))) (F2 s k)
    |_=>.stuck ""
   |_=>.stuck ""
  |_=>.stuck ""
def ace(X:bz):∀n,kG X n=eS X n
 |0=>by funext W c s V k;rfl
 |n+1=>by
  have R:=ace X n;funext W c s V k;unfold kG eS;simp only[R,TX,azh,azj,azk,aca,azq,azr,azo];cases c<;>rfl
def acf(X:bz)(n:Nat)(V:FuncId)(c:Code)(R:Nat)(Q:pO)(W:ah)(s:S):T:=
 kG X n V c {s with tmps:=W++aIL (R-Y W) (.bH [])} iF (Si X (Y s.boxes) Q)
def azs(X:bz)(n:Nat)(W:FuncId)(c:Code)(V:Nat)(R:pO)(Q:ah)(s:S):acf X n W c V R Q s=Ng X n W c V R Q s:=by
 unfold acf Ng;rw[ace]
def acg(X:bz)(n:Nat)(Q:FuncId)(c:Code)(P:Nat)(O:pO)(V:TypeId)(R:ah)(s:S):T:=match uv c with
 |U d=>DJ X (jy X (λf c s k=>kG X n f c s iF k) iF) d.rh (λW=>match W.tmps[d.te]? with
  |U (.loc i 0)=>if !oY V&&aL W.boxes i&&decide (d.tf<Y W.tmps) then kG X n Q d.rest (W.put (U d.tf) (.fn d.g [.loc i 0])) iF (Z0 X (Y s.boxes) V i O) else .stuck ""
  |_=>.stuck "") (λ_ _=>.stuck "") (f9 (λ_=>E) J E 0 (Y s.boxes) d.rh.toList) (({s with tmps:=R++aIL (P-Y R) (SV.bH [])}:S).room (lx d.rh.toList)) []
 |none=>.stuck ""
def azt(X:bz)(n:Nat)(W:FuncId)(c:Code)(V:Nat)(R:pO)(Q:TypeId)(P:ah)(s:S):acg X n W c V R Q P s=Nh X n W c V R Q P s:=by
 unfold acg Nh;cases uv c with
 |none=>rfl
 |some d=>
  simp only[ace,TX];rfl
def evX(X:bz)(P:Option TypeId)(n:Nat)(W:FuncId)(c:Code)(V:Nat)(R:pO)(Q:ah)(s:S):T:=match P with
 |none=>acf X n W c V R Q s
 |U O=>acg X n W c V R O Q s
section
variable{bm u:md}
def mW(L:∀f H o,bm f H=U o->u f H=U o):∀(n R:Nat)(t:T)(O:aa)(i:jH)(o:bD),n<=R->exec bm n t O i=U o->exec u R t O i=U o
 |0,_,t,O,i,o,_,h=>by simp[exec] at h
 |n+1,0,t,O,i,o,G,h=>by omega
 |n+1,R+1,t,O,i,o,G,h=>by
  have X:=mW L n R;cases t with
  |ret v F Q=>simpa only[exec] using h
  |bn v=>simpa only[exec] using h
  |node b t f=>
   simp only[exec] at h⊢;split at h;rename_i W;rw[if_pos W];exact X t O i o (by omega) h;rename_i W;rw[if_neg W];exact X f O i o (by omega) h
  |bj b t=>
   simp only[exec] at h⊢;split at h;rename_i W;rw[if_pos W];exact X t O i o (by omega) h;cases h
  |call f D F Q C im t=>
   simp only[exec] at h⊢;cases N:bm f ((pl D).map (SV.xv O)) with
   |none=>rw[N] at h;cases h
   |some r=>
    rw[N] at h;rw[L _ _ _ N];cases r with
    |ret z=>
     simp only at h⊢;split at h;rename_i P;rw[if_pos P];exact X t _ i o (by omega) h;cases h
    |bn v=>exact h
  |loop aq C y t=>
   simp only[exec] at h⊢;exact X t _ _ o (by omega) h
  |back aq x=>
   simp only[exec] at h⊢;cases P:th aq i with
   |none=>rw[P] at h;cases h
   |some q=>
    obtain⟨B,w⟩:=q;rw[P] at h;exact X B.t _ _ o (by omega) h
  |new e x Q p t=>
   simp only[exec] at h⊢;exact X t _ i o (by omega) h
  |rows k x Q t=>
   simp only[exec] at h⊢;exact X t _ i o (by omega) h
  |gp g A t f=>
   simp only[exec] at h⊢;split at h;rename_i M;rw[if_pos M];split at h;rename_i V;rw[if_pos V];exact aml h (X t O i o (by omega)) (X f O i o (by omega));rename_i V;rw[if_neg V];exact X t O i o (by omega) h;rename_i M;rw[if_neg M];split at h;rename_i V;rw[if_pos V];exact X f O i o (by omega) h;cases h
  |pick m g A t f=>
   simp only[exec] at h⊢;refine amm h λj _ q=> ?_
   cases j with
   |some j=>exact X t _ i o (by omega) q
   |none=>exact X f _ i o (by omega) q
  |dO f g e l d r Q t=>
   simp only[exec] at h⊢;split at h;rename_i rows c;exact X t _ i o (by omega) h;cases h
  |out e s=>simp[exec] at h
  |stuck m=>simp[exec] at h
end
def iV(n:Int):RV:=.mk (.int I n) []
def bV(b:Bool):RV:=.mk (.bool b) []
def sV(l:bi):RV:=.mk (.slice Z (Y l) (Y l)) (l.map λn=>[iV n])
def jJ(b:Nat)(X:am):RV:=.mk (.slice (U ⟨b,0,Z⟩) (Y X) (Y X)) X
def iG:aH:=[
 jJ 0 ([(E,E,E,0,0,0),(J,J,E,1,0,16),(E,J,E,1,0,16),(J,J,E,0,3,0),(J,J,E,0,3,0),(E,J,E,0,3,0),(E,E,E,0,0,7),(E,E,J,0,0,0),(E,E,J,0,0,0),(J,E,E,0,3,0)].map λ(a,b,c,d,e,f)=>[bV a,bV b,bV c,iV d,iV e,iV f]),
 jJ 1 ([([],[]),([0],[]),([],[0,1]),([0],[]),([2],[]),([],[4]),([],[]),([],[2,3]),([],[0,1]),([2],[])].map λ(a,b)=>[sV a,sV b]),
 jJ 2 ([(0,29),(20,21),(29,0),(20,-21),(0,-29),(-20,-21),(-29,0),(-20,21)].map λ(a,b)=>[iV a,iV b])]
def me(g:Bool):aH:=if g then iG else[]
def zX(d:Bool):jF->jF
 |U (.ret X)=>U (.ret X)
 |U (.bn v)=>if d then Z else U (.bn v)
 |none=>Z
structure Fn where
 t:T
 g:Bool:=E
 d:Bool:=E
structure jV where
 tree:FuncId->Option Fn
 rD:md
def jV.bm(p:jV):Nat->md
 |0=>p.rD
 |n+1=>λf W=>match p.rD f W with
  |U o=>U o
  |none=>match p.tree f with
   |U X=>zX X.d (exec (jV.bm p n) n X.t (fJ (me X.g) W) [])
   |none=>Z
def lD{p:jV}:∀(n W:Nat)(f:FuncId)(X:aV)(o:bD),n<=W->p.bm n f X=U o->p.bm W f X=U o
 |0,0,f,X,o,_,h=>h
 |0,W+1,f,X,o,_,h=>by
  simp only[jV.bm] at h⊢;rw[h]
 |n+1,0,f,X,o,M,_=>by omega
 |n+1,W+1,f,X,o,M,h=>by
  simp only[jV.bm] at h⊢;cases Q:p.rD f X with
  |some P=>rw[Q] at h;exact h
  |none=>
   rw[Q] at h;simp only at h⊢;cases N:p.tree f with
   |none=>rw[N] at h;cases h
   |some V=>
    rw[N] at h;simp only at h⊢;cases R:exec (p.bm n) n V.t (fJ (me V.g) X) [] with
    |none=>rw[R] at h;cases h
    |some P=>
     rw[R] at h;rw[mW (λf X o h=>lD n W f X o (by omega) h) n W V.t _ _ P (by omega) R];exact h
def jV.Ev(p:jV)(f:FuncId)(X:aV)(o:bD):Prop:=∃n,p.bm n f X=U o
def jV.Go(p:jV)(t:T)(O:aa)(i:jH)(o:bD):Prop:=∃n,exec (p.bm n) n t O i=U o
section
variable{p:jV}{O:aa}{i:jH}{o:bD}
def aci(h:p.rD y b=U o):p.Ev y b o:=⟨0,h⟩
def azu{X:Fn}(R:p.tree y=U X)(Q:p.rD y b=Z)(W:X.d=E\/∃V,o=.ret V)(h:p.Go X.t (fJ (me X.g) b) [] o):p.Ev y b o:=by
 obtain⟨n,h⟩:=h;refine⟨n+1, ?_⟩;simp only[jV.bm,Q,R,h];rcases W with W|⟨V,rfl⟩;cases o<;>simp[zX,W];rfl
def go_of:p.Go t O i o<->∃n,exec (p.bm (n+1)) (n+1) t O i=U o:=
 ⟨λ⟨n,h⟩=>⟨n,mW (λf X o h=>lD n (n+1) f X o (by omega) h) n (n+1) t O i o (by omega) h⟩,λ⟨n,h⟩=>⟨n+1,h⟩⟩
def go_up{m:Nat}(h:exec (p.bm N) m t O i=U o):p.Go t O i o:=
 ⟨max N m,mW (λf X o h=>lD N _ f X o (by omega) h) m _ t O i o (by omega) h⟩
@[simp] def go_ret {v:SV} {X:bw} {W:bc}:p.Go (.ret v X W) O i o<->o=.ret ((uF v).map (SV.xv O)):=by
 rw[go_of];simp only[exec,aID];exact⟨λ⟨_,h⟩=>h.symm,λh=>⟨0,h.symm⟩⟩
@[simp] def go_pan:p.Go (.bn l) O i o<->(Gr O l).map .bn=U o:=by
 rw[go_of];simp only[exec];exact⟨λ⟨_,h⟩=>h,λh=>⟨0,h⟩⟩
@[simp] def go_node {b:BE} {f:T}:p.Go (.node b t f) O i o<->if b.den O=J then p.Go t O i o else p.Go f O i o:=by
 rw[go_of];simp only[exec];split
 ·exact⟨λ⟨n,h⟩=>go_up h,λ⟨n,h⟩=>⟨n,mW (λf X o h=>lD n (n+1) f X o (by omega) h) n n t O i o (by omega) h⟩⟩
 ·exact⟨λ⟨n,h⟩=>go_up h,λ⟨n,h⟩=>⟨n,mW (λf X o h=>lD n (n+1) f X o (by omega) h) n n f O i o (by omega) h⟩⟩
@[simp] def go_need {b:BE}:p.Go (.bj b t) O i o<->b.den O=J/\p.Go t O i o:=by
 rw[go_of];simp only[exec];by_cases X:b.den O=J
 ·simp only[X,if_true,true_and];exact⟨λ⟨n,h⟩=>go_up h,λ⟨n,h⟩=>⟨n,mW (λf W o h=>lD n (n+1) f W o (by omega) h) n n t O i o (by omega) h⟩⟩
 simp[X]
@[simp] def go_loop:p.Go (.loop N f z t) O i o<->p.Go t (O.ext (z.map (SV.xv O))) (⟨N,t,O⟩::i) o:=by
 rw[go_of];simp only[exec];exact⟨λ⟨n,h⟩=>go_up h,λ⟨n,h⟩=>⟨n,mW (λX W o h=>lD n (n+1) X W o (by omega) h) n n t _ _ o (by omega) h⟩⟩
@[simp] def go_new {x:LE} {X:bc}:p.Go (.new v x w X t) O i o<->p.Go t (O.add (.r (gz x O))) i o:=by
 rw[go_of];simp only[exec];exact⟨λ⟨n,h⟩=>go_up h,λ⟨n,h⟩=>⟨n,mW (λf W o h=>lD n (n+1) f W o (by omega) h) n n t _ _ o (by omega) h⟩⟩
@[simp] def go_rows {k:RK} {x:LE}:p.Go (.rows k x w t) O i o<->p.Go t (O.add (.r (gz x O))) i o:=by
 rw[go_of];simp only[exec];exact⟨λ⟨n,h⟩=>go_up h,λ⟨n,h⟩=>⟨n,mW (λf X o h=>lD n (n+1) f X o (by omega) h) n n t _ _ o (by omega) h⟩⟩
def go_turn{g:FuncId}{X:aW}{W:Bool}{r:RE}{V:am}(h:mC O X W (r.rv O).rows=U V):p.Go (.dO y g v X W r w t) O i o<->p.Go t (O.add (.r (.mk (r.rv O).val V))) i o:=by
 rw[go_of];simp only[exec,h];exact⟨λ⟨n,h⟩=>go_up h,λ⟨n,h⟩=>⟨n,mW (λy R o h=>lD n (n+1) y R o (by omega) h) n n t _ _ o (by omega) h⟩⟩
def go_back{W:jH}{X:Lp}(h:th N i=U (X,W)):p.Go (.back N z) O i o<->p.Go X.t (X.O.ext (z.map (SV.xv O))) (X::W) o:=by
 rw[go_of];simp only[exec,h];exact⟨λ⟨n,h⟩=>go_up h,λ⟨n,h⟩=>⟨n,mW (λf V o h=>lD n (n+1) f V o (by omega) h) n n X.t _ _ o (by omega) h⟩⟩
def go_call{f:FuncId}{V:ah}{Q:bw}{P:bc}{R:aP}{im:SV}{t:T}{X:aV}(h:p.Ev f ((pl V).map (SV.xv O)) (.ret X))(N:iP R X=J)(W:p.Go t (O.ext X) i o):p.Go (.call f V Q P R im t) O i o:=by
 obtain⟨n,h⟩:=h;obtain⟨m,W⟩:=W;refine⟨max n m+1, ?_⟩;simp only[exec];rw[lD n _ _ _ _ (by omega) h];simp only[N,if_true];exact mW (λf M o h=>lD m _ f M o (by omega) h) m _ t _ _ o (by omega) W
def go_callp{f:FuncId}{X:ah}{W:bw}{V:bc}{R:aP}{im:SV}{t:T}{v:Value}(h:p.Ev f ((pl X).map (SV.xv O)) (.bn v)):p.Go (.call f X W V R im t) O i (.bn v):=by
 obtain⟨n,h⟩:=h;refine⟨n+1, ?_⟩;simp only[exec];rw[lD n _ _ _ _ (by omega) h]
end
structure PC where
 aq:Nat
 I:aV->Prop
 μ:aV->Nat
 m:Nat
abbrev dN:=List PC
def Gy(aq:Nat):dN->Option PC
 |[]=>Z
 |x::X=>if x.aq=aq then U x else Gy aq X
def T1(R:bD->Prop):Prop:=∀o X,R o->R X->o=X/\B9 o o=J
def T.lE(W:FuncId->aV->bD->Prop):T->(bD->Prop)->aa->dN->Prop
 |.ret v _ _,R,O,_=>R (.ret ((uF v).map (SV.xv O)))
 |.bn v,R,O,_=>∃x,Gr O v=U x/\R (.bn x)
 |.node b t f,R,O,L=>(b.den O=J->t.lE W R O L)/\(b.den O=E->f.lE W R O L)
 |.bj b t,R,O,L=>b.den O=J/\t.lE W R O L
 |.call f G _ _ F _ t,R,O,L=>∃o,W f ((pl G).map (SV.xv O)) o/\(match o with
  |.ret N=>iP F N=J/\t.lE W R (O.ext N) L
  |.bn v=>R (.bn v))
 |.loop aq _ D t,R,O,L=>∃V Q,((V=R/\Q=L)\/((∀o,V o->R o)/\Q=[]))/\∃X M,X (D.map (SV.xv O))/\∀P,X P->t.lE W V (O.ext P) (⟨aq,X,M,M P⟩::Q)
 |.back aq x,R,O,L=>match Gy aq L with
  |U c=>c.I (x.map (SV.xv O))/\c.μ (x.map (SV.xv O))<c.m
  |none=>False
 |.new _ x _ _ t,R,O,L=>t.lE W R (O.add (.r (gz x O))) L
 |.rows _ x _ t,R,O,L=>t.lE W R (O.add (.r (gz x O))) L
 |.gp g h t f,R,O,L=>(g.den O=J\/h.den O=J)/\(g.den O=J->t.lE W R O L)/\(h.den O=J->f.lE W R O L)/\(g.den O=J->h.den O=J->T1 R)
 |.pick n g h t f,R,O,L=>T1 R/\wj n g h O≠[]/\(∀j:Int,0<=j->j<n.den O->g.den (O.add (.i j))=J->t.lE W R (O.add (.i j)) L)/\(h.den O=J->f.lE W R O L)
 |.dO _ _ _ C B r _ t,R,O,L=>∃H,mC O C B (r.rv O).rows=U H/\t.lE W R (O.add (.r (.mk (r.rv O).val H))) L
 |.stuck _,_,_,_=>False
 |.out _ _,_,_,_=>False
def T.wp(X:FuncId->aV->bD->Prop)(R:bD->Prop)(t:T)(O:aa)(L:dN):Prop:=t.lE X R O L
section
variable{a:jV}{R:bD->Prop}
inductive zY(a:jV)(R:bD->Prop):List PC->List Lp->Prop where
 |nil (st:List Lp):zY a R [] st
 |cons (c:PC) (fr:Lp) (L:List PC) (st:List Lp) (h1:c.aq=fr.aq) (h2:∀xs,c.I xs->c.μ xs<c.m->∃o,a.Go fr.t (fr.O.ext xs) (fr::st) o/\R o) (h3:zY a R L st):zY a R (c::L) (fr::st)
def zY.find{L:dN}{V:jH}(h:zY a R L V){c:PC}(W:Gy N L=U c):
  ∃X M,th N V=U (X,M)/\∀Q,c.I Q->c.μ Q<c.m->∃o,a.Go X.t (X.O.ext Q) (X::M) o/\R o:=by
 induction h with
 |nil _=>cases W
 |cons D X L V H G C F=>
  simp only[Gy] at W;simp only[th,<-H];split at W;rename_i P;cases W;rw[if_pos P];exact⟨X,V,rfl,G⟩;rename_i P;rw[if_neg P];exact F W
def go_mono{X:jH}{m:Nat}(h:exec (a.bm N) N t F X=U n)(W:N<=m):exec (a.bm m) m t F X=U n:=
 mW (λf V n h=>lD N m f V n W h) N m t F X n W h
def amM{X:Type}{f:X->jF}{o:bD}(W:B9 o o=J):∀{l:List X},l≠[]->(∀x∈l,f x=U o)->td (l.map f)=U o
 |[],h,_=>absurd rfl h
 |[x],_,h=>by simpa[td] using h x (by simp)
 |x::y::r,_,h=>by
  have:=amM W (l:=y::r) (by simp) (λz V=>h z (by simp at V⊢;exact .inr V));simp only[aIP,td] at this⊢;rw[this,h x (by simp),zV,if_pos W]
def amN{V:Type}{p:V->Nat->Prop}(W:∀x n m,p x n->n<=m->p x m):∀{l:List V},(∀x∈l,∃n,p x n)->∃n,∀x∈l,p x n
 |[],_=>⟨0,λx Q=>by cases Q⟩
 |x::r,h=>by
  obtain⟨n,P⟩:=h x (by simp);obtain⟨m,O⟩:=amN W (l:=r) (λz X=>h z (by simp[X]));refine⟨max n m,λz X=> ?_⟩;rcases aIK.1 X with rfl|X;exact W _ _ _ P (by omega);exact W _ _ _ (O z X) (by omega)
def go_wp:∀(t:T)(R:bD->Prop)(O:aa)(L:dN)(W:jH),t.lE a.Ev R O L->zY a R L W->∃o,a.Go t O W o/\R o
 |.ret v bx z,R,O,L,W,h,_=>⟨_,go_ret.2 rfl,h⟩
 |.bn v,R,O,L,W,h,_=>by
  obtain⟨x,P,Q⟩:=h;exact⟨.bn x,go_pan.2 (by rw[P];rfl),Q⟩
 |.node b t f,R,O,L,W,h,V=>by
  simp only[go_node];cases hb:b.den O with
  |true=>simpa using go_wp t R O L W (h.1 hb) V
  |false=>simpa using go_wp f R O L W (h.2 hb) V
 |.bj b t,R,O,L,W,h,V=>by
  obtain⟨o,P,Q⟩:=go_wp t R O L W h.2 V;exact⟨o,go_need.2 ⟨h.1,P⟩,Q⟩
 |.call f a9 bx z ks im t,R,O,L,W,h,V=>by
  obtain⟨o,P,Q⟩:=h;cases o with
  |ret ys=>
   obtain⟨o,G,F⟩:=go_wp t R (O.ext ys) L W Q.2 V;exact⟨o,go_call P Q.1 G,F⟩
  |bn v=>exact⟨.bn v,go_callp P,Q⟩
 |.loop aq ks x0 t,R,O,L,W,h,V=>by
  obtain⟨y,L',ag,X,μ,P,Q⟩:=h;have af:zY a y L' W/\∀o,y o->R o:=by
   rcases ag with⟨rfl,rfl⟩|⟨G,rfl⟩;exact⟨V,λo h=>h⟩;exact⟨zY.nil W,G⟩
  have al:∀n N,μ N<n->X N->∃o,a.Go t (O.ext N) (⟨aq,t,O⟩::W) o/\y o:=by
   intro n;induction n with
   |zero=>intro N q;omega
   |succ n ih=>
    intro N q hI;exact go_wp t y (O.ext N) _ _ (Q N hI) (zY.cons _ _ _ _ rfl (λan a0 hm=>ih an (by simp only at hm;omega) a0) af.1)
  obtain⟨o,G,F⟩:=al _ _ (Nat.lt_succ_self _) P;exact⟨o,go_loop.2 G,af.2 o F⟩
 |.back aq x,R,O,L,W,h,V=>by
  simp only[T.lE] at h;split at h
  ·rename_i c hf;obtain⟨fr,bb,P,Q⟩:=V.find hf;obtain⟨o,G,F⟩:=Q _ h.1 h.2;exact⟨o,(go_back P).2 G,F⟩
  exact h.elim
 |.new e x z bd t,R,O,L,W,h,V=>by
  obtain⟨o,P,Q⟩:=go_wp t R _ L W h V;exact⟨o,go_new.2 P,Q⟩
 |.rows e x z t,R,O,L,W,h,V=>by
  obtain⟨o,P,Q⟩:=go_wp t R _ L W h V;exact⟨o,go_rows.2 P,Q⟩
 |.gp g A t f,R,O,L,W,h,V=>by
  obtain⟨w,P,Q,G⟩:=h;cases B:g.den O with
  |true=>
   obtain⟨o,M,D⟩:=go_wp t R O L W (P B) V;cases C:A.den O with
   |true=>
    obtain⟨d,k1,k2⟩:=go_wp f R O L W (Q C) V;obtain⟨rfl,e⟩:=G B C o d D k2;obtain⟨n,M⟩:=M;obtain⟨m,k1⟩:=k1;refine⟨o,⟨max n m+1, ?_⟩,D⟩;simp only[exec,B,C,if_true];rw[mW (λf N o h=>lD n _ f N o (by omega) h) n (max n m) t O W o (by omega) M,mW (λf N o h=>lD m _ f N o (by omega) h) m (max n m) f O W o (by omega) k1,zV,if_pos e]
   |false=>
    obtain⟨n,M⟩:=M;refine⟨o,⟨n+1, ?_⟩,D⟩;simp only[exec,B,C,if_true];exact mW (λf N o h=>lD n _ f N o (by omega) h) n n t O W o (by omega) M
  |false=>
   have C:A.den O=true:=w.resolve_left (by simp[B]);obtain⟨o,M,D⟩:=go_wp f R O L W (Q C) V;obtain⟨n,M⟩:=M;refine⟨o,⟨n+1, ?_⟩,D⟩;simp only[exec,B,C,if_true];exact mW (λf N o h=>lD n _ f N o (by omega) h) n n f O W o (by omega) M
 |.pick m g A t f,R,O,L,W,h,V=>by
  obtain⟨hs,w,P,Q⟩:=h;have hw:∀j∈wj m g A O,∃o,R o/\(match j with
   |U j=>a.Go t (O.add (.i j)) W o
   |none=>a.Go f O W o):=by
   intro j H;cases j with
   |some j=>
    simp only[wj,aIM,aI3,aJj,aJQ] at H;rcases H with⟨j',⟨⟨k,hk,rfl⟩,B⟩,e⟩|H
    ·cases e;obtain⟨o,M,D⟩:=go_wp t R (O.add (.i (k:Int))) L W (P _ (by omega) (by omega) B) V;exact⟨o,D,M⟩
    split at H<;>simp at H
   |none=>
    simp only[wj,aIM,aI3,aJj,aJQ] at H;rcases H with⟨j',_,e⟩|H;cases e;split at H
    ·rename_i C;obtain⟨o,M,D⟩:=go_wp f R O L W (Q C) V;exact⟨o,D,M⟩
    simp at H
  obtain⟨j0,a1⟩:=List.exists_mem_of_ne_nil _ w;obtain⟨o,u,_⟩:=hw j0 a1;have a3:B9 o o=true:=(hs o o u u).2;obtain⟨n,q⟩:=amN (p:=λj n=>(match j with
   |U j=>exec (a.bm n) n t (O.add (.i j)) W
   |none=>exec (a.bm n) n f O W)=U o) (λx n m hx a4=>by cases x<;>exact go_mono hx a4) (l:=wj m g A O) (λj H=>by
    obtain⟨d,G,F⟩:=hw j H;obtain⟨rfl,_⟩:=hs o d u G;cases j<;>exact F)
  refine⟨o,⟨n+1, ?_⟩,u⟩;simp only[exec];refine amM a3 w λj H=> ?_
  have:=q j H;cases j with
  |some j=>exact mW (λf N o h=>lD n _ f N o (by omega) h) n n t _ W o (by omega) this
  |none=>exact mW (λf N o h=>lD n _ f N o (by omega) h) n n f O W o (by omega) this
 |.dO f g e sp sb r z t,R,O,L,W,h,V=>by
  obtain⟨bf,P,Q⟩:=h;obtain⟨o,G,F⟩:=go_wp t R _ L W Q V;exact⟨o,(go_turn P).2 G,F⟩
 |.stuck m,R,O,L,W,h,_=>h.elim
 |.out e s,R,O,L,W,h,_=>h.elim
def JX(a:jV)(f:FuncId)(X:Fn):Prop:=a.tree f=U X/\∀W,a.rD f W=Z
def amO{X:Fn}(W:JX a y X)(Q:X.d=E\/∀v,¬R (.bn v))(h:X.t.wp a.Ev R (fJ (me X.g) b) []):∃o,a.Ev y b o/\R o:=by
 obtain⟨o,P,V⟩:=go_wp X.t R _ [] [] h (zY.nil []);refine⟨o,azu W.1 (W.2 _) (Q.imp id λO=> ?_) P,V⟩;cases o with
 |ret N=>exact⟨N,rfl⟩
 |bn v=>exact(O v V).elim
def Gz{X:Fn}(W:JX a y X)(V:X.d=E\/∀v,n≠ .bn v)(h:X.t.wp a.Ev (· =n) (fJ (me X.g) b) []):a.Ev y b n:=by
 obtain⟨M,Q,P⟩:=amO (R:=(· =n)) W (V.imp id λO v N=>O v N.symm) h;exact P▸Q
def Cb{W:bD}(h:a.Ev y b n)(k:a.Ev y b W):n=W:=by
 obtain⟨X,h⟩:=h;obtain⟨m,k⟩:=k;have Q:=lD X (max X m) y b n (by omega) h;have V:=lD m (max X m) y b W (by omega) k;rw[Q] at V;cases V;rfl
end
def T2(n j:Nat)(a b c:Int)(X:am):Int:=match mV n [a,b,c] X with
 |U W=>bB (W.getD j default).val
 |none=>0
def T4(n j:Nat)(a b c:Int)(X:am):Bool:=match mV n [a,b,c] X with
 |U W=>fG (W.getD j default).val
 |none=>E
def IE.dn(e:IE):aa->Int:=IE.rec (motive_1:=λ_=>aa->Int) (motive_2:=λ_=>aa->Bool) (motive_3:=λ_=>aa->RV) (λn _=>n) (λk O=>O.i.getD k 0) (λX k _ _ a b O=>au X k (a O) (b O)) (λk _ a O=>k.wrap (a O)) (λ_ r O=>lenOf (r O).val) (λW _ _ a b O=>cond W (max (a O) (b O)) (min (a O) (b O))) (λ_ _ _ b x y O=>cond (b O) (x O) (y O)) (λ_ _ j r i O=>bB (cellAt (r O).rows (i O) j).val) (λ_ _ r i O=>jz (r O).val (i O)) (λ_ n _ _ _ j r a b c O=>T2 n j (a O) (b O) (c O) (r O).rows) (λb _=>b) (λk O=>O.b.getD k E) (λX _ _ a b O=>gg X (a O) (b O)) (λ_ a O=> !(a O)) (λ_ _ a b O=>a O&&b O) (λ_ _ a b O=>a O==b O) (λ_ _ _ b x y O=>cond (b O) (x O) (y O)) (λ_ _ j r i O=>fG (cellAt (r O).rows (i O) j).val) (λ_ _ a b O=>rj (a O).val (b O).val) (λ_ n _ _ _ j r a b c O=>T4 n j (a O) (b O) (c O) (r O).rows) (λ_ n _ _ _ r a b c O=>(mV n [a O,b O,c O] (r O).rows).isSome) (λk O=>O.rv k) (λ_ _ j k r i O=>cz k (cellAt (r O).rows (i O) j)) (λv _=>.mk v []) e
def BE.dn(e:BE):aa->Bool:=BE.rec (motive_1:=λ_=>aa->Int) (motive_2:=λ_=>aa->Bool) (motive_3:=λ_=>aa->RV) (λn _=>n) (λk O=>O.i.getD k 0) (λX k _ _ a b O=>au X k (a O) (b O)) (λk _ a O=>k.wrap (a O)) (λ_ r O=>lenOf (r O).val) (λW _ _ a b O=>cond W (max (a O) (b O)) (min (a O) (b O))) (λ_ _ _ b x y O=>cond (b O) (x O) (y O)) (λ_ _ j r i O=>bB (cellAt (r O).rows (i O) j).val) (λ_ _ r i O=>jz (r O).val (i O)) (λ_ n _ _ _ j r a b c O=>T2 n j (a O) (b O) (c O) (r O).rows) (λb _=>b) (λk O=>O.b.getD k E) (λX _ _ a b O=>gg X (a O) (b O)) (λ_ a O=> !(a O)) (λ_ _ a b O=>a O&&b O) (λ_ _ a b O=>a O==b O) (λ_ _ _ b x y O=>cond (b O) (x O) (y O)) (λ_ _ j r i O=>fG (cellAt (r O).rows (i O) j).val) (λ_ _ a b O=>rj (a O).val (b O).val) (λ_ n _ _ _ j r a b c O=>T4 n j (a O) (b O) (c O) (r O).rows) (λ_ n _ _ _ r a b c O=>(mV n [a O,b O,c O] (r O).rows).isSome) (λk O=>O.rv k) (λ_ _ j k r i O=>cz k (cellAt (r O).rows (i O) j)) (λv _=>.mk v []) e
def RE.dn(e:RE):aa->RV:=RE.rec (motive_1:=λ_=>aa->Int) (motive_2:=λ_=>aa->Bool) (motive_3:=λ_=>aa->RV) (λn _=>n) (λk O=>O.i.getD k 0) (λX k _ _ a b O=>au X k (a O) (b O)) (λk _ a O=>k.wrap (a O)) (λ_ r O=>lenOf (r O).val) (λW _ _ a b O=>cond W (max (a O) (b O)) (min (a O) (b O))) (λ_ _ _ b x y O=>cond (b O) (x O) (y O)) (λ_ _ j r i O=>bB (cellAt (r O).rows (i O) j).val) (λ_ _ r i O=>jz (r O).val (i O)) (λ_ n _ _ _ j r a b c O=>T2 n j (a O) (b O) (c O) (r O).rows) (λb _=>b) (λk O=>O.b.getD k E) (λX _ _ a b O=>gg X (a O) (b O)) (λ_ a O=> !(a O)) (λ_ _ a b O=>a O&&b O) (λ_ _ a b O=>a O==b O) (λ_ _ _ b x y O=>cond (b O) (x O) (y O)) (λ_ _ j r i O=>fG (cellAt (r O).rows (i O) j).val) (λ_ _ a b O=>rj (a O).val (b O).val) (λ_ n _ _ _ j r a b c O=>T4 n j (a O) (b O) (c O) (r O).rows) (λ_ n _ _ _ r a b c O=>(mV n [a O,b O,c O] (r O).rows).isSome) (λk O=>O.rv k) (λ_ _ j k r i O=>cz k (cellAt (r O).rows (i O) j)) (λv _=>.mk v []) e
def T5{X:Type}(b:Bool)(x y:X):cond b x y=if b then x else y:=by cases b<;>rfl
mutual
def IE.eN:∀(e:IE)(O:aa),e.dn O=e.den O
 |.c _,_=>rfl
 |.v _,_=>rfl
 |.bin o k a b,O=>by show au o k (a.dn O) (b.dn O)=_;rw[IE.eN a,IE.eN b];rfl
 |.conv k a,O=>by show k.wrap (a.dn O)=_;rw[IE.eN a];rfl
 |.len r,O=>by show lenOf (r.dn O).val=_;rw[RE.eN r];rfl
 |.mm m a b,O=>by show cond m (max (a.dn O) (b.dn O)) (min (a.dn O) (b.dn O))=_;rw[IE.eN a,IE.eN b,T5];rfl
 |.cF b x y,O=>by show cond (b.dn O) (x.dn O) (y.dn O)=_;rw[BE.eN b,IE.eN x,IE.eN y,T5];rfl
 |.cell r i j,O=>by show bB (cellAt (r.dn O).rows (i.dn O) j).val=_;rw[RE.eN r,IE.eN i];rfl
 |.lT r i,O=>by show jz (r.dn O).val (i.dn O)=_;rw[RE.eN r,IE.eN i];rfl
 |.look r n a b c j,O=>by show T2 n j (a.dn O) (b.dn O) (c.dn O) (r.dn O).rows=_;rw[RE.eN r,IE.eN a,IE.eN b,IE.eN c];rfl
def BE.eN:∀(e:BE)(O:aa),e.dn O=e.den O
 |.c _,_=>rfl
 |.v _,_=>rfl
 |.cmp o a b,O=>by show gg o (a.dn O) (b.dn O)=_;rw[IE.eN a,IE.eN b];rfl
 |.not a,O=>by show(!(a.dn O))=_;rw[BE.eN a];rfl
 |.and a b,O=>by show(a.dn O&&b.dn O)=_;rw[BE.eN a,BE.eN b];rfl
 |.beq a b,O=>by show(a.dn O==b.dn O)=_;rw[BE.eN a,BE.eN b];rfl
 |.cF b x y,O=>by show cond (b.dn O) (x.dn O) (y.dn O)=_;rw[BE.eN b,BE.eN x,BE.eN y,T5];rfl
 |.cell r i j,O=>by show fG (cellAt (r.dn O).rows (i.dn O) j).val=_;rw[RE.eN r,IE.eN i];rfl
 |.seq a b,O=>by show rj (a.dn O).val (b.dn O).val=_;rw[RE.eN a,RE.eN b];rfl
 |.look r n a b c j,O=>by show T4 n j (a.dn O) (b.dn O) (c.dn O) (r.dn O).rows=_;rw[RE.eN r,IE.eN a,IE.eN b,IE.eN c];rfl
 |.has r n a b c,O=>by show(mV n [a.dn O,b.dn O,c.dn O] (r.dn O).rows).isSome=_;rw[RE.eN r,IE.eN a,IE.eN b,IE.eN c];rfl
def RE.eN:∀(e:RE)(O:aa),e.dn O=e.rv O
 |.v _,_=>rfl
 |.cell r i j k,O=>by show cz k (cellAt (r.dn O).rows (i.dn O) j)=_;rw[RE.eN r,IE.eN i];rfl
 |.k _,_=>rfl
end
def fN{X:Type}(n:Nat)(k:Nat->X):X:=aLa (motive:=λ_=>X) (k 0) (λm _=>k (Nat.succ m)) n
def fI{X:Type}(n:Int)(k:Int->X):X:=Int.rec (motive:=λ_=>X) (λn=>fN n λn=>k (aMe n)) (λn=>fN n λn=>k (aLO n)) n
def fB{X:Type}(b:Bool)(k:Bool->X):X:=aK7 (motive:=λ_=>X) (k E) (k J) b
def fV{X:Type}(v:Value)(k:Value->X):X:=match v with
 |.int q n=>fI n λn=>k (.int q n)
 |.bool b=>fB b λb=>k (.bool b)
 |.slice Z n c=>fN n λn=>fN c λc=>k (.slice Z n c)
 |v=>k v
def fR{X:Type}(v:RV):(RV->X)->X:=RV.rec (motive_1:=λ_=>(RV->X)->X) (motive_2:=λ_=>(am->X)->X) (motive_3:=λ_=>(aH->X)->X) (λv _ h k=>fV v λv=>h λl=>k (.mk v l)) (λk=>k []) (λ_ _ h W k=>h λx=>W λV=>k (x::V)) (λk=>k []) (λ_ _ h W k=>h λx=>W λV=>k (x::V)) v
def fRs{X:Type}(v:am):(am->X)->X:=RV.rec_1 (motive_1:=λ_=>(RV->X)->X) (motive_2:=λ_=>(am->X)->X) (motive_3:=λ_=>(aH->X)->X) (λv _ h k=>fV v λv=>h λl=>k (.mk v l)) (λk=>k []) (λ_ _ h W k=>h λx=>W λV=>k (x::V)) (λk=>k []) (λ_ _ h W k=>h λx=>W λV=>k (x::V)) v
def fRr{X:Type}(v:aH):(aH->X)->X:=RV.rec_2 (motive_1:=λ_=>(RV->X)->X) (motive_2:=λ_=>(am->X)->X) (motive_3:=λ_=>(aH->X)->X) (λv _ h k=>fV v λv=>h λl=>k (.mk v l)) (λk=>k []) (λ_ _ h W k=>h λx=>W λV=>k (x::V)) (λk=>k []) (λ_ _ h W k=>h λx=>W λV=>k (x::V)) v
def fX{X:Type}(x:XV)(k:XV->X):X:=match x with
 |.i n=>fI n λn=>k (.i n)
 |.b b=>fB b λb=>k (.b b)
 |.r v=>fR v λv=>k (.r v)
def fL{X:Type}(l:aV):(aV->X)->X:=aKp (motive:=λ_=>(aV->X)->X) (λk=>k []) (λx _ W k=>fX x λx=>W λV=>k (x::V)) l
def Ua{X:Type}:∀(n:Nat)(k:Nat->X),fN n k=k n
 |0,_=>rfl
 |_+1,_=>rfl
def acl{X:Type}:∀(n:Int)(k:Int->X),fI n k=k n
 |.ofNat n,k=>Ua n λn=>k (aMe n)
 |.negSucc n,k=>Ua n λn=>k (aLO n)
def amP{X:Type}:∀(n:Bool)(k:Bool->X),fB n k=k n
 |E,_=>rfl
 |J,_=>rfl
def azv{X:Type}(v:Value)(k:Value->X):fV v k=k v:=by
 unfold fV;split;exact acl _ _;exact amP _ _;rw[Ua,Ua];rfl
mutual
def acm{X:Type}:∀(v:RV)(k:RV->X),fR v k=k v
 |.mk v l,k=>by
  show(fV v λv=>fRs l λl=>k (.mk v l))=_;rw[azv,amQ l]
def amQ{W:Type}:∀(l:am)(k:am->W),fRs l k=k l
 |[],_=>rfl
 |x::X,k=>by
  show(fRr x λx=>fRs X λX=>k (x::X))=_;rw[amR x,amQ X]
def amR{W:Type}:∀(l:aH)(k:aH->W),fRr l k=k l
 |[],_=>rfl
 |x::X,k=>by
  show(fR x λx=>fRr X λX=>k (x::X))=_;rw[acm x,amR X]
end
def azw{X:Type}(x:XV)(k:XV->X):fX x k=k x:=by
 cases x<;>simp only[fX,acl,amP,acm]
def amS{W:Type}:∀(l:aV)(k:aV->W),fL l k=k l
 |[],_=>rfl
 |x::X,k=>by
  show(fX x λx=>fL X λX=>k (x::X))=_;rw[azw,amS X]
def fS{X V:Type}(l:List V):(List V->X)->X:=aKp (motive:=λ_=>(List V->X)->X) (λk=>k []) (λx _ W k=>W λR=>k (x::R)) l
def fE{X:Type}(O:aa)(k:aa->X):X:=aa.rec (motive:=λ_=>X) (λi b r y=>fS i λi=>fS b λb=>fS r λr=>k ⟨i,b,r,y⟩) O
def Ub{W V:Type}:∀(l:List V)(k:List V->W),fS l k=k l
 |[],_=>rfl
 |x::X,k=>Ub X λX=>k (x::X)
def amT{X:Type}(O:aa)(k:aa->X):fE O k=k O:=by
 obtain⟨i,b,r,y⟩:=O;show(fS i λi=>fS b λb=>fS r λr=>k ⟨i,b,r,y⟩)=_;rw[Ub,Ub,Ub]
def SV.xn(O:aa):SV->XV
 |.int _ e=>.i (e.dn O)
 |.bool b=>.b (b.dn O)
 |.ref r=>.r (r.dn O)
 |_=>.i 0
def azx(O:aa):SV.xn O=SV.xv O:=by
 funext v;cases v<;>simp only[SV.xn,SV.xv,IE.eN,BE.eN,RE.eN]
def T.step(X:T->aa->jH->jF)(bm:md)(t:T)(O:aa)(W:jH):jF:=match t with
 |.ret v _ _=>fL ((uF v).map (SV.xn O)) λl=>U (.ret l)
 |.bn v=>(Gr O v).map .bn
 |.node b t f=>cond (b.dn O) (X t O W) (X f O W)
 |.bj b t=>cond (b.dn O) (X t O W) Z
 |.call f P _ _ N _ t=>fL ((pl P).map (SV.xn O)) λV=>match bm f V with
  |U (.ret Q)=>cond (iP N Q) (fE (O.ext Q) λO=>X t O W) Z
  |U (.bn v)=>U (.bn v)
  |none=>Z
 |.loop aq _ M t=>fL (M.map (SV.xn O)) λV=>fE (O.ext V) λL=>X t L (⟨aq,t,O⟩::W)
 |.back aq x=>match th aq W with
  |U (R,H)=>fL (x.map (SV.xn O)) λV=>fE (R.O.ext V) λO=>X R.t O (R::H)
  |none=>Z
 |.new _ x _ _ t=>fR (gz x O) λv=>fE (O.add (.r v)) λO=>X t O W
 |.rows _ x _ t=>fR (gz x O) λv=>fE (O.add (.r v)) λO=>X t O W
 |.gp g h t f=>cond (g.dn O) (cond (h.dn O) (zV (X t O W) (X f O W)) (X t O W)) (cond (h.dn O) (X f O W) Z)
 |.pick m g h t f=>td ((wj m g h O).map λj=>match j with
  |U j=>fI j λj=>fE (O.add (.i j)) λO=>X t O W
  |none=>X f O W)
 |.dO _ _ _ G F r _ t=>match mC O G F (r.dn O).rows with
  |U l=>fR (.mk (r.dn O).val l) λv=>fE (O.add (.r v)) λO=>X t O W
  |none=>Z
 |_=>Z
def Uc(bm:md)(n:Nat):T->aa->jH->jF:=aLa (motive:=λ_=>T->aa->jH->jF) (λ_ _ _=>Z) (λ_ X=>T.step X bm) n
def amU(bm:md):∀n,Uc bm n=exec bm n
 |0=>by funext t O X;simp only[exec];rfl
 |n+1=>by
  funext t O X;show T.step (Uc bm n) bm t O X=_;rw[amU bm n];cases t<;>simp only[T.step,exec,T5,BE.eN,RE.eN,azx,amS,acm,acl,amT]
  try case call f W _ _ Q _ t=>
   cases bm f ((pl W).map (SV.xv O)) with
   |none=>rfl
   |some o=>cases o<;>rfl
  try case back aq x=>cases th aq X<;>rfl
  try case pick m g h t f=>
   refine congrArg td (aIY λj _=> ?_);cases j<;>rfl
  try case dO f g e V R r P t=>cases mC O V R (r.rv O).rows<;>rfl
def Ud(X:jV)(n:Nat):md:=aLa (motive:=λ_=>md) X.rD (λn R f V=>match X.rD f V with
  |U o=>U o
  |none=>match X.tree f with
   |U W=>zX W.d (fE (fJ (me W.g) V) λO=>Uc R n W.t O [])
   |none=>Z) n
def amV(X:jV):∀n,Ud X n=X.bm n
 |0=>rfl
 |n+1=>by
  funext f W;simp only[jV.bm];show(match X.rD f W with
   |U o=>U o
   |none=>match X.tree f with
    |U V=>zX V.d (fE (fJ (me V.g) W) λO=>Uc (Ud X n) n V.t O [])
    |none=>Z)=_
  rw[amV X n];simp only[amU,amT]
  all_goals cases X.rD f W with
  |some o=>rfl
  |none=>cases X.tree f<;>rfl
def azy{X:jV}{f:Nat}(h:Ud X N f b=U n):X.Ev f b n:=⟨N,by rw[<-amV];exact h⟩
