/- Part 3 of the proof; the last part says what is shown. -/
import Derived.Test.YtieaiocljdpebaaGreatDoorQ2
import Derived.WalkKit
import Derived.DefersIn
set_option linter.all false
open Bool renaming and_eq_true->aDc,not_eq_true'->aDv,false_eq_true->aDB,or_eq_true->aDE,or_eq_false_iff->aDW,eq_iff_iff->aEk,and_self->aEB,not_eq_false->aEM,and_true->aFg,rec->aFM,not_true->aF8,not_eq_true->aGj,true_eq_false->aGQ,true->J,false->E
open List renaming getElem?_eq_some_iff->aDd,getElem?_eq_getElem->aDe,getD_eq_getElem?_getD->aDf,getElem?_append_left->aDg,cons_append->aDi,getElem?_map->aDj,getElem?_append_right->aDk,nil_append->aDl,mem_append->aDo,mem_cons->aDp,replicate->aDq,all_eq_true->aDr,length_append->aDs,map_cons->aDt,mem_of_getElem?->aDx,getElem?_eq_none->aDy,pairwise_cons->aDz,range->aDA,map_congr_left->aDC,mem_map->aDF,ext_getElem?->aDG,pairwise_append->aDH,length_eq_one_iff->aDJ,getElem?_take->aDK,any_eq_true->aDL,contains_iff_mem->aDN,getElem?_cons_succ->aDO,length_eq_zero_iff->aDT,getElem?_of_mem->aDU,length_map->aDV,mem_append_left->aDX,getElem?_drop->aDZ,mem_filter->aD1,getElem?_eq_none_iff->aD2,length_cons->aD4,append_assoc->aD5,map_map->aD7,getElem?_set->aD9,getElem?_cons_zero->aEb,mem_range->aEd,nodup_append->aEi,getElem?_replicate->aEm,mem_cons_of_mem->aEn,mem_filterMap->aEw,getD_cons_zero->aEy,mem_of_find?_eq_some->aEF,foldl_cons->aEG,mem_append_right->aEH,length_drop->aEJ,map_nil->aEK,find?_cons->aEN,append_nil->aEO,length_take->aEQ,mem_cons_self->aES,pairwise_iff_getElem->aET,mem_singleton->aE0,map_append->aE3,rec->aE7,range_eq_range'->aE9,all_cons->aFf,find?_some->aFi,length_nil->aFm,sublist_cons_self->aFn,pairwise_map->aFq,all_map->aFr,filterMap_cons->aFx,drop_left'->aFC,getElem?_toArray->aFQ,mem_iff_getElem?->aFR,map_set->aGg,any_map->aGh,filter_map->aGp,drop_zero->aGz,sizeOf_lt_of_mem->aGD,Sublist->aGP,append_of_mem->aGR,filterMap_map->aGS,length->Y
open Option.some renaming injEq->aDh
open Nat renaming le_refl->aDm,lor->aDu,zero_add->aDM,shiftLeft->aDR,le_trans->aDY,beq->aD8,testBit_or->aEL,strongRecOn->aE4,lt_succ_self->aFb,rec->aFO,div_add_mod->aFT,one_shiftLeft->aGb,eq_of_beq_eq_true->aGx,shiftRight->aGE,testBit_two_pow->aGJ,add_sub_cancel'->aGK,lt_or_gt_of_ne->aGN
open Option renaming map_some->aDn,isSome_iff_exists->aDw,getD_some->aDS,map_eq_some_iff->aEx,bind_some->aFt,isNone_iff_eq_none->aGd,some->U,none->Z
open Array renaming getElem?_eq_some_iff->aDD,ext'->aEe,getElem?_eq_getElem->aFz,getD_eq_getD_getElem?->aF6,foldl_toList->aGM
open Int renaming negSucc->aGv,ofNat->aGT
open Prod.mk renaming injEq->aEX
open List.Sublist renaming append->aFw,refl->aFI
open Go.IntKind renaming i64->I
namespace Go.Proofs.YtieaiocljdpebaaGreatDoor.Y
open Go.RowKit
noncomputable section
variable{y:ai}{g:bA}{N:Nat}{r:T}{F:ac}{w:S}{A:FuncId→Code→S→(XE→S→T)→T}{x:FuncId}{B:aj}{k:SV}{n:Ty}{t:TypeId}{b:SV→S→T}{f:cZ}{h:World}{v:aE}{e:aR}
mutual
def SV.Re(O:ac)(y:aj)(V:aj):∀(v:SV),v.zC=J->v.den (O.at y) V=v.den O V
 |.int k e,_=>by simp only[SV.den,IE.dM]
 |.bool b,_=>by simp only[SV.den,BE.dM]
 |.ref r,_=>by simp only[SV.den,RE.den,RE.lp]
 |.loc i o,_=>rfl
 |.el r w i o,_=>by simp only[SV.den,RE.den,RE.lp,IE.dM]
 |.gM a b c d,_=>rfl
 |.agg l,h=>by simp only[SV.zC] at h;simp only[SV.den];rw[SV.I7 O y V l h]
 |.bK l,h=>by simp only[SV.zC] at h;simp only[SV.den];rw[SV.I7 O y V l h]
 |.fn f l,h=>by simp only[SV.zC] at h;simp only[SV.den];rw[SV.I7 O y V l h]
 |.eP t x,h=>by simp only[SV.zC] at h;simp only[SV.den];rw[SV.Re O y V x h]
 |.yl n,h=>by simp[SV.zC] at h
 |.any,_=>rfl
 |.mp i,_=>rfl
 |.eQ e W X,h=>by simp only[SV.zC] at h;simp only[SV.den,IE.dM];rw[SV.I7 O y V X h]
def SV.I7(O:ac)(y:aj)(V:aj):∀(l:ai),SV.vH l=J->SV.aD (O.at y) V l=SV.aD O V l
 |[],_=>rfl
 |x::X,h=>by
  simp only[SV.vH,aDc] at h;simp only[SV.aD];rw[SV.Re O y V x h.1,SV.I7 O y V X h.2]
end
def Rf(O:ac)(y:aj)(V:aj):∀(l:ai),SV.vH l=J->SV.cN (O.at y) V l=SV.cN O V l
 |[],_=>rfl
 |x::W,h=>by
  simp only[SV.vH,aDc] at h;have X:=Rf O y V W h.2;have R:=SV.Re O y V x h.1;simp only[SV.cN,aDt] at X⊢;rw[X];congr 1;cases x<;>simp only[SV.f8]<;>first|rw[R]|(rw[RE.lp])
def MV:∀{l:bA}{i:Nat}{v:TypeId×ai},C5 l=J->bX l i=U v->SV.vH v.2=J
 |[],i,v,_,h=>by simp[cK] at h
 |U x::W,0,v,X,h=>by simp[C5] at X;simp[cK] at h;exact h▸X.1
 |Z::W,0,v,X,h=>by simp[cK] at h
 |U x::W,i+1,v,X,h=>by simp[C5] at X;exact MV X.2 (by simpa[cK] using h)
 |Z::W,i+1,v,X,h=>by simp[C5] at X;exact MV X (by simpa[cK] using h)
def Rg:∀{a b:bA},lI a b=J->a=b
 |[],[],_=>rfl
 |[],_::_,h=>by simp[lI] at h
 |Z::X,Z::W,h=>by simp only[lI] at h;rw[Rg h]
 |Z::X,U y::W,h=>by simp[lI] at h
 |Z::X,[],h=>by simp[lI] at h
 |U x::X,Z::W,h=>by simp[lI] at h
 |U x::X,[],h=>by simp[lI] at h
 |U x::X,U y::W,h=>by
  simp only[lI,aDc,beq_iff_eq] at h;have V:=SV.qU _ _ h.1.2;rw[Rg h.2];obtain⟨R,Q⟩:=x;obtain⟨P,O⟩:=y;simp only at h V;rw[h.1.1,V]
def MW(W:ai)(X:bA):(mF W X).length=Y X:=by
 unfold mF;split<;>simp
def Rh{x:TypeId×ai}(h:bX (mF y g) N=U x):bX g N=U x:=by
 unfold mF at h;split at h;exfalso;simp only[cK] at h;rw[aDj] at h;cases W:g[N]? with
 |none=>rw[W] at h;cases h
 |some X=>rw[W] at h;cases h
 exact h
def ZG(h:aM (mF y g) N=J):aM g N=true:=by
 obtain⟨x,X⟩:=aDw.1 h;simp[aM,Rh X]
def atT(h:XU r=J)(p:Sp)(O:ac)(L:cZ):r.aT p O L:=by
 unfold XU at h;split at h;simp[T.aT,BE.den];cases h
def atU{W:ac}(h:gI F W (Y F.i) (Y F.b) (Y F.r))(H:Y W.i=Y F.i)(G:Y W.b=Y F.b)(D:Y W.r=Y F.r):W=F:=by
 obtain⟨i,b,r,y⟩:=F;obtain⟨V,R,Q,z⟩:=W;obtain⟨P,N,M,L⟩:=h;simp only at P N M L H G D;have C:V=i:=aDG λk=>by
  by_cases X:k<Y i;have:=P k X;simp only[aDf,aDe X,aDe (show k<Y V by omega),aDS] at this⊢;rw[this];rw[aDy (by omega),aDy (by omega)]
 have B:R=b:=aDG λk=>by
  by_cases X:k<Y b;have:=N k X;simp only[aDf,aDe X,aDe (show k<Y R by omega),aDS] at this⊢;rw[this];rw[aDy (by omega),aDy (by omega)]
 have A:Q=r:=aDG λk=>by
  by_cases X:k<Y r;have:=M k X;simp only[ac.rv,aDf,aDe X,aDe (show k<Y Q by omega),aDS] at this⊢;rw[this];rw[aDy (by omega),aDy (by omega)]
 subst C B A L;rfl
def Ri(X:aE):oz X (X.map RK.rd):=by
 refine⟨by simp,λk V h=> ?_⟩;rw[aDj] at h;cases W:X[k]? with
 |none=>rw[W] at h;cases h
 |some e=>
  rw[W] at h;simp only[aDn,aDh] at h;refine⟨e,rfl, ?_⟩;cases e<;>simp only[RK.rd] at h<;>first|exact .inl h.symm|exact .inr (.inr ⟨_,rfl,h.symm⟩)
def atV(W:ai)(X:bA):mF W X=X\/∀i,bX (mF W X) i=none:=by
 unfold mF;split;right;intro i;simp only[cK];rw[aDj];cases X[i]?<;>rfl;exact .inl rfl
section
variable{p:Sp}{m:bB}
def atW{n:Nat}(b2:∀M:Sp,M.P=p.P->kG M m->xO M m n)(ok:kG p m){g:FuncId}{L:ai}{s:S}{v:SV}{ex:bA}(h:Ia m (λf c s k=>eR m n f c s iA k) g L s=U (v,ex))(b3:(m.inl g).isSome=J)
  {D:bR}{O:ac}{V:aj}{a:Act}{W:World}(hb:s.bd=J)(R:az p.S0 p.w0 D m.ty V O s a W)(hg:et m.gl O):(∀L W,(callFunc g L).run p.P W=.ok (.enter g L) W)/\
  Calls p.P g (SV.aD O V L).toArray W λe W'=>∃V',e=.returned (v.den O V')/\az p.S0 p.w0 D m.ty V' O (s.plus ex) a W'/\bG s O V (s.plus ex) O V':=by
 unfold Ia at h;split at h;rename_i H hT;split at h;rename_i v0 cI;split at h;rename_i a6;cases h;simp only[aDc] at a6;obtain⟨⟨⟨⟨⟨⟨⟨ca,cb⟩,cv⟩,cs⟩,ct⟩,b4⟩,b5⟩,b6⟩:=a6;have a7:=Rg ct;obtain⟨b7,a8⟩:=R.xD hb;refine⟨ok.BD g (.inr b3), ?_⟩;obtain⟨S1,a9⟩:∃S1:aj,S1=((aDA (Y s.boxes)).filter (aM (mF L s.boxes))).map (ad V):=⟨_,rfl⟩;have b8:∀i,aM (mF L s.boxes) i=J->ad V i∈S1:=λi X=>by
  rw[a9];refine aDF.2 ⟨i,aD1.2 ⟨aEd.2 ?_,X⟩,rfl⟩;obtain⟨x,w⟩:=aDw.1 X;have:=(aDd.1 (i5.1 w)).1
  rwa [MW] at this
 have bb:∀b∈S1,∃i,aM (mF L s.boxes) i=J/\ad V i=b:=λb hb=>by
  rw[a9] at hb;obtain⟨i,X,rfl⟩:=aDF.1 hb;exact⟨i,(aD1.1 X).2,rfl⟩
 obtain⟨M,ag⟩:∃M:Sp,M={P:=p.P,ty:=p.ty,S0:=S1,w0:=W,D:=bR.none,R:=λe _=>(match e with|.panicked _=>False|_=>True),Q:=λ_ _ _=>True}:=⟨_,rfl⟩;have af:M.P=p.P:=by rw[ag]
 have bf:M.S0=S1:=by rw[ag]
 have bg:M.w0=W:=by rw[ag]
 have bk:∀ch W',¬M.R (.panicked ch) W':=λch W' u=>by rw[ag] at u;exact u
 have bl:kG M m:=⟨by rw[ag];exact ok.pt,by rw[af];exact ok.Y9,by rw[af];exact ok.ln,by rw[af];exact ok.zp,by rw[af];exact ok.BD,λch W b o _ u=>(bk ch W u).elim,by rw[af];exact ok.inl⟩;have hS:=Rc (p:=M) bl (b2 M af bl) (D:=bR.none) (B:=⟨sk L s,O.at [],V,[]⟩) (yh:=iA) (F3 _ _);have B0:az M.S0 M.w0 bR.none m.ty V (O.at []) (sk L s) ⟨#[],[]⟩ W:=by
  rw[bf,bg];refine⟨⟨eV.refl _ _,λi X=>.inr (b8 i X),λi j X C=>R.mem.inj i j (ZG X) (ZG C),λi t cs h=> ?_,λk e rv N q=> ?_⟩,by simp only[sk,MW];exact R.fp,R.ei,R.eb,by simp only[sk,aDV];exact R.er, ?_,rfl,λt sv h=>by simp[sk] at h,λk e rv b N=> ?_⟩;rw[Rf _ _ _ _ (MV cb h)];exact R.mem.box i t cs (Rh h);have:=(R.mem.mc (Ri s.rs)).ref k e rv N q;exact⟨this.1,λb hb i X=>this.2 b hb i (ZG X)⟩;exact⟨rfl,rfl,λn l r st h=>by simp[bR.none] at h,λn n' l r r' h=>by simp[bR.none] at h,[],rfl,λ_=>rfl,by simp[bR.none],λd h=>by simp[bR.none] at h⟩;exfalso;simp only[sk,aDj] at N;cases hk:s.rs[k]? with
  |none=>rw[hk] at N;cases N
  |some x=>rw[hk] at N;cases x<;>simp[RK.rd] at N
 have cc:=hS [] (.fn g) L (sk L s) _ _ (O.at []) V ⟨#[],[]⟩ W (λe W'=>∃V',e=.returned (v.den O V')/\az p.S0 p.w0 D m.ty V' O (s.plus (H.boxes.drop (Y s.boxes))) a W'/\bG s O V (s.plus (H.boxes.drop (Y s.boxes))) O V') ⟨bG.refl _ _ _,cM.refl _ _⟩ (atT b6 M (O.at []) []) B0 hg ?_ ?_ (λch W' pd y _ hR=>(bk ch W' hR).elim);have:=cc.2;rw[SV.I7 O [] V L ca,af] at this;exact this;intro v2 s2 O2 G W2 L2 hl _ F an;split at an;rename_i bo;simp only[aDc,agp,beq_iff_eq,decide_eq_true_eq] at bo;obtain⟨hv,⟨⟨ab,cl⟩,cm⟩,bI⟩:=bo;have hv:=SV.bL _ _ hv;subst hv;have ab:=Rg ab;have cp:O2=O.at []:=by
  refine atU hl.ext.agree ?_ ?_ ?_;rw[F.ei,cl];exact R.ei.symm;rw[F.eb,cm];exact R.eb.symm;rw[F.er,bI];simp only[sk,aDV];exact R.er.symm
 subst cp;rw[bf,bg] at F;have cO:Y s.boxes<=Y H.boxes:=by
  have:=congrArg Y a7;rw[MW,aEQ] at this;omega
 have a2:∀i,i<Y s.boxes->bX H.boxes i=bX (mF L s.boxes) i:=λi X=>by
  have:=congrArg (λl=>bX l i) a7;simp only[cK,aDK,if_pos X] at this⊢;exact this
 have ap:∀i,aM (mF L s.boxes) i=J->ad G i=ad V i:=λi X=>hl.ext.ad i X
 have a0:∀{i:Nat}{l:bA},aM l i=J->i<Y l:=λh=>by
  obtain⟨x,w⟩:=aDw.1 h;exact(aDd.1 (i5.1 w)).1
 have cx:∀i,Y s.boxes<=i->aM H.boxes i=J->W.heap.size<=ad G i:=by
  intro i X u;rcases F.mem.own i (by rw[ab];exact u) with N|N;exact N;exfalso;obtain⟨j,C,cy⟩:=bb _ N;have a3:j<Y s.boxes:=by have:=a0 C;rwa [MW] at this
  have cA:aM H.boxes j=true:=by simp only[aM,a2 j a3];exact C
  have:=F.mem.inj i j (by rw[ab];exact u) (by rw[ab];exact cA) (by rw[ap j C];exact cy.symm);omega
 have hB:Below W.heap.size W W2:=by
  have hO:=F.mem.base;refine⟨hO.os,hO.tape,hO.output,hO.size,λk hk=> ?_⟩;by_cases br:k∈S1;obtain⟨j,C,rfl⟩:=bb _ br;have a3:j<Y s.boxes:=by have:=a0 C;rwa [MW] at this
  obtain⟨x,w⟩:=aDw.1 C;obtain⟨bt,jF⟩:=x;have e1:=R.mem.box j bt jF (Rh w);have e2:=F.mem.box j bt jF (by rw[ab,a2 j a3];exact w);rw[ap j C] at e2;rw[e1,e2];congr 2;rw[Rf _ _ _ _ (MV cb w)];refine Mh (gI.refl _ _ _ _) (λk hk=>ap k ?_) _ (qV a8 (Rh w));rcases atV L s.boxes with hm|hm;rw[hm];exact hk;rw[hm j] at w;cases w;exact hO.block k hk br
 have R0:=R.below hB;have cB:Y G=Y H.boxes:=by rw[F.fp,ab]
 have a1:∀i,i<Y s.boxes->ad (V++G.drop (Y s.boxes)) i=ad V i:=λi X=>by
  simp only[ad,aDf];rw[aDg (by rw[R.fp];exact X)]
 have a4:∀i,Y s.boxes<=i->ad (V++G.drop (Y s.boxes)) i=ad G i:=λi X=>by
  simp only[ad,aDf];rw[aDk (by rw[R.fp];exact X),R.fp,aDZ,aGK X]
 have bs:∀i,aM H.boxes i=J->ad (V++G.drop (Y s.boxes)) i=ad G i:=λi X=>by
  by_cases A:i<Y s.boxes;rw[a1 i A,ap i (by simp only[aM,<-a2 i A];exact X)];exact a4 i (by omega)
 have gC:∀i,i<Y s.boxes->bX (s.plus (H.boxes.drop (Y s.boxes))).boxes i=bX s.boxes i:=λi X=>by
  simp only[cK,S.plus,aDg X]
 have bx:∀i,Y s.boxes<=i->bX (s.plus (H.boxes.drop (Y s.boxes))).boxes i=bX H.boxes i:=λi X=>by
  simp only[cK,S.plus];rw[aDk X,aDZ,aGK X]
 have a5:∀k,aM s.boxes k=J->ad (V++G.drop (Y s.boxes)) k=ad V k:=λk hk=>a1 k (a0 hk)
 have al:∀i,aM (s.plus (H.boxes.drop (Y s.boxes))).boxes i=J->(i<Y s.boxes/\aM s.boxes i=J/\ad (V++G.drop (Y s.boxes)) i=ad V i)\/(Y s.boxes<=i/\aM s2.boxes i=J/\ad (V++G.drop (Y s.boxes)) i=ad G i/\W.heap.size<=ad G i):=λi X=>by
  by_cases A:i<Y s.boxes;exact .inl ⟨A,by simpa only[aM,gC i A] using X,a1 i A⟩;have u:aM H.boxes i=true:=by simpa only[aM,bx i (by omega)] using X
  exact .inr ⟨by omega,by rw[ab];exact u,a4 i (by omega),cx i (by omega) u⟩
 have cW:p.w0.heap.size<=W.heap.size:=R.mem.base.size;refine⟨V++G.drop (Y s.boxes), ?_,⟨⟨R0.mem.base, ?_, ?_, ?_, ?_⟩, ?_,R.ei,R.eb,R.er,R0.cP,R.size, ?_, ?_⟩,⟨⟨gI.refl _ _ _ _,aDm _,aDm _,aDm _,a5⟩, ?_, ?_,aDm _⟩⟩;rw[SV.Re _ _ _ _ cv];have cC:v2.bd (Y O.i) (Y O.b) (Y O.r) (aM H.boxes)=true:=by rw[R.ei,R.eb,R.er];exact b4
 rw[SV.dj (gI.refl _ _ _ _) bs v2 cC];intro i X;rcases al i X with⟨_,q,h3⟩|⟨_,_,h3,h4⟩;rw[h3];exact R.mem.own i q;rw[h3];exact .inl (by omega);intro i j X C b0;rcases al i X with⟨i1,i2,z⟩|⟨i1,i2,z,i4⟩<;>rcases al j C with⟨j1,j2,j3⟩|⟨j1,j2,j3,j4⟩;exact R.mem.inj i j i2 j2 (by rw[<-z,<-j3];exact b0);exfalso;have:=R.mem.lt i2;omega;exfalso;have:=R.mem.lt j2;omega;exact F.mem.inj i j i2 j2 (by rw[<-z,<-j3];exact b0);intro i t jF h;by_cases A:i<Y s.boxes;rw[gC i A] at h;rw[a1 i A,R0.mem.box i t jF h];congr 2;exact(Mh (gI.refl _ _ _ _) a5 _ (qV a8 h)).symm;rw[bx i (by omega)] at h;rw[a4 i (by omega),F.mem.box i t jF (by rw[ab];exact h)];congr 2;rw[Rf _ _ _ _ (MV cs h)];have cD:SV.db (Y O.i) (Y O.b) (Y O.r) (aM H.boxes) jF=true:=by rw[R.ei,R.eb,R.er];exact qV b5 h
 exact(Mh (gI.refl _ _ _ _) bs _ cD).symm;intro k e rv N q;refine⟨(R0.mem.ref k e rv N q).1,λb b1 i X=> ?_⟩;rcases al i X with⟨i1,i2,z⟩|⟨i1,i2,z,i4⟩;rw[z];exact(R.mem.ref k e rv N q).2 b b1 i i2;rw[z];have:=(R.mem.ref k e rv N q).1.lt b1;omega;simp only[S.plus,aDs,aEJ,cB,R.fp];intro t sv h;rcases R.tmps t sv h with N|N;exact .inl N;right;rw[SV.dj (gI.refl _ _ _ _) a5 sv (uh b7 h)];exact N;intro k e rv b N q h3;have T0:=R0.dJ k e rv b N q h3;refine⟨T0.own,T0.mem,λi X=> ?_,T0.alone,T0.inner⟩;rcases al i X with⟨i1,i2,z⟩|⟨i1,i2,z,i4⟩;rw[z];exact T0.box i i2;rw[z];have:=(R.dJ k e rv b N q h3).lt;omega;intro i X;have A:=a0 X;simp only[aM,gC i A];exact X;simp only[S.plus,aDs];omega;exact an.elim;intro v2 s2 O2 G W2 L2 hl _ F an;exact an.elim;cases h;cases h;cases h
end
def atX{X:S}(W:mF y X.boxes=mF y w.boxes)(V:X.ni=w.ni)(R:X.nb=w.nb)(Q:X.rs=w.rs):sk y X=sk y w:=by
 simp only[sk,W,V,R,Q]
def ai6{m:bB}{X:S}(W:mF y X.boxes=mF y w.boxes)(V:X.ni=w.ni)(R:X.nb=w.nb)(Q:X.rs=w.rs)(P:Y X.boxes=Y w.boxes):Ia m A x y X=Ia m A x y w:=by
 unfold Ia;rw[atX W V R Q,W,V,R,Q,P]
def atY(m:bB)(X:cS)(R:FuncId->Code->S->(XE->S->T)->T):Dl X (C6 m X R):=by
 refine⟨λg Q s d v l=> ?_,λg s n t O d w N=> ?_,λg Q s r h=> ?_⟩;unfold C6;rw[ai6]<;>cases d<;>rfl
 ·unfold C6;rw[ai6]<;>cases d<;>simp[S.cq,S.put,tY,mF,aGg]<;>(try apply aDG)<;>(try intro i)<;>(try simp[aD9])<;>(try(intro P;subst P;by_cases W:n<Y s.boxes;(· simp[W]);(· simp[W])))
 unfold C6 at h;split at h;rename_i V;simp only[aDc] at V;exact V.1;cases h
def atZ{p:Sp}{m:bB}{M:cS}(L:∀X:Sp,X.P=p.P->kG X m->xO X m N)(H:kG p m):QZ p m (C6 m M λf c s k=>eR m N f c s iA k):=by
 intro g C s v B h D O V a W G R F;unfold C6 at h;split at h;rename_i Q;simp only[aDc] at Q;exact atW L H h Q.2 G R F;cases h
def ai7(s:S)(X:aj)(i:Nat):(s.bM X).tmps[i]?=(s.tmps[i]?).map λx=>if X.contains i then .any else x:=by
 simp only[S.bM];rw[uk,aDM]
def at0(h:N∉B):(w.bM B).tmps[N]?=w.tmps[N]?:=by
 rw[ai7];cases w.tmps[N]?<;>simp[h]
def ZH{X W V:Nat}{R:Nat->Bool}(Q:aj):∀(l:ai)(n:Nat),SV.db X W V R l=J->SV.db X W V R (qQ Q n l)=J
 |[],n,_=>rfl
 |x::P,n,h=>by
  simp only[SV.gz,aDc] at h;simp only[qQ,SV.gz,aDc];refine⟨?_,ZH Q P (n+1) h.2⟩;split;simp[SV.ba];exact h.1
def I8{ds:aj}(h:w.dV y=J):(w.bM ds).dV y=true:=by
 simp only[S.dV,S.bd,aDc,S.bM] at h⊢;exact⟨⟨ZH ds _ 0 h.1.1,h.1.2⟩,h.2⟩
def BP{d:bT}(h:∀x,d=U x->x∉B):(w.put d k).bM B=(w.bM B).put d k:=by
 cases d with
 |none=>rfl
 |some x=>
  have W:=h x rfl;simp only[S.put,tY,S.bM];congr 1;apply aDG;intro i;rw[uk,aDM,aD9,aD9,uk,aDM,I6];by_cases X:x=i;subst X;by_cases V:x<Y w.tmps<;>simp[V,W];simp[X]
def at1{s:S}{ds es:aj}(h:∀x∈es,x∈ds):(s.bM es).bM ds=s.bM ds:=by
 simp only[S.bM];congr 1;apply aDG;intro i;rw[uk,uk,uk,aDM];cases s.tmps[i]? with
 |none=>rfl
 |some x=>
  simp only[aDn];by_cases X:i∈ds;simp[X];have:i∉es:=λW=>X (h i W)
  simp[X,this]
def at2(v:SV):LO E v=0:=by
 cases v<;>rfl
section
variable{p:Sp}{cf:bB}{ops:cS}
def az.bM{D:bR}{s:S}{O:ac}{V:aj}{a:Act}{W:World}(R:az p.S0 p.w0 D cf.ty V O s a W)(P:aj):az p.S0 p.w0 D cf.ty V O (s.bM P) a W:=by
 refine⟨R.mem,R.fp,R.ei,R.eb,R.er,R.cP,by simp only[S.bM,I6];exact R.size,λt N X=> ?_,R.dJ⟩;rw[ai7] at X;cases Q:s.tmps[t]? with
 |none=>rw[Q] at X;cases X
 |some x=>
  rw[Q] at X;simp only[aDn,aDh] at X;split at X;exact .inl X.symm;subst X;exact R.tmps t x Q
def ai8{m:OM}{O:ac}{b:BE}(P:lY m.o.op=J)(N:m.bC=E)(h:zD cf w m.o=U (b,k))(M:b.den O=J):(fc cf m w).gives O (w.put m.o.dst k):=by
 unfold zD at h;split at h;cases h;rename_i W;simp only[aDE,not_or,aGj] at W;obtain⟨W,V⟩:=W;have R:(qN w m.o.dst 0 (bO cf.ty cf.gl w m.o.op)).gives O (w.put m.o.dst k):=by
  split at h;rename_i X Q;cases h;rw[Q];simp only[qN,OR.gives,FZ];rename_i H X Q;split at h;rename_i bJ;cases h;rw[Q];simp only[qN,bJ,if_true,OR.gives,FZ,and_true];exact M;cases h;cases h
 unfold fc;rw[if_neg (by rw[W];simp)];cases L:m.o.op<;>rw[L] at P R V<;>simp only[lY,aDB,XW] at P V<;>first|exact R|(simp only[N,at2];exact R)|cases V
def Rj{o:Oper}{s:S}{O:ac}(h:∀t∈iY ops o,t∉B):jV cf ops o s O (s.bM B) O:=jV.xL (λt X=>at0 (h t X)) rfl rfl rfl
def ai9{o:Oper}{ds:aj}{r:BE×SV}(h:∀t∈iY ops o,t∉ds)(W:zD cf w o=U r):zD cf (w.bM ds) o=U r:=by
 have R:=Rj (cf:=cf) (s:=w) (O:=⟨[],[],[],[]⟩) h;have P:=R.ev cf.gl;unfold zD at W⊢;split at W;cases W;rename_i L;have H:¬((o.op.operands.toList.any λx=>((w.bM ds).ev cf.gl x).dL)||XW o.op)=true:=by
  intro V;apply L;simp only[aDE] at V⊢;rcases V with V|V;left;obtain⟨x,M,G⟩:=aDL.1 V;exact aDL.2 ⟨x,M,by rw[<-P x M];exact G⟩;exact .inr V
 rw[if_neg H];cases Q:bO cf.ty cf.gl w o.op with
 |ok X=>rw[QT (ty:=cf.ty) P R.kd R.kl (λi _=>rfl) Q (λX N=>by cases N)];rw[Q] at W;exact W
 |aV b X=>rw[QT (ty:=cf.ty) P R.kd R.kl (λi _=>rfl) Q (λX N=>by cases N)];rw[Q] at W;exact W
 |no X=>rw[Q] at W;cases W
def at3{m:OM}{Q:S}(P:L4 m.o.op=J)(h:∀t∈iY ops m.o,t∉B)(R:∀x,m.o.dst=U x->x∉B)(X:fc cf m w=.ok Q):fc cf m (w.bM B)=.ok (Q.bM B):=by
 have L:=Rj (cf:=cf) (s:=w) (O:=⟨[],[],[],[]⟩) h;have V:=L.ev cf.gl;unfold fc at X⊢;split at X;cases X;rename_i H;have G:¬(m.o.op.operands.toList.any λx=>((w.bM B).ev cf.gl x).dL)=true:=by
  intro F;apply H;obtain⟨x,N,D⟩:=aDL.1 F;exact aDL.2 ⟨x,N,by rw[<-V x N];exact D⟩
 rw[if_neg G];have r:∀(n:Nat)(t:TypeId)(M:ai),(w.bM B).cq n t M=(w.cq n t M).bM B:=λ_ _ _=>rfl
 cases C:m.o.op<;>rw[C] at P X V<;>simp only[L4,aDB] at P
 
 simp only at X⊢;split at X;split at X;rename_i W;simp only[aDc] at W;rw[if_pos (by simp only[aDc];exact⟨I8 W.1,W.2⟩)];cases X;rw[BP R];rfl;cases X;cases X
 
 rename_i t x;simp only at X⊢;rw[V x (by simp[Op.operands])];split at X;split at X;rename_i W;simp only[aDc] at W;rw[if_pos (by simp only[aDc];exact⟨⟨⟨W.1.1.1,I8 W.1.1.2⟩,W.1.2⟩,W.2⟩)];cases X;rw[BP R];rfl;cases X;cases X;rename_i t l parts;simp only at X⊢;have A:(parts.toList.map λq=>(q.1,(w.bM B).ev cf.gl q.2))=parts.toList.map λq=>(q.1,w.ev cf.gl q.2):=by
  refine aDC λq z=> ?_
  rw[V q.2 (by simp only[Op.operands,aDF];exact⟨q,z,rfl⟩)]
 rw[A];split at X;split at X;split at X;split at X;rename_i W;simp only[aDc] at W;rw[if_pos (by simp only[aDc];exact⟨⟨I8 W.1.1,W.1.2⟩,W.2⟩)];cases X;congr 1;rw[BP R];rfl;cases X;cases X;cases X;cases X
 
 rename_i t x y;simp only at X⊢;rw[V x (by simp[Op.operands]),V y (by simp[Op.operands])];split at X;split at X;rename_i v;have u:kA (w.bM B).boxes _=_:=v;rw[u];simp only;split at X;rename_i W;rw[show(w.bM B).lk=w.lk from rfl,if_pos W];cases X;rw[BP R];rfl;cases X;cases X;cases X
def at4{o:Oper}{s:S}(h:∀t∈iY ops o,t∉B):∀x∈o.op.operands.toList,s.ev cf.gl x=(s.bM B).ev cf.gl x:=
 λx X=>((Rj (cf:=cf) (s:=s) (O:=⟨[],[],[],[]⟩) h).ev cf.gl x X).symm
def ZI(r:RE):r.kind n (w.bM B)=r.kind n w:=BF (s:=w.bM B) (s':=w) rfl r
def ZJ{X:Ty}{s:S}{W:aj}:∀(ae:dN)(l:ai),ld X (s.bM W) ae l=ld X s ae l
 |[],[]=>rfl
 |[],_::_=>rfl
 |_::_,[]=>rfl
 |c::V,v::R=>by
  simp only[ld,ZJ V R];congr 1;unfold qM;split<;>try rfl
  rename_i z k r;cases k<;>simp only[RE.fits,ZI]
def Rk{X:Ty}{s:S}{W:aj}(ae:dN):∀l:tW,lX X (s.bM W) ae l=lX X s ae l
 |[]=>rfl
 |r::V=>by simp only[lX,ZJ,Rk ae V]
def MX{ds:aj}{d:bT}{aV:BE}{k:RK}{x:LE}{W:aj}{b:BI}(V:∀x,d=U x->x∉ds)(h:jl w d aV t k x B W=U b):jl (w.bM ds) d aV t k x B W=U {b with s:=b.s.bM ds}:=by
 unfold jl at h⊢;split at h;rename_i X;cases h;have R:(w.bM ds).bd=true:=by
  have Q:w.dV []=true:=by
   simp only[aDc] at X;simp only[S.dV,SV.gz,aFg];exact X.1.1.1
  have:=I8 (ds:=ds) Q;simpa only[S.dV,SV.gz,aFg] using this
 simp only[aDc] at X;rw[if_pos (by simp only[aDc];exact⟨⟨⟨R,X.1.1.2⟩,X.1.2⟩,X.2⟩),BP V];rfl;cases h
def at5{bC:Bool}(v:SV):vD (w.bM B) t bC v=vD w t bC v:=rfl
def at6{X:TI}(v:SV):pQ n (w.bM B) t X v=pQ n w t X v:=by
 unfold pQ;split<;>simp only[ZI,Rk]<;>rfl
def aja{X:aj}{k n:Nat}:∀(l:ai)(i:Nat),qQ X i (SV.nE k n l)=SV.nE k n (qQ X i l)
 |[],_=>rfl
 |x::W,i=>by
  simp only[SV.nE,qQ,aja W (i+1)];split<;>rfl
def ajb{n:Nat}:(w.bM B).fZ N n=(w.fZ N n).bM B:=by
 simp only[S.bM,S.fZ,aja]
def at7{d:bT}{u:zu}(W:∀X,d=U X->X∉B)(h:Ft cf x y w d=U u):Ft cf x y (w.bM B) d=U {u with s:=u.s.bM B}:=by
 unfold Ft at h⊢;split at h;split at h;have V:(w.bM B).boxes=w.boxes:=rfl;have R:(w.bM B).rs=w.rs:=rfl;have Q:(w.bM B).ni=w.ni:=rfl;have P:(w.bM B).nb=w.nb:=rfl;simp only[V,R,Q,P];split at h;split at h;rename_i O;cases h;rw[if_pos O];congr 2;rw[BP W,<-ajb];rfl;cases h;cases h;cases h;cases h
def at8(h:w.bd=J):(w.bM B).bd=true:=by
 simp only[S.bd,aDc,S.bM] at h⊢;exact⟨ZH B _ 0 h.1,h.2⟩
def at9{o:Oper}{u:zu}(X:dA cf (w.bM B) o=dA cf w o)(W:∀x,o.dst=U x->x∉B)(h:Fu cf o w=U u):Fu cf o (w.bM B)=U {u with s:=u.s.bM B}:=by
 unfold Fu at h⊢;rw[X];split at h;cases h;rename_i V;have R:(w.bM B).bd=true:=at8 (by simpa using V);rw[if_neg (by simp[R])];generalize dA cf w o=c at h;cases c with
 |call g Q=>
  cases g with
  |fn f=>exact at7 W h
  |yl n=>cases h
 |bj v=>cases h
 |no=>cases h
 |op=>cases h
def aua{o:Oper}{bC:Bool}{b:BI}(R:Ie o.op=J)(h:∀t∈iY ops o,t∉B)(P:∀x,o.dst=U x->x∉B)(X:dI cf o bC E w=U b):dI cf o bC E (w.bM B)=U {b with s:=b.s.bM B}:=by
 have W:=at4 (cf:=cf) (s:=w) h;unfold dI at X⊢;cases Q:o.op with
 |call c=>
  rw[Q] at R X W;simp only[Ie] at R;split at R
  ·rename_i u;simp only[u] at X⊢;have r:c.args.toList.map ((w.bM B).ev cf.gl)=c.args.toList.map (w.ev cf.gl):=aDC λx V=>(W x (by simp[Op.operands,Call.operands];exact .inr (by simpa using V))).symm
   rw[r];simp only[at5,at6]
   repeat' split at X
   all_goals first
    |cases X;done
    |(have q:=MX (ds:=B) P X;(repeat' split)<;>first|exact q|contradiction|(exfalso;simp_all;done))
  cases R
 |makeSlice t n m=>
  rw[Q] at X W;simp only at X⊢;rw[<-W n (by simp[Op.operands]),<-W m (by simp[Op.operands])];simp only[Rk]
  repeat' split at X
  all_goals first
   |cases X;done
   |(have q:=MX (ds:=B) P X;(repeat' split)<;>first|exact q|contradiction|(exfalso;simp_all;done))
 |buildSlice t d parts=>
  rw[Q] at X W;have l:(parts.toList.map λq=>(q.1,(w.bM B).ev cf.gl q.2))=parts.toList.map λq=>(q.1,w.ev cf.gl q.2):=by
   refine aDC λq N=> ?_
   rw[W q.2 (by simp only[Op.operands,aDF];exact⟨q,N,rfl⟩)]
  have j:(parts.toList.any λq=>((w.bM B).ev cf.gl q.2).dL)=parts.toList.any λq=>(w.ev cf.gl q.2).dL:=by
   rw[aEk,aDL,aDL];constructor;rintro⟨x,V,M⟩;exact⟨x,V,by rw[W x.2 (by simp only[Op.operands,aDF];exact⟨x,V,rfl⟩)];exact M⟩;rintro⟨x,V,M⟩;exact⟨x,V,by rw[<-W x.2 (by simp only[Op.operands,aDF];exact⟨x,V,rfl⟩)];exact M⟩
  simp only at X⊢;rw[l,j];simp only[Rk]
  repeat' split at X
  all_goals first
   |cases X;done
   |(have q:=MX (ds:=B) P X;(repeat' split)<;>first|exact q|contradiction|(exfalso;simp_all;done))
 |slice t x D C A=>
  rw[Q] at X W;have L:∀y:Option Operand,(∀z,y=U z->z∈(Op.slice t x D C A).operands.toList)->y.map ((w.bM B).ev cf.gl)=y.map (w.ev cf.gl):=by
   intro y i;cases y with
   |none=>rfl
   |some z=>simp only[aDn];rw[<-W z (i z rfl)]
  simp only at X⊢;rw[<-W x (by simp[Op.operands]),L D (λz O=>by subst O;simp[Op.operands]),L C (λz O=>by subst O;simp[Op.operands]),L A (λz O=>by subst O;simp[Op.operands])];simp only[ZI]
  repeat' split at X
  all_goals first
   |cases X;done
   |(have q:=MX (ds:=B) P X;(repeat' split)<;>first|exact q|contradiction|(exfalso;simp_all;done))
 |store t a x=>
  rw[Q] at X W;simp only at X⊢;rw[<-W a (by simp[Op.operands]),<-W x (by simp[Op.operands])];have g:(w.bM B).rs=w.rs:=rfl;simp only[ZJ];rw[g];have v:∀{aV:BE}{e:TypeId}{H:RK}{y:LE}{G F:aj}{k:Nat}{b:BI},(jl w Z aV e H y G F).map (λb=>{b with s:=(b.s.fZ k (Y w.rs)).put o.dst (.bK [])})=U b->
    (jl (w.bM B) Z aV e H y G F).map (λb=>{b with s:=(b.s.fZ k (Y w.rs)).put o.dst (.bK [])})=U {b with s:=b.s.bM B}:=by
   intro aV e H y G F k b N;obtain⟨b0,f,rfl⟩:=aEx.1 N;rw[MX (ds:=B) (by simp) f];simp only[aDn];rw[ajb,<-BP P]
  repeat' split at X
  all_goals first
   |cases X;done
   |(have q:=v X;clear v;(repeat' split)<;>first|exact q|contradiction|(exfalso;simp_all;done))
 |_=>rw[Q] at R;simp[Ie] at R
end
section
variable{ops:cS}
def qd(l:ce):aj:=l.filterMap (·.o.dst)
structure sy(ops:cS)(listed:Array Bool)(rem:ce):Prop where
 mem:∀m∈rem,ops[m.j]?=U m.o
 un:∀i,i<ops.size->(listed.getD i J=E<->∃m∈rem,m.j=i)
 sz:listed.size=ops.size
 dn:∀(j:Nat)(o:Oper),ops[j]?=U o->listed.getD j E=J->∀e∈kb o,listed.getD e E=J
 nd:rem.Pairwise λx y=>x.j≠y.j
def sy.listed{listed:Array Bool}{O:ce}(W:I3 ops B)(N:sy ops listed O):∀(j:Nat)(o:Oper),ops[j]?=U o->(∀e∈kb o,listed.getD e E=J)->∀i,i<ops.size->(B.getD j 0).testBit i=J->listed.getD i E=true:=by
 intro j;induction j using aE4 with
 |_ j M=>
  intro o X V i R L;rcases W.cl j o X i R L with h|⟨e,Q,h⟩;exact V i h;have H:=W.lt j o X e Q;have G:j<ops.size:=(aDD.1 X).1;have P:ops[e]?=U ops[e]:=aFz (by omega);exact M e H ops[e] P (N.dn e _ P (V e Q)) i R h
def sy.lt{listed:Array Bool}{X:ce}(W:sy ops listed X){m:OM}(V:m∈X):m.j<ops.size:=(aDD.1 (W.mem m V)).1
def sy.not{listed:Array Bool}{V:ce}(X:sy ops listed V){m:OM}(W:m∈V):listed.getD m.j E≠true:=by
 have h:=(X.un m.j (X.lt W)).2 ⟨m,W,rfl⟩;have R:m.j<listed.size:=by rw[X.sz];exact X.lt W
 simp[R] at h⊢;exact h
def sy.next{listed:Array Bool}{V R:ce}{m:OM}(W:sy ops listed (V++m::R))(D:∀e∈kb m.o,listed.getD e E=J):sy ops (listed.setIfInBounds m.j J) (V++R):=by
 have H:=W.mem m (by simp);have C:m.j<ops.size:=(aDD.1 H).1;have P:m.j<listed.size:=by rw[W.sz];exact C
 have O:aGP (V++R) (V++m::R):=aFw (aFI _) (aFn _ _);have B:∀x∈V++R,x.j≠m.j:=by
  intro x X;have N:=W.nd;rw[aDH] at N;rcases aDo.1 X with h|h;exact N.2.2 x h m (by simp);exact Ne.symm ((aDz.1 N.2.1).1 x h)
 refine⟨λx X=>W.mem x (O.subset X),λi A=> ?_,by simp[W.sz],λj o M Q e G=> ?_,W.nd.sublist O⟩;rw[F1 _ _ _ _ P];by_cases L:i=m.j;subst L;simp only[if_true,aGQ,false_iff];rintro⟨x,X,Q⟩;exact B x X Q;rw[if_neg L,W.un i A];constructor;rintro⟨x,X,rfl⟩;refine⟨x, ?_,rfl⟩;simp only[aDo,aDp] at X⊢;rcases X with h|h|h;exact .inl h;subst h;exact absurd rfl L;exact .inr h;rintro⟨x,X,rfl⟩;exact⟨x,O.subset X,rfl⟩;rw[F1 _ _ _ _ P];rw[F1 _ _ _ _ P] at Q;split;rfl;by_cases F:j=m.j;subst F;rw[H] at M;cases M;exact D e G;rw[if_neg F] at Q;exact W.dn j o M Q e G
def sy.some{listed:Array Bool}{W:ce}(O:I3 ops B)(X:sy ops listed W):∀(j:Nat),(∃m∈W,m.j=j)->∃m∈W,∀e∈kb m.o,listed.getD e E=true:=by
 intro j;induction j using aE4 with
 |_ j N=>
  rintro⟨m,V,rfl⟩;by_cases h:∀e∈kb m.o,listed.getD e E=J;exact⟨m,V,h⟩;simp only[Classical.not_forall] at h;obtain⟨e,M,R⟩:=h;have Q:=O.lt m.j m.o (X.mem m V) e M;have P:e<ops.size:=Nat.lt_trans Q (X.lt V);have:listed.getD e J=false:=by
   have L:e<listed.size:=by rw[X.sz];exact P
   simp[L] at R⊢;exact R
  exact N e Q ((X.un e P).1 this)
end
def aub(X:aR)(s:S)(W:aj):((s.bM W).bW X).1=(s.bW X).1/\((s.bM W).bW X).2=(s.bW X).2.bM W:=by
 induction X generalizing s with
 |nil=>exact⟨rfl,rfl⟩
 |cons k X V=>
  simp only[S.bW];have R:((s.bM W).fresh k).1=(s.fresh k).1:=by cases k<;>rfl
  have Q:((s.bM W).fresh k).2=(s.fresh k).2.bM W:=by cases k<;>rfl
  rw[R,Q];obtain⟨P,O⟩:=V (s.fresh k).2;exact⟨by rw[P],O⟩
section
variable{p:Sp}{cf:bB}
open Classical in
noncomputable def BQ(s:S)(W:aj)(k:SV->S->T):SV->S->T:=λv X=>if X.tmps=(s.bM W).tmps then k v {X with tmps:=s.tmps} else .stuck ""
def auc{Q:YH}{W:SV->S->T}
  (h:(jB cf A Q (.fn x) y w b W).aT p F f):(jB cf A Q (.fn x) y (w.bM B) (BQ w B b) (BQ w B W)).aT p F f:=by
 unfold jB at h⊢;simp only at h⊢;split at h;rename_i c C P v;split at h;rename_i N;rw[if_pos (I8 N)];have:H9 cf (w.bM B) P (BQ w B b) (BQ w B W)=H9 cf w P b W:=by
  funext e u;cases e<;>simp only[H9,BQ,if_true]
 rw[this];exact h;exact h.elim;unfold xu at h⊢;split at h;split at h;rename_i X t;obtain⟨M,H⟩:=aub X (w.cut y X) B;have G:(w.bM B).cut y X=(w.cut y X).bM B:=rfl;rw[G,M,H];split at h;rename_i l r;split at h;rename_i V;simp only[aDc] at V;rw[if_pos (by simp only[aDc];exact⟨I8 V.1,V.2⟩)];have R:((w.cut y X).bW X).2.tmps=w.tmps:=(vO X (w.cut y X)).2.1;have D:BQ w B b (one l) (((w.cut y X).bW X).2.bM B)=b (one l) ((w.cut y X).bW X).2:=by
  simp only[BQ];rw[if_pos (by simp only[S.bM,R])];congr 1;simp only[S.bM];generalize((w.cut y X).bW X).2=z at R;rw[<-R]
 rw[D];exact h;exact h.elim;exact h.elim;exact h.elim;exact h.elim
end
section
variable{p:Sp}{cf:bB}{ops:cS}
def ajc{V:Type}:∀{l:List V}{x:V},x∈l->∃X W,l=X++x::W/\(x,X++W)∈Ib l
 |[],x,h=>by cases h
 |y::r,x,h=>by
  rcases aDp.1 h with rfl|h;exact⟨[],r,rfl,by simp[Ib]⟩;obtain⟨X,W,R,Q⟩:=ajc h;subst R;exact⟨y::X,W,rfl,by simp only[Ib,aDp,aDF];exact .inr ⟨_,Q,rfl⟩⟩
def ZK{p:Sp}{O:ac}{L:cZ}:∀{l:List T},(Bj l).aT p O L->∀t∈l,t.aT p O L
 |[],h,_,_=>h.elim
 |[t],h,x,X=>by simp only[aE0] at X;subst X;exact h
 |t::u::r,h,x,X=>by
  simp only[Bj,T.aT,BE.den,true_implies] at h;rcases aDp.1 X with rfl|X;exact h.1;exact ZK (l:=u::r) h.2 x X
def MY:∀{l m:bA},lI l m=J->l=m
 |[],[],_=>rfl
 |[],_::_,h=>by simp[lI] at h
 |Z::_,[],h=>by simp[lI] at h
 |U _::_,[],h=>by simp[lI] at h
 |Z::X,Z::W,h=>by simp only[lI] at h;rw[MY h]
 |Z::_,U _::_,h=>by simp[lI] at h
 |U _::_,Z::_,h=>by simp[lI] at h
 |U (t,V)::X,U (R,Q)::W,h=>by
  simp only[lI,aDc,beq_iff_eq] at h;rw[h.1.1,SV.qU _ _ h.1.2,MY h.2]
def ajd:∀{l m:tW},Ic l m=J->l=m
 |[],[],_=>rfl
 |[],_::_,h=>by simp[Ic] at h
 |_::_,[],h=>by simp[Ic] at h
 |x::X,y::W,h=>by
  simp only[Ic,aDc] at h;rw[SV.qU _ _ h.1,ajd h.2]
def LE.bL:∀(a b:LE),LE.same a b=J->a=b
 |.ref r,b,h=>by cases b<;>simp[LE.same] at h;rw[RE.bL _ _ h]
 |.lit l,b,h=>by cases b<;>simp[LE.same] at h;rw[ajd h]
 |.iG x y,b,h=>by cases b<;>simp[LE.same] at h;rw[LE.bL _ _ h.1,LE.bL _ _ h.2]
 |.rY n W,b,h=>by cases b<;>simp[LE.same] at h;rw[IE.bL _ _ h.1,SV.qU _ _ h.2]
 |.set x i V X,b,h=>by cases b<;>simp[LE.same] at h;rw[LE.bL _ _ h.1.1.1,IE.bL _ _ h.1.1.2,h.1.2,SV.qU _ _ h.2]
 |.sub x R Q,b,h=>by cases b<;>simp[LE.same] at h;rw[LE.bL _ _ h.1.1,IE.bL _ _ h.1.2,IE.bL _ _ h.2]
 |.ins x n X,b,h=>by cases b<;>simp[LE.same] at h;rw[LE.bL _ _ h.1.1,h.1.2,SV.qU _ _ h.2]
def S.bL{s s':S}(h:S.same s s'=J):s=s':=by
 obtain⟨M,L,H,G,F,D,C,B⟩:=s;obtain⟨A,z,y,x,w,v,u,t⟩:=s';simp only[S.same,aDc,beq_iff_eq,decide_eq_true_eq] at h;obtain⟨⟨⟨⟨⟨⟨⟨X,W⟩,V⟩,R⟩,Q⟩,P⟩,O⟩,N⟩:=h;rw[SV.qU _ _ X,MY W,V,R,Q,P,O,N]
def T.bL:∀(a b:T),T.same a b=J->a=b
 |.out e s,b,h=>by
  cases e with
  |normal=>
   cases b with
   |out W s'=>
    cases W with
    |normal=>rw[S.bL (s:=s) (s':=s') h]
    |_=>simp[T.same] at h
   |_=>simp[T.same] at h
  |_=>simp[T.same] at h
 |.stuck _,b,h=>by simp[T.same] at h
 |.dw _ _ _ _ _ _ _ _,b,h=>by simp[T.same] at h
 |.ret v V X,b,h=>by cases b<;>simp[T.same] at h;rw[SV.bL _ _ h.1.1,MY h.1.2,h.2]
 |.bj v,b,h=>by cases b<;>simp[T.same] at h;rw[SV.bL _ _ h]
 |.node c t f,b,h=>by cases b<;>simp[T.same] at h;rw[BE.bL _ _ h.1.1,T.bL _ _ h.1.2,T.bL _ _ h.2]
 |.aV c t,b,h=>by cases b<;>simp[T.same] at h;rw[BE.bL _ _ h.1,T.bL _ _ h.2]
 |.call f G V X R fG t,b,h=>by
  cases b<;>simp[T.same] at h;obtain⟨⟨⟨⟨⟨⟨Q,P⟩,O⟩,N⟩,M⟩,L⟩,H⟩:=h;rw[Q,SV.qU _ _ P,MY O,N,M,SV.bL _ _ L,T.bL _ _ H]
 |.loop au R F t,b,h=>by cases b<;>simp[T.same] at h;rw[h.1.1.1,h.1.1.2,SV.qU _ _ h.1.2,T.bL _ _ h.2]
 |.back au x,b,h=>by cases b<;>simp[T.same] at h;rw[h.1,SV.qU _ _ h.2]
 |.new e x X D t,b,h=>by cases b<;>simp[T.same] at h;rw[h.1.1.1.1,LE.bL _ _ h.1.1.1.2,h.1.1.2,h.1.2,T.bL _ _ h.2]
 |.rows k x X t,b,h=>by cases b<;>simp[T.same] at h;rw[h.1.1.1,LE.bL _ _ h.1.1.2,h.1.2,T.bL _ _ h.2]
 |.fA g k t f,b,h=>by cases b<;>simp[T.same] at h;rw[BE.bL _ _ h.1.1.1,BE.bL _ _ h.1.1.2,T.bL _ _ h.1.2,T.bL _ _ h.2]
 |.pick n g k t f,b,h=>by
  cases b<;>simp[T.same] at h;rw[IE.bL _ _ h.1.1.1.1,BE.bL _ _ h.1.1.1.2,BE.bL _ _ h.1.1.2,T.bL _ _ h.1.2,T.bL _ _ h.2]
def I9:∀{l:List T}{t:T},t∈l->t∈FD l
 |[],t,h=>by cases h
 |u::R,t,h=>by
  simp only[FD];rcases aDp.1 h with rfl|h;split;rename_i X;obtain⟨w,W,V⟩:=aDL.1 X;rw[T.bL _ _ V];exact I9 W;exact aES;split;exact I9 h;exact aEn _ (I9 h)
def aje{p:Sp}{O:ac}{L:cZ}:∀{l:List BE}{t:T},(P0 l t).aT p O L->(∀b∈l,b.den O=J)/\t.aT p O L
 |[],t,h=>⟨λ_ X=>(by cases X),h⟩
 |b::r,t,h=>by
  simp only[P0,T.aT] at h;obtain⟨W,V⟩:=aje h.2;exact⟨λx R=>(aDp.1 R).elim (λe=>e▸h.1) (W x),V⟩
def aud{V:oq}{lf:List BE}{X:ce}{R:aj}{k:S->T}{W:ce}(h:(nH cf V B lf X R k b N W w).aT p F f):XY cf lf w X=true:=by
 cases W with
 |nil=>
  cases N<;>simp only[nH] at h<;>split at h;assumption;exact h.elim;assumption;exact h.elim
 |cons m P=>
  cases N with
  |zero=>exact h.elim
  |succ N=>
   simp only[nH] at h;split at h;exact h.elim;rename_i Q;simpa using Q
def aue(s:S):s.bM []=s:=by
 obtain⟨X,b,c,d,e,f,g,i⟩:=s;simp only[S.bM,S.mk.injEq,and_self,and_true];apply aDG;intro i;rw[uk];cases X[i]?<;>simp
def ZL:∀{l:List T}{t:T},t∈FD l->t∈l
 |[],t,h=>by cases h
 |u::X,t,h=>by
  simp only[FD] at h;split at h;exact aEn _ (ZL h);rcases aDp.1 h with rfl|h;exact aES;exact aEn _ (ZL h)
def ajf{O:ac}{L:cZ}:∀{l:List T},l≠[]->(∀t∈l,t.aT p O L)->(Bj l).aT p O L
 |[],h,_=>absurd rfl h
 |[t],_,h=>h t aES
 |t::u::r,_,h=>by
  simp only[Bj,T.aT];exact⟨λ_=>h t aES,λ_=>ajf (l:=u::r) (by simp) λx X=>h x (aEn _ X)⟩
def ajg{k:S->T}{X:SV->S->T}:∀{l:List T},(Bj l).mG k X=Bj (l.map (T.mG k X))
 |[]=>rfl
 |[t]=>rfl
 |t::u::r=>by
  simp only[Bj,T.mG,aDt];rw[ajg (l:=u::r)];rfl
def auf{k:S->T}{Q P:SV->S->T}(B:∀v N F f,((Q v N).mG k b).aT p F f->(P v N).aT p F f)(h:((xu cf x y w Q).mG k b).aT p F f):(xu cf x y w P).aT p F f:=by
 unfold xu at h⊢;cases M:cf.sig x with
 |none=>rw[M] at h;exact h.elim
 |some H=>
  simp only[M] at h⊢;cases G:gA cf.ty H with
  |none=>rw[G] at h;exact h.elim
  |some D=>
   simp only[G] at h⊢;cases C:zq cf.ty H ((w.cut y D).bW D).1 with
   |none=>rw[C] at h;exact h.elim
   |some l=>
    simp only[C] at h⊢;split at h;rename_i A;rw[if_pos A];simp only[T.mG,T.aT] at h⊢;intro X V W z;refine(h X V W z).mono λe m R=> ?_
    cases e with
    |returned v=>
     obtain⟨u,t,r,q,o,n⟩:=R;exact⟨u,t,r,q,o,B _ _ _ _ n⟩
    |panicked j=>exact R
    |outgrown=>exact R
    exact h.elim
def aug{k:S->T}{y:SV->S->T}{t:YH}{m:OM}{M H:S->T}(V:∀R F f,((M R).mG k b).aT p F f->(H R).aT p F f)(h:((C8 cf (P1 cf) B y m M w).mG k b).aT p F f):(C8 cf (jB cf A t) B b m H w).aT p F f:=by
 unfold C8 at h⊢;cases bq:Fu cf m.o w with
 |some u=>
  simp only[bq,T.mG,T.aT] at h⊢;obtain⟨r,q,l⟩:=h;exact⟨r,q,V _ _ _ l⟩
 |none=>
 simp only[bq] at h⊢;cases Q:dA cf w m.o with
 |call c d=>
  cases c with
  |fn g=>
   simp only[Q,P1] at h⊢;split at h;rename_i N;have N:cf.inl g=none:=by simpa using N
   simp only[jB,N];exact auf (λv R F f j=>V _ F f j) h;exact h.elim
  |yl n=>simp only[Q] at h;exact h.elim
 |bj v=>simp only[Q] at h;exact h.elim
 |no=>simp only[Q] at h;exact h.elim
 |op=>
  simp only[Q] at h⊢;cases G:(if Ie m.o.op then dI cf m.o m.bC E w else Z) with
  |some X=>
   simp only[G,T.mG,T.aT] at h⊢;exact⟨h.1,λi e=>V _ _ _ (h.2 i e)⟩
  |none=>
   simp only[G] at h⊢;by_cases D:lY m.o.op=J;rw[if_pos D] at h⊢;cases C:zD cf w m.o with
   |none=>rw[C] at h;exact h.elim
   |some x=>
    obtain⟨X,v⟩:=x;simp only[C,T.mG,T.aT] at h⊢;exact⟨h.1,V _ _ _ h.2⟩
   rw[if_neg D] at h⊢;by_cases z:L4 m.o.op=J;rw[if_pos z] at h⊢;cases P:fc cf m w with
   |ok R=>simp only[P] at h⊢;exact V _ _ _ h
   |aV X R=>simp only[P] at h;exact h.elim
   |split X a s2=>simp only[P] at h;exact h.elim
   |no W=>simp only[P] at h;exact h.elim
   rw[if_neg z] at h;exact h.elim
def auh{k:S->T}{G:SV->S->T}{R:YH}{lf:List BE}{X:aj}:∀(n:Nat)(W:ce)(V:ce)(s:S)(O:ac)(L:cZ),
  ((nH cf (P1 cf) B lf V X (.out .normal) G n W s).mG k b).aT p O L->(nH cf (jB cf A R) B lf V X k b n W s).aT p O L:=by
 intro n;induction n with
 |zero=>
  intro W V s O L h;cases W with
  |nil=>
   simp only[nH] at h⊢;split at h;rename_i Q;rw[if_pos Q];exact h;exact h.elim
  |cons m r=>exact h.elim
 |succ n F=>
  intro W V s O L h;cases W with
  |nil=>
   simp only[nH] at h⊢;split at h;rename_i Q;rw[if_pos Q];exact h;exact h.elim
  |cons m r=>
   simp only[nH] at h⊢;split at h;exact h.elim;rename_i Q;rw[if_neg Q];rw[ajg] at h;have N:=ZK h;cases M:(Ib (m::r)).filter (XZ B) with
   |nil=>rw[M] at h;exact h.elim
   |cons x D=>
    rw[M] at N;refine ajf (λH=> ?_) λt C=> ?_
    have:=I9 (aES (a:=C8 cf (jB cf A R) X b x.1 (λP=>nH cf (jB cf A R) B lf (If B x.1 V) X k b n x.2 P) s) (l:=D.map λx=>C8 cf (jB cf A R) X b x.1 (λP=>nH cf (jB cf A R) B lf (If B x.1 V) X k b n x.2 P) s));simp only[aDt] at H;rw[H] at this;cases this;obtain⟨y,z,rfl⟩:=aDF.1 (ZL C);exact aug (λP O L w=>F _ _ _ _ _ w) (N _ (aDF.2 ⟨_,I9 (aDF.2 ⟨y,z,rfl⟩),rfl⟩))
structure ajh(cf:bB)(ops:cS)(bs:aj)(qs ch:ce):Prop where
 aji:I3 ops bs
 xJ:∀m∈qs++ch,∀x∈qs++ch,∀d,x.o.dst=U d->d∈iY ops m.o->(bs.getD m.j 0).testBit x.j=J
 dst:∀x∈qs++ch,∀y∈qs++ch,x.j≠y.j->∀d,x.o.dst=U d->y.o.dst≠U d
 gd:∀m∈qs++ch,m.o.guard=Z/\m.bC=E
 qt:∀q∈qs,lY q.o.op=J
def aui{X:Fence}(hF:ph X)(ok:kG p cf){nn:Nat}(ih:xO p cf nn){D:bR}{M:kE}{yh:YH}(hY:Dp p cf D.dB M yh){Q:Exit->Act->World->Prop}(HP:∀ch a' z pd y,dE p.w0 D pd y a'.defers z->p.R (.panicked ch) z->Q (.panic ch) a' z)
   {lf:List BE}{qs ch:ce}{ds:aj}(hX:ajh cf ops B qs ch)(b6:∀x∈qs++ch,∀d,x.o.dst=U d->d∈ds){k:S->T}{V0:aj}(hB:M.pW w F V0 f)(bx:∀H∈lf,H.bd (Y F.i) (Y F.b) (Y F.r)=J/\H.den F=J)
  (hk:∀s' O' V' a' z L',bG w F V0 s' O' V'->cM w.au f L'->az p.S0 p.w0 D cf.ty V' O' s' a' z->(k s').aT p O' L'->Q .normal a' z)
  (b7:∀v s' O' V' a' z L',bG w F V0 s' O' V'->cM w.au f L'->az p.S0 p.w0 D cf.ty V' O' s' a' z->(b v s').aT p O' L'->Q (.panic [{v:=v.den O' V',recovered:=E}]) a' z):
  ∀(ap:Nat)(listed:Array Bool)(ab af qv:ce)(s:S)(O:ac)(V:aj)(a:Act)(W:World)(L:cZ),(ab++af).length=ap->sy ops listed (ab++af)->(∀q∈ab,q∈qv)->(∀q∈qv,q∈qs)->(∀m∈af,m∈ch)->
   bG w F V0 s O V->cM w.au f L->az p.S0 p.w0 D cf.ty V O (s.bM (qd ab)) a W->et cf.gl O->(nH cf (jB cf (λG c s k=>eR cf nn G c s yh k) yh) B lf qv ds k b (Y af) af s).aT p O L->
   wpAnyIn X N p.P .any ops Q ap listed a W:=by
 intro ap;induction ap with
 |zero=>
  intro listed ab af qv s O V a W L bb hW a3 a5 hr hl hL R hg h;have hp:∀q∈ab,q∈qs:=λq hq=>a5 q (a3 q hq)
  have a6:ab++af=[]:=aDT.1 bb;obtain⟨rfl,rfl⟩:=List.append_eq_nil_iff.1 a6;simp only[aFm,nH] at h;split at h;refine⟨?_,hk s O V a W L hl hL (by have:=R;simp only[qd,List.filterMap_nil,aue] at this;exact this) h⟩;cases ag:Region.ready .any ops listed with
  |nil=>rfl
  |cons i r=>
   obtain⟨h1,o,ho,-⟩:=mem_ready.1 (show i∈Region.ready .any ops listed by rw[ag];simp);obtain⟨m,hm,-⟩:=(hW.un i (aDD.1 ho).1).1 h1;cases hm
  exact h.elim
 |succ ap b0=>
  intro listed ab af qv s O V a W L bb hW a3 a5 hr hl hL R hg h;have hp:∀q∈ab,q∈qs:=λq hq=>a5 q (a3 q hq)
  have a4:∀m∈ab++af,m∈qs++ch:=λm hm=>by
   rcases aDo.1 hm with h1|h1;exact aDX _ (hp m h1);exact aEH _ (hr m h1)
  refine⟨λag=> ?_,λi hi=> ?_⟩;exfalso;obtain⟨m0,b8⟩:=List.exists_mem_of_length_pos (l:=ab++af) (by omega);obtain⟨m,hm,a6⟩:=sy.some hX.aji hW m0.j ⟨m0,b8,rfl⟩;have:m.j∈Region.ready .any ops listed:=
   mem_ready.2 ⟨(hW.un m.j (hW.lt hm)).2 ⟨m,hm,rfl⟩,m.o,hW.mem m hm,λe he hb=>a6 e.on (aiS he hb)⟩
  rw[ag] at this;cases this;obtain⟨h1,o,ho,a6⟩:=mem_ready.1 hi;obtain⟨m,hm,rfl⟩:=(hW.un i (aDD.1 ho).1).1 h1;have bf:=hW.mem m hm;rw[bf] at ho;cases ho;have hd:∀e∈kb m.o,listed.getD e E=true:=λe he=>by
   obtain⟨ed,h2,h3,rfl⟩:=aiT he;exact a6 ed h2 h3
  have bg:∀x∈ab++af,¬(B.getD m.j 0).testBit x.j=true:=λx hx hb=>hW.not hx (hW.listed hX.aji m.j m.o bf hd x.j (hW.lt hx) hb)
  have ag:∀t∈iY ops m.o,t∉qd ab:=λt ht hq=>by
   obtain⟨x,hx,a7⟩:=aEw.1 hq;exact bg x (aDX _ hx) (hX.xJ m (a4 m hm) x (a4 x (aDX _ hx)) t a7 ht)
  obtain⟨ca,b1⟩:=hX.gd m (a4 m hm);have b2:=aud h;have cc:Region.wanted m.o (yielded ops a.tmps)=true:=Zu R (by simp[fK,ca]);unfold wpOpIn;rw[bf];simp only[cc,if_true];rcases aDo.1 hm with cl|cm
  
  obtain⟨xs,ys,rfl⟩:=aGR cl;have hq:=aDr.1 b2 m (a3 m (by simp));split at hq;rename_i d H v bk hv;split at hq;rename_i C hw;simp only[aDc,aDE] at hq;have cp:=SV.bL _ _ hq.1;subst cp;have dR:H.den O=true:=by
   rcases hq.2 with h5|h5;cases H<;>simp only[BE.XX,aDB] at h5;simp only[BE.den];exact h5;obtain⟨x,hx,h6⟩:=aDL.1 h5;rw[<-BE.bL _ _ h6,BE.dj hl.ext.agree x (bx x hx).1];exact(bx x hx).2
  have al:=ai8 (O:=O) (hX.qt m (hp m (by simp))) b1 (ai9 (ops:=ops) (ds:=qd (xs++m::ys)) ag hv) dR;obtain⟨v',z,V',a0,R',A⟩:=Mu R ok.ln hg m al;have an:=hW.nd;rw[aD5,aDi] at hW an;have a2:d∉qd (xs++ys):=λhh=>by
   obtain⟨x,hx,a7⟩:=aEw.1 hh;have bl:x.j≠m.j:=by
    rw[aDH] at an;rcases aDo.1 hx with h5|h5;exact an.2.2 x h5 m (by simp);exact Ne.symm ((aDz.1 an.2.1).1 x (by simp[h5]))
   exact hX.dst x (aDX _ (hp x (by rcases aDo.1 hx with h5|h5<;>simp[h5]))) m (aDX _ (hp m (by simp))) bl d a7 bk
  have hs:((s.bM (qd (xs++m::ys))).put m.o.dst v)=s.bM (qd (xs++ys)):=by
   rw[bk];simp only[S.put,tY,S.bM];congr 1;apply aDG;intro i;rw[aD9,uk,uk,aDM,I6];have cs:=(aDd.1 hw).1;by_cases hi:d=i;subst hi;rw[if_pos rfl,if_pos cs,hw];simp[a2];rw[if_neg hi];have ct:(qd (xs++m::ys)).contains i=(qd (xs++ys)).contains i:=by
    rw[aEk,aDN,aDN];simp only[qd,List.filterMap_append,aFx,bk,aDo,aDp];constructor;rintro(h5|h5|h5);exact .inl h5;exact absurd h5.symm hi;exact .inr h5;rintro(h5|h5);exact .inl h5;exact .inr (.inr h5)
   rw[ct]
  rw[hs] at R' A;refine BA hF a0 (MD al) ?_;refine b0 _ (xs++ys) af qv s O V' _ z L (by simp at bb⊢;omega) ?_ (λq hq=>a3 q (by rcases aDo.1 hq with h5|h5<;>simp[h5])) a5 hr (hl.trans ⟨A.ext,A.mono,A.len,A.au⟩) hL R' hg h;rw[aD5];exact hW.next hd;cases hq;cases hq
  
  obtain⟨xs,ys,rfl,b3⟩:=ajc cm;have cv:(xs++m::ys).length=(xs++ys).length+1:=by simp;omega
  have cx:XZ B (m,xs++ys)=true:=by
   refine aDr.2 λx hx=> ?_
   have:=bg x (aEH _ (by simp only[aDo,aDp] at hx⊢;exact hx.imp id .inr));simpa using this
  have h:(C8 cf (jB cf (λG c s k=>eR cf nn G c s yh k) yh) ds b m (λs'=>nH cf (jB cf (λG c s k=>eR cf nn G c s yh k) yh) B lf (If B m qv) ds k b (xs++ys).length (xs++ys) s') s).aT p O L:=by
   rw[cv] at h;generalize cy:xs++m::ys=cA at h b3;cases cA with
   |nil=>simp at cy
   |cons m0 r0=>
    simp only[nH,b2,aF8,aDB,if_false] at h;exact ZK h _ (I9 (aDF.2 ⟨_,aD1.2 ⟨b3,cx⟩,rfl⟩))
  have cB:sy ops (listed.setIfInBounds m.j J) (ab++(xs++ys)):=by
   have h5:ab++(xs++m::ys)=(ab++xs)++m::ys:=by simp
   rw[h5] at hW;have:=hW.next hd;simpa using this
  have a2:∀d,m.o.dst=U d->d∉qd ab:=λd cC hh=>by
   obtain⟨x,hx,a7⟩:=aEw.1 hh;have bl:x.j≠m.j:=(aDH.1 hW.nd).2.2 x hx m (by simp);exact hX.dst x (a4 x (aDX _ hx)) m (a4 m hm) bl d a7 cC
  have a8:∀(s1:S)(O1:ac)(V1:aj)(a1:Act)(W1:World)(L1:cZ),bG s O V s1 O1 V1->cM s.au L L1->az p.S0 p.w0 D cf.ty V1 O1 (s1.bM (qd ab)) a1 W1->(nH cf (jB cf (λG c s k=>eR cf nn G c s yh k) yh) B lf (If B m qv) ds k b (xs++ys).length (xs++ys) s1).aT p O1 L1->wpAnyIn X N p.P .any ops Q ap (listed.setIfInBounds m.j J) a1 W1:=
   λs1 O1 V1 a1 W1 L1 cU cD R1 cI=>b0 _ ab (xs++ys) (If B m qv) s1 O1 V1 a1 W1 L1 (by simp at bb⊢;omega) cB (λq hq=>aD1.2 ⟨a3 q hq,by have:=bg q (aDX _ hq);simpa using this⟩) (λq hq=>a5 q (aD1.1 hq).1) (λx hx=>hr x (by simp only[aDo,aDp] at hx⊢;exact hx.imp id .inr)) (hl.trans cU) (hL.trans cD hl.au) R1 (hg.ext cU.ext) cI
  have b4:=(Rj (cf:=cf) (s:=s) (O:=O) ag).ev cf.gl;unfold C8 at h;split at h;rename_i u hu;have cO:=at9 (F0 b4) a2 hu;simp only[T.aT] at h;obtain⟨aC,hr,h⟩:=h;obtain⟨bo,tv,cW,an,br⟩:=asR ok.zp R hg cO hr;refine⟨λG _=>hF.fn G, ?_⟩;rw[Oper.semAt_eq _ _ _ an,cW,Oper.uponIn_enter];refine⟨λhd=>by rw[hF.xJ] at hd;simp at hd,CallsIn.mono (hF.calls br) (λe z he=> ?_)⟩;obtain⟨rfl,R',A⟩:=he;exact a8 u.s _ V _ z L ⟨A.ext,A.mono,A.len,A.au⟩ (cM.refl _ _) R' h;split at h;rename_i g bo b5;have c0:dA cf (s.bM (qd ab)) m.o=.call (.fn g) bo:=by rw[F0 b4];exact b5
  have c1:M.pW (s.bM (qd ab)) O V L:=by
   have:=hB.go hl hL;exact⟨⟨this.later.ext,this.later.mono,this.later.len,this.later.au⟩,this.QF⟩
  have hC:=Rc ok ih hY L (.fn g) bo (s.bM (qd ab)) _ _ O V a W (λe z=>match e with
    |.returned v=>wpAnyIn X N p.P .any ops Q ap (listed.setIfInBounds m.j J) (a.put m.o.dst v) z
    |.panicked ch=>Q (.panic ch) a z
    |.outgrown=>LetsOut Q) c1 (auc h) R hg
   (λv s' O' V' z L' A bt R' hs=>by
    simp only[BQ] at hs;split at hs;rename_i a9;refine a8 (({s' with tmps:=s.tmps}:S).put m.o.dst v) O' V' _ z L' (bG.put (s':={s' with tmps:=s.tmps}) (show bG s O V _ O' V' from⟨A.ext,A.mono,A.len,A.au⟩) _ _) bt ?_ hs;rw[BP a2];have:({s' with tmps:=s.tmps}:S).bM (qd ab)=s':=by
     simp only[S.bM] at a9⊢;rw[<-a9]
    rw[this];exact R'.put _ _;exact hs.elim)
   (λv s' O' V' z L' A bt R' hs=>by
    simp only[BQ] at hs;split at hs;rename_i a9;refine b7 v (({s' with tmps:=s.tmps}:S).bM ds) O' V' a z L' (hl.trans ⟨A.ext,A.mono,A.len,A.au⟩) (hL.trans bt hl.au) ?_ hs;have:({s' with tmps:=s.tmps}:S).bM ds=s'.bM ds:=by
     have h6:=at1 (s:=s) (ds:=ds) (es:=qd ab) (λx hx=>by
      obtain⟨y,hy,c2⟩:=aEw.1 hx;exact b6 y (a4 y (aDX _ hy)) x c2)
     have h7:=congrArg S.tmps h6;simp only[S.bM] at h7 a9⊢;rw[a9,h7]
    rw[this];exact R'.bM ds;exact hs.elim)
   (λch z pd y hA hR=>HP ch a z pd y hA hR)
  obtain⟨c3,br⟩:=hC;refine⟨λG _=>hF.fn G, ?_⟩;have an:∀c,m.o.op≠ .defer c:=λc c4=>by simp[dA,c4] at b5
  rw[Oper.semAt_eq _ _ _ an,QH R hg c0 c3,Oper.uponIn_enter];refine⟨λhd=>by rw[hF.xJ] at hd;simp at hd,CallsIn.mono (hF.calls br) (λe z he=> ?_)⟩;cases e<;>exact he;split at h;rename_i H hb;split at hb;rename_i c5;simp only[T.aT] at h;have c6:=aua (cf:=cf) (ops:=ops) c5 ag a2 hb;obtain⟨v',z,rv,a0,c7,R',A⟩:=YJ R ok.ln hg c6 h.1;exact BA hF a0 (Y1 hb) (a8 H.s _ V _ z L ⟨A.ext,A.mono,A.len,A.au⟩ (cM.refl _ _) R' (h.2 rv (by rw[ok.pt];exact c7)));cases hb;split at h;rename_i c8;split at h;rename_i H v hv;simp only[T.aT] at h;have al:=ai8 (O:=O) c8 b1 (ai9 (ops:=ops) (ds:=qd ab) ag hv) h.1;obtain⟨v',z,V',a0,R',A⟩:=Mu R ok.ln hg m al;rw[<-BP a2] at R' A;exact BA hF a0 (MD al) (a8 (s.put m.o.dst v) O V' _ z L ⟨A.ext,A.mono,A.len,A.au⟩ (cM.refl _ _) R' h.2);exact h.elim;split at h;rename_i c9;split at h;rename_i s' dc;have dd:=at3 (ops:=ops) c9 ag a2 dc;have al:(fc cf m (s.bM (qd ab))).gives O (s'.bM (qd ab)):=by rw[dd];rfl
  obtain⟨v',z,V',a0,R',A⟩:=Mu R ok.ln hg m al;exact BA hF a0 (MD al) (a8 s' O V' _ z L ⟨A.ext,A.mono,A.len,A.au⟩ (cM.refl _ _) R' h);exact h.elim;exact h.elim;exact h.elim
def ajj:∀{P:ce}{s:S}{x:S×List BE},C7 cf P s=U x->x.1={s with tmps:=x.1.tmps}/\Y x.1.tmps=Y s.tmps/\(∀t,t∉qd P->x.1.tmps[t]?=s.tmps[t]?)/\∀b∈x.2,b.bd s.ni s.nb (Y s.rs)=J
 |[],s,x,h=>by simp only[C7,aDh] at h;subst h;exact⟨rfl,rfl,λ_ _=>rfl,λ_ R=>(by cases R)⟩
 |q::r,s,x,h=>by
  simp only[C7] at h;split at h;rename_i b v X;cases Q:C7 cf r (s.put q.o.dst v) with
  |none=>rw[Q] at h;cases h
  |some y=>
   rw[Q] at h;simp only[aDn,aDh] at h;subst h;obtain⟨L,H,G,O⟩:=ajj Q;refine⟨?_, ?_,λt N=> ?_,λx W=> ?_⟩;show y.1=_;rw[L];cases q.o.dst<;>rfl;show Y y.1.tmps=_;rw[H];cases q.o.dst<;>simp[S.put,tY];have F:t∉qd r:=λM=>N (by
    simp only[qd,aFx];cases q.o.dst with
    |none=>exact M
    |some d=>exact aEn _ M)
   show y.1.tmps[t]?=_;rw[G t F,kH (λe=>N (by simp[qd,e]))];have V:(s.put q.o.dst v).ni=s.ni/\(s.put q.o.dst v).nb=s.nb/\(s.put q.o.dst v).rs=s.rs:=by cases q.o.dst<;>exact⟨rfl,rfl,rfl⟩
   have R:b.bd s.ni s.nb (Y s.rs)=true:=by
    unfold zD at X;split at X;cases X;split at X;cases X;exact BE.ba.1 _;split at X;rename_i bJ;cases X;exact bJ;cases X;cases X
   simp only at W;split at W;have:=O x W;rwa [V.1,V.2.1,V.2.2] at this;rcases aDp.1 W with rfl|W;exact R;have:=O x W;rwa [V.1,V.2.1,V.2.2] at this
  cases h
def ajk{F:Fence}(hF:ph F)(ok:kG p cf){n nn:Nat}(ih:xO p cf nn){D:bR}{B:kE}{yh:YH}(hY:Dp p cf D.dB B yh){Q:Exit->Act->World->Prop}(HP:∀M u C pd y,dE p.w0 D pd y u.defers C->p.R (.panicked M) C->Q (.panic M) u C)
  {id:Nat}{so:Bool}{c:L5}{s:S}{O:ac}{V:aj}{a:Act}{W:World}{L:cZ}{k:XE->S->T}(hB:B.pW s O V L)(H:Ih cf so ops s=U c)
  (h:(Ma cf (jB cf (λf c s k=>eR cf nn f c s yh k) yh) ops k c).aT p O L)(R:az p.S0 p.w0 D cf.ty V O s a W)(hg:et cf.gl O)
  (hk:∀l r V' u C L',bG s O V l r V'->cM s.au L L'->az p.S0 p.w0 D cf.ty V' r l u C->(k .normal l).aT p r L'->Q .normal u C)
  (a9:∀v l r V' u C L',bG s O V l r V'->cM s.au L L'->az p.S0 p.w0 D cf.ty V' r l u C->(k (.bj v) l).aT p r L'->Q (.panic [{v:=v.den r V',recovered:=E}]) u C):
  (Code.region id ops J).wpIn F n p.P Q a W:=by
 unfold Ih at H;split at H;rename_i af;obtain⟨ag,al⟩:∃ag,ag=fH (λ_=>E) E J 0 (Y s.boxes) ops.toList:=⟨_,rfl⟩;obtain⟨N,a1⟩:∃N,N=Bk so ops (Y s.boxes):=⟨_,rfl⟩;obtain⟨M,a2⟩:∃M,M=Bl so ops (Y s.boxes):=⟨_,rfl⟩;have bb:N=ag.filter λm=>(P2 so ops).contains m.j:=by rw[a1,al];rfl
 have bd:M=ag.filter λm=> !(P2 so ops).contains m.j:=by rw[a2,al];rfl
 have af:=(aDc _ _▸af).2;unfold Ig at af;rw[<-a1,<-a2,<-al] at af;rw[<-a1,<-a2] at H;cases hq:C7 cf N (s.room (lG ops.toList)) with
 |none=>rw[hq] at H;cases H
 |some x1=>
  obtain⟨g,lf⟩:=x1;rw[hq] at H;simp only[aFt,X2] at H;split at H;cases H;cases H;obtain⟨a4,h⟩:=aje h;simp only at h a4;have h:(nH cf (jB cf (λf c s k=>eR cf nn f c s yh k) yh) (nG ops.toList) lf N (C4 ops.toList) (k .normal) (λv=>k (.bj v)) (Y M) M g).aT p O L:=by
   split at h;exact h;exact auh _ _ _ _ _ _ h
  simp only[X1,aDc,beq_iff_eq] at af;obtain⟨⟨⟨⟨⟨⟨⟨⟨c1,c2⟩,c4⟩,c5⟩,c6⟩,c7⟩,c8⟩,c9⟩,bo⟩:=af;have ab:∀m∈N++M,m∈ag:=λm X=>by
   rcases aDo.1 X with h1|h1;rw[bb] at h1;exact(aD1.1 h1).1;rw[bd] at h1;exact(aD1.1 h1).1
  have a5:∀m∈ag,ops[m.j]?=U m.o:=λm X=>by
   obtain⟨i,A⟩:=aFR.1 X;rw[al] at A;have h1:=MU _ _ _ _ _ _ _ _ A;have h2:=ZB _ _ _ _ _ _ _ _ A;rw[h2,aDM];simpa using h1
  have a6:=Q9 c4;have hX:ajh cf ops (nG ops.toList) N M:=by
   refine⟨ai4 c1,λm X x z d hd G=> ?_,λx z y hy bf d a7 a8=> ?_,λm X=> ?_,λq hq=> ?_⟩;have:=aDr.1 (aDr.1 c5 m (ab m X)) x (ab x z);rw[hd] at this;simp only[aDE,aDv] at this;rcases this with h5|h5;rw[aDN.2 G] at h5;cases h5;exact h5;obtain⟨i,A⟩:=aFR.1 (ab x z);obtain⟨j,hj⟩:=aFR.1 (ab y hy);have bg:i≠j:=λe=>by subst e;rw[A] at hj;cases hj;exact bf rfl
   have an:=(aDd.1 A);have ap:=(aDd.1 hj);rcases aGN bg with a3|a3;exact(aET.1 a6 i j an.1 ap.1 a3) d (by rw[an.2];exact a7) (by rw[ap.2];exact a8);exact(aET.1 a6 j i ap.1 an.1 a3) d (by rw[ap.2];exact a8) (by rw[an.2];exact a7);have:=aDr.1 c2 m (ab m X);simp only[aDc,aDv,aGd] at this;exact this;have:=aDr.1 c6 q hq;simp only[aDc] at this;exact this.1
  obtain⟨Rr,a0⟩:=R.room (lG ops.toList);have w:=Rr.drew;obtain⟨e1,e2,e3,e4⟩:=ajj hq;simp only at e1 e2 e3 e4;have Rb:az p.S0 p.w0 D cf.ty (V++aDq (lG ops.toList) 0) O (g.bM (qd N)) a {W with drawn:=W.drawn+1}:=by
   have hh:g.bM (qd N)={s.room (lG ops.toList) with tmps:=qQ (qd N) 0 g.tmps}:=by
    rw[e1];rfl
   rw[hh];refine⟨w.mem,w.fp,w.ei,w.eb,w.er,w.cP,by simp only[I6,e2];exact w.size,λt sv G=> ?_,w.dJ⟩;simp only at G;rw[uk,aDM] at G;cases z:g.tmps[t]? with
   |none=>rw[z] at G;cases G
   |some x=>
    rw[z] at G;simp only[aDn,aDh] at G;split at G;exact .inl G.symm;rename_i bk;subst G;exact w.tmps t x (by rw[<-e3 t (λX=>bk (aDN.2 X))];exact z)
  have cU:bG s O V g O (V++aDq (lG ops.toList) 0):=by
   rw[e1];exact⟨a0.ext,a0.mono,a0.len,a0.au⟩
  refine wpIn_region_any ok.Y9 ?_;refine aui (ds:=C4 ops.toList) hF ok ih hY HP hX (λx z d hd=> ?_) hB (λb hb=>⟨by have:=e4 b hb;rw[R.ei,R.eb,R.er];exact this,a4 b hb⟩) hk a9 ops.size _ N M N g O _ a _ L c8 ?_ (λ_ h=>h) (λ_ h=>h) (λ_ h=>h) cU (cM.refl _ _) Rb hg h;have h2:ops.toList[x.j]?=U x.o:=by have:=a5 x (ab x z);simpa using this
  exact aEw.2 ⟨x.o,aDx h2,hd⟩;refine⟨λm X=>a5 m (ab m X),λi A=> ?_,by simp,λj o ho hj=> ?_, ?_⟩;constructor;intro _;have:=aDr.1 c7 i (by simpa using A);obtain⟨m,X,hj⟩:=aDL.1 this;exact⟨m,X,by simpa using hj⟩;intro _;simp[A];exfalso;have bl:j<ops.size:=(aDD.1 ho).1;simp[bl] at hj;have:=ZE c9;rw[aFq] at this;exact this
 cases H
end
section
variable{p:Sp}{o:bB}
def kE.here(s:S)(O:ac)(V:aj)(L:cZ):(kE.mk s O V L).pW s O V L:=⟨bG.refl _ _ _,cM.refl _ _⟩
def auj(W:Array Nat)(V:eJ)(A:jk):(W.zip V.toArray).foldl (λ(X:jk)(x:Nat×Value)=>match x with|(t,a)=>X.setIfInBounds t a) A=(W.toList.zip V).foldl (λ(X:jk)(x:Nat×Value)=>X.setIfInBounds x.1 x.2) A:=by
 rw[<-aGM];simp[Array.toList_zip]
def auk(ok:kG p o)(ih:xO p o N){ap:Func}(a0:p.P.funcs[x]?=U ap){ps:Array Tmp}{assign body:Code}{s:S}{L:cZ}{O:ac}{V:aj}{a:Act}{sE:S}{l:Nat}{rec:Loop}{OB:List (Nat×Loop)}
  (hE:sE.boxes=s.boxes)(dR:SV.db (Y O.i) (Y O.b) (Y O.r) (aM s.boxes) s.tmps=J)(bk:a.tmps.size=Y s.tmps)(bl:∀(t:Nat)(B:SV),s.tmps[t]?=U B->B=.any\/a.tmps[t]?=U (B.den O V))
  (bo:iZ assign=E)(br:iZ body=E){n0:Nat}(u:rec={state:=.ready,pending:=Z,fn:=x,tmps:=a.tmps,params:=ps,assign,body,defers:=rec.defers})(q:OB[n0]?=U (l,rec)):
  Dp p o OB ⟨sE,O,V,L⟩ (L7 n0 ps.size λH Q k1 a6=>
   eR o N x assign (Bn Q s ps.toList H) iA (L6 n0 λj=>eR o N x body (j.FG n0 .busy) iA (P4 n0 Q k1 a6))):=by
 intro D hD L1 m H Q k1 a6 G A a1 W1 R' hB h R hg hk bs hp F hF mm;unfold L7 at h;split at h;rename_i hc;simp only[aDc,beq_iff_eq,decide_eq_true_eq] at hc;obtain⟨⟨⟨⟨c1,c2⟩,c3⟩,c4⟩,c5⟩:=hc;subst c1;simp only[S.dV,aDc] at c5;rw[<-hD] at q;have a7:pR rec .ready=rec:=by rw[u];rfl
 obtain⟨y1,y2,y3⟩:=R.cP.dB m l rec .ready q c3;rw[a7] at y2;have bt:G.y.getD m 0=l:=by simp[aDf,y1]
 rw[bt];have a8:rec.params=ps:=by rw[u]
 have bx:=run_yield (P:=p.P) (args:=(SV.aD G A H).toArray) y2 (by rw[a8];simpa using c4);refine⟨_,_,_,_,bx, ?_⟩;have e1:rec.fn=x:=by rw[u]
 have e2:rec.assign=assign:=by rw[u]
 have e3:rec.body=body:=by rw[u]
 have e4:rec.tmps=a.tmps:=by rw[u]
 rw[e1,e2,e3,e4,a8];refine atJ hF a0 ?_;obtain⟨ms,m1,m0,m2,m3⟩:=R.cP.l8;have hA:=R.cP.enter m2 m3 J;have b0:∀(t:Nat)(B:SV),s.tmps[t]?=U B->B=.any\/a.tmps[t]?=U (B.den G A):=by
  intro t B ht;rcases bl t B ht with h1|h1;exact .inl h1;right;have hX:=hB.later.ext;simp only[hE] at hX;rw[hX.den (uh dR ht)];exact h1
 obtain⟨q1,q2⟩:=aiX (O:=G) (V:=A) ps.toList H s.tmps a.tmps bk b0;rw[<-auj] at q1 q2;have RS:az p.S0 p.w0 ⟨ms++D.out,D.dB,J,[]⟩ o.ty A G (Bn Q s ps.toList H) {tmps:=(ps.zip (SV.aD G A H).toArray).foldl (λ(b1:jk)(X:Nat×Value)=>match X with|(t,a)=>b1.setIfInBounds t a) a.tmps,defers:=[]} W1:=
  ⟨R.mem,R.fp,R.ei,R.eb,R.er,hA,q1,q2,R.dJ⟩
 have ag:∀(k:Act) z w y,dE p.w0 ⟨ms++D.out,D.dB,J,[]⟩ w y k.defers z->k.defers=[]/\dE p.w0 D w y a1.defers z:=by
  intro k z w y g;obtain⟨b2,f,p0,p2,p3⟩:=g.l8;have:b2=[]:=p0 rfl;subst this;have a9:k.defers=[]:=by simpa using f
  rw[a9] at g;refine⟨a9, ?_⟩;rw[m1];exact g.I4 m0
 refine ih ⟨ms++D.out,D.dB,J,[]⟩ ⟨Bn Q s ps.toList H,G,A,L1⟩ iA (U l) x assign (Bn Q s ps.toList H) _ L1 G A _ W1 _ (F3 _ _) (kE.here _ _ _ _) rfl (λ_=>bo) ⟨ap,a0⟩ h RS hg ?_ ?_;intro ch k z w y g hR;obtain⟨f,p2⟩:=ag k z w y g;exact .inr ⟨ch,rfl,f,hp ch z w y p2 hR⟩;intro e j O2 V2 a2 W2 L2 a4 b3 R2 d;cases e with
 |normal=>
  simp only[L6] at d;split at d;rename_i bb;simp only[decide_eq_true_eq] at bb;left;obtain⟨z1,z2,z3⟩:=R2.cP.dB m l rec .ready q bb;rw[a7] at z2;have b4:({rec with state:=.busy}:Loop)=pR rec .busy:=by rw[u];rfl
  have bd:=run_beginRound (P:=p.P) z2 (by rw[u]);rw[b4] at bd;refine⟨rfl,_,bd, ?_⟩;have R3:az p.S0 p.w0 ⟨ms++D.out,D.dB,J,[]⟩ o.ty V2 O2 (j.FG m .busy) a2 (W2.putObj l (.loop (pR rec .busy))):=
   R2.obj z2 rfl z3 _ rfl (R2.cP.Zz q .busy)
  refine ih ⟨ms++D.out,D.dB,J,[]⟩ ⟨j.FG m .busy,O2,V2,L2⟩ iA (U l) x body (j.FG m .busy) _ L2 O2 V2 a2 _ _ (F3 _ _) (kE.here _ _ _ _) rfl (λ_=>br) ⟨ap,a0⟩ d R3 (hg.ext a4.ext) ?_ ?_;intro ch k z w y g hR;obtain⟨f,p2⟩:=ag k z w y g;exact⟨f,hp ch z w y p2 hR⟩
  ·intro e M O3 V3 a3 W4 L3 al b5 R4 an;have b6:m<Y M.pd:=by
    rw[<-R4.cP.len];exact(aDd.1 q).1
   obtain⟨u1,u2,u3⟩:=R4.cP.dB m l rec M.pd[m] q (aDe b6);have W:bG (Bn Q s ps.toList H) G A M O3 V3:=a4.trans (s':=j) ⟨al.ext,al.mono,al.len,al.au⟩;have bf:cM Q.au L1 L3:=cM.trans (m:=j.au) b3 b5 a4.au;have a5:∀(C:E8)(ab:Option Code),(∀af,({pR rec af with state:=if ab.isNone then .ready else .done,pending:=ab}:Loop)=pR rec C)->
     (k1 (.bool (.c ab.isNone)) {M with tmps:=Q.tmps,pd:=M.pd.set m C}).aT p O3 L3->∃v w',(Instr.endRound l ab).run p.P W4=.ok v w'/\R' (.returned v) w':=by
    intro C ab b7 b8;have bg:=run_endRound (P:=p.P) ab u2;rw[b7] at bg;refine⟨_,_,bg, ?_⟩;have R5:=R4.obj u2 rfl u3 (.loop (pR rec C)) rfl (R4.cP.Zz q C);have ca:dE p.w0 D (M.pd.set m C) O3.y a1.defers (W4.putObj l (.loop (pR rec C))):=(ag a3 _ _ _ (R4.cP.Zz q C)).2;have cc:bG (Bn Q s ps.toList H) G A {M with pd:=M.pd.set m C} O3 V3:=⟨W.ext,W.mono,W.len,W.au⟩;have RB:=R.back c5.1 cc rfl R5 (D2:=D) (a2:=a1) rfl ca;have:=hk (.bool (.c ab.isNone)) {M with tmps:=Q.tmps,pd:=M.pd.set m C} O3 V3 _ L3 ⟨W.ext,W.mono,W.len,W.au⟩ bf RB b8;simpa[SV.den,BE.den] using this
   cases e with
   |normal=>exact a5 .ready Z (λaf=>by cases af<;>rfl) an
   |ret=>exact a5 (.done .ret) (U .ret) (λaf=>by cases af<;>rfl) an
   |exit id=>exact a5 (.done (.exit id)) (U (.exit id)) (λaf=>by cases af<;>rfl) an
   |bj v=>
    obtain⟨f,p2⟩:=ag a3 _ _ _ R4.cP;have RB:=R.back c5.1 W rfl R4 (D2:=D) (a2:=a1) rfl p2;exact⟨f,bs v {M with tmps:=Q.tmps} O3 V3 _ L3 ⟨W.ext,W.mono,W.len,W.au⟩ bf RB an⟩
  exact d.elim
 |ret=>exact d.elim
 |exit id=>exact d.elim
 |bj v=>exact d.elim
 exact h.elim
def aul(ok:kG p o){n:Nat}(ih:xO p o n){D:bR}{ab:FuncId}{b3:Func}(b4:p.P.funcs[ab]?=U b3){f:Operand}{ps:Array Tmp}{assign body:Code}{s:S}{k:XE->S->T}{L:cZ}{O:ac}{V:aj}{a:Act}{W:World}{Q:Exit->Act->World->Prop}
  (a8:D.rd=E){g:FuncId}{M:ai}{c:Code}{nt:Nat}(a9:s.ev o.gl f=.fn g M)(bb:o.inl g=U (c,nt,[]))
  (bJ:s.dV M=J)(a2:s.vI (Y s.pd)=E)(b5:SV.o8 (Y s.pd) M=E)(b6:iZ assign=E)(b7:iZ body=E)
  (h:(eR o n g c (Ii s nt M) (L7 (Y s.pd) ps.size λb8 s1 k1 ca=>eR o n ab assign (Bn s1 s ps.toList b8) iA (L6 (Y s.pd) λs2=>eR o n ab body (s2.FG (Y s.pd) .busy) iA (P4 (Y s.pd) s1 k1 ca))) (FF s k)).aT p O L)
  (R:az p.S0 p.w0 D o.ty V O s a W)(hg:et o.gl O)
  (HP:∀ch G C pd y,dE p.w0 D pd y G.defers C->p.R (.panicked ch) C->Q (.panic ch) G C)
  (hk:∀e X N B G C q,bG s O V X N B->cM s.au L q->az p.S0 p.w0 D o.ty B N X G C->(k e X).aT p N q->Q (e.to N B) G C):
  jG Z ab p.P (.rangeFunc f ps assign body) Q a W:=by
 obtain⟨ms,m1,m0,m2,m3⟩:=R.cP.l8;simp only[S.dV,aDc] at bJ;simp only[S.vI,aDW] at a2;obtain⟨rec,a3⟩:∃rec:Loop,rec={state:=.ready,pending:=Z,fn:=ab,tmps:=a.tmps,params:=ps,assign,body,defers:=W.heap.size}:=⟨_,rfl⟩;obtain⟨z,ap⟩:∃z,(W.alloc (.deferred (U []))).alloc (.loop rec)=z:=⟨_,rfl⟩;have cU:z.heap[W.heap.size+1]?=U (.loop rec):=by
  rw[<-ap];have:=World.alloc_heap_new (W.alloc (.deferred (U []))) (.loop rec);rwa [World.size_alloc] at this
 have cc:z.heap[W.heap.size]?=U (.deferred (U [])):=by
  rw[<-ap];exact(Below.heap_alloc _ _ _ (by simp)).trans (World.alloc_heap_new W _)
 have bd:Below W.heap.size W z:=by
  rw[<-ap];exact⟨rfl,rfl,rfl,by simp;omega,λk hk=>(Below.heap_alloc _ _ _ (by simp;omega)).trans (Below.heap_alloc _ _ _ hk)⟩
 have R1:=R.below bd;have cl:pR rec .ready=rec:=by rw[a3];rfl
 have cm:p.w0.heap.size<=W.heap.size:=R.mem.base.size;have bf:∀(n x:Nat)(j:Loop),D.dB[n]?=U (x,j)->x<W.heap.size:=by
  intro n x j hn;have a4:n<Y s.pd:=by rw[<-R.cP.len];exact(aDd.1 hn).1
  exact zG (R.cP.dB n x j s.pd[n] hn (aDe a4)).2.1
 have bg:dE p.w0 ⟨W.heap.size::(ms++D.out),D.dB++[(W.heap.size+1,rec)],E,[]⟩ (s.pd++[.ready]) (O.y++[W.heap.size+1]) [] z:=
  R1.cP.push m2 (λd w=>⟨(bd.block d (zG (m3 d w).1)).trans (m3 d w).1,(m3 d w).2⟩) cc (λhm=>by have:=zG (m3 _ hm).1;omega) cm (by rw[cl];exact cU) (λn x j hn e=>by have:=bf n x j hn;omega) (by omega)
 have bk:Y O.y=Y s.pd:=R.cP.qT;have a0:∀m,m≠Y s.pd->(O.y++[W.heap.size+1]).getD m 0=O.y.getD m 0:=by
  intro m hm;simp only[aDf];by_cases a4:m<Y O.y;rw[aDg a4];rw[aDk (by omega),aDy (l:=O.y) (by omega),aDy (by simp;omega)]
 have bl:∀(t:Nat)(sv:SV),s.tmps[t]?=U sv->sv=.any\/a.tmps[t]?=U (sv.den (O.at (O.y++[W.heap.size+1])) V):=by
  intro t sv ht;rcases R.tmps t sv ht with F|F;exact .inl F;right;rw[SV.MS a0 V sv (aiW a2.1 sv (aDx ht))];exact F
 have cp:az p.S0 p.w0 ⟨W.heap.size::(ms++D.out),D.dB++[(W.heap.size+1,rec)],E,[]⟩ o.ty V (O.at (O.y++[W.heap.size+1])) {s with pd:=s.pd++[.ready]} {a with defers:=[]} z:=
  ⟨R1.mem.at a0 a2.2,R1.fp,R1.ei,R1.eb,R1.er,bg,R1.size,bl,λk e rv b F h2 h3=>let t:=R1.dJ k e rv b F h2 h3;⟨t.own,t.mem,t.box,t.alone,t.inner⟩⟩
 have RE:=cp.enter (.yl (Y s.pd)::M) nt bg;have cs:SV.aD (O.at (O.y++[W.heap.size+1])) V (.yl (Y s.pd)::M)=.func (.yield (W.heap.size+1)) #[] #[]::SV.aD O V M:=by
  simp only[SV.aD,SV.den];rw[SV.I5 a0 V M b5];congr 3;simp only[ac.at];rw[<-bk];simp
 have ct:a.eval f=.func (.func g) #[] (SV.aD O V M).toArray:=by
  have:=cJ R hg f (by rw[a9];rfl);rw[a9,SV.den] at this;exact this
 have eg:=ok.BD g (.inr (by rw[bb];rfl));obtain⟨an,hf,cv,cx,bI⟩:=ok.inl g c nt [] bb;refine atH ⟨W.heap.size+1,[kD W.heap.size],z,{target:=.fn (.func g) (SV.aD O V M).toArray,args:= #[.func (.yield (W.heap.size+1)) #[] #[]]},z,g,
  #[.func (.yield (W.heap.size+1)) #[] #[]]++(SV.aD O V M).toArray,z, ?_, ?_, ?_, ?_⟩
 rw[<-ap,a3];exact run_enterLoop_outer _ _ _ _ _
 ·simp only[resolve,ct];simp[go_sem]
 ·simp[invoke,go_sem,eg]
 have cy:(#[.func (.yield (W.heap.size+1)) #[] #[]]++(SV.aD O V M).toArray:jk)=(SV.aD (O.at (O.y++[W.heap.size+1])) V (.yl (Y s.pd)::M)).toArray:=by
  rw[cs];simp
 rw[cy];refine MP hf cv ?_;rw[cx];have bo:([kD W.heap.size]++a.defers:zE)=(W.heap.size::ms).map kD++D.base:=by rw[m1];rfl
 have br:(D.dB++[(W.heap.size+1,rec)])[Y s.pd]?=U (W.heap.size+1,rec):=by rw[<-R.cP.len];simp
 refine ih ⟨W.heap.size::(ms++D.out),D.dB++[(W.heap.size+1,rec)],E,[]⟩ ⟨Ii s nt M,O.at (O.y++[W.heap.size+1]),V,L⟩ _ Z g c (Ii s nt M) (FF s k) L _ V _ z _
  (auk ok ih b4 (a:=a) (s:=s) (sE:=Ii s nt M) (L:=L) (ps:=ps) (O:=O.at (O.y++[W.heap.size+1])) (V:=V) rfl (R.xD bJ.1).1 R.size bl b6 b7 (by rw[a3]) br) (kE.here _ _ _ _) rfl (λhh=>by cases hh) ⟨an,hf⟩ (q8 p _ O L _ h) RE hg ?_ ?_
 intro ch G C pd y hA hR;obtain⟨cA,q1,q0,q2,q3⟩:=hA.l8;rw[q1] at hA;have al:=(hA.pX).pop a8;show LeavesInM Fence.wide 0 p.P an G.tmps _ G.defers (.panicking ch) C;rw[q1];refine sx (by simp) (aEi.1 q2).1 (λd w=>(q3 d (by simp[w])).1) ?_;exact HP ch _ _ _ _ (by rw[<-bo] at al;exact al) (MT (ok.QR ch) (λd w=>(q3 d (by simp[w])).2) hR);intro e X N B G C q u hL RR H;obtain⟨cA,q1,q0,q2,q3⟩:=RR.cP.l8;have A:=RR.pX q1;have al:=A.cP.pop a8;have bs:N.y=O.y++[W.heap.size+1]:=u.ext.agree.y;have cB:N.y.take (Y D.dB)=O.y:=by rw[bs,R.cP.len,<-bk];simp
 rw[cB,<-bo,R.cP.len] at al;have bt:∀m,m≠Y s.pd->O.y.getD m 0=N.y.getD m 0:=λm hm=>by rw[bs];exact(a0 m hm).symm
 have a5:bG s O V (s.Bm X) (N.at O.y) B:=⟨⟨⟨u.ext.agree.i,u.ext.agree.b,u.ext.agree.r,rfl⟩,u.ext.li,u.ext.lb,u.ext.lr,u.ext.ad⟩,u.mono,u.len,u.au⟩;have bx:∀(W3:World),jD p.S0 p.w0 B N X.boxes o.ty X.rs W3->(∀(k:Nat)(e:TypeId)(rv:RV)(b:Nat),X.rs[k]?=U (.own e)->N.r[k]?=U rv->rv.jS=U b->xB p.S0 p.w0 B N X.boxes o.ty X.rs W3 k e rv b)->vJ (Y s.pd) X.boxes=E->
   dE p.w0 D (X.pd.take (Y s.pd)) O.y ([kD W.heap.size]++a.defers) W3->az p.S0 p.w0 D o.ty B (N.at O.y) (s.Bm X) {a with defers:=[kD W.heap.size]++a.defers} W3:=by
  intro W3 hm ht hb cC;refine⟨hm.at bt hb,A.fp,A.ei,A.eb,A.er,cC,R.size,λt sv h=> ?_,λk e rv b F h2 h3=>let t:=ht k e rv b F h2 h3;⟨t.own,t.mem,t.box,t.alone,t.inner⟩⟩;rcases R.tmps t sv h with F|F;exact .inl F;right;rw[a5.ext.den (uh (R.xD bJ.1).1 h)];exact F
 have b0:Y s.pd<Y X.pd:=by
  have:=A.cP.len;simp only[aDs,aD4,aFm] at this;rw[R.cP.len] at this;omega
 obtain⟨u1,u2,u3⟩:=A.cP.dB (Y s.pd) (W.heap.size+1) rec X.pd[Y s.pd] br (aDe b0);have a6:∀(st:E8)(e:XE)(a1:Option Code),X.pd[Y s.pd]?=U st->(pR rec st).state≠ .busy->(pR rec st).pending=a1->vJ (Y s.pd) X.boxes=E->(k e (s.Bm X)).aT p N q->
   (∀W4,Q (e.to (N.at O.y) B) {a with defers:=[kD W.heap.size]++a.defers} W4->(match a1 with|none=>Q .normal {a with defers:=[kD W.heap.size]++a.defers} W4|U c=>jG Z ab p.P c Q {a with defers:=[kD W.heap.size]++a.defers} W4))->
   LeavesInM Fence.wide 0 p.P an G.tmps (Zw Z ab p.P (W.heap.size+1) Q {a with defers:=[kD W.heap.size]++a.defers}) G.defers .returning C:=by
  intro st e a1 af cD hj ag cI hq;rw[q1];refine sx (by simp) (aEi.1 q2).1 (λd w=>(q3 d (by simp[w])).1) ⟨_,ME A ok.ln (l:=[]) (by rw[bI];rfl), ?_⟩;have cO:X.pd[Y s.pd]=st:=by
   rw[aDe b0] at af;simpa using af
  rw[cO] at u2;have b1:=run_endLoop (P:=p.P) u2 cD;rw[hj] at b1;refine⟨a1,_,b1,hq _ ?_⟩;have cW:∀(n x:Nat)(j:Loop),D.dB[n]?=U (x,j)->x≠W.heap.size+1:=λn x j hn e=>by have:=bf n x j hn;omega
  refine hk e (s.Bm X) (N.at O.y) B _ _ q a5 hL (bx _ (A.mem.obj u2 rfl u3 _) (λk e rv b F h2 h3=>(A.dJ k e rv b F h2 h3).obj u2 rfl _) ag (al.put u2 cW _)) (q8 p _ N q _ cI)
 have b2:(FF s k .ret X).aT p N q->LeavesInM Fence.wide 0 p.P an G.tmps (Zw Z ab p.P (W.heap.size+1) Q {a with defers:=[kD W.heap.size]++a.defers}) G.defers .returning C:=by
  intro H;simp only[FF] at H;split at H;exact H.elim;rename_i ag;have a7:vJ (Y s.pd) X.boxes=false:=by simpa using ag
  split at H;rename_i af;exact a6 .ready .normal Z af (by simp[pR]) rfl a7 H (λ_ h=>h)
  ·rename_i af;exact a6 (.done .ret) .ret (U .ret) af (by simp[pR]) rfl a7 H (λ_ h=>BO (n:=0) (wpIn_ret h))
  ·rename_i id af;exact a6 (.done (.exit id)) (.exit id) (U (.exit id)) af (by simp[pR]) rfl a7 H (λ_ h=>BO (n:=0) (wpIn_exit h))
  exact H.elim
 cases e with
 |normal=>exact b2 H
 |ret=>exact b2 H
 |exit id=>exact H.elim
 |bj v=>
  simp only[FF] at H;split at H;exact H.elim;rename_i ag;simp only[aDE,not_or,aGj] at ag;show LeavesInM Fence.wide 0 p.P an G.tmps _ G.defers (.panicking _) C;rw[q1];refine sx (by simp) (aEi.1 q2).1 (λd w=>(q3 d (by simp[w])).1) ?_;have:=hk (.bj v) (s.Bm X) (N.at O.y) B _ _ q a5 hL (bx _ A.mem A.dJ ag.2 al) (q8 p _ N q _ H);simp only[XE.to] at this;rw[SV.MS bt B v ag.1] at this;exact this
end
section
variable{d:bB}{p:Sp}{L:cZ}{V:aj}{W:World}
def Up(O X:ac):Prop:=∃l,X={O with r:=O.r++l}
def Up.refl(O:ac):Up O O:=⟨[],by simp⟩
def Up.trans{X R:ac}(h:Up F X)(k:Up X R):Up F R:=by
 obtain⟨l,rfl⟩:=h;obtain⟨m,rfl⟩:=k;exact⟨l++m,by simp⟩
def Up.agree{X:ac}(h:Up F X):gI F X (Y F.i) (Y F.b) (Y F.r):=by
 obtain⟨l,rfl⟩:=h;have:∀(l:aF)(F:ac),F.ext (l.map XV.r)={F with r:=F.r++l}:=by
  intro l;induction l with
  |nil=>intro F;simp[ac.ext]
  |cons x Q R=>intro F;simp only[aDt,ac.ext,R,ac.add];simp
 rw[<-this l F];exact Da _ _
def sR(O:ac)(X:aE)(R:rW):S:=⟨[],[],Y O.i,Y O.b,X,0,0,R⟩
def MZ(X:aE):Prop:=∀(k:Nat)(e:TypeId),X[k]?≠U (RK.own e)
def ajl(p:Sp)(d:bB)(D:bR)(a:Act)(W:World)(L:cZ)(V:aj)(G:bA)(N:rW)(X:ac)(v:SV)(f:aE->(SV->aE->T)->T):Prop:=
 ∀(Q:aE)(O:ac)(k:SV->aE->T),az p.S0 p.w0 D d.ty [] O (sR O Q N) a W->Up X O->MZ Q->v.bd (Y X.i) (Y X.b) (Y X.r) (aM G)=J->(f Q k).aT p O L->
  ∃M P R,az p.S0 p.w0 D d.ty [] R (sR R P N) a W/\Up O R/\MZ P/\(∀H,Up R H->M.den H []=v.den X V)/\(k M P).aT p R L
def Rl{D:bR}{a:Act}{B:bA}{M:rW}{Q:ac}{f:SV->aE->(SV->aE->T)->T}(A:∀v,ajl p d D a W L V B M Q v (f v)):∀(l:ai)(X:aE)(O:ac)(k:ai->aE->T),az p.S0 p.w0 D d.ty [] O (sR O X M) a W->Up Q O->MZ X->SV.db (Y Q.i) (Y Q.b) (Y Q.r) (aM B) l=J->(Ik f l X k).aT p O L->
  ∃z H P,az p.S0 p.w0 D d.ty [] P (sR P H M) a W/\Up O P/\MZ H/\(∀N,Up P N->SV.aD N [] z=SV.aD Q V l)/\(k z H).aT p P L
 |[],X,O,k,R,G,F,_,h=>⟨[],X,O,R,Up.refl O,F,λ_ _=>rfl,h⟩
 |x::t,X,O,k,R,G,F,C,h=>by
  rw[SV.gz.2,aDc] at C;simp only[Ik] at h;obtain⟨s,q,o,n,y,m,j,g⟩:=A x X O _ R G F C.1 h;obtain⟨e,c,O2,R2,w,n2,d2,h2⟩:=Rl A t q o _ n (G.trans y) m C.2 g;exact⟨s::e,c,O2,R2,y.trans w,n2,λN u=>by simp only[SV.aD,j N (w.trans u),d2 N u],h2⟩
def ZM(ap:p.ty=d.ty){D:bR}{a:Act}{bx:bA}{pd:rW}{O0:ac}(ha:a.tmps= #[])(a1:∀i e G,kA bx i=U (e,G)->W.heap[ad V i]?=U (.cells (SV.aD O0 V G).toArray e (0,0))/\(p.w0.heap.size<=ad V i\/ad V i∈p.S0)/\SV.db (Y O0.i) (Y O0.b) (Y O0.r) (aM bx) G=J):
  ∀(n:Nat)(v:SV),ajl p d D a W L V bx pd O0 v (Il d bx n v)
 |0,v=>λy O k R x w N h=>h.elim
 |n+1,v=>by
  intro y O k R x w N h;cases v with
  |int q e=>
   refine⟨_,y,O,R,Up.refl O,w,λg M=> ?_,h⟩;rw[SV.ba.1] at N;simp only[SV.den,IE.dj (x.trans M).agree e N]
  |bool e=>
   refine⟨_,y,O,R,Up.refl O,w,λg M=> ?_,h⟩;rw[SV.ba.2.1] at N;simp only[SV.den,BE.dj (x.trans M).agree e N]
  |ref r=>
   refine⟨_,y,O,R,Up.refl O,w,λg M=> ?_,h⟩;rw[SV.ba.2.2.1] at N;simp only[SV.den,RE.dj (x.trans M).agree r N]
  |agg l=>
   rw[SV.ba.2.2.2.2.2.2.1] at N;simp only[Il] at h;obtain⟨l',a6,O',R',u',n',d',h'⟩:=Rl (ZM ap ha a1 n) l y O _ R x w N h;exact⟨.agg l',a6,O',R',u',n',λg M=>by simp only[SV.den,d' g M],h'⟩
  |gM i bg f ab=>
   simp only[Il] at h;split at h;rename_i e G a7;obtain⟨g1,g2,g3⟩:=a1 i e G a7;split at h;rename_i te a8;obtain⟨af,Q,H,C,u1,n1,d1,h1⟩:=Rl (ZM ap ha a1 n) G y O _ R x w g3 h;split at h1;rename_i hc;simp only[aDc,beq_iff_eq,decide_eq_true_eq,bne_iff_ne,ne_eq] at hc;obtain⟨⟨⟨⟨c1,c2⟩,c3⟩,c4⟩,c5⟩:=hc;subst c3;have hw:bw d.ty (.sl e)=te.ae:=by simp[bw,a8]
   have a2:lX d.ty (sR H Q pd) (bw d.ty (.sl e)) (iH (Y te.ae) f af)=true:=by
    rw[hw,<-c1];exact Dn (s:=sR H Q pd) (s':=S.cj Q) rfl
   have a3:=YD C a2;obtain⟨P,B⟩:∃P,P=(iH (Y te.ae) f af).map λal=>al.map (SV.bN H):=⟨_,rfl⟩
   rw[<-B] at a3;have hN:Y P=f:=by rw[B];simp[Qu]
   have a9:SV.aD H [] af=SV.aD O0 V G:=d1 H (Up.refl _);have hH:bz W d.ty (.sl e) (.mk (.slice (U ⟨ad V i,0,Z⟩) (Y P) ab) P):=by
    refine Yv a3 ⟨_,_,_,g1⟩ (λq u hq=> ?_) (by rw[hN];exact c4);rw[B] at hq;have a4:=YE (V:=[]) (by rw[hw]) a2 (λi al o=>by rw[<-B] at o;rw[a3.len i al o,hw]) hq;rw[a9] at a4;simp[World.cell?,g1,a4]
   have bb:FL p.ty p.S0 p.w0 e (.lit (iH (Y te.ae) f af)) Q H (.mk (.slice (U ⟨ad V i,0,Z⟩) (Y P) ab) P):=by
    refine⟨⟨U ⟨ad V i,0,Z⟩,Y P,ab,by rw[B];rfl,by rw[B];rfl⟩,λb hl=> ?_,λ_ _ _ _ h=>by cases h⟩;rw[ap] at hl⊢;generalize a5:RV.mk (.slice (U ⟨ad V i,0,Z⟩) (Y P) ab) P=rv at hl;cases hl with
    |here e a0 bk bl bd=>
     injection a5 with p1 p2;injection p1 with p3 p4 p5;cases p3;exact g2.imp id .inl
    |deep e v bd i j al c z k b m q2 q3 q4=>
     injection a5 with p1 p2;subst p2;rw[B,aDj] at m;cases o:(iH (Y te.ae) f af)[i]? with
     |none=>rw[o] at m;cases m
     |some bf=>
      rw[o] at m;simp only[aDn,aDh] at m;subst m;obtain⟨r,X,F,k3,k4⟩:=Yy (Df a2 i bf o) q2 q3 q4;exact .inr (.inr (IF C k3 F k4).1)
   have hs:=h1 _ bb;refine⟨.ref (.v (Y Q)),Q++[.sl e],H.add (.r (.mk (.slice (U ⟨ad V i,0,Z⟩) (Y P) ab) P)), ?_,u1.trans ⟨[_],rfl⟩, ?_, ?_,hs⟩;have an:Y H.r=Y Q:=C.er;refine⟨⟨C.mem.base,λi A=>by simp[sR,aM,cK] at A,λi j A=>by simp[sR,aM,cK] at A,λi t G A=>by simp[sR,cK] at A,λk e' rv X F=> ?_⟩,rfl,rfl,rfl,by simp[sR,ac.add,an],C.cP,by rw[ha];rfl,λt sv ht=>by simp[sR] at ht,λk e' rv b X=> ?_⟩;refine⟨?_,λb N i A=>by simp[sR,aM,cK] at A⟩;simp only[sR,ac.add] at X F;by_cases hk:k<Y Q;rw[aDg hk] at X;rw[aDg (by omega)] at F;exact(C.mem.ref k e' rv X F).1;have ag:k=Y Q:=by
    have:=(aDd.1 X).1;simp at this;omega
   subst ag;simp at X;rw[<-an] at F;simp at F;subst X F;exact hH;exfalso;simp only[sR] at X;by_cases hk:k<Y Q;rw[aDg hk] at X;exact n1 _ _ X;have:=(aDd.1 X).1;have ag:k=Y Q:=by simp at this;omega
   subst ag;simp at X;intro k e' X;by_cases hk:k<Y Q;rw[aDg hk] at X;exact n1 _ _ X;have:=(aDd.1 X).1;have ag:k=Y Q:=by simp at this;omega
   subst ag;simp at X;intro g M;obtain⟨l,rfl⟩:=M;have an:Y H.r=Y Q:=C.er;simp only[SV.den,RE.den,RE.rv,ac.rv,ac.add,aDf,aD5];rw[<-an,aDk (aDm _)];simp[hN];exact h1.elim;exact h.elim;exact h.elim
  |loc _ _=>exact h.elim
  |el _ _ _ _=>exact h.elim
  |bK _=>exact h.elim
  |fn _ _=>exact h.elim
  |eP _ _=>exact h.elim
  |yl _=>exact h.elim
  |any=>exact h.elim
  |mp _=>exact h.elim
  |eQ _ _ _=>exact h.elim
end
section
variable{cf:bB}
section
variable{o:aj}{q:World}{D:bR}{V:aj}{O:ac}{s:S}{a:Act}{W:World}
def ZN{k:Int}:∀{R:bh}{Q:ai}{v:SV},FH k R Q=U v->v.f8 O V=.mk (jC k R (SV.aD O V Q)) []
 |[],_,v,h=>by simp[FH] at h
 |F::R,[],v,h=>by simp[FH] at h
 |F::R,u::Q,v,h=>by
  unfold FH at h;split at h;rename_i P N;injection P with M L;injection N with H G;subst M L H G;simp only[SV.aD,jC];split at h;rename_i X;cases h;rw[if_pos X];rfl;rename_i X;rw[if_neg X];exact ZN h;rename_i P N;injection P with M L;injection N with H G;subst M L H G;simp only[SV.aD,jC];split at h;rename_i X;cases h;rw[if_pos X];rfl;rename_i X;rw[if_neg X];exact ZN h;cases h
def ajm{x:Int}:∀{X:bh}{R:eJ},¬x∈X->jC x X R=.nilFunc
 |[],_,_=>rfl
 |k::X,[],_=>rfl
 |k::X,v::R,h=>by
  simp only[aDp,not_or] at h;simp only[jC,if_neg h.1];exact ajm h.2
def ZO{e:IE}{k:Int}(X:e.den O=k):∀(n:Nat)(b:BE),(L8 e k n b).den O=b.den O
 |0,b=>rfl
 |n+1,b=>by
  unfold L8;split;rfl;rename_i P N M x y R;cases R;split;rename_i Q;have:=IE.bL _ _ Q;subst this;simp only[BE.den,IE.den,fQ,X,beq_iff_eq];split;exact ZO X n x;exact ZO X n y;rfl;rfl
def ZP{e:IE}{k:Int}(X:e.den O=k):∀(n:Nat)(b:IE),(L9 e k n b).den O=b.den O
 |0,b=>rfl
 |n+1,b=>by
  unfold L9;split;rfl;rename_i P N M x y R;cases R;split;rename_i Q;have:=IE.bL _ _ Q;subst this;simp only[BE.den,IE.den,fQ,X,beq_iff_eq];split;exact ZP X n x;exact ZP X n y;rfl;rfl
def aum{e:IE}{k:Int}(X:e.den O=k)(v:SV):(X3 e k v).f8 O V=v.f8 O V:=by
 cases v<;>simp only[X3];simp only[SV.f8,SV.den,ZP X];simp only[SV.f8,SV.den,ZO X];rename_i P N M;split;rename_i R;have:=IE.bL _ _ R;subst this;split;rename_i v Q;rw[ZN Q];simp only[SV.f8,SV.den,X];rfl;rfl
def aun{e:IE}{R:bh}(Q:¬e.den O∈R)(v:SV):(P6 e R v).f8 O V=v.f8 O V:=by
 cases v<;>simp only[P6];rename_i L P H;split;rename_i X;rw[aDc] at X;have:=IE.bL _ _ X.1;subst this;have N:¬e.den O∈P:=λM=>Q (by
  have:=aDr.1 X.2 _ M;exact aDN.1 this)
 simp only[SV.f8,SV.den,ajm N];rfl;rfl
def ZQ{f:SV->SV}:bX (FI f g) N=U (t,y)<->∃jF,bX g N=U (t,jF)/\y=jF.map f:=by
 rw[i5];simp only[FI,aDj];constructor;intro h;cases R:g[N]? with
 |none=>rw[R] at h;cases h
 |some x=>
  rw[R] at h;cases x with
  |none=>cases h
  |some X=>
   simp only[aDn,aDh,aEX] at h;obtain⟨rfl,rfl⟩:=h;exact⟨X.2,i5.2 R,rfl⟩
 rintro⟨jF,h,rfl⟩;rw[i5] at h;rw[h];rfl
def ajn{f:SV->SV}:aM (FI f g) N=aM g N:=by
 rw[aEk];simp only[aM,aDw];constructor;rintro⟨⟨t,X⟩,h⟩;obtain⟨jF,h,-⟩:=ZQ.1 h;exact⟨_,h⟩;rintro⟨⟨t,X⟩,h⟩;exact⟨_,ZQ.2 ⟨X,h,rfl⟩⟩
def az.fix(R:az o q D cf.ty V O s a W){f:SV->SV}(H:∀v,(f v).f8 O V=v.f8 O V):az o q D cf.ty V O (s.fix f) a W:=by
 have Q:∀j,aM (s.fix f).boxes j=aM s.boxes j:=λj=>ajn
 refine⟨⟨R.mem.base,λj X=>R.mem.own j (by rw[<-Q];exact X),λj k X G=>R.mem.inj j k (by rw[<-Q];exact X) (by rw[<-Q];exact G),λj t x L=> ?_,λk e P N M=>⟨(R.mem.ref k e P N M).1,λb L j X=>(R.mem.ref k e P N M).2 b L j (by rw[<-Q];exact X)⟩⟩,by rw[R.fp];simp[S.fix,FI],R.ei,R.eb,R.er,R.cP,R.size,R.tmps,λk e P b F C B=> ?_⟩;obtain⟨jF,h,rfl⟩:=ZQ.1 L;have:SV.cN O V (jF.map f)=SV.cN O V jF:=by
  simp only[SV.cN,aD7];exact aDC λv _=>H v
 rw[this];exact R.mem.box j t jF h;obtain⟨N,M,A,z,y⟩:=R.dJ k e P b F C B;exact⟨N,M,λj X=>A j (by rw[<-Q];exact X),z,y⟩
def ajo(f:SV->SV):bG s O V (s.fix f) O V:=⟨mb.refl _ _ _,λi h=>by rw[show aM (s.fix f).boxes i=aM s.boxes i from ajn];exact h,by simp[S.fix,FI],aDm _⟩
def az.auo(R:az o q D cf.ty V O s a W){k:IntKind}{e:IE}{v:Int}(Q:s.tmps.getD N .any=.int k e)(M:e.den O=v):az o q D cf.ty V O {s with tmps:=s.tmps.set N (.int k (.c v))} a W:=by
 refine⟨R.mem,R.fp,R.ei,R.eb,R.er,R.cP,by simpa using R.size,λi L h=> ?_,R.dJ⟩;simp only[aD9] at h;split at h;rename_i H;subst H;split at h;rename_i P;cases h;have G:s.tmps[N]?=U (.int k e):=by
  rw[aDf,aDe P] at Q;rw[aDe P];simpa using Q
 rcases R.tmps N _ G with X|X;cases X;right;rw[X];simp only[SV.den,IE.den,M];cases h;exact R.tmps i L h
def ZR{p:Sp}{L:cZ}{e:IE}{fA:Int->S}{aH:T}{g:S->T}:∀{X:bh},(Ij e fA aH g X).aT p O L->(∃k∈X,e.den O=k/\(g (fA k)).aT p O L)\/(¬e.den O∈X/\aH.aT p O L)
 |[],h=>.inr ⟨by simp,h⟩
 |k::X,h=>by
  simp only[Ij,T.aT] at h;by_cases R:e.den O=k;exact .inl ⟨k,by simp,R,h.1 (by simp[BE.den,IE.den,fQ,R])⟩;rcases ZR (h.2 (by simp[BE.den,IE.den,fQ,R])) with⟨N,Q,P⟩|⟨Q,P⟩;exact .inl ⟨N,by simp[Q],P⟩;exact .inr ⟨by simp[R,Q],P⟩
def aup{p:Sp}(R:az o q D cf.ty V O s a W){id:Nat}{e:IE}{G:bh}{fA:Int->S}{aH:Option S}(X:P7 cf N id s=U (e,G,fA,aH)){g:S->T}(h:(Ij e fA (X4 g aH) g G).aT p O f):
  ∃P,bG s O V P O V/\P.au=s.au/\az o q D cf.ty V O P a W/\(g P).aT p O f:=by
 unfold P7 at X;split at X;split at X;cases X;rcases ZR h with⟨k,M,Q,H⟩|⟨M,Q⟩;exact⟨_,ajo _,rfl,R.fix (aum Q),H⟩;split at Q;exact⟨_,ajo _,rfl,R.fix (aun M),Q⟩;exact Q.elim;cases X;split at X;cases X;rename_i k C B F;cases X;rw[vx] at F;rcases ZR h with⟨k,M,Q,H⟩|⟨M,Q⟩;refine⟨_, ?_, ?_,R.auo F Q,H⟩;exact⟨mb.refl _ _ _,λ_ h=>h,aDm _,aDm _⟩;rfl;exact Q.elim;cases X;cases X
end
def Rm:∀(n:Nat)(p:Sp)(_:kG p cf),xO p cf n/\Ra p cf n
 |0,p,ok=>⟨λD B yh ro ag c s k L O V a W Q _ _ _ _ _ h=>h.elim,λD B yh ro ag c s k L O V a W Q _ _ _ _ _ _ h=>h.elim⟩
 |n+1,p,ok=>by
  have b1:=(Rm n p ok).2;have ih:=(Rm n p ok).1;have b2:∀p':Sp,p'.P=p.P->kG p' cf->xO p' cf n:=λp' _ b3=>(Rm n p' b3).1
  have bo:=atQ ih b1;refine⟨?_,bo⟩;intro D B yh ro ag c s k L O V a W Q hY hB al a3 ap h R hg HP r;have a4:∀e F,cM s.au L F->(k e s).aT p O F->Q (e.to O V) a W:=λe F A C=>r e s O V a W F (bG.refl _ _ _) A R C
  have h0:=h;unfold eR at h;split at h;exact BO (n:=0) (wpIn_skip (a4 .normal L (cM.refl _ _) h));exact BO (n:=0) (wpIn_label (a4 .normal L (cM.refl _ _) h));exact BO (n:=0) (wpIn_ret (a4 .ret L (cM.refl _ _) h));rename_i id;exact BO (n:=0) (wpIn_exit (a4 (.exit id) L (cM.refl _ _) h))
  
  rename_i x y;have a5:ro.isSome=J->iZ x=false:=λhr=>by have:=a3 hr;simp only[iZ,aDW] at this;exact this.1
  have a6:ro.isSome=J->iZ y=false:=λhr=>by have:=a3 hr;simp only[iZ,aDW] at this;exact this.2
  refine Zv (ih D B yh ro ag x s _ L O V a W _ hY hB al a5 ap h R hg (λch M H pd y hd hR=>HP ch M H pd y hd hR) ?_);intro e w d V' M H F G A u C;cases e with
  |normal=>exact ih D B yh ro ag y w k F d V' M H Q hY (hB.go G A) al a6 ap C u (hg.ext G.ext) HP (λe2 s2 O2 V2 a2 W2 L2 af a0 R2 ab=>r e2 s2 O2 V2 a2 W2 L2 (G.trans af) (A.trans a0 G.au) R2 ab)
  |ret=>exact r .ret w d V' M H F G A u C
  |exit id=>exact r (.exit id) w d V' M H F G A u C
  |bj v=>exact r (.bj v) w d V' M H F G A u C
  
  rename_i id x;refine atE (ih D B yh ro ag x s _ L O V a W _ hY hB al (λhr=>by have:=a3 hr;simpa only[iZ] using this) ap h R hg (λch M H pd y hd hR=>HP ch M H pd y hd hR) ?_);intro e w d V' M H F G A u C;cases e with
  |normal=>exact r .normal w d V' M H F G A u C
  |ret=>exact r .ret w d V' M H F G A u C
  |exit j=>
   simp only[XS] at C;split at C;rename_i hj;have a8:j=id:=by simpa using hj
   subst a8;simp only[XE.to,Exit.inBlock,if_true];exact r .normal w d V' M H F G A u C;rename_i hj;have a8:¬j=id:=by simpa using hj
   simp only[XE.to,Exit.inBlock,a8,if_false];exact r (.exit j) w d V' M H F G A u C
  |bj v=>exact r (.bj v) w d V' M H F G A u C
  
  rename_i x;refine atF (ih D B yh ro ag x s _ L O V a W _ hY hB al (λhr=>by have:=a3 hr;simpa only[iZ] using this) ap h R hg (λch M H pd y hd hR=>⟨λl h=>by(cases h),HP ch M H pd y hd hR⟩) ?_);intro e w d V' M H F G A u C;exact⟨λl h=>(by cases e<;>cases h),r e w d V' M H F G A u C⟩
  
  rename_i x y z;have a6:ro.isSome=J->iZ y=false:=λhr=>by have:=a3 hr;simp only[iZ,aDW] at this;exact this.1
  have br:ro.isSome=J->iZ z=false:=λhr=>by have:=a3 hr;simp only[iZ,aDW] at this;exact this.2
  split at h;rename_i hc;have he:=cJ R hg x (by rw[hc];rfl);rw[hc] at he;exact Q7 (t:=J) (by simpa[SV.den,BE.den] using he) (ih D B yh ro ag y s k L O V a W Q hY hB al a6 ap h R hg HP r);rename_i hc;have he:=cJ R hg x (by rw[hc];rfl);rw[hc] at he;exact Q7 (t:=E) (by simpa[SV.den,BE.den] using he) (ih D B yh ro ag z s k L O V a W Q hY hB al br ap h R hg HP r);rename_i b dn dr hc;have he:=cJ R hg x (by rw[hc];rfl);rw[hc] at he;split at h;rename_i t;simp only[S.ev,vx] at hc;simp only[T.aT] at h;have bs:∀v,B.pW {s with tmps:=s.tmps.set t v} O V L:=λv=>⟨⟨hB.later.ext,hB.later.mono,hB.later.len,hB.later.au⟩,hB.QF⟩
  cases hv:b.den O;refine Q7 (t:=E) (by simpa[SV.den,hv] using he) (ih D B yh ro ag z _ k L O V a W Q hY (bs _) al br ap (h.2 hv) (R.aij hc hv) hg HP ?_);exact λe2 s2 O2 V2 a2 W2 L2 af a0 R2 ab=>r e2 s2 O2 V2 a2 W2 L2 ⟨af.ext,af.mono,af.len,af.au⟩ a0 R2 ab
  refine Q7 (t:=J) (by simpa[SV.den,hv] using he) (ih D B yh ro ag y _ k L O V a W Q hY (bs _) al a6 ap (h.1 hv) (R.aij hc hv) hg HP ?_);exact λe2 s2 O2 V2 a2 W2 L2 af a0 R2 ab=>r e2 s2 O2 V2 a2 W2 L2 ⟨af.ext,af.mono,af.len,af.au⟩ a0 R2 ab
  exact h.elim;exact h.elim
  
  rename_i id a9 b4;split at h;rename_i e ks fA aH hf;obtain⟨w,G,bb,u,h'⟩:=aup R hf h;exact ih D B yh ro ag _ w k L O V a W Q hY (hB.go G (cM.refl _ _)) al a3 ap h' u hg HP (λe2 s2 O2 V2 a2 W2 L2 af a0 R2 ab=>r e2 s2 O2 V2 a2 W2 L2 (G.trans af) (bb▸a0) R2 ab);refine BO (n:=0) ?_;split at h;rename_i hd;subst hd;split at h;rename_i c bd;exact ajk (BN ro) ok ih hY HP hB bd h R hg (λw d V' M H F G A u C=>r .normal w d V' M H F G A u C) (λv w d V' M H F G A u C=>r (.bj v) w d V' M H F G A u C);split at h;rename_i om b5;split at h;exact h.elim;rename_i b6;exact atP (BN ro) ok (atZ b2 ok) hY HP hB b5 (by simpa using b6) (atY _ _ _) h R hg (λw d V' M H F G A u C=>r .normal w d V' M H F G A u C) (λv w d V' M H F G A u C=>r (.bj v) w d V' M H F G A u C);split at h;rename_i c bd;exact ajk (BN ro) ok ih hY HP hB bd h R hg (λw d V' M H F G A u C=>r .normal w d V' M H F G A u C) (λv w d V' M H F G A u C=>r (.bj v) w d V' M H F G A u C);exact h.elim;rename_i hd;have b7:b4=false:=by simpa using hd
  subst b7;obtain⟨Rr,bf⟩:=R.room (lG a9.toList);refine wpIn_region ?_;have:=BB (ops:=a9) ok.pt ok.zp (BN ro) ok.ln (atS _ ok (Rc ok ih hY)) HP (n:=0) (fH (λ_=>E) J E 0 (Y s.boxes) a9.toList) 0 _ [] L O _ a W (λi m' hi=>by have:=MU _ _ _ _ _ _ _ _ hi;simpa using this) (hB.go bf (cM.refl _ _)) h (λx hx=>by cases hx) Rr hg
   (λw d V' M H F G A u C=>r .normal w d V' M H F (bf.trans G) A u C)
   (λv w d V' M H F G A u C=>r (.bj v) w d V' M H F (bf.trans G) A u C)
  rw[ZA] at this;simpa[aE9] using this
  
  rename_i x;have a5:ro.isSome=J->iZ x=false:=λhr=>by have:=a3 hr;simpa only[iZ] using this
  split at h;rename_i b8 ds;obtain⟨an,ca⟩:∃an,an=b8.at s:=⟨_,rfl⟩;rw[<-ca] at h;split at h;exact h.elim;rename_i hc;simp only[aDE,aDv,not_or,aEM] at hc;obtain⟨⟨⟨⟨⟨bJ,cc⟩,cl⟩,cm⟩,cp⟩,cs⟩:=hc;simp only[T.aT] at h;obtain⟨X,μ,ct,cv⟩:=h;refine atG (λN a1 W1=>∃s1 O1 V1,bG s O V s1 O1 V1/\az p.S0 p.w0 D cf.ty V1 O1 s1 a1 W1/\xt an (Code.mQ x) 0 s.tmps s1.tmps=J/\qO an 0 s.boxes s1.boxes=J/\qP s1 an.ks (jA an s1)=J/\xq (gW an s) s1.rs=J/\Fw (gW an s) (Fv an s1)=J/\s1.pd=s.pd/\X ((jA an s1).map (SV.xv O1))/\μ ((jA an s1).map (SV.xv O1))=N)
   (μ ((jA an s).map (SV.xv O))) ⟨s,O,V,bG.refl _ _ _,R,cl,cm,cc,cp,cs,rfl,ct,rfl⟩ ?_
  rintro N a1 W1 ⟨s1,O1,V1,cU,R1,hT,cx,bt,cy,cA,cB,hI,rfl⟩;have RH:=az.head (ty:=cf.ty) bJ R.ei R.eb R.er cU R1 hT cx bt cy cA cB;have cC:=cv _ (Y6 (O1:=O1) bt) hI;have bb:(o7 an (Code.mQ x) s).au=s.au+1:=(vO an.ks {s with au:=s.au+1,rs:=gW an s}).2.2.1;have bg:bG s O V (o7 an (Code.mQ x) s) (O.ext ((jA an s1).map (SV.xv O1))) (V1.take (Y s.boxes)):=by
   obtain⟨e1,e2,e3,e4⟩:=vO an.ks {s with au:=s.au+1,rs:=gW an s};have hE:=Bu s.boxes O ((jA an s1).map (SV.xv O1)) V;refine⟨⟨hE.agree,hE.li,hE.lb,hE.lr,λk bx=> ?_⟩,λi hi=> ?_,by simp[o7,QO], ?_⟩;have bk:k<Y s.boxes:=by
    obtain⟨b,hb⟩:=aDw.1 bx;exact(aDd.1 (i5.1 hb)).1
   rw[BC bk];exact cU.ext.ad k bx;unfold aM at hi⊢;simp only[o7];rw[MG];simpa using hi;simp only[o7];rw[e3];exact Nat.le_succ _
  have cD:∀m,cM s.au L (⟨s.au,X,μ,m⟩::L):=λm l bk=>by
   simp only[mI];rw[if_neg (by omega)]
  refine ih D B yh ro ag x _ _ _ _ _ a1 W1 _ hY (hB.go bg (cD _)) al a5 ap cC RH (hg.ext bg.ext) (λch M H pd y hd hR=>HP ch M H pd y hd hR) ?_;intro e s2 O2 V2 a2 W2 L2 af a0 R2 ab;have a7:=bg.trans af;rw[bb] at a0;have bl:cM s.au L L2:=λl bk=>by
   rw[a0 l (by omega)];simp only[mI];rw[if_neg (by omega)]
  cases e with
  |normal=>
   simp only[P3] at ab;split at ab;rename_i b0;simp only[aDc,decide_eq_true_eq] at b0;obtain⟨⟨⟨⟨⟨c1,c2⟩,c3⟩,c4⟩,c5⟩,c6⟩:=b0;have cI:mI s.au L2=U ⟨s.au,X,μ,μ ((jA an s1).map (SV.xv O1))⟩:=by
    rw[a0 s.au (by omega)];simp[mI]
   simp only[T.aT,cI] at ab;exact⟨_,ab.2,s2,O2,V2,a7,R2,c1,c2,c3,c4,c5,c6,ab.1,rfl⟩;exact ab.elim
  |ret=>exact r .ret s2 O2 V2 a2 W2 L2 a7 bl R2 ab
  |exit id=>exact r (.exit id) s2 O2 V2 a2 W2 L2 a7 bl R2 ab
  |bj v=>exact r (.bj v) s2 O2 V2 a2 W2 L2 a7 bl R2 ab
  rename_i cO;exact aiU (n+1) (bo D B yh ro ag x s k L O V a W Q hY hB al a5 ap (λan=>cO an) h0 R hg HP r)
  
  rename_i f ps assign body;have cW:ro=none:=by
   cases ro with
   |none=>rfl
   |some l=>have:=a3 rfl;simp[iZ] at this
  subst cW;split at h;rename_i g dx c0;split at h;rename_i c nt c7;split at h;exact h.elim;rename_i hc;simp only[aDE,aDv,not_or,aEM,aGj] at hc;obtain⟨⟨⟨⟨c8,c9⟩,dc⟩,dd⟩,df⟩:=hc;obtain⟨dy,dk⟩:=ap;exact aul ok ih dk al c0 c7 c8 c9 dc dd df h R hg HP r;exact h.elim;exact h.elim;exact h.elim
variable{p:Sp}
def auq{X:ac}{R:aj}:∀{l Q:ai},SV.aD F B l=SV.aD X R Q->(one l).den F B=(one Q).den X R
 |[],[],_=>rfl
 |[x],[y],h=>by
  have h:SV.den F B x=SV.den X R y:=by simpa[SV.aD] using h
  exact h
 |[],_::_,h=>by simp[SV.aD] at h
 |_::_,[],h=>by simp[SV.aD] at h
 |[_],_::_::_,h=>by simp[SV.aD] at h
 |_::_::_,[_],h=>by simp[SV.aD] at h
 |a::b::c,P::N::M,h=>by
  show Value.tuple (SV.aD F B (a::b::c)).toArray=Value.tuple (SV.aD X R (P::N::M)).toArray;rw[h]
def ajp(X:aE):MZ (X.map RK.rd):=by
 intro k e h;rw[aDj] at h;cases R:X[k]? with
 |none=>rw[R] at h;cases h
 |some x=>rw[R] at h;cases x<;>simp[RK.rd] at h
def aur{D:bR}{a:Act}(P:p.ty=cf.ty)(R:az p.S0 p.w0 D cf.ty B F w a h)(Q:(Mb cf N y w).aT p F f):p.R (.returned ((one y).den F B)) h:=by
 unfold Mb at Q;split at Q;rename_i A;simp only[aDc] at A;obtain⟨⟨⟨ag,al⟩,v⟩,r⟩:=A;have M:∀i,aM ([]:bA) i=J->False:=λi X=>by simp[aM,cK] at X
 have n:=R.mem.mc (Ri w.rs);have m:az p.S0 p.w0 D cf.ty [] F (sR F (w.rs.map RK.rd) w.pd) ⟨#[],a.defers⟩ h:=
  ⟨⟨R.mem.base,λi X=>(M i X).elim,λi j X=>(M i X).elim,λi t z X=>by simp[sR,cK] at X,λk e x H g=>⟨(n.ref k e x H g).1,λb _ i X=>(M i X).elim⟩⟩,rfl,rfl,rfl,by simp[sR,R.er],R.cP,rfl,λt sv c=>by simp[sR] at c,λk e x b H=>absurd H (ajp _ k e)⟩
 have bJ:=R.xD v;obtain⟨l',an,G,R3,u,_,d,h3⟩:=Rl (a:=⟨#[],a.defers⟩) (ZM (bx:=w.boxes) (O0:=F) (V:=B) P rfl (λi e z ab=>by
  obtain⟨C,af⟩:=xC ab;have:=R.mem.box i e z C;rw[qW af] at this;exact⟨this,R.mem.own i (by simp[aM,C]),qV bJ.2 C⟩) 9) y (w.rs.map RK.rd) F _ m (Up.refl _) (ajp _) (by rw[R.ei,R.eb,R.er];exact r) Q
 have h4:=h3 G.y [] h (by rw[P];exact R3.mem);have h5:(one l').den G []=(one y).den F B:=auq (d G (Up.refl _));rw[<-h5];exact h4;exact Q F.y B _ (by rw[P];exact(R.mem.take _).mc (Ri _))
def Ro(X:kG p cf)(n:Nat):xO p cf n/\Ra p cf n:=Rm n p X
def ajq(z:kG p cf){M:Func}{c:Code}(j:p.P.funcs[x]?=U M)(hb:M.body=U c)
  (ht:Mc cf N x c M.ntmps M.results.toList y w=r)(Q:r.aT p F [])(hg:et cf.gl F)(R:az p.S0 p.w0 bR.none cf.ty B F {w with tmps:=[]} ⟨#[],[]⟩ p.w0):
  Calls p.P x (SV.aD F B y).toArray p.w0 p.R:=by
 subst ht;refine MP j hb ?_;have RE:=R.enter y M.ntmps R.cP;refine(Ro z N).1 bR.none ⟨{w with tmps:=y++aDq (M.ntmps-Y y) (.bK [])},F,B,[]⟩ iA Z x c _ _ [] F B _ p.w0 _ (F3 _ _) (kE.here _ _ _ _) rfl (λhh=>by cases hh) ⟨M,j⟩ Q RE hg ?_ ?_;intro i L u pd X hA hR;obtain⟨af,G,q0,m,C⟩:=hA.l8;show LeavesInM Fence.wide 0 p.P M L.tmps p.R L.defers (.panicking i) u;rw[G];exact sx (by simp) (aEi.1 m).1 (λd H=>(C d (by simp[H])).1) (MT (z.QR i) (λd H=>(C d (by simp[H])).2) hR);intro e h g V' L u L' hl hL b Q;obtain⟨af,G,q0,m,C⟩:=b.cP.l8;have k:=b.pX G;have ab:∀l,sd cf h M.results.toList=U l->(Mb cf (Y w.boxes) l h).aT p g L'->LeavesInM Fence.wide 0 p.P M L.tmps p.R L.defers .returning u:=by
  intro l A Q;rw[G];exact sx (by simp) (aEi.1 m).1 (λd H=>(C d (by simp[H])).1) ⟨_,ME k z.ln A,aur z.pt k Q⟩
 cases e with
 |normal=>
  simp only[P8] at Q;split at Q;rename_i l A;exact ab l A Q;exact Q.elim
 |ret=>
  simp only[P8] at Q;split at Q;rename_i l A;exact ab l A Q;exact Q.elim
 |bj v=>
  show LeavesInM Fence.wide 0 p.P M L.tmps p.R L.defers (.panicking _) u;rw[G];exact sx (by simp) (aEi.1 m).1 (λd H=>(C d (by simp[H])).1) (Q g.y V' _ k.mem.base)
 |exit id=>exact Q.elim
end
def zEq:Value->CT->Bool
 |.int k n,.int X=>decide (k=X)&&n==0
 |.bool b,.bool=> !b
 |v,.aH z _=>Fi v z
 |_,_=>E
def Ja:eJ->dN->Bool
 |[],[]=>J
 |v::X,c::W=>zEq v c&&Ja X W
 |_,_=>E
def ajs:∀(W:eJ)(V:dN),Ja W V=J->W=V.map pf
 |[],[],_=>rfl
 |[],_::_,h=>by simp[Ja] at h
 |_::_,[],h=>by simp[Ja] at h
 |v::W,c::V,h=>by
  simp only[Ja,aDc] at h;rw[aDt,<-ajs W V h.2];congr 1;have X:=h.1;unfold zEq at X;split at X;simp only[aDc,decide_eq_true_eq,beq_iff_eq] at X;obtain⟨rfl,rfl⟩:=X;rfl;rename_i b;cases b;rfl;cases X;exact agx _ _ X;cases X
def Jb:List Field->List (Nat×TypeId)->Bool
 |[],[]=>J
 |f::X,x::W=>f.offset==x.1&&f.type==x.2&&Jb X W
 |_,_=>E
def ajt:∀(X:List Field)(W:List (Nat×TypeId)),Jb X W=J->X.map (λf=>(f.offset,f.type))=W
 |[],[],_=>rfl
 |[],_::_,h=>by simp[Jb] at h
 |_::_,[],h=>by simp[Jb] at h
 |f::X,x::W,h=>by
  simp only[Jb,aDc,beq_iff_eq] at h;rw[aDt,ajt X W h.2,h.1.1,h.1.2]
def ZS(ae:dN):TD->Option TypeDesc->Bool
 |.struct V,U (.struct F)=>Jb F.toList V
 |.arr n e,U (.array R X)=>n==R&&e==X
 |.slice e,U (.slice X)=>e==X
 |.str,U .string=>J
 |.eP,U (.interface _)=>J
 |.map k e _ _,U (.map W X)=>k==W&&e==X
 |.one,U (.int k)=>match ae with
  |[.int W]=>decide (k=W)
  |_=>E
 |.one,U .bool=>match ae with
  |[.bool]=>J
  |_=>E
 |.one,U (.pointer _)|.one,U (.map _ _)|.one,U (.chan _ _)=>match ae with
  |[.aH .nilFunc _]=>E
  |[.aH _ _]=>J
  |_=>E
 |.one,U (.func _ _ _)=>match ae with
  |[.aH _ _]=>J
  |_=>E
 |_,_=>E
def aus{P:Program}{ae:dN}{d:TD}(h:ZS ae d (P.underlying t)=J):d.Ok P t ae:=by
 unfold ZS at h;split at h;rename_i N F W;exact⟨F,W,ajt _ _ h⟩;rename_i n e M R W;simp only[aDc,beq_iff_eq] at h;obtain⟨rfl,rfl⟩:=h;exact W;rename_i e R W;simp at h;subst h;exact W;rename_i W;exact W;rename_i m W;exact⟨m,W⟩;rename_i k e n L O R W;simp only[aDc,beq_iff_eq] at h;obtain⟨rfl,rfl⟩:=h;exact W;rename_i k W;split at h;rename_i O;simp at h;subst h;exact⟨_,W,⟨trivial,λk X=>(by cases X)⟩,λk X=>(by cases X;rfl),λX=>(by cases X)⟩;cases h;rename_i W;split at h;exact⟨_,W,⟨trivial,λk X=>(by cases X)⟩,λk X=>(by cases X),λX=>rfl⟩;cases h;rename_i x W;split at h;cases h;rename_i z Q V;exact⟨_,W,⟨trivial,λk X=>(V (by cases X;rfl)).elim⟩,λk X=>(by cases X),λX=>(by cases X)⟩;cases h;rename_i x y W;split at h;cases h;rename_i z Q V;exact⟨_,W,⟨trivial,λk X=>(V (by cases X;rfl)).elim⟩,λk X=>(by cases X),λX=>(by cases X)⟩;cases h;rename_i x y W;split at h;cases h;rename_i z Q V;exact⟨_,W,⟨trivial,λk X=>(V (by cases X;rfl)).elim⟩,λk X=>(by cases X),λX=>(by cases X)⟩;cases h;rename_i x y z W;split at h;exact⟨_,W,⟨trivial,λk X=>⟨_,_,_,rfl⟩⟩,λk X=>(by cases X),λX=>(by cases X)⟩;cases h;cases h
def ZT(P:Program)(t:TypeId)(X:TI):Bool:=
 match P.info? t with
 |U i=>match i.zero with
  |U z=>decide (i.bytes<=131072)&&i.size==Y X.ae&&Ja z.cells.toList X.ae&&ZS X.ae X.d (P.underlying t)&&(Qc z==X.d.isAgg)
  |none=>E
 |none=>E
def aut{P:Program}{X:TI}(h:ZT P t X=J)(L:X.eq=J->∀(W V:eJ)(r:Bool)(x y:Operand)(w:World),jT X.ae W->jT X.ae V->i6 W V=U r->
  (do eqGuard .eql t x y (.agg W.toArray) (.agg V.toArray);binOp .eql t (.agg W.toArray) (.agg V.toArray)).run P w=.ok (.bool r) w/\
  (do eqGuard .neq t x y (.agg W.toArray) (.agg V.toArray);binOp .neq t (.agg W.toArray) (.agg V.toArray)).run P w=.ok (.bool !r) w)(H:∀k e n O,X.d=.map k e n O->sq P k n O):dQ P t X:=by
 unfold ZT at h;split at h;rename_i i Q;split at h;rename_i z N;simp only[aDc,beq_iff_eq,decide_eq_true_eq] at h;obtain⟨h,G⟩:=h;exact⟨⟨i,Q,h.1.1.2,z,N,ajs _ _ h.1.2⟩,aus h.2,λj R=>(by rw[Q] at R;cases R;exact h.1.1.1),L,H,λj F R M=>(by rw[Q] at R;cases R;rw[N] at M;cases M;exact G)⟩;cases h;cases h
def aju{X:Type}(l:List (Option X))(i:Nat):Option X:=aE7 (motive:=λ_=>Nat->Option X) (λ_=>Z) (λx _ W t=>aFO (motive:=λ_=>Option X) x (λm _=>W m) t) l i
def ZU{X:Type}(l:List (List X))(i:Nat):List X:=aE7 (motive:=λ_=>Nat->List X) (λ_=>[]) (λx _ W t=>aFO (motive:=λ_=>List X) x (λm _=>W m) t) l i
def look{X:Type}(l:List (List (Option X)))(t:Nat):Option X:=aju (ZU l (t/16)) (t%16)
def ajv{X:Type}{x:X}:∀{l:List (Option X)}{i:Nat},aju l i=U x->l[i]?=U (U x)
 |[],_,h=>by cases h
 |y::_,0,h=>by simp only[aEb];exact congrArg U h
 |_::l,i+1,h=>by rw[aDO];exact ajv (l:=l) h
def ajw{X:Type}:∀(l:List (List X))(i:Nat),l[i]?=U (ZU l i)\/ZU l i=[]
 |[],_=>.inr rfl
 |_::_,0=>.inl rfl
 |_::l,i+1=>by rw[aDO];exact ajw l i
def F4{W:Type}(X:Nat->W->Bool):Nat->List (Option W)->Bool
 |_,[]=>J
 |n,Z::r=>F4 X (n+1) r
 |n,U x::r=>X n x&&F4 X (n+1) r
def Dq{X:Type}(W:Nat->X->Bool):Nat->List (List (Option X))->Bool
 |_,[]=>J
 |n,r::V=>F4 W n r&&Dq W (n+16) V
def ZV{W:Type}{V:Nat->W->Bool}:∀{r:List (Option W)}{n i:Nat}{x:W},F4 V n r=J->r[i]?=U (U x)->V (n+i) x=J
 |[],n,i,x,_,h=>by simp at h
 |Z::r,n,0,x,_,h=>by simp at h
 |Z::r,n,i+1,x,X,h=>by
  simp only[F4] at X;have:=ZV X (by simpa using h)
  rwa [show n+1+i=n+(i+1) by omega] at this
 |U y::r,n,0,x,X,h=>by simp[F4] at X;simp at h;subst h;exact X.1
 |U y::r,n,i+1,x,X,h=>by
  simp only[F4,aDc] at X;have:=ZV X.2 (by simpa using h)
  rwa [show n+1+i=n+(i+1) by omega] at this
def ajx{W:Type}{R:Nat->W->Bool}:∀{l:List (List (Option W))}{n q i:Nat}{r:List (Option W)}{x:W},Dq R n l=J->l[q]?=U r->r[i]?=U (U x)->R (n+16*q+i) x=J
 |[],n,q,i,r,x,_,h,_=>by simp at h
 |y::l,n,0,i,r,x,X,h,V=>by simp only[Dq,aDc] at X;simp at h;subst h;simpa using ZV X.1 V
 |y::l,n,q+1,i,r,x,X,h,V=>by
  simp only[Dq,aDc] at X;have:=ajx X.2 (by simpa using h) V
  rwa [show n+16+16*q+i=n+16*(q+1)+i by omega] at this
def ajy{X:Type}{R:Nat->X->Bool}{l:List (List (Option X))}(h:Dq R 0 l=J){x:X}(Q:look l N=U x):R N x=true:=by
 have W:=ajv Q;rcases ajw l (N/16) with V|V;have:=ajx h V W
 rwa [aDM,aFT] at this
 rw[V] at W;simp at W
def ZW(P:Program)(l:aj)(g:FuncId):Option (Code×Nat×pN):=if l.contains g then(match P.funcs[g]? with
 |U X=>match X.body with
  |U c=>U (c,X.ntmps,X.results.toList)
  |none=>Z
 |none=>Z) else Z
def ul(P:Program)(g:Nat):Bool:=match P.funcs[g]? with
 |U X=>X.body.isSome&& !(X.name== "runtime.NumGoroutine")
 |none=>E
def vQ{P:Program}(h:ul P N=J):∀X W,(callFunc N X).run P W=.ok (.enter N X) W:=by
 unfold ul at h;split at h;rename_i V R;simp only[aDc,aDv] at h;intro X W;have Q:V.name≠ "runtime.NumGoroutine":=by simpa using h.2
 obtain⟨c,O⟩:=aDw.1 h.1;simp[callFunc,R,Q,O];cases h
def auu(X:A5)(f i:Nat):Option FK:=match X.find? (λx=>x.1==f&&(x.2%1000==i&&decide (1000<=x.2))) with
 |U x=>if x.2/1000==1 then U .box else if x.2/1000<100 then U (.slot (x.2/1000-2) [0,1,2,3]) else U (.slot (x.2/1000-102) [0,1,2,3,4])
 |none=>Z
def oC(P:Program)(ln:List (List fj))(W:List (List iQ))(V:lC)(R:aj)(loops:List (Nat×Nat×eF))(Q:zj)(nA:Bool:=E)(X:A5:=[]):bB:=
 {ty:=look ln,gl:=V,inl:=ZW P R,sig:=look W,loop:=λf i=>match loops.find? (λx=>x.1==f&&x.2.1==i) with
  |U x=>.inv x.2.2
  |none=>.ars,zp:=λf g=>(Q.find? λx=>x.1==f&&x.2.1==g).map (·.2.2),nA:=nA,LM:=λf i=>X.contains (f,i),frk:=λf i=>auu X f i}
def Rp{P:Program}{ln:List (List fj)}{L:List (List iQ)}{C:lC}{H:aj}{loops:List (Nat×Nat×eF)}{O:zj}{nA:Bool}{B:A5}{A:aj}{G:World}{D:bR}{R:Ending->World->Prop}{Q:Exit->Act->World->Prop}
  (z:gY P (look ln))(y:Dq (λg _=>ul P g) 0 L=J)(w:H.all (ul P)=J)(v:P.follows .mixedOrders=J)(u:∀F W b o,G.heap.size<=b->R (.panicked F) W->R (.panicked F) (W.putObj b o))(t:∀x∈O,ll P (look ln) x.1 x.2.1 x.2.2.1 x.2.2.2.1 x.2.2.2.2):kG ⟨P,look ln,A,G,D,R,Q⟩ (oC P ln L C H loops O nA B):=by
 refine⟨rfl,v,z,λf g e n m h=> ?_,λg V=> ?_,u,λg c l k h=> ?_⟩;simp only[oC] at h;cases X:O.find? (λx=>x.1==f&&x.2.1==g) with
 |none=>rw[X] at h;cases h
 |some x=>
  rw[X] at h;simp only[aDn,aDh] at h;have N:=aFi X;simp only[aDc,beq_iff_eq] at N;have:=t x (aEF X);rw[N.1,N.2,h] at this;exact this
 rcases V with V|V;obtain⟨j,s⟩:=aDw.1 V;exact vQ (ajy y s);obtain⟨x,M⟩:=aDw.1 V;simp only[oC,ZW] at M;split at M;rename_i r;exact vQ (aDr.1 w g (aDN.1 r));cases M;simp only[oC,ZW] at h;split at h;split at h;rename_i q X;split at h;rename_i i p;cases h;exact⟨q,X,p,rfl,rfl⟩;cases h;cases h;cases h
section
inductive ck:RV->RV->Prop where
 |sl (A A':Option Addr) (len cap cap':Nat) (rows aC:List (List RV)) (h1:Y rows=Y aC) (h2:∀(i:Nat)(row row':List RV),rows[i]?=U row->aC[i]?=U row'->Y row=Y row')
   (h3:∀(i j:Nat)(row row':List RV)(c c':RV),rows[i]?=U row->aC[i]?=U row'->row[j]?=U c->row'[j]?=U c'->ck c c'):ck (.mk (.slice A len cap) rows) (.mk (.slice A' len cap') aC)
 |val (v:Value) (rows:List (List RV)) (h:∀a l c,v≠ .slice a l c):ck (.mk v rows) (.mk v rows)
def F5:XV->XV->Prop
 |.i n,.i m=>n=m
 |.b x,.b y=>x=y
 |.r v,.r w=>ck v w
 |_,_=>False
def nO:aW->aW->Prop
 |[],[]=>True
 |x::X,y::W=>F5 x y/\nO X W
 |_,_=>False
structure iI(O O':ac):Prop where
 i:O.i=O'.i
 b:O.b=O'.b
 len:Y O.r=Y O'.r
 r:∀(k:Nat)(v v':RV),O.r[k]?=U v->O'.r[k]?=U v'->ck v v'
def ck.refl:∀(v:RV),ck v v
 |.mk v V=>by
  by_cases h:∃a l c,v=.slice a l c;obtain⟨a,l,c,rfl⟩:=h;refine ck.sl a a l c c V V rfl (λi P O W X=>by rw[W] at X;cases X;rfl) (λi j P O x M W X R Q=> ?_);rw[W] at X;cases X;rw[R] at Q;cases Q;exact ck.refl x;exact ck.val v V (λa l c N=>h ⟨a,l,c,N⟩)
termination_by v=>SizeOf.sizeOf v
decreasing_by
 have L:=aGD (aDx W);have H:=aGD (aDx R);simp only[RV.mk.sizeOf_spec];omega
def ck.default:ck default default:=ck.refl _
def iI.rv{O X:ac}(h:iI O X)(k:Nat):ck (O.rv k) (X.rv k):=by
 unfold ac.rv;simp only[aDf];cases W:O.r[k]? with
 |none=>
  have:X.r[k]?=none:=by rw[aD2] at W⊢;have:=h.len;omega
  rw[this];exact ck.default
 |some v=>
  cases V:X.r[k]? with
  |none=>rw[aD2] at V;have:=(aDd.1 W).1;have:=h.len;omega
  |some R=>exact h.r k v R W V
def ck.cellAt{v N:RV}(h:ck v N)(i:Int)(j:Nat):ck (Y.cellAt v.rows i j) (Y.cellAt N.rows i j):=by
 cases h with
 |sl A G F D C R aC B L H=>
  simp only[Y.cellAt,RV.lj,aDf];cases W:R[i.toNat]? with
  |none=>
   have:aC[i.toNat]?=none:=by rw[aD2] at W⊢;omega
   rw[this];exact ck.default
  |some V=>
   obtain⟨X,Q⟩:∃X,aC[i.toNat]?=U X:=by
    have:i.toNat<Y R:=(aDd.1 W).1;exact⟨aC[i.toNat],aDe (by omega)⟩
   rw[Q];simp only[aDS];have z:=L _ V X W Q;cases P:V[j]? with
   |none=>
    have:X[j]?=none:=by rw[aD2] at P⊢;omega
    rw[this];exact ck.default
   |some c=>
    obtain⟨O,M⟩:∃O,X[j]?=U O:=by
     have:j<Y V:=(aDd.1 P).1;exact⟨X[j],aDe (by omega)⟩
    rw[M];exact H _ j V X c O W Q P M
 |val v R y=>exact ck.refl _
def ck.aO{v X:RV}(h:ck v X):Y.aO v.val=Y.aO X.val/\Y.fm v.val=Y.fm X.val/\lenOf v.val=lenOf X.val/\(∀i,C9 v.val i=C9 X.val i)/\(∀w,ue v.val w=ue X.val w)/\∀w,ue w v.val=ue w X.val:=by
 cases h with
 |sl A V R Q P W aC=>exact⟨rfl,rfl,rfl,λ_=>rfl,λ_=>rfl,λw=>by cases w<;>rfl⟩
 |val v W O=>exact⟨rfl,rfl,rfl,λ_=>rfl,λ_=>rfl,λ_=>rfl⟩
def ck.cT{v M:RV}(h:ck v M)(k:RK):ck (Y.cT k v) (Y.cT k M):=by
 cases h with
 |sl A X W V R Q aC P O N=>
  cases k with
  |sl e=>exact ck.sl A X W V R Q aC P O N
  |str=>exact ck.refl _
  |aH=>exact ck.sl A X W V R [] [] rfl (λi L H q=>by simp at q) (λi j L H c G q=>by simp at q)
  |own e=>exact ck.sl A X W V R Q aC P O N
  |dead=>exact ck.sl A X W V R Q aC P O N
  |mr F=>exact ck.sl A X W V R Q aC P O N
 |val v Q D=>exact ck.refl _
structure eH(rows aC:am):Prop where
 len:Y rows=Y aC
 row:∀(i:Nat)(row row':aF),rows[i]?=U row->aC[i]?=U row'->Y row=Y row'
 cell:∀(i j:Nat)(row row':aF)(c c':RV),rows[i]?=U row->aC[i]?=U row'->row[j]?=U c->row'[j]?=U c'->ck c c'
def ck.Jc{v R:RV}(h:ck v R):eH v.rows R.rows:=by
 cases h with
 |sl A M L H G P aC W X V=>exact⟨W,X,V⟩
 |val v P F=>exact⟨rfl,λi O N W X=>by rw[W] at X;cases X;rfl,λi j O N c D W X V Q=>by rw[W] at X;cases X;rw[V] at Q;cases Q;exact ck.refl _⟩
def mK(X W:aF):Prop:=Y X=Y W/\∀(j:Nat)(c V:RV),X[j]?=U c->W[j]?=U V->ck c V
def eH.cons{r X:aF}{O N:am}(h:eH (r::O) (X::N)):mK r X/\eH O N:=
 ⟨⟨h.row 0 r X rfl rfl,λj c W=>h.cell 0 j r X c W rfl rfl⟩,by simpa using h.len,λi V R Q P=>h.row (i+1) V R (by simpa using Q) (by simpa using P),λi j V R c W Q P=>h.cell (i+1) j V R c W (by simpa using Q) (by simpa using P)⟩
def eH.Dr{r Q:aF}{P O:am}(h:mK r Q)(k:eH P O):eH (r::P) (Q::O):=by
 refine⟨by simp[k.len],λi V R X W=> ?_,λi j V R c N X W=> ?_⟩;cases i with
 |zero=>simp at X W;subst X W;exact h.1
 |succ i=>exact k.row i V R (by simpa using X) (by simpa using W)
 cases i with
 |zero=>simp at X W;subst X W;exact h.2 j c N
 |succ i=>exact k.cell i j V R c N (by simpa using X) (by simpa using W)
def mK.getD{W X:aF}(h:mK W X)(j:Nat):ck (W.getD j Inhabited.default) (X.getD j Inhabited.default):=by
 simp only[aDf];cases V:W[j]? with
 |none=>
  have:X[j]?=none:=by rw[aD2] at V⊢;have:=h.1;omega
  rw[this];exact ck.refl _
 |some c=>
  obtain⟨R,Q⟩:∃R,X[j]?=U R:=by
   have:j<Y W:=(aDd.1 V).1;exact⟨X[j]'(by have:=h.1;omega),aDe _⟩
  rw[Q];exact h.2 j c R V Q
def mK.ints{W X:aF}(h:mK W X)(n:Nat):(W.take n).map (λc=>Y.aO c.val)=(X.take n).map λc=>Y.aO c.val:=by
 apply aDG;intro j;simp only[aDj,aDK];split;cases V:W[j]? with
 |none=>
  have:X[j]?=none:=by rw[aD2] at V⊢;have:=h.1;omega
  rw[this]
 |some c=>
  obtain⟨R,Q⟩:∃R,X[j]?=U R:=by
   have:j<Y W:=(aDd.1 V).1;exact⟨X[j]'(by have:=h.1;omega),aDe _⟩
  rw[Q];simp only[aDn,(h.2 j c R V Q).aO.1]
 rfl
def mK.iB{X W:aF}(h:mK X W)(n:Nat)(V:bh):Y.iB n V X=Y.iB n V W:=by
 simp only[Y.iB,h.ints n]
def Rq{n:Nat}{ks:bh}:∀{X aC:am},eH X aC->(fJ n ks X=Z/\fJ n ks aC=Z)\/∃W V,fJ n ks X=U W/\fJ n ks aC=U V/\mK W V
 |[],[],_=>.inl ⟨rfl,rfl⟩
 |[],_::_,h=>by have:=h.len;simp at this
 |_::_,[],h=>by have:=h.len;simp at this
 |r::O,Q::N,h=>by
  obtain⟨R,P⟩:=h.cons;simp only[fJ,aEN,<-R.iB n ks];cases Y.iB n ks r with
  |true=>exact .inr ⟨r,Q,rfl,rfl,R⟩
  |false=>exact Rq P
def ajz{n:Nat}{X W:aF}(h:mK X W):∀{V aC:am},eH V aC->eH (di n X V) (di n W aC)
 |[],[],k=>eH.Dr h k
 |[],_::_,k=>by have:=k.len;simp at this
 |_::_,[],k=>by have:=k.len;simp at this
 |r::P,O::N,k=>by
  obtain⟨R,Q⟩:=k.cons;simp only[di,h.ints n,<-R.iB n];split;exact eH.Dr h Q;exact eH.Dr R (ajz h Q)
mutual
def IE.co{O X:ac}(h:iI O X):∀e:IE,e.den O=e.den X
 |.c n=>rfl
 |.v k=>by simp only[IE.den,h.i]
 |.bin o k a b=>by simp only[IE.den,IE.co h a,IE.co h b]
 |.conv k a=>by simp only[IE.den,IE.co h a]
 |.len r=>by simp only[IE.den];exact(RE.co h r).aO.2.2.1
 |.mm m a b=>by simp only[IE.den,IE.co h a,IE.co h b]
 |.cR b x y=>by simp only[IE.den,BE.co h b,IE.co h x,IE.co h y]
 |.cell r i j=>by simp only[IE.den,IE.co h i];exact((RE.co h r).cellAt _ j).aO.1
 |.mD r i=>by simp only[IE.den,IE.co h i];exact(RE.co h r).aO.2.2.2.1 _
 |.look r n a b c j=>by
  simp only[IE.den,IE.co h a,IE.co h b,IE.co h c];rcases Rq (n:=n) (ks:=[a.den X,b.den X,c.den X]) (RE.co h r).Jc with⟨W,V⟩|⟨Q,P,W,V,R⟩;rw[W,V];rw[W,V];exact(R.getD j).aO.1
def BE.co{O X:ac}(h:iI O X):∀e:BE,e.den O=e.den X
 |.c n=>rfl
 |.v k=>by simp only[BE.den,h.b]
 |.cmp o a b=>by simp only[BE.den,IE.co h a,IE.co h b]
 |.not a=>by simp only[BE.den,BE.co h a]
 |.and a b=>by simp only[BE.den,BE.co h a,BE.co h b]
 |.beq a b=>by simp only[BE.den,BE.co h a,BE.co h b]
 |.cR b x y=>by simp only[BE.den,BE.co h b,BE.co h x,BE.co h y]
 |.cell r i j=>by simp only[BE.den,IE.co h i];exact((RE.co h r).cellAt _ j).aO.2.1
 |.seq a b=>by simp only[BE.den];rw[(RE.co h a).aO.2.2.2.2.1,(RE.co h b).aO.2.2.2.2.2]
 |.look r n a b c j=>by
  simp only[BE.den,IE.co h a,IE.co h b,IE.co h c];rcases Rq (n:=n) (ks:=[a.den X,b.den X,c.den X]) (RE.co h r).Jc with⟨W,V⟩|⟨Q,P,W,V,R⟩;rw[W,V];rw[W,V];exact(R.getD j).aO.2.1
 |.has r n a b c=>by
  simp only[BE.den,IE.co h a,IE.co h b,IE.co h c];rcases Rq (n:=n) (ks:=[a.den X,b.den X,c.den X]) (RE.co h r).Jc with⟨W,V⟩|⟨Q,P,W,V,R⟩;rw[W,V];rw[W,V];rfl
def RE.co{O X:ac}(h:iI O X):∀r:RE,ck (r.rv O) (r.rv X)
 |.v k=>by simp only[RE.rv];exact h.rv k
 |.cell r i j k=>by simp only[RE.rv,IE.co h i];exact((RE.co h r).cellAt _ j).cT k
 |.k v=>by simp only[RE.rv];exact ck.refl _
end
def SV.auv{X:ac}(h:iI F X)(v:SV):F5 (v.xv F) (v.xv X):=by
 cases v<;>simp only[SV.xv,F5];exact IE.co h _;exact BE.co h _;exact RE.co h _
def SV.auw{X:ac}(h:iI F X)(v:SV):ck (v.bN F) (v.bN X):=by
 cases v<;>simp only[SV.bN];rw[IE.co h];exact ck.refl _;rw[BE.co h];exact ck.refl _;exact RE.co h _
 all_goals exact ck.refl _
def eH.of{R aC:am}(O:Y R=Y aC)(h:∀(i:Nat)(X W:aF),R[i]?=U X->aC[i]?=U W->Y X=Y W/\∀(j:Nat)(c V:RV),X[j]?=U c->W[j]?=U V->ck c V):eH R aC:=
 ⟨O,λi X W Q P=>(h i X W Q P).1,λi j X W c V Q P=>(h i X W Q P).2 j c V⟩
def Ru{V:ac}(h:iI F V)(l:ai):(l.map (SV.bN F)).length=(l.map (SV.bN V)).length/\∀(j:Nat)(c R:RV),(l.map (SV.bN F))[j]?=U c->(l.map (SV.bN V))[j]?=U R->ck c R:=by
 refine⟨by simp,λj c R X W=> ?_⟩;rw[aDj] at X W;cases Q:l[j]? with
 |none=>rw[Q] at X;cases X
 |some v=>
  rw[Q] at X W;simp only[aDn,aDh] at X W;rw[<-X,<-W];exact SV.auw h v
def ajA:∀{O N R Q:aF}{P:Nat},Y O=Y N->(∀(j:Nat)(c X:RV),O[j]?=U c->N[j]?=U X->ck c X)->Y R=Y Q->(∀(j:Nat)(c X:RV),R[j]?=U c->Q[j]?=U X->ck c X)->
  (fo R P O).length=(fo Q P N).length/\∀(j:Nat)(c X:RV),(fo R P O)[j]?=U c->(fo Q P N)[j]?=U X->ck c X
 |[],[],R,Q,P,_,_,M,L=>⟨M,L⟩
 |[],_::_,_,_,_,h,_,_,_=>by simp at h
 |_::_,[],_,_,_,h,_,_,_=>by simp at h
 |v::O,D::N,R,Q,P,F,G,M,L=>by
  simp only[fo];refine ajA (by simpa using F) (λj c X V W=>G (j+1) c X (by simpa using V) (by simpa using W)) (by simp[M]) (λj c X V W=> ?_);rw[aD9] at V W;split at V;rename_i H;rw[if_pos H] at W;split at V;split at W;cases V;cases W;exact G 0 _ _ rfl rfl;cases W;cases V;rename_i H;rw[if_neg H] at W;exact L j c X V W
def LE.co{O D:ac}(h:iI O D):∀x:LE,eH (x.rows O) (x.rows D)
 |.ref r=>(RE.co h r).Jc
 |.lit l=>by
  simp only[LE.rows];refine eH.of (by simp) (λi R Q X W=> ?_);rw[aDj] at X W;cases C:l[i]? with
  |none=>rw[C] at X;cases X
  |some v=>
   rw[C] at X W;simp only[aDn,aDh] at X W;rw[<-X,<-W];exact Ru h v
 |.iG a b=>by
  simp only[LE.rows];have V:=LE.co h a;have H:=LE.co h b;refine eH.of (by simp[V.len,H.len]) (λi R Q X W=> ?_);by_cases L:i<(a.rows O).length;rw[aDg L] at X;rw[aDg (by rw[<-V.len];exact L)] at W;exact⟨V.row i R Q X W,λj c P=>V.cell i j R Q c P X W⟩;rw[aDk (by omega)] at X;rw[aDk (by rw[<-V.len];omega),<-V.len] at W;exact⟨H.row _ R Q X W,λj c P=>H.cell _ j R Q c P X W⟩
 |.rY n R=>by
  simp only[LE.rows,IE.co h n];refine eH.of (by simp) (λi r w X W=> ?_);rw[aEm] at X W;split at X;rename_i L;rw[if_pos L] at W;cases X;cases W;exact Ru h R;cases X
 |.set a i u G=>by
  simp only[LE.rows,IE.co h i];have V:=LE.co h a;have B:=Ru h G;refine eH.of (by simp[V.len]) (λt R Q X W=> ?_);rcases IL X with⟨rfl,A,N,rfl⟩|⟨F,N⟩;rcases IL W with⟨_,z,M,rfl⟩|⟨F,_⟩;exact ajA B.1 B.2 (V.row _ A z N M) (λj c P=>V.cell _ j A z c P N M);exact absurd rfl F;rcases IL W with⟨rfl,_⟩|⟨_,M⟩;exact absurd rfl F;exact⟨V.row _ R Q N M,λj c P=>V.cell _ j R Q c P N M⟩
 |.sub a y L=>by
  simp only[LE.rows,IE.co h y,IE.co h L];have V:=LE.co h a;refine eH.of (by simp[V.len]) (λi R Q X W=> ?_);have N:=(Mw X).1;have M:=(Mw W).1;exact⟨V.row _ R Q N M,λj c P=>V.cell _ j R Q c P N M⟩
 |.ins a n G=>by
  simp only[LE.rows];exact ajz (Ru h G) (LE.co h a)
def Rv{W:ac}(h:iI F W)(x:LE){A:mC}:ck (gf x F) (.mk (.slice A (x.rows W).length N) (x.rows W)):=by
 have X:=LE.co h x;unfold gf;rw[X.len];exact ck.sl _ _ _ _ _ _ _ X.len X.row X.cell
def iI.add{O R:ac}(h:iI O R){x y:XV}(V:F5 x y):iI (O.add x) (R.add y):=by
 cases x<;>cases y<;>simp only[F5] at V;subst V;exact⟨by simp[ac.add,h.i],h.b,h.len,h.r⟩;subst V;exact⟨h.i,by simp[ac.add,h.b],h.len,h.r⟩;refine⟨h.i,h.b,by simp[ac.add,h.len],λk v P X W=> ?_⟩;simp only[ac.add] at X W;by_cases Q:k<Y O.r;rw[aDg Q] at X;rw[aDg (by rw[<-h.len];exact Q)] at W;exact h.r k v P X W;have N:k=Y O.r:=by
  have:=(aDd.1 X).1;simp at this;omega
 subst N;simp at X;rw[h.len] at W;simp at W;subst X W;exact V
def iI.ext:∀{W V:aW}{O R:ac},iI O R->nO W V->iI (O.ext W) (R.ext V)
 |[],[],_,_,h,_=>h
 |[],_::_,_,_,_,X=>X.elim
 |_::_,[],_,_,_,X=>X.elim
 |x::W,y::V,_,_,h,X=>(h.add X.1).ext X.2
inductive bn where
 |ret (xs:List XV)
 |bj (v:Value)
abbrev jH:=Option bn
abbrev me:=FuncId->aW->jH
def Rw:LK->XV->Bool
 |.int _,.i _=>J
 |.bool,.b _=>J
 |.ref _,.r _=>J
 |_,_=>E
def fq:aR->aW->Bool
 |[],[]=>J
 |k::X,x::W=>Rw k x&&fq X W
 |_,_=>E
def Ds(X:Ty)(W:aE):LK->SV->Bool
 |.int k,.int V _=>decide (k=V)
 |.bool,.bool _=>J
 |.ref e,.ref r=>match e with
  |.mr R=>r.oV X ⟨[],[],0,0,W,0,0,[]⟩ R
  |e=>r.fits X ⟨[],[],0,0,W,0,0,[]⟩ e.rd
 |_,_=>E
def jI(X:Ty)(W:aE):aR->ai->Bool
 |[],[]=>J
 |k::V,v::R=>Ds X W k v&&jI X W V R
 |_,_=>E
def jm(W:Ty):gT->ai->E7
 |[],[]=>U []
 |t::V,v::R=>match W t,jm W V R with
  |U X,U r=>if X.d.isAgg then(match v with
    |.agg l=>if Y l==Y X.ae then U (l++r) else Z
    |_=>Z) else(if Y X.ae==1 then U (v::r) else Z)
  |_,_=>Z
 |_,_=>Z
def xP(n:Nat):SV->ai
 |.bK l=>if n==1 then[.bK l] else l
 |v=>[v]
def F6(O:ac):SV->Option Value
 |.eP t (.int k e)=>U (.iface t (.int k (e.den O)))
 |_=>Z
structure Fr where
 au:Nat
 ks:aR
 t:T
 O:ac
 rs:aE
def F7(au:Nat):List Fr->Option (Fr×List Fr)
 |[]=>Z
 |x::X=>if x.au=au then U (x,X) else F7 au X
def iR:aR->aE
 |[]=>[]
 |.ref e::X=>e::iR X
 |_::X=>iR X
def rf:Nat->Nat->Nat->aR->ai->Bool
 |_,_,_,[],[]=>J
 |a,b,c,.int k::X,.int W (.v n)::l=>decide (k=W)&&n==a&&rf (a+1) b c X l
 |a,b,c,.bool::X,.bool (.v n)::l=>n==b&&rf a (b+1) c X l
 |a,b,c,.ref _::X,.ref (.v n)::l=>n==c&&rf a b (c+1) X l
 |_,_,_,_,_=>E
def Rx:RK->RK->Bool
 |_,.dead=>J
 |.own t,.sl X=>decide (t=X)
 |.sl t,.sl X=>decide (t=X)
 |.str,.str=>J
 |.aH,.aH=>J
 |.mr a,.mr b=>decide (a=b)
 |_,_=>E
def BR:aE->aE->Bool
 |[],[]=>J
 |x::X,y::W=>Rx x y&&BR X W
 |_,_=>E
def ajB:RK->RK->Bool
 |.own t,.own X=>decide (t=X)
 |x,y=>Rx x y
def BS:aE->aE->Bool
 |[],[]=>J
 |x::X,y::W=>ajB x y&&BS X W
 |_,_=>E
def ZX(X:Ty)(W:gT)(v:SV)(R:aE)(O:ac):jH:=match jm X W (xP (Y W) v),gA X W with
 |U l,U V=>if jI X R V l&&ou V then U (.ret (l.map (SV.xv O))) else Z
 |_,_=>Z
def ZY(X:Ty)(P N:FuncId->iQ)(f:FuncId)(M:ai)(L:aE)(V:aR)(fG:SV)(O:ac):Option aW:=match P f,N f with
 |U R,U W=>match jm X R M,gA X R,gA X W,jm X W (xP (Y W) fG) with
  |U l,U Q,U H,U r=>if jI X L Q l&&ou Q&&decide (H=V)&&rf (Y O.i) (Y O.b) (Y O.r) V r then U (l.map (SV.xv O)) else Z
  |_,_,_,_=>Z
 |_,_=>Z
def ZZ(X:aE)(r:RE)(e:TypeId):Bool:=match r with
 |.v k=>decide (X[k]?=U (.own e))
 |.k (.slice Z 0 0)=>J
 |_=>E
def Z0:RK->Bool
 |.mr _=>J
 |_=>E
def mK.key{x y:aF}(h:mK x y)(c:Nat):ax c x=ax c y:=(h.getD c).aO.1
def ajC{d:Bool}{x W y V:aF}(R:mK x W)(Q:mK y V):∀X:aj,gX d X x y=gX d X W V
 |[]=>rfl
 |c::X=>by simp only[gX,R.key,Q.key,ajC R Q X]
def Z1{X:be}{x W y V:aF}(R:mK x W)(Q:mK y V):X.lt x y=X.lt W V:=by
 cases X with
 |lex P d=>exact ajC R Q P
 |ratio n d=>simp only[be.lt,R.key,Q.key]
 |cw k o O=>rfl
def aux{X:be}{x W:aF}(V:mK x W):X.ok x=X.ok W:=by
 cases X with
 |lex R d=>rfl
 |ratio n d=>simp only[be.ok,V.key]
 |cw k o Q=>rfl
def eH.Ry{r:am}(h:eH [] r):r=[]:=by cases r with
 |nil=>rfl
 |cons x X=>have:=h.len;simp at this
def ajD{V:be}{x R:aF}(X:mK x R):∀{l W:am},eH l W->eH (dO V.lt x l) (dO V.lt R W)
 |[],W,h=>by have P:=h.Ry;subst P;exact eH.Dr X h
 |y::l,[],h=>by have:=h.len;simp at this
 |y::l,N::W,h=>by
  obtain⟨Q,O⟩:=h.cons;simp only[dO,Z1 X Q];split;exact eH.Dr X h;exact eH.Dr Q (ajD X O)
def ajE{R:be}:∀{l W:am}{acc X:am},eH l W->eH acc X->eH (l.foldl (λacc x=>dO R.lt x acc) acc) (W.foldl (λacc x=>dO R.lt x acc) X)
 |[],W,acc,X,h,V=>by rw[h.Ry];exact V
 |y::l,[],acc,X,h,V=>by have:=h.len;simp at this
 |y::l,O::W,acc,X,h,V=>by
  obtain⟨Q,P⟩:=h.cons;simp only[aEG];exact ajE P (ajD Q V)
def Z2{f g:aF->Bool}:∀{l X:am},(∀x W,mK x W->f x=g W)->eH l X->l.all f=X.all g
 |[],X,_,h=>by rw[h.Ry];rfl
 |y::l,[],_,h=>by have:=h.len;simp at this
 |y::l,P::X,V,h=>by
  obtain⟨R,Q⟩:=h.cons;simp only[aFf,V _ _ R,Z2 V Q]
def ajF{X:be}:∀{l W:am},eH l W->sn X.lt l=sn X.lt W
 |[],W,h=>by rw[h.Ry]
 |y::l,[],h=>by have:=h.len;simp at this
 |y::l,V::W,h=>by
  obtain⟨R,Q⟩:=h.cons;have O:(l.all λz=>X.lt y z||X.lt z y)=W.all λz=>X.lt V z||X.lt z V:=Z2 (λx N P=>by rw[Z1 R P,Z1 P R]) Q
  simp only[sn,ajF Q,O]
def ajG{sp:be}{V:Bool}{l R r:am}(h:eH l R)(X:fU sp V l=U r):∃Q,fU sp V R=U Q/\eH r Q:=by
 cases sp with
 |cw k o L=>simp[fU] at X
 |_=>
  simp only[fU] at X⊢;rw[Z2 (λx H P=>aux P) h,ajF h,h.len] at X;split at X;rename_i O;cases X;rw[if_pos O];exact⟨_,rfl,ajE h ⟨rfl,λi N M W=>by simp at W,λi j N M c G W=>by simp at W⟩⟩;cases X
def eH.getD{l X:am}(h:eH l X)(i:Nat):mK (l.getD i []) (X.getD i []):=by
 simp only[aDf];cases V:l[i]? with
 |none=>
  have:X[i]?=none:=by rw[aD2] at V⊢;have:=h.len;omega
  rw[this];exact⟨rfl,λj c W R=>by simp at R⟩
 |some c=>
  obtain⟨W,Q⟩:∃W,X[i]?=U W:=by
   have:i<Y l:=(aDd.1 V).1;exact⟨X[i]'(by have:=h.len;omega),aDe _⟩
  rw[Q];exact⟨h.row i c W V Q,λj x P R O=>h.cell i j c W x P V Q R O⟩
def eH.set{x X:aF}(W:mK x X):∀{l V:am}(_:eH l V)(i:Nat),eH (l.set i x) (V.set i X)
 |[],[],h,_=>h
 |[],_::_,h,_=>by have:=h.len;simp at this
 |_::_,[],h,_=>by have:=h.len;simp at this
 |r::R,Q::P,h,0=>eH.Dr W h.cons.2
 |r::R,Q::P,h,i+1=>eH.Dr h.cons.1 (eH.set W h.cons.2 i)
def Z3{l X:am}(h:eH l X):∀(n:Nat)(i:Int),eH (o9 n i l) (o9 n i X)
 |0,_=>h
 |n+1,i=>by
  simp only[o9,<-(h.getD i.toNat).key 0];split;exact h;exact eH.set ((Z3 h n _).getD _) (Z3 h n _) _
def auy{l X:am}(h:eH l X):kB l=kB X:=by
 have e:(λk=>decide (0<=ax 0 (l.getD k []))&&decide (ax 0 (l.getD k [])<=k))=λk:Nat=>decide (0<=ax 0 (X.getD k []))&&decide (ax 0 (X.getD k [])<=k):=by
  funext k;rw[(h.getD k).key 0]
 unfold kB;rw[e,h.len]
def auz{R:ac}(Q:iI F R)(W:be)(V:Bool)(l:am):l9 F W V l=l9 R W V l:=by
 cases W with
 |lex P d=>rfl
 |ratio n d=>rfl
 |cw k o X=>
  cases V with
  |false=>rfl
  |true=>
   cases X with
   |nil=>rfl
   |cons i X=>
    cases X with
    |nil=>simp only[l9,IE.co Q i]
    |cons j X=>rfl
def ajH{Q:ac}(M:iI F Q){V:be}{R:Bool}{l P r:am}(h:eH l P)(X:l9 F V R l=U r):∃N,l9 Q V R P=U N/\eH r N:=by
 cases V with
 |lex L d=>exact ajG (sp:=.lex L d) h X
 |ratio n d=>exact ajG (sp:=.ratio n d) h X
 |cw k o W=>
  cases R with
  |false=>simp[l9] at X
  |true=>
   cases W with
   |nil=>simp[l9] at X
   |cons i W=>
    cases W with
    |nil=>
     simp only[l9,uf] at X⊢;rw[h.len,auy h,IE.co M i] at X;split at X;rename_i H;cases X;rw[if_pos H];exact⟨_,rfl,Z3 h _ _⟩;cases X
    |cons j W=>simp[l9] at X
def ck.dw{a b:RV}(h:ck a b){M:ac}(L:iI F M){W:be}{V:Bool}{R Q:am}(X:l9 F W V a.rows=U R)(P:l9 M W V b.rows=U Q):ck (.mk a.val R) (.mk b.val Q):=by
 obtain⟨y,H,N⟩:=ajH L h.Jc X;rw[P] at H;cases H;cases h with
 |sl A G D C B z aC x w u=>exact ck.sl A G D C B R Q N.len N.row N.cell
 |val v z t=>
  rw[RV.lj] at X P;rw[auz L W V,P] at X;cases X;exact ck.refl _
def auA{X:RV}{V:am}(W:de n (.own t) (.mk X.val V) N)(R:∀x∈V,x∈X.rows):de n (.own t) X N:=by
 obtain⟨v,Q⟩:=X;simp only[RV.lg,RV.lj] at W R;cases W with
 |own t X N W=>
  refine de.own t _ N ?_;generalize P:RV.mk v V=X at W;cases W with
  |here t a O M aC=>cases P;exact de.here t a O M Q
  |deep t A aC i j L c z k N H G F D=>
   cases P;obtain⟨C,B⟩:=aDU (R _ (aDx H));exact de.deep t v Q C j L c z k N B G F D
mutual
def Rz:RV->RV->Bool
 |.mk v X,.mk W aC=>(match v,W with
  |.int k a,.int V b=>decide (k=V)&&a==b
  |.bool a,.bool b=>a==b
  |.string a,.string b=>decide (a=b)
  |.slice Z a b,.slice Z c d=>a==c&&b==d
  |_,_=>E)&&Jd X aC
def Jd:am->am->Bool
 |[],[]=>J
 |r::X,W::V=>Je r W&&Jd X V
 |_,_=>E
def Je:aF->aF->Bool
 |[],[]=>J
 |c::X,W::V=>Rz c W&&Je X V
 |_,_=>E
end
def M1:XV->XV->Bool
 |.i a,.i b=>a==b
 |.b a,.b b=>a==b
 |.r a,.r b=>Rz a b
 |_,_=>E
def M3:aW->aW->Bool
 |[],[]=>J
 |x::X,y::W=>M1 x y&&M3 X W
 |_,_=>E
def ajI:Value->Value->Bool
 |.iface t (.int k a),.iface X (.int W b)=>t==X&&decide (k=W)&&a==b
 |_,_=>E
def RA:bn->bn->Bool
 |.ret a,.ret b=>M3 a b
 |.bj a,.bj b=>ajI a b
 |_,_=>E
mutual
def ajJ:∀(a b:RV),Rz a b=J->a=b
 |.mk v X,.mk R aC,h=>by
  simp only[Rz,aDc] at h;have W:=ajK X aC h.2;subst W;congr 1;have V:=h.1;split at V<;>simp_all
def ajK:∀(a b:am),Jd a b=J->a=b
 |[],[],_=>rfl
 |[],_::_,h=>by simp[Jd] at h
 |_::_,[],h=>by simp[Jd] at h
 |r::X,W::V,h=>by
  simp only[Jd,aDc] at h;rw[ajL r W h.1,ajK X V h.2]
def ajL:∀(a b:aF),Je a b=J->a=b
 |[],[],_=>rfl
 |[],_::_,h=>by simp[Je] at h
 |_::_,[],h=>by simp[Je] at h
 |r::X,W::V,h=>by
  simp only[Je,aDc] at h;rw[ajJ r W h.1,ajL X V h.2]
end
def auB:∀(a b:XV),M1 a b=J->a=b
 |.i a,b,h=>by cases b<;>simp[M1] at h;rw[h]
 |.b a,b,h=>by cases b<;>simp[M1] at h;rw[h]
 |.r a,b,h=>by cases b<;>simp[M1] at h;rw[ajJ _ _ h]
def ajM:∀(a b:aW),M3 a b=J->a=b
 |[],b,h=>by cases b<;>simp[M3] at h;rfl
 |x::X,b,h=>by cases b<;>simp[M3] at h;rw[auB _ _ h.1,ajM _ _ h.2]
def auC:∀(a b:bn),RA a b=J->a=b
 |.ret a,b,h=>by cases b<;>simp[RA] at h;rw[ajM _ _ h]
 |.bj a,b,h=>by
  cases b<;>simp[RA] at h;rename_i v;unfold ajI at h;split at h;simp only[aDc,beq_iff_eq,decide_eq_true_eq] at h;obtain⟨⟨rfl,rfl⟩,rfl⟩:=h;rfl;cases h
open Classical in
def vR(a b:bn):Bool:=RA a b||decide (a=b)
def Jf(o:bn):vR o o=true:=by simp[vR]
def auD(a b:bn)(h:vR a b=J):a=b:=by
 simp only[vR,aDE,decide_eq_true_eq] at h;exact h.elim (auC a b) id
def zQ:jH->jH->jH
 |U a,U b=>if vR a b then U a else Z
 |_,_=>Z
def rg:List jH->jH
 |[]=>Z
 |[o]=>o
 |o::X=>zQ o (rg X)
def Jg{a b:jH}{o:bn}(h:zQ a b=U o):a=U o/\b=U o:=by
 unfold zQ at h;split at h;split at h;rename_i x y X;cases h;rw[auD _ _ X];exact⟨rfl,rfl⟩;cases h;cases h
def Jh:∀{l:List jH}{o:bn},rg l=U o->∀x∈l,x=U o
 |[],o,h=>by simp[rg] at h
 |[x],o,h=>by simp only[rg] at h;intro y W;simp at W;rw[W];exact h
 |x::y::r,o,h=>by
  simp only[rg] at h;obtain⟨V,R⟩:=Jg h;intro z X;rcases aDp.1 X with rfl|X;exact V;exact Jh (l:=y::r) R z X
def ajN{a b X W:jH}{o:bn}(h:zQ a b=U o)(Q:a=U o->X=U o)(P:b=U o->W=U o):zQ X W=U o:=by
 obtain⟨V,R⟩:=Jg h;rw[V,R] at h;rw[Q V,P R];exact h
def ajO{X:Type}{l:List X}{f g:X->jH}{o:bn}(h:rg (l.map f)=U o)(V:∀x∈l,f x=U o->g x=U o):rg (l.map g)=U o:=by
 rw[<-h];congr 1;refine aDC λx W=> ?_
 have:=Jh h (f x) (aDF.2 ⟨x,W,rfl⟩);rw[this,V x W this]
def pi(m:IE)(g h:BE)(O:ac):List (Option Int):=(((aDA (m.den O).toNat).map λ(j:Nat)=>(j:Int)).filter λj=>g.den (O.add (.i j))).map U++(if h.den O then[Z] else[])
def Z4{m:IE}{g h:BE}{j:Int}(W:0<=j)(V:j<m.den F)(X:g.den (F.add (.i j))=J):U j∈pi m g h F:=by
 simp only[pi,aDo,aDF,aD1,aEd];exact .inl ⟨j,⟨⟨j.toNat,by omega,by omega⟩,X⟩,rfl⟩
def Z5{m:IE}{g h:BE}(X:h.den F=J):Z∈pi m g h F:=by
 simp[pi,X]
def run(V:Ty)(R Q:FuncId->iQ)(bi:me)(P:gT):Nat->T->ac->aE->List Fr->jH
 |0,_,_,_,_=>Z
 |n+1,.ret v _ N,O,X,_=>if BR X N then ZX V P v N O else Z
 |n+1,.bj v,O,_,_=>(F6 O v).map .bj
 |n+1,.node b t f,O,X,W=>if b.den O then run V R Q bi P n t O X W else run V R Q bi P n f O X W
 |n+1,.aV b t,O,X,W=>if b.den O then run V R Q bi P n t O X W else Z
 |n+1,.call f F _ N M fG t,O,X,W=>if BR X N then(match ZY V R Q f F N M fG O with
   |U D=>match bi f D with
    |U (.ret H)=>if fq M H then run V R Q bi P n t (O.ext H) (X++iR M) W else Z
    |U (.bj v)=>U (.bj v)
    |none=>Z
   |none=>Z) else Z
 |n+1,.loop au M G t,O,X,W=>if jI V X M G then run V R Q bi P n t (O.ext (G.map (SV.xv O))) (X++iR M) (⟨au,M,t,O,X++iR M⟩::W) else Z
 |n+1,.back au x,O,X,W=>match F7 au W with
  |U (L,C)=>if jI V X L.ks x then run V R Q bi P n L.t (L.O.ext (x.map (SV.xv O))) L.rs (L::C) else Z
  |none=>Z
 |n+1,.rows k x _ t,O,X,W=>if Z0 k then run V R Q bi P n t (O.add (.r (gf x O))) (X++[k]) W else Z
 |n+1,.fA g h t f,O,X,W=>if g.den O then(if h.den O then zQ (run V R Q bi P n t O X W) (run V R Q bi P n f O X W) else run V R Q bi P n t O X W) else(if h.den O then run V R Q bi P n f O X W else Z)
 |n+1,.pick m g h t f,O,X,W=>rg ((pi m g h O).map λj=>match j with
  |U j=>run V R Q bi P n t (O.add (.i j)) X W
  |none=>run V R Q bi P n f O X W)
 |n+1,.dw _ _ e B A r N t,O,X,W=>if BS X N&&ZZ X r e then(match l9 O B A (r.rv O).rows with
  |U z=>run V R Q bi P n t (O.add (.r (.mk (r.rv O).val z))) (X++[.own e]) W
  |none=>Z) else Z
 |n+1,.new e x N _ t,O,X,W=>if BS X N then run V R Q bi P n t (O.add (.r (gf x O))) (X++[.own e]) W else Z
 |_,_,_,_,_=>Z
end
def M4{w X:World}(h:eV [] w X):Below w.heap.size w X:=⟨h.os,h.tape,h.output,h.size,λk W=>h.block k W (by simp)⟩
def auE{a b c:World}(h:Below a.heap.size a b)(k:Below b.heap.size b c):Below a.heap.size a c:=h.trans (k.mono h.size)
def nP:aR->aW->eJ
 |k::X,x::W=>x.at k::nP X W
 |_,_=>[]
def um(u:Ty):gT->eJ->eJ
 |[],_=>[]
 |t::W,l=>match u t with
  |U X=>(if X.d.isAgg then .agg (l.take (Y X.ae)).toArray else l.getD 0 undef)::um u W (l.drop (Y X.ae))
  |none=>[]
def F8:eJ->Value
 |[v]=>v
 |l=>.tuple l.toArray
def ajP{u:Ty}:∀{X:gT}{W l:ai},jm u X W=U l->Y X=Y W
 |[],[],l,_=>rfl
 |[],_::_,l,h=>by simp[jm] at h
 |_::_,[],l,h=>by simp[jm] at h
 |t::X,v::W,l,h=>by
  simp only[jm] at h;split at h;rename_i R r Q V;simp[ajP V];cases h
def RC{u:Ty}{O:ac}{V:aj}:∀{W:gT}{R l:ai},jm u W R=U l->SV.aD O V R=um u W (SV.aD O V l)
 |[],[],l,_=>rfl
 |[],_::_,l,h=>by simp[jm] at h
 |_::_,[],l,h=>by simp[jm] at h
 |t::W,v::R,l,h=>by
  simp only[jm] at h;split at h;rename_i H r M L;have N:=RC (O:=O) (V:=V) L;simp only[um,M];split at h;rename_i Q;rw[if_pos Q];split at h;rename_i F;split at h;rename_i X;simp only[beq_iff_eq] at X;cases h;rw[P9,<-X,List.take_left' (by simp),aFC (by simp),<-N];simp only[SV.aD,SV.den];cases h;cases h;rename_i Q;rw[if_neg Q];split at h;rename_i X;simp only[beq_iff_eq] at X;cases h;rw[X];simp only[SV.aD,aEy,List.drop_succ_cons,aGz,<-N];cases h;cases h
def ajQ{W:gT}(h:jm n W (xP (Y W) k)=U y):k.den F B=F8 (um n W (SV.aD F B y)):=by
 have R:=ajP h;rw[<-RC h];cases k
 case bK M=>
  simp only[xP] at R⊢;by_cases Q:Y W==1;simp[Q,SV.aD,F8];simp only[Q,if_false,aDB] at R⊢;have N:Y M≠1:=by rw[<-R];simpa using Q
  match M,N with
  |[],_=>simp[SV.aD,F8,SV.den]
  |[x],N=>simp at N
  |x::X::z,_=>simp[SV.aD,F8,SV.den]
 all_goals simp[xP,SV.aD,F8]
def auF{O:ac}{V:aj}{X:LK}(h:Ds n v X k=J):k.den O V=(k.xv O).at X/\pS X (k.xv O):=by
 unfold Ds at h;split at h;rename_i X W e;simp at h;subst h;exact⟨rfl,trivial⟩;exact⟨rfl,trivial⟩;exact⟨rfl,trivial⟩;cases h
def Ji{u:Ty}{W:aE}{O:ac}{V:aj}:∀{X:aR}{l:ai},jI u W X l=J->SV.aD O V l=nP X (l.map (SV.xv O))/\dP X (l.map (SV.xv O))
 |[],[],_=>⟨rfl,trivial⟩
 |[],_::_,h=>by simp[jI] at h
 |_::_,[],h=>by simp[jI] at h
 |k::X,v::l,h=>by
  simp only[jI,aDc] at h;obtain⟨R,Q⟩:=auF (O:=O) (V:=V) h.1;obtain⟨N,M⟩:=Ji (O:=O) (V:=V) h.2;exact⟨by simp only[SV.aD,aDt,nP,R,N],Q,M⟩
def auG{X:aW}(h:fq e X=J):dP e X:=by
 induction e generalizing X with
 |nil=>cases X with
  |nil=>trivial
  |cons=>simp[fq] at h
 |cons k e W=>cases X with
  |nil=>simp[fq] at h
  |cons x X=>
   simp only[fq,aDc] at h;refine⟨?_,W h.2⟩;cases k<;>cases x<;>first|trivial|simp[Rw] at h
def Z6:∀{X:aR}{W V:aW},dP X V->nO W V->dP X W
 |[],[],[],_,_=>trivial
 |[],_::_,[],_,h=>h.elim
 |[],_,_::_,h,_=>h.elim
 |_::_,_,[],h,_=>h.elim
 |_::_,[],_::_,_,h=>h.elim
 |k::X,x::W,y::V,h,R=>by
  refine⟨?_,Z6 h.2 R.2⟩;have Q:=h.1;have O:=R.1;cases k<;>cases x<;>cases y<;>simp_all[pS,F5]
def BT{O X:ac}(h:iI O X):∀l:ai,nO (l.map (SV.xv O)) (l.map (SV.xv X))
 |[]=>trivial
 |v::l=>⟨SV.auv h v,BT h l⟩
def M5{V:aj}:∀{R:aR}{l:ai}{X:aW}{O:ac}{a b c:Nat},rf a b c R l=J->dP R X->Y O.i=a->Y O.b=b->Y O.r=c->SV.aD (O.ext X) V l=nP R X
 |[],[],[],O,a,b,c,_,_,_,_,_=>rfl
 |[],[],_::_,O,a,b,c,_,h,_,_,_=>h.elim
 |[],_::_,X,O,a,b,c,h,_,_,_,_=>by simp[rf] at h
 |k::R,[],X,O,a,b,c,h,_,_,_,_=>by cases k<;>simp[rf] at h
 |_::_,_::_,[],O,a,b,c,_,h,_,_,_=>h.elim
 |k::R,v::l,x::X,O,a,b,c,h,C,Q,N,M=>by
  have H:=Da X (O.add x);obtain⟨F,D⟩:=C;simp only[SV.aD,ac.ext,nP];unfold rf at h;split at h;rename_i W;cases W;rename_i W L;cases W;cases L;cases x<;>simp[pS] at F;simp only[aDc,decide_eq_true_eq,beq_iff_eq] at h;obtain⟨⟨rfl,rfl⟩,h⟩:=h;rw[M5 h D (by simp[ac.add,Q]) (by simp[ac.add,N]) (by simp[ac.add,M])];simp only[SV.den,IE.den,XV.at];rw[H.i _ (by simp[ac.add,Q])];simp[ac.add,<-Q];rename_i W L;cases W;cases L;cases x<;>simp[pS] at F;simp only[aDc,beq_iff_eq] at h;obtain⟨rfl,h⟩:=h;rw[M5 h D (by simp[ac.add,Q]) (by simp[ac.add,N]) (by simp[ac.add,M])];simp only[SV.den,BE.den,XV.at];rw[H.b _ (by simp[ac.add,N])];simp[ac.add,<-N];rename_i W L;cases W;cases L;cases x<;>simp[pS] at F;simp only[aDc,beq_iff_eq] at h;obtain⟨rfl,h⟩:=h;rw[M5 h D (by simp[ac.add,Q]) (by simp[ac.add,N]) (by simp[ac.add,M])];simp only[SV.den,RE.den,RE.rv,XV.at];rw[H.r _ (by simp[ac.add,M])];simp[ac.add,ac.rv,<-M];cases h
def auH{s:S}{r:RE}{e:RK}(M:e≠ .aH)(h:r.kind n s=e)(W:de n e (r.rv F) N):F.ow n s.rs N:=by
 obtain⟨V,R,H,Q,X⟩:=Qp M h W;rcases X with⟨rfl,X⟩|⟨t,X,L⟩;exact⟨V,R,Q,Qo (by rw[X];exact W)⟩;exact⟨V,R,Q,ID X L⟩
def ajR{e:RK}{X:RV}(h:de n e X N):de n e.rd X N:=by
 cases h with
 |own e X N h=>exact h
 |here e a V R W=>exact de.here e a V R W
 |deep e v W i j Q c z k N O M L H=>exact de.deep e v W i j Q c z k N O M L H
def xQ(u:Ty)(W:aR)(V:aW)(b:Nat):Prop:=∃(q:Nat)(e:RK)(X:RV),W[q]?=U (.ref e)/\V[q]?=U (.r X)/\de u e X b
def ajS{u:Ty}{R:aE}:∀{W:aR}{l:ai},jI u R W l=J->∀(q:Nat)(k:LK)(v:SV),W[q]?=U k->l[q]?=U v->Ds u R k v=J
 |[],_,_,q,k,v,X,_=>by simp at X
 |_::_,[],h,q,k,v,_,_=>by simp[jI] at h
 |Q::W,O::l,h,0,k,v,X,V=>by simp only[jI,aDc] at h;simp at X V;subst X V;exact h.1
 |Q::W,O::l,h,q+1,k,v,X,V=>by simp only[jI,aDc] at h;exact ajS h.2 q k v (by simpa using X) (by simpa using V)
def ajT(h:jI n v e y=J){X:RK}{M:RV}(H:e[N]?=U (.ref X))(V:(y.map (SV.xv F))[N]?=U (.r M)):
  ∃r:RE,((∃L,X=.mr L/\r.oV n ⟨[],[],0,0,v,0,0,[]⟩ L=J)\/r.fits n ⟨[],[],0,0,v,0,0,[]⟩ X.rd=J)/\M=r.rv F:=by
 rw[aDj] at V;cases Q:y[N]? with
 |none=>rw[Q] at V;cases V
 |some W=>
  rw[Q] at V;have:=ajS h N _ W H Q;unfold Ds at this;split at this;rename_i R;cases R;rename_i R;cases R;rename_i R;cases R;simp only[aDn,aDh,SV.xv,XV.r.injEq] at V;refine⟨_, ?_,V.symm⟩;split at this;exact .inl ⟨_,rfl,this⟩;exact .inr this;cases this
def M6(h:jI n v e y=J)(Q:xQ n e (y.map (SV.xv F)) N):F.ow n v N:=by
 obtain⟨q,X,C,M,L,V⟩:=Q;obtain⟨r,W,rfl⟩:=ajT h M L;rcases W with⟨B,rfl,-⟩|W;cases V;have R:=ajR V;obtain⟨H,D⟩:=Yw (O:=F) W R;exact auH (s:=⟨[],[],0,0,v,0,0,[]⟩) D H R
def xR(u:Ty)(W:World)(V:aR)(R:aW):Prop:=∀(q:Nat)(e:RK)(X:RV),V[q]?=U (.ref e)->R[q]?=U (.r X)->bz W u e X
def ajU{u:Ty}{W:World}{B:Nat}{old:Nat->Prop}:∀{V:aR}{X:aW},xR u W V X->(∀b,xQ u V X b->B<=b\/old b)->In u W B old V X
 |[],X,_,_=>by cases X<;>trivial
 |_::_,[],_,_=>trivial
 |k::V,x::X,h,N=>by
  refine⟨?_,ajU (λq e R Q O=>h (q+1) e R (by simpa using Q) (by simpa using O)) (λb ⟨q,e,R,Q,O,M⟩=>N b ⟨q+1,e,R,by simpa using Q,by simpa using O,M⟩)⟩;cases k<;>cases x<;>try trivial
  exact⟨h 0 _ _ rfl rfl,λb L=>N b ⟨0,_,_,rfl,rfl,L⟩⟩
def RD(C W:World):dE C bR.none [] [] [] W:=⟨rfl,rfl,λn l r X h=>by simp[bR.none] at h,λn V l r R h=>by simp[bR.none] at h,[],rfl,λ_=>rfl,by simp[bR.none],λd h=>by simp[bR.none] at h⟩
def jD.RF{N:aj}{C:World}{V:aj}{O:ac}{L:bA}{u:Ty}{X:aE}{W:World}(R:jD N C V O L u X W)(H:Y O.r=Y X)(F:∀(k:Nat)(t:TypeId),X[k]?≠U (.own t)):az N C bR.none u [] (O.at []) ⟨[],[],Y O.i,Y O.b,X,0,0,[]⟩ ⟨#[],[]⟩ W:=
 ⟨⟨R.base,λi h=>by simp[aM,cK] at h,λi j h=>by simp[aM,cK] at h,λi t A h=>by simp[cK] at h,λk e M Q D=>⟨(R.ref k e M Q D).1,λb z i B=>by simp[aM,cK] at B⟩⟩,rfl,rfl,rfl,H,RD _ _,rfl,λt y h=>by simp at h,λk e M b Q=>absurd Q (F k e)⟩
def RG:∀{l W:aE},BR l W=J->oz l W/\∀(k:Nat)(t:TypeId),W[k]?≠U (.own t)
 |[],[],_=>⟨oz.refl _,λk t h=>by simp at h⟩
 |[],_::_,h=>by simp[BR] at h
 |_::_,[],h=>by simp[BR] at h
 |x::N,y::M,h=>by
  simp only[BR,aDc] at h;obtain⟨V,Q⟩:=RG h.2;have R:pg x y/\∀t,y≠ .own t:=by
   have L:=h.1;cases x<;>cases y<;>simp_all[Rx,pg]
  refine⟨⟨by simp[V.len],λk O X=> ?_⟩,λk t X=> ?_⟩;cases k with
  |zero=>simp at X;subst X;exact⟨x,rfl,R.1⟩
  |succ k=>exact V.get k O (by simpa using X)
  cases k with
  |zero=>simp at X;exact R.2 t X
  |succ k=>exact Q k t (by simpa using X)
def auI{e:RK}(h:FA (.ref e)=J):e.rd=e:=by cases e<;>simp[FA] at h<;>rfl
def Z7{X:aE}(h:oz v X)(W:F.ow n X N):F.ow n v N:=by
 obtain⟨k,e,V,R⟩:=W;obtain⟨Q,M,L⟩:=h.get k e V;exact⟨k,Q,M,R.mc L⟩
def ajV:∀{l W:aE},BS l W=J->oz l W
 |[],[],_=>oz.refl _
 |[],_::_,h=>by simp[BS] at h
 |_::_,[],h=>by simp[BS] at h
 |x::O,y::N,h=>by
  simp only[BS,aDc] at h;have V:=ajV h.2;have R:pg x y:=by
   have M:=h.1;cases x<;>cases y<;>simp_all[Rx,ajB,pg]
  refine⟨by simp[V.len],λk Q X=> ?_⟩;cases k with
  |zero=>simp at X;subst X;exact⟨x,rfl,R⟩
  |succ k=>exact V.get k Q (by simpa using X)
def ajW{D:aj}{C:World}{V:aj}{O:ac}{B:bA}{u:Ty}{Q:aE}{W:World}(R:jD D C V O B u Q W)(M:Y O.r=Y Q)(L:∀(k:Nat)(t:TypeId),Q[k]?≠U (.own t)){N:aR}{l:ai}(h:jI u Q N l=J)(A:ou N=J):xR u W N (l.map (SV.xv O)):=by
 intro q e y H z;obtain⟨r,X,rfl⟩:=ajT h H z;rcases X with⟨F,rfl,X⟩|X;simp only[RE.oV,aDE,decide_eq_true_eq] at X;rcases X with X|X;have:=pU (R.RF M L) (e:=.mr F) (r:=r) (by simp) (by
  rw[BF (s:=⟨[],[],Y O.i,Y O.b,Q,0,0,[]⟩) (s':=⟨[],[],0,0,Q,0,0,[]⟩) rfl r];exact X)
 rwa [RE.lp] at this
 unfold RE.nil at X;split at X;exact bz.mr F [] (by simp) (by simp) (by simp) (by simp);cases X;have:=ahb (R.RF M L) (k:=e.rd) (r:=r) (by
  unfold RE.fits at X⊢;rw[BF (s:=⟨[],[],Y O.i,Y O.b,Q,0,0,[]⟩) (s':=⟨[],[],0,0,Q,0,0,[]⟩) rfl r];exact X)
 rwa [auI (QL A H),RE.lp] at this
def F9(u:Ty)(B:Nat)(old:Nat->Prop)(O:ac)(X:aE):Prop:=∀b,O.ow u X b->B<=b\/old b
def RI:∀(X:aR)(s:S),(s.bW X).2.rs=s.rs++iR X
 |[],s=>by simp[S.bW,iR]
 |k::X,s=>by
  simp only[S.bW];rw[RI X];cases k<;>simp[S.fresh,iR]
def M7{X:aW}(W:dP e X)(V:Y F.r=Y v):(F.ext X).r.length=(v++iR e).length:=by
 have:=(xK e X ⟨[],[],Y F.i,Y F.b,v,0,0,[]⟩ F W rfl rfl V).2.2
 rwa [RI] at this
def F9.ext{u:Ty}{B:Nat}{old:Nat->Prop}{O:ac}{V:aE}(h:F9 u B old O V){R:aR}{X:aW}(L:dP R X)(H:Y O.r=Y V)(D:∀b,xQ u R X b->B<=b\/old b):F9 u B old (O.ext X) (V++iR R):=by
 intro b ⟨k,e,F,C⟩;have A:k<(O.ext X).r.length:=by rw[M7 L H];exact(aDd.1 F).1
 have z:(O.ext X).r[k]?=U ((O.ext X).rv k):=by simp[ac.rv,A]
 have:=FW (PP:=λe W=>∀b,de u e W b->B<=b\/old b) R X ⟨[],[],Y O.i,Y O.b,V,0,0,[]⟩ O L H
  (λq e W N Q b M=>D b ⟨q,e,W,N,Q,M⟩) (λk e W N Q b M=>h b ⟨k,e,N,by
   have y:k<Y O.r:=(aDd.1 Q).1;have:O.rv k=W:=by simp[ac.rv,Q]
   rw[this];exact M⟩)
 rw[RI] at this;exact this k e _ F z b C
def M8(u:Ty)(D:gT)(Q:aR)(C:World)(X:aR)(d:aW)(out:bn):Ending->World->Prop
 |.returned v,V=>∃R W,out=.ret R/\nO R W/\dP Q W/\v=F8 (um u D (nP Q W))/\Below C.heap.size C V/\xR u V Q W/\∀b,xQ u Q W b->C.heap.size<=b\/xQ u X d b
 |.panicked O,V=>Below C.heap.size C V/\∃v,out=.bj v/\O=[{v:=v,recovered:=E}]
 |.outgrown,_=>False
def Ga(P:Program)(u:Ty)(H M:FuncId->iQ)(G:World->Prop)(f:FuncId)(F:aW->jH):Prop:=
 ∀R D X Q,H f=U R->M f=U D->gA u R=U X->gA u D=U Q->∀(O V:aW)(out:bn),F O=U out->nO O V->dP X V->∀W,G W->xR u W X V->
  Calls P f (um u R (nP X V)).toArray W (M8 u D Q W X V out)
section
variable{P:Program}{u:Ty}{H M:FuncId->iQ}{bi:me}{G:World->Prop}{C:World}{D:gT}{Q X:aR}{d:aW}{out:bn}{old:Nat->Prop}
def M9(P:Program)(u:Ty)(C:World)(D:gT)(Q X:aR)(d:aW)(out:bn):Sp:=⟨P,u,[],C,bR.none,M8 u D Q C X d out,λ_ _ _=>False⟩
def Na(u:Ty)(H M:FuncId->iQ)(bi:me)(D:gT)(out:bn)(X:Fr)(V:List Fr)(R:aW)(n:Nat):Prop:=∃W,nO W R/\run u H M bi D n X.t (X.O.ext W) X.rs (X::V)=U out
def Z8(u:Ty)(H M:FuncId->iQ)(bi:me)(C:World)(D:gT)(old:Nat->Prop)(out:bn)(X:Fr)(V:List Fr)(N:Nat)(W:aW):Prop:=
 (∀b,xQ u X.ks W b->C.heap.size<=b\/old b)/\∃n,n<=N/\Na u H M bi D out X V W n
def ajX(W:World)(V:List PanicEntry)(R:World)(b:Nat)(o:Obj)(N:W.heap.size<=b)(h:M8 u D Q W X d out (.panicked V) R):M8 u D Q W X d out (.panicked V) (R.putObj b o):=
 ⟨⟨h.1.os,h.1.tape,h.1.output,by have:=h.1.size;simpa[World.putObj] using this,λk O=>(World.putObj_heap_other (by omega)).trans (h.1.block k O)⟩,h.2⟩
def auJ{p:Nat->Prop}:∀{n:Nat},p n->∃m,p m/\m<=n/\∀k,p k->m<=k:=by
 intro n;induction n using aE4 with
 |ind n V=>
  intro h;by_cases W:∃k,k<n/\p k;obtain⟨k,X,R⟩:=W;obtain⟨m,Q,M,O⟩:=V k X R;exact⟨m,Q,by omega,O⟩;exact⟨n,h,aDm _,λk X=>by by_cases N:k<n;exact absurd ⟨k,N,X⟩ W;omega⟩
open Classical in
noncomputable def Jj(p:Nat->Prop):Nat:=if h:∃m,p m/\∀k,p k->m<=k then Classical.choose h else 0
def ajY{p:Nat->Prop}(h:p N):p (Jj p)/\Jj p<=N:=by
 obtain⟨m,W,R,V⟩:=auJ h;have X:∃m,p m/\∀k,p k->m<=k:=⟨m,W,V⟩;unfold Jj;rw[dif_pos X];exact⟨(Classical.choose_spec X).1,(Classical.choose_spec X).2 N h⟩
inductive uo(u:Ty)(H M:FuncId->Option (List TypeId))(bi:me)(C:World)(D:List TypeId)(old:Nat->Prop)(out:bn):Nat->List Fr->List LC->Prop where
 |nil (n:Nat):uo u H M bi C D old out n [] []
 |cons (n N m:Nat) (fr:Fr) (st:List Fr) (L:List LC):n<=m->m<=N->uo u H M bi C D old out n st L->
   uo u H M bi C D old out n (fr::st) (⟨fr.au,Z8 u H M bi C D old out fr st N,λxs=>Jj (Na u H M bi D out fr st xs),m⟩::L)
def uo.mono{V:Nat}{W:List Fr}(h:uo u H M bi C D old out N W f)(O:V<=N):uo u H M bi C D old out V W f:=by
 induction h with
 |nil=>exact uo.nil _
 |cons X m F W f B R A Q=>exact uo.cons _ _ _ _ _ _ (by omega) R Q
def uo.find{au:Nat}{R Q:List Fr}{V:Fr}(h:uo u H M bi C D old out N R f)(W:F7 au R=U (V,Q)):
  ∃X m,N<=m/\m<=X/\mI au f=U ⟨V.au,Z8 u H M bi C D old out V Q X,λF=>Jj (Na u H M bi D out V Q F),m⟩:=by
 induction h with
 |nil=>simp[F7] at W
 |cons X m s R f B A r z=>
  simp only[F7] at W;split at W;rename_i O;cases W;exact⟨X,m,B,A,by simp[mI,O]⟩;rename_i O;obtain⟨y,x,w,v,t⟩:=z W;exact⟨y,x,w,v,by simp only[mI,O,if_false];exact t⟩
def auK(bb:∀f,Ga P u H M G f (bi f))(hG:∀W W',Below W.heap.size W W'->G W->G W')(bd:G C)(bf:gA u D=U Q)(bg:∀ys b,xQ u Q ys b->old b->xQ u X d b):
  ∀(n:Nat)(t:T)(p O:ac)(F:aE)(st:List Fr)(L:cZ),run u H M bi D n t p F st=U out->iI p O->Y O.r=Y F->F9 u C.heap.size old O F->uo u H M bi C D old out n st L->
   t.aT (M9 P u C D Q X d out) O L:=by
 intro n;induction n using aE4 with
 |ind n IH=>
  intro t p O F st L h R B w hC;cases n with
  |zero=>simp[run] at h
  |succ n=>
   cases t with
   |out e s=>simp[run] at h
   |stuck m=>simp[run] at h
   |ret v bx al=>
    simp only[run] at h;split at h;rename_i he;obtain⟨hw,a0⟩:=RG he;unfold ZX at h;split at h;rename_i l ks hl a;rw[bf] at a;cases a;split at h;rename_i ab;cases h;simp only[aDc] at ab;obtain⟨ab,bk⟩:=ab;intro y V W hR;have R:iI p (O.at y):=⟨R.i,R.b,R.len,R.r⟩;have B:(O.at y).r.length=Y F:=B;have w:F9 u C.heap.size old (O.at y) F:=w;generalize O.at y=O at R B w hR⊢;obtain⟨h1,h2⟩:=Ji (O:=O) (V:=V) ab;refine⟨_,l.map (SV.xv O),rfl,BT R l,h2,by rw[ajQ hl,h1],M4 hR.base,ajW hR (B.trans hw.len.symm) a0 ab bk,λb q=>(w b (Z7 hw (M6 ab q))).imp id (bg _ b q)⟩;cases h;cases h;cases h
   |bj v=>
    simp only[run,aEx] at h;obtain⟨pv,hv,rfl⟩:=h;intro y V W hO;have R:iI p (O.at y):=⟨R.i,R.b,R.len,R.r⟩;refine⟨M4 hO,pv,rfl, ?_⟩;unfold F6 at hv;split at hv;cases hv;simp only[SV.den,IE.co R];cases hv
   |node b t f=>
    simp only[run] at h;rw[BE.co R] at h;refine⟨λq=> ?_,λq=> ?_⟩;rw[if_pos q] at h;exact IH n (by omega) t p O F st L h R B w (hC.mono (by omega));rw[if_neg (by simp[q])] at h;exact IH n (by omega) f p O F st L h R B w (hC.mono (by omega))
   |aV b t=>
    simp only[run] at h;rw[BE.co R] at h;split at h;rename_i q;exact⟨q,IH n (by omega) t p O F st L h R B w (hC.mono (by omega))⟩;cases h
   |call f cc bx al ks fG t=>
    simp only[run] at h;split at h;rename_i he;obtain⟨hw,a0⟩:=RG he;split at h;rename_i cf hx;unfold ZY at hx;split at hx;rename_i ps bl bo br;split at hx;rename_i l bs bt r hl b0 b1 b2;split at hx;rename_i hc;simp only[aDc,decide_eq_true_eq] at hc;obtain⟨⟨⟨c1,cp⟩,rfl⟩,c3⟩:=hc;cases hx;intro y V W hR;have an:iI p (O.at y):=⟨R.i,R.b,R.len,R.r⟩;have cl:F9 u C.heap.size old (O.at y) F:=w;obtain⟨a1,a2⟩:=Ji (O:=O.at y) (V:=V) c1;have hB:=M4 hR.base;have b3:=ajW hR (B.trans hw.len.symm) a0 c1 cp;rw[RC hl,a1];cases ho:bi f (l.map (SV.xv p)) with
    |none=>rw[ho] at h;cases h
    |some o=>
     rw[ho] at h;refine(bb f ps bl bs bt bo br b0 b1 _ _ o ho (BT an l) a2 W (hG _ _ hB bd) b3).mono ?_;intro e W' hE;cases e with
     |outgrown=>exact hE.elim
     |panicked ch=>
      obtain⟨e1,pv,rfl,rfl⟩:=hE;simp only[aDh] at h;subst h;exact⟨e1,auE hB e1,pv,rfl,rfl⟩
     |returned v=>
      obtain⟨yh,ys,rfl,e2,e3,rfl,e5,e6,e7⟩:=hE;rw[show SV.xv (O.at y)=SV.xv O from funext (SV.Zx O y)] at e7;simp only at h;split at h;rename_i cm;refine⟨ys,e3, ?_,e5,ajU e6 (λb q=>(e7 b q).imp id (λb4=>M6 c1 b4)), ?_⟩;rw[<-MQ,ajQ b2,M5 c3 e3 (by rw[an.i]) (by rw[an.b]) (by rw[an.len])];refine IH n (by omega) t _ _ _ st L h (R.ext e2) (M7 e3 B) (w.ext e3 B (λb q=> ?_)) (hC.mono (by omega));rcases e7 b q with h1|h1;exact .inl (aDY hB.size h1);exact w b (Z7 hw (M6 c1 h1));cases h
    cases hx;cases hx;cases hx;cases h;cases h
   |loop au ks x0 t=>
    simp only[run] at h;split at h;rename_i ab;have cs:=(Ji (O:=O) (V:=[]) ab).2;refine⟨Z8 u H M bi C D old out ⟨au,ks,t,p,F++iR ks⟩ st n,λxs=>Jj (Na u H M bi D out ⟨au,ks,t,p,F++iR ks⟩ st xs),⟨λb q=>w b (M6 ab q),n,aDm _,x0.map (SV.xv p),BT R x0,h⟩, ?_⟩;intro xs hf ⟨i1,n1,i2,i3⟩;obtain⟨⟨xh,j1,j2⟩,j3⟩:=ajY i3;refine IH _ (by omega) t _ _ _ _ _ j2 (R.ext j1) (M7 hf B) (w.ext hf B i1) ?_;exact uo.cons _ _ _ _ _ _ (aDm _) (aDY j3 i2) (hC.mono (by omega));cases h
   |back au x=>
    simp only[run] at h;split at h;rename_i fr b5 b6;split at h;rename_i ab;obtain⟨N,m,g1,g2,g3⟩:=hC.find b6;simp only[T.aT,g3];have a4:Na u H M bi D out fr b5 (x.map (SV.xv O)) n:=⟨x.map (SV.xv p),BT R x,h⟩;refine⟨⟨λb q=>w b (M6 ab q),n,by omega,a4⟩, ?_⟩;have:=(ajY a4).2;omega;cases h;cases h
   |new e x al ct t=>
    simp only[run] at h;split at h;rename_i he;have hw:=ajV he;intro rv a5;obtain⟨A,m,c,rfl,hm⟩:=a5.val;subst hm;refine IH n (by omega) t _ _ _ st L h (R.add (Rv R x)) (by simp[ac.add,B]) ?_ (hC.mono (by omega));intro b ⟨k,e',a,hl⟩;by_cases af:k<Y F;rw[aDg af] at a;refine w b ⟨k,e',a, ?_⟩;have:(O.add (.r (.mk (.slice A (x.rows O).length c) (x.rows O)))).rv k=O.rv k:=by simp[ac.rv,ac.add,aDg,B,af]
    rw[<-this];exact hl;have ag:k=Y F:=by
     have:=(aDd.1 a).1;simp at this;omega
    subst ag;simp at a;subst a;have e1:(O.add (.r (.mk (.slice A (x.rows O).length c) (x.rows O)))).rv (Y F)=.mk (.slice A (x.rows O).length c) (x.rows O):=by rw[<-B];simp[ac.rv,ac.add]
    rw[e1] at hl;have b7:=ajR hl;rcases a5.ow b b7 with g|g|g;exact .inl g;cases g;exact w b (Z7 hw g);cases h
   |rows k x al t=>
    simp only[run] at h;split at h;rename_i he;refine IH n (by omega) t _ _ _ st L h (R.add (Rv R x)) (by simp[ac.add,B]) ?_ (hC.mono (by omega));intro b ⟨k',e',a,hl⟩;by_cases af:k'<Y F;rw[aDg af] at a;refine w b ⟨k',e',a, ?_⟩;have:(O.add (.r (gf x O))).rv k'=O.rv k':=by simp[ac.rv,ac.add,aDg,B,af]
    rw[<-this];exact hl;have ag:k'=Y F:=by
     have:=(aDd.1 a).1;simp at this;omega
    subst ag;simp at a;subst a;cases k<;>simp[Z0] at he;cases hl;cases h
   |fA g h' t f=>
    simp only[run] at h;rw[BE.co R,BE.co R] at h;refine⟨λq=> ?_,λq=> ?_⟩;rw[if_pos q] at h;split at h;exact IH n (by omega) t p O F st L (Jg h).1 R B w (hC.mono (by omega));exact IH n (by omega) t p O F st L h R B w (hC.mono (by omega));simp only[q,if_true] at h;split at h;exact IH n (by omega) f p O F st L (Jg h).2 R B w (hC.mono (by omega));exact IH n (by omega) f p O F st L h R B w (hC.mono (by omega))
   |pick m g h' t f=>
    simp only[run] at h;refine⟨λj h1 h2 h3=> ?_,λq=> ?_⟩;have a6:iI (p.add (.i j)) (O.add (.i j)):=R.add (x:=.i j) (y:=.i j) rfl;have hj:=Jh h _ (aDF.2 ⟨U j,Z4 (g:=g) (h:=h') h1 (by rw[IE.co R];exact h2) (by rw[BE.co a6];exact h3),rfl⟩);exact IH n (by omega) t _ _ F st L hj a6 B w (hC.mono (by omega));have hj:=Jh h _ (aDF.2 ⟨Z,Z5 (m:=m) (g:=g) (h:=h') (by rw[BE.co R];exact q),rfl⟩);exact IH n (by omega) f _ _ F st L hj R B w (hC.mono (by omega))
   |dw f g e sp sb r al t=>
    simp only[run] at h;split at h;rename_i he;simp only[aDc] at he;obtain⟨he,ap⟩:=he;have a7:=RE.co R r;split at h;rename_i b8 a8;obtain⟨rows,a3,cv⟩:=ajH R a7.Jc a8;refine⟨rows,agw a3, ?_⟩;have a9:=YW (agw a3);have ca:ck (.mk (r.rv p).val b8) (.mk (r.rv O).val rows):=a7.dw R a8 a3;refine IH n (by omega) t _ _ _ st L h (R.add ca) (by simp[ac.add,B]) ?_ (hC.mono (by omega));intro b ⟨k,e',a,hl⟩;by_cases af:k<Y F;rw[aDg af] at a;refine w b ⟨k,e',a, ?_⟩;have:(O.add (.r (.mk (r.rv O).val rows))).rv k=O.rv k:=by simp[ac.rv,ac.add,aDg,B,af]
    rw[<-this];exact hl;have ag:k=Y F:=by
     have:=(aDd.1 a).1;simp at this;omega
    subst ag;simp at a;subst a;have e1:(O.add (.r (.mk (r.rv O).val rows))).rv (Y F)=.mk (r.rv O).val rows:=by rw[<-B];simp[ac.rv,ac.add]
    rw[e1] at hl;unfold ZZ at ap;split at ap;rename_i k;exact w b ⟨k,_,of_decide_eq_true ap,auA hl a9⟩;cases hl with
    |own e rv b hl=>
     have h0:rows=[]:=by
      cases rows with
      |nil=>rfl
      |cons x xs=>have:=a9 x (by simp);simp[RE.rv] at this
     subst h0;simp only[RE.rv] at hl;cases hl with
     |deep e v rows i j cx c z k b h1 h2 h3 h4=>simp at h1
    cases ap;cases h;cases h
def uq:aR->Bool
 |[]=>J
 |.ref (.sl _)::_=>E
 |.ref (.own _)::_=>E
 |_::X=>uq X
def ajZ:∀{ks:aR}{xs:aW}{b:Nat},uq ks=J->¬xQ u ks xs b
 |[],xs,b,_,⟨q,e,W,X,_,_⟩=>by simp at X
 |k::ks,xs,b,h,⟨0,e,W,X,V,R⟩=>by
  simp at X;subst X;cases R<;>simp[uq] at h
 |k::ks,[],b,h,⟨q+1,e,W,X,V,R⟩=>by simp at V
 |k::ks,x::xs,b,h,⟨q+1,e,W,X,V,R⟩=>ajZ (ks:=ks) (xs:=xs) (b:=b) (by
   cases k with
   |ref r=>cases r<;>simp[uq] at h⊢<;>exact h
   |int _=>simpa[uq] using h
   |bool=>simpa[uq] using h) ⟨q,e,W,by simpa using X,by simpa using V,R⟩
def eL(X:aF)(W:aW):ac:=(⟨[],[],X,[]⟩:ac).ext W
end
variable{l:bn}
def Nb:SV->ai
 |.agg l=>l
 |v=>[v]
def nQ:ai->ai
 |[]=>[]
 |v::X=>Nb v++nQ X
def ur:SV->ai
 |.bK l=>nQ l
 |v=>Nb v
def auL:SV->Bool
 |.eP _ (.int _ _)=>J
 |_=>E
def nI:aR->Nat
 |[]=>0
 |.int _::X=>nI X+1
 |_::X=>nI X
def nB:aR->Nat
 |[]=>0
 |.bool::X=>nB X+1
 |_::X=>nB X
def aj0(c:Ty)(d:gT)(v:SV)(W:aE):Bool:=match jm c d (xP (Y d) v),gA c d with
 |U l,U X=>jI c W X l&&ou X
 |_,_=>E
def aj1(c:Ty)(H M:FuncId->iQ)(f:FuncId)(P:ai)(O N:Nat)(W:aE)(V:aR)(fG:SV):Bool:=match H f,M f with
 |U R,U X=>match jm c R P,gA c R,gA c X,jm c X (xP (Y X) fG) with
  |U l,U Q,U L,U r=>jI c W Q l&&ou Q&&decide (L=V)&&rf O N (Y W) V r
  |_,_,_,_=>E
 |_,_=>E
def Nc(au:Nat):List (Nat×aR)->Option aR
 |[]=>Z
 |x::X=>if x.1=au then U x.2 else Nc au X
def T.eI(c:Ty)(H M:FuncId->iQ)(d:gT):T->Nat->Nat->aE->List (Nat×aR)->Bool
 |.ret v _ P,_,_,X,_=>BR X P&&aj0 c d v P
 |.bj v,_,_,_,_=>auL v
 |.node _ t f,V,R,X,W=>t.eI c H M d V R X W&&f.eI c H M d V R X W
 |.aV _ t,V,R,X,W=>t.eI c H M d V R X W
 |.call f O _ P Q fG t,V,R,X,W=>BR X P&&aj1 c H M f O V R P Q fG&&t.eI c H M d (V+nI Q) (R+nB Q) (X++iR Q) W
 |.loop au Q N t,V,R,X,W=>jI c X Q N&&t.eI c H M d (V+nI Q) (R+nB Q) (X++iR Q) ((au,Q)::W)
 |.back au x,_,_,X,W=>match Nc au W with
  |U Q=>jI c X Q x
  |none=>E
 |.new e _ P _ t,V,R,X,W=>BS X P&&t.eI c H M d V R (X++[.own e]) W
 |.rows k _ _ t,V,R,X,W=>Z0 k&&t.eI c H M d V R (X++[k]) W
 |.fA _ _ t f,V,R,X,W=>t.eI c H M d V R X W&&f.eI c H M d V R X W
 |.pick _ _ _ t f,V,R,X,W=>t.eI c H M d (V+1) R X W&&f.eI c H M d V R X W
 |.dw _ _ e _ _ r P t,V,R,X,W=>BS X P&&ZZ X r e&&t.eI c H M d V R (X++[.own e]) W
 |.stuck _,_,_,_,_=>J
 |.out _ _,_,_,_,_=>E
structure Lp where
 au:Nat
 t:T
 O:ac
abbrev jo:=List Lp
def pY(au:Nat):jo->Option (Lp×jo)
 |[]=>Z
 |x::X=>if x.au=au then U (x,X) else pY au X
def exec(bi:me):Nat->T->ac->jo->jH
 |0,_,_,_=>Z
 |_+1,.ret v _ _,O,_=>U (.ret ((ur v).map (SV.xv O)))
 |_+1,.bj v,O,_=>(F6 O v).map .bj
 |n+1,.node b t f,O,X=>if b.den O then exec bi n t O X else exec bi n f O X
 |n+1,.aV b t,O,X=>if b.den O then exec bi n t O X else Z
 |n+1,.call f R _ _ Q _ t,O,X=>match bi f ((nQ R).map (SV.xv O)) with
  |U (.ret V)=>if fq Q V then exec bi n t (O.ext V) X else Z
  |U (.bj v)=>U (.bj v)
  |none=>Z
 |n+1,.loop au _ P t,O,X=>exec bi n t (O.ext (P.map (SV.xv O))) (⟨au,t,O⟩::X)
 |n+1,.back au x,O,X=>match pY au X with
  |U (W,N)=>exec bi n W.t (W.O.ext (x.map (SV.xv O))) (W::N)
  |none=>Z
 |n+1,.new _ x _ _ t,O,X=>exec bi n t (O.add (.r (gf x O))) X
 |n+1,.rows _ x _ t,O,X=>exec bi n t (O.add (.r (gf x O))) X
 |n+1,.fA g h t f,O,X=>if g.den O then(if h.den O then zQ (exec bi n t O X) (exec bi n f O X) else exec bi n t O X) else(if h.den O then exec bi n f O X else Z)
 |n+1,.pick m g h t f,O,X=>rg ((pi m g h O).map λj=>match j with
  |U j=>exec bi n t (O.add (.i j)) X
  |none=>exec bi n f O X)
 |n+1,.dw _ _ _ M L r _ t,O,X=>match l9 O M L (r.rv O).rows with
  |U H=>exec bi n t (O.add (.r (.mk (r.rv O).val H))) X
  |none=>Z
 |_,_,_,_=>Z
def auM{X:LK}(h:Ds n v X k=J):Nb k=[k]:=by
 unfold Ds at h;split at h<;>first|rfl|cases h
def Nd{c:Ty}{P:aE}:∀{d:gT}{M l:ai}{X:aR},jm c d M=U l->gA c d=U X->jI c P X l=J->nQ M=l
 |[],[],l,X,h,_,_=>by simp[jm] at h;simp[nQ,h]
 |[],_::_,l,X,h,_,_=>by simp[jm] at h
 |_::_,[],l,X,h,_,_=>by simp[jm] at h
 |t::d,v::M,l,X,h,O,L=>by
  simp only[jm] at h;split at h;rename_i y r C H;simp only[gA,C] at O;split at O;rename_i w G B F;cases B;cases O;have D:∀(a:aR)(b:ai),Y a=Y b->jI c P (a++G) (b++r)=J->jI c P a b=J/\jI c P G r=true:=by
   intro a;induction a with
   |nil=>intro b N R;cases b with
    |nil=>exact⟨rfl,R⟩
    |cons=>simp at N
   |cons k a A=>intro b N R;cases b with
    |nil=>simp at N
    |cons x b=>
     simp only[aDi,jI,aDc] at R⊢;obtain⟨W,Q⟩:=A b (by simpa using N) R.2;exact⟨⟨R.1,W⟩,Q⟩
  split at h;split at h;rename_i u;split at h;rename_i V;simp only[beq_iff_eq] at V;cases h;obtain⟨W,Q⟩:=D _ _ (by simp[V]) L;simp only[nQ,Nb,Nd H F Q];cases h;cases h;split at h;rename_i V;simp only[beq_iff_eq] at V;cases h;obtain⟨W,Q⟩:=D _ [v] (by simp[V]) L;obtain⟨s,z⟩:=aDJ.1 V;rw[z] at W;simp only[aDt,aEK,jI,aFg] at W;simp only[nQ,auM W,Nd H F Q,aDi,aDl];cases h;cases O;cases h
def auN{d:gT}(h:jm n d (xP (Y d) k)=U y)(W:gA n d=U e)(X:jI n v e y=J):ur k=y:=by
 rw[<-Nd h W X];cases k
 case bK L=>
  simp only[xP,ur];split;rename_i V;simp only[beq_iff_eq] at V;exfalso;have Q:=Nd h W X;simp only[xP,V,beq_self_eq_true,if_true] at h Q;obtain⟨t,P⟩:=aDJ.1 V;subst P;simp only[jm,gA] at h W;split at h;rename_i H r V O;cases O;split at h;cases h;split at h;rename_i R;cases h;rw[V] at W;simp only[aDh] at W;subst W;simp only[beq_iff_eq] at R;obtain⟨G,N⟩:=aDJ.1 R;rw[N] at X;simp only[aDt,aEK,aEO,jI,aFg] at X;unfold Ds at X;split at X<;>first|(rename_i M;cases M)|cases X
  cases h;cases h;rfl
 all_goals simp[xP,ur,nQ]
section
variable{c:Ty}{H M:FuncId->iQ}{bi:me}{d:gT}
def Dt:∀{X:aR}{W:aW}{O:ac},dP X W->(O.ext W).i.length=Y O.i+nI X/\(O.ext W).b.length=Y O.b+nB X/\(O.ext W).r.length=Y O.r+(iR X).length
 |[],[],O,_=>⟨rfl,rfl,rfl⟩
 |[],_::_,O,h=>h.elim
 |_::_,[],O,h=>h.elim
 |k::X,x::W,O,h=>by
  obtain⟨V,R⟩:=h;obtain⟨Q,P,N⟩:=Dt (O:=O.add x) R;simp only[ac.ext,Q,P,N];cases k<;>cases x<;>simp only[pS] at V<;>simp[ac.add,nI,nB,iR]<;>omega
inductive zR(c:Ty)(H M:FuncId->Option (List TypeId))(d:List TypeId):List (Nat×List LK)->List Lp->List Fr->Prop where
 |nil:zR c H M d [] [] []
 |cons (au:Nat) (ks:List LK) (t:T) (O:ac) (rs:List RK) (lv:List (Nat×List LK)) (sl:List Lp) (st:List Fr):Y O.r=Y rs->t.eI c H M d (Y O.i+nI ks) (Y O.b+nB ks) (rs++iR ks) ((au,ks)::lv)=J->zR c H M d lv sl st->
   zR c H M d ((au,ks)::lv) (⟨au,t,O⟩::sl) (⟨au,ks,t,O,rs++iR ks⟩::st)
def zR.find{Q:List (Nat×aR)}{L G:jo}{P:List Fr}{X:Lp}(h:zR c H M d Q L P)(W:Nc N Q=U e)(V:pY N L=U (X,G)):
  ∃R F D,F7 N P=U (⟨X.au,e,X.t,X.O,R++iR e⟩,D)/\Y X.O.r=Y R/\X.t.eI c H M d (Y X.O.i+nI e) (Y X.O.b+nB e) (R++iR e) ((X.au,e)::F)=J/\zR c H M d F G D:=by
 induction h with
 |nil=>simp[Nc] at W
 |cons B w t O R Q L P A z y x=>
  simp only[Nc,pY,F7] at W V⊢;by_cases C:B=N;rw[if_pos C] at W V⊢;cases W;cases V;exact⟨R,Q,P,rfl,A,z,y⟩;rw[if_neg C] at W V⊢;exact x W V
def sC:∀(n:Nat)(t:T)(O:ac)(P:aE)(W:List (Nat×aR))(R:jo)(Q:List Fr)(o:bn),exec bi n t O R=U o->t.eI c H M d (Y O.i) (Y O.b) P W=J->Y O.r=Y P->zR c H M d W R Q->
  run c H M bi d n t O P Q=U o
 |0,t,O,P,W,R,Q,o,h,_,_,_=>by simp[exec] at h
 |n+1,.out _ _,O,P,W,R,Q,o,h,_,_,_=>by simp[exec] at h
 |n+1,.stuck _,O,P,W,R,Q,o,h,_,_,_=>by simp[exec] at h
 |n+1,.ret v bx F,O,P,W,R,Q,o,h,X,N,L=>by
  simp only[exec,aDh] at h;simp only[T.eI,aDc] at X;obtain⟨w,X⟩:=X;simp only[run,w,if_true,ZX];unfold aj0 at X;split at X
  ·rename_i l D u s
   try rw[u,s]
   simp only[X,if_true];simp only[aDc] at X;rw[<-auN u s X.1,h]
  cases X
 |n+1,.bj v,O,P,W,R,Q,o,h,X,N,L=>by simpa only[exec,run] using h
 |n+1,.node b t f,O,P,W,R,Q,o,h,X,N,L=>by
  simp only[exec] at h;simp only[T.eI,aDc] at X;simp only[run];split at h;rename_i C;rw[if_pos C];exact sC n t O P W R Q o h X.1 N L;rename_i C;rw[if_neg C];exact sC n f O P W R Q o h X.2 N L
 |n+1,.aV b t,O,P,W,R,Q,o,h,X,N,L=>by
  simp only[exec] at h;simp only[T.eI] at X;simp only[run];split at h;rename_i C;rw[if_pos C];exact sC n t O P W R Q o h X N L;cases h
 |n+1,.call f a0 bx F D fG t,O,P,W,R,Q,o,h,X,N,L=>by
  simp only[exec] at h;simp only[T.eI,aDc] at X;obtain⟨⟨w,G⟩,af⟩:=X;have ag:=(RG w).1.len;simp only[run,w,if_true,ZY];unfold aj1 at G;split at G
  ·rename_i ps qs u s
   try rw[u,s]
   try simp only
   split at G
   ·rename_i l pk qk r g1 g2 g3 g4
    try rw[g1,g2,g3,g4]
    try simp only
    rw[ag,<-N] at G;rw[if_pos G];simp only[aDc] at G;rw[Nd g1 g2 G.1.1.1] at h
    try simp only
    split at h
    ·rename_i ys a
     try rw[a]
     try simp only
     split at h;rename_i ab;rw[if_pos ab];obtain⟨B,A,z⟩:=Dt (O:=O) (auG ab);exact sC n t _ _ W R Q o h (by rw[B,A];exact af) (by rw[z,aDs,N]) L;cases h
    ·rename_i v a;(try rw[a]);exact h
    cases h
   cases G
  cases G
 |n+1,.loop au D x0 t,O,P,W,R,Q,o,h,X,N,L=>by
  simp only[exec] at h;simp only[T.eI,aDc] at X;simp only[run,X.1,if_true];obtain⟨B,A,z⟩:=Dt (O:=O) (Ji (O:=O) (V:=[]) X.1).2;exact sC n t _ _ ((au,D)::W) _ _ o h (by rw[B,A];exact X.2) (by rw[z,aDs,N]) (zR.cons _ _ _ _ _ _ _ _ N X.2 L)
 |n+1,.back au x,O,P,W,R,Q,o,h,X,N,L=>by
  simp only[exec] at h;simp only[T.eI] at X;split at h;rename_i p al hf;split at X;rename_i D hk;obtain⟨F,an,a1,q1,q2,q3,q4⟩:=L.find hk hf;simp only[run,q1,X,if_true];obtain⟨B,A,z⟩:=Dt (O:=p.O) (Ji (O:=O) (V:=[]) X).2;exact sC n p.t _ _ ((p.au,D)::an) (p::al) _ o h (by rw[B,A];exact q3) (by rw[z,aDs,q2]) (zR.cons _ _ _ _ _ _ _ _ q2 q3 q4);cases X;cases h
 |n+1,.new e x F a2 t,O,P,W,R,Q,o,h,X,N,L=>by
  simp only[exec] at h;simp only[T.eI,aDc] at X;simp only[run,X.1,if_true];exact sC n t _ _ W R Q o h (by simpa[ac.add] using X.2) (by simp[ac.add,N]) L
 |n+1,.rows k x F t,O,P,W,R,Q,o,h,X,N,L=>by
  simp only[exec] at h;simp only[T.eI,aDc] at X;simp only[run,X.1,if_true];exact sC n t _ _ W R Q o h (by simpa[ac.add] using X.2) (by simp[ac.add,N]) L
 |n+1,.fA g h' t f,O,P,W,R,Q,o,h,X,N,L=>by
  simp only[exec] at h;simp only[T.eI,aDc] at X;simp only[run];have i1:=λq=>sC n t O P W R Q o q X.1 N L
  have i2:=λq=>sC n f O P W R Q o q X.2 N L
  split at h;rename_i hg;rw[if_pos hg];split at h;rename_i y;rw[if_pos y];exact ajN h i1 i2;rename_i y;rw[if_neg y];exact i1 h;rename_i hg;rw[if_neg hg];split at h;rename_i y;rw[if_pos y];exact i2 h;cases h
 |n+1,.pick m g h' t f,O,P,W,R,Q,o,h,X,N,L=>by
  simp only[exec] at h;simp only[T.eI,aDc] at X;simp only[run];refine ajO h λj _ q=> ?_
  cases j with
  |some j=>exact sC n t (O.add (.i j)) P W R Q o q (by simpa[ac.add] using X.1) (by simpa[ac.add] using N) L
  |none=>exact sC n f O P W R Q o q X.2 N L
 |n+1,.dw f g e sp sb r F t,O,P,W,R,Q,o,h,X,N,L=>by
  simp only[exec] at h;simp only[T.eI,aDc] at X;simp only[run,X.1.1,X.1.2,aEB,if_true];split at h
  ·rename_i a3 ap
   try rw[ap]
   exact sC n t _ _ W R Q o h (by simpa[ac.add] using X.2) (by simp[ac.add,N]) L
  cases h
def ut(bi:me)(t:T)(O:ac)(X:jo)(o:bn):Prop:=∃n,exec bi n t O X=U o
def Jk{bi:me}{X:jo}:ut bi r F X l<->∃n,exec bi (n+1) r F X=U l:=
 ⟨λ⟨n,h⟩=>by
  cases n with
  |zero=>simp[exec] at h
  |succ n=>exact⟨n,h⟩,λ⟨n,h⟩=>⟨n+1,h⟩⟩
@[simp] def aCu {X:jo}:ut bi (.ret k g v) F X l<->l=.ret ((ur k).map (SV.xv F)):=by
 rw[Jk];simp only[exec,aDh];exact⟨λ⟨_,h⟩=>h.symm,λh=>⟨0,h.symm⟩⟩
@[simp] def aCv {X:jo}:ut bi (.bj k) F X l<->(F6 F k).map .bj=U l:=by
 rw[Jk];simp only[exec];exact⟨λ⟨_,h⟩=>h,λh=>⟨0,h⟩⟩
@[simp] def aCw {b:BE} {f:T} {X:jo}:ut bi (.node b r f) F X l<->if b.den F=J then ut bi r F X l else ut bi f F X l:=by
 rw[Jk];simp only[exec];split<;>rfl
@[simp] def aCx {b:BE} {X:jo}:ut bi (.aV b r) F X l<->b.den F=J/\ut bi r F X l:=by
 rw[Jk];simp only[exec];by_cases W:b.den F=J;simp only[W,if_true,true_and];rfl;simp[W]
@[simp] def aCy {X:jo}:ut bi (.loop N e y r) F X l<->ut bi r (F.ext (y.map (SV.xv F))) (⟨N,r,F⟩::X) l:=by
 rw[Jk];simp only[exec];rfl
@[simp] def aCz {x:LE} {W:aE} {X:jo}:ut bi (.new t x v W r) F X l<->ut bi r (F.add (.r (gf x F))) X l:=by
 rw[Jk];simp only[exec];rfl
end
structure pZ(P:Program)(g:FuncId)(eT:TypeId):Prop where
 BD:∀args W,(callFunc g args).run P W=.ok (.enter g args) W
 ret:∀(W:World)(b:Nat),CallsDIn Fence.wide 0 P g #[.pointer (U ⟨b,0,Z⟩)] .returning W λen u W'=>(∃v,en=.returned v)/\u=.returning/\W'=W
 bj:∀(W:World)(b:Nat)(k0 k:Int),W.heap[b]?=U (.cells #[.int I k0] eT (0,0))->CallsDIn Fence.wide 0 P g #[.pointer (U ⟨b,0,Z⟩)] (.panicking [{v:=.iface eT (.int I k),recovered:=E}]) W λen u W'=>
  (∃v,en=.returned v)/\u=.panicking [{v:=.iface eT (.int I k),recovered:=J}]/\W'=W.putObj b (.cells #[.int I k] eT (0,0))
def auO{c:Code}{d:DI}(h:ud c=U d):∃P O R X W first Q V,c=.seq (.region P d.qR E) (.seq (.region O R E) d.rest)/\R= #[X,W]/\X.op=.makeFunc (.func d.g) first Q/\first= #[]/\Q= #[.tmp d.te]/\X.dst=U d.tf/\X.guard=Z/\W.op=.defer V/\V.callee=.value (.tmp d.tf)/\V.args= #[]/\W.guard=Z/\W.dst=none:=by
 unfold ud at h;split at h;rename_i P qR O R x;unfold agu at h;split at h;rename_i X W M;split at h;rename_i g first Q w V L H G F D C
 split at h;rename_i v u B A z y;split at h;rename_i N;simp only[beq_iff_eq] at N;subst N;cases h;exact⟨P,O,R,X,W,first,Q,V,rfl,by apply aEe;simp[M],L,by apply aEe;simp[B],by apply aEe;simp[A],H,G,F,z,by apply aEe;simp[y],D,C⟩;cases h;cases h;cases h;cases h;cases h
section
variable{p:Sp}{cf:bB}
def auP(b:kG p cf)(ap:∀ch W,¬p.R (.panicked ch) W){G:Func}{c:Code}(hf:p.P.funcs[x]?=U G)(hb:G.body=U c){d:DI}(hd:ud c=U d)(bq:pZ p.P d.g t)
  (ht:Me cf N x c G.ntmps G.results.toList t y w=r)(C:r.aT p F [])(hg:et cf.gl F)(R:az p.S0 p.w0 bR.none cf.ty B F {w with tmps:=[]} ⟨#[],[]⟩ p.w0):
  Calls p.P x (SV.aD F B y).toArray p.w0 p.R:=by
 subst ht;unfold Me at C;rw[hd] at C;simp only at C;obtain⟨i0,i1,cs,a,o2,first,ct,dc,hc,ho,g1,g2,g3,g4,g5,g6,g7,g8,g9,bl⟩:=auO hd;subst ho g2 g3;refine MP hf hb ?_;rw[hc];obtain⟨D1,al⟩:∃D1:bR,D1=⟨[],[],J,[]⟩:=⟨_,rfl⟩;have bo:dE p.w0 D1 w.pd F.y [] p.w0:=by
  subst al;have h:=R.cP;exact⟨h.len,h.qT,h.dB,h.inj,[],rfl,λ_=>rfl,by simp,λd hd=>by simp at hd⟩
 have RE:=R.enter y G.ntmps bo;obtain⟨Rr,a0⟩:=RE.room (lG d.qR.toList);refine Zv (BO (n:=0) (wpIn_region ?_));have hY:=F3 (p:=p) (cf:=cf) D1.dB ⟨{w with tmps:=y++aDq (G.ntmps-Y y) (.bK [])},F,B,[]⟩;have a2:=BB (ops:=d.qR) b.pt b.zp (BN Z) b.ln (Rc b (Ro b N).1 hY) (D:=D1) (k:=X7 cf N x d t (Y w.boxes) G.results.toList) (kp:=λ_ _=>.stuck "") (Q:=Exit.then (λq o=>jG Z x p.P (.seq (.region i1 #[a,o2] E) d.rest) (bodyPostM Fence.wide 0 p.P G p.R) q o) (bodyPostM Fence.wide 0 p.P G p.R)) (λch q o pd X hA hR=>(ap ch o hR).elim) (n:=0) (fH (λ_=>E) J E 0 (Y w.boxes) d.qR.toList) 0 _ [] [] F _ _ p.w0
  (λi m' hi=>by have:=MU _ _ _ _ _ _ _ _ hi;simpa using this) ((kE.here _ _ _ _).go a0 (cM.refl _ _)) C (λM hx=>by cases hx) Rr hg ?_ (λv s' O' V' q o L' hl hL R' br=>br.elim)
 rw[ZA] at a2;simpa[aE9] using a2;intro s1 O1 H z m L1 cU cv R1 ab;show jG Z x p.P (.seq (.region i1 #[a,o2] E) d.rest) (bodyPostM Fence.wide 0 p.P G p.R) z m;unfold X7 at ab;split at ab;rename_i L bs;split at ab;rename_i a3;simp only[aDc,aDv,decide_eq_true_eq] at a3;obtain⟨⟨a4,bx⟩,b0⟩:=a3;have b1:z.tmps[d.te]?=U (.pointer (U ⟨ad H L,0,Z⟩)):=by
  rcases R1.tmps _ _ bs with h|h;cases h;exact h
 have b2:z.defers=[]:=by
  have h:=R1.cP;rw[al] at h;obtain⟨ms,q1,q0,-,-⟩:=h.l8;have:=q0 rfl;subst this;simpa using q1
 have b3:(SV.fn d.g [.loc L 0]).den O1 H=.func (.func d.g) #[] #[.pointer (U ⟨ad H L,0,Z⟩)]:=by simp[SV.den,SV.aD]
 have j:=R1.put (U d.tf) (.fn d.g [.loc L 0]);rw[b3] at j;obtain⟨A,ag⟩:∃A:Deferred,A={target:=.fn (.func d.g) #[.pointer (U ⟨ad H L,0,Z⟩)],args:= #[]}:=⟨_,rfl⟩;have b4:dE p.w0 ⟨[],[],E,[A]⟩ s1.pd O1.y [A] m:=by
  have h:=R1.cP;rw[al] at h;exact⟨h.len,h.qT,h.dB,h.inj,[],rfl,λ_=>rfl,by simp,λd hd=>by simp at hd⟩
 have cx:(s1.put (U d.tf) (.fn d.g [.loc L 0])).pd=s1.pd:=rfl;have R2:az p.S0 p.w0 ⟨[],[],E,[A]⟩ cf.ty H O1 (s1.put (U d.tf) (.fn d.g [.loc L 0])) {z.put (U d.tf) (.func (.func d.g) #[] #[.pointer (U ⟨ad H L,0,Z⟩)]) with defers:=[A]} m:=
  ⟨j.mem,j.fp,j.ei,j.eb,j.er,b4,j.size,j.tmps,j.dJ⟩
 refine Zv (BO (n:=0) (wpIn_region ?_));have b5:aDA (#[a,o2]:cS).size=[0,1]:=rfl;rw[b5];have e1:(execOp z.eval a).run p.P m=.ok (.value (.func (.func d.g) #[] #[.pointer (U ⟨ad H L,0,Z⟩)])) m:=by
  have:z.eval (.tmp d.te)=.pointer (U ⟨ad H L,0,Z⟩):=by simp[Act.eval,aF6,b1]
  simp[execOp,g1,this,Instr.makeFunc]
 have e2:(execOp (z.put (U d.tf) (.func (.func d.g) #[] #[.pointer (U ⟨ad H L,0,Z⟩)])).eval o2).run p.P m=.ok (.defer A) m:=by
  have b6:d.tf<z.tmps.size:=by rw[R1.size];exact b0
  have:(z.put (U d.tf) (.func (.func d.g) #[] #[.pointer (U ⟨ad H L,0,Z⟩)])).eval (.tmp d.tf)=.func (.func d.g) #[] #[.pointer (U ⟨ad H L,0,Z⟩)]:=by
   simp[Act.eval,Act.put,aF6,b6]
  simp[execOp,g6,resolve,g7,g8,this,Deferred.ofValue,ag]
 have b7:Region.wanted a (yielded #[a,o2] z.tmps)=true:=by simp[Region.wanted,g5]
 have b8:∀X,Region.wanted o2 X=true:=λX=>by simp[Region.wanted,g9]
 have ca:∀c',a.op≠ .defer c':=λc' a5=>by rw[g1] at a5;cases a5
 have hF:=BN Z;show wpOpsIn _ 0 p.P #[a,o2] _ [0,1] z m;simp only[wpOpsIn,aFQ,aEb,aDO,b7,b8,if_true];refine⟨λx _=>hF.fn x, ?_⟩;rw[Oper.semAt_eq _ _ _ ca,e1,Oper.uponIn_value,g4];refine⟨λx _=>hF.fn x, ?_⟩;rw[show(Q0 Z).round=Z from rfl,Oper.semAt_none,e2,Oper.uponIn_defer];have cc:({(z.put (U d.tf) (.func (.func d.g) #[] #[.pointer (U ⟨ad H L,0,Z⟩)])) with defers:=A::(z.put (U d.tf) (.func (.func d.g) #[] #[.pointer (U ⟨ad H L,0,Z⟩)])).defers}:Act).put o2.dst undef={z.put (U d.tf) (.func (.func d.g) #[] #[.pointer (U ⟨ad H L,0,Z⟩)]) with defers:=[A]}:=by
  rw[bl];have:(z.put (U d.tf) (.func (.func d.g) #[] #[.pointer (U ⟨ad H L,0,Z⟩)])).defers=[]:=b2;rw[this];rfl
 rw[cc];show jG Z x p.P d.rest (bodyPostM Fence.wide 0 p.P G p.R) _ m;have cl:(kE.mk (s1.put (U d.tf) (.fn d.g [.loc L 0])) O1 H L1).pW (s1.put (U d.tf) (.fn d.g [.loc L 0])) O1 H L1:=kE.here _ _ _ _;refine(Ro b N).1 ⟨[],[],E,[A]⟩ _ iA Z x d.rest _ _ L1 O1 H _ m _ (F3 _ _) cl rfl (λhh=>by cases hh) ⟨G,hf⟩ ab R2 ((hg.ext a0.ext).ext cU.ext) (λch q o pd X hA hR=>(ap ch o hR).elim) ?_;intro e s' O' V' q o L' hl hL RR C;obtain⟨a6,q1,q0,q2,q3⟩:=RR.cP.l8;have R3:=RR.pX q1;have cy:({q with defers:=[A]}:Act)={q with defers:=[A]}:=rfl;have a7:∀d0∈a6,o.heap[d0]?=U (.deferred (U [])):=λd0 cm=>(q3 d0 (by simp[cm])).1
 have a8:a6.Nodup:=(aEi.1 q2).1;have a9:ad V' L=ad H L:=hl.ext.ad L bx;have bb:∀Wx,(invoke A.target A.args).run p.P Wx=.ok (.enter d.g #[.pointer (U ⟨ad H L,0,Z⟩)]) Wx:=λWx=>by
  rw[ag];simp[invoke,bq.BD]
 have bd:∀s2:S,∀Wx,az p.S0 p.w0 ⟨[],[],E,[A]⟩ cf.ty V' O' s2 {q with defers:=[A]} Wx->(Im cf (Y w.boxes) G.results.toList s2).aT p O' L'->LeavesInM Fence.wide 0 p.P G q.tmps p.R [] .returning Wx:=by
  intro s2 Wx R4 af;unfold Im at af;split at af;rename_i l cp;refine⟨_,ME R4 b.ln cp, ?_⟩;exact af O'.y V' _ (by rw[b.pt];exact(R4.mem.take _).mc (Ri _));exact af.elim
 have bf:(Im cf (Y w.boxes) G.results.toList s').aT p O' L'->LeavesInM Fence.wide 0 p.P G q.tmps p.R q.defers .returning o:=by
  intro af;rw[q1];refine sx (by simp) a8 a7 ⟨by simp,.inr ⟨by simp[Fence.wide],_,_,_,_,by rw[ag],bb _,λg hg=>trivial, ?_⟩⟩;refine(bq.ret _ _).mono ?_;rintro en u W4 ⟨⟨v,rfl⟩,rfl,rfl⟩;exact bd s' _ R3 af
 cases e with
 |normal=>exact bf C
 |ret=>exact bf C
 |exit id=>exact C.elim
 |bj v=>
  simp only[X6] at C;split at C;rename_i tt M;split at C;rename_i bt X bg;split at C;rename_i bk;simp only[aDc,beq_iff_eq] at bk;obtain⟨rfl,rfl⟩:=bk;have an:=R3.mem.box L bt _ bg;rw[qW a4] at an;rw[a9] at an;show LeavesInM Fence.wide 0 p.P G q.tmps p.R q.defers (.panicking _) o;rw[q1];refine sx (by simp) a8 a7 ⟨by simp,.inr ⟨by simp[Fence.wide],_,_,_,_,by rw[ag],bb _,λg hg=>trivial, ?_⟩⟩;refine(bq.bj _ (ad H L) (X.den O') (M.den O') an).mono ?_;rintro en u W4 ⟨⟨v,rfl⟩,rfl,rfl⟩;have R4:=R3.ahm (cs':=[.int I M]) bg;rw[qW a4,a9] at R4;exact bd _ _ R4 C;exact C.elim;exact C.elim;exact C.elim
 exact ab.elim;exact ab.elim
end
section
variable{P:Program}{a:Ty}{H M:FuncId->iQ}{bi:me}{G:World->Prop}{D m:gT}{Q X:aR}
structure Nf(a:Ty)(gl:lC)(glk:aE)(glv:aF)(W:World)(glw:aF):Prop where
 len:Y glv=Y glw
 eq:∀(k:Nat)(v v':RV),glv[k]?=U v->glw[k]?=U v'->ck v v'
 held:∀(k:Nat)(e:RK)(rv:RV),glk[k]?=U e->glw[k]?=U rv->bz W a e rv
 aj2:∀xs,et gl (eL glw xs)
def aj3{n:bB}{x:aE}{C:aF}{g l:ai}{t:T}{ni nb:Nat}{L:aE}
  (af:n.ty=a)(ag:∀f,Ga P a H M G f (bi f))(hG:∀W W',Below W.heap.size W W'->G W->G W')(al:gA a D=U Q)
  (hl:jm a m g=U l)(an:rf 0 0 (Y C) X l=J)(bI:L=x++iR X)(ap:∀(k:Nat)(t:TypeId),L[k]?≠U (.own t))(a0:Y C=Y x)(w:C=[]\/uq Q=J)
  (a1:∀R V,dP X V->(eL R V).i.length=ni)(a2:∀R V,dP X V->(eL R V).b.length=nb)
  {W:World}(a3:G W){R:aF}(B:Nf a n.gl x C W R){d V:aW}{o:bn}{N:Nat}(hN:run a H M bi D N t (eL C d) L []=U o)(hx:nO d V)(A:dP X V)(hH:xR a W X V):
  t.aT (M9 P a W D Q X V o) (eL R V) []/\SV.aD (eL R V) [] g=um a m (nP X V)/\az [] W bR.none n.ty [] (eL R V) ⟨[],[],ni,nb,L,0,0,[]⟩ ⟨#[],[]⟩ W:=by
 have p:Y R=Y x:=by rw[<-B.len];exact a0
 have hv:SV.aD (eL R V) [] g=um a m (nP X V):=by
  rw[RC hl,eL,M5 (by rw[<-B.len];exact an) A rfl rfl rfl]
 have ab:(eL R V).r.length=Y L:=by rw[bI];exact M7 A p
 have hS:iI (eL C d) (eL R V):=iI.ext ⟨rfl,rfl,B.len,λk v v' c g2=>B.eq k v v' c g2⟩ hx;have a4:t.aT (M9 P a W D Q X V o) (eL R V) []:=by
  refine auK (old:=λb=>xQ a X V b\/R≠[]) ag hG a3 al (λys b z u=> ?_) N t _ _ L [] [] hN hS ab ?_ (uo.nil _);rcases u with u|u;exact u;rcases w with w|w;subst w;have:R=[]:=aDT.1 (by rw[<-B.len];rfl);exact absurd this u;exact(ajZ w z).elim;rw[bI];refine F9.ext (λb z=> ?_) A p (λb z=>.inr (.inl z));obtain⟨k,e,hk,hl⟩:=z;refine .inr (.inr (λhe=> ?_));subst he;have:=(aDd.1 hk).1;simp at p;omega
 have a5:∀(k:Nat)(e:RK)(O:RV),L[k]?=U e->(eL R V).r[k]?=U O->bz W a e O:=by
  intro k e O c g2;have:=FW (PP:=λe O=>bz W a e O) X V ⟨[],[],0,0,x,0,0,[]⟩ ⟨[],[],R,[]⟩ A p (λq e O F s=>hH q e O F s) (λk e O F s=>B.held k e O F s);rw[RI] at this;exact this k e O (by rw[<-bI];exact c) g2
 exact⟨a4,hv,⟨⟨eV.refl _ _,λi h=>by simp[aM,cK] at h,λi j h=>by simp[aM,cK] at h,λi t cs h=>by simp[cK] at h,λk e O F s=>⟨by rw[af];exact a5 k e O F s,λb z i hi=>by simp[aM,cK] at hi⟩⟩,rfl,a1 _ V A,a2 _ V A,ab,by rw[show(eL R V).y=[] from IQ V _];exact RD _ _,rfl,λt sv h=>by simp at h,λk e O b F=>absurd F (ap k e)⟩⟩
def auQ{cf:bB}{C:Func}{c:Code}{F:aW->jH}{glk:aE}{glv:aF}{l:ai}{B A:Nat}
  (af:∀w R,(∀z W b o,w.heap.size<=b->R (.panicked z) W->R (.panicked z) (W.putObj b o))->kG ⟨P,a,[],w,bR.none,R,λ_ _ _=>False⟩ cf)(ag:cf.ty=a)(al:∀x,Ga P a H M G x (bi x))(hG:∀W u,Below W.heap.size W u->G W->G u)
  (hf:P.funcs[x]?=U C)(hb:C.body=U c)(an:H x=U m)(ap:M x=U D)(a0:gA a m=U X)(s:gA a D=U Q)
  (hl:jm a m y=U l)(a1:rf 0 0 (Y glv) X l=J)(bI:v=glk++iR X)(a2:∀(k:Nat)(r:TypeId),v[k]?≠U (.own r))(a3:Y glv=Y glk)(hq:glv=[]\/uq Q=J)
  (a4:∀L O,dP X O->(eL L O).i.length=B)(a5:∀L O,dP X O->(eL L O).b.length=A)
  (a6:∀W,G W->∃L,Nf a cf.gl glk glv W L)
  (ht:Mc cf N x c C.ntmps C.results.toList y ⟨[],[],B,A,v,0,0,[]⟩=r)
  (hF:∀O o,dP X O->F O=U o->∃V,run a H M bi D V r (eL glv O) v []=U o):Ga P a H M G x F:=by
 intro a8 a9 bb bd q j h g xh O o ho e d W ab hH;rw[an] at q;cases q;rw[ap] at j;cases j;rw[a0] at h;cases h;rw[s] at g;cases g;obtain⟨V,hN⟩:=hF xh o (Z6 d e) ho;obtain⟨L,hL⟩:=a6 W ab;obtain⟨a7,hv,hR⟩:=aj3 ag al hG s hl a1 bI a2 a3 hq a4 a5 ab hL hN e d hH;rw[<-hv];exact ajq (p:=M9 P a W D Q X O o) (cf:=cf) (af W _ (ajX W)) hf hb ht a7 (hL.aj2 O) hR
def auR{cf:bB}{B:Func}{c:Code}{F:aW->jH}{glk:aE}{glv:aF}{l:ai}{s q:Nat}{d:DI}
  (ag:∀w R,(∀A W b o,w.heap.size<=b->R (.panicked A) W->R (.panicked A) (W.putObj b o))->kG ⟨P,a,[],w,bR.none,R,λ_ _ _=>False⟩ cf)(al:cf.ty=a)(an:∀x,Ga P a H M G x (bi x))(hG:∀W z,Below W.heap.size W z->G W->G z)
  (hf:P.funcs[x]?=U B)(hb:B.body=U c)(hd:ud c=U d)(bq:pZ P d.g t)(ap:H x=U m)(a0:M x=U D)(a1:gA a m=U X)(j:gA a D=U Q)
  (hl:jm a m y=U l)(a2:rf 0 0 (Y glv) X l=J)(bI:v=glk++iR X)(a3:∀(k:Nat)(r:TypeId),v[k]?≠U (.own r))(a4:Y glv=Y glk)(hq:glv=[]\/uq Q=J)
  (a5:∀C L,dP X L->(eL C L).i.length=s)(a6:∀C L,dP X L->(eL C L).b.length=q)
  (a7:∀W,G W->∃C,Nf a cf.gl glk glv W C)
  (ht:Me cf N x c B.ntmps B.results.toList t y ⟨[],[],s,q,v,0,0,[]⟩=r)(a8:∀L V,F L≠U (.bj V))
  (hF:∀L o,dP X L->F L=U o->∃O,run a H M bi D O r (eL glv L) v []=U o):Ga P a H M G x F:=by
 intro bb bd bf bg h e h3 h4 xh L o ho hx ab W af hH;rw[ap] at h;cases h;rw[a0] at e;cases e;rw[a1] at h3;cases h3;rw[j] at h4;cases h4;obtain⟨O,hN⟩:=hF xh o (Z6 ab hx) ho;obtain⟨C,hL⟩:=a7 W af;obtain⟨a9,hv,u⟩:=aj3 al an hG j hl a2 bI a3 a4 hq a5 a6 af hL hN hx ab hH;rw[<-hv];refine auP (p:=M9 P a W D Q X L o) (cf:=cf) (ag W _ (ajX W)) (λA z u=> ?_) hf hb hd bq ht a9 (hL.aj2 L) u;obtain⟨-,V,h5,-⟩:=u;exact a8 xh V (by rw[ho,h5])
end
def aj4:Op->Bool
 |.move _|.assign _|.fieldAddr _ _ _|.field _ _ _|.load _ _|.indexAddr _ _ _|.build _ _|.index _ _ _|.unOp _ _ _|.convert _ _ _|.makeInterface _ _|.makeFunc _ _ _|.extract _ _|.nilCheck _|.alloc _|.box _ _|.pick _ _ _=>J
 |.binOp X _ _ _ _=>match X with
  |.eql|.neq=>E
  |_=>J
 |_=>E
def Z9(X:bB)(m:OM)(s:S):Bool:=(Be X m s).isSome
def auS{X:bB}{m:OM}(h:Z9 X m w=E):Be X m w=none:=by
 simpa[Z9] using h
def RJ(R:bB)(O:oq)(m:OM)(s:S)(X:S->Fx->T)(Q:SV->S->T)(V:Fx):T:=
 if aj4 m.o.op then match fc R m s with
  |.ok W=>X W V
  |.aV b W=>.aV b (X W V)
  |.split b N M=>Bc s V b (X N) (X M)
  |.no L=>.stuck L
 else if Z9 R m s then zv R O m s X Q V else match zt R m s with
 |U (e,H,G,P)=>C0 e (λg F=>O (.fn g) (P++F) s (λv W=>X (W.put m.o.dst v) (nF s V)) Q) H G
 |none=>
 match dA R s m.o with
 |.call (.fn g) P=>O (.fn g) P s (λv W=>X (W.put m.o.dst v) (nF s V)) Q
 |.call (.yl n) P=>if m.so then O (.yl n) P s (λv W=>X (W.put m.o.dst v) (nF s V)) Q else .stuck ""
 |.bj v=>Q v s
 |.no=>.stuck ""
 |.op=>match zr R m s X V with
  |U t=>t
  |none=>match dI R m.o m.bC m.dr s with
  |U b=>.aV b.aV (.new b.e b.x s.rs b.s.rs (X b.s (nF s V)))
  |none=>match fc R m s with
  |.ok W=>X W V
  |.aV b W=>.aV b (X W V)
  |.split b N M=>Bc s V b (X N) (X M)
  |.no L=>.stuck L
def auT(X:bB)(R:oq)(m:OM)(s:S)(Q:S->Fx->T)(P:SV->S->T)(O:Fx):RJ X R m s Q P O=zv X R m s Q P O:=by
 unfold RJ;split;rename_i W;unfold zv;cases V:m.o.op<;>rw[V] at W<;>simp only[aj4,aDB] at W<;>try(simp[zt,Be,dA,zr,dI,V]<;>rfl)
 rename_i N t x y z;cases N<;>simp only[aDB] at W<;>(simp[zt,Be,dA,zr,dI,V]<;>rfl);split;rfl;rename_i M;unfold zv;rw[auS (by simpa using M)];cases zt X m s<;>rfl
def OM.up(n:Nat)(m:OM):OM:={m with ix:=m.ix+n}
def RL(bC:Nat->Bool)(X W:Bool)(k:Nat):∀(l:ol)(j n:Nat),fH bC X W j (n+k) l=(fH bC X W j n l).map (OM.up k)
 |[],_,_=>rfl
 |o::r,j,n=>by
  simp only[fH,aDt];congr 1;rw[<-RL bC X W k r];congr 1;split<;>omega
def auU(k:Nat)(l:ce)(X:aj):H6 (l.map (OM.up k)) X=(H6 l X).map (OM.up k):=by
 simp only[H6,List.map_filterMap,aDj]
def aaa(k:Nat)(X:aj):∀l:ce,zA X (l.map (OM.up k))=zA X l
 |[]=>rfl
 |x::r=>by simp only[aDt,zA,aaa k X r,aFr];rfl
def aj5(k:Nat)(X:aj):∀(l W:ce),sj X (W.map (OM.up k)) (l.map (OM.up k))=(sj X W l).map (OM.up k)
 |[],_=>rfl
 |m::r,W=>by
  simp only[aDt,sj];congr 1;have h:=aaa k X (m::r);simp only[aDt] at h;rw[h,aFr];rfl;rw[<-aj5 k X r (W++[m]),aE3];rfl
def aj6(k:Nat)(X:cS):∀(l:ce)(done:aj),C3 X done (l.map (OM.up k))=C3 X done l
 |[],_=>rfl
 |x::r,done=>by simp only[aDt,C3,aj6 k X r];rfl
def auV(k a b:Nat):(a+k !=b+k)=(a !=b):=by
 rw[aEk];simp
def auW(k:Nat)(X:cS)(x y:OM):si X (OM.up k x) (OM.up k y)=si X x y:=by
 have h:((OM.up k x).ix !=(OM.up k y).ix)=(x.ix !=y.ix):=auV k _ _;unfold si H5 LX;rw[h];rfl
def aj7(k:Nat)(X:cS)(W:aj):∀l:ce,C2 X W (l.map (OM.up k))=C2 X W l
 |[]=>rfl
 |x::r=>by
  simp only[aDt,C2,aj7 k X W r,aFr];congr 2;funext y;simp only[Function.comp,auW];rfl
def aj8(k:Nat):∀l:aj,lH (l.map (· +k))=lH l
 |[]=>rfl
 |x::r=>by
  simp only[aDt,lH,aj8 k r];congr 2;rw[aEk];simp
def nR(X:cS)(n:Nat):ce:=sj (nG X.toList) [] (H6 (fH (LZ X.toList (nG X.toList)) E J 0 n X.toList) (LY X.toList X.size []))
def auX(X:cS)(n:Nat):nR X n=(nR X 0).map (OM.up n):=by
 unfold nR;rw[show fH (LZ X.toList (nG X.toList)) E J 0 n X.toList=(fH (LZ X.toList (nG X.toList)) E J 0 0 X.toList).map (OM.up n) by rw[<-RL];simp,auU,<-aj5];rfl
def aab(X:cS)(n:Nat):Option ce:=match H7 X 0 with
 |U l=>U (l.map (OM.up n))
 |none=>Z
def aj9(X:cS)(n:Nat):H7 X n=if PY X.toList (nG X.toList)&&C3 X [] (nR X n)&&C2 X (nG X.toList) (nR X n)&&lH ((nR X n).filterMap (·.o.dst))&&lH ((nR X n).map (·.j))&&lH (((nR X n).filter λm=>fk m.o.op).map (·.ix))&&(nR X n).length==X.size&&(aDA X.size).all (λi=>(nR X n).any λm=>m.j==i) then U (nR X n) else none:=rfl
def auY(X:cS)(n:Nat):aab X n=H7 X n:=by
 unfold aab;rw[aj9 X n,aj9 X 0,auX X n,aj6,aj7];have V:((nR X 0).map (OM.up n)).filterMap (·.o.dst)=(nR X 0).filterMap (·.o.dst):=by rw[aGS];rfl
 have R:((nR X 0).map (OM.up n)).map (·.j)=(nR X 0).map (·.j):=by rw[aD7];rfl
 have Q:(((nR X 0).map (OM.up n)).filter λm=>fk m.o.op).map (·.ix)=(((nR X 0).filter λm=>fk m.o.op).map (·.ix)).map (· +n):=by rw[aGp,aD7,aD7];rfl
 have P:∀i,(((nR X 0).map (OM.up n)).any λm=>m.j==i)=((nR X 0).any λm=>m.j==i):=λi=>by rw[aGh];rfl
 rw[V,R,Q,aj8,aDV];simp only[P];split;rename_i l h;split at h;rename_i W;cases h;rw[if_pos W];cases h;rename_i h;split at h;cases h;rename_i W;rw[if_neg W]
def aka(W:Bool)(X:cS)(n:Nat):Bk W X n=(Bk W X 0).map (OM.up n)/\Bl W X n=(Bl W X 0).map (OM.up n):=by
 unfold Bk Bl;rw[show fH (λ_=>E) E J 0 n X.toList=(fH (λ_=>E) E J 0 0 X.toList).map (OM.up n) by rw[<-RL];simp,aGp,aGp];exact⟨rfl,rfl⟩
def auZ(W:Bool)(X:cS)(n:Nat):Ig W X n=Ig W X 0:=by
 unfold Ig;obtain⟨V,R⟩:=aka W X n;rw[V,R,show fH (λ_=>E) E J 0 n X.toList=(fH (λ_=>E) E J 0 0 X.toList).map (OM.up n) by rw[<-RL];simp];unfold X1;rw[<-aE3];have Q:∀l:ce,(l.map (OM.up n)).filterMap (·.o.dst)=l.filterMap (·.o.dst):=λl=>by rw[aGS];rfl
 have P:∀l:ce,(l.map (OM.up n)).map (·.j)=l.map (·.j):=λl=>by rw[aD7];rfl
 rw[Q,P,aDV];simp only[aFr,aGh,Function.comp_def];rfl
def RN(V:bB)(W:Bool)(X:cS)(s:S):Option L5:=
 if(!W||(X0 V s X.toList||(V.nA&&X.toList.any λo=>agq o.op))&&zA (nG X.toList) (Bl W X 0))&&Ig W X 0 then(C7 V ((Bk W X 0).map (OM.up (Y s.boxes))) (s.room (lG X.toList))).bind (X2 V ((Bk W X 0).map (OM.up (Y s.boxes))) ((Bl W X 0).map (OM.up (Y s.boxes)))) else Z
def au0(V:bB)(X:Bool)(W:cS)(s:S):RN V X W s=Ih V X W s:=by
 unfold RN Ih;obtain⟨Q,R⟩:=aka X W (Y s.boxes);rw[<-Q,<-R,auZ X W (Y s.boxes),R,aaa]
def Gb{X:Type}(l:List X):(List X->T)->T:=aE7 (motive:=λ_=>(List X->T)->T) (λk=>k []) (λx _ W k=>W λV=>k (x::V)) l
def aac{W:Type}:∀(l:List W)(k:List W->T),Gb l k=k l
 |[],_=>rfl
 |x::X,k=>aac X λX=>k (x::X)
def bP(n:Nat)(k:Nat->T):T:=aFO (motive:=λ_=>T) (k 0) (λm _=>k (Nat.succ m)) n
def jJ:∀(n:Nat)(k:Nat->T),bP n k=k n
 |0,_=>rfl
 |_+1,_=>rfl
def S.aad(s:S)(k:S->T):T:=S.rec (motive:=λ_=>T) (λX b W V R au Q P=>Gb X λX=>Gb b λb=>bP W λW=>bP V λV=>Gb R λR=>bP au λau=>bP Q λQ=>Gb P λP=>k ⟨X,b,W,V,R,au,Q,P⟩) s
def au1(s:S)(k:S->T):s.aad k=k s:=by
 cases s;simp only[S.aad,aac,jJ]
def Ng{X:Type}(l:List X)(k:List X->T):T:=aE7 (motive:=λ_=>T) (k []) (λx W _=>k (x::W)) l
def au2{X:Type}(l:List X)(k:List X->T):Ng l k=k l:=by cases l<;>rfl
def S.aae(s:S)(k:S->T):T:=S.rec (motive:=λ_=>T) (λX b W V R au Q P=>Ng X λX=>Ng b λb=>bP W λW=>bP V λV=>Ng R λR=>bP au λau=>bP Q λQ=>Ng P λP=>k ⟨X,b,W,V,R,au,Q,P⟩) s
def au3(s:S)(k:S->T):s.aae k=k s:=by
 cases s;simp only[S.aae,au2,jJ]
def Du(X:bB)(W:oq)(V:cS)(k:S->T)(R:SV->S->T):ce->S->Fx->T
 |[],s,_=>k s
 |m::Q,s,P=>s.aae λs=>PQ V m s P (RJ X W m s (Du X W V k R Q) R) (Du X W V k R Q (s.put m.o.dst (.bK [])))
def RO(X:bB)(W:oq)(R:cS)(k:S->T)(V:SV->S->T):∀(l:ce),Du X W R k V l=mE X W R k V l
 |[]=>by funext s P;rfl
 |m::Q=>by
  funext s P;have:RJ X W m s (Du X W R k V Q) V=zv X W m s (mE X W R k V Q) V:=by
   funext P;rw[auT,RO X W R k V Q]
  simp only[Du,mE,au3];rw[this,RO X W R k V Q]
def Nh(n:Int)(k:Int->T):T:=Int.rec (motive:=λ_=>T) (λn=>bP n λn=>k (aGT n)) (λn=>bP n λn=>k (aGv n)) n
def au4:∀(n:Int)(k:Int->T),Nh n k=k n
 |.ofNat n,k=>jJ n λn=>k (aGT n)
 |.negSucc n,k=>jJ n λn=>k (aGv n)
def IE.deep(e:IE):(IE->T)->T:=IE.rec (motive_1:=λ_=>(IE->T)->T) (motive_2:=λ_=>(BE->T)->T) (motive_3:=λ_=>(RE->T)->T) (λn k=>Nh n λn=>k (.c n)) (λn k=>bP n λn=>k (.v n)) (λo q a b X W k=>X λa=>W λb=>k (.bin o q a b)) (λq a X k=>X λa=>k (.conv q a)) (λr V k=>V λr=>k (.len r)) (λm a b X W k=>X λa=>W λb=>k (.mm m a b)) (λb x y W P O k=>W λb=>P λx=>O λy=>k (.cR b x y)) (λr i j V R k=>V λr=>R λi=>bP j λj=>k (.cell r i j)) (λr i V R k=>V λr=>R λi=>k (.mD r i)) (λr n a b c j V X W Q k=>V λr=>X λa=>W λb=>Q λc=>bP n λn=>bP j λj=>k (.look r n a b c j)) (λb k=>k (.c b)) (λn k=>bP n λn=>k (.v n)) (λo a b X W k=>X λa=>W λb=>k (.cmp o a b)) (λa X k=>X λa=>k (.not a)) (λa b X W k=>X λa=>W λb=>k (.and a b)) (λa b X W k=>X λa=>W λb=>k (.beq a b)) (λb x y W P O k=>W λb=>P λx=>O λy=>k (.cR b x y)) (λr i j V R k=>V λr=>R λi=>bP j λj=>k (.cell r i j)) (λa b X W k=>X λa=>W λb=>k (.seq a b)) (λr n a b c j V X W Q k=>V λr=>X λa=>W λb=>Q λc=>bP n λn=>bP j λj=>k (.look r n a b c j)) (λr n a b c V X W Q k=>V λr=>X λa=>W λb=>Q λc=>bP n λn=>k (.has r n a b c)) (λn k=>bP n λn=>k (.v n)) (λr i j q V R k=>V λr=>R λi=>bP j λj=>k (.cell r i j q)) (λv k=>k (.k v)) e
def BE.deep(e:BE):(BE->T)->T:=BE.rec (motive_1:=λ_=>(IE->T)->T) (motive_2:=λ_=>(BE->T)->T) (motive_3:=λ_=>(RE->T)->T) (λn k=>Nh n λn=>k (.c n)) (λn k=>bP n λn=>k (.v n)) (λo q a b X W k=>X λa=>W λb=>k (.bin o q a b)) (λq a X k=>X λa=>k (.conv q a)) (λr V k=>V λr=>k (.len r)) (λm a b X W k=>X λa=>W λb=>k (.mm m a b)) (λb x y W P O k=>W λb=>P λx=>O λy=>k (.cR b x y)) (λr i j V R k=>V λr=>R λi=>bP j λj=>k (.cell r i j)) (λr i V R k=>V λr=>R λi=>k (.mD r i)) (λr n a b c j V X W Q k=>V λr=>X λa=>W λb=>Q λc=>bP n λn=>bP j λj=>k (.look r n a b c j)) (λb k=>k (.c b)) (λn k=>bP n λn=>k (.v n)) (λo a b X W k=>X λa=>W λb=>k (.cmp o a b)) (λa X k=>X λa=>k (.not a)) (λa b X W k=>X λa=>W λb=>k (.and a b)) (λa b X W k=>X λa=>W λb=>k (.beq a b)) (λb x y W P O k=>W λb=>P λx=>O λy=>k (.cR b x y)) (λr i j V R k=>V λr=>R λi=>bP j λj=>k (.cell r i j)) (λa b X W k=>X λa=>W λb=>k (.seq a b)) (λr n a b c j V X W Q k=>V λr=>X λa=>W λb=>Q λc=>bP n λn=>bP j λj=>k (.look r n a b c j)) (λr n a b c V X W Q k=>V λr=>X λa=>W λb=>Q λc=>bP n λn=>k (.has r n a b c)) (λn k=>bP n λn=>k (.v n)) (λr i j q V R k=>V λr=>R λi=>bP j λj=>k (.cell r i j q)) (λv k=>k (.k v)) e
def RE.deep(e:RE):(RE->T)->T:=RE.rec (motive_1:=λ_=>(IE->T)->T) (motive_2:=λ_=>(BE->T)->T) (motive_3:=λ_=>(RE->T)->T) (λn k=>Nh n λn=>k (.c n)) (λn k=>bP n λn=>k (.v n)) (λo q a b X W k=>X λa=>W λb=>k (.bin o q a b)) (λq a X k=>X λa=>k (.conv q a)) (λr V k=>V λr=>k (.len r)) (λm a b X W k=>X λa=>W λb=>k (.mm m a b)) (λb x y W P O k=>W λb=>P λx=>O λy=>k (.cR b x y)) (λr i j V R k=>V λr=>R λi=>bP j λj=>k (.cell r i j)) (λr i V R k=>V λr=>R λi=>k (.mD r i)) (λr n a b c j V X W Q k=>V λr=>X λa=>W λb=>Q λc=>bP n λn=>bP j λj=>k (.look r n a b c j)) (λb k=>k (.c b)) (λn k=>bP n λn=>k (.v n)) (λo a b X W k=>X λa=>W λb=>k (.cmp o a b)) (λa X k=>X λa=>k (.not a)) (λa b X W k=>X λa=>W λb=>k (.and a b)) (λa b X W k=>X λa=>W λb=>k (.beq a b)) (λb x y W P O k=>W λb=>P λx=>O λy=>k (.cR b x y)) (λr i j V R k=>V λr=>R λi=>bP j λj=>k (.cell r i j)) (λa b X W k=>X λa=>W λb=>k (.seq a b)) (λr n a b c j V X W Q k=>V λr=>X λa=>W λb=>Q λc=>bP n λn=>bP j λj=>k (.look r n a b c j)) (λr n a b c V X W Q k=>V λr=>X λa=>W λb=>Q λc=>bP n λn=>k (.has r n a b c)) (λn k=>bP n λn=>k (.v n)) (λr i j q V R k=>V λr=>R λi=>bP j λj=>k (.cell r i j q)) (λv k=>k (.k v)) e
mutual
def IE.dY:∀(e:IE)(k:IE->T),e.deep k=k e
 |.c n,k=>by show(Nh n λn=>k (.c n))=_;rw[au4]
 |.v n,k=>by show(bP n λn=>k (.v n))=_;rw[jJ]
 |.bin o q a b,k=>by show(IE.deep a λa=>IE.deep b λb=>k (.bin o q a b))=_;rw[IE.dY a,IE.dY b]
 |.conv q a,k=>by show(IE.deep a λa=>k (.conv q a))=_;rw[IE.dY a]
 |.len r,k=>by show(RE.deep r λr=>k (.len r))=_;rw[RE.dY r]
 |.mm m a b,k=>by show(IE.deep a λa=>IE.deep b λb=>k (.mm m a b))=_;rw[IE.dY a,IE.dY b]
 |.cR b x y,k=>by show(BE.deep b λb=>IE.deep x λx=>IE.deep y λy=>k (.cR b x y))=_;rw[BE.dY b,IE.dY x,IE.dY y]
 |.cell r i j,k=>by show(RE.deep r λr=>IE.deep i λi=>bP j λj=>k (.cell r i j))=_;rw[RE.dY r,IE.dY i,jJ]
 |.mD r i,k=>by show(RE.deep r λr=>IE.deep i λi=>k (.mD r i))=_;rw[RE.dY r,IE.dY i]
 |.look r n a b c j,k=>by show(RE.deep r λr=>IE.deep a λa=>IE.deep b λb=>IE.deep c λc=>bP n λn=>bP j λj=>k (.look r n a b c j))=_;rw[RE.dY r,IE.dY a,IE.dY b,IE.dY c,jJ,jJ]
def BE.dY:∀(e:BE)(k:BE->T),e.deep k=k e
 |.c b,k=>rfl
 |.v n,k=>by show(bP n λn=>k (.v n))=_;rw[jJ]
 |.cmp o a b,k=>by show(IE.deep a λa=>IE.deep b λb=>k (.cmp o a b))=_;rw[IE.dY a,IE.dY b]
 |.not a,k=>by show(BE.deep a λa=>k (.not a))=_;rw[BE.dY a]
 |.and a b,k=>by show(BE.deep a λa=>BE.deep b λb=>k (.and a b))=_;rw[BE.dY a,BE.dY b]
 |.beq a b,k=>by show(BE.deep a λa=>BE.deep b λb=>k (.beq a b))=_;rw[BE.dY a,BE.dY b]
 |.cR b x y,k=>by show(BE.deep b λb=>BE.deep x λx=>BE.deep y λy=>k (.cR b x y))=_;rw[BE.dY b,BE.dY x,BE.dY y]
 |.cell r i j,k=>by show(RE.deep r λr=>IE.deep i λi=>bP j λj=>k (.cell r i j))=_;rw[RE.dY r,IE.dY i,jJ]
 |.seq a b,k=>by show(RE.deep a λa=>RE.deep b λb=>k (.seq a b))=_;rw[RE.dY a,RE.dY b]
 |.look r n a b c j,k=>by show(RE.deep r λr=>IE.deep a λa=>IE.deep b λb=>IE.deep c λc=>bP n λn=>bP j λj=>k (.look r n a b c j))=_;rw[RE.dY r,IE.dY a,IE.dY b,IE.dY c,jJ,jJ]
 |.has r n a b c,k=>by show(RE.deep r λr=>IE.deep a λa=>IE.deep b λb=>IE.deep c λc=>bP n λn=>k (.has r n a b c))=_;rw[RE.dY r,IE.dY a,IE.dY b,IE.dY c,jJ]
def RE.dY:∀(e:RE)(k:RE->T),e.deep k=k e
 |.v n,k=>by show(bP n λn=>k (.v n))=_;rw[jJ]
 |.cell r i j q,k=>by show(RE.deep r λr=>IE.deep i λi=>bP j λj=>k (.cell r i j q))=_;rw[RE.dY r,IE.dY i,jJ]
 |.k v,k=>rfl
end
def SV.deep(v:SV):(SV->T)->T:=SV.rec (motive_1:=λ_=>(SV->T)->T) (motive_2:=λ_=>(ai->T)->T) (λq e k=>e.deep λe=>k (.int q e)) (λb k=>b.deep λb=>k (.bool b)) (λr k=>r.deep λr=>k (.ref r)) (λi o k=>bP i λi=>bP o λo=>k (.loc i o)) (λr w i o k=>r.deep λr=>i.deep λi=>bP w λw=>bP o λo=>k (.el r w i o)) (λi o l c k=>bP i λi=>bP o λo=>bP l λl=>bP c λc=>k (.gM i o l c)) (λl X k=>X λl=>k (.agg l)) (λl X k=>X λl=>k (.bK l)) (λf l X k=>X λl=>bP f λf=>k (.fn f l)) (λt x W k=>W λx=>k (.eP t x)) (λn k=>bP n λn=>k (.yl n)) (λk=>k .any) (λi k=>bP i λi=>k (.mp i)) (λe R V Q k=>e.deep λe=>Q λV=>k (.eQ e R V)) (λk=>k []) (λ_ _ W P k=>W λx=>P λO=>k (x::O)) v
def SV.BU(l:ai):(ai->T)->T:=SV.rec_1 (motive_1:=λ_=>(SV->T)->T) (motive_2:=λ_=>(ai->T)->T) (λq e k=>e.deep λe=>k (.int q e)) (λb k=>b.deep λb=>k (.bool b)) (λr k=>r.deep λr=>k (.ref r)) (λi o k=>bP i λi=>bP o λo=>k (.loc i o)) (λr w i o k=>r.deep λr=>i.deep λi=>bP w λw=>bP o λo=>k (.el r w i o)) (λi o l c k=>bP i λi=>bP o λo=>bP l λl=>bP c λc=>k (.gM i o l c)) (λl X k=>X λl=>k (.agg l)) (λl X k=>X λl=>k (.bK l)) (λf l X k=>X λl=>bP f λf=>k (.fn f l)) (λt x W k=>W λx=>k (.eP t x)) (λn k=>bP n λn=>k (.yl n)) (λk=>k .any) (λi k=>bP i λi=>k (.mp i)) (λe R V Q k=>e.deep λe=>Q λV=>k (.eQ e R V)) (λk=>k []) (λ_ _ W P k=>W λx=>P λO=>k (x::O)) l
mutual
def SV.dY:∀(v:SV)(k:SV->T),v.deep k=k v
 |.int q e,k=>by show(IE.deep e λe=>k (.int q e))=_;rw[IE.dY]
 |.bool b,k=>by show(BE.deep b λb=>k (.bool b))=_;rw[BE.dY]
 |.ref r,k=>by show(RE.deep r λr=>k (.ref r))=_;rw[RE.dY]
 |.loc i o,k=>by show(bP i λi=>bP o λo=>k (.loc i o))=_;rw[jJ,jJ]
 |.el r w i o,k=>by show(RE.deep r λr=>IE.deep i λi=>bP w λw=>bP o λo=>k (.el r w i o))=_;rw[RE.dY,IE.dY,jJ,jJ]
 |.gM i o l c,k=>by show(bP i λi=>bP o λo=>bP l λl=>bP c λc=>k (.gM i o l c))=_;rw[jJ,jJ,jJ,jJ]
 |.agg l,k=>by show(SV.BU l λl=>k (.agg l))=_;rw[SV.Gc l]
 |.bK l,k=>by show(SV.BU l λl=>k (.bK l))=_;rw[SV.Gc l]
 |.fn f l,k=>by show(SV.BU l λl=>bP f λf=>k (.fn f l))=_;rw[SV.Gc l,jJ]
 |.eP t x,k=>by show(SV.deep x λx=>k (.eP t x))=_;rw[SV.dY x]
 |.yl n,k=>by show(bP n λn=>k (.yl n))=_;rw[jJ]
 |.any,k=>rfl
 |.mp i,k=>by show(bP i λi=>k (.mp i))=_;rw[jJ]
 |.eQ e W X,k=>by show(IE.deep e λe=>SV.BU X λX=>k (.eQ e W X))=_;rw[IE.dY,SV.Gc X]
def SV.Gc:∀(l:ai)(k:ai->T),SV.BU l k=k l
 |[],k=>rfl
 |x::X,k=>by show(SV.deep x λx=>SV.BU X λX=>k (x::X))=_;rw[SV.dY x,SV.Gc X]
end
def aaf(l:bA):(bA->T)->T:=aE7 (motive:=λ_=>(bA->T)->T) (λk=>k []) (λx _ V k=>Option.rec (motive:=λ_=>T) (V λX=>k (Z::X)) (λb=>Prod.rec (motive:=λ_=>T) (λt W=>bP t λt=>SV.BU W λW=>V λX=>k (U (t,W)::X)) b) x) l
def aag:∀(l:bA)(k:bA->T),aaf l k=k l
 |[],_=>rfl
 |Z::X,k=>aag X _
 |U (t,W)::X,k=>by
  show(bP t λt=>SV.BU W λW=>aaf X λX=>k (U (t,W)::X))=_;rw[jJ,SV.Gc,aag]
def S.deep(s:S)(k:S->T):T:=S.rec (motive:=λ_=>T) (λX b W V R au Q P=>SV.BU X λX=>aaf b λb=>bP W λW=>bP V λV=>Gb R λR=>bP au λau=>bP Q λQ=>Gb P λP=>k ⟨X,b,W,V,R,au,Q,P⟩) s
def dY(s:S)(k:S->T):s.deep k=k s:=by
 cases s;simp only[S.deep,aac,jJ,SV.Gc,aag]
def aah(k:XE->S->T):XE->S->T:=λe s=>s.deep (k e)
def au5(k:XE->S->T):aah k=k:=by funext e s;exact dY s (k e)
def nS(l:aj):Nat:=aE7 (motive:=λ_=>Nat) 0 (λd _ m=>aDu (aDR 1 d) m) l
def Dv(m n:Nat):Bool:=aFM (motive:=λ_=>Bool) J E (aD8 (Nat.land 1 (aGE m n)) 0)
def akb(m n:Nat):Dv m n=m.testBit n:=by
 have:m.testBit n= !(aD8 (Nat.land 1 (aGE m n)) 0):=by
  show((1&&&(m>>>n))!=0)= !(aD8 (1&&&(m>>>n)) 0);cases h:aD8 (1&&&(m>>>n)) 0 with
  |true=>rw[aGx h];rfl
  |false=>simp only[bne,Bool.not_false,aDv,beq_eq_false_iff_ne];exact λe=>by rw[e] at h;cases h
 rw[this,Dv];cases aD8 (Nat.land 1 (aGE m n)) 0<;>rfl
def RP:∀(l:aj)(n:Nat),(nS l).testBit n=l.contains n
 |[],n=>by simp[nS]
 |d::l,n=>by
  have:nS (d::l)=(1<<<d)|||nS l:=rfl;rw[this,aEL,RP l n,aGb,aGJ];rw[aEk];simp only[aDE,decide_eq_true_eq,aDN,aDp];exact⟨λh=>h.imp Eq.symm id,λh=>h.imp Eq.symm id⟩
def au6(l:aj)(n:Nat):Dv (nS l) n=l.contains n:=by rw[akb,RP]
def RQ(a:eF)(m X:Nat)(W:ai):Nat->ai->ai
 |_,[]=>[]
 |n,x::V=>(if Dv X n then(uc n a.tm W).getD (if Dv m n then .any else x) else if Dv m n then .any else x)::RQ a m X W (n+1) V
def akc{n:Nat}:∀{W:List (Nat×LK)}{X:ai},(W.map (·.1)).contains n=E->uc n W X=Z
 |[],X,_=>by cases X<;>rfl
 |(t,k)::r,[],_=>rfl
 |(t,k)::r,v::R,h=>by
  simp only[aDt,List.contains_cons,aDW] at h;have V:(t==n)=false:=by
   have:=h.1;simp only[beq_eq_false_iff_ne,ne_eq] at this⊢;exact λe=>this e.symm
  simp only[uc,V,aDB,if_false];exact akc h.2
def akd(a:eF)(X:aj)(W:ai):∀(n:Nat)(l:ai),RQ a (nS X) (nS (a.tm.map (·.1))) W n l=zx a X W n l
 |_,[]=>rfl
 |n,x::V=>by
  simp only[RQ,zx,akd a X W (n+1) V,au6];cases R:(a.tm.map (·.1)).contains n with
  |true=>rfl
  |false=>rw[akc R];rfl
def Ni(m:Nat):Nat->ai->ai->Bool
 |_,[],[]=>J
 |n,x::X,y::W=>(Dv m n||SV.same x y)&&Ni m (n+1) X W
 |_,_,_=>E
def aai(a:eF)(X:aj):∀(n:Nat)(l k:ai),Ni (aDu (nS X) (nS (a.tm.map (·.1)))) n l k=xt a X n l k
 |_,[],[]=>rfl
 |_,[],_::_=>rfl
 |_,_::_,[]=>rfl
 |n,x::W,y::V=>by
  simp only[Ni,xt,aai a X (n+1) W V];congr 1;have:Dv (aDu (nS X) (nS (a.tm.map (·.1)))) n=(a.tm.any (·.1==n)||X.contains n):=by
   rw[akb];change((nS X)|||(nS (a.tm.map (·.1)))).testBit n=_;rw[aEL,RP,RP,Bool.or_comm];congr 1;rw[aEk,aDN,aDL];simp only[aDF,beq_iff_eq]
  rw[this]
def aaj(a:eF)(X:aj)(s:S):S:=
 let r:ai×S:=S.bW {s with au:=s.au+1,rs:=gW a s} a.ks
 {r.2 with tmps:=RQ a (nS X) (nS (a.tm.map (·.1))) r.1 0 s.tmps,boxes:=se a (r.1.drop (Y a.tm)) 0 s.boxes}
def au7(a:eF)(X:aj)(s:S):aaj a X s=o7 a X s:=by
 simp only[aaj,o7,akd]
def aak(W:eF)(V:aj)(s:S)(k:XE->S->T):XE->S->T
 |.normal,X=>if Ni (aDu (nS V) (nS (W.tm.map (·.1)))) 0 s.tmps X.tmps&&qO W 0 s.boxes X.boxes&&qP X W.ks (jA W X)&&xq (gW W s) X.rs&&Fw (gW W s) (Fv W X)&&decide (X.pd=s.pd) then .back s.au (jA W X) else .stuck (agr W s X)
 |e,X=>k e X
def au8(X:eF)(W:aj)(s:S)(k:XE->S->T):aak X W s k=P3 X W s k:=by
 funext e V;cases e<;>simp only[aak,P3,aai]
def kK(X:bB):Nat->FuncId->Code->S->YH->(XE->S->T)->T
 |0,_,_,_,_,_=>.stuck ""
 |n+1,V,c,s,W,k=>
  match c with
  |.skip=>k .normal s
  |.label _=>k .normal s
  |.ret=>k .ret s
  |.exit id=>k (.exit id) s
  |.seq a b=>kK X n V a s W (PZ (λP=>kK X n V b P W k) k)
  |.block id a=>kK X n V a s W (XS id k)
  |.scope a=>kK X n V a s W k
  |.cond c a b=>match s.ev X.gl c with
   |.bool (.c J)=>kK X n V a s W k
   |.bool (.c E)=>kK X n V b s W k
   |.bool x=>match c with
    |.tmp t=>.node x (kK X n V a {s with tmps:=s.tmps.set t (.bool (.c J))} W k) (kK X n V b {s with tmps:=s.tmps.set t (.bool (.c E))} W k)
    |_=>.stuck ""
   |_=>.stuck ""
  |.region id R O=>match P7 X V id s with
   |U (e,G,fA,aH)=>Ij e fA (X4 (λP=>kK X n V (.region id R O) P W k) aH) (λP=>kK X n V (.region id R O) P W k) G
   |none=>s.aad λs=>if O then
    match RN X (!X.LM V id) R s with
    |U c=>Ma X (jB X (λf c s k=>kK X n f c s W k) W) R (aah k) c
    |none=>match aab R (Y s.boxes) with
    |U M=>if !H8 X R.toList then .stuck "" else Du X (xz X (C6 X R λf c s k=>kK X n f c s iA k) W) R (k .normal) (λv=>k (.bj v)) M (s.zB R M) []
    |none=>match RN X E R s with
     |U c=>Ma X (jB X (λf c s k=>kK X n f c s W k) W) R (aah k) c
     |none=>.stuck ""
   else
   Du X (XT (X.LM V (id+1000000)) X (jB X (λf c s k=>kK X n f c s W k) W)) R (k .normal) (λv=>k (.bj v)) (fH (λ_=>E) J E 0 (Y s.boxes) R.toList) (s.room (lG R.toList)) []
  |.loop a=>match(Code.first a).map (X.loop V) with
   |U (.inv Q)=>
    if !s.bd|| !qP s (Q.at s).ks (jA (Q.at s) s)|| !Ni (aDu (nS (Code.mQ a)) (nS ((Q.at s).tm.map (·.1)))) 0 s.tmps s.tmps|| !qO (Q.at s) 0 s.boxes s.boxes|| !xq (gW (Q.at s) s) s.rs|| !Fw (gW (Q.at s) s) (Fv (Q.at s) s) then .stuck (ags (Q.at s) (Code.mQ a) s) else
    .loop s.au (Q.at s).ks (jA (Q.at s) s) (kK X n V a (aaj (Q.at s) (Code.mQ a) s) W (aak (Q.at s) (Code.mQ a) s k))
   |_=>kK X n V a s W (PZ (λP=>kK X n V (.loop a) P W k) k)
  |.rangeFunc f L assign body=>match s.ev X.gl f with
   |.fn g N=>match X.inl g with
    |U (c,F,[])=>
     if !s.dV N||s.vI (Y s.pd)||SV.o8 (Y s.pd) N||iZ assign||iZ body then .stuck "" else
     kK X n g c (Ii s F N)
      (L7 (Y s.pd) L.size λD H C B=>
       kK X n V assign (Bn H s L.toList D) iA (L6 (Y s.pd) λA=>
        kK X n V body (A.FG (Y s.pd) .busy) iA (P4 (Y s.pd) H C B))) (FF s k)
    |_=>.stuck ""
   |_=>.stuck ""
  |_=>.stuck ""
def aal(X:bB):∀n,kK X n=eR X n
 |0=>by funext W c s V k;rfl
 |n+1=>by
  have R:=aal X n;funext W c s V k;unfold kK eR;simp only[R,RO,auY,au0,au1,aai,au7,au8,au5];cases c<;>rfl
def aam(X:bB)(n:Nat)(V:FuncId)(c:Code)(R:Nat)(Q:pN)(W:ai)(s:S):T:=
 kK X n V c {s with tmps:=W++aDq (R-Y W) (.bK [])} iA (P8 X (Y s.boxes) Q)
def au9(X:bB)(n:Nat)(W:FuncId)(c:Code)(V:Nat)(R:pN)(Q:ai)(s:S):aam X n W c V R Q s=Mc X n W c V R Q s:=by
 unfold aam Mc;rw[aal]
def aan(X:bB)(n:Nat)(Q:FuncId)(c:Code)(P:Nat)(O:pN)(V:TypeId)(R:ai)(s:S):T:=match ud c with
 |U d=>Du X (jB X (λf c s k=>kK X n f c s iA k) iA) d.qR (λW=>match W.tmps[d.te]? with
  |U (.loc i 0)=>if !oU V&&aM W.boxes i&&decide (d.tf<Y W.tmps) then kK X n Q d.rest (W.put (U d.tf) (.fn d.g [.loc i 0])) iA (X6 X (Y s.boxes) V i O) else .stuck ""
  |_=>.stuck "") (λ_ _=>.stuck "") (fH (λ_=>E) J E 0 (Y s.boxes) d.qR.toList) (({s with tmps:=R++aDq (P-Y R) (SV.bK [])}:S).room (lG d.qR.toList)) []
 |none=>.stuck ""
def ava(X:bB)(n:Nat)(W:FuncId)(c:Code)(V:Nat)(R:pN)(Q:TypeId)(P:ai)(s:S):aan X n W c V R Q P s=Me X n W c V R Q P s:=by
 unfold aan Me;cases ud c with
 |none=>rfl
 |some d=>
  simp only[aal,RO];rfl
def evX(X:bB)(P:Option TypeId)(n:Nat)(W:FuncId)(c:Code)(V:Nat)(R:pN)(Q:ai)(s:S):T:=match P with
 |none=>aam X n W c V R Q s
 |U O=>aan X n W c V R O Q s
section
variable{bi u:me}
def mR(L:∀f H o,bi f H=U o->u f H=U o):∀(n R:Nat)(t:T)(O:ac)(i:jo)(o:bn),n<=R->exec bi n t O i=U o->exec u R t O i=U o
 |0,_,t,O,i,o,_,h=>by simp[exec] at h
 |n+1,0,t,O,i,o,G,h=>by omega
 |n+1,R+1,t,O,i,o,G,h=>by
  have X:=mR L n R;cases t with
  |ret v F Q=>simpa only[exec] using h
  |bj v=>simpa only[exec] using h
  |node b t f=>
   simp only[exec] at h⊢;split at h;rename_i W;rw[if_pos W];exact X t O i o (by omega) h;rename_i W;rw[if_neg W];exact X f O i o (by omega) h
  |aV b t=>
   simp only[exec] at h⊢;split at h;rename_i W;rw[if_pos W];exact X t O i o (by omega) h;cases h
  |call f D F Q C fG t=>
   simp only[exec] at h⊢;cases N:bi f ((nQ D).map (SV.xv O)) with
   |none=>rw[N] at h;cases h
   |some r=>
    rw[N] at h;rw[L _ _ _ N];cases r with
    |ret z=>
     simp only at h⊢;split at h;rename_i P;rw[if_pos P];exact X t _ i o (by omega) h;cases h
    |bj v=>exact h
  |loop au C y t=>
   simp only[exec] at h⊢;exact X t _ _ o (by omega) h
  |back au x=>
   simp only[exec] at h⊢;cases P:pY au i with
   |none=>rw[P] at h;cases h
   |some q=>
    obtain⟨B,w⟩:=q;rw[P] at h;exact X B.t _ _ o (by omega) h
  |new e x Q p t=>
   simp only[exec] at h⊢;exact X t _ i o (by omega) h
  |rows k x Q t=>
   simp only[exec] at h⊢;exact X t _ i o (by omega) h
  |fA g A t f=>
   simp only[exec] at h⊢;split at h;rename_i M;rw[if_pos M];split at h;rename_i V;rw[if_pos V];exact ajN h (X t O i o (by omega)) (X f O i o (by omega));rename_i V;rw[if_neg V];exact X t O i o (by omega) h;rename_i M;rw[if_neg M];split at h;rename_i V;rw[if_pos V];exact X f O i o (by omega) h;cases h
  |pick m g A t f=>
   simp only[exec] at h⊢;refine ajO h λj _ q=> ?_
   cases j with
   |some j=>exact X t _ i o (by omega) q
   |none=>exact X f _ i o (by omega) q
  |dw f g e l d r Q t=>
   simp only[exec] at h⊢;split at h;rename_i rows c;exact X t _ i o (by omega) h;cases h
  |out e s=>simp[exec] at h
  |stuck m=>simp[exec] at h
end
def iV(n:Int):RV:=.mk (.int I n) []
def bV(b:Bool):RV:=.mk (.bool b) []
def sV(l:bh):RV:=.mk (.slice Z (Y l) (Y l)) (l.map λn=>[iV n])
def mf(b:Nat)(X:am):RV:=.mk (.slice (U ⟨b,0,Z⟩) (Y X) (Y X)) X
def kf:aF:=[
 mf 0 ([(E,E,E,0,0,0),(J,J,E,1,0,16),(E,J,E,1,0,16),(J,J,E,0,3,0),(J,J,E,0,3,0),(E,J,E,0,3,0),(E,E,E,0,0,7),(E,E,J,0,0,0),(E,E,J,0,0,0),(J,E,E,0,3,0)].map λ(a,b,c,d,e,f)=>[bV a,bV b,bV c,iV d,iV e,iV f]),
 mf 1 ([([],[]),([0],[]),([],[0,1]),([0],[]),([2],[]),([],[4]),([],[]),([],[2,3]),([],[0,1]),([2],[])].map λ(a,b)=>[sV a,sV b]),
 mf 2 ([(0,29),(20,21),(29,0),(20,-21),(0,-29),(-20,-21),(-29,0),(-20,21)].map λ(a,b)=>[iV a,iV b])]
def kg(g:Bool):aF:=if g then kf else[]
def xS(d:Bool):jH->jH
 |U (.ret X)=>U (.ret X)
 |U (.bj v)=>if d then Z else U (.bj v)
 |none=>Z
structure Fn where
 t:T
 g:Bool:=E
 d:Bool:=E
structure jK where
 tree:FuncId->Option Fn
 nT:me
def jK.bi(p:jK):Nat->me
 |0=>p.nT
 |n+1=>λf W=>match p.nT f W with
  |U o=>U o
  |none=>match p.tree f with
   |U X=>xS X.d (exec (jK.bi p n) n X.t (eL (kg X.g) W) [])
   |none=>Z
def kL{p:jK}:∀(n W:Nat)(f:FuncId)(X:aW)(o:bn),n<=W->p.bi n f X=U o->p.bi W f X=U o
 |0,0,f,X,o,_,h=>h
 |0,W+1,f,X,o,_,h=>by
  simp only[jK.bi] at h⊢;rw[h]
 |n+1,0,f,X,o,M,_=>by omega
 |n+1,W+1,f,X,o,M,h=>by
  simp only[jK.bi] at h⊢;cases Q:p.nT f X with
  |some P=>rw[Q] at h;exact h
  |none=>
   rw[Q] at h;simp only at h⊢;cases N:p.tree f with
   |none=>rw[N] at h;cases h
   |some V=>
    rw[N] at h;simp only at h⊢;cases R:exec (p.bi n) n V.t (eL (kg V.g) X) [] with
    |none=>rw[R] at h;cases h
    |some P=>
     rw[R] at h;rw[mR (λf X o h=>kL n W f X o (by omega) h) n W V.t _ _ P (by omega) R];exact h
def jK.Ev(p:jK)(f:FuncId)(X:aW)(o:bn):Prop:=∃n,p.bi n f X=U o
def jK.Go(p:jK)(t:T)(O:ac)(i:jo)(o:bn):Prop:=∃n,exec (p.bi n) n t O i=U o
section
variable{p:jK}{O:ac}{i:jo}{o:bn}
def aap{X:aW}(h:p.nT x X=U o):p.Ev x X o:=⟨0,h⟩
def avb{W:aW}{X:Fn}(Q:p.tree x=U X)(P:p.nT x W=Z)(V:X.d=E\/∃R,o=.ret R)(h:p.Go X.t (eL (kg X.g) W) [] o):p.Ev x W o:=by
 obtain⟨n,h⟩:=h;refine⟨n+1, ?_⟩;simp only[jK.bi,P,Q,h];rcases V with V|⟨R,rfl⟩;cases o<;>simp[xS,V];rfl
def go_of:p.Go r O i o<->∃n,exec (p.bi (n+1)) (n+1) r O i=U o:=
 ⟨λ⟨n,h⟩=>⟨n,mR (λf X o h=>kL n (n+1) f X o (by omega) h) n (n+1) r O i o (by omega) h⟩,λ⟨n,h⟩=>⟨n+1,h⟩⟩
def go_up{m:Nat}(h:exec (p.bi N) m r O i=U o):p.Go r O i o:=
 ⟨max N m,mR (λf X o h=>kL N _ f X o (by omega) h) m _ r O i o (by omega) h⟩
@[simp] def go_ret:p.Go (.ret k g v) O i o<->o=.ret ((ur k).map (SV.xv O)):=by
 rw[go_of];simp only[exec,aDh];exact⟨λ⟨_,h⟩=>h.symm,λh=>⟨0,h.symm⟩⟩
@[simp] def go_pan:p.Go (.bj k) O i o<->(F6 O k).map .bj=U o:=by
 rw[go_of];simp only[exec];exact⟨λ⟨_,h⟩=>h,λh=>⟨0,h⟩⟩
@[simp] def go_node {b:BE} {f:T}:p.Go (.node b r f) O i o<->if b.den O=J then p.Go r O i o else p.Go f O i o:=by
 rw[go_of];simp only[exec];split
 ·exact⟨λ⟨n,h⟩=>go_up h,λ⟨n,h⟩=>⟨n,mR (λf X o h=>kL n (n+1) f X o (by omega) h) n n r O i o (by omega) h⟩⟩
 ·exact⟨λ⟨n,h⟩=>go_up h,λ⟨n,h⟩=>⟨n,mR (λf X o h=>kL n (n+1) f X o (by omega) h) n n f O i o (by omega) h⟩⟩
@[simp] def go_need {b:BE}:p.Go (.aV b r) O i o<->b.den O=J/\p.Go r O i o:=by
 rw[go_of];simp only[exec];by_cases X:b.den O=J
 ·simp only[X,if_true,true_and];exact⟨λ⟨n,h⟩=>go_up h,λ⟨n,h⟩=>⟨n,mR (λf W o h=>kL n (n+1) f W o (by omega) h) n n r O i o (by omega) h⟩⟩
 simp[X]
@[simp] def go_loop:p.Go (.loop N e y r) O i o<->p.Go r (O.ext (y.map (SV.xv O))) (⟨N,r,O⟩::i) o:=by
 rw[go_of];simp only[exec];exact⟨λ⟨n,h⟩=>go_up h,λ⟨n,h⟩=>⟨n,mR (λf X o h=>kL n (n+1) f X o (by omega) h) n n r _ _ o (by omega) h⟩⟩
@[simp] def go_new {x:LE} {X:aE}:p.Go (.new t x v X r) O i o<->p.Go r (O.add (.r (gf x O))) i o:=by
 rw[go_of];simp only[exec];exact⟨λ⟨n,h⟩=>go_up h,λ⟨n,h⟩=>⟨n,mR (λf W o h=>kL n (n+1) f W o (by omega) h) n n r _ _ o (by omega) h⟩⟩
@[simp] def go_rows {k:RK} {x:LE}:p.Go (.rows k x v r) O i o<->p.Go r (O.add (.r (gf x O))) i o:=by
 rw[go_of];simp only[exec];exact⟨λ⟨n,h⟩=>go_up h,λ⟨n,h⟩=>⟨n,mR (λf X o h=>kL n (n+1) f X o (by omega) h) n n r _ _ o (by omega) h⟩⟩
def go_turn{g:FuncId}{W:be}{V:Bool}{X:RE}{R:am}(h:l9 O W V (X.rv O).rows=U R):p.Go (.dw x g t W V X v r) O i o<->p.Go r (O.add (.r (.mk (X.rv O).val R))) i o:=by
 rw[go_of];simp only[exec,h];exact⟨λ⟨n,h⟩=>go_up h,λ⟨n,h⟩=>⟨n,mR (λx Q o h=>kL n (n+1) x Q o (by omega) h) n n r _ _ o (by omega) h⟩⟩
def go_back{W:jo}{X:Lp}(h:pY N i=U (X,W)):p.Go (.back N y) O i o<->p.Go X.t (X.O.ext (y.map (SV.xv O))) (X::W) o:=by
 rw[go_of];simp only[exec,h];exact⟨λ⟨n,h⟩=>go_up h,λ⟨n,h⟩=>⟨n,mR (λf V o h=>kL n (n+1) f V o (by omega) h) n n X.t _ _ o (by omega) h⟩⟩
def go_call{X:aW}(h:p.Ev x ((nQ y).map (SV.xv O)) (.ret X))(V:fq e X=J)(W:p.Go r (O.ext X) i o):p.Go (.call x y g v e k r) O i o:=by
 obtain⟨n,h⟩:=h;obtain⟨m,W⟩:=W;refine⟨max n m+1, ?_⟩;simp only[exec];rw[kL n _ _ _ _ (by omega) h];simp only[V,if_true];exact mR (λx R o h=>kL m _ x R o (by omega) h) m _ r _ _ o (by omega) W
def go_callp{X:Value}(h:p.Ev x ((nQ y).map (SV.xv O)) (.bj X)):p.Go (.call x y g v e k r) O i (.bj X):=by
 obtain⟨n,h⟩:=h;refine⟨n+1, ?_⟩;simp only[exec];rw[kL n _ _ _ _ (by omega) h]
end
structure PC where
 au:Nat
 I:aW->Prop
 μ:aW->Nat
 m:Nat
abbrev dK:=List PC
def Gd(au:Nat):dK->Option PC
 |[]=>Z
 |x::X=>if x.au=au then U x else Gd au X
def Jl(R:bn->Prop):Prop:=∀o X,R o->R X->o=X/\vR o o=J
def T.lq(W:FuncId->aW->bn->Prop):T->(bn->Prop)->ac->dK->Prop
 |.ret v _ _,R,O,_=>R (.ret ((ur v).map (SV.xv O)))
 |.bj v,R,O,_=>∃x,F6 O v=U x/\R (.bj x)
 |.node b t f,R,O,L=>(b.den O=J->t.lq W R O L)/\(b.den O=E->f.lq W R O L)
 |.aV b t,R,O,L=>b.den O=J/\t.lq W R O L
 |.call f G _ _ F _ t,R,O,L=>∃o,W f ((nQ G).map (SV.xv O)) o/\(match o with
  |.ret N=>fq F N=J/\t.lq W R (O.ext N) L
  |.bj v=>R (.bj v))
 |.loop au _ D t,R,O,L=>∃V Q,((V=R/\Q=L)\/((∀o,V o->R o)/\Q=[]))/\∃X M,X (D.map (SV.xv O))/\∀P,X P->t.lq W V (O.ext P) (⟨au,X,M,M P⟩::Q)
 |.back au x,R,O,L=>match Gd au L with
  |U c=>c.I (x.map (SV.xv O))/\c.μ (x.map (SV.xv O))<c.m
  |none=>False
 |.new _ x _ _ t,R,O,L=>t.lq W R (O.add (.r (gf x O))) L
 |.rows _ x _ t,R,O,L=>t.lq W R (O.add (.r (gf x O))) L
 |.fA g h t f,R,O,L=>(g.den O=J\/h.den O=J)/\(g.den O=J->t.lq W R O L)/\(h.den O=J->f.lq W R O L)/\(g.den O=J->h.den O=J->Jl R)
 |.pick n g h t f,R,O,L=>Jl R/\pi n g h O≠[]/\(∀j:Int,0<=j->j<n.den O->g.den (O.add (.i j))=J->t.lq W R (O.add (.i j)) L)/\(h.den O=J->f.lq W R O L)
 |.dw _ _ _ C B r _ t,R,O,L=>∃H,l9 O C B (r.rv O).rows=U H/\t.lq W R (O.add (.r (.mk (r.rv O).val H))) L
 |.stuck _,_,_,_=>False
 |.out _ _,_,_,_=>False
def T.wp(X:FuncId->aW->bn->Prop)(R:bn->Prop)(t:T)(O:ac)(L:dK):Prop:=t.lq X R O L
section
variable{a:jK}{R:bn->Prop}
inductive zS(a:jK)(R:bn->Prop):List PC->List Lp->Prop where
 |nil (st:List Lp):zS a R [] st
 |cons (c:PC) (fr:Lp) (L:List PC) (st:List Lp) (h1:c.au=fr.au) (h2:∀xs,c.I xs->c.μ xs<c.m->∃o,a.Go fr.t (fr.O.ext xs) (fr::st) o/\R o) (h3:zS a R L st):zS a R (c::L) (fr::st)
def zS.find{L:dK}{V:jo}(h:zS a R L V){c:PC}(W:Gd N L=U c):
  ∃X M,pY N V=U (X,M)/\∀Q,c.I Q->c.μ Q<c.m->∃o,a.Go X.t (X.O.ext Q) (X::M) o/\R o:=by
 induction h with
 |nil _=>cases W
 |cons D X L V H G C F=>
  simp only[Gd] at W;simp only[pY,<-H];split at W;rename_i P;cases W;rw[if_pos P];exact⟨X,V,rfl,G⟩;rename_i P;rw[if_neg P];exact F W
def go_mono{X:jo}{m:Nat}(h:exec (a.bi N) N r F X=U l)(W:N<=m):exec (a.bi m) m r F X=U l:=
 mR (λf V l h=>kL N m f V l W h) N m r F X l W h
def ake{X:Type}{f:X->jH}{o:bn}(W:vR o o=J):∀{l:List X},l≠[]->(∀x∈l,f x=U o)->rg (l.map f)=U o
 |[],h,_=>absurd rfl h
 |[x],_,h=>by simpa[rg] using h x (by simp)
 |x::y::r,_,h=>by
  have:=ake W (l:=y::r) (by simp) (λz V=>h z (by simp at V⊢;exact .inr V));simp only[aDt,rg] at this⊢;rw[this,h x (by simp),zQ,if_pos W]
def akf{V:Type}{p:V->Nat->Prop}(W:∀x n m,p x n->n<=m->p x m):∀{l:List V},(∀x∈l,∃n,p x n)->∃n,∀x∈l,p x n
 |[],_=>⟨0,λx Q=>by cases Q⟩
 |x::r,h=>by
  obtain⟨n,P⟩:=h x (by simp);obtain⟨m,O⟩:=akf W (l:=r) (λz X=>h z (by simp[X]));refine⟨max n m,λz X=> ?_⟩;rcases aDp.1 X with rfl|X;exact W _ _ _ P (by omega);exact W _ _ _ (O z X) (by omega)
def go_wp:∀(t:T)(R:bn->Prop)(O:ac)(L:dK)(W:jo),t.lq a.Ev R O L->zS a R L W->∃o,a.Go t O W o/\R o
 |.ret v bx z,R,O,L,W,h,_=>⟨_,go_ret.2 rfl,h⟩
 |.bj v,R,O,L,W,h,_=>by
  obtain⟨x,P,Q⟩:=h;exact⟨.bj x,go_pan.2 (by rw[P];rfl),Q⟩
 |.node b t f,R,O,L,W,h,V=>by
  simp only[go_node];cases hb:b.den O with
  |true=>simpa using go_wp t R O L W (h.1 hb) V
  |false=>simpa using go_wp f R O L W (h.2 hb) V
 |.aV b t,R,O,L,W,h,V=>by
  obtain⟨o,P,Q⟩:=go_wp t R O L W h.2 V;exact⟨o,go_need.2 ⟨h.1,P⟩,Q⟩
 |.call f a2 bx z ks fG t,R,O,L,W,h,V=>by
  obtain⟨o,P,Q⟩:=h;cases o with
  |ret ys=>
   obtain⟨o,G,F⟩:=go_wp t R (O.ext ys) L W Q.2 V;exact⟨o,go_call P Q.1 G,F⟩
  |bj v=>exact⟨.bj v,go_callp P,Q⟩
 |.loop au ks x0 t,R,O,L,W,h,V=>by
  obtain⟨y,L',af,X,μ,P,Q⟩:=h;have ab:zS a y L' W/\∀o,y o->R o:=by
   rcases af with⟨rfl,rfl⟩|⟨G,rfl⟩;exact⟨V,λo h=>h⟩;exact⟨zS.nil W,G⟩
  have ag:∀n N,μ N<n->X N->∃o,a.Go t (O.ext N) (⟨au,t,O⟩::W) o/\y o:=by
   intro n;induction n with
   |zero=>intro N q;omega
   |succ n ih=>
    intro N q hI;exact go_wp t y (O.ext N) _ _ (Q N hI) (zS.cons _ _ _ _ rfl (λal an hm=>ih al (by simp only at hm;omega) an) ab.1)
  obtain⟨o,G,F⟩:=ag _ _ (aFb _) P;exact⟨o,go_loop.2 G,ab.2 o F⟩
 |.back au x,R,O,L,W,h,V=>by
  simp only[T.lq] at h;split at h
  ·rename_i c hf;obtain⟨fr,a3,P,Q⟩:=V.find hf;obtain⟨o,G,F⟩:=Q _ h.1 h.2;exact⟨o,(go_back P).2 G,F⟩
  exact h.elim
 |.new e x z a4 t,R,O,L,W,h,V=>by
  obtain⟨o,P,Q⟩:=go_wp t R _ L W h V;exact⟨o,go_new.2 P,Q⟩
 |.rows e x z t,R,O,L,W,h,V=>by
  obtain⟨o,P,Q⟩:=go_wp t R _ L W h V;exact⟨o,go_rows.2 P,Q⟩
 |.fA g A t f,R,O,L,W,h,V=>by
  obtain⟨w,P,Q,G⟩:=h;cases B:g.den O with
  |true=>
   obtain⟨o,M,D⟩:=go_wp t R O L W (P B) V;cases C:A.den O with
   |true=>
    obtain⟨d,k1,k2⟩:=go_wp f R O L W (Q C) V;obtain⟨rfl,e⟩:=G B C o d D k2;obtain⟨n,M⟩:=M;obtain⟨m,k1⟩:=k1;refine⟨o,⟨max n m+1, ?_⟩,D⟩;simp only[exec,B,C,if_true];rw[mR (λf N o h=>kL n _ f N o (by omega) h) n (max n m) t O W o (by omega) M,mR (λf N o h=>kL m _ f N o (by omega) h) m (max n m) f O W o (by omega) k1,zQ,if_pos e]
   |false=>
    obtain⟨n,M⟩:=M;refine⟨o,⟨n+1, ?_⟩,D⟩;simp only[exec,B,C,if_true];exact mR (λf N o h=>kL n _ f N o (by omega) h) n n t O W o (by omega) M
  |false=>
   have C:A.den O=true:=w.resolve_left (by simp[B]);obtain⟨o,M,D⟩:=go_wp f R O L W (Q C) V;obtain⟨n,M⟩:=M;refine⟨o,⟨n+1, ?_⟩,D⟩;simp only[exec,B,C,if_true];exact mR (λf N o h=>kL n _ f N o (by omega) h) n n f O W o (by omega) M
 |.pick m g A t f,R,O,L,W,h,V=>by
  obtain⟨hs,w,P,Q⟩:=h;have hw:∀j∈pi m g A O,∃o,R o/\(match j with
   |U j=>a.Go t (O.add (.i j)) W o
   |none=>a.Go f O W o):=by
   intro j H;cases j with
   |some j=>
    simp only[pi,aDo,aDF,aD1,aEd] at H;rcases H with⟨j',⟨⟨k,hk,rfl⟩,B⟩,e⟩|H
    ·cases e;obtain⟨o,M,D⟩:=go_wp t R (O.add (.i (k:Int))) L W (P _ (by omega) (by omega) B) V;exact⟨o,D,M⟩
    split at H<;>simp at H
   |none=>
    simp only[pi,aDo,aDF,aD1,aEd] at H;rcases H with⟨j',_,e⟩|H;cases e;split at H
    ·rename_i C;obtain⟨o,M,D⟩:=go_wp f R O L W (Q C) V;exact⟨o,D,M⟩
    simp at H
  obtain⟨j0,ap⟩:=List.exists_mem_of_ne_nil _ w;obtain⟨o,u,_⟩:=hw j0 ap;have a0:vR o o=true:=(hs o o u u).2;obtain⟨n,q⟩:=akf (p:=λj n=>(match j with
   |U j=>exec (a.bi n) n t (O.add (.i j)) W
   |none=>exec (a.bi n) n f O W)=U o) (λx n m hx a1=>by cases x<;>exact go_mono hx a1) (l:=pi m g A O) (λj H=>by
    obtain⟨d,G,F⟩:=hw j H;obtain⟨rfl,_⟩:=hs o d u G;cases j<;>exact F)
  refine⟨o,⟨n+1, ?_⟩,u⟩;simp only[exec];refine ake a0 w λj H=> ?_
  have:=q j H;cases j with
  |some j=>exact mR (λf N o h=>kL n _ f N o (by omega) h) n n t _ W o (by omega) this
  |none=>exact mR (λf N o h=>kL n _ f N o (by omega) h) n n f O W o (by omega) this
 |.dw f g e sp sb r z t,R,O,L,W,h,V=>by
  obtain⟨a5,P,Q⟩:=h;obtain⟨o,G,F⟩:=go_wp t R _ L W Q V;exact⟨o,(go_turn P).2 G,F⟩
 |.stuck m,R,O,L,W,h,_=>h.elim
 |.out e s,R,O,L,W,h,_=>h.elim
def Jm(a:jK)(f:FuncId)(X:Fn):Prop:=a.tree f=U X/\∀W,a.nT f W=Z
def akg{X:Fn}{W:aW}(V:Jm a x X)(P:X.d=E\/∀v,¬R (.bj v))(h:X.t.wp a.Ev R (eL (kg X.g) W) []):∃o,a.Ev x W o/\R o:=by
 obtain⟨o,O,Q⟩:=go_wp X.t R _ [] [] h (zS.nil []);refine⟨o,avb V.1 (V.2 _) (P.imp id λN=> ?_) O,Q⟩;cases o with
 |ret M=>exact⟨M,rfl⟩
 |bj v=>exact(N v Q).elim
def Ge{X:Fn}{W:aW}(V:Jm a x X)(Q:X.d=E\/∀v,l≠ .bj v)(h:X.t.wp a.Ev (· =l) (eL (kg X.g) W) []):a.Ev x W l:=by
 obtain⟨L,P,O⟩:=akg (R:=(· =l)) V (Q.imp id λN v M=>N v M.symm) h;exact O▸P
def Nj{X:aW}{W:bn}(h:a.Ev x X l)(k:a.Ev x X W):l=W:=by
 obtain⟨n,h⟩:=h;obtain⟨m,k⟩:=k;have Q:=kL n (max n m) x X l (by omega) h;have V:=kL m (max n m) x X W (by omega) k;rw[Q] at V;cases V;rfl
end
def RT(n j:Nat)(a b c:Int)(X:am):Int:=match fJ n [a,b,c] X with
 |U W=>aO (W.getD j default).val
 |none=>0
def RU(n j:Nat)(a b c:Int)(X:am):Bool:=match fJ n [a,b,c] X with
 |U W=>fm (W.getD j default).val
 |none=>E
def IE.dn(e:IE):ac->Int:=IE.rec (motive_1:=λ_=>ac->Int) (motive_2:=λ_=>ac->Bool) (motive_3:=λ_=>ac->RV) (λn _=>n) (λk O=>O.i.getD k 0) (λX k _ _ a b O=>ay X k (a O) (b O)) (λk _ a O=>k.wrap (a O)) (λ_ r O=>lenOf (r O).val) (λW _ _ a b O=>cond W (max (a O) (b O)) (min (a O) (b O))) (λ_ _ _ b x y O=>cond (b O) (x O) (y O)) (λ_ _ j r i O=>aO (cellAt (r O).rows (i O) j).val) (λ_ _ r i O=>C9 (r O).val (i O)) (λ_ n _ _ _ j r a b c O=>RT n j (a O) (b O) (c O) (r O).rows) (λb _=>b) (λk O=>O.b.getD k E) (λX _ _ a b O=>fQ X (a O) (b O)) (λ_ a O=> !(a O)) (λ_ _ a b O=>a O&&b O) (λ_ _ a b O=>a O==b O) (λ_ _ _ b x y O=>cond (b O) (x O) (y O)) (λ_ _ j r i O=>fm (cellAt (r O).rows (i O) j).val) (λ_ _ a b O=>ue (a O).val (b O).val) (λ_ n _ _ _ j r a b c O=>RU n j (a O) (b O) (c O) (r O).rows) (λ_ n _ _ _ r a b c O=>(fJ n [a O,b O,c O] (r O).rows).isSome) (λk O=>O.rv k) (λ_ _ j k r i O=>cT k (cellAt (r O).rows (i O) j)) (λv _=>.mk v []) e
def BE.dn(e:BE):ac->Bool:=BE.rec (motive_1:=λ_=>ac->Int) (motive_2:=λ_=>ac->Bool) (motive_3:=λ_=>ac->RV) (λn _=>n) (λk O=>O.i.getD k 0) (λX k _ _ a b O=>ay X k (a O) (b O)) (λk _ a O=>k.wrap (a O)) (λ_ r O=>lenOf (r O).val) (λW _ _ a b O=>cond W (max (a O) (b O)) (min (a O) (b O))) (λ_ _ _ b x y O=>cond (b O) (x O) (y O)) (λ_ _ j r i O=>aO (cellAt (r O).rows (i O) j).val) (λ_ _ r i O=>C9 (r O).val (i O)) (λ_ n _ _ _ j r a b c O=>RT n j (a O) (b O) (c O) (r O).rows) (λb _=>b) (λk O=>O.b.getD k E) (λX _ _ a b O=>fQ X (a O) (b O)) (λ_ a O=> !(a O)) (λ_ _ a b O=>a O&&b O) (λ_ _ a b O=>a O==b O) (λ_ _ _ b x y O=>cond (b O) (x O) (y O)) (λ_ _ j r i O=>fm (cellAt (r O).rows (i O) j).val) (λ_ _ a b O=>ue (a O).val (b O).val) (λ_ n _ _ _ j r a b c O=>RU n j (a O) (b O) (c O) (r O).rows) (λ_ n _ _ _ r a b c O=>(fJ n [a O,b O,c O] (r O).rows).isSome) (λk O=>O.rv k) (λ_ _ j k r i O=>cT k (cellAt (r O).rows (i O) j)) (λv _=>.mk v []) e
def RE.dn(e:RE):ac->RV:=RE.rec (motive_1:=λ_=>ac->Int) (motive_2:=λ_=>ac->Bool) (motive_3:=λ_=>ac->RV) (λn _=>n) (λk O=>O.i.getD k 0) (λX k _ _ a b O=>ay X k (a O) (b O)) (λk _ a O=>k.wrap (a O)) (λ_ r O=>lenOf (r O).val) (λW _ _ a b O=>cond W (max (a O) (b O)) (min (a O) (b O))) (λ_ _ _ b x y O=>cond (b O) (x O) (y O)) (λ_ _ j r i O=>aO (cellAt (r O).rows (i O) j).val) (λ_ _ r i O=>C9 (r O).val (i O)) (λ_ n _ _ _ j r a b c O=>RT n j (a O) (b O) (c O) (r O).rows) (λb _=>b) (λk O=>O.b.getD k E) (λX _ _ a b O=>fQ X (a O) (b O)) (λ_ a O=> !(a O)) (λ_ _ a b O=>a O&&b O) (λ_ _ a b O=>a O==b O) (λ_ _ _ b x y O=>cond (b O) (x O) (y O)) (λ_ _ j r i O=>fm (cellAt (r O).rows (i O) j).val) (λ_ _ a b O=>ue (a O).val (b O).val) (λ_ n _ _ _ j r a b c O=>RU n j (a O) (b O) (c O) (r O).rows) (λ_ n _ _ _ r a b c O=>(fJ n [a O,b O,c O] (r O).rows).isSome) (λk O=>O.rv k) (λ_ _ j k r i O=>cT k (cellAt (r O).rows (i O) j)) (λv _=>.mk v []) e
def RW{X:Type}(b:Bool)(x y:X):cond b x y=if b then x else y:=by cases b<;>rfl
mutual
def IE.eM:∀(e:IE)(O:ac),e.dn O=e.den O
 |.c _,_=>rfl
 |.v _,_=>rfl
 |.bin o k a b,O=>by show ay o k (a.dn O) (b.dn O)=_;rw[IE.eM a,IE.eM b];rfl
 |.conv k a,O=>by show k.wrap (a.dn O)=_;rw[IE.eM a];rfl
 |.len r,O=>by show lenOf (r.dn O).val=_;rw[RE.eM r];rfl
 |.mm m a b,O=>by show cond m (max (a.dn O) (b.dn O)) (min (a.dn O) (b.dn O))=_;rw[IE.eM a,IE.eM b,RW];rfl
 |.cR b x y,O=>by show cond (b.dn O) (x.dn O) (y.dn O)=_;rw[BE.eM b,IE.eM x,IE.eM y,RW];rfl
 |.cell r i j,O=>by show aO (cellAt (r.dn O).rows (i.dn O) j).val=_;rw[RE.eM r,IE.eM i];rfl
 |.mD r i,O=>by show C9 (r.dn O).val (i.dn O)=_;rw[RE.eM r,IE.eM i];rfl
 |.look r n a b c j,O=>by show RT n j (a.dn O) (b.dn O) (c.dn O) (r.dn O).rows=_;rw[RE.eM r,IE.eM a,IE.eM b,IE.eM c];rfl
def BE.eM:∀(e:BE)(O:ac),e.dn O=e.den O
 |.c _,_=>rfl
 |.v _,_=>rfl
 |.cmp o a b,O=>by show fQ o (a.dn O) (b.dn O)=_;rw[IE.eM a,IE.eM b];rfl
 |.not a,O=>by show(!(a.dn O))=_;rw[BE.eM a];rfl
 |.and a b,O=>by show(a.dn O&&b.dn O)=_;rw[BE.eM a,BE.eM b];rfl
 |.beq a b,O=>by show(a.dn O==b.dn O)=_;rw[BE.eM a,BE.eM b];rfl
 |.cR b x y,O=>by show cond (b.dn O) (x.dn O) (y.dn O)=_;rw[BE.eM b,BE.eM x,BE.eM y,RW];rfl
 |.cell r i j,O=>by show fm (cellAt (r.dn O).rows (i.dn O) j).val=_;rw[RE.eM r,IE.eM i];rfl
 |.seq a b,O=>by show ue (a.dn O).val (b.dn O).val=_;rw[RE.eM a,RE.eM b];rfl
 |.look r n a b c j,O=>by show RU n j (a.dn O) (b.dn O) (c.dn O) (r.dn O).rows=_;rw[RE.eM r,IE.eM a,IE.eM b,IE.eM c];rfl
 |.has r n a b c,O=>by show(fJ n [a.dn O,b.dn O,c.dn O] (r.dn O).rows).isSome=_;rw[RE.eM r,IE.eM a,IE.eM b,IE.eM c];rfl
def RE.eM:∀(e:RE)(O:ac),e.dn O=e.rv O
 |.v _,_=>rfl
 |.cell r i j k,O=>by show cT k (cellAt (r.dn O).rows (i.dn O) j)=_;rw[RE.eM r,IE.eM i];rfl
 |.k _,_=>rfl
end
def fN{X:Type}(n:Nat)(k:Nat->X):X:=aFO (motive:=λ_=>X) (k 0) (λm _=>k (Nat.succ m)) n
def fI{X:Type}(n:Int)(k:Int->X):X:=Int.rec (motive:=λ_=>X) (λn=>fN n λn=>k (aGT n)) (λn=>fN n λn=>k (aGv n)) n
def fB{X:Type}(b:Bool)(k:Bool->X):X:=aFM (motive:=λ_=>X) (k E) (k J) b
def fV{X:Type}(v:Value)(k:Value->X):X:=match v with
 |.int q n=>fI n λn=>k (.int q n)
 |.bool b=>fB b λb=>k (.bool b)
 |.slice Z n c=>fN n λn=>fN c λc=>k (.slice Z n c)
 |v=>k v
def fR{X:Type}(v:RV):(RV->X)->X:=RV.rec (motive_1:=λ_=>(RV->X)->X) (motive_2:=λ_=>(am->X)->X) (motive_3:=λ_=>(aF->X)->X) (λv _ h k=>fV v λv=>h λl=>k (.mk v l)) (λk=>k []) (λ_ _ h W k=>h λx=>W λV=>k (x::V)) (λk=>k []) (λ_ _ h W k=>h λx=>W λV=>k (x::V)) v
def fRs{X:Type}(v:am):(am->X)->X:=RV.rec_1 (motive_1:=λ_=>(RV->X)->X) (motive_2:=λ_=>(am->X)->X) (motive_3:=λ_=>(aF->X)->X) (λv _ h k=>fV v λv=>h λl=>k (.mk v l)) (λk=>k []) (λ_ _ h W k=>h λx=>W λV=>k (x::V)) (λk=>k []) (λ_ _ h W k=>h λx=>W λV=>k (x::V)) v
def fRr{X:Type}(v:aF):(aF->X)->X:=RV.rec_2 (motive_1:=λ_=>(RV->X)->X) (motive_2:=λ_=>(am->X)->X) (motive_3:=λ_=>(aF->X)->X) (λv _ h k=>fV v λv=>h λl=>k (.mk v l)) (λk=>k []) (λ_ _ h W k=>h λx=>W λV=>k (x::V)) (λk=>k []) (λ_ _ h W k=>h λx=>W λV=>k (x::V)) v
def fX{X:Type}(x:XV)(k:XV->X):X:=match x with
 |.i n=>fI n λn=>k (.i n)
 |.b b=>fB b λb=>k (.b b)
 |.r v=>fR v λv=>k (.r v)
def fL{X:Type}(l:aW):(aW->X)->X:=aE7 (motive:=λ_=>(aW->X)->X) (λk=>k []) (λx _ W k=>fX x λx=>W λV=>k (x::V)) l
def RX{X:Type}:∀(n:Nat)(k:Nat->X),fN n k=k n
 |0,_=>rfl
 |_+1,_=>rfl
def aas{X:Type}:∀(n:Int)(k:Int->X),fI n k=k n
 |.ofNat n,k=>RX n λn=>k (aGT n)
 |.negSucc n,k=>RX n λn=>k (aGv n)
def akh{X:Type}:∀(n:Bool)(k:Bool->X),fB n k=k n
 |E,_=>rfl
 |J,_=>rfl
def avc{X:Type}(v:Value)(k:Value->X):fV v k=k v:=by
 unfold fV;split;exact aas _ _;exact akh _ _;rw[RX,RX];rfl
mutual
def aat{X:Type}:∀(v:RV)(k:RV->X),fR v k=k v
 |.mk v l,k=>by
  show(fV v λv=>fRs l λl=>k (.mk v l))=_;rw[avc,aki l]
def aki{W:Type}:∀(l:am)(k:am->W),fRs l k=k l
 |[],_=>rfl
 |x::X,k=>by
  show(fRr x λx=>fRs X λX=>k (x::X))=_;rw[akj x,aki X]
def akj{W:Type}:∀(l:aF)(k:aF->W),fRr l k=k l
 |[],_=>rfl
 |x::X,k=>by
  show(fR x λx=>fRr X λX=>k (x::X))=_;rw[aat x,akj X]
end
def avd{X:Type}(x:XV)(k:XV->X):fX x k=k x:=by
 cases x<;>simp only[fX,aas,akh,aat]
def akk{W:Type}:∀(l:aW)(k:aW->W),fL l k=k l
 |[],_=>rfl
 |x::X,k=>by
  show(fX x λx=>fL X λX=>k (x::X))=_;rw[avd,akk X]
def fS{X V:Type}(l:List V):(List V->X)->X:=aE7 (motive:=λ_=>(List V->X)->X) (λk=>k []) (λx _ W k=>W λR=>k (x::R)) l
def fE{X:Type}(O:ac)(k:ac->X):X:=ac.rec (motive:=λ_=>X) (λi b r y=>fS i λi=>fS b λb=>fS r λr=>k ⟨i,b,r,y⟩) O
def RY{W V:Type}:∀(l:List V)(k:List V->W),fS l k=k l
 |[],_=>rfl
 |x::X,k=>RY X λX=>k (x::X)
def akl{X:Type}(O:ac)(k:ac->X):fE O k=k O:=by
 obtain⟨i,b,r,y⟩:=O;show(fS i λi=>fS b λb=>fS r λr=>k ⟨i,b,r,y⟩)=_;rw[RY,RY,RY]
def SV.xn(O:ac):SV->XV
 |.int _ e=>.i (e.dn O)
 |.bool b=>.b (b.dn O)
 |.ref r=>.r (r.dn O)
 |_=>.i 0
def ave(O:ac):SV.xn O=SV.xv O:=by
 funext v;cases v<;>simp only[SV.xn,SV.xv,IE.eM,BE.eM,RE.eM]
def T.step(X:T->ac->jo->jH)(bi:me)(t:T)(O:ac)(W:jo):jH:=match t with
 |.ret v _ _=>fL ((ur v).map (SV.xn O)) λl=>U (.ret l)
 |.bj v=>(F6 O v).map .bj
 |.node b t f=>cond (b.dn O) (X t O W) (X f O W)
 |.aV b t=>cond (b.dn O) (X t O W) Z
 |.call f P _ _ N _ t=>fL ((nQ P).map (SV.xn O)) λV=>match bi f V with
  |U (.ret Q)=>cond (fq N Q) (fE (O.ext Q) λO=>X t O W) Z
  |U (.bj v)=>U (.bj v)
  |none=>Z
 |.loop au _ M t=>fL (M.map (SV.xn O)) λV=>fE (O.ext V) λL=>X t L (⟨au,t,O⟩::W)
 |.back au x=>match pY au W with
  |U (R,H)=>fL (x.map (SV.xn O)) λV=>fE (R.O.ext V) λO=>X R.t O (R::H)
  |none=>Z
 |.new _ x _ _ t=>fR (gf x O) λv=>fE (O.add (.r v)) λO=>X t O W
 |.rows _ x _ t=>fR (gf x O) λv=>fE (O.add (.r v)) λO=>X t O W
 |.fA g h t f=>cond (g.dn O) (cond (h.dn O) (zQ (X t O W) (X f O W)) (X t O W)) (cond (h.dn O) (X f O W) Z)
 |.pick m g h t f=>rg ((pi m g h O).map λj=>match j with
  |U j=>fI j λj=>fE (O.add (.i j)) λO=>X t O W
  |none=>X f O W)
 |.dw _ _ _ G F r _ t=>match l9 O G F (r.dn O).rows with
  |U l=>fR (.mk (r.dn O).val l) λv=>fE (O.add (.r v)) λO=>X t O W
  |none=>Z
 |_=>Z
def RZ(bi:me)(n:Nat):T->ac->jo->jH:=aFO (motive:=λ_=>T->ac->jo->jH) (λ_ _ _=>Z) (λ_ X=>T.step X bi) n
def akm(bi:me):∀n,RZ bi n=exec bi n
 |0=>by funext t O X;simp only[exec];rfl
 |n+1=>by
  funext t O X;show T.step (RZ bi n) bi t O X=_;rw[akm bi n];cases t<;>simp only[T.step,exec,RW,BE.eM,RE.eM,ave,akk,aat,aas,akl]
  try case call f W _ _ Q _ t=>
   cases bi f ((nQ W).map (SV.xv O)) with
   |none=>rfl
   |some o=>cases o<;>rfl
  try case back au x=>cases pY au X<;>rfl
  try case pick m g h t f=>
   refine congrArg rg (aDC λj _=> ?_);cases j<;>rfl
  try case dw f g e V R r P t=>cases l9 O V R (r.rv O).rows<;>rfl
def R6(X:jK)(n:Nat):me:=aFO (motive:=λ_=>me) X.nT (λn R f V=>match X.nT f V with
  |U o=>U o
  |none=>match X.tree f with
   |U W=>xS W.d (fE (eL (kg W.g) V) λO=>RZ R n W.t O [])
   |none=>Z) n
def akn(X:jK):∀n,R6 X n=X.bi n
 |0=>rfl
 |n+1=>by
  funext f W;simp only[jK.bi];show(match X.nT f W with
   |U o=>U o
   |none=>match X.tree f with
    |U V=>xS V.d (fE (eL (kg V.g) W) λO=>RZ (R6 X n) n V.t O [])
    |none=>Z)=_
  rw[akn X n];simp only[akm,akl]
  all_goals cases X.nT f W with
  |some o=>rfl
  |none=>cases X.tree f<;>rfl
def avf{X:jK}{f:Nat}{W:aW}(h:R6 X N f W=U l):X.Ev f W l:=⟨N,by rw[<-akn];exact h⟩
