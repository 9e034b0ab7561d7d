/- Part 3. -/
import Derived.Test.YtjnmghiggfgjlaaGreatDoorW2
import Derived.WalkKit
import Derived.DefersIn
set_option linter.all false
set_option maxRecDepth 100000
set_option maxHeartbeats 100000000
open Bool renaming and_eq_true->aC,false_eq_true->iW,not_eq_true'->jP,or_eq_true->lu,or_eq_false_iff->yN,and_self->Ci,eq_iff_iff->Jv,not_eq_false->Mc,rec->Ml,and_true->Vx,not_eq_true->akQ,true_eq_false->aI0,true->J,false->E
open Nat renaming lor->b9,le_refl->cd,zero_add->jm,beq->jo,blt->ko,le_trans->md,shiftLeft->nz,add_zero->yR,testBit_or->Jx,rec->Jz,min_eq_left->Mg,lt_of_lt_of_le->QP,strongRecOn->QS,add_sub_cancel_left->Vi,lt_succ_self->akR,one_shiftLeft->avV,shiftRight->awd,sub_zero->awi,eq_of_beq_eq_true->aIM,testBit_two_pow->aIT,add_sub_cancel'->aIV,lt_or_gt_of_ne->aIY
open List renaming cons_append->cU,range->dj,getElem?_eq_some_iff->dq,nil_append->du,getD_eq_getElem?_getD->dA,getElem?_eq_getElem->dB,map_cons->dG,replicate->ee,getElem?_map->eo,mem_cons->eu,mem_append->fg,mem_map->fw,getElem?_append_left->fT,length_append->ga,all_eq_true->gC,getElem?_append_right->jl,mem_of_getElem?->jA,pairwise_cons->jO,map_congr_left->kF,ext_getElem?->kS,any_eq_true->ny,length_cons->nX,pairwise_append->oC,map_nil->oD,length_map->oX,map_map->oY,length_eq_one_iff->pH,getElem?_take->pI,mem_filter->qg,mem_range->rN,getElem?_of_mem->sJ,getElem?_eq_none->ul,getElem?_cons_succ->vz,getElem?_drop->xj,nodup_append->xl,getElem?_set->yO,length_eq_zero_iff->AC,mem_cons_of_mem->AD,rec->AG,getElem?_cons_zero->Cd,append_assoc->Ce,length_drop->Cf,length_nil->Cg,getElem?_eq_none_iff->Ej,mem_append_left->El,zip_cons_cons->En,map_append->GF,contains_iff_mem->Jq,take_append_drop->Jr,getD_cons_zero->Js,append_nil->Jw,length_take->Mf,mem_filterMap->QQ,all_map->QX,mem_of_find?_eq_some->Vg,getElem?_replicate->Vh,range_eq_range'->Vk,mem_cons_self->Vo,drop_left'->Vt,all_cons->Vv,pairwise_iff_getElem->abY,length_singleton->ab1,find?_some->ab8,of_mem_zip->ab9,sublist_cons_self->akI,getElem?_toArray->akJ,mem_append_right->akK,pairwise_map->akO,map_set->akW,mem_iff_getElem?->avM,filterMap_cons->avQ,find?_cons->av3,take_left'->av7,filter_map->av9,any_map->awg,Sublist->awh,sizeOf_lt_of_mem->aIO,append_of_mem->aI1,filterMap_map->aI2,length->Y
open Go.Result renaming andThen_ok->dC
open Go.Sem renaming run_bind->dD,run_pure->fu
open Option renaming map_some->gc,isSome_iff_exists->jz,getD_some->yP,map_eq_some_iff->Vj,isNone_iff_eq_none->akF,bind_some->akP,some->U,none->Z
open Go.Op renaming operands->ip
open Array renaming getElem?_eq_some_iff->lH,ext'->nA,getElem?_eq_getElem->Ma,getElem?_setIfInBounds->QM,replicate->QT,getD_eq_getD_getElem?->abX,getElem?_replicate->aIG,foldl_toList->aIX
open Go.Region renaming wanted->lI,ready->um
open Go.World renaming cell?->oE,putObj_heap_other->uk,putObj->Mj,alloc_heap_new->Vl,size_alloc->Vr,putObj_size->avY
open Int renaming negSucc->akY,ofNat->ak1
open Go.Oper renaming semAt_eq->AF,uponIn_enter->Vp,uponIn_round->avX,semAt_none->av8,uponIn->awm,uponIn_defer->aI5
open Go.Call renaming operands->Ch
open List.cons renaming injEq->GD
open Option.some renaming injEq->Ju
open Prod.mk renaming injEq->Jy
open List.Sublist renaming append->akL,refl->akN
open Go.IntKind renaming i64->I
namespace Go.Proofs.YtjnmghiggfgjlaaGreatDoor.Y
open Go.RowKit
noncomputable section
variable{t:aq}{N:Nat}{b:T}{x:aj}{v:FuncId}{l:S}{y:ar}{e:World}{h:FuncId→Code→S→(XE→S→T)→T}{k:TypeId}{g:bo}
mutual
def C.Xa(O:aj)(y:ar)(V:ar):∀(v:C),v.CE=J->v.ai (O.at y) V=v.ai O V
 |.int k e,_=>by simp only[C.ai,K.fc]|.bool b,_=>by simp only[C.ai,BE.fc]|.ak r,_=>by simp only[C.ai,RE.ai,RE.nM]|.loc i o,_=>rfl|.el r w i o,_=>by simp only[C.ai,RE.ai,RE.nM,K.fc]|.iP a b c d,_=>rfl|.agg l,h=>by simp only[C.CE] at h;simp only[C.ai];rw[C.NH O y V l h]|.bI l,h=>by simp only[C.CE] at h;simp only[C.ai];rw[C.NH O y V l h]|.fn f l,h=>by simp only[C.CE] at h;simp only[C.ai];rw[C.NH O y V l h]|.gH t x,h=>by simp only[C.CE] at h;simp only[C.ai];rw[C.Xa O y V x h]|.yl n,h=>by simp[C.CE] at h|.any,_=>rfl|.mp i,_=>rfl|.gq e W X,h=>by simp only[C.CE] at h;simp only[C.ai,K.fc];rw[C.NH O y V X h]
def C.NH(O:aj)(y:ar)(V:ar):∀(l:aq),C.zi l=J->C.az (O.at y) V l=C.az O V l
 |[],_=>rfl
 |x::X,h=>by
  simp only[C.zi,aC] at h;simp only[C.az];rw[C.Xa O y V x h.1,C.NH O y V X h.2]
end
def Xb(O:aj)(y:ar)(V:ar):∀(l:aq),C.zi l=J->C.bK (O.at y) V l=C.bK O V l
 |[],_=>rfl
 |x::W,h=>by
  simp only[C.zi,aC] at h;have X:=Xb O y V W h.2;have R:=C.Xa O y V x h.1;simp only[C.bK,dG] at X⊢;rw[X];congr 1;cases x<;>simp only[C.gg]<;>first|rw[R]|(rw[RE.nM])
def SH:∀{l:bm}{i:Nat}{v:TypeId×aq},GX l=J->bP l i=U v->C.zi v.2=J
 |[],i,v,_,h=>by simp[bS] at h|U x::W,0,v,X,h=>by simp[GX] at X;simp[bS] at h;exact h▸X.1|Z::W,0,v,X,h=>by simp[bS] at h|U x::W,i+1,v,X,h=>by simp[GX] at X;exact SH X.2 (by simpa[bS] using h)|Z::W,i+1,v,X,h=>by simp[GX] at X;exact SH X (by simpa[bS] using h)
def Xc:∀{a b:bm},oa a b=J->a=b
 |[],[],_=>rfl|[],_::_,h=>by simp[oa] at h|Z::X,Z::W,h=>by simp only[oa] at h;rw[Xc h]|Z::X,U y::W,h=>by simp[oa] at h|Z::X,[],h=>by simp[oa] at h|U x::X,Z::W,h=>by simp[oa] at h|U x::X,[],h=>by simp[oa] at h
 |U x::X,U y::W,h=>by
  simp only[oa,aC,ge] at h;have V:=C.pm _ _ h.1.2;rw[Xc h.2]
  grind
def SI(W:aq)(X:bm):(pe W X).length=Y X:=by
 unfold pe;split<;>simp
def Xd{X:bm}{x:TypeId×aq}(h:bP (pe t X) N=U x):bP X N=U x:=by
 grind [bS,pe]
def aeD{X:bm}(h:aK (pe t X) N=J):aK X N=true:=by
 obtain⟨x,W⟩:=jz.1 h;simp[aK,Xd W]
def ayZ(h:acB b=J)(p:Sp)(O:aj)(L:dm):b.aN p O L:=by
 unfold acB at h
 grind [T.aN,BE.ai]
def ay0{X:aj}(h:ja x X (Y x.i) (Y x.b) (Y x.r))(W:Y X.i=Y x.i)(V:Y X.b=Y x.b)(R:Y X.r=Y x.r):X=x:=by
 obtain⟨i,b,r,y⟩:=x;obtain⟨Q,P,N,G⟩:=X;obtain⟨M,a2,L,H⟩:=h;simp only at M a2 L H W V R;have F:Q=i:=kS λk=>by
  grind
 have D:P=b:=kS λk=>by
  grind
 have B:N=r:=kS λk=>by
  grind [aj.rv]
 grind
def NI(X:bo):rf X (X.map RK.rd):=by
 refine⟨aw,λk V h=> ?_⟩;rw[eo] at h;cases W:X[k]? with
 |none=>rw[W] at h;cases h
 |some e=>
  rw[W] at h;simp at h;refine⟨e,rfl, ?_⟩;cases e<;>simp only[RK.rd] at h<;>first|exact .inl h.symm|exact .inr (.inr ⟨_,rfl,h.symm⟩)
def ay1(W:aq)(X:bm):pe W X=X\/∀i,bP (pe W X) i=none:=by
 grind [bS,pe]
section
variable{p:Sp}{m:bv}
def ay2(b6:∀w:Sp,w.P=p.P->jd w m->A8 w m N)(ok:jd p m){X:C}{ex:bm}(h:ME m (λf c l k=>fO m N f c l iB k) v t l=U (X,ex))(b7:(m.inl v).isSome=J)
  {D:bT}{a:Act}(hb:l.bd=J)(R:aA p.S0 p.w0 D m.ty y x l a e)(hg:eC m.gl x):(∀t e,(callFunc v t).run p.P e=.ok (.enter v t) e)/\
  Calls p.P v (C.az x y t).toArray e λM W'=>∃V',M=.returned (X.ai x V')/\aA p.S0 p.w0 D m.ty V' x (l.plus ex) a W'/\bB l x y (l.plus ex) x V':=by
 unfold ME at h;split at h;rename_i u hT;split at h;rename_i v0 c0;split at h;rename_i bb;cases h;simp only[aC] at bb;obtain⟨⟨⟨⟨⟨⟨⟨ca,cb⟩,cv⟩,cs⟩,ct⟩,b8⟩,cc⟩,cl⟩:=bb;have bc:=Xc ct;obtain⟨cn,bf⟩:=R.zo hb;refine⟨ok.zr v (.inr b7), ?_⟩;obtain⟨S1,bg⟩:∃S1:ar,S1=((dj (Y l.au)).filter (aK (pe t l.au))).map (ad y):=⟨_,rfl⟩;have co:∀i,aK (pe t l.au) i=J->ad y i∈S1:=λi A=>by
  rw[bg];refine fw.2 ⟨i,qg.2 ⟨rN.2 ?_,A⟩,rfl⟩;obtain⟨L,hx⟩:=jz.1 A;have:=(dq.1 (ku.1 hx)).1
  rwa [SI] at this
 have bk:∀b∈S1,∃i,aK (pe t l.au) i=J/\ad y i=b:=λb hb=>by
  rw[bg] at hb;obtain⟨i,A,rfl⟩:=fw.1 hb;exact⟨i,(qg.1 A).2,rfl⟩
 obtain⟨w,af⟩:∃w:Sp,w={P:=p.P,ty:=p.ty,S0:=S1,w0:=e,D:=bT.none,R:=λM _=>(match M with|.panicked _=>False|_=>True),Q:=λ_ _ _=>True}:=⟨_,rfl⟩;have ac:w.P=p.P:=by rw[af]
 have bl:w.S0=S1:=by rw[af]
 have br:w.w0=e:=by rw[af]
 have bs:∀ch W',¬w.R (.panicked ch) W':=λch W' hh=>by rw[af] at hh;exact hh
 have bx:jd w m:=⟨by rw[af];exact ok.pt,by rw[ac];exact ok.WT,by rw[ac];exact ok.kK,by rw[ac];exact ok.zd,by rw[ac];exact ok.zr,λch e b o _ hh=>(bs ch e hh).elim,by rw[ac];exact ok.inl⟩;have hS:=Kq (p:=w) bx (b6 w ac bx) (D:=bT.none) (B:=⟨vP t l,x.at [],y,[]⟩) (yh:=iB) (E8 _ _);have B0:aA w.S0 w.w0 bT.none m.ty y (x.at []) (vP t l) ⟨#[],[]⟩ e:=by
  rw[bl,br];refine⟨⟨fl.refl _ _,λi A=>.inr (co i A),λi j A hj=>R.mem.inj i j (aeD A) (aeD hj),λi H cs h=> ?_,λk M rv z h2=> ?_⟩,by simp only[vP,SI];exact R.gE,R.ei,R.eb,by simp only[vP,oX];exact R.er, ?_,rfl,λH sv h=>by simp[vP] at h,λk M rv b z=> ?_⟩;rw[Xb _ _ _ _ (SH cb h)];exact R.mem.box i H cs (Xd h);have:=(R.mem.lL (NI l.rs)).ak k M rv z h2;exact⟨this.1,λb hb i A=>this.2 b hb i (aeD A)⟩;exact⟨rfl,rfl,λN G r st h=>by simp[bT.none] at h,λN n' G r r' h=>by simp[bT.none] at h,[],rfl,λ_=>rfl,by simp[bT.none],λd h=>by simp[bT.none] at h⟩;exfalso;simp only[vP,eo] at z;cases hk:l.rs[k]? with|none=>rw[hk] at z;cases z|some L=>rw[hk] at z;cases L<;>simp[RK.rd] at z
 have cp:=hS [] (.fn v) t (vP t l) _ _ (x.at []) y ⟨#[],[]⟩ e (λM W'=>∃V',M=.returned (X.ai x V')/\aA p.S0 p.w0 D m.ty V' x (l.plus (u.au.drop (Y l.au))) a W'/\bB l x y (l.plus (u.au.drop (Y l.au))) x V') ⟨bB.refl _ _ _,cT.refl _ _⟩ (ayZ cl w (x.at []) []) B0 hg ?_ ?_ (λch W' pd F _ hR=>(bs ch W' hR).elim);have:=cp.2;rw[C.NH x [] y t ca,ac] at this;exact this;intro v2 s2 O2 q W2 L2 hl _ R2 al;split at al;rename_i b0;simp only[aC,alg,ge,dl] at b0;obtain⟨hv,⟨⟨ab,cu⟩,cx⟩,bY⟩:=b0;have hv:=C.bW _ _ hv;subst hv;have ab:=Xc ab;have cy:O2=x.at []:=by
  refine ay0 hl.ext.agree ?_ ?_ ?_;rw[R2.ei,cu];exact R.ei.symm;rw[R2.eb,cx];exact R.eb.symm;rw[R2.er,bY];simp only[vP,oX];exact R.er.symm
 subst cy;rw[bl,br] at R2;have c1:Y l.au<=Y u.au:=by
  have:=jY Y bc;rw[SI,Mf] at this;omega
 have a3:∀i,i<Y l.au->bP u.au i=bP (pe t l.au) i:=λi A=>by
  have:=jY (λG=>bP G i) bc;simp only[bS,pI,aH A] at this⊢;exact this
 have an:∀i,aK (pe t l.au) i=J->ad q i=ad y i:=λi A=>hl.ext.ad i A
 have a0:∀{i:Nat}{G:bm},aK G i=J->i<Y G:=λh=>by
  obtain⟨L,hx⟩:=jz.1 h;exact(dq.1 (ku.1 hx)).1
 have cA:∀i,Y l.au<=i->aK u.au i=J->e.heap.size<=ad q i:=by
  intro i A hh;rcases R2.mem.own i (by rw[ab];exact hh) with z|z;exact z;exfalso;obtain⟨j,hj,cB⟩:=bk _ z;have a4:j<Y l.au:=by have:=a0 hj;rwa [SI] at this
  have cC:aK u.au j=true:=by simp only[aK,a3 j a4];exact hj
  have:=R2.mem.inj i j (by rw[ab];exact hh) (by rw[ab];exact cC) (by rw[an j hj];exact cB.symm);omega
 have hB:Below e.heap.size e W2:=by
  have hO:=R2.mem.base;refine⟨hO.os,hO.tape,hO.output,hO.size,λk hk=> ?_⟩;by_cases b1:k∈S1;obtain⟨j,hj,rfl⟩:=bk _ b1;have a4:j<Y l.au:=by have:=a0 hj;rwa [SI] at this
  obtain⟨L,hx⟩:=jz.1 hj;obtain⟨bt,gJ⟩:=L;have e1:=R.mem.box j bt gJ (Xd hx);have e2:=R2.mem.box j bt gJ (by rw[ab,a3 j a4];exact hx);rw[an j hj] at e2;rw[e1,e2];congr 2;rw[Xb _ _ _ _ (SH cb hx)];refine RI (ja.refl _ _ _ _) (λk hk=>an k ?_) _ (sZ bf (Xd hx));rcases ay1 t l.au with hm|hm;rw[hm];exact hk;rw[hm j] at hx;cases hx;exact hO.block k hk b1
 have R0:=R.below hB;have cD:Y q=Y u.au:=by rw[R2.gE,ab]
 have a1:∀i,i<Y l.au->ad (y++q.drop (Y l.au)) i=ad y i:=λi A=>by
  simp only[ad,dA];rw[fT (by rw[R.gE];exact A)]
 have a9:∀i,Y l.au<=i->ad (y++q.drop (Y l.au)) i=ad q i:=λi A=>by
  simp only[ad,dA];rw[jl (by rw[R.gE];exact A),R.gE,xj,aIV A]
 have b2:∀i,aK u.au i=J->ad (y++q.drop (Y l.au)) i=ad q i:=λi A=>by
  by_cases aa:i<Y l.au;rw[a1 i aa,an i (by simp only[aK,<-a3 i aa];exact A)];exact a9 i ae
 have jc:∀i,i<Y l.au->bP (l.plus (u.au.drop (Y l.au))).au i=bP l.au i:=λi A=>by
  simp only[bS,S.plus,fT A]
 have b3:∀i,Y l.au<=i->bP (l.plus (u.au.drop (Y l.au))).au i=bP u.au i:=λi A=>by
  simp only[bS,S.plus];rw[jl A,xj,aIV A]
 have ba:∀k,aK l.au k=J->ad (y++q.drop (Y l.au)) k=ad y k:=λk hk=>a1 k (a0 hk)
 have ag:∀i,aK (l.plus (u.au.drop (Y l.au))).au i=J->(i<Y l.au/\aK l.au i=J/\ad (y++q.drop (Y l.au)) i=ad y i)\/(Y l.au<=i/\aK s2.au i=J/\ad (y++q.drop (Y l.au)) i=ad q i/\e.heap.size<=ad q i):=λi A=>by
  by_cases aa:i<Y l.au;exact .inl ⟨aa,by simpa only[aK,jc i aa] using A,a1 i aa⟩;have hh:aK u.au i=true:=by simpa only[aK,b3 i ae] using A
  exact .inr ⟨ae,by rw[ab];exact hh,a9 i ae,cA i ae hh⟩
 have c2:p.w0.heap.size<=e.heap.size:=R.mem.base.size;refine⟨y++q.drop (Y l.au), ?_,⟨⟨R0.mem.base, ?_, ?_, ?_, ?_⟩, ?_,R.ei,R.eb,R.er,R0.dh,R.size, ?_, ?_⟩,⟨⟨ja.refl _ _ _ _,cd _,cd _,cd _,ba⟩, ?_, ?_,cd _⟩⟩;rw[C.Xa _ _ _ _ cv];have cO:v2.bd (Y x.i) (Y x.b) (Y x.r) (aK u.au)=true:=by rw[R.ei,R.eb,R.er];exact b8
 rw[C.eh (ja.refl _ _ _ _) b2 v2 cO];intro i A;rcases ag i A with⟨_,h2,h3⟩|⟨_,_,h3,h4⟩;rw[h3];exact R.mem.own i h2;rw[h3];exact .inl ae;intro i j A hj b4;rcases ag i A with⟨i1,i2,i3⟩|⟨i1,i2,i3,i4⟩<;>rcases ag j hj with⟨j1,j2,j3⟩|⟨j1,j2,j3,j4⟩;exact R.mem.inj i j i2 j2 (by rw[<-i3,<-j3];exact b4);exfalso;have:=R.mem.lt i2;omega;exfalso;have:=R.mem.lt j2;omega;exact R2.mem.inj i j i2 j2 (by rw[<-i3,<-j3];exact b4);intro i H gJ h;by_cases aa:i<Y l.au;rw[jc i aa] at h;rw[a1 i aa,R0.mem.box i H gJ h];congr 2;exact(RI (ja.refl _ _ _ _) ba _ (sZ bf h)).symm;rw[b3 i ae] at h;rw[a9 i ae,R2.mem.box i H gJ (by rw[ab];exact h)];congr 2;rw[Xb _ _ _ _ (SH cs h)];have cW:C.dO (Y x.i) (Y x.b) (Y x.r) (aK u.au) gJ=true:=by rw[R.ei,R.eb,R.er];exact sZ cc h
 exact(RI (ja.refl _ _ _ _) b2 _ cW).symm;intro k M rv z h2;refine⟨(R0.mem.ak k M rv z h2).1,λb b5 i A=> ?_⟩;rcases ag i A with⟨i1,i2,i3⟩|⟨i1,i2,i3,i4⟩;rw[i3];exact(R.mem.ak k M rv z h2).2 b b5 i i2;rw[i3];have:=(R.mem.ak k M rv z h2).1.lt b5;omega;simp only[S.plus,ga,Cf,cD,R.gE];intro H sv h;rcases R.tmps H sv h with z|z;exact .inl z;right;rw[C.eh (ja.refl _ _ _ _) ba sv (xE cn h)];exact z;intro k M rv b z h2 h3;have T0:=R0.eL k M rv b z h2 h3;refine⟨T0.own,T0.mem,λi A=> ?_,T0.alone,T0.inner⟩;rcases ag i A with⟨i1,i2,i3⟩|⟨i1,i2,i3,i4⟩;rw[i3];exact T0.box i i2;rw[i3];have:=(R.eL k M rv b z h2 h3).lt;omega;intro i A;have aa:=a0 A;simp only[aK,jc i aa];exact A;simp only[S.plus,ga];omega;exact al.elim;intro v2 s2 O2 q W2 L2 hl _ R2 al;exact al.elim;cases h;cases h;cases h
end
def ay3{X:S}(W:pe t X.au=pe t l.au)(V:X.ni=l.ni)(R:X.nb=l.nb)(Q:X.rs=l.rs):vP t X=vP t l:=by
 simp only[vP,W,V,R,Q]
def aoe{m:bv}{X:S}(W:pe t X.au=pe t l.au)(V:X.ni=l.ni)(R:X.nb=l.nb)(Q:X.rs=l.rs)(P:Y X.au=Y l.au):ME m h v t X=ME m h v t l:=by
 unfold ME;rw[ay3 W V R Q,W,V,R,Q,P]
def aof(m:bv)(X:dF)(V:FuncId->Code->S->(XE->S->T)->T):CX X (CF m X V):=by
 refine⟨λg R s d v l=> ?_,λg s n t P d w O=> ?_,λg R s r h=> ?_⟩;unfold CF;rw[aoe]<;>cases d<;>rfl
 ·unfold CF;rw[aoe]<;>cases d<;>simp[S.cX,S.put,pe,akW]<;>(try apply kS)<;>(try intro i)<;>(try simp[yO])<;>(try(intro Q;subst Q;by_cases W:n<Y s.au;(· simp[W]);(· simp[W])))
 unfold CF at h
 grind
def aog{p:Sp}{m:bv}{M:dF}(L:∀X:Sp,X.P=p.P->jd X m->A8 X m N)(H:jd p m):NA p m (CF m M λf c s k=>fO m N f c s iB k):=by
 intro g B s v A h D O V a W G R F;unfold CF at h;split at h;rename_i Q;simp at Q;exact ay2 L H h Q.2 G R F;cases h
theorem aoh(s:S)(X:ar)(i:Nat):(s.bF X).tmps[i]?=(s.tmps[i]?).map λx=>if X.contains i then .any else x:=by
 simp only[S.bF];rw[xL,jm]
def ay4(h:N∉y):(l.bF y).tmps[N]?=l.tmps[N]?:=by
 grind [aoh]
def aeE{X W V:Nat}{R:Nat->Bool}(Q:ar):∀(l:aq)(n:Nat),C.dO X W V R l=J->C.dO X W V R (uz Q n l)=J
 |[],n,_=>rfl
 |x::P,n,h=>by
  simp only[C.iY,aC] at h;simp only[uz,C.iY,aC];refine⟨?_,aeE Q P (n+1) h.2⟩
  grind [C.bj]
def Hq{ds:ar}(h:l.eW t=J):(l.bF ds).eW t=true:=by
 simp only[S.eW,S.bd,aC,S.bF] at h⊢;exact⟨⟨aeE ds _ 0 h.1.1,h.1.2⟩,h.2⟩
def A9{d:cG}{v:C}(h:∀x,d=U x->x∉y):(l.put d v).bF y=(l.bF y).put d v:=by
 cases d with
 |none=>rfl
 |some x=>
  have X:=h x rfl;simp only[S.put,Cl,S.bF];congr 1;apply kS;intro i;rw[xL,jm,yO,yO,xL,jm,NG]
  grind
def aoi{s:S}{ds es:ar}(h:∀x∈es,x∈ds):(s.bF es).bF ds=s.bF ds:=by
 simp only[S.bF];congr 1;apply kS;intro i;rw[xL,xL,xL,jm];cases s.tmps[i]? with
 |none=>rfl
 |some x=>
  simp only[gc];by_cases X:i∈ds;simp[X];have:i∉es:=λW=>X (h i W)
  simp[X,this]
theorem ay5(v:C):Re E v=0:=by
 cases v<;>rfl
section
variable{p:Sp}{cf:bv}{ops:dF}
def aA.bF{D:bT}{s:S}{O:aj}{V:ar}{a:Act}{W:World}(R:aA p.S0 p.w0 D cf.ty V O s a W)(P:ar):aA p.S0 p.w0 D cf.ty V O (s.bF P) a W:=by
 refine⟨R.mem,R.gE,R.ei,R.eb,R.er,R.dh,by simp only[S.bF,NG];exact R.size,λt N X=> ?_,R.eL⟩;rw[aoh] at X;cases Q:s.tmps[t]? with
 |none=>rw[Q] at X;cases X
 |some x=>
  rw[Q] at X;simp only[gc,dW] at X;split at X
  grind
  subst X;exact R.tmps t x Q
def aoj{m:OM}{O:aj}{b:BE}{v:C}(W:o9 m.o.op=J)(V:m.bM=E)(h:EH cf l m.o=U (b,v))(R:b.ai O=J):(gI cf m l).gives O (l.put m.o.dst v):=by
 unfold EH at h;split at h;cases h;rename_i X;simp only[lu,not_or,akQ] at X
 grind [xw,OR.gives,Ns,o9,iW,acC,ay5,gI]
def Xe{o:Oper}{s:S}{O:aj}(h:∀t∈kW ops o,t∉y):lN cf ops o s O (s.bF y) O:=lN.A5 (λt X=>ay4 (h t X)) rfl rfl rfl
def aok{o:Oper}{ds:ar}{r:BE×C}(h:∀t∈kW ops o,t∉ds)(X:EH cf l o=U r):EH cf (l.bF ds) o=U r:=by
 have W:=Xe (cf:=cf) (s:=l) (O:=⟨[],[],[],[]⟩) h;have P:=W.ev cf.gl;unfold EH at X⊢;split at X;cases X;rename_i N;have M:¬((o.op.operands.toList.any λx=>((l.bF ds).ev cf.gl x).eZ)||acC o.op)=true:=by
  intro V;apply N;simp only[lu] at V⊢;rcases V with V|V;left;obtain⟨x,L,H⟩:=ny.1 V
  grind
  grind
 rw[aP M];cases R:cw cf.ty cf.gl l o.op with|ok w=>rw[WW (ty:=cf.ty) P W.kd W.kl (λi _=>rfl) R (λw Q=>by cases Q)];rw[R] at X;exact X|aS b w=>rw[WW (ty:=cf.ty) P W.kd W.kl (λi _=>rfl) R (λw Q=>by cases Q)];rw[R] at X;exact X|no w=>rw[R] at X;cases X
def ay6{m:OM}{P:S}(N:VX m.o.op=J)(h:∀t∈kW ops m.o,t∉y)(Q:∀x,m.o.dst=U x->x∉y)(W:gI cf m l=.ok P):gI cf m (l.bF y)=.ok (P.bF y):=by
 have H:=Xe (cf:=cf) (s:=l) (O:=⟨[],[],[],[]⟩) h;have R:=H.ev cf.gl;unfold gI at W⊢;split at W;cases W;rename_i G;have F:¬(m.o.op.operands.toList.any λx=>((l.bF y).ev cf.gl x).eZ)=true:=by
  intro D;apply G;obtain⟨x,M,B⟩:=ny.1 D;exact ny.2 ⟨x,M,by rw[<-R x M];exact B⟩
 rw[aP F];have r:∀(n:Nat)(t:TypeId)(L:aq),(l.bF y).cX n t L=(l.cX n t L).bF y:=λ_ _ _=>rfl
 cases A:m.o.op<;>rw[A] at N W R<;>simp only[VX,iW] at N
 
 simp only at W⊢;split at W;split at W;rename_i V;simp only[aC] at V;rw[aH (by simp only[aC];exact⟨Hq V.1,V.2⟩)];cases W;rw[A9 Q];rfl;cases W;cases W
 
 rename_i t x;simp only at W⊢;rw[R x cq];split at W;split at W;rename_i V;simp only[aC] at V;rw[aH (by simp only[aC];exact⟨⟨⟨V.1.1.1,Hq V.1.1.2⟩,V.1.2⟩,V.2⟩)];cases W;rw[A9 Q];rfl;cases W;cases W;rename_i t k parts;simp only at W⊢;have z:(parts.toList.map λq=>(q.1,(l.bF y).ev cf.gl q.2))=parts.toList.map λq=>(q.1,l.ev cf.gl q.2):=by
  refine kF λq w=> ?_
  rw[R q.2 (by simp only[ip,fw];exact⟨q,w,rfl⟩)]
 rw[z];split at W;split at W;split at W;split at W;rename_i V;simp only[aC] at V;rw[aH (by simp only[aC];exact⟨⟨Hq V.1.1,V.1.2⟩,V.2⟩)];cases W;congr 1;rw[A9 Q];rfl;cases W;cases W;cases W;cases W
 
 rename_i t x X;simp only at W⊢;rw[R x cq,R X cq];split at W;split at W;rename_i v;have u:mO (l.bF y).au _=_:=v;rw[u];simp only;split at W;rename_i V;rw[show(l.bF y).lk=l.lk from rfl,aH V];cases W;rw[A9 Q];rfl;cases W;cases W;cases W
def aol{o:Oper}{s:S}(h:∀t∈kW ops o,t∉y):∀x∈o.op.operands.toList,s.ev cf.gl x=(s.bF y).ev cf.gl x:=
 λx X=>((Xe (cf:=cf) (s:=s) (O:=⟨[],[],[],[]⟩) h).ev cf.gl x X).symm
def Xf{X:Ty}(r:RE):r.kind X (l.bF y)=r.kind X l:=zt (s:=l.bF y) (s':=l) rfl r
def Xg{X:Ty}{s:S}{W:ar}:∀(am:eJ)(l:aq),nG X (s.bF W) am l=nG X s am l
 |[],[]=>rfl|[],_::_=>rfl|_::_,[]=>rfl
 |c::V,v::R=>by
  simp only[nG,Xg V R];congr 1;unfold uv;split<;>try rfl
  rename_i z k r;cases k<;>simp only[RE.fits,Xf]
def Xh{X:Ty}{s:S}{W:ar}(am:eJ):∀l:yT,oF X (s.bF W) am l=oF X s am l
 |[]=>rfl|r::V=>by simp only[oF,Xg,Xh am V]
def SJ{ds:ar}{d:cG}{aS:BE}{X:RK}{x:LE}{de:ar}{b:BI}(V:∀x,d=U x->x∉ds)(h:kV l d aS k X x y de=U b):kV (l.bF ds) d aS k X x y de=U {b with s:=b.s.bF ds}:=by
 unfold kV at h⊢;split at h;rename_i W;cases h;have R:(l.bF ds).bd=true:=by
  have Q:l.eW []=true:=by
   simp only[aC] at W;simp only[S.eW,C.iY,Vx];exact W.1.1.1
  have:=Hq (ds:=ds) Q;simpa only[S.eW,C.iY,Vx] using this
 simp only[aC] at W;rw[aH (by simp only[aC];exact⟨⟨⟨R,W.1.1.2⟩,W.1.2⟩,W.2⟩),A9 V];rfl;cases h
def ay7{bM:Bool}(v:C):xu cf.ty (l.bF y) k bM v=xu cf.ty l k bM v:=by
 unfold xu;simp only[zt (s:=l) (s':=l.bF y) rfl];rfl
def ay8{X:Ty}{W:TI}(v:C):sP X (l.bF y) k W v=sP X l k W v:=by
 unfold sP;split<;>simp only[Xf,Xh]<;>rfl
def aom{X:ar}{k n:Nat}:∀(l:aq)(i:Nat),uz X i (C.qm k n l)=C.qm k n (uz X i l)
 |[],_=>rfl
 |x::W,i=>by
  simp only[C.qm,uz,aom W (i+1)];split<;>rfl
def aon{n:Nat}:(l.bF y).iC N n=(l.iC N n).bF y:=by
 simp only[S.bF,S.iC,aom]
def ay9{d:cG}{u:Cw}(X:∀x,d=U x->x∉y)(h:JQ cf v t l d=U u):JQ cf v t (l.bF y) d=U {u with s:=u.s.bF y}:=by
 unfold JQ at h⊢;split at h;split at h;have W:(l.bF y).au=l.au:=rfl;have V:(l.bF y).rs=l.rs:=rfl;have R:(l.bF y).ni=l.ni:=rfl;have Q:(l.bF y).nb=l.nb:=rfl;simp only[W,V,R,Q];split at h;split at h;rename_i P;cases h;rw[aH P];congr 2;rw[A9 X,<-aon];rfl;cases h;cases h;cases h;cases h
def aza(h:l.bd=J):(l.bF y).bd=true:=by
 simp only[S.bd,aC,S.bF] at h⊢;exact⟨aeE y _ 0 h.1,h.2⟩
def azb{o:Oper}{u:Cw}(X:et cf (l.bF y) o=et cf l o)(W:∀x,o.dst=U x->x∉y)(h:JR cf o l=U u):JR cf o (l.bF y)=U {u with s:=u.s.bF y}:=by
 unfold JR at h⊢;rw[X];split at h;cases h;rename_i V;have R:(l.bF y).bd=true:=aza (by simpa using V);rw[aP (by simp[R])];generalize et cf l o=c at h;cases c with
 |call g Q=>
  cases g with|fn f=>exact ay9 W h|yl n=>cases h
 |bp v=>cases h|no=>cases h|op=>cases h
def MR.bF(X:ar):MR->MR
 |.ok s=>.ok (s.bF X)|.ah k x s=>.ah k x (s.bF X)
def azc{X:Ty}{W:Sh}(r:RE):r.pJ X (l.bF y) W=r.pJ X l W:=by
 cases r<;>simp only[RE.pJ,Xf]<;>rfl
def azd{e:TypeId}{X:Bool}{W:TI}:Ct cf (l.bF y) k e N X W t=Ct cf l k e N X W t:=by
 unfold Ct;split;simp only[azc];rfl
def aze{d:cG}{W X v:C}{r:MR}(V:∀x,d=U x->x∉y)(h:GP cf d l k W X v=U r):GP cf d (l.bF y) k W X v=U (r.bF y):=by
 unfold GP at h⊢;have Q:(l.bF y).au=l.au:=rfl;have P:(l.bF y).rs=l.rs:=rfl;by_cases R:l.eW [X,v]=J
 ·have O:=Hq (ds:=y) R;simp only[R,O,Q,P,azd,Xg] at h⊢
  repeat' split at h
  all_goals first
   |(cases h;done)
   |(cases h;(repeat' split)<;>first|contradiction|(exfalso;simp_all;done)|(simp only[MR.bF,A9 V];rfl)|(simp_all[MR.bF,A9 V];done))
 grind
def aoo{o:Oper}{r:MR}(h:∀t∈kW ops o,t∉y)(O:∀x,o.dst=U x->x∉y)(W:EJ cf o l=U r):EJ cf o (l.bF y)=U (r.bF y):=by
 have V:=aol (cf:=cf) (s:=l) h;unfold EJ at W⊢;split at W;rename_i t x X z N;split at W;cases W;rename_i M;have R:¬(o.op.operands.toList.any λx=>((l.bF y).ev cf.gl x).eZ)=true:=λQ=>M (by
  rw[ny] at Q⊢;obtain⟨q,P,L⟩:=Q;exact⟨q,P,by rw[V q P];exact L⟩)
 rw[N] at V R⊢;show(if _ then Z else _)=_;rw[aP R,<-V x cq,<-V X cq,<-V z cq];exact aze O W;cases W
def aop{o:Oper}{r:MR}(h:EJ cf o l=U r):∀c,o.op≠ .defer c:=by
 intro c X;simp[EJ,X] at h
def aoq{p:Sp}{D:bT}{V:ar}{a:Act}{W:World}(R:aA y e D cf.ty V x l a W)(G:ju p.P cf.ty)(L:eC cf.gl x){o:Oper}{r:MR}(h:EJ cf o l=U r):
  ∃N,tc p.P o a W undef N/\r.amu y e D cf.ty V x l (a.put o.dst undef) N:=by
 unfold EJ at h;split at h;rename_i t X Q z H;split at h;cases h;rename_i u;have M:∀X∈o.op.operands.toList,(l.ev cf.gl X).eZ=false:=by
  grind
 rw[H] at M;have F:=db R L X (M X cq);have B:=db R L Q (M Q cq);have A:=db R L z (M z cq);obtain⟨N,w,v⟩:=Sb (P:=p.P) R G h;exact⟨N,.inr ⟨by simp only[execOp,H,F,B,A,dD,w,dC,fu],rfl⟩,v⟩;cases h
def azf{o:Oper}{bM:Bool}{b:BI}(Q:MH o.op=J)(h:∀t∈kW ops o,t∉y)(O:∀x,o.dst=U x->x∉y)(W:eX cf o bM E l=U b):eX cf o bM E (l.bF y)=U {b with s:=b.s.bF y}:=by
 have V:=aol (cf:=cf) (s:=l) h;unfold eX at W⊢;cases P:o.op with
 |call c=>
  rw[P] at Q W V;simp only[MH] at Q;split at Q
  ·rename_i v;simp only[v] at W⊢;have u:c.args.toList.map ((l.bF y).ev cf.gl)=c.args.toList.map (l.ev cf.gl):=kF λx R=>(V x (by simp[ip,Ch];exact .inr (by simpa using R))).symm
   rw[u];simp only[ay7,ay8]
   repeat' split at W
   all_goals first
    |cases W;done
    |(have q:=SJ (ds:=y) O W;(repeat' split)<;>first|exact q|contradiction|(exfalso;simp_all;done))
  cases Q
 |makeSlice t n m=>
  rw[P] at W V;simp only at W⊢;rw[<-V n cq,<-V m cq];simp only[Xh]
  repeat' split at W
  all_goals first
   |cases W;done
   |(have q:=SJ (ds:=y) O W;(repeat' split)<;>first|exact q|contradiction|(exfalso;simp_all;done))
 |buildSlice t d parts=>
  rw[P] at W V;have r:(parts.toList.map λq=>(q.1,(l.bF y).ev cf.gl q.2))=parts.toList.map λq=>(q.1,l.ev cf.gl q.2):=by
   refine kF λq M=> ?_
   rw[V q.2 (by simp only[ip,fw];exact⟨q,M,rfl⟩)]
  have j:(parts.toList.any λq=>((l.bF y).ev cf.gl q.2).eZ)=parts.toList.any λq=>(l.ev cf.gl q.2).eZ:=by
   rw[Jv,ny,ny];constructor;rintro⟨x,R,L⟩;exact⟨x,R,by rw[V x.2 (by simp only[ip,fw];exact⟨x,R,rfl⟩)];exact L⟩;rintro⟨x,R,L⟩;exact⟨x,R,by rw[<-V x.2 (by simp only[ip,fw];exact⟨x,R,rfl⟩)];exact L⟩
  simp only at W⊢;rw[r,j];simp only[Xh]
  repeat' split at W
  all_goals first
   |cases W;done
   |(have q:=SJ (ds:=y) O W;(repeat' split)<;>first|exact q|contradiction|(exfalso;simp_all;done))
 |slice t x D B A=>
  rw[P] at W V;have H:∀X:Option Operand,(∀z,X=U z->z∈(Op.slice t x D B A).operands.toList)->X.map ((l.bF y).ev cf.gl)=X.map (l.ev cf.gl):=by
   intro X i;cases X with|none=>rfl|some z=>simp only[gc];rw[<-V z (i z rfl)]
  simp only at W⊢;rw[<-V x cq,H D (λz N=>by subst N;simp[ip]),H B (λz N=>by subst N;simp[ip]),H A (λz N=>by subst N;simp[ip])];simp only[Xf]
  repeat' split at W
  all_goals first
   |cases W;done
   |(have q:=SJ (ds:=y) O W;(repeat' split)<;>first|exact q|contradiction|(exfalso;simp_all;done))
 |store t a x=>
  rw[P] at W V;simp only at W⊢;rw[<-V a cq,<-V x cq];have g:(l.bF y).rs=l.rs:=rfl;simp only[Xg];rw[g];have w:∀{aS:BE}{e:TypeId}{G:RK}{X:LE}{F de:ar}{k:Nat}{b:BI},(kV l Z aS e G X F de).map (λb=>{b with s:=(b.s.iC k (Y l.rs)).put o.dst (.bI [])})=U b->
    (kV (l.bF y) Z aS e G X F de).map (λb=>{b with s:=(b.s.iC k (Y l.rs)).put o.dst (.bI [])})=U {b with s:=b.s.bF y}:=by
   intro aS e G X F de k b M;obtain⟨b0,f,rfl⟩:=Vj.1 M;rw[SJ (ds:=y) aw f];simp only[gc];rw[aon,<-A9 O]
  repeat' split at W
  all_goals first
   |cases W;done
   |(have q:=w W;clear w;(repeat' split)<;>first|exact q|contradiction|(exfalso;simp_all;done))
 |_=>rw[P] at Q;simp[MH] at Q
end
section
variable{ops:dF}
def qd(l:cN):ar:=l.filterMap (·.o.dst)
structure wa(ops:dF)(listed:Array Bool)(rem:cN):Prop where
 mem:∀m∈rem,ops[m.j]?=U m.o
 un:∀i,i<ops.size->(listed.getD i J=E<->∃m∈rem,m.j=i)
 sz:listed.size=ops.size
 dn:∀(j:Nat)(o:Oper),ops[j]?=U o->listed.getD j E=J->∀e∈jq o,listed.getD e E=J
 nd:rem.Pairwise λx y=>x.j≠y.j
def wa.listed{listed:Array Bool}{P:cN}(W:NB ops y)(O:wa ops listed P):∀(j:Nat)(o:Oper),ops[j]?=U o->(∀e∈jq o,listed.getD e E=J)->∀i,i<ops.size->(y.getD j 0).testBit i=J->listed.getD i E=true:=by
 intro j;induction j using QS with
 |_ j N=>
  intro o X M i V L;rcases W.cl j o X i V L with h|⟨e,R,h⟩
  grind
  have H:=W.lt j o X e R;have G:j<ops.size:=(lH.1 X).1;have Q:ops[e]?=U ops[e]:=Ma ae;exact N e H ops[e] Q (O.dn e _ Q (M e R)) i V h
def wa.lt{listed:Array Bool}{X:cN}(W:wa ops listed X){m:OM}(V:m∈X):m.j<ops.size:=(lH.1 (W.mem m V)).1
def wa.not{listed:Array Bool}{X:cN}(W:wa ops listed X){m:OM}(V:m∈X):listed.getD m.j E≠true:=by
 have h:=(W.un m.j (W.lt V)).2 ⟨m,V,rfl⟩
 grind
def wa.next{listed:Array Bool}{W V:cN}{m:OM}(X:wa ops listed (W++m::V))(F:∀e∈jq m.o,listed.getD e E=J):wa ops (listed.setIfInBounds m.j J) (W++V):=by
 have N:=X.mem m aw;have M:m.j<ops.size:=(lH.1 N).1;have R:m.j<listed.size:=by rw[X.sz];exact M
 have P:awh (W++V) (W++m::V):=akL (akN _) (akI _ _);have D:∀x∈W++V,x.j≠m.j:=by
  intro x O;have B:=X.nd
  grind
 refine⟨λx O=>X.mem x (P.subset O),λi A=> ?_,by simp[X.sz],λj o L Q e H=> ?_,X.nd.sublist P⟩;rw[E7 _ _ _ _ R]
 grind [aI0,X.un]
 rw[E7 _ _ _ _ R];rw[E7 _ _ _ _ R] at Q;split;rfl;by_cases G:j=m.j
 grind
 rw[aP G] at Q;exact X.dn j o L Q e H
def wa.some{listed:Array Bool}{W:cN}(Q:NB ops y)(X:wa ops listed W):∀(j:Nat),(∃m∈W,m.j=j)->∃m∈W,∀e∈jq m.o,listed.getD e E=true:=by
 intro j;induction j using QS with
 |_ j P=>
  rintro⟨m,V,rfl⟩;by_cases h:∀e∈jq m.o,listed.getD e E=J
  grind
  simp only[Classical.not_forall] at h;obtain⟨e,O,M⟩:=h;have R:=Q.lt m.j m.o (X.mem m V) e O;have N:e<ops.size:=Nat.lt_trans R (X.lt V);have:listed.getD e J=false:=by
   grind [X.sz]
  exact P e R ((X.un e N).1 this)
end
def aor(X:aL)(s:S)(W:ar):((s.bF W).bU X).1=(s.bU X).1/\((s.bF W).bU X).2=(s.bU X).2.bF W:=by
 induction X generalizing s with
 |nil=>exact⟨rfl,rfl⟩
 |cons k X V=>
  simp only[S.bU];have R:((s.bF W).fresh k).1=(s.fresh k).1:=by cases k<;>rfl
  have Q:((s.bF W).fresh k).2=(s.fresh k).2.bF W:=by cases k<;>rfl
  grind
section
variable{p:Sp}{cf:bv}
def aos{X:ar}:∀(l:List (Nat×TypeId×aq))(s:S),(s.bF X).o8 l=(s.o8 l).bF X
 |[],_=>rfl|x::l,s=>aos l (s.cX x.1 x.2.1 x.2.2)
open Classical in
noncomputable def Ba(s:S)(W:ar)(k:C->S->T):C->S->T:=λv X=>if X.tmps=(s.bF W).tmps then k v {X with tmps:=s.tmps} else .stuck ""
def azg{x:FuncId->Code->S->(XE->S->T)->T}{w:YH}{g:FuncId}{V:aq}{s:S}{R:ar}{k M:C->S->T}{O:aj}{L:dm}
  (h:(kq cf x w (.fn g) V s k M).aN p O L):(kq cf x w (.fn g) V (s.bF R) (Ba s R k) (Ba s R M)).aN p O L:=by
 unfold kq at h⊢;simp only at h⊢;split at h;rename_i c r v H;split at h;rename_i t;rw[aH (Hq t)];have:MD cf (s.bF R) v (Ba s R k) (Ba s R M)=MD cf s v k M:=by
  funext e q;cases e<;>simp only[MD,Ba,dN]
 rw[this];exact h;exact h.elim
 ·cases u:cf.lay g with
  |some X=>
   simp only[u] at h⊢;unfold VS at h⊢;rw[show(s.bF R).au=s.au from rfl];cases H:kG cf.ty X.bx s.au with
   |none=>simp only[H] at h;exact h.elim
   |some P=>
    cases G:fH cf.ty ((eB 0 X.bx).map (·.2)) with
    |none=>simp only[H,G] at h;exact h.elim
    |some W=>
     simp only[H,G] at h⊢;obtain⟨F,D⟩:=aor W (s.cut (V.take X.n++P) W) R;have B:(s.bF R).cut (V.take X.n++P) W=(s.cut (V.take X.n++P) W).bF R:=rfl;rw[B,F,D];cases A:ze cf.ty ((eB 0 X.bx).map (·.2)) ((s.cut (V.take X.n++P) W).bU W).1 with
     |none=>simp only[A] at h;exact h.elim
     |some l=>
      simp only[A] at h⊢;split at h;rename_i Q;simp only[aC] at Q;rw[aH (by simp only[aC];exact⟨⟨⟨⟨Hq Q.1.1.1.1,Q.1.1.1.2⟩,Q.1.1.2⟩,Q.1.2⟩,Q.2⟩),aos];have N:((((s.cut (V.take X.n++P) W).bU W).2).o8 (VI.out ⟨g,X.n,X.bC,eB 0 X.bx,l⟩)).tmps=s.tmps:=(ad5 _ _).1.trans (uG W (s.cut (V.take X.n++P) W)).2.1;have y:Ba s R k (.bI []) (((((s.cut (V.take X.n++P) W).bU W).2).o8 (VI.out ⟨g,X.n,X.bC,eB 0 X.bx,l⟩)).bF R)=k (.bI []) ((((s.cut (V.take X.n++P) W).bU W).2).o8 (VI.out ⟨g,X.n,X.bC,eB 0 X.bx,l⟩)):=by
       simp only[Ba];rw[aH (by simp only[S.bF,N])];congr 1;simp only[S.bF];generalize(((s.cut (V.take X.n++P) W).bU W).2).o8 (VI.out ⟨g,X.n,X.bC,eB 0 X.bx,l⟩)=z at N;rw[<-N]
      rw[y];exact h;exact h.elim
  |none=>
  simp only[u] at h⊢;unfold AP at h⊢;split at h;split at h;rename_i W G;obtain⟨F,D⟩:=aor W (s.cut V W) R;have B:(s.bF R).cut V W=(s.cut V W).bF R:=rfl;rw[B,F,D];split at h;rename_i l A;split at h;rename_i Q;simp only[aC] at Q;rw[aH (by simp only[aC];exact⟨⟨Hq Q.1.1,Q.1.2⟩,Q.2⟩)];have N:((s.cut V W).bU W).2.tmps=s.tmps:=(uG W (s.cut V W)).2.1;have y:Ba s R k (one l) (((s.cut V W).bU W).2.bF R)=k (one l) ((s.cut V W).bU W).2:=by
   simp only[Ba];rw[aH (by simp only[S.bF,N])];congr 1;simp only[S.bF];generalize((s.cut V W).bU W).2=z at N;rw[<-N]
  rw[y];exact h;exact h.elim;exact h.elim;exact h.elim;exact h.elim
end
section
variable{p:Sp}{cf:bv}{ops:dF}
def aot{V:Type}:∀{l:List V}{x:V},x∈l->∃X W,l=X++x::W/\(x,X++W)∈MF l
 |[],x,h=>by cases h
 |y::r,x,h=>by
  rcases eu.1 h with rfl|h;exact⟨[],r,rfl,by simp[MF]⟩;obtain⟨X,W,R,Q⟩:=aot h
  grind [MF]
def aeF{p:Sp}{O:aj}{L:dm}:∀{l:List T},(EI l).aN p O L->∀t∈l,t.aN p O L
 |[],h,_,_=>h.elim|[t],h,x,X=>by simp at X;subst X;exact h
 |t::u::r,h,x,X=>by
  simp only[EI,T.aN,BE.ai,true_implies] at h;rcases eu.1 X with rfl|X;exact h.1;exact aeF (l:=u::r) h.2 x X
theorem SK:∀{l m:bm},oa l m=J->l=m
 |[],[],_=>rfl|[],_::_,h=>by simp[oa] at h|Z::_,[],h=>by simp[oa] at h|U _::_,[],h=>by simp[oa] at h|Z::X,Z::W,h=>by simp only[oa] at h;rw[SK h]|Z::_,U _::_,h=>by simp[oa] at h|U _::_,Z::_,h=>by simp[oa] at h
 |U (t,V)::X,U (R,Q)::W,h=>by
  simp only[oa,aC,ge] at h;rw[h.1.1,C.pm _ _ h.1.2,SK h.2]
def aou:∀{l m:yT},MG l m=J->l=m
 |[],[],_=>rfl|[],_::_,h=>by simp[MG] at h|_::_,[],h=>by simp[MG] at h
 |x::X,y::W,h=>by
  simp only[MG,aC] at h;rw[C.pm _ _ h.1,aou h.2]
theorem LE.bW:∀(a b:LE),LE.aR a b=J->a=b
 |.ak r,b,h=>by cases b<;>simp[LE.aR] at h;rw[RE.bW _ _ h]
 |.lit l,b,h=>by cases b<;>simp[LE.aR] at h;rw[aou h]
 |.iA x y,b,h=>by cases b<;>simp[LE.aR] at h;rw[LE.bW _ _ h.1,LE.bW _ _ h.2]
 |.xp n W,b,h=>by cases b<;>simp[LE.aR] at h;rw[K.bW _ _ h.1,C.pm _ _ h.2]
 |.set x i V X,b,h=>by cases b<;>simp[LE.aR] at h;rw[LE.bW _ _ h.1.1.1,K.bW _ _ h.1.1.2,h.1.2,C.pm _ _ h.2]
 |.sub x R Q,b,h=>by cases b<;>simp[LE.aR] at h;rw[LE.bW _ _ h.1.1,K.bW _ _ h.1.2,K.bW _ _ h.2]
 |.ins x n X,b,h=>by cases b<;>simp[LE.aR] at h;rw[LE.bW _ _ h.1.1,h.1.2,C.pm _ _ h.2]
theorem S.bW{s s':S}(h:S.aR s s'=J):s=s':=by
 obtain⟨X,a2,W,V,a5,a6,a7,a8⟩:=s;obtain⟨R,Q,P,O,N,M,L,H⟩:=s';simp only[S.aR,aC,ge,dl] at h
 grind [C.pm,SK]
theorem T.bW:∀(a b:T),T.aR a b=J->a=b
 |.out e s,b,h=>by
  cases e with
  |normal=>
   cases b with
   |out W s'=>
    cases W with|normal=>rw[S.bW (s:=s) (s':=s') h]|_=>simp[T.aR] at h
   |_=>simp[T.aR] at h
  |_=>simp[T.aR] at h
 |.stuck _,b,h=>by simp[T.aR] at h|.eF _ _ _ _ _ _ _ _,b,h=>by simp[T.aR] at h|.ret v V X,b,h=>by cases b<;>simp[T.aR] at h;rw[C.bW _ _ h.1.1,SK h.1.2,h.2]
 |.bp v,b,h=>by cases b<;>simp[T.aR] at h;rw[C.bW _ _ h]
 |.aJ c t f,b,h=>by cases b<;>simp[T.aR] at h;rw[BE.bW _ _ h.1.1,T.bW _ _ h.1.2,T.bW _ _ h.2]
 |.aS c t,b,h=>by cases b<;>simp[T.aR] at h;rw[BE.bW _ _ h.1,T.bW _ _ h.2]
 |.call f G V X R fz t,b,h=>by
  cases b<;>simp[T.aR] at h;obtain⟨⟨⟨⟨⟨⟨Q,P⟩,O⟩,N⟩,M⟩,L⟩,H⟩:=h;rw[Q,C.pm _ _ P,SK O,N,M,C.bW _ _ L,T.bW _ _ H]
 |.loop ax R F t,b,h=>by cases b<;>simp[T.aR] at h;rw[h.1.1.1,h.1.1.2,C.pm _ _ h.1.2,T.bW _ _ h.2]
 |.back ax x,b,h=>by cases b<;>simp[T.aR] at h;rw[h.1,C.pm _ _ h.2]
 |.new e x X D t,b,h=>by cases b<;>simp[T.aR] at h;rw[h.1.1.1.1,LE.bW _ _ h.1.1.1.2,h.1.1.2,h.1.2,T.bW _ _ h.2]
 |.ah k x X t,b,h=>by cases b<;>simp[T.aR] at h;rw[h.1.1.1,LE.bW _ _ h.1.1.2,h.1.2,T.bW _ _ h.2]
 |.gr g k t f,b,h=>by cases b<;>simp[T.aR] at h;rw[BE.bW _ _ h.1.1.1,BE.bW _ _ h.1.1.2,T.bW _ _ h.1.2,T.bW _ _ h.2]
 |.pick n g k t f,b,h=>by
  cases b<;>simp[T.aR] at h;rw[K.bW _ _ h.1.1.1.1,BE.bW _ _ h.1.1.1.2,BE.bW _ _ h.1.1.2,T.bW _ _ h.1.2,T.bW _ _ h.2]
def NJ:∀{l:List T}{t:T},t∈l->t∈J0 l
 |[],t,h=>by cases h
 |u::R,t,h=>by
  simp only[J0];rcases eu.1 h with rfl|h;split;rename_i X;obtain⟨w,W,V⟩:=ny.1 X;rw[T.bW _ _ V];exact NJ W;simp;split;exact NJ h;exact AD _ (NJ h)
def aov{p:Sp}{O:aj}{L:dm}:∀{l:List BE}{t:T},(VY l t).aN p O L->(∀b∈l,b.ai O=J)/\t.aN p O L
 |[],t,h=>⟨λ_ X=>(by cases X),h⟩
 |b::r,t,h=>by
  simp only[VY,T.aN] at h;obtain⟨W,V⟩:=aov h.2
  grind
def azh{V:qj}{nH:List BE}{X:cN}{R:ar}{k:S->T}{Q:C->S->T}{W:cN}{L:dm}(h:(qp cf V y nH X R k Q N W l).aN p x L):acG cf nH l X=true:=by
 cases W with
 |nil=>
  cases N<;>simp only[qp] at h<;>split at h;assumption;exact h.elim;assumption;exact h.elim
 |cons m P=>
  cases N with
  |zero=>exact h.elim
  |succ N=>
   simp only[qp] at h;split at h;exact h.elim
   grind
def azi(s:S):s.bF []=s:=by
 obtain⟨X,b,c,d,e,f,g,i⟩:=s;simp only[S.bF,S.mk.injEq,and_true];apply kS
 grind [xL]
def aeG:∀{l:List T}{t:T},t∈J0 l->t∈l
 |[],t,h=>by cases h
 |u::X,t,h=>by
  simp only[J0] at h;split at h;exact AD _ (aeG h);rcases eu.1 h with rfl|h;simp;exact AD _ (aeG h)
def aow{O:aj}{L:dm}:∀{l:List T},l≠[]->(∀t∈l,t.aN p O L)->(EI l).aN p O L
 |[],h,_=>bE rfl h|[t],_,h=>h t Vo
 |t::u::r,_,h=>by
  simp only[EI,T.aN];exact⟨λ_=>h t Vo,λ_=>aow (l:=u::r) aw λx X=>h x (AD _ X)⟩
def aox{k:S->T}{X:C->S->T}:∀{l:List T},(EI l).oc k X=EI (l.map (T.oc k X))
 |[]=>rfl|[t]=>rfl
 |t::u::r=>by
  simp only[EI,T.oc,dG];rw[aox (l:=u::r)];rfl
def azj{k:S->T}{P:C->S->T}{N M:C->S->T}{L:dm}(r:∀X H x L,((N X H).oc k P).aN p x L->(M X H).aN p x L)(h:((AP cf v t l N).oc k P).aN p x L):(AP cf v t l M).aN p x L:=by
 unfold AP at h⊢;cases G:cf.sig v with
 |none=>rw[G] at h;exact h.elim
 |some F=>
  simp only[G] at h⊢;cases D:fH cf.ty F with
  |none=>rw[D] at h;exact h.elim
  |some B=>
   simp only[D] at h⊢;cases A:ze cf.ty F ((l.cut t B).bU B).1 with
   |none=>rw[A] at h;exact h.elim
   |some R=>
    simp only[A] at h⊢;split at h;rename_i Q;rw[aH Q];have w:zg (one R)=none:=by
     simp at Q;exact Q.2
    simp only[T.oc,T.aN,w] at h⊢;intro y V W u;refine(h y V W u).mono λe q z=> ?_
    cases e with
    |returned X=>
     grind
    |panicked o=>exact z|outgrown=>exact z
    exact h.elim
def azk{k:S->T}{V G:C->S->T}{F:FuncId->Code->S->(XE->S->T)->T}{D:YH}{P:ar}{m:OM}{N M:S->T}{s:S}{O:aj}{L:dm}(R:∀X O L,((N X).oc k V).aN p O L->(M X).aN p O L)(h:((G2 cf (Rq cf) P G m N s).oc k V).aN p O L):(G2 cf (kq cf F D) P V m M s).aN p O L:=by
 unfold G2 at h⊢;cases bq:JR cf m.o s with
 |some u=>
  grind [T.oc,T.aN]
 |none=>
 simp only[bq] at h⊢;cases W:et cf s m.o with
 |call c z=>
  cases c with
  |fn g=>
   simp only[W,Rq] at h⊢;split at h;rename_i Q;simp at Q;simp only[kq,Q.1,Q.2];exact azj (λv X O L B=>R _ O L B) h;exact h.elim
  |yl n=>simp only[W,Rq] at h;exact h.elim
 |bp v=>simp only[W] at h;exact h.elim|no=>simp only[W] at h;exact h.elim
 |op=>
  simp only[W] at h⊢;cases A:(if MH m.o.op then eX cf m.o m.bM E s else Z) with
  |some b=>
   grind [T.oc,T.aN]
  |none=>
   simp only[A] at h⊢;cases H:EJ cf m.o s with
   |some r=>
    cases r with|ok X=>simp only[H] at h⊢;exact R _ _ _ h|ah k x X=>simp only[H,T.oc,T.aN] at h⊢;exact R _ _ _ h
   |none=>
   grind [T.oc,T.aN]
def azl{k:S->T}{W D:C->S->T}{P:FuncId->Code->S->(XE->S->T)->T}{N:YH}{X:ar}{nH:List BE}{V:ar}:∀(n:Nat)(R:cN)(Q:cN)(s:S)(O:aj)(L:dm),
  ((qp cf (Rq cf) X nH Q V (.out .normal) D n R s).oc k W).aN p O L->(qp cf (kq cf P N) X nH Q V k W n R s).aN p O L:=by
 intro n;induction n with
 |zero=>
  intro R Q s O L h;cases R with
  |nil=>
   simp only[qp] at h⊢;split at h;rename_i M;rw[aH M];exact h;exact h.elim
  |cons m r=>exact h.elim
 |succ n B=>
  intro R Q s O L h;cases R with
  |nil=>
   simp only[qp] at h⊢;split at h;rename_i M;rw[aH M];exact h;exact h.elim
  |cons m r=>
   simp only[qp] at h⊢;split at h;exact h.elim;rename_i M;rw[aP M];rw[aox] at h;have G:=aeF h;cases F:(MF (m::r)).filter (acH X) with
   |nil=>rw[F] at h;exact h.elim
   |cons x A=>
    rw[F] at G;refine aow (λu=> ?_) λt z=> ?_
    have:=NJ (Vo (a:=G2 cf (kq cf P N) V W x.1 (λH=>qp cf (kq cf P N) X nH (MI X x.1 Q) V k W n x.2 H) s) (l:=A.map λx=>G2 cf (kq cf P N) V W x.1 (λH=>qp cf (kq cf P N) X nH (MI X x.1 Q) V k W n x.2 H) s))
    grind
    obtain⟨y,w,rfl⟩:=fw.1 (aeG z);exact azk (λH O L v=>B _ _ _ _ _ v) (G _ (fw.2 ⟨_,NJ (fw.2 ⟨y,w,rfl⟩),rfl⟩))
structure aoy(cf:bv)(ops:dF)(bs:ar)(qs ch:cN):Prop where
 aoz:NB ops bs
 zq:∀m∈qs++ch,∀x∈qs++ch,∀d,x.o.dst=U d->d∈kW ops m.o->(bs.getD m.j 0).testBit x.j=J
 dst:∀x∈qs++ch,∀y∈qs++ch,x.j≠y.j->∀d,x.o.dst=U d->y.o.dst≠U d
 gd:∀m∈qs++ch,m.o.guard=Z/\m.bM=E
 qt:∀q∈qs,o9 q.o.op=J
def azm{F:Fence}(hF:qB F)(ok:jd p cf){nn:Nat}(ih:A8 p cf nn){D:bT}{B:jH}{yh:YH}(hY:qC p cf D.dJ B yh){Q:Exit->Act->World->Prop}(HP:∀ch a' G pd X,ef p.w0 D pd X a'.defers G->p.R (.panicked ch) G->Q (.panic ch) a' G)
   {nH:List BE}{qs ch:cN}{ds:ar}(hX:aoy cf ops y qs ch)(b7:∀M∈qs++ch,∀d,M.o.dst=U d->d∈ds){k:S->T}{kp:C->S->T}{V0:ar}{L0:dm}(hB:B.lM l x V0 L0)(b8:∀b∈nH,b.bd (Y x.i) (Y x.b) (Y x.r)=J/\b.ai x=J)
  (hk:∀A O' V' a' G L',bB l x V0 A O' V'->cT l.ax L0 L'->aA p.S0 p.w0 D cf.ty V' O' A a' G->(k A).aN p O' L'->Q .normal a' G)
  (ca:∀v A O' V' a' G L',bB l x V0 A O' V'->cT l.ax L0 L'->aA p.S0 p.w0 D cf.ty V' O' A a' G->(kp v A).aN p O' L'->Q (.panic [{v:=v.ai O' V',recovered:=E}]) a' G):
  ∀(al:Nat)(listed:Array Bool)(z aa qv:cN)(s:S)(O:aj)(V:ar)(a:Act)(W:World)(L:dm),(z++aa).length=al->wa ops listed (z++aa)->(∀q∈z,q∈qv)->(∀q∈qv,q∈qs)->(∀m∈aa,m∈ch)->
   bB l x V0 s O V->cT l.ax L0 L->aA p.S0 p.w0 D cf.ty V O (s.bF (qd z)) a W->eC cf.gl O->(qp cf (kq cf (λf c s k=>fO cf nn f c s yh k) yh) y nH qv ds k kp (Y aa) aa s).aN p O L->
   wpAnyIn F N p.P .any ops Q al listed a W:=by
 intro al;induction al with
 |zero=>
  intro listed z aa qv s O V a W L bl hW a9 bb hr hl hL R hg h;have hp:∀q∈z,q∈qs:=λq hq=>bb q (a9 q hq)
  have bc:z++aa=[]:=AC.1 bl;obtain⟨rfl,rfl⟩:=List.append_eq_nil_iff.1 bc;simp only[Cg,qp] at h;split at h;refine⟨?_,hk s O V a W L hl hL (by have:=R;simp only[qd,List.filterMap_nil,azi] at this;exact this) h⟩;cases ab:um .any ops listed with
  |nil=>rfl
  |cons i r=>
   obtain⟨h1,o,ho,-⟩:=mem_ready.1 (show i∈um .any ops listed by rw[ab];simp);obtain⟨m,hm,-⟩:=(hW.un i (lH.1 ho).1).1 h1;cases hm
  exact h.elim
 |succ al cc=>
  intro listed z aa qv s O V a W L bl hW a9 bb hr hl hL R hg h;have hp:∀q∈z,q∈qs:=λq hq=>bb q (a9 q hq)
  have a3:∀m∈z++aa,m∈qs++ch:=λm hm=>by
   rcases fg.1 hm with h1|h1;exact El _ (hp m h1);exact akK _ (hr m h1)
  refine⟨λab=> ?_,λi hi=> ?_⟩;exfalso;obtain⟨m0,cp⟩:=List.exists_mem_of_length_pos (l:=z++aa) ae;obtain⟨m,hm,bc⟩:=wa.some hX.aoz hW m0.j ⟨m0,cp,rfl⟩;have:m.j∈um .any ops listed:=
   mem_ready.2 ⟨(hW.un m.j (hW.lt hm)).2 ⟨m,hm,rfl⟩,m.o,hW.mem m hm,λe he hb=>bc e.on (Sy he hb)⟩
  rw[ab] at this;cases this;obtain⟨h1,o,ho,bc⟩:=mem_ready.1 hi;obtain⟨m,hm,rfl⟩:=(hW.un i (lH.1 ho).1).1 h1;have br:=hW.mem m hm;rw[br] at ho;cases ho;have hd:∀e∈jq m.o,listed.getD e E=true:=λe he=>by
   obtain⟨ed,h2,h3,rfl⟩:=W5 he;exact bc ed h2 h3
  have bt:∀M∈z++aa,¬(y.getD m.j 0).testBit M.j=true:=λM hx hb=>hW.not hx (hW.listed hX.aoz m.j m.o br hd M.j (hW.lt hx) hb)
  have ab:∀t∈kW ops m.o,t∉qd z:=λt ht hq=>by
   obtain⟨M,hx,bf⟩:=QQ.1 hq;exact bt M (El _ hx) (hX.zq m (a3 m hm) M (a3 M (El _ hx)) t bf ht)
  obtain⟨cs,cl⟩:=hX.gd m (a3 m hm);have cn:=azh h;have ct:lI m.o (yielded ops a.tmps)=true:=aet R (by simp[gZ,cs]);unfold wpOpIn;rw[br];simp only[ct,dN];rcases fg.1 hm with cu|cv
  
  obtain⟨xs,ys,rfl⟩:=aI1 cu;have hq:=gC.1 cn m (a9 m aw);split at hq;rename_i d b v bx hv;split at hq;rename_i w hw;simp only[aC,lu] at hq;have cx:=C.bW _ _ hq.1;subst cx;have fm:b.ai O=true:=by
   rcases hq.2 with h5|h5;cases b<;>simp only[BE.isT,iW] at h5;simp only[BE.ai];exact h5;obtain⟨M,hx,h6⟩:=ny.1 h5;rw[<-BE.bW _ _ h6,BE.eh hl.ext.agree M (b8 M hx).1];exact(b8 M hx).2
  have an:=aoj (O:=O) (hX.qt m (hp m aw)) cl (aok (ops:=ops) (ds:=qd (xs++m::ys)) ab hv) fm;obtain⟨v',G,V',ac,R',H⟩:=R6 R ok.kK hg m an;have af:=hW.nd;rw[Ce,cU] at hW af;have ag:d∉qd (xs++ys):=λhh=>by
   obtain⟨M,hx,bf⟩:=QQ.1 hh;have b0:M.j≠m.j:=by
    rw[oC] at af;rcases fg.1 hx with h5|h5;exact af.2.2 M h5 m aw;exact Ne.symm ((jO.1 af.2.1).1 M (by simp[h5]))
   exact hX.dst M (El _ (hp M (by rcases fg.1 hx with h5|h5<;>simp[h5]))) m (El _ (hp m aw)) b0 d bf bx
  have hs:((s.bF (qd (xs++m::ys))).put m.o.dst v)=s.bF (qd (xs++ys)):=by
   rw[bx];simp only[S.put,Cl,S.bF];congr 1;apply kS;intro i;rw[yO,xL,xL,jm,NG];have cy:=(dq.1 hw).1;by_cases hi:d=i;subst hi;rw[aH rfl,aH cy,hw];simp[ag];rw[aP hi];have cA:(qd (xs++m::ys)).contains i=(qd (xs++ys)).contains i:=by
    rw[Jv,Jq,Jq];simp only[qd,List.filterMap_append,avQ,bx,fg,eu];constructor;rintro(h5|h5|h5);exact .inl h5;exact bE h5.symm hi;exact .inr h5;rintro(h5|h5);exact .inl h5;exact .inr (.inr h5)
   rw[cA]
  rw[hs] at R' H;refine AZ hF ac (Sg an) ?_;refine cc _ (xs++ys) aa qv s O V' _ G L (by simp at bl⊢;omega) ?_ (λq hq=>a9 q (by rcases fg.1 hq with h5|h5<;>simp[h5])) bb hr (hl.trans ⟨H.ext,H.mono,H.len,H.ax⟩) hL R' hg h;rw[Ce];exact hW.next hd;cases hq;cases hq
  
  obtain⟨xs,ys,rfl,co⟩:=aot cv;have cB:(xs++m::ys).length=(xs++ys).length+1:=bZ;have cC:acH y (m,xs++ys)=true:=by
   refine gC.2 λM hx=> ?_
   have:=bt M (akK _ (by simp only[fg,eu] at hx⊢;exact hx.imp id .inr));simpa using this
  have h:(G2 cf (kq cf (λf c s k=>fO cf nn f c s yh k) yh) ds kp m (λA=>qp cf (kq cf (λf c s k=>fO cf nn f c s yh k) yh) y nH (MI y m qv) ds k kp (xs++ys).length (xs++ys) A) s).aN p O L:=by
   rw[cB] at h;generalize cD:xs++m::ys=cO at h co;cases cO with
   |nil=>simp at cD
   |cons m0 r0=>
    simp only[qp,cn,Bool.not_true,iW,jB] at h;exact aeF h _ (NJ (fw.2 ⟨_,qg.2 ⟨co,cC⟩,rfl⟩))
  have cW:wa ops (listed.setIfInBounds m.j J) (z++(xs++ys)):=by
   have h5:z++(xs++m::ys)=(z++xs)++m::ys:=aw;rw[h5] at hW;have:=hW.next hd;simpa using this
  have ag:∀d,m.o.dst=U d->d∉qd z:=λd c0 hh=>by
   obtain⟨M,hx,bf⟩:=QQ.1 hh;have b0:M.j≠m.j:=(oC.1 hW.nd).2.2 M hx m aw;exact hX.dst M (a3 M (El _ hx)) m (a3 m hm) b0 d bf c0
  have a0:∀(s1:S)(O1:aj)(V1:ar)(a1:Act)(W1:World)(L1:dm),bB s O V s1 O1 V1->cT s.ax L L1->aA p.S0 p.w0 D cf.ty V1 O1 (s1.bF (qd z)) a1 W1->(qp cf (kq cf (λf c s k=>fO cf nn f c s yh k) yh) y nH (MI y m qv) ds k kp (xs++ys).length (xs++ys) s1).aN p O1 L1->wpAnyIn F N p.P .any ops Q al (listed.setIfInBounds m.j J) a1 W1:=
   λs1 O1 V1 a1 W1 L1 dX c1 R1 c2=>cc _ z (xs++ys) (MI y m qv) s1 O1 V1 a1 W1 L1 (by simp at bl⊢;omega) cW (λq hq=>qg.2 ⟨a9 q hq,by have:=bt q (El _ hq);simpa using this⟩) (λq hq=>bb q (qg.1 hq).1) (λM hx=>hr M (by simp only[fg,eu] at hx⊢;exact hx.imp id .inr)) (hl.trans dX) (hL.trans c1 hl.ax) R1 (hg.ext dX.ext) c2
  have b1:=(Xe (cf:=cf) (s:=s) (O:=O) ab).ev cf.gl;unfold G2 at h;split at h;rename_i u hu;have c3:=azb (Hm b1) ag hu;simp only[T.aN] at h;obtain⟨aF,hr,h⟩:=h;obtain⟨ba,tv,c4,af,b2⟩:=axQ ok.zd R hg c3 hr;refine⟨λf _=>hF.fn f, ?_⟩;rw[AF _ _ _ af,c4,Vp];refine⟨λhd=>by rw[hF.zq] at hd;simp at hd,CallsIn.mono (hF.calls b2) (λe G he=> ?_)⟩;obtain⟨rfl,R',H⟩:=he;exact a0 u.s _ V _ G L ⟨H.ext,H.mono,H.len,H.ax⟩ (cT.refl _ _) R' h;split at h;rename_i g ba bg;have b3:et cf (s.bF (qd z)) m.o=.call (.fn g) ba:=by rw[Hm b1];exact bg
  have b4:B.lM (s.bF (qd z)) O V L:=by
   have:=hB.go hl hL;exact⟨⟨this.later.ext,this.later.mono,this.later.len,this.later.ax⟩,this.Kg⟩
  have hC:=Kq ok ih hY L (.fn g) ba (s.bF (qd z)) _ _ O V a W (λe G=>match e with|.returned v=>wpAnyIn F N p.P .any ops Q al (listed.setIfInBounds m.j J) (a.put m.o.dst v) G|.panicked ch=>Q (.panic ch) a G|.outgrown=>LetsOut Q) b4 (azg h) R hg
   (λv A O' V' G L' H a4 R' hs=>by
    simp only[Ba] at hs;split at hs;rename_i bk;refine a0 (({A with tmps:=s.tmps}:S).put m.o.dst v) O' V' _ G L' (bB.put (s':={A with tmps:=s.tmps}) (show bB s O V _ O' V' from⟨H.ext,H.mono,H.len,H.ax⟩) _ _) a4 ?_ hs;rw[A9 ag];have:({A with tmps:=s.tmps}:S).bF (qd z)=A:=by
     simp only[S.bF] at bk⊢;rw[<-bk]
    rw[this];exact R'.put _ _;exact hs.elim)
   (λv A O' V' G L' H a4 R' hs=>by
    simp only[Ba] at hs;split at hs;rename_i bk;refine ca v (({A with tmps:=s.tmps}:S).bF ds) O' V' a G L' (hl.trans ⟨H.ext,H.mono,H.len,H.ax⟩) (hL.trans a4 hl.ax) ?_ hs;have:({A with tmps:=s.tmps}:S).bF ds=A.bF ds:=by
     have h6:=aoi (s:=s) (ds:=ds) (es:=qd z) (λM hx=>by
      obtain⟨X,hy,b5⟩:=QQ.1 hx;exact b7 X (a3 X (El _ hy)) M b5)
     have h7:=jY S.tmps h6;simp only[S.bF] at h7 bk⊢;rw[bk,h7]
    rw[this];exact R'.bF ds;exact hs.elim)
   (λch G pd X hA hR=>HP ch a G pd X hA hR)
  obtain⟨c5,b2⟩:=hC;refine⟨λf _=>hF.fn f, ?_⟩;have af:∀c,m.o.op≠ .defer c:=λc b6=>by simp[et,b6] at bg
  rw[AF _ _ _ af,WH R hg b3 c5,Vp];refine⟨λhd=>by rw[hF.zq] at hd;simp at hd,CallsIn.mono (hF.calls b2) (λe G he=> ?_)⟩;cases e<;>exact he;rename_i yn ba bg;have b3:et cf (s.bF (qd z)) m.o=.call (.yl yn) ba:=by rw[Hm b1];exact bg
  have b4:B.lM (s.bF ds) O V L:=by
   have:=hB.go hl hL;exact⟨⟨this.later.ext,this.later.mono,this.later.len,this.later.ax⟩,this.Kg⟩
  have Rd:aA p.S0 p.w0 D cf.ty V O (s.bF ds) a W:=by
   have h6:=aoi (s:=s) (ds:=ds) (es:=qd z) (λM hx=>by
    obtain⟨X,hy,b5⟩:=QQ.1 hx;exact b7 X (a3 X (El _ hy)) M b5)
   rw[<-h6];exact R.bF ds
  have hC:=Kq ok ih hY L (.yl yn) ba (s.bF ds) _ _ O V a W (λe G=>match e with|.returned v=>wpAnyIn F N p.P .any ops Q al (listed.setIfInBounds m.j J) (a.put m.o.dst v) G|.panicked ch=>Q (.panic ch) a G|.outgrown=>LetsOut Q) b4 h Rd hg
   (λv A O' V' G L' H a4 R' hs=>a0 (A.put m.o.dst v) O' V' _ G L' ((show bB s O V A O' V' from⟨H.ext,H.mono,H.len,H.ax⟩).put _ _) a4 ((R'.put m.o.dst v).bF (qd z)) hs)
   (λv A O' V' G L' H a4 R' hs=>ca v (A.bF ds) O' V' a G L' (hl.trans ⟨H.ext,H.mono,H.len,H.ax⟩) (hL.trans a4 hl.ax) (R'.bF ds) hs)
   (λch G pd X hA hR=>HP ch a G pd X hA hR)
  obtain⟨fn,dn,assign,body,hy,c6⟩:=hC F hF (N-1);refine⟨λf _=>hF.fn f, ?_⟩;have af:∀c,m.o.op≠ .defer c:=λc b6=>by simp[et,b6] at bg
  rw[AF _ _ _ af,adW R hg b3,hy,avX];refine⟨λhd=>by rw[hF.zq] at hd;simp at hd,RoundIn.mono c6 (λe G he=> ?_)⟩;cases e<;>exact he;split at h;rename_i b hb;split at hb;rename_i c7;simp only[T.aN] at h;have c8:=azf (cf:=cf) (ops:=ops) c7 ab ag hb;obtain⟨v',G,rv,ac,c9,R',H⟩:=adG R ok.kK hg c8 h.1;exact AZ hF ac (adY hb) (a0 b.s _ V _ G L ⟨H.ext,H.mono,H.len,H.ax⟩ (cT.refl _ _) R' (h.2 rv (by rw[ok.pt];exact c9)));cases hb;split at h;rename_i A hu;obtain⟨G,ac,R',H⟩:=aoq R ok.kK hg (aoo (ops:=ops) ab ag hu);exact AZ hF ac (aop hu) (a0 A O V _ G L ⟨H.ext,H.mono,H.len,H.ax⟩ (cT.refl _ _) R' h);rename_i k' x' A hu;obtain⟨G,ac,R',H⟩:=aoq R ok.kK hg (aoo (ops:=ops) ab ag hu);simp only[T.aN] at h;exact AZ hF ac (aop hu) (a0 A _ V _ G L ⟨H.ext,H.mono,H.len,H.ax⟩ (cT.refl _ _) R' h);split at h;rename_i dc;split at h;rename_i b v hv;simp only[T.aN] at h;have an:=aoj (O:=O) dc cl (aok (ops:=ops) (ds:=qd z) ab hv) h.1;obtain⟨v',G,V',ac,R',H⟩:=R6 R ok.kK hg m an;rw[<-A9 ag] at R' H;exact AZ hF ac (Sg an) (a0 (s.put m.o.dst v) O V' _ G L ⟨H.ext,H.mono,H.len,H.ax⟩ (cT.refl _ _) R' h.2);exact h.elim;split at h;rename_i dd;split at h;rename_i A df;have dk:=ay6 (ops:=ops) dd ab ag df;have an:(gI cf m (s.bF (qd z))).gives O (A.bF (qd z)):=by rw[dk];rfl
  obtain⟨v',G,V',ac,R',H⟩:=R6 R ok.kK hg m an;exact AZ hF ac (Sg an) (a0 A O V' _ G L ⟨H.ext,H.mono,H.len,H.ax⟩ (cT.refl _ _) R' h);exact h.elim;exact h.elim;exact h.elim
def aoA:∀{V:cN}{s:S}{x:S×List BE},GY cf V s=U x->x.1={s with tmps:=x.1.tmps}/\Y x.1.tmps=Y s.tmps/\(∀t,t∉qd V->x.1.tmps[t]?=s.tmps[t]?)/\∀b∈x.2,b.bd s.ni s.nb (Y s.rs)=J
 |[],s,x,h=>by simp only[GY,dW] at h;subst h;exact⟨rfl,rfl,λ_ _=>rfl,λ_ R=>(by cases R)⟩
 |q::r,s,x,h=>by
  simp only[GY] at h;split at h;rename_i b v X;cases W:GY cf r (s.put q.o.dst v) with
  |none=>rw[W] at h;cases h
  |some y=>
   rw[W] at h;simp at h;subst h;obtain⟨Q,P,O,N⟩:=aoA W;refine⟨?_, ?_,λt M=> ?_,λx L=> ?_⟩;show y.1=_;rw[Q];cases q.o.dst<;>rfl;show Y y.1.tmps=_;rw[P];cases q.o.dst<;>simp[S.put]
   grind [qd,nL]
   have H:(s.put q.o.dst v).ni=s.ni/\(s.put q.o.dst v).nb=s.nb/\(s.put q.o.dst v).rs=s.rs:=by cases q.o.dst<;>exact⟨rfl,rfl,rfl⟩
   have R:b.bd s.ni s.nb (Y s.rs)=true:=by
    unfold EH at X;split at X;cases X;split at X;cases X;exact BE.bj.1 _;split at X
    grind
    cases X;cases X
   grind
  cases h
def aoB{F:Fence}(hF:qB F)(ok:jd p cf){nn:Nat}(ih:A8 p cf nn){D:bT}{B:jH}{yh:YH}(hY:qC p cf D.dJ B yh){Q:Exit->Act->World->Prop}(HP:∀z a' r pd X,ef p.w0 D pd X a'.defers r->p.R (.panicked z) r->Q (.panic z) a' r)
  {id:Nat}{so:Bool}{c:Ru}{a:Act}{L:dm}{k:XE->S->T}(hB:B.lM l x y L)(w:MK cf so ops l=U c)
  (h:(Rz cf (kq cf (λf c l k=>fO cf nn f c l yh k) yh) ops k c).aN p x L)(R:aA p.S0 p.w0 D cf.ty y x l a e)(hg:eC cf.gl x)
  (hk:∀s' O' V' a' r L',bB l x y s' O' V'->cT l.ax L L'->aA p.S0 p.w0 D cf.ty V' O' s' a' r->(k .normal s').aN p O' L'->Q .normal a' r)
  (bd:∀v s' O' V' a' r L',bB l x y s' O' V'->cT l.ax L L'->aA p.S0 p.w0 D cf.ty V' O' s' a' r->(k (.bp v) s').aN p O' L'->Q (.panic [{v:=v.ai O' V',recovered:=E}]) a' r):
  (Code.region id ops J).wpIn F N p.P Q a e:=by
 unfold MK at w;split at w;rename_i ab;obtain⟨ac,af⟩:∃ac,ac=fU (λ_=>E) E J 0 (Y l.au) ops.toList:=⟨_,rfl⟩;obtain⟨A,a0⟩:∃A,A=EK so ops (Y l.au):=⟨_,rfl⟩;obtain⟨z,a1⟩:∃z,z=EL so ops (Y l.au):=⟨_,rfl⟩;have bf:A=ac.filter λm=>(VZ so ops).contains m.j:=by rw[a0,af];rfl
 have bg:z=ac.filter λm=> !(VZ so ops).contains m.j:=by rw[a1,af];rfl
 have ab:=(aC _ _▸ab).2;unfold MJ at ab;rw[<-a0,<-a1,<-af] at ab;rw[<-a0,<-a1] at w;cases hq:GY cf A (l.room (mP ops.toList)) with
 |none=>rw[hq] at w;cases w
 |some x1=>
  obtain⟨s1,nH⟩:=x1;rw[hq] at w;simp only[akP,chI] at w;split at w;cases w;cases w;obtain⟨a4,h⟩:=aov h;simp only at h a4;have h:(qp cf (kq cf (λf c l k=>fO cf nn f c l yh k) yh) (qo ops.toList) nH A (GV ops.toList) (k .normal) (λv=>k (.bp v)) (Y z) z s1).aN p x L:=by
   split at h;exact h;exact azl _ _ _ _ _ _ h
  simp only[acK,aC,ge] at ab;obtain⟨⟨⟨⟨⟨⟨⟨⟨c1,c2⟩,c4⟩,c5⟩,c6⟩,c7⟩,c8⟩,c9⟩,bt⟩:=ab;have aa:∀m∈A++z,m∈ac:=λm G=>by
   rcases fg.1 G with h1|h1;rw[bf] at h1;exact(qg.1 h1).1;rw[bg] at h1;exact(qg.1 h1).1
  have a9:∀m∈ac,ops[m.j]?=U m.o:=λm G=>by
   obtain⟨i,g⟩:=avM.1 G;rw[af] at g;have h1:=Ko _ _ _ _ _ _ _ _ g;have h2:=aey _ _ _ _ _ _ _ _ g;rw[h2,jm];simpa using h1
  have ba:=W8 c4;have hX:aoy cf ops (qo ops.toList) A z:=by
   refine⟨an9 c1,λm G M hx d hd u=> ?_,λM hx X hy bk d bb bc=> ?_,λm G=> ?_,λq hq=> ?_⟩;have:=gC.1 (gC.1 c5 m (aa m G)) M (aa M hx);rw[hd] at this;simp only[lu,jP] at this;rcases this with h5|h5;rw[Jq.2 u] at h5;cases h5;exact h5;obtain⟨i,g⟩:=avM.1 (aa M hx);obtain⟨j,hj⟩:=avM.1 (aa X hy);have bl:i≠j:=λH=>by subst H;rw[g] at hj;cases hj;exact bk rfl
   have ag:=(dq.1 g);have al:=(dq.1 hj);rcases aIY bl with a3|a3;exact(abY.1 ba i j ag.1 al.1 a3) d (by rw[ag.2];exact bb) (by rw[al.2];exact bc);exact(abY.1 ba j i al.1 ag.1 a3) d (by rw[al.2];exact bc) (by rw[ag.2];exact bb);have:=gC.1 c2 m (aa m G);simp only[aC,jP,akF] at this;exact this;have:=gC.1 c6 q hq;simp only[aC] at this;exact this.1
  obtain⟨Rr,an⟩:=R.room (mP ops.toList);have Rd:=Rr.drew;obtain⟨e1,e2,e3,e4⟩:=aoA hq;simp only at e1 e2 e3 e4;have Rb:aA p.S0 p.w0 D cf.ty (y++ee (mP ops.toList) 0) x (s1.bF (qd A)) a {e with drawn:=e.drawn+1}:=by
   have hh:s1.bF (qd A)={l.room (mP ops.toList) with tmps:=uz (qd A) 0 s1.tmps}:=by
    rw[e1];rfl
   rw[hh];refine⟨Rd.mem,Rd.gE,Rd.ei,Rd.eb,Rd.er,Rd.dh,by simp only[NG,e2];exact Rd.size,λt sv u=> ?_,Rd.eL⟩;simp only at u;rw[xL,jm] at u;cases hx:s1.tmps[t]? with
   |none=>rw[hx] at u;cases u
   |some M=>
    rw[hx] at u;simp only[gc,dW] at u;split at u;exact .inl u.symm;rename_i br;subst u;exact Rd.tmps t M (by rw[<-e3 t (λG=>br (Jq.2 G))];exact hx)
  have dX:bB l x y s1 x (y++ee (mP ops.toList) 0):=by
   rw[e1];exact⟨an.ext,an.mono,an.len,an.ax⟩
  refine wpIn_region_any ok.WT ?_;refine azm (ds:=GV ops.toList) hF ok ih hY HP hX (λM hx d hd=> ?_) hB (λb hb=>⟨by have:=e4 b hb;rw[R.ei,R.eb,R.er];exact this,a4 b hb⟩) hk bd ops.size _ A z A s1 x _ a _ L c8 ?_ (λ_ h=>h) (λ_ h=>h) (λ_ h=>h) dX (cT.refl _ _) Rb hg h;have h2:ops.toList[M.j]?=U M.o:=by have:=a9 M (aa M hx);simpa using this
  exact QQ.2 ⟨M.o,jA h2,hd⟩;refine⟨λm G=>a9 m (aa m G),λi g=> ?_,aw,λj o ho hj=> ?_, ?_⟩;constructor;intro _;have:=gC.1 c7 i (by simpa using g);obtain⟨m,G,hj⟩:=ny.1 this;exact⟨m,G,by simpa using hj⟩;intro _;simp[g];exfalso;have bs:j<ops.size:=(lH.1 ho).1;simp[bs] at hj;have:=aeB c9;rw[akO] at this;exact this
 cases w
end
section
variable{p:Sp}{o:bv}
def jH.here(s:S)(O:aj)(V:ar)(L:dm):(jH.mk s O V L).lM s O V L:=⟨bB.refl _ _ _,cT.refl _ _⟩
def azn(W:Array Nat)(V:fy)(A:mL):(W.zip V.toArray).foldl (λ(X:mL)(x:Nat×Value)=>match x with|(t,a)=>X.setIfInBounds t a) A=(W.toList.zip V).foldl (λ(X:mL)(x:Nat×Value)=>X.setIfInBounds x.1 x.2) A:=by
 rw[<-aIX];simp
def bB.aeH{W:S}{X:aj}{R:ar}(h:bB l x y W X R)(k:Nat):bB l (x.at (x.y.take k)) y W (X.at (X.y.take k)) R:=
 ⟨⟨⟨h.ext.agree.i,h.ext.agree.b,h.ext.agree.r,by show X.y.take k=x.y.take k;rw[h.ext.agree.y]⟩,h.ext.li,h.ext.lb,h.ext.lr,h.ext.ad⟩,h.mono,h.len,h.ax⟩
def azo(ok:jd p o)(ih:A8 p o N){ba:Func}(bb:p.P.funcs[v]?=U ba){ps:Array Tmp}{assign body:Code}{s:S}{L:dm}{O:aj}{V:ar}{a:Act}{sE:S}{l:Nat}{rec:Loop}{g:List (Nat×Loop)}
  (hE:sE.au=s.au)(fm:C.dO (Y O.i) (Y O.b) (Y O.r) (aK s.au) s.tmps=J)(b3:a.tmps.size=Y s.tmps)(b4:∀(t:Nat)(z:C),s.tmps[t]?=U z->z=.any\/a.tmps[t]?=U (z.ai O V))
  (b5:kH assign=E)(b6:kH body=E){n0:Nat}(aa:rec={state:=.ready,pending:=Z,fn:=v,tmps:=a.tmps,params:=ps,assign,body,defers:=rec.defers})(f:g[n0]?=U (l,rec)){W:List (Nat×Loop)}{B0:jH}{an:YH}(b7:qC p o W B0 an)(bd:W<+:g)(b8:B0.lM s (O.at (O.y.take (Y W))) V L)(bf:sE.ax=s.ax)(ca:C.qr n0 s.tmps=E)(c2:Y g=n0+1):
  qC p o g ⟨sE,O,V,L⟩ (Rw n0 ps.size λk M k1 bg=>
   fO o N v assign (EM M s ps.toList k) iB (Rv n0 λw=>fO o N v body (w.EN n0 .busy) an (V5 n0 M k1 bg))):=by
 intro D hD L1 m k M k1 bg Q B a1 W1 R' hB h R hg hk cc hp F hF mm;unfold Rw at h;split at h;rename_i hc;simp only[aC,ge,dl] at hc;obtain⟨⟨⟨c1,c3⟩,c4⟩,c5⟩:=hc;subst c1;simp only[S.eW,aC] at c5;have f:D.dJ[m]?=U (l,rec):=by
  obtain⟨t,ht⟩:=hD;rw[<-ht,fT ae];exact f
 have bk:sU rec .ready=rec:=by rw[aa];rfl
 obtain⟨y1,y2,y3⟩:=R.dh.dJ m l rec .ready f c3;rw[bk] at y2;have cl:Q.y.getD m 0=l:=by simp[dA,y1]
 rw[cl];have bl:rec.params=ps:=by rw[aa]
 have cn:=run_yield (P:=p.P) (args:=(C.az Q B k).toArray) y2 (by rw[bl];simpa using c4);refine⟨_,_,_,_,cn, ?_⟩;have e1:rec.fn=v:=by rw[aa]
 have e2:rec.assign=assign:=by rw[aa]
 have e3:rec.body=body:=by rw[aa]
 have e4:rec.tmps=a.tmps:=by rw[aa]
 rw[e1,e2,e3,e4,bl];refine ayN hF bb ?_;obtain⟨ms,m1,m0,m2,m3⟩:=R.dh.mw;have hA:=R.dh.enter m2 m3 J;have co:∀(t:Nat)(z:C),s.tmps[t]?=U z->z=.any\/a.tmps[t]?=U (z.ai Q B):=by
  intro t z ht;rcases b4 t z ht with h1|h1;exact .inl h1;right;have hX:=hB.later.ext;simp only[hE] at hX;rw[<-C.NE (y:=Q.y.take (Y g)) (n:=m) (λq hq=>by simp only[dA];rw[List.getElem?_take_of_lt ae]) B z (aev ca z (jA ht)),hX.ai (xE fm ht)];exact h1
 obtain⟨q1,q2⟩:=an2 (O:=Q) (V:=B) ps.toList k s.tmps a.tmps b3 co;rw[<-azn] at q1 q2;have RS:aA p.S0 p.w0 ⟨ms++D.out,D.dJ,J,[]⟩ o.ty B Q (EM M s ps.toList k) {tmps:=(ps.zip (C.az Q B k).toArray).foldl (λ(cp:mL)(x:Nat×Value)=>match x with|(t,a)=>cp.setIfInBounds t a) a.tmps,defers:=[]} W1:=
  ⟨R.mem,R.gE,R.ei,R.eb,R.er,hA,q1,q2,R.eL⟩
 have a0:∀(a':Act) d pd y,ef p.w0 ⟨ms++D.out,D.dJ,J,[]⟩ pd y a'.defers d->a'.defers=[]/\ef p.w0 D pd y a1.defers d:=by
  intro a' d pd y ab;obtain⟨cs,p1,p0,p2,p3⟩:=ab.mw;have:cs=[]:=p0 rfl;subst this;have br:a'.defers=[]:=by simpa using p1
  rw[br] at ab;refine⟨br, ?_⟩;rw[m1];exact ab.ND m0
 refine ih ⟨ms++D.out,D.dJ,J,[]⟩ ⟨EM M s ps.toList k,Q,B,L1⟩ iB (U l) v assign (EM M s ps.toList k) _ L1 Q B _ W1 _ (E8 _ _) (jH.here _ _ _ _) rfl (λ_=>b5) ⟨ba,bb⟩ h RS hg ?_ ?_;intro ch a' d pd y ab hR;obtain⟨p1,p2⟩:=a0 a' d pd y ab;exact .inr ⟨ch,rfl,p1,hp ch d pd y p2 hR⟩;intro e w O2 V2 a2 W2 L2 ac bs R2 af;cases e with
 |normal=>
  simp only[Rv] at af;split at af;rename_i bt;simp only[dl] at bt;left;obtain⟨z1,z2,z3⟩:=R2.dh.dJ m l rec .ready f bt;rw[bk] at z2;have ct:({rec with state:=.busy}:Loop)=sU rec .busy:=by rw[aa];rfl
  have bx:=run_beginRound (P:=p.P) z2 (by rw[aa]);rw[ct] at bx;refine⟨rfl,_,bx, ?_⟩;have R3:aA p.S0 p.w0 ⟨ms++D.out,D.dJ,J,[]⟩ o.ty V2 O2 (w.EN m .busy) a2 (W2.putObj l (.loop (sU rec .busy))):=
   R2.obj z2 rfl z3 _ rfl (R2.dh.aex f .busy)
  have cu:qC p o D.dJ ⟨w.EN m .busy,O2,V2,L2⟩ an:=by
   intro D3 cv L3 n3 cx H k3 cy G V3 a3 W3 R3 b0;refine b7 D3 ((bd.trans hD).trans cv) L3 n3 cx H k3 cy G V3 a3 W3 R3 ?_;have cA:Y W<=Y g:=bd.length_le;have c6:Y g<=Y D.dJ:=hD.length_le;have t1:bB s (O.at (O.y.take (Y W))) V M (Q.at (Q.y.take (Y W))) B:=by
    have e:(Q.y.take (Y g)).take (Y W)=Q.y.take (Y W):=by rw[List.take_take,Mg cA]
    have u:bB sE (O.at (O.y.take (Y W))) V M (Q.at ((Q.y.take (Y g)).take (Y W))) B:=hB.later.aeH (Y W);rw[e] at u;exact⟨by have:=u.ext;rw[hE] at this;exact this,by rw[<-hE];exact u.mono,by rw[<-hE];exact u.len,by rw[<-bf];exact u.ax⟩
   have t2:=(show bB M Q B w O2 V2 from⟨ac.ext,ac.mono,ac.len,ac.ax⟩).aeH (Y W);have t3:bB w (O2.at (O2.y.take (Y W))) V2 H (G.at (G.y.take (Y W))) V3:=by
    have e:(G.y.take (Y D.dJ)).take (Y W)=G.y.take (Y W):=by rw[List.take_take,Mg ae]
    have u:bB (w.EN m .busy) (O2.at (O2.y.take (Y W))) V2 H (G.at ((G.y.take (Y D.dJ)).take (Y W))) V3:=b0.later.aeH (Y W);rw[e] at u;exact⟨u.ext,u.mono,u.len,u.ax⟩
   exact((b8.go t1 (by rw[<-bf];exact hB.Kg)).go t2 bs).go t3 b0.Kg
  refine ih ⟨ms++D.out,D.dJ,J,[]⟩ ⟨w.EN m .busy,O2,V2,L2⟩ an (U l) v body (w.EN m .busy) _ L2 O2 V2 a2 _ _ cu (jH.here _ _ _ _) rfl (λ_=>b6) ⟨ba,bb⟩ af R3 (hg.ext ac.ext) ?_ ?_;intro ch a' d pd y ab hR;obtain⟨p1,p2⟩:=a0 a' d pd y ab;exact⟨p1,hp ch d pd y p2 hR⟩
  ·intro e H G V3 a3 W4 L3 a4 cB R4 a9;have cC:m<Y H.pd:=by
    rw[<-R4.dh.len];exact(dq.1 f).1
   obtain⟨u1,u2,u3⟩:=R4.dh.dJ m l rec H.pd[m] f (dB cC);have A:bB (EM M s ps.toList k) Q B H G V3:=ac.trans (s':=w) ⟨a4.ext,a4.mono,a4.len,a4.ax⟩;have b1:cT M.ax L1 L3:=cT.trans (m:=w.ax) bs cB ac.ax;have bc:∀(j:JA)(ag:Option Code),(∀al,({sU rec al with state:=if ag.isNone then .ready else .done,pending:=ag}:Loop)=sU rec j)->
     (k1 (.bool (.c ag.isNone)) {H with tmps:=M.tmps,pd:=H.pd.set m j}).aN p G L3->∃X w',(Instr.endRound l ag).run p.P W4=.ok X w'/\R' (.returned X) w':=by
    intro j ag cD cO;have b2:=run_endRound (P:=p.P) ag u2;rw[cD] at b2;refine⟨_,_,b2, ?_⟩;have R5:=R4.obj u2 rfl u3 (.loop (sU rec j)) rfl (R4.dh.aex f j);have cW:ef p.w0 D (H.pd.set m j) G.y a1.defers (W4.putObj l (.loop (sU rec j))):=(a0 a3 _ _ _ (R4.dh.aex f j)).2;have c0:bB (EM M s ps.toList k) Q B {H with pd:=H.pd.set m j} G V3:=⟨A.ext,A.mono,A.len,A.ax⟩;have RB:=R.back c5.1 c0 rfl R5 (D2:=D) (a2:=a1) rfl cW;have:=hk (.bool (.c ag.isNone)) {H with tmps:=M.tmps,pd:=H.pd.set m j} G V3 _ L3 ⟨A.ext,A.mono,A.len,A.ax⟩ b1 RB cO;simpa[C.ai,BE.ai] using this
   cases e with
   |normal=>exact bc .ready Z (λal=>by cases al<;>rfl) a9
   |ret=>exact bc (.done .ret) (U .ret) (λal=>by cases al<;>rfl) a9
   |exit id=>exact bc (.done (.exit id)) (U (.exit id)) (λal=>by cases al<;>rfl) a9
   |bp X=>
    obtain⟨p1,p2⟩:=a0 a3 _ _ _ R4.dh;have RB:=R.back c5.1 A rfl R4 (D2:=D) (a2:=a1) rfl p2;exact⟨p1,cc X {H with tmps:=M.tmps} G V3 _ L3 ⟨A.ext,A.mono,A.len,A.ax⟩ b1 RB a9⟩
  exact af.elim
 |ret=>exact af.elim|exit id=>exact af.elim|bp X=>exact af.elim
 exact h.elim
def azp(ok:jd p o)(ih:A8 p o N){D:bT}{B:jH}{yh:YH}{b5:Func}(b6:p.P.funcs[v]?=U b5){f:Operand}{ps:Array Tmp}{assign body:Code}{k:XE->S->T}{L:dm}{a:Act}{Q:Exit->Act->World->Prop}
  (bc:D.rd=E){g:FuncId}{c:Code}{nt:Nat}(bd:l.ev o.gl f=.fn g t)(bf:o.inl g=U (c,nt,[]))
  (ce:l.eW t=J)(al:l.zj (Y l.pd)=E)(b7:C.qr (Y l.pd) t=E)(b8:kH assign=E)(ca:kH body=E)(af:ko g 1000000=J)
  (h:(fO o N g c (ML l nt t) (Rw (Y l.pd) ps.size λcc s1 k1 cl=>fO o N v assign (EM s1 l ps.toList cc) iB (Rv (Y l.pd) λs2=>fO o N v body (s2.EN (Y l.pd) .busy) yh (V5 (Y l.pd) s1 k1 cl))) (J2 l k)).aN p x L)
  (hY:qC p o D.dJ B yh)(hB:B.lM l x y L)(R:aA p.S0 p.w0 D o.ty y x l a e)(hg:eC o.gl x)
  (HP:∀ch w j pd X,ef p.w0 D pd X w.defers j->p.R (.panicked ch) j->Q (.panic ch) w j)
  (hk:∀M F A u w j L',bB l x y F A u->cT l.ax L L'->aA p.S0 p.w0 D o.ty u A F w j->(k M F).aN p A L'->Q (M.to A u) w j):
  jQ Z v p.P (.rangeFunc f ps assign body) Q a e:=by
 obtain⟨ms,m1,m0,m2,m3⟩:=R.dh.mw;simp only[S.eW,aC] at ce;simp only[S.zj,yN] at al;obtain⟨rec,a3⟩:∃rec:Loop,rec={state:=.ready,pending:=Z,fn:=v,tmps:=a.tmps,params:=ps,assign,body,defers:=e.heap.size}:=⟨_,rfl⟩;obtain⟨W1,an⟩:∃W1,(e.alloc (.deferred (U []))).alloc (.loop rec)=W1:=⟨_,rfl⟩;have dX:W1.heap[e.heap.size+1]?=U (.loop rec):=by
  rw[<-an];have:=Vl (e.alloc (.deferred (U []))) (.loop rec);rwa [Vr] at this
 have cn:W1.heap[e.heap.size]?=U (.deferred (U [])):=by
  rw[<-an];exact(Below.heap_alloc _ _ _ aw).trans (Vl e _)
 have bg:Below e.heap.size e W1:=by
  rw[<-an];exact⟨rfl,rfl,rfl,bZ,λk hk=>(Below.heap_alloc _ _ _ bZ).trans (Below.heap_alloc _ _ _ hk)⟩
 have R1:=R.below bg;have co:sU rec .ready=rec:=by rw[a3];rfl
 have cp:p.w0.heap.size<=e.heap.size:=R.mem.base.size;have bk:∀(N l':Nat)(r':Loop),D.dJ[N]?=U (l',r')->l'<e.heap.size:=by
  intro N l' r' hn;have a4:N<Y l.pd:=by rw[<-R.dh.len];exact(dq.1 hn).1
  exact EV (R.dh.dJ N l' r' l.pd[N] hn (dB a4)).2.1
 have bl:ef p.w0 ⟨e.heap.size::(ms++D.out),D.dJ++[(e.heap.size+1,rec)],E,[]⟩ (l.pd++[.ready]) (x.y++[e.heap.size+1]) [] W1:=
  R1.dh.push m2 (λd hd=>⟨(bg.block d (EV (m3 d hd).1)).trans (m3 d hd).1,(m3 d hd).2⟩) cn (λhm=>by have:=EV (m3 _ hm).1;omega) cp (by rw[co];exact dX) (λN l' r' hn M=>by have:=bk N l' r' hn;omega) ae
 have a9:Y x.y=Y l.pd:=R.dh.rX;have a0:∀m,m<Y l.pd->(x.y++[e.heap.size+1]).getD m 0=x.y.getD m 0:=by
  intro m hm;simp only[dA];by_cases a4:m<Y x.y;rw[fT a4];rw[jl ae,ul (l:=x.y) ae,ul bZ]
 have br:∀(H:Nat)(sv:C),l.tmps[H]?=U sv->sv=.any\/a.tmps[H]?=U (sv.ai (x.at (x.y++[e.heap.size+1])) y):=by
  intro H sv ht;rcases R.tmps H sv ht with q|q;exact .inl q;right;rw[C.NE a0 y sv (aev al.1 sv (jA ht))];exact q
 have cs:aA p.S0 p.w0 ⟨e.heap.size::(ms++D.out),D.dJ++[(e.heap.size+1,rec)],E,[]⟩ o.ty y (x.at (x.y++[e.heap.size+1])) {l with pd:=l.pd++[.ready]} {a with defers:=[]} W1:=
  ⟨R1.mem.at a0 al.2,R1.gE,R1.ei,R1.eb,R1.er,bl,R1.size,br,λk M rv b q h2 h3=>let H:=R1.eL k M rv b q h2 h3;⟨H.own,H.mem,H.box,H.alone,H.inner⟩⟩
 have RE:=cs.enter (.yl (Y l.pd)::t) nt bl;have ct:C.az (x.at (x.y++[e.heap.size+1])) y (.yl (Y l.pd)::t)=.func (.yield (e.heap.size+1)) #[] #[]::C.az x y t:=by
  simp only[C.az,C.ai];rw[C.NF a0 y t b7];congr 3;simp only[aj.at];rw[<-a9];simp
 have cu:a.eval f=.func (.func g) #[] (C.az x y t).toArray:=by
  have:=db R hg f (by rw[bd];rfl);rw[bd,C.ai,ac0 af] at this;exact this
 have eg:=ok.zr g (.inr (by rw[bf];rfl));obtain⟨ag,hf,cv,cx,bY⟩:=ok.inl g c nt [] bf;refine ayL ⟨e.heap.size+1,[mS e.heap.size],W1,{target:=.fn (.func g) (C.az x y t).toArray,args:= #[.func (.yield (e.heap.size+1)) #[] #[]]},W1,g,
  #[.func (.yield (e.heap.size+1)) #[] #[]]++(C.az x y t).toArray,W1, ?_, ?_, ?_, ?_⟩
 rw[<-an,a3];exact run_enterLoop_outer _ _ _ _ _
 ·simp only[resolve,cu];simp[go_sem]
 ·simp[invoke,go_sem,eg]
 have cy:(#[.func (.yield (e.heap.size+1)) #[] #[]]++(C.az x y t).toArray:mL)=(C.az (x.at (x.y++[e.heap.size+1])) y (.yl (Y l.pd)::t)).toArray:=by
  rw[ct];simp
 rw[cy];refine Kl hf cv ?_;rw[cx];have bs:([mS e.heap.size]++a.defers:CG)=(e.heap.size::ms).map mS++D.base:=by rw[m1];rfl
 have cA:B.lM l ((x.at (x.y++[e.heap.size+1])).at ((x.at (x.y++[e.heap.size+1])).y.take (Y D.dJ))) y L:=by
  have M:(x.at (x.y++[e.heap.size+1])).y.take (Y D.dJ)=x.y:=by rw[R.dh.len,<-a9];simp[aj.at]
  rw[M];exact hB
 have bt:(D.dJ++[(e.heap.size+1,rec)])[Y l.pd]?=U (e.heap.size+1,rec):=by rw[<-R.dh.len];simp
 refine ih ⟨e.heap.size::(ms++D.out),D.dJ++[(e.heap.size+1,rec)],E,[]⟩ ⟨ML l nt t,x.at (x.y++[e.heap.size+1]),y,L⟩ _ Z g c (ML l nt t) (J2 l k) L _ y _ W1 _
  (azo ok ih b6 (a:=a) (s:=l) (sE:=ML l nt t) (L:=L) (ps:=ps) (O:=x.at (x.y++[e.heap.size+1])) (V:=y) rfl (R.zo ce.1).1 R.size br b8 ca (by rw[a3]) bt hY (List.prefix_append _ _) cA rfl al.1 (by simp[R.dh.len])) (jH.here _ _ _ _) rfl (λhh=>by cases hh) ⟨ag,hf⟩ (td p _ x L _ h) RE hg ?_ ?_
 intro ch w j pd X hA hR;obtain⟨cB,q1,q0,q2,q3⟩:=hA.mw;rw[q1] at hA;have ac:=(hA.ri).pop bc;show LeavesInM Fence.wide 0 p.P ag w.tmps _ w.defers (.panicking ch) j;rw[q1];refine sa aw (xl.1 q2).1 (λd hd=>(q3 d (by simp[hd])).1) ?_;exact HP ch _ _ _ _ (by rw[<-bs] at ac;exact ac) (SE (ok.WU ch) (λd hd=>(q3 d (by simp[hd])).2) hR);intro M F A u w j L' hl hL RR z;obtain⟨cB,q1,q0,q2,q3⟩:=RR.dh.mw;have R2:=RR.ri q1;have ac:=R2.dh.pop bc;have bx:A.y=x.y++[e.heap.size+1]:=hl.ext.agree.y;have cC:A.y.take (Y D.dJ)=x.y:=by rw[bx,R.dh.len,<-a9];simp
 rw[cC,<-bs,R.dh.len] at ac;have b0:∀m,m<Y l.pd->x.y.getD m 0=A.y.getD m 0:=λm hm=>by rw[bx];exact(a0 m hm).symm
 have af:bB l x y (l.vQ F) (A.at x.y) u:=⟨⟨⟨hl.ext.agree.i,hl.ext.agree.b,hl.ext.agree.r,rfl⟩,hl.ext.li,hl.ext.lb,hl.ext.lr,hl.ext.ad⟩,λi hi=>an1 _ _ _ i (ayR hi) (hl.mono i hi),by show Y l.au<=(oG _ _ _).length;rw[SB];exact hl.len,hl.ax⟩;have b1:∀(W3:World),jG p.S0 p.w0 u A F.au o.ty F.rs W3->(∀(k:Nat)(M:TypeId)(rv:RV)(b:Nat),F.rs[k]?=U (.own M)->A.r[k]?=U rv->rv.ly=U b->AT p.S0 p.w0 u A F.au o.ty F.rs W3 k M rv b)->zk (Y l.pd) (l.vQ F).au=E->
   ef p.w0 D (F.pd.take (Y l.pd)) x.y ([mS e.heap.size]++a.defers) W3->aA p.S0 p.w0 D o.ty u (A.at x.y) (l.vQ F) {a with defers:=[mS e.heap.size]++a.defers} W3:=by
  intro W3 hm ht hb cD;refine⟨(hm.ayS (Y l.pd) (Y l.au)).at b0 hb,by show Y u=(oG _ _ _).length;rw[SB];exact R2.gE,R2.ei,R2.eb,R2.er,cD,R.size,λH sv h=> ?_,λk M rv b q h2 h3=>let H:=ht k M rv b q h2 h3;⟨H.own,H.mem,λi hi=>H.box i (SD hi),H.alone,H.inner⟩⟩;rcases R.tmps H sv h with q|q;exact .inl q;right;rw[af.ext.ai (xE (R.zo ce.1).1 h)];exact q
 have b2:Y l.pd<Y F.pd:=by
  have:=R2.dh.len;simp only[ga,nX,Cg] at this;rw[R.dh.len] at this;omega
 obtain⟨u1,u2,u3⟩:=R2.dh.dJ (Y l.pd) (e.heap.size+1) rec F.pd[Y l.pd] bt (dB b2);have ba:∀(st:JA)(M:XE)(a1:Option Code),F.pd[Y l.pd]?=U st->(sU rec st).state≠ .busy->(sU rec st).pending=a1->zk (Y l.pd) (l.vQ F).au=E->(k M (l.vQ F)).aN p A L'->
   (∀W4,Q (M.to (A.at x.y) u) {a with defers:=[mS e.heap.size]++a.defers} W4->(match a1 with|none=>Q .normal {a with defers:=[mS e.heap.size]++a.defers} W4|U c=>jQ Z v p.P c Q {a with defers:=[mS e.heap.size]++a.defers} W4))->
   LeavesInM Fence.wide 0 p.P ag w.tmps (aeu Z v p.P (e.heap.size+1) Q {a with defers:=[mS e.heap.size]++a.defers}) w.defers .returning j:=by
  intro st M a1 aa cO hj ab cW hq;rw[q1];refine sa aw (xl.1 q2).1 (λd hd=>(q3 d (by simp[hd])).1) ⟨_,Kh R2 ok.kK (l:=[]) (by rw[bY];rfl), ?_⟩;have c0:F.pd[Y l.pd]=st:=by
   rw[dB b2] at aa;simpa using aa
  rw[c0] at u2;have b3:=run_endLoop (P:=p.P) u2 cO;rw[hj] at b3;refine⟨a1,_,b3,hq _ ?_⟩;have c1:∀(N l':Nat)(r':Loop),D.dJ[N]?=U (l',r')->l'≠e.heap.size+1:=λN l' r' hn M=>by have:=bk N l' r' hn;omega
  refine hk M (l.vQ F) (A.at x.y) u _ _ L' af hL (b1 _ (R2.mem.obj u2 rfl u3 _) (λk M rv b q h2 h3=>(R2.eL k M rv b q h2 h3).obj u2 rfl _) ab (ac.put u2 c1 _)) (td p _ A L' _ cW)
 have b4:(J2 l k .ret F).aN p A L'->LeavesInM Fence.wide 0 p.P ag w.tmps (aeu Z v p.P (e.heap.size+1) Q {a with defers:=[mS e.heap.size]++a.defers}) w.defers .returning j:=by
  intro z;simp only[J2] at z;split at z;exact z.elim;rename_i ab;have bb:zk (Y l.pd) (l.vQ F).au=false:=by simpa using ab
  split at z;rename_i aa;exact ba .ready .normal Z aa (by simp[sU]) rfl bb z (λ_ h=>h)
  ·rename_i aa;exact ba (.done .ret) .ret (U .ret) aa (by simp[sU]) rfl bb z (λ_ h=>vZ (n:=0) (wpIn_ret h))
  ·rename_i id aa;exact ba (.done (.exit id)) (.exit id) (U (.exit id)) aa (by simp[sU]) rfl bb z (λ_ h=>vZ (n:=0) (wpIn_exit h))
  exact z.elim
 cases M with
 |normal=>exact b4 z|ret=>exact b4 z|exit id=>exact z.elim
 |bp G=>
  simp only[J2] at z;split at z;exact z.elim;rename_i ab;simp only[lu,not_or,akQ] at ab;show LeavesInM Fence.wide 0 p.P ag w.tmps _ w.defers (.panicking _) j;rw[q1];refine sa aw (xl.1 q2).1 (λd hd=>(q3 d (by simp[hd])).1) ?_;have:=hk (.bp G) (l.vQ F) (A.at x.y) u _ _ L' af hL (b1 _ R2.mem R2.eL ab.2 ac) (td p _ A L' _ z);simp only[XE.to] at this;rw[C.NE b0 u G ab.1] at this;exact this
end
section
variable{d:bv}{p:Sp}{L:dm}{V:ar}{W:World}
def Up(O X:aj):Prop:=∃l,X={O with r:=O.r++l}
def Up.refl(O:aj):Up O O:=⟨[],aw⟩
def Up.trans{X R:aj}(h:Up x X)(k:Up X R):Up x R:=by
 obtain⟨l,rfl⟩:=h;obtain⟨m,rfl⟩:=k;exact⟨l++m,aw⟩
def Up.agree{R:aj}(h:Up x R):ja x R (Y x.i) (Y x.b) (Y x.r):=by
 obtain⟨l,rfl⟩:=h;have:∀(l:aE)(x:aj),x.ext (l.map XV.r)={x with r:=x.r++l}:=by
  intro l;induction l with|nil=>intro x;simp[aj.ext]|cons X P Q=>intro x;simp only[dG,aj.ext,Q,aj.add];simp
 rw[<-this l x];exact EQ _ _
def sR(O:aj)(X:bo)(R:vD):S:=⟨[],[],Y O.i,Y O.b,X,0,0,R⟩
def SL(X:bo):Prop:=∀(k:Nat)(e:TypeId),X[k]?≠U (RK.own e)
def aoC(p:Sp)(d:bv)(D:bT)(a:Act)(W:World)(L:dm)(V:ar)(G:bm)(N:vD)(X:aj)(v:C)(f:bo->(C->bo->T)->T):Prop:=
 ∀(Q:bo)(O:aj)(k:C->bo->T),aA p.S0 p.w0 D d.ty [] O (sR O Q N) a W->Up X O->SL Q->v.bd (Y X.i) (Y X.b) (Y X.r) (aK G)=J->(f Q k).aN p O L->
  ∃M P R,aA p.S0 p.w0 D d.ty [] R (sR R P N) a W/\Up O R/\SL P/\(∀H,Up R H->M.ai H []=v.ai X V)/\(k M P).aN p R L
def Xi{D:bT}{a:Act}{A:bm}{M:vD}{Q:aj}{f:C->bo->(C->bo->T)->T}(z:∀v,aoC p d D a W L V A M Q v (f v)):∀(l:aq)(X:bo)(O:aj)(k:aq->bo->T),aA p.S0 p.w0 D d.ty [] O (sR O X M) a W->Up Q O->SL X->C.dO (Y Q.i) (Y Q.b) (Y Q.r) (aK A) l=J->(MN f l X k).aN p O L->
  ∃y H P,aA p.S0 p.w0 D d.ty [] P (sR P H M) a W/\Up O P/\SL H/\(∀N,Up P N->C.az N [] y=C.az Q V l)/\(k y H).aN p P L
 |[],X,O,k,R,G,F,_,h=>⟨[],X,O,R,Up.refl O,F,λ_ _=>rfl,h⟩
 |x::s,X,O,k,R,G,F,B,h=>by
  rw[C.iY.2,aC] at B;simp only[MN] at h;obtain⟨q,o,n,m,w,j,g,e⟩:=z x X O _ R G F B.1 h;obtain⟨c,aa,O2,R2,u,n2,d2,h2⟩:=Xi z s o n _ m (G.trans w) j B.2 e;exact⟨q::c,aa,O2,R2,w.trans u,n2,λN t=>by simp only[C.az,g N (u.trans t),d2 N t],h2⟩
def aeI(an:p.ty=d.ty){D:bT}{a:Act}{bx:bm}{pd:vD}{O0:aj}(ha:a.tmps= #[])(a1:∀i e G,mO bx i=U (e,G)->W.heap[ad V i]?=U (.cells (C.az O0 V G).toArray e (0,0))/\(p.w0.heap.size<=ad V i\/ad V i∈qX p.w0.heap.size p.S0)/\C.dO (Y O0.i) (Y O0.b) (Y O0.r) (aK bx) G=J):
  ∀(n:Nat)(v:C),aoC p d D a W L V bx pd O0 v (MO d bx n v)
 |0,v=>λx O k R w o N h=>h.elim
 |n+1,v=>by
  intro x O k R w o N h;cases v with
  |int q e=>
   refine⟨_,x,O,R,Up.refl O,o,λf M=> ?_,h⟩;rw[C.bj.1] at N;simp only[C.ai,K.eh (w.trans M).agree e N]
  |bool e=>
   refine⟨_,x,O,R,Up.refl O,o,λf M=> ?_,h⟩;rw[C.bj.2.1] at N;simp only[C.ai,BE.eh (w.trans M).agree e N]
  |ak r=>
   refine⟨_,x,O,R,Up.refl O,o,λf M=> ?_,h⟩;rw[C.bj.2.2.1] at N;simp only[C.ai,RE.eh (w.trans M).agree r N]
  |agg l=>
   rw[C.bj.2.2.2.2.2.2.1] at N;simp only[MO] at h;obtain⟨l',bb,O',R',u',n',d',h'⟩:=Xi (aeI an ha a1 n) l x O _ R w o N h;exact⟨.agg l',bb,O',R',u',n',λf M=>by simp only[C.ai,d' f M],h'⟩
  |iP i br aa ab=>
   simp only[MO] at h;split at h;rename_i e G bc;obtain⟨g1,g2,g3⟩:=a1 i e G bc;split at h;rename_i te bd;obtain⟨ac,Q,H,B,u1,n1,d1,h1⟩:=Xi (aeI an ha a1 n) G x O _ R w o g3 h;split at h1;rename_i hc;simp only[aC,ge,dl,bne_iff_ne,ne_eq] at hc;obtain⟨⟨⟨⟨c1,c2⟩,c3⟩,c4⟩,c5⟩:=hc;subst c3;have hw:bH d.ty (.sl e)=te.am:=by simp[bH,bd]
   have a3:oF d.ty (sR H Q pd) (bH d.ty (.sl e)) (jZ (Y te.am) aa ac)=true:=by
    rw[hw,<-c1];exact Hn (s:=sR H Q pd) (s':=S.dS Q) rfl
   have a4:=adA B a3;obtain⟨P,A⟩:∃P,P=(jZ (Y te.am) aa ac).map λag=>ag.map (C.cg H):=⟨_,rfl⟩
   rw[<-A] at a4;have hN:Y P=aa:=by rw[A];simp[Wt]
   have bf:C.az H [] ac=C.az O0 V G:=d1 H (Up.refl _);have hH:bG W d.ty (.sl e) (.mk (.slice (U ⟨ad V i,0,Z⟩) (Y P) ab) P):=by
    refine ads a4 ⟨_,_,_,g1⟩ (λq u hq=> ?_) (by rw[hN];exact c4);rw[A] at hq;have a9:=adB (V:=[]) (by rw[hw]) a3 (λi ag m=>by rw[<-A] at m;rw[a4.len i ag m,hw]) hq;rw[bf] at a9;simp[oE,g1,a9]
   have bg:J5 p.ty p.S0 p.w0 e (.lit (jZ (Y te.am) aa ac)) Q H (.mk (.slice (U ⟨ad V i,0,Z⟩) (Y P) ab) P):=by
    refine⟨⟨U ⟨ad V i,0,Z⟩,Y P,ab,by rw[A];rfl,by rw[A];rfl⟩,λb hl=> ?_,λ_ _ _ _ h=>by cases h⟩;rw[an] at hl⊢;generalize ba:RV.mk (.slice (U ⟨ad V i,0,Z⟩) (Y P) ab) P=rv at hl;cases hl with
    |here e a0 bs bt bk=>
     injection ba with p1 p2;injection p1 with p3 p4 p5;cases p3;exact g2.imp id .inl
    |deep e v bk i j ag c z k b g q2 q3 q4=>
     injection ba with p1 p2;subst p2;rw[A,eo] at g;cases m:(jZ (Y te.am) aa ac)[i]? with
     |none=>rw[m] at g;cases g
     |some bl=>
      rw[m] at g;simp only[gc,dW] at g;subst g;obtain⟨r,X,F,k3,k4⟩:=adv (Hd a3 i bl m) q2 q3 q4;exact .inr (.inr (Ka B k3 F k4).1)
   have hs:=h1 _ bg;refine⟨.ak (.v (Y Q)),Q++[.sl e],H.add (.r (.mk (.slice (U ⟨ad V i,0,Z⟩) (Y P) ab) P)), ?_,u1.trans ⟨[_],rfl⟩, ?_, ?_,hs⟩;have al:Y H.r=Y Q:=B.er;refine⟨⟨B.mem.base,λi y=>by simp[sR,aK,bS] at y,λi j y=>by simp[sR,aK,bS] at y,λi t G y=>by simp[sR,bS] at y,λk e' rv X F=> ?_⟩,rfl,rfl,rfl,by simp[sR,aj.add,al],B.dh,by rw[ha];rfl,λt sv ht=>by simp[sR] at ht,λk e' rv b X=> ?_⟩;refine⟨?_,λb N i y=>by simp[sR,aK,bS] at y⟩;simp only[sR,aj.add] at X F;by_cases hk:k<Y Q;rw[fT hk] at X;rw[fT ae] at F;exact(B.mem.ak k e' rv X F).1;have af:k=Y Q:=by
    have:=(dq.1 X).1;simp at this;omega
   subst af;simp at X;rw[<-al] at F;simp at F;subst X F;exact hH;exfalso;simp only[sR] at X;by_cases hk:k<Y Q;rw[fT hk] at X;exact n1 _ _ X;have:=(dq.1 X).1;have af:k=Y Q:=by simp at this;omega
   subst af;simp at X;intro k e' X;by_cases hk:k<Y Q;rw[fT hk] at X;exact n1 _ _ X;have:=(dq.1 X).1;have af:k=Y Q:=by simp at this;omega
   subst af;simp at X;intro f M;obtain⟨l,rfl⟩:=M;have al:Y H.r=Y Q:=B.er;simp only[C.ai,RE.ai,RE.rv,aj.rv,aj.add,dA,Ce];rw[<-al,jl (cd _)];simp[hN];exact h1.elim;exact h.elim;exact h.elim
  |loc _ _=>exact h.elim|el _ _ _ _=>exact h.elim|bI _=>exact h.elim|fn _ _=>exact h.elim|gH _ _=>exact h.elim|yl _=>exact h.elim|any=>exact h.elim|mp _=>exact h.elim|gq _ _ _=>exact h.elim
end
def aeJ(Q:Exit->Act->World->Prop)(X:Act->World->Prop):Exit->Act->World->Prop
 |.normal,a,w=>X a w|e,a,w=>Q e a w
section
variable{F:Fence}{n:Nat}{P:Program}{c init:dF}{Q:Exit->Act->World->Prop}
def azq{o:Oper}(H:init[N]?=U o)(G:c[N]?=U o)(D:∀j b,o.guard=U (j,b)->init[j]?=c[j]?){X W L:Act->World->Prop}(O:∀a e,W a e->L a e){a:Act}
  (h:wpOpIn F n P init (aeJ Q X) N W a e):wpOpIn F n P c Q N L a e:=by
 unfold wpOpIn at*;rw[H] at h;rw[G];simp only at*;have B:lI o (yielded c a.tmps)=lI o (yielded init a.tmps):=by
  unfold lI;cases A:o.guard with|none=>rfl|some z=>obtain⟨j,b⟩:=z;simp only[yielded,D j b A]
 rw[B];split;rename_i M;simp only[M,dN] at h;unfold Oper.wpIn at*;refine⟨h.1, ?_⟩;have h:=h.2;generalize(o.semAt F.round a.eval).run P e=r at*;cases r with
 |ok x y=>
  cases x<;>simp only[awm] at h⊢<;>
   first
    |exact O _ _ h
    |exact⟨h.1,CallsIn.mono h.2 (λV v R=>by cases V<;>first|exact O _ _ R|exact R)⟩
    |exact⟨h.1,h.2.mono (λ_ _ R=>O _ _ R)⟩|exact⟨h.1,RoundIn.mono h.2 (λV v R=>by cases V<;>first|exact O _ _ R|exact R)⟩
 |halt x y=>cases x<;>simp only[awm] at h⊢<;>exact h
 rename_i M;simp only[M] at h;exact⟨h.1,O _ _ h.2⟩
def azr(hi:init.size=N)(g:∀i,i<N->init[i]?=c[i]?)(t:c.size=N+1)(d:∀(i:Nat)(o:Oper),c[i]?=U o->∀e∈jq o,e<i)(bd:∀(i:Nat)(o:Oper),c[i]?=U o->∀j b,o.guard=U (j,b)->j<N)
  (bf:∀j,j<N->∃(i:Nat)(o:Oper),j<i/\c[i]?=U o/\j∈jq o):∀(A:Nat)(listed X:Array Bool)(a:Act)(w:World),listed.size=N->X.size=N+1->(∀i,i<N->X[i]?=listed[i]?)->X[N]?=U E->
   (∀(j:Nat)(o:Oper),c[j]?=U o->X.getD j E=J->∀e∈jq o,X.getD e E=J)->
   wpAnyIn F n P .any init (aeJ Q (wpOpIn F n P c Q N (Q .normal))) A listed a w->wpAnyIn F n P .any c Q (A+1) X a w:=by
 have H:∀(l:Array Bool)(i:Nat)(b:Bool),l.getD i b=(l[i]?).getD b:=λl i b=>by simp[abX]
 have a1:∀(listed X:Array Bool)(i:Nat),i<N->(∀i,i<N->X[i]?=listed[i]?)->(i∈um .any c X<->i∈um .any init listed):=by
  intro listed X i L R;rw[mem_ready,mem_ready,g i L,H X,H listed,R i L];refine and_congr_right λ_=> ?_
  constructor;rintro⟨o,V,h⟩;refine⟨o,V,λe M G=> ?_⟩;have:=h e M G;have aa:e.on<N:=by have:=d i o V e.on (Sy M G);omega
  rw[H,R _ aa] at this;rw[H];exact this;rintro⟨o,V,h⟩;refine⟨o,V,λe M G=> ?_⟩;have:=h e M G;have aa:e.on<N:=by have:=d i o V e.on (Sy M G);omega
  rw[H] at this;rw[H,R _ aa];exact this
 have a3:∀(X:Array Bool),X.size=N+1->X[N]?=U E->∃i,i∈um .any c X:=by
  intro X z v;have ab:∀i,i<N+1->X[i]?=U E->∃j,j∈um .any c X:=by
   intro i;induction i using QS with
   |_ i u=>
    intro bt hf;have V:c[i]?=U (c[i]' ae):=Ma ae;by_cases B:∀e∈jq (c[i]' ae),X.getD e E=J;exact⟨i,mem_ready.2 ⟨by rw[H,hf];rfl,_,V,λe M G=>B _ (Sy M G)⟩⟩;obtain⟨e,M,a4⟩:=Classical.not_forall.1 B|>.imp λe h=>Classical.not_imp.1 h
    have bg:=d i _ V e M;refine u e bg ae ?_;rw[Ma ae];rw[H,Ma ae] at a4;simpa using a4
  exact ab N ae v
 have ac:∀(X:Array Bool),(∀(j:Nat)(o:Oper),c[j]?=U o->X.getD j E=J->∀e∈jq o,X.getD e E=J)->N∈um .any c X->∀j,j<N->X.getD j E=true:=by
  intro X x R;obtain⟨-,o,V,B⟩:=mem_ready.1 R;have ab:∀k j,j<N->N<=j+k->X.getD j E=true:=by
   intro k;induction k with
   |zero=>intro j W O;omega
   |succ k u=>
    intro j W O;obtain⟨i,oi,a9,s,ba⟩:=bf j W;have af:i<N+1:=by rw[<-t];exact(lH.1 s).1
    by_cases L:i=N;subst L;rw[V] at s;cases s;obtain⟨e,M,G,rfl⟩:=W5 ba;exact B e M G;exact x i oi s (u i ae ae) j ba
  intro j hj;exact ab N j hj ae
 have bb:∀(X:Array Bool),X.size=N+1->(∀j,j<N->X.getD j E=J)->∀(A:Nat)(a:Act)(w:World),Q .normal a w->wpAnyIn F n P .any c Q A (X.setIfInBounds N J) a w:=by
  intro X z B A a w y;have q:um .any c (X.setIfInBounds N J)=[]:=by
   cases R:um .any c (X.setIfInBounds N J) with
   |nil=>rfl
   |cons i r=>
    exfalso;obtain⟨W,o,V,-⟩:=mem_ready.1 (show i∈um .any c (X.setIfInBounds N J) by rw[R];simp);have af:i<N+1:=by rw[<-t];exact(lH.1 V).1
    rw[E7 _ _ _ _ ae] at W;split at W;cases W;have O:=B i ae;rw[H] at W O;rw[Ma ae] at W O;simp at W O;rw[W] at O;cases O
  cases A with|zero=>exact⟨q,y⟩|succ f=>exact⟨λ_=>y,λi D=>by rw[q] at D;cases D⟩
 have bk:∀(listed X:Array Bool),(∀i,i<N->X[i]?=listed[i]?)->listed.size=N->(∀j,j<N->X.getD j E=J)->um .any init listed=[]:=by
  intro listed X R m B;cases y:um .any init listed with
  |nil=>rfl
  |cons i r=>
   exfalso;obtain⟨W,o,V,-⟩:=mem_ready.1 (show i∈um .any init listed by rw[y];simp);have L:i<N:=by rw[<-hi];exact(lH.1 V).1
   have O:=B i L;rw[H,R i L] at O;rw[H] at W;rw[Ma ae] at W O;simp at W O;rw[W] at O;cases O
 intro A;induction A with
 |zero=>
  intro listed X a w m z R v x h;obtain⟨q,y⟩:=h;refine⟨λh0=> ?_,λi D=> ?_⟩;obtain⟨i,W⟩:=a3 X z v;rw[h0] at W;cases W;have af:i<N+1:=by obtain⟨-,o,V,-⟩:=mem_ready.1 D;rw[<-t];exact(lH.1 V).1
  by_cases L:i=N;subst L;exact wpOpIn_mono (λa w ag=>bb X z (ac X x D) _ a w ag) y;have:=(a1 listed X i ae R).1 D;rw[q] at this;cases this
 |succ A u=>
  intro listed X a w m z R v x h;obtain⟨h0,W⟩:=h;refine⟨λbl=> ?_,λi D=> ?_⟩;obtain⟨i,W⟩:=a3 X z v;rw[bl] at W;cases W;obtain⟨-,o,V,B⟩:=mem_ready.1 D;have af:i<N+1:=by rw[<-t];exact(lH.1 V).1
  by_cases L:i=N;subst L;have y:=h0 (bk listed X R m (ac X x D));exact wpOpIn_mono (λa w ag=>bb X z (ac X x D) _ a w ag) y;have bc:i<N:=ae;have O:=W i ((a1 listed X i bc R).1 D);refine azq (by rw[g i bc];exact V) V (λj b br=>g j (bd i o V j b br)) (λa w hk=> ?_) O;refine u (listed.setIfInBounds i J) (X.setIfInBounds i J) a w (by simpa using m) (by simpa using z) (λj hj=> ?_) ?_ (λj oj al an e M=> ?_) hk;rw[QM,QM,R j hj];by_cases a0:i=j;subst a0;rw[aH rfl,aH rfl,aH ae,aH ae];rw[aP a0,aP a0];rw[QM,aP L];exact v;rw[E7 _ _ _ _ ae] at an⊢;split;rfl;split at an;rename_i a9;subst a9;rw[V] at al;cases al;obtain⟨ed,bs,G,rfl⟩:=W5 M;exact B ed bs G;exact x j oj al an e M
end
def azs{b:Bool}{c:dF}{o:Oper}(h:Ro b c=U o):∃N,c.size=N+1/\c[N]?=U o/\(∀(i:Nat)(o:Oper),c[i]?=U o->∀e∈jq o,e<i)/\
  (∀(i:Nat)(o:Oper),c[i]?=U o->∀j b,o.guard=U (j,b)->j<N)/\(∀j,j<N->∃(i:Nat)(o:Oper),j<i/\c[i]?=U o/\j∈jq o):=by
 unfold Ro at h;split at h;rename_i X;simp only[aC,ale,dl,gC,rN,ny] at X
 grind
 cases h
section
variable{p:Sp}{d:bv}
def azt{F:Fence}(hF:qB F)(q:jd p d){pc:vN}(a0:NA p d pc){D:bT}{B:jH}{yh:YH}(hY:qC p d D.dJ B yh){Q:Exit->Act->World->Prop}(HP:∀ch z A pd X,ef p.w0 D pd X z.defers A->p.R (.panicked ch) A->Q (.panic ch) z A)
  {hc:qj}(hH:Sf p d D B hc){c:dF}{id:Nat}{b:Bool}{o:Oper}{om:cN}{a:Act}{L:dm}{k:XE->S->T}(hB:B.lM l x y L)(a1:Ro b c=U o)
  (a3:EG c.pop (Y l.au)=U om)(a4:CD d c.pop.toList=J)(a9:CX c.pop pc)
  (h:(lJ d (uA d pc yh) c.pop (λG=>lJ d hc c (k .normal) (λv=>k (.bp v)) (fU (λ_=>E) J E (c.size-1) (Y G.au) [o]) G []) (λv=>k (.bp v)) om (l.vO c.pop om) []).aN p x L)(R:aA p.S0 p.w0 D d.ty y x l a e)(hg:eC d.gl x)
  (hk:∀G w u z A t,bB l x y G w u->cT l.ax L t->aA p.S0 p.w0 D d.ty u w G z A->(k .normal G).aN p w t->Q .normal z A)
  (ag:∀v G w u z A t,bB l x y G w u->cT l.ax L t->aA p.S0 p.w0 D d.ty u w G z A->(k (.bp v) G).aN p w t->Q (.panic [{v:=v.ai w u,recovered:=E}]) z A):
  (Code.region id c J).wpIn F N p.P Q a e:=by
 obtain⟨M,aa,ba,bb,bc,bd⟩:=azs a1;have hN:c.size-1=M:=ae;have al:c.pop.size=M:=by simp[aa]
 refine wpIn_region_any q.WT ?_;rw[aa];refine azr (init:=c.pop) al (λi g=>by rw[Array.getElem?_pop,aH ae]) aa bb bc bd M (QT M E) (QT (M+1) E) a _ aw aw (λi g=>by simp[g,Nat.lt_succ_of_lt g]) aw (λj oj _ hj=>by
  exfalso;rw[abX,aIG] at hj;split at hj<;>simp at hj) ?_
 have an:=aod (n:=N) (Q:=aeJ Q (wpOpIn F N p.P c Q M (Q .normal))) (k:=Rp (λG=>lJ d hc c (k .normal) (λv=>k (.bp v)) (fU (λ_=>E) J E (c.size-1) (Y G.au) [o]) G []) k) hF q a0 hY (λch z A pd X h1 h2=>HP ch z A pd X h1 h2) hB a3 a4 a9 h R hg
  (λG w u z A t r f R' hs=>by
   show wpOpIn F N p.P c Q M (Q .normal) z A;have k1:=A4 (ops:=c) q.pt q.zd hF q.kK hH HP (n:=N) (k:=k .normal) (kp:=λv=>k (.bp v)) (fU (λ_=>E) J E (c.size-1) (Y G.au) [o]) M G [] t w u z A
    (λi m' g=>by
     have hm:=Ko _ _ _ _ _ _ _ _ g;cases i with|zero=>simp at hm;rw[yR,ba,hm]|succ i=>simp at hm) (hB.go r f) hs (λH hx=>by cases hx) R' (hg.ext r.ext)
    (λs2 O2 V2 a2 W2 L2 ab ac R2 af=>hk s2 O2 V2 a2 W2 L2 (r.trans ab) (cT.trans (m:=G.ax) f ac r.ax) R2 af)
    (λv s2 O2 V2 a2 W2 L2 ab ac R2 af=>ag v s2 O2 V2 a2 W2 L2 (r.trans ab) (cT.trans (m:=G.ax) f ac r.ax) R2 af)
   rw[SF] at k1;simp only[ab1,List.range'_one,wpOpsIn_cons] at k1;exact k1)
  (λv G w u z A t r f R' hs=>ag v G w u z A t r f R' hs)
 rw[al] at an;exact an
end
section
variable{cf:bv}
section
variable{q:ar}{r:World}{D:bT}{V:ar}{O:aj}{s:S}{a:Act}{W:World}
theorem aeK{k:Int}:∀{R:bA}{Q:aq}{v:C},J3 k R Q=U v->v.gg O V=.mk (lx k R (C.az O V Q)) []
 |[],_,v,h=>by simp[J3] at h|F::R,[],v,h=>by simp[J3] at h
 |F::R,u::Q,v,h=>by
  unfold J3 at h;split at h;rename_i P N;injection P with M L;injection N with H G;subst M L H G;simp only[C.az,lx];split at h;rename_i X;cases h;rw[aH X,C.ai,aH (Wb _ _)];rfl;rename_i X;rw[aP X];exact aeK h;rename_i P N;injection P with M L;injection N with H G;subst M L H G;simp only[C.az,lx];split at h;rename_i X;cases h;rw[aH X];rfl;rename_i X;rw[aP X];exact aeK h;cases h
def aoD{x:Int}:∀{X:bA}{R:fy},¬x∈X->lx x X R=.nilFunc
 |[],_,_=>rfl|k::X,[],_=>rfl
 |k::X,v::R,h=>by
  simp at h;simp only[lx,aP h.1];exact aoD h.2
def aeL{e:K}{k:Int}(X:e.ai O=k):∀(n:Nat)(b:BE),(Rx e k n b).ai O=b.ai O
 |0,b=>rfl
 |n+1,b=>by
  unfold Rx;split;rfl;rename_i P N M x y R;cases R;split;rename_i Q;have:=K.bW _ _ Q;subst this;simp only[BE.ai,K.ai,fk,X,ge];split;exact aeL X n x;exact aeL X n y;rfl;rfl
def aeM{e:K}{k:Int}(X:e.ai O=k):∀(n:Nat)(b:K),(Ry e k n b).ai O=b.ai O
 |0,b=>rfl
 |n+1,b=>by
  unfold Ry;split;rfl;rename_i P N M x y R;cases R;split;rename_i Q;have:=K.bW _ _ Q;subst this;simp only[BE.ai,K.ai,fk,X,ge];split;exact aeM X n x;exact aeM X n y;rfl;rfl
def azu{e:K}{k:Int}(X:e.ai O=k)(v:C):(acO e k v).gg O V=v.gg O V:=by
 cases v<;>simp only[acO];simp only[C.gg,C.ai,aeM X];simp only[C.gg,C.ai,aeL X];rename_i Q P N;split;rename_i R;have:=K.bW _ _ R
 grind [aeK,C.gg,C.ai]
 rfl
def azv{e:K}{R:bA}(Q:¬e.ai O∈R)(v:C):(V7 e R v).gg O V=v.gg O V:=by
 cases v<;>simp only[V7];rename_i L P H;split;rename_i X;rw[aC] at X;have:=K.bW _ _ X.1;subst this;have N:¬e.ai O∈P:=λM=>Q (by
  have:=gC.1 X.2 _ M;exact Jq.1 this)
 simp only[C.gg,C.ai,aoD N];rfl;rfl
def azw{e:K}{v:Int}(h:e.ai O=v):∀y:C,(acP e v y).gg O V=y.gg O V:=λy=>by
 unfold acP;split;rename_i k x;split;rename_i X;have X:=K.bW _ _ X;subst X;simp only[C.gg,C.ai,K.ai,h];rfl;rfl
def aeN{f:C->C}{l:bm}:bP (J4 f l) N=U (k,t)<->∃gJ,bP l N=U (k,gJ)/\t=gJ.map f:=by
 grind [ku,J4,Ju,Jy]
def aoE{f:C->C}{l:bm}:aK (J4 f l) N=aK l N:=by
 rw[Jv];simp only[aK,jz];constructor;rintro⟨⟨t,X⟩,h⟩;obtain⟨gJ,h,-⟩:=aeN.1 h
 grind
 rintro⟨⟨t,X⟩,h⟩;exact⟨_,aeN.2 ⟨X,h,rfl⟩⟩
def aA.fix(R:aA q r D cf.ty V O s a W){f:C->C}(H:∀v,(f v).gg O V=v.gg O V):aA q r D cf.ty V O (s.fix f) a W:=by
 have Q:∀j,aK (s.fix f).au j=aK s.au j:=λj=>aoE
 refine⟨⟨R.mem.base,λj X=>R.mem.own j (by rw[<-Q];exact X),λj k X G=>R.mem.inj j k (by rw[<-Q];exact X) (by rw[<-Q];exact G),λj t w L=> ?_,λk e P N M=>⟨(R.mem.ak k e P N M).1,λb L j X=>(R.mem.ak k e P N M).2 b L j (by rw[<-Q];exact X)⟩⟩,by rw[R.gE];simp[S.fix,J4],R.ei,R.eb,R.er,R.dh,R.size,R.tmps,λk e P b F B A=> ?_⟩;obtain⟨gJ,h,rfl⟩:=aeN.1 L;have:C.bK O V (gJ.map f)=C.bK O V gJ:=by
  simp only[C.bK,oY];exact kF λv _=>H v
 rw[this];exact R.mem.box j t gJ h;obtain⟨N,M,z,y,x⟩:=R.eL k e P b F B A;exact⟨N,M,λj X=>z j (by rw[<-Q];exact X),y,x⟩
def aeO(f:C->C):bB s O V (s.fix f) O V:=⟨oK.refl _ _ _,λi h=>by rw[show aK (s.fix f).au i=aK s.au i from aoE];exact h,by simp[S.fix,J4],cd _⟩
def aA.azx(R:aA q r D cf.ty V O s a W){k:IntKind}{e:K}{v:Int}(H:s.tmps.getD N .any=.int k e)(Q:e.ai O=v):aA q r D cf.ty V O {s with tmps:=s.tmps.set N (.int k (.c v))} a W:=by
 refine⟨R.mem,R.gE,R.ei,R.eb,R.er,R.dh,by simpa using R.size,λi P h=> ?_,R.eL⟩;simp only[yO] at h;split at h;rename_i M;subst M;split at h;rename_i G;cases h;have L:s.tmps[N]?=U (.int k e):=by
  grind
 rcases R.tmps N _ L with X|X;cases X;right;rw[X];simp only[C.ai,K.ai,Q];cases h;exact R.tmps i P h
def Xj{p:Sp}{L:dm}{e:K}{gr:Int->S}{bz:T}{g:S->T}:∀{X:bA},(MM e gr bz g X).aN p O L->(∃k∈X,e.ai O=k/\(g (gr k)).aN p O L)\/(¬e.ai O∈X/\bz.aN p O L)
 |[],h=>.inr ⟨aw,h⟩
 |k::X,h=>by
  simp only[MM,T.aN] at h;by_cases R:e.ai O=k
  grind [BE.ai,K.ai,fk]
  rcases Xj (h.2 (by simp[BE.ai,K.ai,fk,R])) with⟨N,Q,P⟩|⟨Q,P⟩
  grind
  grind
def azy{p:Sp}{L:dm}(R:aA q r D cf.ty V O s a W){id:Nat}{e:K}{G:bA}{gr:Int->S}{bz:Option S}(X:V9 cf N id s=U (e,G,gr,bz)){g:S->T}(h:(MM e gr (acQ g bz) g G).aN p O L):
  ∃H,bB s O V H O V/\H.ax=s.ax/\aA q r D cf.ty V O H a W/\(g H).aN p O L:=by
 unfold V9 at X;split at X;split at X;cases X;rcases Xj h with⟨k,P,Q,M⟩|⟨P,Q⟩;exact⟨_,aeO _,rfl,R.fix (azu Q),M⟩;split at Q;exact⟨_,aeO _,rfl,R.fix (azv P),Q⟩;exact Q.elim;cases X;split at X;cases X;rename_i k B A F;cases X;rw[yW] at F;rcases Xj h with⟨k,P,Q,M⟩|⟨P,Q⟩;refine⟨_, ?_, ?_,R.azx F Q,M⟩;exact⟨oK.refl _ _ _,λ_ h=>h,cd _,cd _⟩;rfl;exact Q.elim;cases X;split at X;split at X;cases X;cases X;rcases Xj h with⟨k,P,Q,M⟩|⟨P,Q⟩;exact⟨_,aeO _,rfl,R.fix (azw Q),M⟩;exact Q.elim;cases X;cases X;cases X
end
def Xk:∀(n:Nat)(p:Sp)(_:jd p cf),A8 p cf n/\W9 p cf n
 |0,p,ok=>⟨λD B yh ro ac c s k L O V a W Q _ _ _ _ _ h=>h.elim,λD B yh ro ac c s k L O V a W Q _ _ _ _ _ _ h=>h.elim⟩
 |n+1,p,ok=>by
  have b7:=(Xk n p ok).2;have ih:=(Xk n p ok).1;have b0:∀p':Sp,p'.P=p.P->jd p' cf->A8 p' cf n:=λp' _ b8=>(Xk n p' b8).1
  have b1:=ayX ih b7;refine⟨?_,b1⟩;intro D B yh ro ac c s k L O V a W Q hY hB af a0 ag h R hg HP hk;have a3:∀e F,cT s.ax L F->(k e s).aN p O F->Q (e.to O V) a W:=λe F w A=>hk e s O V a W F (bB.refl _ _ _) w R A
  have h0:=h;unfold fO at h;split at h;exact vZ (n:=0) (wpIn_skip (a3 .normal L (cT.refl _ _) h));exact vZ (n:=0) (wpIn_label (a3 .normal L (cT.refl _ _) h));exact vZ (n:=0) (wpIn_ret (a3 .ret L (cT.refl _ _) h));rename_i id;exact vZ (n:=0) (wpIn_exit (a3 (.exit id) L (cT.refl _ _) h))
  
  rename_i x y;have a4:ro.isSome=J->kH x=false:=λhr=>by have:=a0 hr;simp only[kH,yN] at this;exact this.1
  have a9:ro.isSome=J->kH y=false:=λhr=>by have:=a0 hr;simp only[kH,yN] at this;exact this.2
  refine Kk (ih D B yh ro ac x s _ L O V a W _ hY hB af a4 ag h R hg (λch H G pd y hd hR=>HP ch H G pd y hd hR) ?_);intro e u O' V' H G F M w d A;cases e with|normal=>exact ih D B yh ro ac y u k F O' V' H G Q hY (hB.go M w) af a9 ag A d (hg.ext M.ext) HP (λe2 s2 O2 V2 a2 W2 L2 ab al R2 aa=>hk e2 s2 O2 V2 a2 W2 L2 (M.trans ab) (w.trans al M.ax) R2 aa)|ret=>exact hk .ret u O' V' H G F M w d A|exit id=>exact hk (.exit id) u O' V' H G F M w d A|bp v=>exact hk (.bp v) u O' V' H G F M w d A
  
  rename_i id x;refine ayI (ih D B yh ro ac x s _ L O V a W _ hY hB af (λhr=>by have:=a0 hr;simpa only[kH] using this) ag h R hg (λch H G pd y hd hR=>HP ch H G pd y hd hR) ?_);intro e u O' V' H G F M w d A;cases e with
  |normal=>exact hk .normal u O' V' H G F M w d A|ret=>exact hk .ret u O' V' H G F M w d A
  |exit j=>
   simp only[acz] at A;split at A;rename_i hj;have bb:j=id:=by simpa using hj
   subst bb;simp only[XE.to,Exit.inBlock,dN];exact hk .normal u O' V' H G F M w d A;rename_i hj;have bb:¬j=id:=by simpa using hj
   simp only[XE.to,Exit.inBlock,bb,jB];exact hk (.exit j) u O' V' H G F M w d A
  |bp v=>exact hk (.bp v) u O' V' H G F M w d A
  
  rename_i x;refine ayJ (ih D B yh ro ac x s _ L O V a W _ hY hB af (λhr=>by have:=a0 hr;simpa only[kH] using this) ag h R hg (λch H G pd y hd hR=>⟨λl h=>by(cases h),HP ch H G pd y hd hR⟩) ?_);intro e u O' V' H G F M w d A;exact⟨λl h=>(by cases e<;>cases h),hk e u O' V' H G F M w d A⟩
  
  rename_i x y z;have a9:ro.isSome=J->kH y=false:=λhr=>by have:=a0 hr;simp only[kH,yN] at this;exact this.1
  have b2:ro.isSome=J->kH z=false:=λhr=>by have:=a0 hr;simp only[kH,yN] at this;exact this.2
  split at h;rename_i hc;have he:=db R hg x (by rw[hc];rfl);rw[hc] at he;exact NC (t:=J) (by simpa[C.ai,BE.ai] using he) (ih D B yh ro ac y s k L O V a W Q hY hB af a9 ag h R hg HP hk);rename_i hc;have he:=db R hg x (by rw[hc];rfl);rw[hc] at he;exact NC (t:=E) (by simpa[C.ai,BE.ai] using he) (ih D B yh ro ac z s k L O V a W Q hY hB af b2 ag h R hg HP hk);rename_i b dx dy hc;have he:=db R hg x (by rw[hc];rfl);rw[hc] at he;split at h;rename_i t;simp only[S.ev,yW] at hc;simp only[T.aN] at h;have b3:∀v,B.lM {s with tmps:=s.tmps.set t v} O V L:=λv=>⟨⟨hB.later.ext,hB.later.mono,hB.later.len,hB.later.ax⟩,hB.Kg⟩
  cases hv:b.ai O;refine NC (t:=E) (by simpa[C.ai,hv] using he) (ih D B yh ro ac z _ k L O V a W Q hY (b3 _) af b2 ag (h.2 hv) (R.anl hc hv) hg HP ?_);exact λe2 s2 O2 V2 a2 W2 L2 ab al R2 aa=>hk e2 s2 O2 V2 a2 W2 L2 ⟨ab.ext,ab.mono,ab.len,ab.ax⟩ al R2 aa
  refine NC (t:=J) (by simpa[C.ai,hv] using he) (ih D B yh ro ac y _ k L O V a W Q hY (b3 _) af a9 ag (h.1 hv) (R.anl hc hv) hg HP ?_);exact λe2 s2 O2 V2 a2 W2 L2 ab al R2 aa=>hk e2 s2 O2 V2 a2 W2 L2 ⟨ab.ext,ab.mono,ab.len,ab.ax⟩ al R2 aa
  exact h.elim;exact h.elim
  
  rename_i id bc ca;split at h;rename_i e ks gr bz hf;obtain⟨u,M,bd,d,h'⟩:=azy R hf h;exact ih D B yh ro ac _ u k L O V a W Q hY (hB.go M (cT.refl _ _)) af a0 ag h' d hg HP (λe2 s2 O2 V2 a2 W2 L2 ab al R2 aa=>hk e2 s2 O2 V2 a2 W2 L2 (M.trans ab) (bd▸al) R2 aa);refine vZ (n:=0) ?_;split at h;rename_i hd;subst hd;split at h;rename_i o cc;split at h;rename_i om bf;split at h;exact h.elim;rename_i bg;exact azt (zv ro) ok (aog b0 ok) hY HP (Kq ok ih hY) hB cc bf (by simpa using bg) (aof _ _ _) h R hg (λu O' V' H G F M w d A=>hk .normal u O' V' H G F M w d A) (λv u O' V' H G F M w d A=>hk (.bp v) u O' V' H G F M w d A);exact h.elim;split at h;rename_i c bk;exact aoB (zv ro) ok ih hY HP hB bk h R hg (λu O' V' H G F M w d A=>hk .normal u O' V' H G F M w d A) (λv u O' V' H G F M w d A=>hk (.bp v) u O' V' H G F M w d A);split at h;rename_i om bf;split at h;exact h.elim;rename_i bg;exact ayW (zv ro) ok (aog b0 ok) hY HP hB bf (by simpa using bg) (aof _ _ _) h R hg (λu O' V' H G F M w d A=>hk .normal u O' V' H G F M w d A) (λv u O' V' H G F M w d A=>hk (.bp v) u O' V' H G F M w d A);split at h;rename_i c bk;exact aoB (zv ro) ok ih hY HP hB bk h R hg (λu O' V' H G F M w d A=>hk .normal u O' V' H G F M w d A) (λv u O' V' H G F M w d A=>hk (.bp v) u O' V' H G F M w d A);exact h.elim;rename_i hd;have cl:ca=false:=by simpa using hd
  subst cl;obtain⟨Rr,bl⟩:=R.room (mP bc.toList);refine wpIn_region ?_;have:=A4 (ops:=bc) ok.pt ok.zd (zv ro) ok.kK (ayY _ ok (Kq ok ih hY)) HP (n:=0) (fU (λ_=>E) J E 0 (Y s.au) bc.toList) 0 _ [] L O _ a W (λi m' hi=>by have:=Ko _ _ _ _ _ _ _ _ hi;simpa using this) (hB.go bl (cT.refl _ _)) h (λx hx=>by cases hx) Rr hg
   (λu O' V' H G F M w d A=>hk .normal u O' V' H G F (bl.trans M) w d A)
   (λv u O' V' H G F M w d A=>hk (.bp v) u O' V' H G F (bl.trans M) w d A)
  rw[SF] at this;simpa[Vk] using this
  
  rename_i x;have a4:ro.isSome=J->kH x=false:=λhr=>by have:=a0 hr;simpa only[kH] using this
  split at h;rename_i br dz;split at h;have M:bB s O V (s.de br) O V:=⟨(bB.refl s O V).ext,λi hi=>hi,cd _,cd _⟩;exact ih D B yh ro ac _ (s.de br) k L O V a W Q hY (hB.go M (cT.refl _ _)) af a0 ag h (R.lL (RQ _ _)) hg HP (λe2 s2 O2 V2 a2 W2 L2 ab al R2 aa=>hk e2 s2 O2 V2 a2 W2 L2 (M.trans ab) al R2 aa);obtain⟨an,cn⟩:∃an,an=br.at s:=⟨_,rfl⟩;rw[<-cn] at h;split at h;exact h.elim;rename_i hc;simp only[lu,jP,not_or,Mc] at hc;obtain⟨⟨⟨⟨⟨ce,co⟩,cp⟩,cs⟩,ct⟩,cu⟩:=hc;simp only[T.aN] at h;obtain⟨X,μ,cv,cx⟩:=h;refine ayK (λN a1 W1=>∃s1 O1 V1,bB s O V s1 O1 V1/\aA p.S0 p.w0 D cf.ty V1 O1 s1 a1 W1/\AO an (Code.pK x) 0 s.tmps s1.tmps=J/\ux an 0 s.au s1.au=J/\uy s1 an.ks (lw an s1)=J/\AN (jE an s) s1.rs=J/\JT (jE an s) (JS an s1)=J/\s1.pd=s.pd/\X ((lw an s1).map (C.xv O1))/\μ ((lw an s1).map (C.xv O1))=N)
   (μ ((lw an s).map (C.xv O))) ⟨s,O,V,bB.refl _ _ _,R,cp,cs,co,ct,cu,rfl,cv,rfl⟩ ?_
  rintro N a1 W1 ⟨s1,O1,V1,dX,R1,hT,cy,b4,cA,cB,cC,hI,rfl⟩;have RH:=aA.head (ty:=cf.ty) ce R.ei R.eb R.er dX R1 hT cy b4 cA cB cC;have cD:=cx _ (ad7 (O1:=O1) b4) hI;have bd:(rU an (Code.pK x) s).ax=s.ax+1:=(uG an.ks {s with ax:=s.ax+1,rs:=jE an s}).2.2.1;have bs:bB s O V (rU an (Code.pK x) s) (O.ext ((lw an s1).map (C.xv O1))) (V1.take (Y s.au)):=by
   obtain⟨e1,e2,e3,e4⟩:=uG an.ks {s with ax:=s.ax+1,rs:=jE an s};have hE:=CJ s.au O ((lw an s1).map (C.xv O1)) V;refine⟨⟨hE.agree,hE.li,hE.lb,hE.lr,λk b5=> ?_⟩,λi hi=> ?_,by simp[rU,WQ], ?_⟩;have bt:k<Y s.au:=by
    obtain⟨b,hb⟩:=jz.1 b5;exact(dq.1 (ku.1 hb)).1
   rw[E0 bt];exact dX.ext.ad k b5;unfold aK at hi⊢;simp only[rU];rw[Sm];simpa using hi;simp only[rU];rw[e3];exact Nat.le_succ _
  have cO:∀m,cT s.ax L (⟨s.ax,X,μ,m⟩::L):=λm l bt=>by
   simp only[pj];rw[aP ae]
  refine ih D B yh ro ac x _ _ _ _ _ a1 W1 _ hY (hB.go bs (cO _)) af a4 ag cD RH (hg.ext bs.ext) (λch H G pd y hd hR=>HP ch H G pd y hd hR) ?_;intro e s2 O2 V2 a2 W2 L2 ab al R2 aa;have ba:=bs.trans ab;rw[bd] at al;have bx:cT s.ax L L2:=λl bt=>by
   rw[al l ae];simp only[pj];rw[aP ae]
  cases e with
  |normal=>
   simp only[V4] at aa;split at aa;rename_i b6;simp only[aC,dl] at b6;obtain⟨⟨⟨⟨⟨c1,c2⟩,c3⟩,c4⟩,c5⟩,c6⟩:=b6;have cW:pj s.ax L2=U ⟨s.ax,X,μ,μ ((lw an s1).map (C.xv O1))⟩:=by
    rw[al s.ax ae];simp[pj]
   simp only[T.aN,cW] at aa;exact⟨_,aa.2,s2,O2,V2,ba,R2,c1,c2,c3,c4,c5,c6,aa.1,rfl⟩;exact aa.elim
  |ret=>exact hk .ret s2 O2 V2 a2 W2 L2 ba bx R2 aa|exit id=>exact hk (.exit id) s2 O2 V2 a2 W2 L2 ba bx R2 aa|bp v=>exact hk (.bp v) s2 O2 V2 a2 W2 L2 ba bx R2 aa
  rename_i c0;exact anX (n+1) (b1 D B yh ro ac x s k L O V a W Q hY hB af a4 ag (λan=>c0 an) h0 R hg HP hk)
  
  rename_i f ps assign body;have c7:ro=none:=by
   cases ro with|none=>rfl|some l=>have:=a0 rfl;simp[kH] at this
  subst c7;split at h;rename_i g bC c8;split at h;rename_i c nt c9;split at h;exact h.elim;rename_i hc;simp only[lu,jP,not_or,Mc,akQ] at hc;obtain⟨⟨⟨⟨⟨dc,dd⟩,df⟩,dk⟩,dn⟩,dr⟩:=hc;obtain⟨dT,ds⟩:=ag;exact azp ok ih ds af c8 c9 dc dd df dk dn dr h hY hB R hg HP hk;exact h.elim;exact h.elim;exact h.elim
variable{p:Sp}
def azz{Q:aj}{P:ar}:∀{l N:aq},C.az x y l=C.az Q P N->(one l).ai x y=(one N).ai Q P
 |[],[],_=>rfl
 |[X],[R],h=>by
  have h:C.ai x y X=C.ai Q P R:=by simpa[C.az] using h
  exact h
 |[],_::_,h=>by simp[C.az] at h|_::_,[],h=>by simp[C.az] at h|[_],_::_::_,h=>by simp[C.az] at h|_::_::_,[_],h=>by simp[C.az] at h
 |a::b::c,M::L::H,h=>by
  show Value.tuple (C.az x y (a::b::c)).toArray=Value.tuple (C.az Q P (M::L::H)).toArray;rw[h]
def aoF(X:bo):SL (X.map RK.rd):=by
 intro k e h;rw[eo] at h;cases R:X[k]? with|none=>rw[R] at h;cases h|some x=>rw[R] at h;cases x<;>simp[RK.rd] at h
def azA{D:bT}{a:Act}{L:dm}(H:p.ty=cf.ty)(R:aA p.S0 p.w0 D cf.ty y x l a e)(M:(RA cf N t l).aN p x L)(o:qX p.w0.heap.size p.S0=p.S0):p.R (.returned ((one t).ai x y)) e:=by
 unfold RA at M;split at M;rename_i z;simp only[aC] at z;obtain⟨⟨⟨ac,af⟩,n⟩,m⟩:=z;have G:∀i,aK ([]:bm) i=J->False:=λi P=>by simp[aK,bS] at P
 have h:=R.mem.lL (NI l.rs);have g:aA p.S0 p.w0 D cf.ty [] x (sR x (l.rs.map RK.rd) l.pd) ⟨#[],a.defers⟩ e:=
  ⟨⟨R.mem.base,λi P=>(G i P).elim,λi j P=>(G i P).elim,λi X w P=>by simp[sR,bS] at P,λk Q v F f=>⟨(h.ak k Q v F f).1,λb _ i P=>(G i P).elim⟩⟩,rfl,rfl,rfl,by simp[sR,R.er],R.dh,rfl,λX sv c=>by simp[sR] at c,λk Q v b F=>bE F (aoF _ k Q)⟩
 have ce:=R.zo n;obtain⟨l',ag,B,R3,u,_,d,h3⟩:=Xi (a:=⟨#[],a.defers⟩) (aeI (bx:=l.au) (O0:=x) (V:=y) H rfl (λi Q w aa=>by
  obtain⟨A,ab⟩:=AU aa;have:=R.mem.box i Q w A;rw[qz ab] at this;exact⟨this,by rw[o];exact R.mem.own i (by simp[aK,A]),sZ ce.2 A⟩) 9) t (l.rs.map RK.rd) x _ g (Up.refl _) (aoF _) (by rw[R.ei,R.eb,R.er];exact m) M
 have h4:=h3 B.y [] e (by rw[H];exact R3.mem);have h5:(one l').ai B []=(one t).ai x y:=azz (d B (Up.refl _));rw[<-h5];exact h4;exact M x.y y _ (by rw[H];exact(R.mem.take _).lL (NI _))
def Kr(X:jd p cf)(n:Nat):A8 p cf n/\W9 p cf n:=Xk n p X
def aoG(w:jd p cf){H:Func}{c:Code}(k:p.P.funcs[v]?=U H)(hb:H.body=U c)
  (ht:RC cf N v c H.ntmps H.results.toList t l=b)(L:b.aN p x [])(hg:eC cf.gl x)(R:aA p.S0 p.w0 bT.none cf.ty y x {l with tmps:=[]} ⟨#[],[]⟩ p.w0)(hS:qX p.w0.heap.size p.S0=p.S0:=by exact rfl):
  Calls p.P v (C.az x y t).toArray p.w0 p.R:=by
 subst ht;refine Kl k hb ?_;have RE:=R.enter t H.ntmps R.dh;refine(Kr w N).1 bT.none ⟨{l with tmps:=t++ee (H.ntmps-Y t) (.bI [])},x,y,[]⟩ iB Z v c _ _ [] x y _ p.w0 _ (E8 _ _) (jH.here _ _ _ _) rfl (λhh=>by cases hh) ⟨H,k⟩ L RE hg ?_ ?_;intro j G u pd X hA hR;obtain⟨ab,B,q0,o,A⟩:=hA.mw;show LeavesInM Fence.wide 0 p.P H G.tmps p.R G.defers (.panicking j) u;rw[B];exact sa aw (xl.1 o).1 (λd F=>(A d (by simp[F])).1) (SE (w.WU j) (λd F=>(A d (by simp[F])).2) hR);intro e i h V' G u L' hl hL g L;obtain⟨ab,B,q0,o,A⟩:=g.dh.mw;have m:=g.ri B;have aa:∀Q,uw cf i H.results.toList=U Q->(RA cf (Y l.au) Q i).aN p h L'->LeavesInM Fence.wide 0 p.P H G.tmps p.R G.defers .returning u:=by
  intro Q z L;rw[B];exact sa aw (xl.1 o).1 (λd F=>(A d (by simp[F])).1) ⟨_,Kh m w.kK z,azA w.pt m L hS⟩
 cases e with
 |normal=>
  simp only[Wa] at L;split at L;rename_i Q z;exact aa Q z L;exact L.elim
 |ret=>
  simp only[Wa] at L;split at L;rename_i Q z;exact aa Q z L;exact L.elim
 |bp M=>
  show LeavesInM Fence.wide 0 p.P H G.tmps p.R G.defers (.panicking _) u;rw[B];exact sa aw (xl.1 o).1 (λd F=>(A d (by simp[F])).1) (L h.y V' _ m.mem.base)
 |exit id=>exact L.elim
end
def zEq:Value->CT->Bool
 |.int k n,.int X=>decide (k=X)&&n==0|.bool b,.bool=> !b|v,.bz z _=>JH v z|_,_=>E
def NK:fy->eJ->Bool
 |[],[]=>J|v::X,c::W=>zEq v c&&NK X W|_,_=>E
def aoI:∀(W:fy)(V:eJ),NK W V=J->W=V.map rY
 |[],[],_=>rfl|[],_::_,h=>by simp[NK] at h|_::_,[],h=>by simp[NK] at h
 |v::W,c::V,h=>by
  simp only[NK,aC] at h;rw[dG,<-aoI W V h.2];congr 1;have X:=h.1;unfold zEq at X;split at X;simp at X;obtain⟨rfl,rfl⟩:=X;rfl;rename_i b;cases b;rfl;cases X;exact alv _ _ X;cases X
def NL:List Field->List (Nat×TypeId)->Bool
 |[],[]=>J|f::X,x::W=>f.offset==x.1&&f.type==x.2&&NL X W|_,_=>E
def aoJ:∀(X:List Field)(W:List (Nat×TypeId)),NL X W=J->X.map (λf=>(f.offset,f.type))=W
 |[],[],_=>rfl|[],_::_,h=>by simp[NL] at h|_::_,[],h=>by simp[NL] at h
 |f::X,x::W,h=>by
  simp only[NL,aC,ge] at h;rw[dG,aoJ X W h.2,h.1.1,h.1.2]
def aeP(am:eJ):TD->Option TypeDesc->Bool
 |.struct V,U (.struct F)=>NL F.toList V|.arr n e,U (.array R X)=>n==R&&e==X|.slice e,U (.slice X)=>e==X|.str,U .string=>J|.gH,U (.interface _)=>J|.map k e _ _,U (.map W X)=>k==W&&e==X
 |.one,U (.int k)=>match am with|[.int W]=>decide (k=W)|_=>E
 |.one,U .bool=>match am with|[.bool]=>J|_=>E
 |.one,U (.pointer _)|.one,U (.map _ _)|.one,U (.chan _ _)=>match am with|[.bz .nilFunc _]=>E|[.bz _ _]=>J|_=>E
 |.one,U (.func _ _ _)=>match am with|[.bz _ _]=>J|_=>E
 |_,_=>E
def azB{P:Program}{am:eJ}{d:TD}(h:aeP am d (P.underlying k)=J):d.Ok P k am:=by
 unfold aeP at h;split at h;rename_i M F V;exact⟨F,V,aoJ _ _ h⟩;rename_i n e L Q V;simp at h;obtain⟨rfl,rfl⟩:=h;exact V;rename_i e Q V;simp at h;subst h;exact V;rename_i V;exact V;rename_i m V;exact⟨m,V⟩;rename_i X e n H N Q V;simp at h;obtain⟨rfl,rfl⟩:=h;exact V;rename_i X V;split at h;rename_i N;simp at h;subst h;exact⟨_,V,⟨trivial,λX W=>(by cases W)⟩,λX W=>(by cases W;rfl),λW=>(by cases W)⟩;cases h;rename_i V;split at h;exact⟨_,V,⟨trivial,λX W=>(by cases W)⟩,λX W=>(by cases W),λW=>rfl⟩;cases h;rename_i x V;split at h;cases h;rename_i z O R;exact⟨_,V,⟨trivial,λX W=>(R (by cases W;rfl)).elim⟩,λX W=>(by cases W),λW=>(by cases W)⟩;cases h;rename_i x y V;split at h;cases h;rename_i z O R;exact⟨_,V,⟨trivial,λX W=>(R (by cases W;rfl)).elim⟩,λX W=>(by cases W),λW=>(by cases W)⟩;cases h;rename_i x y V;split at h;cases h;rename_i z O R;exact⟨_,V,⟨trivial,λX W=>(R (by cases W;rfl)).elim⟩,λX W=>(by cases W),λW=>(by cases W)⟩;cases h;rename_i x y z V;split at h;exact⟨_,V,⟨trivial,λX W=>⟨_,_,_,rfl⟩⟩,λX W=>(by cases W),λW=>(by cases W)⟩;cases h;cases h
def aeQ(P:Program)(t:TypeId)(X:TI):Bool:=
 match P.info? t with
 |U i=>match i.zero with|U z=>decide (i.bytes<=131072)&&i.size==Y X.am&&NK z.cells.toList X.am&&aeP X.am X.d (P.underlying t)&&(Wf z==X.d.isAgg)|none=>E
 |none=>E
def azC{P:Program}{W:TI}(h:aeQ P k W=J)(H:W.eq=J->∀(V R:fy)(r:Bool)(x y:Operand)(w:World),lK W.am V->lK W.am R->kJ V R=U r->
  (do eqGuard .eql k x y (.agg V.toArray) (.agg R.toArray);binOp .eql k (.agg V.toArray) (.agg R.toArray)).run P w=.ok (.bool r) w/\
  (do eqGuard .neq k x y (.agg V.toArray) (.agg R.toArray);binOp .neq k (.agg V.toArray) (.agg R.toArray)).run P w=.ok (.bool !r) w)(G:∀X e n N,W.d=.map X e n N->vU P X n N):eY P k W:=by
 unfold aeQ at h;split at h;rename_i i O;split at h;rename_i z M;simp at h;obtain⟨h,F⟩:=h;exact⟨⟨i,O,h.1.1.2,z,M,aoI _ _ h.1.2⟩,azB h.2,λj Q=>(by rw[O] at Q;cases Q;exact h.1.1.1),H,G,λj D Q L=>(by rw[O] at Q;cases Q;rw[M] at L;cases L;exact F)⟩;cases h;cases h
def aoK{X:Type}(l:List (Option X))(i:Nat):Option X:=AG (motive:=λ_=>Nat->Option X) (λ_=>Z) (λx _ W t=>Jz (motive:=λ_=>Option X) x (λm _=>W m) t) l i
def aeR{X:Type}(l:List (List X))(i:Nat):List X:=AG (motive:=λ_=>Nat->List X) (λ_=>[]) (λx _ W t=>Jz (motive:=λ_=>List X) x (λm _=>W m) t) l i
def look{X:Type}(l:List (List (Option X)))(t:Nat):Option X:=aoK (aeR l (t/16)) (t%16)
def aoL{X:Type}{x:X}:∀{l:List (Option X)}{i:Nat},aoK l i=U x->l[i]?=U (U x)
 |[],_,h=>by cases h|y::_,0,h=>by simp only[Cd];exact jY U h|_::l,i+1,h=>by rw[vz];exact aoL (l:=l) h
def aoM{X:Type}:∀(l:List (List X))(i:Nat),l[i]?=U (aeR l i)\/aeR l i=[]
 |[],_=>.inr rfl|_::_,0=>.inl rfl|_::l,i+1=>by rw[vz];exact aoM l i
def Ks{W:Type}(X:Nat->W->Bool):Nat->List (Option W)->Bool
 |_,[]=>J|n,Z::r=>Ks X (n+1) r|n,U x::r=>X n x&&Ks X (n+1) r
def Ht{X:Type}(W:Nat->X->Bool):Nat->List (List (Option X))->Bool
 |_,[]=>J|n,r::V=>Ks W n r&&Ht W (n+16) V
def aeS{W:Type}{V:Nat->W->Bool}:∀{r:List (Option W)}{n i:Nat}{x:W},Ks V n r=J->r[i]?=U (U x)->V (n+i) x=J
 |[],n,i,x,_,h=>by simp at h|Z::r,n,0,x,_,h=>by simp at h
 |Z::r,n,i+1,x,X,h=>by
  simp only[Ks] at X;have:=aeS X (by simpa using h)
  grind
 |U y::r,n,0,x,X,h=>by simp[Ks] at X;simp at h;subst h;exact X.1
 |U y::r,n,i+1,x,X,h=>by
  simp only[Ks,aC] at X;have:=aeS X.2 (by simpa using h)
  grind
def aoN{W:Type}{R:Nat->W->Bool}:∀{l:List (List (Option W))}{n q i:Nat}{r:List (Option W)}{x:W},Ht R n l=J->l[q]?=U r->r[i]?=U (U x)->R (n+16*q+i) x=J
 |[],n,q,i,r,x,_,h,_=>by simp at h|y::l,n,0,i,r,x,X,h,V=>by simp only[Ht,aC] at X;simp at h;subst h;simpa using aeS X.1 V
 |y::l,n,q+1,i,r,x,X,h,V=>by
  simp only[Ht,aC] at X;have:=aoN X.2 (by simpa using h) V
  grind
def aoO{X:Type}{W:Nat->X->Bool}{l:List (List (Option X))}(h:Ht W 0 l=J){x:X}(R:look l N=U x):W N x=true:=by
 have Q:=aoL R;rcases aoM l (N/16) with V|V;have:=aoN h V Q
 grind
 grind
def aeT(P:Program)(l:ar)(g:FuncId):Option (Code×Nat×nD):=if l.contains g then(match P.funcs[g]? with
 |U X=>match X.body with|U c=>U (c,X.ntmps,X.results.toList)|none=>Z
 |none=>Z) else Z
def uJ(P:Program)(g:Nat):Bool:=match P.funcs[g]? with
 |U X=>X.body.isSome&& !(X.name== "runtime.NumGoroutine")
 |none=>E
def xM{P:Program}(h:uJ P N=J):∀X W,(callFunc N X).run P W=.ok (.enter N X) W:=by
 unfold uJ at h;split at h;rename_i V R;simp only[aC,jP] at h;intro X W;have Q:V.name≠ "runtime.NumGoroutine":=by simpa using h.2
 obtain⟨c,O⟩:=jz.1 h.1;simp[callFunc,R,Q,O];cases h
def azD(X:AH)(f i:Nat):Option FK:=match X.find? (λx=>x.1==f&&(x.2%1000==i&&decide (1000<=x.2))) with|U x=>if x.2/1000==1 then U .box else if x.2/1000<100 then U (.slot (x.2/1000-2) [0,1,2,3]) else if x.2/1000<200 then U (.slot (x.2/1000-102) [0,1,2,3,4]) else U (.cell ((x.2/1000-200)/20) ((x.2/1000-200)%20) [1,2,3,4,5,6,7,8,9])|none=>Z
def nN(P:Program)(kK:List (List vC))(W:List (List mg))(V:nY)(R:ar)(loops:List (Nat×Nat×fG))(Q:yV)(jC:Bool:=E)(X:AH:=[]):bv:=
 {ty:=look kK,gl:=V,inl:=aeT P R,sig:=look W,loop:=λf i=>match loops.find? (λx=>x.1==f&&x.2.1==i) with|U x=>.inv x.2.2|none=>.aws,zd:=λf g=>(Q.find? λx=>x.1==f&&x.2.1==g).map (·.2.2),jC:=jC,JK:=λf i=>X.contains (f,i),frk:=λf i=>azD X f i,lay:=ax0}
def NM{P:Program}{kK:List (List vC)}{H:List (List mg)}{F:nY}{loops:List (Nat×Nat×fG)}{N:yV}{jC:Bool}{B:AH}{A:ar}{D:bT}{R:Ending->World->Prop}{Q:Exit->Act->World->Prop}
  (z:ju P (look kK))(w:Ht (λg _=>uJ P g) 0 H=J)(v:y.all (uJ P)=J)(u:P.follows .mixedOrders=J)(t:∀G W b o,e.heap.size<=b->R (.panicked G) W->R (.panicked G) (W.putObj b o))(s:∀x∈N,nK P (look kK) x.1 x.2.1 x.2.2.1 x.2.2.2.1 x.2.2.2.2):jd ⟨P,look kK,A,e,D,R,Q⟩ (nN P kK H F y loops N jC B):=by
 refine⟨rfl,u,z,λf g X p n h=> ?_,λg V=> ?_,t,λg c m l h=> ?_⟩;simp only[nN] at h;cases O:N.find? (λx=>x.1==f&&x.2.1==g) with
 |none=>rw[O] at h;cases h
 |some x=>
  rw[O] at h;simp at h;have M:=ab8 O;simp at M;have:=s x (Vg O);rw[M.1,M.2,h] at this;exact this
 rcases V with V|V;obtain⟨k,r⟩:=jz.1 V;exact xM (aoO w r);obtain⟨x,L⟩:=jz.1 V;simp only[nN,aeT] at L;split at L;rename_i q;exact xM (gC.1 v g (Jq.1 q));cases L;simp only[nN,aeT] at h
 grind
section
inductive dL:RV->RV->Prop where
 |sl (A A':Option Addr) (len cap cap':Nat) (rows aF:List (List RV)) (h1:Y rows=Y aF) (h2:∀(i:Nat)(row row':List RV),rows[i]?=U row->aF[i]?=U row'->Y row=Y row')
   (h3:∀(i j:Nat)(row row':List RV)(c c':RV),rows[i]?=U row->aF[i]?=U row'->row[j]?=U c->row'[j]?=U c'->dL c c'):dL (.mk (.slice A len cap) rows) (.mk (.slice A' len cap') aF)
 |val (v:Value) (rows:List (List RV)) (h:∀a l c,v≠ .slice a l c):dL (.mk v rows) (.mk v rows)
def NN:XV->XV->Prop
 |.i n,.i m=>n=m|.b x,.b y=>x=y|.r v,.r w=>dL v w|_,_=>False
def xN:aZ->aZ->Prop
 |[],[]=>True|x::X,y::W=>NN x y/\xN X W|_,_=>False
structure j6(O O':aj):Prop where
 i:O.i=O'.i
 b:O.b=O'.b
 len:Y O.r=Y O'.r
 r:∀(k:Nat)(v v':RV),O.r[k]?=U v->O'.r[k]?=U v'->dL v v'
def dL.refl:∀(v:RV),dL v v
 |.mk v V=>by
  by_cases h:∃a l c,v=.slice a l c;obtain⟨a,l,c,rfl⟩:=h;refine dL.sl a a l c c V V rfl (λi P O W X=>by rw[W] at X;cases X;rfl) (λi j P O x M W X R Q=> ?_);rw[W] at X;cases X;rw[R] at Q;cases Q;exact dL.refl x;exact dL.val v V (λa l c N=>h ⟨a,l,c,N⟩)
termination_by v=>SizeOf.sizeOf v
decreasing_by
 have L:=aIO (jA W);have H:=aIO (jA R);simp only[RV.mk.sizeOf_spec];omega
def dL.default:dL default default:=dL.refl _
theorem j6.rv{O X:aj}(h:j6 O X)(k:Nat):dL (O.rv k) (X.rv k):=by
 unfold aj.rv;simp;cases W:O.r[k]? with
 |none=>
  have:X.r[k]?=none:=by rw[Ej] at W⊢;have:=h.len;omega
  rw[this];exact dL.default
 |some v=>
  cases V:X.r[k]? with|none=>rw[Ej] at V;have:=(dq.1 W).1;have:=h.len;omega|some R=>exact h.r k v R W V
theorem dL.aQ{v W:RV}(h:dL v W)(i:Int)(j:Nat):dL (Y.aQ v.ah i j) (Y.aQ W.ah i j):=by
 cases h with
 |sl A M L H G V aF F O D=>
  simp only[Y.aQ,RV.mR,dA];cases R:V[i.toNat]? with
  |none=>
   have:aF[i.toNat]?=none:=by rw[Ej] at R⊢;omega
   rw[this];exact dL.default
  |some Q=>
   obtain⟨X,P⟩:∃X,aF[i.toNat]?=U X:=by
    grind
   rw[P];simp;have B:=O _ Q X R P;cases N:Q[j]? with
   |none=>
    have:X[j]?=none:=by rw[Ej] at N⊢;omega
    rw[this];exact dL.default
   |some c=>
    grind
 |val v V z=>exact dL.refl _
theorem dL.bn{v X:RV}(h:dL v X):Y.bn v.val=Y.bn X.val/\Y.jr v.val=Y.jr X.val/\lenOf v.val=lenOf X.val/\(∀i,G3 v.val i=G3 X.val i)/\(∀w,xB v.val w=xB X.val w)/\∀w,xB w v.val=xB w X.val:=by
 cases h with
 |sl A V R Q P W aF=>exact⟨rfl,rfl,rfl,λ_=>rfl,λ_=>rfl,λw=>by cases w<;>rfl⟩
 |val v W O=>exact⟨rfl,rfl,rfl,λ_=>rfl,λ_=>rfl,λ_=>rfl⟩
theorem dL.cH{v M:RV}(h:dL v M)(k:RK):dL (Y.cH k v) (Y.cH k M):=by
 cases h with
 |sl A X W V R Q aF P O N=>
  cases k with|sl e=>exact dL.sl A X W V R Q aF P O N|str=>exact dL.refl _|bz=>exact dL.sl A X W V R [] [] rfl (λi L H q=>by simp at q) (λi j L H c G q=>by simp at q)|own e=>exact dL.sl A X W V R Q aF P O N|aT=>exact dL.sl A X W V R Q aF P O N|mr F=>exact dL.sl A X W V R Q aF P O N
 |val v Q D=>exact dL.refl _
structure fY(rows aF:av):Prop where
 len:Y rows=Y aF
 row:∀(i:Nat)(row row':aE),rows[i]?=U row->aF[i]?=U row'->Y row=Y row'
 cell:∀(i j:Nat)(row row':aE)(c c':RV),rows[i]?=U row->aF[i]?=U row'->row[j]?=U c->row'[j]?=U c'->dL c c'
def dL.NO{v R:RV}(h:dL v R):fY v.ah R.ah:=by
 cases h with|sl A M L H G P aF W X V=>exact⟨W,X,V⟩|val v P F=>exact⟨rfl,λi O N W X=>by rw[W] at X;cases X;rfl,λi j O N c D W X V Q=>by rw[W] at X;cases X;rw[V] at Q;cases Q;exact dL.refl _⟩
def pu(X W:aE):Prop:=Y X=Y W/\∀(j:Nat)(c V:RV),X[j]?=U c->W[j]?=U V->dL c V
def fY.cons{r X:aE}{O N:av}(h:fY (r::O) (X::N)):pu r X/\fY O N:=
 ⟨⟨h.row 0 r X rfl rfl,λj c W=>h.cell 0 j r X c W rfl rfl⟩,by simpa using h.len,λi V R Q P=>h.row (i+1) V R (by simpa using Q) (by simpa using P),λi j V R c W Q P=>h.cell (i+1) j V R c W (by simpa using Q) (by simpa using P)⟩
def fY.Hu{r Q:aE}{P O:av}(h:pu r Q)(k:fY P O):fY (r::P) (Q::O):=by
 refine⟨by simp[k.len],λi V R X W=> ?_,λi j V R c N X W=> ?_⟩;cases i with|zero=>simp at X W;subst X W;exact h.1|succ i=>exact k.row i V R (by simpa using X) (by simpa using W)
 cases i with|zero=>simp at X W;subst X W;exact h.2 j c N|succ i=>exact k.cell i j V R c N (by simpa using X) (by simpa using W)
def pu.getD{W X:aE}(h:pu W X)(j:Nat):dL (W.getD j Inhabited.default) (X.getD j Inhabited.default):=by
 simp;cases V:W[j]? with
 |none=>
  have:X[j]?=none:=by rw[Ej] at V⊢;have:=h.1;omega
  rw[this];exact dL.refl _
 |some c=>
  obtain⟨R,Q⟩:∃R,X[j]?=U R:=by
   have:j<Y W:=(dq.1 V).1;exact⟨X[j]'(by have:=h.1;omega),dB _⟩
  rw[Q];exact h.2 j c R V Q
def pu.ints{W X:aE}(h:pu W X)(n:Nat):(W.take n).map (λc=>Y.bn c.val)=(X.take n).map λc=>Y.bn c.val:=by
 apply kS;intro j;simp only[eo,pI];split;cases V:W[j]? with
 |none=>
  have:X[j]?=none:=by rw[Ej] at V⊢;have:=h.1;omega
  rw[this]
 |some c=>
  obtain⟨R,Q⟩:∃R,X[j]?=U R:=by
   have:j<Y W:=(dq.1 V).1;exact⟨X[j]'(by have:=h.1;omega),dB _⟩
  rw[Q];simp only[gc,(h.2 j c R V Q).bn.1]
 rfl
theorem pu.mj{X W:aE}(h:pu X W)(n:Nat)(V:bA):Y.mj n V X=Y.mj n V W:=by
 simp only[Y.mj,h.ints n]
def Xl{n:Nat}{ks:bA}:∀{X aF:av},fY X aF->(mo n ks X=Z/\mo n ks aF=Z)\/∃W V,mo n ks X=U W/\mo n ks aF=U V/\pu W V
 |[],[],_=>.inl ⟨rfl,rfl⟩|[],_::_,h=>by have:=h.len;simp at this|_::_,[],h=>by have:=h.len;simp at this
 |r::O,Q::N,h=>by
  obtain⟨R,P⟩:=h.cons;simp only[mo,av3,<-R.mj n ks];cases Y.mj n ks r with|true=>exact .inr ⟨r,Q,rfl,rfl,R⟩|false=>exact Xl P
def aoP{n:Nat}{X W:aE}(h:pu X W):∀{V aF:av},fY V aF->fY (iD n X V) (iD n W aF)
 |[],[],k=>fY.Hu h k|[],_::_,k=>by have:=k.len;simp at this|_::_,[],k=>by have:=k.len;simp at this
 |r::P,O::N,k=>by
  obtain⟨R,Q⟩:=k.cons;simp only[iD,h.ints n,<-R.mj n];split;exact fY.Hu h Q;exact fY.Hu R (aoP h Q)
mutual
def K.dM{O X:aj}(h:j6 O X):∀e:K,e.ai O=e.ai X
 |.c n=>rfl|.v k=>by simp only[K.ai,h.i]|.bin o k a b=>by simp only[K.ai,K.dM h a,K.dM h b]|.conv k a=>by simp only[K.ai,K.dM h a]|.len r=>by simp only[K.ai];exact(RE.dM h r).bn.2.2.1|.mm m a b=>by simp only[K.ai,K.dM h a,K.dM h b]|.dv b x y=>by simp only[K.ai,BE.dM h b,K.dM h x,K.dM h y]|.cell r i j=>by simp only[K.ai,K.dM h i];exact((RE.dM h r).aQ _ j).bn.1|.o7 r i=>by simp only[K.ai,K.dM h i];exact(RE.dM h r).bn.2.2.2.1 _
 |.look r n a b c j=>by
  simp only[K.ai,K.dM h a,K.dM h b,K.dM h c];rcases Xl (n:=n) (ks:=[a.ai X,b.ai X,c.ai X]) (RE.dM h r).NO with⟨W,V⟩|⟨Q,P,W,V,R⟩
  grind
  rw[W,V];exact(R.getD j).bn.1
def BE.dM{O X:aj}(h:j6 O X):∀e:BE,e.ai O=e.ai X
 |.c n=>rfl|.v k=>by simp only[BE.ai,h.b]|.cmp o a b=>by simp only[BE.ai,K.dM h a,K.dM h b]|.not a=>by simp only[BE.ai,BE.dM h a]|.and a b=>by simp only[BE.ai,BE.dM h a,BE.dM h b]|.beq a b=>by simp only[BE.ai,BE.dM h a,BE.dM h b]|.dv b x y=>by simp only[BE.ai,BE.dM h b,BE.dM h x,BE.dM h y]|.cell r i j=>by simp only[BE.ai,K.dM h i];exact((RE.dM h r).aQ _ j).bn.2.1|.seq a b=>by simp only[BE.ai];rw[(RE.dM h a).bn.2.2.2.2.1,(RE.dM h b).bn.2.2.2.2.2]
 |.look r n a b c j=>by
  simp only[BE.ai,K.dM h a,K.dM h b,K.dM h c];rcases Xl (n:=n) (ks:=[a.ai X,b.ai X,c.ai X]) (RE.dM h r).NO with⟨W,V⟩|⟨Q,P,W,V,R⟩
  grind
  rw[W,V];exact(R.getD j).bn.2.1
 |.has r n a b c=>by
  simp only[BE.ai,K.dM h a,K.dM h b,K.dM h c];rcases Xl (n:=n) (ks:=[a.ai X,b.ai X,c.ai X]) (RE.dM h r).NO with⟨W,V⟩|⟨Q,P,W,V,R⟩
  grind
  grind
def RE.dM{O X:aj}(h:j6 O X):∀r:RE,dL (r.rv O) (r.rv X)
 |.v k=>by simp only[RE.rv];exact h.rv k|.cell r i j k=>by simp only[RE.rv,K.dM h i];exact((RE.dM h r).aQ _ j).cH k|.k v=>by simp only[RE.rv];exact dL.refl _
end
def C.azE{X:aj}(h:j6 x X)(v:C):NN (v.xv x) (v.xv X):=by
 cases v<;>simp only[C.xv,NN];exact K.dM h _;exact BE.dM h _;exact RE.dM h _
def C.azF{X:aj}(h:j6 x X)(v:C):dL (v.cg x) (v.cg X):=by
 cases v<;>simp only[C.cg];rw[K.dM h];exact dL.refl _;rw[BE.dM h];exact dL.refl _;exact RE.dM h _
 all_goals exact dL.refl _
def fY.of{R aF:av}(O:Y R=Y aF)(h:∀(i:Nat)(X W:aE),R[i]?=U X->aF[i]?=U W->Y X=Y W/\∀(j:Nat)(c V:RV),X[j]?=U c->W[j]?=U V->dL c V):fY R aF:=
 ⟨O,λi X W Q P=>(h i X W Q P).1,λi j X W c V Q P=>(h i X W Q P).2 j c V⟩
def Xm{V:aj}(h:j6 x V)(l:aq):(l.map (C.cg x)).length=(l.map (C.cg V)).length/\∀(j:Nat)(c R:RV),(l.map (C.cg x))[j]?=U c->(l.map (C.cg V))[j]?=U R->dL c R:=by
 refine⟨aw,λj c R X W=> ?_⟩;rw[eo] at X W;cases Q:l[j]? with
 |none=>rw[Q] at X;cases X
 |some v=>
  rw[Q] at X W;simp at X W;rw[<-X,<-W];exact C.azF h v
def aoQ:∀{O N R Q:aE}{P:Nat},Y O=Y N->(∀(j:Nat)(c X:RV),O[j]?=U c->N[j]?=U X->dL c X)->Y R=Y Q->(∀(j:Nat)(c X:RV),R[j]?=U c->Q[j]?=U X->dL c X)->
  (gf R P O).length=(gf Q P N).length/\∀(j:Nat)(c X:RV),(gf R P O)[j]?=U c->(gf Q P N)[j]?=U X->dL c X
 |[],[],R,Q,P,_,_,M,L=>⟨M,L⟩|[],_::_,_,_,_,h,_,_,_=>by simp at h|_::_,[],_,_,_,h,_,_,_=>by simp at h
 |v::O,D::N,R,Q,P,G,H,M,L=>by
  simp only[gf];refine aoQ (by simpa using G) (λj c X W V=>H (j+1) c X (by simpa using W) (by simpa using V)) (by simp[M]) (λj c X W V=> ?_);rw[yO] at W V;split at W;rename_i F;rw[aH F] at V;split at W;split at V;cases W;cases V;exact H 0 _ _ rfl rfl;cases V;cases W
  grind
def LE.dM{O F:aj}(h:j6 O F):∀x:LE,fY (x.ah O) (x.ah F)
 |.ak r=>(RE.dM h r).NO
 |.lit l=>by
  simp only[LE.ah];refine fY.of aw (λi R Q X W=> ?_);rw[eo] at X W;cases D:l[i]? with
  |none=>rw[D] at X;cases X
  |some v=>
   rw[D] at X W;simp at X W;rw[<-X,<-W];exact Xm h v
 |.iA a b=>by
  simp only[LE.ah];have V:=LE.dM h a;have H:=LE.dM h b;refine fY.of (by simp[V.len,H.len]) (λi R Q X W=> ?_);by_cases L:i<(a.ah O).length;rw[fT L] at X;rw[fT (by rw[<-V.len];exact L)] at W;exact⟨V.row i R Q X W,λj c P=>V.cell i j R Q c P X W⟩;rw[jl ae] at X;rw[jl (by rw[<-V.len];omega),<-V.len] at W;exact⟨H.row _ R Q X W,λj c P=>H.cell _ j R Q c P X W⟩
 |.xp n R=>by
  simp only[LE.ah,K.dM h n];refine fY.of aw (λi r u X W=> ?_);rw[Vh] at X W;split at X;rename_i L;rw[aH L] at W;cases X;cases W;exact Xm h R;cases X
 |.set a i t G=>by
  simp only[LE.ah,K.dM h i];have V:=LE.dM h a;have B:=Xm h G;refine fY.of (by simp[V.len]) (λs R Q X W=> ?_);rcases Nf X with⟨rfl,A,N,rfl⟩|⟨y,N⟩;rcases Nf W with⟨_,z,M,rfl⟩|⟨y,_⟩;exact aoQ B.1 B.2 (V.row _ A z N M) (λj c P=>V.cell _ j A z c P N M);omega;rcases Nf W with⟨rfl,_⟩|⟨_,M⟩;omega;exact⟨V.row _ R Q N M,λj c P=>V.cell _ j R Q c P N M⟩
 |.sub a w L=>by
  simp only[LE.ah,K.dM h w,K.dM h L];have V:=LE.dM h a;refine fY.of (by simp[V.len]) (λi R Q X W=> ?_);have N:=(Wv X).1;have M:=(Wv W).1;exact⟨V.row _ R Q N M,λj c P=>V.cell _ j R Q c P N M⟩
 |.ins a n G=>by
  simp only[LE.ah];exact aoP (Xm h G) (LE.dM h a)
def aoR{V:aj}(h:j6 x V)(X:LE){A:oZ}:dL (gu X x) (.mk (.slice A (X.ah V).length N) (X.ah V)):=by
 have W:=LE.dM h X;unfold gu;rw[W.len];exact dL.sl _ _ _ _ _ _ _ W.len W.row W.cell
theorem j6.add{O R:aj}(h:j6 O R){x y:XV}(X:NN x y):j6 (O.add x) (R.add y):=by
 cases x<;>cases y<;>simp only[NN] at X;subst X;exact⟨by simp[aj.add,h.i],h.b,h.len,h.r⟩;subst X;exact⟨h.i,by simp[aj.add,h.b],h.len,h.r⟩;refine⟨h.i,h.b,by simp[aj.add,h.len],λk v P W V=> ?_⟩;simp only[aj.add] at W V;by_cases Q:k<Y O.r;rw[fT Q] at W;rw[fT (by rw[<-h.len];exact Q)] at V;exact h.r k v P W V
 grind [h.len]
def j6.ext:∀{W V:aZ}{O R:aj},j6 O R->xN W V->j6 (O.ext W) (R.ext V)
 |[],[],_,_,h,_=>h|[],_::_,_,_,_,X=>X.elim|_::_,[],_,_,_,X=>X.elim|x::W,y::V,_,_,h,X=>(h.add X.1).ext X.2
inductive aX where
 |ret (xs:List XV)
 |bp (v:Value)
abbrev jR:=Option aX
abbrev my:=FuncId->aZ->jR
def NP:LK->XV->Bool
 |.int _,.i _=>J|.bool,.b _=>J|.ak _,.r _=>J|_,_=>E
def fA:aL->aZ->Bool
 |[],[]=>J|k::X,x::W=>NP k x&&fA X W|_,_=>E
def CZ(X:Ty)(W:bo):LK->C->Bool
 |.int k,.int V _=>decide (k=V)|.bool,.bool _=>J
 |.ak e,.ak r=>match e with|.mr R=>r.pJ X ⟨[],[],0,0,W,0,0,[]⟩ R|e=>r.fits X ⟨[],[],0,0,W,0,0,[]⟩ e.rd
 |_,_=>E
def iQ(X:Ty)(W:bo):aL->aq->Bool
 |[],[]=>J|k::V,v::R=>CZ X W k v&&iQ X W V R|_,_=>E
def gv(W:Ty):iX->aq->Es
 |[],[]=>U []
 |t::V,v::R=>match W t,gv W V R with
  |U X,U r=>if X.d.isAgg then(match v with|.agg l=>if Y l==Y X.am then U (l++r) else Z|_=>Z) else(if Y X.am==1 then U (v::r) else Z)
  |_,_=>Z
 |_,_=>Z
def uK(n:Nat):C->aq
 |.bI l=>if n==1 then[.bI l] else l|v=>[v]
def Kt(O:aj):C->Option Value
 |.gH t (.int k e)=>U (.iface t (.int k (e.ai O)))|_=>Z
structure Fr where
 ax:Nat
 ks:aL
 t:T
 O:aj
 rs:bo
def Ku(ax:Nat):List Fr->Option (Fr×List Fr)
 |[]=>Z|x::X=>if x.ax=ax then U (x,X) else Ku ax X
def gj:aL->bo
 |[]=>[]|.ak e::X=>e::gj X|_::X=>gj X
def lA:Nat->Nat->Nat->aL->aq->Bool
 |_,_,_,[],[]=>J|a,b,c,.int k::X,.int W (.v n)::l=>decide (k=W)&&n==a&&lA (a+1) b c X l|a,b,c,.bool::X,.bool (.v n)::l=>n==b&&lA a (b+1) c X l|a,b,c,.ak _::X,.ak (.v n)::l=>n==c&&lA a b (c+1) X l|_,_,_,_,_=>E
def Xn:RK->RK->Bool
 |_,.aT=>J|.own t,.sl X=>decide (t=X)|.sl t,.sl X=>decide (t=X)|.str,.str=>J|.bz,.bz=>J|.mr a,.mr b=>decide (a=b)|_,_=>E
def E9:bo->bo->Bool
 |[],[]=>J|x::X,y::W=>Xn x y&&E9 X W|_,_=>E
def aoS:RK->RK->Bool
 |.own t,.own X=>decide (t=X)|x,y=>Xn x y
def Fa:bo->bo->Bool
 |[],[]=>J|x::X,y::W=>aoS x y&&Fa X W|_,_=>E
def aeU(X:Ty)(W:iX)(v:C)(R:bo)(O:aj):jR:=match gv X W (uK (Y W) v),fH X W with|U l,U V=>if iQ X R V l&&mQ V then U (.ret (l.map (C.xv O))) else Z|_,_=>Z
def aeV(X:Ty)(P N:FuncId->mg)(f:FuncId)(M:aq)(L:bo)(V:aL)(fz:C)(O:aj):Option aZ:=match Nn P f,No N f with
 |U R,U W=>match gv X R M,fH X R,fH X W,gv X W (uK (Y W) (My fz)) with|U l,U Q,U H,U r=>if iQ X L Q l&&mQ Q&&decide (H=V)&&lA (Y O.i) (Y O.b) (Y O.r) V r then U (l.map (C.xv O)) else Z|_,_,_,_=>Z
 |_,_=>Z
def aeW(X:bo)(r:RE)(e:TypeId):Bool:=match r with|.v k=>decide (X[k]?=U (.own e))|.k (.slice Z 0 0)=>J|_=>E
def aeX:RK->Bool
 |.mr _=>J|_=>E
def pu.key{x y:aE}(h:pu x y)(c:Nat):aI c x=aI c y:=(h.getD c).bn.1
def aoT{d:Bool}{x W y V:aE}(R:pu x W)(Q:pu y V):∀X:ar,jF d X x y=jF d X W V
 |[]=>rfl|c::X=>by simp only[jF,R.key,Q.key,aoT R Q X]
def aeY{X:bu}{x W y V:aE}(R:pu x W)(Q:pu y V):X.lt x y=X.lt W V:=by
 cases X with|lex P d=>exact aoT R Q P|ratio n d=>simp only[bu.lt,R.key,Q.key]|dE k o O=>rfl
def azG{X:bu}{x W:aE}(V:pu x W):X.ok x=X.ok W:=by
 cases X with|lex R d=>rfl|ratio n d=>simp only[bu.ok,V.key]|dE k o Q=>rfl
def fY.Xo{r:av}(h:fY [] r):r=[]:=by cases r with|nil=>rfl|cons x X=>have:=h.len;simp at this
def aoU{V:bu}{x R:aE}(X:pu x R):∀{l W:av},fY l W->fY (fh V.lt x l) (fh V.lt R W)
 |[],W,h=>by have P:=h.Xo;subst P;exact fY.Hu X h|y::l,[],h=>by have:=h.len;simp at this
 |y::l,N::W,h=>by
  obtain⟨Q,O⟩:=h.cons;simp only[fh,aeY X Q];split;exact fY.Hu X h;exact fY.Hu Q (aoU X O)
def aoV{R:bu}:∀{l W:av}{acc X:av},fY l W->fY acc X->fY (l.foldl (λacc x=>fh R.lt x acc) acc) (W.foldl (λacc x=>fh R.lt x acc) X)
 |[],W,acc,X,h,V=>by rw[h.Xo];exact V|y::l,[],acc,X,h,V=>by have:=h.len;simp at this
 |y::l,O::W,acc,X,h,V=>by
  obtain⟨Q,P⟩:=h.cons;simp;exact aoV P (aoU Q V)
def aeZ{f g:aE->Bool}:∀{l X:av},(∀x W,pu x W->f x=g W)->fY l X->l.all f=X.all g
 |[],X,_,h=>by rw[h.Xo];rfl|y::l,[],_,h=>by have:=h.len;simp at this
 |y::l,P::X,V,h=>by
  obtain⟨R,Q⟩:=h.cons;simp only[Vv,V _ _ R,aeZ V Q]
def aoW{X:bu}:∀{l W:av},fY l W->vT X.lt l=vT X.lt W
 |[],W,h=>by rw[h.Xo]|y::l,[],h=>by have:=h.len;simp at this
 |y::l,V::W,h=>by
  obtain⟨R,Q⟩:=h.cons;have O:(l.all λz=>X.lt y z||X.lt z y)=W.all λz=>X.lt V z||X.lt z V:=aeZ (λx N P=>by rw[aeY R P,aeY P R]) Q
  simp only[vT,aoW Q,O]
def aoX{sp:bu}{V:Bool}{l R r:av}(h:fY l R)(X:iu sp V l=U r):∃Q,iu sp V R=U Q/\fY r Q:=by
 cases sp with
 |dE k o L=>simp[iu] at X
 |_=>
  simp only[iu] at X⊢;rw[aeZ (λx H P=>azG P) h,aoW h,h.len] at X;split at X;rename_i O;cases X;rw[aH O];exact⟨_,rfl,aoV h ⟨rfl,λi N M W=>by simp at W,λi j N M c G W=>by simp at W⟩⟩;cases X
def fY.getD{l X:av}(h:fY l X)(i:Nat):pu (l.getD i []) (X.getD i []):=by
 simp;cases V:l[i]? with
 |none=>
  have:X[i]?=none:=by rw[Ej] at V⊢;have:=h.len;omega
  rw[this];exact⟨rfl,λj c W R=>by simp at R⟩
 |some c=>
  obtain⟨W,Q⟩:∃W,X[i]?=U W:=by
   have:i<Y l:=(dq.1 V).1;exact⟨X[i]'(by have:=h.len;omega),dB _⟩
  rw[Q];exact⟨h.row i c W V Q,λj x P R O=>h.cell i j c W x P V Q R O⟩
def fY.set{x X:aE}(W:pu x X):∀{l V:av}(_:fY l V)(i:Nat),fY (l.set i x) (V.set i X)
 |[],[],h,_=>h|[],_::_,h,_=>by have:=h.len;simp at this|_::_,[],h,_=>by have:=h.len;simp at this|r::R,Q::P,h,0=>fY.Hu W h.cons.2|r::R,Q::P,h,i+1=>fY.Hu h.cons.1 (fY.set W h.cons.2 i)
def ae0{l X:av}(h:fY l X):∀(n:Nat)(i:Int),fY (sT n i l) (sT n i X)
 |0,_=>h
 |n+1,i=>by
  simp only[sT,<-(h.getD i.toNat).key 0];split;exact h;exact fY.set ((ae0 h n _).getD _) (ae0 h n _) _
def azH{l X:av}(h:fY l X):mu l=mu X:=by
 have e:(λk=>decide (0<=aI 0 (l.getD k []))&&decide (aI 0 (l.getD k [])<=k))=λk:Nat=>decide (0<=aI 0 (X.getD k []))&&decide (aI 0 (X.getD k [])<=k):=by
  funext k;rw[(h.getD k).key 0]
 unfold mu;rw[e,h.len]
def azI{R:aj}(Q:j6 x R)(W:bu)(V:Bool)(l:av):oJ x W V l=oJ R W V l:=by
 cases W with
 |lex P d=>rfl|ratio n d=>rfl
 |dE k o X=>
  cases V with
  |false=>rfl
  |true=>
   cases X with
   |nil=>rfl
   |cons i X=>
    cases X with|nil=>simp only[oJ,K.dM Q i]|cons j X=>rfl
def aoY{Q:aj}(M:j6 x Q){V:bu}{R:Bool}{l P r:av}(h:fY l P)(X:oJ x V R l=U r):∃N,oJ Q V R P=U N/\fY r N:=by
 cases V with
 |lex L d=>exact aoX (sp:=.lex L d) h X|ratio n d=>exact aoX (sp:=.ratio n d) h X
 |dE k o W=>
  cases R with
  |false=>simp[oJ] at X
  |true=>
   cases W with
   |nil=>simp[oJ] at X
   |cons i W=>
    cases W with
    |nil=>
     simp only[oJ,xC] at X⊢;rw[h.len,azH h,K.dM M i] at X;split at X;rename_i H;cases X;rw[aH H];exact⟨_,rfl,ae0 h _ _⟩;cases X
    |cons j W=>simp[oJ] at X
def dL.eF{a b:RV}(h:dL a b){M:aj}(L:j6 x M){W:bu}{V:Bool}{R Q:av}(X:oJ x W V a.ah=U R)(P:oJ M W V b.ah=U Q):dL (.mk a.val R) (.mk b.val Q):=by
 obtain⟨y,H,N⟩:=aoY L h.NO X;rw[P] at H;cases H;cases h with
 |sl A G F D B z aF w u t=>exact dL.sl A G F D B R Q N.len N.row N.cell
 |val v z s=>
  rw[RV.mR] at X P;rw[azI L W V,P] at X;cases X;exact dL.refl _
def azJ{Q:Ty}{W:RV}{R:av}(V:dU Q (.own k) (.mk W.val R) N)(P:∀x∈R,x∈W.ah):dU Q (.own k) W N:=by
 obtain⟨v,O⟩:=W;simp at V P;cases V with
 |own k W N V=>
  refine dU.own k _ N ?_;generalize M:RV.mk v R=W at V;cases V with
  |here k a L H aF=>cases M;exact dU.here k a L H O
  |deep k u aF i j G c z X N F D B A=>
   cases M;obtain⟨y,w⟩:=sJ (P _ (jA F));exact dU.deep k v O y j G c z X N w D B A
mutual
def Xp:RV->RV->Bool
 |.mk v X,.mk W aF=>(match v,W with|.int k a,.int V b=>decide (k=V)&&a==b|.bool a,.bool b=>a==b|.string a,.string b=>decide (a=b)|.slice Z a b,.slice Z c d=>a==c&&b==d|_,_=>E)&&NQ X aF
def NQ:av->av->Bool
 |[],[]=>J|r::X,W::V=>NR r W&&NQ X V|_,_=>E
def NR:aE->aE->Bool
 |[],[]=>J|c::X,W::V=>Xp c W&&NR X V|_,_=>E
end
def SM:XV->XV->Bool
 |.i a,.i b=>a==b|.b a,.b b=>a==b|.r a,.r b=>Xp a b|_,_=>E
def SN:aZ->aZ->Bool
 |[],[]=>J|x::X,y::W=>SM x y&&SN X W|_,_=>E
def aoZ:Value->Value->Bool
 |.iface t (.int k a),.iface X (.int W b)=>t==X&&decide (k=W)&&a==b|_,_=>E
def Xq:aX->aX->Bool
 |.ret a,.ret b=>SN a b|.bp a,.bp b=>aoZ a b|_,_=>E
mutual
def ao0:∀(a b:RV),Xp a b=J->a=b
 |.mk v X,.mk W aF,h=>by
  simp only[Xp,aC] at h;have V:=ao1 X aF h.2
  grind
def ao1:∀(a b:av),NQ a b=J->a=b
 |[],[],_=>rfl|[],_::_,h=>by simp[NQ] at h|_::_,[],h=>by simp[NQ] at h
 |r::X,W::V,h=>by
  simp only[NQ,aC] at h;rw[ao2 r W h.1,ao1 X V h.2]
def ao2:∀(a b:aE),NR a b=J->a=b
 |[],[],_=>rfl|[],_::_,h=>by simp[NR] at h|_::_,[],h=>by simp[NR] at h
 |r::X,W::V,h=>by
  simp only[NR,aC] at h;rw[ao0 r W h.1,ao2 X V h.2]
end
def azK:∀(a b:XV),SM a b=J->a=b
 |.i a,b,h=>by cases b<;>simp[SM] at h;rw[h]
 |.b a,b,h=>by cases b<;>simp[SM] at h;rw[h]
 |.r a,b,h=>by cases b<;>simp[SM] at h;rw[ao0 _ _ h]
def ao3:∀(a b:aZ),SN a b=J->a=b
 |[],b,h=>by cases b<;>simp[SN] at h;rfl
 |x::X,b,h=>by cases b<;>simp[SN] at h;rw[azK _ _ h.1,ao3 _ _ h.2]
def azL:∀(a b:aX),Xq a b=J->a=b
 |.ret a,b,h=>by cases b<;>simp[Xq] at h;rw[ao3 _ _ h]
 |.bp a,b,h=>by
  cases b<;>simp[Xq] at h;rename_i v;unfold aoZ at h
  grind
open Classical in
def Bb(a b:aX):Bool:=Xq a b||decide (a=b)
def Hv(o:aX):Bb o o=true:=by simp[Bb]
theorem azM(a b:aX)(h:Bb a b=J):a=b:=by
 simp only[Bb,lu,dl] at h;exact h.elim (azL a b) id
def C0:jR->jR->jR
 |U a,U b=>if Bb a b then U a else Z|_,_=>Z
def wb:List jR->jR
 |[]=>Z|[o]=>o|o::X=>C0 o (wb X)
def Xr{a b:jR}{o:aX}(h:C0 a b=U o):a=U o/\b=U o:=by
 unfold C0 at h
 grind [azM]
def Xs:∀{l:List jR}{o:aX},wb l=U o->∀x∈l,x=U o
 |[],o,h=>by simp[wb] at h|[x],o,h=>by simp only[wb] at h;intro y W;simp at W;rw[W];exact h
 |x::y::r,o,h=>by
  simp only[wb] at h;obtain⟨V,R⟩:=Xr h;intro z X;rcases eu.1 X with rfl|X;exact V;exact Xs (l:=y::r) R z X
def ao4{a b X W:jR}{o:aX}(h:C0 a b=U o)(V:a=U o->X=U o)(R:b=U o->W=U o):C0 X W=U o:=by
 obtain⟨Q,P⟩:=Xr h
 grind
def ao5{X:Type}{l:List X}{f g:X->jR}{o:aX}(h:wb (l.map f)=U o)(V:∀x∈l,f x=U o->g x=U o):wb (l.map g)=U o:=by
 rw[<-h];congr 1;refine kF λx W=> ?_
 have:=Xs h (f x) (fw.2 ⟨x,W,rfl⟩)
 grind
def xO(m:K)(g h:BE)(O:aj):List (Option Int):=(((dj (m.ai O).toNat).map λ(j:Nat)=>(j:Int)).filter λj=>g.ai (O.add (.i j))).map U++(if h.ai O then[Z] else[])
def ae1{m:K}{g h:BE}{j:Int}(W:0<=j)(V:j<m.ai x)(X:g.ai (x.add (.i j))=J):U j∈xO m g h x:=by
 simp only[xO,fg,fw,qg,rN];exact .inl ⟨j,⟨⟨j.toNat,ae,ae⟩,X⟩,rfl⟩
def ae2{m:K}{g h:BE}(X:h.ai x=J):Z∈xO m g h x:=by
 simp[xO,X]
def run(V:Ty)(R Q:FuncId->mg)(bh:my)(P:iX):Nat->T->aj->bo->List Fr->jR
 |0,_,_,_,_=>Z|n+1,.ret v _ N,O,X,_=>if E9 X N then aeU V P v N O else Z|n+1,.bp v,O,_,_=>(Kt O v).map .bp|n+1,.aJ b t f,O,X,W=>if b.ai O then run V R Q bh P n t O X W else run V R Q bh P n f O X W|n+1,.aS b t,O,X,W=>if b.ai O then run V R Q bh P n t O X W else Z
 |n+1,.call f H D N M fz t,O,X,W=>if E9 X N&&Np V f H D fz then(match aeV V R Q f H N M fz O with
   |U B=>match bh f B with|U (.ret G)=>if fA M G then run V R Q bh P n t (O.ext G) (X++gj M) W else Z|U (.bp v)=>U (.bp v)|none=>Z
   |none=>Z) else Z
 |n+1,.loop ax M F t,O,X,W=>if iQ V X M F then run V R Q bh P n t (O.ext (F.map (C.xv O))) (X++gj M) (⟨ax,M,t,O,X++gj M⟩::W) else Z
 |n+1,.back ax x,O,X,W=>match Ku ax W with|U (L,A)=>if iQ V X L.ks x then run V R Q bh P n L.t (L.O.ext (x.map (C.xv O))) L.rs (L::A) else Z|none=>Z
 |n+1,.ah k x _ t,O,X,W=>if aeX k then run V R Q bh P n t (O.add (.r (gu x O))) (X++[k]) W else Z|n+1,.gr g h t f,O,X,W=>if g.ai O then(if h.ai O then C0 (run V R Q bh P n t O X W) (run V R Q bh P n f O X W) else run V R Q bh P n t O X W) else(if h.ai O then run V R Q bh P n f O X W else Z)
 |n+1,.pick m g h t f,O,X,W=>wb ((xO m g h O).map λj=>match j with|U j=>run V R Q bh P n t (O.add (.i j)) X W|none=>run V R Q bh P n f O X W)
 |n+1,.eF _ _ e z y r N t,O,X,W=>if Fa X N&&aeW X r e then(match oJ O z y (r.rv O).ah with|U w=>run V R Q bh P n t (O.add (.r (.mk (r.rv O).val w))) (X++[.own e]) W|none=>Z) else Z
 |n+1,.new e x N _ t,O,X,W=>if Fa X N then run V R Q bh P n t (O.add (.r (gu x O))) (X++[.own e]) W else Z|_,_,_,_,_=>Z
end
def SO{X:World}(h:fl [] e X):Below e.heap.size e X:=⟨h.os,h.tape,h.output,h.size,λk W=>h.block k W aw⟩
def nO:aL->aZ->fy
 |k::X,x::W=>x.at k::nO X W|_,_=>[]
def qD(ty:Ty):iX->fy->fy
 |[],_=>[]
 |t::W,l=>match ty t with|U X=>(if X.d.isAgg then .agg (l.take (Y X.am)).toArray else l.getD 0 undef)::qD ty W (l.drop (Y X.am))|none=>[]
def xP:fy->Value
 |[v]=>v|l=>.tuple l.toArray
def Xt{ty:Ty}:∀{X:iX}{W l:aq},gv ty X W=U l->Y X=Y W
 |[],[],l,_=>rfl|[],_::_,l,h=>by simp[gv] at h|_::_,[],l,h=>by simp[gv] at h
 |t::X,v::W,l,h=>by
  simp only[gv] at h;split at h;rename_i R r Q V;simp[Xt V];cases h
def NS{ty:Ty}{O:aj}{V:ar}:∀{X:iX}{W l:aq},gv ty X W=U l->C.az O V W=qD ty X (C.az O V l)
 |[],[],l,_=>rfl|[],_::_,l,h=>by simp[gv] at h|_::_,[],l,h=>by simp[gv] at h
 |t::X,v::W,l,h=>by
  simp only[gv] at h;split at h;rename_i H r Q N;have M:=NS (O:=O) (V:=V) N;simp only[qD,Q];split at h;rename_i L;rw[aH L];split at h;rename_i F;split at h;rename_i R;simp at R;cases h;rw[G4,<-R,av7 aw,Vt aw,<-M];simp only[C.az,C.ai];cases h;cases h
  grind [C.az,Js]
  cases h
def ae3{ty:Ty}{R:iX}{v:C}(h:gv ty R (uK (Y R) v)=U t):v.ai x y=xP (qD ty R (C.az x y t)):=by
 have Q:=Xt h;rw[<-NS h];cases v
 case bI L=>
  simp only[uK] at Q⊢;by_cases N:Y R==1;simp[N,C.az,xP];simp only[N,jB,iW] at Q⊢;have M:Y L≠1:=by rw[<-Q];simpa using N
  match L,M with|[],_=>simp[C.az,xP,C.ai]|[X],M=>simp at M|X::W::z,_=>simp[C.az,xP,C.ai]
 all_goals simp[uK,C.az,xP]
def azN{ty:Ty}{O:aj}{V:ar}{k:LK}{v:C}(h:CZ ty g k v=J):v.ai O V=(v.xv O).at k/\qw k (v.xv O):=by
 unfold CZ at h;split at h;rename_i k X e;simp at h;subst h;exact⟨rfl,trivial⟩;exact⟨rfl,trivial⟩;exact⟨rfl,trivial⟩;cases h
def Fb{ty:Ty}{W:bo}{O:aj}{V:ar}:∀{X:aL}{l:aq},iQ ty W X l=J->C.az O V l=nO X (l.map (C.xv O))/\dK X (l.map (C.xv O))
 |[],[],_=>⟨rfl,trivial⟩|[],_::_,h=>by simp[iQ] at h|_::_,[],h=>by simp[iQ] at h
 |k::X,v::l,h=>by
  simp only[iQ,aC] at h;obtain⟨R,Q⟩:=azN (O:=O) (V:=V) h.1;obtain⟨N,M⟩:=Fb (O:=O) (V:=V) h.2;exact⟨by simp only[C.az,dG,nO,R,N],Q,M⟩
def azO{W:aL}{X:aZ}(h:fA W X=J):dK W X:=by
 induction W generalizing X with
 |nil=>cases X with|nil=>trivial|cons=>simp[fA] at h
 |cons k W V=>cases X with
  |nil=>simp[fA] at h
  |cons x X=>
   simp only[fA,aC] at h;refine⟨?_,V h.2⟩;cases k<;>cases x<;>first|trivial|simp[NP] at h
def SQ:∀{X:aL}{W V:aZ},dK X V->xN W V->dK X W
 |[],[],[],_,_=>trivial|[],_::_,[],_,h=>h.elim|[],_,_::_,h,_=>h.elim|_::_,_,[],h,_=>h.elim|_::_,[],_::_,_,h=>h.elim
 |k::X,x::W,y::V,h,R=>by
  refine⟨?_,SQ h.2 R.2⟩;have Q:=h.1;have O:=R.1;cases k<;>cases x<;>cases y<;>simp_all[qw,NN]
def Kv{O X:aj}(h:j6 O X):∀l:aq,xN (l.map (C.xv O)) (l.map (C.xv X))
 |[]=>trivial|v::l=>⟨C.azE h v,Kv h l⟩
def Kw{V:ar}:∀{W:aL}{l:aq}{X:aZ}{O:aj}{a b c:Nat},lA a b c W l=J->dK W X->Y O.i=a->Y O.b=b->Y O.r=c->C.az (O.ext X) V l=nO W X
 |[],[],[],O,a,b,c,_,_,_,_,_=>rfl|[],[],_::_,O,a,b,c,_,h,_,_,_=>h.elim|[],_::_,X,O,a,b,c,h,_,_,_,_=>by simp[lA] at h|k::W,[],X,O,a,b,c,h,_,_,_,_=>by cases k<;>simp[lA] at h
 |_::_,_::_,[],O,a,b,c,_,h,_,_,_=>h.elim
 |k::W,v::l,x::X,O,a,b,c,h,B,N,M,L=>by
  have H:=EQ X (O.add x);obtain⟨F,D⟩:=B;simp only[C.az,aj.ext,nO];unfold lA at h;split at h
  grind
  rename_i R Q;cases R;cases Q;cases x<;>simp[qw] at F;simp at h;obtain⟨⟨rfl,rfl⟩,h⟩:=h;rw[Kw h D (by simp[aj.add,N]) (by simp[aj.add,M]) (by simp[aj.add,L])]
  grind [C.ai,K.ai,XV.at,H.i,aj.add]
  rename_i R Q;cases R;cases Q;cases x<;>simp[qw] at F;simp at h;obtain⟨rfl,h⟩:=h;rw[Kw h D (by simp[aj.add,N]) (by simp[aj.add,M]) (by simp[aj.add,L])]
  grind [C.ai,BE.ai,XV.at,H.b,aj.add]
  rename_i R Q;cases R;cases Q;cases x<;>simp[qw] at F;simp at h;obtain⟨rfl,h⟩:=h;rw[Kw h D (by simp[aj.add,N]) (by simp[aj.add,M]) (by simp[aj.add,L])]
  grind [C.ai,RE.ai,RE.rv,XV.at,H.r,aj.add,aj.rv]
  cases h
def azP{ty:Ty}{s:S}{r:RE}{e:RK}(M:e≠ .bz)(h:r.kind ty s=e)(W:dU ty e (r.rv x) N):x.pi ty s.rs N:=by
 obtain⟨V,R,H,Q,X⟩:=Wq M h W;rcases X with⟨rfl,X⟩|⟨t,X,L⟩;exact⟨V,R,Q,Wp (by rw[X];exact W)⟩;exact⟨V,R,Q,M8 X L⟩
def ao6{ty:Ty}{e:RK}{X:RV}(h:dU ty e X N):dU ty e.rd X N:=by
 cases h with|own e X N h=>exact h|here e a V R W=>exact dU.here e a V R W|deep e v W i j Q c z k N O M L H=>exact dU.deep e v W i j Q c z k N O M L H
def rj(ty:Ty)(W:aL)(V:aZ)(b:Nat):Prop:=∃(q:Nat)(e:RK)(X:RV),W[q]?=U (.ak e)/\V[q]?=U (.r X)/\dU ty e X b
def ao7{ty:Ty}{R:bo}:∀{W:aL}{l:aq},iQ ty R W l=J->∀(q:Nat)(k:LK)(v:C),W[q]?=U k->l[q]?=U v->CZ ty R k v=J
 |[],_,_,q,k,v,X,_=>by simp at X|_::_,[],h,q,k,v,_,_=>by simp[iQ] at h|Q::W,O::l,h,0,k,v,X,V=>by simp only[iQ,aC] at h;simp at X V;subst X V;exact h.1|Q::W,O::l,h,q+1,k,v,X,V=>by simp only[iQ,aC] at h;exact ao7 h.2 q k v (by simpa using X) (by simpa using V)
def ao8{ty:Ty}{V:aL}(h:iQ ty g V t=J){e:RK}{R:RV}(M:V[N]?=U (.ak e))(X:(t.map (C.xv x))[N]?=U (.r R)):
  ∃r:RE,((∃Q,e=.mr Q/\r.pJ ty ⟨[],[],0,0,g,0,0,[]⟩ Q=J)\/r.fits ty ⟨[],[],0,0,g,0,0,[]⟩ e.rd=J)/\R=r.rv x:=by
 rw[eo] at X;cases W:t[N]? with
 |none=>rw[W] at X;cases X
 |some v=>
  rw[W] at X;have:=ao7 h N _ v M W;unfold CZ at this
  grind [Ju,C.xv,XV.r.injEq]
def Fc{ty:Ty}{W:aL}(h:iQ ty g W t=J)(Q:rj ty W (t.map (C.xv x)) N):x.pi ty g N:=by
 obtain⟨q,e,D,M,L,V⟩:=Q;obtain⟨r,X,rfl⟩:=ao8 h M L;rcases X with⟨B,rfl,-⟩|X;cases V;have R:=ao6 V;obtain⟨H,F⟩:=adt (O:=x) X R;exact azP (s:=⟨[],[],0,0,g,0,0,[]⟩) F H R
def xQ(ty:Ty)(W:World)(V:aL)(R:aZ):Prop:=∀(q:Nat)(e:RK)(X:RV),V[q]?=U (.ak e)->R[q]?=U (.r X)->bG W ty e X
def ae4{ty:Ty}{W:World}{B:Nat}{old:Nat->Prop}:∀{V:aL}{X:aZ},xQ ty W V X->(∀b,rj ty V X b->B<=b\/old b)->CH ty W B old V X
 |[],X,_,_=>by cases X<;>trivial
 |_::_,[],_,_=>trivial
 |k::V,x::X,h,N=>by
  refine⟨?_,ae4 (λq e R Q O=>h (q+1) e R (by simpa using Q) (by simpa using O)) (λb ⟨q,e,R,Q,O,M⟩=>N b ⟨q+1,e,R,by simpa using Q,by simpa using O,M⟩)⟩;cases k<;>cases x<;>try trivial
  exact⟨h 0 _ _ rfl rfl,λb L=>N b ⟨0,_,_,rfl,rfl,L⟩⟩
def SR(D W:World):ef D bT.none [] [] [] W:=⟨rfl,rfl,λn l r X h=>by simp[bT.none] at h,λn V l r R h=>by simp[bT.none] at h,[],rfl,λ_=>rfl,by simp[bT.none],λd h=>by simp[bT.none] at h⟩
def jG.Xu{V:ar}{M:bm}{ty:Ty}{W:World}(R:jG y e V x M ty g W)(L:Y x.r=Y g)(H:∀(k:Nat)(t:TypeId),g[k]?≠U (.own t)):aA y e bT.none ty [] (x.at []) ⟨[],[],Y x.i,Y x.b,g,0,0,[]⟩ ⟨#[],[]⟩ W:=
 ⟨⟨R.base,λi h=>by simp[aK,bS] at h,λi j h=>by simp[aK,bS] at h,λi t A h=>by simp[bS] at h,λk X N Q F=>⟨(R.ak k X N Q F).1,λb z i B=>by simp[aK,bS] at B⟩⟩,rfl,rfl,rfl,L,SR _ _,rfl,λt w h=>by simp at h,λk X N b Q=>bE Q (H k X)⟩
def Xv:∀{l W:bo},E9 l W=J->rf l W/\∀(k:Nat)(t:TypeId),W[k]?≠U (.own t)
 |[],[],_=>⟨rf.refl _,λk t h=>by simp at h⟩|[],_::_,h=>by simp[E9] at h|_::_,[],h=>by simp[E9] at h
 |x::N,y::M,h=>by
  simp only[E9,aC] at h;obtain⟨V,Q⟩:=Xv h.2;have R:rZ x y/\∀t,y≠ .own t:=by
   have L:=h.1;cases x<;>cases y<;>simp_all[Xn,rZ]
  refine⟨⟨by simp[V.len],λk O X=> ?_⟩,λk t X=> ?_⟩;cases k with|zero=>simp at X;subst X;exact⟨x,rfl,R.1⟩|succ k=>exact V.get k O (by simpa using X)
  cases k with|zero=>simp at X;exact R.2 t X|succ k=>exact Q k t (by simpa using X)
def azQ{e:RK}(h:JW (.ak e)=J):e.rd=e:=by cases e<;>simp[JW] at h<;>rfl
def Xw{ty:Ty}{X:bo}(h:rf g X)(W:x.pi ty X N):x.pi ty g N:=by
 obtain⟨k,e,V,R⟩:=W;obtain⟨Q,M,L⟩:=h.get k e V;exact⟨k,Q,M,R.lL L⟩
def ao9:∀{l W:bo},Fa l W=J->rf l W
 |[],[],_=>rf.refl _|[],_::_,h=>by simp[Fa] at h|_::_,[],h=>by simp[Fa] at h
 |x::O,y::N,h=>by
  simp only[Fa,aC] at h;have V:=ao9 h.2;have R:rZ x y:=by
   have M:=h.1;cases x<;>cases y<;>simp_all[Xn,aoS,rZ]
  refine⟨by simp[V.len],λk Q X=> ?_⟩;cases k with|zero=>simp at X;subst X;exact⟨x,rfl,R⟩|succ k=>exact V.get k Q (by simpa using X)
def Xx{V:ar}{A:bm}{ty:Ty}{W:World}(R:jG y e V x A ty g W)(L:Y x.r=Y g)(H:∀(k:Nat)(X:TypeId),g[k]?≠U (.own X)){M:aL}(h:iQ ty g M t=J)(z:mQ M=J):xQ ty W M (t.map (C.xv x)):=by
 intro q Q v F w;obtain⟨r,N,rfl⟩:=ao8 h F w;rcases N with⟨B,rfl,N⟩|N;simp only[RE.pJ,lu,dl] at N;rcases N with N|N;have:=qZ (R.Xu L H) (e:=.mr B) (r:=r) aw (by
  rw[zt (s:=⟨[],[],Y x.i,Y x.b,g,0,0,[]⟩) (s':=⟨[],[],0,0,g,0,0,[]⟩) rfl r];exact N)
 rwa [RE.nM] at this
 unfold RE.nil at N;split at N;exact bG.mr B [] aw aw aw aw;cases N;have:=al8 (R.Xu L H) (k:=Q.rd) (r:=r) (by
  unfold RE.fits at N⊢;rw[zt (s:=⟨[],[],Y x.i,Y x.b,g,0,0,[]⟩) (s':=⟨[],[],0,0,g,0,0,[]⟩) rfl r];exact N)
 rwa [azQ (WL z F),RE.nM] at this
def Bc(ty:Ty)(B:Nat)(old:Nat->Prop)(O:aj)(X:bo):Prop:=∀b,O.pi ty X b->B<=b\/old b
def SS:∀(X:aL)(s:S),(s.bU X).2.rs=s.rs++gj X
 |[],s=>by simp[S.bU,gj]
 |k::X,s=>by
  simp only[S.bU];rw[SS X];cases k<;>simp[S.fresh,gj]
def Hx{X:aL}{W:aZ}{O:aj}{rs:bo}(V:dK X W)(R:Y O.r=Y rs):(O.ext W).r.length=(rs++gj X).length:=by
 have:=(xI X W ⟨[],[],Y O.i,Y O.b,rs,0,0,[]⟩ O V rfl rfl R).2.2
 rwa [SS] at this
def Bc.ext{ty:Ty}{B:Nat}{old:Nat->Prop}{O:aj}{rs:bo}(h:Bc ty B old O rs){V:aL}{X:aZ}(M:dK V X)(L:Y O.r=Y rs)(F:∀b,rj ty V X b->B<=b\/old b):Bc ty B old (O.ext X) (rs++gj V):=by
 intro b ⟨k,e,H,D⟩;have A:k<(O.ext X).r.length:=by rw[Hx M L];exact(dq.1 H).1
 have z:(O.ext X).r[k]?=U ((O.ext X).rv k):=by simp[aj.rv,A]
 have:=Hj (PP:=λe W=>∀b,dU ty e W b->B<=b\/old b) V X ⟨[],[],Y O.i,Y O.b,rs,0,0,[]⟩ O M L
  (λq e W Q R b N=>F b ⟨q,e,W,Q,R,N⟩) (λk e W Q R b N=>h b ⟨k,e,Q,by
   have y:k<Y O.r:=(dq.1 R).1;have:O.rv k=W:=by simp[aj.rv,R]
   rw[this];exact N⟩)
 rw[SS] at this;exact this k e _ H z b D
def SU(ty:Ty)(H:iX)(X:aL)(D:World)(d:aL)(u:aZ)(out:aX):Ending->World->Prop
 |.returned v,V=>∃R W,out=.ret R/\xN R W/\dK X W/\v=xP (qD ty H (nO X W))/\Below D.heap.size D V/\xQ ty V X W/\∀b,rj ty X W b->D.heap.size<=b\/rj ty d u b|.panicked Q,V=>Below D.heap.size D V/\∃v,out=.bp v/\Q=[{v:=v,recovered:=E}]|.outgrown,_=>False
def Xy(P:Program)(ty:Ty)(M Q:FuncId->mg)(G:World->Prop)(f:FuncId)(F:aZ->jR):Prop:=
 ∀R H d X,M f=U R->Q f=U H->fH ty R=U d->fH ty H=U X->∀(O V:aZ)(out:aX),F O=U out->xN O V->dK d V->∀W,G W->xQ ty W d V->
  Calls P f (qD ty R (nO d V)).toArray W (SU ty H X W d V out)
def Fe(ty:Ty):iX->fy->List fy
 |t::W,l=>match ty t with|U X=>l.take (Y X.am)::Fe ty W (l.drop (Y X.am))|none=>[]
 |[],_=>[]
def SX(V:ar)(X:bm):ar:=((dj (Y X)).filter (aK X)).map (ad V)
def azR(ty:Ty)(L:sN)(X d:aL)(V:ar)(W:World)(u:aZ)(out:aX):Ending->World->Prop
 |.returned v,Q=>∃O R,out=.ret O/\xN O R/\dK X R/\v=.tuple #[]/\fl ((eB 0 L.bx).map λx=>ad V x.1) W Q/\
   (∀z∈(eB 0 L.bx).zip (Fe ty ((eB 0 L.bx).map (·.2)) (nO X R)),Q.heap[ad V z.1.1]?=U (.cells z.2.toArray z.1.2 (0,0)))/\xQ ty Q X R/\∀b,rj ty X R b->W.heap.size<=b\/rj ty d u b
 |_,_=>False
def apa(P:Program)(ty:Ty)(G:World->Prop)(g:FuncId)(L:sN)(F:aZ->jR):Prop:=
 ∀d X,fH ty L.ps=U d->fH ty ((eB 0 L.bx).map (·.2))=U X->∀(H R:aZ)(out:aX),F H=U out->xN H R->dK d R->
  ∀(z:ar)(D:World)(V:ar)(O:aj)(N:bm)(Q:bo)(W:World)(M B l:aq),jG z D V O N ty Q W->Y O.r=Y Q->(∀(k:Nat)(t:TypeId),Q[k]?≠U (.own t))->
   kG ty L.bx N=U B->Y M=L.n->gv ty L.ps (M++B)=U l->iQ ty Q d l=J->mQ d=J->R=l.map (C.xv O)->(∀A,fl (SX V N) W A->G A)->
   Calls P g (C.az O V M++C.az O V L.bC).toArray W (azR ty L X d V W R out)
def Hy(P:Program)(ty:Ty)(M Q:FuncId->mg)(G:World->Prop)(f:FuncId)(F:aZ->jR):Prop:=
 (oL f=Z->Xy P ty M Q G f F)/\∀g L,oL f=U (g,L)->apa P ty G g L F
def azS{b c:World}(h:fl y e b)(k:Below b.heap.size b c):fl y e c:=
 ⟨k.os.trans h.os,k.tape.trans h.tape,k.output.trans h.output,md h.size k.size,λq X W=>(k.block q (QP X h.size)).trans (h.block q X W)⟩
def azT{M:FuncId->mg}(h:oL v=Z):Nn M v=M v:=by simp only[Nn,h]
def azU{Q:FuncId->mg}(h:oL v=Z):No Q v=Q v:=by simp only[No,h]
def azV{M:FuncId->mg}{g:FuncId}{L:sN}(h:oL v=U (g,L)):Nn M v=U L.ps:=by simp only[Nn,h]
def azW{Q:FuncId->mg}{g:FuncId}{L:sN}(h:oL v=U (g,L)):No Q v=U ((eB 0 L.bx).map (·.2)):=by simp only[No,h]
def azX{ty:Ty}{X:bm}{fz:C}(h:Np ty v t X fz=J)(W:zg fz=Z):oL v=none:=by
 unfold Np at h;rw[W] at h;cases V:oL v with|none=>rfl|some x=>rw[V] at h;cases h
def azY{ty:Ty}{R:bm}{fz:C}{X:VI}(h:Np ty v t R fz=J)(N:zg fz=U X):∃g L W,oL v=U (g,L)/\X.g=g/\X.n=L.n/\X.bC=L.bC/\X.rw=eB 0 L.bx/\Y X.l=Y X.rw/\L.n<=Y t/\kG ty L.bx R=U W/\W=t.drop L.n:=by
 unfold Np at h;rw[N] at h;cases O:oL v with
 |none=>rw[O] at h;cases h
 |some x=>
  obtain⟨g,L⟩:=x;rw[O] at h;simp at h;obtain⟨⟨⟨⟨⟨⟨M,H⟩,F⟩,D⟩,B⟩,A⟩,V⟩:=h;cases Q:kG ty L.bx R with|none=>rw[Q] at V;cases V|some W=>rw[Q] at V;exact⟨g,L,W,rfl,M,H,C.pm _ _ F,D,B,A,Q,C.pm _ _ V⟩
def azZ:∀{l:aq},Y l=N->uK N (one l)=l
 |[],h=>by subst h;rfl|[v],h=>by subst h;cases v<;>simp[one,uK]
 |x::y::r,h=>by subst h;simp[one,uK]
def apb{ty:Ty}{l:List LB}{X:bm}(h:kG ty l X=U t)(W:(N,k)∈eB 0 l):mN k=false:=by
 obtain⟨-,V⟩:=Nk W;obtain⟨Q,-,R⟩:=Nl h N k (by simpa using V);exact R
def apc{ty:Ty}{O:aj}{V:ar}:∀{A:List (Nat×TypeId)}{l r:aq},gv ty (A.map (·.2)) l=U r->(∀v∈r,∀q,v≠ .agg q)->
  ∀x∈(A.zip l).map (λx=>(x.1.1,x.1.2,x.2.cells)),∃z∈A.zip (Fe ty (A.map (·.2)) (C.az O V r)),z.1=(x.1,x.2.1)/\z.2=C.az O V x.2.2
 |[],_,_,_,_,x,X=>by simp at X|a::A,[],r,h,_,x,X=>by simp at X
 |a::A,v::l,r,h,N,x,X=>by
  simp only[dG,gv] at h;cases R:ty a.2 with
  |none=>simp[R] at h
  |some D=>
   cases Q:gv ty (A.map (·.2)) l with
   |none=>simp[Q] at h
   |some M=>
    simp only[R,Q] at h;have L:∀c:aq,Y c=Y D.am->r=c++M->v.cells=c->∃z∈(a::A).zip (Fe ty ((a::A).map (·.2)) (C.az O V r)),z.1=(x.1,x.2.1)/\z.2=C.az O V x.2.2:=by
     intro c H F B;have y:Fe ty ((a::A).map (·.2)) (C.az O V r)=C.az O V c::Fe ty (A.map (·.2)) (C.az O V M):=by
      simp only[dG,Fe,R];rw[F,G4,av7 (by simpa using H),Vt (by simpa using H)]
     rw[y,En];simp only[En,dG,eu] at X;rcases X with rfl|X;exact⟨_,Vo,rfl,by rw[B]⟩;obtain⟨z,t,s⟩:=apc (O:=O) (V:=V) Q (λu w=>N u (by rw[F];simp[w])) x X
     grind
    split at h;split at h;rename_i c;split at h;rename_i W;cases h;exact L c (by simpa using W) rfl rfl;cases h;cases h;split at h;rename_i W;cases h;exact L [v] (by simp only[ge] at W;simp[W]) rfl (by
     have:=N v aw;cases v<;>simp_all[C.cells])
    cases h
def ae5:∀{W:aL}{l:aq}{a b c:Nat},lA a b c W l=J->∀v∈l,∀q,v≠ .agg q
 |[],[],_,_,_,_,v,X=>by simp at X|[],_::_,_,_,_,h,_,_=>by simp[lA] at h|k::W,[],_,_,_,h,_,_=>by cases k<;>simp[lA] at h
 |k::W,u::l,a,b,c,h,v,X=>by
  unfold lA at h;split at h;rename_i V;cases V
  all_goals first
   |(rename_i V R
     cases V;cases R;simp only[aC] at h;rcases eu.1 X with rfl|X;intro q Q;cases Q;exact ae5 h.2 v X)
   |cases h
section
variable{P:Program}{ty:Ty}{M Q:FuncId->mg}{bh:my}{G:World->Prop}{D:World}{H:iX}{X d:aL}{u:aZ}{out:aX}{old:Nat->Prop}
def NT(P:Program)(ty:Ty)(D:World)(H:iX)(X d:aL)(u:aZ)(out:aX):Sp:=⟨P,ty,[],D,bT.none,SU ty H X D d u out,λ_ _ _=>False⟩
def SY(ty:Ty)(M Q:FuncId->mg)(bh:my)(H:iX)(out:aX)(X:Fr)(V:List Fr)(R:aZ)(n:Nat):Prop:=∃W,xN W R/\run ty M Q bh H n X.t (X.O.ext W) X.rs (X::V)=U out
def IOf(ty:Ty)(M Q:FuncId->mg)(bh:my)(D:World)(H:iX)(old:Nat->Prop)(out:aX)(X:Fr)(V:List Fr)(N:Nat)(W:aZ):Prop:=
 (∀b,rj ty X.ks W b->D.heap.size<=b\/old b)/\∃n,n<=N/\SY ty M Q bh H out X V W n
def ae7(W:World)(V:List PanicEntry)(R:World)(b:Nat)(o:Obj)(O:W.heap.size<=b)(h:SU ty H X W d u out (.panicked V) R):SU ty H X W d u out (.panicked V) (R.putObj b o):=
 ⟨⟨h.1.os,h.1.tape,h.1.output,by have:=h.1.size;simpa[Mj] using this,λk Q=>(uk ae).trans (h.1.block k Q)⟩,h.2⟩
def az0{p:Nat->Prop}:∀{n:Nat},p n->∃m,p m/\m<=n/\∀k,p k->m<=k:=by
 intro n;induction n using QS with
 |ind n X=>
  grind
open Classical in
noncomputable def NU(p:Nat->Prop):Nat:=if h:∃m,p m/\∀k,p k->m<=k then Classical.choose h else 0
def apd{p:Nat->Prop}(h:p N):p (NU p)/\NU p<=N:=by
 obtain⟨m,X,V,W⟩:=az0 h;have R:∃m,p m/\∀k,p k->m<=k:=⟨m,X,W⟩;unfold NU
 grind
inductive uL(ty:Ty)(M Q:FuncId->Option (List TypeId))(bh:my)(D:World)(H:List TypeId)(old:Nat->Prop)(out:aX):Nat->List Fr->List LC->Prop where
 |nil (n:Nat):uL ty M Q bh D H old out n [] []
 |cons (n N m:Nat) (fr:Fr) (st:List Fr) (L:List LC):n<=m->m<=N->uL ty M Q bh D H old out n st L->
   uL ty M Q bh D H old out n (fr::st) (⟨fr.ax,IOf ty M Q bh D H old out fr st N,λxs=>NU (SY ty M Q bh H out fr st xs),m⟩::L)
def uL.mono{V:Nat}{W:List Fr}{L:dm}(h:uL ty M Q bh D H old out N W L)(F:V<=N):uL ty M Q bh D H old out V W L:=by
 induction h with|nil=>exact uL.nil _|cons X m B W L A R z O=>exact uL.cons _ _ _ _ _ _ ae R O
def uL.find{ax:Nat}{R O:List Fr}{L:dm}{W:Fr}(h:uL ty M Q bh D H old out N R L)(V:Ku ax R=U (W,O)):
  ∃X m,N<=m/\m<=X/\pj ax L=U ⟨W.ax,IOf ty M Q bh D H old out W O X,λF=>NU (SY ty M Q bh H out W O F),m⟩:=by
 induction h with
 |nil=>simp[Ku] at V
 |cons X m y R L B A x w=>
  simp only[Ku] at V;split at V;rename_i z;cases V;exact⟨X,m,B,A,by simp[pj,z]⟩
  grind [pj]
def ape{S0:ar}{R:Ending->World->Prop}(bf:∀f,Hy P ty M Q G f (bh f))(bg:∀W,fl S0 D W->G W)(b6:∀b∈qX D.heap.size S0,old b)(b7:fH ty H=U X)
  (b8:∀(v:C)(l:aq)(bx:bm)(aa:bo)(p O':aj)(V:ar)(W:World),gv ty H (uK (Y H) v)=U l->iQ ty aa X l=J->mQ X=J->out=.ret (l.map (C.xv p))->j6 p O'->Y O'.r=Y aa->(∀(k:Nat)(t:TypeId),aa[k]?≠U (.own t))->Bc ty D.heap.size old O' aa->jG S0 D V O' bx ty aa W->R (.returned (v.ai O' V)) W)
  (bk:∀(v:Value)(W:World),out=.bp v->fl S0 D W->R (.panicked [{v:=v,recovered:=E}]) W):
  ∀(n:Nat)(t:T)(p O:aj)(d:bo)(st:List Fr)(L:dm),run ty M Q bh H n t p d st=U out->j6 p O->Y O.r=Y d->Bc ty D.heap.size old O d->uL ty M Q bh D H old out n st L->
   t.aN ⟨P,ty,S0,D,bT.none,R,λ_ _ _=>False⟩ O L:=by
 intro n;induction n using QS with
 |ind n IH=>
  intro t p O d st L h B u hP hC;cases n with
  |zero=>simp[run] at h
  |succ n=>
   cases t with
   |out e s=>simp[run] at h|stuck m=>simp[run] at h
   |ret v bx aa=>
    simp only[run] at h;split at h;rename_i he;obtain⟨hw,a3⟩:=Xv he;unfold aeU at h;split at h;rename_i l ks hl hk;rw[b7] at hk;cases hk;split at h;rename_i ab;cases h;simp only[aC] at ab;obtain⟨ab,ca⟩:=ab;intro y V W hR;have B:j6 p (O.at y):=⟨B.i,B.b,B.len,B.r⟩;have u:(O.at y).r.length=Y d:=u;have hP:Bc ty D.heap.size old (O.at y) d:=hP;generalize O.at y=O at B u hP hR⊢;exact b8 v l bx aa p O V W hl ab ca rfl B (u.trans hw.len.symm) a3 (λb q=>hP b (Xw hw q)) hR;cases h;cases h;cases h
   |bp v=>
    simp only[run,Vj] at h;obtain⟨pv,hv,rfl⟩:=h;intro y V W hO;have B:j6 p (O.at y):=⟨B.i,B.b,B.len,B.r⟩;have cc:v.ai (O.at y) V=pv:=by
     unfold Kt at hv;split at hv;cases hv;simp only[C.ai,K.dM B];cases hv
    rw[cc];exact bk pv W rfl hO
   |aJ b t f=>
    simp only[run] at h;rw[BE.dM B] at h;refine⟨λq=> ?_,λq=> ?_⟩;rw[aH q] at h;exact IH n ae t p O d st L h B u hP (hC.mono ae);rw[aP (by simp[q])] at h;exact IH n ae f p O d st L h B u hP (hC.mono ae)
   |aS b t=>
    simp only[run] at h;rw[BE.dM B] at h;split at h;rename_i q;exact⟨q,IH n ae t p O d st L h B u hP (hC.mono ae)⟩;cases h
   |call f cf bx aa ks fz t=>
    simp only[run] at h;split at h;rename_i he;rw[aC] at he;obtain⟨he,bl⟩:=he;obtain⟨hw,a3⟩:=Xv he;split at h;rename_i c4 hx;unfold aeV at hx;split at hx;rename_i ps cl a4 a9;split at hx;rename_i l br bs r hl bt b0 ba;split at hx;rename_i hc;simp only[aC,dl] at hc;obtain⟨⟨⟨c1,cp⟩,rfl⟩,c3⟩:=hc;cases hx;cases hv:zg fz with
    |none=>
     have al:=azX bl hv;have an:My fz=fz:=by simp only[My,hv]
     rw[azT al] at a4;rw[azU al] at a9;rw[an] at ba;simp only[T.aN,hv];intro y V W hR;have ac:j6 p (O.at y):=⟨B.i,B.b,B.len,B.r⟩;have c5:Bc ty D.heap.size old (O.at y) d:=hP;obtain⟨a1,a2⟩:=Fb (O:=O.at y) (V:=V) c1;have cn:=Xx hR (u.trans hw.len.symm) a3 c1 cp;rw[NS hl,a1];cases ho:bh f (l.map (C.xv p)) with
     |none=>rw[ho] at h;cases h
     |some o=>
      rw[ho] at h;refine((bf f).1 al ps cl br bs a4 a9 bt b0 _ _ o ho (Kv ac l) a2 W (bg W hR.base) cn).mono ?_;intro e W' hE;cases e with
      |outgrown=>exact hE.elim
      |panicked ch=>
       obtain⟨e1,pv,rfl,rfl⟩:=hE;simp only[dW] at h;exact⟨e1,bk pv W' h.symm (azS hR.base e1)⟩
      |returned v=>
       obtain⟨yh,ys,rfl,e2,e3,rfl,e5,e6,e7⟩:=hE;rw[show C.xv (O.at y)=C.xv O from funext (C.W6 O y)] at e7;simp only at h;split at h;rename_i co;refine⟨ys,e3, ?_,e5,ae4 e6 (λb q=>(e7 b q).imp id (λbc=>Fc c1 bc)), ?_⟩;rw[<-Hp,ae3 ba,Kw c3 e3 (by rw[ac.i]) (by rw[ac.b]) (by rw[ac.len])];refine IH n ae t _ _ _ st L h (B.ext e2) (Hx e3 u) (hP.ext e3 u (λb q=> ?_)) (hC.mono ae);rcases e7 b q with h1|h1;exact .inl (md hR.base.size h1);exact hP b (Xw hw (Fc c1 h1));cases h
    |some Vq=>
     obtain⟨g,F,cs,al,v1,v2,v3,v4,v5,v6,v7,v8⟩:=azY bl hv;have an:My fz=one Vq.l:=by simp only[My,hv]
     rw[azV al] at a4;rw[azW al] at a9;cases a4;cases a9;have ct:Y Vq.l=((eB 0 F.bx).map (·.2)).length:=by rw[v5,v4];simp
     rw[an,azZ ct] at ba;simp only[T.aN,hv];intro y V W hR;have ac:j6 p (O.at y):=⟨B.i,B.b,B.len,B.r⟩;obtain⟨a1,a2⟩:=Fb (O:=O.at y) (V:=V) c1;cases ho:bh f (l.map (C.xv p)) with
     |none=>rw[ho] at h;cases h
     |some o=>
      rw[ho] at h;have cu:∀W',fl (SX V bx) W W'->G W':=λW' hO=>bg W' ⟨hO.os.trans hR.base.os,hO.tape.trans hR.base.tape,hO.output.trans hR.base.output,md hR.base.size hO.size,λk hk hs=>by
       rw[hO.block k (QP hk hR.base.size) (λhm=> ?_)];exact hR.base.block k hk hs;obtain⟨i,hi,rfl⟩:=fw.1 hm;rcases hR.own i (qg.1 hi).2 with h1|h1;exact bE h1 (Nat.not_le.2 hk);exact hs h1⟩
      have cv:=(bf f).2 g F al br bs bt b0 _ _ o ho (Kv ac l) a2 S0 D V (O.at y) bx aa W (cf.take F.n) cs l hR (u.trans hw.len.symm) a3 v7 bZ (by rw[v8,Jr];exact hl) c1 cp rfl cu;rw[v1,v2,v3];refine cv.mono ?_;intro e W' hE;cases e with
      |outgrown=>exact hE.elim|panicked ch=>exact hE.elim
      |returned v=>
       obtain⟨yh,ys,rfl,e2,e3,rfl,e5,cx,e6,e7⟩:=hE;rw[show C.xv (O.at y)=C.xv O from funext (C.W6 O y)] at e7;simp only at h;split at h;rename_i co;have cy:=Kw (V:=V) c3 e3 (O:=O.at y) (by rw[ac.i]) (by rw[ac.b]) (by rw[ac.len]);have cA:(Vq.out.map λx=>ad V x.1)=(eB 0 F.bx).map λx=>ad V x.1:=by
        have h1:∀(A:List (Nat×TypeId))(l:aq),Y l=Y A->(((A.zip l).map λx=>(x.1.1,x.1.2,x.2.cells)).map λx=>ad V x.1)=A.map λx=>ad V x.1:=by
         intro A;induction A with
         |nil=>intro l _;simp
         |cons a A ih=>
          intro l hl;cases l with|nil=>simp at hl|cons v l=>simp only[En,dG,ih l (by simpa using hl)]
        rw[VI.out,h1 _ _ v5,v4]
       refine⟨ys,e3,rfl,by rw[cA];exact e5,λx hx=> ?_,ae4 e6 (λb q=>(e7 b q).imp id (λbc=>Fc c1 bc)), ?_⟩;rw[VI.out,v4] at hx;obtain⟨z,z1,z2,z3⟩:=apc (O:=(O.at y).ext ys) (V:=V) ba (ae5 c3) x hx;rw[cy] at z1;have q:=cx z z1;have cB:mN x.2.1=false:=by
        obtain⟨w,cC,rfl⟩:=fw.1 hx;exact apb v7 (ab9 cC).1
       rw[z2] at q;rw[qz cB,<-Hp,q,z3];refine IH n ae t _ _ _ st L h (B.ext e2) (Hx e3 u) (hP.ext e3 u (λb q=> ?_)) (hC.mono ae);rcases e7 b q with h1|h1;exact .inl (md hR.base.size h1);exact hP b (Xw hw (Fc c1 h1));cases h
    cases hx;cases hx;cases hx;cases h;cases h
   |loop ax ks x0 t=>
    simp only[run] at h;split at h;rename_i ab;have c6:=(Fb (O:=O) (V:=[]) ab).2;refine⟨IOf ty M Q bh D H old out ⟨ax,ks,t,p,d++gj ks⟩ st n,λxs=>NU (SY ty M Q bh H out ⟨ax,ks,t,p,d++gj ks⟩ st xs),⟨λb q=>hP b (Fc ab q),n,cd _,x0.map (C.xv p),Kv B x0,h⟩, ?_⟩;intro xs hf ⟨i1,n1,i2,i3⟩;obtain⟨⟨xh,j1,j2⟩,j3⟩:=apd i3;refine IH _ ae t _ _ _ _ _ j2 (B.ext j1) (Hx hf u) (hP.ext hf u i1) ?_;exact uL.cons _ _ _ _ _ _ (cd _) (md j3 i2) (hC.mono ae);cases h
   |back ax x=>
    simp only[run] at h;split at h;rename_i fr cD cO;split at h;rename_i ab;obtain⟨N,m,g1,g2,g3⟩:=hC.find cO;simp only[T.aN,g3];have b1:SY ty M Q bh H out fr cD (x.map (C.xv O)) n:=⟨x.map (C.xv p),Kv B x,h⟩;refine⟨⟨λb q=>hP b (Fc ab q),n,ae,b1⟩, ?_⟩;have:=(apd b1).2;omega;cases h;cases h
   |new e x aa c7 t=>
    simp only[run] at h;split at h;rename_i he;have hw:=ao9 he;intro rv an;obtain⟨A,m,c,rfl,hm⟩:=an.val;subst hm;refine IH n ae t _ _ _ st L h (B.add (aoR B x)) (by simp[aj.add,u]) ?_ (hC.mono ae);intro b ⟨k,e',hk,hl⟩;by_cases af:k<Y d;rw[fT af] at hk;refine hP b ⟨k,e',hk, ?_⟩;have:(O.add (.r (.mk (.slice A (x.ah O).length c) (x.ah O)))).rv k=O.rv k:=by simp[aj.rv,aj.add,fT,u,af]
    rw[<-this];exact hl;have a0:k=Y d:=by
     have:=(dq.1 hk).1;simp at this;omega
    subst a0;simp at hk;subst hk;have e1:(O.add (.r (.mk (.slice A (x.ah O).length c) (x.ah O)))).rv (Y d)=.mk (.slice A (x.ah O).length c) (x.ah O):=by rw[<-u];simp[aj.rv,aj.add]
    rw[e1] at hl;have cW:=ao6 hl;rcases an.pi b cW with g|g|g;exact .inl g;exact .inr (b6 b g);exact hP b (Xw hw g);cases h
   |ah k x aa t=>
    simp only[run] at h;split at h;rename_i he;refine IH n ae t _ _ _ st L h (B.add (aoR B x)) (by simp[aj.add,u]) ?_ (hC.mono ae);intro b ⟨k',e',hk,hl⟩;by_cases af:k'<Y d;rw[fT af] at hk;refine hP b ⟨k',e',hk, ?_⟩;have:(O.add (.r (gu x O))).rv k'=O.rv k':=by simp[aj.rv,aj.add,fT,u,af]
    rw[<-this];exact hl;have a0:k'=Y d:=by
     have:=(dq.1 hk).1;simp at this;omega
    subst a0;simp at hk;subst hk;cases k<;>simp[aeX] at he;cases hl;cases h
   |gr g h' t f=>
    simp only[run] at h;rw[BE.dM B,BE.dM B] at h;refine⟨λq=> ?_,λq=> ?_⟩;rw[aH q] at h;split at h;exact IH n ae t p O d st L (Xr h).1 B u hP (hC.mono ae);exact IH n ae t p O d st L h B u hP (hC.mono ae);simp only[q,dN] at h;split at h;exact IH n ae f p O d st L (Xr h).2 B u hP (hC.mono ae);exact IH n ae f p O d st L h B u hP (hC.mono ae)
   |pick m g h' t f=>
    simp only[run] at h;refine⟨λj h1 h2 h3=> ?_,λq=> ?_⟩;have b2:j6 (p.add (.i j)) (O.add (.i j)):=B.add (x:=.i j) (y:=.i j) rfl;have hj:=Xs h _ (fw.2 ⟨U j,ae1 (g:=g) (h:=h') h1 (by rw[K.dM B];exact h2) (by rw[BE.dM b2];exact h3),rfl⟩);exact IH n ae t _ _ d st L hj b2 u hP (hC.mono ae);have hj:=Xs h _ (fw.2 ⟨Z,ae2 (m:=m) (g:=g) (h:=h') (by rw[BE.dM B];exact q),rfl⟩);exact IH n ae f _ _ d st L hj B u hP (hC.mono ae)
   |eF f g e sp sb r aa t=>
    simp only[run] at h;split at h;rename_i he;simp only[aC] at he;obtain⟨he,bb⟩:=he;have b3:=RE.dM B r;split at h;rename_i c0 b4;obtain⟨ag,bd,c8⟩:=aoY B b3.NO b4;refine⟨ag,als bd, ?_⟩;have b5:=adT (als bd);have c2:dL (.mk (r.rv p).val c0) (.mk (r.rv O).val ag):=b3.eF B b4 bd;refine IH n ae t _ _ _ st L h (B.add c2) (by simp[aj.add,u]) ?_ (hC.mono ae);intro b ⟨k,e',hk,hl⟩;by_cases af:k<Y d;rw[fT af] at hk;refine hP b ⟨k,e',hk, ?_⟩;have:(O.add (.r (.mk (r.rv O).val ag))).rv k=O.rv k:=by simp[aj.rv,aj.add,fT,u,af]
    rw[<-this];exact hl;have a0:k=Y d:=by
     have:=(dq.1 hk).1;simp at this;omega
    subst a0;simp at hk;subst hk;have e1:(O.add (.r (.mk (r.rv O).val ag))).rv (Y d)=.mk (r.rv O).val ag:=by rw[<-u];simp[aj.rv,aj.add]
    rw[e1] at hl;unfold aeW at bb;split at bb;rename_i k;exact hP b ⟨k,_,GI bb,azJ hl b5⟩;cases hl with
    |own e rv b hl=>
     have h0:ag=[]:=by
      cases ag with|nil=>rfl|cons x xs=>have:=b5 x aw;simp[RE.rv] at this
     subst h0;simp only[RE.rv] at hl;cases hl with|deep e v ag i j c9 c z k b h1 h2 h3 h4=>simp at h1
    cases bb;cases h;cases h
def az1(s:∀f,Hy P ty M Q G f (bh f))(q:∀W y,Below W.heap.size W y->G W->G y)(p:G D)(o:fH ty H=U X)(m:∀k b,rj ty X k b->old b->rj ty d u b):
  ∀(n:Nat)(t:T)(N O:aj)(F:bo)(x:List Fr)(L:dm),run ty M Q bh H n t N F x=U out->j6 N O->Y O.r=Y F->Bc ty D.heap.size old O F->uL ty M Q bh D H old out n x L->
   t.aN (NT P ty D H X d u out) O L:=
 ape (S0:=[]) s (λW B=>q _ _ (SO B) p) (λb R=>by simp[qX] at R) o
  (λv l bx aa N O V W j A i z h g e c w=>by
   obtain⟨a,h2⟩:=Fb (O:=O) (V:=V) A;exact⟨_,l.map (C.xv O),z,Kv h l,h2,by rw[ae3 j,a],SO w.base,Xx w g e A i,λb R=>(c b (Fc A R)).imp id (m _ b R)⟩)
  (λv W z B=>⟨SO B,v,z,rfl⟩)
def wc:aL->Bool
 |[]=>J|.ak (.sl _)::_=>E|.ak (.own _)::_=>E|_::X=>wc X
def apf:∀{ks:aL}{xs:aZ}{b:Nat},wc ks=J->¬rj ty ks xs b
 |[],xs,b,_,⟨q,e,W,X,_,_⟩=>by simp at X
 |k::ks,xs,b,h,⟨0,e,W,X,V,R⟩=>by
  simp at X;subst X;cases R<;>simp[wc] at h
 |k::ks,[],b,h,⟨q+1,e,W,X,V,R⟩=>by simp at V
 |k::ks,x::xs,b,h,⟨q+1,e,W,X,V,R⟩=>apf (ks:=ks) (xs:=xs) (b:=b) (by
   cases k with
   |ak r=>cases r<;>simp[wc] at h⊢<;>exact h
   |int _=>simpa[wc] using h|bool=>simpa[wc] using h) ⟨q,e,W,by simpa using X,by simpa using V,R⟩
def dI(X:aE)(W:aZ):aj:=(⟨[],[],X,[]⟩:aj).ext W
end
def SZ:C->aq
 |.agg l=>l|v=>[v]
def rk:aq->aq
 |[]=>[]|v::X=>SZ v++rk X
def zw:C->aq
 |.bI l=>rk l|v=>SZ v
def az2:C->Bool
 |.gH _ (.int _ _)=>J|_=>E
def nI:aL->Nat
 |[]=>0|.int _::X=>nI X+1|_::X=>nI X
def nB:aL->Nat
 |[]=>0|.bool::X=>nB X+1|_::X=>nB X
def apg(c:Ty)(d:iX)(v:C)(W:bo):Bool:=match gv c d (uK (Y d) v),fH c d with|U l,U X=>iQ c W X l&&mQ X|_,_=>E
def aph(c:Ty)(M Q:FuncId->mg)(f:FuncId)(O:aq)(N L:Nat)(W:bo)(V:aL)(fz:C):Bool:=match Nn M f,No Q f with
 |U R,U X=>match gv c R O,fH c R,fH c X,gv c X (uK (Y X) (My fz)) with|U l,U P,U H,U r=>iQ c W P l&&mQ P&&decide (H=V)&&lA N L (Y W) V r|_,_,_,_=>E
 |_,_=>E
def S2(ax:Nat):List (Nat×aL)->Option aL
 |[]=>Z|x::X=>if x.1=ax then U x.2 else S2 ax X
def T.gw(c:Ty)(M Q:FuncId->mg)(d:iX):T->Nat->Nat->bo->List (Nat×aL)->Bool
 |.ret v _ O,_,_,X,_=>E9 X O&&apg c d v O|.bp v,_,_,_,_=>az2 v|.aJ _ t f,V,R,X,W=>t.gw c M Q d V R X W&&f.gw c M Q d V R X W|.aS _ t,V,R,X,W=>t.gw c M Q d V R X W|.call f N L O P fz t,V,R,X,W=>E9 X O&&Np c f N L fz&&aph c M Q f N V R O P fz&&t.gw c M Q d (V+nI P) (R+nB P) (X++gj P) W|.loop ax P H t,V,R,X,W=>iQ c X P H&&t.gw c M Q d (V+nI P) (R+nB P) (X++gj P) ((ax,P)::W)
 |.back ax x,_,_,X,W=>match S2 ax W with|U P=>iQ c X P x|none=>E
 |.new e _ O _ t,V,R,X,W=>Fa X O&&t.gw c M Q d V R (X++[.own e]) W|.ah k _ _ t,V,R,X,W=>aeX k&&t.gw c M Q d V R (X++[k]) W|.gr _ _ t f,V,R,X,W=>t.gw c M Q d V R X W&&f.gw c M Q d V R X W|.pick _ _ _ t f,V,R,X,W=>t.gw c M Q d (V+1) R X W&&f.gw c M Q d V R X W|.eF _ _ e _ _ r O t,V,R,X,W=>Fa X O&&aeW X r e&&t.gw c M Q d V R (X++[.own e]) W|.stuck _,_,_,_,_=>J|.out _ _,_,_,_,_=>E
structure Lp where
 ax:Nat
 t:T
 O:aj
abbrev mz:=List Lp
def we(ax:Nat):mz->Option (Lp×mz)
 |[]=>Z|x::X=>if x.ax=ax then U (x,X) else we ax X
def exec(bh:my):Nat->T->aj->mz->jR
 |0,_,_,_=>Z|_+1,.ret v _ _,O,_=>U (.ret ((zw v).map (C.xv O)))|_+1,.bp v,O,_=>(Kt O v).map .bp|n+1,.aJ b t f,O,X=>if b.ai O then exec bh n t O X else exec bh n f O X|n+1,.aS b t,O,X=>if b.ai O then exec bh n t O X else Z
 |n+1,.call f R _ _ Q _ t,O,X=>match bh f ((rk R).map (C.xv O)) with|U (.ret V)=>if fA Q V then exec bh n t (O.ext V) X else Z|U (.bp v)=>U (.bp v)|none=>Z
 |n+1,.loop ax _ P t,O,X=>exec bh n t (O.ext (P.map (C.xv O))) (⟨ax,t,O⟩::X)
 |n+1,.back ax x,O,X=>match we ax X with|U (W,N)=>exec bh n W.t (W.O.ext (x.map (C.xv O))) (W::N)|none=>Z
 |n+1,.new _ x _ _ t,O,X=>exec bh n t (O.add (.r (gu x O))) X|n+1,.ah _ x _ t,O,X=>exec bh n t (O.add (.r (gu x O))) X|n+1,.gr g h t f,O,X=>if g.ai O then(if h.ai O then C0 (exec bh n t O X) (exec bh n f O X) else exec bh n t O X) else(if h.ai O then exec bh n f O X else Z)
 |n+1,.pick m g h t f,O,X=>wb ((xO m g h O).map λj=>match j with|U j=>exec bh n t (O.add (.i j)) X|none=>exec bh n f O X)
 |n+1,.eF _ _ _ M L r _ t,O,X=>match oJ O M L (r.rv O).ah with|U H=>exec bh n t (O.add (.r (.mk (r.rv O).val H))) X|none=>Z
 |_,_,_,_=>Z
def az3{c:Ty}{k:LK}{v:C}(h:CZ c g k v=J):SZ v=[v]:=by
 unfold CZ at h;split at h<;>first|rfl|cases h
def S3{c:Ty}{P:bo}:∀{d:iX}{M l:aq}{X:aL},gv c d M=U l->fH c d=U X->iQ c P X l=J->rk M=l
 |[],[],l,X,h,_,_=>by simp[gv] at h;simp[rk,h]|[],_::_,l,X,h,_,_=>by simp[gv] at h|_::_,[],l,X,h,_,_=>by simp[gv] at h
 |t::d,v::M,l,X,h,O,L=>by
  simp only[gv] at h;split at h;rename_i w r B H;simp only[fH,B] at O;split at O;rename_i u G A F;cases A;cases O;have D:∀(a:aL)(b:aq),Y a=Y b->iQ c P (a++G) (b++r)=J->iQ c P a b=J/\iQ c P G r=true:=by
   intro a;induction a with
   |nil=>intro b N R;cases b with|nil=>exact⟨rfl,R⟩|cons=>simp at N
   |cons k a z=>intro b N R;cases b with
    |nil=>simp at N
    |cons x b=>
     simp only[cU,iQ,aC] at R⊢;obtain⟨W,Q⟩:=z b (by simpa using N) R.2;exact⟨⟨R.1,W⟩,Q⟩
  split at h;split at h;rename_i s;split at h;rename_i V;simp only[ge] at V;cases h;obtain⟨W,Q⟩:=D _ _ (by simp[V]) L;simp only[rk,SZ,S3 H F Q];cases h;cases h;split at h;rename_i V;simp only[ge] at V;cases h;obtain⟨W,Q⟩:=D _ [v] (by simp[V]) L;obtain⟨q,y⟩:=pH.1 V;rw[y] at W;simp only[dG,oD,iQ,Vx] at W;simp only[rk,az3 W,S3 H F Q,cU,du];cases h;cases O;cases h
def az4{c:Ty}{d:iX}{v:C}{Q:aL}(h:gv c d (uK (Y d) v)=U t)(W:fH c d=U Q)(R:iQ c g Q t=J):zw v=t:=by
 rw[<-S3 h W R];cases v
 case bI H=>
  simp only[uK,zw];split;rename_i V;simp at V;exfalso;have O:=S3 h W R;simp only[uK,V,beq_self_eq_true,dN] at h O;obtain⟨X,N⟩:=pH.1 V;subst N;simp only[gv,fH] at h W;split at h;rename_i G r V M;cases M;split at h;cases h;split at h;rename_i P;cases h;rw[V] at W;simp only[dW] at W;subst W;simp at P;obtain⟨F,L⟩:=pH.1 P;rw[L] at R;simp only[dG,oD,Jw,iQ,Vx] at R
  grind [CZ]
  cases h;cases h;rfl
 all_goals simp[uK,zw,rk]
section
variable{c:Ty}{M Q:FuncId->mg}{bh:my}{d:iX}
def Hz:∀{X:aL}{W:aZ}{O:aj},dK X W->(O.ext W).i.length=Y O.i+nI X/\(O.ext W).b.length=Y O.b+nB X/\(O.ext W).r.length=Y O.r+(gj X).length
 |[],[],O,_=>⟨rfl,rfl,rfl⟩|[],_::_,O,h=>h.elim|_::_,[],O,h=>h.elim
 |k::X,x::W,O,h=>by
  obtain⟨V,R⟩:=h;obtain⟨Q,P,N⟩:=Hz (O:=O.add x) R;simp only[aj.ext,Q,P,N];cases k<;>cases x<;>simp only[qw] at V<;>simp[aj.add,nI,nB,gj]<;>omega
inductive Be(c:Ty)(M Q:FuncId->Option (List TypeId))(d:List TypeId):List (Nat×List LK)->List Lp->List Fr->Prop where
 |nil:Be c M Q d [] [] []
 |cons (ax:Nat) (ks:List LK) (t:T) (O:aj) (rs:List RK) (lv:List (Nat×List LK)) (sl:List Lp) (st:List Fr):Y O.r=Y rs->t.gw c M Q d (Y O.i+nI ks) (Y O.b+nB ks) (rs++gj ks) ((ax,ks)::lv)=J->Be c M Q d lv sl st->
   Be c M Q d ((ax,ks)::lv) (⟨ax,t,O⟩::sl) (⟨ax,ks,t,O,rs++gj ks⟩::st)
def Be.find{R:List (Nat×aL)}{P H:mz}{L:List Fr}{W:aL}{X:Lp}(h:Be c M Q d R P L)(D:S2 N R=U W)(B:we N P=U (X,H)):
  ∃V G F,Ku N L=U (⟨X.ax,W,X.t,X.O,V++gj W⟩,F)/\Y X.O.r=Y V/\X.t.gw c M Q d (Y X.O.i+nI W) (Y X.O.b+nB W) (V++gj W) ((X.ax,W)::G)=J/\Be c M Q d G H F:=by
 induction h with
 |nil=>simp[S2] at D
 |cons A z t O V R P L y x w v=>
  grind [S2,we,Ku]
def uM:∀(n:Nat)(t:T)(O:aj)(N:bo)(W:List (Nat×aL))(R:mz)(P:List Fr)(o:aX),exec bh n t O R=U o->t.gw c M Q d (Y O.i) (Y O.b) N W=J->Y O.r=Y N->Be c M Q d W R P->
  run c M Q bh d n t O N P=U o
 |0,t,O,N,W,R,P,o,h,_,_,_=>by simp[exec] at h|n+1,.out _ _,O,N,W,R,P,o,h,_,_,_=>by simp[exec] at h|n+1,.stuck _,O,N,W,R,P,o,h,_,_,_=>by simp[exec] at h
 |n+1,.ret v bx F,O,N,W,R,P,o,h,X,L,H=>by
  simp only[exec,dW] at h;simp only[T.gw,aC] at X;obtain⟨w,X⟩:=X;simp only[run,w,dN,aeU];unfold apg at X;split at X
  ·rename_i l D u s
   try rw[u,s]
   simp only[X,dN];simp at X;rw[<-az4 u s X.1,h]
  cases X
 |n+1,.bp v,O,N,W,R,P,o,h,X,L,H=>by simpa only[exec,run] using h
 |n+1,.aJ b t f,O,N,W,R,P,o,h,X,L,H=>by
  simp only[exec] at h;simp only[T.gw,aC] at X;simp only[run];split at h;rename_i B;rw[aH B];exact uM n t O N W R P o h X.1 L H;rename_i B;rw[aP B];exact uM n f O N W R P o h X.2 L H
 |n+1,.aS b t,O,N,W,R,P,o,h,X,L,H=>by
  simp only[exec] at h;simp only[T.gw] at X;simp only[run];split at h;rename_i B;rw[aH B];exact uM n t O N W R P o h X L H;cases h
 |n+1,.call f a0 bx F D fz t,O,N,W,R,P,o,h,X,L,H=>by
  simp only[exec] at h;simp only[T.gw,aC] at X;obtain⟨⟨⟨w,ab⟩,G⟩,ac⟩:=X;have af:=(Xv w).1.len;simp only[run,w,ab,Ci,dN,aeV];unfold aph at G;split at G
  ·rename_i ps qs u s
   try rw[u,s]
   try simp only
   split at G
   ·rename_i l pk qk r a g2 g3 g4
    try rw[a,g2,g3,g4]
    try simp only
    rw[af,<-L] at G;rw[aH G];simp only[aC] at G;rw[S3 a g2 G.1.1.1] at h
    try simp only
    split at h
    ·rename_i ys ho
     try rw[ho]
     try simp only
     split at h;rename_i aa;rw[aH aa];obtain⟨A,z,y⟩:=Hz (O:=O) (azO aa);exact uM n t _ _ W R P o h (by rw[A,z];exact ac) (by rw[y,ga,L]) H;cases h
    grind
    cases h
   cases G
  cases G
 |n+1,.loop ax D x0 t,O,N,W,R,P,o,h,X,L,H=>by
  simp only[exec] at h;simp only[T.gw,aC] at X;simp only[run,X.1,dN];obtain⟨A,z,y⟩:=Hz (O:=O) (Fb (O:=O) (V:=[]) X.1).2;exact uM n t _ _ ((ax,D)::W) _ _ o h (by rw[A,z];exact X.2) (by rw[y,ga,L]) (Be.cons _ _ _ _ _ _ _ _ L X.2 H)
 |n+1,.back ax x,O,N,W,R,P,o,h,X,L,H=>by
  simp only[exec] at h;simp only[T.gw] at X;split at h;rename_i p ag hf;split at X;rename_i D hk;obtain⟨F,al,a1,q1,q2,q3,q4⟩:=H.find hk hf;simp only[run,q1,X,dN];obtain⟨A,z,y⟩:=Hz (O:=p.O) (Fb (O:=O) (V:=[]) X).2;exact uM n p.t _ _ ((p.ax,D)::al) (p::ag) _ o h (by rw[A,z];exact q3) (by rw[y,ga,q2]) (Be.cons _ _ _ _ _ _ _ _ q2 q3 q4);cases X;cases h
 |n+1,.new e x F a3 t,O,N,W,R,P,o,h,X,L,H=>by
  simp only[exec] at h;simp only[T.gw,aC] at X;simp only[run,X.1,dN];exact uM n t _ _ W R P o h (by simpa[aj.add] using X.2) (by simp[aj.add,L]) H
 |n+1,.ah k x F t,O,N,W,R,P,o,h,X,L,H=>by
  simp only[exec] at h;simp only[T.gw,aC] at X;simp only[run,X.1,dN];exact uM n t _ _ W R P o h (by simpa[aj.add] using X.2) (by simp[aj.add,L]) H
 |n+1,.gr g h' t f,O,N,W,R,P,o,h,X,L,H=>by
  simp only[exec] at h;simp only[T.gw,aC] at X;simp only[run];have i1:=λq=>uM n t O N W R P o q X.1 L H
  have i2:=λq=>uM n f O N W R P o q X.2 L H
  split at h;rename_i hg;rw[aH hg];split at h;rename_i hh;rw[aH hh];exact ao4 h i1 i2
  grind
  grind
 |n+1,.pick m g h' t f,O,N,W,R,P,o,h,X,L,H=>by
  simp only[exec] at h;simp only[T.gw,aC] at X;simp only[run];refine ao5 h λj _ q=> ?_
  cases j with|some j=>exact uM n t (O.add (.i j)) N W R P o q (by simpa[aj.add] using X.1) (by simpa[aj.add] using L) H|none=>exact uM n f O N W R P o q X.2 L H
 |n+1,.eF f g e sp sb r F t,O,N,W,R,P,o,h,X,L,H=>by
  simp only[exec] at h;simp only[T.gw,aC] at X;simp only[run,X.1.1,X.1.2,Ci,dN];split at h
  ·rename_i a4 an
   try rw[an]
   exact uM n t _ _ W R P o h (by simpa[aj.add] using X.2) (by simp[aj.add,L]) H
  cases h
def xR(bh:my)(t:T)(O:aj)(X:mz)(o:aX):Prop:=∃n,exec bh n t O X=U o
def NV{bh:my}{X:mz}{o:aX}:xR bh b x X o<->∃n,exec bh (n+1) b x X=U o:=
 ⟨λ⟨n,h⟩=>by
  cases n with|zero=>simp[exec] at h|succ n=>exact⟨n,h⟩,λ⟨n,h⟩=>⟨n+1,h⟩⟩
@[simp] def aJb {v:C} {X:bm} {W:mz} {o:aX}:xR bh (.ret v X g) x W o<->o=.ret ((zw v).map (C.xv x)):=by
 rw[NV];simp only[exec,dW]
 grind
@[simp] def aJc {v:C} {X:mz} {o:aX}:xR bh (.bp v) x X o<->(Kt x v).map .bp=U o:=by
 rw[NV];simp only[exec];simp
@[simp] def aJd {X:BE} {f:T} {W:mz} {o:aX}:xR bh (.aJ X b f) x W o<->if X.ai x=J then xR bh b x W o else xR bh f x W o:=by
 rw[NV];simp only[exec];split<;>rfl
@[simp] def aJe {X:BE} {W:mz} {o:aX}:xR bh (.aS X b) x W o<->X.ai x=J/\xR bh b x W o:=by
 rw[NV];simp only[exec];by_cases V:X.ai x=J;simp only[V,dN,true_and];rfl;simp[V]
@[simp] def aJf {W:aL} {X:mz} {o:aX}:xR bh (.loop N W t b) x X o<->xR bh b (x.ext (t.map (C.xv x))) (⟨N,b,x⟩::X) o:=by
 rw[NV];simp only[exec];rfl
@[simp] def aJg {X:LE} {V:bo} {W:mz} {o:aX}:xR bh (.new k X g V b) x W o<->xR bh b (x.add (.r (gu X x))) W o:=by
 rw[NV];simp only[exec];rfl
end
structure zx(P:Program)(g:FuncId)(eT:TypeId):Prop where
 zr:∀args W,(callFunc g args).run P W=.ok (.enter g args) W
 ret:∀(W:World)(b:Nat),CallsDIn Fence.wide 0 P g #[.pointer (U ⟨b,0,Z⟩)] .returning W λen u W'=>(∃v,en=.returned v)/\u=.returning/\W'=W
 bp:∀(W:World)(b:Nat)(k0 k:Int),W.heap[b]?=U (.cells #[.int I k0] eT (0,0))->CallsDIn Fence.wide 0 P g #[.pointer (U ⟨b,0,Z⟩)] (.panicking [{v:=.iface eT (.int I k),recovered:=E}]) W λen u W'=>
  (∃v,en=.returned v)/\u=.panicking [{v:=.iface eT (.int I k),recovered:=J}]/\W'=W.putObj b (.cells #[.int I k] eT (0,0))
def az5{c:Code}{d:DI}(h:rV c=U d):∃Q P R X W first bC V,c=.seq (.region Q d.uB E) (.seq (.region P R E) d.rest)/\R= #[X,W]/\X.op=.makeFunc (.func d.g) first bC/\first= #[]/\bC= #[.tmp d.te]/\X.dst=U d.tf/\X.guard=Z/\W.op=.defer V/\V.callee=.value (.tmp d.tf)/\V.args= #[]/\W.guard=Z/\W.dst=none:=by
 unfold rV at h;split at h;rename_i Q uB P R x;unfold alm at h;split at h;rename_i X W N;split at h;rename_i g first bC w V M L H G F D
 split at h;rename_i v u B A z y;split at h;rename_i O;simp at O;subst O;cases h;exact⟨Q,P,R,X,W,first,bC,V,rfl,by apply nA;simp[N],M,by apply nA;simp[B],by apply nA;simp[A],L,H,G,z,by apply nA;simp[y],F,D⟩;cases h;cases h;cases h;cases h;cases h
section
variable{p:Sp}{cf:bv}
def az6(j:jd p cf)(al:∀ch W,¬p.R (.panicked ch) W){B:Func}{c:Code}(hf:p.P.funcs[v]?=U B)(hb:B.body=U c){d:DI}(hd:rV c=U d)(bq:zx p.P d.g k)
  (ht:RD cf N v c B.ntmps B.results.toList k t l=b)(A:b.aN p x [])(hg:eC cf.gl x)(R:aA p.S0 p.w0 bT.none cf.ty y x {l with tmps:=[]} ⟨#[],[]⟩ p.w0):
  Calls p.P v (C.az x y t).toArray p.w0 p.R:=by
 subst ht;unfold RD at A;rw[hd] at A;simp only at A;obtain⟨i0,i1,cv,a,o2,first,bC,dc,hc,ho,g1,g2,g3,g4,g5,g6,g7,g8,g9,bs⟩:=az5 hd;subst ho g2 g3;refine Kl hf hb ?_;rw[hc];obtain⟨D1,af⟩:∃D1:bT,D1=⟨[],[],J,[]⟩:=⟨_,rfl⟩;have bx:ef p.w0 D1 l.pd x.y [] p.w0:=by
  subst af;have h:=R.dh;exact⟨h.len,h.rX,h.dJ,h.inj,[],rfl,λ_=>rfl,aw,λd hd=>by simp at hd⟩
 have RE:=R.enter t B.ntmps bx;obtain⟨Rr,an⟩:=RE.room (mP d.uB.toList);refine Kk (vZ (n:=0) (wpIn_region ?_));have hY:=E8 (p:=p) (cf:=cf) D1.dJ ⟨{l with tmps:=t++ee (B.ntmps-Y t) (.bI [])},x,y,[]⟩;have a0:=A4 (ops:=d.uB) j.pt j.zd (zv Z) j.kK (Kq j (Kr j N).1 hY) (D:=D1) (k:=acY cf N v d k (Y l.au) B.results.toList) (kp:=λ_ _=>.stuck "") (Q:=Exit.then (λr q=>jQ Z v p.P (.seq (.region i1 #[a,o2] E) d.rest) (bodyPostM Fence.wide 0 p.P B p.R) r q) (bodyPostM Fence.wide 0 p.P B p.R)) (λch r q pd X hA hR=>(al ch q hR).elim) (n:=0) (fU (λ_=>E) J E 0 (Y l.au) d.uB.toList) 0 _ [] [] x _ _ p.w0
  (λi m' hi=>by have:=Ko _ _ _ _ _ _ _ _ hi;simpa using this) ((jH.here _ _ _ _).go an (cT.refl _ _)) A (λM hx=>by cases hx) Rr hg ?_ (λL s' O' V' r q L' hl hL R' b0=>b0.elim)
 rw[SF] at a0;simpa[Vk] using a0;intro s1 O1 F w o L1 dX cx R1 aa;show jQ Z v p.P (.seq (.region i1 #[a,o2] E) d.rest) (bodyPostM Fence.wide 0 p.P B p.R) w o;unfold acY at aa;split at aa;rename_i G b1;split at aa;rename_i a3;simp only[aC,jP,dl] at a3;obtain⟨⟨⟨a4,b2⟩,b3⟩,b4⟩:=a3;have b5:w.tmps[d.te]?=U (.pointer (U ⟨ad F G,0,Z⟩)):=by
  rcases R1.tmps _ _ b1 with h|h;cases h;exact h
 have b6:w.defers=[]:=by
  have h:=R1.dh;rw[af] at h;obtain⟨ms,q1,q0,-,-⟩:=h.mw;have:=q0 rfl;subst this;simpa using q1
 have b7:(C.fn d.g [.loc G 0]).ai O1 F=.func (.func d.g) #[] #[.pointer (U ⟨ad F G,0,Z⟩)]:=by simp[C.ai,C.az,zm,b4]
 have m:=R1.put (U d.tf) (.fn d.g [.loc G 0]);rw[b7] at m;obtain⟨z,ac⟩:∃z:Deferred,z={target:=.fn (.func d.g) #[.pointer (U ⟨ad F G,0,Z⟩)],args:= #[]}:=⟨_,rfl⟩;have b8:ef p.w0 ⟨[],[],E,[z]⟩ s1.pd O1.y [z] o:=by
  have h:=R1.dh;rw[af] at h;exact⟨h.len,h.rX,h.dJ,h.inj,[],rfl,λ_=>rfl,aw,λd hd=>by simp at hd⟩
 have cy:(s1.put (U d.tf) (.fn d.g [.loc G 0])).pd=s1.pd:=rfl;have R2:aA p.S0 p.w0 ⟨[],[],E,[z]⟩ cf.ty F O1 (s1.put (U d.tf) (.fn d.g [.loc G 0])) {w.put (U d.tf) (.func (.func d.g) #[] #[.pointer (U ⟨ad F G,0,Z⟩)]) with defers:=[z]} o:=
  ⟨m.mem,m.gE,m.ei,m.eb,m.er,b8,m.size,m.tmps,m.eL⟩
 refine Kk (vZ (n:=0) (wpIn_region ?_));have ca:dj (#[a,o2]:dF).size=[0,1]:=rfl;rw[ca];have e1:(execOp w.eval a).run p.P o=.ok (.value (.func (.func d.g) #[] #[.pointer (U ⟨ad F G,0,Z⟩)])) o:=by
  have:w.eval (.tmp d.te)=.pointer (U ⟨ad F G,0,Z⟩):=by simp[Act.eval,abX,b5]
  simp[execOp,g1,this,Instr.makeFunc]
 have e2:(execOp (w.put (U d.tf) (.func (.func d.g) #[] #[.pointer (U ⟨ad F G,0,Z⟩)])).eval o2).run p.P o=.ok (.defer z) o:=by
  have cc:d.tf<w.tmps.size:=by rw[R1.size];exact b3
  have:(w.put (U d.tf) (.func (.func d.g) #[] #[.pointer (U ⟨ad F G,0,Z⟩)])).eval (.tmp d.tf)=.func (.func d.g) #[] #[.pointer (U ⟨ad F G,0,Z⟩)]:=by
   simp[Act.eval,Act.put,abX,cc]
  simp[execOp,g6,resolve,g7,g8,this,Deferred.ofValue,ac]
 have cl:lI a (yielded #[a,o2] w.tmps)=true:=by simp[lI,g5]
 have cn:∀X,lI o2 X=true:=λX=>by simp[lI,g9]
 have co:∀c',a.op≠ .defer c':=λc' a9=>by rw[g1] at a9;cases a9
 have hF:=zv Z;show wpOpsIn _ 0 p.P #[a,o2] _ [0,1] w o;simp only[wpOpsIn,akJ,Cd,vz,cl,cn,dN];refine⟨λv _=>hF.fn v, ?_⟩;rw[AF _ _ _ co,e1,Oper.uponIn_value,g4];refine⟨λv _=>hF.fn v, ?_⟩;rw[show(Sz Z).round=Z from rfl,av8,e2,aI5];have cp:({(w.put (U d.tf) (.func (.func d.g) #[] #[.pointer (U ⟨ad F G,0,Z⟩)])) with defers:=z::(w.put (U d.tf) (.func (.func d.g) #[] #[.pointer (U ⟨ad F G,0,Z⟩)])).defers}:Act).put o2.dst undef={w.put (U d.tf) (.func (.func d.g) #[] #[.pointer (U ⟨ad F G,0,Z⟩)]) with defers:=[z]}:=by
  rw[bs];have:(w.put (U d.tf) (.func (.func d.g) #[] #[.pointer (U ⟨ad F G,0,Z⟩)])).defers=[]:=b6;rw[this];rfl
 rw[cp];show jQ Z v p.P d.rest (bodyPostM Fence.wide 0 p.P B p.R) _ o;have cs:(jH.mk (s1.put (U d.tf) (.fn d.g [.loc G 0])) O1 F L1).lM (s1.put (U d.tf) (.fn d.g [.loc G 0])) O1 F L1:=jH.here _ _ _ _;refine(Kr j N).1 ⟨[],[],E,[z]⟩ _ iB Z v d.rest _ _ L1 O1 F _ o _ (E8 _ _) cs rfl (λhh=>by cases hh) ⟨B,hf⟩ aa R2 ((hg.ext an.ext).ext dX.ext) (λch r q pd X hA hR=>(al ch q hR).elim) ?_;intro e s' O' V' r q L' hl hL RR A;obtain⟨ba,q1,q0,q2,q3⟩:=RR.dh.mw;have R3:=RR.ri q1;have cA:({r with defers:=[z]}:Act)={r with defers:=[z]}:=rfl;have bb:∀d0∈ba,q.heap[d0]?=U (.deferred (U [])):=λd0 ct=>(q3 d0 (by simp[ct])).1
 have bc:ba.Nodup:=(xl.1 q2).1;have bd:ad V' G=ad F G:=hl.ext.ad G b2;have bf:∀Wx,(invoke z.target z.args).run p.P Wx=.ok (.enter d.g #[.pointer (U ⟨ad F G,0,Z⟩)]) Wx:=λWx=>by
  rw[ac];simp[invoke,bq.zr]
 have bg:∀s2:S,∀Wx,aA p.S0 p.w0 ⟨[],[],E,[z]⟩ cf.ty V' O' s2 {r with defers:=[z]} Wx->(sQ cf (Y l.au) B.results.toList s2).aN p O' L'->LeavesInM Fence.wide 0 p.P B r.tmps p.R [] .returning Wx:=by
  intro s2 Wx R4 ab;unfold sQ at ab;split at ab;rename_i H cu;refine⟨_,Kh R4 j.kK cu, ?_⟩;exact ab O'.y V' _ (by rw[j.pt];exact(R4.mem.take _).lL (NI _));exact ab.elim
 have bk:(sQ cf (Y l.au) B.results.toList s').aN p O' L'->LeavesInM Fence.wide 0 p.P B r.tmps p.R r.defers .returning q:=by
  intro ab;rw[q1];refine sa aw bc bb ⟨aw,.inr ⟨by simp[Fence.wide],_,_,_,_,by rw[ac],bf _,λg hg=>trivial, ?_⟩⟩;refine(bq.ret _ _).mono ?_;rintro en u W4 ⟨⟨L,rfl⟩,rfl,rfl⟩;exact bg s' _ R3 ab
 cases e with
 |normal=>exact bk A|ret=>exact bk A|exit id=>exact A.elim
 |bp L=>
  simp only[acU] at A;split at A;rename_i tt M;split at A;rename_i bt X bl;split at A;rename_i br;simp only[aC,ge] at br;obtain⟨rfl,rfl⟩:=br;have ag:=R3.mem.box G bt _ bl;rw[qz a4] at ag;rw[bd] at ag;show LeavesInM Fence.wide 0 p.P B r.tmps p.R r.defers (.panicking _) q;rw[q1];refine sa aw bc bb ⟨aw,.inr ⟨by simp[Fence.wide],_,_,_,_,by rw[ac],bf _,λg hg=>trivial, ?_⟩⟩;refine(bq.bp _ (ad F G) (X.ai O') (M.ai O') ag).mono ?_;rintro en u W4 ⟨⟨L,rfl⟩,rfl,rfl⟩;have R4:=R3.Wz (cs':=[.int I M]) bl;rw[qz a4,bd] at R4;exact bg _ _ R4 A;exact A.elim;exact A.elim;exact A.elim
 exact aa.elim;exact aa.elim
end
def qE:T->T
 |.aJ _ t _=>t|.aS _ t=>t|.call _ _ _ _ _ _ t=>t|.loop _ _ _ t=>t|.new _ _ _ _ t=>t|.ah _ _ _ t=>t|.gr _ _ t _=>t|.pick _ _ _ t _=>t|.eF _ _ _ _ _ _ _ t=>t|t=>t
def NW:T->T
 |.aJ _ _ t=>t|.gr _ _ _ t=>t|.pick _ _ _ _ t=>t|t=>t
def th(g t:T):T:=match g with|.stuck m=>.stuck m|_=>t
def T.cut(t:T):T->T:=T.rec (motive:=λ_=>T->T) (λe s g=>th g (.out e s)) (λv b r g=>th g (.ret v b r)) (λv g=>th g (.bp v)) (λb _ _ X W g=>th g (.aJ b (X (qE g)) (W (NW g)))) (λb _ X g=>th g (.aS b (X (qE g)))) (λf a b r k s _ X g=>th g (.call f a b r k s (X (qE g)))) (λl k x _ X g=>th g (.loop l k x (X (qE g)))) (λl x g=>th g (.back l x)) (λe x r V _ X g=>th g (.new e x r V (X (qE g)))) (λk x r _ X g=>th g (.ah k x r (X (qE g)))) (λb c _ _ X W g=>th g (.gr b c (X (qE g)) (W (NW g)))) (λn b c _ _ X W g=>th g (.pick n b c (X (qE g)) (W (NW g)))) (λf R e Q O r N _ X g=>th g (.eF f R e Q O r N (X (qE g)))) (λm g=>th g (.stuck m)) t
def wh{p:Sp}{g t:T}{L:dm}(h:(th g t).aN p x L):t.aN p x L:=by
 unfold th at h;split at h;exact h.elim;exact h
def wj{p:Sp}:∀(t g:T)(O:aj)(L:dm),(t.cut g).aN p O L->t.aN p O L
 |.out _ _,_,_,_,h=>wh h|.ret _ _ _,_,_,_,h=>wh h|.bp _,_,_,_,h=>wh h|.back _ _,_,_,_,h=>wh h|.stuck _,_,_,_,h=>wh h
 |.aJ b t f,g,O,L,h=>by
  have h:=wh (g:=g) (t:=.aJ b (t.cut (qE g)) (f.cut (NW g))) h;exact⟨λe=>wj _ _ _ _ (h.1 e),λe=>wj _ _ _ _ (h.2 e)⟩
 |.aS b t,g,O,L,h=>by
  have h:=wh (g:=g) (t:=.aS b (t.cut (qE g))) h;exact⟨h.1,wj _ _ _ _ h.2⟩
 |.call f a b r k s t,g,O,L,h=>by
  have h:=wh (g:=g) (t:=.call f a b r k s (t.cut (qE g))) h;simp only[T.aN] at h⊢;cases A:zg s with
  |some Vq=>
   simp only[A] at h⊢;intro y V W H;refine(h y V W H).mono λe z R=> ?_
   cases e with
   |returned v=>
    obtain⟨M,Q,N,F,D,B,w⟩:=R;exact⟨M,Q,N,F,D,B,wj _ _ _ _ w⟩
   |panicked c=>exact R|outgrown=>exact R
  |none=>
  simp only[A] at h⊢;intro y V W H;refine(h y V W H).mono λe z R=> ?_
  cases e with
  |returned v=>
   obtain⟨M,Q,N,F,D,B⟩:=R;exact⟨M,Q,N,F,D,wj _ _ _ _ B⟩
  |panicked c=>exact R|outgrown=>exact R
 |.loop l k x t,g,O,L,h=>by
  have h:=wh (g:=g) (t:=.loop l k x (t.cut (qE g))) h;obtain⟨X,u,Q,N⟩:=h;exact⟨X,u,Q,λM a b=>wj _ _ _ _ (N M a b)⟩
 |.new e x r q t,g,O,L,h=>by
  have h:=wh (g:=g) (t:=.new e x r q (t.cut (qE g))) h;exact λo a=>wj _ _ _ _ (h o a)
 |.ah k x r t,g,O,L,h=>by
  have h:=wh (g:=g) (t:=.ah k x r (t.cut (qE g))) h;exact wj t (qE g) _ _ h
 |.gr b c t f,g,O,L,h=>by
  have h:=wh (g:=g) (t:=.gr b c (t.cut (qE g)) (f.cut (NW g))) h;exact⟨λe=>wj _ _ _ _ (h.1 e),λe=>wj _ _ _ _ (h.2 e)⟩
 |.pick n b c t f,g,O,L,h=>by
  have h:=wh (g:=g) (t:=.pick n b c (t.cut (qE g)) (f.cut (NW g))) h;exact⟨λj m a2 i=>wj _ _ _ _ (h.1 j m a2 i),λe=>wj _ _ _ _ (h.2 e)⟩
 |.eF f d e sp st r rs t,g,O,L,h=>by
  have h:=wh (g:=g) (t:=.eF f d e sp st r rs (t.cut (qE g))) h;obtain⟨aa,Q,N⟩:=h;exact⟨aa,Q,wj _ _ _ _ N⟩
def Kx(c:Bool)(g t:T):T:=cond c (t.cut g) t
def api{p:Sp}{c:Bool}{g:T}{L:dm}(h:(Kx c g b).aN p x L):b.aN p x L:=by
 cases c;exact h;exact wj _ _ _ _ h
section
variable{P:Program}{u:Ty}{M Q:FuncId->mg}{bh:my}{G:World->Prop}{H B:iX}{X A:aL}
structure NX(u:Ty)(gl:nY)(glk:bo)(glv:aE)(W:World)(glw:aE):Prop where
 len:Y glv=Y glw
 eq:∀(k:Nat)(v v':RV),glv[k]?=U v->glw[k]?=U v'->dL v v'
 held:∀(k:Nat)(e:RK)(rv:RV),glk[k]?=U e->glw[k]?=U rv->bG W u e rv
 ae8:∀xs,eC gl (dI glw xs)
def ae9{a:bv}{w:aE}{l:aq}{nb:Nat}{z:bo}
  (ac:a.ty=u)(af:∀f,Hy P u M Q G f (bh f))(hG:∀e W',Below e.heap.size e W'->G e->G W')(ag:fH u H=U X)
  (hl:gv u B t=U l)(al:lA 0 0 (Y w) A l=J)(bY:z=g++gj A)(an:∀(k:Nat)(b:TypeId),z[k]?≠U (.own b))(a0:Y w=Y g)(d:w=[]\/wc X=J)
  (a1:∀F L,dK A L->(dI F L).i.length=N)(a3:∀F L,dK A L->(dI F L).b.length=nb)
   (a4:G e){F:aE}(n:NX u a.gl g w e F){xh L:aZ}{o:aX}{V:Nat}(hN:run u M Q bh H V b (dI w xh) z []=U o)(hx:xN xh L)(s:dK A L)(hH:xQ u e A L):
  b.aN (NT P u e H X A L o) (dI F L) []/\C.az (dI F L) [] t=qD u B (nO A L)/\aA [] e bT.none a.ty [] (dI F L) ⟨[],[],N,nb,z,0,0,[]⟩ ⟨#[],[]⟩ e:=by
 have aa:Y F=Y g:=by rw[<-n.len];exact a0
 have hv:C.az (dI F L) [] t=qD u B (nO A L):=by
  rw[NS hl,dI,Kw (by rw[<-n.len];exact al) s rfl rfl rfl]
 have ab:(dI F L).r.length=Y z:=by rw[bY];exact Hx s aa
 have hS:j6 (dI w xh) (dI F L):=j6.ext ⟨rfl,rfl,n.len,λk v v' g1 g2=>n.eq k v v' g1 g2⟩ hx;have a9:b.aN (NT P u e H X A L o) (dI F L) []:=by
  refine az1 (old:=λR=>rj u A L R\/F≠[]) af hG a4 ag (λys R p c=> ?_) V b _ _ z [] [] hN hS ab ?_ (uL.nil _);rcases c with c|c;exact c;rcases d with d|d
  grind
  exact(apf d p).elim;rw[bY];refine Bc.ext (λR p=> ?_) s aa (λR p=>.inr (.inl p));obtain⟨k,O,hk,hl⟩:=p
  grind
 have ba:∀(k:Nat)(O:RK)(D:RV),z[k]?=U O->(dI F L).r[k]?=U D->bG e u O D:=by
  intro k O D g1 g2;have:=Hj (PP:=λO D=>bG e u O D) A L ⟨[],[],0,0,g,0,0,[]⟩ ⟨[],[],F,[]⟩ s aa (λq O D x m=>hH q O D x m) (λk O D x m=>n.held k O D x m);rw[SS] at this;exact this k O D (by rw[<-bY];exact g1) g2
 exact⟨a9,hv,⟨⟨fl.refl _ _,λi h=>by simp[aK,bS] at h,λi j h=>by simp[aK,bS] at h,λi b cs h=>by simp[bS] at h,λk O D x m=>⟨by rw[ac];exact ba k O D x m,λR p i hi=>by simp[aK,bS] at hi⟩⟩,rfl,a1 _ L s,a3 _ L s,ab,by rw[show(dI F L).y=[] from Hh L _];exact SR _ _,rfl,λb sv h=>by simp at h,λk O D R x=>bE x (an k O)⟩⟩
def az7{cf:bv}{y:Func}{c:Code}{F:aZ->jR}{glk:bo}{glv:aE}{l:aq}{x s:Nat}
  (ac:∀w R,(∀r W V o,w.heap.size<=V->R (.panicked r) W->R (.panicked r) (W.putObj V o))->jd ⟨P,u,[],w,bT.none,R,λ_ _ _=>False⟩ cf)(af:cf.ty=u)(ag:∀v,Hy P u M Q G v (bh v))(hG:∀W q,Below W.heap.size W q->G W->G q)
  (hf:P.funcs[v]?=U y)(hb:y.body=U c)(al:M v=U B)(an:Q v=U H)(a0:fH u B=U A)(m:fH u H=U X)
  (hl:gv u B t=U l)(a1:lA 0 0 (Y glv) A l=J)(bY:g=glk++gj A)(a3:∀(k:Nat)(b:TypeId),g[k]?≠U (.own b))(a4:Y glv=Y glk)(hq:glv=[]\/wc X=J)
  (a9:∀z D,dK A D->(dI z D).i.length=x)(ba:∀z D,dK A D->(dI z D).b.length=s)
  (bb:∀W,G W->∃z,NX u cf.gl glk glv W z)
  (ht:∀(p:Sp)(O:aj),b.aN p O []->(RC cf N v c y.ntmps y.results.toList t ⟨[],[],x,s,g,0,0,[]⟩).aN p O [])
  (hF:∀D o,dK A D->F D=U o->∃L,run u M Q bh H L b (dI glv D) g []=U o):Xy P u M Q G v F:=by
 intro bd bf bg bk j h e d xh D o ho a aa W ab hH;rw[al] at j;cases j;rw[an] at h;cases h;rw[a0] at e;cases e;rw[m] at d;cases d;obtain⟨L,hN⟩:=hF xh o (SQ aa a) ho;obtain⟨z,hL⟩:=bb W ab;obtain⟨bc,hv,hR⟩:=ae9 af ag hG m hl a1 bY a3 a4 hq a9 ba ab hL hN a aa hH;rw[<-hv];exact aoG (p:=NT P u W H X A D o) (cf:=cf) (ac W _ (ae7 W)) hf hb rfl (ht _ _ bc) (hL.ae8 D) hR
def az8{cf:bv}{s:Func}{c:Code}{F:aZ->jR}{glk:bo}{glv:aE}{l:aq}{j h:Nat}{d:DI}
  (ac:∀w R,(∀r W V o,w.heap.size<=V->R (.panicked r) W->R (.panicked r) (W.putObj V o))->jd ⟨P,u,[],w,bT.none,R,λ_ _ _=>False⟩ cf)(af:cf.ty=u)(ag:∀v,Hy P u M Q G v (bh v))(hG:∀W q,Below W.heap.size W q->G W->G q)
  (hf:P.funcs[v]?=U s)(hb:s.body=U c)(hd:rV c=U d)(bq:zx P d.g k)(al:M v=U B)(an:Q v=U H)(a0:fH u B=U A)(e:fH u H=U X)
  (hl:gv u B t=U l)(a1:lA 0 0 (Y glv) A l=J)(bY:g=glk++gj A)(a3:∀(L:Nat)(b:TypeId),g[L]?≠U (.own b))(a4:Y glv=Y glk)(hq:glv=[]\/wc X=J)
  (a9:∀x y,dK A y->(dI x y).i.length=j)(ba:∀x y,dK A y->(dI x y).b.length=h)
  (bb:∀W,G W->∃x,NX u cf.gl glk glv W x)
  (ht:∀(p:Sp)(O:aj),b.aN p O []->(RD cf N v c s.ntmps s.results.toList k t ⟨[],[],j,h,g,0,0,[]⟩).aN p O [])(bd:∀y D,F y≠U (.bp D))
  (hF:∀y o,dK A y->F y=U o->∃z,run u M Q bh H z b (dI glv y) g []=U o):Xy P u M Q G v F:=by
 intro bf bg bk bl a h2 h3 h4 xh y o ho hx aa W ab hH;rw[al] at a;cases a;rw[an] at h2;cases h2;rw[a0] at h3;cases h3;rw[e] at h4;cases h4;obtain⟨z,hN⟩:=hF xh o (SQ aa hx) ho;obtain⟨x,hL⟩:=bb W ab;obtain⟨bc,hv,m⟩:=ae9 af ag hG e hl a1 bY a3 a4 hq a9 ba ab hL hN hx aa hH;rw[<-hv];refine az6 (p:=NT P u W H X A y o) (cf:=cf) (ac W _ (ae7 W)) (λr q m=> ?_) hf hb hd bq rfl (ht _ _ bc) (hL.ae8 y) m;obtain⟨-,D,h5,-⟩:=m
 grind
end
def apj:Op->Bool
 |.move _|.assign _|.fieldAddr _ _ _|.field _ _ _|.load _ _|.indexAddr _ _ _|.build _ _|.index _ _ _|.unOp _ _ _|.convert _ _ _|.makeInterface _ _|.makeFunc _ _ _|.extract _ _|.nilCheck _|.alloc _|.box _ _|.pick _ _ _=>J
 |.binOp X _ _ _ _=>match X with|.eql|.neq=>E|_=>J
 |_=>E
def afa(X:bv)(m:OM)(s:S):Bool:=(EB X m s).isSome
def az9{X:bv}{m:OM}(h:afa X m l=E):EB X m l=none:=by
 simpa[afa] using h
def Xz(R:bv)(O:qj)(m:OM)(s:S)(X:S->Fx->T)(Q:C->S->T)(V:Fx):T:=
 if apj m.o.op then match gI R m s with|.ok W=>X W V|.aS b W=>.aS b (X W V)|.split b N M=>EA s V b (X N) (X M)|.no L=>.stuck L
 else if afa R m s then Cx R O m s X Q V else match Cv R m s with
 |U (e,H,G,P)=>GQ e (λg bC=>O (.fn g) (P++bC) s (λv W=>X (W.put m.o.dst v) (qn s V)) Q) H G
 |none=>
 match et R s m.o with
 |.call (.fn g) P=>O (.fn g) P s (λv W=>X (W.put m.o.dst v) (qn s V)) Q|.call (.yl n) P=>if m.so then O (.yl n) P s (λv W=>X (W.put m.o.dst v) (qn s V)) Q else .stuck ""
 |.bp v=>Q v s|.no=>.stuck ""
 |.op=>match Cu R m s X V with
  |U t=>t
  |none=>match eX R m.o m.bM m.dr s with
  |U b=>.aS b.aS (.new b.e b.x s.rs b.s.rs (X b.s (qn s V)))
  |none=>match gI R m s with|.ok W=>X W V|.aS b W=>.aS b (X W V)|.split b N M=>EA s V b (X N) (X M)|.no L=>.stuck L
def aAa(X:bv)(R:qj)(m:OM)(s:S)(Q:S->Fx->T)(P:C->S->T)(O:Fx):Xz X R m s Q P O=Cx X R m s Q P O:=by
 unfold Xz;split;rename_i W;unfold Cx;cases V:m.o.op<;>rw[V] at W<;>simp only[apj,iW] at W<;>try(simp[Cv,EB,et,Cu,eX,V]<;>rfl)
 rename_i N t x y z;cases N<;>simp only[iW] at W<;>(simp[Cv,EB,et,Cu,eX,V]<;>rfl);split;rfl;rename_i M;unfold Cx;rw[az9 (by simpa using M)];cases Cv X m s<;>rfl
def OM.up(n:Nat)(m:OM):OM:={m with ix:=m.ix+n}
def XA(bM:Nat->Bool)(X W:Bool)(k:Nat):∀(l:qh)(j n:Nat),fU bM X W j (n+k) l=(fU bM X W j n l).map (OM.up k)
 |[],_,_=>rfl
 |o::r,j,n=>by
  simp only[fU,dG];congr 1;rw[<-XA bM X W k r]
  grind
def aAb(k:Nat)(l:cN)(X:ar):MC (l.map (OM.up k)) X=(MC l X).map (OM.up k):=by
 simp only[MC,List.map_filterMap,eo]
theorem afb(k:Nat)(X:ar):∀l:cN,CB X (l.map (OM.up k))=CB X l
 |[]=>rfl|x::r=>by simp only[dG,CB,afb k X r,QX];rfl
def apk(k:Nat)(X:ar):∀(l W:cN),vM X (W.map (OM.up k)) (l.map (OM.up k))=(vM X W l).map (OM.up k)
 |[],_=>rfl
 |m::r,W=>by
  simp only[dG,vM];congr 1;have h:=afb k X (m::r);simp at h;rw[h,QX];rfl;rw[<-apk k X r (W++[m]),GF];rfl
def apl(k:Nat)(X:dF):∀(l:cN)(done:ar),GU X done (l.map (OM.up k))=GU X done l
 |[],_=>rfl|x::r,done=>by simp only[dG,GU,apl k X r];rfl
def aAc(k a b:Nat):(a+k !=b+k)=(a !=b):=by
 grind
def aAd(k:Nat)(X:dF)(x y:OM):vL X (OM.up k x) (OM.up k y)=vL X x y:=by
 have h:((OM.up k x).ix !=(OM.up k y).ix)=(x.ix !=y.ix):=aAc k _ _;unfold vL MB Rk;rw[h];rfl
def apm(k:Nat)(X:dF)(W:ar):∀l:cN,GS X W (l.map (OM.up k))=GS X W l
 |[]=>rfl
 |x::r=>by
  simp only[dG,GS,apm k X W r,QX];congr 2;funext y;simp only[Function.comp,aAd];rfl
def apn(k:Nat):∀l:ar,n9 (l.map (· +k))=n9 l
 |[]=>rfl
 |x::r=>by
  simp only[dG,n9,apn k r];simp
def qF(X:dF)(n:Nat):cN:=vM (qo X.toList) [] (MC (fU (Rm X.toList (qo X.toList)) E J 0 n X.toList) (Rl X.toList X.size []))
def aAe(X:dF)(n:Nat):qF X n=(qF X 0).map (OM.up n):=by
 unfold qF;rw[show fU (Rm X.toList (qo X.toList)) E J 0 n X.toList=(fU (Rm X.toList (qo X.toList)) E J 0 0 X.toList).map (OM.up n) by rw[<-XA];simp,aAb,<-apk];rfl
def XB(X:dF)(n:Nat):Option cN:=match EG X 0 with|U l=>U (l.map (OM.up n))|none=>Z
def apo(X:dF)(n:Nat):EG X n=if VW X.toList (qo X.toList)&&GU X [] (qF X n)&&GS X (qo X.toList) (qF X n)&&n9 ((qF X n).filterMap (·.o.dst))&&n9 ((qF X n).map (·.j))&&n9 (((qF X n).filter λm=>gT m.o.op).map (·.ix))&&(qF X n).length==X.size&&(dj X.size).all (λi=>(qF X n).any λm=>m.j==i) then U (qF X n) else none:=rfl
def aAf(X:dF)(n:Nat):XB X n=EG X n:=by
 unfold XB;rw[apo X n,apo X 0,aAe X n,apl,apm];have W:((qF X 0).map (OM.up n)).filterMap (·.o.dst)=(qF X 0).filterMap (·.o.dst):=by rw[aI2];rfl
 have V:((qF X 0).map (OM.up n)).map (·.j)=(qF X 0).map (·.j):=by rw[oY];rfl
 have R:(((qF X 0).map (OM.up n)).filter λm=>gT m.o.op).map (·.ix)=(((qF X 0).filter λm=>gT m.o.op).map (·.ix)).map (· +n):=by rw[av9,oY,oY];rfl
 have Q:∀i,(((qF X 0).map (OM.up n)).any λm=>m.j==i)=((qF X 0).any λm=>m.j==i):=λi=>by rw[awg];rfl
 rw[W,V,R,apn,oX];simp only[Q]
 grind
def apq(W:Bool)(X:dF)(n:Nat):EK W X n=(EK W X 0).map (OM.up n)/\EL W X n=(EL W X 0).map (OM.up n):=by
 unfold EK EL;rw[show fU (λ_=>E) E J 0 n X.toList=(fU (λ_=>E) E J 0 0 X.toList).map (OM.up n) by rw[<-XA];simp,av9,av9];exact⟨rfl,rfl⟩
theorem aAg(W:Bool)(X:dF)(n:Nat):MJ W X n=MJ W X 0:=by
 unfold MJ;obtain⟨V,R⟩:=apq W X n;rw[V,R,show fU (λ_=>E) E J 0 n X.toList=(fU (λ_=>E) E J 0 0 X.toList).map (OM.up n) by rw[<-XA];simp];unfold acK;rw[<-GF];have Q:∀l:cN,(l.map (OM.up n)).filterMap (·.o.dst)=l.filterMap (·.o.dst):=λl=>by rw[aI2];rfl
 have P:∀l:cN,(l.map (OM.up n)).map (·.j)=l.map (·.j):=λl=>by rw[oY];rfl
 rw[Q,P,oX];simp only[QX,awg,Function.comp_def];rfl
def XC(V:bv)(W:Bool)(X:dF)(s:S):Option Ru:=
 if(!W||(acJ V s X.toList||(V.jC&&X.toList.any λo=>alh o.op))&&CB (qo X.toList) (EL W X 0))&&MJ W X 0 then(GY V ((EK W X 0).map (OM.up (Y s.au))) (s.room (mP X.toList))).bind (chI V ((EK W X 0).map (OM.up (Y s.au))) ((EL W X 0).map (OM.up (Y s.au)))) else Z
def aAh(V:bv)(X:Bool)(W:dF)(s:S):XC V X W s=MK V X W s:=by
 unfold XC MK;obtain⟨R,Q⟩:=apq X W (Y s.au)
 grind [aAg,afb]
def Ky{X:Type}(l:List X):(List X->T)->T:=AG (motive:=λ_=>(List X->T)->T) (λk=>k []) (λx _ W k=>W λV=>k (x::V)) l
def afc{W:Type}:∀(l:List W)(k:List W->T),Ky l k=k l
 |[],_=>rfl|x::X,k=>afc X λX=>k (x::X)
def cz(n:Nat)(k:Nat->T):T:=Jz (motive:=λ_=>T) (k 0) (λm _=>k (Nat.succ m)) n
def lB:∀(n:Nat)(k:Nat->T),cz n k=k n
 |0,_=>rfl|_+1,_=>rfl
def S.afd(s:S)(k:S->T):T:=S.rec (motive:=λ_=>T) (λX b W V R ax Q P=>Ky X λX=>Ky b λb=>cz W λW=>cz V λV=>Ky R λR=>cz ax λax=>cz Q λQ=>Ky P λP=>k ⟨X,b,W,V,R,ax,Q,P⟩) s
def aAi(s:S)(k:S->T):s.afd k=k s:=by
 cases s;simp only[S.afd,afc,lB]
def S4{X:Type}(l:List X)(k:List X->T):T:=AG (motive:=λ_=>T) (k []) (λx W _=>k (x::W)) l
def aAj{X:Type}(l:List X)(k:List X->T):S4 l k=k l:=by cases l<;>rfl
def S.afe(s:S)(k:S->T):T:=S.rec (motive:=λ_=>T) (λX b W V R ax Q P=>S4 X λX=>S4 b λb=>cz W λW=>cz V λV=>S4 R λR=>cz ax λax=>cz Q λQ=>S4 P λP=>k ⟨X,b,W,V,R,ax,Q,P⟩) s
def aAk(s:S)(k:S->T):s.afe k=k s:=by
 cases s;simp only[S.afe,aAj,lB]
def Bf(X:bv)(W:qj)(V:dF)(k:S->T)(R:C->S->T):cN->S->Fx->T
 |[],s,_=>k s|m::Q,s,P=>s.afe λs=>VP V m s P (Xz X W m s (Bf X W V k R Q) R) (Bf X W V k R Q (s.put m.o.dst (.bI [])))
def S5(X:bv)(W:qj)(R:dF)(k:S->T)(V:C->S->T):∀(l:cN),Bf X W R k V l=lJ X W R k V l
 |[]=>by funext s P;rfl
 |m::Q=>by
  funext s P;have:Xz X W m s (Bf X W R k V Q) V=Cx X W m s (lJ X W R k V Q) V:=by
   funext P;rw[aAa,S5 X W R k V Q]
  simp only[Bf,lJ,aAk];rw[this,S5 X W R k V Q]
def S7(n:Int)(k:Int->T):T:=Int.rec (motive:=λ_=>T) (λn=>cz n λn=>k (ak1 n)) (λn=>cz n λn=>k (akY n)) n
def aAl:∀(n:Int)(k:Int->T),S7 n k=k n
 |.ofNat n,k=>lB n λn=>k (ak1 n)|.negSucc n,k=>lB n λn=>k (akY n)
def K.deep(e:K):(K->T)->T:=K.rec (motive_1:=λ_=>(K->T)->T) (motive_2:=λ_=>(BE->T)->T) (motive_3:=λ_=>(RE->T)->T) (λn k=>S7 n λn=>k (.c n)) (λn k=>cz n λn=>k (.v n)) (λo q a b X W k=>X λa=>W λb=>k (.bin o q a b)) (λq a X k=>X λa=>k (.conv q a)) (λr V k=>V λr=>k (.len r)) (λm a b X W k=>X λa=>W λb=>k (.mm m a b)) (λb x y W P O k=>W λb=>P λx=>O λy=>k (.dv b x y)) (λr i j V R k=>V λr=>R λi=>cz j λj=>k (.cell r i j)) (λr i V R k=>V λr=>R λi=>k (.o7 r i)) (λr n a b c j V X W Q k=>V λr=>X λa=>W λb=>Q λc=>cz n λn=>cz j λj=>k (.look r n a b c j)) (λb k=>k (.c b)) (λn k=>cz n λn=>k (.v n)) (λo a b X W k=>X λa=>W λb=>k (.cmp o a b)) (λa X k=>X λa=>k (.not a)) (λa b X W k=>X λa=>W λb=>k (.and a b)) (λa b X W k=>X λa=>W λb=>k (.beq a b)) (λb x y W P O k=>W λb=>P λx=>O λy=>k (.dv b x y)) (λr i j V R k=>V λr=>R λi=>cz j λj=>k (.cell r i j)) (λa b X W k=>X λa=>W λb=>k (.seq a b)) (λr n a b c j V X W Q k=>V λr=>X λa=>W λb=>Q λc=>cz n λn=>cz j λj=>k (.look r n a b c j)) (λr n a b c V X W Q k=>V λr=>X λa=>W λb=>Q λc=>cz n λn=>k (.has r n a b c)) (λn k=>cz n λn=>k (.v n)) (λr i j q V R k=>V λr=>R λi=>cz j λj=>k (.cell r i j q)) (λv k=>k (.k v)) e
def BE.deep(e:BE):(BE->T)->T:=BE.rec (motive_1:=λ_=>(K->T)->T) (motive_2:=λ_=>(BE->T)->T) (motive_3:=λ_=>(RE->T)->T) (λn k=>S7 n λn=>k (.c n)) (λn k=>cz n λn=>k (.v n)) (λo q a b X W k=>X λa=>W λb=>k (.bin o q a b)) (λq a X k=>X λa=>k (.conv q a)) (λr V k=>V λr=>k (.len r)) (λm a b X W k=>X λa=>W λb=>k (.mm m a b)) (λb x y W P O k=>W λb=>P λx=>O λy=>k (.dv b x y)) (λr i j V R k=>V λr=>R λi=>cz j λj=>k (.cell r i j)) (λr i V R k=>V λr=>R λi=>k (.o7 r i)) (λr n a b c j V X W Q k=>V λr=>X λa=>W λb=>Q λc=>cz n λn=>cz j λj=>k (.look r n a b c j)) (λb k=>k (.c b)) (λn k=>cz n λn=>k (.v n)) (λo a b X W k=>X λa=>W λb=>k (.cmp o a b)) (λa X k=>X λa=>k (.not a)) (λa b X W k=>X λa=>W λb=>k (.and a b)) (λa b X W k=>X λa=>W λb=>k (.beq a b)) (λb x y W P O k=>W λb=>P λx=>O λy=>k (.dv b x y)) (λr i j V R k=>V λr=>R λi=>cz j λj=>k (.cell r i j)) (λa b X W k=>X λa=>W λb=>k (.seq a b)) (λr n a b c j V X W Q k=>V λr=>X λa=>W λb=>Q λc=>cz n λn=>cz j λj=>k (.look r n a b c j)) (λr n a b c V X W Q k=>V λr=>X λa=>W λb=>Q λc=>cz n λn=>k (.has r n a b c)) (λn k=>cz n λn=>k (.v n)) (λr i j q V R k=>V λr=>R λi=>cz j λj=>k (.cell r i j q)) (λv k=>k (.k v)) e
def RE.deep(e:RE):(RE->T)->T:=RE.rec (motive_1:=λ_=>(K->T)->T) (motive_2:=λ_=>(BE->T)->T) (motive_3:=λ_=>(RE->T)->T) (λn k=>S7 n λn=>k (.c n)) (λn k=>cz n λn=>k (.v n)) (λo q a b X W k=>X λa=>W λb=>k (.bin o q a b)) (λq a X k=>X λa=>k (.conv q a)) (λr V k=>V λr=>k (.len r)) (λm a b X W k=>X λa=>W λb=>k (.mm m a b)) (λb x y W P O k=>W λb=>P λx=>O λy=>k (.dv b x y)) (λr i j V R k=>V λr=>R λi=>cz j λj=>k (.cell r i j)) (λr i V R k=>V λr=>R λi=>k (.o7 r i)) (λr n a b c j V X W Q k=>V λr=>X λa=>W λb=>Q λc=>cz n λn=>cz j λj=>k (.look r n a b c j)) (λb k=>k (.c b)) (λn k=>cz n λn=>k (.v n)) (λo a b X W k=>X λa=>W λb=>k (.cmp o a b)) (λa X k=>X λa=>k (.not a)) (λa b X W k=>X λa=>W λb=>k (.and a b)) (λa b X W k=>X λa=>W λb=>k (.beq a b)) (λb x y W P O k=>W λb=>P λx=>O λy=>k (.dv b x y)) (λr i j V R k=>V λr=>R λi=>cz j λj=>k (.cell r i j)) (λa b X W k=>X λa=>W λb=>k (.seq a b)) (λr n a b c j V X W Q k=>V λr=>X λa=>W λb=>Q λc=>cz n λn=>cz j λj=>k (.look r n a b c j)) (λr n a b c V X W Q k=>V λr=>X λa=>W λb=>Q λc=>cz n λn=>k (.has r n a b c)) (λn k=>cz n λn=>k (.v n)) (λr i j q V R k=>V λr=>R λi=>cz j λj=>k (.cell r i j q)) (λv k=>k (.k v)) e
mutual
def K.fC:∀(e:K)(k:K->T),e.deep k=k e
 |.c n,k=>by show(S7 n λn=>k (.c n))=_;rw[aAl]|.v n,k=>by show(cz n λn=>k (.v n))=_;rw[lB]|.bin o q a b,k=>by show(K.deep a λa=>K.deep b λb=>k (.bin o q a b))=_;rw[K.fC a,K.fC b]|.conv q a,k=>by show(K.deep a λa=>k (.conv q a))=_;rw[K.fC a]|.len r,k=>by show(RE.deep r λr=>k (.len r))=_;rw[RE.fC r]|.mm m a b,k=>by show(K.deep a λa=>K.deep b λb=>k (.mm m a b))=_;rw[K.fC a,K.fC b]|.dv b x y,k=>by show(BE.deep b λb=>K.deep x λx=>K.deep y λy=>k (.dv b x y))=_;rw[BE.fC b,K.fC x,K.fC y]|.cell r i j,k=>by show(RE.deep r λr=>K.deep i λi=>cz j λj=>k (.cell r i j))=_;rw[RE.fC r,K.fC i,lB]|.o7 r i,k=>by show(RE.deep r λr=>K.deep i λi=>k (.o7 r i))=_;rw[RE.fC r,K.fC i]|.look r n a b c j,k=>by show(RE.deep r λr=>K.deep a λa=>K.deep b λb=>K.deep c λc=>cz n λn=>cz j λj=>k (.look r n a b c j))=_;rw[RE.fC r,K.fC a,K.fC b,K.fC c,lB,lB]
def BE.fC:∀(e:BE)(k:BE->T),e.deep k=k e
 |.c b,k=>rfl|.v n,k=>by show(cz n λn=>k (.v n))=_;rw[lB]|.cmp o a b,k=>by show(K.deep a λa=>K.deep b λb=>k (.cmp o a b))=_;rw[K.fC a,K.fC b]|.not a,k=>by show(BE.deep a λa=>k (.not a))=_;rw[BE.fC a]|.and a b,k=>by show(BE.deep a λa=>BE.deep b λb=>k (.and a b))=_;rw[BE.fC a,BE.fC b]|.beq a b,k=>by show(BE.deep a λa=>BE.deep b λb=>k (.beq a b))=_;rw[BE.fC a,BE.fC b]|.dv b x y,k=>by show(BE.deep b λb=>BE.deep x λx=>BE.deep y λy=>k (.dv b x y))=_;rw[BE.fC b,BE.fC x,BE.fC y]|.cell r i j,k=>by show(RE.deep r λr=>K.deep i λi=>cz j λj=>k (.cell r i j))=_;rw[RE.fC r,K.fC i,lB]|.seq a b,k=>by show(RE.deep a λa=>RE.deep b λb=>k (.seq a b))=_;rw[RE.fC a,RE.fC b]|.look r n a b c j,k=>by show(RE.deep r λr=>K.deep a λa=>K.deep b λb=>K.deep c λc=>cz n λn=>cz j λj=>k (.look r n a b c j))=_;rw[RE.fC r,K.fC a,K.fC b,K.fC c,lB,lB]|.has r n a b c,k=>by show(RE.deep r λr=>K.deep a λa=>K.deep b λb=>K.deep c λc=>cz n λn=>k (.has r n a b c))=_;rw[RE.fC r,K.fC a,K.fC b,K.fC c,lB]
def RE.fC:∀(e:RE)(k:RE->T),e.deep k=k e
 |.v n,k=>by show(cz n λn=>k (.v n))=_;rw[lB]|.cell r i j q,k=>by show(RE.deep r λr=>K.deep i λi=>cz j λj=>k (.cell r i j q))=_;rw[RE.fC r,K.fC i,lB]|.k v,k=>rfl
end
def C.deep(v:C):(C->T)->T:=C.rec (motive_1:=λ_=>(C->T)->T) (motive_2:=λ_=>(aq->T)->T) (λq e k=>e.deep λe=>k (.int q e)) (λb k=>b.deep λb=>k (.bool b)) (λr k=>r.deep λr=>k (.ak r)) (λi o k=>cz i λi=>cz o λo=>k (.loc i o)) (λr w i o k=>r.deep λr=>i.deep λi=>cz w λw=>cz o λo=>k (.el r w i o)) (λi o l c k=>cz i λi=>cz o λo=>cz l λl=>cz c λc=>k (.iP i o l c)) (λl X k=>X λl=>k (.agg l)) (λl X k=>X λl=>k (.bI l)) (λf l X k=>X λl=>cz f λf=>k (.fn f l)) (λt x W k=>W λx=>k (.gH t x)) (λn k=>cz n λn=>k (.yl n)) (λk=>k .any) (λi k=>cz i λi=>k (.mp i)) (λe R V Q k=>e.deep λe=>Q λV=>k (.gq e R V)) (λk=>k []) (λ_ _ W P k=>W λx=>P λO=>k (x::O)) v
def C.Ff(l:aq):(aq->T)->T:=C.rec_1 (motive_1:=λ_=>(C->T)->T) (motive_2:=λ_=>(aq->T)->T) (λq e k=>e.deep λe=>k (.int q e)) (λb k=>b.deep λb=>k (.bool b)) (λr k=>r.deep λr=>k (.ak r)) (λi o k=>cz i λi=>cz o λo=>k (.loc i o)) (λr w i o k=>r.deep λr=>i.deep λi=>cz w λw=>cz o λo=>k (.el r w i o)) (λi o l c k=>cz i λi=>cz o λo=>cz l λl=>cz c λc=>k (.iP i o l c)) (λl X k=>X λl=>k (.agg l)) (λl X k=>X λl=>k (.bI l)) (λf l X k=>X λl=>cz f λf=>k (.fn f l)) (λt x W k=>W λx=>k (.gH t x)) (λn k=>cz n λn=>k (.yl n)) (λk=>k .any) (λi k=>cz i λi=>k (.mp i)) (λe R V Q k=>e.deep λe=>Q λV=>k (.gq e R V)) (λk=>k []) (λ_ _ W P k=>W λx=>P λO=>k (x::O)) l
mutual
def C.fC:∀(v:C)(k:C->T),v.deep k=k v
 |.int q e,k=>by show(K.deep e λe=>k (.int q e))=_;rw[K.fC]|.bool b,k=>by show(BE.deep b λb=>k (.bool b))=_;rw[BE.fC]|.ak r,k=>by show(RE.deep r λr=>k (.ak r))=_;rw[RE.fC]|.loc i o,k=>by show(cz i λi=>cz o λo=>k (.loc i o))=_;rw[lB,lB]|.el r w i o,k=>by show(RE.deep r λr=>K.deep i λi=>cz w λw=>cz o λo=>k (.el r w i o))=_;rw[RE.fC,K.fC,lB,lB]|.iP i o l c,k=>by show(cz i λi=>cz o λo=>cz l λl=>cz c λc=>k (.iP i o l c))=_;rw[lB,lB,lB,lB]|.agg l,k=>by show(C.Ff l λl=>k (.agg l))=_;rw[C.Kz l]|.bI l,k=>by show(C.Ff l λl=>k (.bI l))=_;rw[C.Kz l]|.fn f l,k=>by show(C.Ff l λl=>cz f λf=>k (.fn f l))=_;rw[C.Kz l,lB]|.gH t x,k=>by show(C.deep x λx=>k (.gH t x))=_;rw[C.fC x]|.yl n,k=>by show(cz n λn=>k (.yl n))=_;rw[lB]|.any,k=>rfl|.mp i,k=>by show(cz i λi=>k (.mp i))=_;rw[lB]|.gq e W X,k=>by show(K.deep e λe=>C.Ff X λX=>k (.gq e W X))=_;rw[K.fC,C.Kz X]
def C.Kz:∀(l:aq)(k:aq->T),C.Ff l k=k l
 |[],k=>rfl|x::X,k=>by show(C.deep x λx=>C.Ff X λX=>k (x::X))=_;rw[C.fC x,C.Kz X]
end
def aff(l:bm):(bm->T)->T:=AG (motive:=λ_=>(bm->T)->T) (λk=>k []) (λx _ V k=>Option.rec (motive:=λ_=>T) (V λX=>k (Z::X)) (λb=>Prod.rec (motive:=λ_=>T) (λt W=>cz t λt=>C.Ff W λW=>V λX=>k (U (t,W)::X)) b) x) l
def afg:∀(l:bm)(k:bm->T),aff l k=k l
 |[],_=>rfl|Z::X,k=>afg X _
 |U (t,W)::X,k=>by
  show(cz t λt=>C.Ff W λW=>aff X λX=>k (U (t,W)::X))=_;rw[lB,C.Kz,afg]
def S.deep(s:S)(k:S->T):T:=S.rec (motive:=λ_=>T) (λX b W V R ax Q P=>C.Ff X λX=>aff b λb=>cz W λW=>cz V λV=>Ky R λR=>cz ax λax=>cz Q λQ=>Ky P λP=>k ⟨X,b,W,V,R,ax,Q,P⟩) s
def fC(s:S)(k:S->T):s.deep k=k s:=by
 cases s;simp only[S.deep,afc,lB,C.Kz,afg]
def afh(k:XE->S->T):XE->S->T:=λe s=>s.deep (k e)
def aAm(k:XE->S->T):afh k=k:=by funext e s;exact fC s (k e)
def qG(l:ar):Nat:=AG (motive:=λ_=>Nat) 0 (λd _ m=>b9 (nz 1 d) m) l
def HA(m n:Nat):Bool:=Ml (motive:=λ_=>Bool) J E (jo (Nat.land 1 (awd m n)) 0)
def apr(m n:Nat):HA m n=m.testBit n:=by
 have:m.testBit n= !(jo (Nat.land 1 (awd m n)) 0):=by
  show((1&&&(m>>>n))!=0)= !(jo (1&&&(m>>>n)) 0);cases h:jo (1&&&(m>>>n)) 0 with|true=>rw[aIM h];rfl|false=>simp only[bne,Bool.not_false,jP,beq_eq_false_iff_ne];exact λe=>by rw[e] at h;cases h
 rw[this,HA];cases jo (Nat.land 1 (awd m n)) 0<;>rfl
def XD:∀(l:ar)(n:Nat),(qG l).testBit n=l.contains n
 |[],n=>by simp[qG]
 |d::l,n=>by
  have:qG (d::l)=(1<<<d)|||qG l:=rfl;rw[this,Jx,XD l n,avV,aIT]
  grind
def aAn(l:ar)(n:Nat):HA (qG l) n=l.contains n:=by rw[apr,XD]
def XF(a:fG)(m X:Nat)(W:aq):Nat->aq->aq
 |_,[]=>[]|n,x::V=>(if HA X n then(xz n a.tm W).getD (if HA m n then .any else x) else if HA m n then .any else x)::XF a m X W (n+1) V
def aps{n:Nat}:∀{W:List (Nat×LK)}{X:aq},(W.map (·.1)).contains n=E->xz n W X=Z
 |[],X,_=>by cases X<;>rfl
 |(t,k)::r,[],_=>rfl
 |(t,k)::r,v::R,h=>by
  simp only[dG,List.contains_cons,yN] at h;have V:(t==n)=false:=by
   grind
  simp only[xz,V,iW,jB];exact aps h.2
def apu(a:fG)(X:ar)(W:aq):∀(n:Nat)(l:aq),XF a (qG X) (qG (a.tm.map (·.1))) W n l=Cz a X W n l
 |_,[]=>rfl
 |n,x::V=>by
  simp only[XF,Cz,apu a X W (n+1) V,aAn];cases R:(a.tm.map (·.1)).contains n with|true=>rfl|false=>rw[aps R];rfl
def S8(m:Nat):Nat->aq->aq->Bool
 |_,[],[]=>J|n,x::X,y::W=>(HA m n||C.aR x y)&&S8 m (n+1) X W|_,_,_=>E
def afi(a:fG)(X:ar):∀(n:Nat)(l k:aq),S8 (b9 (qG X) (qG (a.tm.map (·.1)))) n l k=AO a X n l k
 |_,[],[]=>rfl|_,[],_::_=>rfl|_,_::_,[]=>rfl
 |n,x::W,y::V=>by
  simp only[S8,AO,afi a X (n+1) W V];congr 1;have:HA (b9 (qG X) (qG (a.tm.map (·.1)))) n=(a.tm.any (·.1==n)||X.contains n):=by
   rw[apr];change((qG X)|||(qG (a.tm.map (·.1)))).testBit n=_;rw[Jx,XD,XD,Bool.or_comm]
   grind
  rw[this]
def afj(a:fG)(X:ar)(s:S):S:=
 let r:aq×S:=S.bU {s with ax:=s.ax+1,rs:=jE a s} a.ks
 {r.2 with tmps:=XF a (qG X) (qG (a.tm.map (·.1))) r.1 0 s.tmps,au:=vJ a (r.1.drop (Y a.tm)) 0 s.au}
def aAo(a:fG)(X:ar)(s:S):afj a X s=rU a X s:=by
 simp only[afj,rU,apu]
def afk(W:fG)(V:ar)(s:S)(k:XE->S->T):XE->S->T
 |.normal,X=>if S8 (b9 (qG V) (qG (W.tm.map (·.1)))) 0 s.tmps X.tmps&&ux W 0 s.au X.au&&uy X W.ks (lw W X)&&AN (jE W s) X.rs&&JT (jE W s) (JS W X)&&decide (X.pd=s.pd) then .back s.ax (lw W X) else .stuck (ali W s X)|e,X=>k e X
def aAp(X:fG)(W:ar)(s:S)(k:XE->S->T):afk X W s k=V4 X W s k:=by
 funext e V;cases e<;>simp only[afk,V4,afi]
def kw(X:bv):Nat->FuncId->Code->S->YH->(XE->S->T)->T
 |0,_,_,_,_,_=>.stuck ""
 |n+1,R,c,s,W,k=>
  match c with
  |.skip=>k .normal s|.label _=>k .normal s|.ret=>k .ret s|.exit id=>k (.exit id) s|.seq a b=>kw X n R a s W (Rp (λP=>kw X n R b P W k) k)|.block id a=>kw X n R a s W (acz id k)|.scope a=>kw X n R a s W k
  |.cond c a b=>match s.ev X.gl c with
   |.bool (.c J)=>kw X n R a s W k|.bool (.c E)=>kw X n R b s W k
   |.bool x=>match c with
    |.tmp t=>.aJ x (kw X n R a {s with tmps:=s.tmps.set t (.bool (.c J))} W k) (kw X n R b {s with tmps:=s.tmps.set t (.bool (.c E))} W k)
    |_=>.stuck ""
   |_=>.stuck ""
  |.region id V N=>match V9 X R id s with
   |U (e,H,gr,bz)=>MM e gr (acQ (λP=>kw X n R (.region id V N) P W k) bz) (λP=>kw X n R (.region id V N) P W k) H
   |none=>s.afd λs=>if N then
    match Ro (X.JK R (id+2000000)) V with
    |U o=>(match XB V.pop (Y s.au) with
     |U O=>if !CD X V.pop.toList then .stuck "" else Bf X (uA X (CF X V.pop λf c s k=>kw X n f c s iB k) W) V.pop (λP=>Bf X (kq X (λf c s k=>kw X n f c s W k) W) V (k .normal) (λv=>k (.bp v)) (fU (λ_=>E) J E (V.size-1) (Y P.au) [o]) P []) (λv=>k (.bp v)) O (s.vO V.pop O) []
     |none=>.stuck "")
    |none=>
    match XC X (!X.JK R id) V s with
    |U c=>Rz X (kq X (λf c s k=>kw X n f c s W k) W) V (afh k) c
    |none=>match XB V (Y s.au) with
    |U O=>if !CD X V.toList then .stuck "" else Bf X (uA X (CF X V λf c s k=>kw X n f c s iB k) W) V (k .normal) (λv=>k (.bp v)) O (s.vO V O) []
    |none=>match XC X E V s with|U c=>Rz X (kq X (λf c s k=>kw X n f c s W k) W) V (afh k) c|none=>.stuck ""
   else
   Bf X (acA (X.JK R (id+1000000)) X (kq X (λf c s k=>kw X n f c s W k) W)) V (k .normal) (λv=>k (.bp v)) (fU (λ_=>E) J E 0 (Y s.au) V.toList) (s.room (mP V.toList)) []
  |.loop a=>match(Code.first a).map (X.loop R) with
   |U (.inv Q)=>
    if !(acR Q s).isEmpty then kw X n R (.loop a) (s.de Q) W k else
    if !s.bd|| !uy s (Q.at s).ks (lw (Q.at s) s)|| !S8 (b9 (qG (Code.pK a)) (qG ((Q.at s).tm.map (·.1)))) 0 s.tmps s.tmps|| !ux (Q.at s) 0 s.au s.au|| !AN (jE (Q.at s) s) s.rs|| !JT (jE (Q.at s) s) (JS (Q.at s) s) then .stuck (alj (Q.at s) (Code.pK a) s) else
    .loop s.ax (Q.at s).ks (lw (Q.at s) s) (kw X n R a (afj (Q.at s) (Code.pK a) s) W (afk (Q.at s) (Code.pK a) s k))
   |_=>kw X n R a s W (Rp (λP=>kw X n R (.loop a) P W k) k)
  |.rangeFunc f M assign body=>match s.ev X.gl f with
   |.fn g bC=>match X.inl g with
    |U (c,G,[])=>
     if !s.eW bC||s.zj (Y s.pd)||C.qr (Y s.pd) bC||kH assign||kH body|| !ko g 1000000 then .stuck "" else
     kw X n g c (ML s G bC)
      (Rw (Y s.pd) M.size λF L D B=>
       kw X n R assign (EM L s M.toList F) iB (Rv (Y s.pd) λA=>
        kw X n R body (A.EN (Y s.pd) .busy) W (V5 (Y s.pd) L D B))) (J2 s k)
    |_=>.stuck ""
   |_=>.stuck ""
  |_=>.stuck ""
def NY(X:bv):∀n,kw X n=fO X n
 |0=>by funext W c s V k;rfl
 |n+1=>by
  have R:=NY X n;funext W c s V k;unfold kw fO;simp only[R,S5,aAf,aAh,aAi,afi,aAo,aAp,aAm];cases c<;>rfl
def afl(X:bv)(n:Nat)(V:FuncId)(c:Code)(R:Nat)(Q:nD)(W:aq)(s:S):T:=
 kw X n V c {s with tmps:=W++ee (R-Y W) (.bI [])} iB (Wa X (Y s.au) Q)
def aAq(X:bv)(n:Nat)(W:FuncId)(c:Code)(V:Nat)(R:nD)(Q:aq)(s:S):afl X n W c V R Q s=RC X n W c V R Q s:=by
 unfold afl RC;rw[NY]
def XG(X:bv)(n:Nat)(Q:FuncId)(c:Code)(P:Nat)(O:nD)(V:TypeId)(R:aq)(s:S):T:=match rV c with
 |U d=>Bf X (kq X (λf c s k=>kw X n f c s iB k) iB) d.uB (λW=>match W.tmps[d.te]? with
  |U (.loc i 0)=>if !mN V&&aK W.au i&&decide (d.tf<Y W.tmps)&&ko d.g 1000000 then kw X n Q d.rest (W.put (U d.tf) (.fn d.g [.loc i 0])) iB (acU X (Y s.au) V i O) else .stuck ""
  |_=>.stuck "") (λ_ _=>.stuck "") (fU (λ_=>E) J E 0 (Y s.au) d.uB.toList) (({s with tmps:=R++ee (P-Y R) (C.bI [])}:S).room (mP d.uB.toList)) []
 |none=>.stuck ""
def aAr(X:bv)(n:Nat)(W:FuncId)(c:Code)(V:Nat)(R:nD)(Q:TypeId)(P:aq)(s:S):XG X n W c V R Q P s=RD X n W c V R Q P s:=by
 unfold XG RD;cases rV c with
 |none=>rfl
 |some d=>
  simp only[NY,S5];rfl
def lQ:List LB->aq->bm
 |[],_=>[]|.ro t::l,v::X=>U (t,v.cells)::lQ l X|.rw t::l,v::X=>U (t,v.cells)::lQ l X|.st t W::l,X=>U (t,W)::lQ l X|_::l,X=>Z::lQ l X
def iF(ty:Ty):List LB->bm->bm->Es
 |[],_,_=>U []
 |.rw t::l,U _::X,U x::W=>match xA ty t x.2,iF ty l X W with|U v,U r=>if t==x.1 then U (v::r) else Z|_,_=>Z
 |.ro _::l,U x::X,U y::W=>if x.1==y.1&&C.n8 x.2 y.2 then iF ty l X W else Z|.st _ _::l,U x::X,U y::W=>if x.1==y.1&&C.n8 x.2 y.2 then iF ty l X W else Z|_,_,_=>Z
def afm(cf:bv)(L:sN)(W:bm):XE->S->T
 |.normal,X=>match iF cf.ty L.bx W (X.au.take (Y W)) with
  |U V=>if X.bd then .ret (one V) [] (X.rs.map RK.rd) else .stuck "end"
  |none=>.stuck "boxes at the end"
 |.ret,X=>match iF cf.ty L.bx W (X.au.take (Y W)) with
  |U V=>if X.bd then .ret (one V) [] (X.rs.map RK.rd) else .stuck "end"
  |none=>.stuck "boxes at the end"
 |.bp _,_=>.stuck "panic"
 |.exit _,_=>.stuck "exit"
def NZ(cf:bv)(n:Nat)(W:FuncId)(c:Code)(V:Nat)(L:sN)(X:aq)(s:S):T:=
 kw cf n W c {s with tmps:=X++ee (V-Y X) (.bI [])} iB (afm cf L s.au)
section
variable{p:Sp}{cf:bv}
def aAs(o:jd p cf)(ab:∀g W,¬p.R (.panicked g) W){B:Func}{c:Code}(k:p.P.funcs[v]?=U B)(b:B.body=U c)(a:B.results.toList=[]){X:sN}
  (H:(NZ cf N v c B.ntmps X t l).aN p x [])(hg:eC cf.gl x)(R:aA p.S0 p.w0 bT.none cf.ty y x {l with tmps:=[]} ⟨#[],[]⟩ p.w0){Q:Ending->World->Prop}
  (hQ:∀F A z r w D,aA p.S0 p.w0 bT.none cf.ty z A F r w->bB l x y F A z->F.bd=J->iF cf.ty X.bx l.au (F.au.take (Y l.au))=U D->p.R (.returned ((one D).ai A z)) w->Q (.returned (.tuple #[])) w):
  Calls p.P v (C.az x y t).toArray p.w0 Q:=by
 unfold NZ at H;rw[NY] at H;refine Kl k b ?_;have RE:=R.enter t B.ntmps R.dh;refine(Kr o N).1 bT.none ⟨{l with tmps:=t++ee (B.ntmps-Y t) (.bI [])},x,y,[]⟩ iB Z v c _ _ [] x y _ p.w0 _ (E8 _ _) (jH.here _ _ _ _) rfl (λhh=>by cases hh) ⟨B,k⟩ H RE hg ?_ ?_
 grind
 intro e F A z r w L' q hL j H;obtain⟨ac,i,q0,q2,q3⟩:=j.dh.mw;have m:=j.ri i;have aa:bB l x y F A z:=⟨q.ext,q.mono,q.len,q.ax⟩;have h:∀D,iF cf.ty X.bx l.au (F.au.take (Y l.au))=U D->F.bd=J->(T.ret (one D) [] (F.rs.map RK.rd)).aN p A L'->LeavesInM Fence.wide 0 p.P B r.tmps Q r.defers .returning w:=by
  intro D u ce H;rw[i];have hr:uw cf F B.results.toList=U []:=by rw[a];rfl
  refine sa aw (xl.1 q2).1 (λd hd=>(q3 d (by simp[hd])).1) ⟨_,Kh m o.kK hr, ?_⟩;have h1:=H A.y z _ (by rw[o.pt];exact((m.mem.take 0).lL (NI F.rs)));exact hQ F A z _ _ D m aa ce u h1
 cases e with
 |normal=>
  simp only[afm] at H;split at H;rename_i D u;split at H;rename_i ce;exact h D u ce H;exact H.elim;exact H.elim
 |ret=>
  simp only[afm] at H;split at H;rename_i D u;split at H;rename_i ce;exact h D u ce H;exact H.elim;exact H.elim
 |bp L=>exact H.elim|exit id=>exact H.elim
end
def XH:LK->XV->RV
 |.int k,.i n=>.mk (.int k n) []|.bool,.b x=>.mk (.bool x) []|.ak _,.r X=>X|_,_=>.mk undef []
def N0:aL->aZ->aE
 |k::X,x::W=>XH k x::N0 X W|_,_=>[]
def apv{ty:Ty}{Q:bo}{O:aj}{V:ar}:∀{W:aL}{l:aq},iQ ty Q W l=J->C.bK O V l=N0 W (l.map (C.xv O))
 |[],[],_=>rfl|[],_::_,h=>by simp[iQ] at h|_::_,[],h=>by simp[iQ] at h
 |k::W,v::l,h=>by
  simp only[iQ,aC] at h;have R:=apv (O:=O) (V:=V) h.2;simp only[C.bK] at R⊢;simp only[dG,N0,R];congr 1;have X:=h.1;unfold CZ at X;split at X;simp at X;subst X;rfl;rfl;rfl;cases X
def apw{ty:Ty}{V:bo}:∀{W:aL}{l:aq},iQ ty V W l=J->∀v∈l,∀q,v≠ .agg q
 |[],[],_,v,X=>by simp at X|[],_::_,h,_,_=>by simp[iQ] at h|_::_,[],h,_,_=>by simp[iQ] at h
 |k::W,u::l,h,v,X=>by
  simp only[iQ,aC] at h;rcases eu.1 X with rfl|X
  grind [CZ]
  exact apw h.2 v X
def apx{V:ar}:∀{W:aL}{l:aq}{X:aZ}{O:aj}{a b c:Nat},lA a b c W l=J->dK W X->Y O.i=a->Y O.b=b->Y O.r=c->C.bK (O.ext X) V l=N0 W X
 |[],[],[],O,a,b,c,_,_,_,_,_=>rfl|[],[],_::_,O,a,b,c,_,h,_,_,_=>h.elim|[],_::_,X,O,a,b,c,h,_,_,_,_=>by simp[lA] at h|k::W,[],X,O,a,b,c,h,_,_,_,_=>by cases k<;>simp[lA] at h
 |_::_,_::_,[],O,a,b,c,_,h,_,_,_=>h.elim
 |k::W,v::l,x::X,O,a,b,c,h,D,w,u,t=>by
  have N:=EQ X (O.add x);obtain⟨M,B⟩:=D;simp only[C.bK,dG,aj.ext,N0];have s:∀{L H F:Nat},lA L H F W l=J->(O.add x).i.length=L->(O.add x).b.length=H->(O.add x).r.length=F->l.map (C.gg ((O.add x).ext X) V)=N0 W X:=λh A z y=>apx h B A z y
  unfold lA at h;split at h
  grind
  rename_i R Q;cases R;cases Q;cases x<;>simp[qw] at M;simp at h
  grind [aj.add,C.gg,C.ai,K.ai,XH,N.i]
  rename_i R Q;cases R;cases Q;cases x<;>simp[qw] at M;simp at h
  grind [aj.add,C.gg,C.ai,BE.ai,XH,N.b]
  rename_i R Q;cases R;cases Q;cases x<;>simp[qw] at M;simp at h
  grind [aj.add,C.gg,RE.rv,XH,N.r,aj.rv]
  cases h
def apy{ty:Ty}{O N:aj}{V M:ar}:∀{L:iX}{D H l R:aq},gv ty L D=U l->gv ty L H=U R->(∀v∈l,∀q,v≠ .agg q)->(∀v∈R,∀q,v≠ .agg q)->C.bK O V l=C.bK N M R->
  ∀(j:Nat)(v Q:C),D[j]?=U v->H[j]?=U Q->C.bK O V v.cells=C.bK N M Q.cells
 |[],[],H,l,R,_,_,_,_,_,j,v,Q,h,_=>by simp at h|[],_::_,_,_,_,h,_,_,_,_,_,_,_,_,_=>by simp[gv] at h|_::_,[],_,_,_,h,_,_,_,_,_,_,_,_,_=>by simp[gv] at h|_::_,_::_,[],_,_,_,h,_,_,_,_,_,_,_,_=>by simp[gv] at h
 |t::L,u::D,B::H,l,R,h,X,n,m,k,j,v,Q,z,y=>by
  simp only[gv] at h X;cases F:ty t with
  |none=>simp[F] at h
  |some ti=>
   cases x:gv ty L D with
   |none=>simp[F,x] at h
   |some r=>
    cases w:gv ty L H with
    |none=>simp[F,w] at X
    |some i=>
     simp only[F,x] at h;simp only[F,w] at X;have g:∀c W:aq,Y c=Y W->l=c++r->R=W++i->u.cells=c->B.cells=W->C.bK O V v.cells=C.bK N M Q.cells:=by
      intro c W b f e a h4;have aa:C.bK O V c++C.bK O V r=C.bK N M W++C.bK N M i:=by
       rw[f,e] at k;simpa only[C.bK,GF] using k
      obtain⟨e1,e2⟩:=List.append_inj aa (by simp[C.bK,b]);cases j with
      |zero=>
       simp only[Cd,dW] at z y;subst z y;rw[a,h4];exact e1
      |succ j=>exact apy x w (λv s=>n v (by rw[f];simp[s])) (λv s=>m v (by rw[e];simp[s])) e2 j v Q (by simpa using z) (by simpa using y)
     split at h;rename_i o;rw[aH o] at X;split at h;rename_i c;split at h;rename_i A;split at X;rename_i W;split at X;rename_i d;cases h;cases X;simp only[ge] at A d;exact g c W (by rw[A,d]) rfl rfl rfl rfl;cases X;cases X;cases h;cases h;rename_i o;rw[aP o] at X;split at h;rename_i A;rw[aH A] at X;cases h;cases X;refine g [u] [B] rfl rfl rfl ?_ ?_;have:=n u aw;cases u<;>simp_all[C.cells];have:=m B aw;cases B<;>simp_all[C.cells];cases h
def afn{ty:Ty}{v:C}(h:xA ty k t=U v):v.cells=t:=by
 unfold xA at h;split at h;split at h;cases h;rfl;split at h;cases h;rename_i c X;cases h;cases v<;>first|rfl|exact(X _ rfl).elim
 cases h;cases h
def XI{ty:Ty}{O L:aj}{V H:ar}:∀{N:List LB}{R:bm}{F M:aq},kG ty N R=U F->Y F=Y M->(∀(j:Nat)(v B:C),F[j]?=U v->M[j]?=U B->C.bK O V v.cells=C.bK L H B.cells)->
  (∀t X,LB.st t X∈N->C.bK O V X=C.bK L H X)->∀(i:Nat)(t:TypeId)(X:aq),bP (lQ N M) i=U (t,X)->∃gJ,bP R i=U (t,gJ)/\C.bK O V gJ=C.bK L H X
 |[],_,_,_,_,_,_,_,i,t,X,h=>by simp[lQ,bS] at h
 |b::N,R,F,M,Q,A,z,m,i,t,X,h=>by
  have s:∀t X,LB.st t X∈N->C.bK O V X=C.bK L H X:=λt X l=>m t X (AD _ l)
  have n:∀W,(b=.ro W\/b=.rw W)->∃gJ,bP R i=U (t,gJ)/\C.bK O V gJ=C.bK L H X:=by
   intro W y;cases R with
   |nil=>rcases y with rfl|rfl<;>simp[kG] at Q
   |cons x R=>
    cases x with
    |none=>rcases y with rfl|rfl<;>simp[kG] at Q
    |some x=>
     have q:(if W==x.1&& !mN W then(match xA ty W x.2,kG ty N R with|U v,U r=>U (v::r)|_,_=>Z) else Z)=U F:=by rcases y with rfl|rfl<;>exact Q
     split at q;rename_i D;simp at D;split at q;rename_i v r k g;cases q;cases M with
     |nil=>simp at A
     |cons w M=>
      have f:lQ (b::N) (w::M)=U (W,w.cells)::lQ N M:=by rcases y with rfl|rfl<;>rfl
      rw[f] at h;cases i with
      |zero=>
       simp only[bS,Cd,dW,Jy] at h;obtain⟨rfl,rfl⟩:=h;refine⟨x.2,by simp[bS,D.1], ?_⟩;rw[<-afn k];exact z 0 v w rfl rfl
      |succ i=>
       obtain⟨gJ,u,o⟩:=XI g (by simpa using A) (λj v B e d=>z (j+1) v B (by simpa using e) (by simpa using d)) s i t X (by simpa[bS] using h)
       grind [bS]
     grind
     grind
  cases b with
  |ro W=>exact n W (.inl rfl)|rw W=>exact n W (.inr rfl)
  |no=>
   simp only[kG] at Q;cases i with
   |zero=>simp[lQ,bS] at h
   |succ i=>
    obtain⟨gJ,u,o⟩:=XI Q A z s i t X (by simpa[lQ,bS] using h);refine⟨gJ, ?_,o⟩;cases R with|nil=>simp[bS] at u|cons x R=>simpa[bS] using u
  |st W c=>
   cases R with
   |nil=>simp[kG] at Q
   |cons x R=>
    cases x with
    |none=>simp[kG] at Q
    |some x=>
     simp only[kG] at Q;split at Q;rename_i D;simp at D;cases i with
     |zero=>
      grind [lQ,bS,Ju,Jy,D.1.1,C.pm]
     |succ i=>
      obtain⟨gJ,u,o⟩:=XI Q A z s i t X (by simpa[lQ,bS] using h)
      grind [bS]
     cases Q
def apz{ty:Ty}:∀{R:List LB}{X W:bm}{N:aq},iF ty R X W=U N->∀(i:Nat)(Q:LB)(x:TypeId×aq),R[i]?=U Q->(∀t,Q≠ .rw t)->bP X i=U x->bP W i=U x
 |[],_,_,_,_,i,Q,x,h,_,_=>by simp at h
 |b::R,X,W,N,h,i,Q,x,D,B,M=>by
  cases X with
  |nil=>simp[bS] at M
  |cons u X=>
   cases W with
   |nil=>cases b<;>cases u<;>simp[iF] at h
   |cons w W=>
    have aR:(∀t,b≠ .rw t)->∃L H,u=U L/\w=U H/\L=H/\iF ty R X W=U N:=by
     intro A;cases b with
     |no=>simp[iF] at h|rw t=>exact bE rfl (A t)
     |ro t=>
      cases u with
      |none=>simp[iF] at h
      |some u=>
       cases w with
       |none=>simp[iF] at h
       |some w=>
        simp only[iF] at h;split at h;rename_i V;simp at V;exact⟨u,w,rfl,rfl,Prod.ext V.1 (C.pm _ _ V.2),h⟩;cases h
     |st t z=>
      cases u with
      |none=>simp[iF] at h
      |some u=>
       cases w with
       |none=>simp[iF] at h
       |some w=>
        simp only[iF] at h;split at h;rename_i V;simp at V;exact⟨u,w,rfl,rfl,Prod.ext V.1 (C.pm _ _ V.2),h⟩;cases h
    cases i with
    |zero=>
     grind [Ju,bS]
    |succ i=>
     have y:R[i]?=U Q:=by simpa using D
     have v:bP X i=U x:=by simpa[bS] using M
     have s:∃F,iF ty R X W=U F:=by
      cases b with
      |rw t=>
       cases u with
       |none=>simp[iF] at h
       |some u=>
        cases w with
        |none=>simp[iF] at h
        |some w=>
         grind [iF]
      |no=>obtain⟨_,_,_,_,_,q⟩:=aR (λt O=>by cases O);exact⟨_,q⟩
      |ro t=>obtain⟨_,_,_,_,_,q⟩:=aR (λt O=>by cases O);exact⟨_,q⟩
      |st t z=>obtain⟨_,_,_,_,_,q⟩:=aR (λt O=>by cases O);exact⟨_,q⟩
     obtain⟨F,r⟩:=s;have:=apz r i Q x y B v;simpa[bS] using this
def apA{ty:Ty}:∀{V:List LB}{M Q:bm}{L:aq}{k:Nat},iF ty V M Q=U L->Y L=(eB k V).length/\∀z∈(eB k V).zip L,∃X,bP Q (z.1.1-k)=U (z.1.2,X)/\xA ty z.1.2 X=U z.2
 |[],_,_,_,k,h=>by simp only[iF,dW] at h;subst h;simp[eB]
 |b::V,M,Q,L,k,h=>by
  have B:∀{R:bm}{w:Option (TypeId×aq)}{z:(Nat×TypeId)×C},z.1∈eB (k+1) V->(∃X,bP R (z.1.1-(k+1))=U (z.1.2,X)/\xA ty z.1.2 X=U z.2)->∃X,bP (w::R) (z.1.1-k)=U (z.1.2,X)/\xA ty z.1.2 X=U z.2:=by
   rintro R w z W ⟨X,O,N⟩;have:=(Nk (i:=z.1.1) (t:=z.1.2) W).1;refine⟨X, ?_,N⟩;rw[show z.1.1-k=(z.1.1-(k+1))+1 from ae];simpa[bS] using O
  have other:∀(H:aq)(F R:bm)(w:Option (TypeId×aq)),iF ty V F R=U H->Y H=(eB (k+1) V).length/\∀z∈(eB (k+1) V).zip H,∃X,bP (w::R) (z.1.1-k)=U (z.1.2,X)/\xA ty z.1.2 X=U z.2:=by
   intro H F R w A;obtain⟨O,N⟩:=apA (k:=k+1) A;exact⟨O,λz W=>B (ab9 W).1 (N z W)⟩
  cases M with
  |nil=>cases b<;>simp[iF] at h
  |cons u M=>
   cases Q with
   |nil=>cases b<;>cases u<;>simp[iF] at h
   |cons w Q=>
    cases b with
    |no=>simp[iF] at h
    |ro t=>
     cases u<;>cases w<;>simp only[iF,reduceCtorEq] at h;split at h;exact other _ _ _ _ h;cases h
    |st t X=>
     cases u<;>cases w<;>simp only[iF,reduceCtorEq] at h;split at h;exact other _ _ _ _ h;cases h
    |rw t=>
     cases u<;>cases w<;>simp only[iF,reduceCtorEq] at h;rename_i u w;split at h;rename_i v r y x;split at h;rename_i D;simp only[ge] at D;cases h;obtain⟨O,N⟩:=other _ _ _ (U w) x;refine⟨by simp only[eB,nX,O],λz W=> ?_⟩;simp only[eB,En,eu] at W;rcases W with rfl|W;exact⟨w.2,by simp[bS,D],y⟩;exact N z W;cases h;cases h
def aAt{ty:Ty}{v:C}{X:TI}(h:xA ty k t=U v)(W:ty k=U X):(X.d.isAgg=J/\v=.agg t)\/(X.d.isAgg=E/\t=[v]):=by
 unfold xA at h
 grind
def apB{ty:Ty}{O:aj}{V:ar}:∀{A:List (Nat×TypeId)}{vs:aq}{Vq:fy},C.az O V vs=qD ty (A.map (·.2)) Vq->Y Vq=((A.map (·.2)).map λt=>((ty t).map λW=>Y W.am).getD 0).sum->Y vs=Y A->
  (∀x∈A,∃W,ty x.2=U W/\(W.d.isAgg=J\/Y W.am=1))->(∀z∈A.zip vs,∃M,xA ty z.1.2 M=U z.2)->
  ∀z∈A.zip (Fe ty (A.map (·.2)) Vq),∃w∈A.zip vs,w.1=z.1/\z.2=C.az O V w.2.cells
 |[],_,_,_,_,_,_,_,z,X=>by simp at X|a::A,[],_,_,_,Q,_,_,z,X=>by simp at Q
 |a::A,v::vs,Vq,h,L,Q,H,F,z,X=>by
  obtain⟨W,R,B⟩:=H a aw;simp only[dG,qD,R,C.az,GD] at h;simp only[dG,List.sum_cons,R,gc,yP] at L;simp only[dG,Fe,R,En,eu] at X;rcases X with rfl|X;refine⟨(a,v),aw,rfl, ?_⟩;obtain⟨M,D⟩:=F (a,v) aw;have bq:=afn D;rcases aAt D R with⟨N,rfl⟩|⟨N,y⟩
  grind [C.ai,Value.agg.injEq]
  have u:Y W.am=1:=B.resolve_left (by simp[N]);rw[N] at h;simp only[iW,jB] at h;rw[bq,y];cases Vq with
  |nil=>simp only[Cg] at L;omega
  |cons x Vq=>
   simp only[u,List.take_succ_cons,List.take_zero,C.az]
   grind
  obtain⟨w,s,r,q⟩:=apB (A:=A) (vs:=vs) (Vq:=Vq.drop (Y W.am)) h.2 (by rw[Cf];omega) (by simpa using Q) (λx o=>H x (by simp[o])) (λz X=>F z (by simp[X])) z X;exact⟨w,by simp[s],r,q⟩
section
variable{P:Program}{ty:Ty}{M m:FuncId->mg}{bh:my}{G:World->Prop}
def R2V(ty:Ty)(Q:iX)(V O:aL)(W:World)(N:aZ)(out:aX):Ending->World->Prop
 |.returned v,M=>∃R X,out=.ret R/\xN R X/\dK V X/\v=xP (qD ty Q (nO V X))/\xQ ty M V X/\∀b,rj ty V X b->W.heap.size<=b\/rj ty O N b|_,_=>False
def apD:∀{X:aL}{W:aZ},dK X W->(nO X W).length=Y X
 |[],[],_=>rfl|[],_::_,h=>h.elim|_::_,[],h=>h.elim|_::X,_::W,h=>by simp only[nO,nX,apD h.2]
def apE{ty:Ty}:∀{X:iX}{W:aL},fH ty X=U W->Y W=(X.map λt=>((ty t).map λV=>Y V.am).getD 0).sum
 |[],_,h=>by cases h;rfl
 |t::X,W,h=>by
  simp only[fH] at h;split at h;rename_i V r R Q;cases h;simp only[ga,oX,dG,List.sum_cons,R,gc,yP,apE Q];cases h
def aAu:∀{a b:fy},Y a=Y b->xP a=xP b->a=b
 |[],[],_,_=>rfl|[],_::_,h,_=>by simp at h|_::_,[],h,_=>by simp at h|[x],[y],_,h=>by simp only[xP] at h;rw[h]|[_],_::_::_,h,_=>by simp at h|_::_::_,[_],h,_=>by simp at h
 |x::y::l,X::W::V,_,h=>by
  grind [xP,Value.tuple.injEq]
def aAv:∀l:aq,(one l).ai x y=xP (C.az x y l)
 |[]=>rfl|[v]=>rfl|X::W::l=>rfl
def apF{ty:Ty}:∀{ts:iX}{Vq:fy},(∀t∈ts,(ty t).isSome=J)->(qD ty ts Vq).length=Y ts
 |[],_,_=>rfl
 |t::ts,Vq,h=>by
  obtain⟨X,W⟩:=jz.1 (h t aw);have V:=apF (ty:=ty) (ts:=ts) (Vq:=Vq.drop (Y X.am)) (λu R=>h u (AD _ R));simp only[qD,W,nX,V]
def KC:∀(W:List LB)(X:aq),(lQ W X).length=Y W
 |[],_=>rfl|.no::l,X=>by simp[lQ,KC l]|.ro t::l,[]=>by simp[lQ,KC l]|.ro t::l,_::X=>by simp[lQ,KC l]|.rw t::l,[]=>by simp[lQ,KC l]|.rw t::l,_::X=>by simp[lQ,KC l]|.st t V::l,X=>by simp[lQ,KC l]
def aAw{i:Nat}(h:i<N):ad ((dj N).map (ad y)) i=ad y i:=by
 grind [ad]
def aAx{cf:bv}{fn:Func}{c:Code}{X:sN}{F:aZ->jR}{l0:aq}{ni nb:Nat}{u qk:aL}
  (cu:∀S0 w R,(∀ch W Q o,w.heap.size<=Q->R (.panicked ch) W->R (.panicked ch) (W.putObj Q o))->jd ⟨P,ty,S0,w,bT.none,R,λ_ _ _=>False⟩ cf)(bf:cf.ty=ty)(cv:∀f,Hy P ty M m G f (bh f))
  (hf:P.funcs[v]?=U fn)(s:fn.body=U c)(cx:fn.results.toList=[])(cy:fH ty X.ps=U u)(a0:fH ty ((eB 0 X.bx).map (·.2))=U qk)
  (a3:gv ty X.ps t=U l0)(a4:lA 0 0 0 u l0=J)
  (cA:∀D,dK u D->(dI [] D).i.length=ni)(cB:∀D,dK u D->(dI [] D).b.length=nb)(cC:cf.gl=[])
  (bg:∀x∈eB 0 X.bx,∃ti,ty x.2=U ti/\(ti.d.isAgg=J\/Y ti.am=1))
  (bq:∀(O O':aj)(V V':ar),(∀i,i<Y X.bx->ad V i=ad V' i)->C.az O V X.bC=C.az O' V' X.bC/\∀b cs,LB.st b cs∈X.bx->C.bK O V cs=C.bK O' V' cs)
  (bk:S.bd ⟨[],lQ X.bx (t.drop X.n),ni,nb,gj u,0,0,[]⟩=J)(cD:∀(k:Nat)(b:TypeId),(gj u)[k]?≠U (.own b))
  (ht:∀(p:Sp)(O:aj),b.aN p O []->(NZ cf N v c fn.ntmps X (t.take X.n++X.bC) ⟨[],lQ X.bx (t.drop X.n),ni,nb,gj u,0,0,[]⟩).aN p O [])
  (hF:∀D o,dK u D->F D=U o->(∃ys,o=.ret ys)/\∃L,run ty M m bh ((eB 0 X.bx).map (·.2)) L b (dI [] D) (gj u) []=U o):apa P ty G v X F:=by
 intro d1 d2 h1 h2 xh D out ho hx ab S0 w0 V O bx rs W bl cO l R hr cW br bs a9 af c1 al c2;rw[cy] at h1;cases h1;rw[a0] at h2;cases h2;obtain⟨⟨bt,rfl⟩,L,hN⟩:=hF xh out (SQ ab hx) ho;obtain⟨b0,ba⟩:∃b0,b0=lQ X.bx (t.drop X.n):=⟨_,rfl⟩;have d3:Y b0=Y X.bx:=by rw[ba,KC]
 obtain⟨V1,b1⟩:∃V1,V1=(dj (Y b0)).map (ad V):=⟨_,rfl⟩;have aa:∀i,i<Y b0->ad V1 i=ad V i:=λi A=>by rw[b1];exact aAw A
 have ac:∀i,aK b0 i=J->i<Y b0:=λi A=>by
  obtain⟨Q,s⟩:=jz.1 A;exact(dq.1 (ku.1 s)).1
 have c3:C.bK O V l=C.bK (dI [] D) V1 l0:=by
  rw[apv af,<-al,dI,apx a4 ab rfl rfl rfl]
 have c4:=apy a9 a3 (apw af) (ae5 a4) c3;have c5:=Xt a9;have d4:=Xt a3;have b2:=bq O (dI [] D) V V1 (λi A=>(aa i ae).symm);have b3:∀(i:Nat)(b:TypeId)(cs:aq),bP b0 i=U (b,cs)->∃gJ,bP bx i=U (b,gJ)/\C.bK O V gJ=C.bK (dI [] D) V1 cs:=by
  rw[ba];refine XI br (by simp only[ga] at c5;simp only[Cf];omega) (λj H v' g1 g2=>c4 (X.n+j) H v' ?_ ?_) b2.2;rw[jl ae,<-bs,Vi];exact g1;rw[xj] at g2;exact g2
 have ag:∀i,aK b0 i=J->aK bx i=true:=λi A=>by
  obtain⟨Q,s⟩:=jz.1 A;obtain⟨gJ,h,-⟩:=b3 i Q.1 Q.2 s;simp[aK,h]
 obtain⟨S1,an⟩:∃S1,S1=W.heap.size::SX V1 b0:=⟨_,rfl⟩;have c6:qX W.heap.size S1=[]:=by rw[an];simp[qX]
 have b4:∀k,k∈SX V1 b0->∃i,aK b0 i=J/\k=ad V i:=λk hk=>by
  obtain⟨i,A,rfl⟩:=fw.1 hk;have h:=(qg.1 A).2;exact⟨i,h,aa i (ac i h)⟩
 have c7:∀W1,fl S1 W W1->fl (SX V bx) W W1:=λW1 h=>⟨h.os,h.tape,h.output,h.size,λk hk hn=>h.block k hk (λhm=>by
  rw[an] at hm;rcases eu.1 hm with rfl|hm;omega;obtain⟨i,A,rfl⟩:=b4 k hm;obtain⟨Q,s⟩:=jz.1 (ag i A);exact hn (fw.2 ⟨i,qg.2 ⟨rN.2 (dq.1 (ku.1 s)).1,ag i A⟩,rfl⟩))⟩
 have c8:j6 (dI [] xh) (dI [] D):=j6.ext ⟨rfl,rfl,rfl,λk H v' g1 g2=>by simp at g1⟩ hx;have b5:(dI [] D).r.length=(gj u).length:=by
  have:=Hx (O:=⟨[],[],[],[]⟩) (rs:=[]) ab rfl;simpa[dI] using this
 have c9:Bc ty W.heap.size (rj ty u D) (dI [] D) (gj u):=by
  have:=Bc.ext (ty:=ty) (B:=W.heap.size) (old:=rj ty u D) (O:=⟨[],[],[],[]⟩) (rs:=[]) (λQ ⟨k,e,hk,_⟩=>by simp at hk) ab rfl (λQ s=>.inr s);simpa[dI] using this
 have dc:b.aN ⟨P,ty,S1,W,bT.none,R2V ty ((eB 0 X.bx).map (·.2)) qk u W D (.ret bt),λ_ _ _=>False⟩ (dI [] D) []:=by
  refine ape (old:=rj ty u D) cv (λW1 hO=>c2 W1 (c7 W1 hO)) (by rw[c6];intro Q s;cases s) a0 ?_ (λH W' h _=>by cases h) L b _ _ (gj u) [] [] hN c8 b5 c9 (uL.nil _);intro H l' d5 d6 Oh O' V' W' q1 q2 q3 q4 q5 q6 q7 q8 q9;obtain⟨a1,a2⟩:=Fb (O:=O') (V:=V') q2;exact⟨_,l'.map (C.xv O'),q4,Kv q5 l',a2,by rw[ae3 q1,a1],Xx q9 q6 q7 q2 q3,λQ s=>q8 Q (Fc q2 s)⟩
 have b6:=ht _ _ dc;rw[<-ba] at b6 bk;have dd:C.az O V bl++C.az O V X.bC=C.az (dI [] D) V1 (t.take X.n++X.bC):=by
  have h1:C.az O V (bl++cO)=C.az (dI [] D) V1 t:=by
   rw[NS a9,NS a3,(Fb af).1,<-al,dI,Kw a4 ab rfl rfl rfl]
  rw[G4,<-b2.1];congr 1;have h2:=jY (List.take X.n) h1;rw[G4,av7 (by simpa using bs)] at h2;rw[h2,oH,oH,List.map_take]
 rw[dd];have R0:aA S1 W bT.none cf.ty V1 (dI [] D) ⟨[],b0,ni,nb,gj u,0,0,[]⟩ ⟨#[],[]⟩ W:=by
  rw[bf];have hh:=Xx R hr cW af c1;rw[<-al] at hh;refine⟨⟨fl.refl _ _,λi A=>.inr ?_,λi j A hj he=> ?_,λi b cs h=> ?_,λk e rv h1 h2=> ?_⟩,by rw[b1];simp,cA D ab,cB D ab,b5,by rw[show(dI [] D).y=[] from Hh D _];exact SR _ _,rfl,λb sv h=>by simp at h,λk e rv Q h1=>bE h1 (cD k e)⟩;rw[an];exact AD _ (fw.2 ⟨i,qg.2 ⟨rN.2 (ac i A),A⟩,rfl⟩);rw[aa i (ac i A),aa j (ac j hj)] at he;exact R.inj i j (ag i A) (ag j hj) he;obtain⟨gJ,q1,q2⟩:=b3 i b cs h;rw[aa i (ac i (by simp[aK,h])),<-q2];exact R.box i b gJ q1;have b7:=Hj (PP:=λe rv=>bG W ty e rv/\∀Q,dU ty e rv Q->O.pi ty rs Q) u D ⟨[],[],0,0,[],0,0,[]⟩ ⟨[],[],[],[]⟩ ab rfl (λq e rv g1 g2=>⟨hh q e rv g1 g2,λQ s=>Fc af (by rw[<-al];exact⟨q,e,rv,g1,g2,s⟩)⟩) (λk e rv g1 g2=>by simp at g1);rw[SS] at b7;obtain⟨k1,k2⟩:=b7 k e rv (by simpa using h1) h2;refine⟨k1,λQ s i A=> ?_⟩;rw[aa i (ac i A)];obtain⟨k',e',q1,q2⟩:=k2 Q s;exact(R.ak k' e' (O.rv k') q1 (by
   have df:k'<Y O.r:=by rw[hr];exact(dq.1 q1).1
   simp[aj.rv,df])).2 Q q2 i (ag i A)
 refine aAs (p:=⟨P,ty,S1,W,bT.none,R2V ty ((eB 0 X.bx).map (·.2)) qk u W D (.ret bt),λ_ _ _=>False⟩) (cu S1 W _ (λch W Q o _ h=>h)) (λch W h=>h) hf s cx b6 (by intro x hx;rw[cC] at hx;cases hx) R0 ?_;rintro s' O' V' a' W' vs RR hl ce bb ⟨yh,ys,e1,e2,e3,e4,e5,e6⟩;obtain⟨b8,ca⟩:=apA (k:=0) bb;have dk:=R0.zo bk;have cc:∀i x,bP (s'.au.take (Y b0)) i=U x->bP s'.au i=U x:=λi x h=>by
  rw[ku,pI] at h;rw[ku];split at h;exact h;cases h
 refine⟨yh,ys,e1,e2,e3,rfl,⟨RR.mem.base.os,RR.mem.base.tape,RR.mem.base.output,RR.mem.base.size,λk hk hn=> ?_⟩,λz hz=> ?_,e5,e6⟩;by_cases hm:k∈S1;rw[an] at hm;rcases eu.1 hm with rfl|hm;exact bE hk (Nat.lt_irrefl _);obtain⟨i,A,rfl⟩:=b4 k hm;obtain⟨x,hx⟩:=jz.1 A;have cl:=ac i A;obtain⟨lb,cn⟩:∃lb,X.bx[i]?=U lb:=⟨_,dB ae⟩;have dn:∀b,lb≠ .rw b:=λb e=>by
  subst e;refine hn (fw.2 ⟨(i,b), ?_,rfl⟩);have dr:∀(l:List LB)(k i:Nat),l[i]?=U (.rw b)->(k+i,b)∈eB k l:=by
   intro l;induction l with
   |nil=>intro k i h;simp at h
   |cons Q l ih=>
    intro k i h;cases i with
    |zero=>
     simp only[Cd,dW] at h;subst h;simp[eB]
    |succ i=>
     have:=ih (k+1) i (by simpa using h);rw[show k+(i+1)=k+1+i from ae];cases Q<;>simp[eB,this]
  simpa using dr X.bx 0 i cn
 have ds:=apz bb i lb x cn dn hx;have hw:=RR.mem.box i x.1 x.2 (cc i x ds);have co:=R0.mem.box i x.1 x.2 hx;have dx:ad V' i=ad V1 i:=hl.ext.ad i A;rw[dx,hl.ext.bK (sZ dk.2 hx),aa i cl] at hw;rw[aa i cl] at co;rw[hw,co];exact RR.mem.base.block k hk hm;have dy:C.az O' V' vs=qD ty ((eB 0 X.bx).map (·.2)) (nO qk ys):=by
  refine aAu ?_ (by rw[<-aAv];exact e4);rw[apF (λb ht=>by
   obtain⟨x,hx,rfl⟩:=fw.1 ht;obtain⟨ti,dz,-⟩:=bg x hx;rw[dz];rfl)]
  simp[b8]
 obtain⟨w,w1,w2,w3⟩:=apB dy (by rw[apD e3,apE a0]) b8 bg (λz hz=>by
  obtain⟨cs,-,q⟩:=ca z hz;rw[bf] at q;exact⟨cs,q⟩) z hz
 obtain⟨cs,q1,q2⟩:=ca w w1;rw[awi] at q1;have cp:=(ab9 w1).1;have dT:mN w.1.2=false:=apb br cp;have hw:=RR.mem.box _ _ _ (cc _ _ q1);have ct:aK b0 w.1.1=true:=by
  obtain⟨-,g2⟩:=Nk (i:=w.1.1) (t:=w.1.2) cp;rw[awi] at g2;have d0:∀(Lb:List LB)(a Q:bm)(vs:aq),iF cf.ty Lb a Q=U vs->∀i b,Lb[i]?=U (.rw b)->aK a i=true:=by
   intro Lb;induction Lb with
   |nil=>intro a Q vs _ i b h;simp at h
   |cons lb Lb ih=>
    intro a Q vs h i b A;cases a with
    |nil=>cases lb<;>simp[iF] at h
    |cons x a=>
     cases Q with
     |nil=>cases lb<;>cases x<;>simp[iF] at h
     |cons y Q=>
      have tl:∃bc,iF cf.ty Lb a Q=U bc:=by
       cases lb with
       |no=>simp[iF] at h
       |ro t0=>
        cases x<;>cases y<;>simp only[iF,reduceCtorEq] at h;split at h;exact⟨_,h⟩;cases h
       |st t0 c0=>
        cases x<;>cases y<;>simp only[iF,reduceCtorEq] at h;split at h;exact⟨_,h⟩;cases h
       |rw t0=>
        cases x<;>cases y<;>simp only[iF,reduceCtorEq] at h;split at h;rename_i H r g1 g2;exact⟨_,g2⟩;cases h
      obtain⟨bc,hv⟩:=tl;cases i with
      |zero=>
       simp only[Cd,dW] at A;subst A;cases x with|none=>simp[iF] at h|some x=>simp[aK,bS]
      |succ i=>
       have:=ih a Q bc hv i b (by simpa using A);simpa[aK,bS] using this
  exact d0 X.bx b0 _ vs bb _ _ g2
 rw[hl.ext.ad _ ct,aa _ (ac _ ct),qz dT] at hw;rw[<-w2,hw,w3,afn q2]
end
def apG:qh->Option (FuncId×Nat)
 |[o]=>match o.op,o.guard,o.dst with
  |.defer X,Z,Z=>match X.callee,X.args.toList with|.value (.func g),[.tmp W]=>U (g,W)|_,_=>Z
  |_,_,_=>Z
 |_=>Z
def S9:Code->Option (FuncId×Nat)
 |.region _ X E=>apG X.toList|_=>Z
def apH(cf:bv)(w:Nat)(A:TypeId)(W:Nat)(r:nD):XE->S->T
 |.normal,X=>sQ cf w r X|.ret,X=>sQ cf w r X
 |.bp v,X=>match v with
  |.gH t (.agg [.int I x])=>match bP X.au W with
   |U (V,[.int I _])=>if t==A&&A !=0&& !mN V then sQ cf w r {X with au:=X.au.set W (U (V,[.int I x]))} else .stuck "panic"
   |_=>.stuck "panic"
  |_=>.stuck "panic"
 |.exit _,_=>.stuck "exit"
def XJ(cf:bv)(n:Nat)(X:dF)(k:S->T)(s:S):T:=Bf cf (kq cf (λf c s k=>kw cf n f c s iB k) iB) X k (λ_ _=>.stuck "panic") (fU (λ_=>E) J E 0 (Y s.au) X.toList) (s.room (mP X.toList)) []
def afo(cf:bv)(n w:Nat)(r:nD):Code->S->T
 |.ret,s=>sQ cf w r s|.seq (.region _ X E) .ret,s=>XJ cf n X (sQ cf w r) s|_,_=>.stuck "early"
def N1(cf:bv)(n w:Nat)(r:nD):Code->(S->T)->S->T
 |.region _ X E,k,s=>XJ cf n X k s|.seq a b,k,s=>N1 cf n w r a (N1 cf n w r b k) s
 |.cond c a .skip,k,s=>match s.ev cf.gl c with|.bool x=>.aJ x (afo cf n w r a s) (k s)|_=>.stuck "cond"
 |_,_,_=>.stuck "prefix"
def XK(cf:bv)(A:TypeId)(n:Nat)(X:FuncId)(w:Nat)(r:nD):Code->S->T
 |.seq a W,s=>match S9 a with
  |U (_,V)=>match s.tmps[V]? with
   |U (.loc i 0)=>if aK s.au i then kw cf n X W s iB (apH cf w A i r) else .stuck "defer"
   |_=>.stuck "defer"
  |none=>N1 cf n w r a (XK cf A n X w r W) s
 |_,_=>.stuck "no deferred call"
def XL(cf:bv)(A:TypeId)(n:Nat)(W:FuncId)(c:Code)(V:Nat)(r:nD)(X:aq)(s:S):T:=XK cf A n W (Y s.au) r c {s with tmps:=X++ee (V-Y X) (.bI [])}
structure Fh(P:Program)(g:FuncId)(A:TypeId):Prop where
 zr:∀args W,(callFunc g args).run P W=.ok (.enter g args) W
 ret:∀(W:World)(b:Nat),CallsDIn Fence.wide 0 P g #[.pointer (U ⟨b,0,Z⟩)] .returning W λen u W'=>(∃v,en=.returned v)/\u=.returning/\W'=W
 bp:A≠0->∀(W:World)(b:Nat)(t:TypeId)(k0 k:Int),W.heap[b]?=U (.cells #[.int I k0] t (0,0))->CallsDIn Fence.wide 0 P g #[.pointer (U ⟨b,0,Z⟩)] (.panicking [{v:=.iface A (.agg #[.int I k]),recovered:=E}]) W λen u W'=>
  (∃v,en=.returned v)/\u=.panicking [{v:=.iface A (.agg #[.int I k]),recovered:=J}]/\Below W.heap.size (W.putObj b (.cells #[.int I k] t (0,0))) W'
def Fi:Code->Option FuncId
 |.seq a X=>match S9 a with|U (g,_)=>U g|none=>Fi X
 |_=>Z
section
variable{p:Sp}{cf:bv}{D:bT}{B:jH}{f:FuncId}{n w:Nat}{r:nD}{A:TypeId}
def apI(z:jd p cf)(c:∀r e,¬p.R (.panicked r) e)(b:qC p cf D.dJ B iB){Q:Exit->Act->World->Prop}{w:dF}{k:S->T}{L:dm}{a:Act}
  (hB:B.lM l x y L)(h:(XJ cf n w k l).aN p x L)(R:aA p.S0 p.w0 D cf.ty y x l a e)(hg:eC cf.gl x)
  (hk:∀G F u A H t,bB l x y G F u->cT l.ax L t->aA p.S0 p.w0 D cf.ty u F G A H->(k G).aN p F t->Q .normal A H):jQ Z f p.P (.region N w E) Q a e:=by
 obtain⟨Rr,o⟩:=R.room (mP w.toList);refine vZ (n:=0) (wpIn_region ?_);unfold XJ at h;rw[S5,NY] at h;have m:=A4 (ops:=w) z.pt z.zd (zv Z) z.kK (Kq z (Kr z n).1 b) (D:=D) (k:=k) (kp:=λ_ _=>.stuck "panic") (Q:=Q) (λr A H pd X hA hR=>(c r H hR).elim) (n:=0) (fU (λ_=>E) J E 0 (Y l.au) w.toList) 0 _ [] L x _ _ e
  (λN m' hi=>by have:=Ko _ _ _ _ _ _ _ _ hi;simpa using this) (hB.go o (cT.refl _ _)) h (λM hx=>by cases hx) Rr hg (λG F u A H t j g d q=>hk G F u A H t (o.trans j) g d q) (λv G F u A H t j g d q=>q.elim)
 rw[SF] at m;simpa[Vk] using m
def aAy(z:jd p cf)(v:∀u e,¬p.R (.panicked u) e)(t:qC p cf D.dJ B iB){Q:Exit->Act->World->Prop}{c:Code}{L:dm}{a:Act}
  (q:B.lM l x y L)(h:(afo cf n w r c l).aN p x L)(R:aA p.S0 p.w0 D cf.ty y x l a e)(o:eC cf.gl x)
  (A:∀X N G M H F,aA p.S0 p.w0 D cf.ty G N X M H->(sQ cf w r X).aN p N F->Q .ret M H):jQ Z f p.P c Q a e:=by
 unfold afo at h;split at h;exact vZ (n:=0) (wpIn_ret (A l x y a e L R h));refine Kk (apI z v t q h R o ?_);intro X N G M H F _ _ m k;exact vZ (n:=0) (wpIn_ret (A X N G M H F m k));exact h.elim
def aAz(g:jd p cf)(e:∀ch W,¬p.R (.panicked ch) W)(hY:qC p cf D.dJ B iB):∀(c:Code)(k:S->T)(Q:Exit->Act->World->Prop)(s:S)(L:dm)(O:aj)(V:ar)(a:Act)(W:World),
  B.lM s O V L->(N1 cf n w r c k s).aN p O L->aA p.S0 p.w0 D cf.ty V O s a W->eC cf.gl O->
  (∀X N A H G v,bB s O V X N A->cT s.ax L v->aA p.S0 p.w0 D cf.ty A N X H G->(k X).aN p N v->Q .normal H G)->
  (∀X N A H G v,aA p.S0 p.w0 D cf.ty A N X H G->(sQ cf w r X).aN p N v->Q .ret H G)->jQ Z f p.P c Q a W:=by
 intro c;induction c with
 |region i an d=>
  intro k Q s L O V a W F h R M u q;cases d with|true=>exact False.elim h|false=>exact apI g e hY F h R M u
 |seq x y ab aa=>
  intro k Q s L O V a W F h R M u q;refine Kk (ab (N1 cf n w r y k) _ s L O V a W F h R M ?_ ?_);intro X N A H G v o hL R' ac;refine aa k Q X v N A H G (F.go o hL) ac R' (M.ext o.ext) ?_ q;intro s2 O2 V2 a2 W2 L2 af ag R2 al;exact u s2 O2 V2 a2 W2 L2 (o.trans af) (cT.trans (m:=X.ax) hL ag o.ax) R2 al;exact q
 |cond x y z aa a0=>
  intro k Q s L O V a W F h R M u q;cases z with
  |skip=>
   simp only[N1] at h;split at h;rename_i b hc;have j:=db R M x (by rw[hc];rfl);rw[hc] at j;cases l:b.ai O;exact NC (t:=E) (by simpa[C.ai,l] using j) (vZ (n:=0) (wpIn_skip (u s O V a W L (bB.refl _ _ _) (cT.refl _ _) R (h.2 l))));exact NC (t:=J) (by simpa[C.ai,l] using j) (aAy g e hY F (h.1 l) R M q);exact h.elim
  |_=>exact False.elim h
 |_=>intro k Q s L O V a W F h R M u q;exact False.elim h
def afp(Q:jd p cf){N:Func}{a:Act}{L:dm}(R:aA p.S0 p.w0 D cf.ty y x l a e)(h:(sQ cf w N.results.toList l).aN p x L):
  LeavesInM Fence.wide 0 p.P N a.tmps p.R [] .returning e:=by
 unfold sQ at h;split at h;rename_i X M;refine⟨_,Kh R Q.kK M, ?_⟩;exact h x.y y _ (by rw[Q.pt];exact(R.mem.take _).lL (NI _));exact h.elim
def aAA{c:Code}(h:S9 c=U (v,N)):∃i o X,c=.region i #[o] E/\o.op=.defer X/\X.callee=.value (.func v)/\X.args= #[.tmp N]/\o.guard=Z/\o.dst=none:=by
 unfold S9 at h;split at h;rename_i i W;unfold apG at h;split at h;rename_i o V;split at h;rename_i X R Q P;split at h;rename_i L H O M;simp at h;obtain⟨rfl,rfl⟩:=h;exact⟨i,o,X,by rw[show W= #[o] by apply nA;simp[V]],R,O,by apply nA;simp[M],Q,P⟩;cases h;cases h;cases h;cases h
def aAB(m:jd p cf)(af:∀ch W,¬p.R (.panicked ch) W){M:Func}(hf:p.P.funcs[f]?=U M)(hY:qC p cf [] B iB):∀(c:Code)(s:S)(L:dm)(O:aj)(V:ar)(a:Act)(W:World),
  (∀g,Fi c=U g->Fh p.P g A)->B.lM s O V L->(XK cf A n f w M.results.toList c s).aN p O L->aA p.S0 p.w0 ⟨[],[],J,[]⟩ cf.ty V O s a W->eC cf.gl O->
  jQ Z f p.P c (bodyPostM Fence.wide 0 p.P M p.R) a W:=by
 intro c;induction c with
 |seq x ag _ ih=>
  intro s L O V a W bq hB h R t;simp only[XK] at h;cases F:S9 x with
  |none=>
   rw[F] at h;simp only at h;refine Kk (aAz (D:=⟨[],[],J,[]⟩) m af hY x _ _ s L O V a W hB h R t ?_ ?_);intro l r k Q H j b hL R' ab;exact ih l j r k Q H (λg bc=>bq g (by simp only[Fi,F];exact bc)) (hB.go b hL) ab R' (t.ext b.ext);intro l r k Q H j R' ab;obtain⟨ms,z,q0,-,-⟩:=R'.dh.mw;have:=q0 rfl;subst this;show LeavesInM Fence.wide 0 p.P M Q.tmps p.R Q.defers .returning H;rw[show Q.defers=[] by simpa using z];exact afp m R' ab
  |some q=>
   obtain⟨g,te⟩:=q;rw[F] at h;simp only at h;obtain⟨i,o,dc,rfl,g1,g2,g3,g4,g5⟩:=aAA F;have hc:=bq g (by simp only[Fi,F]);split at h;rename_i G bd;split at h;rename_i bf;have bg:a.tmps[te]?=U (.pointer (U ⟨ad V G,0,Z⟩)):=by
    rcases R.tmps _ _ bd with h|h;cases h;exact h
   have bk:a.defers=[]:=by
    obtain⟨ms,z,q0,-,-⟩:=R.dh.mw;have:=q0 rfl;subst this;simpa using z
   obtain⟨X,aa⟩:∃X:Deferred,X={target:=.fn (.func g) #[],args:= #[.pointer (U ⟨ad V G,0,Z⟩)]}:=⟨_,rfl⟩;have bl:ef p.w0 ⟨[],[],E,[X]⟩ s.pd O.y [X] W:=by
    have h:=R.dh;exact⟨h.len,h.rX,h.dJ,h.inj,[],rfl,λ_=>rfl,aw,λd F=>by simp at F⟩
   have R2:aA p.S0 p.w0 ⟨[],[],E,[X]⟩ cf.ty V O s {a with defers:=[X]} W:=⟨R.mem,R.gE,R.ei,R.eb,R.er,bl,R.size,R.tmps,R.eL⟩;refine Kk (vZ (n:=0) (wpIn_region ?_));have br:dj (#[o]:dF).size=[0]:=rfl;rw[br];have e2:(execOp a.eval o).run p.P W=.ok (.defer X) W:=by
    have:a.eval (.tmp te)=.pointer (U ⟨ad V G,0,Z⟩):=by simp[Act.eval,abX,bg]
    have h0:a.eval (.func g)=.func (.func g) #[] #[]:=rfl;simp[execOp,g1,resolve,g2,g3,this,h0,Deferred.ofValue,aa]
   have bs:∀y,lI o y=true:=λy=>by simp[lI,g4]
   have hF:=zv Z;show wpOpsIn _ 0 p.P #[o] _ [0] a W;simp only[wpOpsIn,akJ,Cd,bs,dN];refine⟨λf _=>hF.fn f, ?_⟩;rw[show(Sz Z).round=Z from rfl,av8,e2,aI5];have bx:({a with defers:=X::a.defers}:Act).put o.dst undef={a with defers:=[X]}:=by
    rw[g5,bk];rfl
   rw[bx];show jQ Z f p.P ag (bodyPostM Fence.wide 0 p.P M p.R) _ W;rw[NY] at h;refine(Kr m n).1 ⟨[],[],E,[X]⟩ _ iB Z f ag _ _ L O V _ W _ (E8 _ _) (jH.here s O V L) rfl (λhh=>by cases hh) ⟨M,hf⟩ h R2 t (λch Q H pd y hA hR=>(af ch H hR).elim) ?_;intro e l r k Q H j b hL RR N;obtain⟨al,z,q0,q2,q3⟩:=RR.dh.mw;have R3:=RR.ri z;have an:∀d0∈al,H.heap[d0]?=U (.deferred (U [])):=λd0 b0=>(q3 d0 (by simp[b0])).1
   have a0:al.Nodup:=(xl.1 q2).1;have a1:∀Wx,(invoke X.target X.args).run p.P Wx=.ok (.enter g #[.pointer (U ⟨ad V G,0,Z⟩)]) Wx:=λWx=>by
    rw[aa];simp[invoke,hc.zr]
   have a3:(sQ cf w M.results.toList l).aN p r j->LeavesInM Fence.wide 0 p.P M Q.tmps p.R Q.defers .returning H:=by
    intro b1;rw[z];refine sa aw a0 an ⟨aw,.inr ⟨by simp[Fence.wide],_,_,_,_,by rw[aa],a1 _,λg t=>trivial, ?_⟩⟩;refine(hc.ret _ _).mono ?_;rintro en u W4 ⟨⟨v,rfl⟩,rfl,rfl⟩;exact afp (a:={Q with defers:=[X]}) m R3 b1
   cases e with
   |normal=>exact a3 N|ret=>exact a3 N|exit id=>exact N.elim
   |bp v=>
    simp only[apH] at N;split at N;rename_i tt x;split at N;rename_i bt y a4;split at N;rename_i a9;simp only[aC,ge,bne_iff_ne,jP] at a9;obtain⟨⟨rfl,b2⟩,ba⟩:=a9;have bb:ad k G=ad V G:=b.ext.ad G bf;have ac:=R3.mem.box G bt _ a4;rw[qz ba] at ac;rw[bb] at ac;show LeavesInM Fence.wide 0 p.P M Q.tmps p.R Q.defers (.panicking _) H;rw[z];refine sa aw a0 an ⟨aw,.inr ⟨by simp[Fence.wide],_,_,_,_,by rw[aa],a1 _,λg t=>trivial, ?_⟩⟩;refine(hc.bp b2 _ (ad V G) bt (y.ai r) (x.ai r) ac).mono ?_;rintro en u W4 ⟨⟨v,rfl⟩,rfl,b3⟩;have R4:=R3.Wz (cs':=[.int I x]) a4;rw[qz ba,bb] at R4;exact afp (a:={Q with defers:=[X]}) m (R4.below (by rw[avY];exact b3)) N;exact N.elim;exact N.elim;exact N.elim
   exact h.elim;exact h.elim
 |_=>intro s L O V a W bq hB h R t;exact False.elim h
def aAC(N:jd p cf)(M:∀L W,¬p.R (.panicked L) W){X:Func}{c:Code}(Q:p.P.funcs[f]?=U X)(H:X.body=U c)(bq:∀g,Fi c=U g->Fh p.P g A)
    (G:(XL cf A n f c X.ntmps X.results.toList t l).aN p x [])(F:eC cf.gl x)(R:aA p.S0 p.w0 bT.none cf.ty y x {l with tmps:=[]} ⟨#[],[]⟩ p.w0):
  Calls p.P f (C.az x y t).toArray p.w0 p.R:=by
 refine Kl Q H ?_;have z:ef p.w0 ⟨[],[],J,[]⟩ l.pd x.y [] p.w0:=by
  have h:=R.dh;exact⟨h.len,h.rX,h.dJ,h.inj,[],rfl,λ_=>rfl,aw,λd w=>by simp at w⟩
 have RE:=R.enter t X.ntmps z;exact aAB N M Q (E8 (p:=p) (cf:=cf) [] ⟨{l with tmps:=t++ee (X.ntmps-Y t) (.bI [])},x,y,[]⟩) c _ [] x y _ p.w0 bq (jH.here _ _ _ _) G RE F
end
def HB(cf:bv)(Q:Option TypeId)(n:Nat)(X:FuncId)(c:Code)(W:Nat)(r:nD)(V:aq)(s:S):T:=match Q with
 |none=>afl cf n X c W r V s
 |U R=>match rV c with|U _=>XG cf n X c W r R V s|none=>XL cf R n X c W r V s
def xS(P:Program)(c:Code)(W:Option TypeId):Prop:=match W with
 |none=>True
 |U X=>match rV c with|U d=>zx P d.g X|none=>∀g,Fi c=U g->Fh P g X
def xS.erl{P:Program}{c:Code}(X:rV c=Z)(h:xS P c (U k)):∀g,Fi c=U g->Fh P g k:=by
 simp only[xS,X] at h;exact h
def xS.d{P:Program}{c:Code}{d:DI}(X:rV c=U d)(h:xS P c (U k)):zx P d.g k:=by
 simp only[xS,X] at h;exact h
def aAE{cf:bv}{c:Code}{X:Nat}{r:nD}(W:rV c=Z):HB cf (U k) N v c X r t l=XL cf k N v c X r t l:=by
 simp only[HB,W]
def aAF{cf:bv}{c:Code}{X:Nat}{r:nD}{d:DI}(W:rV c=U d):HB cf (U k) N v c X r t l=XG cf N v c X r k t l:=by
 simp only[HB,W]
section
variable{P:Program}{a:Ty}{M Q:FuncId->mg}{bh:my}{G:World->Prop}{H B:iX}{X d:aL}
def aAG{cf:bv}{u:Func}{c:Code}{F:aZ->jR}{glk:bo}{glv:aE}{l:aq}{m j:Nat}
  (ac:∀w R,(∀s W V o,w.heap.size<=V->R (.panicked s) W->R (.panicked s) (W.putObj V o))->jd ⟨P,a,[],w,bT.none,R,λ_ _ _=>False⟩ cf)(af:cf.ty=a)(ag:∀v,Hy P a M Q G v (bh v))(hG:∀W r,Below W.heap.size W r->G W->G r)
  (hf:P.funcs[v]?=U u)(hb:u.body=U c)(bq:∀L,Fi c=U L->Fh P L k)(al:M v=U B)(an:Q v=U H)(a0:fH a B=U d)(h:fH a H=U X)
  (hl:gv a B t=U l)(a1:lA 0 0 (Y glv) d l=J)(bY:g=glk++gj d)(a3:∀(D:Nat)(b:TypeId),g[D]?≠U (.own b))(a4:Y glv=Y glk)(hq:glv=[]\/wc X=J)
  (a9:∀x y,dK d y->(dI x y).i.length=m)(ba:∀x y,dK d y->(dI x y).b.length=j)
  (bb:∀W,G W->∃x,NX a cf.gl glk glv W x)
  (ht:∀(p:Sp)(O:aj),b.aN p O []->(XL cf k N v c u.ntmps u.results.toList t ⟨[],[],m,j,g,0,0,[]⟩).aN p O [])(bc:∀y A,F y≠U (.bp A))
  (hF:∀y o,dK d y->F y=U o->∃z,run a M Q bh H z b (dI glv y) g []=U o):Xy P a M Q G v F:=by
 intro bf bg bk bl e h2 h3 h4 xh y o ho hx aa W ab hH;rw[al] at e;cases e;rw[an] at h2;cases h2;rw[a0] at h3;cases h3;rw[h] at h4;cases h4;obtain⟨z,hN⟩:=hF xh o (SQ aa hx) ho;obtain⟨x,hL⟩:=bb W ab;obtain⟨bd,hv,q⟩:=ae9 af ag hG h hl a1 bY a3 a4 hq a9 ba ab hL hN hx aa hH;rw[<-hv];refine aAC (p:=NT P a W H X d y o) (cf:=cf) (ac W _ (ae7 W)) (λs r q=> ?_) hf hb bq (ht _ _ bd) (hL.ae8 y) q;obtain⟨-,A,h5,-⟩:=q;exact bc xh A (by rw[ho,h5])
end
section
variable{bh u:my}
def pM(L:∀f H o,bh f H=U o->u f H=U o):∀(n R:Nat)(t:T)(O:aj)(i:mz)(o:aX),n<=R->exec bh n t O i=U o->exec u R t O i=U o
 |0,_,t,O,i,o,_,h=>by simp[exec] at h|n+1,0,t,O,i,o,G,h=>ae
 |n+1,R+1,t,O,i,o,G,h=>by
  have X:=pM L n R;cases t with
  |ret v F Q=>simpa only[exec] using h|bp v=>simpa only[exec] using h
  |aJ b t f=>
   simp only[exec] at h⊢;split at h;rename_i W;rw[aH W];exact X t O i o ae h;rename_i W;rw[aP W];exact X f O i o ae h
  |aS b t=>
   simp only[exec] at h⊢;split at h;rename_i W;rw[aH W];exact X t O i o ae h;cases h
  |call f D F Q B fz t=>
   simp only[exec] at h⊢;cases N:bh f ((rk D).map (C.xv O)) with
   |none=>rw[N] at h;cases h
   |some r=>
    rw[N] at h;rw[L _ _ _ N];cases r with
    |ret y=>
     simp only at h⊢;split at h;rename_i P;rw[aH P];exact X t _ i o ae h;cases h
    |bp v=>exact h
  |loop ax B w t=>
   simp only[exec] at h⊢;exact X t _ _ o ae h
  |back ax x=>
   simp only[exec] at h⊢;cases P:we ax i with
   |none=>rw[P] at h;cases h
   |some q=>
    obtain⟨A,p⟩:=q;rw[P] at h;exact X A.t _ _ o ae h
  |new e x Q l t=>
   simp only[exec] at h⊢;exact X t _ i o ae h
  |ah k x Q t=>
   simp only[exec] at h⊢;exact X t _ i o ae h
  |gr g z t f=>
   simp only[exec] at h⊢;split at h;rename_i M;rw[aH M];split at h;rename_i V;rw[aH V];exact ao4 h (X t O i o ae) (X f O i o ae);rename_i V;rw[aP V];exact X t O i o ae h;rename_i M;rw[aP M];split at h;rename_i V;rw[aH V];exact X f O i o ae h;cases h
  |pick m g z t f=>
   simp only[exec] at h⊢;refine ao5 h λj _ q=> ?_
   cases j with|some j=>exact X t _ i o ae q|none=>exact X f _ i o ae q
  |eF f g e d c r Q t=>
   simp only[exec] at h⊢;split at h;rename_i a aa;exact X t _ i o ae h;cases h
  |out e s=>simp[exec] at h|stuck m=>simp[exec] at h
end
def iV(n:Int):RV:=.mk (.int I n) []
def bV(b:Bool):RV:=.mk (.bool b) []
def sV(l:bA):RV:=.mk (.slice Z (Y l) (Y l)) (l.map λn=>[iV n])
def Bg(b:Nat)(X:av):RV:=.mk (.slice (U ⟨b,0,Z⟩) (Y X) (Y X)) X
def wl:aE:=[
 Bg 0 ([(E,E,E,0,0,0),(J,J,E,1,0,16),(E,J,E,1,0,16),(J,J,E,0,3,0),(J,J,E,0,3,0),(E,J,E,0,3,0),(E,E,E,0,0,7),(E,E,J,0,0,0),(E,E,J,0,0,0),(J,E,E,0,3,0)].map λ(a,b,c,d,e,f)=>[bV a,bV b,bV c,iV d,iV e,iV f]),
 Bg 1 ([([],[]),([0],[]),([],[0,1]),([0],[]),([2],[]),([],[4]),([],[]),([],[2,3]),([],[0,1]),([2],[])].map λ(a,b)=>[sV a,sV b]),
 Bg 2 ([(0,29),(20,21),(29,0),(20,-21),(0,-29),(-20,-21),(-29,0),(-20,21)].map λ(a,b)=>[iV a,iV b])]
def mA(g:Bool):aE:=if g then wl else[]
def zy(d:Bool):jR->jR
 |U (.ret X)=>U (.ret X)|U (.bp v)=>if d then Z else U (.bp v)|none=>Z
structure Fn where
 t:T
 g:Bool:=E
 d:Bool:=E
structure lR where
 tree:FuncId->Option Fn
 uN:my
def lR.bh(p:lR):Nat->my
 |0=>p.uN
 |n+1=>λf W=>match p.uN f W with
  |U o=>U o
  |none=>match p.tree f with|U X=>zy X.d (exec (lR.bh p n) n X.t (dI (mA X.g) W) [])|none=>Z
def og{p:lR}:∀(n W:Nat)(f:FuncId)(X:aZ)(o:aX),n<=W->p.bh n f X=U o->p.bh W f X=U o
 |0,0,f,X,o,_,h=>h
 |0,W+1,f,X,o,_,h=>by
  simp only[lR.bh] at h⊢;rw[h]
 |n+1,0,f,X,o,M,_=>ae
 |n+1,W+1,f,X,o,M,h=>by
  simp only[lR.bh] at h⊢;cases Q:p.uN f X with
  |some P=>rw[Q] at h;exact h
  |none=>
   rw[Q] at h;simp only at h⊢;cases N:p.tree f with
   |none=>rw[N] at h;cases h
   |some V=>
    rw[N] at h;simp only at h⊢;cases R:exec (p.bh n) n V.t (dI (mA V.g) X) [] with
    |none=>rw[R] at h;cases h
    |some P=>
     rw[R] at h;rw[pM (λf X o h=>og n W f X o ae h) n W V.t _ _ P ae R];exact h
def lR.Ev(p:lR)(f:FuncId)(X:aZ)(o:aX):Prop:=∃n,p.bh n f X=U o
def lR.Go(p:lR)(t:T)(O:aj)(i:mz)(o:aX):Prop:=∃n,exec (p.bh n) n t O i=U o
section
variable{p:lR}{O:aj}{i:mz}{o:aX}
def afq{X:aZ}(h:p.uN v X=U o):p.Ev v X o:=⟨0,h⟩
def aAH{W:aZ}{X:Fn}(Q:p.tree v=U X)(P:p.uN v W=Z)(V:X.d=E\/∃R,o=.ret R)(h:p.Go X.t (dI (mA X.g) W) [] o):p.Ev v W o:=by
 obtain⟨n,h⟩:=h;refine⟨n+1, ?_⟩;simp only[lR.bh,P,Q,h];rcases V with V|⟨R,rfl⟩;cases o<;>simp[zy,V];rfl
def go_of:p.Go b O i o<->∃n,exec (p.bh (n+1)) (n+1) b O i=U o:=
 ⟨λ⟨n,h⟩=>⟨n,pM (λf X o h=>og n (n+1) f X o ae h) n (n+1) b O i o ae h⟩,λ⟨n,h⟩=>⟨n+1,h⟩⟩
def go_up{m:Nat}(h:exec (p.bh N) m b O i=U o):p.Go b O i o:=
 ⟨max N m,pM (λf X o h=>og N _ f X o ae h) m _ b O i o ae h⟩
@[simp] def go_ret {v:C} {X:bm}:p.Go (.ret v X g) O i o<->o=.ret ((zw v).map (C.xv O)):=by
 rw[go_of];simp only[exec,dW]
 grind
@[simp] def go_pan {v:C}:p.Go (.bp v) O i o<->(Kt O v).map .bp=U o:=by
 rw[go_of];simp only[exec];simp
@[simp] def go_node {X:BE} {f:T}:p.Go (.aJ X b f) O i o<->if X.ai O=J then p.Go b O i o else p.Go f O i o:=by
 rw[go_of];simp only[exec];split
 ·exact⟨λ⟨n,h⟩=>go_up h,λ⟨n,h⟩=>⟨n,pM (λf W o h=>og n (n+1) f W o ae h) n n b O i o ae h⟩⟩
 ·exact⟨λ⟨n,h⟩=>go_up h,λ⟨n,h⟩=>⟨n,pM (λf W o h=>og n (n+1) f W o ae h) n n f O i o ae h⟩⟩
@[simp] def go_need {X:BE}:p.Go (.aS X b) O i o<->X.ai O=J/\p.Go b O i o:=by
 rw[go_of];simp only[exec];by_cases W:X.ai O=J
 ·simp only[W,dN,true_and];exact⟨λ⟨n,h⟩=>go_up h,λ⟨n,h⟩=>⟨n,pM (λf V o h=>og n (n+1) f V o ae h) n n b O i o ae h⟩⟩
 simp[W]
@[simp] def go_loop {X:aL}:p.Go (.loop N X t b) O i o<->p.Go b (O.ext (t.map (C.xv O))) (⟨N,b,O⟩::i) o:=by
 rw[go_of];simp only[exec];exact⟨λ⟨n,h⟩=>go_up h,λ⟨n,h⟩=>⟨n,pM (λf W o h=>og n (n+1) f W o ae h) n n b _ _ o ae h⟩⟩
@[simp] def go_new {x:LE} {X:bo}:p.Go (.new k x g X b) O i o<->p.Go b (O.add (.r (gu x O))) i o:=by
 rw[go_of];simp only[exec];exact⟨λ⟨n,h⟩=>go_up h,λ⟨n,h⟩=>⟨n,pM (λf W o h=>og n (n+1) f W o ae h) n n b _ _ o ae h⟩⟩
@[simp] def go_rows {k:RK} {x:LE}:p.Go (.ah k x g b) O i o<->p.Go b (O.add (.r (gu x O))) i o:=by
 rw[go_of];simp only[exec];exact⟨λ⟨n,h⟩=>go_up h,λ⟨n,h⟩=>⟨n,pM (λf X o h=>og n (n+1) f X o ae h) n n b _ _ o ae h⟩⟩
def go_turn{X:FuncId}{W:bu}{V:Bool}{r:RE}{R:av}(h:oJ O W V (r.rv O).ah=U R):p.Go (.eF v X k W V r g b) O i o<->p.Go b (O.add (.r (.mk (r.rv O).val R))) i o:=by
 rw[go_of];simp only[exec,h];exact⟨λ⟨n,h⟩=>go_up h,λ⟨n,h⟩=>⟨n,pM (λv Q o h=>og n (n+1) v Q o ae h) n n b _ _ o ae h⟩⟩
def go_back{W:mz}{X:Lp}(h:we N i=U (X,W)):p.Go (.back N t) O i o<->p.Go X.t (X.O.ext (t.map (C.xv O))) (X::W) o:=by
 rw[go_of];simp only[exec,h];exact⟨λ⟨n,h⟩=>go_up h,λ⟨n,h⟩=>⟨n,pM (λf V o h=>og n (n+1) f V o ae h) n n X.t _ _ o ae h⟩⟩
def go_call{R:bm}{V:aL}{fz:C}{X:aZ}(h:p.Ev v ((rk t).map (C.xv O)) (.ret X))(Q:fA V X=J)(W:p.Go b (O.ext X) i o):p.Go (.call v t R g V fz b) O i o:=by
 obtain⟨n,h⟩:=h;obtain⟨m,W⟩:=W;refine⟨max n m+1, ?_⟩;simp only[exec];rw[og n _ _ _ _ ae h];simp only[Q,dN];exact pM (λv P o h=>og m _ v P o ae h) m _ b _ _ o ae W
def go_callp{W:bm}{V:aL}{fz:C}{X:Value}(h:p.Ev v ((rk t).map (C.xv O)) (.bp X)):p.Go (.call v t W g V fz b) O i (.bp X):=by
 obtain⟨n,h⟩:=h;refine⟨n+1, ?_⟩;simp only[exec];rw[og n _ _ _ _ ae h]
end
structure PC where
 ax:Nat
 I:aZ->Prop
 μ:aZ->Nat
 m:Nat
abbrev ck:=List PC
def Bh(ax:Nat):ck->Option PC
 |[]=>Z|x::X=>if x.ax=ax then U x else Bh ax X
def KD(R:aX->Prop):Prop:=∀o X,R o->R X->o=X/\Bb o o=J
def T.nP(W:FuncId->aZ->aX->Prop):T->(aX->Prop)->aj->ck->Prop
 |.ret v _ _,R,O,_=>R (.ret ((zw v).map (C.xv O)))|.bp v,R,O,_=>∃x,Kt O v=U x/\R (.bp x)|.aJ b t f,R,O,L=>(b.ai O=J->t.nP W R O L)/\(b.ai O=E->f.nP W R O L)|.aS b t,R,O,L=>b.ai O=J/\t.nP W R O L
 |.call f G _ _ F _ t,R,O,L=>∃o,W f ((rk G).map (C.xv O)) o/\(match o with|.ret N=>fA F N=J/\t.nP W R (O.ext N) L|.bp v=>R (.bp v))
 |.loop ax _ D t,R,O,L=>∃V Q,((V=R/\Q=L)\/((∀o,V o->R o)/\Q=[]))/\∃X M,X (D.map (C.xv O))/\∀P,X P->t.nP W V (O.ext P) (⟨ax,X,M,M P⟩::Q)
 |.back ax x,R,O,L=>match Bh ax L with|U c=>c.I (x.map (C.xv O))/\c.μ (x.map (C.xv O))<c.m|none=>False
 |.new _ x _ _ t,R,O,L=>t.nP W R (O.add (.r (gu x O))) L|.ah _ x _ t,R,O,L=>t.nP W R (O.add (.r (gu x O))) L|.gr g h t f,R,O,L=>(g.ai O=J\/h.ai O=J)/\(g.ai O=J->t.nP W R O L)/\(h.ai O=J->f.nP W R O L)/\(g.ai O=J->h.ai O=J->KD R)|.pick n g h t f,R,O,L=>KD R/\xO n g h O≠[]/\(∀j:Int,0<=j->j<n.ai O->g.ai (O.add (.i j))=J->t.nP W R (O.add (.i j)) L)/\(h.ai O=J->f.nP W R O L)|.eF _ _ _ B A r _ t,R,O,L=>∃H,oJ O B A (r.rv O).ah=U H/\t.nP W R (O.add (.r (.mk (r.rv O).val H))) L|.stuck _,_,_,_=>False|.out _ _,_,_,_=>False
def T.wp(X:FuncId->aZ->aX->Prop)(R:aX->Prop)(t:T)(O:aj)(L:ck):Prop:=t.nP X R O L
section
variable{a:lR}{R:aX->Prop}
inductive C1(a:lR)(R:aX->Prop):List PC->List Lp->Prop where
 |nil (st:List Lp):C1 a R [] st
 |cons (c:PC) (fr:Lp) (L:List PC) (st:List Lp) (h1:c.ax=fr.ax) (h2:∀xs,c.I xs->c.μ xs<c.m->∃o,a.Go fr.t (fr.O.ext xs) (fr::st) o/\R o) (h3:C1 a R L st):C1 a R (c::L) (fr::st)
def C1.find{L:ck}{W:mz}(h:C1 a R L W){c:PC}(V:Bh N L=U c):
  ∃X P,we N W=U (X,P)/\∀Q,c.I Q->c.μ Q<c.m->∃o,a.Go X.t (X.O.ext Q) (X::P) o/\R o:=by
 induction h with
 |nil _=>cases V
 |cons F X L W M H D B=>
  simp only[Bh] at V;simp only[we,<-M];split at V;rename_i G;cases V;rw[aH G];exact⟨X,W,rfl,H⟩
  grind
def go_mono{X:mz}{o:aX}{m:Nat}(h:exec (a.bh N) N b x X=U o)(W:N<=m):exec (a.bh m) m b x X=U o:=
 pM (λf V o h=>og N m f V o W h) N m b x X o W h
def apJ{X:Type}{f:X->jR}{o:aX}(V:Bb o o=J):∀{l:List X},l≠[]->(∀x∈l,f x=U o)->wb (l.map f)=U o
 |[],h,_=>bE rfl h|[x],_,h=>by simpa[wb] using h x aw
 |x::y::r,_,h=>by
  have:=apJ V (l:=y::r) aw (λz W=>h z (by simp at W⊢;exact .inr W))
  grind [wb,C0]
def apK{W:Type}{p:W->Nat->Prop}(V:∀x n m,p x n->n<=m->p x m):∀{l:List W},(∀x∈l,∃n,p x n)->∃n,∀x∈l,p x n
 |[],_=>⟨0,λx Q=>by cases Q⟩
 |x::r,h=>by
  obtain⟨n,O⟩:=h x aw;obtain⟨m,P⟩:=apK V (l:=r) (λz X=>h z (by simp[X]));refine⟨max n m,λz X=> ?_⟩;rcases eu.1 X with rfl|X
  grind
  exact V _ _ _ (P z X) ae
def go_wp:∀(t:T)(R:aX->Prop)(O:aj)(L:ck)(W:mz),t.nP a.Ev R O L->C1 a R L W->∃o,a.Go t O W o/\R o
 |.ret v bx y,R,O,L,W,h,_=>⟨_,go_ret.2 rfl,h⟩
 |.bp v,R,O,L,W,h,_=>by
  obtain⟨x,P,V⟩:=h;exact⟨.bp x,go_pan.2 (by rw[P];rfl),V⟩
 |.aJ b t f,R,O,L,W,h,Q=>by
  simp;cases hb:b.ai O with|true=>simpa using go_wp t R O L W (h.1 hb) Q|false=>simpa using go_wp f R O L W (h.2 hb) Q
 |.aS b t,R,O,L,W,h,Q=>by
  obtain⟨o,P,V⟩:=go_wp t R O L W h.2 Q;exact⟨o,go_need.2 ⟨h.1,P⟩,V⟩
 |.call f a1 bx y ks fz t,R,O,L,W,h,Q=>by
  obtain⟨o,P,V⟩:=h;cases o with
  |ret ys=>
   obtain⟨o,M,F⟩:=go_wp t R (O.ext ys) L W V.2 Q;exact⟨o,go_call P V.1 M,F⟩
  |bp v=>exact⟨.bp v,go_callp P,V⟩
 |.loop ax ks x0 t,R,O,L,W,h,Q=>by
  obtain⟨w,L',ab,X,μ,P,V⟩:=h;have aa:C1 a w L' W/\∀o,w o->R o:=by
   rcases ab with⟨rfl,rfl⟩|⟨M,rfl⟩
   grind
   exact⟨C1.nil W,M⟩
  have ac:∀n N,μ N<n->X N->∃o,a.Go t (O.ext N) (⟨ax,t,O⟩::W) o/\w o:=by
   intro n;induction n with
   |zero=>intro N d;omega
   |succ n ih=>
    intro N d hI;exact go_wp t w (O.ext N) _ _ (V N hI) (C1.cons _ _ _ _ rfl (λaf ag hm=>ih af (by simp only at hm;omega) ag) aa.1)
  obtain⟨o,M,F⟩:=ac _ _ (akR _) P;exact⟨o,go_loop.2 M,aa.2 o F⟩
 |.back ax x,R,O,L,W,h,Q=>by
  simp only[T.nP] at h;split at h
  ·rename_i c hf;obtain⟨fr,a3,P,V⟩:=Q.find hf;obtain⟨o,M,F⟩:=V _ h.1 h.2;exact⟨o,(go_back P).2 M,F⟩
  grind
 |.new e x y a4 t,R,O,L,W,h,Q=>by
  obtain⟨o,P,V⟩:=go_wp t R _ L W h Q;exact⟨o,go_new.2 P,V⟩
 |.ah e x y t,R,O,L,W,h,Q=>by
  obtain⟨o,P,V⟩:=go_wp t R _ L W h Q;exact⟨o,go_rows.2 P,V⟩
 |.gr g z t f,R,O,L,W,h,Q=>by
  obtain⟨u,P,V,M⟩:=h;cases B:g.ai O with
  |true=>
   obtain⟨o,H,A⟩:=go_wp t R O L W (P B) Q;cases D:z.ai O with
   |true=>
    obtain⟨o',k1,k2⟩:=go_wp f R O L W (V D) Q;obtain⟨rfl,e⟩:=M B D o o' A k2;obtain⟨n,H⟩:=H;obtain⟨m,k1⟩:=k1;refine⟨o,⟨max n m+1, ?_⟩,A⟩;simp only[exec,B,D,dN];rw[pM (λf N o h=>og n _ f N o ae h) n (max n m) t O W o ae H,pM (λf N o h=>og m _ f N o ae h) m (max n m) f O W o ae k1,C0,aH e]
   |false=>
    obtain⟨n,H⟩:=H;refine⟨o,⟨n+1, ?_⟩,A⟩;simp only[exec,B,D,dN];exact pM (λf N o h=>og n _ f N o ae h) n n t O W o ae H
  |false=>
   have D:z.ai O=true:=u.resolve_left (by simp[B]);obtain⟨o,H,A⟩:=go_wp f R O L W (V D) Q;obtain⟨n,H⟩:=H;refine⟨o,⟨n+1, ?_⟩,A⟩;simp only[exec,B,D,dN];exact pM (λf N o h=>og n _ f N o ae h) n n f O W o ae H
 |.pick m g z t f,R,O,L,W,h,Q=>by
  obtain⟨hs,u,P,V⟩:=h;have hw:∀j∈xO m g z O,∃o,R o/\(match j with
   |U j=>a.Go t (O.add (.i j)) W o
   |none=>a.Go f O W o):=by
   intro j G;cases j with
   |some j=>
    simp only[xO,fg,fw,qg,rN] at G;rcases G with⟨j',⟨⟨k,hk,rfl⟩,B⟩,e⟩|G
    ·cases e;obtain⟨o,H,A⟩:=go_wp t R (O.add (.i (k:Int))) L W (P _ ae ae B) Q
     grind
    grind
   |none=>
    simp only[xO,fg,fw,qg,rN] at G;rcases G with⟨j',_,e⟩|G;cases e;split at G
    ·rename_i D;obtain⟨o,H,A⟩:=go_wp f R O L W (V D) Q
     grind
    grind
  obtain⟨j0,al⟩:=List.exists_mem_of_ne_nil _ u;obtain⟨o,q,_⟩:=hw j0 al;have an:Bb o o=true:=(hs o o q q).2;obtain⟨n,d⟩:=apK (p:=λj n=>(match j with
   |U j=>exec (a.bh n) n t (O.add (.i j)) W
   |none=>exec (a.bh n) n f O W)=U o) (λx n m hx a0=>by cases x<;>exact go_mono hx a0) (l:=xO m g z O) (λj G=>by
    obtain⟨o',M,F⟩:=hw j G;obtain⟨rfl,_⟩:=hs o o' q M;cases j<;>exact F)
  refine⟨o,⟨n+1, ?_⟩,q⟩;simp only[exec];refine apJ an u λj G=> ?_
  have:=d j G;cases j with|some j=>exact pM (λf N o h=>og n _ f N o ae h) n n t _ W o ae this|none=>exact pM (λf N o h=>og n _ f N o ae h) n n f O W o ae this
 |.eF f g e sp sb r y t,R,O,L,W,h,Q=>by
  obtain⟨a9,P,V⟩:=h;obtain⟨o,M,F⟩:=go_wp t R _ L W V Q;exact⟨o,(go_turn P).2 M,F⟩
 |.stuck m,R,O,L,W,h,_=>h.elim|.out e s,R,O,L,W,h,_=>h.elim
def N2(a:lR)(f:FuncId)(X:Fn):Prop:=a.tree f=U X/\∀W,a.uN f W=Z
def apL{W:Fn}{V:aZ}(Q:N2 a v W)(O:W.d=E\/∀X,¬R (.bp X))(h:W.t.wp a.Ev R (dI (mA W.g) V) []):∃o,a.Ev v V o/\R o:=by
 obtain⟨o,N,P⟩:=go_wp W.t R _ [] [] h (C1.nil []);refine⟨o,aAH Q.1 (Q.2 _) (O.imp id λM=> ?_) N,P⟩;cases o with|ret L=>exact⟨L,rfl⟩|bp X=>exact(M X P).elim
def KE{W:Fn}{V:aZ}{o:aX}(Q:N2 a v W)(P:W.d=E\/∀X,o≠ .bp X)(h:W.t.wp a.Ev (· =o) (dI (mA W.g) V) []):a.Ev v V o:=by
 obtain⟨M,L,H⟩:=apL (R:=(· =o)) Q (P.imp id λO X N=>O X N.symm) h
 grind
def N3{X:aZ}{o W:aX}(h:a.Ev v X o)(k:a.Ev v X W):o=W:=by
 obtain⟨n,h⟩:=h;obtain⟨m,k⟩:=k;have V:=og n (max n m) v X o ae h;have Q:=og m (max n m) v X W ae k
 grind
end
def XM(n j:Nat)(a b c:Int)(X:av):Int:=match mo n [a,b,c] X with|U W=>bn (W.getD j default).val|none=>0
def XN(n j:Nat)(a b c:Int)(X:av):Bool:=match mo n [a,b,c] X with|U W=>jr (W.getD j default).val|none=>E
def K.dn(e:K):aj->Int:=K.rec (motive_1:=λ_=>aj->Int) (motive_2:=λ_=>aj->Bool) (motive_3:=λ_=>aj->RV) (λn _=>n) (λk O=>O.i.getD k 0) (λX k _ _ a b O=>be X k (a O) (b O)) (λk _ a O=>k.wrap (a O)) (λ_ r O=>lenOf (r O).val) (λW _ _ a b O=>cond W (max (a O) (b O)) (min (a O) (b O))) (λ_ _ _ b x y O=>cond (b O) (x O) (y O)) (λ_ _ j r i O=>bn (aQ (r O).ah (i O) j).val) (λ_ _ r i O=>G3 (r O).val (i O)) (λ_ n _ _ _ j r a b c O=>XM n j (a O) (b O) (c O) (r O).ah) (λb _=>b) (λk O=>O.b.getD k E) (λX _ _ a b O=>fk X (a O) (b O)) (λ_ a O=> !(a O)) (λ_ _ a b O=>a O&&b O) (λ_ _ a b O=>a O==b O) (λ_ _ _ b x y O=>cond (b O) (x O) (y O)) (λ_ _ j r i O=>jr (aQ (r O).ah (i O) j).val) (λ_ _ a b O=>xB (a O).val (b O).val) (λ_ n _ _ _ j r a b c O=>XN n j (a O) (b O) (c O) (r O).ah) (λ_ n _ _ _ r a b c O=>(mo n [a O,b O,c O] (r O).ah).isSome) (λk O=>O.rv k) (λ_ _ j k r i O=>cH k (aQ (r O).ah (i O) j)) (λv _=>.mk v []) e
def BE.dn(e:BE):aj->Bool:=BE.rec (motive_1:=λ_=>aj->Int) (motive_2:=λ_=>aj->Bool) (motive_3:=λ_=>aj->RV) (λn _=>n) (λk O=>O.i.getD k 0) (λX k _ _ a b O=>be X k (a O) (b O)) (λk _ a O=>k.wrap (a O)) (λ_ r O=>lenOf (r O).val) (λW _ _ a b O=>cond W (max (a O) (b O)) (min (a O) (b O))) (λ_ _ _ b x y O=>cond (b O) (x O) (y O)) (λ_ _ j r i O=>bn (aQ (r O).ah (i O) j).val) (λ_ _ r i O=>G3 (r O).val (i O)) (λ_ n _ _ _ j r a b c O=>XM n j (a O) (b O) (c O) (r O).ah) (λb _=>b) (λk O=>O.b.getD k E) (λX _ _ a b O=>fk X (a O) (b O)) (λ_ a O=> !(a O)) (λ_ _ a b O=>a O&&b O) (λ_ _ a b O=>a O==b O) (λ_ _ _ b x y O=>cond (b O) (x O) (y O)) (λ_ _ j r i O=>jr (aQ (r O).ah (i O) j).val) (λ_ _ a b O=>xB (a O).val (b O).val) (λ_ n _ _ _ j r a b c O=>XN n j (a O) (b O) (c O) (r O).ah) (λ_ n _ _ _ r a b c O=>(mo n [a O,b O,c O] (r O).ah).isSome) (λk O=>O.rv k) (λ_ _ j k r i O=>cH k (aQ (r O).ah (i O) j)) (λv _=>.mk v []) e
def RE.dn(e:RE):aj->RV:=RE.rec (motive_1:=λ_=>aj->Int) (motive_2:=λ_=>aj->Bool) (motive_3:=λ_=>aj->RV) (λn _=>n) (λk O=>O.i.getD k 0) (λX k _ _ a b O=>be X k (a O) (b O)) (λk _ a O=>k.wrap (a O)) (λ_ r O=>lenOf (r O).val) (λW _ _ a b O=>cond W (max (a O) (b O)) (min (a O) (b O))) (λ_ _ _ b x y O=>cond (b O) (x O) (y O)) (λ_ _ j r i O=>bn (aQ (r O).ah (i O) j).val) (λ_ _ r i O=>G3 (r O).val (i O)) (λ_ n _ _ _ j r a b c O=>XM n j (a O) (b O) (c O) (r O).ah) (λb _=>b) (λk O=>O.b.getD k E) (λX _ _ a b O=>fk X (a O) (b O)) (λ_ a O=> !(a O)) (λ_ _ a b O=>a O&&b O) (λ_ _ a b O=>a O==b O) (λ_ _ _ b x y O=>cond (b O) (x O) (y O)) (λ_ _ j r i O=>jr (aQ (r O).ah (i O) j).val) (λ_ _ a b O=>xB (a O).val (b O).val) (λ_ n _ _ _ j r a b c O=>XN n j (a O) (b O) (c O) (r O).ah) (λ_ n _ _ _ r a b c O=>(mo n [a O,b O,c O] (r O).ah).isSome) (λk O=>O.rv k) (λ_ _ j k r i O=>cH k (aQ (r O).ah (i O) j)) (λv _=>.mk v []) e
def XO{X:Type}(b:Bool)(x y:X):cond b x y=if b then x else y:=by cases b<;>rfl
mutual
def K.gm:∀(e:K)(O:aj),e.dn O=e.ai O
 |.c _,_=>rfl|.v _,_=>rfl|.bin o k a b,O=>by show be o k (a.dn O) (b.dn O)=_;rw[K.gm a,K.gm b];rfl|.conv k a,O=>by show k.wrap (a.dn O)=_;rw[K.gm a];rfl|.len r,O=>by show lenOf (r.dn O).val=_;rw[RE.gm r];rfl|.mm m a b,O=>by show cond m (max (a.dn O) (b.dn O)) (min (a.dn O) (b.dn O))=_;rw[K.gm a,K.gm b,XO];rfl|.dv b x y,O=>by show cond (b.dn O) (x.dn O) (y.dn O)=_;rw[BE.gm b,K.gm x,K.gm y,XO];rfl|.cell r i j,O=>by show bn (aQ (r.dn O).ah (i.dn O) j).val=_;rw[RE.gm r,K.gm i];rfl|.o7 r i,O=>by show G3 (r.dn O).val (i.dn O)=_;rw[RE.gm r,K.gm i];rfl|.look r n a b c j,O=>by show XM n j (a.dn O) (b.dn O) (c.dn O) (r.dn O).ah=_;rw[RE.gm r,K.gm a,K.gm b,K.gm c];rfl
def BE.gm:∀(e:BE)(O:aj),e.dn O=e.ai O
 |.c _,_=>rfl|.v _,_=>rfl|.cmp o a b,O=>by show fk o (a.dn O) (b.dn O)=_;rw[K.gm a,K.gm b];rfl|.not a,O=>by show(!(a.dn O))=_;rw[BE.gm a];rfl|.and a b,O=>by show(a.dn O&&b.dn O)=_;rw[BE.gm a,BE.gm b];rfl|.beq a b,O=>by show(a.dn O==b.dn O)=_;rw[BE.gm a,BE.gm b];rfl|.dv b x y,O=>by show cond (b.dn O) (x.dn O) (y.dn O)=_;rw[BE.gm b,BE.gm x,BE.gm y,XO];rfl|.cell r i j,O=>by show jr (aQ (r.dn O).ah (i.dn O) j).val=_;rw[RE.gm r,K.gm i];rfl|.seq a b,O=>by show xB (a.dn O).val (b.dn O).val=_;rw[RE.gm a,RE.gm b];rfl|.look r n a b c j,O=>by show XN n j (a.dn O) (b.dn O) (c.dn O) (r.dn O).ah=_;rw[RE.gm r,K.gm a,K.gm b,K.gm c];rfl|.has r n a b c,O=>by show(mo n [a.dn O,b.dn O,c.dn O] (r.dn O).ah).isSome=_;rw[RE.gm r,K.gm a,K.gm b,K.gm c];rfl
def RE.gm:∀(e:RE)(O:aj),e.dn O=e.rv O
 |.v _,_=>rfl|.cell r i j k,O=>by show cH k (aQ (r.dn O).ah (i.dn O) j)=_;rw[RE.gm r,K.gm i];rfl|.k _,_=>rfl
end
def fN{X:Type}(n:Nat)(k:Nat->X):X:=Jz (motive:=λ_=>X) (k 0) (λm _=>k (Nat.succ m)) n
def fI{X:Type}(n:Int)(k:Int->X):X:=Int.rec (motive:=λ_=>X) (λn=>fN n λn=>k (ak1 n)) (λn=>fN n λn=>k (akY n)) n
def fB{X:Type}(b:Bool)(k:Bool->X):X:=Ml (motive:=λ_=>X) (k E) (k J) b
def fV{X:Type}(v:Value)(k:Value->X):X:=match v with|.int q n=>fI n λn=>k (.int q n)|.bool b=>fB b λb=>k (.bool b)|.slice Z n c=>fN n λn=>fN c λc=>k (.slice Z n c)|v=>k v
def fR{X:Type}(v:RV):(RV->X)->X:=RV.rec (motive_1:=λ_=>(RV->X)->X) (motive_2:=λ_=>(av->X)->X) (motive_3:=λ_=>(aE->X)->X) (λv _ h k=>fV v λv=>h λl=>k (.mk v l)) (λk=>k []) (λ_ _ h W k=>h λx=>W λV=>k (x::V)) (λk=>k []) (λ_ _ h W k=>h λx=>W λV=>k (x::V)) v
def fRs{X:Type}(v:av):(av->X)->X:=RV.rec_1 (motive_1:=λ_=>(RV->X)->X) (motive_2:=λ_=>(av->X)->X) (motive_3:=λ_=>(aE->X)->X) (λv _ h k=>fV v λv=>h λl=>k (.mk v l)) (λk=>k []) (λ_ _ h W k=>h λx=>W λV=>k (x::V)) (λk=>k []) (λ_ _ h W k=>h λx=>W λV=>k (x::V)) v
def fRr{X:Type}(v:aE):(aE->X)->X:=RV.rec_2 (motive_1:=λ_=>(RV->X)->X) (motive_2:=λ_=>(av->X)->X) (motive_3:=λ_=>(aE->X)->X) (λv _ h k=>fV v λv=>h λl=>k (.mk v l)) (λk=>k []) (λ_ _ h W k=>h λx=>W λV=>k (x::V)) (λk=>k []) (λ_ _ h W k=>h λx=>W λV=>k (x::V)) v
def fX{X:Type}(x:XV)(k:XV->X):X:=match x with|.i n=>fI n λn=>k (.i n)|.b b=>fB b λb=>k (.b b)|.r v=>fR v λv=>k (.r v)
def fL{X:Type}(l:aZ):(aZ->X)->X:=AG (motive:=λ_=>(aZ->X)->X) (λk=>k []) (λx _ W k=>fX x λx=>W λV=>k (x::V)) l
def XP{X:Type}:∀(n:Nat)(k:Nat->X),fN n k=k n
 |0,_=>rfl|_+1,_=>rfl
def afu{X:Type}:∀(n:Int)(k:Int->X),fI n k=k n
 |.ofNat n,k=>XP n λn=>k (ak1 n)|.negSucc n,k=>XP n λn=>k (akY n)
def apM{X:Type}:∀(n:Bool)(k:Bool->X),fB n k=k n
 |E,_=>rfl|J,_=>rfl
def aAI{X:Type}(v:Value)(k:Value->X):fV v k=k v:=by
 unfold fV;split;exact afu _ _;exact apM _ _;rw[XP,XP];rfl
mutual
def afv{X:Type}:∀(v:RV)(k:RV->X),fR v k=k v
 |.mk v l,k=>by
  show(fV v λv=>fRs l λl=>k (.mk v l))=_;rw[aAI,apN l]
def apN{W:Type}:∀(l:av)(k:av->W),fRs l k=k l
 |[],_=>rfl
 |x::X,k=>by
  show(fRr x λx=>fRs X λX=>k (x::X))=_;rw[apO x,apN X]
def apO{W:Type}:∀(l:aE)(k:aE->W),fRr l k=k l
 |[],_=>rfl
 |x::X,k=>by
  show(fR x λx=>fRr X λX=>k (x::X))=_;rw[afv x,apO X]
end
def aAJ{X:Type}(x:XV)(k:XV->X):fX x k=k x:=by
 cases x<;>simp only[fX,afu,apM,afv]
def apP{W:Type}:∀(l:aZ)(k:aZ->W),fL l k=k l
 |[],_=>rfl
 |x::X,k=>by
  show(fX x λx=>fL X λX=>k (x::X))=_;rw[aAJ,apP X]
def fS{X V:Type}(l:List V):(List V->X)->X:=AG (motive:=λ_=>(List V->X)->X) (λk=>k []) (λx _ W k=>W λR=>k (x::R)) l
def fE{X:Type}(O:aj)(k:aj->X):X:=aj.rec (motive:=λ_=>X) (λi b r y=>fS i λi=>fS b λb=>fS r λr=>k ⟨i,b,r,y⟩) O
def XQ{W V:Type}:∀(l:List V)(k:List V->W),fS l k=k l
 |[],_=>rfl|x::X,k=>XQ X λX=>k (x::X)
def apQ{X:Type}(O:aj)(k:aj->X):fE O k=k O:=by
 obtain⟨i,b,r,y⟩:=O;show(fS i λi=>fS b λb=>fS r λr=>k ⟨i,b,r,y⟩)=_;rw[XQ,XQ,XQ]
def C.xn(O:aj):C->XV
 |.int _ e=>.i (e.dn O)|.bool b=>.b (b.dn O)|.ak r=>.r (r.dn O)|_=>.i 0
def aAK(O:aj):C.xn O=C.xv O:=by
 funext v;cases v<;>simp only[C.xn,C.xv,K.gm,BE.gm,RE.gm]
def T.step(X:T->aj->mz->jR)(bh:my)(t:T)(O:aj)(W:mz):jR:=match t with
 |.ret v _ _=>fL ((zw v).map (C.xn O)) λl=>U (.ret l)|.bp v=>(Kt O v).map .bp|.aJ b t f=>cond (b.dn O) (X t O W) (X f O W)|.aS b t=>cond (b.dn O) (X t O W) Z
 |.call f P _ _ N _ t=>fL ((rk P).map (C.xn O)) λV=>match bh f V with|U (.ret Q)=>cond (fA N Q) (fE (O.ext Q) λO=>X t O W) Z|U (.bp v)=>U (.bp v)|none=>Z
 |.loop ax _ M t=>fL (M.map (C.xn O)) λV=>fE (O.ext V) λL=>X t L (⟨ax,t,O⟩::W)
 |.back ax x=>match we ax W with|U (R,H)=>fL (x.map (C.xn O)) λV=>fE (R.O.ext V) λO=>X R.t O (R::H)|none=>Z
 |.new _ x _ _ t=>fR (gu x O) λv=>fE (O.add (.r v)) λO=>X t O W|.ah _ x _ t=>fR (gu x O) λv=>fE (O.add (.r v)) λO=>X t O W|.gr g h t f=>cond (g.dn O) (cond (h.dn O) (C0 (X t O W) (X f O W)) (X t O W)) (cond (h.dn O) (X f O W) Z)
 |.pick m g h t f=>wb ((xO m g h O).map λj=>match j with|U j=>fI j λj=>fE (O.add (.i j)) λO=>X t O W|none=>X f O W)
 |.eF _ _ _ G F r _ t=>match oJ O G F (r.dn O).ah with|U l=>fR (.mk (r.dn O).val l) λv=>fE (O.add (.r v)) λO=>X t O W|none=>Z
 |_=>Z
def XR(bh:my)(n:Nat):T->aj->mz->jR:=Jz (motive:=λ_=>T->aj->mz->jR) (λ_ _ _=>Z) (λ_ X=>T.step X bh) n
def apR(bh:my):∀n,XR bh n=exec bh n
 |0=>by funext t O X;simp only[exec];rfl
 |n+1=>by
  funext t O X;show T.step (XR bh n) bh t O X=_;rw[apR bh n];cases t<;>simp only[T.step,exec,XO,BE.gm,RE.gm,aAK,apP,afv,afu,apQ]
  try case call f W _ _ Q _ t=>
   cases bh f ((rk W).map (C.xv O)) with|none=>rfl|some o=>cases o<;>rfl
  try case back ax x=>cases we ax X<;>rfl
  try case pick m g h t f=>
   refine jY wb (kF λj _=> ?_);cases j<;>rfl
  try case eF f g e V R r P t=>cases oJ O V R (r.rv O).ah<;>rfl
def XS(X:lR)(n:Nat):my:=Jz (motive:=λ_=>my) X.uN (λn R f V=>match X.uN f V with
  |U o=>U o
  |none=>match X.tree f with|U W=>zy W.d (fE (dI (mA W.g) V) λO=>XR R n W.t O [])|none=>Z) n
def apS(X:lR):∀n,XS X n=X.bh n
 |0=>rfl
 |n+1=>by
  funext f W;simp only[lR.bh];show(match X.uN f W with
   |U o=>U o
   |none=>match X.tree f with|U V=>zy V.d (fE (dI (mA V.g) W) λO=>XR (XS X n) n V.t O [])|none=>Z)=_
  rw[apS X n];simp only[apR,apQ]
  all_goals cases X.uN f W with|some o=>rfl|none=>cases X.tree f<;>rfl
def aAL{X:lR}{f:Nat}{W:aZ}{o:aX}(h:XS X N f W=U o):X.Ev f W o:=⟨N,by rw[<-apS];exact h⟩
