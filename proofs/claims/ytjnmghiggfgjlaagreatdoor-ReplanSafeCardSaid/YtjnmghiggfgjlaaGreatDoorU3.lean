/- Part 3. -/
import Derived.Test.YtjnmghiggfgjlaaGreatDoorU2
import Derived.WalkKit
import Derived.DefersIn
set_option linter.all false
set_option maxRecDepth 100000
set_option maxHeartbeats 100000000
open Bool renaming and_eq_true->aC,false_eq_true->iZ,not_eq_true'->jT,or_eq_true->lq,or_eq_false_iff->yT,and_self->Cm,eq_iff_iff->JB,not_eq_false->Mp,rec->Mw,and_true->VN,not_eq_true->ak7,true_eq_false->aJi,true->J,false->E
open Nat renaming lor->b9,le_refl->cd,zero_add->jp,beq->jq,blt->kz,le_trans->mg,shiftLeft->nG,add_zero->yX,testBit_or->JD,rec->JG,min_eq_left->Ms,lt_of_lt_of_le->QW,strongRecOn->QZ,add_sub_cancel_left->Vw,lt_succ_self->VF,one_shiftLeft->av9,shiftRight->aws,sub_zero->awx,eq_of_beq_eq_true->aI4,testBit_two_pow->aJb,add_sub_cancel'->aJd,lt_or_gt_of_ne->aJg
open List renaming cons_append->cG,nil_append->cX,getD_eq_getElem?_getD->di,range->dj,getElem?_eq_some_iff->du,getElem?_eq_getElem->dv,map_cons->dH,getElem?_map->ep,replicate->ew,mem_cons->ey,mem_append->fc,mem_map->fo,getElem?_append_left->fO,length_append->fT,all_eq_true->gC,getElem?_append_right->jo,mem_of_getElem?->jD,pairwise_cons->jS,map_congr_left->ky,ext_getElem?->kX,any_eq_true->nF,length_cons->n9,pairwise_append->oD,map_nil->oE,length_map->oW,map_map->oX,length_eq_one_iff->pI,getElem?_take->pJ,mem_filter->qj,mem_range->rO,getElem?_of_mem->sP,getElem?_eq_none->uk,getElem?_cons_succ->vw,getElem?_drop->xj,nodup_append->xk,length_eq_zero_iff->yS,getElem?_set->yU,mem_cons_of_mem->AI,rec->AL,getElem?_cons_zero->Ch,append_assoc->Ci,length_drop->Cj,length_nil->Ck,getElem?_eq_none_iff->Em,mem_append_left->Eo,zip_cons_cons->Es,map_append->GJ,contains_iff_mem->Jw,take_append_drop->Jx,getD_cons_zero->Jy,append_nil->JC,length_take->Mr,mem_filterMap->QX,all_map->Q9,mem_of_find?_eq_some->Vu,getElem?_replicate->Vv,length_singleton->Vy,range_eq_range'->Vz,mem_cons_self->VD,drop_left'->VJ,all_cons->VL,pairwise_iff_getElem->aci,find?_some->acs,of_mem_zip->acu,sublist_cons_self->akZ,getElem?_toArray->ak0,mem_append_right->ak1,pairwise_map->ak5,map_set->alc,mem_iff_getElem?->avZ,filterMap_cons->av3,find?_cons->awi,take_left'->awm,filter_map->awo,any_map->awv,Sublist->aww,sizeOf_lt_of_mem->aI6,append_of_mem->aJj,filterMap_map->aJk,length->Y
open Go.Result renaming andThen_ok->dC
open Go.Sem renaming run_bind->dD,run_pure->fy
open Option renaming map_some->ga,isSome_iff_exists->jC,getD_some->yV,map_eq_some_iff->Vx,isNone_iff_eq_none->akX,bind_some->ak6,some->U,none->Z
open Go.Op renaming operands->io
open Array renaming getElem?_eq_some_iff->lL,ext'->nH,getElem?_eq_getElem->Mn,getElem?_setIfInBounds->QS,replicate->Q0,getD_eq_getD_getElem?->ach,getElem?_replicate->aIY,foldl_toList->aJf
open Go.Region renaming wanted->lM,ready->ul
open Go.World renaming cell?->oF,putObj_heap_other->uj,putObj->Mv,alloc_heap_new->VA,size_alloc->VG,putObj_size->awc
open Int renaming negSucc->ale,ofNat->alh
open Go.Oper renaming semAt_eq->AK,uponIn_enter->VE,uponIn_round->awb,semAt_none->awn,uponIn->awB,uponIn_defer->aJn
open Go.Call renaming operands->Cl
open List.cons renaming injEq->Et
open Option.some renaming injEq->JA
open Prod.mk renaming injEq->JE
open List.Sublist renaming append->ak2,refl->ak4
open Go.IntKind renaming i64->I
namespace Go.Proofs.YtjnmghiggfgjlaaGreatDoor.Y
open Go.RowKit
noncomputable section
variable{t:aq}{N:Nat}{b:T}{x:aj}{v:FuncId}{l:S}{y:ar}{e:World}{h:FuncId→Code→S→(XE→S→T)→T}{k:TypeId}{g:bo}
mutual
def C.Xp(O:aj)(y:ar)(V:ar):∀(v:C),v.CH=J->v.ai (O.at y) V=v.ai O V
 |.int k e,_=>by simp only[C.ai,K.fj]|.bool b,_=>by simp only[C.ai,BE.fj]|.ak r,_=>by simp only[C.ai,RE.ai,RE.nS]|.loc i o,_=>rfl|.el r w i o,_=>by simp only[C.ai,RE.ai,RE.nS,K.fj]|.iP a b c d,_=>rfl|.agg l,h=>by simp only[C.CH] at h;simp only[C.ai];rw[C.NR O y V l h]|.bI l,h=>by simp only[C.CH] at h;simp only[C.ai];rw[C.NR O y V l h]|.fn f l,h=>by simp only[C.CH] at h;simp only[C.ai];rw[C.NR O y V l h]|.gI t x,h=>by simp only[C.CH] at h;simp only[C.ai];rw[C.Xp O y V x h]|.yl n,h=>by simp[C.CH] at h|.any,_=>rfl|.mp i,_=>rfl|.gq e W X,h=>by simp only[C.CH] at h;simp only[C.ai,K.fj];rw[C.NR O y V X h]
def C.NR(O:aj)(y:ar)(V:ar):∀(l:aq),C.zo l=J->C.az (O.at y) V l=C.az O V l
 |[],_=>rfl
 |x::X,h=>by
  simp only[C.zo,aC] at h;simp only[C.az];rw[C.Xp O y V x h.1,C.NR O y V X h.2]
end
def Xq(O:aj)(y:ar)(V:ar):∀(l:aq),C.zo l=J->C.bL (O.at y) V l=C.bL O V l
 |[],_=>rfl
 |x::W,h=>by
  simp only[C.zo,aC] at h;have X:=Xq O y V W h.2;have R:=C.Xp O y V x h.1;simp only[C.bL,dH] at X⊢;rw[X];congr 1;cases x<;>simp only[C.gf]<;>first|rw[R]|(rw[RE.nS])
def SN:∀{l:bm}{i:Nat}{v:TypeId×aq},G4 l=J->bP l i=U v->C.zo v.2=J
 |[],i,v,_,h=>by simp[bT] at h|U x::W,0,v,X,h=>by simp[G4] at X;simp[bT] at h;exact h▸X.1|Z::W,0,v,X,h=>by simp[bT] at h|U x::W,i+1,v,X,h=>by simp[G4] at X;exact SN X.2 (by simpa[bT] using h)|Z::W,i+1,v,X,h=>by simp[G4] at X;exact SN X (by simpa[bT] using h)
def Xr:∀{a b:bm},ol a b=J->a=b
 |[],[],_=>rfl|[],_::_,h=>by simp[ol] at h|Z::X,Z::W,h=>by simp only[ol] at h;rw[Xr h]|Z::X,U y::W,h=>by simp[ol] at h|Z::X,[],h=>by simp[ol] at h|U x::X,Z::W,h=>by simp[ol] at h|U x::X,[],h=>by simp[ol] at h
 |U x::X,U y::W,h=>by
  simp only[ol,aC,gc] at h;have V:=C.pj _ _ h.1.2;rw[Xr h.2]
  grind
def SO(W:aq)(X:bm):(o9 W X).length=Y X:=by
 unfold o9;split<;>simp
def Xs{X:bm}{x:TypeId×aq}(h:bP (o9 t X) N=U x):bP X N=U x:=by
 grind [bT,o9]
def aeW{X:bm}(h:aL (o9 t X) N=J):aL X N=true:=by
 obtain⟨x,W⟩:=jC.1 h;simp[aL,Xs W]
def aze(h:ac3 b=J)(p:Sp)(O:aj)(L:dt):b.aP p O L:=by
 unfold ac3 at h
 grind [T.aP,BE.ai]
def azf{X:aj}(h:jg x X (Y x.i) (Y x.b) (Y x.r))(W:Y X.i=Y x.i)(V:Y X.b=Y x.b)(R:Y X.r=Y x.r):X=x:=by
 obtain⟨i,b,r,y⟩:=x;obtain⟨Q,P,N,G⟩:=X;obtain⟨M,a2,L,H⟩:=h;simp only at M a2 L H W V R;have F:Q=i:=kX λk=>by
  grind
 have D:P=b:=kX λk=>by
  grind
 have B:N=r:=kX λk=>by
  grind [aj.rv]
 grind
def NS(X:bo):rj X (X.map RK.rd):=by
 refine⟨aw,λk V h=> ?_⟩;rw[ep] at h;cases W:X[k]? with
 |none=>rw[W] at h;cases h
 |some e=>
  rw[W] at h;simp at h;refine⟨e,rfl, ?_⟩;cases e<;>simp only[RK.rd] at h<;>first|exact .inl h.symm|exact .inr (.inr ⟨_,rfl,h.symm⟩)
def azg(W:aq)(X:bm):o9 W X=X\/∀i,bP (o9 W X) i=none:=by
 grind [bT,o9]
section
variable{p:Sp}{m:bv}
def azh(b6:∀w:Sp,w.P=p.P->ji w m->Be w m N)(ok:ji p m){X:C}{ex:bm}(h:MO m (λf c l k=>fP m N f c l iD k) v t l=U (X,ex))(b7:(m.inl v).isSome=J)
  {D:bU}{a:Act}(hb:l.bd=J)(R:aA p.S0 p.w0 D m.ty y x l a e)(hg:eD m.gl x):(∀t e,(callFunc v t).run p.P e=.ok (.enter v t) e)/\
  Calls p.P v (C.az x y t).toArray e λM W'=>∃V',M=.returned (X.ai x V')/\aA p.S0 p.w0 D m.ty V' x (l.plus ex) a W'/\bC l x y (l.plus ex) x V':=by
 unfold MO at h;split at h;rename_i u hT;split at h;rename_i v0 c0;split at h;rename_i bb;cases h;simp only[aC] at bb;obtain⟨⟨⟨⟨⟨⟨⟨ca,cb⟩,cv⟩,cs⟩,ct⟩,b8⟩,cc⟩,cl⟩:=bb;have bc:=Xr ct;obtain⟨cn,bf⟩:=R.zv hb;refine⟨ok.zy v (.inr b7), ?_⟩;obtain⟨S1,bg⟩:∃S1:ar,S1=((dj (Y l.au)).filter (aL (o9 t l.au))).map (ad y):=⟨_,rfl⟩;have co:∀i,aL (o9 t l.au) i=J->ad y i∈S1:=λi A=>by
  rw[bg];refine fo.2 ⟨i,qj.2 ⟨rO.2 ?_,A⟩,rfl⟩;obtain⟨L,hx⟩:=jC.1 A;have:=(du.1 (kC.1 hx)).1
  rwa [SO] at this
 have bk:∀b∈S1,∃i,aL (o9 t l.au) i=J/\ad y i=b:=λb hb=>by
  rw[bg] at hb;obtain⟨i,A,rfl⟩:=fo.1 hb;exact⟨i,(qj.1 A).2,rfl⟩
 obtain⟨w,af⟩:∃w:Sp,w={P:=p.P,ty:=p.ty,S0:=S1,w0:=e,D:=bU.none,R:=λM _=>(match M with|.panicked _=>False|_=>True),Q:=λ_ _ _=>True}:=⟨_,rfl⟩;have ac:w.P=p.P:=by rw[af]
 have bl:w.S0=S1:=by rw[af]
 have br:w.w0=e:=by rw[af]
 have bs:∀ch W',¬w.R (.panicked ch) W':=λch W' hh=>by rw[af] at hh;exact hh
 have bx:ji w m:=⟨by rw[af];exact ok.pt,by rw[ac];exact ok.Xc,by rw[ac];exact ok.kM,by rw[ac];exact ok.zj,by rw[ac];exact ok.zy,λch e b o _ hh=>(bs ch e hh).elim,by rw[ac];exact ok.inl⟩;have hS:=Kx (p:=w) bx (b6 w ac bx) (D:=bU.none) (B:=⟨vN t l,x.at [],y,[]⟩) (yh:=iD) (Fc _ _);have B0:aA w.S0 w.w0 bU.none m.ty y (x.at []) (vN t l) ⟨#[],[]⟩ e:=by
  rw[bl,br];refine⟨⟨fq.refl _ _,λi A=>.inr (co i A),λi j A hj=>R.mem.inj i j (aeW A) (aeW hj),λi H cs h=> ?_,λk M rv z h2=> ?_⟩,by simp only[vN,SO];exact R.gE,R.ei,R.eb,by simp only[vN,oW];exact R.er, ?_,rfl,λH sv h=>by simp[vN] at h,λk M rv b z=> ?_⟩;rw[Xq _ _ _ _ (SN cb h)];exact R.mem.box i H cs (Xs h);have:=(R.mem.lR (NS l.rs)).ak k M rv z h2;exact⟨this.1,λb hb i A=>this.2 b hb i (aeW A)⟩;exact⟨rfl,rfl,λN G r st h=>by simp[bU.none] at h,λN n' G r r' h=>by simp[bU.none] at h,[],rfl,λ_=>rfl,by simp[bU.none],λd h=>by simp[bU.none] at h⟩;exfalso;simp only[vN,ep] at z;cases hk:l.rs[k]? with|none=>rw[hk] at z;cases z|some L=>rw[hk] at z;cases L<;>simp[RK.rd] at z
 have cp:=hS [] (.fn v) t (vN t l) _ _ (x.at []) y ⟨#[],[]⟩ e (λM W'=>∃V',M=.returned (X.ai x V')/\aA p.S0 p.w0 D m.ty V' x (l.plus (u.au.drop (Y l.au))) a W'/\bC l x y (l.plus (u.au.drop (Y l.au))) x V') ⟨bC.refl _ _ _,cU.refl _ _⟩ (aze cl w (x.at []) []) B0 hg ?_ ?_ (λch W' pd F _ hR=>(bs ch W' hR).elim);have:=cp.2;rw[C.NR x [] y t ca,ac] at this;exact this;intro v2 s2 O2 q W2 L2 hl _ R2 al;split at al;rename_i b0;simp only[aC,aly,gc,dq] at b0;obtain⟨hv,⟨⟨ab,cu⟩,cx⟩,bZ⟩:=b0;have hv:=C.bX _ _ hv;subst hv;have ab:=Xr ab;have cy:O2=x.at []:=by
  refine azf hl.ext.agree ?_ ?_ ?_;rw[R2.ei,cu];exact R.ei.symm;rw[R2.eb,cx];exact R.eb.symm;rw[R2.er,bZ];simp only[vN,oW];exact R.er.symm
 subst cy;rw[bl,br] at R2;have c1:Y l.au<=Y u.au:=by
  have:=j7 Y bc;rw[SO,Mr] at this;omega
 have a3:∀i,i<Y l.au->bP u.au i=bP (o9 t l.au) i:=λi A=>by
  have:=j7 (λG=>bP G i) bc;simp only[bT,pJ,aH A] at this⊢;exact this
 have an:∀i,aL (o9 t l.au) i=J->ad q i=ad y i:=λi A=>hl.ext.ad i A
 have a0:∀{i:Nat}{G:bm},aL G i=J->i<Y G:=λh=>by
  obtain⟨L,hx⟩:=jC.1 h;exact(du.1 (kC.1 hx)).1
 have cA:∀i,Y l.au<=i->aL u.au i=J->e.heap.size<=ad q i:=by
  intro i A hh;rcases R2.mem.own i (by rw[ab];exact hh) with z|z;exact z;exfalso;obtain⟨j,hj,cB⟩:=bk _ z;have a4:j<Y l.au:=by have:=a0 hj;rwa [SO] at this
  have cC:aL u.au j=true:=by simp only[aL,a3 j a4];exact hj
  have:=R2.mem.inj i j (by rw[ab];exact hh) (by rw[ab];exact cC) (by rw[an j hj];exact cB.symm);omega
 have hB:Below e.heap.size e W2:=by
  have hO:=R2.mem.base;refine⟨hO.os,hO.tape,hO.output,hO.size,λk hk=> ?_⟩;by_cases b1:k∈S1;obtain⟨j,hj,rfl⟩:=bk _ b1;have a4:j<Y l.au:=by have:=a0 hj;rwa [SO] at this
  obtain⟨L,hx⟩:=jC.1 hj;obtain⟨bt,gK⟩:=L;have e1:=R.mem.box j bt gK (Xs hx);have e2:=R2.mem.box j bt gK (by rw[ab,a3 j a4];exact hx);rw[an j hj] at e2;rw[e1,e2];congr 2;rw[Xq _ _ _ _ (SN cb hx)];refine RT (jg.refl _ _ _ _) (λk hk=>an k ?_) _ (tq bf (Xs hx));rcases azg t l.au with hm|hm;rw[hm];exact hk;rw[hm j] at hx;cases hx;exact hO.block k hk b1
 have R0:=R.below hB;have cD:Y q=Y u.au:=by rw[R2.gE,ab]
 have a1:∀i,i<Y l.au->ad (y++q.drop (Y l.au)) i=ad y i:=λi A=>by
  simp only[ad,di];rw[fO (by rw[R.gE];exact A)]
 have a9:∀i,Y l.au<=i->ad (y++q.drop (Y l.au)) i=ad q i:=λi A=>by
  simp only[ad,di];rw[jo (by rw[R.gE];exact A),R.gE,xj,aJd A]
 have b2:∀i,aL u.au i=J->ad (y++q.drop (Y l.au)) i=ad q i:=λi A=>by
  by_cases aa:i<Y l.au;rw[a1 i aa,an i (by simp only[aL,<-a3 i aa];exact A)];exact a9 i ae
 have jh:∀i,i<Y l.au->bP (l.plus (u.au.drop (Y l.au))).au i=bP l.au i:=λi A=>by
  simp only[bT,S.plus,fO A]
 have b3:∀i,Y l.au<=i->bP (l.plus (u.au.drop (Y l.au))).au i=bP u.au i:=λi A=>by
  simp only[bT,S.plus];rw[jo A,xj,aJd A]
 have ba:∀k,aL l.au k=J->ad (y++q.drop (Y l.au)) k=ad y k:=λk hk=>a1 k (a0 hk)
 have ag:∀i,aL (l.plus (u.au.drop (Y l.au))).au i=J->(i<Y l.au/\aL l.au i=J/\ad (y++q.drop (Y l.au)) i=ad y i)\/(Y l.au<=i/\aL s2.au i=J/\ad (y++q.drop (Y l.au)) i=ad q i/\e.heap.size<=ad q i):=λi A=>by
  by_cases aa:i<Y l.au;exact .inl ⟨aa,by simpa only[aL,jh i aa] using A,a1 i aa⟩;have hh:aL u.au i=true:=by simpa only[aL,b3 i ae] using A
  exact .inr ⟨ae,by rw[ab];exact hh,a9 i ae,cA i ae hh⟩
 have c2:p.w0.heap.size<=e.heap.size:=R.mem.base.size;refine⟨y++q.drop (Y l.au), ?_,⟨⟨R0.mem.base, ?_, ?_, ?_, ?_⟩, ?_,R.ei,R.eb,R.er,R0.dm,R.size, ?_, ?_⟩,⟨⟨jg.refl _ _ _ _,cd _,cd _,cd _,ba⟩, ?_, ?_,cd _⟩⟩;rw[C.Xp _ _ _ _ cv];have cO:v2.bd (Y x.i) (Y x.b) (Y x.r) (aL u.au)=true:=by rw[R.ei,R.eb,R.er];exact b8
 rw[C.eh (jg.refl _ _ _ _) b2 v2 cO];intro i A;rcases ag i A with⟨_,h2,h3⟩|⟨_,_,h3,h4⟩;rw[h3];exact R.mem.own i h2;rw[h3];exact .inl ae;intro i j A hj b4;rcases ag i A with⟨i1,i2,i3⟩|⟨i1,i2,i3,i4⟩<;>rcases ag j hj with⟨j1,j2,j3⟩|⟨j1,j2,j3,j4⟩;exact R.mem.inj i j i2 j2 (by rw[<-i3,<-j3];exact b4);exfalso;have:=R.mem.lt i2;omega;exfalso;have:=R.mem.lt j2;omega;exact R2.mem.inj i j i2 j2 (by rw[<-i3,<-j3];exact b4);intro i H gK h;by_cases aa:i<Y l.au;rw[jh i aa] at h;rw[a1 i aa,R0.mem.box i H gK h];congr 2;exact(RT (jg.refl _ _ _ _) ba _ (tq bf h)).symm;rw[b3 i ae] at h;rw[a9 i ae,R2.mem.box i H gK (by rw[ab];exact h)];congr 2;rw[Xq _ _ _ _ (SN cs h)];have cW:C.dQ (Y x.i) (Y x.b) (Y x.r) (aL u.au) gK=true:=by rw[R.ei,R.eb,R.er];exact tq cc h
 exact(RT (jg.refl _ _ _ _) b2 _ cW).symm;intro k M rv z h2;refine⟨(R0.mem.ak k M rv z h2).1,λb b5 i A=> ?_⟩;rcases ag i A with⟨i1,i2,i3⟩|⟨i1,i2,i3,i4⟩;rw[i3];exact(R.mem.ak k M rv z h2).2 b b5 i i2;rw[i3];have:=(R.mem.ak k M rv z h2).1.lt b5;omega;simp only[S.plus,fT,Cj,cD,R.gE];intro H sv h;rcases R.tmps H sv h with z|z;exact .inl z;right;rw[C.eh (jg.refl _ _ _ _) ba sv (xD cn h)];exact z;intro k M rv b z h2 h3;have T0:=R0.eP k M rv b z h2 h3;refine⟨T0.own,T0.mem,λi A=> ?_,T0.alone,T0.inner⟩;rcases ag i A with⟨i1,i2,i3⟩|⟨i1,i2,i3,i4⟩;rw[i3];exact T0.box i i2;rw[i3];have:=(R.eP k M rv b z h2 h3).lt;omega;intro i A;have aa:=a0 A;simp only[aL,jh i aa];exact A;simp only[S.plus,fT];omega;exact al.elim;intro v2 s2 O2 q W2 L2 hl _ R2 al;exact al.elim;cases h;cases h;cases h
end
def azi{X:S}(W:o9 t X.au=o9 t l.au)(V:X.ni=l.ni)(R:X.nb=l.nb)(Q:X.rs=l.rs):vN t X=vN t l:=by
 simp only[vN,W,V,R,Q]
def aou{m:bv}{X:S}(W:o9 t X.au=o9 t l.au)(V:X.ni=l.ni)(R:X.nb=l.nb)(Q:X.rs=l.rs)(P:Y X.au=Y l.au):MO m h v t X=MO m h v t l:=by
 unfold MO;rw[azi W V R Q,W,V,R,Q,P]
def aov(m:bv)(X:dG)(V:FuncId->Code->S->(XE->S->T)->T):C0 X (CI m X V):=by
 refine⟨λg R s d v l=> ?_,λg s n t P d w O=> ?_,λg R s r h=> ?_⟩;unfold CI;rw[aou]<;>cases d<;>rfl
 ·unfold CI;rw[aou]<;>cases d<;>simp[S.cY,S.put,o9,alc]<;>(try apply kX)<;>(try intro i)<;>(try simp[yU])<;>(try(intro Q;subst Q;by_cases W:n<Y s.au;(· simp[W]);(· simp[W])))
 unfold CI at h
 grind
def aow{p:Sp}{m:bv}{M:dG}(L:∀X:Sp,X.P=p.P->ji X m->Be X m N)(H:ji p m):NK p m (CI m M λf c s k=>fP m N f c s iD k):=by
 intro g B s v A h D O V a W G R F;unfold CI at h;split at h;rename_i Q;simp at Q;exact azh L H h Q.2 G R F;cases h
theorem aox(s:S)(X:ar)(i:Nat):(s.bF X).tmps[i]?=(s.tmps[i]?).map λx=>if X.contains i then .any else x:=by
 simp only[S.bF];rw[xK,jp]
def azj(h:N∉y):(l.bF y).tmps[N]?=l.tmps[N]?:=by
 grind [aox]
def aeX{X W V:Nat}{R:Nat->Bool}(Q:ar):∀(l:aq)(n:Nat),C.dQ X W V R l=J->C.dQ X W V R (uy Q n l)=J
 |[],n,_=>rfl
 |x::P,n,h=>by
  simp only[C.i8,aC] at h;simp only[uy,C.i8,aC];refine⟨?_,aeX Q P (n+1) h.2⟩
  grind [C.bj]
def Hx{ds:ar}(h:l.eX t=J):(l.bF ds).eX t=true:=by
 simp only[S.eX,S.bd,aC,S.bF] at h⊢;exact⟨⟨aeX ds _ 0 h.1.1,h.1.2⟩,h.2⟩
def Bf{d:cH}{v:C}(h:∀x,d=U x->x∉y):(l.put d v).bF y=(l.bF y).put d v:=by
 cases d with
 |none=>rfl
 |some x=>
  have X:=h x rfl;simp only[S.put,Cp,S.bF];congr 1;apply kX;intro i;rw[xK,jp,yU,yU,xK,jp,NQ]
  grind
def aoy{s:S}{ds es:ar}(h:∀x∈es,x∈ds):(s.bF es).bF ds=s.bF ds:=by
 simp only[S.bF];congr 1;apply kX;intro i;rw[xK,xK,xK,jp];cases s.tmps[i]? with
 |none=>rfl
 |some x=>
  simp only[ga];by_cases X:i∈ds;simp[X];have:i∉es:=λW=>X (h i W)
  simp[X,this]
theorem azk(v:C):Rk E v=0:=by
 cases v<;>rfl
section
variable{p:Sp}{cf:bv}{ops:dG}
def aA.bF{D:bU}{s:S}{O:aj}{V:ar}{a:Act}{W:World}(R:aA p.S0 p.w0 D cf.ty V O s a W)(P:ar):aA p.S0 p.w0 D cf.ty V O (s.bF P) a W:=by
 refine⟨R.mem,R.gE,R.ei,R.eb,R.er,R.dm,by simp only[S.bF,NQ];exact R.size,λt N X=> ?_,R.eP⟩;rw[aox] at X;cases Q:s.tmps[t]? with
 |none=>rw[Q] at X;cases X
 |some x=>
  rw[Q] at X;simp only[ga,dX] at X;split at X
  grind
  subst X;exact R.tmps t x Q
def aoz{m:OM}{O:aj}{b:BE}{v:C}(W:o8 m.o.op=J)(V:m.bM=E)(h:EL cf l m.o=U (b,v))(R:b.ai O=J):(gJ cf m l).gives O (l.put m.o.dst v):=by
 unfold EL at h;split at h;cases h;rename_i X;simp only[lq,not_or,ak7] at X
 grind [xu,OR.gives,NC,o8,iZ,ac4,azk,gJ]
def Xt{o:Oper}{s:S}{O:aj}(h:∀t∈ld ops o,t∉y):lW cf ops o s O (s.bF y) O:=lW.Ba (λt X=>azj (h t X)) rfl rfl rfl
def aoA{o:Oper}{ds:ar}{r:BE×C}(h:∀t∈ld ops o,t∉ds)(X:EL cf l o=U r):EL cf (l.bF ds) o=U r:=by
 have W:=Xt (cf:=cf) (s:=l) (O:=⟨[],[],[],[]⟩) h;have P:=W.ev cf.gl;unfold EL at X⊢;split at X;cases X;rename_i N;have M:¬((o.op.operands.toList.any λx=>((l.bF ds).ev cf.gl x).fg)||ac4 o.op)=true:=by
  intro V;apply N;simp only[lq] at V⊢;rcases V with V|V;left;obtain⟨x,L,H⟩:=nF.1 V
  grind
  grind
 rw[aJ M];cases R:cw cf.ty cf.gl l o.op with|ok w=>rw[Xf (ty:=cf.ty) P W.kd W.kl (λi _=>rfl) R (λw Q=>by cases Q)];rw[R] at X;exact X|aS b w=>rw[Xf (ty:=cf.ty) P W.kd W.kl (λi _=>rfl) R (λw Q=>by cases Q)];rw[R] at X;exact X|no w=>rw[R] at X;cases X
def azl{m:OM}{P:S}(N:Wi m.o.op=J)(h:∀t∈ld ops m.o,t∉y)(Q:∀x,m.o.dst=U x->x∉y)(W:gJ cf m l=.ok P):gJ cf m (l.bF y)=.ok (P.bF y):=by
 have H:=Xt (cf:=cf) (s:=l) (O:=⟨[],[],[],[]⟩) h;have R:=H.ev cf.gl;unfold gJ at W⊢;split at W;cases W;rename_i G;have F:¬(m.o.op.operands.toList.any λx=>((l.bF y).ev cf.gl x).fg)=true:=by
  intro D;apply G;obtain⟨x,M,B⟩:=nF.1 D;exact nF.2 ⟨x,M,by rw[<-R x M];exact B⟩
 rw[aJ F];have r:∀(n:Nat)(t:TypeId)(L:aq),(l.bF y).cY n t L=(l.cY n t L).bF y:=λ_ _ _=>rfl
 cases A:m.o.op<;>rw[A] at N W R<;>simp only[Wi,iZ] at N
 
 simp only at W⊢;split at W;split at W;rename_i V;simp only[aC] at V;rw[aH (by simp only[aC];exact⟨Hx V.1,V.2⟩)];cases W;rw[Bf Q];rfl;cases W;cases W
 
 rename_i t x;simp only at W⊢;rw[R x cq];split at W;split at W;rename_i V;simp only[aC] at V;rw[aH (by simp only[aC];exact⟨⟨⟨V.1.1.1,Hx V.1.1.2⟩,V.1.2⟩,V.2⟩)];cases W;rw[Bf Q];rfl;cases W;cases W;rename_i t k parts;simp only at W⊢;have z:(parts.toList.map λq=>(q.1,(l.bF y).ev cf.gl q.2))=parts.toList.map λq=>(q.1,l.ev cf.gl q.2):=by
  refine ky λq w=> ?_
  rw[R q.2 (by simp only[io,fo];exact⟨q,w,rfl⟩)]
 rw[z];split at W;split at W;split at W;split at W;rename_i V;simp only[aC] at V;rw[aH (by simp only[aC];exact⟨⟨Hx V.1.1,V.1.2⟩,V.2⟩)];cases W;congr 1;rw[Bf Q];rfl;cases W;cases W;cases W;cases W
 
 rename_i t x X;simp only at W⊢;rw[R x cq,R X cq];split at W;split at W;rename_i v;have u:mU (l.bF y).au _=_:=v;rw[u];simp only;split at W;rename_i V;rw[show(l.bF y).lk=l.lk from rfl,aH V];cases W;rw[Bf Q];rfl;cases W;cases W;cases W
def aoB{o:Oper}{s:S}(h:∀t∈ld ops o,t∉y):∀x∈o.op.operands.toList,s.ev cf.gl x=(s.bF y).ev cf.gl x:=
 λx X=>((Xt (cf:=cf) (s:=s) (O:=⟨[],[],[],[]⟩) h).ev cf.gl x X).symm
def Xu{X:Ty}(r:RE):r.kind X (l.bF y)=r.kind X l:=zA (s:=l.bF y) (s':=l) rfl r
def Xv{X:Ty}{s:S}{W:ar}:∀(am:eN)(l:aq),nN X (s.bF W) am l=nN X s am l
 |[],[]=>rfl|[],_::_=>rfl|_::_,[]=>rfl
 |c::V,v::R=>by
  simp only[nN,Xv V R];congr 1;unfold uu;split<;>try rfl
  rename_i z k r;cases k<;>simp only[RE.fits,Xu]
def Xw{X:Ty}{s:S}{W:ar}(am:eN):∀l:yZ,oG X (s.bF W) am l=oG X s am l
 |[]=>rfl|r::V=>by simp only[oG,Xv,Xw am V]
def SQ{ds:ar}{d:cH}{aS:BE}{X:RK}{x:LE}{dl:ar}{b:BI}(V:∀x,d=U x->x∉ds)(h:kZ l d aS k X x y dl=U b):kZ (l.bF ds) d aS k X x y dl=U {b with s:=b.s.bF ds}:=by
 unfold kZ at h⊢;split at h;rename_i W;cases h;have R:(l.bF ds).bd=true:=by
  have Q:l.eX []=true:=by
   simp only[aC] at W;simp only[S.eX,C.i8,VN];exact W.1.1.1
  have:=Hx (ds:=ds) Q;simpa only[S.eX,C.i8,VN] using this
 simp only[aC] at W;rw[aH (by simp only[aC];exact⟨⟨⟨R,W.1.1.2⟩,W.1.2⟩,W.2⟩),Bf V];rfl;cases h
def azm{bM:Bool}(v:C):xt cf.ty (l.bF y) k bM v=xt cf.ty l k bM v:=by
 unfold xt;simp only[zA (s:=l) (s':=l.bF y) rfl];rfl
def azn{X:Ty}{W:TI}(v:C):ta X (l.bF y) k W v=ta X l k W v:=by
 unfold ta;split<;>simp only[Xu,Xw]<;>rfl
def aoC{X:ar}{k n:Nat}:∀(l:aq)(i:Nat),uy X i (C.qp k n l)=C.qp k n (uy X i l)
 |[],_=>rfl
 |x::W,i=>by
  simp only[C.qp,uy,aoC W (i+1)];split<;>rfl
def aoD{n:Nat}:(l.bF y).iE N n=(l.iE N n).bF y:=by
 simp only[S.bF,S.iE,aoC]
def azo{d:cH}{u:Cz}(X:∀x,d=U x->x∉y)(h:JX cf v t l d=U u):JX cf v t (l.bF y) d=U {u with s:=u.s.bF y}:=by
 unfold JX at h⊢;split at h;split at h;have W:(l.bF y).au=l.au:=rfl;have V:(l.bF y).rs=l.rs:=rfl;have R:(l.bF y).ni=l.ni:=rfl;have Q:(l.bF y).nb=l.nb:=rfl;simp only[W,V,R,Q];split at h;split at h;rename_i P;cases h;rw[aH P];congr 2;rw[Bf X,<-aoD];rfl;cases h;cases h;cases h;cases h
def azp(h:l.bd=J):(l.bF y).bd=true:=by
 simp only[S.bd,aC,S.bF] at h⊢;exact⟨aeX y _ 0 h.1,h.2⟩
def azq{o:Oper}{u:Cz}(X:eu cf (l.bF y) o=eu cf l o)(W:∀x,o.dst=U x->x∉y)(h:JY cf o l=U u):JY cf o (l.bF y)=U {u with s:=u.s.bF y}:=by
 unfold JY at h⊢;rw[X];split at h;cases h;rename_i V;have R:(l.bF y).bd=true:=azp (by simpa using V);rw[aJ (by simp[R])];generalize eu cf l o=c at h;cases c with
 |call g Q=>
  cases g with|fn f=>exact azo W h|yl n=>cases h
 |bp v=>cases h|no=>cases h|op=>cases h
def MR.bF(X:ar):MR->MR
 |.ok s=>.ok (s.bF X)|.ah k x s=>.ah k x (s.bF X)
def azr{X:Ty}{W:Sh}(r:RE):r.pK X (l.bF y) W=r.pK X l W:=by
 cases r<;>simp only[RE.pK,Xu]<;>rfl
def azs{e:TypeId}{X:Bool}{W:TI}:Cw cf (l.bF y) k e N X W t=Cw cf l k e N X W t:=by
 unfold Cw;split;simp only[azr];rfl
def azt{d:cH}{W X v:C}{r:MR}(V:∀x,d=U x->x∉y)(h:GU cf d l k W X v=U r):GU cf d (l.bF y) k W X v=U (r.bF y):=by
 unfold GU at h⊢;have Q:(l.bF y).au=l.au:=rfl;have P:(l.bF y).rs=l.rs:=rfl;by_cases R:l.eX [X,v]=J
 ·have O:=Hx (ds:=y) R;simp only[R,O,Q,P,azs,Xv] at h⊢
  repeat' split at h
  all_goals first
   |(cases h;done)
   |(cases h;(repeat' split)<;>first|contradiction|(exfalso;simp_all;done)|(simp only[MR.bF,Bf V];rfl)|(simp_all[MR.bF,Bf V];done))
 grind
def aoE{o:Oper}{r:MR}(h:∀t∈ld ops o,t∉y)(O:∀x,o.dst=U x->x∉y)(W:EN cf o l=U r):EN cf o (l.bF y)=U (r.bF y):=by
 have V:=aoB (cf:=cf) (s:=l) h;unfold EN at W⊢;split at W;rename_i t x X z N;split at W;cases W;rename_i M;have R:¬(o.op.operands.toList.any λx=>((l.bF y).ev cf.gl x).fg)=true:=λQ=>M (by
  rw[nF] at Q⊢;obtain⟨q,P,L⟩:=Q;exact⟨q,P,by rw[V q P];exact L⟩)
 rw[N] at V R⊢;show(if _ then Z else _)=_;rw[aJ R,<-V x cq,<-V X cq,<-V z cq];exact azt O W;cases W
def aoF{o:Oper}{r:MR}(h:EN cf o l=U r):∀c,o.op≠ .defer c:=by
 intro c X;simp[EN,X] at h
def aoG{p:Sp}{D:bU}{V:ar}{a:Act}{W:World}(R:aA y e D cf.ty V x l a W)(G:jx p.P cf.ty)(L:eD cf.gl x){o:Oper}{r:MR}(h:EN cf o l=U r):
  ∃N,tw p.P o a W undef N/\r.amK y e D cf.ty V x l (a.put o.dst undef) N:=by
 unfold EN at h;split at h;rename_i t X Q z H;split at h;cases h;rename_i u;have M:∀X∈o.op.operands.toList,(l.ev cf.gl X).fg=false:=by
  grind
 rw[H] at M;have F:=de R L X (M X cq);have B:=de R L Q (M Q cq);have A:=de R L z (M z cq);obtain⟨N,w,v⟩:=Si (P:=p.P) R G h;exact⟨N,.inr ⟨by simp only[execOp,H,F,B,A,dD,w,dC,fy],rfl⟩,v⟩;cases h
def azu{o:Oper}{bM:Bool}{b:BI}(Q:MS o.op=J)(h:∀t∈ld ops o,t∉y)(O:∀x,o.dst=U x->x∉y)(W:eY cf o bM E l=U b):eY cf o bM E (l.bF y)=U {b with s:=b.s.bF y}:=by
 have V:=aoB (cf:=cf) (s:=l) h;unfold eY at W⊢;cases P:o.op with
 |call c=>
  rw[P] at Q W V;simp only[MS] at Q;split at Q
  ·rename_i v;simp only[v] at W⊢;have u:c.args.toList.map ((l.bF y).ev cf.gl)=c.args.toList.map (l.ev cf.gl):=ky λx R=>(V x (by simp[io,Cl];exact .inr (by simpa using R))).symm
   rw[u];simp only[azm,azn]
   repeat' split at W
   all_goals first
    |cases W;done
    |(have q:=SQ (ds:=y) O W;(repeat' split)<;>first|exact q|contradiction|(exfalso;simp_all;done))
  cases Q
 |makeSlice t n m=>
  rw[P] at W V;simp only at W⊢;rw[<-V n cq,<-V m cq];simp only[Xw]
  repeat' split at W
  all_goals first
   |cases W;done
   |(have q:=SQ (ds:=y) O W;(repeat' split)<;>first|exact q|contradiction|(exfalso;simp_all;done))
 |buildSlice t d parts=>
  rw[P] at W V;have r:(parts.toList.map λq=>(q.1,(l.bF y).ev cf.gl q.2))=parts.toList.map λq=>(q.1,l.ev cf.gl q.2):=by
   refine ky λq M=> ?_
   rw[V q.2 (by simp only[io,fo];exact⟨q,M,rfl⟩)]
  have j:(parts.toList.any λq=>((l.bF y).ev cf.gl q.2).fg)=parts.toList.any λq=>(l.ev cf.gl q.2).fg:=by
   rw[JB,nF,nF];constructor;rintro⟨x,R,L⟩;exact⟨x,R,by rw[V x.2 (by simp only[io,fo];exact⟨x,R,rfl⟩)];exact L⟩;rintro⟨x,R,L⟩;exact⟨x,R,by rw[<-V x.2 (by simp only[io,fo];exact⟨x,R,rfl⟩)];exact L⟩
  simp only at W⊢;rw[r,j];simp only[Xw]
  repeat' split at W
  all_goals first
   |cases W;done
   |(have q:=SQ (ds:=y) O W;(repeat' split)<;>first|exact q|contradiction|(exfalso;simp_all;done))
 |slice t x D B A=>
  rw[P] at W V;have H:∀X:Option Operand,(∀z,X=U z->z∈(Op.slice t x D B A).operands.toList)->X.map ((l.bF y).ev cf.gl)=X.map (l.ev cf.gl):=by
   intro X i;cases X with|none=>rfl|some z=>simp only[ga];rw[<-V z (i z rfl)]
  simp only at W⊢;rw[<-V x cq,H D (λz N=>by subst N;simp[io]),H B (λz N=>by subst N;simp[io]),H A (λz N=>by subst N;simp[io])];simp only[Xu]
  repeat' split at W
  all_goals first
   |cases W;done
   |(have q:=SQ (ds:=y) O W;(repeat' split)<;>first|exact q|contradiction|(exfalso;simp_all;done))
 |store t a x=>
  rw[P] at W V;simp only at W⊢;rw[<-V a cq,<-V x cq];have g:(l.bF y).rs=l.rs:=rfl;simp only[Xv];rw[g];have w:∀{aS:BE}{e:TypeId}{G:RK}{X:LE}{F dl:ar}{k:Nat}{b:BI},(kZ l Z aS e G X F dl).map (λb=>{b with s:=(b.s.iE k (Y l.rs)).put o.dst (.bI [])})=U b->
    (kZ (l.bF y) Z aS e G X F dl).map (λb=>{b with s:=(b.s.iE k (Y l.rs)).put o.dst (.bI [])})=U {b with s:=b.s.bF y}:=by
   intro aS e G X F dl k b M;obtain⟨b0,f,rfl⟩:=Vx.1 M;rw[SQ (ds:=y) aw f];simp only[ga];rw[aoD,<-Bf O]
  repeat' split at W
  all_goals first
   |cases W;done
   |(have q:=w W;clear w;(repeat' split)<;>first|exact q|contradiction|(exfalso;simp_all;done))
 |_=>rw[P] at Q;simp[MS] at Q
end
section
variable{ops:dG}
def qd(l:cQ):ar:=l.filterMap (·.o.dst)
structure vW(ops:dG)(listed:Array Bool)(rem:cQ):Prop where
 mem:∀m∈rem,ops[m.j]?=U m.o
 un:∀i,i<ops.size->(listed.getD i J=E<->∃m∈rem,m.j=i)
 sz:listed.size=ops.size
 dn:∀(j:Nat)(o:Oper),ops[j]?=U o->listed.getD j E=J->∀e∈ju o,listed.getD e E=J
 nd:rem.Pairwise λx y=>x.j≠y.j
def vW.listed{listed:Array Bool}{P:cQ}(W:NL ops y)(O:vW ops listed P):∀(j:Nat)(o:Oper),ops[j]?=U o->(∀e∈ju o,listed.getD e E=J)->∀i,i<ops.size->(y.getD j 0).testBit i=J->listed.getD i E=true:=by
 intro j;induction j using QZ with
 |_ j N=>
  intro o X M i V L;rcases W.cl j o X i V L with h|⟨e,R,h⟩
  grind
  have H:=W.lt j o X e R;have G:j<ops.size:=(lL.1 X).1;have Q:ops[e]?=U ops[e]:=Mn ae;exact N e H ops[e] Q (O.dn e _ Q (M e R)) i V h
def vW.lt{listed:Array Bool}{X:cQ}(W:vW ops listed X){m:OM}(V:m∈X):m.j<ops.size:=(lL.1 (W.mem m V)).1
def vW.not{listed:Array Bool}{X:cQ}(W:vW ops listed X){m:OM}(V:m∈X):listed.getD m.j E≠true:=by
 have h:=(W.un m.j (W.lt V)).2 ⟨m,V,rfl⟩
 grind
def vW.next{listed:Array Bool}{W V:cQ}{m:OM}(X:vW ops listed (W++m::V))(F:∀e∈ju m.o,listed.getD e E=J):vW ops (listed.setIfInBounds m.j J) (W++V):=by
 have N:=X.mem m aw;have M:m.j<ops.size:=(lL.1 N).1;have R:m.j<listed.size:=by rw[X.sz];exact M
 have P:aww (W++V) (W++m::V):=ak2 (ak4 _) (akZ _ _);have D:∀x∈W++V,x.j≠m.j:=by
  intro x O;have B:=X.nd
  grind
 refine⟨λx O=>X.mem x (P.subset O),λi A=> ?_,by simp[X.sz],λj o L Q e H=> ?_,X.nd.sublist P⟩;rw[Fb _ _ _ _ R]
 grind [aJi,X.un]
 rw[Fb _ _ _ _ R];rw[Fb _ _ _ _ R] at Q;split;rfl;by_cases G:j=m.j
 grind
 rw[aJ G] at Q;exact X.dn j o L Q e H
def vW.some{listed:Array Bool}{W:cQ}(Q:NL ops y)(X:vW ops listed W):∀(j:Nat),(∃m∈W,m.j=j)->∃m∈W,∀e∈ju m.o,listed.getD e E=true:=by
 intro j;induction j using QZ with
 |_ j P=>
  rintro⟨m,V,rfl⟩;by_cases h:∀e∈ju m.o,listed.getD e E=J
  grind
  simp only[Classical.not_forall] at h;obtain⟨e,O,M⟩:=h;have R:=Q.lt m.j m.o (X.mem m V) e O;have N:e<ops.size:=Nat.lt_trans R (X.lt V);have:listed.getD e J=false:=by
   grind [X.sz]
  exact P e R ((X.un e N).1 this)
end
def aoH(X:aN)(s:S)(W:ar):((s.bF W).bW X).1=(s.bW X).1/\((s.bF W).bW X).2=(s.bW X).2.bF W:=by
 induction X generalizing s with
 |nil=>exact⟨rfl,rfl⟩
 |cons k X V=>
  simp only[S.bW];have R:((s.bF W).fresh k).1=(s.fresh k).1:=by cases k<;>rfl
  have Q:((s.bF W).fresh k).2=(s.fresh k).2.bF W:=by cases k<;>rfl
  grind
section
variable{p:Sp}{cf:bv}
def aoI{X:ar}:∀(l:List (Nat×TypeId×aq))(s:S),(s.bF X).o7 l=(s.o7 l).bF X
 |[],_=>rfl|x::l,s=>aoI l (s.cY x.1 x.2.1 x.2.2)
open Classical in
noncomputable def Bg(s:S)(W:ar)(k:C->S->T):C->S->T:=λv X=>if X.tmps=(s.bF W).tmps then k v {X with tmps:=s.tmps} else .stuck ""
def azv{x:FuncId->Code->S->(XE->S->T)->T}{w:YH}{g:FuncId}{V:aq}{s:S}{R:ar}{k M:C->S->T}{O:aj}{L:dt}
  (h:(kA cf x w (.fn g) V s k M).aP p O L):(kA cf x w (.fn g) V (s.bF R) (Bg s R k) (Bg s R M)).aP p O L:=by
 unfold kA at h⊢;simp only at h⊢;split at h;rename_i c r v H;split at h;rename_i t;rw[aH (Hx t)];have:MN cf (s.bF R) v (Bg s R k) (Bg s R M)=MN cf s v k M:=by
  funext e q;cases e<;>simp only[MN,Bg,dP]
 rw[this];exact h;exact h.elim
 ·cases u:cf.lay g with
  |some X=>
   simp only[u] at h⊢;unfold Wc at h⊢;rw[show(s.bF R).au=s.au from rfl];cases H:kJ cf.ty X.bx s.au with
   |none=>simp only[H] at h;exact h.elim
   |some P=>
    cases G:fJ cf.ty ((eC 0 X.bx).map (·.2)) with
    |none=>simp only[H,G] at h;exact h.elim
    |some W=>
     simp only[H,G] at h⊢;obtain⟨F,D⟩:=aoH W (s.cut (V.take X.n++P) W) R;have B:(s.bF R).cut (V.take X.n++P) W=(s.cut (V.take X.n++P) W).bF R:=rfl;rw[B,F,D];cases A:zk cf.ty ((eC 0 X.bx).map (·.2)) ((s.cut (V.take X.n++P) W).bW W).1 with
     |none=>simp only[A] at h;exact h.elim
     |some l=>
      simp only[A] at h⊢;split at h;rename_i Q;simp only[aC] at Q;rw[aH (by simp only[aC];exact⟨⟨⟨⟨Hx Q.1.1.1.1,Q.1.1.1.2⟩,Q.1.1.2⟩,Q.1.2⟩,Q.2⟩),aoI];have N:((((s.cut (V.take X.n++P) W).bW W).2).o7 (VI.out ⟨g,X.n,X.bE,eC 0 X.bx,l⟩)).tmps=s.tmps:=(aeo _ _).1.trans (uF W (s.cut (V.take X.n++P) W)).2.1;have y:Bg s R k (.bI []) (((((s.cut (V.take X.n++P) W).bW W).2).o7 (VI.out ⟨g,X.n,X.bE,eC 0 X.bx,l⟩)).bF R)=k (.bI []) ((((s.cut (V.take X.n++P) W).bW W).2).o7 (VI.out ⟨g,X.n,X.bE,eC 0 X.bx,l⟩)):=by
       simp only[Bg];rw[aH (by simp only[S.bF,N])];congr 1;simp only[S.bF];generalize(((s.cut (V.take X.n++P) W).bW W).2).o7 (VI.out ⟨g,X.n,X.bE,eC 0 X.bx,l⟩)=z at N;rw[<-N]
      rw[y];exact h;exact h.elim
  |none=>
  simp only[u] at h⊢;unfold AU at h⊢;split at h;split at h;rename_i W G;obtain⟨F,D⟩:=aoH W (s.cut V W) R;have B:(s.bF R).cut V W=(s.cut V W).bF R:=rfl;rw[B,F,D];split at h;rename_i l A;split at h;rename_i Q;simp only[aC] at Q;rw[aH (by simp only[aC];exact⟨⟨Hx Q.1.1,Q.1.2⟩,Q.2⟩)];have N:((s.cut V W).bW W).2.tmps=s.tmps:=(uF W (s.cut V W)).2.1;have y:Bg s R k (one l) (((s.cut V W).bW W).2.bF R)=k (one l) ((s.cut V W).bW W).2:=by
   simp only[Bg];rw[aH (by simp only[S.bF,N])];congr 1;simp only[S.bF];generalize((s.cut V W).bW W).2=z at N;rw[<-N]
  rw[y];exact h;exact h.elim;exact h.elim;exact h.elim;exact h.elim
end
section
variable{p:Sp}{cf:bv}{ops:dG}
def aoJ{V:Type}:∀{l:List V}{x:V},x∈l->∃X W,l=X++x::W/\(x,X++W)∈MP l
 |[],x,h=>by cases h
 |y::r,x,h=>by
  rcases ey.1 h with rfl|h;exact⟨[],r,rfl,by simp[MP]⟩;obtain⟨X,W,R,Q⟩:=aoJ h
  grind [MP]
def aeY{p:Sp}{O:aj}{L:dt}:∀{l:List T},(EM l).aP p O L->∀t∈l,t.aP p O L
 |[],h,_,_=>h.elim|[t],h,x,X=>by simp at X;subst X;exact h
 |t::u::r,h,x,X=>by
  simp only[EM,T.aP,BE.ai,true_implies] at h;rcases ey.1 X with rfl|X;exact h.1;exact aeY (l:=u::r) h.2 x X
theorem SR:∀{l m:bm},ol l m=J->l=m
 |[],[],_=>rfl|[],_::_,h=>by simp[ol] at h|Z::_,[],h=>by simp[ol] at h|U _::_,[],h=>by simp[ol] at h|Z::X,Z::W,h=>by simp only[ol] at h;rw[SR h]|Z::_,U _::_,h=>by simp[ol] at h|U _::_,Z::_,h=>by simp[ol] at h
 |U (t,V)::X,U (R,Q)::W,h=>by
  simp only[ol,aC,gc] at h;rw[h.1.1,C.pj _ _ h.1.2,SR h.2]
def aoK:∀{l m:yZ},MQ l m=J->l=m
 |[],[],_=>rfl|[],_::_,h=>by simp[MQ] at h|_::_,[],h=>by simp[MQ] at h
 |x::X,y::W,h=>by
  simp only[MQ,aC] at h;rw[C.pj _ _ h.1,aoK h.2]
theorem LE.bX:∀(a b:LE),LE.aR a b=J->a=b
 |.ak r,b,h=>by cases b<;>simp[LE.aR] at h;rw[RE.bX _ _ h]
 |.lit l,b,h=>by cases b<;>simp[LE.aR] at h;rw[aoK h]
 |.iC x y,b,h=>by cases b<;>simp[LE.aR] at h;rw[LE.bX _ _ h.1,LE.bX _ _ h.2]
 |.xo n W,b,h=>by cases b<;>simp[LE.aR] at h;rw[K.bX _ _ h.1,C.pj _ _ h.2]
 |.set x i V X,b,h=>by cases b<;>simp[LE.aR] at h;rw[LE.bX _ _ h.1.1.1,K.bX _ _ h.1.1.2,h.1.2,C.pj _ _ h.2]
 |.sub x R Q,b,h=>by cases b<;>simp[LE.aR] at h;rw[LE.bX _ _ h.1.1,K.bX _ _ h.1.2,K.bX _ _ h.2]
 |.ins x n X,b,h=>by cases b<;>simp[LE.aR] at h;rw[LE.bX _ _ h.1.1,h.1.2,C.pj _ _ h.2]
theorem S.bX{s s':S}(h:S.aR s s'=J):s=s':=by
 obtain⟨X,a2,W,V,a5,a6,a7,a8⟩:=s;obtain⟨R,Q,P,O,N,M,L,H⟩:=s';simp only[S.aR,aC,gc,dq] at h
 grind [C.pj,SR]
theorem T.bX:∀(a b:T),T.aR a b=J->a=b
 |.out e s,b,h=>by
  cases e with
  |normal=>
   cases b with
   |out W s'=>
    cases W with|normal=>rw[S.bX (s:=s) (s':=s') h]|_=>simp[T.aR] at h
   |_=>simp[T.aR] at h
  |_=>simp[T.aR] at h
 |.stuck _,b,h=>by simp[T.aR] at h|.eG _ _ _ _ _ _ _ _,b,h=>by simp[T.aR] at h|.ret v V X,b,h=>by cases b<;>simp[T.aR] at h;rw[C.bX _ _ h.1.1,SR h.1.2,h.2]
 |.bp v,b,h=>by cases b<;>simp[T.aR] at h;rw[C.bX _ _ h]
 |.aK c t f,b,h=>by cases b<;>simp[T.aR] at h;rw[BE.bX _ _ h.1.1,T.bX _ _ h.1.2,T.bX _ _ h.2]
 |.aS c t,b,h=>by cases b<;>simp[T.aR] at h;rw[BE.bX _ _ h.1,T.bX _ _ h.2]
 |.call f G V X R fA t,b,h=>by
  cases b<;>simp[T.aR] at h;obtain⟨⟨⟨⟨⟨⟨Q,P⟩,O⟩,N⟩,M⟩,L⟩,H⟩:=h;rw[Q,C.pj _ _ P,SR O,N,M,C.bX _ _ L,T.bX _ _ H]
 |.loop ax R F t,b,h=>by cases b<;>simp[T.aR] at h;rw[h.1.1.1,h.1.1.2,C.pj _ _ h.1.2,T.bX _ _ h.2]
 |.back ax x,b,h=>by cases b<;>simp[T.aR] at h;rw[h.1,C.pj _ _ h.2]
 |.new e x X D t,b,h=>by cases b<;>simp[T.aR] at h;rw[h.1.1.1.1,LE.bX _ _ h.1.1.1.2,h.1.1.2,h.1.2,T.bX _ _ h.2]
 |.ah k x X t,b,h=>by cases b<;>simp[T.aR] at h;rw[h.1.1.1,LE.bX _ _ h.1.1.2,h.1.2,T.bX _ _ h.2]
 |.gr g k t f,b,h=>by cases b<;>simp[T.aR] at h;rw[BE.bX _ _ h.1.1.1,BE.bX _ _ h.1.1.2,T.bX _ _ h.1.2,T.bX _ _ h.2]
 |.pick n g k t f,b,h=>by
  cases b<;>simp[T.aR] at h;rw[K.bX _ _ h.1.1.1.1,BE.bX _ _ h.1.1.1.2,BE.bX _ _ h.1.1.2,T.bX _ _ h.1.2,T.bX _ _ h.2]
def NT:∀{l:List T}{t:T},t∈l->t∈J7 l
 |[],t,h=>by cases h
 |u::R,t,h=>by
  simp only[J7];rcases ey.1 h with rfl|h;split;rename_i X;obtain⟨w,W,V⟩:=nF.1 X;rw[T.bX _ _ V];exact NT W;simp;split;exact NT h;exact AI _ (NT h)
def aoL{p:Sp}{O:aj}{L:dt}:∀{l:List BE}{t:T},(Wj l t).aP p O L->(∀b∈l,b.ai O=J)/\t.aP p O L
 |[],t,h=>⟨λ_ X=>(by cases X),h⟩
 |b::r,t,h=>by
  simp only[Wj,T.aP] at h;obtain⟨W,V⟩:=aoL h.2
  grind
def azw{V:qn}{nO:List BE}{X:cQ}{R:ar}{k:S->T}{Q:C->S->T}{W:cQ}{L:dt}(h:(qw cf V y nO X R k Q N W l).aP p x L):ac6 cf nO l X=true:=by
 cases W with
 |nil=>
  cases N<;>simp only[qw] at h<;>split at h;assumption;exact h.elim;assumption;exact h.elim
 |cons m P=>
  cases N with
  |zero=>exact h.elim
  |succ N=>
   simp only[qw] at h;split at h;exact h.elim
   grind
def azx(s:S):s.bF []=s:=by
 obtain⟨X,b,c,d,e,f,g,i⟩:=s;simp only[S.bF,S.mk.injEq,and_true];apply kX
 grind [xK]
def aeZ:∀{l:List T}{t:T},t∈J7 l->t∈l
 |[],t,h=>by cases h
 |u::X,t,h=>by
  simp only[J7] at h;split at h;exact AI _ (aeZ h);rcases ey.1 h with rfl|h;simp;exact AI _ (aeZ h)
def aoM{O:aj}{L:dt}:∀{l:List T},l≠[]->(∀t∈l,t.aP p O L)->(EM l).aP p O L
 |[],h,_=>bB rfl h|[t],_,h=>h t VD
 |t::u::r,_,h=>by
  simp only[EM,T.aP];exact⟨λ_=>h t VD,λ_=>aoM (l:=u::r) aw λx X=>h x (AI _ X)⟩
def aoN{k:S->T}{X:C->S->T}:∀{l:List T},(EM l).oo k X=EM (l.map (T.oo k X))
 |[]=>rfl|[t]=>rfl
 |t::u::r=>by
  simp only[EM,T.oo,dH];rw[aoN (l:=u::r)];rfl
def azy{k:S->T}{P:C->S->T}{N M:C->S->T}{L:dt}(r:∀X H x L,((N X H).oo k P).aP p x L->(M X H).aP p x L)(h:((AU cf v t l N).oo k P).aP p x L):(AU cf v t l M).aP p x L:=by
 unfold AU at h⊢;cases G:cf.sig v with
 |none=>rw[G] at h;exact h.elim
 |some F=>
  simp only[G] at h⊢;cases D:fJ cf.ty F with
  |none=>rw[D] at h;exact h.elim
  |some B=>
   simp only[D] at h⊢;cases A:zk cf.ty F ((l.cut t B).bW B).1 with
   |none=>rw[A] at h;exact h.elim
   |some R=>
    simp only[A] at h⊢;split at h;rename_i Q;rw[aH Q];have w:zm (one R)=none:=by
     simp at Q;exact Q.2
    simp only[T.oo,T.aP,w] at h⊢;intro y V W u;refine(h y V W u).mono λe q z=> ?_
    cases e with
    |returned X=>
     grind
    |panicked o=>exact z|outgrown=>exact z
    exact h.elim
def azz{k:S->T}{V G:C->S->T}{F:FuncId->Code->S->(XE->S->T)->T}{D:YH}{P:ar}{m:OM}{N M:S->T}{s:S}{O:aj}{L:dt}(R:∀X O L,((N X).oo k V).aP p O L->(M X).aP p O L)(h:((G6 cf (Rz cf) P G m N s).oo k V).aP p O L):(G6 cf (kA cf F D) P V m M s).aP p O L:=by
 unfold G6 at h⊢;cases bq:JY cf m.o s with
 |some u=>
  grind [T.oo,T.aP]
 |none=>
 simp only[bq] at h⊢;cases W:eu cf s m.o with
 |call c z=>
  cases c with
  |fn g=>
   simp only[W,Rz] at h⊢;split at h;rename_i Q;simp at Q;simp only[kA,Q.1,Q.2];exact azy (λv X O L B=>R _ O L B) h;exact h.elim
  |yl n=>simp only[W,Rz] at h;exact h.elim
 |bp v=>simp only[W] at h;exact h.elim|no=>simp only[W] at h;exact h.elim
 |op=>
  simp only[W] at h⊢;cases A:(if MS m.o.op then eY cf m.o m.bM E s else Z) with
  |some b=>
   grind [T.oo,T.aP]
  |none=>
   simp only[A] at h⊢;cases H:EN cf m.o s with
   |some r=>
    cases r with|ok X=>simp only[H] at h⊢;exact R _ _ _ h|ah k x X=>simp only[H,T.oo,T.aP] at h⊢;exact R _ _ _ h
   |none=>
   grind [T.oo,T.aP]
def azA{k:S->T}{W D:C->S->T}{P:FuncId->Code->S->(XE->S->T)->T}{N:YH}{X:ar}{nO:List BE}{V:ar}:∀(n:Nat)(R:cQ)(Q:cQ)(s:S)(O:aj)(L:dt),
  ((qw cf (Rz cf) X nO Q V (.out .normal) D n R s).oo k W).aP p O L->(qw cf (kA cf P N) X nO Q V k W n R s).aP p O L:=by
 intro n;induction n with
 |zero=>
  intro R Q s O L h;cases R with
  |nil=>
   simp only[qw] at h⊢;split at h;rename_i M;rw[aH M];exact h;exact h.elim
  |cons m r=>exact h.elim
 |succ n B=>
  intro R Q s O L h;cases R with
  |nil=>
   simp only[qw] at h⊢;split at h;rename_i M;rw[aH M];exact h;exact h.elim
  |cons m r=>
   simp only[qw] at h⊢;split at h;exact h.elim;rename_i M;rw[aJ M];rw[aoN] at h;have G:=aeY h;cases F:(MP (m::r)).filter (ac7 X) with
   |nil=>rw[F] at h;exact h.elim
   |cons x A=>
    rw[F] at G;refine aoM (λu=> ?_) λt z=> ?_
    have:=NT (VD (a:=G6 cf (kA cf P N) V W x.1 (λH=>qw cf (kA cf P N) X nO (MT X x.1 Q) V k W n x.2 H) s) (l:=A.map λx=>G6 cf (kA cf P N) V W x.1 (λH=>qw cf (kA cf P N) X nO (MT X x.1 Q) V k W n x.2 H) s))
    grind
    obtain⟨y,w,rfl⟩:=fo.1 (aeZ z);exact azz (λH O L v=>B _ _ _ _ _ v) (G _ (fo.2 ⟨_,NT (fo.2 ⟨y,w,rfl⟩),rfl⟩))
structure aoO(cf:bv)(ops:dG)(bs:ar)(qs ch:cQ):Prop where
 aoP:NL ops bs
 zx:∀m∈qs++ch,∀x∈qs++ch,∀d,x.o.dst=U d->d∈ld ops m.o->(bs.getD m.j 0).testBit x.j=J
 dst:∀x∈qs++ch,∀y∈qs++ch,x.j≠y.j->∀d,x.o.dst=U d->y.o.dst≠U d
 gd:∀m∈qs++ch,m.o.guard=Z/\m.bM=E
 qt:∀q∈qs,o8 q.o.op=J
def azB{F:Fence}(hF:qE F)(ok:ji p cf){nn:Nat}(ih:Be p cf nn){D:bU}{B:jK}{yh:YH}(hY:qF p cf D.dK B yh){Q:Exit->Act->World->Prop}(HP:∀ch a' G pd X,ef p.w0 D pd X a'.defers G->p.R (.panicked ch) G->Q (.panic ch) a' G)
   {nO:List BE}{qs ch:cQ}{ds:ar}(hX:aoO cf ops y qs ch)(b7:∀M∈qs++ch,∀d,M.o.dst=U d->d∈ds){k:S->T}{kp:C->S->T}{V0:ar}{L0:dt}(hB:B.lT l x V0 L0)(b8:∀b∈nO,b.bd (Y x.i) (Y x.b) (Y x.r)=J/\b.ai x=J)
  (hk:∀A O' V' a' G L',bC l x V0 A O' V'->cU l.ax L0 L'->aA p.S0 p.w0 D cf.ty V' O' A a' G->(k A).aP p O' L'->Q .normal a' G)
  (ca:∀v A O' V' a' G L',bC l x V0 A O' V'->cU l.ax L0 L'->aA p.S0 p.w0 D cf.ty V' O' A a' G->(kp v A).aP p O' L'->Q (.panic [{v:=v.ai O' V',recovered:=E}]) a' G):
  ∀(al:Nat)(listed:Array Bool)(z aa qv:cQ)(s:S)(O:aj)(V:ar)(a:Act)(W:World)(L:dt),(z++aa).length=al->vW ops listed (z++aa)->(∀q∈z,q∈qv)->(∀q∈qv,q∈qs)->(∀m∈aa,m∈ch)->
   bC l x V0 s O V->cU l.ax L0 L->aA p.S0 p.w0 D cf.ty V O (s.bF (qd z)) a W->eD cf.gl O->(qw cf (kA cf (λf c s k=>fP cf nn f c s yh k) yh) y nO qv ds k kp (Y aa) aa s).aP p O L->
   wpAnyIn F N p.P .any ops Q al listed a W:=by
 intro al;induction al with
 |zero=>
  intro listed z aa qv s O V a W L bl hW a9 bb hr hl hL R hg h;have hp:∀q∈z,q∈qs:=λq hq=>bb q (a9 q hq)
  have bc:z++aa=[]:=yS.1 bl;obtain⟨rfl,rfl⟩:=List.append_eq_nil_iff.1 bc;simp only[Ck,qw] at h;split at h;refine⟨?_,hk s O V a W L hl hL (by have:=R;simp only[qd,List.filterMap_nil,azx] at this;exact this) h⟩;cases ab:ul .any ops listed with
  |nil=>rfl
  |cons i r=>
   obtain⟨h1,o,ho,-⟩:=mem_ready.1 (show i∈ul .any ops listed by rw[ab];simp);obtain⟨m,hm,-⟩:=(hW.un i (lL.1 ho).1).1 h1;cases hm
  exact h.elim
 |succ al cc=>
  intro listed z aa qv s O V a W L bl hW a9 bb hr hl hL R hg h;have hp:∀q∈z,q∈qs:=λq hq=>bb q (a9 q hq)
  have a3:∀m∈z++aa,m∈qs++ch:=λm hm=>by
   rcases fc.1 hm with h1|h1;exact Eo _ (hp m h1);exact ak1 _ (hr m h1)
  refine⟨λab=> ?_,λi hi=> ?_⟩;exfalso;obtain⟨m0,cp⟩:=List.exists_mem_of_length_pos (l:=z++aa) ae;obtain⟨m,hm,bc⟩:=vW.some hX.aoP hW m0.j ⟨m0,cp,rfl⟩;have:m.j∈ul .any ops listed:=
   mem_ready.2 ⟨(hW.un m.j (hW.lt hm)).2 ⟨m,hm,rfl⟩,m.o,hW.mem m hm,λe he hb=>bc e.on (SE he hb)⟩
  rw[ab] at this;cases this;obtain⟨h1,o,ho,bc⟩:=mem_ready.1 hi;obtain⟨m,hm,rfl⟩:=(hW.un i (lL.1 ho).1).1 h1;have br:=hW.mem m hm;rw[br] at ho;cases ho;have hd:∀e∈ju m.o,listed.getD e E=true:=λe he=>by
   obtain⟨ed,h2,h3,rfl⟩:=Xk he;exact bc ed h2 h3
  have bt:∀M∈z++aa,¬(y.getD m.j 0).testBit M.j=true:=λM hx hb=>hW.not hx (hW.listed hX.aoP m.j m.o br hd M.j (hW.lt hx) hb)
  have ab:∀t∈ld ops m.o,t∉qd z:=λt ht hq=>by
   obtain⟨M,hx,bf⟩:=QX.1 hq;exact bt M (Eo _ hx) (hX.zx m (a3 m hm) M (a3 M (Eo _ hx)) t bf ht)
  obtain⟨cs,cl⟩:=hX.gd m (a3 m hm);have cn:=azw h;have ct:lM m.o (yielded ops a.tmps)=true:=aeM R (by simp[gZ,cs]);unfold wpOpIn;rw[br];simp only[ct,dP];rcases fc.1 hm with cu|cv
  
  obtain⟨xs,ys,rfl⟩:=aJj cu;have hq:=gC.1 cn m (a9 m aw);split at hq;rename_i d b v bx hv;split at hq;rename_i w hw;simp only[aC,lq] at hq;have cx:=C.bX _ _ hq.1;subst cx;have fh:b.ai O=true:=by
   rcases hq.2 with h5|h5;cases b<;>simp only[BE.isT,iZ] at h5;simp only[BE.ai];exact h5;obtain⟨M,hx,h6⟩:=nF.1 h5;rw[<-BE.bX _ _ h6,BE.eh hl.ext.agree M (b8 M hx).1];exact(b8 M hx).2
  have an:=aoz (O:=O) (hX.qt m (hp m aw)) cl (aoA (ops:=ops) (ds:=qd (xs++m::ys)) ab hv) fh;obtain⟨v',G,V',ac,R',H⟩:=Sc R ok.kM hg m an;have af:=hW.nd;rw[Ci,cG] at hW af;have ag:d∉qd (xs++ys):=λhh=>by
   obtain⟨M,hx,bf⟩:=QX.1 hh;have b0:M.j≠m.j:=by
    rw[oD] at af;rcases fc.1 hx with h5|h5;exact af.2.2 M h5 m aw;exact Ne.symm ((jS.1 af.2.1).1 M (by simp[h5]))
   exact hX.dst M (Eo _ (hp M (by rcases fc.1 hx with h5|h5<;>simp[h5]))) m (Eo _ (hp m aw)) b0 d bf bx
  have hs:((s.bF (qd (xs++m::ys))).put m.o.dst v)=s.bF (qd (xs++ys)):=by
   rw[bx];simp only[S.put,Cp,S.bF];congr 1;apply kX;intro i;rw[yU,xK,xK,jp,NQ];have cy:=(du.1 hw).1;by_cases hi:d=i;subst hi;rw[aH rfl,aH cy,hw];simp[ag];rw[aJ hi];have cA:(qd (xs++m::ys)).contains i=(qd (xs++ys)).contains i:=by
    rw[JB,Jw,Jw];simp only[qd,List.filterMap_append,av3,bx,fc,ey];constructor;rintro(h5|h5|h5);exact .inl h5;exact bB h5.symm hi;exact .inr h5;rintro(h5|h5);exact .inl h5;exact .inr (.inr h5)
   rw[cA]
  rw[hs] at R' H;refine A8 hF ac (Sq an) ?_;refine cc _ (xs++ys) aa qv s O V' _ G L (by simp at bl⊢;omega) ?_ (λq hq=>a9 q (by rcases fc.1 hq with h5|h5<;>simp[h5])) bb hr (hl.trans ⟨H.ext,H.mono,H.len,H.ax⟩) hL R' hg h;rw[Ci];exact hW.next hd;cases hq;cases hq
  
  obtain⟨xs,ys,rfl,co⟩:=aoJ cv;have cB:(xs++m::ys).length=(xs++ys).length+1:=bS;have cC:ac7 y (m,xs++ys)=true:=by
   refine gC.2 λM hx=> ?_
   have:=bt M (ak1 _ (by simp only[fc,ey] at hx⊢;exact hx.imp id .inr));simpa using this
  have h:(G6 cf (kA cf (λf c s k=>fP cf nn f c s yh k) yh) ds kp m (λA=>qw cf (kA cf (λf c s k=>fP cf nn f c s yh k) yh) y nO (MT y m qv) ds k kp (xs++ys).length (xs++ys) A) s).aP p O L:=by
   rw[cB] at h;generalize cD:xs++m::ys=cO at h co;cases cO with
   |nil=>simp at cD
   |cons m0 r0=>
    simp only[qw,cn,Bool.not_true,iZ,jE] at h;exact aeY h _ (NT (fo.2 ⟨_,qj.2 ⟨co,cC⟩,rfl⟩))
  have cW:vW ops (listed.setIfInBounds m.j J) (z++(xs++ys)):=by
   have h5:z++(xs++m::ys)=(z++xs)++m::ys:=aw;rw[h5] at hW;have:=hW.next hd;simpa using this
  have ag:∀d,m.o.dst=U d->d∉qd z:=λd c0 hh=>by
   obtain⟨M,hx,bf⟩:=QX.1 hh;have b0:M.j≠m.j:=(oD.1 hW.nd).2.2 M hx m aw;exact hX.dst M (a3 M (Eo _ hx)) m (a3 m hm) b0 d bf c0
  have a0:∀(s1:S)(O1:aj)(V1:ar)(a1:Act)(W1:World)(L1:dt),bC s O V s1 O1 V1->cU s.ax L L1->aA p.S0 p.w0 D cf.ty V1 O1 (s1.bF (qd z)) a1 W1->(qw cf (kA cf (λf c s k=>fP cf nn f c s yh k) yh) y nO (MT y m qv) ds k kp (xs++ys).length (xs++ys) s1).aP p O1 L1->wpAnyIn F N p.P .any ops Q al (listed.setIfInBounds m.j J) a1 W1:=
   λs1 O1 V1 a1 W1 L1 dY c1 R1 c2=>cc _ z (xs++ys) (MT y m qv) s1 O1 V1 a1 W1 L1 (by simp at bl⊢;omega) cW (λq hq=>qj.2 ⟨a9 q hq,by have:=bt q (Eo _ hq);simpa using this⟩) (λq hq=>bb q (qj.1 hq).1) (λM hx=>hr M (by simp only[fc,ey] at hx⊢;exact hx.imp id .inr)) (hl.trans dY) (hL.trans c1 hl.ax) R1 (hg.ext dY.ext) c2
  have b1:=(Xt (cf:=cf) (s:=s) (O:=O) ab).ev cf.gl;unfold G6 at h;split at h;rename_i u hu;have c3:=azq (Hq b1) ag hu;simp only[T.aP] at h;obtain⟨aF,hr,h⟩:=h;obtain⟨ba,tv,c4,af,b2⟩:=ax5 ok.zj R hg c3 hr;refine⟨λf _=>hF.fn f, ?_⟩;rw[AK _ _ _ af,c4,VE];refine⟨λhd=>by rw[hF.zx] at hd;simp at hd,CallsIn.mono (hF.calls b2) (λe G he=> ?_)⟩;obtain⟨rfl,R',H⟩:=he;exact a0 u.s _ V _ G L ⟨H.ext,H.mono,H.len,H.ax⟩ (cU.refl _ _) R' h;split at h;rename_i g ba bg;have b3:eu cf (s.bF (qd z)) m.o=.call (.fn g) ba:=by rw[Hq b1];exact bg
  have b4:B.lT (s.bF (qd z)) O V L:=by
   have:=hB.go hl hL;exact⟨⟨this.later.ext,this.later.mono,this.later.len,this.later.ax⟩,this.Ko⟩
  have hC:=Kx ok ih hY L (.fn g) ba (s.bF (qd z)) _ _ O V a W (λe G=>match e with|.returned v=>wpAnyIn F N p.P .any ops Q al (listed.setIfInBounds m.j J) (a.put m.o.dst v) G|.panicked ch=>Q (.panic ch) a G|.outgrown=>LetsOut Q) b4 (azv h) R hg
   (λv A O' V' G L' H a4 R' hs=>by
    simp only[Bg] at hs;split at hs;rename_i bk;refine a0 (({A with tmps:=s.tmps}:S).put m.o.dst v) O' V' _ G L' (bC.put (s':={A with tmps:=s.tmps}) (show bC s O V _ O' V' from⟨H.ext,H.mono,H.len,H.ax⟩) _ _) a4 ?_ hs;rw[Bf ag];have:({A with tmps:=s.tmps}:S).bF (qd z)=A:=by
     simp only[S.bF] at bk⊢;rw[<-bk]
    rw[this];exact R'.put _ _;exact hs.elim)
   (λv A O' V' G L' H a4 R' hs=>by
    simp only[Bg] at hs;split at hs;rename_i bk;refine ca v (({A with tmps:=s.tmps}:S).bF ds) O' V' a G L' (hl.trans ⟨H.ext,H.mono,H.len,H.ax⟩) (hL.trans a4 hl.ax) ?_ hs;have:({A with tmps:=s.tmps}:S).bF ds=A.bF ds:=by
     have h6:=aoy (s:=s) (ds:=ds) (es:=qd z) (λM hx=>by
      obtain⟨X,hy,b5⟩:=QX.1 hx;exact b7 X (a3 X (Eo _ hy)) M b5)
     have h7:=j7 S.tmps h6;simp only[S.bF] at h7 bk⊢;rw[bk,h7]
    rw[this];exact R'.bF ds;exact hs.elim)
   (λch G pd X hA hR=>HP ch a G pd X hA hR)
  obtain⟨c5,b2⟩:=hC;refine⟨λf _=>hF.fn f, ?_⟩;have af:∀c,m.o.op≠ .defer c:=λc b6=>by simp[eu,b6] at bg
  rw[AK _ _ _ af,WW R hg b3 c5,VE];refine⟨λhd=>by rw[hF.zx] at hd;simp at hd,CallsIn.mono (hF.calls b2) (λe G he=> ?_)⟩;cases e<;>exact he;rename_i yn ba bg;have b3:eu cf (s.bF (qd z)) m.o=.call (.yl yn) ba:=by rw[Hq b1];exact bg
  have b4:B.lT (s.bF ds) O V L:=by
   have:=hB.go hl hL;exact⟨⟨this.later.ext,this.later.mono,this.later.len,this.later.ax⟩,this.Ko⟩
  have Rd:aA p.S0 p.w0 D cf.ty V O (s.bF ds) a W:=by
   have h6:=aoy (s:=s) (ds:=ds) (es:=qd z) (λM hx=>by
    obtain⟨X,hy,b5⟩:=QX.1 hx;exact b7 X (a3 X (Eo _ hy)) M b5)
   rw[<-h6];exact R.bF ds
  have hC:=Kx ok ih hY L (.yl yn) ba (s.bF ds) _ _ O V a W (λe G=>match e with|.returned v=>wpAnyIn F N p.P .any ops Q al (listed.setIfInBounds m.j J) (a.put m.o.dst v) G|.panicked ch=>Q (.panic ch) a G|.outgrown=>LetsOut Q) b4 h Rd hg
   (λv A O' V' G L' H a4 R' hs=>a0 (A.put m.o.dst v) O' V' _ G L' ((show bC s O V A O' V' from⟨H.ext,H.mono,H.len,H.ax⟩).put _ _) a4 ((R'.put m.o.dst v).bF (qd z)) hs)
   (λv A O' V' G L' H a4 R' hs=>ca v (A.bF ds) O' V' a G L' (hl.trans ⟨H.ext,H.mono,H.len,H.ax⟩) (hL.trans a4 hl.ax) (R'.bF ds) hs)
   (λch G pd X hA hR=>HP ch a G pd X hA hR)
  obtain⟨fn,dn,assign,body,hy,c6⟩:=hC F hF (N-1);refine⟨λf _=>hF.fn f, ?_⟩;have af:∀c,m.o.op≠ .defer c:=λc b6=>by simp[eu,b6] at bg
  rw[AK _ _ _ af,aef R hg b3,hy,awb];refine⟨λhd=>by rw[hF.zx] at hd;simp at hd,RoundIn.mono c6 (λe G he=> ?_)⟩;cases e<;>exact he;split at h;rename_i b hb;split at hb;rename_i c7;simp only[T.aP] at h;have c8:=azu (cf:=cf) (ops:=ops) c7 ab ag hb;obtain⟨v',G,rv,ac,c9,R',H⟩:=adZ R ok.kM hg c8 h.1;exact A8 hF ac (aeh hb) (a0 b.s _ V _ G L ⟨H.ext,H.mono,H.len,H.ax⟩ (cU.refl _ _) R' (h.2 rv (by rw[ok.pt];exact c9)));cases hb;split at h;rename_i A hu;obtain⟨G,ac,R',H⟩:=aoG R ok.kM hg (aoE (ops:=ops) ab ag hu);exact A8 hF ac (aoF hu) (a0 A O V _ G L ⟨H.ext,H.mono,H.len,H.ax⟩ (cU.refl _ _) R' h);rename_i k' x' A hu;obtain⟨G,ac,R',H⟩:=aoG R ok.kM hg (aoE (ops:=ops) ab ag hu);simp only[T.aP] at h;exact A8 hF ac (aoF hu) (a0 A _ V _ G L ⟨H.ext,H.mono,H.len,H.ax⟩ (cU.refl _ _) R' h);split at h;rename_i dc;split at h;rename_i b v hv;simp only[T.aP] at h;have an:=aoz (O:=O) dc cl (aoA (ops:=ops) (ds:=qd z) ab hv) h.1;obtain⟨v',G,V',ac,R',H⟩:=Sc R ok.kM hg m an;rw[<-Bf ag] at R' H;exact A8 hF ac (Sq an) (a0 (s.put m.o.dst v) O V' _ G L ⟨H.ext,H.mono,H.len,H.ax⟩ (cU.refl _ _) R' h.2);exact h.elim;split at h;rename_i dd;split at h;rename_i A df;have dk:=azl (ops:=ops) dd ab ag df;have an:(gJ cf m (s.bF (qd z))).gives O (A.bF (qd z)):=by rw[dk];rfl
  obtain⟨v',G,V',ac,R',H⟩:=Sc R ok.kM hg m an;exact A8 hF ac (Sq an) (a0 A O V' _ G L ⟨H.ext,H.mono,H.len,H.ax⟩ (cU.refl _ _) R' h);exact h.elim;exact h.elim;exact h.elim
def aoQ:∀{V:cQ}{s:S}{x:S×List BE},G5 cf V s=U x->x.1={s with tmps:=x.1.tmps}/\Y x.1.tmps=Y s.tmps/\(∀t,t∉qd V->x.1.tmps[t]?=s.tmps[t]?)/\∀b∈x.2,b.bd s.ni s.nb (Y s.rs)=J
 |[],s,x,h=>by simp only[G5,dX] at h;subst h;exact⟨rfl,rfl,λ_ _=>rfl,λ_ R=>(by cases R)⟩
 |q::r,s,x,h=>by
  simp only[G5] at h;split at h;rename_i b v X;cases W:G5 cf r (s.put q.o.dst v) with
  |none=>rw[W] at h;cases h
  |some y=>
   rw[W] at h;simp at h;subst h;obtain⟨Q,P,O,N⟩:=aoQ W;refine⟨?_, ?_,λt M=> ?_,λx L=> ?_⟩;show y.1=_;rw[Q];cases q.o.dst<;>rfl;show Y y.1.tmps=_;rw[P];cases q.o.dst<;>simp[S.put]
   grind [qd,nR]
   have H:(s.put q.o.dst v).ni=s.ni/\(s.put q.o.dst v).nb=s.nb/\(s.put q.o.dst v).rs=s.rs:=by cases q.o.dst<;>exact⟨rfl,rfl,rfl⟩
   have R:b.bd s.ni s.nb (Y s.rs)=true:=by
    unfold EL at X;split at X;cases X;split at X;cases X;exact BE.bj.1 _;split at X
    grind
    cases X;cases X
   grind
  cases h
def aoR{F:Fence}(hF:qE F)(ok:ji p cf){nn:Nat}(ih:Be p cf nn){D:bU}{B:jK}{yh:YH}(hY:qF p cf D.dK B yh){Q:Exit->Act->World->Prop}(HP:∀z a' r pd X,ef p.w0 D pd X a'.defers r->p.R (.panicked z) r->Q (.panic z) a' r)
  {id:Nat}{so:Bool}{c:RA}{a:Act}{L:dt}{k:XE->S->T}(hB:B.lT l x y L)(w:MV cf so ops l=U c)
  (h:(RI cf (kA cf (λf c l k=>fP cf nn f c l yh k) yh) ops k c).aP p x L)(R:aA p.S0 p.w0 D cf.ty y x l a e)(hg:eD cf.gl x)
  (hk:∀s' O' V' a' r L',bC l x y s' O' V'->cU l.ax L L'->aA p.S0 p.w0 D cf.ty V' O' s' a' r->(k .normal s').aP p O' L'->Q .normal a' r)
  (bd:∀v s' O' V' a' r L',bC l x y s' O' V'->cU l.ax L L'->aA p.S0 p.w0 D cf.ty V' O' s' a' r->(k (.bp v) s').aP p O' L'->Q (.panic [{v:=v.ai O' V',recovered:=E}]) a' r):
  (Code.region id ops J).wpIn F N p.P Q a e:=by
 unfold MV at w;split at w;rename_i ab;obtain⟨ac,af⟩:∃ac,ac=fU (λ_=>E) E J 0 (Y l.au) ops.toList:=⟨_,rfl⟩;obtain⟨A,a0⟩:∃A,A=EO so ops (Y l.au):=⟨_,rfl⟩;obtain⟨z,a1⟩:∃z,z=EP so ops (Y l.au):=⟨_,rfl⟩;have bf:A=ac.filter λm=>(Wk so ops).contains m.j:=by rw[a0,af];rfl
 have bg:z=ac.filter λm=> !(Wk so ops).contains m.j:=by rw[a1,af];rfl
 have ab:=(aC _ _▸ab).2;unfold MU at ab;rw[<-a0,<-a1,<-af] at ab;rw[<-a0,<-a1] at w;cases hq:G5 cf A (l.room (mV ops.toList)) with
 |none=>rw[hq] at w;cases w
 |some x1=>
  obtain⟨s1,nO⟩:=x1;rw[hq] at w;simp only[ak6,chI] at w;split at w;cases w;cases w;obtain⟨a4,h⟩:=aoL h;simp only at h a4;have h:(qw cf (kA cf (λf c l k=>fP cf nn f c l yh k) yh) (qu ops.toList) nO A (G3 ops.toList) (k .normal) (λv=>k (.bp v)) (Y z) z s1).aP p x L:=by
   split at h;exact h;exact azA _ _ _ _ _ _ h
  simp only[ac9,aC,gc] at ab;obtain⟨⟨⟨⟨⟨⟨⟨⟨c1,c2⟩,c4⟩,c5⟩,c6⟩,c7⟩,c8⟩,c9⟩,bt⟩:=ab;have aa:∀m∈A++z,m∈ac:=λm G=>by
   rcases fc.1 G with h1|h1;rw[bf] at h1;exact(qj.1 h1).1;rw[bg] at h1;exact(qj.1 h1).1
  have a9:∀m∈ac,ops[m.j]?=U m.o:=λm G=>by
   obtain⟨i,g⟩:=avZ.1 G;rw[af] at g;have h1:=Kw _ _ _ _ _ _ _ _ g;have h2:=aeR _ _ _ _ _ _ _ _ g;rw[h2,jp];simpa using h1
  have ba:=Xn c4;have hX:aoO cf ops (qu ops.toList) A z:=by
   refine⟨aop c1,λm G M hx d hd u=> ?_,λM hx X hy bk d bb bc=> ?_,λm G=> ?_,λq hq=> ?_⟩;have:=gC.1 (gC.1 c5 m (aa m G)) M (aa M hx);rw[hd] at this;simp only[lq,jT] at this;rcases this with h5|h5;rw[Jw.2 u] at h5;cases h5;exact h5;obtain⟨i,g⟩:=avZ.1 (aa M hx);obtain⟨j,hj⟩:=avZ.1 (aa X hy);have bl:i≠j:=λH=>by subst H;rw[g] at hj;cases hj;exact bk rfl
   have ag:=(du.1 g);have al:=(du.1 hj);rcases aJg bl with a3|a3;exact(aci.1 ba i j ag.1 al.1 a3) d (by rw[ag.2];exact bb) (by rw[al.2];exact bc);exact(aci.1 ba j i al.1 ag.1 a3) d (by rw[al.2];exact bc) (by rw[ag.2];exact bb);have:=gC.1 c2 m (aa m G);simp only[aC,jT,akX] at this;exact this;have:=gC.1 c6 q hq;simp only[aC] at this;exact this.1
  obtain⟨Rr,an⟩:=R.room (mV ops.toList);have Rd:=Rr.drew;obtain⟨e1,e2,e3,e4⟩:=aoQ hq;simp only at e1 e2 e3 e4;have Rb:aA p.S0 p.w0 D cf.ty (y++ew (mV ops.toList) 0) x (s1.bF (qd A)) a {e with drawn:=e.drawn+1}:=by
   have hh:s1.bF (qd A)={l.room (mV ops.toList) with tmps:=uy (qd A) 0 s1.tmps}:=by
    rw[e1];rfl
   rw[hh];refine⟨Rd.mem,Rd.gE,Rd.ei,Rd.eb,Rd.er,Rd.dm,by simp only[NQ,e2];exact Rd.size,λt sv u=> ?_,Rd.eP⟩;simp only at u;rw[xK,jp] at u;cases hx:s1.tmps[t]? with
   |none=>rw[hx] at u;cases u
   |some M=>
    rw[hx] at u;simp only[ga,dX] at u;split at u;exact .inl u.symm;rename_i br;subst u;exact Rd.tmps t M (by rw[<-e3 t (λG=>br (Jw.2 G))];exact hx)
  have dY:bC l x y s1 x (y++ew (mV ops.toList) 0):=by
   rw[e1];exact⟨an.ext,an.mono,an.len,an.ax⟩
  refine wpIn_region_any ok.Xc ?_;refine azB (ds:=G3 ops.toList) hF ok ih hY HP hX (λM hx d hd=> ?_) hB (λb hb=>⟨by have:=e4 b hb;rw[R.ei,R.eb,R.er];exact this,a4 b hb⟩) hk bd ops.size _ A z A s1 x _ a _ L c8 ?_ (λ_ h=>h) (λ_ h=>h) (λ_ h=>h) dY (cU.refl _ _) Rb hg h;have h2:ops.toList[M.j]?=U M.o:=by have:=a9 M (aa M hx);simpa using this
  exact QX.2 ⟨M.o,jD h2,hd⟩;refine⟨λm G=>a9 m (aa m G),λi g=> ?_,aw,λj o ho hj=> ?_, ?_⟩;constructor;intro _;have:=gC.1 c7 i (by simpa using g);obtain⟨m,G,hj⟩:=nF.1 this;exact⟨m,G,by simpa using hj⟩;intro _;simp[g];exfalso;have bs:j<ops.size:=(lL.1 ho).1;simp[bs] at hj;have:=aeU c9;rw[ak5] at this;exact this
 cases w
end
section
variable{p:Sp}{o:bv}
def jK.here(s:S)(O:aj)(V:ar)(L:dt):(jK.mk s O V L).lT s O V L:=⟨bC.refl _ _ _,cU.refl _ _⟩
def azC(W:Array Nat)(V:fz)(A:mR):(W.zip V.toArray).foldl (λ(X:mR)(x:Nat×Value)=>match x with|(t,a)=>X.setIfInBounds t a) A=(W.toList.zip V).foldl (λ(X:mR)(x:Nat×Value)=>X.setIfInBounds x.1 x.2) A:=by
 rw[<-aJf];simp
def bC.ae0{W:S}{X:aj}{R:ar}(h:bC l x y W X R)(k:Nat):bC l (x.at (x.y.take k)) y W (X.at (X.y.take k)) R:=
 ⟨⟨⟨h.ext.agree.i,h.ext.agree.b,h.ext.agree.r,by show X.y.take k=x.y.take k;rw[h.ext.agree.y]⟩,h.ext.li,h.ext.lb,h.ext.lr,h.ext.ad⟩,h.mono,h.len,h.ax⟩
def azD(ok:ji p o)(ih:Be p o N){ba:Func}(bb:p.P.funcs[v]?=U ba){ps:Array Tmp}{assign body:Code}{s:S}{L:dt}{O:aj}{V:ar}{a:Act}{sE:S}{l:Nat}{rec:Loop}{g:List (Nat×Loop)}
  (hE:sE.au=s.au)(fh:C.dQ (Y O.i) (Y O.b) (Y O.r) (aL s.au) s.tmps=J)(b3:a.tmps.size=Y s.tmps)(b4:∀(t:Nat)(z:C),s.tmps[t]?=U z->z=.any\/a.tmps[t]?=U (z.ai O V))
  (b5:kK assign=E)(b6:kK body=E){n0:Nat}(aa:rec={state:=.ready,pending:=Z,fn:=v,tmps:=a.tmps,params:=ps,assign,body,defers:=rec.defers})(f:g[n0]?=U (l,rec)){W:List (Nat×Loop)}{B0:jK}{an:YH}(b7:qF p o W B0 an)(bd:W<+:g)(b8:B0.lT s (O.at (O.y.take (Y W))) V L)(bf:sE.ax=s.ax)(ca:C.qy n0 s.tmps=E)(c2:Y g=n0+1):
  qF p o g ⟨sE,O,V,L⟩ (RD n0 ps.size λk M k1 bg=>
   fP o N v assign (EQ M s ps.toList k) iD (RC n0 λw=>fP o N v body (w.ER n0 .busy) an (Wm n0 M k1 bg))):=by
 intro D hD L1 m k M k1 bg Q B a1 W1 R' hB h R hg hk cc hp F hF mm;unfold RD at h;split at h;rename_i hc;simp only[aC,gc,dq] at hc;obtain⟨⟨⟨c1,c3⟩,c4⟩,c5⟩:=hc;subst c1;simp only[S.eX,aC] at c5;have f:D.dK[m]?=U (l,rec):=by
  obtain⟨t,ht⟩:=hD;rw[<-ht,fO ae];exact f
 have bk:th rec .ready=rec:=by rw[aa];rfl
 obtain⟨y1,y2,y3⟩:=R.dm.dK m l rec .ready f c3;rw[bk] at y2;have cl:Q.y.getD m 0=l:=by simp[di,y1]
 rw[cl];have bl:rec.params=ps:=by rw[aa]
 have cn:=run_yield (P:=p.P) (args:=(C.az Q B k).toArray) y2 (by rw[bl];simpa using c4);refine⟨_,_,_,_,cn, ?_⟩;have e1:rec.fn=v:=by rw[aa]
 have e2:rec.assign=assign:=by rw[aa]
 have e3:rec.body=body:=by rw[aa]
 have e4:rec.tmps=a.tmps:=by rw[aa]
 rw[e1,e2,e3,e4,bl];refine ay2 hF bb ?_;obtain⟨ms,m1,m0,m2,m3⟩:=R.dm.mz;have hA:=R.dm.enter m2 m3 J;have co:∀(t:Nat)(z:C),s.tmps[t]?=U z->z=.any\/a.tmps[t]?=U (z.ai Q B):=by
  intro t z ht;rcases b4 t z ht with h1|h1;exact .inl h1;right;have hX:=hB.later.ext;simp only[hE] at hX;rw[<-C.NO (y:=Q.y.take (Y g)) (n:=m) (λq hq=>by simp only[di];rw[List.getElem?_take_of_lt ae]) B z (aeO ca z (jD ht)),hX.ai (xD fh ht)];exact h1
 obtain⟨q1,q2⟩:=aoi (O:=Q) (V:=B) ps.toList k s.tmps a.tmps b3 co;rw[<-azC] at q1 q2;have RS:aA p.S0 p.w0 ⟨ms++D.out,D.dK,J,[]⟩ o.ty B Q (EQ M s ps.toList k) {tmps:=(ps.zip (C.az Q B k).toArray).foldl (λ(cp:mR)(x:Nat×Value)=>match x with|(t,a)=>cp.setIfInBounds t a) a.tmps,defers:=[]} W1:=
  ⟨R.mem,R.gE,R.ei,R.eb,R.er,hA,q1,q2,R.eP⟩
 have a0:∀(a':Act) d pd y,ef p.w0 ⟨ms++D.out,D.dK,J,[]⟩ pd y a'.defers d->a'.defers=[]/\ef p.w0 D pd y a1.defers d:=by
  intro a' d pd y ab;obtain⟨cs,p1,p0,p2,p3⟩:=ab.mz;have:cs=[]:=p0 rfl;subst this;have br:a'.defers=[]:=by simpa using p1
  rw[br] at ab;refine⟨br, ?_⟩;rw[m1];exact ab.NN m0
 refine ih ⟨ms++D.out,D.dK,J,[]⟩ ⟨EQ M s ps.toList k,Q,B,L1⟩ iD (U l) v assign (EQ M s ps.toList k) _ L1 Q B _ W1 _ (Fc _ _) (jK.here _ _ _ _) rfl (λ_=>b5) ⟨ba,bb⟩ h RS hg ?_ ?_;intro ch a' d pd y ab hR;obtain⟨p1,p2⟩:=a0 a' d pd y ab;exact .inr ⟨ch,rfl,p1,hp ch d pd y p2 hR⟩;intro e w O2 V2 a2 W2 L2 ac bs R2 af;cases e with
 |normal=>
  simp only[RC] at af;split at af;rename_i bt;simp only[dq] at bt;left;obtain⟨z1,z2,z3⟩:=R2.dm.dK m l rec .ready f bt;rw[bk] at z2;have ct:({rec with state:=.busy}:Loop)=th rec .busy:=by rw[aa];rfl
  have bx:=run_beginRound (P:=p.P) z2 (by rw[aa]);rw[ct] at bx;refine⟨rfl,_,bx, ?_⟩;have R3:aA p.S0 p.w0 ⟨ms++D.out,D.dK,J,[]⟩ o.ty V2 O2 (w.ER m .busy) a2 (W2.putObj l (.loop (th rec .busy))):=
   R2.obj z2 rfl z3 _ rfl (R2.dm.aeQ f .busy)
  have cu:qF p o D.dK ⟨w.ER m .busy,O2,V2,L2⟩ an:=by
   intro D3 cv L3 n3 cx H k3 cy G V3 a3 W3 R3 b0;refine b7 D3 ((bd.trans hD).trans cv) L3 n3 cx H k3 cy G V3 a3 W3 R3 ?_;have cA:Y W<=Y g:=bd.length_le;have c6:Y g<=Y D.dK:=hD.length_le;have t1:bC s (O.at (O.y.take (Y W))) V M (Q.at (Q.y.take (Y W))) B:=by
    have e:(Q.y.take (Y g)).take (Y W)=Q.y.take (Y W):=by rw[List.take_take,Ms cA]
    have u:bC sE (O.at (O.y.take (Y W))) V M (Q.at ((Q.y.take (Y g)).take (Y W))) B:=hB.later.ae0 (Y W);rw[e] at u;exact⟨by have:=u.ext;rw[hE] at this;exact this,by rw[<-hE];exact u.mono,by rw[<-hE];exact u.len,by rw[<-bf];exact u.ax⟩
   have t2:=(show bC M Q B w O2 V2 from⟨ac.ext,ac.mono,ac.len,ac.ax⟩).ae0 (Y W);have t3:bC w (O2.at (O2.y.take (Y W))) V2 H (G.at (G.y.take (Y W))) V3:=by
    have e:(G.y.take (Y D.dK)).take (Y W)=G.y.take (Y W):=by rw[List.take_take,Ms ae]
    have u:bC (w.ER m .busy) (O2.at (O2.y.take (Y W))) V2 H (G.at ((G.y.take (Y D.dK)).take (Y W))) V3:=b0.later.ae0 (Y W);rw[e] at u;exact⟨u.ext,u.mono,u.len,u.ax⟩
   exact((b8.go t1 (by rw[<-bf];exact hB.Ko)).go t2 bs).go t3 b0.Ko
  refine ih ⟨ms++D.out,D.dK,J,[]⟩ ⟨w.ER m .busy,O2,V2,L2⟩ an (U l) v body (w.ER m .busy) _ L2 O2 V2 a2 _ _ cu (jK.here _ _ _ _) rfl (λ_=>b6) ⟨ba,bb⟩ af R3 (hg.ext ac.ext) ?_ ?_;intro ch a' d pd y ab hR;obtain⟨p1,p2⟩:=a0 a' d pd y ab;exact⟨p1,hp ch d pd y p2 hR⟩
  ·intro e H G V3 a3 W4 L3 a4 cB R4 a9;have cC:m<Y H.pd:=by
    rw[<-R4.dm.len];exact(du.1 f).1
   obtain⟨u1,u2,u3⟩:=R4.dm.dK m l rec H.pd[m] f (dv cC);have A:bC (EQ M s ps.toList k) Q B H G V3:=ac.trans (s':=w) ⟨a4.ext,a4.mono,a4.len,a4.ax⟩;have b1:cU M.ax L1 L3:=cU.trans (m:=w.ax) bs cB ac.ax;have bc:∀(j:JH)(ag:Option Code),(∀al,({th rec al with state:=if ag.isNone then .ready else .done,pending:=ag}:Loop)=th rec j)->
     (k1 (.bool (.c ag.isNone)) {H with tmps:=M.tmps,pd:=H.pd.set m j}).aP p G L3->∃X w',(Instr.endRound l ag).run p.P W4=.ok X w'/\R' (.returned X) w':=by
    intro j ag cD cO;have b2:=run_endRound (P:=p.P) ag u2;rw[cD] at b2;refine⟨_,_,b2, ?_⟩;have R5:=R4.obj u2 rfl u3 (.loop (th rec j)) rfl (R4.dm.aeQ f j);have cW:ef p.w0 D (H.pd.set m j) G.y a1.defers (W4.putObj l (.loop (th rec j))):=(a0 a3 _ _ _ (R4.dm.aeQ f j)).2;have c0:bC (EQ M s ps.toList k) Q B {H with pd:=H.pd.set m j} G V3:=⟨A.ext,A.mono,A.len,A.ax⟩;have RB:=R.back c5.1 c0 rfl R5 (D2:=D) (a2:=a1) rfl cW;have:=hk (.bool (.c ag.isNone)) {H with tmps:=M.tmps,pd:=H.pd.set m j} G V3 _ L3 ⟨A.ext,A.mono,A.len,A.ax⟩ b1 RB cO;simpa[C.ai,BE.ai] using this
   cases e with
   |normal=>exact bc .ready Z (λal=>by cases al<;>rfl) a9
   |ret=>exact bc (.done .ret) (U .ret) (λal=>by cases al<;>rfl) a9
   |exit id=>exact bc (.done (.exit id)) (U (.exit id)) (λal=>by cases al<;>rfl) a9
   |bp X=>
    obtain⟨p1,p2⟩:=a0 a3 _ _ _ R4.dm;have RB:=R.back c5.1 A rfl R4 (D2:=D) (a2:=a1) rfl p2;exact⟨p1,cc X {H with tmps:=M.tmps} G V3 _ L3 ⟨A.ext,A.mono,A.len,A.ax⟩ b1 RB a9⟩
  exact af.elim
 |ret=>exact af.elim|exit id=>exact af.elim|bp X=>exact af.elim
 exact h.elim
def azE(ok:ji p o)(ih:Be p o N){D:bU}{B:jK}{yh:YH}{b5:Func}(b6:p.P.funcs[v]?=U b5){f:Operand}{ps:Array Tmp}{assign body:Code}{k:XE->S->T}{L:dt}{a:Act}{Q:Exit->Act->World->Prop}
  (bc:D.rd=E){g:FuncId}{c:Code}{nt:Nat}(bd:l.ev o.gl f=.fn g t)(bf:o.inl g=U (c,nt,[]))
  (ce:l.eX t=J)(al:l.zp (Y l.pd)=E)(b7:C.qy (Y l.pd) t=E)(b8:kK assign=E)(ca:kK body=E)(af:kz g 1000000=J)
  (h:(fP o N g c (MW l nt t) (RD (Y l.pd) ps.size λcc s1 k1 cl=>fP o N v assign (EQ s1 l ps.toList cc) iD (RC (Y l.pd) λs2=>fP o N v body (s2.ER (Y l.pd) .busy) yh (Wm (Y l.pd) s1 k1 cl))) (J9 l k)).aP p x L)
  (hY:qF p o D.dK B yh)(hB:B.lT l x y L)(R:aA p.S0 p.w0 D o.ty y x l a e)(hg:eD o.gl x)
  (HP:∀ch w j pd X,ef p.w0 D pd X w.defers j->p.R (.panicked ch) j->Q (.panic ch) w j)
  (hk:∀M F A u w j L',bC l x y F A u->cU l.ax L L'->aA p.S0 p.w0 D o.ty u A F w j->(k M F).aP p A L'->Q (M.to A u) w j):
  jU Z v p.P (.rangeFunc f ps assign body) Q a e:=by
 obtain⟨ms,m1,m0,m2,m3⟩:=R.dm.mz;simp only[S.eX,aC] at ce;simp only[S.zp,yT] at al;obtain⟨rec,a3⟩:∃rec:Loop,rec={state:=.ready,pending:=Z,fn:=v,tmps:=a.tmps,params:=ps,assign,body,defers:=e.heap.size}:=⟨_,rfl⟩;obtain⟨W1,an⟩:∃W1,(e.alloc (.deferred (U []))).alloc (.loop rec)=W1:=⟨_,rfl⟩;have dY:W1.heap[e.heap.size+1]?=U (.loop rec):=by
  rw[<-an];have:=VA (e.alloc (.deferred (U []))) (.loop rec);rwa [VG] at this
 have cn:W1.heap[e.heap.size]?=U (.deferred (U [])):=by
  rw[<-an];exact(Below.heap_alloc _ _ _ aw).trans (VA e _)
 have bg:Below e.heap.size e W1:=by
  rw[<-an];exact⟨rfl,rfl,rfl,bS,λk hk=>(Below.heap_alloc _ _ _ bS).trans (Below.heap_alloc _ _ _ hk)⟩
 have R1:=R.below bg;have co:th rec .ready=rec:=by rw[a3];rfl
 have cp:p.w0.heap.size<=e.heap.size:=R.mem.base.size;have bk:∀(N l':Nat)(r':Loop),D.dK[N]?=U (l',r')->l'<e.heap.size:=by
  intro N l' r' hn;have a4:N<Y l.pd:=by rw[<-R.dm.len];exact(du.1 hn).1
  exact EZ (R.dm.dK N l' r' l.pd[N] hn (dv a4)).2.1
 have bl:ef p.w0 ⟨e.heap.size::(ms++D.out),D.dK++[(e.heap.size+1,rec)],E,[]⟩ (l.pd++[.ready]) (x.y++[e.heap.size+1]) [] W1:=
  R1.dm.push m2 (λd hd=>⟨(bg.block d (EZ (m3 d hd).1)).trans (m3 d hd).1,(m3 d hd).2⟩) cn (λhm=>by have:=EZ (m3 _ hm).1;omega) cp (by rw[co];exact dY) (λN l' r' hn M=>by have:=bk N l' r' hn;omega) ae
 have a9:Y x.y=Y l.pd:=R.dm.rY;have a0:∀m,m<Y l.pd->(x.y++[e.heap.size+1]).getD m 0=x.y.getD m 0:=by
  intro m hm;simp only[di];by_cases a4:m<Y x.y;rw[fO a4];rw[jo ae,uk (l:=x.y) ae,uk bS]
 have br:∀(H:Nat)(sv:C),l.tmps[H]?=U sv->sv=.any\/a.tmps[H]?=U (sv.ai (x.at (x.y++[e.heap.size+1])) y):=by
  intro H sv ht;rcases R.tmps H sv ht with q|q;exact .inl q;right;rw[C.NO a0 y sv (aeO al.1 sv (jD ht))];exact q
 have cs:aA p.S0 p.w0 ⟨e.heap.size::(ms++D.out),D.dK++[(e.heap.size+1,rec)],E,[]⟩ o.ty y (x.at (x.y++[e.heap.size+1])) {l with pd:=l.pd++[.ready]} {a with defers:=[]} W1:=
  ⟨R1.mem.at a0 al.2,R1.gE,R1.ei,R1.eb,R1.er,bl,R1.size,br,λk M rv b q h2 h3=>let H:=R1.eP k M rv b q h2 h3;⟨H.own,H.mem,H.box,H.alone,H.inner⟩⟩
 have RE:=cs.enter (.yl (Y l.pd)::t) nt bl;have ct:C.az (x.at (x.y++[e.heap.size+1])) y (.yl (Y l.pd)::t)=.func (.yield (e.heap.size+1)) #[] #[]::C.az x y t:=by
  simp only[C.az,C.ai];rw[C.NP a0 y t b7];congr 3;simp only[aj.at];rw[<-a9];simp
 have cu:a.eval f=.func (.func g) #[] (C.az x y t).toArray:=by
  have:=de R hg f (by rw[bd];rfl);rw[bd,C.ai,adk af] at this;exact this
 have eg:=ok.zy g (.inr (by rw[bf];rfl));obtain⟨ag,hf,cv,cx,bZ⟩:=ok.inl g c nt [] bf;refine ay0 ⟨e.heap.size+1,[mY e.heap.size],W1,{target:=.fn (.func g) (C.az x y t).toArray,args:= #[.func (.yield (e.heap.size+1)) #[] #[]]},W1,g,
  #[.func (.yield (e.heap.size+1)) #[] #[]]++(C.az x y t).toArray,W1, ?_, ?_, ?_, ?_⟩
 rw[<-an,a3];exact run_enterLoop_outer _ _ _ _ _
 ·simp only[resolve,cu];simp[go_sem]
 ·simp[invoke,go_sem,eg]
 have cy:(#[.func (.yield (e.heap.size+1)) #[] #[]]++(C.az x y t).toArray:mR)=(C.az (x.at (x.y++[e.heap.size+1])) y (.yl (Y l.pd)::t)).toArray:=by
  rw[ct];simp
 rw[cy];refine Ku hf cv ?_;rw[cx];have bs:([mY e.heap.size]++a.defers:CJ)=(e.heap.size::ms).map mY++D.base:=by rw[m1];rfl
 have cA:B.lT l ((x.at (x.y++[e.heap.size+1])).at ((x.at (x.y++[e.heap.size+1])).y.take (Y D.dK))) y L:=by
  have M:(x.at (x.y++[e.heap.size+1])).y.take (Y D.dK)=x.y:=by rw[R.dm.len,<-a9];simp[aj.at]
  rw[M];exact hB
 have bt:(D.dK++[(e.heap.size+1,rec)])[Y l.pd]?=U (e.heap.size+1,rec):=by rw[<-R.dm.len];simp
 refine ih ⟨e.heap.size::(ms++D.out),D.dK++[(e.heap.size+1,rec)],E,[]⟩ ⟨MW l nt t,x.at (x.y++[e.heap.size+1]),y,L⟩ _ Z g c (MW l nt t) (J9 l k) L _ y _ W1 _
  (azD ok ih b6 (a:=a) (s:=l) (sE:=MW l nt t) (L:=L) (ps:=ps) (O:=x.at (x.y++[e.heap.size+1])) (V:=y) rfl (R.zv ce.1).1 R.size br b8 ca (by rw[a3]) bt hY (List.prefix_append _ _) cA rfl al.1 (by simp[R.dm.len])) (jK.here _ _ _ _) rfl (λhh=>by cases hh) ⟨ag,hf⟩ (tB p _ x L _ h) RE hg ?_ ?_
 intro ch w j pd X hA hR;obtain⟨cB,q1,q0,q2,q3⟩:=hA.mz;rw[q1] at hA;have ac:=(hA.rp).pop bc;show LeavesInM Fence.wide 0 p.P ag w.tmps _ w.defers (.panicking ch) j;rw[q1];refine sd aw (xk.1 q2).1 (λd hd=>(q3 d (by simp[hd])).1) ?_;exact HP ch _ _ _ _ (by rw[<-bs] at ac;exact ac) (SL (ok.Xd ch) (λd hd=>(q3 d (by simp[hd])).2) hR);intro M F A u w j L' hl hL RR z;obtain⟨cB,q1,q0,q2,q3⟩:=RR.dm.mz;have R2:=RR.rp q1;have ac:=R2.dm.pop bc;have bx:A.y=x.y++[e.heap.size+1]:=hl.ext.agree.y;have cC:A.y.take (Y D.dK)=x.y:=by rw[bx,R.dm.len,<-a9];simp
 rw[cC,<-bs,R.dm.len] at ac;have b0:∀m,m<Y l.pd->x.y.getD m 0=A.y.getD m 0:=λm hm=>by rw[bx];exact(a0 m hm).symm
 have af:bC l x y (l.vO F) (A.at x.y) u:=⟨⟨⟨hl.ext.agree.i,hl.ext.agree.b,hl.ext.agree.r,rfl⟩,hl.ext.li,hl.ext.lb,hl.ext.lr,hl.ext.ad⟩,λi hi=>aoh _ _ _ i (ay6 hi) (hl.mono i hi),by show Y l.au<=(oH _ _ _).length;rw[SI];exact hl.len,hl.ax⟩;have b1:∀(W3:World),jJ p.S0 p.w0 u A F.au o.ty F.rs W3->(∀(k:Nat)(M:TypeId)(rv:RV)(b:Nat),F.rs[k]?=U (.own M)->A.r[k]?=U rv->rv.lx=U b->AY p.S0 p.w0 u A F.au o.ty F.rs W3 k M rv b)->zq (Y l.pd) (l.vO F).au=E->
   ef p.w0 D (F.pd.take (Y l.pd)) x.y ([mY e.heap.size]++a.defers) W3->aA p.S0 p.w0 D o.ty u (A.at x.y) (l.vO F) {a with defers:=[mY e.heap.size]++a.defers} W3:=by
  intro W3 hm ht hb cD;refine⟨(hm.ay7 (Y l.pd) (Y l.au)).at b0 hb,by show Y u=(oH _ _ _).length;rw[SI];exact R2.gE,R2.ei,R2.eb,R2.er,cD,R.size,λH sv h=> ?_,λk M rv b q h2 h3=>let H:=ht k M rv b q h2 h3;⟨H.own,H.mem,λi hi=>H.box i (SK hi),H.alone,H.inner⟩⟩;rcases R.tmps H sv h with q|q;exact .inl q;right;rw[af.ext.ai (xD (R.zv ce.1).1 h)];exact q
 have b2:Y l.pd<Y F.pd:=by
  have:=R2.dm.len;simp only[fT,n9,Ck] at this;rw[R.dm.len] at this;omega
 obtain⟨u1,u2,u3⟩:=R2.dm.dK (Y l.pd) (e.heap.size+1) rec F.pd[Y l.pd] bt (dv b2);have ba:∀(st:JH)(M:XE)(a1:Option Code),F.pd[Y l.pd]?=U st->(th rec st).state≠ .busy->(th rec st).pending=a1->zq (Y l.pd) (l.vO F).au=E->(k M (l.vO F)).aP p A L'->
   (∀W4,Q (M.to (A.at x.y) u) {a with defers:=[mY e.heap.size]++a.defers} W4->(match a1 with|none=>Q .normal {a with defers:=[mY e.heap.size]++a.defers} W4|U c=>jU Z v p.P c Q {a with defers:=[mY e.heap.size]++a.defers} W4))->
   LeavesInM Fence.wide 0 p.P ag w.tmps (aeN Z v p.P (e.heap.size+1) Q {a with defers:=[mY e.heap.size]++a.defers}) w.defers .returning j:=by
  intro st M a1 aa cO hj ab cW hq;rw[q1];refine sd aw (xk.1 q2).1 (λd hd=>(q3 d (by simp[hd])).1) ⟨_,Kq R2 ok.kM (l:=[]) (by rw[bZ];rfl), ?_⟩;have c0:F.pd[Y l.pd]=st:=by
   rw[dv b2] at aa;simpa using aa
  rw[c0] at u2;have b3:=run_endLoop (P:=p.P) u2 cO;rw[hj] at b3;refine⟨a1,_,b3,hq _ ?_⟩;have c1:∀(N l':Nat)(r':Loop),D.dK[N]?=U (l',r')->l'≠e.heap.size+1:=λN l' r' hn M=>by have:=bk N l' r' hn;omega
  refine hk M (l.vO F) (A.at x.y) u _ _ L' af hL (b1 _ (R2.mem.obj u2 rfl u3 _) (λk M rv b q h2 h3=>(R2.eP k M rv b q h2 h3).obj u2 rfl _) ab (ac.put u2 c1 _)) (tB p _ A L' _ cW)
 have b4:(J9 l k .ret F).aP p A L'->LeavesInM Fence.wide 0 p.P ag w.tmps (aeN Z v p.P (e.heap.size+1) Q {a with defers:=[mY e.heap.size]++a.defers}) w.defers .returning j:=by
  intro z;simp only[J9] at z;split at z;exact z.elim;rename_i ab;have bb:zq (Y l.pd) (l.vO F).au=false:=by simpa using ab
  split at z;rename_i aa;exact ba .ready .normal Z aa (by simp[th]) rfl bb z (λ_ h=>h)
  ·rename_i aa;exact ba (.done .ret) .ret (U .ret) aa (by simp[th]) rfl bb z (λ_ h=>vV (n:=0) (wpIn_ret h))
  ·rename_i id aa;exact ba (.done (.exit id)) (.exit id) (U (.exit id)) aa (by simp[th]) rfl bb z (λ_ h=>vV (n:=0) (wpIn_exit h))
  exact z.elim
 cases M with
 |normal=>exact b4 z|ret=>exact b4 z|exit id=>exact z.elim
 |bp G=>
  simp only[J9] at z;split at z;exact z.elim;rename_i ab;simp only[lq,not_or,ak7] at ab;show LeavesInM Fence.wide 0 p.P ag w.tmps _ w.defers (.panicking _) j;rw[q1];refine sd aw (xk.1 q2).1 (λd hd=>(q3 d (by simp[hd])).1) ?_;have:=hk (.bp G) (l.vO F) (A.at x.y) u _ _ L' af hL (b1 _ R2.mem R2.eP ab.2 ac) (tB p _ A L' _ z);simp only[XE.to] at this;rw[C.NO b0 u G ab.1] at this;exact this
end
section
variable{d:bv}{p:Sp}{L:dt}{V:ar}{W:World}
def Up(O X:aj):Prop:=∃l,X={O with r:=O.r++l}
def Up.refl(O:aj):Up O O:=⟨[],aw⟩
def Up.trans{X R:aj}(h:Up x X)(k:Up X R):Up x R:=by
 obtain⟨l,rfl⟩:=h;obtain⟨m,rfl⟩:=k;exact⟨l++m,aw⟩
def Up.agree{R:aj}(h:Up x R):jg x R (Y x.i) (Y x.b) (Y x.r):=by
 obtain⟨l,rfl⟩:=h;have:∀(l:aE)(x:aj),x.ext (l.map XV.r)={x with r:=x.r++l}:=by
  intro l;induction l with|nil=>intro x;simp[aj.ext]|cons X P Q=>intro x;simp only[dH,aj.ext,Q,aj.add];simp
 rw[<-this l x];exact EU _ _
def sR(O:aj)(X:bo)(R:vz):S:=⟨[],[],Y O.i,Y O.b,X,0,0,R⟩
def SS(X:bo):Prop:=∀(k:Nat)(e:TypeId),X[k]?≠U (RK.own e)
def aoS(p:Sp)(d:bv)(D:bU)(a:Act)(W:World)(L:dt)(V:ar)(G:bm)(N:vz)(X:aj)(v:C)(f:bo->(C->bo->T)->T):Prop:=
 ∀(Q:bo)(O:aj)(k:C->bo->T),aA p.S0 p.w0 D d.ty [] O (sR O Q N) a W->Up X O->SS Q->v.bd (Y X.i) (Y X.b) (Y X.r) (aL G)=J->(f Q k).aP p O L->
  ∃M P R,aA p.S0 p.w0 D d.ty [] R (sR R P N) a W/\Up O R/\SS P/\(∀H,Up R H->M.ai H []=v.ai X V)/\(k M P).aP p R L
def Xx{D:bU}{a:Act}{A:bm}{M:vz}{Q:aj}{f:C->bo->(C->bo->T)->T}(z:∀v,aoS p d D a W L V A M Q v (f v)):∀(l:aq)(X:bo)(O:aj)(k:aq->bo->T),aA p.S0 p.w0 D d.ty [] O (sR O X M) a W->Up Q O->SS X->C.dQ (Y Q.i) (Y Q.b) (Y Q.r) (aL A) l=J->(MY f l X k).aP p O L->
  ∃y H P,aA p.S0 p.w0 D d.ty [] P (sR P H M) a W/\Up O P/\SS H/\(∀N,Up P N->C.az N [] y=C.az Q V l)/\(k y H).aP p P L
 |[],X,O,k,R,G,F,_,h=>⟨[],X,O,R,Up.refl O,F,λ_ _=>rfl,h⟩
 |x::s,X,O,k,R,G,F,B,h=>by
  rw[C.i8.2,aC] at B;simp only[MY] at h;obtain⟨q,o,n,m,w,j,g,e⟩:=z x X O _ R G F B.1 h;obtain⟨c,aa,O2,R2,u,n2,d2,h2⟩:=Xx z s o n _ m (G.trans w) j B.2 e;exact⟨q::c,aa,O2,R2,w.trans u,n2,λN t=>by simp only[C.az,g N (u.trans t),d2 N t],h2⟩
def ae1(an:p.ty=d.ty){D:bU}{a:Act}{bx:bm}{pd:vz}{O0:aj}(ha:a.tmps= #[])(a1:∀i e G,mU bx i=U (e,G)->W.heap[ad V i]?=U (.cells (C.az O0 V G).toArray e (0,0))/\(p.w0.heap.size<=ad V i\/ad V i∈rg p.w0.heap.size p.S0)/\C.dQ (Y O0.i) (Y O0.b) (Y O0.r) (aL bx) G=J):
  ∀(n:Nat)(v:C),aoS p d D a W L V bx pd O0 v (MZ d bx n v)
 |0,v=>λx O k R w o N h=>h.elim
 |n+1,v=>by
  intro x O k R w o N h;cases v with
  |int q e=>
   refine⟨_,x,O,R,Up.refl O,o,λf M=> ?_,h⟩;rw[C.bj.1] at N;simp only[C.ai,K.eh (w.trans M).agree e N]
  |bool e=>
   refine⟨_,x,O,R,Up.refl O,o,λf M=> ?_,h⟩;rw[C.bj.2.1] at N;simp only[C.ai,BE.eh (w.trans M).agree e N]
  |ak r=>
   refine⟨_,x,O,R,Up.refl O,o,λf M=> ?_,h⟩;rw[C.bj.2.2.1] at N;simp only[C.ai,RE.eh (w.trans M).agree r N]
  |agg l=>
   rw[C.bj.2.2.2.2.2.2.1] at N;simp only[MZ] at h;obtain⟨l',bb,O',R',u',n',d',h'⟩:=Xx (ae1 an ha a1 n) l x O _ R w o N h;exact⟨.agg l',bb,O',R',u',n',λf M=>by simp only[C.ai,d' f M],h'⟩
  |iP i br aa ab=>
   simp only[MZ] at h;split at h;rename_i e G bc;obtain⟨g1,g2,g3⟩:=a1 i e G bc;split at h;rename_i te bd;obtain⟨ac,Q,H,B,u1,n1,d1,h1⟩:=Xx (ae1 an ha a1 n) G x O _ R w o g3 h;split at h1;rename_i hc;simp only[aC,gc,dq,bne_iff_ne,ne_eq] at hc;obtain⟨⟨⟨⟨c1,c2⟩,c3⟩,c4⟩,c5⟩:=hc;subst c3;have hw:bJ d.ty (.sl e)=te.am:=by simp[bJ,bd]
   have a3:oG d.ty (sR H Q pd) (bJ d.ty (.sl e)) (j8 (Y te.am) aa ac)=true:=by
    rw[hw,<-c1];exact Ht (s:=sR H Q pd) (s':=S.dV Q) rfl
   have a4:=adU B a3;obtain⟨P,A⟩:∃P,P=(j8 (Y te.am) aa ac).map λag=>ag.map (C.cj H):=⟨_,rfl⟩
   rw[<-A] at a4;have hN:Y P=aa:=by rw[A];simp[WJ]
   have bf:C.az H [] ac=C.az O0 V G:=d1 H (Up.refl _);have hH:bG W d.ty (.sl e) (.mk (.slice (U ⟨ad V i,0,Z⟩) (Y P) ab) P):=by
    refine adM a4 ⟨_,_,_,g1⟩ (λq u hq=> ?_) (by rw[hN];exact c4);rw[A] at hq;have a9:=adV (V:=[]) (by rw[hw]) a3 (λi ag m=>by rw[<-A] at m;rw[a4.len i ag m,hw]) hq;rw[bf] at a9;simp[oF,g1,a9]
   have bg:Kc p.ty p.S0 p.w0 e (.lit (j8 (Y te.am) aa ac)) Q H (.mk (.slice (U ⟨ad V i,0,Z⟩) (Y P) ab) P):=by
    refine⟨⟨U ⟨ad V i,0,Z⟩,Y P,ab,by rw[A];rfl,by rw[A];rfl⟩,λb hl=> ?_,λ_ _ _ _ h=>by cases h⟩;rw[an] at hl⊢;generalize ba:RV.mk (.slice (U ⟨ad V i,0,Z⟩) (Y P) ab) P=rv at hl;cases hl with
    |here e a0 bs bt bk=>
     injection ba with p1 p2;injection p1 with p3 p4 p5;cases p3;exact g2.imp id .inl
    |deep e v bk i j ag c z k b g q2 q3 q4=>
     injection ba with p1 p2;subst p2;rw[A,ep] at g;cases m:(j8 (Y te.am) aa ac)[i]? with
     |none=>rw[m] at g;cases g
     |some bl=>
      rw[m] at g;simp only[ga,dX] at g;subst g;obtain⟨r,X,F,k3,k4⟩:=adP (Hh a3 i bl m) q2 q3 q4;exact .inr (.inr (Kh B k3 F k4).1)
   have hs:=h1 _ bg;refine⟨.ak (.v (Y Q)),Q++[.sl e],H.add (.r (.mk (.slice (U ⟨ad V i,0,Z⟩) (Y P) ab) P)), ?_,u1.trans ⟨[_],rfl⟩, ?_, ?_,hs⟩;have al:Y H.r=Y Q:=B.er;refine⟨⟨B.mem.base,λi y=>by simp[sR,aL,bT] at y,λi j y=>by simp[sR,aL,bT] at y,λi t G y=>by simp[sR,bT] at y,λk e' rv X F=> ?_⟩,rfl,rfl,rfl,by simp[sR,aj.add,al],B.dm,by rw[ha];rfl,λt sv ht=>by simp[sR] at ht,λk e' rv b X=> ?_⟩;refine⟨?_,λb N i y=>by simp[sR,aL,bT] at y⟩;simp only[sR,aj.add] at X F;by_cases hk:k<Y Q;rw[fO hk] at X;rw[fO ae] at F;exact(B.mem.ak k e' rv X F).1;have af:k=Y Q:=by
    have:=(du.1 X).1;simp at this;omega
   subst af;simp at X;rw[<-al] at F;simp at F;subst X F;exact hH;exfalso;simp only[sR] at X;by_cases hk:k<Y Q;rw[fO hk] at X;exact n1 _ _ X;have:=(du.1 X).1;have af:k=Y Q:=by simp at this;omega
   subst af;simp at X;intro k e' X;by_cases hk:k<Y Q;rw[fO hk] at X;exact n1 _ _ X;have:=(du.1 X).1;have af:k=Y Q:=by simp at this;omega
   subst af;simp at X;intro f M;obtain⟨l,rfl⟩:=M;have al:Y H.r=Y Q:=B.er;simp only[C.ai,RE.ai,RE.rv,aj.rv,aj.add,di,Ci];rw[<-al,jo (cd _)];simp[hN];exact h1.elim;exact h.elim;exact h.elim
  |loc _ _=>exact h.elim|el _ _ _ _=>exact h.elim|bI _=>exact h.elim|fn _ _=>exact h.elim|gI _ _=>exact h.elim|yl _=>exact h.elim|any=>exact h.elim|mp _=>exact h.elim|gq _ _ _=>exact h.elim
end
def ae2(Q:Exit->Act->World->Prop)(X:Act->World->Prop):Exit->Act->World->Prop
 |.normal,a,w=>X a w|e,a,w=>Q e a w
section
variable{F:Fence}{n:Nat}{P:Program}{c init:dG}{Q:Exit->Act->World->Prop}
def azF{o:Oper}(H:init[N]?=U o)(G:c[N]?=U o)(D:∀j b,o.guard=U (j,b)->init[j]?=c[j]?){X W L:Act->World->Prop}(O:∀a e,W a e->L a e){a:Act}
  (h:wpOpIn F n P init (ae2 Q X) N W a e):wpOpIn F n P c Q N L a e:=by
 unfold wpOpIn at*;rw[H] at h;rw[G];simp only at*;have B:lM o (yielded c a.tmps)=lM o (yielded init a.tmps):=by
  unfold lM;cases A:o.guard with|none=>rfl|some z=>obtain⟨j,b⟩:=z;simp only[yielded,D j b A]
 rw[B];split;rename_i M;simp only[M,dP] at h;unfold Oper.wpIn at*;refine⟨h.1, ?_⟩;have h:=h.2;generalize(o.semAt F.round a.eval).run P e=r at*;cases r with
 |ok x y=>
  cases x<;>simp only[awB] at h⊢<;>
   first
    |exact O _ _ h
    |exact⟨h.1,CallsIn.mono h.2 (λV v R=>by cases V<;>first|exact O _ _ R|exact R)⟩
    |exact⟨h.1,h.2.mono (λ_ _ R=>O _ _ R)⟩|exact⟨h.1,RoundIn.mono h.2 (λV v R=>by cases V<;>first|exact O _ _ R|exact R)⟩
 |halt x y=>cases x<;>simp only[awB] at h⊢<;>exact h
 rename_i M;simp only[M] at h;exact⟨h.1,O _ _ h.2⟩
def azG(hi:init.size=N)(g:∀i,i<N->init[i]?=c[i]?)(t:c.size=N+1)(d:∀(i:Nat)(o:Oper),c[i]?=U o->∀e∈ju o,e<i)(bd:∀(i:Nat)(o:Oper),c[i]?=U o->∀j b,o.guard=U (j,b)->j<N)
  (bf:∀j,j<N->∃(i:Nat)(o:Oper),j<i/\c[i]?=U o/\j∈ju o):∀(A:Nat)(listed X:Array Bool)(a:Act)(w:World),listed.size=N->X.size=N+1->(∀i,i<N->X[i]?=listed[i]?)->X[N]?=U E->
   (∀(j:Nat)(o:Oper),c[j]?=U o->X.getD j E=J->∀e∈ju o,X.getD e E=J)->
   wpAnyIn F n P .any init (ae2 Q (wpOpIn F n P c Q N (Q .normal))) A listed a w->wpAnyIn F n P .any c Q (A+1) X a w:=by
 have H:∀(l:Array Bool)(i:Nat)(b:Bool),l.getD i b=(l[i]?).getD b:=λl i b=>by simp[ach]
 have a1:∀(listed X:Array Bool)(i:Nat),i<N->(∀i,i<N->X[i]?=listed[i]?)->(i∈ul .any c X<->i∈ul .any init listed):=by
  intro listed X i L R;rw[mem_ready,mem_ready,g i L,H X,H listed,R i L];refine and_congr_right λ_=> ?_
  constructor;rintro⟨o,V,h⟩;refine⟨o,V,λe M G=> ?_⟩;have:=h e M G;have aa:e.on<N:=by have:=d i o V e.on (SE M G);omega
  rw[H,R _ aa] at this;rw[H];exact this;rintro⟨o,V,h⟩;refine⟨o,V,λe M G=> ?_⟩;have:=h e M G;have aa:e.on<N:=by have:=d i o V e.on (SE M G);omega
  rw[H] at this;rw[H,R _ aa];exact this
 have a3:∀(X:Array Bool),X.size=N+1->X[N]?=U E->∃i,i∈ul .any c X:=by
  intro X z v;have ab:∀i,i<N+1->X[i]?=U E->∃j,j∈ul .any c X:=by
   intro i;induction i using QZ with
   |_ i u=>
    intro bt hf;have V:c[i]?=U (c[i]' ae):=Mn ae;by_cases B:∀e∈ju (c[i]' ae),X.getD e E=J;exact⟨i,mem_ready.2 ⟨by rw[H,hf];rfl,_,V,λe M G=>B _ (SE M G)⟩⟩;obtain⟨e,M,a4⟩:=Classical.not_forall.1 B|>.imp λe h=>Classical.not_imp.1 h
    have bg:=d i _ V e M;refine u e bg ae ?_;rw[Mn ae];rw[H,Mn ae] at a4;simpa using a4
  exact ab N ae v
 have ac:∀(X:Array Bool),(∀(j:Nat)(o:Oper),c[j]?=U o->X.getD j E=J->∀e∈ju o,X.getD e E=J)->N∈ul .any c X->∀j,j<N->X.getD j E=true:=by
  intro X x R;obtain⟨-,o,V,B⟩:=mem_ready.1 R;have ab:∀k j,j<N->N<=j+k->X.getD j E=true:=by
   intro k;induction k with
   |zero=>intro j W O;omega
   |succ k u=>
    intro j W O;obtain⟨i,oi,a9,s,ba⟩:=bf j W;have af:i<N+1:=by rw[<-t];exact(lL.1 s).1
    by_cases L:i=N;subst L;rw[V] at s;cases s;obtain⟨e,M,G,rfl⟩:=Xk ba;exact B e M G;exact x i oi s (u i ae ae) j ba
  intro j hj;exact ab N j hj ae
 have bb:∀(X:Array Bool),X.size=N+1->(∀j,j<N->X.getD j E=J)->∀(A:Nat)(a:Act)(w:World),Q .normal a w->wpAnyIn F n P .any c Q A (X.setIfInBounds N J) a w:=by
  intro X z B A a w y;have q:ul .any c (X.setIfInBounds N J)=[]:=by
   cases R:ul .any c (X.setIfInBounds N J) with
   |nil=>rfl
   |cons i r=>
    exfalso;obtain⟨W,o,V,-⟩:=mem_ready.1 (show i∈ul .any c (X.setIfInBounds N J) by rw[R];simp);have af:i<N+1:=by rw[<-t];exact(lL.1 V).1
    rw[Fb _ _ _ _ ae] at W;split at W;cases W;have O:=B i ae;rw[H] at W O;rw[Mn ae] at W O;simp at W O;rw[W] at O;cases O
  cases A with|zero=>exact⟨q,y⟩|succ f=>exact⟨λ_=>y,λi D=>by rw[q] at D;cases D⟩
 have bk:∀(listed X:Array Bool),(∀i,i<N->X[i]?=listed[i]?)->listed.size=N->(∀j,j<N->X.getD j E=J)->ul .any init listed=[]:=by
  intro listed X R m B;cases y:ul .any init listed with
  |nil=>rfl
  |cons i r=>
   exfalso;obtain⟨W,o,V,-⟩:=mem_ready.1 (show i∈ul .any init listed by rw[y];simp);have L:i<N:=by rw[<-hi];exact(lL.1 V).1
   have O:=B i L;rw[H,R i L] at O;rw[H] at W;rw[Mn ae] at W O;simp at W O;rw[W] at O;cases O
 intro A;induction A with
 |zero=>
  intro listed X a w m z R v x h;obtain⟨q,y⟩:=h;refine⟨λh0=> ?_,λi D=> ?_⟩;obtain⟨i,W⟩:=a3 X z v;rw[h0] at W;cases W;have af:i<N+1:=by obtain⟨-,o,V,-⟩:=mem_ready.1 D;rw[<-t];exact(lL.1 V).1
  by_cases L:i=N;subst L;exact wpOpIn_mono (λa w ag=>bb X z (ac X x D) _ a w ag) y;have:=(a1 listed X i ae R).1 D;rw[q] at this;cases this
 |succ A u=>
  intro listed X a w m z R v x h;obtain⟨h0,W⟩:=h;refine⟨λbl=> ?_,λi D=> ?_⟩;obtain⟨i,W⟩:=a3 X z v;rw[bl] at W;cases W;obtain⟨-,o,V,B⟩:=mem_ready.1 D;have af:i<N+1:=by rw[<-t];exact(lL.1 V).1
  by_cases L:i=N;subst L;have y:=h0 (bk listed X R m (ac X x D));exact wpOpIn_mono (λa w ag=>bb X z (ac X x D) _ a w ag) y;have bc:i<N:=ae;have O:=W i ((a1 listed X i bc R).1 D);refine azF (by rw[g i bc];exact V) V (λj b br=>g j (bd i o V j b br)) (λa w hk=> ?_) O;refine u (listed.setIfInBounds i J) (X.setIfInBounds i J) a w (by simpa using m) (by simpa using z) (λj hj=> ?_) ?_ (λj oj al an e M=> ?_) hk;rw[QS,QS,R j hj];by_cases a0:i=j;subst a0;rw[aH rfl,aH rfl,aH ae,aH ae];rw[aJ a0,aJ a0];rw[QS,aJ L];exact v;rw[Fb _ _ _ _ ae] at an⊢;split;rfl;split at an;rename_i a9;subst a9;rw[V] at al;cases al;obtain⟨ed,bs,G,rfl⟩:=Xk M;exact B ed bs G;exact x j oj al an e M
end
def azH{b:Bool}{c:dG}{o:Oper}(h:Rx b c=U o):∃N,c.size=N+1/\c[N]?=U o/\(∀(i:Nat)(o:Oper),c[i]?=U o->∀e∈ju o,e<i)/\
  (∀(i:Nat)(o:Oper),c[i]?=U o->∀j b,o.guard=U (j,b)->j<N)/\(∀j,j<N->∃(i:Nat)(o:Oper),j<i/\c[i]?=U o/\j∈ju o):=by
 unfold Rx at h;split at h;rename_i X;simp only[aC,alw,dq,gC,rO,nF] at X
 grind
 cases h
section
variable{p:Sp}{d:bv}
def azI{F:Fence}(hF:qE F)(q:ji p d){pc:vL}(a0:NK p d pc){D:bU}{B:jK}{yh:YH}(hY:qF p d D.dK B yh){Q:Exit->Act->World->Prop}(HP:∀ch z A pd X,ef p.w0 D pd X z.defers A->p.R (.panicked ch) A->Q (.panic ch) z A)
  {hc:qn}(hH:Sn p d D B hc){c:dG}{id:Nat}{b:Bool}{o:Oper}{om:cQ}{a:Act}{L:dt}{k:XE->S->T}(hB:B.lT l x y L)(a1:Rx b c=U o)
  (a3:EK c.pop (Y l.au)=U om)(a4:CG d c.pop.toList=J)(a9:C0 c.pop pc)
  (h:(lN d (uz d pc yh) c.pop (λG=>lN d hc c (k .normal) (λv=>k (.bp v)) (fU (λ_=>E) J E (c.size-1) (Y G.au) [o]) G []) (λv=>k (.bp v)) om (l.vM c.pop om) []).aP p x L)(R:aA p.S0 p.w0 D d.ty y x l a e)(hg:eD d.gl x)
  (hk:∀G w u z A t,bC l x y G w u->cU l.ax L t->aA p.S0 p.w0 D d.ty u w G z A->(k .normal G).aP p w t->Q .normal z A)
  (ag:∀v G w u z A t,bC l x y G w u->cU l.ax L t->aA p.S0 p.w0 D d.ty u w G z A->(k (.bp v) G).aP p w t->Q (.panic [{v:=v.ai w u,recovered:=E}]) z A):
  (Code.region id c J).wpIn F N p.P Q a e:=by
 obtain⟨M,aa,ba,bb,bc,bd⟩:=azH a1;have hN:c.size-1=M:=ae;have al:c.pop.size=M:=by simp[aa]
 refine wpIn_region_any q.Xc ?_;rw[aa];refine azG (init:=c.pop) al (λi g=>by rw[Array.getElem?_pop,aH ae]) aa bb bc bd M (Q0 M E) (Q0 (M+1) E) a _ aw aw (λi g=>by simp[g,Nat.lt_succ_of_lt g]) aw (λj oj _ hj=>by
  exfalso;rw[ach,aIY] at hj;split at hj<;>simp at hj) ?_
 have an:=aot (n:=N) (Q:=ae2 Q (wpOpIn F N p.P c Q M (Q .normal))) (k:=Ry (λG=>lN d hc c (k .normal) (λv=>k (.bp v)) (fU (λ_=>E) J E (c.size-1) (Y G.au) [o]) G []) k) hF q a0 hY (λch z A pd X h1 h2=>HP ch z A pd X h1 h2) hB a3 a4 a9 h R hg
  (λG w u z A t r f R' hs=>by
   show wpOpIn F N p.P c Q M (Q .normal) z A;have k1:=A9 (ops:=c) q.pt q.zj hF q.kM hH HP (n:=N) (k:=k .normal) (kp:=λv=>k (.bp v)) (fU (λ_=>E) J E (c.size-1) (Y G.au) [o]) M G [] t w u z A
    (λi m' g=>by
     have hm:=Kw _ _ _ _ _ _ _ _ g;cases i with|zero=>simp at hm;rw[yX,ba,hm]|succ i=>simp at hm) (hB.go r f) hs (λH hx=>by cases hx) R' (hg.ext r.ext)
    (λs2 O2 V2 a2 W2 L2 ab ac R2 af=>hk s2 O2 V2 a2 W2 L2 (r.trans ab) (cU.trans (m:=G.ax) f ac r.ax) R2 af)
    (λv s2 O2 V2 a2 W2 L2 ab ac R2 af=>ag v s2 O2 V2 a2 W2 L2 (r.trans ab) (cU.trans (m:=G.ax) f ac r.ax) R2 af)
   rw[SM] at k1;simp only[Vy,List.range'_one,wpOpsIn_cons] at k1;exact k1)
  (λv G w u z A t r f R' hs=>ag v G w u z A t r f R' hs)
 rw[al] at an;exact an
end
section
variable{cf:bv}
section
variable{q:ar}{r:World}{D:bU}{V:ar}{O:aj}{s:S}{a:Act}{W:World}
theorem ae3{k:Int}:∀{R:bA}{Q:aq}{v:C},Ka k R Q=U v->v.gf O V=.mk (lw k R (C.az O V Q)) []
 |[],_,v,h=>by simp[Ka] at h|F::R,[],v,h=>by simp[Ka] at h
 |F::R,u::Q,v,h=>by
  unfold Ka at h;split at h;rename_i P N;injection P with M L;injection N with H G;subst M L H G;simp only[C.az,lw];split at h;rename_i X;cases h;rw[aH X,C.ai,aH (Wr _ _)];rfl;rename_i X;rw[aJ X];exact ae3 h;rename_i P N;injection P with M L;injection N with H G;subst M L H G;simp only[C.az,lw];split at h;rename_i X;cases h;rw[aH X];rfl;rename_i X;rw[aJ X];exact ae3 h;cases h
def aoT{x:Int}:∀{X:bA}{R:fz},¬x∈X->lw x X R=.nilFunc
 |[],_,_=>rfl|k::X,[],_=>rfl
 |k::X,v::R,h=>by
  simp at h;simp only[lw,aJ h.1];exact aoT h.2
def ae4{e:K}{k:Int}(X:e.ai O=k):∀(n:Nat)(b:BE),(RF e k n b).ai O=b.ai O
 |0,b=>rfl
 |n+1,b=>by
  unfold RF;split;rfl;rename_i P N M x y R;cases R;split;rename_i Q;have:=K.bX _ _ Q;subst this;simp only[BE.ai,K.ai,fp,X,gc];split;exact ae4 X n x;exact ae4 X n y;rfl;rfl
def ae5{e:K}{k:Int}(X:e.ai O=k):∀(n:Nat)(b:K),(RG e k n b).ai O=b.ai O
 |0,b=>rfl
 |n+1,b=>by
  unfold RG;split;rfl;rename_i P N M x y R;cases R;split;rename_i Q;have:=K.bX _ _ Q;subst this;simp only[BE.ai,K.ai,fp,X,gc];split;exact ae5 X n x;exact ae5 X n y;rfl;rfl
def azJ{e:K}{k:Int}(X:e.ai O=k)(v:C):(adb e k v).gf O V=v.gf O V:=by
 cases v<;>simp only[adb];simp only[C.gf,C.ai,ae5 X];simp only[C.gf,C.ai,ae4 X];rename_i Q P N;split;rename_i R;have:=K.bX _ _ R
 grind [ae3,C.gf,C.ai]
 rfl
def azK{e:K}{R:bA}(Q:¬e.ai O∈R)(v:C):(Wo e R v).gf O V=v.gf O V:=by
 cases v<;>simp only[Wo];rename_i L P H;split;rename_i X;rw[aC] at X;have:=K.bX _ _ X.1;subst this;have N:¬e.ai O∈P:=λM=>Q (by
  have:=gC.1 X.2 _ M;exact Jw.1 this)
 simp only[C.gf,C.ai,aoT N];rfl;rfl
def azL{e:K}{v:Int}(h:e.ai O=v):∀y:C,(adc e v y).gf O V=y.gf O V:=λy=>by
 unfold adc;split;rename_i k x;split;rename_i X;have X:=K.bX _ _ X;subst X;simp only[C.gf,C.ai,K.ai,h];rfl;rfl
def ae6{f:C->C}{l:bm}:bP (Kb f l) N=U (k,t)<->∃gK,bP l N=U (k,gK)/\t=gK.map f:=by
 grind [kC,Kb,JA,JE]
def aoU{f:C->C}{l:bm}:aL (Kb f l) N=aL l N:=by
 rw[JB];simp only[aL,jC];constructor;rintro⟨⟨t,X⟩,h⟩;obtain⟨gK,h,-⟩:=ae6.1 h
 grind
 rintro⟨⟨t,X⟩,h⟩;exact⟨_,ae6.2 ⟨X,h,rfl⟩⟩
def aA.fix(R:aA q r D cf.ty V O s a W){f:C->C}(H:∀v,(f v).gf O V=v.gf O V):aA q r D cf.ty V O (s.fix f) a W:=by
 have Q:∀j,aL (s.fix f).au j=aL s.au j:=λj=>aoU
 refine⟨⟨R.mem.base,λj X=>R.mem.own j (by rw[<-Q];exact X),λj k X G=>R.mem.inj j k (by rw[<-Q];exact X) (by rw[<-Q];exact G),λj t w L=> ?_,λk e P N M=>⟨(R.mem.ak k e P N M).1,λb L j X=>(R.mem.ak k e P N M).2 b L j (by rw[<-Q];exact X)⟩⟩,by rw[R.gE];simp[S.fix,Kb],R.ei,R.eb,R.er,R.dm,R.size,R.tmps,λk e P b F B A=> ?_⟩;obtain⟨gK,h,rfl⟩:=ae6.1 L;have:C.bL O V (gK.map f)=C.bL O V gK:=by
  simp only[C.bL,oX];exact ky λv _=>H v
 rw[this];exact R.mem.box j t gK h;obtain⟨N,M,z,y,x⟩:=R.eP k e P b F B A;exact⟨N,M,λj X=>z j (by rw[<-Q];exact X),y,x⟩
def ae7(f:C->C):bC s O V (s.fix f) O V:=⟨oL.refl _ _ _,λi h=>by rw[show aL (s.fix f).au i=aL s.au i from aoU];exact h,by simp[S.fix,Kb],cd _⟩
def aA.azM(R:aA q r D cf.ty V O s a W){k:IntKind}{e:K}{v:Int}(H:s.tmps.getD N .any=.int k e)(Q:e.ai O=v):aA q r D cf.ty V O {s with tmps:=s.tmps.set N (.int k (.c v))} a W:=by
 refine⟨R.mem,R.gE,R.ei,R.eb,R.er,R.dm,by simpa using R.size,λi P h=> ?_,R.eP⟩;simp only[yU] at h;split at h;rename_i M;subst M;split at h;rename_i G;cases h;have L:s.tmps[N]?=U (.int k e):=by
  grind
 rcases R.tmps N _ L with X|X;cases X;right;rw[X];simp only[C.ai,K.ai,Q];cases h;exact R.tmps i P h
def Xy{p:Sp}{L:dt}{e:K}{gr:Int->S}{bz:T}{g:S->T}:∀{X:bA},(MX e gr bz g X).aP p O L->(∃k∈X,e.ai O=k/\(g (gr k)).aP p O L)\/(¬e.ai O∈X/\bz.aP p O L)
 |[],h=>.inr ⟨aw,h⟩
 |k::X,h=>by
  simp only[MX,T.aP] at h;by_cases R:e.ai O=k
  grind [BE.ai,K.ai,fp]
  rcases Xy (h.2 (by simp[BE.ai,K.ai,fp,R])) with⟨N,Q,P⟩|⟨Q,P⟩
  grind
  grind
def azN{p:Sp}{L:dt}(R:aA q r D cf.ty V O s a W){id:Nat}{e:K}{G:bA}{gr:Int->S}{bz:Option S}(X:Wp cf N id s=U (e,G,gr,bz)){g:S->T}(h:(MX e gr (ade g bz) g G).aP p O L):
  ∃H,bC s O V H O V/\H.ax=s.ax/\aA q r D cf.ty V O H a W/\(g H).aP p O L:=by
 unfold Wp at X;split at X;split at X;cases X;rcases Xy h with⟨k,P,Q,M⟩|⟨P,Q⟩;exact⟨_,ae7 _,rfl,R.fix (azJ Q),M⟩;split at Q;exact⟨_,ae7 _,rfl,R.fix (azK P),Q⟩;exact Q.elim;cases X;split at X;cases X;rename_i k B A F;cases X;rw[zf] at F;rcases Xy h with⟨k,P,Q,M⟩|⟨P,Q⟩;refine⟨_, ?_, ?_,R.azM F Q,M⟩;exact⟨oL.refl _ _ _,λ_ h=>h,cd _,cd _⟩;rfl;exact Q.elim;cases X;split at X;split at X;cases X;cases X;rcases Xy h with⟨k,P,Q,M⟩|⟨P,Q⟩;exact⟨_,ae7 _,rfl,R.fix (azL Q),M⟩;exact Q.elim;cases X;cases X;cases X
end
def Xz:∀(n:Nat)(p:Sp)(_:ji p cf),Be p cf n/\Xo p cf n
 |0,p,ok=>⟨λD B yh ro ac c s k L O V a W Q _ _ _ _ _ h=>h.elim,λD B yh ro ac c s k L O V a W Q _ _ _ _ _ _ h=>h.elim⟩
 |n+1,p,ok=>by
  have b7:=(Xz n p ok).2;have ih:=(Xz n p ok).1;have b0:∀p':Sp,p'.P=p.P->ji p' cf->Be p' cf n:=λp' _ b8=>(Xz n p' b8).1
  have b1:=azc ih b7;refine⟨?_,b1⟩;intro D B yh ro ac c s k L O V a W Q hY hB af a0 ag h R hg HP hk;have a3:∀e F,cU s.ax L F->(k e s).aP p O F->Q (e.to O V) a W:=λe F w A=>hk e s O V a W F (bC.refl _ _ _) w R A
  have h0:=h;unfold fP at h;split at h;exact vV (n:=0) (wpIn_skip (a3 .normal L (cU.refl _ _) h));exact vV (n:=0) (wpIn_label (a3 .normal L (cU.refl _ _) h));exact vV (n:=0) (wpIn_ret (a3 .ret L (cU.refl _ _) h));rename_i id;exact vV (n:=0) (wpIn_exit (a3 (.exit id) L (cU.refl _ _) h))
  
  rename_i x y;have a4:ro.isSome=J->kK x=false:=λhr=>by have:=a0 hr;simp only[kK,yT] at this;exact this.1
  have a9:ro.isSome=J->kK y=false:=λhr=>by have:=a0 hr;simp only[kK,yT] at this;exact this.2
  refine Kt (ih D B yh ro ac x s _ L O V a W _ hY hB af a4 ag h R hg (λch H G pd y hd hR=>HP ch H G pd y hd hR) ?_);intro e u O' V' H G F M w d A;cases e with|normal=>exact ih D B yh ro ac y u k F O' V' H G Q hY (hB.go M w) af a9 ag A d (hg.ext M.ext) HP (λe2 s2 O2 V2 a2 W2 L2 ab al R2 aa=>hk e2 s2 O2 V2 a2 W2 L2 (M.trans ab) (w.trans al M.ax) R2 aa)|ret=>exact hk .ret u O' V' H G F M w d A|exit id=>exact hk (.exit id) u O' V' H G F M w d A|bp v=>exact hk (.bp v) u O' V' H G F M w d A
  
  rename_i id x;refine ayX (ih D B yh ro ac x s _ L O V a W _ hY hB af (λhr=>by have:=a0 hr;simpa only[kK] using this) ag h R hg (λch H G pd y hd hR=>HP ch H G pd y hd hR) ?_);intro e u O' V' H G F M w d A;cases e with
  |normal=>exact hk .normal u O' V' H G F M w d A|ret=>exact hk .ret u O' V' H G F M w d A
  |exit j=>
   simp only[ac1] at A;split at A;rename_i hj;have bb:j=id:=by simpa using hj
   subst bb;simp only[XE.to,Exit.inBlock,dP];exact hk .normal u O' V' H G F M w d A;rename_i hj;have bb:¬j=id:=by simpa using hj
   simp only[XE.to,Exit.inBlock,bb,jE];exact hk (.exit j) u O' V' H G F M w d A
  |bp v=>exact hk (.bp v) u O' V' H G F M w d A
  
  rename_i x;refine ayY (ih D B yh ro ac x s _ L O V a W _ hY hB af (λhr=>by have:=a0 hr;simpa only[kK] using this) ag h R hg (λch H G pd y hd hR=>⟨λl h=>by(cases h),HP ch H G pd y hd hR⟩) ?_);intro e u O' V' H G F M w d A;exact⟨λl h=>(by cases e<;>cases h),hk e u O' V' H G F M w d A⟩
  
  rename_i x y z;have a9:ro.isSome=J->kK y=false:=λhr=>by have:=a0 hr;simp only[kK,yT] at this;exact this.1
  have b2:ro.isSome=J->kK z=false:=λhr=>by have:=a0 hr;simp only[kK,yT] at this;exact this.2
  split at h;rename_i hc;have he:=de R hg x (by rw[hc];rfl);rw[hc] at he;exact NM (t:=J) (by simpa[C.ai,BE.ai] using he) (ih D B yh ro ac y s k L O V a W Q hY hB af a9 ag h R hg HP hk);rename_i hc;have he:=de R hg x (by rw[hc];rfl);rw[hc] at he;exact NM (t:=E) (by simpa[C.ai,BE.ai] using he) (ih D B yh ro ac z s k L O V a W Q hY hB af b2 ag h R hg HP hk);rename_i b dx dy hc;have he:=de R hg x (by rw[hc];rfl);rw[hc] at he;split at h;rename_i t;simp only[S.ev,zf] at hc;simp only[T.aP] at h;have b3:∀v,B.lT {s with tmps:=s.tmps.set t v} O V L:=λv=>⟨⟨hB.later.ext,hB.later.mono,hB.later.len,hB.later.ax⟩,hB.Ko⟩
  cases hv:b.ai O;refine NM (t:=E) (by simpa[C.ai,hv] using he) (ih D B yh ro ac z _ k L O V a W Q hY (b3 _) af b2 ag (h.2 hv) (R.anD hc hv) hg HP ?_);exact λe2 s2 O2 V2 a2 W2 L2 ab al R2 aa=>hk e2 s2 O2 V2 a2 W2 L2 ⟨ab.ext,ab.mono,ab.len,ab.ax⟩ al R2 aa
  refine NM (t:=J) (by simpa[C.ai,hv] using he) (ih D B yh ro ac y _ k L O V a W Q hY (b3 _) af a9 ag (h.1 hv) (R.anD hc hv) hg HP ?_);exact λe2 s2 O2 V2 a2 W2 L2 ab al R2 aa=>hk e2 s2 O2 V2 a2 W2 L2 ⟨ab.ext,ab.mono,ab.len,ab.ax⟩ al R2 aa
  exact h.elim;exact h.elim
  
  rename_i id bc ca;split at h;rename_i e ks gr bz hf;obtain⟨u,M,bd,d,h'⟩:=azN R hf h;exact ih D B yh ro ac _ u k L O V a W Q hY (hB.go M (cU.refl _ _)) af a0 ag h' d hg HP (λe2 s2 O2 V2 a2 W2 L2 ab al R2 aa=>hk e2 s2 O2 V2 a2 W2 L2 (M.trans ab) (bd▸al) R2 aa);refine vV (n:=0) ?_;split at h;rename_i hd;subst hd;split at h;rename_i o cc;split at h;rename_i om bf;split at h;exact h.elim;rename_i bg;exact azI (zC ro) ok (aow b0 ok) hY HP (Kx ok ih hY) hB cc bf (by simpa using bg) (aov _ _ _) h R hg (λu O' V' H G F M w d A=>hk .normal u O' V' H G F M w d A) (λv u O' V' H G F M w d A=>hk (.bp v) u O' V' H G F M w d A);exact h.elim;split at h;rename_i c bk;exact aoR (zC ro) ok ih hY HP hB bk h R hg (λu O' V' H G F M w d A=>hk .normal u O' V' H G F M w d A) (λv u O' V' H G F M w d A=>hk (.bp v) u O' V' H G F M w d A);split at h;rename_i om bf;split at h;exact h.elim;rename_i bg;exact azb (zC ro) ok (aow b0 ok) hY HP hB bf (by simpa using bg) (aov _ _ _) h R hg (λu O' V' H G F M w d A=>hk .normal u O' V' H G F M w d A) (λv u O' V' H G F M w d A=>hk (.bp v) u O' V' H G F M w d A);split at h;rename_i c bk;exact aoR (zC ro) ok ih hY HP hB bk h R hg (λu O' V' H G F M w d A=>hk .normal u O' V' H G F M w d A) (λv u O' V' H G F M w d A=>hk (.bp v) u O' V' H G F M w d A);exact h.elim;rename_i hd;have cl:ca=false:=by simpa using hd
  subst cl;obtain⟨Rr,bl⟩:=R.room (mV bc.toList);refine wpIn_region ?_;have:=A9 (ops:=bc) ok.pt ok.zj (zC ro) ok.kM (azd _ ok (Kx ok ih hY)) HP (n:=0) (fU (λ_=>E) J E 0 (Y s.au) bc.toList) 0 _ [] L O _ a W (λi m' hi=>by have:=Kw _ _ _ _ _ _ _ _ hi;simpa using this) (hB.go bl (cU.refl _ _)) h (λx hx=>by cases hx) Rr hg
   (λu O' V' H G F M w d A=>hk .normal u O' V' H G F (bl.trans M) w d A)
   (λv u O' V' H G F M w d A=>hk (.bp v) u O' V' H G F (bl.trans M) w d A)
  rw[SM] at this;simpa[Vz] using this
  
  rename_i x;have a4:ro.isSome=J->kK x=false:=λhr=>by have:=a0 hr;simpa only[kK] using this
  split at h;rename_i br dz;split at h;have M:bC s O V (s.dl br) O V:=⟨(bC.refl s O V).ext,λi hi=>hi,cd _,cd _⟩;exact ih D B yh ro ac _ (s.dl br) k L O V a W Q hY (hB.go M (cU.refl _ _)) af a0 ag h (R.lR (RZ _ _)) hg HP (λe2 s2 O2 V2 a2 W2 L2 ab al R2 aa=>hk e2 s2 O2 V2 a2 W2 L2 (M.trans ab) al R2 aa);obtain⟨an,cn⟩:∃an,an=br.at s:=⟨_,rfl⟩;rw[<-cn] at h;split at h;exact h.elim;rename_i hc;simp only[lq,jT,not_or,Mp] at hc;obtain⟨⟨⟨⟨⟨ce,co⟩,cp⟩,cs⟩,ct⟩,cu⟩:=hc;simp only[T.aP] at h;obtain⟨X,μ,cv,cx⟩:=h;refine ayZ (λN a1 W1=>∃s1 O1 V1,bC s O V s1 O1 V1/\aA p.S0 p.w0 D cf.ty V1 O1 s1 a1 W1/\AT an (Code.pL x) 0 s.tmps s1.tmps=J/\uw an 0 s.au s1.au=J/\ux s1 an.ks (lu an s1)=J/\AS (jH an s) s1.rs=J/\J0 (jH an s) (JZ an s1)=J/\s1.pd=s.pd/\X ((lu an s1).map (C.xv O1))/\μ ((lu an s1).map (C.xv O1))=N)
   (μ ((lu an s).map (C.xv O))) ⟨s,O,V,bC.refl _ _ _,R,cp,cs,co,ct,cu,rfl,cv,rfl⟩ ?_
  rintro N a1 W1 ⟨s1,O1,V1,dY,R1,hT,cy,b4,cA,cB,cC,hI,rfl⟩;have RH:=aA.head (ty:=cf.ty) ce R.ei R.eb R.er dY R1 hT cy b4 cA cB cC;have cD:=cx _ (aeq (O1:=O1) b4) hI;have bd:(rV an (Code.pL x) s).ax=s.ax+1:=(uF an.ks {s with ax:=s.ax+1,rs:=jH an s}).2.2.1;have bs:bC s O V (rV an (Code.pL x) s) (O.ext ((lu an s1).map (C.xv O1))) (V1.take (Y s.au)):=by
   obtain⟨e1,e2,e3,e4⟩:=uF an.ks {s with ax:=s.ax+1,rs:=jH an s};have hE:=CN s.au O ((lu an s1).map (C.xv O1)) V;refine⟨⟨hE.agree,hE.li,hE.lb,hE.lr,λk b5=> ?_⟩,λi hi=> ?_,by simp[rV,W9], ?_⟩;have bt:k<Y s.au:=by
    obtain⟨b,hb⟩:=jC.1 b5;exact(du.1 (kC.1 hb)).1
   rw[E4 bt];exact dY.ext.ad k b5;unfold aL at hi⊢;simp only[rV];rw[Sv];simpa using hi;simp only[rV];rw[e3];exact Nat.le_succ _
  have cO:∀m,cU s.ax L (⟨s.ax,X,μ,m⟩::L):=λm l bt=>by
   simp only[pi];rw[aJ ae]
  refine ih D B yh ro ac x _ _ _ _ _ a1 W1 _ hY (hB.go bs (cO _)) af a4 ag cD RH (hg.ext bs.ext) (λch H G pd y hd hR=>HP ch H G pd y hd hR) ?_;intro e s2 O2 V2 a2 W2 L2 ab al R2 aa;have ba:=bs.trans ab;rw[bd] at al;have bx:cU s.ax L L2:=λl bt=>by
   rw[al l ae];simp only[pi];rw[aJ ae]
  cases e with
  |normal=>
   simp only[Wl] at aa;split at aa;rename_i b6;simp only[aC,dq] at b6;obtain⟨⟨⟨⟨⟨c1,c2⟩,c3⟩,c4⟩,c5⟩,c6⟩:=b6;have cW:pi s.ax L2=U ⟨s.ax,X,μ,μ ((lu an s1).map (C.xv O1))⟩:=by
    rw[al s.ax ae];simp[pi]
   simp only[T.aP,cW] at aa;exact⟨_,aa.2,s2,O2,V2,ba,R2,c1,c2,c3,c4,c5,c6,aa.1,rfl⟩;exact aa.elim
  |ret=>exact hk .ret s2 O2 V2 a2 W2 L2 ba bx R2 aa|exit id=>exact hk (.exit id) s2 O2 V2 a2 W2 L2 ba bx R2 aa|bp v=>exact hk (.bp v) s2 O2 V2 a2 W2 L2 ba bx R2 aa
  rename_i c0;exact aoe (n+1) (b1 D B yh ro ac x s k L O V a W Q hY hB af a4 ag (λan=>c0 an) h0 R hg HP hk)
  
  rename_i f ps assign body;have c7:ro=none:=by
   cases ro with|none=>rfl|some l=>have:=a0 rfl;simp[kK] at this
  subst c7;split at h;rename_i g bE c8;split at h;rename_i c nt c9;split at h;exact h.elim;rename_i hc;simp only[lq,jT,not_or,Mp,ak7] at hc;obtain⟨⟨⟨⟨⟨dc,dd⟩,df⟩,dk⟩,dn⟩,dr⟩:=hc;obtain⟨dT,ds⟩:=ag;exact azE ok ih ds af c8 c9 dc dd df dk dn dr h hY hB R hg HP hk;exact h.elim;exact h.elim;exact h.elim
variable{p:Sp}
def azO{Q:aj}{P:ar}:∀{l N:aq},C.az x y l=C.az Q P N->(one l).ai x y=(one N).ai Q P
 |[],[],_=>rfl
 |[X],[R],h=>by
  have h:C.ai x y X=C.ai Q P R:=by simpa[C.az] using h
  exact h
 |[],_::_,h=>by simp[C.az] at h|_::_,[],h=>by simp[C.az] at h|[_],_::_::_,h=>by simp[C.az] at h|_::_::_,[_],h=>by simp[C.az] at h
 |a::b::c,M::L::H,h=>by
  show Value.tuple (C.az x y (a::b::c)).toArray=Value.tuple (C.az Q P (M::L::H)).toArray;rw[h]
def aoV(X:bo):SS (X.map RK.rd):=by
 intro k e h;rw[ep] at h;cases R:X[k]? with|none=>rw[R] at h;cases h|some x=>rw[R] at h;cases x<;>simp[RK.rd] at h
def azP{D:bU}{a:Act}{L:dt}(H:p.ty=cf.ty)(R:aA p.S0 p.w0 D cf.ty y x l a e)(M:(RJ cf N t l).aP p x L)(o:rg p.w0.heap.size p.S0=p.S0):p.R (.returned ((one t).ai x y)) e:=by
 unfold RJ at M;split at M;rename_i z;simp only[aC] at z;obtain⟨⟨⟨ac,af⟩,n⟩,m⟩:=z;have G:∀i,aL ([]:bm) i=J->False:=λi P=>by simp[aL,bT] at P
 have h:=R.mem.lR (NS l.rs);have g:aA p.S0 p.w0 D cf.ty [] x (sR x (l.rs.map RK.rd) l.pd) ⟨#[],a.defers⟩ e:=
  ⟨⟨R.mem.base,λi P=>(G i P).elim,λi j P=>(G i P).elim,λi X w P=>by simp[sR,bT] at P,λk Q v F f=>⟨(h.ak k Q v F f).1,λb _ i P=>(G i P).elim⟩⟩,rfl,rfl,rfl,by simp[sR,R.er],R.dm,rfl,λX sv c=>by simp[sR] at c,λk Q v b F=>bB F (aoV _ k Q)⟩
 have ce:=R.zv n;obtain⟨l',ag,B,R3,u,_,d,h3⟩:=Xx (a:=⟨#[],a.defers⟩) (ae1 (bx:=l.au) (O0:=x) (V:=y) H rfl (λi Q w aa=>by
  obtain⟨A,ab⟩:=AZ aa;have:=R.mem.box i Q w A;rw[qC ab] at this;exact⟨this,by rw[o];exact R.mem.own i (by simp[aL,A]),tq ce.2 A⟩) 9) t (l.rs.map RK.rd) x _ g (Up.refl _) (aoV _) (by rw[R.ei,R.eb,R.er];exact m) M
 have h4:=h3 B.y [] e (by rw[H];exact R3.mem);have h5:(one l').ai B []=(one t).ai x y:=azO (d B (Up.refl _));rw[<-h5];exact h4;exact M x.y y _ (by rw[H];exact(R.mem.take _).lR (NS _))
def Ky(X:ji p cf)(n:Nat):Be p cf n/\Xo p cf n:=Xz n p X
def aoW(w:ji p cf){H:Func}{c:Code}(k:p.P.funcs[v]?=U H)(hb:H.body=U c)
  (ht:RN cf N v c H.ntmps H.results.toList t l=b)(L:b.aP p x [])(hg:eD cf.gl x)(R:aA p.S0 p.w0 bU.none cf.ty y x {l with tmps:=[]} ⟨#[],[]⟩ p.w0)(hS:rg p.w0.heap.size p.S0=p.S0:=by exact rfl):
  Calls p.P v (C.az x y t).toArray p.w0 p.R:=by
 subst ht;refine Ku k hb ?_;have RE:=R.enter t H.ntmps R.dm;refine(Ky w N).1 bU.none ⟨{l with tmps:=t++ew (H.ntmps-Y t) (.bI [])},x,y,[]⟩ iD Z v c _ _ [] x y _ p.w0 _ (Fc _ _) (jK.here _ _ _ _) rfl (λhh=>by cases hh) ⟨H,k⟩ L RE hg ?_ ?_;intro j G u pd X hA hR;obtain⟨ab,B,q0,o,A⟩:=hA.mz;show LeavesInM Fence.wide 0 p.P H G.tmps p.R G.defers (.panicking j) u;rw[B];exact sd aw (xk.1 o).1 (λd F=>(A d (by simp[F])).1) (SL (w.Xd j) (λd F=>(A d (by simp[F])).2) hR);intro e i h V' G u L' hl hL g L;obtain⟨ab,B,q0,o,A⟩:=g.dm.mz;have m:=g.rp B;have aa:∀Q,uv cf i H.results.toList=U Q->(RJ cf (Y l.au) Q i).aP p h L'->LeavesInM Fence.wide 0 p.P H G.tmps p.R G.defers .returning u:=by
  intro Q z L;rw[B];exact sd aw (xk.1 o).1 (λd F=>(A d (by simp[F])).1) ⟨_,Kq m w.kM z,azP w.pt m L hS⟩
 cases e with
 |normal=>
  simp only[Wq] at L;split at L;rename_i Q z;exact aa Q z L;exact L.elim
 |ret=>
  simp only[Wq] at L;split at L;rename_i Q z;exact aa Q z L;exact L.elim
 |bp M=>
  show LeavesInM Fence.wide 0 p.P H G.tmps p.R G.defers (.panicking _) u;rw[B];exact sd aw (xk.1 o).1 (λd F=>(A d (by simp[F])).1) (L h.y V' _ m.mem.base)
 |exit id=>exact L.elim
end
def zEq:Value->CT->Bool
 |.int k n,.int X=>decide (k=X)&&n==0|.bool b,.bool=> !b|v,.bz z _=>JO v z|_,_=>E
def NU:fz->eN->Bool
 |[],[]=>J|v::X,c::W=>zEq v c&&NU X W|_,_=>E
def aoY:∀(W:fz)(V:eN),NU W V=J->W=V.map rZ
 |[],[],_=>rfl|[],_::_,h=>by simp[NU] at h|_::_,[],h=>by simp[NU] at h
 |v::W,c::V,h=>by
  simp only[NU,aC] at h;rw[dH,<-aoY W V h.2];congr 1;have X:=h.1;unfold zEq at X;split at X;simp at X;obtain⟨rfl,rfl⟩:=X;rfl;rename_i b;cases b;rfl;cases X;exact alL _ _ X;cases X
def NV:List Field->List (Nat×TypeId)->Bool
 |[],[]=>J|f::X,x::W=>f.offset==x.1&&f.type==x.2&&NV X W|_,_=>E
def aoZ:∀(X:List Field)(W:List (Nat×TypeId)),NV X W=J->X.map (λf=>(f.offset,f.type))=W
 |[],[],_=>rfl|[],_::_,h=>by simp[NV] at h|_::_,[],h=>by simp[NV] at h
 |f::X,x::W,h=>by
  simp only[NV,aC,gc] at h;rw[dH,aoZ X W h.2,h.1.1,h.1.2]
def ae8(am:eN):TD->Option TypeDesc->Bool
 |.struct V,U (.struct F)=>NV F.toList V|.arr n e,U (.array R X)=>n==R&&e==X|.slice e,U (.slice X)=>e==X|.str,U .string=>J|.gI,U (.interface _)=>J|.map k e _ _,U (.map W X)=>k==W&&e==X
 |.one,U (.int k)=>match am with|[.int W]=>decide (k=W)|_=>E
 |.one,U .bool=>match am with|[.bool]=>J|_=>E
 |.one,U (.pointer _)|.one,U (.map _ _)|.one,U (.chan _ _)=>match am with|[.bz .nilFunc _]=>E|[.bz _ _]=>J|_=>E
 |.one,U (.func _ _ _)=>match am with|[.bz _ _]=>J|_=>E
 |_,_=>E
def azQ{P:Program}{am:eN}{d:TD}(h:ae8 am d (P.underlying k)=J):d.Ok P k am:=by
 unfold ae8 at h;split at h;rename_i M F V;exact⟨F,V,aoZ _ _ h⟩;rename_i n e L Q V;simp at h;obtain⟨rfl,rfl⟩:=h;exact V;rename_i e Q V;simp at h;subst h;exact V;rename_i V;exact V;rename_i m V;exact⟨m,V⟩;rename_i X e n H N Q V;simp at h;obtain⟨rfl,rfl⟩:=h;exact V;rename_i X V;split at h;rename_i N;simp at h;subst h;exact⟨_,V,⟨trivial,λX W=>(by cases W)⟩,λX W=>(by cases W;rfl),λW=>(by cases W)⟩;cases h;rename_i V;split at h;exact⟨_,V,⟨trivial,λX W=>(by cases W)⟩,λX W=>(by cases W),λW=>rfl⟩;cases h;rename_i x V;split at h;cases h;rename_i z O R;exact⟨_,V,⟨trivial,λX W=>(R (by cases W;rfl)).elim⟩,λX W=>(by cases W),λW=>(by cases W)⟩;cases h;rename_i x y V;split at h;cases h;rename_i z O R;exact⟨_,V,⟨trivial,λX W=>(R (by cases W;rfl)).elim⟩,λX W=>(by cases W),λW=>(by cases W)⟩;cases h;rename_i x y V;split at h;cases h;rename_i z O R;exact⟨_,V,⟨trivial,λX W=>(R (by cases W;rfl)).elim⟩,λX W=>(by cases W),λW=>(by cases W)⟩;cases h;rename_i x y z V;split at h;exact⟨_,V,⟨trivial,λX W=>⟨_,_,_,rfl⟩⟩,λX W=>(by cases W),λW=>(by cases W)⟩;cases h;cases h
def ae9(P:Program)(t:TypeId)(X:TI):Bool:=
 match P.info? t with
 |U i=>match i.zero with|U z=>decide (i.bytes<=131072)&&i.size==Y X.am&&NU z.cells.toList X.am&&ae8 X.am X.d (P.underlying t)&&(Wu z==X.d.isAgg)|none=>E
 |none=>E
def azR{P:Program}{W:TI}(h:ae9 P k W=J)(H:W.eq=J->∀(V R:fz)(r:Bool)(x y:Operand)(w:World),lQ W.am V->lQ W.am R->kL V R=U r->
  (do eqGuard .eql k x y (.agg V.toArray) (.agg R.toArray);binOp .eql k (.agg V.toArray) (.agg R.toArray)).run P w=.ok (.bool r) w/\
  (do eqGuard .neq k x y (.agg V.toArray) (.agg R.toArray);binOp .neq k (.agg V.toArray) (.agg R.toArray)).run P w=.ok (.bool !r) w)(G:∀X e n N,W.d=.map X e n N->vQ P X n N):eZ P k W:=by
 unfold ae9 at h;split at h;rename_i i O;split at h;rename_i z M;simp at h;obtain⟨h,F⟩:=h;exact⟨⟨i,O,h.1.1.2,z,M,aoY _ _ h.1.2⟩,azQ h.2,λj Q=>(by rw[O] at Q;cases Q;exact h.1.1.1),H,G,λj D Q L=>(by rw[O] at Q;cases Q;rw[M] at L;cases L;exact F)⟩;cases h;cases h
def ao0{X:Type}(l:List (Option X))(i:Nat):Option X:=AL (motive:=λ_=>Nat->Option X) (λ_=>Z) (λx _ W t=>JG (motive:=λ_=>Option X) x (λm _=>W m) t) l i
def afa{X:Type}(l:List (List X))(i:Nat):List X:=AL (motive:=λ_=>Nat->List X) (λ_=>[]) (λx _ W t=>JG (motive:=λ_=>List X) x (λm _=>W m) t) l i
def look{X:Type}(l:List (List (Option X)))(t:Nat):Option X:=ao0 (afa l (t/16)) (t%16)
def ao1{X:Type}{x:X}:∀{l:List (Option X)}{i:Nat},ao0 l i=U x->l[i]?=U (U x)
 |[],_,h=>by cases h|y::_,0,h=>by simp only[Ch];exact j7 U h|_::l,i+1,h=>by rw[vw];exact ao1 (l:=l) h
def ao2{X:Type}:∀(l:List (List X))(i:Nat),l[i]?=U (afa l i)\/afa l i=[]
 |[],_=>.inr rfl|_::_,0=>.inl rfl|_::l,i+1=>by rw[vw];exact ao2 l i
def Kz{W:Type}(X:Nat->W->Bool):Nat->List (Option W)->Bool
 |_,[]=>J|n,Z::r=>Kz X (n+1) r|n,U x::r=>X n x&&Kz X (n+1) r
def Hy{X:Type}(W:Nat->X->Bool):Nat->List (List (Option X))->Bool
 |_,[]=>J|n,r::V=>Kz W n r&&Hy W (n+16) V
def afb{W:Type}{V:Nat->W->Bool}:∀{r:List (Option W)}{n i:Nat}{x:W},Kz V n r=J->r[i]?=U (U x)->V (n+i) x=J
 |[],n,i,x,_,h=>by simp at h|Z::r,n,0,x,_,h=>by simp at h
 |Z::r,n,i+1,x,X,h=>by
  simp only[Kz] at X;have:=afb X (by simpa using h)
  grind
 |U y::r,n,0,x,X,h=>by simp[Kz] at X;simp at h;subst h;exact X.1
 |U y::r,n,i+1,x,X,h=>by
  simp only[Kz,aC] at X;have:=afb X.2 (by simpa using h)
  grind
def ao3{W:Type}{R:Nat->W->Bool}:∀{l:List (List (Option W))}{n q i:Nat}{r:List (Option W)}{x:W},Hy R n l=J->l[q]?=U r->r[i]?=U (U x)->R (n+16*q+i) x=J
 |[],n,q,i,r,x,_,h,_=>by simp at h|y::l,n,0,i,r,x,X,h,V=>by simp only[Hy,aC] at X;simp at h;subst h;simpa using afb X.1 V
 |y::l,n,q+1,i,r,x,X,h,V=>by
  simp only[Hy,aC] at X;have:=ao3 X.2 (by simpa using h) V
  grind
def ao4{X:Type}{W:Nat->X->Bool}{l:List (List (Option X))}(h:Hy W 0 l=J){x:X}(R:look l N=U x):W N x=true:=by
 have Q:=ao1 R;rcases ao2 l (N/16) with V|V;have:=ao3 h V Q
 grind
 grind
def afc(P:Program)(l:ar)(g:FuncId):Option (Code×Nat×nK):=if l.contains g then(match P.funcs[g]? with
 |U X=>match X.body with|U c=>U (c,X.ntmps,X.results.toList)|none=>Z
 |none=>Z) else Z
def uI(P:Program)(g:Nat):Bool:=match P.funcs[g]? with
 |U X=>X.body.isSome&& !(X.name== "runtime.NumGoroutine")
 |none=>E
def xL{P:Program}(h:uI P N=J):∀X W,(callFunc N X).run P W=.ok (.enter N X) W:=by
 unfold uI at h;split at h;rename_i V R;simp only[aC,jT] at h;intro X W;have Q:V.name≠ "runtime.NumGoroutine":=by simpa using h.2
 obtain⟨c,O⟩:=jC.1 h.1;simp[callFunc,R,Q,O];cases h
def azS(X:AM)(f i:Nat):Option FK:=match X.find? (λx=>x.1==f&&(x.2%1000==i&&decide (1000<=x.2))) with|U x=>if x.2/1000==1 then U .box else if x.2/1000<100 then U (.slot (x.2/1000-2) [0,1,2,3]) else if x.2/1000<200 then U (.slot (x.2/1000-102) [0,1,2,3,4]) else U (.cell ((x.2/1000-200)/20) ((x.2/1000-200)%20) [1,2,3,4,5,6,7,8,9])|none=>Z
def nT(P:Program)(kM:List (List vy))(W:List (List mi))(V:oa)(R:ar)(loops:List (Nat×Nat×fG))(Q:ze)(jF:Bool:=E)(X:AM:=[]):bv:=
 {ty:=look kM,gl:=V,inl:=afc P R,sig:=look W,loop:=λf i=>match loops.find? (λx=>x.1==f&&x.2.1==i) with|U x=>.inv x.2.2|none=>.awH,zj:=λf g=>(Q.find? λx=>x.1==f&&x.2.1==g).map (·.2.2),jF:=jF,JR:=λf i=>X.contains (f,i),frk:=λf i=>azS X f i,lay:=ayf}
def NW{P:Program}{kM:List (List vy)}{H:List (List mi)}{F:oa}{loops:List (Nat×Nat×fG)}{N:ze}{jF:Bool}{B:AM}{A:ar}{D:bU}{R:Ending->World->Prop}{Q:Exit->Act->World->Prop}
  (z:jx P (look kM))(w:Hy (λg _=>uI P g) 0 H=J)(v:y.all (uI P)=J)(u:P.follows .mixedOrders=J)(t:∀G W b o,e.heap.size<=b->R (.panicked G) W->R (.panicked G) (W.putObj b o))(s:∀x∈N,nQ P (look kM) x.1 x.2.1 x.2.2.1 x.2.2.2.1 x.2.2.2.2):ji ⟨P,look kM,A,e,D,R,Q⟩ (nT P kM H F y loops N jF B):=by
 refine⟨rfl,u,z,λf g X p n h=> ?_,λg V=> ?_,t,λg c m l h=> ?_⟩;simp only[nT] at h;cases O:N.find? (λx=>x.1==f&&x.2.1==g) with
 |none=>rw[O] at h;cases h
 |some x=>
  rw[O] at h;simp at h;have M:=acs O;simp at M;have:=s x (Vu O);rw[M.1,M.2,h] at this;exact this
 rcases V with V|V;obtain⟨k,r⟩:=jC.1 V;exact xL (ao4 w r);obtain⟨x,L⟩:=jC.1 V;simp only[nT,afc] at L;split at L;rename_i q;exact xL (gC.1 v g (Jw.1 q));cases L;simp only[nT,afc] at h
 grind
section
inductive dN:RV->RV->Prop where
 |sl (A A':Option Addr) (len cap cap':Nat) (rows aF:List (List RV)) (h1:Y rows=Y aF) (h2:∀(i:Nat)(row row':List RV),rows[i]?=U row->aF[i]?=U row'->Y row=Y row')
   (h3:∀(i j:Nat)(row row':List RV)(c c':RV),rows[i]?=U row->aF[i]?=U row'->row[j]?=U c->row'[j]?=U c'->dN c c'):dN (.mk (.slice A len cap) rows) (.mk (.slice A' len cap') aF)
 |val (v:Value) (rows:List (List RV)) (h:∀a l c,v≠ .slice a l c):dN (.mk v rows) (.mk v rows)
def NX:XV->XV->Prop
 |.i n,.i m=>n=m|.b x,.b y=>x=y|.r v,.r w=>dN v w|_,_=>False
def xM:aZ->aZ->Prop
 |[],[]=>True|x::X,y::W=>NX x y/\xM X W|_,_=>False
structure ke(O O':aj):Prop where
 i:O.i=O'.i
 b:O.b=O'.b
 len:Y O.r=Y O'.r
 r:∀(k:Nat)(v v':RV),O.r[k]?=U v->O'.r[k]?=U v'->dN v v'
def dN.refl:∀(v:RV),dN v v
 |.mk v V=>by
  by_cases h:∃a l c,v=.slice a l c;obtain⟨a,l,c,rfl⟩:=h;refine dN.sl a a l c c V V rfl (λi P O W X=>by rw[W] at X;cases X;rfl) (λi j P O x M W X R Q=> ?_);rw[W] at X;cases X;rw[R] at Q;cases Q;exact dN.refl x;exact dN.val v V (λa l c N=>h ⟨a,l,c,N⟩)
termination_by v=>SizeOf.sizeOf v
decreasing_by
 have L:=aI6 (jD W);have H:=aI6 (jD R);simp only[RV.mk.sizeOf_spec];omega
def dN.default:dN default default:=dN.refl _
theorem ke.rv{O X:aj}(h:ke O X)(k:Nat):dN (O.rv k) (X.rv k):=by
 unfold aj.rv;simp;cases W:O.r[k]? with
 |none=>
  have:X.r[k]?=none:=by rw[Em] at W⊢;have:=h.len;omega
  rw[this];exact dN.default
 |some v=>
  cases V:X.r[k]? with|none=>rw[Em] at V;have:=(du.1 W).1;have:=h.len;omega|some R=>exact h.r k v R W V
theorem dN.aQ{v W:RV}(h:dN v W)(i:Int)(j:Nat):dN (Y.aQ v.ah i j) (Y.aQ W.ah i j):=by
 cases h with
 |sl A M L H G V aF F O D=>
  simp only[Y.aQ,RV.mX,di];cases R:V[i.toNat]? with
  |none=>
   have:aF[i.toNat]?=none:=by rw[Em] at R⊢;omega
   rw[this];exact dN.default
  |some Q=>
   obtain⟨X,P⟩:∃X,aF[i.toNat]?=U X:=by
    grind
   rw[P];simp;have B:=O _ Q X R P;cases N:Q[j]? with
   |none=>
    have:X[j]?=none:=by rw[Em] at N⊢;omega
    rw[this];exact dN.default
   |some c=>
    grind
 |val v V z=>exact dN.refl _
theorem dN.bn{v X:RV}(h:dN v X):Y.bn v.val=Y.bn X.val/\Y.jw v.val=Y.jw X.val/\lenOf v.val=lenOf X.val/\(∀i,G7 v.val i=G7 X.val i)/\(∀w,xA v.val w=xA X.val w)/\∀w,xA w v.val=xA w X.val:=by
 cases h with
 |sl A V R Q P W aF=>exact⟨rfl,rfl,rfl,λ_=>rfl,λ_=>rfl,λw=>by cases w<;>rfl⟩
 |val v W O=>exact⟨rfl,rfl,rfl,λ_=>rfl,λ_=>rfl,λ_=>rfl⟩
def dN.cJ{v M:RV}(h:dN v M)(k:RK):dN (Y.cJ k v) (Y.cJ k M):=by
 cases h with
 |sl A X W V R Q aF P O N=>
  cases k with|sl e=>exact dN.sl A X W V R Q aF P O N|str=>exact dN.refl _|bz=>exact dN.sl A X W V R [] [] rfl (λi L H q=>by simp at q) (λi j L H c G q=>by simp at q)|own e=>exact dN.sl A X W V R Q aF P O N|aT=>exact dN.sl A X W V R Q aF P O N|mr F=>exact dN.sl A X W V R Q aF P O N
 |val v Q D=>exact dN.refl _
structure fY(rows aF:av):Prop where
 len:Y rows=Y aF
 row:∀(i:Nat)(row row':aE),rows[i]?=U row->aF[i]?=U row'->Y row=Y row'
 cell:∀(i j:Nat)(row row':aE)(c c':RV),rows[i]?=U row->aF[i]?=U row'->row[j]?=U c->row'[j]?=U c'->dN c c'
def dN.NY{v R:RV}(h:dN v R):fY v.ah R.ah:=by
 cases h with|sl A M L H G P aF W X V=>exact⟨W,X,V⟩|val v P F=>exact⟨rfl,λi O N W X=>by rw[W] at X;cases X;rfl,λi j O N c D W X V Q=>by rw[W] at X;cases X;rw[V] at Q;cases Q;exact dN.refl _⟩
def po(X W:aE):Prop:=Y X=Y W/\∀(j:Nat)(c V:RV),X[j]?=U c->W[j]?=U V->dN c V
def fY.cons{r X:aE}{O N:av}(h:fY (r::O) (X::N)):po r X/\fY O N:=
 ⟨⟨h.row 0 r X rfl rfl,λj c W=>h.cell 0 j r X c W rfl rfl⟩,by simpa using h.len,λi V R Q P=>h.row (i+1) V R (by simpa using Q) (by simpa using P),λi j V R c W Q P=>h.cell (i+1) j V R c W (by simpa using Q) (by simpa using P)⟩
def fY.Hz{r Q:aE}{P O:av}(h:po r Q)(k:fY P O):fY (r::P) (Q::O):=by
 refine⟨by simp[k.len],λi V R X W=> ?_,λi j V R c N X W=> ?_⟩;cases i with|zero=>simp at X W;subst X W;exact h.1|succ i=>exact k.row i V R (by simpa using X) (by simpa using W)
 cases i with|zero=>simp at X W;subst X W;exact h.2 j c N|succ i=>exact k.cell i j V R c N (by simpa using X) (by simpa using W)
def po.getD{W X:aE}(h:po W X)(j:Nat):dN (W.getD j Inhabited.default) (X.getD j Inhabited.default):=by
 simp;cases V:W[j]? with
 |none=>
  have:X[j]?=none:=by rw[Em] at V⊢;have:=h.1;omega
  rw[this];exact dN.refl _
 |some c=>
  obtain⟨R,Q⟩:∃R,X[j]?=U R:=by
   have:j<Y W:=(du.1 V).1;exact⟨X[j]'(by have:=h.1;omega),dv _⟩
  rw[Q];exact h.2 j c R V Q
def po.ints{W X:aE}(h:po W X)(n:Nat):(W.take n).map (λc=>Y.bn c.val)=(X.take n).map λc=>Y.bn c.val:=by
 apply kX;intro j;simp only[ep,pJ];split;cases V:W[j]? with
 |none=>
  have:X[j]?=none:=by rw[Em] at V⊢;have:=h.1;omega
  rw[this]
 |some c=>
  obtain⟨R,Q⟩:∃R,X[j]?=U R:=by
   have:j<Y W:=(du.1 V).1;exact⟨X[j]'(by have:=h.1;omega),dv _⟩
  rw[Q];simp only[ga,(h.2 j c R V Q).bn.1]
 rfl
theorem po.mq{X W:aE}(h:po X W)(n:Nat)(V:bA):Y.mq n V X=Y.mq n V W:=by
 simp only[Y.mq,h.ints n]
def XA{n:Nat}{ks:bA}:∀{X aF:av},fY X aF->(mu n ks X=Z/\mu n ks aF=Z)\/∃W V,mu n ks X=U W/\mu n ks aF=U V/\po W V
 |[],[],_=>.inl ⟨rfl,rfl⟩|[],_::_,h=>by have:=h.len;simp at this|_::_,[],h=>by have:=h.len;simp at this
 |r::O,Q::N,h=>by
  obtain⟨R,P⟩:=h.cons;simp only[mu,awi,<-R.mq n ks];cases Y.mq n ks r with|true=>exact .inr ⟨r,Q,rfl,rfl,R⟩|false=>exact XA P
def ao5{n:Nat}{X W:aE}(h:po X W):∀{V aF:av},fY V aF->fY (iF n X V) (iF n W aF)
 |[],[],k=>fY.Hz h k|[],_::_,k=>by have:=k.len;simp at this|_::_,[],k=>by have:=k.len;simp at this
 |r::P,O::N,k=>by
  obtain⟨R,Q⟩:=k.cons;simp only[iF,h.ints n,<-R.mq n];split;exact fY.Hz h Q;exact fY.Hz R (ao5 h Q)
mutual
def K.dO{O X:aj}(h:ke O X):∀e:K,e.ai O=e.ai X
 |.c n=>rfl|.v k=>by simp only[K.ai,h.i]|.bin o k a b=>by simp only[K.ai,K.dO h a,K.dO h b]|.conv k a=>by simp only[K.ai,K.dO h a]|.len r=>by simp only[K.ai];exact(RE.dO h r).bn.2.2.1|.mm m a b=>by simp only[K.ai,K.dO h a,K.dO h b]|.dw b x y=>by simp only[K.ai,BE.dO h b,K.dO h x,K.dO h y]|.cell r i j=>by simp only[K.ai,K.dO h i];exact((RE.dO h r).aQ _ j).bn.1|.oZ r i=>by simp only[K.ai,K.dO h i];exact(RE.dO h r).bn.2.2.2.1 _
 |.look r n a b c j=>by
  simp only[K.ai,K.dO h a,K.dO h b,K.dO h c];rcases XA (n:=n) (ks:=[a.ai X,b.ai X,c.ai X]) (RE.dO h r).NY with⟨W,V⟩|⟨Q,P,W,V,R⟩
  grind
  rw[W,V];exact(R.getD j).bn.1
def BE.dO{O X:aj}(h:ke O X):∀e:BE,e.ai O=e.ai X
 |.c n=>rfl|.v k=>by simp only[BE.ai,h.b]|.cmp o a b=>by simp only[BE.ai,K.dO h a,K.dO h b]|.not a=>by simp only[BE.ai,BE.dO h a]|.and a b=>by simp only[BE.ai,BE.dO h a,BE.dO h b]|.beq a b=>by simp only[BE.ai,BE.dO h a,BE.dO h b]|.dw b x y=>by simp only[BE.ai,BE.dO h b,BE.dO h x,BE.dO h y]|.cell r i j=>by simp only[BE.ai,K.dO h i];exact((RE.dO h r).aQ _ j).bn.2.1|.seq a b=>by simp only[BE.ai];rw[(RE.dO h a).bn.2.2.2.2.1,(RE.dO h b).bn.2.2.2.2.2]
 |.look r n a b c j=>by
  simp only[BE.ai,K.dO h a,K.dO h b,K.dO h c];rcases XA (n:=n) (ks:=[a.ai X,b.ai X,c.ai X]) (RE.dO h r).NY with⟨W,V⟩|⟨Q,P,W,V,R⟩
  grind
  rw[W,V];exact(R.getD j).bn.2.1
 |.has r n a b c=>by
  simp only[BE.ai,K.dO h a,K.dO h b,K.dO h c];rcases XA (n:=n) (ks:=[a.ai X,b.ai X,c.ai X]) (RE.dO h r).NY with⟨W,V⟩|⟨Q,P,W,V,R⟩
  grind
  grind
def RE.dO{O X:aj}(h:ke O X):∀r:RE,dN (r.rv O) (r.rv X)
 |.v k=>by simp only[RE.rv];exact h.rv k|.cell r i j k=>by simp only[RE.rv,K.dO h i];exact((RE.dO h r).aQ _ j).cJ k|.k v=>by simp only[RE.rv];exact dN.refl _
end
def C.azT{X:aj}(h:ke x X)(v:C):NX (v.xv x) (v.xv X):=by
 cases v<;>simp only[C.xv,NX];exact K.dO h _;exact BE.dO h _;exact RE.dO h _
def C.azU{X:aj}(h:ke x X)(v:C):dN (v.cj x) (v.cj X):=by
 cases v<;>simp only[C.cj];rw[K.dO h];exact dN.refl _;rw[BE.dO h];exact dN.refl _;exact RE.dO h _
 all_goals exact dN.refl _
def fY.of{R aF:av}(O:Y R=Y aF)(h:∀(i:Nat)(X W:aE),R[i]?=U X->aF[i]?=U W->Y X=Y W/\∀(j:Nat)(c V:RV),X[j]?=U c->W[j]?=U V->dN c V):fY R aF:=
 ⟨O,λi X W Q P=>(h i X W Q P).1,λi j X W c V Q P=>(h i X W Q P).2 j c V⟩
def XB{V:aj}(h:ke x V)(l:aq):(l.map (C.cj x)).length=(l.map (C.cj V)).length/\∀(j:Nat)(c R:RV),(l.map (C.cj x))[j]?=U c->(l.map (C.cj V))[j]?=U R->dN c R:=by
 refine⟨aw,λj c R X W=> ?_⟩;rw[ep] at X W;cases Q:l[j]? with
 |none=>rw[Q] at X;cases X
 |some v=>
  rw[Q] at X W;simp at X W;rw[<-X,<-W];exact C.azU h v
def ao6:∀{O N R Q:aE}{P:Nat},Y O=Y N->(∀(j:Nat)(c X:RV),O[j]?=U c->N[j]?=U X->dN c X)->Y R=Y Q->(∀(j:Nat)(c X:RV),R[j]?=U c->Q[j]?=U X->dN c X)->
  (ge R P O).length=(ge Q P N).length/\∀(j:Nat)(c X:RV),(ge R P O)[j]?=U c->(ge Q P N)[j]?=U X->dN c X
 |[],[],R,Q,P,_,_,M,L=>⟨M,L⟩|[],_::_,_,_,_,h,_,_,_=>by simp at h|_::_,[],_,_,_,h,_,_,_=>by simp at h
 |v::O,D::N,R,Q,P,G,H,M,L=>by
  simp only[ge];refine ao6 (by simpa using G) (λj c X W V=>H (j+1) c X (by simpa using W) (by simpa using V)) (by simp[M]) (λj c X W V=> ?_);rw[yU] at W V;split at W;rename_i F;rw[aH F] at V;split at W;split at V;cases W;cases V;exact H 0 _ _ rfl rfl;cases V;cases W
  grind
def LE.dO{O F:aj}(h:ke O F):∀x:LE,fY (x.ah O) (x.ah F)
 |.ak r=>(RE.dO h r).NY
 |.lit l=>by
  simp only[LE.ah];refine fY.of aw (λi R Q X W=> ?_);rw[ep] at X W;cases D:l[i]? with
  |none=>rw[D] at X;cases X
  |some v=>
   rw[D] at X W;simp at X W;rw[<-X,<-W];exact XB h v
 |.iC a b=>by
  simp only[LE.ah];have V:=LE.dO h a;have H:=LE.dO h b;refine fY.of (by simp[V.len,H.len]) (λi R Q X W=> ?_);by_cases L:i<(a.ah O).length;rw[fO L] at X;rw[fO (by rw[<-V.len];exact L)] at W;exact⟨V.row i R Q X W,λj c P=>V.cell i j R Q c P X W⟩;rw[jo ae] at X;rw[jo (by rw[<-V.len];omega),<-V.len] at W;exact⟨H.row _ R Q X W,λj c P=>H.cell _ j R Q c P X W⟩
 |.xo n R=>by
  simp only[LE.ah,K.dO h n];refine fY.of aw (λi r u X W=> ?_);rw[Vv] at X W;split at X;rename_i L;rw[aH L] at W;cases X;cases W;exact XB h R;cases X
 |.set a i t G=>by
  simp only[LE.ah,K.dO h i];have V:=LE.dO h a;have B:=XB h G;refine fY.of (by simp[V.len]) (λs R Q X W=> ?_);rcases Nq X with⟨rfl,A,N,rfl⟩|⟨y,N⟩;rcases Nq W with⟨_,z,M,rfl⟩|⟨y,_⟩;exact ao6 B.1 B.2 (V.row _ A z N M) (λj c P=>V.cell _ j A z c P N M);omega;rcases Nq W with⟨rfl,_⟩|⟨_,M⟩;omega;exact⟨V.row _ R Q N M,λj c P=>V.cell _ j R Q c P N M⟩
 |.sub a w L=>by
  simp only[LE.ah,K.dO h w,K.dO h L];have V:=LE.dO h a;refine fY.of (by simp[V.len]) (λi R Q X W=> ?_);have N:=(WL X).1;have M:=(WL W).1;exact⟨V.row _ R Q N M,λj c P=>V.cell _ j R Q c P N M⟩
 |.ins a n G=>by
  simp only[LE.ah];exact ao5 (XB h G) (LE.dO h a)
def ao7{V:aj}(h:ke x V)(X:LE){A:oY}:dN (gu X x) (.mk (.slice A (X.ah V).length N) (X.ah V)):=by
 have W:=LE.dO h X;unfold gu;rw[W.len];exact dN.sl _ _ _ _ _ _ _ W.len W.row W.cell
theorem ke.add{O R:aj}(h:ke O R){x y:XV}(X:NX x y):ke (O.add x) (R.add y):=by
 cases x<;>cases y<;>simp only[NX] at X;subst X;exact⟨by simp[aj.add,h.i],h.b,h.len,h.r⟩;subst X;exact⟨h.i,by simp[aj.add,h.b],h.len,h.r⟩;refine⟨h.i,h.b,by simp[aj.add,h.len],λk v P W V=> ?_⟩;simp only[aj.add] at W V;by_cases Q:k<Y O.r;rw[fO Q] at W;rw[fO (by rw[<-h.len];exact Q)] at V;exact h.r k v P W V
 grind [h.len]
def ke.ext:∀{W V:aZ}{O R:aj},ke O R->xM W V->ke (O.ext W) (R.ext V)
 |[],[],_,_,h,_=>h|[],_::_,_,_,_,X=>X.elim|_::_,[],_,_,_,X=>X.elim|x::W,y::V,_,_,h,X=>(h.add X.1).ext X.2
inductive aX where
 |ret (xs:List XV)
 |bp (v:Value)
abbrev jV:=Option aX
abbrev mA:=FuncId->aZ->jV
def NZ:LK->XV->Bool
 |.int _,.i _=>J|.bool,.b _=>J|.ak _,.r _=>J|_,_=>E
def fC:aN->aZ->Bool
 |[],[]=>J|k::X,x::W=>NZ k x&&fC X W|_,_=>E
def C2(X:Ty)(W:bo):LK->C->Bool
 |.int k,.int V _=>decide (k=V)|.bool,.bool _=>J
 |.ak e,.ak r=>match e with|.mr R=>r.pK X ⟨[],[],0,0,W,0,0,[]⟩ R|e=>r.fits X ⟨[],[],0,0,W,0,0,[]⟩ e.rd
 |_,_=>E
def iQ(X:Ty)(W:bo):aN->aq->Bool
 |[],[]=>J|k::V,v::R=>C2 X W k v&&iQ X W V R|_,_=>E
def gv(W:Ty):i7->aq->Ex
 |[],[]=>U []
 |t::V,v::R=>match W t,gv W V R with
  |U X,U r=>if X.d.isAgg then(match v with|.agg l=>if Y l==Y X.am then U (l++r) else Z|_=>Z) else(if Y X.am==1 then U (v::r) else Z)
  |_,_=>Z
 |_,_=>Z
def uJ(n:Nat):C->aq
 |.bI l=>if n==1 then[.bI l] else l|v=>[v]
def KC(O:aj):C->Option Value
 |.gI t (.int k e)=>U (.iface t (.int k (e.ai O)))|_=>Z
structure Fr where
 ax:Nat
 ks:aN
 t:T
 O:aj
 rs:bo
def KD(ax:Nat):List Fr->Option (Fr×List Fr)
 |[]=>Z|x::X=>if x.ax=ax then U (x,X) else KD ax X
def gh:aN->bo
 |[]=>[]|.ak e::X=>e::gh X|_::X=>gh X
def lz:Nat->Nat->Nat->aN->aq->Bool
 |_,_,_,[],[]=>J|a,b,c,.int k::X,.int W (.v n)::l=>decide (k=W)&&n==a&&lz (a+1) b c X l|a,b,c,.bool::X,.bool (.v n)::l=>n==b&&lz a (b+1) c X l|a,b,c,.ak _::X,.ak (.v n)::l=>n==c&&lz a b (c+1) X l|_,_,_,_,_=>E
def XC:RK->RK->Bool
 |_,.aT=>J|.own t,.sl X=>decide (t=X)|.sl t,.sl X=>decide (t=X)|.str,.str=>J|.bz,.bz=>J|.mr a,.mr b=>decide (a=b)|_,_=>E
def Fe:bo->bo->Bool
 |[],[]=>J|x::X,y::W=>XC x y&&Fe X W|_,_=>E
def ao8:RK->RK->Bool
 |.own t,.own X=>decide (t=X)|x,y=>XC x y
def Ff:bo->bo->Bool
 |[],[]=>J|x::X,y::W=>ao8 x y&&Ff X W|_,_=>E
def afd(X:Ty)(W:i7)(v:C)(R:bo)(O:aj):jV:=match gv X W (uJ (Y W) v),fJ X W with|U l,U V=>if iQ X R V l&&mW V then U (.ret (l.map (C.xv O))) else Z|_,_=>Z
def afe(X:Ty)(P N:FuncId->mi)(f:FuncId)(M:aq)(L:bo)(V:aN)(fA:C)(O:aj):Option aZ:=match Nx P f,Ny N f with
 |U R,U W=>match gv X R M,fJ X R,fJ X W,gv X W (uJ (Y W) (MI fA)) with|U l,U Q,U H,U r=>if iQ X L Q l&&mW Q&&decide (H=V)&&lz (Y O.i) (Y O.b) (Y O.r) V r then U (l.map (C.xv O)) else Z|_,_,_,_=>Z
 |_,_=>Z
def aff(X:bo)(r:RE)(e:TypeId):Bool:=match r with|.v k=>decide (X[k]?=U (.own e))|.k (.slice Z 0 0)=>J|_=>E
def afg:RK->Bool
 |.mr _=>J|_=>E
def po.key{x y:aE}(h:po x y)(c:Nat):aI c x=aI c y:=(h.getD c).bn.1
def ao9{d:Bool}{x W y V:aE}(R:po x W)(Q:po y V):∀X:ar,jI d X x y=jI d X W V
 |[]=>rfl|c::X=>by simp only[jI,R.key,Q.key,ao9 R Q X]
def afh{X:bu}{x W y V:aE}(R:po x W)(Q:po y V):X.lt x y=X.lt W V:=by
 cases X with|lex P d=>exact ao9 R Q P|ratio n d=>simp only[bu.lt,R.key,Q.key]|dE k o O=>rfl
def azV{X:bu}{x W:aE}(V:po x W):X.ok x=X.ok W:=by
 cases X with|lex R d=>rfl|ratio n d=>simp only[bu.ok,V.key]|dE k o Q=>rfl
def fY.XD{r:av}(h:fY [] r):r=[]:=by cases r with|nil=>rfl|cons x X=>have:=h.len;simp at this
def apa{V:bu}{x R:aE}(X:po x R):∀{l W:av},fY l W->fY (fk V.lt x l) (fk V.lt R W)
 |[],W,h=>by have P:=h.XD;subst P;exact fY.Hz X h|y::l,[],h=>by have:=h.len;simp at this
 |y::l,N::W,h=>by
  obtain⟨Q,O⟩:=h.cons;simp only[fk,afh X Q];split;exact fY.Hz X h;exact fY.Hz Q (apa X O)
def apb{R:bu}:∀{l W:av}{acc X:av},fY l W->fY acc X->fY (l.foldl (λacc x=>fk R.lt x acc) acc) (W.foldl (λacc x=>fk R.lt x acc) X)
 |[],W,acc,X,h,V=>by rw[h.XD];exact V|y::l,[],acc,X,h,V=>by have:=h.len;simp at this
 |y::l,O::W,acc,X,h,V=>by
  obtain⟨Q,P⟩:=h.cons;simp;exact apb P (apa Q V)
def afi{f g:aE->Bool}:∀{l X:av},(∀x W,po x W->f x=g W)->fY l X->l.all f=X.all g
 |[],X,_,h=>by rw[h.XD];rfl|y::l,[],_,h=>by have:=h.len;simp at this
 |y::l,P::X,V,h=>by
  obtain⟨R,Q⟩:=h.cons;simp only[VL,V _ _ R,afi V Q]
def apc{X:bu}:∀{l W:av},fY l W->vP X.lt l=vP X.lt W
 |[],W,h=>by rw[h.XD]|y::l,[],h=>by have:=h.len;simp at this
 |y::l,V::W,h=>by
  obtain⟨R,Q⟩:=h.cons;have O:(l.all λz=>X.lt y z||X.lt z y)=W.all λz=>X.lt V z||X.lt z V:=afi (λx N P=>by rw[afh R P,afh P R]) Q
  simp only[vP,apc Q,O]
def apd{sp:bu}{V:Bool}{l R r:av}(h:fY l R)(X:iq sp V l=U r):∃Q,iq sp V R=U Q/\fY r Q:=by
 cases sp with
 |dE k o L=>simp[iq] at X
 |_=>
  simp only[iq] at X⊢;rw[afi (λx H P=>azV P) h,apc h,h.len] at X;split at X;rename_i O;cases X;rw[aH O];exact⟨_,rfl,apb h ⟨rfl,λi N M W=>by simp at W,λi j N M c G W=>by simp at W⟩⟩;cases X
def fY.getD{l X:av}(h:fY l X)(i:Nat):po (l.getD i []) (X.getD i []):=by
 simp;cases V:l[i]? with
 |none=>
  have:X[i]?=none:=by rw[Em] at V⊢;have:=h.len;omega
  rw[this];exact⟨rfl,λj c W R=>by simp at R⟩
 |some c=>
  obtain⟨W,Q⟩:∃W,X[i]?=U W:=by
   have:i<Y l:=(du.1 V).1;exact⟨X[i]'(by have:=h.len;omega),dv _⟩
  rw[Q];exact⟨h.row i c W V Q,λj x P R O=>h.cell i j c W x P V Q R O⟩
def fY.set{x X:aE}(W:po x X):∀{l V:av}(_:fY l V)(i:Nat),fY (l.set i x) (V.set i X)
 |[],[],h,_=>h|[],_::_,h,_=>by have:=h.len;simp at this|_::_,[],h,_=>by have:=h.len;simp at this|r::R,Q::P,h,0=>fY.Hz W h.cons.2|r::R,Q::P,h,i+1=>fY.Hz h.cons.1 (fY.set W h.cons.2 i)
def afj{l X:av}(h:fY l X):∀(n:Nat)(i:Int),fY (td n i l) (td n i X)
 |0,_=>h
 |n+1,i=>by
  simp only[td,<-(h.getD i.toNat).key 0];split;exact h;exact fY.set ((afj h n _).getD _) (afj h n _) _
def azW{l X:av}(h:fY l X):my l=my X:=by
 have e:(λk=>decide (0<=aI 0 (l.getD k []))&&decide (aI 0 (l.getD k [])<=k))=λk:Nat=>decide (0<=aI 0 (X.getD k []))&&decide (aI 0 (X.getD k [])<=k):=by
  funext k;rw[(h.getD k).key 0]
 unfold my;rw[e,h.len]
def azX{R:aj}(Q:ke x R)(W:bu)(V:Bool)(l:av):oK x W V l=oK R W V l:=by
 cases W with
 |lex P d=>rfl|ratio n d=>rfl
 |dE k o X=>
  cases V with
  |false=>rfl
  |true=>
   cases X with
   |nil=>rfl
   |cons i X=>
    cases X with|nil=>simp only[oK,K.dO Q i]|cons j X=>rfl
def ape{Q:aj}(M:ke x Q){V:bu}{R:Bool}{l P r:av}(h:fY l P)(X:oK x V R l=U r):∃N,oK Q V R P=U N/\fY r N:=by
 cases V with
 |lex L d=>exact apd (sp:=.lex L d) h X|ratio n d=>exact apd (sp:=.ratio n d) h X
 |dE k o W=>
  cases R with
  |false=>simp[oK] at X
  |true=>
   cases W with
   |nil=>simp[oK] at X
   |cons i W=>
    cases W with
    |nil=>
     simp only[oK,xB] at X⊢;rw[h.len,azW h,K.dO M i] at X;split at X;rename_i H;cases X;rw[aH H];exact⟨_,rfl,afj h _ _⟩;cases X
    |cons j W=>simp[oK] at X
def dN.eG{a b:RV}(h:dN a b){M:aj}(L:ke x M){W:bu}{V:Bool}{R Q:av}(X:oK x W V a.ah=U R)(P:oK M W V b.ah=U Q):dN (.mk a.val R) (.mk b.val Q):=by
 obtain⟨y,H,N⟩:=ape L h.NY X;rw[P] at H;cases H;cases h with
 |sl A G F D B z aF w u t=>exact dN.sl A G F D B R Q N.len N.row N.cell
 |val v z s=>
  rw[RV.mX] at X P;rw[azX L W V,P] at X;cases X;exact dN.refl _
def azY{Q:Ty}{W:RV}{R:av}(V:dW Q (.own k) (.mk W.val R) N)(P:∀x∈R,x∈W.ah):dW Q (.own k) W N:=by
 obtain⟨v,O⟩:=W;simp at V P;cases V with
 |own k W N V=>
  refine dW.own k _ N ?_;generalize M:RV.mk v R=W at V;cases V with
  |here k a L H aF=>cases M;exact dW.here k a L H O
  |deep k u aF i j G c z X N F D B A=>
   cases M;obtain⟨y,w⟩:=sP (P _ (jD F));exact dW.deep k v O y j G c z X N w D B A
mutual
def XF:RV->RV->Bool
 |.mk v X,.mk W aF=>(match v,W with|.int k a,.int V b=>decide (k=V)&&a==b|.bool a,.bool b=>a==b|.string a,.string b=>decide (a=b)|.slice Z a b,.slice Z c d=>a==c&&b==d|_,_=>E)&&N0 X aF
def N0:av->av->Bool
 |[],[]=>J|r::X,W::V=>N1 r W&&N0 X V|_,_=>E
def N1:aE->aE->Bool
 |[],[]=>J|c::X,W::V=>XF c W&&N1 X V|_,_=>E
end
def SU:XV->XV->Bool
 |.i a,.i b=>a==b|.b a,.b b=>a==b|.r a,.r b=>XF a b|_,_=>E
def SX:aZ->aZ->Bool
 |[],[]=>J|x::X,y::W=>SU x y&&SX X W|_,_=>E
def apf:Value->Value->Bool
 |.iface t (.int k a),.iface X (.int W b)=>t==X&&decide (k=W)&&a==b|_,_=>E
def XG:aX->aX->Bool
 |.ret a,.ret b=>SX a b|.bp a,.bp b=>apf a b|_,_=>E
mutual
def apg:∀(a b:RV),XF a b=J->a=b
 |.mk v X,.mk W aF,h=>by
  simp only[XF,aC] at h;have V:=aph X aF h.2
  grind
def aph:∀(a b:av),N0 a b=J->a=b
 |[],[],_=>rfl|[],_::_,h=>by simp[N0] at h|_::_,[],h=>by simp[N0] at h
 |r::X,W::V,h=>by
  simp only[N0,aC] at h;rw[api r W h.1,aph X V h.2]
def api:∀(a b:aE),N1 a b=J->a=b
 |[],[],_=>rfl|[],_::_,h=>by simp[N1] at h|_::_,[],h=>by simp[N1] at h
 |r::X,W::V,h=>by
  simp only[N1,aC] at h;rw[apg r W h.1,api X V h.2]
end
def azZ:∀(a b:XV),SU a b=J->a=b
 |.i a,b,h=>by cases b<;>simp[SU] at h;rw[h]
 |.b a,b,h=>by cases b<;>simp[SU] at h;rw[h]
 |.r a,b,h=>by cases b<;>simp[SU] at h;rw[apg _ _ h]
def apj:∀(a b:aZ),SX a b=J->a=b
 |[],b,h=>by cases b<;>simp[SX] at h;rfl
 |x::X,b,h=>by cases b<;>simp[SX] at h;rw[azZ _ _ h.1,apj _ _ h.2]
def az0:∀(a b:aX),XG a b=J->a=b
 |.ret a,b,h=>by cases b<;>simp[XG] at h;rw[apj _ _ h]
 |.bp a,b,h=>by
  cases b<;>simp[XG] at h;rename_i v;unfold apf at h
  grind
open Classical in
def Bh(a b:aX):Bool:=XG a b||decide (a=b)
def HA(o:aX):Bh o o=true:=by simp[Bh]
theorem az1(a b:aX)(h:Bh a b=J):a=b:=by
 simp only[Bh,lq,dq] at h;exact h.elim (az0 a b) id
def C3:jV->jV->jV
 |U a,U b=>if Bh a b then U a else Z|_,_=>Z
def vZ:List jV->jV
 |[]=>Z|[o]=>o|o::X=>C3 o (vZ X)
def XH{a b:jV}{o:aX}(h:C3 a b=U o):a=U o/\b=U o:=by
 unfold C3 at h
 grind [az1]
def XI:∀{l:List jV}{o:aX},vZ l=U o->∀x∈l,x=U o
 |[],o,h=>by simp[vZ] at h|[x],o,h=>by simp only[vZ] at h;intro y W;simp at W;rw[W];exact h
 |x::y::r,o,h=>by
  simp only[vZ] at h;obtain⟨V,R⟩:=XH h;intro z X;rcases ey.1 X with rfl|X;exact V;exact XI (l:=y::r) R z X
def apk{a b X W:jV}{o:aX}(h:C3 a b=U o)(V:a=U o->X=U o)(R:b=U o->W=U o):C3 X W=U o:=by
 obtain⟨Q,P⟩:=XH h
 grind
def apl{X:Type}{l:List X}{f g:X->jV}{o:aX}(h:vZ (l.map f)=U o)(V:∀x∈l,f x=U o->g x=U o):vZ (l.map g)=U o:=by
 rw[<-h];congr 1;refine ky λx W=> ?_
 have:=XI h (f x) (fo.2 ⟨x,W,rfl⟩)
 grind
def xN(m:K)(g h:BE)(O:aj):List (Option Int):=(((dj (m.ai O).toNat).map λ(j:Nat)=>(j:Int)).filter λj=>g.ai (O.add (.i j))).map U++(if h.ai O then[Z] else[])
def afk{m:K}{g h:BE}{j:Int}(W:0<=j)(V:j<m.ai x)(X:g.ai (x.add (.i j))=J):U j∈xN m g h x:=by
 simp only[xN,fc,fo,qj,rO];exact .inl ⟨j,⟨⟨j.toNat,ae,ae⟩,X⟩,rfl⟩
def afl{m:K}{g h:BE}(X:h.ai x=J):Z∈xN m g h x:=by
 simp[xN,X]
def run(V:Ty)(R Q:FuncId->mi)(bh:mA)(P:i7):Nat->T->aj->bo->List Fr->jV
 |0,_,_,_,_=>Z|n+1,.ret v _ N,O,X,_=>if Fe X N then afd V P v N O else Z|n+1,.bp v,O,_,_=>(KC O v).map .bp|n+1,.aK b t f,O,X,W=>if b.ai O then run V R Q bh P n t O X W else run V R Q bh P n f O X W|n+1,.aS b t,O,X,W=>if b.ai O then run V R Q bh P n t O X W else Z
 |n+1,.call f H D N M fA t,O,X,W=>if Fe X N&&Nz V f H D fA then(match afe V R Q f H N M fA O with
   |U B=>match bh f B with|U (.ret G)=>if fC M G then run V R Q bh P n t (O.ext G) (X++gh M) W else Z|U (.bp v)=>U (.bp v)|none=>Z
   |none=>Z) else Z
 |n+1,.loop ax M F t,O,X,W=>if iQ V X M F then run V R Q bh P n t (O.ext (F.map (C.xv O))) (X++gh M) (⟨ax,M,t,O,X++gh M⟩::W) else Z
 |n+1,.back ax x,O,X,W=>match KD ax W with|U (L,A)=>if iQ V X L.ks x then run V R Q bh P n L.t (L.O.ext (x.map (C.xv O))) L.rs (L::A) else Z|none=>Z
 |n+1,.ah k x _ t,O,X,W=>if afg k then run V R Q bh P n t (O.add (.r (gu x O))) (X++[k]) W else Z|n+1,.gr g h t f,O,X,W=>if g.ai O then(if h.ai O then C3 (run V R Q bh P n t O X W) (run V R Q bh P n f O X W) else run V R Q bh P n t O X W) else(if h.ai O then run V R Q bh P n f O X W else Z)
 |n+1,.pick m g h t f,O,X,W=>vZ ((xN m g h O).map λj=>match j with|U j=>run V R Q bh P n t (O.add (.i j)) X W|none=>run V R Q bh P n f O X W)
 |n+1,.eG _ _ e z y r N t,O,X,W=>if Ff X N&&aff X r e then(match oK O z y (r.rv O).ah with|U w=>run V R Q bh P n t (O.add (.r (.mk (r.rv O).val w))) (X++[.own e]) W|none=>Z) else Z
 |n+1,.new e x N _ t,O,X,W=>if Ff X N then run V R Q bh P n t (O.add (.r (gu x O))) (X++[.own e]) W else Z|_,_,_,_,_=>Z
end
def SY{X:World}(h:fq [] e X):Below e.heap.size e X:=⟨h.os,h.tape,h.output,h.size,λk W=>h.block k W aw⟩
def nU:aN->aZ->fz
 |k::X,x::W=>x.at k::nU X W|_,_=>[]
def qG(ty:Ty):i7->fz->fz
 |[],_=>[]
 |t::W,l=>match ty t with|U X=>(if X.d.isAgg then .agg (l.take (Y X.am)).toArray else l.getD 0 undef)::qG ty W (l.drop (Y X.am))|none=>[]
def xO:fz->Value
 |[v]=>v|l=>.tuple l.toArray
def XJ{ty:Ty}:∀{X:i7}{W l:aq},gv ty X W=U l->Y X=Y W
 |[],[],l,_=>rfl|[],_::_,l,h=>by simp[gv] at h|_::_,[],l,h=>by simp[gv] at h
 |t::X,v::W,l,h=>by
  simp only[gv] at h;split at h;rename_i R r Q V;simp[XJ V];cases h
def N2{ty:Ty}{O:aj}{V:ar}:∀{X:i7}{W l:aq},gv ty X W=U l->C.az O V W=qG ty X (C.az O V l)
 |[],[],l,_=>rfl|[],_::_,l,h=>by simp[gv] at h|_::_,[],l,h=>by simp[gv] at h
 |t::X,v::W,l,h=>by
  simp only[gv] at h;split at h;rename_i H r Q N;have M:=N2 (O:=O) (V:=V) N;simp only[qG,Q];split at h;rename_i L;rw[aH L];split at h;rename_i F;split at h;rename_i R;simp at R;cases h;rw[G8,<-R,awm aw,VJ aw,<-M];simp only[C.az,C.ai];cases h;cases h
  grind [C.az,Jy]
  cases h
def afm{ty:Ty}{R:i7}{v:C}(h:gv ty R (uJ (Y R) v)=U t):v.ai x y=xO (qG ty R (C.az x y t)):=by
 have Q:=XJ h;rw[<-N2 h];cases v
 case bI L=>
  simp only[uJ] at Q⊢;by_cases N:Y R==1;simp[N,C.az,xO];simp only[N,jE,iZ] at Q⊢;have M:Y L≠1:=by rw[<-Q];simpa using N
  match L,M with|[],_=>simp[C.az,xO,C.ai]|[X],M=>simp at M|X::W::z,_=>simp[C.az,xO,C.ai]
 all_goals simp[uJ,C.az,xO]
def az2{ty:Ty}{O:aj}{V:ar}{k:LK}{v:C}(h:C2 ty g k v=J):v.ai O V=(v.xv O).at k/\qA k (v.xv O):=by
 unfold C2 at h;split at h;rename_i k X e;simp at h;subst h;exact⟨rfl,trivial⟩;exact⟨rfl,trivial⟩;exact⟨rfl,trivial⟩;cases h
def Fh{ty:Ty}{W:bo}{O:aj}{V:ar}:∀{X:aN}{l:aq},iQ ty W X l=J->C.az O V l=nU X (l.map (C.xv O))/\dL X (l.map (C.xv O))
 |[],[],_=>⟨rfl,trivial⟩|[],_::_,h=>by simp[iQ] at h|_::_,[],h=>by simp[iQ] at h
 |k::X,v::l,h=>by
  simp only[iQ,aC] at h;obtain⟨R,Q⟩:=az2 (O:=O) (V:=V) h.1;obtain⟨N,M⟩:=Fh (O:=O) (V:=V) h.2;exact⟨by simp only[C.az,dH,nU,R,N],Q,M⟩
def az3{W:aN}{X:aZ}(h:fC W X=J):dL W X:=by
 induction W generalizing X with
 |nil=>cases X with|nil=>trivial|cons=>simp[fC] at h
 |cons k W V=>cases X with
  |nil=>simp[fC] at h
  |cons x X=>
   simp only[fC,aC] at h;refine⟨?_,V h.2⟩;cases k<;>cases x<;>first|trivial|simp[NZ] at h
def SZ:∀{X:aN}{W V:aZ},dL X V->xM W V->dL X W
 |[],[],[],_,_=>trivial|[],_::_,[],_,h=>h.elim|[],_,_::_,h,_=>h.elim|_::_,_,[],h,_=>h.elim|_::_,[],_::_,_,h=>h.elim
 |k::X,x::W,y::V,h,R=>by
  refine⟨?_,SZ h.2 R.2⟩;have Q:=h.1;have O:=R.1;cases k<;>cases x<;>cases y<;>simp_all[qA,NX]
def KE{O X:aj}(h:ke O X):∀l:aq,xM (l.map (C.xv O)) (l.map (C.xv X))
 |[]=>trivial|v::l=>⟨C.azT h v,KE h l⟩
def KF{V:ar}:∀{W:aN}{l:aq}{X:aZ}{O:aj}{a b c:Nat},lz a b c W l=J->dL W X->Y O.i=a->Y O.b=b->Y O.r=c->C.az (O.ext X) V l=nU W X
 |[],[],[],O,a,b,c,_,_,_,_,_=>rfl|[],[],_::_,O,a,b,c,_,h,_,_,_=>h.elim|[],_::_,X,O,a,b,c,h,_,_,_,_=>by simp[lz] at h|k::W,[],X,O,a,b,c,h,_,_,_,_=>by cases k<;>simp[lz] at h
 |_::_,_::_,[],O,a,b,c,_,h,_,_,_=>h.elim
 |k::W,v::l,x::X,O,a,b,c,h,B,N,M,L=>by
  have H:=EU X (O.add x);obtain⟨F,D⟩:=B;simp only[C.az,aj.ext,nU];unfold lz at h;split at h
  grind
  rename_i R Q;cases R;cases Q;cases x<;>simp[qA] at F;simp at h;obtain⟨⟨rfl,rfl⟩,h⟩:=h;rw[KF h D (by simp[aj.add,N]) (by simp[aj.add,M]) (by simp[aj.add,L])]
  grind [C.ai,K.ai,XV.at,H.i,aj.add]
  rename_i R Q;cases R;cases Q;cases x<;>simp[qA] at F;simp at h;obtain⟨rfl,h⟩:=h;rw[KF h D (by simp[aj.add,N]) (by simp[aj.add,M]) (by simp[aj.add,L])]
  grind [C.ai,BE.ai,XV.at,H.b,aj.add]
  rename_i R Q;cases R;cases Q;cases x<;>simp[qA] at F;simp at h;obtain⟨rfl,h⟩:=h;rw[KF h D (by simp[aj.add,N]) (by simp[aj.add,M]) (by simp[aj.add,L])]
  grind [C.ai,RE.ai,RE.rv,XV.at,H.r,aj.add,aj.rv]
  cases h
def az4{ty:Ty}{s:S}{r:RE}{e:RK}(M:e≠ .bz)(h:r.kind ty s=e)(W:dW ty e (r.rv x) N):x.ph ty s.rs N:=by
 obtain⟨V,R,H,Q,X⟩:=WG M h W;rcases X with⟨rfl,X⟩|⟨t,X,L⟩;exact⟨V,R,Q,WF (by rw[X];exact W)⟩;exact⟨V,R,Q,Nj X L⟩
def apm{ty:Ty}{e:RK}{X:RV}(h:dW ty e X N):dW ty e.rd X N:=by
 cases h with|own e X N h=>exact h|here e a V R W=>exact dW.here e a V R W|deep e v W i j Q c z k N O M L H=>exact dW.deep e v W i j Q c z k N O M L H
def rq(ty:Ty)(W:aN)(V:aZ)(b:Nat):Prop:=∃(q:Nat)(e:RK)(X:RV),W[q]?=U (.ak e)/\V[q]?=U (.r X)/\dW ty e X b
def apn{ty:Ty}{R:bo}:∀{W:aN}{l:aq},iQ ty R W l=J->∀(q:Nat)(k:LK)(v:C),W[q]?=U k->l[q]?=U v->C2 ty R k v=J
 |[],_,_,q,k,v,X,_=>by simp at X|_::_,[],h,q,k,v,_,_=>by simp[iQ] at h|Q::W,O::l,h,0,k,v,X,V=>by simp only[iQ,aC] at h;simp at X V;subst X V;exact h.1|Q::W,O::l,h,q+1,k,v,X,V=>by simp only[iQ,aC] at h;exact apn h.2 q k v (by simpa using X) (by simpa using V)
def apo{ty:Ty}{V:aN}(h:iQ ty g V t=J){e:RK}{R:RV}(M:V[N]?=U (.ak e))(X:(t.map (C.xv x))[N]?=U (.r R)):
  ∃r:RE,((∃Q,e=.mr Q/\r.pK ty ⟨[],[],0,0,g,0,0,[]⟩ Q=J)\/r.fits ty ⟨[],[],0,0,g,0,0,[]⟩ e.rd=J)/\R=r.rv x:=by
 rw[ep] at X;cases W:t[N]? with
 |none=>rw[W] at X;cases X
 |some v=>
  rw[W] at X;have:=apn h N _ v M W;unfold C2 at this
  grind [JA,C.xv,XV.r.injEq]
def Fi{ty:Ty}{W:aN}(h:iQ ty g W t=J)(Q:rq ty W (t.map (C.xv x)) N):x.ph ty g N:=by
 obtain⟨q,e,D,M,L,V⟩:=Q;obtain⟨r,X,rfl⟩:=apo h M L;rcases X with⟨B,rfl,-⟩|X;cases V;have R:=apm V;obtain⟨H,F⟩:=adN (O:=x) X R;exact az4 (s:=⟨[],[],0,0,g,0,0,[]⟩) F H R
def xP(ty:Ty)(W:World)(V:aN)(R:aZ):Prop:=∀(q:Nat)(e:RK)(X:RV),V[q]?=U (.ak e)->R[q]?=U (.r X)->bG W ty e X
def afn{ty:Ty}{W:World}{B:Nat}{old:Nat->Prop}:∀{V:aN}{X:aZ},xP ty W V X->(∀b,rq ty V X b->B<=b\/old b)->CL ty W B old V X
 |[],X,_,_=>by cases X<;>trivial
 |_::_,[],_,_=>trivial
 |k::V,x::X,h,N=>by
  refine⟨?_,afn (λq e R Q O=>h (q+1) e R (by simpa using Q) (by simpa using O)) (λb ⟨q,e,R,Q,O,M⟩=>N b ⟨q+1,e,R,by simpa using Q,by simpa using O,M⟩)⟩;cases k<;>cases x<;>try trivial
  exact⟨h 0 _ _ rfl rfl,λb L=>N b ⟨0,_,_,rfl,rfl,L⟩⟩
def S2(D W:World):ef D bU.none [] [] [] W:=⟨rfl,rfl,λn l r X h=>by simp[bU.none] at h,λn V l r R h=>by simp[bU.none] at h,[],rfl,λ_=>rfl,by simp[bU.none],λd h=>by simp[bU.none] at h⟩
def jJ.XK{V:ar}{M:bm}{ty:Ty}{W:World}(R:jJ y e V x M ty g W)(L:Y x.r=Y g)(H:∀(k:Nat)(t:TypeId),g[k]?≠U (.own t)):aA y e bU.none ty [] (x.at []) ⟨[],[],Y x.i,Y x.b,g,0,0,[]⟩ ⟨#[],[]⟩ W:=
 ⟨⟨R.base,λi h=>by simp[aL,bT] at h,λi j h=>by simp[aL,bT] at h,λi t A h=>by simp[bT] at h,λk X N Q F=>⟨(R.ak k X N Q F).1,λb z i B=>by simp[aL,bT] at B⟩⟩,rfl,rfl,rfl,L,S2 _ _,rfl,λt w h=>by simp at h,λk X N b Q=>bB Q (H k X)⟩
def XL:∀{l W:bo},Fe l W=J->rj l W/\∀(k:Nat)(t:TypeId),W[k]?≠U (.own t)
 |[],[],_=>⟨rj.refl _,λk t h=>by simp at h⟩|[],_::_,h=>by simp[Fe] at h|_::_,[],h=>by simp[Fe] at h
 |x::N,y::M,h=>by
  simp only[Fe,aC] at h;obtain⟨V,Q⟩:=XL h.2;have R:sa x y/\∀t,y≠ .own t:=by
   have L:=h.1;cases x<;>cases y<;>simp_all[XC,sa]
  refine⟨⟨by simp[V.len],λk O X=> ?_⟩,λk t X=> ?_⟩;cases k with|zero=>simp at X;subst X;exact⟨x,rfl,R.1⟩|succ k=>exact V.get k O (by simpa using X)
  cases k with|zero=>simp at X;exact R.2 t X|succ k=>exact Q k t (by simpa using X)
def az5{e:RK}(h:J3 (.ak e)=J):e.rd=e:=by cases e<;>simp[J3] at h<;>rfl
def XM{ty:Ty}{X:bo}(h:rj g X)(W:x.ph ty X N):x.ph ty g N:=by
 obtain⟨k,e,V,R⟩:=W;obtain⟨Q,M,L⟩:=h.get k e V;exact⟨k,Q,M,R.lR L⟩
def apq:∀{l W:bo},Ff l W=J->rj l W
 |[],[],_=>rj.refl _|[],_::_,h=>by simp[Ff] at h|_::_,[],h=>by simp[Ff] at h
 |x::O,y::N,h=>by
  simp only[Ff,aC] at h;have V:=apq h.2;have R:sa x y:=by
   have M:=h.1;cases x<;>cases y<;>simp_all[XC,ao8,sa]
  refine⟨by simp[V.len],λk Q X=> ?_⟩;cases k with|zero=>simp at X;subst X;exact⟨x,rfl,R⟩|succ k=>exact V.get k Q (by simpa using X)
def XN{V:ar}{A:bm}{ty:Ty}{W:World}(R:jJ y e V x A ty g W)(L:Y x.r=Y g)(H:∀(k:Nat)(X:TypeId),g[k]?≠U (.own X)){M:aN}(h:iQ ty g M t=J)(z:mW M=J):xP ty W M (t.map (C.xv x)):=by
 intro q Q v F w;obtain⟨r,N,rfl⟩:=apo h F w;rcases N with⟨B,rfl,N⟩|N;simp only[RE.pK,lq,dq] at N;rcases N with N|N;have:=ri (R.XK L H) (e:=.mr B) (r:=r) aw (by
  rw[zA (s:=⟨[],[],Y x.i,Y x.b,g,0,0,[]⟩) (s':=⟨[],[],0,0,g,0,0,[]⟩) rfl r];exact N)
 rwa [RE.nS] at this
 unfold RE.nil at N;split at N;exact bG.mr B [] aw aw aw aw;cases N;have:=amp (R.XK L H) (k:=Q.rd) (r:=r) (by
  unfold RE.fits at N⊢;rw[zA (s:=⟨[],[],Y x.i,Y x.b,g,0,0,[]⟩) (s':=⟨[],[],0,0,g,0,0,[]⟩) rfl r];exact N)
 rwa [az5 (W0 z F),RE.nS] at this
def Bi(ty:Ty)(B:Nat)(old:Nat->Prop)(O:aj)(X:bo):Prop:=∀b,O.ph ty X b->B<=b\/old b
def S3:∀(X:aN)(s:S),(s.bW X).2.rs=s.rs++gh X
 |[],s=>by simp[S.bW,gh]
 |k::X,s=>by
  simp only[S.bW];rw[S3 X];cases k<;>simp[S.fresh,gh]
def HB{X:aN}{W:aZ}{O:aj}{rs:bo}(V:dL X W)(R:Y O.r=Y rs):(O.ext W).r.length=(rs++gh X).length:=by
 have:=(xH X W ⟨[],[],Y O.i,Y O.b,rs,0,0,[]⟩ O V rfl rfl R).2.2
 rwa [S3] at this
def Bi.ext{ty:Ty}{B:Nat}{old:Nat->Prop}{O:aj}{rs:bo}(h:Bi ty B old O rs){V:aN}{X:aZ}(M:dL V X)(L:Y O.r=Y rs)(F:∀b,rq ty V X b->B<=b\/old b):Bi ty B old (O.ext X) (rs++gh V):=by
 intro b ⟨k,e,H,D⟩;have A:k<(O.ext X).r.length:=by rw[HB M L];exact(du.1 H).1
 have z:(O.ext X).r[k]?=U ((O.ext X).rv k):=by simp[aj.rv,A]
 have:=Hn (PP:=λe W=>∀b,dW ty e W b->B<=b\/old b) V X ⟨[],[],Y O.i,Y O.b,rs,0,0,[]⟩ O M L
  (λq e W Q R b N=>F b ⟨q,e,W,Q,R,N⟩) (λk e W Q R b N=>h b ⟨k,e,Q,by
   have y:k<Y O.r:=(du.1 R).1;have:O.rv k=W:=by simp[aj.rv,R]
   rw[this];exact N⟩)
 rw[S3] at this;exact this k e _ H z b D
def S4(ty:Ty)(H:i7)(X:aN)(D:World)(d:aN)(u:aZ)(out:aX):Ending->World->Prop
 |.returned v,V=>∃R W,out=.ret R/\xM R W/\dL X W/\v=xO (qG ty H (nU X W))/\Below D.heap.size D V/\xP ty V X W/\∀b,rq ty X W b->D.heap.size<=b\/rq ty d u b|.panicked Q,V=>Below D.heap.size D V/\∃v,out=.bp v/\Q=[{v:=v,recovered:=E}]|.outgrown,_=>False
def XO(P:Program)(ty:Ty)(M Q:FuncId->mi)(G:World->Prop)(f:FuncId)(F:aZ->jV):Prop:=
 ∀R H d X,M f=U R->Q f=U H->fJ ty R=U d->fJ ty H=U X->∀(O V:aZ)(out:aX),F O=U out->xM O V->dL d V->∀W,G W->xP ty W d V->
  Calls P f (qG ty R (nU d V)).toArray W (S4 ty H X W d V out)
def Fj(ty:Ty):i7->fz->List fz
 |t::W,l=>match ty t with|U X=>l.take (Y X.am)::Fj ty W (l.drop (Y X.am))|none=>[]
 |[],_=>[]
def S5(V:ar)(X:bm):ar:=((dj (Y X)).filter (aL X)).map (ad V)
def az6(ty:Ty)(L:sW)(X d:aN)(V:ar)(W:World)(u:aZ)(out:aX):Ending->World->Prop
 |.returned v,Q=>∃O R,out=.ret O/\xM O R/\dL X R/\v=.tuple #[]/\fq ((eC 0 L.bx).map λx=>ad V x.1) W Q/\
   (∀z∈(eC 0 L.bx).zip (Fj ty ((eC 0 L.bx).map (·.2)) (nU X R)),Q.heap[ad V z.1.1]?=U (.cells z.2.toArray z.1.2 (0,0)))/\xP ty Q X R/\∀b,rq ty X R b->W.heap.size<=b\/rq ty d u b
 |_,_=>False
def apr(P:Program)(ty:Ty)(G:World->Prop)(g:FuncId)(L:sW)(F:aZ->jV):Prop:=
 ∀d X,fJ ty L.ps=U d->fJ ty ((eC 0 L.bx).map (·.2))=U X->∀(H R:aZ)(out:aX),F H=U out->xM H R->dL d R->
  ∀(z:ar)(D:World)(V:ar)(O:aj)(N:bm)(Q:bo)(W:World)(M B l:aq),jJ z D V O N ty Q W->Y O.r=Y Q->(∀(k:Nat)(t:TypeId),Q[k]?≠U (.own t))->
   kJ ty L.bx N=U B->Y M=L.n->gv ty L.ps (M++B)=U l->iQ ty Q d l=J->mW d=J->R=l.map (C.xv O)->(∀A,fq (S5 V N) W A->G A)->
   Calls P g (C.az O V M++C.az O V L.bE).toArray W (az6 ty L X d V W R out)
def HC(P:Program)(ty:Ty)(M Q:FuncId->mi)(G:World->Prop)(f:FuncId)(F:aZ->jV):Prop:=
 (oM f=Z->XO P ty M Q G f F)/\∀g L,oM f=U (g,L)->apr P ty G g L F
def az7{b c:World}(h:fq y e b)(k:Below b.heap.size b c):fq y e c:=
 ⟨k.os.trans h.os,k.tape.trans h.tape,k.output.trans h.output,mg h.size k.size,λq X W=>(k.block q (QW X h.size)).trans (h.block q X W)⟩
def az8{M:FuncId->mi}(h:oM v=Z):Nx M v=M v:=by simp only[Nx,h]
def az9{Q:FuncId->mi}(h:oM v=Z):Ny Q v=Q v:=by simp only[Ny,h]
def aAa{M:FuncId->mi}{g:FuncId}{L:sW}(h:oM v=U (g,L)):Nx M v=U L.ps:=by simp only[Nx,h]
def aAb{Q:FuncId->mi}{g:FuncId}{L:sW}(h:oM v=U (g,L)):Ny Q v=U ((eC 0 L.bx).map (·.2)):=by simp only[Ny,h]
def aAc{ty:Ty}{X:bm}{fA:C}(h:Nz ty v t X fA=J)(W:zm fA=Z):oM v=none:=by
 unfold Nz at h;rw[W] at h;cases V:oM v with|none=>rfl|some x=>rw[V] at h;cases h
def aAd{ty:Ty}{R:bm}{fA:C}{X:VI}(h:Nz ty v t R fA=J)(N:zm fA=U X):∃g L W,oM v=U (g,L)/\X.g=g/\X.n=L.n/\X.bE=L.bE/\X.rw=eC 0 L.bx/\Y X.l=Y X.rw/\L.n<=Y t/\kJ ty L.bx R=U W/\W=t.drop L.n:=by
 unfold Nz at h;rw[N] at h;cases O:oM v with
 |none=>rw[O] at h;cases h
 |some x=>
  obtain⟨g,L⟩:=x;rw[O] at h;simp at h;obtain⟨⟨⟨⟨⟨⟨M,H⟩,F⟩,D⟩,B⟩,A⟩,V⟩:=h;cases Q:kJ ty L.bx R with|none=>rw[Q] at V;cases V|some W=>rw[Q] at V;exact⟨g,L,W,rfl,M,H,C.pj _ _ F,D,B,A,Q,C.pj _ _ V⟩
def aAe:∀{l:aq},Y l=N->uJ N (one l)=l
 |[],h=>by subst h;rfl|[v],h=>by subst h;cases v<;>simp[one,uJ]
 |x::y::r,h=>by subst h;simp[one,uJ]
def aps{ty:Ty}{l:List LB}{X:bm}(h:kJ ty l X=U t)(W:(N,k)∈eC 0 l):mT k=false:=by
 obtain⟨-,V⟩:=Nv W;obtain⟨Q,-,R⟩:=Nw h N k (by simpa using V);exact R
def apu{ty:Ty}{O:aj}{V:ar}:∀{A:List (Nat×TypeId)}{l r:aq},gv ty (A.map (·.2)) l=U r->(∀v∈r,∀q,v≠ .agg q)->
  ∀x∈(A.zip l).map (λx=>(x.1.1,x.1.2,x.2.cells)),∃z∈A.zip (Fj ty (A.map (·.2)) (C.az O V r)),z.1=(x.1,x.2.1)/\z.2=C.az O V x.2.2
 |[],_,_,_,_,x,X=>by simp at X|a::A,[],r,h,_,x,X=>by simp at X
 |a::A,v::l,r,h,N,x,X=>by
  simp only[dH,gv] at h;cases R:ty a.2 with
  |none=>simp[R] at h
  |some D=>
   cases Q:gv ty (A.map (·.2)) l with
   |none=>simp[Q] at h
   |some M=>
    simp only[R,Q] at h;have L:∀c:aq,Y c=Y D.am->r=c++M->v.cells=c->∃z∈(a::A).zip (Fj ty ((a::A).map (·.2)) (C.az O V r)),z.1=(x.1,x.2.1)/\z.2=C.az O V x.2.2:=by
     intro c H F B;have y:Fj ty ((a::A).map (·.2)) (C.az O V r)=C.az O V c::Fj ty (A.map (·.2)) (C.az O V M):=by
      simp only[dH,Fj,R];rw[F,G8,awm (by simpa using H),VJ (by simpa using H)]
     rw[y,Es];simp only[Es,dH,ey] at X;rcases X with rfl|X;exact⟨_,VD,rfl,by rw[B]⟩;obtain⟨z,t,s⟩:=apu (O:=O) (V:=V) Q (λu w=>N u (by rw[F];simp[w])) x X
     grind
    split at h;split at h;rename_i c;split at h;rename_i W;cases h;exact L c (by simpa using W) rfl rfl;cases h;cases h;split at h;rename_i W;cases h;exact L [v] (by simp only[gc] at W;simp[W]) rfl (by
     have:=N v aw;cases v<;>simp_all[C.cells])
    cases h
def afo:∀{W:aN}{l:aq}{a b c:Nat},lz a b c W l=J->∀v∈l,∀q,v≠ .agg q
 |[],[],_,_,_,_,v,X=>by simp at X|[],_::_,_,_,_,h,_,_=>by simp[lz] at h|k::W,[],_,_,_,h,_,_=>by cases k<;>simp[lz] at h
 |k::W,u::l,a,b,c,h,v,X=>by
  unfold lz at h;split at h;rename_i V;cases V
  all_goals first
   |(rename_i V R
     cases V;cases R;simp only[aC] at h;rcases ey.1 X with rfl|X;intro q Q;cases Q;exact afo h.2 v X)
   |cases h
section
variable{P:Program}{ty:Ty}{M Q:FuncId->mi}{bh:mA}{G:World->Prop}{D:World}{H:i7}{X d:aN}{u:aZ}{out:aX}{old:Nat->Prop}
def N3(P:Program)(ty:Ty)(D:World)(H:i7)(X d:aN)(u:aZ)(out:aX):Sp:=⟨P,ty,[],D,bU.none,S4 ty H X D d u out,λ_ _ _=>False⟩
def S7(ty:Ty)(M Q:FuncId->mi)(bh:mA)(H:i7)(out:aX)(X:Fr)(V:List Fr)(R:aZ)(n:Nat):Prop:=∃W,xM W R/\run ty M Q bh H n X.t (X.O.ext W) X.rs (X::V)=U out
def IOf(ty:Ty)(M Q:FuncId->mi)(bh:mA)(D:World)(H:i7)(old:Nat->Prop)(out:aX)(X:Fr)(V:List Fr)(N:Nat)(W:aZ):Prop:=
 (∀b,rq ty X.ks W b->D.heap.size<=b\/old b)/\∃n,n<=N/\S7 ty M Q bh H out X V W n
def afq(W:World)(V:List PanicEntry)(R:World)(b:Nat)(o:Obj)(O:W.heap.size<=b)(h:S4 ty H X W d u out (.panicked V) R):S4 ty H X W d u out (.panicked V) (R.putObj b o):=
 ⟨⟨h.1.os,h.1.tape,h.1.output,by have:=h.1.size;simpa[Mv] using this,λk Q=>(uj ae).trans (h.1.block k Q)⟩,h.2⟩
def aAf{p:Nat->Prop}:∀{n:Nat},p n->∃m,p m/\m<=n/\∀k,p k->m<=k:=by
 intro n;induction n using QZ with
 |ind n X=>
  grind
open Classical in
noncomputable def N4(p:Nat->Prop):Nat:=if h:∃m,p m/\∀k,p k->m<=k then Classical.choose h else 0
def apv{p:Nat->Prop}(h:p N):p (N4 p)/\N4 p<=N:=by
 obtain⟨m,X,V,W⟩:=aAf h;have R:∃m,p m/\∀k,p k->m<=k:=⟨m,X,W⟩;unfold N4
 grind
inductive uK(ty:Ty)(M Q:FuncId->Option (List TypeId))(bh:mA)(D:World)(H:List TypeId)(old:Nat->Prop)(out:aX):Nat->List Fr->List LC->Prop where
 |nil (n:Nat):uK ty M Q bh D H old out n [] []
 |cons (n N m:Nat) (fr:Fr) (st:List Fr) (L:List LC):n<=m->m<=N->uK ty M Q bh D H old out n st L->
   uK ty M Q bh D H old out n (fr::st) (⟨fr.ax,IOf ty M Q bh D H old out fr st N,λxs=>N4 (S7 ty M Q bh H out fr st xs),m⟩::L)
def uK.mono{V:Nat}{W:List Fr}{L:dt}(h:uK ty M Q bh D H old out N W L)(F:V<=N):uK ty M Q bh D H old out V W L:=by
 induction h with|nil=>exact uK.nil _|cons X m B W L A R z O=>exact uK.cons _ _ _ _ _ _ ae R O
def uK.find{ax:Nat}{R O:List Fr}{L:dt}{W:Fr}(h:uK ty M Q bh D H old out N R L)(V:KD ax R=U (W,O)):
  ∃X m,N<=m/\m<=X/\pi ax L=U ⟨W.ax,IOf ty M Q bh D H old out W O X,λF=>N4 (S7 ty M Q bh H out W O F),m⟩:=by
 induction h with
 |nil=>simp[KD] at V
 |cons X m y R L B A x w=>
  simp only[KD] at V;split at V;rename_i z;cases V;exact⟨X,m,B,A,by simp[pi,z]⟩
  grind [pi]
def apw{S0:ar}{R:Ending->World->Prop}(bf:∀f,HC P ty M Q G f (bh f))(bg:∀W,fq S0 D W->G W)(b6:∀b∈rg D.heap.size S0,old b)(b7:fJ ty H=U X)
  (b8:∀(v:C)(l:aq)(bx:bm)(aa:bo)(p O':aj)(V:ar)(W:World),gv ty H (uJ (Y H) v)=U l->iQ ty aa X l=J->mW X=J->out=.ret (l.map (C.xv p))->ke p O'->Y O'.r=Y aa->(∀(k:Nat)(t:TypeId),aa[k]?≠U (.own t))->Bi ty D.heap.size old O' aa->jJ S0 D V O' bx ty aa W->R (.returned (v.ai O' V)) W)
  (bk:∀(v:Value)(W:World),out=.bp v->fq S0 D W->R (.panicked [{v:=v,recovered:=E}]) W):
  ∀(n:Nat)(t:T)(p O:aj)(d:bo)(st:List Fr)(L:dt),run ty M Q bh H n t p d st=U out->ke p O->Y O.r=Y d->Bi ty D.heap.size old O d->uK ty M Q bh D H old out n st L->
   t.aP ⟨P,ty,S0,D,bU.none,R,λ_ _ _=>False⟩ O L:=by
 intro n;induction n using QZ with
 |ind n IH=>
  intro t p O d st L h B u hP hC;cases n with
  |zero=>simp[run] at h
  |succ n=>
   cases t with
   |out e s=>simp[run] at h|stuck m=>simp[run] at h
   |ret v bx aa=>
    simp only[run] at h;split at h;rename_i he;obtain⟨hw,a3⟩:=XL he;unfold afd at h;split at h;rename_i l ks hl hk;rw[b7] at hk;cases hk;split at h;rename_i ab;cases h;simp only[aC] at ab;obtain⟨ab,ca⟩:=ab;intro y V W hR;have B:ke p (O.at y):=⟨B.i,B.b,B.len,B.r⟩;have u:(O.at y).r.length=Y d:=u;have hP:Bi ty D.heap.size old (O.at y) d:=hP;generalize O.at y=O at B u hP hR⊢;exact b8 v l bx aa p O V W hl ab ca rfl B (u.trans hw.len.symm) a3 (λb q=>hP b (XM hw q)) hR;cases h;cases h;cases h
   |bp v=>
    simp only[run,Vx] at h;obtain⟨pv,hv,rfl⟩:=h;intro y V W hO;have B:ke p (O.at y):=⟨B.i,B.b,B.len,B.r⟩;have cc:v.ai (O.at y) V=pv:=by
     unfold KC at hv;split at hv;cases hv;simp only[C.ai,K.dO B];cases hv
    rw[cc];exact bk pv W rfl hO
   |aK b t f=>
    simp only[run] at h;rw[BE.dO B] at h;refine⟨λq=> ?_,λq=> ?_⟩;rw[aH q] at h;exact IH n ae t p O d st L h B u hP (hC.mono ae);rw[aJ (by simp[q])] at h;exact IH n ae f p O d st L h B u hP (hC.mono ae)
   |aS b t=>
    simp only[run] at h;rw[BE.dO B] at h;split at h;rename_i q;exact⟨q,IH n ae t p O d st L h B u hP (hC.mono ae)⟩;cases h
   |call f cf bx aa ks fA t=>
    simp only[run] at h;split at h;rename_i he;rw[aC] at he;obtain⟨he,bl⟩:=he;obtain⟨hw,a3⟩:=XL he;split at h;rename_i c4 hx;unfold afe at hx;split at hx;rename_i ps cl a4 a9;split at hx;rename_i l br bs r hl bt b0 ba;split at hx;rename_i hc;simp only[aC,dq] at hc;obtain⟨⟨⟨c1,cp⟩,rfl⟩,c3⟩:=hc;cases hx;cases hv:zm fA with
    |none=>
     have al:=aAc bl hv;have an:MI fA=fA:=by simp only[MI,hv]
     rw[az8 al] at a4;rw[az9 al] at a9;rw[an] at ba;simp only[T.aP,hv];intro y V W hR;have ac:ke p (O.at y):=⟨B.i,B.b,B.len,B.r⟩;have c5:Bi ty D.heap.size old (O.at y) d:=hP;obtain⟨a1,a2⟩:=Fh (O:=O.at y) (V:=V) c1;have cn:=XN hR (u.trans hw.len.symm) a3 c1 cp;rw[N2 hl,a1];cases ho:bh f (l.map (C.xv p)) with
     |none=>rw[ho] at h;cases h
     |some o=>
      rw[ho] at h;refine((bf f).1 al ps cl br bs a4 a9 bt b0 _ _ o ho (KE ac l) a2 W (bg W hR.base) cn).mono ?_;intro e W' hE;cases e with
      |outgrown=>exact hE.elim
      |panicked ch=>
       obtain⟨e1,pv,rfl,rfl⟩:=hE;simp only[dX] at h;exact⟨e1,bk pv W' h.symm (az7 hR.base e1)⟩
      |returned v=>
       obtain⟨yh,ys,rfl,e2,e3,rfl,e5,e6,e7⟩:=hE;rw[show C.xv (O.at y)=C.xv O from funext (C.Xl O y)] at e7;simp only at h;split at h;rename_i co;refine⟨ys,e3, ?_,e5,afn e6 (λb q=>(e7 b q).imp id (λbc=>Fi c1 bc)), ?_⟩;rw[<-Hv,afm ba,KF c3 e3 (by rw[ac.i]) (by rw[ac.b]) (by rw[ac.len])];refine IH n ae t _ _ _ st L h (B.ext e2) (HB e3 u) (hP.ext e3 u (λb q=> ?_)) (hC.mono ae);rcases e7 b q with h1|h1;exact .inl (mg hR.base.size h1);exact hP b (XM hw (Fi c1 h1));cases h
    |some Vq=>
     obtain⟨g,F,cs,al,v1,v2,v3,v4,v5,v6,v7,v8⟩:=aAd bl hv;have an:MI fA=one Vq.l:=by simp only[MI,hv]
     rw[aAa al] at a4;rw[aAb al] at a9;cases a4;cases a9;have ct:Y Vq.l=((eC 0 F.bx).map (·.2)).length:=by rw[v5,v4];simp
     rw[an,aAe ct] at ba;simp only[T.aP,hv];intro y V W hR;have ac:ke p (O.at y):=⟨B.i,B.b,B.len,B.r⟩;obtain⟨a1,a2⟩:=Fh (O:=O.at y) (V:=V) c1;cases ho:bh f (l.map (C.xv p)) with
     |none=>rw[ho] at h;cases h
     |some o=>
      rw[ho] at h;have cu:∀W',fq (S5 V bx) W W'->G W':=λW' hO=>bg W' ⟨hO.os.trans hR.base.os,hO.tape.trans hR.base.tape,hO.output.trans hR.base.output,mg hR.base.size hO.size,λk hk hs=>by
       rw[hO.block k (QW hk hR.base.size) (λhm=> ?_)];exact hR.base.block k hk hs;obtain⟨i,hi,rfl⟩:=fo.1 hm;rcases hR.own i (qj.1 hi).2 with h1|h1;exact bB h1 (Nat.not_le.2 hk);exact hs h1⟩
      have cv:=(bf f).2 g F al br bs bt b0 _ _ o ho (KE ac l) a2 S0 D V (O.at y) bx aa W (cf.take F.n) cs l hR (u.trans hw.len.symm) a3 v7 bS (by rw[v8,Jx];exact hl) c1 cp rfl cu;rw[v1,v2,v3];refine cv.mono ?_;intro e W' hE;cases e with
      |outgrown=>exact hE.elim|panicked ch=>exact hE.elim
      |returned v=>
       obtain⟨yh,ys,rfl,e2,e3,rfl,e5,cx,e6,e7⟩:=hE;rw[show C.xv (O.at y)=C.xv O from funext (C.Xl O y)] at e7;simp only at h;split at h;rename_i co;have cy:=KF (V:=V) c3 e3 (O:=O.at y) (by rw[ac.i]) (by rw[ac.b]) (by rw[ac.len]);have cA:(Vq.out.map λx=>ad V x.1)=(eC 0 F.bx).map λx=>ad V x.1:=by
        have h1:∀(A:List (Nat×TypeId))(l:aq),Y l=Y A->(((A.zip l).map λx=>(x.1.1,x.1.2,x.2.cells)).map λx=>ad V x.1)=A.map λx=>ad V x.1:=by
         intro A;induction A with
         |nil=>intro l _;simp
         |cons a A ih=>
          intro l hl;cases l with|nil=>simp at hl|cons v l=>simp only[Es,dH,ih l (by simpa using hl)]
        rw[VI.out,h1 _ _ v5,v4]
       refine⟨ys,e3,rfl,by rw[cA];exact e5,λx hx=> ?_,afn e6 (λb q=>(e7 b q).imp id (λbc=>Fi c1 bc)), ?_⟩;rw[VI.out,v4] at hx;obtain⟨z,z1,z2,z3⟩:=apu (O:=(O.at y).ext ys) (V:=V) ba (afo c3) x hx;rw[cy] at z1;have q:=cx z z1;have cB:mT x.2.1=false:=by
        obtain⟨w,cC,rfl⟩:=fo.1 hx;exact aps v7 (acu cC).1
       rw[z2] at q;rw[qC cB,<-Hv,q,z3];refine IH n ae t _ _ _ st L h (B.ext e2) (HB e3 u) (hP.ext e3 u (λb q=> ?_)) (hC.mono ae);rcases e7 b q with h1|h1;exact .inl (mg hR.base.size h1);exact hP b (XM hw (Fi c1 h1));cases h
    cases hx;cases hx;cases hx;cases h;cases h
   |loop ax ks x0 t=>
    simp only[run] at h;split at h;rename_i ab;have c6:=(Fh (O:=O) (V:=[]) ab).2;refine⟨IOf ty M Q bh D H old out ⟨ax,ks,t,p,d++gh ks⟩ st n,λxs=>N4 (S7 ty M Q bh H out ⟨ax,ks,t,p,d++gh ks⟩ st xs),⟨λb q=>hP b (Fi ab q),n,cd _,x0.map (C.xv p),KE B x0,h⟩, ?_⟩;intro xs hf ⟨i1,n1,i2,i3⟩;obtain⟨⟨xh,j1,j2⟩,j3⟩:=apv i3;refine IH _ ae t _ _ _ _ _ j2 (B.ext j1) (HB hf u) (hP.ext hf u i1) ?_;exact uK.cons _ _ _ _ _ _ (cd _) (mg j3 i2) (hC.mono ae);cases h
   |back ax x=>
    simp only[run] at h;split at h;rename_i fr cD cO;split at h;rename_i ab;obtain⟨N,m,g1,g2,g3⟩:=hC.find cO;simp only[T.aP,g3];have b1:S7 ty M Q bh H out fr cD (x.map (C.xv O)) n:=⟨x.map (C.xv p),KE B x,h⟩;refine⟨⟨λb q=>hP b (Fi ab q),n,ae,b1⟩, ?_⟩;have:=(apv b1).2;omega;cases h;cases h
   |new e x aa c7 t=>
    simp only[run] at h;split at h;rename_i he;have hw:=apq he;intro rv an;obtain⟨A,m,c,rfl,hm⟩:=an.val;subst hm;refine IH n ae t _ _ _ st L h (B.add (ao7 B x)) (by simp[aj.add,u]) ?_ (hC.mono ae);intro b ⟨k,e',hk,hl⟩;by_cases af:k<Y d;rw[fO af] at hk;refine hP b ⟨k,e',hk, ?_⟩;have:(O.add (.r (.mk (.slice A (x.ah O).length c) (x.ah O)))).rv k=O.rv k:=by simp[aj.rv,aj.add,fO,u,af]
    rw[<-this];exact hl;have a0:k=Y d:=by
     have:=(du.1 hk).1;simp at this;omega
    subst a0;simp at hk;subst hk;have e1:(O.add (.r (.mk (.slice A (x.ah O).length c) (x.ah O)))).rv (Y d)=.mk (.slice A (x.ah O).length c) (x.ah O):=by rw[<-u];simp[aj.rv,aj.add]
    rw[e1] at hl;have cW:=apm hl;rcases an.ph b cW with g|g|g;exact .inl g;exact .inr (b6 b g);exact hP b (XM hw g);cases h
   |ah k x aa t=>
    simp only[run] at h;split at h;rename_i he;refine IH n ae t _ _ _ st L h (B.add (ao7 B x)) (by simp[aj.add,u]) ?_ (hC.mono ae);intro b ⟨k',e',hk,hl⟩;by_cases af:k'<Y d;rw[fO af] at hk;refine hP b ⟨k',e',hk, ?_⟩;have:(O.add (.r (gu x O))).rv k'=O.rv k':=by simp[aj.rv,aj.add,fO,u,af]
    rw[<-this];exact hl;have a0:k'=Y d:=by
     have:=(du.1 hk).1;simp at this;omega
    subst a0;simp at hk;subst hk;cases k<;>simp[afg] at he;cases hl;cases h
   |gr g h' t f=>
    simp only[run] at h;rw[BE.dO B,BE.dO B] at h;refine⟨λq=> ?_,λq=> ?_⟩;rw[aH q] at h;split at h;exact IH n ae t p O d st L (XH h).1 B u hP (hC.mono ae);exact IH n ae t p O d st L h B u hP (hC.mono ae);simp only[q,dP] at h;split at h;exact IH n ae f p O d st L (XH h).2 B u hP (hC.mono ae);exact IH n ae f p O d st L h B u hP (hC.mono ae)
   |pick m g h' t f=>
    simp only[run] at h;refine⟨λj h1 h2 h3=> ?_,λq=> ?_⟩;have b2:ke (p.add (.i j)) (O.add (.i j)):=B.add (x:=.i j) (y:=.i j) rfl;have hj:=XI h _ (fo.2 ⟨U j,afk (g:=g) (h:=h') h1 (by rw[K.dO B];exact h2) (by rw[BE.dO b2];exact h3),rfl⟩);exact IH n ae t _ _ d st L hj b2 u hP (hC.mono ae);have hj:=XI h _ (fo.2 ⟨Z,afl (m:=m) (g:=g) (h:=h') (by rw[BE.dO B];exact q),rfl⟩);exact IH n ae f _ _ d st L hj B u hP (hC.mono ae)
   |eG f g e sp sb r aa t=>
    simp only[run] at h;split at h;rename_i he;simp only[aC] at he;obtain⟨he,bb⟩:=he;have b3:=RE.dO B r;split at h;rename_i c0 b4;obtain⟨ag,bd,c8⟩:=ape B b3.NY b4;refine⟨ag,alJ bd, ?_⟩;have b5:=aec (alJ bd);have c2:dN (.mk (r.rv p).val c0) (.mk (r.rv O).val ag):=b3.eG B b4 bd;refine IH n ae t _ _ _ st L h (B.add c2) (by simp[aj.add,u]) ?_ (hC.mono ae);intro b ⟨k,e',hk,hl⟩;by_cases af:k<Y d;rw[fO af] at hk;refine hP b ⟨k,e',hk, ?_⟩;have:(O.add (.r (.mk (r.rv O).val ag))).rv k=O.rv k:=by simp[aj.rv,aj.add,fO,u,af]
    rw[<-this];exact hl;have a0:k=Y d:=by
     have:=(du.1 hk).1;simp at this;omega
    subst a0;simp at hk;subst hk;have e1:(O.add (.r (.mk (r.rv O).val ag))).rv (Y d)=.mk (r.rv O).val ag:=by rw[<-u];simp[aj.rv,aj.add]
    rw[e1] at hl;unfold aff at bb;split at bb;rename_i k;exact hP b ⟨k,_,GN bb,azY hl b5⟩;cases hl with
    |own e rv b hl=>
     have h0:ag=[]:=by
      cases ag with|nil=>rfl|cons x xs=>have:=b5 x aw;simp[RE.rv] at this
     subst h0;simp only[RE.rv] at hl;cases hl with|deep e v ag i j c9 c z k b h1 h2 h3 h4=>simp at h1
    cases bb;cases h;cases h
def aAg(s:∀f,HC P ty M Q G f (bh f))(q:∀W y,Below W.heap.size W y->G W->G y)(p:G D)(o:fJ ty H=U X)(m:∀k b,rq ty X k b->old b->rq ty d u b):
  ∀(n:Nat)(t:T)(N O:aj)(F:bo)(x:List Fr)(L:dt),run ty M Q bh H n t N F x=U out->ke N O->Y O.r=Y F->Bi ty D.heap.size old O F->uK ty M Q bh D H old out n x L->
   t.aP (N3 P ty D H X d u out) O L:=
 apw (S0:=[]) s (λW B=>q _ _ (SY B) p) (λb R=>by simp[rg] at R) o
  (λv l bx aa N O V W j A i z h g e c w=>by
   obtain⟨a,h2⟩:=Fh (O:=O) (V:=V) A;exact⟨_,l.map (C.xv O),z,KE h l,h2,by rw[afm j,a],SY w.base,XN w g e A i,λb R=>(c b (Fi A R)).imp id (m _ b R)⟩)
  (λv W z B=>⟨SY B,v,z,rfl⟩)
def wa:aN->Bool
 |[]=>J|.ak (.sl _)::_=>E|.ak (.own _)::_=>E|_::X=>wa X
def apx:∀{ks:aN}{xs:aZ}{b:Nat},wa ks=J->¬rq ty ks xs b
 |[],xs,b,_,⟨q,e,W,X,_,_⟩=>by simp at X
 |k::ks,xs,b,h,⟨0,e,W,X,V,R⟩=>by
  simp at X;subst X;cases R<;>simp[wa] at h
 |k::ks,[],b,h,⟨q+1,e,W,X,V,R⟩=>by simp at V
 |k::ks,x::xs,b,h,⟨q+1,e,W,X,V,R⟩=>apx (ks:=ks) (xs:=xs) (b:=b) (by
   cases k with
   |ak r=>cases r<;>simp[wa] at h⊢<;>exact h
   |int _=>simpa[wa] using h|bool=>simpa[wa] using h) ⟨q,e,W,by simpa using X,by simpa using V,R⟩
def dJ(X:aE)(W:aZ):aj:=(⟨[],[],X,[]⟩:aj).ext W
end
def KG:C->aq
 |.agg l=>l|v=>[v]
def pN:aq->aq
 |[]=>[]|v::X=>KG v++pN X
def zD:C->aq
 |.bI l=>pN l|v=>KG v
def aAh:C->Bool
 |.gI _ (.int _ _)=>J|_=>E
def nI:aN->Nat
 |[]=>0|.int _::X=>nI X+1|_::X=>nI X
def nB:aN->Nat
 |[]=>0|.bool::X=>nB X+1|_::X=>nB X
def apy(c:Ty)(d:i7)(v:C)(W:bo):Bool:=match gv c d (uJ (Y d) v),fJ c d with|U l,U X=>iQ c W X l&&mW X|_,_=>E
def apz(c:Ty)(M Q:FuncId->mi)(f:FuncId)(O:aq)(N L:Nat)(W:bo)(V:aN)(fA:C):Bool:=match Nx M f,Ny Q f with
 |U R,U X=>match gv c R O,fJ c R,fJ c X,gv c X (uJ (Y X) (MI fA)) with|U l,U P,U H,U r=>iQ c W P l&&mW P&&decide (H=V)&&lz N L (Y W) V r|_,_,_,_=>E
 |_,_=>E
def S8(ax:Nat):List (Nat×aN)->Option aN
 |[]=>Z|x::X=>if x.1=ax then U x.2 else S8 ax X
def T.gw(c:Ty)(M Q:FuncId->mi)(d:i7):T->Nat->Nat->bo->List (Nat×aN)->Bool
 |.ret v _ O,_,_,X,_=>Fe X O&&apy c d v O|.bp v,_,_,_,_=>aAh v|.aK _ t f,V,R,X,W=>t.gw c M Q d V R X W&&f.gw c M Q d V R X W|.aS _ t,V,R,X,W=>t.gw c M Q d V R X W|.call f N L O P fA t,V,R,X,W=>Fe X O&&Nz c f N L fA&&apz c M Q f N V R O P fA&&t.gw c M Q d (V+nI P) (R+nB P) (X++gh P) W|.loop ax P H t,V,R,X,W=>iQ c X P H&&t.gw c M Q d (V+nI P) (R+nB P) (X++gh P) ((ax,P)::W)
 |.back ax x,_,_,X,W=>match S8 ax W with|U P=>iQ c X P x|none=>E
 |.new e _ O _ t,V,R,X,W=>Ff X O&&t.gw c M Q d V R (X++[.own e]) W|.ah k _ _ t,V,R,X,W=>afg k&&t.gw c M Q d V R (X++[k]) W|.gr _ _ t f,V,R,X,W=>t.gw c M Q d V R X W&&f.gw c M Q d V R X W|.pick _ _ _ t f,V,R,X,W=>t.gw c M Q d (V+1) R X W&&f.gw c M Q d V R X W|.eG _ _ e _ _ r O t,V,R,X,W=>Ff X O&&aff X r e&&t.gw c M Q d V R (X++[.own e]) W|.stuck _,_,_,_,_=>J|.out _ _,_,_,_,_=>E
structure Lp where
 ax:Nat
 t:T
 O:aj
abbrev mB:=List Lp
def wb(ax:Nat):mB->Option (Lp×mB)
 |[]=>Z|x::X=>if x.ax=ax then U (x,X) else wb ax X
def exec(bh:mA):Nat->T->aj->mB->jV
 |0,_,_,_=>Z|_+1,.ret v _ _,O,_=>U (.ret ((zD v).map (C.xv O)))|_+1,.bp v,O,_=>(KC O v).map .bp|n+1,.aK b t f,O,X=>if b.ai O then exec bh n t O X else exec bh n f O X|n+1,.aS b t,O,X=>if b.ai O then exec bh n t O X else Z
 |n+1,.call f R _ _ Q _ t,O,X=>match bh f ((pN R).map (C.xv O)) with|U (.ret V)=>if fC Q V then exec bh n t (O.ext V) X else Z|U (.bp v)=>U (.bp v)|none=>Z
 |n+1,.loop ax _ P t,O,X=>exec bh n t (O.ext (P.map (C.xv O))) (⟨ax,t,O⟩::X)
 |n+1,.back ax x,O,X=>match wb ax X with|U (W,N)=>exec bh n W.t (W.O.ext (x.map (C.xv O))) (W::N)|none=>Z
 |n+1,.new _ x _ _ t,O,X=>exec bh n t (O.add (.r (gu x O))) X|n+1,.ah _ x _ t,O,X=>exec bh n t (O.add (.r (gu x O))) X|n+1,.gr g h t f,O,X=>if g.ai O then(if h.ai O then C3 (exec bh n t O X) (exec bh n f O X) else exec bh n t O X) else(if h.ai O then exec bh n f O X else Z)
 |n+1,.pick m g h t f,O,X=>vZ ((xN m g h O).map λj=>match j with|U j=>exec bh n t (O.add (.i j)) X|none=>exec bh n f O X)
 |n+1,.eG _ _ _ M L r _ t,O,X=>match oK O M L (r.rv O).ah with|U H=>exec bh n t (O.add (.r (.mk (r.rv O).val H))) X|none=>Z
 |_,_,_,_=>Z
def aAi{c:Ty}{k:LK}{v:C}(h:C2 c g k v=J):KG v=[v]:=by
 unfold C2 at h;split at h<;>first|rfl|cases h
def S9{c:Ty}{P:bo}:∀{d:i7}{M l:aq}{X:aN},gv c d M=U l->fJ c d=U X->iQ c P X l=J->pN M=l
 |[],[],l,X,h,_,_=>by simp[gv] at h;simp[pN,h]|[],_::_,l,X,h,_,_=>by simp[gv] at h|_::_,[],l,X,h,_,_=>by simp[gv] at h
 |t::d,v::M,l,X,h,O,L=>by
  simp only[gv] at h;split at h;rename_i w r B H;simp only[fJ,B] at O;split at O;rename_i u G A F;cases A;cases O;have D:∀(a:aN)(b:aq),Y a=Y b->iQ c P (a++G) (b++r)=J->iQ c P a b=J/\iQ c P G r=true:=by
   intro a;induction a with
   |nil=>intro b N R;cases b with|nil=>exact⟨rfl,R⟩|cons=>simp at N
   |cons k a z=>intro b N R;cases b with
    |nil=>simp at N
    |cons x b=>
     simp only[cG,iQ,aC] at R⊢;obtain⟨W,Q⟩:=z b (by simpa using N) R.2;exact⟨⟨R.1,W⟩,Q⟩
  split at h;split at h;rename_i s;split at h;rename_i V;simp only[gc] at V;cases h;obtain⟨W,Q⟩:=D _ _ (by simp[V]) L;simp only[pN,KG,S9 H F Q];cases h;cases h;split at h;rename_i V;simp only[gc] at V;cases h;obtain⟨W,Q⟩:=D _ [v] (by simp[V]) L;obtain⟨q,y⟩:=pI.1 V;rw[y] at W;simp only[dH,oE,iQ,VN] at W;simp only[pN,aAi W,S9 H F Q,cG,cX];cases h;cases O;cases h
def aAj{c:Ty}{d:i7}{v:C}{Q:aN}(h:gv c d (uJ (Y d) v)=U t)(W:fJ c d=U Q)(R:iQ c g Q t=J):zD v=t:=by
 rw[<-S9 h W R];cases v
 case bI H=>
  simp only[uJ,zD];split;rename_i V;simp at V;exfalso;have O:=S9 h W R;simp only[uJ,V,beq_self_eq_true,dP] at h O;obtain⟨X,N⟩:=pI.1 V;subst N;simp only[gv,fJ] at h W;split at h;rename_i G r V M;cases M;split at h;cases h;split at h;rename_i P;cases h;rw[V] at W;simp only[dX] at W;subst W;simp at P;obtain⟨F,L⟩:=pI.1 P;rw[L] at R;simp only[dH,oE,JC,iQ,VN] at R
  grind [C2]
  cases h;cases h;rfl
 all_goals simp[uJ,zD,pN]
section
variable{c:Ty}{M Q:FuncId->mi}{bh:mA}{d:i7}
def HD:∀{X:aN}{W:aZ}{O:aj},dL X W->(O.ext W).i.length=Y O.i+nI X/\(O.ext W).b.length=Y O.b+nB X/\(O.ext W).r.length=Y O.r+(gh X).length
 |[],[],O,_=>⟨rfl,rfl,rfl⟩|[],_::_,O,h=>h.elim|_::_,[],O,h=>h.elim
 |k::X,x::W,O,h=>by
  obtain⟨V,R⟩:=h;obtain⟨Q,P,N⟩:=HD (O:=O.add x) R;simp only[aj.ext,Q,P,N];cases k<;>cases x<;>simp only[qA] at V<;>simp[aj.add,nI,nB,gh]<;>omega
inductive Bj(c:Ty)(M Q:FuncId->Option (List TypeId))(d:List TypeId):List (Nat×List LK)->List Lp->List Fr->Prop where
 |nil:Bj c M Q d [] [] []
 |cons (ax:Nat) (ks:List LK) (t:T) (O:aj) (rs:List RK) (lv:List (Nat×List LK)) (sl:List Lp) (st:List Fr):Y O.r=Y rs->t.gw c M Q d (Y O.i+nI ks) (Y O.b+nB ks) (rs++gh ks) ((ax,ks)::lv)=J->Bj c M Q d lv sl st->
   Bj c M Q d ((ax,ks)::lv) (⟨ax,t,O⟩::sl) (⟨ax,ks,t,O,rs++gh ks⟩::st)
def Bj.find{R:List (Nat×aN)}{P H:mB}{L:List Fr}{W:aN}{X:Lp}(h:Bj c M Q d R P L)(D:S8 N R=U W)(B:wb N P=U (X,H)):
  ∃V G F,KD N L=U (⟨X.ax,W,X.t,X.O,V++gh W⟩,F)/\Y X.O.r=Y V/\X.t.gw c M Q d (Y X.O.i+nI W) (Y X.O.b+nB W) (V++gh W) ((X.ax,W)::G)=J/\Bj c M Q d G H F:=by
 induction h with
 |nil=>simp[S8] at D
 |cons A z t O V R P L y x w v=>
  grind [S8,wb,KD]
def uL:∀(n:Nat)(t:T)(O:aj)(N:bo)(W:List (Nat×aN))(R:mB)(P:List Fr)(o:aX),exec bh n t O R=U o->t.gw c M Q d (Y O.i) (Y O.b) N W=J->Y O.r=Y N->Bj c M Q d W R P->
  run c M Q bh d n t O N P=U o
 |0,t,O,N,W,R,P,o,h,_,_,_=>by simp[exec] at h|n+1,.out _ _,O,N,W,R,P,o,h,_,_,_=>by simp[exec] at h|n+1,.stuck _,O,N,W,R,P,o,h,_,_,_=>by simp[exec] at h
 |n+1,.ret v bx F,O,N,W,R,P,o,h,X,L,H=>by
  simp only[exec,dX] at h;simp only[T.gw,aC] at X;obtain⟨w,X⟩:=X;simp only[run,w,dP,afd];unfold apy at X;split at X
  ·rename_i l D u s
   try rw[u,s]
   simp only[X,dP];simp at X;rw[<-aAj u s X.1,h]
  cases X
 |n+1,.bp v,O,N,W,R,P,o,h,X,L,H=>by simpa only[exec,run] using h
 |n+1,.aK b t f,O,N,W,R,P,o,h,X,L,H=>by
  simp only[exec] at h;simp only[T.gw,aC] at X;simp only[run];split at h;rename_i B;rw[aH B];exact uL n t O N W R P o h X.1 L H;rename_i B;rw[aJ B];exact uL n f O N W R P o h X.2 L H
 |n+1,.aS b t,O,N,W,R,P,o,h,X,L,H=>by
  simp only[exec] at h;simp only[T.gw] at X;simp only[run];split at h;rename_i B;rw[aH B];exact uL n t O N W R P o h X L H;cases h
 |n+1,.call f a0 bx F D fA t,O,N,W,R,P,o,h,X,L,H=>by
  simp only[exec] at h;simp only[T.gw,aC] at X;obtain⟨⟨⟨w,ab⟩,G⟩,ac⟩:=X;have af:=(XL w).1.len;simp only[run,w,ab,Cm,dP,afe];unfold apz at G;split at G
  ·rename_i ps qs u s
   try rw[u,s]
   try simp only
   split at G
   ·rename_i l pk qk r a g2 g3 g4
    try rw[a,g2,g3,g4]
    try simp only
    rw[af,<-L] at G;rw[aH G];simp only[aC] at G;rw[S9 a g2 G.1.1.1] at h
    try simp only
    split at h
    ·rename_i ys ho
     try rw[ho]
     try simp only
     split at h;rename_i aa;rw[aH aa];obtain⟨A,z,y⟩:=HD (O:=O) (az3 aa);exact uL n t _ _ W R P o h (by rw[A,z];exact ac) (by rw[y,fT,L]) H;cases h
    grind
    cases h
   cases G
  cases G
 |n+1,.loop ax D x0 t,O,N,W,R,P,o,h,X,L,H=>by
  simp only[exec] at h;simp only[T.gw,aC] at X;simp only[run,X.1,dP];obtain⟨A,z,y⟩:=HD (O:=O) (Fh (O:=O) (V:=[]) X.1).2;exact uL n t _ _ ((ax,D)::W) _ _ o h (by rw[A,z];exact X.2) (by rw[y,fT,L]) (Bj.cons _ _ _ _ _ _ _ _ L X.2 H)
 |n+1,.back ax x,O,N,W,R,P,o,h,X,L,H=>by
  simp only[exec] at h;simp only[T.gw] at X;split at h;rename_i p ag hf;split at X;rename_i D hk;obtain⟨F,al,a1,q1,q2,q3,q4⟩:=H.find hk hf;simp only[run,q1,X,dP];obtain⟨A,z,y⟩:=HD (O:=p.O) (Fh (O:=O) (V:=[]) X).2;exact uL n p.t _ _ ((p.ax,D)::al) (p::ag) _ o h (by rw[A,z];exact q3) (by rw[y,fT,q2]) (Bj.cons _ _ _ _ _ _ _ _ q2 q3 q4);cases X;cases h
 |n+1,.new e x F a3 t,O,N,W,R,P,o,h,X,L,H=>by
  simp only[exec] at h;simp only[T.gw,aC] at X;simp only[run,X.1,dP];exact uL n t _ _ W R P o h (by simpa[aj.add] using X.2) (by simp[aj.add,L]) H
 |n+1,.ah k x F t,O,N,W,R,P,o,h,X,L,H=>by
  simp only[exec] at h;simp only[T.gw,aC] at X;simp only[run,X.1,dP];exact uL n t _ _ W R P o h (by simpa[aj.add] using X.2) (by simp[aj.add,L]) H
 |n+1,.gr g h' t f,O,N,W,R,P,o,h,X,L,H=>by
  simp only[exec] at h;simp only[T.gw,aC] at X;simp only[run];have i1:=λq=>uL n t O N W R P o q X.1 L H
  have i2:=λq=>uL n f O N W R P o q X.2 L H
  split at h;rename_i hg;rw[aH hg];split at h;rename_i hh;rw[aH hh];exact apk h i1 i2
  grind
  grind
 |n+1,.pick m g h' t f,O,N,W,R,P,o,h,X,L,H=>by
  simp only[exec] at h;simp only[T.gw,aC] at X;simp only[run];refine apl h λj _ q=> ?_
  cases j with|some j=>exact uL n t (O.add (.i j)) N W R P o q (by simpa[aj.add] using X.1) (by simpa[aj.add] using L) H|none=>exact uL n f O N W R P o q X.2 L H
 |n+1,.eG f g e sp sb r F t,O,N,W,R,P,o,h,X,L,H=>by
  simp only[exec] at h;simp only[T.gw,aC] at X;simp only[run,X.1.1,X.1.2,Cm,dP];split at h
  ·rename_i a4 an
   try rw[an]
   exact uL n t _ _ W R P o h (by simpa[aj.add] using X.2) (by simp[aj.add,L]) H
  cases h
def xQ(bh:mA)(t:T)(O:aj)(X:mB)(o:aX):Prop:=∃n,exec bh n t O X=U o
def N5{bh:mA}{X:mB}{o:aX}:xQ bh b x X o<->∃n,exec bh (n+1) b x X=U o:=
 ⟨λ⟨n,h⟩=>by
  cases n with|zero=>simp[exec] at h|succ n=>exact⟨n,h⟩,λ⟨n,h⟩=>⟨n+1,h⟩⟩
@[simp] def aJt {v:C} {X:bm} {W:mB} {o:aX}:xQ bh (.ret v X g) x W o<->o=.ret ((zD v).map (C.xv x)):=by
 rw[N5];simp only[exec,dX]
 grind
@[simp] def aJu {v:C} {X:mB} {o:aX}:xQ bh (.bp v) x X o<->(KC x v).map .bp=U o:=by
 rw[N5];simp only[exec];simp
@[simp] def aJv {X:BE} {f:T} {W:mB} {o:aX}:xQ bh (.aK X b f) x W o<->if X.ai x=J then xQ bh b x W o else xQ bh f x W o:=by
 rw[N5];simp only[exec];split<;>rfl
@[simp] def aJw {X:BE} {W:mB} {o:aX}:xQ bh (.aS X b) x W o<->X.ai x=J/\xQ bh b x W o:=by
 rw[N5];simp only[exec];by_cases V:X.ai x=J;simp only[V,dP,true_and];rfl;simp[V]
@[simp] def aJx {W:aN} {X:mB} {o:aX}:xQ bh (.loop N W t b) x X o<->xQ bh b (x.ext (t.map (C.xv x))) (⟨N,b,x⟩::X) o:=by
 rw[N5];simp only[exec];rfl
@[simp] def aJy {X:LE} {V:bo} {W:mB} {o:aX}:xQ bh (.new k X g V b) x W o<->xQ bh b (x.add (.r (gu X x))) W o:=by
 rw[N5];simp only[exec];rfl
end
structure zE(P:Program)(g:FuncId)(eT:TypeId):Prop where
 zy:∀args W,(callFunc g args).run P W=.ok (.enter g args) W
 ret:∀(W:World)(b:Nat),CallsDIn Fence.wide 0 P g #[.pointer (U ⟨b,0,Z⟩)] .returning W λen u W'=>(∃v,en=.returned v)/\u=.returning/\W'=W
 bp:∀(W:World)(b:Nat)(k0 k:Int),W.heap[b]?=U (.cells #[.int I k0] eT (0,0))->CallsDIn Fence.wide 0 P g #[.pointer (U ⟨b,0,Z⟩)] (.panicking [{v:=.iface eT (.int I k),recovered:=E}]) W λen u W'=>
  (∃v,en=.returned v)/\u=.panicking [{v:=.iface eT (.int I k),recovered:=J}]/\W'=W.putObj b (.cells #[.int I k] eT (0,0))
def aAk{c:Code}{d:DI}(h:rW c=U d):∃Q P R X W first bE V,c=.seq (.region Q d.uA E) (.seq (.region P R E) d.rest)/\R= #[X,W]/\X.op=.makeFunc (.func d.g) first bE/\first= #[]/\bE= #[.tmp d.te]/\X.dst=U d.tf/\X.guard=Z/\W.op=.defer V/\V.callee=.value (.tmp d.tf)/\V.args= #[]/\W.guard=Z/\W.dst=none:=by
 unfold rW at h;split at h;rename_i Q uA P R x;unfold alD at h;split at h;rename_i X W N;split at h;rename_i g first bE w V M L H G F D
 split at h;rename_i v u B A z y;split at h;rename_i O;simp at O;subst O;cases h;exact⟨Q,P,R,X,W,first,bE,V,rfl,by apply nH;simp[N],M,by apply nH;simp[B],by apply nH;simp[A],L,H,G,z,by apply nH;simp[y],F,D⟩;cases h;cases h;cases h;cases h;cases h
section
variable{p:Sp}{cf:bv}
def aAl(j:ji p cf)(al:∀ch W,¬p.R (.panicked ch) W){B:Func}{c:Code}(hf:p.P.funcs[v]?=U B)(hb:B.body=U c){d:DI}(hd:rW c=U d)(bq:zE p.P d.g k)
  (ht:RO cf N v c B.ntmps B.results.toList k t l=b)(A:b.aP p x [])(hg:eD cf.gl x)(R:aA p.S0 p.w0 bU.none cf.ty y x {l with tmps:=[]} ⟨#[],[]⟩ p.w0):
  Calls p.P v (C.az x y t).toArray p.w0 p.R:=by
 subst ht;unfold RO at A;rw[hd] at A;simp only at A;obtain⟨i0,i1,cv,a,o2,first,bE,dc,hc,ho,g1,g2,g3,g4,g5,g6,g7,g8,g9,bs⟩:=aAk hd;subst ho g2 g3;refine Ku hf hb ?_;rw[hc];obtain⟨D1,af⟩:∃D1:bU,D1=⟨[],[],J,[]⟩:=⟨_,rfl⟩;have bx:ef p.w0 D1 l.pd x.y [] p.w0:=by
  subst af;have h:=R.dm;exact⟨h.len,h.rY,h.dK,h.inj,[],rfl,λ_=>rfl,aw,λd hd=>by simp at hd⟩
 have RE:=R.enter t B.ntmps bx;obtain⟨Rr,an⟩:=RE.room (mV d.uA.toList);refine Kt (vV (n:=0) (wpIn_region ?_));have hY:=Fc (p:=p) (cf:=cf) D1.dK ⟨{l with tmps:=t++ew (B.ntmps-Y t) (.bI [])},x,y,[]⟩;have a0:=A9 (ops:=d.uA) j.pt j.zj (zC Z) j.kM (Kx j (Ky j N).1 hY) (D:=D1) (k:=adi cf N v d k (Y l.au) B.results.toList) (kp:=λ_ _=>.stuck "") (Q:=Exit.then (λr q=>jU Z v p.P (.seq (.region i1 #[a,o2] E) d.rest) (bodyPostM Fence.wide 0 p.P B p.R) r q) (bodyPostM Fence.wide 0 p.P B p.R)) (λch r q pd X hA hR=>(al ch q hR).elim) (n:=0) (fU (λ_=>E) J E 0 (Y l.au) d.uA.toList) 0 _ [] [] x _ _ p.w0
  (λi m' hi=>by have:=Kw _ _ _ _ _ _ _ _ hi;simpa using this) ((jK.here _ _ _ _).go an (cU.refl _ _)) A (λM hx=>by cases hx) Rr hg ?_ (λL s' O' V' r q L' hl hL R' b0=>b0.elim)
 rw[SM] at a0;simpa[Vz] using a0;intro s1 O1 F w o L1 dY cx R1 aa;show jU Z v p.P (.seq (.region i1 #[a,o2] E) d.rest) (bodyPostM Fence.wide 0 p.P B p.R) w o;unfold adi at aa;split at aa;rename_i G b1;split at aa;rename_i a3;simp only[aC,jT,dq] at a3;obtain⟨⟨⟨a4,b2⟩,b3⟩,b4⟩:=a3;have b5:w.tmps[d.te]?=U (.pointer (U ⟨ad F G,0,Z⟩)):=by
  rcases R1.tmps _ _ b1 with h|h;cases h;exact h
 have b6:w.defers=[]:=by
  have h:=R1.dm;rw[af] at h;obtain⟨ms,q1,q0,-,-⟩:=h.mz;have:=q0 rfl;subst this;simpa using q1
 have b7:(C.fn d.g [.loc G 0]).ai O1 F=.func (.func d.g) #[] #[.pointer (U ⟨ad F G,0,Z⟩)]:=by simp[C.ai,C.az,zt,b4]
 have m:=R1.put (U d.tf) (.fn d.g [.loc G 0]);rw[b7] at m;obtain⟨z,ac⟩:∃z:Deferred,z={target:=.fn (.func d.g) #[.pointer (U ⟨ad F G,0,Z⟩)],args:= #[]}:=⟨_,rfl⟩;have b8:ef p.w0 ⟨[],[],E,[z]⟩ s1.pd O1.y [z] o:=by
  have h:=R1.dm;rw[af] at h;exact⟨h.len,h.rY,h.dK,h.inj,[],rfl,λ_=>rfl,aw,λd hd=>by simp at hd⟩
 have cy:(s1.put (U d.tf) (.fn d.g [.loc G 0])).pd=s1.pd:=rfl;have R2:aA p.S0 p.w0 ⟨[],[],E,[z]⟩ cf.ty F O1 (s1.put (U d.tf) (.fn d.g [.loc G 0])) {w.put (U d.tf) (.func (.func d.g) #[] #[.pointer (U ⟨ad F G,0,Z⟩)]) with defers:=[z]} o:=
  ⟨m.mem,m.gE,m.ei,m.eb,m.er,b8,m.size,m.tmps,m.eP⟩
 refine Kt (vV (n:=0) (wpIn_region ?_));have ca:dj (#[a,o2]:dG).size=[0,1]:=rfl;rw[ca];have e1:(execOp w.eval a).run p.P o=.ok (.value (.func (.func d.g) #[] #[.pointer (U ⟨ad F G,0,Z⟩)])) o:=by
  have:w.eval (.tmp d.te)=.pointer (U ⟨ad F G,0,Z⟩):=by simp[Act.eval,ach,b5]
  simp[execOp,g1,this,Instr.makeFunc]
 have e2:(execOp (w.put (U d.tf) (.func (.func d.g) #[] #[.pointer (U ⟨ad F G,0,Z⟩)])).eval o2).run p.P o=.ok (.defer z) o:=by
  have cc:d.tf<w.tmps.size:=by rw[R1.size];exact b3
  have:(w.put (U d.tf) (.func (.func d.g) #[] #[.pointer (U ⟨ad F G,0,Z⟩)])).eval (.tmp d.tf)=.func (.func d.g) #[] #[.pointer (U ⟨ad F G,0,Z⟩)]:=by
   simp[Act.eval,Act.put,ach,cc]
  simp[execOp,g6,resolve,g7,g8,this,Deferred.ofValue,ac]
 have cl:lM a (yielded #[a,o2] w.tmps)=true:=by simp[lM,g5]
 have cn:∀X,lM o2 X=true:=λX=>by simp[lM,g9]
 have co:∀c',a.op≠ .defer c':=λc' a9=>by rw[g1] at a9;cases a9
 have hF:=zC Z;show wpOpsIn _ 0 p.P #[a,o2] _ [0,1] w o;simp only[wpOpsIn,ak0,Ch,vw,cl,cn,dP];refine⟨λv _=>hF.fn v, ?_⟩;rw[AK _ _ _ co,e1,Oper.uponIn_value,g4];refine⟨λv _=>hF.fn v, ?_⟩;rw[show(SF Z).round=Z from rfl,awn,e2,aJn];have cp:({(w.put (U d.tf) (.func (.func d.g) #[] #[.pointer (U ⟨ad F G,0,Z⟩)])) with defers:=z::(w.put (U d.tf) (.func (.func d.g) #[] #[.pointer (U ⟨ad F G,0,Z⟩)])).defers}:Act).put o2.dst undef={w.put (U d.tf) (.func (.func d.g) #[] #[.pointer (U ⟨ad F G,0,Z⟩)]) with defers:=[z]}:=by
  rw[bs];have:(w.put (U d.tf) (.func (.func d.g) #[] #[.pointer (U ⟨ad F G,0,Z⟩)])).defers=[]:=b6;rw[this];rfl
 rw[cp];show jU Z v p.P d.rest (bodyPostM Fence.wide 0 p.P B p.R) _ o;have cs:(jK.mk (s1.put (U d.tf) (.fn d.g [.loc G 0])) O1 F L1).lT (s1.put (U d.tf) (.fn d.g [.loc G 0])) O1 F L1:=jK.here _ _ _ _;refine(Ky j N).1 ⟨[],[],E,[z]⟩ _ iD Z v d.rest _ _ L1 O1 F _ o _ (Fc _ _) cs rfl (λhh=>by cases hh) ⟨B,hf⟩ aa R2 ((hg.ext an.ext).ext dY.ext) (λch r q pd X hA hR=>(al ch q hR).elim) ?_;intro e s' O' V' r q L' hl hL RR A;obtain⟨ba,q1,q0,q2,q3⟩:=RR.dm.mz;have R3:=RR.rp q1;have cA:({r with defers:=[z]}:Act)={r with defers:=[z]}:=rfl;have bb:∀d0∈ba,q.heap[d0]?=U (.deferred (U [])):=λd0 ct=>(q3 d0 (by simp[ct])).1
 have bc:ba.Nodup:=(xk.1 q2).1;have bd:ad V' G=ad F G:=hl.ext.ad G b2;have bf:∀Wx,(invoke z.target z.args).run p.P Wx=.ok (.enter d.g #[.pointer (U ⟨ad F G,0,Z⟩)]) Wx:=λWx=>by
  rw[ac];simp[invoke,bq.zy]
 have bg:∀s2:S,∀Wx,aA p.S0 p.w0 ⟨[],[],E,[z]⟩ cf.ty V' O' s2 {r with defers:=[z]} Wx->(tc cf (Y l.au) B.results.toList s2).aP p O' L'->LeavesInM Fence.wide 0 p.P B r.tmps p.R [] .returning Wx:=by
  intro s2 Wx R4 ab;unfold tc at ab;split at ab;rename_i H cu;refine⟨_,Kq R4 j.kM cu, ?_⟩;exact ab O'.y V' _ (by rw[j.pt];exact(R4.mem.take _).lR (NS _));exact ab.elim
 have bk:(tc cf (Y l.au) B.results.toList s').aP p O' L'->LeavesInM Fence.wide 0 p.P B r.tmps p.R r.defers .returning q:=by
  intro ab;rw[q1];refine sd aw bc bb ⟨aw,.inr ⟨by simp[Fence.wide],_,_,_,_,by rw[ac],bf _,λg hg=>trivial, ?_⟩⟩;refine(bq.ret _ _).mono ?_;rintro en u W4 ⟨⟨L,rfl⟩,rfl,rfl⟩;exact bg s' _ R3 ab
 cases e with
 |normal=>exact bk A|ret=>exact bk A|exit id=>exact A.elim
 |bp L=>
  simp only[adh] at A;split at A;rename_i tt M;split at A;rename_i bt X bl;split at A;rename_i br;simp only[aC,gc] at br;obtain⟨rfl,rfl⟩:=br;have ag:=R3.mem.box G bt _ bl;rw[qC a4] at ag;rw[bd] at ag;show LeavesInM Fence.wide 0 p.P B r.tmps p.R r.defers (.panicking _) q;rw[q1];refine sd aw bc bb ⟨aw,.inr ⟨by simp[Fence.wide],_,_,_,_,by rw[ac],bf _,λg hg=>trivial, ?_⟩⟩;refine(bq.bp _ (ad F G) (X.ai O') (M.ai O') ag).mono ?_;rintro en u W4 ⟨⟨L,rfl⟩,rfl,rfl⟩;have R4:=R3.WO (cs':=[.int I M]) bl;rw[qC a4,bd] at R4;exact bg _ _ R4 A;exact A.elim;exact A.elim;exact A.elim
 exact aa.elim;exact aa.elim
end
def qH:T->T
 |.aK _ t _=>t|.aS _ t=>t|.call _ _ _ _ _ _ t=>t|.loop _ _ _ t=>t|.new _ _ _ _ t=>t|.ah _ _ _ t=>t|.gr _ _ t _=>t|.pick _ _ _ t _=>t|.eG _ _ _ _ _ _ _ t=>t|t=>t
def N6:T->T
 |.aK _ _ t=>t|.gr _ _ _ t=>t|.pick _ _ _ _ t=>t|t=>t
def tC(g t:T):T:=match g with|.stuck m=>.stuck m|_=>t
def T.cut(t:T):T->T:=T.rec (motive:=λ_=>T->T) (λe s g=>tC g (.out e s)) (λv b r g=>tC g (.ret v b r)) (λv g=>tC g (.bp v)) (λb _ _ X W g=>tC g (.aK b (X (qH g)) (W (N6 g)))) (λb _ X g=>tC g (.aS b (X (qH g)))) (λf a b r k s _ X g=>tC g (.call f a b r k s (X (qH g)))) (λl k x _ X g=>tC g (.loop l k x (X (qH g)))) (λl x g=>tC g (.back l x)) (λe x r V _ X g=>tC g (.new e x r V (X (qH g)))) (λk x r _ X g=>tC g (.ah k x r (X (qH g)))) (λb c _ _ X W g=>tC g (.gr b c (X (qH g)) (W (N6 g)))) (λn b c _ _ X W g=>tC g (.pick n b c (X (qH g)) (W (N6 g)))) (λf R e Q O r N _ X g=>tC g (.eG f R e Q O r N (X (qH g)))) (λm g=>tC g (.stuck m)) t
def wc{p:Sp}{g t:T}{L:dt}(h:(tC g t).aP p x L):t.aP p x L:=by
 unfold tC at h;split at h;exact h.elim;exact h
def we{p:Sp}:∀(t g:T)(O:aj)(L:dt),(t.cut g).aP p O L->t.aP p O L
 |.out _ _,_,_,_,h=>wc h|.ret _ _ _,_,_,_,h=>wc h|.bp _,_,_,_,h=>wc h|.back _ _,_,_,_,h=>wc h|.stuck _,_,_,_,h=>wc h
 |.aK b t f,g,O,L,h=>by
  have h:=wc (g:=g) (t:=.aK b (t.cut (qH g)) (f.cut (N6 g))) h;exact⟨λe=>we _ _ _ _ (h.1 e),λe=>we _ _ _ _ (h.2 e)⟩
 |.aS b t,g,O,L,h=>by
  have h:=wc (g:=g) (t:=.aS b (t.cut (qH g))) h;exact⟨h.1,we _ _ _ _ h.2⟩
 |.call f a b r k s t,g,O,L,h=>by
  have h:=wc (g:=g) (t:=.call f a b r k s (t.cut (qH g))) h;simp only[T.aP] at h⊢;cases A:zm s with
  |some Vq=>
   simp only[A] at h⊢;intro y V W H;refine(h y V W H).mono λe z R=> ?_
   cases e with
   |returned v=>
    obtain⟨M,Q,N,F,D,B,w⟩:=R;exact⟨M,Q,N,F,D,B,we _ _ _ _ w⟩
   |panicked c=>exact R|outgrown=>exact R
  |none=>
  simp only[A] at h⊢;intro y V W H;refine(h y V W H).mono λe z R=> ?_
  cases e with
  |returned v=>
   obtain⟨M,Q,N,F,D,B⟩:=R;exact⟨M,Q,N,F,D,we _ _ _ _ B⟩
  |panicked c=>exact R|outgrown=>exact R
 |.loop l k x t,g,O,L,h=>by
  have h:=wc (g:=g) (t:=.loop l k x (t.cut (qH g))) h;obtain⟨X,u,Q,N⟩:=h;exact⟨X,u,Q,λM a b=>we _ _ _ _ (N M a b)⟩
 |.new e x r q t,g,O,L,h=>by
  have h:=wc (g:=g) (t:=.new e x r q (t.cut (qH g))) h;exact λo a=>we _ _ _ _ (h o a)
 |.ah k x r t,g,O,L,h=>by
  have h:=wc (g:=g) (t:=.ah k x r (t.cut (qH g))) h;exact we t (qH g) _ _ h
 |.gr b c t f,g,O,L,h=>by
  have h:=wc (g:=g) (t:=.gr b c (t.cut (qH g)) (f.cut (N6 g))) h;exact⟨λe=>we _ _ _ _ (h.1 e),λe=>we _ _ _ _ (h.2 e)⟩
 |.pick n b c t f,g,O,L,h=>by
  have h:=wc (g:=g) (t:=.pick n b c (t.cut (qH g)) (f.cut (N6 g))) h;exact⟨λj m a2 i=>we _ _ _ _ (h.1 j m a2 i),λe=>we _ _ _ _ (h.2 e)⟩
 |.eG f d e sp st r rs t,g,O,L,h=>by
  have h:=wc (g:=g) (t:=.eG f d e sp st r rs (t.cut (qH g))) h;obtain⟨aa,Q,N⟩:=h;exact⟨aa,Q,we _ _ _ _ N⟩
def KH(c:Bool)(g t:T):T:=cond c (t.cut g) t
def apA{p:Sp}{c:Bool}{g:T}{L:dt}(h:(KH c g b).aP p x L):b.aP p x L:=by
 cases c;exact h;exact we _ _ _ _ h
section
variable{P:Program}{u:Ty}{M Q:FuncId->mi}{bh:mA}{G:World->Prop}{H B:i7}{X A:aN}
structure N7(u:Ty)(gl:oa)(glk:bo)(glv:aE)(W:World)(glw:aE):Prop where
 len:Y glv=Y glw
 eq:∀(k:Nat)(v v':RV),glv[k]?=U v->glw[k]?=U v'->dN v v'
 held:∀(k:Nat)(e:RK)(rv:RV),glk[k]?=U e->glw[k]?=U rv->bG W u e rv
 afr:∀xs,eD gl (dJ glw xs)
def afs{a:bv}{w:aE}{l:aq}{nb:Nat}{z:bo}
  (ac:a.ty=u)(af:∀f,HC P u M Q G f (bh f))(hG:∀e W',Below e.heap.size e W'->G e->G W')(ag:fJ u H=U X)
  (hl:gv u B t=U l)(al:lz 0 0 (Y w) A l=J)(bZ:z=g++gh A)(an:∀(k:Nat)(b:TypeId),z[k]?≠U (.own b))(a0:Y w=Y g)(d:w=[]\/wa X=J)
  (a1:∀F L,dL A L->(dJ F L).i.length=N)(a3:∀F L,dL A L->(dJ F L).b.length=nb)
   (a4:G e){F:aE}(n:N7 u a.gl g w e F){xh L:aZ}{o:aX}{V:Nat}(hN:run u M Q bh H V b (dJ w xh) z []=U o)(hx:xM xh L)(s:dL A L)(hH:xP u e A L):
  b.aP (N3 P u e H X A L o) (dJ F L) []/\C.az (dJ F L) [] t=qG u B (nU A L)/\aA [] e bU.none a.ty [] (dJ F L) ⟨[],[],N,nb,z,0,0,[]⟩ ⟨#[],[]⟩ e:=by
 have aa:Y F=Y g:=by rw[<-n.len];exact a0
 have hv:C.az (dJ F L) [] t=qG u B (nU A L):=by
  rw[N2 hl,dJ,KF (by rw[<-n.len];exact al) s rfl rfl rfl]
 have ab:(dJ F L).r.length=Y z:=by rw[bZ];exact HB s aa
 have hS:ke (dJ w xh) (dJ F L):=ke.ext ⟨rfl,rfl,n.len,λk v v' g1 g2=>n.eq k v v' g1 g2⟩ hx;have a9:b.aP (N3 P u e H X A L o) (dJ F L) []:=by
  refine aAg (old:=λR=>rq u A L R\/F≠[]) af hG a4 ag (λys R p c=> ?_) V b _ _ z [] [] hN hS ab ?_ (uK.nil _);rcases c with c|c;exact c;rcases d with d|d
  grind
  exact(apx d p).elim;rw[bZ];refine Bi.ext (λR p=> ?_) s aa (λR p=>.inr (.inl p));obtain⟨k,O,hk,hl⟩:=p
  grind
 have ba:∀(k:Nat)(O:RK)(D:RV),z[k]?=U O->(dJ F L).r[k]?=U D->bG e u O D:=by
  intro k O D g1 g2;have:=Hn (PP:=λO D=>bG e u O D) A L ⟨[],[],0,0,g,0,0,[]⟩ ⟨[],[],F,[]⟩ s aa (λq O D x m=>hH q O D x m) (λk O D x m=>n.held k O D x m);rw[S3] at this;exact this k O D (by rw[<-bZ];exact g1) g2
 exact⟨a9,hv,⟨⟨fq.refl _ _,λi h=>by simp[aL,bT] at h,λi j h=>by simp[aL,bT] at h,λi b cs h=>by simp[bT] at h,λk O D x m=>⟨by rw[ac];exact ba k O D x m,λR p i hi=>by simp[aL,bT] at hi⟩⟩,rfl,a1 _ L s,a3 _ L s,ab,by rw[show(dJ F L).y=[] from Hm L _];exact S2 _ _,rfl,λb sv h=>by simp at h,λk O D R x=>bB x (an k O)⟩⟩
def aAm{cf:bv}{y:Func}{c:Code}{F:aZ->jV}{glk:bo}{glv:aE}{l:aq}{x s:Nat}
  (ac:∀w R,(∀r W V o,w.heap.size<=V->R (.panicked r) W->R (.panicked r) (W.putObj V o))->ji ⟨P,u,[],w,bU.none,R,λ_ _ _=>False⟩ cf)(af:cf.ty=u)(ag:∀v,HC P u M Q G v (bh v))(hG:∀W q,Below W.heap.size W q->G W->G q)
  (hf:P.funcs[v]?=U y)(hb:y.body=U c)(al:M v=U B)(an:Q v=U H)(a0:fJ u B=U A)(m:fJ u H=U X)
  (hl:gv u B t=U l)(a1:lz 0 0 (Y glv) A l=J)(bZ:g=glk++gh A)(a3:∀(k:Nat)(b:TypeId),g[k]?≠U (.own b))(a4:Y glv=Y glk)(hq:glv=[]\/wa X=J)
  (a9:∀z D,dL A D->(dJ z D).i.length=x)(ba:∀z D,dL A D->(dJ z D).b.length=s)
  (bb:∀W,G W->∃z,N7 u cf.gl glk glv W z)
  (ht:∀(p:Sp)(O:aj),b.aP p O []->(RN cf N v c y.ntmps y.results.toList t ⟨[],[],x,s,g,0,0,[]⟩).aP p O [])
  (hF:∀D o,dL A D->F D=U o->∃L,run u M Q bh H L b (dJ glv D) g []=U o):XO P u M Q G v F:=by
 intro bd bf bg bk j h e d xh D o ho a aa W ab hH;rw[al] at j;cases j;rw[an] at h;cases h;rw[a0] at e;cases e;rw[m] at d;cases d;obtain⟨L,hN⟩:=hF xh o (SZ aa a) ho;obtain⟨z,hL⟩:=bb W ab;obtain⟨bc,hv,hR⟩:=afs af ag hG m hl a1 bZ a3 a4 hq a9 ba ab hL hN a aa hH;rw[<-hv];exact aoW (p:=N3 P u W H X A D o) (cf:=cf) (ac W _ (afq W)) hf hb rfl (ht _ _ bc) (hL.afr D) hR
def aAn{cf:bv}{s:Func}{c:Code}{F:aZ->jV}{glk:bo}{glv:aE}{l:aq}{j h:Nat}{d:DI}
  (ac:∀w R,(∀r W V o,w.heap.size<=V->R (.panicked r) W->R (.panicked r) (W.putObj V o))->ji ⟨P,u,[],w,bU.none,R,λ_ _ _=>False⟩ cf)(af:cf.ty=u)(ag:∀v,HC P u M Q G v (bh v))(hG:∀W q,Below W.heap.size W q->G W->G q)
  (hf:P.funcs[v]?=U s)(hb:s.body=U c)(hd:rW c=U d)(bq:zE P d.g k)(al:M v=U B)(an:Q v=U H)(a0:fJ u B=U A)(e:fJ u H=U X)
  (hl:gv u B t=U l)(a1:lz 0 0 (Y glv) A l=J)(bZ:g=glk++gh A)(a3:∀(L:Nat)(b:TypeId),g[L]?≠U (.own b))(a4:Y glv=Y glk)(hq:glv=[]\/wa X=J)
  (a9:∀x y,dL A y->(dJ x y).i.length=j)(ba:∀x y,dL A y->(dJ x y).b.length=h)
  (bb:∀W,G W->∃x,N7 u cf.gl glk glv W x)
  (ht:∀(p:Sp)(O:aj),b.aP p O []->(RO cf N v c s.ntmps s.results.toList k t ⟨[],[],j,h,g,0,0,[]⟩).aP p O [])(bd:∀y D,F y≠U (.bp D))
  (hF:∀y o,dL A y->F y=U o->∃z,run u M Q bh H z b (dJ glv y) g []=U o):XO P u M Q G v F:=by
 intro bf bg bk bl a h2 h3 h4 xh y o ho hx aa W ab hH;rw[al] at a;cases a;rw[an] at h2;cases h2;rw[a0] at h3;cases h3;rw[e] at h4;cases h4;obtain⟨z,hN⟩:=hF xh o (SZ aa hx) ho;obtain⟨x,hL⟩:=bb W ab;obtain⟨bc,hv,m⟩:=afs af ag hG e hl a1 bZ a3 a4 hq a9 ba ab hL hN hx aa hH;rw[<-hv];refine aAl (p:=N3 P u W H X A y o) (cf:=cf) (ac W _ (afq W)) (λr q m=> ?_) hf hb hd bq rfl (ht _ _ bc) (hL.afr y) m;obtain⟨-,D,h5,-⟩:=m
 grind
end
def apB:Op->Bool
 |.move _|.assign _|.fieldAddr _ _ _|.field _ _ _|.load _ _|.indexAddr _ _ _|.build _ _|.index _ _ _|.unOp _ _ _|.convert _ _ _|.makeInterface _ _|.makeFunc _ _ _|.extract _ _|.nilCheck _|.alloc _|.box _ _|.pick _ _ _=>J
 |.binOp X _ _ _ _=>match X with|.eql|.neq=>E|_=>J
 |_=>E
def afu(X:bv)(m:OM)(s:S):Bool:=(EF X m s).isSome
def aAo{X:bv}{m:OM}(h:afu X m l=E):EF X m l=none:=by
 simpa[afu] using h
def XP(R:bv)(O:qn)(m:OM)(s:S)(X:S->Fx->T)(Q:C->S->T)(V:Fx):T:=
 if apB m.o.op then match gJ R m s with|.ok W=>X W V|.aS b W=>.aS b (X W V)|.split b N M=>EE s V b (X N) (X M)|.no L=>.stuck L
 else if afu R m s then CA R O m s X Q V else match Cy R m s with
 |U (e,H,G,P)=>GV e (λg bE=>O (.fn g) (P++bE) s (λv W=>X (W.put m.o.dst v) (qr s V)) Q) H G
 |none=>
 match eu R s m.o with
 |.call (.fn g) P=>O (.fn g) P s (λv W=>X (W.put m.o.dst v) (qr s V)) Q|.call (.yl n) P=>if m.so then O (.yl n) P s (λv W=>X (W.put m.o.dst v) (qr s V)) Q else .stuck ""
 |.bp v=>Q v s|.no=>.stuck ""
 |.op=>match Cx R m s X V with
  |U t=>t
  |none=>match eY R m.o m.bM m.dr s with
  |U b=>.aS b.aS (.new b.e b.x s.rs b.s.rs (X b.s (qr s V)))
  |none=>match gJ R m s with|.ok W=>X W V|.aS b W=>.aS b (X W V)|.split b N M=>EE s V b (X N) (X M)|.no L=>.stuck L
def aAp(X:bv)(R:qn)(m:OM)(s:S)(Q:S->Fx->T)(P:C->S->T)(O:Fx):XP X R m s Q P O=CA X R m s Q P O:=by
 unfold XP;split;rename_i W;unfold CA;cases V:m.o.op<;>rw[V] at W<;>simp only[apB,iZ] at W<;>try(simp[Cy,EF,eu,Cx,eY,V]<;>rfl)
 rename_i N t x y z;cases N<;>simp only[iZ] at W<;>(simp[Cy,EF,eu,Cx,eY,V]<;>rfl);split;rfl;rename_i M;unfold CA;rw[aAo (by simpa using M)];cases Cy X m s<;>rfl
def OM.up(n:Nat)(m:OM):OM:={m with ix:=m.ix+n}
def XQ(bM:Nat->Bool)(X W:Bool)(k:Nat):∀(l:ql)(j n:Nat),fU bM X W j (n+k) l=(fU bM X W j n l).map (OM.up k)
 |[],_,_=>rfl
 |o::r,j,n=>by
  simp only[fU,dH];congr 1;rw[<-XQ bM X W k r]
  grind
def aAq(k:Nat)(l:cQ)(X:ar):MM (l.map (OM.up k)) X=(MM l X).map (OM.up k):=by
 simp only[MM,List.map_filterMap,ep]
theorem afv(k:Nat)(X:ar):∀l:cQ,CF X (l.map (OM.up k))=CF X l
 |[]=>rfl|x::r=>by simp only[dH,CF,afv k X r,Q9];rfl
def apC(k:Nat)(X:ar):∀(l W:cQ),vK X (W.map (OM.up k)) (l.map (OM.up k))=(vK X W l).map (OM.up k)
 |[],_=>rfl
 |m::r,W=>by
  simp only[dH,vK];congr 1;have h:=afv k X (m::r);simp at h;rw[h,Q9];rfl;rw[<-apC k X r (W++[m]),GJ];rfl
def apD(k:Nat)(X:dG):∀(l:cQ)(done:ar),G2 X done (l.map (OM.up k))=G2 X done l
 |[],_=>rfl|x::r,done=>by simp only[dH,G2,apD k X r];rfl
def aAr(k a b:Nat):(a+k !=b+k)=(a !=b):=by
 grind
def aAs(k:Nat)(X:dG)(x y:OM):vJ X (OM.up k x) (OM.up k y)=vJ X x y:=by
 have h:((OM.up k x).ix !=(OM.up k y).ix)=(x.ix !=y.ix):=aAr k _ _;unfold vJ ML Ru;rw[h];rfl
def apE(k:Nat)(X:dG)(W:ar):∀l:cQ,GY X W (l.map (OM.up k))=GY X W l
 |[]=>rfl
 |x::r=>by
  simp only[dH,GY,apE k X W r,Q9];congr 2;funext y;simp only[Function.comp,aAs];rfl
def apF(k:Nat):∀l:ar,oh (l.map (· +k))=oh l
 |[]=>rfl
 |x::r=>by
  simp only[dH,oh,apF k r];simp
def qI(X:dG)(n:Nat):cQ:=vK (qu X.toList) [] (MM (fU (Rw X.toList (qu X.toList)) E J 0 n X.toList) (Rv X.toList X.size []))
def aAt(X:dG)(n:Nat):qI X n=(qI X 0).map (OM.up n):=by
 unfold qI;rw[show fU (Rw X.toList (qu X.toList)) E J 0 n X.toList=(fU (Rw X.toList (qu X.toList)) E J 0 0 X.toList).map (OM.up n) by rw[<-XQ];simp,aAq,<-apC];rfl
def XR(X:dG)(n:Nat):Option cQ:=match EK X 0 with|U l=>U (l.map (OM.up n))|none=>Z
def apG(X:dG)(n:Nat):EK X n=if Wh X.toList (qu X.toList)&&G2 X [] (qI X n)&&GY X (qu X.toList) (qI X n)&&oh ((qI X n).filterMap (·.o.dst))&&oh ((qI X n).map (·.j))&&oh (((qI X n).filter λm=>gR m.o.op).map (·.ix))&&(qI X n).length==X.size&&(dj X.size).all (λi=>(qI X n).any λm=>m.j==i) then U (qI X n) else none:=rfl
def aAu(X:dG)(n:Nat):XR X n=EK X n:=by
 unfold XR;rw[apG X n,apG X 0,aAt X n,apD,apE];have W:((qI X 0).map (OM.up n)).filterMap (·.o.dst)=(qI X 0).filterMap (·.o.dst):=by rw[aJk];rfl
 have V:((qI X 0).map (OM.up n)).map (·.j)=(qI X 0).map (·.j):=by rw[oX];rfl
 have R:(((qI X 0).map (OM.up n)).filter λm=>gR m.o.op).map (·.ix)=(((qI X 0).filter λm=>gR m.o.op).map (·.ix)).map (· +n):=by rw[awo,oX,oX];rfl
 have Q:∀i,(((qI X 0).map (OM.up n)).any λm=>m.j==i)=((qI X 0).any λm=>m.j==i):=λi=>by rw[awv];rfl
 rw[W,V,R,apF,oW];simp only[Q]
 grind
def apH(W:Bool)(X:dG)(n:Nat):EO W X n=(EO W X 0).map (OM.up n)/\EP W X n=(EP W X 0).map (OM.up n):=by
 unfold EO EP;rw[show fU (λ_=>E) E J 0 n X.toList=(fU (λ_=>E) E J 0 0 X.toList).map (OM.up n) by rw[<-XQ];simp,awo,awo];exact⟨rfl,rfl⟩
theorem aAv(W:Bool)(X:dG)(n:Nat):MU W X n=MU W X 0:=by
 unfold MU;obtain⟨V,R⟩:=apH W X n;rw[V,R,show fU (λ_=>E) E J 0 n X.toList=(fU (λ_=>E) E J 0 0 X.toList).map (OM.up n) by rw[<-XQ];simp];unfold ac9;rw[<-GJ];have Q:∀l:cQ,(l.map (OM.up n)).filterMap (·.o.dst)=l.filterMap (·.o.dst):=λl=>by rw[aJk];rfl
 have P:∀l:cQ,(l.map (OM.up n)).map (·.j)=l.map (·.j):=λl=>by rw[oX];rfl
 rw[Q,P,oW];simp only[Q9,awv,Function.comp_def];rfl
def XS(V:bv)(W:Bool)(X:dG)(s:S):Option RA:=
 if(!W||(ac8 V s X.toList||(V.jF&&X.toList.any λo=>alz o.op))&&CF (qu X.toList) (EP W X 0))&&MU W X 0 then(G5 V ((EO W X 0).map (OM.up (Y s.au))) (s.room (mV X.toList))).bind (chI V ((EO W X 0).map (OM.up (Y s.au))) ((EP W X 0).map (OM.up (Y s.au)))) else Z
def aAw(V:bv)(X:Bool)(W:dG)(s:S):XS V X W s=MV V X W s:=by
 unfold XS MV;obtain⟨R,Q⟩:=apH X W (Y s.au)
 grind [aAv,afv]
def KI{X:Type}(l:List X):(List X->T)->T:=AL (motive:=λ_=>(List X->T)->T) (λk=>k []) (λx _ W k=>W λV=>k (x::V)) l
def afw{W:Type}:∀(l:List W)(k:List W->T),KI l k=k l
 |[],_=>rfl|x::X,k=>afw X λX=>k (x::X)
def cz(n:Nat)(k:Nat->T):T:=JG (motive:=λ_=>T) (k 0) (λm _=>k (Nat.succ m)) n
def lA:∀(n:Nat)(k:Nat->T),cz n k=k n
 |0,_=>rfl|_+1,_=>rfl
def S.afx(s:S)(k:S->T):T:=S.rec (motive:=λ_=>T) (λX b W V R ax Q P=>KI X λX=>KI b λb=>cz W λW=>cz V λV=>KI R λR=>cz ax λax=>cz Q λQ=>KI P λP=>k ⟨X,b,W,V,R,ax,Q,P⟩) s
def aAx(s:S)(k:S->T):s.afx k=k s:=by
 cases s;simp only[S.afx,afw,lA]
def Ta{X:Type}(l:List X)(k:List X->T):T:=AL (motive:=λ_=>T) (k []) (λx W _=>k (x::W)) l
def aAy{X:Type}(l:List X)(k:List X->T):Ta l k=k l:=by cases l<;>rfl
def S.afy(s:S)(k:S->T):T:=S.rec (motive:=λ_=>T) (λX b W V R ax Q P=>Ta X λX=>Ta b λb=>cz W λW=>cz V λV=>Ta R λR=>cz ax λax=>cz Q λQ=>Ta P λP=>k ⟨X,b,W,V,R,ax,Q,P⟩) s
def aAz(s:S)(k:S->T):s.afy k=k s:=by
 cases s;simp only[S.afy,aAy,lA]
def Bk(X:bv)(W:qn)(V:dG)(k:S->T)(R:C->S->T):cQ->S->Fx->T
 |[],s,_=>k s|m::Q,s,P=>s.afy λs=>V9 V m s P (XP X W m s (Bk X W V k R Q) R) (Bk X W V k R Q (s.put m.o.dst (.bI [])))
def Tb(X:bv)(W:qn)(R:dG)(k:S->T)(V:C->S->T):∀(l:cQ),Bk X W R k V l=lN X W R k V l
 |[]=>by funext s P;rfl
 |m::Q=>by
  funext s P;have:XP X W m s (Bk X W R k V Q) V=CA X W m s (lN X W R k V Q) V:=by
   funext P;rw[aAp,Tb X W R k V Q]
  simp only[Bk,lN,aAz];rw[this,Tb X W R k V Q]
def Td(n:Int)(k:Int->T):T:=Int.rec (motive:=λ_=>T) (λn=>cz n λn=>k (alh n)) (λn=>cz n λn=>k (ale n)) n
def aAA:∀(n:Int)(k:Int->T),Td n k=k n
 |.ofNat n,k=>lA n λn=>k (alh n)|.negSucc n,k=>lA n λn=>k (ale n)
def K.deep(e:K):(K->T)->T:=K.rec (motive_1:=λ_=>(K->T)->T) (motive_2:=λ_=>(BE->T)->T) (motive_3:=λ_=>(RE->T)->T) (λn k=>Td n λn=>k (.c n)) (λn k=>cz n λn=>k (.v n)) (λo q a b X W k=>X λa=>W λb=>k (.bin o q a b)) (λq a X k=>X λa=>k (.conv q a)) (λr V k=>V λr=>k (.len r)) (λm a b X W k=>X λa=>W λb=>k (.mm m a b)) (λb x y W P O k=>W λb=>P λx=>O λy=>k (.dw b x y)) (λr i j V R k=>V λr=>R λi=>cz j λj=>k (.cell r i j)) (λr i V R k=>V λr=>R λi=>k (.oZ r i)) (λr n a b c j V X W Q k=>V λr=>X λa=>W λb=>Q λc=>cz n λn=>cz j λj=>k (.look r n a b c j)) (λb k=>k (.c b)) (λn k=>cz n λn=>k (.v n)) (λo a b X W k=>X λa=>W λb=>k (.cmp o a b)) (λa X k=>X λa=>k (.not a)) (λa b X W k=>X λa=>W λb=>k (.and a b)) (λa b X W k=>X λa=>W λb=>k (.beq a b)) (λb x y W P O k=>W λb=>P λx=>O λy=>k (.dw b x y)) (λr i j V R k=>V λr=>R λi=>cz j λj=>k (.cell r i j)) (λa b X W k=>X λa=>W λb=>k (.seq a b)) (λr n a b c j V X W Q k=>V λr=>X λa=>W λb=>Q λc=>cz n λn=>cz j λj=>k (.look r n a b c j)) (λr n a b c V X W Q k=>V λr=>X λa=>W λb=>Q λc=>cz n λn=>k (.has r n a b c)) (λn k=>cz n λn=>k (.v n)) (λr i j q V R k=>V λr=>R λi=>cz j λj=>k (.cell r i j q)) (λv k=>k (.k v)) e
def BE.deep(e:BE):(BE->T)->T:=BE.rec (motive_1:=λ_=>(K->T)->T) (motive_2:=λ_=>(BE->T)->T) (motive_3:=λ_=>(RE->T)->T) (λn k=>Td n λn=>k (.c n)) (λn k=>cz n λn=>k (.v n)) (λo q a b X W k=>X λa=>W λb=>k (.bin o q a b)) (λq a X k=>X λa=>k (.conv q a)) (λr V k=>V λr=>k (.len r)) (λm a b X W k=>X λa=>W λb=>k (.mm m a b)) (λb x y W P O k=>W λb=>P λx=>O λy=>k (.dw b x y)) (λr i j V R k=>V λr=>R λi=>cz j λj=>k (.cell r i j)) (λr i V R k=>V λr=>R λi=>k (.oZ r i)) (λr n a b c j V X W Q k=>V λr=>X λa=>W λb=>Q λc=>cz n λn=>cz j λj=>k (.look r n a b c j)) (λb k=>k (.c b)) (λn k=>cz n λn=>k (.v n)) (λo a b X W k=>X λa=>W λb=>k (.cmp o a b)) (λa X k=>X λa=>k (.not a)) (λa b X W k=>X λa=>W λb=>k (.and a b)) (λa b X W k=>X λa=>W λb=>k (.beq a b)) (λb x y W P O k=>W λb=>P λx=>O λy=>k (.dw b x y)) (λr i j V R k=>V λr=>R λi=>cz j λj=>k (.cell r i j)) (λa b X W k=>X λa=>W λb=>k (.seq a b)) (λr n a b c j V X W Q k=>V λr=>X λa=>W λb=>Q λc=>cz n λn=>cz j λj=>k (.look r n a b c j)) (λr n a b c V X W Q k=>V λr=>X λa=>W λb=>Q λc=>cz n λn=>k (.has r n a b c)) (λn k=>cz n λn=>k (.v n)) (λr i j q V R k=>V λr=>R λi=>cz j λj=>k (.cell r i j q)) (λv k=>k (.k v)) e
def RE.deep(e:RE):(RE->T)->T:=RE.rec (motive_1:=λ_=>(K->T)->T) (motive_2:=λ_=>(BE->T)->T) (motive_3:=λ_=>(RE->T)->T) (λn k=>Td n λn=>k (.c n)) (λn k=>cz n λn=>k (.v n)) (λo q a b X W k=>X λa=>W λb=>k (.bin o q a b)) (λq a X k=>X λa=>k (.conv q a)) (λr V k=>V λr=>k (.len r)) (λm a b X W k=>X λa=>W λb=>k (.mm m a b)) (λb x y W P O k=>W λb=>P λx=>O λy=>k (.dw b x y)) (λr i j V R k=>V λr=>R λi=>cz j λj=>k (.cell r i j)) (λr i V R k=>V λr=>R λi=>k (.oZ r i)) (λr n a b c j V X W Q k=>V λr=>X λa=>W λb=>Q λc=>cz n λn=>cz j λj=>k (.look r n a b c j)) (λb k=>k (.c b)) (λn k=>cz n λn=>k (.v n)) (λo a b X W k=>X λa=>W λb=>k (.cmp o a b)) (λa X k=>X λa=>k (.not a)) (λa b X W k=>X λa=>W λb=>k (.and a b)) (λa b X W k=>X λa=>W λb=>k (.beq a b)) (λb x y W P O k=>W λb=>P λx=>O λy=>k (.dw b x y)) (λr i j V R k=>V λr=>R λi=>cz j λj=>k (.cell r i j)) (λa b X W k=>X λa=>W λb=>k (.seq a b)) (λr n a b c j V X W Q k=>V λr=>X λa=>W λb=>Q λc=>cz n λn=>cz j λj=>k (.look r n a b c j)) (λr n a b c V X W Q k=>V λr=>X λa=>W λb=>Q λc=>cz n λn=>k (.has r n a b c)) (λn k=>cz n λn=>k (.v n)) (λr i j q V R k=>V λr=>R λi=>cz j λj=>k (.cell r i j q)) (λv k=>k (.k v)) e
mutual
def K.fD:∀(e:K)(k:K->T),e.deep k=k e
 |.c n,k=>by show(Td n λn=>k (.c n))=_;rw[aAA]|.v n,k=>by show(cz n λn=>k (.v n))=_;rw[lA]|.bin o q a b,k=>by show(K.deep a λa=>K.deep b λb=>k (.bin o q a b))=_;rw[K.fD a,K.fD b]|.conv q a,k=>by show(K.deep a λa=>k (.conv q a))=_;rw[K.fD a]|.len r,k=>by show(RE.deep r λr=>k (.len r))=_;rw[RE.fD r]|.mm m a b,k=>by show(K.deep a λa=>K.deep b λb=>k (.mm m a b))=_;rw[K.fD a,K.fD b]|.dw b x y,k=>by show(BE.deep b λb=>K.deep x λx=>K.deep y λy=>k (.dw b x y))=_;rw[BE.fD b,K.fD x,K.fD y]|.cell r i j,k=>by show(RE.deep r λr=>K.deep i λi=>cz j λj=>k (.cell r i j))=_;rw[RE.fD r,K.fD i,lA]|.oZ r i,k=>by show(RE.deep r λr=>K.deep i λi=>k (.oZ r i))=_;rw[RE.fD r,K.fD i]|.look r n a b c j,k=>by show(RE.deep r λr=>K.deep a λa=>K.deep b λb=>K.deep c λc=>cz n λn=>cz j λj=>k (.look r n a b c j))=_;rw[RE.fD r,K.fD a,K.fD b,K.fD c,lA,lA]
def BE.fD:∀(e:BE)(k:BE->T),e.deep k=k e
 |.c b,k=>rfl|.v n,k=>by show(cz n λn=>k (.v n))=_;rw[lA]|.cmp o a b,k=>by show(K.deep a λa=>K.deep b λb=>k (.cmp o a b))=_;rw[K.fD a,K.fD b]|.not a,k=>by show(BE.deep a λa=>k (.not a))=_;rw[BE.fD a]|.and a b,k=>by show(BE.deep a λa=>BE.deep b λb=>k (.and a b))=_;rw[BE.fD a,BE.fD b]|.beq a b,k=>by show(BE.deep a λa=>BE.deep b λb=>k (.beq a b))=_;rw[BE.fD a,BE.fD b]|.dw b x y,k=>by show(BE.deep b λb=>BE.deep x λx=>BE.deep y λy=>k (.dw b x y))=_;rw[BE.fD b,BE.fD x,BE.fD y]|.cell r i j,k=>by show(RE.deep r λr=>K.deep i λi=>cz j λj=>k (.cell r i j))=_;rw[RE.fD r,K.fD i,lA]|.seq a b,k=>by show(RE.deep a λa=>RE.deep b λb=>k (.seq a b))=_;rw[RE.fD a,RE.fD b]|.look r n a b c j,k=>by show(RE.deep r λr=>K.deep a λa=>K.deep b λb=>K.deep c λc=>cz n λn=>cz j λj=>k (.look r n a b c j))=_;rw[RE.fD r,K.fD a,K.fD b,K.fD c,lA,lA]|.has r n a b c,k=>by show(RE.deep r λr=>K.deep a λa=>K.deep b λb=>K.deep c λc=>cz n λn=>k (.has r n a b c))=_;rw[RE.fD r,K.fD a,K.fD b,K.fD c,lA]
def RE.fD:∀(e:RE)(k:RE->T),e.deep k=k e
 |.v n,k=>by show(cz n λn=>k (.v n))=_;rw[lA]|.cell r i j q,k=>by show(RE.deep r λr=>K.deep i λi=>cz j λj=>k (.cell r i j q))=_;rw[RE.fD r,K.fD i,lA]|.k v,k=>rfl
end
def C.deep(v:C):(C->T)->T:=C.rec (motive_1:=λ_=>(C->T)->T) (motive_2:=λ_=>(aq->T)->T) (λq e k=>e.deep λe=>k (.int q e)) (λb k=>b.deep λb=>k (.bool b)) (λr k=>r.deep λr=>k (.ak r)) (λi o k=>cz i λi=>cz o λo=>k (.loc i o)) (λr w i o k=>r.deep λr=>i.deep λi=>cz w λw=>cz o λo=>k (.el r w i o)) (λi o l c k=>cz i λi=>cz o λo=>cz l λl=>cz c λc=>k (.iP i o l c)) (λl X k=>X λl=>k (.agg l)) (λl X k=>X λl=>k (.bI l)) (λf l X k=>X λl=>cz f λf=>k (.fn f l)) (λt x W k=>W λx=>k (.gI t x)) (λn k=>cz n λn=>k (.yl n)) (λk=>k .any) (λi k=>cz i λi=>k (.mp i)) (λe R V Q k=>e.deep λe=>Q λV=>k (.gq e R V)) (λk=>k []) (λ_ _ W P k=>W λx=>P λO=>k (x::O)) v
def C.Fk(l:aq):(aq->T)->T:=C.rec_1 (motive_1:=λ_=>(C->T)->T) (motive_2:=λ_=>(aq->T)->T) (λq e k=>e.deep λe=>k (.int q e)) (λb k=>b.deep λb=>k (.bool b)) (λr k=>r.deep λr=>k (.ak r)) (λi o k=>cz i λi=>cz o λo=>k (.loc i o)) (λr w i o k=>r.deep λr=>i.deep λi=>cz w λw=>cz o λo=>k (.el r w i o)) (λi o l c k=>cz i λi=>cz o λo=>cz l λl=>cz c λc=>k (.iP i o l c)) (λl X k=>X λl=>k (.agg l)) (λl X k=>X λl=>k (.bI l)) (λf l X k=>X λl=>cz f λf=>k (.fn f l)) (λt x W k=>W λx=>k (.gI t x)) (λn k=>cz n λn=>k (.yl n)) (λk=>k .any) (λi k=>cz i λi=>k (.mp i)) (λe R V Q k=>e.deep λe=>Q λV=>k (.gq e R V)) (λk=>k []) (λ_ _ W P k=>W λx=>P λO=>k (x::O)) l
mutual
def C.fD:∀(v:C)(k:C->T),v.deep k=k v
 |.int q e,k=>by show(K.deep e λe=>k (.int q e))=_;rw[K.fD]|.bool b,k=>by show(BE.deep b λb=>k (.bool b))=_;rw[BE.fD]|.ak r,k=>by show(RE.deep r λr=>k (.ak r))=_;rw[RE.fD]|.loc i o,k=>by show(cz i λi=>cz o λo=>k (.loc i o))=_;rw[lA,lA]|.el r w i o,k=>by show(RE.deep r λr=>K.deep i λi=>cz w λw=>cz o λo=>k (.el r w i o))=_;rw[RE.fD,K.fD,lA,lA]|.iP i o l c,k=>by show(cz i λi=>cz o λo=>cz l λl=>cz c λc=>k (.iP i o l c))=_;rw[lA,lA,lA,lA]|.agg l,k=>by show(C.Fk l λl=>k (.agg l))=_;rw[C.KJ l]|.bI l,k=>by show(C.Fk l λl=>k (.bI l))=_;rw[C.KJ l]|.fn f l,k=>by show(C.Fk l λl=>cz f λf=>k (.fn f l))=_;rw[C.KJ l,lA]|.gI t x,k=>by show(C.deep x λx=>k (.gI t x))=_;rw[C.fD x]|.yl n,k=>by show(cz n λn=>k (.yl n))=_;rw[lA]|.any,k=>rfl|.mp i,k=>by show(cz i λi=>k (.mp i))=_;rw[lA]|.gq e W X,k=>by show(K.deep e λe=>C.Fk X λX=>k (.gq e W X))=_;rw[K.fD,C.KJ X]
def C.KJ:∀(l:aq)(k:aq->T),C.Fk l k=k l
 |[],k=>rfl|x::X,k=>by show(C.deep x λx=>C.Fk X λX=>k (x::X))=_;rw[C.fD x,C.KJ X]
end
def afz(l:bm):(bm->T)->T:=AL (motive:=λ_=>(bm->T)->T) (λk=>k []) (λx _ V k=>Option.rec (motive:=λ_=>T) (V λX=>k (Z::X)) (λb=>Prod.rec (motive:=λ_=>T) (λt W=>cz t λt=>C.Fk W λW=>V λX=>k (U (t,W)::X)) b) x) l
def afA:∀(l:bm)(k:bm->T),afz l k=k l
 |[],_=>rfl|Z::X,k=>afA X _
 |U (t,W)::X,k=>by
  show(cz t λt=>C.Fk W λW=>afz X λX=>k (U (t,W)::X))=_;rw[lA,C.KJ,afA]
def S.deep(s:S)(k:S->T):T:=S.rec (motive:=λ_=>T) (λX b W V R ax Q P=>C.Fk X λX=>afz b λb=>cz W λW=>cz V λV=>KI R λR=>cz ax λax=>cz Q λQ=>KI P λP=>k ⟨X,b,W,V,R,ax,Q,P⟩) s
def fD(s:S)(k:S->T):s.deep k=k s:=by
 cases s;simp only[S.deep,afw,lA,C.KJ,afA]
def afB(k:XE->S->T):XE->S->T:=λe s=>s.deep (k e)
def aAB(k:XE->S->T):afB k=k:=by funext e s;exact fD s (k e)
def qJ(l:ar):Nat:=AL (motive:=λ_=>Nat) 0 (λd _ m=>b9 (nG 1 d) m) l
def HE(m n:Nat):Bool:=Mw (motive:=λ_=>Bool) J E (jq (Nat.land 1 (aws m n)) 0)
def apI(m n:Nat):HE m n=m.testBit n:=by
 have:m.testBit n= !(jq (Nat.land 1 (aws m n)) 0):=by
  show((1&&&(m>>>n))!=0)= !(jq (1&&&(m>>>n)) 0);cases h:jq (1&&&(m>>>n)) 0 with|true=>rw[aI4 h];rfl|false=>simp only[bne,Bool.not_false,jT,beq_eq_false_iff_ne];exact λe=>by rw[e] at h;cases h
 rw[this,HE];cases jq (Nat.land 1 (aws m n)) 0<;>rfl
def XT:∀(l:ar)(n:Nat),(qJ l).testBit n=l.contains n
 |[],n=>by simp[qJ]
 |d::l,n=>by
  have:qJ (d::l)=(1<<<d)|||qJ l:=rfl;rw[this,JD,XT l n,av9,aJb]
  grind
def aAC(l:ar)(n:Nat):HE (qJ l) n=l.contains n:=by rw[apI,XT]
def XU(a:fG)(m X:Nat)(W:aq):Nat->aq->aq
 |_,[]=>[]|n,x::V=>(if HE X n then(xx n a.tm W).getD (if HE m n then .any else x) else if HE m n then .any else x)::XU a m X W (n+1) V
def apJ{n:Nat}:∀{W:List (Nat×LK)}{X:aq},(W.map (·.1)).contains n=E->xx n W X=Z
 |[],X,_=>by cases X<;>rfl
 |(t,k)::r,[],_=>rfl
 |(t,k)::r,v::R,h=>by
  simp only[dH,List.contains_cons,yT] at h;have V:(t==n)=false:=by
   grind
  simp only[xx,V,iZ,jE];exact apJ h.2
def apK(a:fG)(X:ar)(W:aq):∀(n:Nat)(l:aq),XU a (qJ X) (qJ (a.tm.map (·.1))) W n l=CD a X W n l
 |_,[]=>rfl
 |n,x::V=>by
  simp only[XU,CD,apK a X W (n+1) V,aAC];cases R:(a.tm.map (·.1)).contains n with|true=>rfl|false=>rw[apJ R];rfl
def Te(m:Nat):Nat->aq->aq->Bool
 |_,[],[]=>J|n,x::X,y::W=>(HE m n||C.aR x y)&&Te m (n+1) X W|_,_,_=>E
def afC(a:fG)(X:ar):∀(n:Nat)(l k:aq),Te (b9 (qJ X) (qJ (a.tm.map (·.1)))) n l k=AT a X n l k
 |_,[],[]=>rfl|_,[],_::_=>rfl|_,_::_,[]=>rfl
 |n,x::W,y::V=>by
  simp only[Te,AT,afC a X (n+1) W V];congr 1;have:HE (b9 (qJ X) (qJ (a.tm.map (·.1)))) n=(a.tm.any (·.1==n)||X.contains n):=by
   rw[apI];change((qJ X)|||(qJ (a.tm.map (·.1)))).testBit n=_;rw[JD,XT,XT,Bool.or_comm]
   grind
  rw[this]
def afD(a:fG)(X:ar)(s:S):S:=
 let r:aq×S:=S.bW {s with ax:=s.ax+1,rs:=jH a s} a.ks
 {r.2 with tmps:=XU a (qJ X) (qJ (a.tm.map (·.1))) r.1 0 s.tmps,au:=vG a (r.1.drop (Y a.tm)) 0 s.au}
def aAD(a:fG)(X:ar)(s:S):afD a X s=rV a X s:=by
 simp only[afD,rV,apK]
def afE(W:fG)(V:ar)(s:S)(k:XE->S->T):XE->S->T
 |.normal,X=>if Te (b9 (qJ V) (qJ (W.tm.map (·.1)))) 0 s.tmps X.tmps&&uw W 0 s.au X.au&&ux X W.ks (lu W X)&&AS (jH W s) X.rs&&J0 (jH W s) (JZ W X)&&decide (X.pd=s.pd) then .back s.ax (lu W X) else .stuck (alA W s X)|e,X=>k e X
def aAE(X:fG)(W:ar)(s:S)(k:XE->S->T):afE X W s k=Wl X W s k:=by
 funext e V;cases e<;>simp only[afE,Wl,afC]
def kD(X:bv):Nat->FuncId->Code->S->YH->(XE->S->T)->T
 |0,_,_,_,_,_=>.stuck ""
 |n+1,R,c,s,W,k=>
  match c with
  |.skip=>k .normal s|.label _=>k .normal s|.ret=>k .ret s|.exit id=>k (.exit id) s|.seq a b=>kD X n R a s W (Ry (λP=>kD X n R b P W k) k)|.block id a=>kD X n R a s W (ac1 id k)|.scope a=>kD X n R a s W k
  |.cond c a b=>match s.ev X.gl c with
   |.bool (.c J)=>kD X n R a s W k|.bool (.c E)=>kD X n R b s W k
   |.bool x=>match c with
    |.tmp t=>.aK x (kD X n R a {s with tmps:=s.tmps.set t (.bool (.c J))} W k) (kD X n R b {s with tmps:=s.tmps.set t (.bool (.c E))} W k)
    |_=>.stuck ""
   |_=>.stuck ""
  |.region id V N=>match Wp X R id s with
   |U (e,H,gr,bz)=>MX e gr (ade (λP=>kD X n R (.region id V N) P W k) bz) (λP=>kD X n R (.region id V N) P W k) H
   |none=>s.afx λs=>if N then
    match Rx (X.JR R (id+2000000)) V with
    |U o=>(match XR V.pop (Y s.au) with
     |U O=>if !CG X V.pop.toList then .stuck "" else Bk X (uz X (CI X V.pop λf c s k=>kD X n f c s iD k) W) V.pop (λP=>Bk X (kA X (λf c s k=>kD X n f c s W k) W) V (k .normal) (λv=>k (.bp v)) (fU (λ_=>E) J E (V.size-1) (Y P.au) [o]) P []) (λv=>k (.bp v)) O (s.vM V.pop O) []
     |none=>.stuck "")
    |none=>
    match XS X (!X.JR R id) V s with
    |U c=>RI X (kA X (λf c s k=>kD X n f c s W k) W) V (afB k) c
    |none=>match XR V (Y s.au) with
    |U O=>if !CG X V.toList then .stuck "" else Bk X (uz X (CI X V λf c s k=>kD X n f c s iD k) W) V (k .normal) (λv=>k (.bp v)) O (s.vM V O) []
    |none=>match XS X E V s with|U c=>RI X (kA X (λf c s k=>kD X n f c s W k) W) V (afB k) c|none=>.stuck ""
   else
   Bk X (ac2 (X.JR R (id+1000000)) X (kA X (λf c s k=>kD X n f c s W k) W)) V (k .normal) (λv=>k (.bp v)) (fU (λ_=>E) J E 0 (Y s.au) V.toList) (s.room (mV V.toList)) []
  |.loop a=>match(Code.first a).map (X.loop R) with
   |U (.inv Q)=>
    if !(adf Q s).isEmpty then kD X n R (.loop a) (s.dl Q) W k else
    if !s.bd|| !ux s (Q.at s).ks (lu (Q.at s) s)|| !Te (b9 (qJ (Code.pL a)) (qJ ((Q.at s).tm.map (·.1)))) 0 s.tmps s.tmps|| !uw (Q.at s) 0 s.au s.au|| !AS (jH (Q.at s) s) s.rs|| !J0 (jH (Q.at s) s) (JZ (Q.at s) s) then .stuck (alB (Q.at s) (Code.pL a) s) else
    .loop s.ax (Q.at s).ks (lu (Q.at s) s) (kD X n R a (afD (Q.at s) (Code.pL a) s) W (afE (Q.at s) (Code.pL a) s k))
   |_=>kD X n R a s W (Ry (λP=>kD X n R (.loop a) P W k) k)
  |.rangeFunc f M assign body=>match s.ev X.gl f with
   |.fn g bE=>match X.inl g with
    |U (c,G,[])=>
     if !s.eX bE||s.zp (Y s.pd)||C.qy (Y s.pd) bE||kK assign||kK body|| !kz g 1000000 then .stuck "" else
     kD X n g c (MW s G bE)
      (RD (Y s.pd) M.size λF L D B=>
       kD X n R assign (EQ L s M.toList F) iD (RC (Y s.pd) λA=>
        kD X n R body (A.ER (Y s.pd) .busy) W (Wm (Y s.pd) L D B))) (J9 s k)
    |_=>.stuck ""
   |_=>.stuck ""
  |_=>.stuck ""
def N8(X:bv):∀n,kD X n=fP X n
 |0=>by funext W c s V k;rfl
 |n+1=>by
  have R:=N8 X n;funext W c s V k;unfold kD fP;simp only[R,Tb,aAu,aAw,aAx,afC,aAD,aAE,aAB];cases c<;>rfl
def afF(X:bv)(n:Nat)(V:FuncId)(c:Code)(R:Nat)(Q:nK)(W:aq)(s:S):T:=
 kD X n V c {s with tmps:=W++ew (R-Y W) (.bI [])} iD (Wq X (Y s.au) Q)
def aAF(X:bv)(n:Nat)(W:FuncId)(c:Code)(V:Nat)(R:nK)(Q:aq)(s:S):afF X n W c V R Q s=RN X n W c V R Q s:=by
 unfold afF RN;rw[N8]
def XW(X:bv)(n:Nat)(Q:FuncId)(c:Code)(P:Nat)(O:nK)(V:TypeId)(R:aq)(s:S):T:=match rW c with
 |U d=>Bk X (kA X (λf c s k=>kD X n f c s iD k) iD) d.uA (λW=>match W.tmps[d.te]? with
  |U (.loc i 0)=>if !mT V&&aL W.au i&&decide (d.tf<Y W.tmps)&&kz d.g 1000000 then kD X n Q d.rest (W.put (U d.tf) (.fn d.g [.loc i 0])) iD (adh X (Y s.au) V i O) else .stuck ""
  |_=>.stuck "") (λ_ _=>.stuck "") (fU (λ_=>E) J E 0 (Y s.au) d.uA.toList) (({s with tmps:=R++ew (P-Y R) (C.bI [])}:S).room (mV d.uA.toList)) []
 |none=>.stuck ""
def aAG(X:bv)(n:Nat)(W:FuncId)(c:Code)(V:Nat)(R:nK)(Q:TypeId)(P:aq)(s:S):XW X n W c V R Q P s=RO X n W c V R Q P s:=by
 unfold XW RO;cases rW c with
 |none=>rfl
 |some d=>
  simp only[N8,Tb];rfl
def lX:List LB->aq->bm
 |[],_=>[]|.ro t::l,v::X=>U (t,v.cells)::lX l X|.rw t::l,v::X=>U (t,v.cells)::lX l X|.st t W::l,X=>U (t,W)::lX l X|_::l,X=>Z::lX l X
def iH(ty:Ty):List LB->bm->bm->Ex
 |[],_,_=>U []
 |.rw t::l,U _::X,U x::W=>match xz ty t x.2,iH ty l X W with|U v,U r=>if t==x.1 then U (v::r) else Z|_,_=>Z
 |.ro _::l,U x::X,U y::W=>if x.1==y.1&&C.og x.2 y.2 then iH ty l X W else Z|.st _ _::l,U x::X,U y::W=>if x.1==y.1&&C.og x.2 y.2 then iH ty l X W else Z|_,_,_=>Z
def afG(cf:bv)(L:sW)(W:bm):XE->S->T
 |.normal,X=>match iH cf.ty L.bx W (X.au.take (Y W)) with
  |U V=>if X.bd then .ret (one V) [] (X.rs.map RK.rd) else .stuck "end"
  |none=>.stuck "boxes at the end"
 |.ret,X=>match iH cf.ty L.bx W (X.au.take (Y W)) with
  |U V=>if X.bd then .ret (one V) [] (X.rs.map RK.rd) else .stuck "end"
  |none=>.stuck "boxes at the end"
 |.bp _,_=>.stuck "panic"
 |.exit _,_=>.stuck "exit"
def N9(cf:bv)(n:Nat)(W:FuncId)(c:Code)(V:Nat)(L:sW)(X:aq)(s:S):T:=
 kD cf n W c {s with tmps:=X++ew (V-Y X) (.bI [])} iD (afG cf L s.au)
section
variable{p:Sp}{cf:bv}
def aAH(o:ji p cf)(ab:∀g W,¬p.R (.panicked g) W){B:Func}{c:Code}(k:p.P.funcs[v]?=U B)(b:B.body=U c)(a:B.results.toList=[]){X:sW}
  (H:(N9 cf N v c B.ntmps X t l).aP p x [])(hg:eD cf.gl x)(R:aA p.S0 p.w0 bU.none cf.ty y x {l with tmps:=[]} ⟨#[],[]⟩ p.w0){Q:Ending->World->Prop}
  (hQ:∀F A z r w D,aA p.S0 p.w0 bU.none cf.ty z A F r w->bC l x y F A z->F.bd=J->iH cf.ty X.bx l.au (F.au.take (Y l.au))=U D->p.R (.returned ((one D).ai A z)) w->Q (.returned (.tuple #[])) w):
  Calls p.P v (C.az x y t).toArray p.w0 Q:=by
 unfold N9 at H;rw[N8] at H;refine Ku k b ?_;have RE:=R.enter t B.ntmps R.dm;refine(Ky o N).1 bU.none ⟨{l with tmps:=t++ew (B.ntmps-Y t) (.bI [])},x,y,[]⟩ iD Z v c _ _ [] x y _ p.w0 _ (Fc _ _) (jK.here _ _ _ _) rfl (λhh=>by cases hh) ⟨B,k⟩ H RE hg ?_ ?_
 grind
 intro e F A z r w L' q hL j H;obtain⟨ac,i,q0,q2,q3⟩:=j.dm.mz;have m:=j.rp i;have aa:bC l x y F A z:=⟨q.ext,q.mono,q.len,q.ax⟩;have h:∀D,iH cf.ty X.bx l.au (F.au.take (Y l.au))=U D->F.bd=J->(T.ret (one D) [] (F.rs.map RK.rd)).aP p A L'->LeavesInM Fence.wide 0 p.P B r.tmps Q r.defers .returning w:=by
  intro D u ce H;rw[i];have hr:uv cf F B.results.toList=U []:=by rw[a];rfl
  refine sd aw (xk.1 q2).1 (λd hd=>(q3 d (by simp[hd])).1) ⟨_,Kq m o.kM hr, ?_⟩;have h1:=H A.y z _ (by rw[o.pt];exact((m.mem.take 0).lR (NS F.rs)));exact hQ F A z _ _ D m aa ce u h1
 cases e with
 |normal=>
  simp only[afG] at H;split at H;rename_i D u;split at H;rename_i ce;exact h D u ce H;exact H.elim;exact H.elim
 |ret=>
  simp only[afG] at H;split at H;rename_i D u;split at H;rename_i ce;exact h D u ce H;exact H.elim;exact H.elim
 |bp L=>exact H.elim|exit id=>exact H.elim
end
def XX:LK->XV->RV
 |.int k,.i n=>.mk (.int k n) []|.bool,.b x=>.mk (.bool x) []|.ak _,.r X=>X|_,_=>.mk undef []
def Oa:aN->aZ->aE
 |k::X,x::W=>XX k x::Oa X W|_,_=>[]
def apL{ty:Ty}{Q:bo}{O:aj}{V:ar}:∀{W:aN}{l:aq},iQ ty Q W l=J->C.bL O V l=Oa W (l.map (C.xv O))
 |[],[],_=>rfl|[],_::_,h=>by simp[iQ] at h|_::_,[],h=>by simp[iQ] at h
 |k::W,v::l,h=>by
  simp only[iQ,aC] at h;have R:=apL (O:=O) (V:=V) h.2;simp only[C.bL] at R⊢;simp only[dH,Oa,R];congr 1;have X:=h.1;unfold C2 at X;split at X;simp at X;subst X;rfl;rfl;rfl;cases X
def apM{ty:Ty}{V:bo}:∀{W:aN}{l:aq},iQ ty V W l=J->∀v∈l,∀q,v≠ .agg q
 |[],[],_,v,X=>by simp at X|[],_::_,h,_,_=>by simp[iQ] at h|_::_,[],h,_,_=>by simp[iQ] at h
 |k::W,u::l,h,v,X=>by
  simp only[iQ,aC] at h;rcases ey.1 X with rfl|X
  grind [C2]
  exact apM h.2 v X
def apN{V:ar}:∀{W:aN}{l:aq}{X:aZ}{O:aj}{a b c:Nat},lz a b c W l=J->dL W X->Y O.i=a->Y O.b=b->Y O.r=c->C.bL (O.ext X) V l=Oa W X
 |[],[],[],O,a,b,c,_,_,_,_,_=>rfl|[],[],_::_,O,a,b,c,_,h,_,_,_=>h.elim|[],_::_,X,O,a,b,c,h,_,_,_,_=>by simp[lz] at h|k::W,[],X,O,a,b,c,h,_,_,_,_=>by cases k<;>simp[lz] at h
 |_::_,_::_,[],O,a,b,c,_,h,_,_,_=>h.elim
 |k::W,v::l,x::X,O,a,b,c,h,D,w,u,t=>by
  have N:=EU X (O.add x);obtain⟨M,B⟩:=D;simp only[C.bL,dH,aj.ext,Oa];have s:∀{L H F:Nat},lz L H F W l=J->(O.add x).i.length=L->(O.add x).b.length=H->(O.add x).r.length=F->l.map (C.gf ((O.add x).ext X) V)=Oa W X:=λh A z y=>apN h B A z y
  unfold lz at h;split at h
  grind
  rename_i R Q;cases R;cases Q;cases x<;>simp[qA] at M;simp at h
  grind [aj.add,C.gf,C.ai,K.ai,XX,N.i]
  rename_i R Q;cases R;cases Q;cases x<;>simp[qA] at M;simp at h
  grind [aj.add,C.gf,C.ai,BE.ai,XX,N.b]
  rename_i R Q;cases R;cases Q;cases x<;>simp[qA] at M;simp at h
  grind [aj.add,C.gf,RE.rv,XX,N.r,aj.rv]
  cases h
def apO{ty:Ty}{O N:aj}{V M:ar}:∀{L:i7}{D H l R:aq},gv ty L D=U l->gv ty L H=U R->(∀v∈l,∀q,v≠ .agg q)->(∀v∈R,∀q,v≠ .agg q)->C.bL O V l=C.bL N M R->
  ∀(j:Nat)(v Q:C),D[j]?=U v->H[j]?=U Q->C.bL O V v.cells=C.bL N M Q.cells
 |[],[],H,l,R,_,_,_,_,_,j,v,Q,h,_=>by simp at h|[],_::_,_,_,_,h,_,_,_,_,_,_,_,_,_=>by simp[gv] at h|_::_,[],_,_,_,h,_,_,_,_,_,_,_,_,_=>by simp[gv] at h|_::_,_::_,[],_,_,_,h,_,_,_,_,_,_,_,_=>by simp[gv] at h
 |t::L,u::D,B::H,l,R,h,X,n,m,k,j,v,Q,z,y=>by
  simp only[gv] at h X;cases F:ty t with
  |none=>simp[F] at h
  |some ti=>
   cases x:gv ty L D with
   |none=>simp[F,x] at h
   |some r=>
    cases w:gv ty L H with
    |none=>simp[F,w] at X
    |some i=>
     simp only[F,x] at h;simp only[F,w] at X;have g:∀c W:aq,Y c=Y W->l=c++r->R=W++i->u.cells=c->B.cells=W->C.bL O V v.cells=C.bL N M Q.cells:=by
      intro c W b f e a h4;have aa:C.bL O V c++C.bL O V r=C.bL N M W++C.bL N M i:=by
       rw[f,e] at k;simpa only[C.bL,GJ] using k
      obtain⟨e1,e2⟩:=List.append_inj aa (by simp[C.bL,b]);cases j with
      |zero=>
       simp only[Ch,dX] at z y;subst z y;rw[a,h4];exact e1
      |succ j=>exact apO x w (λv s=>n v (by rw[f];simp[s])) (λv s=>m v (by rw[e];simp[s])) e2 j v Q (by simpa using z) (by simpa using y)
     split at h;rename_i o;rw[aH o] at X;split at h;rename_i c;split at h;rename_i A;split at X;rename_i W;split at X;rename_i d;cases h;cases X;simp only[gc] at A d;exact g c W (by rw[A,d]) rfl rfl rfl rfl;cases X;cases X;cases h;cases h;rename_i o;rw[aJ o] at X;split at h;rename_i A;rw[aH A] at X;cases h;cases X;refine g [u] [B] rfl rfl rfl ?_ ?_;have:=n u aw;cases u<;>simp_all[C.cells];have:=m B aw;cases B<;>simp_all[C.cells];cases h
def afH{ty:Ty}{v:C}(h:xz ty k t=U v):v.cells=t:=by
 unfold xz at h;split at h;split at h;cases h;rfl;split at h;cases h;rename_i c X;cases h;cases v<;>first|rfl|exact(X _ rfl).elim
 cases h;cases h
def XY{ty:Ty}{O L:aj}{V H:ar}:∀{N:List LB}{R:bm}{F M:aq},kJ ty N R=U F->Y F=Y M->(∀(j:Nat)(v B:C),F[j]?=U v->M[j]?=U B->C.bL O V v.cells=C.bL L H B.cells)->
  (∀t X,LB.st t X∈N->C.bL O V X=C.bL L H X)->∀(i:Nat)(t:TypeId)(X:aq),bP (lX N M) i=U (t,X)->∃gK,bP R i=U (t,gK)/\C.bL O V gK=C.bL L H X
 |[],_,_,_,_,_,_,_,i,t,X,h=>by simp[lX,bT] at h
 |b::N,R,F,M,Q,A,z,m,i,t,X,h=>by
  have s:∀t X,LB.st t X∈N->C.bL O V X=C.bL L H X:=λt X l=>m t X (AI _ l)
  have n:∀W,(b=.ro W\/b=.rw W)->∃gK,bP R i=U (t,gK)/\C.bL O V gK=C.bL L H X:=by
   intro W y;cases R with
   |nil=>rcases y with rfl|rfl<;>simp[kJ] at Q
   |cons x R=>
    cases x with
    |none=>rcases y with rfl|rfl<;>simp[kJ] at Q
    |some x=>
     have q:(if W==x.1&& !mT W then(match xz ty W x.2,kJ ty N R with|U v,U r=>U (v::r)|_,_=>Z) else Z)=U F:=by rcases y with rfl|rfl<;>exact Q
     split at q;rename_i D;simp at D;split at q;rename_i v r k g;cases q;cases M with
     |nil=>simp at A
     |cons w M=>
      have f:lX (b::N) (w::M)=U (W,w.cells)::lX N M:=by rcases y with rfl|rfl<;>rfl
      rw[f] at h;cases i with
      |zero=>
       simp only[bT,Ch,dX,JE] at h;obtain⟨rfl,rfl⟩:=h;refine⟨x.2,by simp[bT,D.1], ?_⟩;rw[<-afH k];exact z 0 v w rfl rfl
      |succ i=>
       obtain⟨gK,u,o⟩:=XY g (by simpa using A) (λj v B e d=>z (j+1) v B (by simpa using e) (by simpa using d)) s i t X (by simpa[bT] using h)
       grind [bT]
     grind
     grind
  cases b with
  |ro W=>exact n W (.inl rfl)|rw W=>exact n W (.inr rfl)
  |no=>
   simp only[kJ] at Q;cases i with
   |zero=>simp[lX,bT] at h
   |succ i=>
    obtain⟨gK,u,o⟩:=XY Q A z s i t X (by simpa[lX,bT] using h);refine⟨gK, ?_,o⟩;cases R with|nil=>simp[bT] at u|cons x R=>simpa[bT] using u
  |st W c=>
   cases R with
   |nil=>simp[kJ] at Q
   |cons x R=>
    cases x with
    |none=>simp[kJ] at Q
    |some x=>
     simp only[kJ] at Q;split at Q;rename_i D;simp at D;cases i with
     |zero=>
      grind [lX,bT,JA,JE,D.1.1,C.pj]
     |succ i=>
      obtain⟨gK,u,o⟩:=XY Q A z s i t X (by simpa[lX,bT] using h)
      grind [bT]
     cases Q
def apP{ty:Ty}:∀{R:List LB}{X W:bm}{N:aq},iH ty R X W=U N->∀(i:Nat)(Q:LB)(x:TypeId×aq),R[i]?=U Q->(∀t,Q≠ .rw t)->bP X i=U x->bP W i=U x
 |[],_,_,_,_,i,Q,x,h,_,_=>by simp at h
 |b::R,X,W,N,h,i,Q,x,D,B,M=>by
  cases X with
  |nil=>simp[bT] at M
  |cons u X=>
   cases W with
   |nil=>cases b<;>cases u<;>simp[iH] at h
   |cons w W=>
    have aR:(∀t,b≠ .rw t)->∃L H,u=U L/\w=U H/\L=H/\iH ty R X W=U N:=by
     intro A;cases b with
     |no=>simp[iH] at h|rw t=>exact bB rfl (A t)
     |ro t=>
      cases u with
      |none=>simp[iH] at h
      |some u=>
       cases w with
       |none=>simp[iH] at h
       |some w=>
        simp only[iH] at h;split at h;rename_i V;simp at V;exact⟨u,w,rfl,rfl,Prod.ext V.1 (C.pj _ _ V.2),h⟩;cases h
     |st t z=>
      cases u with
      |none=>simp[iH] at h
      |some u=>
       cases w with
       |none=>simp[iH] at h
       |some w=>
        simp only[iH] at h;split at h;rename_i V;simp at V;exact⟨u,w,rfl,rfl,Prod.ext V.1 (C.pj _ _ V.2),h⟩;cases h
    cases i with
    |zero=>
     grind [JA,bT]
    |succ i=>
     have y:R[i]?=U Q:=by simpa using D
     have v:bP X i=U x:=by simpa[bT] using M
     have s:∃F,iH ty R X W=U F:=by
      cases b with
      |rw t=>
       cases u with
       |none=>simp[iH] at h
       |some u=>
        cases w with
        |none=>simp[iH] at h
        |some w=>
         grind [iH]
      |no=>obtain⟨_,_,_,_,_,q⟩:=aR (λt O=>by cases O);exact⟨_,q⟩
      |ro t=>obtain⟨_,_,_,_,_,q⟩:=aR (λt O=>by cases O);exact⟨_,q⟩
      |st t z=>obtain⟨_,_,_,_,_,q⟩:=aR (λt O=>by cases O);exact⟨_,q⟩
     obtain⟨F,r⟩:=s;have:=apP r i Q x y B v;simpa[bT] using this
def apQ{ty:Ty}:∀{V:List LB}{M Q:bm}{L:aq}{k:Nat},iH ty V M Q=U L->Y L=(eC k V).length/\∀z∈(eC k V).zip L,∃X,bP Q (z.1.1-k)=U (z.1.2,X)/\xz ty z.1.2 X=U z.2
 |[],_,_,_,k,h=>by simp only[iH,dX] at h;subst h;simp[eC]
 |b::V,M,Q,L,k,h=>by
  have B:∀{R:bm}{w:Option (TypeId×aq)}{z:(Nat×TypeId)×C},z.1∈eC (k+1) V->(∃X,bP R (z.1.1-(k+1))=U (z.1.2,X)/\xz ty z.1.2 X=U z.2)->∃X,bP (w::R) (z.1.1-k)=U (z.1.2,X)/\xz ty z.1.2 X=U z.2:=by
   rintro R w z W ⟨X,O,N⟩;have:=(Nv (i:=z.1.1) (t:=z.1.2) W).1;refine⟨X, ?_,N⟩;rw[show z.1.1-k=(z.1.1-(k+1))+1 from ae];simpa[bT] using O
  have other:∀(H:aq)(F R:bm)(w:Option (TypeId×aq)),iH ty V F R=U H->Y H=(eC (k+1) V).length/\∀z∈(eC (k+1) V).zip H,∃X,bP (w::R) (z.1.1-k)=U (z.1.2,X)/\xz ty z.1.2 X=U z.2:=by
   intro H F R w A;obtain⟨O,N⟩:=apQ (k:=k+1) A;exact⟨O,λz W=>B (acu W).1 (N z W)⟩
  cases M with
  |nil=>cases b<;>simp[iH] at h
  |cons u M=>
   cases Q with
   |nil=>cases b<;>cases u<;>simp[iH] at h
   |cons w Q=>
    cases b with
    |no=>simp[iH] at h
    |ro t=>
     cases u<;>cases w<;>simp only[iH,reduceCtorEq] at h;split at h;exact other _ _ _ _ h;cases h
    |st t X=>
     cases u<;>cases w<;>simp only[iH,reduceCtorEq] at h;split at h;exact other _ _ _ _ h;cases h
    |rw t=>
     cases u<;>cases w<;>simp only[iH,reduceCtorEq] at h;rename_i u w;split at h;rename_i v r y x;split at h;rename_i D;simp only[gc] at D;cases h;obtain⟨O,N⟩:=other _ _ _ (U w) x;refine⟨by simp only[eC,n9,O],λz W=> ?_⟩;simp only[eC,Es,ey] at W;rcases W with rfl|W;exact⟨w.2,by simp[bT,D],y⟩;exact N z W;cases h;cases h
def aAI{ty:Ty}{v:C}{X:TI}(h:xz ty k t=U v)(W:ty k=U X):(X.d.isAgg=J/\v=.agg t)\/(X.d.isAgg=E/\t=[v]):=by
 unfold xz at h
 grind
def apR{ty:Ty}{O:aj}{V:ar}:∀{A:List (Nat×TypeId)}{vs:aq}{Vq:fz},C.az O V vs=qG ty (A.map (·.2)) Vq->Y Vq=((A.map (·.2)).map λt=>((ty t).map λW=>Y W.am).getD 0).sum->Y vs=Y A->
  (∀x∈A,∃W,ty x.2=U W/\(W.d.isAgg=J\/Y W.am=1))->(∀z∈A.zip vs,∃M,xz ty z.1.2 M=U z.2)->
  ∀z∈A.zip (Fj ty (A.map (·.2)) Vq),∃w∈A.zip vs,w.1=z.1/\z.2=C.az O V w.2.cells
 |[],_,_,_,_,_,_,_,z,X=>by simp at X|a::A,[],_,_,_,Q,_,_,z,X=>by simp at Q
 |a::A,v::vs,Vq,h,L,Q,H,F,z,X=>by
  obtain⟨W,R,B⟩:=H a aw;simp only[dH,qG,R,C.az,Et] at h;simp only[dH,List.sum_cons,R,ga,yV] at L;simp only[dH,Fj,R,Es,ey] at X;rcases X with rfl|X;refine⟨(a,v),aw,rfl, ?_⟩;obtain⟨M,D⟩:=F (a,v) aw;have bq:=afH D;rcases aAI D R with⟨N,rfl⟩|⟨N,y⟩
  grind [C.ai,Value.agg.injEq]
  have u:Y W.am=1:=B.resolve_left (by simp[N]);rw[N] at h;simp only[iZ,jE] at h;rw[bq,y];cases Vq with
  |nil=>simp only[Ck] at L;omega
  |cons x Vq=>
   simp only[u,List.take_succ_cons,List.take_zero,C.az]
   grind
  obtain⟨w,s,r,q⟩:=apR (A:=A) (vs:=vs) (Vq:=Vq.drop (Y W.am)) h.2 (by rw[Cj];omega) (by simpa using Q) (λx o=>H x (by simp[o])) (λz X=>F z (by simp[X])) z X;exact⟨w,by simp[s],r,q⟩
section
variable{P:Program}{ty:Ty}{M m:FuncId->mi}{bh:mA}{G:World->Prop}
def R2V(ty:Ty)(Q:i7)(V O:aN)(W:World)(N:aZ)(out:aX):Ending->World->Prop
 |.returned v,M=>∃R X,out=.ret R/\xM R X/\dL V X/\v=xO (qG ty Q (nU V X))/\xP ty M V X/\∀b,rq ty V X b->W.heap.size<=b\/rq ty O N b|_,_=>False
def apT:∀{X:aN}{W:aZ},dL X W->(nU X W).length=Y X
 |[],[],_=>rfl|[],_::_,h=>h.elim|_::_,[],h=>h.elim|_::X,_::W,h=>by simp only[nU,n9,apT h.2]
def apU{ty:Ty}:∀{X:i7}{W:aN},fJ ty X=U W->Y W=(X.map λt=>((ty t).map λV=>Y V.am).getD 0).sum
 |[],_,h=>by cases h;rfl
 |t::X,W,h=>by
  simp only[fJ] at h;split at h;rename_i V r R Q;cases h;simp only[fT,oW,dH,List.sum_cons,R,ga,yV,apU Q];cases h
def aAJ:∀{a b:fz},Y a=Y b->xO a=xO b->a=b
 |[],[],_,_=>rfl|[],_::_,h,_=>by simp at h|_::_,[],h,_=>by simp at h|[x],[y],_,h=>by simp only[xO] at h;rw[h]|[_],_::_::_,h,_=>by simp at h|_::_::_,[_],h,_=>by simp at h
 |x::y::l,X::W::V,_,h=>by
  grind [xO,Value.tuple.injEq]
def aAK:∀l:aq,(one l).ai x y=xO (C.az x y l)
 |[]=>rfl|[v]=>rfl|X::W::l=>rfl
def apV{ty:Ty}:∀{ts:i7}{Vq:fz},(∀t∈ts,(ty t).isSome=J)->(qG ty ts Vq).length=Y ts
 |[],_,_=>rfl
 |t::ts,Vq,h=>by
  obtain⟨X,W⟩:=jC.1 (h t aw);have V:=apV (ty:=ty) (ts:=ts) (Vq:=Vq.drop (Y X.am)) (λu R=>h u (AI _ R));simp only[qG,W,n9,V]
def KK:∀(W:List LB)(X:aq),(lX W X).length=Y W
 |[],_=>rfl|.no::l,X=>by simp[lX,KK l]|.ro t::l,[]=>by simp[lX,KK l]|.ro t::l,_::X=>by simp[lX,KK l]|.rw t::l,[]=>by simp[lX,KK l]|.rw t::l,_::X=>by simp[lX,KK l]|.st t V::l,X=>by simp[lX,KK l]
def aAL{i:Nat}(h:i<N):ad ((dj N).map (ad y)) i=ad y i:=by
 grind [ad]
def aAM{cf:bv}{fn:Func}{c:Code}{X:sW}{F:aZ->jV}{l0:aq}{ni nb:Nat}{u qk:aN}
  (cu:∀S0 w R,(∀ch W Q o,w.heap.size<=Q->R (.panicked ch) W->R (.panicked ch) (W.putObj Q o))->ji ⟨P,ty,S0,w,bU.none,R,λ_ _ _=>False⟩ cf)(bf:cf.ty=ty)(cv:∀f,HC P ty M m G f (bh f))
  (hf:P.funcs[v]?=U fn)(s:fn.body=U c)(cx:fn.results.toList=[])(cy:fJ ty X.ps=U u)(a0:fJ ty ((eC 0 X.bx).map (·.2))=U qk)
  (a3:gv ty X.ps t=U l0)(a4:lz 0 0 0 u l0=J)
  (cA:∀D,dL u D->(dJ [] D).i.length=ni)(cB:∀D,dL u D->(dJ [] D).b.length=nb)(cC:cf.gl=[])
  (bg:∀x∈eC 0 X.bx,∃ti,ty x.2=U ti/\(ti.d.isAgg=J\/Y ti.am=1))
  (bq:∀(O O':aj)(V V':ar),(∀i,i<Y X.bx->ad V i=ad V' i)->C.az O V X.bE=C.az O' V' X.bE/\∀b cs,LB.st b cs∈X.bx->C.bL O V cs=C.bL O' V' cs)
  (bk:S.bd ⟨[],lX X.bx (t.drop X.n),ni,nb,gh u,0,0,[]⟩=J)(cD:∀(k:Nat)(b:TypeId),(gh u)[k]?≠U (.own b))
  (ht:∀(p:Sp)(O:aj),b.aP p O []->(N9 cf N v c fn.ntmps X (t.take X.n++X.bE) ⟨[],lX X.bx (t.drop X.n),ni,nb,gh u,0,0,[]⟩).aP p O [])
  (hF:∀D o,dL u D->F D=U o->(∃ys,o=.ret ys)/\∃L,run ty M m bh ((eC 0 X.bx).map (·.2)) L b (dJ [] D) (gh u) []=U o):apr P ty G v X F:=by
 intro d1 d2 h1 h2 xh D out ho hx ab S0 w0 V O bx rs W bl cO l R hr cW br bs a9 af c1 al c2;rw[cy] at h1;cases h1;rw[a0] at h2;cases h2;obtain⟨⟨bt,rfl⟩,L,hN⟩:=hF xh out (SZ ab hx) ho;obtain⟨b0,ba⟩:∃b0,b0=lX X.bx (t.drop X.n):=⟨_,rfl⟩;have d3:Y b0=Y X.bx:=by rw[ba,KK]
 obtain⟨V1,b1⟩:∃V1,V1=(dj (Y b0)).map (ad V):=⟨_,rfl⟩;have aa:∀i,i<Y b0->ad V1 i=ad V i:=λi A=>by rw[b1];exact aAL A
 have ac:∀i,aL b0 i=J->i<Y b0:=λi A=>by
  obtain⟨Q,s⟩:=jC.1 A;exact(du.1 (kC.1 s)).1
 have c3:C.bL O V l=C.bL (dJ [] D) V1 l0:=by
  rw[apL af,<-al,dJ,apN a4 ab rfl rfl rfl]
 have c4:=apO a9 a3 (apM af) (afo a4) c3;have c5:=XJ a9;have d4:=XJ a3;have b2:=bq O (dJ [] D) V V1 (λi A=>(aa i ae).symm);have b3:∀(i:Nat)(b:TypeId)(cs:aq),bP b0 i=U (b,cs)->∃gK,bP bx i=U (b,gK)/\C.bL O V gK=C.bL (dJ [] D) V1 cs:=by
  rw[ba];refine XY br (by simp only[fT] at c5;simp only[Cj];omega) (λj H v' g1 g2=>c4 (X.n+j) H v' ?_ ?_) b2.2;rw[jo ae,<-bs,Vw];exact g1;rw[xj] at g2;exact g2
 have ag:∀i,aL b0 i=J->aL bx i=true:=λi A=>by
  obtain⟨Q,s⟩:=jC.1 A;obtain⟨gK,h,-⟩:=b3 i Q.1 Q.2 s;simp[aL,h]
 obtain⟨S1,an⟩:∃S1,S1=W.heap.size::S5 V1 b0:=⟨_,rfl⟩;have c6:rg W.heap.size S1=[]:=by rw[an];simp[rg]
 have b4:∀k,k∈S5 V1 b0->∃i,aL b0 i=J/\k=ad V i:=λk hk=>by
  obtain⟨i,A,rfl⟩:=fo.1 hk;have h:=(qj.1 A).2;exact⟨i,h,aa i (ac i h)⟩
 have c7:∀W1,fq S1 W W1->fq (S5 V bx) W W1:=λW1 h=>⟨h.os,h.tape,h.output,h.size,λk hk hn=>h.block k hk (λhm=>by
  rw[an] at hm;rcases ey.1 hm with rfl|hm;omega;obtain⟨i,A,rfl⟩:=b4 k hm;obtain⟨Q,s⟩:=jC.1 (ag i A);exact hn (fo.2 ⟨i,qj.2 ⟨rO.2 (du.1 (kC.1 s)).1,ag i A⟩,rfl⟩))⟩
 have c8:ke (dJ [] xh) (dJ [] D):=ke.ext ⟨rfl,rfl,rfl,λk H v' g1 g2=>by simp at g1⟩ hx;have b5:(dJ [] D).r.length=(gh u).length:=by
  have:=HB (O:=⟨[],[],[],[]⟩) (rs:=[]) ab rfl;simpa[dJ] using this
 have c9:Bi ty W.heap.size (rq ty u D) (dJ [] D) (gh u):=by
  have:=Bi.ext (ty:=ty) (B:=W.heap.size) (old:=rq ty u D) (O:=⟨[],[],[],[]⟩) (rs:=[]) (λQ ⟨k,e,hk,_⟩=>by simp at hk) ab rfl (λQ s=>.inr s);simpa[dJ] using this
 have dc:b.aP ⟨P,ty,S1,W,bU.none,R2V ty ((eC 0 X.bx).map (·.2)) qk u W D (.ret bt),λ_ _ _=>False⟩ (dJ [] D) []:=by
  refine apw (old:=rq ty u D) cv (λW1 hO=>c2 W1 (c7 W1 hO)) (by rw[c6];intro Q s;cases s) a0 ?_ (λH W' h _=>by cases h) L b _ _ (gh u) [] [] hN c8 b5 c9 (uK.nil _);intro H l' d5 d6 Oh O' V' W' q1 q2 q3 q4 q5 q6 q7 q8 q9;obtain⟨a1,a2⟩:=Fh (O:=O') (V:=V') q2;exact⟨_,l'.map (C.xv O'),q4,KE q5 l',a2,by rw[afm q1,a1],XN q9 q6 q7 q2 q3,λQ s=>q8 Q (Fi q2 s)⟩
 have b6:=ht _ _ dc;rw[<-ba] at b6 bk;have dd:C.az O V bl++C.az O V X.bE=C.az (dJ [] D) V1 (t.take X.n++X.bE):=by
  have h1:C.az O V (bl++cO)=C.az (dJ [] D) V1 t:=by
   rw[N2 a9,N2 a3,(Fh af).1,<-al,dJ,KF a4 ab rfl rfl rfl]
  rw[G8,<-b2.1];congr 1;have h2:=j7 (List.take X.n) h1;rw[G8,awm (by simpa using bs)] at h2;rw[h2,oI,oI,List.map_take]
 rw[dd];have R0:aA S1 W bU.none cf.ty V1 (dJ [] D) ⟨[],b0,ni,nb,gh u,0,0,[]⟩ ⟨#[],[]⟩ W:=by
  rw[bf];have hh:=XN R hr cW af c1;rw[<-al] at hh;refine⟨⟨fq.refl _ _,λi A=>.inr ?_,λi j A hj he=> ?_,λi b cs h=> ?_,λk e rv h1 h2=> ?_⟩,by rw[b1];simp,cA D ab,cB D ab,b5,by rw[show(dJ [] D).y=[] from Hm D _];exact S2 _ _,rfl,λb sv h=>by simp at h,λk e rv Q h1=>bB h1 (cD k e)⟩;rw[an];exact AI _ (fo.2 ⟨i,qj.2 ⟨rO.2 (ac i A),A⟩,rfl⟩);rw[aa i (ac i A),aa j (ac j hj)] at he;exact R.inj i j (ag i A) (ag j hj) he;obtain⟨gK,q1,q2⟩:=b3 i b cs h;rw[aa i (ac i (by simp[aL,h])),<-q2];exact R.box i b gK q1;have b7:=Hn (PP:=λe rv=>bG W ty e rv/\∀Q,dW ty e rv Q->O.ph ty rs Q) u D ⟨[],[],0,0,[],0,0,[]⟩ ⟨[],[],[],[]⟩ ab rfl (λq e rv g1 g2=>⟨hh q e rv g1 g2,λQ s=>Fi af (by rw[<-al];exact⟨q,e,rv,g1,g2,s⟩)⟩) (λk e rv g1 g2=>by simp at g1);rw[S3] at b7;obtain⟨k1,k2⟩:=b7 k e rv (by simpa using h1) h2;refine⟨k1,λQ s i A=> ?_⟩;rw[aa i (ac i A)];obtain⟨k',e',q1,q2⟩:=k2 Q s;exact(R.ak k' e' (O.rv k') q1 (by
   have df:k'<Y O.r:=by rw[hr];exact(du.1 q1).1
   simp[aj.rv,df])).2 Q q2 i (ag i A)
 refine aAH (p:=⟨P,ty,S1,W,bU.none,R2V ty ((eC 0 X.bx).map (·.2)) qk u W D (.ret bt),λ_ _ _=>False⟩) (cu S1 W _ (λch W Q o _ h=>h)) (λch W h=>h) hf s cx b6 (by intro x hx;rw[cC] at hx;cases hx) R0 ?_;rintro s' O' V' a' W' vs RR hl ce bb ⟨yh,ys,e1,e2,e3,e4,e5,e6⟩;obtain⟨b8,ca⟩:=apQ (k:=0) bb;have dk:=R0.zv bk;have cc:∀i x,bP (s'.au.take (Y b0)) i=U x->bP s'.au i=U x:=λi x h=>by
  rw[kC,pJ] at h;rw[kC];split at h;exact h;cases h
 refine⟨yh,ys,e1,e2,e3,rfl,⟨RR.mem.base.os,RR.mem.base.tape,RR.mem.base.output,RR.mem.base.size,λk hk hn=> ?_⟩,λz hz=> ?_,e5,e6⟩;by_cases hm:k∈S1;rw[an] at hm;rcases ey.1 hm with rfl|hm;exact bB hk (Nat.lt_irrefl _);obtain⟨i,A,rfl⟩:=b4 k hm;obtain⟨x,hx⟩:=jC.1 A;have cl:=ac i A;obtain⟨lb,cn⟩:∃lb,X.bx[i]?=U lb:=⟨_,dv ae⟩;have dn:∀b,lb≠ .rw b:=λb e=>by
  subst e;refine hn (fo.2 ⟨(i,b), ?_,rfl⟩);have dr:∀(l:List LB)(k i:Nat),l[i]?=U (.rw b)->(k+i,b)∈eC k l:=by
   intro l;induction l with
   |nil=>intro k i h;simp at h
   |cons Q l ih=>
    intro k i h;cases i with
    |zero=>
     simp only[Ch,dX] at h;subst h;simp[eC]
    |succ i=>
     have:=ih (k+1) i (by simpa using h);rw[show k+(i+1)=k+1+i from ae];cases Q<;>simp[eC,this]
  simpa using dr X.bx 0 i cn
 have ds:=apP bb i lb x cn dn hx;have hw:=RR.mem.box i x.1 x.2 (cc i x ds);have co:=R0.mem.box i x.1 x.2 hx;have dx:ad V' i=ad V1 i:=hl.ext.ad i A;rw[dx,hl.ext.bL (tq dk.2 hx),aa i cl] at hw;rw[aa i cl] at co;rw[hw,co];exact RR.mem.base.block k hk hm;have dy:C.az O' V' vs=qG ty ((eC 0 X.bx).map (·.2)) (nU qk ys):=by
  refine aAJ ?_ (by rw[<-aAK];exact e4);rw[apV (λb ht=>by
   obtain⟨x,hx,rfl⟩:=fo.1 ht;obtain⟨ti,dz,-⟩:=bg x hx;rw[dz];rfl)]
  simp[b8]
 obtain⟨w,w1,w2,w3⟩:=apR dy (by rw[apT e3,apU a0]) b8 bg (λz hz=>by
  obtain⟨cs,-,q⟩:=ca z hz;rw[bf] at q;exact⟨cs,q⟩) z hz
 obtain⟨cs,q1,q2⟩:=ca w w1;rw[awx] at q1;have cp:=(acu w1).1;have dT:mT w.1.2=false:=aps br cp;have hw:=RR.mem.box _ _ _ (cc _ _ q1);have ct:aL b0 w.1.1=true:=by
  obtain⟨-,g2⟩:=Nv (i:=w.1.1) (t:=w.1.2) cp;rw[awx] at g2;have d0:∀(Lb:List LB)(a Q:bm)(vs:aq),iH cf.ty Lb a Q=U vs->∀i b,Lb[i]?=U (.rw b)->aL a i=true:=by
   intro Lb;induction Lb with
   |nil=>intro a Q vs _ i b h;simp at h
   |cons lb Lb ih=>
    intro a Q vs h i b A;cases a with
    |nil=>cases lb<;>simp[iH] at h
    |cons x a=>
     cases Q with
     |nil=>cases lb<;>cases x<;>simp[iH] at h
     |cons y Q=>
      have tl:∃bc,iH cf.ty Lb a Q=U bc:=by
       cases lb with
       |no=>simp[iH] at h
       |ro t0=>
        cases x<;>cases y<;>simp only[iH,reduceCtorEq] at h;split at h;exact⟨_,h⟩;cases h
       |st t0 c0=>
        cases x<;>cases y<;>simp only[iH,reduceCtorEq] at h;split at h;exact⟨_,h⟩;cases h
       |rw t0=>
        cases x<;>cases y<;>simp only[iH,reduceCtorEq] at h;split at h;rename_i H r g1 g2;exact⟨_,g2⟩;cases h
      obtain⟨bc,hv⟩:=tl;cases i with
      |zero=>
       simp only[Ch,dX] at A;subst A;cases x with|none=>simp[iH] at h|some x=>simp[aL,bT]
      |succ i=>
       have:=ih a Q bc hv i b (by simpa using A);simpa[aL,bT] using this
  exact d0 X.bx b0 _ vs bb _ _ g2
 rw[hl.ext.ad _ ct,aa _ (ac _ ct),qC dT] at hw;rw[<-w2,hw,w3,afH q2]
end
def apW:ql->Option (FuncId×Nat)
 |[o]=>match o.op,o.guard,o.dst with
  |.defer X,Z,Z=>match X.callee,X.args.toList with|.value (.func g),[.tmp W]=>U (g,W)|_,_=>Z
  |_,_,_=>Z
 |_=>Z
def Tf:Code->Option (FuncId×Nat)
 |.region _ X E=>apW X.toList|_=>Z
def apX(cf:bv)(w:Nat)(A:TypeId)(W:Nat)(r:nK):XE->S->T
 |.normal,X=>tc cf w r X|.ret,X=>tc cf w r X
 |.bp v,X=>match v with
  |.gI t (.agg [.int I x])=>match bP X.au W with
   |U (V,[.int I _])=>if t==A&&A !=0&& !mT V then tc cf w r {X with au:=X.au.set W (U (V,[.int I x]))} else .stuck "panic"
   |_=>.stuck "panic"
  |_=>.stuck "panic"
 |.exit _,_=>.stuck "exit"
def XZ(cf:bv)(n:Nat)(X:dG)(k:S->T)(s:S):T:=Bk cf (kA cf (λf c s k=>kD cf n f c s iD k) iD) X k (λ_ _=>.stuck "panic") (fU (λ_=>E) J E 0 (Y s.au) X.toList) (s.room (mV X.toList)) []
def afI(cf:bv)(n w:Nat)(r:nK):Code->S->T
 |.ret,s=>tc cf w r s|.seq (.region _ X E) .ret,s=>XZ cf n X (tc cf w r) s|_,_=>.stuck "early"
def Ob(cf:bv)(n w:Nat)(r:nK):Code->(S->T)->S->T
 |.region _ X E,k,s=>XZ cf n X k s|.seq a b,k,s=>Ob cf n w r a (Ob cf n w r b k) s
 |.cond c a .skip,k,s=>match s.ev cf.gl c with|.bool x=>.aK x (afI cf n w r a s) (k s)|_=>.stuck "cond"
 |_,_,_=>.stuck "prefix"
def X0(cf:bv)(A:TypeId)(n:Nat)(X:FuncId)(w:Nat)(r:nK):Code->S->T
 |.seq a W,s=>match Tf a with
  |U (_,V)=>match s.tmps[V]? with
   |U (.loc i 0)=>if aL s.au i then kD cf n X W s iD (apX cf w A i r) else .stuck "defer"
   |_=>.stuck "defer"
  |none=>Ob cf n w r a (X0 cf A n X w r W) s
 |_,_=>.stuck "no deferred call"
def X1(cf:bv)(A:TypeId)(n:Nat)(W:FuncId)(c:Code)(V:Nat)(r:nK)(X:aq)(s:S):T:=X0 cf A n W (Y s.au) r c {s with tmps:=X++ew (V-Y X) (.bI [])}
structure Fl(P:Program)(g:FuncId)(A:TypeId):Prop where
 zy:∀args W,(callFunc g args).run P W=.ok (.enter g args) W
 ret:∀(W:World)(b:Nat),CallsDIn Fence.wide 0 P g #[.pointer (U ⟨b,0,Z⟩)] .returning W λen u W'=>(∃v,en=.returned v)/\u=.returning/\W'=W
 bp:A≠0->∀(W:World)(b:Nat)(t:TypeId)(k0 k:Int),W.heap[b]?=U (.cells #[.int I k0] t (0,0))->CallsDIn Fence.wide 0 P g #[.pointer (U ⟨b,0,Z⟩)] (.panicking [{v:=.iface A (.agg #[.int I k]),recovered:=E}]) W λen u W'=>
  (∃v,en=.returned v)/\u=.panicking [{v:=.iface A (.agg #[.int I k]),recovered:=J}]/\Below W.heap.size (W.putObj b (.cells #[.int I k] t (0,0))) W'
def Fm:Code->Option FuncId
 |.seq a X=>match Tf a with|U (g,_)=>U g|none=>Fm X
 |_=>Z
section
variable{p:Sp}{cf:bv}{D:bU}{B:jK}{f:FuncId}{n w:Nat}{r:nK}{A:TypeId}
def apY(z:ji p cf)(c:∀r e,¬p.R (.panicked r) e)(b:qF p cf D.dK B iD){Q:Exit->Act->World->Prop}{w:dG}{k:S->T}{L:dt}{a:Act}
  (hB:B.lT l x y L)(h:(XZ cf n w k l).aP p x L)(R:aA p.S0 p.w0 D cf.ty y x l a e)(hg:eD cf.gl x)
  (hk:∀G F u A H t,bC l x y G F u->cU l.ax L t->aA p.S0 p.w0 D cf.ty u F G A H->(k G).aP p F t->Q .normal A H):jU Z f p.P (.region N w E) Q a e:=by
 obtain⟨Rr,o⟩:=R.room (mV w.toList);refine vV (n:=0) (wpIn_region ?_);unfold XZ at h;rw[Tb,N8] at h;have m:=A9 (ops:=w) z.pt z.zj (zC Z) z.kM (Kx z (Ky z n).1 b) (D:=D) (k:=k) (kp:=λ_ _=>.stuck "panic") (Q:=Q) (λr A H pd X hA hR=>(c r H hR).elim) (n:=0) (fU (λ_=>E) J E 0 (Y l.au) w.toList) 0 _ [] L x _ _ e
  (λN m' hi=>by have:=Kw _ _ _ _ _ _ _ _ hi;simpa using this) (hB.go o (cU.refl _ _)) h (λM hx=>by cases hx) Rr hg (λG F u A H t j g d q=>hk G F u A H t (o.trans j) g d q) (λv G F u A H t j g d q=>q.elim)
 rw[SM] at m;simpa[Vz] using m
def aAN(z:ji p cf)(v:∀u e,¬p.R (.panicked u) e)(t:qF p cf D.dK B iD){Q:Exit->Act->World->Prop}{c:Code}{L:dt}{a:Act}
  (q:B.lT l x y L)(h:(afI cf n w r c l).aP p x L)(R:aA p.S0 p.w0 D cf.ty y x l a e)(o:eD cf.gl x)
  (A:∀X N G M H F,aA p.S0 p.w0 D cf.ty G N X M H->(tc cf w r X).aP p N F->Q .ret M H):jU Z f p.P c Q a e:=by
 unfold afI at h;split at h;exact vV (n:=0) (wpIn_ret (A l x y a e L R h));refine Kt (apY z v t q h R o ?_);intro X N G M H F _ _ m k;exact vV (n:=0) (wpIn_ret (A X N G M H F m k));exact h.elim
def aAO(g:ji p cf)(e:∀ch W,¬p.R (.panicked ch) W)(hY:qF p cf D.dK B iD):∀(c:Code)(k:S->T)(Q:Exit->Act->World->Prop)(s:S)(L:dt)(O:aj)(V:ar)(a:Act)(W:World),
  B.lT s O V L->(Ob cf n w r c k s).aP p O L->aA p.S0 p.w0 D cf.ty V O s a W->eD cf.gl O->
  (∀X N A H G v,bC s O V X N A->cU s.ax L v->aA p.S0 p.w0 D cf.ty A N X H G->(k X).aP p N v->Q .normal H G)->
  (∀X N A H G v,aA p.S0 p.w0 D cf.ty A N X H G->(tc cf w r X).aP p N v->Q .ret H G)->jU Z f p.P c Q a W:=by
 intro c;induction c with
 |region i an d=>
  intro k Q s L O V a W F h R M u q;cases d with|true=>exact False.elim h|false=>exact apY g e hY F h R M u
 |seq x y ab aa=>
  intro k Q s L O V a W F h R M u q;refine Kt (ab (Ob cf n w r y k) _ s L O V a W F h R M ?_ ?_);intro X N A H G v o hL R' ac;refine aa k Q X v N A H G (F.go o hL) ac R' (M.ext o.ext) ?_ q;intro s2 O2 V2 a2 W2 L2 af ag R2 al;exact u s2 O2 V2 a2 W2 L2 (o.trans af) (cU.trans (m:=X.ax) hL ag o.ax) R2 al;exact q
 |cond x y z aa a0=>
  intro k Q s L O V a W F h R M u q;cases z with
  |skip=>
   simp only[Ob] at h;split at h;rename_i b hc;have j:=de R M x (by rw[hc];rfl);rw[hc] at j;cases l:b.ai O;exact NM (t:=E) (by simpa[C.ai,l] using j) (vV (n:=0) (wpIn_skip (u s O V a W L (bC.refl _ _ _) (cU.refl _ _) R (h.2 l))));exact NM (t:=J) (by simpa[C.ai,l] using j) (aAN g e hY F (h.1 l) R M q);exact h.elim
  |_=>exact False.elim h
 |_=>intro k Q s L O V a W F h R M u q;exact False.elim h
def afJ(Q:ji p cf){N:Func}{a:Act}{L:dt}(R:aA p.S0 p.w0 D cf.ty y x l a e)(h:(tc cf w N.results.toList l).aP p x L):
  LeavesInM Fence.wide 0 p.P N a.tmps p.R [] .returning e:=by
 unfold tc at h;split at h;rename_i X M;refine⟨_,Kq R Q.kM M, ?_⟩;exact h x.y y _ (by rw[Q.pt];exact(R.mem.take _).lR (NS _));exact h.elim
def aAP{c:Code}(h:Tf c=U (v,N)):∃i o X,c=.region i #[o] E/\o.op=.defer X/\X.callee=.value (.func v)/\X.args= #[.tmp N]/\o.guard=Z/\o.dst=none:=by
 unfold Tf at h;split at h;rename_i i W;unfold apW at h;split at h;rename_i o V;split at h;rename_i X R Q P;split at h;rename_i L H O M;simp at h;obtain⟨rfl,rfl⟩:=h;exact⟨i,o,X,by rw[show W= #[o] by apply nH;simp[V]],R,O,by apply nH;simp[M],Q,P⟩;cases h;cases h;cases h;cases h
def aAQ(m:ji p cf)(af:∀ch W,¬p.R (.panicked ch) W){M:Func}(hf:p.P.funcs[f]?=U M)(hY:qF p cf [] B iD):∀(c:Code)(s:S)(L:dt)(O:aj)(V:ar)(a:Act)(W:World),
  (∀g,Fm c=U g->Fl p.P g A)->B.lT s O V L->(X0 cf A n f w M.results.toList c s).aP p O L->aA p.S0 p.w0 ⟨[],[],J,[]⟩ cf.ty V O s a W->eD cf.gl O->
  jU Z f p.P c (bodyPostM Fence.wide 0 p.P M p.R) a W:=by
 intro c;induction c with
 |seq x ag _ ih=>
  intro s L O V a W bq hB h R t;simp only[X0] at h;cases F:Tf x with
  |none=>
   rw[F] at h;simp only at h;refine Kt (aAO (D:=⟨[],[],J,[]⟩) m af hY x _ _ s L O V a W hB h R t ?_ ?_);intro l r k Q H j b hL R' ab;exact ih l j r k Q H (λg bc=>bq g (by simp only[Fm,F];exact bc)) (hB.go b hL) ab R' (t.ext b.ext);intro l r k Q H j R' ab;obtain⟨ms,z,q0,-,-⟩:=R'.dm.mz;have:=q0 rfl;subst this;show LeavesInM Fence.wide 0 p.P M Q.tmps p.R Q.defers .returning H;rw[show Q.defers=[] by simpa using z];exact afJ m R' ab
  |some q=>
   obtain⟨g,te⟩:=q;rw[F] at h;simp only at h;obtain⟨i,o,dc,rfl,g1,g2,g3,g4,g5⟩:=aAP F;have hc:=bq g (by simp only[Fm,F]);split at h;rename_i G bd;split at h;rename_i bf;have bg:a.tmps[te]?=U (.pointer (U ⟨ad V G,0,Z⟩)):=by
    rcases R.tmps _ _ bd with h|h;cases h;exact h
   have bk:a.defers=[]:=by
    obtain⟨ms,z,q0,-,-⟩:=R.dm.mz;have:=q0 rfl;subst this;simpa using z
   obtain⟨X,aa⟩:∃X:Deferred,X={target:=.fn (.func g) #[],args:= #[.pointer (U ⟨ad V G,0,Z⟩)]}:=⟨_,rfl⟩;have bl:ef p.w0 ⟨[],[],E,[X]⟩ s.pd O.y [X] W:=by
    have h:=R.dm;exact⟨h.len,h.rY,h.dK,h.inj,[],rfl,λ_=>rfl,aw,λd F=>by simp at F⟩
   have R2:aA p.S0 p.w0 ⟨[],[],E,[X]⟩ cf.ty V O s {a with defers:=[X]} W:=⟨R.mem,R.gE,R.ei,R.eb,R.er,bl,R.size,R.tmps,R.eP⟩;refine Kt (vV (n:=0) (wpIn_region ?_));have br:dj (#[o]:dG).size=[0]:=rfl;rw[br];have e2:(execOp a.eval o).run p.P W=.ok (.defer X) W:=by
    have:a.eval (.tmp te)=.pointer (U ⟨ad V G,0,Z⟩):=by simp[Act.eval,ach,bg]
    have h0:a.eval (.func g)=.func (.func g) #[] #[]:=rfl;simp[execOp,g1,resolve,g2,g3,this,h0,Deferred.ofValue,aa]
   have bs:∀y,lM o y=true:=λy=>by simp[lM,g4]
   have hF:=zC Z;show wpOpsIn _ 0 p.P #[o] _ [0] a W;simp only[wpOpsIn,ak0,Ch,bs,dP];refine⟨λf _=>hF.fn f, ?_⟩;rw[show(SF Z).round=Z from rfl,awn,e2,aJn];have bx:({a with defers:=X::a.defers}:Act).put o.dst undef={a with defers:=[X]}:=by
    rw[g5,bk];rfl
   rw[bx];show jU Z f p.P ag (bodyPostM Fence.wide 0 p.P M p.R) _ W;rw[N8] at h;refine(Ky m n).1 ⟨[],[],E,[X]⟩ _ iD Z f ag _ _ L O V _ W _ (Fc _ _) (jK.here s O V L) rfl (λhh=>by cases hh) ⟨M,hf⟩ h R2 t (λch Q H pd y hA hR=>(af ch H hR).elim) ?_;intro e l r k Q H j b hL RR N;obtain⟨al,z,q0,q2,q3⟩:=RR.dm.mz;have R3:=RR.rp z;have an:∀d0∈al,H.heap[d0]?=U (.deferred (U [])):=λd0 b0=>(q3 d0 (by simp[b0])).1
   have a0:al.Nodup:=(xk.1 q2).1;have a1:∀Wx,(invoke X.target X.args).run p.P Wx=.ok (.enter g #[.pointer (U ⟨ad V G,0,Z⟩)]) Wx:=λWx=>by
    rw[aa];simp[invoke,hc.zy]
   have a3:(tc cf w M.results.toList l).aP p r j->LeavesInM Fence.wide 0 p.P M Q.tmps p.R Q.defers .returning H:=by
    intro b1;rw[z];refine sd aw a0 an ⟨aw,.inr ⟨by simp[Fence.wide],_,_,_,_,by rw[aa],a1 _,λg t=>trivial, ?_⟩⟩;refine(hc.ret _ _).mono ?_;rintro en u W4 ⟨⟨v,rfl⟩,rfl,rfl⟩;exact afJ (a:={Q with defers:=[X]}) m R3 b1
   cases e with
   |normal=>exact a3 N|ret=>exact a3 N|exit id=>exact N.elim
   |bp v=>
    simp only[apX] at N;split at N;rename_i tt x;split at N;rename_i bt y a4;split at N;rename_i a9;simp only[aC,gc,bne_iff_ne,jT] at a9;obtain⟨⟨rfl,b2⟩,ba⟩:=a9;have bb:ad k G=ad V G:=b.ext.ad G bf;have ac:=R3.mem.box G bt _ a4;rw[qC ba] at ac;rw[bb] at ac;show LeavesInM Fence.wide 0 p.P M Q.tmps p.R Q.defers (.panicking _) H;rw[z];refine sd aw a0 an ⟨aw,.inr ⟨by simp[Fence.wide],_,_,_,_,by rw[aa],a1 _,λg t=>trivial, ?_⟩⟩;refine(hc.bp b2 _ (ad V G) bt (y.ai r) (x.ai r) ac).mono ?_;rintro en u W4 ⟨⟨v,rfl⟩,rfl,b3⟩;have R4:=R3.WO (cs':=[.int I x]) a4;rw[qC ba,bb] at R4;exact afJ (a:={Q with defers:=[X]}) m (R4.below (by rw[awc];exact b3)) N;exact N.elim;exact N.elim;exact N.elim
   exact h.elim;exact h.elim
 |_=>intro s L O V a W bq hB h R t;exact False.elim h
def aAR(N:ji p cf)(M:∀L W,¬p.R (.panicked L) W){X:Func}{c:Code}(Q:p.P.funcs[f]?=U X)(H:X.body=U c)(bq:∀g,Fm c=U g->Fl p.P g A)
    (G:(X1 cf A n f c X.ntmps X.results.toList t l).aP p x [])(F:eD cf.gl x)(R:aA p.S0 p.w0 bU.none cf.ty y x {l with tmps:=[]} ⟨#[],[]⟩ p.w0):
  Calls p.P f (C.az x y t).toArray p.w0 p.R:=by
 refine Ku Q H ?_;have z:ef p.w0 ⟨[],[],J,[]⟩ l.pd x.y [] p.w0:=by
  have h:=R.dm;exact⟨h.len,h.rY,h.dK,h.inj,[],rfl,λ_=>rfl,aw,λd w=>by simp at w⟩
 have RE:=R.enter t X.ntmps z;exact aAQ N M Q (Fc (p:=p) (cf:=cf) [] ⟨{l with tmps:=t++ew (X.ntmps-Y t) (.bI [])},x,y,[]⟩) c _ [] x y _ p.w0 bq (jK.here _ _ _ _) G RE F
end
def HF(cf:bv)(Q:Option TypeId)(n:Nat)(X:FuncId)(c:Code)(W:Nat)(r:nK)(V:aq)(s:S):T:=match Q with
 |none=>afF cf n X c W r V s
 |U R=>match rW c with|U _=>XW cf n X c W r R V s|none=>X1 cf R n X c W r V s
def xR(P:Program)(c:Code)(W:Option TypeId):Prop:=match W with
 |none=>True
 |U X=>match rW c with|U d=>zE P d.g X|none=>∀g,Fm c=U g->Fl P g X
def xR.erl{P:Program}{c:Code}(X:rW c=Z)(h:xR P c (U k)):∀g,Fm c=U g->Fl P g k:=by
 simp only[xR,X] at h;exact h
def xR.d{P:Program}{c:Code}{d:DI}(X:rW c=U d)(h:xR P c (U k)):zE P d.g k:=by
 simp only[xR,X] at h;exact h
def aAT{cf:bv}{c:Code}{X:Nat}{r:nK}(W:rW c=Z):HF cf (U k) N v c X r t l=X1 cf k N v c X r t l:=by
 simp only[HF,W]
def aAU{cf:bv}{c:Code}{X:Nat}{r:nK}{d:DI}(W:rW c=U d):HF cf (U k) N v c X r t l=XW cf N v c X r k t l:=by
 simp only[HF,W]
section
variable{P:Program}{a:Ty}{M Q:FuncId->mi}{bh:mA}{G:World->Prop}{H B:i7}{X d:aN}
def aAV{cf:bv}{u:Func}{c:Code}{F:aZ->jV}{glk:bo}{glv:aE}{l:aq}{m j:Nat}
  (ac:∀w R,(∀s W V o,w.heap.size<=V->R (.panicked s) W->R (.panicked s) (W.putObj V o))->ji ⟨P,a,[],w,bU.none,R,λ_ _ _=>False⟩ cf)(af:cf.ty=a)(ag:∀v,HC P a M Q G v (bh v))(hG:∀W r,Below W.heap.size W r->G W->G r)
  (hf:P.funcs[v]?=U u)(hb:u.body=U c)(bq:∀L,Fm c=U L->Fl P L k)(al:M v=U B)(an:Q v=U H)(a0:fJ a B=U d)(h:fJ a H=U X)
  (hl:gv a B t=U l)(a1:lz 0 0 (Y glv) d l=J)(bZ:g=glk++gh d)(a3:∀(D:Nat)(b:TypeId),g[D]?≠U (.own b))(a4:Y glv=Y glk)(hq:glv=[]\/wa X=J)
  (a9:∀x y,dL d y->(dJ x y).i.length=m)(ba:∀x y,dL d y->(dJ x y).b.length=j)
  (bb:∀W,G W->∃x,N7 a cf.gl glk glv W x)
  (ht:∀(p:Sp)(O:aj),b.aP p O []->(X1 cf k N v c u.ntmps u.results.toList t ⟨[],[],m,j,g,0,0,[]⟩).aP p O [])(bc:∀y A,F y≠U (.bp A))
  (hF:∀y o,dL d y->F y=U o->∃z,run a M Q bh H z b (dJ glv y) g []=U o):XO P a M Q G v F:=by
 intro bf bg bk bl e h2 h3 h4 xh y o ho hx aa W ab hH;rw[al] at e;cases e;rw[an] at h2;cases h2;rw[a0] at h3;cases h3;rw[h] at h4;cases h4;obtain⟨z,hN⟩:=hF xh o (SZ aa hx) ho;obtain⟨x,hL⟩:=bb W ab;obtain⟨bd,hv,q⟩:=afs af ag hG h hl a1 bZ a3 a4 hq a9 ba ab hL hN hx aa hH;rw[<-hv];refine aAR (p:=N3 P a W H X d y o) (cf:=cf) (ac W _ (afq W)) (λs r q=> ?_) hf hb bq (ht _ _ bd) (hL.afr y) q;obtain⟨-,A,h5,-⟩:=q;exact bc xh A (by rw[ho,h5])
end
section
variable{bh u:mA}
def pO(L:∀f H o,bh f H=U o->u f H=U o):∀(n R:Nat)(t:T)(O:aj)(i:mB)(o:aX),n<=R->exec bh n t O i=U o->exec u R t O i=U o
 |0,_,t,O,i,o,_,h=>by simp[exec] at h|n+1,0,t,O,i,o,G,h=>ae
 |n+1,R+1,t,O,i,o,G,h=>by
  have X:=pO L n R;cases t with
  |ret v F Q=>simpa only[exec] using h|bp v=>simpa only[exec] using h
  |aK b t f=>
   simp only[exec] at h⊢;split at h;rename_i W;rw[aH W];exact X t O i o ae h;rename_i W;rw[aJ W];exact X f O i o ae h
  |aS b t=>
   simp only[exec] at h⊢;split at h;rename_i W;rw[aH W];exact X t O i o ae h;cases h
  |call f D F Q B fA t=>
   simp only[exec] at h⊢;cases N:bh f ((pN D).map (C.xv O)) with
   |none=>rw[N] at h;cases h
   |some r=>
    rw[N] at h;rw[L _ _ _ N];cases r with
    |ret y=>
     simp only at h⊢;split at h;rename_i P;rw[aH P];exact X t _ i o ae h;cases h
    |bp v=>exact h
  |loop ax B w t=>
   simp only[exec] at h⊢;exact X t _ _ o ae h
  |back ax x=>
   simp only[exec] at h⊢;cases P:wb ax i with
   |none=>rw[P] at h;cases h
   |some q=>
    obtain⟨A,p⟩:=q;rw[P] at h;exact X A.t _ _ o ae h
  |new e x Q l t=>
   simp only[exec] at h⊢;exact X t _ i o ae h
  |ah k x Q t=>
   simp only[exec] at h⊢;exact X t _ i o ae h
  |gr g z t f=>
   simp only[exec] at h⊢;split at h;rename_i M;rw[aH M];split at h;rename_i V;rw[aH V];exact apk h (X t O i o ae) (X f O i o ae);rename_i V;rw[aJ V];exact X t O i o ae h;rename_i M;rw[aJ M];split at h;rename_i V;rw[aH V];exact X f O i o ae h;cases h
  |pick m g z t f=>
   simp only[exec] at h⊢;refine apl h λj _ q=> ?_
   cases j with|some j=>exact X t _ i o ae q|none=>exact X f _ i o ae q
  |eG f g e d c r Q t=>
   simp only[exec] at h⊢;split at h;rename_i a aa;exact X t _ i o ae h;cases h
  |out e s=>simp[exec] at h|stuck m=>simp[exec] at h
end
def iV(n:Int):RV:=.mk (.int I n) []
def bV(b:Bool):RV:=.mk (.bool b) []
def sV(l:bA):RV:=.mk (.slice Z (Y l) (Y l)) (l.map λn=>[iV n])
def Bl(b:Nat)(X:av):RV:=.mk (.slice (U ⟨b,0,Z⟩) (Y X) (Y X)) X
def wh:aE:=[
 Bl 0 ([(E,E,E,0,0,0),(J,J,E,1,0,16),(E,J,E,1,0,16),(J,J,E,0,3,0),(J,J,E,0,3,0),(E,J,E,0,3,0),(E,E,E,0,0,7),(E,E,J,0,0,0),(E,E,J,0,0,0),(J,E,E,0,3,0)].map λ(a,b,c,d,e,f)=>[bV a,bV b,bV c,iV d,iV e,iV f]),
 Bl 1 ([([],[]),([0],[]),([],[0,1]),([0],[]),([2],[]),([],[4]),([],[]),([],[2,3]),([],[0,1]),([2],[])].map λ(a,b)=>[sV a,sV b]),
 Bl 2 ([(0,29),(20,21),(29,0),(20,-21),(0,-29),(-20,-21),(-29,0),(-20,21)].map λ(a,b)=>[iV a,iV b])]
def mC(g:Bool):aE:=if g then wh else[]
def zF(d:Bool):jV->jV
 |U (.ret X)=>U (.ret X)|U (.bp v)=>if d then Z else U (.bp v)|none=>Z
structure Fn where
 t:T
 g:Bool:=E
 d:Bool:=E
structure lY where
 tree:FuncId->Option Fn
 uM:mA
def lY.bh(p:lY):Nat->mA
 |0=>p.uM
 |n+1=>λf W=>match p.uM f W with
  |U o=>U o
  |none=>match p.tree f with|U X=>zF X.d (exec (lY.bh p n) n X.t (dJ (mC X.g) W) [])|none=>Z
def ot{p:lY}:∀(n W:Nat)(f:FuncId)(X:aZ)(o:aX),n<=W->p.bh n f X=U o->p.bh W f X=U o
 |0,0,f,X,o,_,h=>h
 |0,W+1,f,X,o,_,h=>by
  simp only[lY.bh] at h⊢;rw[h]
 |n+1,0,f,X,o,M,_=>ae
 |n+1,W+1,f,X,o,M,h=>by
  simp only[lY.bh] at h⊢;cases Q:p.uM f X with
  |some P=>rw[Q] at h;exact h
  |none=>
   rw[Q] at h;simp only at h⊢;cases N:p.tree f with
   |none=>rw[N] at h;cases h
   |some V=>
    rw[N] at h;simp only at h⊢;cases R:exec (p.bh n) n V.t (dJ (mC V.g) X) [] with
    |none=>rw[R] at h;cases h
    |some P=>
     rw[R] at h;rw[pO (λf X o h=>ot n W f X o ae h) n W V.t _ _ P ae R];exact h
def lY.Ev(p:lY)(f:FuncId)(X:aZ)(o:aX):Prop:=∃n,p.bh n f X=U o
def lY.Go(p:lY)(t:T)(O:aj)(i:mB)(o:aX):Prop:=∃n,exec (p.bh n) n t O i=U o
section
variable{p:lY}{O:aj}{i:mB}{o:aX}
def afK{X:aZ}(h:p.uM v X=U o):p.Ev v X o:=⟨0,h⟩
def aAW{W:aZ}{X:Fn}(Q:p.tree v=U X)(P:p.uM v W=Z)(V:X.d=E\/∃R,o=.ret R)(h:p.Go X.t (dJ (mC X.g) W) [] o):p.Ev v W o:=by
 obtain⟨n,h⟩:=h;refine⟨n+1, ?_⟩;simp only[lY.bh,P,Q,h];rcases V with V|⟨R,rfl⟩;cases o<;>simp[zF,V];rfl
def go_of:p.Go b O i o<->∃n,exec (p.bh (n+1)) (n+1) b O i=U o:=
 ⟨λ⟨n,h⟩=>⟨n,pO (λf X o h=>ot n (n+1) f X o ae h) n (n+1) b O i o ae h⟩,λ⟨n,h⟩=>⟨n+1,h⟩⟩
def go_up{m:Nat}(h:exec (p.bh N) m b O i=U o):p.Go b O i o:=
 ⟨max N m,pO (λf X o h=>ot N _ f X o ae h) m _ b O i o ae h⟩
@[simp] def go_ret {v:C} {X:bm}:p.Go (.ret v X g) O i o<->o=.ret ((zD v).map (C.xv O)):=by
 rw[go_of];simp only[exec,dX]
 grind
@[simp] def go_pan {v:C}:p.Go (.bp v) O i o<->(KC O v).map .bp=U o:=by
 rw[go_of];simp only[exec];simp
@[simp] def go_node {X:BE} {f:T}:p.Go (.aK X b f) O i o<->if X.ai O=J then p.Go b O i o else p.Go f O i o:=by
 rw[go_of];simp only[exec];split
 ·exact⟨λ⟨n,h⟩=>go_up h,λ⟨n,h⟩=>⟨n,pO (λf W o h=>ot n (n+1) f W o ae h) n n b O i o ae h⟩⟩
 ·exact⟨λ⟨n,h⟩=>go_up h,λ⟨n,h⟩=>⟨n,pO (λf W o h=>ot n (n+1) f W o ae h) n n f O i o ae h⟩⟩
@[simp] def go_need {X:BE}:p.Go (.aS X b) O i o<->X.ai O=J/\p.Go b O i o:=by
 rw[go_of];simp only[exec];by_cases W:X.ai O=J
 ·simp only[W,dP,true_and];exact⟨λ⟨n,h⟩=>go_up h,λ⟨n,h⟩=>⟨n,pO (λf V o h=>ot n (n+1) f V o ae h) n n b O i o ae h⟩⟩
 simp[W]
@[simp] def go_loop {X:aN}:p.Go (.loop N X t b) O i o<->p.Go b (O.ext (t.map (C.xv O))) (⟨N,b,O⟩::i) o:=by
 rw[go_of];simp only[exec];exact⟨λ⟨n,h⟩=>go_up h,λ⟨n,h⟩=>⟨n,pO (λf W o h=>ot n (n+1) f W o ae h) n n b _ _ o ae h⟩⟩
@[simp] def go_new {x:LE} {X:bo}:p.Go (.new k x g X b) O i o<->p.Go b (O.add (.r (gu x O))) i o:=by
 rw[go_of];simp only[exec];exact⟨λ⟨n,h⟩=>go_up h,λ⟨n,h⟩=>⟨n,pO (λf W o h=>ot n (n+1) f W o ae h) n n b _ _ o ae h⟩⟩
@[simp] def go_rows {k:RK} {x:LE}:p.Go (.ah k x g b) O i o<->p.Go b (O.add (.r (gu x O))) i o:=by
 rw[go_of];simp only[exec];exact⟨λ⟨n,h⟩=>go_up h,λ⟨n,h⟩=>⟨n,pO (λf X o h=>ot n (n+1) f X o ae h) n n b _ _ o ae h⟩⟩
def go_turn{X:FuncId}{W:bu}{V:Bool}{r:RE}{R:av}(h:oK O W V (r.rv O).ah=U R):p.Go (.eG v X k W V r g b) O i o<->p.Go b (O.add (.r (.mk (r.rv O).val R))) i o:=by
 rw[go_of];simp only[exec,h];exact⟨λ⟨n,h⟩=>go_up h,λ⟨n,h⟩=>⟨n,pO (λv Q o h=>ot n (n+1) v Q o ae h) n n b _ _ o ae h⟩⟩
def go_back{W:mB}{X:Lp}(h:wb N i=U (X,W)):p.Go (.back N t) O i o<->p.Go X.t (X.O.ext (t.map (C.xv O))) (X::W) o:=by
 rw[go_of];simp only[exec,h];exact⟨λ⟨n,h⟩=>go_up h,λ⟨n,h⟩=>⟨n,pO (λf V o h=>ot n (n+1) f V o ae h) n n X.t _ _ o ae h⟩⟩
def go_call{R:bm}{V:aN}{fA:C}{X:aZ}(h:p.Ev v ((pN t).map (C.xv O)) (.ret X))(Q:fC V X=J)(W:p.Go b (O.ext X) i o):p.Go (.call v t R g V fA b) O i o:=by
 obtain⟨n,h⟩:=h;obtain⟨m,W⟩:=W;refine⟨max n m+1, ?_⟩;simp only[exec];rw[ot n _ _ _ _ ae h];simp only[Q,dP];exact pO (λv P o h=>ot m _ v P o ae h) m _ b _ _ o ae W
def go_callp{W:bm}{V:aN}{fA:C}{X:Value}(h:p.Ev v ((pN t).map (C.xv O)) (.bp X)):p.Go (.call v t W g V fA b) O i (.bp X):=by
 obtain⟨n,h⟩:=h;refine⟨n+1, ?_⟩;simp only[exec];rw[ot n _ _ _ _ ae h]
end
structure PC where
 ax:Nat
 I:aZ->Prop
 μ:aZ->Nat
 m:Nat
abbrev ck:=List PC
def Bm(ax:Nat):ck->Option PC
 |[]=>Z|x::X=>if x.ax=ax then U x else Bm ax X
def KL(R:aX->Prop):Prop:=∀o X,R o->R X->o=X/\Bh o o=J
def T.nV(W:FuncId->aZ->aX->Prop):T->(aX->Prop)->aj->ck->Prop
 |.ret v _ _,R,O,_=>R (.ret ((zD v).map (C.xv O)))|.bp v,R,O,_=>∃x,KC O v=U x/\R (.bp x)|.aK b t f,R,O,L=>(b.ai O=J->t.nV W R O L)/\(b.ai O=E->f.nV W R O L)|.aS b t,R,O,L=>b.ai O=J/\t.nV W R O L
 |.call f G _ _ F _ t,R,O,L=>∃o,W f ((pN G).map (C.xv O)) o/\(match o with|.ret N=>fC F N=J/\t.nV W R (O.ext N) L|.bp v=>R (.bp v))
 |.loop ax _ D t,R,O,L=>∃V Q,((V=R/\Q=L)\/((∀o,V o->R o)/\Q=[]))/\∃X M,X (D.map (C.xv O))/\∀P,X P->t.nV W V (O.ext P) (⟨ax,X,M,M P⟩::Q)
 |.back ax x,R,O,L=>match Bm ax L with|U c=>c.I (x.map (C.xv O))/\c.μ (x.map (C.xv O))<c.m|none=>False
 |.new _ x _ _ t,R,O,L=>t.nV W R (O.add (.r (gu x O))) L|.ah _ x _ t,R,O,L=>t.nV W R (O.add (.r (gu x O))) L|.gr g h t f,R,O,L=>(g.ai O=J\/h.ai O=J)/\(g.ai O=J->t.nV W R O L)/\(h.ai O=J->f.nV W R O L)/\(g.ai O=J->h.ai O=J->KL R)|.pick n g h t f,R,O,L=>KL R/\xN n g h O≠[]/\(∀j:Int,0<=j->j<n.ai O->g.ai (O.add (.i j))=J->t.nV W R (O.add (.i j)) L)/\(h.ai O=J->f.nV W R O L)|.eG _ _ _ B A r _ t,R,O,L=>∃H,oK O B A (r.rv O).ah=U H/\t.nV W R (O.add (.r (.mk (r.rv O).val H))) L|.stuck _,_,_,_=>False|.out _ _,_,_,_=>False
def T.wp(X:FuncId->aZ->aX->Prop)(R:aX->Prop)(t:T)(O:aj)(L:ck):Prop:=t.nV X R O L
section
variable{a:lY}{R:aX->Prop}
inductive C4(a:lY)(R:aX->Prop):List PC->List Lp->Prop where
 |nil (st:List Lp):C4 a R [] st
 |cons (c:PC) (fr:Lp) (L:List PC) (st:List Lp) (h1:c.ax=fr.ax) (h2:∀xs,c.I xs->c.μ xs<c.m->∃o,a.Go fr.t (fr.O.ext xs) (fr::st) o/\R o) (h3:C4 a R L st):C4 a R (c::L) (fr::st)
def C4.find{L:ck}{W:mB}(h:C4 a R L W){c:PC}(V:Bm N L=U c):
  ∃X P,wb N W=U (X,P)/\∀Q,c.I Q->c.μ Q<c.m->∃o,a.Go X.t (X.O.ext Q) (X::P) o/\R o:=by
 induction h with
 |nil _=>cases V
 |cons F X L W M H D B=>
  simp only[Bm] at V;simp only[wb,<-M];split at V;rename_i G;cases V;rw[aH G];exact⟨X,W,rfl,H⟩
  grind
def go_mono{X:mB}{o:aX}{m:Nat}(h:exec (a.bh N) N b x X=U o)(W:N<=m):exec (a.bh m) m b x X=U o:=
 pO (λf V o h=>ot N m f V o W h) N m b x X o W h
def apZ{X:Type}{f:X->jV}{o:aX}(V:Bh o o=J):∀{l:List X},l≠[]->(∀x∈l,f x=U o)->vZ (l.map f)=U o
 |[],h,_=>bB rfl h|[x],_,h=>by simpa[vZ] using h x aw
 |x::y::r,_,h=>by
  have:=apZ V (l:=y::r) aw (λz W=>h z (by simp at W⊢;exact .inr W))
  grind [vZ,C3]
def ap0{W:Type}{p:W->Nat->Prop}(V:∀x n m,p x n->n<=m->p x m):∀{l:List W},(∀x∈l,∃n,p x n)->∃n,∀x∈l,p x n
 |[],_=>⟨0,λx Q=>by cases Q⟩
 |x::r,h=>by
  obtain⟨n,O⟩:=h x aw;obtain⟨m,P⟩:=ap0 V (l:=r) (λz X=>h z (by simp[X]));refine⟨max n m,λz X=> ?_⟩;rcases ey.1 X with rfl|X
  grind
  exact V _ _ _ (P z X) ae
def go_wp:∀(t:T)(R:aX->Prop)(O:aj)(L:ck)(W:mB),t.nV a.Ev R O L->C4 a R L W->∃o,a.Go t O W o/\R o
 |.ret v bx y,R,O,L,W,h,_=>⟨_,go_ret.2 rfl,h⟩
 |.bp v,R,O,L,W,h,_=>by
  obtain⟨x,P,V⟩:=h;exact⟨.bp x,go_pan.2 (by rw[P];rfl),V⟩
 |.aK b t f,R,O,L,W,h,Q=>by
  simp;cases hb:b.ai O with|true=>simpa using go_wp t R O L W (h.1 hb) Q|false=>simpa using go_wp f R O L W (h.2 hb) Q
 |.aS b t,R,O,L,W,h,Q=>by
  obtain⟨o,P,V⟩:=go_wp t R O L W h.2 Q;exact⟨o,go_need.2 ⟨h.1,P⟩,V⟩
 |.call f a1 bx y ks fA t,R,O,L,W,h,Q=>by
  obtain⟨o,P,V⟩:=h;cases o with
  |ret ys=>
   obtain⟨o,M,F⟩:=go_wp t R (O.ext ys) L W V.2 Q;exact⟨o,go_call P V.1 M,F⟩
  |bp v=>exact⟨.bp v,go_callp P,V⟩
 |.loop ax ks x0 t,R,O,L,W,h,Q=>by
  obtain⟨w,L',ab,X,μ,P,V⟩:=h;have aa:C4 a w L' W/\∀o,w o->R o:=by
   rcases ab with⟨rfl,rfl⟩|⟨M,rfl⟩
   grind
   exact⟨C4.nil W,M⟩
  have ac:∀n N,μ N<n->X N->∃o,a.Go t (O.ext N) (⟨ax,t,O⟩::W) o/\w o:=by
   intro n;induction n with
   |zero=>intro N d;omega
   |succ n ih=>
    intro N d hI;exact go_wp t w (O.ext N) _ _ (V N hI) (C4.cons _ _ _ _ rfl (λaf ag hm=>ih af (by simp only at hm;omega) ag) aa.1)
  obtain⟨o,M,F⟩:=ac _ _ (VF _) P;exact⟨o,go_loop.2 M,aa.2 o F⟩
 |.back ax x,R,O,L,W,h,Q=>by
  simp only[T.nV] at h;split at h
  ·rename_i c hf;obtain⟨fr,a3,P,V⟩:=Q.find hf;obtain⟨o,M,F⟩:=V _ h.1 h.2;exact⟨o,(go_back P).2 M,F⟩
  grind
 |.new e x y a4 t,R,O,L,W,h,Q=>by
  obtain⟨o,P,V⟩:=go_wp t R _ L W h Q;exact⟨o,go_new.2 P,V⟩
 |.ah e x y t,R,O,L,W,h,Q=>by
  obtain⟨o,P,V⟩:=go_wp t R _ L W h Q;exact⟨o,go_rows.2 P,V⟩
 |.gr g z t f,R,O,L,W,h,Q=>by
  obtain⟨u,P,V,M⟩:=h;cases B:g.ai O with
  |true=>
   obtain⟨o,H,A⟩:=go_wp t R O L W (P B) Q;cases D:z.ai O with
   |true=>
    obtain⟨o',k1,k2⟩:=go_wp f R O L W (V D) Q;obtain⟨rfl,e⟩:=M B D o o' A k2;obtain⟨n,H⟩:=H;obtain⟨m,k1⟩:=k1;refine⟨o,⟨max n m+1, ?_⟩,A⟩;simp only[exec,B,D,dP];rw[pO (λf N o h=>ot n _ f N o ae h) n (max n m) t O W o ae H,pO (λf N o h=>ot m _ f N o ae h) m (max n m) f O W o ae k1,C3,aH e]
   |false=>
    obtain⟨n,H⟩:=H;refine⟨o,⟨n+1, ?_⟩,A⟩;simp only[exec,B,D,dP];exact pO (λf N o h=>ot n _ f N o ae h) n n t O W o ae H
  |false=>
   have D:z.ai O=true:=u.resolve_left (by simp[B]);obtain⟨o,H,A⟩:=go_wp f R O L W (V D) Q;obtain⟨n,H⟩:=H;refine⟨o,⟨n+1, ?_⟩,A⟩;simp only[exec,B,D,dP];exact pO (λf N o h=>ot n _ f N o ae h) n n f O W o ae H
 |.pick m g z t f,R,O,L,W,h,Q=>by
  obtain⟨hs,u,P,V⟩:=h;have hw:∀j∈xN m g z O,∃o,R o/\(match j with
   |U j=>a.Go t (O.add (.i j)) W o
   |none=>a.Go f O W o):=by
   intro j G;cases j with
   |some j=>
    simp only[xN,fc,fo,qj,rO] at G;rcases G with⟨j',⟨⟨k,hk,rfl⟩,B⟩,e⟩|G
    ·cases e;obtain⟨o,H,A⟩:=go_wp t R (O.add (.i (k:Int))) L W (P _ ae ae B) Q
     grind
    grind
   |none=>
    simp only[xN,fc,fo,qj,rO] at G;rcases G with⟨j',_,e⟩|G;cases e;split at G
    ·rename_i D;obtain⟨o,H,A⟩:=go_wp f R O L W (V D) Q
     grind
    grind
  obtain⟨j0,al⟩:=List.exists_mem_of_ne_nil _ u;obtain⟨o,q,_⟩:=hw j0 al;have an:Bh o o=true:=(hs o o q q).2;obtain⟨n,d⟩:=ap0 (p:=λj n=>(match j with
   |U j=>exec (a.bh n) n t (O.add (.i j)) W
   |none=>exec (a.bh n) n f O W)=U o) (λx n m hx a0=>by cases x<;>exact go_mono hx a0) (l:=xN m g z O) (λj G=>by
    obtain⟨o',M,F⟩:=hw j G;obtain⟨rfl,_⟩:=hs o o' q M;cases j<;>exact F)
  refine⟨o,⟨n+1, ?_⟩,q⟩;simp only[exec];refine apZ an u λj G=> ?_
  have:=d j G;cases j with|some j=>exact pO (λf N o h=>ot n _ f N o ae h) n n t _ W o ae this|none=>exact pO (λf N o h=>ot n _ f N o ae h) n n f O W o ae this
 |.eG f g e sp sb r y t,R,O,L,W,h,Q=>by
  obtain⟨a9,P,V⟩:=h;obtain⟨o,M,F⟩:=go_wp t R _ L W V Q;exact⟨o,(go_turn P).2 M,F⟩
 |.stuck m,R,O,L,W,h,_=>h.elim|.out e s,R,O,L,W,h,_=>h.elim
def Oc(a:lY)(f:FuncId)(X:Fn):Prop:=a.tree f=U X/\∀W,a.uM f W=Z
def ap1{W:Fn}{V:aZ}(Q:Oc a v W)(O:W.d=E\/∀X,¬R (.bp X))(h:W.t.wp a.Ev R (dJ (mC W.g) V) []):∃o,a.Ev v V o/\R o:=by
 obtain⟨o,N,P⟩:=go_wp W.t R _ [] [] h (C4.nil []);refine⟨o,aAW Q.1 (Q.2 _) (O.imp id λM=> ?_) N,P⟩;cases o with|ret L=>exact⟨L,rfl⟩|bp X=>exact(M X P).elim
def KM{W:Fn}{V:aZ}{o:aX}(Q:Oc a v W)(P:W.d=E\/∀X,o≠ .bp X)(h:W.t.wp a.Ev (· =o) (dJ (mC W.g) V) []):a.Ev v V o:=by
 obtain⟨M,L,H⟩:=ap1 (R:=(· =o)) Q (P.imp id λO X N=>O X N.symm) h
 grind
def Od{X:aZ}{o W:aX}(h:a.Ev v X o)(k:a.Ev v X W):o=W:=by
 obtain⟨n,h⟩:=h;obtain⟨m,k⟩:=k;have V:=ot n (max n m) v X o ae h;have Q:=ot m (max n m) v X W ae k
 grind
end
def X2(n j:Nat)(a b c:Int)(X:av):Int:=match mu n [a,b,c] X with|U W=>bn (W.getD j default).val|none=>0
def X3(n j:Nat)(a b c:Int)(X:av):Bool:=match mu n [a,b,c] X with|U W=>jw (W.getD j default).val|none=>E
def K.dn(e:K):aj->Int:=K.rec (motive_1:=λ_=>aj->Int) (motive_2:=λ_=>aj->Bool) (motive_3:=λ_=>aj->RV) (λn _=>n) (λk O=>O.i.getD k 0) (λX k _ _ a b O=>be X k (a O) (b O)) (λk _ a O=>k.wrap (a O)) (λ_ r O=>lenOf (r O).val) (λW _ _ a b O=>cond W (max (a O) (b O)) (min (a O) (b O))) (λ_ _ _ b x y O=>cond (b O) (x O) (y O)) (λ_ _ j r i O=>bn (aQ (r O).ah (i O) j).val) (λ_ _ r i O=>G7 (r O).val (i O)) (λ_ n _ _ _ j r a b c O=>X2 n j (a O) (b O) (c O) (r O).ah) (λb _=>b) (λk O=>O.b.getD k E) (λX _ _ a b O=>fp X (a O) (b O)) (λ_ a O=> !(a O)) (λ_ _ a b O=>a O&&b O) (λ_ _ a b O=>a O==b O) (λ_ _ _ b x y O=>cond (b O) (x O) (y O)) (λ_ _ j r i O=>jw (aQ (r O).ah (i O) j).val) (λ_ _ a b O=>xA (a O).val (b O).val) (λ_ n _ _ _ j r a b c O=>X3 n j (a O) (b O) (c O) (r O).ah) (λ_ n _ _ _ r a b c O=>(mu n [a O,b O,c O] (r O).ah).isSome) (λk O=>O.rv k) (λ_ _ j k r i O=>cJ k (aQ (r O).ah (i O) j)) (λv _=>.mk v []) e
def BE.dn(e:BE):aj->Bool:=BE.rec (motive_1:=λ_=>aj->Int) (motive_2:=λ_=>aj->Bool) (motive_3:=λ_=>aj->RV) (λn _=>n) (λk O=>O.i.getD k 0) (λX k _ _ a b O=>be X k (a O) (b O)) (λk _ a O=>k.wrap (a O)) (λ_ r O=>lenOf (r O).val) (λW _ _ a b O=>cond W (max (a O) (b O)) (min (a O) (b O))) (λ_ _ _ b x y O=>cond (b O) (x O) (y O)) (λ_ _ j r i O=>bn (aQ (r O).ah (i O) j).val) (λ_ _ r i O=>G7 (r O).val (i O)) (λ_ n _ _ _ j r a b c O=>X2 n j (a O) (b O) (c O) (r O).ah) (λb _=>b) (λk O=>O.b.getD k E) (λX _ _ a b O=>fp X (a O) (b O)) (λ_ a O=> !(a O)) (λ_ _ a b O=>a O&&b O) (λ_ _ a b O=>a O==b O) (λ_ _ _ b x y O=>cond (b O) (x O) (y O)) (λ_ _ j r i O=>jw (aQ (r O).ah (i O) j).val) (λ_ _ a b O=>xA (a O).val (b O).val) (λ_ n _ _ _ j r a b c O=>X3 n j (a O) (b O) (c O) (r O).ah) (λ_ n _ _ _ r a b c O=>(mu n [a O,b O,c O] (r O).ah).isSome) (λk O=>O.rv k) (λ_ _ j k r i O=>cJ k (aQ (r O).ah (i O) j)) (λv _=>.mk v []) e
def RE.dn(e:RE):aj->RV:=RE.rec (motive_1:=λ_=>aj->Int) (motive_2:=λ_=>aj->Bool) (motive_3:=λ_=>aj->RV) (λn _=>n) (λk O=>O.i.getD k 0) (λX k _ _ a b O=>be X k (a O) (b O)) (λk _ a O=>k.wrap (a O)) (λ_ r O=>lenOf (r O).val) (λW _ _ a b O=>cond W (max (a O) (b O)) (min (a O) (b O))) (λ_ _ _ b x y O=>cond (b O) (x O) (y O)) (λ_ _ j r i O=>bn (aQ (r O).ah (i O) j).val) (λ_ _ r i O=>G7 (r O).val (i O)) (λ_ n _ _ _ j r a b c O=>X2 n j (a O) (b O) (c O) (r O).ah) (λb _=>b) (λk O=>O.b.getD k E) (λX _ _ a b O=>fp X (a O) (b O)) (λ_ a O=> !(a O)) (λ_ _ a b O=>a O&&b O) (λ_ _ a b O=>a O==b O) (λ_ _ _ b x y O=>cond (b O) (x O) (y O)) (λ_ _ j r i O=>jw (aQ (r O).ah (i O) j).val) (λ_ _ a b O=>xA (a O).val (b O).val) (λ_ n _ _ _ j r a b c O=>X3 n j (a O) (b O) (c O) (r O).ah) (λ_ n _ _ _ r a b c O=>(mu n [a O,b O,c O] (r O).ah).isSome) (λk O=>O.rv k) (λ_ _ j k r i O=>cJ k (aQ (r O).ah (i O) j)) (λv _=>.mk v []) e
def X4{X:Type}(b:Bool)(x y:X):cond b x y=if b then x else y:=by cases b<;>rfl
mutual
def K.gj:∀(e:K)(O:aj),e.dn O=e.ai O
 |.c _,_=>rfl|.v _,_=>rfl|.bin o k a b,O=>by show be o k (a.dn O) (b.dn O)=_;rw[K.gj a,K.gj b];rfl|.conv k a,O=>by show k.wrap (a.dn O)=_;rw[K.gj a];rfl|.len r,O=>by show lenOf (r.dn O).val=_;rw[RE.gj r];rfl|.mm m a b,O=>by show cond m (max (a.dn O) (b.dn O)) (min (a.dn O) (b.dn O))=_;rw[K.gj a,K.gj b,X4];rfl|.dw b x y,O=>by show cond (b.dn O) (x.dn O) (y.dn O)=_;rw[BE.gj b,K.gj x,K.gj y,X4];rfl|.cell r i j,O=>by show bn (aQ (r.dn O).ah (i.dn O) j).val=_;rw[RE.gj r,K.gj i];rfl|.oZ r i,O=>by show G7 (r.dn O).val (i.dn O)=_;rw[RE.gj r,K.gj i];rfl|.look r n a b c j,O=>by show X2 n j (a.dn O) (b.dn O) (c.dn O) (r.dn O).ah=_;rw[RE.gj r,K.gj a,K.gj b,K.gj c];rfl
def BE.gj:∀(e:BE)(O:aj),e.dn O=e.ai O
 |.c _,_=>rfl|.v _,_=>rfl|.cmp o a b,O=>by show fp o (a.dn O) (b.dn O)=_;rw[K.gj a,K.gj b];rfl|.not a,O=>by show(!(a.dn O))=_;rw[BE.gj a];rfl|.and a b,O=>by show(a.dn O&&b.dn O)=_;rw[BE.gj a,BE.gj b];rfl|.beq a b,O=>by show(a.dn O==b.dn O)=_;rw[BE.gj a,BE.gj b];rfl|.dw b x y,O=>by show cond (b.dn O) (x.dn O) (y.dn O)=_;rw[BE.gj b,BE.gj x,BE.gj y,X4];rfl|.cell r i j,O=>by show jw (aQ (r.dn O).ah (i.dn O) j).val=_;rw[RE.gj r,K.gj i];rfl|.seq a b,O=>by show xA (a.dn O).val (b.dn O).val=_;rw[RE.gj a,RE.gj b];rfl|.look r n a b c j,O=>by show X3 n j (a.dn O) (b.dn O) (c.dn O) (r.dn O).ah=_;rw[RE.gj r,K.gj a,K.gj b,K.gj c];rfl|.has r n a b c,O=>by show(mu n [a.dn O,b.dn O,c.dn O] (r.dn O).ah).isSome=_;rw[RE.gj r,K.gj a,K.gj b,K.gj c];rfl
def RE.gj:∀(e:RE)(O:aj),e.dn O=e.rv O
 |.v _,_=>rfl|.cell r i j k,O=>by show cJ k (aQ (r.dn O).ah (i.dn O) j)=_;rw[RE.gj r,K.gj i];rfl|.k _,_=>rfl
end
def fN{X:Type}(n:Nat)(k:Nat->X):X:=JG (motive:=λ_=>X) (k 0) (λm _=>k (Nat.succ m)) n
def fI{X:Type}(n:Int)(k:Int->X):X:=Int.rec (motive:=λ_=>X) (λn=>fN n λn=>k (alh n)) (λn=>fN n λn=>k (ale n)) n
def fB{X:Type}(b:Bool)(k:Bool->X):X:=Mw (motive:=λ_=>X) (k E) (k J) b
def fV{X:Type}(v:Value)(k:Value->X):X:=match v with|.int q n=>fI n λn=>k (.int q n)|.bool b=>fB b λb=>k (.bool b)|.slice Z n c=>fN n λn=>fN c λc=>k (.slice Z n c)|v=>k v
def fR{X:Type}(v:RV):(RV->X)->X:=RV.rec (motive_1:=λ_=>(RV->X)->X) (motive_2:=λ_=>(av->X)->X) (motive_3:=λ_=>(aE->X)->X) (λv _ h k=>fV v λv=>h λl=>k (.mk v l)) (λk=>k []) (λ_ _ h W k=>h λx=>W λV=>k (x::V)) (λk=>k []) (λ_ _ h W k=>h λx=>W λV=>k (x::V)) v
def fRs{X:Type}(v:av):(av->X)->X:=RV.rec_1 (motive_1:=λ_=>(RV->X)->X) (motive_2:=λ_=>(av->X)->X) (motive_3:=λ_=>(aE->X)->X) (λv _ h k=>fV v λv=>h λl=>k (.mk v l)) (λk=>k []) (λ_ _ h W k=>h λx=>W λV=>k (x::V)) (λk=>k []) (λ_ _ h W k=>h λx=>W λV=>k (x::V)) v
def fRr{X:Type}(v:aE):(aE->X)->X:=RV.rec_2 (motive_1:=λ_=>(RV->X)->X) (motive_2:=λ_=>(av->X)->X) (motive_3:=λ_=>(aE->X)->X) (λv _ h k=>fV v λv=>h λl=>k (.mk v l)) (λk=>k []) (λ_ _ h W k=>h λx=>W λV=>k (x::V)) (λk=>k []) (λ_ _ h W k=>h λx=>W λV=>k (x::V)) v
def fX{X:Type}(x:XV)(k:XV->X):X:=match x with|.i n=>fI n λn=>k (.i n)|.b b=>fB b λb=>k (.b b)|.r v=>fR v λv=>k (.r v)
def fL{X:Type}(l:aZ):(aZ->X)->X:=AL (motive:=λ_=>(aZ->X)->X) (λk=>k []) (λx _ W k=>fX x λx=>W λV=>k (x::V)) l
def X5{X:Type}:∀(n:Nat)(k:Nat->X),fN n k=k n
 |0,_=>rfl|_+1,_=>rfl
def afN{X:Type}:∀(n:Int)(k:Int->X),fI n k=k n
 |.ofNat n,k=>X5 n λn=>k (alh n)|.negSucc n,k=>X5 n λn=>k (ale n)
def ap2{X:Type}:∀(n:Bool)(k:Bool->X),fB n k=k n
 |E,_=>rfl|J,_=>rfl
def aAX{X:Type}(v:Value)(k:Value->X):fV v k=k v:=by
 unfold fV;split;exact afN _ _;exact ap2 _ _;rw[X5,X5];rfl
mutual
def afO{X:Type}:∀(v:RV)(k:RV->X),fR v k=k v
 |.mk v l,k=>by
  show(fV v λv=>fRs l λl=>k (.mk v l))=_;rw[aAX,ap3 l]
def ap3{W:Type}:∀(l:av)(k:av->W),fRs l k=k l
 |[],_=>rfl
 |x::X,k=>by
  show(fRr x λx=>fRs X λX=>k (x::X))=_;rw[ap4 x,ap3 X]
def ap4{W:Type}:∀(l:aE)(k:aE->W),fRr l k=k l
 |[],_=>rfl
 |x::X,k=>by
  show(fR x λx=>fRr X λX=>k (x::X))=_;rw[afO x,ap4 X]
end
def aAY{X:Type}(x:XV)(k:XV->X):fX x k=k x:=by
 cases x<;>simp only[fX,afN,ap2,afO]
def ap5{W:Type}:∀(l:aZ)(k:aZ->W),fL l k=k l
 |[],_=>rfl
 |x::X,k=>by
  show(fX x λx=>fL X λX=>k (x::X))=_;rw[aAY,ap5 X]
def fS{X V:Type}(l:List V):(List V->X)->X:=AL (motive:=λ_=>(List V->X)->X) (λk=>k []) (λx _ W k=>W λR=>k (x::R)) l
def fE{X:Type}(O:aj)(k:aj->X):X:=aj.rec (motive:=λ_=>X) (λi b r y=>fS i λi=>fS b λb=>fS r λr=>k ⟨i,b,r,y⟩) O
def X6{W V:Type}:∀(l:List V)(k:List V->W),fS l k=k l
 |[],_=>rfl|x::X,k=>X6 X λX=>k (x::X)
def ap6{X:Type}(O:aj)(k:aj->X):fE O k=k O:=by
 obtain⟨i,b,r,y⟩:=O;show(fS i λi=>fS b λb=>fS r λr=>k ⟨i,b,r,y⟩)=_;rw[X6,X6,X6]
def C.xn(O:aj):C->XV
 |.int _ e=>.i (e.dn O)|.bool b=>.b (b.dn O)|.ak r=>.r (r.dn O)|_=>.i 0
def aAZ(O:aj):C.xn O=C.xv O:=by
 funext v;cases v<;>simp only[C.xn,C.xv,K.gj,BE.gj,RE.gj]
def T.step(X:T->aj->mB->jV)(bh:mA)(t:T)(O:aj)(W:mB):jV:=match t with
 |.ret v _ _=>fL ((zD v).map (C.xn O)) λl=>U (.ret l)|.bp v=>(KC O v).map .bp|.aK b t f=>cond (b.dn O) (X t O W) (X f O W)|.aS b t=>cond (b.dn O) (X t O W) Z
 |.call f P _ _ N _ t=>fL ((pN P).map (C.xn O)) λV=>match bh f V with|U (.ret Q)=>cond (fC N Q) (fE (O.ext Q) λO=>X t O W) Z|U (.bp v)=>U (.bp v)|none=>Z
 |.loop ax _ M t=>fL (M.map (C.xn O)) λV=>fE (O.ext V) λL=>X t L (⟨ax,t,O⟩::W)
 |.back ax x=>match wb ax W with|U (R,H)=>fL (x.map (C.xn O)) λV=>fE (R.O.ext V) λO=>X R.t O (R::H)|none=>Z
 |.new _ x _ _ t=>fR (gu x O) λv=>fE (O.add (.r v)) λO=>X t O W|.ah _ x _ t=>fR (gu x O) λv=>fE (O.add (.r v)) λO=>X t O W|.gr g h t f=>cond (g.dn O) (cond (h.dn O) (C3 (X t O W) (X f O W)) (X t O W)) (cond (h.dn O) (X f O W) Z)
 |.pick m g h t f=>vZ ((xN m g h O).map λj=>match j with|U j=>fI j λj=>fE (O.add (.i j)) λO=>X t O W|none=>X f O W)
 |.eG _ _ _ G F r _ t=>match oK O G F (r.dn O).ah with|U l=>fR (.mk (r.dn O).val l) λv=>fE (O.add (.r v)) λO=>X t O W|none=>Z
 |_=>Z
def X7(bh:mA)(n:Nat):T->aj->mB->jV:=JG (motive:=λ_=>T->aj->mB->jV) (λ_ _ _=>Z) (λ_ X=>T.step X bh) n
def ap7(bh:mA):∀n,X7 bh n=exec bh n
 |0=>by funext t O X;simp only[exec];rfl
 |n+1=>by
  funext t O X;show T.step (X7 bh n) bh t O X=_;rw[ap7 bh n];cases t<;>simp only[T.step,exec,X4,BE.gj,RE.gj,aAZ,ap5,afO,afN,ap6]
  try case call f W _ _ Q _ t=>
   cases bh f ((pN W).map (C.xv O)) with|none=>rfl|some o=>cases o<;>rfl
  try case back ax x=>cases wb ax X<;>rfl
  try case pick m g h t f=>
   refine j7 vZ (ky λj _=> ?_);cases j<;>rfl
  try case eG f g e V R r P t=>cases oK O V R (r.rv O).ah<;>rfl
def X8(X:lY)(n:Nat):mA:=JG (motive:=λ_=>mA) X.uM (λn R f V=>match X.uM f V with
  |U o=>U o
  |none=>match X.tree f with|U W=>zF W.d (fE (dJ (mC W.g) V) λO=>X7 R n W.t O [])|none=>Z) n
def ap8(X:lY):∀n,X8 X n=X.bh n
 |0=>rfl
 |n+1=>by
  funext f W;simp only[lY.bh];show(match X.uM f W with
   |U o=>U o
   |none=>match X.tree f with|U V=>zF V.d (fE (dJ (mC V.g) W) λO=>X7 (X8 X n) n V.t O [])|none=>Z)=_
  rw[ap8 X n];simp only[ap7,ap6]
  all_goals cases X.uM f W with|some o=>rfl|none=>cases X.tree f<;>rfl
def aA0{X:lY}{f:Nat}{W:aZ}{o:aX}(h:X8 X N f W=U o):X.Ev f W o:=⟨N,by rw[<-ap8];exact h⟩
