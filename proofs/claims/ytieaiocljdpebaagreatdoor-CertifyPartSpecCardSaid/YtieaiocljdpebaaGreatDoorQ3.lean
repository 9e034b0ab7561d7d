/- Part 3 of the proof; the last part says what is shown. -/
import Derived.Test.YtieaiocljdpebaaGreatDoorQ2
import Derived.WalkKit
import Derived.DefersIn
set_option linter.all false
set_option maxRecDepth 100000
set_option maxHeartbeats 100000000
open Bool renaming and_eq_true->aA,not_eq_true'->iK,or_eq_true->jy,false_eq_true->jR,eq_iff_iff->vx,or_eq_false_iff->wT,and_self->wW,not_eq_false->H5,rec->KS,and_true->OJ,not_true->OK,not_eq_true->ajQ,not_false->ajU,true_eq_false->aKL,true->J,false->E
open Nat renaming lor->cd,le_refl->cg,zero_add->jz,beq->jL,shiftLeft->mF,le_trans->qL,testBit_or->FG,rec->Ib,strongRecOn->T8,div_add_mod->ajS,one_shiftLeft->aw8,shiftRight->axj,eq_of_beq_eq_true->aKy,testBit_two_pow->aKF,add_sub_cancel'->aKH,lt_or_gt_of_ne->aKJ
open List renaming getElem?_eq_some_iff->cj,getElem?_eq_getElem->cL,cons_append->da,nil_append->di,getD_eq_getElem?_getD->dL,mem_cons->dS,getElem?_map->dX,getElem?_append_left->dZ,replicate->eH,map_cons->eW,mem_append->fh,range->fj,all_eq_true->f9,length_append->gU,mem_map->iL,getElem?_append_right->jd,pairwise_cons->jS,getElem?_eq_none->ke,mem_of_getElem?->ki,map_congr_left->kJ,ext_getElem?->kK,any_eq_true->lT,getElem?_take->nA,pairwise_append->nW,length_eq_one_iff->pj,map_map->pn,contains_iff_mem->qH,length_cons->qI,length_map->qJ,mem_filter->qK,getElem?_cons_succ->ud,getElem?_of_mem->ue,getElem?_drop->vw,length_eq_zero_iff->wS,getElem?_set->wU,mem_range->wV,mem_append_left->zQ,nodup_append->zS,rec->zV,getElem?_eq_none_iff->Dr,getElem?_cons_zero->Ds,map_nil->Dv,getElem?_replicate->Fw,mem_cons_of_mem->Fy,mem_filterMap->FC,length_take->FD,length_drop->FE,foldl_cons->FF,getD_cons_zero->H4,append_assoc->KO,find?_cons->KP,append_nil->KQ,pairwise_iff_getElem->Oz,mem_append_right->OA,mem_cons_self->OE,map_append->OG,all_cons->OI,all_map->OL,mem_singleton->T3,length_nil->Ua,mem_of_find?_eq_some->aaU,range_eq_range'->aaY,find?_some->aa7,drop_left'->aa8,sublist_cons_self->ajI,filterMap_cons->ajK,map_set->ajV,any_map->ajW,getElem?_toArray->aw0,mem_iff_getElem?->aw1,pairwise_map->aw9,filter_map->axe,drop_zero->axh,Sublist->axq,sizeOf_lt_of_mem->aKB,append_of_mem->aKM,filterMap_map->aKN,length->Y
open Option renaming map_some->eo,isSome_iff_exists->lB,getD_some->pZ,map_eq_some_iff->TX,bind_some->aa5,isNone_iff_eq_none->aKo,some->U,none->Z
open Go.Op renaming operands->iY
open Go.Region renaming wanted->nC,ready->Ud
open Go.World renaming cell?->oC,putObj_heap_other->vu,putObj->H9,alloc_heap_new->TZ,size_alloc->ajR
open Array renaming ext'->oD,getElem?_eq_some_iff->pi,getElem?_eq_getElem->awW,getD_eq_getD_getElem?->aKj,foldl_toList->aKI
open Int renaming negSucc->ajZ,ofNat->aj1
open Go.Call renaming operands->BH
open Go.Oper renaming semAt_eq->BJ,uponIn_enter->T4
open Prod.mk renaming injEq->FH
open List.Sublist renaming append->ajJ,refl->ajN
open Go.IntKind renaming i64->I
namespace Go.Proofs.YtieaiocljdpebaaGreatDoor.Y
open Go.RowKit
noncomputable section
variable{w:ap}{b:bK}{B:Nat}{n:T}{N:ai}{v:FuncId}{t:S}{f:C}{y:aq}{e:World}{x:FuncId→Code→S→(XE→S→T)→T}{h:Ty}{l:TypeId}{k:dP}{r:bz}
mutual
def C.VJ(O:ai)(y:aq)(V:aq):∀(v:C),v.B5=J->v.ab (O.at y) V=v.ab O V
 |.int k e,_=>by simp only[C.ab,K.fl]
 |.bool b,_=>by simp only[C.ab,BE.fl]
 |.aj r,_=>by simp only[C.ab,RE.ab,RE.mP]
 |.loc i o,_=>rfl
 |.el r w i o,_=>by simp only[C.ab,RE.ab,RE.mP,K.fl]
 |.jM a b c d,_=>rfl
 |.agg l,h=>by simp only[C.B5] at h;simp only[C.ab];rw[C.Mh O y V l h]
 |.b9 l,h=>by simp only[C.B5] at h;simp only[C.ab];rw[C.Mh O y V l h]
 |.fn f l,h=>by simp only[C.B5] at h;simp only[C.ab];rw[C.Mh O y V l h]
 |.gF t x,h=>by simp only[C.B5] at h;simp only[C.ab];rw[C.VJ O y V x h]
 |.yl n,h=>by simp[C.B5] at h
 |.any,_=>rfl
 |.mp i,_=>rfl
 |.gz e W X,h=>by simp only[C.B5] at h;simp only[C.ab,K.fl];rw[C.Mh O y V X h]
def C.Mh(O:ai)(y:aq)(V:aq):∀(l:ap),C.yG l=J->C.aK (O.at y) V l=C.aK O V l
 |[],_=>rfl
 |x::X,h=>by
  simp only[C.yG,aA] at h;simp only[C.aK];rw[C.VJ O y V x h.1,C.Mh O y V X h.2]
end
def VK(O:ai)(y:aq)(V:aq):∀(l:ap),C.yG l=J->C.dN (O.at y) V l=C.dN O V l
 |[],_=>rfl
 |x::W,h=>by
  simp only[C.yG,aA] at h;have X:=VK O y V W h.2;have R:=C.VJ O y V x h.1;simp only[C.dN,eW] at X⊢;rw[X];congr 1;cases x<;>simp only[C.iv]<;>first|rw[R]|(rw[RE.mP])
def P7:∀{l:bK}{i:Nat}{v:TypeId×ap},FW l=J->cJ l i=U v->C.yG v.2=J
 |[],i,v,_,h=>by simp[dC] at h
 |U x::W,0,v,X,h=>by simp[FW] at X;simp[dC] at h;exact h▸X.1
 |Z::W,0,v,X,h=>by simp[dC] at h
 |U x::W,i+1,v,X,h=>by simp[FW] at X;exact P7 X.2 (by simpa[dC] using h)
 |Z::W,i+1,v,X,h=>by simp[FW] at X;exact P7 X (by simpa[dC] using h)
def VL:∀{a b:bK},nH a b=J->a=b
 |[],[],_=>rfl
 |[],_::_,h=>by simp[nH] at h
 |Z::X,Z::W,h=>by simp only[nH] at h;rw[VL h]
 |Z::X,U y::W,h=>by simp[nH] at h
 |Z::X,[],h=>by simp[nH] at h
 |U x::X,Z::W,h=>by simp[nH] at h
 |U x::X,[],h=>by simp[nH] at h
 |U x::X,U y::W,h=>by
  simp only[nH,aA,du] at h;have V:=C.uu _ _ h.1.2;rw[VL h.2];obtain⟨R,Q⟩:=x;obtain⟨P,O⟩:=y;simp only at h V;rw[h.1.1,V]
def P8(W:ap)(X:bK):(oG W X).length=Y X:=by
 unfold oG;split<;>simp
def VM{x:TypeId×ap}(h:cJ (oG w b) B=U x):cJ b B=U x:=by
 unfold oG at h;split at h;exfalso;simp only[dC] at h;rw[dX] at h;cases X:b[B]? with
 |none=>rw[X] at h;cases h
 |some y=>rw[X] at h;cases h
 exact h
def adm(h:aW (oG w b) B=J):aW b B=true:=by
 obtain⟨x,X⟩:=lB.1 h;simp[aW,VM X]
def azU(h:abA n=J)(p:Sp)(O:ai)(L:dP):n.ba p O L:=by
 unfold abA at h;split at h;simp[T.ba,BE.ab];cases h
def azV{W:ai}(h:jB N W (Y N.i) (Y N.b) (Y N.r))(H:Y W.i=Y N.i)(G:Y W.b=Y N.b)(F:Y W.r=Y N.r):W=N:=by
 obtain⟨i,b,r,y⟩:=N;obtain⟨V,R,Q,z⟩:=W;obtain⟨P,a2,M,L⟩:=h;simp only at P a2 M L H G F;have D:V=i:=kK λk=>by
  by_cases X:k<Y i;have:=P k X;simp only[dL,cL X,cL (show k<Y V from aa),pZ] at this⊢;rw[this];rw[ke aa,ke aa]
 have B:R=b:=kK λk=>by
  by_cases X:k<Y b;have:=a2 k X;simp only[dL,cL X,cL (show k<Y R from aa),pZ] at this⊢;rw[this];rw[ke aa,ke aa]
 have A:Q=r:=kK λk=>by
  by_cases X:k<Y r;have:=M k X;simp only[ai.rv,dL,cL X,cL (show k<Y Q from aa),pZ] at this⊢;rw[this];rw[ke aa,ke aa]
 subst D B A L;rfl
def VN(X:bz):qT X (X.map RK.rd):=by
 refine⟨aw,λk V h=> ?_⟩;rw[dX] at h;cases W:X[k]? with
 |none=>rw[W] at h;cases h
 |some e=>
  rw[W] at h;simp only[eo,cS] at h;refine⟨e,rfl, ?_⟩;cases e<;>simp only[RK.rd] at h<;>first|exact .inl h.symm|exact .inr (.inr ⟨_,rfl,h.symm⟩)
def azW(W:ap)(X:bK):oG W X=X\/∀i,cJ (oG W X) i=none:=by
 unfold oG;split;right;intro i;simp only[dC];rw[dX];cases X[i]?<;>rfl;exact .inl rfl
section
variable{p:Sp}{m:bL}
def azX(cl:∀z:Sp,z.P=p.P->mq z m->Ar z m B)(ok:mq p m)(h:Ld m (λX c t k=>gq m B X c t j6 k) v w t=U (f,b))(cn:(m.inl v).isSome=J)
  {D:cF}{a:Act}(hb:t.bd=J)(R:aE p.S0 p.w0 D m.ty y N t a e)(hg:fO m.gl N):(∀w e,(callFunc v w).run p.P e=.ok (.enter v w) e)/\
  Calls p.P v (C.aK N y w).toArray e λM W'=>∃V',M=.returned (f.ab N V')/\aE p.S0 p.w0 D m.ty V' N (t.plus b) a W'/\bS t N y (t.plus b) N V':=by
 unfold Ld at h;split at h;rename_i u hT;split at h;rename_i v0 c4;split at h;rename_i bk;cases h;simp only[aA] at bk;obtain⟨⟨⟨⟨⟨⟨⟨ca,cb⟩,cv⟩,cs⟩,ct⟩,cp⟩,cx⟩,cy⟩:=bk;have bl:=VL ct;obtain⟨cA,br⟩:=R.Ag hb;refine⟨ok.D6 v (.inr cn), ?_⟩;obtain⟨S1,bs⟩:∃S1:aq,S1=((fj (Y t.ao)).filter (aW (oG w t.ao))).map (ad y):=⟨_,rfl⟩;have cB:∀i,aW (oG w t.ao) i=J->ad y i∈S1:=λi F=>by
  rw[bs];refine iL.2 ⟨i,qK.2 ⟨wV.2 ?_,F⟩,rfl⟩;obtain⟨x,hx⟩:=lB.1 F;have:=(cj.1 (kA.1 hx)).1
  rwa [P8] at this
 have bx:∀L∈S1,∃i,aW (oG w t.ao) i=J/\ad y i=L:=λL hb=>by
  rw[bs] at hb;obtain⟨i,F,rfl⟩:=iL.1 hb;exact⟨i,(qK.1 F).2,rfl⟩
 obtain⟨z,al⟩:∃z:Sp,z={P:=p.P,ty:=p.ty,S0:=S1,w0:=e,D:=cF.none,R:=λM _=>(match M with|.panicked _=>False|_=>True),Q:=λ_ _ _=>True}:=⟨_,rfl⟩;have ag:z.P=p.P:=by rw[al]
 have b0:z.S0=S1:=by rw[al]
 have b1:z.w0=e:=by rw[al]
 have b2:∀ch W',¬z.R (.panicked ch) W':=λch W' hh=>by rw[al] at hh;exact hh
 have b3:mq z m:=⟨by rw[al];exact ok.pt,by rw[ag];exact ok.mix,by rw[ag];exact ok.mN,by rw[ag];exact ok.BR,by rw[ag];exact ok.D6,λch e L o _ hh=>(b2 ch e hh).elim,by rw[ag];exact ok.inl⟩;have hS:=VI (p:=z) b3 (cl z ag b3) (D:=cF.none) (B:=⟨vK w t,N.at [],y,[]⟩) (yh:=j6) (I6 _ _);have B0:aE z.S0 z.w0 cF.none m.ty y (N.at []) (vK w t) ⟨#[],[]⟩ e:=by
  rw[b0,b1];refine⟨⟨iu.refl _ _,λi F=>.inr (cB i F),λi j F hj=>R.mem.inj i j (adm F) (adm hj),λi H cs h=> ?_,λk M rv A h2=> ?_⟩,by simp only[vK,P8];exact R.gX,R.ei,R.eb,by simp only[vK,qJ];exact R.er, ?_,rfl,λH sv h=>by simp[vK] at h,λk M rv L A=> ?_⟩;rw[VK _ _ _ _ (P7 cb h)];exact R.mem.box i H cs (VM h);have:=(R.mem.nN (VN t.rs)).aj k M rv A h2;exact⟨this.1,λL hb i F=>this.2 L hb i (adm F)⟩;exact⟨rfl,rfl,λB l r st h=>by simp[cF.none] at h,λB n' l r r' h=>by simp[cF.none] at h,[],rfl,λ_=>rfl,by simp[cF.none],λd h=>by simp[cF.none] at h⟩;exfalso;simp only[vK,dX] at A;cases hk:t.rs[k]? with
  |none=>rw[hk] at A;cases A
  |some x=>rw[hk] at A;cases x<;>simp[RK.rd] at A
 have cC:=hS [] (.fn v) w (vK w t) _ _ (N.at []) y ⟨#[],[]⟩ e (λM W'=>∃V',M=.returned (f.ab N V')/\aE p.S0 p.w0 D m.ty V' N (t.plus (u.ao.drop (Y t.ao))) a W'/\bS t N y (t.plus (u.ao.drop (Y t.ao))) N V') ⟨bS.refl _ _ _,dI.refl _ _⟩ (azU cy z (N.at []) []) B0 hg ?_ ?_ (λch W' pd G _ hR=>(b2 ch W' hR).elim);have:=cC.2;rw[C.Mh N [] y w ca,ag] at this;exact this;intro v2 s2 O2 q W2 L2 hl _ R2 a0;split at a0;rename_i b4;simp only[aA,akf,du,cz] at b4;obtain⟨hv,⟨⟨af,cD⟩,cI⟩,cG⟩:=b4;have hv:=C.bZ _ _ hv;subst hv;have af:=VL af;have cO:O2=N.at []:=by
  refine azV hl.ext.agree ?_ ?_ ?_;rw[R2.ei,cD];exact R.ei.symm;rw[R2.eb,cI];exact R.eb.symm;rw[R2.er,cG];simp only[vK,qJ];exact R.er.symm
 subst cO;rw[b0,b1] at R2;have c5:Y t.ao<=Y u.ao:=by
  have:=ku Y bl;rw[P8,FD] at this;omega
 have a9:∀i,i<Y t.ao->cJ u.ao i=cJ (oG w t.ao) i:=λi F=>by
  have:=ku (λl=>cJ l i) bl;simp only[dC,nA,aL F] at this⊢;exact this
 have a1:∀i,aW (oG w t.ao) i=J->ad q i=ad y i:=λi F=>hl.ext.ad i F
 have a3:∀{i:Nat}{l:bK},aW l i=J->i<Y l:=λh=>by
  obtain⟨x,hx⟩:=lB.1 h;exact(cj.1 (kA.1 hx)).1
 have cR:∀i,Y t.ao<=i->aW u.ao i=J->e.heap.size<=ad q i:=by
  intro i F hh;rcases R2.mem.own i (by rw[af];exact hh) with A|A;exact A;exfalso;obtain⟨j,hj,cW⟩:=bx _ A;have bb:j<Y t.ao:=by have:=a3 hj;rwa [P8] at this
  have c0:aW u.ao j=true:=by simp only[aW,a9 j bb];exact hj
  have:=R2.mem.inj i j (by rw[af];exact hh) (by rw[af];exact c0) (by rw[a1 j hj];exact cW.symm);omega
 have hB:Below e.heap.size e W2:=by
  have hO:=R2.mem.base;refine⟨hO.os,hO.tape,hO.output,hO.size,λk hk=> ?_⟩;by_cases b5:k∈S1;obtain⟨j,hj,rfl⟩:=bx _ b5;have bb:j<Y t.ao:=by have:=a3 hj;rwa [P8] at this
  obtain⟨x,hx⟩:=lB.1 hj;obtain⟨bt,lg⟩:=x;have e1:=R.mem.box j bt lg (VM hx);have e2:=R2.mem.box j bt lg (by rw[af,a9 j bb];exact hx);rw[a1 j hj] at e2;rw[e1,e2];congr 2;rw[VK _ _ _ _ (P7 cb hx)];refine Pp (jB.refl _ _ _ _) (λk hk=>a1 k ?_) _ (uv br (VM hx));rcases azW w t.ao with hm|hm;rw[hm];exact hk;rw[hm j] at hx;cases hx;exact hO.block k hk b5
 have R0:=R.below hB;have c1:Y q=Y u.ao:=by rw[R2.gX,af]
 have a4:∀i,i<Y t.ao->ad (y++q.drop (Y t.ao)) i=ad y i:=λi F=>by
  simp only[ad,dL];rw[dZ (by rw[R.gX];exact F)]
 have bf:∀i,Y t.ao<=i->ad (y++q.drop (Y t.ao)) i=ad q i:=λi F=>by
  simp only[ad,dL];rw[jd (by rw[R.gX];exact F),R.gX,vw,aKH F]
 have b6:∀i,aW u.ao i=J->ad (y++q.drop (Y t.ao)) i=ad q i:=λi F=>by
  by_cases ac:i<Y t.ao;rw[a4 i ac,a1 i (by simp only[aW,<-a9 i ac];exact F)];exact bf i aa
 have yO:∀i,i<Y t.ao->cJ (t.plus (u.ao.drop (Y t.ao))).ao i=cJ t.ao i:=λi F=>by
  simp only[dC,S.plus,dZ F]
 have b7:∀i,Y t.ao<=i->cJ (t.plus (u.ao.drop (Y t.ao))).ao i=cJ u.ao i:=λi F=>by
  simp only[dC,S.plus];rw[jd F,vw,aKH F]
 have bg:∀k,aW t.ao k=J->ad (y++q.drop (Y t.ao)) k=ad y k:=λk hk=>a4 k (a3 hk)
 have an:∀i,aW (t.plus (u.ao.drop (Y t.ao))).ao i=J->(i<Y t.ao/\aW t.ao i=J/\ad (y++q.drop (Y t.ao)) i=ad y i)\/(Y t.ao<=i/\aW s2.ao i=J/\ad (y++q.drop (Y t.ao)) i=ad q i/\e.heap.size<=ad q i):=λi F=>by
  by_cases ac:i<Y t.ao;exact .inl ⟨ac,by simpa only[aW,yO i ac] using F,a4 i ac⟩;have hh:aW u.ao i=true:=by simpa only[aW,b7 i aa] using F
  exact .inr ⟨aa,by rw[af];exact hh,bf i aa,cR i aa hh⟩
 have c6:p.w0.heap.size<=e.heap.size:=R.mem.base.size;refine⟨y++q.drop (Y t.ao), ?_,⟨⟨R0.mem.base, ?_, ?_, ?_, ?_⟩, ?_,R.ei,R.eb,R.er,R0.dO,R.size, ?_, ?_⟩,⟨⟨jB.refl _ _ _ _,cg _,cg _,cg _,bg⟩, ?_, ?_,cg _⟩⟩;rw[C.VJ _ _ _ _ cv];have c2:v2.bd (Y N.i) (Y N.b) (Y N.r) (aW u.ao)=true:=by rw[R.ei,R.eb,R.er];exact cp
 rw[C.ep (jB.refl _ _ _ _) b6 v2 c2];intro i F;rcases an i F with⟨_,h2,h3⟩|⟨_,_,h3,h4⟩;rw[h3];exact R.mem.own i h2;rw[h3];exact .inl aa;intro i j F hj b8;rcases an i F with⟨i1,i2,i3⟩|⟨i1,i2,i3,i4⟩<;>rcases an j hj with⟨j1,j2,j3⟩|⟨j1,j2,j3,j4⟩;exact R.mem.inj i j i2 j2 (by rw[<-i3,<-j3];exact b8);exfalso;have:=R.mem.lt i2;omega;exfalso;have:=R.mem.lt j2;omega;exact R2.mem.inj i j i2 j2 (by rw[<-i3,<-j3];exact b8);intro i H lg h;by_cases ac:i<Y t.ao;rw[yO i ac] at h;rw[a4 i ac,R0.mem.box i H lg h];congr 2;exact(Pp (jB.refl _ _ _ _) bg _ (uv br h)).symm;rw[b7 i aa] at h;rw[bf i aa,R2.mem.box i H lg (by rw[af];exact h)];congr 2;rw[VK _ _ _ _ (P7 cs h)];have c3:C.ec (Y N.i) (Y N.b) (Y N.r) (aW u.ao) lg=true:=by rw[R.ei,R.eb,R.er];exact uv cx h
 exact(Pp (jB.refl _ _ _ _) b6 _ c3).symm;intro k M rv A h2;refine⟨(R0.mem.aj k M rv A h2).1,λL cc i F=> ?_⟩;rcases an i F with⟨i1,i2,i3⟩|⟨i1,i2,i3,i4⟩;rw[i3];exact(R.mem.aj k M rv A h2).2 L cc i i2;rw[i3];have:=(R.mem.aj k M rv A h2).1.lt cc;omega;simp only[S.plus,gU,FE,c1,R.gX];intro H sv h;rcases R.tmps H sv h with A|A;exact .inl A;right;rw[C.ep (jB.refl _ _ _ _) bg sv (xl cA h)];exact A;intro k M rv L A h2 h3;have T0:=R0.gH k M rv L A h2 h3;refine⟨T0.own,T0.mem,λi F=> ?_,T0.alone,T0.inner⟩;rcases an i F with⟨i1,i2,i3⟩|⟨i1,i2,i3,i4⟩;rw[i3];exact T0.box i i2;rw[i3];have:=(R.gH k M rv L A h2 h3).lt;omega;intro i F;have ac:=a3 F;simp only[aW,yO i ac];exact F;simp only[S.plus,gU];omega;exact a0.elim;intro v2 s2 O2 q W2 L2 hl _ R2 a0;exact a0.elim;cases h;cases h;cases h
end
def azY{X:S}(W:oG w X.ao=oG w t.ao)(V:X.ni=t.ni)(R:X.nb=t.nb)(Q:X.rs=t.rs):vK w X=vK w t:=by
 simp only[vK,W,V,R,Q]
def am1{m:bL}{X:S}(W:oG w X.ao=oG w t.ao)(V:X.ni=t.ni)(R:X.nb=t.nb)(Q:X.rs=t.rs)(P:Y X.ao=Y t.ao):Ld m x v w X=Ld m x v w t:=by
 unfold Ld;rw[azY W V R Q,W,V,R,Q,P]
def azZ(m:bL)(X:dU)(R:FuncId->Code->S->(XE->S->T)->T):Gb X (FX m X R):=by
 refine⟨λg Q s d v l=> ?_,λg s n t O d w N=> ?_,λg Q s r h=> ?_⟩;unfold FX;rw[am1]<;>cases d<;>rfl
 ·unfold FX;rw[am1]<;>cases d<;>simp[S.dl,S.put,wZ,oG,ajV]<;>(try apply kK)<;>(try intro i)<;>(try simp[wU])<;>(try(intro P;subst P;by_cases W:n<Y s.ao;(· simp[W]);(· simp[W])))
 unfold FX at h;split at h;rename_i V;simp only[aA] at V;exact V.1;cases h
def az0{p:Sp}{m:bL}{N:dU}(M:∀X:Sp,X.P=p.P->mq X m->Ar X m B)(L:mq p m):VC p m (FX m N λf c s k=>gq m B f c s j6 k):=by
 intro g F s v A h D O V a W H R G;unfold FX at h;split at h;rename_i Q;simp only[aA] at Q;exact azX M L h Q.2 H R G;cases h
def am2(s:S)(X:aq)(i:Nat):(s.co X).tmps[i]?=(s.tmps[i]?).map λx=>if X.contains i then .any else x:=by
 simp only[S.co];rw[xt,jz]
def az1(h:B∉y):(t.co y).tmps[B]?=t.tmps[B]?:=by
 rw[am2];cases t.tmps[B]?<;>simp[h]
def adn{X W V:Nat}{R:Nat->Bool}(Q:aq):∀(l:ap)(n:Nat),C.ec X W V R l=J->C.ec X W V R (um Q n l)=J
 |[],n,_=>rfl
 |x::P,n,h=>by
  simp only[C.jo,aA] at h;simp only[um,C.jo,aA];refine⟨?_,adn Q P (n+1) h.2⟩;split;simp[C.bm];exact h.1
def Mi{ds:aq}(h:t.fz w=J):(t.co ds).fz w=true:=by
 simp only[S.fz,S.bd,aA,S.co] at h⊢;exact⟨⟨adn ds _ 0 h.1.1,h.1.2⟩,h.2⟩
def Ej{d:cH}(h:∀x,d=U x->x∉y):(t.put d f).co y=(t.co y).put d f:=by
 cases d with
 |none=>rfl
 |some x=>
  have W:=h x rfl;simp only[S.put,wZ,S.co];congr 1;apply kK;intro i;rw[xt,jz,wU,wU,xt,jz,Mg];by_cases X:x=i;subst X;by_cases V:x<Y t.tmps<;>simp[V,W];simp[X]
def az2{s:S}{ds es:aq}(h:∀x∈es,x∈ds):(s.co es).co ds=s.co ds:=by
 simp only[S.co];congr 1;apply kK;intro i;rw[xt,xt,xt,jz];cases s.tmps[i]? with
 |none=>rfl
 |some x=>
  simp only[eo];by_cases X:i∈ds;simp[X];have:i∉es:=λW=>X (h i W)
  simp[X,this]
def az3(v:C):OW E v=0:=by
 cases v<;>rfl
section
variable{p:Sp}{cf:bL}{ops:dU}
def aE.co{D:cF}{s:S}{O:ai}{V:aq}{a:Act}{W:World}(R:aE p.S0 p.w0 D cf.ty V O s a W)(P:aq):aE p.S0 p.w0 D cf.ty V O (s.co P) a W:=by
 refine⟨R.mem,R.gX,R.ei,R.eb,R.er,R.dO,by simp only[S.co,Mg];exact R.size,λt N X=> ?_,R.gH⟩;rw[am2] at X;cases Q:s.tmps[t]? with
 |none=>rw[Q] at X;cases X
 |some x=>
  rw[Q] at X;simp only[eo,cS] at X;split at X;exact .inl X.symm;subst X;exact R.tmps t x Q
def am3{m:OM}{O:ai}{b:BE}(Q:n8 m.o.op=J)(P:m.bP=E)(h:B6 cf t m.o=U (b,f))(N:b.ab O=J):(gN cf m t).gives O (t.put m.o.dst f):=by
 unfold B6 at h;split at h;cases h;rename_i X;simp only[jy,not_or,ajQ] at X;obtain⟨X,W⟩:=X;have V:(uj t m.o.dst 0 (cw cf.ty cf.gl t m.o.op)).gives O (t.put m.o.dst f):=by
  split at h;rename_i w R;cases h;rw[R];simp only[uj,OR.gives,I2];rename_i L w R;split at h;rename_i cT;cases h;rw[R];simp only[uj,cT,cN,OR.gives,I2,and_true];exact N;cases h;cases h
 unfold gN;rw[aP (by rw[X];simp)];cases M:m.o.op<;>rw[M] at Q V W<;>simp only[n8,jR,abB] at Q W<;>first|exact V|(simp only[P,az3];exact V)|cases W
def VO{o:Oper}{s:S}{O:ai}(h:∀t∈ky ops o,t∉y):lH cf ops o s O (s.co y) O:=lH.Ao (λt X=>az1 (h t X)) rfl rfl rfl
def am4{o:Oper}{ds:aq}{r:BE×C}(h:∀X∈ky ops o,X∉ds)(W:B6 cf t o=U r):B6 cf (t.co ds) o=U r:=by
 have R:=VO (cf:=cf) (s:=t) (O:=⟨[],[],[],[]⟩) h;have P:=R.ev cf.gl;unfold B6 at W⊢;split at W;cases W;rename_i L;have H:¬((o.op.operands.toList.any λx=>((t.co ds).ev cf.gl x).fk)||abB o.op)=true:=by
  intro V;apply L;simp only[jy] at V⊢;rcases V with V|V;left;obtain⟨x,M,G⟩:=lT.1 V;exact lT.2 ⟨x,M,by rw[<-P x M];exact G⟩;exact .inr V
 rw[aP H];cases Q:cw cf.ty cf.gl t o.op with
 |ok w=>rw[Vx (ty:=cf.ty) P R.kd R.kl (λi _=>rfl) Q (λw N=>by cases N)];rw[Q] at W;exact W
 |bA b w=>rw[Vx (ty:=cf.ty) P R.kd R.kl (λi _=>rfl) Q (λw N=>by cases N)];rw[Q] at W;exact W
 |no w=>rw[Q] at W;cases W
def az4{m:OM}{N:S}(M:Pb m.o.op=J)(h:∀X∈ky ops m.o,X∉y)(P:∀x,m.o.dst=U x->x∉y)(V:gN cf m t=.ok N):gN cf m (t.co y)=.ok (N.co y):=by
 have G:=VO (cf:=cf) (s:=t) (O:=⟨[],[],[],[]⟩) h;have Q:=G.ev cf.gl;unfold gN at V⊢;split at V;cases V;rename_i F;have D:¬(m.o.op.operands.toList.any λx=>((t.co y).ev cf.gl x).fk)=true:=by
  intro B;apply F;obtain⟨x,L,A⟩:=lT.1 B;exact lT.2 ⟨x,L,by rw[<-Q x L];exact A⟩
 rw[aP D];have l:∀(n:Nat)(X:TypeId)(H:ap),(t.co y).dl n X H=(t.dl n X H).co y:=λ_ _ _=>rfl
 cases z:m.o.op<;>rw[z] at M V Q<;>simp only[Pb,jR] at M
 
 simp only at V⊢;split at V;split at V;rename_i R;simp only[aA] at R;rw[aL (by simp only[aA];exact⟨Mi R.1,R.2⟩)];cases V;rw[Ej P];rfl;cases V;cases V
 
 rename_i X x;simp only at V⊢;rw[Q x cQ];split at V;split at V;rename_i R;simp only[aA] at R;rw[aL (by simp only[aA];exact⟨⟨⟨R.1.1.1,Mi R.1.1.2⟩,R.1.2⟩,R.2⟩)];cases V;rw[Ej P];rfl;cases V;cases V;rename_i X k parts;simp only at V⊢;have w:(parts.toList.map λq=>(q.1,(t.co y).ev cf.gl q.2))=parts.toList.map λq=>(q.1,t.ev cf.gl q.2):=by
  refine kJ λq v=> ?_
  rw[Q q.2 (by simp only[iY,iL];exact⟨q,v,rfl⟩)]
 rw[w];split at V;split at V;split at V;split at V;rename_i R;simp only[aA] at R;rw[aL (by simp only[aA];exact⟨⟨Mi R.1.1,R.1.2⟩,R.2⟩)];cases V;congr 1;rw[Ej P];rfl;cases V;cases V;cases V;cases V
 
 rename_i X x W;simp only at V⊢;rw[Q x cQ,Q W cQ];split at V;split at V;rename_i u;have r:mg (t.co y).ao _=_:=u;rw[r];simp only;split at V;rename_i R;rw[show(t.co y).lk=t.lk from rfl,aL R];cases V;rw[Ej P];rfl;cases V;cases V;cases V
def az5{o:Oper}{s:S}(h:∀t∈ky ops o,t∉y):∀x∈o.op.operands.toList,s.ev cf.gl x=(s.co y).ev cf.gl x:=
 λx X=>((VO (cf:=cf) (s:=s) (O:=⟨[],[],[],[]⟩) h).ev cf.gl x X).symm
def ado(r:RE):r.kind h (t.co y)=r.kind h t:=D7 (s:=t.co y) (s':=t) rfl r
def adp{X:Ty}{s:S}{W:aq}:∀(ak:fp)(l:ap),mK X (s.co W) ak l=mK X s ak l
 |[],[]=>rfl
 |[],_::_=>rfl
 |_::_,[]=>rfl
 |c::V,v::R=>by
  simp only[mK,adp V R];congr 1;unfold ui;split<;>try rfl
  rename_i z k r;cases k<;>simp only[RE.fits,ado]
def VP{X:Ty}{s:S}{W:aq}(ak:fp):∀l:yu,n7 X (s.co W) ak l=n7 X s ak l
 |[]=>rfl
 |r::V=>by simp only[n7,adp,VP ak V]
def P9{ds:aq}{d:cH}{bA:BE}{k:RK}{x:LE}{dj:aq}{b:BI}(W:∀x,d=U x->x∉ds)(h:kM t d bA l k x y dj=U b):kM (t.co ds) d bA l k x y dj=U {b with s:=b.s.co ds}:=by
 unfold kM at h⊢;split at h;rename_i X;cases h;have V:(t.co ds).bd=true:=by
  have R:t.fz []=true:=by
   simp only[aA] at X;simp only[S.fz,C.jo,OJ];exact X.1.1.1
  have:=Mi (ds:=ds) R;simpa only[S.fz,C.jo,OJ] using this
 simp only[aA] at X;rw[aL (by simp only[aA];exact⟨⟨⟨V,X.1.1.2⟩,X.1.2⟩,X.2⟩),Ej W];rfl;cases h
def az6{bP:Bool}(v:C):yC (t.co y) l bP v=yC t l bP v:=rfl
def az7{X:TI}(v:C):sN h (t.co y) l X v=sN h t l X v:=by
 unfold sN;split<;>simp only[ado,VP]<;>rfl
def am5{X:aq}{k n:Nat}:∀(l:ap)(i:Nat),um X i (C.p9 k n l)=C.p9 k n (um X i l)
 |[],_=>rfl
 |x::W,i=>by
  simp only[C.p9,um,am5 W (i+1)];split<;>rfl
def am6{n:Nat}:(t.co y).iR B n=(t.iR B n).co y:=by
 simp only[S.co,S.iR,am5]
def az8{d:cH}{u:BV}(X:∀x,d=U x->x∉y)(h:Iv cf v w t d=U u):Iv cf v w (t.co y) d=U {u with s:=u.s.co y}:=by
 unfold Iv at h⊢;split at h;split at h;have W:(t.co y).ao=t.ao:=rfl;have V:(t.co y).rs=t.rs:=rfl;have R:(t.co y).ni=t.ni:=rfl;have Q:(t.co y).nb=t.nb:=rfl;simp only[W,V,R,Q];split at h;split at h;rename_i P;cases h;rw[aL P];congr 2;rw[Ej X,<-am6];rfl;cases h;cases h;cases h;cases h
def az9(h:t.bd=J):(t.co y).bd=true:=by
 simp only[S.bd,aA,S.co] at h⊢;exact⟨adn y _ 0 h.1,h.2⟩
def aAa{o:Oper}{u:BV}(X:eN cf (t.co y) o=eN cf t o)(W:∀x,o.dst=U x->x∉y)(h:Iw cf o t=U u):Iw cf o (t.co y)=U {u with s:=u.s.co y}:=by
 unfold Iw at h⊢;rw[X];split at h;cases h;rename_i V;have R:(t.co y).bd=true:=az9 (by simpa using V);rw[aP (by simp[R])];generalize eN cf t o=c at h;cases c with
 |call g Q=>
  cases g with
  |fn f=>exact az8 W h
  |yl n=>cases h
 |bD v=>cases h
 |no=>cases h
 |op=>cases h
def aAb{o:Oper}{bP:Bool}{b:BI}(P:Lg o.op=J)(h:∀X∈ky ops o,X∉y)(N:∀x,o.dst=U x->x∉y)(V:eY cf o bP E t=U b):eY cf o bP E (t.co y)=U {b with s:=b.s.co y}:=by
 have R:=az5 (cf:=cf) (s:=t) h;unfold eY at V⊢;cases O:o.op with
 |call c=>
  rw[O] at P V R;simp only[Lg] at P;split at P
  ·rename_i u;simp only[u] at V⊢;have r:c.args.toList.map ((t.co y).ev cf.gl)=c.args.toList.map (t.ev cf.gl):=kJ λx Q=>(R x (by simp[iY,BH];exact .inr (by simpa using Q))).symm
   rw[r];simp only[az6,az7]
   repeat' split at V
   all_goals first
    |cases V;done
    |(have q:=P9 (ds:=y) N V;(repeat' split)<;>first|exact q|contradiction|(exfalso;simp_all;done))
  cases P
 |makeSlice X n m=>
  rw[O] at V R;simp only at V⊢;rw[<-R n cQ,<-R m cQ];simp only[VP]
  repeat' split at V
  all_goals first
   |cases V;done
   |(have q:=P9 (ds:=y) N V;(repeat' split)<;>first|exact q|contradiction|(exfalso;simp_all;done))
 |buildSlice X d parts=>
  rw[O] at V R;have l:(parts.toList.map λq=>(q.1,(t.co y).ev cf.gl q.2))=parts.toList.map λq=>(q.1,t.ev cf.gl q.2):=by
   refine kJ λq L=> ?_
   rw[R q.2 (by simp only[iY,iL];exact⟨q,L,rfl⟩)]
  have j:(parts.toList.any λq=>((t.co y).ev cf.gl q.2).fk)=parts.toList.any λq=>(t.ev cf.gl q.2).fk:=by
   rw[vx,lT,lT];constructor;rintro⟨x,Q,H⟩;exact⟨x,Q,by rw[R x.2 (by simp only[iY,iL];exact⟨x,Q,rfl⟩)];exact H⟩;rintro⟨x,Q,H⟩;exact⟨x,Q,by rw[<-R x.2 (by simp only[iY,iL];exact⟨x,Q,rfl⟩)];exact H⟩
  simp only at V⊢;rw[l,j];simp only[VP]
  repeat' split at V
  all_goals first
   |cases V;done
   |(have q:=P9 (ds:=y) N V;(repeat' split)<;>first|exact q|contradiction|(exfalso;simp_all;done))
 |slice X x B A w=>
  rw[O] at V R;have G:∀W:Option Operand,(∀z,W=U z->z∈(Op.slice X x B A w).operands.toList)->W.map ((t.co y).ev cf.gl)=W.map (t.ev cf.gl):=by
   intro W i;cases W with
   |none=>rfl
   |some z=>simp only[eo];rw[<-R z (i z rfl)]
  simp only at V⊢;rw[<-R x cQ,G B (λz M=>by subst M;simp[iY]),G A (λz M=>by subst M;simp[iY]),G w (λz M=>by subst M;simp[iY])];simp only[ado]
  repeat' split at V
  all_goals first
   |cases V;done
   |(have q:=P9 (ds:=y) N V;(repeat' split)<;>first|exact q|contradiction|(exfalso;simp_all;done))
 |store X a x=>
  rw[O] at V R;simp only at V⊢;rw[<-R a cQ,<-R x cQ];have g:(t.co y).rs=t.rs:=rfl;simp only[adp];rw[g];have v:∀{bA:BE}{e:TypeId}{F:RK}{W:LE}{D dj:aq}{k:Nat}{b:BI},(kM t Z bA e F W D dj).map (λb=>{b with s:=(b.s.iR k (Y t.rs)).put o.dst (.b9 [])})=U b->
    (kM (t.co y) Z bA e F W D dj).map (λb=>{b with s:=(b.s.iR k (Y t.rs)).put o.dst (.b9 [])})=U {b with s:=b.s.co y}:=by
   intro bA e F W D dj k b L;obtain⟨b0,f,rfl⟩:=TX.1 L;rw[P9 (ds:=y) aw f];simp only[eo];rw[am6,<-Ej N]
  repeat' split at V
  all_goals first
   |cases V;done
   |(have q:=v V;clear v;(repeat' split)<;>first|exact q|contradiction|(exfalso;simp_all;done))
 |_=>rw[O] at P;simp[Lg] at P
end
section
variable{ops:dU}
def qd(l:cU):aq:=l.filterMap (·.o.dst)
structure vQ(ops:dU)(listed:Array Bool)(rem:cU):Prop where
 mem:∀m∈rem,ops[m.j]?=U m.o
 un:∀i,i<ops.size->(listed.getD i J=E<->∃m∈rem,m.j=i)
 sz:listed.size=ops.size
 dn:∀(j:Nat)(o:Oper),ops[j]?=U o->listed.getD j E=J->∀e∈lY o,listed.getD e E=J
 nd:rem.Pairwise λx y=>x.j≠y.j
def vQ.listed{listed:Array Bool}{O:cU}(W:Mc ops y)(N:vQ ops listed O):∀(j:Nat)(o:Oper),ops[j]?=U o->(∀e∈lY o,listed.getD e E=J)->∀i,i<ops.size->(y.getD j 0).testBit i=J->listed.getD i E=true:=by
 intro j;induction j using T8 with
 |_ j M=>
  intro o X V i R L;rcases W.cl j o X i R L with h|⟨e,Q,h⟩;exact V i h;have H:=W.lt j o X e Q;have G:j<ops.size:=(pi.1 X).1;have P:ops[e]?=U ops[e]:=awW aa;exact M e H ops[e] P (N.dn e _ P (V e Q)) i R h
def vQ.lt{listed:Array Bool}{X:cU}(W:vQ ops listed X){m:OM}(V:m∈X):m.j<ops.size:=(pi.1 (W.mem m V)).1
def vQ.not{listed:Array Bool}{V:cU}(X:vQ ops listed V){m:OM}(W:m∈V):listed.getD m.j E≠true:=by
 have h:=(X.un m.j (X.lt W)).2 ⟨m,W,rfl⟩;have R:m.j<listed.size:=by rw[X.sz];exact X.lt W
 simp[R] at h⊢;exact h
def vQ.next{listed:Array Bool}{V R:cU}{m:OM}(W:vQ ops listed (V++m::R))(D:∀e∈lY m.o,listed.getD e E=J):vQ ops (listed.setIfInBounds m.j J) (V++R):=by
 have H:=W.mem m aw;have B:m.j<ops.size:=(pi.1 H).1;have P:m.j<listed.size:=by rw[W.sz];exact B
 have O:axq (V++R) (V++m::R):=ajJ (ajN _) (ajI _ _);have A:∀x∈V++R,x.j≠m.j:=by
  intro x X;have N:=W.nd;rw[nW] at N;rcases fh.1 X with h|h;exact N.2.2 x h m aw;exact Ne.symm ((jS.1 N.2.1).1 x h)
 refine⟨λx X=>W.mem x (O.subset X),λi z=> ?_,by simp[W.sz],λj o M Q e G=> ?_,W.nd.sublist O⟩;rw[I4 _ _ _ _ P];by_cases L:i=m.j;subst L;simp only[cN,aKL,false_iff];rintro⟨x,X,Q⟩;exact A x X Q;rw[aP L,W.un i z];constructor;rintro⟨x,X,rfl⟩;refine⟨x, ?_,rfl⟩;simp only[fh,dS] at X⊢;rcases X with h|h|h;exact .inl h;subst h;exact aG rfl L;exact .inr h;rintro⟨x,X,rfl⟩;exact⟨x,O.subset X,rfl⟩;rw[I4 _ _ _ _ P];rw[I4 _ _ _ _ P] at Q;split;rfl;by_cases F:j=m.j;subst F;rw[H] at M;cases M;exact D e G;rw[aP F] at Q;exact W.dn j o M Q e G
def vQ.some{listed:Array Bool}{W:cU}(O:Mc ops y)(X:vQ ops listed W):∀(j:Nat),(∃m∈W,m.j=j)->∃m∈W,∀e∈lY m.o,listed.getD e E=true:=by
 intro j;induction j using T8 with
 |_ j N=>
  rintro⟨m,V,rfl⟩;by_cases h:∀e∈lY m.o,listed.getD e E=J;exact⟨m,V,h⟩;simp only[Classical.not_forall] at h;obtain⟨e,M,R⟩:=h;have Q:=O.lt m.j m.o (X.mem m V) e M;have P:e<ops.size:=Nat.lt_trans Q (X.lt V);have:listed.getD e J=false:=by
   have L:e<listed.size:=by rw[X.sz];exact P
   simp[L] at R⊢;exact R
  exact N e Q ((X.un e P).1 this)
end
def aAc(X:aY)(s:S)(W:aq):((s.co W).cK X).1=(s.cK X).1/\((s.co W).cK X).2=(s.cK X).2.co W:=by
 induction X generalizing s with
 |nil=>exact⟨rfl,rfl⟩
 |cons k X V=>
  simp only[S.cK];have R:((s.co W).fresh k).1=(s.fresh k).1:=by cases k<;>rfl
  have Q:((s.co W).fresh k).2=(s.fresh k).2.co W:=by cases k<;>rfl
  rw[R,Q];obtain⟨P,O⟩:=V (s.fresh k).2;exact⟨by rw[P],O⟩
section
variable{p:Sp}{cf:bL}
open Classical in
noncomputable def Ek(s:S)(W:aq)(k:C->S->T):C->S->T:=λv X=>if X.tmps=(s.co W).tmps then k v {X with tmps:=s.tmps} else .stuck ""
def aAd{P:YH}{X V:C->S->T}
  (h:(kX cf x P (.fn v) w t X V).ba p N k):(kX cf x P (.fn v) w (t.co y) (Ek t y X) (Ek t y V)).ba p N k:=by
 unfold kX at h⊢;simp only at h⊢;split at h;rename_i c A M u;split at h;rename_i H;rw[aL (Mi H)];have:Lc cf (t.co y) M (Ek t y X) (Ek t y V)=Lc cf t M X V:=by
  funext e r;cases e<;>simp only[Lc,Ek,cN]
 rw[this];exact h;exact h.elim;unfold z8 at h⊢;split at h;split at h;rename_i W q;obtain⟨G,F⟩:=aAc W (t.cut w W) y;have D:(t.co y).cut w W=(t.cut w W).co y:=rfl;rw[D,G,F];split at h;rename_i l o;split at h;rename_i R;simp only[aA] at R;rw[aL (by simp only[aA];exact⟨Mi R.1,R.2⟩)];have Q:((t.cut w W).cK W).2.tmps=t.tmps:=(yP W (t.cut w W)).2.1;have B:Ek t y X (one l) (((t.cut w W).cK W).2.co y)=X (one l) ((t.cut w W).cK W).2:=by
  simp only[Ek];rw[aL (by simp only[S.co,Q])];congr 1;simp only[S.co];generalize((t.cut w W).cK W).2=z at Q;rw[<-Q]
 rw[B];exact h;exact h.elim;exact h.elim;exact h.elim;exact h.elim
end
section
variable{p:Sp}{cf:bL}{ops:dU}
def am7{V:Type}:∀{l:List V}{x:V},x∈l->∃X W,l=X++x::W/\(x,X++W)∈Le l
 |[],x,h=>by cases h
 |y::r,x,h=>by
  rcases dS.1 h with rfl|h;exact⟨[],r,rfl,by simp[Le]⟩;obtain⟨X,W,R,Q⟩:=am7 h;subst R;exact⟨y::X,W,rfl,by simp only[Le,dS,iL];exact .inr ⟨_,Q,rfl⟩⟩
def adq{p:Sp}{O:ai}{L:dP}:∀{l:List T},(DL l).ba p O L->∀t∈l,t.ba p O L
 |[],h,_,_=>h.elim
 |[t],h,x,X=>by simp only[T3] at X;subst X;exact h
 |t::u::r,h,x,X=>by
  simp only[DL,T.ba,BE.ab,true_implies] at h;rcases dS.1 X with rfl|X;exact h.1;exact adq (l:=u::r) h.2 x X
def Qa:∀{l m:bK},nH l m=J->l=m
 |[],[],_=>rfl
 |[],_::_,h=>by simp[nH] at h
 |Z::_,[],h=>by simp[nH] at h
 |U _::_,[],h=>by simp[nH] at h
 |Z::X,Z::W,h=>by simp only[nH] at h;rw[Qa h]
 |Z::_,U _::_,h=>by simp[nH] at h
 |U _::_,Z::_,h=>by simp[nH] at h
 |U (t,V)::X,U (R,Q)::W,h=>by
  simp only[nH,aA,du] at h;rw[h.1.1,C.uu _ _ h.1.2,Qa h.2]
def am8:∀{l m:yu},Lf l m=J->l=m
 |[],[],_=>rfl
 |[],_::_,h=>by simp[Lf] at h
 |_::_,[],h=>by simp[Lf] at h
 |x::X,y::W,h=>by
  simp only[Lf,aA] at h;rw[C.uu _ _ h.1,am8 h.2]
def LE.bZ:∀(a b:LE),LE.aU a b=J->a=b
 |.aj r,b,h=>by cases b<;>simp[LE.aU] at h;rw[RE.bZ _ _ h]
 |.lit l,b,h=>by cases b<;>simp[LE.aU] at h;rw[am8 h]
 |.nY x y,b,h=>by cases b<;>simp[LE.aU] at h;rw[LE.bZ _ _ h.1,LE.bZ _ _ h.2]
 |.sK n W,b,h=>by cases b<;>simp[LE.aU] at h;rw[K.bZ _ _ h.1,C.uu _ _ h.2]
 |.set x i V X,b,h=>by cases b<;>simp[LE.aU] at h;rw[LE.bZ _ _ h.1.1.1,K.bZ _ _ h.1.1.2,h.1.2,C.uu _ _ h.2]
 |.sub x R Q,b,h=>by cases b<;>simp[LE.aU] at h;rw[LE.bZ _ _ h.1.1,K.bZ _ _ h.1.2,K.bZ _ _ h.2]
 |.ins x n X,b,h=>by cases b<;>simp[LE.aU] at h;rw[LE.bZ _ _ h.1.1,h.1.2,C.uu _ _ h.2]
def S.bZ{s s':S}(h:S.aU s s'=J):s=s':=by
 obtain⟨M,a2,L,H,a5,a6,a7,a8⟩:=s;obtain⟨G,F,D,B,A,z,y,x⟩:=s';simp only[S.aU,aA,du,cz] at h;obtain⟨⟨⟨⟨⟨⟨⟨X,W⟩,V⟩,R⟩,Q⟩,P⟩,O⟩,N⟩:=h;rw[C.uu _ _ X,Qa W,V,R,Q,P,O,N]
def T.bZ:∀(a b:T),T.aU a b=J->a=b
 |.out e s,b,h=>by
  cases e with
  |normal=>
   cases b with
   |out W s'=>
    cases W with
    |normal=>rw[S.bZ (s:=s) (s':=s') h]
    |_=>simp[T.aU] at h
   |_=>simp[T.aU] at h
  |_=>simp[T.aU] at h
 |.stuck _,b,h=>by simp[T.aU] at h
 |.ez _ _ _ _ _ _ _ _,b,h=>by simp[T.aU] at h
 |.ret v V X,b,h=>by cases b<;>simp[T.aU] at h;rw[C.bZ _ _ h.1.1,Qa h.1.2,h.2]
 |.bD v,b,h=>by cases b<;>simp[T.aU] at h;rw[C.bZ _ _ h]
 |.bi c t f,b,h=>by cases b<;>simp[T.aU] at h;rw[BE.bZ _ _ h.1.1,T.bZ _ _ h.1.2,T.bZ _ _ h.2]
 |.bA c t,b,h=>by cases b<;>simp[T.aU] at h;rw[BE.bZ _ _ h.1,T.bZ _ _ h.2]
 |.call f G V X R jf t,b,h=>by
  cases b<;>simp[T.aU] at h;obtain⟨⟨⟨⟨⟨⟨Q,P⟩,O⟩,N⟩,M⟩,L⟩,H⟩:=h;rw[Q,C.uu _ _ P,Qa O,N,M,C.bZ _ _ L,T.bZ _ _ H]
 |.loop aC R F t,b,h=>by cases b<;>simp[T.aU] at h;rw[h.1.1.1,h.1.1.2,C.uu _ _ h.1.2,T.bZ _ _ h.2]
 |.back aC x,b,h=>by cases b<;>simp[T.aU] at h;rw[h.1,C.uu _ _ h.2]
 |.new e x X D t,b,h=>by cases b<;>simp[T.aU] at h;rw[h.1.1.1.1,LE.bZ _ _ h.1.1.1.2,h.1.1.2,h.1.2,T.bZ _ _ h.2]
 |.ae k x X t,b,h=>by cases b<;>simp[T.aU] at h;rw[h.1.1.1,LE.bZ _ _ h.1.1.2,h.1.2,T.bZ _ _ h.2]
 |.gA g k t f,b,h=>by cases b<;>simp[T.aU] at h;rw[BE.bZ _ _ h.1.1.1,BE.bZ _ _ h.1.1.2,T.bZ _ _ h.1.2,T.bZ _ _ h.2]
 |.pick n g k t f,b,h=>by
  cases b<;>simp[T.aU] at h;rw[K.bZ _ _ h.1.1.1.1,BE.bZ _ _ h.1.1.1.2,BE.bZ _ _ h.1.1.2,T.bZ _ _ h.1.2,T.bZ _ _ h.2]
def Mj:∀{l:List T}{t:T},t∈l->t∈IF l
 |[],t,h=>by cases h
 |u::R,t,h=>by
  simp only[IF];rcases dS.1 h with rfl|h;split;rename_i X;obtain⟨w,W,V⟩:=lT.1 X;rw[T.bZ _ _ V];exact Mj W;exact OE;split;exact Mj h;exact Fy _ (Mj h)
def am9{p:Sp}{O:ai}{L:dP}:∀{l:List BE}{t:T},(UC l t).ba p O L->(∀b∈l,b.ab O=J)/\t.ba p O L
 |[],t,h=>⟨λ_ X=>(by cases X),h⟩
 |b::r,t,h=>by
  simp only[UC,T.ba] at h;obtain⟨W,V⟩:=am9 h.2;exact⟨λx R=>(dS.1 R).elim (λe=>e▸h.1) (W x),V⟩
def aAe{R:qO}{mL:List BE}{W:cU}{Q:aq}{X:S->T}{P:C->S->T}{V:cU}(h:(qc cf R y mL W Q X P B V t).ba p N k):abD cf mL t W=true:=by
 cases V with
 |nil=>
  cases B<;>simp only[qc] at h<;>split at h;assumption;exact h.elim;assumption;exact h.elim
 |cons m H=>
  cases B with
  |zero=>exact h.elim
  |succ B=>
   simp only[qc] at h;split at h;exact h.elim;rename_i M;simpa using M
def aAf(s:S):s.co []=s:=by
 obtain⟨X,b,c,d,e,f,g,i⟩:=s;simp only[S.co,S.mk.injEq,and_self,and_true];apply kK;intro i;rw[xt];cases X[i]?<;>simp
def adr:∀{l:List T}{t:T},t∈IF l->t∈l
 |[],t,h=>by cases h
 |u::X,t,h=>by
  simp only[IF] at h;split at h;exact Fy _ (adr h);rcases dS.1 h with rfl|h;exact OE;exact Fy _ (adr h)
def ana{O:ai}{L:dP}:∀{l:List T},l≠[]->(∀t∈l,t.ba p O L)->(DL l).ba p O L
 |[],h,_=>aG rfl h
 |[t],_,h=>h t OE
 |t::u::r,_,h=>by
  simp only[DL,T.ba];exact⟨λ_=>h t OE,λ_=>ana (l:=u::r) aw λx X=>h x (Fy _ X)⟩
def anb{k:S->T}{X:C->S->T}:∀{l:List T},(DL l).oH k X=DL (l.map (T.oH k X))
 |[]=>rfl
 |[t]=>rfl
 |t::u::r=>by
  simp only[DL,T.oH,eW];rw[anb (l:=u::r)];rfl
def aAg{X:S->T}{P:C->S->T}{M H:C->S->T}(x:∀R G N k,((M R G).oH X P).ba p N k->(H R G).ba p N k)(h:((z8 cf v w t M).oH X P).ba p N k):(z8 cf v w t H).ba p N k:=by
 unfold z8 at h⊢;cases F:cf.sig v with
 |none=>rw[F] at h;exact h.elim
 |some D=>
  simp only[F] at h⊢;cases B:jp cf.ty D with
  |none=>rw[B] at h;exact h.elim
  |some A=>
   simp only[B] at h⊢;cases z:BS cf.ty D ((t.cut w A).cK A).1 with
   |none=>rw[z] at h;exact h.elim
   |some l=>
    simp only[z] at h⊢;split at h;rename_i u;rw[aL u];simp only[T.oH,T.ba] at h⊢;intro y V W r;refine(h y V W r).mono λe f Q=> ?_
    cases e with
    |returned R=>
     obtain⟨q,o,n,m,j,i⟩:=Q;exact⟨q,o,n,m,j,x _ _ _ _ i⟩
    |panicked d=>exact Q
    |outgrown=>exact Q
    exact h.elim
def aAh{X:S->T}{M r:C->S->T}{q:YH}{m:OM}{G F:S->T}(V:∀R N k,((G R).oH X M).ba p N k->(F R).ba p N k)(h:((FZ cf (UD cf) y r m G t).oH X M).ba p N k):(FZ cf (kX cf x q) y M m F t).ba p N k:=by
 unfold FZ at h⊢;cases dH:Iw cf m.o t with
 |some u=>
  simp only[dH,T.oH,T.ba] at h⊢;obtain⟨l,j,i⟩:=h;exact⟨l,j,V _ _ _ i⟩
 |none=>
 simp only[dH] at h⊢;cases Q:eN cf t m.o with
 |call c a=>
  cases c with
  |fn g=>
   simp only[Q,UD] at h⊢;split at h;rename_i H;have H:cf.inl g=none:=by simpa using H
   simp only[kX,H];exact aAg (λv R N k f=>V _ N k f) h;exact h.elim
  |yl n=>simp only[Q] at h;exact h.elim
 |bD v=>simp only[Q] at h;exact h.elim
 |no=>simp only[Q] at h;exact h.elim
 |op=>
  simp only[Q] at h⊢;cases D:(if Lg m.o.op then eY cf m.o m.bP E t else Z) with
  |some b=>
   simp only[D,T.oH,T.ba] at h⊢;exact⟨h.1,λe d=>V _ _ _ (h.2 e d)⟩
  |none=>
   simp only[D] at h⊢;by_cases B:n8 m.o.op=J;rw[aL B] at h⊢;cases A:B6 cf t m.o with
   |none=>rw[A] at h;exact h.elim
   |some W=>
    obtain⟨b,v⟩:=W;simp only[A,T.oH,T.ba] at h⊢;exact⟨h.1,V _ _ _ h.2⟩
   rw[aP B] at h⊢;by_cases z:Pb m.o.op=J;rw[aL z] at h⊢;cases P:gN cf m t with
   |ok R=>simp only[P] at h⊢;exact V _ _ _ h
   |bA b R=>simp only[P] at h;exact h.elim
   |split b s1 s2=>simp only[P] at h;exact h.elim
   |no w=>simp only[P] at h;exact h.elim
   rw[aP z] at h;exact h.elim
def aAi{k:S->T}{V B:C->S->T}{N:YH}{mL:List BE}{R:aq}:∀(n:Nat)(Q:cU)(P:cU)(s:S)(O:ai)(L:dP),
  ((qc cf (UD cf) y mL P R (.out .normal) B n Q s).oH k V).ba p O L->(qc cf (kX cf x N) y mL P R k V n Q s).ba p O L:=by
 intro n;induction n with
 |zero=>
  intro Q P s O L h;cases Q with
  |nil=>
   simp only[qc] at h⊢;split at h;rename_i M;rw[aL M];exact h;exact h.elim
  |cons m r=>exact h.elim
 |succ n A=>
  intro Q P s O L h;cases Q with
  |nil=>
   simp only[qc] at h⊢;split at h;rename_i M;rw[aL M];exact h;exact h.elim
  |cons m r=>
   simp only[qc] at h⊢;split at h;exact h.elim;rename_i M;rw[aP M];rw[anb] at h;have G:=adq h;cases F:(Le (m::r)).filter (abE y) with
   |nil=>rw[F] at h;exact h.elim
   |cons X z=>
    rw[F] at G;refine ana (λD=> ?_) λt w=> ?_
    have:=Mj (OE (a:=FZ cf (kX cf x N) R V X.1 (λH=>qc cf (kX cf x N) y mL (Lh y X.1 P) R k V n X.2 H) s) (l:=z.map λX=>FZ cf (kX cf x N) R V X.1 (λH=>qc cf (kX cf x N) y mL (Lh y X.1 P) R k V n X.2 H) s));simp only[eW] at D;rw[D] at this;cases this;obtain⟨W,v,rfl⟩:=iL.1 (adr w);exact aAh (λH O L u=>A _ _ _ _ _ u) (G _ (iL.2 ⟨_,Mj (iL.2 ⟨W,v,rfl⟩),rfl⟩))
structure anc(cf:bL)(ops:dU)(bs:aq)(qs ch:cU):Prop where
 ane:Mc ops bs
 Am:∀m∈qs++ch,∀x∈qs++ch,∀d,x.o.dst=U d->d∈ky ops m.o->(bs.getD m.j 0).testBit x.j=J
 dst:∀x∈qs++ch,∀y∈qs++ch,x.j≠y.j->∀d,x.o.dst=U d->y.o.dst≠U d
 gd:∀m∈qs++ch,m.o.guard=Z/\m.bP=E
 qt:∀q∈qs,n8 q.o.op=J
def aAj{F:Fence}(hF:rW F)(ok:mq p cf){nn:Nat}(ih:Ar p cf nn){D:cF}{X:ml}{yh:YH}(hY:Gf p cf D.eO X yh){Q:Exit->Act->World->Prop}(HP:∀ch a' z pd M,eU p.w0 D pd M a'.defers z->p.R (.panicked ch) z->Q (.panic ch) a' z)
   {mL:List BE}{qs ch:cU}{ds:aq}(hX:anc cf ops y qs ch)(cp:∀x∈qs++ch,∀d,x.o.dst=U d->d∈ds){H:S->T}{kp:C->S->T}{V0:aq}(hB:X.sU t N V0 k)(b6:∀b∈mL,b.bd (Y N.i) (Y N.b) (Y N.r)=J/\b.ab N=J)
  (hk:∀s' O' V' a' z L',bS t N V0 s' O' V'->dI t.aC k L'->aE p.S0 p.w0 D cf.ty V' O' s' a' z->(H s').ba p O' L'->Q .normal a' z)
  (cs:∀v s' O' V' a' z L',bS t N V0 s' O' V'->dI t.aC k L'->aE p.S0 p.w0 D cf.ty V' O' s' a' z->(kp v s').ba p O' L'->Q (.panic [{v:=v.ab O' V',recovered:=E}]) a' z):
  ∀(a0:Nat)(listed:Array Bool)(ac af qv:cU)(s:S)(O:ai)(V:aq)(a:Act)(W:World)(L:dP),(ac++af).length=a0->vQ ops listed (ac++af)->(∀q∈ac,q∈qv)->(∀q∈qv,q∈qs)->(∀m∈af,m∈ch)->
   bS t N V0 s O V->dI t.aC k L->aE p.S0 p.w0 D cf.ty V O (s.co (qd ac)) a W->fO cf.gl O->(qc cf (kX cf (λf c s H=>gq cf nn f c s yh H) yh) y mL qv ds H kp (Y af) af s).ba p O L->
   wpAnyIn F B p.P .any ops Q a0 listed a W:=by
 intro a0;induction a0 with
 |zero=>
  intro listed ac af qv s O V a W L bt hW a9 bf hr hl hL R hg h;have hp:∀q∈ac,q∈qs:=λq hq=>bf q (a9 q hq)
  have bg:ac++af=[]:=wS.1 bt;obtain⟨rfl,rfl⟩:=List.append_eq_nil_iff.1 bg;simp only[Ua,qc] at h;split at h;refine⟨?_,hk s O V a W L hl hL (by have:=R;simp only[qd,List.filterMap_nil,aAf] at this;exact this) h⟩;cases ag:Ud .any ops listed with
  |nil=>rfl
  |cons i r=>
   obtain⟨h1,o,ho,-⟩:=mem_ready.1 (show i∈Ud .any ops listed by rw[ag];simp);obtain⟨m,hm,-⟩:=(hW.un i (pi.1 ho).1).1 h1;cases hm
  exact h.elim
 |succ a0 b7=>
  intro listed ac af qv s O V a W L bt hW a9 bf hr hl hL R hg h;have hp:∀q∈ac,q∈qs:=λq hq=>bf q (a9 q hq)
  have bb:∀m∈ac++af,m∈qs++ch:=λm hm=>by
   rcases fh.1 hm with h1|h1;exact zQ _ (hp m h1);exact OA _ (hr m h1)
  refine⟨λag=> ?_,λi hi=> ?_⟩;exfalso;obtain⟨m0,ct⟩:=List.exists_mem_of_length_pos (l:=ac++af) aa;obtain⟨m,hm,bg⟩:=vQ.some hX.ane hW m0.j ⟨m0,ct,rfl⟩;have:m.j∈Ud .any ops listed:=
   mem_ready.2 ⟨(hW.un m.j (hW.lt hm)).2 ⟨m,hm,rfl⟩,m.o,hW.mem m hm,λe he hb=>bg e.on (amN he hb)⟩
  rw[ag] at this;cases this;obtain⟨h1,o,ho,bg⟩:=mem_ready.1 hi;obtain⟨m,hm,rfl⟩:=(hW.un i (pi.1 ho).1).1 h1;have bx:=hW.mem m hm;rw[bx] at ho;cases ho;have hd:∀e∈lY m.o,listed.getD e E=true:=λe he=>by
   obtain⟨ed,h2,h3,rfl⟩:=amO he;exact bg ed h2 h3
  have b0:∀x∈ac++af,¬(y.getD m.j 0).testBit x.j=true:=λx hx hb=>hW.not hx (hW.listed hX.ane m.j m.o bx hd x.j (hW.lt hx) hb)
  have ag:∀G∈ky ops m.o,G∉qd ac:=λG ht hq=>by
   obtain⟨x,hx,bk⟩:=FC.1 hq;exact b0 x (zQ _ hx) (hX.Am m (bb m hm) x (bb x (zQ _ hx)) G bk ht)
  obtain⟨cv,b8⟩:=hX.gd m (bb m hm);have ca:=aAe h;have cx:nC m.o (yielded ops a.tmps)=true:=ac9 R (by simp[iH,cv]);unfold wpOpIn;rw[bx];simp only[cx,cN];rcases fh.1 hm with cy|cA
  
  obtain⟨xs,ys,rfl⟩:=aKM cy;have hq:=f9.1 ca m (a9 m aw);split at hq;rename_i d b v b1 hv;split at hq;rename_i w hw;simp only[aA,jy] at hq;have cB:=C.bZ _ _ hq.1;subst cB;have jr:b.ab O=true:=by
   rcases hq.2 with h5|h5;cases b<;>simp only[BE.isT,jR] at h5;simp only[BE.ab];exact h5;obtain⟨x,hx,h6⟩:=lT.1 h5;rw[<-BE.bZ _ _ h6,BE.ep hl.ext.agree x (b6 x hx).1];exact(b6 x hx).2
  have al:=am3 (O:=O) (hX.qt m (hp m aw)) b8 (am4 (ops:=ops) (ds:=qd (xs++m::ys)) ag hv) jr;obtain⟨v',z,V',a3,R',A⟩:=PD R ok.mN hg m al;have an:=hW.nd;rw[KO,da] at hW an;have a4:d∉qd (xs++ys):=λhh=>by
   obtain⟨x,hx,bk⟩:=FC.1 hh;have b2:x.j≠m.j:=by
    rw[nW] at an;rcases fh.1 hx with h5|h5;exact an.2.2 x h5 m aw;exact Ne.symm ((jS.1 an.2.1).1 x (by simp[h5]))
   exact hX.dst x (zQ _ (hp x (by rcases fh.1 hx with h5|h5<;>simp[h5]))) m (zQ _ (hp m aw)) b2 d bk b1
  have hs:((s.co (qd (xs++m::ys))).put m.o.dst v)=s.co (qd (xs++ys)):=by
   rw[b1];simp only[S.put,wZ,S.co];congr 1;apply kK;intro i;rw[wU,xt,xt,jz,Mg];have cC:=(cj.1 hw).1;by_cases hi:d=i;subst hi;rw[aL rfl,aL cC,hw];simp[a4];rw[aP hi];have cD:(qd (xs++m::ys)).contains i=(qd (xs++ys)).contains i:=by
    rw[vx,qH,qH];simp only[qd,List.filterMap_append,ajK,b1,fh,dS];constructor;rintro(h5|h5|h5);exact .inl h5;exact aG h5.symm hi;exact .inr h5;rintro(h5|h5);exact .inl h5;exact .inr (.inr h5)
   rw[cD]
  rw[hs] at R' A;refine D3 hF a3 (PM al) ?_;refine b7 _ (xs++ys) af qv s O V' _ z L (by simp at bt⊢;omega) ?_ (λq hq=>a9 q (by rcases fh.1 hq with h5|h5<;>simp[h5])) bf hr (hl.trans ⟨A.ext,A.mono,A.len,A.aC⟩) hL R' hg h;rw[KO];exact hW.next hd;cases hq;cases hq
  
  obtain⟨xs,ys,rfl,cc⟩:=am7 cA;have cI:(xs++m::ys).length=(xs++ys).length+1:=dh;have cO:abE y (m,xs++ys)=true:=by
   refine f9.2 λx hx=> ?_
   have:=b0 x (OA _ (by simp only[fh,dS] at hx⊢;exact hx.imp id .inr));simpa using this
  have h:(FZ cf (kX cf (λf c s H=>gq cf nn f c s yh H) yh) ds kp m (λs'=>qc cf (kX cf (λf c s H=>gq cf nn f c s yh H) yh) y mL (Lh y m qv) ds H kp (xs++ys).length (xs++ys) s') s).ba p O L:=by
   rw[cI] at h;generalize cR:xs++m::ys=cW at h cc;cases cW with
   |nil=>simp at cR
   |cons m0 r0=>
    simp only[qc,ca,OK,jR,gD] at h;exact adq h _ (Mj (iL.2 ⟨_,qK.2 ⟨cc,cO⟩,rfl⟩))
  have c0:vQ ops (listed.setIfInBounds m.j J) (ac++(xs++ys)):=by
   have h5:ac++(xs++m::ys)=(ac++xs)++m::ys:=aw;rw[h5] at hW;have:=hW.next hd;simpa using this
  have a4:∀d,m.o.dst=U d->d∉qd ac:=λd c1 hh=>by
   obtain⟨x,hx,bk⟩:=FC.1 hh;have b2:x.j≠m.j:=(nW.1 hW.nd).2.2 x hx m aw;exact hX.dst x (bb x (zQ _ hx)) m (bb m hm) b2 d bk c1
  have bl:∀(s1:S)(O1:ai)(V1:aq)(a1:Act)(W1:World)(L1:dP),bS s O V s1 O1 V1->dI s.aC L L1->aE p.S0 p.w0 D cf.ty V1 O1 (s1.co (qd ac)) a1 W1->(qc cf (kX cf (λf c s H=>gq cf nn f c s yh H) yh) y mL (Lh y m qv) ds H kp (xs++ys).length (xs++ys) s1).ba p O1 L1->wpAnyIn F B p.P .any ops Q a0 (listed.setIfInBounds m.j J) a1 W1:=
   λs1 O1 V1 a1 W1 L1 qU c2 R1 c3=>b7 _ ac (xs++ys) (Lh y m qv) s1 O1 V1 a1 W1 L1 (by simp at bt⊢;omega) c0 (λq hq=>qK.2 ⟨a9 q hq,by have:=b0 q (zQ _ hq);simpa using this⟩) (λq hq=>bf q (qK.1 hq).1) (λx hx=>hr x (by simp only[fh,dS] at hx⊢;exact hx.imp id .inr)) (hl.trans qU) (hL.trans c2 hl.aC) R1 (hg.ext qU.ext) c3
  have cl:=(VO (cf:=cf) (s:=s) (O:=O) ag).ev cf.gl;unfold FZ at h;split at h;rename_i u hu;have c4:=aAa (I3 cl) a4 hu;simp only[T.ba] at h;obtain⟨aJ,hr,h⟩:=h;obtain⟨b3,tv,c5,an,b4⟩:=ayU ok.BR R hg c4 hr;refine⟨λf _=>hF.fn f, ?_⟩;rw[BJ _ _ _ an,c5,T4];refine⟨λhd=>by rw[hF.Am] at hd;simp at hd,CallsIn.mono (hF.calls b4) (λe z he=> ?_)⟩;obtain⟨rfl,R',A⟩:=he;exact bl u.s _ V _ z L ⟨A.ext,A.mono,A.len,A.aC⟩ (dI.refl _ _) R' h;split at h;rename_i g b3 cn;have c6:eN cf (s.co (qd ac)) m.o=.call (.fn g) b3:=by rw[I3 cl];exact cn
  have c7:X.sU (s.co (qd ac)) O V L:=by
   have:=hB.go hl hL;exact⟨⟨this.later.ext,this.later.mono,this.later.len,this.later.aC⟩,this.Vj⟩
  have hC:=VI ok ih hY L (.fn g) b3 (s.co (qd ac)) _ _ O V a W (λe z=>match e with
    |.returned v=>wpAnyIn F B p.P .any ops Q a0 (listed.setIfInBounds m.j J) (a.put m.o.dst v) z
    |.panicked ch=>Q (.panic ch) a z
    |.outgrown=>LetsOut Q) c7 (aAd h) R hg
   (λv s' O' V' z L' A b5 R' hs=>by
    simp only[Ek] at hs;split at hs;rename_i br;refine bl (({s' with tmps:=s.tmps}:S).put m.o.dst v) O' V' _ z L' (bS.put (s':={s' with tmps:=s.tmps}) (show bS s O V _ O' V' from⟨A.ext,A.mono,A.len,A.aC⟩) _ _) b5 ?_ hs;rw[Ej a4];have:({s' with tmps:=s.tmps}:S).co (qd ac)=s':=by
     simp only[S.co] at br⊢;rw[<-br]
    rw[this];exact R'.put _ _;exact hs.elim)
   (λv s' O' V' z L' A b5 R' hs=>by
    simp only[Ek] at hs;split at hs;rename_i br;refine cs v (({s' with tmps:=s.tmps}:S).co ds) O' V' a z L' (hl.trans ⟨A.ext,A.mono,A.len,A.aC⟩) (hL.trans b5 hl.aC) ?_ hs;have:({s' with tmps:=s.tmps}:S).co ds=s'.co ds:=by
     have h6:=az2 (s:=s) (ds:=ds) (es:=qd ac) (λx hx=>by
      obtain⟨M,hy,c8⟩:=FC.1 hx;exact cp M (bb M (zQ _ hy)) x c8)
     have h7:=ku S.tmps h6;simp only[S.co] at h7 br⊢;rw[br,h7]
    rw[this];exact R'.co ds;exact hs.elim)
   (λch z pd M hA hR=>HP ch a z pd M hA hR)
  obtain⟨c9,b4⟩:=hC;refine⟨λf _=>hF.fn f, ?_⟩;have an:∀c,m.o.op≠ .defer c:=λc dc=>by simp[eN,dc] at cn
  rw[BJ _ _ _ an,Vl R hg c6 c9,T4];refine⟨λhd=>by rw[hF.Am] at hd;simp at hd,CallsIn.mono (hF.calls b4) (λe z he=> ?_)⟩;cases e<;>exact he;split at h;rename_i b hb;split at hb;rename_i dd;simp only[T.ba] at h;have df:=aAb (cf:=cf) (ops:=ops) dd ag a4 hb;obtain⟨v',z,rv,a3,dk,R',A⟩:=aco R ok.mN hg df h.1;exact D3 hF a3 (acG hb) (bl b.s _ V _ z L ⟨A.ext,A.mono,A.len,A.aC⟩ (dI.refl _ _) R' (h.2 rv (by rw[ok.pt];exact dk)));cases hb;split at h;rename_i dn;split at h;rename_i b v hv;simp only[T.ba] at h;have al:=am3 (O:=O) dn b8 (am4 (ops:=ops) (ds:=qd ac) ag hv) h.1;obtain⟨v',z,V',a3,R',A⟩:=PD R ok.mN hg m al;rw[<-Ej a4] at R' A;exact D3 hF a3 (PM al) (bl (s.put m.o.dst v) O V' _ z L ⟨A.ext,A.mono,A.len,A.aC⟩ (dI.refl _ _) R' h.2);exact h.elim;split at h;rename_i dr;split at h;rename_i s' dx;have dy:=az4 (ops:=ops) dr ag a4 dx;have al:(gN cf m (s.co (qd ac))).gives O (s'.co (qd ac)):=by rw[dy];rfl
  obtain⟨v',z,V',a3,R',A⟩:=PD R ok.mN hg m al;exact D3 hF a3 (PM al) (bl s' O V' _ z L ⟨A.ext,A.mono,A.len,A.aC⟩ (dI.refl _ _) R' h);exact h.elim;exact h.elim;exact h.elim
def anf:∀{P:cU}{s:S}{x:S×List BE},FY cf P s=U x->x.1={s with tmps:=x.1.tmps}/\Y x.1.tmps=Y s.tmps/\(∀t,t∉qd P->x.1.tmps[t]?=s.tmps[t]?)/\∀b∈x.2,b.bd s.ni s.nb (Y s.rs)=J
 |[],s,x,h=>by simp only[FY,cS] at h;subst h;exact⟨rfl,rfl,λ_ _=>rfl,λ_ R=>(by cases R)⟩
 |q::r,s,x,h=>by
  simp only[FY] at h;split at h;rename_i b v X;cases Q:FY cf r (s.put q.o.dst v) with
  |none=>rw[Q] at h;cases h
  |some y=>
   rw[Q] at h;simp only[eo,cS] at h;subst h;obtain⟨L,H,G,O⟩:=anf Q;refine⟨?_, ?_,λt N=> ?_,λx W=> ?_⟩;show y.1=_;rw[L];cases q.o.dst<;>rfl;show Y y.1.tmps=_;rw[H];cases q.o.dst<;>simp[S.put,wZ];have F:t∉qd r:=λM=>N (by
    simp only[qd,ajK];cases q.o.dst with
    |none=>exact M
    |some d=>exact Fy _ M)
   show y.1.tmps[t]?=_;rw[G t F,mO (λe=>N (by simp[qd,e]))];have V:(s.put q.o.dst v).ni=s.ni/\(s.put q.o.dst v).nb=s.nb/\(s.put q.o.dst v).rs=s.rs:=by cases q.o.dst<;>exact⟨rfl,rfl,rfl⟩
   have R:b.bd s.ni s.nb (Y s.rs)=true:=by
    unfold B6 at X;split at X;cases X;split at X;cases X;exact BE.bm.1 _;split at X;rename_i cT;cases X;exact cT;cases X;cases X
   simp only at W;split at W;have:=O x W;rwa [V.1,V.2.1,V.2.2] at this;rcases dS.1 W with rfl|W;exact R;have:=O x W;rwa [V.1,V.2.1,V.2.2] at this
  cases h
def ang{F:Fence}(hF:rW F)(ok:mq p cf){nn:Nat}(ih:Ar p cf nn){D:cF}{X:ml}{yh:YH}(hY:Gf p cf D.eO X yh){Q:Exit->Act->World->Prop}(HP:∀u a' g pd M,eU p.w0 D pd M a'.defers g->p.R (.panicked u) g->Q (.panic u) a' g)
  {id:Nat}{so:Bool}{c:Pc}{a:Act}{H:XE->S->T}(hB:X.sU t N y k)(r:Lj cf so ops t=U c)
  (h:(Ph cf (kX cf (λf c t H=>gq cf nn f c t yh H) yh) ops H c).ba p N k)(R:aE p.S0 p.w0 D cf.ty y N t a e)(hg:fO cf.gl N)
  (hk:∀s' O' V' a' g L',bS t N y s' O' V'->dI t.aC k L'->aE p.S0 p.w0 D cf.ty V' O' s' a' g->(H .normal s').ba p O' L'->Q .normal a' g)
  (bl:∀v s' O' V' a' g L',bS t N y s' O' V'->dI t.aC k L'->aE p.S0 p.w0 D cf.ty V' O' s' a' g->(H (.bD v) s').ba p O' L'->Q (.panic [{v:=v.ab O' V',recovered:=E}]) a' g):
  (Code.region id ops J).wpIn F B p.P Q a e:=by
 unfold Lj at r;split at r;rename_i af;obtain⟨ag,al⟩:∃ag,ag=iG (λ_=>E) E J 0 (Y t.ao) ops.toList:=⟨_,rfl⟩;obtain⟨w,a3⟩:∃w,w=DM so ops (Y t.ao):=⟨_,rfl⟩;obtain⟨u,a4⟩:∃u,u=DN so ops (Y t.ao):=⟨_,rfl⟩;have br:w=ag.filter λm=>(UE so ops).contains m.j:=by rw[a3,al];rfl
 have bs:u=ag.filter λm=> !(UE so ops).contains m.j:=by rw[a4,al];rfl
 have af:=(aA _ _▸af).2;unfold Li at af;rw[<-a3,<-a4,<-al] at af;rw[<-a3,<-a4] at r;cases hq:FY cf w (t.room (nF ops.toList)) with
 |none=>rw[hq] at r;cases r
 |some x1=>
  obtain⟨s1,mL⟩:=x1;rw[hq] at r;simp only[aa5,chI] at r;split at r;cases r;cases r;obtain⟨bb,h⟩:=am9 h;simp only at h bb;have h:(qc cf (kX cf (λf c t H=>gq cf nn f c t yh H) yh) (qb ops.toList) mL w (FV ops.toList) (H .normal) (λv=>H (.bD v)) (Y u) u s1).ba p N k:=by
   split at h;exact h;exact aAi _ _ _ _ _ _ h
  simp only[abG,aA,du] at af;obtain⟨⟨⟨⟨⟨⟨⟨⟨c1,c2⟩,c4⟩,c5⟩,c6⟩,c7⟩,c8⟩,c9⟩,b2⟩:=af;have ac:∀m∈w++u,m∈ag:=λm z=>by
   rcases fh.1 z with h1|h1;rw[br] at h1;exact(qK.1 h1).1;rw[bs] at h1;exact(qK.1 h1).1
  have bd:∀m∈ag,ops[m.j]?=U m.o:=λm z=>by
   obtain⟨i,hi⟩:=aw1.1 z;rw[al] at hi;have h1:=P6 _ _ _ _ _ _ _ _ hi;have h2:=adh _ _ _ _ _ _ _ _ hi;rw[h2,jz];simpa using h1
  have bf:=VG c4;have hX:anc cf ops (qb ops.toList) w u:=by
   refine⟨amZ c1,λm z x hx d hd l=> ?_,λx hx M hy bt d bg bk=> ?_,λm z=> ?_,λq hq=> ?_⟩;have:=f9.1 (f9.1 c5 m (ac m z)) x (ac x hx);rw[hd] at this;simp only[jy,iK] at this;rcases this with h5|h5;rw[qH.2 l] at h5;cases h5;exact h5;obtain⟨i,hi⟩:=aw1.1 (ac x hx);obtain⟨j,hj⟩:=aw1.1 (ac M hy);have bx:i≠j:=λG=>by subst G;rw[hi] at hj;cases hj;exact bt rfl
   have an:=(cj.1 hi);have a0:=(cj.1 hj);rcases aKJ bx with a9|a9;exact(Oz.1 bf i j an.1 a0.1 a9) d (by rw[an.2];exact bg) (by rw[a0.2];exact bk);exact(Oz.1 bf j i a0.1 an.1 a9) d (by rw[a0.2];exact bk) (by rw[an.2];exact bg);have:=f9.1 c2 m (ac m z);simp only[aA,iK,aKo] at this;exact this;have:=f9.1 c6 q hq;simp only[aA] at this;exact this.1
  obtain⟨Rr,a1⟩:=R.room (nF ops.toList);have Rd:=Rr.drew;obtain⟨e1,e2,e3,e4⟩:=anf hq;simp only at e1 e2 e3 e4;have Rb:aE p.S0 p.w0 D cf.ty (y++eH (nF ops.toList) 0) N (s1.co (qd w)) a {e with drawn:=e.drawn+1}:=by
   have hh:s1.co (qd w)={t.room (nF ops.toList) with tmps:=um (qd w) 0 s1.tmps}:=by
    rw[e1];rfl
   rw[hh];refine⟨Rd.mem,Rd.gX,Rd.ei,Rd.eb,Rd.er,Rd.dO,by simp only[Mg,e2];exact Rd.size,λA sv l=> ?_,Rd.gH⟩;simp only at l;rw[xt,jz] at l;cases hx:s1.tmps[A]? with
   |none=>rw[hx] at l;cases l
   |some x=>
    rw[hx] at l;simp only[eo,cS] at l;split at l;exact .inl l.symm;rename_i b0;subst l;exact Rd.tmps A x (by rw[<-e3 A (λz=>b0 (qH.2 z))];exact hx)
  have qU:bS t N y s1 N (y++eH (nF ops.toList) 0):=by
   rw[e1];exact⟨a1.ext,a1.mono,a1.len,a1.aC⟩
  refine wpIn_region_any ok.mix ?_;refine aAj (ds:=FV ops.toList) hF ok ih hY HP hX (λx hx d hd=> ?_) hB (λb hb=>⟨by have:=e4 b hb;rw[R.ei,R.eb,R.er];exact this,bb b hb⟩) hk bl ops.size _ w u w s1 N _ a _ k c8 ?_ (λ_ h=>h) (λ_ h=>h) (λ_ h=>h) qU (dI.refl _ _) Rb hg h;have h2:ops.toList[x.j]?=U x.o:=by have:=bd x (ac x hx);simpa using this
  exact FC.2 ⟨x.o,ki h2,hd⟩;refine⟨λm z=>bd m (ac m z),λi hi=> ?_,aw,λj o ho hj=> ?_, ?_⟩;constructor;intro _;have:=f9.1 c7 i (by simpa using hi);obtain⟨m,z,hj⟩:=lT.1 this;exact⟨m,z,by simpa using hj⟩;intro _;simp[hi];exfalso;have b1:j<ops.size:=(pi.1 ho).1;simp[b1] at hj;have:=adk c9;rw[aw9] at this;exact this
 cases r
end
section
variable{p:Sp}{j:bL}
def ml.here(s:S)(O:ai)(V:aq)(L:dP):(ml.mk s O V L).sU s O V L:=⟨bS.refl _ _ _,dI.refl _ _⟩
def aAk(W:Array Nat)(V:gE)(A:mG):(W.zip V.toArray).foldl (λ(X:mG)(x:Nat×Value)=>match x with|(t,a)=>X.setIfInBounds t a) A=(W.toList.zip V).foldl (λ(X:mG)(x:Nat×Value)=>X.setIfInBounds x.1 x.2) A:=by
 rw[<-aKI];simp[Array.toList_zip]
def aAl(ok:mq p j)(ih:Ar p j B){a4:Func}(a9:p.P.funcs[v]?=U a4){ps:Array Tmp}{assign body:Code}{s:S}{L:dP}{O:ai}{V:aq}{a:Act}{sE:S}{l:Nat}{rec:Loop}{OB:List (Nat×Loop)}
  (hE:sE.ao=s.ao)(jr:C.ec (Y O.i) (Y O.b) (Y O.r) (aW s.ao) s.tmps=J)(b0:a.tmps.size=Y s.tmps)(b1:∀(t:Nat)(A:C),s.tmps[t]?=U A->A=.any\/a.tmps[t]?=U (A.ab O V))
  (b2:kz assign=E)(b3:kz body=E){n0:Nat}(q:rec={state:=.ready,pending:=Z,fn:=v,tmps:=a.tmps,params:=ps,assign,body,defers:=rec.defers})(o:OB[n0]?=U (l,rec)):
  Gf p j OB ⟨sE,O,V,L⟩ (Pe n0 ps.size λM Q k1 bf=>
   gq j B v assign (DP Q s ps.toList M) j6 (Pd n0 λg=>gq j B v body (g.IJ n0 .busy) j6 (UG n0 Q k1 bf))):=by
 intro D hD L1 m M Q k1 bf H z a1 W1 R' hB h R hg hk b4 hp F hF mm;unfold Pe at h;split at h;rename_i hc;simp only[aA,du,cz] at hc;obtain⟨⟨⟨⟨c1,c2⟩,c3⟩,c4⟩,c5⟩:=hc;subst c1;simp only[S.fz,aA] at c5;rw[<-hD] at o;have bg:sO rec .ready=rec:=by rw[q];rfl
 obtain⟨y1,y2,y3⟩:=R.dO.eO m l rec .ready o c3;rw[bg] at y2;have b5:H.y.getD m 0=l:=by simp[dL,y1]
 rw[b5];have bk:rec.params=ps:=by rw[q]
 have b6:=run_yield (P:=p.P) (args:=(C.aK H z M).toArray) y2 (by rw[bk];simpa using c4);refine⟨_,_,_,_,b6, ?_⟩;have e1:rec.fn=v:=by rw[q]
 have e2:rec.assign=assign:=by rw[q]
 have e3:rec.body=body:=by rw[q]
 have e4:rec.tmps=a.tmps:=by rw[q]
 rw[e1,e2,e3,e4,bk];refine azL hF a9 ?_;obtain⟨ms,m1,m0,m2,m3⟩:=R.dO.oa;have hA:=R.dO.enter m2 m3 J;have b7:∀(t:Nat)(A:C),s.tmps[t]?=U A->A=.any\/a.tmps[t]?=U (A.ab H z):=by
  intro t A ht;rcases b1 t A ht with h1|h1;exact .inl h1;right;have hX:=hB.later.ext;simp only[hE] at hX;rw[hX.ab (xl jr ht)];exact h1
 obtain⟨q1,q2⟩:=amS (O:=H) (V:=z) ps.toList M s.tmps a.tmps b0 b7;rw[<-aAk] at q1 q2;have RS:aE p.S0 p.w0 ⟨ms++D.out,D.eO,J,[]⟩ j.ty z H (DP Q s ps.toList M) {tmps:=(ps.zip (C.aK H z M).toArray).foldl (λ(b8:mG)(x:Nat×Value)=>match x with|(t,a)=>b8.setIfInBounds t a) a.tmps,defers:=[]} W1:=
  ⟨R.mem,R.gX,R.ei,R.eb,R.er,hA,q1,q2,R.gH⟩
 have al:∀(k:Act) w u y,eU p.w0 ⟨ms++D.out,D.eO,J,[]⟩ u y k.defers w->k.defers=[]/\eU p.w0 D u y a1.defers w:=by
  intro k w u y f;obtain⟨ca,d,p0,p2,p3⟩:=f.oa;have:ca=[]:=p0 rfl;subst this;have bl:k.defers=[]:=by simpa using d
  rw[bl] at f;refine⟨bl, ?_⟩;rw[m1];exact f.Me m0
 refine ih ⟨ms++D.out,D.eO,J,[]⟩ ⟨DP Q s ps.toList M,H,z,L1⟩ j6 (U l) v assign (DP Q s ps.toList M) _ L1 H z _ W1 _ (I6 _ _) (ml.here _ _ _ _) rfl (λ_=>b2) ⟨a4,a9⟩ h RS hg ?_ ?_;intro ch k w u y f hR;obtain⟨d,p2⟩:=al k w u y f;exact .inr ⟨ch,rfl,d,hp ch w u y p2 hR⟩;intro e g O2 V2 a2 W2 L2 bb cc R2 ac;cases e with
 |normal=>
  simp only[Pd] at ac;split at ac;rename_i br;simp only[cz] at br;left;obtain⟨z1,z2,z3⟩:=R2.dO.eO m l rec .ready o br;rw[bg] at z2;have cl:({rec with state:=.busy}:Loop)=sO rec .busy:=by rw[q];rfl
  have bs:=run_beginRound (P:=p.P) z2 (by rw[q]);rw[cl] at bs;refine⟨rfl,_,bs, ?_⟩;have R3:aE p.S0 p.w0 ⟨ms++D.out,D.eO,J,[]⟩ j.ty V2 O2 (g.IJ m .busy) a2 (W2.putObj l (.loop (sO rec .busy))):=
   R2.obj z2 rfl z3 _ rfl (R2.dO.adf o .busy)
  refine ih ⟨ms++D.out,D.eO,J,[]⟩ ⟨g.IJ m .busy,O2,V2,L2⟩ j6 (U l) v body (g.IJ m .busy) _ L2 O2 V2 a2 _ _ (I6 _ _) (ml.here _ _ _ _) rfl (λ_=>b3) ⟨a4,a9⟩ ac R3 (hg.ext bb.ext) ?_ ?_;intro ch k w u y f hR;obtain⟨d,p2⟩:=al k w u y f;exact⟨d,hp ch w u y p2 hR⟩
  ·intro e N O3 V3 a3 W4 L3 an cn R4 a0;have cp:m<Y N.pd:=by
    rw[<-R4.dO.len];exact(cj.1 o).1
   obtain⟨u1,u2,u3⟩:=R4.dO.eO m l rec N.pd[m] o (cL cp);have W:bS (DP Q s ps.toList M) H z N O3 V3:=bb.trans (s':=g) ⟨an.ext,an.mono,an.len,an.aC⟩;have bt:dI Q.aC L1 L3:=dI.trans (m:=g.aC) cc cn bb.aC;have bd:∀(G:Ie)(af:Option Code),(∀ag,({sO rec ag with state:=if af.isNone then .ready else .done,pending:=af}:Loop)=sO rec G)->
     (k1 (.bool (.c af.isNone)) {N with tmps:=Q.tmps,pd:=N.pd.set m G}).ba p O3 L3->∃X w',(Instr.endRound l af).run p.P W4=.ok X w'/\R' (.returned X) w':=by
    intro G af cs ct;have bx:=run_endRound (P:=p.P) af u2;rw[cs] at bx;refine⟨_,_,bx, ?_⟩;have R5:=R4.obj u2 rfl u3 (.loop (sO rec G)) rfl (R4.dO.adf o G);have cv:eU p.w0 D (N.pd.set m G) O3.y a1.defers (W4.putObj l (.loop (sO rec G))):=(al a3 _ _ _ (R4.dO.adf o G)).2;have cx:bS (DP Q s ps.toList M) H z {N with pd:=N.pd.set m G} O3 V3:=⟨W.ext,W.mono,W.len,W.aC⟩;have RB:=R.back c5.1 cx rfl R5 (D2:=D) (a2:=a1) rfl cv;have:=hk (.bool (.c af.isNone)) {N with tmps:=Q.tmps,pd:=N.pd.set m G} O3 V3 _ L3 ⟨W.ext,W.mono,W.len,W.aC⟩ bt RB ct;simpa[C.ab,BE.ab] using this
   cases e with
   |normal=>exact bd .ready Z (λag=>by cases ag<;>rfl) a0
   |ret=>exact bd (.done .ret) (U .ret) (λag=>by cases ag<;>rfl) a0
   |exit id=>exact bd (.done (.exit id)) (U (.exit id)) (λag=>by cases ag<;>rfl) a0
   |bD X=>
    obtain⟨d,p2⟩:=al a3 _ _ _ R4.dO;have RB:=R.back c5.1 W rfl R4 (D2:=D) (a2:=a1) rfl p2;exact⟨d,b4 X {N with tmps:=Q.tmps} O3 V3 _ L3 ⟨W.ext,W.mono,W.len,W.aC⟩ bt RB a0⟩
  exact ac.elim
 |ret=>exact ac.elim
 |exit id=>exact ac.elim
 |bD X=>exact ac.elim
 exact h.elim
def aAm(ok:mq p j)(ih:Ar p j B){D:cF}{ca:Func}(cc:p.P.funcs[v]?=U ca){f:Operand}{ps:Array Tmp}{assign body:Code}{X:XE->S->T}{a:Act}{Q:Exit->Act->World->Prop}
  (bg:D.rd=E){g:FuncId}{c:Code}{nt:Nat}(bk:t.ev j.gl f=.fn g w)(bl:j.inl g=U (c,nt,[]))
  (cT:t.fz w=J)(a3:t.yH (Y t.pd)=E)(cl:C.rQ (Y t.pd) w=E)(cn:kz assign=E)(cp:kz body=E)
  (h:(gq j B g c (Lk t nt w) (Pe (Y t.pd) ps.size λcs s1 k1 ct=>gq j B v assign (DP s1 t ps.toList cs) j6 (Pd (Y t.pd) λs2=>gq j B v body (s2.IJ (Y t.pd) .busy) j6 (UG (Y t.pd) s1 k1 ct))) (II t X)).ba p N k)
  (R:aE p.S0 p.w0 D j.ty y N t a e)(hg:fO j.gl N)
  (HP:∀ch u o pd M,eU p.w0 D pd M u.defers o->p.R (.panicked ch) o->Q (.panic ch) u o)
  (hk:∀H A z V' u o L',bS t N y A z V'->dI t.aC k L'->aE p.S0 p.w0 D j.ty V' z A u o->(X H A).ba p z L'->Q (H.to z V') u o):
  lj Z v p.P (.rangeFunc f ps assign body) Q a e:=by
 obtain⟨ms,m1,m0,m2,m3⟩:=R.dO.oa;simp only[S.fz,aA] at cT;simp only[S.yH,wT] at a3;obtain⟨rec,a4⟩:∃rec:Loop,rec={state:=.ready,pending:=Z,fn:=v,tmps:=a.tmps,params:=ps,assign,body,defers:=e.heap.size}:=⟨_,rfl⟩;obtain⟨W1,an⟩:∃W1,(e.alloc (.deferred (U []))).alloc (.loop rec)=W1:=⟨_,rfl⟩;have qU:W1.heap[e.heap.size+1]?=U (.loop rec):=by
  rw[<-an];have:=TZ (e.alloc (.deferred (U []))) (.loop rec);rwa [ajR] at this
 have cv:W1.heap[e.heap.size]?=U (.deferred (U [])):=by
  rw[<-an];exact(Below.heap_alloc _ _ _ aw).trans (TZ e _)
 have br:Below e.heap.size e W1:=by
  rw[<-an];exact⟨rfl,rfl,rfl,dh,λX hk=>(Below.heap_alloc _ _ _ dh).trans (Below.heap_alloc _ _ _ hk)⟩
 have R1:=R.below br;have cx:sO rec .ready=rec:=by rw[a4];rfl
 have cy:p.w0.heap.size<=e.heap.size:=R.mem.base.size;have bs:∀(B l':Nat)(r':Loop),D.eO[B]?=U (l',r')->l'<e.heap.size:=by
  intro B l' r' hn;have a9:B<Y t.pd:=by rw[<-R.dO.len];exact(cj.1 hn).1
  exact B9 (R.dO.eO B l' r' t.pd[B] hn (cL a9)).2.1
 have bt:eU p.w0 ⟨e.heap.size::(ms++D.out),D.eO++[(e.heap.size+1,rec)],E,[]⟩ (t.pd++[.ready]) (N.y++[e.heap.size+1]) [] W1:=
  R1.dO.push m2 (λd hd=>⟨(br.block d (B9 (m3 d hd).1)).trans (m3 d hd).1,(m3 d hd).2⟩) cv (λhm=>by have:=B9 (m3 _ hm).1;omega) cy (by rw[cx];exact qU) (λB l' r' hn H=>by have:=bs B l' r' hn;omega) aa
 have bx:Y N.y=Y t.pd:=R.dO.ut;have a0:∀m,m≠Y t.pd->(N.y++[e.heap.size+1]).getD m 0=N.y.getD m 0:=by
  intro m hm;simp only[dL];by_cases a9:m<Y N.y;rw[dZ a9];rw[jd aa,ke (l:=N.y) aa,ke dh]
 have b0:∀(G:Nat)(sv:C),t.tmps[G]?=U sv->sv=.any\/a.tmps[G]?=U (sv.ab (N.at (N.y++[e.heap.size+1])) y):=by
  intro G sv ht;rcases R.tmps G sv ht with q|q;exact .inl q;right;rw[C.P4 a0 y sv (amR a3.1 sv (ki ht))];exact q
 have cA:aE p.S0 p.w0 ⟨e.heap.size::(ms++D.out),D.eO++[(e.heap.size+1,rec)],E,[]⟩ j.ty y (N.at (N.y++[e.heap.size+1])) {t with pd:=t.pd++[.ready]} {a with defers:=[]} W1:=
  ⟨R1.mem.at a0 a3.2,R1.gX,R1.ei,R1.eb,R1.er,bt,R1.size,b0,λX H rv b q h2 h3=>let G:=R1.gH X H rv b q h2 h3;⟨G.own,G.mem,G.box,G.alone,G.inner⟩⟩
 have RE:=cA.enter (.yl (Y t.pd)::w) nt bt;have cB:C.aK (N.at (N.y++[e.heap.size+1])) y (.yl (Y t.pd)::w)=.func (.yield (e.heap.size+1)) #[] #[]::C.aK N y w:=by
  simp only[C.aK,C.ab];rw[C.Mf a0 y w cl];congr 3;simp only[ai.at];rw[<-bx];simp
 have cC:a.eval f=.func (.func g) #[] (C.aK N y w).toArray:=by
  have:=dw R hg f (by rw[bk];rfl);rw[bk,C.ab] at this;exact this
 have eg:=ok.D6 g (.inr (by rw[bl];rfl));obtain⟨al,hf,cD,cI,cG⟩:=ok.inl g c nt [] bl;refine azJ ⟨e.heap.size+1,[mj e.heap.size],W1,{target:=.fn (.func g) (C.aK N y w).toArray,args:= #[.func (.yield (e.heap.size+1)) #[] #[]]},W1,g,
  #[.func (.yield (e.heap.size+1)) #[] #[]]++(C.aK N y w).toArray,W1, ?_, ?_, ?_, ?_⟩
 rw[<-an,a4];exact run_enterLoop_outer _ _ _ _ _
 ·simp only[resolve,cC];simp[go_sem]
 ·simp[invoke,go_sem,eg]
 have cO:(#[.func (.yield (e.heap.size+1)) #[] #[]]++(C.aK N y w).toArray:mG)=(C.aK (N.at (N.y++[e.heap.size+1])) y (.yl (Y t.pd)::w)).toArray:=by
  rw[cB];simp
 rw[cO];refine P2 hf cD ?_;rw[cI];have b1:([mj e.heap.size]++a.defers:B7)=(e.heap.size::ms).map mj++D.base:=by rw[m1];rfl
 have b2:(D.eO++[(e.heap.size+1,rec)])[Y t.pd]?=U (e.heap.size+1,rec):=by rw[<-R.dO.len];simp
 refine ih ⟨e.heap.size::(ms++D.out),D.eO++[(e.heap.size+1,rec)],E,[]⟩ ⟨Lk t nt w,N.at (N.y++[e.heap.size+1]),y,k⟩ _ Z g c (Lk t nt w) (II t X) k _ y _ W1 _
  (aAl ok ih cc (a:=a) (s:=t) (sE:=Lk t nt w) (L:=k) (ps:=ps) (O:=N.at (N.y++[e.heap.size+1])) (V:=y) rfl (R.Ag cT.1).1 R.size b0 cn cp (by rw[a4]) b2) (ml.here _ _ _ _) rfl (λhh=>by cases hh) ⟨al,hf⟩ (uB p _ N k _ h) RE hg ?_ ?_
 intro ch u o pd M hA hR;obtain⟨cR,q1,q0,q2,q3⟩:=hA.oa;rw[q1] at hA;have ag:=(hA.sW).pop bg;show LeavesInM Fence.wide 0 p.P al u.tmps _ u.defers (.panicking ch) o;rw[q1];refine vP aw (zS.1 q2).1 (λd hd=>(q3 d (by simp[hd])).1) ?_;exact HP ch _ _ _ _ (by rw[<-b1] at ag;exact ag) (P5 (ok.Vv ch) (λd hd=>(q3 d (by simp[hd])).2) hR);intro H A z V' u o L' hl hL RR x;obtain⟨cR,q1,q0,q2,q3⟩:=RR.dO.oa;have R2:=RR.sW q1;have ag:=R2.dO.pop bg;have b3:z.y=N.y++[e.heap.size+1]:=hl.ext.agree.y;have cW:z.y.take (Y D.eO)=N.y:=by rw[b3,R.dO.len,<-bx];simp
 rw[cW,<-b1,R.dO.len] at ag;have b4:∀m,m≠Y t.pd->N.y.getD m 0=z.y.getD m 0:=λm hm=>by rw[b3];exact(a0 m hm).symm
 have bb:bS t N y (t.DO A) (z.at N.y) V':=⟨⟨⟨hl.ext.agree.i,hl.ext.agree.b,hl.ext.agree.r,rfl⟩,hl.ext.li,hl.ext.lb,hl.ext.lr,hl.ext.ad⟩,hl.mono,hl.len,hl.aC⟩;have b5:∀(W3:World),ld p.S0 p.w0 V' z A.ao j.ty A.rs W3->(∀(X:Nat)(H:TypeId)(rv:RV)(b:Nat),A.rs[X]?=U (.own H)->z.r[X]?=U rv->rv.lE=U b->Ae p.S0 p.w0 V' z A.ao j.ty A.rs W3 X H rv b)->yI (Y t.pd) A.ao=E->
   eU p.w0 D (A.pd.take (Y t.pd)) N.y ([mj e.heap.size]++a.defers) W3->aE p.S0 p.w0 D j.ty V' (z.at N.y) (t.DO A) {a with defers:=[mj e.heap.size]++a.defers} W3:=by
  intro W3 hm ht hb c0;refine⟨hm.at b4 hb,R2.gX,R2.ei,R2.eb,R2.er,c0,R.size,λG sv h=> ?_,λX H rv b q h2 h3=>let G:=ht X H rv b q h2 h3;⟨G.own,G.mem,G.box,G.alone,G.inner⟩⟩;rcases R.tmps G sv h with q|q;exact .inl q;right;rw[bb.ext.ab (xl (R.Ag cT.1).1 h)];exact q
 have b6:Y t.pd<Y A.pd:=by
  have:=R2.dO.len;simp only[gU,qI,Ua] at this;rw[R.dO.len] at this;omega
 obtain⟨u1,u2,u3⟩:=R2.dO.eO (Y t.pd) (e.heap.size+1) rec A.pd[Y t.pd] b2 (cL b6);have bd:∀(st:Ie)(H:XE)(a1:Option Code),A.pd[Y t.pd]?=U st->(sO rec st).state≠ .busy->(sO rec st).pending=a1->yI (Y t.pd) A.ao=E->(X H (t.DO A)).ba p z L'->
   (∀W4,Q (H.to (z.at N.y) V') {a with defers:=[mj e.heap.size]++a.defers} W4->(match a1 with|none=>Q .normal {a with defers:=[mj e.heap.size]++a.defers} W4|U c=>lj Z v p.P c Q {a with defers:=[mj e.heap.size]++a.defers} W4))->
   LeavesInM Fence.wide 0 p.P al u.tmps (adb Z v p.P (e.heap.size+1) Q {a with defers:=[mj e.heap.size]++a.defers}) u.defers .returning o:=by
  intro st H a1 ac c1 hj af c2 hq;rw[q1];refine vP aw (zS.1 q2).1 (λd hd=>(q3 d (by simp[hd])).1) ⟨_,PN R2 ok.mN (l:=[]) (by rw[cG];rfl), ?_⟩;have c3:A.pd[Y t.pd]=st:=by
   rw[cL b6] at ac;simpa using ac
  rw[c3] at u2;have b7:=run_endLoop (P:=p.P) u2 c1;rw[hj] at b7;refine⟨a1,_,b7,hq _ ?_⟩;have c4:∀(B l':Nat)(r':Loop),D.eO[B]?=U (l',r')->l'≠e.heap.size+1:=λB l' r' hn H=>by have:=bs B l' r' hn;omega
  refine hk H (t.DO A) (z.at N.y) V' _ _ L' bb hL (b5 _ (R2.mem.obj u2 rfl u3 _) (λX H rv b q h2 h3=>(R2.gH X H rv b q h2 h3).obj u2 rfl _) af (ag.put u2 c4 _)) (uB p _ z L' _ c2)
 have b8:(II t X .ret A).ba p z L'->LeavesInM Fence.wide 0 p.P al u.tmps (adb Z v p.P (e.heap.size+1) Q {a with defers:=[mj e.heap.size]++a.defers}) u.defers .returning o:=by
  intro x;simp only[II] at x;split at x;exact x.elim;rename_i af;have bf:yI (Y t.pd) A.ao=false:=by simpa using af
  split at x;rename_i ac;exact bd .ready .normal Z ac (by simp[sO]) rfl bf x (λ_ h=>h)
  ·rename_i ac;exact bd (.done .ret) .ret (U .ret) ac (by simp[sO]) rfl bf x (λ_ h=>Ei (n:=0) (wpIn_ret h))
  ·rename_i id ac;exact bd (.done (.exit id)) (.exit id) (U (.exit id)) ac (by simp[sO]) rfl bf x (λ_ h=>Ei (n:=0) (wpIn_exit h))
  exact x.elim
 cases H with
 |normal=>exact b8 x
 |ret=>exact b8 x
 |exit id=>exact x.elim
 |bD F=>
  simp only[II] at x;split at x;exact x.elim;rename_i af;simp only[jy,not_or,ajQ] at af;show LeavesInM Fence.wide 0 p.P al u.tmps _ u.defers (.panicking _) o;rw[q1];refine vP aw (zS.1 q2).1 (λd hd=>(q3 d (by simp[hd])).1) ?_;have:=hk (.bD F) (t.DO A) (z.at N.y) V' _ _ L' bb hL (b5 _ R2.mem R2.gH af.2 ag) (uB p _ z L' _ x);simp only[XE.to] at this;rw[C.P4 b4 V' F af.1] at this;exact this
end
section
variable{d:bL}{p:Sp}{L:dP}{V:aq}{W:World}
def Up(O X:ai):Prop:=∃l,X={O with r:=O.r++l}
def Up.refl(O:ai):Up O O:=⟨[],aw⟩
def Up.trans{X R:ai}(h:Up N X)(k:Up X R):Up N R:=by
 obtain⟨l,rfl⟩:=h;obtain⟨m,rfl⟩:=k;exact⟨l++m,aw⟩
def Up.agree{X:ai}(h:Up N X):jB N X (Y N.i) (Y N.b) (Y N.r):=by
 obtain⟨l,rfl⟩:=h;have:∀(l:aM)(N:ai),N.ext (l.map XV.r)={N with r:=N.r++l}:=by
  intro l;induction l with
  |nil=>intro N;simp[ai.ext]
  |cons x Q R=>intro N;simp only[eW,ai.ext,R,ai.add];simp
 rw[<-this l N];exact F0 _ _
def sR(O:ai)(X:bz)(R:vy):S:=⟨[],[],Y O.i,Y O.b,X,0,0,R⟩
def Qb(X:bz):Prop:=∀(k:Nat)(e:TypeId),X[k]?≠U (RK.own e)
def anh(p:Sp)(d:bL)(D:cF)(a:Act)(W:World)(L:dP)(V:aq)(G:bK)(N:vy)(X:ai)(v:C)(f:bz->(C->bz->T)->T):Prop:=
 ∀(Q:bz)(O:ai)(k:C->bz->T),aE p.S0 p.w0 D d.ty [] O (sR O Q N) a W->Up X O->Qb Q->v.bd (Y X.i) (Y X.b) (Y X.r) (aW G)=J->(f Q k).ba p O L->
  ∃M P R,aE p.S0 p.w0 D d.ty [] R (sR R P N) a W/\Up O R/\Qb P/\(∀H,Up R H->M.ab H []=v.ab X V)/\(k M P).ba p R L
def VQ{D:cF}{a:Act}{A:bK}{M:vy}{Q:ai}{f:C->bz->(C->bz->T)->T}(z:∀v,anh p d D a W L V A M Q v (f v)):∀(l:ap)(X:bz)(O:ai)(k:ap->bz->T),aE p.S0 p.w0 D d.ty [] O (sR O X M) a W->Up Q O->Qb X->C.ec (Y Q.i) (Y Q.b) (Y Q.r) (aW A) l=J->(Ln f l X k).ba p O L->
  ∃y H P,aE p.S0 p.w0 D d.ty [] P (sR P H M) a W/\Up O P/\Qb H/\(∀N,Up P N->C.aK N [] y=C.aK Q V l)/\(k y H).ba p P L
 |[],X,O,k,R,G,F,_,h=>⟨[],X,O,R,Up.refl O,F,λ_ _=>rfl,h⟩
 |x::s,X,O,k,R,G,F,B,h=>by
  rw[C.jo.2,aA] at B;simp only[Ln] at h;obtain⟨q,o,n,m,w,j,g,e⟩:=z x X O _ R G F B.1 h;obtain⟨c,ac,O2,R2,u,n2,d2,h2⟩:=VQ z s o n _ m (G.trans w) j B.2 e;exact⟨q::c,ac,O2,R2,w.trans u,n2,λN t=>by simp only[C.aK,g N (u.trans t),d2 N t],h2⟩
def ads(a3:p.ty=d.ty){D:cF}{a:Act}{bx:bK}{pd:vy}{O0:ai}(ha:a.tmps= #[])(a4:∀i e G,mg bx i=U (e,G)->W.heap[ad V i]?=U (.cells (C.aK O0 V G).toArray e (0,0))/\(p.w0.heap.size<=ad V i\/ad V i∈p.S0)/\C.ec (Y O0.i) (Y O0.b) (Y O0.r) (aW bx) G=J):
  ∀(n:Nat)(v:C),anh p d D a W L V bx pd O0 v (Lq d bx n v)
 |0,v=>λx O k R w o N h=>h.elim
 |n+1,v=>by
  intro x O k R w o N h;cases v with
  |int q e=>
   refine⟨_,x,O,R,Up.refl O,o,λf M=> ?_,h⟩;rw[C.bm.1] at N;simp only[C.ab,K.ep (w.trans M).agree e N]
  |bool e=>
   refine⟨_,x,O,R,Up.refl O,o,λf M=> ?_,h⟩;rw[C.bm.2.1] at N;simp only[C.ab,BE.ep (w.trans M).agree e N]
  |aj r=>
   refine⟨_,x,O,R,Up.refl O,o,λf M=> ?_,h⟩;rw[C.bm.2.2.1] at N;simp only[C.ab,RE.ep (w.trans M).agree r N]
  |agg l=>
   rw[C.bm.2.2.2.2.2.2.1] at N;simp only[Lq] at h;obtain⟨l',bg,O',R',u',n',d',h'⟩:=VQ (ads a3 ha a4 n) l x O _ R w o N h;exact⟨.agg l',bg,O',R',u',n',λf M=>by simp only[C.ab,d' f M],h'⟩
  |jM i b1 ac af=>
   simp only[Lq] at h;split at h;rename_i e G bk;obtain⟨g1,g2,g3⟩:=a4 i e G bk;split at h;rename_i te bl;obtain⟨ag,Q,H,B,u1,n1,d1,h1⟩:=VQ (ads a3 ha a4 n) G x O _ R w o g3 h;split at h1;rename_i hc;simp only[aA,du,cz,bne_iff_ne,ne_eq] at hc;obtain⟨⟨⟨⟨c1,c2⟩,c3⟩,c4⟩,c5⟩:=hc;subst c3;have hw:bH d.ty (.sl e)=te.ak:=by simp[bH,bl]
   have a9:n7 d.ty (sR H Q pd) (bH d.ty (.sl e)) (kf (Y te.ak) ac ag)=true:=by
    rw[hw,<-c1];exact Gd (s:=sR H Q pd) (s':=S.ck Q) rfl
   have bb:=acj B a9;obtain⟨P,A⟩:∃P,P=(kf (Y te.ak) ac ag).map λan=>an.map (C.cq H):=⟨_,rfl⟩
   rw[<-A] at bb;have hN:Y P=ac:=by rw[A];simp[U8]
   have br:C.aK H [] ag=C.aK O0 V G:=d1 H (Up.refl _);have hH:bI W d.ty (.sl e) (.mk (.slice (U ⟨ad V i,0,Z⟩) (Y P) af) P):=by
    refine aca bb ⟨_,_,_,g1⟩ (λq u hq=> ?_) (by rw[hN];exact c4);rw[A] at hq;have bd:=ack (V:=[]) (by rw[hw]) a9 (λi an m=>by rw[<-A] at m;rw[bb.len i an m,hw]) hq;rw[br] at bd;simp[oC,g1,bd]
   have bs:IN p.ty p.S0 p.w0 e (.lit (kf (Y te.ak) ac ag)) Q H (.mk (.slice (U ⟨ad V i,0,Z⟩) (Y P) af) P):=by
    refine⟨⟨U ⟨ad V i,0,Z⟩,Y P,af,by rw[A];rfl,by rw[A];rfl⟩,λb hl=> ?_,λ_ _ _ _ h=>by cases h⟩;rw[a3] at hl⊢;generalize bf:RV.mk (.slice (U ⟨ad V i,0,Z⟩) (Y P) af) P=rv at hl;cases hl with
    |here e a0 b2 b3 bt=>
     injection bf with p1 p2;injection p1 with p3 p4 p5;cases p3;exact g2.imp id .inl
    |deep e v bt i j an c z k b g q2 q3 q4=>
     injection bf with p1 p2;subst p2;rw[A,dX] at g;cases m:(kf (Y te.ak) ac ag)[i]? with
     |none=>rw[m] at g;cases g
     |some b0=>
      rw[m] at g;simp only[eo,cS] at g;subst g;obtain⟨r,X,F,k3,k4⟩:=ace (F5 a9 i b0 m) q2 q3 q4;exact .inr (.inr (LN B k3 F k4).1)
   have hs:=h1 _ bs;refine⟨.aj (.v (Y Q)),Q++[.sl e],H.add (.r (.mk (.slice (U ⟨ad V i,0,Z⟩) (Y P) af) P)), ?_,u1.trans ⟨[_],rfl⟩, ?_, ?_,hs⟩;have a1:Y H.r=Y Q:=B.er;refine⟨⟨B.mem.base,λi y=>by simp[sR,aW,dC] at y,λi j y=>by simp[sR,aW,dC] at y,λi t G y=>by simp[sR,dC] at y,λk e' rv X F=> ?_⟩,rfl,rfl,rfl,by simp[sR,ai.add,a1],B.dO,by rw[ha];rfl,λt sv ht=>by simp[sR] at ht,λk e' rv b X=> ?_⟩;refine⟨?_,λb N i y=>by simp[sR,aW,dC] at y⟩;simp only[sR,ai.add] at X F;by_cases hk:k<Y Q;rw[dZ hk] at X;rw[dZ aa] at F;exact(B.mem.aj k e' rv X F).1;have al:k=Y Q:=by
    have:=(cj.1 X).1;simp at this;omega
   subst al;simp at X;rw[<-a1] at F;simp at F;subst X F;exact hH;exfalso;simp only[sR] at X;by_cases hk:k<Y Q;rw[dZ hk] at X;exact n1 _ _ X;have:=(cj.1 X).1;have al:k=Y Q:=by simp at this;omega
   subst al;simp at X;intro k e' X;by_cases hk:k<Y Q;rw[dZ hk] at X;exact n1 _ _ X;have:=(cj.1 X).1;have al:k=Y Q:=by simp at this;omega
   subst al;simp at X;intro f M;obtain⟨l,rfl⟩:=M;have a1:Y H.r=Y Q:=B.er;simp only[C.ab,RE.ab,RE.rv,ai.rv,ai.add,dL,KO];rw[<-a1,jd (cg _)];simp[hN];exact h1.elim;exact h.elim;exact h.elim
  |loc _ _=>exact h.elim
  |el _ _ _ _=>exact h.elim
  |b9 _=>exact h.elim
  |fn _ _=>exact h.elim
  |gF _ _=>exact h.elim
  |yl _=>exact h.elim
  |any=>exact h.elim
  |mp _=>exact h.elim
  |gz _ _ _=>exact h.elim
end
section
variable{cf:bL}
section
variable{o:aq}{q:World}{D:cF}{V:aq}{O:ai}{s:S}{a:Act}{W:World}
def adt{k:Int}:∀{R:bw}{Q:ap}{v:C},IK k R Q=U v->v.iv O V=.mk (kZ k R (C.aK O V Q)) []
 |[],_,v,h=>by simp[IK] at h
 |F::R,[],v,h=>by simp[IK] at h
 |F::R,u::Q,v,h=>by
  unfold IK at h;split at h;rename_i P N;injection P with M L;injection N with H G;subst M L H G;simp only[C.aK,kZ];split at h;rename_i X;cases h;rw[aL X];rfl;rename_i X;rw[aP X];exact adt h;rename_i P N;injection P with M L;injection N with H G;subst M L H G;simp only[C.aK,kZ];split at h;rename_i X;cases h;rw[aL X];rfl;rename_i X;rw[aP X];exact adt h;cases h
def ani{x:Int}:∀{X:bw}{R:gE},¬x∈X->kZ x X R=.nilFunc
 |[],_,_=>rfl
 |k::X,[],_=>rfl
 |k::X,v::R,h=>by
  simp only[dS,not_or] at h;simp only[kZ,aP h.1];exact ani h.2
def adu{e:K}{k:Int}(X:e.ab O=k):∀(n:Nat)(b:BE),(Pf e k n b).ab O=b.ab O
 |0,b=>rfl
 |n+1,b=>by
  unfold Pf;split;rfl;rename_i P N M x y R;cases R;split;rename_i Q;have:=K.bZ _ _ Q;subst this;simp only[BE.ab,K.ab,iM,X,du];split;exact adu X n x;exact adu X n y;rfl;rfl
def adv{e:K}{k:Int}(X:e.ab O=k):∀(n:Nat)(b:K),(Pg e k n b).ab O=b.ab O
 |0,b=>rfl
 |n+1,b=>by
  unfold Pg;split;rfl;rename_i P N M x y R;cases R;split;rename_i Q;have:=K.bZ _ _ Q;subst this;simp only[BE.ab,K.ab,iM,X,du];split;exact adv X n x;exact adv X n y;rfl;rfl
def aAn{e:K}{k:Int}(X:e.ab O=k)(v:C):(abI e k v).iv O V=v.iv O V:=by
 cases v<;>simp only[abI];simp only[C.iv,C.ab,adv X];simp only[C.iv,C.ab,adu X];rename_i P N M;split;rename_i R;have:=K.bZ _ _ R;subst this;split;rename_i v Q;rw[adt Q];simp only[C.iv,C.ab,X];rfl;rfl
def aAo{e:K}{R:bw}(Q:¬e.ab O∈R)(v:C):(UI e R v).iv O V=v.iv O V:=by
 cases v<;>simp only[UI];rename_i L P H;split;rename_i X;rw[aA] at X;have:=K.bZ _ _ X.1;subst this;have N:¬e.ab O∈P:=λM=>Q (by
  have:=f9.1 X.2 _ M;exact qH.1 this)
 simp only[C.iv,C.ab,ani N];rfl;rfl
def aAp{e:K}{v:Int}(h:e.ab O=v):∀y:C,(abJ e v y).iv O V=y.iv O V:=λy=>by
 unfold abJ;split;rename_i k x;split;rename_i X;have X:=K.bZ _ _ X;subst X;simp only[C.iv,C.ab,K.ab,h];rfl;rfl
def adw{f:C->C}:cJ (IL f b) B=U (l,w)<->∃lg,cJ b B=U (l,lg)/\w=lg.map f:=by
 rw[kA];simp only[IL,dX];constructor;intro h;cases X:b[B]? with
 |none=>rw[X] at h;cases h
 |some x=>
  rw[X] at h;cases x with
  |none=>cases h
  |some y=>
   simp only[eo,cS,FH] at h;obtain⟨rfl,rfl⟩:=h;exact⟨y.2,kA.2 X,rfl⟩
 rintro⟨lg,h,rfl⟩;rw[kA] at h;rw[h];rfl
def anj{f:C->C}:aW (IL f b) B=aW b B:=by
 rw[vx];simp only[aW,lB];constructor;rintro⟨⟨t,X⟩,h⟩;obtain⟨lg,h,-⟩:=adw.1 h;exact⟨_,h⟩;rintro⟨⟨t,X⟩,h⟩;exact⟨_,adw.2 ⟨X,h,rfl⟩⟩
def aE.fix(R:aE o q D cf.ty V O s a W){f:C->C}(H:∀v,(f v).iv O V=v.iv O V):aE o q D cf.ty V O (s.fix f) a W:=by
 have Q:∀j,aW (s.fix f).ao j=aW s.ao j:=λj=>anj
 refine⟨⟨R.mem.base,λj X=>R.mem.own j (by rw[<-Q];exact X),λj k X G=>R.mem.inj j k (by rw[<-Q];exact X) (by rw[<-Q];exact G),λj t w L=> ?_,λk e P N M=>⟨(R.mem.aj k e P N M).1,λb L j X=>(R.mem.aj k e P N M).2 b L j (by rw[<-Q];exact X)⟩⟩,by rw[R.gX];simp[S.fix,IL],R.ei,R.eb,R.er,R.dO,R.size,R.tmps,λk e P b F B A=> ?_⟩;obtain⟨lg,h,rfl⟩:=adw.1 L;have:C.dN O V (lg.map f)=C.dN O V lg:=by
  simp only[C.dN,pn];exact kJ λv _=>H v
 rw[this];exact R.mem.box j t lg h;obtain⟨N,M,z,y,x⟩:=R.gH k e P b F B A;exact⟨N,M,λj X=>z j (by rw[<-Q];exact X),y,x⟩
def adx(f:C->C):bS s O V (s.fix f) O V:=⟨oe.refl _ _ _,λi h=>by rw[show aW (s.fix f).ao i=aW s.ao i from anj];exact h,by simp[S.fix,IL],cg _⟩
def aE.aAq(R:aE o q D cf.ty V O s a W){k:IntKind}{e:K}{v:Int}(Q:s.tmps.getD B .any=.int k e)(N:e.ab O=v):aE o q D cf.ty V O {s with tmps:=s.tmps.set B (.int k (.c v))} a W:=by
 refine⟨R.mem,R.gX,R.ei,R.eb,R.er,R.dO,by simpa using R.size,λi M h=> ?_,R.gH⟩;simp only[wU] at h;split at h;rename_i L;subst L;split at h;rename_i P;cases h;have H:s.tmps[B]?=U (.int k e):=by
  rw[dL,cL P] at Q;rw[cL P];simpa using Q
 rcases R.tmps B _ H with X|X;cases X;right;rw[X];simp only[C.ab,K.ab,N];cases h;exact R.tmps i M h
def VR{p:Sp}{L:dP}{e:K}{gA:Int->S}{aS:T}{g:S->T}:∀{X:bw},(Ll e gA aS g X).ba p O L->(∃k∈X,e.ab O=k/\(g (gA k)).ba p O L)\/(¬e.ab O∈X/\aS.ba p O L)
 |[],h=>.inr ⟨aw,h⟩
 |k::X,h=>by
  simp only[Ll,T.ba] at h;by_cases R:e.ab O=k;exact .inl ⟨k,aw,R,h.1 (by simp[BE.ab,K.ab,iM,R])⟩;rcases VR (h.2 (by simp[BE.ab,K.ab,iM,R])) with⟨N,Q,P⟩|⟨Q,P⟩;exact .inl ⟨N,by simp[Q],P⟩;exact .inr ⟨by simp[R,Q],P⟩
def aAr{p:Sp}(R:aE o q D cf.ty V O s a W){id:Nat}{e:K}{G:bw}{gA:Int->S}{aS:Option S}(Q:UJ cf B id s=U (e,G,gA,aS)){g:S->T}(h:(Ll e gA (abK g aS) g G).ba p O k):
  ∃H,bS s O V H O V/\H.aC=s.aC/\aE o q D cf.ty V O H a W/\(g H).ba p O k:=by
 unfold UJ at Q;split at Q;split at Q;cases Q;rcases VR h with⟨X,N,P,M⟩|⟨N,P⟩;exact⟨_,adx _,rfl,R.fix (aAn P),M⟩;split at P;exact⟨_,adx _,rfl,R.fix (aAo N),P⟩;exact P.elim;cases Q;split at Q;cases Q;rename_i X A z F;cases Q;rw[yw] at F;rcases VR h with⟨X,N,P,M⟩|⟨N,P⟩;refine⟨_, ?_, ?_,R.aAq F P,M⟩;exact⟨oe.refl _ _ _,λ_ h=>h,cg _,cg _⟩;rfl;exact P.elim;cases Q;split at Q;split at Q;cases Q;cases Q;rcases VR h with⟨X,N,P,M⟩|⟨N,P⟩;exact⟨_,adx _,rfl,R.fix (aAp P),M⟩;exact P.elim;cases Q;cases Q;cases Q
end
def VS:∀(n:Nat)(p:Sp)(_:mq p cf),Ar p cf n/\VH p cf n
 |0,p,ok=>⟨λD B yh ro ag c s k L O V a W Q _ _ _ _ _ h=>h.elim,λD B yh ro ag c s k L O V a W Q _ _ _ _ _ _ h=>h.elim⟩
 |n+1,p,ok=>by
  have b8:=(VS n p ok).2;have ih:=(VS n p ok).1;have ca:∀p':Sp,p'.P=p.P->mq p' cf->Ar p' cf n:=λp' _ cc=>(VS n p' cc).1
  have b2:=azS ih b8;refine⟨?_,b2⟩;intro D B yh ro ag c s k L O V a W Q hY hB al a4 a0 h R hg HP u;have a9:∀e F,dI s.aC L F->(k e s).ba p O F->Q (e.to O V) a W:=λe F w A=>u e s O V a W F (bS.refl _ _ _) w R A
  have h0:=h;unfold gq at h;split at h;exact Ei (n:=0) (wpIn_skip (a9 .normal L (dI.refl _ _) h));exact Ei (n:=0) (wpIn_label (a9 .normal L (dI.refl _ _) h));exact Ei (n:=0) (wpIn_ret (a9 .ret L (dI.refl _ _) h));rename_i id;exact Ei (n:=0) (wpIn_exit (a9 (.exit id) L (dI.refl _ _) h))
  
  rename_i x y;have bb:ro.isSome=J->kz x=false:=λhr=>by have:=a4 hr;simp only[kz,wT] at this;exact this.1
  have bd:ro.isSome=J->kz y=false:=λhr=>by have:=a4 hr;simp only[kz,wT] at this;exact this.2
  refine ada (ih D B yh ro ag x s _ L O V a W _ hY hB al bb a0 h R hg (λch H G pd y hd hR=>HP ch H G pd y hd hR) ?_);intro e r O' V' H G F M w d A;cases e with
  |normal=>exact ih D B yh ro ag y r k F O' V' H G Q hY (hB.go M w) al bd a0 A d (hg.ext M.ext) HP (λe2 s2 O2 V2 a2 W2 L2 af a3 R2 ac=>u e2 s2 O2 V2 a2 W2 L2 (M.trans af) (w.trans a3 M.aC) R2 ac)
  |ret=>exact u .ret r O' V' H G F M w d A
  |exit id=>exact u (.exit id) r O' V' H G F M w d A
  |bD v=>exact u (.bD v) r O' V' H G F M w d A
  
  rename_i id x;refine azG (ih D B yh ro ag x s _ L O V a W _ hY hB al (λhr=>by have:=a4 hr;simpa only[kz] using this) a0 h R hg (λch H G pd y hd hR=>HP ch H G pd y hd hR) ?_);intro e r O' V' H G F M w d A;cases e with
  |normal=>exact u .normal r O' V' H G F M w d A
  |ret=>exact u .ret r O' V' H G F M w d A
  |exit j=>
   simp only[aby] at A;split at A;rename_i hj;have bg:j=id:=by simpa using hj
   subst bg;simp only[XE.to,Exit.inBlock,cN];exact u .normal r O' V' H G F M w d A;rename_i hj;have bg:¬j=id:=by simpa using hj
   simp only[XE.to,Exit.inBlock,bg,gD];exact u (.exit j) r O' V' H G F M w d A
  |bD v=>exact u (.bD v) r O' V' H G F M w d A
  
  rename_i x;refine azH (ih D B yh ro ag x s _ L O V a W _ hY hB al (λhr=>by have:=a4 hr;simpa only[kz] using this) a0 h R hg (λch H G pd y hd hR=>⟨λl h=>by(cases h),HP ch H G pd y hd hR⟩) ?_);intro e r O' V' H G F M w d A;exact⟨λl h=>(by cases e<;>cases h),u e r O' V' H G F M w d A⟩
  
  rename_i x y z;have bd:ro.isSome=J->kz y=false:=λhr=>by have:=a4 hr;simp only[kz,wT] at this;exact this.1
  have b3:ro.isSome=J->kz z=false:=λhr=>by have:=a4 hr;simp only[kz,wT] at this;exact this.2
  split at h;rename_i hc;have he:=dw R hg x (by rw[hc];rfl);rw[hc] at he;exact VE (t:=J) (by simpa[C.ab,BE.ab] using he) (ih D B yh ro ag y s k L O V a W Q hY hB al bd a0 h R hg HP u);rename_i hc;have he:=dw R hg x (by rw[hc];rfl);rw[hc] at he;exact VE (t:=E) (by simpa[C.ab,BE.ab] using he) (ih D B yh ro ag z s k L O V a W Q hY hB al b3 a0 h R hg HP u);rename_i b dz dT hc;have he:=dw R hg x (by rw[hc];rfl);rw[hc] at he;split at h;rename_i t;simp only[S.ev,yw] at hc;simp only[T.ba] at h;have b4:∀v,B.sU {s with tmps:=s.tmps.set t v} O V L:=λv=>⟨⟨hB.later.ext,hB.later.mono,hB.later.len,hB.later.aC⟩,hB.Vj⟩
  cases hv:b.ab O;refine VE (t:=E) (by simpa[C.ab,hv] using he) (ih D B yh ro ag z _ k L O V a W Q hY (b4 _) al b3 a0 (h.2 hv) (R.amd hc hv) hg HP ?_);exact λe2 s2 O2 V2 a2 W2 L2 af a3 R2 ac=>u e2 s2 O2 V2 a2 W2 L2 ⟨af.ext,af.mono,af.len,af.aC⟩ a3 R2 ac
  refine VE (t:=J) (by simpa[C.ab,hv] using he) (ih D B yh ro ag y _ k L O V a W Q hY (b4 _) al bd a0 (h.1 hv) (R.amd hc hv) hg HP ?_);exact λe2 s2 O2 V2 a2 W2 L2 af a3 R2 ac=>u e2 s2 O2 V2 a2 W2 L2 ⟨af.ext,af.mono,af.len,af.aC⟩ a3 R2 ac
  exact h.elim;exact h.elim
  
  rename_i id bk cl;split at h;rename_i e ks gA aS hf;obtain⟨r,M,bl,d,h'⟩:=aAr R hf h;exact ih D B yh ro ag _ r k L O V a W Q hY (hB.go M (dI.refl _ _)) al a4 a0 h' d hg HP (λe2 s2 O2 V2 a2 W2 L2 af a3 R2 ac=>u e2 s2 O2 V2 a2 W2 L2 (M.trans af) (bl▸a3) R2 ac);refine Ei (n:=0) ?_;split at h;rename_i hd;subst hd;split at h;rename_i c br;exact ang (Eh ro) ok ih hY HP hB br h R hg (λr O' V' H G F M w d A=>u .normal r O' V' H G F M w d A) (λv r O' V' H G F M w d A=>u (.bD v) r O' V' H G F M w d A);split at h;rename_i om cn;split at h;exact h.elim;rename_i cp;exact azR (Eh ro) ok (az0 ca ok) hY HP hB cn (by simpa using cp) (azZ _ _ _) h R hg (λr O' V' H G F M w d A=>u .normal r O' V' H G F M w d A) (λv r O' V' H G F M w d A=>u (.bD v) r O' V' H G F M w d A);split at h;rename_i c br;exact ang (Eh ro) ok ih hY HP hB br h R hg (λr O' V' H G F M w d A=>u .normal r O' V' H G F M w d A) (λv r O' V' H G F M w d A=>u (.bD v) r O' V' H G F M w d A);exact h.elim;rename_i hd;have cs:cl=false:=by simpa using hd
  subst cs;obtain⟨Rr,bs⟩:=R.room (nF bk.toList);refine wpIn_region ?_;have:=D4 (ops:=bk) ok.pt ok.BR (Eh ro) ok.mN (azT _ ok (VI ok ih hY)) HP (n:=0) (iG (λ_=>E) J E 0 (Y s.ao) bk.toList) 0 _ [] L O _ a W (λi m' hi=>by have:=P6 _ _ _ _ _ _ _ _ hi;simpa using this) (hB.go bs (dI.refl _ _)) h (λx hx=>by cases hx) Rr hg
   (λr O' V' H G F M w d A=>u .normal r O' V' H G F (bs.trans M) w d A)
   (λv r O' V' H G F M w d A=>u (.bD v) r O' V' H G F (bs.trans M) w d A)
  rw[adg] at this;simpa[aaY] using this
  
  rename_i x;have bb:ro.isSome=J->kz x=false:=λhr=>by have:=a4 hr;simpa only[kz] using this
  split at h;rename_i bt d0;split at h;have M:bS s O V (s.dj bt) O V:=⟨(bS.refl s O V).ext,λi hi=>hi,cg _,cg _⟩;exact ih D B yh ro ag _ (s.dj bt) k L O V a W Q hY (hB.go M (dI.refl _ _)) al a4 a0 h (R.nN (Pv _ _)) hg HP (λe2 s2 O2 V2 a2 W2 L2 af a3 R2 ac=>u e2 s2 O2 V2 a2 W2 L2 (M.trans af) a3 R2 ac);obtain⟨an,ct⟩:∃an,an=bt.at s:=⟨_,rfl⟩;rw[<-ct] at h;split at h;exact h.elim;rename_i hc;simp only[jy,iK,not_or,H5] at hc;obtain⟨⟨⟨⟨⟨cT,cv⟩,cx⟩,cy⟩,cA⟩,cB⟩:=hc;simp only[T.ba] at h;obtain⟨X,μ,cC,cD⟩:=h;refine azI (λN a1 W1=>∃s1 O1 V1,bS s O V s1 O1 V1/\aE p.S0 p.w0 D cf.ty V1 O1 s1 a1 W1/\z7 an (Code.pu x) 0 s.tmps s1.tmps=J/\uk an 0 s.ao s1.ao=J/\ul s1 an.ks (kW an s1)=J/\z6 (jV an s) s1.rs=J/\Iy (jV an s) (Ix an s1)=J/\s1.pd=s.pd/\X ((kW an s1).map (C.xv O1))/\μ ((kW an s1).map (C.xv O1))=N)
   (μ ((kW an s).map (C.xv O))) ⟨s,O,V,bS.refl _ _ _,R,cx,cy,cv,cA,cB,rfl,cC,rfl⟩ ?_
  rintro N a1 W1 ⟨s1,O1,V1,qU,R1,hT,cI,b5,cO,cR,cW,hI,rfl⟩;have RH:=aE.head (ty:=cf.ty) cT R.ei R.eb R.er qU R1 hT cI b5 cO cR cW;have c0:=cD _ (acL (O1:=O1) b5) hI;have bl:(rP an (Code.pu x) s).aC=s.aC+1:=(yP an.ks {s with aC:=s.aC+1,rs:=jV an s}).2.2.1;have bx:bS s O V (rP an (Code.pu x) s) (O.ext ((kW an s1).map (C.xv O1))) (V1.take (Y s.ao)):=by
   obtain⟨e1,e2,e3,e4⟩:=yP an.ks {s with aC:=s.aC+1,rs:=jV an s};have hE:=DW s.ao O ((kW an s1).map (C.xv O1)) V;refine⟨⟨hE.agree,hE.li,hE.lb,hE.lr,λk b6=> ?_⟩,λi hi=> ?_,by simp[rP,Vs], ?_⟩;have b0:k<Y s.ao:=by
    obtain⟨b,hb⟩:=lB.1 b6;exact(cj.1 (kA.1 hb)).1
   rw[D5 b0];exact qU.ext.ad k b6;unfold aW at hi⊢;simp only[rP];rw[PQ];simpa using hi;simp only[rP];rw[e3];exact Nat.le_succ _
  have c7:∀m,dI s.aC L (⟨s.aC,X,μ,m⟩::L):=λm l b0=>by
   simp only[oJ];rw[aP aa]
  refine ih D B yh ro ag x _ _ _ _ _ a1 W1 _ hY (hB.go bx (c7 _)) al bb a0 c0 RH (hg.ext bx.ext) (λch H G pd y hd hR=>HP ch H G pd y hd hR) ?_;intro e s2 O2 V2 a2 W2 L2 af a3 R2 ac;have bf:=bx.trans af;rw[bl] at a3;have b1:dI s.aC L L2:=λl b0=>by
   rw[a3 l aa];simp only[oJ];rw[aP aa]
  cases e with
  |normal=>
   simp only[UF] at ac;split at ac;rename_i b7;simp only[aA,cz] at b7;obtain⟨⟨⟨⟨⟨c1,c2⟩,c3⟩,c4⟩,c5⟩,c6⟩:=b7;have c8:oJ s.aC L2=U ⟨s.aC,X,μ,μ ((kW an s1).map (C.xv O1))⟩:=by
    rw[a3 s.aC aa];simp[oJ]
   simp only[T.ba,c8] at ac;exact⟨_,ac.2,s2,O2,V2,bf,R2,c1,c2,c3,c4,c5,c6,ac.1,rfl⟩;exact ac.elim
  |ret=>exact u .ret s2 O2 V2 a2 W2 L2 bf b1 R2 ac
  |exit id=>exact u (.exit id) s2 O2 V2 a2 W2 L2 bf b1 R2 ac
  |bD v=>exact u (.bD v) s2 O2 V2 a2 W2 L2 bf b1 R2 ac
  rename_i c9;exact amP (n+1) (b2 D B yh ro ag x s k L O V a W Q hY hB al bb a0 (λan=>c9 an) h0 R hg HP u)
  
  rename_i f ps assign body;have dc:ro=none:=by
   cases ro with
   |none=>rfl
   |some l=>have:=a4 rfl;simp[kz] at this
  subst dc;split at h;rename_i g d1 dd;split at h;rename_i c nt df;split at h;exact h.elim;rename_i hc;simp only[jy,iK,not_or,H5,ajQ] at hc;obtain⟨⟨⟨⟨dk,dn⟩,dr⟩,ds⟩,dx⟩:=hc;obtain⟨d2,dy⟩:=a0;exact aAm ok ih dy al dd df dk dn dr ds dx h R hg HP u;exact h.elim;exact h.elim;exact h.elim
variable{p:Sp}
def aAs{R:ai}{Q:aq}:∀{l P:ap},C.aK N y l=C.aK R Q P->(one l).ab N y=(one P).ab R Q
 |[],[],_=>rfl
 |[x],[X],h=>by
  have h:C.ab N y x=C.ab R Q X:=by simpa[C.aK] using h
  exact h
 |[],_::_,h=>by simp[C.aK] at h
 |_::_,[],h=>by simp[C.aK] at h
 |[_],_::_::_,h=>by simp[C.aK] at h
 |_::_::_,[_],h=>by simp[C.aK] at h
 |a::b::c,M::L::H,h=>by
  show Value.tuple (C.aK N y (a::b::c)).toArray=Value.tuple (C.aK R Q (M::L::H)).toArray;rw[h]
def ank(X:bz):Qb (X.map RK.rd):=by
 intro k e h;rw[dX] at h;cases R:X[k]? with
 |none=>rw[R] at h;cases h
 |some x=>rw[R] at h;cases x<;>simp[RK.rd] at h
def aAt{D:cF}{a:Act}(G:p.ty=cf.ty)(R:aE p.S0 p.w0 D cf.ty y N t a e)(H:(Pj cf B w t).ba p N k):p.R (.returned ((one w).ab N y)) e:=by
 unfold Pj at H;split at H;rename_i v;simp only[aA] at v;obtain⟨⟨⟨ag,al⟩,m⟩,h⟩:=v;have F:∀i,aW ([]:bK) i=J->False:=λi M=>by simp[aW,dC] at M
 have g:=R.mem.nN (VN t.rs);have f:aE p.S0 p.w0 D cf.ty [] N (sR N (t.rs.map RK.rd) t.pd) ⟨#[],a.defers⟩ e:=
  ⟨⟨R.mem.base,λi M=>(F i M).elim,λi j M=>(F i M).elim,λi X r M=>by simp[sR,dC] at M,λQ P n A c=>⟨(g.aj Q P n A c).1,λb _ i M=>(F i M).elim⟩⟩,rfl,rfl,rfl,by simp[sR,R.er],R.dO,rfl,λX sv ht=>by simp[sR] at ht,λQ P n b A=>aG A (ank _ Q P)⟩
 have cT:=R.Ag m;obtain⟨l',an,z,R3,u,_,d,h3⟩:=VQ (a:=⟨#[],a.defers⟩) (ads (bx:=t.ao) (O0:=N) (V:=y) G rfl (λi P r ac=>by
  obtain⟨x,af⟩:=Af ac;have:=R.mem.box i P r x;rw[uw af] at this;exact⟨this,R.mem.own i (by simp[aW,x]),uv cT.2 x⟩) 9) w (t.rs.map RK.rd) N _ f (Up.refl _) (ank _) (by rw[R.ei,R.eb,R.er];exact h) H
 have h4:=h3 z.y [] e (by rw[G];exact R3.mem);have h5:(one l').ab z []=(one w).ab N y:=aAs (d z (Up.refl _));rw[<-h5];exact h4;exact H N.y y _ (by rw[G];exact(R.mem.take _).nN (VN _))
def VT(X:mq p cf)(n:Nat):Ar p cf n/\VH p cf n:=VS n p X
def anl(x:mq p cf){L:Func}{c:Code}(k:p.P.funcs[v]?=U L)(hb:L.body=U c)
  (ht:Pl cf B v c L.ntmps L.results.toList w t=n)(M:n.ba p N [])(hg:fO cf.gl N)(R:aE p.S0 p.w0 cF.none cf.ty y N {t with tmps:=[]} ⟨#[],[]⟩ p.w0):
  Calls p.P v (C.aK N y w).toArray p.w0 p.R:=by
 subst ht;refine P2 k hb ?_;have RE:=R.enter w L.ntmps R.dO;refine(VT x B).1 cF.none ⟨{t with tmps:=w++eH (L.ntmps-Y w) (.b9 [])},N,y,[]⟩ j6 Z v c _ _ [] N y _ p.w0 _ (I6 _ _) (ml.here _ _ _ _) rfl (λhh=>by cases hh) ⟨L,k⟩ M RE hg ?_ ?_;intro j H u pd X hA hR;obtain⟨ac,F,q0,r,A⟩:=hA.oa;show LeavesInM Fence.wide 0 p.P L H.tmps p.R H.defers (.panicking j) u;rw[F];exact vP aw (zS.1 r).1 (λd G=>(A d (by simp[G])).1) (P5 (x.Vv j) (λd G=>(A d (by simp[G])).2) hR);intro e i h V' H u L' hl hL g M;obtain⟨ac,F,q0,r,A⟩:=g.dO.oa;have m:=g.sW F;have b:∀l,vE cf i L.results.toList=U l->(Pj cf (Y t.ao) l i).ba p h L'->LeavesInM Fence.wide 0 p.P L H.tmps p.R H.defers .returning u:=by
  intro l z M;rw[F];exact vP aw (zS.1 r).1 (λd G=>(A d (by simp[G])).1) ⟨_,PN m x.mN z,aAt x.pt m M⟩
 cases e with
 |normal=>
  simp only[UK] at M;split at M;rename_i l z;exact b l z M;exact M.elim
 |ret=>
  simp only[UK] at M;split at M;rename_i l z;exact b l z M;exact M.elim
 |bD Q=>
  show LeavesInM Fence.wide 0 p.P L H.tmps p.R H.defers (.panicking _) u;rw[F];exact vP aw (zS.1 r).1 (λd G=>(A d (by simp[G])).1) (M h.y V' _ m.mem.base)
 |exit id=>exact M.elim
end
def zEq:Value->CT->Bool
 |.int k n,.int X=>decide (k=X)&&n==0
 |.bool b,.bool=> !b
 |v,.aS z _=>Im v z
 |_,_=>E
def Ml:gE->fp->Bool
 |[],[]=>J
 |v::X,c::W=>zEq v c&&Ml X W
 |_,_=>E
def ann:∀(W:gE)(V:fp),Ml W V=J->W=V.map rU
 |[],[],_=>rfl
 |[],_::_,h=>by simp[Ml] at h
 |_::_,[],h=>by simp[Ml] at h
 |v::W,c::V,h=>by
  simp only[Ml,aA] at h;rw[eW,<-ann W V h.2];congr 1;have X:=h.1;unfold zEq at X;split at X;simp only[aA,cz,du] at X;obtain⟨rfl,rfl⟩:=X;rfl;rename_i b;cases b;rfl;cases X;exact akn _ _ X;cases X
def Mm:List Field->List (Nat×TypeId)->Bool
 |[],[]=>J
 |f::X,x::W=>f.offset==x.1&&f.type==x.2&&Mm X W
 |_,_=>E
def ano:∀(X:List Field)(W:List (Nat×TypeId)),Mm X W=J->X.map (λf=>(f.offset,f.type))=W
 |[],[],_=>rfl
 |[],_::_,h=>by simp[Mm] at h
 |_::_,[],h=>by simp[Mm] at h
 |f::X,x::W,h=>by
  simp only[Mm,aA,du] at h;rw[eW,ano X W h.2,h.1.1,h.1.2]
def ady(ak:fp):TD->Option TypeDesc->Bool
 |.struct V,U (.struct F)=>Mm F.toList V
 |.arr n e,U (.array R X)=>n==R&&e==X
 |.slice e,U (.slice X)=>e==X
 |.str,U .string=>J
 |.gF,U (.interface _)=>J
 |.map k e _ _,U (.map W X)=>k==W&&e==X
 |.one,U (.int k)=>match ak with
  |[.int W]=>decide (k=W)
  |_=>E
 |.one,U .bool=>match ak with
  |[.bool]=>J
  |_=>E
 |.one,U (.pointer _)|.one,U (.map _ _)|.one,U (.chan _ _)=>match ak with
  |[.aS .nilFunc _]=>E
  |[.aS _ _]=>J
  |_=>E
 |.one,U (.func _ _ _)=>match ak with
  |[.aS _ _]=>J
  |_=>E
 |_,_=>E
def aAu{P:Program}{ak:fp}{d:TD}(h:ady ak d (P.underlying l)=J):d.Ok P l ak:=by
 unfold ady at h;split at h;rename_i N F W;exact⟨F,W,ano _ _ h⟩;rename_i n e M R W;simp only[aA,du] at h;obtain⟨rfl,rfl⟩:=h;exact W;rename_i e R W;simp at h;subst h;exact W;rename_i W;exact W;rename_i m W;exact⟨m,W⟩;rename_i k e n L O R W;simp only[aA,du] at h;obtain⟨rfl,rfl⟩:=h;exact W;rename_i k W;split at h;rename_i O;simp at h;subst h;exact⟨_,W,⟨trivial,λk X=>(by cases X)⟩,λk X=>(by cases X;rfl),λX=>(by cases X)⟩;cases h;rename_i W;split at h;exact⟨_,W,⟨trivial,λk X=>(by cases X)⟩,λk X=>(by cases X),λX=>rfl⟩;cases h;rename_i x W;split at h;cases h;rename_i z Q V;exact⟨_,W,⟨trivial,λk X=>(V (by cases X;rfl)).elim⟩,λk X=>(by cases X),λX=>(by cases X)⟩;cases h;rename_i x y W;split at h;cases h;rename_i z Q V;exact⟨_,W,⟨trivial,λk X=>(V (by cases X;rfl)).elim⟩,λk X=>(by cases X),λX=>(by cases X)⟩;cases h;rename_i x y W;split at h;cases h;rename_i z Q V;exact⟨_,W,⟨trivial,λk X=>(V (by cases X;rfl)).elim⟩,λk X=>(by cases X),λX=>(by cases X)⟩;cases h;rename_i x y z W;split at h;exact⟨_,W,⟨trivial,λk X=>⟨_,_,_,rfl⟩⟩,λk X=>(by cases X),λX=>(by cases X)⟩;cases h;cases h
def adz(P:Program)(t:TypeId)(X:TI):Bool:=
 match P.info? t with
 |U i=>match i.zero with
  |U z=>decide (i.bytes<=131072)&&i.size==Y X.ak&&Ml z.cells.toList X.ak&&ady X.ak X.d (P.underlying t)&&(UO z==X.d.isAgg)
  |none=>E
 |none=>E
def aAv{P:Program}{X:TI}(h:adz P l X=J)(L:X.eq=J->∀(W V:gE)(r:Bool)(x y:Operand)(w:World),lF X.ak W->lF X.ak V->kB W V=U r->
  (do eqGuard .eql l x y (.agg W.toArray) (.agg V.toArray);binOp .eql l (.agg W.toArray) (.agg V.toArray)).run P w=.ok (.bool r) w/\
  (do eqGuard .neq l x y (.agg W.toArray) (.agg V.toArray);binOp .neq l (.agg W.toArray) (.agg V.toArray)).run P w=.ok (.bool !r) w)(H:∀k e n O,X.d=.map k e n O->vL P k n O):fu P l X:=by
 unfold adz at h;split at h;rename_i i Q;split at h;rename_i z N;simp only[aA,du,cz] at h;obtain⟨h,G⟩:=h;exact⟨⟨i,Q,h.1.1.2,z,N,ann _ _ h.1.2⟩,aAu h.2,λj R=>(by rw[Q] at R;cases R;exact h.1.1.1),L,H,λj F R M=>(by rw[Q] at R;cases R;rw[N] at M;cases M;exact G)⟩;cases h;cases h
def anp{X:Type}(l:List (Option X))(i:Nat):Option X:=zV (motive:=λ_=>Nat->Option X) (λ_=>Z) (λx _ W t=>Ib (motive:=λ_=>Option X) x (λm _=>W m) t) l i
def adA{X:Type}(l:List (List X))(i:Nat):List X:=zV (motive:=λ_=>Nat->List X) (λ_=>[]) (λx _ W t=>Ib (motive:=λ_=>List X) x (λm _=>W m) t) l i
def look{X:Type}(l:List (List (Option X)))(t:Nat):Option X:=anp (adA l (t/16)) (t%16)
def anq{X:Type}{x:X}:∀{l:List (Option X)}{i:Nat},anp l i=U x->l[i]?=U (U x)
 |[],_,h=>by cases h
 |y::_,0,h=>by simp only[Ds];exact ku U h
 |_::l,i+1,h=>by rw[ud];exact anq (l:=l) h
def anr{X:Type}:∀(l:List (List X))(i:Nat),l[i]?=U (adA l i)\/adA l i=[]
 |[],_=>.inr rfl
 |_::_,0=>.inl rfl
 |_::l,i+1=>by rw[ud];exact anr l i
def I7{W:Type}(X:Nat->W->Bool):Nat->List (Option W)->Bool
 |_,[]=>J
 |n,Z::r=>I7 X (n+1) r
 |n,U x::r=>X n x&&I7 X (n+1) r
def Gg{X:Type}(W:Nat->X->Bool):Nat->List (List (Option X))->Bool
 |_,[]=>J
 |n,r::V=>I7 W n r&&Gg W (n+16) V
def adB{W:Type}{V:Nat->W->Bool}:∀{r:List (Option W)}{n i:Nat}{x:W},I7 V n r=J->r[i]?=U (U x)->V (n+i) x=J
 |[],n,i,x,_,h=>by simp at h
 |Z::r,n,0,x,_,h=>by simp at h
 |Z::r,n,i+1,x,X,h=>by
  simp only[I7] at X;have:=adB X (by simpa using h)
  rwa [show n+1+i=n+(i+1) from aa] at this
 |U y::r,n,0,x,X,h=>by simp[I7] at X;simp at h;subst h;exact X.1
 |U y::r,n,i+1,x,X,h=>by
  simp only[I7,aA] at X;have:=adB X.2 (by simpa using h)
  rwa [show n+1+i=n+(i+1) from aa] at this
def ans{W:Type}{R:Nat->W->Bool}:∀{l:List (List (Option W))}{n q i:Nat}{r:List (Option W)}{x:W},Gg R n l=J->l[q]?=U r->r[i]?=U (U x)->R (n+16*q+i) x=J
 |[],n,q,i,r,x,_,h,_=>by simp at h
 |y::l,n,0,i,r,x,X,h,V=>by simp only[Gg,aA] at X;simp at h;subst h;simpa using adB X.1 V
 |y::l,n,q+1,i,r,x,X,h,V=>by
  simp only[Gg,aA] at X;have:=ans X.2 (by simpa using h) V
  rwa [show n+16+16*q+i=n+16*(q+1)+i from aa] at this
def ant{X:Type}{R:Nat->X->Bool}{l:List (List (Option X))}(h:Gg R 0 l=J){x:X}(Q:look l B=U x):R B x=true:=by
 have W:=anq Q;rcases anr l (B/16) with V|V;have:=ans h V W
 rwa [jz,ajS] at this
 rw[V] at W;simp at W
def adC(P:Program)(l:aq)(g:FuncId):Option (Code×Nat×sJ):=if l.contains g then(match P.funcs[g]? with
 |U X=>match X.body with
  |U c=>U (c,X.ntmps,X.results.toList)
  |none=>Z
 |none=>Z) else Z
def xu(P:Program)(g:Nat):Bool:=match P.funcs[g]? with
 |U X=>X.body.isSome&& !(X.name== "runtime.NumGoroutine")
 |none=>E
def yR{P:Program}(h:xu P B=J):∀X W,(callFunc B X).run P W=.ok (.enter B X) W:=by
 unfold xu at h;split at h;rename_i V R;simp only[aA,iK] at h;intro X W;have Q:V.name≠ "runtime.NumGoroutine":=by simpa using h.2
 obtain⟨c,O⟩:=lB.1 h.1;simp[callFunc,R,Q,O];cases h
def aAw(X:Dx)(f i:Nat):Option FK:=match X.find? (λx=>x.1==f&&(x.2%1000==i&&decide (1000<=x.2))) with
 |U x=>if x.2/1000==1 then U .box else if x.2/1000<100 then U (.slot (x.2/1000-2) [0,1,2,3]) else if x.2/1000<200 then U (.slot (x.2/1000-102) [0,1,2,3,4]) else U (.cell ((x.2/1000-200)/20) ((x.2/1000-200)%20) [1,2,3,4,5,6,7,8,9])
 |none=>Z
def qX(P:Program)(mN:List (List gV))(W:List (List j5))(V:nD)(R:aq)(loops:List (Nat×Nat×fU))(Q:BL)(nZ:Bool:=E)(X:Dx:=[]):bL:=
 {ty:=look mN,gl:=V,inl:=adC P R,sig:=look W,loop:=λf i=>match loops.find? (λx=>x.1==f&&x.2.1==i) with
  |U x=>.inv x.2.2
  |none=>.axx,BR:=λf g=>(Q.find? λx=>x.1==f&&x.2.1==g).map (·.2.2),nZ:=nZ,OU:=λf i=>X.contains (f,i),frk:=λf i=>aAw X f i}
def VU{P:Program}{mN:List (List gV)}{H:List (List j5)}{F:nD}{loops:List (Nat×Nat×fU)}{N:BL}{nZ:Bool}{B:Dx}{A:aq}{D:cF}{R:Ending->World->Prop}{Q:Exit->Act->World->Prop}
  (z:jW P (look mN))(w:Gg (λg _=>xu P g) 0 H=J)(v:y.all (xu P)=J)(u:P.follows .mixedOrders=J)(t:∀G W b o,e.heap.size<=b->R (.panicked G) W->R (.panicked G) (W.putObj b o))(s:∀x∈N,mM P (look mN) x.1 x.2.1 x.2.2.1 x.2.2.2.1 x.2.2.2.2):mq ⟨P,look mN,A,e,D,R,Q⟩ (qX P mN H F y loops N nZ B):=by
 refine⟨rfl,u,z,λf g X m l h=> ?_,λg O=> ?_,t,λg c k j h=> ?_⟩;simp only[qX] at h;cases V:N.find? (λx=>x.1==f&&x.2.1==g) with
 |none=>rw[V] at h;cases h
 |some x=>
  rw[V] at h;simp only[eo,cS] at h;have M:=aa7 V;simp only[aA,du] at M;have:=s x (aaU V);rw[M.1,M.2,h] at this;exact this
 rcases O with O|O;obtain⟨i,r⟩:=lB.1 O;exact yR (ant w r);obtain⟨x,L⟩:=lB.1 O;simp only[qX,adC] at L;split at L;rename_i q;exact yR (f9.1 v g (qH.1 q));cases L;simp only[qX,adC] at h;split at h;split at h;rename_i p V;split at h;rename_i d n;cases h;exact⟨p,V,n,rfl,rfl⟩;cases h;cases h;cases h
section
inductive dD:RV->RV->Prop where
 |sl (A A':Option Addr) (len cap cap':Nat) (rows aJ:List (List RV)) (h1:Y rows=Y aJ) (h2:∀(i:Nat)(row row':List RV),rows[i]?=U row->aJ[i]?=U row'->Y row=Y row')
   (h3:∀(i j:Nat)(row row':List RV)(c c':RV),rows[i]?=U row->aJ[i]?=U row'->row[j]?=U c->row'[j]?=U c'->dD c c'):dD (.mk (.slice A len cap) rows) (.mk (.slice A' len cap') aJ)
 |val (v:Value) (rows:List (List RV)) (h:∀a l c,v≠ .slice a l c):dD (.mk v rows) (.mk v rows)
def Mn:XV->XV->Prop
 |.i n,.i m=>n=m
 |.b x,.b y=>x=y
 |.r v,.r w=>dD v w
 |_,_=>False
def Cj:bn->bn->Prop
 |[],[]=>True
 |x::X,y::W=>Mn x y/\Cj X W
 |_,_=>False
structure lI(O O':ai):Prop where
 i:O.i=O'.i
 b:O.b=O'.b
 len:Y O.r=Y O'.r
 r:∀(k:Nat)(v v':RV),O.r[k]?=U v->O'.r[k]?=U v'->dD v v'
def dD.refl:∀(v:RV),dD v v
 |.mk v V=>by
  by_cases h:∃a l c,v=.slice a l c;obtain⟨a,l,c,rfl⟩:=h;refine dD.sl a a l c c V V rfl (λi P O W X=>by rw[W] at X;cases X;rfl) (λi j P O x M W X R Q=> ?_);rw[W] at X;cases X;rw[R] at Q;cases Q;exact dD.refl x;exact dD.val v V (λa l c N=>h ⟨a,l,c,N⟩)
termination_by v=>SizeOf.sizeOf v
decreasing_by
 have L:=aKB (ki W);have H:=aKB (ki R);simp only[RV.mk.sizeOf_spec];omega
def dD.default:dD default default:=dD.refl _
def lI.rv{O X:ai}(h:lI O X)(k:Nat):dD (O.rv k) (X.rv k):=by
 unfold ai.rv;simp only[dL];cases W:O.r[k]? with
 |none=>
  have:X.r[k]?=none:=by rw[Dr] at W⊢;have:=h.len;omega
  rw[this];exact dD.default
 |some v=>
  cases V:X.r[k]? with
  |none=>rw[Dr] at V;have:=(cj.1 W).1;have:=h.len;omega
  |some R=>exact h.r k v R W V
def dD.aZ{v N:RV}(h:dD v N)(i:Int)(j:Nat):dD (Y.aZ v.ae i j) (Y.aZ N.ae i j):=by
 cases h with
 |sl A G F D B R aJ z L H=>
  simp only[Y.aZ,RV.nK,dL];cases W:R[i.toNat]? with
  |none=>
   have:aJ[i.toNat]?=none:=by rw[Dr] at W⊢;omega
   rw[this];exact dD.default
  |some V=>
   obtain⟨X,Q⟩:∃X,aJ[i.toNat]?=U X:=by
    have:i.toNat<Y R:=(cj.1 W).1;exact⟨aJ[i.toNat],cL aa⟩
   rw[Q];simp only[pZ];have y:=L _ V X W Q;cases P:V[j]? with
   |none=>
    have:X[j]?=none:=by rw[Dr] at P⊢;omega
    rw[this];exact dD.default
   |some c=>
    obtain⟨O,M⟩:∃O,X[j]?=U O:=by
     have:j<Y V:=(cj.1 P).1;exact⟨X[j],cL aa⟩
    rw[M];exact H _ j V X c O W Q P M
 |val v R x=>exact dD.refl _
def dD.bp{v X:RV}(h:dD v X):Y.bp v.val=Y.bp X.val/\Y.fW v.val=Y.fW X.val/\lenOf v.val=lenOf X.val/\(∀i,kY v.val i=kY X.val i)/\(∀w,uq v.val w=uq X.val w)/\∀w,uq w v.val=uq w X.val:=by
 cases h with
 |sl A V R Q P W aJ=>exact⟨rfl,rfl,rfl,λ_=>rfl,λ_=>rfl,λw=>by cases w<;>rfl⟩
 |val v W O=>exact⟨rfl,rfl,rfl,λ_=>rfl,λ_=>rfl,λ_=>rfl⟩
def dD.db{v M:RV}(h:dD v M)(k:RK):dD (Y.db k v) (Y.db k M):=by
 cases h with
 |sl A X W V R Q aJ P O N=>
  cases k with
  |sl e=>exact dD.sl A X W V R Q aJ P O N
  |str=>exact dD.refl _
  |aS=>exact dD.sl A X W V R [] [] rfl (λi L H q=>by simp at q) (λi j L H c G q=>by simp at q)
  |own e=>exact dD.sl A X W V R Q aJ P O N
  |am=>exact dD.sl A X W V R Q aJ P O N
  |mr F=>exact dD.sl A X W V R Q aJ P O N
 |val v Q D=>exact dD.refl _
structure gh(rows aJ:ar):Prop where
 len:Y rows=Y aJ
 row:∀(i:Nat)(row row':aM),rows[i]?=U row->aJ[i]?=U row'->Y row=Y row'
 cell:∀(i j:Nat)(row row':aM)(c c':RV),rows[i]?=U row->aJ[i]?=U row'->row[j]?=U c->row'[j]?=U c'->dD c c'
def dD.Mo{v R:RV}(h:dD v R):gh v.ae R.ae:=by
 cases h with
 |sl A M L H G P aJ W X V=>exact⟨W,X,V⟩
 |val v P F=>exact⟨rfl,λi O N W X=>by rw[W] at X;cases X;rfl,λi j O N c D W X V Q=>by rw[W] at X;cases X;rw[V] at Q;cases Q;exact dD.refl _⟩
def oL(X W:aM):Prop:=Y X=Y W/\∀(j:Nat)(c V:RV),X[j]?=U c->W[j]?=U V->dD c V
def gh.cons{r X:aM}{O N:ar}(h:gh (r::O) (X::N)):oL r X/\gh O N:=
 ⟨⟨h.row 0 r X rfl rfl,λj c W=>h.cell 0 j r X c W rfl rfl⟩,by simpa using h.len,λi V R Q P=>h.row (i+1) V R (by simpa using Q) (by simpa using P),λi j V R c W Q P=>h.cell (i+1) j V R c W (by simpa using Q) (by simpa using P)⟩
def gh.Gh{r Q:aM}{P O:ar}(h:oL r Q)(k:gh P O):gh (r::P) (Q::O):=by
 refine⟨by simp[k.len],λi V R X W=> ?_,λi j V R c N X W=> ?_⟩;cases i with
 |zero=>simp at X W;subst X W;exact h.1
 |succ i=>exact k.row i V R (by simpa using X) (by simpa using W)
 cases i with
 |zero=>simp at X W;subst X W;exact h.2 j c N
 |succ i=>exact k.cell i j V R c N (by simpa using X) (by simpa using W)
def oL.getD{W X:aM}(h:oL W X)(j:Nat):dD (W.getD j Inhabited.default) (X.getD j Inhabited.default):=by
 simp only[dL];cases V:W[j]? with
 |none=>
  have:X[j]?=none:=by rw[Dr] at V⊢;have:=h.1;omega
  rw[this];exact dD.refl _
 |some c=>
  obtain⟨R,Q⟩:∃R,X[j]?=U R:=by
   have:j<Y W:=(cj.1 V).1;exact⟨X[j]'(by have:=h.1;omega),cL _⟩
  rw[Q];exact h.2 j c R V Q
def oL.ints{W X:aM}(h:oL W X)(n:Nat):(W.take n).map (λc=>Y.bp c.val)=(X.take n).map λc=>Y.bp c.val:=by
 apply kK;intro j;simp only[dX,nA];split;cases V:W[j]? with
 |none=>
  have:X[j]?=none:=by rw[Dr] at V⊢;have:=h.1;omega
  rw[this]
 |some c=>
  obtain⟨R,Q⟩:∃R,X[j]?=U R:=by
   have:j<Y W:=(cj.1 V).1;exact⟨X[j]'(by have:=h.1;omega),cL _⟩
  rw[Q];simp only[eo,(h.2 j c R V Q).bp.1]
 rfl
def oL.lD{X W:aM}(h:oL X W)(n:Nat)(V:bw):Y.lD n V X=Y.lD n V W:=by
 simp only[Y.lD,h.ints n]
def VV{n:Nat}{ks:bw}:∀{X aJ:ar},gh X aJ->(jq n ks X=Z/\jq n ks aJ=Z)\/∃W V,jq n ks X=U W/\jq n ks aJ=U V/\oL W V
 |[],[],_=>.inl ⟨rfl,rfl⟩
 |[],_::_,h=>by have:=h.len;simp at this
 |_::_,[],h=>by have:=h.len;simp at this
 |r::O,Q::N,h=>by
  obtain⟨R,P⟩:=h.cons;simp only[jq,KP,<-R.lD n ks];cases Y.lD n ks r with
  |true=>exact .inr ⟨r,Q,rfl,rfl,R⟩
  |false=>exact VV P
def anu{n:Nat}{X W:aM}(h:oL X W):∀{V aJ:ar},gh V aJ->gh (gO n X V) (gO n W aJ)
 |[],[],k=>gh.Gh h k
 |[],_::_,k=>by have:=k.len;simp at this
 |_::_,[],k=>by have:=k.len;simp at this
 |r::P,O::N,k=>by
  obtain⟨R,Q⟩:=k.cons;simp only[gO,h.ints n,<-R.lD n];split;exact gh.Gh h Q;exact gh.Gh R (anu h Q)
mutual
def K.dJ{O X:ai}(h:lI O X):∀e:K,e.ab O=e.ab X
 |.c n=>rfl
 |.v k=>by simp only[K.ab,h.i]
 |.bin o k a b=>by simp only[K.ab,K.dJ h a,K.dJ h b]
 |.conv k a=>by simp only[K.ab,K.dJ h a]
 |.len r=>by simp only[K.ab];exact(RE.dJ h r).bp.2.2.1
 |.mm m a b=>by simp only[K.ab,K.dJ h a,K.dJ h b]
 |.dV b x y=>by simp only[K.ab,BE.dJ h b,K.dJ h x,K.dJ h y]
 |.cell r i j=>by simp only[K.ab,K.dJ h i];exact((RE.dJ h r).aZ _ j).bp.1
 |.nX r i=>by simp only[K.ab,K.dJ h i];exact(RE.dJ h r).bp.2.2.2.1 _
 |.look r n a b c j=>by
  simp only[K.ab,K.dJ h a,K.dJ h b,K.dJ h c];rcases VV (n:=n) (ks:=[a.ab X,b.ab X,c.ab X]) (RE.dJ h r).Mo with⟨W,V⟩|⟨Q,P,W,V,R⟩;rw[W,V];rw[W,V];exact(R.getD j).bp.1
def BE.dJ{O X:ai}(h:lI O X):∀e:BE,e.ab O=e.ab X
 |.c n=>rfl
 |.v k=>by simp only[BE.ab,h.b]
 |.cmp o a b=>by simp only[BE.ab,K.dJ h a,K.dJ h b]
 |.not a=>by simp only[BE.ab,BE.dJ h a]
 |.and a b=>by simp only[BE.ab,BE.dJ h a,BE.dJ h b]
 |.beq a b=>by simp only[BE.ab,BE.dJ h a,BE.dJ h b]
 |.dV b x y=>by simp only[BE.ab,BE.dJ h b,BE.dJ h x,BE.dJ h y]
 |.cell r i j=>by simp only[BE.ab,K.dJ h i];exact((RE.dJ h r).aZ _ j).bp.2.1
 |.seq a b=>by simp only[BE.ab];rw[(RE.dJ h a).bp.2.2.2.2.1,(RE.dJ h b).bp.2.2.2.2.2]
 |.look r n a b c j=>by
  simp only[BE.ab,K.dJ h a,K.dJ h b,K.dJ h c];rcases VV (n:=n) (ks:=[a.ab X,b.ab X,c.ab X]) (RE.dJ h r).Mo with⟨W,V⟩|⟨Q,P,W,V,R⟩;rw[W,V];rw[W,V];exact(R.getD j).bp.2.1
 |.has r n a b c=>by
  simp only[BE.ab,K.dJ h a,K.dJ h b,K.dJ h c];rcases VV (n:=n) (ks:=[a.ab X,b.ab X,c.ab X]) (RE.dJ h r).Mo with⟨W,V⟩|⟨Q,P,W,V,R⟩;rw[W,V];rw[W,V];rfl
def RE.dJ{O X:ai}(h:lI O X):∀r:RE,dD (r.rv O) (r.rv X)
 |.v k=>by simp only[RE.rv];exact h.rv k
 |.cell r i j k=>by simp only[RE.rv,K.dJ h i];exact((RE.dJ h r).aZ _ j).db k
 |.k v=>by simp only[RE.rv];exact dD.refl _
end
def C.aAx{X:ai}(h:lI N X)(v:C):Mn (v.xv N) (v.xv X):=by
 cases v<;>simp only[C.xv,Mn];exact K.dJ h _;exact BE.dJ h _;exact RE.dJ h _
def C.aAy{X:ai}(h:lI N X)(v:C):dD (v.cq N) (v.cq X):=by
 cases v<;>simp only[C.cq];rw[K.dJ h];exact dD.refl _;rw[BE.dJ h];exact dD.refl _;exact RE.dJ h _
 all_goals exact dD.refl _
def gh.of{R aJ:ar}(O:Y R=Y aJ)(h:∀(i:Nat)(X W:aM),R[i]?=U X->aJ[i]?=U W->Y X=Y W/\∀(j:Nat)(c V:RV),X[j]?=U c->W[j]?=U V->dD c V):gh R aJ:=
 ⟨O,λi X W Q P=>(h i X W Q P).1,λi j X W c V Q P=>(h i X W Q P).2 j c V⟩
def VW{V:ai}(h:lI N V)(l:ap):(l.map (C.cq N)).length=(l.map (C.cq V)).length/\∀(j:Nat)(c R:RV),(l.map (C.cq N))[j]?=U c->(l.map (C.cq V))[j]?=U R->dD c R:=by
 refine⟨aw,λj c R X W=> ?_⟩;rw[dX] at X W;cases Q:l[j]? with
 |none=>rw[Q] at X;cases X
 |some v=>
  rw[Q] at X W;simp only[eo,cS] at X W;rw[<-X,<-W];exact C.aAy h v
def anv:∀{O N R Q:aM}{P:Nat},Y O=Y N->(∀(j:Nat)(c X:RV),O[j]?=U c->N[j]?=U X->dD c X)->Y R=Y Q->(∀(j:Nat)(c X:RV),R[j]?=U c->Q[j]?=U X->dD c X)->
  (fA R P O).length=(fA Q P N).length/\∀(j:Nat)(c X:RV),(fA R P O)[j]?=U c->(fA Q P N)[j]?=U X->dD c X
 |[],[],R,Q,P,_,_,M,L=>⟨M,L⟩
 |[],_::_,_,_,_,h,_,_,_=>by simp at h
 |_::_,[],_,_,_,h,_,_,_=>by simp at h
 |v::O,D::N,R,Q,P,F,G,M,L=>by
  simp only[fA];refine anv (by simpa using F) (λj c X V W=>G (j+1) c X (by simpa using V) (by simpa using W)) (by simp[M]) (λj c X V W=> ?_);rw[wU] at V W;split at V;rename_i H;rw[aL H] at W;split at V;split at W;cases V;cases W;exact G 0 _ _ rfl rfl;cases W;cases V;rename_i H;rw[aP H] at W;exact L j c X V W
def LE.dJ{O D:ai}(h:lI O D):∀x:LE,gh (x.ae O) (x.ae D)
 |.aj r=>(RE.dJ h r).Mo
 |.lit l=>by
  simp only[LE.ae];refine gh.of aw (λi R Q X W=> ?_);rw[dX] at X W;cases B:l[i]? with
  |none=>rw[B] at X;cases X
  |some v=>
   rw[B] at X W;simp only[eo,cS] at X W;rw[<-X,<-W];exact VW h v
 |.nY a b=>by
  simp only[LE.ae];have V:=LE.dJ h a;have H:=LE.dJ h b;refine gh.of (by simp[V.len,H.len]) (λi R Q X W=> ?_);by_cases L:i<(a.ae O).length;rw[dZ L] at X;rw[dZ (by rw[<-V.len];exact L)] at W;exact⟨V.row i R Q X W,λj c P=>V.cell i j R Q c P X W⟩;rw[jd aa] at X;rw[jd (by rw[<-V.len];omega),<-V.len] at W;exact⟨H.row _ R Q X W,λj c P=>H.cell _ j R Q c P X W⟩
 |.sK n R=>by
  simp only[LE.ae,K.dJ h n];refine gh.of aw (λi r u X W=> ?_);rw[Fw] at X W;split at X;rename_i L;rw[aL L] at W;cases X;cases W;exact VW h R;cases X
 |.set a i t G=>by
  simp only[LE.ae,K.dJ h i];have V:=LE.dJ h a;have A:=VW h G;refine gh.of (by simp[V.len]) (λs R Q X W=> ?_);rcases LS X with⟨rfl,z,N,rfl⟩|⟨F,N⟩;rcases LS W with⟨_,y,M,rfl⟩|⟨F,_⟩;exact anv A.1 A.2 (V.row _ z y N M) (λj c P=>V.cell _ j z y c P N M);exact aG rfl F;rcases LS W with⟨rfl,_⟩|⟨_,M⟩;exact aG rfl F;exact⟨V.row _ R Q N M,λj c P=>V.cell _ j R Q c P N M⟩
 |.sub a w L=>by
  simp only[LE.ae,K.dJ h w,K.dJ h L];have V:=LE.dJ h a;refine gh.of (by simp[V.len]) (λi R Q X W=> ?_);have N:=(PF X).1;have M:=(PF W).1;exact⟨V.row _ R Q N M,λj c P=>V.cell _ j R Q c P N M⟩
 |.ins a n G=>by
  simp only[LE.ae];exact anu (VW h G) (LE.dJ h a)
def anw{W:ai}(h:lI N W)(x:LE){A:oE}:dD (iZ x N) (.mk (.slice A (x.ae W).length B) (x.ae W)):=by
 have X:=LE.dJ h x;unfold iZ;rw[X.len];exact dD.sl _ _ _ _ _ _ _ X.len X.row X.cell
def lI.add{O R:ai}(h:lI O R){x y:XV}(V:Mn x y):lI (O.add x) (R.add y):=by
 cases x<;>cases y<;>simp only[Mn] at V;subst V;exact⟨by simp[ai.add,h.i],h.b,h.len,h.r⟩;subst V;exact⟨h.i,by simp[ai.add,h.b],h.len,h.r⟩;refine⟨h.i,h.b,by simp[ai.add,h.len],λk v P X W=> ?_⟩;simp only[ai.add] at X W;by_cases Q:k<Y O.r;rw[dZ Q] at X;rw[dZ (by rw[<-h.len];exact Q)] at W;exact h.r k v P X W;have N:k=Y O.r:=by
  have:=(cj.1 X).1;simp at this;omega
 subst N;simp at X;rw[h.len] at W;simp at W;subst X W;exact V
def lI.ext:∀{W V:bn}{O R:ai},lI O R->Cj W V->lI (O.ext W) (R.ext V)
 |[],[],_,_,h,_=>h
 |[],_::_,_,_,_,X=>X.elim
 |_::_,[],_,_,_,X=>X.elim
 |x::W,y::V,_,_,h,X=>(h.add X.1).ext X.2
inductive bv where
 |ret (xs:List XV)
 |bD (v:Value)
abbrev ll:=Option bv
abbrev og:=FuncId->bn->ll
def adD:LK->XV->Bool
 |.int _,.i _=>J
 |.bool,.b _=>J
 |.aj _,.r _=>J
 |_,_=>E
def jX:aY->bn->Bool
 |[],[]=>J
 |k::X,x::W=>adD k x&&jX X W
 |_,_=>E
def Gi(X:Ty)(W:bz):LK->C->Bool
 |.int k,.int V _=>decide (k=V)
 |.bool,.bool _=>J
 |.aj e,.aj r=>match e with
  |.mr R=>r.rK X ⟨[],[],0,0,W,0,0,[]⟩ R
  |e=>r.fits X ⟨[],[],0,0,W,0,0,[]⟩ e.rd
 |_,_=>E
def ln(X:Ty)(W:bz):aY->ap->Bool
 |[],[]=>J
 |k::V,v::R=>Gi X W k v&&ln X W V R
 |_,_=>E
def kN(W:Ty):kw->ap->Ic
 |[],[]=>U []
 |t::V,v::R=>match W t,kN W V R with
  |U X,U r=>if X.d.isAgg then(match v with
    |.agg l=>if Y l==Y X.ak then U (l++r) else Z
    |_=>Z) else(if Y X.ak==1 then U (v::r) else Z)
  |_,_=>Z
 |_,_=>Z
def As(n:Nat):C->ap
 |.b9 l=>if n==1 then[.b9 l] else l
 |v=>[v]
def I8(O:ai):C->Option Value
 |.gF t (.int k e)=>U (.iface t (.int k (e.ab O)))
 |_=>Z
structure Fr where
 aC:Nat
 ks:aY
 t:T
 O:ai
 rs:bz
def I9(aC:Nat):List Fr->Option (Fr×List Fr)
 |[]=>Z
 |x::X=>if x.aC=aC then U (x,X) else I9 aC X
def kj:aY->bz
 |[]=>[]
 |.aj e::X=>e::kj X
 |_::X=>kj X
def uC:Nat->Nat->Nat->aY->ap->Bool
 |_,_,_,[],[]=>J
 |a,b,c,.int k::X,.int W (.v n)::l=>decide (k=W)&&n==a&&uC (a+1) b c X l
 |a,b,c,.bool::X,.bool (.v n)::l=>n==b&&uC a (b+1) c X l
 |a,b,c,.aj _::X,.aj (.v n)::l=>n==c&&uC a b (c+1) X l
 |_,_,_,_,_=>E
def VX:RK->RK->Bool
 |_,.am=>J
 |.own t,.sl X=>decide (t=X)
 |.sl t,.sl X=>decide (t=X)
 |.str,.str=>J
 |.aS,.aS=>J
 |.mr a,.mr b=>decide (a=b)
 |_,_=>E
def El:bz->bz->Bool
 |[],[]=>J
 |x::X,y::W=>VX x y&&El X W
 |_,_=>E
def anx:RK->RK->Bool
 |.own t,.own X=>decide (t=X)
 |x,y=>VX x y
def Em:bz->bz->Bool
 |[],[]=>J
 |x::X,y::W=>anx x y&&Em X W
 |_,_=>E
def adF(X:Ty)(W:kw)(v:C)(R:bz)(O:ai):ll:=match kN X W (As (Y W) v),jp X W with
 |U l,U V=>if ln X R V l&&qQ V then U (.ret (l.map (C.xv O))) else Z
 |_,_=>Z
def adG(X:Ty)(P N:FuncId->j5)(f:FuncId)(M:ap)(L:bz)(V:aY)(jf:C)(O:ai):Option bn:=match P f,N f with
 |U R,U W=>match kN X R M,jp X R,jp X W,kN X W (As (Y W) jf) with
  |U l,U Q,U H,U r=>if ln X L Q l&&qQ Q&&decide (H=V)&&uC (Y O.i) (Y O.b) (Y O.r) V r then U (l.map (C.xv O)) else Z
  |_,_,_,_=>Z
 |_,_=>Z
def adH(X:bz)(r:RE)(e:TypeId):Bool:=match r with
 |.v k=>decide (X[k]?=U (.own e))
 |.k (.slice Z 0 0)=>J
 |_=>E
def adI:RK->Bool
 |.mr _=>J
 |_=>E
def oL.key{x y:aM}(h:oL x y)(c:Nat):aN c x=aN c y:=(h.getD c).bp.1
def anz{d:Bool}{x W y V:aM}(R:oL x W)(Q:oL y V):∀X:aq,kg d X x y=kg d X W V
 |[]=>rfl
 |c::X=>by simp only[kg,R.key,Q.key,anz R Q X]
def adJ{X:bq}{x W y V:aM}(R:oL x W)(Q:oL y V):X.lt x y=X.lt W V:=by
 cases X with
 |lex P d=>exact anz R Q P
 |ratio n d=>simp only[bq.lt,R.key,Q.key]
 |dp k o O=>rfl
def aAz{X:bq}{x W:aM}(V:oL x W):X.ok x=X.ok W:=by
 cases X with
 |lex R d=>rfl
 |ratio n d=>simp only[bq.ok,V.key]
 |dp k o Q=>rfl
def gh.VY{r:ar}(h:gh [] r):r=[]:=by cases r with
 |nil=>rfl
 |cons x X=>have:=h.len;simp at this
def anA{V:bq}{x R:aM}(X:oL x R):∀{l W:ar},gh l W->gh (eB V.lt x l) (eB V.lt R W)
 |[],W,h=>by have P:=h.VY;subst P;exact gh.Gh X h
 |y::l,[],h=>by have:=h.len;simp at this
 |y::l,N::W,h=>by
  obtain⟨Q,O⟩:=h.cons;simp only[eB,adJ X Q];split;exact gh.Gh X h;exact gh.Gh Q (anA X O)
def anB{R:bq}:∀{l W:ar}{acc X:ar},gh l W->gh acc X->gh (l.foldl (λacc x=>eB R.lt x acc) acc) (W.foldl (λacc x=>eB R.lt x acc) X)
 |[],W,acc,X,h,V=>by rw[h.VY];exact V
 |y::l,[],acc,X,h,V=>by have:=h.len;simp at this
 |y::l,O::W,acc,X,h,V=>by
  obtain⟨Q,P⟩:=h.cons;simp only[FF];exact anB P (anA Q V)
def adK{f g:aM->Bool}:∀{l X:ar},(∀x W,oL x W->f x=g W)->gh l X->l.all f=X.all g
 |[],X,_,h=>by rw[h.VY];rfl
 |y::l,[],_,h=>by have:=h.len;simp at this
 |y::l,P::X,V,h=>by
  obtain⟨R,Q⟩:=h.cons;simp only[OI,V _ _ R,adK V Q]
def anC{X:bq}:∀{l W:ar},gh l W->yJ X.lt l=yJ X.lt W
 |[],W,h=>by rw[h.VY]
 |y::l,[],h=>by have:=h.len;simp at this
 |y::l,V::W,h=>by
  obtain⟨R,Q⟩:=h.cons;have O:(l.all λz=>X.lt y z||X.lt z y)=W.all λz=>X.lt V z||X.lt z V:=adK (λx N P=>by rw[adJ R P,adJ P R]) Q
  simp only[yJ,anC Q,O]
def anD{sp:bq}{V:Bool}{l R r:ar}(h:gh l R)(X:jA sp V l=U r):∃Q,jA sp V R=U Q/\gh r Q:=by
 cases sp with
 |dp k o L=>simp[jA] at X
 |_=>
  simp only[jA] at X⊢;rw[adK (λx H P=>aAz P) h,anC h,h.len] at X;split at X;rename_i O;cases X;rw[aL O];exact⟨_,rfl,anB h ⟨rfl,λi N M W=>by simp at W,λi j N M c G W=>by simp at W⟩⟩;cases X
def gh.getD{l X:ar}(h:gh l X)(i:Nat):oL (l.getD i []) (X.getD i []):=by
 simp only[dL];cases V:l[i]? with
 |none=>
  have:X[i]?=none:=by rw[Dr] at V⊢;have:=h.len;omega
  rw[this];exact⟨rfl,λj c W R=>by simp at R⟩
 |some c=>
  obtain⟨W,Q⟩:∃W,X[i]?=U W:=by
   have:i<Y l:=(cj.1 V).1;exact⟨X[i]'(by have:=h.len;omega),cL _⟩
  rw[Q];exact⟨h.row i c W V Q,λj x P R O=>h.cell i j c W x P V Q R O⟩
def gh.set{x X:aM}(W:oL x X):∀{l V:ar}(_:gh l V)(i:Nat),gh (l.set i x) (V.set i X)
 |[],[],h,_=>h
 |[],_::_,h,_=>by have:=h.len;simp at this
 |_::_,[],h,_=>by have:=h.len;simp at this
 |r::R,Q::P,h,0=>gh.Gh W h.cons.2
 |r::R,Q::P,h,i+1=>gh.Gh h.cons.1 (gh.set W h.cons.2 i)
def adL{l X:ar}(h:gh l X):∀(n:Nat)(i:Int),gh (rR n i l) (rR n i X)
 |0,_=>h
 |n+1,i=>by
  simp only[rR,<-(h.getD i.toNat).key 0];split;exact h;exact gh.set ((adL h n _).getD _) (adL h n _) _
def aAA{l X:ar}(h:gh l X):lc l=lc X:=by
 have e:(λk=>decide (0<=aN 0 (l.getD k []))&&decide (aN 0 (l.getD k [])<=k))=λk:Nat=>decide (0<=aN 0 (X.getD k []))&&decide (aN 0 (X.getD k [])<=k):=by
  funext k;rw[(h.getD k).key 0]
 unfold lc;rw[e,h.len]
def aAB{R:ai}(Q:lI N R)(W:bq)(V:Bool)(l:ar):oc N W V l=oc R W V l:=by
 cases W with
 |lex P d=>rfl
 |ratio n d=>rfl
 |dp k o X=>
  cases V with
  |false=>rfl
  |true=>
   cases X with
   |nil=>rfl
   |cons i X=>
    cases X with
    |nil=>simp only[oc,K.dJ Q i]
    |cons j X=>rfl
def anE{Q:ai}(L:lI N Q){V:bq}{R:Bool}{l P r:ar}(h:gh l P)(X:oc N V R l=U r):∃M,oc Q V R P=U M/\gh r M:=by
 cases V with
 |lex H d=>exact anD (sp:=.lex H d) h X
 |ratio n d=>exact anD (sp:=.ratio n d) h X
 |dp k o W=>
  cases R with
  |false=>simp[oc] at X
  |true=>
   cases W with
   |nil=>simp[oc] at X
   |cons i W=>
    cases W with
    |nil=>
     simp only[oc,xj] at X⊢;rw[h.len,aAA h,K.dJ L i] at X;split at X;rename_i G;cases X;rw[aL G];exact⟨_,rfl,adL h _ _⟩;cases X
    |cons j W=>simp[oc] at X
def dD.ez{a b:RV}(h:dD a b){L:ai}(H:lI N L){W:bq}{V:Bool}{R Q:ar}(X:oc N W V a.ae=U R)(P:oc L W V b.ae=U Q):dD (.mk a.val R) (.mk b.val Q):=by
 obtain⟨x,G,M⟩:=anE H h.Mo X;rw[P] at G;cases G;cases h with
 |sl A F D B z y aJ w u t=>exact dD.sl A F D B z R Q M.len M.row M.cell
 |val v y s=>
  rw[RV.nK] at X P;rw[aAB H W V,P] at X;cases X;exact dD.refl _
def aAC{X:RV}{V:ar}(W:ee h (.own l) (.mk X.val V) B)(R:∀x∈V,x∈X.ae):ee h (.own l) X B:=by
 obtain⟨v,Q⟩:=X;simp only[RV.nJ,RV.nK] at W R;cases W with
 |own l X B W=>
  refine ee.own l _ B ?_;generalize P:RV.mk v V=X at W;cases W with
  |here l a O N aJ=>cases P;exact ee.here l a O N Q
  |deep l y aJ i j M c z k B L H G F=>
   cases P;obtain⟨D,A⟩:=ue (R _ (ki L));exact ee.deep l v Q D j M c z k B A H G F
mutual
def VZ:RV->RV->Bool
 |.mk v X,.mk W aJ=>(match v,W with
  |.int k a,.int V b=>decide (k=V)&&a==b
  |.bool a,.bool b=>a==b
  |.string a,.string b=>decide (a=b)
  |.slice Z a b,.slice Z c d=>a==c&&b==d
  |_,_=>E)&&Mp X aJ
def Mp:ar->ar->Bool
 |[],[]=>J
 |r::X,W::V=>Mq r W&&Mp X V
 |_,_=>E
def Mq:aM->aM->Bool
 |[],[]=>J
 |c::X,W::V=>VZ c W&&Mq X V
 |_,_=>E
end
def Qc:XV->XV->Bool
 |.i a,.i b=>a==b
 |.b a,.b b=>a==b
 |.r a,.r b=>VZ a b
 |_,_=>E
def Qd:bn->bn->Bool
 |[],[]=>J
 |x::X,y::W=>Qc x y&&Qd X W
 |_,_=>E
def anF:Value->Value->Bool
 |.iface t (.int k a),.iface X (.int W b)=>t==X&&decide (k=W)&&a==b
 |_,_=>E
def V4:bv->bv->Bool
 |.ret a,.ret b=>Qd a b
 |.bD a,.bD b=>anF a b
 |_,_=>E
mutual
def anG:∀(a b:RV),VZ a b=J->a=b
 |.mk v X,.mk R aJ,h=>by
  simp only[VZ,aA] at h;have W:=anH X aJ h.2;subst W;congr 1;have V:=h.1;split at V<;>simp_all
def anH:∀(a b:ar),Mp a b=J->a=b
 |[],[],_=>rfl
 |[],_::_,h=>by simp[Mp] at h
 |_::_,[],h=>by simp[Mp] at h
 |r::X,W::V,h=>by
  simp only[Mp,aA] at h;rw[anI r W h.1,anH X V h.2]
def anI:∀(a b:aM),Mq a b=J->a=b
 |[],[],_=>rfl
 |[],_::_,h=>by simp[Mq] at h
 |_::_,[],h=>by simp[Mq] at h
 |r::X,W::V,h=>by
  simp only[Mq,aA] at h;rw[anG r W h.1,anI X V h.2]
end
def aAD:∀(a b:XV),Qc a b=J->a=b
 |.i a,b,h=>by cases b<;>simp[Qc] at h;rw[h]
 |.b a,b,h=>by cases b<;>simp[Qc] at h;rw[h]
 |.r a,b,h=>by cases b<;>simp[Qc] at h;rw[anG _ _ h]
def anJ:∀(a b:bn),Qd a b=J->a=b
 |[],b,h=>by cases b<;>simp[Qd] at h;rfl
 |x::X,b,h=>by cases b<;>simp[Qd] at h;rw[aAD _ _ h.1,anJ _ _ h.2]
def aAE:∀(a b:bv),V4 a b=J->a=b
 |.ret a,b,h=>by cases b<;>simp[V4] at h;rw[anJ _ _ h]
 |.bD a,b,h=>by
  cases b<;>simp[V4] at h;rename_i v;unfold anF at h;split at h;simp only[aA,du,cz] at h;obtain⟨⟨rfl,rfl⟩,rfl⟩:=h;rfl;cases h
open Classical in
def At(a b:bv):Bool:=V4 a b||decide (a=b)
def V5(o:bv):At o o=true:=by simp[At]
def aAF(a b:bv)(h:At a b=J):a=b:=by
 simp only[At,jy,cz] at h;exact h.elim (aAE a b) id
def Ck:ll->ll->ll
 |U a,U b=>if At a b then U a else Z
 |_,_=>Z
def vR:List ll->ll
 |[]=>Z
 |[o]=>o
 |o::X=>Ck o (vR X)
def V6{a b:ll}{o:bv}(h:Ck a b=U o):a=U o/\b=U o:=by
 unfold Ck at h;split at h;split at h;rename_i x y X;cases h;rw[aAF _ _ X];exact⟨rfl,rfl⟩;cases h;cases h
def V7:∀{l:List ll}{o:bv},vR l=U o->∀x∈l,x=U o
 |[],o,h=>by simp[vR] at h
 |[x],o,h=>by simp only[vR] at h;intro y W;simp at W;rw[W];exact h
 |x::y::r,o,h=>by
  simp only[vR] at h;obtain⟨V,R⟩:=V6 h;intro z X;rcases dS.1 X with rfl|X;exact V;exact V7 (l:=y::r) R z X
def anK{a b X W:ll}{o:bv}(h:Ck a b=U o)(Q:a=U o->X=U o)(P:b=U o->W=U o):Ck X W=U o:=by
 obtain⟨V,R⟩:=V6 h;rw[V,R] at h;rw[Q V,P R];exact h
def anL{X:Type}{l:List X}{f g:X->ll}{o:bv}(h:vR (l.map f)=U o)(V:∀x∈l,f x=U o->g x=U o):vR (l.map g)=U o:=by
 rw[<-h];congr 1;refine kJ λx W=> ?_
 have:=V7 h (f x) (iL.2 ⟨x,W,rfl⟩);rw[this,V x W this]
def yS(m:K)(g h:BE)(O:ai):List (Option Int):=(((fj (m.ab O).toNat).map λ(j:Nat)=>(j:Int)).filter λj=>g.ab (O.add (.i j))).map U++(if h.ab O then[Z] else[])
def aAG{m:K}{g h:BE}{j:Int}(W:0<=j)(V:j<m.ab N)(X:g.ab (N.add (.i j))=J):U j∈yS m g h N:=by
 simp only[yS,fh,iL,qK,wV];exact .inl ⟨j,⟨⟨j.toNat,aa,aa⟩,X⟩,rfl⟩
def aAH{m:K}{g h:BE}(X:h.ab N=J):Z∈yS m g h N:=by
 simp[yS,X]
def run(V:Ty)(R Q:FuncId->j5)(bC:og)(P:kw):Nat->T->ai->bz->List Fr->ll
 |0,_,_,_,_=>Z
 |n+1,.ret v _ N,O,X,_=>if El X N then adF V P v N O else Z
 |n+1,.bD v,O,_,_=>(I8 O v).map .bD
 |n+1,.bi b t f,O,X,W=>if b.ab O then run V R Q bC P n t O X W else run V R Q bC P n f O X W
 |n+1,.bA b t,O,X,W=>if b.ab O then run V R Q bC P n t O X W else Z
 |n+1,.call f F _ N M jf t,O,X,W=>if El X N then(match adG V R Q f F N M jf O with
   |U D=>match bC f D with
    |U (.ret H)=>if jX M H then run V R Q bC P n t (O.ext H) (X++kj M) W else Z
    |U (.bD v)=>U (.bD v)
    |none=>Z
   |none=>Z) else Z
 |n+1,.loop aC M G t,O,X,W=>if ln V X M G then run V R Q bC P n t (O.ext (G.map (C.xv O))) (X++kj M) (⟨aC,M,t,O,X++kj M⟩::W) else Z
 |n+1,.back aC x,O,X,W=>match I9 aC W with
  |U (L,B)=>if ln V X L.ks x then run V R Q bC P n L.t (L.O.ext (x.map (C.xv O))) L.rs (L::B) else Z
  |none=>Z
 |n+1,.ae k x _ t,O,X,W=>if adI k then run V R Q bC P n t (O.add (.r (iZ x O))) (X++[k]) W else Z
 |n+1,.gA g h t f,O,X,W=>if g.ab O then(if h.ab O then Ck (run V R Q bC P n t O X W) (run V R Q bC P n f O X W) else run V R Q bC P n t O X W) else(if h.ab O then run V R Q bC P n f O X W else Z)
 |n+1,.pick m g h t f,O,X,W=>vR ((yS m g h O).map λj=>match j with
  |U j=>run V R Q bC P n t (O.add (.i j)) X W
  |none=>run V R Q bC P n f O X W)
 |n+1,.ez _ _ e A z r N t,O,X,W=>if Em X N&&adH X r e then(match oc O A z (r.rv O).ae with
  |U y=>run V R Q bC P n t (O.add (.r (.mk (r.rv O).val y))) (X++[.own e]) W
  |none=>Z) else Z
 |n+1,.new e x N _ t,O,X,W=>if Em X N then run V R Q bC P n t (O.add (.r (iZ x O))) (X++[.own e]) W else Z
 |_,_,_,_,_=>Z
end
def Qe{X:World}(h:iu [] e X):Below e.heap.size e X:=⟨h.os,h.tape,h.output,h.size,λk W=>h.block k W aw⟩
def aAI{b c:World}(h:Below e.heap.size e b)(k:Below b.heap.size b c):Below e.heap.size e c:=h.trans (k.mono h.size)
def qi:aY->bn->gE
 |k::X,x::W=>x.at k::qi X W
 |_,_=>[]
def xw(u:Ty):kw->gE->gE
 |[],_=>[]
 |t::W,l=>match u t with
  |U X=>(if X.d.isAgg then .agg (l.take (Y X.ak)).toArray else l.getD 0 undef)::xw u W (l.drop (Y X.ak))
  |none=>[]
def Ja:gE->Value
 |[v]=>v
 |l=>.tuple l.toArray
def anM{u:Ty}:∀{X:kw}{W l:ap},kN u X W=U l->Y X=Y W
 |[],[],l,_=>rfl
 |[],_::_,l,h=>by simp[kN] at h
 |_::_,[],l,h=>by simp[kN] at h
 |t::X,v::W,l,h=>by
  simp only[kN] at h;split at h;rename_i R r Q V;simp[anM V];cases h
def V9{u:Ty}{O:ai}{V:aq}:∀{W:kw}{R l:ap},kN u W R=U l->C.aK O V R=xw u W (C.aK O V l)
 |[],[],l,_=>rfl
 |[],_::_,l,h=>by simp[kN] at h
 |_::_,[],l,h=>by simp[kN] at h
 |t::W,v::R,l,h=>by
  simp only[kN] at h;split at h;rename_i H r M L;have N:=V9 (O:=O) (V:=V) L;simp only[xw,M];split at h;rename_i Q;rw[aL Q];split at h;rename_i F;split at h;rename_i X;simp only[du] at X;cases h;rw[UL,<-X,List.take_left' aw,aa8 aw,<-N];simp only[C.aK,C.ab];cases h;cases h;rename_i Q;rw[aP Q];split at h;rename_i X;simp only[du] at X;cases h;rw[X];simp only[C.aK,H4,List.drop_succ_cons,axh,<-N];cases h;cases h
def anN{u:Ty}{O:ai}{V:aq}{X:kw}{v:C}{l:ap}(h:kN u X (As (Y X) v)=U l):v.ab O V=Ja (xw u X (C.aK O V l)):=by
 have W:=anM h;rw[<-V9 h];cases v
 case b9 N=>
  simp only[As] at W⊢;by_cases R:Y X==1;simp[R,C.aK,Ja];simp only[R,gD,jR] at W⊢;have Q:Y N≠1:=by rw[<-W];simpa using R
  match N,Q with
  |[],_=>simp[C.aK,Ja,C.ab]
  |[x],Q=>simp at Q
  |x::y::z,_=>simp[C.aK,Ja,C.ab]
 all_goals simp[As,C.aK,Ja]
def aAJ{u:Ty}{X:bz}{O:ai}{V:aq}{k:LK}{v:C}(h:Gi u X k v=J):v.ab O V=(v.xv O).at k/\sP k (v.xv O):=by
 unfold Gi at h;split at h;rename_i k W e;simp at h;subst h;exact⟨rfl,trivial⟩;exact⟨rfl,trivial⟩;exact⟨rfl,trivial⟩;cases h
def Mr{u:Ty}{W:bz}{O:ai}{V:aq}:∀{X:aY}{l:ap},ln u W X l=J->C.aK O V l=qi X (l.map (C.xv O))/\fq X (l.map (C.xv O))
 |[],[],_=>⟨rfl,trivial⟩
 |[],_::_,h=>by simp[ln] at h
 |_::_,[],h=>by simp[ln] at h
 |k::X,v::l,h=>by
  simp only[ln,aA] at h;obtain⟨R,Q⟩:=aAJ (O:=O) (V:=V) h.1;obtain⟨N,M⟩:=Mr (O:=O) (V:=V) h.2;exact⟨by simp only[C.aK,eW,qi,R,N],Q,M⟩
def aAK{W:aY}{X:bn}(h:jX W X=J):fq W X:=by
 induction W generalizing X with
 |nil=>cases X with
  |nil=>trivial
  |cons=>simp[jX] at h
 |cons k W V=>cases X with
  |nil=>simp[jX] at h
  |cons x X=>
   simp only[jX,aA] at h;refine⟨?_,V h.2⟩;cases k<;>cases x<;>first|trivial|simp[adD] at h
def adM:∀{X:aY}{W V:bn},fq X V->Cj W V->fq X W
 |[],[],[],_,_=>trivial
 |[],_::_,[],_,h=>h.elim
 |[],_,_::_,h,_=>h.elim
 |_::_,_,[],h,_=>h.elim
 |_::_,[],_::_,_,h=>h.elim
 |k::X,x::W,y::V,h,R=>by
  refine⟨?_,adM h.2 R.2⟩;have Q:=h.1;have O:=R.1;cases k<;>cases x<;>cases y<;>simp_all[sP,Mn]
def Qf{O X:ai}(h:lI O X):∀l:ap,Cj (l.map (C.xv O)) (l.map (C.xv X))
 |[]=>trivial
 |v::l=>⟨C.aAx h v,Qf h l⟩
def Qg{V:aq}:∀{R:aY}{l:ap}{X:bn}{O:ai}{a b c:Nat},uC a b c R l=J->fq R X->Y O.i=a->Y O.b=b->Y O.r=c->C.aK (O.ext X) V l=qi R X
 |[],[],[],O,a,b,c,_,_,_,_,_=>rfl
 |[],[],_::_,O,a,b,c,_,h,_,_,_=>h.elim
 |[],_::_,X,O,a,b,c,h,_,_,_,_=>by simp[uC] at h
 |k::R,[],X,O,a,b,c,h,_,_,_,_=>by cases k<;>simp[uC] at h
 |_::_,_::_,[],O,a,b,c,_,h,_,_,_=>h.elim
 |k::R,v::l,x::X,O,a,b,c,h,B,Q,N,M=>by
  have H:=F0 X (O.add x);obtain⟨F,D⟩:=B;simp only[C.aK,ai.ext,qi];unfold uC at h;split at h;rename_i W;cases W;rename_i W L;cases W;cases L;cases x<;>simp[sP] at F;simp only[aA,cz,du] at h;obtain⟨⟨rfl,rfl⟩,h⟩:=h;rw[Qg h D (by simp[ai.add,Q]) (by simp[ai.add,N]) (by simp[ai.add,M])];simp only[C.ab,K.ab,XV.at];rw[H.i _ (by simp[ai.add,Q])];simp[ai.add,<-Q];rename_i W L;cases W;cases L;cases x<;>simp[sP] at F;simp only[aA,du] at h;obtain⟨rfl,h⟩:=h;rw[Qg h D (by simp[ai.add,Q]) (by simp[ai.add,N]) (by simp[ai.add,M])];simp only[C.ab,BE.ab,XV.at];rw[H.b _ (by simp[ai.add,N])];simp[ai.add,<-N];rename_i W L;cases W;cases L;cases x<;>simp[sP] at F;simp only[aA,du] at h;obtain⟨rfl,h⟩:=h;rw[Qg h D (by simp[ai.add,Q]) (by simp[ai.add,N]) (by simp[ai.add,M])];simp only[C.ab,RE.ab,RE.rv,XV.at];rw[H.r _ (by simp[ai.add,M])];simp[ai.add,ai.rv,<-M];cases h
def aAL{u:Ty}{O:ai}{s:S}{b:Nat}{r:RE}{e:RK}(N:e≠ .aS)(h:r.kind u s=e)(W:ee u e (r.rv O) b):O.qS u s.rs b:=by
 obtain⟨V,R,L,Q,X⟩:=U0 N h W;rcases X with⟨rfl,X⟩|⟨t,X,M⟩;exact⟨V,R,Q,UZ (by rw[X];exact W)⟩;exact⟨V,R,Q,LM X M⟩
def anO{u:Ty}{e:RK}{X:RV}{b:Nat}(h:ee u e X b):ee u e.rd X b:=by
 cases h with
 |own e X b h=>exact h
 |here e a V R W=>exact ee.here e a V R W
 |deep e v W i j Q c z k b O N M L=>exact ee.deep e v W i j Q c z k b O N M L
def Au(u:Ty)(W:aY)(V:bn)(b:Nat):Prop:=∃(q:Nat)(e:RK)(X:RV),W[q]?=U (.aj e)/\V[q]?=U (.r X)/\ee u e X b
def anP{u:Ty}{R:bz}:∀{W:aY}{l:ap},ln u R W l=J->∀(q:Nat)(k:LK)(v:C),W[q]?=U k->l[q]?=U v->Gi u R k v=J
 |[],_,_,q,k,v,X,_=>by simp at X
 |_::_,[],h,q,k,v,_,_=>by simp[ln] at h
 |Q::W,O::l,h,0,k,v,X,V=>by simp only[ln,aA] at h;simp at X V;subst X V;exact h.1
 |Q::W,O::l,h,q+1,k,v,X,V=>by simp only[ln,aA] at h;exact anP h.2 q k v (by simpa using X) (by simpa using V)
def anQ{u:Ty}{V:bz}{O:ai}{Q:aY}{l:ap}(h:ln u V Q l=J){q:Nat}{e:RK}{N:RV}(L:Q[q]?=U (.aj e))(X:(l.map (C.xv O))[q]?=U (.r N)):
  ∃r:RE,((∃M,e=.mr M/\r.rK u ⟨[],[],0,0,V,0,0,[]⟩ M=J)\/r.fits u ⟨[],[],0,0,V,0,0,[]⟩ e.rd=J)/\N=r.rv O:=by
 rw[dX] at X;cases R:l[q]? with
 |none=>rw[R] at X;cases X
 |some v=>
  rw[R] at X;have:=anP h q _ v L R;unfold Gi at this;split at this;rename_i W;cases W;rename_i W;cases W;rename_i W;cases W;simp only[eo,cS,C.xv,XV.r.injEq] at X;refine⟨_, ?_,X.symm⟩;split at this;exact .inl ⟨_,rfl,this⟩;exact .inr this;cases this
def Qh{u:Ty}{X:bz}{O:ai}{V:aY}{l:ap}(h:ln u X V l=J){b:Nat}(N:Au u V (l.map (C.xv O)) b):O.qS u X b:=by
 obtain⟨q,e,D,M,L,R⟩:=N;obtain⟨r,W,rfl⟩:=anQ h M L;rcases W with⟨B,rfl,-⟩|W;cases R;have Q:=anO R;obtain⟨H,F⟩:=acb (O:=O) W Q;exact aAL (s:=⟨[],[],0,0,X,0,0,[]⟩) F H Q
def Av(u:Ty)(W:World)(V:aY)(R:bn):Prop:=∀(q:Nat)(e:RK)(X:RV),V[q]?=U (.aj e)->R[q]?=U (.r X)->bI W u e X
def anR{u:Ty}{W:World}{B:Nat}{old:Nat->Prop}:∀{V:aY}{X:bn},Av u W V X->(∀b,Au u V X b->B<=b\/old b)->Ls u W B old V X
 |[],X,_,_=>by cases X<;>trivial
 |_::_,[],_,_=>trivial
 |k::V,x::X,h,N=>by
  refine⟨?_,anR (λq e R Q O=>h (q+1) e R (by simpa using Q) (by simpa using O)) (λb ⟨q,e,R,Q,O,M⟩=>N b ⟨q+1,e,R,by simpa using Q,by simpa using O,M⟩)⟩;cases k<;>cases x<;>try trivial
  exact⟨h 0 _ _ rfl rfl,λb L=>N b ⟨0,_,_,rfl,rfl,L⟩⟩
def Wa(D W:World):eU D cF.none [] [] [] W:=⟨rfl,rfl,λn l r X h=>by simp[cF.none] at h,λn V l r R h=>by simp[cF.none] at h,[],rfl,λ_=>rfl,by simp[cF.none],λd h=>by simp[cF.none] at h⟩
def ld.Wb{N:aq}{D:World}{V:aq}{O:ai}{L:bK}{u:Ty}{X:bz}{W:World}(R:ld N D V O L u X W)(H:Y O.r=Y X)(F:∀(k:Nat)(t:TypeId),X[k]?≠U (.own t)):aE N D cF.none u [] (O.at []) ⟨[],[],Y O.i,Y O.b,X,0,0,[]⟩ ⟨#[],[]⟩ W:=
 ⟨⟨R.base,λi h=>by simp[aW,dC] at h,λi j h=>by simp[aW,dC] at h,λi t z h=>by simp[dC] at h,λk e M Q B=>⟨(R.aj k e M Q B).1,λb y i A=>by simp[aW,dC] at A⟩⟩,rfl,rfl,rfl,H,Wa _ _,rfl,λt x h=>by simp at h,λk e M b Q=>aG Q (F k e)⟩
def Wc:∀{l W:bz},El l W=J->qT l W/\∀(k:Nat)(t:TypeId),W[k]?≠U (.own t)
 |[],[],_=>⟨qT.refl _,λk t h=>by simp at h⟩
 |[],_::_,h=>by simp[El] at h
 |_::_,[],h=>by simp[El] at h
 |x::N,y::M,h=>by
  simp only[El,aA] at h;obtain⟨V,Q⟩:=Wc h.2;have R:rV x y/\∀t,y≠ .own t:=by
   have L:=h.1;cases x<;>cases y<;>simp_all[VX,rV]
  refine⟨⟨by simp[V.len],λk O X=> ?_⟩,λk t X=> ?_⟩;cases k with
  |zero=>simp at X;subst X;exact⟨x,rfl,R.1⟩
  |succ k=>exact V.get k O (by simpa using X)
  cases k with
  |zero=>simp at X;exact R.2 t X
  |succ k=>exact Q k t (by simpa using X)
def aAM{e:RK}(h:IB (.aj e)=J):e.rd=e:=by cases e<;>simp[IB] at h<;>rfl
def adN{u:Ty}{O:ai}{X W:bz}(h:qT X W){b:Nat}(V:O.qS u W b):O.qS u X b:=by
 obtain⟨k,e,R,Q⟩:=V;obtain⟨N,M,L⟩:=h.get k e R;exact⟨k,N,M,Q.nN L⟩
def anS:∀{l W:bz},Em l W=J->qT l W
 |[],[],_=>qT.refl _
 |[],_::_,h=>by simp[Em] at h
 |_::_,[],h=>by simp[Em] at h
 |x::O,y::N,h=>by
  simp only[Em,aA] at h;have V:=anS h.2;have R:rV x y:=by
   have M:=h.1;cases x<;>cases y<;>simp_all[VX,anx,rV]
  refine⟨by simp[V.len],λk Q X=> ?_⟩;cases k with
  |zero=>simp at X;subst X;exact⟨x,rfl,R⟩
  |succ k=>exact V.get k Q (by simpa using X)
def anT{B:aq}{D:World}{V:aq}{O:ai}{A:bK}{u:Ty}{Q:bz}{W:World}(R:ld B D V O A u Q W)(M:Y O.r=Y Q)(L:∀(k:Nat)(t:TypeId),Q[k]?≠U (.own t)){N:aY}{l:ap}(h:ln u Q N l=J)(z:qQ N=J):Av u W N (l.map (C.xv O)):=by
 intro q e x H y;obtain⟨r,X,rfl⟩:=anQ h H y;rcases X with⟨F,rfl,X⟩|X;simp only[RE.rK,jy,cz] at X;rcases X with X|X;have:=sS (R.Wb M L) (e:=.mr F) (r:=r) aw (by
  rw[D7 (s:=⟨[],[],Y O.i,Y O.b,Q,0,0,[]⟩) (s':=⟨[],[],0,0,Q,0,0,[]⟩) rfl r];exact X)
 rwa [RE.mP] at this
 unfold RE.nil at X;split at X;exact bI.mr F [] aw aw aw aw;cases X;have:=ak1 (R.Wb M L) (k:=e.rd) (r:=r) (by
  unfold RE.fits at X⊢;rw[D7 (s:=⟨[],[],Y O.i,Y O.b,Q,0,0,[]⟩) (s':=⟨[],[],0,0,Q,0,0,[]⟩) rfl r];exact X)
 rwa [aAM (Vp z H),RE.mP] at this
def Jb(u:Ty)(B:Nat)(old:Nat->Prop)(O:ai)(X:bz):Prop:=∀b,O.qS u X b->B<=b\/old b
def We:∀(X:aY)(s:S),(s.cK X).2.rs=s.rs++kj X
 |[],s=>by simp[S.cK,kj]
 |k::X,s=>by
  simp only[S.cK];rw[We X];cases k<;>simp[S.fresh,kj]
def Qi{X:aY}{W:bn}(V:fq X W)(R:Y N.r=Y r):(N.ext W).r.length=(r++kj X).length:=by
 have:=(An X W ⟨[],[],Y N.i,Y N.b,r,0,0,[]⟩ N V rfl rfl R).2.2
 rwa [We] at this
def Jb.ext{u:Ty}{B:Nat}{old:Nat->Prop}{O:ai}{V:bz}(h:Jb u B old O V){R:aY}{X:bn}(L:fq R X)(H:Y O.r=Y V)(D:∀b,Au u R X b->B<=b\/old b):Jb u B old (O.ext X) (V++kj R):=by
 intro b ⟨k,e,F,A⟩;have z:k<(O.ext X).r.length:=by rw[Qi L H];exact(cj.1 F).1
 have y:(O.ext X).r[k]?=U ((O.ext X).rv k):=by simp[ai.rv,z]
 have:=IZ (PP:=λe W=>∀b,ee u e W b->B<=b\/old b) R X ⟨[],[],Y O.i,Y O.b,V,0,0,[]⟩ O L H
  (λq e W N Q b M=>D b ⟨q,e,W,N,Q,M⟩) (λk e W N Q b M=>h b ⟨k,e,N,by
   have x:k<Y O.r:=(cj.1 Q).1;have:O.rv k=W:=by simp[ai.rv,Q]
   rw[this];exact M⟩)
 rw[We] at this;exact this k e _ F y b A
def Qj(u:Ty)(H:kw)(X:aY)(D:World)(d:aY)(F:bn)(out:bv):Ending->World->Prop
 |.returned v,V=>∃R W,out=.ret R/\Cj R W/\fq X W/\v=Ja (xw u H (qi X W))/\Below D.heap.size D V/\Av u V X W/\∀b,Au u X W b->D.heap.size<=b\/Au u d F b
 |.panicked Q,V=>Below D.heap.size D V/\∃v,out=.bD v/\Q=[{v:=v,recovered:=E}]
 |.outgrown,_=>False
def Jc(P:Program)(u:Ty)(M Q:FuncId->j5)(G:World->Prop)(f:FuncId)(F:bn->ll):Prop:=
 ∀R H d X,M f=U R->Q f=U H->jp u R=U d->jp u H=U X->∀(O V:bn)(out:bv),F O=U out->Cj O V->fq d V->∀W,G W->Av u W d V->
  Calls P f (xw u R (qi d V)).toArray W (Qj u H X W d V out)
section
variable{P:Program}{u:Ty}{M Q:FuncId->j5}{bC:og}{G:World->Prop}{D:World}{H:kw}{X d:aY}{F:bn}{out:bv}{old:Nat->Prop}
def Qk(P:Program)(u:Ty)(D:World)(H:kw)(X d:aY)(F:bn)(out:bv):Sp:=⟨P,u,[],D,cF.none,Qj u H X D d F out,λ_ _ _=>False⟩
def Ql(u:Ty)(M Q:FuncId->j5)(bC:og)(H:kw)(out:bv)(X:Fr)(V:List Fr)(R:bn)(n:Nat):Prop:=∃W,Cj W R/\run u M Q bC H n X.t (X.O.ext W) X.rs (X::V)=U out
def IOf(u:Ty)(M Q:FuncId->j5)(bC:og)(D:World)(H:kw)(old:Nat->Prop)(out:bv)(X:Fr)(V:List Fr)(N:Nat)(W:bn):Prop:=
 (∀b,Au u X.ks W b->D.heap.size<=b\/old b)/\∃n,n<=N/\Ql u M Q bC H out X V W n
def anU(W:World)(V:List PanicEntry)(R:World)(b:Nat)(o:Obj)(O:W.heap.size<=b)(h:Qj u H X W d F out (.panicked V) R):Qj u H X W d F out (.panicked V) (R.putObj b o):=
 ⟨⟨h.1.os,h.1.tape,h.1.output,by have:=h.1.size;simpa[H9] using this,λk Q=>(vu aa).trans (h.1.block k Q)⟩,h.2⟩
def aAN{p:Nat->Prop}:∀{n:Nat},p n->∃m,p m/\m<=n/\∀k,p k->m<=k:=by
 intro n;induction n using T8 with
 |ind n V=>
  intro h;by_cases W:∃k,k<n/\p k;obtain⟨k,X,R⟩:=W;obtain⟨m,Q,M,O⟩:=V k X R;exact⟨m,Q,aa,O⟩;exact⟨n,h,cg _,λk X=>by by_cases N:k<n;exact aG ⟨k,N,X⟩ W;omega⟩
open Classical in
noncomputable def Ms(p:Nat->Prop):Nat:=if h:∃m,p m/\∀k,p k->m<=k then Classical.choose h else 0
def anV{p:Nat->Prop}(h:p B):p (Ms p)/\Ms p<=B:=by
 obtain⟨m,W,R,V⟩:=aAN h;have X:∃m,p m/\∀k,p k->m<=k:=⟨m,W,V⟩;unfold Ms;rw[dif_pos X];exact⟨(Classical.choose_spec X).1,(Classical.choose_spec X).2 B h⟩
inductive xx(u:Ty)(M Q:FuncId->Option (List TypeId))(bC:og)(D:World)(H:List TypeId)(old:Nat->Prop)(out:bv):Nat->List Fr->List LC->Prop where
 |nil (n:Nat):xx u M Q bC D H old out n [] []
 |cons (n N m:Nat) (fr:Fr) (st:List Fr) (L:List LC):n<=m->m<=N->xx u M Q bC D H old out n st L->
   xx u M Q bC D H old out n (fr::st) (⟨fr.aC,IOf u M Q bC D H old out fr st N,λxs=>Ms (Ql u M Q bC H out fr st xs),m⟩::L)
def xx.mono{W:Nat}{X:List Fr}{L:dP}(h:xx u M Q bC D H old out B X L)(O:W<=B):xx u M Q bC D H old out W X L:=by
 induction h with
 |nil=>exact xx.nil _
 |cons N m F X L A V z R=>exact xx.cons _ _ _ _ _ _ aa V R
def xx.find{aC:Nat}{V R:List Fr}{W:Fr}(h:xx u M Q bC D H old out B V k)(X:I9 aC V=U (W,R)):
  ∃N m,B<=m/\m<=N/\oJ aC k=U ⟨W.aC,IOf u M Q bC D H old out W R N,λF=>Ms (Ql u M Q bC H out W R F),m⟩:=by
 induction h with
 |nil=>simp[I9] at X
 |cons N m r V k A z q y=>
  simp only[I9] at X;split at X;rename_i O;cases X;exact⟨N,m,A,z,by simp[oJ,O]⟩;rename_i O;obtain⟨x,w,v,t,s⟩:=y X;exact⟨x,w,v,t,by simp only[oJ,O,gD];exact s⟩
def aAO(br:∀f,Jc P u M Q G f (bC f))(hG:∀W W',Below W.heap.size W W'->G W->G W')(bs:G D)(bt:jp u H=U X)(b0:∀ys b,Au u X ys b->old b->Au u d F b):
  ∀(n:Nat)(t:T)(a O:ai)(B:bz)(st:List Fr)(L:dP),run u M Q bC H n t a B st=U out->lI a O->Y O.r=Y B->Jb u D.heap.size old O B->xx u M Q bC D H old out n st L->
   t.ba (Qk P u D H X d F out) O L:=by
 intro n;induction n using T8 with
 |ind n IH=>
  intro t a O B st L h R w q hC;cases n with
  |zero=>simp[run] at h
  |succ n=>
   cases t with
   |out e s=>simp[run] at h
   |stuck m=>simp[run] at h
   |ret v bx an=>
    simp only[run] at h;split at h;rename_i he;obtain⟨hw,a4⟩:=Wc he;unfold adF at h;split at h;rename_i l ks hl hk;rw[bt] at hk;cases hk;split at h;rename_i ac;cases h;simp only[aA] at ac;obtain⟨ac,b1⟩:=ac;intro y V W hR;have R:lI a (O.at y):=⟨R.i,R.b,R.len,R.r⟩;have w:(O.at y).r.length=Y B:=w;have q:Jb u D.heap.size old (O.at y) B:=q;generalize O.at y=O at R w q hR⊢;obtain⟨h1,h2⟩:=Mr (O:=O) (V:=V) ac;refine⟨_,l.map (C.xv O),rfl,Qf R l,h2,by rw[anN hl,h1],Qe hR.base,anT hR (w.trans hw.len.symm) a4 ac b1,λb p=>(q b (adN hw (Qh ac p))).imp id (b0 _ b p)⟩;cases h;cases h;cases h
   |bD v=>
    simp only[run,TX] at h;obtain⟨pv,hv,rfl⟩:=h;intro y V W hO;have R:lI a (O.at y):=⟨R.i,R.b,R.len,R.r⟩;refine⟨Qe hO,pv,rfl, ?_⟩;unfold I8 at hv;split at hv;cases hv;simp only[C.ab,K.dJ R];cases hv
   |bi b t f=>
    simp only[run] at h;rw[BE.dJ R] at h;refine⟨λp=> ?_,λp=> ?_⟩;rw[aL p] at h;exact IH n aa t a O B st L h R w q (hC.mono aa);rw[aP (by simp[p])] at h;exact IH n aa f a O B st L h R w q (hC.mono aa)
   |bA b t=>
    simp only[run] at h;rw[BE.dJ R] at h;split at h;rename_i p;exact⟨p,IH n aa t a O B st L h R w q (hC.mono aa)⟩;cases h
   |call f cx bx an ks jf t=>
    simp only[run] at h;split at h;rename_i he;obtain⟨hw,a4⟩:=Wc he;split at h;rename_i cy hx;unfold adG at hx;split at hx;rename_i ps b2 b3 b4;split at hx;rename_i l b5 b6 r hl b7 b8 ca;split at hx;rename_i hc;simp only[aA,cz] at hc;obtain⟨⟨⟨c1,cp⟩,rfl⟩,c3⟩:=hc;cases hx;intro y V W hR;have a0:lI a (O.at y):=⟨R.i,R.b,R.len,R.r⟩;have cA:Jb u D.heap.size old (O.at y) B:=q;obtain⟨a1,a2⟩:=Mr (O:=O.at y) (V:=V) c1;have hB:=Qe hR.base;have cc:=anT hR (w.trans hw.len.symm) a4 c1 cp;rw[V9 hl,a1];cases ho:bC f (l.map (C.xv a)) with
    |none=>rw[ho] at h;cases h
    |some o=>
     rw[ho] at h;refine(br f ps b2 b5 b6 b3 b4 b7 b8 _ _ o ho (Qf a0 l) a2 W (hG _ _ hB bs) cc).mono ?_;intro e W' hE;cases e with
     |outgrown=>exact hE.elim
     |panicked ch=>
      obtain⟨e1,pv,rfl,rfl⟩:=hE;simp only[cS] at h;subst h;exact⟨e1,aAI hB e1,pv,rfl,rfl⟩
     |returned v=>
      obtain⟨yh,ys,rfl,e2,e3,rfl,e5,e6,e7⟩:=hE;rw[show C.xv (O.at y)=C.xv O from funext (C.adc O y)] at e7;simp only at h;split at h;rename_i cB;refine⟨ys,e3, ?_,e5,anR e6 (λb p=>(e7 b p).imp id (λcf=>Qh c1 cf)), ?_⟩;rw[<-P3,anN ca,Qg c3 e3 (by rw[a0.i]) (by rw[a0.b]) (by rw[a0.len])];refine IH n aa t _ _ _ st L h (R.ext e2) (Qi e3 w) (q.ext e3 w (λb p=> ?_)) (hC.mono aa);rcases e7 b p with h1|h1;exact .inl (qL hB.size h1);exact q b (adN hw (Qh c1 h1));cases h
    cases hx;cases hx;cases hx;cases h;cases h
   |loop aC ks x0 t=>
    simp only[run] at h;split at h;rename_i ac;have cC:=(Mr (O:=O) (V:=[]) ac).2;refine⟨IOf u M Q bC D H old out ⟨aC,ks,t,a,B++kj ks⟩ st n,λxs=>Ms (Ql u M Q bC H out ⟨aC,ks,t,a,B++kj ks⟩ st xs),⟨λb p=>q b (Qh ac p),n,cg _,x0.map (C.xv a),Qf R x0,h⟩, ?_⟩;intro xs hf ⟨i1,n1,i2,i3⟩;obtain⟨⟨xh,j1,j2⟩,j3⟩:=anV i3;refine IH _ aa t _ _ _ _ _ j2 (R.ext j1) (Qi hf w) (q.ext hf w i1) ?_;exact xx.cons _ _ _ _ _ _ (cg _) (qL j3 i2) (hC.mono aa);cases h
   |back aC x=>
    simp only[run] at h;split at h;rename_i fr cl cn;split at h;rename_i ac;obtain⟨N,m,g1,g2,g3⟩:=hC.find cn;simp only[T.ba,g3];have bb:Ql u M Q bC H out fr cl (x.map (C.xv O)) n:=⟨x.map (C.xv a),Qf R x,h⟩;refine⟨⟨λb p=>q b (Qh ac p),n,aa,bb⟩, ?_⟩;have:=(anV bb).2;omega;cases h;cases h
   |new e x an cD t=>
    simp only[run] at h;split at h;rename_i he;have hw:=anS he;intro rv bd;obtain⟨A,m,c,rfl,hm⟩:=bd.val;subst hm;refine IH n aa t _ _ _ st L h (R.add (anw R x)) (by simp[ai.add,w]) ?_ (hC.mono aa);intro b ⟨k,e',hk,hl⟩;by_cases af:k<Y B;rw[dZ af] at hk;refine q b ⟨k,e',hk, ?_⟩;have:(O.add (.r (.mk (.slice A (x.ae O).length c) (x.ae O)))).rv k=O.rv k:=by simp[ai.rv,ai.add,dZ,w,af]
    rw[<-this];exact hl;have al:k=Y B:=by
     have:=(cj.1 hk).1;simp at this;omega
    subst al;simp at hk;subst hk;have e1:(O.add (.r (.mk (.slice A (x.ae O).length c) (x.ae O)))).rv (Y B)=.mk (.slice A (x.ae O).length c) (x.ae O):=by rw[<-w];simp[ai.rv,ai.add]
    rw[e1] at hl;have cs:=anO hl;rcases bd.qS b cs with g|g|g;exact .inl g;cases g;exact q b (adN hw g);cases h
   |ae k x an t=>
    simp only[run] at h;split at h;rename_i he;refine IH n aa t _ _ _ st L h (R.add (anw R x)) (by simp[ai.add,w]) ?_ (hC.mono aa);intro b ⟨k',e',hk,hl⟩;by_cases af:k'<Y B;rw[dZ af] at hk;refine q b ⟨k',e',hk, ?_⟩;have:(O.add (.r (iZ x O))).rv k'=O.rv k':=by simp[ai.rv,ai.add,dZ,w,af]
    rw[<-this];exact hl;have al:k'=Y B:=by
     have:=(cj.1 hk).1;simp at this;omega
    subst al;simp at hk;subst hk;cases k<;>simp[adI] at he;cases hl;cases h
   |gA g h' t f=>
    simp only[run] at h;rw[BE.dJ R,BE.dJ R] at h;refine⟨λp=> ?_,λp=> ?_⟩;rw[aL p] at h;split at h;exact IH n aa t a O B st L (V6 h).1 R w q (hC.mono aa);exact IH n aa t a O B st L h R w q (hC.mono aa);simp only[p,cN] at h;split at h;exact IH n aa f a O B st L (V6 h).2 R w q (hC.mono aa);exact IH n aa f a O B st L h R w q (hC.mono aa)
   |pick m g h' t f=>
    simp only[run] at h;refine⟨λj h1 h2 h3=> ?_,λp=> ?_⟩;have bf:lI (a.add (.i j)) (O.add (.i j)):=R.add (x:=.i j) (y:=.i j) rfl;have hj:=V7 h _ (iL.2 ⟨U j,aAG (g:=g) (h:=h') h1 (by rw[K.dJ R];exact h2) (by rw[BE.dJ bf];exact h3),rfl⟩);exact IH n aa t _ _ B st L hj bf w q (hC.mono aa);have hj:=V7 h _ (iL.2 ⟨Z,aAH (m:=m) (g:=g) (h:=h') (by rw[BE.dJ R];exact p),rfl⟩);exact IH n aa f _ _ B st L hj R w q (hC.mono aa)
   |ez f g e sp sb r an t=>
    simp only[run] at h;split at h;rename_i he;simp only[aA] at he;obtain⟨he,a3⟩:=he;have bg:=RE.dJ R r;split at h;rename_i ct bk;obtain⟨ag,a9,cI⟩:=anE R bg.Mo bk;refine⟨ag,akm a9, ?_⟩;have bl:=acC (akm a9);have cv:dD (.mk (r.rv a).val ct) (.mk (r.rv O).val ag):=bg.ez R bk a9;refine IH n aa t _ _ _ st L h (R.add cv) (by simp[ai.add,w]) ?_ (hC.mono aa);intro b ⟨k,e',hk,hl⟩;by_cases af:k<Y B;rw[dZ af] at hk;refine q b ⟨k,e',hk, ?_⟩;have:(O.add (.r (.mk (r.rv O).val ag))).rv k=O.rv k:=by simp[ai.rv,ai.add,dZ,w,af]
    rw[<-this];exact hl;have al:k=Y B:=by
     have:=(cj.1 hk).1;simp at this;omega
    subst al;simp at hk;subst hk;have e1:(O.add (.r (.mk (r.rv O).val ag))).rv (Y B)=.mk (r.rv O).val ag:=by rw[<-w];simp[ai.rv,ai.add]
    rw[e1] at hl;unfold adH at a3;split at a3;rename_i k;exact q b ⟨k,_,wX a3,aAC hl bl⟩;cases hl with
    |own e rv b hl=>
     have h0:ag=[]:=by
      cases ag with
      |nil=>rfl
      |cons x xs=>have:=bl x aw;simp[RE.rv] at this
     subst h0;simp only[RE.rv] at hl;cases hl with
     |deep e v ag i j cO c z k b h1 h2 h3 h4=>simp at h1
    cases a3;cases h;cases h
def xz:aY->Bool
 |[]=>J
 |.aj (.sl _)::_=>E
 |.aj (.own _)::_=>E
 |_::X=>xz X
def anW:∀{ks:aY}{xs:bn}{b:Nat},xz ks=J->¬Au u ks xs b
 |[],xs,b,_,⟨q,e,W,X,_,_⟩=>by simp at X
 |k::ks,xs,b,h,⟨0,e,W,X,V,R⟩=>by
  simp at X;subst X;cases R<;>simp[xz] at h
 |k::ks,[],b,h,⟨q+1,e,W,X,V,R⟩=>by simp at V
 |k::ks,x::xs,b,h,⟨q+1,e,W,X,V,R⟩=>anW (ks:=ks) (xs:=xs) (b:=b) (by
   cases k with
   |aj r=>cases r<;>simp[xz] at h⊢<;>exact h
   |int _=>simpa[xz] using h
   |bool=>simpa[xz] using h) ⟨q,e,W,by simpa using X,by simpa using V,R⟩
def gI(X:aM)(W:bn):ai:=(⟨[],[],X,[]⟩:ai).ext W
end
variable{g:bv}
def Qm:C->ap
 |.agg l=>l
 |v=>[v]
def sZ:ap->ap
 |[]=>[]
 |v::X=>Qm v++sZ X
def yT:C->ap
 |.b9 l=>sZ l
 |v=>Qm v
def aAP:C->Bool
 |.gF _ (.int _ _)=>J
 |_=>E
def nI:aY->Nat
 |[]=>0
 |.int _::X=>nI X+1
 |_::X=>nI X
def nB:aY->Nat
 |[]=>0
 |.bool::X=>nB X+1
 |_::X=>nB X
def anX(c:Ty)(d:kw)(v:C)(W:bz):Bool:=match kN c d (As (Y d) v),jp c d with
 |U l,U X=>ln c W X l&&qQ X
 |_,_=>E
def anY(c:Ty)(M Q:FuncId->j5)(f:FuncId)(O:ap)(N L:Nat)(W:bz)(V:aY)(jf:C):Bool:=match M f,Q f with
 |U R,U X=>match kN c R O,jp c R,jp c X,kN c X (As (Y X) jf) with
  |U l,U P,U H,U r=>ln c W P l&&qQ P&&decide (H=V)&&uC N L (Y W) V r
  |_,_,_,_=>E
 |_,_=>E
def Qn(aC:Nat):List (Nat×aY)->Option aY
 |[]=>Z
 |x::X=>if x.1=aC then U x.2 else Qn aC X
def T.jw(c:Ty)(M Q:FuncId->j5)(d:kw):T->Nat->Nat->bz->List (Nat×aY)->Bool
 |.ret v _ O,_,_,X,_=>El X O&&anX c d v O
 |.bD v,_,_,_,_=>aAP v
 |.bi _ t f,V,R,X,W=>t.jw c M Q d V R X W&&f.jw c M Q d V R X W
 |.bA _ t,V,R,X,W=>t.jw c M Q d V R X W
 |.call f N _ O P jf t,V,R,X,W=>El X O&&anY c M Q f N V R O P jf&&t.jw c M Q d (V+nI P) (R+nB P) (X++kj P) W
 |.loop aC P L t,V,R,X,W=>ln c X P L&&t.jw c M Q d (V+nI P) (R+nB P) (X++kj P) ((aC,P)::W)
 |.back aC x,_,_,X,W=>match Qn aC W with
  |U P=>ln c X P x
  |none=>E
 |.new e _ O _ t,V,R,X,W=>Em X O&&t.jw c M Q d V R (X++[.own e]) W
 |.ae k _ _ t,V,R,X,W=>adI k&&t.jw c M Q d V R (X++[k]) W
 |.gA _ _ t f,V,R,X,W=>t.jw c M Q d V R X W&&f.jw c M Q d V R X W
 |.pick _ _ _ t f,V,R,X,W=>t.jw c M Q d (V+1) R X W&&f.jw c M Q d V R X W
 |.ez _ _ e _ _ r O t,V,R,X,W=>Em X O&&adH X r e&&t.jw c M Q d V R (X++[.own e]) W
 |.stuck _,_,_,_,_=>J
 |.out _ _,_,_,_,_=>E
structure Lp where
 aC:Nat
 t:T
 O:ai
abbrev mQ:=List Lp
def Cl(aC:Nat):mQ->Option (Lp×mQ)
 |[]=>Z
 |x::X=>if x.aC=aC then U (x,X) else Cl aC X
def exec(bC:og):Nat->T->ai->mQ->ll
 |0,_,_,_=>Z
 |_+1,.ret v _ _,O,_=>U (.ret ((yT v).map (C.xv O)))
 |_+1,.bD v,O,_=>(I8 O v).map .bD
 |n+1,.bi b t f,O,X=>if b.ab O then exec bC n t O X else exec bC n f O X
 |n+1,.bA b t,O,X=>if b.ab O then exec bC n t O X else Z
 |n+1,.call f R _ _ Q _ t,O,X=>match bC f ((sZ R).map (C.xv O)) with
  |U (.ret V)=>if jX Q V then exec bC n t (O.ext V) X else Z
  |U (.bD v)=>U (.bD v)
  |none=>Z
 |n+1,.loop aC _ P t,O,X=>exec bC n t (O.ext (P.map (C.xv O))) (⟨aC,t,O⟩::X)
 |n+1,.back aC x,O,X=>match Cl aC X with
  |U (W,N)=>exec bC n W.t (W.O.ext (x.map (C.xv O))) (W::N)
  |none=>Z
 |n+1,.new _ x _ _ t,O,X=>exec bC n t (O.add (.r (iZ x O))) X
 |n+1,.ae _ x _ t,O,X=>exec bC n t (O.add (.r (iZ x O))) X
 |n+1,.gA g h t f,O,X=>if g.ab O then(if h.ab O then Ck (exec bC n t O X) (exec bC n f O X) else exec bC n t O X) else(if h.ab O then exec bC n f O X else Z)
 |n+1,.pick m g h t f,O,X=>vR ((yS m g h O).map λj=>match j with
  |U j=>exec bC n t (O.add (.i j)) X
  |none=>exec bC n f O X)
 |n+1,.ez _ _ _ M L r _ t,O,X=>match oc O M L (r.rv O).ae with
  |U H=>exec bC n t (O.add (.r (.mk (r.rv O).val H))) X
  |none=>Z
 |_,_,_,_=>Z
def aAQ{c:Ty}{X:bz}{k:LK}{v:C}(h:Gi c X k v=J):Qm v=[v]:=by
 unfold Gi at h;split at h<;>first|rfl|cases h
def Qo{c:Ty}{P:bz}:∀{d:kw}{M l:ap}{X:aY},kN c d M=U l->jp c d=U X->ln c P X l=J->sZ M=l
 |[],[],l,X,h,_,_=>by simp[kN] at h;simp[sZ,h]
 |[],_::_,l,X,h,_,_=>by simp[kN] at h
 |_::_,[],l,X,h,_,_=>by simp[kN] at h
 |t::d,v::M,l,X,h,O,L=>by
  simp only[kN] at h;split at h;rename_i w r B H;simp only[jp,B] at O;split at O;rename_i u G A F;cases A;cases O;have D:∀(a:aY)(b:ap),Y a=Y b->ln c P (a++G) (b++r)=J->ln c P a b=J/\ln c P G r=true:=by
   intro a;induction a with
   |nil=>intro b N R;cases b with
    |nil=>exact⟨rfl,R⟩
    |cons=>simp at N
   |cons k a z=>intro b N R;cases b with
    |nil=>simp at N
    |cons x b=>
     simp only[da,ln,aA] at R⊢;obtain⟨W,Q⟩:=z b (by simpa using N) R.2;exact⟨⟨R.1,W⟩,Q⟩
  split at h;split at h;rename_i s;split at h;rename_i V;simp only[du] at V;cases h;obtain⟨W,Q⟩:=D _ _ (by simp[V]) L;simp only[sZ,Qm,Qo H F Q];cases h;cases h;split at h;rename_i V;simp only[du] at V;cases h;obtain⟨W,Q⟩:=D _ [v] (by simp[V]) L;obtain⟨q,y⟩:=pj.1 V;rw[y] at W;simp only[eW,Dv,ln,OJ] at W;simp only[sZ,aAQ W,Qo H F Q,da,di];cases h;cases O;cases h
def aAR{c:Ty}{P:bz}{d:kw}{v:C}{l:ap}{R:aY}(h:kN c d (As (Y d) v)=U l)(W:jp c d=U R)(X:ln c P R l=J):yT v=l:=by
 rw[<-Qo h W X];cases v
 case b9 G=>
  simp only[As,yT];split;rename_i V;simp only[du] at V;exfalso;have O:=Qo h W X;simp only[As,V,beq_self_eq_true,cN] at h O;obtain⟨t,N⟩:=pj.1 V;subst N;simp only[kN,jp] at h W;split at h;rename_i F r V M;cases M;split at h;cases h;split at h;rename_i Q;cases h;rw[V] at W;simp only[cS] at W;subst W;simp only[du] at Q;obtain⟨D,L⟩:=pj.1 Q;rw[L] at X;simp only[eW,Dv,KQ,ln,OJ] at X;unfold Gi at X;split at X<;>first|(rename_i H;cases H)|cases X
  cases h;cases h;rfl
 all_goals simp[As,yT,sZ]
section
variable{c:Ty}{M Q:FuncId->j5}{bC:og}{d:kw}
def Gj:∀{X:aY}{W:bn}{O:ai},fq X W->(O.ext W).i.length=Y O.i+nI X/\(O.ext W).b.length=Y O.b+nB X/\(O.ext W).r.length=Y O.r+(kj X).length
 |[],[],O,_=>⟨rfl,rfl,rfl⟩
 |[],_::_,O,h=>h.elim
 |_::_,[],O,h=>h.elim
 |k::X,x::W,O,h=>by
  obtain⟨V,R⟩:=h;obtain⟨Q,P,N⟩:=Gj (O:=O.add x) R;simp only[ai.ext,Q,P,N];cases k<;>cases x<;>simp only[sP] at V<;>simp[ai.add,nI,nB,kj]<;>omega
inductive Cm(c:Ty)(M Q:FuncId->Option (List TypeId))(d:List TypeId):List (Nat×List LK)->List Lp->List Fr->Prop where
 |nil:Cm c M Q d [] [] []
 |cons (aC:Nat) (ks:List LK) (t:T) (O:ai) (rs:List RK) (lv:List (Nat×List LK)) (sl:List Lp) (st:List Fr):Y O.r=Y rs->t.jw c M Q d (Y O.i+nI ks) (Y O.b+nB ks) (rs++kj ks) ((aC,ks)::lv)=J->Cm c M Q d lv sl st->
   Cm c M Q d ((aC,ks)::lv) (⟨aC,t,O⟩::sl) (⟨aC,ks,t,O,rs++kj ks⟩::st)
def Cm.find{N:List (Nat×aY)}{H G:mQ}{L:List Fr}{W:aY}{X:Lp}(h:Cm c M Q d N H L)(V:Qn B N=U W)(R:Cl B H=U (X,G)):
  ∃P F D,I9 B L=U (⟨X.aC,W,X.t,X.O,P++kj W⟩,D)/\Y X.O.r=Y P/\X.t.jw c M Q d (Y X.O.i+nI W) (Y X.O.b+nB W) (P++kj W) ((X.aC,W)::F)=J/\Cm c M Q d F G D:=by
 induction h with
 |nil=>simp[Qn] at V
 |cons z u t O P N H L y x w v=>
  simp only[Qn,Cl,I9] at V R⊢;by_cases A:z=B;rw[aL A] at V R⊢;cases V;cases R;exact⟨P,N,L,rfl,y,x,w⟩;rw[aP A] at V R⊢;exact v V R
def vS:∀(n:Nat)(t:T)(O:ai)(N:bz)(W:List (Nat×aY))(R:mQ)(P:List Fr)(o:bv),exec bC n t O R=U o->t.jw c M Q d (Y O.i) (Y O.b) N W=J->Y O.r=Y N->Cm c M Q d W R P->
  run c M Q bC d n t O N P=U o
 |0,t,O,N,W,R,P,o,h,_,_,_=>by simp[exec] at h
 |n+1,.out _ _,O,N,W,R,P,o,h,_,_,_=>by simp[exec] at h
 |n+1,.stuck _,O,N,W,R,P,o,h,_,_,_=>by simp[exec] at h
 |n+1,.ret v bx F,O,N,W,R,P,o,h,X,L,H=>by
  simp only[exec,cS] at h;simp only[T.jw,aA] at X;obtain⟨u,X⟩:=X;simp only[run,u,cN,adF];unfold anX at X;split at X
  ·rename_i l D s p
   try rw[s,p]
   simp only[X,cN];simp only[aA] at X;rw[<-aAR s p X.1,h]
  cases X
 |n+1,.bD v,O,N,W,R,P,o,h,X,L,H=>by simpa only[exec,run] using h
 |n+1,.bi b t f,O,N,W,R,P,o,h,X,L,H=>by
  simp only[exec] at h;simp only[T.jw,aA] at X;simp only[run];split at h;rename_i B;rw[aL B];exact vS n t O N W R P o h X.1 L H;rename_i B;rw[aP B];exact vS n f O N W R P o h X.2 L H
 |n+1,.bA b t,O,N,W,R,P,o,h,X,L,H=>by
  simp only[exec] at h;simp only[T.jw] at X;simp only[run];split at h;rename_i B;rw[aL B];exact vS n t O N W R P o h X L H;cases h
 |n+1,.call f a1 bx F D jf t,O,N,W,R,P,o,h,X,L,H=>by
  simp only[exec] at h;simp only[T.jw,aA] at X;obtain⟨⟨u,G⟩,af⟩:=X;have ag:=(Wc u).1.len;simp only[run,u,cN,adG];unfold anY at G;split at G
  ·rename_i ps qs s p
   try rw[s,p]
   try simp only
   split at G
   ·rename_i l pk qk r g1 g2 g3 g4
    try rw[g1,g2,g3,g4]
    try simp only
    rw[ag,<-L] at G;rw[aL G];simp only[aA] at G;rw[Qo g1 g2 G.1.1.1] at h
    try simp only
    split at h
    ·rename_i ys ho
     try rw[ho]
     try simp only
     split at h;rename_i ac;rw[aL ac];obtain⟨A,z,y⟩:=Gj (O:=O) (aAK ac);exact vS n t _ _ W R P o h (by rw[A,z];exact af) (by rw[y,gU,L]) H;cases h
    ·rename_i v ho;(try rw[ho]);exact h
    cases h
   cases G
  cases G
 |n+1,.loop aC D x0 t,O,N,W,R,P,o,h,X,L,H=>by
  simp only[exec] at h;simp only[T.jw,aA] at X;simp only[run,X.1,cN];obtain⟨A,z,y⟩:=Gj (O:=O) (Mr (O:=O) (V:=[]) X.1).2;exact vS n t _ _ ((aC,D)::W) _ _ o h (by rw[A,z];exact X.2) (by rw[y,gU,L]) (Cm.cons _ _ _ _ _ _ _ _ L X.2 H)
 |n+1,.back aC x,O,N,W,R,P,o,h,X,L,H=>by
  simp only[exec] at h;simp only[T.jw] at X;split at h;rename_i a al hf;split at X;rename_i D hk;obtain⟨F,an,a3,q1,q2,q3,q4⟩:=H.find hk hf;simp only[run,q1,X,cN];obtain⟨A,z,y⟩:=Gj (O:=a.O) (Mr (O:=O) (V:=[]) X).2;exact vS n a.t _ _ ((a.aC,D)::an) (a::al) _ o h (by rw[A,z];exact q3) (by rw[y,gU,q2]) (Cm.cons _ _ _ _ _ _ _ _ q2 q3 q4);cases X;cases h
 |n+1,.new e x F a4 t,O,N,W,R,P,o,h,X,L,H=>by
  simp only[exec] at h;simp only[T.jw,aA] at X;simp only[run,X.1,cN];exact vS n t _ _ W R P o h (by simpa[ai.add] using X.2) (by simp[ai.add,L]) H
 |n+1,.ae k x F t,O,N,W,R,P,o,h,X,L,H=>by
  simp only[exec] at h;simp only[T.jw,aA] at X;simp only[run,X.1,cN];exact vS n t _ _ W R P o h (by simpa[ai.add] using X.2) (by simp[ai.add,L]) H
 |n+1,.gA g h' t f,O,N,W,R,P,o,h,X,L,H=>by
  simp only[exec] at h;simp only[T.jw,aA] at X;simp only[run];have i1:=λq=>vS n t O N W R P o q X.1 L H
  have i2:=λq=>vS n f O N W R P o q X.2 L H
  split at h;rename_i hg;rw[aL hg];split at h;rename_i w;rw[aL w];exact anK h i1 i2;rename_i w;rw[aP w];exact i1 h;rename_i hg;rw[aP hg];split at h;rename_i w;rw[aL w];exact i2 h;cases h
 |n+1,.pick m g h' t f,O,N,W,R,P,o,h,X,L,H=>by
  simp only[exec] at h;simp only[T.jw,aA] at X;simp only[run];refine anL h λj _ q=> ?_
  cases j with
  |some j=>exact vS n t (O.add (.i j)) N W R P o q (by simpa[ai.add] using X.1) (by simpa[ai.add] using L) H
  |none=>exact vS n f O N W R P o q X.2 L H
 |n+1,.ez f g e sp sb r F t,O,N,W,R,P,o,h,X,L,H=>by
  simp only[exec] at h;simp only[T.jw,aA] at X;simp only[run,X.1.1,X.1.2,wW,cN];split at h
  ·rename_i a9 a0
   try rw[a0]
   exact vS n t _ _ W R P o h (by simpa[ai.add] using X.2) (by simp[ai.add,L]) H
  cases h
def xA(bC:og)(t:T)(O:ai)(X:mQ)(o:bv):Prop:=∃n,exec bC n t O X=U o
def Mt{bC:og}{W:mQ}:xA bC n N W g<->∃X,exec bC (X+1) n N W=U g:=
 ⟨λ⟨X,h⟩=>by
  cases X with
  |zero=>simp[exec] at h
  |succ X=>exact⟨X,h⟩,λ⟨X,h⟩=>⟨X+1,h⟩⟩
@[simp] def aKT {X:mQ}:xA bC (.ret f b r) N X g<->g=.ret ((yT f).map (C.xv N)):=by
 rw[Mt];simp only[exec,cS];exact⟨λ⟨_,h⟩=>h.symm,λh=>⟨0,h.symm⟩⟩
@[simp] def aKU {X:mQ}:xA bC (.bD f) N X g<->(I8 N f).map .bD=U g:=by
 rw[Mt];simp only[exec];exact⟨λ⟨_,h⟩=>h,λh=>⟨0,h⟩⟩
@[simp] def aKV {b:BE} {f:T} {X:mQ}:xA bC (.bi b n f) N X g<->if b.ab N=J then xA bC n N X g else xA bC f N X g:=by
 rw[Mt];simp only[exec];split<;>rfl
@[simp] def aKW {b:BE} {X:mQ}:xA bC (.bA b n) N X g<->b.ab N=J/\xA bC n N X g:=by
 rw[Mt];simp only[exec];by_cases W:b.ab N=J;simp only[W,cN,true_and];rfl;simp[W]
@[simp] def aKX {W:aY} {X:mQ}:xA bC (.loop B W w n) N X g<->xA bC n (N.ext (w.map (C.xv N))) (⟨B,n,N⟩::X) g:=by
 rw[Mt];simp only[exec];rfl
@[simp] def aKY {x:LE} {W:bz} {X:mQ}:xA bC (.new l x r W n) N X g<->xA bC n (N.add (.r (iZ x N))) X g:=by
 rw[Mt];simp only[exec];rfl
end
structure s4(P:Program)(g:FuncId)(eT:TypeId):Prop where
 D6:∀args W,(callFunc g args).run P W=.ok (.enter g args) W
 ret:∀(W:World)(b:Nat),CallsDIn Fence.wide 0 P g #[.pointer (U ⟨b,0,Z⟩)] .returning W λen u W'=>(∃v,en=.returned v)/\u=.returning/\W'=W
 bD:∀(W:World)(b:Nat)(k0 k:Int),W.heap[b]?=U (.cells #[.int I k0] eT (0,0))->CallsDIn Fence.wide 0 P g #[.pointer (U ⟨b,0,Z⟩)] (.panicking [{v:=.iface eT (.int I k),recovered:=E}]) W λen u W'=>
  (∃v,en=.returned v)/\u=.panicking [{v:=.iface eT (.int I k),recovered:=J}]/\W'=W.putObj b (.cells #[.int I k] eT (0,0))
def aAS{c:Code}{d:DI}(h:xg c=U d):∃P O R X W first Q V,c=.seq (.region P d.uo E) (.seq (.region O R E) d.rest)/\R= #[X,W]/\X.op=.makeFunc (.func d.g) first Q/\first= #[]/\Q= #[.tmp d.te]/\X.dst=U d.tf/\X.guard=Z/\W.op=.defer V/\V.callee=.value (.tmp d.tf)/\V.args= #[]/\W.guard=Z/\W.dst=none:=by
 unfold xg at h;split at h;rename_i P uo O R w;unfold akk at h;split at h;rename_i X W M;split at h;rename_i g first Q v V L H G F D B
 split at h;rename_i u t A z y x;split at h;rename_i N;simp only[du] at N;subst N;cases h;exact⟨P,O,R,X,W,first,Q,V,rfl,by apply oD;simp[M],L,by apply oD;simp[A],by apply oD;simp[z],H,G,F,y,by apply oD;simp[x],D,B⟩;cases h;cases h;cases h;cases h;cases h
section
variable{p:Sp}{cf:bL}
def aAT(b:mq p cf)(a0:∀ch W,¬p.R (.panicked ch) W){F:Func}{c:Code}(hf:p.P.funcs[v]?=U F)(hb:F.body=U c){d:DI}(hd:xg c=U d)(dH:s4 p.P d.g l)
  (ht:Pm cf B v c F.ntmps F.results.toList l w t=n)(A:n.ba p N [])(hg:fO cf.gl N)(R:aE p.S0 p.w0 cF.none cf.ty y N {t with tmps:=[]} ⟨#[],[]⟩ p.w0):
  Calls p.P v (C.aK N y w).toArray p.w0 p.R:=by
 subst ht;unfold Pm at A;rw[hd] at A;simp only at A;obtain⟨i0,i1,cC,a,o2,first,cD,dc,hc,ho,g1,g2,g3,g4,g5,g6,g7,g8,g9,b2⟩:=aAS hd;subst ho g2 g3;refine P2 hf hb ?_;rw[hc];obtain⟨D1,al⟩:∃D1:cF,D1=⟨[],[],J,[]⟩:=⟨_,rfl⟩;have b3:eU p.w0 D1 t.pd N.y [] p.w0:=by
  subst al;have h:=R.dO;exact⟨h.len,h.ut,h.eO,h.inj,[],rfl,λ_=>rfl,aw,λd hd=>by simp at hd⟩
 have RE:=R.enter w F.ntmps b3;obtain⟨Rr,a3⟩:=RE.room (nF d.uo.toList);refine ada (Ei (n:=0) (wpIn_region ?_));have hY:=I6 (p:=p) (cf:=cf) D1.eO ⟨{t with tmps:=w++eH (F.ntmps-Y w) (.b9 [])},N,y,[]⟩;have a4:=D4 (ops:=d.uo) b.pt b.BR (Eh Z) b.mN (VI b (VT b B).1 hY) (D:=D1) (k:=abO cf B v d l (Y t.ao) F.results.toList) (kp:=λ_ _=>.stuck "") (Q:=Exit.then (λq o=>lj Z v p.P (.seq (.region i1 #[a,o2] E) d.rest) (bodyPostM Fence.wide 0 p.P F p.R) q o) (bodyPostM Fence.wide 0 p.P F p.R)) (λch q o pd X hA hR=>(a0 ch o hR).elim) (n:=0) (iG (λ_=>E) J E 0 (Y t.ao) d.uo.toList) 0 _ [] [] N _ _ p.w0
  (λi m' hi=>by have:=P6 _ _ _ _ _ _ _ _ hi;simpa using this) ((ml.here _ _ _ _).go a3 (dI.refl _ _)) A (λx hx=>by cases hx) Rr hg ?_ (λM s' O' V' q o L' hl hL R' b4=>b4.elim)
 rw[adg] at a4;simpa[aaY] using a4;intro s1 O1 G r m L1 qU cI R1 ac;show lj Z v p.P (.seq (.region i1 #[a,o2] E) d.rest) (bodyPostM Fence.wide 0 p.P F p.R) r m;unfold abO at ac;split at ac;rename_i H b5;split at ac;rename_i a9;simp only[aA,iK,cz] at a9;obtain⟨⟨bb,b6⟩,b7⟩:=a9;have b8:r.tmps[d.te]?=U (.pointer (U ⟨ad G H,0,Z⟩)):=by
  rcases R1.tmps _ _ b5 with h|h;cases h;exact h
 have ca:r.defers=[]:=by
  have h:=R1.dO;rw[al] at h;obtain⟨ms,q1,q0,-,-⟩:=h.oa;have:=q0 rfl;subst this;simpa using q1
 have cc:(C.fn d.g [.loc H 0]).ab O1 G=.func (.func d.g) #[] #[.pointer (U ⟨ad G H,0,Z⟩)]:=by simp[C.ab,C.aK]
 have j:=R1.put (U d.tf) (.fn d.g [.loc H 0]);rw[cc] at j;obtain⟨z,ag⟩:∃z:Deferred,z={target:=.fn (.func d.g) #[.pointer (U ⟨ad G H,0,Z⟩)],args:= #[]}:=⟨_,rfl⟩;have cl:eU p.w0 ⟨[],[],E,[z]⟩ s1.pd O1.y [z] m:=by
  have h:=R1.dO;rw[al] at h;exact⟨h.len,h.ut,h.eO,h.inj,[],rfl,λ_=>rfl,aw,λd hd=>by simp at hd⟩
 have cO:(s1.put (U d.tf) (.fn d.g [.loc H 0])).pd=s1.pd:=rfl;have R2:aE p.S0 p.w0 ⟨[],[],E,[z]⟩ cf.ty G O1 (s1.put (U d.tf) (.fn d.g [.loc H 0])) {r.put (U d.tf) (.func (.func d.g) #[] #[.pointer (U ⟨ad G H,0,Z⟩)]) with defers:=[z]} m:=
  ⟨j.mem,j.gX,j.ei,j.eb,j.er,cl,j.size,j.tmps,j.gH⟩
 refine ada (Ei (n:=0) (wpIn_region ?_));have cn:fj (#[a,o2]:dU).size=[0,1]:=rfl;rw[cn];have e1:(execOp r.eval a).run p.P m=.ok (.value (.func (.func d.g) #[] #[.pointer (U ⟨ad G H,0,Z⟩)])) m:=by
  have:r.eval (.tmp d.te)=.pointer (U ⟨ad G H,0,Z⟩):=by simp[Act.eval,aKj,b8]
  simp[execOp,g1,this,Instr.makeFunc]
 have e2:(execOp (r.put (U d.tf) (.func (.func d.g) #[] #[.pointer (U ⟨ad G H,0,Z⟩)])).eval o2).run p.P m=.ok (.defer z) m:=by
  have cp:d.tf<r.tmps.size:=by rw[R1.size];exact b7
  have:(r.put (U d.tf) (.func (.func d.g) #[] #[.pointer (U ⟨ad G H,0,Z⟩)])).eval (.tmp d.tf)=.func (.func d.g) #[] #[.pointer (U ⟨ad G H,0,Z⟩)]:=by
   simp[Act.eval,Act.put,aKj,cp]
  simp[execOp,g6,resolve,g7,g8,this,Deferred.ofValue,ag]
 have cs:nC a (yielded #[a,o2] r.tmps)=true:=by simp[nC,g5]
 have ct:∀X,nC o2 X=true:=λX=>by simp[nC,g9]
 have cv:∀c',a.op≠ .defer c':=λc' bd=>by rw[g1] at bd;cases bd
 have hF:=Eh Z;show wpOpsIn _ 0 p.P #[a,o2] _ [0,1] r m;simp only[wpOpsIn,aw0,Ds,ud,cs,ct,cN];refine⟨λv _=>hF.fn v, ?_⟩;rw[BJ _ _ _ cv,e1,Oper.uponIn_value,g4];refine⟨λv _=>hF.fn v, ?_⟩;rw[show(VD Z).round=Z from rfl,Oper.semAt_none,e2,Oper.uponIn_defer];have cx:({(r.put (U d.tf) (.func (.func d.g) #[] #[.pointer (U ⟨ad G H,0,Z⟩)])) with defers:=z::(r.put (U d.tf) (.func (.func d.g) #[] #[.pointer (U ⟨ad G H,0,Z⟩)])).defers}:Act).put o2.dst undef={r.put (U d.tf) (.func (.func d.g) #[] #[.pointer (U ⟨ad G H,0,Z⟩)]) with defers:=[z]}:=by
  rw[b2];have:(r.put (U d.tf) (.func (.func d.g) #[] #[.pointer (U ⟨ad G H,0,Z⟩)])).defers=[]:=ca;rw[this];rfl
 rw[cx];show lj Z v p.P d.rest (bodyPostM Fence.wide 0 p.P F p.R) _ m;have cy:(ml.mk (s1.put (U d.tf) (.fn d.g [.loc H 0])) O1 G L1).sU (s1.put (U d.tf) (.fn d.g [.loc H 0])) O1 G L1:=ml.here _ _ _ _;refine(VT b B).1 ⟨[],[],E,[z]⟩ _ j6 Z v d.rest _ _ L1 O1 G _ m _ (I6 _ _) cy rfl (λhh=>by cases hh) ⟨F,hf⟩ ac R2 ((hg.ext a3.ext).ext qU.ext) (λch q o pd X hA hR=>(a0 ch o hR).elim) ?_;intro e s' O' V' q o L' hl hL RR A;obtain⟨bf,q1,q0,q2,q3⟩:=RR.dO.oa;have R3:=RR.sW q1;have cR:({q with defers:=[z]}:Act)={q with defers:=[z]}:=rfl;have bg:∀d0∈bf,o.heap[d0]?=U (.deferred (U [])):=λd0 cA=>(q3 d0 (by simp[cA])).1
 have bk:bf.Nodup:=(zS.1 q2).1;have bl:ad V' H=ad G H:=hl.ext.ad H b6;have br:∀Wx,(invoke z.target z.args).run p.P Wx=.ok (.enter d.g #[.pointer (U ⟨ad G H,0,Z⟩)]) Wx:=λWx=>by
  rw[ag];simp[invoke,dH.D6]
 have bs:∀s2:S,∀Wx,aE p.S0 p.w0 ⟨[],[],E,[z]⟩ cf.ty V' O' s2 {q with defers:=[z]} Wx->(Lr cf (Y t.ao) F.results.toList s2).ba p O' L'->LeavesInM Fence.wide 0 p.P F q.tmps p.R [] .returning Wx:=by
  intro s2 Wx R4 af;unfold Lr at af;split at af;rename_i L cB;refine⟨_,PN R4 b.mN cB, ?_⟩;exact af O'.y V' _ (by rw[b.pt];exact(R4.mem.take _).nN (VN _));exact af.elim
 have bx:(Lr cf (Y t.ao) F.results.toList s').ba p O' L'->LeavesInM Fence.wide 0 p.P F q.tmps p.R q.defers .returning o:=by
  intro af;rw[q1];refine vP aw bk bg ⟨aw,.inr ⟨by simp[Fence.wide],_,_,_,_,by rw[ag],br _,λg hg=>trivial, ?_⟩⟩;refine(dH.ret _ _).mono ?_;rintro en u W4 ⟨⟨M,rfl⟩,rfl,rfl⟩;exact bs s' _ R3 af
 cases e with
 |normal=>exact bx A
 |ret=>exact bx A
 |exit id=>exact A.elim
 |bD M=>
  simp only[abN] at A;split at A;rename_i tt x;split at A;rename_i bt X b0;split at A;rename_i b1;simp only[aA,du] at b1;obtain⟨rfl,rfl⟩:=b1;have an:=R3.mem.box H bt _ b0;rw[uw bb] at an;rw[bl] at an;show LeavesInM Fence.wide 0 p.P F q.tmps p.R q.defers (.panicking _) o;rw[q1];refine vP aw bk bg ⟨aw,.inr ⟨by simp[Fence.wide],_,_,_,_,by rw[ag],br _,λg hg=>trivial, ?_⟩⟩;refine(dH.bD _ (ad G H) (X.ab O') (x.ab O') an).mono ?_;rintro en u W4 ⟨⟨M,rfl⟩,rfl,rfl⟩;have R4:=R3.alc (cs':=[.int I x]) b0;rw[uw bb,bl] at R4;exact bs _ _ R4 A;exact A.elim;exact A.elim;exact A.elim
 exact ac.elim;exact ac.elim
end
def qj:T->T
 |.bi _ t _=>t
 |.bA _ t=>t
 |.call _ _ _ _ _ _ t=>t
 |.loop _ _ _ t=>t
 |.new _ _ _ _ t=>t
 |.ae _ _ _ t=>t
 |.gA _ _ t _=>t
 |.pick _ _ _ t _=>t
 |.ez _ _ _ _ _ _ _ t=>t
 |t=>t
def Mu:T->T
 |.bi _ _ t=>t
 |.gA _ _ _ t=>t
 |.pick _ _ _ _ t=>t
 |t=>t
def s5(g t:T):T:=match g with
 |.stuck m=>.stuck m
 |_=>t
def T.cut(t:T):T->T:=T.rec (motive:=λ_=>T->T) (λe s g=>s5 g (.out e s)) (λv b r g=>s5 g (.ret v b r)) (λv g=>s5 g (.bD v)) (λb _ _ X W g=>s5 g (.bi b (X (qj g)) (W (Mu g)))) (λb _ X g=>s5 g (.bA b (X (qj g)))) (λf a b r k s _ X g=>s5 g (.call f a b r k s (X (qj g)))) (λl k x _ X g=>s5 g (.loop l k x (X (qj g)))) (λl x g=>s5 g (.back l x)) (λe x r V _ X g=>s5 g (.new e x r V (X (qj g)))) (λk x r _ X g=>s5 g (.ae k x r (X (qj g)))) (λb c _ _ X W g=>s5 g (.gA b c (X (qj g)) (W (Mu g)))) (λn b c _ _ X W g=>s5 g (.pick n b c (X (qj g)) (W (Mu g)))) (λf R e Q O r N _ X g=>s5 g (.ez f R e Q O r N (X (qj g)))) (λm g=>s5 g (.stuck m)) t
def vT{p:Sp}{g t:T}(h:(s5 g t).ba p N k):t.ba p N k:=by
 unfold s5 at h;split at h;exact h.elim;exact h
def xB{p:Sp}:∀(t g:T)(O:ai)(L:dP),(t.cut g).ba p O L->t.ba p O L
 |.out _ _,_,_,_,h=>vT h
 |.ret _ _ _,_,_,_,h=>vT h
 |.bD _,_,_,_,h=>vT h
 |.back _ _,_,_,_,h=>vT h
 |.stuck _,_,_,_,h=>vT h
 |.bi b t f,g,O,L,h=>by
  have h:=vT (g:=g) (t:=.bi b (t.cut (qj g)) (f.cut (Mu g))) h;exact⟨λe=>xB _ _ _ _ (h.1 e),λe=>xB _ _ _ _ (h.2 e)⟩
 |.bA b t,g,O,L,h=>by
  have h:=vT (g:=g) (t:=.bA b (t.cut (qj g))) h;exact⟨h.1,xB _ _ _ _ h.2⟩
 |.call f a b r k s t,g,O,L,h=>by
  have h:=vT (g:=g) (t:=.call f a b r k s (t.cut (qj g))) h;intro y V W H;refine(h y V W H).mono λe W' N=> ?_
  cases e with
  |returned v=>
   obtain⟨M,R,Q,F,D,B⟩:=N;exact⟨M,R,Q,F,D,xB _ _ _ _ B⟩
  |panicked c=>exact N
  |outgrown=>exact N
 |.loop l k x t,g,O,L,h=>by
  have h:=vT (g:=g) (t:=.loop l k x (t.cut (qj g))) h;obtain⟨X,A,R,Q⟩:=h;exact⟨X,A,R,λM a b=>xB _ _ _ _ (Q M a b)⟩
 |.new e x r z t,g,O,L,h=>by
  have h:=vT (g:=g) (t:=.new e x r z (t.cut (qj g))) h;exact λw a=>xB _ _ _ _ (h w a)
 |.ae k x r t,g,O,L,h=>by
  have h:=vT (g:=g) (t:=.ae k x r (t.cut (qj g))) h;exact xB t (qj g) _ _ h
 |.gA b c t f,g,O,L,h=>by
  have h:=vT (g:=g) (t:=.gA b c (t.cut (qj g)) (f.cut (Mu g))) h;exact⟨λe=>xB _ _ _ _ (h.1 e),λe=>xB _ _ _ _ (h.2 e)⟩
 |.pick n b c t f,g,O,L,h=>by
  have h:=vT (g:=g) (t:=.pick n b c (t.cut (qj g)) (f.cut (Mu g))) h;exact⟨λj u a2 q=>xB _ _ _ _ (h.1 j u a2 q),λe=>xB _ _ _ _ (h.2 e)⟩
 |.ez f o e m i r d t,g,O,L,h=>by
  have h:=vT (g:=g) (t:=.ez f o e m i r d (t.cut (qj g))) h;obtain⟨ac,R,Q⟩:=h;exact⟨ac,R,xB _ _ _ _ Q⟩
def ctE(c:Bool)(g t:T):T:=cond c (t.cut g) t
def aAU{p:Sp}{c:Bool}{g:T}(h:(ctE c g n).ba p N k):n.ba p N k:=by
 cases c;exact h;exact xB _ _ _ _ h
section
variable{P:Program}{u:Ty}{M Q:FuncId->j5}{bC:og}{G:World->Prop}{H A:kw}{X z:aY}
structure Qp(u:Ty)(gl:nD)(glk:bz)(glv:aM)(W:World)(glw:aM):Prop where
 len:Y glv=Y glw
 eq:∀(k:Nat)(v v':RV),glv[k]?=U v->glw[k]?=U v'->dD v v'
 held:∀(k:Nat)(e:RK)(rv:RV),glk[k]?=U e->glw[k]?=U rv->bI W u e rv
 anZ:∀xs,fO gl (gI glw xs)
def an1{cf:bL}{x:aM}{l:ap}{nb:Nat}{F:bz}
  (ag:cf.ty=u)(al:∀f,Jc P u M Q G f (bC f))(hG:∀e W',Below e.heap.size e W'->G e->G W')(an:jp u H=U X)
  (hl:kN u A w=U l)(a0:uC 0 0 (Y x) z l=J)(cG:F=r++kj z)(a1:∀(k:Nat)(n:TypeId),F[k]?≠U (.own n))(a3:Y x=Y r)(d:x=[]\/xz X=J)
  (a4:∀O R,fq z R->(gI O R).i.length=B)(a9:∀O R,fq z R->(gI O R).b.length=nb)
   (bb:G e){O:aM}(s:Qp u cf.gl r x e O){xh R:bn}{N:Nat}(hN:run u M Q bC H N n (gI x xh) F []=U g)(hx:Cj xh R)(p:fq z R)(hH:Av u e z R):
  n.ba (Qk P u e H X z R g) (gI O R) []/\C.aK (gI O R) [] w=xw u A (qi z R)/\aE [] e cF.none cf.ty [] (gI O R) ⟨[],[],B,nb,F,0,0,[]⟩ ⟨#[],[]⟩ e:=by
 have ac:Y O=Y r:=by rw[<-s.len];exact a3
 have hv:C.aK (gI O R) [] w=xw u A (qi z R):=by
  rw[V9 hl,gI,Qg (by rw[<-s.len];exact a0) p rfl rfl rfl]
 have af:(gI O R).r.length=Y F:=by rw[cG];exact Qi p ac
 have hS:lI (gI x xh) (gI O R):=lI.ext ⟨rfl,rfl,s.len,λk v v' g1 g2=>s.eq k v v' g1 g2⟩ hx;have bd:n.ba (Qk P u e H X z R g) (gI O R) []:=by
  refine aAO (old:=λb=>Au u z R b\/O≠[]) al hG bb an (λys b m c=> ?_) N n _ _ F [] [] hN hS af ?_ (xx.nil _);rcases c with c|c;exact c;rcases d with d|d;subst d;have:O=[]:=wS.1 (by rw[<-s.len];rfl);exact aG this c;exact(anW d m).elim;rw[cG];refine Jb.ext (λb m=> ?_) p ac (λb m=>.inr (.inl m));obtain⟨k,V,hk,hl⟩:=m;refine .inr (.inr (λhe=> ?_));subst he;have:=(cj.1 hk).1;simp at ac;omega
 have bf:∀(k:Nat)(V:RK)(L:RV),F[k]?=U V->(gI O R).r[k]?=U L->bI e u V L:=by
  intro k V L g1 g2;have:=IZ (PP:=λV L=>bI e u V L) z R ⟨[],[],0,0,r,0,0,[]⟩ ⟨[],[],O,[]⟩ p ac (λq V L D a=>hH q V L D a) (λk V L D a=>s.held k V L D a);rw[We] at this;exact this k V L (by rw[<-cG];exact g1) g2
 exact⟨bd,hv,⟨⟨iu.refl _ _,λi h=>by simp[aW,dC] at h,λi j h=>by simp[aW,dC] at h,λi n cs h=>by simp[dC] at h,λk V L D a=>⟨by rw[ag];exact bf k V L D a,λb m i hi=>by simp[aW,dC] at hi⟩⟩,rfl,a4 _ R p,a9 _ R p,af,by rw[show(gI O R).y=[] from LX R _];exact Wa _ _,rfl,λn sv h=>by simp at h,λk V L b D=>aG D (a1 k V)⟩⟩
def aAV{cf:bL}{y:Func}{c:Code}{F:bn->ll}{glk:bz}{glv:aM}{l:ap}{x s:Nat}
  (ag:∀V R,(∀q W b o,V.heap.size<=b->R (.panicked q) W->R (.panicked q) (W.putObj b o))->mq ⟨P,u,[],V,cF.none,R,λ_ _ _=>False⟩ cf)(al:cf.ty=u)(an:∀v,Jc P u M Q G v (bC v))(hG:∀W m,Below W.heap.size W m->G W->G m)
  (hf:P.funcs[v]?=U y)(hb:y.body=U c)(a0:M v=U A)(a1:Q v=U H)(a3:jp u A=U z)(j:jp u H=U X)
  (hl:kN u A w=U l)(a4:uC 0 0 (Y glv) z l=J)(cG:r=glk++kj z)(a9:∀(k:Nat)(n:TypeId),r[k]?≠U (.own n))(bb:Y glv=Y glk)(hq:glv=[]\/xz X=J)
  (bd:∀D L,fq z L->(gI D L).i.length=x)(bf:∀D L,fq z L->(gI D L).b.length=s)
  (bg:∀W,G W->∃D,Qp u cf.gl glk glv W D)
  (ht:∀(p:Sp)(O:ai),n.ba p O []->(Pl cf B v c y.ntmps y.results.toList w ⟨[],[],x,s,r,0,0,[]⟩).ba p O [])
  (hF:∀L o,fq z L->F L=U o->∃N,run u M Q bC H N n (gI glv L) r []=U o):Jc P u M Q G v F:=by
 intro bl br bs bt h g e d xh L o ho a ac W af hH;rw[a0] at h;cases h;rw[a1] at g;cases g;rw[a3] at e;cases e;rw[j] at d;cases d;obtain⟨N,hN⟩:=hF xh o (adM ac a) ho;obtain⟨D,hL⟩:=bg W af;obtain⟨bk,hv,hR⟩:=an1 al an hG j hl a4 cG a9 bb hq bd bf af hL hN a ac hH;rw[<-hv];exact anl (p:=Qk P u W H X z L o) (cf:=cf) (ag W _ (anU W)) hf hb rfl (ht _ _ bk) (hL.anZ L) hR
def aAW{cf:bL}{s:Func}{c:Code}{F:bn->ll}{glk:bz}{glv:aM}{V:ap}{h e:Nat}{d:DI}
  (ag:∀L R,(∀q W b o,L.heap.size<=b->R (.panicked q) W->R (.panicked q) (W.putObj b o))->mq ⟨P,u,[],L,cF.none,R,λ_ _ _=>False⟩ cf)(al:cf.ty=u)(an:∀v,Jc P u M Q G v (bC v))(hG:∀W m,Below W.heap.size W m->G W->G m)
  (hf:P.funcs[v]?=U s)(hb:s.body=U c)(hd:xg c=U d)(dH:s4 P d.g l)(a0:M v=U A)(a1:Q v=U H)(a3:jp u A=U z)(a:jp u H=U X)
  (hl:kN u A w=U V)(a4:uC 0 0 (Y glv) z V=J)(cG:r=glk++kj z)(a9:∀(k:Nat)(n:TypeId),r[k]?≠U (.own n))(bb:Y glv=Y glk)(hq:glv=[]\/xz X=J)
  (bd:∀x y,fq z y->(gI x y).i.length=h)(bf:∀x y,fq z y->(gI x y).b.length=e)
  (bg:∀W,G W->∃x,Qp u cf.gl glk glv W x)
  (ht:∀(p:Sp)(O:ai),n.ba p O []->(Pm cf B v c s.ntmps s.results.toList l w ⟨[],[],h,e,r,0,0,[]⟩).ba p O [])(bk:∀y D,F y≠U (.bD D))
  (hF:∀y o,fq z y->F y=U o->∃N,run u M Q bC H N n (gI glv y) r []=U o):Jc P u M Q G v F:=by
 intro br bs bt bx h1 h2 h3 h4 xh y o ho hx ac W af hH;rw[a0] at h1;cases h1;rw[a1] at h2;cases h2;rw[a3] at h3;cases h3;rw[a] at h4;cases h4;obtain⟨N,hN⟩:=hF xh o (adM ac hx) ho;obtain⟨x,hL⟩:=bg W af;obtain⟨bl,hv,j⟩:=an1 al an hG a hl a4 cG a9 bb hq bd bf af hL hN hx ac hH;rw[<-hv];refine aAT (p:=Qk P u W H X z y o) (cf:=cf) (ag W _ (anU W)) (λq m j=> ?_) hf hb hd dH rfl (ht _ _ bl) (hL.anZ y) j;obtain⟨-,D,h5,-⟩:=j;exact bk xh D (by rw[ho,h5])
end
def an2:Op->Bool
 |.move _|.assign _|.fieldAddr _ _ _|.field _ _ _|.load _ _|.indexAddr _ _ _|.build _ _|.index _ _ _|.unOp _ _ _|.convert _ _ _|.makeInterface _ _|.makeFunc _ _ _|.extract _ _|.nilCheck _|.alloc _|.box _ _|.pick _ _ _=>J
 |.binOp X _ _ _ _=>match X with
  |.eql|.neq=>E
  |_=>J
 |_=>E
def adQ(X:bL)(m:OM)(s:S):Bool:=(DF X m s).isSome
def aAX{X:bL}{m:OM}(h:adQ X m t=E):DF X m t=none:=by
 simpa[adQ] using h
def Wf(R:bL)(O:qO)(m:OM)(s:S)(X:S->Fx->T)(Q:C->S->T)(V:Fx):T:=
 if an2 m.o.op then match gN R m s with
  |.ok W=>X W V
  |.bA b W=>.bA b (X W V)
  |.split b N M=>DE s V b (X N) (X M)
  |.no L=>.stuck L
 else if adQ R m s then BW R O m s X Q V else match BU R m s with
 |U (e,H,G,P)=>FQ e (λg F=>O (.fn g) (P++F) s (λv W=>X (W.put m.o.dst v) (qa s V)) Q) H G
 |none=>
 match eN R s m.o with
 |.call (.fn g) P=>O (.fn g) P s (λv W=>X (W.put m.o.dst v) (qa s V)) Q
 |.call (.yl n) P=>if m.so then O (.yl n) P s (λv W=>X (W.put m.o.dst v) (qa s V)) Q else .stuck ""
 |.bD v=>Q v s
 |.no=>.stuck ""
 |.op=>match BT R m s X V with
  |U t=>t
  |none=>match eY R m.o m.bP m.dr s with
  |U b=>.bA b.bA (.new b.e b.x s.rs b.s.rs (X b.s (qa s V)))
  |none=>match gN R m s with
  |.ok W=>X W V
  |.bA b W=>.bA b (X W V)
  |.split b N M=>DE s V b (X N) (X M)
  |.no L=>.stuck L
def aAY(X:bL)(R:qO)(m:OM)(s:S)(Q:S->Fx->T)(P:C->S->T)(O:Fx):Wf X R m s Q P O=BW X R m s Q P O:=by
 unfold Wf;split;rename_i W;unfold BW;cases V:m.o.op<;>rw[V] at W<;>simp only[an2,jR] at W<;>try(simp[BU,DF,eN,BT,eY,V]<;>rfl)
 rename_i N t x y z;cases N<;>simp only[jR] at W<;>(simp[BU,DF,eN,BT,eY,V]<;>rfl);split;rfl;rename_i M;unfold BW;rw[aAX (by simpa using M)];cases BU X m s<;>rfl
def OM.up(n:Nat)(m:OM):OM:={m with ix:=m.ix+n}
def Wg(bP:Nat->Bool)(X W:Bool)(k:Nat):∀(l:qM)(j n:Nat),iG bP X W j (n+k) l=(iG bP X W j n l).map (OM.up k)
 |[],_,_=>rfl
 |o::r,j,n=>by
  simp only[iG,eW];congr 1;rw[<-Wg bP X W k r];congr 1;split<;>omega
def aAZ(k:Nat)(l:cU)(X:aq):K9 (l.map (OM.up k)) X=(K9 l X).map (OM.up k):=by
 simp only[K9,List.map_filterMap,dX]
def adR(k:Nat)(X:aq):∀l:cU,B3 X (l.map (OM.up k))=B3 X l
 |[]=>rfl
 |x::r=>by simp only[eW,B3,adR k X r,OL];rfl
def an3(k:Nat)(X:aq):∀(l W:cU),vJ X (W.map (OM.up k)) (l.map (OM.up k))=(vJ X W l).map (OM.up k)
 |[],_=>rfl
 |m::r,W=>by
  simp only[eW,vJ];congr 1;have h:=adR k X (m::r);simp only[eW] at h;rw[h,OL];rfl;rw[<-an3 k X r (W++[m]),OG];rfl
def an4(k:Nat)(X:dU):∀(l:cU)(done:aq),FU X done (l.map (OM.up k))=FU X done l
 |[],_=>rfl
 |x::r,done=>by simp only[eW,FU,an4 k X r];rfl
def aA0(k a b:Nat):(a+k !=b+k)=(a !=b):=by
 rw[vx];simp
def aA1(k:Nat)(X:dU)(x y:OM):vH X (OM.up k x) (OM.up k y)=vH X x y:=by
 have h:((OM.up k x).ix !=(OM.up k y).ix)=(x.ix !=y.ix):=aA0 k _ _;unfold vH K8 O8;rw[h];rfl
def an5(k:Nat)(X:dU)(W:aq):∀l:cU,FT X W (l.map (OM.up k))=FT X W l
 |[]=>rfl
 |x::r=>by
  simp only[eW,FT,an5 k X W r,OL];congr 2;funext y;simp only[Function.comp,aA1];rfl
def an6(k:Nat):∀l:aq,nG (l.map (· +k))=nG l
 |[]=>rfl
 |x::r=>by
  simp only[eW,nG,an6 k r];congr 2;rw[vx];simp
def ql(X:dU)(n:Nat):cU:=vJ (qb X.toList) [] (K9 (iG (Pa X.toList (qb X.toList)) E J 0 n X.toList) (O9 X.toList X.size []))
def aA2(X:dU)(n:Nat):ql X n=(ql X 0).map (OM.up n):=by
 unfold ql;rw[show iG (Pa X.toList (qb X.toList)) E J 0 n X.toList=(iG (Pa X.toList (qb X.toList)) E J 0 0 X.toList).map (OM.up n) by rw[<-Wg];simp,aAZ,<-an3];rfl
def adS(X:dU)(n:Nat):Option cU:=match La X 0 with
 |U l=>U (l.map (OM.up n))
 |none=>Z
def an7(X:dU)(n:Nat):La X n=if UA X.toList (qb X.toList)&&FU X [] (ql X n)&&FT X (qb X.toList) (ql X n)&&nG ((ql X n).filterMap (·.o.dst))&&nG ((ql X n).map (·.j))&&nG (((ql X n).filter λm=>gW m.o.op).map (·.ix))&&(ql X n).length==X.size&&(fj X.size).all (λi=>(ql X n).any λm=>m.j==i) then U (ql X n) else none:=rfl
def aA3(X:dU)(n:Nat):adS X n=La X n:=by
 unfold adS;rw[an7 X n,an7 X 0,aA2 X n,an4,an5];have V:((ql X 0).map (OM.up n)).filterMap (·.o.dst)=(ql X 0).filterMap (·.o.dst):=by rw[aKN];rfl
 have R:((ql X 0).map (OM.up n)).map (·.j)=(ql X 0).map (·.j):=by rw[pn];rfl
 have Q:(((ql X 0).map (OM.up n)).filter λm=>gW m.o.op).map (·.ix)=(((ql X 0).filter λm=>gW m.o.op).map (·.ix)).map (· +n):=by rw[axe,pn,pn];rfl
 have P:∀i,(((ql X 0).map (OM.up n)).any λm=>m.j==i)=((ql X 0).any λm=>m.j==i):=λi=>by rw[ajW];rfl
 rw[V,R,Q,an6,qJ];simp only[P];split;rename_i l h;split at h;rename_i W;cases h;rw[aL W];cases h;rename_i h;split at h;cases h;rename_i W;rw[aP W]
def an8(W:Bool)(X:dU)(n:Nat):DM W X n=(DM W X 0).map (OM.up n)/\DN W X n=(DN W X 0).map (OM.up n):=by
 unfold DM DN;rw[show iG (λ_=>E) E J 0 n X.toList=(iG (λ_=>E) E J 0 0 X.toList).map (OM.up n) by rw[<-Wg];simp,axe,axe];exact⟨rfl,rfl⟩
def aA4(W:Bool)(X:dU)(n:Nat):Li W X n=Li W X 0:=by
 unfold Li;obtain⟨V,R⟩:=an8 W X n;rw[V,R,show iG (λ_=>E) E J 0 n X.toList=(iG (λ_=>E) E J 0 0 X.toList).map (OM.up n) by rw[<-Wg];simp];unfold abG;rw[<-OG];have Q:∀l:cU,(l.map (OM.up n)).filterMap (·.o.dst)=l.filterMap (·.o.dst):=λl=>by rw[aKN];rfl
 have P:∀l:cU,(l.map (OM.up n)).map (·.j)=l.map (·.j):=λl=>by rw[pn];rfl
 rw[Q,P,qJ];simp only[OL,ajW,Function.comp_def];rfl
def Wh(V:bL)(W:Bool)(X:dU)(s:S):Option Pc:=
 if(!W||(abF V s X.toList||(V.nZ&&X.toList.any λo=>akg o.op))&&B3 (qb X.toList) (DN W X 0))&&Li W X 0 then(FY V ((DM W X 0).map (OM.up (Y s.ao))) (s.room (nF X.toList))).bind (chI V ((DM W X 0).map (OM.up (Y s.ao))) ((DN W X 0).map (OM.up (Y s.ao)))) else Z
def aA5(V:bL)(X:Bool)(W:dU)(s:S):Wh V X W s=Lj V X W s:=by
 unfold Wh Lj;obtain⟨Q,R⟩:=an8 X W (Y s.ao);rw[<-Q,<-R,aA4 X W (Y s.ao),R,adR]
def Jd{X:Type}(l:List X):(List X->T)->T:=zV (motive:=λ_=>(List X->T)->T) (λk=>k []) (λx _ W k=>W λV=>k (x::V)) l
def adT{W:Type}:∀(l:List W)(k:List W->T),Jd l k=k l
 |[],_=>rfl
 |x::X,k=>adT X λX=>k (x::X)
def cE(n:Nat)(k:Nat->T):T:=Ib (motive:=λ_=>T) (k 0) (λm _=>k (Nat.succ m)) n
def lq:∀(n:Nat)(k:Nat->T),cE n k=k n
 |0,_=>rfl
 |_+1,_=>rfl
def S.adU(s:S)(k:S->T):T:=S.rec (motive:=λ_=>T) (λX b W V R aC Q P=>Jd X λX=>Jd b λb=>cE W λW=>cE V λV=>Jd R λR=>cE aC λaC=>cE Q λQ=>Jd P λP=>k ⟨X,b,W,V,R,aC,Q,P⟩) s
def aA6(s:S)(k:S->T):s.adU k=k s:=by
 cases s;simp only[S.adU,adT,lq]
def Qq{X:Type}(l:List X)(k:List X->T):T:=zV (motive:=λ_=>T) (k []) (λx W _=>k (x::W)) l
def aA7{X:Type}(l:List X)(k:List X->T):Qq l k=k l:=by cases l<;>rfl
def S.adV(s:S)(k:S->T):T:=S.rec (motive:=λ_=>T) (λX b W V R aC Q P=>Qq X λX=>Qq b λb=>cE W λW=>cE V λV=>Qq R λR=>cE aC λaC=>cE Q λQ=>Qq P λP=>k ⟨X,b,W,V,R,aC,Q,P⟩) s
def aA8(s:S)(k:S->T):s.adV k=k s:=by
 cases s;simp only[S.adV,aA7,lq]
def Gk(X:bL)(W:qO)(V:dU)(k:S->T)(R:C->S->T):cU->S->Fx->T
 |[],s,_=>k s
 |m::Q,s,P=>s.adV λs=>Uv V m s P (Wf X W m s (Gk X W V k R Q) R) (Gk X W V k R Q (s.put m.o.dst (.b9 [])))
def Wi(X:bL)(W:qO)(R:dU)(k:S->T)(V:C->S->T):∀(l:cU),Gk X W R k V l=oF X W R k V l
 |[]=>by funext s P;rfl
 |m::Q=>by
  funext s P;have:Wf X W m s (Gk X W R k V Q) V=BW X W m s (oF X W R k V Q) V:=by
   funext P;rw[aAY,Wi X W R k V Q]
  simp only[Gk,oF,aA8];rw[this,Wi X W R k V Q]
def Qr(n:Int)(k:Int->T):T:=Int.rec (motive:=λ_=>T) (λn=>cE n λn=>k (aj1 n)) (λn=>cE n λn=>k (ajZ n)) n
def aA9:∀(n:Int)(k:Int->T),Qr n k=k n
 |.ofNat n,k=>lq n λn=>k (aj1 n)
 |.negSucc n,k=>lq n λn=>k (ajZ n)
def K.deep(e:K):(K->T)->T:=K.rec (motive_1:=λ_=>(K->T)->T) (motive_2:=λ_=>(BE->T)->T) (motive_3:=λ_=>(RE->T)->T) (λn k=>Qr n λn=>k (.c n)) (λn k=>cE n λn=>k (.v n)) (λo q a b X W k=>X λa=>W λb=>k (.bin o q a b)) (λq a X k=>X λa=>k (.conv q a)) (λr V k=>V λr=>k (.len r)) (λm a b X W k=>X λa=>W λb=>k (.mm m a b)) (λb x y W P O k=>W λb=>P λx=>O λy=>k (.dV b x y)) (λr i j V R k=>V λr=>R λi=>cE j λj=>k (.cell r i j)) (λr i V R k=>V λr=>R λi=>k (.nX r i)) (λr n a b c j V X W Q k=>V λr=>X λa=>W λb=>Q λc=>cE n λn=>cE j λj=>k (.look r n a b c j)) (λb k=>k (.c b)) (λn k=>cE n λn=>k (.v n)) (λo a b X W k=>X λa=>W λb=>k (.cmp o a b)) (λa X k=>X λa=>k (.not a)) (λa b X W k=>X λa=>W λb=>k (.and a b)) (λa b X W k=>X λa=>W λb=>k (.beq a b)) (λb x y W P O k=>W λb=>P λx=>O λy=>k (.dV b x y)) (λr i j V R k=>V λr=>R λi=>cE j λj=>k (.cell r i j)) (λa b X W k=>X λa=>W λb=>k (.seq a b)) (λr n a b c j V X W Q k=>V λr=>X λa=>W λb=>Q λc=>cE n λn=>cE j λj=>k (.look r n a b c j)) (λr n a b c V X W Q k=>V λr=>X λa=>W λb=>Q λc=>cE n λn=>k (.has r n a b c)) (λn k=>cE n λn=>k (.v n)) (λr i j q V R k=>V λr=>R λi=>cE j λj=>k (.cell r i j q)) (λv k=>k (.k v)) e
def BE.deep(e:BE):(BE->T)->T:=BE.rec (motive_1:=λ_=>(K->T)->T) (motive_2:=λ_=>(BE->T)->T) (motive_3:=λ_=>(RE->T)->T) (λn k=>Qr n λn=>k (.c n)) (λn k=>cE n λn=>k (.v n)) (λo q a b X W k=>X λa=>W λb=>k (.bin o q a b)) (λq a X k=>X λa=>k (.conv q a)) (λr V k=>V λr=>k (.len r)) (λm a b X W k=>X λa=>W λb=>k (.mm m a b)) (λb x y W P O k=>W λb=>P λx=>O λy=>k (.dV b x y)) (λr i j V R k=>V λr=>R λi=>cE j λj=>k (.cell r i j)) (λr i V R k=>V λr=>R λi=>k (.nX r i)) (λr n a b c j V X W Q k=>V λr=>X λa=>W λb=>Q λc=>cE n λn=>cE j λj=>k (.look r n a b c j)) (λb k=>k (.c b)) (λn k=>cE n λn=>k (.v n)) (λo a b X W k=>X λa=>W λb=>k (.cmp o a b)) (λa X k=>X λa=>k (.not a)) (λa b X W k=>X λa=>W λb=>k (.and a b)) (λa b X W k=>X λa=>W λb=>k (.beq a b)) (λb x y W P O k=>W λb=>P λx=>O λy=>k (.dV b x y)) (λr i j V R k=>V λr=>R λi=>cE j λj=>k (.cell r i j)) (λa b X W k=>X λa=>W λb=>k (.seq a b)) (λr n a b c j V X W Q k=>V λr=>X λa=>W λb=>Q λc=>cE n λn=>cE j λj=>k (.look r n a b c j)) (λr n a b c V X W Q k=>V λr=>X λa=>W λb=>Q λc=>cE n λn=>k (.has r n a b c)) (λn k=>cE n λn=>k (.v n)) (λr i j q V R k=>V λr=>R λi=>cE j λj=>k (.cell r i j q)) (λv k=>k (.k v)) e
def RE.deep(e:RE):(RE->T)->T:=RE.rec (motive_1:=λ_=>(K->T)->T) (motive_2:=λ_=>(BE->T)->T) (motive_3:=λ_=>(RE->T)->T) (λn k=>Qr n λn=>k (.c n)) (λn k=>cE n λn=>k (.v n)) (λo q a b X W k=>X λa=>W λb=>k (.bin o q a b)) (λq a X k=>X λa=>k (.conv q a)) (λr V k=>V λr=>k (.len r)) (λm a b X W k=>X λa=>W λb=>k (.mm m a b)) (λb x y W P O k=>W λb=>P λx=>O λy=>k (.dV b x y)) (λr i j V R k=>V λr=>R λi=>cE j λj=>k (.cell r i j)) (λr i V R k=>V λr=>R λi=>k (.nX r i)) (λr n a b c j V X W Q k=>V λr=>X λa=>W λb=>Q λc=>cE n λn=>cE j λj=>k (.look r n a b c j)) (λb k=>k (.c b)) (λn k=>cE n λn=>k (.v n)) (λo a b X W k=>X λa=>W λb=>k (.cmp o a b)) (λa X k=>X λa=>k (.not a)) (λa b X W k=>X λa=>W λb=>k (.and a b)) (λa b X W k=>X λa=>W λb=>k (.beq a b)) (λb x y W P O k=>W λb=>P λx=>O λy=>k (.dV b x y)) (λr i j V R k=>V λr=>R λi=>cE j λj=>k (.cell r i j)) (λa b X W k=>X λa=>W λb=>k (.seq a b)) (λr n a b c j V X W Q k=>V λr=>X λa=>W λb=>Q λc=>cE n λn=>cE j λj=>k (.look r n a b c j)) (λr n a b c V X W Q k=>V λr=>X λa=>W λb=>Q λc=>cE n λn=>k (.has r n a b c)) (λn k=>cE n λn=>k (.v n)) (λr i j q V R k=>V λr=>R λi=>cE j λj=>k (.cell r i j q)) (λv k=>k (.k v)) e
mutual
def K.fG:∀(e:K)(k:K->T),e.deep k=k e
 |.c n,k=>by show(Qr n λn=>k (.c n))=_;rw[aA9]
 |.v n,k=>by show(cE n λn=>k (.v n))=_;rw[lq]
 |.bin o q a b,k=>by show(K.deep a λa=>K.deep b λb=>k (.bin o q a b))=_;rw[K.fG a,K.fG b]
 |.conv q a,k=>by show(K.deep a λa=>k (.conv q a))=_;rw[K.fG a]
 |.len r,k=>by show(RE.deep r λr=>k (.len r))=_;rw[RE.fG r]
 |.mm m a b,k=>by show(K.deep a λa=>K.deep b λb=>k (.mm m a b))=_;rw[K.fG a,K.fG b]
 |.dV b x y,k=>by show(BE.deep b λb=>K.deep x λx=>K.deep y λy=>k (.dV b x y))=_;rw[BE.fG b,K.fG x,K.fG y]
 |.cell r i j,k=>by show(RE.deep r λr=>K.deep i λi=>cE j λj=>k (.cell r i j))=_;rw[RE.fG r,K.fG i,lq]
 |.nX r i,k=>by show(RE.deep r λr=>K.deep i λi=>k (.nX r i))=_;rw[RE.fG r,K.fG i]
 |.look r n a b c j,k=>by show(RE.deep r λr=>K.deep a λa=>K.deep b λb=>K.deep c λc=>cE n λn=>cE j λj=>k (.look r n a b c j))=_;rw[RE.fG r,K.fG a,K.fG b,K.fG c,lq,lq]
def BE.fG:∀(e:BE)(k:BE->T),e.deep k=k e
 |.c b,k=>rfl
 |.v n,k=>by show(cE n λn=>k (.v n))=_;rw[lq]
 |.cmp o a b,k=>by show(K.deep a λa=>K.deep b λb=>k (.cmp o a b))=_;rw[K.fG a,K.fG b]
 |.not a,k=>by show(BE.deep a λa=>k (.not a))=_;rw[BE.fG a]
 |.and a b,k=>by show(BE.deep a λa=>BE.deep b λb=>k (.and a b))=_;rw[BE.fG a,BE.fG b]
 |.beq a b,k=>by show(BE.deep a λa=>BE.deep b λb=>k (.beq a b))=_;rw[BE.fG a,BE.fG b]
 |.dV b x y,k=>by show(BE.deep b λb=>BE.deep x λx=>BE.deep y λy=>k (.dV b x y))=_;rw[BE.fG b,BE.fG x,BE.fG y]
 |.cell r i j,k=>by show(RE.deep r λr=>K.deep i λi=>cE j λj=>k (.cell r i j))=_;rw[RE.fG r,K.fG i,lq]
 |.seq a b,k=>by show(RE.deep a λa=>RE.deep b λb=>k (.seq a b))=_;rw[RE.fG a,RE.fG b]
 |.look r n a b c j,k=>by show(RE.deep r λr=>K.deep a λa=>K.deep b λb=>K.deep c λc=>cE n λn=>cE j λj=>k (.look r n a b c j))=_;rw[RE.fG r,K.fG a,K.fG b,K.fG c,lq,lq]
 |.has r n a b c,k=>by show(RE.deep r λr=>K.deep a λa=>K.deep b λb=>K.deep c λc=>cE n λn=>k (.has r n a b c))=_;rw[RE.fG r,K.fG a,K.fG b,K.fG c,lq]
def RE.fG:∀(e:RE)(k:RE->T),e.deep k=k e
 |.v n,k=>by show(cE n λn=>k (.v n))=_;rw[lq]
 |.cell r i j q,k=>by show(RE.deep r λr=>K.deep i λi=>cE j λj=>k (.cell r i j q))=_;rw[RE.fG r,K.fG i,lq]
 |.k v,k=>rfl
end
def C.deep(v:C):(C->T)->T:=C.rec (motive_1:=λ_=>(C->T)->T) (motive_2:=λ_=>(ap->T)->T) (λq e k=>e.deep λe=>k (.int q e)) (λb k=>b.deep λb=>k (.bool b)) (λr k=>r.deep λr=>k (.aj r)) (λi o k=>cE i λi=>cE o λo=>k (.loc i o)) (λr w i o k=>r.deep λr=>i.deep λi=>cE w λw=>cE o λo=>k (.el r w i o)) (λi o l c k=>cE i λi=>cE o λo=>cE l λl=>cE c λc=>k (.jM i o l c)) (λl X k=>X λl=>k (.agg l)) (λl X k=>X λl=>k (.b9 l)) (λf l X k=>X λl=>cE f λf=>k (.fn f l)) (λt x W k=>W λx=>k (.gF t x)) (λn k=>cE n λn=>k (.yl n)) (λk=>k .any) (λi k=>cE i λi=>k (.mp i)) (λe R V Q k=>e.deep λe=>Q λV=>k (.gz e R V)) (λk=>k []) (λ_ _ W P k=>W λx=>P λO=>k (x::O)) v
def C.En(l:ap):(ap->T)->T:=C.rec_1 (motive_1:=λ_=>(C->T)->T) (motive_2:=λ_=>(ap->T)->T) (λq e k=>e.deep λe=>k (.int q e)) (λb k=>b.deep λb=>k (.bool b)) (λr k=>r.deep λr=>k (.aj r)) (λi o k=>cE i λi=>cE o λo=>k (.loc i o)) (λr w i o k=>r.deep λr=>i.deep λi=>cE w λw=>cE o λo=>k (.el r w i o)) (λi o l c k=>cE i λi=>cE o λo=>cE l λl=>cE c λc=>k (.jM i o l c)) (λl X k=>X λl=>k (.agg l)) (λl X k=>X λl=>k (.b9 l)) (λf l X k=>X λl=>cE f λf=>k (.fn f l)) (λt x W k=>W λx=>k (.gF t x)) (λn k=>cE n λn=>k (.yl n)) (λk=>k .any) (λi k=>cE i λi=>k (.mp i)) (λe R V Q k=>e.deep λe=>Q λV=>k (.gz e R V)) (λk=>k []) (λ_ _ W P k=>W λx=>P λO=>k (x::O)) l
mutual
def C.fG:∀(v:C)(k:C->T),v.deep k=k v
 |.int q e,k=>by show(K.deep e λe=>k (.int q e))=_;rw[K.fG]
 |.bool b,k=>by show(BE.deep b λb=>k (.bool b))=_;rw[BE.fG]
 |.aj r,k=>by show(RE.deep r λr=>k (.aj r))=_;rw[RE.fG]
 |.loc i o,k=>by show(cE i λi=>cE o λo=>k (.loc i o))=_;rw[lq,lq]
 |.el r w i o,k=>by show(RE.deep r λr=>K.deep i λi=>cE w λw=>cE o λo=>k (.el r w i o))=_;rw[RE.fG,K.fG,lq,lq]
 |.jM i o l c,k=>by show(cE i λi=>cE o λo=>cE l λl=>cE c λc=>k (.jM i o l c))=_;rw[lq,lq,lq,lq]
 |.agg l,k=>by show(C.En l λl=>k (.agg l))=_;rw[C.Je l]
 |.b9 l,k=>by show(C.En l λl=>k (.b9 l))=_;rw[C.Je l]
 |.fn f l,k=>by show(C.En l λl=>cE f λf=>k (.fn f l))=_;rw[C.Je l,lq]
 |.gF t x,k=>by show(C.deep x λx=>k (.gF t x))=_;rw[C.fG x]
 |.yl n,k=>by show(cE n λn=>k (.yl n))=_;rw[lq]
 |.any,k=>rfl
 |.mp i,k=>by show(cE i λi=>k (.mp i))=_;rw[lq]
 |.gz e W X,k=>by show(K.deep e λe=>C.En X λX=>k (.gz e W X))=_;rw[K.fG,C.Je X]
def C.Je:∀(l:ap)(k:ap->T),C.En l k=k l
 |[],k=>rfl
 |x::X,k=>by show(C.deep x λx=>C.En X λX=>k (x::X))=_;rw[C.fG x,C.Je X]
end
def adW(l:bK):(bK->T)->T:=zV (motive:=λ_=>(bK->T)->T) (λk=>k []) (λx _ V k=>Option.rec (motive:=λ_=>T) (V λX=>k (Z::X)) (λb=>Prod.rec (motive:=λ_=>T) (λt W=>cE t λt=>C.En W λW=>V λX=>k (U (t,W)::X)) b) x) l
def adX:∀(l:bK)(k:bK->T),adW l k=k l
 |[],_=>rfl
 |Z::X,k=>adX X _
 |U (t,W)::X,k=>by
  show(cE t λt=>C.En W λW=>adW X λX=>k (U (t,W)::X))=_;rw[lq,C.Je,adX]
def S.deep(s:S)(k:S->T):T:=S.rec (motive:=λ_=>T) (λX b W V R aC Q P=>C.En X λX=>adW b λb=>cE W λW=>cE V λV=>Jd R λR=>cE aC λaC=>cE Q λQ=>Jd P λP=>k ⟨X,b,W,V,R,aC,Q,P⟩) s
def fG(s:S)(k:S->T):s.deep k=k s:=by
 cases s;simp only[S.deep,adT,lq,C.Je,adX]
def adY(k:XE->S->T):XE->S->T:=λe s=>s.deep (k e)
def aBa(k:XE->S->T):adY k=k:=by funext e s;exact fG s (k e)
def qm(l:aq):Nat:=zV (motive:=λ_=>Nat) 0 (λd _ m=>cd (mF 1 d) m) l
def Gl(m n:Nat):Bool:=KS (motive:=λ_=>Bool) J E (jL (Nat.land 1 (axj m n)) 0)
def an9(m n:Nat):Gl m n=m.testBit n:=by
 have:m.testBit n= !(jL (Nat.land 1 (axj m n)) 0):=by
  show((1&&&(m>>>n))!=0)= !(jL (1&&&(m>>>n)) 0);cases h:jL (1&&&(m>>>n)) 0 with
  |true=>rw[aKy h];rfl
  |false=>simp only[bne,ajU,iK,beq_eq_false_iff_ne];exact λe=>by rw[e] at h;cases h
 rw[this,Gl];cases jL (Nat.land 1 (axj m n)) 0<;>rfl
def Wj:∀(l:aq)(n:Nat),(qm l).testBit n=l.contains n
 |[],n=>by simp[qm]
 |d::l,n=>by
  have:qm (d::l)=(1<<<d)|||qm l:=rfl;rw[this,FG,Wj l n,aw8,aKF];rw[vx];simp only[jy,cz,qH,dS];exact⟨λh=>h.imp Eq.symm id,λh=>h.imp Eq.symm id⟩
def aBb(l:aq)(n:Nat):Gl (qm l) n=l.contains n:=by rw[an9,Wj]
def Wk(a:fU)(m X:Nat)(W:ap):Nat->ap->ap
 |_,[]=>[]
 |n,x::V=>(if Gl X n then(xf n a.tm W).getD (if Gl m n then .any else x) else if Gl m n then .any else x)::Wk a m X W (n+1) V
def aoa{n:Nat}:∀{W:List (Nat×LK)}{X:ap},(W.map (·.1)).contains n=E->xf n W X=Z
 |[],X,_=>by cases X<;>rfl
 |(t,k)::r,[],_=>rfl
 |(t,k)::r,v::R,h=>by
  simp only[eW,List.contains_cons,wT] at h;have V:(t==n)=false:=by
   have:=h.1;simp only[beq_eq_false_iff_ne,ne_eq] at this⊢;exact λe=>this e.symm
  simp only[xf,V,jR,gD];exact aoa h.2
def aob(a:fU)(X:aq)(W:ap):∀(n:Nat)(l:ap),Wk a (qm X) (qm (a.tm.map (·.1))) W n l=BY a X W n l
 |_,[]=>rfl
 |n,x::V=>by
  simp only[Wk,BY,aob a X W (n+1) V,aBb];cases R:(a.tm.map (·.1)).contains n with
  |true=>rfl
  |false=>rw[aoa R];rfl
def Qs(m:Nat):Nat->ap->ap->Bool
 |_,[],[]=>J
 |n,x::X,y::W=>(Gl m n||C.aU x y)&&Qs m (n+1) X W
 |_,_,_=>E
def adZ(a:fU)(X:aq):∀(n:Nat)(l k:ap),Qs (cd (qm X) (qm (a.tm.map (·.1)))) n l k=z7 a X n l k
 |_,[],[]=>rfl
 |_,[],_::_=>rfl
 |_,_::_,[]=>rfl
 |n,x::W,y::V=>by
  simp only[Qs,z7,adZ a X (n+1) W V];congr 1;have:Gl (cd (qm X) (qm (a.tm.map (·.1)))) n=(a.tm.any (·.1==n)||X.contains n):=by
   rw[an9];change((qm X)|||(qm (a.tm.map (·.1)))).testBit n=_;rw[FG,Wj,Wj,Bool.or_comm];congr 1;rw[vx,qH,lT];simp only[iL,du]
  rw[this]
def ad0(a:fU)(X:aq)(s:S):S:=
 let r:ap×S:=S.cK {s with aC:=s.aC+1,rs:=jV a s} a.ks
 {r.2 with tmps:=Wk a (qm X) (qm (a.tm.map (·.1))) r.1 0 s.tmps,ao:=vF a (r.1.drop (Y a.tm)) 0 s.ao}
def aBc(a:fU)(X:aq)(s:S):ad0 a X s=rP a X s:=by
 simp only[ad0,rP,aob]
def ad1(W:fU)(V:aq)(s:S)(k:XE->S->T):XE->S->T
 |.normal,X=>if Qs (cd (qm V) (qm (W.tm.map (·.1)))) 0 s.tmps X.tmps&&uk W 0 s.ao X.ao&&ul X W.ks (kW W X)&&z6 (jV W s) X.rs&&Iy (jV W s) (Ix W X)&&decide (X.pd=s.pd) then .back s.aC (kW W X) else .stuck (akh W s X)
 |e,X=>k e X
def aBd(X:fU)(W:aq)(s:S)(k:XE->S->T):ad1 X W s k=UF X W s k:=by
 funext e V;cases e<;>simp only[ad1,UF,adZ]
def l8(X:bL):Nat->FuncId->Code->S->YH->(XE->S->T)->T
 |0,_,_,_,_,_=>.stuck ""
 |n+1,V,c,s,W,k=>
  match c with
  |.skip=>k .normal s
  |.label _=>k .normal s
  |.ret=>k .ret s
  |.exit id=>k (.exit id) s
  |.seq a b=>l8 X n V a s W (UB (λP=>l8 X n V b P W k) k)
  |.block id a=>l8 X n V a s W (aby id k)
  |.scope a=>l8 X n V a s W k
  |.cond c a b=>match s.ev X.gl c with
   |.bool (.c J)=>l8 X n V a s W k
   |.bool (.c E)=>l8 X n V b s W k
   |.bool x=>match c with
    |.tmp t=>.bi x (l8 X n V a {s with tmps:=s.tmps.set t (.bool (.c J))} W k) (l8 X n V b {s with tmps:=s.tmps.set t (.bool (.c E))} W k)
    |_=>.stuck ""
   |_=>.stuck ""
  |.region id R O=>match UJ X V id s with
   |U (e,G,gA,aS)=>Ll e gA (abK (λP=>l8 X n V (.region id R O) P W k) aS) (λP=>l8 X n V (.region id R O) P W k) G
   |none=>s.adU λs=>if O then
    match Wh X (!X.OU V id) R s with
    |U c=>Ph X (kX X (λf c s k=>l8 X n f c s W k) W) R (adY k) c
    |none=>match adS R (Y s.ao) with
    |U M=>if !Lb X R.toList then .stuck "" else Gk X (Ac X (FX X R λf c s k=>l8 X n f c s j6 k) W) R (k .normal) (λv=>k (.bD v)) M (s.B4 R M) []
    |none=>match Wh X E R s with
     |U c=>Ph X (kX X (λf c s k=>l8 X n f c s W k) W) R (adY k) c
     |none=>.stuck ""
   else
   Gk X (abz (X.OU V (id+1000000)) X (kX X (λf c s k=>l8 X n f c s W k) W)) R (k .normal) (λv=>k (.bD v)) (iG (λ_=>E) J E 0 (Y s.ao) R.toList) (s.room (nF R.toList)) []
  |.loop a=>match(Code.first a).map (X.loop V) with
   |U (.inv Q)=>
    if !(abL Q s).isEmpty then l8 X n V (.loop a) (s.dj Q) W k else
    if !s.bd|| !ul s (Q.at s).ks (kW (Q.at s) s)|| !Qs (cd (qm (Code.pu a)) (qm ((Q.at s).tm.map (·.1)))) 0 s.tmps s.tmps|| !uk (Q.at s) 0 s.ao s.ao|| !z6 (jV (Q.at s) s) s.rs|| !Iy (jV (Q.at s) s) (Ix (Q.at s) s) then .stuck (aki (Q.at s) (Code.pu a) s) else
    .loop s.aC (Q.at s).ks (kW (Q.at s) s) (l8 X n V a (ad0 (Q.at s) (Code.pu a) s) W (ad1 (Q.at s) (Code.pu a) s k))
   |_=>l8 X n V a s W (UB (λP=>l8 X n V (.loop a) P W k) k)
  |.rangeFunc f L assign body=>match s.ev X.gl f with
   |.fn g N=>match X.inl g with
    |U (c,F,[])=>
     if !s.fz N||s.yH (Y s.pd)||C.rQ (Y s.pd) N||kz assign||kz body then .stuck "" else
     l8 X n g c (Lk s F N)
      (Pe (Y s.pd) L.size λD H B A=>
       l8 X n V assign (DP H s L.toList D) j6 (Pd (Y s.pd) λz=>
        l8 X n V body (z.IJ (Y s.pd) .busy) j6 (UG (Y s.pd) H B A))) (II s k)
    |_=>.stuck ""
   |_=>.stuck ""
  |_=>.stuck ""
def ad2(X:bL):∀n,l8 X n=gq X n
 |0=>by funext W c s V k;rfl
 |n+1=>by
  have R:=ad2 X n;funext W c s V k;unfold l8 gq;simp only[R,Wi,aA3,aA5,aA6,adZ,aBc,aBd,aBa];cases c<;>rfl
def ad3(X:bL)(n:Nat)(V:FuncId)(c:Code)(R:Nat)(Q:sJ)(W:ap)(s:S):T:=
 l8 X n V c {s with tmps:=W++eH (R-Y W) (.b9 [])} j6 (UK X (Y s.ao) Q)
def aBe(X:bL)(n:Nat)(W:FuncId)(c:Code)(V:Nat)(R:sJ)(Q:ap)(s:S):ad3 X n W c V R Q s=Pl X n W c V R Q s:=by
 unfold ad3 Pl;rw[ad2]
def ad4(X:bL)(n:Nat)(Q:FuncId)(c:Code)(P:Nat)(O:sJ)(V:TypeId)(R:ap)(s:S):T:=match xg c with
 |U d=>Gk X (kX X (λf c s k=>l8 X n f c s j6 k) j6) d.uo (λW=>match W.tmps[d.te]? with
  |U (.loc i 0)=>if !rJ V&&aW W.ao i&&decide (d.tf<Y W.tmps) then l8 X n Q d.rest (W.put (U d.tf) (.fn d.g [.loc i 0])) j6 (abN X (Y s.ao) V i O) else .stuck ""
  |_=>.stuck "") (λ_ _=>.stuck "") (iG (λ_=>E) J E 0 (Y s.ao) d.uo.toList) (({s with tmps:=R++eH (P-Y R) (C.b9 [])}:S).room (nF d.uo.toList)) []
 |none=>.stuck ""
def aBf(X:bL)(n:Nat)(W:FuncId)(c:Code)(V:Nat)(R:sJ)(Q:TypeId)(P:ap)(s:S):ad4 X n W c V R Q P s=Pm X n W c V R Q P s:=by
 unfold ad4 Pm;cases xg c with
 |none=>rfl
 |some d=>
  simp only[ad2,Wi];rfl
def evX(X:bL)(P:Option TypeId)(n:Nat)(W:FuncId)(c:Code)(V:Nat)(R:sJ)(Q:ap)(s:S):T:=match P with
 |none=>ad3 X n W c V R Q s
 |U O=>ad4 X n W c V R O Q s
section
variable{bC u:og}
def pw(L:∀f H o,bC f H=U o->u f H=U o):∀(n R:Nat)(t:T)(O:ai)(i:mQ)(o:bv),n<=R->exec bC n t O i=U o->exec u R t O i=U o
 |0,_,t,O,i,o,_,h=>by simp[exec] at h
 |n+1,0,t,O,i,o,G,h=>aa
 |n+1,R+1,t,O,i,o,G,h=>by
  have X:=pw L n R;cases t with
  |ret v F Q=>simpa only[exec] using h
  |bD v=>simpa only[exec] using h
  |bi b t f=>
   simp only[exec] at h⊢;split at h;rename_i W;rw[aL W];exact X t O i o aa h;rename_i W;rw[aP W];exact X f O i o aa h
  |bA b t=>
   simp only[exec] at h⊢;split at h;rename_i W;rw[aL W];exact X t O i o aa h;cases h
  |call f D F Q B jf t=>
   simp only[exec] at h⊢;cases N:bC f ((sZ D).map (C.xv O)) with
   |none=>rw[N] at h;cases h
   |some r=>
    rw[N] at h;rw[L _ _ _ N];cases r with
    |ret y=>
     simp only at h⊢;split at h;rename_i P;rw[aL P];exact X t _ i o aa h;cases h
    |bD v=>exact h
  |loop aC B w t=>
   simp only[exec] at h⊢;exact X t _ _ o aa h
  |back aC x=>
   simp only[exec] at h⊢;cases P:Cl aC i with
   |none=>rw[P] at h;cases h
   |some q=>
    obtain⟨A,p⟩:=q;rw[P] at h;exact X A.t _ _ o aa h
  |new e x Q l t=>
   simp only[exec] at h⊢;exact X t _ i o aa h
  |ae k x Q t=>
   simp only[exec] at h⊢;exact X t _ i o aa h
  |gA g z t f=>
   simp only[exec] at h⊢;split at h;rename_i M;rw[aL M];split at h;rename_i V;rw[aL V];exact anK h (X t O i o aa) (X f O i o aa);rename_i V;rw[aP V];exact X t O i o aa h;rename_i M;rw[aP M];split at h;rename_i V;rw[aL V];exact X f O i o aa h;cases h
  |pick m g z t f=>
   simp only[exec] at h⊢;refine anL h λj _ q=> ?_
   cases j with
   |some j=>exact X t _ i o aa q
   |none=>exact X f _ i o aa q
  |ez f g e d c r Q t=>
   simp only[exec] at h⊢;split at h;rename_i a ac;exact X t _ i o aa h;cases h
  |out e s=>simp[exec] at h
  |stuck m=>simp[exec] at h
end
def iV(n:Int):RV:=.mk (.int I n) []
def bV(b:Bool):RV:=.mk (.bool b) []
def sV(l:bw):RV:=.mk (.slice Z (Y l) (Y l)) (l.map λn=>[iV n])
def lu(b:Nat)(X:ar):RV:=.mk (.slice (U ⟨b,0,Z⟩) (Y X) (Y X)) X
def j7:aM:=[
 lu 0 ([(E,E,E,0,0,0),(J,J,E,1,0,16),(E,J,E,1,0,16),(J,J,E,0,3,0),(J,J,E,0,3,0),(E,J,E,0,3,0),(E,E,E,0,0,7),(E,E,J,0,0,0),(E,E,J,0,0,0),(J,E,E,0,3,0)].map λ(a,b,c,d,e,f)=>[bV a,bV b,bV c,iV d,iV e,iV f]),
 lu 1 ([([],[]),([0],[]),([],[0,1]),([0],[]),([2],[]),([],[4]),([],[]),([],[2,3]),([],[0,1]),([2],[])].map λ(a,b)=>[sV a,sV b]),
 lu 2 ([(0,29),(20,21),(29,0),(20,-21),(0,-29),(-20,-21),(-29,0),(-20,21)].map λ(a,b)=>[iV a,iV b])]
def mR(g:Bool):aM:=if g then j7 else[]
def Co(d:Bool):ll->ll
 |U (.ret X)=>U (.ret X)
 |U (.bD v)=>if d then Z else U (.bD v)
 |none=>Z
structure Fn where
 t:T
 g:Bool:=E
 d:Bool:=E
structure lJ where
 tree:FuncId->Option Fn
 uD:og
def lJ.bC(p:lJ):Nat->og
 |0=>p.uD
 |n+1=>λf W=>match p.uD f W with
  |U o=>U o
  |none=>match p.tree f with
   |U X=>Co X.d (exec (lJ.bC p n) n X.t (gI (mR X.g) W) [])
   |none=>Z
def nO{p:lJ}:∀(n W:Nat)(f:FuncId)(X:bn)(o:bv),n<=W->p.bC n f X=U o->p.bC W f X=U o
 |0,0,f,X,o,_,h=>h
 |0,W+1,f,X,o,_,h=>by
  simp only[lJ.bC] at h⊢;rw[h]
 |n+1,0,f,X,o,M,_=>aa
 |n+1,W+1,f,X,o,M,h=>by
  simp only[lJ.bC] at h⊢;cases Q:p.uD f X with
  |some P=>rw[Q] at h;exact h
  |none=>
   rw[Q] at h;simp only at h⊢;cases N:p.tree f with
   |none=>rw[N] at h;cases h
   |some V=>
    rw[N] at h;simp only at h⊢;cases R:exec (p.bC n) n V.t (gI (mR V.g) X) [] with
    |none=>rw[R] at h;cases h
    |some P=>
     rw[R] at h;rw[pw (λf X o h=>nO n W f X o aa h) n W V.t _ _ P aa R];exact h
def lJ.Ev(p:lJ)(f:FuncId)(X:bn)(o:bv):Prop:=∃n,p.bC n f X=U o
def lJ.Go(p:lJ)(t:T)(O:ai)(i:mQ)(o:bv):Prop:=∃n,exec (p.bC n) n t O i=U o
section
variable{p:lJ}{O:ai}{i:mQ}{o:bv}
def ad6{X:bn}(h:p.uD v X=U o):p.Ev v X o:=⟨0,h⟩
def aBg{W:bn}{X:Fn}(Q:p.tree v=U X)(P:p.uD v W=Z)(V:X.d=E\/∃R,o=.ret R)(h:p.Go X.t (gI (mR X.g) W) [] o):p.Ev v W o:=by
 obtain⟨n,h⟩:=h;refine⟨n+1, ?_⟩;simp only[lJ.bC,P,Q,h];rcases V with V|⟨R,rfl⟩;cases o<;>simp[Co,V];rfl
def go_of:p.Go n O i o<->∃X,exec (p.bC (X+1)) (X+1) n O i=U o:=
 ⟨λ⟨X,h⟩=>⟨X,pw (λf W o h=>nO X (X+1) f W o aa h) X (X+1) n O i o aa h⟩,λ⟨X,h⟩=>⟨X+1,h⟩⟩
def go_up{m:Nat}(h:exec (p.bC B) m n O i=U o):p.Go n O i o:=
 ⟨max B m,pw (λf X o h=>nO B _ f X o aa h) m _ n O i o aa h⟩
@[simp] def go_ret:p.Go (.ret f b r) O i o<->o=.ret ((yT f).map (C.xv O)):=by
 rw[go_of];simp only[exec,cS];exact⟨λ⟨_,h⟩=>h.symm,λh=>⟨0,h.symm⟩⟩
@[simp] def go_pan:p.Go (.bD f) O i o<->(I8 O f).map .bD=U o:=by
 rw[go_of];simp only[exec];exact⟨λ⟨_,h⟩=>h,λh=>⟨0,h⟩⟩
@[simp] def go_node {b:BE} {f:T}:p.Go (.bi b n f) O i o<->if b.ab O=J then p.Go n O i o else p.Go f O i o:=by
 rw[go_of];simp only[exec];split
 ·exact⟨λ⟨X,h⟩=>go_up h,λ⟨X,h⟩=>⟨X,pw (λf W o h=>nO X (X+1) f W o aa h) X X n O i o aa h⟩⟩
 ·exact⟨λ⟨X,h⟩=>go_up h,λ⟨X,h⟩=>⟨X,pw (λf W o h=>nO X (X+1) f W o aa h) X X f O i o aa h⟩⟩
@[simp] def go_need {b:BE}:p.Go (.bA b n) O i o<->b.ab O=J/\p.Go n O i o:=by
 rw[go_of];simp only[exec];by_cases W:b.ab O=J
 ·simp only[W,cN,true_and];exact⟨λ⟨X,h⟩=>go_up h,λ⟨X,h⟩=>⟨X,pw (λf V o h=>nO X (X+1) f V o aa h) X X n O i o aa h⟩⟩
 simp[W]
@[simp] def go_loop {W:aY}:p.Go (.loop B W w n) O i o<->p.Go n (O.ext (w.map (C.xv O))) (⟨B,n,O⟩::i) o:=by
 rw[go_of];simp only[exec];exact⟨λ⟨X,h⟩=>go_up h,λ⟨X,h⟩=>⟨X,pw (λf V o h=>nO X (X+1) f V o aa h) X X n _ _ o aa h⟩⟩
@[simp] def go_new {x:LE} {W:bz}:p.Go (.new l x r W n) O i o<->p.Go n (O.add (.r (iZ x O))) i o:=by
 rw[go_of];simp only[exec];exact⟨λ⟨X,h⟩=>go_up h,λ⟨X,h⟩=>⟨X,pw (λf V o h=>nO X (X+1) f V o aa h) X X n _ _ o aa h⟩⟩
@[simp] def go_rows {k:RK} {x:LE}:p.Go (.ae k x r n) O i o<->p.Go n (O.add (.r (iZ x O))) i o:=by
 rw[go_of];simp only[exec];exact⟨λ⟨X,h⟩=>go_up h,λ⟨X,h⟩=>⟨X,pw (λf W o h=>nO X (X+1) f W o aa h) X X n _ _ o aa h⟩⟩
def go_turn{g:FuncId}{V:bq}{R:Bool}{X:RE}{Q:ar}(h:oc O V R (X.rv O).ae=U Q):p.Go (.ez v g l V R X r n) O i o<->p.Go n (O.add (.r (.mk (X.rv O).val Q))) i o:=by
 rw[go_of];simp only[exec,h];exact⟨λ⟨W,h⟩=>go_up h,λ⟨W,h⟩=>⟨W,pw (λv P o h=>nO W (W+1) v P o aa h) W W n _ _ o aa h⟩⟩
def go_back{W:mQ}{X:Lp}(h:Cl B i=U (X,W)):p.Go (.back B w) O i o<->p.Go X.t (X.O.ext (w.map (C.xv O))) (X::W) o:=by
 rw[go_of];simp only[exec,h];exact⟨λ⟨n,h⟩=>go_up h,λ⟨n,h⟩=>⟨n,pw (λf V o h=>nO n (n+1) f V o aa h) n n X.t _ _ o aa h⟩⟩
def go_call{R:aY}{W:bn}(h:p.Ev v ((sZ w).map (C.xv O)) (.ret W))(Q:jX R W=J)(V:p.Go n (O.ext W) i o):p.Go (.call v w b r R f n) O i o:=by
 obtain⟨X,h⟩:=h;obtain⟨m,V⟩:=V;refine⟨max X m+1, ?_⟩;simp only[exec];rw[nO X _ _ _ _ aa h];simp only[Q,cN];exact pw (λv P o h=>nO m _ v P o aa h) m _ n _ _ o aa V
def go_callp{V:aY}{X:Value}(h:p.Ev v ((sZ w).map (C.xv O)) (.bD X)):p.Go (.call v w b r V f n) O i (.bD X):=by
 obtain⟨W,h⟩:=h;refine⟨W+1, ?_⟩;simp only[exec];rw[nO W _ _ _ _ aa h]
end
structure PC where
 aC:Nat
 I:bn->Prop
 μ:bn->Nat
 m:Nat
abbrev dE:=List PC
def Jf(aC:Nat):dE->Option PC
 |[]=>Z
 |x::X=>if x.aC=aC then U x else Jf aC X
def Qt(R:bv->Prop):Prop:=∀o X,R o->R X->o=X/\At o o=J
def T.mS(W:FuncId->bn->bv->Prop):T->(bv->Prop)->ai->dE->Prop
 |.ret v _ _,R,O,_=>R (.ret ((yT v).map (C.xv O)))
 |.bD v,R,O,_=>∃x,I8 O v=U x/\R (.bD x)
 |.bi b t f,R,O,L=>(b.ab O=J->t.mS W R O L)/\(b.ab O=E->f.mS W R O L)
 |.bA b t,R,O,L=>b.ab O=J/\t.mS W R O L
 |.call f G _ _ F _ t,R,O,L=>∃o,W f ((sZ G).map (C.xv O)) o/\(match o with
  |.ret N=>jX F N=J/\t.mS W R (O.ext N) L
  |.bD v=>R (.bD v))
 |.loop aC _ D t,R,O,L=>∃V Q,((V=R/\Q=L)\/((∀o,V o->R o)/\Q=[]))/\∃X M,X (D.map (C.xv O))/\∀P,X P->t.mS W V (O.ext P) (⟨aC,X,M,M P⟩::Q)
 |.back aC x,R,O,L=>match Jf aC L with
  |U c=>c.I (x.map (C.xv O))/\c.μ (x.map (C.xv O))<c.m
  |none=>False
 |.new _ x _ _ t,R,O,L=>t.mS W R (O.add (.r (iZ x O))) L
 |.ae _ x _ t,R,O,L=>t.mS W R (O.add (.r (iZ x O))) L
 |.gA g h t f,R,O,L=>(g.ab O=J\/h.ab O=J)/\(g.ab O=J->t.mS W R O L)/\(h.ab O=J->f.mS W R O L)/\(g.ab O=J->h.ab O=J->Qt R)
 |.pick n g h t f,R,O,L=>Qt R/\yS n g h O≠[]/\(∀j:Int,0<=j->j<n.ab O->g.ab (O.add (.i j))=J->t.mS W R (O.add (.i j)) L)/\(h.ab O=J->f.mS W R O L)
 |.ez _ _ _ B A r _ t,R,O,L=>∃H,oc O B A (r.rv O).ae=U H/\t.mS W R (O.add (.r (.mk (r.rv O).val H))) L
 |.stuck _,_,_,_=>False
 |.out _ _,_,_,_=>False
def T.wp(X:FuncId->bn->bv->Prop)(R:bv->Prop)(t:T)(O:ai)(L:dE):Prop:=t.mS X R O L
section
variable{a:lJ}{R:bv->Prop}
inductive Cp(a:lJ)(R:bv->Prop):List PC->List Lp->Prop where
 |nil (st:List Lp):Cp a R [] st
 |cons (c:PC) (fr:Lp) (L:List PC) (st:List Lp) (h1:c.aC=fr.aC) (h2:∀xs,c.I xs->c.μ xs<c.m->∃o,a.Go fr.t (fr.O.ext xs) (fr::st) o/\R o) (h3:Cp a R L st):Cp a R (c::L) (fr::st)
def Cp.find{L:dE}{V:mQ}(h:Cp a R L V){c:PC}(W:Jf B L=U c):
  ∃X N,Cl B V=U (X,N)/\∀Q,c.I Q->c.μ Q<c.m->∃o,a.Go X.t (X.O.ext Q) (X::N) o/\R o:=by
 induction h with
 |nil _=>cases W
 |cons F X L V M H D G=>
  simp only[Jf] at W;simp only[Cl,<-M];split at W;rename_i P;cases W;rw[aL P];exact⟨X,V,rfl,H⟩;rename_i P;rw[aP P];exact G W
def go_mono{X:mQ}{m:Nat}(h:exec (a.bC B) B n N X=U g)(W:B<=m):exec (a.bC m) m n N X=U g:=
 pw (λf V g h=>nO B m f V g W h) B m n N X g W h
def aoc{X:Type}{f:X->ll}{o:bv}(W:At o o=J):∀{l:List X},l≠[]->(∀x∈l,f x=U o)->vR (l.map f)=U o
 |[],h,_=>aG rfl h
 |[x],_,h=>by simpa[vR] using h x aw
 |x::y::r,_,h=>by
  have:=aoc W (l:=y::r) aw (λz V=>h z (by simp at V⊢;exact .inr V));simp only[eW,vR] at this⊢;rw[this,h x aw,Ck,aL W]
def aod{V:Type}{p:V->Nat->Prop}(W:∀x n m,p x n->n<=m->p x m):∀{l:List V},(∀x∈l,∃n,p x n)->∃n,∀x∈l,p x n
 |[],_=>⟨0,λx Q=>by cases Q⟩
 |x::r,h=>by
  obtain⟨n,P⟩:=h x aw;obtain⟨m,O⟩:=aod W (l:=r) (λz X=>h z (by simp[X]));refine⟨max n m,λz X=> ?_⟩;rcases dS.1 X with rfl|X;exact W _ _ _ P aa;exact W _ _ _ (O z X) aa
def go_wp:∀(t:T)(R:bv->Prop)(O:ai)(L:dE)(W:mQ),t.mS a.Ev R O L->Cp a R L W->∃o,a.Go t O W o/\R o
 |.ret v bx y,R,O,L,W,h,_=>⟨_,go_ret.2 rfl,h⟩
 |.bD v,R,O,L,W,h,_=>by
  obtain⟨x,P,Q⟩:=h;exact⟨.bD x,go_pan.2 (by rw[P];rfl),Q⟩
 |.bi b t f,R,O,L,W,h,V=>by
  simp only[go_node];cases hb:b.ab O with
  |true=>simpa using go_wp t R O L W (h.1 hb) V
  |false=>simpa using go_wp f R O L W (h.2 hb) V
 |.bA b t,R,O,L,W,h,V=>by
  obtain⟨o,P,Q⟩:=go_wp t R O L W h.2 V;exact⟨o,go_need.2 ⟨h.1,P⟩,Q⟩
 |.call f a4 bx y ks jf t,R,O,L,W,h,V=>by
  obtain⟨o,P,Q⟩:=h;cases o with
  |ret ys=>
   obtain⟨o,G,F⟩:=go_wp t R (O.ext ys) L W Q.2 V;exact⟨o,go_call P Q.1 G,F⟩
  |bD v=>exact⟨.bD v,go_callp P,Q⟩
 |.loop aC ks x0 t,R,O,L,W,h,V=>by
  obtain⟨w,L',af,X,μ,P,Q⟩:=h;have ac:Cp a w L' W/\∀o,w o->R o:=by
   rcases af with⟨rfl,rfl⟩|⟨G,rfl⟩;exact⟨V,λo h=>h⟩;exact⟨Cp.nil W,G⟩
  have ag:∀n N,μ N<n->X N->∃o,a.Go t (O.ext N) (⟨aC,t,O⟩::W) o/\w o:=by
   intro n;induction n with
   |zero=>intro N d;omega
   |succ n ih=>
    intro N d hI;exact go_wp t w (O.ext N) _ _ (Q N hI) (Cp.cons _ _ _ _ rfl (λal an hm=>ih al (by simp only at hm;omega) an) ac.1)
  obtain⟨o,G,F⟩:=ag _ _ (Nat.lt_succ_self _) P;exact⟨o,go_loop.2 G,ac.2 o F⟩
 |.back aC x,R,O,L,W,h,V=>by
  simp only[T.mS] at h;split at h
  ·rename_i c hf;obtain⟨fr,a9,P,Q⟩:=V.find hf;obtain⟨o,G,F⟩:=Q _ h.1 h.2;exact⟨o,(go_back P).2 G,F⟩
  exact h.elim
 |.new e x y bb t,R,O,L,W,h,V=>by
  obtain⟨o,P,Q⟩:=go_wp t R _ L W h V;exact⟨o,go_new.2 P,Q⟩
 |.ae e x y t,R,O,L,W,h,V=>by
  obtain⟨o,P,Q⟩:=go_wp t R _ L W h V;exact⟨o,go_rows.2 P,Q⟩
 |.gA g z t f,R,O,L,W,h,V=>by
  obtain⟨u,P,Q,G⟩:=h;cases A:g.ab O with
  |true=>
   obtain⟨o,M,D⟩:=go_wp t R O L W (P A) V;cases B:z.ab O with
   |true=>
    obtain⟨o',k1,k2⟩:=go_wp f R O L W (Q B) V;obtain⟨rfl,e⟩:=G A B o o' D k2;obtain⟨n,M⟩:=M;obtain⟨m,k1⟩:=k1;refine⟨o,⟨max n m+1, ?_⟩,D⟩;simp only[exec,A,B,cN];rw[pw (λf N o h=>nO n _ f N o aa h) n (max n m) t O W o aa M,pw (λf N o h=>nO m _ f N o aa h) m (max n m) f O W o aa k1,Ck,aL e]
   |false=>
    obtain⟨n,M⟩:=M;refine⟨o,⟨n+1, ?_⟩,D⟩;simp only[exec,A,B,cN];exact pw (λf N o h=>nO n _ f N o aa h) n n t O W o aa M
  |false=>
   have B:z.ab O=true:=u.resolve_left (by simp[A]);obtain⟨o,M,D⟩:=go_wp f R O L W (Q B) V;obtain⟨n,M⟩:=M;refine⟨o,⟨n+1, ?_⟩,D⟩;simp only[exec,A,B,cN];exact pw (λf N o h=>nO n _ f N o aa h) n n f O W o aa M
 |.pick m g z t f,R,O,L,W,h,V=>by
  obtain⟨hs,u,P,Q⟩:=h;have hw:∀j∈yS m g z O,∃o,R o/\(match j with
   |U j=>a.Go t (O.add (.i j)) W o
   |none=>a.Go f O W o):=by
   intro j H;cases j with
   |some j=>
    simp only[yS,fh,iL,qK,wV] at H;rcases H with⟨j',⟨⟨k,hk,rfl⟩,A⟩,e⟩|H
    ·cases e;obtain⟨o,M,D⟩:=go_wp t R (O.add (.i (k:Int))) L W (P _ aa aa A) V;exact⟨o,D,M⟩
    split at H<;>simp at H
   |none=>
    simp only[yS,fh,iL,qK,wV] at H;rcases H with⟨j',_,e⟩|H;cases e;split at H
    ·rename_i B;obtain⟨o,M,D⟩:=go_wp f R O L W (Q B) V;exact⟨o,D,M⟩
    simp at H
  obtain⟨j0,a0⟩:=List.exists_mem_of_ne_nil _ u;obtain⟨o,q,_⟩:=hw j0 a0;have a1:At o o=true:=(hs o o q q).2;obtain⟨n,d⟩:=aod (p:=λj n=>(match j with
   |U j=>exec (a.bC n) n t (O.add (.i j)) W
   |none=>exec (a.bC n) n f O W)=U o) (λx n m hx a3=>by cases x<;>exact go_mono hx a3) (l:=yS m g z O) (λj H=>by
    obtain⟨o',G,F⟩:=hw j H;obtain⟨rfl,_⟩:=hs o o' q G;cases j<;>exact F)
  refine⟨o,⟨n+1, ?_⟩,q⟩;simp only[exec];refine aoc a1 u λj H=> ?_
  have:=d j H;cases j with
  |some j=>exact pw (λf N o h=>nO n _ f N o aa h) n n t _ W o aa this
  |none=>exact pw (λf N o h=>nO n _ f N o aa h) n n f O W o aa this
 |.ez f g e sp sb r y t,R,O,L,W,h,V=>by
  obtain⟨bd,P,Q⟩:=h;obtain⟨o,G,F⟩:=go_wp t R _ L W Q V;exact⟨o,(go_turn P).2 G,F⟩
 |.stuck m,R,O,L,W,h,_=>h.elim
 |.out e s,R,O,L,W,h,_=>h.elim
def Mv(a:lJ)(f:FuncId)(X:Fn):Prop:=a.tree f=U X/\∀W,a.uD f W=Z
def aoe{W:Fn}{V:bn}(Q:Mv a v W)(O:W.d=E\/∀X,¬R (.bD X))(h:W.t.wp a.Ev R (gI (mR W.g) V) []):∃o,a.Ev v V o/\R o:=by
 obtain⟨o,N,P⟩:=go_wp W.t R _ [] [] h (Cp.nil []);refine⟨o,aBg Q.1 (Q.2 _) (O.imp id λM=> ?_) N,P⟩;cases o with
 |ret L=>exact⟨L,rfl⟩
 |bD X=>exact(M X P).elim
def Jg{W:Fn}{V:bn}(Q:Mv a v W)(P:W.d=E\/∀X,g≠ .bD X)(h:W.t.wp a.Ev (· =g) (gI (mR W.g) V) []):a.Ev v V g:=by
 obtain⟨H,O,N⟩:=aoe (R:=(· =g)) Q (P.imp id λM X L=>M X L.symm) h;exact N▸O
def Aw{X:bn}{W:bv}(h:a.Ev v X g)(k:a.Ev v X W):g=W:=by
 obtain⟨n,h⟩:=h;obtain⟨m,k⟩:=k;have Q:=nO n (max n m) v X g aa h;have V:=nO m (max n m) v X W aa k;rw[Q] at V;cases V;rfl
end
def Wl(n j:Nat)(a b c:Int)(X:ar):Int:=match jq n [a,b,c] X with
 |U W=>bp (W.getD j default).val
 |none=>0
def Wm(n j:Nat)(a b c:Int)(X:ar):Bool:=match jq n [a,b,c] X with
 |U W=>fW (W.getD j default).val
 |none=>E
def K.dn(e:K):ai->Int:=K.rec (motive_1:=λ_=>ai->Int) (motive_2:=λ_=>ai->Bool) (motive_3:=λ_=>ai->RV) (λn _=>n) (λk O=>O.i.getD k 0) (λX k _ _ a b O=>ay X k (a O) (b O)) (λk _ a O=>k.wrap (a O)) (λ_ r O=>lenOf (r O).val) (λW _ _ a b O=>cond W (max (a O) (b O)) (min (a O) (b O))) (λ_ _ _ b x y O=>cond (b O) (x O) (y O)) (λ_ _ j r i O=>bp (aZ (r O).ae (i O) j).val) (λ_ _ r i O=>kY (r O).val (i O)) (λ_ n _ _ _ j r a b c O=>Wl n j (a O) (b O) (c O) (r O).ae) (λb _=>b) (λk O=>O.b.getD k E) (λX _ _ a b O=>iM X (a O) (b O)) (λ_ a O=> !(a O)) (λ_ _ a b O=>a O&&b O) (λ_ _ a b O=>a O==b O) (λ_ _ _ b x y O=>cond (b O) (x O) (y O)) (λ_ _ j r i O=>fW (aZ (r O).ae (i O) j).val) (λ_ _ a b O=>uq (a O).val (b O).val) (λ_ n _ _ _ j r a b c O=>Wm n j (a O) (b O) (c O) (r O).ae) (λ_ n _ _ _ r a b c O=>(jq n [a O,b O,c O] (r O).ae).isSome) (λk O=>O.rv k) (λ_ _ j k r i O=>db k (aZ (r O).ae (i O) j)) (λv _=>.mk v []) e
def BE.dn(e:BE):ai->Bool:=BE.rec (motive_1:=λ_=>ai->Int) (motive_2:=λ_=>ai->Bool) (motive_3:=λ_=>ai->RV) (λn _=>n) (λk O=>O.i.getD k 0) (λX k _ _ a b O=>ay X k (a O) (b O)) (λk _ a O=>k.wrap (a O)) (λ_ r O=>lenOf (r O).val) (λW _ _ a b O=>cond W (max (a O) (b O)) (min (a O) (b O))) (λ_ _ _ b x y O=>cond (b O) (x O) (y O)) (λ_ _ j r i O=>bp (aZ (r O).ae (i O) j).val) (λ_ _ r i O=>kY (r O).val (i O)) (λ_ n _ _ _ j r a b c O=>Wl n j (a O) (b O) (c O) (r O).ae) (λb _=>b) (λk O=>O.b.getD k E) (λX _ _ a b O=>iM X (a O) (b O)) (λ_ a O=> !(a O)) (λ_ _ a b O=>a O&&b O) (λ_ _ a b O=>a O==b O) (λ_ _ _ b x y O=>cond (b O) (x O) (y O)) (λ_ _ j r i O=>fW (aZ (r O).ae (i O) j).val) (λ_ _ a b O=>uq (a O).val (b O).val) (λ_ n _ _ _ j r a b c O=>Wm n j (a O) (b O) (c O) (r O).ae) (λ_ n _ _ _ r a b c O=>(jq n [a O,b O,c O] (r O).ae).isSome) (λk O=>O.rv k) (λ_ _ j k r i O=>db k (aZ (r O).ae (i O) j)) (λv _=>.mk v []) e
def RE.dn(e:RE):ai->RV:=RE.rec (motive_1:=λ_=>ai->Int) (motive_2:=λ_=>ai->Bool) (motive_3:=λ_=>ai->RV) (λn _=>n) (λk O=>O.i.getD k 0) (λX k _ _ a b O=>ay X k (a O) (b O)) (λk _ a O=>k.wrap (a O)) (λ_ r O=>lenOf (r O).val) (λW _ _ a b O=>cond W (max (a O) (b O)) (min (a O) (b O))) (λ_ _ _ b x y O=>cond (b O) (x O) (y O)) (λ_ _ j r i O=>bp (aZ (r O).ae (i O) j).val) (λ_ _ r i O=>kY (r O).val (i O)) (λ_ n _ _ _ j r a b c O=>Wl n j (a O) (b O) (c O) (r O).ae) (λb _=>b) (λk O=>O.b.getD k E) (λX _ _ a b O=>iM X (a O) (b O)) (λ_ a O=> !(a O)) (λ_ _ a b O=>a O&&b O) (λ_ _ a b O=>a O==b O) (λ_ _ _ b x y O=>cond (b O) (x O) (y O)) (λ_ _ j r i O=>fW (aZ (r O).ae (i O) j).val) (λ_ _ a b O=>uq (a O).val (b O).val) (λ_ n _ _ _ j r a b c O=>Wm n j (a O) (b O) (c O) (r O).ae) (λ_ n _ _ _ r a b c O=>(jq n [a O,b O,c O] (r O).ae).isSome) (λk O=>O.rv k) (λ_ _ j k r i O=>db k (aZ (r O).ae (i O) j)) (λv _=>.mk v []) e
def Wn{X:Type}(b:Bool)(x y:X):cond b x y=if b then x else y:=by cases b<;>rfl
mutual
def K.gt:∀(e:K)(O:ai),e.dn O=e.ab O
 |.c _,_=>rfl
 |.v _,_=>rfl
 |.bin o k a b,O=>by show ay o k (a.dn O) (b.dn O)=_;rw[K.gt a,K.gt b];rfl
 |.conv k a,O=>by show k.wrap (a.dn O)=_;rw[K.gt a];rfl
 |.len r,O=>by show lenOf (r.dn O).val=_;rw[RE.gt r];rfl
 |.mm m a b,O=>by show cond m (max (a.dn O) (b.dn O)) (min (a.dn O) (b.dn O))=_;rw[K.gt a,K.gt b,Wn];rfl
 |.dV b x y,O=>by show cond (b.dn O) (x.dn O) (y.dn O)=_;rw[BE.gt b,K.gt x,K.gt y,Wn];rfl
 |.cell r i j,O=>by show bp (aZ (r.dn O).ae (i.dn O) j).val=_;rw[RE.gt r,K.gt i];rfl
 |.nX r i,O=>by show kY (r.dn O).val (i.dn O)=_;rw[RE.gt r,K.gt i];rfl
 |.look r n a b c j,O=>by show Wl n j (a.dn O) (b.dn O) (c.dn O) (r.dn O).ae=_;rw[RE.gt r,K.gt a,K.gt b,K.gt c];rfl
def BE.gt:∀(e:BE)(O:ai),e.dn O=e.ab O
 |.c _,_=>rfl
 |.v _,_=>rfl
 |.cmp o a b,O=>by show iM o (a.dn O) (b.dn O)=_;rw[K.gt a,K.gt b];rfl
 |.not a,O=>by show(!(a.dn O))=_;rw[BE.gt a];rfl
 |.and a b,O=>by show(a.dn O&&b.dn O)=_;rw[BE.gt a,BE.gt b];rfl
 |.beq a b,O=>by show(a.dn O==b.dn O)=_;rw[BE.gt a,BE.gt b];rfl
 |.dV b x y,O=>by show cond (b.dn O) (x.dn O) (y.dn O)=_;rw[BE.gt b,BE.gt x,BE.gt y,Wn];rfl
 |.cell r i j,O=>by show fW (aZ (r.dn O).ae (i.dn O) j).val=_;rw[RE.gt r,K.gt i];rfl
 |.seq a b,O=>by show uq (a.dn O).val (b.dn O).val=_;rw[RE.gt a,RE.gt b];rfl
 |.look r n a b c j,O=>by show Wm n j (a.dn O) (b.dn O) (c.dn O) (r.dn O).ae=_;rw[RE.gt r,K.gt a,K.gt b,K.gt c];rfl
 |.has r n a b c,O=>by show(jq n [a.dn O,b.dn O,c.dn O] (r.dn O).ae).isSome=_;rw[RE.gt r,K.gt a,K.gt b,K.gt c];rfl
def RE.gt:∀(e:RE)(O:ai),e.dn O=e.rv O
 |.v _,_=>rfl
 |.cell r i j k,O=>by show db k (aZ (r.dn O).ae (i.dn O) j)=_;rw[RE.gt r,K.gt i];rfl
 |.k _,_=>rfl
end
def fN{X:Type}(n:Nat)(k:Nat->X):X:=Ib (motive:=λ_=>X) (k 0) (λm _=>k (Nat.succ m)) n
def fI{X:Type}(n:Int)(k:Int->X):X:=Int.rec (motive:=λ_=>X) (λn=>fN n λn=>k (aj1 n)) (λn=>fN n λn=>k (ajZ n)) n
def fB{X:Type}(b:Bool)(k:Bool->X):X:=KS (motive:=λ_=>X) (k E) (k J) b
def fV{X:Type}(v:Value)(k:Value->X):X:=match v with
 |.int q n=>fI n λn=>k (.int q n)
 |.bool b=>fB b λb=>k (.bool b)
 |.slice Z n c=>fN n λn=>fN c λc=>k (.slice Z n c)
 |v=>k v
def fR{X:Type}(v:RV):(RV->X)->X:=RV.rec (motive_1:=λ_=>(RV->X)->X) (motive_2:=λ_=>(ar->X)->X) (motive_3:=λ_=>(aM->X)->X) (λv _ h k=>fV v λv=>h λl=>k (.mk v l)) (λk=>k []) (λ_ _ h W k=>h λx=>W λV=>k (x::V)) (λk=>k []) (λ_ _ h W k=>h λx=>W λV=>k (x::V)) v
def fRs{X:Type}(v:ar):(ar->X)->X:=RV.rec_1 (motive_1:=λ_=>(RV->X)->X) (motive_2:=λ_=>(ar->X)->X) (motive_3:=λ_=>(aM->X)->X) (λv _ h k=>fV v λv=>h λl=>k (.mk v l)) (λk=>k []) (λ_ _ h W k=>h λx=>W λV=>k (x::V)) (λk=>k []) (λ_ _ h W k=>h λx=>W λV=>k (x::V)) v
def fRr{X:Type}(v:aM):(aM->X)->X:=RV.rec_2 (motive_1:=λ_=>(RV->X)->X) (motive_2:=λ_=>(ar->X)->X) (motive_3:=λ_=>(aM->X)->X) (λv _ h k=>fV v λv=>h λl=>k (.mk v l)) (λk=>k []) (λ_ _ h W k=>h λx=>W λV=>k (x::V)) (λk=>k []) (λ_ _ h W k=>h λx=>W λV=>k (x::V)) v
def fX{X:Type}(x:XV)(k:XV->X):X:=match x with
 |.i n=>fI n λn=>k (.i n)
 |.b b=>fB b λb=>k (.b b)
 |.r v=>fR v λv=>k (.r v)
def fL{X:Type}(l:bn):(bn->X)->X:=zV (motive:=λ_=>(bn->X)->X) (λk=>k []) (λx _ W k=>fX x λx=>W λV=>k (x::V)) l
def Wo{X:Type}:∀(n:Nat)(k:Nat->X),fN n k=k n
 |0,_=>rfl
 |_+1,_=>rfl
def ad9{X:Type}:∀(n:Int)(k:Int->X),fI n k=k n
 |.ofNat n,k=>Wo n λn=>k (aj1 n)
 |.negSucc n,k=>Wo n λn=>k (ajZ n)
def aof{X:Type}:∀(n:Bool)(k:Bool->X),fB n k=k n
 |E,_=>rfl
 |J,_=>rfl
def aBh{X:Type}(v:Value)(k:Value->X):fV v k=k v:=by
 unfold fV;split;exact ad9 _ _;exact aof _ _;rw[Wo,Wo];rfl
mutual
def aea{X:Type}:∀(v:RV)(k:RV->X),fR v k=k v
 |.mk v l,k=>by
  show(fV v λv=>fRs l λl=>k (.mk v l))=_;rw[aBh,aog l]
def aog{W:Type}:∀(l:ar)(k:ar->W),fRs l k=k l
 |[],_=>rfl
 |x::X,k=>by
  show(fRr x λx=>fRs X λX=>k (x::X))=_;rw[aoh x,aog X]
def aoh{W:Type}:∀(l:aM)(k:aM->W),fRr l k=k l
 |[],_=>rfl
 |x::X,k=>by
  show(fR x λx=>fRr X λX=>k (x::X))=_;rw[aea x,aoh X]
end
def aBi{X:Type}(x:XV)(k:XV->X):fX x k=k x:=by
 cases x<;>simp only[fX,ad9,aof,aea]
def aoi{W:Type}:∀(l:bn)(k:bn->W),fL l k=k l
 |[],_=>rfl
 |x::X,k=>by
  show(fX x λx=>fL X λX=>k (x::X))=_;rw[aBi,aoi X]
def fS{X V:Type}(l:List V):(List V->X)->X:=zV (motive:=λ_=>(List V->X)->X) (λk=>k []) (λx _ W k=>W λR=>k (x::R)) l
def fE{X:Type}(O:ai)(k:ai->X):X:=ai.rec (motive:=λ_=>X) (λi b r y=>fS i λi=>fS b λb=>fS r λr=>k ⟨i,b,r,y⟩) O
def Wp{W V:Type}:∀(l:List V)(k:List V->W),fS l k=k l
 |[],_=>rfl
 |x::X,k=>Wp X λX=>k (x::X)
def aoj{X:Type}(O:ai)(k:ai->X):fE O k=k O:=by
 obtain⟨i,b,r,y⟩:=O;show(fS i λi=>fS b λb=>fS r λr=>k ⟨i,b,r,y⟩)=_;rw[Wp,Wp,Wp]
def C.xn(O:ai):C->XV
 |.int _ e=>.i (e.dn O)
 |.bool b=>.b (b.dn O)
 |.aj r=>.r (r.dn O)
 |_=>.i 0
def aBj(O:ai):C.xn O=C.xv O:=by
 funext v;cases v<;>simp only[C.xn,C.xv,K.gt,BE.gt,RE.gt]
def T.step(X:T->ai->mQ->ll)(bC:og)(t:T)(O:ai)(W:mQ):ll:=match t with
 |.ret v _ _=>fL ((yT v).map (C.xn O)) λl=>U (.ret l)
 |.bD v=>(I8 O v).map .bD
 |.bi b t f=>cond (b.dn O) (X t O W) (X f O W)
 |.bA b t=>cond (b.dn O) (X t O W) Z
 |.call f P _ _ N _ t=>fL ((sZ P).map (C.xn O)) λV=>match bC f V with
  |U (.ret Q)=>cond (jX N Q) (fE (O.ext Q) λO=>X t O W) Z
  |U (.bD v)=>U (.bD v)
  |none=>Z
 |.loop aC _ M t=>fL (M.map (C.xn O)) λV=>fE (O.ext V) λL=>X t L (⟨aC,t,O⟩::W)
 |.back aC x=>match Cl aC W with
  |U (R,H)=>fL (x.map (C.xn O)) λV=>fE (R.O.ext V) λO=>X R.t O (R::H)
  |none=>Z
 |.new _ x _ _ t=>fR (iZ x O) λv=>fE (O.add (.r v)) λO=>X t O W
 |.ae _ x _ t=>fR (iZ x O) λv=>fE (O.add (.r v)) λO=>X t O W
 |.gA g h t f=>cond (g.dn O) (cond (h.dn O) (Ck (X t O W) (X f O W)) (X t O W)) (cond (h.dn O) (X f O W) Z)
 |.pick m g h t f=>vR ((yS m g h O).map λj=>match j with
  |U j=>fI j λj=>fE (O.add (.i j)) λO=>X t O W
  |none=>X f O W)
 |.ez _ _ _ G F r _ t=>match oc O G F (r.dn O).ae with
  |U l=>fR (.mk (r.dn O).val l) λv=>fE (O.add (.r v)) λO=>X t O W
  |none=>Z
 |_=>Z
def Wq(bC:og)(n:Nat):T->ai->mQ->ll:=Ib (motive:=λ_=>T->ai->mQ->ll) (λ_ _ _=>Z) (λ_ X=>T.step X bC) n
def aok(bC:og):∀n,Wq bC n=exec bC n
 |0=>by funext t O X;simp only[exec];rfl
 |n+1=>by
  funext t O X;show T.step (Wq bC n) bC t O X=_;rw[aok bC n];cases t<;>simp only[T.step,exec,Wn,BE.gt,RE.gt,aBj,aoi,aea,ad9,aoj]
  try case call f W _ _ Q _ t=>
   cases bC f ((sZ W).map (C.xv O)) with
   |none=>rfl
   |some o=>cases o<;>rfl
  try case back aC x=>cases Cl aC X<;>rfl
  try case pick m g h t f=>
   refine ku vR (kJ λj _=> ?_);cases j<;>rfl
  try case ez f g e V R r P t=>cases oc O V R (r.rv O).ae<;>rfl
def Wr(X:lJ)(n:Nat):og:=Ib (motive:=λ_=>og) X.uD (λn R f V=>match X.uD f V with
  |U o=>U o
  |none=>match X.tree f with
   |U W=>Co W.d (fE (gI (mR W.g) V) λO=>Wq R n W.t O [])
   |none=>Z) n
def aol(X:lJ):∀n,Wr X n=X.bC n
 |0=>rfl
 |n+1=>by
  funext f W;simp only[lJ.bC];show(match X.uD f W with
   |U o=>U o
   |none=>match X.tree f with
    |U V=>Co V.d (fE (gI (mR V.g) W) λO=>Wq (Wr X n) n V.t O [])
    |none=>Z)=_
  rw[aol X n];simp only[aok,aoj]
  all_goals cases X.uD f W with
  |some o=>rfl
  |none=>cases X.tree f<;>rfl
def aBk{X:lJ}{f:Nat}{W:bn}(h:Wr X B f W=U g):X.Ev f W g:=⟨B,by rw[<-aol];exact h⟩
