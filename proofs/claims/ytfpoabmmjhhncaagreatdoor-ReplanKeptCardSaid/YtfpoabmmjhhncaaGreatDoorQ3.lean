/- Part 3 of the proof; the last part says what is shown. -/
import Derived.Test.YtfpoabmmjhhncaaGreatDoorQ2
import Derived.WalkKit
import Derived.DefersIn
set_option linter.all false
set_option maxRecDepth 100000
set_option maxHeartbeats 100000000
open Bool renaming and_eq_true->aw,not_eq_true'->f9,false_eq_true->iC,or_eq_true->iD,or_eq_false_iff->tc,eq_iff_iff->uF,not_eq_false->BC,and_self->xT,and_true->JL,rec->Ge,not_eq_true->aaD,not_true->aaH,true_eq_false->axr,true->J,false->E
open List renaming getElem?_eq_some_iff->bJ,getD_eq_getElem?_getD->cw,getElem?_eq_getElem->ce,getElem?_append_left->dF,getElem?_map->dM,getElem?_append_right->gK,mem_append->eC,mem_cons->dJ,all_eq_true->eO,replicate->ew,length_append->fQ,map_cons->ep,cons_append->gA,mem_of_getElem?->iU,getElem?_eq_none->jx,pairwise_cons->iv,map_congr_left->jh,nil_append->gU,range->e8,any_eq_true->jy,ext_getElem?->jV,length_eq_one_iff->nj,mem_map->gL,pairwise_append->mB,getElem?_take->lT,contains_iff_mem->ov,getElem?_cons_succ->qH,getElem?_of_mem->qI,getElem?_drop->rJ,length_cons->pO,length_map->o8,mem_filter->o9,mem_append_left->uC,map_map->mT,getElem?_cons_zero->xR,getElem?_eq_none_iff->zT,getElem?_set->td,nodup_append->uE,getElem?_replicate->Dw,length_eq_zero_iff->Dx,mem_cons_of_mem->By,mem_filterMap->zV,mem_range->vZ,getD_cons_zero->DA,append_assoc->BD,mem_of_find?_eq_some->NB,foldl_cons->BF,pairwise_iff_getElem->NC,mem_append_right->JC,length_drop->DD,map_nil->xU,length_take->F9,length_singleton->NE,mem_cons_self->JF,range_eq_range'->NF,find?_cons->Ga,append_nil->Gc,mem_singleton->NI,map_append->JG,rec->v7,all_cons->JK,find?_some->NN,length_nil->NP,sublist_cons_self->aax,getElem?_toArray->aay,all_map->JM,filterMap_cons->aaA,drop_left'->Tu,mem_iff_getElem?->alm,pairwise_map->alu,map_set->aaI,any_map->aaJ,filter_map->alz,drop_zero->alB,sizeOf_lt_of_mem->axe,Sublist->alJ,append_of_mem->axs,filterMap_map->axt,length->Y
open Go.Result renaming andThen_ok->cT
open Nat renaming le_refl->bU,lor->bE,zero_add->gV,shiftLeft->ld,beq->hM,blt->iW,le_trans->pP,add_zero->uH,testBit_or->BG,min_eq_left->Gb,strongRecOn->JH,rec->DF,div_add_mod->aaF,one_shiftLeft->alr,eq_of_beq_eq_true->axb,shiftRight->alE,testBit_two_pow->axj,add_sub_cancel'->axl,lt_or_gt_of_ne->axp
open Option renaming map_some->dQ,isSome_iff_exists->jw,getD_some->nl,map_eq_some_iff->ND,bind_some->Tt,isNone_iff_eq_none->aw0,some->U,none->Z
open Go.Sem renaming run_bind->cZ,run_pure->eI
open Array renaming getElem?_eq_some_iff->jg,ext'->kG,getElem?_eq_getElem->F6,getElem?_setIfInBounds->JA,getD_eq_getD_getElem?->Tj,replicate->JI,getElem?_replicate->aw4,foldl_toList->axo
open Go.Op renaming operands->gu
open Go.Region renaming wanted->jH,ready->qJ
open Go.World renaming putObj_heap_other->rI,cell?->mC,putObj->BJ,alloc_heap_new->NG,size_alloc->NL,putObj_size->alv
open Go.Oper renaming semAt_eq->v6,uponIn_enter->NK,uponIn_round->als,semAt_none->aly,uponIn_defer->axw,uponIn->alM
open Go.Call renaming operands->xS
open Int renaming negSucc->aaL,ofNat->aaN
open Prod.mk renaming injEq->BH
open List.Sublist renaming append->aaz,refl->aaB
open Go.IntKind renaming i64->I
namespace Go.Proofs.YtfpoabmmjhhncaaGreatDoor.Y
open Go.RowKit
noncomputable section
variable{l:am}{N:Nat}{b:T}{y:ai}{t:FuncId}{v:S}{x:ap}{e:World}{k:FuncId→Code→S→(XE→S→T)→T}{h:TypeId}{g:aY}
mutual
def C.Pp(O:ai)(y:ap)(V:ap):∀(v:C),v.yr=J->v.ab (O.at y) V=v.ab O V
 |.int k e,_=>by simp only[C.ab,K.eE]
 |.bool b,_=>by simp only[C.ab,BE.eE]
 |.ah r,_=>by simp only[C.ab,RE.ab,RE.lA]
 |.loc i o,_=>rfl
 |.el r w i o,_=>by simp only[C.ab,RE.ab,RE.lA,K.eE]
 |.ij a b c d,_=>rfl
 |.agg l,h=>by simp only[C.yr] at h;simp only[C.ab];rw[C.HE O y V l h]
 |.bA l,h=>by simp only[C.yr] at h;simp only[C.ab];rw[C.HE O y V l h]
 |.fn f l,h=>by simp only[C.yr] at h;simp only[C.ab];rw[C.HE O y V l h]
 |.fT t x,h=>by simp only[C.yr] at h;simp only[C.ab];rw[C.Pp O y V x h]
 |.yl n,h=>by simp[C.yr] at h
 |.any,_=>rfl
 |.mp i,_=>rfl
 |.fy e W X,h=>by simp only[C.yr] at h;simp only[C.ab,K.eE];rw[C.HE O y V X h]
def C.HE(O:ai)(y:ap)(V:ap):∀(l:am),C.uT l=J->C.ay (O.at y) V l=C.ay O V l
 |[],_=>rfl
 |x::X,h=>by
  simp only[C.uT,aw] at h;simp only[C.ay];rw[C.Pp O y V x h.1,C.HE O y V X h.2]
end
def Pq(O:ai)(y:ap)(V:ap):∀(l:am),C.uT l=J->C.dw (O.at y) V l=C.dw O V l
 |[],_=>rfl
 |x::W,h=>by
  simp only[C.uT,aw] at h;have X:=Pq O y V W h.2;have R:=C.Pp O y V x h.1;simp only[C.dw,ep] at X⊢;rw[X];congr 1;cases x<;>simp only[C.gc]<;>first|rw[R]|(rw[RE.lA])
def K8:∀{l:bn}{i:Nat}{v:TypeId×am},BY l=J->bM l i=U v->C.uT v.2=J
 |[],i,v,_,h=>by simp[cj] at h
 |U x::W,0,v,X,h=>by simp[BY] at X;simp[cj] at h;exact h▸X.1
 |Z::W,0,v,X,h=>by simp[cj] at h
 |U x::W,i+1,v,X,h=>by simp[BY] at X;exact K8 X.2 (by simpa[cj] using h)
 |Z::W,i+1,v,X,h=>by simp[BY] at X;exact K8 X (by simpa[cj] using h)
def Pr:∀{a b:bn},lZ a b=J->a=b
 |[],[],_=>rfl
 |[],_::_,h=>by simp[lZ] at h
 |Z::X,Z::W,h=>by simp only[lZ] at h;rw[Pr h]
 |Z::X,U y::W,h=>by simp[lZ] at h
 |Z::X,[],h=>by simp[lZ] at h
 |U x::X,Z::W,h=>by simp[lZ] at h
 |U x::X,[],h=>by simp[lZ] at h
 |U x::X,U y::W,h=>by
  simp only[lZ,aw,di] at h;have V:=C.qW _ _ h.1.2;rw[Pr h.2];obtain⟨R,Q⟩:=x;obtain⟨P,O⟩:=y;simp only at h V;rw[h.1.1,V]
def K9(W:am)(X:bn):(mW W X).length=Y X:=by
 unfold mW;split<;>simp
def Ps{X:bn}{x:TypeId×am}(h:bM (mW l X) N=U x):bM X N=U x:=by
 unfold mW at h;split at h;exfalso;simp only[cj] at h;rw[dM] at h;cases W:X[N]? with
 |none=>rw[W] at h;cases h
 |some y=>rw[W] at h;cases h
 exact h
def VR{X:bn}(h:aF (mW l X) N=J):aF X N=true:=by
 obtain⟨x,W⟩:=jw.1 h;simp[aF,Ps W]
def aon(h:TY b=J)(p:Sp)(O:ai)(L:cX):b.aG p O L:=by
 unfold TY at h;split at h;simp[T.aG,BE.ab];cases h
def aoo{V:ai}(h:gW y V (Y y.i) (Y y.b) (Y y.r))(H:Y V.i=Y y.i)(G:Y V.b=Y y.b)(F:Y V.r=Y y.r):V=y:=by
 obtain⟨i,b,r,X⟩:=y;obtain⟨R,Q,P,z⟩:=V;obtain⟨N,a2,M,L⟩:=h;simp only at N a2 M L H G F;have D:R=i:=jV λk=>by
  by_cases W:k<Y i;have:=N k W;simp only[cw,ce W,ce (show k<Y R from aa),nl] at this⊢;rw[this];rw[jx aa,jx aa]
 have B:Q=b:=jV λk=>by
  by_cases W:k<Y b;have:=a2 k W;simp only[cw,ce W,ce (show k<Y Q from aa),nl] at this⊢;rw[this];rw[jx aa,jx aa]
 have A:P=r:=jV λk=>by
  by_cases W:k<Y r;have:=M k W;simp only[ai.rv,cw,ce W,ce (show k<Y P from aa),nl] at this⊢;rw[this];rw[jx aa,jx aa]
 subst D B A L;rfl
def La(X:aY):oG X (X.map RK.rd):=by
 refine⟨au,λk V h=> ?_⟩;rw[dM] at h;cases W:X[k]? with
 |none=>rw[W] at h;cases h
 |some e=>
  rw[W] at h;simp only[dQ,cg] at h;refine⟨e,rfl, ?_⟩;cases e<;>simp only[RK.rd] at h<;>first|exact .inl h.symm|exact .inr (.inr ⟨_,rfl,h.symm⟩)
def aop(W:am)(X:bn):mW W X=X\/∀i,bM (mW W X) i=none:=by
 unfold mW;split;right;intro i;simp only[cj];rw[dM];cases X[i]?<;>rfl;exact .inl rfl
section
variable{p:Sp}{m:bi}
def aoq(cl:∀w:Sp,w.P=p.P->iB w m->wK w m N)(ok:iB p m){X:C}{ex:bn}(h:Gw m (λf c v k=>eY m N f c v gM k) t l v=U (X,ex))(cn:(m.inl t).isSome=J)
  {D:bI}{a:Act}(hb:v.bd=J)(R:ax p.S0 p.w0 D m.ty x y v a e)(hg:et m.gl y):(∀l e,(callFunc t l).run p.P e=.ok (.enter t l) e)/\
  Calls p.P t (C.ay y x l).toArray e λM W'=>∃V',M=.returned (X.ab y V')/\ax p.S0 p.w0 D m.ty V' y (v.plus ex) a W'/\bj v y x (v.plus ex) y V':=by
 unfold Gw at h;split at h;rename_i u hT;split at h;rename_i v0 c4;split at h;rename_i bk;cases h;simp only[aw] at bk;obtain⟨⟨⟨⟨⟨⟨⟨ca,cb⟩,cv⟩,cs⟩,ct⟩,co⟩,cp⟩,cx⟩:=bk;have bl:=Pr ct;obtain⟨cy,br⟩:=R.wv hb;refine⟨ok.wG t (.inr cn), ?_⟩;obtain⟨S1,bs⟩:∃S1:ap,S1=((e8 (Y v.ak)).filter (aF (mW l v.ak))).map (ad x):=⟨_,rfl⟩;have cA:∀i,aF (mW l v.ak) i=J->ad x i∈S1:=λi A=>by
  rw[bs];refine gL.2 ⟨i,o9.2 ⟨vZ.2 ?_,A⟩,rfl⟩;obtain⟨L,hx⟩:=jw.1 A;have:=(bJ.1 (jl.1 hx)).1
  rwa [K9] at this
 have bx:∀b∈S1,∃i,aF (mW l v.ak) i=J/\ad x i=b:=λb hb=>by
  rw[bs] at hb;obtain⟨i,A,rfl⟩:=gL.1 hb;exact⟨i,(o9.1 A).2,rfl⟩
 obtain⟨w,an⟩:∃w:Sp,w={P:=p.P,ty:=p.ty,S0:=S1,w0:=e,D:=bI.none,R:=λM _=>(match M with|.panicked _=>False|_=>True),Q:=λ_ _ _=>True}:=⟨_,rfl⟩;have al:w.P=p.P:=by rw[an]
 have b0:w.S0=S1:=by rw[an]
 have b1:w.w0=e:=by rw[an]
 have b2:∀ch W',¬w.R (.panicked ch) W':=λch W' hh=>by rw[an] at hh;exact hh
 have b3:iB w m:=⟨by rw[an];exact ok.pt,by rw[al];exact ok.Pb,by rw[al];exact ok.jB,by rw[al];exact ok.uQ,by rw[al];exact ok.wG,λch e b o _ hh=>(b2 ch e hh).elim,by rw[al];exact ok.inl⟩;have hS:=EG (p:=w) b3 (cl w al b3) (D:=bI.none) (B:=⟨rX l v,y.at [],x,[]⟩) (yh:=gM) (Ck _ _);have B0:ax w.S0 w.w0 bI.none m.ty x (y.at []) (rX l v) ⟨#[],[]⟩ e:=by
  rw[b0,b1];refine⟨⟨ga.refl _ _,λi A=>.inr (cA i A),λi j A hj=>R.mem.inj i j (VR A) (VR hj),λi H cs h=> ?_,λk M rv z h2=> ?_⟩,by simp only[rX,K9];exact R.fM,R.ei,R.eb,by simp only[rX,o8];exact R.er, ?_,rfl,λH sv h=>by simp[rX] at h,λk M rv b z=> ?_⟩;rw[Pq _ _ _ _ (K8 cb h)];exact R.mem.box i H cs (Ps h);have:=(R.mem.lx (La v.rs)).ah k M rv z h2;exact⟨this.1,λb hb i A=>this.2 b hb i (VR A)⟩;exact⟨rfl,rfl,λN G r st h=>by simp[bI.none] at h,λN n' G r r' h=>by simp[bI.none] at h,[],rfl,λ_=>rfl,by simp[bI.none],λd h=>by simp[bI.none] at h⟩;exfalso;simp only[rX,dM] at z;cases hk:v.rs[k]? with
  |none=>rw[hk] at z;cases z
  |some L=>rw[hk] at z;cases L<;>simp[RK.rd] at z
 have cB:=hS [] (.fn t) l (rX l v) _ _ (y.at []) x ⟨#[],[]⟩ e (λM W'=>∃V',M=.returned (X.ab y V')/\ax p.S0 p.w0 D m.ty V' y (v.plus (u.ak.drop (Y v.ak))) a W'/\bj v y x (v.plus (u.ak.drop (Y v.ak))) y V') ⟨bj.refl _ _ _,cz.refl _ _⟩ (aon cx w (y.at []) []) B0 hg ?_ ?_ (λch W' pd F _ hR=>(b2 ch W' hR).elim);have:=cB.2;rw[C.HE y [] x l ca,al] at this;exact this;intro v2 s2 O2 q W2 L2 hl _ R2 a1;split at a1;rename_i b4;simp only[aw,aa2,di,bZ] at b4;obtain⟨hv,⟨⟨ag,cC⟩,cD⟩,cI⟩:=b4;have hv:=C.bD _ _ hv;subst hv;have ag:=Pr ag;have cO:O2=y.at []:=by
  refine aoo hl.ext.agree ?_ ?_ ?_;rw[R2.ei,cC];exact R.ei.symm;rw[R2.eb,cD];exact R.eb.symm;rw[R2.er,cI];simp only[rX,o8];exact R.er.symm
 subst cO;rw[b0,b1] at R2;have c5:Y v.ak<=Y u.ak:=by
  have:=ji Y bl;rw[K9,F9] at this;omega
 have ba:∀i,i<Y v.ak->bM u.ak i=bM (mW l v.ak) i:=λi A=>by
  have:=ji (λG=>bM G i) bl;simp only[cj,lT,aE A] at this⊢;exact this
 have a3:∀i,aF (mW l v.ak) i=J->ad q i=ad x i:=λi A=>hl.ext.ad i A
 have a4:∀{i:Nat}{G:bn},aF G i=J->i<Y G:=λh=>by
  obtain⟨L,hx⟩:=jw.1 h;exact(bJ.1 (jl.1 hx)).1
 have cR:∀i,Y v.ak<=i->aF u.ak i=J->e.heap.size<=ad q i:=by
  intro i A hh;rcases R2.mem.own i (by rw[ag];exact hh) with z|z;exact z;exfalso;obtain⟨j,hj,cW⟩:=bx _ z;have bb:j<Y v.ak:=by have:=a4 hj;rwa [K9] at this
  have c0:aF u.ak j=true:=by simp only[aF,ba j bb];exact hj
  have:=R2.mem.inj i j (by rw[ag];exact hh) (by rw[ag];exact c0) (by rw[a3 j hj];exact cW.symm);omega
 have hB:Below e.heap.size e W2:=by
  have hO:=R2.mem.base;refine⟨hO.os,hO.tape,hO.output,hO.size,λk hk=> ?_⟩;by_cases b5:k∈S1;obtain⟨j,hj,rfl⟩:=bx _ b5;have bb:j<Y v.ak:=by have:=a4 hj;rwa [K9] at this
  obtain⟨L,hx⟩:=jw.1 hj;obtain⟨bt,jM⟩:=L;have e1:=R.mem.box j bt jM (Ps hx);have e2:=R2.mem.box j bt jM (by rw[ag,ba j bb];exact hx);rw[a3 j hj] at e2;rw[e1,e2];congr 2;rw[Pq _ _ _ _ (K8 cb hx)];refine Kl (gW.refl _ _ _ _) (λk hk=>a3 k ?_) _ (qX br (Ps hx));rcases aop l v.ak with hm|hm;rw[hm];exact hk;rw[hm j] at hx;cases hx;exact hO.block k hk b5
 have R0:=R.below hB;have c1:Y q=Y u.ak:=by rw[R2.fM,ag]
 have a9:∀i,i<Y v.ak->ad (x++q.drop (Y v.ak)) i=ad x i:=λi A=>by
  simp only[ad,cw];rw[dF (by rw[R.fM];exact A)]
 have bc:∀i,Y v.ak<=i->ad (x++q.drop (Y v.ak)) i=ad q i:=λi A=>by
  simp only[ad,cw];rw[gK (by rw[R.fM];exact A),R.fM,rJ,axl A]
 have b6:∀i,aF u.ak i=J->ad (x++q.drop (Y v.ak)) i=ad q i:=λi A=>by
  by_cases af:i<Y v.ak;rw[a9 i af,a3 i (by simp only[aF,<-ba i af];exact A)];exact bc i aa
 have bf:∀i,i<Y v.ak->bM (v.plus (u.ak.drop (Y v.ak))).ak i=bM v.ak i:=λi A=>by
  simp only[cj,S.plus,dF A]
 have b7:∀i,Y v.ak<=i->bM (v.plus (u.ak.drop (Y v.ak))).ak i=bM u.ak i:=λi A=>by
  simp only[cj,S.plus];rw[gK A,rJ,axl A]
 have bg:∀k,aF v.ak k=J->ad (x++q.drop (Y v.ak)) k=ad x k:=λk hk=>a9 k (a4 hk)
 have a0:∀i,aF (v.plus (u.ak.drop (Y v.ak))).ak i=J->(i<Y v.ak/\aF v.ak i=J/\ad (x++q.drop (Y v.ak)) i=ad x i)\/(Y v.ak<=i/\aF s2.ak i=J/\ad (x++q.drop (Y v.ak)) i=ad q i/\e.heap.size<=ad q i):=λi A=>by
  by_cases af:i<Y v.ak;exact .inl ⟨af,by simpa only[aF,bf i af] using A,a9 i af⟩;have hh:aF u.ak i=true:=by simpa only[aF,b7 i aa] using A
  exact .inr ⟨aa,by rw[ag];exact hh,bc i aa,cR i aa hh⟩
 have c6:p.w0.heap.size<=e.heap.size:=R.mem.base.size;refine⟨x++q.drop (Y v.ak), ?_,⟨⟨R0.mem.base, ?_, ?_, ?_, ?_⟩, ?_,R.ei,R.eb,R.er,R0.cQ,R.size, ?_, ?_⟩,⟨⟨gW.refl _ _ _ _,bU _,bU _,bU _,bg⟩, ?_, ?_,bU _⟩⟩;rw[C.Pp _ _ _ _ cv];have c2:v2.bd (Y y.i) (Y y.b) (Y y.r) (aF u.ak)=true:=by rw[R.ei,R.eb,R.er];exact co
 rw[C.dS (gW.refl _ _ _ _) b6 v2 c2];intro i A;rcases a0 i A with⟨_,h2,h3⟩|⟨_,_,h3,h4⟩;rw[h3];exact R.mem.own i h2;rw[h3];exact .inl aa;intro i j A hj b8;rcases a0 i A with⟨i1,i2,i3⟩|⟨i1,i2,i3,i4⟩<;>rcases a0 j hj with⟨j1,j2,j3⟩|⟨j1,j2,j3,j4⟩;exact R.mem.inj i j i2 j2 (by rw[<-i3,<-j3];exact b8);exfalso;have:=R.mem.lt i2;omega;exfalso;have:=R.mem.lt j2;omega;exact R2.mem.inj i j i2 j2 (by rw[<-i3,<-j3];exact b8);intro i H jM h;by_cases af:i<Y v.ak;rw[bf i af] at h;rw[a9 i af,R0.mem.box i H jM h];congr 2;exact(Kl (gW.refl _ _ _ _) bg _ (qX br h)).symm;rw[b7 i aa] at h;rw[bc i aa,R2.mem.box i H jM (by rw[ag];exact h)];congr 2;rw[Pq _ _ _ _ (K8 cs h)];have c3:C.dA (Y y.i) (Y y.b) (Y y.r) (aF u.ak) jM=true:=by rw[R.ei,R.eb,R.er];exact qX cp h
 exact(Kl (gW.refl _ _ _ _) b6 _ c3).symm;intro k M rv z h2;refine⟨(R0.mem.ah k M rv z h2).1,λb cc i A=> ?_⟩;rcases a0 i A with⟨i1,i2,i3⟩|⟨i1,i2,i3,i4⟩;rw[i3];exact(R.mem.ah k M rv z h2).2 b cc i i2;rw[i3];have:=(R.mem.ah k M rv z h2).1.lt cc;omega;simp only[S.plus,fQ,DD,c1,R.fM];intro H sv h;rcases R.tmps H sv h with z|z;exact .inl z;right;rw[C.dS (gW.refl _ _ _ _) bg sv (tJ cy h)];exact z;intro k M rv b z h2 h3;have T0:=R0.fz k M rv b z h2 h3;refine⟨T0.own,T0.mem,λi A=> ?_,T0.alone,T0.inner⟩;rcases a0 i A with⟨i1,i2,i3⟩|⟨i1,i2,i3,i4⟩;rw[i3];exact T0.box i i2;rw[i3];have:=(R.fz k M rv b z h2 h3).lt;omega;intro i A;have af:=a4 A;simp only[aF,bf i af];exact A;simp only[S.plus,fQ];omega;exact a1.elim;intro v2 s2 O2 q W2 L2 hl _ R2 a1;exact a1.elim;cases h;cases h;cases h
end
def aor{X:S}(W:mW l X.ak=mW l v.ak)(V:X.ni=v.ni)(R:X.nb=v.nb)(Q:X.rs=v.rs):rX l X=rX l v:=by
 simp only[rX,W,V,R,Q]
def ad8{m:bi}{X:S}(W:mW l X.ak=mW l v.ak)(V:X.ni=v.ni)(R:X.nb=v.nb)(Q:X.rs=v.rs)(P:Y X.ak=Y v.ak):Gw m k t l X=Gw m k t l v:=by
 unfold Gw;rw[aor W V R Q,W,V,R,Q,P]
def ad9(m:bi)(X:db)(R:FuncId->Code->S->(XE->S->T)->T):yK X (yt m X R):=by
 refine⟨λg Q s d v l=> ?_,λg s n t O d w N=> ?_,λg Q s r h=> ?_⟩;unfold yt;rw[ad8]<;>cases d<;>rfl
 ·unfold yt;rw[ad8]<;>cases d<;>simp[S.cU,S.put,tw,mW,aaI]<;>(try apply jV)<;>(try intro i)<;>(try simp[td])<;>(try(intro P;subst P;by_cases W:n<Y s.ak;(· simp[W]);(· simp[W])))
 unfold yt at h;split at h;rename_i V;simp only[aw] at V;exact V.1;cases h
def aea{p:Sp}{m:bi}{M:db}(L:∀X:Sp,X.P=p.P->iB X m->wK X m N)(H:iB p m):Hv p m (yt m M λf c s k=>eY m N f c s gM k):=by
 intro g B s v A h D O V a W G R F;unfold yt at h;split at h;rename_i Q;simp only[aw] at Q;exact aoq L H h Q.2 G R F;cases h
def aeb(s:S)(X:ap)(i:Nat):(s.bw X).tmps[i]?=(s.tmps[i]?).map λx=>if X.contains i then .any else x:=by
 simp only[S.bw];rw[tO,gV]
def aos(h:N∉x):(v.bw x).tmps[N]?=v.tmps[N]?:=by
 rw[aeb];cases v.tmps[N]?<;>simp[h]
def VS{X W V:Nat}{R:Nat->Bool}(Q:ap):∀(l:am)(n:Nat),C.dA X W V R l=J->C.dA X W V R (qS Q n l)=J
 |[],n,_=>rfl
 |x::P,n,h=>by
  simp only[C.gO,aw] at h;simp only[qS,C.gO,aw];refine⟨?_,VS Q P (n+1) h.2⟩;split;simp[C.aQ];exact h.1
def EH{ds:ap}(h:v.eD l=J):(v.bw ds).eD l=true:=by
 simp only[S.eD,S.bd,aw,S.bw] at h⊢;exact⟨⟨VS ds _ 0 h.1.1,h.1.2⟩,h.2⟩
def wL{d:bX}{X:C}(h:∀W,d=U W->W∉x):(v.put d X).bw x=(v.bw x).put d X:=by
 cases d with
 |none=>rfl
 |some W=>
  have R:=h W rfl;simp only[S.put,tw,S.bw];congr 1;apply jV;intro i;rw[tO,gV,td,td,tO,gV,HD];by_cases V:W=i;subst V;by_cases Q:W<Y v.tmps<;>simp[Q,R];simp[V]
def aec{s:S}{ds es:ap}(h:∀x∈es,x∈ds):(s.bw es).bw ds=s.bw ds:=by
 simp only[S.bw];congr 1;apply jV;intro i;rw[tO,tO,tO,gV];cases s.tmps[i]? with
 |none=>rfl
 |some x=>
  simp only[dQ];by_cases X:i∈ds;simp[X];have:i∉es:=λW=>X (h i W)
  simp[X,this]
def aot(v:C):JV E v=0:=by
 cases v<;>rfl
section
variable{p:Sp}{cf:bi}{ops:db}
def ax.bw{D:bI}{s:S}{O:ai}{V:ap}{a:Act}{W:World}(R:ax p.S0 p.w0 D cf.ty V O s a W)(P:ap):ax p.S0 p.w0 D cf.ty V O (s.bw P) a W:=by
 refine⟨R.mem,R.fM,R.ei,R.eb,R.er,R.cQ,by simp only[S.bw,HD];exact R.size,λt N X=> ?_,R.fz⟩;rw[aeb] at X;cases Q:s.tmps[t]? with
 |none=>rw[Q] at X;cases X
 |some x=>
  rw[Q] at X;simp only[dQ,cg] at X;split at X;exact .inl X.symm;subst X;exact R.tmps t x Q
def aed{m:OM}{O:ai}{b:BE}{X:C}(P:mE m.o.op=J)(N:m.bC=E)(h:yu cf v m.o=U (b,X))(M:b.ab O=J):(fJ cf m v).gives O (v.put m.o.dst X):=by
 unfold yu at h;split at h;cases h;rename_i W;simp only[iD,not_or,aaD] at W;obtain⟨W,V⟩:=W;have R:(qP v m.o.dst 0 (bT cf.ty cf.gl v m.o.op)).gives O (v.put m.o.dst X):=by
  split at h;rename_i w Q;cases h;rw[Q];simp only[qP,OR.gives,EC];rename_i G w Q;split at h;rename_i L;cases h;rw[Q];simp only[qP,L,cH,OR.gives,EC,and_true];exact M;cases h;cases h
 unfold fJ;rw[aJ (by rw[W];simp)];cases H:m.o.op<;>rw[H] at P R V<;>simp only[mE,iC,TZ] at P V<;>first|exact R|(simp only[N,aot];exact R)|cases V
def Pt{o:Oper}{s:S}{O:ai}(h:∀t∈iY ops o,t∉x):j6 cf ops o s O (s.bw x) O:=j6.wH (λt X=>aos (h t X)) rfl rfl rfl
def aee{o:Oper}{ds:ap}{r:BE×C}(h:∀t∈iY ops o,t∉ds)(X:yu cf v o=U r):yu cf (v.bw ds) o=U r:=by
 have V:=Pt (cf:=cf) (s:=v) (O:=⟨[],[],[],[]⟩) h;have Q:=V.ev cf.gl;unfold yu at X⊢;split at X;cases X;rename_i M;have L:¬((o.op.operands.toList.any λx=>((v.bw ds).ev cf.gl x).ec)||TZ o.op)=true:=by
  intro W;apply M;simp only[iD] at W⊢;rcases W with W|W;left;obtain⟨x,N,H⟩:=jy.1 W;exact jy.2 ⟨x,N,by rw[<-Q x N];exact H⟩;exact .inr W
 rw[aJ L];cases R:bT cf.ty cf.gl v o.op with
 |ok w=>rw[Pe (ty:=cf.ty) Q V.kd V.kl (λi _=>rfl) R (λw P=>by cases P)];rw[R] at X;exact X
 |aN b w=>rw[Pe (ty:=cf.ty) Q V.kd V.kl (λi _=>rfl) R (λw P=>by cases P)];rw[R] at X;exact X
 |no w=>rw[R] at X;cases X
def aou{m:OM}{P:S}(N:J8 m.o.op=J)(h:∀t∈iY ops m.o,t∉x)(Q:∀X,m.o.dst=U X->X∉x)(W:fJ cf m v=.ok P):fJ cf m (v.bw x)=.ok (P.bw x):=by
 have H:=Pt (cf:=cf) (s:=v) (O:=⟨[],[],[],[]⟩) h;have R:=H.ev cf.gl;unfold fJ at W⊢;split at W;cases W;rename_i G;have F:¬(m.o.op.operands.toList.any λX=>((v.bw x).ev cf.gl X).ec)=true:=by
  intro D;apply G;obtain⟨X,M,B⟩:=jy.1 D;exact jy.2 ⟨X,M,by rw[<-R X M];exact B⟩
 rw[aJ F];have l:∀(n:Nat)(t:TypeId)(L:am),(v.bw x).cU n t L=(v.cU n t L).bw x:=λ_ _ _=>rfl
 cases A:m.o.op<;>rw[A] at N W R<;>simp only[J8,iC] at N
 
 simp only at W⊢;split at W;split at W;rename_i V;simp only[aw] at V;rw[aE (by simp only[aw];exact⟨EH V.1,V.2⟩)];cases W;rw[wL Q];rfl;cases W;cases W
 
 rename_i t X;simp only at W⊢;rw[R X bS];split at W;split at W;rename_i V;simp only[aw] at V;rw[aE (by simp only[aw];exact⟨⟨⟨V.1.1.1,EH V.1.1.2⟩,V.1.2⟩,V.2⟩)];cases W;rw[wL Q];rfl;cases W;cases W;rename_i t k parts;simp only at W⊢;have z:(parts.toList.map λq=>(q.1,(v.bw x).ev cf.gl q.2))=parts.toList.map λq=>(q.1,v.ev cf.gl q.2):=by
  refine jh λq w=> ?_
  rw[R q.2 (by simp only[gu,gL];exact⟨q,w,rfl⟩)]
 rw[z];split at W;split at W;split at W;split at W;rename_i V;simp only[aw] at V;rw[aE (by simp only[aw];exact⟨⟨EH V.1.1,V.1.2⟩,V.2⟩)];cases W;congr 1;rw[wL Q];rfl;cases W;cases W;cases W;cases W
 
 rename_i t X y;simp only at W⊢;rw[R X bS,R y bS];split at W;split at W;rename_i u;have r:kK (v.bw x).ak _=_:=u;rw[r];simp only;split at W;rename_i V;rw[show(v.bw x).lk=v.lk from rfl,aE V];cases W;rw[wL Q];rfl;cases W;cases W;cases W
def aef{o:Oper}{s:S}(h:∀t∈iY ops o,t∉x):∀X∈o.op.operands.toList,s.ev cf.gl X=(s.bw x).ev cf.gl X:=
 λX W=>((Pt (cf:=cf) (s:=s) (O:=⟨[],[],[],[]⟩) h).ev cf.gl X W).symm
def Pu{X:Ty}(r:RE):r.kind X (v.bw x)=r.kind X v:=u6 (s:=v.bw x) (s':=v) rfl r
def Pv{X:Ty}{s:S}{W:ap}:∀(aj:eG)(l:am),lq X (s.bw W) aj l=lq X s aj l
 |[],[]=>rfl
 |[],_::_=>rfl
 |_::_,[]=>rfl
 |c::V,v::R=>by
  simp only[lq,Pv V R];congr 1;unfold qO;split<;>try rfl
  rename_i z k r;cases k<;>simp only[RE.fits,Pu]
def Pw{X:Ty}{s:S}{W:ap}(aj:eG):∀l:uK,mD X (s.bw W) aj l=mD X s aj l
 |[]=>rfl
 |r::V=>by simp only[mD,Pv,Pw aj V]
def Lb{s:S}{ds:ap}{d:bX}{aN:BE}{e:TypeId}{k:RK}{x:LE}{W cM:ap}{b:BI}(V:∀x,d=U x->x∉ds)(h:jA s d aN e k x W cM=U b):jA (s.bw ds) d aN e k x W cM=U {b with s:=b.s.bw ds}:=by
 unfold jA at h⊢;split at h;rename_i X;cases h;have R:(s.bw ds).bd=true:=by
  have Q:s.eD []=true:=by
   simp only[aw] at X;simp only[S.eD,C.gO,JL];exact X.1.1.1
  have:=EH (ds:=ds) Q;simpa only[S.eD,C.gO,JL] using this
 simp only[aw] at X;rw[aE (by simp only[aw];exact⟨⟨⟨R,X.1.1.2⟩,X.1.2⟩,X.2⟩),wL V];rfl;cases h
def aov{bC:Bool}(X:C):tD cf.ty (v.bw x) h bC X=tD cf.ty v h bC X:=by
 unfold tD;simp only[u6 (s:=v) (s':=v.bw x) rfl];rfl
def aow{W:Ty}{V:TI}(X:C):pT W (v.bw x) h V X=pT W v h V X:=by
 unfold pT;split<;>simp only[Pu,Pw]<;>rfl
def aeg{X:ap}{k n:Nat}:∀(l:am)(i:Nat),qS X i (C.nQ k n l)=C.nQ k n (qS X i l)
 |[],_=>rfl
 |x::W,i=>by
  simp only[C.nQ,qS,aeg W (i+1)];split<;>rfl
def aeh{n:Nat}:(v.bw x).gC N n=(v.gC N n).bw x:=by
 simp only[S.bw,S.gC,aeg]
def aox{d:bX}{u:yi}(W:∀X,d=U X->X∉x)(h:DZ cf t l v d=U u):DZ cf t l (v.bw x) d=U {u with s:=u.s.bw x}:=by
 unfold DZ at h⊢;split at h;split at h;have V:(v.bw x).ak=v.ak:=rfl;have R:(v.bw x).rs=v.rs:=rfl;have Q:(v.bw x).ni=v.ni:=rfl;have P:(v.bw x).nb=v.nb:=rfl;simp only[V,R,Q,P];split at h;split at h;rename_i O;cases h;rw[aE O];congr 2;rw[wL W,<-aeh];rfl;cases h;cases h;cases h;cases h
def aoy(h:v.bd=J):(v.bw x).bd=true:=by
 simp only[S.bd,aw,S.bw] at h⊢;exact⟨VS x _ 0 h.1,h.2⟩
def aoz{o:Oper}{u:yi}(V:dW cf (v.bw x) o=dW cf v o)(R:∀X,o.dst=U X->X∉x)(h:D0 cf o v=U u):D0 cf o (v.bw x)=U {u with s:=u.s.bw x}:=by
 unfold D0 at h⊢;rw[V];split at h;cases h;rename_i Q;have P:(v.bw x).bd=true:=aoy (by simpa using Q);rw[aJ (by simp[P])];generalize dW cf v o=c at h;cases c with
 |call g O=>
  cases g with
  |fn f=>exact aox R h
  |yl n=>cases h
 |aW W=>cases h
 |no=>cases h
 |op=>cases h
def MR.bw(X:ap):MR->MR
 |.ok s=>.ok (s.bw X)
 |.ae k x s=>.ae k x (s.bw X)
def aoA{X:Ty}{W:Sh}(r:RE):r.nq X (v.bw x) W=r.nq X v W:=by
 cases r<;>simp only[RE.nq,Pu]<;>rfl
def aoB{e:TypeId}{X:Bool}{W:TI}:ye cf (v.bw x) h e N X W l=ye cf v h e N X W l:=by
 unfold ye;split;simp only[aoA];rfl
def aoC{d:bX}{s:S}{X:ap}{t:TypeId}{R V v:C}{r:MR}(Q:∀x,d=U x->x∉X)(h:BS cf d s t R V v=U r):BS cf d (s.bw X) t R V v=U (r.bw X):=by
 unfold BS at h⊢;have P:(s.bw X).ak=s.ak:=rfl;have O:(s.bw X).rs=s.rs:=rfl;by_cases W:s.eD [V,v]=J
 ·have N:=EH (ds:=X) W;simp only[W,N,P,O,aoB,Pv] at h⊢
  repeat' split at h
  all_goals first
   |(cases h;done)
   |(cases h;(repeat' split)<;>first|contradiction|(exfalso;simp_all;done)|(simp only[MR.bw,wL Q];rfl)|(simp_all[MR.bw,wL Q];done))
 ·have W:s.eD [V,v]=false:=by simpa using W
  simp only[W] at h
  repeat' split at h
  all_goals first
   |(cases h;done)
   |(exfalso;simp_all;done)
def aei{o:Oper}{r:MR}(h:∀t∈iY ops o,t∉x)(O:∀X,o.dst=U X->X∉x)(W:An cf o v=U r):An cf o (v.bw x)=U (r.bw x):=by
 have V:=aef (cf:=cf) (s:=v) h;unfold An at W⊢;split at W;rename_i t X y z N;split at W;cases W;rename_i M;have R:¬(o.op.operands.toList.any λX=>((v.bw x).ev cf.gl X).ec)=true:=λQ=>M (by
  rw[jy] at Q⊢;obtain⟨q,P,L⟩:=Q;exact⟨q,P,by rw[V q P];exact L⟩)
 rw[N] at V R⊢;show(if _ then Z else _)=_;rw[aJ R,<-V X bS,<-V y bS,<-V z bS];exact aoC O W;cases W
def aej{o:Oper}{r:MR}(h:An cf o v=U r):∀c,o.op≠ .defer c:=by
 intro c X;simp[An,X] at h
def aek{p:Sp}{D:bI}{V:ap}{a:Act}{W:World}(R:ax x e D cf.ty V y v a W)(G:ip p.P cf.ty)(L:et cf.gl y){o:Oper}{r:MR}(h:An cf o v=U r):
  ∃N,pZ p.P o a W undef N/\r.acd x e D cf.ty V y v (a.put o.dst undef) N:=by
 unfold An at h;split at h;rename_i t X Q z H;split at h;cases h;rename_i F;have M:∀X∈o.op.operands.toList,(v.ev cf.gl X).ec=false:=by
  intro X B;cases A:(v.ev cf.gl X).ec;rfl;exact bp (jy.2 ⟨X,B,A⟩) F
 rw[H] at M;have w:=cK R L X (M X bS);have u:=cK R L Q (M Q bS);have q:=cK R L z (M z bS);obtain⟨N,n,m⟩:=KI (P:=p.P) R G h;exact⟨N,.inr ⟨by simp only[execOp,H,w,u,q,cZ,n,cT,eI],rfl⟩,m⟩;cases h
def aoD{o:Oper}{bC:Bool}{b:BI}(Q:Gz o.op=J)(h:∀t∈iY ops o,t∉x)(O:∀X,o.dst=U X->X∉x)(W:eA cf o bC E v=U b):eA cf o bC E (v.bw x)=U {b with s:=b.s.bw x}:=by
 have V:=aef (cf:=cf) (s:=v) h;unfold eA at W⊢;cases P:o.op with
 |call c=>
  rw[P] at Q W V;simp only[Gz] at Q;split at Q
  ·rename_i u;simp only[u] at W⊢;have r:c.args.toList.map ((v.bw x).ev cf.gl)=c.args.toList.map (v.ev cf.gl):=jh λX R=>(V X (by simp[gu,xS];exact .inr (by simpa using R))).symm
   rw[r];simp only[aov,aow]
   repeat' split at W
   all_goals first
    |cases W;done
    |(have q:=Lb (ds:=x) O W;(repeat' split)<;>first|exact q|contradiction|(exfalso;simp_all;done))
  cases Q
 |makeSlice t n m=>
  rw[P] at W V;simp only at W⊢;rw[<-V n bS,<-V m bS];simp only[Pw]
  repeat' split at W
  all_goals first
   |cases W;done
   |(have q:=Lb (ds:=x) O W;(repeat' split)<;>first|exact q|contradiction|(exfalso;simp_all;done))
 |buildSlice t d parts=>
  rw[P] at W V;have l:(parts.toList.map λq=>(q.1,(v.bw x).ev cf.gl q.2))=parts.toList.map λq=>(q.1,v.ev cf.gl q.2):=by
   refine jh λq M=> ?_
   rw[V q.2 (by simp only[gu,gL];exact⟨q,M,rfl⟩)]
  have j:(parts.toList.any λq=>((v.bw x).ev cf.gl q.2).ec)=parts.toList.any λq=>(v.ev cf.gl q.2).ec:=by
   rw[uF,jy,jy];constructor;rintro⟨X,R,L⟩;exact⟨X,R,by rw[V X.2 (by simp only[gu,gL];exact⟨X,R,rfl⟩)];exact L⟩;rintro⟨X,R,L⟩;exact⟨X,R,by rw[<-V X.2 (by simp only[gu,gL];exact⟨X,R,rfl⟩)];exact L⟩
  simp only at W⊢;rw[l,j];simp only[Pw]
  repeat' split at W
  all_goals first
   |cases W;done
   |(have q:=Lb (ds:=x) O W;(repeat' split)<;>first|exact q|contradiction|(exfalso;simp_all;done))
 |slice t X D B A=>
  rw[P] at W V;have H:∀y:Option Operand,(∀z,y=U z->z∈(Op.slice t X D B A).operands.toList)->y.map ((v.bw x).ev cf.gl)=y.map (v.ev cf.gl):=by
   intro y i;cases y with
   |none=>rfl
   |some z=>simp only[dQ];rw[<-V z (i z rfl)]
  simp only at W⊢;rw[<-V X bS,H D (λz N=>by subst N;simp[gu]),H B (λz N=>by subst N;simp[gu]),H A (λz N=>by subst N;simp[gu])];simp only[Pu]
  repeat' split at W
  all_goals first
   |cases W;done
   |(have q:=Lb (ds:=x) O W;(repeat' split)<;>first|exact q|contradiction|(exfalso;simp_all;done))
 |store t a X=>
  rw[P] at W V;simp only at W⊢;rw[<-V a bS,<-V X bS];have g:(v.bw x).rs=v.rs:=rfl;simp only[Pv];rw[g];have w:∀{aN:BE}{e:TypeId}{G:RK}{y:LE}{F cM:ap}{k:Nat}{b:BI},(jA v Z aN e G y F cM).map (λb=>{b with s:=(b.s.gC k (Y v.rs)).put o.dst (.bA [])})=U b->
    (jA (v.bw x) Z aN e G y F cM).map (λb=>{b with s:=(b.s.gC k (Y v.rs)).put o.dst (.bA [])})=U {b with s:=b.s.bw x}:=by
   intro aN e G y F cM k b M;obtain⟨b0,f,rfl⟩:=ND.1 M;rw[Lb (ds:=x) au f];simp only[dQ];rw[aeh,<-wL O]
  repeat' split at W
  all_goals first
   |cases W;done
   |(have q:=w W;clear w;(repeat' split)<;>first|exact q|contradiction|(exfalso;simp_all;done))
 |_=>rw[P] at Q;simp[Gz] at Q
end
section
variable{ops:db}
def qd(l:ck):ap:=l.filterMap (·.o.dst)
structure si(ops:db)(listed:Array Bool)(rem:ck):Prop where
 mem:∀m∈rem,ops[m.j]?=U m.o
 un:∀i,i<ops.size->(listed.getD i J=E<->∃m∈rem,m.j=i)
 sz:listed.size=ops.size
 dn:∀(j:Nat)(o:Oper),ops[j]?=U o->listed.getD j E=J->∀e∈im o,listed.getD e E=J
 nd:rem.Pairwise λx y=>x.j≠y.j
def si.listed{listed:Array Bool}{O:ck}(W:Hx ops x)(N:si ops listed O):∀(j:Nat)(o:Oper),ops[j]?=U o->(∀e∈im o,listed.getD e E=J)->∀i,i<ops.size->(x.getD j 0).testBit i=J->listed.getD i E=true:=by
 intro j;induction j using JH with
 |_ j M=>
  intro o X V i R L;rcases W.cl j o X i R L with h|⟨e,Q,h⟩;exact V i h;have H:=W.lt j o X e Q;have G:j<ops.size:=(jg.1 X).1;have P:ops[e]?=U ops[e]:=F6 aa;exact M e H ops[e] P (N.dn e _ P (V e Q)) i R h
def si.lt{listed:Array Bool}{X:ck}(W:si ops listed X){m:OM}(V:m∈X):m.j<ops.size:=(jg.1 (W.mem m V)).1
def si.not{listed:Array Bool}{V:ck}(X:si ops listed V){m:OM}(W:m∈V):listed.getD m.j E≠true:=by
 have h:=(X.un m.j (X.lt W)).2 ⟨m,W,rfl⟩;have R:m.j<listed.size:=by rw[X.sz];exact X.lt W
 simp[R] at h⊢;exact h
def si.next{listed:Array Bool}{V R:ck}{m:OM}(W:si ops listed (V++m::R))(D:∀e∈im m.o,listed.getD e E=J):si ops (listed.setIfInBounds m.j J) (V++R):=by
 have H:=W.mem m au;have B:m.j<ops.size:=(jg.1 H).1;have P:m.j<listed.size:=by rw[W.sz];exact B
 have O:alJ (V++R) (V++m::R):=aaz (aaB _) (aax _ _);have A:∀x∈V++R,x.j≠m.j:=by
  intro x X;have N:=W.nd;rw[mB] at N;rcases eC.1 X with h|h;exact N.2.2 x h m au;exact Ne.symm ((iv.1 N.2.1).1 x h)
 refine⟨λx X=>W.mem x (O.subset X),λi z=> ?_,by simp[W.sz],λj o M Q e G=> ?_,W.nd.sublist O⟩;rw[AJ _ _ _ _ P];by_cases L:i=m.j;subst L;simp only[cH,axr,false_iff];rintro⟨x,X,Q⟩;exact A x X Q;rw[aJ L,W.un i z];constructor;rintro⟨x,X,rfl⟩;refine⟨x, ?_,rfl⟩;simp only[eC,dJ] at X⊢;rcases X with h|h|h;exact .inl h;subst h;exact bp rfl L;exact .inr h;rintro⟨x,X,rfl⟩;exact⟨x,O.subset X,rfl⟩;rw[AJ _ _ _ _ P];rw[AJ _ _ _ _ P] at Q;split;rfl;by_cases F:j=m.j;subst F;rw[H] at M;cases M;exact D e G;rw[aJ F] at Q;exact W.dn j o M Q e G
def si.some{listed:Array Bool}{W:ck}(O:Hx ops x)(X:si ops listed W):∀(j:Nat),(∃m∈W,m.j=j)->∃m∈W,∀e∈im m.o,listed.getD e E=true:=by
 intro j;induction j using JH with
 |_ j N=>
  rintro⟨m,V,rfl⟩;by_cases h:∀e∈im m.o,listed.getD e E=J;exact⟨m,V,h⟩;simp only[Classical.not_forall] at h;obtain⟨e,M,R⟩:=h;have Q:=O.lt m.j m.o (X.mem m V) e M;have P:e<ops.size:=Nat.lt_trans Q (X.lt V);have:listed.getD e J=false:=by
   have L:e<listed.size:=by rw[X.sz];exact P
   simp[L] at R⊢;exact R
  exact N e Q ((X.un e P).1 this)
end
def aoE(X:aI)(s:S)(W:ap):((s.bw W).b9 X).1=(s.b9 X).1/\((s.bw W).b9 X).2=(s.b9 X).2.bw W:=by
 induction X generalizing s with
 |nil=>exact⟨rfl,rfl⟩
 |cons k X V=>
  simp only[S.b9];have R:((s.bw W).fresh k).1=(s.fresh k).1:=by cases k<;>rfl
  have Q:((s.bw W).fresh k).2=(s.fresh k).2.bw W:=by cases k<;>rfl
  rw[R,Q];obtain⟨P,O⟩:=V (s.fresh k).2;exact⟨by rw[P],O⟩
section
variable{p:Sp}{cf:bi}
open Classical in
noncomputable def AK(s:S)(W:ap)(k:C->S->T):C->S->T:=λv X=>if X.tmps=(s.bw W).tmps then k v {X with tmps:=s.tmps} else .stuck ""
def aoF{N:YH}{X R:C->S->T}{L:cX}
  (h:(iZ cf k N (.fn t) l v X R).aG p y L):(iZ cf k N (.fn t) l (v.bw x) (AK v x X) (AK v x R)).aG p y L:=by
 unfold iZ at h⊢;simp only at h⊢;split at h;rename_i c A M w;split at h;rename_i H;rw[aE (EH H)];have:Gv cf (v.bw x) M (AK v x X) (AK v x R)=Gv cf v M X R:=by
  funext e u;cases e<;>simp only[Gv,AK,cH]
 rw[this];exact h;exact h.elim;unfold wl at h⊢;split at h;split at h;rename_i V r;obtain⟨G,F⟩:=aoE V (v.cut l V) x;have D:(v.bw x).cut l V=(v.cut l V).bw x:=rfl;rw[D,G,F];split at h;rename_i W q;split at h;rename_i Q;simp only[aw] at Q;rw[aE (by simp only[aw];exact⟨EH Q.1,Q.2⟩)];have P:((v.cut l V).b9 V).2.tmps=v.tmps:=(u5 V (v.cut l V)).2.1;have B:AK v x X (one W) (((v.cut l V).b9 V).2.bw x)=X (one W) ((v.cut l V).b9 V).2:=by
  simp only[AK];rw[aE (by simp only[S.bw,P])];congr 1;simp only[S.bw];generalize((v.cut l V).b9 V).2=z at P;rw[<-P]
 rw[B];exact h;exact h.elim;exact h.elim;exact h.elim;exact h.elim
end
section
variable{p:Sp}{cf:bi}{ops:db}
def ael{V:Type}:∀{l:List V}{x:V},x∈l->∃X W,l=X++x::W/\(x,X++W)∈Gx l
 |[],x,h=>by cases h
 |y::r,x,h=>by
  rcases dJ.1 h with rfl|h;exact⟨[],r,rfl,by simp[Gx]⟩;obtain⟨X,W,R,Q⟩:=ael h;subst R;exact⟨y::X,W,rfl,by simp only[Gx,dJ,gL];exact .inr ⟨_,Q,rfl⟩⟩
def VT{p:Sp}{O:ai}{L:cX}:∀{l:List T},(Am l).aG p O L->∀t∈l,t.aG p O L
 |[],h,_,_=>h.elim
 |[t],h,x,X=>by simp only[NI] at X;subst X;exact h
 |t::u::r,h,x,X=>by
  simp only[Am,T.aG,BE.ab,true_implies] at h;rcases dJ.1 X with rfl|X;exact h.1;exact VT (l:=u::r) h.2 x X
def Lc:∀{l m:bn},lZ l m=J->l=m
 |[],[],_=>rfl
 |[],_::_,h=>by simp[lZ] at h
 |Z::_,[],h=>by simp[lZ] at h
 |U _::_,[],h=>by simp[lZ] at h
 |Z::X,Z::W,h=>by simp only[lZ] at h;rw[Lc h]
 |Z::_,U _::_,h=>by simp[lZ] at h
 |U _::_,Z::_,h=>by simp[lZ] at h
 |U (t,V)::X,U (R,Q)::W,h=>by
  simp only[lZ,aw,di] at h;rw[h.1.1,C.qW _ _ h.1.2,Lc h.2]
def aem:∀{l m:uK},Gy l m=J->l=m
 |[],[],_=>rfl
 |[],_::_,h=>by simp[Gy] at h
 |_::_,[],h=>by simp[Gy] at h
 |x::X,y::W,h=>by
  simp only[Gy,aw] at h;rw[C.qW _ _ h.1,aem h.2]
def LE.bD:∀(a b:LE),LE.aH a b=J->a=b
 |.ah r,b,h=>by cases b<;>simp[LE.aH] at h;rw[RE.bD _ _ h]
 |.lit l,b,h=>by cases b<;>simp[LE.aH] at h;rw[aem h]
 |.jW x y,b,h=>by cases b<;>simp[LE.aH] at h;rw[LE.bD _ _ h.1,LE.bD _ _ h.2]
 |.tq n W,b,h=>by cases b<;>simp[LE.aH] at h;rw[K.bD _ _ h.1,C.qW _ _ h.2]
 |.set x i V X,b,h=>by cases b<;>simp[LE.aH] at h;rw[LE.bD _ _ h.1.1.1,K.bD _ _ h.1.1.2,h.1.2,C.qW _ _ h.2]
 |.sub x R Q,b,h=>by cases b<;>simp[LE.aH] at h;rw[LE.bD _ _ h.1.1,K.bD _ _ h.1.2,K.bD _ _ h.2]
 |.ins x n X,b,h=>by cases b<;>simp[LE.aH] at h;rw[LE.bD _ _ h.1.1,h.1.2,C.qW _ _ h.2]
def S.bD{s s':S}(h:S.aH s s'=J):s=s':=by
 obtain⟨M,a2,L,H,a5,a6,a7,a8⟩:=s;obtain⟨G,F,D,B,A,z,y,x⟩:=s';simp only[S.aH,aw,di,bZ] at h;obtain⟨⟨⟨⟨⟨⟨⟨X,W⟩,V⟩,R⟩,Q⟩,P⟩,O⟩,N⟩:=h;rw[C.qW _ _ X,Lc W,V,R,Q,P,O,N]
def T.bD:∀(a b:T),T.aH a b=J->a=b
 |.out e s,b,h=>by
  cases e with
  |normal=>
   cases b with
   |out W s'=>
    cases W with
    |normal=>rw[S.bD (s:=s) (s':=s') h]
    |_=>simp[T.aH] at h
   |_=>simp[T.aH] at h
  |_=>simp[T.aH] at h
 |.stuck _,b,h=>by simp[T.aH] at h
 |.dK _ _ _ _ _ _ _ _,b,h=>by simp[T.aH] at h
 |.ret v V X,b,h=>by cases b<;>simp[T.aH] at h;rw[C.bD _ _ h.1.1,Lc h.1.2,h.2]
 |.aW v,b,h=>by cases b<;>simp[T.aH] at h;rw[C.bD _ _ h]
 |.aS c t f,b,h=>by cases b<;>simp[T.aH] at h;rw[BE.bD _ _ h.1.1,T.bD _ _ h.1.2,T.bD _ _ h.2]
 |.aN c t,b,h=>by cases b<;>simp[T.aH] at h;rw[BE.bD _ _ h.1,T.bD _ _ h.2]
 |.call f G V X R iE t,b,h=>by
  cases b<;>simp[T.aH] at h;obtain⟨⟨⟨⟨⟨⟨Q,P⟩,O⟩,N⟩,M⟩,L⟩,H⟩:=h;rw[Q,C.qW _ _ P,Lc O,N,M,C.bD _ _ L,T.bD _ _ H]
 |.loop av R F t,b,h=>by cases b<;>simp[T.aH] at h;rw[h.1.1.1,h.1.1.2,C.qW _ _ h.1.2,T.bD _ _ h.2]
 |.back av x,b,h=>by cases b<;>simp[T.aH] at h;rw[h.1,C.qW _ _ h.2]
 |.new e x X D t,b,h=>by cases b<;>simp[T.aH] at h;rw[h.1.1.1.1,LE.bD _ _ h.1.1.1.2,h.1.1.2,h.1.2,T.bD _ _ h.2]
 |.ae k x X t,b,h=>by cases b<;>simp[T.aH] at h;rw[h.1.1.1,LE.bD _ _ h.1.1.2,h.1.2,T.bD _ _ h.2]
 |.fU g k t f,b,h=>by cases b<;>simp[T.aH] at h;rw[BE.bD _ _ h.1.1.1,BE.bD _ _ h.1.1.2,T.bD _ _ h.1.2,T.bD _ _ h.2]
 |.pick n g k t f,b,h=>by
  cases b<;>simp[T.aH] at h;rw[K.bD _ _ h.1.1.1.1,BE.bD _ _ h.1.1.1.2,BE.bD _ _ h.1.1.2,T.bD _ _ h.1.2,T.bD _ _ h.2]
def HF:∀{l:List T}{t:T},t∈l->t∈Ee l
 |[],t,h=>by cases h
 |u::R,t,h=>by
  simp only[Ee];rcases dJ.1 h with rfl|h;split;rename_i X;obtain⟨w,W,V⟩:=jy.1 X;rw[T.bD _ _ V];exact HF W;exact JF;split;exact HF h;exact By _ (HF h)
def aen{p:Sp}{O:ai}{L:cX}:∀{l:List BE}{t:T},(Of l t).aG p O L->(∀b∈l,b.ab O=J)/\t.aG p O L
 |[],t,h=>⟨λ_ X=>(by cases X),h⟩
 |b::r,t,h=>by
  simp only[Of,T.aG] at h;obtain⟨W,V⟩:=aen h.2;exact⟨λx R=>(dJ.1 R).elim (λe=>e▸h.1) (W x),V⟩
def aoG{V:nO}{lu:List BE}{X:ck}{R:ap}{k:S->T}{Q:C->S->T}{W:ck}{L:cX}(h:(nT cf V x lu X R k Q N W v).aG p y L):T2 cf lu v X=true:=by
 cases W with
 |nil=>
  cases N<;>simp only[nT] at h<;>split at h;assumption;exact h.elim;assumption;exact h.elim
 |cons m M=>
  cases N with
  |zero=>exact h.elim
  |succ N=>
   simp only[nT] at h;split at h;exact h.elim;rename_i P;simpa using P
def aoH(s:S):s.bw []=s:=by
 obtain⟨X,b,c,d,e,f,g,i⟩:=s;simp only[S.bw,S.mk.injEq,and_self,and_true];apply jV;intro i;rw[tO];cases X[i]?<;>simp
def VU:∀{l:List T}{t:T},t∈Ee l->t∈l
 |[],t,h=>by cases h
 |u::X,t,h=>by
  simp only[Ee] at h;split at h;exact By _ (VU h);rcases dJ.1 h with rfl|h;exact JF;exact By _ (VU h)
def aeo{O:ai}{L:cX}:∀{l:List T},l≠[]->(∀t∈l,t.aG p O L)->(Am l).aG p O L
 |[],h,_=>bp rfl h
 |[t],_,h=>h t JF
 |t::u::r,_,h=>by
  simp only[Am,T.aG];exact⟨λ_=>h t JF,λ_=>aeo (l:=u::r) au λx X=>h x (By _ X)⟩
def aep{k:S->T}{X:C->S->T}:∀{l:List T},(Am l).l8 k X=Am (l.map (T.l8 k X))
 |[]=>rfl
 |[t]=>rfl
 |t::u::r=>by
  simp only[Am,T.l8,ep];rw[aep (l:=u::r)];rfl
def aoI{k:S->T}{N:C->S->T}{M H:C->S->T}{L:cX}(x:∀X G y L,((M X G).l8 k N).aG p y L->(H X G).aG p y L)(h:((wl cf t l v M).l8 k N).aG p y L):(wl cf t l v H).aG p y L:=by
 unfold wl at h⊢;cases F:cf.sig t with
 |none=>rw[F] at h;exact h.elim
 |some D=>
  simp only[F] at h⊢;cases B:gH cf.ty D with
  |none=>rw[B] at h;exact h.elim
  |some A=>
   simp only[B] at h⊢;cases z:yc cf.ty D ((v.cut l A).b9 A).1 with
   |none=>rw[z] at h;exact h.elim
   |some R=>
    simp only[z] at h⊢;split at h;rename_i w;rw[aE w];simp only[T.l8,T.aG] at h⊢;intro Q V W u;refine(h Q V W u).mono λe i P=> ?_
    cases e with
    |returned X=>
     obtain⟨r,q,o,n,m,j⟩:=P;exact⟨r,q,o,n,m,x _ _ _ _ j⟩
    |panicked f=>exact P
    |outgrown=>exact P
    exact h.elim
def aoJ{X:S->T}{M l:C->S->T}{j:YH}{m:OM}{F D:S->T}{L:cX}(R:∀Q y L,((F Q).l8 X M).aG p y L->(D Q).aG p y L)(h:((B3 cf (J9 cf) x l m F v).l8 X M).aG p y L):(B3 cf (iZ cf k j) x M m D v).aG p y L:=by
 unfold B3 at h⊢;cases B:D0 cf m.o v with
 |some u=>
  simp only[B,T.l8,T.aG] at h⊢;obtain⟨i,f,e⟩:=h;exact⟨i,f,R _ _ _ e⟩
 |none=>
 simp only[B] at h⊢;cases P:dW cf v m.o with
 |call c ag=>
  cases c with
  |fn g=>
   simp only[P,J9] at h⊢;split at h;rename_i H;have H:cf.inl g=none:=by simpa using H
   simp only[iZ,H];exact aoI (λW Q y L d=>R _ y L d) h;exact h.elim
  |yl n=>simp only[P,J9] at h;exact h.elim
 |aW W=>simp only[P] at h;exact h.elim
 |no=>simp only[P] at h;exact h.elim
 |op=>
  simp only[P] at h⊢;cases A:(if Gz m.o.op then eA cf m.o m.bC E v else Z) with
  |some b=>
   simp only[A,T.l8,T.aG] at h⊢;exact⟨h.1,λa af=>R _ _ _ (h.2 a af)⟩
  |none=>
   simp only[A] at h⊢;cases G:An cf m.o v with
   |some r=>
    cases r with
    |ok Q=>simp only[G] at h⊢;exact R _ _ _ h
    |ae X V Q=>simp only[G,T.l8,T.aG] at h⊢;exact R _ _ _ h
   |none=>
   simp only[G] at h⊢;by_cases z:mE m.o.op=J;rw[aE z] at h⊢;cases t:yu cf v m.o with
   |none=>rw[t] at h;exact h.elim
   |some V=>
    obtain⟨b,W⟩:=V;simp only[t,T.l8,T.aG] at h⊢;exact⟨h.1,R _ _ _ h.2⟩
   rw[aJ z] at h⊢;by_cases q:J8 m.o.op=J;rw[aE q] at h⊢;cases N:fJ cf m v with
   |ok Q=>simp only[N] at h⊢;exact R _ _ _ h
   |aN b Q=>simp only[N] at h;exact h.elim
   |split b s1 s2=>simp only[N] at h;exact h.elim
   |no w=>simp only[N] at h;exact h.elim
   rw[aJ q] at h;exact h.elim
def aoK{X:S->T}{V B:C->S->T}{N:YH}{lu:List BE}{R:ap}:∀(n:Nat)(Q:ck)(P:ck)(s:S)(O:ai)(L:cX),
  ((nT cf (J9 cf) x lu P R (.out .normal) B n Q s).l8 X V).aG p O L->(nT cf (iZ cf k N) x lu P R X V n Q s).aG p O L:=by
 intro n;induction n with
 |zero=>
  intro Q P s O L h;cases Q with
  |nil=>
   simp only[nT] at h⊢;split at h;rename_i M;rw[aE M];exact h;exact h.elim
  |cons m r=>exact h.elim
 |succ n A=>
  intro Q P s O L h;cases Q with
  |nil=>
   simp only[nT] at h⊢;split at h;rename_i M;rw[aE M];exact h;exact h.elim
  |cons m r=>
   simp only[nT] at h⊢;split at h;exact h.elim;rename_i M;rw[aJ M];rw[aep] at h;have G:=VT h;cases F:(Gx (m::r)).filter (T3 x) with
   |nil=>rw[F] at h;exact h.elim
   |cons W z=>
    rw[F] at G;refine aeo (λD=> ?_) λt w=> ?_
    have:=HF (JF (a:=B3 cf (iZ cf k N) R V W.1 (λH=>nT cf (iZ cf k N) x lu (GA x W.1 P) R X V n W.2 H) s) (l:=z.map λW=>B3 cf (iZ cf k N) R V W.1 (λH=>nT cf (iZ cf k N) x lu (GA x W.1 P) R X V n W.2 H) s));simp only[ep] at D;rw[D] at this;cases this;obtain⟨y,v,rfl⟩:=gL.1 (VU w);exact aoJ (λH O L u=>A _ _ _ _ _ u) (G _ (gL.2 ⟨_,HF (gL.2 ⟨y,v,rfl⟩),rfl⟩))
structure aeq(cf:bi)(ops:db)(bs:ap)(qs ch:ck):Prop where
 aer:Hx ops bs
 u4:∀m∈qs++ch,∀x∈qs++ch,∀d,x.o.dst=U d->d∈iY ops m.o->(bs.getD m.j 0).testBit x.j=J
 dst:∀x∈qs++ch,∀y∈qs++ch,x.j≠y.j->∀d,x.o.dst=U d->y.o.dst≠U d
 gd:∀m∈qs++ch,m.o.guard=Z/\m.bC=E
 qt:∀q∈qs,mE q.o.op=J
def aoL{F:Fence}(hF:nY F)(ok:iB p cf){nn:Nat}(ih:wK p cf nn){D:bI}{B:iG}{yh:YH}(hY:nZ p cf D.cV B yh){Q:Exit->Act->World->Prop}(HP:∀ch a' A pd X,dR p.w0 D pd X a'.defers A->p.R (.panicked ch) A->Q (.panic ch) a' A)
   {lu:List BE}{qs ch:ck}{ds:ap}(hX:aeq cf ops x qs ch)(cl:∀M∈qs++ch,∀d,M.o.dst=U d->d∈ds){k:S->T}{kp:C->S->T}{V0:ap}{L0:cX}(hB:B.j5 v y V0 L0)(cn:∀b∈lu,b.bd (Y y.i) (Y y.b) (Y y.r)=J/\b.ab y=J)
  (hk:∀z O' V' a' A L',bj v y V0 z O' V'->cz v.av L0 L'->ax p.S0 p.w0 D cf.ty V' O' z a' A->(k z).aG p O' L'->Q .normal a' A)
  (co:∀H z O' V' a' A L',bj v y V0 z O' V'->cz v.av L0 L'->ax p.S0 p.w0 D cf.ty V' O' z a' A->(kp H z).aG p O' L'->Q (.panic [{v:=H.ab O' V',recovered:=E}]) a' A):
  ∀(a4:Nat)(listed:Array Bool)(af ag qv:ck)(s:S)(O:ai)(V:ap)(a:Act)(W:World)(L:cX),(af++ag).length=a4->si ops listed (af++ag)->(∀q∈af,q∈qv)->(∀q∈qv,q∈qs)->(∀m∈ag,m∈ch)->
   bj v y V0 s O V->cz v.av L0 L->ax p.S0 p.w0 D cf.ty V O (s.bw (qd af)) a W->et cf.gl O->(nT cf (iZ cf (λf c s k=>eY cf nn f c s yh k) yh) x lu qv ds k kp (Y ag) ag s).aG p O L->
   wpAnyIn F N p.P .any ops Q a4 listed a W:=by
 intro a4;induction a4 with
 |zero=>
  intro listed af ag qv s O V a W L b0 hW bf bk hr hl hL R hg h;have hp:∀q∈af,q∈qs:=λq hq=>bk q (bf q hq)
  have bl:af++ag=[]:=Dx.1 b0;obtain⟨rfl,rfl⟩:=List.append_eq_nil_iff.1 bl;simp only[NP,nT] at h;split at h;refine⟨?_,hk s O V a W L hl hL (by have:=R;simp only[qd,List.filterMap_nil,aoH] at this;exact this) h⟩;cases al:qJ .any ops listed with
  |nil=>rfl
  |cons i r=>
   obtain⟨h1,o,ho,-⟩:=mem_ready.1 (show i∈qJ .any ops listed by rw[al];simp);obtain⟨m,hm,-⟩:=(hW.un i (jg.1 ho).1).1 h1;cases hm
  exact h.elim
 |succ a4 cp=>
  intro listed af ag qv s O V a W L b0 hW bf bk hr hl hL R hg h;have hp:∀q∈af,q∈qs:=λq hq=>bk q (bf q hq)
  have bb:∀m∈af++ag,m∈qs++ch:=λm hm=>by
   rcases eC.1 hm with h1|h1;exact uC _ (hp m h1);exact JC _ (hr m h1)
  refine⟨λal=> ?_,λi hi=> ?_⟩;exfalso;obtain⟨m0,cy⟩:=List.exists_mem_of_length_pos (l:=af++ag) aa;obtain⟨m,hm,bl⟩:=si.some hX.aer hW m0.j ⟨m0,cy,rfl⟩;have:m.j∈qJ .any ops listed:=
   mem_ready.2 ⟨(hW.un m.j (hW.lt hm)).2 ⟨m,hm,rfl⟩,m.o,hW.mem m hm,λe he hb=>bl e.on (KZ he hb)⟩
  rw[al] at this;cases this;obtain⟨h1,o,ho,bl⟩:=mem_ready.1 hi;obtain⟨m,hm,rfl⟩:=(hW.un i (jg.1 ho).1).1 h1;have b1:=hW.mem m hm;rw[b1] at ho;cases ho;have hd:∀e∈im m.o,listed.getD e E=true:=λe he=>by
   obtain⟨ed,h2,h3,rfl⟩:=Pl he;exact bl ed h2 h3
  have b2:∀M∈af++ag,¬(x.getD m.j 0).testBit M.j=true:=λM hx hb=>hW.not hx (hW.listed hX.aer m.j m.o b1 hd M.j (hW.lt hx) hb)
  have al:∀t∈iY ops m.o,t∉qd af:=λt ht hq=>by
   obtain⟨M,hx,br⟩:=zV.1 hq;exact b2 M (uC _ hx) (hX.u4 m (bb m hm) M (bb M (uC _ hx)) t br ht)
  obtain⟨cA,cs⟩:=hX.gd m (bb m hm);have ct:=aoG h;have cB:jH m.o (yielded ops a.tmps)=true:=VG R (by simp[gq,cA]);unfold wpOpIn;rw[b1];simp only[cB,cH];rcases eC.1 hm with cC|cD
  
  obtain⟨xs,ys,rfl⟩:=axs cC;have hq:=eO.1 ct m (bf m au);split at hq;rename_i d b H b3 hv;split at hq;rename_i w hw;simp only[aw,iD] at hq;have cI:=C.bD _ _ hq.1;subst cI;have cO:b.ab O=true:=by
   rcases hq.2 with h5|h5;cases b<;>simp only[BE.T1,iC] at h5;simp only[BE.ab];exact h5;obtain⟨M,hx,h6⟩:=jy.1 h5;rw[<-BE.bD _ _ h6,BE.dS hl.ext.agree M (cn M hx).1];exact(cn M hx).2
  have a9:=aed (O:=O) (hX.qt m (hp m au)) cs (aee (ops:=ops) (ds:=qd (xs++m::ys)) al hv) cO;obtain⟨v',A,V',an,R',G⟩:=KC R ok.jB hg m a9;have a0:=hW.nd;rw[BD,gA] at hW a0;have a3:d∉qd (xs++ys):=λhh=>by
   obtain⟨M,hx,br⟩:=zV.1 hh;have b4:M.j≠m.j:=by
    rw[mB] at a0;rcases eC.1 hx with h5|h5;exact a0.2.2 M h5 m au;exact Ne.symm ((iv.1 a0.2.1).1 M (by simp[h5]))
   exact hX.dst M (uC _ (hp M (by rcases eC.1 hx with h5|h5<;>simp[h5]))) m (uC _ (hp m au)) b4 d br b3
  have hs:((s.bw (qd (xs++m::ys))).put m.o.dst H)=s.bw (qd (xs++ys)):=by
   rw[b3];simp only[S.put,tw,S.bw];congr 1;apply jV;intro i;rw[td,tO,tO,gV,HD];have cR:=(bJ.1 hw).1;by_cases hi:d=i;subst hi;rw[aE rfl,aE cR,hw];simp[a3];rw[aJ hi];have cW:(qd (xs++m::ys)).contains i=(qd (xs++ys)).contains i:=by
    rw[uF,ov,ov];simp only[qd,List.filterMap_append,aaA,b3,eC,dJ];constructor;rintro(h5|h5|h5);exact .inl h5;exact bp h5.symm hi;exact .inr h5;rintro(h5|h5);exact .inl h5;exact .inr (.inr h5)
   rw[cW]
  rw[hs] at R' G;refine wD hF an (KO a9) ?_;refine cp _ (xs++ys) ag qv s O V' _ A L (by simp at b0⊢;omega) ?_ (λq hq=>bf q (by rcases eC.1 hq with h5|h5<;>simp[h5])) bk hr (hl.trans ⟨G.ext,G.mono,G.len,G.av⟩) hL R' hg h;rw[BD];exact hW.next hd;cases hq;cases hq
  
  obtain⟨xs,ys,rfl,cv⟩:=ael cD;have c0:(xs++m::ys).length=(xs++ys).length+1:=dG;have c1:T3 x (m,xs++ys)=true:=by
   refine eO.2 λM hx=> ?_
   have:=b2 M (JC _ (by simp only[eC,dJ] at hx⊢;exact hx.imp id .inr));simpa using this
  have h:(B3 cf (iZ cf (λf c s k=>eY cf nn f c s yh k) yh) ds kp m (λz=>nT cf (iZ cf (λf c s k=>eY cf nn f c s yh k) yh) x lu (GA x m qv) ds k kp (xs++ys).length (xs++ys) z) s).aG p O L:=by
   rw[c0] at h;generalize c2:xs++m::ys=c3 at h cv;cases c3 with
   |nil=>simp at c2
   |cons m0 r0=>
    simp only[nT,ct,aaH,iC,fH] at h;exact VT h _ (HF (gL.2 ⟨_,o9.2 ⟨cv,c1⟩,rfl⟩))
  have c4:si ops (listed.setIfInBounds m.j J) (af++(xs++ys)):=by
   have h5:af++(xs++m::ys)=(af++xs)++m::ys:=au;rw[h5] at hW;have:=hW.next hd;simpa using this
  have a3:∀d,m.o.dst=U d->d∉qd af:=λd c5 hh=>by
   obtain⟨M,hx,br⟩:=zV.1 hh;have b4:M.j≠m.j:=(mB.1 hW.nd).2.2 M hx m au;exact hX.dst M (bb M (uC _ hx)) m (bb m hm) b4 d br c5
  have ba:∀(s1:S)(O1:ai)(V1:ap)(a1:Act)(W1:World)(L1:cX),bj s O V s1 O1 V1->cz s.av L L1->ax p.S0 p.w0 D cf.ty V1 O1 (s1.bw (qd af)) a1 W1->(nT cf (iZ cf (λf c s k=>eY cf nn f c s yh k) yh) x lu (GA x m qv) ds k kp (xs++ys).length (xs++ys) s1).aG p O1 L1->wpAnyIn F N p.P .any ops Q a4 (listed.setIfInBounds m.j J) a1 W1:=
   λs1 O1 V1 a1 W1 L1 cx c6 R1 c7=>cp _ af (xs++ys) (GA x m qv) s1 O1 V1 a1 W1 L1 (by simp at b0⊢;omega) c4 (λq hq=>o9.2 ⟨bf q hq,by have:=b2 q (uC _ hq);simpa using this⟩) (λq hq=>bk q (o9.1 hq).1) (λM hx=>hr M (by simp only[eC,dJ] at hx⊢;exact hx.imp id .inr)) (hl.trans cx) (hL.trans c6 hl.av) R1 (hg.ext cx.ext) c7
  have b5:=(Pt (cf:=cf) (s:=s) (O:=O) al).ev cf.gl;unfold B3 at h;split at h;rename_i u hu;have c8:=aoz (Ch b5) a3 hu;simp only[T.aG] at h;obtain⟨az,hr,h⟩:=h;obtain⟨bg,tv,c9,a0,b6⟩:=ani ok.uQ R hg c8 hr;refine⟨λf _=>hF.fn f, ?_⟩;rw[v6 _ _ _ a0,c9,NK];refine⟨λhd=>by rw[hF.u4] at hd;simp at hd,CallsIn.mono (hF.calls b6) (λe A he=> ?_)⟩;obtain⟨rfl,R',G⟩:=he;exact ba u.s _ V _ A L ⟨G.ext,G.mono,G.len,G.av⟩ (cz.refl _ _) R' h;split at h;rename_i g bg bt;have b7:dW cf (s.bw (qd af)) m.o=.call (.fn g) bg:=by rw[Ch b5];exact bt
  have b8:B.j5 (s.bw (qd af)) O V L:=by
   have:=hB.go hl hL;exact⟨⟨this.later.ext,this.later.mono,this.later.len,this.later.av⟩,this.Ey⟩
  have hC:=EG ok ih hY L (.fn g) bg (s.bw (qd af)) _ _ O V a W (λe A=>match e with
    |.returned H=>wpAnyIn F N p.P .any ops Q a4 (listed.setIfInBounds m.j J) (a.put m.o.dst H) A
    |.panicked ch=>Q (.panic ch) a A
    |.outgrown=>LetsOut Q) b8 (aoF h) R hg
   (λH z O' V' A L' G bc R' hs=>by
    simp only[AK] at hs;split at hs;rename_i bx;refine ba (({z with tmps:=s.tmps}:S).put m.o.dst H) O' V' _ A L' (bj.put (s':={z with tmps:=s.tmps}) (show bj s O V _ O' V' from⟨G.ext,G.mono,G.len,G.av⟩) _ _) bc ?_ hs;rw[wL a3];have:({z with tmps:=s.tmps}:S).bw (qd af)=z:=by
     simp only[S.bw] at bx⊢;rw[<-bx]
    rw[this];exact R'.put _ _;exact hs.elim)
   (λH z O' V' A L' G bc R' hs=>by
    simp only[AK] at hs;split at hs;rename_i bx;refine co H (({z with tmps:=s.tmps}:S).bw ds) O' V' a A L' (hl.trans ⟨G.ext,G.mono,G.len,G.av⟩) (hL.trans bc hl.av) ?_ hs;have:({z with tmps:=s.tmps}:S).bw ds=z.bw ds:=by
     have h6:=aec (s:=s) (ds:=ds) (es:=qd af) (λM hx=>by
      obtain⟨X,hy,ca⟩:=zV.1 hx;exact cl X (bb X (uC _ hy)) M ca)
     have h7:=ji S.tmps h6;simp only[S.bw] at h7 bx⊢;rw[bx,h7]
    rw[this];exact R'.bw ds;exact hs.elim)
   (λch A pd X hA hR=>HP ch a A pd X hA hR)
  obtain⟨dc,b6⟩:=hC;refine⟨λf _=>hF.fn f, ?_⟩;have a0:∀c,m.o.op≠ .defer c:=λc cc=>by simp[dW,cc] at bt
  rw[v6 _ _ _ a0,OX R hg b7 dc,NK];refine⟨λhd=>by rw[hF.u4] at hd;simp at hd,CallsIn.mono (hF.calls b6) (λe A he=> ?_)⟩;cases e<;>exact he;rename_i yn bg bt;have b7:dW cf (s.bw (qd af)) m.o=.call (.yl yn) bg:=by rw[Ch b5];exact bt
  have b8:B.j5 (s.bw ds) O V L:=by
   have:=hB.go hl hL;exact⟨⟨this.later.ext,this.later.mono,this.later.len,this.later.av⟩,this.Ey⟩
  have Rd:ax p.S0 p.w0 D cf.ty V O (s.bw ds) a W:=by
   have h6:=aec (s:=s) (ds:=ds) (es:=qd af) (λM hx=>by
    obtain⟨X,hy,ca⟩:=zV.1 hx;exact cl X (bb X (uC _ hy)) M ca)
   rw[<-h6];exact R.bw ds
  have hC:=EG ok ih hY L (.yl yn) bg (s.bw ds) _ _ O V a W (λe A=>match e with
    |.returned H=>wpAnyIn F N p.P .any ops Q a4 (listed.setIfInBounds m.j J) (a.put m.o.dst H) A
    |.panicked ch=>Q (.panic ch) a A
    |.outgrown=>LetsOut Q) b8 h Rd hg
   (λH z O' V' A L' G bc R' hs=>ba (z.put m.o.dst H) O' V' _ A L' ((show bj s O V z O' V' from⟨G.ext,G.mono,G.len,G.av⟩).put _ _) bc ((R'.put m.o.dst H).bw (qd af)) hs)
   (λH z O' V' A L' G bc R' hs=>co H (z.bw ds) O' V' a A L' (hl.trans ⟨G.ext,G.mono,G.len,G.av⟩) (hL.trans bc hl.av) (R'.bw ds) hs)
   (λch A pd X hA hR=>HP ch a A pd X hA hR)
  obtain⟨fn,dT,assign,body,hy,dd⟩:=hC F hF (N-1);refine⟨λf _=>hF.fn f, ?_⟩;have a0:∀c,m.o.op≠ .defer c:=λc cc=>by simp[dW,cc] at bt
  rw[v6 _ _ _ a0,Vd R hg b7,hy,als];refine⟨λhd=>by rw[hF.u4] at hd;simp at hd,RoundIn.mono dd (λe A he=> ?_)⟩;cases e<;>exact he;split at h;rename_i b hb;split at hb;rename_i df;simp only[T.aG] at h;have dk:=aoD (cf:=cf) (ops:=ops) df al a3 hb;obtain⟨v',A,rv,an,dn,R',G⟩:=UT R ok.jB hg dk h.1;exact wD hF an (Vf hb) (ba b.s _ V _ A L ⟨G.ext,G.mono,G.len,G.av⟩ (cz.refl _ _) R' (h.2 rv (by rw[ok.pt];exact dn)));cases hb;split at h;rename_i z hu;obtain⟨A,an,R',G⟩:=aek R ok.jB hg (aei (ops:=ops) al a3 hu);exact wD hF an (aej hu) (ba z O V _ A L ⟨G.ext,G.mono,G.len,G.av⟩ (cz.refl _ _) R' h);rename_i k' x' z hu;obtain⟨A,an,R',G⟩:=aek R ok.jB hg (aei (ops:=ops) al a3 hu);simp only[T.aG] at h;exact wD hF an (aej hu) (ba z _ V _ A L ⟨G.ext,G.mono,G.len,G.av⟩ (cz.refl _ _) R' h);split at h;rename_i dr;split at h;rename_i b H hv;simp only[T.aG] at h;have a9:=aed (O:=O) dr cs (aee (ops:=ops) (ds:=qd af) al hv) h.1;obtain⟨v',A,V',an,R',G⟩:=KC R ok.jB hg m a9;rw[<-wL a3] at R' G;exact wD hF an (KO a9) (ba (s.put m.o.dst H) O V' _ A L ⟨G.ext,G.mono,G.len,G.av⟩ (cz.refl _ _) R' h.2);exact h.elim;split at h;rename_i dx;split at h;rename_i z dy;have dz:=aou (ops:=ops) dx al a3 dy;have a9:(fJ cf m (s.bw (qd af))).gives O (z.bw (qd af)):=by rw[dz];rfl
  obtain⟨v',A,V',an,R',G⟩:=KC R ok.jB hg m a9;exact wD hF an (KO a9) (ba z O V' _ A L ⟨G.ext,G.mono,G.len,G.av⟩ (cz.refl _ _) R' h);exact h.elim;exact h.elim;exact h.elim
def aes:∀{P:ck}{s:S}{x:S×List BE},BZ cf P s=U x->x.1={s with tmps:=x.1.tmps}/\Y x.1.tmps=Y s.tmps/\(∀t,t∉qd P->x.1.tmps[t]?=s.tmps[t]?)/\∀b∈x.2,b.bd s.ni s.nb (Y s.rs)=J
 |[],s,x,h=>by simp only[BZ,cg] at h;subst h;exact⟨rfl,rfl,λ_ _=>rfl,λ_ R=>(by cases R)⟩
 |q::r,s,x,h=>by
  simp only[BZ] at h;split at h;rename_i b v X;cases Q:BZ cf r (s.put q.o.dst v) with
  |none=>rw[Q] at h;cases h
  |some y=>
   rw[Q] at h;simp only[dQ,cg] at h;subst h;obtain⟨L,H,G,O⟩:=aes Q;refine⟨?_, ?_,λt N=> ?_,λx W=> ?_⟩;show y.1=_;rw[L];cases q.o.dst<;>rfl;show Y y.1.tmps=_;rw[H];cases q.o.dst<;>simp[S.put,tw];have F:t∉qd r:=λM=>N (by
    simp only[qd,aaA];cases q.o.dst with
    |none=>exact M
    |some d=>exact By _ M)
   show y.1.tmps[t]?=_;rw[G t F,lz (λe=>N (by simp[qd,e]))];have V:(s.put q.o.dst v).ni=s.ni/\(s.put q.o.dst v).nb=s.nb/\(s.put q.o.dst v).rs=s.rs:=by cases q.o.dst<;>exact⟨rfl,rfl,rfl⟩
   have R:b.bd s.ni s.nb (Y s.rs)=true:=by
    unfold yu at X;split at X;cases X;split at X;cases X;exact BE.aQ.1 _;split at X;rename_i D;cases X;exact D;cases X;cases X
   simp only at W;split at W;have:=O x W;rwa [V.1,V.2.1,V.2.2] at this;rcases dJ.1 W with rfl|W;exact R;have:=O x W;rwa [V.1,V.2.1,V.2.2] at this
  cases h
def aet{F:Fence}(hF:nY F)(ok:iB p cf){nn:Nat}(ih:wK p cf nn){D:bI}{B:iG}{yh:YH}(hY:nZ p cf D.cV B yh){Q:Exit->Act->World->Prop}(HP:∀w a' l pd X,dR p.w0 D pd X a'.defers l->p.R (.panicked w) l->Q (.panic w) a' l)
  {id:Nat}{so:Bool}{c:Ka}{a:Act}{L:cX}{k:XE->S->T}(hB:B.j5 v y x L)(u:GC cf so ops v=U c)
  (h:(Kf cf (iZ cf (λf c v k=>eY cf nn f c v yh k) yh) ops k c).aG p y L)(R:ax p.S0 p.w0 D cf.ty x y v a e)(hg:et cf.gl y)
  (hk:∀s' O' V' a' l L',bj v y x s' O' V'->cz v.av L L'->ax p.S0 p.w0 D cf.ty V' O' s' a' l->(k .normal s').aG p O' L'->Q .normal a' l)
  (bk:∀M s' O' V' a' l L',bj v y x s' O' V'->cz v.av L L'->ax p.S0 p.w0 D cf.ty V' O' s' a' l->(k (.aW M) s').aG p O' L'->Q (.panic [{v:=M.ab O' V',recovered:=E}]) a' l):
  (Code.region id ops J).wpIn F N p.P Q a e:=by
 unfold GC at u;split at u;rename_i ag;obtain⟨al,an⟩:∃al,al=fh (λ_=>E) E J 0 (Y v.ak) ops.toList:=⟨_,rfl⟩;obtain⟨z,a4⟩:∃z,z=Ao so ops (Y v.ak):=⟨_,rfl⟩;obtain⟨w,a9⟩:∃w,w=Ap so ops (Y v.ak):=⟨_,rfl⟩;have bl:z=al.filter λm=>(Og so ops).contains m.j:=by rw[a4,an];rfl
 have br:w=al.filter λm=> !(Og so ops).contains m.j:=by rw[a9,an];rfl
 have ag:=(aw _ _▸ag).2;unfold GB at ag;rw[<-a4,<-a9,<-an] at ag;rw[<-a4,<-a9] at u;cases hq:BZ cf z (v.room (kL ops.toList)) with
 |none=>rw[hq] at u;cases u
 |some x1=>
  obtain⟨s1,lu⟩:=x1;rw[hq] at u;simp only[Tt,T6] at u;split at u;cases u;cases u;obtain⟨bb,h⟩:=aen h;simp only at h bb;have h:(nT cf (iZ cf (λf c v k=>eY cf nn f c v yh k) yh) (nS ops.toList) lu z (BX ops.toList) (k .normal) (λM=>k (.aW M)) (Y w) w s1).aG p y L:=by
   split at h;exact h;exact aoK _ _ _ _ _ _ h
  simp only[T5,aw,di] at ag;obtain⟨⟨⟨⟨⟨⟨⟨⟨c1,c2⟩,c4⟩,c5⟩,c6⟩,c7⟩,c8⟩,c9⟩,b2⟩:=ag;have af:∀m∈z++w,m∈al:=λm A=>by
   rcases eC.1 A with h1|h1;rw[bl] at h1;exact(o9.1 h1).1;rw[br] at h1;exact(o9.1 h1).1
  have bc:∀m∈al,ops[m.j]?=U m.o:=λm A=>by
   obtain⟨i,g⟩:=alm.1 A;rw[an] at g;have h1:=EF _ _ _ _ _ _ _ _ g;have h2:=VM _ _ _ _ _ _ _ _ g;rw[h2,gV];simpa using h1
  have bd:=Pn c4;have hX:aeq cf ops (nS ops.toList) z w:=by
   refine⟨ad3 c1,λm A H hx d hd r=> ?_,λH hx X hy bs d bf bg=> ?_,λm A=> ?_,λq hq=> ?_⟩;have:=eO.1 (eO.1 c5 m (af m A)) H (af H hx);rw[hd] at this;simp only[iD,f9] at this;rcases this with h5|h5;rw[ov.2 r] at h5;cases h5;exact h5;obtain⟨i,g⟩:=alm.1 (af H hx);obtain⟨j,hj⟩:=alm.1 (af X hy);have bt:i≠j:=λG=>by subst G;rw[g] at hj;cases hj;exact bs rfl
   have a0:=(bJ.1 g);have a1:=(bJ.1 hj);rcases axp bt with ba|ba;exact(NC.1 bd i j a0.1 a1.1 ba) d (by rw[a0.2];exact bf) (by rw[a1.2];exact bg);exact(NC.1 bd j i a1.1 a0.1 ba) d (by rw[a1.2];exact bg) (by rw[a0.2];exact bf);have:=eO.1 c2 m (af m A);simp only[aw,f9,aw0] at this;exact this;have:=eO.1 c6 q hq;simp only[aw] at this;exact this.1
  obtain⟨Rr,a3⟩:=R.room (kL ops.toList);have Rd:=Rr.drew;obtain⟨e1,e2,e3,e4⟩:=aes hq;simp only at e1 e2 e3 e4;have Rb:ax p.S0 p.w0 D cf.ty (x++ew (kL ops.toList) 0) y (s1.bw (qd z)) a {e with drawn:=e.drawn+1}:=by
   have hh:s1.bw (qd z)={v.room (kL ops.toList) with tmps:=qS (qd z) 0 s1.tmps}:=by
    rw[e1];rfl
   rw[hh];refine⟨Rd.mem,Rd.fM,Rd.ei,Rd.eb,Rd.er,Rd.cQ,by simp only[HD,e2];exact Rd.size,λt sv r=> ?_,Rd.fz⟩;simp only at r;rw[tO,gV] at r;cases hx:s1.tmps[t]? with
   |none=>rw[hx] at r;cases r
   |some H=>
    rw[hx] at r;simp only[dQ,cg] at r;split at r;exact .inl r.symm;rename_i bx;subst r;exact Rd.tmps t H (by rw[<-e3 t (λA=>bx (ov.2 A))];exact hx)
  have b0:bj v y x s1 y (x++ew (kL ops.toList) 0):=by
   rw[e1];exact⟨a3.ext,a3.mono,a3.len,a3.av⟩
  refine wpIn_region_any ok.Pb ?_;refine aoL (ds:=BX ops.toList) hF ok ih hY HP hX (λH hx d hd=> ?_) hB (λb hb=>⟨by have:=e4 b hb;rw[R.ei,R.eb,R.er];exact this,bb b hb⟩) hk bk ops.size _ z w z s1 y _ a _ L c8 ?_ (λ_ h=>h) (λ_ h=>h) (λ_ h=>h) b0 (cz.refl _ _) Rb hg h;have h2:ops.toList[H.j]?=U H.o:=by have:=bc H (af H hx);simpa using this
  exact zV.2 ⟨H.o,iU h2,hd⟩;refine⟨λm A=>bc m (af m A),λi g=> ?_,au,λj o ho hj=> ?_, ?_⟩;constructor;intro _;have:=eO.1 c7 i (by simpa using g);obtain⟨m,A,hj⟩:=jy.1 this;exact⟨m,A,by simpa using hj⟩;intro _;simp[g];exfalso;have b1:j<ops.size:=(jg.1 ho).1;simp[b1] at hj;have:=VP c9;rw[alu] at this;exact this
 cases u
end
section
variable{p:Sp}{j:bi}
def iG.here(s:S)(O:ai)(V:ap)(L:cX):(iG.mk s O V L).j5 s O V L:=⟨bj.refl _ _ _,cz.refl _ _⟩
def aoM(W:Array Nat)(V:eX)(A:kH):(W.zip V.toArray).foldl (λ(X:kH)(x:Nat×Value)=>match x with|(t,a)=>X.setIfInBounds t a) A=(W.toList.zip V).foldl (λ(X:kH)(x:Nat×Value)=>X.setIfInBounds x.1 x.2) A:=by
 rw[<-axo];simp[Array.toList_zip]
def bj.VV{W:S}{X:ai}{R:ap}(h:bj v y x W X R)(k:Nat):bj v (y.at (y.y.take k)) x W (X.at (X.y.take k)) R:=
 ⟨⟨⟨h.ext.agree.i,h.ext.agree.b,h.ext.agree.r,by show X.y.take k=y.y.take k;rw[h.ext.agree.y]⟩,h.ext.li,h.ext.lb,h.ext.lr,h.ext.ad⟩,h.mono,h.len,h.av⟩
def aoN(ok:iB p j)(ih:wK p j N){bd:Func}(bf:p.P.funcs[t]?=U bd){ps:Array Tmp}{assign body:Code}{s:S}{L:cX}{O:ai}{V:ap}{a:Act}{sE:S}{l:Nat}{rec:Loop}{g:List (Nat×Loop)}
  (hE:sE.ak=s.ak)(b6:C.dA (Y O.i) (Y O.b) (Y O.r) (aF s.ak) s.tmps=J)(b7:a.tmps.size=Y s.tmps)(b8:∀(X:Nat)(z:C),s.tmps[X]?=U z->z=.any\/a.tmps[X]?=U (z.ab O V))
  (ca:jk assign=E)(cc:jk body=E){n0:Nat}(af:rec={state:=.ready,pending:=Z,fn:=t,tmps:=a.tmps,params:=ps,assign,body,defers:=rec.defers})(f:g[n0]?=U (l,rec)){W:List (Nat×Loop)}{B0:iG}{a9:YH}(cl:nZ p j W B0 a9)(bk:W<+:g)(cn:B0.j5 s (O.at (O.y.take (Y W))) V L)(bl:sE.av=s.av)(co:C.nU n0 s.tmps=E)(c8:Y g=n0+1):
  nZ p j g ⟨sE,O,V,L⟩ (Kc n0 ps.size λo M k1 br=>
   eY j N t assign (Aq M s ps.toList o) gM (Kb n0 λw=>eY j N t body (w.Ar n0 .busy) a9 (Oj n0 M k1 br))):=by
 intro D hD L1 m o M k1 br Q B a1 W1 R' hB h R hg hk cp hp F hF mm;unfold Kc at h;split at h;rename_i hc;simp only[aw,di,bZ] at hc;obtain⟨⟨⟨c1,c3⟩,c4⟩,c5⟩:=hc;subst c1;simp only[S.eD,aw] at c5;have f:D.cV[m]?=U (l,rec):=by
  obtain⟨X,ht⟩:=hD;rw[<-ht,dF aa];exact f
 have bs:pV rec .ready=rec:=by rw[af];rfl
 obtain⟨y1,y2,y3⟩:=R.cQ.cV m l rec .ready f c3;rw[bs] at y2;have cs:Q.y.getD m 0=l:=by simp[cw,y1]
 rw[cs];have bt:rec.params=ps:=by rw[af]
 have ct:=run_yield (P:=p.P) (args:=(C.ay Q B o).toArray) y2 (by rw[bt];simpa using c4);refine⟨_,_,_,_,ct, ?_⟩;have e1:rec.fn=t:=by rw[af]
 have e2:rec.assign=assign:=by rw[af]
 have e3:rec.body=body:=by rw[af]
 have e4:rec.tmps=a.tmps:=by rw[af]
 rw[e1,e2,e3,e4,bt];refine aoc hF bf ?_;obtain⟨ms,m1,m0,m2,m3⟩:=R.cQ.kQ;have hA:=R.cQ.enter m2 m3 J;have cv:∀(X:Nat)(z:C),s.tmps[X]?=U z->z=.any\/a.tmps[X]?=U (z.ab Q B):=by
  intro X z ht;rcases b8 X z ht with h1|h1;exact .inl h1;right;have hX:=hB.later.ext;simp only[hE] at hX;rw[<-C.HB (y:=Q.y.take (Y g)) (n:=m) (λq hq=>by simp only[cw];rw[List.getElem?_take_of_lt aa]) B z (VJ co z (iU ht)),hX.ab (tJ b6 ht)];exact h1
 obtain⟨q1,q2⟩:=adW (O:=Q) (V:=B) ps.toList o s.tmps a.tmps b7 cv;rw[<-aoM] at q1 q2;have RS:ax p.S0 p.w0 ⟨ms++D.out,D.cV,J,[]⟩ j.ty B Q (Aq M s ps.toList o) {tmps:=(ps.zip (C.ay Q B o).toArray).foldl (λ(cx:kH)(x:Nat×Value)=>match x with|(X,a)=>cx.setIfInBounds X a) a.tmps,defers:=[]} W1:=
  ⟨R.mem,R.fM,R.ei,R.eb,R.er,hA,q1,q2,R.fz⟩
 have ba:∀(a':Act) d pd y,dR p.w0 ⟨ms++D.out,D.cV,J,[]⟩ pd y a'.defers d->a'.defers=[]/\dR p.w0 D pd y a1.defers d:=by
  intro a' d pd y ag;obtain⟨cy,p1,p0,p2,p3⟩:=ag.kQ;have:cy=[]:=p0 rfl;subst this;have bx:a'.defers=[]:=by simpa using p1
  rw[bx] at ag;refine⟨bx, ?_⟩;rw[m1];exact ag.HA m0
 refine ih ⟨ms++D.out,D.cV,J,[]⟩ ⟨Aq M s ps.toList o,Q,B,L1⟩ gM (U l) t assign (Aq M s ps.toList o) _ L1 Q B _ W1 _ (Ck _ _) (iG.here _ _ _ _) rfl (λ_=>ca) ⟨bd,bf⟩ h RS hg ?_ ?_;intro ch a' d pd y ag hR;obtain⟨p1,p2⟩:=ba a' d pd y ag;exact .inr ⟨ch,rfl,p1,hp ch d pd y p2 hR⟩;intro e w O2 V2 a2 W2 L2 al b0 R2 an;cases e with
 |normal=>
  simp only[Kb] at an;split at an;rename_i b1;simp only[bZ] at b1;left;obtain⟨z1,z2,z3⟩:=R2.cQ.cV m l rec .ready f b1;rw[bs] at z2;have cA:({rec with state:=.busy}:Loop)=pV rec .busy:=by rw[af];rfl
  have b2:=run_beginRound (P:=p.P) z2 (by rw[af]);rw[cA] at b2;refine⟨rfl,_,b2, ?_⟩;have R3:ax p.S0 p.w0 ⟨ms++D.out,D.cV,J,[]⟩ j.ty V2 O2 (w.Ar m .busy) a2 (W2.putObj l (.loop (pV rec .busy))):=
   R2.obj z2 rfl z3 _ rfl (R2.cQ.VL f .busy)
  have cB:nZ p j D.cV ⟨w.Ar m .busy,O2,V2,L2⟩ a9:=by
   intro D3 cC L3 n3 cD H k3 cI G V3 a3 W3 R3 b3;refine cl D3 ((bk.trans hD).trans cC) L3 n3 cD H k3 cI G V3 a3 W3 R3 ?_;have cO:Y W<=Y g:=bk.length_le;have c9:Y g<=Y D.cV:=hD.length_le;have t1:bj s (O.at (O.y.take (Y W))) V M (Q.at (Q.y.take (Y W))) B:=by
    have e:(Q.y.take (Y g)).take (Y W)=Q.y.take (Y W):=by rw[List.take_take,Gb cO]
    have u:bj sE (O.at (O.y.take (Y W))) V M (Q.at ((Q.y.take (Y g)).take (Y W))) B:=hB.later.VV (Y W);rw[e] at u;exact⟨by have:=u.ext;rw[hE] at this;exact this,by rw[<-hE];exact u.mono,by rw[<-hE];exact u.len,by rw[<-bl];exact u.av⟩
   have t2:=(show bj M Q B w O2 V2 from⟨al.ext,al.mono,al.len,al.av⟩).VV (Y W);have t3:bj w (O2.at (O2.y.take (Y W))) V2 H (G.at (G.y.take (Y W))) V3:=by
    have e:(G.y.take (Y D.cV)).take (Y W)=G.y.take (Y W):=by rw[List.take_take,Gb aa]
    have u:bj (w.Ar m .busy) (O2.at (O2.y.take (Y W))) V2 H (G.at ((G.y.take (Y D.cV)).take (Y W))) V3:=b3.later.VV (Y W);rw[e] at u;exact⟨u.ext,u.mono,u.len,u.av⟩
   exact((cn.go t1 (by rw[<-bl];exact hB.Ey)).go t2 b0).go t3 b3.Ey
  refine ih ⟨ms++D.out,D.cV,J,[]⟩ ⟨w.Ar m .busy,O2,V2,L2⟩ a9 (U l) t body (w.Ar m .busy) _ L2 O2 V2 a2 _ _ cB (iG.here _ _ _ _) rfl (λ_=>cc) ⟨bd,bf⟩ an R3 (hg.ext al.ext) ?_ ?_;intro ch a' d pd y ag hR;obtain⟨p1,p2⟩:=ba a' d pd y ag;exact⟨p1,hp ch d pd y p2 hR⟩
  ·intro e H G V3 a3 W4 L3 bb cR R4 bc;have cW:m<Y H.pd:=by
    rw[<-R4.cQ.len];exact(bJ.1 f).1
   obtain⟨u1,u2,u3⟩:=R4.cQ.cV m l rec H.pd[m] f (ce cW);have A:bj (Aq M s ps.toList o) Q B H G V3:=al.trans (s':=w) ⟨bb.ext,bb.mono,bb.len,bb.av⟩;have b4:cz M.av L1 L3:=cz.trans (m:=w.av) b0 cR al.av;have bg:∀(k:DJ)(a0:Option Code),(∀a4,({pV rec a4 with state:=if a0.isNone then .ready else .done,pending:=a0}:Loop)=pV rec k)->
     (k1 (.bool (.c a0.isNone)) {H with tmps:=M.tmps,pd:=H.pd.set m k}).aG p G L3->∃v w',(Instr.endRound l a0).run p.P W4=.ok v w'/\R' (.returned v) w':=by
    intro k a0 c0 c2;have b5:=run_endRound (P:=p.P) a0 u2;rw[c0] at b5;refine⟨_,_,b5, ?_⟩;have R5:=R4.obj u2 rfl u3 (.loop (pV rec k)) rfl (R4.cQ.VL f k);have c6:dR p.w0 D (H.pd.set m k) G.y a1.defers (W4.putObj l (.loop (pV rec k))):=(ba a3 _ _ _ (R4.cQ.VL f k)).2;have c7:bj (Aq M s ps.toList o) Q B {H with pd:=H.pd.set m k} G V3:=⟨A.ext,A.mono,A.len,A.av⟩;have RB:=R.back c5.1 c7 rfl R5 (D2:=D) (a2:=a1) rfl c6;have:=hk (.bool (.c a0.isNone)) {H with tmps:=M.tmps,pd:=H.pd.set m k} G V3 _ L3 ⟨A.ext,A.mono,A.len,A.av⟩ b4 RB c2;simpa[C.ab,BE.ab] using this
   cases e with
   |normal=>exact bg .ready Z (λa4=>by cases a4<;>rfl) bc
   |ret=>exact bg (.done .ret) (U .ret) (λa4=>by cases a4<;>rfl) bc
   |exit id=>exact bg (.done (.exit id)) (U (.exit id)) (λa4=>by cases a4<;>rfl) bc
   |aW v=>
    obtain⟨p1,p2⟩:=ba a3 _ _ _ R4.cQ;have RB:=R.back c5.1 A rfl R4 (D2:=D) (a2:=a1) rfl p2;exact⟨p1,cp v {H with tmps:=M.tmps} G V3 _ L3 ⟨A.ext,A.mono,A.len,A.av⟩ b4 RB bc⟩
  exact an.elim
 |ret=>exact an.elim
 |exit id=>exact an.elim
 |aW v=>exact an.elim
 exact h.elim
def aoO(ok:iB p j)(ih:wK p j N){D:bI}{B:iG}{yh:YH}{ca:Func}(cc:p.P.funcs[t]?=U ca){f:Operand}{ps:Array Tmp}{assign body:Code}{k:XE->S->T}{L:cX}{a:Act}{Q:Exit->Act->World->Prop}
  (bk:D.rd=E){g:FuncId}{c:Code}{nt:Nat}(bl:v.ev j.gl f=.fn g l)(br:j.inl g=U (c,nt,[]))
  (ba:v.eD l=J)(a1:v.uU (Y v.pd)=E)(cl:C.nU (Y v.pd) l=E)(cn:jk assign=E)(co:jk body=E)(an:iW g 1000000=J)
  (h:(eY j N g c (GD v nt l) (Kc (Y v.pd) ps.size λcp s1 k1 cs=>eY j N t assign (Aq s1 v ps.toList cp) gM (Kb (Y v.pd) λs2=>eY j N t body (s2.Ar (Y v.pd) .busy) yh (Oj (Y v.pd) s1 k1 cs))) (Eg v k)).aG p y L)
  (hY:nZ p j D.cV B yh)(hB:B.j5 v y x L)(R:ax p.S0 p.w0 D j.ty x y v a e)(hg:et j.gl y)
  (HP:∀ch w o pd X,dR p.w0 D pd X w.defers o->p.R (.panicked ch) o->Q (.panic ch) w o)
  (hk:∀M F A u w o L',bj v y x F A u->cz v.av L L'->ax p.S0 p.w0 D j.ty u A F w o->(k M F).aG p A L'->Q (M.to A u) w o):
  iH Z t p.P (.rangeFunc f ps assign body) Q a e:=by
 obtain⟨ms,m1,m0,m2,m3⟩:=R.cQ.kQ;simp only[S.eD,aw] at ba;simp only[S.uU,tc] at a1;obtain⟨rec,bb⟩:∃rec:Loop,rec={state:=.ready,pending:=Z,fn:=t,tmps:=a.tmps,params:=ps,assign,body,defers:=e.heap.size}:=⟨_,rfl⟩;obtain⟨W1,a3⟩:∃W1,(e.alloc (.deferred (U []))).alloc (.loop rec)=W1:=⟨_,rfl⟩;have ct:W1.heap[e.heap.size+1]?=U (.loop rec):=by
  rw[<-a3];have:=NG (e.alloc (.deferred (U []))) (.loop rec);rwa [NL] at this
 have cv:W1.heap[e.heap.size]?=U (.deferred (U [])):=by
  rw[<-a3];exact(Below.heap_alloc _ _ _ au).trans (NG e _)
 have bs:Below e.heap.size e W1:=by
  rw[<-a3];exact⟨rfl,rfl,rfl,dG,λk hk=>(Below.heap_alloc _ _ _ dG).trans (Below.heap_alloc _ _ _ hk)⟩
 have R1:=R.below bs;have cx:pV rec .ready=rec:=by rw[bb];rfl
 have cy:p.w0.heap.size<=e.heap.size:=R.mem.base.size;have bt:∀(N l':Nat)(r':Loop),D.cV[N]?=U (l',r')->l'<e.heap.size:=by
  intro N l' r' hn;have bc:N<Y v.pd:=by rw[<-R.cQ.len];exact(bJ.1 hn).1
  exact yA (R.cQ.cV N l' r' v.pd[N] hn (ce bc)).2.1
 have bx:dR p.w0 ⟨e.heap.size::(ms++D.out),D.cV++[(e.heap.size+1,rec)],E,[]⟩ (v.pd++[.ready]) (y.y++[e.heap.size+1]) [] W1:=
  R1.cQ.push m2 (λd hd=>⟨(bs.block d (yA (m3 d hd).1)).trans (m3 d hd).1,(m3 d hd).2⟩) cv (λhm=>by have:=yA (m3 _ hm).1;omega) cy (by rw[cx];exact ct) (λN l' r' hn M=>by have:=bt N l' r' hn;omega) aa
 have bd:Y y.y=Y v.pd:=R.cQ.oD;have a4:∀m,m<Y v.pd->(y.y++[e.heap.size+1]).getD m 0=y.y.getD m 0:=by
  intro m hm;simp only[cw];by_cases bc:m<Y y.y;rw[dF bc];rw[gK aa,jx (l:=y.y) aa,jx dG]
 have b0:∀(H:Nat)(sv:C),v.tmps[H]?=U sv->sv=.any\/a.tmps[H]?=U (sv.ab (y.at (y.y++[e.heap.size+1])) x):=by
  intro H sv ht;rcases R.tmps H sv ht with q|q;exact .inl q;right;rw[C.HB a4 x sv (VJ a1.1 sv (iU ht))];exact q
 have cA:ax p.S0 p.w0 ⟨e.heap.size::(ms++D.out),D.cV++[(e.heap.size+1,rec)],E,[]⟩ j.ty x (y.at (y.y++[e.heap.size+1])) {v with pd:=v.pd++[.ready]} {a with defers:=[]} W1:=
  ⟨R1.mem.at a4 a1.2,R1.fM,R1.ei,R1.eb,R1.er,bx,R1.size,b0,λk M rv b q h2 h3=>let H:=R1.fz k M rv b q h2 h3;⟨H.own,H.mem,H.box,H.alone,H.inner⟩⟩
 have RE:=cA.enter (.yl (Y v.pd)::l) nt bx;have cB:C.ay (y.at (y.y++[e.heap.size+1])) x (.yl (Y v.pd)::l)=.func (.yield (e.heap.size+1)) #[] #[]::C.ay y x l:=by
  simp only[C.ay,C.ab];rw[C.HC a4 x l cl];congr 3;simp only[ai.at];rw[<-bd];simp
 have cC:a.eval f=.func (.func g) #[] (C.ay y x l).toArray:=by
  have:=cK R hg f (by rw[bl];rfl);rw[bl,C.ab,Uf an] at this;exact this
 have eg:=ok.wG g (.inr (by rw[br];rfl));obtain⟨a0,hf,cD,cI,cO⟩:=ok.inl g c nt [] br;refine aoa ⟨e.heap.size+1,[kP e.heap.size],W1,{target:=.fn (.func g) (C.ay y x l).toArray,args:= #[.func (.yield (e.heap.size+1)) #[] #[]]},W1,g,
  #[.func (.yield (e.heap.size+1)) #[] #[]]++(C.ay y x l).toArray,W1, ?_, ?_, ?_, ?_⟩
 rw[<-a3,bb];exact run_enterLoop_outer _ _ _ _ _
 ·simp only[resolve,cC];simp[go_sem]
 ·simp[invoke,go_sem,eg]
 have cR:(#[.func (.yield (e.heap.size+1)) #[] #[]]++(C.ay y x l).toArray:kH)=(C.ay (y.at (y.y++[e.heap.size+1])) x (.yl (Y v.pd)::l)).toArray:=by
  rw[cB];simp
 rw[cR];refine Hz hf cD ?_;rw[cI];have b1:([kP e.heap.size]++a.defers:yv)=(e.heap.size::ms).map kP++D.base:=by rw[m1];rfl
 have cW:B.j5 v ((y.at (y.y++[e.heap.size+1])).at ((y.at (y.y++[e.heap.size+1])).y.take (Y D.cV))) x L:=by
  have M:(y.at (y.y++[e.heap.size+1])).y.take (Y D.cV)=y.y:=by rw[R.cQ.len,<-bd];simp[ai.at]
  rw[M];exact hB
 have b2:(D.cV++[(e.heap.size+1,rec)])[Y v.pd]?=U (e.heap.size+1,rec):=by rw[<-R.cQ.len];simp
 refine ih ⟨e.heap.size::(ms++D.out),D.cV++[(e.heap.size+1,rec)],E,[]⟩ ⟨GD v nt l,y.at (y.y++[e.heap.size+1]),x,L⟩ _ Z g c (GD v nt l) (Eg v k) L _ x _ W1 _
  (aoN ok ih cc (a:=a) (s:=v) (sE:=GD v nt l) (L:=L) (ps:=ps) (O:=y.at (y.y++[e.heap.size+1])) (V:=x) rfl (R.wv ba.1).1 R.size b0 cn co (by rw[bb]) b2 hY (List.prefix_append _ _) cW rfl a1.1 (by simp[R.cQ.len])) (iG.here _ _ _ _) rfl (λhh=>by cases hh) ⟨a0,hf⟩ (q8 p _ y L _ h) RE hg ?_ ?_
 intro ch w o pd X hA hR;obtain⟨c0,q1,q0,q2,q3⟩:=hA.kQ;rw[q1] at hA;have al:=(hA.py).pop bk;show LeavesInM Fence.wide 0 p.P a0 w.tmps _ w.defers (.panicking ch) o;rw[q1];refine p7 au (uE.1 q2).1 (λd hd=>(q3 d (by simp[hd])).1) ?_;exact HP ch _ _ _ _ (by rw[<-b1] at al;exact al) (K6 (ok.Pc ch) (λd hd=>(q3 d (by simp[hd])).2) hR);intro M F A u w o L' hl hL RR z;obtain⟨c0,q1,q0,q2,q3⟩:=RR.cQ.kQ;have R2:=RR.py q1;have al:=R2.cQ.pop bk;have b3:A.y=y.y++[e.heap.size+1]:=hl.ext.agree.y;have c1:A.y.take (Y D.cV)=y.y:=by rw[b3,R.cQ.len,<-bd];simp
 rw[c1,<-b1,R.cQ.len] at al;have b4:∀m,m<Y v.pd->y.y.getD m 0=A.y.getD m 0:=λm hm=>by rw[b3];exact(a4 m hm).symm
 have an:bj v y x (v.rY F) (A.at y.y) u:=⟨⟨⟨hl.ext.agree.i,hl.ext.agree.b,hl.ext.agree.r,rfl⟩,hl.ext.li,hl.ext.lb,hl.ext.lr,hl.ext.ad⟩,λi hi=>adV _ _ _ i (adT hi) (hl.mono i hi),by show Y v.ak<=(mF _ _ _).length;rw[K3];exact hl.len,hl.av⟩;have b5:∀(W3:World),i8 p.S0 p.w0 u A F.ak j.ty F.rs W3->(∀(k:Nat)(M:TypeId)(rv:RV)(b:Nat),F.rs[k]?=U (.own M)->A.r[k]?=U rv->rv.jY=U b->wt p.S0 p.w0 u A F.ak j.ty F.rs W3 k M rv b)->uV (Y v.pd) (v.rY F).ak=E->
   dR p.w0 D (F.pd.take (Y v.pd)) y.y ([kP e.heap.size]++a.defers) W3->ax p.S0 p.w0 D j.ty u (A.at y.y) (v.rY F) {a with defers:=[kP e.heap.size]++a.defers} W3:=by
  intro W3 hm ht hb c2;refine⟨(hm.aog (Y v.pd) (Y v.ak)).at b4 hb,by show Y u=(mF _ _ _).length;rw[K3];exact R2.fM,R2.ei,R2.eb,R2.er,c2,R.size,λH sv h=> ?_,λk M rv b q h2 h3=>let H:=ht k M rv b q h2 h3;⟨H.own,H.mem,λi hi=>H.box i (K5 hi),H.alone,H.inner⟩⟩;rcases R.tmps H sv h with q|q;exact .inl q;right;rw[an.ext.ab (tJ (R.wv ba.1).1 h)];exact q
 have b6:Y v.pd<Y F.pd:=by
  have:=R2.cQ.len;simp only[fQ,pO,NP] at this;rw[R.cQ.len] at this;omega
 obtain⟨u1,u2,u3⟩:=R2.cQ.cV (Y v.pd) (e.heap.size+1) rec F.pd[Y v.pd] b2 (ce b6);have bf:∀(st:DJ)(M:XE)(a9:Option Code),F.pd[Y v.pd]?=U st->(pV rec st).state≠ .busy->(pV rec st).pending=a9->uV (Y v.pd) (v.rY F).ak=E->(k M (v.rY F)).aG p A L'->
   (∀W4,Q (M.to (A.at y.y) u) {a with defers:=[kP e.heap.size]++a.defers} W4->(match a9 with|none=>Q .normal {a with defers:=[kP e.heap.size]++a.defers} W4|U c=>iH Z t p.P c Q {a with defers:=[kP e.heap.size]++a.defers} W4))->
   LeavesInM Fence.wide 0 p.P a0 w.tmps (VH Z t p.P (e.heap.size+1) Q {a with defers:=[kP e.heap.size]++a.defers}) w.defers .returning o:=by
  intro st M a9 af c3 hj ag c4 hq;rw[q1];refine p7 au (uE.1 q2).1 (λd hd=>(q3 d (by simp[hd])).1) ⟨_,Hh R2 ok.jB (l:=[]) (by rw[cO];rfl), ?_⟩;have c5:F.pd[Y v.pd]=st:=by
   rw[ce b6] at af;simpa using af
  rw[c5] at u2;have b7:=run_endLoop (P:=p.P) u2 c3;rw[hj] at b7;refine⟨a9,_,b7,hq _ ?_⟩;have c6:∀(N l':Nat)(r':Loop),D.cV[N]?=U (l',r')->l'≠e.heap.size+1:=λN l' r' hn M=>by have:=bt N l' r' hn;omega
  refine hk M (v.rY F) (A.at y.y) u _ _ L' an hL (b5 _ (R2.mem.obj u2 rfl u3 _) (λk M rv b q h2 h3=>(R2.fz k M rv b q h2 h3).obj u2 rfl _) ag (al.put u2 c6 _)) (q8 p _ A L' _ c4)
 have b8:(Eg v k .ret F).aG p A L'->LeavesInM Fence.wide 0 p.P a0 w.tmps (VH Z t p.P (e.heap.size+1) Q {a with defers:=[kP e.heap.size]++a.defers}) w.defers .returning o:=by
  intro z;simp only[Eg] at z;split at z;exact z.elim;rename_i ag;have bg:uV (Y v.pd) (v.rY F).ak=false:=by simpa using ag
  split at z;rename_i af;exact bf .ready .normal Z af (by simp[pV]) rfl bg z (λ_ h=>h)
  ·rename_i af;exact bf (.done .ret) .ret (U .ret) af (by simp[pV]) rfl bg z (λ_ h=>sf (n:=0) (wpIn_ret h))
  ·rename_i id af;exact bf (.done (.exit id)) (.exit id) (U (.exit id)) af (by simp[pV]) rfl bg z (λ_ h=>sf (n:=0) (wpIn_exit h))
  exact z.elim
 cases M with
 |normal=>exact b8 z
 |ret=>exact b8 z
 |exit id=>exact z.elim
 |aW G=>
  simp only[Eg] at z;split at z;exact z.elim;rename_i ag;simp only[iD,not_or,aaD] at ag;show LeavesInM Fence.wide 0 p.P a0 w.tmps _ w.defers (.panicking _) o;rw[q1];refine p7 au (uE.1 q2).1 (λd hd=>(q3 d (by simp[hd])).1) ?_;have:=hk (.aW G) (v.rY F) (A.at y.y) u _ _ L' an hL (b5 _ R2.mem R2.fz ag.2 al) (q8 p _ A L' _ z);simp only[XE.to] at this;rw[C.HB b4 u G ag.1] at this;exact this
end
section
variable{d:bi}{p:Sp}{L:cX}{V:ap}{W:World}
def Up(O X:ai):Prop:=∃l,X={O with r:=O.r++l}
def Up.refl(O:ai):Up O O:=⟨[],au⟩
def Up.trans{X R:ai}(h:Up y X)(k:Up X R):Up y R:=by
 obtain⟨l,rfl⟩:=h;obtain⟨m,rfl⟩:=k;exact⟨l++m,au⟩
def Up.agree{X:ai}(h:Up y X):gW y X (Y y.i) (Y y.b) (Y y.r):=by
 obtain⟨l,rfl⟩:=h;have:∀(l:aC)(y:ai),y.ext (l.map XV.r)={y with r:=y.r++l}:=by
  intro l;induction l with
  |nil=>intro y;simp[ai.ext]
  |cons x Q R=>intro y;simp only[ep,ai.ext,R,ai.add];simp
 rw[<-this l y];exact B4 _ _
def sR(O:ai)(X:aY)(R:rK):S:=⟨[],[],Y O.i,Y O.b,X,0,0,R⟩
def Ld(X:aY):Prop:=∀(k:Nat)(e:TypeId),X[k]?≠U (RK.own e)
def aeu(p:Sp)(d:bi)(D:bI)(a:Act)(W:World)(L:cX)(V:ap)(G:bn)(N:rK)(X:ai)(v:C)(f:aY->(C->aY->T)->T):Prop:=
 ∀(Q:aY)(O:ai)(k:C->aY->T),ax p.S0 p.w0 D d.ty [] O (sR O Q N) a W->Up X O->Ld Q->v.bd (Y X.i) (Y X.b) (Y X.r) (aF G)=J->(f Q k).aG p O L->
  ∃M P R,ax p.S0 p.w0 D d.ty [] R (sR R P N) a W/\Up O R/\Ld P/\(∀H,Up R H->M.ab H []=v.ab X V)/\(k M P).aG p R L
def Px{D:bI}{a:Act}{A:bn}{M:rK}{Q:ai}{f:C->aY->(C->aY->T)->T}(z:∀v,aeu p d D a W L V A M Q v (f v)):∀(l:am)(X:aY)(O:ai)(k:am->aY->T),ax p.S0 p.w0 D d.ty [] O (sR O X M) a W->Up Q O->Ld X->C.dA (Y Q.i) (Y Q.b) (Y Q.r) (aF A) l=J->(GG f l X k).aG p O L->
  ∃y H P,ax p.S0 p.w0 D d.ty [] P (sR P H M) a W/\Up O P/\Ld H/\(∀N,Up P N->C.ay N [] y=C.ay Q V l)/\(k y H).aG p P L
 |[],X,O,k,R,G,F,_,h=>⟨[],X,O,R,Up.refl O,F,λ_ _=>rfl,h⟩
 |x::s,X,O,k,R,G,F,B,h=>by
  rw[C.gO.2,aw] at B;simp only[GG] at h;obtain⟨q,o,n,m,w,j,g,e⟩:=z x X O _ R G F B.1 h;obtain⟨c,af,O2,R2,u,n2,d2,h2⟩:=Px z s o n _ m (G.trans w) j B.2 e;exact⟨q::c,af,O2,R2,w.trans u,n2,λN t=>by simp only[C.ay,g N (u.trans t),d2 N t],h2⟩
def VW(a4:p.ty=d.ty){D:bI}{a:Act}{bx:bn}{pd:rK}{O0:ai}(ha:a.tmps= #[])(a9:∀i e G,kK bx i=U (e,G)->W.heap[ad V i]?=U (.cells (C.ay O0 V G).toArray e (0,0))/\(p.w0.heap.size<=ad V i\/ad V i∈p.S0)/\C.dA (Y O0.i) (Y O0.b) (Y O0.r) (aF bx) G=J):
  ∀(n:Nat)(v:C),aeu p d D a W L V bx pd O0 v (GH d bx n v)
 |0,v=>λx O k R w o N h=>h.elim
 |n+1,v=>by
  intro x O k R w o N h;cases v with
  |int q e=>
   refine⟨_,x,O,R,Up.refl O,o,λf M=> ?_,h⟩;rw[C.aQ.1] at N;simp only[C.ab,K.dS (w.trans M).agree e N]
  |bool e=>
   refine⟨_,x,O,R,Up.refl O,o,λf M=> ?_,h⟩;rw[C.aQ.2.1] at N;simp only[C.ab,BE.dS (w.trans M).agree e N]
  |ah r=>
   refine⟨_,x,O,R,Up.refl O,o,λf M=> ?_,h⟩;rw[C.aQ.2.2.1] at N;simp only[C.ab,RE.dS (w.trans M).agree r N]
  |agg l=>
   rw[C.aQ.2.2.2.2.2.2.1] at N;simp only[GH] at h;obtain⟨l',bf,O',R',u',n',d',h'⟩:=Px (VW a4 ha a9 n) l x O _ R w o N h;exact⟨.agg l',bf,O',R',u',n',λf M=>by simp only[C.ab,d' f M],h'⟩
  |ij i b0 af ag=>
   simp only[GH] at h;split at h;rename_i e G bg;obtain⟨g1,g2,g3⟩:=a9 i e G bg;split at h;rename_i te bk;obtain⟨al,Q,H,B,u1,n1,d1,h1⟩:=Px (VW a4 ha a9 n) G x O _ R w o g3 h;split at h1;rename_i hc;simp only[aw,di,bZ,bne_iff_ne,ne_eq] at hc;obtain⟨⟨⟨⟨c1,c2⟩,c3⟩,c4⟩,c5⟩:=hc;subst c3;have hw:bm d.ty (.sl e)=te.aj:=by simp[bm,bk]
   have ba:mD d.ty (sR H Q pd) (bm d.ty (.sl e)) (iO (Y te.aj) af al)=true:=by
    rw[hw,<-c1];exact Ci (s:=sR H Q pd) (s':=S.fY Q) rfl
   have bb:=UO B ba;obtain⟨P,A⟩:∃P,P=(iO (Y te.aj) af al).map λa1=>a1.map (C.bN H):=⟨_,rfl⟩
   rw[<-A] at bb;have hN:Y P=af:=by rw[A];simp[OL]
   have bl:C.ay H [] al=C.ay O0 V G:=d1 H (Up.refl _);have hH:bu W d.ty (.sl e) (.mk (.slice (U ⟨ad V i,0,Z⟩) (Y P) ag) P):=by
    refine UG bb ⟨_,_,_,g1⟩ (λq u hq=> ?_) (by rw[hN];exact c4);rw[A] at hq;have bc:=UP (V:=[]) (by rw[hw]) ba (λi a1 m=>by rw[<-A] at m;rw[bb.len i a1 m,hw]) hq;rw[bl] at bc;simp[mC,g1,bc]
   have br:Ek p.ty p.S0 p.w0 e (.lit (iO (Y te.aj) af al)) Q H (.mk (.slice (U ⟨ad V i,0,Z⟩) (Y P) ag) P):=by
    refine⟨⟨U ⟨ad V i,0,Z⟩,Y P,ag,by rw[A];rfl,by rw[A];rfl⟩,λb hl=> ?_,λ_ _ _ _ h=>by cases h⟩;rw[a4] at hl⊢;generalize bd:RV.mk (.slice (U ⟨ad V i,0,Z⟩) (Y P) ag) P=rv at hl;cases hl with
    |here e a0 b1 b2 bs=>
     injection bd with p1 p2;injection p1 with p3 p4 p5;cases p3;exact g2.imp id .inl
    |deep e v bs i j a1 c z k b g q2 q3 q4=>
     injection bd with p1 p2;subst p2;rw[A,dM] at g;cases m:(iO (Y te.aj) af al)[i]? with
     |none=>rw[m] at g;cases g
     |some bt=>
      rw[m] at g;simp only[dQ,cg] at g;subst g;obtain⟨r,X,F,k3,k4⟩:=UJ (Ca ba i bt m) q2 q3 q4;exact .inr (.inr (Ep B k3 F k4).1)
   have hs:=h1 _ br;refine⟨.ah (.v (Y Q)),Q++[.sl e],H.add (.r (.mk (.slice (U ⟨ad V i,0,Z⟩) (Y P) ag) P)), ?_,u1.trans ⟨[_],rfl⟩, ?_, ?_,hs⟩;have a3:Y H.r=Y Q:=B.er;refine⟨⟨B.mem.base,λi y=>by simp[sR,aF,cj] at y,λi j y=>by simp[sR,aF,cj] at y,λi t G y=>by simp[sR,cj] at y,λk e' rv X F=> ?_⟩,rfl,rfl,rfl,by simp[sR,ai.add,a3],B.cQ,by rw[ha];rfl,λt sv ht=>by simp[sR] at ht,λk e' rv b X=> ?_⟩;refine⟨?_,λb N i y=>by simp[sR,aF,cj] at y⟩;simp only[sR,ai.add] at X F;by_cases hk:k<Y Q;rw[dF hk] at X;rw[dF aa] at F;exact(B.mem.ah k e' rv X F).1;have an:k=Y Q:=by
    have:=(bJ.1 X).1;simp at this;omega
   subst an;simp at X;rw[<-a3] at F;simp at F;subst X F;exact hH;exfalso;simp only[sR] at X;by_cases hk:k<Y Q;rw[dF hk] at X;exact n1 _ _ X;have:=(bJ.1 X).1;have an:k=Y Q:=by simp at this;omega
   subst an;simp at X;intro k e' X;by_cases hk:k<Y Q;rw[dF hk] at X;exact n1 _ _ X;have:=(bJ.1 X).1;have an:k=Y Q:=by simp at this;omega
   subst an;simp at X;intro f M;obtain⟨l,rfl⟩:=M;have a3:Y H.r=Y Q:=B.er;simp only[C.ab,RE.ab,RE.rv,ai.rv,ai.add,cw,BD];rw[<-a3,gK (bU _)];simp[hN];exact h1.elim;exact h.elim;exact h.elim
  |loc _ _=>exact h.elim
  |el _ _ _ _=>exact h.elim
  |bA _=>exact h.elim
  |fn _ _=>exact h.elim
  |fT _ _=>exact h.elim
  |yl _=>exact h.elim
  |any=>exact h.elim
  |mp _=>exact h.elim
  |fy _ _ _=>exact h.elim
end
def VX(Q:Exit->Act->World->Prop)(X:Act->World->Prop):Exit->Act->World->Prop
 |.normal,a,w=>X a w
 |e,a,w=>Q e a w
section
variable{F:Fence}{n:Nat}{P:Program}{c init:db}{Q:Exit->Act->World->Prop}
def aoP{o:Oper}(H:init[N]?=U o)(G:c[N]?=U o)(D:∀j b,o.guard=U (j,b)->init[j]?=c[j]?){X W L:Act->World->Prop}(O:∀a e,W a e->L a e){a:Act}
  (h:wpOpIn F n P init (VX Q X) N W a e):wpOpIn F n P c Q N L a e:=by
 unfold wpOpIn at*;rw[H] at h;rw[G];simp only at*;have B:jH o (yielded c a.tmps)=jH o (yielded init a.tmps):=by
  unfold jH;cases A:o.guard with
  |none=>rfl
  |some z=>obtain⟨j,b⟩:=z;simp only[yielded,D j b A]
 rw[B];split;rename_i M;simp only[M,cH] at h;unfold Oper.wpIn at*;refine⟨h.1, ?_⟩;have h:=h.2;generalize(o.semAt F.round a.eval).run P e=r at*;cases r with
 |ok x y=>
  cases x<;>simp only[alM] at h⊢<;>
   first
    |exact O _ _ h
    |exact⟨h.1,CallsIn.mono h.2 (λV v R=>by cases V<;>first|exact O _ _ R|exact R)⟩
    |exact⟨h.1,h.2.mono (λ_ _ R=>O _ _ R)⟩
    |exact⟨h.1,RoundIn.mono h.2 (λV v R=>by cases V<;>first|exact O _ _ R|exact R)⟩
 |halt x y=>cases x<;>simp only[alM] at h⊢<;>exact h
 rename_i M;simp only[M] at h;exact⟨h.1,O _ _ h.2⟩
def aoQ(hi:init.size=N)(g:∀i,i<N->init[i]?=c[i]?)(t:c.size=N+1)(d:∀(i:Nat)(o:Oper),c[i]?=U o->∀e∈im o,e<i)(bk:∀(i:Nat)(o:Oper),c[i]?=U o->∀j b,o.guard=U (j,b)->j<N)
  (bl:∀j,j<N->∃(i:Nat)(o:Oper),j<i/\c[i]?=U o/\j∈im o):∀(A:Nat)(listed X:Array Bool)(a:Act)(w:World),listed.size=N->X.size=N+1->(∀i,i<N->X[i]?=listed[i]?)->X[N]?=U E->
   (∀(j:Nat)(o:Oper),c[j]?=U o->X.getD j E=J->∀e∈im o,X.getD e E=J)->
   wpAnyIn F n P .any init (VX Q (wpOpIn F n P c Q N (Q .normal))) A listed a w->wpAnyIn F n P .any c Q (A+1) X a w:=by
 have H:∀(l:Array Bool)(i:Nat)(b:Bool),l.getD i b=(l[i]?).getD b:=λl i b=>by simp[Tj]
 have a9:∀(listed X:Array Bool)(i:Nat),i<N->(∀i,i<N->X[i]?=listed[i]?)->(i∈qJ .any c X<->i∈qJ .any init listed):=by
  intro listed X i L R;rw[mem_ready,mem_ready,g i L,H X,H listed,R i L];refine and_congr_right λ_=> ?_
  constructor;rintro⟨o,V,h⟩;refine⟨o,V,λe M G=> ?_⟩;have:=h e M G;have af:e.on<N:=by have:=d i o V e.on (KZ M G);omega
  rw[H,R _ af] at this;rw[H];exact this;rintro⟨o,V,h⟩;refine⟨o,V,λe M G=> ?_⟩;have:=h e M G;have af:e.on<N:=by have:=d i o V e.on (KZ M G);omega
  rw[H] at this;rw[H,R _ af];exact this
 have ba:∀(X:Array Bool),X.size=N+1->X[N]?=U E->∃i,i∈qJ .any c X:=by
  intro X z v;have ag:∀i,i<N+1->X[i]?=U E->∃j,j∈qJ .any c X:=by
   intro i;induction i using JH with
   |_ i u=>
    intro b1 hf;have V:c[i]?=U (c[i]' aa):=F6 aa;by_cases B:∀e∈im (c[i]' aa),X.getD e E=J;exact⟨i,mem_ready.2 ⟨by rw[H,hf];rfl,_,V,λe M G=>B _ (KZ M G)⟩⟩;obtain⟨e,M,bb⟩:=Classical.not_forall.1 B|>.imp λe h=>Classical.not_imp.1 h
    have br:=d i _ V e M;refine u e br aa ?_;rw[F6 aa];rw[H,F6 aa] at bb;simpa using bb
  exact ag N aa v
 have al:∀(X:Array Bool),(∀(j:Nat)(o:Oper),c[j]?=U o->X.getD j E=J->∀e∈im o,X.getD e E=J)->N∈qJ .any c X->∀j,j<N->X.getD j E=true:=by
  intro X x R;obtain⟨-,o,V,B⟩:=mem_ready.1 R;have ag:∀k j,j<N->N<=j+k->X.getD j E=true:=by
   intro k;induction k with
   |zero=>intro j W O;omega
   |succ k u=>
    intro j W O;obtain⟨i,oi,bc,s,bd⟩:=bl j W;have an:i<N+1:=by rw[<-t];exact(jg.1 s).1
    by_cases L:i=N;subst L;rw[V] at s;cases s;obtain⟨e,M,G,rfl⟩:=Pl bd;exact B e M G;exact x i oi s (u i aa aa) j bd
  intro j hj;exact ag N j hj aa
 have bf:∀(X:Array Bool),X.size=N+1->(∀j,j<N->X.getD j E=J)->∀(A:Nat)(a:Act)(w:World),Q .normal a w->wpAnyIn F n P .any c Q A (X.setIfInBounds N J) a w:=by
  intro X z B A a w y;have q:qJ .any c (X.setIfInBounds N J)=[]:=by
   cases R:qJ .any c (X.setIfInBounds N J) with
   |nil=>rfl
   |cons i r=>
    exfalso;obtain⟨W,o,V,-⟩:=mem_ready.1 (show i∈qJ .any c (X.setIfInBounds N J) by rw[R];simp);have an:i<N+1:=by rw[<-t];exact(jg.1 V).1
    rw[AJ _ _ _ _ aa] at W;split at W;cases W;have O:=B i aa;rw[H] at W O;rw[F6 aa] at W O;simp at W O;rw[W] at O;cases O
  cases A with
  |zero=>exact⟨q,y⟩
  |succ f=>exact⟨λ_=>y,λi D=>by rw[q] at D;cases D⟩
 have bs:∀(listed X:Array Bool),(∀i,i<N->X[i]?=listed[i]?)->listed.size=N->(∀j,j<N->X.getD j E=J)->qJ .any init listed=[]:=by
  intro listed X R m B;cases y:qJ .any init listed with
  |nil=>rfl
  |cons i r=>
   exfalso;obtain⟨W,o,V,-⟩:=mem_ready.1 (show i∈qJ .any init listed by rw[y];simp);have L:i<N:=by rw[<-hi];exact(jg.1 V).1
   have O:=B i L;rw[H,R i L] at O;rw[H] at W;rw[F6 aa] at W O;simp at W O;rw[W] at O;cases O
 intro A;induction A with
 |zero=>
  intro listed X a w m z R v x h;obtain⟨q,y⟩:=h;refine⟨λh0=> ?_,λi D=> ?_⟩;obtain⟨i,W⟩:=ba X z v;rw[h0] at W;cases W;have an:i<N+1:=by obtain⟨-,o,V,-⟩:=mem_ready.1 D;rw[<-t];exact(jg.1 V).1
  by_cases L:i=N;subst L;exact wpOpIn_mono (λa w a0=>bf X z (al X x D) _ a w a0) y;have:=(a9 listed X i aa R).1 D;rw[q] at this;cases this
 |succ A u=>
  intro listed X a w m z R v x h;obtain⟨h0,W⟩:=h;refine⟨λbt=> ?_,λi D=> ?_⟩;obtain⟨i,W⟩:=ba X z v;rw[bt] at W;cases W;obtain⟨-,o,V,B⟩:=mem_ready.1 D;have an:i<N+1:=by rw[<-t];exact(jg.1 V).1
  by_cases L:i=N;subst L;have y:=h0 (bs listed X R m (al X x D));exact wpOpIn_mono (λa w a0=>bf X z (al X x D) _ a w a0) y;have bg:i<N:=aa;have O:=W i ((a9 listed X i bg R).1 D);refine aoP (by rw[g i bg];exact V) V (λj b bx=>g j (bk i o V j b bx)) (λa w hk=> ?_) O;refine u (listed.setIfInBounds i J) (X.setIfInBounds i J) a w (by simpa using m) (by simpa using z) (λj hj=> ?_) ?_ (λj oj a1 a3 e M=> ?_) hk;rw[JA,JA,R j hj];by_cases a4:i=j;subst a4;rw[aE rfl,aE rfl,aE aa,aE aa];rw[aJ a4,aJ a4];rw[JA,aJ L];exact v;rw[AJ _ _ _ _ aa] at a3⊢;split;rfl;split at a3;rename_i bc;subst bc;rw[V] at a1;cases a1;obtain⟨ed,b0,G,rfl⟩:=Pl M;exact B ed b0 G;exact x j oj a1 a3 e M
end
def aoR{b:Bool}{c:db}{o:Oper}(h:J6 b c=U o):∃N,c.size=N+1/\c[N]?=U o/\(∀(i:Nat)(o:Oper),c[i]?=U o->∀e∈im o,e<i)/\
  (∀(i:Nat)(o:Oper),c[i]?=U o->∀j b,o.guard=U (j,b)->j<N)/\(∀j,j<N->∃(i:Nat)(o:Oper),j<i/\c[i]?=U o/\j∈im o):=by
 unfold J6 at h;split at h;rename_i V;simp only[aw,aa0,bZ,eO,vZ,jy] at V;obtain⟨-,⟨D,R⟩,O⟩:=V;refine⟨c.size-1,aa,h,λi o X e M=> ?_,λi o X j b L=> ?_,λj H=> ?_⟩;have:=R i (jg.1 X).1;rw[X] at this;simp only[aw,eO,bZ] at this;exact this.1 e M;have:=R i (jg.1 X).1;rw[X] at this;simp only[aw,L,bZ] at this;omega;obtain⟨i,B,G,W⟩:=O j H;cases X:c[i]? with
 |none=>rw[X] at W;cases W
 |some o=>
  rw[X] at W;exact⟨i,o,G,X,by simpa using W⟩
 cases h
section
variable{p:Sp}{d:bi}
def aoS{F:Fence}(hF:nY F)(l:iB p d){pc:rV}(a4:Hv p d pc){D:bI}{B:iG}{yh:YH}(hY:nZ p d D.cV B yh){Q:Exit->Act->World->Prop}(HP:∀ch w z pd X,dR p.w0 D pd X w.defers z->p.R (.panicked ch) z->Q (.panic ch) w z)
  {hc:nO}(hH:KN p d D B hc){c:db}{id:Nat}{b:Bool}{o:Oper}{om:ck}{a:Act}{L:cX}{k:XE->S->T}(hB:B.j5 v y x L)(a9:J6 b c=U o)
  (ba:Al c.pop (Y v.ak)=U om)(bb:yq d c.pop.toList=J)(bc:yK c.pop pc)
  (h:(jX d (qT d pc yh) c.pop (λA=>jX d hc c (k .normal) (λM=>k (.aW M)) (fh (λ_=>E) J E (c.size-1) (Y A.ak) [o]) A []) (λM=>k (.aW M)) om (v.rW c.pop om) []).aG p y L)(R:ax p.S0 p.w0 D d.ty x y v a e)(hg:et d.gl y)
  (hk:∀A u t w z r,bj v y x A u t->cz v.av L r->ax p.S0 p.w0 D d.ty t u A w z->(k .normal A).aG p u r->Q .normal w z)
  (a0:∀M A u t w z r,bj v y x A u t->cz v.av L r->ax p.S0 p.w0 D d.ty t u A w z->(k (.aW M) A).aG p u r->Q (.panic [{v:=M.ab u t,recovered:=E}]) w z):
  (Code.region id c J).wpIn F N p.P Q a e:=by
 obtain⟨H,af,bd,bf,bg,bk⟩:=aoR a9;have hN:c.size-1=H:=aa;have a1:c.pop.size=H:=by simp[af]
 refine wpIn_region_any l.Pb ?_;rw[af];refine aoQ (init:=c.pop) a1 (λi g=>by rw[Array.getElem?_pop,aE aa]) af bf bg bk H (JI H E) (JI (H+1) E) a _ au au (λi g=>by simp[g,Nat.lt_succ_of_lt g]) au (λj oj _ hj=>by
  exfalso;rw[Tj,aw4] at hj;split at hj<;>simp at hj) ?_
 have a3:=ad7 (n:=N) (Q:=VX Q (wpOpIn F N p.P c Q H (Q .normal))) (k:=J7 (λA=>jX d hc c (k .normal) (λM=>k (.aW M)) (fh (λ_=>E) J E (c.size-1) (Y A.ak) [o]) A []) k) hF l a4 hY (λch w z pd X h1 h2=>HP ch w z pd X h1 h2) hB ba bb bc h R hg
  (λA u t w z r q f R' hs=>by
   show wpOpIn F N p.P c Q H (Q .normal) w z;have k1:=wE (ops:=c) l.pt l.uQ hF l.jB hH HP (n:=N) (k:=k .normal) (kp:=λM=>k (.aW M)) (fh (λ_=>E) J E (c.size-1) (Y A.ak) [o]) H A [] r u t w z
    (λi m' g=>by
     have hm:=EF _ _ _ _ _ _ _ _ g;cases i with
     |zero=>simp at hm;rw[uH,bd,hm]
     |succ i=>simp at hm) (hB.go q f) hs (λG hx=>by cases hx) R' (hg.ext q.ext)
    (λs2 O2 V2 a2 W2 L2 ag al R2 an=>hk s2 O2 V2 a2 W2 L2 (q.trans ag) (cz.trans (m:=A.av) f al q.av) R2 an)
    (λM s2 O2 V2 a2 W2 L2 ag al R2 an=>a0 M s2 O2 V2 a2 W2 L2 (q.trans ag) (cz.trans (m:=A.av) f al q.av) R2 an)
   rw[K7] at k1;simp only[NE,List.range'_one,wpOpsIn_cons] at k1;exact k1)
  (λM A u t w z r q f R' hs=>a0 M A u t w z r q f R' hs)
 rw[a1] at a3;exact a3
end
section
variable{cf:bi}
section
variable{q:ap}{r:World}{D:bI}{V:ap}{O:ai}{s:S}{a:Act}{W:World}
def VY{k:Int}:∀{R:aZ}{Q:am}{v:C},Eh k R Q=U v->v.gc O V=.mk (jK k R (C.ay O V Q)) []
 |[],_,v,h=>by simp[Eh] at h
 |F::R,[],v,h=>by simp[Eh] at h
 |F::R,u::Q,v,h=>by
  unfold Eh at h;split at h;rename_i P N;injection P with M L;injection N with H G;subst M L H G;simp only[C.ay,jK];split at h;rename_i X;cases h;rw[aE X,C.ab,aE (Oq _ _)];rfl;rename_i X;rw[aJ X];exact VY h;rename_i P N;injection P with M L;injection N with H G;subst M L H G;simp only[C.ay,jK];split at h;rename_i X;cases h;rw[aE X];rfl;rename_i X;rw[aJ X];exact VY h;cases h
def aev{x:Int}:∀{X:aZ}{R:eX},¬x∈X->jK x X R=.nilFunc
 |[],_,_=>rfl
 |k::X,[],_=>rfl
 |k::X,v::R,h=>by
  simp only[dJ,not_or] at h;simp only[jK,aJ h.1];exact aev h.2
def VZ{e:K}{k:Int}(X:e.ab O=k):∀(n:Nat)(b:BE),(Kd e k n b).ab O=b.ab O
 |0,b=>rfl
 |n+1,b=>by
  unfold Kd;split;rfl;rename_i P N M x y R;cases R;split;rename_i Q;have:=K.bD _ _ Q;subst this;simp only[BE.ab,K.ab,gm,X,di];split;exact VZ X n x;exact VZ X n y;rfl;rfl
def V4{e:K}{k:Int}(X:e.ab O=k):∀(n:Nat)(b:K),(Ke e k n b).ab O=b.ab O
 |0,b=>rfl
 |n+1,b=>by
  unfold Ke;split;rfl;rename_i P N M x y R;cases R;split;rename_i Q;have:=K.bD _ _ Q;subst this;simp only[BE.ab,K.ab,gm,X,di];split;exact V4 X n x;exact V4 X n y;rfl;rfl
def aoT{e:K}{k:Int}(X:e.ab O=k)(v:C):(T7 e k v).gc O V=v.gc O V:=by
 cases v<;>simp only[T7];simp only[C.gc,C.ab,V4 X];simp only[C.gc,C.ab,VZ X];rename_i P N M;split;rename_i R;have:=K.bD _ _ R;subst this;split;rename_i v Q;rw[VY Q];simp only[C.gc,C.ab,X];rfl;rfl
def aoU{e:K}{R:aZ}(Q:¬e.ab O∈R)(v:C):(Om e R v).gc O V=v.gc O V:=by
 cases v<;>simp only[Om];rename_i L P H;split;rename_i X;rw[aw] at X;have:=K.bD _ _ X.1;subst this;have N:¬e.ab O∈P:=λM=>Q (by
  have:=eO.1 X.2 _ M;exact ov.1 this)
 simp only[C.gc,C.ab,aev N];rfl;rfl
def aoV{e:K}{v:Int}(h:e.ab O=v):∀y:C,(T8 e v y).gc O V=y.gc O V:=λy=>by
 unfold T8;split;rename_i k x;split;rename_i X;have X:=K.bD _ _ X;subst X;simp only[C.gc,C.ab,K.ab,h];rfl;rfl
def V5{f:C->C}{l:bn}{i:Nat}{t:TypeId}{R:am}:bM (Ei f l) i=U (t,R)<->∃jM,bM l i=U (t,jM)/\R=jM.map f:=by
 rw[jl];simp only[Ei,dM];constructor;intro h;cases X:l[i]? with
 |none=>rw[X] at h;cases h
 |some x=>
  rw[X] at h;cases x with
  |none=>cases h
  |some y=>
   simp only[dQ,cg,BH] at h;obtain⟨rfl,rfl⟩:=h;exact⟨y.2,jl.2 X,rfl⟩
 rintro⟨jM,h,rfl⟩;rw[jl] at h;rw[h];rfl
def aew{f:C->C}{l:bn}:aF (Ei f l) N=aF l N:=by
 rw[uF];simp only[aF,jw];constructor;rintro⟨⟨t,X⟩,h⟩;obtain⟨jM,h,-⟩:=V5.1 h;exact⟨_,h⟩;rintro⟨⟨t,X⟩,h⟩;exact⟨_,V5.2 ⟨X,h,rfl⟩⟩
def ax.fix(R:ax q r D cf.ty V O s a W){f:C->C}(H:∀v,(f v).gc O V=v.gc O V):ax q r D cf.ty V O (s.fix f) a W:=by
 have Q:∀j,aF (s.fix f).ak j=aF s.ak j:=λj=>aew
 refine⟨⟨R.mem.base,λj X=>R.mem.own j (by rw[<-Q];exact X),λj k X G=>R.mem.inj j k (by rw[<-Q];exact X) (by rw[<-Q];exact G),λj t w L=> ?_,λk e P N M=>⟨(R.mem.ah k e P N M).1,λb L j X=>(R.mem.ah k e P N M).2 b L j (by rw[<-Q];exact X)⟩⟩,by rw[R.fM];simp[S.fix,Ei],R.ei,R.eb,R.er,R.cQ,R.size,R.tmps,λk e P b F B A=> ?_⟩;obtain⟨jM,h,rfl⟩:=V5.1 L;have:C.dw O V (jM.map f)=C.dw O V jM:=by
  simp only[C.dw,mT];exact jh λv _=>H v
 rw[this];exact R.mem.box j t jM h;obtain⟨N,M,z,y,x⟩:=R.fz k e P b F B A;exact⟨N,M,λj X=>z j (by rw[<-Q];exact X),y,x⟩
def V6(f:C->C):bj s O V (s.fix f) O V:=⟨mI.refl _ _ _,λi h=>by rw[show aF (s.fix f).ak i=aF s.ak i from aew];exact h,by simp[S.fix,Ei],bU _⟩
def ax.aoW(R:ax q r D cf.ty V O s a W){k:IntKind}{e:K}{v:Int}(Q:s.tmps.getD N .any=.int k e)(M:e.ab O=v):ax q r D cf.ty V O {s with tmps:=s.tmps.set N (.int k (.c v))} a W:=by
 refine⟨R.mem,R.fM,R.ei,R.eb,R.er,R.cQ,by simpa using R.size,λi L h=> ?_,R.fz⟩;simp only[td] at h;split at h;rename_i H;subst H;split at h;rename_i P;cases h;have G:s.tmps[N]?=U (.int k e):=by
  rw[cw,ce P] at Q;rw[ce P];simpa using Q
 rcases R.tmps N _ G with X|X;cases X;right;rw[X];simp only[C.ab,K.ab,M];cases h;exact R.tmps i L h
def Py{p:Sp}{L:cX}{e:K}{fU:Int->S}{ac:T}{g:S->T}:∀{X:aZ},(GF e fU ac g X).aG p O L->(∃k∈X,e.ab O=k/\(g (fU k)).aG p O L)\/(¬e.ab O∈X/\ac.aG p O L)
 |[],h=>.inr ⟨au,h⟩
 |k::X,h=>by
  simp only[GF,T.aG] at h;by_cases R:e.ab O=k;exact .inl ⟨k,au,R,h.1 (by simp[BE.ab,K.ab,gm,R])⟩;rcases Py (h.2 (by simp[BE.ab,K.ab,gm,R])) with⟨N,Q,P⟩|⟨Q,P⟩;exact .inl ⟨N,by simp[Q],P⟩;exact .inr ⟨by simp[R,Q],P⟩
def aoX{p:Sp}{L:cX}(R:ax q r D cf.ty V O s a W){id:Nat}{e:K}{G:aZ}{fU:Int->S}{ac:Option S}(X:On cf N id s=U (e,G,fU,ac)){g:S->T}(h:(GF e fU (T9 g ac) g G).aG p O L):
  ∃H,bj s O V H O V/\H.av=s.av/\ax q r D cf.ty V O H a W/\(g H).aG p O L:=by
 unfold On at X;split at X;split at X;cases X;rcases Py h with⟨k,P,Q,M⟩|⟨P,Q⟩;exact⟨_,V6 _,rfl,R.fix (aoT Q),M⟩;split at Q;exact⟨_,V6 _,rfl,R.fix (aoU P),Q⟩;exact Q.elim;cases X;split at X;cases X;rename_i k B A F;cases X;rw[uM] at F;rcases Py h with⟨k,P,Q,M⟩|⟨P,Q⟩;refine⟨_, ?_, ?_,R.aoW F Q,M⟩;exact⟨mI.refl _ _ _,λ_ h=>h,bU _,bU _⟩;rfl;exact Q.elim;cases X;split at X;split at X;cases X;cases X;rcases Py h with⟨k,P,Q,M⟩|⟨P,Q⟩;exact⟨_,V6 _,rfl,R.fix (aoV Q),M⟩;exact Q.elim;cases X;cases X;cases X
end
def Pz:∀(n:Nat)(p:Sp)(_:iB p cf),wK p cf n/\Po p cf n
 |0,p,ok=>⟨λD B yh ro al c s k L O V a W Q _ _ _ _ _ h=>h.elim,λD B yh ro al c s k L O V a W Q _ _ _ _ _ _ h=>h.elim⟩
 |n+1,p,ok=>by
  have cl:=(Pz n p ok).2;have ih:=(Pz n p ok).1;have b3:∀p':Sp,p'.P=p.P->iB p' cf->wK p' cf n:=λp' _ cn=>(Pz n p' cn).1
  have b4:=aol ih cl;refine⟨?_,b4⟩;intro D B yh ro al c s k L O V a W Q hY hB a0 a9 a3 h R hg HP hk;have ba:∀e F,cz s.av L F->(k e s).aG p O F->Q (e.to O V) a W:=λe F w A=>hk e s O V a W F (bj.refl _ _ _) w R A
  have h0:=h;unfold eY at h;split at h;exact sf (n:=0) (wpIn_skip (ba .normal L (cz.refl _ _) h));exact sf (n:=0) (wpIn_label (ba .normal L (cz.refl _ _) h));exact sf (n:=0) (wpIn_ret (ba .ret L (cz.refl _ _) h));rename_i id;exact sf (n:=0) (wpIn_exit (ba (.exit id) L (cz.refl _ _) h))
  
  rename_i x y;have bb:ro.isSome=J->jk x=false:=λhr=>by have:=a9 hr;simp only[jk,tc] at this;exact this.1
  have bc:ro.isSome=J->jk y=false:=λhr=>by have:=a9 hr;simp only[jk,tc] at this;exact this.2
  refine ED (ih D B yh ro al x s _ L O V a W _ hY hB a0 bb a3 h R hg (λch H G pd y hd hR=>HP ch H G pd y hd hR) ?_);intro e u O' V' H G F M w d A;cases e with
  |normal=>exact ih D B yh ro al y u k F O' V' H G Q hY (hB.go M w) a0 bc a3 A d (hg.ext M.ext) HP (λe2 s2 O2 V2 a2 W2 L2 ag a4 R2 af=>hk e2 s2 O2 V2 a2 W2 L2 (M.trans ag) (w.trans a4 M.av) R2 af)
  |ret=>exact hk .ret u O' V' H G F M w d A
  |exit id=>exact hk (.exit id) u O' V' H G F M w d A
  |aW v=>exact hk (.aW v) u O' V' H G F M w d A
  
  rename_i id x;refine an7 (ih D B yh ro al x s _ L O V a W _ hY hB a0 (λhr=>by have:=a9 hr;simpa only[jk] using this) a3 h R hg (λch H G pd y hd hR=>HP ch H G pd y hd hR) ?_);intro e u O' V' H G F M w d A;cases e with
  |normal=>exact hk .normal u O' V' H G F M w d A
  |ret=>exact hk .ret u O' V' H G F M w d A
  |exit j=>
   simp only[TW] at A;split at A;rename_i hj;have bf:j=id:=by simpa using hj
   subst bf;simp only[XE.to,Exit.inBlock,cH];exact hk .normal u O' V' H G F M w d A;rename_i hj;have bf:¬j=id:=by simpa using hj
   simp only[XE.to,Exit.inBlock,bf,fH];exact hk (.exit j) u O' V' H G F M w d A
  |aW v=>exact hk (.aW v) u O' V' H G F M w d A
  
  rename_i x;refine an8 (ih D B yh ro al x s _ L O V a W _ hY hB a0 (λhr=>by have:=a9 hr;simpa only[jk] using this) a3 h R hg (λch H G pd y hd hR=>⟨λl h=>by(cases h),HP ch H G pd y hd hR⟩) ?_);intro e u O' V' H G F M w d A;exact⟨λl h=>(by cases e<;>cases h),hk e u O' V' H G F M w d A⟩
  
  rename_i x y z;have bc:ro.isSome=J->jk y=false:=λhr=>by have:=a9 hr;simp only[jk,tc] at this;exact this.1
  have b5:ro.isSome=J->jk z=false:=λhr=>by have:=a9 hr;simp only[jk,tc] at this;exact this.2
  split at h;rename_i hc;have he:=cK R hg x (by rw[hc];rfl);rw[hc] at he;exact Hy (t:=J) (by simpa[C.ab,BE.ab] using he) (ih D B yh ro al y s k L O V a W Q hY hB a0 bc a3 h R hg HP hk);rename_i hc;have he:=cK R hg x (by rw[hc];rfl);rw[hc] at he;exact Hy (t:=E) (by simpa[C.ab,BE.ab] using he) (ih D B yh ro al z s k L O V a W Q hY hB a0 b5 a3 h R hg HP hk);rename_i b d0 d1 hc;have he:=cK R hg x (by rw[hc];rfl);rw[hc] at he;split at h;rename_i t;simp only[S.ev,uM] at hc;simp only[T.aG] at h;have b6:∀v,B.j5 {s with tmps:=s.tmps.set t v} O V L:=λv=>⟨⟨hB.later.ext,hB.later.mono,hB.later.len,hB.later.av⟩,hB.Ey⟩
  cases hv:b.ab O;refine Hy (t:=E) (by simpa[C.ab,hv] using he) (ih D B yh ro al z _ k L O V a W Q hY (b6 _) a0 b5 a3 (h.2 hv) (R.adg hc hv) hg HP ?_);exact λe2 s2 O2 V2 a2 W2 L2 ag a4 R2 af=>hk e2 s2 O2 V2 a2 W2 L2 ⟨ag.ext,ag.mono,ag.len,ag.av⟩ a4 R2 af
  refine Hy (t:=J) (by simpa[C.ab,hv] using he) (ih D B yh ro al y _ k L O V a W Q hY (b6 _) a0 bc a3 (h.1 hv) (R.adg hc hv) hg HP ?_);exact λe2 s2 O2 V2 a2 W2 L2 ag a4 R2 af=>hk e2 s2 O2 V2 a2 W2 L2 ⟨ag.ext,ag.mono,ag.len,ag.av⟩ a4 R2 af
  exact h.elim;exact h.elim
  
  rename_i id bg co;split at h;rename_i e ks fU ac hf;obtain⟨u,M,bk,d,h'⟩:=aoX R hf h;exact ih D B yh ro al _ u k L O V a W Q hY (hB.go M (cz.refl _ _)) a0 a9 a3 h' d hg HP (λe2 s2 O2 V2 a2 W2 L2 ag a4 R2 af=>hk e2 s2 O2 V2 a2 W2 L2 (M.trans ag) (bk▸a4) R2 af);refine sf (n:=0) ?_;split at h;rename_i hd;subst hd;split at h;rename_i o cp;split at h;rename_i om bl;split at h;exact h.elim;rename_i br;exact aoS (u9 ro) ok (aea b3 ok) hY HP (EG ok ih hY) hB cp bl (by simpa using br) (ad9 _ _ _) h R hg (λu O' V' H G F M w d A=>hk .normal u O' V' H G F M w d A) (λv u O' V' H G F M w d A=>hk (.aW v) u O' V' H G F M w d A);exact h.elim;split at h;rename_i c bs;exact aet (u9 ro) ok ih hY HP hB bs h R hg (λu O' V' H G F M w d A=>hk .normal u O' V' H G F M w d A) (λv u O' V' H G F M w d A=>hk (.aW v) u O' V' H G F M w d A);split at h;rename_i om bl;split at h;exact h.elim;rename_i br;exact aok (u9 ro) ok (aea b3 ok) hY HP hB bl (by simpa using br) (ad9 _ _ _) h R hg (λu O' V' H G F M w d A=>hk .normal u O' V' H G F M w d A) (λv u O' V' H G F M w d A=>hk (.aW v) u O' V' H G F M w d A);split at h;rename_i c bs;exact aet (u9 ro) ok ih hY HP hB bs h R hg (λu O' V' H G F M w d A=>hk .normal u O' V' H G F M w d A) (λv u O' V' H G F M w d A=>hk (.aW v) u O' V' H G F M w d A);exact h.elim;rename_i hd;have cs:co=false:=by simpa using hd
  subst cs;obtain⟨Rr,bt⟩:=R.room (kL bg.toList);refine wpIn_region ?_;have:=wE (ops:=bg) ok.pt ok.uQ (u9 ro) ok.jB (aom _ ok (EG ok ih hY)) HP (n:=0) (fh (λ_=>E) J E 0 (Y s.ak) bg.toList) 0 _ [] L O _ a W (λi m' hi=>by have:=EF _ _ _ _ _ _ _ _ hi;simpa using this) (hB.go bt (cz.refl _ _)) h (λx hx=>by cases hx) Rr hg
   (λu O' V' H G F M w d A=>hk .normal u O' V' H G F (bt.trans M) w d A)
   (λv u O' V' H G F M w d A=>hk (.aW v) u O' V' H G F (bt.trans M) w d A)
  rw[K7] at this;simpa[NF] using this
  
  rename_i x;have bb:ro.isSome=J->jk x=false:=λhr=>by have:=a9 hr;simpa only[jk] using this
  split at h;rename_i bx d2;split at h;have M:bj s O V (s.cM bx) O V:=⟨(bj.refl s O V).ext,λi hi=>hi,bU _,bU _⟩;exact ih D B yh ro al _ (s.cM bx) k L O V a W Q hY (hB.go M (cz.refl _ _)) a0 a9 a3 h (R.lx (Ks _ _)) hg HP (λe2 s2 O2 V2 a2 W2 L2 ag a4 R2 af=>hk e2 s2 O2 V2 a2 W2 L2 (M.trans ag) a4 R2 af);obtain⟨an,ct⟩:∃an,an=bx.at s:=⟨_,rfl⟩;rw[<-ct] at h;split at h;exact h.elim;rename_i hc;simp only[iD,f9,not_or,BC] at hc;obtain⟨⟨⟨⟨⟨cv,cx⟩,cy⟩,cA⟩,cB⟩,cC⟩:=hc;simp only[T.aG] at h;obtain⟨X,μ,cD,cI⟩:=h;refine an9 (λN a1 W1=>∃s1 O1 V1,bj s O V s1 O1 V1/\ax p.S0 p.w0 D cf.ty V1 O1 s1 a1 W1/\wj an (Code.nu x) 0 s.tmps s1.tmps=J/\qQ an 0 s.ak s1.ak=J/\qR s1 an.ks (jI an s1)=J/\wi (iA an s) s1.rs=J/\D5 (iA an s) (D4 an s1)=J/\s1.pd=s.pd/\X ((jI an s1).map (C.xv O1))/\μ ((jI an s1).map (C.xv O1))=N)
   (μ ((jI an s).map (C.xv O))) ⟨s,O,V,bj.refl _ _ _,R,cy,cA,cx,cB,cC,rfl,cD,rfl⟩ ?_
  rintro N a1 W1 ⟨s1,O1,V1,b7,R1,hT,cO,b8,cR,cW,c0,hI,rfl⟩;have RH:=ax.head (ty:=cf.ty) cv R.ei R.eb R.er b7 R1 hT cO b8 cR cW c0;have c7:=cI _ (Vk (O1:=O1) b8) hI;have bk:(pl an (Code.nu x) s).av=s.av+1:=(u5 an.ks {s with av:=s.av+1,rs:=iA an s}).2.2.1;have b0:bj s O V (pl an (Code.nu x) s) (O.ext ((jI an s1).map (C.xv O1))) (V1.take (Y s.ak)):=by
   obtain⟨e1,e2,e3,e4⟩:=u5 an.ks {s with av:=s.av+1,rs:=iA an s};have hE:=Ay s.ak O ((jI an s1).map (C.xv O1)) V;refine⟨⟨hE.agree,hE.li,hE.lb,hE.lr,λk ca=> ?_⟩,λi hi=> ?_,by simp[pl,O8], ?_⟩;have b1:k<Y s.ak:=by
    obtain⟨b,hb⟩:=jw.1 ca;exact(bJ.1 (jl.1 hb)).1
   rw[AC b1];exact b7.ext.ad k ca;unfold aF at hi⊢;simp only[pl];rw[KQ];simpa using hi;simp only[pl];rw[e3];exact Nat.le_succ _
  have c8:∀m,cz s.av L (⟨s.av,X,μ,m⟩::L):=λm l b1=>by
   simp only[mY];rw[aJ aa]
  refine ih D B yh ro al x _ _ _ _ _ a1 W1 _ hY (hB.go b0 (c8 _)) a0 bb a3 c7 RH (hg.ext b0.ext) (λch H G pd y hd hR=>HP ch H G pd y hd hR) ?_;intro e s2 O2 V2 a2 W2 L2 ag a4 R2 af;have bd:=b0.trans ag;rw[bk] at a4;have b2:cz s.av L L2:=λl b1=>by
   rw[a4 l aa];simp only[mY];rw[aJ aa]
  cases e with
  |normal=>
   simp only[Oi] at af;split at af;rename_i cc;simp only[aw,bZ] at cc;obtain⟨⟨⟨⟨⟨c1,c2⟩,c3⟩,c4⟩,c5⟩,c6⟩:=cc;have c9:mY s.av L2=U ⟨s.av,X,μ,μ ((jI an s1).map (C.xv O1))⟩:=by
    rw[a4 s.av aa];simp[mY]
   simp only[T.aG,c9] at af;exact⟨_,af.2,s2,O2,V2,bd,R2,c1,c2,c3,c4,c5,c6,af.1,rfl⟩;exact af.elim
  |ret=>exact hk .ret s2 O2 V2 a2 W2 L2 bd b2 R2 af
  |exit id=>exact hk (.exit id) s2 O2 V2 a2 W2 L2 bd b2 R2 af
  |aW v=>exact hk (.aW v) s2 O2 V2 a2 W2 L2 bd b2 R2 af
  rename_i dc;exact adR (n+1) (b4 D B yh ro al x s k L O V a W Q hY hB a0 bb a3 (λan=>dc an) h0 R hg HP hk)
  
  rename_i f ps assign body;have dd:ro=none:=by
   cases ro with
   |none=>rfl
   |some l=>have:=a9 rfl;simp[jk] at this
  subst dd;split at h;rename_i g d3 df;split at h;rename_i c nt dk;split at h;exact h.elim;rename_i hc;simp only[iD,f9,not_or,BC,aaD] at hc;obtain⟨⟨⟨⟨⟨dn,dr⟩,ds⟩,dx⟩,dy⟩,dz⟩:=hc;obtain⟨d4,dT⟩:=a3;exact aoO ok ih dT a0 df dk dn dr ds dx dy dz h hY hB R hg HP hk;exact h.elim;exact h.elim;exact h.elim
variable{p:Sp}
def aoY{Q:ai}{P:ap}:∀{l N:am},C.ay y x l=C.ay Q P N->(one l).ab y x=(one N).ab Q P
 |[],[],_=>rfl
 |[X],[R],h=>by
  have h:C.ab y x X=C.ab Q P R:=by simpa[C.ay] using h
  exact h
 |[],_::_,h=>by simp[C.ay] at h
 |_::_,[],h=>by simp[C.ay] at h
 |[_],_::_::_,h=>by simp[C.ay] at h
 |_::_::_,[_],h=>by simp[C.ay] at h
 |a::b::c,M::L::H,h=>by
  show Value.tuple (C.ay y x (a::b::c)).toArray=Value.tuple (C.ay Q P (M::L::H)).toArray;rw[h]
def aex(X:aY):Ld (X.map RK.rd):=by
 intro k e h;rw[dM] at h;cases R:X[k]? with
 |none=>rw[R] at h;cases h
 |some x=>rw[R] at h;cases x<;>simp[RK.rd] at h
def aoZ{D:bI}{a:Act}{L:cX}(M:p.ty=cf.ty)(R:ax p.S0 p.w0 D cf.ty x y v a e)(P:(Kg cf N l v).aG p y L):p.R (.returned ((one l).ab y x)) e:=by
 unfold Kg at P;split at P;rename_i A;simp only[aw] at A;obtain⟨⟨⟨al,an⟩,o⟩,n⟩:=A;have H:∀i,aF ([]:bn) i=J->False:=λi Q=>by simp[aF,cj] at Q
 have m:=R.mem.lx (La v.rs);have h:ax p.S0 p.w0 D cf.ty [] y (sR y (v.rs.map RK.rd) v.pd) ⟨#[],a.defers⟩ e:=
  ⟨⟨R.mem.base,λi Q=>(H i Q).elim,λi j Q=>(H i Q).elim,λi t z Q=>by simp[sR,cj] at Q,λk X w G g=>⟨(m.ah k X w G g).1,λb _ i Q=>(H i Q).elim⟩⟩,rfl,rfl,rfl,by simp[sR,R.er],R.cQ,rfl,λt sv f=>by simp[sR] at f,λk X w b G=>bp G (aex _ k X)⟩
 have c:=R.wv o;obtain⟨l',a0,F,R3,u,_,d,h3⟩:=Px (a:=⟨#[],a.defers⟩) (VW (bx:=v.ak) (O0:=y) (V:=x) M rfl (λi X z af=>by
  obtain⟨B,ag⟩:=wu af;have:=R.mem.box i X z B;rw[pu ag] at this;exact⟨this,R.mem.own i (by simp[aF,B]),qX c.2 B⟩) 9) l (v.rs.map RK.rd) y _ h (Up.refl _) (aex _) (by rw[R.ei,R.eb,R.er];exact n) P
 have h4:=h3 F.y [] e (by rw[M];exact R3.mem);have h5:(one l').ab F []=(one l).ab y x:=aoY (d F (Up.refl _));rw[<-h5];exact h4;exact P y.y x _ (by rw[M];exact(R.mem.take _).lx (La _))
def HG(X:iB p cf)(n:Nat):wK p cf n/\Po p cf n:=Pz n p X
def aey(w:iB p cf){H:Func}{c:Code}(k:p.P.funcs[t]?=U H)(hb:H.body=U c)
  (ht:Kh cf N t c H.ntmps H.results.toList l v=b)(L:b.aG p y [])(hg:et cf.gl y)(R:ax p.S0 p.w0 bI.none cf.ty x y {v with tmps:=[]} ⟨#[],[]⟩ p.w0):
  Calls p.P t (C.ay y x l).toArray p.w0 p.R:=by
 subst ht;refine Hz k hb ?_;have RE:=R.enter l H.ntmps R.cQ;refine(HG w N).1 bI.none ⟨{v with tmps:=l++ew (H.ntmps-Y l) (.bA [])},y,x,[]⟩ gM Z t c _ _ [] y x _ p.w0 _ (Ck _ _) (iG.here _ _ _ _) rfl (λhh=>by cases hh) ⟨H,k⟩ L RE hg ?_ ?_;intro j G u pd X hA hR;obtain⟨ag,B,q0,o,A⟩:=hA.kQ;show LeavesInM Fence.wide 0 p.P H G.tmps p.R G.defers (.panicking j) u;rw[B];exact p7 au (uE.1 o).1 (λd F=>(A d (by simp[F])).1) (K6 (w.Pc j) (λd F=>(A d (by simp[F])).2) hR);intro e i h V' G u L' hl hL g L;obtain⟨ag,B,q0,o,A⟩:=g.cQ.kQ;have m:=g.py B;have af:∀Q,rP cf i H.results.toList=U Q->(Kg cf (Y v.ak) Q i).aG p h L'->LeavesInM Fence.wide 0 p.P H G.tmps p.R G.defers .returning u:=by
  intro Q z L;rw[B];exact p7 au (uE.1 o).1 (λd F=>(A d (by simp[F])).1) ⟨_,Hh m w.jB z,aoZ w.pt m L⟩
 cases e with
 |normal=>
  simp only[Oo] at L;split at L;rename_i Q z;exact af Q z L;exact L.elim
 |ret=>
  simp only[Oo] at L;split at L;rename_i Q z;exact af Q z L;exact L.elim
 |aW M=>
  show LeavesInM Fence.wide 0 p.P H G.tmps p.R G.defers (.panicking _) u;rw[B];exact p7 au (uE.1 o).1 (λd F=>(A d (by simp[F])).1) (L h.y V' _ m.mem.base)
 |exit id=>exact L.elim
end
def zEq:Value->CT->Bool
 |.int k n,.int X=>decide (k=X)&&n==0
 |.bool b,.bool=> !b
 |v,.ac z _=>DQ v z
 |_,_=>E
def HH:eX->eG->Bool
 |[],[]=>J
 |v::X,c::W=>zEq v c&&HH X W
 |_,_=>E
def aeA:∀(W:eX)(V:eG),HH W V=J->W=V.map pw
 |[],[],_=>rfl
 |[],_::_,h=>by simp[HH] at h
 |_::_,[],h=>by simp[HH] at h
 |v::W,c::V,h=>by
  simp only[HH,aw] at h;rw[ep,<-aeA W V h.2];congr 1;have X:=h.1;unfold zEq at X;split at X;simp only[aw,bZ,di] at X;obtain⟨rfl,rfl⟩:=X;rfl;rename_i b;cases b;rfl;cases X;exact abd _ _ X;cases X
def HI:List Field->List (Nat×TypeId)->Bool
 |[],[]=>J
 |f::X,x::W=>f.offset==x.1&&f.type==x.2&&HI X W
 |_,_=>E
def aeB:∀(X:List Field)(W:List (Nat×TypeId)),HI X W=J->X.map (λf=>(f.offset,f.type))=W
 |[],[],_=>rfl
 |[],_::_,h=>by simp[HI] at h
 |_::_,[],h=>by simp[HI] at h
 |f::X,x::W,h=>by
  simp only[HI,aw,di] at h;rw[ep,aeB X W h.2,h.1.1,h.1.2]
def V7(aj:eG):TD->Option TypeDesc->Bool
 |.struct V,U (.struct F)=>HI F.toList V
 |.arr n e,U (.array R X)=>n==R&&e==X
 |.slice e,U (.slice X)=>e==X
 |.str,U .string=>J
 |.fT,U (.interface _)=>J
 |.map k e _ _,U (.map W X)=>k==W&&e==X
 |.one,U (.int k)=>match aj with
  |[.int W]=>decide (k=W)
  |_=>E
 |.one,U .bool=>match aj with
  |[.bool]=>J
  |_=>E
 |.one,U (.pointer _)|.one,U (.map _ _)|.one,U (.chan _ _)=>match aj with
  |[.ac .nilFunc _]=>E
  |[.ac _ _]=>J
  |_=>E
 |.one,U (.func _ _ _)=>match aj with
  |[.ac _ _]=>J
  |_=>E
 |_,_=>E
def ao0{P:Program}{t:TypeId}{aj:eG}{d:TD}(h:V7 aj d (P.underlying t)=J):d.Ok P t aj:=by
 unfold V7 at h;split at h;rename_i N F W;exact⟨F,W,aeB _ _ h⟩;rename_i n e M R W;simp only[aw,di] at h;obtain⟨rfl,rfl⟩:=h;exact W;rename_i e R W;simp at h;subst h;exact W;rename_i W;exact W;rename_i m W;exact⟨m,W⟩;rename_i k e n L O R W;simp only[aw,di] at h;obtain⟨rfl,rfl⟩:=h;exact W;rename_i k W;split at h;rename_i O;simp at h;subst h;exact⟨_,W,⟨trivial,λk X=>(by cases X)⟩,λk X=>(by cases X;rfl),λX=>(by cases X)⟩;cases h;rename_i W;split at h;exact⟨_,W,⟨trivial,λk X=>(by cases X)⟩,λk X=>(by cases X),λX=>rfl⟩;cases h;rename_i x W;split at h;cases h;rename_i z Q V;exact⟨_,W,⟨trivial,λk X=>(V (by cases X;rfl)).elim⟩,λk X=>(by cases X),λX=>(by cases X)⟩;cases h;rename_i x y W;split at h;cases h;rename_i z Q V;exact⟨_,W,⟨trivial,λk X=>(V (by cases X;rfl)).elim⟩,λk X=>(by cases X),λX=>(by cases X)⟩;cases h;rename_i x y W;split at h;cases h;rename_i z Q V;exact⟨_,W,⟨trivial,λk X=>(V (by cases X;rfl)).elim⟩,λk X=>(by cases X),λX=>(by cases X)⟩;cases h;rename_i x y z W;split at h;exact⟨_,W,⟨trivial,λk X=>⟨_,_,_,rfl⟩⟩,λk X=>(by cases X),λX=>(by cases X)⟩;cases h;cases h
def V9(P:Program)(t:TypeId)(X:TI):Bool:=
 match P.info? t with
 |U i=>match i.zero with
  |U z=>decide (i.bytes<=131072)&&i.size==Y X.aj&&HH z.cells.toList X.aj&&V7 X.aj X.d (P.underlying t)&&(Ow z==X.d.isAgg)
  |none=>E
 |none=>E
def ao1{P:Program}{t:TypeId}{X:TI}(h:V9 P t X=J)(L:X.eq=J->∀(W V:eX)(r:Bool)(x y:Operand)(w:World),jZ X.aj W->jZ X.aj V->jm W V=U r->
  (do eqGuard .eql t x y (.agg W.toArray) (.agg V.toArray);binOp .eql t (.agg W.toArray) (.agg V.toArray)).run P w=.ok (.bool r) w/\
  (do eqGuard .neq t x y (.agg W.toArray) (.agg V.toArray);binOp .neq t (.agg W.toArray) (.agg V.toArray)).run P w=.ok (.bool !r) w)(H:∀k e n O,X.d=.map k e n O->rZ P k n O):eB P t X:=by
 unfold V9 at h;split at h;rename_i i Q;split at h;rename_i z N;simp only[aw,di,bZ] at h;obtain⟨h,G⟩:=h;exact⟨⟨i,Q,h.1.1.2,z,N,aeA _ _ h.1.2⟩,ao0 h.2,λj R=>(by rw[Q] at R;cases R;exact h.1.1.1),L,H,λj F R M=>(by rw[Q] at R;cases R;rw[N] at M;cases M;exact G)⟩;cases h;cases h
def aeC{X:Type}(l:List (Option X))(i:Nat):Option X:=v7 (motive:=λ_=>Nat->Option X) (λ_=>Z) (λx _ W t=>DF (motive:=λ_=>Option X) x (λm _=>W m) t) l i
def Wa{X:Type}(l:List (List X))(i:Nat):List X:=v7 (motive:=λ_=>Nat->List X) (λ_=>[]) (λx _ W t=>DF (motive:=λ_=>List X) x (λm _=>W m) t) l i
def look{X:Type}(l:List (List (Option X)))(t:Nat):Option X:=aeC (Wa l (t/16)) (t%16)
def aeD{X:Type}{x:X}:∀{l:List (Option X)}{i:Nat},aeC l i=U x->l[i]?=U (U x)
 |[],_,h=>by cases h
 |y::_,0,h=>by simp only[xR];exact ji U h
 |_::l,i+1,h=>by rw[qH];exact aeD (l:=l) h
def aeE{X:Type}:∀(l:List (List X))(i:Nat),l[i]?=U (Wa l i)\/Wa l i=[]
 |[],_=>.inr rfl
 |_::_,0=>.inl rfl
 |_::l,i+1=>by rw[qH];exact aeE l i
def EI{W:Type}(X:Nat->W->Bool):Nat->List (Option W)->Bool
 |_,[]=>J
 |n,Z::r=>EI X (n+1) r
 |n,U x::r=>X n x&&EI X (n+1) r
def Cl{X:Type}(W:Nat->X->Bool):Nat->List (List (Option X))->Bool
 |_,[]=>J
 |n,r::V=>EI W n r&&Cl W (n+16) V
def Wb{W:Type}{V:Nat->W->Bool}:∀{r:List (Option W)}{n i:Nat}{x:W},EI V n r=J->r[i]?=U (U x)->V (n+i) x=J
 |[],n,i,x,_,h=>by simp at h
 |Z::r,n,0,x,_,h=>by simp at h
 |Z::r,n,i+1,x,X,h=>by
  simp only[EI] at X;have:=Wb X (by simpa using h)
  rwa [show n+1+i=n+(i+1) from aa] at this
 |U y::r,n,0,x,X,h=>by simp[EI] at X;simp at h;subst h;exact X.1
 |U y::r,n,i+1,x,X,h=>by
  simp only[EI,aw] at X;have:=Wb X.2 (by simpa using h)
  rwa [show n+1+i=n+(i+1) from aa] at this
def aeF{W:Type}{R:Nat->W->Bool}:∀{l:List (List (Option W))}{n q i:Nat}{r:List (Option W)}{x:W},Cl R n l=J->l[q]?=U r->r[i]?=U (U x)->R (n+16*q+i) x=J
 |[],n,q,i,r,x,_,h,_=>by simp at h
 |y::l,n,0,i,r,x,X,h,V=>by simp only[Cl,aw] at X;simp at h;subst h;simpa using Wb X.1 V
 |y::l,n,q+1,i,r,x,X,h,V=>by
  simp only[Cl,aw] at X;have:=aeF X.2 (by simpa using h) V
  rwa [show n+16+16*q+i=n+16*(q+1)+i from aa] at this
def aeG{X:Type}{R:Nat->X->Bool}{l:List (List (Option X))}(h:Cl R 0 l=J){x:X}(Q:look l N=U x):R N x=true:=by
 have W:=aeD Q;rcases aeE l (N/16) with V|V;have:=aeF h V W
 rwa [gV,aaF] at this
 rw[V] at W;simp at W
def Wc(P:Program)(l:ap)(g:FuncId):Option (Code×Nat×lg):=if l.contains g then(match P.funcs[g]? with
 |U X=>match X.body with
  |U c=>U (c,X.ntmps,X.results.toList)
  |none=>Z
 |none=>Z) else Z
def tP(P:Program)(g:Nat):Bool:=match P.funcs[g]? with
 |U X=>X.body.isSome&& !(X.name== "runtime.NumGoroutine")
 |none=>E
def tQ{P:Program}(h:tP P N=J):∀X W,(callFunc N X).run P W=.ok (.enter N X) W:=by
 unfold tP at h;split at h;rename_i V R;simp only[aw,f9] at h;intro X W;have Q:V.name≠ "runtime.NumGoroutine":=by simpa using h.2
 obtain⟨c,O⟩:=jw.1 h.1;simp[callFunc,R,Q,O];cases h
def ao2(X:zX)(f i:Nat):Option FK:=match X.find? (λx=>x.1==f&&(x.2%1000==i&&decide (1000<=x.2))) with
 |U x=>if x.2/1000==1 then U .box else if x.2/1000<100 then U (.slot (x.2/1000-2) [0,1,2,3]) else if x.2/1000<200 then U (.slot (x.2/1000-102) [0,1,2,3,4]) else U (.cell ((x.2/1000-200)/20) ((x.2/1000-200)%20) [1,2,3,4,5,6,7,8,9])
 |none=>Z
def n7(P:Program)(jB:List (List BM))(W:List (List pQ))(V:lW)(R:ap)(loops:List (Nat×Nat×eV))(Q:xW)(ku:Bool:=E)(X:zX:=[]):bi:=
 {ty:=look jB,gl:=V,inl:=Wc P R,sig:=look W,loop:=λf i=>match loops.find? (λx=>x.1==f&&x.2.1==i) with
  |U x=>.inv x.2.2
  |none=>.alT,uQ:=λf g=>(Q.find? λx=>x.1==f&&x.2.1==g).map (·.2.2),ku:=ku,DT:=λf i=>X.contains (f,i),frk:=λf i=>ao2 X f i}
def Le{P:Program}{jB:List (List BM)}{G:List (List pQ)}{B:lW}{loops:List (Nat×Nat×eV)}{M:xW}{ku:Bool}{A:zX}{z:ap}{D:bI}{R:Ending->World->Prop}{Q:Exit->Act->World->Prop}
  (y:ip P (look jB))(w:Cl (λg _=>tP P g) 0 G=J)(v:x.all (tP P)=J)(u:P.follows .mixedOrders=J)(t:∀F W b o,e.heap.size<=b->R (.panicked F) W->R (.panicked F) (W.putObj b o))(s:∀X∈M,ly P (look jB) X.1 X.2.1 X.2.2.1 X.2.2.2.1 X.2.2.2.2):iB ⟨P,look jB,z,e,D,R,Q⟩ (n7 P jB G B x loops M ku A):=by
 refine⟨rfl,u,y,λf g V m l h=> ?_,λg N=> ?_,t,λg c k j h=> ?_⟩;simp only[n7] at h;cases O:M.find? (λX=>X.1==f&&X.2.1==g) with
 |none=>rw[O] at h;cases h
 |some X=>
  rw[O] at h;simp only[dQ,cg] at h;have L:=NN O;simp only[aw,di] at L;have:=s X (NB O);rw[L.1,L.2,h] at this;exact this
 rcases N with N|N;obtain⟨i,r⟩:=jw.1 N;exact tQ (aeG w r);obtain⟨X,H⟩:=jw.1 N;simp only[n7,Wc] at H;split at H;rename_i q;exact tQ (eO.1 v g (ov.1 q));cases H;simp only[n7,Wc] at h;split at h;split at h;rename_i p O;split at h;rename_i d n;cases h;exact⟨p,O,n,rfl,rfl⟩;cases h;cases h;cases h
section
inductive dj:RV->RV->Prop where
 |sl (A A':Option Addr) (len cap cap':Nat) (rows az:List (List RV)) (h1:Y rows=Y az) (h2:∀(i:Nat)(row row':List RV),rows[i]?=U row->az[i]?=U row'->Y row=Y row')
   (h3:∀(i j:Nat)(row row':List RV)(c c':RV),rows[i]?=U row->az[i]?=U row'->row[j]?=U c->row'[j]?=U c'->dj c c'):dj (.mk (.slice A len cap) rows) (.mk (.slice A' len cap') az)
 |val (v:Value) (rows:List (List RV)) (h:∀a l c,v≠ .slice a l c):dj (.mk v rows) (.mk v rows)
def HJ:XV->XV->Prop
 |.i n,.i m=>n=m
 |.b x,.b y=>x=y
 |.r v,.r w=>dj v w
 |_,_=>False
def yM:aX->aX->Prop
 |[],[]=>True
 |x::X,y::W=>HJ x y/\yM X W
 |_,_=>False
structure j7(O O':ai):Prop where
 i:O.i=O'.i
 b:O.b=O'.b
 len:Y O.r=Y O'.r
 r:∀(k:Nat)(v v':RV),O.r[k]?=U v->O'.r[k]?=U v'->dj v v'
def dj.refl:∀(v:RV),dj v v
 |.mk v V=>by
  by_cases h:∃a l c,v=.slice a l c;obtain⟨a,l,c,rfl⟩:=h;refine dj.sl a a l c c V V rfl (λi P O W X=>by rw[W] at X;cases X;rfl) (λi j P O x M W X R Q=> ?_);rw[W] at X;cases X;rw[R] at Q;cases Q;exact dj.refl x;exact dj.val v V (λa l c N=>h ⟨a,l,c,N⟩)
termination_by v=>SizeOf.sizeOf v
decreasing_by
 have L:=axe (iU W);have H:=axe (iU R);simp only[RV.mk.sizeOf_spec];omega
def dj.default:dj default default:=dj.refl _
def j7.rv{O X:ai}(h:j7 O X)(k:Nat):dj (O.rv k) (X.rv k):=by
 unfold ai.rv;simp only[cw];cases W:O.r[k]? with
 |none=>
  have:X.r[k]?=none:=by rw[zT] at W⊢;have:=h.len;omega
  rw[this];exact dj.default
 |some v=>
  cases V:X.r[k]? with
  |none=>rw[zT] at V;have:=(bJ.1 W).1;have:=h.len;omega
  |some R=>exact h.r k v R W V
def dj.bz{v N:RV}(h:dj v N)(i:Int)(j:Nat):dj (Y.bz v.ae i j) (Y.bz N.ae i j):=by
 cases h with
 |sl A G F D B R az z L H=>
  simp only[Y.bz,RV.ma,cw];cases W:R[i.toNat]? with
  |none=>
   have:az[i.toNat]?=none:=by rw[zT] at W⊢;omega
   rw[this];exact dj.default
  |some V=>
   obtain⟨X,Q⟩:∃X,az[i.toNat]?=U X:=by
    have:i.toNat<Y R:=(bJ.1 W).1;exact⟨az[i.toNat],ce aa⟩
   rw[Q];simp only[nl];have y:=L _ V X W Q;cases P:V[j]? with
   |none=>
    have:X[j]?=none:=by rw[zT] at P⊢;omega
    rw[this];exact dj.default
   |some c=>
    obtain⟨O,M⟩:∃O,X[j]?=U O:=by
     have:j<Y V:=(bJ.1 P).1;exact⟨X[j],ce aa⟩
    rw[M];exact H _ j V X c O W Q P M
 |val v R x=>exact dj.refl _
def dj.bF{v X:RV}(h:dj v X):Y.bF v.val=Y.bF X.val/\Y.iF v.val=Y.iF X.val/\lenOf v.val=lenOf X.val/\(∀i,yw v.val i=yw X.val i)/\(∀w,tG v.val w=tG X.val w)/\∀w,tG w v.val=tG w X.val:=by
 cases h with
 |sl A V R Q P W az=>exact⟨rfl,rfl,rfl,λ_=>rfl,λ_=>rfl,λw=>by cases w<;>rfl⟩
 |val v W O=>exact⟨rfl,rfl,rfl,λ_=>rfl,λ_=>rfl,λ_=>rfl⟩
def dj.dl{v M:RV}(h:dj v M)(k:RK):dj (Y.dl k v) (Y.dl k M):=by
 cases h with
 |sl A X W V R Q az P O N=>
  cases k with
  |sl e=>exact dj.sl A X W V R Q az P O N
  |str=>exact dj.refl _
  |ac=>exact dj.sl A X W V R [] [] rfl (λi L H q=>by simp at q) (λi j L H c G q=>by simp at q)
  |own e=>exact dj.sl A X W V R Q az P O N
  |ao=>exact dj.sl A X W V R Q az P O N
  |mr F=>exact dj.sl A X W V R Q az P O N
 |val v Q D=>exact dj.refl _
structure fk(rows az:aq):Prop where
 len:Y rows=Y az
 row:∀(i:Nat)(row row':aC),rows[i]?=U row->az[i]?=U row'->Y row=Y row'
 cell:∀(i j:Nat)(row row':aC)(c c':RV),rows[i]?=U row->az[i]?=U row'->row[j]?=U c->row'[j]?=U c'->dj c c'
def dj.HL{v R:RV}(h:dj v R):fk v.ae R.ae:=by
 cases h with
 |sl A M L H G P az W X V=>exact⟨W,X,V⟩
 |val v P F=>exact⟨rfl,λi O N W X=>by rw[W] at X;cases X;rfl,λi j O N c D W X V Q=>by rw[W] at X;cases X;rw[V] at Q;cases Q;exact dj.refl _⟩
def m6(X W:aC):Prop:=Y X=Y W/\∀(j:Nat)(c V:RV),X[j]?=U c->W[j]?=U V->dj c V
def fk.cons{r X:aC}{O N:aq}(h:fk (r::O) (X::N)):m6 r X/\fk O N:=
 ⟨⟨h.row 0 r X rfl rfl,λj c W=>h.cell 0 j r X c W rfl rfl⟩,by simpa using h.len,λi V R Q P=>h.row (i+1) V R (by simpa using Q) (by simpa using P),λi j V R c W Q P=>h.cell (i+1) j V R c W (by simpa using Q) (by simpa using P)⟩
def fk.Cm{r Q:aC}{P O:aq}(h:m6 r Q)(k:fk P O):fk (r::P) (Q::O):=by
 refine⟨by simp[k.len],λi V R X W=> ?_,λi j V R c N X W=> ?_⟩;cases i with
 |zero=>simp at X W;subst X W;exact h.1
 |succ i=>exact k.row i V R (by simpa using X) (by simpa using W)
 cases i with
 |zero=>simp at X W;subst X W;exact h.2 j c N
 |succ i=>exact k.cell i j V R c N (by simpa using X) (by simpa using W)
def m6.getD{W X:aC}(h:m6 W X)(j:Nat):dj (W.getD j Inhabited.default) (X.getD j Inhabited.default):=by
 simp only[cw];cases V:W[j]? with
 |none=>
  have:X[j]?=none:=by rw[zT] at V⊢;have:=h.1;omega
  rw[this];exact dj.refl _
 |some c=>
  obtain⟨R,Q⟩:∃R,X[j]?=U R:=by
   have:j<Y W:=(bJ.1 V).1;exact⟨X[j]'(by have:=h.1;omega),ce _⟩
  rw[Q];exact h.2 j c R V Q
def m6.ints{W X:aC}(h:m6 W X)(n:Nat):(W.take n).map (λc=>Y.bF c.val)=(X.take n).map λc=>Y.bF c.val:=by
 apply jV;intro j;simp only[dM,lT];split;cases V:W[j]? with
 |none=>
  have:X[j]?=none:=by rw[zT] at V⊢;have:=h.1;omega
  rw[this]
 |some c=>
  obtain⟨R,Q⟩:∃R,X[j]?=U R:=by
   have:j<Y W:=(bJ.1 V).1;exact⟨X[j]'(by have:=h.1;omega),ce _⟩
  rw[Q];simp only[dQ,(h.2 j c R V Q).bF.1]
 rfl
def m6.jJ{X W:aC}(h:m6 X W)(n:Nat)(V:aZ):Y.jJ n V X=Y.jJ n V W:=by
 simp only[Y.jJ,h.ints n]
def PA{n:Nat}{ks:aZ}:∀{X az:aq},fk X az->(gD n ks X=Z/\gD n ks az=Z)\/∃W V,gD n ks X=U W/\gD n ks az=U V/\m6 W V
 |[],[],_=>.inl ⟨rfl,rfl⟩
 |[],_::_,h=>by have:=h.len;simp at this
 |_::_,[],h=>by have:=h.len;simp at this
 |r::O,Q::N,h=>by
  obtain⟨R,P⟩:=h.cons;simp only[gD,Ga,<-R.jJ n ks];cases Y.jJ n ks r with
  |true=>exact .inr ⟨r,Q,rfl,rfl,R⟩
  |false=>exact PA P
def aeH{n:Nat}{X W:aC}(h:m6 X W):∀{V az:aq},fk V az->fk (eL n X V) (eL n W az)
 |[],[],k=>fk.Cm h k
 |[],_::_,k=>by have:=k.len;simp at this
 |_::_,[],k=>by have:=k.len;simp at this
 |r::P,O::N,k=>by
  obtain⟨R,Q⟩:=k.cons;simp only[eL,h.ints n,<-R.jJ n];split;exact fk.Cm h Q;exact fk.Cm R (aeH h Q)
mutual
def K.dm{O X:ai}(h:j7 O X):∀e:K,e.ab O=e.ab X
 |.c n=>rfl
 |.v k=>by simp only[K.ab,h.i]
 |.bin o k a b=>by simp only[K.ab,K.dm h a,K.dm h b]
 |.conv k a=>by simp only[K.ab,K.dm h a]
 |.len r=>by simp only[K.ab];exact(RE.dm h r).bF.2.2.1
 |.mm m a b=>by simp only[K.ab,K.dm h a,K.dm h b]
 |.dv b x y=>by simp only[K.ab,BE.dm h b,K.dm h x,K.dm h y]
 |.cell r i j=>by simp only[K.ab,K.dm h i];exact((RE.dm h r).bz _ j).bF.1
 |.mV r i=>by simp only[K.ab,K.dm h i];exact(RE.dm h r).bF.2.2.2.1 _
 |.look r n a b c j=>by
  simp only[K.ab,K.dm h a,K.dm h b,K.dm h c];rcases PA (n:=n) (ks:=[a.ab X,b.ab X,c.ab X]) (RE.dm h r).HL with⟨W,V⟩|⟨Q,P,W,V,R⟩;rw[W,V];rw[W,V];exact(R.getD j).bF.1
def BE.dm{O X:ai}(h:j7 O X):∀e:BE,e.ab O=e.ab X
 |.c n=>rfl
 |.v k=>by simp only[BE.ab,h.b]
 |.cmp o a b=>by simp only[BE.ab,K.dm h a,K.dm h b]
 |.not a=>by simp only[BE.ab,BE.dm h a]
 |.and a b=>by simp only[BE.ab,BE.dm h a,BE.dm h b]
 |.beq a b=>by simp only[BE.ab,BE.dm h a,BE.dm h b]
 |.dv b x y=>by simp only[BE.ab,BE.dm h b,BE.dm h x,BE.dm h y]
 |.cell r i j=>by simp only[BE.ab,K.dm h i];exact((RE.dm h r).bz _ j).bF.2.1
 |.seq a b=>by simp only[BE.ab];rw[(RE.dm h a).bF.2.2.2.2.1,(RE.dm h b).bF.2.2.2.2.2]
 |.look r n a b c j=>by
  simp only[BE.ab,K.dm h a,K.dm h b,K.dm h c];rcases PA (n:=n) (ks:=[a.ab X,b.ab X,c.ab X]) (RE.dm h r).HL with⟨W,V⟩|⟨Q,P,W,V,R⟩;rw[W,V];rw[W,V];exact(R.getD j).bF.2.1
 |.has r n a b c=>by
  simp only[BE.ab,K.dm h a,K.dm h b,K.dm h c];rcases PA (n:=n) (ks:=[a.ab X,b.ab X,c.ab X]) (RE.dm h r).HL with⟨W,V⟩|⟨Q,P,W,V,R⟩;rw[W,V];rw[W,V];rfl
def RE.dm{O X:ai}(h:j7 O X):∀r:RE,dj (r.rv O) (r.rv X)
 |.v k=>by simp only[RE.rv];exact h.rv k
 |.cell r i j k=>by simp only[RE.rv,K.dm h i];exact((RE.dm h r).bz _ j).dl k
 |.k v=>by simp only[RE.rv];exact dj.refl _
end
def C.ao3{X:ai}(h:j7 y X)(v:C):HJ (v.xv y) (v.xv X):=by
 cases v<;>simp only[C.xv,HJ];exact K.dm h _;exact BE.dm h _;exact RE.dm h _
def C.ao4{X:ai}(h:j7 y X)(v:C):dj (v.bN y) (v.bN X):=by
 cases v<;>simp only[C.bN];rw[K.dm h];exact dj.refl _;rw[BE.dm h];exact dj.refl _;exact RE.dm h _
 all_goals exact dj.refl _
def fk.of{R az:aq}(O:Y R=Y az)(h:∀(i:Nat)(X W:aC),R[i]?=U X->az[i]?=U W->Y X=Y W/\∀(j:Nat)(c V:RV),X[j]?=U c->W[j]?=U V->dj c V):fk R az:=
 ⟨O,λi X W Q P=>(h i X W Q P).1,λi j X W c V Q P=>(h i X W Q P).2 j c V⟩
def PB{V:ai}(h:j7 y V)(l:am):(l.map (C.bN y)).length=(l.map (C.bN V)).length/\∀(j:Nat)(c R:RV),(l.map (C.bN y))[j]?=U c->(l.map (C.bN V))[j]?=U R->dj c R:=by
 refine⟨au,λj c R X W=> ?_⟩;rw[dM] at X W;cases Q:l[j]? with
 |none=>rw[Q] at X;cases X
 |some v=>
  rw[Q] at X W;simp only[dQ,cg] at X W;rw[<-X,<-W];exact C.ao4 h v
def aeI:∀{O N R Q:aC}{P:Nat},Y O=Y N->(∀(j:Nat)(c X:RV),O[j]?=U c->N[j]?=U X->dj c X)->Y R=Y Q->(∀(j:Nat)(c X:RV),R[j]?=U c->Q[j]?=U X->dj c X)->
  (gE R P O).length=(gE Q P N).length/\∀(j:Nat)(c X:RV),(gE R P O)[j]?=U c->(gE Q P N)[j]?=U X->dj c X
 |[],[],R,Q,P,_,_,M,L=>⟨M,L⟩
 |[],_::_,_,_,_,h,_,_,_=>by simp at h
 |_::_,[],_,_,_,h,_,_,_=>by simp at h
 |v::O,D::N,R,Q,P,F,G,M,L=>by
  simp only[gE];refine aeI (by simpa using F) (λj c X V W=>G (j+1) c X (by simpa using V) (by simpa using W)) (by simp[M]) (λj c X V W=> ?_);rw[td] at V W;split at V;rename_i H;rw[aE H] at W;split at V;split at W;cases V;cases W;exact G 0 _ _ rfl rfl;cases W;cases V;rename_i H;rw[aJ H] at W;exact L j c X V W
def LE.dm{O D:ai}(h:j7 O D):∀x:LE,fk (x.ae O) (x.ae D)
 |.ah r=>(RE.dm h r).HL
 |.lit l=>by
  simp only[LE.ae];refine fk.of au (λi R Q X W=> ?_);rw[dM] at X W;cases B:l[i]? with
  |none=>rw[B] at X;cases X
  |some v=>
   rw[B] at X W;simp only[dQ,cg] at X W;rw[<-X,<-W];exact PB h v
 |.jW a b=>by
  simp only[LE.ae];have V:=LE.dm h a;have H:=LE.dm h b;refine fk.of (by simp[V.len,H.len]) (λi R Q X W=> ?_);by_cases L:i<(a.ae O).length;rw[dF L] at X;rw[dF (by rw[<-V.len];exact L)] at W;exact⟨V.row i R Q X W,λj c P=>V.cell i j R Q c P X W⟩;rw[gK aa] at X;rw[gK (by rw[<-V.len];omega),<-V.len] at W;exact⟨H.row _ R Q X W,λj c P=>H.cell _ j R Q c P X W⟩
 |.tq n R=>by
  simp only[LE.ae,K.dm h n];refine fk.of au (λi r u X W=> ?_);rw[Dw] at X W;split at X;rename_i L;rw[aE L] at W;cases X;cases W;exact PB h R;cases X
 |.set a i t G=>by
  simp only[LE.ae,K.dm h i];have V:=LE.dm h a;have A:=PB h G;refine fk.of (by simp[V.len]) (λs R Q X W=> ?_);rcases G8 X with⟨rfl,z,N,rfl⟩|⟨F,N⟩;rcases G8 W with⟨_,y,M,rfl⟩|⟨F,_⟩;exact aeI A.1 A.2 (V.row _ z y N M) (λj c P=>V.cell _ j z y c P N M);exact bp rfl F;rcases G8 W with⟨rfl,_⟩|⟨_,M⟩;exact bp rfl F;exact⟨V.row _ R Q N M,λj c P=>V.cell _ j R Q c P N M⟩
 |.sub a w L=>by
  simp only[LE.ae,K.dm h w,K.dm h L];have V:=LE.dm h a;refine fk.of (by simp[V.len]) (λi R Q X W=> ?_);have N:=(KF X).1;have M:=(KF W).1;exact⟨V.row _ R Q N M,λj c P=>V.cell _ j R Q c P N M⟩
 |.ins a n G=>by
  simp only[LE.ae];exact aeH (PB h G) (LE.dm h a)
def aeJ{W:ai}(h:j7 y W)(x:LE){A:mU}:dj (gI x y) (.mk (.slice A (x.ae W).length N) (x.ae W)):=by
 have X:=LE.dm h x;unfold gI;rw[X.len];exact dj.sl _ _ _ _ _ _ _ X.len X.row X.cell
def j7.add{O R:ai}(h:j7 O R){x y:XV}(V:HJ x y):j7 (O.add x) (R.add y):=by
 cases x<;>cases y<;>simp only[HJ] at V;subst V;exact⟨by simp[ai.add,h.i],h.b,h.len,h.r⟩;subst V;exact⟨h.i,by simp[ai.add,h.b],h.len,h.r⟩;refine⟨h.i,h.b,by simp[ai.add,h.len],λk v P X W=> ?_⟩;simp only[ai.add] at X W;by_cases Q:k<Y O.r;rw[dF Q] at X;rw[dF (by rw[<-h.len];exact Q)] at W;exact h.r k v P X W;have N:k=Y O.r:=by
  have:=(bJ.1 X).1;simp at this;omega
 subst N;simp at X;rw[h.len] at W;simp at W;subst X W;exact V
def j7.ext:∀{W V:aX}{O R:ai},j7 O R->yM W V->j7 (O.ext W) (R.ext V)
 |[],[],_,_,h,_=>h
 |[],_::_,_,_,_,X=>X.elim
 |_::_,[],_,_,_,X=>X.elim
 |x::W,y::V,_,_,h,X=>(h.add X.1).ext X.2
inductive aU where
 |ret (xs:List XV)
 |aW (v:Value)
abbrev jC:=Option aU
abbrev md:=FuncId->aX->jC
def We:LK->XV->Bool
 |.int _,.i _=>J
 |.bool,.b _=>J
 |.ah _,.r _=>J
 |_,_=>E
def me:aI->aX->Bool
 |[],[]=>J
 |k::X,x::W=>We k x&&me X W
 |_,_=>E
def Co(X:Ty)(W:aY):LK->C->Bool
 |.int k,.int V _=>decide (k=V)
 |.bool,.bool _=>J
 |.ah e,.ah r=>match e with
  |.mr R=>r.nq X ⟨[],[],0,0,W,0,0,[]⟩ R
  |e=>r.fits X ⟨[],[],0,0,W,0,0,[]⟩ e.rd
 |_,_=>E
def jN(X:Ty)(W:aY):aI->am->Bool
 |[],[]=>J
 |k::V,v::R=>Co X W k v&&jN X W V R
 |_,_=>E
def jo(W:Ty):iX->am->DH
 |[],[]=>U []
 |t::V,v::R=>match W t,jo W V R with
  |U X,U r=>if X.d.isAgg then(match v with
    |.agg l=>if Y l==Y X.aj then U (l++r) else Z
    |_=>Z) else(if Y X.aj==1 then U (v::r) else Z)
  |_,_=>Z
 |_,_=>Z
def wM(n:Nat):C->am
 |.bA l=>if n==1 then[.bA l] else l
 |v=>[v]
def EJ(O:ai):C->Option Value
 |.fT t (.int k e)=>U (.iface t (.int k (e.ab O)))
 |_=>Z
structure Fr where
 av:Nat
 ks:aI
 t:T
 O:ai
 rs:aY
def EK(av:Nat):List Fr->Option (Fr×List Fr)
 |[]=>Z
 |x::X=>if x.av=av then U (x,X) else EK av X
def iP:aI->aY
 |[]=>[]
 |.ah e::X=>e::iP X
 |_::X=>iP X
def p8:Nat->Nat->Nat->aI->am->Bool
 |_,_,_,[],[]=>J
 |a,b,c,.int k::X,.int W (.v n)::l=>decide (k=W)&&n==a&&p8 (a+1) b c X l
 |a,b,c,.bool::X,.bool (.v n)::l=>n==b&&p8 a (b+1) c X l
 |a,b,c,.ah _::X,.ah (.v n)::l=>n==c&&p8 a b (c+1) X l
 |_,_,_,_,_=>E
def PD:RK->RK->Bool
 |_,.ao=>J
 |.own t,.sl X=>decide (t=X)
 |.sl t,.sl X=>decide (t=X)
 |.str,.str=>J
 |.ac,.ac=>J
 |.mr a,.mr b=>decide (a=b)
 |_,_=>E
def AL:aY->aY->Bool
 |[],[]=>J
 |x::X,y::W=>PD x y&&AL X W
 |_,_=>E
def aeK:RK->RK->Bool
 |.own t,.own X=>decide (t=X)
 |x,y=>PD x y
def AM:aY->aY->Bool
 |[],[]=>J
 |x::X,y::W=>aeK x y&&AM X W
 |_,_=>E
def Wf(X:Ty)(W:iX)(v:C)(R:aY)(O:ai):jC:=match jo X W (wM (Y W) v),gH X W with
 |U l,U V=>if jN X R V l&&oB V then U (.ret (l.map (C.xv O))) else Z
 |_,_=>Z
def Wg(X:Ty)(P N:FuncId->pQ)(f:FuncId)(M:am)(L:aY)(V:aI)(iE:C)(O:ai):Option aX:=match P f,N f with
 |U R,U W=>match jo X R M,gH X R,gH X W,jo X W (wM (Y W) iE) with
  |U l,U Q,U H,U r=>if jN X L Q l&&oB Q&&decide (H=V)&&p8 (Y O.i) (Y O.b) (Y O.r) V r then U (l.map (C.xv O)) else Z
  |_,_,_,_=>Z
 |_,_=>Z
def Wh(X:aY)(r:RE)(e:TypeId):Bool:=match r with
 |.v k=>decide (X[k]?=U (.own e))
 |.k (.slice Z 0 0)=>J
 |_=>E
def Wi:RK->Bool
 |.mr _=>J
 |_=>E
def m6.key{x y:aC}(h:m6 x y)(c:Nat):aK c x=aK c y:=(h.getD c).bF.1
def aeL{d:Bool}{x W y V:aC}(R:m6 x W)(Q:m6 y V):∀X:ap,i7 d X x y=i7 d X W V
 |[]=>rfl
 |c::X=>by simp only[i7,R.key,Q.key,aeL R Q X]
def Wj{X:bB}{x W y V:aC}(R:m6 x W)(Q:m6 y V):X.lt x y=X.lt W V:=by
 cases X with
 |lex P d=>exact aeL R Q P
 |ratio n d=>simp only[bB.lt,R.key,Q.key]
 |da k o O=>rfl
def ao5{X:bB}{x W:aC}(V:m6 x W):X.ok x=X.ok W:=by
 cases X with
 |lex R d=>rfl
 |ratio n d=>simp only[bB.ok,V.key]
 |da k o Q=>rfl
def fk.PE{r:aq}(h:fk [] r):r=[]:=by cases r with
 |nil=>rfl
 |cons x X=>have:=h.len;simp at this
def aeM{V:bB}{x R:aC}(X:m6 x R):∀{l W:aq},fk l W->fk (eH V.lt x l) (eH V.lt R W)
 |[],W,h=>by have P:=h.PE;subst P;exact fk.Cm X h
 |y::l,[],h=>by have:=h.len;simp at this
 |y::l,N::W,h=>by
  obtain⟨Q,O⟩:=h.cons;simp only[eH,Wj X Q];split;exact fk.Cm X h;exact fk.Cm Q (aeM X O)
def aeN{R:bB}:∀{l W:aq}{acc X:aq},fk l W->fk acc X->fk (l.foldl (λacc x=>eH R.lt x acc) acc) (W.foldl (λacc x=>eH R.lt x acc) X)
 |[],W,acc,X,h,V=>by rw[h.PE];exact V
 |y::l,[],acc,X,h,V=>by have:=h.len;simp at this
 |y::l,O::W,acc,X,h,V=>by
  obtain⟨Q,P⟩:=h.cons;simp only[BF];exact aeN P (aeM Q V)
def Wk{f g:aC->Bool}:∀{l X:aq},(∀x W,m6 x W->f x=g W)->fk l X->l.all f=X.all g
 |[],X,_,h=>by rw[h.PE];rfl
 |y::l,[],_,h=>by have:=h.len;simp at this
 |y::l,P::X,V,h=>by
  obtain⟨R,Q⟩:=h.cons;simp only[JK,V _ _ R,Wk V Q]
def aeO{X:bB}:∀{l W:aq},fk l W->uW X.lt l=uW X.lt W
 |[],W,h=>by rw[h.PE]
 |y::l,[],h=>by have:=h.len;simp at this
 |y::l,V::W,h=>by
  obtain⟨R,Q⟩:=h.cons;have O:(l.all λz=>X.lt y z||X.lt z y)=W.all λz=>X.lt V z||X.lt z V:=Wk (λx N P=>by rw[Wj R P,Wj P R]) Q
  simp only[uW,aeO Q,O]
def aeP{sp:bB}{V:Bool}{l R r:aq}(h:fk l R)(X:io sp V l=U r):∃Q,io sp V R=U Q/\fk r Q:=by
 cases sp with
 |da k o L=>simp[io] at X
 |_=>
  simp only[io] at X⊢;rw[Wk (λx H P=>ao5 P) h,aeO h,h.len] at X;split at X;rename_i O;cases X;rw[aE O];exact⟨_,rfl,aeN h ⟨rfl,λi N M W=>by simp at W,λi j N M c G W=>by simp at W⟩⟩;cases X
def fk.getD{l X:aq}(h:fk l X)(i:Nat):m6 (l.getD i []) (X.getD i []):=by
 simp only[cw];cases V:l[i]? with
 |none=>
  have:X[i]?=none:=by rw[zT] at V⊢;have:=h.len;omega
  rw[this];exact⟨rfl,λj c W R=>by simp at R⟩
 |some c=>
  obtain⟨W,Q⟩:∃W,X[i]?=U W:=by
   have:i<Y l:=(bJ.1 V).1;exact⟨X[i]'(by have:=h.len;omega),ce _⟩
  rw[Q];exact⟨h.row i c W V Q,λj x P R O=>h.cell i j c W x P V Q R O⟩
def fk.set{x X:aC}(W:m6 x X):∀{l V:aq}(_:fk l V)(i:Nat),fk (l.set i x) (V.set i X)
 |[],[],h,_=>h
 |[],_::_,h,_=>by have:=h.len;simp at this
 |_::_,[],h,_=>by have:=h.len;simp at this
 |r::R,Q::P,h,0=>fk.Cm W h.cons.2
 |r::R,Q::P,h,i+1=>fk.Cm h.cons.1 (fk.set W h.cons.2 i)
def Wl{l X:aq}(h:fk l X):∀(n:Nat)(i:Int),fk (pn n i l) (pn n i X)
 |0,_=>h
 |n+1,i=>by
  simp only[pn,<-(h.getD i.toNat).key 0];split;exact h;exact fk.set ((Wl h n _).getD _) (Wl h n _) _
def ao6{l X:aq}(h:fk l X):kN l=kN X:=by
 have e:(λk=>decide (0<=aK 0 (l.getD k []))&&decide (aK 0 (l.getD k [])<=k))=λk:Nat=>decide (0<=aK 0 (X.getD k []))&&decide (aK 0 (X.getD k [])<=k):=by
  funext k;rw[(h.getD k).key 0]
 unfold kN;rw[e,h.len]
def ao7{R:ai}(Q:j7 y R)(W:bB)(V:Bool)(l:aq):mH y W V l=mH R W V l:=by
 cases W with
 |lex P d=>rfl
 |ratio n d=>rfl
 |da k o X=>
  cases V with
  |false=>rfl
  |true=>
   cases X with
   |nil=>rfl
   |cons i X=>
    cases X with
    |nil=>simp only[mH,K.dm Q i]
    |cons j X=>rfl
def aeQ{Q:ai}(M:j7 y Q){V:bB}{R:Bool}{l P r:aq}(h:fk l P)(X:mH y V R l=U r):∃N,mH Q V R P=U N/\fk r N:=by
 cases V with
 |lex L d=>exact aeP (sp:=.lex L d) h X
 |ratio n d=>exact aeP (sp:=.ratio n d) h X
 |da k o W=>
  cases R with
  |false=>simp[mH] at X
  |true=>
   cases W with
   |nil=>simp[mH] at X
   |cons i W=>
    cases W with
    |nil=>
     simp only[mH,tH] at X⊢;rw[h.len,ao6 h,K.dm M i] at X;split at X;rename_i H;cases X;rw[aE H];exact⟨_,rfl,Wl h _ _⟩;cases X
    |cons j W=>simp[mH] at X
def dj.dK{a b:RV}(h:dj a b){M:ai}(L:j7 y M){W:bB}{V:Bool}{R Q:aq}(X:mH y W V a.ae=U R)(P:mH M W V b.ae=U Q):dj (.mk a.val R) (.mk b.val Q):=by
 obtain⟨x,H,N⟩:=aeQ L h.HL X;rw[P] at H;cases H;cases h with
 |sl A G F D B z az w u t=>exact dj.sl A G F D B R Q N.len N.row N.cell
 |val v z s=>
  rw[RV.ma] at X P;rw[ao7 L W V,P] at X;cases X;exact dj.refl _
def ao8{R:Ty}{X:RV}{V:aq}(W:dL R (.own h) (.mk X.val V) N)(Q:∀x∈V,x∈X.ae):dL R (.own h) X N:=by
 obtain⟨v,P⟩:=X;simp only[RV.l9,RV.ma] at W Q;cases W with
 |own h X N W=>
  refine dL.own h _ N ?_;generalize O:RV.mk v V=X at W;cases W with
  |here h a M L az=>cases O;exact dL.here h a M L P
  |deep h w az i j H c z k N G F D B=>
   cases O;obtain⟨A,y⟩:=qI (Q _ (iU G));exact dL.deep h v P A j H c z k N y F D B
mutual
def PF:RV->RV->Bool
 |.mk v X,.mk W az=>(match v,W with
  |.int k a,.int V b=>decide (k=V)&&a==b
  |.bool a,.bool b=>a==b
  |.string a,.string b=>decide (a=b)
  |.slice Z a b,.slice Z c d=>a==c&&b==d
  |_,_=>E)&&HM X az
def HM:aq->aq->Bool
 |[],[]=>J
 |r::X,W::V=>HN r W&&HM X V
 |_,_=>E
def HN:aC->aC->Bool
 |[],[]=>J
 |c::X,W::V=>PF c W&&HN X V
 |_,_=>E
end
def Lf:XV->XV->Bool
 |.i a,.i b=>a==b
 |.b a,.b b=>a==b
 |.r a,.r b=>PF a b
 |_,_=>E
def Lg:aX->aX->Bool
 |[],[]=>J
 |x::X,y::W=>Lf x y&&Lg X W
 |_,_=>E
def aeR:Value->Value->Bool
 |.iface t (.int k a),.iface X (.int W b)=>t==X&&decide (k=W)&&a==b
 |_,_=>E
def PH:aU->aU->Bool
 |.ret a,.ret b=>Lg a b
 |.aW a,.aW b=>aeR a b
 |_,_=>E
mutual
def aeS:∀(a b:RV),PF a b=J->a=b
 |.mk v X,.mk R az,h=>by
  simp only[PF,aw] at h;have W:=aeT X az h.2;subst W;congr 1;have V:=h.1;split at V<;>simp_all
def aeT:∀(a b:aq),HM a b=J->a=b
 |[],[],_=>rfl
 |[],_::_,h=>by simp[HM] at h
 |_::_,[],h=>by simp[HM] at h
 |r::X,W::V,h=>by
  simp only[HM,aw] at h;rw[aeU r W h.1,aeT X V h.2]
def aeU:∀(a b:aC),HN a b=J->a=b
 |[],[],_=>rfl
 |[],_::_,h=>by simp[HN] at h
 |_::_,[],h=>by simp[HN] at h
 |r::X,W::V,h=>by
  simp only[HN,aw] at h;rw[aeS r W h.1,aeU X V h.2]
end
def ao9:∀(a b:XV),Lf a b=J->a=b
 |.i a,b,h=>by cases b<;>simp[Lf] at h;rw[h]
 |.b a,b,h=>by cases b<;>simp[Lf] at h;rw[h]
 |.r a,b,h=>by cases b<;>simp[Lf] at h;rw[aeS _ _ h]
def aeV:∀(a b:aX),Lg a b=J->a=b
 |[],b,h=>by cases b<;>simp[Lg] at h;rfl
 |x::X,b,h=>by cases b<;>simp[Lg] at h;rw[ao9 _ _ h.1,aeV _ _ h.2]
def apa:∀(a b:aU),PH a b=J->a=b
 |.ret a,b,h=>by cases b<;>simp[PH] at h;rw[aeV _ _ h]
 |.aW a,b,h=>by
  cases b<;>simp[PH] at h;rename_i v;unfold aeR at h;split at h;simp only[aw,di,bZ] at h;obtain⟨⟨rfl,rfl⟩,rfl⟩:=h;rfl;cases h
open Classical in
def AN(a b:aU):Bool:=PH a b||decide (a=b)
def apb(o:aU):AN o o=true:=by simp[AN]
def apc(a b:aU)(h:AN a b=J):a=b:=by
 simp only[AN,iD,bZ] at h;exact h.elim (apa a b) id
def yN:jC->jC->jC
 |U a,U b=>if AN a b then U a else Z
 |_,_=>Z
def sj:List jC->jC
 |[]=>Z
 |[o]=>o
 |o::X=>yN o (sj X)
def PI{a b:jC}{o:aU}(h:yN a b=U o):a=U o/\b=U o:=by
 unfold yN at h;split at h;split at h;rename_i x y X;cases h;rw[apc _ _ X];exact⟨rfl,rfl⟩;cases h;cases h
def PJ:∀{l:List jC}{o:aU},sj l=U o->∀x∈l,x=U o
 |[],o,h=>by simp[sj] at h
 |[x],o,h=>by simp only[sj] at h;intro y W;simp at W;rw[W];exact h
 |x::y::r,o,h=>by
  simp only[sj] at h;obtain⟨V,R⟩:=PI h;intro z X;rcases dJ.1 X with rfl|X;exact V;exact PJ (l:=y::r) R z X
def aeW{a b X W:jC}{o:aU}(h:yN a b=U o)(Q:a=U o->X=U o)(P:b=U o->W=U o):yN X W=U o:=by
 obtain⟨V,R⟩:=PI h;rw[V,R] at h;rw[Q V,P R];exact h
def aeX{X:Type}{l:List X}{f g:X->jC}{o:aU}(h:sj (l.map f)=U o)(V:∀x∈l,f x=U o->g x=U o):sj (l.map g)=U o:=by
 rw[<-h];congr 1;refine jh λx W=> ?_
 have:=PJ h (f x) (gL.2 ⟨x,W,rfl⟩);rw[this,V x W this]
def vc(m:K)(g h:BE)(O:ai):List (Option Int):=(((e8 (m.ab O).toNat).map λ(j:Nat)=>(j:Int)).filter λj=>g.ab (O.add (.i j))).map U++(if h.ab O then[Z] else[])
def apd{m:K}{g h:BE}{j:Int}(W:0<=j)(V:j<m.ab y)(X:g.ab (y.add (.i j))=J):U j∈vc m g h y:=by
 simp only[vc,eC,gL,o9,vZ];exact .inl ⟨j,⟨⟨j.toNat,aa,aa⟩,X⟩,rfl⟩
def ape{m:K}{g h:BE}(X:h.ab y=J):Z∈vc m g h y:=by
 simp[vc,X]
def run(V:Ty)(R Q:FuncId->pQ)(be:md)(P:iX):Nat->T->ai->aY->List Fr->jC
 |0,_,_,_,_=>Z
 |n+1,.ret v _ N,O,X,_=>if AL X N then Wf V P v N O else Z
 |n+1,.aW v,O,_,_=>(EJ O v).map .aW
 |n+1,.aS b t f,O,X,W=>if b.ab O then run V R Q be P n t O X W else run V R Q be P n f O X W
 |n+1,.aN b t,O,X,W=>if b.ab O then run V R Q be P n t O X W else Z
 |n+1,.call f F _ N M iE t,O,X,W=>if AL X N then(match Wg V R Q f F N M iE O with
   |U D=>match be f D with
    |U (.ret H)=>if me M H then run V R Q be P n t (O.ext H) (X++iP M) W else Z
    |U (.aW v)=>U (.aW v)
    |none=>Z
   |none=>Z) else Z
 |n+1,.loop av M G t,O,X,W=>if jN V X M G then run V R Q be P n t (O.ext (G.map (C.xv O))) (X++iP M) (⟨av,M,t,O,X++iP M⟩::W) else Z
 |n+1,.back av x,O,X,W=>match EK av W with
  |U (L,B)=>if jN V X L.ks x then run V R Q be P n L.t (L.O.ext (x.map (C.xv O))) L.rs (L::B) else Z
  |none=>Z
 |n+1,.ae k x _ t,O,X,W=>if Wi k then run V R Q be P n t (O.add (.r (gI x O))) (X++[k]) W else Z
 |n+1,.fU g h t f,O,X,W=>if g.ab O then(if h.ab O then yN (run V R Q be P n t O X W) (run V R Q be P n f O X W) else run V R Q be P n t O X W) else(if h.ab O then run V R Q be P n f O X W else Z)
 |n+1,.pick m g h t f,O,X,W=>sj ((vc m g h O).map λj=>match j with
  |U j=>run V R Q be P n t (O.add (.i j)) X W
  |none=>run V R Q be P n f O X W)
 |n+1,.dK _ _ e A z r N t,O,X,W=>if AM X N&&Wh X r e then(match mH O A z (r.rv O).ae with
  |U y=>run V R Q be P n t (O.add (.r (.mk (r.rv O).val y))) (X++[.own e]) W
  |none=>Z) else Z
 |n+1,.new e x N _ t,O,X,W=>if AM X N then run V R Q be P n t (O.add (.r (gI x O))) (X++[.own e]) W else Z
 |_,_,_,_,_=>Z
end
def Lh{X:World}(h:ga [] e X):Below e.heap.size e X:=⟨h.os,h.tape,h.output,h.size,λk W=>h.block k W au⟩
def apf{b c:World}(h:Below e.heap.size e b)(k:Below b.heap.size b c):Below e.heap.size e c:=h.trans (k.mono h.size)
def n8:aI->aX->eX
 |k::X,x::W=>x.at k::n8 X W
 |_,_=>[]
def tR(u:Ty):iX->eX->eX
 |[],_=>[]
 |t::W,l=>match u t with
  |U X=>(if X.d.isAgg then .agg (l.take (Y X.aj)).toArray else l.getD 0 undef)::tR u W (l.drop (Y X.aj))
  |none=>[]
def EL:eX->Value
 |[v]=>v
 |l=>.tuple l.toArray
def aeY{u:Ty}:∀{X:iX}{W l:am},jo u X W=U l->Y X=Y W
 |[],[],l,_=>rfl
 |[],_::_,l,h=>by simp[jo] at h
 |_::_,[],l,h=>by simp[jo] at h
 |t::X,v::W,l,h=>by
  simp only[jo] at h;split at h;rename_i R r Q V;simp[aeY V];cases h
def PK{u:Ty}{O:ai}{V:ap}:∀{W:iX}{R l:am},jo u W R=U l->C.ay O V R=tR u W (C.ay O V l)
 |[],[],l,_=>rfl
 |[],_::_,l,h=>by simp[jo] at h
 |_::_,[],l,h=>by simp[jo] at h
 |t::W,v::R,l,h=>by
  simp only[jo] at h;split at h;rename_i H r M L;have N:=PK (O:=O) (V:=V) L;simp only[tR,M];split at h;rename_i Q;rw[aE Q];split at h;rename_i F;split at h;rename_i X;simp only[di] at X;cases h;rw[Ot,<-X,List.take_left' au,Tu au,<-N];simp only[C.ay,C.ab];cases h;cases h;rename_i Q;rw[aJ Q];split at h;rename_i X;simp only[di] at X;cases h;rw[X];simp only[C.ay,DA,List.drop_succ_cons,alB,<-N];cases h;cases h
def aeZ{u:Ty}{R:iX}{v:C}(h:jo u R (wM (Y R) v)=U l):v.ab y x=EL (tR u R (C.ay y x l)):=by
 have Q:=aeY h;rw[<-PK h];cases v
 case bA L=>
  simp only[wM] at Q⊢;by_cases N:Y R==1;simp[N,C.ay,EL];simp only[N,fH,iC] at Q⊢;have M:Y L≠1:=by rw[<-Q];simpa using N
  match L,M with
  |[],_=>simp[C.ay,EL,C.ab]
  |[X],M=>simp at M
  |X::W::z,_=>simp[C.ay,EL,C.ab]
 all_goals simp[wM,C.ay,EL]
def apg{u:Ty}{O:ai}{V:ap}{k:LK}{v:C}(h:Co u g k v=J):v.ab O V=(v.xv O).at k/\pW k (v.xv O):=by
 unfold Co at h;split at h;rename_i k X e;simp at h;subst h;exact⟨rfl,trivial⟩;exact⟨rfl,trivial⟩;exact⟨rfl,trivial⟩;cases h
def HO{u:Ty}{W:aY}{O:ai}{V:ap}:∀{X:aI}{l:am},jN u W X l=J->C.ay O V l=n8 X (l.map (C.xv O))/\ee X (l.map (C.xv O))
 |[],[],_=>⟨rfl,trivial⟩
 |[],_::_,h=>by simp[jN] at h
 |_::_,[],h=>by simp[jN] at h
 |k::X,v::l,h=>by
  simp only[jN,aw] at h;obtain⟨R,Q⟩:=apg (O:=O) (V:=V) h.1;obtain⟨N,M⟩:=HO (O:=O) (V:=V) h.2;exact⟨by simp only[C.ay,ep,n8,R,N],Q,M⟩
def aph{W:aI}{X:aX}(h:me W X=J):ee W X:=by
 induction W generalizing X with
 |nil=>cases X with
  |nil=>trivial
  |cons=>simp[me] at h
 |cons k W V=>cases X with
  |nil=>simp[me] at h
  |cons x X=>
   simp only[me,aw] at h;refine⟨?_,V h.2⟩;cases k<;>cases x<;>first|trivial|simp[We] at h
def PL:∀{X:aI}{W V:aX},ee X V->yM W V->ee X W
 |[],[],[],_,_=>trivial
 |[],_::_,[],_,h=>h.elim
 |[],_,_::_,h,_=>h.elim
 |_::_,_,[],h,_=>h.elim
 |_::_,[],_::_,_,h=>h.elim
 |k::X,x::W,y::V,h,R=>by
  refine⟨?_,PL h.2 R.2⟩;have Q:=h.1;have O:=R.1;cases k<;>cases x<;>cases y<;>simp_all[pW,HJ]
def Li{O X:ai}(h:j7 O X):∀l:am,yM (l.map (C.xv O)) (l.map (C.xv X))
 |[]=>trivial
 |v::l=>⟨C.ao3 h v,Li h l⟩
def Lj{V:ap}:∀{R:aI}{l:am}{X:aX}{O:ai}{a b c:Nat},p8 a b c R l=J->ee R X->Y O.i=a->Y O.b=b->Y O.r=c->C.ay (O.ext X) V l=n8 R X
 |[],[],[],O,a,b,c,_,_,_,_,_=>rfl
 |[],[],_::_,O,a,b,c,_,h,_,_,_=>h.elim
 |[],_::_,X,O,a,b,c,h,_,_,_,_=>by simp[p8] at h
 |k::R,[],X,O,a,b,c,h,_,_,_,_=>by cases k<;>simp[p8] at h
 |_::_,_::_,[],O,a,b,c,_,h,_,_,_=>h.elim
 |k::R,v::l,x::X,O,a,b,c,h,B,Q,N,M=>by
  have H:=B4 X (O.add x);obtain⟨F,D⟩:=B;simp only[C.ay,ai.ext,n8];unfold p8 at h;split at h;rename_i W;cases W;rename_i W L;cases W;cases L;cases x<;>simp[pW] at F;simp only[aw,bZ,di] at h;obtain⟨⟨rfl,rfl⟩,h⟩:=h;rw[Lj h D (by simp[ai.add,Q]) (by simp[ai.add,N]) (by simp[ai.add,M])];simp only[C.ab,K.ab,XV.at];rw[H.i _ (by simp[ai.add,Q])];simp[ai.add,<-Q];rename_i W L;cases W;cases L;cases x<;>simp[pW] at F;simp only[aw,di] at h;obtain⟨rfl,h⟩:=h;rw[Lj h D (by simp[ai.add,Q]) (by simp[ai.add,N]) (by simp[ai.add,M])];simp only[C.ab,BE.ab,XV.at];rw[H.b _ (by simp[ai.add,N])];simp[ai.add,<-N];rename_i W L;cases W;cases L;cases x<;>simp[pW] at F;simp only[aw,di] at h;obtain⟨rfl,h⟩:=h;rw[Lj h D (by simp[ai.add,Q]) (by simp[ai.add,N]) (by simp[ai.add,M])];simp only[C.ab,RE.ab,RE.rv,XV.at];rw[H.r _ (by simp[ai.add,M])];simp[ai.add,ai.rv,<-M];cases h
def api{u:Ty}{s:S}{r:RE}{e:RK}(M:e≠ .ac)(h:r.kind u s=e)(W:dL u e (r.rv y) N):y.oE u s.rs N:=by
 obtain⟨V,R,H,Q,X⟩:=OI M h W;rcases X with⟨rfl,X⟩|⟨t,X,L⟩;exact⟨V,R,Q,OH (by rw[X];exact W)⟩;exact⟨V,R,Q,G3 X L⟩
def ae0{u:Ty}{e:RK}{X:RV}(h:dL u e X N):dL u e.rd X N:=by
 cases h with
 |own e X N h=>exact h
 |here e a V R W=>exact dL.here e a V R W
 |deep e v W i j Q c z k N O M L H=>exact dL.deep e v W i j Q c z k N O M L H
def wN(u:Ty)(W:aI)(V:aX)(b:Nat):Prop:=∃(q:Nat)(e:RK)(X:RV),W[q]?=U (.ah e)/\V[q]?=U (.r X)/\dL u e X b
def ae1{u:Ty}{R:aY}:∀{W:aI}{l:am},jN u R W l=J->∀(q:Nat)(k:LK)(v:C),W[q]?=U k->l[q]?=U v->Co u R k v=J
 |[],_,_,q,k,v,X,_=>by simp at X
 |_::_,[],h,q,k,v,_,_=>by simp[jN] at h
 |Q::W,O::l,h,0,k,v,X,V=>by simp only[jN,aw] at h;simp at X V;subst X V;exact h.1
 |Q::W,O::l,h,q+1,k,v,X,V=>by simp only[jN,aw] at h;exact ae1 h.2 q k v (by simpa using X) (by simpa using V)
def ae2{u:Ty}{R:aI}(h:jN u g R l=J){e:RK}{Q:RV}(L:R[N]?=U (.ah e))(X:(l.map (C.xv y))[N]?=U (.r Q)):
  ∃r:RE,((∃M,e=.mr M/\r.nq u ⟨[],[],0,0,g,0,0,[]⟩ M=J)\/r.fits u ⟨[],[],0,0,g,0,0,[]⟩ e.rd=J)/\Q=r.rv y:=by
 rw[dM] at X;cases V:l[N]? with
 |none=>rw[V] at X;cases X
 |some v=>
  rw[V] at X;have:=ae1 h N _ v L V;unfold Co at this;split at this;rename_i W;cases W;rename_i W;cases W;rename_i W;cases W;simp only[dQ,cg,C.xv,XV.r.injEq] at X;refine⟨_, ?_,X.symm⟩;split at this;exact .inl ⟨_,rfl,this⟩;exact .inr this;cases this
def Lk{u:Ty}{W:aI}(h:jN u g W l=J)(Q:wN u W (l.map (C.xv y)) N):y.oE u g N:=by
 obtain⟨q,e,D,M,L,V⟩:=Q;obtain⟨r,X,rfl⟩:=ae2 h M L;rcases X with⟨B,rfl,-⟩|X;cases V;have R:=ae0 V;obtain⟨H,F⟩:=UH (O:=y) X R;exact api (s:=⟨[],[],0,0,g,0,0,[]⟩) F H R
def wO(u:Ty)(W:World)(V:aI)(R:aX):Prop:=∀(q:Nat)(e:RK)(X:RV),V[q]?=U (.ah e)->R[q]?=U (.r X)->bu W u e X
def ae3{u:Ty}{W:World}{B:Nat}{old:Nat->Prop}:∀{V:aI}{X:aX},wO u W V X->(∀b,wN u V X b->B<=b\/old b)->GI u W B old V X
 |[],X,_,_=>by cases X<;>trivial
 |_::_,[],_,_=>trivial
 |k::V,x::X,h,N=>by
  refine⟨?_,ae3 (λq e R Q O=>h (q+1) e R (by simpa using Q) (by simpa using O)) (λb ⟨q,e,R,Q,O,M⟩=>N b ⟨q+1,e,R,by simpa using Q,by simpa using O,M⟩)⟩;cases k<;>cases x<;>try trivial
  exact⟨h 0 _ _ rfl rfl,λb L=>N b ⟨0,_,_,rfl,rfl,L⟩⟩
def PM(D W:World):dR D bI.none [] [] [] W:=⟨rfl,rfl,λn l r X h=>by simp[bI.none] at h,λn V l r R h=>by simp[bI.none] at h,[],rfl,λ_=>rfl,by simp[bI.none],λd h=>by simp[bI.none] at h⟩
def i8.PN{V:ap}{M:bn}{u:Ty}{W:World}(R:i8 x e V y M u g W)(L:Y y.r=Y g)(H:∀(k:Nat)(t:TypeId),g[k]?≠U (.own t)):ax x e bI.none u [] (y.at []) ⟨[],[],Y y.i,Y y.b,g,0,0,[]⟩ ⟨#[],[]⟩ W:=
 ⟨⟨R.base,λi h=>by simp[aF,cj] at h,λi j h=>by simp[aF,cj] at h,λi t A h=>by simp[cj] at h,λk X N Q F=>⟨(R.ah k X N Q F).1,λb z i B=>by simp[aF,cj] at B⟩⟩,rfl,rfl,rfl,L,PM _ _,rfl,λt w h=>by simp at h,λk X N b Q=>bp Q (H k X)⟩
def PO:∀{l W:aY},AL l W=J->oG l W/\∀(k:Nat)(t:TypeId),W[k]?≠U (.own t)
 |[],[],_=>⟨oG.refl _,λk t h=>by simp at h⟩
 |[],_::_,h=>by simp[AL] at h
 |_::_,[],h=>by simp[AL] at h
 |x::N,y::M,h=>by
  simp only[AL,aw] at h;obtain⟨V,Q⟩:=PO h.2;have R:px x y/\∀t,y≠ .own t:=by
   have L:=h.1;cases x<;>cases y<;>simp_all[PD,px]
  refine⟨⟨by simp[V.len],λk O X=> ?_⟩,λk t X=> ?_⟩;cases k with
  |zero=>simp at X;subst X;exact⟨x,rfl,R.1⟩
  |succ k=>exact V.get k O (by simpa using X)
  cases k with
  |zero=>simp at X;exact R.2 t X
  |succ k=>exact Q k t (by simpa using X)
def apj{e:RK}(h:D8 (.ah e)=J):e.rd=e:=by cases e<;>simp[D8] at h<;>rfl
def Wm{u:Ty}{X:aY}(h:oG g X)(W:y.oE u X N):y.oE u g N:=by
 obtain⟨k,e,V,R⟩:=W;obtain⟨Q,M,L⟩:=h.get k e V;exact⟨k,Q,M,R.lx L⟩
def ae4:∀{l W:aY},AM l W=J->oG l W
 |[],[],_=>oG.refl _
 |[],_::_,h=>by simp[AM] at h
 |_::_,[],h=>by simp[AM] at h
 |x::O,y::N,h=>by
  simp only[AM,aw] at h;have V:=ae4 h.2;have R:px x y:=by
   have M:=h.1;cases x<;>cases y<;>simp_all[PD,aeK,px]
  refine⟨by simp[V.len],λk Q X=> ?_⟩;cases k with
  |zero=>simp at X;subst X;exact⟨x,rfl,R⟩
  |succ k=>exact V.get k Q (by simpa using X)
def ae5{V:ap}{B:bn}{u:Ty}{W:World}(R:i8 x e V y B u g W)(M:Y y.r=Y g)(L:∀(k:Nat)(t:TypeId),g[k]?≠U (.own t)){N:aI}(h:jN u g N l=J)(A:oB N=J):wO u W N (l.map (C.xv y)):=by
 intro q X w H z;obtain⟨r,Q,rfl⟩:=ae2 h H z;rcases Q with⟨F,rfl,Q⟩|Q;simp only[RE.nq,iD,bZ] at Q;rcases Q with Q|Q;have:=oF (R.PN M L) (e:=.mr F) (r:=r) au (by
  rw[u6 (s:=⟨[],[],Y y.i,Y y.b,g,0,0,[]⟩) (s':=⟨[],[],0,0,g,0,0,[]⟩) rfl r];exact Q)
 rwa [RE.lA] at this
 unfold RE.nil at Q;split at Q;exact bu.mr F [] au au au au;cases Q;have:=abR (R.PN M L) (k:=X.rd) (r:=r) (by
  unfold RE.fits at Q⊢;rw[u6 (s:=⟨[],[],Y y.i,Y y.b,g,0,0,[]⟩) (s':=⟨[],[],0,0,g,0,0,[]⟩) rfl r];exact Q)
 rwa [apj (O5 A H),RE.lA] at this
def EM(u:Ty)(B:Nat)(old:Nat->Prop)(O:ai)(X:aY):Prop:=∀b,O.oE u X b->B<=b\/old b
def PQ:∀(X:aI)(s:S),(s.b9 X).2.rs=s.rs++iP X
 |[],s=>by simp[S.b9,iP]
 |k::X,s=>by
  simp only[S.b9];rw[PQ X];cases k<;>simp[S.fresh,iP]
def Ll{X:aI}{W:aX}(V:ee X W)(R:Y y.r=Y g):(y.ext W).r.length=(g++iP X).length:=by
 have:=(wF X W ⟨[],[],Y y.i,Y y.b,g,0,0,[]⟩ y V rfl rfl R).2.2
 rwa [PQ] at this
def EM.ext{u:Ty}{B:Nat}{old:Nat->Prop}{O:ai}{V:aY}(h:EM u B old O V){R:aI}{X:aX}(L:ee R X)(H:Y O.r=Y V)(D:∀b,wN u R X b->B<=b\/old b):EM u B old (O.ext X) (V++iP R):=by
 intro b ⟨k,e,F,A⟩;have z:k<(O.ext X).r.length:=by rw[Ll L H];exact(bJ.1 F).1
 have y:(O.ext X).r[k]?=U ((O.ext X).rv k):=by simp[ai.rv,z]
 have:=Ez (PP:=λe W=>∀b,dL u e W b->B<=b\/old b) R X ⟨[],[],Y O.i,Y O.b,V,0,0,[]⟩ O L H
  (λq e W N Q b M=>D b ⟨q,e,W,N,Q,M⟩) (λk e W N Q b M=>h b ⟨k,e,N,by
   have x:k<Y O.r:=(bJ.1 Q).1;have:O.rv k=W:=by simp[ai.rv,Q]
   rw[this];exact M⟩)
 rw[PQ] at this;exact this k e _ F y b A
def Ln(u:Ty)(H:iX)(X:aI)(D:World)(d:aI)(F:aX)(out:aU):Ending->World->Prop
 |.returned v,V=>∃R W,out=.ret R/\yM R W/\ee X W/\v=EL (tR u H (n8 X W))/\Below D.heap.size D V/\wO u V X W/\∀b,wN u X W b->D.heap.size<=b\/wN u d F b
 |.panicked Q,V=>Below D.heap.size D V/\∃v,out=.aW v/\Q=[{v:=v,recovered:=E}]
 |.outgrown,_=>False
def AO(P:Program)(u:Ty)(M Q:FuncId->pQ)(G:World->Prop)(f:FuncId)(F:aX->jC):Prop:=
 ∀R H d X,M f=U R->Q f=U H->gH u R=U d->gH u H=U X->∀(O V:aX)(out:aU),F O=U out->yM O V->ee d V->∀W,G W->wO u W d V->
  Calls P f (tR u R (n8 d V)).toArray W (Ln u H X W d V out)
section
variable{P:Program}{u:Ty}{M Q:FuncId->pQ}{be:md}{G:World->Prop}{D:World}{H:iX}{X d:aI}{F:aX}{out:aU}{old:Nat->Prop}
def HQ(P:Program)(u:Ty)(D:World)(H:iX)(X d:aI)(F:aX)(out:aU):Sp:=⟨P,u,[],D,bI.none,Ln u H X D d F out,λ_ _ _=>False⟩
def Lq(u:Ty)(M Q:FuncId->pQ)(be:md)(H:iX)(out:aU)(X:Fr)(V:List Fr)(R:aX)(n:Nat):Prop:=∃W,yM W R/\run u M Q be H n X.t (X.O.ext W) X.rs (X::V)=U out
def Wn(u:Ty)(M Q:FuncId->pQ)(be:md)(D:World)(H:iX)(old:Nat->Prop)(out:aU)(X:Fr)(V:List Fr)(N:Nat)(W:aX):Prop:=
 (∀b,wN u X.ks W b->D.heap.size<=b\/old b)/\∃n,n<=N/\Lq u M Q be H out X V W n
def Wo(W:World)(V:List PanicEntry)(R:World)(b:Nat)(o:Obj)(O:W.heap.size<=b)(h:Ln u H X W d F out (.panicked V) R):Ln u H X W d F out (.panicked V) (R.putObj b o):=
 ⟨⟨h.1.os,h.1.tape,h.1.output,by have:=h.1.size;simpa[BJ] using this,λk Q=>(rI aa).trans (h.1.block k Q)⟩,h.2⟩
def apk{p:Nat->Prop}:∀{n:Nat},p n->∃m,p m/\m<=n/\∀k,p k->m<=k:=by
 intro n;induction n using JH with
 |ind n V=>
  intro h;by_cases W:∃k,k<n/\p k;obtain⟨k,X,R⟩:=W;obtain⟨m,Q,M,O⟩:=V k X R;exact⟨m,Q,aa,O⟩;exact⟨n,h,bU _,λk X=>by by_cases N:k<n;exact bp ⟨k,N,X⟩ W;omega⟩
open Classical in
noncomputable def HR(p:Nat->Prop):Nat:=if h:∃m,p m/\∀k,p k->m<=k then Classical.choose h else 0
def ae6{p:Nat->Prop}(h:p N):p (HR p)/\HR p<=N:=by
 obtain⟨m,W,R,V⟩:=apk h;have X:∃m,p m/\∀k,p k->m<=k:=⟨m,W,V⟩;unfold HR;rw[dif_pos X];exact⟨(Classical.choose_spec X).1,(Classical.choose_spec X).2 N h⟩
inductive tS(u:Ty)(M Q:FuncId->Option (List TypeId))(be:md)(D:World)(H:List TypeId)(old:Nat->Prop)(out:aU):Nat->List Fr->List LC->Prop where
 |nil (n:Nat):tS u M Q be D H old out n [] []
 |cons (n N m:Nat) (fr:Fr) (st:List Fr) (L:List LC):n<=m->m<=N->tS u M Q be D H old out n st L->
   tS u M Q be D H old out n (fr::st) (⟨fr.av,Wn u M Q be D H old out fr st N,λxs=>HR (Lq u M Q be H out fr st xs),m⟩::L)
def tS.mono{V:Nat}{W:List Fr}{L:cX}(h:tS u M Q be D H old out N W L)(F:V<=N):tS u M Q be D H old out V W L:=by
 induction h with
 |nil=>exact tS.nil _
 |cons X m B W L A R z O=>exact tS.cons _ _ _ _ _ _ aa R O
def tS.find{av:Nat}{R O:List Fr}{L:cX}{V:Fr}(h:tS u M Q be D H old out N R L)(W:EK av R=U (V,O)):
  ∃X m,N<=m/\m<=X/\mY av L=U ⟨V.av,Wn u M Q be D H old out V O X,λB=>HR (Lq u M Q be H out V O B),m⟩:=by
 induction h with
 |nil=>simp[EK] at W
 |cons X m r R L A z q y=>
  simp only[EK] at W;split at W;rename_i F;cases W;exact⟨X,m,A,z,by simp[mY,F]⟩;rename_i F;obtain⟨x,w,v,t,s⟩:=y W;exact⟨x,w,v,t,by simp only[mY,F,fH];exact s⟩
def apl(bl:∀f,AO P u M Q G f (be f))(hG:∀W W',Below W.heap.size W W'->G W->G W')(br:G D)(bs:gH u H=U X)(bt:∀ys b,wN u X ys b->old b->wN u d F b):
  ∀(n:Nat)(t:T)(a O:ai)(B:aY)(st:List Fr)(L:cX),run u M Q be H n t a B st=U out->j7 a O->Y O.r=Y B->EM u D.heap.size old O B->tS u M Q be D H old out n st L->
   t.aG (HQ P u D H X d F out) O L:=by
 intro n;induction n using JH with
 |ind n IH=>
  intro t a O B st L h R w q hC;cases n with
  |zero=>simp[run] at h
  |succ n=>
   cases t with
   |out e s=>simp[run] at h
   |stuck m=>simp[run] at h
   |ret v bx a0=>
    simp only[run] at h;split at h;rename_i he;obtain⟨hw,a9⟩:=PO he;unfold Wf at h;split at h;rename_i l ks hl hk;rw[bs] at hk;cases hk;split at h;rename_i af;cases h;simp only[aw] at af;obtain⟨af,b0⟩:=af;intro y V W hR;have R:j7 a (O.at y):=⟨R.i,R.b,R.len,R.r⟩;have w:(O.at y).r.length=Y B:=w;have q:EM u D.heap.size old (O.at y) B:=q;generalize O.at y=O at R w q hR⊢;obtain⟨h1,h2⟩:=HO (O:=O) (V:=V) af;refine⟨_,l.map (C.xv O),rfl,Li R l,h2,by rw[aeZ hl,h1],Lh hR.base,ae5 hR (w.trans hw.len.symm) a9 af b0,λb p=>(q b (Wm hw (Lk af p))).imp id (bt _ b p)⟩;cases h;cases h;cases h
   |aW v=>
    simp only[run,ND] at h;obtain⟨pv,hv,rfl⟩:=h;intro y V W hO;have R:j7 a (O.at y):=⟨R.i,R.b,R.len,R.r⟩;refine⟨Lh hO,pv,rfl, ?_⟩;unfold EJ at hv;split at hv;cases hv;simp only[C.ab,K.dm R];cases hv
   |aS b t f=>
    simp only[run] at h;rw[BE.dm R] at h;refine⟨λp=> ?_,λp=> ?_⟩;rw[aE p] at h;exact IH n aa t a O B st L h R w q (hC.mono aa);rw[aJ (by simp[p])] at h;exact IH n aa f a O B st L h R w q (hC.mono aa)
   |aN b t=>
    simp only[run] at h;rw[BE.dm R] at h;split at h;rename_i p;exact⟨p,IH n aa t a O B st L h R w q (hC.mono aa)⟩;cases h
   |call f ct bx a0 ks iE t=>
    simp only[run] at h;split at h;rename_i he;obtain⟨hw,a9⟩:=PO he;split at h;rename_i cv hx;unfold Wg at hx;split at hx;rename_i ps b1 b2 b3;split at hx;rename_i l b4 b5 r hl b6 b7 b8;split at hx;rename_i hc;simp only[aw,bZ] at hc;obtain⟨⟨⟨c1,cp⟩,rfl⟩,c3⟩:=hc;cases hx;intro y V W hR;have a3:j7 a (O.at y):=⟨R.i,R.b,R.len,R.r⟩;have cx:EM u D.heap.size old (O.at y) B:=q;obtain⟨a1,a2⟩:=HO (O:=O.at y) (V:=V) c1;have hB:=Lh hR.base;have ca:=ae5 hR (w.trans hw.len.symm) a9 c1 cp;rw[PK hl,a1];cases ho:be f (l.map (C.xv a)) with
    |none=>rw[ho] at h;cases h
    |some o=>
     rw[ho] at h;refine(bl f ps b1 b4 b5 b2 b3 b6 b7 _ _ o ho (Li a3 l) a2 W (hG _ _ hB br) ca).mono ?_;intro e W' hE;cases e with
     |outgrown=>exact hE.elim
     |panicked ch=>
      obtain⟨e1,pv,rfl,rfl⟩:=hE;simp only[cg] at h;subst h;exact⟨e1,apf hB e1,pv,rfl,rfl⟩
     |returned v=>
      obtain⟨yh,ys,rfl,e2,e3,rfl,e5,e6,e7⟩:=hE;rw[show C.xv (O.at y)=C.xv O from funext (C.VI O y)] at e7;simp only at h;split at h;rename_i cy;refine⟨ys,e3, ?_,e5,ae3 e6 (λb p=>(e7 b p).imp id (λcc=>Lk c1 cc)), ?_⟩;rw[<-K2,aeZ b8,Lj c3 e3 (by rw[a3.i]) (by rw[a3.b]) (by rw[a3.len])];refine IH n aa t _ _ _ st L h (R.ext e2) (Ll e3 w) (q.ext e3 w (λb p=> ?_)) (hC.mono aa);rcases e7 b p with h1|h1;exact .inl (pP hB.size h1);exact q b (Wm hw (Lk c1 h1));cases h
    cases hx;cases hx;cases hx;cases h;cases h
   |loop av ks x0 t=>
    simp only[run] at h;split at h;rename_i af;have cA:=(HO (O:=O) (V:=[]) af).2;refine⟨Wn u M Q be D H old out ⟨av,ks,t,a,B++iP ks⟩ st n,λxs=>HR (Lq u M Q be H out ⟨av,ks,t,a,B++iP ks⟩ st xs),⟨λb p=>q b (Lk af p),n,bU _,x0.map (C.xv a),Li R x0,h⟩, ?_⟩;intro xs hf ⟨i1,n1,i2,i3⟩;obtain⟨⟨xh,j1,j2⟩,j3⟩:=ae6 i3;refine IH _ aa t _ _ _ _ _ j2 (R.ext j1) (Ll hf w) (q.ext hf w i1) ?_;exact tS.cons _ _ _ _ _ _ (bU _) (pP j3 i2) (hC.mono aa);cases h
   |back av x=>
    simp only[run] at h;split at h;rename_i fr cf cl;split at h;rename_i af;obtain⟨N,m,g1,g2,g3⟩:=hC.find cl;simp only[T.aG,g3];have bb:Lq u M Q be H out fr cf (x.map (C.xv O)) n:=⟨x.map (C.xv a),Li R x,h⟩;refine⟨⟨λb p=>q b (Lk af p),n,aa,bb⟩, ?_⟩;have:=(ae6 bb).2;omega;cases h;cases h
   |new e x a0 cB t=>
    simp only[run] at h;split at h;rename_i he;have hw:=ae4 he;intro rv bc;obtain⟨A,m,c,rfl,hm⟩:=bc.val;subst hm;refine IH n aa t _ _ _ st L h (R.add (aeJ R x)) (by simp[ai.add,w]) ?_ (hC.mono aa);intro b ⟨k,e',hk,hl⟩;by_cases ag:k<Y B;rw[dF ag] at hk;refine q b ⟨k,e',hk, ?_⟩;have:(O.add (.r (.mk (.slice A (x.ae O).length c) (x.ae O)))).rv k=O.rv k:=by simp[ai.rv,ai.add,dF,w,ag]
    rw[<-this];exact hl;have an:k=Y B:=by
     have:=(bJ.1 hk).1;simp at this;omega
    subst an;simp at hk;subst hk;have e1:(O.add (.r (.mk (.slice A (x.ae O).length c) (x.ae O)))).rv (Y B)=.mk (.slice A (x.ae O).length c) (x.ae O):=by rw[<-w];simp[ai.rv,ai.add]
    rw[e1] at hl;have cn:=ae0 hl;rcases bc.oE b cn with g|g|g;exact .inl g;cases g;exact q b (Wm hw g);cases h
   |ae k x a0 t=>
    simp only[run] at h;split at h;rename_i he;refine IH n aa t _ _ _ st L h (R.add (aeJ R x)) (by simp[ai.add,w]) ?_ (hC.mono aa);intro b ⟨k',e',hk,hl⟩;by_cases ag:k'<Y B;rw[dF ag] at hk;refine q b ⟨k',e',hk, ?_⟩;have:(O.add (.r (gI x O))).rv k'=O.rv k':=by simp[ai.rv,ai.add,dF,w,ag]
    rw[<-this];exact hl;have an:k'=Y B:=by
     have:=(bJ.1 hk).1;simp at this;omega
    subst an;simp at hk;subst hk;cases k<;>simp[Wi] at he;cases hl;cases h
   |fU g h' t f=>
    simp only[run] at h;rw[BE.dm R,BE.dm R] at h;refine⟨λp=> ?_,λp=> ?_⟩;rw[aE p] at h;split at h;exact IH n aa t a O B st L (PI h).1 R w q (hC.mono aa);exact IH n aa t a O B st L h R w q (hC.mono aa);simp only[p,cH] at h;split at h;exact IH n aa f a O B st L (PI h).2 R w q (hC.mono aa);exact IH n aa f a O B st L h R w q (hC.mono aa)
   |pick m g h' t f=>
    simp only[run] at h;refine⟨λj h1 h2 h3=> ?_,λp=> ?_⟩;have bd:j7 (a.add (.i j)) (O.add (.i j)):=R.add (x:=.i j) (y:=.i j) rfl;have hj:=PJ h _ (gL.2 ⟨U j,apd (g:=g) (h:=h') h1 (by rw[K.dm R];exact h2) (by rw[BE.dm bd];exact h3),rfl⟩);exact IH n aa t _ _ B st L hj bd w q (hC.mono aa);have hj:=PJ h _ (gL.2 ⟨Z,ape (m:=m) (g:=g) (h:=h') (by rw[BE.dm R];exact p),rfl⟩);exact IH n aa f _ _ B st L hj R w q (hC.mono aa)
   |dK f g e sp sb r a0 t=>
    simp only[run] at h;split at h;rename_i he;simp only[aw] at he;obtain⟨he,a4⟩:=he;have bf:=RE.dm R r;split at h;rename_i co bg;obtain⟨al,ba,cC⟩:=aeQ R bf.HL bg;refine⟨al,abc ba, ?_⟩;have bk:=Va (abc ba);have cs:dj (.mk (r.rv a).val co) (.mk (r.rv O).val al):=bf.dK R bg ba;refine IH n aa t _ _ _ st L h (R.add cs) (by simp[ai.add,w]) ?_ (hC.mono aa);intro b ⟨k,e',hk,hl⟩;by_cases ag:k<Y B;rw[dF ag] at hk;refine q b ⟨k,e',hk, ?_⟩;have:(O.add (.r (.mk (r.rv O).val al))).rv k=O.rv k:=by simp[ai.rv,ai.add,dF,w,ag]
    rw[<-this];exact hl;have an:k=Y B:=by
     have:=(bJ.1 hk).1;simp at this;omega
    subst an;simp at hk;subst hk;have e1:(O.add (.r (.mk (r.rv O).val al))).rv (Y B)=.mk (r.rv O).val al:=by rw[<-w];simp[ai.rv,ai.add]
    rw[e1] at hl;unfold Wh at a4;split at a4;rename_i k;exact q b ⟨k,_,uJ a4,ao8 hl bk⟩;cases hl with
    |own e rv b hl=>
     have h0:al=[]:=by
      cases al with
      |nil=>rfl
      |cons x xs=>have:=bk x au;simp[RE.rv] at this
     subst h0;simp only[RE.rv] at hl;cases hl with
     |deep e v al i j cD c z k b h1 h2 h3 h4=>simp at h1
    cases a4;cases h;cases h
def sn:aI->Bool
 |[]=>J
 |.ah (.sl _)::_=>E
 |.ah (.own _)::_=>E
 |_::X=>sn X
def ae7:∀{ks:aI}{xs:aX}{b:Nat},sn ks=J->¬wN u ks xs b
 |[],xs,b,_,⟨q,e,W,X,_,_⟩=>by simp at X
 |k::ks,xs,b,h,⟨0,e,W,X,V,R⟩=>by
  simp at X;subst X;cases R<;>simp[sn] at h
 |k::ks,[],b,h,⟨q+1,e,W,X,V,R⟩=>by simp at V
 |k::ks,x::xs,b,h,⟨q+1,e,W,X,V,R⟩=>ae7 (ks:=ks) (xs:=xs) (b:=b) (by
   cases k with
   |ah r=>cases r<;>simp[sn] at h⊢<;>exact h
   |int _=>simpa[sn] using h
   |bool=>simpa[sn] using h) ⟨q,e,W,by simpa using X,by simpa using V,R⟩
def fp(X:aC)(W:aX):ai:=(⟨[],[],X,[]⟩:ai).ext W
end
def Lr:C->am
 |.agg l=>l
 |v=>[v]
def oK:am->am
 |[]=>[]
 |v::X=>Lr v++oK X
def yO:C->am
 |.bA l=>oK l
 |v=>Lr v
def apm:C->Bool
 |.fT _ (.int _ _)=>J
 |_=>E
def nI:aI->Nat
 |[]=>0
 |.int _::X=>nI X+1
 |_::X=>nI X
def nB:aI->Nat
 |[]=>0
 |.bool::X=>nB X+1
 |_::X=>nB X
def ae8(c:Ty)(d:iX)(v:C)(W:aY):Bool:=match jo c d (wM (Y d) v),gH c d with
 |U l,U X=>jN c W X l&&oB X
 |_,_=>E
def ae9(c:Ty)(M Q:FuncId->pQ)(f:FuncId)(O:am)(N L:Nat)(W:aY)(V:aI)(iE:C):Bool:=match M f,Q f with
 |U R,U X=>match jo c R O,gH c R,gH c X,jo c X (wM (Y X) iE) with
  |U l,U P,U H,U r=>jN c W P l&&oB P&&decide (H=V)&&p8 N L (Y W) V r
  |_,_,_,_=>E
 |_,_=>E
def Ls(av:Nat):List (Nat×aI)->Option aI
 |[]=>Z
 |x::X=>if x.1=av then U x.2 else Ls av X
def T.gF(c:Ty)(M Q:FuncId->pQ)(d:iX):T->Nat->Nat->aY->List (Nat×aI)->Bool
 |.ret v _ O,_,_,X,_=>AL X O&&ae8 c d v O
 |.aW v,_,_,_,_=>apm v
 |.aS _ t f,V,R,X,W=>t.gF c M Q d V R X W&&f.gF c M Q d V R X W
 |.aN _ t,V,R,X,W=>t.gF c M Q d V R X W
 |.call f N _ O P iE t,V,R,X,W=>AL X O&&ae9 c M Q f N V R O P iE&&t.gF c M Q d (V+nI P) (R+nB P) (X++iP P) W
 |.loop av P L t,V,R,X,W=>jN c X P L&&t.gF c M Q d (V+nI P) (R+nB P) (X++iP P) ((av,P)::W)
 |.back av x,_,_,X,W=>match Ls av W with
  |U P=>jN c X P x
  |none=>E
 |.new e _ O _ t,V,R,X,W=>AM X O&&t.gF c M Q d V R (X++[.own e]) W
 |.ae k _ _ t,V,R,X,W=>Wi k&&t.gF c M Q d V R (X++[k]) W
 |.fU _ _ t f,V,R,X,W=>t.gF c M Q d V R X W&&f.gF c M Q d V R X W
 |.pick _ _ _ t f,V,R,X,W=>t.gF c M Q d (V+1) R X W&&f.gF c M Q d V R X W
 |.dK _ _ e _ _ r O t,V,R,X,W=>AM X O&&Wh X r e&&t.gF c M Q d V R (X++[.own e]) W
 |.stuck _,_,_,_,_=>J
 |.out _ _,_,_,_,_=>E
structure Lp where
 av:Nat
 t:T
 O:ai
abbrev lB:=List Lp
def yP(av:Nat):lB->Option (Lp×lB)
 |[]=>Z
 |x::X=>if x.av=av then U (x,X) else yP av X
def exec(be:md):Nat->T->ai->lB->jC
 |0,_,_,_=>Z
 |_+1,.ret v _ _,O,_=>U (.ret ((yO v).map (C.xv O)))
 |_+1,.aW v,O,_=>(EJ O v).map .aW
 |n+1,.aS b t f,O,X=>if b.ab O then exec be n t O X else exec be n f O X
 |n+1,.aN b t,O,X=>if b.ab O then exec be n t O X else Z
 |n+1,.call f R _ _ Q _ t,O,X=>match be f ((oK R).map (C.xv O)) with
  |U (.ret V)=>if me Q V then exec be n t (O.ext V) X else Z
  |U (.aW v)=>U (.aW v)
  |none=>Z
 |n+1,.loop av _ P t,O,X=>exec be n t (O.ext (P.map (C.xv O))) (⟨av,t,O⟩::X)
 |n+1,.back av x,O,X=>match yP av X with
  |U (W,N)=>exec be n W.t (W.O.ext (x.map (C.xv O))) (W::N)
  |none=>Z
 |n+1,.new _ x _ _ t,O,X=>exec be n t (O.add (.r (gI x O))) X
 |n+1,.ae _ x _ t,O,X=>exec be n t (O.add (.r (gI x O))) X
 |n+1,.fU g h t f,O,X=>if g.ab O then(if h.ab O then yN (exec be n t O X) (exec be n f O X) else exec be n t O X) else(if h.ab O then exec be n f O X else Z)
 |n+1,.pick m g h t f,O,X=>sj ((vc m g h O).map λj=>match j with
  |U j=>exec be n t (O.add (.i j)) X
  |none=>exec be n f O X)
 |n+1,.dK _ _ _ M L r _ t,O,X=>match mH O M L (r.rv O).ae with
  |U H=>exec be n t (O.add (.r (.mk (r.rv O).val H))) X
  |none=>Z
 |_,_,_,_=>Z
def apn{c:Ty}{k:LK}{v:C}(h:Co c g k v=J):Lr v=[v]:=by
 unfold Co at h;split at h<;>first|rfl|cases h
def Lt{c:Ty}{P:aY}:∀{d:iX}{M l:am}{X:aI},jo c d M=U l->gH c d=U X->jN c P X l=J->oK M=l
 |[],[],l,X,h,_,_=>by simp[jo] at h;simp[oK,h]
 |[],_::_,l,X,h,_,_=>by simp[jo] at h
 |_::_,[],l,X,h,_,_=>by simp[jo] at h
 |t::d,v::M,l,X,h,O,L=>by
  simp only[jo] at h;split at h;rename_i w r B H;simp only[gH,B] at O;split at O;rename_i u G A F;cases A;cases O;have D:∀(a:aI)(b:am),Y a=Y b->jN c P (a++G) (b++r)=J->jN c P a b=J/\jN c P G r=true:=by
   intro a;induction a with
   |nil=>intro b N R;cases b with
    |nil=>exact⟨rfl,R⟩
    |cons=>simp at N
   |cons k a z=>intro b N R;cases b with
    |nil=>simp at N
    |cons x b=>
     simp only[gA,jN,aw] at R⊢;obtain⟨W,Q⟩:=z b (by simpa using N) R.2;exact⟨⟨R.1,W⟩,Q⟩
  split at h;split at h;rename_i s;split at h;rename_i V;simp only[di] at V;cases h;obtain⟨W,Q⟩:=D _ _ (by simp[V]) L;simp only[oK,Lr,Lt H F Q];cases h;cases h;split at h;rename_i V;simp only[di] at V;cases h;obtain⟨W,Q⟩:=D _ [v] (by simp[V]) L;obtain⟨q,y⟩:=nj.1 V;rw[y] at W;simp only[ep,xU,jN,JL] at W;simp only[oK,apn W,Lt H F Q,gA,gU];cases h;cases O;cases h
def apo{c:Ty}{d:iX}{v:C}{R:aI}(h:jo c d (wM (Y d) v)=U l)(W:gH c d=U R)(X:jN c g R l=J):yO v=l:=by
 rw[<-Lt h W X];cases v
 case bA H=>
  simp only[wM,yO];split;rename_i V;simp only[di] at V;exfalso;have P:=Lt h W X;simp only[wM,V,beq_self_eq_true,cH] at h P;obtain⟨t,O⟩:=nj.1 V;subst O;simp only[jo,gH] at h W;split at h;rename_i G r V N;cases N;split at h;cases h;split at h;rename_i Q;cases h;rw[V] at W;simp only[cg] at W;subst W;simp only[di] at Q;obtain⟨F,M⟩:=nj.1 Q;rw[M] at X;simp only[ep,xU,Gc,jN,JL] at X;unfold Co at X;split at X<;>first|(rename_i L;cases L)|cases X
  cases h;cases h;rfl
 all_goals simp[wM,yO,oK]
section
variable{c:Ty}{M Q:FuncId->pQ}{be:md}{d:iX}
def Cp:∀{X:aI}{W:aX}{O:ai},ee X W->(O.ext W).i.length=Y O.i+nI X/\(O.ext W).b.length=Y O.b+nB X/\(O.ext W).r.length=Y O.r+(iP X).length
 |[],[],O,_=>⟨rfl,rfl,rfl⟩
 |[],_::_,O,h=>h.elim
 |_::_,[],O,h=>h.elim
 |k::X,x::W,O,h=>by
  obtain⟨V,R⟩:=h;obtain⟨Q,P,N⟩:=Cp (O:=O.add x) R;simp only[ai.ext,Q,P,N];cases k<;>cases x<;>simp only[pW] at V<;>simp[ai.add,nI,nB,iP]<;>omega
inductive yQ(c:Ty)(M Q:FuncId->Option (List TypeId))(d:List TypeId):List (Nat×List LK)->List Lp->List Fr->Prop where
 |nil:yQ c M Q d [] [] []
 |cons (av:Nat) (ks:List LK) (t:T) (O:ai) (rs:List RK) (lv:List (Nat×List LK)) (sl:List Lp) (st:List Fr):Y O.r=Y rs->t.gF c M Q d (Y O.i+nI ks) (Y O.b+nB ks) (rs++iP ks) ((av,ks)::lv)=J->yQ c M Q d lv sl st->
   yQ c M Q d ((av,ks)::lv) (⟨av,t,O⟩::sl) (⟨av,ks,t,O,rs++iP ks⟩::st)
def yQ.find{L:List (Nat×aI)}{G F:lB}{H:List Fr}{W:aI}{X:Lp}(h:yQ c M Q d L G H)(V:Ls N L=U W)(R:yP N G=U (X,F)):
  ∃P D B,EK N H=U (⟨X.av,W,X.t,X.O,P++iP W⟩,B)/\Y X.O.r=Y P/\X.t.gF c M Q d (Y X.O.i+nI W) (Y X.O.b+nB W) (P++iP W) ((X.av,W)::D)=J/\yQ c M Q d D F B:=by
 induction h with
 |nil=>simp[Ls] at V
 |cons z u t O P L G H y x w v=>
  simp only[Ls,yP,EK] at V R⊢;by_cases A:z=N;rw[aE A] at V R⊢;cases V;cases R;exact⟨P,L,H,rfl,y,x,w⟩;rw[aJ A] at V R⊢;exact v V R
def sq:∀(n:Nat)(t:T)(O:ai)(N:aY)(W:List (Nat×aI))(R:lB)(P:List Fr)(o:aU),exec be n t O R=U o->t.gF c M Q d (Y O.i) (Y O.b) N W=J->Y O.r=Y N->yQ c M Q d W R P->
  run c M Q be d n t O N P=U o
 |0,t,O,N,W,R,P,o,h,_,_,_=>by simp[exec] at h
 |n+1,.out _ _,O,N,W,R,P,o,h,_,_,_=>by simp[exec] at h
 |n+1,.stuck _,O,N,W,R,P,o,h,_,_,_=>by simp[exec] at h
 |n+1,.ret v bx F,O,N,W,R,P,o,h,X,L,H=>by
  simp only[exec,cg] at h;simp only[T.gF,aw] at X;obtain⟨u,X⟩:=X;simp only[run,u,cH,Wf];unfold ae8 at X;split at X
  ·rename_i l D s p
   try rw[s,p]
   simp only[X,cH];simp only[aw] at X;rw[<-apo s p X.1,h]
  cases X
 |n+1,.aW v,O,N,W,R,P,o,h,X,L,H=>by simpa only[exec,run] using h
 |n+1,.aS b t f,O,N,W,R,P,o,h,X,L,H=>by
  simp only[exec] at h;simp only[T.gF,aw] at X;simp only[run];split at h;rename_i B;rw[aE B];exact sq n t O N W R P o h X.1 L H;rename_i B;rw[aJ B];exact sq n f O N W R P o h X.2 L H
 |n+1,.aN b t,O,N,W,R,P,o,h,X,L,H=>by
  simp only[exec] at h;simp only[T.gF] at X;simp only[run];split at h;rename_i B;rw[aE B];exact sq n t O N W R P o h X L H;cases h
 |n+1,.call f a3 bx F D iE t,O,N,W,R,P,o,h,X,L,H=>by
  simp only[exec] at h;simp only[T.gF,aw] at X;obtain⟨⟨u,G⟩,ag⟩:=X;have al:=(PO u).1.len;simp only[run,u,cH,Wg];unfold ae9 at G;split at G
  ·rename_i ps qs s p
   try rw[s,p]
   try simp only
   split at G
   ·rename_i l pk qk r g1 g2 g3 g4
    try rw[g1,g2,g3,g4]
    try simp only
    rw[al,<-L] at G;rw[aE G];simp only[aw] at G;rw[Lt g1 g2 G.1.1.1] at h
    try simp only
    split at h
    ·rename_i ys ho
     try rw[ho]
     try simp only
     split at h;rename_i af;rw[aE af];obtain⟨A,z,y⟩:=Cp (O:=O) (aph af);exact sq n t _ _ W R P o h (by rw[A,z];exact ag) (by rw[y,fQ,L]) H;cases h
    ·rename_i v ho;(try rw[ho]);exact h
    cases h
   cases G
  cases G
 |n+1,.loop av D x0 t,O,N,W,R,P,o,h,X,L,H=>by
  simp only[exec] at h;simp only[T.gF,aw] at X;simp only[run,X.1,cH];obtain⟨A,z,y⟩:=Cp (O:=O) (HO (O:=O) (V:=[]) X.1).2;exact sq n t _ _ ((av,D)::W) _ _ o h (by rw[A,z];exact X.2) (by rw[y,fQ,L]) (yQ.cons _ _ _ _ _ _ _ _ L X.2 H)
 |n+1,.back av x,O,N,W,R,P,o,h,X,L,H=>by
  simp only[exec] at h;simp only[T.gF] at X;split at h;rename_i a an hf;split at X;rename_i D hk;obtain⟨F,a0,a4,q1,q2,q3,q4⟩:=H.find hk hf;simp only[run,q1,X,cH];obtain⟨A,z,y⟩:=Cp (O:=a.O) (HO (O:=O) (V:=[]) X).2;exact sq n a.t _ _ ((a.av,D)::a0) (a::an) _ o h (by rw[A,z];exact q3) (by rw[y,fQ,q2]) (yQ.cons _ _ _ _ _ _ _ _ q2 q3 q4);cases X;cases h
 |n+1,.new e x F a9 t,O,N,W,R,P,o,h,X,L,H=>by
  simp only[exec] at h;simp only[T.gF,aw] at X;simp only[run,X.1,cH];exact sq n t _ _ W R P o h (by simpa[ai.add] using X.2) (by simp[ai.add,L]) H
 |n+1,.ae k x F t,O,N,W,R,P,o,h,X,L,H=>by
  simp only[exec] at h;simp only[T.gF,aw] at X;simp only[run,X.1,cH];exact sq n t _ _ W R P o h (by simpa[ai.add] using X.2) (by simp[ai.add,L]) H
 |n+1,.fU g h' t f,O,N,W,R,P,o,h,X,L,H=>by
  simp only[exec] at h;simp only[T.gF,aw] at X;simp only[run];have i1:=λq=>sq n t O N W R P o q X.1 L H
  have i2:=λq=>sq n f O N W R P o q X.2 L H
  split at h;rename_i hg;rw[aE hg];split at h;rename_i w;rw[aE w];exact aeW h i1 i2;rename_i w;rw[aJ w];exact i1 h;rename_i hg;rw[aJ hg];split at h;rename_i w;rw[aE w];exact i2 h;cases h
 |n+1,.pick m g h' t f,O,N,W,R,P,o,h,X,L,H=>by
  simp only[exec] at h;simp only[T.gF,aw] at X;simp only[run];refine aeX h λj _ q=> ?_
  cases j with
  |some j=>exact sq n t (O.add (.i j)) N W R P o q (by simpa[ai.add] using X.1) (by simpa[ai.add] using L) H
  |none=>exact sq n f O N W R P o q X.2 L H
 |n+1,.dK f g e sp sb r F t,O,N,W,R,P,o,h,X,L,H=>by
  simp only[exec] at h;simp only[T.gF,aw] at X;simp only[run,X.1.1,X.1.2,xT,cH];split at h
  ·rename_i ba a1
   try rw[a1]
   exact sq n t _ _ W R P o h (by simpa[ai.add] using X.2) (by simp[ai.add,L]) H
  cases h
def tT(be:md)(t:T)(O:ai)(X:lB)(o:aU):Prop:=∃n,exec be n t O X=U o
def HS{be:md}{X:lB}{o:aU}:tT be b y X o<->∃n,exec be (n+1) b y X=U o:=
 ⟨λ⟨n,h⟩=>by
  cases n with
  |zero=>simp[exec] at h
  |succ n=>exact⟨n,h⟩,λ⟨n,h⟩=>⟨n+1,h⟩⟩
@[simp] def axD {v:C} {X:bn} {W:lB} {o:aU}:tT be (.ret v X g) y W o<->o=.ret ((yO v).map (C.xv y)):=by
 rw[HS];simp only[exec,cg];exact⟨λ⟨_,h⟩=>h.symm,λh=>⟨0,h.symm⟩⟩
@[simp] def axE {v:C} {X:lB} {o:aU}:tT be (.aW v) y X o<->(EJ y v).map .aW=U o:=by
 rw[HS];simp only[exec];exact⟨λ⟨_,h⟩=>h,λh=>⟨0,h⟩⟩
@[simp] def axF {X:BE} {f:T} {W:lB} {o:aU}:tT be (.aS X b f) y W o<->if X.ab y=J then tT be b y W o else tT be f y W o:=by
 rw[HS];simp only[exec];split<;>rfl
@[simp] def axG {X:BE} {W:lB} {o:aU}:tT be (.aN X b) y W o<->X.ab y=J/\tT be b y W o:=by
 rw[HS];simp only[exec];by_cases V:X.ab y=J;simp only[V,cH,true_and];rfl;simp[V]
@[simp] def axH {W:aI} {X:lB} {o:aU}:tT be (.loop N W l b) y X o<->tT be b (y.ext (l.map (C.xv y))) (⟨N,b,y⟩::X) o:=by
 rw[HS];simp only[exec];rfl
@[simp] def axI {x:LE} {W:aY} {X:lB} {o:aU}:tT be (.new h x g W b) y X o<->tT be b (y.add (.r (gI x y))) X o:=by
 rw[HS];simp only[exec];rfl
end
structure vd(P:Program)(g:FuncId)(eT:TypeId):Prop where
 wG:∀args W,(callFunc g args).run P W=.ok (.enter g args) W
 ret:∀(W:World)(b:Nat),CallsDIn Fence.wide 0 P g #[.pointer (U ⟨b,0,Z⟩)] .returning W λen u W'=>(∃v,en=.returned v)/\u=.returning/\W'=W
 aW:∀(W:World)(b:Nat)(k0 k:Int),W.heap[b]?=U (.cells #[.int I k0] eT (0,0))->CallsDIn Fence.wide 0 P g #[.pointer (U ⟨b,0,Z⟩)] (.panicking [{v:=.iface eT (.int I k),recovered:=E}]) W λen u W'=>
  (∃v,en=.returned v)/\u=.panicking [{v:=.iface eT (.int I k),recovered:=J}]/\W'=W.putObj b (.cells #[.int I k] eT (0,0))
def apq{c:Code}{d:DI}(h:pm c=U d):∃P O R X W first Q V,c=.seq (.region P d.qU E) (.seq (.region O R E) d.rest)/\R= #[X,W]/\X.op=.makeFunc (.func d.g) first Q/\first= #[]/\Q= #[.tmp d.te]/\X.dst=U d.tf/\X.guard=Z/\W.op=.defer V/\V.callee=.value (.tmp d.tf)/\V.args= #[]/\W.guard=Z/\W.dst=none:=by
 unfold pm at h;split at h;rename_i P qU O R w;unfold aa7 at h;split at h;rename_i X W M;split at h;rename_i g first Q v V L H G F D B
 split at h;rename_i u t A z y x;split at h;rename_i N;simp only[di] at N;subst N;cases h;exact⟨P,O,R,X,W,first,Q,V,rfl,by apply kG;simp[M],L,by apply kG;simp[A],by apply kG;simp[z],H,G,F,y,by apply kG;simp[x],D,B⟩;cases h;cases h;cases h;cases h;cases h
section
variable{p:Sp}{cf:bi}
def apr(w:iB p cf)(a9:∀ch W,¬p.R (.panicked ch) W){f:FuncId}{M:Func}{c:Code}(hf:p.P.funcs[f]?=U M)(hb:M.body=U c){d:DI}(j:pm c=U d){eT:TypeId}(a0:vd p.P d.g eT)
  {n:Nat}{al:am}{s:S}{O:ai}{V:ap}{t:T}
  (ht:Ki cf n f c M.ntmps M.results.toList eT al s=t)(L:t.aG p O [])(hg:et cf.gl O)(R:ax p.S0 p.w0 bI.none cf.ty V O {s with tmps:=[]} ⟨#[],[]⟩ p.w0):
  Calls p.P f (C.ay O V al).toArray p.w0 p.R:=by
 subst ht;unfold Ki at L;rw[j] at L;simp only at L;obtain⟨i0,i1,cI,r,q,first,cO,dc,hc,ho,g1,g2,g3,g4,g5,g6,g7,g8,g9,b3⟩:=apq j;subst ho g2 g3;refine Hz hf hb ?_;rw[hc];obtain⟨D1,a3⟩:∃D1:bI,D1=⟨[],[],J,[]⟩:=⟨_,rfl⟩;have b4:dR p.w0 D1 s.pd O.y [] p.w0:=by
  subst a3;have h:=R.cQ;exact⟨h.len,h.oD,h.cV,h.inj,[],rfl,λ_=>rfl,au,λd j=>by simp at j⟩
 have RE:=R.enter al M.ntmps b4;obtain⟨Rr,ba⟩:=RE.room (kL d.qU.toList);refine ED (sf (n:=0) (wpIn_region ?_));have hY:=Ck (p:=p) (cf:=cf) D1.cV ⟨{s with tmps:=al++ew (M.ntmps-Y al) (.bA [])},O,V,[]⟩;have bb:=wE (ops:=d.qU) w.pt w.uQ (u9 Z) w.jB (EG w (HG w n).1 hY) (D:=D1) (k:=Ud cf n f d eT (Y s.ak) M.results.toList) (kp:=λ_ _=>.stuck "") (Q:=Exit.then (λF B=>iH Z f p.P (.seq (.region i1 #[r,q] E) d.rest) (bodyPostM Fence.wide 0 p.P M p.R) F B) (bodyPostM Fence.wide 0 p.P M p.R)) (λch F B pd y hA hR=>(a9 ch B hR).elim) (n:=0) (fh (λ_=>E) J E 0 (Y s.ak) d.qU.toList) 0 _ [] [] O _ _ p.w0
  (λi m' hi=>by have:=EF _ _ _ _ _ _ _ _ hi;simpa using this) ((iG.here _ _ _ _).go ba (cz.refl _ _)) L (λx hx=>by cases hx) Rr hg ?_ (λv s' o V' F B L' hl hL R' b5=>b5.elim)
 rw[K7] at bb;simpa[NF] using bb;intro b a N G A L1 b6 cR R1 af;show iH Z f p.P (.seq (.region i1 #[r,q] E) d.rest) (bodyPostM Fence.wide 0 p.P M p.R) G A;unfold Ud at af;split at af;rename_i X b7;split at af;rename_i bc;simp only[aw,f9,bZ] at bc;obtain⟨⟨⟨bd,b8⟩,ca⟩,cc⟩:=bc;have cl:G.tmps[d.te]?=U (.pointer (U ⟨ad N X,0,Z⟩)):=by
  rcases R1.tmps _ _ b7 with h|h;cases h;exact h
 have cn:G.defers=[]:=by
  have h:=R1.cQ;rw[a3] at h;obtain⟨ms,q1,q0,-,-⟩:=h.kQ;have:=q0 rfl;subst this;simpa using q1
 have co:(C.fn d.g [.loc X 0]).ab a N=.func (.func d.g) #[] #[.pointer (U ⟨ad N X,0,Z⟩)]:=by simp[C.ab,C.ay,uY,cc]
 have z:=R1.put (U d.tf) (.fn d.g [.loc X 0]);rw[co] at z;obtain⟨H,an⟩:∃H:Deferred,H={target:=.fn (.func d.g) #[.pointer (U ⟨ad N X,0,Z⟩)],args:= #[]}:=⟨_,rfl⟩;have cp:dR p.w0 ⟨[],[],E,[H]⟩ b.pd a.y [H] A:=by
  have h:=R1.cQ;rw[a3] at h;exact⟨h.len,h.oD,h.cV,h.inj,[],rfl,λ_=>rfl,au,λd j=>by simp at j⟩
 have cW:(b.put (U d.tf) (.fn d.g [.loc X 0])).pd=b.pd:=rfl;have R2:ax p.S0 p.w0 ⟨[],[],E,[H]⟩ cf.ty N a (b.put (U d.tf) (.fn d.g [.loc X 0])) {G.put (U d.tf) (.func (.func d.g) #[] #[.pointer (U ⟨ad N X,0,Z⟩)]) with defers:=[H]} A:=
  ⟨z.mem,z.fM,z.ei,z.eb,z.er,cp,z.size,z.tmps,z.fz⟩
 refine ED (sf (n:=0) (wpIn_region ?_));have cs:e8 (#[r,q]:db).size=[0,1]:=rfl;rw[cs];have e1:(execOp G.eval r).run p.P A=.ok (.value (.func (.func d.g) #[] #[.pointer (U ⟨ad N X,0,Z⟩)])) A:=by
  have:G.eval (.tmp d.te)=.pointer (U ⟨ad N X,0,Z⟩):=by simp[Act.eval,Tj,cl]
  simp[execOp,g1,this,Instr.makeFunc]
 have e2:(execOp (G.put (U d.tf) (.func (.func d.g) #[] #[.pointer (U ⟨ad N X,0,Z⟩)])).eval q).run p.P A=.ok (.defer H) A:=by
  have ct:d.tf<G.tmps.size:=by rw[R1.size];exact ca
  have:(G.put (U d.tf) (.func (.func d.g) #[] #[.pointer (U ⟨ad N X,0,Z⟩)])).eval (.tmp d.tf)=.func (.func d.g) #[] #[.pointer (U ⟨ad N X,0,Z⟩)]:=by
   simp[Act.eval,Act.put,Tj,ct]
  simp[execOp,g6,resolve,g7,g8,this,Deferred.ofValue,an]
 have cv:jH r (yielded #[r,q] G.tmps)=true:=by simp[jH,g5]
 have cx:∀y,jH q y=true:=λy=>by simp[jH,g9]
 have cy:∀c',r.op≠ .defer c':=λc' bf=>by rw[g1] at bf;cases bf
 have hF:=u9 Z;show wpOpsIn _ 0 p.P #[r,q] _ [0,1] G A;simp only[wpOpsIn,aay,xR,qH,cv,cx,cH];refine⟨λf _=>hF.fn f, ?_⟩;rw[v6 _ _ _ cy,e1,Oper.uponIn_value,g4];refine⟨λf _=>hF.fn f, ?_⟩;rw[show(K0 Z).round=Z from rfl,aly,e2,axw];have cA:({(G.put (U d.tf) (.func (.func d.g) #[] #[.pointer (U ⟨ad N X,0,Z⟩)])) with defers:=H::(G.put (U d.tf) (.func (.func d.g) #[] #[.pointer (U ⟨ad N X,0,Z⟩)])).defers}:Act).put q.dst undef={G.put (U d.tf) (.func (.func d.g) #[] #[.pointer (U ⟨ad N X,0,Z⟩)]) with defers:=[H]}:=by
  rw[b3];have:(G.put (U d.tf) (.func (.func d.g) #[] #[.pointer (U ⟨ad N X,0,Z⟩)])).defers=[]:=cn;rw[this];rfl
 rw[cA];show iH Z f p.P d.rest (bodyPostM Fence.wide 0 p.P M p.R) _ A;have cB:(iG.mk (b.put (U d.tf) (.fn d.g [.loc X 0])) a N L1).j5 (b.put (U d.tf) (.fn d.g [.loc X 0])) a N L1:=iG.here _ _ _ _;refine(HG w n).1 ⟨[],[],E,[H]⟩ _ gM Z f d.rest _ _ L1 a N _ A _ (Ck _ _) cB rfl (λhh=>by cases hh) ⟨M,hf⟩ af R2 ((hg.ext ba.ext).ext b6.ext) (λch F B pd y hA hR=>(a9 ch B hR).elim) ?_;intro e s' o V' F B L' hl hL RR L;obtain⟨bg,q1,q0,q2,q3⟩:=RR.cQ.kQ;have R3:=RR.py q1;have c0:({F with defers:=[H]}:Act)={F with defers:=[H]}:=rfl;have bk:∀d0∈bg,B.heap[d0]?=U (.deferred (U [])):=λd0 cC=>(q3 d0 (by simp[cC])).1
 have bl:bg.Nodup:=(uE.1 q2).1;have br:ad V' X=ad N X:=hl.ext.ad X b8;have bs:∀m,(invoke H.target H.args).run p.P m=.ok (.enter d.g #[.pointer (U ⟨ad N X,0,Z⟩)]) m:=λm=>by
  rw[an];simp[invoke,a0.wG]
 have bx:∀s2:S,∀m,ax p.S0 p.w0 ⟨[],[],E,[H]⟩ cf.ty V' o s2 {F with defers:=[H]} m->(pU cf (Y s.ak) M.results.toList s2).aG p o L'->LeavesInM Fence.wide 0 p.P M F.tmps p.R [] .returning m:=by
  intro s2 m R4 ag;unfold pU at ag;split at ag;rename_i l cD;refine⟨_,Hh R4 w.jB cD, ?_⟩;exact ag o.y V' _ (by rw[w.pt];exact(R4.mem.take _).lx (La _));exact ag.elim
 have b0:(pU cf (Y s.ak) M.results.toList s').aG p o L'->LeavesInM Fence.wide 0 p.P M F.tmps p.R F.defers .returning B:=by
  intro ag;rw[q1];refine p7 au bl bk ⟨au,.inr ⟨by simp[Fence.wide],_,_,_,_,by rw[an],bs _,λg hg=>trivial, ?_⟩⟩;refine(a0.ret _ _).mono ?_;rintro en u W4 ⟨⟨v,rfl⟩,rfl,rfl⟩;exact bx s' _ R3 ag
 cases e with
 |normal=>exact b0 L
 |ret=>exact b0 L
 |exit id=>exact L.elim
 |aW v=>
  simp only[Uc] at L;split at L;rename_i tt x;split at L;rename_i bt y b1;split at L;rename_i b2;simp only[aw,di] at b2;obtain⟨rfl,rfl⟩:=b2;have a4:=R3.mem.box X bt _ b1;rw[pu bd] at a4;rw[br] at a4;show LeavesInM Fence.wide 0 p.P M F.tmps p.R F.defers (.panicking _) B;rw[q1];refine p7 au bl bk ⟨au,.inr ⟨by simp[Fence.wide],_,_,_,_,by rw[an],bs _,λg hg=>trivial, ?_⟩⟩;refine(a0.aW _ (ad N X) (y.ab o) (x.ab o) a4).mono ?_;rintro en u W4 ⟨⟨v,rfl⟩,rfl,rfl⟩;have R4:=R3.UU (cs':=[.int I x]) b1;rw[pu bd,br] at R4;exact bx _ _ R4 L;exact L.elim;exact L.elim;exact L.elim
 exact af.elim;exact af.elim
end
def n9:T->T
 |.aS _ t _=>t
 |.aN _ t=>t
 |.call _ _ _ _ _ _ t=>t
 |.loop _ _ _ t=>t
 |.new _ _ _ _ t=>t
 |.ae _ _ _ t=>t
 |.fU _ _ t _=>t
 |.pick _ _ _ t _=>t
 |.dK _ _ _ _ _ _ _ t=>t
 |t=>t
def HT:T->T
 |.aS _ _ t=>t
 |.fU _ _ _ t=>t
 |.pick _ _ _ _ t=>t
 |t=>t
def p9(g t:T):T:=match g with
 |.stuck m=>.stuck m
 |_=>t
def T.cut(t:T):T->T:=T.rec (motive:=λ_=>T->T) (λe s g=>p9 g (.out e s)) (λv b r g=>p9 g (.ret v b r)) (λv g=>p9 g (.aW v)) (λb _ _ X W g=>p9 g (.aS b (X (n9 g)) (W (HT g)))) (λb _ X g=>p9 g (.aN b (X (n9 g)))) (λf a b r k s _ X g=>p9 g (.call f a b r k s (X (n9 g)))) (λl k x _ X g=>p9 g (.loop l k x (X (n9 g)))) (λl x g=>p9 g (.back l x)) (λe x r V _ X g=>p9 g (.new e x r V (X (n9 g)))) (λk x r _ X g=>p9 g (.ae k x r (X (n9 g)))) (λb c _ _ X W g=>p9 g (.fU b c (X (n9 g)) (W (HT g)))) (λn b c _ _ X W g=>p9 g (.pick n b c (X (n9 g)) (W (HT g)))) (λf R e Q O r N _ X g=>p9 g (.dK f R e Q O r N (X (n9 g)))) (λm g=>p9 g (.stuck m)) t
def ss{p:Sp}{g t:T}{L:cX}(h:(p9 g t).aG p y L):t.aG p y L:=by
 unfold p9 at h;split at h;exact h.elim;exact h
def tU{p:Sp}:∀(t g:T)(O:ai)(L:cX),(t.cut g).aG p O L->t.aG p O L
 |.out _ _,_,_,_,h=>ss h
 |.ret _ _ _,_,_,_,h=>ss h
 |.aW _,_,_,_,h=>ss h
 |.back _ _,_,_,_,h=>ss h
 |.stuck _,_,_,_,h=>ss h
 |.aS b t f,g,O,L,h=>by
  have h:=ss (g:=g) (t:=.aS b (t.cut (n9 g)) (f.cut (HT g))) h;exact⟨λe=>tU _ _ _ _ (h.1 e),λe=>tU _ _ _ _ (h.2 e)⟩
 |.aN b t,g,O,L,h=>by
  have h:=ss (g:=g) (t:=.aN b (t.cut (n9 g))) h;exact⟨h.1,tU _ _ _ _ h.2⟩
 |.call f a b r k s t,g,O,L,h=>by
  have h:=ss (g:=g) (t:=.call f a b r k s (t.cut (n9 g))) h;intro y V W H;refine(h y V W H).mono λe W' N=> ?_
  cases e with
  |returned v=>
   obtain⟨M,R,Q,F,D,B⟩:=N;exact⟨M,R,Q,F,D,tU _ _ _ _ B⟩
  |panicked c=>exact N
  |outgrown=>exact N
 |.loop l k x t,g,O,L,h=>by
  have h:=ss (g:=g) (t:=.loop l k x (t.cut (n9 g))) h;obtain⟨X,A,R,Q⟩:=h;exact⟨X,A,R,λM a b=>tU _ _ _ _ (Q M a b)⟩
 |.new e x r z t,g,O,L,h=>by
  have h:=ss (g:=g) (t:=.new e x r z (t.cut (n9 g))) h;exact λw a=>tU _ _ _ _ (h w a)
 |.ae k x r t,g,O,L,h=>by
  have h:=ss (g:=g) (t:=.ae k x r (t.cut (n9 g))) h;exact tU t (n9 g) _ _ h
 |.fU b c t f,g,O,L,h=>by
  have h:=ss (g:=g) (t:=.fU b c (t.cut (n9 g)) (f.cut (HT g))) h;exact⟨λe=>tU _ _ _ _ (h.1 e),λe=>tU _ _ _ _ (h.2 e)⟩
 |.pick n b c t f,g,O,L,h=>by
  have h:=ss (g:=g) (t:=.pick n b c (t.cut (n9 g)) (f.cut (HT g))) h;exact⟨λj u a2 q=>tU _ _ _ _ (h.1 j u a2 q),λe=>tU _ _ _ _ (h.2 e)⟩
 |.dK f o e m i r d t,g,O,L,h=>by
  have h:=ss (g:=g) (t:=.dK f o e m i r d (t.cut (n9 g))) h;obtain⟨af,R,Q⟩:=h;exact⟨af,R,tU _ _ _ _ Q⟩
def Wp(c:Bool)(g t:T):T:=cond c (t.cut g) t
def aps{p:Sp}{c:Bool}{g:T}{L:cX}(h:(Wp c g b).aG p y L):b.aG p y L:=by
 cases c;exact h;exact tU _ _ _ _ h
section
variable{P:Program}{u:Ty}{M Q:FuncId->pQ}{be:md}{G:World->Prop}{H A:iX}{X z:aI}
structure HV(u:Ty)(gl:lW)(glk:aY)(glv:aC)(W:World)(glw:aC):Prop where
 len:Y glv=Y glw
 eq:∀(k:Nat)(v v':RV),glv[k]?=U v->glw[k]?=U v'->dj v v'
 held:∀(k:Nat)(e:RK)(rv:RV),glk[k]?=U e->glw[k]?=U rv->bu W u e rv
 Wq:∀xs,et gl (fp glw xs)
def Wr{cf:bi}{s:aC}{V:am}{nb:Nat}{x:aY}
  (an:cf.ty=u)(a0:∀f,AO P u M Q G f (be f))(hG:∀e W',Below e.heap.size e W'->G e->G W')(a1:gH u H=U X)
  (hl:jo u A l=U V)(a3:p8 0 0 (Y s) z V=J)(ag:x=g++iP z)(a4:∀(k:Nat)(b:TypeId),x[k]?≠U (.own b))(a9:Y s=Y g)(d:s=[]\/sn X=J)
  (ba:∀D F,ee z F->(fp D F).i.length=N)(bb:∀D F,ee z F->(fp D F).b.length=nb)
   (bc:G e){D:aC}(p:HV u cf.gl g s e D){xh F:aX}{o:aU}{R:Nat}(hN:run u M Q be H R b (fp s xh) x []=U o)(hx:yM xh F)(n:ee z F)(hH:wO u e z F):
  b.aG (HQ P u e H X z F o) (fp D F) []/\C.ay (fp D F) [] l=tR u A (n8 z F)/\ax [] e bI.none cf.ty [] (fp D F) ⟨[],[],N,nb,x,0,0,[]⟩ ⟨#[],[]⟩ e:=by
 have af:Y D=Y g:=by rw[<-p.len];exact a9
 have hv:C.ay (fp D F) [] l=tR u A (n8 z F):=by
  rw[PK hl,fp,Lj (by rw[<-p.len];exact a3) n rfl rfl rfl]
 have al:(fp D F).r.length=Y x:=by rw[ag];exact Ll n af
 have hS:j7 (fp s xh) (fp D F):=j7.ext ⟨rfl,rfl,p.len,λk v v' g1 g2=>p.eq k v v' g1 g2⟩ hx;have bd:b.aG (HQ P u e H X z F o) (fp D F) []:=by
  refine apl (old:=λO=>wN u z F O\/D≠[]) a0 hG bc a1 (λys O m c=> ?_) R b _ _ x [] [] hN hS al ?_ (tS.nil _);rcases c with c|c;exact c;rcases d with d|d;subst d;have:D=[]:=Dx.1 (by rw[<-p.len];rfl);exact bp this c;exact(ae7 d m).elim;rw[ag];refine EM.ext (λO m=> ?_) n af (λO m=>.inr (.inl m));obtain⟨k,L,hk,hl⟩:=m;refine .inr (.inr (λhe=> ?_));subst he;have:=(bJ.1 hk).1;simp at af;omega
 have bf:∀(k:Nat)(L:RK)(B:RV),x[k]?=U L->(fp D F).r[k]?=U B->bu e u L B:=by
  intro k L B g1 g2;have:=Ez (PP:=λL B=>bu e u L B) z F ⟨[],[],0,0,g,0,0,[]⟩ ⟨[],[],D,[]⟩ n af (λq L B w a=>hH q L B w a) (λk L B w a=>p.held k L B w a);rw[PQ] at this;exact this k L B (by rw[<-ag];exact g1) g2
 exact⟨bd,hv,⟨⟨ga.refl _ _,λi h=>by simp[aF,cj] at h,λi j h=>by simp[aF,cj] at h,λi b cs h=>by simp[cj] at h,λk L B w a=>⟨by rw[an];exact bf k L B w a,λO m i hi=>by simp[aF,cj] at hi⟩⟩,rfl,ba _ F n,bb _ F n,al,by rw[show(fp D F).y=[] from Hf F _];exact PM _ _,rfl,λb sv h=>by simp at h,λk L B O w=>bp w (a4 k L)⟩⟩
def apu{cf:bi}{x:Func}{c:Code}{F:aX->jC}{glk:aY}{glv:aC}{V:am}{v s:Nat}
  (al:∀w R,(∀r W L o,w.heap.size<=L->R (.panicked r) W->R (.panicked r) (W.putObj L o))->iB ⟨P,u,[],w,bI.none,R,λ_ _ _=>False⟩ cf)(an:cf.ty=u)(a0:∀t,AO P u M Q G t (be t))(hG:∀W q,Below W.heap.size W q->G W->G q)
  (hf:P.funcs[t]?=U x)(hb:x.body=U c)(a1:M t=U A)(a3:Q t=U H)(a4:gH u A=U z)(m:gH u H=U X)
  (hl:jo u A l=U V)(a9:p8 0 0 (Y glv) z V=J)(ba:g=glk++iP z)(bb:∀(k:Nat)(b:TypeId),g[k]?≠U (.own b))(bc:Y glv=Y glk)(hq:glv=[]\/sn X=J)
  (bd:∀y B,ee z B->(fp y B).i.length=v)(bf:∀y B,ee z B->(fp y B).b.length=s)
  (bg:∀W,G W->∃y,HV u cf.gl glk glv W y)
  (ht:∀(p:Sp)(O:ai),b.aG p O []->(Kh cf N t c x.ntmps x.results.toList l ⟨[],[],v,s,g,0,0,[]⟩).aG p O [])
  (hF:∀B o,ee z B->F B=U o->∃D,run u M Q be H D b (fp glv B) g []=U o):AO P u M Q G t F:=by
 intro bl br bs bt j h e d xh B o ho a af W ag hH;rw[a1] at j;cases j;rw[a3] at h;cases h;rw[a4] at e;cases e;rw[m] at d;cases d;obtain⟨D,hN⟩:=hF xh o (PL af a) ho;obtain⟨y,hL⟩:=bg W ag;obtain⟨bk,hv,hR⟩:=Wr an a0 hG m hl a9 ba bb bc hq bd bf ag hL hN a af hH;rw[<-hv];exact aey (p:=HQ P u W H X z B o) (cf:=cf) (al W _ (Wo W)) hf hb rfl (ht _ _ bk) (hL.Wq B) hR
def apv{cf:bi}{x:Func}{c:Code}{F:aX->jC}{glk:aY}{glv:aC}{V:am}{m j:Nat}{d:DI}
  (al:∀w R,(∀s W L o,w.heap.size<=L->R (.panicked s) W->R (.panicked s) (W.putObj L o))->iB ⟨P,u,[],w,bI.none,R,λ_ _ _=>False⟩ cf)(an:cf.ty=u)(a0:∀t,AO P u M Q G t (be t))(hG:∀W r,Below W.heap.size W r->G W->G r)
  (hf:P.funcs[t]?=U x)(hb:x.body=U c)(hd:pm c=U d)(a1:vd P d.g h)(a3:M t=U A)(a4:Q t=U H)(a9:gH u A=U z)(e:gH u H=U X)
  (hl:jo u A l=U V)(ba:p8 0 0 (Y glv) z V=J)(bb:g=glk++iP z)(bc:∀(k:Nat)(b:TypeId),g[k]?≠U (.own b))(bd:Y glv=Y glk)(hq:glv=[]\/sn X=J)
  (bf:∀y B,ee z B->(fp y B).i.length=m)(bg:∀y B,ee z B->(fp y B).b.length=j)
  (bk:∀W,G W->∃y,HV u cf.gl glk glv W y)
  (ht:∀(p:Sp)(O:ai),b.aG p O []->(Ki cf N t c x.ntmps x.results.toList h l ⟨[],[],m,j,g,0,0,[]⟩).aG p O [])(bl:∀B v,F B≠U (.aW v))
  (hF:∀B o,ee z B->F B=U o->∃D,run u M Q be H D b (fp glv B) g []=U o):AO P u M Q G t F:=by
 intro bs bt bx b0 a h2 h3 h4 xh B o ho hx af W ag hH;rw[a3] at a;cases a;rw[a4] at h2;cases h2;rw[a9] at h3;cases h3;rw[e] at h4;cases h4;obtain⟨D,hN⟩:=hF xh o (PL af hx) ho;obtain⟨y,hL⟩:=bk W ag;obtain⟨br,hv,q⟩:=Wr an a0 hG e hl ba bb bc bd hq bf bg ag hL hN hx af hH;rw[<-hv];refine apr (p:=HQ P u W H X z B o) (cf:=cf) (al W _ (Wo W)) (λs r q=> ?_) hf hb hd a1 rfl (ht _ _ br) (hL.Wq B) q;obtain⟨-,v,h5,-⟩:=q;exact bl xh v (by rw[ho,h5])
end
def afa:Op->Bool
 |.move _|.assign _|.fieldAddr _ _ _|.field _ _ _|.load _ _|.indexAddr _ _ _|.build _ _|.index _ _ _|.unOp _ _ _|.convert _ _ _|.makeInterface _ _|.makeFunc _ _ _|.extract _ _|.nilCheck _|.alloc _|.box _ _|.pick _ _ _=>J
 |.binOp X _ _ _ _=>match X with
  |.eql|.neq=>E
  |_=>J
 |_=>E
def Ws(X:bi)(m:OM)(s:S):Bool:=(Ag X m s).isSome
def apw{X:bi}{m:OM}(h:Ws X m v=E):Ag X m v=none:=by
 simpa[Ws] using h
def PS(R:bi)(O:nO)(m:OM)(s:S)(X:S->Fx->T)(Q:C->S->T)(V:Fx):T:=
 if afa m.o.op then match fJ R m s with
  |.ok W=>X W V
  |.aN b W=>.aN b (X W V)
  |.split b N M=>Af s V b (X N) (X M)
  |.no L=>.stuck L
 else if Ws R m s then yj R O m s X Q V else match yg R m s with
 |U (e,H,G,P)=>BT e (λg F=>O (.fn g) (P++F) s (λv W=>X (W.put m.o.dst v) (nR s V)) Q) H G
 |none=>
 match dW R s m.o with
 |.call (.fn g) P=>O (.fn g) P s (λv W=>X (W.put m.o.dst v) (nR s V)) Q
 |.call (.yl n) P=>if m.so then O (.yl n) P s (λv W=>X (W.put m.o.dst v) (nR s V)) Q else .stuck ""
 |.aW v=>Q v s
 |.no=>.stuck ""
 |.op=>match yf R m s X V with
  |U t=>t
  |none=>match eA R m.o m.bC m.dr s with
  |U b=>.aN b.aN (.new b.e b.x s.rs b.s.rs (X b.s (nR s V)))
  |none=>match fJ R m s with
  |.ok W=>X W V
  |.aN b W=>.aN b (X W V)
  |.split b N M=>Af s V b (X N) (X M)
  |.no L=>.stuck L
def apx(X:bi)(R:nO)(m:OM)(s:S)(Q:S->Fx->T)(P:C->S->T)(O:Fx):PS X R m s Q P O=yj X R m s Q P O:=by
 unfold PS;split;rename_i W;unfold yj;cases V:m.o.op<;>rw[V] at W<;>simp only[afa,iC] at W<;>try(simp[yg,Ag,dW,yf,eA,V]<;>rfl)
 rename_i N t x y z;cases N<;>simp only[iC] at W<;>(simp[yg,Ag,dW,yf,eA,V]<;>rfl);split;rfl;rename_i M;unfold yj;rw[apw (by simpa using M)];cases yg X m s<;>rfl
def OM.up(n:Nat)(m:OM):OM:={m with ix:=m.ix+n}
def PU(bC:Nat->Bool)(X W:Bool)(k:Nat):∀(l:nM)(j n:Nat),fh bC X W j (n+k) l=(fh bC X W j n l).map (OM.up k)
 |[],_,_=>rfl
 |o::r,j,n=>by
  simp only[fh,ep];congr 1;rw[<-PU bC X W k r];congr 1;split<;>omega
def apy(k:Nat)(l:ck)(X:ap):Gu (l.map (OM.up k)) X=(Gu l X).map (OM.up k):=by
 simp only[Gu,List.map_filterMap,dM]
def Wt(k:Nat)(X:ap):∀l:ck,yp X (l.map (OM.up k))=yp X l
 |[]=>rfl
 |x::r=>by simp only[ep,yp,Wt k X r,JM];rfl
def afb(k:Nat)(X:ap):∀(l W:ck),rU X (W.map (OM.up k)) (l.map (OM.up k))=(rU X W l).map (OM.up k)
 |[],_=>rfl
 |m::r,W=>by
  simp only[ep,rU];congr 1;have h:=Wt k X (m::r);simp only[ep] at h;rw[h,JM];rfl;rw[<-afb k X r (W++[m]),JG];rfl
def afc(k:Nat)(X:db):∀(l:ck)(done:ap),BW X done (l.map (OM.up k))=BW X done l
 |[],_=>rfl
 |x::r,done=>by simp only[ep,BW,afc k X r];rfl
def apz(k a b:Nat):(a+k !=b+k)=(a !=b):=by
 rw[uF];simp
def apA(k:Nat)(X:db)(x y:OM):rT X (OM.up k x) (OM.up k y)=rT X x y:=by
 have h:((OM.up k x).ix !=(OM.up k y).ix)=(x.ix !=y.ix):=apz k _ _;unfold rT Gt J3;rw[h];rfl
def afd(k:Nat)(X:db)(W:ap):∀l:ck,BV X W (l.map (OM.up k))=BV X W l
 |[]=>rfl
 |x::r=>by
  simp only[ep,BV,afd k X W r,JM];congr 2;funext y;simp only[Function.comp,apA];rfl
def afe(k:Nat):∀l:ap,lY (l.map (· +k))=lY l
 |[]=>rfl
 |x::r=>by
  simp only[ep,lY,afe k r];congr 2;rw[uF];simp
def oa(X:db)(n:Nat):ck:=rU (nS X.toList) [] (Gu (fh (J5 X.toList (nS X.toList)) E J 0 n X.toList) (J4 X.toList X.size []))
def apB(X:db)(n:Nat):oa X n=(oa X 0).map (OM.up n):=by
 unfold oa;rw[show fh (J5 X.toList (nS X.toList)) E J 0 n X.toList=(fh (J5 X.toList (nS X.toList)) E J 0 0 X.toList).map (OM.up n) by rw[<-PU];simp,apy,<-afb];rfl
def PV(X:db)(n:Nat):Option ck:=match Al X 0 with
 |U l=>U (l.map (OM.up n))
 |none=>Z
def aff(X:db)(n:Nat):Al X n=if Oe X.toList (nS X.toList)&&BW X [] (oa X n)&&BV X (nS X.toList) (oa X n)&&lY ((oa X n).filterMap (·.o.dst))&&lY ((oa X n).map (·.j))&&lY (((oa X n).filter λm=>fW m.o.op).map (·.ix))&&(oa X n).length==X.size&&(e8 X.size).all (λi=>(oa X n).any λm=>m.j==i) then U (oa X n) else none:=rfl
def apC(X:db)(n:Nat):PV X n=Al X n:=by
 unfold PV;rw[aff X n,aff X 0,apB X n,afc,afd];have V:((oa X 0).map (OM.up n)).filterMap (·.o.dst)=(oa X 0).filterMap (·.o.dst):=by rw[axt];rfl
 have R:((oa X 0).map (OM.up n)).map (·.j)=(oa X 0).map (·.j):=by rw[mT];rfl
 have Q:(((oa X 0).map (OM.up n)).filter λm=>fW m.o.op).map (·.ix)=(((oa X 0).filter λm=>fW m.o.op).map (·.ix)).map (· +n):=by rw[alz,mT,mT];rfl
 have P:∀i,(((oa X 0).map (OM.up n)).any λm=>m.j==i)=((oa X 0).any λm=>m.j==i):=λi=>by rw[aaJ];rfl
 rw[V,R,Q,afe,o8];simp only[P];split;rename_i l h;split at h;rename_i W;cases h;rw[aE W];cases h;rename_i h;split at h;cases h;rename_i W;rw[aJ W]
def afg(W:Bool)(X:db)(n:Nat):Ao W X n=(Ao W X 0).map (OM.up n)/\Ap W X n=(Ap W X 0).map (OM.up n):=by
 unfold Ao Ap;rw[show fh (λ_=>E) E J 0 n X.toList=(fh (λ_=>E) E J 0 0 X.toList).map (OM.up n) by rw[<-PU];simp,alz,alz];exact⟨rfl,rfl⟩
def apD(W:Bool)(X:db)(n:Nat):GB W X n=GB W X 0:=by
 unfold GB;obtain⟨V,R⟩:=afg W X n;rw[V,R,show fh (λ_=>E) E J 0 n X.toList=(fh (λ_=>E) E J 0 0 X.toList).map (OM.up n) by rw[<-PU];simp];unfold T5;rw[<-JG];have Q:∀l:ck,(l.map (OM.up n)).filterMap (·.o.dst)=l.filterMap (·.o.dst):=λl=>by rw[axt];rfl
 have P:∀l:ck,(l.map (OM.up n)).map (·.j)=l.map (·.j):=λl=>by rw[mT];rfl
 rw[Q,P,o8];simp only[JM,aaJ,Function.comp_def];rfl
def PW(V:bi)(W:Bool)(X:db)(s:S):Option Ka:=
 if(!W||(T4 V s X.toList||(V.ku&&X.toList.any λo=>aa3 o.op))&&yp (nS X.toList) (Ap W X 0))&&GB W X 0 then(BZ V ((Ao W X 0).map (OM.up (Y s.ak))) (s.room (kL X.toList))).bind (T6 V ((Ao W X 0).map (OM.up (Y s.ak))) ((Ap W X 0).map (OM.up (Y s.ak)))) else Z
def apE(V:bi)(X:Bool)(W:db)(s:S):PW V X W s=GC V X W s:=by
 unfold PW GC;obtain⟨Q,R⟩:=afg X W (Y s.ak);rw[<-Q,<-R,apD X W (Y s.ak),R,Wt]
def EN{X:Type}(l:List X):(List X->T)->T:=v7 (motive:=λ_=>(List X->T)->T) (λk=>k []) (λx _ W k=>W λV=>k (x::V)) l
def Wu{W:Type}:∀(l:List W)(k:List W->T),EN l k=k l
 |[],_=>rfl
 |x::X,k=>Wu X λX=>k (x::X)
def bW(n:Nat)(k:Nat->T):T:=DF (motive:=λ_=>T) (k 0) (λm _=>k (Nat.succ m)) n
def jO:∀(n:Nat)(k:Nat->T),bW n k=k n
 |0,_=>rfl
 |_+1,_=>rfl
def S.Wv(s:S)(k:S->T):T:=S.rec (motive:=λ_=>T) (λX b W V R av Q P=>EN X λX=>EN b λb=>bW W λW=>bW V λV=>EN R λR=>bW av λav=>bW Q λQ=>EN P λP=>k ⟨X,b,W,V,R,av,Q,P⟩) s
def apF(s:S)(k:S->T):s.Wv k=k s:=by
 cases s;simp only[S.Wv,Wu,jO]
def Lu{X:Type}(l:List X)(k:List X->T):T:=v7 (motive:=λ_=>T) (k []) (λx W _=>k (x::W)) l
def apG{X:Type}(l:List X)(k:List X->T):Lu l k=k l:=by cases l<;>rfl
def S.Ww(s:S)(k:S->T):T:=S.rec (motive:=λ_=>T) (λX b W V R av Q P=>Lu X λX=>Lu b λb=>bW W λW=>bW V λV=>Lu R λR=>bW av λav=>bW Q λQ=>Lu P λP=>k ⟨X,b,W,V,R,av,Q,P⟩) s
def apH(s:S)(k:S->T):s.Ww k=k s:=by
 cases s;simp only[S.Ww,apG,jO]
def wP(X:bi)(W:nO)(V:db)(k:S->T)(R:C->S->T):ck->S->Fx->T
 |[],s,_=>k s
 |m::Q,s,P=>s.Ww λs=>N9 V m s P (PS X W m s (wP X W V k R Q) R) (wP X W V k R Q (s.put m.o.dst (.bA [])))
def Lv(X:bi)(W:nO)(R:db)(k:S->T)(V:C->S->T):∀(l:ck),wP X W R k V l=jX X W R k V l
 |[]=>by funext s P;rfl
 |m::Q=>by
  funext s P;have:PS X W m s (wP X W R k V Q) V=yj X W m s (jX X W R k V Q) V:=by
   funext P;rw[apx,Lv X W R k V Q]
  simp only[wP,jX,apH];rw[this,Lv X W R k V Q]
def Lw(n:Int)(k:Int->T):T:=Int.rec (motive:=λ_=>T) (λn=>bW n λn=>k (aaN n)) (λn=>bW n λn=>k (aaL n)) n
def apI:∀(n:Int)(k:Int->T),Lw n k=k n
 |.ofNat n,k=>jO n λn=>k (aaN n)
 |.negSucc n,k=>jO n λn=>k (aaL n)
def K.deep(e:K):(K->T)->T:=K.rec (motive_1:=λ_=>(K->T)->T) (motive_2:=λ_=>(BE->T)->T) (motive_3:=λ_=>(RE->T)->T) (λn k=>Lw n λn=>k (.c n)) (λn k=>bW n λn=>k (.v n)) (λo q a b X W k=>X λa=>W λb=>k (.bin o q a b)) (λq a X k=>X λa=>k (.conv q a)) (λr V k=>V λr=>k (.len r)) (λm a b X W k=>X λa=>W λb=>k (.mm m a b)) (λb x y W P O k=>W λb=>P λx=>O λy=>k (.dv b x y)) (λr i j V R k=>V λr=>R λi=>bW j λj=>k (.cell r i j)) (λr i V R k=>V λr=>R λi=>k (.mV r i)) (λr n a b c j V X W Q k=>V λr=>X λa=>W λb=>Q λc=>bW n λn=>bW j λj=>k (.look r n a b c j)) (λb k=>k (.c b)) (λn k=>bW n λn=>k (.v n)) (λo a b X W k=>X λa=>W λb=>k (.cmp o a b)) (λa X k=>X λa=>k (.not a)) (λa b X W k=>X λa=>W λb=>k (.and a b)) (λa b X W k=>X λa=>W λb=>k (.beq a b)) (λb x y W P O k=>W λb=>P λx=>O λy=>k (.dv b x y)) (λr i j V R k=>V λr=>R λi=>bW j λj=>k (.cell r i j)) (λa b X W k=>X λa=>W λb=>k (.seq a b)) (λr n a b c j V X W Q k=>V λr=>X λa=>W λb=>Q λc=>bW n λn=>bW j λj=>k (.look r n a b c j)) (λr n a b c V X W Q k=>V λr=>X λa=>W λb=>Q λc=>bW n λn=>k (.has r n a b c)) (λn k=>bW n λn=>k (.v n)) (λr i j q V R k=>V λr=>R λi=>bW j λj=>k (.cell r i j q)) (λv k=>k (.k v)) e
def BE.deep(e:BE):(BE->T)->T:=BE.rec (motive_1:=λ_=>(K->T)->T) (motive_2:=λ_=>(BE->T)->T) (motive_3:=λ_=>(RE->T)->T) (λn k=>Lw n λn=>k (.c n)) (λn k=>bW n λn=>k (.v n)) (λo q a b X W k=>X λa=>W λb=>k (.bin o q a b)) (λq a X k=>X λa=>k (.conv q a)) (λr V k=>V λr=>k (.len r)) (λm a b X W k=>X λa=>W λb=>k (.mm m a b)) (λb x y W P O k=>W λb=>P λx=>O λy=>k (.dv b x y)) (λr i j V R k=>V λr=>R λi=>bW j λj=>k (.cell r i j)) (λr i V R k=>V λr=>R λi=>k (.mV r i)) (λr n a b c j V X W Q k=>V λr=>X λa=>W λb=>Q λc=>bW n λn=>bW j λj=>k (.look r n a b c j)) (λb k=>k (.c b)) (λn k=>bW n λn=>k (.v n)) (λo a b X W k=>X λa=>W λb=>k (.cmp o a b)) (λa X k=>X λa=>k (.not a)) (λa b X W k=>X λa=>W λb=>k (.and a b)) (λa b X W k=>X λa=>W λb=>k (.beq a b)) (λb x y W P O k=>W λb=>P λx=>O λy=>k (.dv b x y)) (λr i j V R k=>V λr=>R λi=>bW j λj=>k (.cell r i j)) (λa b X W k=>X λa=>W λb=>k (.seq a b)) (λr n a b c j V X W Q k=>V λr=>X λa=>W λb=>Q λc=>bW n λn=>bW j λj=>k (.look r n a b c j)) (λr n a b c V X W Q k=>V λr=>X λa=>W λb=>Q λc=>bW n λn=>k (.has r n a b c)) (λn k=>bW n λn=>k (.v n)) (λr i j q V R k=>V λr=>R λi=>bW j λj=>k (.cell r i j q)) (λv k=>k (.k v)) e
def RE.deep(e:RE):(RE->T)->T:=RE.rec (motive_1:=λ_=>(K->T)->T) (motive_2:=λ_=>(BE->T)->T) (motive_3:=λ_=>(RE->T)->T) (λn k=>Lw n λn=>k (.c n)) (λn k=>bW n λn=>k (.v n)) (λo q a b X W k=>X λa=>W λb=>k (.bin o q a b)) (λq a X k=>X λa=>k (.conv q a)) (λr V k=>V λr=>k (.len r)) (λm a b X W k=>X λa=>W λb=>k (.mm m a b)) (λb x y W P O k=>W λb=>P λx=>O λy=>k (.dv b x y)) (λr i j V R k=>V λr=>R λi=>bW j λj=>k (.cell r i j)) (λr i V R k=>V λr=>R λi=>k (.mV r i)) (λr n a b c j V X W Q k=>V λr=>X λa=>W λb=>Q λc=>bW n λn=>bW j λj=>k (.look r n a b c j)) (λb k=>k (.c b)) (λn k=>bW n λn=>k (.v n)) (λo a b X W k=>X λa=>W λb=>k (.cmp o a b)) (λa X k=>X λa=>k (.not a)) (λa b X W k=>X λa=>W λb=>k (.and a b)) (λa b X W k=>X λa=>W λb=>k (.beq a b)) (λb x y W P O k=>W λb=>P λx=>O λy=>k (.dv b x y)) (λr i j V R k=>V λr=>R λi=>bW j λj=>k (.cell r i j)) (λa b X W k=>X λa=>W λb=>k (.seq a b)) (λr n a b c j V X W Q k=>V λr=>X λa=>W λb=>Q λc=>bW n λn=>bW j λj=>k (.look r n a b c j)) (λr n a b c V X W Q k=>V λr=>X λa=>W λb=>Q λc=>bW n λn=>k (.has r n a b c)) (λn k=>bW n λn=>k (.v n)) (λr i j q V R k=>V λr=>R λi=>bW j λj=>k (.cell r i j q)) (λv k=>k (.k v)) e
mutual
def K.eJ:∀(e:K)(k:K->T),e.deep k=k e
 |.c n,k=>by show(Lw n λn=>k (.c n))=_;rw[apI]
 |.v n,k=>by show(bW n λn=>k (.v n))=_;rw[jO]
 |.bin o q a b,k=>by show(K.deep a λa=>K.deep b λb=>k (.bin o q a b))=_;rw[K.eJ a,K.eJ b]
 |.conv q a,k=>by show(K.deep a λa=>k (.conv q a))=_;rw[K.eJ a]
 |.len r,k=>by show(RE.deep r λr=>k (.len r))=_;rw[RE.eJ r]
 |.mm m a b,k=>by show(K.deep a λa=>K.deep b λb=>k (.mm m a b))=_;rw[K.eJ a,K.eJ b]
 |.dv b x y,k=>by show(BE.deep b λb=>K.deep x λx=>K.deep y λy=>k (.dv b x y))=_;rw[BE.eJ b,K.eJ x,K.eJ y]
 |.cell r i j,k=>by show(RE.deep r λr=>K.deep i λi=>bW j λj=>k (.cell r i j))=_;rw[RE.eJ r,K.eJ i,jO]
 |.mV r i,k=>by show(RE.deep r λr=>K.deep i λi=>k (.mV r i))=_;rw[RE.eJ r,K.eJ i]
 |.look r n a b c j,k=>by show(RE.deep r λr=>K.deep a λa=>K.deep b λb=>K.deep c λc=>bW n λn=>bW j λj=>k (.look r n a b c j))=_;rw[RE.eJ r,K.eJ a,K.eJ b,K.eJ c,jO,jO]
def BE.eJ:∀(e:BE)(k:BE->T),e.deep k=k e
 |.c b,k=>rfl
 |.v n,k=>by show(bW n λn=>k (.v n))=_;rw[jO]
 |.cmp o a b,k=>by show(K.deep a λa=>K.deep b λb=>k (.cmp o a b))=_;rw[K.eJ a,K.eJ b]
 |.not a,k=>by show(BE.deep a λa=>k (.not a))=_;rw[BE.eJ a]
 |.and a b,k=>by show(BE.deep a λa=>BE.deep b λb=>k (.and a b))=_;rw[BE.eJ a,BE.eJ b]
 |.beq a b,k=>by show(BE.deep a λa=>BE.deep b λb=>k (.beq a b))=_;rw[BE.eJ a,BE.eJ b]
 |.dv b x y,k=>by show(BE.deep b λb=>BE.deep x λx=>BE.deep y λy=>k (.dv b x y))=_;rw[BE.eJ b,BE.eJ x,BE.eJ y]
 |.cell r i j,k=>by show(RE.deep r λr=>K.deep i λi=>bW j λj=>k (.cell r i j))=_;rw[RE.eJ r,K.eJ i,jO]
 |.seq a b,k=>by show(RE.deep a λa=>RE.deep b λb=>k (.seq a b))=_;rw[RE.eJ a,RE.eJ b]
 |.look r n a b c j,k=>by show(RE.deep r λr=>K.deep a λa=>K.deep b λb=>K.deep c λc=>bW n λn=>bW j λj=>k (.look r n a b c j))=_;rw[RE.eJ r,K.eJ a,K.eJ b,K.eJ c,jO,jO]
 |.has r n a b c,k=>by show(RE.deep r λr=>K.deep a λa=>K.deep b λb=>K.deep c λc=>bW n λn=>k (.has r n a b c))=_;rw[RE.eJ r,K.eJ a,K.eJ b,K.eJ c,jO]
def RE.eJ:∀(e:RE)(k:RE->T),e.deep k=k e
 |.v n,k=>by show(bW n λn=>k (.v n))=_;rw[jO]
 |.cell r i j q,k=>by show(RE.deep r λr=>K.deep i λi=>bW j λj=>k (.cell r i j q))=_;rw[RE.eJ r,K.eJ i,jO]
 |.k v,k=>rfl
end
def C.deep(v:C):(C->T)->T:=C.rec (motive_1:=λ_=>(C->T)->T) (motive_2:=λ_=>(am->T)->T) (λq e k=>e.deep λe=>k (.int q e)) (λb k=>b.deep λb=>k (.bool b)) (λr k=>r.deep λr=>k (.ah r)) (λi o k=>bW i λi=>bW o λo=>k (.loc i o)) (λr w i o k=>r.deep λr=>i.deep λi=>bW w λw=>bW o λo=>k (.el r w i o)) (λi o l c k=>bW i λi=>bW o λo=>bW l λl=>bW c λc=>k (.ij i o l c)) (λl X k=>X λl=>k (.agg l)) (λl X k=>X λl=>k (.bA l)) (λf l X k=>X λl=>bW f λf=>k (.fn f l)) (λt x W k=>W λx=>k (.fT t x)) (λn k=>bW n λn=>k (.yl n)) (λk=>k .any) (λi k=>bW i λi=>k (.mp i)) (λe R V Q k=>e.deep λe=>Q λV=>k (.fy e R V)) (λk=>k []) (λ_ _ W P k=>W λx=>P λO=>k (x::O)) v
def C.AP(l:am):(am->T)->T:=C.rec_1 (motive_1:=λ_=>(C->T)->T) (motive_2:=λ_=>(am->T)->T) (λq e k=>e.deep λe=>k (.int q e)) (λb k=>b.deep λb=>k (.bool b)) (λr k=>r.deep λr=>k (.ah r)) (λi o k=>bW i λi=>bW o λo=>k (.loc i o)) (λr w i o k=>r.deep λr=>i.deep λi=>bW w λw=>bW o λo=>k (.el r w i o)) (λi o l c k=>bW i λi=>bW o λo=>bW l λl=>bW c λc=>k (.ij i o l c)) (λl X k=>X λl=>k (.agg l)) (λl X k=>X λl=>k (.bA l)) (λf l X k=>X λl=>bW f λf=>k (.fn f l)) (λt x W k=>W λx=>k (.fT t x)) (λn k=>bW n λn=>k (.yl n)) (λk=>k .any) (λi k=>bW i λi=>k (.mp i)) (λe R V Q k=>e.deep λe=>Q λV=>k (.fy e R V)) (λk=>k []) (λ_ _ W P k=>W λx=>P λO=>k (x::O)) l
mutual
def C.eJ:∀(v:C)(k:C->T),v.deep k=k v
 |.int q e,k=>by show(K.deep e λe=>k (.int q e))=_;rw[K.eJ]
 |.bool b,k=>by show(BE.deep b λb=>k (.bool b))=_;rw[BE.eJ]
 |.ah r,k=>by show(RE.deep r λr=>k (.ah r))=_;rw[RE.eJ]
 |.loc i o,k=>by show(bW i λi=>bW o λo=>k (.loc i o))=_;rw[jO,jO]
 |.el r w i o,k=>by show(RE.deep r λr=>K.deep i λi=>bW w λw=>bW o λo=>k (.el r w i o))=_;rw[RE.eJ,K.eJ,jO,jO]
 |.ij i o l c,k=>by show(bW i λi=>bW o λo=>bW l λl=>bW c λc=>k (.ij i o l c))=_;rw[jO,jO,jO,jO]
 |.agg l,k=>by show(C.AP l λl=>k (.agg l))=_;rw[C.EO l]
 |.bA l,k=>by show(C.AP l λl=>k (.bA l))=_;rw[C.EO l]
 |.fn f l,k=>by show(C.AP l λl=>bW f λf=>k (.fn f l))=_;rw[C.EO l,jO]
 |.fT t x,k=>by show(C.deep x λx=>k (.fT t x))=_;rw[C.eJ x]
 |.yl n,k=>by show(bW n λn=>k (.yl n))=_;rw[jO]
 |.any,k=>rfl
 |.mp i,k=>by show(bW i λi=>k (.mp i))=_;rw[jO]
 |.fy e W X,k=>by show(K.deep e λe=>C.AP X λX=>k (.fy e W X))=_;rw[K.eJ,C.EO X]
def C.EO:∀(l:am)(k:am->T),C.AP l k=k l
 |[],k=>rfl
 |x::X,k=>by show(C.deep x λx=>C.AP X λX=>k (x::X))=_;rw[C.eJ x,C.EO X]
end
def Wy(l:bn):(bn->T)->T:=v7 (motive:=λ_=>(bn->T)->T) (λk=>k []) (λx _ V k=>Option.rec (motive:=λ_=>T) (V λX=>k (Z::X)) (λb=>Prod.rec (motive:=λ_=>T) (λt W=>bW t λt=>C.AP W λW=>V λX=>k (U (t,W)::X)) b) x) l
def Wz:∀(l:bn)(k:bn->T),Wy l k=k l
 |[],_=>rfl
 |Z::X,k=>Wz X _
 |U (t,W)::X,k=>by
  show(bW t λt=>C.AP W λW=>Wy X λX=>k (U (t,W)::X))=_;rw[jO,C.EO,Wz]
def S.deep(s:S)(k:S->T):T:=S.rec (motive:=λ_=>T) (λX b W V R av Q P=>C.AP X λX=>Wy b λb=>bW W λW=>bW V λV=>EN R λR=>bW av λav=>bW Q λQ=>EN P λP=>k ⟨X,b,W,V,R,av,Q,P⟩) s
def eJ(s:S)(k:S->T):s.deep k=k s:=by
 cases s;simp only[S.deep,Wu,jO,C.EO,Wz]
def WA(k:XE->S->T):XE->S->T:=λe s=>s.deep (k e)
def apJ(k:XE->S->T):WA k=k:=by funext e s;exact eJ s (k e)
def oc(l:ap):Nat:=v7 (motive:=λ_=>Nat) 0 (λd _ m=>bE (ld 1 d) m) l
def Cq(m n:Nat):Bool:=Ge (motive:=λ_=>Bool) J E (hM (Nat.land 1 (alE m n)) 0)
def afh(m n:Nat):Cq m n=m.testBit n:=by
 have:m.testBit n= !(hM (Nat.land 1 (alE m n)) 0):=by
  show((1&&&(m>>>n))!=0)= !(hM (1&&&(m>>>n)) 0);cases h:hM (1&&&(m>>>n)) 0 with
  |true=>rw[axb h];rfl
  |false=>simp only[bne,Bool.not_false,f9,beq_eq_false_iff_ne];exact λe=>by rw[e] at h;cases h
 rw[this,Cq];cases hM (Nat.land 1 (alE m n)) 0<;>rfl
def PY:∀(l:ap)(n:Nat),(oc l).testBit n=l.contains n
 |[],n=>by simp[oc]
 |d::l,n=>by
  have:oc (d::l)=(1<<<d)|||oc l:=rfl;rw[this,BG,PY l n,alr,axj];rw[uF];simp only[iD,bZ,ov,dJ];exact⟨λh=>h.imp Eq.symm id,λh=>h.imp Eq.symm id⟩
def apK(l:ap)(n:Nat):Cq (oc l) n=l.contains n:=by rw[afh,PY]
def PZ(a:eV)(m X:Nat)(W:am):Nat->am->am
 |_,[]=>[]
 |n,x::V=>(if Cq X n then(tF n a.tm W).getD (if Cq m n then .any else x) else if Cq m n then .any else x)::PZ a m X W (n+1) V
def afi{n:Nat}:∀{W:List (Nat×LK)}{X:am},(W.map (·.1)).contains n=E->tF n W X=Z
 |[],X,_=>by cases X<;>rfl
 |(t,k)::r,[],_=>rfl
 |(t,k)::r,v::R,h=>by
  simp only[ep,List.contains_cons,tc] at h;have V:(t==n)=false:=by
   have:=h.1;simp only[beq_eq_false_iff_ne,ne_eq] at this⊢;exact λe=>this e.symm
  simp only[tF,V,iC,fH];exact afi h.2
def afj(a:eV)(X:ap)(W:am):∀(n:Nat)(l:am),PZ a (oc X) (oc (a.tm.map (·.1))) W n l=ym a X W n l
 |_,[]=>rfl
 |n,x::V=>by
  simp only[PZ,ym,afj a X W (n+1) V,apK];cases R:(a.tm.map (·.1)).contains n with
  |true=>rfl
  |false=>rw[afi R];rfl
def Lx(m:Nat):Nat->am->am->Bool
 |_,[],[]=>J
 |n,x::X,y::W=>(Cq m n||C.aH x y)&&Lx m (n+1) X W
 |_,_,_=>E
def WB(a:eV)(X:ap):∀(n:Nat)(l k:am),Lx (bE (oc X) (oc (a.tm.map (·.1)))) n l k=wj a X n l k
 |_,[],[]=>rfl
 |_,[],_::_=>rfl
 |_,_::_,[]=>rfl
 |n,x::W,y::V=>by
  simp only[Lx,wj,WB a X (n+1) W V];congr 1;have:Cq (bE (oc X) (oc (a.tm.map (·.1)))) n=(a.tm.any (·.1==n)||X.contains n):=by
   rw[afh];change((oc X)|||(oc (a.tm.map (·.1)))).testBit n=_;rw[BG,PY,PY,Bool.or_comm];congr 1;rw[uF,ov,jy];simp only[gL,di]
  rw[this]
def WC(a:eV)(X:ap)(s:S):S:=
 let r:am×S:=S.b9 {s with av:=s.av+1,rs:=iA a s} a.ks
 {r.2 with tmps:=PZ a (oc X) (oc (a.tm.map (·.1))) r.1 0 s.tmps,ak:=rQ a (r.1.drop (Y a.tm)) 0 s.ak}
def apL(a:eV)(X:ap)(s:S):WC a X s=pl a X s:=by
 simp only[WC,pl,afj]
def WD(W:eV)(V:ap)(s:S)(k:XE->S->T):XE->S->T
 |.normal,X=>if Lx (bE (oc V) (oc (W.tm.map (·.1)))) 0 s.tmps X.tmps&&qQ W 0 s.ak X.ak&&qR X W.ks (jI W X)&&wi (iA W s) X.rs&&D5 (iA W s) (D4 W X)&&decide (X.pd=s.pd) then .back s.av (jI W X) else .stuck (aa4 W s X)
 |e,X=>k e X
def apM(X:eV)(W:ap)(s:S)(k:XE->S->T):WD X W s k=Oi X W s k:=by
 funext e V;cases e<;>simp only[WD,Oi,WB]
def jp(X:bi):Nat->FuncId->Code->S->YH->(XE->S->T)->T
 |0,_,_,_,_,_=>.stuck ""
 |n+1,R,c,s,W,k=>
  match c with
  |.skip=>k .normal s
  |.label _=>k .normal s
  |.ret=>k .ret s
  |.exit id=>k (.exit id) s
  |.seq a b=>jp X n R a s W (J7 (λP=>jp X n R b P W k) k)
  |.block id a=>jp X n R a s W (TW id k)
  |.scope a=>jp X n R a s W k
  |.cond c a b=>match s.ev X.gl c with
   |.bool (.c J)=>jp X n R a s W k
   |.bool (.c E)=>jp X n R b s W k
   |.bool x=>match c with
    |.tmp t=>.aS x (jp X n R a {s with tmps:=s.tmps.set t (.bool (.c J))} W k) (jp X n R b {s with tmps:=s.tmps.set t (.bool (.c E))} W k)
    |_=>.stuck ""
   |_=>.stuck ""
  |.region id V N=>match On X R id s with
   |U (e,G,fU,ac)=>GF e fU (T9 (λP=>jp X n R (.region id V N) P W k) ac) (λP=>jp X n R (.region id V N) P W k) G
   |none=>s.Wv λs=>if N then
    match J6 (X.DT R (id+2000000)) V with
    |U o=>(match PV V.pop (Y s.ak) with
     |U O=>if !yq X V.pop.toList then .stuck "" else wP X (qT X (yt X V.pop λf c s k=>jp X n f c s gM k) W) V.pop (λP=>wP X (iZ X (λf c s k=>jp X n f c s W k) W) V (k .normal) (λv=>k (.aW v)) (fh (λ_=>E) J E (V.size-1) (Y P.ak) [o]) P []) (λv=>k (.aW v)) O (s.rW V.pop O) []
     |none=>.stuck "")
    |none=>
    match PW X (!X.DT R id) V s with
    |U c=>Kf X (iZ X (λf c s k=>jp X n f c s W k) W) V (WA k) c
    |none=>match PV V (Y s.ak) with
    |U O=>if !yq X V.toList then .stuck "" else wP X (qT X (yt X V λf c s k=>jp X n f c s gM k) W) V (k .normal) (λv=>k (.aW v)) O (s.rW V O) []
    |none=>match PW X E V s with
     |U c=>Kf X (iZ X (λf c s k=>jp X n f c s W k) W) V (WA k) c
     |none=>.stuck ""
   else
   wP X (TX (X.DT R (id+1000000)) X (iZ X (λf c s k=>jp X n f c s W k) W)) V (k .normal) (λv=>k (.aW v)) (fh (λ_=>E) J E 0 (Y s.ak) V.toList) (s.room (kL V.toList)) []
  |.loop a=>match(Code.first a).map (X.loop R) with
   |U (.inv Q)=>
    if !(Ua Q s).isEmpty then jp X n R (.loop a) (s.cM Q) W k else
    if !s.bd|| !qR s (Q.at s).ks (jI (Q.at s) s)|| !Lx (bE (oc (Code.nu a)) (oc ((Q.at s).tm.map (·.1)))) 0 s.tmps s.tmps|| !qQ (Q.at s) 0 s.ak s.ak|| !wi (iA (Q.at s) s) s.rs|| !D5 (iA (Q.at s) s) (D4 (Q.at s) s) then .stuck (aa5 (Q.at s) (Code.nu a) s) else
    .loop s.av (Q.at s).ks (jI (Q.at s) s) (jp X n R a (WC (Q.at s) (Code.nu a) s) W (WD (Q.at s) (Code.nu a) s k))
   |_=>jp X n R a s W (J7 (λP=>jp X n R (.loop a) P W k) k)
  |.rangeFunc f L assign body=>match s.ev X.gl f with
   |.fn g M=>match X.inl g with
    |U (c,F,[])=>
     if !s.eD M||s.uU (Y s.pd)||C.nU (Y s.pd) M||jk assign||jk body|| !iW g 1000000 then .stuck "" else
     jp X n g c (GD s F M)
      (Kc (Y s.pd) L.size λD H B A=>
       jp X n R assign (Aq H s L.toList D) gM (Kb (Y s.pd) λz=>
        jp X n R body (z.Ar (Y s.pd) .busy) W (Oj (Y s.pd) H B A))) (Eg s k)
    |_=>.stuck ""
   |_=>.stuck ""
  |_=>.stuck ""
def Ly(X:bi):∀n,jp X n=eY X n
 |0=>by funext W c s V k;rfl
 |n+1=>by
  have R:=Ly X n;funext W c s V k;unfold jp eY;simp only[R,Lv,apC,apE,apF,WB,apL,apM,apJ];cases c<;>rfl
def WE(X:bi)(n:Nat)(V:FuncId)(c:Code)(R:Nat)(Q:lg)(W:am)(s:S):T:=
 jp X n V c {s with tmps:=W++ew (R-Y W) (.bA [])} gM (Oo X (Y s.ak) Q)
def apN(X:bi)(n:Nat)(W:FuncId)(c:Code)(V:Nat)(R:lg)(Q:am)(s:S):WE X n W c V R Q s=Kh X n W c V R Q s:=by
 unfold WE Kh;rw[Ly]
def P0(X:bi)(n:Nat)(Q:FuncId)(c:Code)(P:Nat)(O:lg)(V:TypeId)(R:am)(s:S):T:=match pm c with
 |U d=>wP X (iZ X (λf c s k=>jp X n f c s gM k) gM) d.qU (λW=>match W.tmps[d.te]? with
  |U (.loc i 0)=>if !ow V&&aF W.ak i&&decide (d.tf<Y W.tmps)&&iW d.g 1000000 then jp X n Q d.rest (W.put (U d.tf) (.fn d.g [.loc i 0])) gM (Uc X (Y s.ak) V i O) else .stuck ""
  |_=>.stuck "") (λ_ _=>.stuck "") (fh (λ_=>E) J E 0 (Y s.ak) d.qU.toList) (({s with tmps:=R++ew (P-Y R) (C.bA [])}:S).room (kL d.qU.toList)) []
 |none=>.stuck ""
def apO(X:bi)(n:Nat)(W:FuncId)(c:Code)(V:Nat)(R:lg)(Q:TypeId)(P:am)(s:S):P0 X n W c V R Q P s=Ki X n W c V R Q P s:=by
 unfold P0 Ki;cases pm c with
 |none=>rfl
 |some d=>
  simp only[Ly,Lv];rfl
def afk:nM->Option (FuncId×Nat)
 |[o]=>match o.op,o.guard,o.dst with
  |.defer X,Z,Z=>match X.callee,X.args.toList with
   |.value (.func g),[.tmp W]=>U (g,W)
   |_,_=>Z
  |_,_,_=>Z
 |_=>Z
def Lz:Code->Option (FuncId×Nat)
 |.region _ X E=>afk X.toList
 |_=>Z
def afl(cf:bi)(r:Nat)(w:TypeId)(W:Nat)(j:lg):XE->S->T
 |.normal,X=>pU cf r j X
 |.ret,X=>pU cf r j X
 |.aW v,X=>match v with
  |.fT t (.agg [.int I x])=>match bM X.ak W with
   |U (V,[.int I _])=>if t==w&&w !=0&& !ow V then pU cf r j {X with ak:=X.ak.set W (U (V,[.int I x]))} else .stuck "panic"
   |_=>.stuck "panic"
  |_=>.stuck "panic"
 |.exit _,_=>.stuck "exit"
def P1(cf:bi)(n:Nat)(X:db)(k:S->T)(s:S):T:=wP cf (iZ cf (λf c s k=>jp cf n f c s gM k) gM) X k (λ_ _=>.stuck "panic") (fh (λ_=>E) J E 0 (Y s.ak) X.toList) (s.room (kL X.toList)) []
def WF(cf:bi)(n r:Nat)(j:lg):Code->S->T
 |.ret,s=>pU cf r j s
 |.seq (.region _ X E) .ret,s=>P1 cf n X (pU cf r j) s
 |_,_=>.stuck "early"
def HW(cf:bi)(n r:Nat)(j:lg):Code->(S->T)->S->T
 |.region _ X E,k,s=>P1 cf n X k s
 |.seq a b,k,s=>HW cf n r j a (HW cf n r j b k) s
 |.cond c a .skip,k,s=>match s.ev cf.gl c with
  |.bool x=>.aS x (WF cf n r j a s) (k s)
  |_=>.stuck "cond"
 |_,_,_=>.stuck "prefix"
def P2(cf:bi)(w:TypeId)(n:Nat)(X:FuncId)(r:Nat)(j:lg):Code->S->T
 |.seq a W,s=>match Lz a with
  |U (_,V)=>match s.tmps[V]? with
   |U (.loc i 0)=>if aF s.ak i then jp cf n X W s gM (afl cf r w i j) else .stuck "defer"
   |_=>.stuck "defer"
  |none=>HW cf n r j a (P2 cf w n X r j W) s
 |_,_=>.stuck "no deferred call"
def P3(cf:bi)(w:TypeId)(n:Nat)(W:FuncId)(c:Code)(V:Nat)(j:lg)(X:am)(s:S):T:=P2 cf w n W (Y s.ak) j c {s with tmps:=X++ew (V-Y X) (.bA [])}
structure AQ(P:Program)(g:FuncId)(w:TypeId):Prop where
 wG:∀args W,(callFunc g args).run P W=.ok (.enter g args) W
 ret:∀(W:World)(b:Nat),CallsDIn Fence.wide 0 P g #[.pointer (U ⟨b,0,Z⟩)] .returning W λen u W'=>(∃v,en=.returned v)/\u=.returning/\W'=W
 aW:w≠0->∀(W:World)(b:Nat)(t:TypeId)(k0 k:Int),W.heap[b]?=U (.cells #[.int I k0] t (0,0))->CallsDIn Fence.wide 0 P g #[.pointer (U ⟨b,0,Z⟩)] (.panicking [{v:=.iface w (.agg #[.int I k]),recovered:=E}]) W λen u W'=>
  (∃v,en=.returned v)/\u=.panicking [{v:=.iface w (.agg #[.int I k]),recovered:=J}]/\Below W.heap.size (W.putObj b (.cells #[.int I k] t (0,0))) W'
def AR:Code->Option FuncId
 |.seq a X=>match Lz a with
  |U (g,_)=>U g
  |none=>AR X
 |_=>Z
section
variable{p:Sp}{cf:bi}{D:bI}{B:iG}{f:FuncId}{n r:Nat}{j:lg}{w:TypeId}
def afm(w:iB p cf)(c:∀q e,¬p.R (.panicked q) e)(b:nZ p cf D.cV B gM){Q:Exit->Act->World->Prop}{u:db}{k:S->T}{L:cX}{a:Act}
  (hB:B.j5 v y x L)(h:(P1 cf n u k v).aG p y L)(R:ax p.S0 p.w0 D cf.ty x y v a e)(hg:et cf.gl y)
  (hk:∀F A t z G r,bj v y x F A t->cz v.av L r->ax p.S0 p.w0 D cf.ty t A F z G->(k F).aG p A r->Q .normal z G):iH Z f p.P (.region N u E) Q a e:=by
 obtain⟨Rr,m⟩:=R.room (kL u.toList);refine sf (n:=0) (wpIn_region ?_);unfold P1 at h;rw[Lv,Ly] at h;have l:=wE (ops:=u) w.pt w.uQ (u9 Z) w.jB (EG w (HG w n).1 b) (D:=D) (k:=k) (kp:=λ_ _=>.stuck "panic") (Q:=Q) (λq z G pd X hA hR=>(c q G hR).elim) (n:=0) (fh (λ_=>E) J E 0 (Y v.ak) u.toList) 0 _ [] L y _ _ e
  (λN m' hi=>by have:=EF _ _ _ _ _ _ _ _ hi;simpa using this) (hB.go m (cz.refl _ _)) h (λM hx=>by cases hx) Rr hg (λF A t z G r j g d o=>hk F A t z G r (m.trans j) g d o) (λH F A t z G r j g d o=>o.elim)
 rw[K7] at l;simpa[NF] using l
def apP(z:iB p cf)(w:∀u e,¬p.R (.panicked u) e)(t:nZ p cf D.cV B gM){Q:Exit->Act->World->Prop}{c:Code}{L:cX}{a:Act}
  (q:B.j5 v y x L)(h:(WF cf n r j c v).aG p y L)(R:ax p.S0 p.w0 D cf.ty x y v a e)(o:et cf.gl y)
  (A:∀X N G M H F,ax p.S0 p.w0 D cf.ty G N X M H->(pU cf r j X).aG p N F->Q .ret M H):iH Z f p.P c Q a e:=by
 unfold WF at h;split at h;exact sf (n:=0) (wpIn_ret (A v y x a e L R h));refine ED (afm z w t q h R o ?_);intro X N G M H F _ _ m l;exact sf (n:=0) (wpIn_ret (A X N G M H F m l));exact h.elim
def apQ(g:iB p cf)(e:∀ch W,¬p.R (.panicked ch) W)(hY:nZ p cf D.cV B gM):∀(c:Code)(k:S->T)(Q:Exit->Act->World->Prop)(s:S)(L:cX)(O:ai)(V:ap)(a:Act)(W:World),
  B.j5 s O V L->(HW cf n r j c k s).aG p O L->ax p.S0 p.w0 D cf.ty V O s a W->et cf.gl O->
  (∀X N A H G w,bj s O V X N A->cz s.av L w->ax p.S0 p.w0 D cf.ty A N X H G->(k X).aG p N w->Q .normal H G)->
  (∀X N A H G w,ax p.S0 p.w0 D cf.ty A N X H G->(pU cf r j X).aG p N w->Q .ret H G)->iH Z f p.P c Q a W:=by
 intro c;induction c with
 |region i a3 d=>
  intro k Q s L O V a W F h R M v u;cases d with
  |true=>exact False.elim h
  |false=>exact afm g e hY F h R M v
 |seq x y ag af=>
  intro k Q s L O V a W F h R M v u;refine ED (ag (HW cf n r j y k) _ s L O V a W F h R M ?_ ?_);intro X N A H G w q hL R' al;refine af k Q X w N A H G (F.go q hL) al R' (M.ext q.ext) ?_ u;intro s2 O2 V2 a2 W2 L2 an a0 R2 a1;exact v s2 O2 V2 a2 W2 L2 (q.trans an) (cz.trans (m:=X.av) hL a0 q.av) R2 a1;exact u
 |cond x y z af a4=>
  intro k Q s L O V a W F h R M v u;cases z with
  |skip=>
   simp only[HW] at h;split at h;rename_i b hc;have l:=cK R M x (by rw[hc];rfl);rw[hc] at l;cases o:b.ab O;exact Hy (t:=E) (by simpa[C.ab,o] using l) (sf (n:=0) (wpIn_skip (v s O V a W L (bj.refl _ _ _) (cz.refl _ _) R (h.2 o))));exact Hy (t:=J) (by simpa[C.ab,o] using l) (apP g e hY F (h.1 o) R M u);exact h.elim
  |_=>exact False.elim h
 |_=>intro k Q s L O V a W F h R M v u;exact False.elim h
def WH(X:iB p cf){Q:Func}{a:Act}{L:cX}(R:ax p.S0 p.w0 D cf.ty x y v a e)(h:(pU cf r Q.results.toList v).aG p y L):
  LeavesInM Fence.wide 0 p.P Q a.tmps p.R [] .returning e:=by
 unfold pU at h;split at h;rename_i l N;refine⟨_,Hh R X.jB N, ?_⟩;exact h y.y x _ (by rw[X.pt];exact(R.mem.take _).lx (La _));exact h.elim
def apR{c:Code}(h:Lz c=U (t,N)):∃i o X,c=.region i #[o] E/\o.op=.defer X/\X.callee=.value (.func t)/\X.args= #[.tmp N]/\o.guard=Z/\o.dst=none:=by
 unfold Lz at h;split at h;rename_i i W;unfold afk at h;split at h;rename_i o V;split at h;rename_i X R Q P;split at h;rename_i L H O M;simp only[cg,BH] at h;obtain⟨rfl,rfl⟩:=h;exact⟨i,o,X,by rw[show W= #[o] by apply kG;simp[V]],R,O,by apply kG;simp[M],Q,P⟩;cases h;cases h;cases h;cases h
def apS(m:iB p cf)(a0:∀ch W,¬p.R (.panicked ch) W){M:Func}(hf:p.P.funcs[f]?=U M)(hY:nZ p cf [] B gM):∀(c:Code)(s:S)(L:cX)(O:ai)(V:ap)(a:Act)(W:World),
  (∀g,AR c=U g->AQ p.P g w)->B.j5 s O V L->(P2 cf w n f r M.results.toList c s).aG p O L->ax p.S0 p.w0 ⟨[],[],J,[]⟩ cf.ty V O s a W->et cf.gl O->
  iH Z f p.P c (bodyPostM Fence.wide 0 p.P M p.R) a W:=by
 intro c;induction c with
 |seq x a1 _ ih=>
  intro s L O V a W ag hB h R z;simp only[P2] at h;cases F:Lz x with
  |none=>
   rw[F] at h;simp only at h;refine ED (apQ (D:=⟨[],[],J,[]⟩) m a0 hY x _ _ s L O V a W hB h R z ?_ ?_);intro l t k Q H j b hL R' al;exact ih l j t k Q H (λg bk=>ag g (by simp only[AR,F];exact bk)) (hB.go b hL) al R' (z.ext b.ext);intro l t k Q H j R' al;obtain⟨ms,A,q0,-,-⟩:=R'.cQ.kQ;have:=q0 rfl;subst this;show LeavesInM Fence.wide 0 p.P M Q.tmps p.R Q.defers .returning H;rw[show Q.defers=[] by simpa using A];exact WH m R' al
  |some q=>
   obtain⟨g,te⟩:=q;rw[F] at h;simp only at h;obtain⟨i,o,dc,rfl,g1,g2,g3,g4,g5⟩:=apR F;have hc:=ag g (by simp only[AR,F]);split at h;rename_i G bl;split at h;rename_i br;have bs:a.tmps[te]?=U (.pointer (U ⟨ad V G,0,Z⟩)):=by
    rcases R.tmps _ _ bl with h|h;cases h;exact h
   have bx:a.defers=[]:=by
    obtain⟨ms,A,q0,-,-⟩:=R.cQ.kQ;have:=q0 rfl;subst this;simpa using A
   obtain⟨X,af⟩:∃X:Deferred,X={target:=.fn (.func g) #[],args:= #[.pointer (U ⟨ad V G,0,Z⟩)]}:=⟨_,rfl⟩;have b0:dR p.w0 ⟨[],[],E,[X]⟩ s.pd O.y [X] W:=by
    have h:=R.cQ;exact⟨h.len,h.oD,h.cV,h.inj,[],rfl,λ_=>rfl,au,λd F=>by simp at F⟩
   have R2:ax p.S0 p.w0 ⟨[],[],E,[X]⟩ cf.ty V O s {a with defers:=[X]} W:=⟨R.mem,R.fM,R.ei,R.eb,R.er,b0,R.size,R.tmps,R.fz⟩;refine ED (sf (n:=0) (wpIn_region ?_));have b1:e8 (#[o]:db).size=[0]:=rfl;rw[b1];have e2:(execOp a.eval o).run p.P W=.ok (.defer X) W:=by
    have:a.eval (.tmp te)=.pointer (U ⟨ad V G,0,Z⟩):=by simp[Act.eval,Tj,bs]
    have h0:a.eval (.func g)=.func (.func g) #[] #[]:=rfl;simp[execOp,g1,resolve,g2,g3,this,h0,Deferred.ofValue,af]
   have b2:∀y,jH o y=true:=λy=>by simp[jH,g4]
   have hF:=u9 Z;show wpOpsIn _ 0 p.P #[o] _ [0] a W;simp only[wpOpsIn,aay,xR,b2,cH];refine⟨λf _=>hF.fn f, ?_⟩;rw[show(K0 Z).round=Z from rfl,aly,e2,axw];have b3:({a with defers:=X::a.defers}:Act).put o.dst undef={a with defers:=[X]}:=by
    rw[g5,bx];rfl
   rw[b3];show iH Z f p.P a1 (bodyPostM Fence.wide 0 p.P M p.R) _ W;rw[Ly] at h;refine(HG m n).1 ⟨[],[],E,[X]⟩ _ gM Z f a1 _ _ L O V _ W _ (Ck _ _) (iG.here s O V L) rfl (λhh=>by cases hh) ⟨M,hf⟩ h R2 z (λch Q H pd y hA hR=>(a0 ch H hR).elim) ?_;intro e l t k Q H j b hL RR N;obtain⟨a3,A,q0,q2,q3⟩:=RR.cQ.kQ;have R3:=RR.py A;have a4:∀d0∈a3,H.heap[d0]?=U (.deferred (U [])):=λd0 b4=>(q3 d0 (by simp[b4])).1
   have a9:a3.Nodup:=(uE.1 q2).1;have ba:∀Wx,(invoke X.target X.args).run p.P Wx=.ok (.enter g #[.pointer (U ⟨ad V G,0,Z⟩)]) Wx:=λWx=>by
    rw[af];simp[invoke,hc.wG]
   have bb:(pU cf r M.results.toList l).aG p t j->LeavesInM Fence.wide 0 p.P M Q.tmps p.R Q.defers .returning H:=by
    intro b5;rw[A];refine p7 au a9 a4 ⟨au,.inr ⟨by simp[Fence.wide],_,_,_,_,by rw[af],ba _,λg z=>trivial, ?_⟩⟩;refine(hc.ret _ _).mono ?_;rintro en u W4 ⟨⟨v,rfl⟩,rfl,rfl⟩;exact WH (a:={Q with defers:=[X]}) m R3 b5
   cases e with
   |normal=>exact bb N
   |ret=>exact bb N
   |exit id=>exact N.elim
   |aW v=>
    simp only[afl] at N;split at N;rename_i tt x;split at N;rename_i bt y bc;split at N;rename_i bd;simp only[aw,di,bne_iff_ne,f9] at bd;obtain⟨⟨rfl,b6⟩,bf⟩:=bd;have bg:ad k G=ad V G:=b.ext.ad G br;have an:=R3.mem.box G bt _ bc;rw[pu bf] at an;rw[bg] at an;show LeavesInM Fence.wide 0 p.P M Q.tmps p.R Q.defers (.panicking _) H;rw[A];refine p7 au a9 a4 ⟨au,.inr ⟨by simp[Fence.wide],_,_,_,_,by rw[af],ba _,λg z=>trivial, ?_⟩⟩;refine(hc.aW b6 _ (ad V G) bt (y.ab t) (x.ab t) an).mono ?_;rintro en u W4 ⟨⟨v,rfl⟩,rfl,b7⟩;have R4:=R3.UU (cs':=[.int I x]) bc;rw[pu bf,bg] at R4;exact WH (a:={Q with defers:=[X]}) m (R4.below (by rw[alv];exact b7)) N;exact N.elim;exact N.elim;exact N.elim
   exact h.elim;exact h.elim
 |_=>intro s L O V a W ag hB h R z;exact False.elim h
def apT(N:iB p cf)(M:∀L W,¬p.R (.panicked L) W){X:Func}{c:Code}(Q:p.P.funcs[f]?=U X)(H:X.body=U c)(G:∀g,AR c=U g->AQ p.P g w)
    (F:(P3 cf w n f c X.ntmps X.results.toList l v).aG p y [])(A:et cf.gl y)(R:ax p.S0 p.w0 bI.none cf.ty x y {v with tmps:=[]} ⟨#[],[]⟩ p.w0):
  Calls p.P f (C.ay y x l).toArray p.w0 p.R:=by
 refine Hz Q H ?_;have z:dR p.w0 ⟨[],[],J,[]⟩ v.pd y.y [] p.w0:=by
  have h:=R.cQ;exact⟨h.len,h.oD,h.cV,h.inj,[],rfl,λ_=>rfl,au,λd u=>by simp at u⟩
 have RE:=R.enter l X.ntmps z;exact apS N M Q (Ck (p:=p) (cf:=cf) [] ⟨{v with tmps:=l++ew (X.ntmps-Y l) (.bA [])},y,x,[]⟩) c _ [] y x _ p.w0 G (iG.here _ _ _ _) F RE A
end
def EP(cf:bi)(Q:Option TypeId)(n:Nat)(X:FuncId)(c:Code)(W:Nat)(j:lg)(V:am)(s:S):T:=match Q with
 |none=>WE cf n X c W j V s
 |U R=>match pm c with
  |U _=>P0 cf n X c W j R V s
  |none=>P3 cf R n X c W j V s
def tV(P:Program)(c:Code)(W:Option TypeId):Prop:=match W with
 |none=>True
 |U X=>match pm c with
  |U d=>vd P d.g X
  |none=>∀g,AR c=U g->AQ P g X
def tV.erl{P:Program}{c:Code}{X:TypeId}(W:pm c=Z)(h:tV P c (U X)):∀g,AR c=U g->AQ P g X:=by
 simp only[tV,W] at h;exact h
def tV.d{P:Program}{c:Code}{X:TypeId}{d:DI}(W:pm c=U d)(h:tV P c (U X)):vd P d.g X:=by
 simp only[tV,W] at h;exact h
def apV{cf:bi}{c:Code}{X:Nat}{j:lg}(W:pm c=Z):EP cf (U h) N t c X j l v=P3 cf h N t c X j l v:=by
 simp only[EP,W]
def apW{cf:bi}{c:Code}{X:Nat}{j:lg}{d:DI}(W:pm c=U d):EP cf (U h) N t c X j l v=P0 cf N t c X j h l v:=by
 simp only[EP,W]
section
variable{P:Program}{a:Ty}{M Q:FuncId->pQ}{be:md}{G:World->Prop}{H A:iX}{X d:aI}
def apX{cf:bi}{x:Func}{c:Code}{F:aX->jC}{glk:aY}{glv:aC}{V:am}{q m:Nat}
  (al:∀w R,(∀u W L o,w.heap.size<=L->R (.panicked u) W->R (.panicked u) (W.putObj L o))->iB ⟨P,a,[],w,bI.none,R,λ_ _ _=>False⟩ cf)(an:cf.ty=a)(a0:∀t,AO P a M Q G t (be t))(hG:∀W s,Below W.heap.size W s->G W->G s)
  (hf:P.funcs[t]?=U x)(hb:x.body=U c)(a1:∀D,AR c=U D->AQ P D h)(a3:M t=U A)(a4:Q t=U H)(a9:gH a A=U d)(j:gH a H=U X)
  (hl:jo a A l=U V)(ba:p8 0 0 (Y glv) d V=J)(bb:g=glk++iP d)(bc:∀(k:Nat)(b:TypeId),g[k]?≠U (.own b))(bd:Y glv=Y glk)(hq:glv=[]\/sn X=J)
  (bf:∀y z,ee d z->(fp y z).i.length=q)(bg:∀y z,ee d z->(fp y z).b.length=m)
  (bk:∀W,G W->∃y,HV a cf.gl glk glv W y)
  (ht:∀(p:Sp)(O:ai),b.aG p O []->(P3 cf h N t c x.ntmps x.results.toList l ⟨[],[],q,m,g,0,0,[]⟩).aG p O [])(bl:∀z v,F z≠U (.aW v))
  (hF:∀z o,ee d z->F z=U o->∃B,run a M Q be H B b (fp glv z) g []=U o):AO P a M Q G t F:=by
 intro bs bt bx b0 e h2 h3 h4 xh z o ho hx af W ag hH;rw[a3] at e;cases e;rw[a4] at h2;cases h2;rw[a9] at h3;cases h3;rw[j] at h4;cases h4;obtain⟨B,hN⟩:=hF xh o (PL af hx) ho;obtain⟨y,hL⟩:=bk W ag;obtain⟨br,hv,r⟩:=Wr an a0 hG j hl ba bb bc bd hq bf bg ag hL hN hx af hH;rw[<-hv];refine apT (p:=HQ P a W H X d z o) (cf:=cf) (al W _ (Wo W)) (λu s r=> ?_) hf hb a1 (ht _ _ br) (hL.Wq z) r;obtain⟨-,v,h5,-⟩:=r;exact bl xh v (by rw[ho,h5])
end
section
variable{be u:md}
def ny(L:∀f H o,be f H=U o->u f H=U o):∀(n R:Nat)(t:T)(O:ai)(i:lB)(o:aU),n<=R->exec be n t O i=U o->exec u R t O i=U o
 |0,_,t,O,i,o,_,h=>by simp[exec] at h
 |n+1,0,t,O,i,o,G,h=>aa
 |n+1,R+1,t,O,i,o,G,h=>by
  have X:=ny L n R;cases t with
  |ret v F Q=>simpa only[exec] using h
  |aW v=>simpa only[exec] using h
  |aS b t f=>
   simp only[exec] at h⊢;split at h;rename_i W;rw[aE W];exact X t O i o aa h;rename_i W;rw[aJ W];exact X f O i o aa h
  |aN b t=>
   simp only[exec] at h⊢;split at h;rename_i W;rw[aE W];exact X t O i o aa h;cases h
  |call f D F Q B iE t=>
   simp only[exec] at h⊢;cases N:be f ((oK D).map (C.xv O)) with
   |none=>rw[N] at h;cases h
   |some r=>
    rw[N] at h;rw[L _ _ _ N];cases r with
    |ret y=>
     simp only at h⊢;split at h;rename_i P;rw[aE P];exact X t _ i o aa h;cases h
    |aW v=>exact h
  |loop av B w t=>
   simp only[exec] at h⊢;exact X t _ _ o aa h
  |back av x=>
   simp only[exec] at h⊢;cases P:yP av i with
   |none=>rw[P] at h;cases h
   |some q=>
    obtain⟨A,p⟩:=q;rw[P] at h;exact X A.t _ _ o aa h
  |new e x Q l t=>
   simp only[exec] at h⊢;exact X t _ i o aa h
  |ae k x Q t=>
   simp only[exec] at h⊢;exact X t _ i o aa h
  |fU g z t f=>
   simp only[exec] at h⊢;split at h;rename_i M;rw[aE M];split at h;rename_i V;rw[aE V];exact aeW h (X t O i o aa) (X f O i o aa);rename_i V;rw[aJ V];exact X t O i o aa h;rename_i M;rw[aJ M];split at h;rename_i V;rw[aE V];exact X f O i o aa h;cases h
  |pick m g z t f=>
   simp only[exec] at h⊢;refine aeX h λj _ q=> ?_
   cases j with
   |some j=>exact X t _ i o aa q
   |none=>exact X f _ i o aa q
  |dK f g e d c r Q t=>
   simp only[exec] at h⊢;split at h;rename_i a af;exact X t _ i o aa h;cases h
  |out e s=>simp[exec] at h
  |stuck m=>simp[exec] at h
end
def iV(n:Int):RV:=.mk (.int I n) []
def bV(b:Bool):RV:=.mk (.bool b) []
def sV(l:aZ):RV:=.mk (.slice Z (Y l) (Y l)) (l.map λn=>[iV n])
def AS(b:Nat)(X:aq):RV:=.mk (.slice (U ⟨b,0,Z⟩) (Y X) (Y X)) X
def HX:aC:=[
 AS 0 ([(E,E,E,0,0,0),(J,J,E,1,0,16),(E,J,E,1,0,16),(J,J,E,0,3,0),(J,J,E,0,3,0),(E,J,E,0,3,0),(E,E,E,0,0,7),(E,E,J,0,0,0),(E,E,J,0,0,0),(J,E,E,0,3,0)].map λ(a,b,c,d,e,f)=>[bV a,bV b,bV c,iV d,iV e,iV f]),
 AS 1 ([([],[]),([0],[]),([],[0,1]),([0],[]),([2],[]),([],[4]),([],[]),([],[2,3]),([],[0,1]),([2],[])].map λ(a,b)=>[sV a,sV b]),
 AS 3 ([(0,29),(20,21),(29,0),(20,-21),(0,-29),(-20,-21),(-29,0),(-20,21)].map λ(a,b)=>[iV a,iV b])]
def kV(g:Bool):aC:=if g then HX else[]
def yR(d:Bool):jC->jC
 |U (.ret X)=>U (.ret X)
 |U (.aW v)=>if d then Z else U (.aW v)
 |none=>Z
structure Fn where
 t:T
 g:Bool:=E
 d:Bool:=E
structure j8 where
 tree:FuncId->Option Fn
 q9:md
def j8.be(p:j8):Nat->md
 |0=>p.q9
 |n+1=>λf W=>match p.q9 f W with
  |U o=>U o
  |none=>match p.tree f with
   |U X=>yR X.d (exec (j8.be p n) n X.t (fp (kV X.g) W) [])
   |none=>Z
def mg{p:j8}:∀(n W:Nat)(f:FuncId)(X:aX)(o:aU),n<=W->p.be n f X=U o->p.be W f X=U o
 |0,0,f,X,o,_,h=>h
 |0,W+1,f,X,o,_,h=>by
  simp only[j8.be] at h⊢;rw[h]
 |n+1,0,f,X,o,M,_=>aa
 |n+1,W+1,f,X,o,M,h=>by
  simp only[j8.be] at h⊢;cases Q:p.q9 f X with
  |some P=>rw[Q] at h;exact h
  |none=>
   rw[Q] at h;simp only at h⊢;cases N:p.tree f with
   |none=>rw[N] at h;cases h
   |some V=>
    rw[N] at h;simp only at h⊢;cases R:exec (p.be n) n V.t (fp (kV V.g) X) [] with
    |none=>rw[R] at h;cases h
    |some P=>
     rw[R] at h;rw[ny (λf X o h=>mg n W f X o aa h) n W V.t _ _ P aa R];exact h
def j8.Ev(p:j8)(f:FuncId)(X:aX)(o:aU):Prop:=∃n,p.be n f X=U o
def j8.Go(p:j8)(t:T)(O:ai)(i:lB)(o:aU):Prop:=∃n,exec (p.be n) n t O i=U o
section
variable{p:j8}{O:ai}{i:lB}{o:aU}
def afn{X:aX}(h:p.q9 t X=U o):p.Ev t X o:=⟨0,h⟩
def apY{W:aX}{X:Fn}(Q:p.tree t=U X)(P:p.q9 t W=Z)(V:X.d=E\/∃R,o=.ret R)(h:p.Go X.t (fp (kV X.g) W) [] o):p.Ev t W o:=by
 obtain⟨n,h⟩:=h;refine⟨n+1, ?_⟩;simp only[j8.be,P,Q,h];rcases V with V|⟨R,rfl⟩;cases o<;>simp[yR,V];rfl
def go_of:p.Go b O i o<->∃n,exec (p.be (n+1)) (n+1) b O i=U o:=
 ⟨λ⟨n,h⟩=>⟨n,ny (λf X o h=>mg n (n+1) f X o aa h) n (n+1) b O i o aa h⟩,λ⟨n,h⟩=>⟨n+1,h⟩⟩
def go_up{m:Nat}(h:exec (p.be N) m b O i=U o):p.Go b O i o:=
 ⟨max N m,ny (λf X o h=>mg N _ f X o aa h) m _ b O i o aa h⟩
@[simp] def go_ret {v:C} {X:bn}:p.Go (.ret v X g) O i o<->o=.ret ((yO v).map (C.xv O)):=by
 rw[go_of];simp only[exec,cg];exact⟨λ⟨_,h⟩=>h.symm,λh=>⟨0,h.symm⟩⟩
@[simp] def go_pan {v:C}:p.Go (.aW v) O i o<->(EJ O v).map .aW=U o:=by
 rw[go_of];simp only[exec];exact⟨λ⟨_,h⟩=>h,λh=>⟨0,h⟩⟩
@[simp] def go_node {X:BE} {f:T}:p.Go (.aS X b f) O i o<->if X.ab O=J then p.Go b O i o else p.Go f O i o:=by
 rw[go_of];simp only[exec];split
 ·exact⟨λ⟨n,h⟩=>go_up h,λ⟨n,h⟩=>⟨n,ny (λf W o h=>mg n (n+1) f W o aa h) n n b O i o aa h⟩⟩
 ·exact⟨λ⟨n,h⟩=>go_up h,λ⟨n,h⟩=>⟨n,ny (λf W o h=>mg n (n+1) f W o aa h) n n f O i o aa h⟩⟩
@[simp] def go_need {X:BE}:p.Go (.aN X b) O i o<->X.ab O=J/\p.Go b O i o:=by
 rw[go_of];simp only[exec];by_cases W:X.ab O=J
 ·simp only[W,cH,true_and];exact⟨λ⟨n,h⟩=>go_up h,λ⟨n,h⟩=>⟨n,ny (λf V o h=>mg n (n+1) f V o aa h) n n b O i o aa h⟩⟩
 simp[W]
@[simp] def go_loop {X:aI}:p.Go (.loop N X l b) O i o<->p.Go b (O.ext (l.map (C.xv O))) (⟨N,b,O⟩::i) o:=by
 rw[go_of];simp only[exec];exact⟨λ⟨n,h⟩=>go_up h,λ⟨n,h⟩=>⟨n,ny (λf W o h=>mg n (n+1) f W o aa h) n n b _ _ o aa h⟩⟩
@[simp] def go_new {e:TypeId} {x:LE} {X W:aY} {t:T}:p.Go (.new e x X W t) O i o<->p.Go t (O.add (.r (gI x O))) i o:=by
 rw[go_of];simp only[exec];exact⟨λ⟨n,h⟩=>go_up h,λ⟨n,h⟩=>⟨n,ny (λf V o h=>mg n (n+1) f V o aa h) n n t _ _ o aa h⟩⟩
@[simp] def go_rows {k:RK} {x:LE}:p.Go (.ae k x g b) O i o<->p.Go b (O.add (.r (gI x O))) i o:=by
 rw[go_of];simp only[exec];exact⟨λ⟨n,h⟩=>go_up h,λ⟨n,h⟩=>⟨n,ny (λf X o h=>mg n (n+1) f X o aa h) n n b _ _ o aa h⟩⟩
def go_turn{f g:FuncId}{e:TypeId}{X:bB}{W:Bool}{r:RE}{R:aY}{t:T}{V:aq}(h:mH O X W (r.rv O).ae=U V):p.Go (.dK f g e X W r R t) O i o<->p.Go t (O.add (.r (.mk (r.rv O).val V))) i o:=by
 rw[go_of];simp only[exec,h];exact⟨λ⟨n,h⟩=>go_up h,λ⟨n,h⟩=>⟨n,ny (λf Q o h=>mg n (n+1) f Q o aa h) n n t _ _ o aa h⟩⟩
def go_back{W:lB}{X:Lp}(h:yP N i=U (X,W)):p.Go (.back N l) O i o<->p.Go X.t (X.O.ext (l.map (C.xv O))) (X::W) o:=by
 rw[go_of];simp only[exec,h];exact⟨λ⟨n,h⟩=>go_up h,λ⟨n,h⟩=>⟨n,ny (λf V o h=>mg n (n+1) f V o aa h) n n X.t _ _ o aa h⟩⟩
def go_call{R:bn}{V:aI}{iE:C}{X:aX}(h:p.Ev t ((oK l).map (C.xv O)) (.ret X))(Q:me V X=J)(W:p.Go b (O.ext X) i o):p.Go (.call t l R g V iE b) O i o:=by
 obtain⟨n,h⟩:=h;obtain⟨m,W⟩:=W;refine⟨max n m+1, ?_⟩;simp only[exec];rw[mg n _ _ _ _ aa h];simp only[Q,cH];exact ny (λt P o h=>mg m _ t P o aa h) m _ b _ _ o aa W
def go_callp{X:bn}{W:aI}{iE:C}{v:Value}(h:p.Ev t ((oK l).map (C.xv O)) (.aW v)):p.Go (.call t l X g W iE b) O i (.aW v):=by
 obtain⟨n,h⟩:=h;refine⟨n+1, ?_⟩;simp only[exec];rw[mg n _ _ _ _ aa h]
end
structure PC where
 av:Nat
 I:aX->Prop
 μ:aX->Nat
 m:Nat
abbrev cG:=List PC
def EQ(av:Nat):cG->Option PC
 |[]=>Z
 |x::X=>if x.av=av then U x else EQ av X
def P4(R:aU->Prop):Prop:=∀o X,R o->R X->o=X/\AN o o=J
def T.mh(W:FuncId->aX->aU->Prop):T->(aU->Prop)->ai->cG->Prop
 |.ret v _ _,R,O,_=>R (.ret ((yO v).map (C.xv O)))
 |.aW v,R,O,_=>∃x,EJ O v=U x/\R (.aW x)
 |.aS b t f,R,O,L=>(b.ab O=J->t.mh W R O L)/\(b.ab O=E->f.mh W R O L)
 |.aN b t,R,O,L=>b.ab O=J/\t.mh W R O L
 |.call f G _ _ F _ t,R,O,L=>∃o,W f ((oK G).map (C.xv O)) o/\(match o with
  |.ret N=>me F N=J/\t.mh W R (O.ext N) L
  |.aW v=>R (.aW v))
 |.loop av _ D t,R,O,L=>∃V Q,((V=R/\Q=L)\/((∀o,V o->R o)/\Q=[]))/\∃X M,X (D.map (C.xv O))/\∀P,X P->t.mh W V (O.ext P) (⟨av,X,M,M P⟩::Q)
 |.back av x,R,O,L=>match EQ av L with
  |U c=>c.I (x.map (C.xv O))/\c.μ (x.map (C.xv O))<c.m
  |none=>False
 |.new _ x _ _ t,R,O,L=>t.mh W R (O.add (.r (gI x O))) L
 |.ae _ x _ t,R,O,L=>t.mh W R (O.add (.r (gI x O))) L
 |.fU g h t f,R,O,L=>(g.ab O=J\/h.ab O=J)/\(g.ab O=J->t.mh W R O L)/\(h.ab O=J->f.mh W R O L)/\(g.ab O=J->h.ab O=J->P4 R)
 |.pick n g h t f,R,O,L=>P4 R/\vc n g h O≠[]/\(∀j:Int,0<=j->j<n.ab O->g.ab (O.add (.i j))=J->t.mh W R (O.add (.i j)) L)/\(h.ab O=J->f.mh W R O L)
 |.dK _ _ _ B A r _ t,R,O,L=>∃H,mH O B A (r.rv O).ae=U H/\t.mh W R (O.add (.r (.mk (r.rv O).val H))) L
 |.stuck _,_,_,_=>False
 |.out _ _,_,_,_=>False
def T.wp(X:FuncId->aX->aU->Prop)(R:aU->Prop)(t:T)(O:ai)(L:cG):Prop:=t.mh X R O L
section
variable{a:j8}{R:aU->Prop}
inductive yS(a:j8)(R:aU->Prop):List PC->List Lp->Prop where
 |nil (st:List Lp):yS a R [] st
 |cons (c:PC) (fr:Lp) (L:List PC) (st:List Lp) (h1:c.av=fr.av) (h2:∀xs,c.I xs->c.μ xs<c.m->∃o,a.Go fr.t (fr.O.ext xs) (fr::st) o/\R o) (h3:yS a R L st):yS a R (c::L) (fr::st)
def yS.find{L:cG}{V:lB}(h:yS a R L V){c:PC}(W:EQ N L=U c):
  ∃X M,yP N V=U (X,M)/\∀Q,c.I Q->c.μ Q<c.m->∃o,a.Go X.t (X.O.ext Q) (X::M) o/\R o:=by
 induction h with
 |nil _=>cases W
 |cons D X L V H G B F=>
  simp only[EQ] at W;simp only[yP,<-H];split at W;rename_i P;cases W;rw[aE P];exact⟨X,V,rfl,G⟩;rename_i P;rw[aJ P];exact F W
def go_mono{X:lB}{o:aU}{m:Nat}(h:exec (a.be N) N b y X=U o)(W:N<=m):exec (a.be m) m b y X=U o:=
 ny (λf V o h=>mg N m f V o W h) N m b y X o W h
def afo{X:Type}{f:X->jC}{o:aU}(W:AN o o=J):∀{l:List X},l≠[]->(∀x∈l,f x=U o)->sj (l.map f)=U o
 |[],h,_=>bp rfl h
 |[x],_,h=>by simpa[sj] using h x au
 |x::y::r,_,h=>by
  have:=afo W (l:=y::r) au (λz V=>h z (by simp at V⊢;exact .inr V));simp only[ep,sj] at this⊢;rw[this,h x au,yN,aE W]
def afp{V:Type}{p:V->Nat->Prop}(W:∀x n m,p x n->n<=m->p x m):∀{l:List V},(∀x∈l,∃n,p x n)->∃n,∀x∈l,p x n
 |[],_=>⟨0,λx Q=>by cases Q⟩
 |x::r,h=>by
  obtain⟨n,P⟩:=h x au;obtain⟨m,O⟩:=afp W (l:=r) (λz X=>h z (by simp[X]));refine⟨max n m,λz X=> ?_⟩;rcases dJ.1 X with rfl|X;exact W _ _ _ P aa;exact W _ _ _ (O z X) aa
def go_wp:∀(t:T)(R:aU->Prop)(O:ai)(L:cG)(W:lB),t.mh a.Ev R O L->yS a R L W->∃o,a.Go t O W o/\R o
 |.ret v bx y,R,O,L,W,h,_=>⟨_,go_ret.2 rfl,h⟩
 |.aW v,R,O,L,W,h,_=>by
  obtain⟨x,P,Q⟩:=h;exact⟨.aW x,go_pan.2 (by rw[P];rfl),Q⟩
 |.aS b t f,R,O,L,W,h,V=>by
  simp only[go_node];cases hb:b.ab O with
  |true=>simpa using go_wp t R O L W (h.1 hb) V
  |false=>simpa using go_wp f R O L W (h.2 hb) V
 |.aN b t,R,O,L,W,h,V=>by
  obtain⟨o,P,Q⟩:=go_wp t R O L W h.2 V;exact⟨o,go_need.2 ⟨h.1,P⟩,Q⟩
 |.call f a9 bx y ks iE t,R,O,L,W,h,V=>by
  obtain⟨o,P,Q⟩:=h;cases o with
  |ret ys=>
   obtain⟨o,G,F⟩:=go_wp t R (O.ext ys) L W Q.2 V;exact⟨o,go_call P Q.1 G,F⟩
  |aW v=>exact⟨.aW v,go_callp P,Q⟩
 |.loop av ks x0 t,R,O,L,W,h,V=>by
  obtain⟨w,L',ag,X,μ,P,Q⟩:=h;have af:yS a w L' W/\∀o,w o->R o:=by
   rcases ag with⟨rfl,rfl⟩|⟨G,rfl⟩;exact⟨V,λo h=>h⟩;exact⟨yS.nil W,G⟩
  have al:∀n N,μ N<n->X N->∃o,a.Go t (O.ext N) (⟨av,t,O⟩::W) o/\w o:=by
   intro n;induction n with
   |zero=>intro N d;omega
   |succ n ih=>
    intro N d hI;exact go_wp t w (O.ext N) _ _ (Q N hI) (yS.cons _ _ _ _ rfl (λan a0 hm=>ih an (by simp only at hm;omega) a0) af.1)
  obtain⟨o,G,F⟩:=al _ _ (Nat.lt_succ_self _) P;exact⟨o,go_loop.2 G,af.2 o F⟩
 |.back av x,R,O,L,W,h,V=>by
  simp only[T.mh] at h;split at h
  ·rename_i c hf;obtain⟨fr,ba,P,Q⟩:=V.find hf;obtain⟨o,G,F⟩:=Q _ h.1 h.2;exact⟨o,(go_back P).2 G,F⟩
  exact h.elim
 |.new e x y bb t,R,O,L,W,h,V=>by
  obtain⟨o,P,Q⟩:=go_wp t R _ L W h V;exact⟨o,go_new.2 P,Q⟩
 |.ae e x y t,R,O,L,W,h,V=>by
  obtain⟨o,P,Q⟩:=go_wp t R _ L W h V;exact⟨o,go_rows.2 P,Q⟩
 |.fU g z t f,R,O,L,W,h,V=>by
  obtain⟨u,P,Q,G⟩:=h;cases A:g.ab O with
  |true=>
   obtain⟨o,M,D⟩:=go_wp t R O L W (P A) V;cases B:z.ab O with
   |true=>
    obtain⟨o',k1,k2⟩:=go_wp f R O L W (Q B) V;obtain⟨rfl,e⟩:=G A B o o' D k2;obtain⟨n,M⟩:=M;obtain⟨m,k1⟩:=k1;refine⟨o,⟨max n m+1, ?_⟩,D⟩;simp only[exec,A,B,cH];rw[ny (λf N o h=>mg n _ f N o aa h) n (max n m) t O W o aa M,ny (λf N o h=>mg m _ f N o aa h) m (max n m) f O W o aa k1,yN,aE e]
   |false=>
    obtain⟨n,M⟩:=M;refine⟨o,⟨n+1, ?_⟩,D⟩;simp only[exec,A,B,cH];exact ny (λf N o h=>mg n _ f N o aa h) n n t O W o aa M
  |false=>
   have B:z.ab O=true:=u.resolve_left (by simp[A]);obtain⟨o,M,D⟩:=go_wp f R O L W (Q B) V;obtain⟨n,M⟩:=M;refine⟨o,⟨n+1, ?_⟩,D⟩;simp only[exec,A,B,cH];exact ny (λf N o h=>mg n _ f N o aa h) n n f O W o aa M
 |.pick m g z t f,R,O,L,W,h,V=>by
  obtain⟨hs,u,P,Q⟩:=h;have hw:∀j∈vc m g z O,∃o,R o/\(match j with
   |U j=>a.Go t (O.add (.i j)) W o
   |none=>a.Go f O W o):=by
   intro j H;cases j with
   |some j=>
    simp only[vc,eC,gL,o9,vZ] at H;rcases H with⟨j',⟨⟨k,hk,rfl⟩,A⟩,e⟩|H
    ·cases e;obtain⟨o,M,D⟩:=go_wp t R (O.add (.i (k:Int))) L W (P _ aa aa A) V;exact⟨o,D,M⟩
    split at H<;>simp at H
   |none=>
    simp only[vc,eC,gL,o9,vZ] at H;rcases H with⟨j',_,e⟩|H;cases e;split at H
    ·rename_i B;obtain⟨o,M,D⟩:=go_wp f R O L W (Q B) V;exact⟨o,D,M⟩
    simp at H
  obtain⟨j0,a1⟩:=List.exists_mem_of_ne_nil _ u;obtain⟨o,q,_⟩:=hw j0 a1;have a3:AN o o=true:=(hs o o q q).2;obtain⟨n,d⟩:=afp (p:=λj n=>(match j with
   |U j=>exec (a.be n) n t (O.add (.i j)) W
   |none=>exec (a.be n) n f O W)=U o) (λx n m hx a4=>by cases x<;>exact go_mono hx a4) (l:=vc m g z O) (λj H=>by
    obtain⟨o',G,F⟩:=hw j H;obtain⟨rfl,_⟩:=hs o o' q G;cases j<;>exact F)
  refine⟨o,⟨n+1, ?_⟩,q⟩;simp only[exec];refine afo a3 u λj H=> ?_
  have:=d j H;cases j with
  |some j=>exact ny (λf N o h=>mg n _ f N o aa h) n n t _ W o aa this
  |none=>exact ny (λf N o h=>mg n _ f N o aa h) n n f O W o aa this
 |.dK f g e sp sb r y t,R,O,L,W,h,V=>by
  obtain⟨bc,P,Q⟩:=h;obtain⟨o,G,F⟩:=go_wp t R _ L W Q V;exact⟨o,(go_turn P).2 G,F⟩
 |.stuck m,R,O,L,W,h,_=>h.elim
 |.out e s,R,O,L,W,h,_=>h.elim
def HY(a:j8)(f:FuncId)(X:Fn):Prop:=a.tree f=U X/\∀W,a.q9 f W=Z
def afq{X:Fn}{W:aX}(V:HY a t X)(P:X.d=E\/∀v,¬R (.aW v))(h:X.t.wp a.Ev R (fp (kV X.g) W) []):∃o,a.Ev t W o/\R o:=by
 obtain⟨o,O,Q⟩:=go_wp X.t R _ [] [] h (yS.nil []);refine⟨o,apY V.1 (V.2 _) (P.imp id λN=> ?_) O,Q⟩;cases o with
 |ret M=>exact⟨M,rfl⟩
 |aW v=>exact(N v Q).elim
def ER{X:Fn}{W:aX}{o:aU}(V:HY a t X)(Q:X.d=E\/∀v,o≠ .aW v)(h:X.t.wp a.Ev (· =o) (fp (kV X.g) W) []):a.Ev t W o:=by
 obtain⟨L,P,O⟩:=afq (R:=(· =o)) V (Q.imp id λN v M=>N v M.symm) h;exact O▸P
def WI{X:aX}{o W:aU}(h:a.Ev t X o)(k:a.Ev t X W):o=W:=by
 obtain⟨n,h⟩:=h;obtain⟨m,k⟩:=k;have Q:=mg n (max n m) t X o aa h;have V:=mg m (max n m) t X W aa k;rw[Q] at V;cases V;rfl
end
def P5(n j:Nat)(a b c:Int)(X:aq):Int:=match gD n [a,b,c] X with
 |U W=>bF (W.getD j default).val
 |none=>0
def P6(n j:Nat)(a b c:Int)(X:aq):Bool:=match gD n [a,b,c] X with
 |U W=>iF (W.getD j default).val
 |none=>E
def K.dn(e:K):ai->Int:=K.rec (motive_1:=λ_=>ai->Int) (motive_2:=λ_=>ai->Bool) (motive_3:=λ_=>ai->RV) (λn _=>n) (λk O=>O.i.getD k 0) (λX k _ _ a b O=>bH X k (a O) (b O)) (λk _ a O=>k.wrap (a O)) (λ_ r O=>lenOf (r O).val) (λW _ _ a b O=>cond W (max (a O) (b O)) (min (a O) (b O))) (λ_ _ _ b x y O=>cond (b O) (x O) (y O)) (λ_ _ j r i O=>bF (bz (r O).ae (i O) j).val) (λ_ _ r i O=>yw (r O).val (i O)) (λ_ n _ _ _ j r a b c O=>P5 n j (a O) (b O) (c O) (r O).ae) (λb _=>b) (λk O=>O.b.getD k E) (λX _ _ a b O=>gm X (a O) (b O)) (λ_ a O=> !(a O)) (λ_ _ a b O=>a O&&b O) (λ_ _ a b O=>a O==b O) (λ_ _ _ b x y O=>cond (b O) (x O) (y O)) (λ_ _ j r i O=>iF (bz (r O).ae (i O) j).val) (λ_ _ a b O=>tG (a O).val (b O).val) (λ_ n _ _ _ j r a b c O=>P6 n j (a O) (b O) (c O) (r O).ae) (λ_ n _ _ _ r a b c O=>(gD n [a O,b O,c O] (r O).ae).isSome) (λk O=>O.rv k) (λ_ _ j k r i O=>dl k (bz (r O).ae (i O) j)) (λv _=>.mk v []) e
def BE.dn(e:BE):ai->Bool:=BE.rec (motive_1:=λ_=>ai->Int) (motive_2:=λ_=>ai->Bool) (motive_3:=λ_=>ai->RV) (λn _=>n) (λk O=>O.i.getD k 0) (λX k _ _ a b O=>bH X k (a O) (b O)) (λk _ a O=>k.wrap (a O)) (λ_ r O=>lenOf (r O).val) (λW _ _ a b O=>cond W (max (a O) (b O)) (min (a O) (b O))) (λ_ _ _ b x y O=>cond (b O) (x O) (y O)) (λ_ _ j r i O=>bF (bz (r O).ae (i O) j).val) (λ_ _ r i O=>yw (r O).val (i O)) (λ_ n _ _ _ j r a b c O=>P5 n j (a O) (b O) (c O) (r O).ae) (λb _=>b) (λk O=>O.b.getD k E) (λX _ _ a b O=>gm X (a O) (b O)) (λ_ a O=> !(a O)) (λ_ _ a b O=>a O&&b O) (λ_ _ a b O=>a O==b O) (λ_ _ _ b x y O=>cond (b O) (x O) (y O)) (λ_ _ j r i O=>iF (bz (r O).ae (i O) j).val) (λ_ _ a b O=>tG (a O).val (b O).val) (λ_ n _ _ _ j r a b c O=>P6 n j (a O) (b O) (c O) (r O).ae) (λ_ n _ _ _ r a b c O=>(gD n [a O,b O,c O] (r O).ae).isSome) (λk O=>O.rv k) (λ_ _ j k r i O=>dl k (bz (r O).ae (i O) j)) (λv _=>.mk v []) e
def RE.dn(e:RE):ai->RV:=RE.rec (motive_1:=λ_=>ai->Int) (motive_2:=λ_=>ai->Bool) (motive_3:=λ_=>ai->RV) (λn _=>n) (λk O=>O.i.getD k 0) (λX k _ _ a b O=>bH X k (a O) (b O)) (λk _ a O=>k.wrap (a O)) (λ_ r O=>lenOf (r O).val) (λW _ _ a b O=>cond W (max (a O) (b O)) (min (a O) (b O))) (λ_ _ _ b x y O=>cond (b O) (x O) (y O)) (λ_ _ j r i O=>bF (bz (r O).ae (i O) j).val) (λ_ _ r i O=>yw (r O).val (i O)) (λ_ n _ _ _ j r a b c O=>P5 n j (a O) (b O) (c O) (r O).ae) (λb _=>b) (λk O=>O.b.getD k E) (λX _ _ a b O=>gm X (a O) (b O)) (λ_ a O=> !(a O)) (λ_ _ a b O=>a O&&b O) (λ_ _ a b O=>a O==b O) (λ_ _ _ b x y O=>cond (b O) (x O) (y O)) (λ_ _ j r i O=>iF (bz (r O).ae (i O) j).val) (λ_ _ a b O=>tG (a O).val (b O).val) (λ_ n _ _ _ j r a b c O=>P6 n j (a O) (b O) (c O) (r O).ae) (λ_ n _ _ _ r a b c O=>(gD n [a O,b O,c O] (r O).ae).isSome) (λk O=>O.rv k) (λ_ _ j k r i O=>dl k (bz (r O).ae (i O) j)) (λv _=>.mk v []) e
def P7{X:Type}(b:Bool)(x y:X):cond b x y=if b then x else y:=by cases b<;>rfl
mutual
def K.fq:∀(e:K)(O:ai),e.dn O=e.ab O
 |.c _,_=>rfl
 |.v _,_=>rfl
 |.bin o k a b,O=>by show bH o k (a.dn O) (b.dn O)=_;rw[K.fq a,K.fq b];rfl
 |.conv k a,O=>by show k.wrap (a.dn O)=_;rw[K.fq a];rfl
 |.len r,O=>by show lenOf (r.dn O).val=_;rw[RE.fq r];rfl
 |.mm m a b,O=>by show cond m (max (a.dn O) (b.dn O)) (min (a.dn O) (b.dn O))=_;rw[K.fq a,K.fq b,P7];rfl
 |.dv b x y,O=>by show cond (b.dn O) (x.dn O) (y.dn O)=_;rw[BE.fq b,K.fq x,K.fq y,P7];rfl
 |.cell r i j,O=>by show bF (bz (r.dn O).ae (i.dn O) j).val=_;rw[RE.fq r,K.fq i];rfl
 |.mV r i,O=>by show yw (r.dn O).val (i.dn O)=_;rw[RE.fq r,K.fq i];rfl
 |.look r n a b c j,O=>by show P5 n j (a.dn O) (b.dn O) (c.dn O) (r.dn O).ae=_;rw[RE.fq r,K.fq a,K.fq b,K.fq c];rfl
def BE.fq:∀(e:BE)(O:ai),e.dn O=e.ab O
 |.c _,_=>rfl
 |.v _,_=>rfl
 |.cmp o a b,O=>by show gm o (a.dn O) (b.dn O)=_;rw[K.fq a,K.fq b];rfl
 |.not a,O=>by show(!(a.dn O))=_;rw[BE.fq a];rfl
 |.and a b,O=>by show(a.dn O&&b.dn O)=_;rw[BE.fq a,BE.fq b];rfl
 |.beq a b,O=>by show(a.dn O==b.dn O)=_;rw[BE.fq a,BE.fq b];rfl
 |.dv b x y,O=>by show cond (b.dn O) (x.dn O) (y.dn O)=_;rw[BE.fq b,BE.fq x,BE.fq y,P7];rfl
 |.cell r i j,O=>by show iF (bz (r.dn O).ae (i.dn O) j).val=_;rw[RE.fq r,K.fq i];rfl
 |.seq a b,O=>by show tG (a.dn O).val (b.dn O).val=_;rw[RE.fq a,RE.fq b];rfl
 |.look r n a b c j,O=>by show P6 n j (a.dn O) (b.dn O) (c.dn O) (r.dn O).ae=_;rw[RE.fq r,K.fq a,K.fq b,K.fq c];rfl
 |.has r n a b c,O=>by show(gD n [a.dn O,b.dn O,c.dn O] (r.dn O).ae).isSome=_;rw[RE.fq r,K.fq a,K.fq b,K.fq c];rfl
def RE.fq:∀(e:RE)(O:ai),e.dn O=e.rv O
 |.v _,_=>rfl
 |.cell r i j k,O=>by show dl k (bz (r.dn O).ae (i.dn O) j)=_;rw[RE.fq r,K.fq i];rfl
 |.k _,_=>rfl
end
def fN{X:Type}(n:Nat)(k:Nat->X):X:=DF (motive:=λ_=>X) (k 0) (λm _=>k (Nat.succ m)) n
def fI{X:Type}(n:Int)(k:Int->X):X:=Int.rec (motive:=λ_=>X) (λn=>fN n λn=>k (aaN n)) (λn=>fN n λn=>k (aaL n)) n
def fB{X:Type}(b:Bool)(k:Bool->X):X:=Ge (motive:=λ_=>X) (k E) (k J) b
def fV{X:Type}(v:Value)(k:Value->X):X:=match v with
 |.int q n=>fI n λn=>k (.int q n)
 |.bool b=>fB b λb=>k (.bool b)
 |.slice Z n c=>fN n λn=>fN c λc=>k (.slice Z n c)
 |v=>k v
def fR{X:Type}(v:RV):(RV->X)->X:=RV.rec (motive_1:=λ_=>(RV->X)->X) (motive_2:=λ_=>(aq->X)->X) (motive_3:=λ_=>(aC->X)->X) (λv _ h k=>fV v λv=>h λl=>k (.mk v l)) (λk=>k []) (λ_ _ h W k=>h λx=>W λV=>k (x::V)) (λk=>k []) (λ_ _ h W k=>h λx=>W λV=>k (x::V)) v
def WJ{X:Type}(v:aq):(aq->X)->X:=RV.rec_1 (motive_1:=λ_=>(RV->X)->X) (motive_2:=λ_=>(aq->X)->X) (motive_3:=λ_=>(aC->X)->X) (λv _ h k=>fV v λv=>h λl=>k (.mk v l)) (λk=>k []) (λ_ _ h W k=>h λx=>W λV=>k (x::V)) (λk=>k []) (λ_ _ h W k=>h λx=>W λV=>k (x::V)) v
def WK{X:Type}(v:aC):(aC->X)->X:=RV.rec_2 (motive_1:=λ_=>(RV->X)->X) (motive_2:=λ_=>(aq->X)->X) (motive_3:=λ_=>(aC->X)->X) (λv _ h k=>fV v λv=>h λl=>k (.mk v l)) (λk=>k []) (λ_ _ h W k=>h λx=>W λV=>k (x::V)) (λk=>k []) (λ_ _ h W k=>h λx=>W λV=>k (x::V)) v
def fX{X:Type}(x:XV)(k:XV->X):X:=match x with
 |.i n=>fI n λn=>k (.i n)
 |.b b=>fB b λb=>k (.b b)
 |.r v=>fR v λv=>k (.r v)
def fL{X:Type}(l:aX):(aX->X)->X:=v7 (motive:=λ_=>(aX->X)->X) (λk=>k []) (λx _ W k=>fX x λx=>W λV=>k (x::V)) l
def P8{X:Type}:∀(n:Nat)(k:Nat->X),fN n k=k n
 |0,_=>rfl
 |_+1,_=>rfl
def WL{X:Type}:∀(n:Int)(k:Int->X),fI n k=k n
 |.ofNat n,k=>P8 n λn=>k (aaN n)
 |.negSucc n,k=>P8 n λn=>k (aaL n)
def afr{X:Type}:∀(n:Bool)(k:Bool->X),fB n k=k n
 |E,_=>rfl
 |J,_=>rfl
def apZ{X:Type}(v:Value)(k:Value->X):fV v k=k v:=by
 unfold fV;split;exact WL _ _;exact afr _ _;rw[P8,P8];rfl
mutual
def WM{X:Type}:∀(v:RV)(k:RV->X),fR v k=k v
 |.mk v l,k=>by
  show(fV v λv=>WJ l λl=>k (.mk v l))=_;rw[apZ,afs l]
def afs{W:Type}:∀(l:aq)(k:aq->W),WJ l k=k l
 |[],_=>rfl
 |x::X,k=>by
  show(WK x λx=>WJ X λX=>k (x::X))=_;rw[afu x,afs X]
def afu{W:Type}:∀(l:aC)(k:aC->W),WK l k=k l
 |[],_=>rfl
 |x::X,k=>by
  show(fR x λx=>WK X λX=>k (x::X))=_;rw[WM x,afu X]
end
def ap0{X:Type}(x:XV)(k:XV->X):fX x k=k x:=by
 cases x<;>simp only[fX,WL,afr,WM]
def afv{W:Type}:∀(l:aX)(k:aX->W),fL l k=k l
 |[],_=>rfl
 |x::X,k=>by
  show(fX x λx=>fL X λX=>k (x::X))=_;rw[ap0,afv X]
def fS{X V:Type}(l:List V):(List V->X)->X:=v7 (motive:=λ_=>(List V->X)->X) (λk=>k []) (λx _ W k=>W λR=>k (x::R)) l
def fE{X:Type}(O:ai)(k:ai->X):X:=ai.rec (motive:=λ_=>X) (λi b r y=>fS i λi=>fS b λb=>fS r λr=>k ⟨i,b,r,y⟩) O
def P9{W V:Type}:∀(l:List V)(k:List V->W),fS l k=k l
 |[],_=>rfl
 |x::X,k=>P9 X λX=>k (x::X)
def afw{X:Type}(O:ai)(k:ai->X):fE O k=k O:=by
 obtain⟨i,b,r,y⟩:=O;show(fS i λi=>fS b λb=>fS r λr=>k ⟨i,b,r,y⟩)=_;rw[P9,P9,P9]
def C.xn(O:ai):C->XV
 |.int _ e=>.i (e.dn O)
 |.bool b=>.b (b.dn O)
 |.ah r=>.r (r.dn O)
 |_=>.i 0
def ap1(O:ai):C.xn O=C.xv O:=by
 funext v;cases v<;>simp only[C.xn,C.xv,K.fq,BE.fq,RE.fq]
def T.step(X:T->ai->lB->jC)(be:md)(t:T)(O:ai)(W:lB):jC:=match t with
 |.ret v _ _=>fL ((yO v).map (C.xn O)) λl=>U (.ret l)
 |.aW v=>(EJ O v).map .aW
 |.aS b t f=>cond (b.dn O) (X t O W) (X f O W)
 |.aN b t=>cond (b.dn O) (X t O W) Z
 |.call f P _ _ N _ t=>fL ((oK P).map (C.xn O)) λV=>match be f V with
  |U (.ret Q)=>cond (me N Q) (fE (O.ext Q) λO=>X t O W) Z
  |U (.aW v)=>U (.aW v)
  |none=>Z
 |.loop av _ M t=>fL (M.map (C.xn O)) λV=>fE (O.ext V) λL=>X t L (⟨av,t,O⟩::W)
 |.back av x=>match yP av W with
  |U (R,H)=>fL (x.map (C.xn O)) λV=>fE (R.O.ext V) λO=>X R.t O (R::H)
  |none=>Z
 |.new _ x _ _ t=>fR (gI x O) λv=>fE (O.add (.r v)) λO=>X t O W
 |.ae _ x _ t=>fR (gI x O) λv=>fE (O.add (.r v)) λO=>X t O W
 |.fU g h t f=>cond (g.dn O) (cond (h.dn O) (yN (X t O W) (X f O W)) (X t O W)) (cond (h.dn O) (X f O W) Z)
 |.pick m g h t f=>sj ((vc m g h O).map λj=>match j with
  |U j=>fI j λj=>fE (O.add (.i j)) λO=>X t O W
  |none=>X f O W)
 |.dK _ _ _ G F r _ t=>match mH O G F (r.dn O).ae with
  |U l=>fR (.mk (r.dn O).val l) λv=>fE (O.add (.r v)) λO=>X t O W
  |none=>Z
 |_=>Z
def Qa(be:md)(n:Nat):T->ai->lB->jC:=DF (motive:=λ_=>T->ai->lB->jC) (λ_ _ _=>Z) (λ_ X=>T.step X be) n
def afx(be:md):∀n,Qa be n=exec be n
 |0=>by funext t O X;simp only[exec];rfl
 |n+1=>by
  funext t O X;show T.step (Qa be n) be t O X=_;rw[afx be n];cases t<;>simp only[T.step,exec,P7,BE.fq,RE.fq,ap1,afv,WM,WL,afw]
  try case call f W _ _ Q _ t=>
   cases be f ((oK W).map (C.xv O)) with
   |none=>rfl
   |some o=>cases o<;>rfl
  try case back av x=>cases yP av X<;>rfl
  try case pick m g h t f=>
   refine ji sj (jh λj _=> ?_);cases j<;>rfl
  try case dK f g e V R r P t=>cases mH O V R (r.rv O).ae<;>rfl
def Qb(X:j8)(n:Nat):md:=DF (motive:=λ_=>md) X.q9 (λn R f V=>match X.q9 f V with
  |U o=>U o
  |none=>match X.tree f with
   |U W=>yR W.d (fE (fp (kV W.g) V) λO=>Qa R n W.t O [])
   |none=>Z) n
def afy(X:j8):∀n,Qb X n=X.be n
 |0=>rfl
 |n+1=>by
  funext f W;simp only[j8.be];show(match X.q9 f W with
   |U o=>U o
   |none=>match X.tree f with
    |U V=>yR V.d (fE (fp (kV V.g) W) λO=>Qa (Qb X n) n V.t O [])
    |none=>Z)=_
  rw[afy X n];simp only[afx,afw]
  all_goals cases X.q9 f W with
  |some o=>rfl
  |none=>cases X.tree f<;>rfl
def ap2{X:j8}{f:Nat}{W:aX}{o:aU}(h:Qb X N f W=U o):X.Ev f W o:=⟨N,by rw[<-afy];exact h⟩
