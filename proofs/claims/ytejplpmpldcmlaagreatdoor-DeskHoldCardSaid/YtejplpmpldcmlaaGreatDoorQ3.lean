/- Part 3 of the proof; the last part says what is shown. -/
import Derived.Test.YtejplpmpldcmlaaGreatDoorQ2
import Derived.WalkKit
import Derived.DefersIn
set_option linter.all false
set_option maxRecDepth 100000
set_option maxHeartbeats 100000000
open Bool renaming and_eq_true->aw,not_eq_true'->ik,false_eq_true->jp,or_eq_true->jy,eq_iff_iff->uD,or_eq_false_iff->vZ,and_self->v8,not_eq_false->G8,rec->J6,and_true->N8,not_true->Zy,not_eq_true->aiV,true_eq_false->aIB,true->J,false->E
open Nat renaming lor->bZ,le_refl->b9,zero_add->iX,beq->jd,shiftLeft->mG,le_trans->pw,testBit_or->E1,min_eq_left->Hd,rec->Hk,strongRecOn->SP,div_add_mod->aiY,one_shiftLeft->au5,shiftRight->avl,eq_of_beq_eq_true->aIn,testBit_two_pow->aIu,add_sub_cancel'->aIw,lt_or_gt_of_ne->aIz
open List renaming getElem?_eq_some_iff->ck,getD_eq_getElem?_getD->cz,getElem?_eq_getElem->cS,getElem?_append_left->dH,mem_cons->dP,map_cons->dU,getElem?_map->dW,cons_append->ez,replicate->eN,mem_append->eV,nil_append->eW,range->fw,all_eq_true->fO,length_append->gc,mem_map->iq,getElem?_append_right->iE,pairwise_cons->jq,mem_of_getElem?->jI,map_congr_left->jT,getElem?_eq_none->kg,ext_getElem?->kG,any_eq_true->kH,length_cons->lH,getElem?_take->nj,pairwise_append->nU,map_map->ov,length_eq_one_iff->oR,contains_iff_mem->qj,mem_filter->qm,map_nil->qn,length_map->qX,getElem?_cons_succ->tA,getElem?_of_mem->tB,getElem?_drop->uC,getElem?_set->v6,mem_append_left->xD,nodup_append->xF,mem_range->xI,rec->zm,getElem?_cons_zero->A4,append_assoc->A6,getElem?_eq_none_iff->CV,length_eq_zero_iff->CW,mem_cons_of_mem->CX,mem_filterMap->C0,length_drop->C1,length_take->EY,foldl_cons->EZ,length_nil->E0,getElem?_replicate->G4,getD_cons_zero->G7,mem_singleton->J1,find?_cons->J2,append_nil->J3,pairwise_iff_getElem->NZ,mem_append_right->N1,mem_cons_self->N4,map_append->N5,all_cons->N7,all_map->N9,mem_of_find?_eq_some->SF,range_eq_range'->SJ,find?_some->SO,drop_left'->Zu,sublist_cons_self->aiM,getElem?_toArray->aiN,filterMap_cons->aiQ,map_set->ai0,any_map->ai1,mem_iff_getElem?->auZ,pairwise_map->au7,filter_map->ave,drop_zero->avj,Sublist->avq,sizeOf_lt_of_mem->aIq,append_of_mem->aIC,filterMap_map->aID,length->Y
open Go.Result renaming andThen_ok->dv
open Go.Sem renaming run_bind->dA,run_pure->fq
open Option renaming map_some->eh,isSome_iff_exists->ln,getD_some->pu,map_eq_some_iff->SH,bind_some->Zs,isNone_iff_eq_none->aIe,some->U,none->Z
open Go.Op renaming operands->iF
open Go.Region renaming wanted->l9,ready->SS
open Array renaming ext'->nq,getElem?_eq_some_iff->oQ,getD_eq_getD_getElem?->auU,getElem?_eq_getElem->auV,foldl_toList->aIy
open Go.World renaming cell?->ow,putObj_heap_other->uB,putObj->Hg,alloc_heap_new->SK,size_alloc->aiW
open Int renaming negSucc->ai4,ofNat->ai8
open Go.Oper renaming semAt_eq->zk,uponIn_enter->SM,uponIn_round->au6,semAt_none->avd,uponIn_defer->aIF
open Go.Call renaming operands->A7
open Prod.mk renaming injEq->C2
open List.Sublist renaming append->aiP,refl->aiS
open Go.IntKind renaming i64->I
namespace Go.Proofs.YtejplpmpldcmlaaGreatDoor.Y
open Go.RowKit
noncomputable section
variable{v:aq}{y:Nat}{g:T}{N:ai}{t:FuncId}{w:S}{x:ar}{e:World}{l:FuncId→Code→S→(XE→S→T)→T}{h:TypeId}{b:dC}{k:bv}
mutual
def C.Uu(O:ai)(y:ar)(V:ar):∀(v:C),v.Br=J->v.ab (O.at y) V=v.ab O V
 |.int k e,_=>by simp only[C.ab,K.fh]
 |.bool b,_=>by simp only[C.ab,BE.fh]
 |.ah r,_=>by simp only[C.ab,RE.ab,RE.mS]
 |.loc i o,_=>rfl
 |.el r w i o,_=>by simp only[C.ab,RE.ab,RE.mS,K.fh]
 |.jf a b c d,_=>rfl
 |.agg l,h=>by simp only[C.Br] at h;simp only[C.ab];rw[C.Lu O y V l h]
 |.bM l,h=>by simp only[C.Br] at h;simp only[C.ab];rw[C.Lu O y V l h]
 |.fn f l,h=>by simp only[C.Br] at h;simp only[C.ab];rw[C.Lu O y V l h]
 |.gX t x,h=>by simp only[C.Br] at h;simp only[C.ab];rw[C.Uu O y V x h]
 |.yl n,h=>by simp[C.Br] at h
 |.any,_=>rfl
 |.mp i,_=>rfl
 |.gg e W X,h=>by simp only[C.Br] at h;simp only[C.ab,K.fh];rw[C.Lu O y V X h]
def C.Lu(O:ai)(y:ar)(V:ar):∀(l:aq),C.xU l=J->C.aE (O.at y) V l=C.aE O V l
 |[],_=>rfl
 |x::X,h=>by
  simp only[C.xU,aw] at h;simp only[C.aE];rw[C.Uu O y V x h.1,C.Lu O y V X h.2]
end
def Uv(O:ai)(y:ar)(V:ar):∀(l:aq),C.xU l=J->C.dO (O.at y) V l=C.dO O V l
 |[],_=>rfl
 |x::W,h=>by
  simp only[C.xU,aw] at h;have X:=Uv O y V W h.2;have R:=C.Uu O y V x h.1;simp only[C.dO,dU] at X⊢;rw[X];congr 1;cases x<;>simp only[C.hJ]<;>first|rw[R]|(rw[RE.mS])
def Py:∀{l:bG}{i:Nat}{v:TypeId×aq},Fh l=J->cw l i=U v->C.xU v.2=J
 |[],i,v,_,h=>by simp[cV] at h
 |U x::W,0,v,X,h=>by simp[Fh] at X;simp[cV] at h;exact h▸X.1
 |Z::W,0,v,X,h=>by simp[cV] at h
 |U x::W,i+1,v,X,h=>by simp[Fh] at X;exact Py X.2 (by simpa[cV] using h)
 |Z::W,i+1,v,X,h=>by simp[Fh] at X;exact Py X (by simpa[cV] using h)
def Uw:∀{a b:bG},nz a b=J->a=b
 |[],[],_=>rfl
 |[],_::_,h=>by simp[nz] at h
 |Z::X,Z::W,h=>by simp only[nz] at h;rw[Uw h]
 |Z::X,U y::W,h=>by simp[nz] at h
 |Z::X,[],h=>by simp[nz] at h
 |U x::X,Z::W,h=>by simp[nz] at h
 |U x::X,[],h=>by simp[nz] at h
 |U x::X,U y::W,h=>by
  simp only[nz,aw,dE] at h;have V:=C.tO _ _ h.1.2;rw[Uw h.2];obtain⟨R,Q⟩:=x;obtain⟨P,O⟩:=y;simp only at h V;rw[h.1.1,V]
def Pz(W:aq)(X:bG):(oB W X).length=Y X:=by
 unfold oB;split<;>simp
def Ux{W:bG}{x:TypeId×aq}(h:cw (oB v W) y=U x):cw W y=U x:=by
 unfold oB at h;split at h;exfalso;simp only[cV] at h;rw[dW] at h;cases V:W[y]? with
 |none=>rw[V] at h;cases h
 |some X=>rw[V] at h;cases h
 exact h
def abG{X:bG}(h:aK (oB v X) y=J):aK X y=true:=by
 obtain⟨x,W⟩:=ln.1 h;simp[aK,Ux W]
def axV(h:ZW g=J)(p:Sp)(O:ai)(L:dC):g.aP p O L:=by
 unfold ZW at h;split at h;simp[T.aP,BE.ab];cases h
def axW{W:ai}(h:i7 N W (Y N.i) (Y N.b) (Y N.r))(H:Y W.i=Y N.i)(G:Y W.b=Y N.b)(F:Y W.r=Y N.r):W=N:=by
 obtain⟨i,b,r,y⟩:=N;obtain⟨V,R,Q,z⟩:=W;obtain⟨P,a2,M,L⟩:=h;simp only at P a2 M L H G F;have D:V=i:=kG λk=>by
  by_cases X:k<Y i;have:=P k X;simp only[cz,cS X,cS (show k<Y V from aa),pu] at this⊢;rw[this];rw[kg aa,kg aa]
 have B:R=b:=kG λk=>by
  by_cases X:k<Y b;have:=a2 k X;simp only[cz,cS X,cS (show k<Y R from aa),pu] at this⊢;rw[this];rw[kg aa,kg aa]
 have A:Q=r:=kG λk=>by
  by_cases X:k<Y r;have:=M k X;simp only[ai.rv,cz,cS X,cS (show k<Y Q from aa),pu] at this⊢;rw[this];rw[kg aa,kg aa]
 subst D B A L;rfl
def PA(X:bv):qA X (X.map RK.rd):=by
 refine⟨av,λk V h=> ?_⟩;rw[dW] at h;cases W:X[k]? with
 |none=>rw[W] at h;cases h
 |some e=>
  rw[W] at h;simp only[eh,cU] at h;refine⟨e,rfl, ?_⟩;cases e<;>simp only[RK.rd] at h<;>first|exact .inl h.symm|exact .inr (.inr ⟨_,rfl,h.symm⟩)
def axX(W:aq)(X:bG):oB W X=X\/∀i,cw (oB W X) i=none:=by
 unfold oB;split;right;intro i;simp only[cV];rw[dW];cases X[i]?<;>rfl;exact .inl rfl
section
variable{p:Sp}{m:bE}
def axY(cl:∀z:Sp,z.P=p.P->jL z m->zR z m y)(ok:jL p m){X:C}{ex:bG}(h:Ks m (λf c w k=>fY m y f c w iY k) t v w=U (X,ex))(cn:(m.inl t).isSome=J)
  {D:cg}{a:Act}(hb:w.bd=J)(R:az p.S0 p.w0 D m.ty x N w a e)(hg:e8 m.gl N):(∀v e,(callFunc t v).run p.P e=.ok (.enter t v) e)/\
  Calls p.P t (C.aE N x v).toArray e λM W'=>∃V',M=.returned (X.ab N V')/\az p.S0 p.w0 D m.ty V' N (w.plus ex) a W'/\bH w N x (w.plus ex) N V':=by
 unfold Ks at h;split at h;rename_i u hT;split at h;rename_i v0 c4;split at h;rename_i bk;cases h;simp only[aw] at bk;obtain⟨⟨⟨⟨⟨⟨⟨ca,cb⟩,cv⟩,cs⟩,ct⟩,co⟩,cp⟩,cx⟩:=bk;have bl:=Uw ct;obtain⟨cy,br⟩:=R.zE hb;refine⟨ok.zM t (.inr cn), ?_⟩;obtain⟨S1,bs⟩:∃S1:ar,S1=((fw (Y w.ap)).filter (aK (oB v w.ap))).map (ad x):=⟨_,rfl⟩;have cA:∀i,aK (oB v w.ap) i=J->ad x i∈S1:=λi F=>by
  rw[bs];refine iq.2 ⟨i,qm.2 ⟨xI.2 ?_,F⟩,rfl⟩;obtain⟨L,hx⟩:=ln.1 F;have:=(ck.1 (kj.1 hx)).1
  rwa [Pz] at this
 have bx:∀b∈S1,∃i,aK (oB v w.ap) i=J/\ad x i=b:=λb hb=>by
  rw[bs] at hb;obtain⟨i,F,rfl⟩:=iq.1 hb;exact⟨i,(qm.1 F).2,rfl⟩
 obtain⟨z,an⟩:∃z:Sp,z={P:=p.P,ty:=p.ty,S0:=S1,w0:=e,D:=cg.none,R:=λM _=>(match M with|.panicked _=>False|_=>True),Q:=λ_ _ _=>True}:=⟨_,rfl⟩;have al:z.P=p.P:=by rw[an]
 have b0:z.S0=S1:=by rw[an]
 have b1:z.w0=e:=by rw[an]
 have b2:∀ch W',¬z.R (.panicked ch) W':=λch W' hh=>by rw[an] at hh;exact hh
 have b3:jL z m:=⟨by rw[an];exact ok.pt,by rw[al];exact ok.mix,by rw[al];exact ok.kQ,by rw[al];exact ok.zp,by rw[al];exact ok.zM,λch e b o _ hh=>(b2 ch e hh).elim,by rw[al];exact ok.inl⟩;have hS:=Lt (p:=z) b3 (cl z al b3) (D:=cg.none) (B:=⟨uP v w,N.at [],x,[]⟩) (yh:=iY) (FE _ _);have B0:az z.S0 z.w0 cg.none m.ty x (N.at []) (uP v w) ⟨#[],[]⟩ e:=by
  rw[b0,b1];refine⟨⟨gY.refl _ _,λi F=>.inr (cA i F),λi j F hj=>R.mem.inj i j (abG F) (abG hj),λi H cs h=> ?_,λk M rv A h2=> ?_⟩,by simp only[uP,Pz];exact R.gJ,R.ei,R.eb,by simp only[uP,qX];exact R.er, ?_,rfl,λH sv h=>by simp[uP] at h,λk M rv b A=> ?_⟩;rw[Uv _ _ _ _ (Py cb h)];exact R.mem.box i H cs (Ux h);have:=(R.mem.mO (PA w.rs)).ah k M rv A h2;exact⟨this.1,λb hb i F=>this.2 b hb i (abG F)⟩;exact⟨rfl,rfl,λy l r st h=>by simp[cg.none] at h,λy n' l r r' h=>by simp[cg.none] at h,[],rfl,λ_=>rfl,by simp[cg.none],λd h=>by simp[cg.none] at h⟩;exfalso;simp only[uP,dW] at A;cases hk:w.rs[k]? with
  |none=>rw[hk] at A;cases A
  |some L=>rw[hk] at A;cases L<;>simp[RK.rd] at A
 have cB:=hS [] (.fn t) v (uP v w) _ _ (N.at []) x ⟨#[],[]⟩ e (λM W'=>∃V',M=.returned (X.ab N V')/\az p.S0 p.w0 D m.ty V' N (w.plus (u.ap.drop (Y w.ap))) a W'/\bH w N x (w.plus (u.ap.drop (Y w.ap))) N V') ⟨bH.refl _ _ _,dm.refl _ _⟩ (axV cx z (N.at []) []) B0 hg ?_ ?_ (λch W' pd G _ hR=>(b2 ch W' hR).elim);have:=cB.2;rw[C.Lu N [] x v ca,al] at this;exact this;intro v2 s2 O2 q W2 L2 hl _ R2 a1;split at a1;rename_i b4;simp only[aw,ajm,dE,cm] at b4;obtain⟨hv,⟨⟨ag,cC⟩,cD⟩,cI⟩:=b4;have hv:=C.bY _ _ hv;subst hv;have ag:=Uw ag;have cO:O2=N.at []:=by
  refine axW hl.ext.agree ?_ ?_ ?_;rw[R2.ei,cC];exact R.ei.symm;rw[R2.eb,cD];exact R.eb.symm;rw[R2.er,cI];simp only[uP,qX];exact R.er.symm
 subst cO;rw[b0,b1] at R2;have c5:Y w.ap<=Y u.ap:=by
  have:=kh Y bl;rw[Pz,EY] at this;omega
 have ba:∀i,i<Y w.ap->cw u.ap i=cw (oB v w.ap) i:=λi F=>by
  have:=kh (λl=>cw l i) bl;simp only[cV,nj,aJ F] at this⊢;exact this
 have a3:∀i,aK (oB v w.ap) i=J->ad q i=ad x i:=λi F=>hl.ext.ad i F
 have a4:∀{i:Nat}{l:bG},aK l i=J->i<Y l:=λh=>by
  obtain⟨L,hx⟩:=ln.1 h;exact(ck.1 (kj.1 hx)).1
 have cR:∀i,Y w.ap<=i->aK u.ap i=J->e.heap.size<=ad q i:=by
  intro i F hh;rcases R2.mem.own i (by rw[ag];exact hh) with A|A;exact A;exfalso;obtain⟨j,hj,cW⟩:=bx _ A;have bb:j<Y w.ap:=by have:=a4 hj;rwa [Pz] at this
  have c0:aK u.ap j=true:=by simp only[aK,ba j bb];exact hj
  have:=R2.mem.inj i j (by rw[ag];exact hh) (by rw[ag];exact c0) (by rw[a3 j hj];exact cW.symm);omega
 have hB:Below e.heap.size e W2:=by
  have hO:=R2.mem.base;refine⟨hO.os,hO.tape,hO.output,hO.size,λk hk=> ?_⟩;by_cases b5:k∈S1;obtain⟨j,hj,rfl⟩:=bx _ b5;have bb:j<Y w.ap:=by have:=a4 hj;rwa [Pz] at this
  obtain⟨L,hx⟩:=ln.1 hj;obtain⟨bt,kP⟩:=L;have e1:=R.mem.box j bt kP (Ux hx);have e2:=R2.mem.box j bt kP (by rw[ag,ba j bb];exact hx);rw[a3 j hj] at e2;rw[e1,e2];congr 2;rw[Uv _ _ _ _ (Py cb hx)];refine ON (i7.refl _ _ _ _) (λk hk=>a3 k ?_) _ (tP br (Ux hx));rcases axX v w.ap with hm|hm;rw[hm];exact hk;rw[hm j] at hx;cases hx;exact hO.block k hk b5
 have R0:=R.below hB;have c1:Y q=Y u.ap:=by rw[R2.gJ,ag]
 have a9:∀i,i<Y w.ap->ad (x++q.drop (Y w.ap)) i=ad x i:=λi F=>by
  simp only[ad,cz];rw[dH (by rw[R.gJ];exact F)]
 have bc:∀i,Y w.ap<=i->ad (x++q.drop (Y w.ap)) i=ad q i:=λi F=>by
  simp only[ad,cz];rw[iE (by rw[R.gJ];exact F),R.gJ,uC,aIw F]
 have b6:∀i,aK u.ap i=J->ad (x++q.drop (Y w.ap)) i=ad q i:=λi F=>by
  by_cases af:i<Y w.ap;rw[a9 i af,a3 i (by simp only[aK,<-ba i af];exact F)];exact bc i aa
 have bf:∀i,i<Y w.ap->cw (w.plus (u.ap.drop (Y w.ap))).ap i=cw w.ap i:=λi F=>by
  simp only[cV,S.plus,dH F]
 have b7:∀i,Y w.ap<=i->cw (w.plus (u.ap.drop (Y w.ap))).ap i=cw u.ap i:=λi F=>by
  simp only[cV,S.plus];rw[iE F,uC,aIw F]
 have bg:∀k,aK w.ap k=J->ad (x++q.drop (Y w.ap)) k=ad x k:=λk hk=>a9 k (a4 hk)
 have a0:∀i,aK (w.plus (u.ap.drop (Y w.ap))).ap i=J->(i<Y w.ap/\aK w.ap i=J/\ad (x++q.drop (Y w.ap)) i=ad x i)\/(Y w.ap<=i/\aK s2.ap i=J/\ad (x++q.drop (Y w.ap)) i=ad q i/\e.heap.size<=ad q i):=λi F=>by
  by_cases af:i<Y w.ap;exact .inl ⟨af,by simpa only[aK,bf i af] using F,a9 i af⟩;have hh:aK u.ap i=true:=by simpa only[aK,b7 i aa] using F
  exact .inr ⟨aa,by rw[ag];exact hh,bc i aa,cR i aa hh⟩
 have c6:p.w0.heap.size<=e.heap.size:=R.mem.base.size;refine⟨x++q.drop (Y w.ap), ?_,⟨⟨R0.mem.base, ?_, ?_, ?_, ?_⟩, ?_,R.ei,R.eb,R.er,R0.dl,R.size, ?_, ?_⟩,⟨⟨i7.refl _ _ _ _,b9 _,b9 _,b9 _,bg⟩, ?_, ?_,b9 _⟩⟩;rw[C.Uu _ _ _ _ cv];have c2:v2.bd (Y N.i) (Y N.b) (Y N.r) (aK u.ap)=true:=by rw[R.ei,R.eb,R.er];exact co
 rw[C.ep (i7.refl _ _ _ _) b6 v2 c2];intro i F;rcases a0 i F with⟨_,h2,h3⟩|⟨_,_,h3,h4⟩;rw[h3];exact R.mem.own i h2;rw[h3];exact .inl aa;intro i j F hj b8;rcases a0 i F with⟨i1,i2,i3⟩|⟨i1,i2,i3,i4⟩<;>rcases a0 j hj with⟨j1,j2,j3⟩|⟨j1,j2,j3,j4⟩;exact R.mem.inj i j i2 j2 (by rw[<-i3,<-j3];exact b8);exfalso;have:=R.mem.lt i2;omega;exfalso;have:=R.mem.lt j2;omega;exact R2.mem.inj i j i2 j2 (by rw[<-i3,<-j3];exact b8);intro i H kP h;by_cases af:i<Y w.ap;rw[bf i af] at h;rw[a9 i af,R0.mem.box i H kP h];congr 2;exact(ON (i7.refl _ _ _ _) bg _ (tP br h)).symm;rw[b7 i aa] at h;rw[bc i aa,R2.mem.box i H kP (by rw[ag];exact h)];congr 2;rw[Uv _ _ _ _ (Py cs h)];have c3:C.ec (Y N.i) (Y N.b) (Y N.r) (aK u.ap) kP=true:=by rw[R.ei,R.eb,R.er];exact tP cp h
 exact(ON (i7.refl _ _ _ _) b6 _ c3).symm;intro k M rv A h2;refine⟨(R0.mem.ah k M rv A h2).1,λb cc i F=> ?_⟩;rcases a0 i F with⟨i1,i2,i3⟩|⟨i1,i2,i3,i4⟩;rw[i3];exact(R.mem.ah k M rv A h2).2 b cc i i2;rw[i3];have:=(R.mem.ah k M rv A h2).1.lt cc;omega;simp only[S.plus,gc,C1,c1,R.gJ];intro H sv h;rcases R.tmps H sv h with A|A;exact .inl A;right;rw[C.ep (i7.refl _ _ _ _) bg sv (wt cy h)];exact A;intro k M rv b A h2 h3;have T0:=R0.gj k M rv b A h2 h3;refine⟨T0.own,T0.mem,λi F=> ?_,T0.alone,T0.inner⟩;rcases a0 i F with⟨i1,i2,i3⟩|⟨i1,i2,i3,i4⟩;rw[i3];exact T0.box i i2;rw[i3];have:=(R.gj k M rv b A h2 h3).lt;omega;intro i F;have af:=a4 F;simp only[aK,bf i af];exact F;simp only[S.plus,gc];omega;exact a1.elim;intro v2 s2 O2 q W2 L2 hl _ R2 a1;exact a1.elim;cases h;cases h;cases h
end
def axZ{X:S}(W:oB v X.ap=oB v w.ap)(V:X.ni=w.ni)(R:X.nb=w.nb)(Q:X.rs=w.rs):uP v X=uP v w:=by
 simp only[uP,W,V,R,Q]
def amc{m:bE}{X:S}(W:oB v X.ap=oB v w.ap)(V:X.ni=w.ni)(R:X.nb=w.nb)(Q:X.rs=w.rs)(P:Y X.ap=Y w.ap):Ks m l t v X=Ks m l t v w:=by
 unfold Ks;rw[axZ W V R Q,W,V,R,Q,P]
def ax0(m:bE)(X:dN)(R:FuncId->Code->S->(XE->S->T)->T):Fz X (Fi m X R):=by
 refine⟨λg Q s d v l=> ?_,λg s n t O d w N=> ?_,λg Q s r h=> ?_⟩;unfold Fi;rw[amc]<;>cases d<;>rfl
 ·unfold Fi;rw[amc]<;>cases d<;>simp[S.dt,S.put,wc,oB,ai0]<;>(try apply kG)<;>(try intro i)<;>(try simp[v6])<;>(try(intro P;subst P;by_cases W:n<Y s.ap;(· simp[W]);(· simp[W])))
 unfold Fi at h;split at h;rename_i V;simp only[aw] at V;exact V.1;cases h
def ax1{p:Sp}{m:bE}{N:dN}(M:∀X:Sp,X.P=p.P->jL X m->zR X m y)(L:jL p m):Uo p m (Fi m N λf c s k=>fY m y f c s iY k):=by
 intro g F s v B h D O V a W H R G;unfold Fi at h;split at h;rename_i Q;simp only[aw] at Q;exact axY M L h Q.2 H R G;cases h
def amd(s:S)(X:ar)(i:Nat):(s.bO X).tmps[i]?=(s.tmps[i]?).map λx=>if X.contains i then .any else x:=by
 simp only[S.bO];rw[wz,iX]
def ax2(h:y∉x):(w.bO x).tmps[y]?=w.tmps[y]?:=by
 rw[amd];cases w.tmps[y]?<;>simp[h]
def abH{X W V:Nat}{R:Nat->Bool}(Q:ar):∀(l:aq)(n:Nat),C.ec X W V R l=J->C.ec X W V R (tJ Q n l)=J
 |[],n,_=>rfl
 |x::P,n,h=>by
  simp only[C.iQ,aw] at h;simp only[tJ,C.iQ,aw];refine⟨?_,abH Q P (n+1) h.2⟩;split;simp[C.bj];exact h.1
def Ii{ds:ar}(h:w.e9 v=J):(w.bO ds).e9 v=true:=by
 simp only[S.e9,S.bd,aw,S.bO] at h⊢;exact⟨⟨abH ds _ 0 h.1.1,h.1.2⟩,h.2⟩
def zS{d:cM}{v:C}(h:∀X,d=U X->X∉x):(w.put d v).bO x=(w.bO x).put d v:=by
 cases d with
 |none=>rfl
 |some X=>
  have V:=h X rfl;simp only[S.put,wc,S.bO];congr 1;apply kG;intro i;rw[wz,iX,v6,v6,wz,iX,Ls];by_cases W:X=i;subst W;by_cases R:X<Y w.tmps<;>simp[R,V];simp[W]
def ame{s:S}{ds es:ar}(h:∀x∈es,x∈ds):(s.bO es).bO ds=s.bO ds:=by
 simp only[S.bO];congr 1;apply kG;intro i;rw[wz,wz,wz,iX];cases s.tmps[i]? with
 |none=>rfl
 |some x=>
  simp only[eh];by_cases X:i∈ds;simp[X];have:i∉es:=λW=>X (h i W)
  simp[X,this]
def ax3(v:C):Oj E v=0:=by
 cases v<;>rfl
section
variable{p:Sp}{cf:bE}{ops:dN}
def az.bO{D:cg}{s:S}{O:ai}{V:ar}{a:Act}{W:World}(R:az p.S0 p.w0 D cf.ty V O s a W)(P:ar):az p.S0 p.w0 D cf.ty V O (s.bO P) a W:=by
 refine⟨R.mem,R.gJ,R.ei,R.eb,R.er,R.dl,by simp only[S.bO,Ls];exact R.size,λt N X=> ?_,R.gj⟩;rw[amd] at X;cases Q:s.tmps[t]? with
 |none=>rw[Q] at X;cases X
 |some x=>
  rw[Q] at X;simp only[eh,cU] at X;split at X;exact .inl X.symm;subst X;exact R.tmps t x Q
def amf{m:OM}{O:ai}{b:BE}{v:C}(P:nY m.o.op=J)(N:m.bS=E)(h:Bs cf w m.o=U (b,v))(M:b.ab O=J):(gG cf m w).gives O (w.put m.o.dst v):=by
 unfold Bs at h;split at h;cases h;rename_i W;simp only[jy,not_or,aiV] at W;obtain⟨W,V⟩:=W;have R:(tG w m.o.dst 0 (cE cf.ty cf.gl w m.o.op)).gives O (w.put m.o.dst v):=by
  split at h;rename_i X Q;cases h;rw[Q];simp only[tG,OR.gives,Ie];rename_i G X Q;split at h;rename_i L;cases h;rw[Q];simp only[tG,L,cN,OR.gives,Ie,and_true];exact M;cases h;cases h
 unfold gG;rw[aQ (by rw[W];simp)];cases H:m.o.op<;>rw[H] at P R V<;>simp only[nY,jp,ZX] at P V<;>first|exact R|(simp only[N,ax3];exact R)|cases V
def Uy{o:Oper}{s:S}{O:ai}(h:∀t∈jV ops o,t∉x):ly cf ops o s O (s.bO x) O:=ly.zN (λt X=>ax2 (h t X)) rfl rfl rfl
def amg{o:Oper}{ds:ar}{r:BE×C}(h:∀t∈jV ops o,t∉ds)(W:Bs cf w o=U r):Bs cf (w.bO ds) o=U r:=by
 have R:=Uy (cf:=cf) (s:=w) (O:=⟨[],[],[],[]⟩) h;have P:=R.ev cf.gl;unfold Bs at W⊢;split at W;cases W;rename_i L;have H:¬((o.op.operands.toList.any λx=>((w.bO ds).ev cf.gl x).eO)||ZX o.op)=true:=by
  intro V;apply L;simp only[jy] at V⊢;rcases V with V|V;left;obtain⟨x,M,G⟩:=kH.1 V;exact kH.2 ⟨x,M,by rw[<-P x M];exact G⟩;exact .inr V
 rw[aQ H];cases Q:cE cf.ty cf.gl w o.op with
 |ok X=>rw[Uj (ty:=cf.ty) P R.kd R.kl (λi _=>rfl) Q (λX N=>by cases N)];rw[Q] at W;exact W
 |be b X=>rw[Uj (ty:=cf.ty) P R.kd R.kl (λi _=>rfl) Q (λX N=>by cases N)];rw[Q] at W;exact W
 |no X=>rw[Q] at W;cases W
def ax4{m:OM}{P:S}(N:Oy m.o.op=J)(h:∀t∈jV ops m.o,t∉x)(Q:∀X,m.o.dst=U X->X∉x)(W:gG cf m w=.ok P):gG cf m (w.bO x)=.ok (P.bO x):=by
 have H:=Uy (cf:=cf) (s:=w) (O:=⟨[],[],[],[]⟩) h;have R:=H.ev cf.gl;unfold gG at W⊢;split at W;cases W;rename_i G;have F:¬(m.o.op.operands.toList.any λX=>((w.bO x).ev cf.gl X).eO)=true:=by
  intro D;apply G;obtain⟨X,M,B⟩:=kH.1 D;exact kH.2 ⟨X,M,by rw[<-R X M];exact B⟩
 rw[aQ F];have l:∀(n:Nat)(t:TypeId)(L:aq),(w.bO x).dt n t L=(w.dt n t L).bO x:=λ_ _ _=>rfl
 cases A:m.o.op<;>rw[A] at N W R<;>simp only[Oy,jp] at N
 
 simp only at W⊢;split at W;split at W;rename_i V;simp only[aw] at V;rw[aJ (by simp only[aw];exact⟨Ii V.1,V.2⟩)];cases W;rw[zS Q];rfl;cases W;cases W
 
 rename_i t X;simp only at W⊢;rw[R X cK];split at W;split at W;rename_i V;simp only[aw] at V;rw[aJ (by simp only[aw];exact⟨⟨⟨V.1.1.1,Ii V.1.1.2⟩,V.1.2⟩,V.2⟩)];cases W;rw[zS Q];rfl;cases W;cases W;rename_i t k parts;simp only at W⊢;have z:(parts.toList.map λq=>(q.1,(w.bO x).ev cf.gl q.2))=parts.toList.map λq=>(q.1,w.ev cf.gl q.2):=by
  refine jT λq v=> ?_
  rw[R q.2 (by simp only[iF,iq];exact⟨q,v,rfl⟩)]
 rw[z];split at W;split at W;split at W;split at W;rename_i V;simp only[aw] at V;rw[aJ (by simp only[aw];exact⟨⟨Ii V.1.1,V.1.2⟩,V.2⟩)];cases W;congr 1;rw[zS Q];rfl;cases W;cases W;cases W;cases W
 
 rename_i t X y;simp only at W⊢;rw[R X cK,R y cK];split at W;split at W;rename_i u;have r:mb (w.bO x).ap _=_:=u;rw[r];simp only;split at W;rename_i V;rw[show(w.bO x).lk=w.lk from rfl,aJ V];cases W;rw[zS Q];rfl;cases W;cases W;cases W
def amh{o:Oper}{s:S}(h:∀t∈jV ops o,t∉x):∀X∈o.op.operands.toList,s.ev cf.gl X=(s.bO x).ev cf.gl X:=
 λX W=>((Uy (cf:=cf) (s:=s) (O:=⟨[],[],[],[]⟩) h).ev cf.gl X W).symm
def Uz{X:Ty}(r:RE):r.kind X (w.bO x)=r.kind X w:=DA (s:=w.bO x) (s':=w) rfl r
def UA{X:Ty}{s:S}{W:ar}:∀(aj:fj)(l:aq),mM X (s.bO W) aj l=mM X s aj l
 |[],[]=>rfl
 |[],_::_=>rfl
 |_::_,[]=>rfl
 |c::V,v::R=>by
  simp only[mM,UA V R];congr 1;unfold tF;split<;>try rfl
  rename_i z k r;cases k<;>simp only[RE.fits,Uz]
def UB{X:Ty}{s:S}{W:ar}(aj:fj):∀l:xK,nX X (s.bO W) aj l=nX X s aj l
 |[]=>rfl
 |r::V=>by simp only[nX,UA,UB aj V]
def PB{s:S}{ds:ar}{d:cM}{be:BE}{e:TypeId}{k:RK}{x:LE}{W dq:ar}{b:BI}(V:∀x,d=U x->x∉ds)(h:kC s d be e k x W dq=U b):kC (s.bO ds) d be e k x W dq=U {b with s:=b.s.bO ds}:=by
 unfold kC at h⊢;split at h;rename_i X;cases h;have R:(s.bO ds).bd=true:=by
  have Q:s.e9 []=true:=by
   simp only[aw] at X;simp only[S.e9,C.iQ,N8];exact X.1.1.1
  have:=Ii (ds:=ds) Q;simpa only[S.e9,C.iQ,N8] using this
 simp only[aw] at X;rw[aJ (by simp only[aw];exact⟨⟨⟨R,X.1.1.2⟩,X.1.2⟩,X.2⟩),zS V];rfl;cases h
def ax5{bS:Bool}(v:C):xQ (w.bO x) h bS v=xQ w h bS v:=rfl
def ax6{X:Ty}{W:TI}(v:C):sd X (w.bO x) h W v=sd X w h W v:=by
 unfold sd;split<;>simp only[Uz,UB]<;>rfl
def ami{X:ar}{k n:Nat}:∀(l:aq)(i:Nat),tJ X i (C.pE k n l)=C.pE k n (tJ X i l)
 |[],_=>rfl
 |x::W,i=>by
  simp only[C.pE,tJ,ami W (i+1)];split<;>rfl
def amj{n:Nat}:(w.bO x).iB y n=(w.iB y n).bO x:=by
 simp only[S.bO,S.iB,ami]
def ax7{d:cM}{u:Bk}(W:∀X,d=U X->X∉x)(h:HF cf t v w d=U u):HF cf t v (w.bO x) d=U {u with s:=u.s.bO x}:=by
 unfold HF at h⊢;split at h;split at h;have V:(w.bO x).ap=w.ap:=rfl;have R:(w.bO x).rs=w.rs:=rfl;have Q:(w.bO x).ni=w.ni:=rfl;have P:(w.bO x).nb=w.nb:=rfl;simp only[V,R,Q,P];split at h;split at h;rename_i O;cases h;rw[aJ O];congr 2;rw[zS W,<-amj];rfl;cases h;cases h;cases h;cases h
def ax8(h:w.bd=J):(w.bO x).bd=true:=by
 simp only[S.bd,aw,S.bO] at h⊢;exact⟨abH x _ 0 h.1,h.2⟩
def ax9{o:Oper}{u:Bk}(W:eB cf (w.bO x) o=eB cf w o)(V:∀X,o.dst=U X->X∉x)(h:HG cf o w=U u):HG cf o (w.bO x)=U {u with s:=u.s.bO x}:=by
 unfold HG at h⊢;rw[W];split at h;cases h;rename_i R;have Q:(w.bO x).bd=true:=ax8 (by simpa using R);rw[aQ (by simp[Q])];generalize eB cf w o=c at h;cases c with
 |call g P=>
  cases g with
  |fn f=>exact ax7 V h
  |yl n=>cases h
 |bI v=>cases h
 |no=>cases h
 |op=>cases h
def MR.bO(X:ar):MR->MR
 |.ok s=>.ok (s.bO X)
 |.ac k x s=>.ac k x (s.bO X)
def aya{X:Ty}{W:Sh}(r:RE):r.oT X (w.bO x) W=r.oT X w W:=by
 cases r<;>simp only[RE.oT,Uz]<;>rfl
def ayb{e:TypeId}{X:Bool}{W:TI}:Bh cf (w.bO x) h e y X W v=Bh cf w h e y X W v:=by
 unfold Bh;split;simp only[aya];rfl
def ayc{d:cM}{s:S}{X:ar}{t:TypeId}{R V v:C}{r:MR}(Q:∀x,d=U x->x∉X)(h:E9 cf d s t R V v=U r):E9 cf d (s.bO X) t R V v=U (r.bO X):=by
 unfold E9 at h⊢;have P:(s.bO X).ap=s.ap:=rfl;have O:(s.bO X).rs=s.rs:=rfl;by_cases W:s.e9 [V,v]=J
 ·have N:=Ii (ds:=X) W;simp only[W,N,P,O,ayb,UA] at h⊢
  repeat' split at h
  all_goals first
   |(cases h;done)
   |(cases h;(repeat' split)<;>first|contradiction|(exfalso;simp_all;done)|(simp only[MR.bO,zS Q];rfl)|(simp_all[MR.bO,zS Q];done))
 ·have W:s.e9 [V,v]=false:=by simpa using W
  simp only[W] at h
  repeat' split at h
  all_goals first
   |(cases h;done)
   |(exfalso;simp_all;done)
def amk{o:Oper}{r:MR}(h:∀t∈jV ops o,t∉x)(O:∀X,o.dst=U X->X∉x)(W:Di cf o w=U r):Di cf o (w.bO x)=U (r.bO x):=by
 have V:=amh (cf:=cf) (s:=w) h;unfold Di at W⊢;split at W;rename_i t X y z N;split at W;cases W;rename_i M;have R:¬(o.op.operands.toList.any λX=>((w.bO x).ev cf.gl X).eO)=true:=λQ=>M (by
  rw[kH] at Q⊢;obtain⟨q,P,L⟩:=Q;exact⟨q,P,by rw[V q P];exact L⟩)
 rw[N] at V R⊢;show(if _ then Z else _)=_;rw[aQ R,<-V X cK,<-V y cK,<-V z cK];exact ayc O W;cases W
def aml{o:Oper}{r:MR}(h:Di cf o w=U r):∀c,o.op≠ .defer c:=by
 intro c X;simp[Di,X] at h
def amm{p:Sp}{D:cg}{V:ar}{a:Act}{W:World}(R:az x e D cf.ty V N w a W)(G:jg p.P cf.ty)(L:e8 cf.gl N){o:Oper}{r:MR}(h:Di cf o w=U r):
  ∃Q,ss p.P o a W undef Q/\r.aku x e D cf.ty V N w (a.put o.dst undef) Q:=by
 unfold Di at h;split at h;rename_i t X y z H;split at h;cases h;rename_i F;have M:∀X∈o.op.operands.toList,(w.ev cf.gl X).eO=false:=by
  intro X B;cases A:(w.ev cf.gl X).eO;rfl;exact aZ (kH.2 ⟨X,B,A⟩) F
 rw[H] at M;have v:=du R L X (M X cK);have u:=du R L y (M y cK);have q:=du R L z (M z cK);obtain⟨Q,n,m⟩:=Pa (P:=p.P) R G h;exact⟨Q,.inr ⟨by simp only[execOp,H,v,u,q,dA,n,dv,fq],rfl⟩,m⟩;cases h
def ayd{o:Oper}{bS:Bool}{b:BI}(Q:Kv o.op=J)(h:∀t∈jV ops o,t∉x)(O:∀X,o.dst=U X->X∉x)(W:eZ cf o bS E w=U b):eZ cf o bS E (w.bO x)=U {b with s:=b.s.bO x}:=by
 have V:=amh (cf:=cf) (s:=w) h;unfold eZ at W⊢;cases P:o.op with
 |call c=>
  rw[P] at Q W V;simp only[Kv] at Q;split at Q
  ·rename_i u;simp only[u] at W⊢;have r:c.args.toList.map ((w.bO x).ev cf.gl)=c.args.toList.map (w.ev cf.gl):=jT λX R=>(V X (by simp[iF,A7];exact .inr (by simpa using R))).symm
   rw[r];simp only[ax5,ax6]
   repeat' split at W
   all_goals first
    |cases W;done
    |(have q:=PB (ds:=x) O W;(repeat' split)<;>first|exact q|contradiction|(exfalso;simp_all;done))
  cases Q
 |makeSlice t n m=>
  rw[P] at W V;simp only at W⊢;rw[<-V n cK,<-V m cK];simp only[UB]
  repeat' split at W
  all_goals first
   |cases W;done
   |(have q:=PB (ds:=x) O W;(repeat' split)<;>first|exact q|contradiction|(exfalso;simp_all;done))
 |buildSlice t d parts=>
  rw[P] at W V;have l:(parts.toList.map λq=>(q.1,(w.bO x).ev cf.gl q.2))=parts.toList.map λq=>(q.1,w.ev cf.gl q.2):=by
   refine jT λq M=> ?_
   rw[V q.2 (by simp only[iF,iq];exact⟨q,M,rfl⟩)]
  have j:(parts.toList.any λq=>((w.bO x).ev cf.gl q.2).eO)=parts.toList.any λq=>(w.ev cf.gl q.2).eO:=by
   rw[uD,kH,kH];constructor;rintro⟨X,R,L⟩;exact⟨X,R,by rw[V X.2 (by simp only[iF,iq];exact⟨X,R,rfl⟩)];exact L⟩;rintro⟨X,R,L⟩;exact⟨X,R,by rw[<-V X.2 (by simp only[iF,iq];exact⟨X,R,rfl⟩)];exact L⟩
  simp only at W⊢;rw[l,j];simp only[UB]
  repeat' split at W
  all_goals first
   |cases W;done
   |(have q:=PB (ds:=x) O W;(repeat' split)<;>first|exact q|contradiction|(exfalso;simp_all;done))
 |slice t X D B A=>
  rw[P] at W V;have H:∀y:Option Operand,(∀z,y=U z->z∈(Op.slice t X D B A).operands.toList)->y.map ((w.bO x).ev cf.gl)=y.map (w.ev cf.gl):=by
   intro y i;cases y with
   |none=>rfl
   |some z=>simp only[eh];rw[<-V z (i z rfl)]
  simp only at W⊢;rw[<-V X cK,H D (λz N=>by subst N;simp[iF]),H B (λz N=>by subst N;simp[iF]),H A (λz N=>by subst N;simp[iF])];simp only[Uz]
  repeat' split at W
  all_goals first
   |cases W;done
   |(have q:=PB (ds:=x) O W;(repeat' split)<;>first|exact q|contradiction|(exfalso;simp_all;done))
 |store t a X=>
  rw[P] at W V;simp only at W⊢;rw[<-V a cK,<-V X cK];have g:(w.bO x).rs=w.rs:=rfl;simp only[UA];rw[g];have v:∀{be:BE}{e:TypeId}{G:RK}{y:LE}{F dq:ar}{k:Nat}{b:BI},(kC w Z be e G y F dq).map (λb=>{b with s:=(b.s.iB k (Y w.rs)).put o.dst (.bM [])})=U b->
    (kC (w.bO x) Z be e G y F dq).map (λb=>{b with s:=(b.s.iB k (Y w.rs)).put o.dst (.bM [])})=U {b with s:=b.s.bO x}:=by
   intro be e G y F dq k b M;obtain⟨b0,f,rfl⟩:=SH.1 M;rw[PB (ds:=x) av f];simp only[eh];rw[amj,<-zS O]
  repeat' split at W
  all_goals first
   |cases W;done
   |(have q:=v W;clear v;(repeat' split)<;>first|exact q|contradiction|(exfalso;simp_all;done))
 |_=>rw[P] at Q;simp[Kv] at Q
end
section
variable{ops:dN}
def qd(l:cX):ar:=l.filterMap (·.o.dst)
structure uW(ops:dN)(listed:Array Bool)(rem:cX):Prop where
 mem:∀m∈rem,ops[m.j]?=U m.o
 un:∀i,i<ops.size->(listed.getD i J=E<->∃m∈rem,m.j=i)
 sz:listed.size=ops.size
 dn:∀(j:Nat)(o:Oper),ops[j]?=U o->listed.getD j E=J->∀e∈lL o,listed.getD e E=J
 nd:rem.Pairwise λx y=>x.j≠y.j
def uW.listed{listed:Array Bool}{O:cX}(W:Li ops x)(N:uW ops listed O):∀(j:Nat)(o:Oper),ops[j]?=U o->(∀e∈lL o,listed.getD e E=J)->∀i,i<ops.size->(x.getD j 0).testBit i=J->listed.getD i E=true:=by
 intro j;induction j using SP with
 |_ j M=>
  intro o X V i R L;rcases W.cl j o X i R L with h|⟨e,Q,h⟩;exact V i h;have H:=W.lt j o X e Q;have G:j<ops.size:=(oQ.1 X).1;have P:ops[e]?=U ops[e]:=auV aa;exact M e H ops[e] P (N.dn e _ P (V e Q)) i R h
def uW.lt{listed:Array Bool}{X:cX}(W:uW ops listed X){m:OM}(V:m∈X):m.j<ops.size:=(oQ.1 (W.mem m V)).1
def uW.not{listed:Array Bool}{V:cX}(X:uW ops listed V){m:OM}(W:m∈V):listed.getD m.j E≠true:=by
 have h:=(X.un m.j (X.lt W)).2 ⟨m,W,rfl⟩;have R:m.j<listed.size:=by rw[X.sz];exact X.lt W
 simp[R] at h⊢;exact h
def uW.next{listed:Array Bool}{V R:cX}{m:OM}(W:uW ops listed (V++m::R))(D:∀e∈lL m.o,listed.getD e E=J):uW ops (listed.setIfInBounds m.j J) (V++R):=by
 have H:=W.mem m av;have B:m.j<ops.size:=(oQ.1 H).1;have P:m.j<listed.size:=by rw[W.sz];exact B
 have O:avq (V++R) (V++m::R):=aiP (aiS _) (aiM _ _);have A:∀x∈V++R,x.j≠m.j:=by
  intro x X;have N:=W.nd;rw[nU] at N;rcases eV.1 X with h|h;exact N.2.2 x h m av;exact Ne.symm ((jq.1 N.2.1).1 x h)
 refine⟨λx X=>W.mem x (O.subset X),λi z=> ?_,by simp[W.sz],λj o M Q e G=> ?_,W.nd.sublist O⟩;rw[If _ _ _ _ P];by_cases L:i=m.j;subst L;simp only[cN,aIB,false_iff];rintro⟨x,X,Q⟩;exact A x X Q;rw[aQ L,W.un i z];constructor;rintro⟨x,X,rfl⟩;refine⟨x, ?_,rfl⟩;simp only[eV,dP] at X⊢;rcases X with h|h|h;exact .inl h;subst h;exact aZ rfl L;exact .inr h;rintro⟨x,X,rfl⟩;exact⟨x,O.subset X,rfl⟩;rw[If _ _ _ _ P];rw[If _ _ _ _ P] at Q;split;rfl;by_cases F:j=m.j;subst F;rw[H] at M;cases M;exact D e G;rw[aQ F] at Q;exact W.dn j o M Q e G
def uW.some{listed:Array Bool}{W:cX}(O:Li ops x)(X:uW ops listed W):∀(j:Nat),(∃m∈W,m.j=j)->∃m∈W,∀e∈lL m.o,listed.getD e E=true:=by
 intro j;induction j using SP with
 |_ j N=>
  rintro⟨m,V,rfl⟩;by_cases h:∀e∈lL m.o,listed.getD e E=J;exact⟨m,V,h⟩;simp only[Classical.not_forall] at h;obtain⟨e,M,R⟩:=h;have Q:=O.lt m.j m.o (X.mem m V) e M;have P:e<ops.size:=Nat.lt_trans Q (X.lt V);have:listed.getD e J=false:=by
   have L:e<listed.size:=by rw[X.sz];exact P
   simp[L] at R⊢;exact R
  exact N e Q ((X.un e P).1 this)
end
def aye(X:aS)(s:S)(W:ar):((s.bO W).cP X).1=(s.cP X).1/\((s.bO W).cP X).2=(s.cP X).2.bO W:=by
 induction X generalizing s with
 |nil=>exact⟨rfl,rfl⟩
 |cons k X V=>
  simp only[S.cP];have R:((s.bO W).fresh k).1=(s.fresh k).1:=by cases k<;>rfl
  have Q:((s.bO W).fresh k).2=(s.fresh k).2.bO W:=by cases k<;>rfl
  rw[R,Q];obtain⟨P,O⟩:=V (s.fresh k).2;exact⟨by rw[P],O⟩
section
variable{p:Sp}{cf:bE}
open Classical in
noncomputable def DH(s:S)(W:ar)(k:C->S->T):C->S->T:=λv X=>if X.tmps=(s.bO W).tmps then k v {X with tmps:=s.tmps} else .stuck ""
def ayf{P:YH}{k V:C->S->T}
  (h:(kD cf l P (.fn t) v w k V).aP p N b):(kD cf l P (.fn t) v (w.bO x) (DH w x k) (DH w x V)).aP p N b:=by
 unfold kD at h⊢;simp only at h⊢;split at h;rename_i c A M y;split at h;rename_i H;rw[aJ (Ii H)];have:Kr cf (w.bO x) M (DH w x k) (DH w x V)=Kr cf w M k V:=by
  funext e u;cases e<;>simp only[Kr,DH,cN]
 rw[this];exact h;exact h.elim;unfold zv at h⊢;split at h;split at h;rename_i W r;obtain⟨G,F⟩:=aye W (w.cut v W) x;have D:(w.bO x).cut v W=(w.cut v W).bO x:=rfl;rw[D,G,F];split at h;rename_i X q;split at h;rename_i R;simp only[aw] at R;rw[aJ (by simp only[aw];exact⟨Ii R.1,R.2⟩)];have Q:((w.cut v W).cP W).2.tmps=w.tmps:=(ye W (w.cut v W)).2.1;have B:DH w x k (one X) (((w.cut v W).cP W).2.bO x)=k (one X) ((w.cut v W).cP W).2:=by
  simp only[DH];rw[aJ (by simp only[S.bO,Q])];congr 1;simp only[S.bO];generalize((w.cut v W).cP W).2=z at Q;rw[<-Q]
 rw[B];exact h;exact h.elim;exact h.elim;exact h.elim;exact h.elim
end
section
variable{p:Sp}{cf:bE}{ops:dN}
def amn{V:Type}:∀{l:List V}{x:V},x∈l->∃X W,l=X++x::W/\(x,X++W)∈Kt l
 |[],x,h=>by cases h
 |y::r,x,h=>by
  rcases dP.1 h with rfl|h;exact⟨[],r,rfl,by simp[Kt]⟩;obtain⟨X,W,R,Q⟩:=amn h;subst R;exact⟨y::X,W,rfl,by simp only[Kt,dP,iq];exact .inr ⟨_,Q,rfl⟩⟩
def abI{p:Sp}{O:ai}{L:dC}:∀{l:List T},(Dh l).aP p O L->∀t∈l,t.aP p O L
 |[],h,_,_=>h.elim
 |[t],h,x,X=>by simp only[J1] at X;subst X;exact h
 |t::u::r,h,x,X=>by
  simp only[Dh,T.aP,BE.ab,true_implies] at h;rcases dP.1 X with rfl|X;exact h.1;exact abI (l:=u::r) h.2 x X
def PD:∀{l m:bG},nz l m=J->l=m
 |[],[],_=>rfl
 |[],_::_,h=>by simp[nz] at h
 |Z::_,[],h=>by simp[nz] at h
 |U _::_,[],h=>by simp[nz] at h
 |Z::X,Z::W,h=>by simp only[nz] at h;rw[PD h]
 |Z::_,U _::_,h=>by simp[nz] at h
 |U _::_,Z::_,h=>by simp[nz] at h
 |U (t,V)::X,U (R,Q)::W,h=>by
  simp only[nz,aw,dE] at h;rw[h.1.1,C.tO _ _ h.1.2,PD h.2]
def amo:∀{l m:xK},Ku l m=J->l=m
 |[],[],_=>rfl
 |[],_::_,h=>by simp[Ku] at h
 |_::_,[],h=>by simp[Ku] at h
 |x::X,y::W,h=>by
  simp only[Ku,aw] at h;rw[C.tO _ _ h.1,amo h.2]
def LE.bY:∀(a b:LE),LE.aN a b=J->a=b
 |.ah r,b,h=>by cases b<;>simp[LE.aN] at h;rw[RE.bY _ _ h]
 |.lit l,b,h=>by cases b<;>simp[LE.aN] at h;rw[amo h]
 |.kJ x y,b,h=>by cases b<;>simp[LE.aN] at h;rw[LE.bY _ _ h.1,LE.bY _ _ h.2]
 |.wb n W,b,h=>by cases b<;>simp[LE.aN] at h;rw[K.bY _ _ h.1,C.tO _ _ h.2]
 |.set x i V X,b,h=>by cases b<;>simp[LE.aN] at h;rw[LE.bY _ _ h.1.1.1,K.bY _ _ h.1.1.2,h.1.2,C.tO _ _ h.2]
 |.sub x R Q,b,h=>by cases b<;>simp[LE.aN] at h;rw[LE.bY _ _ h.1.1,K.bY _ _ h.1.2,K.bY _ _ h.2]
 |.ins x n X,b,h=>by cases b<;>simp[LE.aN] at h;rw[LE.bY _ _ h.1.1,h.1.2,C.tO _ _ h.2]
def S.bY{s s':S}(h:S.aN s s'=J):s=s':=by
 obtain⟨M,a2,L,H,a5,a6,a7,a8⟩:=s;obtain⟨G,F,D,B,A,z,y,x⟩:=s';simp only[S.aN,aw,dE,cm] at h;obtain⟨⟨⟨⟨⟨⟨⟨X,W⟩,V⟩,R⟩,Q⟩,P⟩,O⟩,N⟩:=h;rw[C.tO _ _ X,PD W,V,R,Q,P,O,N]
def T.bY:∀(a b:T),T.aN a b=J->a=b
 |.out e s,b,h=>by
  cases e with
  |normal=>
   cases b with
   |out W s'=>
    cases W with
    |normal=>rw[S.bY (s:=s) (s':=s') h]
    |_=>simp[T.aN] at h
   |_=>simp[T.aN] at h
  |_=>simp[T.aN] at h
 |.stuck _,b,h=>by simp[T.aN] at h
 |.eE _ _ _ _ _ _ _ _,b,h=>by simp[T.aN] at h
 |.ret v V X,b,h=>by cases b<;>simp[T.aN] at h;rw[C.bY _ _ h.1.1,PD h.1.2,h.2]
 |.bI v,b,h=>by cases b<;>simp[T.aN] at h;rw[C.bY _ _ h]
 |.aT c t f,b,h=>by cases b<;>simp[T.aN] at h;rw[BE.bY _ _ h.1.1,T.bY _ _ h.1.2,T.bY _ _ h.2]
 |.be c t,b,h=>by cases b<;>simp[T.aN] at h;rw[BE.bY _ _ h.1,T.bY _ _ h.2]
 |.call f G V X R jz t,b,h=>by
  cases b<;>simp[T.aN] at h;obtain⟨⟨⟨⟨⟨⟨Q,P⟩,O⟩,N⟩,M⟩,L⟩,H⟩:=h;rw[Q,C.tO _ _ P,PD O,N,M,C.bY _ _ L,T.bY _ _ H]
 |.loop ax R F t,b,h=>by cases b<;>simp[T.aN] at h;rw[h.1.1.1,h.1.1.2,C.tO _ _ h.1.2,T.bY _ _ h.2]
 |.back ax x,b,h=>by cases b<;>simp[T.aN] at h;rw[h.1,C.tO _ _ h.2]
 |.new e x X D t,b,h=>by cases b<;>simp[T.aN] at h;rw[h.1.1.1.1,LE.bY _ _ h.1.1.1.2,h.1.1.2,h.1.2,T.bY _ _ h.2]
 |.ac k x X t,b,h=>by cases b<;>simp[T.aN] at h;rw[h.1.1.1,LE.bY _ _ h.1.1.2,h.1.2,T.bY _ _ h.2]
 |.gF g k t f,b,h=>by cases b<;>simp[T.aN] at h;rw[BE.bY _ _ h.1.1.1,BE.bY _ _ h.1.1.2,T.bY _ _ h.1.2,T.bY _ _ h.2]
 |.pick n g k t f,b,h=>by
  cases b<;>simp[T.aN] at h;rw[K.bY _ _ h.1.1.1.1,BE.bY _ _ h.1.1.1.2,BE.bY _ _ h.1.1.2,T.bY _ _ h.1.2,T.bY _ _ h.2]
def Lv:∀{l:List T}{t:T},t∈l->t∈HQ l
 |[],t,h=>by cases h
 |u::R,t,h=>by
  simp only[HQ];rcases dP.1 h with rfl|h;split;rename_i X;obtain⟨w,W,V⟩:=kH.1 X;rw[T.bY _ _ V];exact Lv W;exact N4;split;exact Lv h;exact CX _ (Lv h)
def amp{p:Sp}{O:ai}{L:dC}:∀{l:List BE}{t:T},(Tm l t).aP p O L->(∀b∈l,b.ab O=J)/\t.aP p O L
 |[],t,h=>⟨λ_ X=>(by cases X),h⟩
 |b::r,t,h=>by
  simp only[Tm,T.aP] at h;obtain⟨W,V⟩:=amp h.2;exact⟨λx R=>(dP.1 R).elim (λe=>e▸h.1) (W x),V⟩
def ayg{V:qp}{mN:List BE}{X:cX}{R:ar}{k:S->T}{Q:C->S->T}{W:cX}(h:(pH cf V x mN X R k Q y W w).aP p N b):ZZ cf mN w X=true:=by
 cases W with
 |nil=>
  cases y<;>simp only[pH] at h<;>split at h;assumption;exact h.elim;assumption;exact h.elim
 |cons m M=>
  cases y with
  |zero=>exact h.elim
  |succ y=>
   simp only[pH] at h;split at h;exact h.elim;rename_i P;simpa using P
def ayh(s:S):s.bO []=s:=by
 obtain⟨X,b,c,d,e,f,g,i⟩:=s;simp only[S.bO,S.mk.injEq,and_self,and_true];apply kG;intro i;rw[wz];cases X[i]?<;>simp
def abJ:∀{l:List T}{t:T},t∈HQ l->t∈l
 |[],t,h=>by cases h
 |u::X,t,h=>by
  simp only[HQ] at h;split at h;exact CX _ (abJ h);rcases dP.1 h with rfl|h;exact N4;exact CX _ (abJ h)
def amq{O:ai}{L:dC}:∀{l:List T},l≠[]->(∀t∈l,t.aP p O L)->(Dh l).aP p O L
 |[],h,_=>aZ rfl h
 |[t],_,h=>h t N4
 |t::u::r,_,h=>by
  simp only[Dh,T.aP];exact⟨λ_=>h t N4,λ_=>amq (l:=u::r) av λx X=>h x (CX _ X)⟩
def amr{k:S->T}{X:C->S->T}:∀{l:List T},(Dh l).nA k X=Dh (l.map (T.nA k X))
 |[]=>rfl
 |[t]=>rfl
 |t::u::r=>by
  simp only[Dh,T.nA,dU];rw[amr (l:=u::r)];rfl
def ayi{k:S->T}{Q:C->S->T}{P M:C->S->T}(z:∀X H N b,((P X H).nA k Q).aP p N b->(M X H).aP p N b)(h:((zv cf t v w P).nA k Q).aP p N b):(zv cf t v w M).aP p N b:=by
 unfold zv at h⊢;cases G:cf.sig t with
 |none=>rw[G] at h;exact h.elim
 |some F=>
  simp only[G] at h⊢;cases D:iG cf.ty F with
  |none=>rw[D] at h;exact h.elim
  |some B=>
   simp only[D] at h⊢;cases A:Bg cf.ty F ((w.cut v B).cP B).1 with
   |none=>rw[A] at h;exact h.elim
   |some l=>
    simp only[A] at h⊢;split at h;rename_i x;rw[aJ x];simp only[T.nA,T.aP] at h⊢;intro y V W u;refine(h y V W u).mono λe i R=> ?_
    cases e with
    |returned X=>
     obtain⟨r,q,o,n,m,j⟩:=R;exact⟨r,q,o,n,m,z _ _ _ _ j⟩
    |panicked f=>exact R
    |outgrown=>exact R
    exact h.elim
def ayj{k:S->T}{H j:C->S->T}{i:YH}{m:OM}{D B:S->T}(R:∀Q N b,((D Q).nA k H).aP p N b->(B Q).aP p N b)(h:((Fk cf (Oz cf) x j m D w).nA k H).aP p N b):(Fk cf (kD cf l i) x H m B w).aP p N b:=by
 unfold Fk at h⊢;cases A:HG cf m.o w with
 |some u=>
  simp only[A,T.nA,T.aP] at h⊢;obtain⟨f,e,d⟩:=h;exact⟨f,e,R _ _ _ d⟩
 |none=>
 simp only[A] at h⊢;cases P:eB cf w m.o with
 |call c ag=>
  cases c with
  |fn g=>
   simp only[P,Oz] at h⊢;split at h;rename_i G;have G:cf.inl g=none:=by simpa using G
   simp only[kD,G];exact ayi (λv Q N b a=>R _ N b a) h;exact h.elim
  |yl n=>simp only[P,Oz] at h;exact h.elim
 |bI v=>simp only[P] at h;exact h.elim
 |no=>simp only[P] at h;exact h.elim
 |op=>
  simp only[P] at h⊢;cases z:(if Kv m.o.op then eZ cf m.o m.bS E w else Z) with
  |some X=>
   simp only[z,T.nA,T.aP] at h⊢;exact⟨h.1,λrv af=>R _ _ _ (h.2 rv af)⟩
  |none=>
   simp only[z] at h⊢;cases F:Di cf m.o w with
   |some r=>
    cases r with
    |ok Q=>simp only[F] at h⊢;exact R _ _ _ h
    |ac k W Q=>simp only[F,T.nA,T.aP] at h⊢;exact R _ _ _ h
   |none=>
   simp only[F] at h⊢;by_cases y:nY m.o.op=J;rw[aJ y] at h⊢;cases t:Bs cf w m.o with
   |none=>rw[t] at h;exact h.elim
   |some W=>
    obtain⟨X,v⟩:=W;simp only[t,T.nA,T.aP] at h⊢;exact⟨h.1,R _ _ _ h.2⟩
   rw[aQ y] at h⊢;by_cases q:Oy m.o.op=J;rw[aJ q] at h⊢;cases M:gG cf m w with
   |ok Q=>simp only[M] at h⊢;exact R _ _ _ h
   |be X Q=>simp only[M] at h;exact h.elim
   |split X s1 s2=>simp only[M] at h;exact h.elim
   |no V=>simp only[M] at h;exact h.elim
   rw[aQ q] at h;exact h.elim
def ayk{k:S->T}{W D:C->S->T}{P:YH}{mN:List BE}{V:ar}:∀(n:Nat)(R:cX)(Q:cX)(s:S)(O:ai)(L:dC),
  ((pH cf (Oz cf) x mN Q V (.out .normal) D n R s).nA k W).aP p O L->(pH cf (kD cf l P) x mN Q V k W n R s).aP p O L:=by
 intro n;induction n with
 |zero=>
  intro R Q s O L h;cases R with
  |nil=>
   simp only[pH] at h⊢;split at h;rename_i N;rw[aJ N];exact h;exact h.elim
  |cons m r=>exact h.elim
 |succ n B=>
  intro R Q s O L h;cases R with
  |nil=>
   simp only[pH] at h⊢;split at h;rename_i N;rw[aJ N];exact h;exact h.elim
  |cons m r=>
   simp only[pH] at h⊢;split at h;exact h.elim;rename_i N;rw[aQ N];rw[amr] at h;have H:=abI h;cases G:(Kt (m::r)).filter (Z0 x) with
   |nil=>rw[G] at h;exact h.elim
   |cons X A=>
    rw[G] at H;refine amq (λF=> ?_) λt z=> ?_
    have:=Lv (N4 (a:=Fk cf (kD cf l P) V W X.1 (λM=>pH cf (kD cf l P) x mN (Kw x X.1 Q) V k W n X.2 M) s) (l:=A.map λX=>Fk cf (kD cf l P) V W X.1 (λM=>pH cf (kD cf l P) x mN (Kw x X.1 Q) V k W n X.2 M) s));simp only[dU] at F;rw[F] at this;cases this;obtain⟨y,w,rfl⟩:=iq.1 (abJ z);exact ayj (λM O L v=>B _ _ _ _ _ v) (H _ (iq.2 ⟨_,Lv (iq.2 ⟨y,w,rfl⟩),rfl⟩))
structure ams(cf:bE)(ops:dN)(bs:ar)(qs ch:cX):Prop where
 amt:Li ops bs
 yc:∀m∈qs++ch,∀x∈qs++ch,∀d,x.o.dst=U d->d∈jV ops m.o->(bs.getD m.j 0).testBit x.j=J
 dst:∀x∈qs++ch,∀y∈qs++ch,x.j≠y.j->∀d,x.o.dst=U d->y.o.dst≠U d
 gd:∀m∈qs++ch,m.o.guard=Z/\m.bS=E
 qt:∀q∈qs,nY q.o.op=J
def ayl{F:Fence}(hF:rp F)(ok:jL p cf){nn:Nat}(ih:zR p cf nn){D:cg}{B:jX}{yh:YH}(hY:ru p cf D.dB B yh){Q:Exit->Act->World->Prop}(HP:∀ch a' z pd X,eF p.w0 D pd X a'.defers z->p.R (.panicked ch) z->Q (.panic ch) a' z)
   {mN:List BE}{qs ch:cX}{ds:ar}(hX:ams cf ops x qs ch)(cl:∀M∈qs++ch,∀d,M.o.dst=U d->d∈ds){k:S->T}{kp:C->S->T}{V0:ar}(hB:B.mi w N V0 b)(cn:∀H∈mN,H.bd (Y N.i) (Y N.b) (Y N.r)=J/\H.ab N=J)
  (hk:∀s' O' V' a' z L',bH w N V0 s' O' V'->dm w.ax b L'->az p.S0 p.w0 D cf.ty V' O' s' a' z->(k s').aP p O' L'->Q .normal a' z)
  (co:∀v s' O' V' a' z L',bH w N V0 s' O' V'->dm w.ax b L'->az p.S0 p.w0 D cf.ty V' O' s' a' z->(kp v s').aP p O' L'->Q (.panic [{v:=v.ab O' V',recovered:=E}]) a' z):
  ∀(a4:Nat)(listed:Array Bool)(af ag qv:cX)(s:S)(O:ai)(V:ar)(a:Act)(W:World)(L:dC),(af++ag).length=a4->uW ops listed (af++ag)->(∀q∈af,q∈qv)->(∀q∈qv,q∈qs)->(∀m∈ag,m∈ch)->
   bH w N V0 s O V->dm w.ax b L->az p.S0 p.w0 D cf.ty V O (s.bO (qd af)) a W->e8 cf.gl O->(pH cf (kD cf (λf c s k=>fY cf nn f c s yh k) yh) x mN qv ds k kp (Y ag) ag s).aP p O L->
   wpAnyIn F y p.P .any ops Q a4 listed a W:=by
 intro a4;induction a4 with
 |zero=>
  intro listed af ag qv s O V a W L b0 hW bf bk hr hl hL R hg h;have hp:∀q∈af,q∈qs:=λq hq=>bk q (bf q hq)
  have bl:af++ag=[]:=CW.1 b0;obtain⟨rfl,rfl⟩:=List.append_eq_nil_iff.1 bl;simp only[E0,pH] at h;split at h;refine⟨?_,hk s O V a W L hl hL (by have:=R;simp only[qd,List.filterMap_nil,ayh] at this;exact this) h⟩;cases al:SS .any ops listed with
  |nil=>rfl
  |cons i r=>
   obtain⟨h1,o,ho,-⟩:=mem_ready.1 (show i∈SS .any ops listed by rw[al];simp);obtain⟨m,hm,-⟩:=(hW.un i (oQ.1 ho).1).1 h1;cases hm
  exact h.elim
 |succ a4 cp=>
  intro listed af ag qv s O V a W L b0 hW bf bk hr hl hL R hg h;have hp:∀q∈af,q∈qs:=λq hq=>bk q (bf q hq)
  have bb:∀m∈af++ag,m∈qs++ch:=λm hm=>by
   rcases eV.1 hm with h1|h1;exact xD _ (hp m h1);exact N1 _ (hr m h1)
  refine⟨λal=> ?_,λi hi=> ?_⟩;exfalso;obtain⟨m0,cy⟩:=List.exists_mem_of_length_pos (l:=af++ag) aa;obtain⟨m,hm,bl⟩:=uW.some hX.amt hW m0.j ⟨m0,cy,rfl⟩;have:m.j∈SS .any ops listed:=
   mem_ready.2 ⟨(hW.un m.j (hW.lt hm)).2 ⟨m,hm,rfl⟩,m.o,hW.mem m hm,λe he hb=>bl e.on (alT he hb)⟩
  rw[al] at this;cases this;obtain⟨h1,o,ho,bl⟩:=mem_ready.1 hi;obtain⟨m,hm,rfl⟩:=(hW.un i (oQ.1 ho).1).1 h1;have b1:=hW.mem m hm;rw[b1] at ho;cases ho;have hd:∀e∈lL m.o,listed.getD e E=true:=λe he=>by
   obtain⟨ed,h2,h3,rfl⟩:=alU he;exact bl ed h2 h3
  have b2:∀M∈af++ag,¬(x.getD m.j 0).testBit M.j=true:=λM hx hb=>hW.not hx (hW.listed hX.amt m.j m.o b1 hd M.j (hW.lt hx) hb)
  have al:∀t∈jV ops m.o,t∉qd af:=λt ht hq=>by
   obtain⟨M,hx,br⟩:=C0.1 hq;exact b2 M (xD _ hx) (hX.yc m (bb m hm) M (bb M (xD _ hx)) t br ht)
  obtain⟨cA,cs⟩:=hX.gd m (bb m hm);have ct:=ayg h;have cB:l9 m.o (yielded ops a.tmps)=true:=abv R (by simp[im,cA]);unfold wpOpIn;rw[b1];simp only[cB,cN];rcases eV.1 hm with cC|cD
  
  obtain⟨xs,ys,rfl⟩:=aIC cC;have hq:=fO.1 ct m (bf m av);split at hq;rename_i d H v b3 hv;split at hq;rename_i G hw;simp only[aw,jy] at hq;have cI:=C.bY _ _ hq.1;subst cI;have cO:H.ab O=true:=by
   rcases hq.2 with h5|h5;cases H<;>simp only[BE.ZY,jp] at h5;simp only[BE.ab];exact h5;obtain⟨M,hx,h6⟩:=kH.1 h5;rw[<-BE.bY _ _ h6,BE.ep hl.ext.agree M (cn M hx).1];exact(cn M hx).2
  have a9:=amf (O:=O) (hX.qt m (hp m av)) cs (amg (ops:=ops) (ds:=qd (xs++m::ys)) al hv) cO;obtain⟨v',z,V',an,R',A⟩:=O5 R ok.kQ hg m a9;have a0:=hW.nd;rw[A6,ez] at hW a0;have a3:d∉qd (xs++ys):=λhh=>by
   obtain⟨M,hx,br⟩:=C0.1 hh;have b4:M.j≠m.j:=by
    rw[nU] at a0;rcases eV.1 hx with h5|h5;exact a0.2.2 M h5 m av;exact Ne.symm ((jq.1 a0.2.1).1 M (by simp[h5]))
   exact hX.dst M (xD _ (hp M (by rcases eV.1 hx with h5|h5<;>simp[h5]))) m (xD _ (hp m av)) b4 d br b3
  have hs:((s.bO (qd (xs++m::ys))).put m.o.dst v)=s.bO (qd (xs++ys)):=by
   rw[b3];simp only[S.put,wc,S.bO];congr 1;apply kG;intro i;rw[v6,wz,wz,iX,Ls];have cR:=(ck.1 hw).1;by_cases hi:d=i;subst hi;rw[aJ rfl,aJ cR,hw];simp[a3];rw[aQ hi];have cW:(qd (xs++m::ys)).contains i=(qd (xs++ys)).contains i:=by
    rw[uD,qj,qj];simp only[qd,List.filterMap_append,aiQ,b3,eV,dP];constructor;rintro(h5|h5|h5);exact .inl h5;exact aZ h5.symm hi;exact .inr h5;rintro(h5|h5);exact .inl h5;exact .inr (.inr h5)
   rw[cW]
  rw[hs] at R' A;refine zK hF an (Pf a9) ?_;refine cp _ (xs++ys) ag qv s O V' _ z L (by simp at b0⊢;omega) ?_ (λq hq=>bf q (by rcases eV.1 hq with h5|h5<;>simp[h5])) bk hr (hl.trans ⟨A.ext,A.mono,A.len,A.ax⟩) hL R' hg h;rw[A6];exact hW.next hd;cases hq;cases hq
  
  obtain⟨xs,ys,rfl,cv⟩:=amn cD;have c0:(xs++m::ys).length=(xs++ys).length+1:=dh;have c1:Z0 x (m,xs++ys)=true:=by
   refine fO.2 λM hx=> ?_
   have:=b2 M (N1 _ (by simp only[eV,dP] at hx⊢;exact hx.imp id .inr));simpa using this
  have h:(Fk cf (kD cf (λf c s k=>fY cf nn f c s yh k) yh) ds kp m (λs'=>pH cf (kD cf (λf c s k=>fY cf nn f c s yh k) yh) x mN (Kw x m qv) ds k kp (xs++ys).length (xs++ys) s') s).aP p O L:=by
   rw[c0] at h;generalize c2:xs++m::ys=c3 at h cv;cases c3 with
   |nil=>simp at c2
   |cons m0 r0=>
    simp only[pH,ct,Zy,jp,gf] at h;exact abI h _ (Lv (iq.2 ⟨_,qm.2 ⟨cv,c1⟩,rfl⟩))
  have c4:uW ops (listed.setIfInBounds m.j J) (af++(xs++ys)):=by
   have h5:af++(xs++m::ys)=(af++xs)++m::ys:=av;rw[h5] at hW;have:=hW.next hd;simpa using this
  have a3:∀d,m.o.dst=U d->d∉qd af:=λd c5 hh=>by
   obtain⟨M,hx,br⟩:=C0.1 hh;have b4:M.j≠m.j:=(nU.1 hW.nd).2.2 M hx m av;exact hX.dst M (bb M (xD _ hx)) m (bb m hm) b4 d br c5
  have ba:∀(s1:S)(O1:ai)(V1:ar)(a1:Act)(W1:World)(L1:dC),bH s O V s1 O1 V1->dm s.ax L L1->az p.S0 p.w0 D cf.ty V1 O1 (s1.bO (qd af)) a1 W1->(pH cf (kD cf (λf c s k=>fY cf nn f c s yh k) yh) x mN (Kw x m qv) ds k kp (xs++ys).length (xs++ys) s1).aP p O1 L1->wpAnyIn F y p.P .any ops Q a4 (listed.setIfInBounds m.j J) a1 W1:=
   λs1 O1 V1 a1 W1 L1 cx c6 R1 c7=>cp _ af (xs++ys) (Kw x m qv) s1 O1 V1 a1 W1 L1 (by simp at b0⊢;omega) c4 (λq hq=>qm.2 ⟨bf q hq,by have:=b2 q (xD _ hq);simpa using this⟩) (λq hq=>bk q (qm.1 hq).1) (λM hx=>hr M (by simp only[eV,dP] at hx⊢;exact hx.imp id .inr)) (hl.trans cx) (hL.trans c6 hl.ax) R1 (hg.ext cx.ext) c7
  have b5:=(Uy (cf:=cf) (s:=s) (O:=O) al).ev cf.gl;unfold Fk at h;split at h;rename_i u hu;have c8:=ax9 (FB b5) a3 hu;simp only[T.aP] at h;obtain⟨aA,hr,h⟩:=h;obtain⟨bg,tv,c9,a0,b6⟩:=awT ok.zp R hg c8 hr;refine⟨λf _=>hF.fn f, ?_⟩;rw[zk _ _ _ a0,c9,SM];refine⟨λhd=>by rw[hF.yc] at hd;simp at hd,CallsIn.mono (hF.calls b6) (λe z he=> ?_)⟩;obtain⟨rfl,R',A⟩:=he;exact ba u.s _ V _ z L ⟨A.ext,A.mono,A.len,A.ax⟩ (dm.refl _ _) R' h;split at h;rename_i g bg bt;have b7:eB cf (s.bO (qd af)) m.o=.call (.fn g) bg:=by rw[FB b5];exact bt
  have b8:B.mi (s.bO (qd af)) O V L:=by
   have:=hB.go hl hL;exact⟨⟨this.later.ext,this.later.mono,this.later.len,this.later.ax⟩,this.H9⟩
  have hC:=Lt ok ih hY L (.fn g) bg (s.bO (qd af)) _ _ O V a W (λe z=>match e with
    |.returned v=>wpAnyIn F y p.P .any ops Q a4 (listed.setIfInBounds m.j J) (a.put m.o.dst v) z
    |.panicked ch=>Q (.panic ch) a z
    |.outgrown=>LetsOut Q) b8 (ayf h) R hg
   (λv s' O' V' z L' A bc R' hs=>by
    simp only[DH] at hs;split at hs;rename_i bx;refine ba (({s' with tmps:=s.tmps}:S).put m.o.dst v) O' V' _ z L' (bH.put (s':={s' with tmps:=s.tmps}) (show bH s O V _ O' V' from⟨A.ext,A.mono,A.len,A.ax⟩) _ _) bc ?_ hs;rw[zS a3];have:({s' with tmps:=s.tmps}:S).bO (qd af)=s':=by
     simp only[S.bO] at bx⊢;rw[<-bx]
    rw[this];exact R'.put _ _;exact hs.elim)
   (λv s' O' V' z L' A bc R' hs=>by
    simp only[DH] at hs;split at hs;rename_i bx;refine co v (({s' with tmps:=s.tmps}:S).bO ds) O' V' a z L' (hl.trans ⟨A.ext,A.mono,A.len,A.ax⟩) (hL.trans bc hl.ax) ?_ hs;have:({s' with tmps:=s.tmps}:S).bO ds=s'.bO ds:=by
     have h6:=ame (s:=s) (ds:=ds) (es:=qd af) (λM hx=>by
      obtain⟨X,hy,ca⟩:=C0.1 hx;exact cl X (bb X (xD _ hy)) M ca)
     have h7:=kh S.tmps h6;simp only[S.bO] at h7 bx⊢;rw[bx,h7]
    rw[this];exact R'.bO ds;exact hs.elim)
   (λch z pd X hA hR=>HP ch a z pd X hA hR)
  obtain⟨dc,b6⟩:=hC;refine⟨λf _=>hF.fn f, ?_⟩;have a0:∀c,m.o.op≠ .defer c:=λc cc=>by simp[eB,cc] at bt
  rw[zk _ _ _ a0,T7 R hg b7 dc,SM];refine⟨λhd=>by rw[hF.yc] at hd;simp at hd,CallsIn.mono (hF.calls b6) (λe z he=> ?_)⟩;cases e<;>exact he;rename_i yn bg bt;have b7:eB cf (s.bO (qd af)) m.o=.call (.yl yn) bg:=by rw[FB b5];exact bt
  have b8:B.mi (s.bO ds) O V L:=by
   have:=hB.go hl hL;exact⟨⟨this.later.ext,this.later.mono,this.later.len,this.later.ax⟩,this.H9⟩
  have Rd:az p.S0 p.w0 D cf.ty V O (s.bO ds) a W:=by
   have h6:=ame (s:=s) (ds:=ds) (es:=qd af) (λM hx=>by
    obtain⟨X,hy,ca⟩:=C0.1 hx;exact cl X (bb X (xD _ hy)) M ca)
   rw[<-h6];exact R.bO ds
  have hC:=Lt ok ih hY L (.yl yn) bg (s.bO ds) _ _ O V a W (λe z=>match e with
    |.returned v=>wpAnyIn F y p.P .any ops Q a4 (listed.setIfInBounds m.j J) (a.put m.o.dst v) z
    |.panicked ch=>Q (.panic ch) a z
    |.outgrown=>LetsOut Q) b8 h Rd hg
   (λv s' O' V' z L' A bc R' hs=>ba (s'.put m.o.dst v) O' V' _ z L' ((show bH s O V s' O' V' from⟨A.ext,A.mono,A.len,A.ax⟩).put _ _) bc ((R'.put m.o.dst v).bO (qd af)) hs)
   (λv s' O' V' z L' A bc R' hs=>co v (s'.bO ds) O' V' a z L' (hl.trans ⟨A.ext,A.mono,A.len,A.ax⟩) (hL.trans bc hl.ax) (R'.bO ds) hs)
   (λch z pd X hA hR=>HP ch a z pd X hA hR)
  obtain⟨fn,dT,assign,body,hy,dd⟩:=hC F hF (y-1);refine⟨λf _=>hF.fn f, ?_⟩;have a0:∀c,m.o.op≠ .defer c:=λc cc=>by simp[eB,cc] at bt
  rw[zk _ _ _ a0,aa0 R hg b7,hy,au6];refine⟨λhd=>by rw[hF.yc] at hd;simp at hd,RoundIn.mono dd (λe z he=> ?_)⟩;cases e<;>exact he;split at h;rename_i H hb;split at hb;rename_i df;simp only[T.aP] at h;have dk:=ayd (cf:=cf) (ops:=ops) df al a3 hb;obtain⟨v',z,rv,an,dn,R',A⟩:=aaK R ok.kQ hg dk h.1;exact zK hF an (aa2 hb) (ba H.s _ V _ z L ⟨A.ext,A.mono,A.len,A.ax⟩ (dm.refl _ _) R' (h.2 rv (by rw[ok.pt];exact dn)));cases hb;split at h;rename_i s' hu;obtain⟨z,an,R',A⟩:=amm R ok.kQ hg (amk (ops:=ops) al a3 hu);exact zK hF an (aml hu) (ba s' O V _ z L ⟨A.ext,A.mono,A.len,A.ax⟩ (dm.refl _ _) R' h);rename_i k' x' s' hu;obtain⟨z,an,R',A⟩:=amm R ok.kQ hg (amk (ops:=ops) al a3 hu);simp only[T.aP] at h;exact zK hF an (aml hu) (ba s' _ V _ z L ⟨A.ext,A.mono,A.len,A.ax⟩ (dm.refl _ _) R' h);split at h;rename_i dr;split at h;rename_i H v hv;simp only[T.aP] at h;have a9:=amf (O:=O) dr cs (amg (ops:=ops) (ds:=qd af) al hv) h.1;obtain⟨v',z,V',an,R',A⟩:=O5 R ok.kQ hg m a9;rw[<-zS a3] at R' A;exact zK hF an (Pf a9) (ba (s.put m.o.dst v) O V' _ z L ⟨A.ext,A.mono,A.len,A.ax⟩ (dm.refl _ _) R' h.2);exact h.elim;split at h;rename_i dx;split at h;rename_i s' dy;have dz:=ax4 (ops:=ops) dx al a3 dy;have a9:(gG cf m (s.bO (qd af))).gives O (s'.bO (qd af)):=by rw[dz];rfl
  obtain⟨v',z,V',an,R',A⟩:=O5 R ok.kQ hg m a9;exact zK hF an (Pf a9) (ba s' O V' _ z L ⟨A.ext,A.mono,A.len,A.ax⟩ (dm.refl _ _) R' h);exact h.elim;exact h.elim;exact h.elim
def amu:∀{P:cX}{s:S}{x:S×List BE},Fj cf P s=U x->x.1={s with tmps:=x.1.tmps}/\Y x.1.tmps=Y s.tmps/\(∀t,t∉qd P->x.1.tmps[t]?=s.tmps[t]?)/\∀b∈x.2,b.bd s.ni s.nb (Y s.rs)=J
 |[],s,x,h=>by simp only[Fj,cU] at h;subst h;exact⟨rfl,rfl,λ_ _=>rfl,λ_ R=>(by cases R)⟩
 |q::r,s,x,h=>by
  simp only[Fj] at h;split at h;rename_i b v X;cases Q:Fj cf r (s.put q.o.dst v) with
  |none=>rw[Q] at h;cases h
  |some y=>
   rw[Q] at h;simp only[eh,cU] at h;subst h;obtain⟨L,H,G,O⟩:=amu Q;refine⟨?_, ?_,λt N=> ?_,λx W=> ?_⟩;show y.1=_;rw[L];cases q.o.dst<;>rfl;show Y y.1.tmps=_;rw[H];cases q.o.dst<;>simp[S.put,wc];have F:t∉qd r:=λM=>N (by
    simp only[qd,aiQ];cases q.o.dst with
    |none=>exact M
    |some d=>exact CX _ M)
   show y.1.tmps[t]?=_;rw[G t F,mR (λe=>N (by simp[qd,e]))];have V:(s.put q.o.dst v).ni=s.ni/\(s.put q.o.dst v).nb=s.nb/\(s.put q.o.dst v).rs=s.rs:=by cases q.o.dst<;>exact⟨rfl,rfl,rfl⟩
   have R:b.bd s.ni s.nb (Y s.rs)=true:=by
    unfold Bs at X;split at X;cases X;split at X;cases X;exact BE.bj.1 _;split at X;rename_i D;cases X;exact D;cases X;cases X
   simp only at W;split at W;have:=O x W;rwa [V.1,V.2.1,V.2.2] at this;rcases dP.1 W with rfl|W;exact R;have:=O x W;rwa [V.1,V.2.1,V.2.2] at this
  cases h
def amv{F:Fence}(hF:rp F)(ok:jL p cf){nn:Nat}(ih:zR p cf nn){D:cg}{B:jX}{yh:YH}(hY:ru p cf D.dB B yh){Q:Exit->Act->World->Prop}(HP:∀u a' g pd X,eF p.w0 D pd X a'.defers g->p.R (.panicked u) g->Q (.panic u) a' g)
  {id:Nat}{so:Bool}{c:OA}{a:Act}{k:XE->S->T}(hB:B.mi w N x b)(r:Ky cf so ops w=U c)
  (h:(OG cf (kD cf (λf c w k=>fY cf nn f c w yh k) yh) ops k c).aP p N b)(R:az p.S0 p.w0 D cf.ty x N w a e)(hg:e8 cf.gl N)
  (hk:∀s' O' V' a' g L',bH w N x s' O' V'->dm w.ax b L'->az p.S0 p.w0 D cf.ty V' O' s' a' g->(k .normal s').aP p O' L'->Q .normal a' g)
  (bk:∀v s' O' V' a' g L',bH w N x s' O' V'->dm w.ax b L'->az p.S0 p.w0 D cf.ty V' O' s' a' g->(k (.bI v) s').aP p O' L'->Q (.panic [{v:=v.ab O' V',recovered:=E}]) a' g):
  (Code.region id ops J).wpIn F y p.P Q a e:=by
 unfold Ky at r;split at r;rename_i ag;obtain⟨al,an⟩:∃al,al=gU (λ_=>E) E J 0 (Y w.ap) ops.toList:=⟨_,rfl⟩;obtain⟨z,a4⟩:∃z,z=Dj so ops (Y w.ap):=⟨_,rfl⟩;obtain⟨u,a9⟩:∃u,u=Dl so ops (Y w.ap):=⟨_,rfl⟩;have bl:z=al.filter λm=>(Tn so ops).contains m.j:=by rw[a4,an];rfl
 have br:u=al.filter λm=> !(Tn so ops).contains m.j:=by rw[a9,an];rfl
 have ag:=(aw _ _▸ag).2;unfold Kx at ag;rw[<-a4,<-a9,<-an] at ag;rw[<-a4,<-a9] at r;cases hq:Fj cf z (w.room (mc ops.toList)) with
 |none=>rw[hq] at r;cases r
 |some x1=>
  obtain⟨s1,mN⟩:=x1;rw[hq] at r;simp only[Zs,Z3] at r;split at r;cases r;cases r;obtain⟨bb,h⟩:=amp h;simp only at h bb;have h:(pH cf (kD cf (λf c w k=>fY cf nn f c w yh k) yh) (pG ops.toList) mN z (Ff ops.toList) (k .normal) (λv=>k (.bI v)) (Y u) u s1).aP p N b:=by
   split at h;exact h;exact ayk _ _ _ _ _ _ h
  simp only[Z2,aw,dE] at ag;obtain⟨⟨⟨⟨⟨⟨⟨⟨c1,c2⟩,c4⟩,c5⟩,c6⟩,c7⟩,c8⟩,c9⟩,b2⟩:=ag;have af:∀m∈z++u,m∈al:=λm A=>by
   rcases eV.1 A with h1|h1;rw[bl] at h1;exact(qm.1 h1).1;rw[br] at h1;exact(qm.1 h1).1
  have bc:∀m∈al,ops[m.j]?=U m.o:=λm A=>by
   obtain⟨i,hi⟩:=auZ.1 A;rw[an] at hi;have h1:=Lr _ _ _ _ _ _ _ _ hi;have h2:=abB _ _ _ _ _ _ _ _ hi;rw[h2,iX];simpa using h1
  have bd:=Us c4;have hX:ams cf ops (pG ops.toList) z u:=by
   refine⟨al7 c1,λm A M hx d hd l=> ?_,λM hx X hy bs d bf bg=> ?_,λm A=> ?_,λq hq=> ?_⟩;have:=fO.1 (fO.1 c5 m (af m A)) M (af M hx);rw[hd] at this;simp only[jy,ik] at this;rcases this with h5|h5;rw[qj.2 l] at h5;cases h5;exact h5;obtain⟨i,hi⟩:=auZ.1 (af M hx);obtain⟨j,hj⟩:=auZ.1 (af X hy);have bt:i≠j:=λH=>by subst H;rw[hi] at hj;cases hj;exact bs rfl
   have a0:=(ck.1 hi);have a1:=(ck.1 hj);rcases aIz bt with ba|ba;exact(NZ.1 bd i j a0.1 a1.1 ba) d (by rw[a0.2];exact bf) (by rw[a1.2];exact bg);exact(NZ.1 bd j i a1.1 a0.1 ba) d (by rw[a1.2];exact bg) (by rw[a0.2];exact bf);have:=fO.1 c2 m (af m A);simp only[aw,ik,aIe] at this;exact this;have:=fO.1 c6 q hq;simp only[aw] at this;exact this.1
  obtain⟨Rr,a3⟩:=R.room (mc ops.toList);have Rd:=Rr.drew;obtain⟨e1,e2,e3,e4⟩:=amu hq;simp only at e1 e2 e3 e4;have Rb:az p.S0 p.w0 D cf.ty (x++eN (mc ops.toList) 0) N (s1.bO (qd z)) a {e with drawn:=e.drawn+1}:=by
   have hh:s1.bO (qd z)={w.room (mc ops.toList) with tmps:=tJ (qd z) 0 s1.tmps}:=by
    rw[e1];rfl
   rw[hh];refine⟨Rd.mem,Rd.gJ,Rd.ei,Rd.eb,Rd.er,Rd.dl,by simp only[Ls,e2];exact Rd.size,λt sv l=> ?_,Rd.gj⟩;simp only at l;rw[wz,iX] at l;cases hx:s1.tmps[t]? with
   |none=>rw[hx] at l;cases l
   |some M=>
    rw[hx] at l;simp only[eh,cU] at l;split at l;exact .inl l.symm;rename_i bx;subst l;exact Rd.tmps t M (by rw[<-e3 t (λA=>bx (qj.2 A))];exact hx)
  have b0:bH w N x s1 N (x++eN (mc ops.toList) 0):=by
   rw[e1];exact⟨a3.ext,a3.mono,a3.len,a3.ax⟩
  refine wpIn_region_any ok.mix ?_;refine ayl (ds:=Ff ops.toList) hF ok ih hY HP hX (λM hx d hd=> ?_) hB (λG hb=>⟨by have:=e4 G hb;rw[R.ei,R.eb,R.er];exact this,bb G hb⟩) hk bk ops.size _ z u z s1 N _ a _ b c8 ?_ (λ_ h=>h) (λ_ h=>h) (λ_ h=>h) b0 (dm.refl _ _) Rb hg h;have h2:ops.toList[M.j]?=U M.o:=by have:=bc M (af M hx);simpa using this
  exact C0.2 ⟨M.o,jI h2,hd⟩;refine⟨λm A=>bc m (af m A),λi hi=> ?_,av,λj o ho hj=> ?_, ?_⟩;constructor;intro _;have:=fO.1 c7 i (by simpa using hi);obtain⟨m,A,hj⟩:=kH.1 this;exact⟨m,A,by simpa using hj⟩;intro _;simp[hi];exfalso;have b1:j<ops.size:=(oQ.1 ho).1;simp[b1] at hj;have:=abE c9;rw[au7] at this;exact this
 cases r
end
section
variable{p:Sp}{j:bE}
def jX.here(s:S)(O:ai)(V:ar)(L:dC):(jX.mk s O V L).mi s O V L:=⟨bH.refl _ _ _,dm.refl _ _⟩
def aym(W:Array Nat)(V:gt)(A:mI):(W.zip V.toArray).foldl (λ(X:mI)(x:Nat×Value)=>match x with|(t,a)=>X.setIfInBounds t a) A=(W.toList.zip V).foldl (λ(X:mI)(x:Nat×Value)=>X.setIfInBounds x.1 x.2) A:=by
 rw[<-aIy];simp[Array.toList_zip]
def bH.abK{W:S}{X:ai}{R:ar}(h:bH w N x W X R)(k:Nat):bH w (N.at (N.y.take k)) x W (X.at (X.y.take k)) R:=
 ⟨⟨⟨h.ext.agree.i,h.ext.agree.b,h.ext.agree.r,by show X.y.take k=N.y.take k;rw[h.ext.agree.y]⟩,h.ext.li,h.ext.lb,h.ext.lr,h.ext.ad⟩,h.mono,h.len,h.ax⟩
def ayn(ok:jL p j)(ih:zR p j y){bd:Func}(bf:p.P.funcs[t]?=U bd){ps:Array Tmp}{assign body:Code}{s:S}{L:dC}{O:ai}{V:ar}{a:Act}{sE:S}{l:Nat}{rec:Loop}{g:List (Nat×Loop)}
  (hE:sE.ap=s.ap)(b6:C.ec (Y O.i) (Y O.b) (Y O.r) (aK s.ap) s.tmps=J)(b7:a.tmps.size=Y s.tmps)(b8:∀(X:Nat)(z:C),s.tmps[X]?=U z->z=.any\/a.tmps[X]?=U (z.ab O V))
  (ca:ki assign=E)(cc:ki body=E){n0:Nat}(af:rec={state:=.ready,pending:=Z,fn:=t,tmps:=a.tmps,params:=ps,assign,body,defers:=rec.defers})(f:g[n0]?=U (l,rec)){Q:List (Nat×Loop)}{B0:jX}{a9:YH}(cl:ru p j Q B0 a9)(bk:Q<+:g)(cn:B0.mi s (O.at (O.y.take (Y Q))) V L)(bl:sE.ax=s.ax)(co:C.pI n0 s.tmps=E)(c8:Y g=n0+1):
  ru p j g ⟨sE,O,V,L⟩ (OD n0 ps.size λo M k1 br=>
   fY j y t assign (Dm M s ps.toList o) iY (OC n0 λw=>fY j y t body (w.Dn n0 .busy) a9 (Tp n0 M k1 br))):=by
 intro D hD L1 m o M k1 br N B a1 W1 R' hB h R hg hk cp hp F hF mm;unfold OD at h;split at h;rename_i hc;simp only[aw,dE,cm] at hc;obtain⟨⟨⟨c1,c3⟩,c4⟩,c5⟩:=hc;subst c1;simp only[S.e9,aw] at c5;have f:D.dB[m]?=U (l,rec):=by
  obtain⟨X,ht⟩:=hD;rw[<-ht,dH aa];exact f
 have bs:se rec .ready=rec:=by rw[af];rfl
 obtain⟨y1,y2,y3⟩:=R.dl.dB m l rec .ready f c3;rw[bs] at y2;have cs:N.y.getD m 0=l:=by simp[cz,y1]
 rw[cs];have bt:rec.params=ps:=by rw[af]
 have ct:=run_yield (P:=p.P) (args:=(C.aE N B o).toArray) y2 (by rw[bt];simpa using c4);refine⟨_,_,_,_,ct, ?_⟩;have e1:rec.fn=t:=by rw[af]
 have e2:rec.assign=assign:=by rw[af]
 have e3:rec.body=body:=by rw[af]
 have e4:rec.tmps=a.tmps:=by rw[af]
 rw[e1,e2,e3,e4,bt];refine axK hF bf ?_;obtain⟨ms,m1,m0,m2,m3⟩:=R.dl.mh;have hA:=R.dl.enter m2 m3 J;have cv:∀(X:Nat)(z:C),s.tmps[X]?=U z->z=.any\/a.tmps[X]?=U (z.ab N B):=by
  intro X z ht;rcases b8 X z ht with h1|h1;exact .inl h1;right;have hX:=hB.later.ext;simp only[hE] at hX;rw[<-C.Ln (y:=N.y.take (Y g)) (n:=m) (λq hq=>by simp only[cz];rw[List.getElem?_take_of_lt aa]) B z (aby co z (jI ht)),hX.ab (wt b6 ht)];exact h1
 obtain⟨q1,q2⟩:=al0 (O:=N) (V:=B) ps.toList o s.tmps a.tmps b7 cv;rw[<-aym] at q1 q2;have RS:az p.S0 p.w0 ⟨ms++D.out,D.dB,J,[]⟩ j.ty B N (Dm M s ps.toList o) {tmps:=(ps.zip (C.aE N B o).toArray).foldl (λ(cx:mI)(x:Nat×Value)=>match x with|(X,a)=>cx.setIfInBounds X a) a.tmps,defers:=[]} W1:=
  ⟨R.mem,R.gJ,R.ei,R.eb,R.er,hA,q1,q2,R.gj⟩
 have ba:∀(a':Act) d pd W,eF p.w0 ⟨ms++D.out,D.dB,J,[]⟩ pd W a'.defers d->a'.defers=[]/\eF p.w0 D pd W a1.defers d:=by
  intro a' d pd W ag;obtain⟨cy,p1,p0,p2,p3⟩:=ag.mh;have:cy=[]:=p0 rfl;subst this;have bx:a'.defers=[]:=by simpa using p1
  rw[bx] at ag;refine⟨bx, ?_⟩;rw[m1];exact ag.Ll m0
 refine ih ⟨ms++D.out,D.dB,J,[]⟩ ⟨Dm M s ps.toList o,N,B,L1⟩ iY (U l) t assign (Dm M s ps.toList o) _ L1 N B _ W1 _ (FE _ _) (jX.here _ _ _ _) rfl (λ_=>ca) ⟨bd,bf⟩ h RS hg ?_ ?_;intro ch a' d pd W ag hR;obtain⟨p1,p2⟩:=ba a' d pd W ag;exact .inr ⟨ch,rfl,p1,hp ch d pd W p2 hR⟩;intro e w O2 V2 a2 W2 L2 al b0 R2 an;cases e with
 |normal=>
  simp only[OC] at an;split at an;rename_i b1;simp only[cm] at b1;left;obtain⟨z1,z2,z3⟩:=R2.dl.dB m l rec .ready f b1;rw[bs] at z2;have cA:({rec with state:=.busy}:Loop)=se rec .busy:=by rw[af];rfl
  have b2:=run_beginRound (P:=p.P) z2 (by rw[af]);rw[cA] at b2;refine⟨rfl,_,b2, ?_⟩;have R3:az p.S0 p.w0 ⟨ms++D.out,D.dB,J,[]⟩ j.ty V2 O2 (w.Dn m .busy) a2 (W2.putObj l (.loop (se rec .busy))):=
   R2.obj z2 rfl z3 _ rfl (R2.dl.abA f .busy)
  have cB:ru p j D.dB ⟨w.Dn m .busy,O2,V2,L2⟩ a9:=by
   intro D3 cC L3 n3 cD H k3 cI G V3 a3 W3 R3 b3;refine cl D3 ((bk.trans hD).trans cC) L3 n3 cD H k3 cI G V3 a3 W3 R3 ?_;have cO:Y Q<=Y g:=bk.length_le;have c9:Y g<=Y D.dB:=hD.length_le;have t1:bH s (O.at (O.y.take (Y Q))) V M (N.at (N.y.take (Y Q))) B:=by
    have e:(N.y.take (Y g)).take (Y Q)=N.y.take (Y Q):=by rw[List.take_take,Hd cO]
    have u:bH sE (O.at (O.y.take (Y Q))) V M (N.at ((N.y.take (Y g)).take (Y Q))) B:=hB.later.abK (Y Q);rw[e] at u;exact⟨by have:=u.ext;rw[hE] at this;exact this,by rw[<-hE];exact u.mono,by rw[<-hE];exact u.len,by rw[<-bl];exact u.ax⟩
   have t2:=(show bH M N B w O2 V2 from⟨al.ext,al.mono,al.len,al.ax⟩).abK (Y Q);have t3:bH w (O2.at (O2.y.take (Y Q))) V2 H (G.at (G.y.take (Y Q))) V3:=by
    have e:(G.y.take (Y D.dB)).take (Y Q)=G.y.take (Y Q):=by rw[List.take_take,Hd aa]
    have u:bH (w.Dn m .busy) (O2.at (O2.y.take (Y Q))) V2 H (G.at ((G.y.take (Y D.dB)).take (Y Q))) V3:=b3.later.abK (Y Q);rw[e] at u;exact⟨u.ext,u.mono,u.len,u.ax⟩
   exact((cn.go t1 (by rw[<-bl];exact hB.H9)).go t2 b0).go t3 b3.H9
  refine ih ⟨ms++D.out,D.dB,J,[]⟩ ⟨w.Dn m .busy,O2,V2,L2⟩ a9 (U l) t body (w.Dn m .busy) _ L2 O2 V2 a2 _ _ cB (jX.here _ _ _ _) rfl (λ_=>cc) ⟨bd,bf⟩ an R3 (hg.ext al.ext) ?_ ?_;intro ch a' d pd W ag hR;obtain⟨p1,p2⟩:=ba a' d pd W ag;exact⟨p1,hp ch d pd W p2 hR⟩
  ·intro e H G V3 a3 W4 L3 bb cR R4 bc;have cW:m<Y H.pd:=by
    rw[<-R4.dl.len];exact(ck.1 f).1
   obtain⟨u1,u2,u3⟩:=R4.dl.dB m l rec H.pd[m] f (cS cW);have A:bH (Dm M s ps.toList o) N B H G V3:=al.trans (s':=w) ⟨bb.ext,bb.mono,bb.len,bb.ax⟩;have b4:dm M.ax L1 L3:=dm.trans (m:=w.ax) b0 cR al.ax;have bg:∀(k:Hm)(a0:Option Code),(∀a4,({se rec a4 with state:=if a0.isNone then .ready else .done,pending:=a0}:Loop)=se rec k)->
     (k1 (.bool (.c a0.isNone)) {H with tmps:=M.tmps,pd:=H.pd.set m k}).aP p G L3->∃v w',(Instr.endRound l a0).run p.P W4=.ok v w'/\R' (.returned v) w':=by
    intro k a0 c0 c2;have b5:=run_endRound (P:=p.P) a0 u2;rw[c0] at b5;refine⟨_,_,b5, ?_⟩;have R5:=R4.obj u2 rfl u3 (.loop (se rec k)) rfl (R4.dl.abA f k);have c6:eF p.w0 D (H.pd.set m k) G.y a1.defers (W4.putObj l (.loop (se rec k))):=(ba a3 _ _ _ (R4.dl.abA f k)).2;have c7:bH (Dm M s ps.toList o) N B {H with pd:=H.pd.set m k} G V3:=⟨A.ext,A.mono,A.len,A.ax⟩;have RB:=R.back c5.1 c7 rfl R5 (D2:=D) (a2:=a1) rfl c6;have:=hk (.bool (.c a0.isNone)) {H with tmps:=M.tmps,pd:=H.pd.set m k} G V3 _ L3 ⟨A.ext,A.mono,A.len,A.ax⟩ b4 RB c2;simpa[C.ab,BE.ab] using this
   cases e with
   |normal=>exact bg .ready Z (λa4=>by cases a4<;>rfl) bc
   |ret=>exact bg (.done .ret) (U .ret) (λa4=>by cases a4<;>rfl) bc
   |exit id=>exact bg (.done (.exit id)) (U (.exit id)) (λa4=>by cases a4<;>rfl) bc
   |bI v=>
    obtain⟨p1,p2⟩:=ba a3 _ _ _ R4.dl;have RB:=R.back c5.1 A rfl R4 (D2:=D) (a2:=a1) rfl p2;exact⟨p1,cp v {H with tmps:=M.tmps} G V3 _ L3 ⟨A.ext,A.mono,A.len,A.ax⟩ b4 RB bc⟩
  exact an.elim
 |ret=>exact an.elim
 |exit id=>exact an.elim
 |bI v=>exact an.elim
 exact h.elim
def ayo(ok:jL p j)(ih:zR p j y){D:cg}{B:jX}{yh:YH}{ca:Func}(cc:p.P.funcs[t]?=U ca){f:Operand}{ps:Array Tmp}{assign body:Code}{k:XE->S->T}{a:Act}{Q:Exit->Act->World->Prop}
  (bk:D.rd=E){g:FuncId}{c:Code}{nt:Nat}(bl:w.ev j.gl f=.fn g v)(br:j.inl g=U (c,nt,[]))
  (a9:w.e9 v=J)(a0:w.xV (Y w.pd)=E)(cl:C.pI (Y w.pd) v=E)(cn:ki assign=E)(co:ki body=E)
  (h:(fY j y g c (Kz w nt v) (OD (Y w.pd) ps.size λcp s1 k1 cs=>fY j y t assign (Dm s1 w ps.toList cp) iY (OC (Y w.pd) λs2=>fY j y t body (s2.Dn (Y w.pd) .busy) yh (Tp (Y w.pd) s1 k1 cs))) (HS w k)).aP p N b)
  (hY:ru p j D.dB B yh)(hB:B.mi w N x b)(R:az p.S0 p.w0 D j.ty x N w a e)(hg:e8 j.gl N)
  (HP:∀ch q W' pd X,eF p.w0 D pd X q.defers W'->p.R (.panicked ch) W'->Q (.panic ch) q W')
  (hk:∀M A z o q W' L',bH w N x A z o->dm w.ax b L'->az p.S0 p.w0 D j.ty o z A q W'->(k M A).aP p z L'->Q (M.to z o) q W'):
  jA Z t p.P (.rangeFunc f ps assign body) Q a e:=by
 obtain⟨ms,m1,m0,m2,m3⟩:=R.dl.mh;simp only[S.e9,aw] at a9;simp only[S.xV,vZ] at a0;obtain⟨rec,ba⟩:∃rec:Loop,rec={state:=.ready,pending:=Z,fn:=t,tmps:=a.tmps,params:=ps,assign,body,defers:=e.heap.size}:=⟨_,rfl⟩;obtain⟨W1,a1⟩:∃W1,(e.alloc (.deferred (U []))).alloc (.loop rec)=W1:=⟨_,rfl⟩;have ct:W1.heap[e.heap.size+1]?=U (.loop rec):=by
  rw[<-a1];have:=SK (e.alloc (.deferred (U []))) (.loop rec);rwa [aiW] at this
 have cv:W1.heap[e.heap.size]?=U (.deferred (U [])):=by
  rw[<-a1];exact(Below.heap_alloc _ _ _ av).trans (SK e _)
 have bs:Below e.heap.size e W1:=by
  rw[<-a1];exact⟨rfl,rfl,rfl,dh,λk hk=>(Below.heap_alloc _ _ _ dh).trans (Below.heap_alloc _ _ _ hk)⟩
 have R1:=R.below bs;have cx:se rec .ready=rec:=by rw[ba];rfl
 have cy:p.w0.heap.size<=e.heap.size:=R.mem.base.size;have bt:∀(y l':Nat)(r':Loop),D.dB[y]?=U (l',r')->l'<e.heap.size:=by
  intro y l' r' hn;have bb:y<Y w.pd:=by rw[<-R.dl.len];exact(ck.1 hn).1
  exact Bv (R.dl.dB y l' r' w.pd[y] hn (cS bb)).2.1
 have bx:eF p.w0 ⟨e.heap.size::(ms++D.out),D.dB++[(e.heap.size+1,rec)],E,[]⟩ (w.pd++[.ready]) (N.y++[e.heap.size+1]) [] W1:=
  R1.dl.push m2 (λd hd=>⟨(bs.block d (Bv (m3 d hd).1)).trans (m3 d hd).1,(m3 d hd).2⟩) cv (λhm=>by have:=Bv (m3 _ hm).1;omega) cy (by rw[cx];exact ct) (λy l' r' hn M=>by have:=bt y l' r' hn;omega) aa
 have bc:Y N.y=Y w.pd:=R.dl.qy;have a3:∀m,m<Y w.pd->(N.y++[e.heap.size+1]).getD m 0=N.y.getD m 0:=by
  intro m hm;simp only[cz];by_cases bb:m<Y N.y;rw[dH bb];rw[iE aa,kg (l:=N.y) aa,kg dh]
 have b0:∀(H:Nat)(sv:C),w.tmps[H]?=U sv->sv=.any\/a.tmps[H]?=U (sv.ab (N.at (N.y++[e.heap.size+1])) x):=by
  intro H sv ht;rcases R.tmps H sv ht with h1|h1;exact .inl h1;right;rw[C.Ln a3 x sv (aby a0.1 sv (jI ht))];exact h1
 have cA:az p.S0 p.w0 ⟨e.heap.size::(ms++D.out),D.dB++[(e.heap.size+1,rec)],E,[]⟩ j.ty x (N.at (N.y++[e.heap.size+1])) {w with pd:=w.pd++[.ready]} {a with defers:=[]} W1:=
  ⟨R1.mem.at a3 a0.2,R1.gJ,R1.ei,R1.eb,R1.er,bx,R1.size,b0,λk M rv G h1 h2 h3=>let H:=R1.gj k M rv G h1 h2 h3;⟨H.own,H.mem,H.box,H.alone,H.inner⟩⟩
 have RE:=cA.enter (.yl (Y w.pd)::v) nt bx;have cB:C.aE (N.at (N.y++[e.heap.size+1])) x (.yl (Y w.pd)::v)=.func (.yield (e.heap.size+1)) #[] #[]::C.aE N x v:=by
  simp only[C.aE,C.ab];rw[C.Lq a3 x v cl];congr 3;simp only[ai.at];rw[<-bc];simp
 have cC:a.eval f=.func (.func g) #[] (C.aE N x v).toArray:=by
  have:=du R hg f (by rw[bl];rfl);rw[bl,C.ab] at this;exact this
 have eg:=ok.zM g (.inr (by rw[br];rfl));obtain⟨an,hf,cD,cI,cO⟩:=ok.inl g c nt [] br;refine axI ⟨e.heap.size+1,[mg e.heap.size],W1,{target:=.fn (.func g) (C.aE N x v).toArray,args:= #[.func (.yield (e.heap.size+1)) #[] #[]]},W1,g,
  #[.func (.yield (e.heap.size+1)) #[] #[]]++(C.aE N x v).toArray,W1, ?_, ?_, ?_, ?_⟩
 rw[<-a1,ba];exact run_enterLoop_outer _ _ _ _ _
 ·simp only[resolve,cC];simp[go_sem]
 ·simp[invoke,go_sem,eg]
 have cR:(#[.func (.yield (e.heap.size+1)) #[] #[]]++(C.aE N x v).toArray:mI)=(C.aE (N.at (N.y++[e.heap.size+1])) x (.yl (Y w.pd)::v)).toArray:=by
  rw[cB];simp
 rw[cR];refine Lk hf cD ?_;rw[cI];have b1:([mg e.heap.size]++a.defers:Bt)=(e.heap.size::ms).map mg++D.base:=by rw[m1];rfl
 have cW:B.mi w ((N.at (N.y++[e.heap.size+1])).at ((N.at (N.y++[e.heap.size+1])).y.take (Y D.dB))) x b:=by
  have M:(N.at (N.y++[e.heap.size+1])).y.take (Y D.dB)=N.y:=by rw[R.dl.len,<-bc];simp[ai.at]
  rw[M];exact hB
 have b2:(D.dB++[(e.heap.size+1,rec)])[Y w.pd]?=U (e.heap.size+1,rec):=by rw[<-R.dl.len];simp
 refine ih ⟨e.heap.size::(ms++D.out),D.dB++[(e.heap.size+1,rec)],E,[]⟩ ⟨Kz w nt v,N.at (N.y++[e.heap.size+1]),x,b⟩ _ Z g c (Kz w nt v) (HS w k) b _ x _ W1 _
  (ayn ok ih cc (a:=a) (s:=w) (sE:=Kz w nt v) (L:=b) (ps:=ps) (O:=N.at (N.y++[e.heap.size+1])) (V:=x) rfl (R.zE a9.1).1 R.size b0 cn co (by rw[ba]) b2 hY (List.prefix_append _ _) cW rfl a0.1 (by simp[R.dl.len])) (jX.here _ _ _ _) rfl (λhh=>by cases hh) ⟨an,hf⟩ (tU p _ N b _ h) RE hg ?_ ?_
 intro ch q W' pd X hA hR;obtain⟨c0,q1,q0,q2,q3⟩:=hA.mh;rw[q1] at hA;have al:=(hA.rq).pop bk;show LeavesInM Fence.wide 0 p.P an q.tmps _ q.defers (.panicking ch) W';rw[q1];refine tV av (xF.1 q2).1 (λd hd=>(q3 d (by simp[hd])).1) ?_;exact HP ch _ _ _ _ (by rw[<-b1] at al;exact al) (Px (ok.Uh ch) (λd hd=>(q3 d (by simp[hd])).2) hR);intro M A z o q W' L' hl hL RR u;obtain⟨c0,q1,q0,q2,q3⟩:=RR.dl.mh;have R2:=RR.rq q1;have al:=R2.dl.pop bk;have b3:z.y=N.y++[e.heap.size+1]:=hl.ext.agree.y;have c1:z.y.take (Y D.dB)=N.y:=by rw[b3,R.dl.len,<-bc];simp
 rw[c1,<-b1,R.dl.len] at al;have b4:∀m,m<Y w.pd->N.y.getD m 0=z.y.getD m 0:=λm hm=>by rw[b3];exact(a3 m hm).symm
 have bd:bH w N x (w.uQ A) (z.at N.y) o:=⟨⟨⟨hl.ext.agree.i,hl.ext.agree.b,hl.ext.agree.r,rfl⟩,hl.ext.li,hl.ext.lb,hl.ext.lr,hl.ext.ad⟩,λi hi=>alZ _ _ _ i (alX hi) (hl.mono i hi),by show Y w.ap<=(nZ _ _ _).length;rw[Pu];exact hl.len,hl.ax⟩;have b5:∀(W3:World),jW p.S0 p.w0 o z A.ap j.ty A.rs W3->(∀(k:Nat)(M:TypeId)(rv:RV)(G:Nat),A.rs[k]?=U (.own M)->z.r[k]?=U rv->rv.lu=U G->zC p.S0 p.w0 o z A.ap j.ty A.rs W3 k M rv G)->xW (Y w.pd) (w.uQ A).ap=E->
   eF p.w0 D (A.pd.take (Y w.pd)) N.y ([mg e.heap.size]++a.defers) W3->az p.S0 p.w0 D j.ty o (z.at N.y) (w.uQ A) {a with defers:=[mg e.heap.size]++a.defers} W3:=by
  intro W3 hm ht hb c2;refine⟨(hm.axO (Y w.pd) (Y w.ap)).at b4 hb,by show Y o=(nZ _ _ _).length;rw[Pu];exact R2.gJ,R2.ei,R2.eb,R2.er,c2,R.size,λH sv h=> ?_,λk M rv G h1 h2 h3=>let H:=ht k M rv G h1 h2 h3;⟨H.own,H.mem,λi hi=>H.box i (Pw hi),H.alone,H.inner⟩⟩;rcases R.tmps H sv h with h1|h1;exact .inl h1;right;rw[bd.ext.ab (wt (R.zE a9.1).1 h)];exact h1
 have b6:Y w.pd<Y A.pd:=by
  have:=R2.dl.len;simp only[gc,lH,E0] at this;rw[R.dl.len] at this;omega
 obtain⟨u1,u2,u3⟩:=R2.dl.dB (Y w.pd) (e.heap.size+1) rec A.pd[Y w.pd] b2 (cS b6);have bf:∀(st:Hm)(M:XE)(a4:Option Code),A.pd[Y w.pd]?=U st->(se rec st).state≠ .busy->(se rec st).pending=a4->xW (Y w.pd) (w.uQ A).ap=E->(k M (w.uQ A)).aP p z L'->
   (∀W4,Q (M.to (z.at N.y) o) {a with defers:=[mg e.heap.size]++a.defers} W4->(match a4 with|none=>Q .normal {a with defers:=[mg e.heap.size]++a.defers} W4|U c=>jA Z t p.P c Q {a with defers:=[mg e.heap.size]++a.defers} W4))->
   LeavesInM Fence.wide 0 p.P an q.tmps (abw Z t p.P (e.heap.size+1) Q {a with defers:=[mg e.heap.size]++a.defers}) q.defers .returning W':=by
  intro st M a4 af c3 hj ag c4 hq;rw[q1];refine tV av (xF.1 q2).1 (λd hd=>(q3 d (by simp[hd])).1) ⟨_,K8 R2 ok.kQ (l:=[]) (by rw[cO];rfl), ?_⟩;have c5:A.pd[Y w.pd]=st:=by
   rw[cS b6] at af;simpa using af
  rw[c5] at u2;have b7:=run_endLoop (P:=p.P) u2 c3;rw[hj] at b7;refine⟨a4,_,b7,hq _ ?_⟩;have c6:∀(y l':Nat)(r':Loop),D.dB[y]?=U (l',r')->l'≠e.heap.size+1:=λy l' r' hn M=>by have:=bt y l' r' hn;omega
  refine hk M (w.uQ A) (z.at N.y) o _ _ L' bd hL (b5 _ (R2.mem.obj u2 rfl u3 _) (λk M rv G h1 h2 h3=>(R2.gj k M rv G h1 h2 h3).obj u2 rfl _) ag (al.put u2 c6 _)) (tU p _ z L' _ c4)
 have b8:(HS w k .ret A).aP p z L'->LeavesInM Fence.wide 0 p.P an q.tmps (abw Z t p.P (e.heap.size+1) Q {a with defers:=[mg e.heap.size]++a.defers}) q.defers .returning W':=by
  intro u;simp only[HS] at u;split at u;exact u.elim;rename_i ag;have bg:xW (Y w.pd) (w.uQ A).ap=false:=by simpa using ag
  split at u;rename_i af;exact bf .ready .normal Z af (by simp[se]) rfl bg u (λ_ h=>h)
  ·rename_i af;exact bf (.done .ret) .ret (U .ret) af (by simp[se]) rfl bg u (λ_ h=>uV (n:=0) (wpIn_ret h))
  ·rename_i id af;exact bf (.done (.exit id)) (.exit id) (U (.exit id)) af (by simp[se]) rfl bg u (λ_ h=>uV (n:=0) (wpIn_exit h))
  exact u.elim
 cases M with
 |normal=>exact b8 u
 |ret=>exact b8 u
 |exit id=>exact u.elim
 |bI F=>
  simp only[HS] at u;split at u;exact u.elim;rename_i ag;simp only[jy,not_or,aiV] at ag;show LeavesInM Fence.wide 0 p.P an q.tmps _ q.defers (.panicking _) W';rw[q1];refine tV av (xF.1 q2).1 (λd hd=>(q3 d (by simp[hd])).1) ?_;have:=hk (.bI F) (w.uQ A) (z.at N.y) o _ _ L' bd hL (b5 _ R2.mem R2.gj ag.2 al) (tU p _ z L' _ u);simp only[XE.to] at this;rw[C.Ln b4 o F ag.1] at this;exact this
end
section
variable{d:bE}{p:Sp}{L:dC}{V:ar}{W:World}
def Up(O X:ai):Prop:=∃l,X={O with r:=O.r++l}
def Up.refl(O:ai):Up O O:=⟨[],av⟩
def Up.trans{X R:ai}(h:Up N X)(k:Up X R):Up N R:=by
 obtain⟨l,rfl⟩:=h;obtain⟨m,rfl⟩:=k;exact⟨l++m,av⟩
def Up.agree{X:ai}(h:Up N X):i7 N X (Y N.i) (Y N.b) (Y N.r):=by
 obtain⟨l,rfl⟩:=h;have:∀(l:aC)(N:ai),N.ext (l.map XV.r)={N with r:=N.r++l}:=by
  intro l;induction l with
  |nil=>intro N;simp[ai.ext]
  |cons x Q R=>intro N;simp only[dU,ai.ext,R,ai.add];simp
 rw[<-this l N];exact Fl _ _
def sR(O:ai)(X:bv)(R:uF):S:=⟨[],[],Y O.i,Y O.b,X,0,0,R⟩
def PE(X:bv):Prop:=∀(k:Nat)(e:TypeId),X[k]?≠U (RK.own e)
def amw(p:Sp)(d:bE)(D:cg)(a:Act)(W:World)(L:dC)(V:ar)(G:bG)(N:uF)(X:ai)(v:C)(f:bv->(C->bv->T)->T):Prop:=
 ∀(Q:bv)(O:ai)(k:C->bv->T),az p.S0 p.w0 D d.ty [] O (sR O Q N) a W->Up X O->PE Q->v.bd (Y X.i) (Y X.b) (Y X.r) (aK G)=J->(f Q k).aP p O L->
  ∃M P R,az p.S0 p.w0 D d.ty [] R (sR R P N) a W/\Up O R/\PE P/\(∀H,Up R H->M.ab H []=v.ab X V)/\(k M P).aP p R L
def UC{D:cg}{a:Act}{A:bG}{M:uF}{Q:ai}{f:C->bv->(C->bv->T)->T}(z:∀v,amw p d D a W L V A M Q v (f v)):∀(l:aq)(X:bv)(O:ai)(k:aq->bv->T),az p.S0 p.w0 D d.ty [] O (sR O X M) a W->Up Q O->PE X->C.ec (Y Q.i) (Y Q.b) (Y Q.r) (aK A) l=J->(KD f l X k).aP p O L->
  ∃y H P,az p.S0 p.w0 D d.ty [] P (sR P H M) a W/\Up O P/\PE H/\(∀N,Up P N->C.aE N [] y=C.aE Q V l)/\(k y H).aP p P L
 |[],X,O,k,R,G,F,_,h=>⟨[],X,O,R,Up.refl O,F,λ_ _=>rfl,h⟩
 |x::s,X,O,k,R,G,F,B,h=>by
  rw[C.iQ.2,aw] at B;simp only[KD] at h;obtain⟨q,o,n,m,w,j,g,e⟩:=z x X O _ R G F B.1 h;obtain⟨c,af,O2,R2,u,n2,d2,h2⟩:=UC z s o n _ m (G.trans w) j B.2 e;exact⟨q::c,af,O2,R2,w.trans u,n2,λN t=>by simp only[C.aE,g N (u.trans t),d2 N t],h2⟩
def abL(a4:p.ty=d.ty){D:cg}{a:Act}{bx:bG}{pd:uF}{O0:ai}(ha:a.tmps= #[])(a9:∀i e G,mb bx i=U (e,G)->W.heap[ad V i]?=U (.cells (C.aE O0 V G).toArray e (0,0))/\(p.w0.heap.size<=ad V i\/ad V i∈p.S0)/\C.ec (Y O0.i) (Y O0.b) (Y O0.r) (aK bx) G=J):
  ∀(n:Nat)(v:C),amw p d D a W L V bx pd O0 v (KE d bx n v)
 |0,v=>λx O k R w o N h=>h.elim
 |n+1,v=>by
  intro x O k R w o N h;cases v with
  |int q e=>
   refine⟨_,x,O,R,Up.refl O,o,λf M=> ?_,h⟩;rw[C.bj.1] at N;simp only[C.ab,K.ep (w.trans M).agree e N]
  |bool e=>
   refine⟨_,x,O,R,Up.refl O,o,λf M=> ?_,h⟩;rw[C.bj.2.1] at N;simp only[C.ab,BE.ep (w.trans M).agree e N]
  |ah r=>
   refine⟨_,x,O,R,Up.refl O,o,λf M=> ?_,h⟩;rw[C.bj.2.2.1] at N;simp only[C.ab,RE.ep (w.trans M).agree r N]
  |agg l=>
   rw[C.bj.2.2.2.2.2.2.1] at N;simp only[KE] at h;obtain⟨l',bf,O',R',u',n',d',h'⟩:=UC (abL a4 ha a9 n) l x O _ R w o N h;exact⟨.agg l',bf,O',R',u',n',λf M=>by simp only[C.ab,d' f M],h'⟩
  |jf i b0 af ag=>
   simp only[KE] at h;split at h;rename_i e G bg;obtain⟨g1,g2,g3⟩:=a9 i e G bg;split at h;rename_i te bk;obtain⟨al,Q,H,B,u1,n1,d1,h1⟩:=UC (abL a4 ha a9 n) G x O _ R w o g3 h;split at h1;rename_i hc;simp only[aw,dE,cm,bne_iff_ne,ne_eq] at hc;obtain⟨⟨⟨⟨c1,c2⟩,c3⟩,c4⟩,c5⟩:=hc;subst c3;have hw:bD d.ty (.sl e)=te.aj:=by simp[bD,bk]
   have ba:nX d.ty (sR H Q pd) (bD d.ty (.sl e)) (jJ (Y te.aj) af al)=true:=by
    rw[hw,<-c1];exact FC (s:=sR H Q pd) (s':=S.dR Q) rfl
   have bb:=aaF B ba;obtain⟨P,A⟩:∃P,P=(jJ (Y te.aj) af al).map λa1=>a1.map (C.cd H):=⟨_,rfl⟩
   rw[<-A] at bb;have hN:Y P=af:=by rw[A];simp[TV]
   have bl:C.aE H [] al=C.aE O0 V G:=d1 H (Up.refl _);have hH:bJ W d.ty (.sl e) (.mk (.slice (U ⟨ad V i,0,Z⟩) (Y P) ag) P):=by
    refine aax bb ⟨_,_,_,g1⟩ (λq u hq=> ?_) (by rw[hN];exact c4);rw[A] at hq;have bc:=aaG (V:=[]) (by rw[hw]) ba (λi a1 m=>by rw[<-A] at m;rw[bb.len i a1 m,hw]) hq;rw[bl] at bc;simp[ow,g1,bc]
   have br:HX p.ty p.S0 p.w0 e (.lit (jJ (Y te.aj) af al)) Q H (.mk (.slice (U ⟨ad V i,0,Z⟩) (Y P) ag) P):=by
    refine⟨⟨U ⟨ad V i,0,Z⟩,Y P,ag,by rw[A];rfl,by rw[A];rfl⟩,λb hl=> ?_,λ_ _ _ _ h=>by cases h⟩;rw[a4] at hl⊢;generalize bd:RV.mk (.slice (U ⟨ad V i,0,Z⟩) (Y P) ag) P=rv at hl;cases hl with
    |here e a0 b1 b2 bs=>
     injection bd with p1 p2;injection p1 with p3 p4 p5;cases p3;exact g2.imp id .inl
    |deep e v bs i j a1 c z k b g q2 q3 q4=>
     injection bd with p1 p2;subst p2;rw[A,dW] at g;cases m:(jJ (Y te.aj) af al)[i]? with
     |none=>rw[m] at g;cases g
     |some bt=>
      rw[m] at g;simp only[eh,cU] at g;subst g;obtain⟨r,X,F,k3,k4⟩:=aaA (Fs ba i bt m) q2 q3 q4;exact .inr (.inr (KW B k3 F k4).1)
   have hs:=h1 _ br;refine⟨.ah (.v (Y Q)),Q++[.sl e],H.add (.r (.mk (.slice (U ⟨ad V i,0,Z⟩) (Y P) ag) P)), ?_,u1.trans ⟨[_],rfl⟩, ?_, ?_,hs⟩;have a3:Y H.r=Y Q:=B.er;refine⟨⟨B.mem.base,λi y=>by simp[sR,aK,cV] at y,λi j y=>by simp[sR,aK,cV] at y,λi t G y=>by simp[sR,cV] at y,λk e' rv X F=> ?_⟩,rfl,rfl,rfl,by simp[sR,ai.add,a3],B.dl,by rw[ha];rfl,λt sv ht=>by simp[sR] at ht,λk e' rv b X=> ?_⟩;refine⟨?_,λb N i y=>by simp[sR,aK,cV] at y⟩;simp only[sR,ai.add] at X F;by_cases hk:k<Y Q;rw[dH hk] at X;rw[dH aa] at F;exact(B.mem.ah k e' rv X F).1;have an:k=Y Q:=by
    have:=(ck.1 X).1;simp at this;omega
   subst an;simp at X;rw[<-a3] at F;simp at F;subst X F;exact hH;exfalso;simp only[sR] at X;by_cases hk:k<Y Q;rw[dH hk] at X;exact n1 _ _ X;have:=(ck.1 X).1;have an:k=Y Q:=by simp at this;omega
   subst an;simp at X;intro k e' X;by_cases hk:k<Y Q;rw[dH hk] at X;exact n1 _ _ X;have:=(ck.1 X).1;have an:k=Y Q:=by simp at this;omega
   subst an;simp at X;intro f M;obtain⟨l,rfl⟩:=M;have a3:Y H.r=Y Q:=B.er;simp only[C.ab,RE.ab,RE.rv,ai.rv,ai.add,cz,A6];rw[<-a3,iE (b9 _)];simp[hN];exact h1.elim;exact h.elim;exact h.elim
  |loc _ _=>exact h.elim
  |el _ _ _ _=>exact h.elim
  |bM _=>exact h.elim
  |fn _ _=>exact h.elim
  |gX _ _=>exact h.elim
  |yl _=>exact h.elim
  |any=>exact h.elim
  |mp _=>exact h.elim
  |gg _ _ _=>exact h.elim
end
section
variable{cf:bE}
section
variable{o:ar}{q:World}{D:cg}{V:ar}{O:ai}{s:S}{a:Act}{W:World}
def abM{k:Int}:∀{R:bz}{Q:aq}{v:C},HT k R Q=U v->v.hJ O V=.mk (kN k R (C.aE O V Q)) []
 |[],_,v,h=>by simp[HT] at h
 |F::R,[],v,h=>by simp[HT] at h
 |F::R,u::Q,v,h=>by
  unfold HT at h;split at h;rename_i P N;injection P with M L;injection N with H G;subst M L H G;simp only[C.aE,kN];split at h;rename_i X;cases h;rw[aJ X];rfl;rename_i X;rw[aQ X];exact abM h;rename_i P N;injection P with M L;injection N with H G;subst M L H G;simp only[C.aE,kN];split at h;rename_i X;cases h;rw[aJ X];rfl;rename_i X;rw[aQ X];exact abM h;cases h
def amx{x:Int}:∀{X:bz}{R:gt},¬x∈X->kN x X R=.nilFunc
 |[],_,_=>rfl
 |k::X,[],_=>rfl
 |k::X,v::R,h=>by
  simp only[dP,not_or] at h;simp only[kN,aQ h.1];exact amx h.2
def abN{e:K}{k:Int}(X:e.ab O=k):∀(n:Nat)(b:BE),(OE e k n b).ab O=b.ab O
 |0,b=>rfl
 |n+1,b=>by
  unfold OE;split;rfl;rename_i P N M x y R;cases R;split;rename_i Q;have:=K.bY _ _ Q;subst this;simp only[BE.ab,K.ab,fy,X,dE];split;exact abN X n x;exact abN X n y;rfl;rfl
def abO{e:K}{k:Int}(X:e.ab O=k):∀(n:Nat)(b:K),(OF e k n b).ab O=b.ab O
 |0,b=>rfl
 |n+1,b=>by
  unfold OF;split;rfl;rename_i P N M x y R;cases R;split;rename_i Q;have:=K.bY _ _ Q;subst this;simp only[BE.ab,K.ab,fy,X,dE];split;exact abO X n x;exact abO X n y;rfl;rfl
def ayp{e:K}{k:Int}(X:e.ab O=k)(v:C):(Z4 e k v).hJ O V=v.hJ O V:=by
 cases v<;>simp only[Z4];simp only[C.hJ,C.ab,abO X];simp only[C.hJ,C.ab,abN X];rename_i P N M;split;rename_i R;have:=K.bY _ _ R;subst this;split;rename_i v Q;rw[abM Q];simp only[C.hJ,C.ab,X];rfl;rfl
def ayq{e:K}{R:bz}(Q:¬e.ab O∈R)(v:C):(Ts e R v).hJ O V=v.hJ O V:=by
 cases v<;>simp only[Ts];rename_i L P H;split;rename_i X;rw[aw] at X;have:=K.bY _ _ X.1;subst this;have N:¬e.ab O∈P:=λM=>Q (by
  have:=fO.1 X.2 _ M;exact qj.1 this)
 simp only[C.hJ,C.ab,amx N];rfl;rfl
def ayr{e:K}{v:Int}(h:e.ab O=v):∀y:C,(Z5 e v y).hJ O V=y.hJ O V:=λy=>by
 unfold Z5;split;rename_i k x;split;rename_i X;have X:=K.bY _ _ X;subst X;simp only[C.hJ,C.ab,K.ab,h];rfl;rfl
def abP{f:C->C}{l:bG}{i:Nat}{t:TypeId}{R:aq}:cw (HV f l) i=U (t,R)<->∃kP,cw l i=U (t,kP)/\R=kP.map f:=by
 rw[kj];simp only[HV,dW];constructor;intro h;cases X:l[i]? with
 |none=>rw[X] at h;cases h
 |some x=>
  rw[X] at h;cases x with
  |none=>cases h
  |some y=>
   simp only[eh,cU,C2] at h;obtain⟨rfl,rfl⟩:=h;exact⟨y.2,kj.2 X,rfl⟩
 rintro⟨kP,h,rfl⟩;rw[kj] at h;rw[h];rfl
def amy{f:C->C}{l:bG}:aK (HV f l) y=aK l y:=by
 rw[uD];simp only[aK,ln];constructor;rintro⟨⟨t,X⟩,h⟩;obtain⟨kP,h,-⟩:=abP.1 h;exact⟨_,h⟩;rintro⟨⟨t,X⟩,h⟩;exact⟨_,abP.2 ⟨X,h,rfl⟩⟩
def az.fix(R:az o q D cf.ty V O s a W){f:C->C}(H:∀v,(f v).hJ O V=v.hJ O V):az o q D cf.ty V O (s.fix f) a W:=by
 have Q:∀j,aK (s.fix f).ap j=aK s.ap j:=λj=>amy
 refine⟨⟨R.mem.base,λj X=>R.mem.own j (by rw[<-Q];exact X),λj k X G=>R.mem.inj j k (by rw[<-Q];exact X) (by rw[<-Q];exact G),λj t w L=> ?_,λk e P N M=>⟨(R.mem.ah k e P N M).1,λb L j X=>(R.mem.ah k e P N M).2 b L j (by rw[<-Q];exact X)⟩⟩,by rw[R.gJ];simp[S.fix,HV],R.ei,R.eb,R.er,R.dl,R.size,R.tmps,λk e P b F B A=> ?_⟩;obtain⟨kP,h,rfl⟩:=abP.1 L;have:C.dO O V (kP.map f)=C.dO O V kP:=by
  simp only[C.dO,ov];exact jT λv _=>H v
 rw[this];exact R.mem.box j t kP h;obtain⟨N,M,z,y,x⟩:=R.gj k e P b F B A;exact⟨N,M,λj X=>z j (by rw[<-Q];exact X),y,x⟩
def abQ(f:C->C):bH s O V (s.fix f) O V:=⟨oa.refl _ _ _,λi h=>by rw[show aK (s.fix f).ap i=aK s.ap i from amy];exact h,by simp[S.fix,HV],b9 _⟩
def az.ays(R:az o q D cf.ty V O s a W){k:IntKind}{e:K}{v:Int}(Q:s.tmps.getD y .any=.int k e)(N:e.ab O=v):az o q D cf.ty V O {s with tmps:=s.tmps.set y (.int k (.c v))} a W:=by
 refine⟨R.mem,R.gJ,R.ei,R.eb,R.er,R.dl,by simpa using R.size,λi M h=> ?_,R.gj⟩;simp only[v6] at h;split at h;rename_i L;subst L;split at h;rename_i P;cases h;have H:s.tmps[y]?=U (.int k e):=by
  rw[cz,cS P] at Q;rw[cS P];simpa using Q
 rcases R.tmps y _ H with X|X;cases X;right;rw[X];simp only[C.ab,K.ab,N];cases h;exact R.tmps i M h
def UD{p:Sp}{L:dC}{e:K}{gF:Int->S}{ae:T}{g:S->T}:∀{X:bz},(KC e gF ae g X).aP p O L->(∃k∈X,e.ab O=k/\(g (gF k)).aP p O L)\/(¬e.ab O∈X/\ae.aP p O L)
 |[],h=>.inr ⟨av,h⟩
 |k::X,h=>by
  simp only[KC,T.aP] at h;by_cases R:e.ab O=k;exact .inl ⟨k,av,R,h.1 (by simp[BE.ab,K.ab,fy,R])⟩;rcases UD (h.2 (by simp[BE.ab,K.ab,fy,R])) with⟨N,Q,P⟩|⟨Q,P⟩;exact .inl ⟨N,by simp[Q],P⟩;exact .inr ⟨by simp[R,Q],P⟩
def ayt{p:Sp}(R:az o q D cf.ty V O s a W){id:Nat}{e:K}{H:bz}{gF:Int->S}{ae:Option S}(X:Tt cf y id s=U (e,H,gF,ae)){g:S->T}(h:(KC e gF (Z6 g ae) g H).aP p O b):
  ∃M,bH s O V M O V/\M.ax=s.ax/\az o q D cf.ty V O M a W/\(g M).aP p O b:=by
 unfold Tt at X;split at X;split at X;cases X;rcases UD h with⟨k,P,Q,N⟩|⟨P,Q⟩;exact⟨_,abQ _,rfl,R.fix (ayp Q),N⟩;split at Q;exact⟨_,abQ _,rfl,R.fix (ayq P),Q⟩;exact Q.elim;cases X;split at X;cases X;rename_i k F B G;cases X;rw[xM] at G;rcases UD h with⟨k,P,Q,N⟩|⟨P,Q⟩;refine⟨_, ?_, ?_,R.ays G Q,N⟩;exact⟨oa.refl _ _ _,λ_ h=>h,b9 _,b9 _⟩;rfl;exact Q.elim;cases X;split at X;split at X;cases X;cases X;rcases UD h with⟨k,P,Q,N⟩|⟨P,Q⟩;exact⟨_,abQ _,rfl,R.fix (ayr Q),N⟩;exact Q.elim;cases X;cases X;cases X
end
def UE:∀(n:Nat)(p:Sp)(_:jL p cf),zR p cf n/\Ut p cf n
 |0,p,ok=>⟨λD B yh ro al c s k L O V a W Q _ _ _ _ _ h=>h.elim,λD B yh ro al c s k L O V a W Q _ _ _ _ _ _ h=>h.elim⟩
 |n+1,p,ok=>by
  have b8:=(UE n p ok).2;have ih:=(UE n p ok).1;have ca:∀p':Sp,p'.P=p.P->jL p' cf->zR p' cf n:=λp' _ cc=>(UE n p' cc).1
  have b1:=axT ih b8;refine⟨?_,b1⟩;intro D B yh ro al c s k L O V a W Q hY hB a0 a9 a3 h R hg HP u;have ba:∀e F,dm s.ax L F->(k e s).aP p O F->Q (e.to O V) a W:=λe F w A=>u e s O V a W F (bH.refl _ _ _) w R A
  have h0:=h;unfold fY at h;split at h;exact uV (n:=0) (wpIn_skip (ba .normal L (dm.refl _ _) h));exact uV (n:=0) (wpIn_label (ba .normal L (dm.refl _ _) h));exact uV (n:=0) (wpIn_ret (ba .ret L (dm.refl _ _) h));rename_i id;exact uV (n:=0) (wpIn_exit (ba (.exit id) L (dm.refl _ _) h))
  
  rename_i x y;have bb:ro.isSome=J->ki x=false:=λhr=>by have:=a9 hr;simp only[ki,vZ] at this;exact this.1
  have bc:ro.isSome=J->ki y=false:=λhr=>by have:=a9 hr;simp only[ki,vZ] at this;exact this.2
  refine Ig (ih D B yh ro al x s _ L O V a W _ hY hB a0 bb a3 h R hg (λch H G pd y hd hR=>HP ch H G pd y hd hR) ?_);intro e r O' V' H G F M w d A;cases e with
  |normal=>exact ih D B yh ro al y r k F O' V' H G Q hY (hB.go M w) a0 bc a3 A d (hg.ext M.ext) HP (λe2 s2 O2 V2 a2 W2 L2 ag a4 R2 af=>u e2 s2 O2 V2 a2 W2 L2 (M.trans ag) (w.trans a4 M.ax) R2 af)
  |ret=>exact u .ret r O' V' H G F M w d A
  |exit id=>exact u (.exit id) r O' V' H G F M w d A
  |bI v=>exact u (.bI v) r O' V' H G F M w d A
  
  rename_i id x;refine axF (ih D B yh ro al x s _ L O V a W _ hY hB a0 (λhr=>by have:=a9 hr;simpa only[ki] using this) a3 h R hg (λch H G pd y hd hR=>HP ch H G pd y hd hR) ?_);intro e r O' V' H G F M w d A;cases e with
  |normal=>exact u .normal r O' V' H G F M w d A
  |ret=>exact u .ret r O' V' H G F M w d A
  |exit j=>
   simp only[ZU] at A;split at A;rename_i hj;have bf:j=id:=by simpa using hj
   subst bf;simp only[XE.to,Exit.inBlock,cN];exact u .normal r O' V' H G F M w d A;rename_i hj;have bf:¬j=id:=by simpa using hj
   simp only[XE.to,Exit.inBlock,bf,gf];exact u (.exit j) r O' V' H G F M w d A
  |bI v=>exact u (.bI v) r O' V' H G F M w d A
  
  rename_i x;refine axG (ih D B yh ro al x s _ L O V a W _ hY hB a0 (λhr=>by have:=a9 hr;simpa only[ki] using this) a3 h R hg (λch H G pd y hd hR=>⟨λl h=>by(cases h),HP ch H G pd y hd hR⟩) ?_);intro e r O' V' H G F M w d A;exact⟨λl h=>(by cases e<;>cases h),u e r O' V' H G F M w d A⟩
  
  rename_i x y z;have bc:ro.isSome=J->ki y=false:=λhr=>by have:=a9 hr;simp only[ki,vZ] at this;exact this.1
  have b2:ro.isSome=J->ki z=false:=λhr=>by have:=a9 hr;simp only[ki,vZ] at this;exact this.2
  split at h;rename_i hc;have he:=du R hg x (by rw[hc];rfl);rw[hc] at he;exact Lj (t:=J) (by simpa[C.ab,BE.ab] using he) (ih D B yh ro al y s k L O V a W Q hY hB a0 bc a3 h R hg HP u);rename_i hc;have he:=du R hg x (by rw[hc];rfl);rw[hc] at he;exact Lj (t:=E) (by simpa[C.ab,BE.ab] using he) (ih D B yh ro al z s k L O V a W Q hY hB a0 b2 a3 h R hg HP u);rename_i b dz dT hc;have he:=du R hg x (by rw[hc];rfl);rw[hc] at he;split at h;rename_i t;simp only[S.ev,xM] at hc;simp only[T.aP] at h;have b3:∀v,B.mi {s with tmps:=s.tmps.set t v} O V L:=λv=>⟨⟨hB.later.ext,hB.later.mono,hB.later.len,hB.later.ax⟩,hB.H9⟩
  cases hv:b.ab O;refine Lj (t:=E) (by simpa[C.ab,hv] using he) (ih D B yh ro al z _ k L O V a W Q hY (b3 _) a0 b2 a3 (h.2 hv) (R.alh hc hv) hg HP ?_);exact λe2 s2 O2 V2 a2 W2 L2 ag a4 R2 af=>u e2 s2 O2 V2 a2 W2 L2 ⟨ag.ext,ag.mono,ag.len,ag.ax⟩ a4 R2 af
  refine Lj (t:=J) (by simpa[C.ab,hv] using he) (ih D B yh ro al y _ k L O V a W Q hY (b3 _) a0 bc a3 (h.1 hv) (R.alh hc hv) hg HP ?_);exact λe2 s2 O2 V2 a2 W2 L2 ag a4 R2 af=>u e2 s2 O2 V2 a2 W2 L2 ⟨ag.ext,ag.mono,ag.len,ag.ax⟩ a4 R2 af
  exact h.elim;exact h.elim
  
  rename_i id bg cl;split at h;rename_i e ks gF ae hf;obtain⟨r,M,bk,d,h'⟩:=ayt R hf h;exact ih D B yh ro al _ r k L O V a W Q hY (hB.go M (dm.refl _ _)) a0 a9 a3 h' d hg HP (λe2 s2 O2 V2 a2 W2 L2 ag a4 R2 af=>u e2 s2 O2 V2 a2 W2 L2 (M.trans ag) (bk▸a4) R2 af);refine uV (n:=0) ?_;split at h;rename_i hd;subst hd;split at h;rename_i c bl;exact amv (zQ ro) ok ih hY HP hB bl h R hg (λr O' V' H G F M w d A=>u .normal r O' V' H G F M w d A) (λv r O' V' H G F M w d A=>u (.bI v) r O' V' H G F M w d A);split at h;rename_i om cn;split at h;exact h.elim;rename_i co;exact axS (zQ ro) ok (ax1 ca ok) hY HP hB cn (by simpa using co) (ax0 _ _ _) h R hg (λr O' V' H G F M w d A=>u .normal r O' V' H G F M w d A) (λv r O' V' H G F M w d A=>u (.bI v) r O' V' H G F M w d A);split at h;rename_i c bl;exact amv (zQ ro) ok ih hY HP hB bl h R hg (λr O' V' H G F M w d A=>u .normal r O' V' H G F M w d A) (λv r O' V' H G F M w d A=>u (.bI v) r O' V' H G F M w d A);exact h.elim;rename_i hd;have cp:cl=false:=by simpa using hd
  subst cp;obtain⟨Rr,br⟩:=R.room (mc bg.toList);refine wpIn_region ?_;have:=BD (ops:=bg) ok.pt ok.zp (zQ ro) ok.kQ (axU _ ok (Lt ok ih hY)) HP (n:=0) (gU (λ_=>E) J E 0 (Y s.ap) bg.toList) 0 _ [] L O _ a W (λi m' hi=>by have:=Lr _ _ _ _ _ _ _ _ hi;simpa using this) (hB.go br (dm.refl _ _)) h (λx hx=>by cases hx) Rr hg
   (λr O' V' H G F M w d A=>u .normal r O' V' H G F (br.trans M) w d A)
   (λv r O' V' H G F M w d A=>u (.bI v) r O' V' H G F (br.trans M) w d A)
  rw[Ur] at this;simpa[SJ] using this
  
  rename_i x;have bb:ro.isSome=J->ki x=false:=λhr=>by have:=a9 hr;simpa only[ki] using this
  split at h;rename_i bs d0;split at h;have M:bH s O V (s.dq bs) O V:=⟨(bH.refl s O V).ext,λi hi=>hi,b9 _,b9 _⟩;exact ih D B yh ro al _ (s.dq bs) k L O V a W Q hY (hB.go M (dm.refl _ _)) a0 a9 a3 h (R.mO (OU _ _)) hg HP (λe2 s2 O2 V2 a2 W2 L2 ag a4 R2 af=>u e2 s2 O2 V2 a2 W2 L2 (M.trans ag) a4 R2 af);obtain⟨an,cs⟩:∃an,an=bs.at s:=⟨_,rfl⟩;rw[<-cs] at h;split at h;exact h.elim;rename_i hc;simp only[jy,ik,not_or,G8] at hc;obtain⟨⟨⟨⟨⟨ct,cv⟩,cx⟩,cy⟩,cA⟩,cB⟩:=hc;simp only[T.aP] at h;obtain⟨X,μ,cC,cD⟩:=h;refine axH (λN a1 W1=>∃s1 O1 V1,bH s O V s1 O1 V1/\az p.S0 p.w0 D cf.ty V1 O1 s1 a1 W1/\zu an (Code.oU x) 0 s.tmps s1.tmps=J/\tH an 0 s.ap s1.ap=J/\tI s1 an.ks (kK an s1)=J/\zt (jw an s) s1.rs=J/\HI (jw an s) (HH an s1)=J/\s1.pd=s.pd/\X ((kK an s1).map (C.xv O1))/\μ ((kK an s1).map (C.xv O1))=N)
   (μ ((kK an s).map (C.xv O))) ⟨s,O,V,bH.refl _ _ _,R,cx,cy,cv,cA,cB,rfl,cC,rfl⟩ ?_
  rintro N a1 W1 ⟨s1,O1,V1,b4,R1,hT,cI,b5,cO,cR,cW,hI,rfl⟩;have RH:=az.head (ty:=cf.ty) ct R.ei R.eb R.er b4 R1 hT cI b5 cO cR cW;have c0:=cD _ (aa7 (O1:=O1) b5) hI;have bk:(ri an (Code.oU x) s).ax=s.ax+1:=(ye an.ks {s with ax:=s.ax+1,rs:=jw an s}).2.2.1;have bt:bH s O V (ri an (Code.oU x) s) (O.ext ((kK an s1).map (C.xv O1))) (V1.take (Y s.ap)):=by
   obtain⟨e1,e2,e3,e4⟩:=ye an.ks {s with ax:=s.ax+1,rs:=jw an s};have hE:=Du s.ap O ((kK an s1).map (C.xv O1)) V;refine⟨⟨hE.agree,hE.li,hE.lb,hE.lr,λk b6=> ?_⟩,λi hi=> ?_,by simp[ri,Ue], ?_⟩;have bx:k<Y s.ap:=by
    obtain⟨b,hb⟩:=ln.1 b6;exact(ck.1 (kj.1 hb)).1
   rw[Dz bx];exact b4.ext.ad k b6;unfold aK at hi⊢;simp only[ri];rw[Ph];simpa using hi;simp only[ri];rw[e3];exact Nat.le_succ _
  have c7:∀m,dm s.ax L (⟨s.ax,X,μ,m⟩::L):=λm l bx=>by
   simp only[oD];rw[aQ aa]
  refine ih D B yh ro al x _ _ _ _ _ a1 W1 _ hY (hB.go bt (c7 _)) a0 bb a3 c0 RH (hg.ext bt.ext) (λch H G pd y hd hR=>HP ch H G pd y hd hR) ?_;intro e s2 O2 V2 a2 W2 L2 ag a4 R2 af;have bd:=bt.trans ag;rw[bk] at a4;have b0:dm s.ax L L2:=λl bx=>by
   rw[a4 l aa];simp only[oD];rw[aQ aa]
  cases e with
  |normal=>
   simp only[To] at af;split at af;rename_i b7;simp only[aw,cm] at b7;obtain⟨⟨⟨⟨⟨c1,c2⟩,c3⟩,c4⟩,c5⟩,c6⟩:=b7;have c8:oD s.ax L2=U ⟨s.ax,X,μ,μ ((kK an s1).map (C.xv O1))⟩:=by
    rw[a4 s.ax aa];simp[oD]
   simp only[T.aP,c8] at af;exact⟨_,af.2,s2,O2,V2,bd,R2,c1,c2,c3,c4,c5,c6,af.1,rfl⟩;exact af.elim
  |ret=>exact u .ret s2 O2 V2 a2 W2 L2 bd b0 R2 af
  |exit id=>exact u (.exit id) s2 O2 V2 a2 W2 L2 bd b0 R2 af
  |bI v=>exact u (.bI v) s2 O2 V2 a2 W2 L2 bd b0 R2 af
  rename_i c9;exact alV (n+1) (b1 D B yh ro al x s k L O V a W Q hY hB a0 bb a3 (λan=>c9 an) h0 R hg HP u)
  
  rename_i f ps assign body;have dc:ro=none:=by
   cases ro with
   |none=>rfl
   |some l=>have:=a9 rfl;simp[ki] at this
  subst dc;split at h;rename_i g d1 dd;split at h;rename_i c nt df;split at h;exact h.elim;rename_i hc;simp only[jy,ik,not_or,G8,aiV] at hc;obtain⟨⟨⟨⟨dk,dn⟩,dr⟩,ds⟩,dx⟩:=hc;obtain⟨d2,dy⟩:=a3;exact ayo ok ih dy a0 dd df dk dn dr ds dx h hY hB R hg HP u;exact h.elim;exact h.elim;exact h.elim
variable{p:Sp}
def ayu{R:ai}{Q:ar}:∀{l P:aq},C.aE N x l=C.aE R Q P->(one l).ab N x=(one P).ab R Q
 |[],[],_=>rfl
 |[X],[y],h=>by
  have h:C.ab N x X=C.ab R Q y:=by simpa[C.aE] using h
  exact h
 |[],_::_,h=>by simp[C.aE] at h
 |_::_,[],h=>by simp[C.aE] at h
 |[_],_::_::_,h=>by simp[C.aE] at h
 |_::_::_,[_],h=>by simp[C.aE] at h
 |a::b::c,M::L::H,h=>by
  show Value.tuple (C.aE N x (a::b::c)).toArray=Value.tuple (C.aE R Q (M::L::H)).toArray;rw[h]
def amz(X:bv):PE (X.map RK.rd):=by
 intro k e h;rw[dW] at h;cases R:X[k]? with
 |none=>rw[R] at h;cases h
 |some x=>rw[R] at h;cases x<;>simp[RK.rd] at h
def ayv{D:cg}{a:Act}(H:p.ty=cf.ty)(R:az p.S0 p.w0 D cf.ty x N w a e)(M:(OH cf y v w).aP p N b):p.R (.returned ((one v).ab N x)) e:=by
 unfold OH at M;split at M;rename_i z;simp only[aw] at z;obtain⟨⟨⟨an,a0⟩,m⟩,h⟩:=z;have G:∀i,aK ([]:bG) i=J->False:=λi P=>by simp[aK,cV] at P
 have g:=R.mem.mO (PA w.rs);have f:az p.S0 p.w0 D cf.ty [] N (sR N (w.rs.map RK.rd) w.pd) ⟨#[],a.defers⟩ e:=
  ⟨⟨R.mem.base,λi P=>(G i P).elim,λi j P=>(G i P).elim,λi t r P=>by simp[sR,cV] at P,λk X n F c=>⟨(g.ah k X n F c).1,λQ _ i P=>(G i P).elim⟩⟩,rfl,rfl,rfl,by simp[sR,R.er],R.dl,rfl,λt sv ht=>by simp[sR] at ht,λk X n Q F=>aZ F (amz _ k X)⟩
 have af:=R.zE m;obtain⟨l',a1,B,R3,u,_,d,h3⟩:=UC (a:=⟨#[],a.defers⟩) (abL (bx:=w.ap) (O0:=N) (V:=x) H rfl (λi X r ag=>by
  obtain⟨A,al⟩:=zD ag;have:=R.mem.box i X r A;rw[tQ al] at this;exact⟨this,R.mem.own i (by simp[aK,A]),tP af.2 A⟩) 9) v (w.rs.map RK.rd) N _ f (Up.refl _) (amz _) (by rw[R.ei,R.eb,R.er];exact h) M
 have h4:=h3 B.y [] e (by rw[H];exact R3.mem);have h5:(one l').ab B []=(one v).ab N x:=ayu (d B (Up.refl _));rw[<-h5];exact h4;exact M N.y x _ (by rw[H];exact(R.mem.take _).mO (PA _))
def Lw(X:jL p cf)(n:Nat):zR p cf n/\Ut p cf n:=UE n p X
def amA(z:jL p cf){L:Func}{c:Code}(k:p.P.funcs[t]?=U L)(hb:L.body=U c)
  (ht:OI cf y t c L.ntmps L.results.toList v w=g)(M:g.aP p N [])(hg:e8 cf.gl N)(R:az p.S0 p.w0 cg.none cf.ty x N {w with tmps:=[]} ⟨#[],[]⟩ p.w0):
  Calls p.P t (C.aE N x v).toArray p.w0 p.R:=by
 subst ht;refine Lk k hb ?_;have RE:=R.enter v L.ntmps R.dl;refine(Lw z y).1 cg.none ⟨{w with tmps:=v++eN (L.ntmps-Y v) (.bM [])},N,x,[]⟩ iY Z t c _ _ [] N x _ p.w0 _ (FE _ _) (jX.here _ _ _ _) rfl (λhh=>by cases hh) ⟨L,k⟩ M RE hg ?_ ?_;intro j H u pd X hA hR;obtain⟨ag,F,q0,r,B⟩:=hA.mh;show LeavesInM Fence.wide 0 p.P L H.tmps p.R H.defers (.panicking j) u;rw[F];exact tV av (xF.1 r).1 (λd G=>(B d (by simp[G])).1) (Px (z.Uh j) (λd G=>(B d (by simp[G])).2) hR);intro e i h V' H u L' hl hL b M;obtain⟨ag,F,q0,r,B⟩:=b.dl.mh;have m:=b.rq F;have af:∀l,uK cf i L.results.toList=U l->(OH cf (Y w.ap) l i).aP p h L'->LeavesInM Fence.wide 0 p.P L H.tmps p.R H.defers .returning u:=by
  intro l A M;rw[F];exact tV av (xF.1 r).1 (λd G=>(B d (by simp[G])).1) ⟨_,K8 m z.kQ A,ayv z.pt m M⟩
 cases e with
 |normal=>
  simp only[Tu] at M;split at M;rename_i l A;exact af l A M;exact M.elim
 |ret=>
  simp only[Tu] at M;split at M;rename_i l A;exact af l A M;exact M.elim
 |bI Q=>
  show LeavesInM Fence.wide 0 p.P L H.tmps p.R H.defers (.panicking _) u;rw[F];exact tV av (xF.1 r).1 (λd G=>(B d (by simp[G])).1) (M h.y V' _ m.mem.base)
 |exit id=>exact M.elim
end
def zEq:Value->CT->Bool
 |.int k n,.int X=>decide (k=X)&&n==0
 |.bool b,.bool=> !b
 |v,.ae z _=>Hx v z
 |_,_=>E
def Lx:gt->fj->Bool
 |[],[]=>J
 |v::X,c::W=>zEq v c&&Lx X W
 |_,_=>E
def amC:∀(W:gt)(V:fj),Lx W V=J->W=V.map rm
 |[],[],_=>rfl
 |[],_::_,h=>by simp[Lx] at h
 |_::_,[],h=>by simp[Lx] at h
 |v::W,c::V,h=>by
  simp only[Lx,aw] at h;rw[dU,<-amC W V h.2];congr 1;have X:=h.1;unfold zEq at X;split at X;simp only[aw,cm,dE] at X;obtain⟨rfl,rfl⟩:=X;rfl;rename_i b;cases b;rfl;cases X;exact aju _ _ X;cases X
def Ly:List Field->List (Nat×TypeId)->Bool
 |[],[]=>J
 |f::X,x::W=>f.offset==x.1&&f.type==x.2&&Ly X W
 |_,_=>E
def amD:∀(X:List Field)(W:List (Nat×TypeId)),Ly X W=J->X.map (λf=>(f.offset,f.type))=W
 |[],[],_=>rfl
 |[],_::_,h=>by simp[Ly] at h
 |_::_,[],h=>by simp[Ly] at h
 |f::X,x::W,h=>by
  simp only[Ly,aw,dE] at h;rw[dU,amD X W h.2,h.1.1,h.1.2]
def abR(aj:fj):TD->Option TypeDesc->Bool
 |.struct V,U (.struct F)=>Ly F.toList V
 |.arr n e,U (.array R X)=>n==R&&e==X
 |.slice e,U (.slice X)=>e==X
 |.str,U .string=>J
 |.gX,U (.interface _)=>J
 |.map k e _ _,U (.map W X)=>k==W&&e==X
 |.one,U (.int k)=>match aj with
  |[.int W]=>decide (k=W)
  |_=>E
 |.one,U .bool=>match aj with
  |[.bool]=>J
  |_=>E
 |.one,U (.pointer _)|.one,U (.map _ _)|.one,U (.chan _ _)=>match aj with
  |[.ae .nilFunc _]=>E
  |[.ae _ _]=>J
  |_=>E
 |.one,U (.func _ _ _)=>match aj with
  |[.ae _ _]=>J
  |_=>E
 |_,_=>E
def ayw{P:Program}{t:TypeId}{aj:fj}{d:TD}(h:abR aj d (P.underlying t)=J):d.Ok P t aj:=by
 unfold abR at h;split at h;rename_i N F W;exact⟨F,W,amD _ _ h⟩;rename_i n e M R W;simp only[aw,dE] at h;obtain⟨rfl,rfl⟩:=h;exact W;rename_i e R W;simp at h;subst h;exact W;rename_i W;exact W;rename_i m W;exact⟨m,W⟩;rename_i k e n L O R W;simp only[aw,dE] at h;obtain⟨rfl,rfl⟩:=h;exact W;rename_i k W;split at h;rename_i O;simp at h;subst h;exact⟨_,W,⟨trivial,λk X=>(by cases X)⟩,λk X=>(by cases X;rfl),λX=>(by cases X)⟩;cases h;rename_i W;split at h;exact⟨_,W,⟨trivial,λk X=>(by cases X)⟩,λk X=>(by cases X),λX=>rfl⟩;cases h;rename_i x W;split at h;cases h;rename_i z Q V;exact⟨_,W,⟨trivial,λk X=>(V (by cases X;rfl)).elim⟩,λk X=>(by cases X),λX=>(by cases X)⟩;cases h;rename_i x y W;split at h;cases h;rename_i z Q V;exact⟨_,W,⟨trivial,λk X=>(V (by cases X;rfl)).elim⟩,λk X=>(by cases X),λX=>(by cases X)⟩;cases h;rename_i x y W;split at h;cases h;rename_i z Q V;exact⟨_,W,⟨trivial,λk X=>(V (by cases X;rfl)).elim⟩,λk X=>(by cases X),λX=>(by cases X)⟩;cases h;rename_i x y z W;split at h;exact⟨_,W,⟨trivial,λk X=>⟨_,_,_,rfl⟩⟩,λk X=>(by cases X),λX=>(by cases X)⟩;cases h;cases h
def abS(P:Program)(t:TypeId)(X:TI):Bool:=
 match P.info? t with
 |U i=>match i.zero with
  |U z=>decide (i.bytes<=131072)&&i.size==Y X.aj&&Lx z.cells.toList X.aj&&abR X.aj X.d (P.underlying t)&&(Tz z==X.d.isAgg)
  |none=>E
 |none=>E
def ayx{P:Program}{t:TypeId}{X:TI}(h:abS P t X=J)(L:X.eq=J->∀(W V:gt)(r:Bool)(x y:Operand)(w:World),lw X.aj W->lw X.aj V->km W V=U r->
  (do eqGuard .eql t x y (.agg W.toArray) (.agg V.toArray);binOp .eql t (.agg W.toArray) (.agg V.toArray)).run P w=.ok (.bool r) w/\
  (do eqGuard .neq t x y (.agg W.toArray) (.agg V.toArray);binOp .neq t (.agg W.toArray) (.agg V.toArray)).run P w=.ok (.bool !r) w)(H:∀k e n O,X.d=.map k e n O->uR P k n O):fk P t X:=by
 unfold abS at h;split at h;rename_i i Q;split at h;rename_i z N;simp only[aw,dE,cm] at h;obtain⟨h,G⟩:=h;exact⟨⟨i,Q,h.1.1.2,z,N,amC _ _ h.1.2⟩,ayw h.2,λj R=>(by rw[Q] at R;cases R;exact h.1.1.1),L,H,λj F R M=>(by rw[Q] at R;cases R;rw[N] at M;cases M;exact G)⟩;cases h;cases h
def amE{X:Type}(l:List (Option X))(i:Nat):Option X:=zm (motive:=λ_=>Nat->Option X) (λ_=>Z) (λx _ W t=>Hk (motive:=λ_=>Option X) x (λm _=>W m) t) l i
def abT{X:Type}(l:List (List X))(i:Nat):List X:=zm (motive:=λ_=>Nat->List X) (λ_=>[]) (λx _ W t=>Hk (motive:=λ_=>List X) x (λm _=>W m) t) l i
def look{X:Type}(l:List (List (Option X)))(t:Nat):Option X:=amE (abT l (t/16)) (t%16)
def amF{X:Type}{x:X}:∀{l:List (Option X)}{i:Nat},amE l i=U x->l[i]?=U (U x)
 |[],_,h=>by cases h
 |y::_,0,h=>by simp only[A4];exact kh U h
 |_::l,i+1,h=>by rw[tA];exact amF (l:=l) h
def amG{X:Type}:∀(l:List (List X))(i:Nat),l[i]?=U (abT l i)\/abT l i=[]
 |[],_=>.inr rfl
 |_::_,0=>.inl rfl
 |_::l,i+1=>by rw[tA];exact amG l i
def Ij{W:Type}(X:Nat->W->Bool):Nat->List (Option W)->Bool
 |_,[]=>J
 |n,Z::r=>Ij X (n+1) r
 |n,U x::r=>X n x&&Ij X (n+1) r
def FF{X:Type}(W:Nat->X->Bool):Nat->List (List (Option X))->Bool
 |_,[]=>J
 |n,r::V=>Ij W n r&&FF W (n+16) V
def abU{W:Type}{V:Nat->W->Bool}:∀{r:List (Option W)}{n i:Nat}{x:W},Ij V n r=J->r[i]?=U (U x)->V (n+i) x=J
 |[],n,i,x,_,h=>by simp at h
 |Z::r,n,0,x,_,h=>by simp at h
 |Z::r,n,i+1,x,X,h=>by
  simp only[Ij] at X;have:=abU X (by simpa using h)
  rwa [show n+1+i=n+(i+1) from aa] at this
 |U y::r,n,0,x,X,h=>by simp[Ij] at X;simp at h;subst h;exact X.1
 |U y::r,n,i+1,x,X,h=>by
  simp only[Ij,aw] at X;have:=abU X.2 (by simpa using h)
  rwa [show n+1+i=n+(i+1) from aa] at this
def amH{W:Type}{R:Nat->W->Bool}:∀{l:List (List (Option W))}{n q i:Nat}{r:List (Option W)}{x:W},FF R n l=J->l[q]?=U r->r[i]?=U (U x)->R (n+16*q+i) x=J
 |[],n,q,i,r,x,_,h,_=>by simp at h
 |y::l,n,0,i,r,x,X,h,V=>by simp only[FF,aw] at X;simp at h;subst h;simpa using abU X.1 V
 |y::l,n,q+1,i,r,x,X,h,V=>by
  simp only[FF,aw] at X;have:=amH X.2 (by simpa using h) V
  rwa [show n+16+16*q+i=n+16*(q+1)+i from aa] at this
def amI{X:Type}{R:Nat->X->Bool}{l:List (List (Option X))}(h:FF R 0 l=J){x:X}(Q:look l y=U x):R y x=true:=by
 have W:=amF Q;rcases amG l (y/16) with V|V;have:=amH h V W
 rwa [iX,aiY] at this
 rw[V] at W;simp at W
def abV(P:Program)(l:ar)(g:FuncId):Option (Code×Nat×nV):=if l.contains g then(match P.funcs[g]? with
 |U X=>match X.body with
  |U c=>U (c,X.ntmps,X.results.toList)
  |none=>Z
 |none=>Z) else Z
def wB(P:Program)(g:Nat):Bool:=match P.funcs[g]? with
 |U X=>X.body.isSome&& !(X.name== "runtime.NumGoroutine")
 |none=>E
def wC{P:Program}(h:wB P y=J):∀X W,(callFunc y X).run P W=.ok (.enter y X) W:=by
 unfold wB at h;split at h;rename_i V R;simp only[aw,ik] at h;intro X W;have Q:V.name≠ "runtime.NumGoroutine":=by simpa using h.2
 obtain⟨c,O⟩:=ln.1 h.1;simp[callFunc,R,Q,O];cases h
def ayy(X:C4)(f i:Nat):Option FK:=match X.find? (λx=>x.1==f&&(x.2%1000==i&&decide (1000<=x.2))) with
 |U x=>if x.2/1000==1 then U .box else if x.2/1000<100 then U (.slot (x.2/1000-2) [0,1,2,3]) else if x.2/1000<200 then U (.slot (x.2/1000-102) [0,1,2,3,4]) else U (.cell ((x.2/1000-200)/20) ((x.2/1000-200)%20) [1,2,3,4,5,6,7,8,9])
 |none=>Z
def pN(P:Program)(kQ:List (List E4))(W:List (List rY))(V:nu)(R:ar)(loops:List (Nat×Nat×fH))(Q:A9)(lK:Bool:=E)(X:C4:=[]):bE:=
 {ty:=look kQ,gl:=V,inl:=abV P R,sig:=look W,loop:=λf i=>match loops.find? (λx=>x.1==f&&x.2.1==i) with
  |U x=>.inv x.2.2
  |none=>.avw,zp:=λf g=>(Q.find? λx=>x.1==f&&x.2.1==g).map (·.2.2),lK:=lK,Og:=λf i=>X.contains (f,i),frk:=λf i=>ayy X f i}
def PF{P:Program}{kQ:List (List E4)}{G:List (List rY)}{B:nu}{loops:List (Nat×Nat×fH)}{M:A9}{lK:Bool}{A:C4}{z:ar}{D:cg}{R:Ending->World->Prop}{Q:Exit->Act->World->Prop}
  (y:jg P (look kQ))(w:FF (λg _=>wB P g) 0 G=J)(v:x.all (wB P)=J)(u:P.follows .mixedOrders=J)(t:∀F W b o,e.heap.size<=b->R (.panicked F) W->R (.panicked F) (W.putObj b o))(s:∀X∈M,mP P (look kQ) X.1 X.2.1 X.2.2.1 X.2.2.2.1 X.2.2.2.2):jL ⟨P,look kQ,z,e,D,R,Q⟩ (pN P kQ G B x loops M lK A):=by
 refine⟨rfl,u,y,λf g V m l h=> ?_,λg N=> ?_,t,λg c k j h=> ?_⟩;simp only[pN] at h;cases O:M.find? (λX=>X.1==f&&X.2.1==g) with
 |none=>rw[O] at h;cases h
 |some X=>
  rw[O] at h;simp only[eh,cU] at h;have L:=SO O;simp only[aw,dE] at L;have:=s X (SF O);rw[L.1,L.2,h] at this;exact this
 rcases N with N|N;obtain⟨i,r⟩:=ln.1 N;exact wC (amI w r);obtain⟨X,H⟩:=ln.1 N;simp only[pN,abV] at H;split at H;rename_i q;exact wC (fO.1 v g (qj.1 q));cases H;simp only[pN,abV] at h;split at h;split at h;rename_i p O;split at h;rename_i d n;cases h;exact⟨p,O,n,rfl,rfl⟩;cases h;cases h;cases h
section
inductive dG:RV->RV->Prop where
 |sl (A A':Option Addr) (len cap cap':Nat) (rows aA:List (List RV)) (h1:Y rows=Y aA) (h2:∀(i:Nat)(row row':List RV),rows[i]?=U row->aA[i]?=U row'->Y row=Y row')
   (h3:∀(i j:Nat)(row row':List RV)(c c':RV),rows[i]?=U row->aA[i]?=U row'->row[j]?=U c->row'[j]?=U c'->dG c c'):dG (.mk (.slice A len cap) rows) (.mk (.slice A' len cap') aA)
 |val (v:Value) (rows:List (List RV)) (h:∀a l c,v≠ .slice a l c):dG (.mk v rows) (.mk v rows)
def Lz:XV->XV->Prop
 |.i n,.i m=>n=m
 |.b x,.b y=>x=y
 |.r v,.r w=>dG v w
 |_,_=>False
def BJ:bq->bq->Prop
 |[],[]=>True
 |x::X,y::W=>Lz x y/\BJ X W
 |_,_=>False
structure lz(O O':ai):Prop where
 i:O.i=O'.i
 b:O.b=O'.b
 len:Y O.r=Y O'.r
 r:∀(k:Nat)(v v':RV),O.r[k]?=U v->O'.r[k]?=U v'->dG v v'
def dG.refl:∀(v:RV),dG v v
 |.mk v V=>by
  by_cases h:∃a l c,v=.slice a l c;obtain⟨a,l,c,rfl⟩:=h;refine dG.sl a a l c c V V rfl (λi P O W X=>by rw[W] at X;cases X;rfl) (λi j P O x M W X R Q=> ?_);rw[W] at X;cases X;rw[R] at Q;cases Q;exact dG.refl x;exact dG.val v V (λa l c N=>h ⟨a,l,c,N⟩)
termination_by v=>SizeOf.sizeOf v
decreasing_by
 have L:=aIq (jI W);have H:=aIq (jI R);simp only[RV.mk.sizeOf_spec];omega
def dG.default:dG default default:=dG.refl _
def lz.rv{O X:ai}(h:lz O X)(k:Nat):dG (O.rv k) (X.rv k):=by
 unfold ai.rv;simp only[cz];cases W:O.r[k]? with
 |none=>
  have:X.r[k]?=none:=by rw[CV] at W⊢;have:=h.len;omega
  rw[this];exact dG.default
 |some v=>
  cases V:X.r[k]? with
  |none=>rw[CV] at V;have:=(ck.1 W).1;have:=h.len;omega
  |some R=>exact h.r k v R W V
def dG.aU{v N:RV}(h:dG v N)(i:Int)(j:Nat):dG (Y.aU v.ac i j) (Y.aU N.ac i j):=by
 cases h with
 |sl A G F D B R aA z L H=>
  simp only[Y.aU,RV.nD,cz];cases W:R[i.toNat]? with
  |none=>
   have:aA[i.toNat]?=none:=by rw[CV] at W⊢;omega
   rw[this];exact dG.default
  |some V=>
   obtain⟨X,Q⟩:∃X,aA[i.toNat]?=U X:=by
    have:i.toNat<Y R:=(ck.1 W).1;exact⟨aA[i.toNat],cS aa⟩
   rw[Q];simp only[pu];have y:=L _ V X W Q;cases P:V[j]? with
   |none=>
    have:X[j]?=none:=by rw[CV] at P⊢;omega
    rw[this];exact dG.default
   |some c=>
    obtain⟨O,M⟩:∃O,X[j]?=U O:=by
     have:j<Y V:=(ck.1 P).1;exact⟨X[j],cS aa⟩
    rw[M];exact H _ j V X c O W Q P M
 |val v R x=>exact dG.refl _
def dG.bn{v X:RV}(h:dG v X):Y.bn v.val=Y.bn X.val/\Y.gH v.val=Y.gH X.val/\lenOf v.val=lenOf X.val/\(∀i,kL v.val i=kL X.val i)/\(∀w,tM v.val w=tM X.val w)/\∀w,tM w v.val=tM w X.val:=by
 cases h with
 |sl A V R Q P W aA=>exact⟨rfl,rfl,rfl,λ_=>rfl,λ_=>rfl,λw=>by cases w<;>rfl⟩
 |val v W O=>exact⟨rfl,rfl,rfl,λ_=>rfl,λ_=>rfl,λ_=>rfl⟩
def dG.cG{v M:RV}(h:dG v M)(k:RK):dG (Y.cG k v) (Y.cG k M):=by
 cases h with
 |sl A X W V R Q aA P O N=>
  cases k with
  |sl e=>exact dG.sl A X W V R Q aA P O N
  |str=>exact dG.refl _
  |ae=>exact dG.sl A X W V R [] [] rfl (λi L H q=>by simp at q) (λi j L H c G q=>by simp at q)
  |own e=>exact dG.sl A X W V R Q aA P O N
  |am=>exact dG.sl A X W V R Q aA P O N
  |mr F=>exact dG.sl A X W V R Q aA P O N
 |val v Q D=>exact dG.refl _
structure fT(rows aA:au):Prop where
 len:Y rows=Y aA
 row:∀(i:Nat)(row row':aC),rows[i]?=U row->aA[i]?=U row'->Y row=Y row'
 cell:∀(i j:Nat)(row row':aC)(c c':RV),rows[i]?=U row->aA[i]?=U row'->row[j]?=U c->row'[j]?=U c'->dG c c'
def dG.LA{v R:RV}(h:dG v R):fT v.ac R.ac:=by
 cases h with
 |sl A M L H G P aA W X V=>exact⟨W,X,V⟩
 |val v P F=>exact⟨rfl,λi O N W X=>by rw[W] at X;cases X;rfl,λi j O N c D W X V Q=>by rw[W] at X;cases X;rw[V] at Q;cases Q;exact dG.refl _⟩
def oF(X W:aC):Prop:=Y X=Y W/\∀(j:Nat)(c V:RV),X[j]?=U c->W[j]?=U V->dG c V
def fT.cons{r X:aC}{O N:au}(h:fT (r::O) (X::N)):oF r X/\fT O N:=
 ⟨⟨h.row 0 r X rfl rfl,λj c W=>h.cell 0 j r X c W rfl rfl⟩,by simpa using h.len,λi V R Q P=>h.row (i+1) V R (by simpa using Q) (by simpa using P),λi j V R c W Q P=>h.cell (i+1) j V R c W (by simpa using Q) (by simpa using P)⟩
def fT.FG{r Q:aC}{P O:au}(h:oF r Q)(k:fT P O):fT (r::P) (Q::O):=by
 refine⟨by simp[k.len],λi V R X W=> ?_,λi j V R c N X W=> ?_⟩;cases i with
 |zero=>simp at X W;subst X W;exact h.1
 |succ i=>exact k.row i V R (by simpa using X) (by simpa using W)
 cases i with
 |zero=>simp at X W;subst X W;exact h.2 j c N
 |succ i=>exact k.cell i j V R c N (by simpa using X) (by simpa using W)
def oF.getD{W X:aC}(h:oF W X)(j:Nat):dG (W.getD j Inhabited.default) (X.getD j Inhabited.default):=by
 simp only[cz];cases V:W[j]? with
 |none=>
  have:X[j]?=none:=by rw[CV] at V⊢;have:=h.1;omega
  rw[this];exact dG.refl _
 |some c=>
  obtain⟨R,Q⟩:∃R,X[j]?=U R:=by
   have:j<Y W:=(ck.1 V).1;exact⟨X[j]'(by have:=h.1;omega),cS _⟩
  rw[Q];exact h.2 j c R V Q
def oF.ints{W X:aC}(h:oF W X)(n:Nat):(W.take n).map (λc=>Y.bn c.val)=(X.take n).map λc=>Y.bn c.val:=by
 apply kG;intro j;simp only[dW,nj];split;cases V:W[j]? with
 |none=>
  have:X[j]?=none:=by rw[CV] at V⊢;have:=h.1;omega
  rw[this]
 |some c=>
  obtain⟨R,Q⟩:∃R,X[j]?=U R:=by
   have:j<Y W:=(ck.1 V).1;exact⟨X[j]'(by have:=h.1;omega),cS _⟩
  rw[Q];simp only[eh,(h.2 j c R V Q).bn.1]
 rfl
def oF.kM{X W:aC}(h:oF X W)(n:Nat)(V:bz):Y.kM n V X=Y.kM n V W:=by
 simp only[Y.kM,h.ints n]
def UF{n:Nat}{ks:bz}:∀{X aA:au},fT X aA->(iR n ks X=Z/\iR n ks aA=Z)\/∃W V,iR n ks X=U W/\iR n ks aA=U V/\oF W V
 |[],[],_=>.inl ⟨rfl,rfl⟩
 |[],_::_,h=>by have:=h.len;simp at this
 |_::_,[],h=>by have:=h.len;simp at this
 |r::O,Q::N,h=>by
  obtain⟨R,P⟩:=h.cons;simp only[iR,J2,<-R.kM n ks];cases Y.kM n ks r with
  |true=>exact .inr ⟨r,Q,rfl,rfl,R⟩
  |false=>exact UF P
def amJ{n:Nat}{X W:aC}(h:oF X W):∀{V aA:au},fT V aA->fT (fZ n X V) (fZ n W aA)
 |[],[],k=>fT.FG h k
 |[],_::_,k=>by have:=k.len;simp at this
 |_::_,[],k=>by have:=k.len;simp at this
 |r::P,O::N,k=>by
  obtain⟨R,Q⟩:=k.cons;simp only[fZ,h.ints n,<-R.kM n];split;exact fT.FG h Q;exact fT.FG R (amJ h Q)
mutual
def K.dI{O X:ai}(h:lz O X):∀e:K,e.ab O=e.ab X
 |.c n=>rfl
 |.v k=>by simp only[K.ab,h.i]
 |.bin o k a b=>by simp only[K.ab,K.dI h a,K.dI h b]
 |.conv k a=>by simp only[K.ab,K.dI h a]
 |.len r=>by simp only[K.ab];exact(RE.dI h r).bn.2.2.1
 |.mm m a b=>by simp only[K.ab,K.dI h a,K.dI h b]
 |.eo b x y=>by simp only[K.ab,BE.dI h b,K.dI h x,K.dI h y]
 |.cell r i j=>by simp only[K.ab,K.dI h i];exact((RE.dI h r).aU _ j).bn.1
 |.nW r i=>by simp only[K.ab,K.dI h i];exact(RE.dI h r).bn.2.2.2.1 _
 |.look r n a b c j=>by
  simp only[K.ab,K.dI h a,K.dI h b,K.dI h c];rcases UF (n:=n) (ks:=[a.ab X,b.ab X,c.ab X]) (RE.dI h r).LA with⟨W,V⟩|⟨Q,P,W,V,R⟩;rw[W,V];rw[W,V];exact(R.getD j).bn.1
def BE.dI{O X:ai}(h:lz O X):∀e:BE,e.ab O=e.ab X
 |.c n=>rfl
 |.v k=>by simp only[BE.ab,h.b]
 |.cmp o a b=>by simp only[BE.ab,K.dI h a,K.dI h b]
 |.not a=>by simp only[BE.ab,BE.dI h a]
 |.and a b=>by simp only[BE.ab,BE.dI h a,BE.dI h b]
 |.beq a b=>by simp only[BE.ab,BE.dI h a,BE.dI h b]
 |.eo b x y=>by simp only[BE.ab,BE.dI h b,BE.dI h x,BE.dI h y]
 |.cell r i j=>by simp only[BE.ab,K.dI h i];exact((RE.dI h r).aU _ j).bn.2.1
 |.seq a b=>by simp only[BE.ab];rw[(RE.dI h a).bn.2.2.2.2.1,(RE.dI h b).bn.2.2.2.2.2]
 |.look r n a b c j=>by
  simp only[BE.ab,K.dI h a,K.dI h b,K.dI h c];rcases UF (n:=n) (ks:=[a.ab X,b.ab X,c.ab X]) (RE.dI h r).LA with⟨W,V⟩|⟨Q,P,W,V,R⟩;rw[W,V];rw[W,V];exact(R.getD j).bn.2.1
 |.has r n a b c=>by
  simp only[BE.ab,K.dI h a,K.dI h b,K.dI h c];rcases UF (n:=n) (ks:=[a.ab X,b.ab X,c.ab X]) (RE.dI h r).LA with⟨W,V⟩|⟨Q,P,W,V,R⟩;rw[W,V];rw[W,V];rfl
def RE.dI{O X:ai}(h:lz O X):∀r:RE,dG (r.rv O) (r.rv X)
 |.v k=>by simp only[RE.rv];exact h.rv k
 |.cell r i j k=>by simp only[RE.rv,K.dI h i];exact((RE.dI h r).aU _ j).cG k
 |.k v=>by simp only[RE.rv];exact dG.refl _
end
def C.ayz{X:ai}(h:lz N X)(v:C):Lz (v.xv N) (v.xv X):=by
 cases v<;>simp only[C.xv,Lz];exact K.dI h _;exact BE.dI h _;exact RE.dI h _
def C.ayA{X:ai}(h:lz N X)(v:C):dG (v.cd N) (v.cd X):=by
 cases v<;>simp only[C.cd];rw[K.dI h];exact dG.refl _;rw[BE.dI h];exact dG.refl _;exact RE.dI h _
 all_goals exact dG.refl _
def fT.of{R aA:au}(O:Y R=Y aA)(h:∀(i:Nat)(X W:aC),R[i]?=U X->aA[i]?=U W->Y X=Y W/\∀(j:Nat)(c V:RV),X[j]?=U c->W[j]?=U V->dG c V):fT R aA:=
 ⟨O,λi X W Q P=>(h i X W Q P).1,λi j X W c V Q P=>(h i X W Q P).2 j c V⟩
def UG{V:ai}(h:lz N V)(l:aq):(l.map (C.cd N)).length=(l.map (C.cd V)).length/\∀(j:Nat)(c R:RV),(l.map (C.cd N))[j]?=U c->(l.map (C.cd V))[j]?=U R->dG c R:=by
 refine⟨av,λj c R X W=> ?_⟩;rw[dW] at X W;cases Q:l[j]? with
 |none=>rw[Q] at X;cases X
 |some v=>
  rw[Q] at X W;simp only[eh,cU] at X W;rw[<-X,<-W];exact C.ayA h v
def amK:∀{O N R Q:aC}{P:Nat},Y O=Y N->(∀(j:Nat)(c X:RV),O[j]?=U c->N[j]?=U X->dG c X)->Y R=Y Q->(∀(j:Nat)(c X:RV),R[j]?=U c->Q[j]?=U X->dG c X)->
  (gZ R P O).length=(gZ Q P N).length/\∀(j:Nat)(c X:RV),(gZ R P O)[j]?=U c->(gZ Q P N)[j]?=U X->dG c X
 |[],[],R,Q,P,_,_,M,L=>⟨M,L⟩
 |[],_::_,_,_,_,h,_,_,_=>by simp at h
 |_::_,[],_,_,_,h,_,_,_=>by simp at h
 |v::O,D::N,R,Q,P,F,G,M,L=>by
  simp only[gZ];refine amK (by simpa using F) (λj c X V W=>G (j+1) c X (by simpa using V) (by simpa using W)) (by simp[M]) (λj c X V W=> ?_);rw[v6] at V W;split at V;rename_i H;rw[aJ H] at W;split at V;split at W;cases V;cases W;exact G 0 _ _ rfl rfl;cases W;cases V;rename_i H;rw[aQ H] at W;exact L j c X V W
def LE.dI{O D:ai}(h:lz O D):∀x:LE,fT (x.ac O) (x.ac D)
 |.ah r=>(RE.dI h r).LA
 |.lit l=>by
  simp only[LE.ac];refine fT.of av (λi R Q X W=> ?_);rw[dW] at X W;cases B:l[i]? with
  |none=>rw[B] at X;cases X
  |some v=>
   rw[B] at X W;simp only[eh,cU] at X W;rw[<-X,<-W];exact UG h v
 |.kJ a b=>by
  simp only[LE.ac];have V:=LE.dI h a;have H:=LE.dI h b;refine fT.of (by simp[V.len,H.len]) (λi R Q X W=> ?_);by_cases L:i<(a.ac O).length;rw[dH L] at X;rw[dH (by rw[<-V.len];exact L)] at W;exact⟨V.row i R Q X W,λj c P=>V.cell i j R Q c P X W⟩;rw[iE aa] at X;rw[iE (by rw[<-V.len];omega),<-V.len] at W;exact⟨H.row _ R Q X W,λj c P=>H.cell _ j R Q c P X W⟩
 |.wb n R=>by
  simp only[LE.ac,K.dI h n];refine fT.of av (λi r u X W=> ?_);rw[G4] at X W;split at X;rename_i L;rw[aJ L] at W;cases X;cases W;exact UG h R;cases X
 |.set a i t G=>by
  simp only[LE.ac,K.dI h i];have V:=LE.dI h a;have A:=UG h G;refine fT.of (by simp[V.len]) (λs R Q X W=> ?_);rcases K2 X with⟨rfl,z,N,rfl⟩|⟨F,N⟩;rcases K2 W with⟨_,y,M,rfl⟩|⟨F,_⟩;exact amK A.1 A.2 (V.row _ z y N M) (λj c P=>V.cell _ j z y c P N M);exact aZ rfl F;rcases K2 W with⟨rfl,_⟩|⟨_,M⟩;exact aZ rfl F;exact⟨V.row _ R Q N M,λj c P=>V.cell _ j R Q c P N M⟩
 |.sub a w L=>by
  simp only[LE.ac,K.dI h w,K.dI h L];have V:=LE.dI h a;refine fT.of (by simp[V.len]) (λi R Q X W=> ?_);have N:=(O7 X).1;have M:=(O7 W).1;exact⟨V.row _ R Q N M,λj c P=>V.cell _ j R Q c P N M⟩
 |.ins a n G=>by
  simp only[LE.ac];exact amJ (UG h G) (LE.dI h a)
def amL{W:ai}(h:lz N W)(x:LE){A:oz}:dG (gv x N) (.mk (.slice A (x.ac W).length y) (x.ac W)):=by
 have X:=LE.dI h x;unfold gv;rw[X.len];exact dG.sl _ _ _ _ _ _ _ X.len X.row X.cell
def lz.add{O R:ai}(h:lz O R){x y:XV}(V:Lz x y):lz (O.add x) (R.add y):=by
 cases x<;>cases y<;>simp only[Lz] at V;subst V;exact⟨by simp[ai.add,h.i],h.b,h.len,h.r⟩;subst V;exact⟨h.i,by simp[ai.add,h.b],h.len,h.r⟩;refine⟨h.i,h.b,by simp[ai.add,h.len],λk v P X W=> ?_⟩;simp only[ai.add] at X W;by_cases Q:k<Y O.r;rw[dH Q] at X;rw[dH (by rw[<-h.len];exact Q)] at W;exact h.r k v P X W;have N:k=Y O.r:=by
  have:=(ck.1 X).1;simp at this;omega
 subst N;simp at X;rw[h.len] at W;simp at W;subst X W;exact V
def lz.ext:∀{W V:bq}{O R:ai},lz O R->BJ W V->lz (O.ext W) (R.ext V)
 |[],[],_,_,h,_=>h
 |[],_::_,_,_,_,X=>X.elim
 |_::_,[],_,_,_,X=>X.elim
 |x::W,y::V,_,_,h,X=>(h.add X.1).ext X.2
inductive bo where
 |ret (xs:List XV)
 |bI (v:Value)
abbrev kE:=Option bo
abbrev nG:=FuncId->bq->kE
def abW:LK->XV->Bool
 |.int _,.i _=>J
 |.bool,.b _=>J
 |.ah _,.r _=>J
 |_,_=>E
def ko:aS->bq->Bool
 |[],[]=>J
 |k::X,x::W=>abW k x&&ko X W
 |_,_=>E
def FH(X:Ty)(W:bv):LK->C->Bool
 |.int k,.int V _=>decide (k=V)
 |.bool,.bool _=>J
 |.ah e,.ah r=>match e with
  |.mr R=>r.oT X ⟨[],[],0,0,W,0,0,[]⟩ R
  |e=>r.fits X ⟨[],[],0,0,W,0,0,[]⟩ e.rd
 |_,_=>E
def kR(X:Ty)(W:bv):aS->aq->Bool
 |[],[]=>J
 |k::V,v::R=>FH X W k v&&kR X W V R
 |_,_=>E
def ku(W:Ty):jU->aq->Hl
 |[],[]=>U []
 |t::V,v::R=>match W t,ku W V R with
  |U X,U r=>if X.d.isAgg then(match v with
    |.agg l=>if Y l==Y X.aj then U (l++r) else Z
    |_=>Z) else(if Y X.aj==1 then U (v::r) else Z)
  |_,_=>Z
 |_,_=>Z
def zT(n:Nat):C->aq
 |.bM l=>if n==1 then[.bM l] else l
 |v=>[v]
def Ik(O:ai):C->Option Value
 |.gX t (.int k e)=>U (.iface t (.int k (e.ab O)))
 |_=>Z
structure Fr where
 ax:Nat
 ks:aS
 t:T
 O:ai
 rs:bv
def Il(ax:Nat):List Fr->Option (Fr×List Fr)
 |[]=>Z
 |x::X=>if x.ax=ax then U (x,X) else Il ax X
def jM:aS->bv
 |[]=>[]
 |.ah e::X=>e::jM X
 |_::X=>jM X
def su:Nat->Nat->Nat->aS->aq->Bool
 |_,_,_,[],[]=>J
 |a,b,c,.int k::X,.int W (.v n)::l=>decide (k=W)&&n==a&&su (a+1) b c X l
 |a,b,c,.bool::X,.bool (.v n)::l=>n==b&&su a (b+1) c X l
 |a,b,c,.ah _::X,.ah (.v n)::l=>n==c&&su a b (c+1) X l
 |_,_,_,_,_=>E
def UH:RK->RK->Bool
 |_,.am=>J
 |.own t,.sl X=>decide (t=X)
 |.sl t,.sl X=>decide (t=X)
 |.str,.str=>J
 |.ae,.ae=>J
 |.mr a,.mr b=>decide (a=b)
 |_,_=>E
def DJ:bv->bv->Bool
 |[],[]=>J
 |x::X,y::W=>UH x y&&DJ X W
 |_,_=>E
def amM:RK->RK->Bool
 |.own t,.own X=>decide (t=X)
 |x,y=>UH x y
def DK:bv->bv->Bool
 |[],[]=>J
 |x::X,y::W=>amM x y&&DK X W
 |_,_=>E
def abX(X:Ty)(W:jU)(v:C)(R:bv)(O:ai):kE:=match ku X W (zT (Y W) v),iG X W with
 |U l,U V=>if kR X R V l&&qu V then U (.ret (l.map (C.xv O))) else Z
 |_,_=>Z
def abY(X:Ty)(P N:FuncId->rY)(f:FuncId)(M:aq)(L:bv)(V:aS)(jz:C)(O:ai):Option bq:=match P f,N f with
 |U R,U W=>match ku X R M,iG X R,iG X W,ku X W (zT (Y W) jz) with
  |U l,U Q,U H,U r=>if kR X L Q l&&qu Q&&decide (H=V)&&su (Y O.i) (Y O.b) (Y O.r) V r then U (l.map (C.xv O)) else Z
  |_,_,_,_=>Z
 |_,_=>Z
def abZ(X:bv)(r:RE)(e:TypeId):Bool:=match r with
 |.v k=>decide (X[k]?=U (.own e))
 |.k (.slice Z 0 0)=>J
 |_=>E
def ab0:RK->Bool
 |.mr _=>J
 |_=>E
def oF.key{x y:aC}(h:oF x y)(c:Nat):aI c x=aI c y:=(h.getD c).bn.1
def amN{d:Bool}{x W y V:aC}(R:oF x W)(Q:oF y V):∀X:ar,jK d X x y=jK d X W V
 |[]=>rfl
 |c::X=>by simp only[jK,R.key,Q.key,amN R Q X]
def ab1{X:bp}{x W y V:aC}(R:oF x W)(Q:oF y V):X.lt x y=X.lt W V:=by
 cases X with
 |lex P d=>exact amN R Q P
 |ratio n d=>simp only[bp.lt,R.key,Q.key]
 |dw k o O=>rfl
def ayB{X:bp}{x W:aC}(V:oF x W):X.ok x=X.ok W:=by
 cases X with
 |lex R d=>rfl
 |ratio n d=>simp only[bp.ok,V.key]
 |dw k o Q=>rfl
def fT.UI{r:au}(h:fT [] r):r=[]:=by cases r with
 |nil=>rfl
 |cons x X=>have:=h.len;simp at this
def amO{V:bp}{x R:aC}(X:oF x R):∀{l W:au},fT l W->fT (eC V.lt x l) (eC V.lt R W)
 |[],W,h=>by have P:=h.UI;subst P;exact fT.FG X h
 |y::l,[],h=>by have:=h.len;simp at this
 |y::l,N::W,h=>by
  obtain⟨Q,O⟩:=h.cons;simp only[eC,ab1 X Q];split;exact fT.FG X h;exact fT.FG Q (amO X O)
def amP{R:bp}:∀{l W:au}{acc X:au},fT l W->fT acc X->fT (l.foldl (λacc x=>eC R.lt x acc) acc) (W.foldl (λacc x=>eC R.lt x acc) X)
 |[],W,acc,X,h,V=>by rw[h.UI];exact V
 |y::l,[],acc,X,h,V=>by have:=h.len;simp at this
 |y::l,O::W,acc,X,h,V=>by
  obtain⟨Q,P⟩:=h.cons;simp only[EZ];exact amP P (amO Q V)
def ab2{f g:aC->Bool}:∀{l X:au},(∀x W,oF x W->f x=g W)->fT l X->l.all f=X.all g
 |[],X,_,h=>by rw[h.UI];rfl
 |y::l,[],_,h=>by have:=h.len;simp at this
 |y::l,P::X,V,h=>by
  obtain⟨R,Q⟩:=h.cons;simp only[N7,V _ _ R,ab2 V Q]
def amQ{X:bp}:∀{l W:au},fT l W->xX X.lt l=xX X.lt W
 |[],W,h=>by rw[h.UI]
 |y::l,[],h=>by have:=h.len;simp at this
 |y::l,V::W,h=>by
  obtain⟨R,Q⟩:=h.cons;have O:(l.all λz=>X.lt y z||X.lt z y)=W.all λz=>X.lt V z||X.lt z V:=ab2 (λx N P=>by rw[ab1 R P,ab1 P R]) Q
  simp only[xX,amQ Q,O]
def amR{sp:bp}{V:Bool}{l R r:au}(h:fT l R)(X:iZ sp V l=U r):∃Q,iZ sp V R=U Q/\fT r Q:=by
 cases sp with
 |dw k o L=>simp[iZ] at X
 |_=>
  simp only[iZ] at X⊢;rw[ab2 (λx H P=>ayB P) h,amQ h,h.len] at X;split at X;rename_i O;cases X;rw[aJ O];exact⟨_,rfl,amP h ⟨rfl,λi N M W=>by simp at W,λi j N M c G W=>by simp at W⟩⟩;cases X
def fT.getD{l X:au}(h:fT l X)(i:Nat):oF (l.getD i []) (X.getD i []):=by
 simp only[cz];cases V:l[i]? with
 |none=>
  have:X[i]?=none:=by rw[CV] at V⊢;have:=h.len;omega
  rw[this];exact⟨rfl,λj c W R=>by simp at R⟩
 |some c=>
  obtain⟨W,Q⟩:∃W,X[i]?=U W:=by
   have:i<Y l:=(ck.1 V).1;exact⟨X[i]'(by have:=h.len;omega),cS _⟩
  rw[Q];exact⟨h.row i c W V Q,λj x P R O=>h.cell i j c W x P V Q R O⟩
def fT.set{x X:aC}(W:oF x X):∀{l V:au}(_:fT l V)(i:Nat),fT (l.set i x) (V.set i X)
 |[],[],h,_=>h
 |[],_::_,h,_=>by have:=h.len;simp at this
 |_::_,[],h,_=>by have:=h.len;simp at this
 |r::R,Q::P,h,0=>fT.FG W h.cons.2
 |r::R,Q::P,h,i+1=>fT.FG h.cons.1 (fT.set W h.cons.2 i)
def ab3{l X:au}(h:fT l X):∀(n:Nat)(i:Int),fT (rj n i l) (rj n i X)
 |0,_=>h
 |n+1,i=>by
  simp only[rj,<-(h.getD i.toNat).key 0];split;exact h;exact fT.set ((ab3 h n _).getD _) (ab3 h n _) _
def ayC{l X:au}(h:fT l X):md l=md X:=by
 have e:(λk=>decide (0<=aI 0 (l.getD k []))&&decide (aI 0 (l.getD k [])<=k))=λk:Nat=>decide (0<=aI 0 (X.getD k []))&&decide (aI 0 (X.getD k [])<=k):=by
  funext k;rw[(h.getD k).key 0]
 unfold md;rw[e,h.len]
def ayD{R:ai}(Q:lz N R)(W:bp)(V:Bool)(l:au):n8 N W V l=n8 R W V l:=by
 cases W with
 |lex P d=>rfl
 |ratio n d=>rfl
 |dw k o X=>
  cases V with
  |false=>rfl
  |true=>
   cases X with
   |nil=>rfl
   |cons i X=>
    cases X with
    |nil=>simp only[n8,K.dI Q i]
    |cons j X=>rfl
def amS{Q:ai}(L:lz N Q){V:bp}{R:Bool}{l P r:au}(h:fT l P)(X:n8 N V R l=U r):∃M,n8 Q V R P=U M/\fT r M:=by
 cases V with
 |lex H d=>exact amR (sp:=.lex H d) h X
 |ratio n d=>exact amR (sp:=.ratio n d) h X
 |dw k o W=>
  cases R with
  |false=>simp[n8] at X
  |true=>
   cases W with
   |nil=>simp[n8] at X
   |cons i W=>
    cases W with
    |nil=>
     simp only[n8,wn] at X⊢;rw[h.len,ayC h,K.dI L i] at X;split at X;rename_i G;cases X;rw[aJ G];exact⟨_,rfl,ab3 h _ _⟩;cases X
    |cons j W=>simp[n8] at X
def dG.eE{a b:RV}(h:dG a b){L:ai}(H:lz N L){W:bp}{V:Bool}{R Q:au}(X:n8 N W V a.ac=U R)(P:n8 L W V b.ac=U Q):dG (.mk a.val R) (.mk b.val Q):=by
 obtain⟨x,G,M⟩:=amS H h.LA X;rw[P] at G;cases G;cases h with
 |sl A F D B z y aA w u t=>exact dG.sl A F D B z R Q M.len M.row M.cell
 |val v y s=>
  rw[RV.nD] at X P;rw[ayD H W V,P] at X;cases X;exact dG.refl _
def ayE{R:Ty}{X:RV}{V:au}(W:ee R (.own h) (.mk X.val V) y)(Q:∀x∈V,x∈X.ac):ee R (.own h) X y:=by
 obtain⟨v,P⟩:=X;simp only[RV.nC,RV.nD] at W Q;cases W with
 |own h X y W=>
  refine ee.own h _ y ?_;generalize O:RV.mk v V=X at W;cases W with
  |here h a N M aA=>cases O;exact ee.here h a N M P
  |deep h w aA i j L c z k y H G F D=>
   cases O;obtain⟨B,A⟩:=tB (Q _ (jI H));exact ee.deep h v P B j L c z k y A G F D
mutual
def UJ:RV->RV->Bool
 |.mk v X,.mk W aA=>(match v,W with
  |.int k a,.int V b=>decide (k=V)&&a==b
  |.bool a,.bool b=>a==b
  |.string a,.string b=>decide (a=b)
  |.slice Z a b,.slice Z c d=>a==c&&b==d
  |_,_=>E)&&LB X aA
def LB:au->au->Bool
 |[],[]=>J
 |r::X,W::V=>LD r W&&LB X V
 |_,_=>E
def LD:aC->aC->Bool
 |[],[]=>J
 |c::X,W::V=>UJ c W&&LD X V
 |_,_=>E
end
def PG:XV->XV->Bool
 |.i a,.i b=>a==b
 |.b a,.b b=>a==b
 |.r a,.r b=>UJ a b
 |_,_=>E
def PH:bq->bq->Bool
 |[],[]=>J
 |x::X,y::W=>PG x y&&PH X W
 |_,_=>E
def amT:Value->Value->Bool
 |.iface t (.int k a),.iface X (.int W b)=>t==X&&decide (k=W)&&a==b
 |_,_=>E
def UK:bo->bo->Bool
 |.ret a,.ret b=>PH a b
 |.bI a,.bI b=>amT a b
 |_,_=>E
mutual
def amU:∀(a b:RV),UJ a b=J->a=b
 |.mk v X,.mk R aA,h=>by
  simp only[UJ,aw] at h;have W:=amV X aA h.2;subst W;congr 1;have V:=h.1;split at V<;>simp_all
def amV:∀(a b:au),LB a b=J->a=b
 |[],[],_=>rfl
 |[],_::_,h=>by simp[LB] at h
 |_::_,[],h=>by simp[LB] at h
 |r::X,W::V,h=>by
  simp only[LB,aw] at h;rw[amW r W h.1,amV X V h.2]
def amW:∀(a b:aC),LD a b=J->a=b
 |[],[],_=>rfl
 |[],_::_,h=>by simp[LD] at h
 |_::_,[],h=>by simp[LD] at h
 |r::X,W::V,h=>by
  simp only[LD,aw] at h;rw[amU r W h.1,amW X V h.2]
end
def ayF:∀(a b:XV),PG a b=J->a=b
 |.i a,b,h=>by cases b<;>simp[PG] at h;rw[h]
 |.b a,b,h=>by cases b<;>simp[PG] at h;rw[h]
 |.r a,b,h=>by cases b<;>simp[PG] at h;rw[amU _ _ h]
def amX:∀(a b:bq),PH a b=J->a=b
 |[],b,h=>by cases b<;>simp[PH] at h;rfl
 |x::X,b,h=>by cases b<;>simp[PH] at h;rw[ayF _ _ h.1,amX _ _ h.2]
def ayG:∀(a b:bo),UK a b=J->a=b
 |.ret a,b,h=>by cases b<;>simp[UK] at h;rw[amX _ _ h]
 |.bI a,b,h=>by
  cases b<;>simp[UK] at h;rename_i v;unfold amT at h;split at h;simp only[aw,dE,cm] at h;obtain⟨⟨rfl,rfl⟩,rfl⟩:=h;rfl;cases h
open Classical in
def DL(a b:bo):Bool:=UK a b||decide (a=b)
def UL(o:bo):DL o o=true:=by simp[DL]
def ayH(a b:bo)(h:DL a b=J):a=b:=by
 simp only[DL,jy,cm] at h;exact h.elim (ayG a b) id
def BK:kE->kE->kE
 |U a,U b=>if DL a b then U a else Z
 |_,_=>Z
def uX:List kE->kE
 |[]=>Z
 |[o]=>o
 |o::X=>BK o (uX X)
def UM{a b:kE}{o:bo}(h:BK a b=U o):a=U o/\b=U o:=by
 unfold BK at h;split at h;split at h;rename_i x y X;cases h;rw[ayH _ _ X];exact⟨rfl,rfl⟩;cases h;cases h
def UN:∀{l:List kE}{o:bo},uX l=U o->∀x∈l,x=U o
 |[],o,h=>by simp[uX] at h
 |[x],o,h=>by simp only[uX] at h;intro y W;simp at W;rw[W];exact h
 |x::y::r,o,h=>by
  simp only[uX] at h;obtain⟨V,R⟩:=UM h;intro z X;rcases dP.1 X with rfl|X;exact V;exact UN (l:=y::r) R z X
def amY{a b X W:kE}{o:bo}(h:BK a b=U o)(Q:a=U o->X=U o)(P:b=U o->W=U o):BK X W=U o:=by
 obtain⟨V,R⟩:=UM h;rw[V,R] at h;rw[Q V,P R];exact h
def amZ{X:Type}{l:List X}{f g:X->kE}{o:bo}(h:uX (l.map f)=U o)(V:∀x∈l,f x=U o->g x=U o):uX (l.map g)=U o:=by
 rw[<-h];congr 1;refine jT λx W=> ?_
 have:=UN h (f x) (iq.2 ⟨x,W,rfl⟩);rw[this,V x W this]
def yg(m:K)(g h:BE)(O:ai):List (Option Int):=(((fw (m.ab O).toNat).map λ(j:Nat)=>(j:Int)).filter λj=>g.ab (O.add (.i j))).map U++(if h.ab O then[Z] else[])
def ayI{m:K}{g h:BE}{j:Int}(W:0<=j)(V:j<m.ab N)(X:g.ab (N.add (.i j))=J):U j∈yg m g h N:=by
 simp only[yg,eV,iq,qm,xI];exact .inl ⟨j,⟨⟨j.toNat,aa,aa⟩,X⟩,rfl⟩
def ayJ{m:K}{g h:BE}(X:h.ab N=J):Z∈yg m g h N:=by
 simp[yg,X]
def run(V:Ty)(R Q:FuncId->rY)(bA:nG)(P:jU):Nat->T->ai->bv->List Fr->kE
 |0,_,_,_,_=>Z
 |n+1,.ret v _ N,O,X,_=>if DJ X N then abX V P v N O else Z
 |n+1,.bI v,O,_,_=>(Ik O v).map .bI
 |n+1,.aT b t f,O,X,W=>if b.ab O then run V R Q bA P n t O X W else run V R Q bA P n f O X W
 |n+1,.be b t,O,X,W=>if b.ab O then run V R Q bA P n t O X W else Z
 |n+1,.call f F _ N M jz t,O,X,W=>if DJ X N then(match abY V R Q f F N M jz O with
   |U D=>match bA f D with
    |U (.ret H)=>if ko M H then run V R Q bA P n t (O.ext H) (X++jM M) W else Z
    |U (.bI v)=>U (.bI v)
    |none=>Z
   |none=>Z) else Z
 |n+1,.loop ax M G t,O,X,W=>if kR V X M G then run V R Q bA P n t (O.ext (G.map (C.xv O))) (X++jM M) (⟨ax,M,t,O,X++jM M⟩::W) else Z
 |n+1,.back ax x,O,X,W=>match Il ax W with
  |U (L,B)=>if kR V X L.ks x then run V R Q bA P n L.t (L.O.ext (x.map (C.xv O))) L.rs (L::B) else Z
  |none=>Z
 |n+1,.ac k x _ t,O,X,W=>if ab0 k then run V R Q bA P n t (O.add (.r (gv x O))) (X++[k]) W else Z
 |n+1,.gF g h t f,O,X,W=>if g.ab O then(if h.ab O then BK (run V R Q bA P n t O X W) (run V R Q bA P n f O X W) else run V R Q bA P n t O X W) else(if h.ab O then run V R Q bA P n f O X W else Z)
 |n+1,.pick m g h t f,O,X,W=>uX ((yg m g h O).map λj=>match j with
  |U j=>run V R Q bA P n t (O.add (.i j)) X W
  |none=>run V R Q bA P n f O X W)
 |n+1,.eE _ _ e A z r N t,O,X,W=>if DK X N&&abZ X r e then(match n8 O A z (r.rv O).ac with
  |U y=>run V R Q bA P n t (O.add (.r (.mk (r.rv O).val y))) (X++[.own e]) W
  |none=>Z) else Z
 |n+1,.new e x N _ t,O,X,W=>if DK X N then run V R Q bA P n t (O.add (.r (gv x O))) (X++[.own e]) W else Z
 |_,_,_,_,_=>Z
end
def PI{X:World}(h:gY [] e X):Below e.heap.size e X:=⟨h.os,h.tape,h.output,h.size,λk W=>h.block k W av⟩
def ayK{b c:World}(h:Below e.heap.size e b)(k:Below b.heap.size b c):Below e.heap.size e c:=h.trans (k.mono h.size)
def pO:aS->bq->gt
 |k::X,x::W=>x.at k::pO X W
 |_,_=>[]
def wD(u:Ty):jU->gt->gt
 |[],_=>[]
 |t::W,l=>match u t with
  |U X=>(if X.d.isAgg then .agg (l.take (Y X.aj)).toArray else l.getD 0 undef)::wD u W (l.drop (Y X.aj))
  |none=>[]
def Im:gt->Value
 |[v]=>v
 |l=>.tuple l.toArray
def am0{u:Ty}:∀{X:jU}{W l:aq},ku u X W=U l->Y X=Y W
 |[],[],l,_=>rfl
 |[],_::_,l,h=>by simp[ku] at h
 |_::_,[],l,h=>by simp[ku] at h
 |t::X,v::W,l,h=>by
  simp only[ku] at h;split at h;rename_i R r Q V;simp[am0 V];cases h
def UO{u:Ty}{O:ai}{V:ar}:∀{W:jU}{R l:aq},ku u W R=U l->C.aE O V R=wD u W (C.aE O V l)
 |[],[],l,_=>rfl
 |[],_::_,l,h=>by simp[ku] at h
 |_::_,[],l,h=>by simp[ku] at h
 |t::W,v::R,l,h=>by
  simp only[ku] at h;split at h;rename_i H r M L;have N:=UO (O:=O) (V:=V) L;simp only[wD,M];split at h;rename_i Q;rw[aJ Q];split at h;rename_i F;split at h;rename_i X;simp only[dE] at X;cases h;rw[Tv,<-X,List.take_left' av,Zu av,<-N];simp only[C.aE,C.ab];cases h;cases h;rename_i Q;rw[aQ Q];split at h;rename_i X;simp only[dE] at X;cases h;rw[X];simp only[C.aE,G7,List.drop_succ_cons,avj,<-N];cases h;cases h
def am1{u:Ty}{R:jU}{X:C}(h:ku u R (zT (Y R) X)=U v):X.ab N x=Im (wD u R (C.aE N x v)):=by
 have Q:=am0 h;rw[<-UO h];cases X
 case bM H=>
  simp only[zT] at Q⊢;by_cases M:Y R==1;simp[M,C.aE,Im];simp only[M,gf,jp] at Q⊢;have L:Y H≠1:=by rw[<-Q];simpa using M
  match H,L with
  |[],_=>simp[C.aE,Im,C.ab]
  |[W],L=>simp at L
  |W::y::z,_=>simp[C.aE,Im,C.ab]
 all_goals simp[zT,C.aE,Im]
def ayL{u:Ty}{O:ai}{V:ar}{X:LK}{v:C}(h:FH u k X v=J):v.ab O V=(v.xv O).at X/\sf X (v.xv O):=by
 unfold FH at h;split at h;rename_i X W e;simp at h;subst h;exact⟨rfl,trivial⟩;exact⟨rfl,trivial⟩;exact⟨rfl,trivial⟩;cases h
def LF{u:Ty}{W:bv}{O:ai}{V:ar}:∀{X:aS}{l:aq},kR u W X l=J->C.aE O V l=pO X (l.map (C.xv O))/\eP X (l.map (C.xv O))
 |[],[],_=>⟨rfl,trivial⟩
 |[],_::_,h=>by simp[kR] at h
 |_::_,[],h=>by simp[kR] at h
 |k::X,v::l,h=>by
  simp only[kR,aw] at h;obtain⟨R,Q⟩:=ayL (O:=O) (V:=V) h.1;obtain⟨N,M⟩:=LF (O:=O) (V:=V) h.2;exact⟨by simp only[C.aE,dU,pO,R,N],Q,M⟩
def ayM{W:aS}{X:bq}(h:ko W X=J):eP W X:=by
 induction W generalizing X with
 |nil=>cases X with
  |nil=>trivial
  |cons=>simp[ko] at h
 |cons k W V=>cases X with
  |nil=>simp[ko] at h
  |cons x X=>
   simp only[ko,aw] at h;refine⟨?_,V h.2⟩;cases k<;>cases x<;>first|trivial|simp[abW] at h
def UP:∀{X:aS}{W V:bq},eP X V->BJ W V->eP X W
 |[],[],[],_,_=>trivial
 |[],_::_,[],_,h=>h.elim
 |[],_,_::_,h,_=>h.elim
 |_::_,_,[],h,_=>h.elim
 |_::_,[],_::_,_,h=>h.elim
 |k::X,x::W,y::V,h,R=>by
  refine⟨?_,UP h.2 R.2⟩;have Q:=h.1;have O:=R.1;cases k<;>cases x<;>cases y<;>simp_all[sf,Lz]
def PJ{O X:ai}(h:lz O X):∀l:aq,BJ (l.map (C.xv O)) (l.map (C.xv X))
 |[]=>trivial
 |v::l=>⟨C.ayz h v,PJ h l⟩
def PK{V:ar}:∀{R:aS}{l:aq}{X:bq}{O:ai}{a b c:Nat},su a b c R l=J->eP R X->Y O.i=a->Y O.b=b->Y O.r=c->C.aE (O.ext X) V l=pO R X
 |[],[],[],O,a,b,c,_,_,_,_,_=>rfl
 |[],[],_::_,O,a,b,c,_,h,_,_,_=>h.elim
 |[],_::_,X,O,a,b,c,h,_,_,_,_=>by simp[su] at h
 |k::R,[],X,O,a,b,c,h,_,_,_,_=>by cases k<;>simp[su] at h
 |_::_,_::_,[],O,a,b,c,_,h,_,_,_=>h.elim
 |k::R,v::l,x::X,O,a,b,c,h,B,Q,N,M=>by
  have H:=Fl X (O.add x);obtain⟨F,D⟩:=B;simp only[C.aE,ai.ext,pO];unfold su at h;split at h;rename_i W;cases W;rename_i W L;cases W;cases L;cases x<;>simp[sf] at F;simp only[aw,cm,dE] at h;obtain⟨⟨rfl,rfl⟩,h⟩:=h;rw[PK h D (by simp[ai.add,Q]) (by simp[ai.add,N]) (by simp[ai.add,M])];simp only[C.ab,K.ab,XV.at];rw[H.i _ (by simp[ai.add,Q])];simp[ai.add,<-Q];rename_i W L;cases W;cases L;cases x<;>simp[sf] at F;simp only[aw,dE] at h;obtain⟨rfl,h⟩:=h;rw[PK h D (by simp[ai.add,Q]) (by simp[ai.add,N]) (by simp[ai.add,M])];simp only[C.ab,BE.ab,XV.at];rw[H.b _ (by simp[ai.add,N])];simp[ai.add,<-N];rename_i W L;cases W;cases L;cases x<;>simp[sf] at F;simp only[aw,dE] at h;obtain⟨rfl,h⟩:=h;rw[PK h D (by simp[ai.add,Q]) (by simp[ai.add,N]) (by simp[ai.add,M])];simp only[C.ab,RE.ab,RE.rv,XV.at];rw[H.r _ (by simp[ai.add,M])];simp[ai.add,ai.rv,<-M];cases h
def ayN{u:Ty}{s:S}{r:RE}{e:RK}(M:e≠ .ae)(h:r.kind u s=e)(W:ee u e (r.rv N) y):N.qz u s.rs y:=by
 obtain⟨V,R,H,Q,X⟩:=TP M h W;rcases X with⟨rfl,X⟩|⟨t,X,L⟩;exact⟨V,R,Q,TO (by rw[X];exact W)⟩;exact⟨V,R,Q,KV X L⟩
def am2{u:Ty}{e:RK}{X:RV}(h:ee u e X y):ee u e.rd X y:=by
 cases h with
 |own e X y h=>exact h
 |here e a V R W=>exact ee.here e a V R W
 |deep e v W i j Q c z k y O N M L=>exact ee.deep e v W i j Q c z k y O N M L
def zU(u:Ty)(W:aS)(V:bq)(b:Nat):Prop:=∃(q:Nat)(e:RK)(X:RV),W[q]?=U (.ah e)/\V[q]?=U (.r X)/\ee u e X b
def am3{u:Ty}{R:bv}:∀{W:aS}{l:aq},kR u R W l=J->∀(q:Nat)(k:LK)(v:C),W[q]?=U k->l[q]?=U v->FH u R k v=J
 |[],_,_,q,k,v,X,_=>by simp at X
 |_::_,[],h,q,k,v,_,_=>by simp[kR] at h
 |Q::W,O::l,h,0,k,v,X,V=>by simp only[kR,aw] at h;simp at X V;subst X V;exact h.1
 |Q::W,O::l,h,q+1,k,v,X,V=>by simp only[kR,aw] at h;exact am3 h.2 q k v (by simpa using X) (by simpa using V)
def am4{u:Ty}{Q:aS}(h:kR u k Q v=J){e:RK}{M:RV}(H:Q[y]?=U (.ah e))(W:(v.map (C.xv N))[y]?=U (.r M)):
  ∃r:RE,((∃L,e=.mr L/\r.oT u ⟨[],[],0,0,k,0,0,[]⟩ L=J)\/r.fits u ⟨[],[],0,0,k,0,0,[]⟩ e.rd=J)/\M=r.rv N:=by
 rw[dW] at W;cases R:v[y]? with
 |none=>rw[R] at W;cases W
 |some X=>
  rw[R] at W;have:=am3 h y _ X H R;unfold FH at this;split at this;rename_i V;cases V;rename_i V;cases V;rename_i V;cases V;simp only[eh,cU,C.xv,XV.r.injEq] at W;refine⟨_, ?_,W.symm⟩;split at this;exact .inl ⟨_,rfl,this⟩;exact .inr this;cases this
def PL{u:Ty}{W:aS}(h:kR u k W v=J)(Q:zU u W (v.map (C.xv N)) y):N.qz u k y:=by
 obtain⟨q,e,D,M,L,V⟩:=Q;obtain⟨r,X,rfl⟩:=am4 h M L;rcases X with⟨B,rfl,-⟩|X;cases V;have R:=am2 V;obtain⟨H,F⟩:=aay (O:=N) X R;exact ayN (s:=⟨[],[],0,0,k,0,0,[]⟩) F H R
def zV(u:Ty)(W:World)(V:aS)(R:bq):Prop:=∀(q:Nat)(e:RK)(X:RV),V[q]?=U (.ah e)->R[q]?=U (.r X)->bJ W u e X
def am5{u:Ty}{W:World}{B:Nat}{old:Nat->Prop}:∀{V:aS}{X:bq},zV u W V X->(∀b,zU u V X b->B<=b\/old b)->KF u W B old V X
 |[],X,_,_=>by cases X<;>trivial
 |_::_,[],_,_=>trivial
 |k::V,x::X,h,N=>by
  refine⟨?_,am5 (λq e R Q O=>h (q+1) e R (by simpa using Q) (by simpa using O)) (λb ⟨q,e,R,Q,O,M⟩=>N b ⟨q+1,e,R,by simpa using Q,by simpa using O,M⟩)⟩;cases k<;>cases x<;>try trivial
  exact⟨h 0 _ _ rfl rfl,λb L=>N b ⟨0,_,_,rfl,rfl,L⟩⟩
def UQ(D W:World):eF D cg.none [] [] [] W:=⟨rfl,rfl,λn l r X h=>by simp[cg.none] at h,λn V l r R h=>by simp[cg.none] at h,[],rfl,λ_=>rfl,by simp[cg.none],λd h=>by simp[cg.none] at h⟩
def jW.UR{V:ar}{H:bG}{u:Ty}{W:World}(R:jW x e V N H u k W)(F:Y N.r=Y k)(B:∀(X:Nat)(t:TypeId),k[X]?≠U (.own t)):az x e cg.none u [] (N.at []) ⟨[],[],Y N.i,Y N.b,k,0,0,[]⟩ ⟨#[],[]⟩ W:=
 ⟨⟨R.base,λi h=>by simp[aK,cV] at h,λi j h=>by simp[aK,cV] at h,λi t y h=>by simp[cV] at h,λX Q L M A=>⟨(R.ah X Q L M A).1,λb w i z=>by simp[aK,cV] at z⟩⟩,rfl,rfl,rfl,F,UQ _ _,rfl,λt v h=>by simp at h,λX Q L b M=>aZ M (B X Q)⟩
def US:∀{l W:bv},DJ l W=J->qA l W/\∀(k:Nat)(t:TypeId),W[k]?≠U (.own t)
 |[],[],_=>⟨qA.refl _,λk t h=>by simp at h⟩
 |[],_::_,h=>by simp[DJ] at h
 |_::_,[],h=>by simp[DJ] at h
 |x::N,y::M,h=>by
  simp only[DJ,aw] at h;obtain⟨V,Q⟩:=US h.2;have R:rn x y/\∀t,y≠ .own t:=by
   have L:=h.1;cases x<;>cases y<;>simp_all[UH,rn]
  refine⟨⟨by simp[V.len],λk O X=> ?_⟩,λk t X=> ?_⟩;cases k with
  |zero=>simp at X;subst X;exact⟨x,rfl,R.1⟩
  |succ k=>exact V.get k O (by simpa using X)
  cases k with
  |zero=>simp at X;exact R.2 t X
  |succ k=>exact Q k t (by simpa using X)
def ayO{e:RK}(h:HM (.ah e)=J):e.rd=e:=by cases e<;>simp[HM] at h<;>rfl
def ab4{u:Ty}{W:bv}(h:qA k W)(V:N.qz u W y):N.qz u k y:=by
 obtain⟨X,e,R,Q⟩:=V;obtain⟨M,L,H⟩:=h.get X e R;exact⟨X,M,L,Q.mO H⟩
def am6:∀{l W:bv},DK l W=J->qA l W
 |[],[],_=>qA.refl _
 |[],_::_,h=>by simp[DK] at h
 |_::_,[],h=>by simp[DK] at h
 |x::O,y::N,h=>by
  simp only[DK,aw] at h;have V:=am6 h.2;have R:rn x y:=by
   have M:=h.1;cases x<;>cases y<;>simp_all[UH,amM,rn]
  refine⟨by simp[V.len],λk Q X=> ?_⟩;cases k with
  |zero=>simp at X;subst X;exact⟨x,rfl,R⟩
  |succ k=>exact V.get k Q (by simpa using X)
def am7{V:ar}{z:bG}{u:Ty}{W:World}(R:jW x e V N z u k W)(H:Y N.r=Y k)(F:∀(X:Nat)(t:TypeId),k[X]?≠U (.own t)){L:aS}(h:kR u k L v=J)(y:qu L=J):zV u W L (v.map (C.xv N)):=by
 intro q Q p B w;obtain⟨r,M,rfl⟩:=am4 h B w;rcases M with⟨A,rfl,M⟩|M;simp only[RE.oT,jy,cm] at M;rcases M with M|M;have:=sn (R.UR H F) (e:=.mr A) (r:=r) av (by
  rw[DA (s:=⟨[],[],Y N.i,Y N.b,k,0,0,[]⟩) (s':=⟨[],[],0,0,k,0,0,[]⟩) rfl r];exact M)
 rwa [RE.mS] at this
 unfold RE.nil at M;split at M;exact bJ.mr A [] av av av av;cases M;have:=aj8 (R.UR H F) (k:=Q.rd) (r:=r) (by
  unfold RE.fits at M⊢;rw[DA (s:=⟨[],[],Y N.i,Y N.b,k,0,0,[]⟩) (s':=⟨[],[],0,0,k,0,0,[]⟩) rfl r];exact M)
 rwa [ayO (Ub y B),RE.mS] at this
def In(u:Ty)(B:Nat)(old:Nat->Prop)(O:ai)(X:bv):Prop:=∀b,O.qz u X b->B<=b\/old b
def UT:∀(X:aS)(s:S),(s.cP X).2.rs=s.rs++jM X
 |[],s=>by simp[S.cP,jM]
 |k::X,s=>by
  simp only[S.cP];rw[UT X];cases k<;>simp[S.fresh,jM]
def PM{X:aS}{W:bq}(V:eP X W)(R:Y N.r=Y k):(N.ext W).r.length=(k++jM X).length:=by
 have:=(zL X W ⟨[],[],Y N.i,Y N.b,k,0,0,[]⟩ N V rfl rfl R).2.2
 rwa [UT] at this
def In.ext{u:Ty}{B:Nat}{old:Nat->Prop}{O:ai}{V:bv}(h:In u B old O V){R:aS}{X:bq}(L:eP R X)(H:Y O.r=Y V)(D:∀b,zU u R X b->B<=b\/old b):In u B old (O.ext X) (V++jM R):=by
 intro b ⟨k,e,F,A⟩;have z:k<(O.ext X).r.length:=by rw[PM L H];exact(ck.1 F).1
 have y:(O.ext X).r[k]?=U ((O.ext X).rv k):=by simp[ai.rv,z]
 have:=Ia (PP:=λe W=>∀b,ee u e W b->B<=b\/old b) R X ⟨[],[],Y O.i,Y O.b,V,0,0,[]⟩ O L H
  (λq e W N Q b M=>D b ⟨q,e,W,N,Q,M⟩) (λk e W N Q b M=>h b ⟨k,e,N,by
   have x:k<Y O.r:=(ck.1 Q).1;have:O.rv k=W:=by simp[ai.rv,Q]
   rw[this];exact M⟩)
 rw[UT] at this;exact this k e _ F y b A
def PN(u:Ty)(H:jU)(X:aS)(D:World)(d:aS)(F:bq)(out:bo):Ending->World->Prop
 |.returned v,V=>∃R W,out=.ret R/\BJ R W/\eP X W/\v=Im (wD u H (pO X W))/\Below D.heap.size D V/\zV u V X W/\∀b,zU u X W b->D.heap.size<=b\/zU u d F b
 |.panicked Q,V=>Below D.heap.size D V/\∃v,out=.bI v/\Q=[{v:=v,recovered:=E}]
 |.outgrown,_=>False
def DM(P:Program)(u:Ty)(M Q:FuncId->rY)(G:World->Prop)(f:FuncId)(F:bq->kE):Prop:=
 ∀R H d X,M f=U R->Q f=U H->iG u R=U d->iG u H=U X->∀(O V:bq)(out:bo),F O=U out->BJ O V->eP d V->∀W,G W->zV u W d V->
  Calls P f (wD u R (pO d V)).toArray W (PN u H X W d V out)
section
variable{P:Program}{u:Ty}{M Q:FuncId->rY}{bA:nG}{G:World->Prop}{D:World}{H:jU}{X d:aS}{F:bq}{out:bo}{old:Nat->Prop}
def LG(P:Program)(u:Ty)(D:World)(H:jU)(X d:aS)(F:bq)(out:bo):Sp:=⟨P,u,[],D,cg.none,PN u H X D d F out,λ_ _ _=>False⟩
def PO(u:Ty)(M Q:FuncId->rY)(bA:nG)(H:jU)(out:bo)(X:Fr)(V:List Fr)(R:bq)(n:Nat):Prop:=∃W,BJ W R/\run u M Q bA H n X.t (X.O.ext W) X.rs (X::V)=U out
def IOf(u:Ty)(M Q:FuncId->rY)(bA:nG)(D:World)(H:jU)(old:Nat->Prop)(out:bo)(X:Fr)(V:List Fr)(N:Nat)(W:bq):Prop:=
 (∀b,zU u X.ks W b->D.heap.size<=b\/old b)/\∃n,n<=N/\PO u M Q bA H out X V W n
def ab6(W:World)(V:List PanicEntry)(R:World)(b:Nat)(o:Obj)(O:W.heap.size<=b)(h:PN u H X W d F out (.panicked V) R):PN u H X W d F out (.panicked V) (R.putObj b o):=
 ⟨⟨h.1.os,h.1.tape,h.1.output,by have:=h.1.size;simpa[Hg] using this,λk Q=>(uB aa).trans (h.1.block k Q)⟩,h.2⟩
def ayP{p:Nat->Prop}:∀{n:Nat},p n->∃m,p m/\m<=n/\∀k,p k->m<=k:=by
 intro n;induction n using SP with
 |ind n V=>
  intro h;by_cases W:∃k,k<n/\p k;obtain⟨k,X,R⟩:=W;obtain⟨m,Q,M,O⟩:=V k X R;exact⟨m,Q,aa,O⟩;exact⟨n,h,b9 _,λk X=>by by_cases N:k<n;exact aZ ⟨k,N,X⟩ W;omega⟩
open Classical in
noncomputable def LH(p:Nat->Prop):Nat:=if h:∃m,p m/\∀k,p k->m<=k then Classical.choose h else 0
def am8{p:Nat->Prop}(h:p y):p (LH p)/\LH p<=y:=by
 obtain⟨m,W,R,V⟩:=ayP h;have X:∃m,p m/\∀k,p k->m<=k:=⟨m,W,V⟩;unfold LH;rw[dif_pos X];exact⟨(Classical.choose_spec X).1,(Classical.choose_spec X).2 y h⟩
inductive wE(u:Ty)(M Q:FuncId->Option (List TypeId))(bA:nG)(D:World)(H:List TypeId)(old:Nat->Prop)(out:bo):Nat->List Fr->List LC->Prop where
 |nil (n:Nat):wE u M Q bA D H old out n [] []
 |cons (n N m:Nat) (fr:Fr) (st:List Fr) (L:List LC):n<=m->m<=N->wE u M Q bA D H old out n st L->
   wE u M Q bA D H old out n (fr::st) (⟨fr.ax,IOf u M Q bA D H old out fr st N,λxs=>LH (PO u M Q bA H out fr st xs),m⟩::L)
def wE.mono{W:Nat}{X:List Fr}(h:wE u M Q bA D H old out y X b)(O:W<=y):wE u M Q bA D H old out W X b:=by
 induction h with
 |nil=>exact wE.nil _
 |cons N m F X b B V A R=>exact wE.cons _ _ _ _ _ _ aa V R
def wE.find{ax:Nat}{V R:List Fr}{W:Fr}(h:wE u M Q bA D H old out y V b)(X:Il ax V=U (W,R)):
  ∃N m,y<=m/\m<=N/\oD ax b=U ⟨W.ax,IOf u M Q bA D H old out W R N,λF=>LH (PO u M Q bA H out W R F),m⟩:=by
 induction h with
 |nil=>simp[Il] at X
 |cons N m r V b B A q z=>
  simp only[Il] at X;split at X;rename_i O;cases X;exact⟨N,m,B,A,by simp[oD,O]⟩;rename_i O;obtain⟨x,w,v,t,s⟩:=z X;exact⟨x,w,v,t,by simp only[oD,O,gf];exact s⟩
def ayQ(bl:∀f,DM P u M Q G f (bA f))(hG:∀W W',Below W.heap.size W W'->G W->G W')(br:G D)(bs:iG u H=U X)(bt:∀ys b,zU u X ys b->old b->zU u d F b):
  ∀(n:Nat)(t:T)(a O:ai)(B:bv)(st:List Fr)(L:dC),run u M Q bA H n t a B st=U out->lz a O->Y O.r=Y B->In u D.heap.size old O B->wE u M Q bA D H old out n st L->
   t.aP (LG P u D H X d F out) O L:=by
 intro n;induction n using SP with
 |ind n IH=>
  intro t a O B st L h R w q hC;cases n with
  |zero=>simp[run] at h
  |succ n=>
   cases t with
   |out e s=>simp[run] at h
   |stuck m=>simp[run] at h
   |ret v bx a0=>
    simp only[run] at h;split at h;rename_i he;obtain⟨hw,a9⟩:=US he;unfold abX at h;split at h;rename_i l ks hl hk;rw[bs] at hk;cases hk;split at h;rename_i af;cases h;simp only[aw] at af;obtain⟨af,b0⟩:=af;intro y V W hR;have R:lz a (O.at y):=⟨R.i,R.b,R.len,R.r⟩;have w:(O.at y).r.length=Y B:=w;have q:In u D.heap.size old (O.at y) B:=q;generalize O.at y=O at R w q hR⊢;obtain⟨h1,h2⟩:=LF (O:=O) (V:=V) af;refine⟨_,l.map (C.xv O),rfl,PJ R l,h2,by rw[am1 hl,h1],PI hR.base,am7 hR (w.trans hw.len.symm) a9 af b0,λb p=>(q b (ab4 hw (PL af p))).imp id (bt _ b p)⟩;cases h;cases h;cases h
   |bI v=>
    simp only[run,SH] at h;obtain⟨pv,hv,rfl⟩:=h;intro y V W hO;have R:lz a (O.at y):=⟨R.i,R.b,R.len,R.r⟩;refine⟨PI hO,pv,rfl, ?_⟩;unfold Ik at hv;split at hv;cases hv;simp only[C.ab,K.dI R];cases hv
   |aT b t f=>
    simp only[run] at h;rw[BE.dI R] at h;refine⟨λp=> ?_,λp=> ?_⟩;rw[aJ p] at h;exact IH n aa t a O B st L h R w q (hC.mono aa);rw[aQ (by simp[p])] at h;exact IH n aa f a O B st L h R w q (hC.mono aa)
   |be b t=>
    simp only[run] at h;rw[BE.dI R] at h;split at h;rename_i p;exact⟨p,IH n aa t a O B st L h R w q (hC.mono aa)⟩;cases h
   |call f ct bx a0 ks jz t=>
    simp only[run] at h;split at h;rename_i he;obtain⟨hw,a9⟩:=US he;split at h;rename_i cv hx;unfold abY at hx;split at hx;rename_i ps b1 b2 b3;split at hx;rename_i l b4 b5 r hl b6 b7 b8;split at hx;rename_i hc;simp only[aw,cm] at hc;obtain⟨⟨⟨c1,cp⟩,rfl⟩,c3⟩:=hc;cases hx;intro y V W hR;have a3:lz a (O.at y):=⟨R.i,R.b,R.len,R.r⟩;have cx:In u D.heap.size old (O.at y) B:=q;obtain⟨a1,a2⟩:=LF (O:=O.at y) (V:=V) c1;have hB:=PI hR.base;have ca:=am7 hR (w.trans hw.len.symm) a9 c1 cp;rw[UO hl,a1];cases ho:bA f (l.map (C.xv a)) with
    |none=>rw[ho] at h;cases h
    |some o=>
     rw[ho] at h;refine(bl f ps b1 b4 b5 b2 b3 b6 b7 _ _ o ho (PJ a3 l) a2 W (hG _ _ hB br) ca).mono ?_;intro e W' hE;cases e with
     |outgrown=>exact hE.elim
     |panicked ch=>
      obtain⟨e1,pv,rfl,rfl⟩:=hE;simp only[cU] at h;subst h;exact⟨e1,ayK hB e1,pv,rfl,rfl⟩
     |returned v=>
      obtain⟨yh,ys,rfl,e2,e3,rfl,e5,e6,e7⟩:=hE;rw[show C.xv (O.at y)=C.xv O from funext (C.abx O y)] at e7;simp only at h;split at h;rename_i cy;refine⟨ys,e3, ?_,e5,am5 e6 (λb p=>(e7 b p).imp id (λcc=>PL c1 cc)), ?_⟩;rw[<-Pt,am1 b8,PK c3 e3 (by rw[a3.i]) (by rw[a3.b]) (by rw[a3.len])];refine IH n aa t _ _ _ st L h (R.ext e2) (PM e3 w) (q.ext e3 w (λb p=> ?_)) (hC.mono aa);rcases e7 b p with h1|h1;exact .inl (pw hB.size h1);exact q b (ab4 hw (PL c1 h1));cases h
    cases hx;cases hx;cases hx;cases h;cases h
   |loop ax ks x0 t=>
    simp only[run] at h;split at h;rename_i af;have cA:=(LF (O:=O) (V:=[]) af).2;refine⟨IOf u M Q bA D H old out ⟨ax,ks,t,a,B++jM ks⟩ st n,λxs=>LH (PO u M Q bA H out ⟨ax,ks,t,a,B++jM ks⟩ st xs),⟨λb p=>q b (PL af p),n,b9 _,x0.map (C.xv a),PJ R x0,h⟩, ?_⟩;intro xs hf ⟨i1,n1,i2,i3⟩;obtain⟨⟨xh,j1,j2⟩,j3⟩:=am8 i3;refine IH _ aa t _ _ _ _ _ j2 (R.ext j1) (PM hf w) (q.ext hf w i1) ?_;exact wE.cons _ _ _ _ _ _ (b9 _) (pw j3 i2) (hC.mono aa);cases h
   |back ax x=>
    simp only[run] at h;split at h;rename_i fr cf cl;split at h;rename_i af;obtain⟨N,m,g1,g2,g3⟩:=hC.find cl;simp only[T.aP,g3];have bb:PO u M Q bA H out fr cf (x.map (C.xv O)) n:=⟨x.map (C.xv a),PJ R x,h⟩;refine⟨⟨λb p=>q b (PL af p),n,aa,bb⟩, ?_⟩;have:=(am8 bb).2;omega;cases h;cases h
   |new e x a0 cB t=>
    simp only[run] at h;split at h;rename_i he;have hw:=am6 he;intro rv bc;obtain⟨A,m,c,rfl,hm⟩:=bc.val;subst hm;refine IH n aa t _ _ _ st L h (R.add (amL R x)) (by simp[ai.add,w]) ?_ (hC.mono aa);intro b ⟨k,e',hk,hl⟩;by_cases ag:k<Y B;rw[dH ag] at hk;refine q b ⟨k,e',hk, ?_⟩;have:(O.add (.r (.mk (.slice A (x.ac O).length c) (x.ac O)))).rv k=O.rv k:=by simp[ai.rv,ai.add,dH,w,ag]
    rw[<-this];exact hl;have an:k=Y B:=by
     have:=(ck.1 hk).1;simp at this;omega
    subst an;simp at hk;subst hk;have e1:(O.add (.r (.mk (.slice A (x.ac O).length c) (x.ac O)))).rv (Y B)=.mk (.slice A (x.ac O).length c) (x.ac O):=by rw[<-w];simp[ai.rv,ai.add]
    rw[e1] at hl;have cn:=am2 hl;rcases bc.qz b cn with g|g|g;exact .inl g;cases g;exact q b (ab4 hw g);cases h
   |ac k x a0 t=>
    simp only[run] at h;split at h;rename_i he;refine IH n aa t _ _ _ st L h (R.add (amL R x)) (by simp[ai.add,w]) ?_ (hC.mono aa);intro b ⟨k',e',hk,hl⟩;by_cases ag:k'<Y B;rw[dH ag] at hk;refine q b ⟨k',e',hk, ?_⟩;have:(O.add (.r (gv x O))).rv k'=O.rv k':=by simp[ai.rv,ai.add,dH,w,ag]
    rw[<-this];exact hl;have an:k'=Y B:=by
     have:=(ck.1 hk).1;simp at this;omega
    subst an;simp at hk;subst hk;cases k<;>simp[ab0] at he;cases hl;cases h
   |gF g h' t f=>
    simp only[run] at h;rw[BE.dI R,BE.dI R] at h;refine⟨λp=> ?_,λp=> ?_⟩;rw[aJ p] at h;split at h;exact IH n aa t a O B st L (UM h).1 R w q (hC.mono aa);exact IH n aa t a O B st L h R w q (hC.mono aa);simp only[p,cN] at h;split at h;exact IH n aa f a O B st L (UM h).2 R w q (hC.mono aa);exact IH n aa f a O B st L h R w q (hC.mono aa)
   |pick m g h' t f=>
    simp only[run] at h;refine⟨λj h1 h2 h3=> ?_,λp=> ?_⟩;have bd:lz (a.add (.i j)) (O.add (.i j)):=R.add (x:=.i j) (y:=.i j) rfl;have hj:=UN h _ (iq.2 ⟨U j,ayI (g:=g) (h:=h') h1 (by rw[K.dI R];exact h2) (by rw[BE.dI bd];exact h3),rfl⟩);exact IH n aa t _ _ B st L hj bd w q (hC.mono aa);have hj:=UN h _ (iq.2 ⟨Z,ayJ (m:=m) (g:=g) (h:=h') (by rw[BE.dI R];exact p),rfl⟩);exact IH n aa f _ _ B st L hj R w q (hC.mono aa)
   |eE f g e sp sb r a0 t=>
    simp only[run] at h;split at h;rename_i he;simp only[aw] at he;obtain⟨he,a4⟩:=he;have bf:=RE.dI R r;split at h;rename_i co bg;obtain⟨al,ba,cC⟩:=amS R bf.LA bg;refine⟨al,ajt ba, ?_⟩;have bk:=aaX (ajt ba);have cs:dG (.mk (r.rv a).val co) (.mk (r.rv O).val al):=bf.eE R bg ba;refine IH n aa t _ _ _ st L h (R.add cs) (by simp[ai.add,w]) ?_ (hC.mono aa);intro b ⟨k,e',hk,hl⟩;by_cases ag:k<Y B;rw[dH ag] at hk;refine q b ⟨k,e',hk, ?_⟩;have:(O.add (.r (.mk (r.rv O).val al))).rv k=O.rv k:=by simp[ai.rv,ai.add,dH,w,ag]
    rw[<-this];exact hl;have an:k=Y B:=by
     have:=(ck.1 hk).1;simp at this;omega
    subst an;simp at hk;subst hk;have e1:(O.add (.r (.mk (r.rv O).val al))).rv (Y B)=.mk (r.rv O).val al:=by rw[<-w];simp[ai.rv,ai.add]
    rw[e1] at hl;unfold abZ at a4;split at a4;rename_i k;exact q b ⟨k,_,uE a4,ayE hl bk⟩;cases hl with
    |own e rv b hl=>
     have h0:al=[]:=by
      cases al with
      |nil=>rfl
      |cons x xs=>have:=bk x av;simp[RE.rv] at this
     subst h0;simp only[RE.rv] at hl;cases hl with
     |deep e v al i j cD c z k b h1 h2 h3 h4=>simp at h1
    cases a4;cases h;cases h
def uY:aS->Bool
 |[]=>J
 |.ah (.sl _)::_=>E
 |.ah (.own _)::_=>E
 |_::X=>uY X
def am9:∀{ks:aS}{xs:bq}{b:Nat},uY ks=J->¬zU u ks xs b
 |[],xs,b,_,⟨q,e,W,X,_,_⟩=>by simp at X
 |k::ks,xs,b,h,⟨0,e,W,X,V,R⟩=>by
  simp at X;subst X;cases R<;>simp[uY] at h
 |k::ks,[],b,h,⟨q+1,e,W,X,V,R⟩=>by simp at V
 |k::ks,x::xs,b,h,⟨q+1,e,W,X,V,R⟩=>am9 (ks:=ks) (xs:=xs) (b:=b) (by
   cases k with
   |ah r=>cases r<;>simp[uY] at h⊢<;>exact h
   |int _=>simpa[uY] using h
   |bool=>simpa[uY] using h) ⟨q,e,W,by simpa using X,by simpa using V,R⟩
def fU(X:aC)(W:bq):ai:=(⟨[],[],X,[]⟩:ai).ext W
end
def Io:C->aq
 |.agg l=>l
 |v=>[v]
def oV:aq->aq
 |[]=>[]
 |v::X=>Io v++oV X
def yi:C->aq
 |.bM l=>oV l
 |v=>Io v
def ayR:C->Bool
 |.gX _ (.int _ _)=>J
 |_=>E
def nI:aS->Nat
 |[]=>0
 |.int _::X=>nI X+1
 |_::X=>nI X
def nB:aS->Nat
 |[]=>0
 |.bool::X=>nB X+1
 |_::X=>nB X
def ana(c:Ty)(d:jU)(v:C)(W:bv):Bool:=match ku c d (zT (Y d) v),iG c d with
 |U l,U X=>kR c W X l&&qu X
 |_,_=>E
def anb(c:Ty)(M Q:FuncId->rY)(f:FuncId)(O:aq)(N L:Nat)(W:bv)(V:aS)(jz:C):Bool:=match M f,Q f with
 |U R,U X=>match ku c R O,iG c R,iG c X,ku c X (zT (Y X) jz) with
  |U l,U P,U H,U r=>kR c W P l&&qu P&&decide (H=V)&&su N L (Y W) V r
  |_,_,_,_=>E
 |_,_=>E
def PQ(ax:Nat):List (Nat×aS)->Option aS
 |[]=>Z
 |x::X=>if x.1=ax then U x.2 else PQ ax X
def T.iw(c:Ty)(M Q:FuncId->rY)(d:jU):T->Nat->Nat->bv->List (Nat×aS)->Bool
 |.ret v _ O,_,_,X,_=>DJ X O&&ana c d v O
 |.bI v,_,_,_,_=>ayR v
 |.aT _ t f,V,R,X,W=>t.iw c M Q d V R X W&&f.iw c M Q d V R X W
 |.be _ t,V,R,X,W=>t.iw c M Q d V R X W
 |.call f N _ O P jz t,V,R,X,W=>DJ X O&&anb c M Q f N V R O P jz&&t.iw c M Q d (V+nI P) (R+nB P) (X++jM P) W
 |.loop ax P L t,V,R,X,W=>kR c X P L&&t.iw c M Q d (V+nI P) (R+nB P) (X++jM P) ((ax,P)::W)
 |.back ax x,_,_,X,W=>match PQ ax W with
  |U P=>kR c X P x
  |none=>E
 |.new e _ O _ t,V,R,X,W=>DK X O&&t.iw c M Q d V R (X++[.own e]) W
 |.ac k _ _ t,V,R,X,W=>ab0 k&&t.iw c M Q d V R (X++[k]) W
 |.gF _ _ t f,V,R,X,W=>t.iw c M Q d V R X W&&f.iw c M Q d V R X W
 |.pick _ _ _ t f,V,R,X,W=>t.iw c M Q d (V+1) R X W&&f.iw c M Q d V R X W
 |.eE _ _ e _ _ r O t,V,R,X,W=>DK X O&&abZ X r e&&t.iw c M Q d V R (X++[.own e]) W
 |.stuck _,_,_,_,_=>J
 |.out _ _,_,_,_,_=>E
structure Lp where
 ax:Nat
 t:T
 O:ai
abbrev mT:=List Lp
def BL(ax:Nat):mT->Option (Lp×mT)
 |[]=>Z
 |x::X=>if x.ax=ax then U (x,X) else BL ax X
def exec(bA:nG):Nat->T->ai->mT->kE
 |0,_,_,_=>Z
 |_+1,.ret v _ _,O,_=>U (.ret ((yi v).map (C.xv O)))
 |_+1,.bI v,O,_=>(Ik O v).map .bI
 |n+1,.aT b t f,O,X=>if b.ab O then exec bA n t O X else exec bA n f O X
 |n+1,.be b t,O,X=>if b.ab O then exec bA n t O X else Z
 |n+1,.call f R _ _ Q _ t,O,X=>match bA f ((oV R).map (C.xv O)) with
  |U (.ret V)=>if ko Q V then exec bA n t (O.ext V) X else Z
  |U (.bI v)=>U (.bI v)
  |none=>Z
 |n+1,.loop ax _ P t,O,X=>exec bA n t (O.ext (P.map (C.xv O))) (⟨ax,t,O⟩::X)
 |n+1,.back ax x,O,X=>match BL ax X with
  |U (W,N)=>exec bA n W.t (W.O.ext (x.map (C.xv O))) (W::N)
  |none=>Z
 |n+1,.new _ x _ _ t,O,X=>exec bA n t (O.add (.r (gv x O))) X
 |n+1,.ac _ x _ t,O,X=>exec bA n t (O.add (.r (gv x O))) X
 |n+1,.gF g h t f,O,X=>if g.ab O then(if h.ab O then BK (exec bA n t O X) (exec bA n f O X) else exec bA n t O X) else(if h.ab O then exec bA n f O X else Z)
 |n+1,.pick m g h t f,O,X=>uX ((yg m g h O).map λj=>match j with
  |U j=>exec bA n t (O.add (.i j)) X
  |none=>exec bA n f O X)
 |n+1,.eE _ _ _ M L r _ t,O,X=>match n8 O M L (r.rv O).ac with
  |U H=>exec bA n t (O.add (.r (.mk (r.rv O).val H))) X
  |none=>Z
 |_,_,_,_=>Z
def ayS{c:Ty}{X:LK}{v:C}(h:FH c k X v=J):Io v=[v]:=by
 unfold FH at h;split at h<;>first|rfl|cases h
def PS{c:Ty}{P:bv}:∀{d:jU}{M l:aq}{X:aS},ku c d M=U l->iG c d=U X->kR c P X l=J->oV M=l
 |[],[],l,X,h,_,_=>by simp[ku] at h;simp[oV,h]
 |[],_::_,l,X,h,_,_=>by simp[ku] at h
 |_::_,[],l,X,h,_,_=>by simp[ku] at h
 |t::d,v::M,l,X,h,O,L=>by
  simp only[ku] at h;split at h;rename_i w r B H;simp only[iG,B] at O;split at O;rename_i u G A F;cases A;cases O;have D:∀(a:aS)(b:aq),Y a=Y b->kR c P (a++G) (b++r)=J->kR c P a b=J/\kR c P G r=true:=by
   intro a;induction a with
   |nil=>intro b N R;cases b with
    |nil=>exact⟨rfl,R⟩
    |cons=>simp at N
   |cons k a z=>intro b N R;cases b with
    |nil=>simp at N
    |cons x b=>
     simp only[ez,kR,aw] at R⊢;obtain⟨W,Q⟩:=z b (by simpa using N) R.2;exact⟨⟨R.1,W⟩,Q⟩
  split at h;split at h;rename_i s;split at h;rename_i V;simp only[dE] at V;cases h;obtain⟨W,Q⟩:=D _ _ (by simp[V]) L;simp only[oV,Io,PS H F Q];cases h;cases h;split at h;rename_i V;simp only[dE] at V;cases h;obtain⟨W,Q⟩:=D _ [v] (by simp[V]) L;obtain⟨q,y⟩:=oR.1 V;rw[y] at W;simp only[dU,qn,kR,N8] at W;simp only[oV,ayS W,PS H F Q,ez,eW];cases h;cases O;cases h
def ayT{c:Ty}{d:jU}{X:C}{Q:aS}(h:ku c d (zT (Y d) X)=U v)(V:iG c d=U Q)(W:kR c k Q v=J):yi X=v:=by
 rw[<-PS h V W];cases X
 case bM G=>
  simp only[zT,yi];split;rename_i R;simp only[dE] at R;exfalso;have O:=PS h V W;simp only[zT,R,beq_self_eq_true,cN] at h O;obtain⟨t,N⟩:=oR.1 R;subst N;simp only[ku,iG] at h V;split at h;rename_i F r R M;cases M;split at h;cases h;split at h;rename_i P;cases h;rw[R] at V;simp only[cU] at V;subst V;simp only[dE] at P;obtain⟨D,L⟩:=oR.1 P;rw[L] at W;simp only[dU,qn,J3,kR,N8] at W;unfold FH at W;split at W<;>first|(rename_i H;cases H)|cases W
  cases h;cases h;rfl
 all_goals simp[zT,yi,oV]
section
variable{c:Ty}{M Q:FuncId->rY}{bA:nG}{d:jU}
def FI:∀{X:aS}{W:bq}{O:ai},eP X W->(O.ext W).i.length=Y O.i+nI X/\(O.ext W).b.length=Y O.b+nB X/\(O.ext W).r.length=Y O.r+(jM X).length
 |[],[],O,_=>⟨rfl,rfl,rfl⟩
 |[],_::_,O,h=>h.elim
 |_::_,[],O,h=>h.elim
 |k::X,x::W,O,h=>by
  obtain⟨V,R⟩:=h;obtain⟨Q,P,N⟩:=FI (O:=O.add x) R;simp only[ai.ext,Q,P,N];cases k<;>cases x<;>simp only[sf] at V<;>simp[ai.add,nI,nB,jM]<;>omega
inductive BM(c:Ty)(M Q:FuncId->Option (List TypeId))(d:List TypeId):List (Nat×List LK)->List Lp->List Fr->Prop where
 |nil:BM c M Q d [] [] []
 |cons (ax:Nat) (ks:List LK) (t:T) (O:ai) (rs:List RK) (lv:List (Nat×List LK)) (sl:List Lp) (st:List Fr):Y O.r=Y rs->t.iw c M Q d (Y O.i+nI ks) (Y O.b+nB ks) (rs++jM ks) ((ax,ks)::lv)=J->BM c M Q d lv sl st->
   BM c M Q d ((ax,ks)::lv) (⟨ax,t,O⟩::sl) (⟨ax,ks,t,O,rs++jM ks⟩::st)
def BM.find{N:List (Nat×aS)}{H G:mT}{L:List Fr}{W:aS}{X:Lp}(h:BM c M Q d N H L)(V:PQ y N=U W)(R:BL y H=U (X,G)):
  ∃P F D,Il y L=U (⟨X.ax,W,X.t,X.O,P++jM W⟩,D)/\Y X.O.r=Y P/\X.t.iw c M Q d (Y X.O.i+nI W) (Y X.O.b+nB W) (P++jM W) ((X.ax,W)::F)=J/\BM c M Q d F G D:=by
 induction h with
 |nil=>simp[PQ] at V
 |cons A u t O P N H L z x w v=>
  simp only[PQ,BL,Il] at V R⊢;by_cases B:A=y;rw[aJ B] at V R⊢;cases V;cases R;exact⟨P,N,L,rfl,z,x,w⟩;rw[aQ B] at V R⊢;exact v V R
def uZ:∀(n:Nat)(t:T)(O:ai)(N:bv)(W:List (Nat×aS))(R:mT)(P:List Fr)(o:bo),exec bA n t O R=U o->t.iw c M Q d (Y O.i) (Y O.b) N W=J->Y O.r=Y N->BM c M Q d W R P->
  run c M Q bA d n t O N P=U o
 |0,t,O,N,W,R,P,o,h,_,_,_=>by simp[exec] at h
 |n+1,.out _ _,O,N,W,R,P,o,h,_,_,_=>by simp[exec] at h
 |n+1,.stuck _,O,N,W,R,P,o,h,_,_,_=>by simp[exec] at h
 |n+1,.ret v bx F,O,N,W,R,P,o,h,X,L,H=>by
  simp only[exec,cU] at h;simp only[T.iw,aw] at X;obtain⟨u,X⟩:=X;simp only[run,u,cN,abX];unfold ana at X;split at X
  ·rename_i l D s p
   try rw[s,p]
   simp only[X,cN];simp only[aw] at X;rw[<-ayT s p X.1,h]
  cases X
 |n+1,.bI v,O,N,W,R,P,o,h,X,L,H=>by simpa only[exec,run] using h
 |n+1,.aT b t f,O,N,W,R,P,o,h,X,L,H=>by
  simp only[exec] at h;simp only[T.iw,aw] at X;simp only[run];split at h;rename_i B;rw[aJ B];exact uZ n t O N W R P o h X.1 L H;rename_i B;rw[aQ B];exact uZ n f O N W R P o h X.2 L H
 |n+1,.be b t,O,N,W,R,P,o,h,X,L,H=>by
  simp only[exec] at h;simp only[T.iw] at X;simp only[run];split at h;rename_i B;rw[aJ B];exact uZ n t O N W R P o h X L H;cases h
 |n+1,.call f a3 bx F D jz t,O,N,W,R,P,o,h,X,L,H=>by
  simp only[exec] at h;simp only[T.iw,aw] at X;obtain⟨⟨u,G⟩,ag⟩:=X;have al:=(US u).1.len;simp only[run,u,cN,abY];unfold anb at G;split at G
  ·rename_i ps qs s p
   try rw[s,p]
   try simp only
   split at G
   ·rename_i l pk qk r g1 g2 g3 g4
    try rw[g1,g2,g3,g4]
    try simp only
    rw[al,<-L] at G;rw[aJ G];simp only[aw] at G;rw[PS g1 g2 G.1.1.1] at h
    try simp only
    split at h
    ·rename_i ys ho
     try rw[ho]
     try simp only
     split at h;rename_i af;rw[aJ af];obtain⟨A,z,y⟩:=FI (O:=O) (ayM af);exact uZ n t _ _ W R P o h (by rw[A,z];exact ag) (by rw[y,gc,L]) H;cases h
    ·rename_i v ho;(try rw[ho]);exact h
    cases h
   cases G
  cases G
 |n+1,.loop ax D x0 t,O,N,W,R,P,o,h,X,L,H=>by
  simp only[exec] at h;simp only[T.iw,aw] at X;simp only[run,X.1,cN];obtain⟨A,z,y⟩:=FI (O:=O) (LF (O:=O) (V:=[]) X.1).2;exact uZ n t _ _ ((ax,D)::W) _ _ o h (by rw[A,z];exact X.2) (by rw[y,gc,L]) (BM.cons _ _ _ _ _ _ _ _ L X.2 H)
 |n+1,.back ax x,O,N,W,R,P,o,h,X,L,H=>by
  simp only[exec] at h;simp only[T.iw] at X;split at h;rename_i a an hf;split at X;rename_i D hk;obtain⟨F,a0,a4,q1,q2,q3,q4⟩:=H.find hk hf;simp only[run,q1,X,cN];obtain⟨A,z,y⟩:=FI (O:=a.O) (LF (O:=O) (V:=[]) X).2;exact uZ n a.t _ _ ((a.ax,D)::a0) (a::an) _ o h (by rw[A,z];exact q3) (by rw[y,gc,q2]) (BM.cons _ _ _ _ _ _ _ _ q2 q3 q4);cases X;cases h
 |n+1,.new e x F a9 t,O,N,W,R,P,o,h,X,L,H=>by
  simp only[exec] at h;simp only[T.iw,aw] at X;simp only[run,X.1,cN];exact uZ n t _ _ W R P o h (by simpa[ai.add] using X.2) (by simp[ai.add,L]) H
 |n+1,.ac k x F t,O,N,W,R,P,o,h,X,L,H=>by
  simp only[exec] at h;simp only[T.iw,aw] at X;simp only[run,X.1,cN];exact uZ n t _ _ W R P o h (by simpa[ai.add] using X.2) (by simp[ai.add,L]) H
 |n+1,.gF g h' t f,O,N,W,R,P,o,h,X,L,H=>by
  simp only[exec] at h;simp only[T.iw,aw] at X;simp only[run];have i1:=λq=>uZ n t O N W R P o q X.1 L H
  have i2:=λq=>uZ n f O N W R P o q X.2 L H
  split at h;rename_i hg;rw[aJ hg];split at h;rename_i w;rw[aJ w];exact amY h i1 i2;rename_i w;rw[aQ w];exact i1 h;rename_i hg;rw[aQ hg];split at h;rename_i w;rw[aJ w];exact i2 h;cases h
 |n+1,.pick m g h' t f,O,N,W,R,P,o,h,X,L,H=>by
  simp only[exec] at h;simp only[T.iw,aw] at X;simp only[run];refine amZ h λj _ q=> ?_
  cases j with
  |some j=>exact uZ n t (O.add (.i j)) N W R P o q (by simpa[ai.add] using X.1) (by simpa[ai.add] using L) H
  |none=>exact uZ n f O N W R P o q X.2 L H
 |n+1,.eE f g e sp sb r F t,O,N,W,R,P,o,h,X,L,H=>by
  simp only[exec] at h;simp only[T.iw,aw] at X;simp only[run,X.1.1,X.1.2,v8,cN];split at h
  ·rename_i ba a1
   try rw[a1]
   exact uZ n t _ _ W R P o h (by simpa[ai.add] using X.2) (by simp[ai.add,L]) H
  cases h
def wF(bA:nG)(t:T)(O:ai)(X:mT)(o:bo):Prop:=∃n,exec bA n t O X=U o
def LI{bA:nG}{X:mT}{o:bo}:wF bA g N X o<->∃n,exec bA (n+1) g N X=U o:=
 ⟨λ⟨n,h⟩=>by
  cases n with
  |zero=>simp[exec] at h
  |succ n=>exact⟨n,h⟩,λ⟨n,h⟩=>⟨n+1,h⟩⟩
@[simp] def aIK {v:C} {X:bG} {W:mT} {o:bo}:wF bA (.ret v X k) N W o<->o=.ret ((yi v).map (C.xv N)):=by
 rw[LI];simp only[exec,cU];exact⟨λ⟨_,h⟩=>h.symm,λh=>⟨0,h.symm⟩⟩
@[simp] def aIL {v:C} {X:mT} {o:bo}:wF bA (.bI v) N X o<->(Ik N v).map .bI=U o:=by
 rw[LI];simp only[exec];exact⟨λ⟨_,h⟩=>h,λh=>⟨0,h⟩⟩
@[simp] def aIM {b:BE} {f:T} {X:mT} {o:bo}:wF bA (.aT b g f) N X o<->if b.ab N=J then wF bA g N X o else wF bA f N X o:=by
 rw[LI];simp only[exec];split<;>rfl
@[simp] def aIN {b:BE} {X:mT} {o:bo}:wF bA (.be b g) N X o<->b.ab N=J/\wF bA g N X o:=by
 rw[LI];simp only[exec];by_cases W:b.ab N=J;simp only[W,cN,true_and];rfl;simp[W]
@[simp] def aIO {W:aS} {X:mT} {o:bo}:wF bA (.loop y W v g) N X o<->wF bA g (N.ext (v.map (C.xv N))) (⟨y,g,N⟩::X) o:=by
 rw[LI];simp only[exec];rfl
@[simp] def aIP {x:LE} {W:bv} {X:mT} {o:bo}:wF bA (.new h x k W g) N X o<->wF bA g (N.add (.r (gv x N))) X o:=by
 rw[LI];simp only[exec];rfl
end
structure yj(P:Program)(g:FuncId)(eT:TypeId):Prop where
 zM:∀args W,(callFunc g args).run P W=.ok (.enter g args) W
 ret:∀(W:World)(b:Nat),CallsDIn Fence.wide 0 P g #[.pointer (U ⟨b,0,Z⟩)] .returning W λen u W'=>(∃v,en=.returned v)/\u=.returning/\W'=W
 bI:∀(W:World)(b:Nat)(k0 k:Int),W.heap[b]?=U (.cells #[.int I k0] eT (0,0))->CallsDIn Fence.wide 0 P g #[.pointer (U ⟨b,0,Z⟩)] (.panicking [{v:=.iface eT (.int I k),recovered:=E}]) W λen u W'=>
  (∃v,en=.returned v)/\u=.panicking [{v:=.iface eT (.int I k),recovered:=J}]/\W'=W.putObj b (.cells #[.int I k] eT (0,0))
def ayU{c:Code}{d:DI}(h:zA c=U d):∃P O R X W first Q V,c=.seq (.region P d.tK E) (.seq (.region O R E) d.rest)/\R= #[X,W]/\X.op=.makeFunc (.func d.g) first Q/\first= #[]/\Q= #[.tmp d.te]/\X.dst=U d.tf/\X.guard=Z/\W.op=.defer V/\V.callee=.value (.tmp d.tf)/\V.args= #[]/\W.guard=Z/\W.dst=none:=by
 unfold zA at h;split at h;rename_i P tK O R w;unfold ajr at h;split at h;rename_i X W M;split at h;rename_i g first Q v V L H G F D B
 split at h;rename_i u t A z y x;split at h;rename_i N;simp only[dE] at N;subst N;cases h;exact⟨P,O,R,X,W,first,Q,V,rfl,by apply nq;simp[M],L,by apply nq;simp[A],by apply nq;simp[z],H,G,F,y,by apply nq;simp[x],D,B⟩;cases h;cases h;cases h;cases h;cases h
section
variable{p:Sp}{cf:bE}
def ayV(w:jL p cf)(a9:∀ch W,¬p.R (.panicked ch) W){f:FuncId}{M:Func}{c:Code}(hf:p.P.funcs[f]?=U M)(hb:M.body=U c){d:DI}(j:zA c=U d){eT:TypeId}(a0:yj p.P d.g eT)
  {n:Nat}{al:aq}{s:S}{O:ai}{V:ar}{t:T}
  (ht:OJ cf n f c M.ntmps M.results.toList eT al s=t)(L:t.aP p O [])(hg:e8 cf.gl O)(R:az p.S0 p.w0 cg.none cf.ty V O {s with tmps:=[]} ⟨#[],[]⟩ p.w0):
  Calls p.P f (C.aE O V al).toArray p.w0 p.R:=by
 subst ht;unfold OJ at L;rw[j] at L;simp only at L;obtain⟨i0,i1,cD,r,q,first,cI,dc,hc,ho,g1,g2,g3,g4,g5,g6,g7,g8,g9,b3⟩:=ayU j;subst ho g2 g3;refine Lk hf hb ?_;rw[hc];obtain⟨D1,a3⟩:∃D1:cg,D1=⟨[],[],J,[]⟩:=⟨_,rfl⟩;have b4:eF p.w0 D1 s.pd O.y [] p.w0:=by
  subst a3;have h:=R.dl;exact⟨h.len,h.qy,h.dB,h.inj,[],rfl,λ_=>rfl,av,λd j=>by simp at j⟩
 have RE:=R.enter al M.ntmps b4;obtain⟨Rr,ba⟩:=RE.room (mc d.tK.toList);refine Ig (uV (n:=0) (wpIn_region ?_));have hY:=FE (p:=p) (cf:=cf) D1.dB ⟨{s with tmps:=al++eN (M.ntmps-Y al) (.bM [])},O,V,[]⟩;have bb:=BD (ops:=d.tK) w.pt w.zp (zQ Z) w.kQ (Lt w (Lw w n).1 hY) (D:=D1) (k:=aaa cf n f d eT (Y s.ap) M.results.toList) (kp:=λ_ _=>.stuck "") (Q:=Exit.then (λF B=>jA Z f p.P (.seq (.region i1 #[r,q] E) d.rest) (bodyPostM Fence.wide 0 p.P M p.R) F B) (bodyPostM Fence.wide 0 p.P M p.R)) (λch F B pd y hA hR=>(a9 ch B hR).elim) (n:=0) (gU (λ_=>E) J E 0 (Y s.ap) d.tK.toList) 0 _ [] [] O _ _ p.w0
  (λi m' hi=>by have:=Lr _ _ _ _ _ _ _ _ hi;simpa using this) ((jX.here _ _ _ _).go ba (dm.refl _ _)) L (λx hx=>by cases hx) Rr hg ?_ (λv s' o V' F B L' hl hL R' b5=>b5.elim)
 rw[Ur] at bb;simpa[SJ] using bb;intro b a N G A L1 b6 cO R1 af;show jA Z f p.P (.seq (.region i1 #[r,q] E) d.rest) (bodyPostM Fence.wide 0 p.P M p.R) G A;unfold aaa at af;split at af;rename_i X b7;split at af;rename_i bc;simp only[aw,ik,cm] at bc;obtain⟨⟨bd,b8⟩,ca⟩:=bc;have cc:G.tmps[d.te]?=U (.pointer (U ⟨ad N X,0,Z⟩)):=by
  rcases R1.tmps _ _ b7 with h|h;cases h;exact h
 have cl:G.defers=[]:=by
  have h:=R1.dl;rw[a3] at h;obtain⟨ms,q1,q0,-,-⟩:=h.mh;have:=q0 rfl;subst this;simpa using q1
 have cn:(C.fn d.g [.loc X 0]).ab a N=.func (.func d.g) #[] #[.pointer (U ⟨ad N X,0,Z⟩)]:=by simp[C.ab,C.aE]
 have z:=R1.put (U d.tf) (.fn d.g [.loc X 0]);rw[cn] at z;obtain⟨H,an⟩:∃H:Deferred,H={target:=.fn (.func d.g) #[.pointer (U ⟨ad N X,0,Z⟩)],args:= #[]}:=⟨_,rfl⟩;have co:eF p.w0 ⟨[],[],E,[H]⟩ b.pd a.y [H] A:=by
  have h:=R1.dl;rw[a3] at h;exact⟨h.len,h.qy,h.dB,h.inj,[],rfl,λ_=>rfl,av,λd j=>by simp at j⟩
 have cR:(b.put (U d.tf) (.fn d.g [.loc X 0])).pd=b.pd:=rfl;have R2:az p.S0 p.w0 ⟨[],[],E,[H]⟩ cf.ty N a (b.put (U d.tf) (.fn d.g [.loc X 0])) {G.put (U d.tf) (.func (.func d.g) #[] #[.pointer (U ⟨ad N X,0,Z⟩)]) with defers:=[H]} A:=
  ⟨z.mem,z.gJ,z.ei,z.eb,z.er,co,z.size,z.tmps,z.gj⟩
 refine Ig (uV (n:=0) (wpIn_region ?_));have cp:fw (#[r,q]:dN).size=[0,1]:=rfl;rw[cp];have e1:(execOp G.eval r).run p.P A=.ok (.value (.func (.func d.g) #[] #[.pointer (U ⟨ad N X,0,Z⟩)])) A:=by
  have:G.eval (.tmp d.te)=.pointer (U ⟨ad N X,0,Z⟩):=by simp[Act.eval,auU,cc]
  simp[execOp,g1,this,Instr.makeFunc]
 have e2:(execOp (G.put (U d.tf) (.func (.func d.g) #[] #[.pointer (U ⟨ad N X,0,Z⟩)])).eval q).run p.P A=.ok (.defer H) A:=by
  have cs:d.tf<G.tmps.size:=by rw[R1.size];exact ca
  have:(G.put (U d.tf) (.func (.func d.g) #[] #[.pointer (U ⟨ad N X,0,Z⟩)])).eval (.tmp d.tf)=.func (.func d.g) #[] #[.pointer (U ⟨ad N X,0,Z⟩)]:=by
   simp[Act.eval,Act.put,auU,cs]
  simp[execOp,g6,resolve,g7,g8,this,Deferred.ofValue,an]
 have ct:l9 r (yielded #[r,q] G.tmps)=true:=by simp[l9,g5]
 have cv:∀y,l9 q y=true:=λy=>by simp[l9,g9]
 have cx:∀c',r.op≠ .defer c':=λc' bf=>by rw[g1] at bf;cases bf
 have hF:=zQ Z;show wpOpsIn _ 0 p.P #[r,q] _ [0,1] G A;simp only[wpOpsIn,aiN,A4,tA,ct,cv,cN];refine⟨λf _=>hF.fn f, ?_⟩;rw[zk _ _ _ cx,e1,Oper.uponIn_value,g4];refine⟨λf _=>hF.fn f, ?_⟩;rw[show(Pr Z).round=Z from rfl,avd,e2,aIF];have cy:({(G.put (U d.tf) (.func (.func d.g) #[] #[.pointer (U ⟨ad N X,0,Z⟩)])) with defers:=H::(G.put (U d.tf) (.func (.func d.g) #[] #[.pointer (U ⟨ad N X,0,Z⟩)])).defers}:Act).put q.dst undef={G.put (U d.tf) (.func (.func d.g) #[] #[.pointer (U ⟨ad N X,0,Z⟩)]) with defers:=[H]}:=by
  rw[b3];have:(G.put (U d.tf) (.func (.func d.g) #[] #[.pointer (U ⟨ad N X,0,Z⟩)])).defers=[]:=cl;rw[this];rfl
 rw[cy];show jA Z f p.P d.rest (bodyPostM Fence.wide 0 p.P M p.R) _ A;have cA:(jX.mk (b.put (U d.tf) (.fn d.g [.loc X 0])) a N L1).mi (b.put (U d.tf) (.fn d.g [.loc X 0])) a N L1:=jX.here _ _ _ _;refine(Lw w n).1 ⟨[],[],E,[H]⟩ _ iY Z f d.rest _ _ L1 a N _ A _ (FE _ _) cA rfl (λhh=>by cases hh) ⟨M,hf⟩ af R2 ((hg.ext ba.ext).ext b6.ext) (λch F B pd y hA hR=>(a9 ch B hR).elim) ?_;intro e s' o V' F B L' hl hL RR L;obtain⟨bg,q1,q0,q2,q3⟩:=RR.dl.mh;have R3:=RR.rq q1;have cW:({F with defers:=[H]}:Act)={F with defers:=[H]}:=rfl;have bk:∀d0∈bg,B.heap[d0]?=U (.deferred (U [])):=λd0 cB=>(q3 d0 (by simp[cB])).1
 have bl:bg.Nodup:=(xF.1 q2).1;have br:ad V' X=ad N X:=hl.ext.ad X b8;have bs:∀m,(invoke H.target H.args).run p.P m=.ok (.enter d.g #[.pointer (U ⟨ad N X,0,Z⟩)]) m:=λm=>by
  rw[an];simp[invoke,a0.zM]
 have bx:∀s2:S,∀m,az p.S0 p.w0 ⟨[],[],E,[H]⟩ cf.ty V' o s2 {F with defers:=[H]} m->(tL cf (Y s.ap) M.results.toList s2).aP p o L'->LeavesInM Fence.wide 0 p.P M F.tmps p.R [] .returning m:=by
  intro s2 m R4 ag;unfold tL at ag;split at ag;rename_i l cC;refine⟨_,K8 R4 w.kQ cC, ?_⟩;exact ag o.y V' _ (by rw[w.pt];exact(R4.mem.take _).mO (PA _));exact ag.elim
 have b0:(tL cf (Y s.ap) M.results.toList s').aP p o L'->LeavesInM Fence.wide 0 p.P M F.tmps p.R F.defers .returning B:=by
  intro ag;rw[q1];refine tV av bl bk ⟨av,.inr ⟨by simp[Fence.wide],_,_,_,_,by rw[an],bs _,λg hg=>trivial, ?_⟩⟩;refine(a0.ret _ _).mono ?_;rintro en u W4 ⟨⟨v,rfl⟩,rfl,rfl⟩;exact bx s' _ R3 ag
 cases e with
 |normal=>exact b0 L
 |ret=>exact b0 L
 |exit id=>exact L.elim
 |bI v=>
  simp only[Z9] at L;split at L;rename_i tt x;split at L;rename_i bt y b1;split at L;rename_i b2;simp only[aw,dE] at b2;obtain⟨rfl,rfl⟩:=b2;have a4:=R3.mem.box X bt _ b1;rw[tQ bd] at a4;rw[br] at a4;show LeavesInM Fence.wide 0 p.P M F.tmps p.R F.defers (.panicking _) B;rw[q1];refine tV av bl bk ⟨av,.inr ⟨by simp[Fence.wide],_,_,_,_,by rw[an],bs _,λg hg=>trivial, ?_⟩⟩;refine(a0.bI _ (ad N X) (y.ab o) (x.ab o) a4).mono ?_;rintro en u W4 ⟨⟨v,rfl⟩,rfl,rfl⟩;have R4:=R3.akj (cs':=[.int I x]) b1;rw[tQ bd,br] at R4;exact bx _ _ R4 L;exact L.elim;exact L.elim;exact L.elim
 exact af.elim;exact af.elim
end
def pP:T->T
 |.aT _ t _=>t
 |.be _ t=>t
 |.call _ _ _ _ _ _ t=>t
 |.loop _ _ _ t=>t
 |.new _ _ _ _ t=>t
 |.ac _ _ _ t=>t
 |.gF _ _ t _=>t
 |.pick _ _ _ t _=>t
 |.eE _ _ _ _ _ _ _ t=>t
 |t=>t
def LJ:T->T
 |.aT _ _ t=>t
 |.gF _ _ _ t=>t
 |.pick _ _ _ _ t=>t
 |t=>t
def sx(g t:T):T:=match g with
 |.stuck m=>.stuck m
 |_=>t
def T.cut(t:T):T->T:=T.rec (motive:=λ_=>T->T) (λe s g=>sx g (.out e s)) (λv b r g=>sx g (.ret v b r)) (λv g=>sx g (.bI v)) (λb _ _ X W g=>sx g (.aT b (X (pP g)) (W (LJ g)))) (λb _ X g=>sx g (.be b (X (pP g)))) (λf a b r k s _ X g=>sx g (.call f a b r k s (X (pP g)))) (λl k x _ X g=>sx g (.loop l k x (X (pP g)))) (λl x g=>sx g (.back l x)) (λe x r V _ X g=>sx g (.new e x r V (X (pP g)))) (λk x r _ X g=>sx g (.ac k x r (X (pP g)))) (λb c _ _ X W g=>sx g (.gF b c (X (pP g)) (W (LJ g)))) (λn b c _ _ X W g=>sx g (.pick n b c (X (pP g)) (W (LJ g)))) (λf R e Q O r N _ X g=>sx g (.eE f R e Q O r N (X (pP g)))) (λm g=>sx g (.stuck m)) t
def u0{p:Sp}{g t:T}(h:(sx g t).aP p N b):t.aP p N b:=by
 unfold sx at h;split at h;exact h.elim;exact h
def wG{p:Sp}:∀(t g:T)(O:ai)(L:dC),(t.cut g).aP p O L->t.aP p O L
 |.out _ _,_,_,_,h=>u0 h
 |.ret _ _ _,_,_,_,h=>u0 h
 |.bI _,_,_,_,h=>u0 h
 |.back _ _,_,_,_,h=>u0 h
 |.stuck _,_,_,_,h=>u0 h
 |.aT b t f,g,O,L,h=>by
  have h:=u0 (g:=g) (t:=.aT b (t.cut (pP g)) (f.cut (LJ g))) h;exact⟨λe=>wG _ _ _ _ (h.1 e),λe=>wG _ _ _ _ (h.2 e)⟩
 |.be b t,g,O,L,h=>by
  have h:=u0 (g:=g) (t:=.be b (t.cut (pP g))) h;exact⟨h.1,wG _ _ _ _ h.2⟩
 |.call f a b r k s t,g,O,L,h=>by
  have h:=u0 (g:=g) (t:=.call f a b r k s (t.cut (pP g))) h;intro y V W H;refine(h y V W H).mono λe W' N=> ?_
  cases e with
  |returned v=>
   obtain⟨M,R,Q,F,D,B⟩:=N;exact⟨M,R,Q,F,D,wG _ _ _ _ B⟩
  |panicked c=>exact N
  |outgrown=>exact N
 |.loop l k x t,g,O,L,h=>by
  have h:=u0 (g:=g) (t:=.loop l k x (t.cut (pP g))) h;obtain⟨X,A,R,Q⟩:=h;exact⟨X,A,R,λM a b=>wG _ _ _ _ (Q M a b)⟩
 |.new e x r z t,g,O,L,h=>by
  have h:=u0 (g:=g) (t:=.new e x r z (t.cut (pP g))) h;exact λw a=>wG _ _ _ _ (h w a)
 |.ac k x r t,g,O,L,h=>by
  have h:=u0 (g:=g) (t:=.ac k x r (t.cut (pP g))) h;exact wG t (pP g) _ _ h
 |.gF b c t f,g,O,L,h=>by
  have h:=u0 (g:=g) (t:=.gF b c (t.cut (pP g)) (f.cut (LJ g))) h;exact⟨λe=>wG _ _ _ _ (h.1 e),λe=>wG _ _ _ _ (h.2 e)⟩
 |.pick n b c t f,g,O,L,h=>by
  have h:=u0 (g:=g) (t:=.pick n b c (t.cut (pP g)) (f.cut (LJ g))) h;exact⟨λj u a2 q=>wG _ _ _ _ (h.1 j u a2 q),λe=>wG _ _ _ _ (h.2 e)⟩
 |.eE f o e m i r d t,g,O,L,h=>by
  have h:=u0 (g:=g) (t:=.eE f o e m i r d (t.cut (pP g))) h;obtain⟨af,R,Q⟩:=h;exact⟨af,R,wG _ _ _ _ Q⟩
def ctE(c:Bool)(g t:T):T:=cond c (t.cut g) t
def ayW{p:Sp}{c:Bool}{g t:T}(h:(ctE c g t).aP p N b):t.aP p N b:=by
 cases c;exact h;exact wG _ _ _ _ h
section
variable{P:Program}{u:Ty}{M Q:FuncId->rY}{bA:nG}{G:World->Prop}{H A:jU}{X z:aS}
structure LL(u:Ty)(gl:nu)(glk:bv)(glv:aC)(W:World)(glw:aC):Prop where
 len:Y glv=Y glw
 eq:∀(k:Nat)(v v':RV),glv[k]?=U v->glw[k]?=U v'->dG v v'
 held:∀(k:Nat)(e:RK)(rv:RV),glk[k]?=U e->glw[k]?=U rv->bJ W u e rv
 ab8:∀xs,e8 gl (fU glw xs)
def ab9{cf:bE}{w:aC}{l:aq}{nb:Nat}{B:bv}
  (al:cf.ty=u)(an:∀f,DM P u M Q G f (bA f))(hG:∀e W',Below e.heap.size e W'->G e->G W')(a0:iG u H=U X)
  (hl:ku u A v=U l)(a1:su 0 0 (Y w) z l=J)(af:B=k++jM z)(a3:∀(V:Nat)(g:TypeId),B[V]?≠U (.own g))(a4:Y w=Y k)(m:w=[]\/uY X=J)
  (a9:∀F L,eP z L->(fU F L).i.length=y)(ba:∀F L,eP z L->(fU F L).b.length=nb)
   (bb:G e){F:aC}(s:LL u cf.gl k w e F){xh L:bq}{o:bo}{N:Nat}(hN:run u M Q bA H N g (fU w xh) B []=U o)(hx:BJ xh L)(p:eP z L)(hH:zV u e z L):
  g.aP (LG P u e H X z L o) (fU F L) []/\C.aE (fU F L) [] v=wD u A (pO z L)/\az [] e cg.none cf.ty [] (fU F L) ⟨[],[],y,nb,B,0,0,[]⟩ ⟨#[],[]⟩ e:=by
 have a:Y F=Y k:=by rw[<-s.len];exact a4
 have hv:C.aE (fU F L) [] v=wD u A (pO z L):=by
  rw[UO hl,fU,PK (by rw[<-s.len];exact a1) p rfl rfl rfl]
 have ag:(fU F L).r.length=Y B:=by rw[af];exact PM p a
 have hS:lz (fU w xh) (fU F L):=lz.ext ⟨rfl,rfl,s.len,λV R v' g1 g2=>s.eq V R v' g1 g2⟩ hx;have bc:g.aP (LG P u e H X z L o) (fU F L) []:=by
  refine ayQ (old:=λb=>zU u z L b\/F≠[]) an hG bb a0 (λys b n d=> ?_) N g _ _ B [] [] hN hS ag ?_ (wE.nil _);rcases d with d|d;exact d;rcases m with m|m;subst m;have:F=[]:=CW.1 (by rw[<-s.len];rfl);exact aZ this d;exact(am9 m n).elim;rw[af];refine In.ext (λb n=> ?_) p a (λb n=>.inr (.inl n));obtain⟨V,O,hk,hl⟩:=n;refine .inr (.inr (λhe=> ?_));subst he;have:=(ck.1 hk).1;simp at a;omega
 have bd:∀(V:Nat)(O:RK)(D:RV),B[V]?=U O->(fU F L).r[V]?=U D->bJ e u O D:=by
  intro V O D g1 g2;have:=Ia (PP:=λO D=>bJ e u O D) z L ⟨[],[],0,0,k,0,0,[]⟩ ⟨[],[],F,[]⟩ p a (λq O D x c=>hH q O D x c) (λV O D x c=>s.held V O D x c);rw[UT] at this;exact this V O D (by rw[<-af];exact g1) g2
 exact⟨bc,hv,⟨⟨gY.refl _ _,λi h=>by simp[aK,cV] at h,λi j h=>by simp[aK,cV] at h,λi g cs h=>by simp[cV] at h,λV O D x c=>⟨by rw[al];exact bd V O D x c,λb n i hi=>by simp[aK,cV] at hi⟩⟩,rfl,a9 _ L p,ba _ L p,ag,by rw[show(fU F L).y=[] from K6 L _];exact UQ _ _,rfl,λg sv h=>by simp at h,λV O D b x=>aZ x (a3 V O)⟩⟩
def ayX{cf:bE}{B:Func}{c:Code}{F:bq->kE}{glk:bv}{glv:aC}{l:aq}{x s:Nat}
  (al:∀w R,(∀r W b o,w.heap.size<=b->R (.panicked r) W->R (.panicked r) (W.putObj b o))->jL ⟨P,u,[],w,cg.none,R,λ_ _ _=>False⟩ cf)(an:cf.ty=u)(a0:∀t,DM P u M Q G t (bA t))(hG:∀W q,Below W.heap.size W q->G W->G q)
  (hf:P.funcs[t]?=U B)(hb:B.body=U c)(a1:M t=U A)(a3:Q t=U H)(a4:iG u A=U z)(m:iG u H=U X)
  (hl:ku u A v=U l)(a9:su 0 0 (Y glv) z l=J)(ba:k=glk++jM z)(bb:∀(V:Nat)(g:TypeId),k[V]?≠U (.own g))(bc:Y glv=Y glk)(hq:glv=[]\/uY X=J)
  (bd:∀D L,eP z L->(fU D L).i.length=x)(bf:∀D L,eP z L->(fU D L).b.length=s)
  (bg:∀W,G W->∃D,LL u cf.gl glk glv W D)
  (ht:∀(p:Sp)(O:ai),g.aP p O []->(OI cf y t c B.ntmps B.results.toList v ⟨[],[],x,s,k,0,0,[]⟩).aP p O [])
  (hF:∀L o,eP z L->F L=U o->∃N,run u M Q bA H N g (fU glv L) k []=U o):DM P u M Q G t F:=by
 intro bl br bs bt j h e d xh L o ho a af W ag hH;rw[a1] at j;cases j;rw[a3] at h;cases h;rw[a4] at e;cases e;rw[m] at d;cases d;obtain⟨N,hN⟩:=hF xh o (UP af a) ho;obtain⟨D,hL⟩:=bg W ag;obtain⟨bk,hv,hR⟩:=ab9 an a0 hG m hl a9 ba bb bc hq bd bf ag hL hN a af hH;rw[<-hv];exact amA (p:=LG P u W H X z L o) (cf:=cf) (al W _ (ab6 W)) hf hb rfl (ht _ _ bk) (hL.ab8 L) hR
def ayY{cf:bE}{x:Func}{c:Code}{F:bq->kE}{glk:bv}{glv:aC}{l:aq}{m j:Nat}{d:DI}
  (al:∀w R,(∀s W b o,w.heap.size<=b->R (.panicked s) W->R (.panicked s) (W.putObj b o))->jL ⟨P,u,[],w,cg.none,R,λ_ _ _=>False⟩ cf)(an:cf.ty=u)(a0:∀t,DM P u M Q G t (bA t))(hG:∀W r,Below W.heap.size W r->G W->G r)
  (hf:P.funcs[t]?=U x)(hb:x.body=U c)(hd:zA c=U d)(a1:yj P d.g h)(a3:M t=U A)(a4:Q t=U H)(a9:iG u A=U z)(e:iG u H=U X)
  (hl:ku u A v=U l)(ba:su 0 0 (Y glv) z l=J)(bb:k=glk++jM z)(bc:∀(V:Nat)(g:TypeId),k[V]?≠U (.own g))(bd:Y glv=Y glk)(hq:glv=[]\/uY X=J)
  (bf:∀B D,eP z D->(fU B D).i.length=m)(bg:∀B D,eP z D->(fU B D).b.length=j)
  (bk:∀W,G W->∃B,LL u cf.gl glk glv W B)
  (ht:∀(p:Sp)(O:ai),g.aP p O []->(OJ cf y t c x.ntmps x.results.toList h v ⟨[],[],m,j,k,0,0,[]⟩).aP p O [])(bl:∀D L,F D≠U (.bI L))
  (hF:∀D o,eP z D->F D=U o->∃N,run u M Q bA H N g (fU glv D) k []=U o):DM P u M Q G t F:=by
 intro bs bt bx b0 a h2 h3 h4 xh D o ho hx af W ag hH;rw[a3] at a;cases a;rw[a4] at h2;cases h2;rw[a9] at h3;cases h3;rw[e] at h4;cases h4;obtain⟨N,hN⟩:=hF xh o (UP af hx) ho;obtain⟨B,hL⟩:=bk W ag;obtain⟨br,hv,q⟩:=ab9 an a0 hG e hl ba bb bc bd hq bf bg ag hL hN hx af hH;rw[<-hv];refine ayV (p:=LG P u W H X z D o) (cf:=cf) (al W _ (ab6 W)) (λs r q=> ?_) hf hb hd a1 rfl (ht _ _ br) (hL.ab8 D) q;obtain⟨-,L,h5,-⟩:=q;exact bl xh L (by rw[ho,h5])
end
def anc:Op->Bool
 |.move _|.assign _|.fieldAddr _ _ _|.field _ _ _|.load _ _|.indexAddr _ _ _|.build _ _|.index _ _ _|.unOp _ _ _|.convert _ _ _|.makeInterface _ _|.makeFunc _ _ _|.extract _ _|.nilCheck _|.alloc _|.box _ _|.pick _ _ _=>J
 |.binOp X _ _ _ _=>match X with
  |.eql|.neq=>E
  |_=>J
 |_=>E
def aca(X:bE)(m:OM)(s:S):Bool:=(Dc X m s).isSome
def ayZ{X:bE}{m:OM}(h:aca X m w=E):Dc X m w=none:=by
 simpa[aca] using h
def UU(R:bE)(O:qp)(m:OM)(s:S)(X:S->Fx->T)(Q:C->S->T)(V:Fx):T:=
 if anc m.o.op then match gG R m s with
  |.ok W=>X W V
  |.be b W=>.be b (X W V)
  |.split b N M=>Db s V b (X N) (X M)
  |.no L=>.stuck L
 else if aca R m s then Bl R O m s X Q V else match Bj R m s with
 |U (e,H,G,P)=>Fa e (λg F=>O (.fn g) (P++F) s (λv W=>X (W.put m.o.dst v) (pF s V)) Q) H G
 |none=>
 match eB R s m.o with
 |.call (.fn g) P=>O (.fn g) P s (λv W=>X (W.put m.o.dst v) (pF s V)) Q
 |.call (.yl n) P=>if m.so then O (.yl n) P s (λv W=>X (W.put m.o.dst v) (pF s V)) Q else .stuck ""
 |.bI v=>Q v s
 |.no=>.stuck ""
 |.op=>match Bi R m s X V with
  |U t=>t
  |none=>match eZ R m.o m.bS m.dr s with
  |U b=>.be b.be (.new b.e b.x s.rs b.s.rs (X b.s (pF s V)))
  |none=>match gG R m s with
  |.ok W=>X W V
  |.be b W=>.be b (X W V)
  |.split b N M=>Db s V b (X N) (X M)
  |.no L=>.stuck L
def ay0(X:bE)(R:qp)(m:OM)(s:S)(Q:S->Fx->T)(P:C->S->T)(O:Fx):UU X R m s Q P O=Bl X R m s Q P O:=by
 unfold UU;split;rename_i W;unfold Bl;cases V:m.o.op<;>rw[V] at W<;>simp only[anc,jp] at W<;>try(simp[Bj,Dc,eB,Bi,eZ,V]<;>rfl)
 rename_i N t x y z;cases N<;>simp only[jp] at W<;>(simp[Bj,Dc,eB,Bi,eZ,V]<;>rfl);split;rfl;rename_i M;unfold Bl;rw[ayZ (by simpa using M)];cases Bj X m s<;>rfl
def OM.up(n:Nat)(m:OM):OM:={m with ix:=m.ix+n}
def UV(bS:Nat->Bool)(X W:Bool)(k:Nat):∀(l:pB)(j n:Nat),gU bS X W j (n+k) l=(gU bS X W j n l).map (OM.up k)
 |[],_,_=>rfl
 |o::r,j,n=>by
  simp only[gU,dU];congr 1;rw[<-UV bS X W k r];congr 1;split<;>omega
def ay1(k:Nat)(l:cX)(X:ar):Km (l.map (OM.up k)) X=(Km l X).map (OM.up k):=by
 simp only[Km,List.map_filterMap,dW]
def acb(k:Nat)(X:ar):∀l:cX,Bp X (l.map (OM.up k))=Bp X l
 |[]=>rfl
 |x::r=>by simp only[dU,Bp,acb k X r,N9];rfl
def ane(k:Nat)(X:ar):∀(l W:cX),uO X (W.map (OM.up k)) (l.map (OM.up k))=(uO X W l).map (OM.up k)
 |[],_=>rfl
 |m::r,W=>by
  simp only[dU,uO];congr 1;have h:=acb k X (m::r);simp only[dU] at h;rw[h,N9];rfl;rw[<-ane k X r (W++[m]),N5];rfl
def anf(k:Nat)(X:dN):∀(l:cX)(done:ar),Fe X done (l.map (OM.up k))=Fe X done l
 |[],_=>rfl
 |x::r,done=>by simp only[dU,Fe,anf k X r];rfl
def ay2(k a b:Nat):(a+k !=b+k)=(a !=b):=by
 rw[uD];simp
def ay3(k:Nat)(X:dN)(x y:OM):uN X (OM.up k x) (OM.up k y)=uN X x y:=by
 have h:((OM.up k x).ix !=(OM.up k y).ix)=(x.ix !=y.ix):=ay2 k _ _;unfold uN Kl Ov;rw[h];rfl
def ang(k:Nat)(X:dN)(W:ar):∀l:cX,Fc X W (l.map (OM.up k))=Fc X W l
 |[]=>rfl
 |x::r=>by
  simp only[dU,Fc,ang k X W r,N9];congr 2;funext y;simp only[Function.comp,ay3];rfl
def anh(k:Nat):∀l:ar,ny (l.map (· +k))=ny l
 |[]=>rfl
 |x::r=>by
  simp only[dU,ny,anh k r];congr 2;rw[uD];simp
def pQ(X:dN)(n:Nat):cX:=uO (pG X.toList) [] (Km (gU (Ox X.toList (pG X.toList)) E J 0 n X.toList) (Ow X.toList X.size []))
def ay4(X:dN)(n:Nat):pQ X n=(pQ X 0).map (OM.up n):=by
 unfold pQ;rw[show gU (Ox X.toList (pG X.toList)) E J 0 n X.toList=(gU (Ox X.toList (pG X.toList)) E J 0 0 X.toList).map (OM.up n) by rw[<-UV];simp,ay1,<-ane];rfl
def acd(X:dN)(n:Nat):Option cX:=match Ko X 0 with
 |U l=>U (l.map (OM.up n))
 |none=>Z
def ani(X:dN)(n:Nat):Ko X n=if Tk X.toList (pG X.toList)&&Fe X [] (pQ X n)&&Fc X (pG X.toList) (pQ X n)&&ny ((pQ X n).filterMap (·.o.dst))&&ny ((pQ X n).map (·.j))&&ny (((pQ X n).filter λm=>gT m.o.op).map (·.ix))&&(pQ X n).length==X.size&&(fw X.size).all (λi=>(pQ X n).any λm=>m.j==i) then U (pQ X n) else none:=rfl
def ay5(X:dN)(n:Nat):acd X n=Ko X n:=by
 unfold acd;rw[ani X n,ani X 0,ay4 X n,anf,ang];have V:((pQ X 0).map (OM.up n)).filterMap (·.o.dst)=(pQ X 0).filterMap (·.o.dst):=by rw[aID];rfl
 have R:((pQ X 0).map (OM.up n)).map (·.j)=(pQ X 0).map (·.j):=by rw[ov];rfl
 have Q:(((pQ X 0).map (OM.up n)).filter λm=>gT m.o.op).map (·.ix)=(((pQ X 0).filter λm=>gT m.o.op).map (·.ix)).map (· +n):=by rw[ave,ov,ov];rfl
 have P:∀i,(((pQ X 0).map (OM.up n)).any λm=>m.j==i)=((pQ X 0).any λm=>m.j==i):=λi=>by rw[ai1];rfl
 rw[V,R,Q,anh,qX];simp only[P];split;rename_i l h;split at h;rename_i W;cases h;rw[aJ W];cases h;rename_i h;split at h;cases h;rename_i W;rw[aQ W]
def anj(W:Bool)(X:dN)(n:Nat):Dj W X n=(Dj W X 0).map (OM.up n)/\Dl W X n=(Dl W X 0).map (OM.up n):=by
 unfold Dj Dl;rw[show gU (λ_=>E) E J 0 n X.toList=(gU (λ_=>E) E J 0 0 X.toList).map (OM.up n) by rw[<-UV];simp,ave,ave];exact⟨rfl,rfl⟩
def ay6(W:Bool)(X:dN)(n:Nat):Kx W X n=Kx W X 0:=by
 unfold Kx;obtain⟨V,R⟩:=anj W X n;rw[V,R,show gU (λ_=>E) E J 0 n X.toList=(gU (λ_=>E) E J 0 0 X.toList).map (OM.up n) by rw[<-UV];simp];unfold Z2;rw[<-N5];have Q:∀l:cX,(l.map (OM.up n)).filterMap (·.o.dst)=l.filterMap (·.o.dst):=λl=>by rw[aID];rfl
 have P:∀l:cX,(l.map (OM.up n)).map (·.j)=l.map (·.j):=λl=>by rw[ov];rfl
 rw[Q,P,qX];simp only[N9,ai1,Function.comp_def];rfl
def UW(V:bE)(W:Bool)(X:dN)(s:S):Option OA:=
 if(!W||(Z1 V s X.toList||(V.lK&&X.toList.any λo=>ajn o.op))&&Bp (pG X.toList) (Dl W X 0))&&Kx W X 0 then(Fj V ((Dj W X 0).map (OM.up (Y s.ap))) (s.room (mc X.toList))).bind (Z3 V ((Dj W X 0).map (OM.up (Y s.ap))) ((Dl W X 0).map (OM.up (Y s.ap)))) else Z
def ay7(V:bE)(X:Bool)(W:dN)(s:S):UW V X W s=Ky V X W s:=by
 unfold UW Ky;obtain⟨Q,R⟩:=anj X W (Y s.ap);rw[<-Q,<-R,ay6 X W (Y s.ap),R,acb]
def Ip{X:Type}(l:List X):(List X->T)->T:=zm (motive:=λ_=>(List X->T)->T) (λk=>k []) (λx _ W k=>W λV=>k (x::V)) l
def ace{W:Type}:∀(l:List W)(k:List W->T),Ip l k=k l
 |[],_=>rfl
 |x::X,k=>ace X λX=>k (x::X)
def cH(n:Nat)(k:Nat->T):T:=Hk (motive:=λ_=>T) (k 0) (λm _=>k (Nat.succ m)) n
def kS:∀(n:Nat)(k:Nat->T),cH n k=k n
 |0,_=>rfl
 |_+1,_=>rfl
def S.acf(s:S)(k:S->T):T:=S.rec (motive:=λ_=>T) (λX b W V R ax Q P=>Ip X λX=>Ip b λb=>cH W λW=>cH V λV=>Ip R λR=>cH ax λax=>cH Q λQ=>Ip P λP=>k ⟨X,b,W,V,R,ax,Q,P⟩) s
def ay8(s:S)(k:S->T):s.acf k=k s:=by
 cases s;simp only[S.acf,ace,kS]
def PU{X:Type}(l:List X)(k:List X->T):T:=zm (motive:=λ_=>T) (k []) (λx W _=>k (x::W)) l
def ay9{X:Type}(l:List X)(k:List X->T):PU l k=k l:=by cases l<;>rfl
def S.acg(s:S)(k:S->T):T:=S.rec (motive:=λ_=>T) (λX b W V R ax Q P=>PU X λX=>PU b λb=>cH W λW=>cH V λV=>PU R λR=>cH ax λax=>cH Q λQ=>PU P λP=>k ⟨X,b,W,V,R,ax,Q,P⟩) s
def aza(s:S)(k:S->T):s.acg k=k s:=by
 cases s;simp only[S.acg,ay9,kS]
def DN(X:bE)(W:qp)(V:dN)(k:S->T)(R:C->S->T):cX->S->Fx->T
 |[],s,_=>k s
 |m::Q,s,P=>s.acg λs=>Tf V m s P (UU X W m s (DN X W V k R Q) R) (DN X W V k R Q (s.put m.o.dst (.bM [])))
def PV(X:bE)(W:qp)(R:dN)(k:S->T)(V:C->S->T):∀(l:cX),DN X W R k V l=oA X W R k V l
 |[]=>by funext s P;rfl
 |m::Q=>by
  funext s P;have:UU X W m s (DN X W R k V Q) V=Bl X W m s (oA X W R k V Q) V:=by
   funext P;rw[ay0,PV X W R k V Q]
  simp only[DN,oA,aza];rw[this,PV X W R k V Q]
def PW(n:Int)(k:Int->T):T:=Int.rec (motive:=λ_=>T) (λn=>cH n λn=>k (ai8 n)) (λn=>cH n λn=>k (ai4 n)) n
def azb:∀(n:Int)(k:Int->T),PW n k=k n
 |.ofNat n,k=>kS n λn=>k (ai8 n)
 |.negSucc n,k=>kS n λn=>k (ai4 n)
def K.deep(e:K):(K->T)->T:=K.rec (motive_1:=λ_=>(K->T)->T) (motive_2:=λ_=>(BE->T)->T) (motive_3:=λ_=>(RE->T)->T) (λn k=>PW n λn=>k (.c n)) (λn k=>cH n λn=>k (.v n)) (λo q a b X W k=>X λa=>W λb=>k (.bin o q a b)) (λq a X k=>X λa=>k (.conv q a)) (λr V k=>V λr=>k (.len r)) (λm a b X W k=>X λa=>W λb=>k (.mm m a b)) (λb x y W P O k=>W λb=>P λx=>O λy=>k (.eo b x y)) (λr i j V R k=>V λr=>R λi=>cH j λj=>k (.cell r i j)) (λr i V R k=>V λr=>R λi=>k (.nW r i)) (λr n a b c j V X W Q k=>V λr=>X λa=>W λb=>Q λc=>cH n λn=>cH j λj=>k (.look r n a b c j)) (λb k=>k (.c b)) (λn k=>cH n λn=>k (.v n)) (λo a b X W k=>X λa=>W λb=>k (.cmp o a b)) (λa X k=>X λa=>k (.not a)) (λa b X W k=>X λa=>W λb=>k (.and a b)) (λa b X W k=>X λa=>W λb=>k (.beq a b)) (λb x y W P O k=>W λb=>P λx=>O λy=>k (.eo b x y)) (λr i j V R k=>V λr=>R λi=>cH j λj=>k (.cell r i j)) (λa b X W k=>X λa=>W λb=>k (.seq a b)) (λr n a b c j V X W Q k=>V λr=>X λa=>W λb=>Q λc=>cH n λn=>cH j λj=>k (.look r n a b c j)) (λr n a b c V X W Q k=>V λr=>X λa=>W λb=>Q λc=>cH n λn=>k (.has r n a b c)) (λn k=>cH n λn=>k (.v n)) (λr i j q V R k=>V λr=>R λi=>cH j λj=>k (.cell r i j q)) (λv k=>k (.k v)) e
def BE.deep(e:BE):(BE->T)->T:=BE.rec (motive_1:=λ_=>(K->T)->T) (motive_2:=λ_=>(BE->T)->T) (motive_3:=λ_=>(RE->T)->T) (λn k=>PW n λn=>k (.c n)) (λn k=>cH n λn=>k (.v n)) (λo q a b X W k=>X λa=>W λb=>k (.bin o q a b)) (λq a X k=>X λa=>k (.conv q a)) (λr V k=>V λr=>k (.len r)) (λm a b X W k=>X λa=>W λb=>k (.mm m a b)) (λb x y W P O k=>W λb=>P λx=>O λy=>k (.eo b x y)) (λr i j V R k=>V λr=>R λi=>cH j λj=>k (.cell r i j)) (λr i V R k=>V λr=>R λi=>k (.nW r i)) (λr n a b c j V X W Q k=>V λr=>X λa=>W λb=>Q λc=>cH n λn=>cH j λj=>k (.look r n a b c j)) (λb k=>k (.c b)) (λn k=>cH n λn=>k (.v n)) (λo a b X W k=>X λa=>W λb=>k (.cmp o a b)) (λa X k=>X λa=>k (.not a)) (λa b X W k=>X λa=>W λb=>k (.and a b)) (λa b X W k=>X λa=>W λb=>k (.beq a b)) (λb x y W P O k=>W λb=>P λx=>O λy=>k (.eo b x y)) (λr i j V R k=>V λr=>R λi=>cH j λj=>k (.cell r i j)) (λa b X W k=>X λa=>W λb=>k (.seq a b)) (λr n a b c j V X W Q k=>V λr=>X λa=>W λb=>Q λc=>cH n λn=>cH j λj=>k (.look r n a b c j)) (λr n a b c V X W Q k=>V λr=>X λa=>W λb=>Q λc=>cH n λn=>k (.has r n a b c)) (λn k=>cH n λn=>k (.v n)) (λr i j q V R k=>V λr=>R λi=>cH j λj=>k (.cell r i j q)) (λv k=>k (.k v)) e
def RE.deep(e:RE):(RE->T)->T:=RE.rec (motive_1:=λ_=>(K->T)->T) (motive_2:=λ_=>(BE->T)->T) (motive_3:=λ_=>(RE->T)->T) (λn k=>PW n λn=>k (.c n)) (λn k=>cH n λn=>k (.v n)) (λo q a b X W k=>X λa=>W λb=>k (.bin o q a b)) (λq a X k=>X λa=>k (.conv q a)) (λr V k=>V λr=>k (.len r)) (λm a b X W k=>X λa=>W λb=>k (.mm m a b)) (λb x y W P O k=>W λb=>P λx=>O λy=>k (.eo b x y)) (λr i j V R k=>V λr=>R λi=>cH j λj=>k (.cell r i j)) (λr i V R k=>V λr=>R λi=>k (.nW r i)) (λr n a b c j V X W Q k=>V λr=>X λa=>W λb=>Q λc=>cH n λn=>cH j λj=>k (.look r n a b c j)) (λb k=>k (.c b)) (λn k=>cH n λn=>k (.v n)) (λo a b X W k=>X λa=>W λb=>k (.cmp o a b)) (λa X k=>X λa=>k (.not a)) (λa b X W k=>X λa=>W λb=>k (.and a b)) (λa b X W k=>X λa=>W λb=>k (.beq a b)) (λb x y W P O k=>W λb=>P λx=>O λy=>k (.eo b x y)) (λr i j V R k=>V λr=>R λi=>cH j λj=>k (.cell r i j)) (λa b X W k=>X λa=>W λb=>k (.seq a b)) (λr n a b c j V X W Q k=>V λr=>X λa=>W λb=>Q λc=>cH n λn=>cH j λj=>k (.look r n a b c j)) (λr n a b c V X W Q k=>V λr=>X λa=>W λb=>Q λc=>cH n λn=>k (.has r n a b c)) (λn k=>cH n λn=>k (.v n)) (λr i j q V R k=>V λr=>R λi=>cH j λj=>k (.cell r i j q)) (λv k=>k (.k v)) e
mutual
def K.fz:∀(e:K)(k:K->T),e.deep k=k e
 |.c n,k=>by show(PW n λn=>k (.c n))=_;rw[azb]
 |.v n,k=>by show(cH n λn=>k (.v n))=_;rw[kS]
 |.bin o q a b,k=>by show(K.deep a λa=>K.deep b λb=>k (.bin o q a b))=_;rw[K.fz a,K.fz b]
 |.conv q a,k=>by show(K.deep a λa=>k (.conv q a))=_;rw[K.fz a]
 |.len r,k=>by show(RE.deep r λr=>k (.len r))=_;rw[RE.fz r]
 |.mm m a b,k=>by show(K.deep a λa=>K.deep b λb=>k (.mm m a b))=_;rw[K.fz a,K.fz b]
 |.eo b x y,k=>by show(BE.deep b λb=>K.deep x λx=>K.deep y λy=>k (.eo b x y))=_;rw[BE.fz b,K.fz x,K.fz y]
 |.cell r i j,k=>by show(RE.deep r λr=>K.deep i λi=>cH j λj=>k (.cell r i j))=_;rw[RE.fz r,K.fz i,kS]
 |.nW r i,k=>by show(RE.deep r λr=>K.deep i λi=>k (.nW r i))=_;rw[RE.fz r,K.fz i]
 |.look r n a b c j,k=>by show(RE.deep r λr=>K.deep a λa=>K.deep b λb=>K.deep c λc=>cH n λn=>cH j λj=>k (.look r n a b c j))=_;rw[RE.fz r,K.fz a,K.fz b,K.fz c,kS,kS]
def BE.fz:∀(e:BE)(k:BE->T),e.deep k=k e
 |.c b,k=>rfl
 |.v n,k=>by show(cH n λn=>k (.v n))=_;rw[kS]
 |.cmp o a b,k=>by show(K.deep a λa=>K.deep b λb=>k (.cmp o a b))=_;rw[K.fz a,K.fz b]
 |.not a,k=>by show(BE.deep a λa=>k (.not a))=_;rw[BE.fz a]
 |.and a b,k=>by show(BE.deep a λa=>BE.deep b λb=>k (.and a b))=_;rw[BE.fz a,BE.fz b]
 |.beq a b,k=>by show(BE.deep a λa=>BE.deep b λb=>k (.beq a b))=_;rw[BE.fz a,BE.fz b]
 |.eo b x y,k=>by show(BE.deep b λb=>BE.deep x λx=>BE.deep y λy=>k (.eo b x y))=_;rw[BE.fz b,BE.fz x,BE.fz y]
 |.cell r i j,k=>by show(RE.deep r λr=>K.deep i λi=>cH j λj=>k (.cell r i j))=_;rw[RE.fz r,K.fz i,kS]
 |.seq a b,k=>by show(RE.deep a λa=>RE.deep b λb=>k (.seq a b))=_;rw[RE.fz a,RE.fz b]
 |.look r n a b c j,k=>by show(RE.deep r λr=>K.deep a λa=>K.deep b λb=>K.deep c λc=>cH n λn=>cH j λj=>k (.look r n a b c j))=_;rw[RE.fz r,K.fz a,K.fz b,K.fz c,kS,kS]
 |.has r n a b c,k=>by show(RE.deep r λr=>K.deep a λa=>K.deep b λb=>K.deep c λc=>cH n λn=>k (.has r n a b c))=_;rw[RE.fz r,K.fz a,K.fz b,K.fz c,kS]
def RE.fz:∀(e:RE)(k:RE->T),e.deep k=k e
 |.v n,k=>by show(cH n λn=>k (.v n))=_;rw[kS]
 |.cell r i j q,k=>by show(RE.deep r λr=>K.deep i λi=>cH j λj=>k (.cell r i j q))=_;rw[RE.fz r,K.fz i,kS]
 |.k v,k=>rfl
end
def C.deep(v:C):(C->T)->T:=C.rec (motive_1:=λ_=>(C->T)->T) (motive_2:=λ_=>(aq->T)->T) (λq e k=>e.deep λe=>k (.int q e)) (λb k=>b.deep λb=>k (.bool b)) (λr k=>r.deep λr=>k (.ah r)) (λi o k=>cH i λi=>cH o λo=>k (.loc i o)) (λr w i o k=>r.deep λr=>i.deep λi=>cH w λw=>cH o λo=>k (.el r w i o)) (λi o l c k=>cH i λi=>cH o λo=>cH l λl=>cH c λc=>k (.jf i o l c)) (λl X k=>X λl=>k (.agg l)) (λl X k=>X λl=>k (.bM l)) (λf l X k=>X λl=>cH f λf=>k (.fn f l)) (λt x W k=>W λx=>k (.gX t x)) (λn k=>cH n λn=>k (.yl n)) (λk=>k .any) (λi k=>cH i λi=>k (.mp i)) (λe R V Q k=>e.deep λe=>Q λV=>k (.gg e R V)) (λk=>k []) (λ_ _ W P k=>W λx=>P λO=>k (x::O)) v
def C.DO(l:aq):(aq->T)->T:=C.rec_1 (motive_1:=λ_=>(C->T)->T) (motive_2:=λ_=>(aq->T)->T) (λq e k=>e.deep λe=>k (.int q e)) (λb k=>b.deep λb=>k (.bool b)) (λr k=>r.deep λr=>k (.ah r)) (λi o k=>cH i λi=>cH o λo=>k (.loc i o)) (λr w i o k=>r.deep λr=>i.deep λi=>cH w λw=>cH o λo=>k (.el r w i o)) (λi o l c k=>cH i λi=>cH o λo=>cH l λl=>cH c λc=>k (.jf i o l c)) (λl X k=>X λl=>k (.agg l)) (λl X k=>X λl=>k (.bM l)) (λf l X k=>X λl=>cH f λf=>k (.fn f l)) (λt x W k=>W λx=>k (.gX t x)) (λn k=>cH n λn=>k (.yl n)) (λk=>k .any) (λi k=>cH i λi=>k (.mp i)) (λe R V Q k=>e.deep λe=>Q λV=>k (.gg e R V)) (λk=>k []) (λ_ _ W P k=>W λx=>P λO=>k (x::O)) l
mutual
def C.fz:∀(v:C)(k:C->T),v.deep k=k v
 |.int q e,k=>by show(K.deep e λe=>k (.int q e))=_;rw[K.fz]
 |.bool b,k=>by show(BE.deep b λb=>k (.bool b))=_;rw[BE.fz]
 |.ah r,k=>by show(RE.deep r λr=>k (.ah r))=_;rw[RE.fz]
 |.loc i o,k=>by show(cH i λi=>cH o λo=>k (.loc i o))=_;rw[kS,kS]
 |.el r w i o,k=>by show(RE.deep r λr=>K.deep i λi=>cH w λw=>cH o λo=>k (.el r w i o))=_;rw[RE.fz,K.fz,kS,kS]
 |.jf i o l c,k=>by show(cH i λi=>cH o λo=>cH l λl=>cH c λc=>k (.jf i o l c))=_;rw[kS,kS,kS,kS]
 |.agg l,k=>by show(C.DO l λl=>k (.agg l))=_;rw[C.Iq l]
 |.bM l,k=>by show(C.DO l λl=>k (.bM l))=_;rw[C.Iq l]
 |.fn f l,k=>by show(C.DO l λl=>cH f λf=>k (.fn f l))=_;rw[C.Iq l,kS]
 |.gX t x,k=>by show(C.deep x λx=>k (.gX t x))=_;rw[C.fz x]
 |.yl n,k=>by show(cH n λn=>k (.yl n))=_;rw[kS]
 |.any,k=>rfl
 |.mp i,k=>by show(cH i λi=>k (.mp i))=_;rw[kS]
 |.gg e W X,k=>by show(K.deep e λe=>C.DO X λX=>k (.gg e W X))=_;rw[K.fz,C.Iq X]
def C.Iq:∀(l:aq)(k:aq->T),C.DO l k=k l
 |[],k=>rfl
 |x::X,k=>by show(C.deep x λx=>C.DO X λX=>k (x::X))=_;rw[C.fz x,C.Iq X]
end
def ach(l:bG):(bG->T)->T:=zm (motive:=λ_=>(bG->T)->T) (λk=>k []) (λx _ V k=>Option.rec (motive:=λ_=>T) (V λX=>k (Z::X)) (λb=>Prod.rec (motive:=λ_=>T) (λt W=>cH t λt=>C.DO W λW=>V λX=>k (U (t,W)::X)) b) x) l
def aci:∀(l:bG)(k:bG->T),ach l k=k l
 |[],_=>rfl
 |Z::X,k=>aci X _
 |U (t,W)::X,k=>by
  show(cH t λt=>C.DO W λW=>ach X λX=>k (U (t,W)::X))=_;rw[kS,C.Iq,aci]
def S.deep(s:S)(k:S->T):T:=S.rec (motive:=λ_=>T) (λX b W V R ax Q P=>C.DO X λX=>ach b λb=>cH W λW=>cH V λV=>Ip R λR=>cH ax λax=>cH Q λQ=>Ip P λP=>k ⟨X,b,W,V,R,ax,Q,P⟩) s
def fz(s:S)(k:S->T):s.deep k=k s:=by
 cases s;simp only[S.deep,ace,kS,C.Iq,aci]
def acj(k:XE->S->T):XE->S->T:=λe s=>s.deep (k e)
def azc(k:XE->S->T):acj k=k:=by funext e s;exact fz s (k e)
def pR(l:ar):Nat:=zm (motive:=λ_=>Nat) 0 (λd _ m=>bZ (mG 1 d) m) l
def FJ(m n:Nat):Bool:=J6 (motive:=λ_=>Bool) J E (jd (Nat.land 1 (avl m n)) 0)
def ank(m n:Nat):FJ m n=m.testBit n:=by
 have:m.testBit n= !(jd (Nat.land 1 (avl m n)) 0):=by
  show((1&&&(m>>>n))!=0)= !(jd (1&&&(m>>>n)) 0);cases h:jd (1&&&(m>>>n)) 0 with
  |true=>rw[aIn h];rfl
  |false=>simp only[bne,Bool.not_false,ik,beq_eq_false_iff_ne];exact λe=>by rw[e] at h;cases h
 rw[this,FJ];cases jd (Nat.land 1 (avl m n)) 0<;>rfl
def UX:∀(l:ar)(n:Nat),(pR l).testBit n=l.contains n
 |[],n=>by simp[pR]
 |d::l,n=>by
  have:pR (d::l)=(1<<<d)|||pR l:=rfl;rw[this,E1,UX l n,au5,aIu];rw[uD];simp only[jy,cm,qj,dP];exact⟨λh=>h.imp Eq.symm id,λh=>h.imp Eq.symm id⟩
def azd(l:ar)(n:Nat):FJ (pR l) n=l.contains n:=by rw[ank,UX]
def UY(a:fH)(m X:Nat)(W:aq):Nat->aq->aq
 |_,[]=>[]
 |n,x::V=>(if FJ X n then(wm n a.tm W).getD (if FJ m n then .any else x) else if FJ m n then .any else x)::UY a m X W (n+1) V
def anl{n:Nat}:∀{W:List (Nat×LK)}{X:aq},(W.map (·.1)).contains n=E->wm n W X=Z
 |[],X,_=>by cases X<;>rfl
 |(t,k)::r,[],_=>rfl
 |(t,k)::r,v::R,h=>by
  simp only[dU,List.contains_cons,vZ] at h;have V:(t==n)=false:=by
   have:=h.1;simp only[beq_eq_false_iff_ne,ne_eq] at this⊢;exact λe=>this e.symm
  simp only[wm,V,jp,gf];exact anl h.2
def anm(a:fH)(X:ar)(W:aq):∀(n:Nat)(l:aq),UY a (pR X) (pR (a.tm.map (·.1))) W n l=Bn a X W n l
 |_,[]=>rfl
 |n,x::V=>by
  simp only[UY,Bn,anm a X W (n+1) V,azd];cases R:(a.tm.map (·.1)).contains n with
  |true=>rfl
  |false=>rw[anl R];rfl
def PY(m:Nat):Nat->aq->aq->Bool
 |_,[],[]=>J
 |n,x::X,y::W=>(FJ m n||C.aN x y)&&PY m (n+1) X W
 |_,_,_=>E
def ack(a:fH)(X:ar):∀(n:Nat)(l k:aq),PY (bZ (pR X) (pR (a.tm.map (·.1)))) n l k=zu a X n l k
 |_,[],[]=>rfl
 |_,[],_::_=>rfl
 |_,_::_,[]=>rfl
 |n,x::W,y::V=>by
  simp only[PY,zu,ack a X (n+1) W V];congr 1;have:FJ (bZ (pR X) (pR (a.tm.map (·.1)))) n=(a.tm.any (·.1==n)||X.contains n):=by
   rw[ank];change((pR X)|||(pR (a.tm.map (·.1)))).testBit n=_;rw[E1,UX,UX,Bool.or_comm];congr 1;rw[uD,qj,kH];simp only[iq,dE]
  rw[this]
def acl(a:fH)(X:ar)(s:S):S:=
 let r:aq×S:=S.cP {s with ax:=s.ax+1,rs:=jw a s} a.ks
 {r.2 with tmps:=UY a (pR X) (pR (a.tm.map (·.1))) r.1 0 s.tmps,ap:=uL a (r.1.drop (Y a.tm)) 0 s.ap}
def aze(a:fH)(X:ar)(s:S):acl a X s=ri a X s:=by
 simp only[acl,ri,anm]
def acm(W:fH)(V:ar)(s:S)(k:XE->S->T):XE->S->T
 |.normal,X=>if PY (bZ (pR V) (pR (W.tm.map (·.1)))) 0 s.tmps X.tmps&&tH W 0 s.ap X.ap&&tI X W.ks (kK W X)&&zt (jw W s) X.rs&&HI (jw W s) (HH W X)&&decide (X.pd=s.pd) then .back s.ax (kK W X) else .stuck (ajo W s X)
 |e,X=>k e X
def azf(X:fH)(W:ar)(s:S)(k:XE->S->T):acm X W s k=To X W s k:=by
 funext e V;cases e<;>simp only[acm,To,ack]
def kU(X:bE):Nat->FuncId->Code->S->YH->(XE->S->T)->T
 |0,_,_,_,_,_=>.stuck ""
 |n+1,V,c,s,W,k=>
  match c with
  |.skip=>k .normal s
  |.label _=>k .normal s
  |.ret=>k .ret s
  |.exit id=>k (.exit id) s
  |.seq a b=>kU X n V a s W (Tl (λP=>kU X n V b P W k) k)
  |.block id a=>kU X n V a s W (ZU id k)
  |.scope a=>kU X n V a s W k
  |.cond c a b=>match s.ev X.gl c with
   |.bool (.c J)=>kU X n V a s W k
   |.bool (.c E)=>kU X n V b s W k
   |.bool x=>match c with
    |.tmp t=>.aT x (kU X n V a {s with tmps:=s.tmps.set t (.bool (.c J))} W k) (kU X n V b {s with tmps:=s.tmps.set t (.bool (.c E))} W k)
    |_=>.stuck ""
   |_=>.stuck ""
  |.region id R O=>match Tt X V id s with
   |U (e,G,gF,ae)=>KC e gF (Z6 (λP=>kU X n V (.region id R O) P W k) ae) (λP=>kU X n V (.region id R O) P W k) G
   |none=>s.acf λs=>if O then
    match UW X (!X.Og V id) R s with
    |U c=>OG X (kD X (λf c s k=>kU X n f c s W k) W) R (acj k) c
    |none=>match acd R (Y s.ap) with
    |U M=>if !Kq X R.toList then .stuck "" else DN X (zy X (Fi X R λf c s k=>kU X n f c s iY k) W) R (k .normal) (λv=>k (.bI v)) M (s.Bq R M) []
    |none=>match UW X E R s with
     |U c=>OG X (kD X (λf c s k=>kU X n f c s W k) W) R (acj k) c
     |none=>.stuck ""
   else
   DN X (ZV (X.Og V (id+1000000)) X (kD X (λf c s k=>kU X n f c s W k) W)) R (k .normal) (λv=>k (.bI v)) (gU (λ_=>E) J E 0 (Y s.ap) R.toList) (s.room (mc R.toList)) []
  |.loop a=>match(Code.first a).map (X.loop V) with
   |U (.inv Q)=>
    if !(Z7 Q s).isEmpty then kU X n V (.loop a) (s.dq Q) W k else
    if !s.bd|| !tI s (Q.at s).ks (kK (Q.at s) s)|| !PY (bZ (pR (Code.oU a)) (pR ((Q.at s).tm.map (·.1)))) 0 s.tmps s.tmps|| !tH (Q.at s) 0 s.ap s.ap|| !zt (jw (Q.at s) s) s.rs|| !HI (jw (Q.at s) s) (HH (Q.at s) s) then .stuck (ajp (Q.at s) (Code.oU a) s) else
    .loop s.ax (Q.at s).ks (kK (Q.at s) s) (kU X n V a (acl (Q.at s) (Code.oU a) s) W (acm (Q.at s) (Code.oU a) s k))
   |_=>kU X n V a s W (Tl (λP=>kU X n V (.loop a) P W k) k)
  |.rangeFunc f L assign body=>match s.ev X.gl f with
   |.fn g N=>match X.inl g with
    |U (c,F,[])=>
     if !s.e9 N||s.xV (Y s.pd)||C.pI (Y s.pd) N||ki assign||ki body then .stuck "" else
     kU X n g c (Kz s F N)
      (OD (Y s.pd) L.size λD H B A=>
       kU X n V assign (Dm H s L.toList D) iY (OC (Y s.pd) λz=>
        kU X n V body (z.Dn (Y s.pd) .busy) W (Tp (Y s.pd) H B A))) (HS s k)
    |_=>.stuck ""
   |_=>.stuck ""
  |_=>.stuck ""
def PZ(X:bE):∀n,kU X n=fY X n
 |0=>by funext W c s V k;rfl
 |n+1=>by
  have R:=PZ X n;funext W c s V k;unfold kU fY;simp only[R,PV,ay5,ay7,ay8,ack,aze,azf,azc];cases c<;>rfl
def acn(X:bE)(n:Nat)(V:FuncId)(c:Code)(R:Nat)(Q:nV)(W:aq)(s:S):T:=
 kU X n V c {s with tmps:=W++eN (R-Y W) (.bM [])} iY (Tu X (Y s.ap) Q)
def azg(X:bE)(n:Nat)(W:FuncId)(c:Code)(V:Nat)(R:nV)(Q:aq)(s:S):acn X n W c V R Q s=OI X n W c V R Q s:=by
 unfold acn OI;rw[PZ]
def aco(X:bE)(n:Nat)(Q:FuncId)(c:Code)(P:Nat)(O:nV)(V:TypeId)(R:aq)(s:S):T:=match zA c with
 |U d=>DN X (kD X (λf c s k=>kU X n f c s iY k) iY) d.tK (λW=>match W.tmps[d.te]? with
  |U (.loc i 0)=>if !qY V&&aK W.ap i&&decide (d.tf<Y W.tmps) then kU X n Q d.rest (W.put (U d.tf) (.fn d.g [.loc i 0])) iY (Z9 X (Y s.ap) V i O) else .stuck ""
  |_=>.stuck "") (λ_ _=>.stuck "") (gU (λ_=>E) J E 0 (Y s.ap) d.tK.toList) (({s with tmps:=R++eN (P-Y R) (C.bM [])}:S).room (mc d.tK.toList)) []
 |none=>.stuck ""
def azh(X:bE)(n:Nat)(W:FuncId)(c:Code)(V:Nat)(R:nV)(Q:TypeId)(P:aq)(s:S):aco X n W c V R Q P s=OJ X n W c V R Q P s:=by
 unfold aco OJ;cases zA c with
 |none=>rfl
 |some d=>
  simp only[PZ,PV];rfl
def ann:pB->Option (FuncId×Nat)
 |[o]=>match o.op,o.guard,o.dst with
  |.defer X,Z,Z=>match X.callee,X.args.toList with
   |.value (.func g),[.tmp W]=>U (g,W)
   |_,_=>Z
  |_,_,_=>Z
 |_=>Z
def P0:Code->Option (FuncId×Nat)
 |.region _ X E=>ann X.toList
 |_=>Z
def azi(cf:bE)(r:Nat)(j:nV):XE->S->T
 |.normal,X=>tL cf r j X
 |.ret,X=>tL cf r j X
 |_,_=>.stuck "panic"
def UZ(cf:bE)(n:Nat)(X:dN)(k:S->T)(s:S):T:=DN cf (kD cf (λf c s k=>kU cf n f c s iY k) iY) X k (λ_ _=>.stuck "panic") (gU (λ_=>E) J E 0 (Y s.ap) X.toList) (s.room (mc X.toList)) []
def acp(cf:bE)(n r:Nat)(j:nV):Code->S->T
 |.ret,s=>tL cf r j s
 |.seq (.region _ X E) .ret,s=>UZ cf n X (tL cf r j) s
 |_,_=>.stuck "early"
def LM(cf:bE)(n r:Nat)(j:nV):Code->(S->T)->S->T
 |.region _ X E,k,s=>UZ cf n X k s
 |.seq a b,k,s=>LM cf n r j a (LM cf n r j b k) s
 |.cond c a .skip,k,s=>match s.ev cf.gl c with
  |.bool x=>.aT x (acp cf n r j a s) (k s)
  |_=>.stuck "cond"
 |_,_,_=>.stuck "prefix"
def U0(cf:bE)(n:Nat)(X:FuncId)(r:Nat)(j:nV):Code->S->T
 |.seq a W,s=>match P0 a with
  |U (_,V)=>match s.tmps[V]? with
   |U (.loc i 0)=>if aK s.ap i then kU cf n X W s iY (azi cf r j) else .stuck "defer"
   |_=>.stuck "defer"
  |none=>LM cf n r j a (U0 cf n X r j W) s
 |_,_=>.stuck "no deferred call"
def acq(cf:bE)(n:Nat)(W:FuncId)(c:Code)(V:Nat)(j:nV)(X:aq)(s:S):T:=U0 cf n W (Y s.ap) j c {s with tmps:=X++eN (V-Y X) (.bM [])}
structure DP(P:Program)(g:FuncId):Prop where
 zM:∀args W,(callFunc g args).run P W=.ok (.enter g args) W
 ret:∀(W:World)(b:Nat),CallsDIn Fence.wide 0 P g #[.pointer (U ⟨b,0,Z⟩)] .returning W λen u W'=>(∃v,en=.returned v)/\u=.returning/\W'=W
def DQ:Code->Option FuncId
 |.seq a X=>match P0 a with
  |U (g,_)=>U g
  |none=>DQ X
 |_=>Z
section
variable{p:Sp}{cf:bE}{D:cg}{B:jX}{f:FuncId}{n r:Nat}{j:nV}
def ano(z:jL p cf)(c:∀q e,¬p.R (.panicked q) e)(hY:ru p cf D.dB B iY){Q:Exit->Act->World->Prop}{u:dN}{k:S->T}{a:Act}
  (hB:B.mi w N x b)(h:(UZ cf n u k w).aP p N b)(R:az p.S0 p.w0 D cf.ty x N w a e)(hg:e8 cf.gl N)
  (hk:∀G F t A H r,bH w N x G F t->dm w.ax b r->az p.S0 p.w0 D cf.ty t F G A H->(k G).aP p F r->Q .normal A H):jA Z f p.P (.region y u E) Q a e:=by
 obtain⟨Rr,m⟩:=R.room (mc u.toList);refine uV (n:=0) (wpIn_region ?_);unfold UZ at h;rw[PV,PZ] at h;have l:=BD (ops:=u) z.pt z.zp (zQ Z) z.kQ (Lt z (Lw z n).1 hY) (D:=D) (k:=k) (kp:=λ_ _=>.stuck "panic") (Q:=Q) (λq A H pd X hA hR=>(c q H hR).elim) (n:=0) (gU (λ_=>E) J E 0 (Y w.ap) u.toList) 0 _ [] b N _ _ e
  (λy m' hi=>by have:=Lr _ _ _ _ _ _ _ _ hi;simpa using this) (hB.go m (dm.refl _ _)) h (λM hx=>by cases hx) Rr hg (λG F t A H r j g d o=>hk G F t A H r (m.trans j) g d o) (λv G F t A H r j g d o=>o.elim)
 rw[Ur] at l;simpa[SJ] using l
def azj(y:jL p cf)(v:∀u e,¬p.R (.panicked u) e)(t:ru p cf D.dB B iY){Q:Exit->Act->World->Prop}{c:Code}{a:Act}
  (q:B.mi w N x b)(h:(acp cf n r j c w).aP p N b)(R:az p.S0 p.w0 D cf.ty x N w a e)(o:e8 cf.gl N)
  (z:∀X M F H G A,az p.S0 p.w0 D cf.ty F M X H G->(tL cf r j X).aP p M A->Q .ret H G):jA Z f p.P c Q a e:=by
 unfold acp at h;split at h;exact uV (n:=0) (wpIn_ret (z w N x a e b R h));refine Ig (ano y v t q h R o ?_);intro X M F H G A _ _ m l;exact uV (n:=0) (wpIn_ret (z X M F H G A m l));exact h.elim
def azk(g:jL p cf)(e:∀ch W,¬p.R (.panicked ch) W)(hY:ru p cf D.dB B iY):∀(c:Code)(k:S->T)(Q:Exit->Act->World->Prop)(s:S)(L:dC)(O:ai)(V:ar)(a:Act)(W:World),
  B.mi s O V L->(LM cf n r j c k s).aP p O L->az p.S0 p.w0 D cf.ty V O s a W->e8 cf.gl O->
  (∀X N A H G w,bH s O V X N A->dm s.ax L w->az p.S0 p.w0 D cf.ty A N X H G->(k X).aP p N w->Q .normal H G)->
  (∀X N A H G w,az p.S0 p.w0 D cf.ty A N X H G->(tL cf r j X).aP p N w->Q .ret H G)->jA Z f p.P c Q a W:=by
 intro c;induction c with
 |region i a3 d=>
  intro k Q s L O V a W F h R M v u;cases d with
  |true=>exact False.elim h
  |false=>exact ano g e hY F h R M v
 |seq x y ag af=>
  intro k Q s L O V a W F h R M v u;refine Ig (ag (LM cf n r j y k) _ s L O V a W F h R M ?_ ?_);intro X N A H G w q hL R' al;refine af k Q X w N A H G (F.go q hL) al R' (M.ext q.ext) ?_ u;intro s2 O2 V2 a2 W2 L2 an a0 R2 a1;exact v s2 O2 V2 a2 W2 L2 (q.trans an) (dm.trans (m:=X.ax) hL a0 q.ax) R2 a1;exact u
 |cond x y z af a4=>
  intro k Q s L O V a W F h R M v u;cases z with
  |skip=>
   simp only[LM] at h;split at h;rename_i b hc;have l:=du R M x (by rw[hc];rfl);rw[hc] at l;cases o:b.ab O;exact Lj (t:=E) (by simpa[C.ab,o] using l) (uV (n:=0) (wpIn_skip (v s O V a W L (bH.refl _ _ _) (dm.refl _ _) R (h.2 o))));exact Lj (t:=J) (by simpa[C.ab,o] using l) (azj g e hY F (h.1 o) R M u);exact h.elim
  |_=>exact False.elim h
 |_=>intro k Q s L O V a W F h R M v u;exact False.elim h
def anp(X:jL p cf){Q:Func}{a:Act}(R:az p.S0 p.w0 D cf.ty x N w a e)(h:(tL cf r Q.results.toList w).aP p N b):
  LeavesInM Fence.wide 0 p.P Q a.tmps p.R [] .returning e:=by
 unfold tL at h;split at h;rename_i l M;refine⟨_,K8 R X.kQ M, ?_⟩;exact h N.y x _ (by rw[X.pt];exact(R.mem.take _).mO (PA _));exact h.elim
def azl{c:Code}(h:P0 c=U (t,y)):∃i o X,c=.region i #[o] E/\o.op=.defer X/\X.callee=.value (.func t)/\X.args= #[.tmp y]/\o.guard=Z/\o.dst=none:=by
 unfold P0 at h;split at h;rename_i i W;unfold ann at h;split at h;rename_i o V;split at h;rename_i X R Q P;split at h;rename_i M L O N;simp only[cU,C2] at h;obtain⟨rfl,rfl⟩:=h;exact⟨i,o,X,by rw[show W= #[o] by apply nq;simp[V]],R,O,by apply nq;simp[N],Q,P⟩;cases h;cases h;cases h;cases h
def azm(A:jL p cf)(an:∀b W,¬p.R (.panicked b) W){N:Func}(hf:p.P.funcs[f]?=U N)(hY:ru p cf [] B iY):∀(c:Code)(s:S)(L:dC)(O:ai)(V:ar)(a:Act)(W:World),
  (∀g,DQ c=U g->DP p.P g)->B.mi s O V L->(U0 cf n f r N.results.toList c s).aP p O L->az p.S0 p.w0 ⟨[],[],J,[]⟩ cf.ty V O s a W->e8 cf.gl O->
  jA Z f p.P c (bodyPostM Fence.wide 0 p.P N p.R) a W:=by
 intro c;induction c with
 |seq x a0 _ ih=>
  intro s L O V a W af hB h R F;simp only[U0] at h;cases H:P0 x with
  |none=>
   rw[H] at h;simp only at h;refine Ig (azk (D:=⟨[],[],J,[]⟩) A an hY x _ _ s L O V a W hB h R F ?_ ?_);intro z w V' Q M t hl hL m ag;exact ih z t w V' Q M (λg a4=>af g (by simp only[DQ,H];exact a4)) (hB.go hl hL) ag m (F.ext hl.ext);intro z w V' Q M t m ag;obtain⟨ms,G,l,-,-⟩:=m.dl.mh;have:=l rfl;subst this;show LeavesInM Fence.wide 0 p.P N Q.tmps p.R Q.defers .returning M;rw[show Q.defers=[] by simpa using G];exact anp A m ag
  |some q=>
   obtain⟨g,te⟩:=q;rw[H] at h;simp only at h;obtain⟨i,o,dc,rfl,g1,g2,g3,g4,g5⟩:=azl H;have hc:=af g (by simp only[DQ,H]);split at h;rename_i k a9;split at h;rename_i bx;have ba:a.tmps[te]?=U (.pointer (U ⟨ad V k,0,Z⟩)):=by
    rcases R.tmps _ _ a9 with h|h;cases h;exact h
   have bb:a.defers=[]:=by
    obtain⟨ms,G,l,-,-⟩:=R.dl.mh;have:=l rfl;subst this;simpa using G
   obtain⟨X,al⟩:∃X:Deferred,X={target:=.fn (.func g) #[],args:= #[.pointer (U ⟨ad V k,0,Z⟩)]}:=⟨_,rfl⟩;have bc:eF p.w0 ⟨[],[],E,[X]⟩ s.pd O.y [X] W:=by
    have h:=R.dl;exact⟨h.len,h.qy,h.dB,h.inj,[],rfl,λ_=>rfl,av,λd H=>by simp at H⟩
   have R2:az p.S0 p.w0 ⟨[],[],E,[X]⟩ cf.ty V O s {a with defers:=[X]} W:=⟨R.mem,R.gJ,R.ei,R.eb,R.er,bc,R.size,R.tmps,R.gj⟩;refine Ig (uV (n:=0) (wpIn_region ?_));have bd:fw (#[o]:dN).size=[0]:=rfl;rw[bd];have e2:(execOp a.eval o).run p.P W=.ok (.defer X) W:=by
    have:a.eval (.tmp te)=.pointer (U ⟨ad V k,0,Z⟩):=by simp[Act.eval,auU,ba]
    have h0:a.eval (.func g)=.func (.func g) #[] #[]:=rfl;simp[execOp,g1,resolve,g2,g3,this,h0,Deferred.ofValue,al]
   have bf:∀y,l9 o y=true:=λy=>by simp[l9,g4]
   have hF:=zQ Z;show wpOpsIn _ 0 p.P #[o] _ [0] a W;simp only[wpOpsIn,aiN,A4,bf,cN];refine⟨λf _=>hF.fn f, ?_⟩;rw[show(Pr Z).round=Z from rfl,avd,e2,aIF];have bg:({a with defers:=X::a.defers}:Act).put o.dst undef={a with defers:=[X]}:=by
    rw[g5,bb];rfl
   rw[bg];show jA Z f p.P a0 (bodyPostM Fence.wide 0 p.P N p.R) _ W;rw[PZ] at h;refine(Lw A n).1 ⟨[],[],E,[X]⟩ _ iY Z f a0 _ _ L O V _ W _ (FE _ _) (jX.here s O V L) rfl (λhh=>by cases hh) ⟨N,hf⟩ h R2 F (λb Q M pd y hA hR=>(an b M hR).elim) ?_;intro e z w V' Q M t hl hL RR j;obtain⟨a1,G,l,q2,q3⟩:=RR.dl.mh;have R3:=RR.rq G;have bk:∀d0∈a1,M.heap[d0]?=U (.deferred (U [])):=λd0 bl=>(q3 d0 (by simp[bl])).1
   have br:a1.Nodup:=(xF.1 q2).1;have bs:∀Wx,(invoke X.target X.args).run p.P Wx=.ok (.enter g #[.pointer (U ⟨ad V k,0,Z⟩)]) Wx:=λWx=>by
    rw[al];simp[invoke,hc.zM]
   have a3:(tL cf r N.results.toList z).aP p w t->LeavesInM Fence.wide 0 p.P N Q.tmps p.R Q.defers .returning M:=by
    intro bt;rw[G];refine tV av br bk ⟨av,.inr ⟨by simp[Fence.wide],_,_,_,_,by rw[al],bs _,λg F=>trivial, ?_⟩⟩;refine(hc.ret _ _).mono ?_;rintro en u W4 ⟨⟨v,rfl⟩,rfl,rfl⟩;exact anp (a:={Q with defers:=[X]}) A R3 bt
   cases e with
   |normal=>exact a3 j
   |ret=>exact a3 j
   |exit id=>exact j.elim
   |bI v=>exact j.elim
   exact h.elim;exact h.elim
 |_=>intro s L O V a W af hB h R F;exact False.elim h
def azn(M:jL p cf)(L:∀H W,¬p.R (.panicked H) W){X:Func}{c:Code}(Q:p.P.funcs[f]?=U X)(G:X.body=U c)(F:∀g,DQ c=U g->DP p.P g)
    (A:(acq cf n f c X.ntmps X.results.toList v w).aP p N [])(z:e8 cf.gl N)(R:az p.S0 p.w0 cg.none cf.ty x N {w with tmps:=[]} ⟨#[],[]⟩ p.w0):
  Calls p.P f (C.aE N x v).toArray p.w0 p.R:=by
 refine Lk Q G ?_;have u:eF p.w0 ⟨[],[],J,[]⟩ w.pd N.y [] p.w0:=by
  have h:=R.dl;exact⟨h.len,h.qy,h.dB,h.inj,[],rfl,λ_=>rfl,av,λd t=>by simp at t⟩
 have RE:=R.enter v X.ntmps u;exact azm M L Q (FE (p:=p) (cf:=cf) [] ⟨{w with tmps:=v++eN (X.ntmps-Y v) (.bM [])},N,x,[]⟩) c _ [] N x _ p.w0 F (jX.here _ _ _ _) A RE z
end
def evX(cf:bE)(R:Option TypeId)(n:Nat)(X:FuncId)(c:Code)(W:Nat)(j:nV)(V:aq)(s:S):T:=match R with
 |none=>acn cf n X c W j V s
 |U 0=>acq cf n X c W j V s
 |U Q=>aco cf n X c W j Q V s
def acs(P:Program)(c:Code)(X:Option TypeId):Prop:=match X with
 |none=>True
 |U 0=>∀g,DQ c=U g->DP P g
 |U W=>∃d,zA c=U d/\yj P d.g W
section
variable{P:Program}{a:Ty}{M Q:FuncId->rY}{bA:nG}{G:World->Prop}{H A:jU}{X d:aS}
def azo{cf:bE}{x:Func}{c:Code}{F:bq->kE}{glk:bv}{glv:aC}{l:aq}{q m:Nat}
  (al:∀w R,(∀u W b o,w.heap.size<=b->R (.panicked u) W->R (.panicked u) (W.putObj b o))->jL ⟨P,a,[],w,cg.none,R,λ_ _ _=>False⟩ cf)(an:cf.ty=a)(a0:∀t,DM P a M Q G t (bA t))(hG:∀W s,Below W.heap.size W s->G W->G s)
  (hf:P.funcs[t]?=U x)(hb:x.body=U c)(a1:∀V,DQ c=U V->DP P V)(a3:M t=U A)(a4:Q t=U H)(a9:iG a A=U d)(j:iG a H=U X)
  (hl:ku a A v=U l)(ba:su 0 0 (Y glv) d l=J)(bb:k=glk++jM d)(bc:∀(L:Nat)(g:TypeId),k[L]?≠U (.own g))(bd:Y glv=Y glk)(hq:glv=[]\/uY X=J)
  (bf:∀z B,eP d B->(fU z B).i.length=q)(bg:∀z B,eP d B->(fU z B).b.length=m)
  (bk:∀W,G W->∃z,LL a cf.gl glk glv W z)
  (ht:∀(p:Sp)(O:ai),g.aP p O []->(acq cf y t c x.ntmps x.results.toList v ⟨[],[],q,m,k,0,0,[]⟩).aP p O [])(bl:∀B D,F B≠U (.bI D))
  (hF:∀B o,eP d B->F B=U o->∃N,run a M Q bA H N g (fU glv B) k []=U o):DM P a M Q G t F:=by
 intro bs bt bx b0 h e h3 h4 xh B o ho hx af W ag hH;rw[a3] at h;cases h;rw[a4] at e;cases e;rw[a9] at h3;cases h3;rw[j] at h4;cases h4;obtain⟨N,hN⟩:=hF xh o (UP af hx) ho;obtain⟨z,hL⟩:=bk W ag;obtain⟨br,hv,r⟩:=ab9 an a0 hG j hl ba bb bc bd hq bf bg ag hL hN hx af hH;rw[<-hv];refine azn (p:=LG P a W H X d B o) (cf:=cf) (al W _ (ab6 W)) (λu s r=> ?_) hf hb a1 (ht _ _ br) (hL.ab8 B) r;obtain⟨-,D,h5,-⟩:=r;exact bl xh D (by rw[ho,h5])
end
section
variable{bA u:nG}
def oW(L:∀f H o,bA f H=U o->u f H=U o):∀(n R:Nat)(t:T)(O:ai)(i:mT)(o:bo),n<=R->exec bA n t O i=U o->exec u R t O i=U o
 |0,_,t,O,i,o,_,h=>by simp[exec] at h
 |n+1,0,t,O,i,o,G,h=>aa
 |n+1,R+1,t,O,i,o,G,h=>by
  have X:=oW L n R;cases t with
  |ret v F Q=>simpa only[exec] using h
  |bI v=>simpa only[exec] using h
  |aT b t f=>
   simp only[exec] at h⊢;split at h;rename_i W;rw[aJ W];exact X t O i o aa h;rename_i W;rw[aQ W];exact X f O i o aa h
  |be b t=>
   simp only[exec] at h⊢;split at h;rename_i W;rw[aJ W];exact X t O i o aa h;cases h
  |call f D F Q B jz t=>
   simp only[exec] at h⊢;cases N:bA f ((oV D).map (C.xv O)) with
   |none=>rw[N] at h;cases h
   |some r=>
    rw[N] at h;rw[L _ _ _ N];cases r with
    |ret y=>
     simp only at h⊢;split at h;rename_i P;rw[aJ P];exact X t _ i o aa h;cases h
    |bI v=>exact h
  |loop ax B w t=>
   simp only[exec] at h⊢;exact X t _ _ o aa h
  |back ax x=>
   simp only[exec] at h⊢;cases P:BL ax i with
   |none=>rw[P] at h;cases h
   |some q=>
    obtain⟨A,p⟩:=q;rw[P] at h;exact X A.t _ _ o aa h
  |new e x Q l t=>
   simp only[exec] at h⊢;exact X t _ i o aa h
  |ac k x Q t=>
   simp only[exec] at h⊢;exact X t _ i o aa h
  |gF g z t f=>
   simp only[exec] at h⊢;split at h;rename_i M;rw[aJ M];split at h;rename_i V;rw[aJ V];exact amY h (X t O i o aa) (X f O i o aa);rename_i V;rw[aQ V];exact X t O i o aa h;rename_i M;rw[aQ M];split at h;rename_i V;rw[aJ V];exact X f O i o aa h;cases h
  |pick m g z t f=>
   simp only[exec] at h⊢;refine amZ h λj _ q=> ?_
   cases j with
   |some j=>exact X t _ i o aa q
   |none=>exact X f _ i o aa q
  |eE f g e d c r Q t=>
   simp only[exec] at h⊢;split at h;rename_i a af;exact X t _ i o aa h;cases h
  |out e s=>simp[exec] at h
  |stuck m=>simp[exec] at h
end
def iV(n:Int):RV:=.mk (.int I n) []
def bV(b:Bool):RV:=.mk (.bool b) []
def sV(l:bz):RV:=.mk (.slice Z (Y l) (Y l)) (l.map λn=>[iV n])
def nH(b:Nat)(X:au):RV:=.mk (.slice (U ⟨b,0,Z⟩) (Y X) (Y X)) X
def kV:aC:=[
 nH 0 ([(E,E,E,0,0,0),(J,J,E,1,0,16),(E,J,E,1,0,16),(J,J,E,0,3,0),(J,J,E,0,3,0),(E,J,E,0,3,0),(E,E,E,0,0,7),(E,E,J,0,0,0),(E,E,J,0,0,0),(J,E,E,0,3,0)].map λ(a,b,c,d,e,f)=>[bV a,bV b,bV c,iV d,iV e,iV f]),
 nH 1 ([([],[]),([0],[]),([],[0,1]),([0],[]),([2],[]),([],[4]),([],[]),([],[2,3]),([],[0,1]),([2],[])].map λ(a,b)=>[sV a,sV b]),
 nH 2 ([(0,29),(20,21),(29,0),(20,-21),(0,-29),(-20,-21),(-29,0),(-20,21)].map λ(a,b)=>[iV a,iV b])]
def mo(g:Bool):aC:=if g then kV else[]
def BN(d:Bool):kE->kE
 |U (.ret X)=>U (.ret X)
 |U (.bI v)=>if d then Z else U (.bI v)
 |none=>Z
structure Fn where
 t:T
 g:Bool:=E
 d:Bool:=E
structure lA where
 tree:FuncId->Option Fn
 tW:nG
def lA.bA(p:lA):Nat->nG
 |0=>p.tW
 |n+1=>λf W=>match p.tW f W with
  |U o=>U o
  |none=>match p.tree f with
   |U X=>BN X.d (exec (lA.bA p n) n X.t (fU (mo X.g) W) [])
   |none=>Z
def nJ{p:lA}:∀(n W:Nat)(f:FuncId)(X:bq)(o:bo),n<=W->p.bA n f X=U o->p.bA W f X=U o
 |0,0,f,X,o,_,h=>h
 |0,W+1,f,X,o,_,h=>by
  simp only[lA.bA] at h⊢;rw[h]
 |n+1,0,f,X,o,M,_=>aa
 |n+1,W+1,f,X,o,M,h=>by
  simp only[lA.bA] at h⊢;cases Q:p.tW f X with
  |some P=>rw[Q] at h;exact h
  |none=>
   rw[Q] at h;simp only at h⊢;cases N:p.tree f with
   |none=>rw[N] at h;cases h
   |some V=>
    rw[N] at h;simp only at h⊢;cases R:exec (p.bA n) n V.t (fU (mo V.g) X) [] with
    |none=>rw[R] at h;cases h
    |some P=>
     rw[R] at h;rw[oW (λf X o h=>nJ n W f X o aa h) n W V.t _ _ P aa R];exact h
def lA.Ev(p:lA)(f:FuncId)(X:bq)(o:bo):Prop:=∃n,p.bA n f X=U o
def lA.Go(p:lA)(t:T)(O:ai)(i:mT)(o:bo):Prop:=∃n,exec (p.bA n) n t O i=U o
section
variable{p:lA}{O:ai}{i:mT}{o:bo}
def anq{X:bq}(h:p.tW t X=U o):p.Ev t X o:=⟨0,h⟩
def azp{W:bq}{X:Fn}(Q:p.tree t=U X)(P:p.tW t W=Z)(V:X.d=E\/∃R,o=.ret R)(h:p.Go X.t (fU (mo X.g) W) [] o):p.Ev t W o:=by
 obtain⟨n,h⟩:=h;refine⟨n+1, ?_⟩;simp only[lA.bA,P,Q,h];rcases V with V|⟨R,rfl⟩;cases o<;>simp[BN,V];rfl
def go_of:p.Go g O i o<->∃n,exec (p.bA (n+1)) (n+1) g O i=U o:=
 ⟨λ⟨n,h⟩=>⟨n,oW (λf X o h=>nJ n (n+1) f X o aa h) n (n+1) g O i o aa h⟩,λ⟨n,h⟩=>⟨n+1,h⟩⟩
def go_up{m:Nat}(h:exec (p.bA y) m g O i=U o):p.Go g O i o:=
 ⟨max y m,oW (λf X o h=>nJ y _ f X o aa h) m _ g O i o aa h⟩
@[simp] def go_ret {v:C} {X:bG}:p.Go (.ret v X k) O i o<->o=.ret ((yi v).map (C.xv O)):=by
 rw[go_of];simp only[exec,cU];exact⟨λ⟨_,h⟩=>h.symm,λh=>⟨0,h.symm⟩⟩
@[simp] def go_pan {v:C}:p.Go (.bI v) O i o<->(Ik O v).map .bI=U o:=by
 rw[go_of];simp only[exec];exact⟨λ⟨_,h⟩=>h,λh=>⟨0,h⟩⟩
@[simp] def go_node {b:BE} {f:T}:p.Go (.aT b g f) O i o<->if b.ab O=J then p.Go g O i o else p.Go f O i o:=by
 rw[go_of];simp only[exec];split
 ·exact⟨λ⟨n,h⟩=>go_up h,λ⟨n,h⟩=>⟨n,oW (λf X o h=>nJ n (n+1) f X o aa h) n n g O i o aa h⟩⟩
 ·exact⟨λ⟨n,h⟩=>go_up h,λ⟨n,h⟩=>⟨n,oW (λf X o h=>nJ n (n+1) f X o aa h) n n f O i o aa h⟩⟩
@[simp] def go_need {b:BE}:p.Go (.be b g) O i o<->b.ab O=J/\p.Go g O i o:=by
 rw[go_of];simp only[exec];by_cases X:b.ab O=J
 ·simp only[X,cN,true_and];exact⟨λ⟨n,h⟩=>go_up h,λ⟨n,h⟩=>⟨n,oW (λf W o h=>nJ n (n+1) f W o aa h) n n g O i o aa h⟩⟩
 simp[X]
@[simp] def go_loop {X:aS}:p.Go (.loop y X v g) O i o<->p.Go g (O.ext (v.map (C.xv O))) (⟨y,g,O⟩::i) o:=by
 rw[go_of];simp only[exec];exact⟨λ⟨n,h⟩=>go_up h,λ⟨n,h⟩=>⟨n,oW (λf W o h=>nJ n (n+1) f W o aa h) n n g _ _ o aa h⟩⟩
@[simp] def go_new {e:TypeId} {x:LE} {X W:bv} {t:T}:p.Go (.new e x X W t) O i o<->p.Go t (O.add (.r (gv x O))) i o:=by
 rw[go_of];simp only[exec];exact⟨λ⟨n,h⟩=>go_up h,λ⟨n,h⟩=>⟨n,oW (λf V o h=>nJ n (n+1) f V o aa h) n n t _ _ o aa h⟩⟩
@[simp] def go_rows {X:RK} {x:LE}:p.Go (.ac X x k g) O i o<->p.Go g (O.add (.r (gv x O))) i o:=by
 rw[go_of];simp only[exec];exact⟨λ⟨n,h⟩=>go_up h,λ⟨n,h⟩=>⟨n,oW (λf W o h=>nJ n (n+1) f W o aa h) n n g _ _ o aa h⟩⟩
def go_turn{f g:FuncId}{e:TypeId}{X:bp}{W:Bool}{r:RE}{R:bv}{t:T}{V:au}(h:n8 O X W (r.rv O).ac=U V):p.Go (.eE f g e X W r R t) O i o<->p.Go t (O.add (.r (.mk (r.rv O).val V))) i o:=by
 rw[go_of];simp only[exec,h];exact⟨λ⟨n,h⟩=>go_up h,λ⟨n,h⟩=>⟨n,oW (λf Q o h=>nJ n (n+1) f Q o aa h) n n t _ _ o aa h⟩⟩
def go_back{W:mT}{X:Lp}(h:BL y i=U (X,W)):p.Go (.back y v) O i o<->p.Go X.t (X.O.ext (v.map (C.xv O))) (X::W) o:=by
 rw[go_of];simp only[exec,h];exact⟨λ⟨n,h⟩=>go_up h,λ⟨n,h⟩=>⟨n,oW (λf V o h=>nJ n (n+1) f V o aa h) n n X.t _ _ o aa h⟩⟩
def go_call{R:bG}{V:aS}{jz:C}{X:bq}(h:p.Ev t ((oV v).map (C.xv O)) (.ret X))(Q:ko V X=J)(W:p.Go g (O.ext X) i o):p.Go (.call t v R k V jz g) O i o:=by
 obtain⟨n,h⟩:=h;obtain⟨m,W⟩:=W;refine⟨max n m+1, ?_⟩;simp only[exec];rw[nJ n _ _ _ _ aa h];simp only[Q,cN];exact oW (λt P o h=>nJ m _ t P o aa h) m _ g _ _ o aa W
def go_callp{W:bG}{V:aS}{jz:C}{X:Value}(h:p.Ev t ((oV v).map (C.xv O)) (.bI X)):p.Go (.call t v W k V jz g) O i (.bI X):=by
 obtain⟨n,h⟩:=h;refine⟨n+1, ?_⟩;simp only[exec];rw[nJ n _ _ _ _ aa h]
end
structure PC where
 ax:Nat
 I:bq->Prop
 μ:bq->Nat
 m:Nat
abbrev de:=List PC
def zW(ax:Nat):de->Option PC
 |[]=>Z
 |x::X=>if x.ax=ax then U x else zW ax X
def P1(R:bo->Prop):Prop:=∀o X,R o->R X->o=X/\DL o o=J
def T.nK(W:FuncId->bq->bo->Prop):T->(bo->Prop)->ai->de->Prop
 |.ret v _ _,R,O,_=>R (.ret ((yi v).map (C.xv O)))
 |.bI v,R,O,_=>∃x,Ik O v=U x/\R (.bI x)
 |.aT b t f,R,O,L=>(b.ab O=J->t.nK W R O L)/\(b.ab O=E->f.nK W R O L)
 |.be b t,R,O,L=>b.ab O=J/\t.nK W R O L
 |.call f G _ _ F _ t,R,O,L=>∃o,W f ((oV G).map (C.xv O)) o/\(match o with
  |.ret N=>ko F N=J/\t.nK W R (O.ext N) L
  |.bI v=>R (.bI v))
 |.loop ax _ D t,R,O,L=>∃V Q,((V=R/\Q=L)\/((∀o,V o->R o)/\Q=[]))/\∃X M,X (D.map (C.xv O))/\∀P,X P->t.nK W V (O.ext P) (⟨ax,X,M,M P⟩::Q)
 |.back ax x,R,O,L=>match zW ax L with
  |U c=>c.I (x.map (C.xv O))/\c.μ (x.map (C.xv O))<c.m
  |none=>False
 |.new _ x _ _ t,R,O,L=>t.nK W R (O.add (.r (gv x O))) L
 |.ac _ x _ t,R,O,L=>t.nK W R (O.add (.r (gv x O))) L
 |.gF g h t f,R,O,L=>(g.ab O=J\/h.ab O=J)/\(g.ab O=J->t.nK W R O L)/\(h.ab O=J->f.nK W R O L)/\(g.ab O=J->h.ab O=J->P1 R)
 |.pick n g h t f,R,O,L=>P1 R/\yg n g h O≠[]/\(∀j:Int,0<=j->j<n.ab O->g.ab (O.add (.i j))=J->t.nK W R (O.add (.i j)) L)/\(h.ab O=J->f.nK W R O L)
 |.eE _ _ _ B A r _ t,R,O,L=>∃H,n8 O B A (r.rv O).ac=U H/\t.nK W R (O.add (.r (.mk (r.rv O).val H))) L
 |.stuck _,_,_,_=>False
 |.out _ _,_,_,_=>False
def T.wp(X:FuncId->bq->bo->Prop)(R:bo->Prop)(t:T)(O:ai)(L:de):Prop:=t.nK X R O L
section
variable{a:lA}{R:bo->Prop}
inductive BO(a:lA)(R:bo->Prop):List PC->List Lp->Prop where
 |nil (st:List Lp):BO a R [] st
 |cons (c:PC) (fr:Lp) (L:List PC) (st:List Lp) (h1:c.ax=fr.ax) (h2:∀xs,c.I xs->c.μ xs<c.m->∃o,a.Go fr.t (fr.O.ext xs) (fr::st) o/\R o) (h3:BO a R L st):BO a R (c::L) (fr::st)
def BO.find{L:de}{V:mT}(h:BO a R L V){c:PC}(W:zW y L=U c):
  ∃X N,BL y V=U (X,N)/\∀Q,c.I Q->c.μ Q<c.m->∃o,a.Go X.t (X.O.ext Q) (X::N) o/\R o:=by
 induction h with
 |nil _=>cases W
 |cons F X L V M H D G=>
  simp only[zW] at W;simp only[BL,<-M];split at W;rename_i P;cases W;rw[aJ P];exact⟨X,V,rfl,H⟩;rename_i P;rw[aQ P];exact G W
def go_mono{X:mT}{o:bo}{m:Nat}(h:exec (a.bA y) y g N X=U o)(W:y<=m):exec (a.bA m) m g N X=U o:=
 oW (λf V o h=>nJ y m f V o W h) y m g N X o W h
def anr{X:Type}{f:X->kE}{o:bo}(W:DL o o=J):∀{l:List X},l≠[]->(∀x∈l,f x=U o)->uX (l.map f)=U o
 |[],h,_=>aZ rfl h
 |[x],_,h=>by simpa[uX] using h x av
 |x::y::r,_,h=>by
  have:=anr W (l:=y::r) av (λz V=>h z (by simp at V⊢;exact .inr V));simp only[dU,uX] at this⊢;rw[this,h x av,BK,aJ W]
def ant{V:Type}{p:V->Nat->Prop}(W:∀x n m,p x n->n<=m->p x m):∀{l:List V},(∀x∈l,∃n,p x n)->∃n,∀x∈l,p x n
 |[],_=>⟨0,λx Q=>by cases Q⟩
 |x::r,h=>by
  obtain⟨n,P⟩:=h x av;obtain⟨m,O⟩:=ant W (l:=r) (λz X=>h z (by simp[X]));refine⟨max n m,λz X=> ?_⟩;rcases dP.1 X with rfl|X;exact W _ _ _ P aa;exact W _ _ _ (O z X) aa
def go_wp:∀(t:T)(R:bo->Prop)(O:ai)(L:de)(W:mT),t.nK a.Ev R O L->BO a R L W->∃o,a.Go t O W o/\R o
 |.ret v bx y,R,O,L,W,h,_=>⟨_,go_ret.2 rfl,h⟩
 |.bI v,R,O,L,W,h,_=>by
  obtain⟨x,P,Q⟩:=h;exact⟨.bI x,go_pan.2 (by rw[P];rfl),Q⟩
 |.aT b t f,R,O,L,W,h,V=>by
  simp only[go_node];cases hb:b.ab O with
  |true=>simpa using go_wp t R O L W (h.1 hb) V
  |false=>simpa using go_wp f R O L W (h.2 hb) V
 |.be b t,R,O,L,W,h,V=>by
  obtain⟨o,P,Q⟩:=go_wp t R O L W h.2 V;exact⟨o,go_need.2 ⟨h.1,P⟩,Q⟩
 |.call f a9 bx y ks jz t,R,O,L,W,h,V=>by
  obtain⟨o,P,Q⟩:=h;cases o with
  |ret ys=>
   obtain⟨o,G,F⟩:=go_wp t R (O.ext ys) L W Q.2 V;exact⟨o,go_call P Q.1 G,F⟩
  |bI v=>exact⟨.bI v,go_callp P,Q⟩
 |.loop ax ks x0 t,R,O,L,W,h,V=>by
  obtain⟨w,L',ag,X,μ,P,Q⟩:=h;have af:BO a w L' W/\∀o,w o->R o:=by
   rcases ag with⟨rfl,rfl⟩|⟨G,rfl⟩;exact⟨V,λo h=>h⟩;exact⟨BO.nil W,G⟩
  have al:∀n N,μ N<n->X N->∃o,a.Go t (O.ext N) (⟨ax,t,O⟩::W) o/\w o:=by
   intro n;induction n with
   |zero=>intro N d;omega
   |succ n ih=>
    intro N d hI;exact go_wp t w (O.ext N) _ _ (Q N hI) (BO.cons _ _ _ _ rfl (λan a0 hm=>ih an (by simp only at hm;omega) a0) af.1)
  obtain⟨o,G,F⟩:=al _ _ (Nat.lt_succ_self _) P;exact⟨o,go_loop.2 G,af.2 o F⟩
 |.back ax x,R,O,L,W,h,V=>by
  simp only[T.nK] at h;split at h
  ·rename_i c hf;obtain⟨fr,ba,P,Q⟩:=V.find hf;obtain⟨o,G,F⟩:=Q _ h.1 h.2;exact⟨o,(go_back P).2 G,F⟩
  exact h.elim
 |.new e x y bb t,R,O,L,W,h,V=>by
  obtain⟨o,P,Q⟩:=go_wp t R _ L W h V;exact⟨o,go_new.2 P,Q⟩
 |.ac e x y t,R,O,L,W,h,V=>by
  obtain⟨o,P,Q⟩:=go_wp t R _ L W h V;exact⟨o,go_rows.2 P,Q⟩
 |.gF g z t f,R,O,L,W,h,V=>by
  obtain⟨u,P,Q,G⟩:=h;cases A:g.ab O with
  |true=>
   obtain⟨o,M,D⟩:=go_wp t R O L W (P A) V;cases B:z.ab O with
   |true=>
    obtain⟨o',k1,k2⟩:=go_wp f R O L W (Q B) V;obtain⟨rfl,e⟩:=G A B o o' D k2;obtain⟨n,M⟩:=M;obtain⟨m,k1⟩:=k1;refine⟨o,⟨max n m+1, ?_⟩,D⟩;simp only[exec,A,B,cN];rw[oW (λf N o h=>nJ n _ f N o aa h) n (max n m) t O W o aa M,oW (λf N o h=>nJ m _ f N o aa h) m (max n m) f O W o aa k1,BK,aJ e]
   |false=>
    obtain⟨n,M⟩:=M;refine⟨o,⟨n+1, ?_⟩,D⟩;simp only[exec,A,B,cN];exact oW (λf N o h=>nJ n _ f N o aa h) n n t O W o aa M
  |false=>
   have B:z.ab O=true:=u.resolve_left (by simp[A]);obtain⟨o,M,D⟩:=go_wp f R O L W (Q B) V;obtain⟨n,M⟩:=M;refine⟨o,⟨n+1, ?_⟩,D⟩;simp only[exec,A,B,cN];exact oW (λf N o h=>nJ n _ f N o aa h) n n f O W o aa M
 |.pick m g z t f,R,O,L,W,h,V=>by
  obtain⟨hs,u,P,Q⟩:=h;have hw:∀j∈yg m g z O,∃o,R o/\(match j with
   |U j=>a.Go t (O.add (.i j)) W o
   |none=>a.Go f O W o):=by
   intro j H;cases j with
   |some j=>
    simp only[yg,eV,iq,qm,xI] at H;rcases H with⟨j',⟨⟨k,hk,rfl⟩,A⟩,e⟩|H
    ·cases e;obtain⟨o,M,D⟩:=go_wp t R (O.add (.i (k:Int))) L W (P _ aa aa A) V;exact⟨o,D,M⟩
    split at H<;>simp at H
   |none=>
    simp only[yg,eV,iq,qm,xI] at H;rcases H with⟨j',_,e⟩|H;cases e;split at H
    ·rename_i B;obtain⟨o,M,D⟩:=go_wp f R O L W (Q B) V;exact⟨o,D,M⟩
    simp at H
  obtain⟨j0,a1⟩:=List.exists_mem_of_ne_nil _ u;obtain⟨o,q,_⟩:=hw j0 a1;have a3:DL o o=true:=(hs o o q q).2;obtain⟨n,d⟩:=ant (p:=λj n=>(match j with
   |U j=>exec (a.bA n) n t (O.add (.i j)) W
   |none=>exec (a.bA n) n f O W)=U o) (λx n m hx a4=>by cases x<;>exact go_mono hx a4) (l:=yg m g z O) (λj H=>by
    obtain⟨o',G,F⟩:=hw j H;obtain⟨rfl,_⟩:=hs o o' q G;cases j<;>exact F)
  refine⟨o,⟨n+1, ?_⟩,q⟩;simp only[exec];refine anr a3 u λj H=> ?_
  have:=d j H;cases j with
  |some j=>exact oW (λf N o h=>nJ n _ f N o aa h) n n t _ W o aa this
  |none=>exact oW (λf N o h=>nJ n _ f N o aa h) n n f O W o aa this
 |.eE f g e sp sb r y t,R,O,L,W,h,V=>by
  obtain⟨bc,P,Q⟩:=h;obtain⟨o,G,F⟩:=go_wp t R _ L W Q V;exact⟨o,(go_turn P).2 G,F⟩
 |.stuck m,R,O,L,W,h,_=>h.elim
 |.out e s,R,O,L,W,h,_=>h.elim
def LN(a:lA)(f:FuncId)(X:Fn):Prop:=a.tree f=U X/\∀W,a.tW f W=Z
def anu{X:Fn}{W:bq}(V:LN a t X)(P:X.d=E\/∀v,¬R (.bI v))(h:X.t.wp a.Ev R (fU (mo X.g) W) []):∃o,a.Ev t W o/\R o:=by
 obtain⟨o,O,Q⟩:=go_wp X.t R _ [] [] h (BO.nil []);refine⟨o,azp V.1 (V.2 _) (P.imp id λN=> ?_) O,Q⟩;cases o with
 |ret M=>exact⟨M,rfl⟩
 |bI v=>exact(N v Q).elim
def Ir{X:Fn}{W:bq}{o:bo}(V:LN a t X)(Q:X.d=E\/∀v,o≠ .bI v)(h:X.t.wp a.Ev (· =o) (fU (mo X.g) W) []):a.Ev t W o:=by
 obtain⟨L,P,O⟩:=anu (R:=(· =o)) V (Q.imp id λN v M=>N v M.symm) h;exact O▸P
def P2{X:bq}{o W:bo}(h:a.Ev t X o)(k:a.Ev t X W):o=W:=by
 obtain⟨n,h⟩:=h;obtain⟨m,k⟩:=k;have Q:=nJ n (max n m) t X o aa h;have V:=nJ m (max n m) t X W aa k;rw[Q] at V;cases V;rfl
end
def U4(n j:Nat)(a b c:Int)(X:au):Int:=match iR n [a,b,c] X with
 |U W=>bn (W.getD j default).val
 |none=>0
def U5(n j:Nat)(a b c:Int)(X:au):Bool:=match iR n [a,b,c] X with
 |U W=>gH (W.getD j default).val
 |none=>E
def K.dn(e:K):ai->Int:=K.rec (motive_1:=λ_=>ai->Int) (motive_2:=λ_=>ai->Bool) (motive_3:=λ_=>ai->RV) (λn _=>n) (λk O=>O.i.getD k 0) (λX k _ _ a b O=>aF X k (a O) (b O)) (λk _ a O=>k.wrap (a O)) (λ_ r O=>lenOf (r O).val) (λW _ _ a b O=>cond W (max (a O) (b O)) (min (a O) (b O))) (λ_ _ _ b x y O=>cond (b O) (x O) (y O)) (λ_ _ j r i O=>bn (aU (r O).ac (i O) j).val) (λ_ _ r i O=>kL (r O).val (i O)) (λ_ n _ _ _ j r a b c O=>U4 n j (a O) (b O) (c O) (r O).ac) (λb _=>b) (λk O=>O.b.getD k E) (λX _ _ a b O=>fy X (a O) (b O)) (λ_ a O=> !(a O)) (λ_ _ a b O=>a O&&b O) (λ_ _ a b O=>a O==b O) (λ_ _ _ b x y O=>cond (b O) (x O) (y O)) (λ_ _ j r i O=>gH (aU (r O).ac (i O) j).val) (λ_ _ a b O=>tM (a O).val (b O).val) (λ_ n _ _ _ j r a b c O=>U5 n j (a O) (b O) (c O) (r O).ac) (λ_ n _ _ _ r a b c O=>(iR n [a O,b O,c O] (r O).ac).isSome) (λk O=>O.rv k) (λ_ _ j k r i O=>cG k (aU (r O).ac (i O) j)) (λv _=>.mk v []) e
def BE.dn(e:BE):ai->Bool:=BE.rec (motive_1:=λ_=>ai->Int) (motive_2:=λ_=>ai->Bool) (motive_3:=λ_=>ai->RV) (λn _=>n) (λk O=>O.i.getD k 0) (λX k _ _ a b O=>aF X k (a O) (b O)) (λk _ a O=>k.wrap (a O)) (λ_ r O=>lenOf (r O).val) (λW _ _ a b O=>cond W (max (a O) (b O)) (min (a O) (b O))) (λ_ _ _ b x y O=>cond (b O) (x O) (y O)) (λ_ _ j r i O=>bn (aU (r O).ac (i O) j).val) (λ_ _ r i O=>kL (r O).val (i O)) (λ_ n _ _ _ j r a b c O=>U4 n j (a O) (b O) (c O) (r O).ac) (λb _=>b) (λk O=>O.b.getD k E) (λX _ _ a b O=>fy X (a O) (b O)) (λ_ a O=> !(a O)) (λ_ _ a b O=>a O&&b O) (λ_ _ a b O=>a O==b O) (λ_ _ _ b x y O=>cond (b O) (x O) (y O)) (λ_ _ j r i O=>gH (aU (r O).ac (i O) j).val) (λ_ _ a b O=>tM (a O).val (b O).val) (λ_ n _ _ _ j r a b c O=>U5 n j (a O) (b O) (c O) (r O).ac) (λ_ n _ _ _ r a b c O=>(iR n [a O,b O,c O] (r O).ac).isSome) (λk O=>O.rv k) (λ_ _ j k r i O=>cG k (aU (r O).ac (i O) j)) (λv _=>.mk v []) e
def RE.dn(e:RE):ai->RV:=RE.rec (motive_1:=λ_=>ai->Int) (motive_2:=λ_=>ai->Bool) (motive_3:=λ_=>ai->RV) (λn _=>n) (λk O=>O.i.getD k 0) (λX k _ _ a b O=>aF X k (a O) (b O)) (λk _ a O=>k.wrap (a O)) (λ_ r O=>lenOf (r O).val) (λW _ _ a b O=>cond W (max (a O) (b O)) (min (a O) (b O))) (λ_ _ _ b x y O=>cond (b O) (x O) (y O)) (λ_ _ j r i O=>bn (aU (r O).ac (i O) j).val) (λ_ _ r i O=>kL (r O).val (i O)) (λ_ n _ _ _ j r a b c O=>U4 n j (a O) (b O) (c O) (r O).ac) (λb _=>b) (λk O=>O.b.getD k E) (λX _ _ a b O=>fy X (a O) (b O)) (λ_ a O=> !(a O)) (λ_ _ a b O=>a O&&b O) (λ_ _ a b O=>a O==b O) (λ_ _ _ b x y O=>cond (b O) (x O) (y O)) (λ_ _ j r i O=>gH (aU (r O).ac (i O) j).val) (λ_ _ a b O=>tM (a O).val (b O).val) (λ_ n _ _ _ j r a b c O=>U5 n j (a O) (b O) (c O) (r O).ac) (λ_ n _ _ _ r a b c O=>(iR n [a O,b O,c O] (r O).ac).isSome) (λk O=>O.rv k) (λ_ _ j k r i O=>cG k (aU (r O).ac (i O) j)) (λv _=>.mk v []) e
def U6{X:Type}(b:Bool)(x y:X):cond b x y=if b then x else y:=by cases b<;>rfl
mutual
def K.f9:∀(e:K)(O:ai),e.dn O=e.ab O
 |.c _,_=>rfl
 |.v _,_=>rfl
 |.bin o k a b,O=>by show aF o k (a.dn O) (b.dn O)=_;rw[K.f9 a,K.f9 b];rfl
 |.conv k a,O=>by show k.wrap (a.dn O)=_;rw[K.f9 a];rfl
 |.len r,O=>by show lenOf (r.dn O).val=_;rw[RE.f9 r];rfl
 |.mm m a b,O=>by show cond m (max (a.dn O) (b.dn O)) (min (a.dn O) (b.dn O))=_;rw[K.f9 a,K.f9 b,U6];rfl
 |.eo b x y,O=>by show cond (b.dn O) (x.dn O) (y.dn O)=_;rw[BE.f9 b,K.f9 x,K.f9 y,U6];rfl
 |.cell r i j,O=>by show bn (aU (r.dn O).ac (i.dn O) j).val=_;rw[RE.f9 r,K.f9 i];rfl
 |.nW r i,O=>by show kL (r.dn O).val (i.dn O)=_;rw[RE.f9 r,K.f9 i];rfl
 |.look r n a b c j,O=>by show U4 n j (a.dn O) (b.dn O) (c.dn O) (r.dn O).ac=_;rw[RE.f9 r,K.f9 a,K.f9 b,K.f9 c];rfl
def BE.f9:∀(e:BE)(O:ai),e.dn O=e.ab O
 |.c _,_=>rfl
 |.v _,_=>rfl
 |.cmp o a b,O=>by show fy o (a.dn O) (b.dn O)=_;rw[K.f9 a,K.f9 b];rfl
 |.not a,O=>by show(!(a.dn O))=_;rw[BE.f9 a];rfl
 |.and a b,O=>by show(a.dn O&&b.dn O)=_;rw[BE.f9 a,BE.f9 b];rfl
 |.beq a b,O=>by show(a.dn O==b.dn O)=_;rw[BE.f9 a,BE.f9 b];rfl
 |.eo b x y,O=>by show cond (b.dn O) (x.dn O) (y.dn O)=_;rw[BE.f9 b,BE.f9 x,BE.f9 y,U6];rfl
 |.cell r i j,O=>by show gH (aU (r.dn O).ac (i.dn O) j).val=_;rw[RE.f9 r,K.f9 i];rfl
 |.seq a b,O=>by show tM (a.dn O).val (b.dn O).val=_;rw[RE.f9 a,RE.f9 b];rfl
 |.look r n a b c j,O=>by show U5 n j (a.dn O) (b.dn O) (c.dn O) (r.dn O).ac=_;rw[RE.f9 r,K.f9 a,K.f9 b,K.f9 c];rfl
 |.has r n a b c,O=>by show(iR n [a.dn O,b.dn O,c.dn O] (r.dn O).ac).isSome=_;rw[RE.f9 r,K.f9 a,K.f9 b,K.f9 c];rfl
def RE.f9:∀(e:RE)(O:ai),e.dn O=e.rv O
 |.v _,_=>rfl
 |.cell r i j k,O=>by show cG k (aU (r.dn O).ac (i.dn O) j)=_;rw[RE.f9 r,K.f9 i];rfl
 |.k _,_=>rfl
end
def fN{X:Type}(n:Nat)(k:Nat->X):X:=Hk (motive:=λ_=>X) (k 0) (λm _=>k (Nat.succ m)) n
def fI{X:Type}(n:Int)(k:Int->X):X:=Int.rec (motive:=λ_=>X) (λn=>fN n λn=>k (ai8 n)) (λn=>fN n λn=>k (ai4 n)) n
def fB{X:Type}(b:Bool)(k:Bool->X):X:=J6 (motive:=λ_=>X) (k E) (k J) b
def fV{X:Type}(v:Value)(k:Value->X):X:=match v with
 |.int q n=>fI n λn=>k (.int q n)
 |.bool b=>fB b λb=>k (.bool b)
 |.slice Z n c=>fN n λn=>fN c λc=>k (.slice Z n c)
 |v=>k v
def fR{X:Type}(v:RV):(RV->X)->X:=RV.rec (motive_1:=λ_=>(RV->X)->X) (motive_2:=λ_=>(au->X)->X) (motive_3:=λ_=>(aC->X)->X) (λv _ h k=>fV v λv=>h λl=>k (.mk v l)) (λk=>k []) (λ_ _ h W k=>h λx=>W λV=>k (x::V)) (λk=>k []) (λ_ _ h W k=>h λx=>W λV=>k (x::V)) v
def fRs{X:Type}(v:au):(au->X)->X:=RV.rec_1 (motive_1:=λ_=>(RV->X)->X) (motive_2:=λ_=>(au->X)->X) (motive_3:=λ_=>(aC->X)->X) (λv _ h k=>fV v λv=>h λl=>k (.mk v l)) (λk=>k []) (λ_ _ h W k=>h λx=>W λV=>k (x::V)) (λk=>k []) (λ_ _ h W k=>h λx=>W λV=>k (x::V)) v
def fRr{X:Type}(v:aC):(aC->X)->X:=RV.rec_2 (motive_1:=λ_=>(RV->X)->X) (motive_2:=λ_=>(au->X)->X) (motive_3:=λ_=>(aC->X)->X) (λv _ h k=>fV v λv=>h λl=>k (.mk v l)) (λk=>k []) (λ_ _ h W k=>h λx=>W λV=>k (x::V)) (λk=>k []) (λ_ _ h W k=>h λx=>W λV=>k (x::V)) v
def fX{X:Type}(x:XV)(k:XV->X):X:=match x with
 |.i n=>fI n λn=>k (.i n)
 |.b b=>fB b λb=>k (.b b)
 |.r v=>fR v λv=>k (.r v)
def fL{X:Type}(l:bq):(bq->X)->X:=zm (motive:=λ_=>(bq->X)->X) (λk=>k []) (λx _ W k=>fX x λx=>W λV=>k (x::V)) l
def U7{X:Type}:∀(n:Nat)(k:Nat->X),fN n k=k n
 |0,_=>rfl
 |_+1,_=>rfl
def acw{X:Type}:∀(n:Int)(k:Int->X),fI n k=k n
 |.ofNat n,k=>U7 n λn=>k (ai8 n)
 |.negSucc n,k=>U7 n λn=>k (ai4 n)
def anv{X:Type}:∀(n:Bool)(k:Bool->X),fB n k=k n
 |E,_=>rfl
 |J,_=>rfl
def azq{X:Type}(v:Value)(k:Value->X):fV v k=k v:=by
 unfold fV;split;exact acw _ _;exact anv _ _;rw[U7,U7];rfl
mutual
def acx{X:Type}:∀(v:RV)(k:RV->X),fR v k=k v
 |.mk v l,k=>by
  show(fV v λv=>fRs l λl=>k (.mk v l))=_;rw[azq,anw l]
def anw{W:Type}:∀(l:au)(k:au->W),fRs l k=k l
 |[],_=>rfl
 |x::X,k=>by
  show(fRr x λx=>fRs X λX=>k (x::X))=_;rw[anx x,anw X]
def anx{W:Type}:∀(l:aC)(k:aC->W),fRr l k=k l
 |[],_=>rfl
 |x::X,k=>by
  show(fR x λx=>fRr X λX=>k (x::X))=_;rw[acx x,anx X]
end
def azr{X:Type}(x:XV)(k:XV->X):fX x k=k x:=by
 cases x<;>simp only[fX,acw,anv,acx]
def anz{W:Type}:∀(l:bq)(k:bq->W),fL l k=k l
 |[],_=>rfl
 |x::X,k=>by
  show(fX x λx=>fL X λX=>k (x::X))=_;rw[azr,anz X]
def fS{X V:Type}(l:List V):(List V->X)->X:=zm (motive:=λ_=>(List V->X)->X) (λk=>k []) (λx _ W k=>W λR=>k (x::R)) l
def fE{X:Type}(O:ai)(k:ai->X):X:=ai.rec (motive:=λ_=>X) (λi b r y=>fS i λi=>fS b λb=>fS r λr=>k ⟨i,b,r,y⟩) O
def U8{W V:Type}:∀(l:List V)(k:List V->W),fS l k=k l
 |[],_=>rfl
 |x::X,k=>U8 X λX=>k (x::X)
def anA{X:Type}(O:ai)(k:ai->X):fE O k=k O:=by
 obtain⟨i,b,r,y⟩:=O;show(fS i λi=>fS b λb=>fS r λr=>k ⟨i,b,r,y⟩)=_;rw[U8,U8,U8]
def C.xn(O:ai):C->XV
 |.int _ e=>.i (e.dn O)
 |.bool b=>.b (b.dn O)
 |.ah r=>.r (r.dn O)
 |_=>.i 0
def azs(O:ai):C.xn O=C.xv O:=by
 funext v;cases v<;>simp only[C.xn,C.xv,K.f9,BE.f9,RE.f9]
def T.step(X:T->ai->mT->kE)(bA:nG)(t:T)(O:ai)(W:mT):kE:=match t with
 |.ret v _ _=>fL ((yi v).map (C.xn O)) λl=>U (.ret l)
 |.bI v=>(Ik O v).map .bI
 |.aT b t f=>cond (b.dn O) (X t O W) (X f O W)
 |.be b t=>cond (b.dn O) (X t O W) Z
 |.call f P _ _ N _ t=>fL ((oV P).map (C.xn O)) λV=>match bA f V with
  |U (.ret Q)=>cond (ko N Q) (fE (O.ext Q) λO=>X t O W) Z
  |U (.bI v)=>U (.bI v)
  |none=>Z
 |.loop ax _ M t=>fL (M.map (C.xn O)) λV=>fE (O.ext V) λL=>X t L (⟨ax,t,O⟩::W)
 |.back ax x=>match BL ax W with
  |U (R,H)=>fL (x.map (C.xn O)) λV=>fE (R.O.ext V) λO=>X R.t O (R::H)
  |none=>Z
 |.new _ x _ _ t=>fR (gv x O) λv=>fE (O.add (.r v)) λO=>X t O W
 |.ac _ x _ t=>fR (gv x O) λv=>fE (O.add (.r v)) λO=>X t O W
 |.gF g h t f=>cond (g.dn O) (cond (h.dn O) (BK (X t O W) (X f O W)) (X t O W)) (cond (h.dn O) (X f O W) Z)
 |.pick m g h t f=>uX ((yg m g h O).map λj=>match j with
  |U j=>fI j λj=>fE (O.add (.i j)) λO=>X t O W
  |none=>X f O W)
 |.eE _ _ _ G F r _ t=>match n8 O G F (r.dn O).ac with
  |U l=>fR (.mk (r.dn O).val l) λv=>fE (O.add (.r v)) λO=>X t O W
  |none=>Z
 |_=>Z
def U9(bA:nG)(n:Nat):T->ai->mT->kE:=Hk (motive:=λ_=>T->ai->mT->kE) (λ_ _ _=>Z) (λ_ X=>T.step X bA) n
def anB(bA:nG):∀n,U9 bA n=exec bA n
 |0=>by funext t O X;simp only[exec];rfl
 |n+1=>by
  funext t O X;show T.step (U9 bA n) bA t O X=_;rw[anB bA n];cases t<;>simp only[T.step,exec,U6,BE.f9,RE.f9,azs,anz,acx,acw,anA]
  try case call f W _ _ Q _ t=>
   cases bA f ((oV W).map (C.xv O)) with
   |none=>rfl
   |some o=>cases o<;>rfl
  try case back ax x=>cases BL ax X<;>rfl
  try case pick m g h t f=>
   refine kh uX (jT λj _=> ?_);cases j<;>rfl
  try case eE f g e V R r P t=>cases n8 O V R (r.rv O).ac<;>rfl
def Va(X:lA)(n:Nat):nG:=Hk (motive:=λ_=>nG) X.tW (λn R f V=>match X.tW f V with
  |U o=>U o
  |none=>match X.tree f with
   |U W=>BN W.d (fE (fU (mo W.g) V) λO=>U9 R n W.t O [])
   |none=>Z) n
def anC(X:lA):∀n,Va X n=X.bA n
 |0=>rfl
 |n+1=>by
  funext f W;simp only[lA.bA];show(match X.tW f W with
   |U o=>U o
   |none=>match X.tree f with
    |U V=>BN V.d (fE (fU (mo V.g) W) λO=>U9 (Va X n) n V.t O [])
    |none=>Z)=_
  rw[anC X n];simp only[anB,anA]
  all_goals cases X.tW f W with
  |some o=>rfl
  |none=>cases X.tree f<;>rfl
def azt{X:lA}{f:Nat}{W:bq}{o:bo}(h:Va X y f W=U o):X.Ev f W o:=⟨y,by rw[<-anC];exact h⟩
