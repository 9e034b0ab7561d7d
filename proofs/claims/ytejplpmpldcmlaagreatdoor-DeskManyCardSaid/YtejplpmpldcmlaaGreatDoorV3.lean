/- Part 3 of the proof; the last part says what is shown. -/
import Derived.Test.YtejplpmpldcmlaaGreatDoorV2
import Derived.WalkKit
import Derived.DefersIn
set_option linter.all false
set_option maxRecDepth 100000
set_option maxHeartbeats 100000000
open Bool renaming and_eq_true->aw,not_eq_true'->iw,false_eq_true->jB,or_eq_true->jL,or_eq_false_iff->wb,eq_iff_iff->sx,and_self->we,not_eq_false->Hn,and_true->On,not_true->ZS,rec->Kd,not_eq_true->ajg,true_eq_false->aJl,true->J,false->E
open List renaming getD_eq_getElem?_getD->cw,getElem?_eq_some_iff->cu,getElem?_eq_getElem->cP,getElem?_append_left->dN,getElem?_map->dS,getElem?_append_right->iJ,cons_append->ef,nil_append->eK,mem_append->eW,map_cons->dU,mem_cons->dV,replicate->eF,length_append->gP,all_eq_true->fZ,mem_of_getElem?->jK,map_congr_left->jA,getElem?_eq_none->km,pairwise_cons->jC,range->e8,mem_map->iD,ext_getElem?->kU,length_eq_one_iff->oZ,length_cons->kV,any_eq_true->kW,pairwise_append->oc,getElem?_take->nD,contains_iff_mem->qD,getElem?_cons_succ->tN,getElem?_of_mem->tO,length_map->pN,mem_filter->qE,getElem?_drop->uN,mem_append_left->xQ,map_map->oJ,getElem?_cons_zero->Bk,getElem?_eq_none_iff->Dc,getElem?_set->wc,map_nil->pP,nodup_append->xS,length_eq_zero_iff->E1,mem_range->uO,mem_cons_of_mem->Dd,getElem?_replicate->Hh,append_assoc->Bn,mem_filterMap->De,length_drop->Df,pairwise_iff_getElem->Oe,getD_cons_zero->Hl,mem_singleton->Hm,length_take->E4,mem_of_find?_eq_some->SK,foldl_cons->E5,length_nil->E6,mem_append_right->Of,map_append->Hq,mem_cons_self->Oj,range_eq_range'->SN,find?_cons->Ka,append_nil->Kb,rec->zJ,all_cons->Om,find?_some->SU,sublist_cons_self->ai7,getElem?_toArray->ai8,all_map->Oo,filterMap_cons->ajb,drop_left'->ZN,mem_iff_getElem?->avs,pairwise_map->avB,map_set->ajo,any_map->ajp,filter_map->avH,drop_zero->avL,sizeOf_lt_of_mem->aI9,Sublist->avT,append_of_mem->aJm,filterMap_map->aJn,length->Y
open Go.Result renaming andThen_ok->du
open Nat renaming le_refl->bY,lor->bX,zero_add->jf,shiftLeft->mP,beq->jo,le_trans->pO,testBit_or->E7,min_eq_left->Hp,strongRecOn->SX,rec->Hz,div_add_mod->ajk,one_shiftLeft->avz,eq_of_beq_eq_true->aI6,shiftRight->avN,testBit_two_pow->aJe,add_sub_cancel'->aJg,lt_or_gt_of_ne->aJj
open Option renaming map_some->eh,isSome_iff_exists->lF,getD_some->oI,map_eq_some_iff->SL,bind_some->ZL,isNone_iff_eq_none->aIW,some->U,none->Z
open Go.Sem renaming run_bind->dC,run_pure->fz
open Array renaming getElem?_eq_some_iff->oY,ext'->nF,getD_eq_getD_getElem?->avn,getElem?_eq_getElem->avo,foldl_toList->aJi
open Go.Op renaming operands->iN
open Go.World renaming putObj_heap_other->uM,cell?->oK,alloc_heap_new->SO,putObj->Hv,size_alloc->ajh
open Go.Region renaming wanted->mw,ready->S2
open Int renaming negSucc->ajs,ofNat->ajv
open Go.Oper renaming semAt_eq->zI,uponIn_enter->SR,uponIn_round->avA,semAt_none->avG,uponIn_defer->aJp
open Go.Call renaming operands->Bo
open Prod.mk renaming injEq->Dh
open List.Sublist renaming append->aja,refl->ajc
open Go.IntKind renaming i64->I
namespace Go.Proofs.YtejplpmpldcmlaaGreatDoor.Y
open Go.RowKit
noncomputable section
variable{v:ap}{y:Nat}{g:T}{N:ai}{t:FuncId}{w:S}{x:aq}{e:World}{l:FuncId→Code→S→(XE→S→T)→T}{h:TypeId}{b:dG}{k:bz}
mutual
def C.Uz(O:ai)(y:aq)(V:aq):∀(v:C),v.BK=J->v.ab (O.at y) V=v.ab O V
 |.int k e,_=>by simp only[C.ab,K.fq]
 |.bool b,_=>by simp only[C.ab,BE.fq]
 |.ah r,_=>by simp only[C.ab,RE.ab,RE.nf]
 |.loc i o,_=>rfl
 |.el r w i o,_=>by simp only[C.ab,RE.ab,RE.nf,K.fq]
 |.jp a b c d,_=>rfl
 |.agg l,h=>by simp only[C.BK] at h;simp only[C.ab];rw[C.LD O y V l h]
 |.bO l,h=>by simp only[C.BK] at h;simp only[C.ab];rw[C.LD O y V l h]
 |.fn f l,h=>by simp only[C.BK] at h;simp only[C.ab];rw[C.LD O y V l h]
 |.ik t x,h=>by simp only[C.BK] at h;simp only[C.ab];rw[C.Uz O y V x h]
 |.yl n,h=>by simp[C.BK] at h
 |.any,_=>rfl
 |.mp i,_=>rfl
 |.gz e W X,h=>by simp only[C.BK] at h;simp only[C.ab,K.fq];rw[C.LD O y V X h]
def C.LD(O:ai)(y:aq)(V:aq):∀(l:ap),C.yi l=J->C.aG (O.at y) V l=C.aG O V l
 |[],_=>rfl
 |x::X,h=>by
  simp only[C.yi,aw] at h;simp only[C.aG];rw[C.Uz O y V x h.1,C.LD O y V X h.2]
end
def UA(O:ai)(y:aq)(V:aq):∀(l:ap),C.yi l=J->C.dR (O.at y) V l=C.dR O V l
 |[],_=>rfl
 |x::W,h=>by
  simp only[C.yi,aw] at h;have X:=UA O y V W h.2;have R:=C.Uz O y V x h.1;simp only[C.dR,dU] at X⊢;rw[X];congr 1;cases x<;>simp only[C.io]<;>first|rw[R]|(rw[RE.nf])
def PL:∀{l:bG}{i:Nat}{v:TypeId×ap},Fp l=J->cz l i=U v->C.yi v.2=J
 |[],i,v,_,h=>by simp[cY] at h
 |U x::W,0,v,X,h=>by simp[Fp] at X;simp[cY] at h;exact h▸X.1
 |Z::W,0,v,X,h=>by simp[cY] at h
 |U x::W,i+1,v,X,h=>by simp[Fp] at X;exact PL X.2 (by simpa[cY] using h)
 |Z::W,i+1,v,X,h=>by simp[Fp] at X;exact PL X (by simpa[cY] using h)
def UB:∀{a b:bG},nK a b=J->a=b
 |[],[],_=>rfl
 |[],_::_,h=>by simp[nK] at h
 |Z::X,Z::W,h=>by simp only[nK] at h;rw[UB h]
 |Z::X,U y::W,h=>by simp[nK] at h
 |Z::X,[],h=>by simp[nK] at h
 |U x::X,Z::W,h=>by simp[nK] at h
 |U x::X,[],h=>by simp[nK] at h
 |U x::X,U y::W,h=>by
  simp only[nK,aw,dK] at h;have V:=C.ua _ _ h.1.2;rw[UB h.2];obtain⟨R,Q⟩:=x;obtain⟨P,O⟩:=y;simp only at h V;rw[h.1.1,V]
def PM(W:ap)(X:bG):(oN W X).length=Y X:=by
 unfold oN;split<;>simp
def UC{W:bG}{x:TypeId×ap}(h:cz (oN v W) y=U x):cz W y=U x:=by
 unfold oN at h;split at h;exfalso;simp only[cY] at h;rw[dS] at h;cases V:W[y]? with
 |none=>rw[V] at h;cases h
 |some X=>rw[V] at h;cases h
 exact h
def ab2{X:bG}(h:aP (oN v X) y=J):aP X y=true:=by
 obtain⟨x,W⟩:=lF.1 h;simp[aP,UC W]
def ayo(h:aah g=J)(p:Sp)(O:ai)(L:dG):g.aS p O L:=by
 unfold aah at h;split at h;simp[T.aS,BE.ab];cases h
def ayp{W:ai}(h:ji N W (Y N.i) (Y N.b) (Y N.r))(H:Y W.i=Y N.i)(G:Y W.b=Y N.b)(F:Y W.r=Y N.r):W=N:=by
 obtain⟨i,b,r,y⟩:=N;obtain⟨V,R,Q,z⟩:=W;obtain⟨P,a2,M,L⟩:=h;simp only at P a2 M L H G F;have D:V=i:=kU λk=>by
  by_cases X:k<Y i;have:=P k X;simp only[cw,cP X,cP (show k<Y V from aa),oI] at this⊢;rw[this];rw[km aa,km aa]
 have B:R=b:=kU λk=>by
  by_cases X:k<Y b;have:=a2 k X;simp only[cw,cP X,cP (show k<Y R from aa),oI] at this⊢;rw[this];rw[km aa,km aa]
 have A:Q=r:=kU λk=>by
  by_cases X:k<Y r;have:=M k X;simp only[ai.rv,cw,cP X,cP (show k<Y Q from aa),oI] at this⊢;rw[this];rw[km aa,km aa]
 subst D B A L;rfl
def PN(X:bz):qN X (X.map RK.rd):=by
 refine⟨av,λk V h=> ?_⟩;rw[dS] at h;cases W:X[k]? with
 |none=>rw[W] at h;cases h
 |some e=>
  rw[W] at h;simp only[eh,cX] at h;refine⟨e,rfl, ?_⟩;cases e<;>simp only[RK.rd] at h<;>first|exact .inl h.symm|exact .inr (.inr ⟨_,rfl,h.symm⟩)
def ayq(W:ap)(X:bG):oN W X=X\/∀i,cz (oN W X) i=none:=by
 unfold oN;split;right;intro i;simp only[cY];rw[dS];cases X[i]?<;>rfl;exact .inl rfl
section
variable{p:Sp}{m:bF}
def ayr(b8:∀z:Sp,z.P=p.P->jS z m->An z m y)(ok:jS p m){X:C}{ex:bG}(h:Kz m (λf c w k=>gp m y f c w jg k) t v w=U (X,ex))(cc:(m.inl t).isSome=J)
  {D:cq}{a:Act}(hb:w.bd=J)(R:az p.S0 p.w0 D m.ty x N w a e)(hg:fk m.gl N):(∀v e,(callFunc t v).run p.P e=.ok (.enter t v) e)/\
  Calls p.P t (C.aG N x v).toArray e λM W'=>∃V',M=.returned (X.ab N V')/\az p.S0 p.w0 D m.ty V' N (w.plus ex) a W'/\bH w N x (w.plus ex) N V':=by
 unfold Kz at h;split at h;rename_i u hT;split at h;rename_i v0 c2;split at h;rename_i bf;cases h;simp only[aw] at bf;obtain⟨⟨⟨⟨⟨⟨⟨ca,cb⟩,cv⟩,cs⟩,ct⟩,cl⟩,cn⟩,co⟩:=bf;have bg:=UB ct;obtain⟨cp,bk⟩:=R.zZ hb;refine⟨ok.Ai t (.inr cc), ?_⟩;obtain⟨S1,bl⟩:∃S1:aq,S1=((e8 (Y w.ao)).filter (aP (oN v w.ao))).map (ad x):=⟨_,rfl⟩;have cx:∀i,aP (oN v w.ao) i=J->ad x i∈S1:=λi F=>by
  rw[bl];refine iD.2 ⟨i,qE.2 ⟨uO.2 ?_,F⟩,rfl⟩;obtain⟨L,hx⟩:=lF.1 F;have:=(cu.1 (kw.1 hx)).1
  rwa [PM] at this
 have br:∀b∈S1,∃i,aP (oN v w.ao) i=J/\ad x i=b:=λb hb=>by
  rw[bl] at hb;obtain⟨i,F,rfl⟩:=iD.1 hb;exact⟨i,(qE.1 F).2,rfl⟩
 obtain⟨z,an⟩:∃z:Sp,z={P:=p.P,ty:=p.ty,S0:=S1,w0:=e,D:=cq.none,R:=λM _=>(match M with|.panicked _=>False|_=>True),Q:=λ_ _ _=>True}:=⟨_,rfl⟩;have al:z.P=p.P:=by rw[an]
 have bs:z.S0=S1:=by rw[an]
 have bx:z.w0=e:=by rw[an]
 have b0:∀ch W',¬z.R (.panicked ch) W':=λch W' hh=>by rw[an] at hh;exact hh
 have b1:jS z m:=⟨by rw[an];exact ok.pt,by rw[al];exact ok.mix,by rw[al];exact ok.ll,by rw[al];exact ok.zM,by rw[al];exact ok.Ai,λch e b o _ hh=>(b0 ch e hh).elim,by rw[al];exact ok.inl⟩;have hS:=LB (p:=z) b1 (b8 z al b1) (D:=cq.none) (B:=⟨uZ v w,N.at [],x,[]⟩) (yh:=jg) (FM _ _);have B0:az z.S0 z.w0 cq.none m.ty x (N.at []) (uZ v w) ⟨#[],[]⟩ e:=by
  rw[bs,bx];refine⟨⟨im.refl _ _,λi F=>.inr (cx i F),λi j F hj=>R.mem.inj i j (ab2 F) (ab2 hj),λi H cs h=> ?_,λk M rv A h2=> ?_⟩,by simp only[uZ,PM];exact R.gV,R.ei,R.eb,by simp only[uZ,pN];exact R.er, ?_,rfl,λH sv h=>by simp[uZ] at h,λk M rv b A=> ?_⟩;rw[UA _ _ _ _ (PL cb h)];exact R.mem.box i H cs (UC h);have:=(R.mem.mX (PN w.rs)).ah k M rv A h2;exact⟨this.1,λb hb i F=>this.2 b hb i (ab2 F)⟩;exact⟨rfl,rfl,λy l r st h=>by simp[cq.none] at h,λy n' l r r' h=>by simp[cq.none] at h,[],rfl,λ_=>rfl,by simp[cq.none],λd h=>by simp[cq.none] at h⟩;exfalso;simp only[uZ,dS] at A;cases hk:w.rs[k]? with
  |none=>rw[hk] at A;cases A
  |some L=>rw[hk] at A;cases L<;>simp[RK.rd] at A
 have cy:=hS [] (.fn t) v (uZ v w) _ _ (N.at []) x ⟨#[],[]⟩ e (λM W'=>∃V',M=.returned (X.ab N V')/\az p.S0 p.w0 D m.ty V' N (w.plus (u.ao.drop (Y w.ao))) a W'/\bH w N x (w.plus (u.ao.drop (Y w.ao))) N V') ⟨bH.refl _ _ _,dq.refl _ _⟩ (ayo co z (N.at []) []) B0 hg ?_ ?_ (λch W' pd G _ hR=>(b0 ch W' hR).elim);have:=cy.2;rw[C.LD N [] x v ca,al] at this;exact this;intro v2 s2 O2 q W2 L2 hl _ R2 aC;split at aC;rename_i b2;simp only[aw,ajJ,dK,ce] at b2;obtain⟨hv,⟨⟨ag,cA⟩,cB⟩,cC⟩:=b2;have hv:=C.bU _ _ hv;subst hv;have ag:=UB ag;have cD:O2=N.at []:=by
  refine ayp hl.ext.agree ?_ ?_ ?_;rw[R2.ei,cA];exact R.ei.symm;rw[R2.eb,cB];exact R.eb.symm;rw[R2.er,cC];simp only[uZ,pN];exact R.er.symm
 subst cD;rw[bs,bx] at R2;have c3:Y w.ao<=Y u.ao:=by
  have:=ko Y bg;rw[PM,E4] at this;omega
 have a4:∀i,i<Y w.ao->cz u.ao i=cz (oN v w.ao) i:=λi F=>by
  have:=ko (λl=>cz l i) bg;simp only[cY,nD,aL F] at this⊢;exact this
 have a0:∀i,aP (oN v w.ao) i=J->ad q i=ad x i:=λi F=>hl.ext.ad i F
 have a1:∀{i:Nat}{l:bG},aP l i=J->i<Y l:=λh=>by
  obtain⟨L,hx⟩:=lF.1 h;exact(cu.1 (kw.1 hx)).1
 have cI:∀i,Y w.ao<=i->aP u.ao i=J->e.heap.size<=ad q i:=by
  intro i F hh;rcases R2.mem.own i (by rw[ag];exact hh) with A|A;exact A;exfalso;obtain⟨j,hj,cO⟩:=br _ A;have a9:j<Y w.ao:=by have:=a1 hj;rwa [PM] at this
  have cR:aP u.ao j=true:=by simp only[aP,a4 j a9];exact hj
  have:=R2.mem.inj i j (by rw[ag];exact hh) (by rw[ag];exact cR) (by rw[a0 j hj];exact cO.symm);omega
 have hB:Below e.heap.size e W2:=by
  have hO:=R2.mem.base;refine⟨hO.os,hO.tape,hO.output,hO.size,λk hk=> ?_⟩;by_cases b3:k∈S1;obtain⟨j,hj,rfl⟩:=br _ b3;have a9:j<Y w.ao:=by have:=a1 hj;rwa [PM] at this
  obtain⟨L,hx⟩:=lF.1 hj;obtain⟨bt,lj⟩:=L;have e1:=R.mem.box j bt lj (UC hx);have e2:=R2.mem.box j bt lj (by rw[ag,a4 j a9];exact hx);rw[a0 j hj] at e2;rw[e1,e2];congr 2;rw[UA _ _ _ _ (PL cb hx)];refine O5 (ji.refl _ _ _ _) (λk hk=>a0 k ?_) _ (ub bk (UC hx));rcases ayq v w.ao with hm|hm;rw[hm];exact hk;rw[hm j] at hx;cases hx;exact hO.block k hk b3
 have R0:=R.below hB;have cW:Y q=Y u.ao:=by rw[R2.gV,ag]
 have a3:∀i,i<Y w.ao->ad (x++q.drop (Y w.ao)) i=ad x i:=λi F=>by
  simp only[ad,cw];rw[dN (by rw[R.gV];exact F)]
 have ba:∀i,Y w.ao<=i->ad (x++q.drop (Y w.ao)) i=ad q i:=λi F=>by
  simp only[ad,cw];rw[iJ (by rw[R.gV];exact F),R.gV,uN,aJg F]
 have b4:∀i,aP u.ao i=J->ad (x++q.drop (Y w.ao)) i=ad q i:=λi F=>by
  by_cases af:i<Y w.ao;rw[a3 i af,a0 i (by simp only[aP,<-a4 i af];exact F)];exact ba i aa
 have bb:∀i,i<Y w.ao->cz (w.plus (u.ao.drop (Y w.ao))).ao i=cz w.ao i:=λi F=>by
  simp only[cY,S.plus,dN F]
 have b5:∀i,Y w.ao<=i->cz (w.plus (u.ao.drop (Y w.ao))).ao i=cz u.ao i:=λi F=>by
  simp only[cY,S.plus];rw[iJ F,uN,aJg F]
 have bc:∀k,aP w.ao k=J->ad (x++q.drop (Y w.ao)) k=ad x k:=λk hk=>a3 k (a1 hk)
 have aA:∀i,aP (w.plus (u.ao.drop (Y w.ao))).ao i=J->(i<Y w.ao/\aP w.ao i=J/\ad (x++q.drop (Y w.ao)) i=ad x i)\/(Y w.ao<=i/\aP s2.ao i=J/\ad (x++q.drop (Y w.ao)) i=ad q i/\e.heap.size<=ad q i):=λi F=>by
  by_cases af:i<Y w.ao;exact .inl ⟨af,by simpa only[aP,bb i af] using F,a3 i af⟩;have hh:aP u.ao i=true:=by simpa only[aP,b5 i aa] using F
  exact .inr ⟨aa,by rw[ag];exact hh,ba i aa,cI i aa hh⟩
 have c4:p.w0.heap.size<=e.heap.size:=R.mem.base.size;refine⟨x++q.drop (Y w.ao), ?_,⟨⟨R0.mem.base, ?_, ?_, ?_, ?_⟩, ?_,R.ei,R.eb,R.er,R0.dp,R.size, ?_, ?_⟩,⟨⟨ji.refl _ _ _ _,bY _,bY _,bY _,bc⟩, ?_, ?_,bY _⟩⟩;rw[C.Uz _ _ _ _ cv];have c0:v2.bd (Y N.i) (Y N.b) (Y N.r) (aP u.ao)=true:=by rw[R.ei,R.eb,R.er];exact cl
 rw[C.eC (ji.refl _ _ _ _) b4 v2 c0];intro i F;rcases aA i F with⟨_,h2,h3⟩|⟨_,_,h3,h4⟩;rw[h3];exact R.mem.own i h2;rw[h3];exact .inl aa;intro i j F hj b6;rcases aA i F with⟨i1,i2,i3⟩|⟨i1,i2,i3,i4⟩<;>rcases aA j hj with⟨j1,j2,j3⟩|⟨j1,j2,j3,j4⟩;exact R.mem.inj i j i2 j2 (by rw[<-i3,<-j3];exact b6);exfalso;have:=R.mem.lt i2;omega;exfalso;have:=R.mem.lt j2;omega;exact R2.mem.inj i j i2 j2 (by rw[<-i3,<-j3];exact b6);intro i H lj h;by_cases af:i<Y w.ao;rw[bb i af] at h;rw[a3 i af,R0.mem.box i H lj h];congr 2;exact(O5 (ji.refl _ _ _ _) bc _ (ub bk h)).symm;rw[b5 i aa] at h;rw[ba i aa,R2.mem.box i H lj (by rw[ag];exact h)];congr 2;rw[UA _ _ _ _ (PL cs h)];have c1:C.eo (Y N.i) (Y N.b) (Y N.r) (aP u.ao) lj=true:=by rw[R.ei,R.eb,R.er];exact ub cn h
 exact(O5 (ji.refl _ _ _ _) b4 _ c1).symm;intro k M rv A h2;refine⟨(R0.mem.ah k M rv A h2).1,λb b7 i F=> ?_⟩;rcases aA i F with⟨i1,i2,i3⟩|⟨i1,i2,i3,i4⟩;rw[i3];exact(R.mem.ah k M rv A h2).2 b b7 i i2;rw[i3];have:=(R.mem.ah k M rv A h2).1.lt b7;omega;simp only[S.plus,gP,Df,cW,R.gV];intro H sv h;rcases R.tmps H sv h with A|A;exact .inl A;right;rw[C.eC (ji.refl _ _ _ _) bc sv (wz cp h)];exact A;intro k M rv b A h2 h3;have T0:=R0.gD k M rv b A h2 h3;refine⟨T0.own,T0.mem,λi F=> ?_,T0.alone,T0.inner⟩;rcases aA i F with⟨i1,i2,i3⟩|⟨i1,i2,i3,i4⟩;rw[i3];exact T0.box i i2;rw[i3];have:=(R.gD k M rv b A h2 h3).lt;omega;intro i F;have af:=a1 F;simp only[aP,bb i af];exact F;simp only[S.plus,gP];omega;exact aC.elim;intro v2 s2 O2 q W2 L2 hl _ R2 aC;exact aC.elim;cases h;cases h;cases h
end
def ays{X:S}(W:oN v X.ao=oN v w.ao)(V:X.ni=w.ni)(R:X.nb=w.nb)(Q:X.rs=w.rs):uZ v X=uZ v w:=by
 simp only[uZ,W,V,R,Q]
def amy{m:bF}{X:S}(W:oN v X.ao=oN v w.ao)(V:X.ni=w.ni)(R:X.nb=w.nb)(Q:X.rs=w.rs)(P:Y X.ao=Y w.ao):Kz m l t v X=Kz m l t v w:=by
 unfold Kz;rw[ays W V R Q,W,V,R,Q,P]
def ayt(m:bF)(X:dQ)(R:FuncId->Code->S->(XE->S->T)->T):FG X (Fq m X R):=by
 refine⟨λg Q s d v l=> ?_,λg s n t O d w N=> ?_,λg Q s r h=> ?_⟩;unfold Fq;rw[amy]<;>cases d<;>rfl
 ·unfold Fq;rw[amy]<;>cases d<;>simp[S.dw,S.put,wl,oN,ajo]<;>(try apply kU)<;>(try intro i)<;>(try simp[wc])<;>(try(intro P;subst P;by_cases W:n<Y s.ao;(· simp[W]);(· simp[W])))
 unfold Fq at h;split at h;rename_i V;simp only[aw] at V;exact V.1;cases h
def ayu{p:Sp}{m:bF}{N:dQ}(M:∀X:Sp,X.P=p.P->jS X m->An X m y)(L:jS p m):Uu p m (Fq m N λf c s k=>gp m y f c s jg k):=by
 intro g F s v B h D O V a W H R G;unfold Fq at h;split at h;rename_i Q;simp only[aw] at Q;exact ayr M L h Q.2 H R G;cases h
def amz(s:S)(X:aq)(i:Nat):(s.bN X).tmps[i]?=(s.tmps[i]?).map λx=>if X.contains i then .any else x:=by
 simp only[S.bN];rw[wE,jf]
def ayv(h:y∉x):(w.bN x).tmps[y]?=w.tmps[y]?:=by
 rw[amz];cases w.tmps[y]?<;>simp[h]
def ab3{X W V:Nat}{R:Nat->Bool}(Q:aq):∀(l:ap)(n:Nat),C.eo X W V R l=J->C.eo X W V R (tY Q n l)=J
 |[],n,_=>rfl
 |x::P,n,h=>by
  simp only[C.ja,aw] at h;simp only[tY,C.ja,aw];refine⟨?_,ab3 Q P (n+1) h.2⟩;split;simp[C.bo];exact h.1
def It{ds:aq}(h:w.fp v=J):(w.bN ds).fp v=true:=by
 simp only[S.fp,S.bd,aw,S.bN] at h⊢;exact⟨⟨ab3 ds _ 0 h.1.1,h.1.2⟩,h.2⟩
def Ao{d:cQ}{v:C}(h:∀X,d=U X->X∉x):(w.put d v).bN x=(w.bN x).put d v:=by
 cases d with
 |none=>rfl
 |some X=>
  have V:=h X rfl;simp only[S.put,wl,S.bN];congr 1;apply kU;intro i;rw[wE,jf,wc,wc,wE,jf,LA];by_cases W:X=i;subst W;by_cases R:X<Y w.tmps<;>simp[R,V];simp[W]
def amA{s:S}{ds es:aq}(h:∀x∈es,x∈ds):(s.bN es).bN ds=s.bN ds:=by
 simp only[S.bN];congr 1;apply kU;intro i;rw[wE,wE,wE,jf];cases s.tmps[i]? with
 |none=>rfl
 |some x=>
  simp only[eh];by_cases X:i∈ds;simp[X];have:i∉es:=λW=>X (h i W)
  simp[X,this]
def ayw(v:C):OA E v=0:=by
 cases v<;>rfl
section
variable{p:Sp}{cf:bF}{ops:dQ}
def az.bN{D:cq}{s:S}{O:ai}{V:aq}{a:Act}{W:World}(R:az p.S0 p.w0 D cf.ty V O s a W)(P:aq):az p.S0 p.w0 D cf.ty V O (s.bN P) a W:=by
 refine⟨R.mem,R.gV,R.ei,R.eb,R.er,R.dp,by simp only[S.bN,LA];exact R.size,λt N X=> ?_,R.gD⟩;rw[amz] at X;cases Q:s.tmps[t]? with
 |none=>rw[Q] at X;cases X
 |some x=>
  rw[Q] at X;simp only[eh,cX] at X;split at X;exact .inl X.symm;subst X;exact R.tmps t x Q
def amB{m:OM}{O:ai}{b:BE}{v:C}(P:oh m.o.op=J)(N:m.bP=E)(h:BL cf w m.o=U (b,v))(M:b.ab O=J):(gR cf m w).gives O (w.put m.o.dst v):=by
 unfold BL at h;split at h;cases h;rename_i W;simp only[jL,not_or,ajg] at W;obtain⟨W,V⟩:=W;have R:(tV w m.o.dst 0 (cH cf.ty cf.gl w m.o.op)).gives O (w.put m.o.dst v):=by
  split at h;rename_i X Q;cases h;rw[Q];simp only[tV,OR.gives,Ip];rename_i G X Q;split at h;rename_i L;cases h;rw[Q];simp only[tV,L,cS,OR.gives,Ip,and_true];exact M;cases h;cases h
 unfold gR;rw[aT (by rw[W];simp)];cases H:m.o.op<;>rw[H] at P R V<;>simp only[oh,jB,aai] at P V<;>first|exact R|(simp only[N,ayw];exact R)|cases V
def UD{o:Oper}{s:S}{O:ai}(h:∀t∈j6 ops o,t∉x):lK cf ops o s O (s.bN x) O:=lK.Aj (λt X=>ayv (h t X)) rfl rfl rfl
def amC{o:Oper}{ds:aq}{r:BE×C}(h:∀t∈j6 ops o,t∉ds)(W:BL cf w o=U r):BL cf (w.bN ds) o=U r:=by
 have R:=UD (cf:=cf) (s:=w) (O:=⟨[],[],[],[]⟩) h;have P:=R.ev cf.gl;unfold BL at W⊢;split at W;cases W;rename_i L;have H:¬((o.op.operands.toList.any λx=>((w.bN ds).ev cf.gl x).eX)||aai o.op)=true:=by
  intro V;apply L;simp only[jL] at V⊢;rcases V with V|V;left;obtain⟨x,M,G⟩:=kW.1 V;exact kW.2 ⟨x,M,by rw[<-P x M];exact G⟩;exact .inr V
 rw[aT H];cases Q:cH cf.ty cf.gl w o.op with
 |ok X=>rw[Uo (ty:=cf.ty) P R.kd R.kl (λi _=>rfl) Q (λX N=>by cases N)];rw[Q] at W;exact W
 |bi b X=>rw[Uo (ty:=cf.ty) P R.kd R.kl (λi _=>rfl) Q (λX N=>by cases N)];rw[Q] at W;exact W
 |no X=>rw[Q] at W;cases W
def ayx{m:OM}{P:S}(N:ON m.o.op=J)(h:∀t∈j6 ops m.o,t∉x)(Q:∀X,m.o.dst=U X->X∉x)(W:gR cf m w=.ok P):gR cf m (w.bN x)=.ok (P.bN x):=by
 have H:=UD (cf:=cf) (s:=w) (O:=⟨[],[],[],[]⟩) h;have R:=H.ev cf.gl;unfold gR at W⊢;split at W;cases W;rename_i G;have F:¬(m.o.op.operands.toList.any λX=>((w.bN x).ev cf.gl X).eX)=true:=by
  intro D;apply G;obtain⟨X,M,B⟩:=kW.1 D;exact kW.2 ⟨X,M,by rw[<-R X M];exact B⟩
 rw[aT F];have l:∀(n:Nat)(t:TypeId)(L:ap),(w.bN x).dw n t L=(w.dw n t L).bN x:=λ_ _ _=>rfl
 cases A:m.o.op<;>rw[A] at N W R<;>simp only[ON,jB] at N
 
 simp only at W⊢;split at W;split at W;rename_i V;simp only[aw] at V;rw[aL (by simp only[aw];exact⟨It V.1,V.2⟩)];cases W;rw[Ao Q];rfl;cases W;cases W
 
 rename_i t X;simp only at W⊢;rw[R X cN];split at W;split at W;rename_i V;simp only[aw] at V;rw[aL (by simp only[aw];exact⟨⟨⟨V.1.1.1,It V.1.1.2⟩,V.1.2⟩,V.2⟩)];cases W;rw[Ao Q];rfl;cases W;cases W;rename_i t k parts;simp only at W⊢;have z:(parts.toList.map λq=>(q.1,(w.bN x).ev cf.gl q.2))=parts.toList.map λq=>(q.1,w.ev cf.gl q.2):=by
  refine jA λq v=> ?_
  rw[R q.2 (by simp only[iN,iD];exact⟨q,v,rfl⟩)]
 rw[z];split at W;split at W;split at W;split at W;rename_i V;simp only[aw] at V;rw[aL (by simp only[aw];exact⟨⟨It V.1.1,V.1.2⟩,V.2⟩)];cases W;congr 1;rw[Ao Q];rfl;cases W;cases W;cases W;cases W
 
 rename_i t X y;simp only at W⊢;rw[R X cN,R y cN];split at W;split at W;rename_i u;have r:mz (w.bN x).ao _=_:=u;rw[r];simp only;split at W;rename_i V;rw[show(w.bN x).lk=w.lk from rfl,aL V];cases W;rw[Ao Q];rfl;cases W;cases W;cases W
def amD{o:Oper}{s:S}(h:∀t∈j6 ops o,t∉x):∀X∈o.op.operands.toList,s.ev cf.gl X=(s.bN x).ev cf.gl X:=
 λX W=>((UD (cf:=cf) (s:=s) (O:=⟨[],[],[],[]⟩) h).ev cf.gl X W).symm
def UE{X:Ty}(r:RE):r.kind X (w.bN x)=r.kind X w:=DQ (s:=w.bN x) (s':=w) rfl r
def UF{X:Ty}{s:S}{W:aq}:∀(aj:fu)(l:ap),mV X (s.bN W) aj l=mV X s aj l
 |[],[]=>rfl
 |[],_::_=>rfl
 |_::_,[]=>rfl
 |c::V,v::R=>by
  simp only[mV,UF V R];congr 1;unfold tU;split<;>try rfl
  rename_i z k r;cases k<;>simp only[RE.fits,UE]
def UG{X:Ty}{s:S}{W:aq}(aj:fu):∀l:xW,og X (s.bN W) aj l=og X s aj l
 |[]=>rfl
 |r::V=>by simp only[og,UF,UG aj V]
def PO{s:S}{ds:aq}{d:cQ}{bi:BE}{e:TypeId}{k:RK}{x:LE}{W dv:aq}{b:BI}(V:∀x,d=U x->x∉ds)(h:kH s d bi e k x W dv=U b):kH (s.bN ds) d bi e k x W dv=U {b with s:=b.s.bN ds}:=by
 unfold kH at h⊢;split at h;rename_i X;cases h;have R:(s.bN ds).bd=true:=by
  have Q:s.fp []=true:=by
   simp only[aw] at X;simp only[S.fp,C.ja,On];exact X.1.1.1
  have:=It (ds:=ds) Q;simpa only[S.fp,C.ja,On] using this
 simp only[aw] at X;rw[aL (by simp only[aw];exact⟨⟨⟨R,X.1.1.2⟩,X.1.2⟩,X.2⟩),Ao V];rfl;cases h
def ayy{bP:Bool}(v:C):yc (w.bN x) h bP v=yc w h bP v:=rfl
def ayz{X:Ty}{W:TI}(v:C):sG X (w.bN x) h W v=sG X w h W v:=by
 unfold sG;split<;>simp only[UE,UG]<;>rfl
def amE{X:aq}{k n:Nat}:∀(l:ap)(i:Nat),tY X i (C.pT k n l)=C.pT k n (tY X i l)
 |[],_=>rfl
 |x::W,i=>by
  simp only[C.pT,tY,amE W (i+1)];split<;>rfl
def amF{n:Nat}:(w.bN x).iK y n=(w.iK y n).bN x:=by
 simp only[S.bN,S.iK,amE]
def ayA{d:cQ}{u:BB}(W:∀X,d=U X->X∉x)(h:HS cf t v w d=U u):HS cf t v (w.bN x) d=U {u with s:=u.s.bN x}:=by
 unfold HS at h⊢;split at h;split at h;have V:(w.bN x).ao=w.ao:=rfl;have R:(w.bN x).rs=w.rs:=rfl;have Q:(w.bN x).ni=w.ni:=rfl;have P:(w.bN x).nb=w.nb:=rfl;simp only[V,R,Q,P];split at h;split at h;rename_i O;cases h;rw[aL O];congr 2;rw[Ao W,<-amF];rfl;cases h;cases h;cases h;cases h
def ayB(h:w.bd=J):(w.bN x).bd=true:=by
 simp only[S.bd,aw,S.bN] at h⊢;exact⟨ab3 x _ 0 h.1,h.2⟩
def ayC{o:Oper}{u:BB}(W:eH cf (w.bN x) o=eH cf w o)(V:∀X,o.dst=U X->X∉x)(h:HT cf o w=U u):HT cf o (w.bN x)=U {u with s:=u.s.bN x}:=by
 unfold HT at h⊢;rw[W];split at h;cases h;rename_i R;have Q:(w.bN x).bd=true:=ayB (by simpa using R);rw[aT (by simp[Q])];generalize eH cf w o=c at h;cases c with
 |call g P=>
  cases g with
  |fn f=>exact ayA V h
  |yl n=>cases h
 |bI v=>cases h
 |no=>cases h
 |op=>cases h
def MR.bN(X:aq):MR->MR
 |.ok s=>.ok (s.bN X)
 |.ac k x s=>.ac k x (s.bN X)
def ayD{X:Ty}{W:Sh}(r:RE):r.o8 X (w.bN x) W=r.o8 X w W:=by
 cases r<;>simp only[RE.o8,UE]<;>rfl
def ayE{e:TypeId}{X:Bool}{W:TI}:By cf (w.bN x) h e y X W v=By cf w h e y X W v:=by
 unfold By;split;simp only[ayD];rfl
def ayF{d:cQ}{s:S}{X:aq}{t:TypeId}{R V v:C}{r:MR}(Q:∀x,d=U x->x∉X)(h:Fi cf d s t R V v=U r):Fi cf d (s.bN X) t R V v=U (r.bN X):=by
 unfold Fi at h⊢;have P:(s.bN X).ao=s.ao:=rfl;have O:(s.bN X).rs=s.rs:=rfl;by_cases W:s.fp [V,v]=J
 ·have N:=It (ds:=X) W;simp only[W,N,P,O,ayE,UF] at h⊢
  repeat' split at h
  all_goals first
   |(cases h;done)
   |(cases h;(repeat' split)<;>first|contradiction|(exfalso;simp_all;done)|(simp only[MR.bN,Ao Q];rfl)|(simp_all[MR.bN,Ao Q];done))
 ·have W:s.fp [V,v]=false:=by simpa using W
  simp only[W] at h
  repeat' split at h
  all_goals first
   |(cases h;done)
   |(exfalso;simp_all;done)
def amG{o:Oper}{r:MR}(h:∀t∈j6 ops o,t∉x)(O:∀X,o.dst=U X->X∉x)(W:Dy cf o w=U r):Dy cf o (w.bN x)=U (r.bN x):=by
 have V:=amD (cf:=cf) (s:=w) h;unfold Dy at W⊢;split at W;rename_i t X y z N;split at W;cases W;rename_i M;have R:¬(o.op.operands.toList.any λX=>((w.bN x).ev cf.gl X).eX)=true:=λQ=>M (by
  rw[kW] at Q⊢;obtain⟨q,P,L⟩:=Q;exact⟨q,P,by rw[V q P];exact L⟩)
 rw[N] at V R⊢;show(if _ then Z else _)=_;rw[aT R,<-V X cN,<-V y cN,<-V z cN];exact ayF O W;cases W
def amH{o:Oper}{r:MR}(h:Dy cf o w=U r):∀c,o.op≠ .defer c:=by
 intro c X;simp[Dy,X] at h
def amI{p:Sp}{D:cq}{V:aq}{a:Act}{W:World}(R:az x e D cf.ty V N w a W)(G:jq p.P cf.ty)(L:fk cf.gl N){o:Oper}{r:MR}(h:Dy cf o w=U r):
  ∃Q,sM p.P o a W undef Q/\r.akQ x e D cf.ty V N w (a.put o.dst undef) Q:=by
 unfold Dy at h;split at h;rename_i t X y z H;split at h;cases h;rename_i F;have M:∀X∈o.op.operands.toList,(w.ev cf.gl X).eX=false:=by
  intro X B;cases A:(w.ev cf.gl X).eX;rfl;exact aZ (kW.2 ⟨X,B,A⟩) F
 rw[H] at M;have v:=dA R L X (M X cN);have u:=dA R L y (M y cN);have q:=dA R L z (M z cN);obtain⟨Q,n,m⟩:=Po (P:=p.P) R G h;exact⟨Q,.inr ⟨by simp only[execOp,H,v,u,q,dC,n,du,fz],rfl⟩,m⟩;cases h
def ayG{o:Oper}{bP:Bool}{b:BI}(Q:KE o.op=J)(h:∀t∈j6 ops o,t∉x)(O:∀X,o.dst=U X->X∉x)(W:fj cf o bP E w=U b):fj cf o bP E (w.bN x)=U {b with s:=b.s.bN x}:=by
 have V:=amD (cf:=cf) (s:=w) h;unfold fj at W⊢;cases P:o.op with
 |call c=>
  rw[P] at Q W V;simp only[KE] at Q;split at Q
  ·rename_i u;simp only[u] at W⊢;have r:c.args.toList.map ((w.bN x).ev cf.gl)=c.args.toList.map (w.ev cf.gl):=jA λX R=>(V X (by simp[iN,Bo];exact .inr (by simpa using R))).symm
   rw[r];simp only[ayy,ayz]
   repeat' split at W
   all_goals first
    |cases W;done
    |(have q:=PO (ds:=x) O W;(repeat' split)<;>first|exact q|contradiction|(exfalso;simp_all;done))
  cases Q
 |makeSlice t n m=>
  rw[P] at W V;simp only at W⊢;rw[<-V n cN,<-V m cN];simp only[UG]
  repeat' split at W
  all_goals first
   |cases W;done
   |(have q:=PO (ds:=x) O W;(repeat' split)<;>first|exact q|contradiction|(exfalso;simp_all;done))
 |buildSlice t d parts=>
  rw[P] at W V;have l:(parts.toList.map λq=>(q.1,(w.bN x).ev cf.gl q.2))=parts.toList.map λq=>(q.1,w.ev cf.gl q.2):=by
   refine jA λq M=> ?_
   rw[V q.2 (by simp only[iN,iD];exact⟨q,M,rfl⟩)]
  have j:(parts.toList.any λq=>((w.bN x).ev cf.gl q.2).eX)=parts.toList.any λq=>(w.ev cf.gl q.2).eX:=by
   rw[sx,kW,kW];constructor;rintro⟨X,R,L⟩;exact⟨X,R,by rw[V X.2 (by simp only[iN,iD];exact⟨X,R,rfl⟩)];exact L⟩;rintro⟨X,R,L⟩;exact⟨X,R,by rw[<-V X.2 (by simp only[iN,iD];exact⟨X,R,rfl⟩)];exact L⟩
  simp only at W⊢;rw[l,j];simp only[UG]
  repeat' split at W
  all_goals first
   |cases W;done
   |(have q:=PO (ds:=x) O W;(repeat' split)<;>first|exact q|contradiction|(exfalso;simp_all;done))
 |slice t X D B A=>
  rw[P] at W V;have H:∀y:Option Operand,(∀z,y=U z->z∈(Op.slice t X D B A).operands.toList)->y.map ((w.bN x).ev cf.gl)=y.map (w.ev cf.gl):=by
   intro y i;cases y with
   |none=>rfl
   |some z=>simp only[eh];rw[<-V z (i z rfl)]
  simp only at W⊢;rw[<-V X cN,H D (λz N=>by subst N;simp[iN]),H B (λz N=>by subst N;simp[iN]),H A (λz N=>by subst N;simp[iN])];simp only[UE]
  repeat' split at W
  all_goals first
   |cases W;done
   |(have q:=PO (ds:=x) O W;(repeat' split)<;>first|exact q|contradiction|(exfalso;simp_all;done))
 |store t a X=>
  rw[P] at W V;simp only at W⊢;rw[<-V a cN,<-V X cN];have g:(w.bN x).rs=w.rs:=rfl;simp only[UF];rw[g];have v:∀{bi:BE}{e:TypeId}{G:RK}{y:LE}{F dv:aq}{k:Nat}{b:BI},(kH w Z bi e G y F dv).map (λb=>{b with s:=(b.s.iK k (Y w.rs)).put o.dst (.bO [])})=U b->
    (kH (w.bN x) Z bi e G y F dv).map (λb=>{b with s:=(b.s.iK k (Y w.rs)).put o.dst (.bO [])})=U {b with s:=b.s.bN x}:=by
   intro bi e G y F dv k b M;obtain⟨b0,f,rfl⟩:=SL.1 M;rw[PO (ds:=x) av f];simp only[eh];rw[amF,<-Ao O]
  repeat' split at W
  all_goals first
   |cases W;done
   |(have q:=v W;clear v;(repeat' split)<;>first|exact q|contradiction|(exfalso;simp_all;done))
 |_=>rw[P] at Q;simp[KE] at Q
end
section
variable{ops:dQ}
def qd(l:cZ):aq:=l.filterMap (·.o.dst)
structure vc(ops:dQ)(listed:Array Bool)(rem:cZ):Prop where
 mem:∀m∈rem,ops[m.j]?=U m.o
 un:∀i,i<ops.size->(listed.getD i J=E<->∃m∈rem,m.j=i)
 sz:listed.size=ops.size
 dn:∀(j:Nat)(o:Oper),ops[j]?=U o->listed.getD j E=J->∀e∈mb o,listed.getD e E=J
 nd:rem.Pairwise λx y=>x.j≠y.j
def vc.listed{listed:Array Bool}{O:cZ}(W:Lt ops x)(N:vc ops listed O):∀(j:Nat)(o:Oper),ops[j]?=U o->(∀e∈mb o,listed.getD e E=J)->∀i,i<ops.size->(x.getD j 0).testBit i=J->listed.getD i E=true:=by
 intro j;induction j using SX with
 |_ j M=>
  intro o X V i R L;rcases W.cl j o X i R L with h|⟨e,Q,h⟩;exact V i h;have H:=W.lt j o X e Q;have G:j<ops.size:=(oY.1 X).1;have P:ops[e]?=U ops[e]:=avo aa;exact M e H ops[e] P (N.dn e _ P (V e Q)) i R h
def vc.lt{listed:Array Bool}{X:cZ}(W:vc ops listed X){m:OM}(V:m∈X):m.j<ops.size:=(oY.1 (W.mem m V)).1
def vc.not{listed:Array Bool}{V:cZ}(X:vc ops listed V){m:OM}(W:m∈V):listed.getD m.j E≠true:=by
 have h:=(X.un m.j (X.lt W)).2 ⟨m,W,rfl⟩;have R:m.j<listed.size:=by rw[X.sz];exact X.lt W
 simp[R] at h⊢;exact h
def vc.next{listed:Array Bool}{V R:cZ}{m:OM}(W:vc ops listed (V++m::R))(D:∀e∈mb m.o,listed.getD e E=J):vc ops (listed.setIfInBounds m.j J) (V++R):=by
 have H:=W.mem m av;have B:m.j<ops.size:=(oY.1 H).1;have P:m.j<listed.size:=by rw[W.sz];exact B
 have O:avT (V++R) (V++m::R):=aja (ajc _) (ai7 _ _);have A:∀x∈V++R,x.j≠m.j:=by
  intro x X;have N:=W.nd;rw[oc] at N;rcases eW.1 X with h|h;exact N.2.2 x h m av;exact Ne.symm ((jC.1 N.2.1).1 x h)
 refine⟨λx X=>W.mem x (O.subset X),λi z=> ?_,by simp[W.sz],λj o M Q e G=> ?_,W.nd.sublist O⟩;rw[Iq _ _ _ _ P];by_cases L:i=m.j;subst L;simp only[cS,aJl,false_iff];rintro⟨x,X,Q⟩;exact A x X Q;rw[aT L,W.un i z];constructor;rintro⟨x,X,rfl⟩;refine⟨x, ?_,rfl⟩;simp only[eW,dV] at X⊢;rcases X with h|h|h;exact .inl h;subst h;exact aZ rfl L;exact .inr h;rintro⟨x,X,rfl⟩;exact⟨x,O.subset X,rfl⟩;rw[Iq _ _ _ _ P];rw[Iq _ _ _ _ P] at Q;split;rfl;by_cases F:j=m.j;subst F;rw[H] at M;cases M;exact D e G;rw[aT F] at Q;exact W.dn j o M Q e G
def vc.some{listed:Array Bool}{W:cZ}(O:Lt ops x)(X:vc ops listed W):∀(j:Nat),(∃m∈W,m.j=j)->∃m∈W,∀e∈mb m.o,listed.getD e E=true:=by
 intro j;induction j using SX with
 |_ j N=>
  rintro⟨m,V,rfl⟩;by_cases h:∀e∈mb m.o,listed.getD e E=J;exact⟨m,V,h⟩;simp only[Classical.not_forall] at h;obtain⟨e,M,R⟩:=h;have Q:=O.lt m.j m.o (X.mem m V) e M;have P:e<ops.size:=Nat.lt_trans Q (X.lt V);have:listed.getD e J=false:=by
   have L:e<listed.size:=by rw[X.sz];exact P
   simp[L] at R⊢;exact R
  exact N e Q ((X.un e P).1 this)
end
def ayH(X:aU)(s:S)(W:aq):((s.bN W).cT X).1=(s.cT X).1/\((s.bN W).cT X).2=(s.cT X).2.bN W:=by
 induction X generalizing s with
 |nil=>exact⟨rfl,rfl⟩
 |cons k X V=>
  simp only[S.cT];have R:((s.bN W).fresh k).1=(s.fresh k).1:=by cases k<;>rfl
  have Q:((s.bN W).fresh k).2=(s.fresh k).2.bN W:=by cases k<;>rfl
  rw[R,Q];obtain⟨P,O⟩:=V (s.fresh k).2;exact⟨by rw[P],O⟩
section
variable{p:Sp}{cf:bF}
open Classical in
noncomputable def DX(s:S)(W:aq)(k:C->S->T):C->S->T:=λv X=>if X.tmps=(s.bN W).tmps then k v {X with tmps:=s.tmps} else .stuck ""
def ayI{P:YH}{k V:C->S->T}
  (h:(kJ cf l P (.fn t) v w k V).aS p N b):(kJ cf l P (.fn t) v (w.bN x) (DX w x k) (DX w x V)).aS p N b:=by
 unfold kJ at h⊢;simp only at h⊢;split at h;rename_i c A M y;split at h;rename_i H;rw[aL (It H)];have:Ky cf (w.bN x) M (DX w x k) (DX w x V)=Ky cf w M k V:=by
  funext e u;cases e<;>simp only[Ky,DX,cS]
 rw[this];exact h;exact h.elim;unfold zR at h⊢;split at h;split at h;rename_i W r;obtain⟨G,F⟩:=ayH W (w.cut v W) x;have D:(w.bN x).cut v W=(w.cut v W).bN x:=rfl;rw[D,G,F];split at h;rename_i X q;split at h;rename_i R;simp only[aw] at R;rw[aL (by simp only[aw];exact⟨It R.1,R.2⟩)];have Q:((w.cut v W).cT W).2.tmps=w.tmps:=(yu W (w.cut v W)).2.1;have B:DX w x k (one X) (((w.cut v W).cT W).2.bN x)=k (one X) ((w.cut v W).cT W).2:=by
  simp only[DX];rw[aL (by simp only[S.bN,Q])];congr 1;simp only[S.bN];generalize((w.cut v W).cT W).2=z at Q;rw[<-Q]
 rw[B];exact h;exact h.elim;exact h.elim;exact h.elim;exact h.elim
end
section
variable{p:Sp}{cf:bF}{ops:dQ}
def amJ{V:Type}:∀{l:List V}{x:V},x∈l->∃X W,l=X++x::W/\(x,X++W)∈KC l
 |[],x,h=>by cases h
 |y::r,x,h=>by
  rcases dV.1 h with rfl|h;exact⟨[],r,rfl,by simp[KC]⟩;obtain⟨X,W,R,Q⟩:=amJ h;subst R;exact⟨y::X,W,rfl,by simp only[KC,dV,iD];exact .inr ⟨_,Q,rfl⟩⟩
def ab4{p:Sp}{O:ai}{L:dG}:∀{l:List T},(Dx l).aS p O L->∀t∈l,t.aS p O L
 |[],h,_,_=>h.elim
 |[t],h,x,X=>by simp only[Hm] at X;subst X;exact h
 |t::u::r,h,x,X=>by
  simp only[Dx,T.aS,BE.ab,true_implies] at h;rcases dV.1 X with rfl|X;exact h.1;exact ab4 (l:=u::r) h.2 x X
def PQ:∀{l m:bG},nK l m=J->l=m
 |[],[],_=>rfl
 |[],_::_,h=>by simp[nK] at h
 |Z::_,[],h=>by simp[nK] at h
 |U _::_,[],h=>by simp[nK] at h
 |Z::X,Z::W,h=>by simp only[nK] at h;rw[PQ h]
 |Z::_,U _::_,h=>by simp[nK] at h
 |U _::_,Z::_,h=>by simp[nK] at h
 |U (t,V)::X,U (R,Q)::W,h=>by
  simp only[nK,aw,dK] at h;rw[h.1.1,C.ua _ _ h.1.2,PQ h.2]
def amK:∀{l m:xW},KD l m=J->l=m
 |[],[],_=>rfl
 |[],_::_,h=>by simp[KD] at h
 |_::_,[],h=>by simp[KD] at h
 |x::X,y::W,h=>by
  simp only[KD,aw] at h;rw[C.ua _ _ h.1,amK h.2]
def LE.bU:∀(a b:LE),LE.aR a b=J->a=b
 |.ah r,b,h=>by cases b<;>simp[LE.aR] at h;rw[RE.bU _ _ h]
 |.lit l,b,h=>by cases b<;>simp[LE.aR] at h;rw[amK h]
 |.kq x y,b,h=>by cases b<;>simp[LE.aR] at h;rw[LE.bU _ _ h.1,LE.bU _ _ h.2]
 |.tR n W,b,h=>by cases b<;>simp[LE.aR] at h;rw[K.bU _ _ h.1,C.ua _ _ h.2]
 |.set x i V X,b,h=>by cases b<;>simp[LE.aR] at h;rw[LE.bU _ _ h.1.1.1,K.bU _ _ h.1.1.2,h.1.2,C.ua _ _ h.2]
 |.sub x R Q,b,h=>by cases b<;>simp[LE.aR] at h;rw[LE.bU _ _ h.1.1,K.bU _ _ h.1.2,K.bU _ _ h.2]
 |.ins x n X,b,h=>by cases b<;>simp[LE.aR] at h;rw[LE.bU _ _ h.1.1,h.1.2,C.ua _ _ h.2]
def S.bU{s s':S}(h:S.aR s s'=J):s=s':=by
 obtain⟨M,a2,L,H,a5,a6,a7,a8⟩:=s;obtain⟨G,F,D,B,A,z,y,x⟩:=s';simp only[S.aR,aw,dK,ce] at h;obtain⟨⟨⟨⟨⟨⟨⟨X,W⟩,V⟩,R⟩,Q⟩,P⟩,O⟩,N⟩:=h;rw[C.ua _ _ X,PQ W,V,R,Q,P,O,N]
def T.bU:∀(a b:T),T.aR a b=J->a=b
 |.out e s,b,h=>by
  cases e with
  |normal=>
   cases b with
   |out W s'=>
    cases W with
    |normal=>rw[S.bU (s:=s) (s':=s') h]
    |_=>simp[T.aR] at h
   |_=>simp[T.aR] at h
  |_=>simp[T.aR] at h
 |.stuck _,b,h=>by simp[T.aR] at h
 |.eL _ _ _ _ _ _ _ _,b,h=>by simp[T.aR] at h
 |.ret v V X,b,h=>by cases b<;>simp[T.aR] at h;rw[C.bU _ _ h.1.1,PQ h.1.2,h.2]
 |.bI v,b,h=>by cases b<;>simp[T.aR] at h;rw[C.bU _ _ h]
 |.aV c t f,b,h=>by cases b<;>simp[T.aR] at h;rw[BE.bU _ _ h.1.1,T.bU _ _ h.1.2,T.bU _ _ h.2]
 |.bi c t,b,h=>by cases b<;>simp[T.aR] at h;rw[BE.bU _ _ h.1,T.bU _ _ h.2]
 |.call f G V X R jM t,b,h=>by
  cases b<;>simp[T.aR] at h;obtain⟨⟨⟨⟨⟨⟨Q,P⟩,O⟩,N⟩,M⟩,L⟩,H⟩:=h;rw[Q,C.ua _ _ P,PQ O,N,M,C.bU _ _ L,T.bU _ _ H]
 |.loop ax R F t,b,h=>by cases b<;>simp[T.aR] at h;rw[h.1.1.1,h.1.1.2,C.ua _ _ h.1.2,T.bU _ _ h.2]
 |.back ax x,b,h=>by cases b<;>simp[T.aR] at h;rw[h.1,C.ua _ _ h.2]
 |.new e x X D t,b,h=>by cases b<;>simp[T.aR] at h;rw[h.1.1.1.1,LE.bU _ _ h.1.1.1.2,h.1.1.2,h.1.2,T.bU _ _ h.2]
 |.ac k x X t,b,h=>by cases b<;>simp[T.aR] at h;rw[h.1.1.1,LE.bU _ _ h.1.1.2,h.1.2,T.bU _ _ h.2]
 |.gQ g k t f,b,h=>by cases b<;>simp[T.aR] at h;rw[BE.bU _ _ h.1.1.1,BE.bU _ _ h.1.1.2,T.bU _ _ h.1.2,T.bU _ _ h.2]
 |.pick n g k t f,b,h=>by
  cases b<;>simp[T.aR] at h;rw[K.bU _ _ h.1.1.1.1,BE.bU _ _ h.1.1.1.2,BE.bU _ _ h.1.1.2,T.bU _ _ h.1.2,T.bU _ _ h.2]
def LF:∀{l:List T}{t:T},t∈l->t∈H4 l
 |[],t,h=>by cases h
 |u::R,t,h=>by
  simp only[H4];rcases dV.1 h with rfl|h;split;rename_i X;obtain⟨w,W,V⟩:=kW.1 X;rw[T.bU _ _ V];exact LF W;exact Oj;split;exact LF h;exact Dd _ (LF h)
def amL{p:Sp}{O:ai}{L:dG}:∀{l:List BE}{t:T},(Ts l t).aS p O L->(∀b∈l,b.ab O=J)/\t.aS p O L
 |[],t,h=>⟨λ_ X=>(by cases X),h⟩
 |b::r,t,h=>by
  simp only[Ts,T.aS] at h;obtain⟨W,V⟩:=amL h.2;exact⟨λx R=>(dV.1 R).elim (λe=>e▸h.1) (W x),V⟩
def ayJ{V:qH}{mW:List BE}{X:cZ}{R:aq}{k:S->T}{Q:C->S->T}{W:cZ}(h:(pW cf V x mW X R k Q y W w).aS p N b):aak cf mW w X=true:=by
 cases W with
 |nil=>
  cases y<;>simp only[pW] at h<;>split at h;assumption;exact h.elim;assumption;exact h.elim
 |cons m M=>
  cases y with
  |zero=>exact h.elim
  |succ y=>
   simp only[pW] at h;split at h;exact h.elim;rename_i P;simpa using P
def ayK(s:S):s.bN []=s:=by
 obtain⟨X,b,c,d,e,f,g,i⟩:=s;simp only[S.bN,S.mk.injEq,and_self,and_true];apply kU;intro i;rw[wE];cases X[i]?<;>simp
def ab5:∀{l:List T}{t:T},t∈H4 l->t∈l
 |[],t,h=>by cases h
 |u::X,t,h=>by
  simp only[H4] at h;split at h;exact Dd _ (ab5 h);rcases dV.1 h with rfl|h;exact Oj;exact Dd _ (ab5 h)
def amM{O:ai}{L:dG}:∀{l:List T},l≠[]->(∀t∈l,t.aS p O L)->(Dx l).aS p O L
 |[],h,_=>aZ rfl h
 |[t],_,h=>h t Oj
 |t::u::r,_,h=>by
  simp only[Dx,T.aS];exact⟨λ_=>h t Oj,λ_=>amM (l:=u::r) av λx X=>h x (Dd _ X)⟩
def amN{k:S->T}{X:C->S->T}:∀{l:List T},(Dx l).nL k X=Dx (l.map (T.nL k X))
 |[]=>rfl
 |[t]=>rfl
 |t::u::r=>by
  simp only[Dx,T.nL,dU];rw[amN (l:=u::r)];rfl
def ayL{k:S->T}{Q:C->S->T}{P M:C->S->T}(z:∀X H N b,((P X H).nL k Q).aS p N b->(M X H).aS p N b)(h:((zR cf t v w P).nL k Q).aS p N b):(zR cf t v w M).aS p N b:=by
 unfold zR at h⊢;cases G:cf.sig t with
 |none=>rw[G] at h;exact h.elim
 |some F=>
  simp only[G] at h⊢;cases D:iO cf.ty F with
  |none=>rw[D] at h;exact h.elim
  |some B=>
   simp only[D] at h⊢;cases A:Bw cf.ty F ((w.cut v B).cT B).1 with
   |none=>rw[A] at h;exact h.elim
   |some l=>
    simp only[A] at h⊢;split at h;rename_i x;rw[aL x];simp only[T.nL,T.aS] at h⊢;intro y V W u;refine(h y V W u).mono λe i R=> ?_
    cases e with
    |returned X=>
     obtain⟨r,q,o,n,m,j⟩:=R;exact⟨r,q,o,n,m,z _ _ _ _ j⟩
    |panicked f=>exact R
    |outgrown=>exact R
    exact h.elim
def ayM{k:S->T}{H j:C->S->T}{i:YH}{m:OM}{D B:S->T}(R:∀Q N b,((D Q).nL k H).aS p N b->(B Q).aS p N b)(h:((Ft cf (OO cf) x j m D w).nL k H).aS p N b):(Ft cf (kJ cf l i) x H m B w).aS p N b:=by
 unfold Ft at h⊢;cases A:HT cf m.o w with
 |some u=>
  simp only[A,T.nL,T.aS] at h⊢;obtain⟨f,e,d⟩:=h;exact⟨f,e,R _ _ _ d⟩
 |none=>
 simp only[A] at h⊢;cases P:eH cf w m.o with
 |call c ag=>
  cases c with
  |fn g=>
   simp only[P,OO] at h⊢;split at h;rename_i G;have G:cf.inl g=none:=by simpa using G
   simp only[kJ,G];exact ayL (λv Q N b a=>R _ N b a) h;exact h.elim
  |yl n=>simp only[P,OO] at h;exact h.elim
 |bI v=>simp only[P] at h;exact h.elim
 |no=>simp only[P] at h;exact h.elim
 |op=>
  simp only[P] at h⊢;cases z:(if KE m.o.op then fj cf m.o m.bP E w else Z) with
  |some X=>
   simp only[z,T.nL,T.aS] at h⊢;exact⟨h.1,λrv af=>R _ _ _ (h.2 rv af)⟩
  |none=>
   simp only[z] at h⊢;cases F:Dy cf m.o w with
   |some r=>
    cases r with
    |ok Q=>simp only[F] at h⊢;exact R _ _ _ h
    |ac k W Q=>simp only[F,T.nL,T.aS] at h⊢;exact R _ _ _ h
   |none=>
   simp only[F] at h⊢;by_cases y:oh m.o.op=J;rw[aL y] at h⊢;cases t:BL cf w m.o with
   |none=>rw[t] at h;exact h.elim
   |some W=>
    obtain⟨X,v⟩:=W;simp only[t,T.nL,T.aS] at h⊢;exact⟨h.1,R _ _ _ h.2⟩
   rw[aT y] at h⊢;by_cases q:ON m.o.op=J;rw[aL q] at h⊢;cases M:gR cf m w with
   |ok Q=>simp only[M] at h⊢;exact R _ _ _ h
   |bi X Q=>simp only[M] at h;exact h.elim
   |split X s1 s2=>simp only[M] at h;exact h.elim
   |no V=>simp only[M] at h;exact h.elim
   rw[aT q] at h;exact h.elim
def ayN{k:S->T}{W D:C->S->T}{P:YH}{mW:List BE}{V:aq}:∀(n:Nat)(R:cZ)(Q:cZ)(s:S)(O:ai)(L:dG),
  ((pW cf (OO cf) x mW Q V (.out .normal) D n R s).nL k W).aS p O L->(pW cf (kJ cf l P) x mW Q V k W n R s).aS p O L:=by
 intro n;induction n with
 |zero=>
  intro R Q s O L h;cases R with
  |nil=>
   simp only[pW] at h⊢;split at h;rename_i N;rw[aL N];exact h;exact h.elim
  |cons m r=>exact h.elim
 |succ n B=>
  intro R Q s O L h;cases R with
  |nil=>
   simp only[pW] at h⊢;split at h;rename_i N;rw[aL N];exact h;exact h.elim
  |cons m r=>
   simp only[pW] at h⊢;split at h;exact h.elim;rename_i N;rw[aT N];rw[amN] at h;have H:=ab4 h;cases G:(KC (m::r)).filter (aal x) with
   |nil=>rw[G] at h;exact h.elim
   |cons X A=>
    rw[G] at H;refine amM (λF=> ?_) λt z=> ?_
    have:=LF (Oj (a:=Ft cf (kJ cf l P) V W X.1 (λM=>pW cf (kJ cf l P) x mW (KF x X.1 Q) V k W n X.2 M) s) (l:=A.map λX=>Ft cf (kJ cf l P) V W X.1 (λM=>pW cf (kJ cf l P) x mW (KF x X.1 Q) V k W n X.2 M) s));simp only[dU] at F;rw[F] at this;cases this;obtain⟨y,w,rfl⟩:=iD.1 (ab5 z);exact ayM (λM O L v=>B _ _ _ _ _ v) (H _ (iD.2 ⟨_,LF (iD.2 ⟨y,w,rfl⟩),rfl⟩))
structure amO(cf:bF)(ops:dQ)(bs:aq)(qs ch:cZ):Prop where
 amP:Lt ops bs
 yt:∀m∈qs++ch,∀x∈qs++ch,∀d,x.o.dst=U d->d∈j6 ops m.o->(bs.getD m.j 0).testBit x.j=J
 dst:∀x∈qs++ch,∀y∈qs++ch,x.j≠y.j->∀d,x.o.dst=U d->y.o.dst≠U d
 gd:∀m∈qs++ch,m.o.guard=Z/\m.bP=E
 qt:∀q∈qs,oh q.o.op=J
def ayO{F:Fence}(hF:rL F)(ok:jS p cf){nn:Nat}(ih:An p cf nn){D:cq}{B:j8}{yh:YH}(hY:rN p cf D.dF B yh){Q:Exit->Act->World->Prop}(HP:∀ch a' z pd X,eN p.w0 D pd X a'.defers z->p.R (.panicked ch) z->Q (.panic ch) a' z)
   {mW:List BE}{qs ch:cZ}{ds:aq}(hX:amO cf ops x qs ch)(ca:∀M∈qs++ch,∀d,M.o.dst=U d->d∈ds){k:S->T}{kp:C->S->T}{V0:aq}(hB:B.mF w N V0 b)(cc:∀H∈mW,H.bd (Y N.i) (Y N.b) (Y N.r)=J/\H.ab N=J)
  (hk:∀s' O' V' a' z L',bH w N V0 s' O' V'->dq w.ax b L'->az p.S0 p.w0 D cf.ty V' O' s' a' z->(k s').aS p O' L'->Q .normal a' z)
  (cl:∀v s' O' V' a' z L',bH w N V0 s' O' V'->dq w.ax b L'->az p.S0 p.w0 D cf.ty V' O' s' a' z->(kp v s').aS p O' L'->Q (.panic [{v:=v.ab O' V',recovered:=E}]) a' z):
  ∀(a0:Nat)(listed:Array Bool)(af ag qv:cZ)(s:S)(O:ai)(V:aq)(a:Act)(W:World)(L:dG),(af++ag).length=a0->vc ops listed (af++ag)->(∀q∈af,q∈qv)->(∀q∈qv,q∈qs)->(∀m∈ag,m∈ch)->
   bH w N V0 s O V->dq w.ax b L->az p.S0 p.w0 D cf.ty V O (s.bN (qd af)) a W->fk cf.gl O->(pW cf (kJ cf (λf c s k=>gp cf nn f c s yh k) yh) x mW qv ds k kp (Y ag) ag s).aS p O L->
   wpAnyIn F y p.P .any ops Q a0 listed a W:=by
 intro a0;induction a0 with
 |zero=>
  intro listed af ag qv s O V a W L bt hW bb bf hr hl hL R hg h;have hp:∀q∈af,q∈qs:=λq hq=>bf q (bb q hq)
  have bg:af++ag=[]:=E1.1 bt;obtain⟨rfl,rfl⟩:=List.append_eq_nil_iff.1 bg;simp only[E6,pW] at h;split at h;refine⟨?_,hk s O V a W L hl hL (by have:=R;simp only[qd,List.filterMap_nil,ayK] at this;exact this) h⟩;cases al:S2 .any ops listed with
  |nil=>rfl
  |cons i r=>
   obtain⟨h1,o,ho,-⟩:=mem_ready.1 (show i∈S2 .any ops listed by rw[al];simp);obtain⟨m,hm,-⟩:=(hW.un i (oY.1 ho).1).1 h1;cases hm
  exact h.elim
 |succ a0 cn=>
  intro listed af ag qv s O V a W L bt hW bb bf hr hl hL R hg h;have hp:∀q∈af,q∈qs:=λq hq=>bf q (bb q hq)
  have a9:∀m∈af++ag,m∈qs++ch:=λm hm=>by
   rcases eW.1 hm with h1|h1;exact xQ _ (hp m h1);exact Of _ (hr m h1)
  refine⟨λal=> ?_,λi hi=> ?_⟩;exfalso;obtain⟨m0,cv⟩:=List.exists_mem_of_length_pos (l:=af++ag) aa;obtain⟨m,hm,bg⟩:=vc.some hX.amP hW m0.j ⟨m0,cv,rfl⟩;have:m.j∈S2 .any ops listed:=
   mem_ready.2 ⟨(hW.un m.j (hW.lt hm)).2 ⟨m,hm,rfl⟩,m.o,hW.mem m hm,λe he hb=>bg e.on (amg he hb)⟩
  rw[al] at this;cases this;obtain⟨h1,o,ho,bg⟩:=mem_ready.1 hi;obtain⟨m,hm,rfl⟩:=(hW.un i (oY.1 ho).1).1 h1;have bx:=hW.mem m hm;rw[bx] at ho;cases ho;have hd:∀e∈mb m.o,listed.getD e E=true:=λe he=>by
   obtain⟨ed,h2,h3,rfl⟩:=amh he;exact bg ed h2 h3
  have b0:∀M∈af++ag,¬(x.getD m.j 0).testBit M.j=true:=λM hx hb=>hW.not hx (hW.listed hX.amP m.j m.o bx hd M.j (hW.lt hx) hb)
  have al:∀t∈j6 ops m.o,t∉qd af:=λt ht hq=>by
   obtain⟨M,hx,bk⟩:=De.1 hq;exact b0 M (xQ _ hx) (hX.yt m (a9 m hm) M (a9 M (xQ _ hx)) t bk ht)
  obtain⟨cx,co⟩:=hX.gd m (a9 m hm);have cp:=ayJ h;have cy:mw m.o (yielded ops a.tmps)=true:=abR R (by simp[iA,cx]);unfold wpOpIn;rw[bx];simp only[cy,cS];rcases eW.1 hm with cA|cB
  
  obtain⟨xs,ys,rfl⟩:=aJm cA;have hq:=fZ.1 cp m (bb m av);split at hq;rename_i d H v b1 hv;split at hq;rename_i G hw;simp only[aw,jL] at hq;have cC:=C.bU _ _ hq.1;subst cC;have cD:H.ab O=true:=by
   rcases hq.2 with h5|h5;cases H<;>simp only[BE.isT,jB] at h5;simp only[BE.ab];exact h5;obtain⟨M,hx,h6⟩:=kW.1 h5;rw[<-BE.bU _ _ h6,BE.eC hl.ext.agree M (cc M hx).1];exact(cc M hx).2
  have a3:=amB (O:=O) (hX.qt m (hp m av)) co (amC (ops:=ops) (ds:=qd (xs++m::ys)) al hv) cD;obtain⟨v',z,V',an,R',A⟩:=Ph R ok.ll hg m a3;have aA:=hW.nd;rw[Bn,ef] at hW aA;have aC:d∉qd (xs++ys):=λhh=>by
   obtain⟨M,hx,bk⟩:=De.1 hh;have b2:M.j≠m.j:=by
    rw[oc] at aA;rcases eW.1 hx with h5|h5;exact aA.2.2 M h5 m av;exact Ne.symm ((jC.1 aA.2.1).1 M (by simp[h5]))
   exact hX.dst M (xQ _ (hp M (by rcases eW.1 hx with h5|h5<;>simp[h5]))) m (xQ _ (hp m av)) b2 d bk b1
  have hs:((s.bN (qd (xs++m::ys))).put m.o.dst v)=s.bN (qd (xs++ys)):=by
   rw[b1];simp only[S.put,wl,S.bN];congr 1;apply kU;intro i;rw[wc,wE,wE,jf,LA];have cI:=(cu.1 hw).1;by_cases hi:d=i;subst hi;rw[aL rfl,aL cI,hw];simp[aC];rw[aT hi];have cO:(qd (xs++m::ys)).contains i=(qd (xs++ys)).contains i:=by
    rw[sx,qD,qD];simp only[qd,List.filterMap_append,ajb,b1,eW,dV];constructor;rintro(h5|h5|h5);exact .inl h5;exact aZ h5.symm hi;exact .inr h5;rintro(h5|h5);exact .inl h5;exact .inr (.inr h5)
   rw[cO]
  rw[hs] at R' A;refine Ag hF an (Pt a3) ?_;refine cn _ (xs++ys) ag qv s O V' _ z L (by simp at bt⊢;omega) ?_ (λq hq=>bb q (by rcases eW.1 hq with h5|h5<;>simp[h5])) bf hr (hl.trans ⟨A.ext,A.mono,A.len,A.ax⟩) hL R' hg h;rw[Bn];exact hW.next hd;cases hq;cases hq
  
  obtain⟨xs,ys,rfl,cs⟩:=amJ cB;have cR:(xs++m::ys).length=(xs++ys).length+1:=dl;have cW:aal x (m,xs++ys)=true:=by
   refine fZ.2 λM hx=> ?_
   have:=b0 M (Of _ (by simp only[eW,dV] at hx⊢;exact hx.imp id .inr));simpa using this
  have h:(Ft cf (kJ cf (λf c s k=>gp cf nn f c s yh k) yh) ds kp m (λs'=>pW cf (kJ cf (λf c s k=>gp cf nn f c s yh k) yh) x mW (KF x m qv) ds k kp (xs++ys).length (xs++ys) s') s).aS p O L:=by
   rw[cR] at h;generalize c0:xs++m::ys=c1 at h cs;cases c1 with
   |nil=>simp at c0
   |cons m0 r0=>
    simp only[pW,cp,ZS,jB,gw] at h;exact ab4 h _ (LF (iD.2 ⟨_,qE.2 ⟨cs,cW⟩,rfl⟩))
  have c2:vc ops (listed.setIfInBounds m.j J) (af++(xs++ys)):=by
   have h5:af++(xs++m::ys)=(af++xs)++m::ys:=av;rw[h5] at hW;have:=hW.next hd;simpa using this
  have aC:∀d,m.o.dst=U d->d∉qd af:=λd c3 hh=>by
   obtain⟨M,hx,bk⟩:=De.1 hh;have b2:M.j≠m.j:=(oc.1 hW.nd).2.2 M hx m av;exact hX.dst M (a9 M (xQ _ hx)) m (a9 m hm) b2 d bk c3
  have a4:∀(s1:S)(O1:ai)(V1:aq)(a1:Act)(W1:World)(L1:dG),bH s O V s1 O1 V1->dq s.ax L L1->az p.S0 p.w0 D cf.ty V1 O1 (s1.bN (qd af)) a1 W1->(pW cf (kJ cf (λf c s k=>gp cf nn f c s yh k) yh) x mW (KF x m qv) ds k kp (xs++ys).length (xs++ys) s1).aS p O1 L1->wpAnyIn F y p.P .any ops Q a0 (listed.setIfInBounds m.j J) a1 W1:=
   λs1 O1 V1 a1 W1 L1 ct c4 R1 c5=>cn _ af (xs++ys) (KF x m qv) s1 O1 V1 a1 W1 L1 (by simp at bt⊢;omega) c2 (λq hq=>qE.2 ⟨bb q hq,by have:=b0 q (xQ _ hq);simpa using this⟩) (λq hq=>bf q (qE.1 hq).1) (λM hx=>hr M (by simp only[eW,dV] at hx⊢;exact hx.imp id .inr)) (hl.trans ct) (hL.trans c4 hl.ax) R1 (hg.ext ct.ext) c5
  have b3:=(UD (cf:=cf) (s:=s) (O:=O) al).ev cf.gl;unfold Ft at h;split at h;rename_i u hu;have c6:=ayC (FI b3) aC hu;simp only[T.aS] at h;obtain⟨aE,hr,h⟩:=h;obtain⟨bc,tv,c7,aA,b4⟩:=axm ok.zM R hg c6 hr;refine⟨λf _=>hF.fn f, ?_⟩;rw[zI _ _ _ aA,c7,SR];refine⟨λhd=>by rw[hF.yt] at hd;simp at hd,CallsIn.mono (hF.calls b4) (λe z he=> ?_)⟩;obtain⟨rfl,R',A⟩:=he;exact a4 u.s _ V _ z L ⟨A.ext,A.mono,A.len,A.ax⟩ (dq.refl _ _) R' h;split at h;rename_i g bc bl;have b5:eH cf (s.bN (qd af)) m.o=.call (.fn g) bc:=by rw[FI b3];exact bl
  have b6:B.mF (s.bN (qd af)) O V L:=by
   have:=hB.go hl hL;exact⟨⟨this.later.ext,this.later.mono,this.later.len,this.later.ax⟩,this.Il⟩
  have hC:=LB ok ih hY L (.fn g) bc (s.bN (qd af)) _ _ O V a W (λe z=>match e with
    |.returned v=>wpAnyIn F y p.P .any ops Q a0 (listed.setIfInBounds m.j J) (a.put m.o.dst v) z
    |.panicked ch=>Q (.panic ch) a z
    |.outgrown=>LetsOut Q) b6 (ayI h) R hg
   (λv s' O' V' z L' A ba R' hs=>by
    simp only[DX] at hs;split at hs;rename_i br;refine a4 (({s' with tmps:=s.tmps}:S).put m.o.dst v) O' V' _ z L' (bH.put (s':={s' with tmps:=s.tmps}) (show bH s O V _ O' V' from⟨A.ext,A.mono,A.len,A.ax⟩) _ _) ba ?_ hs;rw[Ao aC];have:({s' with tmps:=s.tmps}:S).bN (qd af)=s':=by
     simp only[S.bN] at br⊢;rw[<-br]
    rw[this];exact R'.put _ _;exact hs.elim)
   (λv s' O' V' z L' A ba R' hs=>by
    simp only[DX] at hs;split at hs;rename_i br;refine cl v (({s' with tmps:=s.tmps}:S).bN ds) O' V' a z L' (hl.trans ⟨A.ext,A.mono,A.len,A.ax⟩) (hL.trans ba hl.ax) ?_ hs;have:({s' with tmps:=s.tmps}:S).bN ds=s'.bN ds:=by
     have h6:=amA (s:=s) (ds:=ds) (es:=qd af) (λM hx=>by
      obtain⟨X,hy,b7⟩:=De.1 hx;exact ca X (a9 X (xQ _ hy)) M b7)
     have h7:=ko S.tmps h6;simp only[S.bN] at h7 br⊢;rw[br,h7]
    rw[this];exact R'.bN ds;exact hs.elim)
   (λch z pd X hA hR=>HP ch a z pd X hA hR)
  obtain⟨c8,b4⟩:=hC;refine⟨λf _=>hF.fn f, ?_⟩;have aA:∀c,m.o.op≠ .defer c:=λc b8=>by simp[eH,b8] at bl
  rw[zI _ _ _ aA,Uc R hg b5 c8,SR];refine⟨λhd=>by rw[hF.yt] at hd;simp at hd,CallsIn.mono (hF.calls b4) (λe z he=> ?_)⟩;cases e<;>exact he;rename_i yn bc bl;have b5:eH cf (s.bN (qd af)) m.o=.call (.yl yn) bc:=by rw[FI b3];exact bl
  have b6:B.mF (s.bN ds) O V L:=by
   have:=hB.go hl hL;exact⟨⟨this.later.ext,this.later.mono,this.later.len,this.later.ax⟩,this.Il⟩
  have Rd:az p.S0 p.w0 D cf.ty V O (s.bN ds) a W:=by
   have h6:=amA (s:=s) (ds:=ds) (es:=qd af) (λM hx=>by
    obtain⟨X,hy,b7⟩:=De.1 hx;exact ca X (a9 X (xQ _ hy)) M b7)
   rw[<-h6];exact R.bN ds
  have hC:=LB ok ih hY L (.yl yn) bc (s.bN ds) _ _ O V a W (λe z=>match e with
    |.returned v=>wpAnyIn F y p.P .any ops Q a0 (listed.setIfInBounds m.j J) (a.put m.o.dst v) z
    |.panicked ch=>Q (.panic ch) a z
    |.outgrown=>LetsOut Q) b6 h Rd hg
   (λv s' O' V' z L' A ba R' hs=>a4 (s'.put m.o.dst v) O' V' _ z L' ((show bH s O V s' O' V' from⟨A.ext,A.mono,A.len,A.ax⟩).put _ _) ba ((R'.put m.o.dst v).bN (qd af)) hs)
   (λv s' O' V' z L' A ba R' hs=>cl v (s'.bN ds) O' V' a z L' (hl.trans ⟨A.ext,A.mono,A.len,A.ax⟩) (hL.trans ba hl.ax) (R'.bN ds) hs)
   (λch z pd X hA hR=>HP ch a z pd X hA hR)
  obtain⟨fn,dy,assign,body,hy,c9⟩:=hC F hF (y-1);refine⟨λf _=>hF.fn f, ?_⟩;have aA:∀c,m.o.op≠ .defer c:=λc b8=>by simp[eH,b8] at bl
  rw[zI _ _ _ aA,abm R hg b5,hy,avA];refine⟨λhd=>by rw[hF.yt] at hd;simp at hd,RoundIn.mono c9 (λe z he=> ?_)⟩;cases e<;>exact he;split at h;rename_i H hb;split at hb;rename_i dc;simp only[T.aS] at h;have dd:=ayG (cf:=cf) (ops:=ops) dc al aC hb;obtain⟨v',z,rv,an,df,R',A⟩:=aa6 R ok.ll hg dd h.1;exact Ag hF an (abo hb) (a4 H.s _ V _ z L ⟨A.ext,A.mono,A.len,A.ax⟩ (dq.refl _ _) R' (h.2 rv (by rw[ok.pt];exact df)));cases hb;split at h;rename_i s' hu;obtain⟨z,an,R',A⟩:=amI R ok.ll hg (amG (ops:=ops) al aC hu);exact Ag hF an (amH hu) (a4 s' O V _ z L ⟨A.ext,A.mono,A.len,A.ax⟩ (dq.refl _ _) R' h);rename_i k' x' s' hu;obtain⟨z,an,R',A⟩:=amI R ok.ll hg (amG (ops:=ops) al aC hu);simp only[T.aS] at h;exact Ag hF an (amH hu) (a4 s' _ V _ z L ⟨A.ext,A.mono,A.len,A.ax⟩ (dq.refl _ _) R' h);split at h;rename_i dk;split at h;rename_i H v hv;simp only[T.aS] at h;have a3:=amB (O:=O) dk co (amC (ops:=ops) (ds:=qd af) al hv) h.1;obtain⟨v',z,V',an,R',A⟩:=Ph R ok.ll hg m a3;rw[<-Ao aC] at R' A;exact Ag hF an (Pt a3) (a4 (s.put m.o.dst v) O V' _ z L ⟨A.ext,A.mono,A.len,A.ax⟩ (dq.refl _ _) R' h.2);exact h.elim;split at h;rename_i dn;split at h;rename_i s' dr;have dx:=ayx (ops:=ops) dn al aC dr;have a3:(gR cf m (s.bN (qd af))).gives O (s'.bN (qd af)):=by rw[dx];rfl
  obtain⟨v',z,V',an,R',A⟩:=Ph R ok.ll hg m a3;exact Ag hF an (Pt a3) (a4 s' O V' _ z L ⟨A.ext,A.mono,A.len,A.ax⟩ (dq.refl _ _) R' h);exact h.elim;exact h.elim;exact h.elim
def amQ:∀{P:cZ}{s:S}{x:S×List BE},Fs cf P s=U x->x.1={s with tmps:=x.1.tmps}/\Y x.1.tmps=Y s.tmps/\(∀t,t∉qd P->x.1.tmps[t]?=s.tmps[t]?)/\∀b∈x.2,b.bd s.ni s.nb (Y s.rs)=J
 |[],s,x,h=>by simp only[Fs,cX] at h;subst h;exact⟨rfl,rfl,λ_ _=>rfl,λ_ R=>(by cases R)⟩
 |q::r,s,x,h=>by
  simp only[Fs] at h;split at h;rename_i b v X;cases Q:Fs cf r (s.put q.o.dst v) with
  |none=>rw[Q] at h;cases h
  |some y=>
   rw[Q] at h;simp only[eh,cX] at h;subst h;obtain⟨L,H,G,O⟩:=amQ Q;refine⟨?_, ?_,λt N=> ?_,λx W=> ?_⟩;show y.1=_;rw[L];cases q.o.dst<;>rfl;show Y y.1.tmps=_;rw[H];cases q.o.dst<;>simp[S.put,wl];have F:t∉qd r:=λM=>N (by
    simp only[qd,ajb];cases q.o.dst with
    |none=>exact M
    |some d=>exact Dd _ M)
   show y.1.tmps[t]?=_;rw[G t F,nc (λe=>N (by simp[qd,e]))];have V:(s.put q.o.dst v).ni=s.ni/\(s.put q.o.dst v).nb=s.nb/\(s.put q.o.dst v).rs=s.rs:=by cases q.o.dst<;>exact⟨rfl,rfl,rfl⟩
   have R:b.bd s.ni s.nb (Y s.rs)=true:=by
    unfold BL at X;split at X;cases X;split at X;cases X;exact BE.bo.1 _;split at X;rename_i D;cases X;exact D;cases X;cases X
   simp only at W;split at W;have:=O x W;rwa [V.1,V.2.1,V.2.2] at this;rcases dV.1 W with rfl|W;exact R;have:=O x W;rwa [V.1,V.2.1,V.2.2] at this
  cases h
def amR{F:Fence}(hF:rL F)(ok:jS p cf){nn:Nat}(ih:An p cf nn){D:cq}{B:j8}{yh:YH}(hY:rN p cf D.dF B yh){Q:Exit->Act->World->Prop}(HP:∀u a' g pd X,eN p.w0 D pd X a'.defers g->p.R (.panicked u) g->Q (.panic u) a' g)
  {id:Nat}{so:Bool}{c:OP}{a:Act}{k:XE->S->T}(hB:B.mF w N x b)(r:KH cf so ops w=U c)
  (h:(OV cf (kJ cf (λf c w k=>gp cf nn f c w yh k) yh) ops k c).aS p N b)(R:az p.S0 p.w0 D cf.ty x N w a e)(hg:fk cf.gl N)
  (hk:∀s' O' V' a' g L',bH w N x s' O' V'->dq w.ax b L'->az p.S0 p.w0 D cf.ty V' O' s' a' g->(k .normal s').aS p O' L'->Q .normal a' g)
  (bf:∀v s' O' V' a' g L',bH w N x s' O' V'->dq w.ax b L'->az p.S0 p.w0 D cf.ty V' O' s' a' g->(k (.bI v) s').aS p O' L'->Q (.panic [{v:=v.ab O' V',recovered:=E}]) a' g):
  (Code.region id ops J).wpIn F y p.P Q a e:=by
 unfold KH at r;split at r;rename_i ag;obtain⟨al,an⟩:∃al,al=hJ (λ_=>E) E J 0 (Y w.ao) ops.toList:=⟨_,rfl⟩;obtain⟨z,a1⟩:∃z,z=Dz so ops (Y w.ao):=⟨_,rfl⟩;obtain⟨u,a3⟩:∃u,u=DA so ops (Y w.ao):=⟨_,rfl⟩;have bg:z=al.filter λm=>(Tt so ops).contains m.j:=by rw[a1,an];rfl
 have bk:u=al.filter λm=> !(Tt so ops).contains m.j:=by rw[a3,an];rfl
 have ag:=(aw _ _▸ag).2;unfold KG at ag;rw[<-a1,<-a3,<-an] at ag;rw[<-a1,<-a3] at r;cases hq:Fs cf z (w.room (mA ops.toList)) with
 |none=>rw[hq] at r;cases r
 |some x1=>
  obtain⟨s1,mW⟩:=x1;rw[hq] at r;simp only[ZL,chI] at r;split at r;cases r;cases r;obtain⟨a9,h⟩:=amL h;simp only at h a9;have h:(pW cf (kJ cf (λf c w k=>gp cf nn f c w yh k) yh) (pV ops.toList) mW z (Fo ops.toList) (k .normal) (λv=>k (.bI v)) (Y u) u s1).aS p N b:=by
   split at h;exact h;exact ayN _ _ _ _ _ _ h
  simp only[aan,aw,dK] at ag;obtain⟨⟨⟨⟨⟨⟨⟨⟨c1,c2⟩,c4⟩,c5⟩,c6⟩,c7⟩,c8⟩,c9⟩,b0⟩:=ag;have af:∀m∈z++u,m∈al:=λm A=>by
   rcases eW.1 A with h1|h1;rw[bg] at h1;exact(qE.1 h1).1;rw[bk] at h1;exact(qE.1 h1).1
  have ba:∀m∈al,ops[m.j]?=U m.o:=λm A=>by
   obtain⟨i,hi⟩:=avs.1 A;rw[an] at hi;have h1:=Lz _ _ _ _ _ _ _ _ hi;have h2:=abX _ _ _ _ _ _ _ _ hi;rw[h2,jf];simpa using h1
  have bb:=Ux c4;have hX:amO cf ops (pV ops.toList) z u:=by
   refine⟨amu c1,λm A M hx d hd l=> ?_,λM hx X hy bl d bc bd=> ?_,λm A=> ?_,λq hq=> ?_⟩;have:=fZ.1 (fZ.1 c5 m (af m A)) M (af M hx);rw[hd] at this;simp only[jL,iw] at this;rcases this with h5|h5;rw[qD.2 l] at h5;cases h5;exact h5;obtain⟨i,hi⟩:=avs.1 (af M hx);obtain⟨j,hj⟩:=avs.1 (af X hy);have br:i≠j:=λH=>by subst H;rw[hi] at hj;cases hj;exact bl rfl
   have aA:=(cu.1 hi);have aC:=(cu.1 hj);rcases aJj br with a4|a4;exact(Oe.1 bb i j aA.1 aC.1 a4) d (by rw[aA.2];exact bc) (by rw[aC.2];exact bd);exact(Oe.1 bb j i aC.1 aA.1 a4) d (by rw[aC.2];exact bd) (by rw[aA.2];exact bc);have:=fZ.1 c2 m (af m A);simp only[aw,iw,aIW] at this;exact this;have:=fZ.1 c6 q hq;simp only[aw] at this;exact this.1
  obtain⟨Rr,a0⟩:=R.room (mA ops.toList);have Rd:=Rr.drew;obtain⟨e1,e2,e3,e4⟩:=amQ hq;simp only at e1 e2 e3 e4;have Rb:az p.S0 p.w0 D cf.ty (x++eF (mA ops.toList) 0) N (s1.bN (qd z)) a {e with drawn:=e.drawn+1}:=by
   have hh:s1.bN (qd z)={w.room (mA ops.toList) with tmps:=tY (qd z) 0 s1.tmps}:=by
    rw[e1];rfl
   rw[hh];refine⟨Rd.mem,Rd.gV,Rd.ei,Rd.eb,Rd.er,Rd.dp,by simp only[LA,e2];exact Rd.size,λt sv l=> ?_,Rd.gD⟩;simp only at l;rw[wE,jf] at l;cases hx:s1.tmps[t]? with
   |none=>rw[hx] at l;cases l
   |some M=>
    rw[hx] at l;simp only[eh,cX] at l;split at l;exact .inl l.symm;rename_i bs;subst l;exact Rd.tmps t M (by rw[<-e3 t (λA=>bs (qD.2 A))];exact hx)
  have bt:bH w N x s1 N (x++eF (mA ops.toList) 0):=by
   rw[e1];exact⟨a0.ext,a0.mono,a0.len,a0.ax⟩
  refine wpIn_region_any ok.mix ?_;refine ayO (ds:=Fo ops.toList) hF ok ih hY HP hX (λM hx d hd=> ?_) hB (λG hb=>⟨by have:=e4 G hb;rw[R.ei,R.eb,R.er];exact this,a9 G hb⟩) hk bf ops.size _ z u z s1 N _ a _ b c8 ?_ (λ_ h=>h) (λ_ h=>h) (λ_ h=>h) bt (dq.refl _ _) Rb hg h;have h2:ops.toList[M.j]?=U M.o:=by have:=ba M (af M hx);simpa using this
  exact De.2 ⟨M.o,jK h2,hd⟩;refine⟨λm A=>ba m (af m A),λi hi=> ?_,av,λj o ho hj=> ?_, ?_⟩;constructor;intro _;have:=fZ.1 c7 i (by simpa using hi);obtain⟨m,A,hj⟩:=kW.1 this;exact⟨m,A,by simpa using hj⟩;intro _;simp[hi];exfalso;have bx:j<ops.size:=(oY.1 ho).1;simp[bx] at hj;have:=ab0 c9;rw[avB] at this;exact this
 cases r
end
section
variable{p:Sp}{j:bF}
def j8.here(s:S)(O:ai)(V:aq)(L:dG):(j8.mk s O V L).mF s O V L:=⟨bH.refl _ _ _,dq.refl _ _⟩
def ayP(W:Array Nat)(V:gG)(A:mR):(W.zip V.toArray).foldl (λ(X:mR)(x:Nat×Value)=>match x with|(t,a)=>X.setIfInBounds t a) A=(W.toList.zip V).foldl (λ(X:mR)(x:Nat×Value)=>X.setIfInBounds x.1 x.2) A:=by
 rw[<-aJi];simp[Array.toList_zip]
def bH.ab6{W:S}{X:ai}{R:aq}(h:bH w N x W X R)(k:Nat):bH w (N.at (N.y.take k)) x W (X.at (X.y.take k)) R:=
 ⟨⟨⟨h.ext.agree.i,h.ext.agree.b,h.ext.agree.r,by show X.y.take k=N.y.take k;rw[h.ext.agree.y]⟩,h.ext.li,h.ext.lb,h.ext.lr,h.ext.ad⟩,h.mono,h.len,h.ax⟩
def ayQ(ok:jS p j)(ih:An p j y){bb:Func}(bc:p.P.funcs[t]?=U bb){ps:Array Tmp}{assign body:Code}{s:S}{L:dG}{O:ai}{V:aq}{a:Act}{sE:S}{l:Nat}{rec:Loop}{g:List (Nat×Loop)}
  (hE:sE.ao=s.ao)(b4:C.eo (Y O.i) (Y O.b) (Y O.r) (aP s.ao) s.tmps=J)(b5:a.tmps.size=Y s.tmps)(b6:∀(X:Nat)(z:C),s.tmps[X]?=U z->z=.any\/a.tmps[X]?=U (z.ab O V))
  (b7:ku assign=E)(b8:ku body=E){n0:Nat}(af:rec={state:=.ready,pending:=Z,fn:=t,tmps:=a.tmps,params:=ps,assign,body,defers:=rec.defers})(f:g[n0]?=U (l,rec)){Q:List (Nat×Loop)}{B0:j8}{a0:YH}(ca:rN p j Q B0 a0)(bf:Q<+:g)(cc:B0.mF s (O.at (O.y.take (Y Q))) V L)(bg:sE.ax=s.ax)(cl:C.pX n0 s.tmps=E)(c6:Y g=n0+1):
  rN p j g ⟨sE,O,V,L⟩ (OS n0 ps.size λo M k1 bk=>
   gp j y t assign (DB M s ps.toList o) jg (OQ n0 λw=>gp j y t body (w.DC n0 .busy) a0 (Tv n0 M k1 bk))):=by
 intro D hD L1 m o M k1 bk N B a1 W1 R' hB h R hg hk cn hp F hF mm;unfold OS at h;split at h;rename_i hc;simp only[aw,dK,ce] at hc;obtain⟨⟨⟨c1,c3⟩,c4⟩,c5⟩:=hc;subst c1;simp only[S.fp,aw] at c5;have f:D.dF[m]?=U (l,rec):=by
  obtain⟨X,ht⟩:=hD;rw[<-ht,dN aa];exact f
 have bl:sH rec .ready=rec:=by rw[af];rfl
 obtain⟨y1,y2,y3⟩:=R.dp.dF m l rec .ready f c3;rw[bl] at y2;have co:N.y.getD m 0=l:=by simp[cw,y1]
 rw[co];have br:rec.params=ps:=by rw[af]
 have cp:=run_yield (P:=p.P) (args:=(C.aG N B o).toArray) y2 (by rw[br];simpa using c4);refine⟨_,_,_,_,cp, ?_⟩;have e1:rec.fn=t:=by rw[af]
 have e2:rec.assign=assign:=by rw[af]
 have e3:rec.body=body:=by rw[af]
 have e4:rec.tmps=a.tmps:=by rw[af]
 rw[e1,e2,e3,e4,br];refine ayd hF bc ?_;obtain⟨ms,m1,m0,m2,m3⟩:=R.dp.mE;have hA:=R.dp.enter m2 m3 J;have cs:∀(X:Nat)(z:C),s.tmps[X]?=U z->z=.any\/a.tmps[X]?=U (z.ab N B):=by
  intro X z ht;rcases b6 X z ht with h1|h1;exact .inl h1;right;have hX:=hB.later.ext;simp only[hE] at hX;rw[<-C.Lx (y:=N.y.take (Y g)) (n:=m) (λq hq=>by simp only[cw];rw[List.getElem?_take_of_lt aa]) B z (abU cl z (jK ht)),hX.ab (wz b4 ht)];exact h1
 obtain⟨q1,q2⟩:=amn (O:=N) (V:=B) ps.toList o s.tmps a.tmps b5 cs;rw[<-ayP] at q1 q2;have RS:az p.S0 p.w0 ⟨ms++D.out,D.dF,J,[]⟩ j.ty B N (DB M s ps.toList o) {tmps:=(ps.zip (C.aG N B o).toArray).foldl (λ(ct:mR)(x:Nat×Value)=>match x with|(X,a)=>ct.setIfInBounds X a) a.tmps,defers:=[]} W1:=
  ⟨R.mem,R.gV,R.ei,R.eb,R.er,hA,q1,q2,R.gD⟩
 have a4:∀(a':Act) d pd W,eN p.w0 ⟨ms++D.out,D.dF,J,[]⟩ pd W a'.defers d->a'.defers=[]/\eN p.w0 D pd W a1.defers d:=by
  intro a' d pd W ag;obtain⟨cv,p1,p0,p2,p3⟩:=ag.mE;have:cv=[]:=p0 rfl;subst this;have bs:a'.defers=[]:=by simpa using p1
  rw[bs] at ag;refine⟨bs, ?_⟩;rw[m1];exact ag.Lw m0
 refine ih ⟨ms++D.out,D.dF,J,[]⟩ ⟨DB M s ps.toList o,N,B,L1⟩ jg (U l) t assign (DB M s ps.toList o) _ L1 N B _ W1 _ (FM _ _) (j8.here _ _ _ _) rfl (λ_=>b7) ⟨bb,bc⟩ h RS hg ?_ ?_;intro ch a' d pd W ag hR;obtain⟨p1,p2⟩:=a4 a' d pd W ag;exact .inr ⟨ch,rfl,p1,hp ch d pd W p2 hR⟩;intro e w O2 V2 a2 W2 L2 al bt R2 an;cases e with
 |normal=>
  simp only[OQ] at an;split at an;rename_i bx;simp only[ce] at bx;left;obtain⟨z1,z2,z3⟩:=R2.dp.dF m l rec .ready f bx;rw[bl] at z2;have cx:({rec with state:=.busy}:Loop)=sH rec .busy:=by rw[af];rfl
  have b0:=run_beginRound (P:=p.P) z2 (by rw[af]);rw[cx] at b0;refine⟨rfl,_,b0, ?_⟩;have R3:az p.S0 p.w0 ⟨ms++D.out,D.dF,J,[]⟩ j.ty V2 O2 (w.DC m .busy) a2 (W2.putObj l (.loop (sH rec .busy))):=
   R2.obj z2 rfl z3 _ rfl (R2.dp.abW f .busy)
  have cy:rN p j D.dF ⟨w.DC m .busy,O2,V2,L2⟩ a0:=by
   intro D3 cA L3 n3 cB H k3 cC G V3 a3 W3 R3 b1;refine ca D3 ((bf.trans hD).trans cA) L3 n3 cB H k3 cC G V3 a3 W3 R3 ?_;have cD:Y Q<=Y g:=bf.length_le;have c7:Y g<=Y D.dF:=hD.length_le;have t1:bH s (O.at (O.y.take (Y Q))) V M (N.at (N.y.take (Y Q))) B:=by
    have e:(N.y.take (Y g)).take (Y Q)=N.y.take (Y Q):=by rw[List.take_take,Hp cD]
    have u:bH sE (O.at (O.y.take (Y Q))) V M (N.at ((N.y.take (Y g)).take (Y Q))) B:=hB.later.ab6 (Y Q);rw[e] at u;exact⟨by have:=u.ext;rw[hE] at this;exact this,by rw[<-hE];exact u.mono,by rw[<-hE];exact u.len,by rw[<-bg];exact u.ax⟩
   have t2:=(show bH M N B w O2 V2 from⟨al.ext,al.mono,al.len,al.ax⟩).ab6 (Y Q);have t3:bH w (O2.at (O2.y.take (Y Q))) V2 H (G.at (G.y.take (Y Q))) V3:=by
    have e:(G.y.take (Y D.dF)).take (Y Q)=G.y.take (Y Q):=by rw[List.take_take,Hp aa]
    have u:bH (w.DC m .busy) (O2.at (O2.y.take (Y Q))) V2 H (G.at ((G.y.take (Y D.dF)).take (Y Q))) V3:=b1.later.ab6 (Y Q);rw[e] at u;exact⟨u.ext,u.mono,u.len,u.ax⟩
   exact((cc.go t1 (by rw[<-bg];exact hB.Il)).go t2 bt).go t3 b1.Il
  refine ih ⟨ms++D.out,D.dF,J,[]⟩ ⟨w.DC m .busy,O2,V2,L2⟩ a0 (U l) t body (w.DC m .busy) _ L2 O2 V2 a2 _ _ cy (j8.here _ _ _ _) rfl (λ_=>b8) ⟨bb,bc⟩ an R3 (hg.ext al.ext) ?_ ?_;intro ch a' d pd W ag hR;obtain⟨p1,p2⟩:=a4 a' d pd W ag;exact⟨p1,hp ch d pd W p2 hR⟩
  ·intro e H G V3 a3 W4 L3 a9 cI R4 ba;have cO:m<Y H.pd:=by
    rw[<-R4.dp.len];exact(cu.1 f).1
   obtain⟨u1,u2,u3⟩:=R4.dp.dF m l rec H.pd[m] f (cP cO);have A:bH (DB M s ps.toList o) N B H G V3:=al.trans (s':=w) ⟨a9.ext,a9.mono,a9.len,a9.ax⟩;have b2:dq M.ax L1 L3:=dq.trans (m:=w.ax) bt cI al.ax;have bd:∀(k:HB)(aA:Option Code),(∀aC,({sH rec aC with state:=if aA.isNone then .ready else .done,pending:=aA}:Loop)=sH rec k)->
     (k1 (.bool (.c aA.isNone)) {H with tmps:=M.tmps,pd:=H.pd.set m k}).aS p G L3->∃v w',(Instr.endRound l aA).run p.P W4=.ok v w'/\R' (.returned v) w':=by
    intro k aA cR cW;have b3:=run_endRound (P:=p.P) aA u2;rw[cR] at b3;refine⟨_,_,b3, ?_⟩;have R5:=R4.obj u2 rfl u3 (.loop (sH rec k)) rfl (R4.dp.abW f k);have c0:eN p.w0 D (H.pd.set m k) G.y a1.defers (W4.putObj l (.loop (sH rec k))):=(a4 a3 _ _ _ (R4.dp.abW f k)).2;have c2:bH (DB M s ps.toList o) N B {H with pd:=H.pd.set m k} G V3:=⟨A.ext,A.mono,A.len,A.ax⟩;have RB:=R.back c5.1 c2 rfl R5 (D2:=D) (a2:=a1) rfl c0;have:=hk (.bool (.c aA.isNone)) {H with tmps:=M.tmps,pd:=H.pd.set m k} G V3 _ L3 ⟨A.ext,A.mono,A.len,A.ax⟩ b2 RB cW;simpa[C.ab,BE.ab] using this
   cases e with
   |normal=>exact bd .ready Z (λaC=>by cases aC<;>rfl) ba
   |ret=>exact bd (.done .ret) (U .ret) (λaC=>by cases aC<;>rfl) ba
   |exit id=>exact bd (.done (.exit id)) (U (.exit id)) (λaC=>by cases aC<;>rfl) ba
   |bI v=>
    obtain⟨p1,p2⟩:=a4 a3 _ _ _ R4.dp;have RB:=R.back c5.1 A rfl R4 (D2:=D) (a2:=a1) rfl p2;exact⟨p1,cn v {H with tmps:=M.tmps} G V3 _ L3 ⟨A.ext,A.mono,A.len,A.ax⟩ b2 RB ba⟩
  exact an.elim
 |ret=>exact an.elim
 |exit id=>exact an.elim
 |bI v=>exact an.elim
 exact h.elim
def ayR(ok:jS p j)(ih:An p j y){D:cq}{B:j8}{yh:YH}{b7:Func}(b8:p.P.funcs[t]?=U b7){f:Operand}{ps:Array Tmp}{assign body:Code}{k:XE->S->T}{a:Act}{Q:Exit->Act->World->Prop}
  (bf:D.rd=E){g:FuncId}{c:Code}{nt:Nat}(bg:w.ev j.gl f=.fn g v)(bk:j.inl g=U (c,nt,[]))
  (a3:w.fp v=J)(aA:w.yj (Y w.pd)=E)(ca:C.pX (Y w.pd) v=E)(cc:ku assign=E)(cl:ku body=E)
  (h:(gp j y g c (KI w nt v) (OS (Y w.pd) ps.size λcn s1 k1 co=>gp j y t assign (DB s1 w ps.toList cn) jg (OQ (Y w.pd) λs2=>gp j y t body (s2.DC (Y w.pd) .busy) yh (Tv (Y w.pd) s1 k1 co))) (H6 w k)).aS p N b)
  (hY:rN p j D.dF B yh)(hB:B.mF w N x b)(R:az p.S0 p.w0 D j.ty x N w a e)(hg:fk j.gl N)
  (HP:∀ch q W' pd X,eN p.w0 D pd X q.defers W'->p.R (.panicked ch) W'->Q (.panic ch) q W')
  (hk:∀M A z o q W' L',bH w N x A z o->dq w.ax b L'->az p.S0 p.w0 D j.ty o z A q W'->(k M A).aS p z L'->Q (M.to z o) q W'):
  jN Z t p.P (.rangeFunc f ps assign body) Q a e:=by
 obtain⟨ms,m1,m0,m2,m3⟩:=R.dp.mE;simp only[S.fp,aw] at a3;simp only[S.yj,wb] at aA;obtain⟨rec,a4⟩:∃rec:Loop,rec={state:=.ready,pending:=Z,fn:=t,tmps:=a.tmps,params:=ps,assign,body,defers:=e.heap.size}:=⟨_,rfl⟩;obtain⟨W1,aC⟩:∃W1,(e.alloc (.deferred (U []))).alloc (.loop rec)=W1:=⟨_,rfl⟩;have cp:W1.heap[e.heap.size+1]?=U (.loop rec):=by
  rw[<-aC];have:=SO (e.alloc (.deferred (U []))) (.loop rec);rwa [ajh] at this
 have cs:W1.heap[e.heap.size]?=U (.deferred (U [])):=by
  rw[<-aC];exact(Below.heap_alloc _ _ _ av).trans (SO e _)
 have bl:Below e.heap.size e W1:=by
  rw[<-aC];exact⟨rfl,rfl,rfl,dl,λk hk=>(Below.heap_alloc _ _ _ dl).trans (Below.heap_alloc _ _ _ hk)⟩
 have R1:=R.below bl;have ct:sH rec .ready=rec:=by rw[a4];rfl
 have cv:p.w0.heap.size<=e.heap.size:=R.mem.base.size;have br:∀(y l':Nat)(r':Loop),D.dF[y]?=U (l',r')->l'<e.heap.size:=by
  intro y l' r' hn;have a9:y<Y w.pd:=by rw[<-R.dp.len];exact(cu.1 hn).1
  exact BO (R.dp.dF y l' r' w.pd[y] hn (cP a9)).2.1
 have bs:eN p.w0 ⟨e.heap.size::(ms++D.out),D.dF++[(e.heap.size+1,rec)],E,[]⟩ (w.pd++[.ready]) (N.y++[e.heap.size+1]) [] W1:=
  R1.dp.push m2 (λd hd=>⟨(bl.block d (BO (m3 d hd).1)).trans (m3 d hd).1,(m3 d hd).2⟩) cs (λhm=>by have:=BO (m3 _ hm).1;omega) cv (by rw[ct];exact cp) (λy l' r' hn M=>by have:=br y l' r' hn;omega) aa
 have ba:Y N.y=Y w.pd:=R.dp.qL;have a0:∀m,m<Y w.pd->(N.y++[e.heap.size+1]).getD m 0=N.y.getD m 0:=by
  intro m hm;simp only[cw];by_cases a9:m<Y N.y;rw[dN a9];rw[iJ aa,km (l:=N.y) aa,km dl]
 have bt:∀(H:Nat)(sv:C),w.tmps[H]?=U sv->sv=.any\/a.tmps[H]?=U (sv.ab (N.at (N.y++[e.heap.size+1])) x):=by
  intro H sv ht;rcases R.tmps H sv ht with h1|h1;exact .inl h1;right;rw[C.Lx a0 x sv (abU aA.1 sv (jK ht))];exact h1
 have cx:az p.S0 p.w0 ⟨e.heap.size::(ms++D.out),D.dF++[(e.heap.size+1,rec)],E,[]⟩ j.ty x (N.at (N.y++[e.heap.size+1])) {w with pd:=w.pd++[.ready]} {a with defers:=[]} W1:=
  ⟨R1.mem.at a0 aA.2,R1.gV,R1.ei,R1.eb,R1.er,bs,R1.size,bt,λk M rv G h1 h2 h3=>let H:=R1.gD k M rv G h1 h2 h3;⟨H.own,H.mem,H.box,H.alone,H.inner⟩⟩
 have RE:=cx.enter (.yl (Y w.pd)::v) nt bs;have cy:C.aG (N.at (N.y++[e.heap.size+1])) x (.yl (Y w.pd)::v)=.func (.yield (e.heap.size+1)) #[] #[]::C.aG N x v:=by
  simp only[C.aG,C.ab];rw[C.Ly a0 x v ca];congr 3;simp only[ai.at];rw[<-ba];simp
 have cA:a.eval f=.func (.func g) #[] (C.aG N x v).toArray:=by
  have:=dA R hg f (by rw[bg];rfl);rw[bg,C.ab] at this;exact this
 have eg:=ok.Ai g (.inr (by rw[bk];rfl));obtain⟨an,hf,cB,cC,cD⟩:=ok.inl g c nt [] bk;refine ayb ⟨e.heap.size+1,[mD e.heap.size],W1,{target:=.fn (.func g) (C.aG N x v).toArray,args:= #[.func (.yield (e.heap.size+1)) #[] #[]]},W1,g,
  #[.func (.yield (e.heap.size+1)) #[] #[]]++(C.aG N x v).toArray,W1, ?_, ?_, ?_, ?_⟩
 rw[<-aC,a4];exact run_enterLoop_outer _ _ _ _ _
 ·simp only[resolve,cA];simp[go_sem]
 ·simp[invoke,go_sem,eg]
 have cI:(#[.func (.yield (e.heap.size+1)) #[] #[]]++(C.aG N x v).toArray:mR)=(C.aG (N.at (N.y++[e.heap.size+1])) x (.yl (Y w.pd)::v)).toArray:=by
  rw[cy];simp
 rw[cI];refine Lv hf cB ?_;rw[cC];have bx:([mD e.heap.size]++a.defers:BM)=(e.heap.size::ms).map mD++D.base:=by rw[m1];rfl
 have cO:B.mF w ((N.at (N.y++[e.heap.size+1])).at ((N.at (N.y++[e.heap.size+1])).y.take (Y D.dF))) x b:=by
  have M:(N.at (N.y++[e.heap.size+1])).y.take (Y D.dF)=N.y:=by rw[R.dp.len,<-ba];simp[ai.at]
  rw[M];exact hB
 have b0:(D.dF++[(e.heap.size+1,rec)])[Y w.pd]?=U (e.heap.size+1,rec):=by rw[<-R.dp.len];simp
 refine ih ⟨e.heap.size::(ms++D.out),D.dF++[(e.heap.size+1,rec)],E,[]⟩ ⟨KI w nt v,N.at (N.y++[e.heap.size+1]),x,b⟩ _ Z g c (KI w nt v) (H6 w k) b _ x _ W1 _
  (ayQ ok ih b8 (a:=a) (s:=w) (sE:=KI w nt v) (L:=b) (ps:=ps) (O:=N.at (N.y++[e.heap.size+1])) (V:=x) rfl (R.zZ a3.1).1 R.size bt cc cl (by rw[a4]) b0 hY (List.prefix_append _ _) cO rfl aA.1 (by simp[R.dp.len])) (j8.here _ _ _ _) rfl (λhh=>by cases hh) ⟨an,hf⟩ (ug p _ N b _ h) RE hg ?_ ?_
 intro ch q W' pd X hA hR;obtain⟨cR,q1,q0,q2,q3⟩:=hA.mE;rw[q1] at hA;have al:=(hA.rM).pop bf;show LeavesInM Fence.wide 0 p.P an q.tmps _ q.defers (.panicking ch) W';rw[q1];refine uh av (xS.1 q2).1 (λd hd=>(q3 d (by simp[hd])).1) ?_;exact HP ch _ _ _ _ (by rw[<-bx] at al;exact al) (PK (ok.Um ch) (λd hd=>(q3 d (by simp[hd])).2) hR);intro M A z o q W' L' hl hL RR u;obtain⟨cR,q1,q0,q2,q3⟩:=RR.dp.mE;have R2:=RR.rM q1;have al:=R2.dp.pop bf;have b1:z.y=N.y++[e.heap.size+1]:=hl.ext.agree.y;have cW:z.y.take (Y D.dF)=N.y:=by rw[b1,R.dp.len,<-ba];simp
 rw[cW,<-bx,R.dp.len] at al;have b2:∀m,m<Y w.pd->N.y.getD m 0=z.y.getD m 0:=λm hm=>by rw[b1];exact(a0 m hm).symm
 have bb:bH w N x (w.u0 A) (z.at N.y) o:=⟨⟨⟨hl.ext.agree.i,hl.ext.agree.b,hl.ext.agree.r,rfl⟩,hl.ext.li,hl.ext.lb,hl.ext.lr,hl.ext.ad⟩,λi hi=>amm _ _ _ i (amk hi) (hl.mono i hi),by show Y w.ao<=(oj _ _ _).length;rw[PH];exact hl.len,hl.ax⟩;have b3:∀(W3:World),j7 p.S0 p.w0 o z A.ao j.ty A.rs W3->(∀(k:Nat)(M:TypeId)(rv:RV)(G:Nat),A.rs[k]?=U (.own M)->z.r[k]?=U rv->rv.lH=U G->zX p.S0 p.w0 o z A.ao j.ty A.rs W3 k M rv G)->yk (Y w.pd) (w.u0 A).ao=E->
   eN p.w0 D (A.pd.take (Y w.pd)) N.y ([mD e.heap.size]++a.defers) W3->az p.S0 p.w0 D j.ty o (z.at N.y) (w.u0 A) {a with defers:=[mD e.heap.size]++a.defers} W3:=by
  intro W3 hm ht hb c0;refine⟨(hm.ayh (Y w.pd) (Y w.ao)).at b2 hb,by show Y o=(oj _ _ _).length;rw[PH];exact R2.gV,R2.ei,R2.eb,R2.er,c0,R.size,λH sv h=> ?_,λk M rv G h1 h2 h3=>let H:=ht k M rv G h1 h2 h3;⟨H.own,H.mem,λi hi=>H.box i (PJ hi),H.alone,H.inner⟩⟩;rcases R.tmps H sv h with h1|h1;exact .inl h1;right;rw[bb.ext.ab (wz (R.zZ a3.1).1 h)];exact h1
 have b4:Y w.pd<Y A.pd:=by
  have:=R2.dp.len;simp only[gP,kV,E6] at this;rw[R.dp.len] at this;omega
 obtain⟨u1,u2,u3⟩:=R2.dp.dF (Y w.pd) (e.heap.size+1) rec A.pd[Y w.pd] b0 (cP b4);have bc:∀(st:HB)(M:XE)(a1:Option Code),A.pd[Y w.pd]?=U st->(sH rec st).state≠ .busy->(sH rec st).pending=a1->yk (Y w.pd) (w.u0 A).ao=E->(k M (w.u0 A)).aS p z L'->
   (∀W4,Q (M.to (z.at N.y) o) {a with defers:=[mD e.heap.size]++a.defers} W4->(match a1 with|none=>Q .normal {a with defers:=[mD e.heap.size]++a.defers} W4|U c=>jN Z t p.P c Q {a with defers:=[mD e.heap.size]++a.defers} W4))->
   LeavesInM Fence.wide 0 p.P an q.tmps (abS Z t p.P (e.heap.size+1) Q {a with defers:=[mD e.heap.size]++a.defers}) q.defers .returning W':=by
  intro st M a1 af c1 hj ag c2 hq;rw[q1];refine uh av (xS.1 q2).1 (λd hd=>(q3 d (by simp[hd])).1) ⟨_,Lg R2 ok.ll (l:=[]) (by rw[cD];rfl), ?_⟩;have c3:A.pd[Y w.pd]=st:=by
   rw[cP b4] at af;simpa using af
  rw[c3] at u2;have b5:=run_endLoop (P:=p.P) u2 c1;rw[hj] at b5;refine⟨a1,_,b5,hq _ ?_⟩;have c4:∀(y l':Nat)(r':Loop),D.dF[y]?=U (l',r')->l'≠e.heap.size+1:=λy l' r' hn M=>by have:=br y l' r' hn;omega
  refine hk M (w.u0 A) (z.at N.y) o _ _ L' bb hL (b3 _ (R2.mem.obj u2 rfl u3 _) (λk M rv G h1 h2 h3=>(R2.gD k M rv G h1 h2 h3).obj u2 rfl _) ag (al.put u2 c4 _)) (ug p _ z L' _ c2)
 have b6:(H6 w k .ret A).aS p z L'->LeavesInM Fence.wide 0 p.P an q.tmps (abS Z t p.P (e.heap.size+1) Q {a with defers:=[mD e.heap.size]++a.defers}) q.defers .returning W':=by
  intro u;simp only[H6] at u;split at u;exact u.elim;rename_i ag;have bd:yk (Y w.pd) (w.u0 A).ao=false:=by simpa using ag
  split at u;rename_i af;exact bc .ready .normal Z af (by simp[sH]) rfl bd u (λ_ h=>h)
  ·rename_i af;exact bc (.done .ret) .ret (U .ret) af (by simp[sH]) rfl bd u (λ_ h=>u9 (n:=0) (wpIn_ret h))
  ·rename_i id af;exact bc (.done (.exit id)) (.exit id) (U (.exit id)) af (by simp[sH]) rfl bd u (λ_ h=>u9 (n:=0) (wpIn_exit h))
  exact u.elim
 cases M with
 |normal=>exact b6 u
 |ret=>exact b6 u
 |exit id=>exact u.elim
 |bI F=>
  simp only[H6] at u;split at u;exact u.elim;rename_i ag;simp only[jL,not_or,ajg] at ag;show LeavesInM Fence.wide 0 p.P an q.tmps _ q.defers (.panicking _) W';rw[q1];refine uh av (xS.1 q2).1 (λd hd=>(q3 d (by simp[hd])).1) ?_;have:=hk (.bI F) (w.u0 A) (z.at N.y) o _ _ L' bb hL (b3 _ R2.mem R2.gD ag.2 al) (ug p _ z L' _ u);simp only[XE.to] at this;rw[C.Lx b2 o F ag.1] at this;exact this
end
section
variable{d:bF}{p:Sp}{L:dG}{V:aq}{W:World}
def Up(O X:ai):Prop:=∃l,X={O with r:=O.r++l}
def Up.refl(O:ai):Up O O:=⟨[],av⟩
def Up.trans{X R:ai}(h:Up N X)(k:Up X R):Up N R:=by
 obtain⟨l,rfl⟩:=h;obtain⟨m,rfl⟩:=k;exact⟨l++m,av⟩
def Up.agree{X:ai}(h:Up N X):ji N X (Y N.i) (Y N.b) (Y N.r):=by
 obtain⟨l,rfl⟩:=h;have:∀(l:aF)(N:ai),N.ext (l.map XV.r)={N with r:=N.r++l}:=by
  intro l;induction l with
  |nil=>intro N;simp[ai.ext]
  |cons x Q R=>intro N;simp only[dU,ai.ext,R,ai.add];simp
 rw[<-this l N];exact Fu _ _
def sR(O:ai)(X:bz)(R:uP):S:=⟨[],[],Y O.i,Y O.b,X,0,0,R⟩
def PS(X:bz):Prop:=∀(k:Nat)(e:TypeId),X[k]?≠U (RK.own e)
def amS(p:Sp)(d:bF)(D:cq)(a:Act)(W:World)(L:dG)(V:aq)(G:bG)(N:uP)(X:ai)(v:C)(f:bz->(C->bz->T)->T):Prop:=
 ∀(Q:bz)(O:ai)(k:C->bz->T),az p.S0 p.w0 D d.ty [] O (sR O Q N) a W->Up X O->PS Q->v.bd (Y X.i) (Y X.b) (Y X.r) (aP G)=J->(f Q k).aS p O L->
  ∃M P R,az p.S0 p.w0 D d.ty [] R (sR R P N) a W/\Up O R/\PS P/\(∀H,Up R H->M.ab H []=v.ab X V)/\(k M P).aS p R L
def UH{D:cq}{a:Act}{A:bG}{M:uP}{Q:ai}{f:C->bz->(C->bz->T)->T}(z:∀v,amS p d D a W L V A M Q v (f v)):∀(l:ap)(X:bz)(O:ai)(k:ap->bz->T),az p.S0 p.w0 D d.ty [] O (sR O X M) a W->Up Q O->PS X->C.eo (Y Q.i) (Y Q.b) (Y Q.r) (aP A) l=J->(KK f l X k).aS p O L->
  ∃y H P,az p.S0 p.w0 D d.ty [] P (sR P H M) a W/\Up O P/\PS H/\(∀N,Up P N->C.aG N [] y=C.aG Q V l)/\(k y H).aS p P L
 |[],X,O,k,R,G,F,_,h=>⟨[],X,O,R,Up.refl O,F,λ_ _=>rfl,h⟩
 |x::s,X,O,k,R,G,F,B,h=>by
  rw[C.ja.2,aw] at B;simp only[KK] at h;obtain⟨q,o,n,m,w,j,g,e⟩:=z x X O _ R G F B.1 h;obtain⟨c,af,O2,R2,u,n2,d2,h2⟩:=UH z s o n _ m (G.trans w) j B.2 e;exact⟨q::c,af,O2,R2,w.trans u,n2,λN t=>by simp only[C.aG,g N (u.trans t),d2 N t],h2⟩
def ab7(a1:p.ty=d.ty){D:cq}{a:Act}{bx:bG}{pd:uP}{O0:ai}(ha:a.tmps= #[])(a3:∀i e G,mz bx i=U (e,G)->W.heap[ad V i]?=U (.cells (C.aG O0 V G).toArray e (0,0))/\(p.w0.heap.size<=ad V i\/ad V i∈p.S0)/\C.eo (Y O0.i) (Y O0.b) (Y O0.r) (aP bx) G=J):
  ∀(n:Nat)(v:C),amS p d D a W L V bx pd O0 v (KL d bx n v)
 |0,v=>λx O k R w o N h=>h.elim
 |n+1,v=>by
  intro x O k R w o N h;cases v with
  |int q e=>
   refine⟨_,x,O,R,Up.refl O,o,λf M=> ?_,h⟩;rw[C.bo.1] at N;simp only[C.ab,K.eC (w.trans M).agree e N]
  |bool e=>
   refine⟨_,x,O,R,Up.refl O,o,λf M=> ?_,h⟩;rw[C.bo.2.1] at N;simp only[C.ab,BE.eC (w.trans M).agree e N]
  |ah r=>
   refine⟨_,x,O,R,Up.refl O,o,λf M=> ?_,h⟩;rw[C.bo.2.2.1] at N;simp only[C.ab,RE.eC (w.trans M).agree r N]
  |agg l=>
   rw[C.bo.2.2.2.2.2.2.1] at N;simp only[KL] at h;obtain⟨l',bc,O',R',u',n',d',h'⟩:=UH (ab7 a1 ha a3 n) l x O _ R w o N h;exact⟨.agg l',bc,O',R',u',n',λf M=>by simp only[C.ab,d' f M],h'⟩
  |jp i bs af ag=>
   simp only[KL] at h;split at h;rename_i e G bd;obtain⟨g1,g2,g3⟩:=a3 i e G bd;split at h;rename_i te bf;obtain⟨al,Q,H,B,u1,n1,d1,h1⟩:=UH (ab7 a1 ha a3 n) G x O _ R w o g3 h;split at h1;rename_i hc;simp only[aw,dK,ce,bne_iff_ne,ne_eq] at hc;obtain⟨⟨⟨⟨c1,c2⟩,c3⟩,c4⟩,c5⟩:=hc;subst c3;have hw:bE d.ty (.sl e)=te.aj:=by simp[bE,bf]
   have a4:og d.ty (sR H Q pd) (bE d.ty (.sl e)) (jQ (Y te.aj) af al)=true:=by
    rw[hw,<-c1];exact FJ (s:=sR H Q pd) (s':=S.dW Q) rfl
   have a9:=aa1 B a4;obtain⟨P,A⟩:∃P,P=(jQ (Y te.aj) af al).map λaA=>aA.map (C.cj H):=⟨_,rfl⟩
   rw[<-A] at a9;have hN:Y P=af:=by rw[A];simp[T1]
   have bg:C.aG H [] al=C.aG O0 V G:=d1 H (Up.refl _);have hH:bJ W d.ty (.sl e) (.mk (.slice (U ⟨ad V i,0,Z⟩) (Y P) ag) P):=by
    refine aaT a9 ⟨_,_,_,g1⟩ (λq u hq=> ?_) (by rw[hN];exact c4);rw[A] at hq;have ba:=aa2 (V:=[]) (by rw[hw]) a4 (λi aA m=>by rw[<-A] at m;rw[a9.len i aA m,hw]) hq;rw[bg] at ba;simp[oK,g1,ba]
   have bk:Ia p.ty p.S0 p.w0 e (.lit (jQ (Y te.aj) af al)) Q H (.mk (.slice (U ⟨ad V i,0,Z⟩) (Y P) ag) P):=by
    refine⟨⟨U ⟨ad V i,0,Z⟩,Y P,ag,by rw[A];rfl,by rw[A];rfl⟩,λb hl=> ?_,λ_ _ _ _ h=>by cases h⟩;rw[a1] at hl⊢;generalize bb:RV.mk (.slice (U ⟨ad V i,0,Z⟩) (Y P) ag) P=rv at hl;cases hl with
    |here e a0 bt b0 bl=>
     injection bb with p1 p2;injection p1 with p3 p4 p5;cases p3;exact g2.imp id .inl
    |deep e v bl i j aA c z k b g q2 q3 q4=>
     injection bb with p1 p2;subst p2;rw[A,dS] at g;cases m:(jQ (Y te.aj) af al)[i]? with
     |none=>rw[m] at g;cases g
     |some br=>
      rw[m] at g;simp only[eh,cX] at g;subst g;obtain⟨r,X,F,k3,k4⟩:=aaW (FA a4 i br m) q2 q3 q4;exact .inr (.inr (K5 B k3 F k4).1)
   have hs:=h1 _ bk;refine⟨.ah (.v (Y Q)),Q++[.sl e],H.add (.r (.mk (.slice (U ⟨ad V i,0,Z⟩) (Y P) ag) P)), ?_,u1.trans ⟨[_],rfl⟩, ?_, ?_,hs⟩;have aC:Y H.r=Y Q:=B.er;refine⟨⟨B.mem.base,λi y=>by simp[sR,aP,cY] at y,λi j y=>by simp[sR,aP,cY] at y,λi t G y=>by simp[sR,cY] at y,λk e' rv X F=> ?_⟩,rfl,rfl,rfl,by simp[sR,ai.add,aC],B.dp,by rw[ha];rfl,λt sv ht=>by simp[sR] at ht,λk e' rv b X=> ?_⟩;refine⟨?_,λb N i y=>by simp[sR,aP,cY] at y⟩;simp only[sR,ai.add] at X F;by_cases hk:k<Y Q;rw[dN hk] at X;rw[dN aa] at F;exact(B.mem.ah k e' rv X F).1;have an:k=Y Q:=by
    have:=(cu.1 X).1;simp at this;omega
   subst an;simp at X;rw[<-aC] at F;simp at F;subst X F;exact hH;exfalso;simp only[sR] at X;by_cases hk:k<Y Q;rw[dN hk] at X;exact n1 _ _ X;have:=(cu.1 X).1;have an:k=Y Q:=by simp at this;omega
   subst an;simp at X;intro k e' X;by_cases hk:k<Y Q;rw[dN hk] at X;exact n1 _ _ X;have:=(cu.1 X).1;have an:k=Y Q:=by simp at this;omega
   subst an;simp at X;intro f M;obtain⟨l,rfl⟩:=M;have aC:Y H.r=Y Q:=B.er;simp only[C.ab,RE.ab,RE.rv,ai.rv,ai.add,cw,Bn];rw[<-aC,iJ (bY _)];simp[hN];exact h1.elim;exact h.elim;exact h.elim
  |loc _ _=>exact h.elim
  |el _ _ _ _=>exact h.elim
  |bO _=>exact h.elim
  |fn _ _=>exact h.elim
  |ik _ _=>exact h.elim
  |yl _=>exact h.elim
  |any=>exact h.elim
  |mp _=>exact h.elim
  |gz _ _ _=>exact h.elim
end
section
variable{cf:bF}
section
variable{o:aq}{q:World}{D:cq}{V:aq}{O:ai}{s:S}{a:Act}{W:World}
def ab8{k:Int}:∀{R:bA}{Q:ap}{v:C},H7 k R Q=U v->v.io O V=.mk (ld k R (C.aG O V Q)) []
 |[],_,v,h=>by simp[H7] at h
 |F::R,[],v,h=>by simp[H7] at h
 |F::R,u::Q,v,h=>by
  unfold H7 at h;split at h;rename_i P N;injection P with M L;injection N with H G;subst M L H G;simp only[C.aG,ld];split at h;rename_i X;cases h;rw[aL X];rfl;rename_i X;rw[aT X];exact ab8 h;rename_i P N;injection P with M L;injection N with H G;subst M L H G;simp only[C.aG,ld];split at h;rename_i X;cases h;rw[aL X];rfl;rename_i X;rw[aT X];exact ab8 h;cases h
def amT{x:Int}:∀{X:bA}{R:gG},¬x∈X->ld x X R=.nilFunc
 |[],_,_=>rfl
 |k::X,[],_=>rfl
 |k::X,v::R,h=>by
  simp only[dV,not_or] at h;simp only[ld,aT h.1];exact amT h.2
def ab9{e:K}{k:Int}(X:e.ab O=k):∀(n:Nat)(b:BE),(OT e k n b).ab O=b.ab O
 |0,b=>rfl
 |n+1,b=>by
  unfold OT;split;rfl;rename_i P N M x y R;cases R;split;rename_i Q;have:=K.bU _ _ Q;subst this;simp only[BE.ab,K.ab,fA,X,dK];split;exact ab9 X n x;exact ab9 X n y;rfl;rfl
def aca{e:K}{k:Int}(X:e.ab O=k):∀(n:Nat)(b:K),(OU e k n b).ab O=b.ab O
 |0,b=>rfl
 |n+1,b=>by
  unfold OU;split;rfl;rename_i P N M x y R;cases R;split;rename_i Q;have:=K.bU _ _ Q;subst this;simp only[BE.ab,K.ab,fA,X,dK];split;exact aca X n x;exact aca X n y;rfl;rfl
def ayS{e:K}{k:Int}(X:e.ab O=k)(v:C):(aap e k v).io O V=v.io O V:=by
 cases v<;>simp only[aap];simp only[C.io,C.ab,aca X];simp only[C.io,C.ab,ab9 X];rename_i P N M;split;rename_i R;have:=K.bU _ _ R;subst this;split;rename_i v Q;rw[ab8 Q];simp only[C.io,C.ab,X];rfl;rfl
def ayT{e:K}{R:bA}(Q:¬e.ab O∈R)(v:C):(Tx e R v).io O V=v.io O V:=by
 cases v<;>simp only[Tx];rename_i L P H;split;rename_i X;rw[aw] at X;have:=K.bU _ _ X.1;subst this;have N:¬e.ab O∈P:=λM=>Q (by
  have:=fZ.1 X.2 _ M;exact qD.1 this)
 simp only[C.io,C.ab,amT N];rfl;rfl
def ayU{e:K}{v:Int}(h:e.ab O=v):∀y:C,(aaq e v y).io O V=y.io O V:=λy=>by
 unfold aaq;split;rename_i k x;split;rename_i X;have X:=K.bU _ _ X;subst X;simp only[C.io,C.ab,K.ab,h];rfl;rfl
def acb{f:C->C}{l:bG}{i:Nat}{t:TypeId}{R:ap}:cz (H8 f l) i=U (t,R)<->∃lj,cz l i=U (t,lj)/\R=lj.map f:=by
 rw[kw];simp only[H8,dS];constructor;intro h;cases X:l[i]? with
 |none=>rw[X] at h;cases h
 |some x=>
  rw[X] at h;cases x with
  |none=>cases h
  |some y=>
   simp only[eh,cX,Dh] at h;obtain⟨rfl,rfl⟩:=h;exact⟨y.2,kw.2 X,rfl⟩
 rintro⟨lj,h,rfl⟩;rw[kw] at h;rw[h];rfl
def amU{f:C->C}{l:bG}:aP (H8 f l) y=aP l y:=by
 rw[sx];simp only[aP,lF];constructor;rintro⟨⟨t,X⟩,h⟩;obtain⟨lj,h,-⟩:=acb.1 h;exact⟨_,h⟩;rintro⟨⟨t,X⟩,h⟩;exact⟨_,acb.2 ⟨X,h,rfl⟩⟩
def az.fix(R:az o q D cf.ty V O s a W){f:C->C}(H:∀v,(f v).io O V=v.io O V):az o q D cf.ty V O (s.fix f) a W:=by
 have Q:∀j,aP (s.fix f).ao j=aP s.ao j:=λj=>amU
 refine⟨⟨R.mem.base,λj X=>R.mem.own j (by rw[<-Q];exact X),λj k X G=>R.mem.inj j k (by rw[<-Q];exact X) (by rw[<-Q];exact G),λj t w L=> ?_,λk e P N M=>⟨(R.mem.ah k e P N M).1,λb L j X=>(R.mem.ah k e P N M).2 b L j (by rw[<-Q];exact X)⟩⟩,by rw[R.gV];simp[S.fix,H8],R.ei,R.eb,R.er,R.dp,R.size,R.tmps,λk e P b F B A=> ?_⟩;obtain⟨lj,h,rfl⟩:=acb.1 L;have:C.dR O V (lj.map f)=C.dR O V lj:=by
  simp only[C.dR,oJ];exact jA λv _=>H v
 rw[this];exact R.mem.box j t lj h;obtain⟨N,M,z,y,x⟩:=R.gD k e P b F B A;exact⟨N,M,λj X=>z j (by rw[<-Q];exact X),y,x⟩
def acd(f:C->C):bH s O V (s.fix f) O V:=⟨ot.refl _ _ _,λi h=>by rw[show aP (s.fix f).ao i=aP s.ao i from amU];exact h,by simp[S.fix,H8],bY _⟩
def az.ayV(R:az o q D cf.ty V O s a W){k:IntKind}{e:K}{v:Int}(Q:s.tmps.getD y .any=.int k e)(N:e.ab O=v):az o q D cf.ty V O {s with tmps:=s.tmps.set y (.int k (.c v))} a W:=by
 refine⟨R.mem,R.gV,R.ei,R.eb,R.er,R.dp,by simpa using R.size,λi M h=> ?_,R.gD⟩;simp only[wc] at h;split at h;rename_i L;subst L;split at h;rename_i P;cases h;have H:s.tmps[y]?=U (.int k e):=by
  rw[cw,cP P] at Q;rw[cP P];simpa using Q
 rcases R.tmps y _ H with X|X;cases X;right;rw[X];simp only[C.ab,K.ab,N];cases h;exact R.tmps i M h
def UI{p:Sp}{L:dG}{e:K}{gQ:Int->S}{ae:T}{g:S->T}:∀{X:bA},(KJ e gQ ae g X).aS p O L->(∃k∈X,e.ab O=k/\(g (gQ k)).aS p O L)\/(¬e.ab O∈X/\ae.aS p O L)
 |[],h=>.inr ⟨av,h⟩
 |k::X,h=>by
  simp only[KJ,T.aS] at h;by_cases R:e.ab O=k;exact .inl ⟨k,av,R,h.1 (by simp[BE.ab,K.ab,fA,R])⟩;rcases UI (h.2 (by simp[BE.ab,K.ab,fA,R])) with⟨N,Q,P⟩|⟨Q,P⟩;exact .inl ⟨N,by simp[Q],P⟩;exact .inr ⟨by simp[R,Q],P⟩
def ayW{p:Sp}(R:az o q D cf.ty V O s a W){id:Nat}{e:K}{H:bA}{gQ:Int->S}{ae:Option S}(X:Tz cf y id s=U (e,H,gQ,ae)){g:S->T}(h:(KJ e gQ (aar g ae) g H).aS p O b):
  ∃M,bH s O V M O V/\M.ax=s.ax/\az o q D cf.ty V O M a W/\(g M).aS p O b:=by
 unfold Tz at X;split at X;split at X;cases X;rcases UI h with⟨k,P,Q,N⟩|⟨P,Q⟩;exact⟨_,acd _,rfl,R.fix (ayS Q),N⟩;split at Q;exact⟨_,acd _,rfl,R.fix (ayT P),Q⟩;exact Q.elim;cases X;split at X;cases X;rename_i k F B G;cases X;rw[xY] at G;rcases UI h with⟨k,P,Q,N⟩|⟨P,Q⟩;refine⟨_, ?_, ?_,R.ayV G Q,N⟩;exact⟨ot.refl _ _ _,λ_ h=>h,bY _,bY _⟩;rfl;exact Q.elim;cases X;split at X;split at X;cases X;cases X;rcases UI h with⟨k,P,Q,N⟩|⟨P,Q⟩;exact⟨_,acd _,rfl,R.fix (ayU Q),N⟩;exact Q.elim;cases X;cases X;cases X
end
def UJ:∀(n:Nat)(p:Sp)(_:jS p cf),An p cf n/\Uy p cf n
 |0,p,ok=>⟨λD B yh ro al c s k L O V a W Q _ _ _ _ _ h=>h.elim,λD B yh ro al c s k L O V a W Q _ _ _ _ _ _ h=>h.elim⟩
 |n+1,p,ok=>by
  have b6:=(UJ n p ok).2;have ih:=(UJ n p ok).1;have b7:∀p':Sp,p'.P=p.P->jS p' cf->An p' cf n:=λp' _ b8=>(UJ n p' b8).1
  have bx:=aym ih b6;refine⟨?_,bx⟩;intro D B yh ro al c s k L O V a W Q hY hB aA a3 aC h R hg HP u;have a4:∀e F,dq s.ax L F->(k e s).aS p O F->Q (e.to O V) a W:=λe F w A=>u e s O V a W F (bH.refl _ _ _) w R A
  have h0:=h;unfold gp at h;split at h;exact u9 (n:=0) (wpIn_skip (a4 .normal L (dq.refl _ _) h));exact u9 (n:=0) (wpIn_label (a4 .normal L (dq.refl _ _) h));exact u9 (n:=0) (wpIn_ret (a4 .ret L (dq.refl _ _) h));rename_i id;exact u9 (n:=0) (wpIn_exit (a4 (.exit id) L (dq.refl _ _) h))
  
  rename_i x y;have a9:ro.isSome=J->ku x=false:=λhr=>by have:=a3 hr;simp only[ku,wb] at this;exact this.1
  have ba:ro.isSome=J->ku y=false:=λhr=>by have:=a3 hr;simp only[ku,wb] at this;exact this.2
  refine Ir (ih D B yh ro al x s _ L O V a W _ hY hB aA a9 aC h R hg (λch H G pd y hd hR=>HP ch H G pd y hd hR) ?_);intro e r O' V' H G F M w d A;cases e with
  |normal=>exact ih D B yh ro al y r k F O' V' H G Q hY (hB.go M w) aA ba aC A d (hg.ext M.ext) HP (λe2 s2 O2 V2 a2 W2 L2 ag a0 R2 af=>u e2 s2 O2 V2 a2 W2 L2 (M.trans ag) (w.trans a0 M.ax) R2 af)
  |ret=>exact u .ret r O' V' H G F M w d A
  |exit id=>exact u (.exit id) r O' V' H G F M w d A
  |bI v=>exact u (.bI v) r O' V' H G F M w d A
  
  rename_i id x;refine ax8 (ih D B yh ro al x s _ L O V a W _ hY hB aA (λhr=>by have:=a3 hr;simpa only[ku] using this) aC h R hg (λch H G pd y hd hR=>HP ch H G pd y hd hR) ?_);intro e r O' V' H G F M w d A;cases e with
  |normal=>exact u .normal r O' V' H G F M w d A
  |ret=>exact u .ret r O' V' H G F M w d A
  |exit j=>
   simp only[aaf] at A;split at A;rename_i hj;have bc:j=id:=by simpa using hj
   subst bc;simp only[XE.to,Exit.inBlock,cS];exact u .normal r O' V' H G F M w d A;rename_i hj;have bc:¬j=id:=by simpa using hj
   simp only[XE.to,Exit.inBlock,bc,gw];exact u (.exit j) r O' V' H G F M w d A
  |bI v=>exact u (.bI v) r O' V' H G F M w d A
  
  rename_i x;refine ax9 (ih D B yh ro al x s _ L O V a W _ hY hB aA (λhr=>by have:=a3 hr;simpa only[ku] using this) aC h R hg (λch H G pd y hd hR=>⟨λl h=>by(cases h),HP ch H G pd y hd hR⟩) ?_);intro e r O' V' H G F M w d A;exact⟨λl h=>(by cases e<;>cases h),u e r O' V' H G F M w d A⟩
  
  rename_i x y z;have ba:ro.isSome=J->ku y=false:=λhr=>by have:=a3 hr;simp only[ku,wb] at this;exact this.1
  have b0:ro.isSome=J->ku z=false:=λhr=>by have:=a3 hr;simp only[ku,wb] at this;exact this.2
  split at h;rename_i hc;have he:=dA R hg x (by rw[hc];rfl);rw[hc] at he;exact Lu (t:=J) (by simpa[C.ab,BE.ab] using he) (ih D B yh ro al y s k L O V a W Q hY hB aA ba aC h R hg HP u);rename_i hc;have he:=dA R hg x (by rw[hc];rfl);rw[hc] at he;exact Lu (t:=E) (by simpa[C.ab,BE.ab] using he) (ih D B yh ro al z s k L O V a W Q hY hB aA b0 aC h R hg HP u);rename_i b dx dy hc;have he:=dA R hg x (by rw[hc];rfl);rw[hc] at he;split at h;rename_i t;simp only[S.ev,xY] at hc;simp only[T.aS] at h;have b1:∀v,B.mF {s with tmps:=s.tmps.set t v} O V L:=λv=>⟨⟨hB.later.ext,hB.later.mono,hB.later.len,hB.later.ax⟩,hB.Il⟩
  cases hv:b.ab O;refine Lu (t:=E) (by simpa[C.ab,hv] using he) (ih D B yh ro al z _ k L O V a W Q hY (b1 _) aA b0 aC (h.2 hv) (R.alF hc hv) hg HP ?_);exact λe2 s2 O2 V2 a2 W2 L2 ag a0 R2 af=>u e2 s2 O2 V2 a2 W2 L2 ⟨ag.ext,ag.mono,ag.len,ag.ax⟩ a0 R2 af
  refine Lu (t:=J) (by simpa[C.ab,hv] using he) (ih D B yh ro al y _ k L O V a W Q hY (b1 _) aA ba aC (h.1 hv) (R.alF hc hv) hg HP ?_);exact λe2 s2 O2 V2 a2 W2 L2 ag a0 R2 af=>u e2 s2 O2 V2 a2 W2 L2 ⟨ag.ext,ag.mono,ag.len,ag.ax⟩ a0 R2 af
  exact h.elim;exact h.elim
  
  rename_i id bd ca;split at h;rename_i e ks gQ ae hf;obtain⟨r,M,bf,d,h'⟩:=ayW R hf h;exact ih D B yh ro al _ r k L O V a W Q hY (hB.go M (dq.refl _ _)) aA a3 aC h' d hg HP (λe2 s2 O2 V2 a2 W2 L2 ag a0 R2 af=>u e2 s2 O2 V2 a2 W2 L2 (M.trans ag) (bf▸a0) R2 af);refine u9 (n:=0) ?_;split at h;rename_i hd;subst hd;split at h;rename_i c bg;exact amR (Am ro) ok ih hY HP hB bg h R hg (λr O' V' H G F M w d A=>u .normal r O' V' H G F M w d A) (λv r O' V' H G F M w d A=>u (.bI v) r O' V' H G F M w d A);split at h;rename_i om cc;split at h;exact h.elim;rename_i cl;exact ayl (Am ro) ok (ayu b7 ok) hY HP hB cc (by simpa using cl) (ayt _ _ _) h R hg (λr O' V' H G F M w d A=>u .normal r O' V' H G F M w d A) (λv r O' V' H G F M w d A=>u (.bI v) r O' V' H G F M w d A);split at h;rename_i c bg;exact amR (Am ro) ok ih hY HP hB bg h R hg (λr O' V' H G F M w d A=>u .normal r O' V' H G F M w d A) (λv r O' V' H G F M w d A=>u (.bI v) r O' V' H G F M w d A);exact h.elim;rename_i hd;have cn:ca=false:=by simpa using hd
  subst cn;obtain⟨Rr,bk⟩:=R.room (mA bd.toList);refine wpIn_region ?_;have:=BV (ops:=bd) ok.pt ok.zM (Am ro) ok.ll (ayn _ ok (LB ok ih hY)) HP (n:=0) (hJ (λ_=>E) J E 0 (Y s.ao) bd.toList) 0 _ [] L O _ a W (λi m' hi=>by have:=Lz _ _ _ _ _ _ _ _ hi;simpa using this) (hB.go bk (dq.refl _ _)) h (λx hx=>by cases hx) Rr hg
   (λr O' V' H G F M w d A=>u .normal r O' V' H G F (bk.trans M) w d A)
   (λv r O' V' H G F M w d A=>u (.bI v) r O' V' H G F (bk.trans M) w d A)
  rw[Uw] at this;simpa[SN] using this
  
  rename_i x;have a9:ro.isSome=J->ku x=false:=λhr=>by have:=a3 hr;simpa only[ku] using this
  split at h;rename_i bl dz;split at h;have M:bH s O V (s.dv bl) O V:=⟨(bH.refl s O V).ext,λi hi=>hi,bY _,bY _⟩;exact ih D B yh ro al _ (s.dv bl) k L O V a W Q hY (hB.go M (dq.refl _ _)) aA a3 aC h (R.mX (Pa _ _)) hg HP (λe2 s2 O2 V2 a2 W2 L2 ag a0 R2 af=>u e2 s2 O2 V2 a2 W2 L2 (M.trans ag) a0 R2 af);obtain⟨an,co⟩:∃an,an=bl.at s:=⟨_,rfl⟩;rw[<-co] at h;split at h;exact h.elim;rename_i hc;simp only[jL,iw,not_or,Hn] at hc;obtain⟨⟨⟨⟨⟨cp,cs⟩,ct⟩,cv⟩,cx⟩,cy⟩:=hc;simp only[T.aS] at h;obtain⟨X,μ,cA,cB⟩:=h;refine aya (λN a1 W1=>∃s1 O1 V1,bH s O V s1 O1 V1/\az p.S0 p.w0 D cf.ty V1 O1 s1 a1 W1/\zQ an (Code.o9 x) 0 s.tmps s1.tmps=J/\tW an 0 s.ao s1.ao=J/\tX s1 an.ks (kX an s1)=J/\zP (jF an s) s1.rs=J/\HW (jF an s) (HV an s1)=J/\s1.pd=s.pd/\X ((kX an s1).map (C.xv O1))/\μ ((kX an s1).map (C.xv O1))=N)
   (μ ((kX an s).map (C.xv O))) ⟨s,O,V,bH.refl _ _ _,R,ct,cv,cs,cx,cy,rfl,cA,rfl⟩ ?_
  rintro N a1 W1 ⟨s1,O1,V1,b2,R1,hT,cC,b3,cD,cI,cO,hI,rfl⟩;have RH:=az.head (ty:=cf.ty) cp R.ei R.eb R.er b2 R1 hT cC b3 cD cI cO;have cR:=cB _ (abt (O1:=O1) b3) hI;have bf:(rG an (Code.o9 x) s).ax=s.ax+1:=(yu an.ks {s with ax:=s.ax+1,rs:=jF an s}).2.2.1;have br:bH s O V (rG an (Code.o9 x) s) (O.ext ((kX an s1).map (C.xv O1))) (V1.take (Y s.ao)):=by
   obtain⟨e1,e2,e3,e4⟩:=yu an.ks {s with ax:=s.ax+1,rs:=jF an s};have hE:=DK s.ao O ((kX an s1).map (C.xv O1)) V;refine⟨⟨hE.agree,hE.li,hE.lb,hE.lr,λk b4=> ?_⟩,λi hi=> ?_,by simp[rG,Uj], ?_⟩;have bs:k<Y s.ao:=by
    obtain⟨b,hb⟩:=lF.1 b4;exact(cu.1 (kw.1 hb)).1
   rw[DP bs];exact b2.ext.ad k b4;unfold aP at hi⊢;simp only[rG];rw[Pv];simpa using hi;simp only[rG];rw[e3];exact Nat.le_succ _
  have cW:∀m,dq s.ax L (⟨s.ax,X,μ,m⟩::L):=λm l bs=>by
   simp only[oP];rw[aT aa]
  refine ih D B yh ro al x _ _ _ _ _ a1 W1 _ hY (hB.go br (cW _)) aA a9 aC cR RH (hg.ext br.ext) (λch H G pd y hd hR=>HP ch H G pd y hd hR) ?_;intro e s2 O2 V2 a2 W2 L2 ag a0 R2 af;have bb:=br.trans ag;rw[bf] at a0;have bt:dq s.ax L L2:=λl bs=>by
   rw[a0 l aa];simp only[oP];rw[aT aa]
  cases e with
  |normal=>
   simp only[Tu] at af;split at af;rename_i b5;simp only[aw,ce] at b5;obtain⟨⟨⟨⟨⟨c1,c2⟩,c3⟩,c4⟩,c5⟩,c6⟩:=b5;have c0:oP s.ax L2=U ⟨s.ax,X,μ,μ ((kX an s1).map (C.xv O1))⟩:=by
    rw[a0 s.ax aa];simp[oP]
   simp only[T.aS,c0] at af;exact⟨_,af.2,s2,O2,V2,bb,R2,c1,c2,c3,c4,c5,c6,af.1,rfl⟩;exact af.elim
  |ret=>exact u .ret s2 O2 V2 a2 W2 L2 bb bt R2 af
  |exit id=>exact u (.exit id) s2 O2 V2 a2 W2 L2 bb bt R2 af
  |bI v=>exact u (.bI v) s2 O2 V2 a2 W2 L2 bb bt R2 af
  rename_i c7;exact ami (n+1) (bx D B yh ro al x s k L O V a W Q hY hB aA a9 aC (λan=>c7 an) h0 R hg HP u)
  
  rename_i f ps assign body;have c8:ro=none:=by
   cases ro with
   |none=>rfl
   |some l=>have:=a3 rfl;simp[ku] at this
  subst c8;split at h;rename_i g dT c9;split at h;rename_i c nt dc;split at h;exact h.elim;rename_i hc;simp only[jL,iw,not_or,Hn,ajg] at hc;obtain⟨⟨⟨⟨dd,df⟩,dk⟩,dn⟩,dr⟩:=hc;obtain⟨d0,ds⟩:=aC;exact ayR ok ih ds aA c9 dc dd df dk dn dr h hY hB R hg HP u;exact h.elim;exact h.elim;exact h.elim
variable{p:Sp}
def ayX{R:ai}{Q:aq}:∀{l P:ap},C.aG N x l=C.aG R Q P->(one l).ab N x=(one P).ab R Q
 |[],[],_=>rfl
 |[X],[y],h=>by
  have h:C.ab N x X=C.ab R Q y:=by simpa[C.aG] using h
  exact h
 |[],_::_,h=>by simp[C.aG] at h
 |_::_,[],h=>by simp[C.aG] at h
 |[_],_::_::_,h=>by simp[C.aG] at h
 |_::_::_,[_],h=>by simp[C.aG] at h
 |a::b::c,M::L::H,h=>by
  show Value.tuple (C.aG N x (a::b::c)).toArray=Value.tuple (C.aG R Q (M::L::H)).toArray;rw[h]
def amV(X:bz):PS (X.map RK.rd):=by
 intro k e h;rw[dS] at h;cases R:X[k]? with
 |none=>rw[R] at h;cases h
 |some x=>rw[R] at h;cases x<;>simp[RK.rd] at h
def ayY{D:cq}{a:Act}(H:p.ty=cf.ty)(R:az p.S0 p.w0 D cf.ty x N w a e)(M:(OW cf y v w).aS p N b):p.R (.returned ((one v).ab N x)) e:=by
 unfold OW at M;split at M;rename_i z;simp only[aw] at z;obtain⟨⟨⟨an,aA⟩,m⟩,h⟩:=z;have G:∀i,aP ([]:bG) i=J->False:=λi P=>by simp[aP,cY] at P
 have g:=R.mem.mX (PN w.rs);have f:az p.S0 p.w0 D cf.ty [] N (sR N (w.rs.map RK.rd) w.pd) ⟨#[],a.defers⟩ e:=
  ⟨⟨R.mem.base,λi P=>(G i P).elim,λi j P=>(G i P).elim,λi t r P=>by simp[sR,cY] at P,λk X n F c=>⟨(g.ah k X n F c).1,λQ _ i P=>(G i P).elim⟩⟩,rfl,rfl,rfl,by simp[sR,R.er],R.dp,rfl,λt sv ht=>by simp[sR] at ht,λk X n Q F=>aZ F (amV _ k X)⟩
 have af:=R.zZ m;obtain⟨l',aC,B,R3,u,_,d,h3⟩:=UH (a:=⟨#[],a.defers⟩) (ab7 (bx:=w.ao) (O0:=N) (V:=x) H rfl (λi X r ag=>by
  obtain⟨A,al⟩:=zY ag;have:=R.mem.box i X r A;rw[uc al] at this;exact⟨this,R.mem.own i (by simp[aP,A]),ub af.2 A⟩) 9) v (w.rs.map RK.rd) N _ f (Up.refl _) (amV _) (by rw[R.ei,R.eb,R.er];exact h) M
 have h4:=h3 B.y [] e (by rw[H];exact R3.mem);have h5:(one l').ab B []=(one v).ab N x:=ayX (d B (Up.refl _));rw[<-h5];exact h4;exact M N.y x _ (by rw[H];exact(R.mem.take _).mX (PN _))
def LG(X:jS p cf)(n:Nat):An p cf n/\Uy p cf n:=UJ n p X
def amW(z:jS p cf){L:Func}{c:Code}(k:p.P.funcs[t]?=U L)(hb:L.body=U c)
  (ht:OX cf y t c L.ntmps L.results.toList v w=g)(M:g.aS p N [])(hg:fk cf.gl N)(R:az p.S0 p.w0 cq.none cf.ty x N {w with tmps:=[]} ⟨#[],[]⟩ p.w0):
  Calls p.P t (C.aG N x v).toArray p.w0 p.R:=by
 subst ht;refine Lv k hb ?_;have RE:=R.enter v L.ntmps R.dp;refine(LG z y).1 cq.none ⟨{w with tmps:=v++eF (L.ntmps-Y v) (.bO [])},N,x,[]⟩ jg Z t c _ _ [] N x _ p.w0 _ (FM _ _) (j8.here _ _ _ _) rfl (λhh=>by cases hh) ⟨L,k⟩ M RE hg ?_ ?_;intro j H u pd X hA hR;obtain⟨ag,F,q0,r,B⟩:=hA.mE;show LeavesInM Fence.wide 0 p.P L H.tmps p.R H.defers (.panicking j) u;rw[F];exact uh av (xS.1 r).1 (λd G=>(B d (by simp[G])).1) (PK (z.Um j) (λd G=>(B d (by simp[G])).2) hR);intro e i h V' H u L' hl hL b M;obtain⟨ag,F,q0,r,B⟩:=b.dp.mE;have m:=b.rM F;have af:∀l,uU cf i L.results.toList=U l->(OW cf (Y w.ao) l i).aS p h L'->LeavesInM Fence.wide 0 p.P L H.tmps p.R H.defers .returning u:=by
  intro l A M;rw[F];exact uh av (xS.1 r).1 (λd G=>(B d (by simp[G])).1) ⟨_,Lg m z.ll A,ayY z.pt m M⟩
 cases e with
 |normal=>
  simp only[TA] at M;split at M;rename_i l A;exact af l A M;exact M.elim
 |ret=>
  simp only[TA] at M;split at M;rename_i l A;exact af l A M;exact M.elim
 |bI Q=>
  show LeavesInM Fence.wide 0 p.P L H.tmps p.R H.defers (.panicking _) u;rw[F];exact uh av (xS.1 r).1 (λd G=>(B d (by simp[G])).1) (M h.y V' _ m.mem.base)
 |exit id=>exact M.elim
end
def zEq:Value->CT->Bool
 |.int k n,.int X=>decide (k=X)&&n==0
 |.bool b,.bool=> !b
 |v,.ae z _=>HI v z
 |_,_=>E
def LH:gG->fu->Bool
 |[],[]=>J
 |v::X,c::W=>zEq v c&&LH X W
 |_,_=>E
def amY:∀(W:gG)(V:fu),LH W V=J->W=V.map rJ
 |[],[],_=>rfl
 |[],_::_,h=>by simp[LH] at h
 |_::_,[],h=>by simp[LH] at h
 |v::W,c::V,h=>by
  simp only[LH,aw] at h;rw[dU,<-amY W V h.2];congr 1;have X:=h.1;unfold zEq at X;split at X;simp only[aw,ce,dK] at X;obtain⟨rfl,rfl⟩:=X;rfl;rename_i b;cases b;rfl;cases X;exact ajR _ _ X;cases X
def LI:List Field->List (Nat×TypeId)->Bool
 |[],[]=>J
 |f::X,x::W=>f.offset==x.1&&f.type==x.2&&LI X W
 |_,_=>E
def amZ:∀(X:List Field)(W:List (Nat×TypeId)),LI X W=J->X.map (λf=>(f.offset,f.type))=W
 |[],[],_=>rfl
 |[],_::_,h=>by simp[LI] at h
 |_::_,[],h=>by simp[LI] at h
 |f::X,x::W,h=>by
  simp only[LI,aw,dK] at h;rw[dU,amZ X W h.2,h.1.1,h.1.2]
def ace(aj:fu):TD->Option TypeDesc->Bool
 |.struct V,U (.struct F)=>LI F.toList V
 |.arr n e,U (.array R X)=>n==R&&e==X
 |.slice e,U (.slice X)=>e==X
 |.str,U .string=>J
 |.ik,U (.interface _)=>J
 |.map k e _ _,U (.map W X)=>k==W&&e==X
 |.one,U (.int k)=>match aj with
  |[.int W]=>decide (k=W)
  |_=>E
 |.one,U .bool=>match aj with
  |[.bool]=>J
  |_=>E
 |.one,U (.pointer _)|.one,U (.map _ _)|.one,U (.chan _ _)=>match aj with
  |[.ae .nilFunc _]=>E
  |[.ae _ _]=>J
  |_=>E
 |.one,U (.func _ _ _)=>match aj with
  |[.ae _ _]=>J
  |_=>E
 |_,_=>E
def ayZ{P:Program}{t:TypeId}{aj:fu}{d:TD}(h:ace aj d (P.underlying t)=J):d.Ok P t aj:=by
 unfold ace at h;split at h;rename_i N F W;exact⟨F,W,amZ _ _ h⟩;rename_i n e M R W;simp only[aw,dK] at h;obtain⟨rfl,rfl⟩:=h;exact W;rename_i e R W;simp at h;subst h;exact W;rename_i W;exact W;rename_i m W;exact⟨m,W⟩;rename_i k e n L O R W;simp only[aw,dK] at h;obtain⟨rfl,rfl⟩:=h;exact W;rename_i k W;split at h;rename_i O;simp at h;subst h;exact⟨_,W,⟨trivial,λk X=>(by cases X)⟩,λk X=>(by cases X;rfl),λX=>(by cases X)⟩;cases h;rename_i W;split at h;exact⟨_,W,⟨trivial,λk X=>(by cases X)⟩,λk X=>(by cases X),λX=>rfl⟩;cases h;rename_i x W;split at h;cases h;rename_i z Q V;exact⟨_,W,⟨trivial,λk X=>(V (by cases X;rfl)).elim⟩,λk X=>(by cases X),λX=>(by cases X)⟩;cases h;rename_i x y W;split at h;cases h;rename_i z Q V;exact⟨_,W,⟨trivial,λk X=>(V (by cases X;rfl)).elim⟩,λk X=>(by cases X),λX=>(by cases X)⟩;cases h;rename_i x y W;split at h;cases h;rename_i z Q V;exact⟨_,W,⟨trivial,λk X=>(V (by cases X;rfl)).elim⟩,λk X=>(by cases X),λX=>(by cases X)⟩;cases h;rename_i x y z W;split at h;exact⟨_,W,⟨trivial,λk X=>⟨_,_,_,rfl⟩⟩,λk X=>(by cases X),λX=>(by cases X)⟩;cases h;cases h
def acf(P:Program)(t:TypeId)(X:TI):Bool:=
 match P.info? t with
 |U i=>match i.zero with
  |U z=>decide (i.bytes<=131072)&&i.size==Y X.aj&&LH z.cells.toList X.aj&&ace X.aj X.d (P.underlying t)&&(TG z==X.d.isAgg)
  |none=>E
 |none=>E
def ay0{P:Program}{t:TypeId}{X:TI}(h:acf P t X=J)(L:X.eq=J->∀(W V:gG)(r:Bool)(x y:Operand)(w:World),lI X.aj W->lI X.aj V->ky W V=U r->
  (do eqGuard .eql t x y (.agg W.toArray) (.agg V.toArray);binOp .eql t (.agg W.toArray) (.agg V.toArray)).run P w=.ok (.bool r) w/\
  (do eqGuard .neq t x y (.agg W.toArray) (.agg V.toArray);binOp .neq t (.agg W.toArray) (.agg V.toArray)).run P w=.ok (.bool !r) w)(H:∀k e n O,X.d=.map k e n O->u4 P k n O):fw P t X:=by
 unfold acf at h;split at h;rename_i i Q;split at h;rename_i z N;simp only[aw,dK,ce] at h;obtain⟨h,G⟩:=h;exact⟨⟨i,Q,h.1.1.2,z,N,amY _ _ h.1.2⟩,ayZ h.2,λj R=>(by rw[Q] at R;cases R;exact h.1.1.1),L,H,λj F R M=>(by rw[Q] at R;cases R;rw[N] at M;cases M;exact G)⟩;cases h;cases h
def am0{X:Type}(l:List (Option X))(i:Nat):Option X:=zJ (motive:=λ_=>Nat->Option X) (λ_=>Z) (λx _ W t=>Hz (motive:=λ_=>Option X) x (λm _=>W m) t) l i
def acg{X:Type}(l:List (List X))(i:Nat):List X:=zJ (motive:=λ_=>Nat->List X) (λ_=>[]) (λx _ W t=>Hz (motive:=λ_=>List X) x (λm _=>W m) t) l i
def look{X:Type}(l:List (List (Option X)))(t:Nat):Option X:=am0 (acg l (t/16)) (t%16)
def am1{X:Type}{x:X}:∀{l:List (Option X)}{i:Nat},am0 l i=U x->l[i]?=U (U x)
 |[],_,h=>by cases h
 |y::_,0,h=>by simp only[Bk];exact ko U h
 |_::l,i+1,h=>by rw[tN];exact am1 (l:=l) h
def am2{X:Type}:∀(l:List (List X))(i:Nat),l[i]?=U (acg l i)\/acg l i=[]
 |[],_=>.inr rfl
 |_::_,0=>.inl rfl
 |_::l,i+1=>by rw[tN];exact am2 l i
def Iu{W:Type}(X:Nat->W->Bool):Nat->List (Option W)->Bool
 |_,[]=>J
 |n,Z::r=>Iu X (n+1) r
 |n,U x::r=>X n x&&Iu X (n+1) r
def FN{X:Type}(W:Nat->X->Bool):Nat->List (List (Option X))->Bool
 |_,[]=>J
 |n,r::V=>Iu W n r&&FN W (n+16) V
def ach{W:Type}{V:Nat->W->Bool}:∀{r:List (Option W)}{n i:Nat}{x:W},Iu V n r=J->r[i]?=U (U x)->V (n+i) x=J
 |[],n,i,x,_,h=>by simp at h
 |Z::r,n,0,x,_,h=>by simp at h
 |Z::r,n,i+1,x,X,h=>by
  simp only[Iu] at X;have:=ach X (by simpa using h)
  rwa [show n+1+i=n+(i+1) from aa] at this
 |U y::r,n,0,x,X,h=>by simp[Iu] at X;simp at h;subst h;exact X.1
 |U y::r,n,i+1,x,X,h=>by
  simp only[Iu,aw] at X;have:=ach X.2 (by simpa using h)
  rwa [show n+1+i=n+(i+1) from aa] at this
def am3{W:Type}{R:Nat->W->Bool}:∀{l:List (List (Option W))}{n q i:Nat}{r:List (Option W)}{x:W},FN R n l=J->l[q]?=U r->r[i]?=U (U x)->R (n+16*q+i) x=J
 |[],n,q,i,r,x,_,h,_=>by simp at h
 |y::l,n,0,i,r,x,X,h,V=>by simp only[FN,aw] at X;simp at h;subst h;simpa using ach X.1 V
 |y::l,n,q+1,i,r,x,X,h,V=>by
  simp only[FN,aw] at X;have:=am3 X.2 (by simpa using h) V
  rwa [show n+16+16*q+i=n+16*(q+1)+i from aa] at this
def am4{X:Type}{R:Nat->X->Bool}{l:List (List (Option X))}(h:FN R 0 l=J){x:X}(Q:look l y=U x):R y x=true:=by
 have W:=am1 Q;rcases am2 l (y/16) with V|V;have:=am3 h V W
 rwa [jf,ajk] at this
 rw[V] at W;simp at W
def aci(P:Program)(l:aq)(g:FuncId):Option (Code×Nat×od):=if l.contains g then(match P.funcs[g]? with
 |U X=>match X.body with
  |U c=>U (c,X.ntmps,X.results.toList)
  |none=>Z
 |none=>Z) else Z
def wF(P:Program)(g:Nat):Bool:=match P.funcs[g]? with
 |U X=>X.body.isSome&& !(X.name== "runtime.NumGoroutine")
 |none=>E
def wG{P:Program}(h:wF P y=J):∀X W,(callFunc y X).run P W=.ok (.enter y X) W:=by
 unfold wF at h;split at h;rename_i V R;simp only[aw,iw] at h;intro X W;have Q:V.name≠ "runtime.NumGoroutine":=by simpa using h.2
 obtain⟨c,O⟩:=lF.1 h.1;simp[callFunc,R,Q,O];cases h
def ay1(X:Dj)(f i:Nat):Option FK:=match X.find? (λx=>x.1==f&&(x.2%1000==i&&decide (1000<=x.2))) with
 |U x=>if x.2/1000==1 then U .box else if x.2/1000<100 then U (.slot (x.2/1000-2) [0,1,2,3]) else if x.2/1000<200 then U (.slot (x.2/1000-102) [0,1,2,3,4]) else U (.cell ((x.2/1000-200)/20) ((x.2/1000-200)%20) [1,2,3,4,5,6,7,8,9])
 |none=>Z
def p9(P:Program)(ll:List (List Fa))(W:List (List sC))(V:nG)(R:aq)(loops:List (Nat×Nat×fP))(Q:Bq)(ma:Bool:=E)(X:Dj:=[]):bF:=
 {ty:=look ll,gl:=V,inl:=aci P R,sig:=look W,loop:=λf i=>match loops.find? (λx=>x.1==f&&x.2.1==i) with
  |U x=>.inv x.2.2
  |none=>.avZ,zM:=λf g=>(Q.find? λx=>x.1==f&&x.2.1==g).map (·.2.2),ma:=ma,Oy:=λf i=>X.contains (f,i),frk:=λf i=>ay1 X f i}
def PU{P:Program}{ll:List (List Fa)}{G:List (List sC)}{B:nG}{loops:List (Nat×Nat×fP)}{M:Bq}{ma:Bool}{A:Dj}{z:aq}{D:cq}{R:Ending->World->Prop}{Q:Exit->Act->World->Prop}
  (y:jq P (look ll))(w:FN (λg _=>wF P g) 0 G=J)(v:x.all (wF P)=J)(u:P.follows .mixedOrders=J)(t:∀F W b o,e.heap.size<=b->R (.panicked F) W->R (.panicked F) (W.putObj b o))(s:∀X∈M,mY P (look ll) X.1 X.2.1 X.2.2.1 X.2.2.2.1 X.2.2.2.2):jS ⟨P,look ll,z,e,D,R,Q⟩ (p9 P ll G B x loops M ma A):=by
 refine⟨rfl,u,y,λf g V m l h=> ?_,λg N=> ?_,t,λg c k j h=> ?_⟩;simp only[p9] at h;cases O:M.find? (λX=>X.1==f&&X.2.1==g) with
 |none=>rw[O] at h;cases h
 |some X=>
  rw[O] at h;simp only[eh,cX] at h;have L:=SU O;simp only[aw,dK] at L;have:=s X (SK O);rw[L.1,L.2,h] at this;exact this
 rcases N with N|N;obtain⟨i,r⟩:=lF.1 N;exact wG (am4 w r);obtain⟨X,H⟩:=lF.1 N;simp only[p9,aci] at H;split at H;rename_i q;exact wG (fZ.1 v g (qD.1 q));cases H;simp only[p9,aci] at h;split at h;split at h;rename_i p O;split at h;rename_i d n;cases h;exact⟨p,O,n,rfl,rfl⟩;cases h;cases h;cases h
section
inductive cU:RV->RV->Prop where
 |sl (A A':Option Addr) (len cap cap':Nat) (rows aE:List (List RV)) (h1:Y rows=Y aE) (h2:∀(i:Nat)(row row':List RV),rows[i]?=U row->aE[i]?=U row'->Y row=Y row')
   (h3:∀(i j:Nat)(row row':List RV)(c c':RV),rows[i]?=U row->aE[i]?=U row'->row[j]?=U c->row'[j]?=U c'->cU c c'):cU (.mk (.slice A len cap) rows) (.mk (.slice A' len cap') aE)
 |val (v:Value) (rows:List (List RV)) (h:∀a l c,v≠ .slice a l c):cU (.mk v rows) (.mk v rows)
def LJ:XV->XV->Prop
 |.i n,.i m=>n=m
 |.b x,.b y=>x=y
 |.r v,.r w=>cU v w
 |_,_=>False
def BZ:bv->bv->Prop
 |[],[]=>True
 |x::X,y::W=>LJ x y/\BZ X W
 |_,_=>False
structure lL(O O':ai):Prop where
 i:O.i=O'.i
 b:O.b=O'.b
 len:Y O.r=Y O'.r
 r:∀(k:Nat)(v v':RV),O.r[k]?=U v->O'.r[k]?=U v'->cU v v'
def cU.refl:∀(v:RV),cU v v
 |.mk v V=>by
  by_cases h:∃a l c,v=.slice a l c;obtain⟨a,l,c,rfl⟩:=h;refine cU.sl a a l c c V V rfl (λi P O W X=>by rw[W] at X;cases X;rfl) (λi j P O x M W X R Q=> ?_);rw[W] at X;cases X;rw[R] at Q;cases Q;exact cU.refl x;exact cU.val v V (λa l c N=>h ⟨a,l,c,N⟩)
termination_by v=>SizeOf.sizeOf v
decreasing_by
 have L:=aI9 (jK W);have H:=aI9 (jK R);simp only[RV.mk.sizeOf_spec];omega
def cU.default:cU default default:=cU.refl _
def lL.rv{O X:ai}(h:lL O X)(k:Nat):cU (O.rv k) (X.rv k):=by
 unfold ai.rv;simp only[cw];cases W:O.r[k]? with
 |none=>
  have:X.r[k]?=none:=by rw[Dc] at W⊢;have:=h.len;omega
  rw[this];exact cU.default
 |some v=>
  cases V:X.r[k]? with
  |none=>rw[Dc] at V;have:=(cu.1 W).1;have:=h.len;omega
  |some R=>exact h.r k v R W V
def cU.aQ{v N:RV}(h:cU v N)(i:Int)(j:Nat):cU (Y.aQ v.ac i j) (Y.aQ N.ac i j):=by
 cases h with
 |sl A G F D B R aE z L H=>
  simp only[Y.aQ,RV.nN,cw];cases W:R[i.toNat]? with
  |none=>
   have:aE[i.toNat]?=none:=by rw[Dc] at W⊢;omega
   rw[this];exact cU.default
  |some V=>
   obtain⟨X,Q⟩:∃X,aE[i.toNat]?=U X:=by
    have:i.toNat<Y R:=(cu.1 W).1;exact⟨aE[i.toNat],cP aa⟩
   rw[Q];simp only[oI];have y:=L _ V X W Q;cases P:V[j]? with
   |none=>
    have:X[j]?=none:=by rw[Dc] at P⊢;omega
    rw[this];exact cU.default
   |some c=>
    obtain⟨O,M⟩:∃O,X[j]?=U O:=by
     have:j<Y V:=(cu.1 P).1;exact⟨X[j],cP aa⟩
    rw[M];exact H _ j V X c O W Q P M
 |val v R x=>exact cU.refl _
def cU.bn{v X:RV}(h:cU v X):Y.bn v.val=Y.bn X.val/\Y.gA v.val=Y.gA X.val/\lenOf v.val=lenOf X.val/\(∀i,kY v.val i=kY X.val i)/\(∀w,t7 v.val w=t7 X.val w)/\∀w,t7 w v.val=t7 w X.val:=by
 cases h with
 |sl A V R Q P W aE=>exact⟨rfl,rfl,rfl,λ_=>rfl,λ_=>rfl,λw=>by cases w<;>rfl⟩
 |val v W O=>exact⟨rfl,rfl,rfl,λ_=>rfl,λ_=>rfl,λ_=>rfl⟩
def cU.cg{v M:RV}(h:cU v M)(k:RK):cU (Y.cg k v) (Y.cg k M):=by
 cases h with
 |sl A X W V R Q aE P O N=>
  cases k with
  |sl e=>exact cU.sl A X W V R Q aE P O N
  |str=>exact cU.refl _
  |ae=>exact cU.sl A X W V R [] [] rfl (λi L H q=>by simp at q) (λi j L H c G q=>by simp at q)
  |own e=>exact cU.sl A X W V R Q aE P O N
  |am=>exact cU.sl A X W V R Q aE P O N
  |mr F=>exact cU.sl A X W V R Q aE P O N
 |val v Q D=>exact cU.refl _
structure gf(rows aE:ar):Prop where
 len:Y rows=Y aE
 row:∀(i:Nat)(row row':aF),rows[i]?=U row->aE[i]?=U row'->Y row=Y row'
 cell:∀(i j:Nat)(row row':aF)(c c':RV),rows[i]?=U row->aE[i]?=U row'->row[j]?=U c->row'[j]?=U c'->cU c c'
def cU.LL{v R:RV}(h:cU v R):gf v.ac R.ac:=by
 cases h with
 |sl A M L H G P aE W X V=>exact⟨W,X,V⟩
 |val v P F=>exact⟨rfl,λi O N W X=>by rw[W] at X;cases X;rfl,λi j O N c D W X V Q=>by rw[W] at X;cases X;rw[V] at Q;cases Q;exact cU.refl _⟩
def oR(X W:aF):Prop:=Y X=Y W/\∀(j:Nat)(c V:RV),X[j]?=U c->W[j]?=U V->cU c V
def gf.cons{r X:aF}{O N:ar}(h:gf (r::O) (X::N)):oR r X/\gf O N:=
 ⟨⟨h.row 0 r X rfl rfl,λj c W=>h.cell 0 j r X c W rfl rfl⟩,by simpa using h.len,λi V R Q P=>h.row (i+1) V R (by simpa using Q) (by simpa using P),λi j V R c W Q P=>h.cell (i+1) j V R c W (by simpa using Q) (by simpa using P)⟩
def gf.FO{r Q:aF}{P O:ar}(h:oR r Q)(k:gf P O):gf (r::P) (Q::O):=by
 refine⟨by simp[k.len],λi V R X W=> ?_,λi j V R c N X W=> ?_⟩;cases i with
 |zero=>simp at X W;subst X W;exact h.1
 |succ i=>exact k.row i V R (by simpa using X) (by simpa using W)
 cases i with
 |zero=>simp at X W;subst X W;exact h.2 j c N
 |succ i=>exact k.cell i j V R c N (by simpa using X) (by simpa using W)
def oR.getD{W X:aF}(h:oR W X)(j:Nat):cU (W.getD j Inhabited.default) (X.getD j Inhabited.default):=by
 simp only[cw];cases V:W[j]? with
 |none=>
  have:X[j]?=none:=by rw[Dc] at V⊢;have:=h.1;omega
  rw[this];exact cU.refl _
 |some c=>
  obtain⟨R,Q⟩:∃R,X[j]?=U R:=by
   have:j<Y W:=(cu.1 V).1;exact⟨X[j]'(by have:=h.1;omega),cP _⟩
  rw[Q];exact h.2 j c R V Q
def oR.ints{W X:aF}(h:oR W X)(n:Nat):(W.take n).map (λc=>Y.bn c.val)=(X.take n).map λc=>Y.bn c.val:=by
 apply kU;intro j;simp only[dS,nD];split;cases V:W[j]? with
 |none=>
  have:X[j]?=none:=by rw[Dc] at V⊢;have:=h.1;omega
  rw[this]
 |some c=>
  obtain⟨R,Q⟩:∃R,X[j]?=U R:=by
   have:j<Y W:=(cu.1 V).1;exact⟨X[j]'(by have:=h.1;omega),cP _⟩
  rw[Q];simp only[eh,(h.2 j c R V Q).bn.1]
 rfl
def oR.kZ{X W:aF}(h:oR X W)(n:Nat)(V:bA):Y.kZ n V X=Y.kZ n V W:=by
 simp only[Y.kZ,h.ints n]
def UK{n:Nat}{ks:bA}:∀{X aE:ar},gf X aE->(jb n ks X=Z/\jb n ks aE=Z)\/∃W V,jb n ks X=U W/\jb n ks aE=U V/\oR W V
 |[],[],_=>.inl ⟨rfl,rfl⟩
 |[],_::_,h=>by have:=h.len;simp at this
 |_::_,[],h=>by have:=h.len;simp at this
 |r::O,Q::N,h=>by
  obtain⟨R,P⟩:=h.cons;simp only[jb,Ka,<-R.kZ n ks];cases Y.kZ n ks r with
  |true=>exact .inr ⟨r,Q,rfl,rfl,R⟩
  |false=>exact UK P
def am5{n:Nat}{X W:aF}(h:oR X W):∀{V aE:ar},gf V aE->gf (gq n X V) (gq n W aE)
 |[],[],k=>gf.FO h k
 |[],_::_,k=>by have:=k.len;simp at this
 |_::_,[],k=>by have:=k.len;simp at this
 |r::P,O::N,k=>by
  obtain⟨R,Q⟩:=k.cons;simp only[gq,h.ints n,<-R.kZ n];split;exact gf.FO h Q;exact gf.FO R (am5 h Q)
mutual
def K.dO{O X:ai}(h:lL O X):∀e:K,e.ab O=e.ab X
 |.c n=>rfl
 |.v k=>by simp only[K.ab,h.i]
 |.bin o k a b=>by simp only[K.ab,K.dO h a,K.dO h b]
 |.conv k a=>by simp only[K.ab,K.dO h a]
 |.len r=>by simp only[K.ab];exact(RE.dO h r).bn.2.2.1
 |.mm m a b=>by simp only[K.ab,K.dO h a,K.dO h b]
 |.eB b x y=>by simp only[K.ab,BE.dO h b,K.dO h x,K.dO h y]
 |.cell r i j=>by simp only[K.ab,K.dO h i];exact((RE.dO h r).aQ _ j).bn.1
 |.oe r i=>by simp only[K.ab,K.dO h i];exact(RE.dO h r).bn.2.2.2.1 _
 |.look r n a b c j=>by
  simp only[K.ab,K.dO h a,K.dO h b,K.dO h c];rcases UK (n:=n) (ks:=[a.ab X,b.ab X,c.ab X]) (RE.dO h r).LL with⟨W,V⟩|⟨Q,P,W,V,R⟩;rw[W,V];rw[W,V];exact(R.getD j).bn.1
def BE.dO{O X:ai}(h:lL O X):∀e:BE,e.ab O=e.ab X
 |.c n=>rfl
 |.v k=>by simp only[BE.ab,h.b]
 |.cmp o a b=>by simp only[BE.ab,K.dO h a,K.dO h b]
 |.not a=>by simp only[BE.ab,BE.dO h a]
 |.and a b=>by simp only[BE.ab,BE.dO h a,BE.dO h b]
 |.beq a b=>by simp only[BE.ab,BE.dO h a,BE.dO h b]
 |.eB b x y=>by simp only[BE.ab,BE.dO h b,BE.dO h x,BE.dO h y]
 |.cell r i j=>by simp only[BE.ab,K.dO h i];exact((RE.dO h r).aQ _ j).bn.2.1
 |.seq a b=>by simp only[BE.ab];rw[(RE.dO h a).bn.2.2.2.2.1,(RE.dO h b).bn.2.2.2.2.2]
 |.look r n a b c j=>by
  simp only[BE.ab,K.dO h a,K.dO h b,K.dO h c];rcases UK (n:=n) (ks:=[a.ab X,b.ab X,c.ab X]) (RE.dO h r).LL with⟨W,V⟩|⟨Q,P,W,V,R⟩;rw[W,V];rw[W,V];exact(R.getD j).bn.2.1
 |.has r n a b c=>by
  simp only[BE.ab,K.dO h a,K.dO h b,K.dO h c];rcases UK (n:=n) (ks:=[a.ab X,b.ab X,c.ab X]) (RE.dO h r).LL with⟨W,V⟩|⟨Q,P,W,V,R⟩;rw[W,V];rw[W,V];rfl
def RE.dO{O X:ai}(h:lL O X):∀r:RE,cU (r.rv O) (r.rv X)
 |.v k=>by simp only[RE.rv];exact h.rv k
 |.cell r i j k=>by simp only[RE.rv,K.dO h i];exact((RE.dO h r).aQ _ j).cg k
 |.k v=>by simp only[RE.rv];exact cU.refl _
end
def C.ay2{X:ai}(h:lL N X)(v:C):LJ (v.xv N) (v.xv X):=by
 cases v<;>simp only[C.xv,LJ];exact K.dO h _;exact BE.dO h _;exact RE.dO h _
def C.ay3{X:ai}(h:lL N X)(v:C):cU (v.cj N) (v.cj X):=by
 cases v<;>simp only[C.cj];rw[K.dO h];exact cU.refl _;rw[BE.dO h];exact cU.refl _;exact RE.dO h _
 all_goals exact cU.refl _
def gf.of{R aE:ar}(O:Y R=Y aE)(h:∀(i:Nat)(X W:aF),R[i]?=U X->aE[i]?=U W->Y X=Y W/\∀(j:Nat)(c V:RV),X[j]?=U c->W[j]?=U V->cU c V):gf R aE:=
 ⟨O,λi X W Q P=>(h i X W Q P).1,λi j X W c V Q P=>(h i X W Q P).2 j c V⟩
def UL{V:ai}(h:lL N V)(l:ap):(l.map (C.cj N)).length=(l.map (C.cj V)).length/\∀(j:Nat)(c R:RV),(l.map (C.cj N))[j]?=U c->(l.map (C.cj V))[j]?=U R->cU c R:=by
 refine⟨av,λj c R X W=> ?_⟩;rw[dS] at X W;cases Q:l[j]? with
 |none=>rw[Q] at X;cases X
 |some v=>
  rw[Q] at X W;simp only[eh,cX] at X W;rw[<-X,<-W];exact C.ay3 h v
def am6:∀{O N R Q:aF}{P:Nat},Y O=Y N->(∀(j:Nat)(c X:RV),O[j]?=U c->N[j]?=U X->cU c X)->Y R=Y Q->(∀(j:Nat)(c X:RV),R[j]?=U c->Q[j]?=U X->cU c X)->
  (gT R P O).length=(gT Q P N).length/\∀(j:Nat)(c X:RV),(gT R P O)[j]?=U c->(gT Q P N)[j]?=U X->cU c X
 |[],[],R,Q,P,_,_,M,L=>⟨M,L⟩
 |[],_::_,_,_,_,h,_,_,_=>by simp at h
 |_::_,[],_,_,_,h,_,_,_=>by simp at h
 |v::O,D::N,R,Q,P,F,G,M,L=>by
  simp only[gT];refine am6 (by simpa using F) (λj c X V W=>G (j+1) c X (by simpa using V) (by simpa using W)) (by simp[M]) (λj c X V W=> ?_);rw[wc] at V W;split at V;rename_i H;rw[aL H] at W;split at V;split at W;cases V;cases W;exact G 0 _ _ rfl rfl;cases W;cases V;rename_i H;rw[aT H] at W;exact L j c X V W
def LE.dO{O D:ai}(h:lL O D):∀x:LE,gf (x.ac O) (x.ac D)
 |.ah r=>(RE.dO h r).LL
 |.lit l=>by
  simp only[LE.ac];refine gf.of av (λi R Q X W=> ?_);rw[dS] at X W;cases B:l[i]? with
  |none=>rw[B] at X;cases X
  |some v=>
   rw[B] at X W;simp only[eh,cX] at X W;rw[<-X,<-W];exact UL h v
 |.kq a b=>by
  simp only[LE.ac];have V:=LE.dO h a;have H:=LE.dO h b;refine gf.of (by simp[V.len,H.len]) (λi R Q X W=> ?_);by_cases L:i<(a.ac O).length;rw[dN L] at X;rw[dN (by rw[<-V.len];exact L)] at W;exact⟨V.row i R Q X W,λj c P=>V.cell i j R Q c P X W⟩;rw[iJ aa] at X;rw[iJ (by rw[<-V.len];omega),<-V.len] at W;exact⟨H.row _ R Q X W,λj c P=>H.cell _ j R Q c P X W⟩
 |.tR n R=>by
  simp only[LE.ac,K.dO h n];refine gf.of av (λi r u X W=> ?_);rw[Hh] at X W;split at X;rename_i L;rw[aL L] at W;cases X;cases W;exact UL h R;cases X
 |.set a i t G=>by
  simp only[LE.ac,K.dO h i];have V:=LE.dO h a;have A:=UL h G;refine gf.of (by simp[V.len]) (λs R Q X W=> ?_);rcases La X with⟨rfl,z,N,rfl⟩|⟨F,N⟩;rcases La W with⟨_,y,M,rfl⟩|⟨F,_⟩;exact am6 A.1 A.2 (V.row _ z y N M) (λj c P=>V.cell _ j z y c P N M);exact aZ rfl F;rcases La W with⟨rfl,_⟩|⟨_,M⟩;exact aZ rfl F;exact⟨V.row _ R Q N M,λj c P=>V.cell _ j R Q c P N M⟩
 |.sub a w L=>by
  simp only[LE.ac,K.dO h w,K.dO h L];have V:=LE.dO h a;refine gf.of (by simp[V.len]) (λi R Q X W=> ?_);have N:=(Pl X).1;have M:=(Pl W).1;exact⟨V.row _ R Q N M,λj c P=>V.cell _ j R Q c P N M⟩
 |.ins a n G=>by
  simp only[LE.ac];exact am5 (UL h G) (LE.dO h a)
def am7{W:ai}(h:lL N W)(x:LE){A:oL}:cU (gI x N) (.mk (.slice A (x.ac W).length y) (x.ac W)):=by
 have X:=LE.dO h x;unfold gI;rw[X.len];exact cU.sl _ _ _ _ _ _ _ X.len X.row X.cell
def lL.add{O R:ai}(h:lL O R){x y:XV}(V:LJ x y):lL (O.add x) (R.add y):=by
 cases x<;>cases y<;>simp only[LJ] at V;subst V;exact⟨by simp[ai.add,h.i],h.b,h.len,h.r⟩;subst V;exact⟨h.i,by simp[ai.add,h.b],h.len,h.r⟩;refine⟨h.i,h.b,by simp[ai.add,h.len],λk v P X W=> ?_⟩;simp only[ai.add] at X W;by_cases Q:k<Y O.r;rw[dN Q] at X;rw[dN (by rw[<-h.len];exact Q)] at W;exact h.r k v P X W;have N:k=Y O.r:=by
  have:=(cu.1 X).1;simp at this;omega
 subst N;simp at X;rw[h.len] at W;simp at W;subst X W;exact V
def lL.ext:∀{W V:bv}{O R:ai},lL O R->BZ W V->lL (O.ext W) (R.ext V)
 |[],[],_,_,h,_=>h
 |[],_::_,_,_,_,X=>X.elim
 |_::_,[],_,_,_,X=>X.elim
 |x::W,y::V,_,_,h,X=>(h.add X.1).ext X.2
inductive bq where
 |ret (xs:List XV)
 |bI (v:Value)
abbrev kK:=Option bq
abbrev nQ:=FuncId->bv->kK
def acj:LK->XV->Bool
 |.int _,.i _=>J
 |.bool,.b _=>J
 |.ah _,.r _=>J
 |_,_=>E
def kz:aU->bv->Bool
 |[],[]=>J
 |k::X,x::W=>acj k x&&kz X W
 |_,_=>E
def FP(X:Ty)(W:bz):LK->C->Bool
 |.int k,.int V _=>decide (k=V)
 |.bool,.bool _=>J
 |.ah e,.ah r=>match e with
  |.mr R=>r.o8 X ⟨[],[],0,0,W,0,0,[]⟩ R
  |e=>r.fits X ⟨[],[],0,0,W,0,0,[]⟩ e.rd
 |_,_=>E
def ln(X:Ty)(W:bz):aU->ap->Bool
 |[],[]=>J
 |k::V,v::R=>FP X W k v&&ln X W V R
 |_,_=>E
def kA(W:Ty):j5->ap->HA
 |[],[]=>U []
 |t::V,v::R=>match W t,kA W V R with
  |U X,U r=>if X.d.isAgg then(match v with
    |.agg l=>if Y l==Y X.aj then U (l++r) else Z
    |_=>Z) else(if Y X.aj==1 then U (v::r) else Z)
  |_,_=>Z
 |_,_=>Z
def Ap(n:Nat):C->ap
 |.bO l=>if n==1 then[.bO l] else l
 |v=>[v]
def Iv(O:ai):C->Option Value
 |.ik t (.int k e)=>U (.iface t (.int k (e.ab O)))
 |_=>Z
structure Fr where
 ax:Nat
 ks:aU
 t:T
 O:ai
 rs:bz
def Iw(ax:Nat):List Fr->Option (Fr×List Fr)
 |[]=>Z
 |x::X=>if x.ax=ax then U (x,X) else Iw ax X
def jT:aU->bz
 |[]=>[]
 |.ah e::X=>e::jT X
 |_::X=>jT X
def sN:Nat->Nat->Nat->aU->ap->Bool
 |_,_,_,[],[]=>J
 |a,b,c,.int k::X,.int W (.v n)::l=>decide (k=W)&&n==a&&sN (a+1) b c X l
 |a,b,c,.bool::X,.bool (.v n)::l=>n==b&&sN a (b+1) c X l
 |a,b,c,.ah _::X,.ah (.v n)::l=>n==c&&sN a b (c+1) X l
 |_,_,_,_,_=>E
def UM:RK->RK->Bool
 |_,.am=>J
 |.own t,.sl X=>decide (t=X)
 |.sl t,.sl X=>decide (t=X)
 |.str,.str=>J
 |.ae,.ae=>J
 |.mr a,.mr b=>decide (a=b)
 |_,_=>E
def DY:bz->bz->Bool
 |[],[]=>J
 |x::X,y::W=>UM x y&&DY X W
 |_,_=>E
def am8:RK->RK->Bool
 |.own t,.own X=>decide (t=X)
 |x,y=>UM x y
def DZ:bz->bz->Bool
 |[],[]=>J
 |x::X,y::W=>am8 x y&&DZ X W
 |_,_=>E
def ack(X:Ty)(W:j5)(v:C)(R:bz)(O:ai):kK:=match kA X W (Ap (Y W) v),iO X W with
 |U l,U V=>if ln X R V l&&qJ V then U (.ret (l.map (C.xv O))) else Z
 |_,_=>Z
def acl(X:Ty)(P N:FuncId->sC)(f:FuncId)(M:ap)(L:bz)(V:aU)(jM:C)(O:ai):Option bv:=match P f,N f with
 |U R,U W=>match kA X R M,iO X R,iO X W,kA X W (Ap (Y W) jM) with
  |U l,U Q,U H,U r=>if ln X L Q l&&qJ Q&&decide (H=V)&&sN (Y O.i) (Y O.b) (Y O.r) V r then U (l.map (C.xv O)) else Z
  |_,_,_,_=>Z
 |_,_=>Z
def acm(X:bz)(r:RE)(e:TypeId):Bool:=match r with
 |.v k=>decide (X[k]?=U (.own e))
 |.k (.slice Z 0 0)=>J
 |_=>E
def acn:RK->Bool
 |.mr _=>J
 |_=>E
def oR.key{x y:aF}(h:oR x y)(c:Nat):aM c x=aM c y:=(h.getD c).bn.1
def am9{d:Bool}{x W y V:aF}(R:oR x W)(Q:oR y V):∀X:aq,jR d X x y=jR d X W V
 |[]=>rfl
 |c::X=>by simp only[jR,R.key,Q.key,am9 R Q X]
def aco{X:bu}{x W y V:aF}(R:oR x W)(Q:oR y V):X.lt x y=X.lt W V:=by
 cases X with
 |lex P d=>exact am9 R Q P
 |ratio n d=>simp only[bu.lt,R.key,Q.key]
 |dD k o O=>rfl
def ay4{X:bu}{x W:aF}(V:oR x W):X.ok x=X.ok W:=by
 cases X with
 |lex R d=>rfl
 |ratio n d=>simp only[bu.ok,V.key]
 |dD k o Q=>rfl
def gf.UN{r:ar}(h:gf [] r):r=[]:=by cases r with
 |nil=>rfl
 |cons x X=>have:=h.len;simp at this
def ana{V:bu}{x R:aF}(X:oR x R):∀{l W:ar},gf l W->gf (eI V.lt x l) (eI V.lt R W)
 |[],W,h=>by have P:=h.UN;subst P;exact gf.FO X h
 |y::l,[],h=>by have:=h.len;simp at this
 |y::l,N::W,h=>by
  obtain⟨Q,O⟩:=h.cons;simp only[eI,aco X Q];split;exact gf.FO X h;exact gf.FO Q (ana X O)
def anb{R:bu}:∀{l W:ar}{acc X:ar},gf l W->gf acc X->gf (l.foldl (λacc x=>eI R.lt x acc) acc) (W.foldl (λacc x=>eI R.lt x acc) X)
 |[],W,acc,X,h,V=>by rw[h.UN];exact V
 |y::l,[],acc,X,h,V=>by have:=h.len;simp at this
 |y::l,O::W,acc,X,h,V=>by
  obtain⟨Q,P⟩:=h.cons;simp only[E5];exact anb P (ana Q V)
def acp{f g:aF->Bool}:∀{l X:ar},(∀x W,oR x W->f x=g W)->gf l X->l.all f=X.all g
 |[],X,_,h=>by rw[h.UN];rfl
 |y::l,[],_,h=>by have:=h.len;simp at this
 |y::l,P::X,V,h=>by
  obtain⟨R,Q⟩:=h.cons;simp only[Om,V _ _ R,acp V Q]
def anc{X:bu}:∀{l W:ar},gf l W->ym X.lt l=ym X.lt W
 |[],W,h=>by rw[h.UN]
 |y::l,[],h=>by have:=h.len;simp at this
 |y::l,V::W,h=>by
  obtain⟨R,Q⟩:=h.cons;have O:(l.all λz=>X.lt y z||X.lt z y)=W.all λz=>X.lt V z||X.lt z V:=acp (λx N P=>by rw[aco R P,aco P R]) Q
  simp only[ym,anc Q,O]
def ane{sp:bu}{V:Bool}{l R r:ar}(h:gf l R)(X:jh sp V l=U r):∃Q,jh sp V R=U Q/\gf r Q:=by
 cases sp with
 |dD k o L=>simp[jh] at X
 |_=>
  simp only[jh] at X⊢;rw[acp (λx H P=>ay4 P) h,anc h,h.len] at X;split at X;rename_i O;cases X;rw[aL O];exact⟨_,rfl,anb h ⟨rfl,λi N M W=>by simp at W,λi j N M c G W=>by simp at W⟩⟩;cases X
def gf.getD{l X:ar}(h:gf l X)(i:Nat):oR (l.getD i []) (X.getD i []):=by
 simp only[cw];cases V:l[i]? with
 |none=>
  have:X[i]?=none:=by rw[Dc] at V⊢;have:=h.len;omega
  rw[this];exact⟨rfl,λj c W R=>by simp at R⟩
 |some c=>
  obtain⟨W,Q⟩:∃W,X[i]?=U W:=by
   have:i<Y l:=(cu.1 V).1;exact⟨X[i]'(by have:=h.len;omega),cP _⟩
  rw[Q];exact⟨h.row i c W V Q,λj x P R O=>h.cell i j c W x P V Q R O⟩
def gf.set{x X:aF}(W:oR x X):∀{l V:ar}(_:gf l V)(i:Nat),gf (l.set i x) (V.set i X)
 |[],[],h,_=>h
 |[],_::_,h,_=>by have:=h.len;simp at this
 |_::_,[],h,_=>by have:=h.len;simp at this
 |r::R,Q::P,h,0=>gf.FO W h.cons.2
 |r::R,Q::P,h,i+1=>gf.FO h.cons.1 (gf.set W h.cons.2 i)
def acq{l X:ar}(h:gf l X):∀(n:Nat)(i:Int),gf (rH n i l) (rH n i X)
 |0,_=>h
 |n+1,i=>by
  simp only[rH,<-(h.getD i.toNat).key 0];split;exact h;exact gf.set ((acq h n _).getD _) (acq h n _) _
def ay5{l X:ar}(h:gf l X):mB l=mB X:=by
 have e:(λk=>decide (0<=aM 0 (l.getD k []))&&decide (aM 0 (l.getD k [])<=k))=λk:Nat=>decide (0<=aM 0 (X.getD k []))&&decide (aM 0 (X.getD k [])<=k):=by
  funext k;rw[(h.getD k).key 0]
 unfold mB;rw[e,h.len]
def ay6{R:ai}(Q:lL N R)(W:bu)(V:Bool)(l:ar):oo N W V l=oo R W V l:=by
 cases W with
 |lex P d=>rfl
 |ratio n d=>rfl
 |dD k o X=>
  cases V with
  |false=>rfl
  |true=>
   cases X with
   |nil=>rfl
   |cons i X=>
    cases X with
    |nil=>simp only[oo,K.dO Q i]
    |cons j X=>rfl
def anf{Q:ai}(L:lL N Q){V:bu}{R:Bool}{l P r:ar}(h:gf l P)(X:oo N V R l=U r):∃M,oo Q V R P=U M/\gf r M:=by
 cases V with
 |lex H d=>exact ane (sp:=.lex H d) h X
 |ratio n d=>exact ane (sp:=.ratio n d) h X
 |dD k o W=>
  cases R with
  |false=>simp[oo] at X
  |true=>
   cases W with
   |nil=>simp[oo] at X
   |cons i W=>
    cases W with
    |nil=>
     simp only[oo,wv] at X⊢;rw[h.len,ay5 h,K.dO L i] at X;split at X;rename_i G;cases X;rw[aL G];exact⟨_,rfl,acq h _ _⟩;cases X
    |cons j W=>simp[oo] at X
def cU.eL{a b:RV}(h:cU a b){L:ai}(H:lL N L){W:bu}{V:Bool}{R Q:ar}(X:oo N W V a.ac=U R)(P:oo L W V b.ac=U Q):cU (.mk a.val R) (.mk b.val Q):=by
 obtain⟨x,G,M⟩:=anf H h.LL X;rw[P] at G;cases G;cases h with
 |sl A F D B z y aE w u t=>exact cU.sl A F D B z R Q M.len M.row M.cell
 |val v y s=>
  rw[RV.nN] at X P;rw[ay6 H W V,P] at X;cases X;exact cU.refl _
def ay7{R:Ty}{X:RV}{V:ar}(W:et R (.own h) (.mk X.val V) y)(Q:∀x∈V,x∈X.ac):et R (.own h) X y:=by
 obtain⟨v,P⟩:=X;simp only[RV.nM,RV.nN] at W Q;cases W with
 |own h X y W=>
  refine et.own h _ y ?_;generalize O:RV.mk v V=X at W;cases W with
  |here h a N M aE=>cases O;exact et.here h a N M P
  |deep h w aE i j L c z k y H G F D=>
   cases O;obtain⟨B,A⟩:=tO (Q _ (jK H));exact et.deep h v P B j L c z k y A G F D
mutual
def UO:RV->RV->Bool
 |.mk v X,.mk W aE=>(match v,W with
  |.int k a,.int V b=>decide (k=V)&&a==b
  |.bool a,.bool b=>a==b
  |.string a,.string b=>decide (a=b)
  |.slice Z a b,.slice Z c d=>a==c&&b==d
  |_,_=>E)&&LM X aE
def LM:ar->ar->Bool
 |[],[]=>J
 |r::X,W::V=>LN r W&&LM X V
 |_,_=>E
def LN:aF->aF->Bool
 |[],[]=>J
 |c::X,W::V=>UO c W&&LN X V
 |_,_=>E
end
def PV:XV->XV->Bool
 |.i a,.i b=>a==b
 |.b a,.b b=>a==b
 |.r a,.r b=>UO a b
 |_,_=>E
def PW:bv->bv->Bool
 |[],[]=>J
 |x::X,y::W=>PV x y&&PW X W
 |_,_=>E
def ang:Value->Value->Bool
 |.iface t (.int k a),.iface X (.int W b)=>t==X&&decide (k=W)&&a==b
 |_,_=>E
def UP:bq->bq->Bool
 |.ret a,.ret b=>PW a b
 |.bI a,.bI b=>ang a b
 |_,_=>E
mutual
def anh:∀(a b:RV),UO a b=J->a=b
 |.mk v X,.mk R aE,h=>by
  simp only[UO,aw] at h;have W:=ani X aE h.2;subst W;congr 1;have V:=h.1;split at V<;>simp_all
def ani:∀(a b:ar),LM a b=J->a=b
 |[],[],_=>rfl
 |[],_::_,h=>by simp[LM] at h
 |_::_,[],h=>by simp[LM] at h
 |r::X,W::V,h=>by
  simp only[LM,aw] at h;rw[anj r W h.1,ani X V h.2]
def anj:∀(a b:aF),LN a b=J->a=b
 |[],[],_=>rfl
 |[],_::_,h=>by simp[LN] at h
 |_::_,[],h=>by simp[LN] at h
 |r::X,W::V,h=>by
  simp only[LN,aw] at h;rw[anh r W h.1,anj X V h.2]
end
def ay8:∀(a b:XV),PV a b=J->a=b
 |.i a,b,h=>by cases b<;>simp[PV] at h;rw[h]
 |.b a,b,h=>by cases b<;>simp[PV] at h;rw[h]
 |.r a,b,h=>by cases b<;>simp[PV] at h;rw[anh _ _ h]
def ank:∀(a b:bv),PW a b=J->a=b
 |[],b,h=>by cases b<;>simp[PW] at h;rfl
 |x::X,b,h=>by cases b<;>simp[PW] at h;rw[ay8 _ _ h.1,ank _ _ h.2]
def ay9:∀(a b:bq),UP a b=J->a=b
 |.ret a,b,h=>by cases b<;>simp[UP] at h;rw[ank _ _ h]
 |.bI a,b,h=>by
  cases b<;>simp[UP] at h;rename_i v;unfold ang at h;split at h;simp only[aw,dK,ce] at h;obtain⟨⟨rfl,rfl⟩,rfl⟩:=h;rfl;cases h
open Classical in
def D0(a b:bq):Bool:=UP a b||decide (a=b)
def acr(o:bq):D0 o o=true:=by simp[D0]
def aza(a b:bq)(h:D0 a b=J):a=b:=by
 simp only[D0,jL,ce] at h;exact h.elim (ay9 a b) id
def B3:kK->kK->kK
 |U a,U b=>if D0 a b then U a else Z
 |_,_=>Z
def vd:List kK->kK
 |[]=>Z
 |[o]=>o
 |o::X=>B3 o (vd X)
def UQ{a b:kK}{o:bq}(h:B3 a b=U o):a=U o/\b=U o:=by
 unfold B3 at h;split at h;split at h;rename_i x y X;cases h;rw[aza _ _ X];exact⟨rfl,rfl⟩;cases h;cases h
def UR:∀{l:List kK}{o:bq},vd l=U o->∀x∈l,x=U o
 |[],o,h=>by simp[vd] at h
 |[x],o,h=>by simp only[vd] at h;intro y W;simp at W;rw[W];exact h
 |x::y::r,o,h=>by
  simp only[vd] at h;obtain⟨V,R⟩:=UQ h;intro z X;rcases dV.1 X with rfl|X;exact V;exact UR (l:=y::r) R z X
def anl{a b X W:kK}{o:bq}(h:B3 a b=U o)(Q:a=U o->X=U o)(P:b=U o->W=U o):B3 X W=U o:=by
 obtain⟨V,R⟩:=UQ h;rw[V,R] at h;rw[Q V,P R];exact h
def anm{X:Type}{l:List X}{f g:X->kK}{o:bq}(h:vd (l.map f)=U o)(V:∀x∈l,f x=U o->g x=U o):vd (l.map g)=U o:=by
 rw[<-h];congr 1;refine jA λx W=> ?_
 have:=UR h (f x) (iD.2 ⟨x,W,rfl⟩);rw[this,V x W this]
def yw(m:K)(g h:BE)(O:ai):List (Option Int):=(((e8 (m.ab O).toNat).map λ(j:Nat)=>(j:Int)).filter λj=>g.ab (O.add (.i j))).map U++(if h.ab O then[Z] else[])
def azb{m:K}{g h:BE}{j:Int}(W:0<=j)(V:j<m.ab N)(X:g.ab (N.add (.i j))=J):U j∈yw m g h N:=by
 simp only[yw,eW,iD,qE,uO];exact .inl ⟨j,⟨⟨j.toNat,aa,aa⟩,X⟩,rfl⟩
def azc{m:K}{g h:BE}(X:h.ab N=J):Z∈yw m g h N:=by
 simp[yw,X]
def run(V:Ty)(R Q:FuncId->sC)(bB:nQ)(P:j5):Nat->T->ai->bz->List Fr->kK
 |0,_,_,_,_=>Z
 |n+1,.ret v _ N,O,X,_=>if DY X N then ack V P v N O else Z
 |n+1,.bI v,O,_,_=>(Iv O v).map .bI
 |n+1,.aV b t f,O,X,W=>if b.ab O then run V R Q bB P n t O X W else run V R Q bB P n f O X W
 |n+1,.bi b t,O,X,W=>if b.ab O then run V R Q bB P n t O X W else Z
 |n+1,.call f F _ N M jM t,O,X,W=>if DY X N then(match acl V R Q f F N M jM O with
   |U D=>match bB f D with
    |U (.ret H)=>if kz M H then run V R Q bB P n t (O.ext H) (X++jT M) W else Z
    |U (.bI v)=>U (.bI v)
    |none=>Z
   |none=>Z) else Z
 |n+1,.loop ax M G t,O,X,W=>if ln V X M G then run V R Q bB P n t (O.ext (G.map (C.xv O))) (X++jT M) (⟨ax,M,t,O,X++jT M⟩::W) else Z
 |n+1,.back ax x,O,X,W=>match Iw ax W with
  |U (L,B)=>if ln V X L.ks x then run V R Q bB P n L.t (L.O.ext (x.map (C.xv O))) L.rs (L::B) else Z
  |none=>Z
 |n+1,.ac k x _ t,O,X,W=>if acn k then run V R Q bB P n t (O.add (.r (gI x O))) (X++[k]) W else Z
 |n+1,.gQ g h t f,O,X,W=>if g.ab O then(if h.ab O then B3 (run V R Q bB P n t O X W) (run V R Q bB P n f O X W) else run V R Q bB P n t O X W) else(if h.ab O then run V R Q bB P n f O X W else Z)
 |n+1,.pick m g h t f,O,X,W=>vd ((yw m g h O).map λj=>match j with
  |U j=>run V R Q bB P n t (O.add (.i j)) X W
  |none=>run V R Q bB P n f O X W)
 |n+1,.eL _ _ e A z r N t,O,X,W=>if DZ X N&&acm X r e then(match oo O A z (r.rv O).ac with
  |U y=>run V R Q bB P n t (O.add (.r (.mk (r.rv O).val y))) (X++[.own e]) W
  |none=>Z) else Z
 |n+1,.new e x N _ t,O,X,W=>if DZ X N then run V R Q bB P n t (O.add (.r (gI x O))) (X++[.own e]) W else Z
 |_,_,_,_,_=>Z
end
def PY{X:World}(h:im [] e X):Below e.heap.size e X:=⟨h.os,h.tape,h.output,h.size,λk W=>h.block k W av⟩
def azd{b c:World}(h:Below e.heap.size e b)(k:Below b.heap.size b c):Below e.heap.size e c:=h.trans (k.mono h.size)
def qa:aU->bv->gG
 |k::X,x::W=>x.at k::qa X W
 |_,_=>[]
def wH(u:Ty):j5->gG->gG
 |[],_=>[]
 |t::W,l=>match u t with
  |U X=>(if X.d.isAgg then .agg (l.take (Y X.aj)).toArray else l.getD 0 undef)::wH u W (l.drop (Y X.aj))
  |none=>[]
def Ix:gG->Value
 |[v]=>v
 |l=>.tuple l.toArray
def ann{u:Ty}:∀{X:j5}{W l:ap},kA u X W=U l->Y X=Y W
 |[],[],l,_=>rfl
 |[],_::_,l,h=>by simp[kA] at h
 |_::_,[],l,h=>by simp[kA] at h
 |t::X,v::W,l,h=>by
  simp only[kA] at h;split at h;rename_i R r Q V;simp[ann V];cases h
def US{u:Ty}{O:ai}{V:aq}:∀{W:j5}{R l:ap},kA u W R=U l->C.aG O V R=wH u W (C.aG O V l)
 |[],[],l,_=>rfl
 |[],_::_,l,h=>by simp[kA] at h
 |_::_,[],l,h=>by simp[kA] at h
 |t::W,v::R,l,h=>by
  simp only[kA] at h;split at h;rename_i H r M L;have N:=US (O:=O) (V:=V) L;simp only[wH,M];split at h;rename_i Q;rw[aL Q];split at h;rename_i F;split at h;rename_i X;simp only[dK] at X;cases h;rw[TC,<-X,List.take_left' av,ZN av,<-N];simp only[C.aG,C.ab];cases h;cases h;rename_i Q;rw[aT Q];split at h;rename_i X;simp only[dK] at X;cases h;rw[X];simp only[C.aG,Hl,List.drop_succ_cons,avL,<-N];cases h;cases h
def ano{u:Ty}{R:j5}{X:C}(h:kA u R (Ap (Y R) X)=U v):X.ab N x=Ix (wH u R (C.aG N x v)):=by
 have Q:=ann h;rw[<-US h];cases X
 case bO H=>
  simp only[Ap] at Q⊢;by_cases M:Y R==1;simp[M,C.aG,Ix];simp only[M,gw,jB] at Q⊢;have L:Y H≠1:=by rw[<-Q];simpa using M
  match H,L with
  |[],_=>simp[C.aG,Ix,C.ab]
  |[W],L=>simp at L
  |W::y::z,_=>simp[C.aG,Ix,C.ab]
 all_goals simp[Ap,C.aG,Ix]
def aze{u:Ty}{O:ai}{V:aq}{X:LK}{v:C}(h:FP u k X v=J):v.ab O V=(v.xv O).at X/\sI X (v.xv O):=by
 unfold FP at h;split at h;rename_i X W e;simp at h;subst h;exact⟨rfl,trivial⟩;exact⟨rfl,trivial⟩;exact⟨rfl,trivial⟩;cases h
def LO{u:Ty}{W:bz}{O:ai}{V:aq}:∀{X:aU}{l:ap},ln u W X l=J->C.aG O V l=qa X (l.map (C.xv O))/\eY X (l.map (C.xv O))
 |[],[],_=>⟨rfl,trivial⟩
 |[],_::_,h=>by simp[ln] at h
 |_::_,[],h=>by simp[ln] at h
 |k::X,v::l,h=>by
  simp only[ln,aw] at h;obtain⟨R,Q⟩:=aze (O:=O) (V:=V) h.1;obtain⟨N,M⟩:=LO (O:=O) (V:=V) h.2;exact⟨by simp only[C.aG,dU,qa,R,N],Q,M⟩
def azf{W:aU}{X:bv}(h:kz W X=J):eY W X:=by
 induction W generalizing X with
 |nil=>cases X with
  |nil=>trivial
  |cons=>simp[kz] at h
 |cons k W V=>cases X with
  |nil=>simp[kz] at h
  |cons x X=>
   simp only[kz,aw] at h;refine⟨?_,V h.2⟩;cases k<;>cases x<;>first|trivial|simp[acj] at h
def UT:∀{X:aU}{W V:bv},eY X V->BZ W V->eY X W
 |[],[],[],_,_=>trivial
 |[],_::_,[],_,h=>h.elim
 |[],_,_::_,h,_=>h.elim
 |_::_,_,[],h,_=>h.elim
 |_::_,[],_::_,_,h=>h.elim
 |k::X,x::W,y::V,h,R=>by
  refine⟨?_,UT h.2 R.2⟩;have Q:=h.1;have O:=R.1;cases k<;>cases x<;>cases y<;>simp_all[sI,LJ]
def PZ{O X:ai}(h:lL O X):∀l:ap,BZ (l.map (C.xv O)) (l.map (C.xv X))
 |[]=>trivial
 |v::l=>⟨C.ay2 h v,PZ h l⟩
def P0{V:aq}:∀{R:aU}{l:ap}{X:bv}{O:ai}{a b c:Nat},sN a b c R l=J->eY R X->Y O.i=a->Y O.b=b->Y O.r=c->C.aG (O.ext X) V l=qa R X
 |[],[],[],O,a,b,c,_,_,_,_,_=>rfl
 |[],[],_::_,O,a,b,c,_,h,_,_,_=>h.elim
 |[],_::_,X,O,a,b,c,h,_,_,_,_=>by simp[sN] at h
 |k::R,[],X,O,a,b,c,h,_,_,_,_=>by cases k<;>simp[sN] at h
 |_::_,_::_,[],O,a,b,c,_,h,_,_,_=>h.elim
 |k::R,v::l,x::X,O,a,b,c,h,B,Q,N,M=>by
  have H:=Fu X (O.add x);obtain⟨F,D⟩:=B;simp only[C.aG,ai.ext,qa];unfold sN at h;split at h;rename_i W;cases W;rename_i W L;cases W;cases L;cases x<;>simp[sI] at F;simp only[aw,ce,dK] at h;obtain⟨⟨rfl,rfl⟩,h⟩:=h;rw[P0 h D (by simp[ai.add,Q]) (by simp[ai.add,N]) (by simp[ai.add,M])];simp only[C.ab,K.ab,XV.at];rw[H.i _ (by simp[ai.add,Q])];simp[ai.add,<-Q];rename_i W L;cases W;cases L;cases x<;>simp[sI] at F;simp only[aw,dK] at h;obtain⟨rfl,h⟩:=h;rw[P0 h D (by simp[ai.add,Q]) (by simp[ai.add,N]) (by simp[ai.add,M])];simp only[C.ab,BE.ab,XV.at];rw[H.b _ (by simp[ai.add,N])];simp[ai.add,<-N];rename_i W L;cases W;cases L;cases x<;>simp[sI] at F;simp only[aw,dK] at h;obtain⟨rfl,h⟩:=h;rw[P0 h D (by simp[ai.add,Q]) (by simp[ai.add,N]) (by simp[ai.add,M])];simp only[C.ab,RE.ab,RE.rv,XV.at];rw[H.r _ (by simp[ai.add,M])];simp[ai.add,ai.rv,<-M];cases h
def azg{u:Ty}{s:S}{r:RE}{e:RK}(M:e≠ .ae)(h:r.kind u s=e)(W:et u e (r.rv N) y):N.qM u s.rs y:=by
 obtain⟨V,R,H,Q,X⟩:=TV M h W;rcases X with⟨rfl,X⟩|⟨t,X,L⟩;exact⟨V,R,Q,TU (by rw[X];exact W)⟩;exact⟨V,R,Q,K4 X L⟩
def anp{u:Ty}{e:RK}{X:RV}(h:et u e X y):et u e.rd X y:=by
 cases h with
 |own e X y h=>exact h
 |here e a V R W=>exact et.here e a V R W
 |deep e v W i j Q c z k y O N M L=>exact et.deep e v W i j Q c z k y O N M L
def Aq(u:Ty)(W:aU)(V:bv)(b:Nat):Prop:=∃(q:Nat)(e:RK)(X:RV),W[q]?=U (.ah e)/\V[q]?=U (.r X)/\et u e X b
def anq{u:Ty}{R:bz}:∀{W:aU}{l:ap},ln u R W l=J->∀(q:Nat)(k:LK)(v:C),W[q]?=U k->l[q]?=U v->FP u R k v=J
 |[],_,_,q,k,v,X,_=>by simp at X
 |_::_,[],h,q,k,v,_,_=>by simp[ln] at h
 |Q::W,O::l,h,0,k,v,X,V=>by simp only[ln,aw] at h;simp at X V;subst X V;exact h.1
 |Q::W,O::l,h,q+1,k,v,X,V=>by simp only[ln,aw] at h;exact anq h.2 q k v (by simpa using X) (by simpa using V)
def anr{u:Ty}{Q:aU}(h:ln u k Q v=J){e:RK}{M:RV}(H:Q[y]?=U (.ah e))(W:(v.map (C.xv N))[y]?=U (.r M)):
  ∃r:RE,((∃L,e=.mr L/\r.o8 u ⟨[],[],0,0,k,0,0,[]⟩ L=J)\/r.fits u ⟨[],[],0,0,k,0,0,[]⟩ e.rd=J)/\M=r.rv N:=by
 rw[dS] at W;cases R:v[y]? with
 |none=>rw[R] at W;cases W
 |some X=>
  rw[R] at W;have:=anq h y _ X H R;unfold FP at this;split at this;rename_i V;cases V;rename_i V;cases V;rename_i V;cases V;simp only[eh,cX,C.xv,XV.r.injEq] at W;refine⟨_, ?_,W.symm⟩;split at this;exact .inl ⟨_,rfl,this⟩;exact .inr this;cases this
def P1{u:Ty}{W:aU}(h:ln u k W v=J)(Q:Aq u W (v.map (C.xv N)) y):N.qM u k y:=by
 obtain⟨q,e,D,M,L,V⟩:=Q;obtain⟨r,X,rfl⟩:=anr h M L;rcases X with⟨B,rfl,-⟩|X;cases V;have R:=anp V;obtain⟨H,F⟩:=aaU (O:=N) X R;exact azg (s:=⟨[],[],0,0,k,0,0,[]⟩) F H R
def Ar(u:Ty)(W:World)(V:aU)(R:bv):Prop:=∀(q:Nat)(e:RK)(X:RV),V[q]?=U (.ah e)->R[q]?=U (.r X)->bJ W u e X
def ant{u:Ty}{W:World}{B:Nat}{old:Nat->Prop}:∀{V:aU}{X:bv},Ar u W V X->(∀b,Aq u V X b->B<=b\/old b)->KM u W B old V X
 |[],X,_,_=>by cases X<;>trivial
 |_::_,[],_,_=>trivial
 |k::V,x::X,h,N=>by
  refine⟨?_,ant (λq e R Q O=>h (q+1) e R (by simpa using Q) (by simpa using O)) (λb ⟨q,e,R,Q,O,M⟩=>N b ⟨q+1,e,R,by simpa using Q,by simpa using O,M⟩)⟩;cases k<;>cases x<;>try trivial
  exact⟨h 0 _ _ rfl rfl,λb L=>N b ⟨0,_,_,rfl,rfl,L⟩⟩
def UU(D W:World):eN D cq.none [] [] [] W:=⟨rfl,rfl,λn l r X h=>by simp[cq.none] at h,λn V l r R h=>by simp[cq.none] at h,[],rfl,λ_=>rfl,by simp[cq.none],λd h=>by simp[cq.none] at h⟩
def j7.UV{V:aq}{H:bG}{u:Ty}{W:World}(R:j7 x e V N H u k W)(F:Y N.r=Y k)(B:∀(X:Nat)(t:TypeId),k[X]?≠U (.own t)):az x e cq.none u [] (N.at []) ⟨[],[],Y N.i,Y N.b,k,0,0,[]⟩ ⟨#[],[]⟩ W:=
 ⟨⟨R.base,λi h=>by simp[aP,cY] at h,λi j h=>by simp[aP,cY] at h,λi t y h=>by simp[cY] at h,λX Q L M A=>⟨(R.ah X Q L M A).1,λb w i z=>by simp[aP,cY] at z⟩⟩,rfl,rfl,rfl,F,UU _ _,rfl,λt v h=>by simp at h,λX Q L b M=>aZ M (B X Q)⟩
def UW:∀{l W:bz},DY l W=J->qN l W/\∀(k:Nat)(t:TypeId),W[k]?≠U (.own t)
 |[],[],_=>⟨qN.refl _,λk t h=>by simp at h⟩
 |[],_::_,h=>by simp[DY] at h
 |_::_,[],h=>by simp[DY] at h
 |x::N,y::M,h=>by
  simp only[DY,aw] at h;obtain⟨V,Q⟩:=UW h.2;have R:rK x y/\∀t,y≠ .own t:=by
   have L:=h.1;cases x<;>cases y<;>simp_all[UM,rK]
  refine⟨⟨by simp[V.len],λk O X=> ?_⟩,λk t X=> ?_⟩;cases k with
  |zero=>simp at X;subst X;exact⟨x,rfl,R.1⟩
  |succ k=>exact V.get k O (by simpa using X)
  cases k with
  |zero=>simp at X;exact R.2 t X
  |succ k=>exact Q k t (by simpa using X)
def azh{e:RK}(h:HZ (.ah e)=J):e.rd=e:=by cases e<;>simp[HZ] at h<;>rfl
def acs{u:Ty}{W:bz}(h:qN k W)(V:N.qM u W y):N.qM u k y:=by
 obtain⟨X,e,R,Q⟩:=V;obtain⟨M,L,H⟩:=h.get X e R;exact⟨X,M,L,Q.mX H⟩
def anu:∀{l W:bz},DZ l W=J->qN l W
 |[],[],_=>qN.refl _
 |[],_::_,h=>by simp[DZ] at h
 |_::_,[],h=>by simp[DZ] at h
 |x::O,y::N,h=>by
  simp only[DZ,aw] at h;have V:=anu h.2;have R:rK x y:=by
   have M:=h.1;cases x<;>cases y<;>simp_all[UM,am8,rK]
  refine⟨by simp[V.len],λk Q X=> ?_⟩;cases k with
  |zero=>simp at X;subst X;exact⟨x,rfl,R⟩
  |succ k=>exact V.get k Q (by simpa using X)
def anv{V:aq}{z:bG}{u:Ty}{W:World}(R:j7 x e V N z u k W)(H:Y N.r=Y k)(F:∀(X:Nat)(t:TypeId),k[X]?≠U (.own t)){L:aU}(h:ln u k L v=J)(y:qJ L=J):Ar u W L (v.map (C.xv N)):=by
 intro q Q p B w;obtain⟨r,M,rfl⟩:=anr h B w;rcases M with⟨A,rfl,M⟩|M;simp only[RE.o8,jL,ce] at M;rcases M with M|M;have:=sK (R.UV H F) (e:=.mr A) (r:=r) av (by
  rw[DQ (s:=⟨[],[],Y N.i,Y N.b,k,0,0,[]⟩) (s':=⟨[],[],0,0,k,0,0,[]⟩) rfl r];exact M)
 rwa [RE.nf] at this
 unfold RE.nil at M;split at M;exact bJ.mr A [] av av av av;cases M;have:=aku (R.UV H F) (k:=Q.rd) (r:=r) (by
  unfold RE.fits at M⊢;rw[DQ (s:=⟨[],[],Y N.i,Y N.b,k,0,0,[]⟩) (s':=⟨[],[],0,0,k,0,0,[]⟩) rfl r];exact M)
 rwa [azh (Ug y B),RE.nf] at this
def Iy(u:Ty)(B:Nat)(old:Nat->Prop)(O:ai)(X:bz):Prop:=∀b,O.qM u X b->B<=b\/old b
def UX:∀(X:aU)(s:S),(s.cT X).2.rs=s.rs++jT X
 |[],s=>by simp[S.cT,jT]
 |k::X,s=>by
  simp only[S.cT];rw[UX X];cases k<;>simp[S.fresh,jT]
def P2{X:aU}{W:bv}(V:eY X W)(R:Y N.r=Y k):(N.ext W).r.length=(k++jT X).length:=by
 have:=(Ah X W ⟨[],[],Y N.i,Y N.b,k,0,0,[]⟩ N V rfl rfl R).2.2
 rwa [UX] at this
def Iy.ext{u:Ty}{B:Nat}{old:Nat->Prop}{O:ai}{V:bz}(h:Iy u B old O V){R:aU}{X:bv}(L:eY R X)(H:Y O.r=Y V)(D:∀b,Aq u R X b->B<=b\/old b):Iy u B old (O.ext X) (V++jT R):=by
 intro b ⟨k,e,F,A⟩;have z:k<(O.ext X).r.length:=by rw[P2 L H];exact(cu.1 F).1
 have y:(O.ext X).r[k]?=U ((O.ext X).rv k):=by simp[ai.rv,z]
 have:=Im (PP:=λe W=>∀b,et u e W b->B<=b\/old b) R X ⟨[],[],Y O.i,Y O.b,V,0,0,[]⟩ O L H
  (λq e W N Q b M=>D b ⟨q,e,W,N,Q,M⟩) (λk e W N Q b M=>h b ⟨k,e,N,by
   have x:k<Y O.r:=(cu.1 Q).1;have:O.rv k=W:=by simp[ai.rv,Q]
   rw[this];exact M⟩)
 rw[UX] at this;exact this k e _ F y b A
def P3(u:Ty)(H:j5)(X:aU)(D:World)(d:aU)(F:bv)(out:bq):Ending->World->Prop
 |.returned v,V=>∃R W,out=.ret R/\BZ R W/\eY X W/\v=Ix (wH u H (qa X W))/\Below D.heap.size D V/\Ar u V X W/\∀b,Aq u X W b->D.heap.size<=b\/Aq u d F b
 |.panicked Q,V=>Below D.heap.size D V/\∃v,out=.bI v/\Q=[{v:=v,recovered:=E}]
 |.outgrown,_=>False
def D4(P:Program)(u:Ty)(M Q:FuncId->sC)(G:World->Prop)(f:FuncId)(F:bv->kK):Prop:=
 ∀R H d X,M f=U R->Q f=U H->iO u R=U d->iO u H=U X->∀(O V:bv)(out:bq),F O=U out->BZ O V->eY d V->∀W,G W->Ar u W d V->
  Calls P f (wH u R (qa d V)).toArray W (P3 u H X W d V out)
section
variable{P:Program}{u:Ty}{M Q:FuncId->sC}{bB:nQ}{G:World->Prop}{D:World}{H:j5}{X d:aU}{F:bv}{out:bq}{old:Nat->Prop}
def LP(P:Program)(u:Ty)(D:World)(H:j5)(X d:aU)(F:bv)(out:bq):Sp:=⟨P,u,[],D,cq.none,P3 u H X D d F out,λ_ _ _=>False⟩
def P4(u:Ty)(M Q:FuncId->sC)(bB:nQ)(H:j5)(out:bq)(X:Fr)(V:List Fr)(R:bv)(n:Nat):Prop:=∃W,BZ W R/\run u M Q bB H n X.t (X.O.ext W) X.rs (X::V)=U out
def IOf(u:Ty)(M Q:FuncId->sC)(bB:nQ)(D:World)(H:j5)(old:Nat->Prop)(out:bq)(X:Fr)(V:List Fr)(N:Nat)(W:bv):Prop:=
 (∀b,Aq u X.ks W b->D.heap.size<=b\/old b)/\∃n,n<=N/\P4 u M Q bB H out X V W n
def acv(W:World)(V:List PanicEntry)(R:World)(b:Nat)(o:Obj)(O:W.heap.size<=b)(h:P3 u H X W d F out (.panicked V) R):P3 u H X W d F out (.panicked V) (R.putObj b o):=
 ⟨⟨h.1.os,h.1.tape,h.1.output,by have:=h.1.size;simpa[Hv] using this,λk Q=>(uM aa).trans (h.1.block k Q)⟩,h.2⟩
def azi{p:Nat->Prop}:∀{n:Nat},p n->∃m,p m/\m<=n/\∀k,p k->m<=k:=by
 intro n;induction n using SX with
 |ind n V=>
  intro h;by_cases W:∃k,k<n/\p k;obtain⟨k,X,R⟩:=W;obtain⟨m,Q,M,O⟩:=V k X R;exact⟨m,Q,aa,O⟩;exact⟨n,h,bY _,λk X=>by by_cases N:k<n;exact aZ ⟨k,N,X⟩ W;omega⟩
open Classical in
noncomputable def LQ(p:Nat->Prop):Nat:=if h:∃m,p m/\∀k,p k->m<=k then Classical.choose h else 0
def anw{p:Nat->Prop}(h:p y):p (LQ p)/\LQ p<=y:=by
 obtain⟨m,W,R,V⟩:=azi h;have X:∃m,p m/\∀k,p k->m<=k:=⟨m,W,V⟩;unfold LQ;rw[dif_pos X];exact⟨(Classical.choose_spec X).1,(Classical.choose_spec X).2 y h⟩
inductive wI(u:Ty)(M Q:FuncId->Option (List TypeId))(bB:nQ)(D:World)(H:List TypeId)(old:Nat->Prop)(out:bq):Nat->List Fr->List LC->Prop where
 |nil (n:Nat):wI u M Q bB D H old out n [] []
 |cons (n N m:Nat) (fr:Fr) (st:List Fr) (L:List LC):n<=m->m<=N->wI u M Q bB D H old out n st L->
   wI u M Q bB D H old out n (fr::st) (⟨fr.ax,IOf u M Q bB D H old out fr st N,λxs=>LQ (P4 u M Q bB H out fr st xs),m⟩::L)
def wI.mono{W:Nat}{X:List Fr}(h:wI u M Q bB D H old out y X b)(O:W<=y):wI u M Q bB D H old out W X b:=by
 induction h with
 |nil=>exact wI.nil _
 |cons N m F X b B V A R=>exact wI.cons _ _ _ _ _ _ aa V R
def wI.find{ax:Nat}{V R:List Fr}{W:Fr}(h:wI u M Q bB D H old out y V b)(X:Iw ax V=U (W,R)):
  ∃N m,y<=m/\m<=N/\oP ax b=U ⟨W.ax,IOf u M Q bB D H old out W R N,λF=>LQ (P4 u M Q bB H out W R F),m⟩:=by
 induction h with
 |nil=>simp[Iw] at X
 |cons N m r V b B A q z=>
  simp only[Iw] at X;split at X;rename_i O;cases X;exact⟨N,m,B,A,by simp[oP,O]⟩;rename_i O;obtain⟨x,w,v,t,s⟩:=z X;exact⟨x,w,v,t,by simp only[oP,O,gw];exact s⟩
def azj(bg:∀f,D4 P u M Q G f (bB f))(hG:∀W W',Below W.heap.size W W'->G W->G W')(bk:G D)(bl:iO u H=U X)(br:∀ys b,Aq u X ys b->old b->Aq u d F b):
  ∀(n:Nat)(t:T)(a O:ai)(B:bz)(st:List Fr)(L:dG),run u M Q bB H n t a B st=U out->lL a O->Y O.r=Y B->Iy u D.heap.size old O B->wI u M Q bB D H old out n st L->
   t.aS (LP P u D H X d F out) O L:=by
 intro n;induction n using SX with
 |ind n IH=>
  intro t a O B st L h R w q hC;cases n with
  |zero=>simp[run] at h
  |succ n=>
   cases t with
   |out e s=>simp[run] at h
   |stuck m=>simp[run] at h
   |ret v bx aA=>
    simp only[run] at h;split at h;rename_i he;obtain⟨hw,a3⟩:=UW he;unfold ack at h;split at h;rename_i l ks hl hk;rw[bl] at hk;cases hk;split at h;rename_i af;cases h;simp only[aw] at af;obtain⟨af,bs⟩:=af;intro y V W hR;have R:lL a (O.at y):=⟨R.i,R.b,R.len,R.r⟩;have w:(O.at y).r.length=Y B:=w;have q:Iy u D.heap.size old (O.at y) B:=q;generalize O.at y=O at R w q hR⊢;obtain⟨h1,h2⟩:=LO (O:=O) (V:=V) af;refine⟨_,l.map (C.xv O),rfl,PZ R l,h2,by rw[ano hl,h1],PY hR.base,anv hR (w.trans hw.len.symm) a3 af bs,λb p=>(q b (acs hw (P1 af p))).imp id (br _ b p)⟩;cases h;cases h;cases h
   |bI v=>
    simp only[run,SL] at h;obtain⟨pv,hv,rfl⟩:=h;intro y V W hO;have R:lL a (O.at y):=⟨R.i,R.b,R.len,R.r⟩;refine⟨PY hO,pv,rfl, ?_⟩;unfold Iv at hv;split at hv;cases hv;simp only[C.ab,K.dO R];cases hv
   |aV b t f=>
    simp only[run] at h;rw[BE.dO R] at h;refine⟨λp=> ?_,λp=> ?_⟩;rw[aL p] at h;exact IH n aa t a O B st L h R w q (hC.mono aa);rw[aT (by simp[p])] at h;exact IH n aa f a O B st L h R w q (hC.mono aa)
   |bi b t=>
    simp only[run] at h;rw[BE.dO R] at h;split at h;rename_i p;exact⟨p,IH n aa t a O B st L h R w q (hC.mono aa)⟩;cases h
   |call f co bx aA ks jM t=>
    simp only[run] at h;split at h;rename_i he;obtain⟨hw,a3⟩:=UW he;split at h;rename_i cs hx;unfold acl at hx;split at hx;rename_i ps bt b0 b1;split at hx;rename_i l b2 b3 r hl b4 b5 b6;split at hx;rename_i hc;simp only[aw,ce] at hc;obtain⟨⟨⟨c1,cp⟩,rfl⟩,c3⟩:=hc;cases hx;intro y V W hR;have aC:lL a (O.at y):=⟨R.i,R.b,R.len,R.r⟩;have ct:Iy u D.heap.size old (O.at y) B:=q;obtain⟨a1,a2⟩:=LO (O:=O.at y) (V:=V) c1;have hB:=PY hR.base;have b7:=anv hR (w.trans hw.len.symm) a3 c1 cp;rw[US hl,a1];cases ho:bB f (l.map (C.xv a)) with
    |none=>rw[ho] at h;cases h
    |some o=>
     rw[ho] at h;refine(bg f ps bt b2 b3 b0 b1 b4 b5 _ _ o ho (PZ aC l) a2 W (hG _ _ hB bk) b7).mono ?_;intro e W' hE;cases e with
     |outgrown=>exact hE.elim
     |panicked ch=>
      obtain⟨e1,pv,rfl,rfl⟩:=hE;simp only[cX] at h;subst h;exact⟨e1,azd hB e1,pv,rfl,rfl⟩
     |returned v=>
      obtain⟨yh,ys,rfl,e2,e3,rfl,e5,e6,e7⟩:=hE;rw[show C.xv (O.at y)=C.xv O from funext (C.abT O y)] at e7;simp only at h;split at h;rename_i cv;refine⟨ys,e3, ?_,e5,ant e6 (λb p=>(e7 b p).imp id (λb8=>P1 c1 b8)), ?_⟩;rw[<-PG,ano b6,P0 c3 e3 (by rw[aC.i]) (by rw[aC.b]) (by rw[aC.len])];refine IH n aa t _ _ _ st L h (R.ext e2) (P2 e3 w) (q.ext e3 w (λb p=> ?_)) (hC.mono aa);rcases e7 b p with h1|h1;exact .inl (pO hB.size h1);exact q b (acs hw (P1 c1 h1));cases h
    cases hx;cases hx;cases hx;cases h;cases h
   |loop ax ks x0 t=>
    simp only[run] at h;split at h;rename_i af;have cx:=(LO (O:=O) (V:=[]) af).2;refine⟨IOf u M Q bB D H old out ⟨ax,ks,t,a,B++jT ks⟩ st n,λxs=>LQ (P4 u M Q bB H out ⟨ax,ks,t,a,B++jT ks⟩ st xs),⟨λb p=>q b (P1 af p),n,bY _,x0.map (C.xv a),PZ R x0,h⟩, ?_⟩;intro xs hf ⟨i1,n1,i2,i3⟩;obtain⟨⟨xh,j1,j2⟩,j3⟩:=anw i3;refine IH _ aa t _ _ _ _ _ j2 (R.ext j1) (P2 hf w) (q.ext hf w i1) ?_;exact wI.cons _ _ _ _ _ _ (bY _) (pO j3 i2) (hC.mono aa);cases h
   |back ax x=>
    simp only[run] at h;split at h;rename_i fr ca cc;split at h;rename_i af;obtain⟨N,m,g1,g2,g3⟩:=hC.find cc;simp only[T.aS,g3];have a9:P4 u M Q bB H out fr ca (x.map (C.xv O)) n:=⟨x.map (C.xv a),PZ R x,h⟩;refine⟨⟨λb p=>q b (P1 af p),n,aa,a9⟩, ?_⟩;have:=(anw a9).2;omega;cases h;cases h
   |new e x aA cy t=>
    simp only[run] at h;split at h;rename_i he;have hw:=anu he;intro rv ba;obtain⟨A,m,c,rfl,hm⟩:=ba.val;subst hm;refine IH n aa t _ _ _ st L h (R.add (am7 R x)) (by simp[ai.add,w]) ?_ (hC.mono aa);intro b ⟨k,e',hk,hl⟩;by_cases ag:k<Y B;rw[dN ag] at hk;refine q b ⟨k,e',hk, ?_⟩;have:(O.add (.r (.mk (.slice A (x.ac O).length c) (x.ac O)))).rv k=O.rv k:=by simp[ai.rv,ai.add,dN,w,ag]
    rw[<-this];exact hl;have an:k=Y B:=by
     have:=(cu.1 hk).1;simp at this;omega
    subst an;simp at hk;subst hk;have e1:(O.add (.r (.mk (.slice A (x.ac O).length c) (x.ac O)))).rv (Y B)=.mk (.slice A (x.ac O).length c) (x.ac O):=by rw[<-w];simp[ai.rv,ai.add]
    rw[e1] at hl;have cf:=anp hl;rcases ba.qM b cf with g|g|g;exact .inl g;cases g;exact q b (acs hw g);cases h
   |ac k x aA t=>
    simp only[run] at h;split at h;rename_i he;refine IH n aa t _ _ _ st L h (R.add (am7 R x)) (by simp[ai.add,w]) ?_ (hC.mono aa);intro b ⟨k',e',hk,hl⟩;by_cases ag:k'<Y B;rw[dN ag] at hk;refine q b ⟨k',e',hk, ?_⟩;have:(O.add (.r (gI x O))).rv k'=O.rv k':=by simp[ai.rv,ai.add,dN,w,ag]
    rw[<-this];exact hl;have an:k'=Y B:=by
     have:=(cu.1 hk).1;simp at this;omega
    subst an;simp at hk;subst hk;cases k<;>simp[acn] at he;cases hl;cases h
   |gQ g h' t f=>
    simp only[run] at h;rw[BE.dO R,BE.dO R] at h;refine⟨λp=> ?_,λp=> ?_⟩;rw[aL p] at h;split at h;exact IH n aa t a O B st L (UQ h).1 R w q (hC.mono aa);exact IH n aa t a O B st L h R w q (hC.mono aa);simp only[p,cS] at h;split at h;exact IH n aa f a O B st L (UQ h).2 R w q (hC.mono aa);exact IH n aa f a O B st L h R w q (hC.mono aa)
   |pick m g h' t f=>
    simp only[run] at h;refine⟨λj h1 h2 h3=> ?_,λp=> ?_⟩;have bb:lL (a.add (.i j)) (O.add (.i j)):=R.add (x:=.i j) (y:=.i j) rfl;have hj:=UR h _ (iD.2 ⟨U j,azb (g:=g) (h:=h') h1 (by rw[K.dO R];exact h2) (by rw[BE.dO bb];exact h3),rfl⟩);exact IH n aa t _ _ B st L hj bb w q (hC.mono aa);have hj:=UR h _ (iD.2 ⟨Z,azc (m:=m) (g:=g) (h:=h') (by rw[BE.dO R];exact p),rfl⟩);exact IH n aa f _ _ B st L hj R w q (hC.mono aa)
   |eL f g e sp sb r aA t=>
    simp only[run] at h;split at h;rename_i he;simp only[aw] at he;obtain⟨he,a0⟩:=he;have bc:=RE.dO R r;split at h;rename_i cl bd;obtain⟨al,a4,cA⟩:=anf R bc.LL bd;refine⟨al,ajQ a4, ?_⟩;have bf:=abj (ajQ a4);have cn:cU (.mk (r.rv a).val cl) (.mk (r.rv O).val al):=bc.eL R bd a4;refine IH n aa t _ _ _ st L h (R.add cn) (by simp[ai.add,w]) ?_ (hC.mono aa);intro b ⟨k,e',hk,hl⟩;by_cases ag:k<Y B;rw[dN ag] at hk;refine q b ⟨k,e',hk, ?_⟩;have:(O.add (.r (.mk (r.rv O).val al))).rv k=O.rv k:=by simp[ai.rv,ai.add,dN,w,ag]
    rw[<-this];exact hl;have an:k=Y B:=by
     have:=(cu.1 hk).1;simp at this;omega
    subst an;simp at hk;subst hk;have e1:(O.add (.r (.mk (r.rv O).val al))).rv (Y B)=.mk (r.rv O).val al:=by rw[<-w];simp[ai.rv,ai.add]
    rw[e1] at hl;unfold acm at a0;split at a0;rename_i k;exact q b ⟨k,_,tP a0,ay7 hl bf⟩;cases hl with
    |own e rv b hl=>
     have h0:al=[]:=by
      cases al with
      |nil=>rfl
      |cons x xs=>have:=bf x av;simp[RE.rv] at this
     subst h0;simp only[RE.rv] at hl;cases hl with
     |deep e v al i j cB c z k b h1 h2 h3 h4=>simp at h1
    cases a0;cases h;cases h
def vf:aU->Bool
 |[]=>J
 |.ah (.sl _)::_=>E
 |.ah (.own _)::_=>E
 |_::X=>vf X
def anx:∀{ks:aU}{xs:bv}{b:Nat},vf ks=J->¬Aq u ks xs b
 |[],xs,b,_,⟨q,e,W,X,_,_⟩=>by simp at X
 |k::ks,xs,b,h,⟨0,e,W,X,V,R⟩=>by
  simp at X;subst X;cases R<;>simp[vf] at h
 |k::ks,[],b,h,⟨q+1,e,W,X,V,R⟩=>by simp at V
 |k::ks,x::xs,b,h,⟨q+1,e,W,X,V,R⟩=>anx (ks:=ks) (xs:=xs) (b:=b) (by
   cases k with
   |ah r=>cases r<;>simp[vf] at h⊢<;>exact h
   |int _=>simpa[vf] using h
   |bool=>simpa[vf] using h) ⟨q,e,W,by simpa using X,by simpa using V,R⟩
def gg(X:aF)(W:bv):ai:=(⟨[],[],X,[]⟩:ai).ext W
end
def Iz:C->ap
 |.agg l=>l
 |v=>[v]
def pe:ap->ap
 |[]=>[]
 |v::X=>Iz v++pe X
def yz:C->ap
 |.bO l=>pe l
 |v=>Iz v
def azk:C->Bool
 |.ik _ (.int _ _)=>J
 |_=>E
def nI:aU->Nat
 |[]=>0
 |.int _::X=>nI X+1
 |_::X=>nI X
def nB:aU->Nat
 |[]=>0
 |.bool::X=>nB X+1
 |_::X=>nB X
def anz(c:Ty)(d:j5)(v:C)(W:bz):Bool:=match kA c d (Ap (Y d) v),iO c d with
 |U l,U X=>ln c W X l&&qJ X
 |_,_=>E
def anA(c:Ty)(M Q:FuncId->sC)(f:FuncId)(O:ap)(N L:Nat)(W:bz)(V:aU)(jM:C):Bool:=match M f,Q f with
 |U R,U X=>match kA c R O,iO c R,iO c X,kA c X (Ap (Y X) jM) with
  |U l,U P,U H,U r=>ln c W P l&&qJ P&&decide (H=V)&&sN N L (Y W) V r
  |_,_,_,_=>E
 |_,_=>E
def P5(ax:Nat):List (Nat×aU)->Option aU
 |[]=>Z
 |x::X=>if x.1=ax then U x.2 else P5 ax X
def T.iF(c:Ty)(M Q:FuncId->sC)(d:j5):T->Nat->Nat->bz->List (Nat×aU)->Bool
 |.ret v _ O,_,_,X,_=>DY X O&&anz c d v O
 |.bI v,_,_,_,_=>azk v
 |.aV _ t f,V,R,X,W=>t.iF c M Q d V R X W&&f.iF c M Q d V R X W
 |.bi _ t,V,R,X,W=>t.iF c M Q d V R X W
 |.call f N _ O P jM t,V,R,X,W=>DY X O&&anA c M Q f N V R O P jM&&t.iF c M Q d (V+nI P) (R+nB P) (X++jT P) W
 |.loop ax P L t,V,R,X,W=>ln c X P L&&t.iF c M Q d (V+nI P) (R+nB P) (X++jT P) ((ax,P)::W)
 |.back ax x,_,_,X,W=>match P5 ax W with
  |U P=>ln c X P x
  |none=>E
 |.new e _ O _ t,V,R,X,W=>DZ X O&&t.iF c M Q d V R (X++[.own e]) W
 |.ac k _ _ t,V,R,X,W=>acn k&&t.iF c M Q d V R (X++[k]) W
 |.gQ _ _ t f,V,R,X,W=>t.iF c M Q d V R X W&&f.iF c M Q d V R X W
 |.pick _ _ _ t f,V,R,X,W=>t.iF c M Q d (V+1) R X W&&f.iF c M Q d V R X W
 |.eL _ _ e _ _ r O t,V,R,X,W=>DZ X O&&acm X r e&&t.iF c M Q d V R (X++[.own e]) W
 |.stuck _,_,_,_,_=>J
 |.out _ _,_,_,_,_=>E
structure Lp where
 ax:Nat
 t:T
 O:ai
abbrev ng:=List Lp
def B4(ax:Nat):ng->Option (Lp×ng)
 |[]=>Z
 |x::X=>if x.ax=ax then U (x,X) else B4 ax X
def exec(bB:nQ):Nat->T->ai->ng->kK
 |0,_,_,_=>Z
 |_+1,.ret v _ _,O,_=>U (.ret ((yz v).map (C.xv O)))
 |_+1,.bI v,O,_=>(Iv O v).map .bI
 |n+1,.aV b t f,O,X=>if b.ab O then exec bB n t O X else exec bB n f O X
 |n+1,.bi b t,O,X=>if b.ab O then exec bB n t O X else Z
 |n+1,.call f R _ _ Q _ t,O,X=>match bB f ((pe R).map (C.xv O)) with
  |U (.ret V)=>if kz Q V then exec bB n t (O.ext V) X else Z
  |U (.bI v)=>U (.bI v)
  |none=>Z
 |n+1,.loop ax _ P t,O,X=>exec bB n t (O.ext (P.map (C.xv O))) (⟨ax,t,O⟩::X)
 |n+1,.back ax x,O,X=>match B4 ax X with
  |U (W,N)=>exec bB n W.t (W.O.ext (x.map (C.xv O))) (W::N)
  |none=>Z
 |n+1,.new _ x _ _ t,O,X=>exec bB n t (O.add (.r (gI x O))) X
 |n+1,.ac _ x _ t,O,X=>exec bB n t (O.add (.r (gI x O))) X
 |n+1,.gQ g h t f,O,X=>if g.ab O then(if h.ab O then B3 (exec bB n t O X) (exec bB n f O X) else exec bB n t O X) else(if h.ab O then exec bB n f O X else Z)
 |n+1,.pick m g h t f,O,X=>vd ((yw m g h O).map λj=>match j with
  |U j=>exec bB n t (O.add (.i j)) X
  |none=>exec bB n f O X)
 |n+1,.eL _ _ _ M L r _ t,O,X=>match oo O M L (r.rv O).ac with
  |U H=>exec bB n t (O.add (.r (.mk (r.rv O).val H))) X
  |none=>Z
 |_,_,_,_=>Z
def azl{c:Ty}{X:LK}{v:C}(h:FP c k X v=J):Iz v=[v]:=by
 unfold FP at h;split at h<;>first|rfl|cases h
def P6{c:Ty}{P:bz}:∀{d:j5}{M l:ap}{X:aU},kA c d M=U l->iO c d=U X->ln c P X l=J->pe M=l
 |[],[],l,X,h,_,_=>by simp[kA] at h;simp[pe,h]
 |[],_::_,l,X,h,_,_=>by simp[kA] at h
 |_::_,[],l,X,h,_,_=>by simp[kA] at h
 |t::d,v::M,l,X,h,O,L=>by
  simp only[kA] at h;split at h;rename_i w r B H;simp only[iO,B] at O;split at O;rename_i u G A F;cases A;cases O;have D:∀(a:aU)(b:ap),Y a=Y b->ln c P (a++G) (b++r)=J->ln c P a b=J/\ln c P G r=true:=by
   intro a;induction a with
   |nil=>intro b N R;cases b with
    |nil=>exact⟨rfl,R⟩
    |cons=>simp at N
   |cons k a z=>intro b N R;cases b with
    |nil=>simp at N
    |cons x b=>
     simp only[ef,ln,aw] at R⊢;obtain⟨W,Q⟩:=z b (by simpa using N) R.2;exact⟨⟨R.1,W⟩,Q⟩
  split at h;split at h;rename_i s;split at h;rename_i V;simp only[dK] at V;cases h;obtain⟨W,Q⟩:=D _ _ (by simp[V]) L;simp only[pe,Iz,P6 H F Q];cases h;cases h;split at h;rename_i V;simp only[dK] at V;cases h;obtain⟨W,Q⟩:=D _ [v] (by simp[V]) L;obtain⟨q,y⟩:=oZ.1 V;rw[y] at W;simp only[dU,pP,ln,On] at W;simp only[pe,azl W,P6 H F Q,ef,eK];cases h;cases O;cases h
def azm{c:Ty}{d:j5}{X:C}{Q:aU}(h:kA c d (Ap (Y d) X)=U v)(V:iO c d=U Q)(W:ln c k Q v=J):yz X=v:=by
 rw[<-P6 h V W];cases X
 case bO G=>
  simp only[Ap,yz];split;rename_i R;simp only[dK] at R;exfalso;have O:=P6 h V W;simp only[Ap,R,beq_self_eq_true,cS] at h O;obtain⟨t,N⟩:=oZ.1 R;subst N;simp only[kA,iO] at h V;split at h;rename_i F r R M;cases M;split at h;cases h;split at h;rename_i P;cases h;rw[R] at V;simp only[cX] at V;subst V;simp only[dK] at P;obtain⟨D,L⟩:=oZ.1 P;rw[L] at W;simp only[dU,pP,Kb,ln,On] at W;unfold FP at W;split at W<;>first|(rename_i H;cases H)|cases W
  cases h;cases h;rfl
 all_goals simp[Ap,yz,pe]
section
variable{c:Ty}{M Q:FuncId->sC}{bB:nQ}{d:j5}
def FQ:∀{X:aU}{W:bv}{O:ai},eY X W->(O.ext W).i.length=Y O.i+nI X/\(O.ext W).b.length=Y O.b+nB X/\(O.ext W).r.length=Y O.r+(jT X).length
 |[],[],O,_=>⟨rfl,rfl,rfl⟩
 |[],_::_,O,h=>h.elim
 |_::_,[],O,h=>h.elim
 |k::X,x::W,O,h=>by
  obtain⟨V,R⟩:=h;obtain⟨Q,P,N⟩:=FQ (O:=O.add x) R;simp only[ai.ext,Q,P,N];cases k<;>cases x<;>simp only[sI] at V<;>simp[ai.add,nI,nB,jT]<;>omega
inductive B5(c:Ty)(M Q:FuncId->Option (List TypeId))(d:List TypeId):List (Nat×List LK)->List Lp->List Fr->Prop where
 |nil:B5 c M Q d [] [] []
 |cons (ax:Nat) (ks:List LK) (t:T) (O:ai) (rs:List RK) (lv:List (Nat×List LK)) (sl:List Lp) (st:List Fr):Y O.r=Y rs->t.iF c M Q d (Y O.i+nI ks) (Y O.b+nB ks) (rs++jT ks) ((ax,ks)::lv)=J->B5 c M Q d lv sl st->
   B5 c M Q d ((ax,ks)::lv) (⟨ax,t,O⟩::sl) (⟨ax,ks,t,O,rs++jT ks⟩::st)
def B5.find{N:List (Nat×aU)}{H G:ng}{L:List Fr}{W:aU}{X:Lp}(h:B5 c M Q d N H L)(V:P5 y N=U W)(R:B4 y H=U (X,G)):
  ∃P F D,Iw y L=U (⟨X.ax,W,X.t,X.O,P++jT W⟩,D)/\Y X.O.r=Y P/\X.t.iF c M Q d (Y X.O.i+nI W) (Y X.O.b+nB W) (P++jT W) ((X.ax,W)::F)=J/\B5 c M Q d F G D:=by
 induction h with
 |nil=>simp[P5] at V
 |cons A u t O P N H L z x w v=>
  simp only[P5,B4,Iw] at V R⊢;by_cases B:A=y;rw[aL B] at V R⊢;cases V;cases R;exact⟨P,N,L,rfl,z,x,w⟩;rw[aT B] at V R⊢;exact v V R
def vg:∀(n:Nat)(t:T)(O:ai)(N:bz)(W:List (Nat×aU))(R:ng)(P:List Fr)(o:bq),exec bB n t O R=U o->t.iF c M Q d (Y O.i) (Y O.b) N W=J->Y O.r=Y N->B5 c M Q d W R P->
  run c M Q bB d n t O N P=U o
 |0,t,O,N,W,R,P,o,h,_,_,_=>by simp[exec] at h
 |n+1,.out _ _,O,N,W,R,P,o,h,_,_,_=>by simp[exec] at h
 |n+1,.stuck _,O,N,W,R,P,o,h,_,_,_=>by simp[exec] at h
 |n+1,.ret v bx F,O,N,W,R,P,o,h,X,L,H=>by
  simp only[exec,cX] at h;simp only[T.iF,aw] at X;obtain⟨u,X⟩:=X;simp only[run,u,cS,ack];unfold anz at X;split at X
  ·rename_i l D s p
   try rw[s,p]
   simp only[X,cS];simp only[aw] at X;rw[<-azm s p X.1,h]
  cases X
 |n+1,.bI v,O,N,W,R,P,o,h,X,L,H=>by simpa only[exec,run] using h
 |n+1,.aV b t f,O,N,W,R,P,o,h,X,L,H=>by
  simp only[exec] at h;simp only[T.iF,aw] at X;simp only[run];split at h;rename_i B;rw[aL B];exact vg n t O N W R P o h X.1 L H;rename_i B;rw[aT B];exact vg n f O N W R P o h X.2 L H
 |n+1,.bi b t,O,N,W,R,P,o,h,X,L,H=>by
  simp only[exec] at h;simp only[T.iF] at X;simp only[run];split at h;rename_i B;rw[aL B];exact vg n t O N W R P o h X L H;cases h
 |n+1,.call f a0 bx F D jM t,O,N,W,R,P,o,h,X,L,H=>by
  simp only[exec] at h;simp only[T.iF,aw] at X;obtain⟨⟨u,G⟩,ag⟩:=X;have al:=(UW u).1.len;simp only[run,u,cS,acl];unfold anA at G;split at G
  ·rename_i ps qs s p
   try rw[s,p]
   try simp only
   split at G
   ·rename_i l pk qk r g1 g2 g3 g4
    try rw[g1,g2,g3,g4]
    try simp only
    rw[al,<-L] at G;rw[aL G];simp only[aw] at G;rw[P6 g1 g2 G.1.1.1] at h
    try simp only
    split at h
    ·rename_i ys ho
     try rw[ho]
     try simp only
     split at h;rename_i af;rw[aL af];obtain⟨A,z,y⟩:=FQ (O:=O) (azf af);exact vg n t _ _ W R P o h (by rw[A,z];exact ag) (by rw[y,gP,L]) H;cases h
    ·rename_i v ho;(try rw[ho]);exact h
    cases h
   cases G
  cases G
 |n+1,.loop ax D x0 t,O,N,W,R,P,o,h,X,L,H=>by
  simp only[exec] at h;simp only[T.iF,aw] at X;simp only[run,X.1,cS];obtain⟨A,z,y⟩:=FQ (O:=O) (LO (O:=O) (V:=[]) X.1).2;exact vg n t _ _ ((ax,D)::W) _ _ o h (by rw[A,z];exact X.2) (by rw[y,gP,L]) (B5.cons _ _ _ _ _ _ _ _ L X.2 H)
 |n+1,.back ax x,O,N,W,R,P,o,h,X,L,H=>by
  simp only[exec] at h;simp only[T.iF] at X;split at h;rename_i a an hf;split at X;rename_i D hk;obtain⟨F,aA,a1,q1,q2,q3,q4⟩:=H.find hk hf;simp only[run,q1,X,cS];obtain⟨A,z,y⟩:=FQ (O:=a.O) (LO (O:=O) (V:=[]) X).2;exact vg n a.t _ _ ((a.ax,D)::aA) (a::an) _ o h (by rw[A,z];exact q3) (by rw[y,gP,q2]) (B5.cons _ _ _ _ _ _ _ _ q2 q3 q4);cases X;cases h
 |n+1,.new e x F a3 t,O,N,W,R,P,o,h,X,L,H=>by
  simp only[exec] at h;simp only[T.iF,aw] at X;simp only[run,X.1,cS];exact vg n t _ _ W R P o h (by simpa[ai.add] using X.2) (by simp[ai.add,L]) H
 |n+1,.ac k x F t,O,N,W,R,P,o,h,X,L,H=>by
  simp only[exec] at h;simp only[T.iF,aw] at X;simp only[run,X.1,cS];exact vg n t _ _ W R P o h (by simpa[ai.add] using X.2) (by simp[ai.add,L]) H
 |n+1,.gQ g h' t f,O,N,W,R,P,o,h,X,L,H=>by
  simp only[exec] at h;simp only[T.iF,aw] at X;simp only[run];have i1:=λq=>vg n t O N W R P o q X.1 L H
  have i2:=λq=>vg n f O N W R P o q X.2 L H
  split at h;rename_i hg;rw[aL hg];split at h;rename_i w;rw[aL w];exact anl h i1 i2;rename_i w;rw[aT w];exact i1 h;rename_i hg;rw[aT hg];split at h;rename_i w;rw[aL w];exact i2 h;cases h
 |n+1,.pick m g h' t f,O,N,W,R,P,o,h,X,L,H=>by
  simp only[exec] at h;simp only[T.iF,aw] at X;simp only[run];refine anm h λj _ q=> ?_
  cases j with
  |some j=>exact vg n t (O.add (.i j)) N W R P o q (by simpa[ai.add] using X.1) (by simpa[ai.add] using L) H
  |none=>exact vg n f O N W R P o q X.2 L H
 |n+1,.eL f g e sp sb r F t,O,N,W,R,P,o,h,X,L,H=>by
  simp only[exec] at h;simp only[T.iF,aw] at X;simp only[run,X.1.1,X.1.2,we,cS];split at h
  ·rename_i a4 aC
   try rw[aC]
   exact vg n t _ _ W R P o h (by simpa[ai.add] using X.2) (by simp[ai.add,L]) H
  cases h
def wJ(bB:nQ)(t:T)(O:ai)(X:ng)(o:bq):Prop:=∃n,exec bB n t O X=U o
def LR{bB:nQ}{X:ng}{o:bq}:wJ bB g N X o<->∃n,exec bB (n+1) g N X=U o:=
 ⟨λ⟨n,h⟩=>by
  cases n with
  |zero=>simp[exec] at h
  |succ n=>exact⟨n,h⟩,λ⟨n,h⟩=>⟨n+1,h⟩⟩
@[simp] def aJt {v:C} {X:bG} {W:ng} {o:bq}:wJ bB (.ret v X k) N W o<->o=.ret ((yz v).map (C.xv N)):=by
 rw[LR];simp only[exec,cX];exact⟨λ⟨_,h⟩=>h.symm,λh=>⟨0,h.symm⟩⟩
@[simp] def aJu {v:C} {X:ng} {o:bq}:wJ bB (.bI v) N X o<->(Iv N v).map .bI=U o:=by
 rw[LR];simp only[exec];exact⟨λ⟨_,h⟩=>h,λh=>⟨0,h⟩⟩
@[simp] def aJv {b:BE} {f:T} {X:ng} {o:bq}:wJ bB (.aV b g f) N X o<->if b.ab N=J then wJ bB g N X o else wJ bB f N X o:=by
 rw[LR];simp only[exec];split<;>rfl
@[simp] def aJw {b:BE} {X:ng} {o:bq}:wJ bB (.bi b g) N X o<->b.ab N=J/\wJ bB g N X o:=by
 rw[LR];simp only[exec];by_cases W:b.ab N=J;simp only[W,cS,true_and];rfl;simp[W]
@[simp] def aJx {W:aU} {X:ng} {o:bq}:wJ bB (.loop y W v g) N X o<->wJ bB g (N.ext (v.map (C.xv N))) (⟨y,g,N⟩::X) o:=by
 rw[LR];simp only[exec];rfl
@[simp] def aJy {x:LE} {W:bz} {X:ng} {o:bq}:wJ bB (.new h x k W g) N X o<->wJ bB g (N.add (.r (gI x N))) X o:=by
 rw[LR];simp only[exec];rfl
end
structure yA(P:Program)(g:FuncId)(eT:TypeId):Prop where
 Ai:∀args W,(callFunc g args).run P W=.ok (.enter g args) W
 ret:∀(W:World)(b:Nat),CallsDIn Fence.wide 0 P g #[.pointer (U ⟨b,0,Z⟩)] .returning W λen u W'=>(∃v,en=.returned v)/\u=.returning/\W'=W
 bI:∀(W:World)(b:Nat)(k0 k:Int),W.heap[b]?=U (.cells #[.int I k0] eT (0,0))->CallsDIn Fence.wide 0 P g #[.pointer (U ⟨b,0,Z⟩)] (.panicking [{v:=.iface eT (.int I k),recovered:=E}]) W λen u W'=>
  (∃v,en=.returned v)/\u=.panicking [{v:=.iface eT (.int I k),recovered:=J}]/\W'=W.putObj b (.cells #[.int I k] eT (0,0))
def azn{c:Code}{d:DI}(h:zV c=U d):∃P O R X W first Q V,c=.seq (.region P d.tZ E) (.seq (.region O R E) d.rest)/\R= #[X,W]/\X.op=.makeFunc (.func d.g) first Q/\first= #[]/\Q= #[.tmp d.te]/\X.dst=U d.tf/\X.guard=Z/\W.op=.defer V/\V.callee=.value (.tmp d.tf)/\V.args= #[]/\W.guard=Z/\W.dst=none:=by
 unfold zV at h;split at h;rename_i P tZ O R w;unfold ajO at h;split at h;rename_i X W M;split at h;rename_i g first Q v V L H G F D B
 split at h;rename_i u t A z y x;split at h;rename_i N;simp only[dK] at N;subst N;cases h;exact⟨P,O,R,X,W,first,Q,V,rfl,by apply nF;simp[M],L,by apply nF;simp[A],by apply nF;simp[z],H,G,F,y,by apply nF;simp[x],D,B⟩;cases h;cases h;cases h;cases h;cases h
section
variable{p:Sp}{cf:bF}
def azo(w:jS p cf)(a3:∀ch W,¬p.R (.panicked ch) W){f:FuncId}{M:Func}{c:Code}(hf:p.P.funcs[f]?=U M)(hb:M.body=U c){d:DI}(j:zV c=U d){eT:TypeId}(aA:yA p.P d.g eT)
  {n:Nat}{al:ap}{s:S}{O:ai}{V:aq}{t:T}
  (ht:OY cf n f c M.ntmps M.results.toList eT al s=t)(L:t.aS p O [])(hg:fk cf.gl O)(R:az p.S0 p.w0 cq.none cf.ty V O {s with tmps:=[]} ⟨#[],[]⟩ p.w0):
  Calls p.P f (C.aG O V al).toArray p.w0 p.R:=by
 subst ht;unfold OY at L;rw[j] at L;simp only at L;obtain⟨i0,i1,cB,r,q,first,cC,dc,hc,ho,g1,g2,g3,g4,g5,g6,g7,g8,g9,b1⟩:=azn j;subst ho g2 g3;refine Lv hf hb ?_;rw[hc];obtain⟨D1,aC⟩:∃D1:cq,D1=⟨[],[],J,[]⟩:=⟨_,rfl⟩;have b2:eN p.w0 D1 s.pd O.y [] p.w0:=by
  subst aC;have h:=R.dp;exact⟨h.len,h.qL,h.dF,h.inj,[],rfl,λ_=>rfl,av,λd j=>by simp at j⟩
 have RE:=R.enter al M.ntmps b2;obtain⟨Rr,a4⟩:=RE.room (mA d.tZ.toList);refine Ir (u9 (n:=0) (wpIn_region ?_));have hY:=FM (p:=p) (cf:=cf) D1.dF ⟨{s with tmps:=al++eF (M.ntmps-Y al) (.bO [])},O,V,[]⟩;have a9:=BV (ops:=d.tZ) w.pt w.zM (Am Z) w.ll (LB w (LG w n).1 hY) (D:=D1) (k:=aav cf n f d eT (Y s.ao) M.results.toList) (kp:=λ_ _=>.stuck "") (Q:=Exit.then (λF B=>jN Z f p.P (.seq (.region i1 #[r,q] E) d.rest) (bodyPostM Fence.wide 0 p.P M p.R) F B) (bodyPostM Fence.wide 0 p.P M p.R)) (λch F B pd y hA hR=>(a3 ch B hR).elim) (n:=0) (hJ (λ_=>E) J E 0 (Y s.ao) d.tZ.toList) 0 _ [] [] O _ _ p.w0
  (λi m' hi=>by have:=Lz _ _ _ _ _ _ _ _ hi;simpa using this) ((j8.here _ _ _ _).go a4 (dq.refl _ _)) L (λx hx=>by cases hx) Rr hg ?_ (λv s' o V' F B L' hl hL R' b3=>b3.elim)
 rw[Uw] at a9;simpa[SN] using a9;intro b a N G A L1 b4 cD R1 af;show jN Z f p.P (.seq (.region i1 #[r,q] E) d.rest) (bodyPostM Fence.wide 0 p.P M p.R) G A;unfold aav at af;split at af;rename_i X b5;split at af;rename_i ba;simp only[aw,iw,ce] at ba;obtain⟨⟨bb,b6⟩,b7⟩:=ba;have b8:G.tmps[d.te]?=U (.pointer (U ⟨ad N X,0,Z⟩)):=by
  rcases R1.tmps _ _ b5 with h|h;cases h;exact h
 have ca:G.defers=[]:=by
  have h:=R1.dp;rw[aC] at h;obtain⟨ms,q1,q0,-,-⟩:=h.mE;have:=q0 rfl;subst this;simpa using q1
 have cc:(C.fn d.g [.loc X 0]).ab a N=.func (.func d.g) #[] #[.pointer (U ⟨ad N X,0,Z⟩)]:=by simp[C.ab,C.aG]
 have z:=R1.put (U d.tf) (.fn d.g [.loc X 0]);rw[cc] at z;obtain⟨H,an⟩:∃H:Deferred,H={target:=.fn (.func d.g) #[.pointer (U ⟨ad N X,0,Z⟩)],args:= #[]}:=⟨_,rfl⟩;have cl:eN p.w0 ⟨[],[],E,[H]⟩ b.pd a.y [H] A:=by
  have h:=R1.dp;rw[aC] at h;exact⟨h.len,h.qL,h.dF,h.inj,[],rfl,λ_=>rfl,av,λd j=>by simp at j⟩
 have cI:(b.put (U d.tf) (.fn d.g [.loc X 0])).pd=b.pd:=rfl;have R2:az p.S0 p.w0 ⟨[],[],E,[H]⟩ cf.ty N a (b.put (U d.tf) (.fn d.g [.loc X 0])) {G.put (U d.tf) (.func (.func d.g) #[] #[.pointer (U ⟨ad N X,0,Z⟩)]) with defers:=[H]} A:=
  ⟨z.mem,z.gV,z.ei,z.eb,z.er,cl,z.size,z.tmps,z.gD⟩
 refine Ir (u9 (n:=0) (wpIn_region ?_));have cn:e8 (#[r,q]:dQ).size=[0,1]:=rfl;rw[cn];have e1:(execOp G.eval r).run p.P A=.ok (.value (.func (.func d.g) #[] #[.pointer (U ⟨ad N X,0,Z⟩)])) A:=by
  have:G.eval (.tmp d.te)=.pointer (U ⟨ad N X,0,Z⟩):=by simp[Act.eval,avn,b8]
  simp[execOp,g1,this,Instr.makeFunc]
 have e2:(execOp (G.put (U d.tf) (.func (.func d.g) #[] #[.pointer (U ⟨ad N X,0,Z⟩)])).eval q).run p.P A=.ok (.defer H) A:=by
  have co:d.tf<G.tmps.size:=by rw[R1.size];exact b7
  have:(G.put (U d.tf) (.func (.func d.g) #[] #[.pointer (U ⟨ad N X,0,Z⟩)])).eval (.tmp d.tf)=.func (.func d.g) #[] #[.pointer (U ⟨ad N X,0,Z⟩)]:=by
   simp[Act.eval,Act.put,avn,co]
  simp[execOp,g6,resolve,g7,g8,this,Deferred.ofValue,an]
 have cp:mw r (yielded #[r,q] G.tmps)=true:=by simp[mw,g5]
 have cs:∀y,mw q y=true:=λy=>by simp[mw,g9]
 have ct:∀c',r.op≠ .defer c':=λc' bc=>by rw[g1] at bc;cases bc
 have hF:=Am Z;show wpOpsIn _ 0 p.P #[r,q] _ [0,1] G A;simp only[wpOpsIn,ai8,Bk,tN,cp,cs,cS];refine⟨λf _=>hF.fn f, ?_⟩;rw[zI _ _ _ ct,e1,Oper.uponIn_value,g4];refine⟨λf _=>hF.fn f, ?_⟩;rw[show(PE Z).round=Z from rfl,avG,e2,aJp];have cv:({(G.put (U d.tf) (.func (.func d.g) #[] #[.pointer (U ⟨ad N X,0,Z⟩)])) with defers:=H::(G.put (U d.tf) (.func (.func d.g) #[] #[.pointer (U ⟨ad N X,0,Z⟩)])).defers}:Act).put q.dst undef={G.put (U d.tf) (.func (.func d.g) #[] #[.pointer (U ⟨ad N X,0,Z⟩)]) with defers:=[H]}:=by
  rw[b1];have:(G.put (U d.tf) (.func (.func d.g) #[] #[.pointer (U ⟨ad N X,0,Z⟩)])).defers=[]:=ca;rw[this];rfl
 rw[cv];show jN Z f p.P d.rest (bodyPostM Fence.wide 0 p.P M p.R) _ A;have cx:(j8.mk (b.put (U d.tf) (.fn d.g [.loc X 0])) a N L1).mF (b.put (U d.tf) (.fn d.g [.loc X 0])) a N L1:=j8.here _ _ _ _;refine(LG w n).1 ⟨[],[],E,[H]⟩ _ jg Z f d.rest _ _ L1 a N _ A _ (FM _ _) cx rfl (λhh=>by cases hh) ⟨M,hf⟩ af R2 ((hg.ext a4.ext).ext b4.ext) (λch F B pd y hA hR=>(a3 ch B hR).elim) ?_;intro e s' o V' F B L' hl hL RR L;obtain⟨bd,q1,q0,q2,q3⟩:=RR.dp.mE;have R3:=RR.rM q1;have cO:({F with defers:=[H]}:Act)={F with defers:=[H]}:=rfl;have bf:∀d0∈bd,B.heap[d0]?=U (.deferred (U [])):=λd0 cy=>(q3 d0 (by simp[cy])).1
 have bg:bd.Nodup:=(xS.1 q2).1;have bk:ad V' X=ad N X:=hl.ext.ad X b6;have bl:∀m,(invoke H.target H.args).run p.P m=.ok (.enter d.g #[.pointer (U ⟨ad N X,0,Z⟩)]) m:=λm=>by
  rw[an];simp[invoke,aA.Ai]
 have br:∀s2:S,∀m,az p.S0 p.w0 ⟨[],[],E,[H]⟩ cf.ty V' o s2 {F with defers:=[H]} m->(t6 cf (Y s.ao) M.results.toList s2).aS p o L'->LeavesInM Fence.wide 0 p.P M F.tmps p.R [] .returning m:=by
  intro s2 m R4 ag;unfold t6 at ag;split at ag;rename_i l cA;refine⟨_,Lg R4 w.ll cA, ?_⟩;exact ag o.y V' _ (by rw[w.pt];exact(R4.mem.take _).mX (PN _));exact ag.elim
 have bs:(t6 cf (Y s.ao) M.results.toList s').aS p o L'->LeavesInM Fence.wide 0 p.P M F.tmps p.R F.defers .returning B:=by
  intro ag;rw[q1];refine uh av bg bf ⟨av,.inr ⟨by simp[Fence.wide],_,_,_,_,by rw[an],bl _,λg hg=>trivial, ?_⟩⟩;refine(aA.ret _ _).mono ?_;rintro en u W4 ⟨⟨v,rfl⟩,rfl,rfl⟩;exact br s' _ R3 ag
 cases e with
 |normal=>exact bs L
 |ret=>exact bs L
 |exit id=>exact L.elim
 |bI v=>
  simp only[aau] at L;split at L;rename_i tt x;split at L;rename_i bt y bx;split at L;rename_i b0;simp only[aw,dK] at b0;obtain⟨rfl,rfl⟩:=b0;have a0:=R3.mem.box X bt _ bx;rw[uc bb] at a0;rw[bk] at a0;show LeavesInM Fence.wide 0 p.P M F.tmps p.R F.defers (.panicking _) B;rw[q1];refine uh av bg bf ⟨av,.inr ⟨by simp[Fence.wide],_,_,_,_,by rw[an],bl _,λg hg=>trivial, ?_⟩⟩;refine(aA.bI _ (ad N X) (y.ab o) (x.ab o) a0).mono ?_;rintro en u W4 ⟨⟨v,rfl⟩,rfl,rfl⟩;have R4:=R3.akF (cs':=[.int I x]) bx;rw[uc bb,bk] at R4;exact br _ _ R4 L;exact L.elim;exact L.elim;exact L.elim
 exact af.elim;exact af.elim
end
def qb:T->T
 |.aV _ t _=>t
 |.bi _ t=>t
 |.call _ _ _ _ _ _ t=>t
 |.loop _ _ _ t=>t
 |.new _ _ _ _ t=>t
 |.ac _ _ _ t=>t
 |.gQ _ _ t _=>t
 |.pick _ _ _ t _=>t
 |.eL _ _ _ _ _ _ _ t=>t
 |t=>t
def LS:T->T
 |.aV _ _ t=>t
 |.gQ _ _ _ t=>t
 |.pick _ _ _ _ t=>t
 |t=>t
def sO(g t:T):T:=match g with
 |.stuck m=>.stuck m
 |_=>t
def T.cut(t:T):T->T:=T.rec (motive:=λ_=>T->T) (λe s g=>sO g (.out e s)) (λv b r g=>sO g (.ret v b r)) (λv g=>sO g (.bI v)) (λb _ _ X W g=>sO g (.aV b (X (qb g)) (W (LS g)))) (λb _ X g=>sO g (.bi b (X (qb g)))) (λf a b r k s _ X g=>sO g (.call f a b r k s (X (qb g)))) (λl k x _ X g=>sO g (.loop l k x (X (qb g)))) (λl x g=>sO g (.back l x)) (λe x r V _ X g=>sO g (.new e x r V (X (qb g)))) (λk x r _ X g=>sO g (.ac k x r (X (qb g)))) (λb c _ _ X W g=>sO g (.gQ b c (X (qb g)) (W (LS g)))) (λn b c _ _ X W g=>sO g (.pick n b c (X (qb g)) (W (LS g)))) (λf R e Q O r N _ X g=>sO g (.eL f R e Q O r N (X (qb g)))) (λm g=>sO g (.stuck m)) t
def vj{p:Sp}{g t:T}(h:(sO g t).aS p N b):t.aS p N b:=by
 unfold sO at h;split at h;exact h.elim;exact h
def wK{p:Sp}:∀(t g:T)(O:ai)(L:dG),(t.cut g).aS p O L->t.aS p O L
 |.out _ _,_,_,_,h=>vj h
 |.ret _ _ _,_,_,_,h=>vj h
 |.bI _,_,_,_,h=>vj h
 |.back _ _,_,_,_,h=>vj h
 |.stuck _,_,_,_,h=>vj h
 |.aV b t f,g,O,L,h=>by
  have h:=vj (g:=g) (t:=.aV b (t.cut (qb g)) (f.cut (LS g))) h;exact⟨λe=>wK _ _ _ _ (h.1 e),λe=>wK _ _ _ _ (h.2 e)⟩
 |.bi b t,g,O,L,h=>by
  have h:=vj (g:=g) (t:=.bi b (t.cut (qb g))) h;exact⟨h.1,wK _ _ _ _ h.2⟩
 |.call f a b r k s t,g,O,L,h=>by
  have h:=vj (g:=g) (t:=.call f a b r k s (t.cut (qb g))) h;intro y V W H;refine(h y V W H).mono λe W' N=> ?_
  cases e with
  |returned v=>
   obtain⟨M,R,Q,F,D,B⟩:=N;exact⟨M,R,Q,F,D,wK _ _ _ _ B⟩
  |panicked c=>exact N
  |outgrown=>exact N
 |.loop l k x t,g,O,L,h=>by
  have h:=vj (g:=g) (t:=.loop l k x (t.cut (qb g))) h;obtain⟨X,A,R,Q⟩:=h;exact⟨X,A,R,λM a b=>wK _ _ _ _ (Q M a b)⟩
 |.new e x r z t,g,O,L,h=>by
  have h:=vj (g:=g) (t:=.new e x r z (t.cut (qb g))) h;exact λw a=>wK _ _ _ _ (h w a)
 |.ac k x r t,g,O,L,h=>by
  have h:=vj (g:=g) (t:=.ac k x r (t.cut (qb g))) h;exact wK t (qb g) _ _ h
 |.gQ b c t f,g,O,L,h=>by
  have h:=vj (g:=g) (t:=.gQ b c (t.cut (qb g)) (f.cut (LS g))) h;exact⟨λe=>wK _ _ _ _ (h.1 e),λe=>wK _ _ _ _ (h.2 e)⟩
 |.pick n b c t f,g,O,L,h=>by
  have h:=vj (g:=g) (t:=.pick n b c (t.cut (qb g)) (f.cut (LS g))) h;exact⟨λj u a2 q=>wK _ _ _ _ (h.1 j u a2 q),λe=>wK _ _ _ _ (h.2 e)⟩
 |.eL f o e m i r d t,g,O,L,h=>by
  have h:=vj (g:=g) (t:=.eL f o e m i r d (t.cut (qb g))) h;obtain⟨af,R,Q⟩:=h;exact⟨af,R,wK _ _ _ _ Q⟩
def ctE(c:Bool)(g t:T):T:=cond c (t.cut g) t
def azp{p:Sp}{c:Bool}{g t:T}(h:(ctE c g t).aS p N b):t.aS p N b:=by
 cases c;exact h;exact wK _ _ _ _ h
section
variable{P:Program}{u:Ty}{M Q:FuncId->sC}{bB:nQ}{G:World->Prop}{H A:j5}{X z:aU}
structure LU(u:Ty)(gl:nG)(glk:bz)(glv:aF)(W:World)(glw:aF):Prop where
 len:Y glv=Y glw
 eq:∀(k:Nat)(v v':RV),glv[k]?=U v->glw[k]?=U v'->cU v v'
 held:∀(k:Nat)(e:RK)(rv:RV),glk[k]?=U e->glw[k]?=U rv->bJ W u e rv
 acx:∀xs,fk gl (gg glw xs)
def acy{cf:bF}{w:aF}{l:ap}{nb:Nat}{B:bz}
  (al:cf.ty=u)(an:∀f,D4 P u M Q G f (bB f))(hG:∀e W',Below e.heap.size e W'->G e->G W')(aA:iO u H=U X)
  (hl:kA u A v=U l)(aC:sN 0 0 (Y w) z l=J)(af:B=k++jT z)(a0:∀(V:Nat)(g:TypeId),B[V]?≠U (.own g))(a1:Y w=Y k)(m:w=[]\/vf X=J)
  (a3:∀F L,eY z L->(gg F L).i.length=y)(a4:∀F L,eY z L->(gg F L).b.length=nb)
   (a9:G e){F:aF}(s:LU u cf.gl k w e F){xh L:bv}{o:bq}{N:Nat}(hN:run u M Q bB H N g (gg w xh) B []=U o)(hx:BZ xh L)(p:eY z L)(hH:Ar u e z L):
  g.aS (LP P u e H X z L o) (gg F L) []/\C.aG (gg F L) [] v=wH u A (qa z L)/\az [] e cq.none cf.ty [] (gg F L) ⟨[],[],y,nb,B,0,0,[]⟩ ⟨#[],[]⟩ e:=by
 have a:Y F=Y k:=by rw[<-s.len];exact a1
 have hv:C.aG (gg F L) [] v=wH u A (qa z L):=by
  rw[US hl,gg,P0 (by rw[<-s.len];exact aC) p rfl rfl rfl]
 have ag:(gg F L).r.length=Y B:=by rw[af];exact P2 p a
 have hS:lL (gg w xh) (gg F L):=lL.ext ⟨rfl,rfl,s.len,λV R v' g1 g2=>s.eq V R v' g1 g2⟩ hx;have ba:g.aS (LP P u e H X z L o) (gg F L) []:=by
  refine azj (old:=λb=>Aq u z L b\/F≠[]) an hG a9 aA (λys b n d=> ?_) N g _ _ B [] [] hN hS ag ?_ (wI.nil _);rcases d with d|d;exact d;rcases m with m|m;subst m;have:F=[]:=E1.1 (by rw[<-s.len];rfl);exact aZ this d;exact(anx m n).elim;rw[af];refine Iy.ext (λb n=> ?_) p a (λb n=>.inr (.inl n));obtain⟨V,O,hk,hl⟩:=n;refine .inr (.inr (λhe=> ?_));subst he;have:=(cu.1 hk).1;simp at a;omega
 have bb:∀(V:Nat)(O:RK)(D:RV),B[V]?=U O->(gg F L).r[V]?=U D->bJ e u O D:=by
  intro V O D g1 g2;have:=Im (PP:=λO D=>bJ e u O D) z L ⟨[],[],0,0,k,0,0,[]⟩ ⟨[],[],F,[]⟩ p a (λq O D x c=>hH q O D x c) (λV O D x c=>s.held V O D x c);rw[UX] at this;exact this V O D (by rw[<-af];exact g1) g2
 exact⟨ba,hv,⟨⟨im.refl _ _,λi h=>by simp[aP,cY] at h,λi j h=>by simp[aP,cY] at h,λi g cs h=>by simp[cY] at h,λV O D x c=>⟨by rw[al];exact bb V O D x c,λb n i hi=>by simp[aP,cY] at hi⟩⟩,rfl,a3 _ L p,a4 _ L p,ag,by rw[show(gg F L).y=[] from Le L _];exact UU _ _,rfl,λg sv h=>by simp at h,λV O D b x=>aZ x (a0 V O)⟩⟩
def azq{cf:bF}{B:Func}{c:Code}{F:bv->kK}{glk:bz}{glv:aF}{l:ap}{x s:Nat}
  (al:∀w R,(∀r W b o,w.heap.size<=b->R (.panicked r) W->R (.panicked r) (W.putObj b o))->jS ⟨P,u,[],w,cq.none,R,λ_ _ _=>False⟩ cf)(an:cf.ty=u)(aA:∀t,D4 P u M Q G t (bB t))(hG:∀W q,Below W.heap.size W q->G W->G q)
  (hf:P.funcs[t]?=U B)(hb:B.body=U c)(aC:M t=U A)(a0:Q t=U H)(a1:iO u A=U z)(m:iO u H=U X)
  (hl:kA u A v=U l)(a3:sN 0 0 (Y glv) z l=J)(a4:k=glk++jT z)(a9:∀(V:Nat)(g:TypeId),k[V]?≠U (.own g))(ba:Y glv=Y glk)(hq:glv=[]\/vf X=J)
  (bb:∀D L,eY z L->(gg D L).i.length=x)(bc:∀D L,eY z L->(gg D L).b.length=s)
  (bd:∀W,G W->∃D,LU u cf.gl glk glv W D)
  (ht:∀(p:Sp)(O:ai),g.aS p O []->(OX cf y t c B.ntmps B.results.toList v ⟨[],[],x,s,k,0,0,[]⟩).aS p O [])
  (hF:∀L o,eY z L->F L=U o->∃N,run u M Q bB H N g (gg glv L) k []=U o):D4 P u M Q G t F:=by
 intro bg bk bl br j h e d xh L o ho a af W ag hH;rw[aC] at j;cases j;rw[a0] at h;cases h;rw[a1] at e;cases e;rw[m] at d;cases d;obtain⟨N,hN⟩:=hF xh o (UT af a) ho;obtain⟨D,hL⟩:=bd W ag;obtain⟨bf,hv,hR⟩:=acy an aA hG m hl a3 a4 a9 ba hq bb bc ag hL hN a af hH;rw[<-hv];exact amW (p:=LP P u W H X z L o) (cf:=cf) (al W _ (acv W)) hf hb rfl (ht _ _ bf) (hL.acx L) hR
def azr{cf:bF}{x:Func}{c:Code}{F:bv->kK}{glk:bz}{glv:aF}{l:ap}{m j:Nat}{d:DI}
  (al:∀w R,(∀s W b o,w.heap.size<=b->R (.panicked s) W->R (.panicked s) (W.putObj b o))->jS ⟨P,u,[],w,cq.none,R,λ_ _ _=>False⟩ cf)(an:cf.ty=u)(aA:∀t,D4 P u M Q G t (bB t))(hG:∀W r,Below W.heap.size W r->G W->G r)
  (hf:P.funcs[t]?=U x)(hb:x.body=U c)(hd:zV c=U d)(aC:yA P d.g h)(a0:M t=U A)(a1:Q t=U H)(a3:iO u A=U z)(e:iO u H=U X)
  (hl:kA u A v=U l)(a4:sN 0 0 (Y glv) z l=J)(a9:k=glk++jT z)(ba:∀(V:Nat)(g:TypeId),k[V]?≠U (.own g))(bb:Y glv=Y glk)(hq:glv=[]\/vf X=J)
  (bc:∀B D,eY z D->(gg B D).i.length=m)(bd:∀B D,eY z D->(gg B D).b.length=j)
  (bf:∀W,G W->∃B,LU u cf.gl glk glv W B)
  (ht:∀(p:Sp)(O:ai),g.aS p O []->(OY cf y t c x.ntmps x.results.toList h v ⟨[],[],m,j,k,0,0,[]⟩).aS p O [])(bg:∀D L,F D≠U (.bI L))
  (hF:∀D o,eY z D->F D=U o->∃N,run u M Q bB H N g (gg glv D) k []=U o):D4 P u M Q G t F:=by
 intro bl br bs bt a h2 h3 h4 xh D o ho hx af W ag hH;rw[a0] at a;cases a;rw[a1] at h2;cases h2;rw[a3] at h3;cases h3;rw[e] at h4;cases h4;obtain⟨N,hN⟩:=hF xh o (UT af hx) ho;obtain⟨B,hL⟩:=bf W ag;obtain⟨bk,hv,q⟩:=acy an aA hG e hl a4 a9 ba bb hq bc bd ag hL hN hx af hH;rw[<-hv];refine azo (p:=LP P u W H X z D o) (cf:=cf) (al W _ (acv W)) (λs r q=> ?_) hf hb hd aC rfl (ht _ _ bk) (hL.acx D) q;obtain⟨-,L,h5,-⟩:=q;exact bg xh L (by rw[ho,h5])
end
def anB:Op->Bool
 |.move _|.assign _|.fieldAddr _ _ _|.field _ _ _|.load _ _|.indexAddr _ _ _|.build _ _|.index _ _ _|.unOp _ _ _|.convert _ _ _|.makeInterface _ _|.makeFunc _ _ _|.extract _ _|.nilCheck _|.alloc _|.box _ _|.pick _ _ _=>J
 |.binOp X _ _ _ _=>match X with
  |.eql|.neq=>E
  |_=>J
 |_=>E
def acz(X:bF)(m:OM)(s:S):Bool:=(Ds X m s).isSome
def azs{X:bF}{m:OM}(h:acz X m w=E):Ds X m w=none:=by
 simpa[acz] using h
def UY(R:bF)(O:qH)(m:OM)(s:S)(X:S->Fx->T)(Q:C->S->T)(V:Fx):T:=
 if anB m.o.op then match gR R m s with
  |.ok W=>X W V
  |.bi b W=>.bi b (X W V)
  |.split b N M=>Dr s V b (X N) (X M)
  |.no L=>.stuck L
 else if acz R m s then BC R O m s X Q V else match BA R m s with
 |U (e,H,G,P)=>Fj e (λg F=>O (.fn g) (P++F) s (λv W=>X (W.put m.o.dst v) (pU s V)) Q) H G
 |none=>
 match eH R s m.o with
 |.call (.fn g) P=>O (.fn g) P s (λv W=>X (W.put m.o.dst v) (pU s V)) Q
 |.call (.yl n) P=>if m.so then O (.yl n) P s (λv W=>X (W.put m.o.dst v) (pU s V)) Q else .stuck ""
 |.bI v=>Q v s
 |.no=>.stuck ""
 |.op=>match Bz R m s X V with
  |U t=>t
  |none=>match fj R m.o m.bP m.dr s with
  |U b=>.bi b.bi (.new b.e b.x s.rs b.s.rs (X b.s (pU s V)))
  |none=>match gR R m s with
  |.ok W=>X W V
  |.bi b W=>.bi b (X W V)
  |.split b N M=>Dr s V b (X N) (X M)
  |.no L=>.stuck L
def azt(X:bF)(R:qH)(m:OM)(s:S)(Q:S->Fx->T)(P:C->S->T)(O:Fx):UY X R m s Q P O=BC X R m s Q P O:=by
 unfold UY;split;rename_i W;unfold BC;cases V:m.o.op<;>rw[V] at W<;>simp only[anB,jB] at W<;>try(simp[BA,Ds,eH,Bz,fj,V]<;>rfl)
 rename_i N t x y z;cases N<;>simp only[jB] at W<;>(simp[BA,Ds,eH,Bz,fj,V]<;>rfl);split;rfl;rename_i M;unfold BC;rw[azs (by simpa using M)];cases BA X m s<;>rfl
def OM.up(n:Nat)(m:OM):OM:={m with ix:=m.ix+n}
def UZ(bP:Nat->Bool)(X W:Bool)(k:Nat):∀(l:pQ)(j n:Nat),hJ bP X W j (n+k) l=(hJ bP X W j n l).map (OM.up k)
 |[],_,_=>rfl
 |o::r,j,n=>by
  simp only[hJ,dU];congr 1;rw[<-UZ bP X W k r];congr 1;split<;>omega
def azu(k:Nat)(l:cZ)(X:aq):Kv (l.map (OM.up k)) X=(Kv l X).map (OM.up k):=by
 simp only[Kv,List.map_filterMap,dS]
def acA(k:Nat)(X:aq):∀l:cZ,BH X (l.map (OM.up k))=BH X l
 |[]=>rfl
 |x::r=>by simp only[dU,BH,acA k X r,Oo];rfl
def anC(k:Nat)(X:aq):∀(l W:cZ),uY X (W.map (OM.up k)) (l.map (OM.up k))=(uY X W l).map (OM.up k)
 |[],_=>rfl
 |m::r,W=>by
  simp only[dU,uY];congr 1;have h:=acA k X (m::r);simp only[dU] at h;rw[h,Oo];rfl;rw[<-anC k X r (W++[m]),Hq];rfl
def anD(k:Nat)(X:dQ):∀(l:cZ)(done:aq),Fm X done (l.map (OM.up k))=Fm X done l
 |[],_=>rfl
 |x::r,done=>by simp only[dU,Fm,anD k X r];rfl
def azv(k a b:Nat):(a+k !=b+k)=(a !=b):=by
 rw[sx];simp
def azw(k:Nat)(X:dQ)(x y:OM):uX X (OM.up k x) (OM.up k y)=uX X x y:=by
 have h:((OM.up k x).ix !=(OM.up k y).ix)=(x.ix !=y.ix):=azv k _ _;unfold uX Ku OJ;rw[h];rfl
def anE(k:Nat)(X:dQ)(W:aq):∀l:cZ,Fl X W (l.map (OM.up k))=Fl X W l
 |[]=>rfl
 |x::r=>by
  simp only[dU,Fl,anE k X W r,Oo];congr 2;funext y;simp only[Function.comp,azw];rfl
def anF(k:Nat):∀l:aq,nJ (l.map (· +k))=nJ l
 |[]=>rfl
 |x::r=>by
  simp only[dU,nJ,anF k r];congr 2;rw[sx];simp
def qc(X:dQ)(n:Nat):cZ:=uY (pV X.toList) [] (Kv (hJ (OL X.toList (pV X.toList)) E J 0 n X.toList) (OK X.toList X.size []))
def azx(X:dQ)(n:Nat):qc X n=(qc X 0).map (OM.up n):=by
 unfold qc;rw[show hJ (OL X.toList (pV X.toList)) E J 0 n X.toList=(hJ (OL X.toList (pV X.toList)) E J 0 0 X.toList).map (OM.up n) by rw[<-UZ];simp,azu,<-anC];rfl
def acC(X:dQ)(n:Nat):Option cZ:=match Kw X 0 with
 |U l=>U (l.map (OM.up n))
 |none=>Z
def anG(X:dQ)(n:Nat):Kw X n=if Tp X.toList (pV X.toList)&&Fm X [] (qc X n)&&Fl X (pV X.toList) (qc X n)&&nJ ((qc X n).filterMap (·.o.dst))&&nJ ((qc X n).map (·.j))&&nJ (((qc X n).filter λm=>gZ m.o.op).map (·.ix))&&(qc X n).length==X.size&&(e8 X.size).all (λi=>(qc X n).any λm=>m.j==i) then U (qc X n) else none:=rfl
def azy(X:dQ)(n:Nat):acC X n=Kw X n:=by
 unfold acC;rw[anG X n,anG X 0,azx X n,anD,anE];have V:((qc X 0).map (OM.up n)).filterMap (·.o.dst)=(qc X 0).filterMap (·.o.dst):=by rw[aJn];rfl
 have R:((qc X 0).map (OM.up n)).map (·.j)=(qc X 0).map (·.j):=by rw[oJ];rfl
 have Q:(((qc X 0).map (OM.up n)).filter λm=>gZ m.o.op).map (·.ix)=(((qc X 0).filter λm=>gZ m.o.op).map (·.ix)).map (· +n):=by rw[avH,oJ,oJ];rfl
 have P:∀i,(((qc X 0).map (OM.up n)).any λm=>m.j==i)=((qc X 0).any λm=>m.j==i):=λi=>by rw[ajp];rfl
 rw[V,R,Q,anF,pN];simp only[P];split;rename_i l h;split at h;rename_i W;cases h;rw[aL W];cases h;rename_i h;split at h;cases h;rename_i W;rw[aT W]
def anH(W:Bool)(X:dQ)(n:Nat):Dz W X n=(Dz W X 0).map (OM.up n)/\DA W X n=(DA W X 0).map (OM.up n):=by
 unfold Dz DA;rw[show hJ (λ_=>E) E J 0 n X.toList=(hJ (λ_=>E) E J 0 0 X.toList).map (OM.up n) by rw[<-UZ];simp,avH,avH];exact⟨rfl,rfl⟩
def azz(W:Bool)(X:dQ)(n:Nat):KG W X n=KG W X 0:=by
 unfold KG;obtain⟨V,R⟩:=anH W X n;rw[V,R,show hJ (λ_=>E) E J 0 n X.toList=(hJ (λ_=>E) E J 0 0 X.toList).map (OM.up n) by rw[<-UZ];simp];unfold aan;rw[<-Hq];have Q:∀l:cZ,(l.map (OM.up n)).filterMap (·.o.dst)=l.filterMap (·.o.dst):=λl=>by rw[aJn];rfl
 have P:∀l:cZ,(l.map (OM.up n)).map (·.j)=l.map (·.j):=λl=>by rw[oJ];rfl
 rw[Q,P,pN];simp only[Oo,ajp,Function.comp_def];rfl
def U0(V:bF)(W:Bool)(X:dQ)(s:S):Option OP:=
 if(!W||(aam V s X.toList||(V.ma&&X.toList.any λo=>ajK o.op))&&BH (pV X.toList) (DA W X 0))&&KG W X 0 then(Fs V ((Dz W X 0).map (OM.up (Y s.ao))) (s.room (mA X.toList))).bind (chI V ((Dz W X 0).map (OM.up (Y s.ao))) ((DA W X 0).map (OM.up (Y s.ao)))) else Z
def azA(V:bF)(X:Bool)(W:dQ)(s:S):U0 V X W s=KH V X W s:=by
 unfold U0 KH;obtain⟨Q,R⟩:=anH X W (Y s.ao);rw[<-Q,<-R,azz X W (Y s.ao),R,acA]
def IA{X:Type}(l:List X):(List X->T)->T:=zJ (motive:=λ_=>(List X->T)->T) (λk=>k []) (λx _ W k=>W λV=>k (x::V)) l
def acD{W:Type}:∀(l:List W)(k:List W->T),IA l k=k l
 |[],_=>rfl
 |x::X,k=>acD X λX=>k (x::X)
def cM(n:Nat)(k:Nat->T):T:=Hz (motive:=λ_=>T) (k 0) (λm _=>k (Nat.succ m)) n
def lq:∀(n:Nat)(k:Nat->T),cM n k=k n
 |0,_=>rfl
 |_+1,_=>rfl
def S.acG(s:S)(k:S->T):T:=S.rec (motive:=λ_=>T) (λX b W V R ax Q P=>IA X λX=>IA b λb=>cM W λW=>cM V λV=>IA R λR=>cM ax λax=>cM Q λQ=>IA P λP=>k ⟨X,b,W,V,R,ax,Q,P⟩) s
def azB(s:S)(k:S->T):s.acG k=k s:=by
 cases s;simp only[S.acG,acD,lq]
def P7{X:Type}(l:List X)(k:List X->T):T:=zJ (motive:=λ_=>T) (k []) (λx W _=>k (x::W)) l
def azC{X:Type}(l:List X)(k:List X->T):P7 l k=k l:=by cases l<;>rfl
def S.acH(s:S)(k:S->T):T:=S.rec (motive:=λ_=>T) (λX b W V R ax Q P=>P7 X λX=>P7 b λb=>cM W λW=>cM V λV=>P7 R λR=>cM ax λax=>cM Q λQ=>P7 P λP=>k ⟨X,b,W,V,R,ax,Q,P⟩) s
def azD(s:S)(k:S->T):s.acH k=k s:=by
 cases s;simp only[S.acH,azC,lq]
def D5(X:bF)(W:qH)(V:dQ)(k:S->T)(R:C->S->T):cZ->S->Fx->T
 |[],s,_=>k s
 |m::Q,s,P=>s.acH λs=>Tk V m s P (UY X W m s (D5 X W V k R Q) R) (D5 X W V k R Q (s.put m.o.dst (.bO [])))
def P8(X:bF)(W:qH)(R:dQ)(k:S->T)(V:C->S->T):∀(l:cZ),D5 X W R k V l=oM X W R k V l
 |[]=>by funext s P;rfl
 |m::Q=>by
  funext s P;have:UY X W m s (D5 X W R k V Q) V=BC X W m s (oM X W R k V Q) V:=by
   funext P;rw[azt,P8 X W R k V Q]
  simp only[D5,oM,azD];rw[this,P8 X W R k V Q]
def P9(n:Int)(k:Int->T):T:=Int.rec (motive:=λ_=>T) (λn=>cM n λn=>k (ajv n)) (λn=>cM n λn=>k (ajs n)) n
def azE:∀(n:Int)(k:Int->T),P9 n k=k n
 |.ofNat n,k=>lq n λn=>k (ajv n)
 |.negSucc n,k=>lq n λn=>k (ajs n)
def K.deep(e:K):(K->T)->T:=K.rec (motive_1:=λ_=>(K->T)->T) (motive_2:=λ_=>(BE->T)->T) (motive_3:=λ_=>(RE->T)->T) (λn k=>P9 n λn=>k (.c n)) (λn k=>cM n λn=>k (.v n)) (λo q a b X W k=>X λa=>W λb=>k (.bin o q a b)) (λq a X k=>X λa=>k (.conv q a)) (λr V k=>V λr=>k (.len r)) (λm a b X W k=>X λa=>W λb=>k (.mm m a b)) (λb x y W P O k=>W λb=>P λx=>O λy=>k (.eB b x y)) (λr i j V R k=>V λr=>R λi=>cM j λj=>k (.cell r i j)) (λr i V R k=>V λr=>R λi=>k (.oe r i)) (λr n a b c j V X W Q k=>V λr=>X λa=>W λb=>Q λc=>cM n λn=>cM j λj=>k (.look r n a b c j)) (λb k=>k (.c b)) (λn k=>cM n λn=>k (.v n)) (λo a b X W k=>X λa=>W λb=>k (.cmp o a b)) (λa X k=>X λa=>k (.not a)) (λa b X W k=>X λa=>W λb=>k (.and a b)) (λa b X W k=>X λa=>W λb=>k (.beq a b)) (λb x y W P O k=>W λb=>P λx=>O λy=>k (.eB b x y)) (λr i j V R k=>V λr=>R λi=>cM j λj=>k (.cell r i j)) (λa b X W k=>X λa=>W λb=>k (.seq a b)) (λr n a b c j V X W Q k=>V λr=>X λa=>W λb=>Q λc=>cM n λn=>cM j λj=>k (.look r n a b c j)) (λr n a b c V X W Q k=>V λr=>X λa=>W λb=>Q λc=>cM n λn=>k (.has r n a b c)) (λn k=>cM n λn=>k (.v n)) (λr i j q V R k=>V λr=>R λi=>cM j λj=>k (.cell r i j q)) (λv k=>k (.k v)) e
def BE.deep(e:BE):(BE->T)->T:=BE.rec (motive_1:=λ_=>(K->T)->T) (motive_2:=λ_=>(BE->T)->T) (motive_3:=λ_=>(RE->T)->T) (λn k=>P9 n λn=>k (.c n)) (λn k=>cM n λn=>k (.v n)) (λo q a b X W k=>X λa=>W λb=>k (.bin o q a b)) (λq a X k=>X λa=>k (.conv q a)) (λr V k=>V λr=>k (.len r)) (λm a b X W k=>X λa=>W λb=>k (.mm m a b)) (λb x y W P O k=>W λb=>P λx=>O λy=>k (.eB b x y)) (λr i j V R k=>V λr=>R λi=>cM j λj=>k (.cell r i j)) (λr i V R k=>V λr=>R λi=>k (.oe r i)) (λr n a b c j V X W Q k=>V λr=>X λa=>W λb=>Q λc=>cM n λn=>cM j λj=>k (.look r n a b c j)) (λb k=>k (.c b)) (λn k=>cM n λn=>k (.v n)) (λo a b X W k=>X λa=>W λb=>k (.cmp o a b)) (λa X k=>X λa=>k (.not a)) (λa b X W k=>X λa=>W λb=>k (.and a b)) (λa b X W k=>X λa=>W λb=>k (.beq a b)) (λb x y W P O k=>W λb=>P λx=>O λy=>k (.eB b x y)) (λr i j V R k=>V λr=>R λi=>cM j λj=>k (.cell r i j)) (λa b X W k=>X λa=>W λb=>k (.seq a b)) (λr n a b c j V X W Q k=>V λr=>X λa=>W λb=>Q λc=>cM n λn=>cM j λj=>k (.look r n a b c j)) (λr n a b c V X W Q k=>V λr=>X λa=>W λb=>Q λc=>cM n λn=>k (.has r n a b c)) (λn k=>cM n λn=>k (.v n)) (λr i j q V R k=>V λr=>R λi=>cM j λj=>k (.cell r i j q)) (λv k=>k (.k v)) e
def RE.deep(e:RE):(RE->T)->T:=RE.rec (motive_1:=λ_=>(K->T)->T) (motive_2:=λ_=>(BE->T)->T) (motive_3:=λ_=>(RE->T)->T) (λn k=>P9 n λn=>k (.c n)) (λn k=>cM n λn=>k (.v n)) (λo q a b X W k=>X λa=>W λb=>k (.bin o q a b)) (λq a X k=>X λa=>k (.conv q a)) (λr V k=>V λr=>k (.len r)) (λm a b X W k=>X λa=>W λb=>k (.mm m a b)) (λb x y W P O k=>W λb=>P λx=>O λy=>k (.eB b x y)) (λr i j V R k=>V λr=>R λi=>cM j λj=>k (.cell r i j)) (λr i V R k=>V λr=>R λi=>k (.oe r i)) (λr n a b c j V X W Q k=>V λr=>X λa=>W λb=>Q λc=>cM n λn=>cM j λj=>k (.look r n a b c j)) (λb k=>k (.c b)) (λn k=>cM n λn=>k (.v n)) (λo a b X W k=>X λa=>W λb=>k (.cmp o a b)) (λa X k=>X λa=>k (.not a)) (λa b X W k=>X λa=>W λb=>k (.and a b)) (λa b X W k=>X λa=>W λb=>k (.beq a b)) (λb x y W P O k=>W λb=>P λx=>O λy=>k (.eB b x y)) (λr i j V R k=>V λr=>R λi=>cM j λj=>k (.cell r i j)) (λa b X W k=>X λa=>W λb=>k (.seq a b)) (λr n a b c j V X W Q k=>V λr=>X λa=>W λb=>Q λc=>cM n λn=>cM j λj=>k (.look r n a b c j)) (λr n a b c V X W Q k=>V λr=>X λa=>W λb=>Q λc=>cM n λn=>k (.has r n a b c)) (λn k=>cM n λn=>k (.v n)) (λr i j q V R k=>V λr=>R λi=>cM j λj=>k (.cell r i j q)) (λv k=>k (.k v)) e
mutual
def K.fF:∀(e:K)(k:K->T),e.deep k=k e
 |.c n,k=>by show(P9 n λn=>k (.c n))=_;rw[azE]
 |.v n,k=>by show(cM n λn=>k (.v n))=_;rw[lq]
 |.bin o q a b,k=>by show(K.deep a λa=>K.deep b λb=>k (.bin o q a b))=_;rw[K.fF a,K.fF b]
 |.conv q a,k=>by show(K.deep a λa=>k (.conv q a))=_;rw[K.fF a]
 |.len r,k=>by show(RE.deep r λr=>k (.len r))=_;rw[RE.fF r]
 |.mm m a b,k=>by show(K.deep a λa=>K.deep b λb=>k (.mm m a b))=_;rw[K.fF a,K.fF b]
 |.eB b x y,k=>by show(BE.deep b λb=>K.deep x λx=>K.deep y λy=>k (.eB b x y))=_;rw[BE.fF b,K.fF x,K.fF y]
 |.cell r i j,k=>by show(RE.deep r λr=>K.deep i λi=>cM j λj=>k (.cell r i j))=_;rw[RE.fF r,K.fF i,lq]
 |.oe r i,k=>by show(RE.deep r λr=>K.deep i λi=>k (.oe r i))=_;rw[RE.fF r,K.fF i]
 |.look r n a b c j,k=>by show(RE.deep r λr=>K.deep a λa=>K.deep b λb=>K.deep c λc=>cM n λn=>cM j λj=>k (.look r n a b c j))=_;rw[RE.fF r,K.fF a,K.fF b,K.fF c,lq,lq]
def BE.fF:∀(e:BE)(k:BE->T),e.deep k=k e
 |.c b,k=>rfl
 |.v n,k=>by show(cM n λn=>k (.v n))=_;rw[lq]
 |.cmp o a b,k=>by show(K.deep a λa=>K.deep b λb=>k (.cmp o a b))=_;rw[K.fF a,K.fF b]
 |.not a,k=>by show(BE.deep a λa=>k (.not a))=_;rw[BE.fF a]
 |.and a b,k=>by show(BE.deep a λa=>BE.deep b λb=>k (.and a b))=_;rw[BE.fF a,BE.fF b]
 |.beq a b,k=>by show(BE.deep a λa=>BE.deep b λb=>k (.beq a b))=_;rw[BE.fF a,BE.fF b]
 |.eB b x y,k=>by show(BE.deep b λb=>BE.deep x λx=>BE.deep y λy=>k (.eB b x y))=_;rw[BE.fF b,BE.fF x,BE.fF y]
 |.cell r i j,k=>by show(RE.deep r λr=>K.deep i λi=>cM j λj=>k (.cell r i j))=_;rw[RE.fF r,K.fF i,lq]
 |.seq a b,k=>by show(RE.deep a λa=>RE.deep b λb=>k (.seq a b))=_;rw[RE.fF a,RE.fF b]
 |.look r n a b c j,k=>by show(RE.deep r λr=>K.deep a λa=>K.deep b λb=>K.deep c λc=>cM n λn=>cM j λj=>k (.look r n a b c j))=_;rw[RE.fF r,K.fF a,K.fF b,K.fF c,lq,lq]
 |.has r n a b c,k=>by show(RE.deep r λr=>K.deep a λa=>K.deep b λb=>K.deep c λc=>cM n λn=>k (.has r n a b c))=_;rw[RE.fF r,K.fF a,K.fF b,K.fF c,lq]
def RE.fF:∀(e:RE)(k:RE->T),e.deep k=k e
 |.v n,k=>by show(cM n λn=>k (.v n))=_;rw[lq]
 |.cell r i j q,k=>by show(RE.deep r λr=>K.deep i λi=>cM j λj=>k (.cell r i j q))=_;rw[RE.fF r,K.fF i,lq]
 |.k v,k=>rfl
end
def C.deep(v:C):(C->T)->T:=C.rec (motive_1:=λ_=>(C->T)->T) (motive_2:=λ_=>(ap->T)->T) (λq e k=>e.deep λe=>k (.int q e)) (λb k=>b.deep λb=>k (.bool b)) (λr k=>r.deep λr=>k (.ah r)) (λi o k=>cM i λi=>cM o λo=>k (.loc i o)) (λr w i o k=>r.deep λr=>i.deep λi=>cM w λw=>cM o λo=>k (.el r w i o)) (λi o l c k=>cM i λi=>cM o λo=>cM l λl=>cM c λc=>k (.jp i o l c)) (λl X k=>X λl=>k (.agg l)) (λl X k=>X λl=>k (.bO l)) (λf l X k=>X λl=>cM f λf=>k (.fn f l)) (λt x W k=>W λx=>k (.ik t x)) (λn k=>cM n λn=>k (.yl n)) (λk=>k .any) (λi k=>cM i λi=>k (.mp i)) (λe R V Q k=>e.deep λe=>Q λV=>k (.gz e R V)) (λk=>k []) (λ_ _ W P k=>W λx=>P λO=>k (x::O)) v
def C.D6(l:ap):(ap->T)->T:=C.rec_1 (motive_1:=λ_=>(C->T)->T) (motive_2:=λ_=>(ap->T)->T) (λq e k=>e.deep λe=>k (.int q e)) (λb k=>b.deep λb=>k (.bool b)) (λr k=>r.deep λr=>k (.ah r)) (λi o k=>cM i λi=>cM o λo=>k (.loc i o)) (λr w i o k=>r.deep λr=>i.deep λi=>cM w λw=>cM o λo=>k (.el r w i o)) (λi o l c k=>cM i λi=>cM o λo=>cM l λl=>cM c λc=>k (.jp i o l c)) (λl X k=>X λl=>k (.agg l)) (λl X k=>X λl=>k (.bO l)) (λf l X k=>X λl=>cM f λf=>k (.fn f l)) (λt x W k=>W λx=>k (.ik t x)) (λn k=>cM n λn=>k (.yl n)) (λk=>k .any) (λi k=>cM i λi=>k (.mp i)) (λe R V Q k=>e.deep λe=>Q λV=>k (.gz e R V)) (λk=>k []) (λ_ _ W P k=>W λx=>P λO=>k (x::O)) l
mutual
def C.fF:∀(v:C)(k:C->T),v.deep k=k v
 |.int q e,k=>by show(K.deep e λe=>k (.int q e))=_;rw[K.fF]
 |.bool b,k=>by show(BE.deep b λb=>k (.bool b))=_;rw[BE.fF]
 |.ah r,k=>by show(RE.deep r λr=>k (.ah r))=_;rw[RE.fF]
 |.loc i o,k=>by show(cM i λi=>cM o λo=>k (.loc i o))=_;rw[lq,lq]
 |.el r w i o,k=>by show(RE.deep r λr=>K.deep i λi=>cM w λw=>cM o λo=>k (.el r w i o))=_;rw[RE.fF,K.fF,lq,lq]
 |.jp i o l c,k=>by show(cM i λi=>cM o λo=>cM l λl=>cM c λc=>k (.jp i o l c))=_;rw[lq,lq,lq,lq]
 |.agg l,k=>by show(C.D6 l λl=>k (.agg l))=_;rw[C.IB l]
 |.bO l,k=>by show(C.D6 l λl=>k (.bO l))=_;rw[C.IB l]
 |.fn f l,k=>by show(C.D6 l λl=>cM f λf=>k (.fn f l))=_;rw[C.IB l,lq]
 |.ik t x,k=>by show(C.deep x λx=>k (.ik t x))=_;rw[C.fF x]
 |.yl n,k=>by show(cM n λn=>k (.yl n))=_;rw[lq]
 |.any,k=>rfl
 |.mp i,k=>by show(cM i λi=>k (.mp i))=_;rw[lq]
 |.gz e W X,k=>by show(K.deep e λe=>C.D6 X λX=>k (.gz e W X))=_;rw[K.fF,C.IB X]
def C.IB:∀(l:ap)(k:ap->T),C.D6 l k=k l
 |[],k=>rfl
 |x::X,k=>by show(C.deep x λx=>C.D6 X λX=>k (x::X))=_;rw[C.fF x,C.IB X]
end
def acJ(l:bG):(bG->T)->T:=zJ (motive:=λ_=>(bG->T)->T) (λk=>k []) (λx _ V k=>Option.rec (motive:=λ_=>T) (V λX=>k (Z::X)) (λb=>Prod.rec (motive:=λ_=>T) (λt W=>cM t λt=>C.D6 W λW=>V λX=>k (U (t,W)::X)) b) x) l
def acO:∀(l:bG)(k:bG->T),acJ l k=k l
 |[],_=>rfl
 |Z::X,k=>acO X _
 |U (t,W)::X,k=>by
  show(cM t λt=>C.D6 W λW=>acJ X λX=>k (U (t,W)::X))=_;rw[lq,C.IB,acO]
def S.deep(s:S)(k:S->T):T:=S.rec (motive:=λ_=>T) (λX b W V R ax Q P=>C.D6 X λX=>acJ b λb=>cM W λW=>cM V λV=>IA R λR=>cM ax λax=>cM Q λQ=>IA P λP=>k ⟨X,b,W,V,R,ax,Q,P⟩) s
def fF(s:S)(k:S->T):s.deep k=k s:=by
 cases s;simp only[S.deep,acD,lq,C.IB,acO]
def acQ(k:XE->S->T):XE->S->T:=λe s=>s.deep (k e)
def azF(k:XE->S->T):acQ k=k:=by funext e s;exact fF s (k e)
def qe(l:aq):Nat:=zJ (motive:=λ_=>Nat) 0 (λd _ m=>bX (mP 1 d) m) l
def FR(m n:Nat):Bool:=Kd (motive:=λ_=>Bool) J E (jo (Nat.land 1 (avN m n)) 0)
def anI(m n:Nat):FR m n=m.testBit n:=by
 have:m.testBit n= !(jo (Nat.land 1 (avN m n)) 0):=by
  show((1&&&(m>>>n))!=0)= !(jo (1&&&(m>>>n)) 0);cases h:jo (1&&&(m>>>n)) 0 with
  |true=>rw[aI6 h];rfl
  |false=>simp only[bne,Bool.not_false,iw,beq_eq_false_iff_ne];exact λe=>by rw[e] at h;cases h
 rw[this,FR];cases jo (Nat.land 1 (avN m n)) 0<;>rfl
def U4:∀(l:aq)(n:Nat),(qe l).testBit n=l.contains n
 |[],n=>by simp[qe]
 |d::l,n=>by
  have:qe (d::l)=(1<<<d)|||qe l:=rfl;rw[this,E7,U4 l n,avz,aJe];rw[sx];simp only[jL,ce,qD,dV];exact⟨λh=>h.imp Eq.symm id,λh=>h.imp Eq.symm id⟩
def azG(l:aq)(n:Nat):FR (qe l) n=l.contains n:=by rw[anI,U4]
def U5(a:fP)(m X:Nat)(W:ap):Nat->ap->ap
 |_,[]=>[]
 |n,x::V=>(if FR X n then(wu n a.tm W).getD (if FR m n then .any else x) else if FR m n then .any else x)::U5 a m X W (n+1) V
def anJ{n:Nat}:∀{W:List (Nat×LK)}{X:ap},(W.map (·.1)).contains n=E->wu n W X=Z
 |[],X,_=>by cases X<;>rfl
 |(t,k)::r,[],_=>rfl
 |(t,k)::r,v::R,h=>by
  simp only[dU,List.contains_cons,wb] at h;have V:(t==n)=false:=by
   have:=h.1;simp only[beq_eq_false_iff_ne,ne_eq] at this⊢;exact λe=>this e.symm
  simp only[wu,V,jB,gw];exact anJ h.2
def anK(a:fP)(X:aq)(W:ap):∀(n:Nat)(l:ap),U5 a (qe X) (qe (a.tm.map (·.1))) W n l=BF a X W n l
 |_,[]=>rfl
 |n,x::V=>by
  simp only[U5,BF,anK a X W (n+1) V,azG];cases R:(a.tm.map (·.1)).contains n with
  |true=>rfl
  |false=>rw[anJ R];rfl
def Qa(m:Nat):Nat->ap->ap->Bool
 |_,[],[]=>J
 |n,x::X,y::W=>(FR m n||C.aR x y)&&Qa m (n+1) X W
 |_,_,_=>E
def acR(a:fP)(X:aq):∀(n:Nat)(l k:ap),Qa (bX (qe X) (qe (a.tm.map (·.1)))) n l k=zQ a X n l k
 |_,[],[]=>rfl
 |_,[],_::_=>rfl
 |_,_::_,[]=>rfl
 |n,x::W,y::V=>by
  simp only[Qa,zQ,acR a X (n+1) W V];congr 1;have:FR (bX (qe X) (qe (a.tm.map (·.1)))) n=(a.tm.any (·.1==n)||X.contains n):=by
   rw[anI];change((qe X)|||(qe (a.tm.map (·.1)))).testBit n=_;rw[E7,U4,U4,Bool.or_comm];congr 1;rw[sx,qD,kW];simp only[iD,dK]
  rw[this]
def acU(a:fP)(X:aq)(s:S):S:=
 let r:ap×S:=S.cT {s with ax:=s.ax+1,rs:=jF a s} a.ks
 {r.2 with tmps:=U5 a (qe X) (qe (a.tm.map (·.1))) r.1 0 s.tmps,ao:=uV a (r.1.drop (Y a.tm)) 0 s.ao}
def azH(a:fP)(X:aq)(s:S):acU a X s=rG a X s:=by
 simp only[acU,rG,anK]
def acY(W:fP)(V:aq)(s:S)(k:XE->S->T):XE->S->T
 |.normal,X=>if Qa (bX (qe V) (qe (W.tm.map (·.1)))) 0 s.tmps X.tmps&&tW W 0 s.ao X.ao&&tX X W.ks (kX W X)&&zP (jF W s) X.rs&&HW (jF W s) (HV W X)&&decide (X.pd=s.pd) then .back s.ax (kX W X) else .stuck (ajL W s X)
 |e,X=>k e X
def azI(X:fP)(W:aq)(s:S)(k:XE->S->T):acY X W s k=Tu X W s k:=by
 funext e V;cases e<;>simp only[acY,Tu,acR]
def lu(X:bF):Nat->FuncId->Code->S->YH->(XE->S->T)->T
 |0,_,_,_,_,_=>.stuck ""
 |n+1,V,c,s,W,k=>
  match c with
  |.skip=>k .normal s
  |.label _=>k .normal s
  |.ret=>k .ret s
  |.exit id=>k (.exit id) s
  |.seq a b=>lu X n V a s W (Tq (λP=>lu X n V b P W k) k)
  |.block id a=>lu X n V a s W (aaf id k)
  |.scope a=>lu X n V a s W k
  |.cond c a b=>match s.ev X.gl c with
   |.bool (.c J)=>lu X n V a s W k
   |.bool (.c E)=>lu X n V b s W k
   |.bool x=>match c with
    |.tmp t=>.aV x (lu X n V a {s with tmps:=s.tmps.set t (.bool (.c J))} W k) (lu X n V b {s with tmps:=s.tmps.set t (.bool (.c E))} W k)
    |_=>.stuck ""
   |_=>.stuck ""
  |.region id R O=>match Tz X V id s with
   |U (e,G,gQ,ae)=>KJ e gQ (aar (λP=>lu X n V (.region id R O) P W k) ae) (λP=>lu X n V (.region id R O) P W k) G
   |none=>s.acG λs=>if O then
    match U0 X (!X.Oy V id) R s with
    |U c=>OV X (kJ X (λf c s k=>lu X n f c s W k) W) R (acQ k) c
    |none=>match acC R (Y s.ao) with
    |U M=>if !Kx X R.toList then .stuck "" else D5 X (zU X (Fq X R λf c s k=>lu X n f c s jg k) W) R (k .normal) (λv=>k (.bI v)) M (s.BJ R M) []
    |none=>match U0 X E R s with
     |U c=>OV X (kJ X (λf c s k=>lu X n f c s W k) W) R (acQ k) c
     |none=>.stuck ""
   else
   D5 X (aag (X.Oy V (id+1000000)) X (kJ X (λf c s k=>lu X n f c s W k) W)) R (k .normal) (λv=>k (.bI v)) (hJ (λ_=>E) J E 0 (Y s.ao) R.toList) (s.room (mA R.toList)) []
  |.loop a=>match(Code.first a).map (X.loop V) with
   |U (.inv Q)=>
    if !(aas Q s).isEmpty then lu X n V (.loop a) (s.dv Q) W k else
    if !s.bd|| !tX s (Q.at s).ks (kX (Q.at s) s)|| !Qa (bX (qe (Code.o9 a)) (qe ((Q.at s).tm.map (·.1)))) 0 s.tmps s.tmps|| !tW (Q.at s) 0 s.ao s.ao|| !zP (jF (Q.at s) s) s.rs|| !HW (jF (Q.at s) s) (HV (Q.at s) s) then .stuck (ajM (Q.at s) (Code.o9 a) s) else
    .loop s.ax (Q.at s).ks (kX (Q.at s) s) (lu X n V a (acU (Q.at s) (Code.o9 a) s) W (acY (Q.at s) (Code.o9 a) s k))
   |_=>lu X n V a s W (Tq (λP=>lu X n V (.loop a) P W k) k)
  |.rangeFunc f L assign body=>match s.ev X.gl f with
   |.fn g N=>match X.inl g with
    |U (c,F,[])=>
     if !s.fp N||s.yj (Y s.pd)||C.pX (Y s.pd) N||ku assign||ku body then .stuck "" else
     lu X n g c (KI s F N)
      (OS (Y s.pd) L.size λD H B A=>
       lu X n V assign (DB H s L.toList D) jg (OQ (Y s.pd) λz=>
        lu X n V body (z.DC (Y s.pd) .busy) W (Tv (Y s.pd) H B A))) (H6 s k)
    |_=>.stuck ""
   |_=>.stuck ""
  |_=>.stuck ""
def Qb(X:bF):∀n,lu X n=gp X n
 |0=>by funext W c s V k;rfl
 |n+1=>by
  have R:=Qb X n;funext W c s V k;unfold lu gp;simp only[R,P8,azy,azA,azB,acR,azH,azI,azF];cases c<;>rfl
def acZ(X:bF)(n:Nat)(V:FuncId)(c:Code)(R:Nat)(Q:od)(W:ap)(s:S):T:=
 lu X n V c {s with tmps:=W++eF (R-Y W) (.bO [])} jg (TA X (Y s.ao) Q)
def azJ(X:bF)(n:Nat)(W:FuncId)(c:Code)(V:Nat)(R:od)(Q:ap)(s:S):acZ X n W c V R Q s=OX X n W c V R Q s:=by
 unfold acZ OX;rw[Qb]
def ac0(X:bF)(n:Nat)(Q:FuncId)(c:Code)(P:Nat)(O:od)(V:TypeId)(R:ap)(s:S):T:=match zV c with
 |U d=>D5 X (kJ X (λf c s k=>lu X n f c s jg k) jg) d.tZ (λW=>match W.tmps[d.te]? with
  |U (.loc i 0)=>if !rz V&&aP W.ao i&&decide (d.tf<Y W.tmps) then lu X n Q d.rest (W.put (U d.tf) (.fn d.g [.loc i 0])) jg (aau X (Y s.ao) V i O) else .stuck ""
  |_=>.stuck "") (λ_ _=>.stuck "") (hJ (λ_=>E) J E 0 (Y s.ao) d.tZ.toList) (({s with tmps:=R++eF (P-Y R) (C.bO [])}:S).room (mA d.tZ.toList)) []
 |none=>.stuck ""
def azK(X:bF)(n:Nat)(W:FuncId)(c:Code)(V:Nat)(R:od)(Q:TypeId)(P:ap)(s:S):ac0 X n W c V R Q P s=OY X n W c V R Q P s:=by
 unfold ac0 OY;cases zV c with
 |none=>rfl
 |some d=>
  simp only[Qb,P8];rfl
def anL:pQ->Option (FuncId×Nat)
 |[o]=>match o.op,o.guard,o.dst with
  |.defer X,Z,Z=>match X.callee,X.args.toList with
   |.value (.func g),[.tmp W]=>U (g,W)
   |_,_=>Z
  |_,_,_=>Z
 |_=>Z
def Qc:Code->Option (FuncId×Nat)
 |.region _ X E=>anL X.toList
 |_=>Z
def azL(cf:bF)(r:Nat)(j:od):XE->S->T
 |.normal,X=>t6 cf r j X
 |.ret,X=>t6 cf r j X
 |_,_=>.stuck "panic"
def U6(cf:bF)(n:Nat)(X:dQ)(k:S->T)(s:S):T:=D5 cf (kJ cf (λf c s k=>lu cf n f c s jg k) jg) X k (λ_ _=>.stuck "panic") (hJ (λ_=>E) J E 0 (Y s.ao) X.toList) (s.room (mA X.toList)) []
def ac1(cf:bF)(n r:Nat)(j:od):Code->S->T
 |.ret,s=>t6 cf r j s
 |.seq (.region _ X E) .ret,s=>U6 cf n X (t6 cf r j) s
 |_,_=>.stuck "early"
def LV(cf:bF)(n r:Nat)(j:od):Code->(S->T)->S->T
 |.region _ X E,k,s=>U6 cf n X k s
 |.seq a b,k,s=>LV cf n r j a (LV cf n r j b k) s
 |.cond c a .skip,k,s=>match s.ev cf.gl c with
  |.bool x=>.aV x (ac1 cf n r j a s) (k s)
  |_=>.stuck "cond"
 |_,_,_=>.stuck "prefix"
def U7(cf:bF)(n:Nat)(X:FuncId)(r:Nat)(j:od):Code->S->T
 |.seq a W,s=>match Qc a with
  |U (_,V)=>match s.tmps[V]? with
   |U (.loc i 0)=>if aP s.ao i then lu cf n X W s jg (azL cf r j) else .stuck "defer"
   |_=>.stuck "defer"
  |none=>LV cf n r j a (U7 cf n X r j W) s
 |_,_=>.stuck "no deferred call"
def ac2(cf:bF)(n:Nat)(W:FuncId)(c:Code)(V:Nat)(j:od)(X:ap)(s:S):T:=U7 cf n W (Y s.ao) j c {s with tmps:=X++eF (V-Y X) (.bO [])}
structure D7(P:Program)(g:FuncId):Prop where
 Ai:∀args W,(callFunc g args).run P W=.ok (.enter g args) W
 ret:∀(W:World)(b:Nat),CallsDIn Fence.wide 0 P g #[.pointer (U ⟨b,0,Z⟩)] .returning W λen u W'=>(∃v,en=.returned v)/\u=.returning/\W'=W
def D8:Code->Option FuncId
 |.seq a X=>match Qc a with
  |U (g,_)=>U g
  |none=>D8 X
 |_=>Z
section
variable{p:Sp}{cf:bF}{D:cq}{B:j8}{f:FuncId}{n r:Nat}{j:od}
def anM(z:jS p cf)(c:∀q e,¬p.R (.panicked q) e)(hY:rN p cf D.dF B jg){Q:Exit->Act->World->Prop}{u:dQ}{k:S->T}{a:Act}
  (hB:B.mF w N x b)(h:(U6 cf n u k w).aS p N b)(R:az p.S0 p.w0 D cf.ty x N w a e)(hg:fk cf.gl N)
  (hk:∀G F t A H r,bH w N x G F t->dq w.ax b r->az p.S0 p.w0 D cf.ty t F G A H->(k G).aS p F r->Q .normal A H):jN Z f p.P (.region y u E) Q a e:=by
 obtain⟨Rr,m⟩:=R.room (mA u.toList);refine u9 (n:=0) (wpIn_region ?_);unfold U6 at h;rw[P8,Qb] at h;have l:=BV (ops:=u) z.pt z.zM (Am Z) z.ll (LB z (LG z n).1 hY) (D:=D) (k:=k) (kp:=λ_ _=>.stuck "panic") (Q:=Q) (λq A H pd X hA hR=>(c q H hR).elim) (n:=0) (hJ (λ_=>E) J E 0 (Y w.ao) u.toList) 0 _ [] b N _ _ e
  (λy m' hi=>by have:=Lz _ _ _ _ _ _ _ _ hi;simpa using this) (hB.go m (dq.refl _ _)) h (λM hx=>by cases hx) Rr hg (λG F t A H r j g d o=>hk G F t A H r (m.trans j) g d o) (λv G F t A H r j g d o=>o.elim)
 rw[Uw] at l;simpa[SN] using l
def azM(y:jS p cf)(v:∀u e,¬p.R (.panicked u) e)(t:rN p cf D.dF B jg){Q:Exit->Act->World->Prop}{c:Code}{a:Act}
  (q:B.mF w N x b)(h:(ac1 cf n r j c w).aS p N b)(R:az p.S0 p.w0 D cf.ty x N w a e)(o:fk cf.gl N)
  (z:∀X M F H G A,az p.S0 p.w0 D cf.ty F M X H G->(t6 cf r j X).aS p M A->Q .ret H G):jN Z f p.P c Q a e:=by
 unfold ac1 at h;split at h;exact u9 (n:=0) (wpIn_ret (z w N x a e b R h));refine Ir (anM y v t q h R o ?_);intro X M F H G A _ _ m l;exact u9 (n:=0) (wpIn_ret (z X M F H G A m l));exact h.elim
def azN(g:jS p cf)(e:∀ch W,¬p.R (.panicked ch) W)(hY:rN p cf D.dF B jg):∀(c:Code)(k:S->T)(Q:Exit->Act->World->Prop)(s:S)(L:dG)(O:ai)(V:aq)(a:Act)(W:World),
  B.mF s O V L->(LV cf n r j c k s).aS p O L->az p.S0 p.w0 D cf.ty V O s a W->fk cf.gl O->
  (∀X N A H G w,bH s O V X N A->dq s.ax L w->az p.S0 p.w0 D cf.ty A N X H G->(k X).aS p N w->Q .normal H G)->
  (∀X N A H G w,az p.S0 p.w0 D cf.ty A N X H G->(t6 cf r j X).aS p N w->Q .ret H G)->jN Z f p.P c Q a W:=by
 intro c;induction c with
 |region i a0 d=>
  intro k Q s L O V a W F h R M v u;cases d with
  |true=>exact False.elim h
  |false=>exact anM g e hY F h R M v
 |seq x y ag af=>
  intro k Q s L O V a W F h R M v u;refine Ir (ag (LV cf n r j y k) _ s L O V a W F h R M ?_ ?_);intro X N A H G w q hL R' al;refine af k Q X w N A H G (F.go q hL) al R' (M.ext q.ext) ?_ u;intro s2 O2 V2 a2 W2 L2 an aA R2 aC;exact v s2 O2 V2 a2 W2 L2 (q.trans an) (dq.trans (m:=X.ax) hL aA q.ax) R2 aC;exact u
 |cond x y z af a1=>
  intro k Q s L O V a W F h R M v u;cases z with
  |skip=>
   simp only[LV] at h;split at h;rename_i b hc;have l:=dA R M x (by rw[hc];rfl);rw[hc] at l;cases o:b.ab O;exact Lu (t:=E) (by simpa[C.ab,o] using l) (u9 (n:=0) (wpIn_skip (v s O V a W L (bH.refl _ _ _) (dq.refl _ _) R (h.2 o))));exact Lu (t:=J) (by simpa[C.ab,o] using l) (azM g e hY F (h.1 o) R M u);exact h.elim
  |_=>exact False.elim h
 |_=>intro k Q s L O V a W F h R M v u;exact False.elim h
def anN(X:jS p cf){Q:Func}{a:Act}(R:az p.S0 p.w0 D cf.ty x N w a e)(h:(t6 cf r Q.results.toList w).aS p N b):
  LeavesInM Fence.wide 0 p.P Q a.tmps p.R [] .returning e:=by
 unfold t6 at h;split at h;rename_i l M;refine⟨_,Lg R X.ll M, ?_⟩;exact h N.y x _ (by rw[X.pt];exact(R.mem.take _).mX (PN _));exact h.elim
def azO{c:Code}(h:Qc c=U (t,y)):∃i o X,c=.region i #[o] E/\o.op=.defer X/\X.callee=.value (.func t)/\X.args= #[.tmp y]/\o.guard=Z/\o.dst=none:=by
 unfold Qc at h;split at h;rename_i i W;unfold anL at h;split at h;rename_i o V;split at h;rename_i X R Q P;split at h;rename_i M L O N;simp only[cX,Dh] at h;obtain⟨rfl,rfl⟩:=h;exact⟨i,o,X,by rw[show W= #[o] by apply nF;simp[V]],R,O,by apply nF;simp[N],Q,P⟩;cases h;cases h;cases h;cases h
def azP(A:jS p cf)(an:∀b W,¬p.R (.panicked b) W){N:Func}(hf:p.P.funcs[f]?=U N)(hY:rN p cf [] B jg):∀(c:Code)(s:S)(L:dG)(O:ai)(V:aq)(a:Act)(W:World),
  (∀g,D8 c=U g->D7 p.P g)->B.mF s O V L->(U7 cf n f r N.results.toList c s).aS p O L->az p.S0 p.w0 ⟨[],[],J,[]⟩ cf.ty V O s a W->fk cf.gl O->
  jN Z f p.P c (bodyPostM Fence.wide 0 p.P N p.R) a W:=by
 intro c;induction c with
 |seq x aA _ ih=>
  intro s L O V a W af hB h R F;simp only[U7] at h;cases H:Qc x with
  |none=>
   rw[H] at h;simp only at h;refine Ir (azN (D:=⟨[],[],J,[]⟩) A an hY x _ _ s L O V a W hB h R F ?_ ?_);intro z w V' Q M t hl hL m ag;exact ih z t w V' Q M (λg a1=>af g (by simp only[D8,H];exact a1)) (hB.go hl hL) ag m (F.ext hl.ext);intro z w V' Q M t m ag;obtain⟨ms,G,l,-,-⟩:=m.dp.mE;have:=l rfl;subst this;show LeavesInM Fence.wide 0 p.P N Q.tmps p.R Q.defers .returning M;rw[show Q.defers=[] by simpa using G];exact anN A m ag
  |some q=>
   obtain⟨g,te⟩:=q;rw[H] at h;simp only at h;obtain⟨i,o,dc,rfl,g1,g2,g3,g4,g5⟩:=azO H;have hc:=af g (by simp only[D8,H]);split at h;rename_i k a3;split at h;rename_i bs;have a4:a.tmps[te]?=U (.pointer (U ⟨ad V k,0,Z⟩)):=by
    rcases R.tmps _ _ a3 with h|h;cases h;exact h
   have a9:a.defers=[]:=by
    obtain⟨ms,G,l,-,-⟩:=R.dp.mE;have:=l rfl;subst this;simpa using G
   obtain⟨X,al⟩:∃X:Deferred,X={target:=.fn (.func g) #[],args:= #[.pointer (U ⟨ad V k,0,Z⟩)]}:=⟨_,rfl⟩;have ba:eN p.w0 ⟨[],[],E,[X]⟩ s.pd O.y [X] W:=by
    have h:=R.dp;exact⟨h.len,h.qL,h.dF,h.inj,[],rfl,λ_=>rfl,av,λd H=>by simp at H⟩
   have R2:az p.S0 p.w0 ⟨[],[],E,[X]⟩ cf.ty V O s {a with defers:=[X]} W:=⟨R.mem,R.gV,R.ei,R.eb,R.er,ba,R.size,R.tmps,R.gD⟩;refine Ir (u9 (n:=0) (wpIn_region ?_));have bb:e8 (#[o]:dQ).size=[0]:=rfl;rw[bb];have e2:(execOp a.eval o).run p.P W=.ok (.defer X) W:=by
    have:a.eval (.tmp te)=.pointer (U ⟨ad V k,0,Z⟩):=by simp[Act.eval,avn,a4]
    have h0:a.eval (.func g)=.func (.func g) #[] #[]:=rfl;simp[execOp,g1,resolve,g2,g3,this,h0,Deferred.ofValue,al]
   have bc:∀y,mw o y=true:=λy=>by simp[mw,g4]
   have hF:=Am Z;show wpOpsIn _ 0 p.P #[o] _ [0] a W;simp only[wpOpsIn,ai8,Bk,bc,cS];refine⟨λf _=>hF.fn f, ?_⟩;rw[show(PE Z).round=Z from rfl,avG,e2,aJp];have bd:({a with defers:=X::a.defers}:Act).put o.dst undef={a with defers:=[X]}:=by
    rw[g5,a9];rfl
   rw[bd];show jN Z f p.P aA (bodyPostM Fence.wide 0 p.P N p.R) _ W;rw[Qb] at h;refine(LG A n).1 ⟨[],[],E,[X]⟩ _ jg Z f aA _ _ L O V _ W _ (FM _ _) (j8.here s O V L) rfl (λhh=>by cases hh) ⟨N,hf⟩ h R2 F (λb Q M pd y hA hR=>(an b M hR).elim) ?_;intro e z w V' Q M t hl hL RR j;obtain⟨aC,G,l,q2,q3⟩:=RR.dp.mE;have R3:=RR.rM G;have bf:∀d0∈aC,M.heap[d0]?=U (.deferred (U [])):=λd0 bg=>(q3 d0 (by simp[bg])).1
   have bk:aC.Nodup:=(xS.1 q2).1;have bl:∀Wx,(invoke X.target X.args).run p.P Wx=.ok (.enter g #[.pointer (U ⟨ad V k,0,Z⟩)]) Wx:=λWx=>by
    rw[al];simp[invoke,hc.Ai]
   have a0:(t6 cf r N.results.toList z).aS p w t->LeavesInM Fence.wide 0 p.P N Q.tmps p.R Q.defers .returning M:=by
    intro br;rw[G];refine uh av bk bf ⟨av,.inr ⟨by simp[Fence.wide],_,_,_,_,by rw[al],bl _,λg F=>trivial, ?_⟩⟩;refine(hc.ret _ _).mono ?_;rintro en u W4 ⟨⟨v,rfl⟩,rfl,rfl⟩;exact anN (a:={Q with defers:=[X]}) A R3 br
   cases e with
   |normal=>exact a0 j
   |ret=>exact a0 j
   |exit id=>exact j.elim
   |bI v=>exact j.elim
   exact h.elim;exact h.elim
 |_=>intro s L O V a W af hB h R F;exact False.elim h
def azQ(M:jS p cf)(L:∀H W,¬p.R (.panicked H) W){X:Func}{c:Code}(Q:p.P.funcs[f]?=U X)(G:X.body=U c)(F:∀g,D8 c=U g->D7 p.P g)
    (A:(ac2 cf n f c X.ntmps X.results.toList v w).aS p N [])(z:fk cf.gl N)(R:az p.S0 p.w0 cq.none cf.ty x N {w with tmps:=[]} ⟨#[],[]⟩ p.w0):
  Calls p.P f (C.aG N x v).toArray p.w0 p.R:=by
 refine Lv Q G ?_;have u:eN p.w0 ⟨[],[],J,[]⟩ w.pd N.y [] p.w0:=by
  have h:=R.dp;exact⟨h.len,h.qL,h.dF,h.inj,[],rfl,λ_=>rfl,av,λd t=>by simp at t⟩
 have RE:=R.enter v X.ntmps u;exact azP M L Q (FM (p:=p) (cf:=cf) [] ⟨{w with tmps:=v++eF (X.ntmps-Y v) (.bO [])},N,x,[]⟩) c _ [] N x _ p.w0 F (j8.here _ _ _ _) A RE z
end
def evX(cf:bF)(R:Option TypeId)(n:Nat)(X:FuncId)(c:Code)(W:Nat)(j:od)(V:ap)(s:S):T:=match R with
 |none=>acZ cf n X c W j V s
 |U 0=>ac2 cf n X c W j V s
 |U Q=>ac0 cf n X c W j Q V s
def ac4(P:Program)(c:Code)(X:Option TypeId):Prop:=match X with
 |none=>True
 |U 0=>∀g,D8 c=U g->D7 P g
 |U W=>∃d,zV c=U d/\yA P d.g W
section
variable{P:Program}{a:Ty}{M Q:FuncId->sC}{bB:nQ}{G:World->Prop}{H A:j5}{X d:aU}
def azR{cf:bF}{x:Func}{c:Code}{F:bv->kK}{glk:bz}{glv:aF}{l:ap}{q m:Nat}
  (al:∀w R,(∀u W b o,w.heap.size<=b->R (.panicked u) W->R (.panicked u) (W.putObj b o))->jS ⟨P,a,[],w,cq.none,R,λ_ _ _=>False⟩ cf)(an:cf.ty=a)(aA:∀t,D4 P a M Q G t (bB t))(hG:∀W s,Below W.heap.size W s->G W->G s)
  (hf:P.funcs[t]?=U x)(hb:x.body=U c)(aC:∀V,D8 c=U V->D7 P V)(a0:M t=U A)(a1:Q t=U H)(a3:iO a A=U d)(j:iO a H=U X)
  (hl:kA a A v=U l)(a4:sN 0 0 (Y glv) d l=J)(a9:k=glk++jT d)(ba:∀(L:Nat)(g:TypeId),k[L]?≠U (.own g))(bb:Y glv=Y glk)(hq:glv=[]\/vf X=J)
  (bc:∀z B,eY d B->(gg z B).i.length=q)(bd:∀z B,eY d B->(gg z B).b.length=m)
  (bf:∀W,G W->∃z,LU a cf.gl glk glv W z)
  (ht:∀(p:Sp)(O:ai),g.aS p O []->(ac2 cf y t c x.ntmps x.results.toList v ⟨[],[],q,m,k,0,0,[]⟩).aS p O [])(bg:∀B D,F B≠U (.bI D))
  (hF:∀B o,eY d B->F B=U o->∃N,run a M Q bB H N g (gg glv B) k []=U o):D4 P a M Q G t F:=by
 intro bl br bs bt h e h3 h4 xh B o ho hx af W ag hH;rw[a0] at h;cases h;rw[a1] at e;cases e;rw[a3] at h3;cases h3;rw[j] at h4;cases h4;obtain⟨N,hN⟩:=hF xh o (UT af hx) ho;obtain⟨z,hL⟩:=bf W ag;obtain⟨bk,hv,r⟩:=acy an aA hG j hl a4 a9 ba bb hq bc bd ag hL hN hx af hH;rw[<-hv];refine azQ (p:=LP P a W H X d B o) (cf:=cf) (al W _ (acv W)) (λu s r=> ?_) hf hb aC (ht _ _ bk) (hL.acx B) r;obtain⟨-,D,h5,-⟩:=r;exact bg xh D (by rw[ho,h5])
end
section
variable{bB u:nQ}
def pf(L:∀f H o,bB f H=U o->u f H=U o):∀(n R:Nat)(t:T)(O:ai)(i:ng)(o:bq),n<=R->exec bB n t O i=U o->exec u R t O i=U o
 |0,_,t,O,i,o,_,h=>by simp[exec] at h
 |n+1,0,t,O,i,o,G,h=>aa
 |n+1,R+1,t,O,i,o,G,h=>by
  have X:=pf L n R;cases t with
  |ret v F Q=>simpa only[exec] using h
  |bI v=>simpa only[exec] using h
  |aV b t f=>
   simp only[exec] at h⊢;split at h;rename_i W;rw[aL W];exact X t O i o aa h;rename_i W;rw[aT W];exact X f O i o aa h
  |bi b t=>
   simp only[exec] at h⊢;split at h;rename_i W;rw[aL W];exact X t O i o aa h;cases h
  |call f D F Q B jM t=>
   simp only[exec] at h⊢;cases N:bB f ((pe D).map (C.xv O)) with
   |none=>rw[N] at h;cases h
   |some r=>
    rw[N] at h;rw[L _ _ _ N];cases r with
    |ret y=>
     simp only at h⊢;split at h;rename_i P;rw[aL P];exact X t _ i o aa h;cases h
    |bI v=>exact h
  |loop ax B w t=>
   simp only[exec] at h⊢;exact X t _ _ o aa h
  |back ax x=>
   simp only[exec] at h⊢;cases P:B4 ax i with
   |none=>rw[P] at h;cases h
   |some q=>
    obtain⟨A,p⟩:=q;rw[P] at h;exact X A.t _ _ o aa h
  |new e x Q l t=>
   simp only[exec] at h⊢;exact X t _ i o aa h
  |ac k x Q t=>
   simp only[exec] at h⊢;exact X t _ i o aa h
  |gQ g z t f=>
   simp only[exec] at h⊢;split at h;rename_i M;rw[aL M];split at h;rename_i V;rw[aL V];exact anl h (X t O i o aa) (X f O i o aa);rename_i V;rw[aT V];exact X t O i o aa h;rename_i M;rw[aT M];split at h;rename_i V;rw[aL V];exact X f O i o aa h;cases h
  |pick m g z t f=>
   simp only[exec] at h⊢;refine anm h λj _ q=> ?_
   cases j with
   |some j=>exact X t _ i o aa q
   |none=>exact X f _ i o aa q
  |eL f g e d c r Q t=>
   simp only[exec] at h⊢;split at h;rename_i a af;exact X t _ i o aa h;cases h
  |out e s=>simp[exec] at h
  |stuck m=>simp[exec] at h
end
def iV(n:Int):RV:=.mk (.int I n) []
def bV(b:Bool):RV:=.mk (.bool b) []
def sV(l:bA):RV:=.mk (.slice Z (Y l) (Y l)) (l.map λn=>[iV n])
def nR(b:Nat)(X:ar):RV:=.mk (.slice (U ⟨b,0,Z⟩) (Y X) (Y X)) X
def lw:aF:=[
 nR 0 ([(E,E,E,0,0,0),(J,J,E,1,0,16),(E,J,E,1,0,16),(J,J,E,0,3,0),(J,J,E,0,3,0),(E,J,E,0,3,0),(E,E,E,0,0,7),(E,E,J,0,0,0),(E,E,J,0,0,0),(J,E,E,0,3,0)].map λ(a,b,c,d,e,f)=>[bV a,bV b,bV c,iV d,iV e,iV f]),
 nR 1 ([([],[]),([0],[]),([],[0,1]),([0],[]),([2],[]),([],[4]),([],[]),([],[2,3]),([],[0,1]),([2],[])].map λ(a,b)=>[sV a,sV b]),
 nR 2 ([(0,29),(20,21),(29,0),(20,-21),(0,-29),(-20,-21),(-29,0),(-20,21)].map λ(a,b)=>[iV a,iV b])]
def mH(g:Bool):aF:=if g then lw else[]
def B6(d:Bool):kK->kK
 |U (.ret X)=>U (.ret X)
 |U (.bI v)=>if d then Z else U (.bI v)
 |none=>Z
structure Fn where
 t:T
 g:Bool:=E
 d:Bool:=E
structure lM where
 tree:FuncId->Option Fn
 ui:nQ
def lM.bB(p:lM):Nat->nQ
 |0=>p.ui
 |n+1=>λf W=>match p.ui f W with
  |U o=>U o
  |none=>match p.tree f with
   |U X=>B6 X.d (exec (lM.bB p n) n X.t (gg (mH X.g) W) [])
   |none=>Z
def nS{p:lM}:∀(n W:Nat)(f:FuncId)(X:bv)(o:bq),n<=W->p.bB n f X=U o->p.bB W f X=U o
 |0,0,f,X,o,_,h=>h
 |0,W+1,f,X,o,_,h=>by
  simp only[lM.bB] at h⊢;rw[h]
 |n+1,0,f,X,o,M,_=>aa
 |n+1,W+1,f,X,o,M,h=>by
  simp only[lM.bB] at h⊢;cases Q:p.ui f X with
  |some P=>rw[Q] at h;exact h
  |none=>
   rw[Q] at h;simp only at h⊢;cases N:p.tree f with
   |none=>rw[N] at h;cases h
   |some V=>
    rw[N] at h;simp only at h⊢;cases R:exec (p.bB n) n V.t (gg (mH V.g) X) [] with
    |none=>rw[R] at h;cases h
    |some P=>
     rw[R] at h;rw[pf (λf X o h=>nS n W f X o aa h) n W V.t _ _ P aa R];exact h
def lM.Ev(p:lM)(f:FuncId)(X:bv)(o:bq):Prop:=∃n,p.bB n f X=U o
def lM.Go(p:lM)(t:T)(O:ai)(i:ng)(o:bq):Prop:=∃n,exec (p.bB n) n t O i=U o
section
variable{p:lM}{O:ai}{i:ng}{o:bq}
def anO{X:bv}(h:p.ui t X=U o):p.Ev t X o:=⟨0,h⟩
def azS{W:bv}{X:Fn}(Q:p.tree t=U X)(P:p.ui t W=Z)(V:X.d=E\/∃R,o=.ret R)(h:p.Go X.t (gg (mH X.g) W) [] o):p.Ev t W o:=by
 obtain⟨n,h⟩:=h;refine⟨n+1, ?_⟩;simp only[lM.bB,P,Q,h];rcases V with V|⟨R,rfl⟩;cases o<;>simp[B6,V];rfl
def go_of:p.Go g O i o<->∃n,exec (p.bB (n+1)) (n+1) g O i=U o:=
 ⟨λ⟨n,h⟩=>⟨n,pf (λf X o h=>nS n (n+1) f X o aa h) n (n+1) g O i o aa h⟩,λ⟨n,h⟩=>⟨n+1,h⟩⟩
def go_up{m:Nat}(h:exec (p.bB y) m g O i=U o):p.Go g O i o:=
 ⟨max y m,pf (λf X o h=>nS y _ f X o aa h) m _ g O i o aa h⟩
@[simp] def go_ret {v:C} {X:bG}:p.Go (.ret v X k) O i o<->o=.ret ((yz v).map (C.xv O)):=by
 rw[go_of];simp only[exec,cX];exact⟨λ⟨_,h⟩=>h.symm,λh=>⟨0,h.symm⟩⟩
@[simp] def go_pan {v:C}:p.Go (.bI v) O i o<->(Iv O v).map .bI=U o:=by
 rw[go_of];simp only[exec];exact⟨λ⟨_,h⟩=>h,λh=>⟨0,h⟩⟩
@[simp] def go_node {b:BE} {f:T}:p.Go (.aV b g f) O i o<->if b.ab O=J then p.Go g O i o else p.Go f O i o:=by
 rw[go_of];simp only[exec];split
 ·exact⟨λ⟨n,h⟩=>go_up h,λ⟨n,h⟩=>⟨n,pf (λf X o h=>nS n (n+1) f X o aa h) n n g O i o aa h⟩⟩
 ·exact⟨λ⟨n,h⟩=>go_up h,λ⟨n,h⟩=>⟨n,pf (λf X o h=>nS n (n+1) f X o aa h) n n f O i o aa h⟩⟩
@[simp] def go_need {b:BE}:p.Go (.bi b g) O i o<->b.ab O=J/\p.Go g O i o:=by
 rw[go_of];simp only[exec];by_cases X:b.ab O=J
 ·simp only[X,cS,true_and];exact⟨λ⟨n,h⟩=>go_up h,λ⟨n,h⟩=>⟨n,pf (λf W o h=>nS n (n+1) f W o aa h) n n g O i o aa h⟩⟩
 simp[X]
@[simp] def go_loop {X:aU}:p.Go (.loop y X v g) O i o<->p.Go g (O.ext (v.map (C.xv O))) (⟨y,g,O⟩::i) o:=by
 rw[go_of];simp only[exec];exact⟨λ⟨n,h⟩=>go_up h,λ⟨n,h⟩=>⟨n,pf (λf W o h=>nS n (n+1) f W o aa h) n n g _ _ o aa h⟩⟩
@[simp] def go_new {e:TypeId} {x:LE} {X W:bz} {t:T}:p.Go (.new e x X W t) O i o<->p.Go t (O.add (.r (gI x O))) i o:=by
 rw[go_of];simp only[exec];exact⟨λ⟨n,h⟩=>go_up h,λ⟨n,h⟩=>⟨n,pf (λf V o h=>nS n (n+1) f V o aa h) n n t _ _ o aa h⟩⟩
@[simp] def go_rows {X:RK} {x:LE}:p.Go (.ac X x k g) O i o<->p.Go g (O.add (.r (gI x O))) i o:=by
 rw[go_of];simp only[exec];exact⟨λ⟨n,h⟩=>go_up h,λ⟨n,h⟩=>⟨n,pf (λf W o h=>nS n (n+1) f W o aa h) n n g _ _ o aa h⟩⟩
def go_turn{f g:FuncId}{e:TypeId}{X:bu}{W:Bool}{r:RE}{R:bz}{t:T}{V:ar}(h:oo O X W (r.rv O).ac=U V):p.Go (.eL f g e X W r R t) O i o<->p.Go t (O.add (.r (.mk (r.rv O).val V))) i o:=by
 rw[go_of];simp only[exec,h];exact⟨λ⟨n,h⟩=>go_up h,λ⟨n,h⟩=>⟨n,pf (λf Q o h=>nS n (n+1) f Q o aa h) n n t _ _ o aa h⟩⟩
def go_back{W:ng}{X:Lp}(h:B4 y i=U (X,W)):p.Go (.back y v) O i o<->p.Go X.t (X.O.ext (v.map (C.xv O))) (X::W) o:=by
 rw[go_of];simp only[exec,h];exact⟨λ⟨n,h⟩=>go_up h,λ⟨n,h⟩=>⟨n,pf (λf V o h=>nS n (n+1) f V o aa h) n n X.t _ _ o aa h⟩⟩
def go_call{R:bG}{V:aU}{jM:C}{X:bv}(h:p.Ev t ((pe v).map (C.xv O)) (.ret X))(Q:kz V X=J)(W:p.Go g (O.ext X) i o):p.Go (.call t v R k V jM g) O i o:=by
 obtain⟨n,h⟩:=h;obtain⟨m,W⟩:=W;refine⟨max n m+1, ?_⟩;simp only[exec];rw[nS n _ _ _ _ aa h];simp only[Q,cS];exact pf (λt P o h=>nS m _ t P o aa h) m _ g _ _ o aa W
def go_callp{W:bG}{V:aU}{jM:C}{X:Value}(h:p.Ev t ((pe v).map (C.xv O)) (.bI X)):p.Go (.call t v W k V jM g) O i (.bI X):=by
 obtain⟨n,h⟩:=h;refine⟨n+1, ?_⟩;simp only[exec];rw[nS n _ _ _ _ aa h]
end
structure PC where
 ax:Nat
 I:bv->Prop
 μ:bv->Nat
 m:Nat
abbrev db:=List PC
def As(ax:Nat):db->Option PC
 |[]=>Z
 |x::X=>if x.ax=ax then U x else As ax X
def U8(R:bq->Prop):Prop:=∀o X,R o->R X->o=X/\D0 o o=J
def T.nT(W:FuncId->bv->bq->Prop):T->(bq->Prop)->ai->db->Prop
 |.ret v _ _,R,O,_=>R (.ret ((yz v).map (C.xv O)))
 |.bI v,R,O,_=>∃x,Iv O v=U x/\R (.bI x)
 |.aV b t f,R,O,L=>(b.ab O=J->t.nT W R O L)/\(b.ab O=E->f.nT W R O L)
 |.bi b t,R,O,L=>b.ab O=J/\t.nT W R O L
 |.call f G _ _ F _ t,R,O,L=>∃o,W f ((pe G).map (C.xv O)) o/\(match o with
  |.ret N=>kz F N=J/\t.nT W R (O.ext N) L
  |.bI v=>R (.bI v))
 |.loop ax _ D t,R,O,L=>∃V Q,((V=R/\Q=L)\/((∀o,V o->R o)/\Q=[]))/\∃X M,X (D.map (C.xv O))/\∀P,X P->t.nT W V (O.ext P) (⟨ax,X,M,M P⟩::Q)
 |.back ax x,R,O,L=>match As ax L with
  |U c=>c.I (x.map (C.xv O))/\c.μ (x.map (C.xv O))<c.m
  |none=>False
 |.new _ x _ _ t,R,O,L=>t.nT W R (O.add (.r (gI x O))) L
 |.ac _ x _ t,R,O,L=>t.nT W R (O.add (.r (gI x O))) L
 |.gQ g h t f,R,O,L=>(g.ab O=J\/h.ab O=J)/\(g.ab O=J->t.nT W R O L)/\(h.ab O=J->f.nT W R O L)/\(g.ab O=J->h.ab O=J->U8 R)
 |.pick n g h t f,R,O,L=>U8 R/\yw n g h O≠[]/\(∀j:Int,0<=j->j<n.ab O->g.ab (O.add (.i j))=J->t.nT W R (O.add (.i j)) L)/\(h.ab O=J->f.nT W R O L)
 |.eL _ _ _ B A r _ t,R,O,L=>∃H,oo O B A (r.rv O).ac=U H/\t.nT W R (O.add (.r (.mk (r.rv O).val H))) L
 |.stuck _,_,_,_=>False
 |.out _ _,_,_,_=>False
def T.wp(X:FuncId->bv->bq->Prop)(R:bq->Prop)(t:T)(O:ai)(L:db):Prop:=t.nT X R O L
section
variable{a:lM}{R:bq->Prop}
inductive B7(a:lM)(R:bq->Prop):List PC->List Lp->Prop where
 |nil (st:List Lp):B7 a R [] st
 |cons (c:PC) (fr:Lp) (L:List PC) (st:List Lp) (h1:c.ax=fr.ax) (h2:∀xs,c.I xs->c.μ xs<c.m->∃o,a.Go fr.t (fr.O.ext xs) (fr::st) o/\R o) (h3:B7 a R L st):B7 a R (c::L) (fr::st)
def B7.find{L:db}{V:ng}(h:B7 a R L V){c:PC}(W:As y L=U c):
  ∃X N,B4 y V=U (X,N)/\∀Q,c.I Q->c.μ Q<c.m->∃o,a.Go X.t (X.O.ext Q) (X::N) o/\R o:=by
 induction h with
 |nil _=>cases W
 |cons F X L V M H D G=>
  simp only[As] at W;simp only[B4,<-M];split at W;rename_i P;cases W;rw[aL P];exact⟨X,V,rfl,H⟩;rename_i P;rw[aT P];exact G W
def go_mono{X:ng}{o:bq}{m:Nat}(h:exec (a.bB y) y g N X=U o)(W:y<=m):exec (a.bB m) m g N X=U o:=
 pf (λf V o h=>nS y m f V o W h) y m g N X o W h
def anP{X:Type}{f:X->kK}{o:bq}(W:D0 o o=J):∀{l:List X},l≠[]->(∀x∈l,f x=U o)->vd (l.map f)=U o
 |[],h,_=>aZ rfl h
 |[x],_,h=>by simpa[vd] using h x av
 |x::y::r,_,h=>by
  have:=anP W (l:=y::r) av (λz V=>h z (by simp at V⊢;exact .inr V));simp only[dU,vd] at this⊢;rw[this,h x av,B3,aL W]
def anQ{V:Type}{p:V->Nat->Prop}(W:∀x n m,p x n->n<=m->p x m):∀{l:List V},(∀x∈l,∃n,p x n)->∃n,∀x∈l,p x n
 |[],_=>⟨0,λx Q=>by cases Q⟩
 |x::r,h=>by
  obtain⟨n,P⟩:=h x av;obtain⟨m,O⟩:=anQ W (l:=r) (λz X=>h z (by simp[X]));refine⟨max n m,λz X=> ?_⟩;rcases dV.1 X with rfl|X;exact W _ _ _ P aa;exact W _ _ _ (O z X) aa
def go_wp:∀(t:T)(R:bq->Prop)(O:ai)(L:db)(W:ng),t.nT a.Ev R O L->B7 a R L W->∃o,a.Go t O W o/\R o
 |.ret v bx y,R,O,L,W,h,_=>⟨_,go_ret.2 rfl,h⟩
 |.bI v,R,O,L,W,h,_=>by
  obtain⟨x,P,Q⟩:=h;exact⟨.bI x,go_pan.2 (by rw[P];rfl),Q⟩
 |.aV b t f,R,O,L,W,h,V=>by
  simp only[go_node];cases hb:b.ab O with
  |true=>simpa using go_wp t R O L W (h.1 hb) V
  |false=>simpa using go_wp f R O L W (h.2 hb) V
 |.bi b t,R,O,L,W,h,V=>by
  obtain⟨o,P,Q⟩:=go_wp t R O L W h.2 V;exact⟨o,go_need.2 ⟨h.1,P⟩,Q⟩
 |.call f a3 bx y ks jM t,R,O,L,W,h,V=>by
  obtain⟨o,P,Q⟩:=h;cases o with
  |ret ys=>
   obtain⟨o,G,F⟩:=go_wp t R (O.ext ys) L W Q.2 V;exact⟨o,go_call P Q.1 G,F⟩
  |bI v=>exact⟨.bI v,go_callp P,Q⟩
 |.loop ax ks x0 t,R,O,L,W,h,V=>by
  obtain⟨w,L',ag,X,μ,P,Q⟩:=h;have af:B7 a w L' W/\∀o,w o->R o:=by
   rcases ag with⟨rfl,rfl⟩|⟨G,rfl⟩;exact⟨V,λo h=>h⟩;exact⟨B7.nil W,G⟩
  have al:∀n N,μ N<n->X N->∃o,a.Go t (O.ext N) (⟨ax,t,O⟩::W) o/\w o:=by
   intro n;induction n with
   |zero=>intro N d;omega
   |succ n ih=>
    intro N d hI;exact go_wp t w (O.ext N) _ _ (Q N hI) (B7.cons _ _ _ _ rfl (λan aA hm=>ih an (by simp only at hm;omega) aA) af.1)
  obtain⟨o,G,F⟩:=al _ _ (Nat.lt_succ_self _) P;exact⟨o,go_loop.2 G,af.2 o F⟩
 |.back ax x,R,O,L,W,h,V=>by
  simp only[T.nT] at h;split at h
  ·rename_i c hf;obtain⟨fr,a4,P,Q⟩:=V.find hf;obtain⟨o,G,F⟩:=Q _ h.1 h.2;exact⟨o,(go_back P).2 G,F⟩
  exact h.elim
 |.new e x y a9 t,R,O,L,W,h,V=>by
  obtain⟨o,P,Q⟩:=go_wp t R _ L W h V;exact⟨o,go_new.2 P,Q⟩
 |.ac e x y t,R,O,L,W,h,V=>by
  obtain⟨o,P,Q⟩:=go_wp t R _ L W h V;exact⟨o,go_rows.2 P,Q⟩
 |.gQ g z t f,R,O,L,W,h,V=>by
  obtain⟨u,P,Q,G⟩:=h;cases A:g.ab O with
  |true=>
   obtain⟨o,M,D⟩:=go_wp t R O L W (P A) V;cases B:z.ab O with
   |true=>
    obtain⟨o',k1,k2⟩:=go_wp f R O L W (Q B) V;obtain⟨rfl,e⟩:=G A B o o' D k2;obtain⟨n,M⟩:=M;obtain⟨m,k1⟩:=k1;refine⟨o,⟨max n m+1, ?_⟩,D⟩;simp only[exec,A,B,cS];rw[pf (λf N o h=>nS n _ f N o aa h) n (max n m) t O W o aa M,pf (λf N o h=>nS m _ f N o aa h) m (max n m) f O W o aa k1,B3,aL e]
   |false=>
    obtain⟨n,M⟩:=M;refine⟨o,⟨n+1, ?_⟩,D⟩;simp only[exec,A,B,cS];exact pf (λf N o h=>nS n _ f N o aa h) n n t O W o aa M
  |false=>
   have B:z.ab O=true:=u.resolve_left (by simp[A]);obtain⟨o,M,D⟩:=go_wp f R O L W (Q B) V;obtain⟨n,M⟩:=M;refine⟨o,⟨n+1, ?_⟩,D⟩;simp only[exec,A,B,cS];exact pf (λf N o h=>nS n _ f N o aa h) n n f O W o aa M
 |.pick m g z t f,R,O,L,W,h,V=>by
  obtain⟨hs,u,P,Q⟩:=h;have hw:∀j∈yw m g z O,∃o,R o/\(match j with
   |U j=>a.Go t (O.add (.i j)) W o
   |none=>a.Go f O W o):=by
   intro j H;cases j with
   |some j=>
    simp only[yw,eW,iD,qE,uO] at H;rcases H with⟨j',⟨⟨k,hk,rfl⟩,A⟩,e⟩|H
    ·cases e;obtain⟨o,M,D⟩:=go_wp t R (O.add (.i (k:Int))) L W (P _ aa aa A) V;exact⟨o,D,M⟩
    split at H<;>simp at H
   |none=>
    simp only[yw,eW,iD,qE,uO] at H;rcases H with⟨j',_,e⟩|H;cases e;split at H
    ·rename_i B;obtain⟨o,M,D⟩:=go_wp f R O L W (Q B) V;exact⟨o,D,M⟩
    simp at H
  obtain⟨j0,aC⟩:=List.exists_mem_of_ne_nil _ u;obtain⟨o,q,_⟩:=hw j0 aC;have a0:D0 o o=true:=(hs o o q q).2;obtain⟨n,d⟩:=anQ (p:=λj n=>(match j with
   |U j=>exec (a.bB n) n t (O.add (.i j)) W
   |none=>exec (a.bB n) n f O W)=U o) (λx n m hx a1=>by cases x<;>exact go_mono hx a1) (l:=yw m g z O) (λj H=>by
    obtain⟨o',G,F⟩:=hw j H;obtain⟨rfl,_⟩:=hs o o' q G;cases j<;>exact F)
  refine⟨o,⟨n+1, ?_⟩,q⟩;simp only[exec];refine anP a0 u λj H=> ?_
  have:=d j H;cases j with
  |some j=>exact pf (λf N o h=>nS n _ f N o aa h) n n t _ W o aa this
  |none=>exact pf (λf N o h=>nS n _ f N o aa h) n n f O W o aa this
 |.eL f g e sp sb r y t,R,O,L,W,h,V=>by
  obtain⟨ba,P,Q⟩:=h;obtain⟨o,G,F⟩:=go_wp t R _ L W Q V;exact⟨o,(go_turn P).2 G,F⟩
 |.stuck m,R,O,L,W,h,_=>h.elim
 |.out e s,R,O,L,W,h,_=>h.elim
def LW(a:lM)(f:FuncId)(X:Fn):Prop:=a.tree f=U X/\∀W,a.ui f W=Z
def anR{X:Fn}{W:bv}(V:LW a t X)(P:X.d=E\/∀v,¬R (.bI v))(h:X.t.wp a.Ev R (gg (mH X.g) W) []):∃o,a.Ev t W o/\R o:=by
 obtain⟨o,O,Q⟩:=go_wp X.t R _ [] [] h (B7.nil []);refine⟨o,azS V.1 (V.2 _) (P.imp id λN=> ?_) O,Q⟩;cases o with
 |ret M=>exact⟨M,rfl⟩
 |bI v=>exact(N v Q).elim
def IC{X:Fn}{W:bv}{o:bq}(V:LW a t X)(Q:X.d=E\/∀v,o≠ .bI v)(h:X.t.wp a.Ev (· =o) (gg (mH X.g) W) []):a.Ev t W o:=by
 obtain⟨L,P,O⟩:=anR (R:=(· =o)) V (Q.imp id λN v M=>N v M.symm) h;exact O▸P
def Qd{X:bv}{o W:bq}(h:a.Ev t X o)(k:a.Ev t X W):o=W:=by
 obtain⟨n,h⟩:=h;obtain⟨m,k⟩:=k;have Q:=nS n (max n m) t X o aa h;have V:=nS m (max n m) t X W aa k;rw[Q] at V;cases V;rfl
end
def U9(n j:Nat)(a b c:Int)(X:ar):Int:=match jb n [a,b,c] X with
 |U W=>bn (W.getD j default).val
 |none=>0
def Va(n j:Nat)(a b c:Int)(X:ar):Bool:=match jb n [a,b,c] X with
 |U W=>gA (W.getD j default).val
 |none=>E
def K.dn(e:K):ai->Int:=K.rec (motive_1:=λ_=>ai->Int) (motive_2:=λ_=>ai->Bool) (motive_3:=λ_=>ai->RV) (λn _=>n) (λk O=>O.i.getD k 0) (λX k _ _ a b O=>aH X k (a O) (b O)) (λk _ a O=>k.wrap (a O)) (λ_ r O=>lenOf (r O).val) (λW _ _ a b O=>cond W (max (a O) (b O)) (min (a O) (b O))) (λ_ _ _ b x y O=>cond (b O) (x O) (y O)) (λ_ _ j r i O=>bn (aQ (r O).ac (i O) j).val) (λ_ _ r i O=>kY (r O).val (i O)) (λ_ n _ _ _ j r a b c O=>U9 n j (a O) (b O) (c O) (r O).ac) (λb _=>b) (λk O=>O.b.getD k E) (λX _ _ a b O=>fA X (a O) (b O)) (λ_ a O=> !(a O)) (λ_ _ a b O=>a O&&b O) (λ_ _ a b O=>a O==b O) (λ_ _ _ b x y O=>cond (b O) (x O) (y O)) (λ_ _ j r i O=>gA (aQ (r O).ac (i O) j).val) (λ_ _ a b O=>t7 (a O).val (b O).val) (λ_ n _ _ _ j r a b c O=>Va n j (a O) (b O) (c O) (r O).ac) (λ_ n _ _ _ r a b c O=>(jb n [a O,b O,c O] (r O).ac).isSome) (λk O=>O.rv k) (λ_ _ j k r i O=>cg k (aQ (r O).ac (i O) j)) (λv _=>.mk v []) e
def BE.dn(e:BE):ai->Bool:=BE.rec (motive_1:=λ_=>ai->Int) (motive_2:=λ_=>ai->Bool) (motive_3:=λ_=>ai->RV) (λn _=>n) (λk O=>O.i.getD k 0) (λX k _ _ a b O=>aH X k (a O) (b O)) (λk _ a O=>k.wrap (a O)) (λ_ r O=>lenOf (r O).val) (λW _ _ a b O=>cond W (max (a O) (b O)) (min (a O) (b O))) (λ_ _ _ b x y O=>cond (b O) (x O) (y O)) (λ_ _ j r i O=>bn (aQ (r O).ac (i O) j).val) (λ_ _ r i O=>kY (r O).val (i O)) (λ_ n _ _ _ j r a b c O=>U9 n j (a O) (b O) (c O) (r O).ac) (λb _=>b) (λk O=>O.b.getD k E) (λX _ _ a b O=>fA X (a O) (b O)) (λ_ a O=> !(a O)) (λ_ _ a b O=>a O&&b O) (λ_ _ a b O=>a O==b O) (λ_ _ _ b x y O=>cond (b O) (x O) (y O)) (λ_ _ j r i O=>gA (aQ (r O).ac (i O) j).val) (λ_ _ a b O=>t7 (a O).val (b O).val) (λ_ n _ _ _ j r a b c O=>Va n j (a O) (b O) (c O) (r O).ac) (λ_ n _ _ _ r a b c O=>(jb n [a O,b O,c O] (r O).ac).isSome) (λk O=>O.rv k) (λ_ _ j k r i O=>cg k (aQ (r O).ac (i O) j)) (λv _=>.mk v []) e
def RE.dn(e:RE):ai->RV:=RE.rec (motive_1:=λ_=>ai->Int) (motive_2:=λ_=>ai->Bool) (motive_3:=λ_=>ai->RV) (λn _=>n) (λk O=>O.i.getD k 0) (λX k _ _ a b O=>aH X k (a O) (b O)) (λk _ a O=>k.wrap (a O)) (λ_ r O=>lenOf (r O).val) (λW _ _ a b O=>cond W (max (a O) (b O)) (min (a O) (b O))) (λ_ _ _ b x y O=>cond (b O) (x O) (y O)) (λ_ _ j r i O=>bn (aQ (r O).ac (i O) j).val) (λ_ _ r i O=>kY (r O).val (i O)) (λ_ n _ _ _ j r a b c O=>U9 n j (a O) (b O) (c O) (r O).ac) (λb _=>b) (λk O=>O.b.getD k E) (λX _ _ a b O=>fA X (a O) (b O)) (λ_ a O=> !(a O)) (λ_ _ a b O=>a O&&b O) (λ_ _ a b O=>a O==b O) (λ_ _ _ b x y O=>cond (b O) (x O) (y O)) (λ_ _ j r i O=>gA (aQ (r O).ac (i O) j).val) (λ_ _ a b O=>t7 (a O).val (b O).val) (λ_ n _ _ _ j r a b c O=>Va n j (a O) (b O) (c O) (r O).ac) (λ_ n _ _ _ r a b c O=>(jb n [a O,b O,c O] (r O).ac).isSome) (λk O=>O.rv k) (λ_ _ j k r i O=>cg k (aQ (r O).ac (i O) j)) (λv _=>.mk v []) e
def Vb{X:Type}(b:Bool)(x y:X):cond b x y=if b then x else y:=by cases b<;>rfl
mutual
def K.gt:∀(e:K)(O:ai),e.dn O=e.ab O
 |.c _,_=>rfl
 |.v _,_=>rfl
 |.bin o k a b,O=>by show aH o k (a.dn O) (b.dn O)=_;rw[K.gt a,K.gt b];rfl
 |.conv k a,O=>by show k.wrap (a.dn O)=_;rw[K.gt a];rfl
 |.len r,O=>by show lenOf (r.dn O).val=_;rw[RE.gt r];rfl
 |.mm m a b,O=>by show cond m (max (a.dn O) (b.dn O)) (min (a.dn O) (b.dn O))=_;rw[K.gt a,K.gt b,Vb];rfl
 |.eB b x y,O=>by show cond (b.dn O) (x.dn O) (y.dn O)=_;rw[BE.gt b,K.gt x,K.gt y,Vb];rfl
 |.cell r i j,O=>by show bn (aQ (r.dn O).ac (i.dn O) j).val=_;rw[RE.gt r,K.gt i];rfl
 |.oe r i,O=>by show kY (r.dn O).val (i.dn O)=_;rw[RE.gt r,K.gt i];rfl
 |.look r n a b c j,O=>by show U9 n j (a.dn O) (b.dn O) (c.dn O) (r.dn O).ac=_;rw[RE.gt r,K.gt a,K.gt b,K.gt c];rfl
def BE.gt:∀(e:BE)(O:ai),e.dn O=e.ab O
 |.c _,_=>rfl
 |.v _,_=>rfl
 |.cmp o a b,O=>by show fA o (a.dn O) (b.dn O)=_;rw[K.gt a,K.gt b];rfl
 |.not a,O=>by show(!(a.dn O))=_;rw[BE.gt a];rfl
 |.and a b,O=>by show(a.dn O&&b.dn O)=_;rw[BE.gt a,BE.gt b];rfl
 |.beq a b,O=>by show(a.dn O==b.dn O)=_;rw[BE.gt a,BE.gt b];rfl
 |.eB b x y,O=>by show cond (b.dn O) (x.dn O) (y.dn O)=_;rw[BE.gt b,BE.gt x,BE.gt y,Vb];rfl
 |.cell r i j,O=>by show gA (aQ (r.dn O).ac (i.dn O) j).val=_;rw[RE.gt r,K.gt i];rfl
 |.seq a b,O=>by show t7 (a.dn O).val (b.dn O).val=_;rw[RE.gt a,RE.gt b];rfl
 |.look r n a b c j,O=>by show Va n j (a.dn O) (b.dn O) (c.dn O) (r.dn O).ac=_;rw[RE.gt r,K.gt a,K.gt b,K.gt c];rfl
 |.has r n a b c,O=>by show(jb n [a.dn O,b.dn O,c.dn O] (r.dn O).ac).isSome=_;rw[RE.gt r,K.gt a,K.gt b,K.gt c];rfl
def RE.gt:∀(e:RE)(O:ai),e.dn O=e.rv O
 |.v _,_=>rfl
 |.cell r i j k,O=>by show cg k (aQ (r.dn O).ac (i.dn O) j)=_;rw[RE.gt r,K.gt i];rfl
 |.k _,_=>rfl
end
def fN{X:Type}(n:Nat)(k:Nat->X):X:=Hz (motive:=λ_=>X) (k 0) (λm _=>k (Nat.succ m)) n
def fI{X:Type}(n:Int)(k:Int->X):X:=Int.rec (motive:=λ_=>X) (λn=>fN n λn=>k (ajv n)) (λn=>fN n λn=>k (ajs n)) n
def fB{X:Type}(b:Bool)(k:Bool->X):X:=Kd (motive:=λ_=>X) (k E) (k J) b
def fV{X:Type}(v:Value)(k:Value->X):X:=match v with
 |.int q n=>fI n λn=>k (.int q n)
 |.bool b=>fB b λb=>k (.bool b)
 |.slice Z n c=>fN n λn=>fN c λc=>k (.slice Z n c)
 |v=>k v
def fR{X:Type}(v:RV):(RV->X)->X:=RV.rec (motive_1:=λ_=>(RV->X)->X) (motive_2:=λ_=>(ar->X)->X) (motive_3:=λ_=>(aF->X)->X) (λv _ h k=>fV v λv=>h λl=>k (.mk v l)) (λk=>k []) (λ_ _ h W k=>h λx=>W λV=>k (x::V)) (λk=>k []) (λ_ _ h W k=>h λx=>W λV=>k (x::V)) v
def fRs{X:Type}(v:ar):(ar->X)->X:=RV.rec_1 (motive_1:=λ_=>(RV->X)->X) (motive_2:=λ_=>(ar->X)->X) (motive_3:=λ_=>(aF->X)->X) (λv _ h k=>fV v λv=>h λl=>k (.mk v l)) (λk=>k []) (λ_ _ h W k=>h λx=>W λV=>k (x::V)) (λk=>k []) (λ_ _ h W k=>h λx=>W λV=>k (x::V)) v
def fRr{X:Type}(v:aF):(aF->X)->X:=RV.rec_2 (motive_1:=λ_=>(RV->X)->X) (motive_2:=λ_=>(ar->X)->X) (motive_3:=λ_=>(aF->X)->X) (λv _ h k=>fV v λv=>h λl=>k (.mk v l)) (λk=>k []) (λ_ _ h W k=>h λx=>W λV=>k (x::V)) (λk=>k []) (λ_ _ h W k=>h λx=>W λV=>k (x::V)) v
def fX{X:Type}(x:XV)(k:XV->X):X:=match x with
 |.i n=>fI n λn=>k (.i n)
 |.b b=>fB b λb=>k (.b b)
 |.r v=>fR v λv=>k (.r v)
def fL{X:Type}(l:bv):(bv->X)->X:=zJ (motive:=λ_=>(bv->X)->X) (λk=>k []) (λx _ W k=>fX x λx=>W λV=>k (x::V)) l
def Vc{X:Type}:∀(n:Nat)(k:Nat->X),fN n k=k n
 |0,_=>rfl
 |_+1,_=>rfl
def ac7{X:Type}:∀(n:Int)(k:Int->X),fI n k=k n
 |.ofNat n,k=>Vc n λn=>k (ajv n)
 |.negSucc n,k=>Vc n λn=>k (ajs n)
def anS{X:Type}:∀(n:Bool)(k:Bool->X),fB n k=k n
 |E,_=>rfl
 |J,_=>rfl
def azT{X:Type}(v:Value)(k:Value->X):fV v k=k v:=by
 unfold fV;split;exact ac7 _ _;exact anS _ _;rw[Vc,Vc];rfl
mutual
def ac8{X:Type}:∀(v:RV)(k:RV->X),fR v k=k v
 |.mk v l,k=>by
  show(fV v λv=>fRs l λl=>k (.mk v l))=_;rw[azT,anT l]
def anT{W:Type}:∀(l:ar)(k:ar->W),fRs l k=k l
 |[],_=>rfl
 |x::X,k=>by
  show(fRr x λx=>fRs X λX=>k (x::X))=_;rw[anU x,anT X]
def anU{W:Type}:∀(l:aF)(k:aF->W),fRr l k=k l
 |[],_=>rfl
 |x::X,k=>by
  show(fR x λx=>fRr X λX=>k (x::X))=_;rw[ac8 x,anU X]
end
def azU{X:Type}(x:XV)(k:XV->X):fX x k=k x:=by
 cases x<;>simp only[fX,ac7,anS,ac8]
def anV{W:Type}:∀(l:bv)(k:bv->W),fL l k=k l
 |[],_=>rfl
 |x::X,k=>by
  show(fX x λx=>fL X λX=>k (x::X))=_;rw[azU,anV X]
def fS{X V:Type}(l:List V):(List V->X)->X:=zJ (motive:=λ_=>(List V->X)->X) (λk=>k []) (λx _ W k=>W λR=>k (x::R)) l
def fE{X:Type}(O:ai)(k:ai->X):X:=ai.rec (motive:=λ_=>X) (λi b r y=>fS i λi=>fS b λb=>fS r λr=>k ⟨i,b,r,y⟩) O
def Vd{W V:Type}:∀(l:List V)(k:List V->W),fS l k=k l
 |[],_=>rfl
 |x::X,k=>Vd X λX=>k (x::X)
def anW{X:Type}(O:ai)(k:ai->X):fE O k=k O:=by
 obtain⟨i,b,r,y⟩:=O;show(fS i λi=>fS b λb=>fS r λr=>k ⟨i,b,r,y⟩)=_;rw[Vd,Vd,Vd]
def C.xn(O:ai):C->XV
 |.int _ e=>.i (e.dn O)
 |.bool b=>.b (b.dn O)
 |.ah r=>.r (r.dn O)
 |_=>.i 0
def azV(O:ai):C.xn O=C.xv O:=by
 funext v;cases v<;>simp only[C.xn,C.xv,K.gt,BE.gt,RE.gt]
def T.step(X:T->ai->ng->kK)(bB:nQ)(t:T)(O:ai)(W:ng):kK:=match t with
 |.ret v _ _=>fL ((yz v).map (C.xn O)) λl=>U (.ret l)
 |.bI v=>(Iv O v).map .bI
 |.aV b t f=>cond (b.dn O) (X t O W) (X f O W)
 |.bi b t=>cond (b.dn O) (X t O W) Z
 |.call f P _ _ N _ t=>fL ((pe P).map (C.xn O)) λV=>match bB f V with
  |U (.ret Q)=>cond (kz N Q) (fE (O.ext Q) λO=>X t O W) Z
  |U (.bI v)=>U (.bI v)
  |none=>Z
 |.loop ax _ M t=>fL (M.map (C.xn O)) λV=>fE (O.ext V) λL=>X t L (⟨ax,t,O⟩::W)
 |.back ax x=>match B4 ax W with
  |U (R,H)=>fL (x.map (C.xn O)) λV=>fE (R.O.ext V) λO=>X R.t O (R::H)
  |none=>Z
 |.new _ x _ _ t=>fR (gI x O) λv=>fE (O.add (.r v)) λO=>X t O W
 |.ac _ x _ t=>fR (gI x O) λv=>fE (O.add (.r v)) λO=>X t O W
 |.gQ g h t f=>cond (g.dn O) (cond (h.dn O) (B3 (X t O W) (X f O W)) (X t O W)) (cond (h.dn O) (X f O W) Z)
 |.pick m g h t f=>vd ((yw m g h O).map λj=>match j with
  |U j=>fI j λj=>fE (O.add (.i j)) λO=>X t O W
  |none=>X f O W)
 |.eL _ _ _ G F r _ t=>match oo O G F (r.dn O).ac with
  |U l=>fR (.mk (r.dn O).val l) λv=>fE (O.add (.r v)) λO=>X t O W
  |none=>Z
 |_=>Z
def Ve(bB:nQ)(n:Nat):T->ai->ng->kK:=Hz (motive:=λ_=>T->ai->ng->kK) (λ_ _ _=>Z) (λ_ X=>T.step X bB) n
def anX(bB:nQ):∀n,Ve bB n=exec bB n
 |0=>by funext t O X;simp only[exec];rfl
 |n+1=>by
  funext t O X;show T.step (Ve bB n) bB t O X=_;rw[anX bB n];cases t<;>simp only[T.step,exec,Vb,BE.gt,RE.gt,azV,anV,ac8,ac7,anW]
  try case call f W _ _ Q _ t=>
   cases bB f ((pe W).map (C.xv O)) with
   |none=>rfl
   |some o=>cases o<;>rfl
  try case back ax x=>cases B4 ax X<;>rfl
  try case pick m g h t f=>
   refine ko vd (jA λj _=> ?_);cases j<;>rfl
  try case eL f g e V R r P t=>cases oo O V R (r.rv O).ac<;>rfl
def Vf(X:lM)(n:Nat):nQ:=Hz (motive:=λ_=>nQ) X.ui (λn R f V=>match X.ui f V with
  |U o=>U o
  |none=>match X.tree f with
   |U W=>B6 W.d (fE (gg (mH W.g) V) λO=>Ve R n W.t O [])
   |none=>Z) n
def anY(X:lM):∀n,Vf X n=X.bB n
 |0=>rfl
 |n+1=>by
  funext f W;simp only[lM.bB];show(match X.ui f W with
   |U o=>U o
   |none=>match X.tree f with
    |U V=>B6 V.d (fE (gg (mH V.g) W) λO=>Ve (Vf X n) n V.t O [])
    |none=>Z)=_
  rw[anY X n];simp only[anX,anW]
  all_goals cases X.ui f W with
  |some o=>rfl
  |none=>cases X.tree f<;>rfl
def azW{X:lM}{f:Nat}{W:bv}{o:bq}(h:Vf X y f W=U o):X.Ev f W o:=⟨y,by rw[<-anY];exact h⟩
