/- Part 3 of the proof; the last part says what is shown. -/
import Derived.Test.YtpmkfikkemaopaaGreatDoorQ2
import Derived.WalkKit
import Derived.DefersIn
set_option linter.all false
set_option maxRecDepth 100000
set_option maxHeartbeats 100000000
open Bool renaming and_eq_true->az,not_eq_true'->gO,false_eq_true->iW,or_eq_true->jd,or_eq_false_iff->uK,eq_iff_iff->tG,and_self->wj,not_eq_false->Fh,and_true->LV,not_true->Wu,rec->Ib,not_eq_true->aeX,true_eq_false->aDz,true->J,false->E
open List renaming getElem?_eq_some_iff->bZ,getElem?_eq_getElem->cK,getD_eq_getElem?_getD->dB,getElem?_append_left->dU,getElem?_map->dN,getElem?_append_right->iC,mem_cons->dP,mem_append->eP,all_eq_true->fp,length_append->gD,replicate->eI,cons_append->fG,map_cons->eE,nil_append->gr,mem_of_getElem?->jm,getElem?_eq_none->jK,pairwise_cons->jL,map_congr_left->kb,ext_getElem?->ke,mem_map->hJ,range->fU,length_eq_one_iff->oa,pairwise_append->mT,getElem?_take->mB,any_eq_true->kS,contains_iff_mem->pz,getElem?_cons_succ->sa,getElem?_of_mem->qW,length_cons->oK,mem_filter->pB,getElem?_drop->tF,mem_append_left->we,getElem?_cons_zero->zr,getElem?_eq_none_iff->Be,length_map->qY,map_map->oc,getElem?_set->uL,nodup_append->xL,getElem?_replicate->E9,length_eq_zero_iff->Fa,mem_cons_of_mem->Da,mem_filterMap->Bg,mem_range->zv,pairwise_iff_getElem->LO,getD_cons_zero->Ff,length_take->De,length_drop->Df,mem_of_find?_eq_some->P1,foldl_cons->Dg,mem_append_right->LP,append_assoc->H7,map_nil->Bi,mem_cons_self->LR,range_eq_range'->P5,find?_cons->H8,append_nil->H9,mem_singleton->P9,rec->xO,all_cons->LU,find?_some->Qc,map_append->Qd,length_nil->Qf,sublist_cons_self->aeQ,getElem?_toArray->aeR,all_map->LW,filterMap_cons->aeT,drop_left'->Wq,mem_iff_getElem?->aqn,pairwise_map->aqw,map_set->ae1,any_map->ae2,filter_map->aqC,drop_zero->aqE,sizeOf_lt_of_mem->aDo,Sublist->aqM,append_of_mem->aDA,filterMap_map->aDB,length->Y
open Nat renaming le_refl->cd,lor->bY,zero_add->iJ,shiftLeft->lS,beq->iO,le_trans->oL,testBit_or->Dh,min_eq_left->Fj,strongRecOn->Qe,rec->Fp,div_add_mod->aeZ,one_shiftLeft->aqu,eq_of_beq_eq_true->aDl,shiftRight->aqG,testBit_two_pow->aDs,add_sub_cancel'->aDu,lt_or_gt_of_ne->aDx
open Option renaming map_some->dV,isSome_iff_exists->kD,getD_some->oJ,map_eq_some_iff->P3,bind_some->Wn,isNone_iff_eq_none->aDd,some->U,none->Z
open Array renaming getElem?_eq_some_iff->n9,ext'->mC,getD_eq_getD_getElem?->aqi,getElem?_eq_getElem->aqj,foldl_toList->aDw
open Go.Op renaming operands->io
open Go.World renaming putObj_heap_other->tE,cell?->nF,alloc_heap_new->P6,putObj->Fm,size_alloc->aeY
open Go.Region renaming wanted->lz,ready->Qh
open Int renaming negSucc->ae5,ofNat->ae7
open Go.Oper renaming semAt_eq->xM,uponIn_enter->Qa,uponIn_round->aqv,semAt_none->aqB,uponIn_defer->aDD
open Go.Call renaming operands->zw
open Prod.mk renaming injEq->Bh
open List.Sublist renaming append->aeS,refl->aeV
open Go.IntKind renaming i64->I
namespace Go.Proofs.YtpmkfikkemaopaaGreatDoor.Y
open Go.RowKit
noncomputable section
variable{v:av}{y:Nat}{N:ak}{w:FuncId}{l:S}{x:aw}{b:World}{t:FuncId→Code→S→(XE→S→T)→T}{g:TypeId}{e:dm}{h:T}{k:bp}
mutual
def C.RT(O:ak)(y:aw)(V:aw):∀(v:C),v.zP=J->v.ah (O.at y) V=v.ah O V
 |.int k e,_=>by simp only[C.ah,K.eN]
 |.bool b,_=>by simp only[C.ah,BE.eN]
 |.am r,_=>by simp only[C.ah,RE.ah,RE.me]
 |.loc i o,_=>rfl
 |.el r w i o,_=>by simp only[C.ah,RE.ah,RE.me,K.eN]
 |.iP a b c d,_=>rfl
 |.agg l,h=>by simp only[C.zP] at h;simp only[C.ah];rw[C.Jv O y V l h]
 |.bP l,h=>by simp only[C.zP] at h;simp only[C.ah];rw[C.Jv O y V l h]
 |.fn f l,h=>by simp only[C.zP] at h;simp only[C.ah];rw[C.Jv O y V l h]
 |.gJ t x,h=>by simp only[C.zP] at h;simp only[C.ah];rw[C.RT O y V x h]
 |.yl n,h=>by simp[C.zP] at h
 |.any,_=>rfl
 |.mp i,_=>rfl
 |.fW e W X,h=>by simp only[C.zP] at h;simp only[C.ah,K.eN];rw[C.Jv O y V X h]
def C.Jv(O:ak)(y:aw)(V:aw):∀(l:av),C.wC l=J->C.aF (O.at y) V l=C.aF O V l
 |[],_=>rfl
 |x::X,h=>by
  simp only[C.wC,az] at h;simp only[C.aF];rw[C.RT O y V x h.1,C.Jv O y V X h.2]
end
def RU(O:ak)(y:aw)(V:aw):∀(l:av),C.wC l=J->C.dJ (O.at y) V l=C.dJ O V l
 |[],_=>rfl
 |x::W,h=>by
  simp only[C.wC,az] at h;have X:=RU O y V W h.2;have R:=C.RT O y V x h.1;simp only[C.dJ,eE] at X⊢;rw[X];congr 1;cases x<;>simp only[C.gK]<;>first|rw[R]|(rw[RE.me])
def Nh:∀{l:bE}{i:Nat}{v:TypeId×av},Dv l=J->cg l i=U v->C.wC v.2=J
 |[],i,v,_,h=>by simp[cH] at h
 |U x::W,0,v,X,h=>by simp[Dv] at X;simp[cH] at h;exact h▸X.1
 |Z::W,0,v,X,h=>by simp[cH] at h
 |U x::W,i+1,v,X,h=>by simp[Dv] at X;exact Nh X.2 (by simpa[cH] using h)
 |Z::W,i+1,v,X,h=>by simp[Dv] at X;exact Nh X (by simpa[cH] using h)
def RW:∀{a b:bE},mG a b=J->a=b
 |[],[],_=>rfl
 |[],_::_,h=>by simp[mG] at h
 |Z::X,Z::W,h=>by simp only[mG] at h;rw[RW h]
 |Z::X,U y::W,h=>by simp[mG] at h
 |Z::X,[],h=>by simp[mG] at h
 |U x::X,Z::W,h=>by simp[mG] at h
 |U x::X,[],h=>by simp[mG] at h
 |U x::X,U y::W,h=>by
  simp only[mG,az,dv] at h;have V:=C.sD _ _ h.1.2;rw[RW h.2];obtain⟨R,Q⟩:=x;obtain⟨P,O⟩:=y;simp only at h V;rw[h.1.1,V]
def Ni(W:av)(X:bE):(nJ W X).length=Y X:=by
 unfold nJ;split<;>simp
def RX{W:bE}{x:TypeId×av}(h:cg (nJ v W) y=U x):cg W y=U x:=by
 unfold nJ at h;split at h;exfalso;simp only[cH] at h;rw[dN] at h;cases V:W[y]? with
 |none=>rw[V] at h;cases h
 |some X=>rw[V] at h;cases h
 exact h
def YM{X:bE}(h:aL (nJ v X) y=J):aL X y=true:=by
 obtain⟨x,W⟩:=kD.1 h;simp[aL,RX W]
def atm{t:T}(h:WU t=J)(p:Sp)(O:ak)(L:dm):t.aP p O L:=by
 unfold WU at h;split at h;simp[T.aP,BE.ah];cases h
def atn{W:ak}(h:iL N W (Y N.i) (Y N.b) (Y N.r))(H:Y W.i=Y N.i)(G:Y W.b=Y N.b)(F:Y W.r=Y N.r):W=N:=by
 obtain⟨i,b,r,y⟩:=N;obtain⟨V,R,Q,z⟩:=W;obtain⟨P,a2,M,L⟩:=h;simp only at P a2 M L H G F;have D:V=i:=ke λk=>by
  by_cases X:k<Y i;have:=P k X;simp only[dB,cK X,cK (show k<Y V from ae),oJ] at this⊢;rw[this];rw[jK ae,jK ae]
 have B:R=b:=ke λk=>by
  by_cases X:k<Y b;have:=a2 k X;simp only[dB,cK X,cK (show k<Y R from ae),oJ] at this⊢;rw[this];rw[jK ae,jK ae]
 have A:Q=r:=ke λk=>by
  by_cases X:k<Y r;have:=M k X;simp only[ak.rv,dB,cK X,cK (show k<Y Q from ae),oJ] at this⊢;rw[this];rw[jK ae,jK ae]
 subst D B A L;rfl
def Nj(X:bp):pI X (X.map RK.rd):=by
 refine⟨ay,λk V h=> ?_⟩;rw[dN] at h;cases W:X[k]? with
 |none=>rw[W] at h;cases h
 |some e=>
  rw[W] at h;simp only[dV,cG] at h;refine⟨e,rfl, ?_⟩;cases e<;>simp only[RK.rd] at h<;>first|exact .inl h.symm|exact .inr (.inr ⟨_,rfl,h.symm⟩)
def ato(W:av)(X:bE):nJ W X=X\/∀i,cg (nJ W X) i=none:=by
 unfold nJ;split;right;intro i;simp only[cH];rw[dN];cases X[i]?<;>rfl;exact .inl rfl
section
variable{p:Sp}{m:bF}
def atp(b8:∀z:Sp,z.P=p.P->jr z m->yv z m y)(ok:jr p m){X:C}{ex:bE}(h:Iw m (λf c l k=>fH m y f c l iK k) w v l=U (X,ex))(cc:(m.inl w).isSome=J)
  {D:b9}{a:Act}(hb:l.bd=J)(R:aC p.S0 p.w0 D m.ty x N l a b)(hg:eL m.gl N):(∀v b,(callFunc w v).run p.P b=.ok (.enter w v) b)/\
  Calls p.P w (C.aF N x v).toArray b λe W'=>∃V',e=.returned (X.ah N V')/\aC p.S0 p.w0 D m.ty V' N (l.plus ex) a W'/\bH l N x (l.plus ex) N V':=by
 unfold Iw at h;split at h;rename_i u hT;split at h;rename_i v0 c1;split at h;rename_i bf;cases h;simp only[az] at bf;obtain⟨⟨⟨⟨⟨⟨⟨ca,cb⟩,cv⟩,cs⟩,ct⟩,cl⟩,cm⟩,cn⟩:=bf;have bg:=RW ct;obtain⟨co,bk⟩:=R.yf hb;refine⟨ok.yp w (.inr cc), ?_⟩;obtain⟨S1,bl⟩:∃S1:aw,S1=((fU (Y l.au)).filter (aL (nJ v l.au))).map (ad x):=⟨_,rfl⟩;have cp:∀i,aL (nJ v l.au) i=J->ad x i∈S1:=λi F=>by
  rw[bl];refine hJ.2 ⟨i,pB.2 ⟨zv.2 ?_,F⟩,rfl⟩;obtain⟨M,hx⟩:=kD.1 F;have:=(bZ.1 (jO.1 hx)).1
  rwa [Ni] at this
 have br:∀L∈S1,∃i,aL (nJ v l.au) i=J/\ad x i=L:=λL hb=>by
  rw[bl] at hb;obtain⟨i,F,rfl⟩:=hJ.1 hb;exact⟨i,(pB.1 F).2,rfl⟩
 obtain⟨z,af⟩:∃z:Sp,z={P:=p.P,ty:=p.ty,S0:=S1,w0:=b,D:=b9.none,R:=λe _=>(match e with|.panicked _=>False|_=>True),Q:=λ_ _ _=>True}:=⟨_,rfl⟩;have ac:z.P=p.P:=by rw[af]
 have bs:z.S0=S1:=by rw[af]
 have bx:z.w0=b:=by rw[af]
 have b0:∀ch W',¬z.R (.panicked ch) W':=λch W' hh=>by rw[af] at hh;exact hh
 have b1:jr z m:=⟨by rw[af];exact ok.pt,by rw[ac];exact ok.Ye,by rw[ac];exact ok.kZ,by rw[ac];exact ok.xR,by rw[ac];exact ok.yp,λch b L o _ hh=>(b0 ch b hh).elim,by rw[ac];exact ok.inl⟩;have hS:=Ju (p:=z) b1 (b8 z ac b1) (D:=b9.none) (B:=⟨tR v l,N.at [],x,[]⟩) (yh:=iK) (DQ _ _);have B0:aC z.S0 z.w0 b9.none m.ty x (N.at []) (tR v l) ⟨#[],[]⟩ b:=by
  rw[bs,bx];refine⟨⟨ij.refl _ _,λi F=>.inr (cp i F),λi j F hj=>R.mem.inj i j (YM F) (YM hj),λi t cs h=> ?_,λk e rv A h2=> ?_⟩,by simp only[tR,Ni];exact R.gv,R.ei,R.eb,by simp only[tR,qY];exact R.er, ?_,rfl,λt sv h=>by simp[tR] at h,λk e rv L A=> ?_⟩;rw[RU _ _ _ _ (Nh cb h)];exact R.mem.box i t cs (RX h);have:=(R.mem.mb (Nj l.rs)).am k e rv A h2;exact⟨this.1,λL hb i F=>this.2 L hb i (YM F)⟩;exact⟨rfl,rfl,λy H r st h=>by simp[b9.none] at h,λy n' H r r' h=>by simp[b9.none] at h,[],rfl,λ_=>rfl,by simp[b9.none],λd h=>by simp[b9.none] at h⟩;exfalso;simp only[tR,dN] at A;cases hk:l.rs[k]? with
  |none=>rw[hk] at A;cases A
  |some M=>rw[hk] at A;cases M<;>simp[RK.rd] at A
 have cx:=hS [] (.fn w) v (tR v l) _ _ (N.at []) x ⟨#[],[]⟩ b (λe W'=>∃V',e=.returned (X.ah N V')/\aC p.S0 p.w0 D m.ty V' N (l.plus (u.au.drop (Y l.au))) a W'/\bH l N x (l.plus (u.au.drop (Y l.au))) N V') ⟨bH.refl _ _ _,di.refl _ _⟩ (atm cn z (N.at []) []) B0 hg ?_ ?_ (λch W' pd G _ hR=>(b0 ch W' hR).elim);have:=cx.2;rw[C.Jv N [] x v ca,ac] at this;exact this;intro v2 s2 O2 q W2 L2 hl _ R2 al;split at al;rename_i b2;simp only[az,afl,dv,cF] at b2;obtain⟨hv,⟨⟨ab,cy⟩,cA⟩,cB⟩:=b2;have hv:=C.bU _ _ hv;subst hv;have ab:=RW ab;have cC:O2=N.at []:=by
  refine atn hl.ext.agree ?_ ?_ ?_;rw[R2.ei,cy];exact R.ei.symm;rw[R2.eb,cA];exact R.eb.symm;rw[R2.er,cB];simp only[tR,qY];exact R.er.symm
 subst cC;rw[bs,bx] at R2;have c2:Y l.au<=Y u.au:=by
  have:=jW Y bg;rw[Ni,De] at this;omega
 have a3:∀i,i<Y l.au->cg u.au i=cg (nJ v l.au) i:=λi F=>by
  have:=jW (λH=>cg H i) bg;simp only[cH,mB,aI F] at this⊢;exact this
 have an:∀i,aL (nJ v l.au) i=J->ad q i=ad x i:=λi F=>hl.ext.ad i F
 have a0:∀{i:Nat}{H:bE},aL H i=J->i<Y H:=λh=>by
  obtain⟨M,hx⟩:=kD.1 h;exact(bZ.1 (jO.1 hx)).1
 have cD:∀i,Y l.au<=i->aL u.au i=J->b.heap.size<=ad q i:=by
  intro i F hh;rcases R2.mem.own i (by rw[ab];exact hh) with A|A;exact A;exfalso;obtain⟨j,hj,cI⟩:=br _ A;have a4:j<Y l.au:=by have:=a0 hj;rwa [Ni] at this
  have cO:aL u.au j=true:=by simp only[aL,a3 j a4];exact hj
  have:=R2.mem.inj i j (by rw[ab];exact hh) (by rw[ab];exact cO) (by rw[an j hj];exact cI.symm);omega
 have hB:Below b.heap.size b W2:=by
  have hO:=R2.mem.base;refine⟨hO.os,hO.tape,hO.output,hO.size,λk hk=> ?_⟩;by_cases b3:k∈S1;obtain⟨j,hj,rfl⟩:=br _ b3;have a4:j<Y l.au:=by have:=a0 hj;rwa [Ni] at this
  obtain⟨M,hx⟩:=kD.1 hj;obtain⟨bt,kj⟩:=M;have e1:=R.mem.box j bt kj (RX hx);have e2:=R2.mem.box j bt kj (by rw[ab,a3 j a4];exact hx);rw[an j hj] at e2;rw[e1,e2];congr 2;rw[RU _ _ _ _ (Nh cb hx)];refine MB (iL.refl _ _ _ _) (λk hk=>an k ?_) _ (sF bk (RX hx));rcases ato v l.au with hm|hm;rw[hm];exact hk;rw[hm j] at hx;cases hx;exact hO.block k hk b3
 have R0:=R.below hB;have cR:Y q=Y u.au:=by rw[R2.gv,ab]
 have a1:∀i,i<Y l.au->ad (x++q.drop (Y l.au)) i=ad x i:=λi F=>by
  simp only[ad,dB];rw[dU (by rw[R.gv];exact F)]
 have a9:∀i,Y l.au<=i->ad (x++q.drop (Y l.au)) i=ad q i:=λi F=>by
  simp only[ad,dB];rw[iC (by rw[R.gv];exact F),R.gv,tF,aDu F]
 have b4:∀i,aL u.au i=J->ad (x++q.drop (Y l.au)) i=ad q i:=λi F=>by
  by_cases aa:i<Y l.au;rw[a1 i aa,an i (by simp only[aL,<-a3 i aa];exact F)];exact a9 i ae
 have ba:∀i,i<Y l.au->cg (l.plus (u.au.drop (Y l.au))).au i=cg l.au i:=λi F=>by
  simp only[cH,S.plus,dU F]
 have b5:∀i,Y l.au<=i->cg (l.plus (u.au.drop (Y l.au))).au i=cg u.au i:=λi F=>by
  simp only[cH,S.plus];rw[iC F,tF,aDu F]
 have bb:∀k,aL l.au k=J->ad (x++q.drop (Y l.au)) k=ad x k:=λk hk=>a1 k (a0 hk)
 have ag:∀i,aL (l.plus (u.au.drop (Y l.au))).au i=J->(i<Y l.au/\aL l.au i=J/\ad (x++q.drop (Y l.au)) i=ad x i)\/(Y l.au<=i/\aL s2.au i=J/\ad (x++q.drop (Y l.au)) i=ad q i/\b.heap.size<=ad q i):=λi F=>by
  by_cases aa:i<Y l.au;exact .inl ⟨aa,by simpa only[aL,ba i aa] using F,a1 i aa⟩;have hh:aL u.au i=true:=by simpa only[aL,b5 i ae] using F
  exact .inr ⟨ae,by rw[ab];exact hh,a9 i ae,cD i ae hh⟩
 have c3:p.w0.heap.size<=b.heap.size:=R.mem.base.size;refine⟨x++q.drop (Y l.au), ?_,⟨⟨R0.mem.base, ?_, ?_, ?_, ?_⟩, ?_,R.ei,R.eb,R.er,R0.cU,R.size, ?_, ?_⟩,⟨⟨iL.refl _ _ _ _,cd _,cd _,cd _,bb⟩, ?_, ?_,cd _⟩⟩;rw[C.RT _ _ _ _ cv];have cW:v2.bd (Y N.i) (Y N.b) (Y N.r) (aL u.au)=true:=by rw[R.ei,R.eb,R.er];exact cl
 rw[C.dW (iL.refl _ _ _ _) b4 v2 cW];intro i F;rcases ag i F with⟨_,h2,h3⟩|⟨_,_,h3,h4⟩;rw[h3];exact R.mem.own i h2;rw[h3];exact .inl ae;intro i j F hj b6;rcases ag i F with⟨i1,i2,i3⟩|⟨i1,i2,i3,i4⟩<;>rcases ag j hj with⟨j1,j2,j3⟩|⟨j1,j2,j3,j4⟩;exact R.mem.inj i j i2 j2 (by rw[<-i3,<-j3];exact b6);exfalso;have:=R.mem.lt i2;omega;exfalso;have:=R.mem.lt j2;omega;exact R2.mem.inj i j i2 j2 (by rw[<-i3,<-j3];exact b6);intro i t kj h;by_cases aa:i<Y l.au;rw[ba i aa] at h;rw[a1 i aa,R0.mem.box i t kj h];congr 2;exact(MB (iL.refl _ _ _ _) bb _ (sF bk h)).symm;rw[b5 i ae] at h;rw[a9 i ae,R2.mem.box i t kj (by rw[ab];exact h)];congr 2;rw[RU _ _ _ _ (Nh cs h)];have c0:C.dQ (Y N.i) (Y N.b) (Y N.r) (aL u.au) kj=true:=by rw[R.ei,R.eb,R.er];exact sF cm h
 exact(MB (iL.refl _ _ _ _) b4 _ c0).symm;intro k e rv A h2;refine⟨(R0.mem.am k e rv A h2).1,λL b7 i F=> ?_⟩;rcases ag i F with⟨i1,i2,i3⟩|⟨i1,i2,i3,i4⟩;rw[i3];exact(R.mem.am k e rv A h2).2 L b7 i i2;rw[i3];have:=(R.mem.am k e rv A h2).1.lt b7;omega;simp only[S.plus,gD,Df,cR,R.gv];intro t sv h;rcases R.tmps t sv h with A|A;exact .inl A;right;rw[C.dW (iL.refl _ _ _ _) bb sv (uY co h)];exact A;intro k e rv L A h2 h3;have T0:=R0.fZ k e rv L A h2 h3;refine⟨T0.own,T0.mem,λi F=> ?_,T0.alone,T0.inner⟩;rcases ag i F with⟨i1,i2,i3⟩|⟨i1,i2,i3,i4⟩;rw[i3];exact T0.box i i2;rw[i3];have:=(R.fZ k e rv L A h2 h3).lt;omega;intro i F;have aa:=a0 F;simp only[aL,ba i aa];exact F;simp only[S.plus,gD];omega;exact al.elim;intro v2 s2 O2 q W2 L2 hl _ R2 al;exact al.elim;cases h;cases h;cases h
end
def atq{X:S}(W:nJ v X.au=nJ v l.au)(V:X.ni=l.ni)(R:X.nb=l.nb)(Q:X.rs=l.rs):tR v X=tR v l:=by
 simp only[tR,W,V,R,Q]
def aib{m:bF}{X:S}(W:nJ v X.au=nJ v l.au)(V:X.ni=l.ni)(R:X.nb=l.nb)(Q:X.rs=l.rs)(P:Y X.au=Y l.au):Iw m t w v X=Iw m t w v l:=by
 unfold Iw;rw[atq W V R Q,W,V,R,Q,P]
def atr(m:bF)(X:dI)(R:FuncId->Code->S->(XE->S->T)->T):DL X (Dw m X R):=by
 refine⟨λg Q s d v l=> ?_,λg s n t O d w N=> ?_,λg Q s r h=> ?_⟩;unfold Dw;rw[aib]<;>cases d<;>rfl
 ·unfold Dw;rw[aib]<;>cases d<;>simp[S.cZ,S.put,uQ,nJ,ae1]<;>(try apply ke)<;>(try intro i)<;>(try simp[uL])<;>(try(intro P;subst P;by_cases W:n<Y s.au;(· simp[W]);(· simp[W])))
 unfold Dw at h;split at h;rename_i V;simp only[az] at V;exact V.1;cases h
def ats{p:Sp}{m:bF}{N:dI}(M:∀X:Sp,X.P=p.P->jr X m->yv X m y)(L:jr p m):RL p m (Dw m N λf c s k=>fH m y f c s iK k):=by
 intro g F s v B h D O V a W H R G;unfold Dw at h;split at h;rename_i Q;simp only[az] at Q;exact atp M L h Q.2 H R G;cases h
def aic(s:S)(X:aw)(i:Nat):(s.bW X).tmps[i]?=(s.tmps[i]?).map λx=>if X.contains i then .any else x:=by
 simp only[S.bW];rw[u5,iJ]
def att(h:y∉x):(l.bW x).tmps[y]?=l.tmps[y]?:=by
 rw[aic];cases l.tmps[y]?<;>simp[h]
def YN{X W V:Nat}{R:Nat->Bool}(Q:aw):∀(l:av)(n:Nat),C.dQ X W V R l=J->C.dQ X W V R (ss Q n l)=J
 |[],n,_=>rfl
 |x::P,n,h=>by
  simp only[C.iD,az] at h;simp only[ss,C.iD,az];refine⟨?_,YN Q P (n+1) h.2⟩;split;simp[C.aZ];exact h.1
def Jw{ds:aw}(h:l.eV v=J):(l.bW ds).eV v=true:=by
 simp only[S.eV,S.bd,az,S.bW] at h⊢;exact⟨⟨YN ds _ 0 h.1.1,h.1.2⟩,h.2⟩
def B4{d:cw}{v:C}(h:∀X,d=U X->X∉x):(l.put d v).bW x=(l.bW x).put d v:=by
 cases d with
 |none=>rfl
 |some X=>
  have V:=h X rfl;simp only[S.put,uQ,S.bW];congr 1;apply ke;intro i;rw[u5,iJ,uL,uL,u5,iJ,Jt];by_cases W:X=i;subst W;by_cases R:X<Y l.tmps<;>simp[R,V];simp[W]
def aid{s:S}{ds es:aw}(h:∀x∈es,x∈ds):(s.bW es).bW ds=s.bW ds:=by
 simp only[S.bW];congr 1;apply ke;intro i;rw[u5,u5,u5,iJ];cases s.tmps[i]? with
 |none=>rfl
 |some x=>
  simp only[dV];by_cases X:i∈ds;simp[X];have:i∉es:=λW=>X (h i W)
  simp[X,this]
def atu(v:C):Mb E v=0:=by
 cases v<;>rfl
section
variable{p:Sp}{cf:bF}{ops:dI}
def aC.bW{D:b9}{s:S}{O:ak}{V:aw}{a:Act}{W:World}(R:aC p.S0 p.w0 D cf.ty V O s a W)(P:aw):aC p.S0 p.w0 D cf.ty V O (s.bW P) a W:=by
 refine⟨R.mem,R.gv,R.ei,R.eb,R.er,R.cU,by simp only[S.bW,Jt];exact R.size,λt N X=> ?_,R.fZ⟩;rw[aic] at X;cases Q:s.tmps[t]? with
 |none=>rw[Q] at X;cases X
 |some x=>
  rw[Q] at X;simp only[dV,cG] at X;split at X;exact .inl X.symm;subst X;exact R.tmps t x Q
def aie{m:OM}{O:ak}{b:BE}{v:C}(Q:mY m.o.op=J)(P:m.bR=E)(h:zQ cf l m.o=U (b,v))(N:b.ah O=J):(gt cf m l).gives O (l.put m.o.dst v):=by
 unfold zQ at h;split at h;cases h;rename_i X;simp only[jd,not_or,aeX] at X;obtain⟨X,W⟩:=X;have V:(sj l m.o.dst 0 (ck cf.ty cf.gl l m.o.op)).gives O (l.put m.o.dst v):=by
  split at h;rename_i w R;cases h;rw[R];simp only[sj,OR.gives,Gk];rename_i H w R;split at h;rename_i M;cases h;rw[R];simp only[sj,M,cS,OR.gives,Gk,and_true];exact N;cases h;cases h
 unfold gt;rw[aK (by rw[X];simp)];cases L:m.o.op<;>rw[L] at Q V W<;>simp only[mY,iW,WV] at Q W<;>first|exact V|(simp only[P,atu];exact V)|cases W
def RY{o:Oper}{s:S}{O:ak}(h:∀t∈jM ops o,t∉x):kJ cf ops o s O (s.bW x) O:=kJ.yq (λt X=>att (h t X)) rfl rfl rfl
def aif{o:Oper}{ds:aw}{r:BE×C}(h:∀t∈jM ops o,t∉ds)(X:zQ cf l o=U r):zQ cf (l.bW ds) o=U r:=by
 have V:=RY (cf:=cf) (s:=l) (O:=⟨[],[],[],[]⟩) h;have Q:=V.ev cf.gl;unfold zQ at X⊢;split at X;cases X;rename_i M;have L:¬((o.op.operands.toList.any λx=>((l.bW ds).ev cf.gl x).eJ)||WV o.op)=true:=by
  intro W;apply M;simp only[jd] at W⊢;rcases W with W|W;left;obtain⟨x,N,H⟩:=kS.1 W;exact kS.2 ⟨x,N,by rw[<-Q x N];exact H⟩;exact .inr W
 rw[aK L];cases R:ck cf.ty cf.gl l o.op with
 |ok w=>rw[RD (ty:=cf.ty) Q V.kd V.kl (λi _=>rfl) R (λw P=>by cases P)];rw[R] at X;exact X
 |bz b w=>rw[RD (ty:=cf.ty) Q V.kd V.kl (λi _=>rfl) R (λw P=>by cases P)];rw[R] at X;exact X
 |no w=>rw[R] at X;cases X
def atv{m:OM}{P:S}(N:Mo m.o.op=J)(h:∀t∈jM ops m.o,t∉x)(Q:∀X,m.o.dst=U X->X∉x)(W:gt cf m l=.ok P):gt cf m (l.bW x)=.ok (P.bW x):=by
 have H:=RY (cf:=cf) (s:=l) (O:=⟨[],[],[],[]⟩) h;have R:=H.ev cf.gl;unfold gt at W⊢;split at W;cases W;rename_i G;have F:¬(m.o.op.operands.toList.any λX=>((l.bW x).ev cf.gl X).eJ)=true:=by
  intro D;apply G;obtain⟨X,M,B⟩:=kS.1 D;exact kS.2 ⟨X,M,by rw[<-R X M];exact B⟩
 rw[aK F];have r:∀(n:Nat)(t:TypeId)(L:av),(l.bW x).cZ n t L=(l.cZ n t L).bW x:=λ_ _ _=>rfl
 cases A:m.o.op<;>rw[A] at N W R<;>simp only[Mo,iW] at N
 
 simp only at W⊢;split at W;split at W;rename_i V;simp only[az] at V;rw[aI (by simp only[az];exact⟨Jw V.1,V.2⟩)];cases W;rw[B4 Q];rfl;cases W;cases W
 
 rename_i t X;simp only at W⊢;rw[R X cL];split at W;split at W;rename_i V;simp only[az] at V;rw[aI (by simp only[az];exact⟨⟨⟨V.1.1.1,Jw V.1.1.2⟩,V.1.2⟩,V.2⟩)];cases W;rw[B4 Q];rfl;cases W;cases W;rename_i t k parts;simp only at W⊢;have z:(parts.toList.map λq=>(q.1,(l.bW x).ev cf.gl q.2))=parts.toList.map λq=>(q.1,l.ev cf.gl q.2):=by
  refine kb λq w=> ?_
  rw[R q.2 (by simp only[io,hJ];exact⟨q,w,rfl⟩)]
 rw[z];split at W;split at W;split at W;split at W;rename_i V;simp only[az] at V;rw[aI (by simp only[az];exact⟨⟨Jw V.1.1,V.1.2⟩,V.2⟩)];cases W;congr 1;rw[B4 Q];rfl;cases W;cases W;cases W;cases W
 
 rename_i t X y;simp only at W⊢;rw[R X cL,R y cL];split at W;split at W;rename_i v;have u:lB (l.bW x).au _=_:=v;rw[u];simp only;split at W;rename_i V;rw[show(l.bW x).lk=l.lk from rfl,aI V];cases W;rw[B4 Q];rfl;cases W;cases W;cases W
def atw{o:Oper}{s:S}(h:∀t∈jM ops o,t∉x):∀X∈o.op.operands.toList,s.ev cf.gl X=(s.bW x).ev cf.gl X:=
 λX W=>((RY (cf:=cf) (s:=s) (O:=⟨[],[],[],[]⟩) h).ev cf.gl X W).symm
def YO{X:Ty}(r:RE):r.kind X (l.bW x)=r.kind X l:=BT (s:=l.bW x) (s':=l) rfl r
def YP{X:Ty}{s:S}{W:aw}:∀(ao:eQ)(l:av),l8 X (s.bW W) ao l=l8 X s ao l
 |[],[]=>rfl
 |[],_::_=>rfl
 |_::_,[]=>rfl
 |c::V,v::R=>by
  simp only[l8,YP V R];congr 1;unfold si;split<;>try rfl
  rename_i z k r;cases k<;>simp only[RE.fits,YO]
def RZ{X:Ty}{s:S}{W:aw}(ao:eQ):∀l:wm,mX X (s.bW W) ao l=mX X s ao l
 |[]=>rfl
 |r::V=>by simp only[mX,YP,RZ ao V]
def Nk{ds:aw}{d:cw}{bz:BE}{k:RK}{X:LE}{cY:aw}{b:BI}(V:∀X,d=U X->X∉ds)(h:jY l d bz g k X x cY=U b):jY (l.bW ds) d bz g k X x cY=U {b with s:=b.s.bW ds}:=by
 unfold jY at h⊢;split at h;rename_i W;cases h;have R:(l.bW ds).bd=true:=by
  have Q:l.eV []=true:=by
   simp only[az] at W;simp only[S.eV,C.iD,LV];exact W.1.1.1
  have:=Jw (ds:=ds) Q;simpa only[S.eV,C.iD,LV] using this
 simp only[az] at W;rw[aI (by simp only[az];exact⟨⟨⟨R,W.1.1.2⟩,W.1.2⟩,W.2⟩),B4 V];rfl;cases h
def atx{bR:Bool}(v:C):ww (l.bW x) g bR v=ww l g bR v:=rfl
def aty{X:Ty}{W:TI}(v:C):rh X (l.bW x) g W v=rh X l g W v:=by
 unfold rh;split<;>simp only[YO,RZ]<;>rfl
def aig{X:aw}{k n:Nat}:∀(l:av)(i:Nat),ss X i (C.oP k n l)=C.oP k n (ss X i l)
 |[],_=>rfl
 |x::W,i=>by
  simp only[C.oP,ss,aig W (i+1)];split<;>rfl
def aih{n:Nat}:(l.bW x).hM y n=(l.hM y n).bW x:=by
 simp only[S.bW,S.hM,aig]
def atz{d:cw}{u:zI}(W:∀X,d=U X->X∉x)(h:FL cf w v l d=U u):FL cf w v (l.bW x) d=U {u with s:=u.s.bW x}:=by
 unfold FL at h⊢;split at h;split at h;have V:(l.bW x).au=l.au:=rfl;have R:(l.bW x).rs=l.rs:=rfl;have Q:(l.bW x).ni=l.ni:=rfl;have P:(l.bW x).nb=l.nb:=rfl;simp only[V,R,Q,P];split at h;split at h;rename_i O;cases h;rw[aI O];congr 2;rw[B4 W,<-aih];rfl;cases h;cases h;cases h;cases h
def atA(h:l.bd=J):(l.bW x).bd=true:=by
 simp only[S.bd,az,S.bW] at h⊢;exact⟨YN x _ 0 h.1,h.2⟩
def atB{o:Oper}{u:zI}(W:ec cf (l.bW x) o=ec cf l o)(V:∀X,o.dst=U X->X∉x)(h:FM cf o l=U u):FM cf o (l.bW x)=U {u with s:=u.s.bW x}:=by
 unfold FM at h⊢;rw[W];split at h;cases h;rename_i R;have Q:(l.bW x).bd=true:=atA (by simpa using R);rw[aK (by simp[Q])];generalize ec cf l o=c at h;cases c with
 |call g P=>
  cases g with
  |fn f=>exact atz V h
  |yl n=>cases h
 |bI v=>cases h
 |no=>cases h
 |op=>cases h
def atC{o:Oper}{bR:Bool}{b:BI}(Q:Iz o.op=J)(h:∀t∈jM ops o,t∉x)(O:∀X,o.dst=U X->X∉x)(W:eH cf o bR E l=U b):eH cf o bR E (l.bW x)=U {b with s:=b.s.bW x}:=by
 have V:=atw (cf:=cf) (s:=l) h;unfold eH at W⊢;cases P:o.op with
 |call c=>
  rw[P] at Q W V;simp only[Iz] at Q;split at Q
  ·rename_i v;simp only[v] at W⊢;have u:c.args.toList.map ((l.bW x).ev cf.gl)=c.args.toList.map (l.ev cf.gl):=kb λX R=>(V X (by simp[io,zw];exact .inr (by simpa using R))).symm
   rw[u];simp only[atx,aty]
   repeat' split at W
   all_goals first
    |cases W;done
    |(have q:=Nk (ds:=x) O W;(repeat' split)<;>first|exact q|contradiction|(exfalso;simp_all;done))
  cases Q
 |makeSlice t n m=>
  rw[P] at W V;simp only at W⊢;rw[<-V n cL,<-V m cL];simp only[RZ]
  repeat' split at W
  all_goals first
   |cases W;done
   |(have q:=Nk (ds:=x) O W;(repeat' split)<;>first|exact q|contradiction|(exfalso;simp_all;done))
 |buildSlice t d parts=>
  rw[P] at W V;have r:(parts.toList.map λq=>(q.1,(l.bW x).ev cf.gl q.2))=parts.toList.map λq=>(q.1,l.ev cf.gl q.2):=by
   refine kb λq M=> ?_
   rw[V q.2 (by simp only[io,hJ];exact⟨q,M,rfl⟩)]
  have j:(parts.toList.any λq=>((l.bW x).ev cf.gl q.2).eJ)=parts.toList.any λq=>(l.ev cf.gl q.2).eJ:=by
   rw[tG,kS,kS];constructor;rintro⟨X,R,L⟩;exact⟨X,R,by rw[V X.2 (by simp only[io,hJ];exact⟨X,R,rfl⟩)];exact L⟩;rintro⟨X,R,L⟩;exact⟨X,R,by rw[<-V X.2 (by simp only[io,hJ];exact⟨X,R,rfl⟩)];exact L⟩
  simp only at W⊢;rw[r,j];simp only[RZ]
  repeat' split at W
  all_goals first
   |cases W;done
   |(have q:=Nk (ds:=x) O W;(repeat' split)<;>first|exact q|contradiction|(exfalso;simp_all;done))
 |slice t X D B A=>
  rw[P] at W V;have H:∀y:Option Operand,(∀z,y=U z->z∈(Op.slice t X D B A).operands.toList)->y.map ((l.bW x).ev cf.gl)=y.map (l.ev cf.gl):=by
   intro y i;cases y with
   |none=>rfl
   |some z=>simp only[dV];rw[<-V z (i z rfl)]
  simp only at W⊢;rw[<-V X cL,H D (λz N=>by subst N;simp[io]),H B (λz N=>by subst N;simp[io]),H A (λz N=>by subst N;simp[io])];simp only[YO]
  repeat' split at W
  all_goals first
   |cases W;done
   |(have q:=Nk (ds:=x) O W;(repeat' split)<;>first|exact q|contradiction|(exfalso;simp_all;done))
 |store t a X=>
  rw[P] at W V;simp only at W⊢;rw[<-V a cL,<-V X cL];have g:(l.bW x).rs=l.rs:=rfl;simp only[YP];rw[g];have w:∀{bz:BE}{e:TypeId}{G:RK}{y:LE}{F cY:aw}{k:Nat}{b:BI},(jY l Z bz e G y F cY).map (λb=>{b with s:=(b.s.hM k (Y l.rs)).put o.dst (.bP [])})=U b->
    (jY (l.bW x) Z bz e G y F cY).map (λb=>{b with s:=(b.s.hM k (Y l.rs)).put o.dst (.bP [])})=U {b with s:=b.s.bW x}:=by
   intro bz e G y F cY k b M;obtain⟨b0,f,rfl⟩:=P3.1 M;rw[Nk (ds:=x) ay f];simp only[dV];rw[aih,<-B4 O]
  repeat' split at W
  all_goals first
   |cases W;done
   |(have q:=w W;clear w;(repeat' split)<;>first|exact q|contradiction|(exfalso;simp_all;done))
 |_=>rw[P] at Q;simp[Iz] at Q
end
section
variable{ops:dI}
def qd(l:cN):aw:=l.filterMap (·.o.dst)
structure tY(ops:dI)(listed:Array Bool)(rem:cN):Prop where
 mem:∀m∈rem,ops[m.j]?=U m.o
 un:∀i,i<ops.size->(listed.getD i J=E<->∃m∈rem,m.j=i)
 sz:listed.size=ops.size
 dn:∀(j:Nat)(o:Oper),ops[j]?=U o->listed.getD j E=J->∀e∈kX o,listed.getD e E=J
 nd:rem.Pairwise λx y=>x.j≠y.j
def tY.listed{listed:Array Bool}{O:cN}(W:Jm ops x)(N:tY ops listed O):∀(j:Nat)(o:Oper),ops[j]?=U o->(∀e∈kX o,listed.getD e E=J)->∀i,i<ops.size->(x.getD j 0).testBit i=J->listed.getD i E=true:=by
 intro j;induction j using Qe with
 |_ j M=>
  intro o X V i R L;rcases W.cl j o X i R L with h|⟨e,Q,h⟩;exact V i h;have H:=W.lt j o X e Q;have G:j<ops.size:=(n9.1 X).1;have P:ops[e]?=U ops[e]:=aqj ae;exact M e H ops[e] P (N.dn e _ P (V e Q)) i R h
def tY.lt{listed:Array Bool}{X:cN}(W:tY ops listed X){m:OM}(V:m∈X):m.j<ops.size:=(n9.1 (W.mem m V)).1
def tY.not{listed:Array Bool}{V:cN}(X:tY ops listed V){m:OM}(W:m∈V):listed.getD m.j E≠true:=by
 have h:=(X.un m.j (X.lt W)).2 ⟨m,W,rfl⟩;have R:m.j<listed.size:=by rw[X.sz];exact X.lt W
 simp[R] at h⊢;exact h
def tY.next{listed:Array Bool}{V R:cN}{m:OM}(W:tY ops listed (V++m::R))(D:∀e∈kX m.o,listed.getD e E=J):tY ops (listed.setIfInBounds m.j J) (V++R):=by
 have H:=W.mem m ay;have B:m.j<ops.size:=(n9.1 H).1;have P:m.j<listed.size:=by rw[W.sz];exact B
 have O:aqM (V++R) (V++m::R):=aeS (aeV _) (aeQ _ _);have A:∀x∈V++R,x.j≠m.j:=by
  intro x X;have N:=W.nd;rw[mT] at N;rcases eP.1 X with h|h;exact N.2.2 x h m ay;exact Ne.symm ((jL.1 N.2.1).1 x h)
 refine⟨λx X=>W.mem x (O.subset X),λi z=> ?_,by simp[W.sz],λj o M Q e G=> ?_,W.nd.sublist O⟩;rw[Gl _ _ _ _ P];by_cases L:i=m.j;subst L;simp only[cS,aDz,false_iff];rintro⟨x,X,Q⟩;exact A x X Q;rw[aK L,W.un i z];constructor;rintro⟨x,X,rfl⟩;refine⟨x, ?_,rfl⟩;simp only[eP,dP] at X⊢;rcases X with h|h|h;exact .inl h;subst h;exact aY rfl L;exact .inr h;rintro⟨x,X,rfl⟩;exact⟨x,O.subset X,rfl⟩;rw[Gl _ _ _ _ P];rw[Gl _ _ _ _ P] at Q;split;rfl;by_cases F:j=m.j;subst F;rw[H] at M;cases M;exact D e G;rw[aK F] at Q;exact W.dn j o M Q e G
def tY.some{listed:Array Bool}{W:cN}(O:Jm ops x)(X:tY ops listed W):∀(j:Nat),(∃m∈W,m.j=j)->∃m∈W,∀e∈kX m.o,listed.getD e E=true:=by
 intro j;induction j using Qe with
 |_ j N=>
  rintro⟨m,V,rfl⟩;by_cases h:∀e∈kX m.o,listed.getD e E=J;exact⟨m,V,h⟩;simp only[Classical.not_forall] at h;obtain⟨e,M,R⟩:=h;have Q:=O.lt m.j m.o (X.mem m V) e M;have P:e<ops.size:=Nat.lt_trans Q (X.lt V);have:listed.getD e J=false:=by
   have L:e<listed.size:=by rw[X.sz];exact P
   simp[L] at R⊢;exact R
  exact N e Q ((X.un e P).1 this)
end
def atD(X:aQ)(s:S)(W:aw):((s.bW W).cz X).1=(s.cz X).1/\((s.bW W).cz X).2=(s.cz X).2.bW W:=by
 induction X generalizing s with
 |nil=>exact⟨rfl,rfl⟩
 |cons k X V=>
  simp only[S.cz];have R:((s.bW W).fresh k).1=(s.fresh k).1:=by cases k<;>rfl
  have Q:((s.bW W).fresh k).2=(s.fresh k).2.bW W:=by cases k<;>rfl
  rw[R,Q];obtain⟨P,O⟩:=V (s.fresh k).2;exact⟨by rw[P],O⟩
section
variable{p:Sp}{cf:bF}
open Classical in
noncomputable def B5(s:S)(W:aw)(k:C->S->T):C->S->T:=λv X=>if X.tmps=(s.bW W).tmps then k v {X with tmps:=s.tmps} else .stuck ""
def atE{M:YH}{k R:C->S->T}
  (h:(jZ cf t M (.fn w) v l k R).aP p N e):(jZ cf t M (.fn w) v (l.bW x) (B5 l x k) (B5 l x R)).aP p N e:=by
 unfold jZ at h⊢;simp only at h⊢;split at h;rename_i c y H u;split at h;rename_i G;rw[aI (Jw G)];have:Iv cf (l.bW x) H (B5 l x k) (B5 l x R)=Iv cf l H k R:=by
  funext X r;cases X<;>simp only[Iv,B5,cS]
 rw[this];exact h;exact h.elim;unfold xW at h⊢;split at h;split at h;rename_i V q;obtain⟨F,D⟩:=atD V (l.cut v V) x;have B:(l.bW x).cut v V=(l.cut v V).bW x:=rfl;rw[B,F,D];split at h;rename_i W o;split at h;rename_i Q;simp only[az] at Q;rw[aI (by simp only[az];exact⟨Jw Q.1,Q.2⟩)];have P:((l.cut v V).cz V).2.tmps=l.tmps:=(wL V (l.cut v V)).2.1;have A:B5 l x k (one W) (((l.cut v V).cz V).2.bW x)=k (one W) ((l.cut v V).cz V).2:=by
  simp only[B5];rw[aI (by simp only[S.bW,P])];congr 1;simp only[S.bW];generalize((l.cut v V).cz V).2=z at P;rw[<-P]
 rw[A];exact h;exact h.elim;exact h.elim;exact h.elim;exact h.elim
end
section
variable{p:Sp}{cf:bF}{ops:dI}
def aii{V:Type}:∀{l:List V}{x:V},x∈l->∃X W,l=X++x::W/\(x,X++W)∈Ix l
 |[],x,h=>by cases h
 |y::r,x,h=>by
  rcases dP.1 h with rfl|h;exact⟨[],r,rfl,by simp[Ix]⟩;obtain⟨X,W,R,Q⟩:=aii h;subst R;exact⟨y::X,W,rfl,by simp only[Ix,dP,hJ];exact .inr ⟨_,Q,rfl⟩⟩
def YQ{p:Sp}{O:ak}{L:dm}:∀{l:List T},(By l).aP p O L->∀t∈l,t.aP p O L
 |[],h,_,_=>h.elim
 |[t],h,x,X=>by simp only[P9] at X;subst X;exact h
 |t::u::r,h,x,X=>by
  simp only[By,T.aP,BE.ah,true_implies] at h;rcases dP.1 X with rfl|X;exact h.1;exact YQ (l:=u::r) h.2 x X
def Nl:∀{l m:bE},mG l m=J->l=m
 |[],[],_=>rfl
 |[],_::_,h=>by simp[mG] at h
 |Z::_,[],h=>by simp[mG] at h
 |U _::_,[],h=>by simp[mG] at h
 |Z::X,Z::W,h=>by simp only[mG] at h;rw[Nl h]
 |Z::_,U _::_,h=>by simp[mG] at h
 |U _::_,Z::_,h=>by simp[mG] at h
 |U (t,V)::X,U (R,Q)::W,h=>by
  simp only[mG,az,dv] at h;rw[h.1.1,C.sD _ _ h.1.2,Nl h.2]
def aij:∀{l m:wm},Iy l m=J->l=m
 |[],[],_=>rfl
 |[],_::_,h=>by simp[Iy] at h
 |_::_,[],h=>by simp[Iy] at h
 |x::X,y::W,h=>by
  simp only[Iy,az] at h;rw[C.sD _ _ h.1,aij h.2]
def LE.bU:∀(a b:LE),LE.aM a b=J->a=b
 |.am r,b,h=>by cases b<;>simp[LE.aM] at h;rw[RE.bU _ _ h]
 |.lit l,b,h=>by cases b<;>simp[LE.aM] at h;rw[aij h]
 |.mW x y,b,h=>by cases b<;>simp[LE.aM] at h;rw[LE.bU _ _ h.1,LE.bU _ _ h.2]
 |.uP n W,b,h=>by cases b<;>simp[LE.aM] at h;rw[K.bU _ _ h.1,C.sD _ _ h.2]
 |.set x i V X,b,h=>by cases b<;>simp[LE.aM] at h;rw[LE.bU _ _ h.1.1.1,K.bU _ _ h.1.1.2,h.1.2,C.sD _ _ h.2]
 |.sub x R Q,b,h=>by cases b<;>simp[LE.aM] at h;rw[LE.bU _ _ h.1.1,K.bU _ _ h.1.2,K.bU _ _ h.2]
 |.ins x n X,b,h=>by cases b<;>simp[LE.aM] at h;rw[LE.bU _ _ h.1.1,h.1.2,C.sD _ _ h.2]
def S.bU{s s':S}(h:S.aM s s'=J):s=s':=by
 obtain⟨M,a2,L,H,a5,a6,a7,a8⟩:=s;obtain⟨G,F,D,B,A,z,y,x⟩:=s';simp only[S.aM,az,dv,cF] at h;obtain⟨⟨⟨⟨⟨⟨⟨X,W⟩,V⟩,R⟩,Q⟩,P⟩,O⟩,N⟩:=h;rw[C.sD _ _ X,Nl W,V,R,Q,P,O,N]
def T.bU:∀(a b:T),T.aM a b=J->a=b
 |.out e s,b,h=>by
  cases e with
  |normal=>
   cases b with
   |out W s'=>
    cases W with
    |normal=>rw[S.bU (s:=s) (s':=s') h]
    |_=>simp[T.aM] at h
   |_=>simp[T.aM] at h
  |_=>simp[T.aM] at h
 |.stuck _,b,h=>by simp[T.aM] at h
 |.dO _ _ _ _ _ _ _ _,b,h=>by simp[T.aM] at h
 |.ret v V X,b,h=>by cases b<;>simp[T.aM] at h;rw[C.bU _ _ h.1.1,Nl h.1.2,h.2]
 |.bI v,b,h=>by cases b<;>simp[T.aM] at h;rw[C.bU _ _ h]
 |.aW c t f,b,h=>by cases b<;>simp[T.aM] at h;rw[BE.bU _ _ h.1.1,T.bU _ _ h.1.2,T.bU _ _ h.2]
 |.bz c t,b,h=>by cases b<;>simp[T.aM] at h;rw[BE.bU _ _ h.1,T.bU _ _ h.2]
 |.call f G V X R jf t,b,h=>by
  cases b<;>simp[T.aM] at h;obtain⟨⟨⟨⟨⟨⟨Q,P⟩,O⟩,N⟩,M⟩,L⟩,H⟩:=h;rw[Q,C.sD _ _ P,Nl O,N,M,C.bU _ _ L,T.bU _ _ H]
 |.loop aA R F t,b,h=>by cases b<;>simp[T.aM] at h;rw[h.1.1.1,h.1.1.2,C.sD _ _ h.1.2,T.bU _ _ h.2]
 |.back aA x,b,h=>by cases b<;>simp[T.aM] at h;rw[h.1,C.sD _ _ h.2]
 |.new e x X D t,b,h=>by cases b<;>simp[T.aM] at h;rw[h.1.1.1.1,LE.bU _ _ h.1.1.1.2,h.1.1.2,h.1.2,T.bU _ _ h.2]
 |.aj k x X t,b,h=>by cases b<;>simp[T.aM] at h;rw[h.1.1.1,LE.bU _ _ h.1.1.2,h.1.2,T.bU _ _ h.2]
 |.gE g k t f,b,h=>by cases b<;>simp[T.aM] at h;rw[BE.bU _ _ h.1.1.1,BE.bU _ _ h.1.1.2,T.bU _ _ h.1.2,T.bU _ _ h.2]
 |.pick n g k t f,b,h=>by
  cases b<;>simp[T.aM] at h;rw[K.bU _ _ h.1.1.1.1,BE.bU _ _ h.1.1.1.2,BE.bU _ _ h.1.1.2,T.bU _ _ h.1.2,T.bU _ _ h.2]
def Jx:∀{l:List T}{t:T},t∈l->t∈FV l
 |[],t,h=>by cases h
 |u::R,t,h=>by
  simp only[FV];rcases dP.1 h with rfl|h;split;rename_i X;obtain⟨w,W,V⟩:=kS.1 X;rw[T.bU _ _ V];exact Jx W;exact LR;split;exact Jx h;exact Da _ (Jx h)
def aik{p:Sp}{O:ak}{L:dm}:∀{l:List BE}{t:T},(QF l t).aP p O L->(∀b∈l,b.ah O=J)/\t.aP p O L
 |[],t,h=>⟨λ_ X=>(by cases X),h⟩
 |b::r,t,h=>by
  simp only[QF,T.aP] at h;obtain⟨W,V⟩:=aik h.2;exact⟨λx R=>(dP.1 R).elim (λe=>e▸h.1) (W x),V⟩
def atF{V:pD}{l9:List BE}{X:cN}{R:aw}{k:S->T}{Q:C->S->T}{W:cN}(h:(oS cf V x l9 X R k Q y W l).aP p N e):WX cf l9 l X=true:=by
 cases W with
 |nil=>
  cases y<;>simp only[oS] at h<;>split at h;assumption;exact h.elim;assumption;exact h.elim
 |cons m M=>
  cases y with
  |zero=>exact h.elim
  |succ y=>
   simp only[oS] at h;split at h;exact h.elim;rename_i P;simpa using P
def atG(s:S):s.bW []=s:=by
 obtain⟨X,b,c,d,e,f,g,i⟩:=s;simp only[S.bW,S.mk.injEq,and_self,and_true];apply ke;intro i;rw[u5];cases X[i]?<;>simp
def YR:∀{l:List T}{t:T},t∈FV l->t∈l
 |[],t,h=>by cases h
 |u::X,t,h=>by
  simp only[FV] at h;split at h;exact Da _ (YR h);rcases dP.1 h with rfl|h;exact LR;exact Da _ (YR h)
def ail{O:ak}{L:dm}:∀{l:List T},l≠[]->(∀t∈l,t.aP p O L)->(By l).aP p O L
 |[],h,_=>aY rfl h
 |[t],_,h=>h t LR
 |t::u::r,_,h=>by
  simp only[By,T.aP];exact⟨λ_=>h t LR,λ_=>ail (l:=u::r) ay λx X=>h x (Da _ X)⟩
def aim{k:S->T}{X:C->S->T}:∀{l:List T},(By l).nK k X=By (l.map (T.nK k X))
 |[]=>rfl
 |[t]=>rfl
 |t::u::r=>by
  simp only[By,T.nK,eE];rw[aim (l:=u::r)];rfl
def atH{k:S->T}{M:C->S->T}{H G:C->S->T}(u:∀X F N e,((H X F).nK k M).aP p N e->(G X F).aP p N e)(h:((xW cf w v l H).nK k M).aP p N e):(xW cf w v l G).aP p N e:=by
 unfold xW at h⊢;cases D:cf.sig w with
 |none=>rw[D] at h;exact h.elim
 |some B=>
  simp only[D] at h⊢;cases A:ip cf.ty B with
  |none=>rw[A] at h;exact h.elim
  |some z=>
   simp only[A] at h⊢;cases x:zF cf.ty B ((l.cut v z).cz z).1 with
   |none=>rw[x] at h;exact h.elim
   |some R=>
    simp only[x] at h⊢;split at h;rename_i t;rw[aI t];simp only[T.nK,T.aP] at h⊢;intro y V W r;refine(h y V W r).mono λQ f P=> ?_
    cases Q with
    |returned X=>
     obtain⟨q,o,n,m,j,i⟩:=P;exact⟨q,o,n,m,j,u _ _ _ _ i⟩
    |panicked d=>exact P
    |outgrown=>exact P
    exact h.elim
def atI{k:S->T}{P y:C->S->T}{r:YH}{m:OM}{H G:S->T}(W:∀V N e,((H V).nK k P).aP p N e->(G V).aP p N e)(h:((Dy cf (Mp cf) x y m H l).nK k P).aP p N e):(Dy cf (jZ cf t r) x P m G l).aP p N e:=by
 unfold Dy at h⊢;cases F:FM cf m.o l with
 |some u=>
  simp only[F,T.nK,T.aP] at h⊢;obtain⟨q,j,i⟩:=h;exact⟨q,j,W _ _ _ i⟩
 |none=>
 simp only[F] at h⊢;cases R:ec cf l m.o with
 |call c aa=>
  cases c with
  |fn g=>
   simp only[R,Mp] at h⊢;split at h;rename_i M;have M:cf.inl g=none:=by simpa using M
   simp only[jZ,M];exact atH (λv V N e f=>W _ N e f) h;exact h.elim
  |yl n=>simp only[R,Mp] at h;exact h.elim
 |bI v=>simp only[R] at h;exact h.elim
 |no=>simp only[R] at h;exact h.elim
 |op=>
  simp only[R] at h⊢;cases D:(if Iz m.o.op then eH cf m.o m.bR E l else Z) with
  |some b=>
   simp only[D,T.nK,T.aP] at h⊢;exact⟨h.1,λd a=>W _ _ _ (h.2 d a)⟩
  |none=>
   simp only[D] at h⊢;by_cases B:mY m.o.op=J;rw[aI B] at h⊢;cases A:zQ cf l m.o with
   |none=>rw[A] at h;exact h.elim
   |some X=>
    obtain⟨b,v⟩:=X;simp only[A,T.nK,T.aP] at h⊢;exact⟨h.1,W _ _ _ h.2⟩
   rw[aK B] at h⊢;by_cases z:Mo m.o.op=J;rw[aI z] at h⊢;cases Q:gt cf m l with
   |ok V=>simp only[Q] at h⊢;exact W _ _ _ h
   |bz b V=>simp only[Q] at h;exact h.elim
   |split b s1 s2=>simp only[Q] at h;exact h.elim
   |no w=>simp only[Q] at h;exact h.elim
   rw[aK z] at h;exact h.elim
def atJ{k:S->T}{V B:C->S->T}{N:YH}{l9:List BE}{R:aw}:∀(n:Nat)(Q:cN)(P:cN)(s:S)(O:ak)(L:dm),
  ((oS cf (Mp cf) x l9 P R (.out .normal) B n Q s).nK k V).aP p O L->(oS cf (jZ cf t N) x l9 P R k V n Q s).aP p O L:=by
 intro n;induction n with
 |zero=>
  intro Q P s O L h;cases Q with
  |nil=>
   simp only[oS] at h⊢;split at h;rename_i M;rw[aI M];exact h;exact h.elim
  |cons m r=>exact h.elim
 |succ n A=>
  intro Q P s O L h;cases Q with
  |nil=>
   simp only[oS] at h⊢;split at h;rename_i M;rw[aI M];exact h;exact h.elim
  |cons m r=>
   simp only[oS] at h⊢;split at h;exact h.elim;rename_i M;rw[aK M];rw[aim] at h;have G:=YQ h;cases F:(Ix (m::r)).filter (WY x) with
   |nil=>rw[F] at h;exact h.elim
   |cons X z=>
    rw[F] at G;refine ail (λD=> ?_) λW w=> ?_
    have:=Jx (LR (a:=Dy cf (jZ cf t N) R V X.1 (λH=>oS cf (jZ cf t N) x l9 (IA x X.1 P) R k V n X.2 H) s) (l:=z.map λX=>Dy cf (jZ cf t N) R V X.1 (λH=>oS cf (jZ cf t N) x l9 (IA x X.1 P) R k V n X.2 H) s));simp only[eE] at D;rw[D] at this;cases this;obtain⟨y,v,rfl⟩:=hJ.1 (YR w);exact atI (λH O L u=>A _ _ _ _ _ u) (G _ (hJ.2 ⟨_,Jx (hJ.2 ⟨y,v,rfl⟩),rfl⟩))
structure ain(cf:bF)(ops:dI)(bs:aw)(qs ch:cN):Prop where
 aio:Jm ops bs
 wK:∀m∈qs++ch,∀x∈qs++ch,∀d,x.o.dst=U d->d∈jM ops m.o->(bs.getD m.j 0).testBit x.j=J
 dst:∀x∈qs++ch,∀y∈qs++ch,x.j≠y.j->∀d,x.o.dst=U d->y.o.dst≠U d
 gd:∀m∈qs++ch,m.o.guard=Z/\m.bR=E
 qt:∀q∈qs,mY q.o.op=J
def atK{F:Fence}(hF:qy F)(ok:jr p cf){nn:Nat}(ih:yv p cf nn){D:b9}{B:jF}{yh:YH}(hY:qA p cf D.dt B yh){Q:Exit->Act->World->Prop}(HP:∀ch a' A pd X,eF p.w0 D pd X a'.defers A->p.R (.panicked ch) A->Q (.panic ch) a' A)
   {l9:List BE}{qs ch:cN}{ds:aw}(hX:ain cf ops x qs ch)(b8:∀M∈qs++ch,∀d,M.o.dst=U d->d∈ds){k:S->T}{kp:C->S->T}{V0:aw}(hB:B.lG l N V0 e)(ca:∀b∈l9,b.bd (Y N.i) (Y N.b) (Y N.r)=J/\b.ah N=J)
  (hk:∀s' O' V' a' A L',bH l N V0 s' O' V'->di l.aA e L'->aC p.S0 p.w0 D cf.ty V' O' s' a' A->(k s').aP p O' L'->Q .normal a' A)
  (cc:∀v s' O' V' a' A L',bH l N V0 s' O' V'->di l.aA e L'->aC p.S0 p.w0 D cf.ty V' O' s' a' A->(kp v s').aP p O' L'->Q (.panic [{v:=v.ah O' V',recovered:=E}]) a' A):
  ∀(af:Nat)(listed:Array Bool)(z aa qv:cN)(s:S)(O:ak)(V:aw)(a:Act)(W:World)(L:dm),(z++aa).length=af->tY ops listed (z++aa)->(∀q∈z,q∈qv)->(∀q∈qv,q∈qs)->(∀m∈aa,m∈ch)->
   bH l N V0 s O V->di l.aA e L->aC p.S0 p.w0 D cf.ty V O (s.bW (qd z)) a W->eL cf.gl O->(oS cf (jZ cf (λf c s k=>fH cf nn f c s yh k) yh) x l9 qv ds k kp (Y aa) aa s).aP p O L->
   wpAnyIn F y p.P .any ops Q af listed a W:=by
 intro af;induction af with
 |zero=>
  intro listed z aa qv s O V a W L br hW a4 bb hr hl hL R hg h;have hp:∀q∈z,q∈qs:=λq hq=>bb q (a4 q hq)
  have bf:z++aa=[]:=Fa.1 br;obtain⟨rfl,rfl⟩:=List.append_eq_nil_iff.1 bf;simp only[Qf,oS] at h;split at h;refine⟨?_,hk s O V a W L hl hL (by have:=R;simp only[qd,List.filterMap_nil,atG] at this;exact this) h⟩;cases ac:Qh .any ops listed with
  |nil=>rfl
  |cons i r=>
   obtain⟨h1,o,ho,-⟩:=mem_ready.1 (show i∈Qh .any ops listed by rw[ac];simp);obtain⟨m,hm,-⟩:=(hW.un i (n9.1 ho).1).1 h1;cases hm
  exact h.elim
 |succ af cl=>
  intro listed z aa qv s O V a W L br hW a4 bb hr hl hL R hg h;have hp:∀q∈z,q∈qs:=λq hq=>bb q (a4 q hq)
  have al:∀m∈z++aa,m∈qs++ch:=λm hm=>by
   rcases eP.1 hm with h1|h1;exact we _ (hp m h1);exact LP _ (hr m h1)
  refine⟨λac=> ?_,λi hi=> ?_⟩;exfalso;obtain⟨m0,cs⟩:=List.exists_mem_of_length_pos (l:=z++aa) ae;obtain⟨m,hm,bf⟩:=tY.some hX.aio hW m0.j ⟨m0,cs,rfl⟩;have:m.j∈Qh .any ops listed:=
   mem_ready.2 ⟨(hW.un m.j (hW.lt hm)).2 ⟨m,hm,rfl⟩,m.o,hW.mem m hm,λH he hb=>bf H.on (ahT he hb)⟩
  rw[ac] at this;cases this;obtain⟨h1,o,ho,bf⟩:=mem_ready.1 hi;obtain⟨m,hm,rfl⟩:=(hW.un i (n9.1 ho).1).1 h1;have bt:=hW.mem m hm;rw[bt] at ho;cases ho;have hd:∀H∈kX m.o,listed.getD H E=true:=λH he=>by
   obtain⟨ed,h2,h3,rfl⟩:=ahU he;exact bf ed h2 h3
  have bx:∀M∈z++aa,¬(x.getD m.j 0).testBit M.j=true:=λM hx hb=>hW.not hx (hW.listed hX.aio m.j m.o bt hd M.j (hW.lt hx) hb)
  have ac:∀t∈jM ops m.o,t∉qd z:=λt ht hq=>by
   obtain⟨M,hx,bg⟩:=Bg.1 hq;exact bx M (we _ hx) (hX.wK m (al m hm) M (al M (we _ hx)) t bg ht)
  obtain⟨ct,cm⟩:=hX.gd m (al m hm);have cn:=atF h;have cv:lz m.o (yielded ops a.tmps)=true:=YA R (by simp[gP,ct]);unfold wpOpIn;rw[bt];simp only[cv,cS];rcases eP.1 hm with cx|cy
  
  obtain⟨xs,ys,rfl⟩:=aDA cx;have hq:=fp.1 cn m (a4 m ay);split at hq;rename_i d b v b0 hv;split at hq;rename_i w hw;simp only[az,jd] at hq;have cA:=C.bU _ _ hq.1;subst cA;have cB:b.ah O=true:=by
   rcases hq.2 with h5|h5;cases b<;>simp only[BE.WW,iW] at h5;simp only[BE.ah];exact h5;obtain⟨M,hx,h6⟩:=kS.1 h5;rw[<-BE.bU _ _ h6,BE.dW hl.ext.agree M (ca M hx).1];exact(ca M hx).2
  have ag:=aie (O:=O) (hX.qt m (hp m ay)) cm (aif (ops:=ops) (ds:=qd (xs++m::ys)) ac hv) cB;obtain⟨v',A,V',an,R',G⟩:=MP R ok.kZ hg m ag;have ab:=hW.nd;rw[H7,fG] at hW ab;have a0:d∉qd (xs++ys):=λhh=>by
   obtain⟨M,hx,bg⟩:=Bg.1 hh;have b1:M.j≠m.j:=by
    rw[mT] at ab;rcases eP.1 hx with h5|h5;exact ab.2.2 M h5 m ay;exact Ne.symm ((jL.1 ab.2.1).1 M (by simp[h5]))
   exact hX.dst M (we _ (hp M (by rcases eP.1 hx with h5|h5<;>simp[h5]))) m (we _ (hp m ay)) b1 d bg b0
  have hs:((s.bW (qd (xs++m::ys))).put m.o.dst v)=s.bW (qd (xs++ys)):=by
   rw[b0];simp only[S.put,uQ,S.bW];congr 1;apply ke;intro i;rw[uL,u5,u5,iJ,Jt];have cC:=(bZ.1 hw).1;by_cases hi:d=i;subst hi;rw[aI rfl,aI cC,hw];simp[a0];rw[aK hi];have cD:(qd (xs++m::ys)).contains i=(qd (xs++ys)).contains i:=by
    rw[tG,pz,pz];simp only[qd,List.filterMap_append,aeT,b0,eP,dP];constructor;rintro(h5|h5|h5);exact .inl h5;exact aY h5.symm hi;exact .inr h5;rintro(h5|h5);exact .inl h5;exact .inr (.inr h5)
   rw[cD]
  rw[hs] at R' G;refine BR hF an (MZ ag) ?_;refine cl _ (xs++ys) aa qv s O V' _ A L (by simp at br⊢;omega) ?_ (λq hq=>a4 q (by rcases eP.1 hq with h5|h5<;>simp[h5])) bb hr (hl.trans ⟨G.ext,G.mono,G.len,G.aA⟩) hL R' hg h;rw[H7];exact hW.next hd;cases hq;cases hq
  
  obtain⟨xs,ys,rfl,co⟩:=aii cy;have cI:(xs++m::ys).length=(xs++ys).length+1:=dF;have cO:WY x (m,xs++ys)=true:=by
   refine fp.2 λM hx=> ?_
   have:=bx M (LP _ (by simp only[eP,dP] at hx⊢;exact hx.imp id .inr));simpa using this
  have h:(Dy cf (jZ cf (λf c s k=>fH cf nn f c s yh k) yh) ds kp m (λs'=>oS cf (jZ cf (λf c s k=>fH cf nn f c s yh k) yh) x l9 (IA x m qv) ds k kp (xs++ys).length (xs++ys) s') s).aP p O L:=by
   rw[cI] at h;generalize cR:xs++m::ys=cW at h co;cases cW with
   |nil=>simp at cR
   |cons m0 r0=>
    simp only[oS,cn,Wu,iW,ga] at h;exact YQ h _ (Jx (hJ.2 ⟨_,pB.2 ⟨co,cO⟩,rfl⟩))
  have c0:tY ops (listed.setIfInBounds m.j J) (z++(xs++ys)):=by
   have h5:z++(xs++m::ys)=(z++xs)++m::ys:=ay;rw[h5] at hW;have:=hW.next hd;simpa using this
  have a0:∀d,m.o.dst=U d->d∉qd z:=λd c1 hh=>by
   obtain⟨M,hx,bg⟩:=Bg.1 hh;have b1:M.j≠m.j:=(mT.1 hW.nd).2.2 M hx m ay;exact hX.dst M (al M (we _ hx)) m (al m hm) b1 d bg c1
  have a9:∀(s1:S)(O1:ak)(V1:aw)(a1:Act)(W1:World)(L1:dm),bH s O V s1 O1 V1->di s.aA L L1->aC p.S0 p.w0 D cf.ty V1 O1 (s1.bW (qd z)) a1 W1->(oS cf (jZ cf (λf c s k=>fH cf nn f c s yh k) yh) x l9 (IA x m qv) ds k kp (xs++ys).length (xs++ys) s1).aP p O1 L1->wpAnyIn F y p.P .any ops Q af (listed.setIfInBounds m.j J) a1 W1:=
   λs1 O1 V1 a1 W1 L1 cp c2 R1 c3=>cl _ z (xs++ys) (IA x m qv) s1 O1 V1 a1 W1 L1 (by simp at br⊢;omega) c0 (λq hq=>pB.2 ⟨a4 q hq,by have:=bx q (we _ hq);simpa using this⟩) (λq hq=>bb q (pB.1 hq).1) (λM hx=>hr M (by simp only[eP,dP] at hx⊢;exact hx.imp id .inr)) (hl.trans cp) (hL.trans c2 hl.aA) R1 (hg.ext cp.ext) c3
  have b2:=(RY (cf:=cf) (s:=s) (O:=O) ac).ev cf.gl;unfold Dy at h;split at h;rename_i u hu;have c4:=atB (DN b2) a0 hu;simp only[T.aP] at h;obtain⟨aE,hr,h⟩:=h;obtain⟨ba,tv,c5,ab,b3⟩:=ash ok.xR R hg c4 hr;refine⟨λf _=>hF.fn f, ?_⟩;rw[xM _ _ _ ab,c5,Qa];refine⟨λhd=>by rw[hF.wK] at hd;simp at hd,CallsIn.mono (hF.calls b3) (λH A he=> ?_)⟩;obtain⟨rfl,R',G⟩:=he;exact a9 u.s _ V _ A L ⟨G.ext,G.mono,G.len,G.aA⟩ (di.refl _ _) R' h;split at h;rename_i g ba bk;have b4:ec cf (s.bW (qd z)) m.o=.call (.fn g) ba:=by rw[DN b2];exact bk
  have b5:B.lG (s.bW (qd z)) O V L:=by
   have:=hB.go hl hL;exact⟨⟨this.later.ext,this.later.mono,this.later.len,this.later.aA⟩,this.Gg⟩
  have hC:=Ju ok ih hY L (.fn g) ba (s.bW (qd z)) _ _ O V a W (λH A=>match H with
    |.returned v=>wpAnyIn F y p.P .any ops Q af (listed.setIfInBounds m.j J) (a.put m.o.dst v) A
    |.panicked ch=>Q (.panic ch) a A
    |.outgrown=>LetsOut Q) b5 (atE h) R hg
   (λv s' O' V' A L' G a3 R' hs=>by
    simp only[B5] at hs;split at hs;rename_i bl;refine a9 (({s' with tmps:=s.tmps}:S).put m.o.dst v) O' V' _ A L' (bH.put (s':={s' with tmps:=s.tmps}) (show bH s O V _ O' V' from⟨G.ext,G.mono,G.len,G.aA⟩) _ _) a3 ?_ hs;rw[B4 a0];have:({s' with tmps:=s.tmps}:S).bW (qd z)=s':=by
     simp only[S.bW] at bl⊢;rw[<-bl]
    rw[this];exact R'.put _ _;exact hs.elim)
   (λv s' O' V' A L' G a3 R' hs=>by
    simp only[B5] at hs;split at hs;rename_i bl;refine cc v (({s' with tmps:=s.tmps}:S).bW ds) O' V' a A L' (hl.trans ⟨G.ext,G.mono,G.len,G.aA⟩) (hL.trans a3 hl.aA) ?_ hs;have:({s' with tmps:=s.tmps}:S).bW ds=s'.bW ds:=by
     have h6:=aid (s:=s) (ds:=ds) (es:=qd z) (λM hx=>by
      obtain⟨X,hy,b6⟩:=Bg.1 hx;exact b8 X (al X (we _ hy)) M b6)
     have h7:=jW S.tmps h6;simp only[S.bW] at h7 bl⊢;rw[bl,h7]
    rw[this];exact R'.bW ds;exact hs.elim)
   (λch A pd X hA hR=>HP ch a A pd X hA hR)
  obtain⟨c6,b3⟩:=hC;refine⟨λf _=>hF.fn f, ?_⟩;have ab:∀c,m.o.op≠ .defer c:=λc b7=>by simp[ec,b7] at bk
  rw[xM _ _ _ ab,Rm R hg b4 c6,Qa];refine⟨λhd=>by rw[hF.wK] at hd;simp at hd,CallsIn.mono (hF.calls b3) (λH A he=> ?_)⟩;cases H<;>exact he;rename_i yn ba bk;have b4:ec cf (s.bW (qd z)) m.o=.call (.yl yn) ba:=by rw[DN b2];exact bk
  have b5:B.lG (s.bW ds) O V L:=by
   have:=hB.go hl hL;exact⟨⟨this.later.ext,this.later.mono,this.later.len,this.later.aA⟩,this.Gg⟩
  have Rd:aC p.S0 p.w0 D cf.ty V O (s.bW ds) a W:=by
   have h6:=aid (s:=s) (ds:=ds) (es:=qd z) (λM hx=>by
    obtain⟨X,hy,b6⟩:=Bg.1 hx;exact b8 X (al X (we _ hy)) M b6)
   rw[<-h6];exact R.bW ds
  have hC:=Ju ok ih hY L (.yl yn) ba (s.bW ds) _ _ O V a W (λH A=>match H with
    |.returned v=>wpAnyIn F y p.P .any ops Q af (listed.setIfInBounds m.j J) (a.put m.o.dst v) A
    |.panicked ch=>Q (.panic ch) a A
    |.outgrown=>LetsOut Q) b5 h Rd hg
   (λv s' O' V' A L' G a3 R' hs=>a9 (s'.put m.o.dst v) O' V' _ A L' ((show bH s O V s' O' V' from⟨G.ext,G.mono,G.len,G.aA⟩).put _ _) a3 ((R'.put m.o.dst v).bW (qd z)) hs)
   (λv s' O' V' A L' G a3 R' hs=>cc v (s'.bW ds) O' V' a A L' (hl.trans ⟨G.ext,G.mono,G.len,G.aA⟩) (hL.trans a3 hl.aA) (R'.bW ds) hs)
   (λch A pd X hA hR=>HP ch a A pd X hA hR)
  obtain⟨fn,dr,assign,body,hy,c7⟩:=hC F hF (y-1);refine⟨λf _=>hF.fn f, ?_⟩;have ab:∀c,m.o.op≠ .defer c:=λc b7=>by simp[ec,b7] at bk
  rw[xM _ _ _ ab,X4 R hg b4,hy,aqv];refine⟨λhd=>by rw[hF.wK] at hd;simp at hd,RoundIn.mono c7 (λH A he=> ?_)⟩;cases H<;>exact he;split at h;rename_i b hb;split at hb;rename_i c8;simp only[T.aP] at h;have c9:=atC (cf:=cf) (ops:=ops) c8 ac a0 hb;obtain⟨v',A,rv,an,dc,R',G⟩:=XN R ok.kZ hg c9 h.1;exact BR hF an (X6 hb) (a9 b.s _ V _ A L ⟨G.ext,G.mono,G.len,G.aA⟩ (di.refl _ _) R' (h.2 rv (by rw[ok.pt];exact dc)));cases hb;split at h;rename_i dd;split at h;rename_i b v hv;simp only[T.aP] at h;have ag:=aie (O:=O) dd cm (aif (ops:=ops) (ds:=qd z) ac hv) h.1;obtain⟨v',A,V',an,R',G⟩:=MP R ok.kZ hg m ag;rw[<-B4 a0] at R' G;exact BR hF an (MZ ag) (a9 (s.put m.o.dst v) O V' _ A L ⟨G.ext,G.mono,G.len,G.aA⟩ (di.refl _ _) R' h.2);exact h.elim;split at h;rename_i df;split at h;rename_i s' dk;have dn:=atv (ops:=ops) df ac a0 dk;have ag:(gt cf m (s.bW (qd z))).gives O (s'.bW (qd z)):=by rw[dn];rfl
  obtain⟨v',A,V',an,R',G⟩:=MP R ok.kZ hg m ag;exact BR hF an (MZ ag) (a9 s' O V' _ A L ⟨G.ext,G.mono,G.len,G.aA⟩ (di.refl _ _) R' h);exact h.elim;exact h.elim;exact h.elim
def aip:∀{P:cN}{s:S}{x:S×List BE},Dx cf P s=U x->x.1={s with tmps:=x.1.tmps}/\Y x.1.tmps=Y s.tmps/\(∀t,t∉qd P->x.1.tmps[t]?=s.tmps[t]?)/\∀b∈x.2,b.bd s.ni s.nb (Y s.rs)=J
 |[],s,x,h=>by simp only[Dx,cG] at h;subst h;exact⟨rfl,rfl,λ_ _=>rfl,λ_ R=>(by cases R)⟩
 |q::r,s,x,h=>by
  simp only[Dx] at h;split at h;rename_i b v X;cases Q:Dx cf r (s.put q.o.dst v) with
  |none=>rw[Q] at h;cases h
  |some y=>
   rw[Q] at h;simp only[dV,cG] at h;subst h;obtain⟨L,H,G,O⟩:=aip Q;refine⟨?_, ?_,λt N=> ?_,λx W=> ?_⟩;show y.1=_;rw[L];cases q.o.dst<;>rfl;show Y y.1.tmps=_;rw[H];cases q.o.dst<;>simp[S.put,uQ];have F:t∉qd r:=λM=>N (by
    simp only[qd,aeT];cases q.o.dst with
    |none=>exact M
    |some d=>exact Da _ M)
   show y.1.tmps[t]?=_;rw[G t F,md (λe=>N (by simp[qd,e]))];have V:(s.put q.o.dst v).ni=s.ni/\(s.put q.o.dst v).nb=s.nb/\(s.put q.o.dst v).rs=s.rs:=by cases q.o.dst<;>exact⟨rfl,rfl,rfl⟩
   have R:b.bd s.ni s.nb (Y s.rs)=true:=by
    unfold zQ at X;split at X;cases X;split at X;cases X;exact BE.aZ.1 _;split at X;rename_i D;cases X;exact D;cases X;cases X
   simp only at W;split at W;have:=O x W;rwa [V.1,V.2.1,V.2.2] at this;rcases dP.1 W with rfl|W;exact R;have:=O x W;rwa [V.1,V.2.1,V.2.2] at this
  cases h
def aiq{F:Fence}(hF:qy F)(ok:jr p cf){nn:Nat}(ih:yv p cf nn){D:b9}{B:jF}{yh:YH}(hY:qA p cf D.dt B yh){Q:Exit->Act->World->Prop}(HP:∀w a' g pd X,eF p.w0 D pd X a'.defers g->p.R (.panicked w) g->Q (.panic w) a' g)
  {id:Nat}{so:Bool}{c:Mq}{a:Act}{k:XE->S->T}(hB:B.lG l N x e)(u:IC cf so ops l=U c)
  (h:(Mv cf (jZ cf (λf c l k=>fH cf nn f c l yh k) yh) ops k c).aP p N e)(R:aC p.S0 p.w0 D cf.ty x N l a b)(hg:eL cf.gl N)
  (hk:∀s' O' V' a' g L',bH l N x s' O' V'->di l.aA e L'->aC p.S0 p.w0 D cf.ty V' O' s' a' g->(k .normal s').aP p O' L'->Q .normal a' g)
  (bf:∀v s' O' V' a' g L',bH l N x s' O' V'->di l.aA e L'->aC p.S0 p.w0 D cf.ty V' O' s' a' g->(k (.bI v) s').aP p O' L'->Q (.panic [{v:=v.ah O' V',recovered:=E}]) a' g):
  (Code.region id ops J).wpIn F y p.P Q a b:=by
 unfold IC at u;split at u;rename_i ab;obtain⟨ac,af⟩:∃ac,ac=gG (λ_=>E) E J 0 (Y l.au) ops.toList:=⟨_,rfl⟩;obtain⟨z,a0⟩:∃z,z=Bz so ops (Y l.au):=⟨_,rfl⟩;obtain⟨w,a1⟩:∃w,w=BA so ops (Y l.au):=⟨_,rfl⟩;have bg:z=ac.filter λm=>(QG so ops).contains m.j:=by rw[a0,af];rfl
 have bk:w=ac.filter λm=> !(QG so ops).contains m.j:=by rw[a1,af];rfl
 have ab:=(az _ _▸ab).2;unfold IB at ab;rw[<-a0,<-a1,<-af] at ab;rw[<-a0,<-a1] at u;cases hq:Dx cf z (l.room (lC ops.toList)) with
 |none=>rw[hq] at u;cases u
 |some x1=>
  obtain⟨s1,l9⟩:=x1;rw[hq] at u;simp only[Wn,W5] at u;split at u;cases u;cases u;obtain⟨a4,h⟩:=aik h;simp only at h a4;have h:(oS cf (jZ cf (λf c l k=>fH cf nn f c l yh k) yh) (oR ops.toList) l9 z (Du ops.toList) (k .normal) (λv=>k (.bI v)) (Y w) w s1).aP p N e:=by
   split at h;exact h;exact atJ _ _ _ _ _ _ h
  simp only[W0,az,dv] at ab;obtain⟨⟨⟨⟨⟨⟨⟨⟨c1,c2⟩,c4⟩,c5⟩,c6⟩,c7⟩,c8⟩,c9⟩,b0⟩:=ab;have aa:∀m∈z++w,m∈ac:=λm A=>by
   rcases eP.1 A with h1|h1;rw[bg] at h1;exact(pB.1 h1).1;rw[bk] at h1;exact(pB.1 h1).1
  have a9:∀m∈ac,ops[m.j]?=U m.o:=λm A=>by
   obtain⟨i,hi⟩:=aqn.1 A;rw[af] at hi;have h1:=Js _ _ _ _ _ _ _ _ hi;have h2:=YG _ _ _ _ _ _ _ _ hi;rw[h2,iJ];simpa using h1
  have ba:=RP c4;have hX:ain cf ops (oR ops.toList) z w:=by
   refine⟨ah7 c1,λm A M hx d hd r=> ?_,λM hx X hy bl d bb bd=> ?_,λm A=> ?_,λq hq=> ?_⟩;have:=fp.1 (fp.1 c5 m (aa m A)) M (aa M hx);rw[hd] at this;simp only[jd,gO] at this;rcases this with h5|h5;rw[pz.2 r] at h5;cases h5;exact h5;obtain⟨i,hi⟩:=aqn.1 (aa M hx);obtain⟨j,hj⟩:=aqn.1 (aa X hy);have br:i≠j:=λH=>by subst H;rw[hi] at hj;cases hj;exact bl rfl
   have ag:=(bZ.1 hi);have al:=(bZ.1 hj);rcases aDx br with a3|a3;exact(LO.1 ba i j ag.1 al.1 a3) d (by rw[ag.2];exact bb) (by rw[al.2];exact bd);exact(LO.1 ba j i al.1 ag.1 a3) d (by rw[al.2];exact bd) (by rw[ag.2];exact bb);have:=fp.1 c2 m (aa m A);simp only[az,gO,aDd] at this;exact this;have:=fp.1 c6 q hq;simp only[az] at this;exact this.1
  obtain⟨Rr,an⟩:=R.room (lC ops.toList);have Rd:=Rr.drew;obtain⟨e1,e2,e3,e4⟩:=aip hq;simp only at e1 e2 e3 e4;have Rb:aC p.S0 p.w0 D cf.ty (x++eI (lC ops.toList) 0) N (s1.bW (qd z)) a {b with drawn:=b.drawn+1}:=by
   have hh:s1.bW (qd z)={l.room (lC ops.toList) with tmps:=ss (qd z) 0 s1.tmps}:=by
    rw[e1];rfl
   rw[hh];refine⟨Rd.mem,Rd.gv,Rd.ei,Rd.eb,Rd.er,Rd.cU,by simp only[Jt,e2];exact Rd.size,λt sv r=> ?_,Rd.fZ⟩;simp only at r;rw[u5,iJ] at r;cases hx:s1.tmps[t]? with
   |none=>rw[hx] at r;cases r
   |some M=>
    rw[hx] at r;simp only[dV,cG] at r;split at r;exact .inl r.symm;rename_i bs;subst r;exact Rd.tmps t M (by rw[<-e3 t (λA=>bs (pz.2 A))];exact hx)
  have bt:bH l N x s1 N (x++eI (lC ops.toList) 0):=by
   rw[e1];exact⟨an.ext,an.mono,an.len,an.aA⟩
  refine wpIn_region_any ok.Ye ?_;refine atK (ds:=Du ops.toList) hF ok ih hY HP hX (λM hx d hd=> ?_) hB (λG hb=>⟨by have:=e4 G hb;rw[R.ei,R.eb,R.er];exact this,a4 G hb⟩) hk bf ops.size _ z w z s1 N _ a _ e c8 ?_ (λ_ h=>h) (λ_ h=>h) (λ_ h=>h) bt (di.refl _ _) Rb hg h;have h2:ops.toList[M.j]?=U M.o:=by have:=a9 M (aa M hx);simpa using this
  exact Bg.2 ⟨M.o,jm h2,hd⟩;refine⟨λm A=>a9 m (aa m A),λi hi=> ?_,ay,λj o ho hj=> ?_, ?_⟩;constructor;intro _;have:=fp.1 c7 i (by simpa using hi);obtain⟨m,A,hj⟩:=kS.1 this;exact⟨m,A,by simpa using hj⟩;intro _;simp[hi];exfalso;have bx:j<ops.size:=(n9.1 ho).1;simp[bx] at hj;have:=YK c9;rw[aqw] at this;exact this
 cases u
end
section
variable{p:Sp}{j:bF}
def jF.here(s:S)(O:ak)(V:aw)(L:dm):(jF.mk s O V L).lG s O V L:=⟨bH.refl _ _ _,di.refl _ _⟩
def atL(W:Array Nat)(V:gc)(A:lW):(W.zip V.toArray).foldl (λ(X:lW)(x:Nat×Value)=>match x with|(t,a)=>X.setIfInBounds t a) A=(W.toList.zip V).foldl (λ(X:lW)(x:Nat×Value)=>X.setIfInBounds x.1 x.2) A:=by
 rw[<-aDw];simp[Array.toList_zip]
def bH.YS{W:S}{X:ak}{R:aw}(h:bH l N x W X R)(k:Nat):bH l (N.at (N.y.take k)) x W (X.at (X.y.take k)) R:=
 ⟨⟨⟨h.ext.agree.i,h.ext.agree.b,h.ext.agree.r,by show X.y.take k=N.y.take k;rw[h.ext.agree.y]⟩,h.ext.li,h.ext.lb,h.ext.lr,h.ext.ad⟩,h.mono,h.len,h.aA⟩
def atM(ok:jr p j)(ih:yv p j y){ba:Func}(bb:p.P.funcs[w]?=U ba){ps:Array Tmp}{assign body:Code}{s:S}{L:dm}{O:ak}{V:aw}{a:Act}{sE:S}{l:Nat}{rec:Loop}{g:List (Nat×Loop)}
  (hE:sE.au=s.au)(b4:C.dQ (Y O.i) (Y O.b) (Y O.r) (aL s.au) s.tmps=J)(b5:a.tmps.size=Y s.tmps)(b6:∀(t:Nat)(A:C),s.tmps[t]?=U A->A=.any\/a.tmps[t]?=U (A.ah O V))
  (b7:jN assign=E)(b8:jN body=E){n0:Nat}(aa:rec={state:=.ready,pending:=Z,fn:=w,tmps:=a.tmps,params:=ps,assign,body,defers:=rec.defers})(f:g[n0]?=U (l,rec)){W:List (Nat×Loop)}{B0:jF}{an:YH}(ca:qA p j W B0 an)(bf:W<+:g)(cc:B0.lG s (O.at (O.y.take (Y W))) V L)(bg:sE.aA=s.aA)(cl:C.oT n0 s.tmps=E)(c2:Y g=n0+1):
  qA p j g ⟨sE,O,V,L⟩ (Ms n0 ps.size λo N k1 bk=>
   fH j y w assign (BB N s ps.toList o) iK (Mr n0 λz=>fH j y w body (z.BC n0 .busy) an (QI n0 N k1 bk))):=by
 intro D hD L1 m o N k1 bk Q G a1 W1 R' hB h R hg hk cm hp F hF mm;unfold Ms at h;split at h;rename_i hc;simp only[az,dv,cF] at hc;obtain⟨⟨⟨c1,c3⟩,c4⟩,c5⟩:=hc;subst c1;simp only[S.eV,az] at c5;have f:D.dt[m]?=U (l,rec):=by
  obtain⟨t,ht⟩:=hD;rw[<-ht,dU ae];exact f
 have bl:ri rec .ready=rec:=by rw[aa];rfl
 obtain⟨y1,y2,y3⟩:=R.cU.dt m l rec .ready f c3;rw[bl] at y2;have cn:Q.y.getD m 0=l:=by simp[dB,y1]
 rw[cn];have br:rec.params=ps:=by rw[aa]
 have co:=run_yield (P:=p.P) (args:=(C.aF Q G o).toArray) y2 (by rw[br];simpa using c4);refine⟨_,_,_,_,co, ?_⟩;have e1:rec.fn=w:=by rw[aa]
 have e2:rec.assign=assign:=by rw[aa]
 have e3:rec.body=body:=by rw[aa]
 have e4:rec.tmps=a.tmps:=by rw[aa]
 rw[e1,e2,e3,e4,br];refine atb hF bb ?_;obtain⟨ms,m1,m0,m2,m3⟩:=R.cU.ma;have hA:=R.cU.enter m2 m3 J;have cp:∀(t:Nat)(A:C),s.tmps[t]?=U A->A=.any\/a.tmps[t]?=U (A.ah Q G):=by
  intro t A ht;rcases b6 t A ht with h1|h1;exact .inl h1;right;have hX:=hB.later.ext;simp only[hE] at hX;rw[<-C.Jq (y:=Q.y.take (Y g)) (n:=m) (λq hq=>by simp only[dB];rw[List.getElem?_take_of_lt ae]) G A (YD cl A (jm ht)),hX.ah (uY b4 ht)];exact h1
 obtain⟨q1,q2⟩:=ah0 (O:=Q) (V:=G) ps.toList o s.tmps a.tmps b5 cp;rw[<-atL] at q1 q2;have RS:aC p.S0 p.w0 ⟨ms++D.out,D.dt,J,[]⟩ j.ty G Q (BB N s ps.toList o) {tmps:=(ps.zip (C.aF Q G o).toArray).foldl (λ(cs:lW)(x:Nat×Value)=>match x with|(t,a)=>cs.setIfInBounds t a) a.tmps,defers:=[]} W1:=
  ⟨R.mem,R.gv,R.ei,R.eb,R.er,hA,q1,q2,R.fZ⟩
 have a0:∀(a':Act) d pd X,eF p.w0 ⟨ms++D.out,D.dt,J,[]⟩ pd X a'.defers d->a'.defers=[]/\eF p.w0 D pd X a1.defers d:=by
  intro a' d pd X ab;obtain⟨ct,p1,p0,p2,p3⟩:=ab.ma;have:ct=[]:=p0 rfl;subst this;have bs:a'.defers=[]:=by simpa using p1
  rw[bs] at ab;refine⟨bs, ?_⟩;rw[m1];exact ab.Jp m0
 refine ih ⟨ms++D.out,D.dt,J,[]⟩ ⟨BB N s ps.toList o,Q,G,L1⟩ iK (U l) w assign (BB N s ps.toList o) _ L1 Q G _ W1 _ (DQ _ _) (jF.here _ _ _ _) rfl (λ_=>b7) ⟨ba,bb⟩ h RS hg ?_ ?_;intro ch a' d pd X ab hR;obtain⟨p1,p2⟩:=a0 a' d pd X ab;exact .inr ⟨ch,rfl,p1,hp ch d pd X p2 hR⟩;intro e z O2 V2 a2 W2 L2 ac bt R2 af;cases e with
 |normal=>
  simp only[Mr] at af;split at af;rename_i bx;simp only[cF] at bx;left;obtain⟨z1,z2,z3⟩:=R2.cU.dt m l rec .ready f bx;rw[bl] at z2;have cv:({rec with state:=.busy}:Loop)=ri rec .busy:=by rw[aa];rfl
  have b0:=run_beginRound (P:=p.P) z2 (by rw[aa]);rw[cv] at b0;refine⟨rfl,_,b0, ?_⟩;have R3:aC p.S0 p.w0 ⟨ms++D.out,D.dt,J,[]⟩ j.ty V2 O2 (z.BC m .busy) a2 (W2.putObj l (.loop (ri rec .busy))):=
   R2.obj z2 rfl z3 _ rfl (R2.cU.YF f .busy)
  have cx:qA p j D.dt ⟨z.BC m .busy,O2,V2,L2⟩ an:=by
   intro D3 cy L3 n3 cA M k3 cB H V3 a3 W3 R3 b1;refine ca D3 ((bf.trans hD).trans cy) L3 n3 cA M k3 cB H V3 a3 W3 R3 ?_;have cC:Y W<=Y g:=bf.length_le;have c6:Y g<=Y D.dt:=hD.length_le;have t1:bH s (O.at (O.y.take (Y W))) V N (Q.at (Q.y.take (Y W))) G:=by
    have e:(Q.y.take (Y g)).take (Y W)=Q.y.take (Y W):=by rw[List.take_take,Fj cC]
    have u:bH sE (O.at (O.y.take (Y W))) V N (Q.at ((Q.y.take (Y g)).take (Y W))) G:=hB.later.YS (Y W);rw[e] at u;exact⟨by have:=u.ext;rw[hE] at this;exact this,by rw[<-hE];exact u.mono,by rw[<-hE];exact u.len,by rw[<-bg];exact u.aA⟩
   have t2:=(show bH N Q G z O2 V2 from⟨ac.ext,ac.mono,ac.len,ac.aA⟩).YS (Y W);have t3:bH z (O2.at (O2.y.take (Y W))) V2 M (H.at (H.y.take (Y W))) V3:=by
    have e:(H.y.take (Y D.dt)).take (Y W)=H.y.take (Y W):=by rw[List.take_take,Fj ae]
    have u:bH (z.BC m .busy) (O2.at (O2.y.take (Y W))) V2 M (H.at ((H.y.take (Y D.dt)).take (Y W))) V3:=b1.later.YS (Y W);rw[e] at u;exact⟨u.ext,u.mono,u.len,u.aA⟩
   exact((cc.go t1 (by rw[<-bg];exact hB.Gg)).go t2 bt).go t3 b1.Gg
  refine ih ⟨ms++D.out,D.dt,J,[]⟩ ⟨z.BC m .busy,O2,V2,L2⟩ an (U l) w body (z.BC m .busy) _ L2 O2 V2 a2 _ _ cx (jF.here _ _ _ _) rfl (λ_=>b8) ⟨ba,bb⟩ af R3 (hg.ext ac.ext) ?_ ?_;intro ch a' d pd X ab hR;obtain⟨p1,p2⟩:=a0 a' d pd X ab;exact⟨p1,hp ch d pd X p2 hR⟩
  ·intro e M H V3 a3 W4 L3 a4 cD R4 a9;have cI:m<Y M.pd:=by
    rw[<-R4.cU.len];exact(bZ.1 f).1
   obtain⟨u1,u2,u3⟩:=R4.cU.dt m l rec M.pd[m] f (cK cI);have B:bH (BB N s ps.toList o) Q G M H V3:=ac.trans (s':=z) ⟨a4.ext,a4.mono,a4.len,a4.aA⟩;have b2:di N.aA L1 L3:=di.trans (m:=z.aA) bt cD ac.aA;have bd:∀(k:Fs)(ag:Option Code),(∀al,({ri rec al with state:=if ag.isNone then .ready else .done,pending:=ag}:Loop)=ri rec k)->
     (k1 (.bool (.c ag.isNone)) {M with tmps:=N.tmps,pd:=M.pd.set m k}).aP p H L3->∃v w',(Instr.endRound l ag).run p.P W4=.ok v w'/\R' (.returned v) w':=by
    intro k ag cO cR;have b3:=run_endRound (P:=p.P) ag u2;rw[cO] at b3;refine⟨_,_,b3, ?_⟩;have R5:=R4.obj u2 rfl u3 (.loop (ri rec k)) rfl (R4.cU.YF f k);have cW:eF p.w0 D (M.pd.set m k) H.y a1.defers (W4.putObj l (.loop (ri rec k))):=(a0 a3 _ _ _ (R4.cU.YF f k)).2;have c0:bH (BB N s ps.toList o) Q G {M with pd:=M.pd.set m k} H V3:=⟨B.ext,B.mono,B.len,B.aA⟩;have RB:=R.back c5.1 c0 rfl R5 (D2:=D) (a2:=a1) rfl cW;have:=hk (.bool (.c ag.isNone)) {M with tmps:=N.tmps,pd:=M.pd.set m k} H V3 _ L3 ⟨B.ext,B.mono,B.len,B.aA⟩ b2 RB cR;simpa[C.ah,BE.ah] using this
   cases e with
   |normal=>exact bd .ready Z (λal=>by cases al<;>rfl) a9
   |ret=>exact bd (.done .ret) (U .ret) (λal=>by cases al<;>rfl) a9
   |exit id=>exact bd (.done (.exit id)) (U (.exit id)) (λal=>by cases al<;>rfl) a9
   |bI v=>
    obtain⟨p1,p2⟩:=a0 a3 _ _ _ R4.cU;have RB:=R.back c5.1 B rfl R4 (D2:=D) (a2:=a1) rfl p2;exact⟨p1,cm v {M with tmps:=N.tmps} H V3 _ L3 ⟨B.ext,B.mono,B.len,B.aA⟩ b2 RB a9⟩
  exact af.elim
 |ret=>exact af.elim
 |exit id=>exact af.elim
 |bI v=>exact af.elim
 exact h.elim
def atN(ok:jr p j)(ih:yv p j y){D:b9}{B:jF}{yh:YH}{b7:Func}(b8:p.P.funcs[w]?=U b7){f:Operand}{ps:Array Tmp}{assign body:Code}{k:XE->S->T}{a:Act}{Q:Exit->Act->World->Prop}
  (bf:D.rd=E){g:FuncId}{c:Code}{nt:Nat}(bg:l.ev j.gl f=.fn g v)(bk:j.inl g=U (c,nt,[]))
  (a1:l.eV v=J)(ag:l.wD (Y l.pd)=E)(ca:C.oT (Y l.pd) v=E)(cc:jN assign=E)(cl:jN body=E)
  (h:(fH j y g c (ID l nt v) (Ms (Y l.pd) ps.size λcm s1 k1 cn=>fH j y w assign (BB s1 l ps.toList cm) iK (Mr (Y l.pd) λs2=>fH j y w body (s2.BC (Y l.pd) .busy) yh (QI (Y l.pd) s1 k1 cn))) (FX l k)).aP p N e)
  (hY:qA p j D.dt B yh)(hB:B.lG l N x e)(R:aC p.S0 p.w0 D j.ty x N l a b)(hg:eL j.gl N)
  (HP:∀ch u W' pd X,eF p.w0 D pd X u.defers W'->p.R (.panicked ch) W'->Q (.panic ch) u W')
  (hk:∀M F A q u W' L',bH l N x F A q->di l.aA e L'->aC p.S0 p.w0 D j.ty q A F u W'->(k M F).aP p A L'->Q (M.to A q) u W'):
  jg Z w p.P (.rangeFunc f ps assign body) Q a b:=by
 obtain⟨ms,m1,m0,m2,m3⟩:=R.cU.ma;simp only[S.eV,az] at a1;simp only[S.wD,uK] at ag;obtain⟨rec,a3⟩:∃rec:Loop,rec={state:=.ready,pending:=Z,fn:=w,tmps:=a.tmps,params:=ps,assign,body,defers:=b.heap.size}:=⟨_,rfl⟩;obtain⟨W1,al⟩:∃W1,(b.alloc (.deferred (U []))).alloc (.loop rec)=W1:=⟨_,rfl⟩;have co:W1.heap[b.heap.size+1]?=U (.loop rec):=by
  rw[<-al];have:=P6 (b.alloc (.deferred (U []))) (.loop rec);rwa [aeY] at this
 have cp:W1.heap[b.heap.size]?=U (.deferred (U [])):=by
  rw[<-al];exact(Below.heap_alloc _ _ _ ay).trans (P6 b _)
 have bl:Below b.heap.size b W1:=by
  rw[<-al];exact⟨rfl,rfl,rfl,dF,λk hk=>(Below.heap_alloc _ _ _ dF).trans (Below.heap_alloc _ _ _ hk)⟩
 have R1:=R.below bl;have cs:ri rec .ready=rec:=by rw[a3];rfl
 have ct:p.w0.heap.size<=b.heap.size:=R.mem.base.size;have br:∀(y l':Nat)(r':Loop),D.dt[y]?=U (l',r')->l'<b.heap.size:=by
  intro y l' r' hn;have a4:y<Y l.pd:=by rw[<-R.cU.len];exact(bZ.1 hn).1
  exact zS (R.cU.dt y l' r' l.pd[y] hn (cK a4)).2.1
 have bs:eF p.w0 ⟨b.heap.size::(ms++D.out),D.dt++[(b.heap.size+1,rec)],E,[]⟩ (l.pd++[.ready]) (N.y++[b.heap.size+1]) [] W1:=
  R1.cU.push m2 (λd hd=>⟨(bl.block d (zS (m3 d hd).1)).trans (m3 d hd).1,(m3 d hd).2⟩) cp (λhm=>by have:=zS (m3 _ hm).1;omega) ct (by rw[cs];exact co) (λy l' r' hn M=>by have:=br y l' r' hn;omega) ae
 have a9:Y N.y=Y l.pd:=R.cU.qr;have an:∀m,m<Y l.pd->(N.y++[b.heap.size+1]).getD m 0=N.y.getD m 0:=by
  intro m hm;simp only[dB];by_cases a4:m<Y N.y;rw[dU a4];rw[iC ae,jK (l:=N.y) ae,jK dF]
 have bt:∀(t:Nat)(sv:C),l.tmps[t]?=U sv->sv=.any\/a.tmps[t]?=U (sv.ah (N.at (N.y++[b.heap.size+1])) x):=by
  intro t sv ht;rcases R.tmps t sv ht with o|o;exact .inl o;right;rw[C.Jq an x sv (YD ag.1 sv (jm ht))];exact o
 have cv:aC p.S0 p.w0 ⟨b.heap.size::(ms++D.out),D.dt++[(b.heap.size+1,rec)],E,[]⟩ j.ty x (N.at (N.y++[b.heap.size+1])) {l with pd:=l.pd++[.ready]} {a with defers:=[]} W1:=
  ⟨R1.mem.at an ag.2,R1.gv,R1.ei,R1.eb,R1.er,bs,R1.size,bt,λk M rv H o h2 h3=>let t:=R1.fZ k M rv H o h2 h3;⟨t.own,t.mem,t.box,t.alone,t.inner⟩⟩
 have RE:=cv.enter (.yl (Y l.pd)::v) nt bs;have cx:C.aF (N.at (N.y++[b.heap.size+1])) x (.yl (Y l.pd)::v)=.func (.yield (b.heap.size+1)) #[] #[]::C.aF N x v:=by
  simp only[C.aF,C.ah];rw[C.Jr an x v ca];congr 3;simp only[ak.at];rw[<-a9];simp
 have cy:a.eval f=.func (.func g) #[] (C.aF N x v).toArray:=by
  have:=du R hg f (by rw[bg];rfl);rw[bg,C.ah] at this;exact this
 have eg:=ok.yp g (.inr (by rw[bk];rfl));obtain⟨af,hf,cA,cB,cC⟩:=ok.inl g c nt [] bk;refine as9 ⟨b.heap.size+1,[lF b.heap.size],W1,{target:=.fn (.func g) (C.aF N x v).toArray,args:= #[.func (.yield (b.heap.size+1)) #[] #[]]},W1,g,
  #[.func (.yield (b.heap.size+1)) #[] #[]]++(C.aF N x v).toArray,W1, ?_, ?_, ?_, ?_⟩
 rw[<-al,a3];exact run_enterLoop_outer _ _ _ _ _
 ·simp only[resolve,cy];simp[go_sem]
 ·simp[invoke,go_sem,eg]
 have cD:(#[.func (.yield (b.heap.size+1)) #[] #[]]++(C.aF N x v).toArray:lW)=(C.aF (N.at (N.y++[b.heap.size+1])) x (.yl (Y l.pd)::v)).toArray:=by
  rw[cx];simp
 rw[cD];refine Jo hf cA ?_;rw[cB];have bx:([lF b.heap.size]++a.defers:BF)=(b.heap.size::ms).map lF++D.base:=by rw[m1];rfl
 have cI:B.lG l ((N.at (N.y++[b.heap.size+1])).at ((N.at (N.y++[b.heap.size+1])).y.take (Y D.dt))) x e:=by
  have M:(N.at (N.y++[b.heap.size+1])).y.take (Y D.dt)=N.y:=by rw[R.cU.len,<-a9];simp[ak.at]
  rw[M];exact hB
 have b0:(D.dt++[(b.heap.size+1,rec)])[Y l.pd]?=U (b.heap.size+1,rec):=by rw[<-R.cU.len];simp
 refine ih ⟨b.heap.size::(ms++D.out),D.dt++[(b.heap.size+1,rec)],E,[]⟩ ⟨ID l nt v,N.at (N.y++[b.heap.size+1]),x,e⟩ _ Z g c (ID l nt v) (FX l k) e _ x _ W1 _
  (atM ok ih b8 (a:=a) (s:=l) (sE:=ID l nt v) (L:=e) (ps:=ps) (O:=N.at (N.y++[b.heap.size+1])) (V:=x) rfl (R.yf a1.1).1 R.size bt cc cl (by rw[a3]) b0 hY (List.prefix_append _ _) cI rfl ag.1 (by simp[R.cU.len])) (jF.here _ _ _ _) rfl (λhh=>by cases hh) ⟨af,hf⟩ (sK p _ N e _ h) RE hg ?_ ?_
 intro ch u W' pd X hA hR;obtain⟨cO,q1,q0,q2,q3⟩:=hA.ma;rw[q1] at hA;have ac:=(hA.qz).pop bf;show LeavesInM Fence.wide 0 p.P af u.tmps _ u.defers (.panicking ch) W';rw[q1];refine sL ay (xL.1 q2).1 (λd hd=>(q3 d (by simp[hd])).1) ?_;exact HP ch _ _ _ _ (by rw[<-bx] at ac;exact ac) (Ng (ok.RA ch) (λd hd=>(q3 d (by simp[hd])).2) hR);intro M F A q u W' L' hl hL RR z;obtain⟨cO,q1,q0,q2,q3⟩:=RR.cU.ma;have R2:=RR.qz q1;have ac:=R2.cU.pop bf;have b1:A.y=N.y++[b.heap.size+1]:=hl.ext.agree.y;have cR:A.y.take (Y D.dt)=N.y:=by rw[b1,R.cU.len,<-a9];simp
 rw[cR,<-bx,R.cU.len] at ac;have b2:∀m,m<Y l.pd->N.y.getD m 0=A.y.getD m 0:=λm hm=>by rw[b1];exact(an m hm).symm
 have ba:bH l N x (l.tS F) (A.at N.y) q:=⟨⟨⟨hl.ext.agree.i,hl.ext.agree.b,hl.ext.agree.r,rfl⟩,hl.ext.li,hl.ext.lb,hl.ext.lr,hl.ext.ad⟩,λi hi=>ahZ _ _ _ i (ahX hi) (hl.mono i hi),by show Y l.au<=(mZ _ _ _).length;rw[Nc];exact hl.len,hl.aA⟩;have b3:∀(W3:World),jE p.S0 p.w0 q A F.au j.ty F.rs W3->(∀(k:Nat)(M:TypeId)(rv:RV)(H:Nat),F.rs[k]?=U (.own M)->A.r[k]?=U rv->rv.kF=U H->yc p.S0 p.w0 q A F.au j.ty F.rs W3 k M rv H)->wE (Y l.pd) (l.tS F).au=E->
   eF p.w0 D (F.pd.take (Y l.pd)) N.y ([lF b.heap.size]++a.defers) W3->aC p.S0 p.w0 D j.ty q (A.at N.y) (l.tS F) {a with defers:=[lF b.heap.size]++a.defers} W3:=by
  intro W3 hm ht hb cW;refine⟨(hm.atf (Y l.pd) (Y l.au)).at b2 hb,by show Y q=(mZ _ _ _).length;rw[Nc];exact R2.gv,R2.ei,R2.eb,R2.er,cW,R.size,λt sv h=> ?_,λk M rv H o h2 h3=>let t:=ht k M rv H o h2 h3;⟨t.own,t.mem,λi hi=>t.box i (Nf hi),t.alone,t.inner⟩⟩;rcases R.tmps t sv h with o|o;exact .inl o;right;rw[ba.ext.ah (uY (R.yf a1.1).1 h)];exact o
 have b4:Y l.pd<Y F.pd:=by
  have:=R2.cU.len;simp only[gD,oK,Qf] at this;rw[R.cU.len] at this;omega
 obtain⟨u1,u2,u3⟩:=R2.cU.dt (Y l.pd) (b.heap.size+1) rec F.pd[Y l.pd] b0 (cK b4);have bb:∀(st:Fs)(M:XE)(a0:Option Code),F.pd[Y l.pd]?=U st->(ri rec st).state≠ .busy->(ri rec st).pending=a0->wE (Y l.pd) (l.tS F).au=E->(k M (l.tS F)).aP p A L'->
   (∀W4,Q (M.to (A.at N.y) q) {a with defers:=[lF b.heap.size]++a.defers} W4->(match a0 with|none=>Q .normal {a with defers:=[lF b.heap.size]++a.defers} W4|U c=>jg Z w p.P c Q {a with defers:=[lF b.heap.size]++a.defers} W4))->
   LeavesInM Fence.wide 0 p.P af u.tmps (YB Z w p.P (b.heap.size+1) Q {a with defers:=[lF b.heap.size]++a.defers}) u.defers .returning W':=by
  intro st M a0 aa c0 hj ab c1 hq;rw[q1];refine sL ay (xL.1 q2).1 (λd hd=>(q3 d (by simp[hd])).1) ⟨_,Jc R2 ok.kZ (l:=[]) (by rw[cC];rfl), ?_⟩;have c2:F.pd[Y l.pd]=st:=by
   rw[cK b4] at aa;simpa using aa
  rw[c2] at u2;have b5:=run_endLoop (P:=p.P) u2 c0;rw[hj] at b5;refine⟨a0,_,b5,hq _ ?_⟩;have c3:∀(y l':Nat)(r':Loop),D.dt[y]?=U (l',r')->l'≠b.heap.size+1:=λy l' r' hn M=>by have:=br y l' r' hn;omega
  refine hk M (l.tS F) (A.at N.y) q _ _ L' ba hL (b3 _ (R2.mem.obj u2 rfl u3 _) (λk M rv H o h2 h3=>(R2.fZ k M rv H o h2 h3).obj u2 rfl _) ab (ac.put u2 c3 _)) (sK p _ A L' _ c1)
 have b6:(FX l k .ret F).aP p A L'->LeavesInM Fence.wide 0 p.P af u.tmps (YB Z w p.P (b.heap.size+1) Q {a with defers:=[lF b.heap.size]++a.defers}) u.defers .returning W':=by
  intro z;simp only[FX] at z;split at z;exact z.elim;rename_i ab;have bd:wE (Y l.pd) (l.tS F).au=false:=by simpa using ab
  split at z;rename_i aa;exact bb .ready .normal Z aa (by simp[ri]) rfl bd z (λ_ h=>h)
  ·rename_i aa;exact bb (.done .ret) .ret (U .ret) aa (by simp[ri]) rfl bd z (λ_ h=>tX (n:=0) (wpIn_ret h))
  ·rename_i id aa;exact bb (.done (.exit id)) (.exit id) (U (.exit id)) aa (by simp[ri]) rfl bd z (λ_ h=>tX (n:=0) (wpIn_exit h))
  exact z.elim
 cases M with
 |normal=>exact b6 z
 |ret=>exact b6 z
 |exit id=>exact z.elim
 |bI G=>
  simp only[FX] at z;split at z;exact z.elim;rename_i ab;simp only[jd,not_or,aeX] at ab;show LeavesInM Fence.wide 0 p.P af u.tmps _ u.defers (.panicking _) W';rw[q1];refine sL ay (xL.1 q2).1 (λd hd=>(q3 d (by simp[hd])).1) ?_;have:=hk (.bI G) (l.tS F) (A.at N.y) q _ _ L' ba hL (b3 _ R2.mem R2.fZ ab.2 ac) (sK p _ A L' _ z);simp only[XE.to] at this;rw[C.Jq b2 q G ab.1] at this;exact this
end
section
variable{d:bF}{p:Sp}{L:dm}{V:aw}{W:World}
def Up(O X:ak):Prop:=∃l,X={O with r:=O.r++l}
def Up.refl(O:ak):Up O O:=⟨[],ay⟩
def Up.trans{X R:ak}(h:Up N X)(k:Up X R):Up N R:=by
 obtain⟨l,rfl⟩:=h;obtain⟨m,rfl⟩:=k;exact⟨l++m,ay⟩
def Up.agree{X:ak}(h:Up N X):iL N X (Y N.i) (Y N.b) (Y N.r):=by
 obtain⟨l,rfl⟩:=h;have:∀(l:aH)(N:ak),N.ext (l.map XV.r)={N with r:=N.r++l}:=by
  intro l;induction l with
  |nil=>intro N;simp[ak.ext]
  |cons x Q R=>intro N;simp only[eE,ak.ext,R,ak.add];simp
 rw[<-this l N];exact Dz _ _
def sR(O:ak)(X:bp)(R:uN):S:=⟨[],[],Y O.i,Y O.b,X,0,0,R⟩
def Nn(X:bp):Prop:=∀(k:Nat)(e:TypeId),X[k]?≠U (RK.own e)
def air(p:Sp)(d:bF)(D:b9)(a:Act)(W:World)(L:dm)(V:aw)(G:bE)(N:uN)(X:ak)(v:C)(f:bp->(C->bp->T)->T):Prop:=
 ∀(Q:bp)(O:ak)(k:C->bp->T),aC p.S0 p.w0 D d.ty [] O (sR O Q N) a W->Up X O->Nn Q->v.bd (Y X.i) (Y X.b) (Y X.r) (aL G)=J->(f Q k).aP p O L->
  ∃M P R,aC p.S0 p.w0 D d.ty [] R (sR R P N) a W/\Up O R/\Nn P/\(∀H,Up R H->M.ah H []=v.ah X V)/\(k M P).aP p R L
def R6{D:b9}{a:Act}{A:bE}{M:uN}{Q:ak}{f:C->bp->(C->bp->T)->T}(z:∀v,air p d D a W L V A M Q v (f v)):∀(l:av)(X:bp)(O:ak)(k:av->bp->T),aC p.S0 p.w0 D d.ty [] O (sR O X M) a W->Up Q O->Nn X->C.dQ (Y Q.i) (Y Q.b) (Y Q.r) (aL A) l=J->(IG f l X k).aP p O L->
  ∃y H P,aC p.S0 p.w0 D d.ty [] P (sR P H M) a W/\Up O P/\Nn H/\(∀N,Up P N->C.aF N [] y=C.aF Q V l)/\(k y H).aP p P L
 |[],X,O,k,R,G,F,_,h=>⟨[],X,O,R,Up.refl O,F,λ_ _=>rfl,h⟩
 |x::s,X,O,k,R,G,F,B,h=>by
  rw[C.iD.2,az] at B;simp only[IG] at h;obtain⟨q,o,n,m,w,j,g,e⟩:=z x X O _ R G F B.1 h;obtain⟨c,aa,O2,R2,u,n2,d2,h2⟩:=R6 z s o n _ m (G.trans w) j B.2 e;exact⟨q::c,aa,O2,R2,w.trans u,n2,λN t=>by simp only[C.aF,g N (u.trans t),d2 N t],h2⟩
def YT(an:p.ty=d.ty){D:b9}{a:Act}{bx:bE}{pd:uN}{O0:ak}(ha:a.tmps= #[])(a1:∀i e G,lB bx i=U (e,G)->W.heap[ad V i]?=U (.cells (C.aF O0 V G).toArray e (0,0))/\(p.w0.heap.size<=ad V i\/ad V i∈p.S0)/\C.dQ (Y O0.i) (Y O0.b) (Y O0.r) (aL bx) G=J):
  ∀(n:Nat)(v:C),air p d D a W L V bx pd O0 v (II d bx n v)
 |0,v=>λx O k R w o N h=>h.elim
 |n+1,v=>by
  intro x O k R w o N h;cases v with
  |int q e=>
   refine⟨_,x,O,R,Up.refl O,o,λf M=> ?_,h⟩;rw[C.aZ.1] at N;simp only[C.ah,K.dW (w.trans M).agree e N]
  |bool e=>
   refine⟨_,x,O,R,Up.refl O,o,λf M=> ?_,h⟩;rw[C.aZ.2.1] at N;simp only[C.ah,BE.dW (w.trans M).agree e N]
  |am r=>
   refine⟨_,x,O,R,Up.refl O,o,λf M=> ?_,h⟩;rw[C.aZ.2.2.1] at N;simp only[C.ah,RE.dW (w.trans M).agree r N]
  |agg l=>
   rw[C.aZ.2.2.2.2.2.2.1] at N;simp only[II] at h;obtain⟨l',bb,O',R',u',n',d',h'⟩:=R6 (YT an ha a1 n) l x O _ R w o N h;exact⟨.agg l',bb,O',R',u',n',λf M=>by simp only[C.ah,d' f M],h'⟩
  |iP i bs aa ab=>
   simp only[II] at h;split at h;rename_i e G bd;obtain⟨g1,g2,g3⟩:=a1 i e G bd;split at h;rename_i te bf;obtain⟨ac,Q,H,B,u1,n1,d1,h1⟩:=R6 (YT an ha a1 n) G x O _ R w o g3 h;split at h1;rename_i hc;simp only[az,dv,cF,bne_iff_ne,ne_eq] at hc;obtain⟨⟨⟨⟨c1,c2⟩,c3⟩,c4⟩,c5⟩:=hc;subst c3;have hw:bD d.ty (.sl e)=te.ao:=by simp[bD,bf]
   have a3:mX d.ty (sR H Q pd) (bD d.ty (.sl e)) (jo (Y te.ao) aa ac)=true:=by
    rw[hw,<-c1];exact DO (s:=sR H Q pd) (s':=S.fy Q) rfl
   have a4:=XI B a3;obtain⟨P,A⟩:∃P,P=(jo (Y te.ao) aa ac).map λag=>ag.map (C.cj H):=⟨_,rfl⟩
   rw[<-A] at a4;have hN:Y P=aa:=by rw[A];simp[Q8]
   have bg:C.aF H [] ac=C.aF O0 V G:=d1 H (Up.refl _);have hH:bJ W d.ty (.sl e) (.mk (.slice (U ⟨ad V i,0,Z⟩) (Y P) ab) P):=by
    refine Xz a4 ⟨_,_,_,g1⟩ (λq u hq=> ?_) (by rw[hN];exact c4);rw[A] at hq;have a9:=XJ (V:=[]) (by rw[hw]) a3 (λi ag m=>by rw[<-A] at m;rw[a4.len i ag m,hw]) hq;rw[bg] at a9;simp[nF,g1,a9]
   have bk:F6 p.ty p.S0 p.w0 e (.lit (jo (Y te.ao) aa ac)) Q H (.mk (.slice (U ⟨ad V i,0,Z⟩) (Y P) ab) P):=by
    refine⟨⟨U ⟨ad V i,0,Z⟩,Y P,ab,by rw[A];rfl,by rw[A];rfl⟩,λb hl=> ?_,λ_ _ _ _ h=>by cases h⟩;rw[an] at hl⊢;generalize ba:RV.mk (.slice (U ⟨ad V i,0,Z⟩) (Y P) ab) P=rv at hl;cases hl with
    |here e a0 bt b0 bl=>
     injection ba with p1 p2;injection p1 with p3 p4 p5;cases p3;exact g2.imp id .inl
    |deep e v bl i j ag c z k b g q2 q3 q4=>
     injection ba with p1 p2;subst p2;rw[A,dN] at g;cases m:(jo (Y te.ao) aa ac)[i]? with
     |none=>rw[m] at g;cases g
     |some br=>
      rw[m] at g;simp only[dV,cG] at g;subst g;obtain⟨r,X,F,k3,k4⟩:=XC (DE a3 i br m) q2 q3 q4;exact .inr (.inr (I1 B k3 F k4).1)
   have hs:=h1 _ bk;refine⟨.am (.v (Y Q)),Q++[.sl e],H.add (.r (.mk (.slice (U ⟨ad V i,0,Z⟩) (Y P) ab) P)), ?_,u1.trans ⟨[_],rfl⟩, ?_, ?_,hs⟩;have al:Y H.r=Y Q:=B.er;refine⟨⟨B.mem.base,λi y=>by simp[sR,aL,cH] at y,λi j y=>by simp[sR,aL,cH] at y,λi t G y=>by simp[sR,cH] at y,λk e' rv X F=> ?_⟩,rfl,rfl,rfl,by simp[sR,ak.add,al],B.cU,by rw[ha];rfl,λt sv ht=>by simp[sR] at ht,λk e' rv b X=> ?_⟩;refine⟨?_,λb N i y=>by simp[sR,aL,cH] at y⟩;simp only[sR,ak.add] at X F;by_cases hk:k<Y Q;rw[dU hk] at X;rw[dU ae] at F;exact(B.mem.am k e' rv X F).1;have af:k=Y Q:=by
    have:=(bZ.1 X).1;simp at this;omega
   subst af;simp at X;rw[<-al] at F;simp at F;subst X F;exact hH;exfalso;simp only[sR] at X;by_cases hk:k<Y Q;rw[dU hk] at X;exact n1 _ _ X;have:=(bZ.1 X).1;have af:k=Y Q:=by simp at this;omega
   subst af;simp at X;intro k e' X;by_cases hk:k<Y Q;rw[dU hk] at X;exact n1 _ _ X;have:=(bZ.1 X).1;have af:k=Y Q:=by simp at this;omega
   subst af;simp at X;intro f M;obtain⟨l,rfl⟩:=M;have al:Y H.r=Y Q:=B.er;simp only[C.ah,RE.ah,RE.rv,ak.rv,ak.add,dB,H7];rw[<-al,iC (cd _)];simp[hN];exact h1.elim;exact h.elim;exact h.elim
  |loc _ _=>exact h.elim
  |el _ _ _ _=>exact h.elim
  |bP _=>exact h.elim
  |fn _ _=>exact h.elim
  |gJ _ _=>exact h.elim
  |yl _=>exact h.elim
  |any=>exact h.elim
  |mp _=>exact h.elim
  |fW _ _ _=>exact h.elim
end
section
variable{cf:bF}
section
variable{o:aw}{q:World}{D:b9}{V:aw}{O:ak}{s:S}{a:Act}{W:World}
def YU{k:Int}:∀{R:bq}{Q:av}{v:C},FY k R Q=U v->v.gK O V=.mk (kh k R (C.aF O V Q)) []
 |[],_,v,h=>by simp[FY] at h
 |F::R,[],v,h=>by simp[FY] at h
 |F::R,u::Q,v,h=>by
  unfold FY at h;split at h;rename_i P N;injection P with M L;injection N with H G;subst M L H G;simp only[C.aF,kh];split at h;rename_i X;cases h;rw[aI X];rfl;rename_i X;rw[aK X];exact YU h;rename_i P N;injection P with M L;injection N with H G;subst M L H G;simp only[C.aF,kh];split at h;rename_i X;cases h;rw[aI X];rfl;rename_i X;rw[aK X];exact YU h;cases h
def ais{x:Int}:∀{X:bq}{R:gc},¬x∈X->kh x X R=.nilFunc
 |[],_,_=>rfl
 |k::X,[],_=>rfl
 |k::X,v::R,h=>by
  simp only[dP,not_or] at h;simp only[kh,aK h.1];exact ais h.2
def YV{e:K}{k:Int}(X:e.ah O=k):∀(n:Nat)(b:BE),(Mt e k n b).ah O=b.ah O
 |0,b=>rfl
 |n+1,b=>by
  unfold Mt;split;rfl;rename_i P N M x y R;cases R;split;rename_i Q;have:=K.bU _ _ Q;subst this;simp only[BE.ah,K.ah,gX,X,dv];split;exact YV X n x;exact YV X n y;rfl;rfl
def YW{e:K}{k:Int}(X:e.ah O=k):∀(n:Nat)(b:K),(Mu e k n b).ah O=b.ah O
 |0,b=>rfl
 |n+1,b=>by
  unfold Mu;split;rfl;rename_i P N M x y R;cases R;split;rename_i Q;have:=K.bU _ _ Q;subst this;simp only[BE.ah,K.ah,gX,X,dv];split;exact YW X n x;exact YW X n y;rfl;rfl
def atO{e:K}{k:Int}(X:e.ah O=k)(v:C):(W6 e k v).gK O V=v.gK O V:=by
 cases v<;>simp only[W6];simp only[C.gK,C.ah,YW X];simp only[C.gK,C.ah,YV X];rename_i P N M;split;rename_i R;have:=K.bU _ _ R;subst this;split;rename_i v Q;rw[YU Q];simp only[C.gK,C.ah,X];rfl;rfl
def atP{e:K}{R:bq}(Q:¬e.ah O∈R)(v:C):(QK e R v).gK O V=v.gK O V:=by
 cases v<;>simp only[QK];rename_i L P H;split;rename_i X;rw[az] at X;have:=K.bU _ _ X.1;subst this;have N:¬e.ah O∈P:=λM=>Q (by
  have:=fp.1 X.2 _ M;exact pz.1 this)
 simp only[C.gK,C.ah,ais N];rfl;rfl
def atQ{e:K}{v:Int}(h:e.ah O=v):∀y:C,(W7 e v y).gK O V=y.gK O V:=λy=>by
 unfold W7;split;rename_i k x;split;rename_i X;have X:=K.bU _ _ X;subst X;simp only[C.gK,C.ah,K.ah,h];rfl;rfl
def YX{f:C->C}{l:bE}:cg (FZ f l) y=U (g,v)<->∃kj,cg l y=U (g,kj)/\v=kj.map f:=by
 rw[jO];simp only[FZ,dN];constructor;intro h;cases R:l[y]? with
 |none=>rw[R] at h;cases h
 |some x=>
  rw[R] at h;cases x with
  |none=>cases h
  |some X=>
   simp only[dV,cG,Bh] at h;obtain⟨rfl,rfl⟩:=h;exact⟨X.2,jO.2 R,rfl⟩
 rintro⟨kj,h,rfl⟩;rw[jO] at h;rw[h];rfl
def ait{f:C->C}{l:bE}:aL (FZ f l) y=aL l y:=by
 rw[tG];simp only[aL,kD];constructor;rintro⟨⟨t,X⟩,h⟩;obtain⟨kj,h,-⟩:=YX.1 h;exact⟨_,h⟩;rintro⟨⟨t,X⟩,h⟩;exact⟨_,YX.2 ⟨X,h,rfl⟩⟩
def aC.fix(R:aC o q D cf.ty V O s a W){f:C->C}(H:∀v,(f v).gK O V=v.gK O V):aC o q D cf.ty V O (s.fix f) a W:=by
 have Q:∀j,aL (s.fix f).au j=aL s.au j:=λj=>ait
 refine⟨⟨R.mem.base,λj X=>R.mem.own j (by rw[<-Q];exact X),λj k X G=>R.mem.inj j k (by rw[<-Q];exact X) (by rw[<-Q];exact G),λj t w L=> ?_,λk e P N M=>⟨(R.mem.am k e P N M).1,λb L j X=>(R.mem.am k e P N M).2 b L j (by rw[<-Q];exact X)⟩⟩,by rw[R.gv];simp[S.fix,FZ],R.ei,R.eb,R.er,R.cU,R.size,R.tmps,λk e P b F B A=> ?_⟩;obtain⟨kj,h,rfl⟩:=YX.1 L;have:C.dJ O V (kj.map f)=C.dJ O V kj:=by
  simp only[C.dJ,oc];exact kb λv _=>H v
 rw[this];exact R.mem.box j t kj h;obtain⟨N,M,z,y,x⟩:=R.fZ k e P b F B A;exact⟨N,M,λj X=>z j (by rw[<-Q];exact X),y,x⟩
def YY(f:C->C):bH s O V (s.fix f) O V:=⟨nh.refl _ _ _,λi h=>by rw[show aL (s.fix f).au i=aL s.au i from ait];exact h,by simp[S.fix,FZ],cd _⟩
def aC.atS(R:aC o q D cf.ty V O s a W){k:IntKind}{e:K}{v:Int}(Q:s.tmps.getD y .any=.int k e)(N:e.ah O=v):aC o q D cf.ty V O {s with tmps:=s.tmps.set y (.int k (.c v))} a W:=by
 refine⟨R.mem,R.gv,R.ei,R.eb,R.er,R.cU,by simpa using R.size,λi M h=> ?_,R.fZ⟩;simp only[uL] at h;split at h;rename_i L;subst L;split at h;rename_i P;cases h;have H:s.tmps[y]?=U (.int k e):=by
  rw[dB,cK P] at Q;rw[cK P];simpa using Q
 rcases R.tmps y _ H with X|X;cases X;right;rw[X];simp only[C.ah,K.ah,N];cases h;exact R.tmps i M h
def R7{p:Sp}{L:dm}{e:K}{gE:Int->S}{ai:T}{g:S->T}:∀{X:bq},(IF e gE ai g X).aP p O L->(∃k∈X,e.ah O=k/\(g (gE k)).aP p O L)\/(¬e.ah O∈X/\ai.aP p O L)
 |[],h=>.inr ⟨ay,h⟩
 |k::X,h=>by
  simp only[IF,T.aP] at h;by_cases R:e.ah O=k;exact .inl ⟨k,ay,R,h.1 (by simp[BE.ah,K.ah,gX,R])⟩;rcases R7 (h.2 (by simp[BE.ah,K.ah,gX,R])) with⟨N,Q,P⟩|⟨Q,P⟩;exact .inl ⟨N,by simp[Q],P⟩;exact .inr ⟨by simp[R,Q],P⟩
def atT{p:Sp}(R:aC o q D cf.ty V O s a W){id:Nat}{X:K}{G:bq}{gE:Int->S}{ai:Option S}(Q:QL cf y id s=U (X,G,gE,ai)){g:S->T}(h:(IF X gE (W8 g ai) g G).aP p O e):
  ∃H,bH s O V H O V/\H.aA=s.aA/\aC o q D cf.ty V O H a W/\(g H).aP p O e:=by
 unfold QL at Q;split at Q;split at Q;cases Q;rcases R7 h with⟨k,N,P,M⟩|⟨N,P⟩;exact⟨_,YY _,rfl,R.fix (atO P),M⟩;split at P;exact⟨_,YY _,rfl,R.fix (atP N),P⟩;exact P.elim;cases Q;split at Q;cases Q;rename_i k B A F;cases Q;rw[wq] at F;rcases R7 h with⟨k,N,P,M⟩|⟨N,P⟩;refine⟨_, ?_, ?_,R.atS F P,M⟩;exact⟨nh.refl _ _ _,λ_ h=>h,cd _,cd _⟩;rfl;exact P.elim;cases Q;split at Q;split at Q;cases Q;cases Q;rcases R7 h with⟨k,N,P,M⟩|⟨N,P⟩;exact⟨_,YY _,rfl,R.fix (atQ P),M⟩;exact P.elim;cases Q;cases Q;cases Q
end
def R8:∀(n:Nat)(p:Sp)(_:jr p cf),yv p cf n/\RQ p cf n
 |0,p,ok=>⟨λD B yh ro ac c s k L O V a W Q _ _ _ _ _ h=>h.elim,λD B yh ro ac c s k L O V a W Q _ _ _ _ _ _ h=>h.elim⟩
 |n+1,p,ok=>by
  have b6:=(R8 n p ok).2;have ih:=(R8 n p ok).1;have b7:∀p':Sp,p'.P=p.P->jr p' cf->yv p' cf n:=λp' _ b8=>(R8 n p' b8).1
  have bx:=atk ih b6;refine⟨?_,bx⟩;intro D B yh ro ac c s k L O V a W Q hY hB af a0 ag h R hg HP u;have a3:∀e F,di s.aA L F->(k e s).aP p O F->Q (e.to O V) a W:=λe F w A=>u e s O V a W F (bH.refl _ _ _) w R A
  have h0:=h;unfold fH at h;split at h;exact tX (n:=0) (wpIn_skip (a3 .normal L (di.refl _ _) h));exact tX (n:=0) (wpIn_label (a3 .normal L (di.refl _ _) h));exact tX (n:=0) (wpIn_ret (a3 .ret L (di.refl _ _) h));rename_i id;exact tX (n:=0) (wpIn_exit (a3 (.exit id) L (di.refl _ _) h))
  
  rename_i x y;have a4:ro.isSome=J->jN x=false:=λhr=>by have:=a0 hr;simp only[jN,uK] at this;exact this.1
  have a9:ro.isSome=J->jN y=false:=λhr=>by have:=a0 hr;simp only[jN,uK] at this;exact this.2
  refine Gm (ih D B yh ro ac x s _ L O V a W _ hY hB af a4 ag h R hg (λch H G pd y hd hR=>HP ch H G pd y hd hR) ?_);intro e r O' V' H G F M w d A;cases e with
  |normal=>exact ih D B yh ro ac y r k F O' V' H G Q hY (hB.go M w) af a9 ag A d (hg.ext M.ext) HP (λe2 s2 O2 V2 a2 W2 L2 ab al R2 aa=>u e2 s2 O2 V2 a2 W2 L2 (M.trans ab) (w.trans al M.aA) R2 aa)
  |ret=>exact u .ret r O' V' H G F M w d A
  |exit id=>exact u (.exit id) r O' V' H G F M w d A
  |bI v=>exact u (.bI v) r O' V' H G F M w d A
  
  rename_i id x;refine as6 (ih D B yh ro ac x s _ L O V a W _ hY hB af (λhr=>by have:=a0 hr;simpa only[jN] using this) ag h R hg (λch H G pd y hd hR=>HP ch H G pd y hd hR) ?_);intro e r O' V' H G F M w d A;cases e with
  |normal=>exact u .normal r O' V' H G F M w d A
  |ret=>exact u .ret r O' V' H G F M w d A
  |exit j=>
   simp only[WS] at A;split at A;rename_i hj;have bb:j=id:=by simpa using hj
   subst bb;simp only[XE.to,Exit.inBlock,cS];exact u .normal r O' V' H G F M w d A;rename_i hj;have bb:¬j=id:=by simpa using hj
   simp only[XE.to,Exit.inBlock,bb,ga];exact u (.exit j) r O' V' H G F M w d A
  |bI v=>exact u (.bI v) r O' V' H G F M w d A
  
  rename_i x;refine as7 (ih D B yh ro ac x s _ L O V a W _ hY hB af (λhr=>by have:=a0 hr;simpa only[jN] using this) ag h R hg (λch H G pd y hd hR=>⟨λl h=>by(cases h),HP ch H G pd y hd hR⟩) ?_);intro e r O' V' H G F M w d A;exact⟨λl h=>(by cases e<;>cases h),u e r O' V' H G F M w d A⟩
  
  rename_i x y z;have a9:ro.isSome=J->jN y=false:=λhr=>by have:=a0 hr;simp only[jN,uK] at this;exact this.1
  have b0:ro.isSome=J->jN z=false:=λhr=>by have:=a0 hr;simp only[jN,uK] at this;exact this.2
  split at h;rename_i hc;have he:=du R hg x (by rw[hc];rfl);rw[hc] at he;exact Jn (t:=J) (by simpa[C.ah,BE.ah] using he) (ih D B yh ro ac y s k L O V a W Q hY hB af a9 ag h R hg HP u);rename_i hc;have he:=du R hg x (by rw[hc];rfl);rw[hc] at he;exact Jn (t:=E) (by simpa[C.ah,BE.ah] using he) (ih D B yh ro ac z s k L O V a W Q hY hB af b0 ag h R hg HP u);rename_i b ds dx hc;have he:=du R hg x (by rw[hc];rfl);rw[hc] at he;split at h;rename_i t;simp only[S.ev,wq] at hc;simp only[T.aP] at h;have b1:∀v,B.lG {s with tmps:=s.tmps.set t v} O V L:=λv=>⟨⟨hB.later.ext,hB.later.mono,hB.later.len,hB.later.aA⟩,hB.Gg⟩
  cases hv:b.ah O;refine Jn (t:=E) (by simpa[C.ah,hv] using he) (ih D B yh ro ac z _ k L O V a W Q hY (b1 _) af b0 ag (h.2 hv) (R.ahj hc hv) hg HP ?_);exact λe2 s2 O2 V2 a2 W2 L2 ab al R2 aa=>u e2 s2 O2 V2 a2 W2 L2 ⟨ab.ext,ab.mono,ab.len,ab.aA⟩ al R2 aa
  refine Jn (t:=J) (by simpa[C.ah,hv] using he) (ih D B yh ro ac y _ k L O V a W Q hY (b1 _) af a9 ag (h.1 hv) (R.ahj hc hv) hg HP ?_);exact λe2 s2 O2 V2 a2 W2 L2 ab al R2 aa=>u e2 s2 O2 V2 a2 W2 L2 ⟨ab.ext,ab.mono,ab.len,ab.aA⟩ al R2 aa
  exact h.elim;exact h.elim
  
  rename_i id bd ca;split at h;rename_i e ks gE ai hf;obtain⟨r,M,bf,d,h'⟩:=atT R hf h;exact ih D B yh ro ac _ r k L O V a W Q hY (hB.go M (di.refl _ _)) af a0 ag h' d hg HP (λe2 s2 O2 V2 a2 W2 L2 ab al R2 aa=>u e2 s2 O2 V2 a2 W2 L2 (M.trans ab) (bf▸al) R2 aa);refine tX (n:=0) ?_;split at h;rename_i hd;subst hd;split at h;rename_i c bg;exact aiq (yu ro) ok ih hY HP hB bg h R hg (λr O' V' H G F M w d A=>u .normal r O' V' H G F M w d A) (λv r O' V' H G F M w d A=>u (.bI v) r O' V' H G F M w d A);split at h;rename_i om cc;split at h;exact h.elim;rename_i cl;exact atj (yu ro) ok (ats b7 ok) hY HP hB cc (by simpa using cl) (atr _ _ _) h R hg (λr O' V' H G F M w d A=>u .normal r O' V' H G F M w d A) (λv r O' V' H G F M w d A=>u (.bI v) r O' V' H G F M w d A);split at h;rename_i c bg;exact aiq (yu ro) ok ih hY HP hB bg h R hg (λr O' V' H G F M w d A=>u .normal r O' V' H G F M w d A) (λv r O' V' H G F M w d A=>u (.bI v) r O' V' H G F M w d A);exact h.elim;rename_i hd;have cm:ca=false:=by simpa using hd
  subst cm;obtain⟨Rr,bk⟩:=R.room (lC bd.toList);refine wpIn_region ?_;have:=zZ (ops:=bd) ok.pt ok.xR (yu ro) ok.kZ (atl _ ok (Ju ok ih hY)) HP (n:=0) (gG (λ_=>E) J E 0 (Y s.au) bd.toList) 0 _ [] L O _ a W (λi m' hi=>by have:=Js _ _ _ _ _ _ _ _ hi;simpa using this) (hB.go bk (di.refl _ _)) h (λx hx=>by cases hx) Rr hg
   (λr O' V' H G F M w d A=>u .normal r O' V' H G F (bk.trans M) w d A)
   (λv r O' V' H G F M w d A=>u (.bI v) r O' V' H G F (bk.trans M) w d A)
  rw[RO] at this;simpa[P5] using this
  
  rename_i x;have a4:ro.isSome=J->jN x=false:=λhr=>by have:=a0 hr;simpa only[jN] using this
  split at h;rename_i bl dy;split at h;have M:bH s O V (s.cY bl) O V:=⟨(bH.refl s O V).ext,λi hi=>hi,cd _,cd _⟩;exact ih D B yh ro ac _ (s.cY bl) k L O V a W Q hY (hB.go M (di.refl _ _)) af a0 ag h (R.mb (MI _ _)) hg HP (λe2 s2 O2 V2 a2 W2 L2 ab al R2 aa=>u e2 s2 O2 V2 a2 W2 L2 (M.trans ab) al R2 aa);obtain⟨an,cn⟩:∃an,an=bl.at s:=⟨_,rfl⟩;rw[<-cn] at h;split at h;exact h.elim;rename_i hc;simp only[jd,gO,not_or,Fh] at hc;obtain⟨⟨⟨⟨⟨co,cp⟩,cs⟩,ct⟩,cv⟩,cx⟩:=hc;simp only[T.aP] at h;obtain⟨X,μ,cy,cA⟩:=h;refine as8 (λN a1 W1=>∃s1 O1 V1,bH s O V s1 O1 V1/\aC p.S0 p.w0 D cf.ty V1 O1 s1 a1 W1/\xV an (Code.oe x) 0 s.tmps s1.tmps=J/\sn an 0 s.au s1.au=J/\sq s1 an.ks (kf an s1)=J/\xU (iZ an s) s1.rs=J/\FO (iZ an s) (FN an s1)=J/\s1.pd=s.pd/\X ((kf an s1).map (C.xv O1))/\μ ((kf an s1).map (C.xv O1))=N)
   (μ ((kf an s).map (C.xv O))) ⟨s,O,V,bH.refl _ _ _,R,cs,ct,cp,cv,cx,rfl,cy,rfl⟩ ?_
  rintro N a1 W1 ⟨s1,O1,V1,b2,R1,hT,cB,b3,cC,cD,cI,hI,rfl⟩;have RH:=aC.head (ty:=cf.ty) co R.ei R.eb R.er b2 R1 hT cB b3 cC cD cI;have cO:=cA _ (Yb (O1:=O1) b3) hI;have bf:(qn an (Code.oe x) s).aA=s.aA+1:=(wL an.ks {s with aA:=s.aA+1,rs:=iZ an s}).2.2.1;have br:bH s O V (qn an (Code.oe x) s) (O.ext ((kf an s1).map (C.xv O1))) (V1.take (Y s.au)):=by
   obtain⟨e1,e2,e3,e4⟩:=wL an.ks {s with aA:=s.aA+1,rs:=iZ an s};have hE:=BM s.au O ((kf an s1).map (C.xv O1)) V;refine⟨⟨hE.agree,hE.li,hE.lb,hE.lr,λk b4=> ?_⟩,λi hi=> ?_,by simp[qn,Rx], ?_⟩;have bs:k<Y s.au:=by
    obtain⟨b,hb⟩:=kD.1 b4;exact(bZ.1 (jO.1 hb)).1
   rw[BS bs];exact b2.ext.ad k b4;unfold aL at hi⊢;simp only[qn];rw[M1];simpa using hi;simp only[qn];rw[e3];exact Nat.le_succ _
  have cR:∀m,di s.aA L (⟨s.aA,X,μ,m⟩::L):=λm l bs=>by
   simp only[nM];rw[aK ae]
  refine ih D B yh ro ac x _ _ _ _ _ a1 W1 _ hY (hB.go br (cR _)) af a4 ag cO RH (hg.ext br.ext) (λch H G pd y hd hR=>HP ch H G pd y hd hR) ?_;intro e s2 O2 V2 a2 W2 L2 ab al R2 aa;have ba:=br.trans ab;rw[bf] at al;have bt:di s.aA L L2:=λl bs=>by
   rw[al l ae];simp only[nM];rw[aK ae]
  cases e with
  |normal=>
   simp only[QH] at aa;split at aa;rename_i b5;simp only[az,cF] at b5;obtain⟨⟨⟨⟨⟨c1,c2⟩,c3⟩,c4⟩,c5⟩,c6⟩:=b5;have cW:nM s.aA L2=U ⟨s.aA,X,μ,μ ((kf an s1).map (C.xv O1))⟩:=by
    rw[al s.aA ae];simp[nM]
   simp only[T.aP,cW] at aa;exact⟨_,aa.2,s2,O2,V2,ba,R2,c1,c2,c3,c4,c5,c6,aa.1,rfl⟩;exact aa.elim
  |ret=>exact u .ret s2 O2 V2 a2 W2 L2 ba bt R2 aa
  |exit id=>exact u (.exit id) s2 O2 V2 a2 W2 L2 ba bt R2 aa
  |bI v=>exact u (.bI v) s2 O2 V2 a2 W2 L2 ba bt R2 aa
  rename_i c0;exact ahV (n+1) (bx D B yh ro ac x s k L O V a W Q hY hB af a4 ag (λan=>c0 an) h0 R hg HP u)
  
  rename_i f ps assign body;have c7:ro=none:=by
   cases ro with
   |none=>rfl
   |some l=>have:=a0 rfl;simp[jN] at this
  subst c7;split at h;rename_i g dz c8;split at h;rename_i c nt c9;split at h;exact h.elim;rename_i hc;simp only[jd,gO,not_or,Fh,aeX] at hc;obtain⟨⟨⟨⟨dc,dd⟩,df⟩,dk⟩,dn⟩:=hc;obtain⟨dT,dr⟩:=ag;exact atN ok ih dr af c8 c9 dc dd df dk dn h hY hB R hg HP u;exact h.elim;exact h.elim;exact h.elim
variable{p:Sp}
def atU{R:ak}{Q:aw}:∀{l P:av},C.aF N x l=C.aF R Q P->(one l).ah N x=(one P).ah R Q
 |[],[],_=>rfl
 |[X],[y],h=>by
  have h:C.ah N x X=C.ah R Q y:=by simpa[C.aF] using h
  exact h
 |[],_::_,h=>by simp[C.aF] at h
 |_::_,[],h=>by simp[C.aF] at h
 |[_],_::_::_,h=>by simp[C.aF] at h
 |_::_::_,[_],h=>by simp[C.aF] at h
 |a::b::c,M::L::H,h=>by
  show Value.tuple (C.aF N x (a::b::c)).toArray=Value.tuple (C.aF R Q (M::L::H)).toArray;rw[h]
def aiu(X:bp):Nn (X.map RK.rd):=by
 intro k e h;rw[dN] at h;cases R:X[k]? with
 |none=>rw[R] at h;cases h
 |some x=>rw[R] at h;cases x<;>simp[RK.rd] at h
def atV{D:b9}{a:Act}(H:p.ty=cf.ty)(R:aC p.S0 p.w0 D cf.ty x N l a b)(M:(Mw cf y v l).aP p N e):p.R (.returned ((one v).ah N x)) b:=by
 unfold Mw at M;split at M;rename_i z;simp only[az] at z;obtain⟨⟨⟨af,ag⟩,n⟩,m⟩:=z;have G:∀i,aL ([]:bE) i=J->False:=λi P=>by simp[aL,cH] at P
 have h:=R.mem.mb (Nj l.rs);have g:aC p.S0 p.w0 D cf.ty [] N (sR N (l.rs.map RK.rd) l.pd) ⟨#[],a.defers⟩ b:=
  ⟨⟨R.mem.base,λi P=>(G i P).elim,λi j P=>(G i P).elim,λi t w P=>by simp[sR,cH] at P,λk X r F f=>⟨(h.am k X r F f).1,λQ _ i P=>(G i P).elim⟩⟩,rfl,rfl,rfl,by simp[sR,R.er],R.cU,rfl,λt sv c=>by simp[sR] at c,λk X r Q F=>aY F (aiu _ k X)⟩
 have aa:=R.yf n;obtain⟨l',al,B,R3,u,_,d,h3⟩:=R6 (a:=⟨#[],a.defers⟩) (YT (bx:=l.au) (O0:=N) (V:=x) H rfl (λi X w ab=>by
  obtain⟨A,ac⟩:=ye ab;have:=R.mem.box i X w A;rw[sG ac] at this;exact⟨this,R.mem.own i (by simp[aL,A]),sF aa.2 A⟩) 9) v (l.rs.map RK.rd) N _ g (Up.refl _) (aiu _) (by rw[R.ei,R.eb,R.er];exact m) M
 have h4:=h3 B.y [] b (by rw[H];exact R3.mem);have h5:(one l').ah B []=(one v).ah N x:=atU (d B (Up.refl _));rw[<-h5];exact h4;exact M N.y x _ (by rw[H];exact(R.mem.take _).mb (Nj _))
def Jy(X:jr p cf)(n:Nat):yv p cf n/\RQ p cf n:=R8 n p X
def aiv(u:jr p cf){H:Func}{c:Code}(j:p.P.funcs[w]?=U H)(hb:H.body=U c)
  (ht:Mx cf y w c H.ntmps H.results.toList v l=h)(L:h.aP p N [])(hg:eL cf.gl N)(R:aC p.S0 p.w0 b9.none cf.ty x N {l with tmps:=[]} ⟨#[],[]⟩ p.w0):
  Calls p.P w (C.aF N x v).toArray p.w0 p.R:=by
 subst ht;refine Jo j hb ?_;have RE:=R.enter v H.ntmps R.cU;refine(Jy u y).1 b9.none ⟨{l with tmps:=v++eI (H.ntmps-Y v) (.bP [])},N,x,[]⟩ iK Z w c _ _ [] N x _ p.w0 _ (DQ _ _) (jF.here _ _ _ _) rfl (λhh=>by cases hh) ⟨H,j⟩ L RE hg ?_ ?_;intro i G r pd X hA hR;obtain⟨ab,B,q0,m,A⟩:=hA.ma;show LeavesInM Fence.wide 0 p.P H G.tmps p.R G.defers (.panicking i) r;rw[B];exact sL ay (xL.1 m).1 (λd F=>(A d (by simp[F])).1) (Ng (u.RA i) (λd F=>(A d (by simp[F])).2) hR);intro e g b V' G r L' hl hL RR L;obtain⟨ab,B,q0,m,A⟩:=RR.cU.ma;have k:=RR.qz B;have aa:∀Q,tM cf g H.results.toList=U Q->(Mw cf (Y l.au) Q g).aP p b L'->LeavesInM Fence.wide 0 p.P H G.tmps p.R G.defers .returning r:=by
  intro Q z L;rw[B];exact sL ay (xL.1 m).1 (λd F=>(A d (by simp[F])).1) ⟨_,Jc k u.kZ z,atV u.pt k L⟩
 cases e with
 |normal=>
  simp only[QM] at L;split at L;rename_i Q z;exact aa Q z L;exact L.elim
 |ret=>
  simp only[QM] at L;split at L;rename_i Q z;exact aa Q z L;exact L.elim
 |bI M=>
  show LeavesInM Fence.wide 0 p.P H G.tmps p.R G.defers (.panicking _) r;rw[B];exact sL ay (xL.1 m).1 (λd F=>(A d (by simp[F])).1) (L b.y V' _ k.mem.base)
 |exit id=>exact L.elim
end
def zEq:Value->CT->Bool
 |.int k n,.int X=>decide (k=X)&&n==0
 |.bool b,.bool=> !b
 |v,.ai z _=>FB v z
 |_,_=>E
def Jz:gc->eQ->Bool
 |[],[]=>J
 |v::X,c::W=>zEq v c&&Jz X W
 |_,_=>E
def aix:∀(W:gc)(V:eQ),Jz W V=J->W=V.map qu
 |[],[],_=>rfl
 |[],_::_,h=>by simp[Jz] at h
 |_::_,[],h=>by simp[Jz] at h
 |v::W,c::V,h=>by
  simp only[Jz,az] at h;rw[eE,<-aix W V h.2];congr 1;have X:=h.1;unfold zEq at X;split at X;simp only[az,cF,dv] at X;obtain⟨rfl,rfl⟩:=X;rfl;rename_i b;cases b;rfl;cases X;exact afu _ _ X;cases X
def JA:List Field->List (Nat×TypeId)->Bool
 |[],[]=>J
 |f::X,x::W=>f.offset==x.1&&f.type==x.2&&JA X W
 |_,_=>E
def aiy:∀(X:List Field)(W:List (Nat×TypeId)),JA X W=J->X.map (λf=>(f.offset,f.type))=W
 |[],[],_=>rfl
 |[],_::_,h=>by simp[JA] at h
 |_::_,[],h=>by simp[JA] at h
 |f::X,x::W,h=>by
  simp only[JA,az,dv] at h;rw[eE,aiy X W h.2,h.1.1,h.1.2]
def YZ(ao:eQ):TD->Option TypeDesc->Bool
 |.struct V,U (.struct F)=>JA F.toList V
 |.arr n e,U (.array R X)=>n==R&&e==X
 |.slice e,U (.slice X)=>e==X
 |.str,U .string=>J
 |.gJ,U (.interface _)=>J
 |.map k e _ _,U (.map W X)=>k==W&&e==X
 |.one,U (.int k)=>match ao with
  |[.int W]=>decide (k=W)
  |_=>E
 |.one,U .bool=>match ao with
  |[.bool]=>J
  |_=>E
 |.one,U (.pointer _)|.one,U (.map _ _)|.one,U (.chan _ _)=>match ao with
  |[.ai .nilFunc _]=>E
  |[.ai _ _]=>J
  |_=>E
 |.one,U (.func _ _ _)=>match ao with
  |[.ai _ _]=>J
  |_=>E
 |_,_=>E
def atW{P:Program}{ao:eQ}{d:TD}(h:YZ ao d (P.underlying g)=J):d.Ok P g ao:=by
 unfold YZ at h;split at h;rename_i N F W;exact⟨F,W,aiy _ _ h⟩;rename_i n e M R W;simp only[az,dv] at h;obtain⟨rfl,rfl⟩:=h;exact W;rename_i e R W;simp at h;subst h;exact W;rename_i W;exact W;rename_i m W;exact⟨m,W⟩;rename_i k e n L O R W;simp only[az,dv] at h;obtain⟨rfl,rfl⟩:=h;exact W;rename_i k W;split at h;rename_i O;simp at h;subst h;exact⟨_,W,⟨trivial,λk X=>(by cases X)⟩,λk X=>(by cases X;rfl),λX=>(by cases X)⟩;cases h;rename_i W;split at h;exact⟨_,W,⟨trivial,λk X=>(by cases X)⟩,λk X=>(by cases X),λX=>rfl⟩;cases h;rename_i x W;split at h;cases h;rename_i z Q V;exact⟨_,W,⟨trivial,λk X=>(V (by cases X;rfl)).elim⟩,λk X=>(by cases X),λX=>(by cases X)⟩;cases h;rename_i x y W;split at h;cases h;rename_i z Q V;exact⟨_,W,⟨trivial,λk X=>(V (by cases X;rfl)).elim⟩,λk X=>(by cases X),λX=>(by cases X)⟩;cases h;rename_i x y W;split at h;cases h;rename_i z Q V;exact⟨_,W,⟨trivial,λk X=>(V (by cases X;rfl)).elim⟩,λk X=>(by cases X),λX=>(by cases X)⟩;cases h;rename_i x y z W;split at h;exact⟨_,W,⟨trivial,λk X=>⟨_,_,_,rfl⟩⟩,λk X=>(by cases X),λX=>(by cases X)⟩;cases h;cases h
def Y0(P:Program)(t:TypeId)(X:TI):Bool:=
 match P.info? t with
 |U i=>match i.zero with
  |U z=>decide (i.bytes<=131072)&&i.size==Y X.ao&&Jz z.cells.toList X.ao&&YZ X.ao X.d (P.underlying t)&&(QQ z==X.d.isAgg)
  |none=>E
 |none=>E
def atX{P:Program}{X:TI}(h:Y0 P g X=J)(L:X.eq=J->∀(W V:gc)(r:Bool)(x y:Operand)(w:World),kG X.ao W->kG X.ao V->jP W V=U r->
  (do eqGuard .eql g x y (.agg W.toArray) (.agg V.toArray);binOp .eql g (.agg W.toArray) (.agg V.toArray)).run P w=.ok (.bool r) w/\
  (do eqGuard .neq g x y (.agg W.toArray) (.agg V.toArray);binOp .neq g (.agg W.toArray) (.agg V.toArray)).run P w=.ok (.bool !r) w)(H:∀k e n O,X.d=.map k e n O->tT P k n O):eU P g X:=by
 unfold Y0 at h;split at h;rename_i i Q;split at h;rename_i z N;simp only[az,dv,cF] at h;obtain⟨h,G⟩:=h;exact⟨⟨i,Q,h.1.1.2,z,N,aix _ _ h.1.2⟩,atW h.2,λj R=>(by rw[Q] at R;cases R;exact h.1.1.1),L,H,λj F R M=>(by rw[Q] at R;cases R;rw[N] at M;cases M;exact G)⟩;cases h;cases h
def aiz{X:Type}(l:List (Option X))(i:Nat):Option X:=xO (motive:=λ_=>Nat->Option X) (λ_=>Z) (λx _ W t=>Fp (motive:=λ_=>Option X) x (λm _=>W m) t) l i
def Y1{X:Type}(l:List (List X))(i:Nat):List X:=xO (motive:=λ_=>Nat->List X) (λ_=>[]) (λx _ W t=>Fp (motive:=λ_=>List X) x (λm _=>W m) t) l i
def look{X:Type}(l:List (List (Option X)))(t:Nat):Option X:=aiz (Y1 l (t/16)) (t%16)
def aiA{X:Type}{x:X}:∀{l:List (Option X)}{i:Nat},aiz l i=U x->l[i]?=U (U x)
 |[],_,h=>by cases h
 |y::_,0,h=>by simp only[zr];exact jW U h
 |_::l,i+1,h=>by rw[sa];exact aiA (l:=l) h
def aiB{X:Type}:∀(l:List (List X))(i:Nat),l[i]?=U (Y1 l i)\/Y1 l i=[]
 |[],_=>.inr rfl
 |_::_,0=>.inl rfl
 |_::l,i+1=>by rw[sa];exact aiB l i
def Gp{W:Type}(X:Nat->W->Bool):Nat->List (Option W)->Bool
 |_,[]=>J
 |n,Z::r=>Gp X (n+1) r
 |n,U x::r=>X n x&&Gp X (n+1) r
def DR{X:Type}(W:Nat->X->Bool):Nat->List (List (Option X))->Bool
 |_,[]=>J
 |n,r::V=>Gp W n r&&DR W (n+16) V
def Y2{W:Type}{V:Nat->W->Bool}:∀{r:List (Option W)}{n i:Nat}{x:W},Gp V n r=J->r[i]?=U (U x)->V (n+i) x=J
 |[],n,i,x,_,h=>by simp at h
 |Z::r,n,0,x,_,h=>by simp at h
 |Z::r,n,i+1,x,X,h=>by
  simp only[Gp] at X;have:=Y2 X (by simpa using h)
  rwa [show n+1+i=n+(i+1) from ae] at this
 |U y::r,n,0,x,X,h=>by simp[Gp] at X;simp at h;subst h;exact X.1
 |U y::r,n,i+1,x,X,h=>by
  simp only[Gp,az] at X;have:=Y2 X.2 (by simpa using h)
  rwa [show n+1+i=n+(i+1) from ae] at this
def aiC{W:Type}{R:Nat->W->Bool}:∀{l:List (List (Option W))}{n q i:Nat}{r:List (Option W)}{x:W},DR R n l=J->l[q]?=U r->r[i]?=U (U x)->R (n+16*q+i) x=J
 |[],n,q,i,r,x,_,h,_=>by simp at h
 |y::l,n,0,i,r,x,X,h,V=>by simp only[DR,az] at X;simp at h;subst h;simpa using Y2 X.1 V
 |y::l,n,q+1,i,r,x,X,h,V=>by
  simp only[DR,az] at X;have:=aiC X.2 (by simpa using h) V
  rwa [show n+16+16*q+i=n+16*(q+1)+i from ae] at this
def aiD{X:Type}{R:Nat->X->Bool}{l:List (List (Option X))}(h:DR R 0 l=J){x:X}(Q:look l y=U x):R y x=true:=by
 have W:=aiA Q;rcases aiB l (y/16) with V|V;have:=aiC h V W
 rwa [iJ,aeZ] at this
 rw[V] at W;simp at W
def Y3(P:Program)(l:aw)(g:FuncId):Option (Code×Nat×mU):=if l.contains g then(match P.funcs[g]? with
 |U X=>match X.body with
  |U c=>U (c,X.ntmps,X.results.toList)
  |none=>Z
 |none=>Z) else Z
def u6(P:Program)(g:Nat):Bool:=match P.funcs[g]? with
 |U X=>X.body.isSome&& !(X.name== "runtime.NumGoroutine")
 |none=>E
def u7{P:Program}(h:u6 P y=J):∀X W,(callFunc y X).run P W=.ok (.enter y X) W:=by
 unfold u6 at h;split at h;rename_i V R;simp only[az,gO] at h;intro X W;have Q:V.name≠ "runtime.NumGoroutine":=by simpa using h.2
 obtain⟨c,O⟩:=kD.1 h.1;simp[callFunc,R,Q,O];cases h
def atY(X:Bk)(f i:Nat):Option FK:=match X.find? (λx=>x.1==f&&(x.2%1000==i&&decide (1000<=x.2))) with
 |U x=>if x.2/1000==1 then U .box else if x.2/1000<100 then U (.slot (x.2/1000-2) [0,1,2,3]) else if x.2/1000<200 then U (.slot (x.2/1000-102) [0,1,2,3,4]) else U (.cell ((x.2/1000-200)/20) ((x.2/1000-200)%20) [1,2,3,4,5,6,7,8,9])
 |none=>Z
def oY(P:Program)(kZ:List (List Dl))(W:List (List qZ))(V:mD)(R:aw)(loops:List (Nat×Nat×fo))(Q:zy)(kW:Bool:=E)(X:Bk:=[]):bF:=
 {ty:=look kZ,gl:=V,inl:=Y3 P R,sig:=look W,loop:=λf i=>match loops.find? (λx=>x.1==f&&x.2.1==i) with
  |U x=>.inv x.2.2
  |none=>.aqT,xR:=λf g=>(Q.find? λx=>x.1==f&&x.2.1==g).map (·.2.2),kW:=kW,L9:=λf i=>X.contains (f,i),frk:=λf i=>atY X f i}
def No{P:Program}{kZ:List (List Dl)}{G:List (List qZ)}{B:mD}{loops:List (Nat×Nat×fo)}{M:zy}{kW:Bool}{A:Bk}{z:aw}{D:b9}{R:Ending->World->Prop}{Q:Exit->Act->World->Prop}
  (y:i7 P (look kZ))(w:DR (λg _=>u6 P g) 0 G=J)(v:x.all (u6 P)=J)(u:P.follows .mixedOrders=J)(t:∀F W X o,b.heap.size<=X->R (.panicked F) W->R (.panicked F) (W.putObj X o))(s:∀V∈M,mc P (look kZ) V.1 V.2.1 V.2.2.1 V.2.2.2.1 V.2.2.2.2):jr ⟨P,look kZ,z,b,D,R,Q⟩ (oY P kZ G B x loops M kW A):=by
 refine⟨rfl,u,y,λf g e m l h=> ?_,λg N=> ?_,t,λg c k j h=> ?_⟩;simp only[oY] at h;cases O:M.find? (λV=>V.1==f&&V.2.1==g) with
 |none=>rw[O] at h;cases h
 |some V=>
  rw[O] at h;simp only[dV,cG] at h;have L:=Qc O;simp only[az,dv] at L;have:=s V (P1 O);rw[L.1,L.2,h] at this;exact this
 rcases N with N|N;obtain⟨i,r⟩:=kD.1 N;exact u7 (aiD w r);obtain⟨V,H⟩:=kD.1 N;simp only[oY,Y3] at H;split at H;rename_i q;exact u7 (fp.1 v g (pz.1 q));cases H;simp only[oY,Y3] at h;split at h;split at h;rename_i p O;split at h;rename_i d n;cases h;exact⟨p,O,n,rfl,rfl⟩;cases h;cases h;cases h
section
inductive dA:RV->RV->Prop where
 |sl (A A':Option Addr) (len cap cap':Nat) (rows aE:List (List RV)) (h1:Y rows=Y aE) (h2:∀(i:Nat)(row row':List RV),rows[i]?=U row->aE[i]?=U row'->Y row=Y row')
   (h3:∀(i j:Nat)(row row':List RV)(c c':RV),rows[i]?=U row->aE[i]?=U row'->row[j]?=U c->row'[j]?=U c'->dA c c'):dA (.mk (.slice A len cap) rows) (.mk (.slice A' len cap') aE)
 |val (v:Value) (rows:List (List RV)) (h:∀a l c,v≠ .slice a l c):dA (.mk v rows) (.mk v rows)
def JB:XV->XV->Prop
 |.i n,.i m=>n=m
 |.b x,.b y=>x=y
 |.r v,.r w=>dA v w
 |_,_=>False
def Ad:bn->bn->Prop
 |[],[]=>True
 |x::X,y::W=>JB x y/\Ad X W
 |_,_=>False
structure kK(O O':ak):Prop where
 i:O.i=O'.i
 b:O.b=O'.b
 len:Y O.r=Y O'.r
 r:∀(k:Nat)(v v':RV),O.r[k]?=U v->O'.r[k]?=U v'->dA v v'
def dA.refl:∀(v:RV),dA v v
 |.mk v V=>by
  by_cases h:∃a l c,v=.slice a l c;obtain⟨a,l,c,rfl⟩:=h;refine dA.sl a a l c c V V rfl (λi P O W X=>by rw[W] at X;cases X;rfl) (λi j P O x M W X R Q=> ?_);rw[W] at X;cases X;rw[R] at Q;cases Q;exact dA.refl x;exact dA.val v V (λa l c N=>h ⟨a,l,c,N⟩)
termination_by v=>SizeOf.sizeOf v
decreasing_by
 have L:=aDo (jm W);have H:=aDo (jm R);simp only[RV.mk.sizeOf_spec];omega
def dA.default:dA default default:=dA.refl _
def kK.rv{O X:ak}(h:kK O X)(k:Nat):dA (O.rv k) (X.rv k):=by
 unfold ak.rv;simp only[dB];cases W:O.r[k]? with
 |none=>
  have:X.r[k]?=none:=by rw[Be] at W⊢;have:=h.len;omega
  rw[this];exact dA.default
 |some v=>
  cases V:X.r[k]? with
  |none=>rw[Be] at V;have:=(bZ.1 W).1;have:=h.len;omega
  |some R=>exact h.r k v R W V
def dA.bQ{v N:RV}(h:dA v N)(i:Int)(j:Nat):dA (Y.bQ v.aj i j) (Y.bQ N.aj i j):=by
 cases h with
 |sl A G F D B R aE z L H=>
  simp only[Y.bQ,RV.jD,dB];cases W:R[i.toNat]? with
  |none=>
   have:aE[i.toNat]?=none:=by rw[Be] at W⊢;omega
   rw[this];exact dA.default
  |some V=>
   obtain⟨X,Q⟩:∃X,aE[i.toNat]?=U X:=by
    have:i.toNat<Y R:=(bZ.1 W).1;exact⟨aE[i.toNat],cK ae⟩
   rw[Q];simp only[oJ];have y:=L _ V X W Q;cases P:V[j]? with
   |none=>
    have:X[j]?=none:=by rw[Be] at P⊢;omega
    rw[this];exact dA.default
   |some c=>
    obtain⟨O,M⟩:∃O,X[j]?=U O:=by
     have:j<Y V:=(bZ.1 P).1;exact⟨X[j],cK ae⟩
    rw[M];exact H _ j V X c O W Q P M
 |val v R x=>exact dA.refl _
def dA.bS{v X:RV}(h:dA v X):Y.bS v.val=Y.bS X.val/\Y.jp v.val=Y.jp X.val/\lenOf v.val=lenOf X.val/\(∀i,kg v.val i=kg X.val i)/\(∀w,sy v.val w=sy X.val w)/\∀w,sy w v.val=sy w X.val:=by
 cases h with
 |sl A V R Q P W aE=>exact⟨rfl,rfl,rfl,λ_=>rfl,λ_=>rfl,λw=>by cases w<;>rfl⟩
 |val v W O=>exact⟨rfl,rfl,rfl,λ_=>rfl,λ_=>rfl,λ_=>rfl⟩
def dA.ee{v M:RV}(h:dA v M)(k:RK):dA (Y.ee k v) (Y.ee k M):=by
 cases h with
 |sl A X W V R Q aE P O N=>
  cases k with
  |sl e=>exact dA.sl A X W V R Q aE P O N
  |str=>exact dA.refl _
  |ai=>exact dA.sl A X W V R [] [] rfl (λi L H q=>by simp at q) (λi j L H c G q=>by simp at q)
  |own e=>exact dA.sl A X W V R Q aE P O N
  |ap=>exact dA.sl A X W V R Q aE P O N
  |mr F=>exact dA.sl A X W V R Q aE P O N
 |val v Q D=>exact dA.refl _
structure fA(rows aE:ax):Prop where
 len:Y rows=Y aE
 row:∀(i:Nat)(row row':aH),rows[i]?=U row->aE[i]?=U row'->Y row=Y row'
 cell:∀(i j:Nat)(row row':aH)(c c':RV),rows[i]?=U row->aE[i]?=U row'->row[j]?=U c->row'[j]?=U c'->dA c c'
def dA.JC{v R:RV}(h:dA v R):fA v.aj R.aj:=by
 cases h with
 |sl A M L H G P aE W X V=>exact⟨W,X,V⟩
 |val v P F=>exact⟨rfl,λi O N W X=>by rw[W] at X;cases X;rfl,λi j O N c D W X V Q=>by rw[W] at X;cases X;rw[V] at Q;cases Q;exact dA.refl _⟩
def nP(X W:aH):Prop:=Y X=Y W/\∀(j:Nat)(c V:RV),X[j]?=U c->W[j]?=U V->dA c V
def fA.cons{r X:aH}{O N:ax}(h:fA (r::O) (X::N)):nP r X/\fA O N:=
 ⟨⟨h.row 0 r X rfl rfl,λj c W=>h.cell 0 j r X c W rfl rfl⟩,by simpa using h.len,λi V R Q P=>h.row (i+1) V R (by simpa using Q) (by simpa using P),λi j V R c W Q P=>h.cell (i+1) j V R c W (by simpa using Q) (by simpa using P)⟩
def fA.DS{r Q:aH}{P O:ax}(h:nP r Q)(k:fA P O):fA (r::P) (Q::O):=by
 refine⟨by simp[k.len],λi V R X W=> ?_,λi j V R c N X W=> ?_⟩;cases i with
 |zero=>simp at X W;subst X W;exact h.1
 |succ i=>exact k.row i V R (by simpa using X) (by simpa using W)
 cases i with
 |zero=>simp at X W;subst X W;exact h.2 j c N
 |succ i=>exact k.cell i j V R c N (by simpa using X) (by simpa using W)
def nP.getD{W X:aH}(h:nP W X)(j:Nat):dA (W.getD j Inhabited.default) (X.getD j Inhabited.default):=by
 simp only[dB];cases V:W[j]? with
 |none=>
  have:X[j]?=none:=by rw[Be] at V⊢;have:=h.1;omega
  rw[this];exact dA.refl _
 |some c=>
  obtain⟨R,Q⟩:∃R,X[j]?=U R:=by
   have:j<Y W:=(bZ.1 V).1;exact⟨X[j]'(by have:=h.1;omega),cK _⟩
  rw[Q];exact h.2 j c R V Q
def nP.ints{W X:aH}(h:nP W X)(n:Nat):(W.take n).map (λc=>Y.bS c.val)=(X.take n).map λc=>Y.bS c.val:=by
 apply ke;intro j;simp only[dN,mB];split;cases V:W[j]? with
 |none=>
  have:X[j]?=none:=by rw[Be] at V⊢;have:=h.1;omega
  rw[this]
 |some c=>
  obtain⟨R,Q⟩:∃R,X[j]?=U R:=by
   have:j<Y W:=(bZ.1 V).1;exact⟨X[j]'(by have:=h.1;omega),cK _⟩
  rw[Q];simp only[dV,(h.2 j c R V Q).bS.1]
 rfl
def nP.kY{X W:aH}(h:nP X W)(n:Nat)(V:bq):Y.kY n V X=Y.kY n V W:=by
 simp only[Y.kY,h.ints n]
def R9{n:Nat}{ks:bq}:∀{X aE:ax},fA X aE->(iE n ks X=Z/\iE n ks aE=Z)\/∃W V,iE n ks X=U W/\iE n ks aE=U V/\nP W V
 |[],[],_=>.inl ⟨rfl,rfl⟩
 |[],_::_,h=>by have:=h.len;simp at this
 |_::_,[],h=>by have:=h.len;simp at this
 |r::O,Q::N,h=>by
  obtain⟨R,P⟩:=h.cons;simp only[iE,H8,<-R.kY n ks];cases Y.kY n ks r with
  |true=>exact .inr ⟨r,Q,rfl,rfl,R⟩
  |false=>exact R9 P
def aiE{n:Nat}{X W:aH}(h:nP X W):∀{V aE:ax},fA V aE->fA (iF n X V) (iF n W aE)
 |[],[],k=>fA.DS h k
 |[],_::_,k=>by have:=k.len;simp at this
 |_::_,[],k=>by have:=k.len;simp at this
 |r::P,O::N,k=>by
  obtain⟨R,Q⟩:=k.cons;simp only[iF,h.ints n,<-R.kY n];split;exact fA.DS h Q;exact fA.DS R (aiE h Q)
mutual
def K.dC{O X:ak}(h:kK O X):∀e:K,e.ah O=e.ah X
 |.c n=>rfl
 |.v k=>by simp only[K.ah,h.i]
 |.bin o k a b=>by simp only[K.ah,K.dC h a,K.dC h b]
 |.conv k a=>by simp only[K.ah,K.dC h a]
 |.len r=>by simp only[K.ah];exact(RE.dC h r).bS.2.2.1
 |.mm m a b=>by simp only[K.ah,K.dC h a,K.dC h b]
 |.dg b x y=>by simp only[K.ah,BE.dC h b,K.dC h x,K.dC h y]
 |.cell r i j=>by simp only[K.ah,K.dC h i];exact((RE.dC h r).bQ _ j).bS.1
 |.mV r i=>by simp only[K.ah,K.dC h i];exact(RE.dC h r).bS.2.2.2.1 _
 |.look r n a b c j=>by
  simp only[K.ah,K.dC h a,K.dC h b,K.dC h c];rcases R9 (n:=n) (ks:=[a.ah X,b.ah X,c.ah X]) (RE.dC h r).JC with⟨W,V⟩|⟨Q,P,W,V,R⟩;rw[W,V];rw[W,V];exact(R.getD j).bS.1
def BE.dC{O X:ak}(h:kK O X):∀e:BE,e.ah O=e.ah X
 |.c n=>rfl
 |.v k=>by simp only[BE.ah,h.b]
 |.cmp o a b=>by simp only[BE.ah,K.dC h a,K.dC h b]
 |.not a=>by simp only[BE.ah,BE.dC h a]
 |.and a b=>by simp only[BE.ah,BE.dC h a,BE.dC h b]
 |.beq a b=>by simp only[BE.ah,BE.dC h a,BE.dC h b]
 |.dg b x y=>by simp only[BE.ah,BE.dC h b,BE.dC h x,BE.dC h y]
 |.cell r i j=>by simp only[BE.ah,K.dC h i];exact((RE.dC h r).bQ _ j).bS.2.1
 |.seq a b=>by simp only[BE.ah];rw[(RE.dC h a).bS.2.2.2.2.1,(RE.dC h b).bS.2.2.2.2.2]
 |.look r n a b c j=>by
  simp only[BE.ah,K.dC h a,K.dC h b,K.dC h c];rcases R9 (n:=n) (ks:=[a.ah X,b.ah X,c.ah X]) (RE.dC h r).JC with⟨W,V⟩|⟨Q,P,W,V,R⟩;rw[W,V];rw[W,V];exact(R.getD j).bS.2.1
 |.has r n a b c=>by
  simp only[BE.ah,K.dC h a,K.dC h b,K.dC h c];rcases R9 (n:=n) (ks:=[a.ah X,b.ah X,c.ah X]) (RE.dC h r).JC with⟨W,V⟩|⟨Q,P,W,V,R⟩;rw[W,V];rw[W,V];rfl
def RE.dC{O X:ak}(h:kK O X):∀r:RE,dA (r.rv O) (r.rv X)
 |.v k=>by simp only[RE.rv];exact h.rv k
 |.cell r i j k=>by simp only[RE.rv,K.dC h i];exact((RE.dC h r).bQ _ j).ee k
 |.k v=>by simp only[RE.rv];exact dA.refl _
end
def C.atZ{X:ak}(h:kK N X)(v:C):JB (v.xv N) (v.xv X):=by
 cases v<;>simp only[C.xv,JB];exact K.dC h _;exact BE.dC h _;exact RE.dC h _
def C.at0{X:ak}(h:kK N X)(v:C):dA (v.cj N) (v.cj X):=by
 cases v<;>simp only[C.cj];rw[K.dC h];exact dA.refl _;rw[BE.dC h];exact dA.refl _;exact RE.dC h _
 all_goals exact dA.refl _
def fA.of{R aE:ax}(O:Y R=Y aE)(h:∀(i:Nat)(X W:aH),R[i]?=U X->aE[i]?=U W->Y X=Y W/\∀(j:Nat)(c V:RV),X[j]?=U c->W[j]?=U V->dA c V):fA R aE:=
 ⟨O,λi X W Q P=>(h i X W Q P).1,λi j X W c V Q P=>(h i X W Q P).2 j c V⟩
def Sa{V:ak}(h:kK N V)(l:av):(l.map (C.cj N)).length=(l.map (C.cj V)).length/\∀(j:Nat)(c R:RV),(l.map (C.cj N))[j]?=U c->(l.map (C.cj V))[j]?=U R->dA c R:=by
 refine⟨ay,λj c R X W=> ?_⟩;rw[dN] at X W;cases Q:l[j]? with
 |none=>rw[Q] at X;cases X
 |some v=>
  rw[Q] at X W;simp only[dV,cG] at X W;rw[<-X,<-W];exact C.at0 h v
def aiF:∀{O N R Q:aH}{P:Nat},Y O=Y N->(∀(j:Nat)(c X:RV),O[j]?=U c->N[j]?=U X->dA c X)->Y R=Y Q->(∀(j:Nat)(c X:RV),R[j]?=U c->Q[j]?=U X->dA c X)->
  (fJ R P O).length=(fJ Q P N).length/\∀(j:Nat)(c X:RV),(fJ R P O)[j]?=U c->(fJ Q P N)[j]?=U X->dA c X
 |[],[],R,Q,P,_,_,M,L=>⟨M,L⟩
 |[],_::_,_,_,_,h,_,_,_=>by simp at h
 |_::_,[],_,_,_,h,_,_,_=>by simp at h
 |v::O,D::N,R,Q,P,F,G,M,L=>by
  simp only[fJ];refine aiF (by simpa using F) (λj c X V W=>G (j+1) c X (by simpa using V) (by simpa using W)) (by simp[M]) (λj c X V W=> ?_);rw[uL] at V W;split at V;rename_i H;rw[aI H] at W;split at V;split at W;cases V;cases W;exact G 0 _ _ rfl rfl;cases W;cases V;rename_i H;rw[aK H] at W;exact L j c X V W
def LE.dC{O D:ak}(h:kK O D):∀x:LE,fA (x.aj O) (x.aj D)
 |.am r=>(RE.dC h r).JC
 |.lit l=>by
  simp only[LE.aj];refine fA.of ay (λi R Q X W=> ?_);rw[dN] at X W;cases B:l[i]? with
  |none=>rw[B] at X;cases X
  |some v=>
   rw[B] at X W;simp only[dV,cG] at X W;rw[<-X,<-W];exact Sa h v
 |.mW a b=>by
  simp only[LE.aj];have V:=LE.dC h a;have H:=LE.dC h b;refine fA.of (by simp[V.len,H.len]) (λi R Q X W=> ?_);by_cases L:i<(a.aj O).length;rw[dU L] at X;rw[dU (by rw[<-V.len];exact L)] at W;exact⟨V.row i R Q X W,λj c P=>V.cell i j R Q c P X W⟩;rw[iC ae] at X;rw[iC (by rw[<-V.len];omega),<-V.len] at W;exact⟨H.row _ R Q X W,λj c P=>H.cell _ j R Q c P X W⟩
 |.uP n R=>by
  simp only[LE.aj,K.dC h n];refine fA.of ay (λi r u X W=> ?_);rw[E9] at X W;split at X;rename_i L;rw[aI L] at W;cases X;cases W;exact Sa h R;cases X
 |.set a i t G=>by
  simp only[LE.aj,K.dC h i];have V:=LE.dC h a;have A:=Sa h G;refine fA.of (by simp[V.len]) (λs R Q X W=> ?_);rcases I6 X with⟨rfl,z,N,rfl⟩|⟨F,N⟩;rcases I6 W with⟨_,y,M,rfl⟩|⟨F,_⟩;exact aiF A.1 A.2 (V.row _ z y N M) (λj c P=>V.cell _ j z y c P N M);exact aY rfl F;rcases I6 W with⟨rfl,_⟩|⟨_,M⟩;exact aY rfl F;exact⟨V.row _ R Q N M,λj c P=>V.cell _ j R Q c P N M⟩
 |.sub a w L=>by
  simp only[LE.aj,K.dC h w,K.dC h L];have V:=LE.dC h a;refine fA.of (by simp[V.len]) (λi R Q X W=> ?_);have N:=(MS X).1;have M:=(MS W).1;exact⟨V.row _ R Q N M,λj c P=>V.cell _ j R Q c P N M⟩
 |.ins a n G=>by
  simp only[LE.aj];exact aiE (Sa h G) (LE.dC h a)
def aiG{W:ak}(h:kK N W)(x:LE){A:nG}:dA (iq x N) (.mk (.slice A (x.aj W).length y) (x.aj W)):=by
 have X:=LE.dC h x;unfold iq;rw[X.len];exact dA.sl _ _ _ _ _ _ _ X.len X.row X.cell
def kK.add{O R:ak}(h:kK O R){x y:XV}(V:JB x y):kK (O.add x) (R.add y):=by
 cases x<;>cases y<;>simp only[JB] at V;subst V;exact⟨by simp[ak.add,h.i],h.b,h.len,h.r⟩;subst V;exact⟨h.i,by simp[ak.add,h.b],h.len,h.r⟩;refine⟨h.i,h.b,by simp[ak.add,h.len],λk v P X W=> ?_⟩;simp only[ak.add] at X W;by_cases Q:k<Y O.r;rw[dU Q] at X;rw[dU (by rw[<-h.len];exact Q)] at W;exact h.r k v P X W;have N:k=Y O.r:=by
  have:=(bZ.1 X).1;simp at this;omega
 subst N;simp at X;rw[h.len] at W;simp at W;subst X W;exact V
def kK.ext:∀{W V:bn}{O R:ak},kK O R->Ad W V->kK (O.ext W) (R.ext V)
 |[],[],_,_,h,_=>h
 |[],_::_,_,_,_,X=>X.elim
 |_::_,[],_,_,_,X=>X.elim
 |x::W,y::V,_,_,h,X=>(h.add X.1).ext X.2
inductive bo where
 |ret (xs:List XV)
 |bI (v:Value)
abbrev j5:=Option bo
abbrev mK:=FuncId->bn->j5
def Y4:LK->XV->Bool
 |.int _,.i _=>J
 |.bool,.b _=>J
 |.am _,.r _=>J
 |_,_=>E
def mL:aQ->bn->Bool
 |[],[]=>J
 |k::X,x::W=>Y4 k x&&mL X W
 |_,_=>E
def DT(X:Ty)(W:bp):LK->C->Bool
 |.int k,.int V _=>decide (k=V)
 |.bool,.bool _=>J
 |.am e,.am r=>match e with
  |.mr R=>r.qh X ⟨[],[],0,0,W,0,0,[]⟩ R
  |e=>r.fits X ⟨[],[],0,0,W,0,0,[]⟩ e.rd
 |_,_=>E
def km(X:Ty)(W:bp):aQ->av->Bool
 |[],[]=>J
 |k::V,v::R=>DT X W k v&&km X W V R
 |_,_=>E
def jQ(W:Ty):jC->av->Fq
 |[],[]=>U []
 |t::V,v::R=>match W t,jQ W V R with
  |U X,U r=>if X.d.isAgg then(match v with
    |.agg l=>if Y l==Y X.ao then U (l++r) else Z
    |_=>Z) else(if Y X.ao==1 then U (v::r) else Z)
  |_,_=>Z
 |_,_=>Z
def yw(n:Nat):C->av
 |.bP l=>if n==1 then[.bP l] else l
 |v=>[v]
def Gq(O:ak):C->Option Value
 |.gJ t (.int k e)=>U (.iface t (.int k (e.ah O)))
 |_=>Z
structure Fr where
 aA:Nat
 ks:aQ
 t:T
 O:ak
 rs:bp
def Gr(aA:Nat):List Fr->Option (Fr×List Fr)
 |[]=>Z
 |x::X=>if x.aA=aA then U (x,X) else Gr aA X
def ju:aQ->bp
 |[]=>[]
 |.am e::X=>e::ju X
 |_::X=>ju X
def rp:Nat->Nat->Nat->aQ->av->Bool
 |_,_,_,[],[]=>J
 |a,b,c,.int k::X,.int W (.v n)::l=>decide (k=W)&&n==a&&rp (a+1) b c X l
 |a,b,c,.bool::X,.bool (.v n)::l=>n==b&&rp a (b+1) c X l
 |a,b,c,.am _::X,.am (.v n)::l=>n==c&&rp a b (c+1) X l
 |_,_,_,_,_=>E
def Sb:RK->RK->Bool
 |_,.ap=>J
 |.own t,.sl X=>decide (t=X)
 |.sl t,.sl X=>decide (t=X)
 |.str,.str=>J
 |.ai,.ai=>J
 |.mr a,.mr b=>decide (a=b)
 |_,_=>E
def B6:bp->bp->Bool
 |[],[]=>J
 |x::X,y::W=>Sb x y&&B6 X W
 |_,_=>E
def aiH:RK->RK->Bool
 |.own t,.own X=>decide (t=X)
 |x,y=>Sb x y
def B7:bp->bp->Bool
 |[],[]=>J
 |x::X,y::W=>aiH x y&&B7 X W
 |_,_=>E
def Y5(X:Ty)(W:jC)(v:C)(R:bp)(O:ak):j5:=match jQ X W (yw (Y W) v),ip X W with
 |U l,U V=>if km X R V l&&pF V then U (.ret (l.map (C.xv O))) else Z
 |_,_=>Z
def Y6(X:Ty)(P N:FuncId->qZ)(f:FuncId)(M:av)(L:bp)(V:aQ)(jf:C)(O:ak):Option bn:=match P f,N f with
 |U R,U W=>match jQ X R M,ip X R,ip X W,jQ X W (yw (Y W) jf) with
  |U l,U Q,U H,U r=>if km X L Q l&&pF Q&&decide (H=V)&&rp (Y O.i) (Y O.b) (Y O.r) V r then U (l.map (C.xv O)) else Z
  |_,_,_,_=>Z
 |_,_=>Z
def Y7(X:bp)(r:RE)(e:TypeId):Bool:=match r with
 |.v k=>decide (X[k]?=U (.own e))
 |.k (.slice Z 0 0)=>J
 |_=>E
def Y8:RK->Bool
 |.mr _=>J
 |_=>E
def nP.key{x y:aH}(h:nP x y)(c:Nat):aN c x=aN c y:=(h.getD c).bS.1
def aiI{d:Bool}{x W y V:aH}(R:nP x W)(Q:nP y V):∀X:aw,jq d X x y=jq d X W V
 |[]=>rfl
 |c::X=>by simp only[jq,R.key,Q.key,aiI R Q X]
def Y9{X:bm}{x W y V:aH}(R:nP x W)(Q:nP y V):X.lt x y=X.lt W V:=by
 cases X with
 |lex P d=>exact aiI R Q P
 |ratio n d=>simp only[bm.lt,R.key,Q.key]
 |dh k o O=>rfl
def at1{X:bm}{x W:aH}(V:nP x W):X.ok x=X.ok W:=by
 cases X with
 |lex R d=>rfl
 |ratio n d=>simp only[bm.ok,V.key]
 |dh k o Q=>rfl
def fA.Sc{r:ax}(h:fA [] r):r=[]:=by cases r with
 |nil=>rfl
 |cons x X=>have:=h.len;simp at this
def aiJ{V:bm}{x R:aH}(X:nP x R):∀{l W:ax},fA l W->fA (ef V.lt x l) (ef V.lt R W)
 |[],W,h=>by have P:=h.Sc;subst P;exact fA.DS X h
 |y::l,[],h=>by have:=h.len;simp at this
 |y::l,N::W,h=>by
  obtain⟨Q,O⟩:=h.cons;simp only[ef,Y9 X Q];split;exact fA.DS X h;exact fA.DS Q (aiJ X O)
def aiK{R:bm}:∀{l W:ax}{acc X:ax},fA l W->fA acc X->fA (l.foldl (λacc x=>ef R.lt x acc) acc) (W.foldl (λacc x=>ef R.lt x acc) X)
 |[],W,acc,X,h,V=>by rw[h.Sc];exact V
 |y::l,[],acc,X,h,V=>by have:=h.len;simp at this
 |y::l,O::W,acc,X,h,V=>by
  obtain⟨Q,P⟩:=h.cons;simp only[Dg];exact aiK P (aiJ Q V)
def Za{f g:aH->Bool}:∀{l X:ax},(∀x W,nP x W->f x=g W)->fA l X->l.all f=X.all g
 |[],X,_,h=>by rw[h.Sc];rfl
 |y::l,[],_,h=>by have:=h.len;simp at this
 |y::l,P::X,V,h=>by
  obtain⟨R,Q⟩:=h.cons;simp only[LU,V _ _ R,Za V Q]
def aiL{X:bm}:∀{l W:ax},fA l W->wF X.lt l=wF X.lt W
 |[],W,h=>by rw[h.Sc]
 |y::l,[],h=>by have:=h.len;simp at this
 |y::l,V::W,h=>by
  obtain⟨R,Q⟩:=h.cons;have O:(l.all λz=>X.lt y z||X.lt z y)=W.all λz=>X.lt V z||X.lt z V:=Za (λx N P=>by rw[Y9 R P,Y9 P R]) Q
  simp only[wF,aiL Q,O]
def aiM{sp:bm}{V:Bool}{l R r:ax}(h:fA l R)(X:iQ sp V l=U r):∃Q,iQ sp V R=U Q/\fA r Q:=by
 cases sp with
 |dh k o L=>simp[iQ] at X
 |_=>
  simp only[iQ] at X⊢;rw[Za (λx H P=>at1 P) h,aiL h,h.len] at X;split at X;rename_i O;cases X;rw[aI O];exact⟨_,rfl,aiK h ⟨rfl,λi N M W=>by simp at W,λi j N M c G W=>by simp at W⟩⟩;cases X
def fA.getD{l X:ax}(h:fA l X)(i:Nat):nP (l.getD i []) (X.getD i []):=by
 simp only[dB];cases V:l[i]? with
 |none=>
  have:X[i]?=none:=by rw[Be] at V⊢;have:=h.len;omega
  rw[this];exact⟨rfl,λj c W R=>by simp at R⟩
 |some c=>
  obtain⟨W,Q⟩:∃W,X[i]?=U W:=by
   have:i<Y l:=(bZ.1 V).1;exact⟨X[i]'(by have:=h.len;omega),cK _⟩
  rw[Q];exact⟨h.row i c W V Q,λj x P R O=>h.cell i j c W x P V Q R O⟩
def fA.set{x X:aH}(W:nP x X):∀{l V:ax}(_:fA l V)(i:Nat),fA (l.set i x) (V.set i X)
 |[],[],h,_=>h
 |[],_::_,h,_=>by have:=h.len;simp at this
 |_::_,[],h,_=>by have:=h.len;simp at this
 |r::R,Q::P,h,0=>fA.DS W h.cons.2
 |r::R,Q::P,h,i+1=>fA.DS h.cons.1 (fA.set W h.cons.2 i)
def Zb{l X:ax}(h:fA l X):∀(n:Nat)(i:Int),fA (qo n i l) (qo n i X)
 |0,_=>h
 |n+1,i=>by
  simp only[qo,<-(h.getD i.toNat).key 0];split;exact h;exact fA.set ((Zb h n _).getD _) (Zb h n _) _
def at2{l X:ax}(h:fA l X):lD l=lD X:=by
 have e:(λk=>decide (0<=aN 0 (l.getD k []))&&decide (aN 0 (l.getD k [])<=k))=λk:Nat=>decide (0<=aN 0 (X.getD k []))&&decide (aN 0 (X.getD k [])<=k):=by
  funext k;rw[(h.getD k).key 0]
 unfold lD;rw[e,h.len]
def at3{R:ak}(Q:kK N R)(W:bm)(V:Bool)(l:ax):nf N W V l=nf R W V l:=by
 cases W with
 |lex P d=>rfl
 |ratio n d=>rfl
 |dh k o X=>
  cases V with
  |false=>rfl
  |true=>
   cases X with
   |nil=>rfl
   |cons i X=>
    cases X with
    |nil=>simp only[nf,K.dC Q i]
    |cons j X=>rfl
def aiN{Q:ak}(L:kK N Q){V:bm}{R:Bool}{l P r:ax}(h:fA l P)(X:nf N V R l=U r):∃M,nf Q V R P=U M/\fA r M:=by
 cases V with
 |lex H d=>exact aiM (sp:=.lex H d) h X
 |ratio n d=>exact aiM (sp:=.ratio n d) h X
 |dh k o W=>
  cases R with
  |false=>simp[nf] at X
  |true=>
   cases W with
   |nil=>simp[nf] at X
   |cons i W=>
    cases W with
    |nil=>
     simp only[nf,uW] at X⊢;rw[h.len,at2 h,K.dC L i] at X;split at X;rename_i G;cases X;rw[aI G];exact⟨_,rfl,Zb h _ _⟩;cases X
    |cons j W=>simp[nf] at X
def dA.dO{a b:RV}(h:dA a b){L:ak}(H:kK N L){W:bm}{V:Bool}{R Q:ax}(X:nf N W V a.aj=U R)(P:nf L W V b.aj=U Q):dA (.mk a.val R) (.mk b.val Q):=by
 obtain⟨x,G,M⟩:=aiN H h.JC X;rw[P] at G;cases G;cases h with
 |sl A F D B z y aE w u t=>exact dA.sl A F D B z R Q M.len M.row M.cell
 |val v y s=>
  rw[RV.jD] at X P;rw[at3 H W V,P] at X;cases X;exact dA.refl _
def at4{R:Ty}{X:RV}{V:ax}(W:dR R (.own g) (.mk X.val V) y)(Q:∀x∈V,x∈X.aj):dR R (.own g) X y:=by
 obtain⟨v,P⟩:=X;simp only[RV.mH,RV.jD] at W Q;cases W with
 |own g X y W=>
  refine dR.own g _ y ?_;generalize O:RV.mk v V=X at W;cases W with
  |here g a N M aE=>cases O;exact dR.here g a N M P
  |deep g w aE i j L c z k y H G F D=>
   cases O;obtain⟨B,A⟩:=qW (Q _ (jm H));exact dR.deep g v P B j L c z k y A G F D
mutual
def Sd:RV->RV->Bool
 |.mk v X,.mk W aE=>(match v,W with
  |.int k a,.int V b=>decide (k=V)&&a==b
  |.bool a,.bool b=>a==b
  |.string a,.string b=>decide (a=b)
  |.slice Z a b,.slice Z c d=>a==c&&b==d
  |_,_=>E)&&JD X aE
def JD:ax->ax->Bool
 |[],[]=>J
 |r::X,W::V=>JE r W&&JD X V
 |_,_=>E
def JE:aH->aH->Bool
 |[],[]=>J
 |c::X,W::V=>Sd c W&&JE X V
 |_,_=>E
end
def Np:XV->XV->Bool
 |.i a,.i b=>a==b
 |.b a,.b b=>a==b
 |.r a,.r b=>Sd a b
 |_,_=>E
def Nq:bn->bn->Bool
 |[],[]=>J
 |x::X,y::W=>Np x y&&Nq X W
 |_,_=>E
def aiO:Value->Value->Bool
 |.iface t (.int k a),.iface X (.int W b)=>t==X&&decide (k=W)&&a==b
 |_,_=>E
def Se:bo->bo->Bool
 |.ret a,.ret b=>Nq a b
 |.bI a,.bI b=>aiO a b
 |_,_=>E
mutual
def aiP:∀(a b:RV),Sd a b=J->a=b
 |.mk v X,.mk R aE,h=>by
  simp only[Sd,az] at h;have W:=aiQ X aE h.2;subst W;congr 1;have V:=h.1;split at V<;>simp_all
def aiQ:∀(a b:ax),JD a b=J->a=b
 |[],[],_=>rfl
 |[],_::_,h=>by simp[JD] at h
 |_::_,[],h=>by simp[JD] at h
 |r::X,W::V,h=>by
  simp only[JD,az] at h;rw[aiR r W h.1,aiQ X V h.2]
def aiR:∀(a b:aH),JE a b=J->a=b
 |[],[],_=>rfl
 |[],_::_,h=>by simp[JE] at h
 |_::_,[],h=>by simp[JE] at h
 |r::X,W::V,h=>by
  simp only[JE,az] at h;rw[aiP r W h.1,aiR X V h.2]
end
def at5:∀(a b:XV),Np a b=J->a=b
 |.i a,b,h=>by cases b<;>simp[Np] at h;rw[h]
 |.b a,b,h=>by cases b<;>simp[Np] at h;rw[h]
 |.r a,b,h=>by cases b<;>simp[Np] at h;rw[aiP _ _ h]
def aiS:∀(a b:bn),Nq a b=J->a=b
 |[],b,h=>by cases b<;>simp[Nq] at h;rfl
 |x::X,b,h=>by cases b<;>simp[Nq] at h;rw[at5 _ _ h.1,aiS _ _ h.2]
def at6:∀(a b:bo),Se a b=J->a=b
 |.ret a,b,h=>by cases b<;>simp[Se] at h;rw[aiS _ _ h]
 |.bI a,b,h=>by
  cases b<;>simp[Se] at h;rename_i v;unfold aiO at h;split at h;simp only[az,dv,cF] at h;obtain⟨⟨rfl,rfl⟩,rfl⟩:=h;rfl;cases h
open Classical in
def B8(a b:bo):Bool:=Se a b||decide (a=b)
def at7(o:bo):B8 o o=true:=by simp[B8]
def at8(a b:bo)(h:B8 a b=J):a=b:=by
 simp only[B8,jd,cF] at h;exact h.elim (at6 a b) id
def Ae:j5->j5->j5
 |U a,U b=>if B8 a b then U a else Z
 |_,_=>Z
def tZ:List j5->j5
 |[]=>Z
 |[o]=>o
 |o::X=>Ae o (tZ X)
def Sf{a b:j5}{o:bo}(h:Ae a b=U o):a=U o/\b=U o:=by
 unfold Ae at h;split at h;split at h;rename_i x y X;cases h;rw[at8 _ _ X];exact⟨rfl,rfl⟩;cases h;cases h
def Sg:∀{l:List j5}{o:bo},tZ l=U o->∀x∈l,x=U o
 |[],o,h=>by simp[tZ] at h
 |[x],o,h=>by simp only[tZ] at h;intro y W;simp at W;rw[W];exact h
 |x::y::r,o,h=>by
  simp only[tZ] at h;obtain⟨V,R⟩:=Sf h;intro z X;rcases dP.1 X with rfl|X;exact V;exact Sg (l:=y::r) R z X
def aiT{a b X W:j5}{o:bo}(h:Ae a b=U o)(Q:a=U o->X=U o)(P:b=U o->W=U o):Ae X W=U o:=by
 obtain⟨V,R⟩:=Sf h;rw[V,R] at h;rw[Q V,P R];exact h
def aiU{X:Type}{l:List X}{f g:X->j5}{o:bo}(h:tZ (l.map f)=U o)(V:∀x∈l,f x=U o->g x=U o):tZ (l.map g)=U o:=by
 rw[<-h];congr 1;refine kb λx W=> ?_
 have:=Sg h (f x) (hJ.2 ⟨x,W,rfl⟩);rw[this,V x W this]
def wN(m:K)(g h:BE)(O:ak):List (Option Int):=(((fU (m.ah O).toNat).map λ(j:Nat)=>(j:Int)).filter λj=>g.ah (O.add (.i j))).map U++(if h.ah O then[Z] else[])
def at9{m:K}{g h:BE}{j:Int}(W:0<=j)(V:j<m.ah N)(X:g.ah (N.add (.i j))=J):U j∈wN m g h N:=by
 simp only[wN,eP,hJ,pB,zv];exact .inl ⟨j,⟨⟨j.toNat,ae,ae⟩,X⟩,rfl⟩
def aua{m:K}{g h:BE}(X:h.ah N=J):Z∈wN m g h N:=by
 simp[wN,X]
def run(V:Ty)(R Q:FuncId->qZ)(bA:mK)(P:jC):Nat->T->ak->bp->List Fr->j5
 |0,_,_,_,_=>Z
 |n+1,.ret v _ N,O,X,_=>if B6 X N then Y5 V P v N O else Z
 |n+1,.bI v,O,_,_=>(Gq O v).map .bI
 |n+1,.aW b t f,O,X,W=>if b.ah O then run V R Q bA P n t O X W else run V R Q bA P n f O X W
 |n+1,.bz b t,O,X,W=>if b.ah O then run V R Q bA P n t O X W else Z
 |n+1,.call f F _ N M jf t,O,X,W=>if B6 X N then(match Y6 V R Q f F N M jf O with
   |U D=>match bA f D with
    |U (.ret H)=>if mL M H then run V R Q bA P n t (O.ext H) (X++ju M) W else Z
    |U (.bI v)=>U (.bI v)
    |none=>Z
   |none=>Z) else Z
 |n+1,.loop aA M G t,O,X,W=>if km V X M G then run V R Q bA P n t (O.ext (G.map (C.xv O))) (X++ju M) (⟨aA,M,t,O,X++ju M⟩::W) else Z
 |n+1,.back aA x,O,X,W=>match Gr aA W with
  |U (L,B)=>if km V X L.ks x then run V R Q bA P n L.t (L.O.ext (x.map (C.xv O))) L.rs (L::B) else Z
  |none=>Z
 |n+1,.aj k x _ t,O,X,W=>if Y8 k then run V R Q bA P n t (O.add (.r (iq x O))) (X++[k]) W else Z
 |n+1,.gE g h t f,O,X,W=>if g.ah O then(if h.ah O then Ae (run V R Q bA P n t O X W) (run V R Q bA P n f O X W) else run V R Q bA P n t O X W) else(if h.ah O then run V R Q bA P n f O X W else Z)
 |n+1,.pick m g h t f,O,X,W=>tZ ((wN m g h O).map λj=>match j with
  |U j=>run V R Q bA P n t (O.add (.i j)) X W
  |none=>run V R Q bA P n f O X W)
 |n+1,.dO _ _ e A z r N t,O,X,W=>if B7 X N&&Y7 X r e then(match nf O A z (r.rv O).aj with
  |U y=>run V R Q bA P n t (O.add (.r (.mk (r.rv O).val y))) (X++[.own e]) W
  |none=>Z) else Z
 |n+1,.new e x N _ t,O,X,W=>if B7 X N then run V R Q bA P n t (O.add (.r (iq x O))) (X++[.own e]) W else Z
 |_,_,_,_,_=>Z
end
def Nr{X:World}(h:ij [] b X):Below b.heap.size b X:=⟨h.os,h.tape,h.output,h.size,λk W=>h.block k W ay⟩
def aub{X c:World}(h:Below b.heap.size b X)(k:Below X.heap.size X c):Below b.heap.size b c:=h.trans (k.mono h.size)
def oZ:aQ->bn->gc
 |k::X,x::W=>x.at k::oZ X W
 |_,_=>[]
def u9(u:Ty):jC->gc->gc
 |[],_=>[]
 |t::W,l=>match u t with
  |U X=>(if X.d.isAgg then .agg (l.take (Y X.ao)).toArray else l.getD 0 undef)::u9 u W (l.drop (Y X.ao))
  |none=>[]
def Gs:gc->Value
 |[v]=>v
 |l=>.tuple l.toArray
def aiV{u:Ty}:∀{X:jC}{W l:av},jQ u X W=U l->Y X=Y W
 |[],[],l,_=>rfl
 |[],_::_,l,h=>by simp[jQ] at h
 |_::_,[],l,h=>by simp[jQ] at h
 |t::X,v::W,l,h=>by
  simp only[jQ] at h;split at h;rename_i R r Q V;simp[aiV V];cases h
def Si{u:Ty}{O:ak}{V:aw}:∀{W:jC}{R l:av},jQ u W R=U l->C.aF O V R=u9 u W (C.aF O V l)
 |[],[],l,_=>rfl
 |[],_::_,l,h=>by simp[jQ] at h
 |_::_,[],l,h=>by simp[jQ] at h
 |t::W,v::R,l,h=>by
  simp only[jQ] at h;split at h;rename_i H r M L;have N:=Si (O:=O) (V:=V) L;simp only[u9,M];split at h;rename_i Q;rw[aI Q];split at h;rename_i F;split at h;rename_i X;simp only[dv] at X;cases h;rw[QN,<-X,List.take_left' ay,Wq ay,<-N];simp only[C.aF,C.ah];cases h;cases h;rename_i Q;rw[aK Q];split at h;rename_i X;simp only[dv] at X;cases h;rw[X];simp only[C.aF,Ff,List.drop_succ_cons,aqE,<-N];cases h;cases h
def aiW{u:Ty}{R:jC}{X:C}(h:jQ u R (yw (Y R) X)=U v):X.ah N x=Gs (u9 u R (C.aF N x v)):=by
 have Q:=aiV h;rw[<-Si h];cases X
 case bP H=>
  simp only[yw] at Q⊢;by_cases M:Y R==1;simp[M,C.aF,Gs];simp only[M,ga,iW] at Q⊢;have L:Y H≠1:=by rw[<-Q];simpa using M
  match H,L with
  |[],_=>simp[C.aF,Gs,C.ah]
  |[W],L=>simp at L
  |W::y::z,_=>simp[C.aF,Gs,C.ah]
 all_goals simp[yw,C.aF,Gs]
def auc{u:Ty}{O:ak}{V:aw}{X:LK}{v:C}(h:DT u k X v=J):v.ah O V=(v.xv O).at X/\rj X (v.xv O):=by
 unfold DT at h;split at h;rename_i X W e;simp at h;subst h;exact⟨rfl,trivial⟩;exact⟨rfl,trivial⟩;exact⟨rfl,trivial⟩;cases h
def JF{u:Ty}{W:bp}{O:ak}{V:aw}:∀{X:aQ}{l:av},km u W X l=J->C.aF O V l=oZ X (l.map (C.xv O))/\ez X (l.map (C.xv O))
 |[],[],_=>⟨rfl,trivial⟩
 |[],_::_,h=>by simp[km] at h
 |_::_,[],h=>by simp[km] at h
 |k::X,v::l,h=>by
  simp only[km,az] at h;obtain⟨R,Q⟩:=auc (O:=O) (V:=V) h.1;obtain⟨N,M⟩:=JF (O:=O) (V:=V) h.2;exact⟨by simp only[C.aF,eE,oZ,R,N],Q,M⟩
def aud{W:aQ}{X:bn}(h:mL W X=J):ez W X:=by
 induction W generalizing X with
 |nil=>cases X with
  |nil=>trivial
  |cons=>simp[mL] at h
 |cons k W V=>cases X with
  |nil=>simp[mL] at h
  |cons x X=>
   simp only[mL,az] at h;refine⟨?_,V h.2⟩;cases k<;>cases x<;>first|trivial|simp[Y4] at h
def Sj:∀{X:aQ}{W V:bn},ez X V->Ad W V->ez X W
 |[],[],[],_,_=>trivial
 |[],_::_,[],_,h=>h.elim
 |[],_,_::_,h,_=>h.elim
 |_::_,_,[],h,_=>h.elim
 |_::_,[],_::_,_,h=>h.elim
 |k::X,x::W,y::V,h,R=>by
  refine⟨?_,Sj h.2 R.2⟩;have Q:=h.1;have O:=R.1;cases k<;>cases x<;>cases y<;>simp_all[rj,JB]
def Ns{O X:ak}(h:kK O X):∀l:av,Ad (l.map (C.xv O)) (l.map (C.xv X))
 |[]=>trivial
 |v::l=>⟨C.atZ h v,Ns h l⟩
def Nt{V:aw}:∀{R:aQ}{l:av}{X:bn}{O:ak}{a b c:Nat},rp a b c R l=J->ez R X->Y O.i=a->Y O.b=b->Y O.r=c->C.aF (O.ext X) V l=oZ R X
 |[],[],[],O,a,b,c,_,_,_,_,_=>rfl
 |[],[],_::_,O,a,b,c,_,h,_,_,_=>h.elim
 |[],_::_,X,O,a,b,c,h,_,_,_,_=>by simp[rp] at h
 |k::R,[],X,O,a,b,c,h,_,_,_,_=>by cases k<;>simp[rp] at h
 |_::_,_::_,[],O,a,b,c,_,h,_,_,_=>h.elim
 |k::R,v::l,x::X,O,a,b,c,h,B,Q,N,M=>by
  have H:=Dz X (O.add x);obtain⟨F,D⟩:=B;simp only[C.aF,ak.ext,oZ];unfold rp at h;split at h;rename_i W;cases W;rename_i W L;cases W;cases L;cases x<;>simp[rj] at F;simp only[az,cF,dv] at h;obtain⟨⟨rfl,rfl⟩,h⟩:=h;rw[Nt h D (by simp[ak.add,Q]) (by simp[ak.add,N]) (by simp[ak.add,M])];simp only[C.ah,K.ah,XV.at];rw[H.i _ (by simp[ak.add,Q])];simp[ak.add,<-Q];rename_i W L;cases W;cases L;cases x<;>simp[rj] at F;simp only[az,dv] at h;obtain⟨rfl,h⟩:=h;rw[Nt h D (by simp[ak.add,Q]) (by simp[ak.add,N]) (by simp[ak.add,M])];simp only[C.ah,BE.ah,XV.at];rw[H.b _ (by simp[ak.add,N])];simp[ak.add,<-N];rename_i W L;cases W;cases L;cases x<;>simp[rj] at F;simp only[az,dv] at h;obtain⟨rfl,h⟩:=h;rw[Nt h D (by simp[ak.add,Q]) (by simp[ak.add,N]) (by simp[ak.add,M])];simp only[C.ah,RE.ah,RE.rv,XV.at];rw[H.r _ (by simp[ak.add,M])];simp[ak.add,ak.rv,<-M];cases h
def aue{u:Ty}{s:S}{r:RE}{e:RK}(M:e≠ .ai)(h:r.kind u s=e)(W:dR u e (r.rv N) y):N.pH u s.rs y:=by
 obtain⟨V,R,H,Q,X⟩:=Q3 M h W;rcases X with⟨rfl,X⟩|⟨t,X,L⟩;exact⟨V,R,Q,Q2 (by rw[X];exact W)⟩;exact⟨V,R,Q,I0 X L⟩
def aiX{u:Ty}{e:RK}{X:RV}(h:dR u e X y):dR u e.rd X y:=by
 cases h with
 |own e X y h=>exact h
 |here e a V R W=>exact dR.here e a V R W
 |deep e v W i j Q c z k y O N M L=>exact dR.deep e v W i j Q c z k y O N M L
def yz(u:Ty)(W:aQ)(V:bn)(b:Nat):Prop:=∃(q:Nat)(e:RK)(X:RV),W[q]?=U (.am e)/\V[q]?=U (.r X)/\dR u e X b
def aiY{u:Ty}{R:bp}:∀{W:aQ}{l:av},km u R W l=J->∀(q:Nat)(k:LK)(v:C),W[q]?=U k->l[q]?=U v->DT u R k v=J
 |[],_,_,q,k,v,X,_=>by simp at X
 |_::_,[],h,q,k,v,_,_=>by simp[km] at h
 |Q::W,O::l,h,0,k,v,X,V=>by simp only[km,az] at h;simp at X V;subst X V;exact h.1
 |Q::W,O::l,h,q+1,k,v,X,V=>by simp only[km,az] at h;exact aiY h.2 q k v (by simpa using X) (by simpa using V)
def aiZ{u:Ty}{Q:aQ}(h:km u k Q v=J){e:RK}{M:RV}(H:Q[y]?=U (.am e))(W:(v.map (C.xv N))[y]?=U (.r M)):
  ∃r:RE,((∃L,e=.mr L/\r.qh u ⟨[],[],0,0,k,0,0,[]⟩ L=J)\/r.fits u ⟨[],[],0,0,k,0,0,[]⟩ e.rd=J)/\M=r.rv N:=by
 rw[dN] at W;cases R:v[y]? with
 |none=>rw[R] at W;cases W
 |some X=>
  rw[R] at W;have:=aiY h y _ X H R;unfold DT at this;split at this;rename_i V;cases V;rename_i V;cases V;rename_i V;cases V;simp only[dV,cG,C.xv,XV.r.injEq] at W;refine⟨_, ?_,W.symm⟩;split at this;exact .inl ⟨_,rfl,this⟩;exact .inr this;cases this
def Nu{u:Ty}{W:aQ}(h:km u k W v=J)(Q:yz u W (v.map (C.xv N)) y):N.pH u k y:=by
 obtain⟨q,e,D,M,L,V⟩:=Q;obtain⟨r,X,rfl⟩:=aiZ h M L;rcases X with⟨B,rfl,-⟩|X;cases V;have R:=aiX V;obtain⟨H,F⟩:=XA (O:=N) X R;exact aue (s:=⟨[],[],0,0,k,0,0,[]⟩) F H R
def yA(u:Ty)(W:World)(V:aQ)(R:bn):Prop:=∀(q:Nat)(e:RK)(X:RV),V[q]?=U (.am e)->R[q]?=U (.r X)->bJ W u e X
def ai0{u:Ty}{W:World}{B:Nat}{old:Nat->Prop}:∀{V:aQ}{X:bn},yA u W V X->(∀b,yz u V X b->B<=b\/old b)->IJ u W B old V X
 |[],X,_,_=>by cases X<;>trivial
 |_::_,[],_,_=>trivial
 |k::V,x::X,h,N=>by
  refine⟨?_,ai0 (λq e R Q O=>h (q+1) e R (by simpa using Q) (by simpa using O)) (λb ⟨q,e,R,Q,O,M⟩=>N b ⟨q+1,e,R,by simpa using Q,by simpa using O,M⟩)⟩;cases k<;>cases x<;>try trivial
  exact⟨h 0 _ _ rfl rfl,λb L=>N b ⟨0,_,_,rfl,rfl,L⟩⟩
def Sk(D W:World):eF D b9.none [] [] [] W:=⟨rfl,rfl,λn l r X h=>by simp[b9.none] at h,λn V l r R h=>by simp[b9.none] at h,[],rfl,λ_=>rfl,by simp[b9.none],λd h=>by simp[b9.none] at h⟩
def jE.Sm{V:aw}{H:bE}{u:Ty}{W:World}(R:jE x b V N H u k W)(F:Y N.r=Y k)(B:∀(X:Nat)(t:TypeId),k[X]?≠U (.own t)):aC x b b9.none u [] (N.at []) ⟨[],[],Y N.i,Y N.b,k,0,0,[]⟩ ⟨#[],[]⟩ W:=
 ⟨⟨R.base,λi h=>by simp[aL,cH] at h,λi j h=>by simp[aL,cH] at h,λi t y h=>by simp[cH] at h,λX e L M A=>⟨(R.am X e L M A).1,λQ w i z=>by simp[aL,cH] at z⟩⟩,rfl,rfl,rfl,F,Sk _ _,rfl,λt v h=>by simp at h,λX e L Q M=>aY M (B X e)⟩
def Sn:∀{l W:bp},B6 l W=J->pI l W/\∀(k:Nat)(t:TypeId),W[k]?≠U (.own t)
 |[],[],_=>⟨pI.refl _,λk t h=>by simp at h⟩
 |[],_::_,h=>by simp[B6] at h
 |_::_,[],h=>by simp[B6] at h
 |x::N,y::M,h=>by
  simp only[B6,az] at h;obtain⟨V,Q⟩:=Sn h.2;have R:qw x y/\∀t,y≠ .own t:=by
   have L:=h.1;cases x<;>cases y<;>simp_all[Sb,qw]
  refine⟨⟨by simp[V.len],λk O X=> ?_⟩,λk t X=> ?_⟩;cases k with
  |zero=>simp at X;subst X;exact⟨x,rfl,R.1⟩
  |succ k=>exact V.get k O (by simpa using X)
  cases k with
  |zero=>simp at X;exact R.2 t X
  |succ k=>exact Q k t (by simpa using X)
def auf{e:RK}(h:FR (.am e)=J):e.rd=e:=by cases e<;>simp[FR] at h<;>rfl
def Zc{u:Ty}{W:bp}(h:pI k W)(V:N.pH u W y):N.pH u k y:=by
 obtain⟨X,e,R,Q⟩:=V;obtain⟨M,L,H⟩:=h.get X e R;exact⟨X,M,L,Q.mb H⟩
def ai1:∀{l W:bp},B7 l W=J->pI l W
 |[],[],_=>pI.refl _
 |[],_::_,h=>by simp[B7] at h
 |_::_,[],h=>by simp[B7] at h
 |x::O,y::N,h=>by
  simp only[B7,az] at h;have V:=ai1 h.2;have R:qw x y:=by
   have M:=h.1;cases x<;>cases y<;>simp_all[Sb,aiH,qw]
  refine⟨by simp[V.len],λk Q X=> ?_⟩;cases k with
  |zero=>simp at X;subst X;exact⟨x,rfl,R⟩
  |succ k=>exact V.get k Q (by simpa using X)
def ai2{V:aw}{A:bE}{u:Ty}{W:World}(R:jE x b V N A u k W)(L:Y N.r=Y k)(H:∀(X:Nat)(t:TypeId),k[X]?≠U (.own t)){M:aQ}(h:km u k M v=J)(z:pF M=J):yA u W M (v.map (C.xv N)):=by
 intro q e w F y;obtain⟨r,Q,rfl⟩:=aiZ h F y;rcases Q with⟨B,rfl,Q⟩|Q;simp only[RE.qh,jd,cF] at Q;rcases Q with Q|Q;have:=rm (R.Sm L H) (e:=.mr B) (r:=r) ay (by
  rw[BT (s:=⟨[],[],Y N.i,Y N.b,k,0,0,[]⟩) (s':=⟨[],[],0,0,k,0,0,[]⟩) rfl r];exact Q)
 rwa [RE.me] at this
 unfold RE.nil at Q;split at Q;exact bJ.mr B [] ay ay ay ay;cases Q;have:=aga (R.Sm L H) (k:=e.rd) (r:=r) (by
  unfold RE.fits at Q⊢;rw[BT (s:=⟨[],[],Y N.i,Y N.b,k,0,0,[]⟩) (s':=⟨[],[],0,0,k,0,0,[]⟩) rfl r];exact Q)
 rwa [auf (Ru z F),RE.me] at this
def Gt(u:Ty)(B:Nat)(old:Nat->Prop)(O:ak)(X:bp):Prop:=∀b,O.pH u X b->B<=b\/old b
def Sq:∀(X:aQ)(s:S),(s.cz X).2.rs=s.rs++ju X
 |[],s=>by simp[S.cz,ju]
 |k::X,s=>by
  simp only[S.cz];rw[Sq X];cases k<;>simp[S.fresh,ju]
def Nv{X:aQ}{W:bn}(V:ez X W)(R:Y N.r=Y k):(N.ext W).r.length=(k++ju X).length:=by
 have:=(yo X W ⟨[],[],Y N.i,Y N.b,k,0,0,[]⟩ N V rfl rfl R).2.2
 rwa [Sq] at this
def Gt.ext{u:Ty}{B:Nat}{old:Nat->Prop}{O:ak}{V:bp}(h:Gt u B old O V){R:aQ}{X:bn}(L:ez R X)(H:Y O.r=Y V)(D:∀b,yz u R X b->B<=b\/old b):Gt u B old (O.ext X) (V++ju R):=by
 intro b ⟨k,e,F,A⟩;have z:k<(O.ext X).r.length:=by rw[Nv L H];exact(bZ.1 F).1
 have y:(O.ext X).r[k]?=U ((O.ext X).rv k):=by simp[ak.rv,z]
 have:=Gh (PP:=λe W=>∀b,dR u e W b->B<=b\/old b) R X ⟨[],[],Y O.i,Y O.b,V,0,0,[]⟩ O L H
  (λq e W N Q b M=>D b ⟨q,e,W,N,Q,M⟩) (λk e W N Q b M=>h b ⟨k,e,N,by
   have x:k<Y O.r:=(bZ.1 Q).1;have:O.rv k=W:=by simp[ak.rv,Q]
   rw[this];exact M⟩)
 rw[Sq] at this;exact this k e _ F y b A
def Nw(u:Ty)(H:jC)(X:aQ)(D:World)(d:aQ)(F:bn)(out:bo):Ending->World->Prop
 |.returned v,V=>∃R W,out=.ret R/\Ad R W/\ez X W/\v=Gs (u9 u H (oZ X W))/\Below D.heap.size D V/\yA u V X W/\∀b,yz u X W b->D.heap.size<=b\/yz u d F b
 |.panicked Q,V=>Below D.heap.size D V/\∃v,out=.bI v/\Q=[{v:=v,recovered:=E}]
 |.outgrown,_=>False
def B9(P:Program)(u:Ty)(M Q:FuncId->qZ)(G:World->Prop)(f:FuncId)(F:bn->j5):Prop:=
 ∀R H d X,M f=U R->Q f=U H->ip u R=U d->ip u H=U X->∀(O V:bn)(out:bo),F O=U out->Ad O V->ez d V->∀W,G W->yA u W d V->
  Calls P f (u9 u R (oZ d V)).toArray W (Nw u H X W d V out)
section
variable{P:Program}{u:Ty}{M Q:FuncId->qZ}{bA:mK}{G:World->Prop}{D:World}{H:jC}{X d:aQ}{F:bn}{out:bo}{old:Nat->Prop}
def JG(P:Program)(u:Ty)(D:World)(H:jC)(X d:aQ)(F:bn)(out:bo):Sp:=⟨P,u,[],D,b9.none,Nw u H X D d F out,λ_ _ _=>False⟩
def Nx(u:Ty)(M Q:FuncId->qZ)(bA:mK)(H:jC)(out:bo)(X:Fr)(V:List Fr)(R:bn)(n:Nat):Prop:=∃W,Ad W R/\run u M Q bA H n X.t (X.O.ext W) X.rs (X::V)=U out
def Zd(u:Ty)(M Q:FuncId->qZ)(bA:mK)(D:World)(H:jC)(old:Nat->Prop)(out:bo)(X:Fr)(V:List Fr)(N:Nat)(W:bn):Prop:=
 (∀b,yz u X.ks W b->D.heap.size<=b\/old b)/\∃n,n<=N/\Nx u M Q bA H out X V W n
def Ze(W:World)(V:List PanicEntry)(R:World)(b:Nat)(o:Obj)(O:W.heap.size<=b)(h:Nw u H X W d F out (.panicked V) R):Nw u H X W d F out (.panicked V) (R.putObj b o):=
 ⟨⟨h.1.os,h.1.tape,h.1.output,by have:=h.1.size;simpa[Fm] using this,λk Q=>(tE ae).trans (h.1.block k Q)⟩,h.2⟩
def aug{p:Nat->Prop}:∀{n:Nat},p n->∃m,p m/\m<=n/\∀k,p k->m<=k:=by
 intro n;induction n using Qe with
 |ind n V=>
  intro h;by_cases W:∃k,k<n/\p k;obtain⟨k,X,R⟩:=W;obtain⟨m,Q,M,O⟩:=V k X R;exact⟨m,Q,ae,O⟩;exact⟨n,h,cd _,λk X=>by by_cases N:k<n;exact aY ⟨k,N,X⟩ W;omega⟩
open Classical in
noncomputable def JH(p:Nat->Prop):Nat:=if h:∃m,p m/\∀k,p k->m<=k then Classical.choose h else 0
def ai3{p:Nat->Prop}(h:p y):p (JH p)/\JH p<=y:=by
 obtain⟨m,W,R,V⟩:=aug h;have X:∃m,p m/\∀k,p k->m<=k:=⟨m,W,V⟩;unfold JH;rw[dif_pos X];exact⟨(Classical.choose_spec X).1,(Classical.choose_spec X).2 y h⟩
inductive vc(u:Ty)(M Q:FuncId->Option (List TypeId))(bA:mK)(D:World)(H:List TypeId)(old:Nat->Prop)(out:bo):Nat->List Fr->List LC->Prop where
 |nil (n:Nat):vc u M Q bA D H old out n [] []
 |cons (n N m:Nat) (fr:Fr) (st:List Fr) (L:List LC):n<=m->m<=N->vc u M Q bA D H old out n st L->
   vc u M Q bA D H old out n (fr::st) (⟨fr.aA,Zd u M Q bA D H old out fr st N,λxs=>JH (Nx u M Q bA H out fr st xs),m⟩::L)
def vc.mono{W:Nat}{X:List Fr}(h:vc u M Q bA D H old out y X e)(O:W<=y):vc u M Q bA D H old out W X e:=by
 induction h with
 |nil=>exact vc.nil _
 |cons N m F X e B V A R=>exact vc.cons _ _ _ _ _ _ ae V R
def vc.find{aA:Nat}{V R:List Fr}{W:Fr}(h:vc u M Q bA D H old out y V e)(X:Gr aA V=U (W,R)):
  ∃N m,y<=m/\m<=N/\nM aA e=U ⟨W.aA,Zd u M Q bA D H old out W R N,λF=>JH (Nx u M Q bA H out W R F),m⟩:=by
 induction h with
 |nil=>simp[Gr] at X
 |cons N m r V e B A q z=>
  simp only[Gr] at X;split at X;rename_i O;cases X;exact⟨N,m,B,A,by simp[nM,O]⟩;rename_i O;obtain⟨x,w,v,t,s⟩:=z X;exact⟨x,w,v,t,by simp only[nM,O,ga];exact s⟩
def auh(bg:∀f,B9 P u M Q G f (bA f))(hG:∀W W',Below W.heap.size W W'->G W->G W')(bk:G D)(bl:ip u H=U X)(br:∀ys b,yz u X ys b->old b->yz u d F b):
  ∀(n:Nat)(t:T)(a O:ak)(B:bp)(st:List Fr)(L:dm),run u M Q bA H n t a B st=U out->kK a O->Y O.r=Y B->Gt u D.heap.size old O B->vc u M Q bA D H old out n st L->
   t.aP (JG P u D H X d F out) O L:=by
 intro n;induction n using Qe with
 |ind n IH=>
  intro t a O B st L h R w q hC;cases n with
  |zero=>simp[run] at h
  |succ n=>
   cases t with
   |out e s=>simp[run] at h
   |stuck m=>simp[run] at h
   |ret v bx ag=>
    simp only[run] at h;split at h;rename_i he;obtain⟨hw,a0⟩:=Sn he;unfold Y5 at h;split at h;rename_i l ks hl hk;rw[bl] at hk;cases hk;split at h;rename_i aa;cases h;simp only[az] at aa;obtain⟨aa,bs⟩:=aa;intro y V W hR;have R:kK a (O.at y):=⟨R.i,R.b,R.len,R.r⟩;have w:(O.at y).r.length=Y B:=w;have q:Gt u D.heap.size old (O.at y) B:=q;generalize O.at y=O at R w q hR⊢;obtain⟨h1,h2⟩:=JF (O:=O) (V:=V) aa;refine⟨_,l.map (C.xv O),rfl,Ns R l,h2,by rw[aiW hl,h1],Nr hR.base,ai2 hR (w.trans hw.len.symm) a0 aa bs,λb p=>(q b (Zc hw (Nu aa p))).imp id (br _ b p)⟩;cases h;cases h;cases h
   |bI v=>
    simp only[run,P3] at h;obtain⟨pv,hv,rfl⟩:=h;intro y V W hO;have R:kK a (O.at y):=⟨R.i,R.b,R.len,R.r⟩;refine⟨Nr hO,pv,rfl, ?_⟩;unfold Gq at hv;split at hv;cases hv;simp only[C.ah,K.dC R];cases hv
   |aW b t f=>
    simp only[run] at h;rw[BE.dC R] at h;refine⟨λp=> ?_,λp=> ?_⟩;rw[aI p] at h;exact IH n ae t a O B st L h R w q (hC.mono ae);rw[aK (by simp[p])] at h;exact IH n ae f a O B st L h R w q (hC.mono ae)
   |bz b t=>
    simp only[run] at h;rw[BE.dC R] at h;split at h;rename_i p;exact⟨p,IH n ae t a O B st L h R w q (hC.mono ae)⟩;cases h
   |call f cn bx ag ks jf t=>
    simp only[run] at h;split at h;rename_i he;obtain⟨hw,a0⟩:=Sn he;split at h;rename_i co hx;unfold Y6 at hx;split at hx;rename_i ps bt b0 b1;split at hx;rename_i l b2 b3 r hl b4 b5 b6;split at hx;rename_i hc;simp only[az,cF] at hc;obtain⟨⟨⟨c1,cp⟩,rfl⟩,c3⟩:=hc;cases hx;intro y V W hR;have al:kK a (O.at y):=⟨R.i,R.b,R.len,R.r⟩;have cs:Gt u D.heap.size old (O.at y) B:=q;obtain⟨a1,a2⟩:=JF (O:=O.at y) (V:=V) c1;have hB:=Nr hR.base;have b7:=ai2 hR (w.trans hw.len.symm) a0 c1 cp;rw[Si hl,a1];cases ho:bA f (l.map (C.xv a)) with
    |none=>rw[ho] at h;cases h
    |some o=>
     rw[ho] at h;refine(bg f ps bt b2 b3 b0 b1 b4 b5 _ _ o ho (Ns al l) a2 W (hG _ _ hB bk) b7).mono ?_;intro e W' hE;cases e with
     |outgrown=>exact hE.elim
     |panicked ch=>
      obtain⟨e1,pv,rfl,rfl⟩:=hE;simp only[cG] at h;subst h;exact⟨e1,aub hB e1,pv,rfl,rfl⟩
     |returned v=>
      obtain⟨yh,ys,rfl,e2,e3,rfl,e5,e6,e7⟩:=hE;rw[show C.xv (O.at y)=C.xv O from funext (C.YC O y)] at e7;simp only at h;split at h;rename_i ct;refine⟨ys,e3, ?_,e5,ai0 e6 (λb p=>(e7 b p).imp id (λb8=>Nu c1 b8)), ?_⟩;rw[<-Nb,aiW b6,Nt c3 e3 (by rw[al.i]) (by rw[al.b]) (by rw[al.len])];refine IH n ae t _ _ _ st L h (R.ext e2) (Nv e3 w) (q.ext e3 w (λb p=> ?_)) (hC.mono ae);rcases e7 b p with h1|h1;exact .inl (oL hB.size h1);exact q b (Zc hw (Nu c1 h1));cases h
    cases hx;cases hx;cases hx;cases h;cases h
   |loop aA ks x0 t=>
    simp only[run] at h;split at h;rename_i aa;have cv:=(JF (O:=O) (V:=[]) aa).2;refine⟨Zd u M Q bA D H old out ⟨aA,ks,t,a,B++ju ks⟩ st n,λxs=>JH (Nx u M Q bA H out ⟨aA,ks,t,a,B++ju ks⟩ st xs),⟨λb p=>q b (Nu aa p),n,cd _,x0.map (C.xv a),Ns R x0,h⟩, ?_⟩;intro xs hf ⟨i1,n1,i2,i3⟩;obtain⟨⟨xh,j1,j2⟩,j3⟩:=ai3 i3;refine IH _ ae t _ _ _ _ _ j2 (R.ext j1) (Nv hf w) (q.ext hf w i1) ?_;exact vc.cons _ _ _ _ _ _ (cd _) (oL j3 i2) (hC.mono ae);cases h
   |back aA x=>
    simp only[run] at h;split at h;rename_i fr ca cc;split at h;rename_i aa;obtain⟨N,m,g1,g2,g3⟩:=hC.find cc;simp only[T.aP,g3];have a4:Nx u M Q bA H out fr ca (x.map (C.xv O)) n:=⟨x.map (C.xv a),Ns R x,h⟩;refine⟨⟨λb p=>q b (Nu aa p),n,ae,a4⟩, ?_⟩;have:=(ai3 a4).2;omega;cases h;cases h
   |new e x ag cx t=>
    simp only[run] at h;split at h;rename_i he;have hw:=ai1 he;intro rv a9;obtain⟨A,m,c,rfl,hm⟩:=a9.val;subst hm;refine IH n ae t _ _ _ st L h (R.add (aiG R x)) (by simp[ak.add,w]) ?_ (hC.mono ae);intro b ⟨k,e',hk,hl⟩;by_cases ab:k<Y B;rw[dU ab] at hk;refine q b ⟨k,e',hk, ?_⟩;have:(O.add (.r (.mk (.slice A (x.aj O).length c) (x.aj O)))).rv k=O.rv k:=by simp[ak.rv,ak.add,dU,w,ab]
    rw[<-this];exact hl;have af:k=Y B:=by
     have:=(bZ.1 hk).1;simp at this;omega
    subst af;simp at hk;subst hk;have e1:(O.add (.r (.mk (.slice A (x.aj O).length c) (x.aj O)))).rv (Y B)=.mk (.slice A (x.aj O).length c) (x.aj O):=by rw[<-w];simp[ak.rv,ak.add]
    rw[e1] at hl;have cf:=aiX hl;rcases a9.pH b cf with g|g|g;exact .inl g;cases g;exact q b (Zc hw g);cases h
   |aj k x ag t=>
    simp only[run] at h;split at h;rename_i he;refine IH n ae t _ _ _ st L h (R.add (aiG R x)) (by simp[ak.add,w]) ?_ (hC.mono ae);intro b ⟨k',e',hk,hl⟩;by_cases ab:k'<Y B;rw[dU ab] at hk;refine q b ⟨k',e',hk, ?_⟩;have:(O.add (.r (iq x O))).rv k'=O.rv k':=by simp[ak.rv,ak.add,dU,w,ab]
    rw[<-this];exact hl;have af:k'=Y B:=by
     have:=(bZ.1 hk).1;simp at this;omega
    subst af;simp at hk;subst hk;cases k<;>simp[Y8] at he;cases hl;cases h
   |gE g h' t f=>
    simp only[run] at h;rw[BE.dC R,BE.dC R] at h;refine⟨λp=> ?_,λp=> ?_⟩;rw[aI p] at h;split at h;exact IH n ae t a O B st L (Sf h).1 R w q (hC.mono ae);exact IH n ae t a O B st L h R w q (hC.mono ae);simp only[p,cS] at h;split at h;exact IH n ae f a O B st L (Sf h).2 R w q (hC.mono ae);exact IH n ae f a O B st L h R w q (hC.mono ae)
   |pick m g h' t f=>
    simp only[run] at h;refine⟨λj h1 h2 h3=> ?_,λp=> ?_⟩;have ba:kK (a.add (.i j)) (O.add (.i j)):=R.add (x:=.i j) (y:=.i j) rfl;have hj:=Sg h _ (hJ.2 ⟨U j,at9 (g:=g) (h:=h') h1 (by rw[K.dC R];exact h2) (by rw[BE.dC ba];exact h3),rfl⟩);exact IH n ae t _ _ B st L hj ba w q (hC.mono ae);have hj:=Sg h _ (hJ.2 ⟨Z,aua (m:=m) (g:=g) (h:=h') (by rw[BE.dC R];exact p),rfl⟩);exact IH n ae f _ _ B st L hj R w q (hC.mono ae)
   |dO f g e sp sb r ag t=>
    simp only[run] at h;split at h;rename_i he;simp only[az] at he;obtain⟨he,an⟩:=he;have bb:=RE.dC R r;split at h;rename_i cl bd;obtain⟨ac,a3,cy⟩:=aiN R bb.JC bd;refine⟨ac,afs a3, ?_⟩;have bf:=X1 (afs a3);have cm:dA (.mk (r.rv a).val cl) (.mk (r.rv O).val ac):=bb.dO R bd a3;refine IH n ae t _ _ _ st L h (R.add cm) (by simp[ak.add,w]) ?_ (hC.mono ae);intro b ⟨k,e',hk,hl⟩;by_cases ab:k<Y B;rw[dU ab] at hk;refine q b ⟨k,e',hk, ?_⟩;have:(O.add (.r (.mk (r.rv O).val ac))).rv k=O.rv k:=by simp[ak.rv,ak.add,dU,w,ab]
    rw[<-this];exact hl;have af:k=Y B:=by
     have:=(bZ.1 hk).1;simp at this;omega
    subst af;simp at hk;subst hk;have e1:(O.add (.r (.mk (r.rv O).val ac))).rv (Y B)=.mk (r.rv O).val ac:=by rw[<-w];simp[ak.rv,ak.add]
    rw[e1] at hl;unfold Y7 at an;split at an;rename_i k;exact q b ⟨k,_,tH an,at4 hl bf⟩;cases hl with
    |own e rv b hl=>
     have h0:ac=[]:=by
      cases ac with
      |nil=>rfl
      |cons x xs=>have:=bf x ay;simp[RE.rv] at this
     subst h0;simp only[RE.rv] at hl;cases hl with
     |deep e v ac i j cA c z k b h1 h2 h3 h4=>simp at h1
    cases an;cases h;cases h
def t6:aQ->Bool
 |[]=>J
 |.am (.sl _)::_=>E
 |.am (.own _)::_=>E
 |_::X=>t6 X
def ai4:∀{ks:aQ}{xs:bn}{b:Nat},t6 ks=J->¬yz u ks xs b
 |[],xs,b,_,⟨q,e,W,X,_,_⟩=>by simp at X
 |k::ks,xs,b,h,⟨0,e,W,X,V,R⟩=>by
  simp at X;subst X;cases R<;>simp[t6] at h
 |k::ks,[],b,h,⟨q+1,e,W,X,V,R⟩=>by simp at V
 |k::ks,x::xs,b,h,⟨q+1,e,W,X,V,R⟩=>ai4 (ks:=ks) (xs:=xs) (b:=b) (by
   cases k with
   |am r=>cases r<;>simp[t6] at h⊢<;>exact h
   |int _=>simpa[t6] using h
   |bool=>simpa[t6] using h) ⟨q,e,W,by simpa using X,by simpa using V,R⟩
def fM(X:aH)(W:bn):ak:=(⟨[],[],X,[]⟩:ak).ext W
end
def Ny:C->av
 |.agg l=>l
 |v=>[v]
def rq:av->av
 |[]=>[]
 |v::X=>Ny v++rq X
def Af:C->av
 |.bP l=>rq l
 |v=>Ny v
def aui:C->Bool
 |.gJ _ (.int _ _)=>J
 |_=>E
def nI:aQ->Nat
 |[]=>0
 |.int _::X=>nI X+1
 |_::X=>nI X
def nB:aQ->Nat
 |[]=>0
 |.bool::X=>nB X+1
 |_::X=>nB X
def ai5(c:Ty)(d:jC)(v:C)(W:bp):Bool:=match jQ c d (yw (Y d) v),ip c d with
 |U l,U X=>km c W X l&&pF X
 |_,_=>E
def ai6(c:Ty)(M Q:FuncId->qZ)(f:FuncId)(O:av)(N L:Nat)(W:bp)(V:aQ)(jf:C):Bool:=match M f,Q f with
 |U R,U X=>match jQ c R O,ip c R,ip c X,jQ c X (yw (Y X) jf) with
  |U l,U P,U H,U r=>km c W P l&&pF P&&decide (H=V)&&rp N L (Y W) V r
  |_,_,_,_=>E
 |_,_=>E
def Nz(aA:Nat):List (Nat×aQ)->Option aQ
 |[]=>Z
 |x::X=>if x.1=aA then U x.2 else Nz aA X
def T.gQ(c:Ty)(M Q:FuncId->qZ)(d:jC):T->Nat->Nat->bp->List (Nat×aQ)->Bool
 |.ret v _ O,_,_,X,_=>B6 X O&&ai5 c d v O
 |.bI v,_,_,_,_=>aui v
 |.aW _ t f,V,R,X,W=>t.gQ c M Q d V R X W&&f.gQ c M Q d V R X W
 |.bz _ t,V,R,X,W=>t.gQ c M Q d V R X W
 |.call f N _ O P jf t,V,R,X,W=>B6 X O&&ai6 c M Q f N V R O P jf&&t.gQ c M Q d (V+nI P) (R+nB P) (X++ju P) W
 |.loop aA P L t,V,R,X,W=>km c X P L&&t.gQ c M Q d (V+nI P) (R+nB P) (X++ju P) ((aA,P)::W)
 |.back aA x,_,_,X,W=>match Nz aA W with
  |U P=>km c X P x
  |none=>E
 |.new e _ O _ t,V,R,X,W=>B7 X O&&t.gQ c M Q d V R (X++[.own e]) W
 |.aj k _ _ t,V,R,X,W=>Y8 k&&t.gQ c M Q d V R (X++[k]) W
 |.gE _ _ t f,V,R,X,W=>t.gQ c M Q d V R X W&&f.gQ c M Q d V R X W
 |.pick _ _ _ t f,V,R,X,W=>t.gQ c M Q d (V+1) R X W&&f.gQ c M Q d V R X W
 |.dO _ _ e _ _ r O t,V,R,X,W=>B7 X O&&Y7 X r e&&t.gQ c M Q d V R (X++[.own e]) W
 |.stuck _,_,_,_,_=>J
 |.out _ _,_,_,_,_=>E
structure Lp where
 aA:Nat
 t:T
 O:ak
abbrev mf:=List Lp
def Ag(aA:Nat):mf->Option (Lp×mf)
 |[]=>Z
 |x::X=>if x.aA=aA then U (x,X) else Ag aA X
def exec(bA:mK):Nat->T->ak->mf->j5
 |0,_,_,_=>Z
 |_+1,.ret v _ _,O,_=>U (.ret ((Af v).map (C.xv O)))
 |_+1,.bI v,O,_=>(Gq O v).map .bI
 |n+1,.aW b t f,O,X=>if b.ah O then exec bA n t O X else exec bA n f O X
 |n+1,.bz b t,O,X=>if b.ah O then exec bA n t O X else Z
 |n+1,.call f R _ _ Q _ t,O,X=>match bA f ((rq R).map (C.xv O)) with
  |U (.ret V)=>if mL Q V then exec bA n t (O.ext V) X else Z
  |U (.bI v)=>U (.bI v)
  |none=>Z
 |n+1,.loop aA _ P t,O,X=>exec bA n t (O.ext (P.map (C.xv O))) (⟨aA,t,O⟩::X)
 |n+1,.back aA x,O,X=>match Ag aA X with
  |U (W,N)=>exec bA n W.t (W.O.ext (x.map (C.xv O))) (W::N)
  |none=>Z
 |n+1,.new _ x _ _ t,O,X=>exec bA n t (O.add (.r (iq x O))) X
 |n+1,.aj _ x _ t,O,X=>exec bA n t (O.add (.r (iq x O))) X
 |n+1,.gE g h t f,O,X=>if g.ah O then(if h.ah O then Ae (exec bA n t O X) (exec bA n f O X) else exec bA n t O X) else(if h.ah O then exec bA n f O X else Z)
 |n+1,.pick m g h t f,O,X=>tZ ((wN m g h O).map λj=>match j with
  |U j=>exec bA n t (O.add (.i j)) X
  |none=>exec bA n f O X)
 |n+1,.dO _ _ _ M L r _ t,O,X=>match nf O M L (r.rv O).aj with
  |U H=>exec bA n t (O.add (.r (.mk (r.rv O).val H))) X
  |none=>Z
 |_,_,_,_=>Z
def auj{c:Ty}{X:LK}{v:C}(h:DT c k X v=J):Ny v=[v]:=by
 unfold DT at h;split at h<;>first|rfl|cases h
def NA{c:Ty}{P:bp}:∀{d:jC}{M l:av}{X:aQ},jQ c d M=U l->ip c d=U X->km c P X l=J->rq M=l
 |[],[],l,X,h,_,_=>by simp[jQ] at h;simp[rq,h]
 |[],_::_,l,X,h,_,_=>by simp[jQ] at h
 |_::_,[],l,X,h,_,_=>by simp[jQ] at h
 |t::d,v::M,l,X,h,O,L=>by
  simp only[jQ] at h;split at h;rename_i w r B H;simp only[ip,B] at O;split at O;rename_i u G A F;cases A;cases O;have D:∀(a:aQ)(b:av),Y a=Y b->km c P (a++G) (b++r)=J->km c P a b=J/\km c P G r=true:=by
   intro a;induction a with
   |nil=>intro b N R;cases b with
    |nil=>exact⟨rfl,R⟩
    |cons=>simp at N
   |cons k a z=>intro b N R;cases b with
    |nil=>simp at N
    |cons x b=>
     simp only[fG,km,az] at R⊢;obtain⟨W,Q⟩:=z b (by simpa using N) R.2;exact⟨⟨R.1,W⟩,Q⟩
  split at h;split at h;rename_i s;split at h;rename_i V;simp only[dv] at V;cases h;obtain⟨W,Q⟩:=D _ _ (by simp[V]) L;simp only[rq,Ny,NA H F Q];cases h;cases h;split at h;rename_i V;simp only[dv] at V;cases h;obtain⟨W,Q⟩:=D _ [v] (by simp[V]) L;obtain⟨q,y⟩:=oa.1 V;rw[y] at W;simp only[eE,Bi,km,LV] at W;simp only[rq,auj W,NA H F Q,fG,gr];cases h;cases O;cases h
def auk{c:Ty}{d:jC}{X:C}{Q:aQ}(h:jQ c d (yw (Y d) X)=U v)(V:ip c d=U Q)(W:km c k Q v=J):Af X=v:=by
 rw[<-NA h V W];cases X
 case bP G=>
  simp only[yw,Af];split;rename_i R;simp only[dv] at R;exfalso;have O:=NA h V W;simp only[yw,R,beq_self_eq_true,cS] at h O;obtain⟨t,N⟩:=oa.1 R;subst N;simp only[jQ,ip] at h V;split at h;rename_i F r R M;cases M;split at h;cases h;split at h;rename_i P;cases h;rw[R] at V;simp only[cG] at V;subst V;simp only[dv] at P;obtain⟨D,L⟩:=oa.1 P;rw[L] at W;simp only[eE,Bi,H9,km,LV] at W;unfold DT at W;split at W<;>first|(rename_i H;cases H)|cases W
  cases h;cases h;rfl
 all_goals simp[yw,Af,rq]
section
variable{c:Ty}{M Q:FuncId->qZ}{bA:mK}{d:jC}
def DU:∀{X:aQ}{W:bn}{O:ak},ez X W->(O.ext W).i.length=Y O.i+nI X/\(O.ext W).b.length=Y O.b+nB X/\(O.ext W).r.length=Y O.r+(ju X).length
 |[],[],O,_=>⟨rfl,rfl,rfl⟩
 |[],_::_,O,h=>h.elim
 |_::_,[],O,h=>h.elim
 |k::X,x::W,O,h=>by
  obtain⟨V,R⟩:=h;obtain⟨Q,P,N⟩:=DU (O:=O.add x) R;simp only[ak.ext,Q,P,N];cases k<;>cases x<;>simp only[rj] at V<;>simp[ak.add,nI,nB,ju]<;>omega
inductive Ah(c:Ty)(M Q:FuncId->Option (List TypeId))(d:List TypeId):List (Nat×List LK)->List Lp->List Fr->Prop where
 |nil:Ah c M Q d [] [] []
 |cons (aA:Nat) (ks:List LK) (t:T) (O:ak) (rs:List RK) (lv:List (Nat×List LK)) (sl:List Lp) (st:List Fr):Y O.r=Y rs->t.gQ c M Q d (Y O.i+nI ks) (Y O.b+nB ks) (rs++ju ks) ((aA,ks)::lv)=J->Ah c M Q d lv sl st->
   Ah c M Q d ((aA,ks)::lv) (⟨aA,t,O⟩::sl) (⟨aA,ks,t,O,rs++ju ks⟩::st)
def Ah.find{N:List (Nat×aQ)}{H G:mf}{L:List Fr}{W:aQ}{X:Lp}(h:Ah c M Q d N H L)(V:Nz y N=U W)(R:Ag y H=U (X,G)):
  ∃P F D,Gr y L=U (⟨X.aA,W,X.t,X.O,P++ju W⟩,D)/\Y X.O.r=Y P/\X.t.gQ c M Q d (Y X.O.i+nI W) (Y X.O.b+nB W) (P++ju W) ((X.aA,W)::F)=J/\Ah c M Q d F G D:=by
 induction h with
 |nil=>simp[Nz] at V
 |cons A u t O P N H L z x w v=>
  simp only[Nz,Ag,Gr] at V R⊢;by_cases B:A=y;rw[aI B] at V R⊢;cases V;cases R;exact⟨P,N,L,rfl,z,x,w⟩;rw[aK B] at V R⊢;exact v V R
def t7:∀(n:Nat)(t:T)(O:ak)(N:bp)(W:List (Nat×aQ))(R:mf)(P:List Fr)(o:bo),exec bA n t O R=U o->t.gQ c M Q d (Y O.i) (Y O.b) N W=J->Y O.r=Y N->Ah c M Q d W R P->
  run c M Q bA d n t O N P=U o
 |0,t,O,N,W,R,P,o,h,_,_,_=>by simp[exec] at h
 |n+1,.out _ _,O,N,W,R,P,o,h,_,_,_=>by simp[exec] at h
 |n+1,.stuck _,O,N,W,R,P,o,h,_,_,_=>by simp[exec] at h
 |n+1,.ret v bx F,O,N,W,R,P,o,h,X,L,H=>by
  simp only[exec,cG] at h;simp only[T.gQ,az] at X;obtain⟨u,X⟩:=X;simp only[run,u,cS,Y5];unfold ai5 at X;split at X
  ·rename_i l D s p
   try rw[s,p]
   simp only[X,cS];simp only[az] at X;rw[<-auk s p X.1,h]
  cases X
 |n+1,.bI v,O,N,W,R,P,o,h,X,L,H=>by simpa only[exec,run] using h
 |n+1,.aW b t f,O,N,W,R,P,o,h,X,L,H=>by
  simp only[exec] at h;simp only[T.gQ,az] at X;simp only[run];split at h;rename_i B;rw[aI B];exact t7 n t O N W R P o h X.1 L H;rename_i B;rw[aK B];exact t7 n f O N W R P o h X.2 L H
 |n+1,.bz b t,O,N,W,R,P,o,h,X,L,H=>by
  simp only[exec] at h;simp only[T.gQ] at X;simp only[run];split at h;rename_i B;rw[aI B];exact t7 n t O N W R P o h X L H;cases h
 |n+1,.call f an bx F D jf t,O,N,W,R,P,o,h,X,L,H=>by
  simp only[exec] at h;simp only[T.gQ,az] at X;obtain⟨⟨u,G⟩,ab⟩:=X;have ac:=(Sn u).1.len;simp only[run,u,cS,Y6];unfold ai6 at G;split at G
  ·rename_i ps qs s p
   try rw[s,p]
   try simp only
   split at G
   ·rename_i l pk qk r g1 g2 g3 g4
    try rw[g1,g2,g3,g4]
    try simp only
    rw[ac,<-L] at G;rw[aI G];simp only[az] at G;rw[NA g1 g2 G.1.1.1] at h
    try simp only
    split at h
    ·rename_i ys ho
     try rw[ho]
     try simp only
     split at h;rename_i aa;rw[aI aa];obtain⟨A,z,y⟩:=DU (O:=O) (aud aa);exact t7 n t _ _ W R P o h (by rw[A,z];exact ab) (by rw[y,gD,L]) H;cases h
    ·rename_i v ho;(try rw[ho]);exact h
    cases h
   cases G
  cases G
 |n+1,.loop aA D x0 t,O,N,W,R,P,o,h,X,L,H=>by
  simp only[exec] at h;simp only[T.gQ,az] at X;simp only[run,X.1,cS];obtain⟨A,z,y⟩:=DU (O:=O) (JF (O:=O) (V:=[]) X.1).2;exact t7 n t _ _ ((aA,D)::W) _ _ o h (by rw[A,z];exact X.2) (by rw[y,gD,L]) (Ah.cons _ _ _ _ _ _ _ _ L X.2 H)
 |n+1,.back aA x,O,N,W,R,P,o,h,X,L,H=>by
  simp only[exec] at h;simp only[T.gQ] at X;split at h;rename_i a af hf;split at X;rename_i D hk;obtain⟨F,ag,a0,q1,q2,q3,q4⟩:=H.find hk hf;simp only[run,q1,X,cS];obtain⟨A,z,y⟩:=DU (O:=a.O) (JF (O:=O) (V:=[]) X).2;exact t7 n a.t _ _ ((a.aA,D)::ag) (a::af) _ o h (by rw[A,z];exact q3) (by rw[y,gD,q2]) (Ah.cons _ _ _ _ _ _ _ _ q2 q3 q4);cases X;cases h
 |n+1,.new e x F a1 t,O,N,W,R,P,o,h,X,L,H=>by
  simp only[exec] at h;simp only[T.gQ,az] at X;simp only[run,X.1,cS];exact t7 n t _ _ W R P o h (by simpa[ak.add] using X.2) (by simp[ak.add,L]) H
 |n+1,.aj k x F t,O,N,W,R,P,o,h,X,L,H=>by
  simp only[exec] at h;simp only[T.gQ,az] at X;simp only[run,X.1,cS];exact t7 n t _ _ W R P o h (by simpa[ak.add] using X.2) (by simp[ak.add,L]) H
 |n+1,.gE g h' t f,O,N,W,R,P,o,h,X,L,H=>by
  simp only[exec] at h;simp only[T.gQ,az] at X;simp only[run];have i1:=λq=>t7 n t O N W R P o q X.1 L H
  have i2:=λq=>t7 n f O N W R P o q X.2 L H
  split at h;rename_i hg;rw[aI hg];split at h;rename_i w;rw[aI w];exact aiT h i1 i2;rename_i w;rw[aK w];exact i1 h;rename_i hg;rw[aK hg];split at h;rename_i w;rw[aI w];exact i2 h;cases h
 |n+1,.pick m g h' t f,O,N,W,R,P,o,h,X,L,H=>by
  simp only[exec] at h;simp only[T.gQ,az] at X;simp only[run];refine aiU h λj _ q=> ?_
  cases j with
  |some j=>exact t7 n t (O.add (.i j)) N W R P o q (by simpa[ak.add] using X.1) (by simpa[ak.add] using L) H
  |none=>exact t7 n f O N W R P o q X.2 L H
 |n+1,.dO f g e sp sb r F t,O,N,W,R,P,o,h,X,L,H=>by
  simp only[exec] at h;simp only[T.gQ,az] at X;simp only[run,X.1.1,X.1.2,wj,cS];split at h
  ·rename_i a3 al
   try rw[al]
   exact t7 n t _ _ W R P o h (by simpa[ak.add] using X.2) (by simp[ak.add,L]) H
  cases h
def vd(bA:mK)(t:T)(O:ak)(X:mf)(o:bo):Prop:=∃n,exec bA n t O X=U o
def JI{bA:mK}{t:T}{O:ak}{X:mf}{o:bo}:vd bA t O X o<->∃n,exec bA (n+1) t O X=U o:=
 ⟨λ⟨n,h⟩=>by
  cases n with
  |zero=>simp[exec] at h
  |succ n=>exact⟨n,h⟩,λ⟨n,h⟩=>⟨n+1,h⟩⟩
@[simp] def aDJ {v:C} {X:bE} {W:mf} {o:bo}:vd bA (.ret v X k) N W o<->o=.ret ((Af v).map (C.xv N)):=by
 rw[JI];simp only[exec,cG];exact⟨λ⟨_,h⟩=>h.symm,λh=>⟨0,h.symm⟩⟩
@[simp] def aDK {v:C} {X:mf} {o:bo}:vd bA (.bI v) N X o<->(Gq N v).map .bI=U o:=by
 rw[JI];simp only[exec];exact⟨λ⟨_,h⟩=>h,λh=>⟨0,h⟩⟩
@[simp] def aDL {b:BE} {f:T} {X:mf} {o:bo}:vd bA (.aW b h f) N X o<->if b.ah N=J then vd bA h N X o else vd bA f N X o:=by
 rw[JI];simp only[exec];split<;>rfl
@[simp] def aDM {b:BE} {X:mf} {o:bo}:vd bA (.bz b h) N X o<->b.ah N=J/\vd bA h N X o:=by
 rw[JI];simp only[exec];by_cases W:b.ah N=J;simp only[W,cS,true_and];rfl;simp[W]
@[simp] def aDN {W:aQ} {X:mf} {o:bo}:vd bA (.loop y W v h) N X o<->vd bA h (N.ext (v.map (C.xv N))) (⟨y,h,N⟩::X) o:=by
 rw[JI];simp only[exec];rfl
@[simp] def aDO {x:LE} {W:bp} {X:mf} {o:bo}:vd bA (.new g x k W h) N X o<->vd bA h (N.add (.r (iq x N))) X o:=by
 rw[JI];simp only[exec];rfl
end
structure wO(P:Program)(g:FuncId)(eT:TypeId):Prop where
 yp:∀args W,(callFunc g args).run P W=.ok (.enter g args) W
 ret:∀(W:World)(b:Nat),CallsDIn Fence.wide 0 P g #[.pointer (U ⟨b,0,Z⟩)] .returning W λen u W'=>(∃v,en=.returned v)/\u=.returning/\W'=W
 bI:∀(W:World)(b:Nat)(k0 k:Int),W.heap[b]?=U (.cells #[.int I k0] eT (0,0))->CallsDIn Fence.wide 0 P g #[.pointer (U ⟨b,0,Z⟩)] (.panicking [{v:=.iface eT (.int I k),recovered:=E}]) W λen u W'=>
  (∃v,en=.returned v)/\u=.panicking [{v:=.iface eT (.int I k),recovered:=J}]/\W'=W.putObj b (.cells #[.int I k] eT (0,0))
def aul{c:Code}{d:DI}(h:ya c=U d):∃P O R X W first Q V,c=.seq (.region P d.su E) (.seq (.region O R E) d.rest)/\R= #[X,W]/\X.op=.makeFunc (.func d.g) first Q/\first= #[]/\Q= #[.tmp d.te]/\X.dst=U d.tf/\X.guard=Z/\W.op=.defer V/\V.callee=.value (.tmp d.tf)/\V.args= #[]/\W.guard=Z/\W.dst=none:=by
 unfold ya at h;split at h;rename_i P su O R w;unfold afq at h;split at h;rename_i X W M;split at h;rename_i g first Q v V L H G F D B
 split at h;rename_i u t A z y x;split at h;rename_i N;simp only[dv] at N;subst N;cases h;exact⟨P,O,R,X,W,first,Q,V,rfl,by apply mC;simp[M],L,by apply mC;simp[A],by apply mC;simp[z],H,G,F,y,by apply mC;simp[x],D,B⟩;cases h;cases h;cases h;cases h;cases h
section
variable{p:Sp}{cf:bF}
def aum(w:jr p cf)(a0:∀ch W,¬p.R (.panicked ch) W){f:FuncId}{M:Func}{c:Code}(hf:p.P.funcs[f]?=U M)(hb:M.body=U c){d:DI}(j:ya c=U d){eT:TypeId}(ag:wO p.P d.g eT)
  {n:Nat}{ac:av}{s:S}{O:ak}{V:aw}{t:T}
  (ht:My cf n f c M.ntmps M.results.toList eT ac s=t)(L:t.aP p O [])(hg:eL cf.gl O)(R:aC p.S0 p.w0 b9.none cf.ty V O {s with tmps:=[]} ⟨#[],[]⟩ p.w0):
  Calls p.P f (C.aF O V ac).toArray p.w0 p.R:=by
 subst ht;unfold My at L;rw[j] at L;simp only at L;obtain⟨i0,i1,cA,r,q,first,cB,dc,hc,ho,g1,g2,g3,g4,g5,g6,g7,g8,g9,b1⟩:=aul j;subst ho g2 g3;refine Jo hf hb ?_;rw[hc];obtain⟨D1,al⟩:∃D1:b9,D1=⟨[],[],J,[]⟩:=⟨_,rfl⟩;have b2:eF p.w0 D1 s.pd O.y [] p.w0:=by
  subst al;have h:=R.cU;exact⟨h.len,h.qr,h.dt,h.inj,[],rfl,λ_=>rfl,ay,λd j=>by simp at j⟩
 have RE:=R.enter ac M.ntmps b2;obtain⟨Rr,a3⟩:=RE.room (lC d.su.toList);refine Gm (tX (n:=0) (wpIn_region ?_));have hY:=DQ (p:=p) (cf:=cf) D1.dt ⟨{s with tmps:=ac++eI (M.ntmps-Y ac) (.bP [])},O,V,[]⟩;have a4:=zZ (ops:=d.su) w.pt w.xR (yu Z) w.kZ (Ju w (Jy w n).1 hY) (D:=D1) (k:=Xc cf n f d eT (Y s.au) M.results.toList) (kp:=λ_ _=>.stuck "") (Q:=Exit.then (λF B=>jg Z f p.P (.seq (.region i1 #[r,q] E) d.rest) (bodyPostM Fence.wide 0 p.P M p.R) F B) (bodyPostM Fence.wide 0 p.P M p.R)) (λch F B pd y hA hR=>(a0 ch B hR).elim) (n:=0) (gG (λ_=>E) J E 0 (Y s.au) d.su.toList) 0 _ [] [] O _ _ p.w0
  (λi m' hi=>by have:=Js _ _ _ _ _ _ _ _ hi;simpa using this) ((jF.here _ _ _ _).go a3 (di.refl _ _)) L (λx hx=>by cases hx) Rr hg ?_ (λv s' o V' F B L' hl hL R' b3=>b3.elim)
 rw[RO] at a4;simpa[P5] using a4;intro b a N G A L1 b4 cC R1 aa;show jg Z f p.P (.seq (.region i1 #[r,q] E) d.rest) (bodyPostM Fence.wide 0 p.P M p.R) G A;unfold Xc at aa;split at aa;rename_i X b5;split at aa;rename_i a9;simp only[az,gO,cF] at a9;obtain⟨⟨ba,b6⟩,b7⟩:=a9;have b8:G.tmps[d.te]?=U (.pointer (U ⟨ad N X,0,Z⟩)):=by
  rcases R1.tmps _ _ b5 with h|h;cases h;exact h
 have ca:G.defers=[]:=by
  have h:=R1.cU;rw[al] at h;obtain⟨ms,q1,q0,-,-⟩:=h.ma;have:=q0 rfl;subst this;simpa using q1
 have cc:(C.fn d.g [.loc X 0]).ah a N=.func (.func d.g) #[] #[.pointer (U ⟨ad N X,0,Z⟩)]:=by simp[C.ah,C.aF]
 have z:=R1.put (U d.tf) (.fn d.g [.loc X 0]);rw[cc] at z;obtain⟨H,af⟩:∃H:Deferred,H={target:=.fn (.func d.g) #[.pointer (U ⟨ad N X,0,Z⟩)],args:= #[]}:=⟨_,rfl⟩;have cl:eF p.w0 ⟨[],[],E,[H]⟩ b.pd a.y [H] A:=by
  have h:=R1.cU;rw[al] at h;exact⟨h.len,h.qr,h.dt,h.inj,[],rfl,λ_=>rfl,ay,λd j=>by simp at j⟩
 have cD:(b.put (U d.tf) (.fn d.g [.loc X 0])).pd=b.pd:=rfl;have R2:aC p.S0 p.w0 ⟨[],[],E,[H]⟩ cf.ty N a (b.put (U d.tf) (.fn d.g [.loc X 0])) {G.put (U d.tf) (.func (.func d.g) #[] #[.pointer (U ⟨ad N X,0,Z⟩)]) with defers:=[H]} A:=
  ⟨z.mem,z.gv,z.ei,z.eb,z.er,cl,z.size,z.tmps,z.fZ⟩
 refine Gm (tX (n:=0) (wpIn_region ?_));have cm:fU (#[r,q]:dI).size=[0,1]:=rfl;rw[cm];have e1:(execOp G.eval r).run p.P A=.ok (.value (.func (.func d.g) #[] #[.pointer (U ⟨ad N X,0,Z⟩)])) A:=by
  have:G.eval (.tmp d.te)=.pointer (U ⟨ad N X,0,Z⟩):=by simp[Act.eval,aqi,b8]
  simp[execOp,g1,this,Instr.makeFunc]
 have e2:(execOp (G.put (U d.tf) (.func (.func d.g) #[] #[.pointer (U ⟨ad N X,0,Z⟩)])).eval q).run p.P A=.ok (.defer H) A:=by
  have cn:d.tf<G.tmps.size:=by rw[R1.size];exact b7
  have:(G.put (U d.tf) (.func (.func d.g) #[] #[.pointer (U ⟨ad N X,0,Z⟩)])).eval (.tmp d.tf)=.func (.func d.g) #[] #[.pointer (U ⟨ad N X,0,Z⟩)]:=by
   simp[Act.eval,Act.put,aqi,cn]
  simp[execOp,g6,resolve,g7,g8,this,Deferred.ofValue,af]
 have co:lz r (yielded #[r,q] G.tmps)=true:=by simp[lz,g5]
 have cp:∀y,lz q y=true:=λy=>by simp[lz,g9]
 have cs:∀c',r.op≠ .defer c':=λc' bb=>by rw[g1] at bb;cases bb
 have hF:=yu Z;show wpOpsIn _ 0 p.P #[r,q] _ [0,1] G A;simp only[wpOpsIn,aeR,zr,sa,co,cp,cS];refine⟨λf _=>hF.fn f, ?_⟩;rw[xM _ _ _ cs,e1,Oper.uponIn_value,g4];refine⟨λf _=>hF.fn f, ?_⟩;rw[show(M9 Z).round=Z from rfl,aqB,e2,aDD];have ct:({(G.put (U d.tf) (.func (.func d.g) #[] #[.pointer (U ⟨ad N X,0,Z⟩)])) with defers:=H::(G.put (U d.tf) (.func (.func d.g) #[] #[.pointer (U ⟨ad N X,0,Z⟩)])).defers}:Act).put q.dst undef={G.put (U d.tf) (.func (.func d.g) #[] #[.pointer (U ⟨ad N X,0,Z⟩)]) with defers:=[H]}:=by
  rw[b1];have:(G.put (U d.tf) (.func (.func d.g) #[] #[.pointer (U ⟨ad N X,0,Z⟩)])).defers=[]:=ca;rw[this];rfl
 rw[ct];show jg Z f p.P d.rest (bodyPostM Fence.wide 0 p.P M p.R) _ A;have cv:(jF.mk (b.put (U d.tf) (.fn d.g [.loc X 0])) a N L1).lG (b.put (U d.tf) (.fn d.g [.loc X 0])) a N L1:=jF.here _ _ _ _;refine(Jy w n).1 ⟨[],[],E,[H]⟩ _ iK Z f d.rest _ _ L1 a N _ A _ (DQ _ _) cv rfl (λhh=>by cases hh) ⟨M,hf⟩ aa R2 ((hg.ext a3.ext).ext b4.ext) (λch F B pd y hA hR=>(a0 ch B hR).elim) ?_;intro e s' o V' F B L' hl hL RR L;obtain⟨bd,q1,q0,q2,q3⟩:=RR.cU.ma;have R3:=RR.qz q1;have cI:({F with defers:=[H]}:Act)={F with defers:=[H]}:=rfl;have bf:∀d0∈bd,B.heap[d0]?=U (.deferred (U [])):=λd0 cx=>(q3 d0 (by simp[cx])).1
 have bg:bd.Nodup:=(xL.1 q2).1;have bk:ad V' X=ad N X:=hl.ext.ad X b6;have bl:∀m,(invoke H.target H.args).run p.P m=.ok (.enter d.g #[.pointer (U ⟨ad N X,0,Z⟩)]) m:=λm=>by
  rw[af];simp[invoke,ag.yp]
 have br:∀s2:S,∀m,aC p.S0 p.w0 ⟨[],[],E,[H]⟩ cf.ty V' o s2 {F with defers:=[H]} m->(sx cf (Y s.au) M.results.toList s2).aP p o L'->LeavesInM Fence.wide 0 p.P M F.tmps p.R [] .returning m:=by
  intro s2 m R4 ab;unfold sx at ab;split at ab;rename_i l cy;refine⟨_,Jc R4 w.kZ cy, ?_⟩;exact ab o.y V' _ (by rw[w.pt];exact(R4.mem.take _).mb (Nj _));exact ab.elim
 have bs:(sx cf (Y s.au) M.results.toList s').aP p o L'->LeavesInM Fence.wide 0 p.P M F.tmps p.R F.defers .returning B:=by
  intro ab;rw[q1];refine sL ay bg bf ⟨ay,.inr ⟨by simp[Fence.wide],_,_,_,_,by rw[af],bl _,λg hg=>trivial, ?_⟩⟩;refine(ag.ret _ _).mono ?_;rintro en u W4 ⟨⟨v,rfl⟩,rfl,rfl⟩;exact br s' _ R3 ab
 cases e with
 |normal=>exact bs L
 |ret=>exact bs L
 |exit id=>exact L.elim
 |bI v=>
  simp only[Xb] at L;split at L;rename_i tt x;split at L;rename_i bt y bx;split at L;rename_i b0;simp only[az,dv] at b0;obtain⟨rfl,rfl⟩:=b0;have an:=R3.mem.box X bt _ bx;rw[sG ba] at an;rw[bk] at an;show LeavesInM Fence.wide 0 p.P M F.tmps p.R F.defers (.panicking _) B;rw[q1];refine sL ay bg bf ⟨ay,.inr ⟨by simp[Fence.wide],_,_,_,_,by rw[af],bl _,λg hg=>trivial, ?_⟩⟩;refine(ag.bI _ (ad N X) (y.ah o) (x.ah o) an).mono ?_;rintro en u W4 ⟨⟨v,rfl⟩,rfl,rfl⟩;have R4:=R3.agm (cs':=[.int I x]) bx;rw[sG ba,bk] at R4;exact br _ _ R4 L;exact L.elim;exact L.elim;exact L.elim
 exact aa.elim;exact aa.elim
end
def o7:T->T
 |.aW _ t _=>t
 |.bz _ t=>t
 |.call _ _ _ _ _ _ t=>t
 |.loop _ _ _ t=>t
 |.new _ _ _ _ t=>t
 |.aj _ _ _ t=>t
 |.gE _ _ t _=>t
 |.pick _ _ _ t _=>t
 |.dO _ _ _ _ _ _ _ t=>t
 |t=>t
def JJ:T->T
 |.aW _ _ t=>t
 |.gE _ _ _ t=>t
 |.pick _ _ _ _ t=>t
 |t=>t
def rr(g t:T):T:=match g with
 |.stuck m=>.stuck m
 |_=>t
def T.cut(t:T):T->T:=T.rec (motive:=λ_=>T->T) (λe s g=>rr g (.out e s)) (λv b r g=>rr g (.ret v b r)) (λv g=>rr g (.bI v)) (λb _ _ X W g=>rr g (.aW b (X (o7 g)) (W (JJ g)))) (λb _ X g=>rr g (.bz b (X (o7 g)))) (λf a b r k s _ X g=>rr g (.call f a b r k s (X (o7 g)))) (λl k x _ X g=>rr g (.loop l k x (X (o7 g)))) (λl x g=>rr g (.back l x)) (λe x r V _ X g=>rr g (.new e x r V (X (o7 g)))) (λk x r _ X g=>rr g (.aj k x r (X (o7 g)))) (λb c _ _ X W g=>rr g (.gE b c (X (o7 g)) (W (JJ g)))) (λn b c _ _ X W g=>rr g (.pick n b c (X (o7 g)) (W (JJ g)))) (λf R e Q O r N _ X g=>rr g (.dO f R e Q O r N (X (o7 g)))) (λm g=>rr g (.stuck m)) t
def t8{p:Sp}{g t:T}(h:(rr g t).aP p N e):t.aP p N e:=by
 unfold rr at h;split at h;exact h.elim;exact h
def vf{p:Sp}:∀(t g:T)(O:ak)(L:dm),(t.cut g).aP p O L->t.aP p O L
 |.out _ _,_,_,_,h=>t8 h
 |.ret _ _ _,_,_,_,h=>t8 h
 |.bI _,_,_,_,h=>t8 h
 |.back _ _,_,_,_,h=>t8 h
 |.stuck _,_,_,_,h=>t8 h
 |.aW b t f,g,O,L,h=>by
  have h:=t8 (g:=g) (t:=.aW b (t.cut (o7 g)) (f.cut (JJ g))) h;exact⟨λe=>vf _ _ _ _ (h.1 e),λe=>vf _ _ _ _ (h.2 e)⟩
 |.bz b t,g,O,L,h=>by
  have h:=t8 (g:=g) (t:=.bz b (t.cut (o7 g))) h;exact⟨h.1,vf _ _ _ _ h.2⟩
 |.call f a b r k s t,g,O,L,h=>by
  have h:=t8 (g:=g) (t:=.call f a b r k s (t.cut (o7 g))) h;intro y V W H;refine(h y V W H).mono λe W' N=> ?_
  cases e with
  |returned v=>
   obtain⟨M,R,Q,F,D,B⟩:=N;exact⟨M,R,Q,F,D,vf _ _ _ _ B⟩
  |panicked c=>exact N
  |outgrown=>exact N
 |.loop l k x t,g,O,L,h=>by
  have h:=t8 (g:=g) (t:=.loop l k x (t.cut (o7 g))) h;obtain⟨X,A,R,Q⟩:=h;exact⟨X,A,R,λM a b=>vf _ _ _ _ (Q M a b)⟩
 |.new e x r z t,g,O,L,h=>by
  have h:=t8 (g:=g) (t:=.new e x r z (t.cut (o7 g))) h;exact λw a=>vf _ _ _ _ (h w a)
 |.aj k x r t,g,O,L,h=>by
  have h:=t8 (g:=g) (t:=.aj k x r (t.cut (o7 g))) h;exact vf t (o7 g) _ _ h
 |.gE b c t f,g,O,L,h=>by
  have h:=t8 (g:=g) (t:=.gE b c (t.cut (o7 g)) (f.cut (JJ g))) h;exact⟨λe=>vf _ _ _ _ (h.1 e),λe=>vf _ _ _ _ (h.2 e)⟩
 |.pick n b c t f,g,O,L,h=>by
  have h:=t8 (g:=g) (t:=.pick n b c (t.cut (o7 g)) (f.cut (JJ g))) h;exact⟨λj u a2 q=>vf _ _ _ _ (h.1 j u a2 q),λe=>vf _ _ _ _ (h.2 e)⟩
 |.dO f o e m i r d t,g,O,L,h=>by
  have h:=t8 (g:=g) (t:=.dO f o e m i r d (t.cut (o7 g))) h;obtain⟨aa,R,Q⟩:=h;exact⟨aa,R,vf _ _ _ _ Q⟩
def Zf(c:Bool)(g t:T):T:=cond c (t.cut g) t
def aun{p:Sp}{c:Bool}{g t:T}{O:ak}{L:dm}(h:(Zf c g t).aP p O L):t.aP p O L:=by
 cases c;exact h;exact vf _ _ _ _ h
section
variable{P:Program}{u:Ty}{M Q:FuncId->qZ}{bA:mK}{G:World->Prop}{H A:jC}{X z:aQ}
structure JK(u:Ty)(gl:mD)(glk:bp)(glv:aH)(W:World)(glw:aH):Prop where
 len:Y glv=Y glw
 eq:∀(k:Nat)(v v':RV),glv[k]?=U v->glw[k]?=U v'->dA v v'
 held:∀(k:Nat)(e:RK)(rv:RV),glk[k]?=U e->glw[k]?=U rv->bJ W u e rv
 Zg:∀xs,eL gl (fM glw xs)
def Zh{d:bF}{s:bp}{D:aH}{c l:av}{t:T}{ni nb:Nat}{L:bp}
  (ab:d.ty=u)(ac:∀f,B9 P u M Q G f (bA f))(hG:∀W W',Below W.heap.size W W'->G W->G W')(af:ip u H=U X)
  (hl:jQ u A c=U l)(ag:rp 0 0 (Y D) z l=J)(a:L=s++ju z)(al:∀(k:Nat)(t:TypeId),L[k]?≠U (.own t))(an:Y D=Y s)(p:D=[]\/t6 X=J)
  (a0:∀R V,ez z V->(fM R V).i.length=ni)(a1:∀R V,ez z V->(fM R V).b.length=nb)
  {W:World}(a3:G W){R:aH}(B:JK u d.gl s D W R){xh V:bn}{o:bo}{N:Nat}(hN:run u M Q bA H N t (fM D xh) L []=U o)(hx:Ad xh V)(x:ez z V)(hH:yA u W z V):
  t.aP (JG P u W H X z V o) (fM R V) []/\C.aF (fM R V) [] c=u9 u A (oZ z V)/\aC [] W b9.none d.ty [] (fM R V) ⟨[],[],ni,nb,L,0,0,[]⟩ ⟨#[],[]⟩ W:=by
 have g:Y R=Y s:=by rw[<-B.len];exact an
 have hv:C.aF (fM R V) [] c=u9 u A (oZ z V):=by
  rw[Si hl,fM,Nt (by rw[<-B.len];exact ag) x rfl rfl rfl]
 have aa:(fM R V).r.length=Y L:=by rw[a];exact Nv x g
 have hS:kK (fM D xh) (fM R V):=kK.ext ⟨rfl,rfl,B.len,λk v v' g1 g2=>B.eq k v v' g1 g2⟩ hx;have a4:t.aP (JG P u W H X z V o) (fM R V) []:=by
  refine auh (old:=λb=>yz u z V b\/R≠[]) ac hG a3 af (λys b w n=> ?_) N t _ _ L [] [] hN hS aa ?_ (vc.nil _);rcases n with n|n;exact n;rcases p with p|p;subst p;have:R=[]:=Fa.1 (by rw[<-B.len];rfl);exact aY this n;exact(ai4 p w).elim;rw[a];refine Gt.ext (λb w=> ?_) x g (λb w=>.inr (.inl w));obtain⟨k,e,hk,hl⟩:=w;refine .inr (.inr (λhe=> ?_));subst he;have:=(bZ.1 hk).1;simp at g;omega
 have a9:∀(k:Nat)(e:RK)(O:RV),L[k]?=U e->(fM R V).r[k]?=U O->bJ W u e O:=by
  intro k e O g1 g2;have:=Gh (PP:=λe O=>bJ W u e O) z V ⟨[],[],0,0,s,0,0,[]⟩ ⟨[],[],R,[]⟩ x g (λq e O F m=>hH q e O F m) (λk e O F m=>B.held k e O F m);rw[Sq] at this;exact this k e O (by rw[<-a];exact g1) g2
 exact⟨a4,hv,⟨⟨ij.refl _ _,λi h=>by simp[aL,cH] at h,λi j h=>by simp[aL,cH] at h,λi t cs h=>by simp[cH] at h,λk e O F m=>⟨by rw[ab];exact a9 k e O F m,λb w i hi=>by simp[aL,cH] at hi⟩⟩,rfl,a0 _ V x,a1 _ V x,aa,by rw[show(fM R V).y=[] from Ja V _];exact Sk _ _,rfl,λt sv h=>by simp at h,λk e O b F=>aY F (al k e)⟩⟩
def auo{cf:bF}{x:Func}{c:Code}{F:bn->j5}{glk:bp}{glv:aH}{l:av}{s r:Nat}
  (ac:∀V R,(∀q W b o,V.heap.size<=b->R (.panicked q) W->R (.panicked q) (W.putObj b o))->jr ⟨P,u,[],V,b9.none,R,λ_ _ _=>False⟩ cf)(af:cf.ty=u)(ag:∀w,B9 P u M Q G w (bA w))(hG:∀W m,Below W.heap.size W m->G W->G m)
  (hf:P.funcs[w]?=U x)(hb:x.body=U c)(al:M w=U A)(an:Q w=U H)(a0:ip u A=U z)(j:ip u H=U X)
  (hl:jQ u A v=U l)(a1:rp 0 0 (Y glv) z l=J)(a3:k=glk++ju z)(a4:∀(L:Nat)(h:TypeId),k[L]?≠U (.own h))(a9:Y glv=Y glk)(hq:glv=[]\/t6 X=J)
  (ba:∀B D,ez z D->(fM B D).i.length=s)(bb:∀B D,ez z D->(fM B D).b.length=r)
  (bd:∀W,G W->∃B,JK u cf.gl glk glv W B)
  (ht:∀(p:Sp)(O:ak),h.aP p O []->(Mx cf y w c x.ntmps x.results.toList v ⟨[],[],s,r,k,0,0,[]⟩).aP p O [])
  (hF:∀D o,ez z D->F D=U o->∃N,run u M Q bA H N h (fM glv D) k []=U o):B9 P u M Q G w F:=by
 intro bg bk bl br g e d a xh D o ho hx aa W ab hH;rw[al] at g;cases g;rw[an] at e;cases e;rw[a0] at d;cases d;rw[j] at a;cases a;obtain⟨N,hN⟩:=hF xh o (Sj aa hx) ho;obtain⟨B,hL⟩:=bd W ab;obtain⟨bf,hv,hR⟩:=Zh af ag hG j hl a1 a3 a4 a9 hq ba bb ab hL hN hx aa hH;rw[<-hv];exact aiv (p:=JG P u W H X z D o) (cf:=cf) (ac W _ (Ze W)) hf hb rfl (ht _ _ bf) (hL.Zg D) hR
def aup{cf:bF}{s:Func}{c:Code}{F:bn->j5}{glk:bp}{glv:aH}{l:av}{j e:Nat}{d:DI}
  (ac:∀V R,(∀r W b o,V.heap.size<=b->R (.panicked r) W->R (.panicked r) (W.putObj b o))->jr ⟨P,u,[],V,b9.none,R,λ_ _ _=>False⟩ cf)(af:cf.ty=u)(ag:∀w,B9 P u M Q G w (bA w))(hG:∀W q,Below W.heap.size W q->G W->G q)
  (hf:P.funcs[w]?=U s)(hb:s.body=U c)(hd:ya c=U d)(al:wO P d.g g)(an:M w=U A)(a0:Q w=U H)(a1:ip u A=U z)(a:ip u H=U X)
  (hl:jQ u A v=U l)(a3:rp 0 0 (Y glv) z l=J)(a4:k=glk++ju z)(a9:∀(L:Nat)(h:TypeId),k[L]?≠U (.own h))(ba:Y glv=Y glk)(hq:glv=[]\/t6 X=J)
  (bb:∀x B,ez z B->(fM x B).i.length=j)(bd:∀x B,ez z B->(fM x B).b.length=e)
  (bf:∀W,G W->∃x,JK u cf.gl glk glv W x)
  (ht:∀(p:Sp)(O:ak),h.aP p O []->(My cf y w c s.ntmps s.results.toList g v ⟨[],[],j,e,k,0,0,[]⟩).aP p O [])(bg:∀B D,F B≠U (.bI D))
  (hF:∀B o,ez z B->F B=U o->∃N,run u M Q bA H N h (fM glv B) k []=U o):B9 P u M Q G w F:=by
 intro bl br bs bt h1 h2 h3 h4 xh B o ho hx aa W ab hH;rw[an] at h1;cases h1;rw[a0] at h2;cases h2;rw[a1] at h3;cases h3;rw[a] at h4;cases h4;obtain⟨N,hN⟩:=hF xh o (Sj aa hx) ho;obtain⟨x,hL⟩:=bf W ab;obtain⟨bk,hv,m⟩:=Zh af ag hG a hl a3 a4 a9 ba hq bb bd ab hL hN hx aa hH;rw[<-hv];refine aum (p:=JG P u W H X z B o) (cf:=cf) (ac W _ (Ze W)) (λr q m=> ?_) hf hb hd al rfl (ht _ _ bk) (hL.Zg B) m;obtain⟨-,D,h5,-⟩:=m;exact bg xh D (by rw[ho,h5])
end
def ai7:Op->Bool
 |.move _|.assign _|.fieldAddr _ _ _|.field _ _ _|.load _ _|.indexAddr _ _ _|.build _ _|.index _ _ _|.unOp _ _ _|.convert _ _ _|.makeInterface _ _|.makeFunc _ _ _|.extract _ _|.nilCheck _|.alloc _|.box _ _|.pick _ _ _=>J
 |.binOp X _ _ _ _=>match X with
  |.eql|.neq=>E
  |_=>J
 |_=>E
def Zi(X:bF)(m:OM)(s:S):Bool:=(Bs X m s).isSome
def auq{X:bF}{m:OM}(h:Zi X m l=E):Bs X m l=none:=by
 simpa[Zi] using h
def Sr(R:bF)(O:pD)(m:OM)(s:S)(X:S->Fx->T)(Q:C->S->T)(V:Fx):T:=
 if ai7 m.o.op then match gt R m s with
  |.ok W=>X W V
  |.bz b W=>.bz b (X W V)
  |.split b N M=>Br s V b (X N) (X M)
  |.no L=>.stuck L
 else if Zi R m s then zJ R O m s X Q V else match zH R m s with
 |U (e,H,G,P)=>Dq e (λg F=>O (.fn g) (P++F) s (λv W=>X (W.put m.o.dst v) (oQ s V)) Q) H G
 |none=>
 match ec R s m.o with
 |.call (.fn g) P=>O (.fn g) P s (λv W=>X (W.put m.o.dst v) (oQ s V)) Q
 |.call (.yl n) P=>if m.so then O (.yl n) P s (λv W=>X (W.put m.o.dst v) (oQ s V)) Q else .stuck ""
 |.bI v=>Q v s
 |.no=>.stuck ""
 |.op=>match zG R m s X V with
  |U t=>t
  |none=>match eH R m.o m.bR m.dr s with
  |U b=>.bz b.bz (.new b.e b.x s.rs b.s.rs (X b.s (oQ s V)))
  |none=>match gt R m s with
  |.ok W=>X W V
  |.bz b W=>.bz b (X W V)
  |.split b N M=>Br s V b (X N) (X M)
  |.no L=>.stuck L
def aur(X:bF)(R:pD)(m:OM)(s:S)(Q:S->Fx->T)(P:C->S->T)(O:Fx):Sr X R m s Q P O=zJ X R m s Q P O:=by
 unfold Sr;split;rename_i W;unfold zJ;cases V:m.o.op<;>rw[V] at W<;>simp only[ai7,iW] at W<;>try(simp[zH,Bs,ec,zG,eH,V]<;>rfl)
 rename_i N t x y z;cases N<;>simp only[iW] at W<;>(simp[zH,Bs,ec,zG,eH,V]<;>rfl);split;rfl;rename_i M;unfold zJ;rw[auq (by simpa using M)];cases zH X m s<;>rfl
def OM.up(n:Nat)(m:OM):OM:={m with ix:=m.ix+n}
def Ss(bR:Nat->Bool)(X W:Bool)(k:Nat):∀(l:oM)(j n:Nat),gG bR X W j (n+k) l=(gG bR X W j n l).map (OM.up k)
 |[],_,_=>rfl
 |o::r,j,n=>by
  simp only[gG,eE];congr 1;rw[<-Ss bR X W k r];congr 1;split<;>omega
def aus(k:Nat)(l:cN)(X:aw):Is (l.map (OM.up k)) X=(Is l X).map (OM.up k):=by
 simp only[Is,List.map_filterMap,dN]
def Zj(k:Nat)(X:aw):∀l:cN,zN X (l.map (OM.up k))=zN X l
 |[]=>rfl
 |x::r=>by simp only[eE,zN,Zj k X r,LW];rfl
def ai8(k:Nat)(X:aw):∀(l W:cN),tQ X (W.map (OM.up k)) (l.map (OM.up k))=(tQ X W l).map (OM.up k)
 |[],_=>rfl
 |m::r,W=>by
  simp only[eE,tQ];congr 1;have h:=Zj k X (m::r);simp only[eE] at h;rw[h,LW];rfl;rw[<-ai8 k X r (W++[m]),Qd];rfl
def ai9(k:Nat)(X:dI):∀(l:cN)(done:aw),Dt X done (l.map (OM.up k))=Dt X done l
 |[],_=>rfl
 |x::r,done=>by simp only[eE,Dt,ai9 k X r];rfl
def aut(k a b:Nat):(a+k !=b+k)=(a !=b):=by
 rw[tG];simp
def auu(k:Nat)(X:dI)(x y:OM):tP X (OM.up k x) (OM.up k y)=tP X x y:=by
 have h:((OM.up k x).ix !=(OM.up k y).ix)=(x.ix !=y.ix):=aut k _ _;unfold tP Ir Ml;rw[h];rfl
def aja(k:Nat)(X:dI)(W:aw):∀l:cN,Ds X W (l.map (OM.up k))=Ds X W l
 |[]=>rfl
 |x::r=>by
  simp only[eE,Ds,aja k X W r,LW];congr 2;funext y;simp only[Function.comp,auu];rfl
def ajb(k:Nat):∀l:aw,mF (l.map (· +k))=mF l
 |[]=>rfl
 |x::r=>by
  simp only[eE,mF,ajb k r];congr 2;rw[tG];simp
def o8(X:dI)(n:Nat):cN:=tQ (oR X.toList) [] (Is (gG (Mn X.toList (oR X.toList)) E J 0 n X.toList) (Mm X.toList X.size []))
def auv(X:dI)(n:Nat):o8 X n=(o8 X 0).map (OM.up n):=by
 unfold o8;rw[show gG (Mn X.toList (oR X.toList)) E J 0 n X.toList=(gG (Mn X.toList (oR X.toList)) E J 0 0 X.toList).map (OM.up n) by rw[<-Ss];simp,aus,<-ai8];rfl
def Zk(X:dI)(n:Nat):Option cN:=match It X 0 with
 |U l=>U (l.map (OM.up n))
 |none=>Z
def ajc(X:dI)(n:Nat):It X n=if QD X.toList (oR X.toList)&&Dt X [] (o8 X n)&&Ds X (oR X.toList) (o8 X n)&&mF ((o8 X n).filterMap (·.o.dst))&&mF ((o8 X n).map (·.j))&&mF (((o8 X n).filter λm=>gF m.o.op).map (·.ix))&&(o8 X n).length==X.size&&(fU X.size).all (λi=>(o8 X n).any λm=>m.j==i) then U (o8 X n) else none:=rfl
def auw(X:dI)(n:Nat):Zk X n=It X n:=by
 unfold Zk;rw[ajc X n,ajc X 0,auv X n,ai9,aja];have V:((o8 X 0).map (OM.up n)).filterMap (·.o.dst)=(o8 X 0).filterMap (·.o.dst):=by rw[aDB];rfl
 have R:((o8 X 0).map (OM.up n)).map (·.j)=(o8 X 0).map (·.j):=by rw[oc];rfl
 have Q:(((o8 X 0).map (OM.up n)).filter λm=>gF m.o.op).map (·.ix)=(((o8 X 0).filter λm=>gF m.o.op).map (·.ix)).map (· +n):=by rw[aqC,oc,oc];rfl
 have P:∀i,(((o8 X 0).map (OM.up n)).any λm=>m.j==i)=((o8 X 0).any λm=>m.j==i):=λi=>by rw[ae2];rfl
 rw[V,R,Q,ajb,qY];simp only[P];split;rename_i l h;split at h;rename_i W;cases h;rw[aI W];cases h;rename_i h;split at h;cases h;rename_i W;rw[aK W]
def ajd(W:Bool)(X:dI)(n:Nat):Bz W X n=(Bz W X 0).map (OM.up n)/\BA W X n=(BA W X 0).map (OM.up n):=by
 unfold Bz BA;rw[show gG (λ_=>E) E J 0 n X.toList=(gG (λ_=>E) E J 0 0 X.toList).map (OM.up n) by rw[<-Ss];simp,aqC,aqC];exact⟨rfl,rfl⟩
def aux(W:Bool)(X:dI)(n:Nat):IB W X n=IB W X 0:=by
 unfold IB;obtain⟨V,R⟩:=ajd W X n;rw[V,R,show gG (λ_=>E) E J 0 n X.toList=(gG (λ_=>E) E J 0 0 X.toList).map (OM.up n) by rw[<-Ss];simp];unfold W0;rw[<-Qd];have Q:∀l:cN,(l.map (OM.up n)).filterMap (·.o.dst)=l.filterMap (·.o.dst):=λl=>by rw[aDB];rfl
 have P:∀l:cN,(l.map (OM.up n)).map (·.j)=l.map (·.j):=λl=>by rw[oc];rfl
 rw[Q,P,qY];simp only[LW,ae2,Function.comp_def];rfl
def St(V:bF)(W:Bool)(X:dI)(s:S):Option Mq:=
 if(!W||(WZ V s X.toList||(V.kW&&X.toList.any λo=>afm o.op))&&zN (oR X.toList) (BA W X 0))&&IB W X 0 then(Dx V ((Bz W X 0).map (OM.up (Y s.au))) (s.room (lC X.toList))).bind (W5 V ((Bz W X 0).map (OM.up (Y s.au))) ((BA W X 0).map (OM.up (Y s.au)))) else Z
def auy(V:bF)(X:Bool)(W:dI)(s:S):St V X W s=IC V X W s:=by
 unfold St IC;obtain⟨Q,R⟩:=ajd X W (Y s.au);rw[<-Q,<-R,aux X W (Y s.au),R,Zj]
def Gu{X:Type}(l:List X):(List X->T)->T:=xO (motive:=λ_=>(List X->T)->T) (λk=>k []) (λx _ W k=>W λV=>k (x::V)) l
def Zl{W:Type}:∀(l:List W)(k:List W->T),Gu l k=k l
 |[],_=>rfl
 |x::X,k=>Zl X λX=>k (x::X)
def cu(n:Nat)(k:Nat->T):T:=Fp (motive:=λ_=>T) (k 0) (λm _=>k (Nat.succ m)) n
def ko:∀(n:Nat)(k:Nat->T),cu n k=k n
 |0,_=>rfl
 |_+1,_=>rfl
def S.Zm(s:S)(k:S->T):T:=S.rec (motive:=λ_=>T) (λX b W V R aA Q P=>Gu X λX=>Gu b λb=>cu W λW=>cu V λV=>Gu R λR=>cu aA λaA=>cu Q λQ=>Gu P λP=>k ⟨X,b,W,V,R,aA,Q,P⟩) s
def auz(s:S)(k:S->T):s.Zm k=k s:=by
 cases s;simp only[S.Zm,Zl,ko]
def NB{X:Type}(l:List X)(k:List X->T):T:=xO (motive:=λ_=>T) (k []) (λx W _=>k (x::W)) l
def auA{X:Type}(l:List X)(k:List X->T):NB l k=k l:=by cases l<;>rfl
def S.Zn(s:S)(k:S->T):T:=S.rec (motive:=λ_=>T) (λX b W V R aA Q P=>NB X λX=>NB b λb=>cu W λW=>cu V λV=>NB R λR=>cu aA λaA=>cu Q λQ=>NB P λP=>k ⟨X,b,W,V,R,aA,Q,P⟩) s
def auB(s:S)(k:S->T):s.Zn k=k s:=by
 cases s;simp only[S.Zn,auA,ko]
def Ca(X:bF)(W:pD)(V:dI)(k:S->T)(R:C->S->T):cN->S->Fx->T
 |[],s,_=>k s
 |m::Q,s,P=>s.Zn λs=>Qy V m s P (Sr X W m s (Ca X W V k R Q) R) (Ca X W V k R Q (s.put m.o.dst (.bP [])))
def NC(X:bF)(W:pD)(R:dI)(k:S->T)(V:C->S->T):∀(l:cN),Ca X W R k V l=nH X W R k V l
 |[]=>by funext s P;rfl
 |m::Q=>by
  funext s P;have:Sr X W m s (Ca X W R k V Q) V=zJ X W m s (nH X W R k V Q) V:=by
   funext P;rw[aur,NC X W R k V Q]
  simp only[Ca,nH,auB];rw[this,NC X W R k V Q]
def ND(n:Int)(k:Int->T):T:=Int.rec (motive:=λ_=>T) (λn=>cu n λn=>k (ae7 n)) (λn=>cu n λn=>k (ae5 n)) n
def auC:∀(n:Int)(k:Int->T),ND n k=k n
 |.ofNat n,k=>ko n λn=>k (ae7 n)
 |.negSucc n,k=>ko n λn=>k (ae5 n)
def K.deep(e:K):(K->T)->T:=K.rec (motive_1:=λ_=>(K->T)->T) (motive_2:=λ_=>(BE->T)->T) (motive_3:=λ_=>(RE->T)->T) (λn k=>ND n λn=>k (.c n)) (λn k=>cu n λn=>k (.v n)) (λo q a b X W k=>X λa=>W λb=>k (.bin o q a b)) (λq a X k=>X λa=>k (.conv q a)) (λr V k=>V λr=>k (.len r)) (λm a b X W k=>X λa=>W λb=>k (.mm m a b)) (λb x y W P O k=>W λb=>P λx=>O λy=>k (.dg b x y)) (λr i j V R k=>V λr=>R λi=>cu j λj=>k (.cell r i j)) (λr i V R k=>V λr=>R λi=>k (.mV r i)) (λr n a b c j V X W Q k=>V λr=>X λa=>W λb=>Q λc=>cu n λn=>cu j λj=>k (.look r n a b c j)) (λb k=>k (.c b)) (λn k=>cu n λn=>k (.v n)) (λo a b X W k=>X λa=>W λb=>k (.cmp o a b)) (λa X k=>X λa=>k (.not a)) (λa b X W k=>X λa=>W λb=>k (.and a b)) (λa b X W k=>X λa=>W λb=>k (.beq a b)) (λb x y W P O k=>W λb=>P λx=>O λy=>k (.dg b x y)) (λr i j V R k=>V λr=>R λi=>cu j λj=>k (.cell r i j)) (λa b X W k=>X λa=>W λb=>k (.seq a b)) (λr n a b c j V X W Q k=>V λr=>X λa=>W λb=>Q λc=>cu n λn=>cu j λj=>k (.look r n a b c j)) (λr n a b c V X W Q k=>V λr=>X λa=>W λb=>Q λc=>cu n λn=>k (.has r n a b c)) (λn k=>cu n λn=>k (.v n)) (λr i j q V R k=>V λr=>R λi=>cu j λj=>k (.cell r i j q)) (λv k=>k (.k v)) e
def BE.deep(e:BE):(BE->T)->T:=BE.rec (motive_1:=λ_=>(K->T)->T) (motive_2:=λ_=>(BE->T)->T) (motive_3:=λ_=>(RE->T)->T) (λn k=>ND n λn=>k (.c n)) (λn k=>cu n λn=>k (.v n)) (λo q a b X W k=>X λa=>W λb=>k (.bin o q a b)) (λq a X k=>X λa=>k (.conv q a)) (λr V k=>V λr=>k (.len r)) (λm a b X W k=>X λa=>W λb=>k (.mm m a b)) (λb x y W P O k=>W λb=>P λx=>O λy=>k (.dg b x y)) (λr i j V R k=>V λr=>R λi=>cu j λj=>k (.cell r i j)) (λr i V R k=>V λr=>R λi=>k (.mV r i)) (λr n a b c j V X W Q k=>V λr=>X λa=>W λb=>Q λc=>cu n λn=>cu j λj=>k (.look r n a b c j)) (λb k=>k (.c b)) (λn k=>cu n λn=>k (.v n)) (λo a b X W k=>X λa=>W λb=>k (.cmp o a b)) (λa X k=>X λa=>k (.not a)) (λa b X W k=>X λa=>W λb=>k (.and a b)) (λa b X W k=>X λa=>W λb=>k (.beq a b)) (λb x y W P O k=>W λb=>P λx=>O λy=>k (.dg b x y)) (λr i j V R k=>V λr=>R λi=>cu j λj=>k (.cell r i j)) (λa b X W k=>X λa=>W λb=>k (.seq a b)) (λr n a b c j V X W Q k=>V λr=>X λa=>W λb=>Q λc=>cu n λn=>cu j λj=>k (.look r n a b c j)) (λr n a b c V X W Q k=>V λr=>X λa=>W λb=>Q λc=>cu n λn=>k (.has r n a b c)) (λn k=>cu n λn=>k (.v n)) (λr i j q V R k=>V λr=>R λi=>cu j λj=>k (.cell r i j q)) (λv k=>k (.k v)) e
def RE.deep(e:RE):(RE->T)->T:=RE.rec (motive_1:=λ_=>(K->T)->T) (motive_2:=λ_=>(BE->T)->T) (motive_3:=λ_=>(RE->T)->T) (λn k=>ND n λn=>k (.c n)) (λn k=>cu n λn=>k (.v n)) (λo q a b X W k=>X λa=>W λb=>k (.bin o q a b)) (λq a X k=>X λa=>k (.conv q a)) (λr V k=>V λr=>k (.len r)) (λm a b X W k=>X λa=>W λb=>k (.mm m a b)) (λb x y W P O k=>W λb=>P λx=>O λy=>k (.dg b x y)) (λr i j V R k=>V λr=>R λi=>cu j λj=>k (.cell r i j)) (λr i V R k=>V λr=>R λi=>k (.mV r i)) (λr n a b c j V X W Q k=>V λr=>X λa=>W λb=>Q λc=>cu n λn=>cu j λj=>k (.look r n a b c j)) (λb k=>k (.c b)) (λn k=>cu n λn=>k (.v n)) (λo a b X W k=>X λa=>W λb=>k (.cmp o a b)) (λa X k=>X λa=>k (.not a)) (λa b X W k=>X λa=>W λb=>k (.and a b)) (λa b X W k=>X λa=>W λb=>k (.beq a b)) (λb x y W P O k=>W λb=>P λx=>O λy=>k (.dg b x y)) (λr i j V R k=>V λr=>R λi=>cu j λj=>k (.cell r i j)) (λa b X W k=>X λa=>W λb=>k (.seq a b)) (λr n a b c j V X W Q k=>V λr=>X λa=>W λb=>Q λc=>cu n λn=>cu j λj=>k (.look r n a b c j)) (λr n a b c V X W Q k=>V λr=>X λa=>W λb=>Q λc=>cu n λn=>k (.has r n a b c)) (λn k=>cu n λn=>k (.v n)) (λr i j q V R k=>V λr=>R λi=>cu j λj=>k (.cell r i j q)) (λv k=>k (.k v)) e
mutual
def K.eZ:∀(e:K)(k:K->T),e.deep k=k e
 |.c n,k=>by show(ND n λn=>k (.c n))=_;rw[auC]
 |.v n,k=>by show(cu n λn=>k (.v n))=_;rw[ko]
 |.bin o q a b,k=>by show(K.deep a λa=>K.deep b λb=>k (.bin o q a b))=_;rw[K.eZ a,K.eZ b]
 |.conv q a,k=>by show(K.deep a λa=>k (.conv q a))=_;rw[K.eZ a]
 |.len r,k=>by show(RE.deep r λr=>k (.len r))=_;rw[RE.eZ r]
 |.mm m a b,k=>by show(K.deep a λa=>K.deep b λb=>k (.mm m a b))=_;rw[K.eZ a,K.eZ b]
 |.dg b x y,k=>by show(BE.deep b λb=>K.deep x λx=>K.deep y λy=>k (.dg b x y))=_;rw[BE.eZ b,K.eZ x,K.eZ y]
 |.cell r i j,k=>by show(RE.deep r λr=>K.deep i λi=>cu j λj=>k (.cell r i j))=_;rw[RE.eZ r,K.eZ i,ko]
 |.mV r i,k=>by show(RE.deep r λr=>K.deep i λi=>k (.mV r i))=_;rw[RE.eZ r,K.eZ i]
 |.look r n a b c j,k=>by show(RE.deep r λr=>K.deep a λa=>K.deep b λb=>K.deep c λc=>cu n λn=>cu j λj=>k (.look r n a b c j))=_;rw[RE.eZ r,K.eZ a,K.eZ b,K.eZ c,ko,ko]
def BE.eZ:∀(e:BE)(k:BE->T),e.deep k=k e
 |.c b,k=>rfl
 |.v n,k=>by show(cu n λn=>k (.v n))=_;rw[ko]
 |.cmp o a b,k=>by show(K.deep a λa=>K.deep b λb=>k (.cmp o a b))=_;rw[K.eZ a,K.eZ b]
 |.not a,k=>by show(BE.deep a λa=>k (.not a))=_;rw[BE.eZ a]
 |.and a b,k=>by show(BE.deep a λa=>BE.deep b λb=>k (.and a b))=_;rw[BE.eZ a,BE.eZ b]
 |.beq a b,k=>by show(BE.deep a λa=>BE.deep b λb=>k (.beq a b))=_;rw[BE.eZ a,BE.eZ b]
 |.dg b x y,k=>by show(BE.deep b λb=>BE.deep x λx=>BE.deep y λy=>k (.dg b x y))=_;rw[BE.eZ b,BE.eZ x,BE.eZ y]
 |.cell r i j,k=>by show(RE.deep r λr=>K.deep i λi=>cu j λj=>k (.cell r i j))=_;rw[RE.eZ r,K.eZ i,ko]
 |.seq a b,k=>by show(RE.deep a λa=>RE.deep b λb=>k (.seq a b))=_;rw[RE.eZ a,RE.eZ b]
 |.look r n a b c j,k=>by show(RE.deep r λr=>K.deep a λa=>K.deep b λb=>K.deep c λc=>cu n λn=>cu j λj=>k (.look r n a b c j))=_;rw[RE.eZ r,K.eZ a,K.eZ b,K.eZ c,ko,ko]
 |.has r n a b c,k=>by show(RE.deep r λr=>K.deep a λa=>K.deep b λb=>K.deep c λc=>cu n λn=>k (.has r n a b c))=_;rw[RE.eZ r,K.eZ a,K.eZ b,K.eZ c,ko]
def RE.eZ:∀(e:RE)(k:RE->T),e.deep k=k e
 |.v n,k=>by show(cu n λn=>k (.v n))=_;rw[ko]
 |.cell r i j q,k=>by show(RE.deep r λr=>K.deep i λi=>cu j λj=>k (.cell r i j q))=_;rw[RE.eZ r,K.eZ i,ko]
 |.k v,k=>rfl
end
def C.deep(v:C):(C->T)->T:=C.rec (motive_1:=λ_=>(C->T)->T) (motive_2:=λ_=>(av->T)->T) (λq e k=>e.deep λe=>k (.int q e)) (λb k=>b.deep λb=>k (.bool b)) (λr k=>r.deep λr=>k (.am r)) (λi o k=>cu i λi=>cu o λo=>k (.loc i o)) (λr w i o k=>r.deep λr=>i.deep λi=>cu w λw=>cu o λo=>k (.el r w i o)) (λi o l c k=>cu i λi=>cu o λo=>cu l λl=>cu c λc=>k (.iP i o l c)) (λl X k=>X λl=>k (.agg l)) (λl X k=>X λl=>k (.bP l)) (λf l X k=>X λl=>cu f λf=>k (.fn f l)) (λt x W k=>W λx=>k (.gJ t x)) (λn k=>cu n λn=>k (.yl n)) (λk=>k .any) (λi k=>cu i λi=>k (.mp i)) (λe R V Q k=>e.deep λe=>Q λV=>k (.fW e R V)) (λk=>k []) (λ_ _ W P k=>W λx=>P λO=>k (x::O)) v
def C.Cb(l:av):(av->T)->T:=C.rec_1 (motive_1:=λ_=>(C->T)->T) (motive_2:=λ_=>(av->T)->T) (λq e k=>e.deep λe=>k (.int q e)) (λb k=>b.deep λb=>k (.bool b)) (λr k=>r.deep λr=>k (.am r)) (λi o k=>cu i λi=>cu o λo=>k (.loc i o)) (λr w i o k=>r.deep λr=>i.deep λi=>cu w λw=>cu o λo=>k (.el r w i o)) (λi o l c k=>cu i λi=>cu o λo=>cu l λl=>cu c λc=>k (.iP i o l c)) (λl X k=>X λl=>k (.agg l)) (λl X k=>X λl=>k (.bP l)) (λf l X k=>X λl=>cu f λf=>k (.fn f l)) (λt x W k=>W λx=>k (.gJ t x)) (λn k=>cu n λn=>k (.yl n)) (λk=>k .any) (λi k=>cu i λi=>k (.mp i)) (λe R V Q k=>e.deep λe=>Q λV=>k (.fW e R V)) (λk=>k []) (λ_ _ W P k=>W λx=>P λO=>k (x::O)) l
mutual
def C.eZ:∀(v:C)(k:C->T),v.deep k=k v
 |.int q e,k=>by show(K.deep e λe=>k (.int q e))=_;rw[K.eZ]
 |.bool b,k=>by show(BE.deep b λb=>k (.bool b))=_;rw[BE.eZ]
 |.am r,k=>by show(RE.deep r λr=>k (.am r))=_;rw[RE.eZ]
 |.loc i o,k=>by show(cu i λi=>cu o λo=>k (.loc i o))=_;rw[ko,ko]
 |.el r w i o,k=>by show(RE.deep r λr=>K.deep i λi=>cu w λw=>cu o λo=>k (.el r w i o))=_;rw[RE.eZ,K.eZ,ko,ko]
 |.iP i o l c,k=>by show(cu i λi=>cu o λo=>cu l λl=>cu c λc=>k (.iP i o l c))=_;rw[ko,ko,ko,ko]
 |.agg l,k=>by show(C.Cb l λl=>k (.agg l))=_;rw[C.Gv l]
 |.bP l,k=>by show(C.Cb l λl=>k (.bP l))=_;rw[C.Gv l]
 |.fn f l,k=>by show(C.Cb l λl=>cu f λf=>k (.fn f l))=_;rw[C.Gv l,ko]
 |.gJ t x,k=>by show(C.deep x λx=>k (.gJ t x))=_;rw[C.eZ x]
 |.yl n,k=>by show(cu n λn=>k (.yl n))=_;rw[ko]
 |.any,k=>rfl
 |.mp i,k=>by show(cu i λi=>k (.mp i))=_;rw[ko]
 |.fW e W X,k=>by show(K.deep e λe=>C.Cb X λX=>k (.fW e W X))=_;rw[K.eZ,C.Gv X]
def C.Gv:∀(l:av)(k:av->T),C.Cb l k=k l
 |[],k=>rfl
 |x::X,k=>by show(C.deep x λx=>C.Cb X λX=>k (x::X))=_;rw[C.eZ x,C.Gv X]
end
def Zo(l:bE):(bE->T)->T:=xO (motive:=λ_=>(bE->T)->T) (λk=>k []) (λx _ V k=>Option.rec (motive:=λ_=>T) (V λX=>k (Z::X)) (λb=>Prod.rec (motive:=λ_=>T) (λt W=>cu t λt=>C.Cb W λW=>V λX=>k (U (t,W)::X)) b) x) l
def Zp:∀(l:bE)(k:bE->T),Zo l k=k l
 |[],_=>rfl
 |Z::X,k=>Zp X _
 |U (t,W)::X,k=>by
  show(cu t λt=>C.Cb W λW=>Zo X λX=>k (U (t,W)::X))=_;rw[ko,C.Gv,Zp]
def S.deep(s:S)(k:S->T):T:=S.rec (motive:=λ_=>T) (λX b W V R aA Q P=>C.Cb X λX=>Zo b λb=>cu W λW=>cu V λV=>Gu R λR=>cu aA λaA=>cu Q λQ=>Gu P λP=>k ⟨X,b,W,V,R,aA,Q,P⟩) s
def eZ(s:S)(k:S->T):s.deep k=k s:=by
 cases s;simp only[S.deep,Zl,ko,C.Gv,Zp]
def Zq(k:XE->S->T):XE->S->T:=λe s=>s.deep (k e)
def auD(k:XE->S->T):Zq k=k:=by funext e s;exact eZ s (k e)
def o9(l:aw):Nat:=xO (motive:=λ_=>Nat) 0 (λd _ m=>bY (lS 1 d) m) l
def DV(m n:Nat):Bool:=Ib (motive:=λ_=>Bool) J E (iO (Nat.land 1 (aqG m n)) 0)
def aje(m n:Nat):DV m n=m.testBit n:=by
 have:m.testBit n= !(iO (Nat.land 1 (aqG m n)) 0):=by
  show((1&&&(m>>>n))!=0)= !(iO (1&&&(m>>>n)) 0);cases h:iO (1&&&(m>>>n)) 0 with
  |true=>rw[aDl h];rfl
  |false=>simp only[bne,Bool.not_false,gO,beq_eq_false_iff_ne];exact λe=>by rw[e] at h;cases h
 rw[this,DV];cases iO (Nat.land 1 (aqG m n)) 0<;>rfl
def Su:∀(l:aw)(n:Nat),(o9 l).testBit n=l.contains n
 |[],n=>by simp[o9]
 |d::l,n=>by
  have:o9 (d::l)=(1<<<d)|||o9 l:=rfl;rw[this,Dh,Su l n,aqu,aDs];rw[tG];simp only[jd,cF,pz,dP];exact⟨λh=>h.imp Eq.symm id,λh=>h.imp Eq.symm id⟩
def auE(l:aw)(n:Nat):DV (o9 l) n=l.contains n:=by rw[aje,Su]
def Sv(a:fo)(m X:Nat)(W:av):Nat->av->av
 |_,[]=>[]
 |n,x::V=>(if DV X n then(uV n a.tm W).getD (if DV m n then .any else x) else if DV m n then .any else x)::Sv a m X W (n+1) V
def ajf{n:Nat}:∀{W:List (Nat×LK)}{X:av},(W.map (·.1)).contains n=E->uV n W X=Z
 |[],X,_=>by cases X<;>rfl
 |(t,k)::r,[],_=>rfl
 |(t,k)::r,v::R,h=>by
  simp only[eE,List.contains_cons,uK] at h;have V:(t==n)=false:=by
   have:=h.1;simp only[beq_eq_false_iff_ne,ne_eq] at this⊢;exact λe=>this e.symm
  simp only[uV,V,iW,ga];exact ajf h.2
def ajg(a:fo)(X:aw)(W:av):∀(n:Nat)(l:av),Sv a (o9 X) (o9 (a.tm.map (·.1))) W n l=zL a X W n l
 |_,[]=>rfl
 |n,x::V=>by
  simp only[Sv,zL,ajg a X W (n+1) V,auE];cases R:(a.tm.map (·.1)).contains n with
  |true=>rfl
  |false=>rw[ajf R];rfl
def NE(m:Nat):Nat->av->av->Bool
 |_,[],[]=>J
 |n,x::X,y::W=>(DV m n||C.aM x y)&&NE m (n+1) X W
 |_,_,_=>E
def Zr(a:fo)(X:aw):∀(n:Nat)(l k:av),NE (bY (o9 X) (o9 (a.tm.map (·.1)))) n l k=xV a X n l k
 |_,[],[]=>rfl
 |_,[],_::_=>rfl
 |_,_::_,[]=>rfl
 |n,x::W,y::V=>by
  simp only[NE,xV,Zr a X (n+1) W V];congr 1;have:DV (bY (o9 X) (o9 (a.tm.map (·.1)))) n=(a.tm.any (·.1==n)||X.contains n):=by
   rw[aje];change((o9 X)|||(o9 (a.tm.map (·.1)))).testBit n=_;rw[Dh,Su,Su,Bool.or_comm];congr 1;rw[tG,pz,kS];simp only[hJ,dv]
  rw[this]
def Zs(a:fo)(X:aw)(s:S):S:=
 let r:av×S:=S.cz {s with aA:=s.aA+1,rs:=iZ a s} a.ks
 {r.2 with tmps:=Sv a (o9 X) (o9 (a.tm.map (·.1))) r.1 0 s.tmps,au:=tN a (r.1.drop (Y a.tm)) 0 s.au}
def auF(a:fo)(X:aw)(s:S):Zs a X s=qn a X s:=by
 simp only[Zs,qn,ajg]
def Zt(W:fo)(V:aw)(s:S)(k:XE->S->T):XE->S->T
 |.normal,X=>if NE (bY (o9 V) (o9 (W.tm.map (·.1)))) 0 s.tmps X.tmps&&sn W 0 s.au X.au&&sq X W.ks (kf W X)&&xU (iZ W s) X.rs&&FO (iZ W s) (FN W X)&&decide (X.pd=s.pd) then .back s.aA (kf W X) else .stuck (afn W s X)
 |e,X=>k e X
def auG(X:fo)(W:aw)(s:S)(k:XE->S->T):Zt X W s k=QH X W s k:=by
 funext e V;cases e<;>simp only[Zt,QH,Zr]
def kq(X:bF):Nat->FuncId->Code->S->YH->(XE->S->T)->T
 |0,_,_,_,_,_=>.stuck ""
 |n+1,V,c,s,W,k=>
  match c with
  |.skip=>k .normal s
  |.label _=>k .normal s
  |.ret=>k .ret s
  |.exit id=>k (.exit id) s
  |.seq a b=>kq X n V a s W (QE (λP=>kq X n V b P W k) k)
  |.block id a=>kq X n V a s W (WS id k)
  |.scope a=>kq X n V a s W k
  |.cond c a b=>match s.ev X.gl c with
   |.bool (.c J)=>kq X n V a s W k
   |.bool (.c E)=>kq X n V b s W k
   |.bool x=>match c with
    |.tmp t=>.aW x (kq X n V a {s with tmps:=s.tmps.set t (.bool (.c J))} W k) (kq X n V b {s with tmps:=s.tmps.set t (.bool (.c E))} W k)
    |_=>.stuck ""
   |_=>.stuck ""
  |.region id R O=>match QL X V id s with
   |U (e,G,gE,ai)=>IF e gE (W8 (λP=>kq X n V (.region id R O) P W k) ai) (λP=>kq X n V (.region id R O) P W k) G
   |none=>s.Zm λs=>if O then
    match St X (!X.L9 V id) R s with
    |U c=>Mv X (jZ X (λf c s k=>kq X n f c s W k) W) R (Zq k) c
    |none=>match Zk R (Y s.au) with
    |U M=>if !Iu X R.toList then .stuck "" else Ca X (xZ X (Dw X R λf c s k=>kq X n f c s iK k) W) R (k .normal) (λv=>k (.bI v)) M (s.zO R M) []
    |none=>match St X E R s with
     |U c=>Mv X (jZ X (λf c s k=>kq X n f c s W k) W) R (Zq k) c
     |none=>.stuck ""
   else
   Ca X (WT (X.L9 V (id+1000000)) X (jZ X (λf c s k=>kq X n f c s W k) W)) R (k .normal) (λv=>k (.bI v)) (gG (λ_=>E) J E 0 (Y s.au) R.toList) (s.room (lC R.toList)) []
  |.loop a=>match(Code.first a).map (X.loop V) with
   |U (.inv Q)=>
    if !(W9 Q s).isEmpty then kq X n V (.loop a) (s.cY Q) W k else
    if !s.bd|| !sq s (Q.at s).ks (kf (Q.at s) s)|| !NE (bY (o9 (Code.oe a)) (o9 ((Q.at s).tm.map (·.1)))) 0 s.tmps s.tmps|| !sn (Q.at s) 0 s.au s.au|| !xU (iZ (Q.at s) s) s.rs|| !FO (iZ (Q.at s) s) (FN (Q.at s) s) then .stuck (afo (Q.at s) (Code.oe a) s) else
    .loop s.aA (Q.at s).ks (kf (Q.at s) s) (kq X n V a (Zs (Q.at s) (Code.oe a) s) W (Zt (Q.at s) (Code.oe a) s k))
   |_=>kq X n V a s W (QE (λP=>kq X n V (.loop a) P W k) k)
  |.rangeFunc f L assign body=>match s.ev X.gl f with
   |.fn g N=>match X.inl g with
    |U (c,F,[])=>
     if !s.eV N||s.wD (Y s.pd)||C.oT (Y s.pd) N||jN assign||jN body then .stuck "" else
     kq X n g c (ID s F N)
      (Ms (Y s.pd) L.size λD H B A=>
       kq X n V assign (BB H s L.toList D) iK (Mr (Y s.pd) λz=>
        kq X n V body (z.BC (Y s.pd) .busy) W (QI (Y s.pd) H B A))) (FX s k)
    |_=>.stuck ""
   |_=>.stuck ""
  |_=>.stuck ""
def NF(X:bF):∀n,kq X n=fH X n
 |0=>by funext W c s V k;rfl
 |n+1=>by
  have R:=NF X n;funext W c s V k;unfold kq fH;simp only[R,NC,auw,auy,auz,Zr,auF,auG,auD];cases c<;>rfl
def Zu(X:bF)(n:Nat)(V:FuncId)(c:Code)(R:Nat)(Q:mU)(W:av)(s:S):T:=
 kq X n V c {s with tmps:=W++eI (R-Y W) (.bP [])} iK (QM X (Y s.au) Q)
def auH(X:bF)(n:Nat)(W:FuncId)(c:Code)(V:Nat)(R:mU)(Q:av)(s:S):Zu X n W c V R Q s=Mx X n W c V R Q s:=by
 unfold Zu Mx;rw[NF]
def Zv(X:bF)(n:Nat)(Q:FuncId)(c:Code)(P:Nat)(O:mU)(V:TypeId)(R:av)(s:S):T:=match ya c with
 |U d=>Ca X (jZ X (λf c s k=>kq X n f c s iK k) iK) d.su (λW=>match W.tmps[d.te]? with
  |U (.loc i 0)=>if !qg V&&aL W.au i&&decide (d.tf<Y W.tmps) then kq X n Q d.rest (W.put (U d.tf) (.fn d.g [.loc i 0])) iK (Xb X (Y s.au) V i O) else .stuck ""
  |_=>.stuck "") (λ_ _=>.stuck "") (gG (λ_=>E) J E 0 (Y s.au) d.su.toList) (({s with tmps:=R++eI (P-Y R) (C.bP [])}:S).room (lC d.su.toList)) []
 |none=>.stuck ""
def auI(X:bF)(n:Nat)(W:FuncId)(c:Code)(V:Nat)(R:mU)(Q:TypeId)(P:av)(s:S):Zv X n W c V R Q P s=My X n W c V R Q P s:=by
 unfold Zv My;cases ya c with
 |none=>rfl
 |some d=>
  simp only[NF,NC];rfl
def ajh:oM->Option (FuncId×Nat)
 |[o]=>match o.op,o.guard,o.dst with
  |.defer X,Z,Z=>match X.callee,X.args.toList with
   |.value (.func g),[.tmp W]=>U (g,W)
   |_,_=>Z
  |_,_,_=>Z
 |_=>Z
def Sw:Code->Option (FuncId×Nat)
 |.region _ X E=>ajh X.toList
 |_=>Z
def auJ(cf:bF)(r:Nat)(j:mU):XE->S->T
 |.normal,X=>sx cf r j X
 |.ret,X=>sx cf r j X
 |_,_=>.stuck "panic"
def Sx(cf:bF)(n:Nat)(X:dI)(k:S->T)(s:S):T:=Ca cf (jZ cf (λf c s k=>kq cf n f c s iK k) iK) X k (λ_ _=>.stuck "panic") (gG (λ_=>E) J E 0 (Y s.au) X.toList) (s.room (lC X.toList)) []
def Zw(cf:bF)(n r:Nat)(j:mU):Code->S->T
 |.ret,s=>sx cf r j s
 |.seq (.region _ X E) .ret,s=>Sx cf n X (sx cf r j) s
 |_,_=>.stuck "early"
def JL(cf:bF)(n r:Nat)(j:mU):Code->(S->T)->S->T
 |.region _ X E,k,s=>Sx cf n X k s
 |.seq a b,k,s=>JL cf n r j a (JL cf n r j b k) s
 |.cond c a .skip,k,s=>match s.ev cf.gl c with
  |.bool x=>.aW x (Zw cf n r j a s) (k s)
  |_=>.stuck "cond"
 |_,_,_=>.stuck "prefix"
def Sy(cf:bF)(n:Nat)(X:FuncId)(r:Nat)(j:mU):Code->S->T
 |.seq a W,s=>match Sw a with
  |U (_,V)=>match s.tmps[V]? with
   |U (.loc i 0)=>if aL s.au i then kq cf n X W s iK (auJ cf r j) else .stuck "defer"
   |_=>.stuck "defer"
  |none=>JL cf n r j a (Sy cf n X r j W) s
 |_,_=>.stuck "no deferred call"
def Zx(cf:bF)(n:Nat)(W:FuncId)(c:Code)(V:Nat)(j:mU)(X:av)(s:S):T:=Sy cf n W (Y s.au) j c {s with tmps:=X++eI (V-Y X) (.bP [])}
structure Cc(P:Program)(g:FuncId):Prop where
 yp:∀args W,(callFunc g args).run P W=.ok (.enter g args) W
 ret:∀(W:World)(b:Nat),CallsDIn Fence.wide 0 P g #[.pointer (U ⟨b,0,Z⟩)] .returning W λen u W'=>(∃v,en=.returned v)/\u=.returning/\W'=W
def Gw:Code->Option FuncId
 |.seq a X=>match Sw a with
  |U (g,_)=>U g
  |none=>Gw X
 |_=>Z
section
variable{p:Sp}{cf:bF}{D:b9}{B:jF}{f:FuncId}{n r:Nat}{j:mU}
def aji(z:jr p cf)(c:∀r b,¬p.R (.panicked r) b)(hY:qA p cf D.dt B iK){Q:Exit->Act->World->Prop}{w:dI}{k:S->T}{a:Act}
  (hB:B.lG l N x e)(h:(Sx cf n w k l).aP p N e)(R:aC p.S0 p.w0 D cf.ty x N l a b)(hg:eL cf.gl N)
  (hk:∀G F u A H t,bH l N x G F u->di l.aA e t->aC p.S0 p.w0 D cf.ty u F G A H->(k G).aP p F t->Q .normal A H):jg Z f p.P (.region y w E) Q a b:=by
 obtain⟨Rr,o⟩:=R.room (lC w.toList);refine tX (n:=0) (wpIn_region ?_);unfold Sx at h;rw[NC,NF] at h;have m:=zZ (ops:=w) z.pt z.xR (yu Z) z.kZ (Ju z (Jy z n).1 hY) (D:=D) (k:=k) (kp:=λ_ _=>.stuck "panic") (Q:=Q) (λr A H pd X hA hR=>(c r H hR).elim) (n:=0) (gG (λ_=>E) J E 0 (Y l.au) w.toList) 0 _ [] e N _ _ b
  (λy m' hi=>by have:=Js _ _ _ _ _ _ _ _ hi;simpa using this) (hB.go o (di.refl _ _)) h (λM hx=>by cases hx) Rr hg (λG F u A H t j g d q=>hk G F u A H t (o.trans j) g d q) (λv G F u A H t j g d q=>q.elim)
 rw[RO] at m;simpa[P5] using m
def auK(y:jr p cf)(w:∀v b,¬p.R (.panicked v) b)(u:qA p cf D.dt B iK){Q:Exit->Act->World->Prop}{c:Code}{a:Act}
  (t:B.lG l N x e)(h:(Zw cf n r j c l).aP p N e)(R:aC p.S0 p.w0 D cf.ty x N l a b)(q:eL cf.gl N)
  (z:∀X M F H G A,aC p.S0 p.w0 D cf.ty F M X H G->(sx cf r j X).aP p M A->Q .ret H G):jg Z f p.P c Q a b:=by
 unfold Zw at h;split at h;exact tX (n:=0) (wpIn_ret (z l N x a b e R h));refine Gm (aji y w u t h R q ?_);intro X M F H G A _ _ o m;exact tX (n:=0) (wpIn_ret (z X M F H G A o m));exact h.elim
def auL(g:jr p cf)(e:∀ch W,¬p.R (.panicked ch) W)(hY:qA p cf D.dt B iK):∀(c:Code)(k:S->T)(Q:Exit->Act->World->Prop)(s:S)(L:dm)(O:ak)(V:aw)(a:Act)(W:World),
  B.lG s O V L->(JL cf n r j c k s).aP p O L->aC p.S0 p.w0 D cf.ty V O s a W->eL cf.gl O->
  (∀X N A H G w,bH s O V X N A->di s.aA L w->aC p.S0 p.w0 D cf.ty A N X H G->(k X).aP p N w->Q .normal H G)->
  (∀X N A H G w,aC p.S0 p.w0 D cf.ty A N X H G->(sx cf r j X).aP p N w->Q .ret H G)->jg Z f p.P c Q a W:=by
 intro c;induction c with
 |region i an d=>
  intro k Q s L O V a W F h R M v u;cases d with
  |true=>exact False.elim h
  |false=>exact aji g e hY F h R M v
 |seq x y ab aa=>
  intro k Q s L O V a W F h R M v u;refine Gm (ab (JL cf n r j y k) _ s L O V a W F h R M ?_ ?_);intro X N A H G w q hL R' ac;refine aa k Q X w N A H G (F.go q hL) ac R' (M.ext q.ext) ?_ u;intro s2 O2 V2 a2 W2 L2 af ag R2 al;exact v s2 O2 V2 a2 W2 L2 (q.trans af) (di.trans (m:=X.aA) hL ag q.aA) R2 al;exact u
 |cond x y z aa a0=>
  intro k Q s L O V a W F h R M v u;cases z with
  |skip=>
   simp only[JL] at h;split at h;rename_i b hc;have l:=du R M x (by rw[hc];rfl);rw[hc] at l;cases o:b.ah O;exact Jn (t:=E) (by simpa[C.ah,o] using l) (tX (n:=0) (wpIn_skip (v s O V a W L (bH.refl _ _ _) (di.refl _ _) R (h.2 o))));exact Jn (t:=J) (by simpa[C.ah,o] using l) (auK g e hY F (h.1 o) R M u);exact h.elim
  |_=>exact False.elim h
 |_=>intro k Q s L O V a W F h R M v u;exact False.elim h
def ajj(Q:jr p cf){M:Func}{a:Act}(R:aC p.S0 p.w0 D cf.ty x N l a b)(h:(sx cf r M.results.toList l).aP p N e):
  LeavesInM Fence.wide 0 p.P M a.tmps p.R [] .returning b:=by
 unfold sx at h;split at h;rename_i X H;refine⟨_,Jc R Q.kZ H, ?_⟩;exact h N.y x _ (by rw[Q.pt];exact(R.mem.take _).mb (Nj _));exact h.elim
def auM{c:Code}(h:Sw c=U (w,y)):∃i o X,c=.region i #[o] E/\o.op=.defer X/\X.callee=.value (.func w)/\X.args= #[.tmp y]/\o.guard=Z/\o.dst=none:=by
 unfold Sw at h;split at h;rename_i i W;unfold ajh at h;split at h;rename_i o V;split at h;rename_i X R Q P;split at h;rename_i M L O N;simp only[cG,Bh] at h;obtain⟨rfl,rfl⟩:=h;exact⟨i,o,X,by rw[show W= #[o] by apply mC;simp[V]],R,O,by apply mC;simp[N],Q,P⟩;cases h;cases h;cases h;cases h
def auN(A:jr p cf)(af:∀b W,¬p.R (.panicked b) W){N:Func}(hf:p.P.funcs[f]?=U N)(hY:qA p cf [] B iK):∀(c:Code)(s:S)(L:dm)(O:ak)(V:aw)(a:Act)(W:World),
  (∀g,Gw c=U g->Cc p.P g)->B.lG s O V L->(Sy cf n f r N.results.toList c s).aP p O L->aC p.S0 p.w0 ⟨[],[],J,[]⟩ cf.ty V O s a W->eL cf.gl O->
  jg Z f p.P c (bodyPostM Fence.wide 0 p.P N p.R) a W:=by
 intro c;induction c with
 |seq x ag _ ih=>
  intro s L O V a W aa hB h R F;simp only[Sy] at h;cases H:Sw x with
  |none=>
   rw[H] at h;simp only at h;refine Gm (auL (D:=⟨[],[],J,[]⟩) A af hY x _ _ s L O V a W hB h R F ?_ ?_);intro z w V' Q M t hl hL m ab;exact ih z t w V' Q M (λg a0=>aa g (by simp only[Gw,H];exact a0)) (hB.go hl hL) ab m (F.ext hl.ext);intro z w V' Q M t m ab;obtain⟨ms,G,l,-,-⟩:=m.cU.ma;have:=l rfl;subst this;show LeavesInM Fence.wide 0 p.P N Q.tmps p.R Q.defers .returning M;rw[show Q.defers=[] by simpa using G];exact ajj A m ab
  |some q=>
   obtain⟨g,te⟩:=q;rw[H] at h;simp only at h;obtain⟨i,o,dc,rfl,g1,g2,g3,g4,g5⟩:=auM H;have hc:=aa g (by simp only[Gw,H]);split at h;rename_i k a1;split at h;rename_i bs;have a3:a.tmps[te]?=U (.pointer (U ⟨ad V k,0,Z⟩)):=by
    rcases R.tmps _ _ a1 with h|h;cases h;exact h
   have a4:a.defers=[]:=by
    obtain⟨ms,G,l,-,-⟩:=R.cU.ma;have:=l rfl;subst this;simpa using G
   obtain⟨X,ac⟩:∃X:Deferred,X={target:=.fn (.func g) #[],args:= #[.pointer (U ⟨ad V k,0,Z⟩)]}:=⟨_,rfl⟩;have a9:eF p.w0 ⟨[],[],E,[X]⟩ s.pd O.y [X] W:=by
    have h:=R.cU;exact⟨h.len,h.qr,h.dt,h.inj,[],rfl,λ_=>rfl,ay,λd H=>by simp at H⟩
   have R2:aC p.S0 p.w0 ⟨[],[],E,[X]⟩ cf.ty V O s {a with defers:=[X]} W:=⟨R.mem,R.gv,R.ei,R.eb,R.er,a9,R.size,R.tmps,R.fZ⟩;refine Gm (tX (n:=0) (wpIn_region ?_));have ba:fU (#[o]:dI).size=[0]:=rfl;rw[ba];have e2:(execOp a.eval o).run p.P W=.ok (.defer X) W:=by
    have:a.eval (.tmp te)=.pointer (U ⟨ad V k,0,Z⟩):=by simp[Act.eval,aqi,a3]
    have h0:a.eval (.func g)=.func (.func g) #[] #[]:=rfl;simp[execOp,g1,resolve,g2,g3,this,h0,Deferred.ofValue,ac]
   have bb:∀y,lz o y=true:=λy=>by simp[lz,g4]
   have hF:=yu Z;show wpOpsIn _ 0 p.P #[o] _ [0] a W;simp only[wpOpsIn,aeR,zr,bb,cS];refine⟨λf _=>hF.fn f, ?_⟩;rw[show(M9 Z).round=Z from rfl,aqB,e2,aDD];have bd:({a with defers:=X::a.defers}:Act).put o.dst undef={a with defers:=[X]}:=by
    rw[g5,a4];rfl
   rw[bd];show jg Z f p.P ag (bodyPostM Fence.wide 0 p.P N p.R) _ W;rw[NF] at h;refine(Jy A n).1 ⟨[],[],E,[X]⟩ _ iK Z f ag _ _ L O V _ W _ (DQ _ _) (jF.here s O V L) rfl (λhh=>by cases hh) ⟨N,hf⟩ h R2 F (λb Q M pd y hA hR=>(af b M hR).elim) ?_;intro e z w V' Q M t hl hL RR j;obtain⟨al,G,l,q2,q3⟩:=RR.cU.ma;have R3:=RR.qz G;have bf:∀d0∈al,M.heap[d0]?=U (.deferred (U [])):=λd0 bg=>(q3 d0 (by simp[bg])).1
   have bk:al.Nodup:=(xL.1 q2).1;have bl:∀Wx,(invoke X.target X.args).run p.P Wx=.ok (.enter g #[.pointer (U ⟨ad V k,0,Z⟩)]) Wx:=λWx=>by
    rw[ac];simp[invoke,hc.yp]
   have an:(sx cf r N.results.toList z).aP p w t->LeavesInM Fence.wide 0 p.P N Q.tmps p.R Q.defers .returning M:=by
    intro br;rw[G];refine sL ay bk bf ⟨ay,.inr ⟨by simp[Fence.wide],_,_,_,_,by rw[ac],bl _,λg F=>trivial, ?_⟩⟩;refine(hc.ret _ _).mono ?_;rintro en u W4 ⟨⟨v,rfl⟩,rfl,rfl⟩;exact ajj (a:={Q with defers:=[X]}) A R3 br
   cases e with
   |normal=>exact an j
   |ret=>exact an j
   |exit id=>exact j.elim
   |bI v=>exact j.elim
   exact h.elim;exact h.elim
 |_=>intro s L O V a W aa hB h R F;exact False.elim h
def auO(M:jr p cf)(L:∀H W,¬p.R (.panicked H) W){X:Func}{c:Code}(Q:p.P.funcs[f]?=U X)(G:X.body=U c)(F:∀g,Gw c=U g->Cc p.P g)
    (A:(Zx cf n f c X.ntmps X.results.toList v l).aP p N [])(z:eL cf.gl N)(R:aC p.S0 p.w0 b9.none cf.ty x N {l with tmps:=[]} ⟨#[],[]⟩ p.w0):
  Calls p.P f (C.aF N x v).toArray p.w0 p.R:=by
 refine Jo Q G ?_;have w:eF p.w0 ⟨[],[],J,[]⟩ l.pd N.y [] p.w0:=by
  have h:=R.cU;exact⟨h.len,h.qr,h.dt,h.inj,[],rfl,λ_=>rfl,ay,λd u=>by simp at u⟩
 have RE:=R.enter v X.ntmps w;exact auN M L Q (DQ (p:=p) (cf:=cf) [] ⟨{l with tmps:=v++eI (X.ntmps-Y v) (.bP [])},N,x,[]⟩) c _ [] N x _ p.w0 F (jF.here _ _ _ _) A RE z
end
def Zy(cf:bF)(R:Option TypeId)(n:Nat)(X:FuncId)(c:Code)(W:Nat)(j:mU)(V:av)(s:S):T:=match R with
 |none=>Zu cf n X c W j V s
 |U 0=>Zx cf n X c W j V s
 |U Q=>Zv cf n X c W j Q V s
def Zz(P:Program)(c:Code)(X:Option TypeId):Prop:=match X with
 |none=>True
 |U 0=>∀g,Gw c=U g->Cc P g
 |U W=>∃d,ya c=U d/\wO P d.g W
section
variable{P:Program}{a:Ty}{M Q:FuncId->qZ}{bA:mK}{G:World->Prop}{H A:jC}{X d:aQ}
def auP{cf:bF}{x:Func}{c:Code}{F:bn->j5}{glk:bp}{glv:aH}{l:av}{q m:Nat}
  (ac:∀V R,(∀u W b o,V.heap.size<=b->R (.panicked u) W->R (.panicked u) (W.putObj b o))->jr ⟨P,a,[],V,b9.none,R,λ_ _ _=>False⟩ cf)(af:cf.ty=a)(ag:∀w,B9 P a M Q G w (bA w))(hG:∀W s,Below W.heap.size W s->G W->G s)
  (hf:P.funcs[w]?=U x)(hb:x.body=U c)(al:∀g,Gw c=U g->Cc P g)(an:M w=U A)(a0:Q w=U H)(a1:ip a A=U d)(j:ip a H=U X)
  (hl:jQ a A v=U l)(a3:rp 0 0 (Y glv) d l=J)(a4:k=glk++ju d)(a9:∀(L:Nat)(h:TypeId),k[L]?≠U (.own h))(ba:Y glv=Y glk)(hq:glv=[]\/t6 X=J)
  (bb:∀z B,ez d B->(fM z B).i.length=q)(bd:∀z B,ez d B->(fM z B).b.length=m)
  (bf:∀W,G W->∃z,JK a cf.gl glk glv W z)
  (ht:∀(p:Sp)(O:ak),h.aP p O []->(Zx cf y w c x.ntmps x.results.toList v ⟨[],[],q,m,k,0,0,[]⟩).aP p O [])(bg:∀B D,F B≠U (.bI D))
  (hF:∀B o,ez d B->F B=U o->∃N,run a M Q bA H N h (fM glv B) k []=U o):B9 P a M Q G w F:=by
 intro bl br bs bt e h2 h3 h4 xh B o ho hx aa W ab hH;rw[an] at e;cases e;rw[a0] at h2;cases h2;rw[a1] at h3;cases h3;rw[j] at h4;cases h4;obtain⟨N,hN⟩:=hF xh o (Sj aa hx) ho;obtain⟨z,hL⟩:=bf W ab;obtain⟨bk,hv,r⟩:=Zh af ag hG j hl a3 a4 a9 ba hq bb bd ab hL hN hx aa hH;rw[<-hv];refine auO (p:=JG P a W H X d B o) (cf:=cf) (ac W _ (Ze W)) (λu s r=> ?_) hf hb al (ht _ _ bk) (hL.Zg B) r;obtain⟨-,D,h5,-⟩:=r;exact bg xh D (by rw[ho,h5])
end
section
variable{bA u:mK}
def og(L:∀f H o,bA f H=U o->u f H=U o):∀(n R:Nat)(t:T)(O:ak)(i:mf)(o:bo),n<=R->exec bA n t O i=U o->exec u R t O i=U o
 |0,_,t,O,i,o,_,h=>by simp[exec] at h
 |n+1,0,t,O,i,o,G,h=>ae
 |n+1,R+1,t,O,i,o,G,h=>by
  have X:=og L n R;cases t with
  |ret v F Q=>simpa only[exec] using h
  |bI v=>simpa only[exec] using h
  |aW b t f=>
   simp only[exec] at h⊢;split at h;rename_i W;rw[aI W];exact X t O i o ae h;rename_i W;rw[aK W];exact X f O i o ae h
  |bz b t=>
   simp only[exec] at h⊢;split at h;rename_i W;rw[aI W];exact X t O i o ae h;cases h
  |call f D F Q B jf t=>
   simp only[exec] at h⊢;cases N:bA f ((rq D).map (C.xv O)) with
   |none=>rw[N] at h;cases h
   |some r=>
    rw[N] at h;rw[L _ _ _ N];cases r with
    |ret y=>
     simp only at h⊢;split at h;rename_i P;rw[aI P];exact X t _ i o ae h;cases h
    |bI v=>exact h
  |loop aA B w t=>
   simp only[exec] at h⊢;exact X t _ _ o ae h
  |back aA x=>
   simp only[exec] at h⊢;cases P:Ag aA i with
   |none=>rw[P] at h;cases h
   |some q=>
    obtain⟨A,p⟩:=q;rw[P] at h;exact X A.t _ _ o ae h
  |new e x Q l t=>
   simp only[exec] at h⊢;exact X t _ i o ae h
  |aj k x Q t=>
   simp only[exec] at h⊢;exact X t _ i o ae h
  |gE g z t f=>
   simp only[exec] at h⊢;split at h;rename_i M;rw[aI M];split at h;rename_i V;rw[aI V];exact aiT h (X t O i o ae) (X f O i o ae);rename_i V;rw[aK V];exact X t O i o ae h;rename_i M;rw[aK M];split at h;rename_i V;rw[aI V];exact X f O i o ae h;cases h
  |pick m g z t f=>
   simp only[exec] at h⊢;refine aiU h λj _ q=> ?_
   cases j with
   |some j=>exact X t _ i o ae q
   |none=>exact X f _ i o ae q
  |dO f g e d c r Q t=>
   simp only[exec] at h⊢;split at h;rename_i a aa;exact X t _ i o ae h;cases h
  |out e s=>simp[exec] at h
  |stuck m=>simp[exec] at h
end
def iV(n:Int):RV:=.mk (.int I n) []
def bV(b:Bool):RV:=.mk (.bool b) []
def sV(l:bq):RV:=.mk (.slice Z (Y l) (Y l)) (l.map λn=>[iV n])
def Ai(b:Nat)(X:ax):RV:=.mk (.slice (U ⟨b,0,Z⟩) (Y X) (Y X)) X
def DW:aH:=[
 Ai 0 ([(E,E,E,0,0,0),(J,J,E,1,0,16),(E,J,E,1,0,16),(J,J,E,0,3,0),(J,J,E,0,3,0),(E,J,E,0,3,0),(E,E,E,0,0,7),(E,E,J,0,0,0),(E,E,J,0,0,0),(J,E,E,0,3,0)].map λ(a,b,c,d,e,f)=>[bV a,bV b,bV c,iV d,iV e,iV f]),
 Ai 1 ([([],[]),([0],[]),([],[0,1]),([0],[]),([2],[]),([],[4]),([],[]),([],[2,3]),([],[0,1]),([2],[])].map λ(a,b)=>[sV a,sV b]),
 Ai 2 ([(0,29),(20,21),(29,0),(20,-21),(0,-29),(-20,-21),(-29,0),(-20,21)].map λ(a,b)=>[iV a,iV b])]
def lI(g:Bool):aH:=if g then DW else[]
def Aj(d:Bool):j5->j5
 |U (.ret X)=>U (.ret X)
 |U (.bI v)=>if d then Z else U (.bI v)
 |none=>Z
structure Fn where
 t:T
 g:Bool:=E
 d:Bool:=E
structure kL where
 tree:FuncId->Option Fn
 sM:mK
def kL.bA(p:kL):Nat->mK
 |0=>p.sM
 |n+1=>λf W=>match p.sM f W with
  |U o=>U o
  |none=>match p.tree f with
   |U X=>Aj X.d (exec (kL.bA p n) n X.t (fM (lI X.g) W) [])
   |none=>Z
def mM{p:kL}:∀(n W:Nat)(f:FuncId)(X:bn)(o:bo),n<=W->p.bA n f X=U o->p.bA W f X=U o
 |0,0,f,X,o,_,h=>h
 |0,W+1,f,X,o,_,h=>by
  simp only[kL.bA] at h⊢;rw[h]
 |n+1,0,f,X,o,M,_=>ae
 |n+1,W+1,f,X,o,M,h=>by
  simp only[kL.bA] at h⊢;cases Q:p.sM f X with
  |some P=>rw[Q] at h;exact h
  |none=>
   rw[Q] at h;simp only at h⊢;cases N:p.tree f with
   |none=>rw[N] at h;cases h
   |some V=>
    rw[N] at h;simp only at h⊢;cases R:exec (p.bA n) n V.t (fM (lI V.g) X) [] with
    |none=>rw[R] at h;cases h
    |some P=>
     rw[R] at h;rw[og (λf X o h=>mM n W f X o ae h) n W V.t _ _ P ae R];exact h
def kL.Ev(p:kL)(f:FuncId)(X:bn)(o:bo):Prop:=∃n,p.bA n f X=U o
def kL.Go(p:kL)(t:T)(O:ak)(i:mf)(o:bo):Prop:=∃n,exec (p.bA n) n t O i=U o
section
variable{p:kL}{O:ak}{i:mf}{o:bo}
def ajk{X:bn}(h:p.sM w X=U o):p.Ev w X o:=⟨0,h⟩
def auQ{W:bn}{X:Fn}(Q:p.tree w=U X)(P:p.sM w W=Z)(V:X.d=E\/∃R,o=.ret R)(h:p.Go X.t (fM (lI X.g) W) [] o):p.Ev w W o:=by
 obtain⟨n,h⟩:=h;refine⟨n+1, ?_⟩;simp only[kL.bA,P,Q,h];rcases V with V|⟨R,rfl⟩;cases o<;>simp[Aj,V];rfl
def go_of{t:T}:p.Go t O i o<->∃n,exec (p.bA (n+1)) (n+1) t O i=U o:=
 ⟨λ⟨n,h⟩=>⟨n,og (λf X o h=>mM n (n+1) f X o ae h) n (n+1) t O i o ae h⟩,λ⟨n,h⟩=>⟨n+1,h⟩⟩
def go_up{n m:Nat}{t:T}(h:exec (p.bA n) m t O i=U o):p.Go t O i o:=
 ⟨max n m,og (λf X o h=>mM n _ f X o ae h) m _ t O i o ae h⟩
@[simp] def go_ret {v:C} {X:bE}:p.Go (.ret v X k) O i o<->o=.ret ((Af v).map (C.xv O)):=by
 rw[go_of];simp only[exec,cG];exact⟨λ⟨_,h⟩=>h.symm,λh=>⟨0,h.symm⟩⟩
@[simp] def go_pan {v:C}:p.Go (.bI v) O i o<->(Gq O v).map .bI=U o:=by
 rw[go_of];simp only[exec];exact⟨λ⟨_,h⟩=>h,λh=>⟨0,h⟩⟩
@[simp] def go_node {b:BE} {t f:T}:p.Go (.aW b t f) O i o<->if b.ah O=J then p.Go t O i o else p.Go f O i o:=by
 rw[go_of];simp only[exec];split
 ·exact⟨λ⟨n,h⟩=>go_up h,λ⟨n,h⟩=>⟨n,og (λf X o h=>mM n (n+1) f X o ae h) n n t O i o ae h⟩⟩
 ·exact⟨λ⟨n,h⟩=>go_up h,λ⟨n,h⟩=>⟨n,og (λf X o h=>mM n (n+1) f X o ae h) n n f O i o ae h⟩⟩
@[simp] def go_need {b:BE} {t:T}:p.Go (.bz b t) O i o<->b.ah O=J/\p.Go t O i o:=by
 rw[go_of];simp only[exec];by_cases X:b.ah O=J
 ·simp only[X,cS,true_and];exact⟨λ⟨n,h⟩=>go_up h,λ⟨n,h⟩=>⟨n,og (λf W o h=>mM n (n+1) f W o ae h) n n t O i o ae h⟩⟩
 simp[X]
@[simp] def go_loop {aA:Nat} {W:aQ} {X:av} {t:T}:p.Go (.loop aA W X t) O i o<->p.Go t (O.ext (X.map (C.xv O))) (⟨aA,t,O⟩::i) o:=by
 rw[go_of];simp only[exec];exact⟨λ⟨n,h⟩=>go_up h,λ⟨n,h⟩=>⟨n,og (λf V o h=>mM n (n+1) f V o ae h) n n t _ _ o ae h⟩⟩
@[simp] def go_new {e:TypeId} {x:LE} {X W:bp} {t:T}:p.Go (.new e x X W t) O i o<->p.Go t (O.add (.r (iq x O))) i o:=by
 rw[go_of];simp only[exec];exact⟨λ⟨n,h⟩=>go_up h,λ⟨n,h⟩=>⟨n,og (λf V o h=>mM n (n+1) f V o ae h) n n t _ _ o ae h⟩⟩
@[simp] def go_rows {k:RK} {x:LE} {X:bp} {t:T}:p.Go (.aj k x X t) O i o<->p.Go t (O.add (.r (iq x O))) i o:=by
 rw[go_of];simp only[exec];exact⟨λ⟨n,h⟩=>go_up h,λ⟨n,h⟩=>⟨n,og (λf W o h=>mM n (n+1) f W o ae h) n n t _ _ o ae h⟩⟩
def go_turn{f g:FuncId}{e:TypeId}{X:bm}{W:Bool}{r:RE}{R:bp}{t:T}{V:ax}(h:nf O X W (r.rv O).aj=U V):p.Go (.dO f g e X W r R t) O i o<->p.Go t (O.add (.r (.mk (r.rv O).val V))) i o:=by
 rw[go_of];simp only[exec,h];exact⟨λ⟨n,h⟩=>go_up h,λ⟨n,h⟩=>⟨n,og (λf Q o h=>mM n (n+1) f Q o ae h) n n t _ _ o ae h⟩⟩
def go_back{W:mf}{X:Lp}(h:Ag y i=U (X,W)):p.Go (.back y v) O i o<->p.Go X.t (X.O.ext (v.map (C.xv O))) (X::W) o:=by
 rw[go_of];simp only[exec,h];exact⟨λ⟨n,h⟩=>go_up h,λ⟨n,h⟩=>⟨n,og (λf V o h=>mM n (n+1) f V o ae h) n n X.t _ _ o ae h⟩⟩
def go_call{f:FuncId}{V:av}{Q:bE}{P:bp}{R:aQ}{jf:C}{t:T}{X:bn}(h:p.Ev f ((rq V).map (C.xv O)) (.ret X))(N:mL R X=J)(W:p.Go t (O.ext X) i o):p.Go (.call f V Q P R jf t) O i o:=by
 obtain⟨n,h⟩:=h;obtain⟨m,W⟩:=W;refine⟨max n m+1, ?_⟩;simp only[exec];rw[mM n _ _ _ _ ae h];simp only[N,cS];exact og (λf M o h=>mM m _ f M o ae h) m _ t _ _ o ae W
def go_callp{f:FuncId}{X:av}{W:bE}{V:bp}{R:aQ}{jf:C}{t:T}{v:Value}(h:p.Ev f ((rq X).map (C.xv O)) (.bI v)):p.Go (.call f X W V R jf t) O i (.bI v):=by
 obtain⟨n,h⟩:=h;refine⟨n+1, ?_⟩;simp only[exec];rw[mM n _ _ _ _ ae h]
end
structure PC where
 aA:Nat
 I:bn->Prop
 μ:bn->Nat
 m:Nat
abbrev dj:=List PC
def Gx(aA:Nat):dj->Option PC
 |[]=>Z
 |x::X=>if x.aA=aA then U x else Gx aA X
def Sz(R:bo->Prop):Prop:=∀o X,R o->R X->o=X/\B8 o o=J
def T.mN(W:FuncId->bn->bo->Prop):T->(bo->Prop)->ak->dj->Prop
 |.ret v _ _,R,O,_=>R (.ret ((Af v).map (C.xv O)))
 |.bI v,R,O,_=>∃x,Gq O v=U x/\R (.bI x)
 |.aW b t f,R,O,L=>(b.ah O=J->t.mN W R O L)/\(b.ah O=E->f.mN W R O L)
 |.bz b t,R,O,L=>b.ah O=J/\t.mN W R O L
 |.call f G _ _ F _ t,R,O,L=>∃o,W f ((rq G).map (C.xv O)) o/\(match o with
  |.ret N=>mL F N=J/\t.mN W R (O.ext N) L
  |.bI v=>R (.bI v))
 |.loop aA _ D t,R,O,L=>∃V Q,((V=R/\Q=L)\/((∀o,V o->R o)/\Q=[]))/\∃X M,X (D.map (C.xv O))/\∀P,X P->t.mN W V (O.ext P) (⟨aA,X,M,M P⟩::Q)
 |.back aA x,R,O,L=>match Gx aA L with
  |U c=>c.I (x.map (C.xv O))/\c.μ (x.map (C.xv O))<c.m
  |none=>False
 |.new _ x _ _ t,R,O,L=>t.mN W R (O.add (.r (iq x O))) L
 |.aj _ x _ t,R,O,L=>t.mN W R (O.add (.r (iq x O))) L
 |.gE g h t f,R,O,L=>(g.ah O=J\/h.ah O=J)/\(g.ah O=J->t.mN W R O L)/\(h.ah O=J->f.mN W R O L)/\(g.ah O=J->h.ah O=J->Sz R)
 |.pick n g h t f,R,O,L=>Sz R/\wN n g h O≠[]/\(∀j:Int,0<=j->j<n.ah O->g.ah (O.add (.i j))=J->t.mN W R (O.add (.i j)) L)/\(h.ah O=J->f.mN W R O L)
 |.dO _ _ _ B A r _ t,R,O,L=>∃H,nf O B A (r.rv O).aj=U H/\t.mN W R (O.add (.r (.mk (r.rv O).val H))) L
 |.stuck _,_,_,_=>False
 |.out _ _,_,_,_=>False
def T.wp(X:FuncId->bn->bo->Prop)(R:bo->Prop)(t:T)(O:ak)(L:dj):Prop:=t.mN X R O L
section
variable{a:kL}{R:bo->Prop}
inductive Ak(a:kL)(R:bo->Prop):List PC->List Lp->Prop where
 |nil (st:List Lp):Ak a R [] st
 |cons (c:PC) (fr:Lp) (L:List PC) (st:List Lp) (h1:c.aA=fr.aA) (h2:∀xs,c.I xs->c.μ xs<c.m->∃o,a.Go fr.t (fr.O.ext xs) (fr::st) o/\R o) (h3:Ak a R L st):Ak a R (c::L) (fr::st)
def Ak.find{L:dj}{V:mf}(h:Ak a R L V){c:PC}(W:Gx y L=U c):
  ∃X N,Ag y V=U (X,N)/\∀Q,c.I Q->c.μ Q<c.m->∃o,a.Go X.t (X.O.ext Q) (X::N) o/\R o:=by
 induction h with
 |nil _=>cases W
 |cons F X L V M H D G=>
  simp only[Gx] at W;simp only[Ag,<-M];split at W;rename_i P;cases W;rw[aI P];exact⟨X,V,rfl,H⟩;rename_i P;rw[aK P];exact G W
def go_mono{t:T}{O:ak}{X:mf}{o:bo}{n m:Nat}(h:exec (a.bA n) n t O X=U o)(W:n<=m):exec (a.bA m) m t O X=U o:=
 og (λf V o h=>mM n m f V o W h) n m t O X o W h
def ajl{X:Type}{f:X->j5}{o:bo}(W:B8 o o=J):∀{l:List X},l≠[]->(∀x∈l,f x=U o)->tZ (l.map f)=U o
 |[],h,_=>aY rfl h
 |[x],_,h=>by simpa[tZ] using h x ay
 |x::y::r,_,h=>by
  have:=ajl W (l:=y::r) ay (λz V=>h z (by simp at V⊢;exact .inr V));simp only[eE,tZ] at this⊢;rw[this,h x ay,Ae,aI W]
def ajm{V:Type}{p:V->Nat->Prop}(W:∀x n m,p x n->n<=m->p x m):∀{l:List V},(∀x∈l,∃n,p x n)->∃n,∀x∈l,p x n
 |[],_=>⟨0,λx Q=>by cases Q⟩
 |x::r,h=>by
  obtain⟨n,P⟩:=h x ay;obtain⟨m,O⟩:=ajm W (l:=r) (λz X=>h z (by simp[X]));refine⟨max n m,λz X=> ?_⟩;rcases dP.1 X with rfl|X;exact W _ _ _ P ae;exact W _ _ _ (O z X) ae
def go_wp:∀(t:T)(R:bo->Prop)(O:ak)(L:dj)(W:mf),t.mN a.Ev R O L->Ak a R L W->∃o,a.Go t O W o/\R o
 |.ret v bx y,R,O,L,W,h,_=>⟨_,go_ret.2 rfl,h⟩
 |.bI v,R,O,L,W,h,_=>by
  obtain⟨x,P,Q⟩:=h;exact⟨.bI x,go_pan.2 (by rw[P];rfl),Q⟩
 |.aW b t f,R,O,L,W,h,V=>by
  simp only[go_node];cases hb:b.ah O with
  |true=>simpa using go_wp t R O L W (h.1 hb) V
  |false=>simpa using go_wp f R O L W (h.2 hb) V
 |.bz b t,R,O,L,W,h,V=>by
  obtain⟨o,P,Q⟩:=go_wp t R O L W h.2 V;exact⟨o,go_need.2 ⟨h.1,P⟩,Q⟩
 |.call f a1 bx y ks jf t,R,O,L,W,h,V=>by
  obtain⟨o,P,Q⟩:=h;cases o with
  |ret ys=>
   obtain⟨o,G,F⟩:=go_wp t R (O.ext ys) L W Q.2 V;exact⟨o,go_call P Q.1 G,F⟩
  |bI v=>exact⟨.bI v,go_callp P,Q⟩
 |.loop aA ks x0 t,R,O,L,W,h,V=>by
  obtain⟨w,L',ab,X,μ,P,Q⟩:=h;have aa:Ak a w L' W/\∀o,w o->R o:=by
   rcases ab with⟨rfl,rfl⟩|⟨G,rfl⟩;exact⟨V,λo h=>h⟩;exact⟨Ak.nil W,G⟩
  have ac:∀n N,μ N<n->X N->∃o,a.Go t (O.ext N) (⟨aA,t,O⟩::W) o/\w o:=by
   intro n;induction n with
   |zero=>intro N d;omega
   |succ n ih=>
    intro N d hI;exact go_wp t w (O.ext N) _ _ (Q N hI) (Ak.cons _ _ _ _ rfl (λaf ag hm=>ih af (by simp only at hm;omega) ag) aa.1)
  obtain⟨o,G,F⟩:=ac _ _ (Nat.lt_succ_self _) P;exact⟨o,go_loop.2 G,aa.2 o F⟩
 |.back aA x,R,O,L,W,h,V=>by
  simp only[T.mN] at h;split at h
  ·rename_i c hf;obtain⟨fr,a3,P,Q⟩:=V.find hf;obtain⟨o,G,F⟩:=Q _ h.1 h.2;exact⟨o,(go_back P).2 G,F⟩
  exact h.elim
 |.new e x y a4 t,R,O,L,W,h,V=>by
  obtain⟨o,P,Q⟩:=go_wp t R _ L W h V;exact⟨o,go_new.2 P,Q⟩
 |.aj e x y t,R,O,L,W,h,V=>by
  obtain⟨o,P,Q⟩:=go_wp t R _ L W h V;exact⟨o,go_rows.2 P,Q⟩
 |.gE g z t f,R,O,L,W,h,V=>by
  obtain⟨u,P,Q,G⟩:=h;cases A:g.ah O with
  |true=>
   obtain⟨o,M,D⟩:=go_wp t R O L W (P A) V;cases B:z.ah O with
   |true=>
    obtain⟨o',k1,k2⟩:=go_wp f R O L W (Q B) V;obtain⟨rfl,e⟩:=G A B o o' D k2;obtain⟨n,M⟩:=M;obtain⟨m,k1⟩:=k1;refine⟨o,⟨max n m+1, ?_⟩,D⟩;simp only[exec,A,B,cS];rw[og (λf N o h=>mM n _ f N o ae h) n (max n m) t O W o ae M,og (λf N o h=>mM m _ f N o ae h) m (max n m) f O W o ae k1,Ae,aI e]
   |false=>
    obtain⟨n,M⟩:=M;refine⟨o,⟨n+1, ?_⟩,D⟩;simp only[exec,A,B,cS];exact og (λf N o h=>mM n _ f N o ae h) n n t O W o ae M
  |false=>
   have B:z.ah O=true:=u.resolve_left (by simp[A]);obtain⟨o,M,D⟩:=go_wp f R O L W (Q B) V;obtain⟨n,M⟩:=M;refine⟨o,⟨n+1, ?_⟩,D⟩;simp only[exec,A,B,cS];exact og (λf N o h=>mM n _ f N o ae h) n n f O W o ae M
 |.pick m g z t f,R,O,L,W,h,V=>by
  obtain⟨hs,u,P,Q⟩:=h;have hw:∀j∈wN m g z O,∃o,R o/\(match j with
   |U j=>a.Go t (O.add (.i j)) W o
   |none=>a.Go f O W o):=by
   intro j H;cases j with
   |some j=>
    simp only[wN,eP,hJ,pB,zv] at H;rcases H with⟨j',⟨⟨k,hk,rfl⟩,A⟩,e⟩|H
    ·cases e;obtain⟨o,M,D⟩:=go_wp t R (O.add (.i (k:Int))) L W (P _ ae ae A) V;exact⟨o,D,M⟩
    split at H<;>simp at H
   |none=>
    simp only[wN,eP,hJ,pB,zv] at H;rcases H with⟨j',_,e⟩|H;cases e;split at H
    ·rename_i B;obtain⟨o,M,D⟩:=go_wp f R O L W (Q B) V;exact⟨o,D,M⟩
    simp at H
  obtain⟨j0,al⟩:=List.exists_mem_of_ne_nil _ u;obtain⟨o,q,_⟩:=hw j0 al;have an:B8 o o=true:=(hs o o q q).2;obtain⟨n,d⟩:=ajm (p:=λj n=>(match j with
   |U j=>exec (a.bA n) n t (O.add (.i j)) W
   |none=>exec (a.bA n) n f O W)=U o) (λx n m hx a0=>by cases x<;>exact go_mono hx a0) (l:=wN m g z O) (λj H=>by
    obtain⟨o',G,F⟩:=hw j H;obtain⟨rfl,_⟩:=hs o o' q G;cases j<;>exact F)
  refine⟨o,⟨n+1, ?_⟩,q⟩;simp only[exec];refine ajl an u λj H=> ?_
  have:=d j H;cases j with
  |some j=>exact og (λf N o h=>mM n _ f N o ae h) n n t _ W o ae this
  |none=>exact og (λf N o h=>mM n _ f N o ae h) n n f O W o ae this
 |.dO f g e sp sb r y t,R,O,L,W,h,V=>by
  obtain⟨a9,P,Q⟩:=h;obtain⟨o,G,F⟩:=go_wp t R _ L W Q V;exact⟨o,(go_turn P).2 G,F⟩
 |.stuck m,R,O,L,W,h,_=>h.elim
 |.out e s,R,O,L,W,h,_=>h.elim
def JM(a:kL)(f:FuncId)(X:Fn):Prop:=a.tree f=U X/\∀W,a.sM f W=Z
def ajn{X:Fn}{W:bn}(V:JM a w X)(P:X.d=E\/∀v,¬R (.bI v))(h:X.t.wp a.Ev R (fM (lI X.g) W) []):∃o,a.Ev w W o/\R o:=by
 obtain⟨o,O,Q⟩:=go_wp X.t R _ [] [] h (Ak.nil []);refine⟨o,auQ V.1 (V.2 _) (P.imp id λN=> ?_) O,Q⟩;cases o with
 |ret M=>exact⟨M,rfl⟩
 |bI v=>exact(N v Q).elim
def Gy{X:Fn}{W:bn}{o:bo}(V:JM a w X)(Q:X.d=E\/∀v,o≠ .bI v)(h:X.t.wp a.Ev (· =o) (fM (lI X.g) W) []):a.Ev w W o:=by
 obtain⟨L,P,O⟩:=ajn (R:=(· =o)) V (Q.imp id λN v M=>N v M.symm) h;exact O▸P
def ZA{X:bn}{o W:bo}(h:a.Ev w X o)(k:a.Ev w X W):o=W:=by
 obtain⟨n,h⟩:=h;obtain⟨m,k⟩:=k;have Q:=mM n (max n m) w X o ae h;have V:=mM m (max n m) w X W ae k;rw[Q] at V;cases V;rfl
end
def SA(n j:Nat)(a b c:Int)(X:ax):Int:=match iE n [a,b,c] X with
 |U W=>bS (W.getD j default).val
 |none=>0
def SB(n j:Nat)(a b c:Int)(X:ax):Bool:=match iE n [a,b,c] X with
 |U W=>jp (W.getD j default).val
 |none=>E
def K.dn(e:K):ak->Int:=K.rec (motive_1:=λ_=>ak->Int) (motive_2:=λ_=>ak->Bool) (motive_3:=λ_=>ak->RV) (λn _=>n) (λk O=>O.i.getD k 0) (λX k _ _ a b O=>aU X k (a O) (b O)) (λk _ a O=>k.wrap (a O)) (λ_ r O=>lenOf (r O).val) (λW _ _ a b O=>cond W (max (a O) (b O)) (min (a O) (b O))) (λ_ _ _ b x y O=>cond (b O) (x O) (y O)) (λ_ _ j r i O=>bS (bQ (r O).aj (i O) j).val) (λ_ _ r i O=>kg (r O).val (i O)) (λ_ n _ _ _ j r a b c O=>SA n j (a O) (b O) (c O) (r O).aj) (λb _=>b) (λk O=>O.b.getD k E) (λX _ _ a b O=>gX X (a O) (b O)) (λ_ a O=> !(a O)) (λ_ _ a b O=>a O&&b O) (λ_ _ a b O=>a O==b O) (λ_ _ _ b x y O=>cond (b O) (x O) (y O)) (λ_ _ j r i O=>jp (bQ (r O).aj (i O) j).val) (λ_ _ a b O=>sy (a O).val (b O).val) (λ_ n _ _ _ j r a b c O=>SB n j (a O) (b O) (c O) (r O).aj) (λ_ n _ _ _ r a b c O=>(iE n [a O,b O,c O] (r O).aj).isSome) (λk O=>O.rv k) (λ_ _ j k r i O=>ee k (bQ (r O).aj (i O) j)) (λv _=>.mk v []) e
def BE.dn(e:BE):ak->Bool:=BE.rec (motive_1:=λ_=>ak->Int) (motive_2:=λ_=>ak->Bool) (motive_3:=λ_=>ak->RV) (λn _=>n) (λk O=>O.i.getD k 0) (λX k _ _ a b O=>aU X k (a O) (b O)) (λk _ a O=>k.wrap (a O)) (λ_ r O=>lenOf (r O).val) (λW _ _ a b O=>cond W (max (a O) (b O)) (min (a O) (b O))) (λ_ _ _ b x y O=>cond (b O) (x O) (y O)) (λ_ _ j r i O=>bS (bQ (r O).aj (i O) j).val) (λ_ _ r i O=>kg (r O).val (i O)) (λ_ n _ _ _ j r a b c O=>SA n j (a O) (b O) (c O) (r O).aj) (λb _=>b) (λk O=>O.b.getD k E) (λX _ _ a b O=>gX X (a O) (b O)) (λ_ a O=> !(a O)) (λ_ _ a b O=>a O&&b O) (λ_ _ a b O=>a O==b O) (λ_ _ _ b x y O=>cond (b O) (x O) (y O)) (λ_ _ j r i O=>jp (bQ (r O).aj (i O) j).val) (λ_ _ a b O=>sy (a O).val (b O).val) (λ_ n _ _ _ j r a b c O=>SB n j (a O) (b O) (c O) (r O).aj) (λ_ n _ _ _ r a b c O=>(iE n [a O,b O,c O] (r O).aj).isSome) (λk O=>O.rv k) (λ_ _ j k r i O=>ee k (bQ (r O).aj (i O) j)) (λv _=>.mk v []) e
def RE.dn(e:RE):ak->RV:=RE.rec (motive_1:=λ_=>ak->Int) (motive_2:=λ_=>ak->Bool) (motive_3:=λ_=>ak->RV) (λn _=>n) (λk O=>O.i.getD k 0) (λX k _ _ a b O=>aU X k (a O) (b O)) (λk _ a O=>k.wrap (a O)) (λ_ r O=>lenOf (r O).val) (λW _ _ a b O=>cond W (max (a O) (b O)) (min (a O) (b O))) (λ_ _ _ b x y O=>cond (b O) (x O) (y O)) (λ_ _ j r i O=>bS (bQ (r O).aj (i O) j).val) (λ_ _ r i O=>kg (r O).val (i O)) (λ_ n _ _ _ j r a b c O=>SA n j (a O) (b O) (c O) (r O).aj) (λb _=>b) (λk O=>O.b.getD k E) (λX _ _ a b O=>gX X (a O) (b O)) (λ_ a O=> !(a O)) (λ_ _ a b O=>a O&&b O) (λ_ _ a b O=>a O==b O) (λ_ _ _ b x y O=>cond (b O) (x O) (y O)) (λ_ _ j r i O=>jp (bQ (r O).aj (i O) j).val) (λ_ _ a b O=>sy (a O).val (b O).val) (λ_ n _ _ _ j r a b c O=>SB n j (a O) (b O) (c O) (r O).aj) (λ_ n _ _ _ r a b c O=>(iE n [a O,b O,c O] (r O).aj).isSome) (λk O=>O.rv k) (λ_ _ j k r i O=>ee k (bQ (r O).aj (i O) j)) (λv _=>.mk v []) e
def SC{X:Type}(b:Bool)(x y:X):cond b x y=if b then x else y:=by cases b<;>rfl
mutual
def K.fO:∀(e:K)(O:ak),e.dn O=e.ah O
 |.c _,_=>rfl
 |.v _,_=>rfl
 |.bin o k a b,O=>by show aU o k (a.dn O) (b.dn O)=_;rw[K.fO a,K.fO b];rfl
 |.conv k a,O=>by show k.wrap (a.dn O)=_;rw[K.fO a];rfl
 |.len r,O=>by show lenOf (r.dn O).val=_;rw[RE.fO r];rfl
 |.mm m a b,O=>by show cond m (max (a.dn O) (b.dn O)) (min (a.dn O) (b.dn O))=_;rw[K.fO a,K.fO b,SC];rfl
 |.dg b x y,O=>by show cond (b.dn O) (x.dn O) (y.dn O)=_;rw[BE.fO b,K.fO x,K.fO y,SC];rfl
 |.cell r i j,O=>by show bS (bQ (r.dn O).aj (i.dn O) j).val=_;rw[RE.fO r,K.fO i];rfl
 |.mV r i,O=>by show kg (r.dn O).val (i.dn O)=_;rw[RE.fO r,K.fO i];rfl
 |.look r n a b c j,O=>by show SA n j (a.dn O) (b.dn O) (c.dn O) (r.dn O).aj=_;rw[RE.fO r,K.fO a,K.fO b,K.fO c];rfl
def BE.fO:∀(e:BE)(O:ak),e.dn O=e.ah O
 |.c _,_=>rfl
 |.v _,_=>rfl
 |.cmp o a b,O=>by show gX o (a.dn O) (b.dn O)=_;rw[K.fO a,K.fO b];rfl
 |.not a,O=>by show(!(a.dn O))=_;rw[BE.fO a];rfl
 |.and a b,O=>by show(a.dn O&&b.dn O)=_;rw[BE.fO a,BE.fO b];rfl
 |.beq a b,O=>by show(a.dn O==b.dn O)=_;rw[BE.fO a,BE.fO b];rfl
 |.dg b x y,O=>by show cond (b.dn O) (x.dn O) (y.dn O)=_;rw[BE.fO b,BE.fO x,BE.fO y,SC];rfl
 |.cell r i j,O=>by show jp (bQ (r.dn O).aj (i.dn O) j).val=_;rw[RE.fO r,K.fO i];rfl
 |.seq a b,O=>by show sy (a.dn O).val (b.dn O).val=_;rw[RE.fO a,RE.fO b];rfl
 |.look r n a b c j,O=>by show SB n j (a.dn O) (b.dn O) (c.dn O) (r.dn O).aj=_;rw[RE.fO r,K.fO a,K.fO b,K.fO c];rfl
 |.has r n a b c,O=>by show(iE n [a.dn O,b.dn O,c.dn O] (r.dn O).aj).isSome=_;rw[RE.fO r,K.fO a,K.fO b,K.fO c];rfl
def RE.fO:∀(e:RE)(O:ak),e.dn O=e.rv O
 |.v _,_=>rfl
 |.cell r i j k,O=>by show ee k (bQ (r.dn O).aj (i.dn O) j)=_;rw[RE.fO r,K.fO i];rfl
 |.k _,_=>rfl
end
def fN{X:Type}(n:Nat)(k:Nat->X):X:=Fp (motive:=λ_=>X) (k 0) (λm _=>k (Nat.succ m)) n
def fI{X:Type}(n:Int)(k:Int->X):X:=Int.rec (motive:=λ_=>X) (λn=>fN n λn=>k (ae7 n)) (λn=>fN n λn=>k (ae5 n)) n
def fB{X:Type}(b:Bool)(k:Bool->X):X:=Ib (motive:=λ_=>X) (k E) (k J) b
def fV{X:Type}(v:Value)(k:Value->X):X:=match v with
 |.int q n=>fI n λn=>k (.int q n)
 |.bool b=>fB b λb=>k (.bool b)
 |.slice Z n c=>fN n λn=>fN c λc=>k (.slice Z n c)
 |v=>k v
def fR{X:Type}(v:RV):(RV->X)->X:=RV.rec (motive_1:=λ_=>(RV->X)->X) (motive_2:=λ_=>(ax->X)->X) (motive_3:=λ_=>(aH->X)->X) (λv _ h k=>fV v λv=>h λl=>k (.mk v l)) (λk=>k []) (λ_ _ h W k=>h λx=>W λV=>k (x::V)) (λk=>k []) (λ_ _ h W k=>h λx=>W λV=>k (x::V)) v
def ZB{X:Type}(v:ax):(ax->X)->X:=RV.rec_1 (motive_1:=λ_=>(RV->X)->X) (motive_2:=λ_=>(ax->X)->X) (motive_3:=λ_=>(aH->X)->X) (λv _ h k=>fV v λv=>h λl=>k (.mk v l)) (λk=>k []) (λ_ _ h W k=>h λx=>W λV=>k (x::V)) (λk=>k []) (λ_ _ h W k=>h λx=>W λV=>k (x::V)) v
def ZC{X:Type}(v:aH):(aH->X)->X:=RV.rec_2 (motive_1:=λ_=>(RV->X)->X) (motive_2:=λ_=>(ax->X)->X) (motive_3:=λ_=>(aH->X)->X) (λv _ h k=>fV v λv=>h λl=>k (.mk v l)) (λk=>k []) (λ_ _ h W k=>h λx=>W λV=>k (x::V)) (λk=>k []) (λ_ _ h W k=>h λx=>W λV=>k (x::V)) v
def fX{X:Type}(x:XV)(k:XV->X):X:=match x with
 |.i n=>fI n λn=>k (.i n)
 |.b b=>fB b λb=>k (.b b)
 |.r v=>fR v λv=>k (.r v)
def fL{X:Type}(l:bn):(bn->X)->X:=xO (motive:=λ_=>(bn->X)->X) (λk=>k []) (λx _ W k=>fX x λx=>W λV=>k (x::V)) l
def SD{X:Type}:∀(n:Nat)(k:Nat->X),fN n k=k n
 |0,_=>rfl
 |_+1,_=>rfl
def ZD{X:Type}:∀(n:Int)(k:Int->X),fI n k=k n
 |.ofNat n,k=>SD n λn=>k (ae7 n)
 |.negSucc n,k=>SD n λn=>k (ae5 n)
def ajo{X:Type}:∀(n:Bool)(k:Bool->X),fB n k=k n
 |E,_=>rfl
 |J,_=>rfl
def auR{X:Type}(v:Value)(k:Value->X):fV v k=k v:=by
 unfold fV;split;exact ZD _ _;exact ajo _ _;rw[SD,SD];rfl
mutual
def ZE{X:Type}:∀(v:RV)(k:RV->X),fR v k=k v
 |.mk v l,k=>by
  show(fV v λv=>ZB l λl=>k (.mk v l))=_;rw[auR,ajp l]
def ajp{W:Type}:∀(l:ax)(k:ax->W),ZB l k=k l
 |[],_=>rfl
 |x::X,k=>by
  show(ZC x λx=>ZB X λX=>k (x::X))=_;rw[ajq x,ajp X]
def ajq{W:Type}:∀(l:aH)(k:aH->W),ZC l k=k l
 |[],_=>rfl
 |x::X,k=>by
  show(fR x λx=>ZC X λX=>k (x::X))=_;rw[ZE x,ajq X]
end
def auS{X:Type}(x:XV)(k:XV->X):fX x k=k x:=by
 cases x<;>simp only[fX,ZD,ajo,ZE]
def ajr{W:Type}:∀(l:bn)(k:bn->W),fL l k=k l
 |[],_=>rfl
 |x::X,k=>by
  show(fX x λx=>fL X λX=>k (x::X))=_;rw[auS,ajr X]
def fS{X V:Type}(l:List V):(List V->X)->X:=xO (motive:=λ_=>(List V->X)->X) (λk=>k []) (λx _ W k=>W λR=>k (x::R)) l
def fE{X:Type}(O:ak)(k:ak->X):X:=ak.rec (motive:=λ_=>X) (λi b r y=>fS i λi=>fS b λb=>fS r λr=>k ⟨i,b,r,y⟩) O
def SE{W V:Type}:∀(l:List V)(k:List V->W),fS l k=k l
 |[],_=>rfl
 |x::X,k=>SE X λX=>k (x::X)
def ajs{X:Type}(O:ak)(k:ak->X):fE O k=k O:=by
 obtain⟨i,b,r,y⟩:=O;show(fS i λi=>fS b λb=>fS r λr=>k ⟨i,b,r,y⟩)=_;rw[SE,SE,SE]
def C.xn(O:ak):C->XV
 |.int _ e=>.i (e.dn O)
 |.bool b=>.b (b.dn O)
 |.am r=>.r (r.dn O)
 |_=>.i 0
def auT(O:ak):C.xn O=C.xv O:=by
 funext v;cases v<;>simp only[C.xn,C.xv,K.fO,BE.fO,RE.fO]
def T.step(X:T->ak->mf->j5)(bA:mK)(t:T)(O:ak)(W:mf):j5:=match t with
 |.ret v _ _=>fL ((Af v).map (C.xn O)) λl=>U (.ret l)
 |.bI v=>(Gq O v).map .bI
 |.aW b t f=>cond (b.dn O) (X t O W) (X f O W)
 |.bz b t=>cond (b.dn O) (X t O W) Z
 |.call f P _ _ N _ t=>fL ((rq P).map (C.xn O)) λV=>match bA f V with
  |U (.ret Q)=>cond (mL N Q) (fE (O.ext Q) λO=>X t O W) Z
  |U (.bI v)=>U (.bI v)
  |none=>Z
 |.loop aA _ M t=>fL (M.map (C.xn O)) λV=>fE (O.ext V) λL=>X t L (⟨aA,t,O⟩::W)
 |.back aA x=>match Ag aA W with
  |U (R,H)=>fL (x.map (C.xn O)) λV=>fE (R.O.ext V) λO=>X R.t O (R::H)
  |none=>Z
 |.new _ x _ _ t=>fR (iq x O) λv=>fE (O.add (.r v)) λO=>X t O W
 |.aj _ x _ t=>fR (iq x O) λv=>fE (O.add (.r v)) λO=>X t O W
 |.gE g h t f=>cond (g.dn O) (cond (h.dn O) (Ae (X t O W) (X f O W)) (X t O W)) (cond (h.dn O) (X f O W) Z)
 |.pick m g h t f=>tZ ((wN m g h O).map λj=>match j with
  |U j=>fI j λj=>fE (O.add (.i j)) λO=>X t O W
  |none=>X f O W)
 |.dO _ _ _ G F r _ t=>match nf O G F (r.dn O).aj with
  |U l=>fR (.mk (r.dn O).val l) λv=>fE (O.add (.r v)) λO=>X t O W
  |none=>Z
 |_=>Z
def SF(bA:mK)(n:Nat):T->ak->mf->j5:=Fp (motive:=λ_=>T->ak->mf->j5) (λ_ _ _=>Z) (λ_ X=>T.step X bA) n
def ajt(bA:mK):∀n,SF bA n=exec bA n
 |0=>by funext t O X;simp only[exec];rfl
 |n+1=>by
  funext t O X;show T.step (SF bA n) bA t O X=_;rw[ajt bA n];cases t<;>simp only[T.step,exec,SC,BE.fO,RE.fO,auT,ajr,ZE,ZD,ajs]
  try case call f W _ _ Q _ t=>
   cases bA f ((rq W).map (C.xv O)) with
   |none=>rfl
   |some o=>cases o<;>rfl
  try case back aA x=>cases Ag aA X<;>rfl
  try case pick m g h t f=>
   refine jW tZ (kb λj _=> ?_);cases j<;>rfl
  try case dO f g e V R r P t=>cases nf O V R (r.rv O).aj<;>rfl
def SH(X:kL)(n:Nat):mK:=Fp (motive:=λ_=>mK) X.sM (λn R f V=>match X.sM f V with
  |U o=>U o
  |none=>match X.tree f with
   |U W=>Aj W.d (fE (fM (lI W.g) V) λO=>SF R n W.t O [])
   |none=>Z) n
def aju(X:kL):∀n,SH X n=X.bA n
 |0=>rfl
 |n+1=>by
  funext f W;simp only[kL.bA];show(match X.sM f W with
   |U o=>U o
   |none=>match X.tree f with
    |U V=>Aj V.d (fE (fM (lI V.g) W) λO=>SF (SH X n) n V.t O [])
    |none=>Z)=_
  rw[aju X n];simp only[ajt,ajs]
  all_goals cases X.sM f W with
  |some o=>rfl
  |none=>cases X.tree f<;>rfl
def auU{X:kL}{f:Nat}{W:bn}{o:bo}(h:SH X y f W=U o):X.Ev f W o:=⟨y,by rw[<-aju];exact h⟩
