/- Part 2 of the proof; the last part says what is shown. -/
import Derived.Test.YtpmkfikkemaopaaGreatDoorQ1
import Derived.Maps.RangeRun
import Derived.RangeFuncSeq
import Derived.StillTailTactics
import Derived.RangeFuncIn
import Derived.RangeFuncLeaves
import Derived.LoopNIn
import Derived.LoopIn
set_option linter.all false
set_option maxRecDepth 100000
set_option maxHeartbeats 100000000
open Bool renaming and_eq_true->az,not_eq_true'->gO,false_eq_true->iW,or_eq_true->jd,or_eq_false_iff->uK,eq_iff_iff->tG,and_self->wj,not_eq_false->Fh,true_and->Fl,and_true->LV,not_true->Wu,or_eq_true_iff->aqp,and_eq_false_iff->aDm,false_or->aqJ,true_or->aqK,true_eq_false->aDz,true->J,false->E
open List renaming getElem?_eq_some_iff->bZ,getElem?_eq_getElem->cK,getD_eq_getElem?_getD->dB,getElem?_append_left->dU,getElem?_map->dN,getElem?_append_right->iC,mem_cons->dP,mem_append->eP,all_eq_true->fp,length_append->gD,replicate->eI,cons_append->fG,map_cons->eE,nil_append->gr,mem_of_getElem?->jm,getElem?_eq_none->jK,pairwise_cons->jL,map_congr_left->kb,ext_getElem?->ke,mem_map->hJ,range->fU,eq_nil_of_length_eq_zero->rZ,length_eq_one_iff->oa,pairwise_append->mT,getElem?_take->mB,any_eq_true->kS,contains_iff_mem->pz,getElem?_cons_succ->sa,getElem?_of_mem->qW,getElem?_set_ne->qX,length_cons->oK,getElem_mem->pA,mem_filter->pB,getElem?_drop->tF,mem_append_left->we,getElem?_cons_zero->zr,getElem?_eq_none_iff->Be,length_map->qY,map_map->oc,getElem?_set->uL,mem_or_eq_of_mem_set->C9,nodup_append->xL,drop_eq_getElem_cons->E8,mem_of_mem_drop->Bf,getElem?_replicate->E9,length_eq_zero_iff->Fa,mem_cons_of_mem->Da,mem_of_mem_take->Db,take_of_length_le->Fb,getElem?_set_self->Fc,mem_filterMap->Bg,getElem?_range->Dd,mem_range->zv,length_take->De,length_drop->Df,range'->wl,size_toArray->Fi,mem_of_find?_eq_some->P1,foldl_cons->Dg,mem_append_right->LP,map_nil->Bi,mem_cons_self->LR,range_eq_range'->P5,append_nil->H9,mem_singleton->P9,all_cons->LU,find?_some->Qc,zip_cons_cons->Wj,replicate_one->Wk,map_append->Qd,dropLast_append_of_ne_nil->aqg,nodup_cons->Wp,sublist_cons_self->aeQ,take_append_of_le_length->aqh,range'_succ->Wm,filterMap_cons->aeT,getElem?_zip_eq_some->aqk,drop_eq_nil_of_le->aql,drop_append_of_le_length->aC8,append_toArray->aqq,pairwise_map->aqw,append_eq_append_iff->aDe,length_erase_of_mem->aEC,map_set->ae1,any_map->ae2,append_cancel_right->aDf,filter_cons->aqz,length_set->aqA,drop_of_length_le->aDk,length_pos_of_mem->aEF,drop_zero->aqE,mapM_cons->aqF,dropLast_sublist->aDn,getElem?_append->aDq,mem_erase_of_ne->aEG,set_cons_zero->aDy,Sublist->aqM,append_of_mem->aDA,length->Y
open Go.Result renaming andThen_ok->dl
open Nat renaming le_refl->cd,zero_add->iJ,le_trans->oL,add_zero->xN,testBit_or->Dh,le_of_eq->Di,lt_of_lt_of_le->Wi,strongRecOn->Qe,zero_le->Ww,testBit_shiftLeft->aqm
open Option renaming map_some->dV,isSome_iff_exists->kD,getD_some->oJ,bind_some->Wn,getD_none->aeW,isNone_iff_eq_none->aDd,some->U,none->Z
open Go.Sem renaming run_bind->dq,run_pure->eX
open Array renaming getElem?_eq_some_iff->n9,ext'->mC,toList_map->wh,getElem?_setIfInBounds_ne->aeM,getElem?_setIfInBounds_self_of_lt->aC6,getElem?_eq_getElem->aqj,replicate->ae0,getElem?_append_left->aDa,mapM_eq_mapM_toList->aDc,mem_filter->aDG
open Go.Op renaming operands->io,equalIn->Bj,equal->Dj
open Go.World renaming putObj_heap_other->tE,cell?->nF,putObj->Fm,putObj_heap_same->aDj
open Go.Region renaming wanted->lz,ready->Qh,binds->aqL
open List.Pairwise renaming nil->xK
open List.cons renaming injEq->wi
open Int renaming toNat_natCast->zu
open Go.Oper renaming semAt_eq->xM,uponIn_enter->Qa,uponIn_round->aqv
open Go.Call renaming operands->zw
open Prod.mk renaming injEq->Bh
open List.Sublist renaming append->aeS,refl->aeV
open Go.IntKind renaming i64->I
namespace Go.Proofs.YtpmkfikkemaopaaGreatDoor.Y
open Go.RowKit
noncomputable section
variable{X:Nat}{v:TypeId}{e:av}{b:Bool}{x:ak}{t:aw}{R:S}{r:C}{l:Oper}{h:OM}
section
variable{c:aw}{d:World}{D:b9}{P:Program}{f:bF}{V:aw}{O:ak}{s:S}{a:Act}{W:World}
def agl{X:Type}(l:List X)(x y:X):(l++[x]).set (Y l) y=l++[y]:=by
 induction l with
 |nil=>rfl
 |cons z Q R=>simp[R]
def aC.xT(R:aC c d D f.ty V O s a W)(N:s.bd=J){t:TypeId}{X:av}(B:C.dQ s.ni s.nb (Y s.rs) (aL s.au) X=J):
  aC c d D f.ty (V++[W.heap.size]) O (s.xT (t,X)) a (W.alloc (lE t (C.dJ O V X)))/\bH s O V (s.xT (t,X)) O (V++[W.heap.size]):=by
 obtain⟨A,j⟩:=R.room 1;have g:(s.room 1).au.length=Y s.au+1:=by simp[S.room]
 have z:gf (s.room 1).au (Y s.au)=true:=by simp[gf,S.room]
 have y:(s.room 1).eV X=true:=by
  simp only[S.eV,S.bd,az] at N⊢;have M:aL (s.room 1).au=aL s.au:=by
   funext i;simp only[aL,cH,S.room,Wk];by_cases Q:i<Y s.au;rw[dU Q];rw[iC ae,jK (l:=s.au) ae];cases w:i-Y s.au with
   |zero=>rfl
   |succ n=>rfl
  have v:∀L,C.qm s.ni s.nb (Y s.rs) L (s.au++[Z])=C.qm s.ni s.nb (Y s.rs) L s.au:=by
   intro L;generalize s.au=l;induction l with
   |nil=>rfl
   |cons x e u=>cases x<;>simp[C.qm,u]
  refine⟨⟨?_, ?_⟩,by rw[M];exact B⟩;rw[M];exact N.1;rw[M];simp only[S.room,Wk];rw[v];exact N.2
 have G:=A.alloc z t X y;have r:(V++eI 1 0).set (Y s.au) W.heap.size=V++[W.heap.size]:=by
  rw[<-R.gv,Wk];exact agl _ _ _
 have q:C.dJ O (V++eI 1 0) X=C.dJ O V X:=by
  apply afw;funext k;simp only[ad,dB,Wk];by_cases h:k<Y V;rw[dU h];rw[iC ae,jK (l:=V) ae];cases w:k-Y V with
  |zero=>rfl
  |succ n=>rfl
 rw[r,q] at G;have p:({((s.room 1).cZ (Y s.au) t X) with lk:=s.lk}:S)=s.xT (t,X):=by
  simp only[S.cZ,S.room,S.xT,Wk,agl]
 have F:=G.lk s.lk;rw[p] at F;refine⟨F,⟨⟨iL.refl _ _ _ _,cd _,cd _,cd _,λk o=> ?_⟩,λi Q=> ?_,by simp[S.xT],cd _⟩⟩;have:k<Y V:=by
  obtain⟨b,H⟩:=kD.1 o;rw[R.gv];exact(bZ.1 (jO.1 H)).1
 simp[ad,dU this];obtain⟨b,H⟩:=kD.1 Q;have m:=(bZ.1 (jO.1 H)).1;simp only[aL,cH,S.xT,dU m] at Q⊢;exact Q
def aC.agm(R:aC c d D f.ty V O s a W){cs':av}(M:cg s.au X=U (v,e)):
  aC c d D f.ty V O (s.cZ X v cs') a (W.putObj (ad V X) (lE v (C.dJ O V cs'))):=by
 have x:=R.mem.box X v e M;have q:ad V X<W.heap.size:=zS x;have w:X<Y s.au:=(bZ.1 (jO.1 M)).1;have H:aL s.au X=true:=by simp[aL,M]
 have G:∀j,aL (s.au.set X (U (v,cs'))) j=J->aL s.au j=true:=λj N=>by
  rcases(oX w).1 N with rfl|h;exact H;exact h
 have F:∀b,b≠ad V X->(W.putObj (ad V X) (lE v (C.dJ O V cs'))).heap[b]?=W.heap[b]?:=λb h=>tE h
 refine⟨⟨⟨R.mem.base.os,R.mem.base.tape,R.mem.base.output,by simpa[Fm] using R.mem.base.size,λk B u=> ?_⟩,λj N=>R.mem.own j (G j N),λj k N B=>R.mem.inj j k (G j N) (G k B),λj L p N=> ?_,λk Q A n m=> ?_⟩,by simpa[S.cZ] using R.gv,R.ei,R.eb,R.er,R.cU.aDI (λb o z l=> ?_),R.size,R.tmps,λk Q A b g q2 q3=> ?_⟩;have aa:k≠ad V X:=by
  rintro rfl;rcases R.mem.own X H with h|h;omega;exact u h
 rw[F k aa];exact R.mem.base.block k B u;by_cases y:j=X;subst y;rw[S.cZ,F9 w] at N;simp only[cG,Bh] at N;obtain⟨rfl,rfl⟩:=N;exact aDj q;rw[S.cZ,yg y] at N;rw[F _ (λh=>y (R.mem.inj j X (by simp[aL,N]) H h))];exact R.mem.box j L p N;obtain⟨ab,r⟩:=R.mem.am k Q A n m;exact⟨ab.IU (λb M=>F b (λh=>r b M X H h.symm)) (by simp[Fm]),λb M j N=>r b M j (G j N)⟩;rw[F b (λQ=>by subst Q;rw[x] at z;cases z;exact afY l _ _ rfl)];exact z;have t:=R.fZ k Q A b g q2 q3;have L:=t.world (W':=W.putObj (ad V X) (lE v (C.dJ O V cs'))) (F b (λh=>t.box X H h.symm));exact⟨L.own,L.mem,λj N=>L.box j (G j N),L.alone,L.inner⟩
def aC.XO(R:aC c d D f.ty V O s a W){i:Nat}{cs':av}(X:cg s.au i=U (v,e))(_:∀Q N M,lE v (C.dJ O V e)≠ .cells Q N M):
  aC c d D f.ty V O (s.cZ i v cs') a (W.putObj (ad V i) (lE v (C.dJ O V cs'))):=R.agm X
def ym(L:bq)(X:Value×Value):sd->sd
 |[]=>[X]
 |p::r=>if wH p.1=L then X::r else p::ym L X r
def agn:∀{l:sd}{m:Nat}{p:Value×Value},gu m (l++[p])=gu m l++[⟨p.1,p.2,m+Y l⟩]
 |[],m,p=>by simp[gu]
 |x::r,m,p=>by
  simp only[fG,gu,agn (l:=r) (m:=m+1) (p:=p)];simp;omega
def ago{L:bq}{kv:Value×Value}:∀{l:sd}{m i:Nat},
  (nN L (gu m l) i=Z/\ym L kv l=l++[kv])\/∃j v p,nN L (gu m l) i=U (i+j,v)/\(gu m l)[j]?=U ⟨p.1,p.2,m+j⟩/\p∈l/\wH p.1=L/\(ym L kv l).length=Y l/\gu m (ym L kv l)=(gu m l).modify j λe=>{e with key:=kv.1,val:=kv.2}
 |[],m,i=>.inl ⟨rfl,rfl⟩
 |p::r,m,i=>by
  simp only[gu,nN,ym];by_cases h:wH p.1=L;right;rw[aI h,aI h];exact⟨0,p.2,p,rfl,rfl,ay,h,ay,by simp[gu]⟩;rw[aK h,aK h];rcases ago (l:=r) (m:=m+1) (i:=i+1) with⟨X,R⟩|⟨j,v,Q,X,R,N,M,H,G⟩;exact .inl ⟨X,by rw[R];rfl⟩;refine .inr ⟨j+1,v,Q,by rw[X];congr 2;omega,by simp only[sa,R];congr 2;omega,by simp[N],M,by simp[H], ?_⟩;simp only[gu,G,List.modify_succ_cons]
def arQ(Q:Bool)(l:bq):Instr.sameBits 10000 (gL Q l) (gL Q l)=true:=by
 cases Q;simp[gL,Instr.sameBits];show Instr.sameBits (9999+1) (.agg _) (.agg _)=J;simp only[Instr.sameBits,beq_self_eq_true,Fl,fp];intro p L;have:p.1=p.2/\∃x,p.1=.int I x:=by
  have H:∀(m:gc)(q:Value×Value),q∈m.zip m->q.1=q.2/\q.1∈m:=by
   intro m;induction m with
   |nil=>intro q X;cases X
   |cons y F M=>
    intro q X;simp only[Wj,dP] at X;rcases X with rfl|X;exact⟨rfl,ay⟩;exact⟨(M q X).1,by simp[(M q X).2]⟩
  obtain⟨N,R⟩:=H _ p L;simp only[hJ] at R;obtain⟨x,-,G⟩:=R;exact⟨N,x,G.symm⟩
 obtain⟨N,x,R⟩:=this;rw[<-N,R];simp[Instr.sameBits]
def agp{k e:TypeId}(h:P.underlying v=U (.map k e))(B:tT P k X b){R:Nat}{l:sd}(A:W.heap[R]?=U (pG l)){L:bq}(g:Y L=X)
  (z:∀p∈l,∃N:bq,Y N=X/\p.1=gL b N)(Q:Value):
  (Instr.mapUpdate v (.map (U R)) (gL b L) Q).run P W=.ok () (W.putObj R (pG (ym L (gL b L,Q) l))):=by
 have f:∀x∈gu 0 l,∃N:bq,Y N=X/\x.key=gL b N:=λx d=>by
  obtain⟨p,M,H⟩:=Xr d;obtain⟨N,F,G⟩:=z p M;exact⟨N,F,H.trans G⟩
 obtain⟨c,c2⟩:=B.2 L (gu 0 l) W g f;have hg:=MapKept.run_getObj_map (P:=P) (w:=W) A;have y:=λo=>MapKept.run_setObj_map (P:=P) (w:=W) o A
 simp only[Instr.mapUpdate,dq,eU.ik h,dl,hg,c,c2];rcases ago (L:=L) (kv:=(gL b L,Q)) (l:=l) (m:=0) (i:=0) with⟨M,H⟩|⟨j,u,p,M,H,F,G,h5,h6⟩;rw[M,H];simp only[y,Fm,pG,agn];simp;rw[M];obtain⟨N,q1,r⟩:=z p F;have hl:N=L:=by
  rw[r,Xp (λe=>q1.trans (B.1 e))] at G;exact G
 subst hl;have q:(((gu 0 l).toArray[0+j]?).map (·.key)).getD (gL b N)=gL b N:=by
  simp[H,r]
 simp only[iJ] at q⊢;simp only[q,Instr.keyThatStays,arQ,cS,eX,dl,dq,y,Fm,pG,h6,h5];simp
end
def tV(O:ak)(X:Fx):Prop:=∀x∈X,x.1.ah O=x.2
def Re{M:Fx}(h:tV x M){X:BE}(Q:Mc M X=U b):X.ah x=b:=by
 unfold Mc at Q;split at Q;cases Q;simp[BE.ah];cases N:M.find? (λR=>R.1.aM X) with
 |none=>rw[N] at Q;cases Q
 |some R=>
  rw[N] at Q;cases Q;have L:=Qc N;rw[<-BE.bU _ _ L];exact h R (P1 N)
def agq{N:Fx}(h:tV x N){X:BE}(M:X.ah x=b):tV x ((X,b)::N):=by
 intro R Q;rcases dP.1 Q with rfl|Q;exact M;exact h R Q
def Gf{w:World}{D:b9}{H:Ty}{a:Act}{W:World}{N:ak}{V:aw}{M:Fx}(X:aC t w D H V x R a W)(G:iL x N (Y x.i) (Y x.b) (Y x.r))(h:tV x M):tV N (oQ R M):=by
 intro Q F;obtain⟨B,L⟩:=pB.1 F;rw[<-X.ei,<-X.eb,<-X.er] at L;rw[BE.dW G _ L];exact h Q B
section
variable{f:bF}
def aC.drew{g:aw}{w:World}{D:b9}{V:aw}{O:ak}{s:S}{a:Act}{W:World}(R:aC g w D f.ty V O s a W):aC g w D f.ty V O s a {W with drawn:=W.drawn+1}:=
 ⟨⟨R.mem.base.drew,R.mem.own,R.mem.inj,R.mem.box,λk e X Q N=>⟨(R.mem.am k e X Q N).1.IU (λ_ _=>rfl) (cd _),(R.mem.am k e X Q N).2⟩⟩,R.gv,R.ei,R.eb,R.er,R.cU.world (λ_ _ h _=>h),R.size,R.tmps,λk e X b Q N M=>(R.fZ k e X b Q N M).world rfl⟩
end
section
variable{g:aw}{w:World}{D:b9}{P:Program}{f:bF}{V:aw}{O:ak}{s:S}{a:Act}{W:World}
def aC.agr(R:aC g w D f.ty V O s a W)(N:s.bd=J)(j:Int):aC g w D f.ty V (O.add (.i j)) {s with ni:=s.ni+1} a W:=by
 obtain⟨M,L⟩:=R.yf N;have Q:=rn s.au O (.i j) V;refine⟨⟨R.mem.base,R.mem.own,R.mem.inj,λi t H h=> ?_,R.mem.am⟩,R.gv,by simp[ak.add,R.ei],R.eb,R.er,R.cU,R.size,λt G h=> ?_,λk e F b X B A=> ?_⟩;rw[Q.dJ (sF L h)];exact R.mem.box i t H h;rcases R.tmps t G h with X|X;exact .inl X;right;rw[Q.ah (uY M h)];exact X;have t:=R.fZ k e F b X B A;exact⟨t.own,t.mem,t.box,t.alone,t.inner⟩
def aC.ags(R:aC g w D f.ty V O s a W)(M:s.bd=J){Q:Sh}{N:RV}(L:bJ W f.ty (.mr Q) N):aC g w D f.ty V (O.add (.r N)) {s with rs:=s.rs++[.mr Q]} a W:=
 R.add M L (λb X=>by cases X) (λk e F b _ _ _ X=>by
  rcases X with X|⟨⟨t,H⟩,_⟩;cases X;cases H) (λe b G=>by cases G)
def agt{M:Sh}{Q:ax}(h:∀X∈Q,F7 f.ty M X)(H:∀c∈bD f.ty (.mr M),mE c=J):bJ W f.ty (.mr M) (.mk (.slice Z (Y Q) (Y Q)) Q):=by
 refine bJ.mr M Q (λi X R=>(h X (jm R)).len) (λi j X c k R L N=>(h X (jm R)).int j c k L N) (λi j X c R L N=>(h X (jm R)).bool j c L N) (λi j X c z k R L N=> ?_);have:=H _ (jm N);simp[mE] at this
def XP{n:Nat}{X x:aH}:∀{R:ax},x∈iF n X R->x=X\/x∈R
 |[],h=>by simp[iF] at h;exact .inl h
 |r::Q,h=>by
  simp only[iF] at h;split at h;rcases dP.1 h with h|h;exact .inl h;exact .inr (by simp[h]);rcases dP.1 h with h|h;exact .inr (by simp[h]);rcases XP h with h|h;exact .inl h;exact .inr (by simp[h])
def agu{n:Nat}{X:aH}:∀{rows:ax},(∀r∈rows,kY n ((X.take n).map λc=>bS c.val) r=E)->iF n X rows=rows++[X]
 |[],_=>rfl
 |r::R,h=>by
  simp only[iF];rw[aK (by rw[h r ay];simp),agu (rows:=R) (λx Q=>h x (Da _ Q))];rfl
def agv{n:Nat}{X va:Bool}(Q:X=E->n=1){R:aH}(H:DB n R){L:bq}(N:(R.take n).map (λc=>bS c.val)=L):∀{M:ax},(∀r∈M,DB n r)->
  ym L (uX n X va R) (M.map (uX n X va))=(iF n R M).map (uX n X va)
 |[],_=>rfl
 |r::t,h=>by
  obtain⟨l,F,B,A⟩:=MG (ag:=X) Q (h r ay);have q:Y L=n:=by
   obtain⟨p,z,y⟩:=H;rw[<-N,y];simpa using z
  have w:kY n L r=decide (l=L):=by
   simp only[kY,A];rw[Fb ae]
  simp only[eE,ym,iF,N,w];have v:wH (uX n X va r).1=l:=by
   simp only[uX,B];exact Xp (λe=>F.trans (Q e))
  rw[v];by_cases G:l=L;simp[G];simp only[G,ga,decide_false,iW,eE];rw[agv Q H N λx u=>h x (by simp[u])]
def arR(t:TypeId):(Instr.makeMap t Z).run P W=.ok (.map (U W.heap.size)) (W.alloc (.map #[] 0)):=by
 simp[Instr.makeMap]
def arS(R:aC g w D f.ty V O s a W){m:OM}{t:TypeId}(F:m.o.op=.makeMap t Z){N:S}(h:Qr f m.o.dst s t=U N):
  ∃v M L,sI P m.o a W v M/\aC g w D f.ty L O N (a.put m.o.dst v) M/\bH s O V N O L:=by
 unfold Qr at h;split at h;rename_i k e n X ao q x;split at h;rename_i Q u;split at h;rename_i H;simp only[az] at H;cases h;have B:C.dQ s.ni s.nb (Y s.rs) (aL s.au) (FG Q n X).2=true:=by
  unfold FG;split<;>simp[C.iD,C.aZ,RE.aZ,K.aZ,BE.aZ]
 obtain⟨G,A⟩:=R.xT H.1 (t:=(FG Q n X).1) B;have z:lE (FG Q n X).1 (C.dJ O V (FG Q n X).2)=.map #[] 0:=by
  unfold FG;split;rw[DC];simp[RE.rv,pG,gu];rw[DD];simp[C.aF,BG,pG,gu]
 rw[z] at G;refine⟨.map (U W.heap.size),W.alloc (.map #[] 0),V++[W.heap.size],.inl ?_, ?_,A.put _ _⟩;simp[execOp,F,arR];have:=G.put m.o.dst (.mp (Y s.au));have y:ad (V++[W.heap.size]) (Y s.au)=W.heap.size:=by simp[ad,<-R.gv]
 rw[C.ah,y] at this;exact this;cases h;cases h;cases h
def Rf{R:TypeId}{Q:TI}{r:RE}(h:FH f s v R X b Q e=U r):
  e=[.am r,.int I (.c (X:Int)),.bool (.c b),.bool (.c Q.d.isAgg)]/\r.qh f.ty s ⟨v,R,X,b,Q.d.isAgg⟩=J/\Q.ao.all mE=true:=by
 unfold FH at h;split at h;split at h;rename_i N;simp only[az,dv] at N;cases h;obtain⟨⟨⟨⟨M,rfl⟩,rfl⟩,rfl⟩,L⟩:=N;exact⟨rfl,M,L⟩;cases h;cases h
def agw{x y z:K}(h:Fz X b r=U (x,y,z)):r.cells.map (C.cj O)=([x.ah O,y.ah O,z.ah O].take X).map λu=>.mk (.int I u) []:=by
 unfold Fz at h;split at h<;>first|(cases h;done)|(split at h<;>first|(cases h;done)|skip)
 all_goals
  rename_i R;cases h;simp only[az,dv] at R;obtain⟨rfl,-⟩:=R;simp[C.cells,C.cj]
def XQ:∀{ao:eQ}{l:av},l8 f.ty s ao l=J->ao.all mE=J->Y l=Y ao/\(∀(j:Nat)(k:IntKind),ao[j]?=U (.int k)->∃x,(l.map (C.cj O))[j]?=U (.mk (.int k x) []))/\(∀(j:Nat),ao[j]?=U .bool->∃x,(l.map (C.cj O))[j]?=U (.mk (.bool x) []))/\(l.map (C.cj O)).map RV.val=C.aF O V l
 |[],[],_,_=>⟨rfl,λj k h=>by simp at h,λj h=>by simp at h,rfl⟩
 |[],_::_,h,_=>by simp[l8] at h
 |_::_,[],h,_=>by simp[l8] at h
 |c::ao,v::l,h,Q=>by
  simp only[l8,az] at h;simp only[LU,az] at Q;obtain⟨M,L,H,G⟩:=XQ (ao:=ao) (l:=l) h.2 Q.2;have R:=h.1;unfold si at R;split at R;rename_i k F e;have:k=F:=tH R;subst this;refine⟨by simp[M],λj N X=> ?_,λj X=> ?_,by simp[C.aF,C.cj,C.ah,G]⟩;cases j with
  |zero=>simp at X;subst X;exact⟨e.ah O,rfl⟩
  |succ j=>simpa using L j N (by simpa using X)
  cases j with
  |zero=>simp at X
  |succ j=>simpa using H j (by simpa using X)
  rename_i b;refine⟨by simp[M],λj N X=> ?_,λj X=> ?_,by simp[C.aF,C.cj,C.ah,G]⟩;cases j with
  |zero=>simp at X
  |succ j=>simpa using L j N (by simpa using X)
  cases j with
  |zero=>exact⟨b.ah O,rfl⟩
  |succ j=>simpa using H j (by simpa using X)
  simp[mE] at Q;cases R
def arT{e:TypeId}{M:TI}(m:sf f.ty v X b=J)(l:f.ty e=U M)(i:M.ao.all mE=J){R:C}{x y z:K}(G:Fz X b r=U (x,y,z))(h:l8 f.ty s M.ao R.cells=J):
  F7 f.ty ⟨v,e,X,b,M.d.isAgg⟩ ((r.cells++R.cells).map (C.cj O)):=by
 obtain⟨g,F,B,A⟩:=IR (va:=M.d.isAgg) m l;obtain⟨q1,q2,q3,-⟩:=XQ (O:=O) (V:=[]) h i;have aa:=(Xq (O:=O) (V:=[]) G).2;have w:=agw (O:=O) G;have t:(r.cells.map (C.cj O)).length=X:=by rw[w];simpa using aa
 have q:∀(j:Nat),((r.cells++R.cells).map (C.cj O))[j]?=if j<X then(r.cells.map (C.cj O))[j]? else(R.cells.map (C.cj O))[j-X]?:=by
  intro j;rw[Qd,aDq,t]
 have p:∀(j:Nat),(bD f.ty (.mr ⟨v,e,X,b,M.d.isAgg⟩))[j]?=if j<X then g[j]? else M.ao[j-X]?:=by
  intro j;rw[F,aDq,B]
 refine⟨?_,λj c kk Q N=> ?_,λj c Q N=> ?_⟩;rw[F,qY,gD,gD,B,q1];simp at t;omega;rw[q] at Q;rw[p] at N;split at Q;rename_i L;rw[aI L] at N;have:=A _ (jm N);cases this;rw[w,dN] at Q;cases o:([x.ah O,y.ah O,z.ah O].take X)[j]? with
 |none=>rw[o] at Q;cases Q
 |some u=>rw[o] at Q;cases Q;exact⟨u,rfl⟩
 rename_i L;rw[aK L] at N;obtain⟨u,H⟩:=q2 _ kk N;rw[H] at Q;cases Q;exact⟨u,rfl⟩;rw[q] at Q;rw[p] at N;split at Q;rename_i L;rw[aI L] at N;have:=A _ (jm N);cases this;rename_i L;rw[aK L] at N;obtain⟨u,H⟩:=q3 _ N;rw[H] at Q;cases Q;exact⟨u,rfl⟩
def arU{e:TypeId}{R:Bool}{Q:TI}(M:sf f.ty v X b=J)(L:f.ty e=U Q)(H:Q.ao.all mE=J):∀c∈bD f.ty (.mr ⟨v,e,X,b,R⟩),mE c=true:=by
 obtain⟨B,G,A,F⟩:=IR (va:=R) M L;intro c N;rw[G] at N;rcases eP.1 N with h|h;rw[F c h];rfl;exact fp.1 H c h
def arV(W:World)(b:Nat)(o:Obj):ChangeMaps.setBlock W b o=W.putObj b o:=rfl
def MR.arW(g:aw)(w:World)(D:b9)(R:Ty)(V:aw)(O:ak)(s:S)(a:Act)(Q:World):MR->Prop
 |.ok X=>aC g w D R V O X a Q/\bH s O V X O V
 |.aj _ x X=>aC g w D R V (O.add (.r (iq x O))) X a Q/\bH s O V X (O.add (.r (iq x O))) V
def Rg(R:aC g w D f.ty V O s a W)(al:i7 P f.ty){d:cw}{M X:C}{Q:MR}(h:Qq f d s v r M X=U Q):
  ∃W',(Instr.mapUpdate v (r.ah O V) (M.ah O V) (X.ah O V)).run P W=.ok () W'/\Q.arW g w D f.ty V O s (a.put d undef) W':=by
 unfold Qq at h;split at h;rename_i k e n L ao q i ht;have hd:P.underlying v=U (.map k e):=(al _ _ ht).desc;have b:tT P k n L:=(al _ _ ht).key k e n L rfl;split at h;rename_i H xa xb xc bt A z g2 g3;have br:=al _ _ z;split at h;cases h;rename_i a9;simp only[jd,gO,not_or,Fh] at a9;obtain⟨⟨aa,an⟩,bs⟩:=a9;simp only[S.eV,az] at an;obtain⟨hb,an⟩:=an;obtain⟨ba,a0⟩:=Xq (O:=O) (V:=V) g2;have ab:=R.mem.box i bt A g3;have bx:=QW (O:=O) (V:=V) (uZ R) bs;split at h;rename_i ac;simp only[dv] at ac;subst ac;split at h;rename_i G b0;split at h;rename_i bb;cases h;obtain⟨rfl,c1,c5⟩:=Rf b0;rw[DC] at ab;have bd:=F8 R c1;have bf:∀F∈(G.rv O).aj,DB n F:=λF o=>IS aa z (bd F o)
 have a1:=agp (P:=P) hd b ab a0 (λp hp=>by
  obtain⟨F,o,rfl⟩:=hJ.1 hp;obtain⟨l,q1,q2,-⟩:=MG b.1 (bf F o);exact⟨l,q1,q2⟩) (X.ah O V)
 have a3:=arT (O:=O) (s:=s) aa z c5 g2 bb;have bg:=agw (O:=O) g2;have cm:(M.cells.map (C.cj O)).length=n:=by rw[bg];simpa using a0
 have b1:((M.cells++X.cells).map (C.cj O)).take n=M.cells.map (C.cj O):=by
  rw[Qd,aqh ae,Fb ae]
 have b2:((M.cells++X.cells).map (C.cj O)).drop n=X.cells.map (C.cj O):=by
  rw[Qd,aC8 ae,aDk ae];rfl
 have hL:(((M.cells++X.cells).map (C.cj O)).take n).map (λc=>bS c.val)=[xa.ah O,xb.ah O,xc.ah O].take n:=by
  rw[b1,bg];simp[bS]
 obtain⟨f1,-,-,f4⟩:=XQ (O:=O) (V:=V) bb c5;have b3:uX n L H.d.isAgg ((M.cells++X.cells).map (C.cj O))=(gL L ([xa.ah O,xb.ah O,xc.ah O].take n),X.ah O V):=by
  obtain⟨l,q1,q2,q3⟩:=MG (ag:=L) b.1 (IS aa z a3);have hl:l=[xa.ah O,xb.ah O,xc.ah O].take n:=by rw[<-q3,hL]
  have b4:qp H.d.isAgg (X.cells.map (C.cj O))=X.ah O V:=by
   rw[bx,qp,f4];cases ha:H.d.isAgg;have b5:Y X.cells=1:=by rw[f1];exact zR br ha
   obtain⟨u,hu⟩:=oa.1 b5;simp only[iW,ga];rw[<-f4,hu];rfl;rfl
  simp only[uX,q2,hl,b2,b4]
 have af:=agv (va:=H.d.isAgg) b.1 (IS aa z a3) hL bf;rw[b3] at af;have hh:bJ W f.ty (.mr ⟨k,e,n,L,H.d.isAgg⟩) (iq (.ins (.am G) n (M.cells++X.cells)) O):=by
  refine agt (λF bk=> ?_) (arU aa z c5);simp only[LE.aj] at bk;rcases XP bk with rfl|h;exact a3;exact bd F h
 have R1:=R.ags hb hh;have a4:∀cc tt ff,lE uO (C.dJ (O.add (.r (iq (.ins (.am G) n (M.cells++X.cells)) O))) V [.am G,.int I (.c (n:Int)),.bool (.c L),.bool (.c H.d.isAgg)])≠ .cells cc tt ff:=by
  intro cc tt ff hx;rw[DC] at hx;cases hx
 have R2:=R1.XO (cs':=[.am (.v (Y s.rs)),.int I (.c (n:Int)),.bool (.c L),.bool (.c H.d.isAgg)]) (i:=i) g3 a4;have b6:(RE.v (Y s.rs)).rv (O.add (.r (iq (.ins (.am G) n (M.cells++X.cells)) O)))=iq (.ins (.am G) n (M.cells++X.cells)) O:=by
  simp[RE.rv,ak.rv,ak.add,<-R.er]
 rw[DC,b6] at R2;refine⟨W.putObj (ad V i) (pG ((iq (.ins (.am G) n (M.cells++X.cells)) O).aj.map (uX n L H.d.isAgg))), ?_, ?_, ?_⟩;simp only[C.ah,ba];rw[a1,af];rfl;have:=R2.put d (.bP []);exact this;exact bH.put (s:=s) (s':={s with rs:=s.rs++[RK.mr ⟨k,e,n,L,H.d.isAgg⟩],au:=s.au.set i (U (uO,[.am (.v (Y s.rs)),.int I (.c n),.bool (.c L),.bool (.c H.d.isAgg)]))}) ⟨rn _ _ _ _,λj hj=>(oX (bZ.1 (jO.1 g3)).1).2 (.inr hj),ay,cd _⟩ d _;cases h;cases h;split at h;rename_i ac;simp only[az,dv,gO] at ac;obtain⟨⟨rfl,rfl⟩,rfl⟩:=ac;split at h;rename_i x N bl;split at h;cases h;rename_i b7;cases h;rw[DD] at ab;obtain⟨p1,p2⟩:=IT (O:=O) (V:=V) bl;rw[p1] at ab;have a1:=agp (P:=P) hd b ab a0 (λp hp=>by
  obtain⟨u,hu,rfl⟩:=hJ.1 hp;exact⟨[u.1],rfl,rfl⟩) (X.ah O V)
 have af:∀(N:bq)(m:av),¬N.contains x=J->Y N=Y m->ym [x] (gL E [x],X.ah O V) ((N.zip m).map λp=>(.int I p.1,p.2.ah O V))=((N.zip m).map λp=>(.int I p.1,p.2.ah O V))++[(.int I x,X.ah O V)]:=by
  intro N;induction N with
  |nil=>intro m _ _;simp[ym,gL]
  |cons y ys ih=>
   intro m hc hl;cases m with
   |nil=>simp at hl
   |cons u us=>
    have b8:¬y=x:=by
     intro e;subst e;simp at hc
    have ca:¬ys.contains x=true:=by
     intro e;simp at e hc;exact hc.2 e
    have:=ih us ca (by simpa using hl);simp only[Wj,eE,ym,wH,wi,and_true,b8,ga,this,fG]
 have a4:∀cc tt ff,lE tI (C.dJ O V A)≠ .cells cc tt ff:=by
  intro cc tt ff hx;rw[DD] at hx;cases hx
 have R2:=R.XO (cs':=A++[.int I (.c x),X]) g3 a4;have ch:∀(l:av)(N:bq),qj l=U N->BG (C.aF O V (l++[.int I (.c x),X]))=BG (C.aF O V l)++[(.int I x,X.ah O V)]:=by
  intro l;induction l using qj.induct with
  |case1=>intro N _;rfl
  |case2 k u Q ih=>
   intro N B;simp only[qj] at B;cases o:qj Q with
   |none=>rw[o] at B;cases B
   |some cl=>
    have:=ih cl o;simp only[fG,C.aF,BG] at this⊢;rw[this]
  |case3 l h1 h2=>intro N B;unfold qj at B;split at B<;>first|(exact aY rfl h1)|(exact aY rfl (h2 _ _ _))|cases B
 rw[DD,ch A N bl,p1] at R2;refine⟨W.putObj (ad V i) (pG ((N.zip (lX A)).map (λp=>(Value.int I p.1,p.2.ah O V))++[(Value.int I x,X.ah O V)])), ?_,R2.put d (.bP []), ?_⟩;simp only[C.ah,ba];rw[a1];have:[(K.c x).ah O,xb.ah O,xc.ah O].take 1=[x]:=rfl;rw[this,af N _ b7 p2];exact bH.put (s:=s) (s':=s.cZ i tI (A++[.int I (.c x),X])) ⟨nh.refl _ _ _,λj hj=>(oX (bZ.1 (jO.1 g3)).1).2 (.inr hj),by simp[S.cZ],cd _⟩ d _;cases h;cases h;cases h;cases h
end
section
variable{g:aw}{B:World}{D:b9}{P:Program}{f:bF}{V:aw}{O:ak}{s:S}{a:Act}{W:World}
def XR{X:Ty}{s:S}{n:Nat}:∀r:RE,r.kind X {s with ni:=n}=r.kind X s
 |.v k=>rfl
 |.cell r i j k=>by simp only[RE.kind,XR r]
 |.k v=>by cases v<;>rfl
def I7(R:aC g B D f.ty V O s a W){Q:Sh}{r:RE}(h:r.qh f.ty s Q=J):lenOf (r.rv O).val=(r.rv O).aj.length:=by
 unfold RE.qh at h;rcases aqp.1 h with h|h;have X:=rm R ay (tH h);generalize r.rv O=N at X;cases X;rfl;unfold RE.nil at h;split at h;simp[RE.rv,lenOf];cases h
def arX(R:aC g B D f.ty V O s a W){e:TypeId}{G:TI}{i:Nat}{c:K}(h:WK f s v e X b G i=U c):∃l,W.heap[ad V i]?=U (pG l)/\(Y l:Int)=c.ah O:=by
 unfold WK at h;split at h;rename_i F M A;have Q:=R.mem.box i F M A;split at h;rename_i N;simp only[dv] at N;subst N;cases L:FH f s v e X b G M with
 |none=>rw[L] at h;cases h
 |some r=>
  rw[L] at h;cases h;obtain⟨rfl,z,w⟩:=Rf L;rw[DC] at Q;exact⟨_,Q,by simp[K.ah,I7 R z]⟩
 split at h;rename_i N;simp only[az,dv,gO] at N;obtain⟨⟨rfl,rfl⟩,rfl⟩:=N;cases H:qj M with
 |none=>rw[H] at h;cases h
 |some u=>
  rw[H] at h;cases h;rw[DD] at Q;obtain⟨y,x⟩:=IT (O:=O) (V:=V) H;rw[y] at Q;exact⟨_,Q,by simp[K.ah,x]⟩
 cases h;cases h
def MV{t:Int}{c:K}{R:RE}:lE wn (C.dJ O V [.mp X,.int I (.c t),.int I c,.am R])=.mapIter (U (ad V X)) (c.ah O).toNat ((R.rv O).aj.map oV).toArray (c.ah O).toNat:=by
 simp[lE,wn,uO,tI,C.dJ,C.gK,C.ah,afr]
def arY(R:aC g B D f.ty V O s a W)(H:i7 P f.ty){m:OM}{t:TypeId}{x:Operand}(G:m.o.op=.range t x)(F:a.eval x=(s.ev f.gl x).ah O V){X:S}(h:Qs f m.o.dst s t (s.ev f.gl x)=U X):
  ∃v Q N,sI P m.o a W v Q/\aC g B D f.ty N O X (a.put m.o.dst v) Q/\bH s O V X O N:=by
 unfold Qs at h;split at h;rename_i k e n ag ao q i A z;have y:P.underlying t=U (.map k e):=(H _ _ A).desc;split at h;rename_i te ab;split at h;rename_i c w;split at h;rename_i M;simp only[az] at M;obtain⟨⟨u,r⟩,p⟩:=M;cases h;obtain⟨l,j,d⟩:=arX R w;have b:C.dQ s.ni s.nb (Y s.rs) (aL s.au) [.mp i,.int I (.c (t:Int)),.int I c,.am (.k (.slice Z 0 0))]=true:=by
  simp[C.iD,C.aZ,RE.aZ,K.aZ,p,r]
 obtain⟨L,L1⟩:=R.xT u (t:=wn) b;rw[MV,<-d] at L;have aa:=run_range_map (P:=P) W t k e (ad V i) _ _ y j;refine⟨.pointer (U ⟨W.heap.size,0,Z⟩),W.alloc (.mapIter (U (ad V i)) (Y l) #[] (Y l)),V++[W.heap.size],.inl ?_, ?_,L1.put _ _⟩;simp only[execOp,G,F,z,C.ah,dq,aa,dl,eX];have:=L.put m.o.dst (.loc (Y s.au) 0);have ha:ad (V++[W.heap.size]) (Y s.au)=W.heap.size:=by simp[ad,<-R.gv]
 rw[C.ah,ha] at this;simpa[RE.rv] using this;cases h;cases h;cases h;cases h
def XS:∀{l:sd}{m:Nat}{e:MapEntry},e∈gu m l->∃(j:Nat)(p:Value×Value),l[j]?=U p/\e=⟨p.1,p.2,m+j⟩
 |[],m,e,h=>by simp[gu] at h
 |x::r,m,e,h=>by
  simp only[gu,dP] at h;rcases h with rfl|h;exact⟨0,x,rfl,rfl⟩;obtain⟨j,p,X,R⟩:=XS h;exact⟨j+1,p,by simpa using X,by rw[R];congr 1;omega⟩
def XT:∀{l:sd}{m j:Nat}{p:Value×Value},l[j]?=U p->(⟨p.1,p.2,m+j⟩:MapEntry)∈gu m l
 |[],m,j,p,h=>by simp at h
 |x::r,m,0,p,h=>by simp at h;subst h;simp[gu]
 |x::r,m,j+1,p,h=>by
  have:=XT (m:=m+1) (l:=r) (j:=j) (p:=p) (by simpa using h);simp only[gu,dP];right
  rwa [show m+(j+1)=m+1+j from ae]
def agx:∀(n:Nat)(l:aw),(∀j,j<n->j∈l)->n<=Y l
 |0,_,_=>Ww _
 |n+1,l,h=>by
  have X:=h n ae;have:=agx n (l.erase n) (λj R=>(aEG ae).2 (h j ae));rw[aEC X] at this;have:0<Y l:=aEF X;omega
def I8(R:FI f=J):bD f.ty (.mr (wz f))=[.int I]:=by
 simp only[FI,az,aDd] at R;obtain⟨X,N⟩:=R;unfold sf at X;split at X;rename_i tk M;simp only[az,dv] at X;obtain⟨c,Q⟩:=oa.1 X.1.1;have:=X.1.2;rw[Q] at this;simp only[LU,List.all_nil,LV] at this;unfold WE at this;split at this;simp[bD,wz,M,N,Q];cases this;cases X
def XU(X:FI f=J){R:aH}(h:F7 f.ty (wz f) R):∃x,R=[.mk (.int I x) []]:=by
 have Q:=h.len;rw[I8 X] at Q;obtain⟨c,rfl⟩:=oa.1 Q;obtain⟨x,N⟩:=h.int 0 c I rfl (by rw[I8 X];rfl);exact⟨x,by rw[N]⟩
def arZ(Q:FI f=J)(x:Int):F7 f.ty (wz f) [.mk (.int I x) []]:=by
 refine⟨by rw[I8 Q];rfl,λj c k R X=> ?_,λj c R X=> ?_⟩;rw[I8 Q] at X;cases j with
 |zero=>simp at R X;subst R X;exact⟨x,rfl⟩
 |succ j=>simp at R
 rw[I8 Q] at X;cases j with
 |zero=>simp at X
 |succ j=>simp at R
def Rh{r:RE}{A:K}{R:aH}(L:(r.rv O).aj[(A.ah O).toNat]?=U R):∀{ao:eQ}{j:Nat},ao.all mE=J->Y R=j+Y ao->
  (∀(i:Nat)(k:IntKind),ao[i]?=U (.int k)->∃m,R[j+i]?=U (.mk (.int k m) []))->(∀(i:Nat),ao[i]?=U .bool->∃m,R[j+i]?=U (.mk (.bool m) []))->
  C.aF O V (tL r A j ao)=(R.drop j).map RV.val
 |[],j,_,Q,_,_=>by rw[aql (by simp at Q;omega)];rfl
 |.int k::ao,j,N,Q,H,G=>by
  obtain⟨m,X⟩:=H 0 k rfl;have F:=Rh L (ao:=ao) (j:=j+1) (by simpa[mE] using N) (by simp at Q⊢;omega) (λi k h=>by have:=H (i+1) k (by simpa using h);rwa [show j+(i+1)=j+1+i from ae] at this) (λi h=>by have:=G (i+1) (by simpa using h);rwa [show j+(i+1)=j+1+i from ae] at this);have B:R.drop j=.mk (.int k m) []::R.drop (j+1):=by
   rw[xN] at X;have M:=(bZ.1 X).1;rw[E8 M];congr 1;rw[cK M] at X;simpa using X
  rw[xN] at X;simp only[tL,Dm,C.aF,C.ah,K.ah,bQ,F,B,eE,RV.mH,dB,L,X,oJ,bS]
 |.bool::ao,j,N,Q,H,G=>by
  obtain⟨m,X⟩:=G 0 rfl;have F:=Rh L (ao:=ao) (j:=j+1) (by simpa[mE] using N) (by simp at Q⊢;omega) (λi k h=>by have:=H (i+1) k (by simpa using h);rwa [show j+(i+1)=j+1+i from ae] at this) (λi h=>by have:=G (i+1) (by simpa using h);rwa [show j+(i+1)=j+1+i from ae] at this);have B:R.drop j=.mk (.bool m) []::R.drop (j+1):=by
   rw[xN] at X;have M:=(bZ.1 X).1;rw[E8 M];congr 1;rw[cK M] at X;simpa using X
  rw[xN] at X;simp only[tL,Dm,C.aF,C.ah,BE.ah,bQ,F,B,eE,RV.mH,dB,L,X,oJ,jp]
 |.ai _ _::ao,j,N,_,_,_=>by simp[mE] at N
def XW{r:RE}{X:K}:∀{ao:eQ}{j:Nat},(tL r X j ao).length=Y ao
 |[],j=>rfl
 |c::ao,j=>by simp[tL,XW (ao:=ao)]
def agy{r:RE}{N:K}{R:aH}(G:(r.rv O).aj[(N.ah O).toNat]?=U R)(M:b=E->X=1)(F:DB X R):(In r N X b).ah O V=qp b (R.take X):=by
 obtain⟨l,B,L⟩:=F;have A:(R.take X).length=X:=by rw[L];simpa using B
 have z:C.aF O V ((fU X).map λj=>.int I (.cell r N j))=(R.take X).map RV.val:=by
  rw[oU,oc];apply ke;intro j;rw[dN,dN];by_cases H:j<X;rw[Dd H];have y:j<Y l:=ae;have Q:(R.take X)[j]?=U (.mk (.int I l[j]) []):=by rw[L,dN,cK y];rfl
  have x:R[j]?=U (.mk (.int I l[j]) []):=by rw[mB,aI H] at Q;exact Q
  simp[Q,C.ah,K.ah,bQ,G,x,bS];rw[jK dF,jK ae];rfl
 rw[In,BL (λw=>by simpa using M w),z,qp];cases b;obtain⟨c,Q⟩:=oa.1 (A.trans (M rfl));rw[Q];rfl;rfl
def ar0{rs:RE}{je:K}{j:Int}(N:je.ah O=j)(h:∀R∈(rs.rv O).aj,∀x,R=[.mk (.int I x) []]->x≠j)(Q:∀R∈(rs.rv O).aj,∃x,R=[RV.mk (.int I x) []]):(Qt rs je).ah O=J/\∀r∈(rs.rv O).aj,kY 1 [j] r=false:=by
 have M:∀r∈(rs.rv O).aj,∀b c,kY 1 [j,b,c] r=false:=by
  intro r X b c;obtain⟨x,rfl⟩:=Q r X;have:=h _ X x rfl;simp[kY,bS,this]
 constructor;simp only[Qt,BE.ah,N,K.ah,gO,iE];rw[List.find?_eq_none.2 (λr X=>by simp[M r X])];rfl;intro r X;obtain⟨x,rfl⟩:=Q r X;have:=h _ X x rfl;simp[kY,bS,this]
def agz(G:FI f=J)(R:aC g B D f.ty V O s a W)(z:s.bd=J){d:cw}{i t:Nat}{c:K}{Q:RE}(y:cg s.au X=U (wn,[.mp i,.int I (.c (t:Int)),.int I c,.am Q]))(b:Q.qh f.ty s (wz f)=J)
  {N:K}{j:Nat}(w:N.ah O=j)(aa:¬((Q.rv O).aj.map oV).contains j=J){kv v:C}{key val:Value}
  (ab:∀F,kv.ah (O.add (.r F)) V=key)(hv:∀F,v.ah (O.add (.r F)) V=val):
  (Qt Q N).ah O=J/\aC g B D f.ty V (O.add (.r (iq (.ins (.am Q) 1 [.int I N]) O))) (WL f d s X s.ni i t c kv v) (a.put d (.tuple #[.bool J,key,val])) (W.putObj (ad V X) (.mapIter (U (ad V i)) (c.ah O).toNat (((Q.rv O).aj.map oV).toArray.push j) (c.ah O).toNat)):=by
 have u:=F8 R b;have ht:∀L∈(Q.rv O).aj,∃x,L=[RV.mk (.int I x) []]:=λL H=>XU G (u L H)
 obtain⟨u1,u2⟩:=ar0 (O:=O) (rs:=Q) (je:=N) w (λL H x M=>by
  intro e;apply aa;simp only[pz,hJ];refine⟨L,H, ?_⟩;subst M;simp[oV,bS,e]) ht
 refine⟨u1, ?_⟩;have hh:bJ W f.ty (.mr (wz f)) (iq (.ins (.am Q) 1 [.int I N]) O):=by
  refine agt (λL p=> ?_) (λx M=>by rw[I8 G] at M;simp at M;subst M;rfl);simp only[LE.aj,eE,Bi,C.cj] at p;rcases XP p with rfl|h;exact arZ G _;exact u L h
 have ac:(iq (.ins (.am Q) 1 [.int I N]) O).aj=(Q.rv O).aj++[[.mk (.int I j) []]]:=by
  simp only[iq,RV.jD,LE.aj,eE,Bi,C.cj,w];refine agu λr H=> ?_
  simpa[bS] using u2 r H
 have R1:=R.ags z hh;have af:∀o n m,lE wn (C.dJ (O.add (.r (iq (.ins (.am Q) 1 [.int I N]) O))) V [.mp i,.int I (.c (t:Int)),.int I c,.am Q])≠ .cells o n m:=by
  intro o n m M;rw[MV] at M;cases M
 have A:=R1.XO (cs':=[.mp i,.int I (.c (t:Int)),.int I c,.am (.v (Y s.rs))]) (i:=X) y af;have ag:(RE.v (Y s.rs)).rv (O.add (.r (iq (.ins (.am Q) 1 [.int I N]) O)))=iq (.ins (.am Q) 1 [.int I N]) O:=by
  simp[RE.rv,ak.rv,ak.add,<-R.er]
 obtain⟨a4,al⟩:=R.yf z;have l:=sF al y;simp only[C.iD,C.aZ,az] at l;have an:c.ah (O.add (.r (iq (.ins (.am Q) 1 [.int I N]) O)))=c.ah O:=K.dW (rn s.au O (.r (iq (.ins (.am Q) 1 [.int I N]) O)) V).agree _ l.2.2.1;rw[MV,ag,ac,an] at A;have a0:((Q.rv O).aj++[[RV.mk (.int I (j:Int)) []]]).map oV=(Q.rv O).aj.map oV++[j]:=by simp[oV,bS]
 rw[a0] at A;have k:=A.put d (.bP [.bool (.c J),kv,v]);have a1:(C.bP [.bool (.c J),kv,v]).ah (O.add (.r (iq (.ins (.am Q) 1 [.int I N]) O))) V=.tuple #[.bool J,key,val]:=by
  simp only[C.ah,C.aF,ab,hv,BE.ah]
 rw[a1] at k;have a3:((Q.rv O).aj.map oV).toArray.push j=((Q.rv O).aj.map oV++[j]).toArray:=ay;rw[a3];exact k
def agA{X:Type}:∀{l:List X}{m j:Nat},eG ((m+j:Nat):Int) ((wl m (Y l)).map λ(i:Nat)=>(i:Int)) l=l[j]?
 |[],m,j=>by simp[eG]
 |x::l,m,j=>by
  simp only[oK,Wm,eE,eG];cases j with
  |zero=>simp
  |succ j=>
   rw[aK ae,show m+(j+1)=m+1+j from ae,agA];simp
def agB{R:Type}{l:List R}{j:Nat}(h:X=Y l):eG (j:Int) (Bp X) l=l[j]?:=by
 have:=agA (l:=l) (m:=0) (j:=j);rw[iJ] at this;rw[Bp,h,P5];exact this
def ar1(h:r.ah x V=r.ah O V):C.aF x V r.cells=C.aF O V r.cells:=by
 cases r
 case agg l=>simp only[C.ah,Value.agg.injEq] at h;simpa[C.cells] using h
 all_goals simp only[C.cells,C.aF,h]
def agC(R:aC g B D f.ty V O s a W){Q:TI}(G:eU P v Q){x:K}{N:bq}{X:C}(h:Qu Q x N e=U (r,X))(F:Y N=Y e){O':ak}{j:Nat}(M:x.ah O'=j){k:Int}{u:C}(A:N[j]?=U k)(L:e[j]?=U u)(t:u.ah O' V=u.ah O V):
  r.ah O' V=.int I k/\X.ah O' V=u.ah O V:=by
 unfold Qu at h;split at h;rename_i q;split at h;rename_i y l p o;cases h;constructor;obtain⟨w,n,m,-⟩:=Xk (O:=O') p;obtain⟨k',z,i,rfl⟩:=m (.int I (.c k)) (by rw[M,agB ay,dN,A];rfl);cases i;simp only[C.ah,n,K.ah];obtain⟨b,s1,s2⟩:=QT (O:=O') (V:=V) o;have H:=fp.1 q u (jm L);have aa:Y u.cells=0+Y Q.ao:=by
  simp only[zB,az,dv] at H;omega
 have ab:Q.d.isAgg=E->Y l=1:=λha=>by rw[b];exact zR G ha
 rw[BL ab,s1 u.cells (by rw[M,agB (by simp[F]),dN,L];rfl) aa,aqE,ar1 t,QW (uZ R) H];cases h;cases h
def agD:∀{l:sd}{m:Nat},(gu m l).map (·.born)=wl m (Y l)
 |[],m=>rfl
 |x::r,m=>by simp[gu,agD (l:=r),Wm]
def ar2{p:Sp}{L:dm}(hP:p.P=P)(R:aC g B D f.ty V O s a W)(ac:i7 P f.ty){m:OM}{x:Operand}(ho:m.o.op=.next x E)(he:a.eval x=(s.ev f.gl x).ah O V){bl a9:S->T}{t:T}(h:WM f m.o.dst s (s.ev f.gl x) bl a9=U t)(hs:t.aP p O L):
  ∃v W' z w,sI P m.o a W v W'/\aC g B D f.ty V z w (a.put m.o.dst v) W'/\bH s O V w z V/\((z=O/\(a9 w).aP p O L)\/(bl w).aP p z L):=by
 unfold WM at h;split at h;rename_i q hx;split at h;rename_i bt i tz c F hq;split at h;cases h;rename_i b8;simp only[gO,Fh,az,dv,cF] at b8;obtain⟨⟨⟨⟨⟨rfl,br⟩,ba⟩,hb⟩,ca⟩,dn⟩:=b8;obtain⟨tn,rfl⟩:∃tn:Nat,tz=(tn:Int):=⟨tz.toNat,ae⟩;simp only[zu] at h;have bs:=R.mem.box _ _ _ hq;rw[MV] at bs;have cB:=F8 R ba;have dr:∀H∈(F.rv O).aj,∃x,H=[RV.mk (.int I x) []]:=λH hr=>XU br (cB H hr)
 obtain⟨ds,bx⟩:=R.yf hb;split at h;rename_i k e n ag ao qq dx cC cc ch;have hd:P.underlying tn=U (.map k e):=(ac _ _ cc).desc;have hK:tT P k n ag:=(ac _ _ cc).key k e n ag rfl;split at h;rename_i M af;split at h;cases h;rename_i bb;have bb:sf f.ty k n ag=true:=by simpa using bb
 have al:=R.mem.box _ _ _ ch;have bf:=sF bx ch;have model:∀(l:sd),W.heap[ad V i]?=U (pG l)->(Y l:Int)=c.ah O->
   (c.ah O<=lenOf (F.rv O).val/\sI P m.o a W (.tuple #[.bool E]) W)\/
   ∃(j:Nat)(kv:Value×Value)(G:World),l[j]?=U kv/\¬((F.rv O).aj.map oV).contains j=J/\(G=W\/G=W.drew)/\sI P m.o a W (.tuple #[.bool J,kv.1,kv.2]) (G.putObj (ad V q) (.mapIter (U (ad V i)) (c.ah O).toNat (((F.rv O).aj.map oV).toArray.push j) (c.ah O).toNat)):=by
  intro l hl b0;have hN:(c.ah O).toNat=Y l:=ae;rw[hN] at bs⊢;rcases run_next_at (P:=P) W m.o.type (ad V q) (ad V i) (Y l) (Y l) _ _ _ bs hl (λy hy=>by
   obtain⟨j,p,h1,h2⟩:=XS (by simpa using hy);rw[h2];have:=(bZ.1 h1).1;simpa using this) (cd _) with⟨h0,hr⟩|⟨en,b1,G,cD,hr⟩
  left;refine⟨?_,.inl ?_⟩;rw[I7 R ba,<-b0];have:=agx (Y l) ((F.rv O).aj.map oV) (λj hj=>by
   cases A:((F.rv O).aj.map oV).contains j with
   |true=>exact pz.1 A
   |false=>
    exfalso;have cI:=XT (m:=0) (cK hj);have:(⟨(l[j]).1,(l[j]).2,0+j⟩:MapEntry)∈(leftOf (gu 0 l).toArray ((F.rv O).aj.map oV).toArray):=by
     unfold leftOf;rw[aDG];refine⟨by simpa using cI, ?_⟩;simp only[iJ,gO];rw[<-A];simp
    have dy:=Array.size_pos_of_mem this;omega)
  simpa using this;simp only[execOp,ho,he,hx,C.ah,dq,hr,dl,eX];right;unfold leftOf at b1;rw[Array.mem_toList_iff,aDG] at b1;obtain⟨cO,cl⟩:=b1;obtain⟨j,kv,hj,rfl⟩:=XS (by simpa using cO);simp only[iJ] at cl hr;refine⟨j,kv,G,hj, ?_,cD,.inl ?_⟩;simpa using cl;simp only[execOp,ho,he,hx,C.ah,dq,hr,dl,eX,arV]
 have cm:(W=W)->(c.ah O<=lenOf (F.rv O).val)->sI P m.o a W (.tuple #[.bool E]) W->(a9 (s.put m.o.dst (.bP [.bool (.c E)]))).aP p O L->∃v W' z w,sI P m.o a W v W'/\aC g B D f.ty V z w (a.put m.o.dst v) W'/\bH s O V w z V/\((z=O/\(a9 w).aP p O L)\/(bl w).aP p z L):=by
  intro _ _ cR cW;have:=R.put m.o.dst (.bP [.bool (.c E)]);exact⟨_,W,O,_,cR,this,(bH.refl _ _ _).put _ _,.inl ⟨rfl,cW⟩⟩
 have cn:∀G,(G=W\/G=W.drew)->aC g B D f.ty V O s a G:=by
  rintro G (rfl|rfl);exact R;exact R.drew
 split at h
 
 rename_i an;simp only[dv] at an;subst an;split at h;rename_i r hr;split at h;rename_i bg;simp only[az] at bg;cases h;obtain⟨rfl,c1,c5⟩:=Rf hr;rw[DC] at al;have b2:c.ah O=((r.rv O).aj.length:Int):=by
  have:=K.bU _ _ bg.1;rw[this,K.ah,I7 R c1]
 have co:=F8 R c1;simp only[Qv,T.aP] at hs;rcases model _ al (by rw[b2];simp) with⟨Q,g2⟩|⟨j,kv,G,Q,g2,g3,g4⟩;exact cm rfl Q g2 (hs.2 (decide_eq_true Q))
 ·rw[dN] at Q;cases a0:(r.rv O).aj[j]? with
  |none=>rw[a0] at Q;cases Q
  |some H=>
  rw[a0] at Q;simp only[dV,cG] at Q;have c0:=(bZ.1 a0).1;have cp:=jm a0;have c2:=IS bb af (co H cp);have b3:=hs.1 (j:Int) ae ae;have R1:=(cn G g3).agr hb (j:Int);have aa:=(rn s.au O (.i (j:Int)) V).agree;simp only[C.iD,C.aZ,az] at bf;have ab:=sF bx hq;simp only[C.iD,C.aZ,az] at ab;have a3:F.rv (O.add (.i (j:Int)))=F.rv O:=RE.rk aa _ ab.2.2.2.1;have b4:c.ah (O.add (.i (j:Int)))=c.ah O:=K.dW aa _ ab.2.2.1;have a4:(K.v s.ni).ah (O.add (.i (j:Int)))=(j:Int):=by simp[K.ah,ak.add,<-R.ei]
  have c3:∀X,(K.v s.ni).ah ((O.add (.i (j:Int))).add (.r X))=(j:Int):=λX=>a4
  have c4:∀X,r.rv ((O.add (.i (j:Int))).add (.r X))=r.rv O:=λX=>by
   have a1:=RE.rk aa _ bf.1;have b5:=(rn s.au (O.add (.i (j:Int))) (.r X) V).agree;have a2:=RE.rk (b5.mono (by simp[ak.add]) (cd _) (cd _)) r bf.1;rw[a2,a1]
  have cs:∀X,(r.rv ((O.add (.i (j:Int))).add (.r X))).aj[((K.v s.ni).ah ((O.add (.i (j:Int))).add (.r X))).toNat]?=U H:=λX=>by
   rw[c4,c3];simpa using a0
  obtain⟨kc,r1,r2,r3⟩:=IR (va:=M.d.isAgg) bb af;have b6:=co H cp;have b0:Y H=n+Y M.ao:=by rw[b6.len,r1,gD,r2]
  have cv:∀(N:Nat)(ct:CT),M.ao[N]?=U ct->(bD f.ty (.mr ⟨k,e,n,ag,M.d.isAgg⟩))[n+N]?=U ct:=λN ct hm=>by
   rw[r1,iC ae,r2,show n+N-n=N from ae];exact hm
  have cx:∀(N:Nat)(ct:CT),M.ao[N]?=U ct->∃c,H[n+N]?=U c:=λN ct hm=>by
   have:N<Y M.ao:=(bZ.1 hm).1;exact⟨H[n+N]' ae,cK _⟩
  have c6:M.d.isAgg=E->(tL r (.v s.ni) n M.ao).length=1:=λha=>by rw[XW];exact zR (ac _ _ af) ha
  have c7:∀X,(se M.d.isAgg (tL r (.v s.ni) n M.ao)).ah ((O.add (.i (j:Int))).add (.r X)) V=qp M.d.isAgg (H.drop n):=λX=>by
   rw[BL c6,Rh (cs X) c5 b0 (λN kk hm=>by
    obtain⟨c,A⟩:=cx N _ hm;obtain⟨x',b7⟩:=b6.int (n+N) c kk A (cv N _ hm);exact⟨x',by rw[A,b7]⟩) (λN hm=>by
    obtain⟨c,A⟩:=cx N _ hm;obtain⟨x',b7⟩:=b6.bool (n+N) c A (cv N _ hm);exact⟨x',by rw[A,b7]⟩),qp]
   cases c8:M.d.isAgg;have h1:=zR (ac _ _ af) c8;obtain⟨c,A⟩:=oa.1 (show(H.drop n).length=1 from dF);rw[A];rfl;rfl
  obtain⟨u1,u2⟩:=agz (d:=m.o.dst) (s:={s with ni:=s.ni+1}) (kv:=In r (.v s.ni) n ag) (v:=se M.d.isAgg (tL r (.v s.ni) n M.ao)) (key:=qp ag (H.take n)) (val:=qp M.d.isAgg (H.drop n)) br R1 ca hq (by simpa only[RE.qh,XR] using ba) a4 (by rw[a3];exact g2) (λX=>agy (cs X) hK.1 c2) c7;rw[a3,b4] at u2;subst Q;refine⟨_,_,_,_,g4,u2, ?_,.inr ?_⟩;refine bH.put (s:=s) (s':={s with ni:=s.ni+1,rs:=s.rs++[RK.mr (wz f)],au:=s.au.set q _}) ⟨(rn s.au O (.i (j:Int)) V).trans (rn s.au _ _ V) (λ_ h=>h),λj hj=>(oX (bZ.1 (jO.1 hq)).1).2 (.inr hj),ay,cd _⟩ _ _;exact b3 u1
 cases h;cases h;split at h
 
 rename_i an;simp only[az,dv,gO] at an;obtain⟨⟨rfl,rfl⟩,rfl⟩:=an;split at h;rename_i ks c9;split at h;rename_i bg;split at h;rename_i dc v0 dd;cases h;rw[DD] at al;obtain⟨p1,p2⟩:=IT (O:=O) (V:=V) c9;rw[p1] at al;have b2:c.ah O=(Y ks:Int):=by
  have:=K.bU _ _ bg;rw[this,K.ah]
 simp only[Qv,T.aP] at hs;rcases model _ al (by rw[b2];simp[p2]) with⟨Q,g2⟩|⟨j,kv,G,Q,g2,g3,g4⟩;exact cm rfl Q g2 (hs.2 (decide_eq_true Q))
 ·rw[dN] at Q;cases hz:(ks.zip (lX cC))[j]? with
  |none=>rw[hz] at Q;cases Q
  |some kp=>
  rw[hz] at Q;simp only[dV,cG] at Q;obtain⟨z1,z2⟩:=aqk.1 hz;have df:∀{l:av}{jj:Nat}{u:C},C.dQ (Y O.i) (Y O.b) (Y O.r) (aL s.au) l=J->(lX l)[jj]?=U u->u.bd (Y O.i) (Y O.b) (Y O.r) (aL s.au)=true:=by
   intro l;induction l using lX.induct with
   |case1 k v r ih=>
    intro jj u bk hu;simp only[C.iD,az] at bk;simp only[lX] at hu;cases jj with
    |zero=>simp at hu;subst hu;exact bk.2.1
    |succ jj=>exact ih bk.2.2 (by simpa using hu)
   |case2 l h1=>
    intro jj u bk hu;unfold lX at hu;split at hu;exact aY rfl (h1 _ _ _);simp at hu
  have c0:j<Y ks:=(bZ.1 z1).1;have b3:=hs.1 (j:Int) ae ae;have R1:=(cn G g3).agr hb (j:Int);have aa:=(rn s.au O (.i (j:Int)) V).agree;have ab:=sF bx hq;simp only[C.iD,C.aZ,az] at ab;have a3:F.rv (O.add (.i (j:Int)))=F.rv O:=RE.rk aa _ ab.2.2.2.1;have b4:c.ah (O.add (.i (j:Int)))=c.ah O:=K.dW aa _ ab.2.2.1;have a4:(K.v s.ni).ah (O.add (.i (j:Int)))=(j:Int):=by simp[K.ah,ak.add,<-R.ei]
  have cy:=df bf z2;have dk:∀X,kp.2.ah ((O.add (.i (j:Int))).add (.r X)) V=kp.2.ah O V:=λX=>by
   have b5:=(rn s.au (O.add (.i (j:Int))) (.r X) V).agree;rw[C.dW (b5.mono (by simp[ak.add]) (cd _) (cd _)) (λ_ _=>rfl) _ cy,C.dW aa (λ_ _=>rfl) _ cy]
  have cA:=λX=>agC R (ac _ _ af) dd p2 (O':=(O.add (.i (j:Int))).add (.r X)) (j:=j) a4 z1 z2 (dk X)
  obtain⟨u1,u2⟩:=agz (d:=m.o.dst) (s:={s with ni:=s.ni+1}) (kv:=dc) (v:=v0) (key:=.int I kp.1) (val:=kp.2.ah O V) br R1 ca hq (by simpa only[RE.qh,XR] using ba) a4 (by rw[a3];exact g2) (λX=>(cA X).1) (λX=>(cA X).2);rw[a3,b4] at u2;subst Q;refine⟨_,_,_,_,g4,u2, ?_,.inr ?_⟩;refine bH.put (s:=s) (s':={s with ni:=s.ni+1,rs:=s.rs++[RK.mr (wz f)],au:=s.au.set q _}) ⟨(rn s.au O (.i (j:Int)) V).trans (rn s.au _ _ V) (λ_ h=>h),λj hj=>(oX (bZ.1 (jO.1 hq)).1).2 (.inr hj),ay,cd _⟩ _ _;exact b3 u1
 cases h;cases h;cases h;cases h;cases h;cases h;cases h;cases h
def ar3{p:Sp}{L:dm}(R:aC g B D f.ty V O s a W)(u:i7 P f.ty){m:OM}{x:Operand}(ho:m.o.op=.entry x)(he:a.eval x=(s.ev f.gl x).ah O V){bg:S->T}{t:T}(h:WO f m.o.dst s (s.ev f.gl x) bg=U t)(A:t.aP p O L):
  ∃v s',sI P m.o a W v W/\aC g B D f.ty V O s' (a.put m.o.dst v) W/\bH s O V s' O V/\(bg s').aP p O L:=by
 unfold WO at h;split at h;rename_i q hx;split at h;rename_i bt i tz c Q hq;split at h;cases h;rename_i bk;simp only[gO,Fh,az,dv,cF] at bk;obtain⟨⟨⟨⟨rfl,b6⟩,a3⟩,hb⟩,cC⟩:=bk;obtain⟨tn,rfl⟩:∃tn:Nat,tz=(tn:Int):=⟨tz.toNat,ae⟩;simp only[zu] at h;have al:=R.mem.box _ _ _ hq;rw[MV] at al;have b7:=F8 R a3;have model:∀(l:sd),W.heap[ad V i]?=U (pG l)->(Y l:Int)=c.ah O->(WN c Q).ah O=J->
   ∃(j:Nat)(b:Value×Value),l[j]?=U b/\(uU Q).ah O=j/\sI P m.o a W (.tuple #[b.1,b.2]) W:=by
  intro l hl bl b8;obtain⟨a4,ca⟩:=zX b8;obtain⟨a4,cc⟩:=zX a4;have h1:=yk a4;have h2:=Q6 cc;obtain⟨h3,h4⟩:=zX ca;have h3:=yk h3;rw[BK] at h4;have h4:(uU Q).ah O<c.ah O:=by simpa[gX] using h4
  simp only[K.ah] at h1 h2 h3;rw[I7 R a3] at h1 h2;have hN:(c.ah O).toNat=Y l:=ae;rw[hN] at al;obtain⟨aa,a9,an⟩:∃aa a9,(Q.rv O).aj=aa++[a9]:=⟨_,_,(List.dropLast_concat_getLast (by intro e;rw[e] at h1;simp at h1)).symm⟩;obtain⟨z,y⟩:=XU b6 (b7 a9 (by rw[an];simp));have ch:IntKind.i64.wrap (((Q.rv O).aj.length:Int)-1)=((Q.rv O).aj.length:Int)-1:=by
   simp[IntKind.wrap,IntKind.bits,IntKind.signed];omega
  have br:(uU Q).ah O=z:=by
   simp only[uU,K.ah,aU,I7 R a3,ch,bQ];have:(((Q.rv O).aj.length:Int)-1).toNat=Y aa:=by rw[an];simp
   rw[this,an,y];simp[dB,bS]
  rw[br] at h3 h4;obtain⟨j,rfl⟩:∃j:Nat,z=(j:Int):=⟨z.toNat,ae⟩;have bs:j<Y l:=ae;refine⟨j,l[j],cK bs,br,.inl ?_⟩;have cl:((Q.rv O).aj.map oV).toArray=((aa.map oV).toArray).push j:=by
   rw[an,y];simp[oV,bS]
  rw[cl] at al;have bx:=XT (m:=0) (cK bs);rw[iJ] at bx;have hr:=run_entry_at (P:=P) W (ad V q) (ad V i) (Y l) ((aa.map oV).toArray) (gu 0 l).toArray (Y l) ⟨(l[j]).1,(l[j]).2,j⟩ al hl (by simpa using bx) (by
   simp only[agD];exact List.nodup_range' ..)
  simp only[execOp,ho,he,hx,C.ah,dq,hr,dl,eX]
 split at h;rename_i k e n ag ao qq cD cm b0 cn;have hd:P.underlying tn=U (.map k e):=(u _ _ b0).desc;have hK:tT P k n ag:=(u _ _ b0).key k e n ag rfl;split at h;rename_i N ab;split at h;cases h;rename_i a0;have a0:sf f.ty k n ag=true:=by simpa using a0
 have ac:=R.mem.box _ _ _ cn;split at h;rename_i af;simp only[dv] at af;subst af;split at h;rename_i r hr;split at h
 ·rename_i ba;cases h;obtain⟨rfl,c1,c5⟩:=Rf hr;rw[DC] at ac;have bb:c.ah O=((r.rv O).aj.length:Int):=by
   have:=K.bU _ _ ba;rw[this,K.ah,I7 R c1]
  have b1:=F8 R c1;obtain⟨hn,A⟩:=A;obtain⟨j,b,M,g2,g3⟩:=model _ ac (by rw[bb];simp) hn;rw[dN] at M;cases a1:(r.rv O).aj[j]? with
  |none=>rw[a1] at M;cases M
  |some G=>
  rw[a1] at M;simp only[dV,cG] at M;have b2:=jm a1;have co:=IS a0 ab (b1 G b2);have b3:(r.rv O).aj[((uU Q).ah O).toNat]?=U G:=by rw[g2];simpa using a1
  obtain⟨kc,r1,r2,r3⟩:=IR (va:=N.d.isAgg) a0 ab;have bd:=b1 G b2;have bl:Y G=n+Y N.ao:=by rw[bd.len,r1,gD,r2]
  have b4:∀(X:Nat)(w:CT),N.ao[X]?=U w->(bD f.ty (.mr ⟨k,e,n,ag,N.d.isAgg⟩))[n+X]?=U w:=λX w H=>by
   rw[r1,iC ae,r2,show n+X-n=X from ae];exact H
  have b5:∀(X:Nat)(w:CT),N.ao[X]?=U w->∃c,G[n+X]?=U c:=λX w H=>by
   have:X<Y N.ao:=(bZ.1 H).1;exact⟨G[n+X]' ae,cK _⟩
  have cp:N.d.isAgg=E->(tL r (uU Q) n N.ao).length=1:=λha=>by rw[XW];exact zR (u _ _ ab) ha
  have cs:(se N.d.isAgg (tL r (uU Q) n N.ao)).ah O V=qp N.d.isAgg (G.drop n):=by
   rw[BL cp,Rh b3 c5 bl (λX kk H=>by
    obtain⟨c,F⟩:=b5 X _ H;obtain⟨x',bf⟩:=bd.int (n+X) c kk F (b4 X _ H);exact⟨x',by rw[F,bf]⟩) (λX H=>by
    obtain⟨c,F⟩:=b5 X _ H;obtain⟨x',bf⟩:=bd.bool (n+X) c F (b4 X _ H);exact⟨x',by rw[F,bf]⟩),qp]
   cases cv:N.d.isAgg;have h1:=zR (u _ _ ab) cv;obtain⟨c,F⟩:=oa.1 (show(G.drop n).length=1 from dF);rw[F];rfl;rfl
  have cx:=agy (V:=V) b3 hK.1 co;have R2:=R.put m.o.dst (.bP [In r (uU Q) n ag,se N.d.isAgg (tL r (uU Q) n N.ao)]);simp only[C.ah,C.aF,cx,cs] at R2;subst M;exact⟨_,_,g3,R2,(bH.refl _ _ _).put _ _,A⟩
 cases h;cases h;split at h;rename_i af;simp only[az,dv,gO] at af;obtain⟨⟨rfl,rfl⟩,rfl⟩:=af;split at h;rename_i ks cy;split at h;rename_i ba;split at h
 ·rename_i cA v0 cB;cases h;rw[DD] at ac;obtain⟨p1,p2⟩:=IT (O:=O) (V:=V) cy;rw[p1] at ac;have bb:c.ah O=(Y ks:Int):=by
   have:=K.bU _ _ ba;rw[this,K.ah]
  obtain⟨hn,A⟩:=A;obtain⟨j,b,M,g2,g3⟩:=model _ ac (by rw[bb];simp[p2]) hn;rw[dN] at M;cases y:(ks.zip (lX cm))[j]? with
  |none=>rw[y] at M;cases M
  |some kp=>
  rw[y] at M;simp only[dV,cG] at M;obtain⟨z1,z2⟩:=aqk.1 y;obtain⟨e1,e2⟩:=agC R (u _ _ ab) cB p2 (O':=O) g2 z1 z2 rfl;have R2:=R.put m.o.dst (.bP [cA,v0]);simp only[C.ah,C.aF,e1,e2] at R2;subst M;exact⟨_,_,g3,R2,(bH.refl _ _ _).put _ _,A⟩
 cases h;cases h;cases h;cases h;cases h;cases h;cases h;cases h
def agE{p:Sp}{L:dm}(R:aC g B D f.ty V O s a W)(ab:i7 P f.ty){m:OM}{t t2:TypeId}{G:BinOp}{X:Bool}{x y:Operand}(u:m.o.op=.binOp G t x y t2)(ac:(G=.eql/\X=E)\/(G=.neq/\X=J))(he:a.eval x=(s.ev f.gl x).ah O V)(af:a.eval y=(s.ev f.gl y).ah O V){l:S->T}{j:T}(h:Qw f m.o.dst s t X (s.ev f.gl x) (s.ev f.gl y) l=U j)(F:j.aP p O L):
  ∃v z,sI P m.o a W v W/\aC g B D f.ty V O z (a.put m.o.dst v) W/\bH s O V z O V/\(l z).aP p O L:=by
 unfold Qw at h;split at h;rename_i e ao q r ht hx hy;split at h;rename_i hk;cases h;have hd:P.underlying t=U (.slice e):=(ab _ _ ht).desc;have N:=rm R ay hk;simp only[T.aP] at F;obtain⟨A,n,c,Q⟩:∃A n c,r.ah O=.slice A n c:=by
  have:∃A n c,(r.rv O).val=.slice A n c:=by
   generalize r.rv O=H at N;cases N;exact⟨_,_,_,rfl⟩
  exact this
 have ag:(K.len r).ah O=n:=by simp only[K.ah];unfold RE.ah at Q;rw[Q];rfl
 have i:(Dj t (.slice A n c) (.slice Z 0 0)).run P W=.ok A.isNone W:=by
  have w:Dj t (.slice A n c) (.slice Z 0 0)=Bj (9999+1) t (.slice A n c) (.slice Z 0 0):=rfl;rw[w,Bj,dq,eU.ik hd,dl];cases A<;>rfl
 have d:(execOp a.eval m.o).run P W=.ok (.value (.bool (if X then !A.isNone else A.isNone))) W:=by
  simp only[execOp,u,he,af,hx,hy,C.ah,Q];have al:RE.ah O (.k (.slice Z 0 0))=.slice Z 0 0:=rfl;rw[al];rcases ac with⟨rfl,rfl⟩|⟨rfl,rfl⟩;simp[eqGuard,binOp,i];simp[eqGuard,binOp,i]
 cases M:A with
 |none=>
  have hn:n=0:=by
   unfold RE.ah at Q;have w:∀{H:RV},bJ W f.ty (.sl e) H->H.val=.slice A n c->A=Z->n=0:=by
    intro H N Q M;cases N with
    |sl e A' a1 a3 aa h1 h2 h3 hi hb u=>
     simp only[RV.mH,Value.slice.injEq] at Q;obtain⟨rfl,rfl,rfl⟩:=Q;subst M;cases aa with
     |nil=>simp at h1;omega
     |cons an aa=>
      obtain⟨-,b,a4,a0,-⟩:=h3 0 an rfl;cases a0
   exact w N Q M
  have:=F.2 (by show decide ((K.len r).ah O<=(K.c 0).ah O)=J;rw[ag,hn];rfl);refine⟨_,_,.inl d, ?_,(bH.refl _ _ _).put _ (.bool (.c (!X))),this⟩;have Q:(if X then !A.isNone else A.isNone)= !X:=by rw[M];cases X<;>rfl
  rw[Q];exact R.put m.o.dst (.bool (.c (!X)))
 |some A0=>
  have:=F.1 (by simp[BE.ah]);refine⟨_,_,.inl d, ?_,(bH.refl _ _ _).put _ (.bool (.c X)),this⟩;have Q:(if X then !A.isNone else A.isNone)=X:=by rw[M];cases X<;>rfl
  rw[Q];exact R.put m.o.dst (.bool (.c X))
 cases h;cases h
def aC.cells{x:Ty}{H:av}(R:aC g B D x V O (s.cZ X v e) a W)(F:X<Y s.au)(h:C.dJ O V e=C.dJ O V H):aC g B D x V O (s.cZ X v H) a W:=by
 have G:∀j,aL (s.au.set X (U (v,H))) j=aL (s.au.set X (U (v,e))) j:=λj=>by
  rw[tG,oX F,oX F]
 have w:(s.cZ X v H).au=s.au.set X (U (v,H)):=rfl;have M:(s.cZ X v e).au=s.au.set X (U (v,e)):=rfl;refine⟨⟨R.mem.base,λj N=>R.mem.own j (by rw[M,<-G];exact N),λj k N u=>R.mem.inj j k (by rw[M,<-G];exact N) (by rw[M,<-G];exact u),λj t r L=> ?_,λk Q A z y=>⟨(R.mem.am k Q A z y).1,λb L j N=>(R.mem.am k Q A z y).2 b L j (by rw[M,<-G];exact N)⟩⟩,by simpa[S.cZ] using R.gv,R.ei,R.eb,R.er,R.cU,R.size,R.tmps,λk Q A b q p o=> ?_⟩;rw[jO,w] at L;by_cases N:j=X;subst N;rw[Fc (by simpa using F)] at L;cases L;rw[<-h];exact R.mem.box j v e (by rw[jO,M,Fc (by simpa using F)]);rw[qX (λQ=>N Q.symm)] at L;exact R.mem.box j t r (by rw[jO,M,qX (λQ=>N Q.symm)];exact L);obtain⟨z,y,n,m,l⟩:=R.fZ k Q A b q p o;exact⟨z,y,λj N=>n j (by rw[M,<-G];exact N),m,l⟩
def ar4{b:BE}{y z:C}(h:WP b r y=U z):z.gK O V=if b.ah O then r.gK O V else y.gK O V:=by
 unfold WP at h;split at h;split at h;rename_i X;subst X;cases h;simp only[C.gK,C.ah,K.ah];split<;>rfl;cases h;cases h;simp only[C.gK,C.ah,BE.ah];split<;>rfl;cases h
def MW:∀(R l:av)(X:Nat),C.dJ O V (kU l X R)=fJ (C.dJ O V l) X (C.dJ O V R)
 |[],l,X=>rfl
 |v::R,l,X=>by
  rw[kU,MW R (l.set X v) (X+1)];simp only[C.dJ,eE,fJ,ae1]
def agF{b:BE}:∀{M:av}{R:Nat}{X Q:av},Me b M R X=U Q->
  Y Q=Y X/\(M=[]\/R+Y M<=Y X)/\(b.ah O=J->C.dJ O V Q=C.dJ O V (kU X R M))/\(b.ah O=E->C.dJ O V Q=C.dJ O V X)
 |[],R,X,Q,h=>by simp only[Me,cG] at h;subst h;exact⟨rfl,.inl rfl,λ_=>rfl,λ_=>rfl⟩
 |x::r,R,X,Q,h=>by
  simp only[Me] at h;split at h;rename_i A H;split at h;rename_i c z;obtain⟨G,L,y,w⟩:=agF h;have v:R<Y X:=(bZ.1 H).1;have F:=ar4 (O:=O) (V:=V) z;have B:C.dJ O V (X.set R c)=(C.dJ O V X).set R (c.gK O V):=by simp[C.dJ,ae1]
  have u:C.dJ O V X=(C.dJ O V X).set R (A.gK O V):=by
   apply ke;intro j;rw[uL];split;rename_i t;subst t;simp[C.dJ,v];have:=bZ.1 H;rw[this.2];rfl
  rw[aqA] at G L;refine⟨G,.inr ?_,λN=> ?_,λN=> ?_⟩;rcases L with rfl|L;simp;omega;simp only[oK];omega;rw[y N,MW,B,F,aI N,MW];simp only[C.dJ,eE,fJ];rw[w N,B,F,aK (by simp[N]),<-u];cases h;cases h
def agG{e:K}{G:av}(y:G≠[]):∀{M:bq}{L X R:av},FJ e G M L X=U R->Qx M=J->
  Y R=Y X/\(∀v,eG (e.ah O) M L=U v->∃i H,v=.loc i H/\H+Y G<=Y X/\C.dJ O V R=C.dJ O V (kU X H G))/\(¬(e.ah O∈M)->C.dJ O V R=C.dJ O V X)
 |[],[],X,R,h,_=>by simp only[FJ,cG] at h;subst h;exact⟨rfl,λv Q=>by simp[eG] at Q,λ_=>rfl⟩
 |[],_::_,X,R,h,_=>by simp[FJ] at h
 |k::M,L,X,R,h,B=>by
  simp only[Qx,az,gO] at B;cases L with
  |nil=>simp[FJ] at h
  |cons u L=>
   cases u<;>simp only[FJ] at h<;>try cases h
   rename_i i H;split at h;rename_i f q;obtain⟨p,o,x⟩:=agG y h B.2;obtain⟨w,A,t,z⟩:=agF (O:=O) (V:=V) q;have A:=A.resolve_left y;simp only[BE.ah,K.ah,gX,dv,beq_eq_false_iff_ne,ne_eq] at t z;refine⟨by rw[p,w],λv Q=> ?_,λr=> ?_⟩;simp only[eG] at Q;split at Q;rename_i N;cases Q;refine⟨i,H,rfl,A, ?_⟩;rw[x (λF=>by
    rw[N] at F;have:=B.1;rw[pz.2 F] at this;cases this),t N]
   rename_i N;obtain⟨n,m,rfl,l,j⟩:=o v Q;refine⟨n,m,rfl,by rw[<-w];exact l, ?_⟩;rw[j,MW,z N,<-MW];have N:¬e.ah O=k:=λg=>r (by simp[g])
   rw[x (λF=>r (by simp[F])),z N];cases h
def agH(h:Mf r=J):r.single=true:=by cases r<;>simp only[Mf,iW] at h<;>rfl
def agI:∀{l:av},Io l=J->l≠[]/\Dn l=J
 |[],h=>by cases h
 |[x],h=>⟨ay,by rw[Qi.2,agH h,Qi.1];rfl⟩
 |x::y::r,h=>by
  simp only[Io,az] at h;exact⟨ay,by rw[Qi.2,agH h.1,(agI (l:=y::r) h.2).2];rfl⟩
def ar5(h:Io r.cells=J):(r.ah O V).cells.toList=C.aF O V r.cells:=by
 cases r
 case agg l=>simp[C.cells,C.ah,Value.cells]
 all_goals(simp only[C.cells,Io,Mf,iW] at h)
 all_goals rfl
def ar6{P:Program}{p:Sp}{L:dm}(R:aC g B D f.ty V O s a W)(j:i7 P f.ty){x y:Operand}{z:TI}{X:K}{H:bq}(d:f.ty v=U z)(c:l.op=.store v x y)(b:a.eval x=(C.fW X H e).ah O V)(e2:a.eval y=(s.ev f.gl y).ah O V){k:S->T}{w:T}
  (h:WQ l.dst s z X H e (s.ev f.gl y) k=U w)(M:w.aP p O L):∃Q N G,sI P l a W Q N/\aC g B D f.ty V O G (a.put l.dst Q) N/\bH s O V G O V/\(k G).aP p O L:=by
 unfold WQ at h;split at h;rename_i i aa;split at h;rename_i bt cs hb;split at h;rename_i ab ac;split at h;rename_i r;simp only[az,dv] at r;obtain⟨⟨⟨h1,h2⟩,h3⟩,q⟩:=r;cases h;simp only[T.aP] at M;obtain⟨n,M⟩:=M;rw[QU h2] at n;obtain⟨u,F⟩:=kD.1 n;obtain⟨af,ag⟩:=agI q;obtain⟨g1,g2,-⟩:=agG (O:=O) (V:=V) af ac h3;obtain⟨i',m,rfl,al,an⟩:=g2 u F;obtain⟨a4,hq⟩:=afD aa (IN F);cases hq;obtain⟨A,a0⟩:=ye hb;have hi:i<Y s.au:=(bZ.1 (jO.1 A)).1;have a1:((s.ev f.gl y).ah O V).cells.toList=C.aF O V (s.ev f.gl y).cells:=ar5 q;obtain⟨N,hr,R'⟩:=R.store (P:=P) (v:=s.ev f.gl y) (off:=m) (j _ _ d) A a0 h1.symm al ag a1;have R2:aC g B D f.ty V O (s.cZ i bt ab) a N:=R'.cells hi an.symm;refine⟨undef,N,_,.inr ⟨?_,rfl⟩,R2.put l.dst (.bP []),agd A _ _,M⟩;have a3:(C.fW X H e).ah O V=.pointer (U ⟨ad V i,m,Z⟩):=by
  simp only[C.ah];rw[QX F rfl];rfl
 simp only[execOp,c,b,e2,a3,dq,hr,dl,eX];cases h;cases h;cases h;cases h
def ar7{p:Sp}{L:dm}(R:aC p.S0 p.w0 D f.ty V O s a W)(l:i7 p.P f.ty)(w:eL f.gl O){m:OM}{aa:S->Fx->T}{q:Fx}(r:tV O q){t:T}(h:zG f m s aa q=U t)(n:t.aP p O L):
  ∃v F j b X ab,sI p.P m.o a W v F/\aC p.S0 p.w0 D f.ty b j X (a.put m.o.dst v) F/\bH s O V X j b/\tV j ab/\(aa X ab).aP p j L:=by
 unfold zG at h;split at h;cases h;rename_i M;have M:∀x∈m.o.op.operands.toList,(s.ev f.gl x).eJ=false:=by
  intro x hx;cases hh:(s.ev f.gl x).eJ;rfl;exact aY (by simp only[jd];right;exact kS.2 ⟨x,hx,hh⟩) M
 split at h
 
 rename_i i Q;cases d:Qr f m.o.dst s i with
 |none=>rw[d] at h;cases h
 |some X=>
  rw[d] at h;cases h;obtain⟨v,F,b,H,G,N⟩:=arS (P:=p.P) R Q d;exact⟨v,F,O,b,X,q,H,G,N,r,n⟩
 rename_i i x y z Q;rw[Q] at M;have A:=du R w x (M x cL);have k:=du R w y (M y cL);have e3:=du R w z (M z cL);split at h;rename_i X c;cases h;obtain⟨F,H,G,N⟩:=Rg (P:=p.P) R l c;exact⟨undef,F,O,V,X,q,.inr ⟨by simp only[execOp,Q,A,k,e3,dq,H,dl,eX],rfl⟩,G,N,r,n⟩;rename_i k' x' X c;cases h;obtain⟨F,H,G,N⟩:=Rg (P:=p.P) R l c;exact⟨undef,F,_,V,X,_,.inr ⟨by simp only[execOp,Q,A,k,e3,dq,H,dl,eX],rfl⟩,G,N,Gf R N.ext.agree r,n⟩;cases h;rename_i i x y z Q;rw[Q] at M;have A:=du R w x (M x cL);have k:=du R w y (M y cL);have e3:=du R w z (M z cL);split at h;rename_i X c;cases h;obtain⟨F,H,G,N⟩:=Rg (P:=p.P) R l c;exact⟨undef,F,O,V,X,q,.inr ⟨by simp only[execOp,Q,A,k,e3,dq,H,dl,eX],rfl⟩,G,N,r,n⟩;rename_i k' x' X c;cases h;obtain⟨F,H,G,N⟩:=Rg (P:=p.P) R l c;exact⟨undef,F,_,V,X,_,.inr ⟨by simp only[execOp,Q,A,k,e3,dq,H,dl,eX],rfl⟩,G,N,Gf R N.ext.agree r,n⟩;cases h;rename_i i x Q;rw[Q] at M;have A:=du R w x (M x cL);cases d:Qs f m.o.dst s i (s.ev f.gl x) with
 |none=>rw[d] at h;cases h
 |some X=>
  rw[d] at h;cases h;obtain⟨v,F,b,H,G,N⟩:=arY (P:=p.P) R l Q A d;exact⟨v,F,O,b,X,q,H,G,N,r,n⟩
 rename_i x Q;rw[Q] at M;have A:=du R w x (M x cL);obtain⟨v,F,j,X,H,G,N,u⟩:=ar2 (P:=p.P) rfl R l Q A h n;rcases u with⟨rfl,u⟩|u;exact⟨v,F,j,V,X,q,H,G,N,r,u⟩;exact⟨v,F,j,V,X,_,H,G,N,Gf R N.ext.agree r,u⟩;rename_i x Q;rw[Q] at M;have A:=du R w x (M x cL);obtain⟨v,X,H,G,N,u⟩:=ar3 (P:=p.P) R l Q A h n;exact⟨v,W,O,V,X,q,H,G,N,r,u⟩;rename_i i x y Q;rw[Q] at M;have A:=du R w x (M x cL);have k:=du R w y (M y cL);split at h;rename_i ti e ks vs ht hx;rw[hx] at A;obtain⟨v,F,X,H,G,N,u⟩:=ar6 (P:=p.P) R l ht Q A k h n;exact⟨v,F,O,V,X,q,H,G,N,r,u⟩;cases h;rename_i op i x y t2 Q;rw[Q] at M;have A:=du R w x (M x cL);have k:=du R w y (M y cL);split at h;obtain⟨v,X,H,G,N,u⟩:=agE (P:=p.P) R l Q (.inl ⟨rfl,rfl⟩) A k h n;exact⟨v,W,O,V,X,q,H,G,N,r,u⟩;obtain⟨v,X,H,G,N,u⟩:=agE (P:=p.P) R l Q (.inr ⟨rfl,rfl⟩) A k h n;exact⟨v,W,O,V,X,q,H,G,N,r,u⟩;cases h;cases h
end
def MX(v:Value)(X:bq)(g:FuncId):lW:=(v::(X.map (Value.int I)++[.func (.func g) #[] #[]])).toArray
def pK(P:Program)(R:Ty)(f g:FuncId)(e:TypeId)(G:bm)(F:Bool):Prop:=
 (∀Q W,(callFunc f Q).run P W=.ok (.enter f Q) W)/\∀(W:World)(A:nG)(n X:Nat)(N aE:ax)(O:ak)(M:List K)(L:bm),G.fill M=U L->bJ W R (.sl e) (.mk (.slice A n X) N)->I3 W e (bD R (.sl e)).length A X->ki O L F N=U aE->
  Calls P f (MX (.slice A n X) (M.map (K.ah O)) g) W λB H=>B=.returned (.tuple #[])/\W.grownBy H (kH A X)/\DF W H e (bD R (.sl e)).length (kH A X) aE A X
def agJ(P:Program)(N:Ty)(f:FuncId)(e:TypeId):Prop:=
 (∀M W,(callFunc f M).run P W=.ok (.enter f M) W)/\∀(W:World)(b n X:Nat)(L aE:ax)(i:Int)(R Q:Nat)(G F:TypeId),W.heap[R]?=U (.cells #[.slice (U ⟨b,0,Z⟩) n X] G (0,0))->W.heap[Q]?=U (.cells #[.func (.func f) #[] #[.pointer (U ⟨R,0,Z⟩),.pointer (U ⟨Q,0,Z⟩)]] F (0,0))->R≠b->Q≠b->
  bJ W N (.sl e) (.mk (.slice (U ⟨b,0,Z⟩) n X) L)->I3 W e (bD N (.sl e)).length (U ⟨b,0,Z⟩) X->uW i L=U aE->
  Calls P f #[.int I i,.pointer (U ⟨R,0,Z⟩),.pointer (U ⟨Q,0,Z⟩)] W λB H=>B=.returned (.int I (aN 0 (aE.getD i.toNat [])))/\W.grownBy H (U b)/\DF W H e (bD N (.sl e)).length (U b) aE (U ⟨b,0,Z⟩) X
def mc(P:Program)(X:Ty)(f g:FuncId)(e:TypeId)(R:bm)(Q:Bool):Prop:=if f=g then agJ P X f e else pK P X f g e R Q
def mc.of{P:Program}{X:Ty}{f g:FuncId}{R:bm}(h:pK P X f g v R b)(Q:f≠g):mc P X f g v R b:=by
 unfold mc;rw[aK Q];exact h
def I9(P:Program)(p:bF):Prop:=∀f g e X R,p.xR f g=U (e,X,R)->mc P p.ty f g e X R
def Ri{lt:aH->aH->Bool}{x y:aH}:∀{l:ax},y∈ef lt x l<->y=x\/y∈l
 |[]=>by simp[ef]
 |z::r=>by
  simp only[ef];split;simp;simp only[dP,Ri (l:=r)];constructor;rintro(h|h|h);exact .inr (.inl h);exact .inl h;exact .inr (.inr h);rintro(h|h|h);exact .inr (.inl h);exact .inl h;exact .inr (.inr h)
def agK{lt:aH->aH->Bool}{x:aH}:∀{l:ax},(ef lt x l).length=Y l+1
 |[]=>rfl
 |z::r=>by
  simp only[ef];split;simp;simp[agK (l:=r)]
def XX{lt:aH->aH->Bool}:∀(l acc:ax),(∀x,x∈l.foldl (λacc x=>ef lt x acc) acc<->x∈acc\/x∈l)/\(l.foldl (λacc x=>ef lt x acc) acc).length=Y acc+Y l
 |[],acc=>ay
 |y::l,acc=>by
  obtain⟨X,R⟩:=XX (lt:=lt) l (ef lt y acc);refine⟨λx=> ?_, ?_⟩;simp only[Dg,X,Ri,dP];constructor;rintro((h|h)|h);exact .inr (.inl h);exact .inl h;exact .inr (.inr h);rintro(h|h|h);exact .inl (.inr h);exact .inl (.inl h);exact .inr h;simp only[Dg,R,agK,oK];omega
def agL{lt:aH->aH->Bool}{l:ax}{x:aH}:x∈bT lt l<->x∈l:=by
 rw[bT,(XX l []).1];simp
def nO{lt:aH->aH->Bool}{l:ax}:(bT lt l).length=Y l:=by
 rw[bT,(XX l []).2];simp
def agM{sp:bm}{X aE:ax}(h:iQ sp b X=U aE):∀x∈aE,x∈X:=by
 cases sp with
 |dh k o Q=>simp[iQ] at h
 |_=>
  simp only[iQ] at h;split at h;cases h;intro x R;exact agL.1 R;cases h
def agN{sp:bm}{X aE:ax}(h:iQ sp b X=U aE):Y aE=Y X:=by
 cases sp with
 |dh k o R=>simp[iQ] at h
 |_=>
  simp only[iQ] at h;split at h;cases h;exact nO;cases h
def tW{R:ax}{b:Nat}{x:aH}(h:x∈bc R X b):x∈R:=Bf (Db h)
def ar8(X:ax)(a b:Nat):(bc X a b).length=min (b-a) (Y X-a):=by simp[bc]
def Rj{X:ax}:∀(n:Nat)(i:Int),(qo n i X).length=Y X
 |0,_=>rfl
 |n+1,i=>by
  simp only[qo];split;rfl;simp[Rj n]
def DH{X:ax}(h:lD X=J){k:Nat}(R:k<Y X):0<=aN 0 (X.getD k [])/\aN 0 (X.getD k [])<=k:=by
 have:=fp.1 h k (zv.2 R);simpa only[az,cF] using this
def XY{X:ax}(h:lD X=J){i:Int}(R:0<=i)(Q:i<Y X):0<=aN 0 (X.getD i.toNat [])/\aN 0 (X.getD i.toNat [])<=i/\aN 0 (X.getD i.toNat [])<Y X:=by
 have:=DH h (k:=i.toNat) ae;omega
def agO{R:Type}{l:List R}(h:X<Y l)(d:R):l.getD X d∈l:=by
 rw[dB,cK h];exact pA _
def agP{R:ax}(h:lD R=J):∀(n:Nat)(i:Int),0<=i->i<Y R->∀x∈qo n i R,x∈R
 |0,_,_,_,x,X=>X
 |n+1,i,N,M,x,X=>by
  simp only[qo] at X;split at X;exact X;obtain⟨L,-,H⟩:=XY h N M;have Q:=agP h n _ L H;rcases C9 X with X|X;exact Q x X;refine Q x ?_;have G:(aN 0 (R.getD i.toNat [])).toNat<(qo n (aN 0 (R.getD i.toNat [])) R).length:=by rw[Rj];omega
  rw[X];exact agO G _
def MY{i:Int}{X aE:ax}(h:uW i X=U aE):Y X<=1099511627776/\0<=i/\i<Y X/\lD X=J/\aE=qo (Y X) i X:=by
 unfold uW at h;split at h;rename_i R;simp only[az,cF] at R;cases h;exact⟨R.1.1.1,R.1.1.2,R.1.2,R.2,rfl⟩;cases h
def Rk{i:Int}{X aE:ax}(h:uW i X=U aE):∀x∈aE,x∈X:=by
 obtain⟨-,R,Q,N,rfl⟩:=MY h;exact agP N _ _ R Q
def XZ{i:Int}{X aE:ax}(h:uW i X=U aE):Y aE=Y X:=by
 obtain⟨-,-,-,-,rfl⟩:=MY h;exact Rj _ _
def ar9{o:bm}{N:bq}{Q aE:ax}(h:mI X o N Q=U aE):∀x∈aE,x∈Q:=by
 unfold mI at h;split at h
 all_goals first|(split at h<;>first|(cases h;done)|skip)|skip
 all_goals first|(cases h;done)|skip
 all_goals
  cases h;intro x R;simp only[eP,agL] at R;rcases R with R|R;exact Db R
 all_goals
  rcases R with R|R;exact tW R
  first|exact Bf R|(rcases R with R|R<;>first|exact tW R|exact Bf R|(rcases R with R|R<;>first|exact tW R|exact Bf R))
def asa{o:bm}{Q:bq}{R aE:ax}(h:mI X o Q R=U aE):Y aE=Y R:=by
 unfold mI at h;split at h
 all_goals first|(split at h<;>first|(cases h;done)|skip)|skip
 all_goals first|(cases h;done)|skip
 all_goals
  rename_i N;simp only[az,cF] at N;cases h;simp only[gD,De,Df,ar8,nO];omega
def zY{o:bm}{Q:bq}{R aE:ax}(h:oW X o Q R=U aE):Y R<=1099511627776/\mI X o Q R=U aE:=by
 unfold oW at h;split at h;rename_i N;exact⟨N,h⟩;cases h
def asb{o:bm}{Q:bq}{R aE:ax}(h:oW X o Q R=U aE):∀x∈aE,x∈R:=ar9 (zY h).2
def asc{o:bm}{Q:bq}{R aE:ax}(h:oW X o Q R=U aE):Y aE=Y R:=asa (zY h).2
def X0{X:bm}{R aE:ax}(h:iQ X b R=U aE):Y R<=1099511627776:=by
 cases X with
 |dh k o N=>simp[iQ] at h
 |_=>
  simp only[iQ] at h;split at h;rename_i Q;simp only[az,cF] at Q;exact Q.1;cases h
def X1{R:bm}{Q aE:ax}(h:ki x R b Q=U aE):∀X∈aE,X∈Q:=by
 cases R with
 |dh k o N=>
  cases b with
  |false=>exact asb h
  |true=>
   cases N with
   |nil=>simp[ki] at h
   |cons i l=>
    cases l with
    |nil=>exact Rk h
    |cons j l=>simp[ki] at h
 |lex M d=>exact agM (sp:=.lex M d) h
 |ratio n d=>exact agM (sp:=.ratio n d) h
def X2{X:bm}{R aE:ax}(h:ki x X b R=U aE):Y aE=Y R:=by
 cases X with
 |dh k o Q=>
  cases b with
  |false=>exact asc h
  |true=>
   cases Q with
   |nil=>simp[ki] at h
   |cons i l=>
    cases l with
    |nil=>exact XZ h
    |cons j l=>simp[ki] at h
 |lex N d=>exact agN (sp:=.lex N d) h
 |ratio n d=>exact agN (sp:=.ratio n d) h
section
variable{q:aw}{w:World}{D:b9}{P:Program}{p:bF}{V:aw}{O:ak}{s:S}{a:Act}{W:World}
def asd{G aE:ax}(h:fz W p.ty v G)(F:∀x∈aE,x∈G):fz W p.ty v aE:=by
 have H:∀{i:Nat}{X:aH},aE[i]?=U X->∃R,G[R]?=U X:=λh=>qW (F _ (jm h))
 refine⟨λi X Q=> ?_,λi j X c k Q M L=> ?_,λi j X c Q M L=> ?_,λi j X c z k Q M L=> ?_⟩;obtain⟨R,N⟩:=H Q;exact h.len R X N;obtain⟨R,N⟩:=H Q;exact h.int R j X c k N M L;obtain⟨R,N⟩:=H Q;exact h.bool R j X c N M L;obtain⟨R,N⟩:=H Q;exact h.ai R j X c z k N M L
def ase{R aE:ax}(Q:∀x∈aE,x∈R)(h:nc p.ty v aE X):nc p.ty v R X:=by
 obtain⟨i,j,N,c,z,k,M,L,H,G⟩:=h;obtain⟨F,B⟩:=qW (Q _ (jm M));exact⟨F,j,N,c,z,k,B,L,H,G⟩
def agQ{a:Act}{W:World}(X:aC q w D p.ty t x R a W)(N:eL p.gl x){g:FuncId}(h:ec p R l=.call (.fn g) e)
  (H:∀e W,(callFunc g e).run P W=.ok (.enter g e) W):(execOp a.eval l).run P W=.ok (.enter g (C.aF x t e).toArray) W:=by
 unfold ec at h;split at h;split at h<;>cases h;rename_i c G;split at h;rename_i f F;split at h;rename_i v u M;split at h;cases h;rename_i B;cases h;have L:=du X N f (by rw[M];rfl);rw[M,C.ah] at L;have A:c.args.map a.eval=(C.aF x t (c.args.toList.map (R.ev p.gl))).toArray:=by
  apply mC;simp only[wh,oU,oc];exact kb λQ z=>du X N Q (by
   cases y:(R.ev p.gl Q).eJ;rfl;exact aY (kS.2 ⟨Q,z,y⟩) B)
 simp only[execOp,G,resolve,F,dq,L,Deferred.ofValue,eX,dl,invoke,A,QN];simp only[aqq,H,gr];split at h<;>cases h;cases h;cases h;split at h;split at h<;>cases h;cases h;cases h;cases h
def agR{g:FF}(h:ec p R l=.call g e)(c:Call):l.op≠ .defer c:=by
 intro X;simp[ec,X] at h
def agS{O:ak}{V:aw}:∀{l:av}{as:List K}{g:FuncId},Mg l=U (as,g)->C.aF O V l=(as.map (K.ah O)).map (Value.int I)++[.func (.func g) #[] #[]]
 |[],as,g,h=>by simp[Mg] at h
 |v::r,as,g,h=>by
  unfold Mg at h;split at h;rename_i M X;cases h;injection X with R Q;subst R;subst Q;simp[C.aF,C.ah];rename_i e L X;injection X with R Q;subst R;subst Q;split at h;rename_i x N;cases h;have:=agS (O:=O) (V:=V) (as:=x.1) (g:=x.2) N;simp[C.aF,C.ah,this];cases h;cases h
def agT(R:aC q w D p.ty V O s a W)(o:s.bd=J){A:nG}{n Q:Nat}{aE:ax}{M:World}(N:s.rs[X]?=U (.own v))(H:O.rv X=.mk (.slice A n Q) (O.rv X).aj)(G:bJ W p.ty (.sl v) (.mk (.slice A n Q) (O.rv X).aj))
  (F:∀x∈aE,x∈(O.rv X).aj)(m:Y aE=(O.rv X).aj.length)(l:W.grownBy M (kH A Q))(j:DF W M v (bD p.ty (.sl v)).length (kH A Q) aE A Q)(d:cw)(L:C):
  aC q w D p.ty V (O.add (.r (.mk (O.rv X).val aE))) ((({s with rs:=jX [] 0 (iY [X] 0 s.rs)++[.own v]}:S).hM X (Y s.rs)).put d L) (a.put d (L.ah (O.add (.r (.mk (O.rv X).val aE))) V)) M/\
   bH s O V ((({s with rs:=jX [] 0 (iY [X] 0 s.rs)++[.own v]}:S).hM X (Y s.rs)).put d L) (O.add (.r (.mk (O.rv X).val aE))) V:=by
 obtain⟨h,af⟩:=pJ G;have g:BQ p.ty V O s v aE []:=λb f=>by
  have B:=ase F f;have z:=I0 (O:=O) (e0:=.own v) rfl (by simpa[RE.rv] using B);exact⟨⟨X,_,N,z⟩,(R.mem.am X _ _ N (tU R N)).2 b z,λk' t rv c g2 g3=>(MN R c g2 g3 N rfl (by simpa[RE.rv] using B)).elim⟩
 obtain⟨y,-⟩:=R.bind o (old:=kH A Q) (kill:=[X]) (cY:=[]) (A:=A) (cap:=Q) (W':=M) (.inr ⟨X,v,O.rv X,rfl,N,tU R N,by rw[H,I2]⟩) ay l (asd (fz.wJ G) F) g j;rw[m,h] at y;have u:(O.rv X).val=.slice A n Q:=by rw[H];rfl
 rw[u];have aa:X<Y O.r:=by rw[R.er];exact(bZ.1 N).1
 have ab:(O.add (.r (.mk (.slice A n Q) aE))).rv X=O.rv X:=by simp[ak.rv,ak.add,dU aa]
 have ac:(O.add (.r (.mk (.slice A n Q) aE))).rv (Y s.rs)=.mk (.slice A n Q) aE:=by simp[ak.rv,ak.add,<-R.er]
 have R2:=(y.hM (k:=X) (n:=Y s.rs) (by rw[ab,ac,u];rfl)).put d L;refine⟨R2, ?_⟩;refine bH.put (s:=s) (s':=({s with rs:=jX [] 0 (iY [X] 0 s.rs)++[.own v]}:S).hM X (Y s.rs)) ⟨rn _ _ _ _,λi hi=> ?_, ?_,cd _⟩ _ _;simp only[S.hM];rw[Ge];exact hi;simp[S.hM,MU]
def asf(hs:I9 P p)(R:aC q w D p.ty V O s a W)(hg:eL p.gl O)(t:s.bd=J){f:FuncId}(af:ec p s l=.call (.fn f) e){u:zI}(h:WR p f e s l.dst=U u){aE:ax}(Q:ki O u.sp u.st (u.r.rv O).aj=U aE):
  ∃e v,(execOp a.eval l).run P W=.ok (.enter u.f e) W/\Calls P u.f e W λL N=>L=.returned v/\aC q w D p.ty V (O.add (.r (.mk (u.r.rv O).val aE))) u.s (a.put l.dst v) N/\bH s O V u.s (O.add (.r (.mk (u.r.rv O).val aE))) V:=by
 unfold WR at h;split at h;rename_i r a3;split at h;rename_i H g ag;split at h;rename_i X m j G;have i:p.xR f g=U (X,m,j)/\f≠g:=by
  split at G;cases G;rename_i al;exact⟨G,λh=>al (by simp[h])⟩
 have F:=hs f g X m j i.1;unfold mc at F;rw[aK i.2] at F;obtain⟨an,d⟩:=F;have c:(execOp a.eval l).run P W=.ok (.enter f (MX (r.ah O) (H.map (K.ah O)) g)) W:=by
  rw[agQ R hg af an];simp only[C.aF,C.ah,agS ag,MX]
 split at h;rename_i aa ab;split at h;rename_i k;split at h;rename_i hk;cases h;obtain⟨A,n,ac,h1,h2,h3⟩:=MQ R hk;have M:(RE.v k).rv O=O.rv k:=rfl;simp only[M] at Q⊢;have a4:=Q;have a0:=X1 Q;have B:=X2 Q;refine⟨_,.tuple #[],c, ?_⟩;have z:(RE.v k).ah O=.slice A n ac:=by rw[RE.ah,M,h1];rfl
 rw[z];refine(d W A n ac _ aE O H aa ab h2 h3 Q).mono ?_;rintro L N ⟨rfl,y,x⟩;exact⟨rfl,agT R t hk h1 h2 a0 B y x l.dst (.bP [])⟩;cases h;cases h;have M:(RE.k (.slice Z 0 0)).rv O=.mk (.slice Z 0 0) []:=rfl;simp only[M,RV.jD,RV.mH] at Q⊢;have B:=X2 Q;have h0:aE=[]:=rZ (by simpa using B);subst h0;refine⟨_,.tuple #[],c, ?_⟩;have z:(RE.k (.slice Z 0 0)).ah O=.slice Z 0 0:=rfl;rw[z];refine(d W Z 0 0 [] [] O H aa ab (BP _ _) ⟨λ_=>rfl,.inl rfl⟩ Q).mono ?_;rintro L N ⟨rfl,y,x⟩;obtain⟨R1,-⟩:=R.bind t (old:=Z) (kill:=[]) (cY:=[]) (A:=Z) (cap:=0) (rows:=[]) (W':=N) (.inl ⟨rfl,rfl⟩) ay y (fz.wJ (BP (e:=X) Z 0)) (λb a1=>(MM a1).elim) x;refine⟨rfl,R1.put l.dst (.bP []), ?_⟩;exact bH.put (s:=s) (s':={s with rs:=jX [] 0 (iY [] 0 s.rs)++[.own X]}) ⟨rn _ _ _ _,λ_ h=>h,cd _,cd _⟩ _ _;cases h;cases h;cases h;cases h;cases h
def agU(hs:I9 P p)(R:aC q w D p.ty V O s a W)(hg:eL p.gl O)(hb:s.bd=J){f:FuncId}(al:ec p s l=.call (.fn f) e){u:zI}(h:FL p f e s l.dst=U u){aE:ax}(L:ki O u.sp u.st (u.r.rv O).aj=U aE):
  ∃e v,(execOp a.eval l).run P W=.ok (.enter u.f e) W/\Calls P u.f e W λm j=>m=.returned v/\aC q w D p.ty V (O.add (.r (.mk (u.r.rv O).val aE))) u.s (a.put l.dst v) j/\bH s O V u.s (O.add (.r (.mk (u.r.rv O).val aE))) V:=by
 unfold FL at h;split at h;rename_i i N M;split at h;rename_i X o' uM an;have B:=hs f f X _ J an;unfold mc at B;rw[aI rfl] at B;obtain⟨a0,a1⟩:=B;split at h;rename_i H k G f' bx b0 g z;split at h;rename_i d;simp only[az,dv,gO,cF] at d;obtain⟨⟨⟨⟨⟨⟨hi,e1⟩,e2⟩,e3⟩,a3⟩,a4⟩,F⟩:=d;rw[e1,e2,e3] at z;cases h;obtain⟨A,n,Q,y,x,h3⟩:=MQ R F;have a9:(RE.v k).rv O=O.rv k:=rfl;simp only[a9] at L⊢;have ba:=X1 L;have bb:=X2 L;have aa:uW (i.ah O) (O.rv k).aj=U aE:=L;obtain⟨-,b1,b2,-,-⟩:=MY aa;obtain⟨hn,b3⟩:=pJ x;have t:Q≠0:=ae;rcases h3.mem with h0|⟨b,b4,hA,b5,-⟩;exact(t h0).elim;subst hA;have bf:(O.rv k).kF=U b:=by
  rw[y,I2];cases Q with
  |zero=>exact(t rfl).elim
  |succ c=>rfl
 have hT:=R.fZ k X _ b F (tU R F) bf;have ab:=R.mem.box N H _ g;have ac:=R.mem.box M G _ z;have bg:lE H (C.dJ O V [.am (.v k)])=.cells #[.slice (U ⟨b,0,Z⟩) n Q] H (0,0):=by
  rw[sG a3];simp only[C.aF,C.ah,RE.ah,RE.rv];rw[y];rfl
 have bk:lE G (C.dJ O V [.fn f [.loc N 0,.loc M 0]])=.cells #[.func (.func f) #[] #[.pointer (U ⟨ad V N,0,Z⟩),.pointer (U ⟨ad V M,0,Z⟩)]] G (0,0):=by
  rw[sG a4];simp[C.ah,C.aF]
 rw[bg] at ab;rw[bk] at ac;have bl:(execOp a.eval l).run P W=.ok (.enter f #[.int I (i.ah O),.pointer (U ⟨ad V N,0,Z⟩),.pointer (U ⟨ad V M,0,Z⟩)]) W:=by
  rw[agQ R hg al a0];simp only[C.aF,C.ah]
 refine⟨_,.int I (aN 0 (aE.getD (i.ah O).toNat [])),bl, ?_⟩;have br:kH (U ⟨b,0,Z⟩) Q=U b:=by
  cases Q with
  |zero=>exact(t rfl).elim
  |succ c=>rfl
 refine(a1 W b n Q _ aE (i.ah O) _ _ H G ab ac (hT.box N (by simp only[aL,g];rfl)) (hT.box M (by simp only[aL,z];rfl)) x h3 aa).mono ?_;rintro m j ⟨rfl,af,ag⟩;rw[<-br] at af ag;have:=agT R hb F y x ba bb af ag l.dst (.int I (.cell (.v (Y s.rs)) i 0));have bs:(O.add (.r (.mk (O.rv k).val aE))).rv (Y s.rs)=.mk (O.rv k).val aE:=by simp[ak.rv,ak.add,<-R.er]
 have bt:i.ah (O.add (.r (.mk (O.rv k).val aE)))=i.ah O:=K.dW (rn s.au O _ V).agree i (by rw[R.ei,R.eb,R.er];exact hi);have hd:C.ah (O.add (.r (.mk (O.rv k).val aE))) V (.int I (.cell (.v (Y s.rs)) i 0))=.int I (aN 0 (aE.getD (i.ah O).toNat [])):=by
  simp only[C.ah,K.ah,RE.rv,bs,bt];rfl
 rw[hd] at this;exact⟨rfl,this⟩;cases h;cases h;cases h;cases h
def asg(H:I9 P p)(R:aC q w D p.ty V O s a W)(G:eL p.gl O){m:OM}{u:zI}(h:Bs p m s=U u){aE:ax}(F:ki O u.sp u.st (u.r.rv O).aj=U aE):
  ∃X v,(execOp a.eval m.o).run P W=.ok (.enter u.f X) W/\(∀c,m.o.op≠ .defer c)/\Calls P u.f X W λA z=>A=.returned v/\aC q w D p.ty V (O.add (.r (.mk (u.r.rv O).val aE))) u.s (a.put m.o.dst v) z/\bH s O V u.s (O.add (.r (.mk (u.r.rv O).val aE))) V:=by
 unfold Bs at h;split at h;cases h;rename_i Q;simp only[jd,gO,not_or,Fh] at Q;split at h;rename_i f X N;have B:=λc=>agR N c
 split at h;rename_i t y;cases h;obtain⟨x,v,M,L⟩:=asf H R G Q.2 N y F;exact⟨x,v,M,B,L⟩;obtain⟨x,v,M,L⟩:=agU H R G Q.2 N h F;exact⟨x,v,M,B,L⟩;cases h
def ash(N:I9 P p)(R:aC q w D p.ty V O s a W)(M:eL p.gl O){u:zI}(h:FM p l s=U u){aE:ax}(L:ki O u.sp u.st (u.r.rv O).aj=U aE):
  ∃X v,(execOp a.eval l).run P W=.ok (.enter u.f X) W/\(∀c,l.op≠ .defer c)/\Calls P u.f X W λH G=>H=.returned v/\aC q w D p.ty V (O.add (.r (.mk (u.r.rv O).val aE))) u.s (a.put l.dst v) G/\bH s O V u.s (O.add (.r (.mk (u.r.rv O).val aE))) V:=by
 unfold FM at h;split at h;cases h;rename_i F;split at h;rename_i f X Q;obtain⟨x,v,B,A⟩:=agU N R M (by simpa using F) Q h L;exact⟨x,v,B,λc=>agR Q c,A⟩;cases h
end
structure qy(F:Fence):Prop where
 fn:∀f,F.fn f
 wK:F.depth=Z
 eq:∀P,Machine.fenced P F=Machine.fenced P Fence.wide
def asi:qy Fence.wide:=⟨λ_=>trivial,rfl,λ_=>rfl⟩
def agV(l:Nat):qy (Fence.wide.inRound l):=⟨λ_=>trivial,rfl,λ_=>rfl⟩
def qy.calls{F:Fence}(W:qy F){P:Program}{f:FuncId}{V:lW}{w:World}{R:Ending->World->Prop}(h:Calls P f V w R):CallsIn F X P f V w R:=by
 have Q:=(callsIn_wide (n:=X)).2 h;refine⟨W.fn f,λO _=> ?_⟩;obtain⟨e,N,M,r,c,x⟩:=Q.2 O (room_wide _);exact⟨e,N,M,r,by rw[W.eq];exact c,x⟩
def X3{p:Sp}{L:dm}{V:Fx}{b:BE}{t f:Fx->T}(X:tV x V)(h:(Br R V b t f).aP p x L):
  ∃Q,tV x Q/\(if b.ah x then(t Q).aP p x L else(f Q).aP p x L):=by
 unfold Br at h;split at h;rename_i P;exact⟨V,X,by rw[Re X P];exact h⟩;rename_i P;exact⟨V,X,by rw[Re X P];exact h⟩;split at h;simp only[T.aP] at h;cases W:b.ah x;exact⟨_,agq X W,by simpa[W] using h.2 W⟩;exact⟨_,agq X W,by simpa[W] using h.1 W⟩;exact h.elim
def di(n:Nat)(L X:dm):Prop:=∀l,l<n->nM l X=nM l L
def di.refl(n:Nat)(L:dm):di n L L:=λ_ _=>rfl
def di.trans{n m:Nat}{L X W:dm}(h:di n L X)(k:di m X W)(R:n<=m):di n L W:=λl V=>(k l ae).trans (h l V)
def asj(p:Sp)(O:ak):FF->lW->World->(Ending->World->Prop)->Prop
 |.fn g,X,W,V=>(∀X W,(callFunc g X).run p.P W=.ok (.enter g X) W)/\Calls p.P g X W V
 |.yl n,X,W,V=>∀(F:Fence)(_:qy F)(m:Nat),YieldAt F m p.P (O.y.getD n 0) X W V
structure jF where
 s:S
 O:ak
 V:aw
 L:dm
structure jF.lG(B:jF)(s:S)(O:ak)(V:aw)(L:dm):Prop where
 later:bH B.s B.O B.V s O V
 Gg:di B.s.aA B.L L
def jF.lG.go{B:jF}{X:S}{W:ak}{Q:aw}{L P:dm}(h:B.lG R x t L)(N:bH R x t X W Q)(M:di R.aA L P):B.lG X W Q P:=⟨h.later.trans N,h.Gg.trans M h.later.aA⟩
def Rl(p:Sp)(z:bF)(D:b9)(B:jF)(A:pD):Prop:=
 ∀(L:dm)(g:FF)(G:av)(s:S)(k x:C->S->T)(O:ak)(V:aw)(a:Act)(W:World)(H:Ending->World->Prop),B.lG s O V L->
  (A g G s k x).aP p O L->aC p.S0 p.w0 D z.ty V O s a W->eL z.gl O->
  (∀v P X N Q M,bH s O V P X N->di s.aA L M->aC p.S0 p.w0 D z.ty N X P a Q->(k v P).aP p X M->H (.returned (v.ah X N)) Q)->
  (∀v P X N Q M,bH s O V P X N->di s.aA L M->aC p.S0 p.w0 D z.ty N X P a Q->(x v P).aP p X M->H (.panicked [{v:=v.ah X N,recovered:=E}]) Q)->
  (∀w Q u y,eF p.w0 D u y a.defers Q->p.R (.panicked w) Q->H (.panicked w) Q)->
  asj p O g (C.aF O V G).toArray W H
section
variable{p:Sp}{z:bF}{A:pD}{F:Fence}{D:b9}{ops:dI}
def agW{a:Act}{W:World}(Q:aC p.S0 p.w0 D z.ty t x R a W){d:Nat}(N:(ops[X]?).bind (·.dst)=U d):
  (∀b,R.tmps[d]?=U (.bool b)->yielded ops a.tmps X=U (b.ah x))/\(R.tmps[d]?=U (.bP [])->yielded ops a.tmps X=Z):=by
 constructor;intro b P;rcases Q.tmps d _ P with h|h;cases h;simp[yielded,N,h,C.ah];intro P;rcases Q.tmps d _ P with h|h;cases h;simp[yielded,N,h,C.ah]
def Rm{a:Act}{W:World}(X:aC p.S0 p.w0 D z.ty t x R a W)(N:eL z.gl x){g:FuncId}(h:ec z R l=.call (.fn g) e)
  (H:∀e W,(callFunc g e).run p.P W=.ok (.enter g e) W):(execOp a.eval l).run p.P W=.ok (.enter g (C.aF x t e).toArray) W:=by
 unfold ec at h;split at h;split at h<;>cases h;rename_i c G;split at h;rename_i f B;split at h;rename_i u r M;split at h;cases h;rename_i A;cases h;have L:=du X N f (by rw[M];rfl);rw[M,C.ah] at L;have y:c.args.map a.eval=(C.aF x t (c.args.toList.map (R.ev z.gl))).toArray:=by
  apply mC;simp only[wh,oU,oc];exact kb λQ w=>du X N Q (by
   cases v:(R.ev z.gl Q).eJ;rfl;exact aY (kS.2 ⟨Q,w,v⟩) A)
 simp only[execOp,G,resolve,B,dq,L,Deferred.ofValue,eX,dl,invoke,y,QN];simp only[aqq,H,gr];split at h<;>cases h;cases h;cases h;split at h;split at h<;>cases h;cases h;cases h;cases h
def X4{a:Act}{W:World}(Q:aC p.S0 p.w0 D z.ty t x R a W)(M:eL z.gl x)(h:ec z R l=.call (.yl X) e):
  (execOp a.eval l).run p.P W=(Instr.yield (x.y.getD X 0) (C.aF x t e).toArray).run p.P W:=by
 unfold ec at h;split at h;split at h<;>cases h;rename_i c G;split at h;rename_i f B;split at h;split at h<;>cases h;rename_i r L;split at h;cases h;rename_i A;cases h;have H:=du Q M f (by rw[L];rfl);rw[L,C.ah] at H;have w:c.args.map a.eval=(C.aF x t (c.args.toList.map (R.ev z.gl))).toArray:=by
  apply mC;simp only[wh,oU,oc];exact kb λN v=>du Q M N (by
   cases u:(R.ev z.gl N).eJ;rfl;exact aY (kS.2 ⟨N,v,u⟩) A)
 simp[execOp,G,resolve,B,H,Deferred.ofValue,invoke,w];cases h;cases h;split at h;split at h<;>cases h;cases h;cases h;cases h
def X5{s:S}{O:ak}{V:aw}{L:dm}{e:K}{A:FuncId->av->T}:∀{Q:bq}{P:av},(Dq e A Q P).aP p O L->∃g N,kh (e.ah O) Q (C.aF O V P)=.func (.func g) #[] (C.aF O V N).toArray/\(A g N).aP p O L
 |[],P,h=>by simp only[Dq] at h;exact h.elim
 |k::Q,[],h=>by simp only[Dq] at h;exact h.elim
 |k::Q,v::P,h=>by
  unfold Dq at h;split at h;rename_i z y g N x W R;simp only[wi] at W R;obtain⟨rfl,rfl⟩:=W;obtain⟨rfl,rfl⟩:=R;simp only[T.aP,BE.ah,gX,K.ah] at h;by_cases X:e.ah O=k;exact⟨g,N,by simp[C.aF,C.ah,kh,X,iX],h.1 (by simp[X])⟩;obtain⟨M,H,G,B⟩:=X5 (s:=s) (V:=V) (h.2 (by simp[X]));exact⟨M,H,by simp only[C.aF,kh,X,ga];exact G,B⟩;rename_i z y x W R;simp only[wi] at W R;obtain⟨rfl,rfl⟩:=W;obtain⟨rfl,rfl⟩:=R;simp only[T.aP,BE.ah,gX,K.ah] at h;by_cases X:e.ah O=k;exact(h.1 (by simp[X])).elim;obtain⟨M,H,G,B⟩:=X5 (s:=s) (V:=V) (h.2 (by simp[X]));exact⟨M,H,by simp only[C.aF,kh,X,ga];exact G,B⟩;exact h.elim
def asl{s:S}{a:Act}{W:World}{O:ak}{V:aw}(R:aC p.S0 p.w0 D z.ty V O s a W)(Q:eL z.gl O){m:OM}{e:K}{N:bq}{M X L:av}{g:FuncId}(h:zH z m s=U (e,N,M,X))
  (w:kh (e.ah O) N (C.aF O V M)=.func (.func g) #[] (C.aF O V L).toArray)(v:∀X W,(callFunc g X).run p.P W=.ok (.enter g X) W):
  (execOp a.eval m.o).run p.P W=.ok (.enter g (C.aF O V (X++L)).toArray) W/\∀c,m.o.op≠ .defer c:=by
 unfold zH at h;split at h;cases h;split at h;rename_i c H;split at h;rename_i f u;split at h;rename_i n l k G;split at h;cases h;rename_i B;simp only[jd,not_or] at B;cases h;have A:=du R Q f (by rw[G];rfl);rw[G,C.ah,w] at A;have t:c.args.map a.eval=(C.aF O V (c.args.toList.map (s.ev z.gl))).toArray:=by
  apply mC;simp only[wh,oU,oc];exact kb λx r=>du R Q x (by
   cases q:(s.ev z.gl x).eJ;rfl;exact aY (kS.2 ⟨x,r,q⟩) B.1)
 refine⟨?_,λj y=>by rw[H] at y;cases y⟩;simp only[execOp,H,resolve,u,dq,A,Deferred.ofValue,eX,dl,invoke,t,QN];simp only[aqq,v,gr];cases h;cases h;cases h
def agX{a:Act}{W:World}(X:aC p.S0 p.w0 D z.ty t x R a W)(G:eL z.gl x)(h:ec z R l=.bI r):
  (execOp a.eval l).run p.P W=.halt (.panic (r.ah x t)) W:=by
 unfold ec at h;split at h;rename_i Q H;split at h;rename_i N y L;cases h;have M:=du X G Q (by rw[L];rfl);rw[L] at M;simp[execOp,H,M,C.ah,Instr.panic];cases h;rename_i c H;split at h;split at h;split at h<;>cases h;split at h<;>cases h;cases h;cases h;rename_i A;split at h;rename_i Q L;split at h;rename_i N y B;cases h;have M:=du X G Q (by rw[B];rfl);rw[B] at M;have:c.args.map a.eval= #[a.eval Q]:=by apply mC;simp[L]
 simp[execOp,H,resolve,A,invoke,builtin,this,M,C.ah,Instr.panic];cases h;cases h;cases h;cases h
def BR{a:Act}{W R:World}{v:Value}{V:Act->World->Prop}{Q:Exit->Act->World->Prop}(N:qy F)(h:sI p.P l a W v R)(M:∀c,l.op≠ .defer c)(O:V (a.put l.dst v) R):l.wpIn F X p.P a W V Q:=by
 refine⟨λf _=>N.fn f, ?_⟩;rw[xM _ _ _ M];rcases h with h|⟨h,rfl⟩;rw[h];exact O;rw[h];exact O
def X6{W:Bool}{X:BI}(h:eH z l b W R=U X):∀c,l.op≠ .defer c:=by
 intro c A;simp[eH,A] at h
def asm{m:OM}{s:S}{X:S->Fx->T}{W:Fx}{t:T}(h:zG z m s X W=U t):∀c,m.o.op≠ .defer c:=by
 intro c A;simp[zG,A] at h
def MZ{m:OM}{s X:S}{O:ak}(h:(gt z m s).gives O X):∀c,m.o.op≠ .defer c:=by
 intro c A;unfold gt at h;split at h;exact h.elim;rw[A] at h;simp[ck,sj,OR.gives] at h
def zZ(ba:p.ty=z.ty)(bb:I9 p.P z)(hF:qy F)(an:i7 p.P z.ty){B:jF}(hH:Rl p z D B A){n:Nat}{k:S->T}{kp:C->S->T}{Q:Exit->Act->World->Prop}(HP:∀ch a' N pd y,eF p.w0 D pd y a'.defers N->p.R (.panicked ch) N->Q (.panic ch) a' N):
  ∀(l:cN)(j:Nat)(s:S)(fx:Fx)(L:dm)(O:ak)(V:aw)(a:Act)(W:World),
   (∀i m,l[i]?=U m->ops[j+i]?=U m.o)->B.lG s O V L->
   (nH z A ops k kp l s fx).aP p O L->tV O fx->aC p.S0 p.w0 D z.ty V O s a W->eL z.gl O->
   (∀H O' V' a' N L',bH s O V H O' V'->di s.aA L L'->aC p.S0 p.w0 D z.ty V' O' H a' N->(k H).aP p O' L'->Q .normal a' N)->
   (∀v H O' V' a' N L',bH s O V H O' V'->di s.aA L L'->aC p.S0 p.w0 D z.ty V' O' H a' N->(kp v H).aP p O' L'->Q (.panic [{v:=v.ah O' V',recovered:=E}]) a' N)->
   wpOpsIn F n p.P ops Q (wl j (Y l)) a W
 |[],j,s,fx,L,O,V,a,W,_,_,h,_,R,_,hk,_=>hk s O V a W L (bH.refl _ _ _) (di.refl _ _) R h
 |m::af,j,s,fx,L,O,V,a,W,b7,hB,h,b0,R,hg,hk,a0=>by
  have ho:ops[j]?=U m.o:=by simpa using b7 0 m rfl
  have bf:∀i m',af[i]?=U m'->ops[j+1+i]?=U m'.o:=λi m' hi=>by
   have:=b7 (i+1) m' (by simpa using hi)
   rwa [show j+(i+1)=j+1+i from ae] at this
  simp only[oK,Wm,wpOpsIn,ho];have b3:∀ag,tV O ag->
    (zJ z A m s (nH z A ops k kp af) kp ag).aP p O L->
    m.o.wpIn F n p.P a W (wpOpsIn F n p.P ops Q (wl (j+1) (Y af))) Q:=by
   intro ag a1 h;unfold zJ at h;have b8:∀g al,(A (.fn g) al s (λv H=>nH z A ops k kp af (H.put m.o.dst v) (oQ s ag)) kp).aP p O L->((∀al W,(callFunc g al).run p.P W=.ok (.enter g al) W)->(execOp a.eval m.o).run p.P W=.ok (.enter g (C.aF O V al).toArray) W)->(∀c,m.o.op≠ .defer c)->
     m.o.wpIn F n p.P a W (wpOpsIn F n p.P ops Q (wl (j+1) (Y af))) Q:=by
    intro g al h b4 bg;have hC:=hH L (.fn g) al s _ _ O V a W (λe N=>match e with
      |.returned v=>wpOpsIn F n p.P ops Q (wl (j+1) (Y af)) (a.put m.o.dst v) N
      |.panicked ch=>Q (.panic ch) a N
      |.outgrown=>LetsOut Q) hB h R hg
     (λv H O' V' N L' X hL R' hs=>zZ ba bb hF an hH HP af (j+1) (H.put m.o.dst v) (oQ s ag) L' O' V' _ N bf (hB.go (X.put _ _) hL) hs
      (Gf R X.ext.agree a1) (R'.put m.o.dst v) (hg.ext X.ext)
      (λM G x a2 w r aa ab R2 ac=>hk M G x a2 w r ((X.put _ _).trans aa) (hL.trans ab (X.put _ _).aA) R2 ac)
      (λv2 M G x a2 w r aa ab R2 ac=>a0 v2 M G x a2 w r ((X.put _ _).trans aa) (hL.trans ab (X.put _ _).aA) R2 ac))
     (λv H O' V' N L' X hL R' hs=>a0 v H O' V' a N L' X hL R' hs)
     (λch N pd y hA hR=>HP ch a N pd y hA hR)
    obtain⟨bs,b5⟩:=hC;refine⟨λf _=>hF.fn f, ?_⟩;rw[xM _ _ _ bg,b4 bs];rw[Qa];refine⟨λhd=>by rw[hF.wK] at hd;simp at hd,CallsIn.mono (hF.calls b5) (λe N he=> ?_)⟩;cases e<;>exact he
   split at h;rename_i e ks vs al ca;obtain⟨g,cm,q1,q2⟩:=X5 (s:=s) (V:=V) h;refine b8 g (al++cm) q2 (λbs=>(asl R hg ca q1 bs).1) ?_;intro c bk;simp[zH,bk] at ca;split at h;rename_i u hu;obtain⟨aE,hr,h⟩:=h;obtain⟨al,tv,b4,bg,b5⟩:=asg bb R hg hu hr;refine⟨λf _=>hF.fn f, ?_⟩;rw[xM _ _ _ bg,b4];rw[Qa];refine⟨λhd=>by rw[hF.wK] at hd;simp at hd,CallsIn.mono (hF.calls b5) (λe N he=> ?_)⟩;obtain⟨rfl,R',X⟩:=he;exact zZ ba bb hF an hH HP af (j+1) u.s (oQ s ag) L _ V _ N bf (hB.go X (di.refl _ _)) h (Gf R X.ext.agree a1) R' (hg.ext X.ext)
    (λM G x a2 w r aa ab R2 ac=>hk M G x a2 w r (X.trans aa) ((di.refl _ _).trans ab X.aA) R2 ac)
    (λv2 M G x a2 w r aa ab R2 ac=>a0 v2 M G x a2 w r (X.trans aa) ((di.refl _ _).trans ab X.aA) R2 ac)
   split at h;rename_i g al bt;exact b8 g al h (λbs=>Rm R hg bt bs) (λc bk=>by simp[ec,bk] at bt);rename_i yn al bt;split at h;have hC:=hH L (.yl yn) al s _ _ O V a W (λe N=>match e with
    |.returned v=>wpOpsIn F n p.P ops Q (wl (j+1) (Y af)) (a.put m.o.dst v) N
    |.panicked ch=>Q (.panic ch) a N
    |.outgrown=>LetsOut Q) hB h R hg
    (λv H O' V' N L' X hL R' hs=>zZ ba bb hF an hH HP af (j+1) (H.put m.o.dst v) (oQ s ag) L' O' V' _ N bf (hB.go (X.put _ _) hL) hs
     (Gf R X.ext.agree a1) (R'.put m.o.dst v) (hg.ext X.ext)
     (λM G x a2 w r aa ab R2 ac=>hk M G x a2 w r ((X.put _ _).trans aa) (hL.trans ab (X.put _ _).aA) R2 ac)
     (λv2 M G x a2 w r aa ab R2 ac=>a0 v2 M G x a2 w r ((X.put _ _).trans aa) (hL.trans ab (X.put _ _).aA) R2 ac))
    (λv H O' V' N L' X hL R' hs=>a0 v H O' V' a N L' X hL R' hs)
    (λch N pd y hA hR=>HP ch a N pd y hA hR)
   obtain⟨fn,ct,assign,body,hy,cn⟩:=hC F hF (n-1);refine⟨λf _=>hF.fn f, ?_⟩;have bg:∀c,m.o.op≠ .defer c:=λc bk=>by simp[ec,bk] at bt
   rw[xM _ _ _ bg,X4 R hg bt,hy];rw[aqv];refine⟨λhd=>by rw[hF.wK] at hd;simp at hd,RoundIn.mono cn (λe N he=> ?_)⟩;cases e<;>exact he;exact h.elim;rename_i v cc;refine⟨λf _=>hF.fn f, ?_⟩;have bg:∀c,m.o.op≠ .defer c:=λc bk=>by simp[ec,bk] at cc
   rw[xM _ _ _ bg,agX R hg cc];exact a0 v s O V a W L (bH.refl _ _ _) (di.refl _ _) R h;exact h.elim;have b1:∀H b2,tV O b2->(gt z m s).gives O H->(nH z A ops k kp af H b2).aP p O L->m.o.wpIn F n p.P a W (wpOpsIn F n p.P ops Q (wl (j+1) (Y af))) Q:=by
    intro H b2 co cl hs;obtain⟨v,N,V',bx,R',X⟩:=MP R an hg m cl;exact BR hF bx (MZ cl) (zZ ba bb hF an hH HP af (j+1) H b2 L O V' _ N bf (hB.go X (di.refl _ _)) hs co R' hg
     (λM G x a2 w r aa ab R2 ac=>hk M G x a2 w r (X.trans aa) ((di.refl _ _).trans ab X.aA) R2 ac)
     (λv2 M G x a2 w r aa ab R2 ac=>a0 v2 M G x a2 w r (X.trans aa) ((di.refl _ _).trans ab X.aA) R2 ac))
   split at h;rename_i t ht;obtain⟨v,N,O',V',H,a3,bx,R',X,a4,h2⟩:=ar7 R an hg a1 ht h;exact BR hF bx (asm ht) (zZ ba bb hF an hH HP af (j+1) H a3 L O' V' _ N bf (hB.go X (di.refl _ _)) h2 a4 R' (hg.ext X.ext)
    (λM G x a2 w r aa ab R2 ac=>hk M G x a2 w r (X.trans aa) ((di.refl _ _).trans ab X.aA) R2 ac)
    (λv2 M G x a2 w r aa ab R2 ac=>a0 v2 M G x a2 w r (X.trans aa) ((di.refl _ _).trans ab X.aA) R2 ac))
   split at h;rename_i b hb;obtain⟨hn,h⟩:=h;obtain⟨v,N,rv,bx,cp,R',X⟩:=XN R an hg hb hn;exact BR hF bx (X6 hb) (zZ ba bb hF an hH HP af (j+1) b.s (oQ s ag) L _ V _ N bf (hB.go X (di.refl _ _)) (h rv (by rw[ba];exact cp)) (Gf R X.ext.agree a1) R' (hg.ext X.ext)
    (λM G x a2 w r aa ab R2 ac=>hk M G x a2 w r (X.trans aa) ((di.refl _ _).trans ab X.aA) R2 ac)
    (λv2 M G x a2 w r aa ab R2 ac=>a0 v2 M G x a2 w r (X.trans aa) ((di.refl _ _).trans ab X.aA) R2 ac))
   split at h;rename_i H bl;exact b1 H ag a1 (by rw[bl];rfl) h;rename_i b H bl;exact b1 H ag a1 (by rw[bl];exact⟨h.1,rfl⟩) h.2;rename_i b s1 M bl;obtain⟨a3,a4,h2⟩:=X3 a1 h;cases hb:b.ah O;exact b1 M a3 a4 (by rw[bl];simp[OR.gives,hb]) (by simpa[hb] using h2);exact b1 s1 a3 a4 (by rw[bl];simp[OR.gives,hb]) (by simpa[hb] using h2);exact h.elim
  have b6:∀ag,tV O ag->(nH z A ops k kp af (s.put m.o.dst (.bP [])) ag).aP p O L->wpOpsIn F n p.P ops Q (wl (j+1) (Y af)) (a.put m.o.dst undef) W:=
   λag a1 h=>zZ ba bb hF an hH HP af (j+1) _ ag L O V _ W bf (hB.go ((bH.refl _ _ _).put _ _) (di.refl _ _)) h a1 (R.put m.o.dst (.bP [])) hg
    (λM G x a2 w r aa ab R2 ac=>hk M G x a2 w r (((bH.refl _ _ _).put _ _).trans aa) ((di.refl _ _).trans ab ((bH.refl s O V).put _ _).aA) R2 ac)
    (λv2 M G x a2 w r aa ab R2 ac=>a0 v2 M G x a2 w r (((bH.refl _ _ _).put _ _).trans aa) ((di.refl _ _).trans ab ((bH.refl s O V).put _ _).aA) R2 ac)
  simp only[nH,Qy] at h;cases bd:m.o.guard with
  |none=>
   rw[bd] at h;have:lz m.o (yielded ops a.tmps)=true:=by simp[lz,bd]
   rw[aI this];exact b3 fx b0 h
  |some q=>
   obtain⟨jj,cs⟩:=q;rw[bd] at h;simp only at h;split at h;rename_i d hd;have hy:=agW R hd;split at h;rename_i b hb;have br:=hy.1 b hb;cases cs;simp only[iW,ga] at h;obtain⟨a3,a4,h2⟩:=X3 b0 h;cases a9:b.ah O;have:lz m.o (yielded ops a.tmps)=true:=by simp[lz,bd,br,a9]
   rw[aI this];exact b3 a3 a4 (by simpa[a9] using h2);have:¬lz m.o (yielded ops a.tmps)=true:=by simp[lz,bd,br,a9]
   rw[aK this];exact⟨λf _=>hF.fn f,b6 a3 a4 (by simpa[a9] using h2)⟩;simp only[cS] at h;obtain⟨a3,a4,h2⟩:=X3 b0 h;cases a9:b.ah O;have:¬lz m.o (yielded ops a.tmps)=true:=by simp[lz,bd,br,a9]
   rw[aK this];exact⟨λf _=>hF.fn f,b6 a3 a4 (by simpa[a9] using h2)⟩;have:lz m.o (yielded ops a.tmps)=true:=by simp[lz,bd,br,a9]
   rw[aI this];exact b3 a3 a4 (by simpa[a9] using h2);rename_i hb;have br:=hy.2 hb;have:¬lz m.o (yielded ops a.tmps)=true:=by simp[lz,bd,br]
   rw[aK this];exact⟨λf _=>hF.fn f,b6 fx b0 h⟩;exact h.elim;exact h.elim
end
section
variable{d:aw}{m:World}{D:b9}{o:Ty}{V:aw}{O:ak}{s:S}{a:Act}{W:World}
def Ro(X:aw):∀(l:bE)(n i:Nat),(rg X n l)[i]?=(l[i]?).map λx=>if X.contains (n+i) then x else Z
 |[],n,i=>by simp[rg]
 |x::R,n,0=>by simp[rg]
 |x::R,n,i+1=>by
  simp only[rg,sa];rw[Ro X R (n+1) i,show n+1+i=n+(i+1) from ae]
def X7:∀(l:bE)(i:Nat),cg (uT l) i=cg l i
 |[],i=>rfl
 |x::R,i=>by
  have X:=X7 R;simp only[uT];split;rename_i Q;cases i with
  |zero=>simp[cH]
  |succ i=>
   have:=X i;rw[Q] at this;simpa[cH] using this
  cases i with
  |zero=>simp[cH]
  |succ i=>simpa[cH] using X i
def agY{l:bE}{b:TypeId×av}(h:cg (uT (rg t 0 l)) X=U b):cg l X=U b:=by
 rw[X7,jO,Ro] at h;rw[jO];cases R:l[X]? with
 |none=>rw[R] at h;cases h
 |some x=>
  rw[R] at h;simp only[dV,cG] at h;split at h;rw[h];cases h
def Rp{l:bE}(h:aL (uT (rg t 0 l)) X=J):aL l X=true:=by
 obtain⟨b,R⟩:=kD.1 h;simp[aL,agY R]
def jE.Xd{P:bE}{N:bp}(R:jE d m V O P o N W)(L:aw):jE d m V O (uT (rg L 0 P)) o N W:=
 ⟨R.base,λi h=>R.own i (Rp h),λi j X Q=>R.inj i j (Rp X) (Rp Q),λi t H h=>R.box i t H (agY h),
  λk e M X Q=>⟨(R.am k e M X Q).1,λb G i F=>(R.am k e M X Q).2 b G i (Rp F)⟩⟩
def agZ{l:bE}{i:Nat}{b:TypeId×av}(h:cg (uT (l.take X)) i=U b):cg l i=U b:=by
 rw[X7,jO,mB] at h;rw[jO];split at h;exact h;cases h
def Rq{l:bE}{i:Nat}(h:aL (uT (l.take X)) i=J):aL l i=true:=by
 obtain⟨b,R⟩:=kD.1 h;simp[aL,agZ R]
def jE.take{P:bE}{N:bp}(R:jE d m V O P o N W)(n:Nat):jE d m V O (uT (P.take n)) o N W:=
 ⟨R.base,λi h=>R.own i (Rq h),λi j X Q=>R.inj i j (Rq X) (Rq Q),λi t L h=>R.box i t L (agZ h),
  λk e M X Q=>⟨(R.am k e M X Q).1,λb H i G=>(R.am k e M X Q).2 b H i (Rq G)⟩⟩
def wL:∀(X:aQ)(s:S),(s.cz X).2.au=s.au/\(s.cz X).2.tmps=s.tmps/\(s.cz X).2.aA=s.aA/\(s.cz X).2.lk=s.lk
 |[],s=>⟨rfl,rfl,rfl,rfl⟩
 |k::X,s=>by
  simp only[S.cz];obtain⟨R,Q,P,N⟩:=wL X (s.fresh k).2;cases k<;>exact⟨R,Q,P,N⟩
def X8:∀(X:aQ)(s:S),(s.cz X).2.pd=s.pd
 |[],s=>rfl
 |k::X,s=>by
  simp only[S.cz];rw[X8 X (s.fresh k).2];cases k<;>rfl
def Ja:∀(X:bn)(O:ak),(O.ext X).y=O.y
 |[],O=>rfl
 |x::X,O=>by
  simp only[ak.ext];rw[Ja X (O.add x)];cases x<;>rfl
def ag0:∀(X:aQ)(s:S)(k:Nat)(e:RK),s.rs[k]?=U e->(s.cz X).2.rs[k]?=U e
 |[],s,k,e,h=>h
 |q::X,s,k,e,h=>by
  simp only[S.cz];refine ag0 X _ k e ?_;cases q;exact h;exact h;simp only[S.fresh];rw[dU (bZ.1 h).1];exact h
def yo:∀(X:aQ)(R:bn)(s:S)(O:ak),ez X R->Y O.i=s.ni->Y O.b=s.nb->Y O.r=Y s.rs->
  (O.ext R).i.length=(s.cz X).2.ni/\(O.ext R).b.length=(s.cz X).2.nb/\(O.ext R).r.length=(s.cz X).2.rs.length
 |[],[],s,O,_,Q,P,N=>⟨Q,P,N⟩
 |[],_::_,_,_,h,_,_,_=>by simp[ez] at h
 |_::_,[],_,_,h,_,_,_=>by simp[ez] at h
 |k::X,x::R,s,O,h,Q,P,N=>by
  obtain⟨L,M⟩:=h;simp only[S.cz,ak.ext];cases k<;>cases x<;>simp[rj] at L;exact yo X R _ _ M (by simp[S.fresh,ak.add,Q]) (by simp[S.fresh,ak.add,P]) (by simp[S.fresh,ak.add,N]);exact yo X R _ _ M (by simp[S.fresh,ak.add,Q]) (by simp[S.fresh,ak.add,P]) (by simp[S.fresh,ak.add,N]);exact yo X R _ _ M (by simp[S.fresh,ak.add,Q]) (by simp[S.fresh,ak.add,P]) (by simp[S.fresh,ak.add,N])
def Gh{PP:RK->RV->Prop}:∀(R:aQ)(Q:bn)(s:S)(O:ak),ez R Q->Y O.r=Y s.rs->
  (∀(q:Nat)(e:RK)(X:RV),R[q]?=U (.am e)->Q[q]?=U (.r X)->PP e X)->(∀(k:Nat)(e:RK)(X:RV),s.rs[k]?=U e->O.r[k]?=U X->PP e X)->
  ∀(k:Nat)(e:RK)(X:RV),(s.cz R).2.rs[k]?=U e->(O.ext Q).r[k]?=U X->PP e X
 |[],[],s,O,_,_,_,M=>M
 |[],_::_,_,_,h,_,_,_=>by simp[ez] at h
 |_::_,[],_,_,h,_,_,_=>by simp[ez] at h
 |k::R,x::Q,s,O,h,L,B,M=>by
  obtain⟨H,G⟩:=h;have F:∀(q:Nat)(e:RK)(X:RV),R[q]?=U (.am e)->Q[q]?=U (.r X)->PP e X:=λq e X P N=>B (q+1) e X (by simpa using P) (by simpa using N)
  simp only[S.cz,ak.ext];cases k<;>cases x<;>simp[rj] at H;exact Gh R Q _ _ G (by simp[S.fresh,ak.add,L]) F (by simpa[S.fresh,ak.add] using M);exact Gh R Q _ _ G (by simp[S.fresh,ak.add,L]) F (by simpa[S.fresh,ak.add] using M);rename_i A z;refine Gh R Q _ _ G (by simp[S.fresh,ak.add,L]) F ?_;intro k e X P N;simp only[S.fresh,ak.add] at P N;by_cases H:k<Y s.rs;rw[dU H] at P;rw[dU ae] at N;exact M k e X P N;have y:k=Y s.rs:=by
   have:=(bZ.1 P).1;simp at this;omega
  subst y;simp at P;rw[<-L] at N;simp at N;subst P N;exact B 0 A z rfl rfl
def DJ:aQ->Nat
 |[]=>0
 |.am _::X=>DJ X+1
 |_::X=>DJ X
def Jb:∀(R:aQ)(P:bn)(s:S)(O:ak),ez R P->Y O.r=Y s.rs->
  ∀(k:Nat)(e:RK)(Q:RV),(s.cz R).2.rs[k]?=U e->(O.ext P).r[k]?=U Q->(s.rs[k]?=U e/\O.r[k]?=U Q)\/∃q:Nat,R[q]?=U (.am e)/\P[q]?=U (.r Q)/\k=Y s.rs+DJ (R.take q)
 |[],[],s,O,_,_,k,e,Q,N,M=>.inl ⟨N,M⟩
 |[],_::_,_,_,h,_,_,_,_,_,_=>by simp[ez] at h
 |_::_,[],_,_,h,_,_,_,_,_,_=>by simp[ez] at h
 |B::R,x::P,s,O,h,G,k,e,Q,N,M=>by
  obtain⟨A,F⟩:=h;simp only[S.cz,ak.ext] at N M;cases B<;>cases x<;>simp[rj] at A;rcases Jb R P _ _ F (by simp[S.fresh,ak.add,G]) k e Q N M with X|⟨q,X⟩;exact .inl (by simpa[S.fresh,ak.add] using X);exact .inr ⟨q+1,by simpa[S.fresh,DJ] using X⟩;rcases Jb R P _ _ F (by simp[S.fresh,ak.add,G]) k e Q N M with X|⟨q,X⟩;exact .inl (by simpa[S.fresh,ak.add] using X);exact .inr ⟨q+1,by simpa[S.fresh,DJ] using X⟩;rename_i w v;rcases Jb R P _ _ F (by simp[S.fresh,ak.add,G]) k e Q N M with⟨L,H⟩|⟨q,X⟩;simp only[S.fresh,ak.add] at L H;by_cases z:k<Y s.rs;rw[dU z] at L;rw[dU ae] at H;exact .inl ⟨L,H⟩;have y:k=Y s.rs:=by
   have:=(bZ.1 L).1;simp at this;omega
  subst y;simp at L;rw[<-G] at H;simp at H;subst L H;exact .inr ⟨0,rfl,rfl,by simp[DJ]⟩;refine .inr ⟨q+1,by simpa using X.1,by simpa using X.2.1, ?_⟩;have:=X.2.2;simp[S.fresh] at this;simp[DJ];omega
def ag1:∀{ks:aQ}{q:Nat}{e:RK},ks[q]?=U (.am e)->Mh ks=J
 |[],q,e,h=>by simp at h
 |k::ks,0,e,h=>by simp at h;subst h;rfl
 |k::ks,q+1,e,h=>by
  have:=ag1 (ks:=ks) (q:=q) (by simpa using h);cases k<;>first|exact this|rfl
def Ru:∀{R:aQ}{q:Nat}{k:LK},pF R=J->R[q]?=U k->FR k=J
 |[],q,k,_,h=>by simp at h
 |Q::R,0,k,X,h=>by simp only[pF,az] at X;simp at h;subst h;exact X.1
 |Q::R,q+1,k,X,h=>by simp only[pF,az] at X;exact Ru X.2 (by simpa using h)
def X9{B:Nat}{M:Nat->Prop}:∀{N:aQ}{P:bn},IJ o W B M N P->∀(q:Nat)(e:RK)(X:RV),N[q]?=U (.am e)->P[q]?=U (.r X)->bJ W o e X/\∀b,dR o e X b->B<=b\/M b
 |[],P,_,q,e,X,R,_=>by simp at R
 |_::_,[],_,q,e,X,_,Q=>by simp at Q
 |k::N,x::P,h,0,e,X,R,Q=>by simp at R Q;subst R Q;exact h.1
 |k::N,x::P,h,q+1,e,X,R,Q=>X9 h.2 q e X (by simpa using R) (by simpa using Q)
def aC.called{B:World}(R:aC d m D o V O s a W)(u:s.bd=J){Q:aQ}(f:pF Q=J){N:bn}(A:ez Q N)(n:Below W.heap.size W B){c:Nat->Prop}(ho:∀b,c b->O.pH o s.rs b/\∀(k:Nat)(e:TypeId)(X:RV),s.rs[k]?=U (.own e)->O.r[k]?=U X->X.kF=U b->Mh Q=E)
  (hh:IJ o B W.heap.size c Q N):
  aC d m D o V (O.ext N) (s.cz Q).2 a B:=by
 obtain⟨M,e2,e3,e4⟩:=wL Q s;obtain⟨l1,l2,l3⟩:=yo Q N s O A R.ei R.eb R.er;obtain⟨aa,ab⟩:=R.yf u;have hE:=BM s.au O N V;have L:=R.mem.below n;refine⟨⟨L.base,by rw[M];exact L.own,by rw[M];exact L.inj, ?_, ?_⟩,by rw[M];exact R.gv,l1,l2,l3,by rw[Ja,X8];exact R.cU.below n,by rw[e2];exact R.size, ?_, ?_⟩;rw[M];intro i t cs h;rw[hE.dJ (sF ab h)];exact L.box i t cs h;rw[M];refine Gh (PP:=λe X=>bJ B o e X/\∀b,dR o e X b->∀i,aL s.au i=J->ad V i≠b) Q N s O A R.er ?_ (λk e X P H=>L.am k e X P H);intro q e X P H;obtain⟨z,h4⟩:=X9 hh q e X P H;refine⟨z,λb u i hi=> ?_⟩;rcases h4 b u with G|G;have:=R.mem.lt hi;omega;obtain⟨⟨k,y,hk,hx⟩,-⟩:=ho b G;exact(R.mem.am k _ _ hk (tU R hk)).2 b hx i hi;rw[e2];intro t sv h;rcases R.tmps t sv h with P|P;exact .inl P;right;rw[hE.ah (uY aa h)];exact P;rw[M];intro k e X b P H z;rcases Jb Q N s O A R.er k _ X P H with⟨x,l⟩|⟨q,x,l,-⟩;have t:=R.fZ k e X b x l z;have w:=t.world (n.block b t.lt);refine⟨w.own,w.mem,w.box,λk' y j q1 q2 q3 v=> ?_,w.inner⟩;rcases Jb Q N s O A R.er k' y j q2 q3 with⟨F,g⟩|⟨q,F,g,-⟩;exact t.alone k' y j q1 F g v;have hr:=ag1 F;obtain⟨p3,p4⟩:=X9 hh q y j F g;rcases v with v|⟨⟨t0,rfl⟩,_⟩;rcases p4 b v with G|G;have:=t.lt;omega;have:=(ho b G).2 k e X x l z;rw[hr] at this;cases this;have:=Ru f F;simp[FR] at this;have:=Ru f x;simp[FR] at this
def ag2(R:aC d m D o V O s a W){G:aQ}(h:O.pH o (Mj e s.rs) X):
  O.pH o (Bv e G s.rs) X/\∀(k:Nat)(Q:TypeId)(H:RV),(Bv e G s.rs)[k]?=U (.own Q)->O.r[k]?=U H->H.kF=U X->Mh G=false:=by
 obtain⟨N,q,P,A⟩:=h;unfold Mj at P;rw[Xx] at P;cases M:s.rs[N]? with
 |none=>rw[M] at P;cases P
 |some x=>
  rw[M] at P;simp only[iJ,dV,cG] at P;have z:=af6 ((Mi e (Y s.rs)).contains N) x;rw[P] at z;have L:dR o x (O.rv N) X:=A.mb z;refine⟨?_,λk Q H F v u=> ?_⟩;unfold Bv;split;refine⟨N,xS ((Mi e (Y s.rs)).contains N) x,by rw[IY,M];simp, ?_⟩;cases x<;>simp only[xS]<;>try exact L
  split;cases L with
  |own Q H X L=>exact L
  exact L;exact⟨N,x,M,L⟩;unfold Bv at F;split at F;rename_i y;exfalso;obtain⟨B,t⟩:=XD F;by_cases w:N=k;subst w;rw[M] at B;cases B;simp only[Ma] at P;rw[aK (by simpa using t)] at P;subst P;cases A;exact(R.fZ k Q H X B v u).alone N x (O.rv N) w M (tU R M) (.inl L);rename_i y;simpa using y
def DK(R:av)(Q:aQ)(X:bp):pI X (Bv R Q X):=by
 unfold Bv;split;exact MI _ _;exact pI.refl _
end
section
variable{p:Sp}{c:bF}
def ag3(w:p.ty=c.ty)(n:∀g,(c.sig g).isSome=J->∀X W,(callFunc g X).run p.P W=.ok (.enter g X) W)
  (D:b9)(L:dm)(g:FuncId)(X:av)(s:S)(k:C->S->T)(O:ak)(V:aw)(a:Act)(W:World)(B:Ending->World->Prop)
  (h:(xW c g X s k).aP p O L)(R:aC p.S0 p.w0 D c.ty V O s a W)
  (j:∀v A H z Q u,bH s O V A H z->di s.aA L u->aC p.S0 p.w0 D c.ty z H A a Q->(k v A).aP p H u->B (.returned (v.ah H z)) Q)
  (i:∀G Q f y,eF p.w0 D f y a.defers Q->p.R (.panicked G) Q->B (.panicked G) Q):
  (∀X W,(callFunc g X).run p.P W=.ok (.enter g X) W)/\Calls p.P g (C.aF O V X).toArray W B:=by
 unfold xW at h;split at h;rename_i ts aa;refine⟨n g (by rw[aa];rfl), ?_⟩;split at h;rename_i M ac;split at h;rename_i l hl;split at h;rename_i N;simp only[S.eV,az] at N;obtain⟨N,ab⟩:=N;simp only[T.aP] at h;have:=h O.y V W (by rw[w];exact(R.mem.Xd _).mb (af7 _ _));refine this.mono ?_;intro e Q F;cases e with
 |returned v=>
  obtain⟨x,h1,t,h3,r,h5⟩:=F;rw[w] at r;obtain⟨q,e2,e3,e4⟩:=wL M (s.cut X M);have hy:(O.ext x).at O.y=O.ext x:=by have:=Ja x O;unfold ak.at;rw[<-this]
  rw[hy] at t;subst t;have R1:aC p.S0 p.w0 D c.ty V O (s.cut X M) a W:=R.mb (DK X M s.rs);exact j _ _ _ V Q L ⟨BM _ _ _ _,by rw[q];exact λ_ h=>h,by rw[q];exact cd _,by rw[e3];exact cd _⟩ (di.refl _ _) (R1.called (MO N.1 (DK X M s.rs).len) ab h1 h3 (λb N=>ag2 R N) r) h5
 |panicked G=>exact i G Q _ _ (R.cU.below F.1) F.2
 |outgrown=>exact F.elim
 exact h.elim;exact h.elim;exact h.elim;exact h.elim
def Ya{d:aw}{m:World}{D:b9}{V:aw}{O:ak}{s:S}{a:Act}{W:World}(R:aC d m D c.ty V O s a W)(M:i7 p.P c.ty)(f:ResultVar->Sem Value)(L:∀t,f (.tmp t)=pure (a.tmps.getD t undef))(H:∀x t,f (.cell x t)=(asAddr (a.tmps.getD x undef)>>=λy=>loadVar t y)):
  ∀(X:mU)(l:av),tM c s X=U l->(X.mapM f).run p.P W=.ok (C.aF O V l) W
 |[],l,h=>by simp[tM] at h;subst h;rfl
 |.tmp t::X,l,h=>by
  simp only[tM] at h;split at h;rename_i G F;split at h;cases h;rename_i z;cases h;have N:=du (gl:=[]) R (λ_ Q=>by cases Q) (.tmp t) (by simpa[S.ev,wq] using z);simp only[Act.eval,S.ev,wq] at N;simp only[aqF,dq,L,eX,dl,Ya R M f L H X G F,C.aF,N];cases h
 |.cell x t::X,l,h=>by
  simp only[tM] at h;split at h;rename_i G i g e F Q w;split at h;rename_i u r B;split at h;rename_i v q;cases h;have N:=du (gl:=[]) R (λ_ Q=>by cases Q) (.tmp x) (by simp only[S.ev,wq,Q];rfl);simp only[Act.eval,S.ev,wq,Q,C.ah] at N;have A:=QR (P:=p.P) (W:=W) (M _ _ w) (O:=O) (V:=V) (b:=ad V i) (base:=0) q (λj y n=>by
   obtain⟨B,k⟩:=ye B;have:=R.mem.box i u r B;rw[sG k] at this;simp[nF,this,sC,n])
  simp only[Instr.loadAt,Instr.sureAddr,iJ,dq,eX,dl] at A;simp only[aqF,dq,H,N,asAddr,eX,dl,A,Ya R M f L H X G F,C.aF];cases h;cases h;cases h
def Jc{m:World}{D:b9}{V:aw}{a:Act}{W:World}(X:aC t m D c.ty V x R a W)(N:i7 p.P c.ty){Q:Func}{l:av}(h:tM c R Q.results.toList=U l):
  (results Q a.tmps).run p.P W=.ok ((one l).ah x V) W:=by
 unfold results;rw[aDc];simp only[dq,Sem.run_map];rw[Ya X N _ (λ_=>rfl) (λ_ _=>rfl) Q.results.toList l h];simp only[dl,eX];congr 1
 match l with
 |[]=>rfl
 |[v]=>rfl
 |v::w::r=>rfl
end
section
variable{d:aw}{m:World}{D:b9}{ty:Ty}{V:aw}{O:ak}{s:S}{a:Act}{W:World}
def XV.at(k:LK):XV->Value
 |.i n=>match k with
  |.int k=>.int k n
  |_=>undef
 |.b x=>.bool x
 |.r v=>v.val
def XV.M0(k:LK)(x:XV):RV:=match x with
 |.r v=>v
 |x=>.mk (x.at k) []
def asn{k:LK}(h:Bu R k r=J):(r.xv x).M0 k=r.gK x t:=by
 unfold Bu at h;split at h;simp at h;subst h;rfl;rfl;rfl;rfl;rfl;rfl;cases h
def ag4{V1:aw}{k:LK}(h:Bu R k r=J):(r.xv x).at k=r.ah x V1/\rj k (r.xv x):=by
 unfold Bu at h;split at h;simp at h;subst h;exact⟨rfl,trivial⟩;exact⟨rfl,trivial⟩;exact⟨rfl,trivial⟩;exact⟨rfl,trivial⟩;exact⟨rfl,trivial⟩;exact⟨rfl,trivial⟩;cases h
def ag5{N:S}:∀{X:aQ}{R:av},sq N X R=J->Y X=Y R/\∀(q:Nat)(k:LK)(v:C),X[q]?=U k->R[q]?=U v->Bu N k v=J
 |[],[],_=>⟨rfl,λq k v h _=>by simp at h⟩
 |[],_::_,h=>by simp[sq] at h
 |_::_,[],h=>by simp[sq] at h
 |k::X,v::R,h=>by
  simp only[sq,az] at h;obtain⟨M,L⟩:=ag5 h.2;refine⟨by simp[M],λq H G Q P=> ?_⟩;cases q with
  |zero=>simp at Q P;subst Q P;exact h.1
  |succ q=>exact L q H G (by simpa using Q) (by simpa using P)
def Yb{Q:S}{O1:ak}:∀{X:aQ}{R:av},sq Q X R=J->ez X (R.map (C.xv O1))
 |[],[],_=>trivial
 |[],_::_,h=>by simp[sq] at h
 |_::_,[],h=>by simp[sq] at h
 |k::X,v::R,h=>by
  simp only[sq,az] at h;exact⟨(ag4 (V1:=[]) h.1).2,Yb h.2⟩
def Rv:∀(R:aQ)(X:bn)(s:S)(O:ak),ez R X->Y O.i=s.ni->Y O.b=s.nb->Y O.r=Y s.rs->
  ∀(q:Nat)(k:LK)(x:XV)(v:C),R[q]?=U k->X[q]?=U x->(s.cz R).1[q]?=U v->v.ah (O.ext X) V=x.at k/\v≠ .any
 |[],_,_,_,_,_,_,_,q,k,x,v,h,_,_=>by simp at h
 |_::_,[],_,_,h,_,_,_,q,k,x,v,_,_,_=>by simp[ez] at h
 |B::R,G::X,s,O,A,M,L,H,0,k,x,v,Q,P,N=>by
  obtain⟨z,F⟩:=A;simp only[S.cz,zr,cG] at Q P N;subst Q P N;have y:=Dz X (O.add G);simp only[ak.ext];cases B<;>cases G<;>simp[rj] at z;refine⟨?_,by simp[S.fresh]⟩;simp only[S.fresh,C.ah,K.ah,XV.at];rw[y.i _ (by simp[ak.add,M])];simp[ak.add,<-M];refine⟨?_,by simp[S.fresh]⟩;simp only[S.fresh,C.ah,BE.ah,XV.at];rw[y.b _ (by simp[ak.add,L])];simp[ak.add,<-L];refine⟨?_,by simp[S.fresh]⟩;simp only[S.fresh,C.ah,RE.ah,RE.rv,XV.at];rw[y.r _ (by simp[ak.add,H])];simp[ak.add,ak.rv,<-H]
 |B::R,G::X,s,O,A,M,L,H,q+1,k,x,v,Q,P,N=>by
  obtain⟨z,F⟩:=A;simp only[S.cz,sa] at Q P N;simp only[ak.ext];cases B<;>cases G<;>simp[rj] at z;exact Rv R X _ _ F (by simp[S.fresh,ak.add,M]) (by simp[S.fresh,ak.add,L]) (by simp[S.fresh,ak.add,H]) q k x v Q P N;exact Rv R X _ _ F (by simp[S.fresh,ak.add,M]) (by simp[S.fresh,ak.add,L]) (by simp[S.fresh,ak.add,H]) q k x v Q P N;exact Rv R X _ _ F (by simp[S.fresh,ak.add,M]) (by simp[S.fresh,ak.add,L]) (by simp[S.fresh,ak.add,H]) q k x v Q P N
def Rw:∀(R:aQ)(X:bn)(s:S)(O:ak),ez R X->Y O.i=s.ni->Y O.b=s.nb->Y O.r=Y s.rs->
  ∀(q:Nat)(k:LK)(x:XV)(v:C),R[q]?=U k->X[q]?=U x->(s.cz R).1[q]?=U v->v.gK (O.ext X) V=x.M0 k
 |[],_,_,_,_,_,_,_,q,k,x,v,h,_,_=>by simp at h
 |_::_,[],_,_,h,_,_,_,q,k,x,v,_,_,_=>by simp[ez] at h
 |B::R,G::X,s,O,A,M,L,H,0,k,x,v,Q,P,N=>by
  obtain⟨z,F⟩:=A;simp only[S.cz,zr,cG] at Q P N;subst Q P N;have y:=Dz X (O.add G);simp only[ak.ext];cases B<;>cases G<;>simp[rj] at z
  skip
  simp only[S.fresh,C.gK,C.ah,K.ah,XV.M0,XV.at];rw[y.i _ (by simp[ak.add,M])];simp[ak.add,<-M]
  skip
  simp only[S.fresh,C.gK,C.ah,BE.ah,XV.M0,XV.at];rw[y.b _ (by simp[ak.add,L])];simp[ak.add,<-L]
  skip
  simp only[S.fresh,C.gK,RE.rv,XV.M0];rw[y.r _ (by simp[ak.add,H])];simp[ak.add,ak.rv,<-H]
 |B::R,G::X,s,O,A,M,L,H,q+1,k,x,v,Q,P,N=>by
  obtain⟨z,F⟩:=A;simp only[S.cz,sa] at Q P N;simp only[ak.ext];cases B<;>cases G<;>simp[rj] at z;exact Rw R X _ _ F (by simp[S.fresh,ak.add,M]) (by simp[S.fresh,ak.add,L]) (by simp[S.fresh,ak.add,H]) q k x v Q P N;exact Rw R X _ _ F (by simp[S.fresh,ak.add,M]) (by simp[S.fresh,ak.add,L]) (by simp[S.fresh,ak.add,H]) q k x v Q P N;exact Rw R X _ _ F (by simp[S.fresh,ak.add,M]) (by simp[S.fresh,ak.add,L]) (by simp[S.fresh,ak.add,H]) q k x v Q P N
def ag6:∀(X:aQ)(s:S),(s.cz X).1.length=Y X
 |[],_=>rfl
 |k::X,s=>by simp[S.cz,ag6 X]
def ag7{n:Nat}:∀{R:List (Nat×LK)}{X:av}{v:C},uV n R X=U v->∃(q:Nat)(k:LK),R[q]?=U (n,k)/\X[q]?=U v
 |[],X,v,h=>by simp[uV] at h
 |_::_,[],v,h=>by simp[uV] at h
 |(t,k)::r,x::L,v,h=>by
  simp only[uV] at h;split at h;rename_i Q;cases h;simp at Q;subst Q;exact⟨0,k,rfl,rfl⟩;obtain⟨q,P,N,M⟩:=ag7 h;exact⟨q+1,P,by simpa using N,by simpa using M⟩
def ag8{n:Nat}:∀{X:List (Nat×LK)}{R:av},Y X<=Y R->uV n X R=Z->X.any (·.1==n)=E
 |[],R,_,h=>rfl
 |_::_,[],Q,h=>by simp at Q
 |(t,k)::r,x::N,Q,h=>by
  simp only[uV] at h;split at h;cases h;rename_i P;simp only[List.any_cons,uK];exact⟨by simpa using P,ag8 (by simpa using Q) h⟩
def ag9{b n:Nat}:∀{R:List (Nat×Nat×LK)}{X:av}{v:C},zK b n R X=U v->∃(q:Nat)(k:LK),R[q]?=U (b,n,k)/\X[q]?=U v
 |[],X,v,h=>by simp[zK] at h
 |_::_,[],v,h=>by simp[zK] at h
 |(L,t,k)::r,x::H,v,h=>by
  simp only[zK] at h;split at h;rename_i Q;cases h;simp at Q;obtain⟨rfl,rfl⟩:=Q;exact⟨0,k,rfl,rfl⟩;obtain⟨q,P,N,M⟩:=ag9 h;exact⟨q+1,P,by simpa using N,by simpa using M⟩
def aha{b n:Nat}:∀{X:List (Nat×Nat×LK)}{R:av},Y X<=Y R->zK b n X R=Z->X.any (λc=>c.1==b&&c.2.1==n)=E
 |[],R,_,h=>rfl
 |_::_,[],Q,h=>by simp at Q
 |(N,t,k)::r,x::M,Q,h=>by
  simp only[zK] at h;split at h;cases h;rename_i P;simp only[List.any_cons,uK];exact⟨by simpa using P,aha (by simpa using Q) h⟩
def ahb(X:fo)(R:aw)(Q:av):∀(l:av)(n i:Nat),(zL X R Q n l)[i]?=(l[i]?).map λx=>(uV (n+i) X.tm Q).getD (if R.contains (n+i) then .any else x)
 |[],n,i=>by simp[zL]
 |x::P,n,0=>by simp[zL]
 |x::P,n,i+1=>by
  simp only[zL,sa];rw[ahb X R Q P (n+1) i,show n+1+i=n+(i+1) from ae]
def ahc(X:fo)(R:av)(b:Nat):∀(l:av)(n i:Nat),(FP X R b n l)[i]?=(l[i]?).map λx=>(zK b (n+i) X.cl R).getD x
 |[],n,i=>by simp[FP]
 |x::Q,n,0=>by simp[FP]
 |x::Q,n,i+1=>by
  simp only[FP,sa];rw[ahc X R b Q (n+1) i,show n+1+i=n+(i+1) from ae]
def M1(R:fo)(Q:av):∀(l:bE)(n i:Nat),cg (tN R Q n l) i=(cg l i).map λx=>(x.1,FP R Q (n+i) 0 x.2)
 |[],n,i=>by simp[tN,cH]
 |Z::X,n,0=>by simp[tN,cH]
 |U (t,P)::X,n,0=>by simp[tN,cH]
 |Z::X,n,i+1=>by
  have:=M1 R Q X (n+1) i;rw[show n+1+i=n+(i+1) from ae] at this;simpa[tN,cH] using this
 |U (t,P)::X,n,i+1=>by
  have:=M1 R Q X (n+1) i;rw[show n+1+i=n+(i+1) from ae] at this;simpa[tN,cH] using this
def Rx(X:fo)(R:av):∀(l:bE)(n:Nat),(tN X R n l).length=Y l
 |[],n=>rfl
 |Z::Q,n=>by simp[tN,Rx X R Q]
 |U (t,P)::Q,n=>by simp[tN,Rx X R Q]
def ahd(X:fo)(R:aw)(Q:av):∀(l:av)(n:Nat),(zL X R Q n l).length=Y l
 |[],n=>rfl
 |x::P,n=>by simp[zL,ahd X R Q P]
def Yc{N:fo}{M:aw}:∀{l R:av}{n:Nat},xV N M n l R=J->Y l=Y R/\∀(i:Nat)(x y:C),l[i]?=U x->R[i]?=U y->N.tm.any (·.1==n+i)=J\/M.contains (n+i)=J\/x=y
 |[],[],n,_=>⟨rfl,λi x y h _=>by simp at h⟩
 |[],_::_,n,h=>by simp[xV] at h
 |_::_,[],n,h=>by simp[xV] at h
 |x::B,y::A,n,h=>by
  simp only[xV,az,jd] at h;obtain⟨L,H⟩:=Yc h.2;refine⟨by simp[L],λi G F Q P=> ?_⟩;cases i with
  |zero=>
   simp only[zr,cG] at Q P;subst Q P;rcases h.1 with(X|X)|X;exact .inl X;exact .inr (.inl X);exact .inr (.inr (C.bU _ _ X))
  |succ i=>
   have:=H i G F (by simpa using Q) (by simpa using P);rw[show n+(i+1)=n+1+i from ae];exact this
def ahe{N:fo}{b:Nat}:∀{l X:av}{n:Nat},FQ N b n l X=J->Y l=Y X/\∀(i:Nat)(x y:C),l[i]?=U x->X[i]?=U y->N.cl.any (λc=>c.1==b&&c.2.1==n+i)=J\/x=y
 |[],[],n,_=>⟨rfl,λi x y h _=>by simp at h⟩
 |[],_::_,n,h=>by simp[FQ] at h
 |_::_,[],n,h=>by simp[FQ] at h
 |x::F,y::B,n,h=>by
  simp only[FQ,az,jd] at h;obtain⟨M,L⟩:=ahe h.2;refine⟨by simp[M],λi H G R Q=> ?_⟩;cases i with
  |zero=>
   simp only[zr,cG] at R Q;subst R Q;rcases h.1 with P|P;exact .inl P;exact .inr (C.bU _ _ P)
  |succ i=>
   have:=L i H G (by simpa using R) (by simpa using Q);rw[show n+(i+1)=n+1+i from ae];exact this
def Yd{G:fo}:∀{l M:bE}{n:Nat},sn G n l M=J->∀(i:Nat)(t:TypeId)(R:av),cg l i=U (t,R)->∃Q,cg M i=U (t,Q)/\FQ G (n+i) 0 R Q=J
 |[],M,n,_,i,t,R,h=>by simp[cH] at h
 |Z::P,[],n,X,i,t,R,h=>by simp[sn] at X
 |Z::P,y::N,n,X,0,t,R,h=>by simp[cH] at h
 |Z::P,y::N,n,X,i+1,t,R,h=>by
  simp only[sn] at X;obtain⟨Q,L,H⟩:=Yd X i t R (by simpa[cH] using h);exact⟨Q,by simpa[cH] using L,by rw[show n+(i+1)=n+1+i from ae];exact H⟩
 |U x::P,[],n,X,i,t,R,h=>by simp[sn] at X
 |U x::P,Z::N,n,X,i,t,R,h=>by simp[sn] at X
 |U x::P,U y::N,n,X,0,t,R,h=>by
  simp only[sn,az,dv] at X;simp only[cH,zr,cG] at h⊢;subst h;exact⟨y.2,by rw[show(t:TypeId)=y.1 from X.1.1],X.1.2⟩
 |U x::P,U y::N,n,X,i+1,t,R,h=>by
  simp only[sn,az] at X;obtain⟨Q,L,H⟩:=Yd X.2 i t R (by simpa[cH] using h);exact⟨Q,by simpa[cH] using L,by rw[show n+(i+1)=n+1+i from ae];exact H⟩
def ahf{R:fo}{n:Nat}{k:LK}(Q:R.tm[X]?=U (n,k)):R.ks[X]?=U k:=by
 have P:X<Y R.tm:=(bZ.1 Q).1;unfold fo.ks;rw[dU (by simpa using P),dN,Q];rfl
def ahg{Q:fo}{n:Nat}{k:LK}(P:Q.tm[X]?=U (n,k))(N:R.tmps[n]?=U r):(kf Q R)[X]?=U r:=by
 have M:X<Y Q.tm:=(bZ.1 P).1;unfold kf;rw[dU (by simpa using M),dN,P];simp[N]
def BS{k:Nat}(h:k<X):ad (t.take X) k=ad t k:=by simp[ad,h]
def aso(X:fo)(s:S):(iZ X s).length=Y s.rs:=zT _ _ _
def ahh:∀{l R:bp},xU l R=J->∀(k:Nat)(e:RK),l[k]?=U e->∃Q,R[k]?=U Q/\(e=.ap\/Q=e)
 |[],R,_,k,e,h=>by simp at h
 |x::P,[],h,_,_,_=>by simp[xU] at h
 |x::P,y::N,h,0,e,X=>by
  simp only[xU,az,jd,cF] at h;simp at X;subst X;exact⟨y,rfl,h.1.imp id Eq.symm⟩
 |x::P,y::N,h,k+1,e,X=>by
  simp only[xU,az] at h;exact ahh h.2 k e (by simpa using X)
def Ry:∀{R:aQ}{X:av}{q:Nat}{e:TypeId}{k:Nat},R[q]?=U (.am (.own e))->X[q]?=U (.am (.v k))->k∈Bt R X
 |[],X,q,e,k,h,_=>by simp at h
 |_::_,[],q,e,k,_,h=>by simp at h
 |N::R,v::X,0,e,k,Q,P=>by simp at Q P;subst Q P;simp[Bt,Qz]
 |N::R,v::X,q+1,e,k,Q,P=>by
  simp only[Bt,eP];right;exact Ry (q:=q) (by simpa using Q) (by simpa using P)
def Rz:∀{a b:aw},mF (a++b)=J->mF b=J/\∀x∈a,x∉b
 |[],b,h=>⟨h,ay⟩
 |x::a,b,h=>by
  simp only[fG,mF,az] at h;obtain⟨R,Q⟩:=Rz h.2;refine⟨R,λy X=> ?_⟩;rcases dP.1 X with rfl|X;intro P;have:=h.1;simp[P] at this;exact Q y X
def ahi:∀{N:aQ}{R:av}{q Q:Nat}{e M:TypeId}{k X:Nat},mF (Bt N R)=J->N[q]?=U (.am (.own e))->R[q]?=U (.am (.v k))->N[Q]?=U (.am (.own M))->R[Q]?=U (.am (.v X))->q≠Q->k≠X
 |[],R,q,Q,e,M,k,X,_,h,_,_,_,_=>by simp at h
 |_::_,[],q,Q,e,M,k,X,_,_,h,_,_,_=>by simp at h
 |B::N,v::R,0,0,e,M,k,X,_,_,_,_,_,h=>aY rfl h
 |B::N,v::R,0,Q+1,e,M,k,X,P,L,H,G,F,_=>by
  simp at L H;subst L H;simp only[Bt] at P;have:=(Rz P).2 k (by simp[Qz]);intro A;subst A;exact this (Ry (q:=Q) (by simpa using G) (by simpa using F))
 |B::N,v::R,q+1,0,e,M,k,X,P,L,H,G,F,_=>by
  simp at G F;subst G F;simp only[Bt] at P;have:=(Rz P).2 X (by simp[Qz]);intro A;subst A;exact this (Ry (q:=q) (by simpa using L) (by simpa using H))
 |B::N,v::R,q+1,Q+1,e,M,k,X,P,L,H,G,F,z=>by
  simp only[Bt] at P;exact ahi (Rz P).1 (by simpa using L) (by simpa using H) (by simpa using G) (by simpa using F) ae
def aC.head{ty:Ty}{P:fo}{n:aw}{a1:Act}{W1:World}(bk:s.bd=J)(ei:Y O.i=s.ni)(eb:Y O.b=s.nb)(er:Y O.r=Y s.rs)
  (f:bH s O V R x n)(R1:aC d m D ty n x R a1 W1)(hT:xV P t 0 s.tmps R.tmps=J)(hB:sn P 0 s.au R.au=J)(hf:sq R P.ks (kf P R)=J)
  (hR:xU (iZ P s) R.rs=J)(hO:FO (iZ P s) (FN P R)=J)(b6:R.pd=s.pd):
  aC d m D ty (n.take (Y s.au)) (O.ext ((kf P R).map (C.xv x))) (qn P t s) a1 W1:=by
 obtain⟨b7,b8⟩:C.dQ (Y O.i) (Y O.b) (Y O.r) (aL s.au) s.tmps=J/\C.qm (Y O.i) (Y O.b) (Y O.r) (aL s.au) s.au=true:=by
  simp only[S.bd,az] at bk;rw[ei,eb,er];exact bk
 have af:=Yb (O1:=x) hf;have ag:Y O.r=(iZ P s).length:=by rw[aso];exact er
 obtain⟨cA,a4⟩:=ag5 hf;generalize bb:(kf P R).map (C.xv x)=o at*;obtain⟨e1,e2,e3,e4⟩:=wL P.ks {s with aA:=s.aA+1,rs:=iZ P s};obtain⟨l1,l2,l3⟩:=yo P.ks o {s with aA:=s.aA+1,rs:=iZ P s} O af ei eb ag;have bl:=BM s.au O o V;have ca:=Rv (V:=n.take (Y s.au)) P.ks o {s with aA:=s.aA+1,rs:=iZ P s} O af ei eb ag;have br:=ag6 P.ks {s with aA:=s.aA+1,rs:=iZ P s};have bs:Y P.ks=Y P.tm+Y P.cl:=by simp[fo.ks]
 have al:∀i,aL (tN P (((({s with aA:=s.aA+1,rs:=iZ P s}:S).cz P.ks).1).drop (Y P.tm)) 0 s.au) i=J->aL s.au i=J/\i<Y s.au:=by
  intro i hi;unfold aL at hi;rw[M1] at hi;have:(cg s.au i).isSome=true:=by simpa using hi
  obtain⟨b,H⟩:=kD.1 this;exact⟨this,(bZ.1 (jO.1 H)).1⟩
 have cc:∀v:C,v.bd (Y O.i) (Y O.b) (Y O.r) (aL s.au)=J->v.ah (O.ext o) (n.take (Y s.au))=v.ah x n:=by
  intro v hv;rw[f.ext.ah hv];refine C.dW bl.agree (λk hk=> ?_) v hv;have a0:k<Y s.au:=by
   obtain⟨b,H⟩:=kD.1 hk;exact(bZ.1 (jO.1 H)).1
  rw[BS a0];exact f.ext.ad k hk
 have ch:∀(q:Nat)(k:LK)(v w:C),P.ks[q]?=U k->(kf P R)[q]?=U w->(({s with aA:=s.aA+1,rs:=iZ P s}:S).cz P.ks).1[q]?=U v->v.ah (O.ext o) (n.take (Y s.au))=w.ah x n/\v≠ .any:=by
  intro q k v w hk hw hv;have hx:o[q]?=U (w.xv x):=by rw[<-bb];simp[hw]
  obtain⟨N,M⟩:=ca q k _ v hk hx hv;exact⟨N.trans (ag4 (V1:=n) (a4 q k w hk hw)).1,M⟩
 have cm:∀v:C,v.bd (Y O.i) (Y O.b) (Y O.r) (aL s.au)=J->v.gK (O.ext o) (n.take (Y s.au))=v.gK x n:=by
  intro v hv;rw[Xe f.ext.agree f.ext.ad v hv];refine Xe bl.agree (λk hk=> ?_) v hv;have a0:k<Y s.au:=by
   obtain⟨b,H⟩:=kD.1 hk;exact(bZ.1 (jO.1 H)).1
  rw[BS a0];exact f.ext.ad k hk
 have cn:∀(q:Nat)(k:LK)(v w:C),P.ks[q]?=U k->(kf P R)[q]?=U w->(({s with aA:=s.aA+1,rs:=iZ P s}:S).cz P.ks).1[q]?=U v->v.gK (O.ext o) (n.take (Y s.au))=w.gK x n:=by
  intro q k v w hk hw hv;have hx:o[q]?=U (w.xv x):=by rw[<-bb];simp[hw]
  rw[Rw (V:=n.take (Y s.au)) P.ks o {s with aA:=s.aA+1,rs:=iZ P s} O af ei eb ag q k _ v hk hx hv];exact asn (a4 q k w hk hw)
 have bt:∀(k:Nat)(e:RK)(G:RV),(iZ P s)[k]?=U e->O.r[k]?=U G->∃e1,R.rs[k]?=U e1/\x.r[k]?=U G/\(e=.ap\/e1=e):=by
  intro k e G N M;have hk:k<Y O.r:=(bZ.1 M).1;have co:k<Y x.r:=Wi hk f.ext.lr;have cp:x.r[k]?=U G:=by
   have:=f.ext.agree.r k hk;simp only[ak.rv,dB,M,oJ] at this;rw[cK co] at this⊢;simpa using this
  obtain⟨L,h3,h4⟩:=ahh hR k e N;exact⟨L,h3,cp,h4⟩
 have bx:∀(q:Nat)(e:RK)(G:RV),P.ks[q]?=U (.am e)->o[q]?=U (.r G)->(∃A:Nat,(kf P R)[q]?=U (.am (.v A))/\R.rs[A]?=U e/\x.r[A]?=U G)\/(G=.mk (.slice Z 0 0) []/\∃X sh,e=.sl X\/e=.own X\/e=.mr sh):=by
  intro q e G N M;rw[<-bb,dN] at M;cases hw:(kf P R)[q]? with
  |none=>rw[hw] at M;cases M
  |some w=>
   rw[hw] at M;simp only[dV,cG] at M;have a9:=a4 q _ w N hw;unfold Bu at a9;split at a9;rename_i ab;cases ab;rename_i ab;cases ab;rename_i L k ab;cases ab;simp only[C.xv,XV.r.injEq] at M;have b0:R.rs[k]?=U e:=by simpa using a9
   refine .inl ⟨k,rfl,b0, ?_⟩;rw[<-M];exact tU R1 b0;rename_i L ab;cases ab;simp only[C.xv,XV.r.injEq,RE.rv] at M;exact .inr ⟨M.symm,_,⟨0,0,0,E,E⟩,.inl rfl⟩;rename_i L ab;cases ab;simp only[C.xv,XV.r.injEq,RE.rv] at M;exact .inr ⟨M.symm,_,⟨0,0,0,E,E⟩,.inr (.inl rfl)⟩;rename_i L ab;cases ab;simp only[C.xv,XV.r.injEq,RE.rv] at M;exact .inr ⟨M.symm,0,_,.inr (.inr rfl)⟩;cases a9
 simp only[FO,az] at hO;obtain⟨ct,cv⟩:=hO;have b1:∀(q:Nat)(e:TypeId)(A:Nat),P.ks[q]?=U (.am (.own e))->(kf P R)[q]?=U (.am (.v A))->∀L,(iZ P s)[A]?=U L->L=.ap:=by
  intro q e A N M L h3;have:=fp.1 cv A (Ry N M);simp only[jd,cF] at this;rcases this with h4|h4;have:=(bZ.1 h3).1;omega;rw[h4] at h3;cases h3;rfl
 refine⟨⟨R1.mem.base, ?_, ?_, ?_, ?_⟩, ?_,l1,l2,l3, ?_, ?_, ?_, ?_⟩;intro i hi;obtain⟨N,M⟩:=al i hi;rw[BS M];exact R1.mem.own i (f.mono i N);intro i j hi hj;obtain⟨N,M⟩:=al i hi;obtain⟨h3,h4⟩:=al j hj;rw[BS M,BS h4];exact R1.mem.inj i j (f.mono i N) (f.mono j h3);intro i X cs h;simp only[qn] at h;rw[M1,iJ] at h;cases H:cg s.au i with
 |none=>rw[H] at h;cases h
 |some Q=>
  obtain⟨t0,kj⟩:=Q;rw[H] at h;simp only[dV,cG,Bh] at h;obtain⟨rfl,rfl⟩:=h;obtain⟨ba,b2,b3⟩:=Yd hB i t0 kj H;rw[iJ] at b3;obtain⟨cx,bf⟩:=ahe b3;have a0:i<Y s.au:=(bZ.1 (jO.1 H)).1;rw[BS a0,R1.mem.box i t0 ba b2];congr 2;apply ke;intro j;rw[C.dJ,C.dJ,dN,dN,ahc,iJ];cases hx:kj[j]? with
  |none=>
   have:ba[j]?=none:=by
    rw[Be] at hx⊢;omega
   simp[this]
  |some Q=>
   obtain⟨y,hy⟩:∃y,ba[j]?=U y:=by
    have:j<Y kj:=(bZ.1 hx).1;exact⟨ba[j],cK ae⟩
   rw[hy];simp only[dV,cG];cases hp:zK i j P.cl ((({s with aA:=s.aA+1,rs:=iZ P s}:S).cz P.ks).1.drop (Y P.tm)) with
   |some v=>
    obtain⟨q,k,hq,hv⟩:=ag9 hp;rw[tF] at hv;simp only[oJ];refine(cn (Y P.tm+q) k v y ?_ ?_ hv).symm;simp[fo.ks,iC,hq];simp[kf,iC,hq,afj,b2,hy]
   |none=>
    have hn:=aha (by rw[Df,br,bs];omega) hp;rcases bf j Q y hx hy with N|N;rw[iJ] at N;rw[hn] at N;cases N;subst N;simp only[aeW];exact(cm Q (uY (sF b8 H) hx)).symm
 have bg:=Gh (PP:=λe G=>bJ W1 ty e G/\∀b,dR ty e G b->∀i,aL s.au i=J->ad n i≠b) P.ks o {s with aA:=s.aA+1,rs:=iZ P s} O af ag ?_ ?_;intro k e G N M;obtain⟨h3,h4⟩:=bg k e G N M;refine⟨h3,λb H i hi=> ?_⟩;obtain⟨h5,h6⟩:=al i hi;rw[BS h6];exact h4 b H i h5
 
 intro q e G N M;rcases bx q e G N M with⟨A,_,g2,F⟩|⟨rfl,X,sh,g⟩;have:=R1.mem.am A e G g2 F;exact⟨this.1,λb H i hi=>this.2 b H i (f.mono i hi)⟩;have hn:∀b,¬dR ty (.sl X) (.mk (.slice Z 0 0) []) b:=λb H=>by
  cases H with
  |deep e v b4 i j ac c z k b g1=>simp at g1
 rcases g with rfl|rfl|rfl;exact⟨BP Z 0,λb H=>(hn b H).elim⟩;refine⟨bJ.own X _ (BP Z 0) (λl c h=>by cases h;rfl),λb H=> ?_⟩;cases H with
 |own e G b H=>exact(hn b H).elim
 exact⟨bJ.mr sh [] (λi ac h=>by simp at h) (λi j ac c k h=>by simp at h) (λi j ac c h=>by simp at h) (λi j ac c z k h=>by simp at h),λb H=>by cases H⟩;intro k e G N M;obtain⟨e1,g1,g2,F⟩:=bt k e G N M;have:=R1.mem.am k e1 G g1 g2;rcases F with rfl|rfl;exact⟨bJ.ap _ (IP this.1),λb H=>by cases H⟩;exact⟨this.1,λb H i hi=>this.2 b H i (f.mono i hi)⟩;simp[qn,Rx];have:=f.len;rw[R1.gv];omega;have N:=R1.cU;rw[b6,f.ext.agree.y,<-Ja o O] at N;simp only[qn];rw[X8];exact N;simp only[qn,ahd];rw[R1.size,(Yc hT).1];intro X sv h;simp only[qn] at h;rw[ahb,iJ] at h;cases hx:s.tmps[X]? with
 |none=>rw[hx] at h;cases h
 |some Q=>
  rw[hx] at h;simp only[dV,cG] at h;obtain⟨cx,bf⟩:=Yc hT;obtain⟨y,hy⟩:∃y,R.tmps[X]?=U y:=by
   have:X<Y s.tmps:=(bZ.1 hx).1;exact⟨R.tmps[X],cK ae⟩
  cases hp:uV X P.tm ((({s with aA:=s.aA+1,rs:=iZ P s}:S).cz P.ks).1) with
  |some v=>
   rw[hp] at h;simp only[oJ] at h;subst h;obtain⟨q,k,hq,hv⟩:=ag7 hp;have hc:=(ch q k v y (ahf hq) (ahg hq hy) hv);rcases R1.tmps X y hy with N|N;subst N;have:=a4 q k .any (ahf hq) (ahg hq hy);rcases k with _|_|(_|_|_|_|_)<;>simp[Bu] at this;right;rw[hc.1];exact N
  |none=>
   rw[hp] at h;simp only[aeW] at h;split at h;exact .inl h.symm;rename_i cy;subst h;have hn:=ag8 (by rw[br,bs];omega) hp;rcases bf X Q y hx hy with N|N|N;rw[iJ] at N;rw[hn] at N;cases N;rw[iJ] at N;exact aY N cy;subst N;rcases R1.tmps X Q hy with M|M;exact .inl M;right;rw[cc Q (uY b7 hx)];exact M
 intro k e G b N M h3;simp only[qn] at N;have bg:∃A:Nat,R.rs[A]?=U (RK.own e)/\x.r[A]?=U G/\∀(B:Nat)(L:RK)(u:RV),B≠k->(qn P t s).rs[B]?=U L->(O.ext o).r[B]?=U u->yb ty L u b->∃aa:Nat,aa≠A/\R.rs[aa]?=U L/\x.r[aa]?=U u:=by
  have other:∀(B:Nat)(L:RK)(u:RV),(qn P t s).rs[B]?=U L->(O.ext o).r[B]?=U u->yb ty L u b->
    ((iZ P s)[B]?=U L/\R.rs[B]?=U L/\x.r[B]?=U u)\/∃q aa:Nat,P.ks[q]?=U (.am L)/\(kf P R)[q]?=U (.am (.v aa))/\R.rs[aa]?=U L/\x.r[aa]?=U u/\B=(iZ P s).length+DJ (P.ks.take q):=by
   intro B L u g1 g2 F;rcases Jb P.ks o {s with aA:=s.aA+1,rs:=iZ P s} O af ag B L u g1 g2 with⟨p1,p2⟩|⟨q,p1,p2,p3⟩;obtain⟨e1,q1,q2,q3⟩:=bt B L u p1 p2;rcases q3 with rfl|rfl;rcases F with F|⟨⟨X,ht⟩,_⟩;cases F;cases ht;exact .inl ⟨p1,q1,q2⟩;rcases bx q L u p1 p2 with⟨A,q1,q2,q3⟩|⟨rfl,X,sh,q⟩;exact .inr ⟨q,A,p1,q1,q2,q3,p3⟩;exfalso;rcases F with F|⟨_,F⟩;rcases q with rfl|rfl|rfl;cases F with
   |deep e v b4 i j ac c z k b g1=>simp at g1
   cases F with
   |own e G b F=>cases F with
    |deep e v b4 i j ac c z k b g1=>simp at g1
   cases F;simp[RV.kF] at F
  rcases other k (.own e) G N M (.inr ⟨⟨e,rfl⟩,h3⟩) with⟨p1,p2,p3⟩|⟨q,A,p1,p2,p3,p4,p5⟩;refine⟨k,p2,p3,λB L u g0 g1 g2 F=> ?_⟩;rcases other B L u g1 g2 F with⟨r1,r2,r3⟩|⟨q',aa,r1,r2,r3,r4,r5⟩;exact⟨B,g0,r2,r3⟩;refine⟨aa,λa3=> ?_,r3,r4⟩;subst a3;rw[p2] at r3;cases r3;have:=b1 q' e aa r1 r2 _ p1;cases this;refine⟨A,p3,p4,λB L u g0 g1 g2 F=> ?_⟩;rcases other B L u g1 g2 F with⟨r1,r2,r3⟩|⟨q',aa,r1,r2,r3,r4,r5⟩;refine⟨B,λa3=> ?_,r2,r3⟩;subst a3;rw[p3] at r2;cases r2;have:=b1 q e B p1 p2 _ r1;cases this;refine⟨aa,λa3=> ?_,r3,r4⟩;subst a3;rw[p3] at r3;cases r3;by_cases b5:q=q';subst b5;exact g0 (by rw[r5,p5]);exact ahi ct p1 p2 r1 r2 b5 rfl
 obtain⟨A,g1,g2,F⟩:=bg;have X:=R1.fZ A e G b g1 g2 h3;refine⟨X.own,X.mem,λi hi=> ?_,λB L u q1 q2 q3 q4=> ?_,X.inner⟩;obtain⟨h5,h6⟩:=al i hi;rw[BS h6];exact X.box i (f.mono i h5);obtain⟨aa,r1,r2,r3⟩:=F B L u q1 q2 q3 q4;exact X.alone aa L u r1 r2 r3 q4
end
structure jr(p:Sp)(f:bF):Prop where
 pt:p.ty=f.ty
 Ye:p.P.follows .mixedOrders=J
 kZ:i7 p.P f.ty
 xR:I9 p.P f
 yp:∀g,(f.sig g).isSome=J\/(f.inl g).isSome=J->∀args W,(callFunc g args).run p.P W=.ok (.enter g args) W
 RA:∀ch W b o,p.w0.heap.size<=b->p.R (.panicked ch) W->p.R (.panicked ch) (W.putObj b o)
 inl:∀g c nt rs,f.inl g=U (c,nt,rs)->∃fn,p.P.funcs[g]?=U fn/\fn.body=U c/\fn.ntmps=nt/\fn.results.toList=rs
section
variable{p:Sp}{f:bF}
def aC.ahj{m:World}{D:b9}{V:aw}{a:Act}{W:World}(Q:aC t m D f.ty V x R a W){P:BE}(M:R.tmps.getD X .any=.bool P)(H:P.ah x=b):
  aC t m D f.ty V x {R with tmps:=R.tmps.set X (.bool (.c b))} a W:=by
 refine⟨Q.mem,Q.gv,Q.ei,Q.eb,Q.er,Q.cU,by simpa using Q.size,λi G h=> ?_,Q.fZ⟩;simp only[uL] at h;split at h;rename_i F;subst F;split at h;rename_i L;cases h;have B:R.tmps[X]?=U (.bool P):=by
  rw[dB,cK L] at M;rw[cK L];simpa using M
 rcases Q.tmps X _ B with N|N;cases N;right;rw[N];simp[C.ah,BE.ah,H];cases h;exact Q.tmps i G h
end
mutual
def K.ep{R Q P N M H:Nat}(X:R<=N)(W:Q<=M)(V:P<=H):∀(e:K),e.bd R Q P=J->e.bd N M H=J
 |.c n,_=>K.aZ.1 _
 |.v k,h=>by simp[K.aZ] at h⊢;omega
 |.bin o k a b,h=>by simp[K.aZ] at h⊢;exact⟨K.ep X W V a h.1,K.ep X W V b h.2⟩
 |.conv k a,h=>by simp[K.aZ] at h⊢;exact K.ep X W V a h
 |.len r,h=>by simp[K.aZ] at h⊢;exact RE.ep X W V r h
 |.mm m a b,h=>by simp[K.aZ] at h⊢;exact⟨K.ep X W V a h.1,K.ep X W V b h.2⟩
 |.dg b x y,h=>by simp[K.aZ] at h⊢;exact⟨⟨BE.ep X W V b h.1.1,K.ep X W V x h.1.2⟩,K.ep X W V y h.2⟩
 |.cell r i j,h=>by simp[K.aZ] at h⊢;exact⟨RE.ep X W V r h.1,K.ep X W V i h.2⟩
 |.mV r i,h=>by simp[K.aZ] at h⊢;exact⟨RE.ep X W V r h.1,K.ep X W V i h.2⟩
 |.look r n a b c j,h=>by simp[K.aZ] at h⊢;exact⟨⟨⟨RE.ep X W V r h.1.1.1,K.ep X W V a h.1.1.2⟩,K.ep X W V b h.1.2⟩,K.ep X W V c h.2⟩
def BE.ep{R Q P N M H:Nat}(X:R<=N)(W:Q<=M)(V:P<=H):∀(e:BE),e.bd R Q P=J->e.bd N M H=J
 |.c n,_=>BE.aZ.1 _
 |.v k,h=>by simp[BE.aZ] at h⊢;omega
 |.cmp o a b,h=>by simp[BE.aZ] at h⊢;exact⟨K.ep X W V a h.1,K.ep X W V b h.2⟩
 |.not a,h=>by simp[BE.aZ] at h⊢;exact BE.ep X W V a h
 |.and a b,h=>by simp[BE.aZ] at h⊢;exact⟨BE.ep X W V a h.1,BE.ep X W V b h.2⟩
 |.beq a b,h=>by simp[BE.aZ] at h⊢;exact⟨BE.ep X W V a h.1,BE.ep X W V b h.2⟩
 |.dg b x y,h=>by simp[BE.aZ] at h⊢;exact⟨⟨BE.ep X W V b h.1.1,BE.ep X W V x h.1.2⟩,BE.ep X W V y h.2⟩
 |.cell r i j,h=>by simp[BE.aZ] at h⊢;exact⟨RE.ep X W V r h.1,K.ep X W V i h.2⟩
 |.seq a b,h=>by simp[BE.aZ] at h⊢;exact⟨RE.ep X W V a h.1,RE.ep X W V b h.2⟩
 |.look r n a b c j,h=>by simp[BE.aZ] at h⊢;exact⟨⟨⟨RE.ep X W V r h.1.1.1,K.ep X W V a h.1.1.2⟩,K.ep X W V b h.1.2⟩,K.ep X W V c h.2⟩
 |.has r n a b c,h=>by simp[BE.aZ] at h⊢;exact⟨⟨⟨RE.ep X W V r h.1.1.1,K.ep X W V a h.1.1.2⟩,K.ep X W V b h.1.2⟩,K.ep X W V c h.2⟩
def RE.ep{X W V R Q P:Nat}(N:X<=R)(M:W<=Q)(H:V<=P):∀(e:RE),e.bd X W V=J->e.bd R Q P=J
 |.v k,h=>by simp[RE.aZ] at h⊢;omega
 |.cell r i j k,h=>by simp[RE.aZ] at h⊢;exact⟨RE.ep N M H r h.1,K.ep N M H i h.2⟩
 |.k v,_=>RE.aZ.2.2 _
end
def RC{ty:Ty}{s Q:S}:∀{r:RE}{e:RK},(∀(k:Nat)(e:RK),r.root=U k->s.rs[k]?=U e->∃X,Q.rs[k]?=U X/\X.rd=e.rd)->e≠ .ai->r.kind ty s=e->r.kind ty Q=e
 |.v k,e,W,V,h=>by
  simp only[RE.kind,dB] at h⊢;cases R:s.rs[k]? with
  |none=>rw[R] at h;exact aY (show e=.ai from h.symm) V
  |some q=>
   rw[R] at h;obtain⟨X,P,N⟩:=W k q rfl R;rw[P];simp only[oJ] at h⊢;rw[N];exact h
 |.cell r i j H,e,W,V,h=>by
  simp only[RE.kind] at h⊢;split at h;rename_i X M;rw[RC (r:=r) W ay M];exact h;exact aY h.symm V
 |.k v,e,W,V,h=>by cases v<;>exact h
def BT{ty:Ty}{s s':S}(h:s.rs=s'.rs):∀r:RE,r.kind ty s=r.kind ty s'
 |.v k=>by simp only[RE.kind,h]
 |.cell r i j k=>by simp only[RE.kind,BT h r]
 |.k v=>by cases v<;>rfl
def Aa(ty:Ty)(s X:S):Prop:=∀(r:RE)(e:RK),e≠ .ai->r.kind ty s=e->r.kind ty X=e
def Aa.yq{ty:Ty}{X:S}(h:X.rs=R.rs):Aa ty R X:=λr e _ W=>by rw[BT h];exact W
def asp{ty:Ty}{X:S}(W:Aa ty R X){c:CT}{y:C}{e:BE}(h:Ie ty R c r y=U e):Ie ty X c r y=U e:=by
 unfold Ie at h⊢;split at h;exact h;exact h;split at h;rename_i V;rw[aI ⟨W _ _ ay V.1,W _ _ ay V.2⟩];exact h;cases h;cases h
def ahk{ty:Ty}{s W:S}(V:Aa ty s W):∀{X:eQ}{x y:av}{e:BE},rf ty s X x y=U e->rf ty W X x y=U e
 |[],[],[],e,h=>h
 |c::X,x::P,y::N,e,h=>by
  simp only[rf] at h⊢;split at h;rename_i a b R Q;rw[asp V R,ahk V Q];exact h;cases h
 |[],[],_::_,e,h=>by simp[rf] at h
 |[],_::_,_,e,h=>by simp[rf] at h
 |_::_,[],_,e,h=>by simp[rf] at h
 |_::_,_::_,[],e,h=>by simp[rf] at h
def ahl{ty:Ty}{W:S}(Q:Aa ty R W){V:Dl}{y:av}{X:BE}(h:If ty R V e y=U X):If ty W V e y=U X:=by
 unfold If at h⊢;split at h;exact ahk Q h;cases h
section
variable{ty:Ty}{F:mD}{O:ak}
def RD{P:S}{G:Op}{r:PR}(W:∀x∈G.operands.toList,P.ev F x=R.ev F x)(N:looks G=J->zM G=E->Aa ty R P)
  (ab:∀t x r w i z,G=.load t x->R.ev F x=.el r w i z->∀e,e≠ .ai->r.kind ty R=e->r.kind ty P=e)
  (o:∀i,zC F R G=U i->cg P.au i=cg R.au i)(h:ck ty F R G=r)(V:∀w,r≠ .no w):ck ty F P G=r:=by
 cases G with
 |move x=>have X:=W x cL;simp only[ck] at h⊢;rw[X];exact h
 |assign x=>have X:=W x cL;simp only[ck] at h⊢;rw[X];exact h
 |pick c x y=>
  have X:=W c cL;have M:=W x cL;have l:=W y cL;simp only[ck] at h⊢;rw[X,M,l];exact h
 |load t x=>
  have X:=W x cL;simp only[ck] at h⊢;rw[X];split at h;rename_i ti i z D H;rw[MA (o i (by simp only[zC,H]))];exact h;rename_i ti r w i z D H;split at h;rename_i e Q;rw[ab t x r w i z rfl H _ ay Q];exact h;exact aY h.symm (V _);rename_i ti e ks j D H;have B:((xQ j).bind λi=>lB P.au i)=(xQ j).bind λi=>lB R.au i:=by
   cases hl:xQ j with
   |none=>rfl
   |some i=>exact MA (o i (by simp only[zC,H];exact hl))
  rw[B];exact h;exact aY h.symm (V _)
 |fieldAddr t x f=>have X:=W x cL;simp only[ck] at h⊢;rw[X];exact h
 |field t x f=>have X:=W x cL;simp only[ck] at h⊢;rw[X];exact h
 |indexAddr t x y=>
  have X:=W x cL;have M:=W y cL;simp only[ck] at h⊢;rw[X,M];split at h;exact h;exact h;exact h;split at h;rename_i D Q;rw[(N rfl rfl) _ _ ay Q,D];exact h;exact aY h.symm (V _);exact h;exact h;exact aY h.symm (V _)
 |index t x y=>
  have X:=W x cL;have M:=W y cL;simp only[ck] at h⊢;rw[X,M];split at h;exact h;exact h;split at h;rename_i Q;rw[(N rfl rfl) _ _ ay Q];exact h;exact aY h.symm (V _);exact aY h.symm (V _)
 |binOp G t x y t2=>
  have X:=W x cL;have M:=W y cL;simp only[ck] at h⊢;rw[X,M];split at h;exact h;exact h;exact h;split at h;rename_i v A;simp only[(N rfl rfl) _ _ ay v,(N rfl rfl) _ _ ay A];exact h;rename_i v A;simp only[(N rfl rfl) _ _ ay v,(N rfl rfl) _ _ ay A];exact h;exact aY h.symm (V _);exact h;exact h;split at h;rename_i e Q;rw[ahl (N rfl rfl) Q];exact h;rename_i e Q;rw[ahl (N rfl rfl) Q];exact h;exact aY h.symm (V _);exact aY h.symm (V _)
 |unOp G t x=>have X:=W x cL;simp only[ck] at h⊢;rw[X];exact h
 |convert t1 t2 x=>have X:=W x cL;simp only[ck] at h⊢;rw[X];exact h
 |makeInterface t x=>have X:=W x cL;simp only[ck] at h⊢;rw[X];exact h
 |makeFunc fn first aa=>
  have X:aa.toList.map (P.ev F)=aa.toList.map (R.ev F):=kb λx H=>W x (by simp[io];exact .inr (by simpa using H))
  simp only[ck] at h⊢;rw[X];exact h
 |extract x i=>have X:=W x cL;simp only[ck] at h⊢;rw[X];exact h
 |nilCheck x=>have X:=W x cL;simp only[ck] at h⊢;rw[X];exact h
 |slice t x g hi mx=>
  have X:=W x cL;have M:g.map (P.ev F)=g.map (R.ev F):=by
   cases g with
   |none=>rfl
   |some y=>simp only[dV];rw[W y cL]
  have l:hi.map (P.ev F)=hi.map (R.ev F):=by
   cases hi with
   |none=>rfl
   |some y=>simp only[dV];rw[W y cL]
  simp only[ck] at h⊢;rw[X,M,l];exact h
 |build t parts=>
  have X:(parts.toList.map λp=>(p.1,P.ev F p.2))=parts.toList.map λp=>(p.1,R.ev F p.2):=kb λp hp=>by rw[W p.2 (by simp[io];exact⟨p.1,by simpa using hp⟩)]
  simp only[ck] at h⊢;rw[X];exact h
 |lookup t x ix ok=>
  have X:=W x cL;have M:=W ix cL;simp only[ck] at h⊢;rw[X,M];split at h;rename_i k e n ag ao q i D H;have A:=o i (by simp only[zC,H]);unfold Qm at h⊢;rw[A];split at h;rename_i te a b c bt cs g1 g2 g3;split at h;exact aY h.symm (V _);rename_i ac;rw[aK ac];split at h;rename_i hd;rw[aI hd];split at h;rename_i r nk ka va;split at h;rename_i u;have:r.qh ty P ⟨k,e,n,ag,te.d.isAgg⟩=true:=by
   simp only[az] at u;have h6:=u.1.1.1.1.1;unfold RE.qh at h6⊢;rcases aqp.1 h6 with h7|h7;rw[decide_eq_true ((N rfl rfl) r _ ay (tH h7))];rfl;rw[h7];simp
  simp only[az] at u;simp only[this,u,wj,cS];exact h;exact aY h.symm (V _);exact aY h.symm (V _);rename_i hd;rw[aK hd];exact h;exact aY h.symm (V _);exact aY h.symm (V _)
 |call c=>
  have X:c.args.toList.map (P.ev F)=c.args.toList.map (R.ev F):=kb λx H=>W x (by simp[io,zw];exact .inr (by simpa using H))
  cases B:c.callee with
  |builtin b=>
   cases b with
   |len=>
    simp only[ck,B] at h⊢;rw[X];split at h;exact h;rename_i t r af v A;split at h;rename_i D Q;simp only[(N rfl rfl) _ _ ay Q,D];exact h;rename_i D Q;simp only[(N rfl rfl) _ _ ay Q,D];exact h;exact aY h.symm (V _);exact h;exact aY h.symm (V _)
   |min=>simp only[ck,B] at h⊢;rw[X];exact h
   |max=>simp only[ck,B] at h⊢;rw[X];exact h
   |_=>simp only[ck,B] at h;exact aY h.symm (V _)
  |value f=>simp only[ck,B] at h;exact aY h.symm (V _)
  |invoke r m=>simp only[ck,B] at h;exact aY h.symm (V _)
 |_=>simp only[ck] at h;exact aY h.symm (V _)
end
def PR.yr(s:S)(O:ak)(v:C):PR->Prop
 |.ok x=>v=x
 |.bz b x=>b.ah O=J/\b.bd s.ni s.nb (Y s.rs)=J/\v=x
 |_=>False
def RF{X:PR}(h:X.yr R x r):X.gives x r:=by
 cases X with
 |ok W=>exact h
 |bz b W=>exact⟨h.1,h.2.2⟩
 |no w=>exact h
def gP(B:dI)(m:OM)(s:S)(O:ak):Option Bool:=match m.o.guard with
 |none=>U J
 |U (j,X)=>match(B[j]?).bind (·.dst) with
  |U d=>match s.tmps[d]? with
   |U (.bool b)=>if b.bd s.ni s.nb (Y s.rs) then U (b.ah O==X) else Z
   |U (.bP [])=>U E
   |_=>Z
  |none=>Z
def QV(u:bF)(B:dI)(O:ak)(m:OM)(s:S)(v:C)(l:Nat):Prop:=
 (gP B m s O=U E/\v=.bP []/\l=0)\/
 (gP B m s O=U J/\(∀x∈m.o.op.operands.toList,(s.ev u.gl x).eJ=E)/\match m.o.op with
  |.pick c x y=>∃e:BE,s.ev u.gl c=.bool e/\e.bd s.ni s.nb (Y s.rs)=J/\v=(if e.ah O then s.ev u.gl x else s.ev u.gl y)/\l=0
  |.load t x=>(ck u.ty u.gl s (.load t x)).yr s O v/\l=Mb m.bR (s.ev u.gl x)
  |op=>(ck u.ty u.gl s op).yr s O v/\l=0)
def OR.Gi(s:S)(O:ak)(X:S):OR->Prop
 |.ok x=>X=x
 |.bz b x=>b.ah O=J/\b.bd s.ni s.nb (Y s.rs)=J/\X=x
 |.split b W V=>b.bd s.ni s.nb (Y s.rs)=J/\X=if b.ah O then W else V
 |.no _=>False
def iG(u:bF)(m:OM)(s:S)(O:ak)(X:S):Prop:=(gt u m s).Gi s O X
def Jd{u:bF}{m:OM}{s X:S}{O:ak}(h:iG u m s O X):(gt u m s).gives O X:=by
 unfold iG at h;cases W:gt u m s<;>rw[W] at h;exact h;exact⟨h.1,h.2.2⟩;exact h.2;exact h
def ahm{Q:S}{d:cw}{r:PR}:(sj R d X r).Gi R x Q<->∃v,r.yr R x v/\Q=R.dw d v X:=by
 cases r with
 |ok v=>exact⟨λh=>⟨v,rfl,h⟩,λ⟨w,W,V⟩=>by cases W;exact V⟩
 |bz b v=>
  simp only[sj];split;rename_i P;exact⟨λh=>⟨v,⟨h.1,h.2.1,rfl⟩,h.2.2⟩,λ⟨w,⟨W,V,N⟩,M⟩=>⟨W,V,by rw[M,N]⟩⟩;rename_i P;exact⟨λh=>h.elim,λ⟨w,⟨W,V,N⟩,M⟩=>aY V P⟩
 |no w=>exact⟨λh=>h.elim,λ⟨w,W,V⟩=>W.elim⟩
def Je(p:Sp)(u:bF)(s:S)(O:ak)(g:FuncId)(N:av)(X:ak->C->S->Prop):Prop:=
 ∃G Q l,u.sig g=U G/\ip u.ty G=U Q/\zF u.ty G ((s.cut N Q).cz Q).1=U l/\(s.eV N&&pF Q)=J/\
  ∀V W,jE p.S0 p.w0 V O (uT (rg (C.oN N) 0 s.au)) p.ty (Mj N s.rs) W->Calls p.P g (C.aF O V N).toArray W λ
   |.returned v,M=>∃H,ez Q H/\v=(one l).ah (O.ext H) V/\Below W.heap.size W M/\IJ p.ty M W.heap.size (O.pH p.ty (Mj N s.rs)) Q H/\X (O.ext H) (one l) ((s.cut N Q).cz Q).2
   |.panicked F,M=>Below W.heap.size W M/\p.R (.panicked F) M
   |.outgrown,_=>False
def sJ(o:Option BI)(f:BI->Prop)(g:Prop):Prop:=match o with
 |U b=>f b
 |none=>g
def pL(o:Option (C×bE))(f:C->bE->Prop)(g:Prop):Prop:=match o with
 |U (v,X)=>f v X
 |none=>g
def eA(p:Sp)(u:bF)(B:dI)(A:wB)(X:ak->S->Prop)(W:ak->C->S->Prop)(V:OM->cN->ak->S->Nat->av->Prop):cN->ak->S->Prop
 |[],O,s=>X O s
 |m::R,O,s=>
  (gP B m s O=U E/\eA p u B A X W V R O (s.put m.o.dst (.bP [])))\/
  (gP B m s O=U J/\match ec u s m.o with
   |.call (.fn g) Q=>pL (A g Q s) (λv M=>s.bd=J/\eA p u B A X W V R O ((s.plus M).put m.o.dst v)) (Je p u s O g Q λH v P=>eA p u B A X W V R H (P.put m.o.dst v))
   |.call (.yl n) Q=>m.so=J/\V m R O s n Q
   |.bI v=>W O v s
   |.no=>False
   |.op=>sJ (eH u m.o m.bR m.dr s) (λb=>b.bz.ah O=J/\∀N,F6 p.ty p.S0 p.w0 b.e b.x s.rs O N->eA p u B A X W V R (O.add (.r N)) b.s) (∃P,iG u m s O P/\eA p u B A X W V R O P))
def BU(s:S)(O:ak)(X:Fx):Prop:=∀x∈X,x.1.ah O=x.2/\x.1.bd s.ni s.nb (Y s.rs)=J
def Yf{p:Sp}{L:dm}{V:Fx}{b:BE}{t f:Fx->T}(P:BU R x V)(h:(Br R V b t f).aP p x L):
  b.bd R.ni R.nb (Y R.rs)=J/\∃M,BU R x M/\(if b.ah x then(t M).aP p x L else(f M).aP p x L):=by
 have G:tV x V:=λX N=>(P X N).1
 have F:∀v,Mc V b=U v->b.bd R.ni R.nb (Y R.rs)=true:=by
  intro v W;unfold Mc at W;split at W;exact BE.aZ.1 _;cases H:V.find? (λX=>X.1.aM b) with
  |none=>rw[H] at W;cases W
  |some X=>
   have A:=Qc H;rw[<-BE.bU _ _ A];exact(P X (P1 H)).2
 unfold Br at h;split at h;rename_i W;exact⟨F _ W,V,P,by rw[Re G W];exact h⟩;rename_i W;exact⟨F _ W,V,P,by rw[Re G W];exact h⟩;split at h;rename_i D;simp only[T.aP] at h;refine⟨D, ?_⟩;have B:∀v,b.ah x=v->BU R x ((b,v)::V):=λv Q X N=>by
  rcases dP.1 N with rfl|N;exact⟨Q,D⟩;exact P X N
 cases Q:b.ah x;exact⟨_,B _ Q,by simpa using h.2 Q⟩;exact⟨_,B _ Q,by simpa using h.1 Q⟩;exact h.elim
section
variable{p:Sp}{u:bF}{B:dI}{A:wB}{L:dm}{G:YH}{k:S->T}{D:C->S->T}
def fK(s:S)(d:cw)(v:C):(s.put d v).ni=s.ni/\(s.put d v).nb=s.nb/\(s.put d v).rs=s.rs:=by cases d<;>exact⟨rfl,rfl,rfl⟩
def ahn{m:OM}{s X:S}{O:ak}(h:(gt u m s).gives O X):X.ni=s.ni/\X.nb=s.nb/\X.rs=s.rs:=by
 unfold gt at h;split at h;exact h.elim;split at h;split at h;split at h;cases h;exact fK _ _ _;exact h.elim;exact h.elim;split at h;split at h;cases h;exact fK _ _ _;exact h.elim;exact h.elim;split at h;split at h;split at h;split at h;cases h;exact fK _ _ _;exact h.elim;exact h.elim;exact h.elim;exact h.elim;split at h;split at h;split at h;cases h;exact fK _ _ _;exact h.elim;exact h.elim;exact h.elim;split at h;simp only[OR.gives] at h;split at h<;>(subst h;exact fK _ _ _);exact h.elim;obtain⟨v,-,rfl⟩:=zW h;exact fK _ _ _;obtain⟨v,-,rfl⟩:=zW h;exact fK _ _ _
def M2{d:cw}{bz:BE}{k:RK}{x:LE}{cY:aw}{b:BI}(h:jY R d bz v k x t cY=U b):b.s.ni=R.ni/\b.s.nb=R.nb/\Y b.s.rs=Y R.rs+1:=by
 obtain⟨-,-,rfl⟩:=yj h;refine⟨(fK _ _ _).1,(fK _ _ _).2.1, ?_⟩;simp only;rw[(fK _ _ _).2.2];simp[zU,zT]
def aho{V:Bool}{X:BI}(h:eH u l b V R=U X):X.s.ni=R.ni/\X.s.nb=R.nb/\Y X.s.rs=Y R.rs+1:=by
 unfold eH at h;split at h;split at h;split at h;split at h;split at h;split at h;cases h;split at h;exact M2 h;cases h;cases h;cases h;cases h;cases h;split at h;split at h;split at h;exact M2 h;cases h;cases h;cases h;split at h;cases h;split at h;split at h;split at h;split at h;exact M2 h;cases h;cases h;cases h;cases h;split at h;cases h
 ·split at h
  all_goals first
   |cases h
   |(split at h
     split at h;exact M2 h;cases h;cases h)
 split at h;cases h;split at h;split at h;split at h;split at h;cases W:jY R Z (uS _ (.len (.v _))) _ (.own _) _ [_] _ with
 |none=>rw[W] at h;cases h
 |some M=>
  rw[W] at h;simp only[dV,cG] at h;subst h;obtain⟨Q,P,N⟩:=M2 W;refine⟨?_, ?_, ?_⟩;simp only;rw[(fK _ _ _).1];exact Q;simp only;rw[(fK _ _ _).2.1];exact P;simp only;rw[(fK _ _ _).2.2];exact N
 cases h;cases h;cases h;cases h;cases h
def ahp{W:S}{d:cw}{r:PR}{b:BE}(h:sj R d X r=.bz b W):b.bd R.ni R.nb (Y R.rs)=true:=by
 cases r with
 |ok v=>cases h
 |bz Q v=>
  simp only[sj] at h;split at h;rename_i V;cases h;exact V;cases h
 |no w=>cases h
def asq{m:OM}{s X:S}{b:BE}(h:gt u m s=.bz b X):b.bd s.ni s.nb (Y s.rs)=true:=by
 unfold gt at h;split at h;cases h;split at h
 ·(repeat' split at h)<;>cases h
 ·(repeat' split at h)<;>cases h
 ·(repeat' split at h)<;>cases h
 ·(repeat' split at h)<;>cases h
 ·(repeat' split at h)<;>cases h
 exact ahp h;exact ahp h
structure DL(B:dI)(A:wB):Prop where
 q:∀(g:FuncId)(args:av)(s:S)(d:cw)(v:C)(l:Nat),A g args (s.dw d v l)=A g args s
 z:∀(g:FuncId)(s:S)(n:Nat)(t:TypeId)(cs:av)(d:cw)(w:C),gf s.au n=J->A g [] ((s.cZ n t cs).put d w)=A g [] s
 Yg:∀(g:FuncId)(args:av)(s:S)(r:C×bE),A g args s=U r->QC B=J
def ahq{W:bE}(h:aL R.au X=J):cg (R.plus W).au X=cg R.au X:=by
 obtain⟨b,V⟩:=kD.1 h;have Q:=(bZ.1 (jO.1 V)).1;simp only[cH,S.plus,dU Q]
def ahr{W:bE}(h:gf R.au X=J):gf (R.plus W).au X=true:=by
 have V:=(mJ h).2;simp only[gf,S.plus,dU V] at h⊢;exact h
def Yh{g:FF}(h:ec u R l=.call g e):xY l.op=true:=by
 unfold ec at h;split at h;split at h<;>cases h
 ·rename_i c W;rw[W];cases X:c.callee with
  |value f=>simp[xY,X]
  |invoke r m=>rw[X] at h;cases h
  |builtin b=>
   rw[X] at h;exfalso;revert h;cases b<;>simp only
   all_goals first
    |(intro h;cases h;done)
    |(split<;>intro h<;>first|(cases h;done)|(split at h<;>cases h))
 cases h
def ahs{g:FuncId}(X:Iq l.op=J)(h:ec u R l=.call (.fn g) e):e=[]:=by
 unfold Iq at X;split at X;rename_i c W;split at X;rename_i f V;have Q:c.args.toList=[]:=by simpa using X
 simp only[ec,W,V,S.ev,wq,Q,List.any_nil,iW,ga,Bi,gr,CK.call.injEq,FF.fn.injEq] at h;exact h.2.symm;cases X;cases X
def DM(p:Sp)(k:S->T)(L:dm)(O:ak)(s:S):Prop:=(k s).aP p O L
def BV(p:Sp)(D:C->S->T)(L:dm)(O:ak)(v:C)(s:S):Prop:=(D v s).aP p O L
def BW(p:Sp)(u:bF)(B:dI)(A:wB)(G:YH)(k:S->T)(D:C->S->T)(L:dm)(m:OM)(X:cN)(O:ak)(s:S)(n:Nat)(V:av):Prop:=
 (∀R∈X,R.dr=J)/\∃W,BU s O W/\(xZ u A G (.yl n) V s (λv Q=>nH u (xZ u A G) B k D X (Q.put m.o.dst v) (oQ s W)) D).aP p O L
def Gj(a0:p.ty=u.ty):∀(l:cN)(s:S)(fx:Fx)(O:ak),Y O.i=s.ni->Y O.b=s.nb->Y O.r=Y s.rs->(nH u (xZ u A G) B k D l s fx).aP p O L->BU s O fx->
  (∀m∈l,m.dr=J)->eA p u B A (DM p k L) (BV p D L) (BW p u B A G k D L) l O s
 |[],s,fx,O,_,_,_,h,_,_=>h
 |m::Q,s,fx,O,e1,e2,e3,h,a3,br=>by
  have a9:m.dr=true:=br m ay;have al:∀m∈Q,m.dr=true:=λm' bx=>br m' (by simp[bx])
  have b0:zH u m s=none:=by simp[zH,a9]
  have b1:Bs u m s=none:=by simp[Bs,a9]
  have b2:∀c f,zG u m s c f=none:=λc f=>by simp[zG,a9]
  have ba:∀(s:S)(d:cw)(v:C),(s.put d v).ni=s.ni/\(s.put d v).nb=s.nb/\(s.put d v).rs=s.rs:=λs d v=>by cases d<;>exact⟨rfl,rfl,rfl⟩
  have bs:∀(X:S)(P:Fx),X.ni=s.ni->X.nb=s.nb->X.rs=s.rs->BU s O P->BU X O P:=λX P h1 M h3 hf x hx=>by rw[h1,M,h3];exact hf x hx
  have bb:∀P,BU s O P->(zJ u (xZ u A G) m s (nH u (xZ u A G) B k D Q) D P).aP p O L->
    (match ec u s m.o with
     |.call (.fn g) t=>pL (A g t s) (λv ex=>s.bd=J/\eA p u B A (DM p k L) (BV p D L) (BW p u B A G k D L) Q O ((s.plus ex).put m.o.dst v)) (Je p u s O g t λO' v X=>eA p u B A (DM p k L) (BV p D L) (BW p u B A G k D L) Q O' (X.put m.o.dst v))
     |.call (.yl n) t=>m.so=J/\BW p u B A G k D L m Q O s n t
     |.bI v=>BV p D L O v s
     |.no=>False
     |.op=>sJ (eH u m.o m.bR m.dr s) (λb=>b.bz.ah O=J/\∀rv,F6 p.ty p.S0 p.w0 b.e b.x s.rs O rv->eA p u B A (DM p k L) (BV p D L) (BW p u B A G k D L) Q (O.add (.r rv)) b.s)
      (∃X,iG u m s O X/\eA p u B A (DM p k L) (BV p D L) (BW p u B A G k D L) Q O X):Prop):=by
   intro P af h;unfold zJ at h;rw[b0] at h;simp only[b1,b2] at h;cases hc:ec u s m.o with
   |call g0 t=>
    rw[hc] at h;cases g0 with
    |yl n=>
     simp only at h⊢;split at h;rename_i b3;exact⟨b3,al,P,af,h⟩;exact h.elim
    |fn g=>
    simp only[xZ] at h;simp only;cases bt:A g t s with
    |some ve=>
     obtain⟨v,ex⟩:=ve;rw[bt] at h;simp only at h;split at h;rename_i H;refine⟨H, ?_⟩;obtain⟨F,z,w⟩:=ba (s.plus ex) m.o.dst v;refine Gj a0 Q _ _ O (by rw[F];exact e1) (by rw[z];exact e2) (by rw[w];exact e3) h (λx hx=> ?_) al;rw[F,z,w];exact af x (pB.1 hx).1;exact h.elim
    |none=>
    rw[bt] at h;simp only[xW] at h;simp only[pL];split at h;rename_i ts b4;split at h;rename_i ks b5;split at h;rename_i l hl;split at h;rename_i H;refine⟨ts,ks,l,b4,b5,hl,H,λV W R=> ?_⟩;simp only[T.aP] at h;refine(h O.y V W R).mono ?_;intro e W' he;cases e with
    |returned v=>
     obtain⟨xs,h1,M,h3,h4,h5⟩:=he;have hy:(O.ext xs).at O.y=O.ext xs:=by have:=Ja xs O;unfold ak.at;rw[<-this]
     rw[hy] at M;refine⟨xs,h1,M,h3,h4, ?_⟩;obtain⟨l1,l2,l3⟩:=yo ks xs (s.cut t ks) O h1 e1 e2 (e3.trans (DK t ks s.rs).len.symm);have an:=ba ((s.cut t ks).cz ks).2 m.o.dst (one l);refine Gj a0 Q _ _ _ (by rw[an.1];exact l1) (by rw[an.2.1];exact l2) (by rw[an.2.2];exact l3) h5 ?_ al;intro x hx;obtain⟨bf,b6⟩:=pB.1 hx;obtain⟨j,N⟩:=af x bf;have b7:=Dz xs O;have bg:=Q0 xs O;refine⟨by rw[BE.dW b7 _ (by rw[e1,e2,e3];exact N)];exact j, ?_⟩;rw[an.1,an.2.1,an.2.2,<-l1,<-l2,<-l3];exact BE.ep (by rw[<-e1];exact bg.1) (by rw[<-e2];exact bg.2.1) (by rw[<-e3];exact bg.2.2) _ N
    |panicked ch=>exact he
    |outgrown=>exact he
    exact h.elim;exact h.elim;exact h.elim;exact h.elim
   |bI v=>rw[hc] at h;exact h
   |no=>rw[hc] at h;exact h
   |op=>
    rw[hc] at h;simp only at h⊢;cases bk:eH u m.o m.bR m.dr s with
    |some b=>
     rw[bk] at h;obtain⟨hn,h⟩:=h;refine⟨hn,λrv b8=> ?_⟩;obtain⟨F,z,w⟩:=aho bk;have ca:(O.add (.r rv)).r.length=Y b.s.rs:=by simp[ak.add,w,e3]
     refine Gj a0 Q b.s _ _ (by rw[F];exact e1) (by rw[z];exact e2) ca (h rv b8) ?_ al;intro x hx;obtain⟨bf,b6⟩:=pB.1 hx;obtain⟨j,N⟩:=af x bf;refine⟨by rw[BE.dW (QO O (.r rv)) _ (by rw[e1,e2,e3];exact N)];exact j, ?_⟩;exact BE.ep ae ae ae _ N
    |none=>
    rw[bk] at h;simp only[sJ] at h⊢;have a4:∀X a1,BU s O a1->iG u m s O X->(nH u (xZ u A G) B k D Q X a1).aP p O L->∃X,iG u m s O X/\eA p u B A (DM p k L) (BV p D L) (BW p u B A G k D L) Q O X:=by
     intro X a1 hf hG hs;obtain⟨F,z,w⟩:=ahn (Jd hG);exact⟨X,hG,Gj a0 Q X a1 O (by rw[F];exact e1) (by rw[z];exact e2) (by rw[w];exact e3) hs (bs X a1 F z w hf) al⟩
    split at h;rename_i X ag;exact a4 X P af (by unfold iG;rw[ag];rfl) h;rename_i b X ag;refine a4 X P af ?_ h.2;unfold iG;rw[ag];exact⟨h.1,asq ag,rfl⟩;rename_i b s1 s2 ag;obtain⟨N,aa,ab,M⟩:=Yf af h;cases hv:b.ah O;exact a4 s2 aa ab (by unfold iG;rw[ag];simp[OR.Gi,hv,N]) (by simpa[hv] using M);exact a4 s1 aa ab (by unfold iG;rw[ag];simp[OR.Gi,hv,N]) (by simpa[hv] using M);exact h.elim
  have bl:∀P,BU s O P->(nH u (xZ u A G) B k D Q (s.put m.o.dst (.bP [])) P).aP p O L->eA p u B A (DM p k L) (BV p D L) (BW p u B A G k D L) Q O (s.put m.o.dst (.bP [])):=by
   intro P hf h;obtain⟨F,z,w⟩:=ba s m.o.dst (.bP []);exact Gj a0 Q _ P O (by rw[F];exact e1) (by rw[z];exact e2) (by rw[w];exact e3) h (bs _ P F z w hf) al
  simp only[nH,Qy] at h;cases ac:m.o.guard with
  |none=>
   rw[ac] at h;exact .inr ⟨by simp[gP,ac],bb fx a3 h⟩
  |some q=>
   obtain⟨jj,cc⟩:=q;rw[ac] at h;simp only at h;split at h;rename_i d j;split at h;rename_i b H;cases cc;simp only[iW,ga] at h;obtain⟨N,aa,ab,M⟩:=Yf a3 h;cases a:b.ah O;exact .inr ⟨by simp[gP,ac,j,H,N,a],bb aa ab (by simpa[a] using M)⟩;exact .inl ⟨by simp[gP,ac,j,H,N,a],bl aa ab (by simpa[a] using M)⟩;simp only[cS] at h;obtain⟨N,aa,ab,M⟩:=Yf a3 h;cases a:b.ah O;exact .inl ⟨by simp[gP,ac,j,H,N,a],bl aa ab (by simpa[a] using M)⟩;exact .inr ⟨by simp[gP,ac,j,H,N,a],bb aa ab (by simpa[a] using M)⟩;rename_i H;exact .inl ⟨by simp[gP,ac,j,H],bl fx a3 h⟩;exact h.elim;exact h.elim
end
section
variable{p:Sp}{cf:bF}{ops:dI}{A:wB}
structure kJ(cf:bF)(ops:dI)(o:Oper)(s:S)(O:ak)(s':S)(O':ak):Prop where
 tm:∀t∈jM ops o,s'.tmps[t]?=s.tmps[t]?
 kd:looks o.op=J->zM o.op=E->Aa cf.ty s s'
 kl:∀t x r w i off,o.op=.load t x->s.ev cf.gl x=.el r w i off->∀e,e≠ .ai->r.kind cf.ty s=e->r.kind cf.ty s'=e
 li:s.ni<=s'.ni
 lb:s.nb<=s'.nb
 lr:Y s.rs<=Y s'.rs
 ag:iL O O' s.ni s.nb (Y s.rs)
def kJ.yq{o:Oper}{s X:S}{O:ak}(V:∀t∈jM ops o,X.tmps[t]?=s.tmps[t]?)(W:X.rs=s.rs)(R:X.ni=s.ni)(Q:X.nb=s.nb):kJ cf ops o s O X O:=
 ⟨V,λ_ _=>Aa.yq W,λt x r w i P _ _=>Aa.yq W r,Di R.symm,Di Q.symm,Di (by rw[W]),iL.refl _ _ _ _⟩
def kJ.ev{o:Oper}{s X:S}{O V:ak}(h:kJ cf ops o s O X V)(W:mD):∀x∈o.op.operands.toList,X.ev W x=s.ev W x:=by
 intro x R;cases x with
 |tmp t=>
  have:t∈jM ops o:=by
   unfold jM;exact we _ (Bg.2 ⟨.tmp t,R,rfl⟩)
  simp only[S.ev,wq,dB,h.tm t this]
 |const v=>rfl
 |global g=>rfl
 |func f=>rfl
def kJ.guard{m:OM}{s W:S}{O Q:ak}(h:kJ cf ops m.o s O W Q){b:Bool}(X:gP ops m s O=U b):gP ops m W Q=U b:=by
 unfold gP at X⊢;cases V:m.o.guard with
 |none=>rw[V] at X;exact X
 |some q=>
  obtain⟨j,M⟩:=q;rw[V] at X;simp only at X⊢;cases R:(ops[j]?).bind (·.dst) with
  |none=>rw[R] at X;cases X
  |some d=>
   rw[R] at X;simp only at X⊢;have N:W.tmps[d]?=s.tmps[d]?:=h.tm d (by unfold jM;rw[V];exact LP _ (by simp[R]));rw[N];split at X;rename_i e L;split at X;rename_i P;rw[aI (BE.ep h.li h.lb h.lr _ P),BE.dW h.ag _ P];exact X;cases X;exact X;cases X
def aht{Q:S}{N:ak}(h:kJ cf ops l R x Q N)(M:∀i,zC cf.gl R l.op=U i->cg Q.au i=cg R.au i)
  (W:(ck cf.ty cf.gl R l.op).yr R x r):(ck cf.ty cf.gl Q l.op).yr Q N r:=by
 have H:ck cf.ty cf.gl Q l.op=ck cf.ty cf.gl R l.op:=by
  cases V:ck cf.ty cf.gl R l.op with
  |ok X=>exact RD (ty:=cf.ty) (h.ev cf.gl) h.kd h.kl M V (λw P=>by cases P)
  |bz b X=>exact RD (ty:=cf.ty) (h.ev cf.gl) h.kd h.kl M V (λw P=>by cases P)
  |no w=>rw[V] at W;exact W.elim
 rw[H];cases V:ck cf.ty cf.gl R l.op with
 |ok X=>rw[V] at W;exact W
 |bz b X=>
  rw[V] at W;obtain⟨G,L,F⟩:=W;exact⟨by rw[BE.dW h.ag _ L];exact G,BE.ep h.li h.lb h.lr _ L,F⟩
 |no w=>rw[V] at W;exact W.elim
def Yi{m:OM}{s R:S}{O L:ak}(h:kJ cf ops m.o s O R L)(H:∀i,zC cf.gl s m.o.op=U i->cg R.au i=cg s.au i){v:C}{l:Nat}(D:QV cf ops O m s v l):QV cf ops L m R v l:=by
 rcases D with⟨Q,P,X⟩|⟨Q,P,X⟩;exact .inl ⟨h.guard Q,P,X⟩;refine .inr ⟨h.guard Q,λx G=>by rw[h.ev cf.gl x G];exact P x G, ?_⟩;have W:=h.ev cf.gl;cases N:m.o.op with
 |pick c x y=>
  rw[N] at X W;obtain⟨e,B,F,A,z⟩:=X;refine⟨e,by rw[W c cL];exact B,BE.ep h.li h.lb h.lr _ F, ?_,z⟩;rw[BE.dW h.ag _ F,W x cL,W y cL];exact A
 |load t x=>
  have V:=λ(M:(ck cf.ty cf.gl s m.o.op).yr s O v)=>aht (cf:=cf) h H M
  rw[N] at X W V;exact⟨V X.1,by rw[W x cL];exact X.2⟩
 |_=>
  have V:=λ(M:(ck cf.ty cf.gl s m.o.op).yr s O v)=>aht (cf:=cf) h H M
  rw[N] at X V;exact⟨V X.1,X.2⟩
def asr(h:mY l.op=J):ec cf R l=.op:=by
 unfold ec;cases W:l.op<;>rw[W] at h<;>simp[mY] at h<;>try rfl
 rename_i c;cases X:c.callee with
 |builtin b=>cases b<;>simp[X] at h<;>simp[X]
 |value f=>simp[X] at h
 |invoke r m=>simp[X] at h
def Gk(s:S)(d:cw)(v:C):s.dw d v 0=s.put d v:=by simp[S.dw]
def Jf{m:OM}{s V:S}{O:ak}(H:mY m.o.op=J)(R:gP ops m s O=U J):iG cf m s O V<->∃v l,QV cf ops O m s v l/\V=s.dw m.o.dst v l:=by
 unfold iG gt QV;by_cases Q:(m.o.op.operands.toList.any λx=>(s.ev cf.gl x).eJ)=J;simp only[Q,cS];constructor;exact λh=>h.elim
 rintro⟨v,l,h|h,-⟩;rw[R] at h;cases h.1;obtain⟨x,M,G⟩:=kS.1 Q;have:=h.2.1 x M;rw[this] at G;cases G
 ·have F:∀x∈m.o.op.operands.toList,(s.ev cf.gl x).eJ=false:=by
   intro x M;cases w:(s.ev cf.gl x).eJ;rfl;exact aY (kS.2 ⟨x,M,w⟩) Q
  have L:¬gP ops m s O=U false:=by rw[R];simp
  have D:∀(P:Nat),(sj s m.o.dst P (ck cf.ty cf.gl s m.o.op)).Gi s O V<->∃v l,((gP ops m s O=U E/\v=.bP []/\l=0)\/(gP ops m s O=U J/\(∀x∈m.o.op.operands.toList,(s.ev cf.gl x).eJ=E)/\(ck cf.ty cf.gl s m.o.op).yr s O v/\l=P))/\V=s.dw m.o.dst v l:=by
   intro P;rw[ahm];constructor;rintro⟨v,X,W⟩;exact⟨v,P,.inr ⟨R,F,X,rfl⟩,W⟩;rintro⟨v,l,h|⟨-,-,X,rfl⟩,N⟩;exact aY h.1 L;exact⟨v,X,N⟩
  rw[aK Q];cases B:m.o.op<;>rw[B] at H D<;>simp only[mY,iW] at H
  case pick c x y=>
   simp only;cases t:s.ev cf.gl c with
   |bool e=>
    constructor;rintro⟨X,W⟩;refine⟨if e.ah O then s.ev cf.gl x else s.ev cf.gl y,0,.inr ⟨R,by rw[<-B];exact F,e,rfl,X,rfl,rfl⟩, ?_⟩;rw[Gk,W];split<;>rfl;rintro⟨v,l,h|⟨-,-,u,X,W,A,z⟩,N⟩;exact aY h.1 L;cases X;subst z;refine⟨W, ?_⟩;rw[N,Gk,A];split<;>rfl
   |_=>
    constructor;exact λh=>h.elim
    rintro⟨v,l,h|⟨-,-,u,X,W,A,z⟩,N⟩;exact aY h.1 L;cases X
  all_goals exact D _
variable{a:ak->S->Prop}{k:ak->C->S->Prop}{n:OM->cN->ak->S->Nat->av->Prop}
def ahu(W:mY l.op=J):eH cf l b J R=none:=by
 unfold eH;cases Q:l.op<;>rw[Q] at W<;>simp only[mY,iW] at W<;>try rfl
 rename_i c;cases V:c.callee with
 |builtin X=>cases X<;>simp[V] at W<;>simp[V]
 |value f=>simp[V] at W
 |invoke r m=>simp[V] at W
def ahv{P:cN}(N:h.dr=J)(Q:mY h.o.op=J):eA p cf ops A a k n (h::P) x R<->∃v l,QV cf ops x h R v l/\eA p cf ops A a k n P x (R.dw h.o.dst v l):=by
 simp only[eA,asr Q,N,ahu Q,sJ];constructor;rintro(⟨V,X⟩|⟨V,L,X,W⟩);exact⟨.bP [],0,.inl ⟨V,rfl,rfl⟩,by rw[Gk];exact X⟩;obtain⟨v,l,M,rfl⟩:=(Jf (ops:=ops) Q V).1 X;exact⟨v,l,M,W⟩;rintro⟨v,l,V,X⟩;rcases V with⟨W,rfl,rfl⟩|W;rw[Gk] at X;exact .inl ⟨W,X⟩;exact .inr ⟨W.1,_,(Jf (ops:=ops) Q W.1).2 ⟨v,l,.inr W,rfl⟩,X⟩
end
section
variable{p:Sp}{A:bF}{B:dI}{D:wB}
def md{d:cw}(h:d≠U X):(R.put d r).tmps[X]?=R.tmps[X]?:=by
 cases d with
 |none=>rfl
 |some d=>simp only[S.put,uQ];rw[qX (λe=>h (by rw[e]))]
def Jg{d:cw}{t:Nat}(h:d≠U t):(R.dw d r X).tmps[t]?=R.tmps[t]?:=by
 unfold S.dw;rw[md h]
def lH(s:S)(d:cw)(v:C):(s.put d v).au=s.au:=by cases d<;>rfl
def BX(s:S)(d:cw)(v:C)(l:Nat):(s.dw d v l).au=s.au:=by unfold S.dw;rw[lH]
def RG(s:S)(d:cw)(v:C):(s.put d v).lk=s.lk:=by cases d<;>rfl
def Yj{d e:cw}{w:C}(h:∀x,d=U x->e≠U x):(R.put d r).put e w=(R.put e w).put d r:=by
 cases d with
 |none=>cases e<;>rfl
 |some d=>
  cases e with
  |none=>rfl
  |some e=>
   have X:d≠e:=λW=>h d rfl (by rw[W])
   simp only[S.put,uQ];rw[List.set_comm _ _ X]
def M3{s:S}{d e:cw}{v w:C}{l:Nat}(h:∀x,d=U x->e≠U x):(s.dw d v l).put e w=(s.put e w).dw d v l:=by
 unfold S.dw;rw[Yj h];cases e<;>rfl
def ast{d e:cw}{w:C}{W:Nat}(h:∀x,d=U x->e≠U x):(R.dw d r X).dw e w W=(R.dw e w W).dw d r X:=by
 have V:(R.dw d r X).dw e w W={(R.dw d r X).put e w with lk:=R.lk|||X|||W}:=by
  unfold S.dw;cases e<;>cases d<;>rfl
 have Q:(R.dw e w W).dw d r X={(R.dw e w W).put d r with lk:=R.lk|||W|||X}:=by
  unfold S.dw;cases e<;>cases d<;>rfl
 rw[V,Q,Nat.or_assoc,Nat.or_comm X W,<-Nat.or_assoc];have P:(R.dw d r X).put e w={(R.put d r).put e w with lk:=R.lk|||X}:=by unfold S.dw;cases e<;>cases d<;>rfl
 have O:(R.dw e w W).put d r={(R.put e w).put d r with lk:=R.lk|||W}:=by unfold S.dw;cases e<;>cases d<;>rfl
 rw[P,O,Yj h]
def asu(s:S)(d:cw)(v:C)(l n:Nat)(t:TypeId)(X:av):(s.dw d v l).cZ n t X=(s.cZ n t X).dw d v l:=by
 unfold S.dw S.cZ;cases d<;>rfl
structure Yk(B:dI)(x y:OM)(dx:Nat):Prop where
 xd:x.dr=J
 yd:y.dr=J
 qx:mY x.o.op=J
 np:Ip y.o.op=E
 dst:x.o.dst=U dx
 ry:dx∉jM B y.o
 dy:y.o.dst≠U dx
 rx:dx∉jM B x.o
 yx:∀d,y.o.dst=U d->d∉jM B x.o
 rc:xX y.o.op=J->zM x.o.op=J->x.bR=J/\y.bR=J
 rb:Bw y.o.op=J->looks x.o.op=J->zM x.o.op=J/\x.bR=J/\y.bR=J
def ahw{x y:OM}(h:QA B x y=J):∃Q,Yk B x y Q:=by
 unfold QA at h;simp only[az,gO] at h;obtain⟨⟨⟨⟨⟨⟨⟨L,H⟩,G⟩,F⟩,X⟩,V⟩,O⟩,R⟩:=h;cases P:x.o.dst with
 |none=>rw[P] at X;cases X
 |some Q=>
  rw[P] at X;simp only[az,gO,bne_iff_ne] at X;obtain⟨⟨N,D⟩,M⟩:=X;refine⟨Q,L,H,G,F,P, ?_,D, ?_, ?_, ?_, ?_⟩;intro W;rw[pz.2 W] at N;cases N;intro W;rw[pz.2 W] at M;cases M;intro d A W;rw[A] at V;simp only[gO] at V;rw[pz.2 W] at V;cases V;intro a b;simp only[a,b,Wu,aqJ,az] at O;exact O;intro a b;simp only[a,b,Wu,aqJ,az] at R;exact⟨R.1.1,R.1.2,R.2⟩
def DN{X:S}(h:∀x∈l.op.operands.toList,X.ev A.gl x=R.ev A.gl x):ec A X l=ec A R l:=by
 unfold ec;cases V:l.op<;>rw[V] at h<;>try rfl
 case panic x=>simp only;rw[h x cL]
 case call c=>
  simp only;cases Q:c.callee with
  |value f=>
   have P:=h f (by simp[io,zw,Q]);have W:c.args.toList.map (X.ev A.gl)=c.args.toList.map (R.ev A.gl):=kb λx O=>h x (by simp[io,zw];exact .inr (by simpa using O))
   have N:(c.args.toList.any λx=>(X.ev A.gl x).eJ)=c.args.toList.any λx=>(R.ev A.gl x).eJ:=by
    have M:=ae2 (f:=X.ev A.gl) (p:=C.eJ) (l:=c.args.toList);have L:=ae2 (f:=R.ev A.gl) (p:=C.eJ) (l:=c.args.toList);rw[show(c.args.toList.any λx=>(X.ev A.gl x).eJ)=(c.args.toList.map (X.ev A.gl)).any C.eJ from M.symm,W,L];rfl
   simp only[P,W,N]
  |invoke r m=>rfl
  |builtin b=>
   cases b<;>try rfl
   cases H:c.args.toList with
   |nil=>rfl
   |cons x r=>
    cases r with
    |nil=>simp only;rw[h x (by simp[io,zw];exact .inr (by have G:x∈c.args.toList:=(by rw[H];simp);simpa using G))]
    |cons y r=>rfl
def Yl(h:ec A R l=.bI r):Ip l.op=true:=by
 unfold ec at h;split at h;rename_i X;rw[X];rfl;rename_i c X;split at h;split at h;split at h<;>cases h;split at h<;>cases h;cases h;cases h;rename_i W;rw[X];simp[Ip,W];cases h;cases h
def wM(s:S)(d:Nat):Prop:=s.tmps[d]?=Z\/∃w,s.tmps[d]?=U w/\w.bd s.ni s.nb (Y s.rs) (aL s.au)=J
def Ym{W V R:Nat}{Q:Nat->Bool}:∀{l:av}{d:Nat}{v:C},C.dQ W V R Q (l.set d v)=J->(l[d]?=Z\/∃w,l[d]?=U w/\w.bd W V R Q=J)->C.dQ W V R Q l=J
 |[],d,v,h,_=>rfl
 |x::P,0,v,h,X=>by
  simp only[aDy,C.iD,az] at h⊢;refine⟨?_,h.2⟩;rcases X with X|X;simp at X;simpa using X
 |x::P,d+1,v,h,X=>by
  simp only[List.set_cons_succ,C.iD,az] at h⊢;exact⟨h.1,Ym h.2 (by simpa using X)⟩
def Jh{s:S}{dx:Nat}{v:C}{l:Nat}{cs:av}(h:(s.dw (U dx) v l).eV cs=J)(X:wM s dx):s.eV cs=true:=by
 simp only[S.eV,S.bd,S.dw,S.put,uQ,az] at h⊢;exact⟨⟨Ym h.1.1 X,h.1.2⟩,h.2⟩
def asv{Q:Ty}{P:mD}{V:Op}(h:(ck Q P R V).gives x r):mY V=true:=by
 cases V with
 |call c=>
  cases W:c.callee with
  |builtin b=>cases b<;>simp only[ck,W,PR.gives] at h<;>simp[mY,W]
  |value f=>simp only[ck,W,PR.gives] at h
  |invoke X m=>simp only[ck,W,PR.gives] at h
 |_=>first|rfl|(simp only[ck,PR.gives] at h)
def asw{x y:OM}{P:Nat}(a:Yk B x y P){s f:S}{O:ak}{v:C}{l:Nat}(ha:wM s P)(hg:gP B y s O=U J)
  (h:iG A y (s.dw (U P) v l) O f):∃W,iG A y s O W/\f=W.dw (U P) v l/\(∀t,y.o.dst≠U t->W.tmps[t]?=s.tmps[t]?)/\W.ni=s.ni/\W.nb=s.nb/\W.rs=s.rs/\
   ∀i,aL s.au i=J->cg W.au i=cg s.au i\/(xX y.o.op=J/\(y.bR=J->(s.lk|||l).testBit (2*i)=E)/\(lB s.au i).isSome=J):=by
 have ag:kJ A B y.o (s.dw (U P) v l) O s O:=kJ.yq (λt V=>(Jg (λe=>a.ry (by cases e;exact V))).symm) rfl rfl rfl;have aa:kJ A B y.o s O (s.dw (U P) v l) O:=kJ.yq (λt V=>Jg (λe=>a.ry (by cases e;exact V))) rfl rfl rfl;have D:=aa.ev A.gl;have ab:∀z,(U P:cw)=U z->y.o.dst≠U z:=λz H=>by cases H;exact a.dy
 by_cases r:mY y.o.op=J;have al:=aa.guard hg;obtain⟨w,l',hw,rfl⟩:=(Jf (ops:=B) r al).1 h;have an:=Yi (cf:=A) ag (λi _=>by rw[BX]) hw;refine⟨s.dw y.o.dst w l',(Jf (ops:=B) r hg).2 ⟨w,l',an,rfl⟩,ast ab,λt V=>Jg V,(fK _ _ _).1,(fK _ _ _).2.1,(fK _ _ _).2.2,λi _=>.inl (by rw[BX])⟩;unfold iG gt at h;split at h;exact h.elim;rename_i hk;have d:¬(y.o.op.operands.toList.any λz=>(s.ev A.gl z).eJ)=true:=by
  intro hh;obtain⟨z,ac,a0⟩:=kS.1 hh;exact hk (kS.2 ⟨z,ac,by rw[D z ac];exact a0⟩)
 have b:∀(n:Nat)(t:TypeId)(G:av)(w:C),n<Y s.au->iG A y s O ((s.cZ n t G).put y.o.dst w)->f=((s.dw (U P) v l).cZ n t G).put y.o.dst w->
   (∀i,aL s.au i=J->i=n->xX y.o.op=J/\(y.bR=J->(s.lk|||l).testBit (2*i)=E)/\(lB s.au i).isSome=J)->
   ∃W,iG A y s O W/\f=W.dw (U P) v l/\(∀t,y.o.dst≠U t->W.tmps[t]?=s.tmps[t]?)/\W.ni=s.ni/\W.nb=s.nb/\W.rs=s.rs/\
    ∀i,aL s.au i=J->cg W.au i=cg s.au i\/(xX y.o.op=J/\(y.bR=J->(s.lk|||l).testBit (2*i)=E)/\(lB s.au i).isSome=J):=by
  intro n t G w hn h1 h2 h3;refine⟨_,h1, ?_,λt V=>md V,(fK _ _ _).1,(fK _ _ _).2.1,(fK _ _ _).2.2,λi R=> ?_⟩;rw[h2,asu,M3 ab];by_cases af:i=n;exact .inr (h3 i R af);left;rw[lH,S.cZ,yg af]
 split at h;rename_i t X;split at h;rename_i ti V;split at h;rename_i Q;simp only[az] at Q;have N:=Jh Q.1 ha;have M:pE s.au y.ix t=true:=Q.2;have L:gf s.au y.ix=true:=sH M;refine b y.ix t (dZ ti) _ (mJ L).2 ?_ h (λi R e=>by subst e;rw[(mJ L).1] at R;cases R);unfold iG gt;rw[aK d];simp only[X,V,N,M,wj,cS];rfl;exact h.elim;exact h.elim;rename_i t z X;have H:=D z (by rw[X];simp[io]);split at h;rename_i ti V;rw[H] at h;split at h;rename_i Q;simp only[az] at Q;obtain⟨⟨⟨m,k⟩,g⟩,c4⟩:=Q;have N:=Jh k ha;have M:pE s.au y.ix t=true:=c4;have L:gf s.au y.ix=true:=sH M;refine b y.ix t _ _ (mJ L).2 ?_ h (λi R e=>by subst e;rw[(mJ L).1] at R;cases R);unfold iG gt;rw[aK d];simp only[X,V,m,N,g,M,wj,cS];rfl;exact h.elim;exact h.elim;rename_i t a9 parts X;have H:(parts.toList.map λp=>(p.1,(s.dw (U P) v l).ev A.gl p.2))=parts.toList.map λp=>(p.1,s.ev A.gl p.2):=kb λp hp=>by rw[D p.2 (by rw[X];simp[io];exact⟨p.1,by simpa using hp⟩)]
 split at h;rename_i e ao q V;split at h;rename_i te a1;rw[H] at h;split at h;rename_i G hf;split at h;rename_i Q;simp only[az] at Q;obtain⟨⟨m,k⟩,g⟩:=Q;have N:=Jh m ha;have M:pE s.au y.ix e=true:=g;have L:gf s.au y.ix=true:=sH M;refine b y.ix e G _ (mJ L).2 ?_ h (λi R e=>by subst e;rw[(mJ L).1] at R;cases R);unfold iG gt;rw[aK d];simp only[X,V,a1,hf,N,k,M,wj,cS];rfl;exact h.elim;exact h.elim;exact h.elim;exact h.elim;rename_i t z u X;have H:=D z (by rw[X];simp[io]);have hu:=D u (by rw[X];simp[io]);rw[H,hu] at h;split at h;rename_i ti i ba V R;rw[BX] at h;split at h;rename_i bt G N;split at h;rename_i Q;simp only[az,gO] at Q;obtain⟨⟨⟨⟨m,k⟩,g⟩,c4⟩,F⟩:=Q;have a3:(s.dw (U P) v l).lk=s.lk|||l:=RG _ _ _;rw[a3] at F;have a4:(y.bR&&s.lk.testBit (2*i))=false:=by
  cases hr:y.bR;rfl;rw[hr,Fl,Dh] at F;simp only[uK] at F;simp[F.1]
 refine b i bt _ _ (bZ.1 (jO.1 (ye N).1)).1 ?_ h (λj hj e=> ?_);unfold iG gt;rw[aK d];simp only[X,V,R,N,m,k,g,c4,a4,wj,Bool.not_false,cS];rfl;subst e;refine⟨by rw[X];rfl,λhr=> ?_,by rw[N];rfl⟩;rw[hr,Fl] at F;exact F;exact h.elim;exact h.elim;exact h.elim;rename_i c z u X;exact aY (by rw[X];rfl) r;rename_i t z X;exact aY (by rw[X];rfl) r;rename_i o1 o2 o3 o4 o5 o6;exfalso;obtain⟨w,hw,-⟩:=ahm.1 h;refine r ?_;exact asv (RF hw)
def asx{X:Ty}{W:S}(h:R.rs=W.rs)(k:RK)(r:RE):r.fits X R k=r.fits X W k:=by
 unfold RE.fits;cases k<;>simp only[BT h r]
def ahx{X:Ty}{s W:S}(h:s.rs=W.rs):∀(ao:eQ)(V:av),l8 X s ao V=l8 X W ao V
 |[],[]=>rfl
 |[],_::_=>rfl
 |_::_,[]=>rfl
 |c::R,v::Q=>by
  simp only[l8,ahx h R Q];congr 1;cases c<;>cases v<;>simp only[si,asx h]
def DO{X:Ty}{s s':S}(h:s.rs=s'.rs){ao:eQ}:∀{l:wm},mX X s ao l=mX X s' ao l
 |[]=>rfl
 |r::W=>by simp only[mX,ahx h ao r,DO h (l:=W)]
def asy{l:Nat}{V:Ty}{Q:TI}{y:C}{W:LE×BE×aw}(h:rh V (R.dw (U X) r l) v Q y=U W):rh V R v Q y=U W:=by
 unfold rh at h⊢;split at h;simp only[BT (s:=R) (s':=R.dw (U X) r l) rfl];exact h;rw[BX] at h;split at h;rename_i P;simp only[DO (s:=R) (s':=R.dw (U X) r l) rfl];exact h;cases h;cases h
def asz{l:Nat}{y:C}{Q:LE}{n:BE}(h:ww (R.dw (U X) r l) v b y=U (Q,n,t)):ww R v b y=U (Q,n,t)/\∀k∈t,b=J->(R.lk|||l).testBit (2*k+1)=false:=by
 have N:(R.dw (U X) r l).lk=R.lk|||l:=RG _ _ _;unfold ww at h⊢;split at h;rename_i k;split at h;rename_i P;cases h;have M:R.rs[k]?=U (.own v):=P.1;have V:=P.2;rw[N] at V;simp only[gO,aDm] at V;refine⟨?_,λG O L=> ?_⟩;rw[aI];refine⟨M, ?_⟩;simp only[gO,aDm];rcases V with V|V;exact .inl V;rw[Dh,uK] at V;exact .inr V.1;simp at O;subst O;rcases V with V|V;rw[L] at V;cases V;exact V;cases h;rename_i W F;split at h;rename_i H;cases h;simp[H];cases h;cases h;exact⟨rfl,ay⟩;cases h
variable{F:ak->S->Prop}{G:ak->C->S->Prop}{H:OM->cN->ak->S->Nat->av->Prop}
def asA(X:aQ)(s:S)(d:cw)(v:C)(l:Nat):((s.dw d v l).cz X).1=(s.cz X).1/\((s.dw d v l).cz X).2=(s.cz X).2.dw d v l:=by
 induction X generalizing s with
 |nil=>exact⟨rfl,rfl⟩
 |cons k X W=>
  simp only[S.cz];have V:((s.dw d v l).fresh k).1=(s.fresh k).1/\((s.dw d v l).fresh k).2=(s.fresh k).2.dw d v l:=by
   cases k<;>cases d<;>exact⟨rfl,rfl⟩
  rw[V.1,V.2];exact⟨by rw[(W _).1],(W _).2⟩
def asB{m:OM}{s:S}{O:ak}{v:C}{l:Nat}(h:QV A B O m s v l)(Q:gP B m s O=U J){t:TypeId}{x:Operand}{i P:Nat}(N:m.o.op=.load t x)(W:s.ev A.gl x=.loc i P):aL s.au i=J/\(m.bR=J->l=1<<<(2*i)):=by
 rcases h with h|⟨-,-,h⟩;rw[Q] at h;cases h.1;rw[N] at h;obtain⟨X,M⟩:=h;refine⟨?_,λL=>by rw[M,W,L];rfl⟩;have X:=RF X;simp only[ck,W] at X;cases V:A.ty t with
 |none=>rw[V] at X;exact X.elim
 |some H=>
  rw[V] at X;simp only at X;cases R:cg s.au i with
  |none=>rw[show lB s.au i=Z by simp[lB,R]] at X;exact X.elim
  |some b=>simp[aL,R]
def asC{m:OM}{s:S}{O:ak}{v:C}{l:Nat}(h:QV A B O m s v l)(N:gP B m s O=U J){t:TypeId}{x:Operand}{i:Nat}{e:K}{M:bq}{W:av}(L:m.o.op=.load t x)(V:s.ev A.gl x=.fW e M W)(R:xQ W=U i):aL s.au i=J/\(m.bR=J->l=1<<<(2*i)):=by
 rcases h with h|⟨-,-,h⟩;rw[N] at h;cases h.1;rw[L] at h;obtain⟨X,H⟩:=h;refine⟨?_,λG=>by rw[H,V,G];simp[Mb,R]⟩;have X:=RF X;simp only[ck,V] at X;cases Q:A.ty t with
 |none=>rw[Q] at X;exact X.elim
 |some F=>
  rw[Q] at X;simp only[R,Wn] at X;cases P:cg s.au i with
  |none=>rw[show lB s.au i=Z by simp[lB,P]] at X;exact X.elim
  |some b=>simp[aL,P]
def ahy{m:OM}{s:S}{O:ak}{v:C}{l:Nat}(h:QV A B O m s v l)(P:gP B m s O=U J){i:Nat}(W:zC A.gl s m.o.op=U i):aL s.au i=J/\((zM m.o.op=J/\(m.bR=J->l=1<<<(2*i)))\/lB s.au i=Z):=by
 unfold zC at W;split at W;rename_i t x V;split at W;rename_i j G R;cases W;obtain⟨X,N⟩:=asB h P V R;exact⟨X,.inl ⟨by rw[V];rfl,N⟩⟩;rename_i e F D R;obtain⟨X,N⟩:=asC h P V R W;exact⟨X,.inl ⟨by rw[V];rfl,N⟩⟩;cases W;rename_i t x z y V;split at W;rename_i j R;cases W;rcases h with h|⟨-,-,h⟩;rw[P] at h;cases h.1;rw[V] at h;have X:=RF h.1;simp only[ck,R] at X;split at X;rename_i k e n w ao q u r L;cases L;unfold Qm at X;split at X;rename_i g a b c H f d g2 M;refine⟨by simp[aL,M],.inr ?_⟩;have:qg H=true:=by
  split at X;exact X.elim;split at X;rename_i Q;simp at Q;rw[Q];decide;split at X;rename_i Q;simp at Q;rw[Q];decide;exact X.elim
 simp[lB,M,this];exact X.elim;exact X.elim;cases W;cases W
def Ji{X:BI}(h:eH A l b J R=U X):tO l.op=true:=by
 unfold eH at h;cases V:l.op<;>rw[V] at h<;>simp only[cS,aqK] at h<;>try cases h
 rfl;rename_i c;cases W:c.callee with
 |builtin Q=>cases Q<;>simp[W] at h<;>simp[tO,W]
 |_=>simp[W] at h
def Yn{m:OM}{s V:S}{O:ak}(h:tO m.o.op=J)(X:iG A m s O V):False:=by
 unfold iG gt at X;split at X;exact X;cases R:m.o.op<;>rw[R] at h X<;>simp[tO] at h;simp[ck,sj,OR.Gi] at X;rename_i c;cases W:c.callee with
 |builtin Q=>cases Q<;>simp[W] at h<;>simp[ck,W,sj,OR.Gi] at X
 |_=>simp[W] at h
def ahz{l:Nat}{d:cw}{bz:BE}{k:RK}{x:LE}{cY:aw}{V:BI}(P:wM R X)(O:d≠U X)
  (h:jY (R.dw (U X) r l) d bz v k x t cY=U V):
  ∃b,jY R d bz v k x t cY=U b/\V={b with s:=b.s.dw (U X) r l}/\(∀W,d≠U W->b.s.tmps[W]?=R.tmps[W]?)/\b.s.ni=R.ni/\b.s.nb=R.nb/\b.s.rs=jX cY 0 (iY t 0 R.rs)++[k]/\b.s.au=R.au:=by
 unfold jY at h⊢;split at h;rename_i Q;cases h;simp only[az] at Q;obtain⟨⟨⟨N,M⟩,L⟩,H⟩:=Q;have G:R.bd=true:=by
  have:R.eV []=true:=Jh (dx:=X) (v:=r) (l:=l) (cs:=[]) (by simp[S.eV,N,C.iD]) P;simp only[S.eV,az] at this;exact this.1
 rw[aI (by simp only[az];exact⟨⟨⟨G,M⟩,L⟩,H⟩)];refine⟨_,rfl, ?_,λW F=>md F,(fK _ _ _).1,(fK _ _ _).2.1,(fK _ _ _).2.2,lH _ _ _⟩;congr 1;exact M3 (s:={R with rs:=jX cY 0 (iY t 0 R.rs)++[k]}) (d:=U X) (e:=d) (v:=r) (w:=.am (.v (Y R.rs))) (l:=l) (λz D=>by cases D;exact O);cases h
def asD{x y:OM}{X:Nat}(O:Yk B x y X){s:S}{v:C}{l:Nat}(L:wM s X)(V:∀z∈y.o.op.operands.toList,s.ev A.gl z=(s.dw (U X) v l).ev A.gl z){H:BI}
  (h:eH A y.o y.bR y.dr (s.dw (U X) v l)=U H):
  ∃b W cY F,eH A y.o y.bR y.dr s=U b/\H={b with s:=b.s.dw (U X) v l}/\(∀t,y.o.dst≠U t->b.s.tmps[t]?=s.tmps[t]?)/\b.s.ni=s.ni/\b.s.nb=s.nb/\b.s.rs=jX cY 0 (iY W 0 s.rs)++[F]/\b.s.au=s.au/\
   (∀k∈W,y.bR=J->(s.lk|||l).testBit (2*k+1)=E)/\(Bw y.o.op=E->W=[]):=by
 have R:=Ji (by rw[O.yd] at h;exact h);unfold eH at h⊢;cases D:y.o.op<;>rw[D] at R h V<;>simp[tO] at R;rename_i t n m;simp only at h⊢;rw[V n cL,V m cL];split at h;rename_i e ao q w u r j i;split at h;rename_i Q g;split at h;rename_i f;obtain⟨b,N,M,d,a,g5,g6,g7⟩:=ahz L O.dy h;have aa:(w.aM u&&mX A.ty s Q.ao [dZ Q]&&Y Q.ao !=0)=true:=by
  rw[<-DO (s:=s.dw (U X) v l) (s':=s) rfl];exact f
 rw[aI aa];exact⟨b,[],[],_,N,M,d,a,g5,g6,g7,ay,λ_=>rfl⟩;cases h;cases h;cases h;rename_i c;cases P:c.callee with
 |builtin bb=>
  cases bb<;>simp[P] at R;simp only[P] at h⊢;have ab:c.args.toList.map (s.ev A.gl)=c.args.toList.map ((s.dw (U X) v l).ev A.gl):=kb λz hz=>V z (by simp[io,zw];exact .inr (by simpa using hz))
  rw[ab];split at h;rename_i t t2 x0 y0 j i;split at h;rename_i e ao q e2 af G r ag;split at h;rename_i Q g;split at h;cases h;rename_i ac;rw[aK ac];split at h;rename_i la n1 W lb n2 cY N M;obtain⟨q1,G⟩:=asz N;have q3:=asy M;rw[q1,q3];obtain⟨b,k1,k2,k3,k4,k5,k6,k7⟩:=ahz L O.dy h;exact⟨b,W,cY,_,k1,k2,k3,k4,k5,k6,k7,G,λh=>by simp[Bw,P] at h⟩;cases h;cases h;cases h;cases h
 |_=>simp[P] at R
def asE(bk:DL B D){x y:OM}{ac:cN}{s:S}{O:ak}(bl:y.so=E)(br:QA B x y=J)(ha:∀d,x.o.dst=U d->wM s d)
  (e1:Y O.i=s.ni)(e2:Y O.b=s.nb)(e3:Y O.r=Y s.rs)
  (h:eA p A B D F G H (x::y::ac) O s):eA p A B D F G H (y::x::ac) O s:=by
 obtain⟨f,Q⟩:=ahw br;obtain⟨v,l,P,h⟩:=(ahv Q.xd Q.qx).1 h;rw[Q.dst] at h;have al:=ha f Q.dst;have a0:∀z,(U f:cw)=U z->y.o.dst≠U z:=λz hz=>by cases hz;exact Q.dy
 have af:kJ A B y.o (s.dw (U f) v l) O s O:=kJ.yq (λt L=>(Jg (λe=>Q.ry (by cases e;exact L))).symm) rfl rfl rfl;have ag:∀(a:S)(O':ak),(gP B x s O=U E->gP B x a O'=U E)->(gP B x s O=U J->kJ A B x.o s O a O')->(gP B x s O=U J->∀i,zC A.gl s x.o.op=U i->cg a.au i=cg s.au i)->eA p A B D F G H ac O' (a.dw (U f) v l)->eA p A B D F G H (x::ac) O' a:=by
  intro a O' bs hs hb hr;refine(ahv Q.xd Q.qx).2 ⟨v,l, ?_,by rw[Q.dst];exact hr⟩;cases aa:gP B x s O with
  |none=>rcases P with P|P<;>(rw[aa] at P;cases P.1)
  |some b=>
   cases b;rcases P with P|P;exact .inl ⟨bs P.1,P.2⟩;rw[aa] at P;cases P.1;exact Yi (hs aa) (hb aa) P
 simp only[eA] at h;rcases h with⟨h1,X⟩|⟨h1,X⟩;refine .inl ⟨af.guard h1, ?_⟩;rw[M3 a0] at X;have c:kJ A B x.o s O (s.put y.o.dst (.bP [])) O:=kJ.yq (λt L=>md (λe=>Q.yx t e L)) (fK _ _ _).2.2 (fK _ _ _).1 (fK _ _ _).2.1;refine ag _ _ c.guard (λ_=>c) (λ_ i _=>by rw[lH]) X
 ·refine .inr ⟨af.guard h1, ?_⟩;have hg:gP B y s O=U true:=af.guard h1;have bt:ec A s y.o=ec A (s.dw (U f) v l) y.o:=DN (af.ev A.gl);rw[bt];cases an:ec A (s.dw (U f) v l) y.o with
  |call g0 j=>
   rw[an] at X;rcases g0 with g|n
   rotate_left
   have h3:=X.1;rw[bl] at h3;cases h3;have bx:D g j (s.dw (U f) v l)=D g j s:=bk.q _ _ _ _ _ _;show pL _ _ _;have X:pL _ _ _:=X;rw[bx] at X;cases a9:D g j s with
   |some ve=>
    obtain⟨pv,ex⟩:=ve;rw[a9] at X;obtain⟨b0,X⟩:=X;have b5:s.bd=true:=by
     have:=Jh (s:=s) (dx:=f) (v:=v) (l:=l) (cs:=[]) (by simp only[S.eV,b0,C.iD,wj]) al;simp only[S.eV,az] at this;exact this.1
    have b6:(((s.dw (U f) v l).plus ex).put y.o.dst pv)=(((s.plus ex).put y.o.dst pv).dw (U f) v l):=by
     rw[<-M3 a0];rfl
    rw[b6] at X;have c:kJ A B x.o s O ((s.plus ex).put y.o.dst pv) O:=kJ.yq (λt L=>md (λe=>Q.yx t e L)) (fK _ _ _).2.2 (fK _ _ _).1 (fK _ _ _).2.1;refine⟨b5,ag _ _ c.guard (λ_=>c) (λaa i hi=> ?_) X⟩;rw[lH];exact ahq (ahy P aa hi).1
   |none=>
   rw[a9] at X;simp only[pL] at X⊢;obtain⟨ts,N,r,c1,c2,c3,c4,c5⟩:=X;obtain⟨f1,f2⟩:=asA N (s.cut j N) (U f) v l;have b7:(s.eV j&&pF N)=true:=by
    simp only[az] at c4⊢;exact⟨Jh c4.1 al,c4.2⟩
   refine⟨ts,N,r,c1,c2,by rw[<-f1];exact c3,b7,λV W R=> ?_⟩;refine(c5 V W (by rw[BX];exact R)).mono ?_;intro e W' he;cases e with
   |returned u=>
    obtain⟨xs,q1,q2,q3,q4,q5⟩:=he;refine⟨xs,q1,q2,q3,q4, ?_⟩;have q5:eA p A B D F G H ac (O.ext xs) ((((s.cut j N).dw (U f) v l).cz N).2.put y.o.dst (one r)):=q5;rw[f2,M3 a0] at q5;obtain⟨b1,b2,b3,b4⟩:=wL N (s.cut j N);obtain⟨l1,l2,l3⟩:=yo N xs (s.cut j N) O q1 e1 e2 (e3.trans (DK j N s.rs).len.symm);have a1:=Q0 xs O;have ba:Aa A.ty s ((((s.cut j N).cz N).2).put y.o.dst (one r)):=by
     intro q e he M;refine RC (λk e _ M=> ?_) he M;rw[(fK _ _ _).2.2];obtain⟨e',g1,g2⟩:∃e',(Bv j N s.rs)[k]?=U e'/\e'.rd=e.rd:=by
      unfold Bv;split;refine⟨xS ((Mi j (Y s.rs)).contains k) e,by rw[IY,M];simp, ?_⟩;cases e<;>simp only[xS]<;>try rfl
      split<;>rfl;exact⟨e,M,rfl⟩
     exact⟨e',ag0 N (s.cut j N) k e' g1,g2⟩
    have c:kJ A B x.o s O ((((s.cut j N).cz N).2).put y.o.dst (one r)) (O.ext xs):=by
     refine⟨λt L=> ?_,λ_ _=>ba,λt x r w i bb _ _=>ba r, ?_, ?_, ?_, ?_⟩;rw[md (λe=>Q.yx t e L),b2];rfl;rw[(fK _ _ _).1,<-l1,<-e1];exact a1.1;rw[(fK _ _ _).2.1,<-l2,<-e2];exact a1.2.1;rw[(fK _ _ _).2.2,<-l3,<-e3];exact a1.2.2;rw[<-e1,<-e2,<-e3];exact Dz xs O
    exact ag _ _ c.guard (λ_=>c) (λ_ i _=>by rw[lH,b1];rfl) q5
   |panicked ch=>exact he
   |outgrown=>exact he
  |bI w=>
   have:=Yl an;rw[Q.np] at this;cases this
  |no=>rw[an] at X;exact X
  |op=>
   rw[an] at X;simp only at X⊢;cases a3:eH A y.o y.bR y.dr (s.dw (U f) v l) with
   |some b1=>
    rw[a3] at X;obtain⟨hn,X⟩:=X;obtain⟨b,b8,cY,kk,g1,g2,g3,g4,g5,g6,g7,g8,g9⟩:=asD Q al (af.ev A.gl) a3;rw[g1];subst g2;refine⟨hn,λrv ca=>ag _ _ ?_ ?_ ?_ (X rv ca)⟩;intro cc;have cl:kJ A B {x.o with op:=.move (.const undef)} s O b.s (O.add (.r rv)):=⟨λt L=>g3 t (λe=>Q.yx t e (by
     unfold jM at L⊢;refine(eP.1 L).elim (λh=> ?_) (λh=>LP _ h);simp[io] at h)),λh=>by simp[looks] at h,λt x0 r w i bb h=>by simp at h,Di g4.symm,Di g5.symm,by rw[g6];simp[zU,zT],by rw[<-e1,<-e2,<-e3];exact QO O (.r rv)⟩
    exact cl.guard (m:={x with o:={x.o with op:=.move (.const undef)}}) cc;intro aa;have bf:∀(k:Nat)(e:RK),k∉b8->s.rs[k]?=U e->∃e',b.s.rs[k]?=U e'/\e'.rd=e.rd:=by
     intro k e cm M;have cn:k<Y s.rs:=(bZ.1 M).1;refine⟨xS (cY.contains k) e, ?_, ?_⟩;rw[g6,dU (by simp[zU,zT];exact cn),IY,IX,M];simp[cm];cases e<;>simp only[xS]<;>try rfl
     split<;>rfl
    refine⟨λt L=>g3 t (λe=>Q.yx t e L),λco cp=> ?_,λt x0 r w i bb ho hx e he M=> ?_,Di g4.symm,Di g5.symm,by rw[g6];simp[zU,zT],by rw[<-e1,<-e2,<-e3];exact QO O (.r rv)⟩;cases ab:Bw y.o.op with
    |true=>
     have:=(Q.rb ab co).1;rw[cp] at this;cases this
    |false=>
     intro r e he M;exact RC (λk e _ M=>bf k e (by rw[g9 ab];simp) M) he M
    refine RC (λk e ct M=>bf k e ?_ M) he M;intro a4;have ab:Bw y.o.op=true:=by
     cases ab:Bw y.o.op with
     |true=>rfl
     |false=>rw[g9 ab] at a4;cases a4
    obtain⟨-,r1,r2⟩:=Q.rb ab (by rw[ho];rfl);have bg:=g8 k a4 r2;rcases P with P|⟨-,-,P⟩;rw[aa] at P;cases P.1;rw[ho] at P;have:=P.2;rw[hx,r1] at this;simp only[Mb,ct,cS] at this;rw[this,Dh] at bg;simp[aqm] at bg;intro _ i _;rw[g7]
   |none=>
   rw[a3] at X;have cv:eH A y.o y.bR y.dr s=none:=by
    cases hb:eH A y.o y.bR y.dr s with
    |none=>rfl
    |some b=>
     exfalso;have cx:=Ji (by rw[Q.yd] at hb;exact hb);obtain⟨s2,h3,-⟩:=X;exact Yn cx h3
   rw[cv];simp only[sJ] at X⊢;obtain⟨s2,h3,h4⟩:=X;obtain⟨a,g1,g2,g3,g4,g5,g6,g7⟩:=asw Q al hg h3;subst g2;have c:kJ A B x.o s O a O:=kJ.yq (λt L=>g3 t (λe=>Q.yx t e L)) g6 g4 g5;refine⟨a,g1,ag a O c.guard (λ_=>c) ?_ h4⟩;intro aa i hi;obtain⟨k1,k2⟩:=ahy P aa hi;rcases g7 i k1 with k3|⟨k3,k4,k5⟩;exact k3;rcases k2 with⟨k2,k6⟩|k2;obtain⟨r1,r2⟩:=Q.rc k3 k2;have:=k4 r2;rw[k6 r1,Dh] at this;simp[aqm] at this;rw[k2] at k5;cases k5
end
section
variable{p:Sp}{cf:bF}{B:dI}{A:wB}{F:ak->S->Prop}{G:ak->C->S->Prop}{H:OM->cN->ak->S->Nat->av->Prop}
def ahA{m:OM}{s W:S}{O:ak}(h:(gt cf m s).gives O W):∀t,m.o.dst≠U t->W.tmps[t]?=s.tmps[t]?:=by
 intro q X;unfold gt at h;split at h;exact h.elim;split at h;split at h;split at h;cases h;rw[md X];rfl;exact h.elim;exact h.elim;split at h;split at h;cases h;rw[md X];rfl;exact h.elim;exact h.elim;split at h;split at h;split at h;split at h;cases h;rw[md X];rfl;exact h.elim;exact h.elim;exact h.elim;exact h.elim;split at h;split at h;split at h;cases h;rw[md X];rfl;exact h.elim;exact h.elim;exact h.elim;split at h;simp only[OR.gives] at h;split at h<;>(subst h;rw[md X]);exact h.elim;obtain⟨v,-,rfl⟩:=zW h;rw[Jg X];obtain⟨v,-,rfl⟩:=zW h;rw[Jg X]
def Yo{X:BI}(h:eH cf l b J R=U X):∀t,l.dst≠U t->X.s.tmps[t]?=R.tmps[t]?:=by
 intro q O;have Q:∀{bz:BE}{e:TypeId}{k:RK}{x:LE}{P cY:aw},jY R l.dst bz e k x P cY=U X->X.s.tmps[q]?=R.tmps[q]?:=by
  intro bz e k x P cY h;obtain⟨-,-,rfl⟩:=yj h;simp only;rw[md O]
 have W:=Ji h;unfold eH at h;cases N:l.op<;>rw[N] at W h<;>simp[tO] at W;simp only at h;split at h;split at h;split at h;exact Q h;cases h;cases h;cases h;rename_i c;cases V:c.callee with
 |builtin M=>
  cases M<;>simp[V] at W;simp only[V] at h;split at h;split at h;split at h;split at h;cases h;split at h;exact Q h;cases h;cases h;cases h;cases h
 |_=>simp[V] at W
def Yq{X W V:Nat}{R:Nat->Bool}:∀{l m:av},C.dQ X W V R (l++m)=J<->C.dQ X W V R l=J/\C.dQ X W V R m=J
 |[],m=>by simp[C.iD]
 |x::Q,m=>by simp[C.iD,Yq (l:=Q),and_assoc]
def u0{X W V:Nat}{R:Nat->Bool}:∀{l:av},C.dQ X W V R l=J<->∀v∈l,v.bd X W V R=J
 |[]=>by simp[C.iD]
 |x::Q=>by simp[C.iD,u0 (l:=Q)]
def asF{W V:Nat}{R:Nat->Bool}(v:Value):(LY v).bd X W V R=true:=by
 have Q:∀w,(Ic w).bd X W V R=true:=λw=>by cases w<;>simp[Ic,C.aZ,K.aZ,BE.aZ,RE.aZ]
 cases v<;>try simp[LY,C.aZ,K.aZ,BE.aZ,RE.aZ]
 rw[u0];intro x P;obtain⟨w,-,rfl⟩:=hJ.1 P;exact Q w
def Ac(X:R.bd=J){x:Operand}(W:wA x=J):(R.ev cf.gl x).bd R.ni R.nb (Y R.rs) (aL R.au)=true:=by
 simp only[S.bd,az] at X;cases x with
 |tmp t=>
  simp only[S.ev,wq,dB];cases V:R.tmps[t]? with
  |none=>simp[C.aZ]
  |some v=>exact uY X.1 V
 |const v=>exact asF v
 |global g=>cases W
 |func f=>simp[S.ev,C.aZ,C.iD]
def Yr{W V:Nat}{R:Nat->Bool}(h:r.bd X W V R=J):C.dQ X W V R r.cells=true:=by
 cases r<;>simp only[C.cells,C.iD,LV]<;>first|exact h|(simp only[C.aZ] at h;exact h)
def Ys{X W V:Nat}{R:Nat->Bool}:∀{vs l:av}{Q:Nat},C.dQ X W V R l=J->C.dQ X W V R vs=J->C.dQ X W V R (kU l Q vs)=J
 |[],l,Q,h,_=>h
 |v::vs,l,Q,h,P=>by
  simp only[C.iD,az] at P;rw[kU];refine Ys (vs:=vs) ?_ P.2;rw[u0] at h⊢;intro x N;rcases C9 N with O|O;exact h x O;rw[O];exact P.1
def ahB{V R Q:Nat}{P:Nat->Bool}{place:Nat->Option (Nat×Nat)}:∀{O:List (Nat×C)}{W l:av},C.dQ V R Q P W=J->(∀q∈O,q.2.bd V R Q P=J)->xP place W O=U l->C.dQ V R Q P l=J
 |[],W,l,h,_,X=>by simp[xP] at X;subst X;exact h
 |(i,v)::r,W,l,h,N,X=>by
  simp only[xP] at X;split at X;cases X;split at X;cases X;exact ahB (Ys h (Yr (N (i,v) LR))) (λq M=>N q (Da _ M)) X
def RI{W V:Nat}{R:Nat->Bool}(Q:TI):C.dQ X W V R (dZ Q)=true:=by
 rw[u0];intro x P;obtain⟨c,-,rfl⟩:=hJ.1 P;cases c<;>simp[Bl,C.aZ,K.aZ,BE.aZ,RE.aZ]
def ahC{X W V:Nat}{R:Nat->Bool}{l:av}(h:C.dQ X W V R l=J):∀n,C.dQ X W V R (wv n l)=J
 |0=>rfl
 |n+1=>by rw[wv,Yq];exact⟨h,ahC h n⟩
mutual
def C.M4{W V R:Nat}{Q P:Nat->Bool}(h:∀i,Q i=J->P i=J):∀(v:C),v.bd W V R Q=J->v.bd W V R P=J
 |.int _ _,X=>by simp only[C.aZ] at X⊢;exact X
 |.bool _,X=>by simp only[C.aZ] at X⊢;exact X
 |.am _,X=>by simp only[C.aZ] at X⊢;exact X
 |.loc i _,X=>by simp only[C.aZ] at X⊢;exact h i X
 |.iP i _ _ _,X=>by simp only[C.aZ] at X⊢;exact h i X
 |.el _ _ _ _,X=>by simp only[C.aZ] at X⊢;exact X
 |.agg l,X=>by simp only[C.aZ] at X⊢;exact C.DP h l X
 |.bP l,X=>by simp only[C.aZ] at X⊢;exact C.DP h l X
 |.fn _ l,X=>by simp only[C.aZ] at X⊢;exact C.DP h l X
 |.gJ _ x,X=>by simp only[C.aZ] at X⊢;exact C.M4 h x X
 |.yl _,_=>by simp only[C.aZ]
 |.any,_=>by simp only[C.aZ]
 |.mp i,X=>by simp only[C.aZ] at X⊢;exact h i X
 |.fW _ _ O,X=>by simp only[C.aZ,az] at X⊢;exact⟨X.1,C.DP h O X.2⟩
def C.DP{W V R:Nat}{Q P:Nat->Bool}(h:∀i,Q i=J->P i=J):∀(l:av),C.dQ W V R Q l=J->C.dQ W V R P l=J
 |[],_=>rfl
 |x::O,X=>by simp only[C.iD,az] at X⊢;exact⟨C.M4 h x X.1,C.DP h O X.2⟩
end
def BY{V R Q:Nat}{P:Nat->Bool}:∀{l:bE},C.qm V R Q P l=J<->∀(i:Nat)(b:TypeId×av),cg l i=U b->C.dQ V R Q P b.2=J
 |[]=>by simp[C.qm,cH]
 |Z::W=>by
  simp only[C.qm,BY (l:=W)];exact⟨λh i b X=>by cases i with
   |zero=>simp[cH] at X
   |succ i=>exact h i b (by simpa[cH] using X),λh i b X=>h (i+1) b (by simpa[cH] using X)⟩
 |some x::W=>by
  simp only[C.qm,az,BY (l:=W)];exact⟨λh i b X=>by cases i with
   |zero=>simp[cH] at X;subst X;exact h.1
   |succ i=>exact h.2 i b (by simpa[cH] using X),λh=>⟨h 0 x (by simp[cH]),λi b X=>h (i+1) b (by simpa[cH] using X)⟩⟩
def S.more(s:S)(n:Nat)(t:TypeId)(X:av)(d:cw)(w:C):S:=(s.cZ n t X).put d w
def ahD{d:cw}(Q:R.bd=J)(G:gf R.au X=J)(H:R.eV e=J)(F:r.bd R.ni R.nb (Y R.rs) (λi=>i==X)=J):(R.more X v e d r).bd=true:=by
 have N:=(mJ G).2;have P:∀i,aL R.au i=J->aL (R.au.set X (U (v,e))) i=true:=λi V=>(oX N).2 (.inr V)
 simp only[S.eV,S.bd,az] at Q H;simp only[S.more,S.bd,az];obtain⟨D,B,A⟩:=fK (R.cZ X v e) d r;rw[D,B,A,lH];simp only[S.cZ];refine⟨?_, ?_⟩;rw[u0];intro W M;cases d with
 |none=>exact C.M4 P W (u0.1 Q.1 W M)
 |some d=>
  simp only[S.put,uQ] at M;rcases C9 M with L|L;exact C.M4 P W (u0.1 Q.1 W L);rw[L];exact C.M4 (λi V=>by simp at V;subst V;exact(oX N).2 (.inl rfl)) r F
 rw[BY];intro i b O;by_cases V:i=X;subst V;rw[F9 N] at O;cases O;exact C.DP P e H.2;rw[yg V] at O;exact C.DP P _ (BY.1 Q.2 i b O)
def Yt{y:OM}{s r:S}{O:ak}(c:gF y.o.op=J)(b:y.o.op.operands.toList.all wA=J)(h:iG cf y s O r):
  ∃t N w,r=s.more y.ix t N y.o.dst w/\gf s.au y.ix=J/\(∀a nb nr,w.bd a nb nr (λi=>i==y.ix)=J)/\
   ∀(X:S)(F:ak),(∀x∈y.o.op.operands.toList,X.ev cf.gl x=s.ev cf.gl x)->X.bd=J->gf X.au y.ix=J->X.eV N=J/\iG cf y X F (X.more y.ix t N y.o.dst w):=by
 unfold iG gt at h;split at h;exact h.elim;rename_i hk;have n:∀x∈y.o.op.operands.toList,wA x=true:=fp.1 b;have A:∀X:S,(∀x∈y.o.op.operands.toList,X.ev cf.gl x=s.ev cf.gl x)->¬(y.o.op.operands.toList.any λz=>(X.ev cf.gl z).eJ)=true:=by
  intro X V hh;obtain⟨z,m,aa⟩:=kS.1 hh;exact hk (kS.2 ⟨z,m,by rw[<-V z m];exact aa⟩)
 split at h;rename_i t W;split at h;rename_i D M;split at h;rename_i R;simp only[az] at R;refine⟨t,dZ D,.loc y.ix 0,h,sH R.2,λ_ _ _=>by simp[C.aZ],λX F V P L=> ?_⟩;have Q:X.eV (dZ D)=true:=by simp only[S.eV,P,Fl];exact RI D
 refine⟨Q, ?_⟩;unfold iG gt;rw[aK (A X V)];have H:pE X.au y.ix t=true:=by simp[pE,L,IW R.2]
 simp only[W,M,Q,H,wj,cS];rfl;exact h.elim;exact h.elim;rename_i t z W;split at h;rename_i D M;split at h;rename_i R;simp only[az] at R;obtain⟨⟨⟨l,k⟩,B⟩,j⟩:=R;refine⟨t,(s.ev cf.gl z).cells,.loc y.ix 0,h,sH j,λ_ _ _=>by simp[C.aZ],λX F V P L=> ?_⟩;have G:=V z (by rw[W];simp[io]);have Q:X.eV (s.ev cf.gl z).cells=true:=by
  simp only[S.eV,P,Fl];rw[<-G];exact Yr (Ac P (n z (by rw[W];simp[io])))
 refine⟨Q, ?_⟩;unfold iG gt;rw[aK (A X V)];have H:pE X.au y.ix t=true:=by simp[pE,L,IW j]
 simp only[W,M,G,l,Q,B,H,wj,cS];rfl;exact h.elim;exact h.elim;rename_i t v parts W;split at h;rename_i e ao q M;split at h;rename_i te ab;split at h;rename_i N g;split at h;rename_i R;simp only[az] at R;obtain⟨⟨l,k⟩,B⟩:=R;refine⟨e,N,.iP y.ix 0 v v,h,sH B,λ_ _ _=>by simp[C.aZ],λX F V P L=> ?_⟩;have G:(parts.toList.map λp=>(p.1,X.ev cf.gl p.2))=parts.toList.map λp=>(p.1,s.ev cf.gl p.2):=kb λp u=>by rw[V p.2 (by rw[W];simp[io];exact⟨p.1,by simpa using u⟩)]
 have Q:X.eV N=true:=by
  simp only[S.eV,P,Fl];refine ahB (ahC (RI te) v) (λq f=> ?_) g;rw[<-G] at f;obtain⟨d,u,rfl⟩:=hJ.1 f;exact Ac P (n d.2 (by rw[W];simp[io];exact⟨d.1,by simpa using u⟩))
 refine⟨Q, ?_⟩;unfold iG gt;rw[aK (A X V)];have H:pE X.au y.ix e=true:=by simp[pE,L,IW B]
 simp only[W,M,ab,G,g,Q,k,H,wj,cS];rfl;exact h.elim;exact h.elim;exact h.elim;exact h.elim
 all_goals(rename_i W;simp[gF,W] at c)<;>skip
def M5(h:gF l.op=J):ec cf R l=.op:=by
 unfold ec;cases X:l.op<;>rw[X] at h<;>simp[gF] at h<;>rfl
def Jj{X:Bool}(h:gF l.op=J)(W:X=J):eH cf l b X R=none:=by
 subst W;unfold eH;cases V:l.op<;>rw[V] at h<;>simp[gF] at h<;>first|rfl|simp
def yt(s:S)(n:Nat)(t:TypeId)(X:av)(d:cw)(w:C):(s.more n t X d w).ni=s.ni/\(s.more n t X d w).nb=s.nb/\(s.more n t X d w).rs=s.rs:=fK _ _ _
def Jk{d:cw}{q:Nat}(h:d≠U q):(R.more X v e d r).tmps[q]?=R.tmps[q]?:=md h
def BZ(s:S)(n:Nat)(t:TypeId)(X:av)(d:cw)(w:C):(s.more n t X d w).au=s.au.set n (U (t,X)):=lH _ _ _
def B3{d W:cw}{w:C}(h:∀x,d=U x->W≠U x):(R.put d r).more X v e W w=(R.more X v e W w).put d r:=by
 unfold S.more;have:(R.put d r).cZ X v e=(R.cZ X v e).put d r:=by cases d<;>rfl
 rw[this,Yj h]
def Yu{s:S}{n n':Nat}{X:TypeId}{W V:av}{d e:cw}{w:C}(h:∀x,d=U x->e≠U x)(R:n≠n'):(s.more n v W d r).more n' X V e w=(s.more n' X V e w).more n v W d r:=by
 show((s.cZ n v W).put d r).more n' X V e w=_;rw[B3 h];unfold S.more;have:((s.cZ n v W).cZ n' X V).put e w=((s.cZ n' X V).put e w).cZ n v W:=by
  have Q:(s.cZ n v W).cZ n' X V=(s.cZ n' X V).cZ n v W:=by simp only[S.cZ];rw[List.set_comm _ _ R]
  rw[Q];cases e<;>rfl
 rw[this]
def ahE:∀{l:av}{P O N:Nat}{V:Nat->Bool}{i:Nat},C.dQ P O N V l=J->i∈C.oN l->V i=true:=by
 have L:∀(n:Nat)(l:av),SizeOf.sizeOf l<n->∀{P O N:Nat}{V:Nat->Bool}{i:Nat},C.dQ P O N V l=J->i∈C.oN l->V i=true:=by
  intro n;induction n with
  |zero=>intro l h;omega
  |succ n R=>
   intro l Q P O N V i W X;cases l with
   |nil=>simp[C.oN] at X
   |cons x M=>
    simp only[C.iD,az] at W;simp only[C.oN,eP] at X;simp only[List.cons.sizeOf_spec] at Q;rcases X with X|X;cases x with
    |loc j o=>simp[C.FE] at X;subst X;simpa only[C.aZ] using W.1
    |iP j a b c=>simp[C.FE] at X;subst X;simpa only[C.aZ] using W.1
    |agg m=>exact R m (by simp at Q;omega) (by simpa only[C.aZ] using W.1) X
    |bP m=>exact R m (by simp at Q;omega) (by simpa only[C.aZ] using W.1) X
    |fn f m=>exact R m (by simp at Q;omega) (by simpa only[C.aZ] using W.1) X
    |gJ t y=>exact R [y] (by
     have H:0<SizeOf.sizeOf M:=by cases M<;>simp<;>omega
     simp at Q⊢;omega) (by simpa[C.iD,C.aZ] using W.1) (by simpa[C.oN,C.FE] using X)
    |mp j=>simp[C.FE] at X;subst X;simpa only[C.aZ] using W.1
    |fW e G m=>exact R m (by simp at Q;omega) (by have:=W.1;simp only[C.aZ,az] at this;exact this.2) X
    |_=>simp[C.FE] at X
    exact R M ae W.2 X
 intro l P O N V i;exact L _ l (Nat.lt_succ_self _)
def ahF{l:bE}{x:TypeId×av}(h:X∉t)(R:gf l X=J):rg t 0 (l.set X (U x))=rg t 0 l:=by
 apply ke;intro i;rw[Ro,Ro,iJ];by_cases W:i=X;subst W;have V:=(mJ R).2;rw[Fc V,cK V];simp[h];rw[qX (λe=>W e.symm)]
def ahG(X:aQ)(s:S)(n:Nat)(t:TypeId)(W:av)(d:cw)(w:C):((s.more n t W d w).cz X).1=(s.cz X).1/\((s.more n t W d w).cz X).2=(s.cz X).2.more n t W d w:=by
 induction X generalizing s with
 |nil=>exact⟨rfl,rfl⟩
 |cons k X V=>
  simp only[S.cz];have R:((s.more n t W d w).fresh k).1=(s.fresh k).1/\((s.more n t W d w).fresh k).2=(s.fresh k).2.more n t W d w:=by
   cases k<;>cases d<;>exact⟨rfl,rfl⟩
  rw[R.1,R.2];exact⟨by rw[(V _).1],(V _).2⟩
def RJ(s:S)(X:av)(W:aQ)(n:Nat)(t:TypeId)(V:av)(d:cw)(w:C):(s.more n t V d w).cut X W=(s.cut X W).more n t V d w:=by cases d<;>rfl
def asG{d:cw}(h:(R.put d r).bd=J)(X:∀e,d=U e->wM R e):R.bd=true:=by
 cases d with
 |none=>exact h
 |some d=>
  simp only[S.bd,S.put,uQ,az] at h⊢;exact⟨Ym h.1 (X d rfl),h.2⟩
def ahH{V:cw}{d:cw}{bz:BE}{W:TypeId}{k:RK}{x:LE}{cY:aw}{b:BI}(O:(R.more X v e V r).bd=J)(N:∀q,V=U q->d≠U q)
  (h:jY R d bz W k x t cY=U b):jY (R.more X v e V r) d bz W k x t cY=U {b with s:=b.s.more X v e V r}:=by
 unfold jY at h⊢;split at h;rename_i Q;cases h;simp only[az] at Q;obtain⟨⟨⟨A,M⟩,L⟩,H⟩:=Q;obtain⟨G,F,P⟩:=yt R X v e V r;rw[aI (by simp only[az];rw[G,F,P];exact⟨⟨⟨O,M⟩,L⟩,H⟩)];congr 2;rw[P,B3 (λq D B=>N q B D)];cases V<;>rfl;cases h
def asH{Q:cw}{P:Ty}{W:TypeId}{O:TI}{y:C}{V:LE×BE×aw}(L:gf R.au X=J)(h:rh P R W O y=U V):rh P (R.more X v e Q r) W O y=U V:=by
 have N:(R.more X v e Q r).rs=R.rs:=(yt _ _ _ _ _ _).2.2;unfold rh at h⊢;split at h;simp only[BT N];exact h;rename_i i G F D;rw[BZ];split at h;rename_i M;have H:i≠X:=λW=>by subst W;have:=(mJ L).1;simp[aL,(ye M).1] at this
 rw[MA (yg H)];simp only[M,DO N];exact h;cases h;cases h
def ahI{V:cw}{W:TypeId}{y:C}:ww (R.more X v e V r) W b y=ww R W b y:=by
 have Q:(R.more X v e V r).rs=R.rs:=(yt _ _ _ _ _ _).2.2;have P:(R.more X v e V r).lk=R.lk:=RG _ _ _;unfold ww;simp only[Q,P]
def asI{Q:cw}{W:BI}(H:gf R.au X=J)(M:(R.more X v e Q r).bd=J)(L:∀q,Q=U q->l.dst≠U q)
  (P:∀z∈l.op.operands.toList,(R.more X v e Q r).ev cf.gl z=R.ev cf.gl z)(h:eH cf l b J R=U W):eH cf l b J (R.more X v e Q r)=U {W with s:=W.s.more X v e Q r}:=by
 have G:(R.more X v e Q r).rs=R.rs:=(yt _ _ _ _ _ _).2.2;have O:=Ji h;unfold eH at h⊢;cases F:l.op<;>rw[F] at O h P<;>simp[tO] at O;rename_i t' D B;simp only at h⊢;rw[P D cL,P B cL];split at h;rename_i V ao q A m2 y x u;split at h;rename_i m k;split at h;rename_i j;rw[DO G,aI j];exact ahH M L h;cases h;cases h;cases h;rename_i c;cases N:c.callee with
 |builtin i=>
  cases i<;>simp[N] at O;simp only[N] at h⊢;have g:c.args.toList.map ((R.more X v e Q r).ev cf.gl)=c.args.toList.map (R.ev cf.gl):=kb λz f=>P z (by simp[io,zw];exact .inr (by simpa using f))
  rw[g];split at h;rename_i t1 t2 x0 y0 x u;split at h;rename_i V ao q e2 aa q2 y ab;split at h;rename_i m k;split at h;cases h;rename_i d;rw[aK d,ahI];split at h;rename_i la n1 ac lb A cY a g2;rw[a,asH H g2];exact ahH M L h;cases h;cases h;cases h;cases h
 |_=>simp[N] at O
mutual
def C.ep{Q P O N M L:Nat}{H G:Nat->Bool}(W:Q<=N)(V:P<=M)(R:O<=L)(h:∀i,H i=J->G i=J):∀(v:C),v.bd Q P O H=J->v.bd N M L G=J
 |.int _ e,X=>by simp only[C.aZ] at X⊢;exact K.ep W V R e X
 |.bool e,X=>by simp only[C.aZ] at X⊢;exact BE.ep W V R e X
 |.am e,X=>by simp only[C.aZ] at X⊢;exact RE.ep W V R e X
 |.loc i _,X=>by simp only[C.aZ] at X⊢;exact h i X
 |.iP i _ _ _,X=>by simp only[C.aZ] at X⊢;exact h i X
 |.el r _ i _,X=>by simp only[C.aZ,az] at X⊢;exact⟨RE.ep W V R r X.1,K.ep W V R i X.2⟩
 |.agg l,X=>by simp only[C.aZ] at X⊢;exact C.Jl W V R h l X
 |.bP l,X=>by simp only[C.aZ] at X⊢;exact C.Jl W V R h l X
 |.fn _ l,X=>by simp only[C.aZ] at X⊢;exact C.Jl W V R h l X
 |.gJ _ x,X=>by simp only[C.aZ] at X⊢;exact C.ep W V R h x X
 |.yl _,_=>by simp only[C.aZ]
 |.any,_=>by simp only[C.aZ]
 |.mp i,X=>by simp only[C.aZ] at X⊢;exact h i X
 |.fW e _ F,X=>by simp only[C.aZ,az] at X⊢;exact⟨K.ep W V R e X.1,C.Jl W V R h F X.2⟩
def C.Jl{W V R Q P O:Nat}{N M:Nat->Bool}(L:W<=Q)(H:V<=P)(G:R<=O)(h:∀i,N i=J->M i=J):∀(l:av),C.dQ W V R N l=J->C.dQ Q P O M l=J
 |[],_=>rfl
 |x::F,X=>by simp only[C.iD,az] at X⊢;exact⟨C.ep L H G h x X.1,C.Jl L H G h F X.2⟩
end
def M6{s':S}{d:cw}(X:R.bd=J)(V:R.ni<=s'.ni)(Q:R.nb<=s'.nb)(P:Y R.rs<=Y s'.rs)(N:s'.tmps=R.tmps)(M:s'.au=R.au)(L:r.bd s'.ni s'.nb (Y s'.rs) (aL s'.au)=J):(s'.put d r).bd=true:=by
 simp only[S.bd,az] at X⊢;obtain⟨H,G,F⟩:=fK s' d r;rw[H,G,F,lH,M];rw[M] at L;refine⟨?_, ?_⟩;rw[u0];intro u W;cases d with
 |none=>
  simp only[S.put,N] at W;exact C.ep V Q P (λ_ h=>h) u (u0.1 X.1 u W)
 |some d=>
  simp only[S.put,uQ,N] at W;rcases C9 W with O|O;exact C.ep V Q P (λ_ h=>h) u (u0.1 X.1 u O);rw[O];exact L
 rw[BY];exact λi b D=>C.Jl V Q P (λ_ h=>h) _ (BY.1 X.2 i b D)
def Yv:∀(X:aQ)(s:S),s.ni<=(s.cz X).2.ni/\s.nb<=(s.cz X).2.nb/\Y s.rs<=(s.cz X).2.rs.length
 |[],s=>⟨cd _,cd _,cd _⟩
 |k::X,s=>by
  have:=Yv X (s.fresh k).2;simp only[S.cz];cases k<;>simp[S.fresh] at this⊢<;>omega
def ahJ{pr:Nat->Bool}:∀(X:aQ)(s:S),C.dQ (s.cz X).2.ni (s.cz X).2.nb (s.cz X).2.rs.length pr (s.cz X).1=J
 |[],s=>rfl
 |k::X,s=>by
  have W:=ahJ (pr:=pr) X (s.fresh k).2;have V:=Yv X (s.fresh k).2;simp only[S.cz,C.iD,az];refine⟨?_,W⟩;cases k<;>simp only[S.fresh,C.aZ,K.aZ,BE.aZ,RE.aZ,cF]<;>simp[S.fresh] at V<;>omega
def ahK{N:Ty}{W V R:Nat}{Q:Nat->Bool}:∀{O:jC}{l r:av},C.dQ W V R Q l=J->zF N O l=U r->C.dQ W V R Q r=J
 |[],l,r,_,h=>by simp[zF] at h;subst h;rfl
 |t::O,l,r,X,h=>by
  simp only[zF] at h;split at h;rename_i M F;split at h;rename_i D L;cases h;have H:C.dQ W V R Q (l.drop (Y M.ao))=true:=by rw[u0] at X⊢;exact λv P=>X v (Bf P)
  simp only[C.iD,az];refine⟨?_,ahK H L⟩;split;simp only[C.aZ];rw[u0] at X⊢;exact λv P=>X v (Db P)
  rw[dB];cases G:l[0]? with
  |none=>simp[C.aZ]
  |some v=>exact uY X G
  cases h;cases h
def asJ{W V:Nat}{R:Nat->Bool}(h:C.dQ X W V R e=J):(one e).bd X W V R=true:=by
 unfold one;split;simp only[C.iD,LV] at h;exact h;simp only[C.aZ];exact h
def asK(W:R.bd=J){X:aQ}{V:jC}{r:av}{d:cw}(h:zF cf.ty V ((R.cut e X).cz X).1=U r):((((R.cut e X).cz X).2).put d (one r)).bd=true:=by
 obtain⟨Q,P,L,H⟩:=wL X (R.cut e X);obtain⟨O,N,M⟩:=Yv X (R.cut e X);refine M6 W O N ?_ P Q (asJ (ahK (ahJ X _) h));have:=(DK e X R.rs).len;simp only[S.cut] at M⊢;omega
def M7{X:BI}(h:eH cf l b J R=U X):R.bd=J/\X.s.bd=J/\X.s.au=R.au:=by
 have P:∀{bz:BE}{e:TypeId}{k:RK}{x:LE}{V cY:aw},jY R l.dst bz e k x V cY=U X->R.bd=J/\X.s.bd=J/\X.s.au=R.au:=by
  intro bz e k x V cY h;obtain⟨O,-,rfl⟩:=yj h;refine⟨O, ?_,lH _ _ _⟩;exact M6 (s':={R with rs:=jX cY 0 (iY V 0 R.rs)++[k]}) O (cd _) (cd _) (by simp[zU,zT]) rfl rfl (by simp[C.aZ,RE.aZ,zU,zT])
 have W:=Ji h;unfold eH at h;cases N:l.op<;>rw[N] at W h<;>simp[tO] at W;simp only at h;split at h;split at h;split at h;exact P h;cases h;cases h;cases h;rename_i c;cases Q:c.callee with
 |builtin M=>
  cases M<;>simp[Q] at W;simp only[Q] at h;split at h;split at h;split at h;split at h;cases h;split at h;exact P h;cases h;cases h;cases h;cases h
 |_=>simp[Q] at W
def Yw{Q:S}(V:gF h.o.op=J)(X:iG cf h R x Q):R.bd=true:=by
 unfold iG gt at X;split at X;exact X.elim
 ·cases P:h.o.op<;>rw[P] at V X<;>simp[gF] at V<;>simp only at X
  all_goals
   (repeat' split at X)
   all_goals first
    |exact X.elim
    |(rename_i W;simp only[az,S.eV] at W;first|exact W.1.1|exact W.1.1.2.1|exact W.1.1.1)
def asL{X:TI}(W:h.o.op=.alloc v)(V:cf.ty v=U X)(Q:qg v=E)(P:R.bd=J)(N:gf R.au h.ix=J):iG cf h R x (R.more h.ix v (dZ X) h.o.dst (.loc h.ix 0)):=by
 have M:R.eV (dZ X)=true:=by simp only[S.eV,P,Fl];exact RI X
 unfold iG gt;rw[aK (by rw[W];simp[io])];have L:pE R.au h.ix v=true:=by simp[pE,N,Q]
 simp only[W,V,M,L,wj,cS];rfl
def asM{y:OM}{s X:S}{O:ak}{t:TypeId}{W:TI}(V:y.o.op=.alloc t)(R:cf.ty t=U W)(h:iG cf y s O X):X=s.more y.ix t (dZ W) y.o.dst (.loc y.ix 0):=by
 unfold iG gt at h;rw[aK (by rw[V];simp[io])] at h;simp only[V,R] at h;split at h;exact h;exact h.elim
structure asN(B:dI)(x y:OM):Prop where
 xy:∀q,x.o.dst=U q->y.o.dst≠U q
 yx:∀q,y.o.dst=U q->x.o.dst≠U q
 ry:∀q,x.o.dst=U q->q∉jM B y.o
 rx:∀q,y.o.dst=U q->q∉jM B x.o
def ahL{x y:OM}(h:QB B x y=J):asN B x y:=by
 unfold QB at h;simp only[az] at h;obtain⟨W,V⟩:=h;have R:∀q,x.o.dst=U q->y.o.dst≠U q:=λq X=>by rw[X] at W;simp at W;exact W.2
 exact⟨R,λq X Q=>R q Q X,λq X=>by rw[X] at W;simp at W;exact W.1,λq X=>by rw[X] at V;simpa using V⟩
def Yx{X:S}(W:∀t∈jM B l,R.tmps[t]?=X.tmps[t]?):∀z∈l.op.operands.toList,R.ev cf.gl z=X.ev cf.gl z:=by
 intro z V;cases z with
 |tmp t=>
  have:t∈jM B l:=by unfold jM;exact we _ (Bg.2 ⟨.tmp t,V,rfl⟩)
  simp only[S.ev,wq,dB,W t this]
 |_=>rfl
def ahM{X:S}(W:∀t∈jM B h.o,R.tmps[t]?=X.tmps[t]?)(V:R.ni=X.ni)(Q:R.nb=X.nb)(P:R.rs=X.rs):gP B h R x=gP B h X x:=by
 unfold gP;cases N:h.o.guard with
 |none=>rfl
 |some q=>
  obtain⟨j,L⟩:=q;simp only;cases M:(B[j]?).bind (·.dst) with
  |none=>rfl
  |some d=>
   simp only;rw[W d (by unfold jM;rw[N];exact LP _ (by simp[M])),V,Q,P]
def ahN{g:FuncId}(h:ec cf R l=.call (.fn g) e)(X:R.bd=J)(Q:l.op.operands.toList.all wA=J):C.dQ R.ni R.nb (Y R.rs) (aL R.au) e=true:=by
 have W:∀x∈l.op.operands.toList,wA x=true:=fp.1 Q;unfold ec at h;split at h;split at h<;>cases h;rename_i c V;split at h;rename_i f P;split at h;rename_i L H O;split at h;cases h;cases h;rw[Yq];refine⟨?_, ?_⟩;rw[u0];intro v N;obtain⟨z,M,rfl⟩:=hJ.1 N;exact Ac X (W z (by rw[V];simp[io,zw];exact .inr (by simpa using M)));have:=Ac (cf:=cf) X (W f (by rw[V];simp[io,zw,P]));rw[O] at this;simpa only[C.aZ] using this;split at h<;>cases h;cases h;cases h;split at h;split at h<;>cases h;cases h;cases h;cases h
def asO{g:FuncId}{Q A:ak->C->S->Prop}{H:av}{d:cw}(F:gf R.au X=J)(z:C.dQ R.ni R.nb (Y R.rs) (aL R.au) e=J)(m:(R.more X v H d r).bd=J)
  (h:Je p cf R x g e Q)(l:∀y (G:jC)(L:aQ)(P:av),zF cf.ty G ((R.cut e L).cz L).1=U P->Q y (one P) ((R.cut e L).cz L).2->A y (one P) (((R.cut e L).cz L).2.more X v H d r)):Je p cf (R.more X v H d r) x g e A:=by
 obtain⟨G,L,P,k,j,q,o,f⟩:=h;obtain⟨c,b,D⟩:=yt R X v H d r;obtain⟨a,f2⟩:=ahG L (R.cut e L) X v H d r;have aa:X∉C.oN e:=λhm=>by have:=ahE z hm;rw[(mJ F).1] at this;cases this
 have ab:rg (C.oN e) 0 (R.more X v H d r).au=rg (C.oN e) 0 R.au:=by rw[BZ];exact ahF aa F
 simp only[az,S.eV] at o;refine⟨G,L,P,k,j,by rw[RJ,a];exact q, ?_,λV W N=> ?_⟩;simp only[az,S.eV];refine⟨⟨m, ?_⟩,o.2⟩;rw[c,b,D,BZ];exact C.DP (λi hi=>(oX (mJ F).2).2 (.inr hi)) e z;rw[ab,D] at N;refine(f V W N).mono ?_;intro M W' B;cases M with
 |returned u=>
  obtain⟨xs,q1,q2,q3,q4,q5⟩:=B;refine⟨xs,q1,q2,q3,by rw[D];exact q4, ?_⟩;rw[RJ,f2];exact l _ G L P q q5
 |panicked ch=>exact B
 |outgrown=>exact B
def asP{g:FuncId}{Q B:ak->C->S->Prop}{H:av}{d:cw}(A:gf R.au X=J)(z:C.dQ R.ni R.nb (Y R.rs) (aL R.au) e=J)(k:R.bd=J)
  (h:Je p cf (R.more X v H d r) x g e Q)(j:∀y (G:jC)(L:aQ)(P:av),zF cf.ty G ((R.cut e L).cz L).1=U P->Q y (one P) (((R.cut e L).cz L).2.more X v H d r)->B y (one P) ((R.cut e L).cz L).2):Je p cf R x g e B:=by
 obtain⟨G,L,P,i,f,F,q,c⟩:=h;obtain⟨p1,p2,o⟩:=yt R X v H d r;obtain⟨b,a⟩:=ahG L (R.cut e L) X v H d r;have aa:X∉C.oN e:=λhm=>by have:=ahE z hm;rw[(mJ A).1] at this;cases this
 have ab:rg (C.oN e) 0 (R.more X v H d r).au=rg (C.oN e) 0 R.au:=by rw[BZ];exact ahF aa A
 simp only[az,S.eV] at q;rw[RJ,b] at F;refine⟨G,L,P,i,f,F, ?_,λV W N=> ?_⟩;simp only[az,S.eV];exact⟨⟨k,z⟩,q.2⟩;refine(c V W (by rw[ab,o];exact N)).mono ?_;intro M W' D;cases M with
 |returned u=>
  obtain⟨xs,q1,q2,q3,m,l⟩:=D;rw[o] at m;rw[RJ,a] at l;exact⟨xs,q1,q2,q3,m,j _ G L P F l⟩
 |panicked ch=>exact D
 |outgrown=>exact D
def asQ(af:DL B A){x y:OM}{u:cN}{s:S}{O:ak}(b0:x.so=E)(a1:Ir B x y=J)(b1:∀d,x.o.dst=U d->wM s d)(N:gf s.au y.ix=J)(hz:∀t,y.o.op=.alloc t->FU cf t=J)
  (h:eA p cf B A F G H (x::y::u) O s):eA p cf B A F G H (y::x::u) O s:=by
 unfold Ir at a1;simp only[az] at a1;obtain⟨⟨⟨⟨⟨⟨⟨⟨a3,bg⟩,hy⟩,a4⟩,m⟩,b2⟩,bk⟩,b3⟩,bl⟩:=a1;have a4:y.o.guard=none:=by simpa using a4
 have D:=ahL b3;obtain⟨t,l⟩:∃t,y.o.op=.alloc t:=by cases l:y.o.op<;>rw[l] at hy<;>simp[FT] at hy;exact⟨_,rfl⟩
 have ag:=hz t l;simp only[FU,az,gO] at ag;obtain⟨ag,b4⟩:=ag;obtain⟨V,ht⟩:=kD.1 ag;have k:gF y.o.op=true:=by rw[l];rfl
 have br:∀(s':S)(M:ak),gP B y s' M=U true:=λs' M=>by simp[gP,a4]
 have j:∀{M:ak}{i:S},eA p cf B A F G H (y::u) M i->i.bd=J/\eA p cf B A F G H u M (i.more y.ix t (dZ V) y.o.dst (.loc y.ix 0)):=by
  intro M i hr;simp only[eA,br,M5 k,Jj k bg,sJ] at hr;rcases hr with⟨Q,_⟩|⟨_,s3,X,P⟩;cases Q;have:=asM l ht X;subst this;exact⟨Yw k X,P⟩
 have done:s.bd=J->eA p cf B A F G H (x::u) O (s.more y.ix t (dZ V) y.o.dst (.loc y.ix 0))->eA p cf B A F G H (y::x::u) O s:=by
  intro W X;rw[eA];refine .inr ⟨br s O, ?_⟩;rw[M5 k];simp only[Jj k bg,sJ];exact⟨_,asL l ht b4 W N,X⟩
 have al:s.bd=J->(s.more y.ix t (dZ V) y.o.dst (.loc y.ix 0)).bd=true:=λW=>ahD W N (by simp only[S.eV,W,Fl];exact RI V) (by simp[C.aZ])
 obtain⟨p1,p2,p3⟩:=yt s y.ix t (dZ V) y.o.dst (.loc y.ix 0);have a:gP B x (s.more y.ix t (dZ V) y.o.dst (.loc y.ix 0)) O=gP B x s O:=ahM (λq hq=>Jk (λe=>D.rx q e hq)) p1 p2 p3;have aa:∀z∈x.o.op.operands.toList,(s.more y.ix t (dZ V) y.o.dst (.loc y.ix 0)).ev cf.gl z=s.ev cf.gl z:=Yx (λq hq=>Jk (λe=>D.rx q e hq));rw[eA] at h;rcases h with⟨Q,X⟩|⟨Q,X⟩
 ·obtain⟨g1,g2⟩:=j X;refine done (asG g1 b1) ?_;rw[eA];refine .inl ⟨by rw[a];exact Q, ?_⟩;rw[<-B3 D.xy];exact g2
 ·cases R:ec cf s x.o with
  |call g0 a9=>
   rw[R] at X;rcases g0 with g|n
   rotate_left
   have P:=X.1;rw[b0] at P;cases P;have L:pL _ _ _:=X;clear X;cases ab:A g a9 s with
   |some ve=>
    obtain⟨pv,ex⟩:=ve;rw[ab] at L;obtain⟨W,L⟩:=L;have hR:=af.Yg _ _ _ _ ab;have ba:Iq x.o.op=true:=by simpa[hR,Yh R] using bl
    have bf:=ahs ba R;subst bf;refine done W ?_;rw[eA];refine .inr ⟨by rw[a];exact Q, ?_⟩;rw[DN aa,R];show pL _ _ _;rw[show A g [] (s.more y.ix t (dZ V) y.o.dst (.loc y.ix 0))=U (pv,ex) from(af.z _ _ _ _ _ _ _ N).trans ab];refine⟨al W, ?_⟩;have b5:=(mJ N).2;have b6:(s.more y.ix t (dZ V) y.o.dst (.loc y.ix 0)).plus ex=(s.plus ex).more y.ix t (dZ V) y.o.dst (.loc y.ix 0):=by
     have:(s.cZ y.ix t (dZ V)).plus ex=(s.plus ex).cZ y.ix t (dZ V):=by
      simp only[S.cZ,S.plus,List.set_append_left _ _ b5]
     unfold S.more;rw[<-this];cases y.o.dst<;>rfl
    rw[b6,<-B3 D.xy];exact(j L).2
   |none=>
   rw[ab] at L;simp only[pL] at L;have X:=L;have W:s.bd=true:=by obtain⟨ts,ks,r,c1,c2,c3,c4,c5⟩:=X;simp only[az,S.eV] at c4;exact c4.1.1
   refine done W ?_;rw[eA];refine .inr ⟨by rw[a];exact Q, ?_⟩;rw[DN aa,R];show pL _ _ _;have b7:A g a9 (s.more y.ix t (dZ V) y.o.dst (.loc y.ix 0))=none:=by
    cases hh:A g a9 (s.more y.ix t (dZ V) y.o.dst (.loc y.ix 0)) with
    |none=>rfl
    |some r=>
     exfalso;have hR:=af.Yg _ _ _ _ hh;have ba:Iq x.o.op=true:=by simpa[hR,Yh R] using bl
     have bf:=ahs ba R;subst bf;have:=(af.z g s y.ix t (dZ V) y.o.dst (.loc y.ix 0) N).symm.trans hh;rw[ab] at this;cases this
   rw[b7];simp only[pL];refine asO N (ahN R W bk) (al W) X (λM ts ks r _ hr=> ?_);rw[<-B3 D.xy];exact(j hr).2
  |bI v=>
   exfalso;have hp:=Yl R;cases an:x.o.op<;>rw[an] at m hp<;>simp[Ip,gF,tO,xY] at hp m;rename_i c;cases a0:c.callee<;>simp[a0] at hp m;rename_i bb;cases bb<;>simp at hp m
  |no=>rw[R] at X;exact X.elim
  |op=>
   rw[R] at X;simp only at X;cases W:eH cf x.o x.bR x.dr s with
   |some b=>
    rw[W] at X;obtain⟨hn,X⟩:=X;rw[a3] at W;obtain⟨q1,q2,q3⟩:=M7 W;refine done q1 ?_;rw[eA];refine .inr ⟨by rw[a];exact Q, ?_⟩;rw[DN aa,R];simp only;rw[a3,asI N (al q1) D.yx aa W];refine⟨hn,λrv bs=> ?_⟩;rw[p3] at bs;exact(j (X rv bs)).2
   |none=>
    rw[W] at X;obtain⟨i,P,h4⟩:=X;have ac:gF x.o.op=true:=by
     simp only[jd] at m;rcases m with(w|w)|w;exact w;exact(Yn w P).elim
     ·exfalso;cases an:x.o.op<;>rw[an] at w<;>simp[xY] at w;rename_i c;cases a0:c.callee<;>simp[a0] at w;rename_i f;simp only[ec,an,a0] at R
      (repeat' split at R)<;>cases R
    have bt:x.ix≠y.ix:=by simpa[ac] using b2
    have bx:=Yw ac P;obtain⟨tx,cx,wx,rfl,g2,g3,g4⟩:=Yt ac bk P;refine done bx ?_;rw[eA];refine .inr ⟨by rw[a];exact Q, ?_⟩;rw[M5 ac];simp only[Jj ac a3,sJ];refine⟨_,(g4 _ O aa (al bx) ?_).2, ?_⟩;unfold gf at g2⊢;rw[BZ,qX (λe=>bt e.symm)];exact g2;rw[Yu D.yx (λe=>bt e.symm)];exact(j h4).2
def ahO{V:cw}{d:cw}{bz:BE}{W:TypeId}{k:RK}{x:LE}{cY:aw}{P:BI}(N:R.bd=J)(M:∀q,V=U q->d≠U q)
  (h:jY (R.more X v e V r) d bz W k x t cY=U P):∃b,jY R d bz W k x t cY=U b/\P={b with s:=b.s.more X v e V r}:=by
 obtain⟨L,H,O⟩:=yt R X v e V r;unfold jY at h⊢;split at h;rename_i Q;cases h;simp only[az] at Q;rw[L,H,O] at Q;obtain⟨⟨⟨z,G⟩,F⟩,D⟩:=Q;rw[aI (by simp only[az];exact⟨⟨⟨N,G⟩,F⟩,D⟩)];refine⟨_,rfl, ?_⟩;congr 1;rw[O,B3 (λq B A=>M q A B)];cases V<;>rfl;cases h
def asR{P:cw}{O:Ty}{W:TypeId}{N:TI}{y:C}{V:LE×BE×aw}(L:gf R.au X=J)(Q:y.bd R.ni R.nb (Y R.rs) (aL R.au)=J)(h:rh O (R.more X v e P r) W N y=U V):rh O R W N y=U V:=by
 have M:(R.more X v e P r).rs=R.rs:=(yt _ _ _ _ _ _).2.2;unfold rh at h⊢;split at h;simp only[BT M] at h;exact h;rename_i i F D B;rw[BZ] at h;have H:i≠X:=λW=>by subst W;simp only[C.aZ] at Q;rw[(mJ L).1] at Q;cases Q
 rw[MA (yg H)] at h;split at h;rename_i G;simp only[DO M] at h
 first|exact h|(rw[G];exact h)
 cases h;cases h
def asS{Q:cw}{H:BI}(y:gf R.au X=J)(N:R.bd=J)(G:∀q,Q=U q->l.dst≠U q)(u:l.op.operands.toList.all wA=J)
  (P:∀z∈l.op.operands.toList,(R.more X v e Q r).ev cf.gl z=R.ev cf.gl z)(h:eH cf l b J (R.more X v e Q r)=U H):∃W,eH cf l b J R=U W/\H={W with s:=W.s.more X v e Q r}:=by
 have m:(R.more X v e Q r).rs=R.rs:=(yt _ _ _ _ _ _).2.2;have F:∀x∈l.op.operands.toList,wA x=true:=fp.1 u;have O:=Ji h;unfold eH at h⊢;cases k:l.op<;>rw[k] at O h P F<;>simp[tO] at O;rename_i t' j i;simp only at h⊢;rw[P j cL,P i cL] at h;split at h;rename_i V ao q g m2 f d D;split at h;rename_i a aa;split at h;rename_i B;rw[DO m] at B;rw[aI B];exact ahO N G h;cases h;cases h;cases h;rename_i c;cases M:c.callee with
 |builtin bb=>
  cases bb<;>simp[M] at O;simp only[M] at h⊢;have ab:c.args.toList.map ((R.more X v e Q r).ev cf.gl)=c.args.toList.map (R.ev cf.gl):=kb λz L=>P z (by simp[io,zw];exact .inr (by simpa using L))
  rw[ab] at h;split at h;rename_i t1 t2 x0 A d D;have ac:A.bd R.ni R.nb (Y R.rs) (aL R.au)=true:=by
   have:A∈c.args.toList.map (R.ev cf.gl):=by rw[D];simp
   obtain⟨z,L,rfl⟩:=hJ.1 this;exact Ac N (F z (by simp[io,zw];exact .inr (by simpa using L)))
  split at h;rename_i V ao q e2 ag q2 f al;split at h;rename_i a aa;split at h;cases h;rename_i af;rw[aK af];rw[ahI] at h;split at h;rename_i la n1 an lb g cY g1 g2;rw[g1,asR y ac g2];exact ahO N G h;cases h;cases h;cases h;cases h
 |_=>simp[M] at O
def asT(cx:DL B A){x y:OM}{a4:cN}{s:S}{O:ak}(cA:y.so=E)(bl:Ml B x y=J)
  (h:eA p cf B A F G H (x::y::a4) O s):eA p cf B A F G H (y::x::a4) O s:=by
 unfold Ml at bl;simp only[az] at bl;obtain⟨⟨⟨⟨⟨⟨⟨⟨⟨⟨cc,a9⟩,ag⟩,df⟩,br⟩,cB⟩,a3⟩,al⟩,cC⟩,cD⟩,cI⟩:=bl;have br:x.o.guard=none:=by simpa using br
 have D:=ahL cD;have ch:∀(N:S)(O':ak),gP B x N O'=U true:=λN O'=>by simp[gP,br]
 rw[eA] at h;rcases h with⟨h1,_⟩|⟨_,h2⟩;rw[ch] at h1;cases h1;rw[M5 ag] at h2;simp only[Jj ag cc,sJ] at h2;obtain⟨s1,h3,h4⟩:=h2;have Q:=Yw ag h3;obtain⟨t,m,w,rfl,L,hw,tr⟩:=Yt ag cB h3;have dk:s.eV m=true:=(tr s O (λ_ _=>rfl) Q L).1;obtain⟨p1,p2,p3⟩:=yt s x.ix t m x.o.dst w;have bs:gP B y (s.more x.ix t m x.o.dst w) O=gP B y s O:=ahM (λq X=>Jk (λe=>D.ry q e X)) p1 p2 p3;have an:∀z∈y.o.op.operands.toList,(s.more x.ix t m x.o.dst w).ev cf.gl z=s.ev cf.gl z:=Yx (λq X=>Jk (λe=>D.ry q e X));have a0:∀{O':ak}{N:S},(∀q,y.o.dst≠U q->N.tmps[q]?=s.tmps[q]?)->N.bd=J->gf N.au x.ix=J->eA p cf B A F G H a4 O' (N.more x.ix t m x.o.dst w)->eA p cf B A F G H (x::a4) O' N:=by
  intro O' N ht a1 cO hr;rw[eA];refine .inr ⟨ch _ _, ?_⟩;rw[M5 ag];simp only[Jj ag cc,sJ];exact⟨_,(tr N O' (Yx (λq X=>ht q (λe=>D.rx q e X))) a1 cO).2,hr⟩
 rw[eA] at h4;rcases h4 with⟨h5,W⟩|⟨h5,W⟩;rw[eA];refine .inl ⟨by rw[<-bs];exact h5, ?_⟩;refine a0 (λq X=>md X) (M6 (s':=s) Q (cd _) (cd _) (cd _) rfl rfl (by simp[C.aZ,C.iD])) (by rw[lH];exact L) ?_;rw[B3 D.yx];exact W
 ·rw[eA];refine .inr ⟨by rw[<-bs];exact h5, ?_⟩;rw[DN an] at W;cases a:ec cf s y.o with
  |call g0 bx=>
   rw[a] at W;rcases g0 with g|n
   rotate_left
   have h3:=W.1;rw[cA] at h3;cases h3;have cl:∀N,A g bx N=none:=λN=>by
    cases hh:A g bx N with
    |none=>rfl
    |some r=>
     exfalso;have hR:=cx.Yg _ _ _ _ hh;simp[hR,Yh a] at cI
   have hP:pL _ _ _:=W;clear W;rw[cl] at hP;simp only[pL] at hP;have W:=hP;show pL _ _ _;rw[cl];simp only[pL];refine asP L (ahN a Q a3) Q W (λO' ts ks r hm hr=> ?_);obtain⟨b1,b2,b3,b4⟩:=wL ks (s.cut bx ks);refine a0 (λq X=>by rw[md X,b2];rfl) (asK Q hm) (by rw[lH,b1];exact L) ?_;rw[B3 D.yx];exact hr
  |bI v=>
   exfalso;have hp:=Yl a;cases ba:y.o.op<;>rw[ba] at al hp<;>simp[Ip,gF,tO,xY,Dr,xX] at hp al;rename_i c;cases bf:c.callee<;>simp[bf] at hp al;rename_i bb;cases bb<;>simp at hp al
  |no=>rw[a] at W;exact W.elim
  |op=>
   rw[a] at W;show sJ _ _ _;have W:sJ _ _ _:=W;cases bg:eH cf y.o y.bR y.dr (s.more x.ix t m x.o.dst w) with
   |some b1=>
    rw[bg] at W;obtain⟨hn,W⟩:=W;rw[a9] at bg⊢;obtain⟨b,g1,rfl⟩:=asS L Q D.xy a3 an bg;rw[g1];obtain⟨q1,q2,q3⟩:=M7 g1;refine⟨hn,λrv cR=> ?_⟩;refine a0 (Yo g1) q2 (by rw[q3];exact L) (W rv (by rw[p3];exact cR))
   |none=>
    rw[bg] at W;obtain⟨cW,P,h8⟩:=W;by_cases k:Dr y.o.op=J
    
    have X:mY y.o.op=true:=by cases V:y.o.op<;>rw[V] at k<;>simp[Dr] at k<;>rfl
    have dn:zM y.o.op=false:=by cases V:y.o.op<;>rw[V] at k<;>simp[Dr] at k<;>rfl
    rw[a9,ahu X];simp only[sJ];obtain⟨v,l,hv,rfl⟩:=(Jf (ops:=B) X h5).1 P;have c0:kJ cf B y.o (s.more x.ix t m x.o.dst w) O s O:=kJ.yq (λq X=>(Jk (λe=>D.ry q e X)).symm) p3.symm p1.symm p2.symm;have R:=Yi c0 (λi hi=>by
     unfold zC at hi;cases V:y.o.op<;>rw[V] at k hi<;>simp[Dr] at k<;>cases hi) hv
    have cm:gP B y s O=U true:=by rw[<-bs];exact h5
    refine⟨_,(Jf (ops:=B) X cm).2 ⟨v,l,R,rfl⟩, ?_⟩;have c1:v.bd s.ni s.nb (Y s.rs) (aL s.au)=true:=by
     have af:∀z∈y.o.op.operands.toList,wA z=true:=fp.1 a3;rcases R with R|⟨-,-,R⟩;rw[cm] at R;cases R.1;cases V:y.o.op<;>rw[V] at k R af<;>simp[Dr] at k;rename_i z;have:=R.1;simp only[ck,PR.yr] at this;rw[this];exact Ac Q (af z cL);rename_i z;have:=R.1;simp only[ck,PR.yr] at this;rw[this];exact Ac Q (af z cL);rename_i st z f;have aa:=Ac (cf:=cf) Q (af z cL);have:=R.1;simp only[ck] at this;split at this;rename_i hz;rw[hz] at aa;split at this;split at this;split at this;exact this.elim;rw[this];exact aa;exact this.elim;exact this.elim;rename_i hz;rw[hz] at aa;split at this;split at this;split at this;exact this.elim;rw[this];exact aa;exact this.elim;exact this.elim;exact this.elim
    have c2:l=0:=by
     rcases R with R|⟨-,-,R⟩;exact R.2.2;cases V:y.o.op<;>rw[V] at k R<;>simp[Dr] at k<;>exact R.2
    subst c2;rw[Gk] at h8⊢;refine a0 (λq X=>md X) (M6 (s':=s) Q (cd _) (cd _) (cd _) rfl rfl c1) (by rw[lH];exact L) ?_;rw[B3 D.yx];exact h8;by_cases b0:xX y.o.op=J;obtain⟨t',z,u,V⟩:∃t z u,y.o.op=.store t z u:=by cases V:y.o.op<;>rw[V] at b0<;>simp[xX] at b0;exact⟨_,_,_,rfl⟩
    have af:∀z∈y.o.op.operands.toList,wA z=true:=fp.1 a3;have b5:eH cf y.o y.bR y.dr s=none:=by rw[a9];simp[eH,V]
    rw[b5];simp only[sJ];have hz:=an z (by rw[V];simp[io]);have hu:=an u (by rw[V];simp[io]);have aa:=Ac (cf:=cf) Q (af z (by rw[V];simp[io]));have c3:=Ac (cf:=cf) Q (af u (by rw[V];simp[io]));unfold iG gt at P;split at P;exact P.elim;rename_i M;have c4:¬(y.o.op.operands.toList.any λz=>(s.ev cf.gl z).eJ)=true:=by
     intro hh;obtain⟨zz,cn,c5⟩:=kS.1 hh;exact M (kS.2 ⟨zz,cn,by rw[an zz cn];exact c5⟩)
    simp only[V,hz,hu] at P;split at P;rename_i ti i ab c6 hi;have b6:i≠x.ix:=λe=>by subst e;rw[hi] at aa;simp only[C.aZ] at aa;rw[(mJ L).1] at aa;cases aa
    rw[BZ,MA (yg b6)] at P;split at P;rename_i bt ac co;obtain⟨b7,-⟩:=ye co;split at P;rename_i bk;have c7:(s.more x.ix t m x.o.dst w).lk=s.lk:=RG _ _ _;rw[c7] at bk;have ds:((s.ev cf.gl u).cells.length==Y ti.ao)=true:=by simp only[az] at bk;exact bk.1.1.1.1
    refine⟨(s.cZ i bt (kU ac ab (s.ev cf.gl u).cells)).put y.o.dst (.bP []), ?_, ?_⟩;unfold iG gt;rw[aK c4];simp only[V,c6,hi,co];rw[aI bk];rfl;have c8:((s.cZ i bt (kU ac ab (s.ev cf.gl u).cells)).put y.o.dst (.bP [])).bd=true:=by
     have cp:i<Y s.au:=(bZ.1 (jO.1 b7)).1;have c9:∀j,aL (s.au.set i (U (bt,kU ac ab (s.ev cf.gl u).cells))) j=aL s.au j:=λj=>by
      by_cases hj:j=i;subst hj;simp[aL,F9 cp,b7];simp[aL,yg hj]
     have dc:aL (s.au.set i (U (bt,kU ac ab (s.ev cf.gl u).cells)))=aL s.au:=funext c9;have a1:=Q;simp only[S.bd,az] at a1;have b5:(s.cZ i bt (kU ac ab (s.ev cf.gl u).cells)).bd=true:=by
      simp only[S.bd,S.cZ,dc,az];refine⟨a1.1, ?_⟩;rw[BY];intro j b hj;by_cases ct:j=i;subst ct;rw[F9 cp] at hj;cases hj;exact Ys (BY.1 a1.2 j _ b7) (Yr c3);rw[yg ct] at hj;exact BY.1 a1.2 j b hj
     exact M6 (s':=s.cZ i bt (kU ac ab (s.ev cf.gl u).cells)) b5 (cd _) (cd _) (cd _) rfl rfl (by simp[C.aZ,C.iD])
    refine a0 (λq X=>by rw[md X];rfl) c8 ?_ ?_;rw[lH];unfold gf at L⊢;simp only[S.cZ];rw[qX b6];exact L;have dd:cW=((s.more x.ix t m x.o.dst w).cZ i bt (kU ac ab (s.ev cf.gl u).cells)).put y.o.dst (.bP []):=P;subst dd;have:((s.cZ i bt (kU ac ab (s.ev cf.gl u).cells)).put y.o.dst (.bP [])).more x.ix t m x.o.dst w=((s.more x.ix t m x.o.dst w).cZ i bt (kU ac ab (s.ev cf.gl u).cells)).put y.o.dst (.bP []):=
     Yu (s:=s) (n:=i) (n':=x.ix) (d:=y.o.dst) (e:=x.o.dst) D.yx b6
    rw[this];exact h8;exact P.elim;exact P.elim;exact P.elim;have b8:gF y.o.op=true:=by
     simp only[jd] at al;rcases al with(((M|M)|M)|M)|M;exact M;exact(Yn M P).elim
     ·exfalso;cases ba:y.o.op<;>rw[ba] at M<;>simp[xY] at M;rename_i c;cases bf:c.callee<;>simp[bf] at M;rename_i f;simp only[ec,ba,bf] at a
      (repeat' split at a)<;>cases a
     exact aY M k;exact aY M b0
    have ca:x.ix≠y.ix:=by simpa[b8] using cC
    rw[Jj b8 a9];simp only[sJ];obtain⟨dx,cy,wy,rfl,k2,k3,k4⟩:=Yt b8 a3 P;have cv:gf s.au y.ix=true:=by
     unfold gf at k2⊢;rw[BZ,qX ca] at k2;exact k2
    obtain⟨m1,m2⟩:=k4 s O (λz hz=>(an z hz).symm) Q cv;refine⟨_,m2,a0 (λq X=>Jk X) (ahD Q cv m1 (k3 _ _ _)) ?_ ?_⟩;unfold gf at L⊢;rw[BZ,qX (λe=>ca e.symm)];exact L;rw[Yu D.yx (λe=>ca e.symm)];exact h8
def asU(V:DL B A){x y:OM}{R:cN}{s:S}{O:ak}(W:tP B x y=J)(Q:∀d,x.o.dst=U d->wM s d)(N:gF y.o.op=J->gf s.au y.ix=J)(M:∀t,y.o.op=.alloc t->FU cf t=J)
  (L:Y O.i=s.ni)(D:Y O.b=s.nb)(z:Y O.r=Y s.rs)
  (h:eA p cf B A F G H (x::y::R) O s):eA p cf B A F G H (y::x::R) O s:=by
 unfold tP at W;simp only[az,gO,jd] at W;obtain⟨⟨w,P⟩,W⟩:=W;rcases W with(X|X)|X;exact asE V P X Q L D z h;have v:gF y.o.op=true:=by
  unfold Ir at X;simp only[az] at X;have:=X.1.1.1.1.1.1.2;cases u:y.o.op<;>rw[u] at this<;>simp[FT] at this;rfl
 exact asQ V w X Q (N v) M h;exact asT V P X h
def ahP{m:OM}{s P:S}{O:ak}(h:(gt cf m s).gives O P):∀n,gf s.au n=J->(gF m.o.op=J->n≠m.ix)->gf P.au n=true:=by
 intro q X R;have V:∀{t:TypeId}{Q:av}{d:cw}{w:C}{i:Nat},q≠i->gf ((s.cZ i t Q).put d w).au q=true:=by
  intro t Q d w i N;rw[lH];unfold gf at X⊢;simp only[S.cZ];rw[qX (λe=>N e.symm)];exact X
 unfold gt at h;split at h;exact h.elim;split at h;rename_i t W;split at h;split at h;cases h;exact V (R (by rw[W];rfl));exact h.elim;exact h.elim;rename_i t x W;split at h;split at h;cases h;exact V (R (by rw[W];rfl));exact h.elim;exact h.elim;rename_i t l L W;split at h;split at h;split at h;split at h;cases h;exact V (R (by rw[W];rfl));exact h.elim;exact h.elim;exact h.elim;exact h.elim;split at h;split at h;rename_i H Q M;split at h;cases h;refine V (λe=> ?_);subst e;have:=(mJ X).1;simp[aL,(ye M).1] at this;exact h.elim;exact h.elim;exact h.elim;split at h;simp only[OR.gives] at h;split at h<;>(subst h;rw[lH];exact X);exact h.elim;obtain⟨v,-,rfl⟩:=zW h;rw[BX];exact X;obtain⟨v,-,rfl⟩:=zW h;rw[BX];exact X
def asV{m:OM}{s R:S}{O:ak}(h:(gt cf m s).gives O R):∀i,aL s.au i=J->aL R.au i=true:=by
 intro q X;have W:∀{t:TypeId}{V:av}{d:cw}{w:C}{i:Nat},aL ((s.cZ i t V).put d w).au q=true:=by
  intro t V d w i;rw[lH];unfold aL at X⊢;simp only[cH] at X⊢;simp only[S.cZ];by_cases Q:i=q;subst Q;have M:i<Y s.au:=by
   cases P:s.au[i]? with
   |none=>rw[P] at X;cases X
   |some b=>exact(bZ.1 P).1
  rw[Fc M];rfl;rw[qX Q];exact X
 unfold gt at h;split at h;exact h.elim;split at h;rename_i t N;split at h;split at h;cases h;exact W;exact h.elim;exact h.elim;rename_i t x N;split at h;split at h;cases h;exact W;exact h.elim;exact h.elim;rename_i t l L N;split at h;split at h;split at h;split at h;cases h;exact W;exact h.elim;exact h.elim;exact h.elim;exact h.elim;split at h;split at h;rename_i H V G;split at h;cases h;exact W;exact h.elim;exact h.elim;exact h.elim;split at h;simp only[OR.gives] at h;split at h<;>(subst h;rw[lH];exact X);exact h.elim;obtain⟨v,-,rfl⟩:=zW h;rw[BX];exact X;obtain⟨v,-,rfl⟩:=zW h;rw[BX];exact X
structure u4(s s':S):Prop where
 i:s.ni<=s'.ni
 b:s.nb<=s'.nb
 r:Y s.rs<=Y s'.rs
 bx:∀i,aL s.au i=J->aL s'.au i=J
def u4.put(s:S)(d:cw)(v:C):u4 s (s.put d v):=
 ⟨Di (fK _ _ _).1.symm,Di (fK _ _ _).2.1.symm,Di (jW Y (fK s d v).2.2).symm,λi h=>by rw[lH];exact h⟩
def u4.trans{b c:S}(h:u4 R b)(k:u4 b c):u4 R c:=⟨oL h.i k.i,oL h.b k.b,oL h.r k.r,λi X=>k.bx i (h.bx i X)⟩
def asW{x:OM}{l1 k:cN}{s:S}{O:ak}(aa:x.dr=J)(ac:x.so=E)(w:Y O.i=s.ni)(q:Y O.b=s.nb)(m:Y O.r=Y s.rs)(h:eA p cf B A F G H (x::l1) O s)
  (j:∀f Q,Y f.i=Q.ni->Y f.b=Q.nb->Y f.r=Y Q.rs->(∀t,x.o.dst≠U t->Q.tmps[t]?=s.tmps[t]?)->(∀n,gf s.au n=J->(gF x.o.op=J->n≠x.ix)->gf Q.au n=J)->u4 s Q->eA p cf B A F G H l1 f Q->eA p cf B A F G H k f Q):eA p cf B A F G H (x::k) O s:=by
 simp only[eA] at h⊢;rcases h with⟨h1,X⟩|⟨h1,X⟩;exact .inl ⟨h1,j _ _ (by rw[(fK _ _ _).1];exact w) (by rw[(fK _ _ _).2.1];exact q) (by rw[(fK _ _ _).2.2];exact m) (λt d=>md d) (λn D _=>by rw[lH];exact D) (u4.put _ _ _) X⟩
 ·refine .inr ⟨h1, ?_⟩;cases a:ec cf s x.o with
  |call g0 c=>
   rw[a] at X;rcases g0 with g|n
   rotate_left
   have N:=X.1;rw[ac] at N;cases N;have X:pL _ _ _:=X;show pL _ _ _;cases ab:A g c s with
   |some ve=>
    obtain⟨pv,ex⟩:=ve;rw[ab] at X;exact⟨X.1,j _ _ (by rw[(fK _ _ _).1];exact w) (by rw[(fK _ _ _).2.1];exact q) (by rw[(fK _ _ _).2.2];exact m) (λt d=>md d) (λn D _=>by rw[lH];exact ahr D) (u4.trans (b:=s.plus ex) ⟨cd _,cd _,cd _,λi l=>by unfold aL;rw[ahq l];exact l⟩ (u4.put _ _ _)) X.2⟩
   |none=>
   rw[ab] at X;obtain⟨ts,M,r,c1,c2,c3,c4,c5⟩:=X;refine⟨ts,M,r,c1,c2,c3,c4,λV W R=>(c5 V W R).mono ?_⟩;intro e W' he;cases e with
   |returned u=>
    obtain⟨xs,L,z,y,q4,q5⟩:=he;obtain⟨b1,b2,b3,b4⟩:=wL M (s.cut c M);obtain⟨l1,k,l3⟩:=yo M xs (s.cut c M) O L w q (m.trans (DK c M s.rs).len.symm);refine⟨xs,L,z,y,q4,j _ _ (by rw[(fK _ _ _).1];exact l1) (by rw[(fK _ _ _).2.1];exact k) (by rw[(fK _ _ _).2.2];exact l3) (λt d=>by rw[md d,b2];rfl) (λn D _=>by rw[lH,b1];exact D) (u4.trans (b:=((s.cut c M).cz M).2) ⟨by rw[<-w,<-l1];exact(BM [] _ _ []).li,by rw[<-q,<-k];exact(BM [] _ _ []).lb,by rw[<-m,<-l3];exact(BM [] _ _ []).lr,λi l=>by rw[b1];exact l⟩ (u4.put _ _ _)) q5⟩
   |panicked ch=>exact he
   |outgrown=>exact he
  |bI v=>rw[a] at X;exact X
  |no=>rw[a] at X;exact X
  |op=>
   rw[a] at X;simp only at X⊢;cases P:eH cf x.o x.bR x.dr s with
   |some b=>
    rw[P] at X;obtain⟨L,z,y⟩:=aho P;exact⟨X.1,λrv af=>j _ _ (by rw[L];exact w) (by rw[z];exact q) (by simp[ak.add,y,m]) (Yo (by rw[aa] at P;exact P)) (λn D _=>by rw[(M7 (by rw[aa] at P;exact P)).2.2];exact D) ⟨by rw[L];exact cd _,by rw[z];exact cd _,by rw[y];omega,λi l=>by rw[(M7 (by rw[aa] at P;exact P)).2.2];exact l⟩ (X.2 rv af)⟩
   |none=>
    rw[P] at X;obtain⟨Q,N,h4⟩:=X;obtain⟨L,z,y⟩:=ahn (Jd N);exact⟨Q,N,j _ _ (by rw[L];exact w) (by rw[z];exact q) (by rw[y];exact m) (ahA (Jd N)) (ahP (Jd N)) ⟨by rw[L];exact cd _,by rw[z];exact cd _,by rw[y];exact cd _,asV (Jd N)⟩ h4⟩
def ahQ{x y:OM}(h:tP B x y=J):x.so=E/\y.so=false:=by
 unfold tP at h;simp only[az,gO] at h;exact h.1
def asX{x y:OM}(h:tP B x y=J):x.dr=true:=by
 unfold tP at h;simp only[az,jd] at h;replace h:=h.2;rcases h with(h|h)|h;exact(ahw h).elim λ_ c=>c.xd
 unfold Ir at h;simp only[az] at h;exact h.1.1.1.1.1.1.1.1;unfold Ml at h;simp only[az] at h;exact h.1.1.1.1.1.1.1.1.1.1
end
section
variable{p:Sp}{k:bF}{B:dI}{A:wB}{Kn:ak->S->Prop}{Kp:ak->C->S->Prop}{Yp:OM->cN->ak->S->Nat->av->Prop}
def Yy(s:S)(m:OM):Prop:=∀d,m.o.dst=U d->wM s d
def ahR{V:S}(W:u4 R V)(Q:V.tmps[X]?=R.tmps[X]?)(h:wM R X):wM V X:=by
 rcases h with h|⟨w,h,P⟩;exact .inl (Q.trans h);exact .inr ⟨w,Q.trans h,C.ep W.i W.b W.r W.bx _ P⟩
def Yz(s:S)(m:OM):Prop:=gF m.o.op=J->gf s.au m.ix=J
def ahS(Q:DL B A){m:OM}{V:cN}:∀(X:cN)(s:S)(O:ak),(∀x∈X,tP B x m=J)->(∀x∈X,Yy s x)->Yz s m->(X.Pairwise λa b=>∀d,a.o.dst=U d->b.o.dst≠U d)->(∀x∈X,gF x.o.op=J->gF m.o.op=J->m.ix≠x.ix)->(∀t,m.o.op=.alloc t->FU k t=J)->
  Y O.i=s.ni->Y O.b=s.nb->Y O.r=Y s.rs->eA p k B A Kn Kp Yp (X++m::V) O s->eA p k B A Kn Kp Yp (m::(X++V)) O s
 |[],s,O,_,_,_,_,_,_,_,_,_,h=>h
 |x::X,s,O,P,N,M,u,L,H,G,F,D,h=>by
  have R:=P x ay;have q:x.dr=true:=asX R;have n:=(ahQ R).1;have z:=jL.1 u;have:eA p k B A Kn Kp Yp (x::m::(X++V)) O s:=asW (l1:=X++m::V) q n G F D h (λl j g f c ht aa ab hr=>
   ahS Q X j l (λy W=>P y (by simp[W])) (λy W e w=>ahR ab (ht e (λhx=>z.1 y W e hx w)) (N y (by simp[W]) e w))
    (λv=>aa m.ix (M v) (λac=>L x ay ac v)) z.2 (λy W=>L y (by simp[W])) H g f c hr)
  exact asU Q R (N x ay) M H G F D this
def YA{D:b9}{s:S}{a:Act}{W:World}{O:ak}{V:aw}(R:aC p.S0 p.w0 D k.ty V O s a W){m:OM}{b:Bool}(h:gP B m s O=U b):lz m.o (yielded B a.tmps)=b:=by
 unfold gP at h;cases X:m.o.guard with
 |none=>rw[X] at h;cases h;simp[lz,X]
 |some q=>
  obtain⟨j,N⟩:=q;rw[X] at h;simp only at h;split at h;rename_i d M;have P:=agW R M;split at h;rename_i e Q;split at h;cases h;have:=P.1 e Q;simp only[lz,X,this];cases e.ah O<;>cases N<;>rfl;cases h;rename_i Q;cases h;simp[lz,X,P.2 Q];cases h;cases h
def RL(p:Sp)(k:bF)(A:wB):Prop:=∀(g:FuncId)(X:av)(s:S)(v:C)(R:bE),A g X s=U (v,R)->
 ∀(D:b9)(O:ak)(V:aw)(a:Act)(W:World),s.bd=J->aC p.S0 p.w0 D k.ty V O s a W->eL k.gl O->(∀X W,(callFunc g X).run p.P W=.ok (.enter g X) W)/\
  Calls p.P g (C.aF O V X).toArray W λe N=>∃Q,e=.returned (v.ah O Q)/\aC p.S0 p.w0 D k.ty Q O (s.plus R) a N/\bH s O V (s.plus R) O Q
structure M8(B:dI)(bs:aw)(listed:Array Bool)(rem:cN):Prop where
 mem:∀m∈rem,B[m.j]?=U m.o
 un:∀i,i<B.size->(listed.getD i J=E<->∃m∈rem,m.j=i)
 sz:listed.size=B.size
 dn:∀(j:Nat)(o:Oper),B[j]?=U o->listed.getD j E=J->∀e∈kX o,listed.getD e E=J
 pr:rem.Pairwise λx y=>(bs.getD y.j 0).testBit x.j=J\/tP B x y=J
 tp:∀xs m ys,rem=xs++m::ys->∀e∈kX m.o,listed.getD e E=J\/∃x∈xs,x.j=e
 nd:rem.Pairwise λx y=>x.j≠y.j
 ds:rem.Pairwise λa b=>∀d,a.o.dst=U d->b.o.dst≠U d
 so:∀xs m ys,rem=xs++m::ys->m.so=J->ys.Pairwise λx y=>(bs.getD y.j 0).testBit x.j=J
def ahT{e:Edge}(h:e∈l.after)(X:aqL .any e=J):e.on∈kX l:=hJ.2 ⟨e,pB.2 ⟨by simpa using h,X⟩,rfl⟩
def ahU(h:X∈kX l):∃e∈l.after,aqL .any e=J/\e.on=X:=by
 obtain⟨e,W,rfl⟩:=hJ.1 h;obtain⟨V,R⟩:=pB.1 W;exact⟨e,by simpa using V,R,rfl⟩
structure Jm(B:dI)(bs:aw):Prop where
 lt:∀(j:Nat)(o:Oper),B[j]?=U o->∀e∈kX o,e<j
 cl:∀(j:Nat)(o:Oper),B[j]?=U o->∀i,i<B.size->(bs.getD j 0).testBit i=J->i∈kX o\/∃e∈kX o,(bs.getD e 0).testBit i=J
def asY{listed:Array Bool}{O:cN}(W:Jm B t)(N:M8 B t listed O):∀(j:Nat)(o:Oper),B[j]?=U o->(∀e∈kX o,listed.getD e E=J)->∀i,i<B.size->(t.getD j 0).testBit i=J->listed.getD i E=true:=by
 intro j;induction j using Qe with
 |_ j M=>
  intro o X V i R L;rcases W.cl j o X i R L with h|⟨e,Q,h⟩;exact V i h;have H:=W.lt j o X e Q;have G:j<B.size:=(n9.1 X).1;have P:B[e]?=U B[e]:=aqj ae;exact M e H B[e] P (N.dn e _ P (V e Q)) i R h
def Gl(a:Array Bool)(i j:Nat)(b:Bool)(X:i<a.size):(a.setIfInBounds i J).getD j b=if j=i then J else a.getD j b:=by
 by_cases h:j=i;subst h;simp[X];simp[aeM (Ne.symm h),h]
def asZ{r:aw}{listed:Array Bool}{P O:cN}{m:OM}(X:M8 B r listed (P++m::O))(l:∀e∈kX m.o,listed.getD e E=J):M8 B r (listed.setIfInBounds m.j J) (P++O):=by
 have q:=X.mem m ay;have k:m.j<B.size:=(n9.1 q).1;have D:m.j<listed.size:=by rw[X.sz];exact k
 have L:aqM (P++O) (P++m::O):=aeS (aeV _) (aeQ _ _);have g:∀x∈P++O,x.j≠m.j:=by
  intro x W;have y:=X.nd;rw[mT] at y;rcases eP.1 W with h|h;exact y.2.2 x h m ay;exact Ne.symm ((jL.1 y.2.1).1 x h)
 refine⟨λx W=>X.mem x (L.subset W),λi f=> ?_,by simp[X.sz],λj o w H e M=> ?_,X.pr.sublist L, ?_,X.nd.sublist L,X.ds.sublist L, ?_⟩;rw[Gl _ _ _ _ D];by_cases v:i=m.j;subst v;simp only[cS,aDz,false_iff];rintro⟨x,W,H⟩;exact g x W H;rw[aK v,X.un i f];constructor;rintro⟨x,W,rfl⟩;refine⟨x, ?_,rfl⟩;simp only[eP,dP] at W⊢;rcases W with h|h|h;exact .inl h;subst h;exact aY rfl v;exact .inr h;rintro⟨x,W,rfl⟩;exact⟨x,L.subset W,rfl⟩;rw[Gl _ _ _ _ D];rw[Gl _ _ _ _ D] at H;split;rfl;by_cases n:j=m.j;subst n;rw[q] at w;cases w;exact l e M;rw[aK n] at H;exact X.dn j o w H e M;intro u N G t e M;rw[Gl _ _ _ _ D];by_cases A:e=m.j;left;rw[aI A];rw[aK A];rcases aDe.1 t with⟨R,Q,V⟩|⟨R,Q,V⟩
 
 have:=X.tp (P++m::R) N G (by rw[V];simp) e M;rcases this with h|⟨x,W,F⟩;exact .inl h;right;refine⟨x, ?_,F⟩;rw[Q];simp only[eP,dP] at W⊢;rcases W with h|h|h;exact .inl h;subst h;exact aY F.symm A;exact .inr h
 
 cases R with
 |nil=>
  simp at Q V;subst Q;have:=X.tp (P++[m]) N G (by rw[<-V];simp) e M;rcases this with h|⟨x,W,F⟩;exact .inl h;right;refine⟨x, ?_,F⟩;simp only[eP,P9] at W;rcases W with h|h;exact h;subst h;exact aY F.symm A
 |cons z R=>
  simp only[fG,wi] at V;obtain⟨rfl,V⟩:=V;have:=X.tp u N (R++m::O) (by rw[Q];simp) e M;exact this
 intro u N G t s;rcases aDe.1 t with⟨R,Q,V⟩|⟨R,Q,V⟩;exact X.so (P++m::R) N G (by rw[V];simp) s;cases R with
 |nil=>
  simp at Q V;subst Q;exact X.so (P++[m]) N G (by rw[<-V];simp) s
 |cons z R=>
  simp only[fG,wi] at V;obtain⟨rfl,V⟩:=V;have:=X.so u N (R++m::O) (by rw[Q];simp) s;rw[V];exact this.sublist (aeS (aeV _) (aeQ _ _))
def as1{F:Fence}(H:qy F)(r:jr p k)(a3:RL p k A){n:Nat}{D:b9}{Q:Exit->Act->World->Prop}(HP:∀ch a' M pd y,eF p.w0 D pd y a'.defers M->p.R (.panicked ch) M->Q (.panic ch) a' M)
  {m:OM}{af:cN}{s:S}{O:ak}{V:aw}{a:Act}{W:World}(h:eA p k B A Kn Kp Yp (m::af) O s)(R:aC p.S0 p.w0 D k.ty V O s a W)(q:eL k.gl O)(hm:B[m.j]?=U m.o)(a1:m.dr=J)
  {X:Act->World->Prop}(hK:∀w O' i a' M,bH s O V w O' i->(∀t,m.o.dst≠U t->w.tmps[t]?=s.tmps[t]?)->(∀n,gf s.au n=J->(gF m.o.op=J->n≠m.ix)->gf w.au n=J)->aC p.S0 p.w0 D k.ty i O' w a' M->eA p k B A Kn Kp Yp af O' w->X a' M)
  (a4:∀v,Kp O v s->Q (.panic [{v:=v.ah O V,recovered:=E}]) a W)
  (hY:∀yn G,ec k s m.o=.call (.yl yn) G->m.so=J->Yp m af O s yn G->m.o.wpIn F n p.P a W X Q):wpOpIn F n p.P B Q m.j X a W:=by
 unfold wpOpIn;rw[hm];simp only;simp only[eA] at h;rcases h with⟨h1,N⟩|⟨h1,N⟩;rw[YA R h1];exact⟨λf _=>H.fn f,hK _ O V _ W ((bH.refl _ _ _).put _ _) (λt ht=>md ht) (λn z _=>by rw[lH];exact z) (R.put m.o.dst (.bP [])) N⟩
 ·rw[YA R h1];simp only[cS];cases L:ec k s m.o with
  |call g0 G=>
   rw[L] at N;rcases g0 with g|yn
   rotate_left
   exact hY yn G L N.1 N.2;have N:pL _ _ _:=N;cases ag:A g G s with
   |some ve=>
    obtain⟨pv,ex⟩:=ve;rw[ag] at N;obtain⟨al,an⟩:=a3 g G s pv ex ag D O V a W N.1 R q;refine⟨λf _=>H.fn f, ?_⟩;have aa:∀c,m.o.op≠ .defer c:=λc ab=>by simp[ec,ab] at L
    rw[xM _ _ _ aa,Rm R q L al,Qa];refine⟨λhd=>by rw[H.wK] at hd;simp at hd,CallsIn.mono (H.calls an) (λe M d=> ?_)⟩;obtain⟨i,rfl,u,hl⟩:=d;exact hK _ O i _ M (hl.put _ _) (λt ht=>md ht) (λn z _=>by rw[lH];exact ahr z) (u.put m.o.dst pv) N.2
   |none=>
   rw[ag] at N;obtain⟨ts,ks,l,c1,c2,c3,c4,c5⟩:=N;simp only[S.eV,az] at c4;obtain⟨⟨hb,-⟩,a9⟩:=c4;have al:=r.yp g (.inl (by rw[c1];rfl));have an:=c5 V W (by rw[r.pt];exact(R.mem.Xd _).mb (af7 _ _));refine⟨λf _=>H.fn f, ?_⟩;have aa:∀c,m.o.op≠ .defer c:=λc ab=>by simp[ec,ab] at L
   rw[xM _ _ _ aa,Rm R q L al,Qa];refine⟨λhd=>by rw[H.wK] at hd;simp at hd,CallsIn.mono (H.calls an) (λe M d=> ?_)⟩;cases e with
   |returned v=>
    obtain⟨xs,q1,q2,q3,q4,q5⟩:=d;rw[r.pt] at q4;obtain⟨e1,e2,e3,e4⟩:=wL ks (s.cut G ks);subst q2;have R1:aC p.S0 p.w0 D k.ty V O (s.cut G ks) a W:=R.mb (DK G ks s.rs);have u:=(R1.called (MO hb (DK G ks s.rs).len) a9 q1 q3 (λb hb=>ag2 R hb) q4).put m.o.dst (one l);refine hK _ (O.ext xs) V _ M (bH.put (s:=s) ⟨BM _ _ _ _,by rw[e1];exact λ_ h=>h,by rw[e1];exact cd _,by rw[e3];exact cd _⟩ _ _) (λt ht=>by rw[md ht,e2];rfl) (λn z _=>by rw[lH,e1];exact z) u q5
   |panicked ch=>exact HP ch a M _ _ (R.cU.below d.1) d.2
   |outgrown=>exact d.elim
  |bI v=>
   rw[L] at N;refine⟨λf _=>H.fn f, ?_⟩;have aa:∀c,m.o.op≠ .defer c:=λc ab=>by simp[ec,ab] at L
   rw[xM _ _ _ aa,agX R q L];exact a4 v N
  |no=>rw[L] at N;exact N.elim
  |op=>
   rw[L] at N;simp only at N;cases x:eH k m.o m.bR m.dr s with
   |some b=>
    rw[x] at N;obtain⟨z,N⟩:=N;obtain⟨v,M,rv,a0,ba,u,hl⟩:=XN R r.kZ q x z;exact BR H a0 (X6 x) (hK b.s _ V _ M hl (Yo (by rw[a1] at x;exact x)) (λn z _=>by rw[(M7 (by rw[a1] at x;exact x)).2.2];exact z) u (N rv (by rw[r.pt];exact ba)))
   |none=>
   rw[x] at N;obtain⟨w,h3,h4⟩:=N;have ac:=Jd h3;obtain⟨v,M,i,a0,u,hl⟩:=MP R r.kZ q m ac;exact BR H a0 (MZ ac) (hK w O i _ M hl (ahA ac) (ahP ac) u h4)
def as2{W:Type}{V X:List W}{m x:W}(h:x∈(V++X).dropLast):x∈(V++m::X).dropLast:=by
 rw[aqg ay];cases X with
 |nil=>
  rw[H9] at h;exact we _ ((aDn _).subset h)
 |cons y X=>
  rw[aqg ay] at h;rcases eP.1 h with h|h;exact we _ h;rw[List.dropLast_cons_cons];exact LP _ (Da _ h)
def as3(b1:DL B A)(b2:RL p k A){Kn:dm->ak->S->Prop}{Kp:dm->ak->C->S->Prop}{Yp:dm->OM->cN->ak->S->Nat->av->Prop}{F:Fence}(hF:qy F)(ok:jr p k){D:b9}{Q:Exit->Act->World->Prop}(HP:∀ch g M pd y,eF p.w0 D pd y g.defers M->p.R (.panicked ch) M->Q (.panic ch) g M)(hC:Jm B t)
  {s0:S}{O0:ak}{V0:aw}{L0:dm}
  (hk:∀G H z g M w,bH s0 O0 V0 G H z->di s0.aA L0 w->aC p.S0 p.w0 D k.ty z H G g M->Kn w H G->Q .normal g M)
  (bg:∀v G H z g M w,bH s0 O0 V0 G H z->di s0.aA L0 w->aC p.S0 p.w0 D k.ty z H G g M->Kp w H v G->Q (.panic [{v:=v.ah H z,recovered:=E}]) g M)
  (hy:∀(L:dm)(m:OM)(bk:cN)(s:S)(O:ak)(V:aw)(a:Act)(W:World)(yn:Nat)(a1:av)(R':Ending->World->Prop),bH s0 O0 V0 s O V->di s0.aA L0 L->aC p.S0 p.w0 D k.ty V O s a W->eL k.gl O->Yp L m bk O s yn a1->
   (∀v G H z M w,bH s O V G H z->di s.aA L w->aC p.S0 p.w0 D k.ty z H G a M->eA p k B A (Kn w) (Kp w) (Yp w) bk H (G.put m.o.dst v)->R' (.returned (v.ah H z)) M)->
   (∀v G H z M w,bH s O V G H z->di s.aA L w->aC p.S0 p.w0 D k.ty z H G a M->Kp w H v G->R' (.panicked [{v:=v.ah H z,recovered:=E}]) M)->
   (∀ch M pd y,eF p.w0 D pd y a.defers M->p.R (.panicked ch) M->R' (.panicked ch) M)->
   ∀(m:Nat),YieldAt F m p.P (O.y.getD yn 0) (C.aF O V a1).toArray W R'):
  ∀(ac:Nat)(listed:Array Bool)(aa:cN)(s:S)(O:ak)(V:aw)(a:Act)(W:World)(L:dm),Y aa=ac->M8 B t listed aa->(∀m∈aa,m.dr=J)->(∀m∈aa,∀N,m.o.op=.alloc N->FU k N=J)->(aa.Pairwise λa b=>gF a.o.op=J->gF b.o.op=J->a.ix≠b.ix)->(((∀m∈aa,Yz s m)/\(∀m∈aa.dropLast,Yy s m))\/(aa.Pairwise λx y=>(t.getD y.j 0).testBit x.j=J))->bH s0 O0 V0 s O V->di s0.aA L0 L->aC p.S0 p.w0 D k.ty V O s a W->eL k.gl O->eA p k B A (Kn L) (Kp L) (Yp L) aa O s->
   wpAnyIn F X p.P .any B Q ac listed a W:=by
 intro ac;induction ac with
 |zero=>
  intro listed aa s O V a W L a3 hW a9 hZ bl hA hl hL R hg h;have b3:aa=[]:=Fa.1 a3;subst b3;refine⟨?_,hk s O V a W L hl hL R h⟩;cases hr:Qh .any B listed with
  |nil=>rfl
  |cons i r=>
   obtain⟨h1,o,ho,-⟩:=mem_ready.1 (show i∈Qh .any B listed by rw[hr];simp);have:=(hW.un i (n9.1 ho).1).1 h1;obtain⟨m,hm,-⟩:=this;cases hm
 |succ ac ih=>
  intro listed aa s O V a W L a3 hW a9 hZ bl hA hl hL R hg h;refine⟨λhr=> ?_,λi hi=> ?_⟩
  
  exfalso;cases aa with
  |nil=>simp at a3
  |cons m ys=>
   have af:=hW.mem m ay;have:m.j∈Qh .any B listed:=by
    refine mem_ready.2 ⟨(hW.un m.j (n9.1 af).1).2 ⟨m,ay,rfl⟩,m.o,af,λe he hb=> ?_⟩;rcases hW.tp [] m ys rfl e.on (ahT he hb) with h1|⟨x,u,-⟩;exact h1;cases u
   rw[hr] at this;cases this
  obtain⟨h1,o,ho,b4⟩:=mem_ready.1 hi;obtain⟨m,hm,rfl⟩:=(hW.un i (n9.1 ho).1).1 h1;obtain⟨q,ys,rfl⟩:=aDA hm;have af:=hW.mem m hm;rw[af] at ho;cases ho;have hd:∀e∈kX m.o,listed.getD e E=true:=λe he=>by
   obtain⟨ed,h2,h3,rfl⟩:=ahU he;exact b4 ed h2 h3
  have br:∀x∈q,¬(t.getD m.j 0).testBit x.j=true:=by
   intro x u h2;have b5:=hW.mem x (by simp[u]);have ba:x.j<B.size:=(n9.1 b5).1;have h3:=asY hC hW m.j m.o af hd x.j ba h2;have h4:=(hW.un x.j ba).2 ⟨x,by simp[u],rfl⟩;have b6:x.j<listed.size:=by rw[hW.sz];exact ba
   simp[b6] at h3 h4;rw[h3] at h4;cases h4
  have bt:∀x∈q,tP B x m=true:=by
   intro x u;have b7:=(mT.1 hW.pr).2.2 x u m ay;rcases b7 with h2|h2;exact aY h2 (br x u);exact h2
  have bb:=mT.1 hW.ds;have ag:=mT.1 bl;have hb:eA p k B A (Kn L) (Kp L) (Yp L) (m::(q++ys)) O s:=by
   rcases hA with⟨bd,hA⟩|hA;exact ahS b1 q s O bt (λx u=>hA x (by rw[aqg ay];exact we _ u)) (bd m hm) bb.1 (λx u al a4 e=>ag.2.2 x u m ay al a4 e.symm) (hZ m hm) R.ei R.eb R.er h;cases q with
   |nil=>exact h
   |cons x q=>exact aY ((mT.1 hA).2.2 x ay m ay) (br x ay)
  have bx:∀(G:S)(H:ak)(z:aw)(g:Act)(M:World)(w:dm),(((∀m∈q++ys,Yz G m)/\(∀m∈(q++ys).dropLast,Yy G m))\/((q++ys).Pairwise λx y=>(t.getD y.j 0).testBit x.j=J))->bH s0 O0 V0 G H z->di s0.aA L0 w->aC p.S0 p.w0 D k.ty z H G g M->eL k.gl H->eA p k B A (Kn w) (Kp w) (Yp w) (q++ys) H G->wpAnyIn F X p.P .any B Q ac (listed.setIfInBounds m.j J) g M:=
   λG H z g M w b8 ab an R' ca a0=>ih _ (q++ys) G H z g M w (by simp at a3⊢;omega) (asZ hW hd) (λx u=>a9 x (by rcases eP.1 u with l|l<;>simp[l])) (λx u=>hZ x (by rcases eP.1 u with l|l<;>simp[l]))
    (mT.2 ⟨ag.1,(jL.1 ag.2.1).2,λa ha b hb=>ag.2.2 a ha b (by simp[hb])⟩) b8 ab an R' ca a0
  have cc:aqM (q++ys) (q++m::ys):=aeS (aeV _) (aeQ _ _);refine as1 hF ok b2 HP hb R hg af (a9 m hm) (λG H z g M ab cl cm R' a0=> ?_) (λv hv=>bg v s O V a W L hl hL R hv) (λyn a1 hc b0 cn=> ?_);refine bx G H z g M L ?_ (hl.trans ab) hL R' (hg.ext ab.ext) a0;rcases hA with⟨bd,hA⟩|hA;left;refine⟨λx u al=>cm x.ix (bd x (by rcases eP.1 u with l|l<;>simp[l]) al) (λa4=>by
   rcases eP.1 u with l|l;exact ag.2.2 x l m ay al a4;exact λe=>(jL.1 ag.2.1).1 x l a4 al e.symm),λx u=> ?_⟩
  intro d bf;have co:m.o.dst≠U d:=by
   rcases eP.1 ((aDn _).subset u) with l|l;exact bb.2.2 x l m ay d bf;intro he;exact(jL.1 bb.2.1).1 x l d he bf
  exact ahR ⟨by rw[<-R.ei,<-R'.ei];exact ab.ext.li,by rw[<-R.eb,<-R'.eb];exact ab.ext.lb,by rw[<-R.er,<-R'.er];exact ab.ext.lr,ab.mono⟩ (cl d co) (hA x (as2 u) d bf);exact .inr (hA.sublist cc);have cp:q=[]:=by
   cases q with
   |nil=>rfl
   |cons x q=>
    have:=(ahQ (bt x ay)).2;rw[b0] at this;cases this
  subst cp;have cs:ys.Pairwise λx y=>(t.getD y.j 0).testBit x.j=true:=hW.so [] m ys rfl b0
  have hY:=hy L m ys s O V a W yn a1 (λe M=>match e with
    |.returned v=>wpAnyIn F X p.P .any B Q ac (listed.setIfInBounds m.j J) (a.put m.o.dst v) M
    |.panicked ch=>Q (.panic ch) a M
    |.outgrown=>LetsOut Q) hl hL R hg cn
   (λv G H z M w ab an R' a0=>bx (G.put m.o.dst v) H z _ M w (.inr cs) (hl.trans (ab.put _ _)) (hL.trans an hl.aA) (R'.put m.o.dst v) (hg.ext ab.ext) a0)
   (λv G H z M w ab an R' hs=>bg v G H z a M w (hl.trans ab) (hL.trans an hl.aA) R' hs)
   (λch M pd y hA hR=>HP ch a M pd y hA hR) (X-1)
  obtain⟨fn,cA,assign,body,ct,cv⟩:=hY;refine⟨λf _=>hF.fn f, ?_⟩;have cx:∀c,m.o.op≠ .defer c:=λc cy=>by simp[ec,cy] at hc
  rw[xM _ _ _ cx,X4 R hg hc,ct];rw[aqv];refine⟨λhd=>by rw[hF.wK] at hd;simp at hd,RoundIn.mono cv (λe M he=> ?_)⟩;cases e<;>exact he
end
def M9:cw->Fence
 |none=>Fence.wide
 |U l=>Fence.wide.inRound l
def yu:∀i,qy (M9 i)
 |none=>asi
 |U l=>agV l
def as4:∀i,(M9 i).round=i
 |none=>rfl
 |U _=>rfl
def qy.room{F:Fence}(W:qy F)(n:Nat):F.room n:=λd X=>by rw[W.wK] at X;cases X
def jg(i:cw)(j:FuncId)(P:Program)(c:Code)(Q:Exit->Act->World->Prop)(a:Act)(w:World):Prop:=
 ∀(b:Frame)(k:List Item)(X:List Frame),b.roundOf=i->b.fn=j->
  ∃e W V,Q e W V/\ArrivesIn (Machine.fenced P Fence.wide) P (lone (b.atR a (.code c::k)) X w) b k X e W V
section
variable{i:cw}{j:FuncId}{P:Program}{Q:Exit->Act->World->Prop}{a:Act}{w:World}
def tX{c:Code}{n:Nat}(h:c.wpIn (M9 i) n P Q a w):jg i j P c Q a w:=by
 intro b k W V _;obtain⟨e,R,O,N,X⟩:=h b k W (V.trans (as4 i).symm) ((yu i).fn _) ((yu i).room _);rw[(yu i).eq] at X;exact⟨e,R,O,N,X⟩
def as5{c:Code}{X:Exit->Act->World->Prop}(h:jg i j P c Q a w)(W:∀e a w,Q e a w->X e a w):jg i j P c X a w:=
 λb k V R O=>let⟨e,N,M,q,r⟩:=h b k V R O;⟨e,N,M,W _ _ _ q,r⟩
def Gm{x y:Code}(h:jg i j P x (Exit.then (jg i j P y Q) Q) a w):jg i j P (Code.seq x y) Q a w:=by
 intro b k N M L;have X:(lone (b.atR a (.code (.seq x y)::k)) N w).fenced P Fence.wide:=fenced_wide _ _;obtain⟨e,R,O,W,V⟩:=h b (.code y::k) N M L;cases e with
 |normal=>
  obtain⟨H,G,F,D,B⟩:=W b k N M L;exact⟨H,G,F,D,.of_steps (.head X stepR_seq V) B⟩
 |exit id=>exact⟨_,R,O,W,.of_steps (.one X stepR_seq) (.pass (x:=.code y) rfl (λ_ _=>.inl ay) V)⟩
 |goto l=>exact⟨_,R,O,W,.of_steps (.one X stepR_seq) (.pass (x:=.code y) rfl (λ_ _=>.inl ay) V)⟩
 |ret=>exact⟨_,R,O,W,.of_steps (.one X stepR_seq) (.pass (x:=.code y) rfl (λ_ _=>.inl ay) V)⟩
 |panic A=>exact⟨_,R,O,W,.of_steps (.one X stepR_seq) (.pass (x:=.code y) rfl (λ_ _=>.inl ay) V)⟩
 |outgrown=>exact⟨_,R,O,W,.of_steps (.one X stepR_seq) (.pass (x:=.code y) rfl (λ_ _=>.inl ay) V)⟩
def as6{c:Code}(h:jg i j P c (Exit.inBlock X Q) a w):jg i j P (Code.block X c) Q a w:=by
 intro b k z y x;have W:(lone (b.atR a (.code (.block X c)::k)) z w).fenced P Fence.wide:=fenced_wide _ _;obtain⟨e,O,N,V,R⟩:=h b (.inBlock X::k) z y x;cases e with
 |normal=>exact⟨.normal,O,N,V,.head W stepR_block (StepsIn.trans R (.one (fenced_wide _ _) stepR_inBlock))⟩
 |exit L=>
  by_cases hid:L=X;simp only[Exit.inBlock,hid,cS] at V;exact⟨.normal,O,N,V,.head W stepR_block (R.1 k (by simp[exitTo,hid]))⟩;simp only[Exit.inBlock,hid,ga] at V;have this:(X==L)=false:=by simp;exact λh=>hid h.symm
  have H:exitTo L (.inBlock X::k)=exitTo L k:=by simp[exitTo,this]
  exact⟨.exit L,O,N,V,λG M=>.head W stepR_block (R.1 G (by rw[H];exact M)),
   λF M=>let⟨D,B,A⟩:=R.2 F (by rw[H];exact M);⟨D,B,.head W stepR_block A⟩⟩
 |goto l=>
  have H:gotoIn l (.inBlock X::k)=gotoIn l k:=by simp[gotoIn]
  exact⟨_,O,N,V,λG M=>.head W stepR_block (R.1 G (by rw[H];exact M)),
   λF M=>let⟨D,B,A⟩:=R.2 F (by rw[H];exact M);⟨D,B,.head W stepR_block A⟩⟩
 |ret=>exact⟨_,O,N,V,.of_steps (.one W stepR_block) R⟩
 |panic v=>exact⟨_,O,N,V,.of_steps (.one W stepR_block) R⟩
 |outgrown=>exact⟨_,O,N,V,.of_steps (.one W stepR_block) R⟩
def as7{c:Code}(h:jg i j P c (λe a w=>(∀l,e≠ .goto l)/\Q e a w) a w):jg i j P (Code.scope c) Q a w:=by
 intro b k X G F;have W:(lone (b.atR a (.code (.scope c)::k)) X w).fenced P Fence.wide:=fenced_wide _ _;have V:step P (lone (b.atR a (.code (.scope c)::k)) X w)=.next (lone (b.atR a (.code c::.inScope c::k)) X w):=step_lone_go (by simp[stepG,stepG.exec,Frame.atR])
 have D:∀a w,step P (lone (b.atR a (.inScope c::k)) X w)=.next (lone (b.atR a k) X w):=λa w=>step_lone_go (by simp[stepG,stepG.exec,Frame.atR])
 obtain⟨e,O,N,⟨B,M⟩,R⟩:=h b (.inScope c::k) X G F;cases e with
 |normal=>exact⟨.normal,O,N,M,.head W V (StepsIn.trans R (.one (fenced_wide _ _) (D _ _)))⟩
 |exit id=>
  have H:exitTo id (.inScope c::k)=exitTo id k:=by simp[exitTo]
  exact⟨.exit id,O,N,M,λA L=>.head W V (R.1 A (by rw[H];exact L)),λz L=>let⟨y,x,v⟩:=R.2 z (by rw[H];exact L);⟨y,x,.head W V v⟩⟩
 |goto l=>exact aY rfl (B l)
 |ret=>exact⟨_,O,N,M,.of_steps (.one W V) R⟩
 |panic u=>exact⟨_,O,N,M,.of_steps (.one W V) R⟩
 |outgrown=>exact⟨_,O,N,M,.of_steps (.one W V) R⟩
def Jn{c:Operand}{x y:Code}{t:Bool}(X:a.eval c=.bool t)(h:jg i j P (if t then x else y) Q a w):jg i j P (Code.cond c x y) Q a w:=by
 intro b k W V R;obtain⟨e,O,N,M,L⟩:=h b k W V R;exact⟨e,O,N,M,.of_steps (.one (fenced_wide _ _) (stepR_cond X)) L⟩
def Na(i:cw)(j:FuncId)(P:Program)(c:Code)(Q:Exit->Act->World->Prop):Nat->Act->World->Prop
 |0,_,_=>False
 |m+1,a,w=>jg i j P c (Exit.then (Na i j P c Q m) Q) a w
def ahV{c:Code}(m:Nat)(h:Na i j P c Q m a w):jg i j P (Code.loop c) Q a w:=by
 intro b k O H G;have F:∀m a w,Na i j P c Q m a w->
   ∃e M L,Q e M L/\ArrivesIn (Machine.fenced P Fence.wide) P (lone (b.atR a (.code c::.inLoop c::k)) O w) b k O e M L:=by
  intro m;induction m with
  |zero=>intro a w h;exact h.elim
  |succ m D=>
   intro a w h;obtain⟨e,X,W,V,R⟩:=h b (.inLoop c::k) O H G;have N:∀{e:Exit},e≠ .normal->ArrivesIn (Machine.fenced P Fence.wide) P (lone (b.atR a (.code c::.inLoop c::k)) O w) b (.inLoop c::k) O e X W->ArrivesIn (Machine.fenced P Fence.wide) P (lone (b.atR a (.code c::.inLoop c::k)) O w) b k O e X W:=
    λB A=>.pass (x:=.inLoop c) rfl (λ_ _=>.inl B) A
   cases e with
   |normal=>
    obtain⟨z,y,v,u,t⟩:=D X W V;exact⟨z,y,v,u,.of_steps (StepsIn.trans R (.one (fenced_wide _ _) stepR_inLoop)) t⟩
   |exit id=>exact⟨_,X,W,V,N ay R⟩
   |goto l=>exact⟨_,X,W,V,N ay R⟩
   |ret=>exact⟨_,X,W,V,N ay R⟩
   |panic s=>exact⟨_,X,W,V,N ay R⟩
   |outgrown=>exact⟨_,X,W,V,N ay R⟩
 obtain⟨e,M,L,V,R⟩:=F m a w h;exact⟨e,M,L,V,.of_steps (.one (fenced_wide _ _) stepR_loop) R⟩
def as8{c:Code}(X:Nat->Act->World->Prop)(V:Nat)(L:X V a w)
  (round:∀n a w,X n a w->jg i j P c (Exit.then (λO M=>∃R,R<n/\X R O M) Q) a w):jg i j P (Code.loop c) Q a w:=by
 refine ahV (V+1) ?_;have H:∀N n a w,n<N->X n a w->Na i j P c Q N a w:=by
  intro N;induction N with
  |zero=>intro n a w h;omega
  |succ N G=>
   intro n a w B F;refine as5 (round n a w F) ?_;intro e O M W;cases e with
   |normal=>
    obtain⟨R,A,D⟩:=W;exact G R O M ae D
   |exit id=>exact W
   |goto l=>exact W
   |ret=>exact W
   |panic z=>exact W
   |outgrown=>exact W
 exact H (V+1) V a w ae L
def YB(i:cw)(j:FuncId)(P:Program)(l:Nat)(Q:Exit->Act->World->Prop)(X:Act):Ending->World->Prop
 |.returned _,W=>∃R V,(Instr.endLoop l).run P W=.ok R V/\
   (match R with
    |none=>Q .normal X V
    |U c=>jg i j P c Q X V)
 |.panicked chain,W=>Q (.panic chain) X W
 |.outgrown,_=>False
def as9{g:Operand}{W:Array Tmp}{assign body:Code}
  (h:∃(l:Nat)(mark:BF)(V:World)(d:Deferred)(R:World)(f:FuncId)(O:lW)(N:World),
   (Instr.enterLoop j a.tmps W assign body i).run P w=.ok (l,mark) V/\
   (resolve a.eval (rangeCall g l) 0).run P V=.ok d R/\
   (invoke d.target d.args).run P R=.ok (.enter f O) N/\
   Calls P f O N (YB i j P l Q {a with defers:=mark++a.defers})):
  jg i j P (Code.rangeFunc g W assign body) Q a w:=by
 intro b k X H G;obtain⟨l,mark,V,d,R,f,O,N,F,s,r,M⟩:=h;obtain⟨hF,M⟩:=(callsIn_wide (n:=0)).2 M;rw[<-H,<-G] at F;have D:(lone (b.atR a (.code (.rangeFunc g W assign body)::k)) X w).fenced P Fence.wide:=fenced_wide _ _;have B:=stepR_rangeFunc (P:=P) (b:=b) (a:=a) (k:=k) (cs:=X) (w:=w) F s r;obtain⟨e,q,fr,L,A,ac,z⟩:=M (b.atR {a with defers:=mark++a.defers} (.inRangeFunc l::k)::X) (room_wide _);cases e with
 |outgrown=>exact L.elim
 |returned v=>
  obtain⟨y,x,p,u⟩:=L;have t:StepsIn (Machine.fenced P Fence.wide) P (lone (b.atR a (.code (.rangeFunc g W assign body)::k)) X w) (lone (b.atR {a with defers:=mark++a.defers} ((y.map Item.code).toList++k)) X x):=by
   refine .head D B (StepsIn.trans A (.head (fenced_wide _ _) ?_ (.one (fenced_wide _ _) (stepR_endRangeFunc p))));rw[<-finish_atR_inRangeFunc l v];exact step_leave_returned z
  cases y with
  |none=>exact⟨.normal,_,x,u,t⟩
  |some c=>
   obtain⟨o,m,aa,hq,ab⟩:=u b k X H G;exact⟨o,m,aa,hq,.of_steps t ab⟩
 |panicked chain=>
  refine⟨.panic chain,_,q,L,.inRangeFunc l::k,.head D B (StepsIn.trans A (.one (fenced_wide _ _) ?_))⟩;rw[<-Frame.raise_atR];exact step_leave_panicked z
end
def Jo{P:Program}{f:FuncId}{O:Func}{c:Code}{X:lW}{w:World}{R:Ending->World->Prop}
  (A:P.funcs[f]?=U O)(t:O.body=U c)
  (h:jg Z f P c (bodyPostM Fence.wide 0 P O R) {tmps:=X++ae0 (O.ntmps-X.size) undef,defers:=[]} w):Calls P f X w R:=by
 refine(callsIn_wide (n:=0)).1 ⟨trivial,λz x=> ?_⟩;let b:Frame:={(default:Frame) with fn:=f,kind:=.normal,roundOf:=Z};have s:Frame.enter P f X .normal=
   b.atR {tmps:=X++ae0 (O.ntmps-X.size) undef,defers:=[]} [.code c]:=by
  simp[Frame.enter,Frame.atR,A,t,b]
 obtain⟨e,W,y,V,N⟩:=h b [] z rfl rfl;rw[<-s] at N;cases e with
 |normal=>
  obtain⟨M,L,H,G,F,D,B⟩:=leaves_stepsInM W.defers .returning y {b.atR W [] with mode:=.returning} z rfl rfl rfl A rfl trivial x V;exact⟨M,L,H,G,ComesIn.of_steps (StepsIn.trans N (.one (fenced_wide _ _) (stepR_end rfl))) F,D,B⟩
 |ret=>
  obtain⟨v,u⟩:=N.1 rfl;obtain⟨M,L,H,G,F,D,B⟩:=leaves_stepsInM W.defers .returning y {b.atR W v with mode:=.returning} z rfl rfl rfl A rfl trivial x V;exact⟨M,L,H,G,ComesIn.of_steps u F,D,B⟩
 |panic chain=>
  obtain⟨v,u⟩:=N;obtain⟨M,L,H,G,F,D,B⟩:=leaves_stepsInM W.defers (.panicking chain) y {b.atR W v with mode:=.panicking chain} z rfl rfl rfl A rfl trivial x V;exact⟨M,L,H,G,ComesIn.of_steps u F,D,B⟩
 |exit id=>exact V.elim
 |goto l=>exact V.elim
 |outgrown=>exact⟨.outgrown,y,b,V,N.resolve_left (by simp[b]),rfl,trivial⟩
def ata(P:Program)(l:Nat)(R:Ending->World->Prop):Exit->Act->World->Prop
 |.normal,_,w=>∃v X,(Instr.endRound l Z).run P w=.ok v X/\R (.returned v) X
 |.ret,_,w=>∃v X,(Instr.endRound l (U .ret)).run P w=.ok v X/\R (.returned v) X
 |.exit id,_,w=>∃v X,(Instr.endRound l (U (.exit id))).run P w=.ok v X/\R (.returned v) X
 |.panic W,a,w=>a.defers=[]/\R (.panicked W) w
 |_,_,_=>False
def atb{F:Fence}(p:qy F){P:Program}{l:Nat}{f:FuncId}{o:Func}{u:lW}{assign body:Code}{w:World}{R:Ending->World->Prop}(k:P.funcs[f]?=U o)
  (h:jg (U l) f P assign (λe L H=>(e=.normal/\∃s,(Instr.beginRound l).run P H=.ok () s/\jg (U l) f P body (ata P l R) L s)\/∃A,e=.panic A/\L.defers=[]/\R (.panicked A) H)
   {tmps:=u,defers:=[]} w):
  RoundIn F X P l f u assign body w R:=by
 refine⟨p.fn f,λc O hr=> ?_⟩;let b:Frame:={(default:Frame) with fn:=f,kind:=.normal,roundOf:=U l};have j:Frame.round l f u assign body .normal=b.atR {tmps:=u,defers:=[]} [.code assign,.beginRound,.code body]:=by
  simp[Frame.round,Frame.atR,b]
 have af:(Fence.wide.inRound l).room ((c::O).length+1+X):=(agV l).room _;obtain⟨e,L,H,i,G⟩:=h b [.beginRound,.code body] (c::O) rfl rfl;rw[<-j] at G;rw[p.eq];have Jp:∀(m:Machine)(D:Act)(N:World)(chain:List PanicEntry)(M:List Item),D.defers=[]->StepsIn (Machine.fenced P Fence.wide) P m (lone {b.atR D M with mode:=.panicking chain} (c::O) N)->StepsIn (Machine.fenced P Fence.wide) P m (lone (c.raise chain) O N):=by
  intro m D N chain M z W;have g:({b.atR D M with mode:=.panicking chain}:Frame).leaving P N (.panicked chain):=⟨rfl,z,o,k⟩;exact StepsIn.trans W (.one (fenced_wide _ _) (step_leave_panicked g))
 rcases i with⟨rfl,s,d,aa⟩|⟨A,rfl,z,V⟩;have r:StepsIn (Machine.fenced P Fence.wide) P (lone (b.atR L [.beginRound,.code body]) (c::O) H) (lone (b.atR L [.code body]) (c::O) s):=
  .one (fenced_wide _ _) (stepR_beginRound rfl d)
 obtain⟨ab,D,N,B,q⟩:=aa b [] (c::O) rfl rfl;cases ab with
 |normal=>
  obtain⟨v,y,x,V⟩:=B;exact⟨.returned v,y,V,(StepsIn.trans G r).trans (StepsIn.trans q (.one (fenced_wide _ _) (stepR_round_end rfl rfl x)))⟩
 |ret=>
  obtain⟨v,y,x,V⟩:=B;obtain⟨ac,W⟩:=q.2 rfl;exact⟨.returned v,y,V,(StepsIn.trans G r).trans (StepsIn.trans W (.one (fenced_wide _ _) (stepR_round_ret rfl rfl x)))⟩
 |exit id=>
  obtain⟨v,y,x,V⟩:=B;obtain⟨ac,hk,W⟩:=q.2 rfl rfl;exact⟨.returned v,y,V,(StepsIn.trans G r).trans (StepsIn.trans W (.one (fenced_wide _ _) (stepR_round_exit rfl rfl hk x)))⟩
 |goto t=>exact B.elim
 |panic chain=>
  obtain⟨z,V⟩:=B;obtain⟨M,W⟩:=q;exact⟨.panicked chain,N,V,Jp _ D N chain M z ((StepsIn.trans G r).trans W)⟩
 |outgrown=>exact B.elim
 obtain⟨M,W⟩:=G;exact⟨.panicked A,H,V,Jp _ L H A M z W⟩
mutual
def K.eN(O:ak)(y:aw):∀(e:K),e.ah (O.at y)=e.ah O
 |.c n=>by simp[K.ah]
 |.v k=>by simp[K.ah,ak.at]
 |.bin o k a b=>by simp only[K.ah];rw[K.eN O y a,K.eN O y b]
 |.conv k a=>by simp only[K.ah];rw[K.eN O y a]
 |.len r=>by simp only[K.ah];rw[RE.me O y r]
 |.mm m a b=>by simp only[K.ah];rw[K.eN O y a,K.eN O y b]
 |.dg b x z=>by simp only[K.ah];rw[BE.eN O y b,K.eN O y x,K.eN O y z]
 |.cell r i j=>by simp only[K.ah];rw[RE.me O y r,K.eN O y i]
 |.mV r i=>by simp only[K.ah];rw[RE.me O y r,K.eN O y i]
 |.look r n a b c j=>by simp only[K.ah];rw[RE.me O y r,K.eN O y a,K.eN O y b,K.eN O y c]
def BE.eN(O:ak)(y:aw):∀(e:BE),e.ah (O.at y)=e.ah O
 |.c b=>by simp[BE.ah]
 |.v k=>by simp[BE.ah,ak.at]
 |.cmp o a b=>by simp only[BE.ah];rw[K.eN O y a,K.eN O y b]
 |.not a=>by simp only[BE.ah];rw[BE.eN O y a]
 |.and a b=>by simp only[BE.ah];rw[BE.eN O y a,BE.eN O y b]
 |.beq a b=>by simp only[BE.ah];rw[BE.eN O y a,BE.eN O y b]
 |.dg b x z=>by simp only[BE.ah];rw[BE.eN O y b,BE.eN O y x,BE.eN O y z]
 |.cell r i j=>by simp only[BE.ah];rw[RE.me O y r,K.eN O y i]
 |.seq a b=>by simp only[BE.ah];rw[RE.me O y a,RE.me O y b]
 |.look r n a b c j=>by simp only[BE.ah];rw[RE.me O y r,K.eN O y a,K.eN O y b,K.eN O y c]
 |.has r n a b c=>by simp only[BE.ah];rw[RE.me O y r,K.eN O y a,K.eN O y b,K.eN O y c]
def RE.me(O:ak)(y:aw):∀(e:RE),e.rv (O.at y)=e.rv O
 |.v k=>by simp[RE.rv,ak.rv,ak.at]
 |.cell r i j k=>by simp only[RE.rv];rw[RE.me O y r,K.eN O y i]
 |.k v=>by simp[RE.rv]
end
def C.YC(O:ak)(y:aw)(v:C):v.xv (O.at y)=v.xv O:=by
 cases v<;>simp[C.xv,K.eN,BE.eN,RE.me]
def C.atc(O:ak)(y:aw)(v:C):v.cj (O.at y)=v.cj O:=by
 cases v<;>simp[C.cj,K.eN,BE.eN,RE.me]
def C.RN(O:ak)(y:aw):C.cj (O.at y)=C.cj O:=funext (C.atc O y)
def LE.Gn(O:ak)(y:aw):∀(e:LE),e.aj (O.at y)=e.aj O
 |.am r=>by simp only[LE.aj,RE.me]
 |.lit l=>by simp only[LE.aj,C.RN]
 |.mW a b=>by simp only[LE.aj];rw[LE.Gn O y a,LE.Gn O y b]
 |.uP n R=>by simp only[LE.aj,C.RN,K.eN]
 |.set a i Q X=>by simp only[LE.aj,C.RN,K.eN];rw[LE.Gn O y a]
 |.sub a P N=>by simp only[LE.aj,K.eN];rw[LE.Gn O y a]
 |.ins a n X=>by simp only[LE.aj,C.RN];rw[LE.Gn O y a]
def Nb:∀(X:bn)(O:ak)(y:aw),(O.at y).ext X=(O.ext X).at y
 |[],O,y=>rfl
 |x::X,O,y=>by
  simp only[ak.ext];rw[<-Nb X (O.add x) y];cases x<;>rfl
def atd{G:Ty}{F:World}{X:LE}{R:bp}{y:aw}{Q:RV}(h:F6 G t F v X R (x.at y) Q):F6 G t F v X R x Q:=by
 obtain⟨P,N,M⟩:=h;rw[LE.Gn] at P;exact⟨P,N,M⟩
def sK(p:Sp):∀(t:T)(O:ak)(L:dm)(y:aw),t.aP p O L->t.aP p (O.at y) L
 |.out e s,O,L,y,h=>h
 |.ret v u M,O,L,y,h=>h
 |.bI v,O,L,y,h=>h
 |.aW b t f,O,L,y,h=>by
  simp only[T.aP,BE.eN] at h⊢;exact⟨λQ=>sK p t O L y (h.1 Q),λQ=>sK p f O L y (h.2 Q)⟩
 |.bz b t,O,L,y,h=>by
  simp only[T.aP,BE.eN] at h⊢;exact⟨h.1,sK p t O L y h.2⟩
 |.call f ab u M q jf t,O,L,y,h=>by
  simp only[T.aP] at h⊢;intro m V W R;refine(h m V W R).mono ?_;intro e W' G;cases e with
  |returned v=>
   obtain⟨F,P,N,B,l,c⟩:=G;refine⟨F,P, ?_,B,l, ?_⟩;rw[Nb];exact N;rw[Nb];exact sK p t _ L y c
  |panicked ch=>exact G
  |outgrown=>exact G
 |.loop aA q x0 t,O,L,y,h=>by
  simp only[T.aP] at h⊢;obtain⟨X,μ,P,N⟩:=h;refine⟨X,μ, ?_,λF hf hI=> ?_⟩;have:C.xv (O.at y)=C.xv O:=funext (C.YC O y);rw[this];exact P;rw[Nb];exact sK p t _ _ y (N F hf hI)
 |.back aA x,O,L,y,h=>by
  have:C.xv (O.at y)=C.xv O:=funext (C.YC O y);simp only[T.aP] at h⊢;rw[this];exact h
 |.new e x M ac t,O,L,y,h=>by
  simp only[T.aP] at h⊢;intro A aa;exact sK p t (O.add (.r A)) L y (h A (atd aa))
 |.aj k x M t,O,L,y,h=>by
  simp only[T.aP] at h⊢;have:iq x (O.at y)=iq x O:=by simp only[iq,LE.Gn]
  rw[this];exact sK p t (O.add (.r (iq x O))) L y h
 |.gE g h' t f,O,L,y,h=>by
  simp only[T.aP,BE.eN] at h⊢;exact⟨λQ=>sK p t O L y (h.1 Q),λQ=>sK p f O L y (h.2 Q)⟩
 |.pick n g h' t f,O,L,y,h=>by
  simp only[T.aP,K.eN,BE.eN] at h⊢;refine⟨λj P N B=>sK p t (O.add (.i j)) L y (h.1 j P N ?_),λQ=>sK p f O L y (h.2 Q)⟩;have:=BE.eN (O.add (.i j)) y g;rw[<-this];exact B
 |.dO f g e sp st r M t,O,L,y,h=>by
  simp only[T.aP,RE.me] at h⊢;obtain⟨z,P,N⟩:=h;refine⟨z, ?_,sK p t (O.add (.r (.mk (r.rv O).val z))) L y N⟩;rw[<-P];cases sp with
  |dh k o H=>
   have w:K.ah (O.at y)=K.ah O:=funext λe=>K.eN O y e
   cases st with
   |false=>simp only[ki,w]
   |true=>
    cases H with
    |nil=>rfl
    |cons i H=>
     cases H with
     |nil=>simp only[ki,w]
     |cons j H=>rfl
  |lex cs d=>rfl
  |ratio n d=>rfl
 |.stuck _,_,_,_,h=>h
mutual
def C.Jq{O:ak}{y:aw}{n:Nat}(X:∀m,m<n->y.getD m 0=O.y.getD m 0)(V:aw):∀(v:C),v.wD n=E->v.ah (O.at y) V=v.ah O V
 |.int _ e,_=>by simp only[C.ah,K.eN]
 |.bool e,_=>by simp only[C.ah,BE.eN]
 |.am e,_=>by simp only[C.ah,RE.ah,RE.me]
 |.loc i _,_=>rfl
 |.el r _ i _,_=>by simp only[C.ah,RE.ah,RE.me,K.eN]
 |.iP _ _ _ _,_=>rfl
 |.agg l,h=>by simp only[C.ah];rw[C.Jr X V l h]
 |.bP l,h=>by simp only[C.ah];rw[C.Jr X V l h]
 |.fn _ l,h=>by simp only[C.ah];rw[C.Jr X V l h]
 |.gJ _ x,h=>by simp only[C.ah];rw[C.Jq X V x h]
 |.yl m,h=>by
  simp only[C.wD,decide_eq_false_iff_not,Nat.not_le] at h;simp only[C.ah,ak.at];rw[X m h]
 |.any,_=>rfl
 |.mp _,_=>rfl
 |.fW e Q R,h=>by simp only[C.ah,K.eN];rw[C.Jr X V R h]
def C.Jr{O:ak}{y:aw}{n:Nat}(X:∀m,m<n->y.getD m 0=O.y.getD m 0)(V:aw):∀(l:av),C.oT n l=E->C.aF (O.at y) V l=C.aF O V l
 |[],_=>rfl
 |x::R,h=>by
  simp only[C.oT,uK] at h;simp only[C.aF];rw[C.Jq X V x h.1,C.Jr X V R h.2]
end
def C.ate(R:∀m,m<X->t.getD m 0=x.y.getD m 0)(V:aw)(v:C)(h:v.wD X=E):v.gK (x.at t) V=v.gK x V:=by
 have Q:=C.Jq R V v h;cases v<;>simp only[C.gK]<;>try rw[Q]
 exact RE.me x t _
def C.ahW{O:ak}{y:aw}{n:Nat}(X:∀m,m<n->y.getD m 0=O.y.getD m 0)(V:aw):∀(l:av),C.oT n l=E->C.dJ (O.at y) V l=C.dJ O V l
 |[],_=>rfl
 |x::R,h=>by
  simp only[C.oT,uK] at h;have:=C.ahW X V R h.2;simp only[C.dJ,eE] at this⊢;rw[C.ate X V x h.1,this]
def YD{n:Nat}:∀{l:av},C.oT n l=E->∀v∈l,v.wD n=E
 |[],_,v,h=>by cases h
 |x::R,h,v,X=>by
  simp only[C.oT,uK] at h;rcases dP.1 X with rfl|X;exact h.1;exact YD h.2 v X
def YE{n:Nat}:∀{bx:bE},wE n bx=E->∀(i:Nat)(t:TypeId)(X:av),cg bx i=U (t,X)->C.oT n X=E
 |[],_,i,t,X,h=>by simp[cH] at h
 |Z::Q,R,0,t,X,h=>by simp[cH] at h
 |U x::Q,R,0,t,X,h=>by
  simp only[wE,uK] at R;simp[cH] at h;rw[h] at R;exact R.1
 |Z::Q,R,i+1,t,X,h=>YE (bx:=Q) R i t X (by simpa[cH] using h)
 |U x::Q,R,i+1,t,X,h=>by
  simp only[wE,uK] at R;exact YE (bx:=Q) R.2 i t X (by simpa[cH] using h)
section
variable{H:aw}{F:World}{D:b9}{G:Ty}{V:aw}{O:ak}{s:S}{a:Act}{W:World}
def Nc(n:Nat):∀(k:Nat)(R:bE),(mZ n k R).length=Y R
 |0,[]=>rfl
 |_+1,[]=>rfl
 |k+1,x::X=>by simp[mZ,Nc n k X]
 |0,Z::X=>by simp[mZ,Nc n 0 X]
 |0,U x::X=>by simp[mZ,Nc n 0 X]
def Nd(n:Nat):∀(k:Nat)(R:bE)(i:Nat)(x:TypeId×av),cg (mZ n k R) i=U x->cg R i=U x
 |0,[],_,_,h=>h
 |_+1,[],_,_,h=>h
 |k+1,x::X,0,_,h=>by simpa[mZ,cH] using h
 |k+1,x::X,i+1,z,h=>by
  have:=Nd n k X i z (by simpa[mZ,cH] using h);simpa[cH] using this
 |0,Z::X,0,_,h=>by simp[mZ,cH] at h
 |0,Z::X,i+1,z,h=>by
  have:=Nd n 0 X i z (by simpa[mZ,cH] using h);simpa[cH] using this
 |0,U x::X,0,z,h=>by
  simp only[mZ] at h;split at h;simp[cH] at h;simpa[cH] using h
 |0,U x::X,i+1,z,h=>by
  have:=Nd n 0 X i z (by simpa[mZ,cH] using h);simpa[cH] using this
def ahX:∀{bx:bE}{i:Nat},aL bx i=J->i<Y bx
 |[],i,h=>by simp[aL,cH] at h
 |x::X,0,_=>ay
 |x::X,i+1,h=>by
  have:=ahX (bx:=X) (i:=i) (by simpa[aL,cH] using h);simp only[oK];omega
def ahY{R:bE}:aL R X=J<->∃x,cg R X=U x:=by
 cases h:cg R X<;>simp[aL,h]
def Nf{k:Nat}{R:bE}{i:Nat}(h:aL (mZ X k R) i=J):aL R i=true:=by
 obtain⟨x,Q⟩:=ahY.1 h;exact ahY.2 ⟨x,Nd X k R i x Q⟩
def ahZ(n:Nat):∀(k:Nat)(X:bE)(i:Nat),i<k->aL X i=J->aL (mZ n k X) i=J
 |0,_,_,h,_=>ae
 |_+1,[],_,_,h=>h
 |k+1,x::R,0,_,h=>by simpa[mZ,aL,cH] using h
 |k+1,x::R,i+1,Q,h=>by
  have:=ahZ n k R i ae (by simpa[aL,cH] using h);simpa[mZ,aL,cH] using this
def jE.atf{X:bE}{Q:bp}(R:jE H F V O X G Q W)(n k:Nat):jE H F V O (mZ n k X) G Q W:=
 ⟨R.base,λi h=>R.own i (Nf h),λi j h L=>R.inj i j (Nf h) (Nf L),λi t B h=>R.box i t B (Nd n k X i _ h),λq e P N M=>⟨(R.am q e P N M).1,λb A i z=>(R.am q e P N M).2 b A i (Nf z)⟩⟩
def jE.at{P:bE}{M:bp}(R:jE H F V O P G M W)(L:∀m,m<X->t.getD m 0=O.y.getD m 0)(B:wE X P=E):jE H F V (O.at t) P G M W:=
 ⟨R.base,R.own,R.inj,λi Q N h=>by rw[C.ahW L V N (YE B i Q N h)];exact R.box i Q N h,R.am⟩
def atg{a w:World}(h:ij t a w)(P:a.heap.size<=X)(o:Obj):ij t a (w.putObj X o):=
 ⟨h.os,h.tape,h.output,by have:=h.size;simpa[Fm] using this,λk R Q=>(tE ae).trans (h.block k R Q)⟩
def bJ.cells{k:RK}{Q:RV}(h:bJ W G k Q)(R:dR G k Q X):∃M t L,W.heap[X]?=U (.cells M t L):=by
 induction h generalizing X with
 |sl e A H F P m l B g f d N=>
  cases R with
  |here e a H F P=>
   have x:P[0]?=U P[0]:=cK ae;obtain⟨q1,X,aa,w,u,-⟩:=B 0 _ x;cases w;exact u
  |deep e v P i j r c z k X q p o n=>exact N i j r c z k q p o n
 |str s=>cases R
 |ai v h=>cases R
 |own e Q h hn N=>
  cases R with
  |own e Q X R=>exact N R
 |ap Q h=>cases R
 |mr sh P=>cases R
def jE.obj{M:bE}{L:bp}(R:jE H F V O M G L W){o:Obj}(B:W.heap[X]?=U o)(A:MH o=J)(w:F.heap.size<=X)(z:Obj):jE H F V O M G L (W.putObj X z):=by
 have v:∀P Q t N,W.heap[P]?=U (.cells Q t N)->P≠X:=λP Q t N h e=>by subst e;rw[B] at h;cases h;exact afX A _ _ _ rfl
 refine⟨atg R.base w z,R.own,R.inj,λi t Q h=> ?_,λk e u r q=> ?_⟩;have:=R.box i t Q h;rw[tE (λe=>by subst e;rw[B] at this;cases this;exact afY A _ _ rfl)];exact this;obtain⟨x,p⟩:=R.am k e u r q;refine⟨x.IU (λP n=> ?_) (by simp[Fm]),p⟩;obtain⟨Q,t,N,m⟩:=x.cells n;exact tE (v _ _ _ _ m)
def yc.obj{R:bE}{Q:bp}{P:RV}{N:Nat}(h:yc H F V O R G Q W X v P N){b:Nat}{o:Obj}(L:W.heap[b]?=U o)(B:MH o=J)(A:Obj):yc H F V O R G Q (W.putObj b A) X v P N:=by
 refine h.world (tE ?_);obtain⟨z,x,w,-,M,-⟩:=h.mem;intro v;subst v;rw[L] at M;cases M;exact afX B _ _ _ rfl
def aC.obj(R:aC H F D G V O s a W){b:Nat}{o:Obj}(Q:W.heap[b]?=U o)(P:MH o=J)(M:F.heap.size<=b)(X:Obj){D':b9}{pd:uN}{a':Act}(N:a'.tmps=a.tmps)
  (L:eF F D' pd O.y a'.defers (W.putObj b X)):aC H F D' G V O {s with pd:=pd} a' (W.putObj b X):=
 ⟨R.mem.obj Q P M X,R.gv,R.ei,R.eb,R.er,L,by rw[N];exact R.size,λt B h=>by rw[N];exact R.tmps t B h,λk e A z x w v=>(R.fZ k e A z x w v).obj Q P X⟩
def qz:aw->World->World
 |[],W=>W
 |d::ms,W=>qz ms (W.putObj d (.deferred Z))
def aC.qz:∀{ms:aw}{a:Act}{W:World},aC H F D G V O s a W->a.defers=ms.map lF++D.base->aC H F D G V O s {a with defers:=D.base} (qz ms W)
 |[],a,W,R,h=>by
  have:({a with defers:=D.base}:Act)=a:=by cases a;simp at h;subst h;rfl
  rw[this];exact R
 |d::ms,a,W,R,h=>by
  obtain⟨A,Q,w,M,L⟩:=R.cU.ma;have v:A=d::ms:=by
   rw[h] at Q;have Q:=aDf Q;have u:∀(l X:aw),l.map lF=X.map lF->l=X:=by
    intro l;induction l with
    |nil=>intro X h;cases X<;>simp at h;rfl
    |cons x b t=>
     intro X h;cases X with
     |nil=>simp at h
     |cons z q=>
      simp only[eE,wi,lF,Deferred.mk.injEq,Target.collected.injEq] at h;obtain⟨⟨rfl,-⟩,h⟩:=h;rw[t q h]
   exact(u _ _ Q).symm
  subst v;have P:=L d ay;have p:eF F D s.pd O.y (ms.map lF++D.base) (W.putObj d (.deferred Z)):=by
   refine⟨R.cU.len,R.cU.qr,λn l r o m k=> ?_,R.cU.inj,ms,rfl,λj=>(by have:=w j;cases this),(Wp.1 M).2,λi B=> ?_⟩;obtain⟨g,N,f⟩:=R.cU.dt n l r o m k;exact⟨g,(tE (λe=>by subst e;rw[P.1] at N;cases N)).trans N,f⟩;have:=L i (by simp only[fG,dP];exact .inr B);refine⟨(tE (λe=>by subst e;exact(Wp.1 M).1 B)).trans this.1,this.2⟩
  have c:=R.obj P.1 rfl P.2 (.deferred Z) (D':=D) (pd:=s.pd) (a':={a with defers:=ms.map lF++D.base}) rfl p;exact aC.qz (a:={a with defers:=ms.map lF++D.base}) (W:=W.putObj d (.deferred Z)) c rfl
def eF.qz:∀{ms:aw}{pd:uN}{y:aw}{W:World},eF F D pd y (ms.map lF++D.base) W->eF F D pd y D.base (qz ms W)
 |[],pd,y,W,h=>h
 |d::ms,pd,y,W,h=>by
  obtain⟨L,R,H,P,N⟩:=h.ma;have G:L=d::ms:=by
   have R:=aDf R;have B:∀(l X:aw),l.map lF=X.map lF->l=X:=by
    intro l;induction l with
    |nil=>intro X h;cases X<;>simp at h;rfl
    |cons x j A=>
     intro X h;cases X with
     |nil=>simp at h
     |cons z w=>
      simp only[eE,wi,lF,Deferred.mk.injEq,Target.collected.injEq] at h;obtain⟨⟨rfl,-⟩,h⟩:=h;rw[A w h]
   exact(B _ _ R).symm
  subst G;have v:=N d ay;refine eF.qz (ms:=ms) (W:=W.putObj d (.deferred Z)) ⟨h.len,h.qr,λn l r u t q=> ?_,h.inj,ms,rfl,λp=>(by have:=H p;cases this),(Wp.1 P).2,λo M=> ?_⟩;obtain⟨m,Q,k⟩:=h.dt n l r u t q;exact⟨m,(tE (λe=>by subst e;rw[v.1] at Q;cases Q)).trans Q,k⟩;have:=N o (by simp only[fG,dP];exact .inr M);exact⟨(tE (λe=>by subst e;exact(Wp.1 P).1 M)).trans this.1,this.2⟩
end
def Ng{P:World->Prop}{B:Nat}(h:∀W b o,B<=b->P W->P (W.putObj b o)):∀{X:aw}{W:World},(∀d∈X,B<=d)->P W->P (qz X W)
 |[],W,_,R=>R
 |d::X,W,Q,R=>Ng (W:=W.putObj d (.deferred Z)) h (λx N=>Q x (by simp[N])) (h W d _ (Q d ay) R)
def sL{P:Program}{Q:Func}{N:lW}{R:Ending->World->Prop}{u:FrameMode}{M:BF}(L:u≠ .run):∀{X:aw}{W:World},X.Nodup->(∀d∈X,W.heap[d]?=U (.deferred (U [])))->
  LeavesInM Fence.wide 0 P Q N R M u (qz X W)->LeavesInM Fence.wide 0 P Q N R (X.map lF++M) u W
 |[],W,_,_,h=>h
 |d::X,W,F,H,h=>by
  obtain⟨B,A⟩:=Wp.1 F;refine⟨L,.inl ⟨d,_,rfl,run_takeDeferred (H d ay),sL L A (λz G=> ?_) h⟩⟩;exact(tE (λe=>by subst e;exact B G)).trans (H z (by simp[G]))
section
variable{H:aw}{F:World}{D N:b9}{G:Ty}{V:aw}{O:ak}{s:S}{a:Act}{W:World}{pd:uN}{y:aw}{M:BF}
def eF.enter(h:eF F D pd y M W)(X:(t++D.out).Nodup)(R:∀d∈t++D.out,W.heap[d]?=U (.deferred (U []))/\F.heap.size<=d)(Q:Bool):eF F ⟨t++D.out,D.dt,Q,[]⟩ pd y [] W:=
 ⟨h.len,h.qr,h.dt,h.inj,[],rfl,λ_=>rfl,X,R⟩
def eF.Jp(h:eF F ⟨t++D.out,D.dt,b,[]⟩ pd y [] W)(R:D.rd=J->t=[]):eF F D pd y (t.map lF++D.base) W:=by
 obtain⟨X,Q,M,P,N⟩:=h.ma;have:X=[]:=by cases X<;>simp at Q;rfl
 subst this;exact⟨h.len,h.qr,h.dt,h.inj,t,rfl,R,P,N⟩
def eF.push{l:Nat}{r:Loop}(h:eF F D pd y M W)(v:(t++D.out).Nodup)(u:∀X∈t++D.out,W.heap[X]?=U (.deferred (U []))/\F.heap.size<=X)
  (q:W.heap[X]?=U (.deferred (U [])))(p:X∉t++D.out)(o:F.heap.size<=X)(m:W.heap[l]?=U (.loop (ri r .ready)))(z:∀(n:Nat)(P:Nat)(G:Loop),D.dt[n]?=U (P,G)->P≠l)(k:F.heap.size<=l):
  eF F ⟨X::(t++D.out),D.dt++[(l,r)],E,[]⟩ (pd++[.ready]) (y++[l]) [] W:=by
 refine⟨by simp[h.len],by simp[h.qr],λn P G j Q R=> ?_,λn N P x w Q R=> ?_,[],rfl,λ_=>rfl,by simpa using⟨by simpa using p,v⟩,λi H=> ?_⟩;by_cases L:n<Y D.dt;rw[dU L] at Q;rw[dU (by rw[<-h.len];exact L)] at R;obtain⟨g,f,e⟩:=h.dt n P G j Q R;exact⟨by rw[dU (by rw[h.qr,<-h.len];exact L)];exact g,f,e⟩;have B:n=Y D.dt:=by
  have:=(bZ.1 Q).1;simp at this;omega
 subst B;simp at Q;obtain⟨rfl,rfl⟩:=Q;rw[h.len] at R;simp at R;subst R;refine⟨?_,m,k⟩;rw[h.len,<-h.qr];simp;by_cases L:n<Y D.dt;rw[dU L] at Q;by_cases A:N<Y D.dt;rw[dU A] at R;exact h.inj n N P x w Q R;have B:N=Y D.dt:=by
  have:=(bZ.1 R).1;simp at this;omega
 subst B;simp at R;obtain⟨rfl,rfl⟩:=R;exact aY rfl (z n _ x Q);have c:n=Y D.dt:=by
  have:=(bZ.1 Q).1;simp at this;omega
 subst c;simp at Q;obtain⟨rfl,rfl⟩:=Q;by_cases A:N<Y D.dt;rw[dU A] at R;exact aY rfl (z N _ w R);have:=(bZ.1 R).1;simp at this;omega;simp only[gr,dP] at H;rcases H with rfl|H;exact⟨q,o⟩;exact u i H
def eF.pop{l:Nat}{r:Loop}(h:eF F ⟨X::(t++D.out),D.dt++[(l,r)],E,[]⟩ pd y [] W)(H:D.rd=E):eF F D (pd.take (Y D.dt)) (y.take (Y D.dt)) ((X::t).map lF++D.base) W:=by
 obtain⟨M,G,o,B,A⟩:=h.ma;have:M=[]:=by cases M<;>simp at G;rfl
 subst this;have z:=h.len;have m:=h.qr;simp at z;refine⟨dF,dF,λn N x w R Q=> ?_,λn v N u q R Q=> ?_,X::t,rfl,λL=>(by rw[H] at L;cases L),B,A⟩;have P:=(bZ.1 R).1;rw[mB,aI P] at Q⊢;exact h.dt n N x w (by rw[dU P];exact R) Q;have P:=(bZ.1 R).1;have p:=(bZ.1 Q).1;exact h.inj n v N u q (by rw[dU P];exact R) (by rw[dU p];exact Q)
def eF.put{r:Loop}(h:eF F D pd y M W)(H:W.heap[X]?=U (.loop r))(G:∀(n R:Nat)(Q:Loop),D.dt[n]?=U (R,Q)->R≠X)(o:Obj):eF F D pd y M (W.putObj X o):=by
 obtain⟨B,A,z,x,P⟩:=h.ma;refine⟨h.len,h.qr,λn R Q w L v=> ?_,h.inj,B,A,z,x,λd N=>⟨?_,(P d N).2⟩⟩;obtain⟨u,t,q⟩:=h.dt n R Q w L v;exact⟨u,(tE (G n R Q L)).trans t,q⟩;exact(tE (λe=>by subst e;have:=(P d N).1;rw[H] at this;cases this)).trans (P d N).1
def eF.YF{l:Nat}{r:Loop}(h:eF F D pd y M W)(R:D.dt[X]?=U (l,r))(z:Fs):eF F D (pd.set X z) y M (W.putObj l (.loop (ri r z))):=by
 obtain⟨u,t,q,p,L⟩:=h.ma;have x:X<Y pd:=by rw[<-h.len];exact(bZ.1 R).1
 have P:∃H,W.heap[l]?=U (.loop H):=⟨_,(h.dt X l r pd[X] R (cK x)).2.1⟩;obtain⟨j,P⟩:=P;refine⟨by simp[h.len],by simp[h.qr],λw o H m N Q=> ?_,h.inj,u,t,q,p,λd G=>⟨?_,(L d G).2⟩⟩;rw[uL] at Q;split at Q;rename_i e;subst e;rw[R] at N;cases N;simp only[cG] at Q;subst Q;obtain⟨B,v,A⟩:=h.dt X l r pd[X] R (cK x);exact⟨B,aDj (zS P),A⟩;rename_i e;obtain⟨B,v,A⟩:=h.dt w o H m N Q;exact⟨B,(tE (λk=>by subst k;exact e (h.inj X w _ _ _ R N))).trans v,A⟩;exact(tE (λe=>by subst e;have:=(L d G).1;rw[P] at this;cases this)).trans (L d G).1
def ah0{O:ak}{V:aw}:∀(R:aw)(N l:av)(A:lW),A.size=Y l->(∀(t:Nat)(X:C),l[t]?=U X->X=.any\/A[t]?=U (X.ah O V))->
  ((R.zip (C.aF O V N)).foldl (λ(M:lW)(x:Nat×Value)=>M.setIfInBounds x.1 x.2) A).size=(FW R N l).length/\
  ∀(t:Nat)(X:C),(FW R N l)[t]?=U X->X=.any\/((R.zip (C.aF O V N)).foldl (λ(M:lW)(x:Nat×Value)=>M.setIfInBounds x.1 x.2) A)[t]?=U (X.ah O V)
 |[],N,l,A,Q,h=>by simp only[List.zip_nil_left,List.foldl_nil,FW];exact⟨Q,h⟩
 |p::R,[],l,A,Q,h=>by simp only[C.aF,List.zip_nil_right,List.foldl_nil,FW];exact⟨Q,h⟩
 |p::R,v::L,l,A,Q,h=>by
  simp only[C.aF,Wj,Dg,FW];refine ah0 R L (l.set p v) (A.setIfInBounds p (v.ah O V)) (by simp[Q]) (λt X P=> ?_);rw[uL] at P;split at P;rename_i e;subst e;split at P;rename_i H;cases P;right;rw[aC6 (by rw[Q];exact H)];cases P;rename_i e;rw[aeM e];exact h t X P
end
section
variable{p:Sp}{cf:bF}
def Js(bR:Nat->Bool)(X W:Bool):∀(l:oM)(j n i:Nat)(m:OM),(gG bR X W j n l)[i]?=U m->l[i]?=U m.o
 |[],j,n,i,m,h=>by simp[gG] at h
 |o::r,j,n,0,m,h=>by simp[gG] at h;simp[<-h]
 |o::r,j,n,i+1,m,h=>by simp[gG] at h;simpa using Js bR X W r _ _ i m h
def RO(bR:Nat->Bool)(X W:Bool):∀(l:oM)(j n:Nat),(gG bR X W j n l).length=Y l
 |[],j,n=>rfl
 |o::r,j,n=>by simp[gG,RO bR X W r]
def YG(bR:Nat->Bool)(X W:Bool):∀(l:oM)(j n i:Nat)(m:OM),(gG bR X W j n l)[i]?=U m->m.j=j+i
 |[],j,n,i,m,h=>by simp[gG] at h
 |o::r,j,n,0,m,h=>by simp[gG] at h;simp[<-h]
 |o::r,j,n,i+1,m,h=>by simp[gG] at h;have:=YG bR X W r _ _ i m h;omega
def YI(bR:Nat->Bool)(W X:Bool):∀(l:oM)(j n i:Nat)(m:OM),(gG bR W X j n l)[i]?=U m->m.dr=X
 |[],j,n,i,m,h=>by simp[gG] at h
 |o::r,j,n,0,m,h=>by simp[gG] at h;simp[<-h]
 |o::r,j,n,i+1,m,h=>by simp[gG] at h;exact YI bR W X r _ _ i m h
structure ah1(m m':OM):Prop where
 o:m.o=m'.o
 ix:m.ix=m'.ix
 j:m.j=m'.j
 dr:m.dr=m'.dr
def YJ{V:aw}:∀{l X:cN}{m:OM},m∈tQ V X l->∃W∈l,ah1 m W
 |[],X,m,h=>by simp[tQ] at h
 |x::l,X,m,h=>by
  simp only[tQ,dP] at h;rcases h with rfl|h;exact⟨x,ay,rfl,rfl,rfl,rfl⟩;obtain⟨W,R,Q⟩:=YJ h;exact⟨W,by simp[R],Q⟩
def ah2{X:aw}:∀{l:cN},zN X l=J->l.Pairwise λx y=>(X.getD y.j 0).testBit x.j=J
 |[],_=>xK
 |x::r,h=>by
  simp only[zN,az] at h;exact jL.2 ⟨λy W=>fp.1 h.1 y W,ah2 h.2⟩
def ah3{X:aw}:∀{l W:cN},(l.Pairwise λx y=>(X.getD y.j 0).testBit x.j=J)->(tQ X W l).Pairwise λx y=>(X.getD y.j 0).testBit x.j=J
 |[],W,_=>xK
 |x::r,W,h=>by
  obtain⟨V,R⟩:=jL.1 h;refine jL.2 ⟨λy Q=> ?_,ah3 R⟩;obtain⟨P,O,N⟩:=YJ Q;rw[N.j];exact V P O
def ah4{Q:aw}:∀{l W:cN}(R:cN)(m:OM)(X:cN),tQ Q W l=R++m::X->m.so=J->X.Pairwise λx y=>(Q.getD y.j 0).testBit x.j=J
 |[],W,R,m,X,h,_=>by cases R<;>simp[tQ] at h
 |x::r,W,[],m,X,h,V=>by
  simp only[tQ,gr,wi] at h;obtain⟨P,rfl⟩:=h;subst P;simp only[az] at V;exact ah3 (jL.1 (ah2 V.1.2)).2
 |x::r,W,z::O,m,X,h,V=>by
  simp only[tQ,fG,wi] at h;exact ah4 O m X h.2 V
def YK:∀{l:aw},mF l=J->l.Pairwise (·≠·)
 |[],_=>xK
 |x::W,h=>by
  simp only[mF,az,gO] at h;refine jL.2 ⟨λy X e=> ?_,YK h.2⟩;subst e;rw[pz.2 X] at h;cases h.1
def RP:∀{l:cN},mF (l.filterMap (·.o.dst))=J->l.Pairwise λa b=>∀d,a.o.dst=U d->b.o.dst≠U d
 |[],_=>xK
 |x::V,h=>by
  cases W:x.o.dst with
  |none=>
   simp only[aeT,W] at h;exact jL.2 ⟨λy _ d X=>(by rw[W] at X;cases X),RP h⟩
  |some d=>
   simp only[aeT,W,mF,az,gO] at h;refine jL.2 ⟨λy R e X Q=> ?_,RP h.2⟩;rw[W] at X;cases X;have:d∈V.filterMap (·.o.dst):=Bg.2 ⟨y,R,Q⟩;rw[pz.2 this] at h;cases h.1
def ah5{X:dI}{W:aw}:∀{l:cN},Ds X W l=J->l.Pairwise λx y=>(W.getD y.j 0).testBit x.j=J\/tP X x y=J
 |[],_=>xK
 |x::R,h=>by
  simp only[Ds,az] at h;refine jL.2 ⟨λy V=> ?_,ah5 h.2⟩;have:=fp.1 h.1 y V;simpa using this
def ah6{Q:dI}:∀{l:cN}{done:aw},Dt Q done l=J->(∀m∈l,Q[m.j]?=U m.o)->∀X m V,l=X++m::V->∀e∈kX m.o,e∈done\/∃x∈X,x.j=e
 |[],done,_,_,X,m,V,h=>by cases X<;>simp at h
 |x::l,done,R,P,X,m,V,h=>by
  simp only[Dt,az] at R;intro e O;cases X with
  |nil=>
   simp only[gr,wi] at h;obtain⟨rfl,-⟩:=h;rw[P x ay] at R;exact .inl (pz.1 (fp.1 R.1 e O))
  |cons z N=>
   simp only[fG,wi] at h;obtain⟨rfl,h⟩:=h;rcases ah6 R.2 (λm M=>P m (by simp[M])) N m V h e O with W|⟨y,L,W⟩;rcases dP.1 W with rfl|W;exact .inr ⟨x,ay,rfl⟩;exact .inl W;exact .inr ⟨y,by simp[L],W⟩
def ah7{X:dI}(h:QD X.toList t=J):Jm X t:=by
 have P:∀(j:Nat)(o:Oper),X[j]?=U o->(∀e∈kX o,e<j)/\∀i,i<X.size->(t.getD j 0).testBit i=J->i∈kX o\/∃e∈kX o,(t.getD e 0).testBit i=true:=by
  intro j o W;have O:j<X.size:=(n9.1 W).1;have R:=fp.1 h j (by simpa using O);have N:X.toList[j]?=U o:=by simpa using W
  rw[N] at R;simp only[az] at R;refine⟨λe Q=>by simpa using fp.1 R.1 e Q,λi M L=> ?_⟩;have V:=fp.1 R.2 i (by simpa using M);simp only[L,Wu,aqJ,jd] at V;rcases V with V|V;exact .inl (pz.1 V);obtain⟨e,Q,H⟩:=kS.1 V;exact .inr ⟨e,Q,H⟩
 exact⟨λj o W=>(P j o W).1,λj o W=>(P j o W).2⟩
def u5(X:aw):∀(l:av)(n i:Nat),(ss X n l)[i]?=(l[i]?).map λx=>if X.contains (n+i) then .any else x
 |[],n,i=>by simp[ss]
 |x::W,n,0=>by simp[ss]
 |x::W,n,i+1=>by
  simp only[ss,sa];rw[u5 X W (n+1) i,show n+1+i=n+(i+1) from ae]
def Jt(X:aw):∀(l:av)(n:Nat),(ss X n l).length=Y l
 |[],n=>rfl
 |x::W,n=>by simp[ss,Jt X W]
def ah8:∀{l:oM}{o:Oper}{t:TypeId},Iu cf l=J->o∈l->o.op=.alloc t->FU cf t=J
 |[],o,t,_,h,_=>by simp at h
 |x::V,o,t,h,X,W=>by
  simp only[Iu,az] at h;rcases dP.1 X with rfl|X;have:=h.1;rw[W] at this;exact this;exact ah8 h.2 X W
def YL:∀{l:cN},mF ((l.filter λm=>gF m.o.op).map (·.ix))=J->l.Pairwise λa b=>gF a.o.op=J->gF b.o.op=J->a.ix≠b.ix
 |[],_=>xK
 |x::R,h=>by
  by_cases X:gF x.o.op=J;rw[List.filter_cons_of_pos (by simpa using X),eE,mF,az] at h;refine jL.2 ⟨λy W _ Q e=> ?_,YL h.2⟩;have:x.ix∈(R.filter λm=>gF m.o.op).map (·.ix):=hJ.2 ⟨y,pB.2 ⟨W,by simpa using Q⟩,e.symm⟩;have V:=h.1;rw[pz.2 this] at V;cases V;rw[List.filter_cons_of_neg (by simpa using X)] at h;exact jL.2 ⟨λy W P=>aY P X,YL h⟩
def ath(bR:Nat->Bool)(W V:Bool)(R:bE):∀(l:oM){i:Nat}{m:OM},gF m.o.op=J->(gG bR W V 0 (Y R) l)[i]?=U m->gf (R++eI (lC l) Z) m.ix=true:=by
 have P:∀(l:oM)(j n i:Nat)(m:OM),gF m.o.op=J->(gG bR W V j n l)[i]?=U m->n<=m.ix/\m.ix<n+lC l:=by
  intro l;induction l with
  |nil=>intro j n i m _ h;simp[gG] at h
  |cons o r O=>
   intro j n i m X h;have Q:lC (o::r)=(if gF o.op then 1 else 0)+lC r:=by
    unfold lC;rw[aqz];split<;>simp<;>omega
   cases i with
   |zero=>
    simp only[gG,zr,cG] at h;subst h;simp only at X⊢;rw[Q,aI X];omega
   |succ i=>
    simp only[gG,sa] at h;have:=O _ _ i m X h;rw[Q];split at this<;>simp_all<;>omega
 intro l i m X h;obtain⟨N,M⟩:=P l 0 _ i m X h;unfold gf;rw[iC N,E9,aI ae]
abbrev ah9(p:Sp)(cf:bF)(D:b9)(x:YH)(L:dm)(n:Nat)(B:av)(s:S)(k A:C->S->T)(O:ak)(V:aw)(a:Act)(W:World)(G:Ending->World->Prop):Prop:=
  (x n B s k A).aP p O L->aC p.S0 p.w0 D cf.ty V O s a W->eL cf.gl O->
  (∀v N X M Q H,bH s O V N X M->di s.aA L H->aC p.S0 p.w0 D cf.ty M X N a Q->(k v N).aP p X H->G (.returned (v.ah X M)) Q)->
  (∀v N X M Q H,bH s O V N X M->di s.aA L H->aC p.S0 p.w0 D cf.ty M X N a Q->(A v N).aP p X H->G (.panicked [{v:=v.ah X M,recovered:=E}]) Q)->
  (∀z Q w y,eF p.w0 D w y a.defers Q->p.R (.panicked z) Q->G (.panicked z) Q)->
  ∀(F:Fence)(_:qy F)(m:Nat),YieldAt F m p.P (O.y.getD n 0) (C.aF O V B).toArray W G
def qA(p:Sp)(cf:bF)(X:List (Nat×Loop))(B:jF)(R:YH):Prop:=
 ∀(D:b9)(_:X<+:D.dt)(L:dm)(n:Nat)(Q:av)(s:S)(k P:C->S->T)(O:ak)(V:aw)(a:Act)(W:World)(N:Ending->World->Prop),B.lG s (O.at (O.y.take (Y X))) V L->ah9 p cf D R L n Q s k P O V a W N
def ati{Q:World}{D:b9}{P:Ty}{V:aw}{a:Act}{W:World}(X:aC t Q D P V x R a W):x.at (x.y.take (Y D.dt))=x:=by
 rw[Fb (by rw[X.cU.qr,<-X.cU.len];exact cd _)];cases x;rfl
def qA.use{D:b9}{B:jF}{P:YH}(H:qA p cf D.dt B P){L:dm}{k N:C->S->T}{a:Act}{W:World}{M:Ending->World->Prop}(G:B.lG R x t L):ah9 p cf D P L X e R k N x t a W M:=
 λh Q=>H D (List.prefix_refl _) L X e R k N x t a W M (by rw[ati Q];exact G) h Q
def DQ(X:List (Nat×Loop))(B:jF):qA p cf X B iK:=λ_ _ _ _ _ _ _ _ _ _ _ _ _ _ h=>h.elim
def atj{F:Fence}(hF:qy F)(ok:jr p cf){pc:wB}(a1:RL p cf pc){D:b9}{B:jF}{yh:YH}(hY:qA p cf D.dt B yh){Q:Exit->Act->World->Prop}(HP:∀ch g z pd y,eF p.w0 D pd y g.defers z->p.R (.panicked ch) z->Q (.panic ch) g z){G:dI}{id:Nat}{r:cN}{a:Act}{W:World}{L:dm}{k:XE->S->T}(hB:B.lG R x t L)
  (aa:It G (Y R.au)=U r)(a3:Iu cf G.toList=J)(a4:DL G pc)(h:(nH cf (xZ cf pc yh) G (k .normal) (λv=>k (.bI v)) r (R.zO G r) []).aP p x L)(N:aC p.S0 p.w0 D cf.ty t x R a W)(hg:eL cf.gl x)
  (hk:∀q w f g z c,bH R x t q w f->di R.aA L c->aC p.S0 p.w0 D cf.ty f w q g z->(k .normal q).aP p w c->Q .normal g z)
  (a9:∀v q w f g z c,bH R x t q w f->di R.aA L c->aC p.S0 p.w0 D cf.ty f w q g z->(k (.bI v) q).aP p w c->Q (.panic [{v:=v.ah w f,recovered:=E}]) g z):
  (Code.region id G J).wpIn F X p.P Q a W:=by
 unfold It at aa;simp only at aa;split at aa;rename_i hc;simp only[az,dv] at hc;obtain⟨⟨⟨⟨⟨⟨⟨c1,c2⟩,c3⟩,c4⟩,c5⟩,c8⟩,c6⟩,c7⟩:=hc;simp only[cG] at aa;rw[aa] at c2 c3 c4 c5 c6 c7 c8;have af:∀m∈r,∃(i:Nat)(m':OM),(gG (Mn G.toList (oR G.toList)) E J 0 (Y R.au) G.toList)[i]?=U m'/\ah1 m m':=by
  intro m A;rw[<-aa] at A;obtain⟨m',h1,h2⟩:=YJ A;rw[Is] at h1;obtain⟨i,-,l⟩:=Bg.1 h1;exact⟨i,m',l,h2⟩
 have al:∀m∈r,G[m.j]?=U m.o:=by
  intro m A;obtain⟨i,m',l,u⟩:=af m A;have h1:=Js _ _ _ _ _ _ _ _ l;have h2:=YG _ _ _ _ _ _ _ _ l;rw[u.j,u.o,h2,iJ];simpa using h1
 have hW:M8 G (oR G.toList) (ae0 G.size E) r:=by
  refine⟨al,λi l=> ?_,ay,λj o ho hj=> ?_,ah5 c3,λxs m ys he e hd=> ?_, ?_,RP c4,λxs m ys he ba=>ah4 xs m ys (aa.trans he) ba⟩;constructor;intro _;have:=fp.1 c7 i (by simpa using l);obtain⟨m,A,hj⟩:=kS.1 this;exact⟨m,A,by simpa using hj⟩;intro _;simp[l];exfalso;have bb:j<G.size:=(n9.1 ho).1;simp[bb] at hj;rcases ah6 c2 al xs m ys he e hd with h1|h1;cases h1;exact .inr h1;have:=YK c5;rw[aqw] at this;exact this
 obtain⟨Rr,ac⟩:=N.room (lC G.toList);have Rb:aC p.S0 p.w0 D cf.ty (t++eI (lC G.toList) 0) x (R.zO G r) a {W with drawn:=W.drawn+1}:=by
  have Rd:=Rr.drew;refine⟨Rd.mem,Rd.gv,Rd.ei,Rd.eb,Rd.er,Rd.cU,by simp only[S.zO,Jt];exact Rr.size,λM sv b=> ?_,Rd.fZ⟩;simp only[S.zO] at b;rw[u5,iJ] at b;cases hx:R.tmps[M]? with
  |none=>rw[hx] at b;cases b
  |some H=>
   rw[hx] at b;simp only[dV,cG] at b;split at b;exact .inl b.symm;subst b;exact Rd.tmps M H hx
 have an:bH R x t (R.zO G r) x (t++eI (lC G.toList) 0):=⟨ac.ext,ac.mono,ac.len,ac.aA⟩;refine wpIn_region_any ok.Ye ?_;refine as3 a4 a1 hF ok HP (ah7 c1) (Kn:=DM p (k .normal)) (Kp:=BV p (λv=>k (.bI v))) (Yp:=BW p cf G pc yh (k .normal) (λv=>k (.bI v))) (s0:=R.zO G r) (O0:=x) (V0:=t++eI (lC G.toList) 0) (L0:=L)
  (λq w f g z c hl hL R' u=>hk q w f g z c (an.trans hl) hL R' u) (λv q w f g z c hl hL R' u=>a9 v q w f g z c (an.trans hl) hL R' u)
  ?_
  G.size _ r (R.zO G r) x _ a _ L c6 hW (λm A=>by
   obtain⟨i,m',l,u⟩:=af m A;rw[u.dr];exact YI _ _ _ _ _ _ _ _ l) (λm A M b=> ?_) (YL c8) (.inl ⟨λm A bf=> ?_, ?_⟩) (bH.refl _ _ _) (di.refl _ _) Rb hg ?_
 intro L2 m bg s2 O2 V2 a2 W2 yn b5 R' hl hL R2 bk bl br bs bt mm;obtain⟨bx,fx,b0,b1⟩:=bl;refine hY.use (hB.go (an.trans hl) hL) b1 R2 bk (λv q w f z c a0 b2 Rn u=> ?_) bs bt F hF mm;refine br v q w f z c a0 b2 Rn ?_;have ab:=fK q m.o.dst v;refine Gj ok.pt bg _ _ w (by rw[ab.1];exact Rn.ei) (by rw[ab.2.1];exact Rn.eb) (by rw[ab.2.2];exact Rn.er) u ?_ bx;intro H hx;obtain⟨b3,b6⟩:=pB.1 hx;obtain⟨hd,ag⟩:=b0 H b3;have hE:=a0.ext;refine⟨by rw[BE.dW hE.agree _ (by rw[R2.ei,R2.eb,R2.er];exact ag)];exact hd, ?_⟩;rw[ab.1,ab.2.1,ab.2.2,<-Rn.ei,<-Rn.eb,<-Rn.er];exact BE.ep (by rw[<-R2.ei];exact hE.li) (by rw[<-R2.eb];exact hE.lb) (by rw[<-R2.er];exact hE.lr) _ ag;have h1:=al m A;exact ah8 a3 (jm (show G.toList[m.j]?=U m.o by simpa using h1)) b;obtain⟨i,m',l,u⟩:=af m A;rw[u.ix];exact ath _ _ _ R.au _ (by rw[<-u.o];exact bf) l;intro m A d hd;have b4:d∈Du (r.dropLast.map (·.o)):=Bg.2 ⟨m.o,hJ.2 ⟨m,A,rfl⟩,hd⟩;unfold wM;simp only[S.zO];rw[u5,iJ];cases hx:R.tmps[d]? with
 |none=>exact .inl rfl
 |some H=>
  right;by_cases hb:(afk R (Du (r.dropLast.map (·.o)))).contains d=J;exact⟨.any,by simp only[dV,hb,cS],by simp[C.aZ]⟩;refine⟨H,by simp only[dV,hb];rfl, ?_⟩;have ag:H.bd R.ni R.nb (Y R.rs) (aL R.au)=true:=by
   cases hh:H.bd R.ni R.nb (Y R.rs) (aL R.au);exfalso;apply hb;exact pz.2 (pB.2 ⟨b4,by simp[hx,hh]⟩);rfl
  exact C.ep (cd _) (cd _) (cd _) ac.mono _ ag
 refine Gj ok.pt r _ [] x Rb.ei Rb.eb Rb.er h (λH hx=>by cases hx) (λm A=> ?_);obtain⟨i,m',l,u⟩:=af m A;rw[u.dr];exact YI _ _ _ _ _ _ _ _ l;cases aa
def yv(p:Sp)(cf:bF)(n:Nat):Prop:=
 ∀(D:b9)(B:jF)(z:YH)(H:cw)(G:FuncId)(c:Code)(s:S)(k:XE->S->T)(L:dm)(O:ak)(V:aw)(a:Act)(W:World)(Q:Exit->Act->World->Prop),
  qA p cf D.dt B z->B.lG s O V L->D.rd=H.isSome->(H.isSome=J->jN c=E)->(∃v,p.P.funcs[G]?=U v)->
  (fH cf n G c s z k).aP p O L->aC p.S0 p.w0 D cf.ty V O s a W->eL cf.gl O->
  (∀x N X u y,eF p.w0 D u y N.defers X->p.R (.panicked x) X->Q (.panic x) N X)->
  (∀e F M A N X w,bH s O V F M A->di s.aA L w->aC p.S0 p.w0 D cf.ty A M F N X->(k e F).aP p M w->Q (e.to M A) N X)->
  jg H G p.P c Q a W
def RQ(p:Sp)(cf:bF)(n:Nat):Prop:=
 ∀(D:b9)(B:jF)(z:YH)(G:cw)(M:FuncId)(x:Code)(s:S)(k:XE->S->T)(L:dm)(O:ak)(V:aw)(a:Act)(W:World)(Q:Exit->Act->World->Prop),
  qA p cf D.dt B z->B.lG s O V L->D.rd=G.isSome->(G.isSome=J->jN x=E)->(∃u,p.P.funcs[M]?=U u)->
  (∀t,(Code.first x).map (cf.loop M)≠U (.inv t))->
  (fH cf n M (.loop x) s z k).aP p O L->aC p.S0 p.w0 D cf.ty V O s a W->eL cf.gl O->
  (∀w N X r y,eF p.w0 D r y N.defers X->p.R (.panicked w) X->Q (.panic w) N X)->
  (∀e F H A N X v,bH s O V F H A->di s.aA L v->aC p.S0 p.w0 D cf.ty A H F N X->(k e F).aP p H v->Q (e.to H A) N X)->
  Na G M p.P x Q n a W
def atk(c:yv p cf X)(b:RQ p cf X):RQ p cf (X+1):=by
 intro D B m q o x s k L O V a W Q l j i g f aa h R d HP F;unfold fH at h;simp only at h;show jg q o p.P x _ a W;refine c D B m q o x s _ L O V a W _ l j i g f h R d (λch M H pd y hd hR=>HP ch M H pd y hd hR) ?_;intro e A z w M H u N G t r;cases e with
 |normal=>exact b D B m q o x A k u z w M H Q l (j.go N G) i g f aa r t (d.ext N.ext) HP (λe2 s2 O2 V2 a2 W2 L2 ab ac R2 af=>F e2 s2 O2 V2 a2 W2 L2 (N.trans ab) (G.trans ac N.aA) R2 af)
 |ret=>exact F .ret A z w M H u N G t r
 |exit id=>exact F (.exit id) A z w M H u N G t r
 |bI v=>exact F (.bI v) A z w M H u N G t r
def aC.back{N:World}{D v:b9}{V L:aw}{M:ak}{B H:S}{a u:Act}{W G:World}(X:aC t N D cf.ty V x R a W)(r:R.bd=J)
  (q:bH B x V H M L)(o:B.au=R.au)(P:aC t N v cf.ty L M H u G){D2:b9}{a2:Act}{A:uN}(z:a2.tmps=a.tmps)(n:eF N D2 A M.y a2.defers G):aC t N D2 cf.ty L M {H with tmps:=R.tmps,pd:=A} a2 G:=by
 obtain⟨m,-⟩:=X.yf r;refine⟨P.mem,P.gv,P.ei,P.eb,P.er,n,by rw[z];exact X.size,λQ l h=> ?_,P.fZ⟩;rw[z];rcases X.tmps Q l h with F|F;exact .inl F;right;have w:=q.ext;rw[o] at w;rw[w.ah (uY m h)];exact F
def aC.enter{N:World}{D M:b9}{V:aw}{a:Act}{W:World}(X:aC t N D cf.ty V x R a W)(P:av)(n:Nat)(H:eF N M R.pd x.y [] W):
  aC t N M cf.ty V x {R with tmps:=P++eI (n-Y P) (.bP [])} {tmps:=(C.aF x V P).toArray++ae0 (n-(C.aF x V P).toArray.size) undef,defers:=[]} W:=by
 refine⟨X.mem,X.gv,X.ei,X.eb,X.er,H,ay,λQ F h=> ?_,X.fZ⟩;right;simp only[Fi,F0];by_cases L:Q<Y P;rw[dU L] at h;rw[aDa (by simpa using L)];simp[sC,h];rw[iC ae,E9] at h;split at h;rename_i G;cases h;rw[Array.getElem?_append_right dF];simp only[Fi,F0,Array.getElem?_replicate];rw[aI G];rfl;cases h
def Ju(H:jr p cf)(hC:yv p cf X){D:b9}{B:jF}{yh:YH}(hY:qA p cf D.dt B yh):Rl p cf D B (jZ cf (λf c s k=>fH cf X f c s yh k) yh):=by
 intro L g0 t s k kp O V a W r G h R q b ab hp;cases g0 with
 |yl yn=>exact λF hF m=>hY.use G h R q b ab hp F hF m
 |fn g=>
 unfold jZ at h;simp only at h;split at h;rename_i c nt rs aa;refine⟨H.yp g (.inr (by rw[aa];rfl)), ?_⟩;split at h;rename_i hb;simp only[S.eV,az] at hb;obtain⟨fn,hf,ag,al,an⟩:=H.inl g c nt rs aa;refine Jo hf ag ?_;obtain⟨ms,m1,m0,m2,m3⟩:=R.cU.ma;have RE:=R.enter t nt (R.cU.enter m2 m3 E);rw[<-al] at RE h;have a0:B.lG {s with tmps:=t++eI (fn.ntmps-Y t) (.bP [])} O V L:=⟨⟨G.later.ext,G.later.mono,G.later.len,G.later.aA⟩,G.Gg⟩;refine hC ⟨ms++D.out,D.dt,E,[]⟩ B yh Z g c _ _ L O V _ W _ hY a0 rfl (λhh=>by cases hh) ⟨fn,hf⟩ h RE q ?_ ?_;intro ch N o pd y hA hR;obtain⟨a1,A,q0,j,z⟩:=hA.ma;rw[A] at hA;have x:=(hA.qz).Jp m0;rw[<-m1] at x;show LeavesInM Fence.wide 0 p.P fn N.tmps r N.defers (.panicking ch) o;rw[A];exact sL ay (xL.1 j).1 (λd M=>(z d (by simp[M])).1) (hp ch _ pd y x (Ng (H.RA ch) (λd M=>(z d (by simp[M])).2) hR));intro e s' i V' N o L' w hL RR Q;have ac:bH s O V {s' with tmps:=s.tmps} i V':=⟨w.ext,w.mono,w.len,w.aA⟩;obtain⟨a1,A,q0,j,z⟩:=RR.cU.ma;have R2:=RR.qz A;have x:=R2.cU.Jp m0;rw[<-m1] at x;have RB:=R.back hb.1 w rfl R2 (D2:=D) (a2:=a) rfl x;have af:∀l,tM cf s' rs=U l->(k (one l) {s' with tmps:=s.tmps}).aP p i L'->LeavesInM Fence.wide 0 p.P fn N.tmps r N.defers .returning o:=by
  intro l u Q;rw[A];refine sL ay (xL.1 j).1 (λd M=>(z d (by simp[M])).1) ⟨_,Jc R2 H.kZ (by rw[an];exact u), ?_⟩;exact b _ _ i V' _ L' ac hL RB Q
 cases e with
 |normal=>
  simp only[Iv] at Q;split at Q;rename_i l u;exact af l u Q;exact Q.elim
 |ret=>
  simp only[Iv] at Q;split at Q;rename_i l u;exact af l u Q;exact Q.elim
 |bI v=>
  show LeavesInM Fence.wide 0 p.P fn N.tmps r N.defers (.panicking _) o;rw[A];exact sL ay (xL.1 j).1 (λd M=>(z d (by simp[M])).1) (ab v _ i V' _ L' ac hL RB Q)
 |exit id=>exact Q.elim
 exact h.elim;rename_i aa;exact ag3 H.pt (λg q=>H.yp g (.inl q)) D L g t s k O V a W r h R b hp
def atl(b:Bool)(H:jr p cf){D:b9}{B:jF}{G:pD}(F:Rl p cf D B G):Rl p cf D B (WT b cf G):=by
 intro L x Q s k A O V a W P z h R X N y M;cases x with
 |yl w=>exact F L (.yl w) Q s k A O V a W P z h R X N y M
 |fn g=>
  cases b with
  |false=>exact F L (.fn g) Q s k A O V a W P z h R X N y M
  |true=>exact ag3 H.pt (λg X=>H.yp g (.inl X)) D L g Q s k O V a W P h R N M
end
