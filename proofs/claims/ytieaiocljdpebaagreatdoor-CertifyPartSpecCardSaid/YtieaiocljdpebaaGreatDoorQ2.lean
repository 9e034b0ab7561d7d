/- Part 2 of the proof; the last part says what is shown. -/
import Derived.Test.YtieaiocljdpebaaGreatDoorQ1
import Derived.Maps.RangeRun
import Derived.RangeFuncSeq
import Derived.StillTailTactics
import Derived.RangeFuncIn
import Derived.RangeFuncLeaves
import Derived.LoopNIn
import Derived.LoopIn
set_option linter.all false
set_option maxRecDepth 100000
set_option maxHeartbeats 100000000
open Bool renaming and_eq_true->aA,not_eq_true'->iK,or_eq_true->jy,false_eq_true->jR,eq_iff_iff->vx,or_eq_false_iff->wT,and_self->wW,true_and->Du,not_eq_false->H5,and_true->OJ,not_true->OK,not_false->ajU,or_eq_true_iff->aw3,false_or->axm,true_or->axo,and_eq_false_iff->aKz,true_eq_false->aKL,true->J,false->E
open Nat renaming le_refl->cg,zero_add->jz,le_trans->qL,add_zero->zU,testBit_or->FG,le_of_eq->FI,zero_le->FJ,strongRecOn->T8,lt_of_lt_of_le->aa0,testBit_shiftLeft->awZ
open List renaming getElem?_eq_some_iff->cj,getElem?_eq_getElem->cL,cons_append->da,nil_append->di,getD_eq_getElem?_getD->dL,mem_cons->dS,getElem?_map->dX,getElem?_append_left->dZ,replicate->eH,map_cons->eW,mem_append->fh,range->fj,all_eq_true->f9,length_append->gU,mem_map->iL,getElem?_append_right->jd,pairwise_cons->jS,getElem?_eq_none->ke,mem_of_getElem?->ki,map_congr_left->kJ,ext_getElem?->kK,any_eq_true->lT,getElem?_take->nA,pairwise_append->nW,length_eq_one_iff->pj,getElem_mem->pl,map_map->pn,contains_iff_mem->qH,length_cons->qI,length_map->qJ,mem_filter->qK,getElem?_set_ne->sI,eq_nil_of_length_eq_zero->uc,getElem?_cons_succ->ud,getElem?_of_mem->ue,getElem?_drop->vw,length_eq_zero_iff->wS,getElem?_set->wU,mem_range->wV,range'->yt,mem_append_left->zQ,nodup_append->zS,getElem?_eq_none_iff->Dr,getElem?_cons_zero->Ds,mem_of_mem_drop->Dt,map_nil->Dv,mem_or_eq_of_mem_set->Fv,getElem?_replicate->Fw,mem_cons_of_mem->Fy,mem_of_mem_take->Fz,getElem?_range->FB,mem_filterMap->FC,length_take->FD,length_drop->FE,foldl_cons->FF,drop_eq_getElem_cons->HZ,getElem?_set_self->H0,size_toArray->H6,take_of_length_le->KM,append_nil->KQ,mem_append_right->OA,mem_cons_self->OE,map_append->OG,all_cons->OI,mem_singleton->T3,nodup_cons->T9,mem_of_find?_eq_some->aaU,range_eq_range'->aaY,zip_cons_cons->aa1,replicate_one->aa2,range'_succ->aa4,find?_some->aa7,sublist_cons_self->ajI,filterMap_cons->ajK,map_set->ajV,any_map->ajW,dropLast_append_of_ne_nil->awU,take_append_of_le_length->awV,getElem?_zip_eq_some->awX,drop_eq_nil_of_le->awY,append_toArray->aw4,pairwise_map->aw9,filter_cons->axc,length_set->axd,drop_zero->axh,mapM_cons->axi,Sublist->axq,drop_append_of_le_length->aKi,append_eq_append_iff->aKp,length_erase_of_mem->aKq,append_cancel_right->aKr,drop_of_length_le->aKw,length_pos_of_mem->aKx,dropLast_sublist->aKA,getElem?_append->aKC,mem_erase_of_ne->aKD,set_cons_zero->aKK,append_of_mem->aKM,length->Y
open Go.Result renaming andThen_ok->dq
open Go.Sem renaming run_bind->dt,run_pure->fF
open Option renaming map_some->eo,isSome_iff_exists->lB,getD_some->pZ,bind_some->aa5,getD_none->ajP,isNone_iff_eq_none->aKo,some->U,none->Z
open Go.Op renaming operands->iY,equalIn->Dw,equal->FL
open Go.Region renaming wanted->nC,ready->Ud,binds->axp
open Go.World renaming cell?->oC,putObj_heap_other->vu,putObj->H9,putObj_heap_same->aKv
open Array renaming ext'->oD,getElem?_eq_some_iff->pi,toList_map->yr,getElem?_setIfInBounds_ne->ajE,replicate->ajT,getElem?_eq_getElem->awW,getElem?_setIfInBounds_self_of_lt->aKg,getElem?_append_left->aKl,mapM_eq_mapM_toList->aKn,mem_filter->aKR
open List.Pairwise renaming nil->yq
open Int renaming toNat_natCast->zR
open List.cons renaming injEq->zT
open Go.Call renaming operands->BH
open Go.Oper renaming semAt_eq->BJ,uponIn_enter->T4,uponIn_round->aKP
open Prod.mk renaming injEq->FH
open List.Sublist renaming append->ajJ,refl->ajN
open Go.IntKind renaming i64->I
namespace Go.Proofs.YtieaiocljdpebaaGreatDoor.Y
open Go.RowKit
noncomputable section
variable{X:Nat}{v:TypeId}{b:ap}{e:Bool}{x:ai}{r:aq}{R:S}{t:C}{l:Oper}{h:OM}
section
variable{c:aq}{d:World}{D:cF}{P:Program}{f:bL}{V:aq}{O:ai}{s:S}{a:Act}{W:World}
def alb{X:Type}(l:List X)(x y:X):(l++[x]).set (Y l) y=l++[y]:=by
 induction l with
 |nil=>rfl
 |cons z Q R=>simp[R]
def aE.zZ(R:aE c d D f.ty V O s a W)(N:s.bd=J){t:TypeId}{X:ap}(B:C.ec s.ni s.nb (Y s.rs) (aW s.ao) X=J):
  aE c d D f.ty (V++[W.heap.size]) O (s.zZ (t,X)) a (W.alloc (mh t (C.dN O V X)))/\bS s O V (s.zZ (t,X)) O (V++[W.heap.size]):=by
 obtain⟨A,m⟩:=R.room 1;have j:(s.room 1).ao.length=Y s.ao+1:=by simp[S.room]
 have z:gG (s.room 1).ao (Y s.ao)=true:=by simp[gG,S.room]
 have cT:(s.room 1).fz X=true:=by
  simp only[S.fz,S.bd,aA] at N⊢;have M:aW (s.room 1).ao=aW s.ao:=by
   funext i;simp only[aW,dC,S.room,aa2];by_cases Q:i<Y s.ao;rw[dZ Q];rw[jd aa,ke (l:=s.ao) aa];cases y:i-Y s.ao with
   |zero=>rfl
   |succ n=>rfl
  have w:∀L,C.rO s.ni s.nb (Y s.rs) L (s.ao++[Z])=C.rO s.ni s.nb (Y s.rs) L s.ao:=by
   intro L;generalize s.ao=l;induction l with
   |nil=>rfl
   |cons x g v=>cases x<;>simp[C.rO,v]
  refine⟨⟨?_, ?_⟩,by rw[M];exact B⟩;rw[M];exact N.1;rw[M];simp only[S.room,aa2];rw[w];exact N.2
 have G:=A.alloc z t X cT;have u:(V++eH 1 0).set (Y s.ao) W.heap.size=V++[W.heap.size]:=by
  rw[<-R.gX,aa2];exact alb _ _ _
 have r:C.dN O (V++eH 1 0) X=C.dN O V X:=by
  apply akp;funext k;simp only[ad,dL,aa2];by_cases h:k<Y V;rw[dZ h];rw[jd aa,ke (l:=V) aa];cases y:k-Y V with
  |zero=>rfl
  |succ n=>rfl
 rw[u,r] at G;have q:({((s.room 1).dl (Y s.ao) t X) with lk:=s.lk}:S)=s.zZ (t,X):=by
  simp only[S.dl,S.room,S.zZ,aa2,alb]
 have F:=G.lk s.lk;rw[q] at F;refine⟨F,⟨⟨jB.refl _ _ _ _,cg _,cg _,cg _,λk p=> ?_⟩,λi Q=> ?_,by simp[S.zZ],cg _⟩⟩;have:k<Y V:=by
  obtain⟨b,H⟩:=lB.1 p;rw[R.gX];exact(cj.1 (kA.1 H)).1
 simp[ad,dZ this];obtain⟨b,H⟩:=lB.1 Q;have o:=(cj.1 (kA.1 H)).1;simp only[aW,dC,S.zZ,dZ o] at Q⊢;exact Q
def aE.alc(R:aE c d D f.ty V O s a W){cs':ap}(M:cJ s.ao X=U (v,b)):
  aE c d D f.ty V O (s.dl X v cs') a (W.putObj (ad V X) (mh v (C.dN O V cs'))):=by
 have x:=R.mem.box X v b M;have q:ad V X<W.heap.size:=B9 x;have w:X<Y s.ao:=(cj.1 (kA.1 M)).1;have H:aW s.ao X=true:=by simp[aW,M]
 have G:∀j,aW (s.ao.set X (U (v,cs'))) j=J->aW s.ao j=true:=λj N=>by
  rcases(qh w).1 N with rfl|h;exact H;exact h
 have F:∀Q,Q≠ad V X->(W.putObj (ad V X) (mh v (C.dN O V cs'))).heap[Q]?=W.heap[Q]?:=λQ h=>vu h
 refine⟨⟨⟨R.mem.base.os,R.mem.base.tape,R.mem.base.output,by simpa[H9] using R.mem.base.size,λk B u=> ?_⟩,λj N=>R.mem.own j (G j N),λj k N B=>R.mem.inj j k (G j N) (G k B),λj L p N=> ?_,λk e A n m=> ?_⟩,by simpa[S.dl] using R.gX,R.ei,R.eb,R.er,R.dO.ax9 (λQ o z l=> ?_),R.size,R.tmps,λk e A Q g q2 q3=> ?_⟩;have ac:k≠ad V X:=by
  rintro rfl;rcases R.mem.own X H with h|h;omega;exact u h
 rw[F k ac];exact R.mem.base.block k B u;by_cases y:j=X;subst y;rw[S.dl,IR w] at N;simp only[cS,FH] at N;obtain⟨rfl,rfl⟩:=N;exact aKv q;rw[S.dl,Ah y] at N;rw[F _ (λh=>y (R.mem.inj j X (by simp[aW,N]) H h))];exact R.mem.box j L p N;obtain⟨af,r⟩:=R.mem.aj k e A n m;exact⟨af.LG (λQ M=>F Q (λh=>r Q M X H h.symm)) (by simp[H9]),λQ M j N=>r Q M j (G j N)⟩;rw[F Q (λe=>by subst e;rw[x] at z;cases z;exact akR l _ _ rfl)];exact z;have t:=R.gH k e A Q g q2 q3;have L:=t.world (W':=W.putObj (ad V X) (mh v (C.dN O V cs'))) (F Q (λh=>t.box X H h.symm));exact⟨L.own,L.mem,λj N=>L.box j (G j N),L.alone,L.inner⟩
def aE.acp(R:aE c d D f.ty V O s a W){i:Nat}{cs':ap}(X:cJ s.ao i=U (v,b))(_:∀Q N M,mh v (C.dN O V b)≠ .cells Q N M):
  aE c d D f.ty V O (s.dl i v cs') a (W.putObj (ad V i) (mh v (C.dN O V cs'))):=R.alc X
def Al(L:bw)(X:Value×Value):uf->uf
 |[]=>[X]
 |p::r=>if yL p.1=L then X::r else p::Al L X r
def ald:∀{l:uf}{m:Nat}{p:Value×Value},gP m (l++[p])=gP m l++[⟨p.1,p.2,m+Y l⟩]
 |[],m,p=>by simp[gP]
 |x::r,m,p=>by
  simp only[da,gP,ald (l:=r) (m:=m+1) (p:=p)];simp;omega
def ale{L:bw}{kv:Value×Value}:∀{l:uf}{m i:Nat},
  (oK L (gP m l) i=Z/\Al L kv l=l++[kv])\/∃j v p,oK L (gP m l) i=U (i+j,v)/\(gP m l)[j]?=U ⟨p.1,p.2,m+j⟩/\p∈l/\yL p.1=L/\(Al L kv l).length=Y l/\gP m (Al L kv l)=(gP m l).modify j λe=>{e with key:=kv.1,val:=kv.2}
 |[],m,i=>.inl ⟨rfl,rfl⟩
 |p::r,m,i=>by
  simp only[gP,oK,Al];by_cases h:yL p.1=L;right;rw[aL h,aL h];exact⟨0,p.2,p,rfl,rfl,aw,h,aw,by simp[gP]⟩;rw[aP h,aP h];rcases ale (l:=r) (m:=m+1) (i:=i+1) with⟨X,R⟩|⟨j,v,Q,X,R,N,M,H,G⟩;exact .inl ⟨X,by rw[R];rfl⟩;refine .inr ⟨j+1,v,Q,by rw[X];congr 2;omega,by simp only[ud,R];congr 2;omega,by simp[N],M,by simp[H], ?_⟩;simp only[gP,G,List.modify_succ_cons]
def ayt(Q:Bool)(l:bw):Instr.sameBits 10000 (iw Q l) (iw Q l)=true:=by
 cases Q;simp[iw,Instr.sameBits];show Instr.sameBits (9999+1) (.agg _) (.agg _)=J;simp only[Instr.sameBits,beq_self_eq_true,Du,f9];intro p L;have:p.1=p.2/\∃x,p.1=.int I x:=by
  have H:∀(m:gE)(q:Value×Value),q∈m.zip m->q.1=q.2/\q.1∈m:=by
   intro m;induction m with
   |nil=>intro q X;cases X
   |cons y F M=>
    intro q X;simp only[aa1,dS] at X;rcases X with rfl|X;exact⟨rfl,aw⟩;exact⟨(M q X).1,by simp[(M q X).2]⟩
  obtain⟨N,R⟩:=H _ p L;simp only[iL] at R;obtain⟨x,-,G⟩:=R;exact⟨N,x,G.symm⟩
 obtain⟨N,x,R⟩:=this;rw[<-N,R];simp[Instr.sameBits]
def alf{k R:TypeId}(h:P.underlying v=U (.map k R))(B:vL P k X e){b:Nat}{l:uf}(A:W.heap[b]?=U (qR l)){L:bw}(g:Y L=X)
  (z:∀p∈l,∃N:bw,Y N=X/\p.1=iw e N)(Q:Value):
  (Instr.mapUpdate v (.map (U b)) (iw e L) Q).run P W=.ok () (W.putObj b (qR (Al L (iw e L,Q) l))):=by
 have f:∀x∈gP 0 l,∃N:bw,Y N=X/\x.key=iw e N:=λx d=>by
  obtain⟨p,M,H⟩:=ab2 d;obtain⟨N,F,G⟩:=z p M;exact⟨N,F,H.trans G⟩
 obtain⟨c,c2⟩:=B.2 L (gP 0 l) W g f;have hg:=MapKept.run_getObj_map (P:=P) (w:=W) A;have y:=λo=>MapKept.run_setObj_map (P:=P) (w:=W) o A
 simp only[Instr.mapUpdate,dt,fu.iS h,dq,hg,c,c2];rcases ale (L:=L) (kv:=(iw e L,Q)) (l:=l) (m:=0) (i:=0) with⟨M,H⟩|⟨j,u,p,M,H,F,G,h5,h6⟩;rw[M,H];simp only[y,H9,qR,ald];simp;rw[M];obtain⟨N,q1,r⟩:=z p F;have hl:N=L:=by
  rw[r,ab0 (λR=>q1.trans (B.1 R))] at G;exact G
 subst hl;have q:(((gP 0 l).toArray[0+j]?).map (·.key)).getD (iw e N)=iw e N:=by
  simp[H,r]
 simp only[jz] at q⊢;simp only[q,Instr.keyThatStays,ayt,cN,fF,dq,dt,y,H9,qR,h6,h5];simp
end
def vN(O:ai)(X:Fx):Prop:=∀x∈X,x.1.ab O=x.2
def Vc{N:Fx}(h:vN x N){b:BE}(R:OX N b=U e):b.ab x=e:=by
 unfold OX at R;split at R;cases R;simp[BE.ab];cases Q:N.find? (λX=>X.1.aU b) with
 |none=>rw[Q] at R;cases R
 |some X=>
  rw[Q] at R;cases R;have M:=aa7 Q;rw[<-BE.bZ _ _ M];exact h X (aaU Q)
def alg{Q:Fx}(h:vN x Q){b:BE}(N:b.ab x=e):vN x ((b,e)::Q):=by
 intro X R;rcases dS.1 R with rfl|R;exact N;exact h X R
def IY{w:World}{D:cF}{H:Ty}{a:Act}{W:World}{N:ai}{V:aq}{M:Fx}(X:aE r w D H V x R a W)(G:jB x N (Y x.i) (Y x.b) (Y x.r))(h:vN x M):vN N (qa R M):=by
 intro Q F;obtain⟨B,L⟩:=qK.1 F;rw[<-X.ei,<-X.eb,<-X.er] at L;rw[BE.ep G _ L];exact h Q B
section
variable{f:bL}
def aE.drew{g:aq}{w:World}{D:cF}{V:aq}{O:ai}{s:S}{a:Act}{W:World}(R:aE g w D f.ty V O s a W):aE g w D f.ty V O s a {W with drawn:=W.drawn+1}:=
 ⟨⟨R.mem.base.drew,R.mem.own,R.mem.inj,R.mem.box,λk e X Q N=>⟨(R.mem.aj k e X Q N).1.LG (λ_ _=>rfl) (cg _),(R.mem.aj k e X Q N).2⟩⟩,R.gX,R.ei,R.eb,R.er,R.dO.world (λ_ _ h _=>h),R.size,R.tmps,λk e X b Q N M=>(R.gH k e X b Q N M).world rfl⟩
end
section
variable{g:aq}{w:World}{D:cF}{P:Program}{f:bL}{V:aq}{O:ai}{s:S}{a:Act}{W:World}
def aE.alh(R:aE g w D f.ty V O s a W)(N:s.bd=J)(j:Int):aE g w D f.ty V (O.add (.i j)) {s with ni:=s.ni+1} a W:=by
 obtain⟨M,L⟩:=R.Ag N;have Q:=sT s.ao O (.i j) V;refine⟨⟨R.mem.base,R.mem.own,R.mem.inj,λi t H h=> ?_,R.mem.aj⟩,R.gX,by simp[ai.add,R.ei],R.eb,R.er,R.dO,R.size,λt G h=> ?_,λk e F b X B A=> ?_⟩;rw[Q.dN (uv L h)];exact R.mem.box i t H h;rcases R.tmps t G h with X|X;exact .inl X;right;rw[Q.ab (xl M h)];exact X;have t:=R.gH k e F b X B A;exact⟨t.own,t.mem,t.box,t.alone,t.inner⟩
def aE.ali(R:aE g w D f.ty V O s a W)(M:s.bd=J){Q:Sh}{N:RV}(L:bI W f.ty (.mr Q) N):aE g w D f.ty V (O.add (.r N)) {s with rs:=s.rs++[.mr Q]} a W:=
 R.add M L (λb X=>by cases X) (λk e F b _ _ _ X=>by
  rcases X with X|⟨⟨t,H⟩,_⟩;cases X;cases H) (λe b G=>by cases G)
def alj{M:Sh}{Q:ar}(h:∀X∈Q,IP f.ty M X)(H:∀c∈bH f.ty (.mr M),nE c=J):bI W f.ty (.mr M) (.mk (.slice Z (Y Q) (Y Q)) Q):=by
 refine bI.mr M Q (λi X R=>(h X (ki R)).len) (λi j X c k R L N=>(h X (ki R)).int j c k L N) (λi j X c R L N=>(h X (ki R)).bool j c L N) (λi j X c z k R L N=> ?_);have:=H _ (ki N);simp[nE] at this
def acq{n:Nat}{X x:aM}:∀{R:ar},x∈gO n X R->x=X\/x∈R
 |[],h=>by simp[gO] at h;exact .inl h
 |r::Q,h=>by
  simp only[gO] at h;split at h;rcases dS.1 h with h|h;exact .inl h;exact .inr (by simp[h]);rcases dS.1 h with h|h;exact .inr (by simp[h]);rcases acq h with h|h;exact .inl h;exact .inr (by simp[h])
def alk{n:Nat}{X:aM}:∀{rows:ar},(∀r∈rows,lD n ((X.take n).map λc=>bp c.val) r=E)->gO n X rows=rows++[X]
 |[],_=>rfl
 |r::R,h=>by
  simp only[gO];rw[aP (by rw[h r aw];simp),alk (rows:=R) (λx Q=>h x (Fy _ Q))];rfl
def alm{n:Nat}{X va:Bool}(Q:X=E->n=1){R:aM}(H:F2 n R){L:bw}(N:(R.take n).map (λc=>bp c.val)=L):∀{M:ar},(∀r∈M,F2 n r)->
  Al L (xk n X va R) (M.map (xk n X va))=(gO n R M).map (xk n X va)
 |[],_=>rfl
 |r::t,h=>by
  obtain⟨l,F,B,A⟩:=Pu (ag:=X) Q (h r aw);have q:Y L=n:=by
   obtain⟨p,z,y⟩:=H;rw[<-N,y];simpa using z
  have w:lD n L r=decide (l=L):=by
   simp only[lD,A];rw[KM aa]
  simp only[eW,Al,gO,N,w];have v:yL (xk n X va r).1=l:=by
   simp only[xk,B];exact ab0 (λe=>F.trans (Q e))
  rw[v];by_cases G:l=L;simp[G];simp only[G,gD,decide_false,jR,eW];rw[alm Q H N λx u=>h x (by simp[u])]
def ayu(t:TypeId):(Instr.makeMap t Z).run P W=.ok (.map (U W.heap.size)) (W.alloc (.map #[] 0)):=by
 simp[Instr.makeMap]
def ayv(R:aE g w D f.ty V O s a W){m:OM}{t:TypeId}(F:m.o.op=.makeMap t Z){N:S}(h:Un f m.o.dst s t=U N):
  ∃v M L,uz P m.o a W v M/\aE g w D f.ty L O N (a.put m.o.dst v) M/\bS s O V N O L:=by
 unfold Un at h;split at h;rename_i k e n X ak q x;split at h;rename_i Q u;split at h;rename_i H;simp only[aA] at H;cases h;have B:C.ec s.ni s.nb (Y s.rs) (aW s.ao) (Ir Q n X).2=true:=by
  unfold Ir;split<;>simp[C.jo,C.bm,RE.bm,K.bm,BE.bm]
 obtain⟨G,A⟩:=R.zZ H.1 (t:=(Ir Q n X).1) B;have z:mh (Ir Q n X).1 (C.dN O V (Ir Q n X).2)=.map #[] 0:=by
  unfold Ir;split;rw[F3];simp[RE.rv,qR,gP];rw[F4];simp[C.aK,DR,qR,gP]
 rw[z] at G;refine⟨.map (U W.heap.size),W.alloc (.map #[] 0),V++[W.heap.size],.inl ?_, ?_,A.put _ _⟩;simp[execOp,F,ayu];have:=G.put m.o.dst (.mp (Y s.ao));have y:ad (V++[W.heap.size]) (Y s.ao)=W.heap.size:=by simp[ad,<-R.gX]
 rw[C.ab,y] at this;exact this;cases h;cases h;cases h
def Vd{R:TypeId}{Q:TI}{r:RE}(h:Is f s v R X e Q b=U r):
  b=[.aj r,.int I (.c (X:Int)),.bool (.c e),.bool (.c Q.d.isAgg)]/\r.rK f.ty s ⟨v,R,X,e,Q.d.isAgg⟩=J/\Q.ak.all nE=true:=by
 unfold Is at h;split at h;split at h;rename_i N;simp only[aA,du] at N;cases h;obtain⟨⟨⟨⟨M,rfl⟩,rfl⟩,rfl⟩,L⟩:=N;exact⟨rfl,M,L⟩;cases h;cases h
def aln{x y z:K}(h:Ik X e t=U (x,y,z)):t.cells.map (C.cq O)=([x.ab O,y.ab O,z.ab O].take X).map λu=>.mk (.int I u) []:=by
 unfold Ik at h;split at h<;>first|(cases h;done)|(split at h<;>first|(cases h;done)|skip)
 all_goals
  rename_i R;cases h;simp only[aA,du] at R;obtain⟨rfl,-⟩:=R;simp[C.cells,C.cq]
def acr:∀{ak:fp}{l:ap},mK f.ty s ak l=J->ak.all nE=J->Y l=Y ak/\(∀(j:Nat)(k:IntKind),ak[j]?=U (.int k)->∃x,(l.map (C.cq O))[j]?=U (.mk (.int k x) []))/\(∀(j:Nat),ak[j]?=U .bool->∃x,(l.map (C.cq O))[j]?=U (.mk (.bool x) []))/\(l.map (C.cq O)).map RV.val=C.aK O V l
 |[],[],_,_=>⟨rfl,λj k h=>by simp at h,λj h=>by simp at h,rfl⟩
 |[],_::_,h,_=>by simp[mK] at h
 |_::_,[],h,_=>by simp[mK] at h
 |c::ak,v::l,h,Q=>by
  simp only[mK,aA] at h;simp only[OI,aA] at Q;obtain⟨M,L,H,G⟩:=acr (ak:=ak) (l:=l) h.2 Q.2;have R:=h.1;unfold ui at R;split at R;rename_i k F e;have:k=F:=wX R;subst this;refine⟨by simp[M],λj N X=> ?_,λj X=> ?_,by simp[C.aK,C.cq,C.ab,G]⟩;cases j with
  |zero=>simp at X;subst X;exact⟨e.ab O,rfl⟩
  |succ j=>simpa using L j N (by simpa using X)
  cases j with
  |zero=>simp at X
  |succ j=>simpa using H j (by simpa using X)
  rename_i b;refine⟨by simp[M],λj N X=> ?_,λj X=> ?_,by simp[C.aK,C.cq,C.ab,G]⟩;cases j with
  |zero=>simp at X
  |succ j=>simpa using L j N (by simpa using X)
  cases j with
  |zero=>exact⟨b.ab O,rfl⟩
  |succ j=>simpa using H j (by simpa using X)
  simp[nE] at Q;cases R
def ayw{R:TypeId}{L:TI}(l:uh f.ty v X e=J)(i:f.ty R=U L)(h:L.ak.all nE=J){Q:C}{x y z:K}(F:Ik X e t=U (x,y,z))(g:mK f.ty s L.ak Q.cells=J):
  IP f.ty ⟨v,R,X,e,L.d.isAgg⟩ ((t.cells++Q.cells).map (C.cq O)):=by
 obtain⟨b,B,A,w⟩:=LA (va:=L.d.isAgg) l i;obtain⟨q1,q2,q3,-⟩:=acr (O:=O) (V:=[]) g h;have ac:=(ab1 (O:=O) (V:=[]) F).2;have r:=aln (O:=O) F;have q:(t.cells.map (C.cq O)).length=X:=by rw[r];simpa using ac
 have p:∀(j:Nat),((t.cells++Q.cells).map (C.cq O))[j]?=if j<X then(t.cells.map (C.cq O))[j]? else(Q.cells.map (C.cq O))[j-X]?:=by
  intro j;rw[OG,aKC,q]
 have o:∀(j:Nat),(bH f.ty (.mr ⟨v,R,X,e,L.d.isAgg⟩))[j]?=if j<X then b[j]? else L.ak[j-X]?:=by
  intro j;rw[B,aKC,A]
 refine⟨?_,λj c kk N M=> ?_,λj c N M=> ?_⟩;rw[B,qJ,gU,gU,A,q1];simp at q;omega;rw[p] at N;rw[o] at M;split at N;rename_i H;rw[aL H] at M;have:=w _ (ki M);cases this;rw[r,dX] at N;cases m:([x.ab O,y.ab O,z.ab O].take X)[j]? with
 |none=>rw[m] at N;cases N
 |some u=>rw[m] at N;cases N;exact⟨u,rfl⟩
 rename_i H;rw[aP H] at M;obtain⟨u,G⟩:=q2 _ kk M;rw[G] at N;cases N;exact⟨u,rfl⟩;rw[p] at N;rw[o] at M;split at N;rename_i H;rw[aL H] at M;have:=w _ (ki M);cases this;rename_i H;rw[aP H] at M;obtain⟨u,G⟩:=q3 _ M;rw[G] at N;cases N;exact⟨u,rfl⟩
def ayx{R:TypeId}{Q:Bool}{N:TI}(L:uh f.ty v X e=J)(H:f.ty R=U N)(G:N.ak.all nE=J):∀c∈bH f.ty (.mr ⟨v,R,X,e,Q⟩),nE c=true:=by
 obtain⟨A,F,z,B⟩:=LA (va:=Q) L H;intro c M;rw[F] at M;rcases fh.1 M with h|h;rw[B c h];rfl;exact f9.1 G c h
def ayy(W:World)(b:Nat)(o:Obj):ChangeMaps.setBlock W b o=W.putObj b o:=rfl
def MR.ayz(g:aq)(w:World)(D:cF)(R:Ty)(V:aq)(O:ai)(s:S)(a:Act)(Q:World):MR->Prop
 |.ok X=>aE g w D R V O X a Q/\bS s O V X O V
 |.ae _ x X=>aE g w D R V (O.add (.r (iZ x O))) X a Q/\bS s O V X (O.add (.r (iZ x O))) V
def Ve(R:aE g w D f.ty V O s a W)(an:jW P f.ty){d:cH}{N X:C}{r:MR}(h:Um f d s v t N X=U r):
  ∃W',(Instr.mapUpdate v (t.ab O V) (N.ab O V) (X.ab O V)).run P W=.ok () W'/\r.ayz g w D f.ty V O s (a.put d undef) W':=by
 unfold Um at h;split at h;rename_i k e n M ak q i ht;have hd:P.underlying v=U (.map k e):=(an _ _ ht).desc;have m:vL P k n M:=(an _ _ ht).key k e n M rfl;split at h;rename_i L xa xb xc bt B A g2 b;have bs:=an _ _ A;split at h;cases h;rename_i a9;simp only[jy,iK,not_or,H5] at a9;obtain⟨⟨ac,cT⟩,bx⟩:=a9;simp only[S.fz,aA] at cT;obtain⟨hb,cT⟩:=cT;obtain⟨bb,a0⟩:=ab1 (O:=O) (V:=V) g2;have af:=R.mem.box i bt B b;have b0:=UT (O:=O) (V:=V) (xo R) bx;split at h;rename_i jr;simp only[du] at jr;subst jr;split at h;rename_i H b1;split at h;rename_i bd;cases h;obtain⟨rfl,c1,c5⟩:=Vd b1;rw[F3] at af;have bf:=IQ R c1;have bg:∀G∈(H.rv O).ae,F2 n G:=λG z=>LB ac A (bf G z)
 have a1:=alf (P:=P) hd m af a0 (λp hp=>by
  obtain⟨G,z,rfl⟩:=iL.1 hp;obtain⟨l,q1,q2,-⟩:=Pu m.1 (bg G z);exact⟨l,q1,q2⟩) (X.ab O V)
 have a3:=ayw (O:=O) (s:=s) ac A c5 g2 bd;have bk:=aln (O:=O) g2;have cp:(N.cells.map (C.cq O)).length=n:=by rw[bk];simpa using a0
 have b2:((N.cells++X.cells).map (C.cq O)).take n=N.cells.map (C.cq O):=by
  rw[OG,awV aa,KM aa]
 have b3:((N.cells++X.cells).map (C.cq O)).drop n=X.cells.map (C.cq O):=by
  rw[OG,aKi aa,aKw aa];rfl
 have hL:(((N.cells++X.cells).map (C.cq O)).take n).map (λc=>bp c.val)=[xa.ab O,xb.ab O,xc.ab O].take n:=by
  rw[b2,bk];simp[bp]
 obtain⟨f1,-,-,f4⟩:=acr (O:=O) (V:=V) bd c5;have b4:xk n M L.d.isAgg ((N.cells++X.cells).map (C.cq O))=(iw M ([xa.ab O,xb.ab O,xc.ab O].take n),X.ab O V):=by
  obtain⟨l,q1,q2,q3⟩:=Pu (ag:=M) m.1 (LB ac A a3);have hl:l=[xa.ab O,xb.ab O,xc.ab O].take n:=by rw[<-q3,hL]
  have b5:rT L.d.isAgg (X.cells.map (C.cq O))=X.ab O V:=by
   rw[b0,rT,f4];cases ha:L.d.isAgg;have b6:Y X.cells=1:=by rw[f1];exact B8 bs ha
   obtain⟨u,hu⟩:=pj.1 b6;simp only[jR,gD];rw[<-f4,hu];rfl;rfl
  simp only[xk,q2,hl,b3,b5]
 have al:=alm (va:=L.d.isAgg) m.1 (LB ac A a3) hL bg;rw[b4] at al;have hh:bI W f.ty (.mr ⟨k,e,n,M,L.d.isAgg⟩) (iZ (.ins (.aj H) n (N.cells++X.cells)) O):=by
  refine alj (λG bl=> ?_) (ayx ac A c5);simp only[LE.ae] at bl;rcases acq bl with rfl|h;exact a3;exact bf G h
 have R1:=R.ali hb hh;have a4:∀cc tt ff,mh wY (C.dN (O.add (.r (iZ (.ins (.aj H) n (N.cells++X.cells)) O))) V [.aj H,.int I (.c (n:Int)),.bool (.c M),.bool (.c L.d.isAgg)])≠ .cells cc tt ff:=by
  intro cc tt ff hx;rw[F3] at hx;cases hx
 have R2:=R1.acp (cs':=[.aj (.v (Y s.rs)),.int I (.c (n:Int)),.bool (.c M),.bool (.c L.d.isAgg)]) (i:=i) b a4;have b7:(RE.v (Y s.rs)).rv (O.add (.r (iZ (.ins (.aj H) n (N.cells++X.cells)) O)))=iZ (.ins (.aj H) n (N.cells++X.cells)) O:=by
  simp[RE.rv,ai.rv,ai.add,<-R.er]
 rw[F3,b7] at R2;refine⟨W.putObj (ad V i) (qR ((iZ (.ins (.aj H) n (N.cells++X.cells)) O).ae.map (xk n M L.d.isAgg))), ?_, ?_, ?_⟩;simp only[C.ab,bb];rw[a1,al];rfl;have:=R2.put d (.b9 []);exact this;exact bS.put (s:=s) (s':={s with rs:=s.rs++[RK.mr ⟨k,e,n,M,L.d.isAgg⟩],ao:=s.ao.set i (U (wY,[.aj (.v (Y s.rs)),.int I (.c n),.bool (.c M),.bool (.c L.d.isAgg)]))}) ⟨sT _ _ _ _,λj hj=>(qh (cj.1 (kA.1 b)).1).2 (.inr hj),aw,cg _⟩ d _;cases h;cases h;split at h;rename_i jr;simp only[aA,du,iK] at jr;obtain⟨⟨rfl,rfl⟩,rfl⟩:=jr;split at h;rename_i x Q br;split at h;cases h;rename_i b8;cases h;rw[F4] at af;obtain⟨p1,p2⟩:=LD (O:=O) (V:=V) br;rw[p1] at af;have a1:=alf (P:=P) hd m af a0 (λp hp=>by
  obtain⟨u,hu,rfl⟩:=iL.1 hp;exact⟨[u.1],rfl,rfl⟩) (X.ab O V)
 have al:∀(Q:bw)(o:ap),¬Q.contains x=J->Y Q=Y o->Al [x] (iw E [x],X.ab O V) ((Q.zip o).map λp=>(.int I p.1,p.2.ab O V))=((Q.zip o).map λp=>(.int I p.1,p.2.ab O V))++[(.int I x,X.ab O V)]:=by
  intro Q;induction Q with
  |nil=>intro o _ _;simp[Al,iw]
  |cons y ys ih=>
   intro o hc hl;cases o with
   |nil=>simp at hl
   |cons u us=>
    have ca:¬y=x:=by
     intro e;subst e;simp at hc
    have ch:¬ys.contains x=true:=by
     intro e;simp at e hc;exact hc.2 e
    have:=ih us ch (by simpa using hl);simp only[aa1,eW,Al,yL,zT,and_true,ca,gD,this,da]
 have a4:∀cc tt ff,mh vz (C.dN O V B)≠ .cells cc tt ff:=by
  intro cc tt ff hx;rw[F4] at hx;cases hx
 have R2:=R.acp (cs':=B++[.int I (.c x),X]) b a4;have cl:∀(l:ap)(Q:bw),rM l=U Q->DR (C.aK O V (l++[.int I (.c x),X]))=DR (C.aK O V l)++[(.int I x,X.ab O V)]:=by
  intro l;induction l using rM.induct with
  |case1=>intro Q _;rfl
  |case2 k u r ih=>
   intro Q F;simp only[rM] at F;cases z:rM r with
   |none=>rw[z] at F;cases F
   |some cn=>
    have:=ih cn z;simp only[da,C.aK,DR] at this⊢;rw[this]
  |case3 l h1 h2=>intro Q F;unfold rM at F;split at F<;>first|(exact aG rfl h1)|(exact aG rfl (h2 _ _ _))|cases F
 rw[F4,cl B Q br,p1] at R2;refine⟨W.putObj (ad V i) (qR ((Q.zip (mH B)).map (λp=>(Value.int I p.1,p.2.ab O V))++[(Value.int I x,X.ab O V)])), ?_,R2.put d (.b9 []), ?_⟩;simp only[C.ab,bb];rw[a1];have:[(K.c x).ab O,xb.ab O,xc.ab O].take 1=[x]:=rfl;rw[this,al Q _ b8 p2];exact bS.put (s:=s) (s':=s.dl i vz (B++[.int I (.c x),X])) ⟨oe.refl _ _ _,λj hj=>(qh (cj.1 (kA.1 b)).1).2 (.inr hj),by simp[S.dl],cg _⟩ d _;cases h;cases h;cases h;cases h
end
section
variable{g:aq}{B:World}{D:cF}{P:Program}{f:bL}{V:aq}{O:ai}{s:S}{a:Act}{W:World}
def acs{X:Ty}{s:S}{n:Nat}:∀r:RE,r.kind X {s with ni:=n}=r.kind X s
 |.v k=>rfl
 |.cell r i j k=>by simp only[RE.kind,acs r]
 |.k v=>by cases v<;>rfl
def LU(R:aE g B D f.ty V O s a W){Q:Sh}{r:RE}(h:r.rK f.ty s Q=J):lenOf (r.rv O).val=(r.rv O).ae.length:=by
 unfold RE.rK at h;rcases aw3.1 h with h|h;have X:=sS R aw (wX h);generalize r.rv O=N at X;cases X;rfl;unfold RE.nil at h;split at h;simp[RE.rv,lenOf];cases h
def ayA(R:aE g B D f.ty V O s a W){Q:TypeId}{G:TI}{i:Nat}{c:K}(h:abq f s v Q X e G i=U c):∃l,W.heap[ad V i]?=U (qR l)/\(Y l:Int)=c.ab O:=by
 unfold abq at h;split at h;rename_i F M A;have N:=R.mem.box i F M A;split at h;rename_i jr;simp only[du] at jr;subst jr;cases L:Is f s v Q X e G M with
 |none=>rw[L] at h;cases h
 |some r=>
  rw[L] at h;cases h;obtain⟨rfl,z,w⟩:=Vd L;rw[F3] at N;exact⟨_,N,by simp[K.ab,LU R z]⟩
 split at h;rename_i jr;simp only[aA,du,iK] at jr;obtain⟨⟨rfl,rfl⟩,rfl⟩:=jr;cases H:rM M with
 |none=>rw[H] at h;cases h
 |some u=>
  rw[H] at h;cases h;rw[F4] at N;obtain⟨y,x⟩:=LD (O:=O) (V:=V) H;rw[y] at N;exact⟨_,N,by simp[K.ab,x]⟩
 cases h;cases h
def PI{t:Int}{c:K}{R:RE}:mh yv (C.dN O V [.mp X,.int I (.c t),.int I c,.aj R])=.mapIter (U (ad V X)) (c.ab O).toNat ((R.rv O).ae.map qf).toArray (c.ab O).toNat:=by
 simp[mh,yv,wY,vz,C.dN,C.iv,C.ab,akl]
def ayB(R:aE g B D f.ty V O s a W)(H:jW P f.ty){m:OM}{t:TypeId}{x:Operand}(G:m.o.op=.range t x)(F:a.eval x=(s.ev f.gl x).ab O V){X:S}(h:Uo f m.o.dst s t (s.ev f.gl x)=U X):
  ∃v Q N,uz P m.o a W v Q/\aE g B D f.ty N O X (a.put m.o.dst v) Q/\bS s O V X O N:=by
 unfold Uo at h;split at h;rename_i k e n ag ak q i A z;have y:P.underlying t=U (.map k e):=(H _ _ A).desc;split at h;rename_i te af;split at h;rename_i c w;split at h;rename_i M;simp only[aA] at M;obtain⟨⟨u,r⟩,p⟩:=M;cases h;obtain⟨l,j,d⟩:=ayA R w;have b:C.ec s.ni s.nb (Y s.rs) (aW s.ao) [.mp i,.int I (.c (t:Int)),.int I c,.aj (.k (.slice Z 0 0))]=true:=by
  simp[C.jo,C.bm,RE.bm,K.bm,p,r]
 obtain⟨L,L1⟩:=R.zZ u (t:=yv) b;rw[PI,<-d] at L;have ac:=run_range_map (P:=P) W t k e (ad V i) _ _ y j;refine⟨.pointer (U ⟨W.heap.size,0,Z⟩),W.alloc (.mapIter (U (ad V i)) (Y l) #[] (Y l)),V++[W.heap.size],.inl ?_, ?_,L1.put _ _⟩;simp only[execOp,G,F,z,C.ab,dt,ac,dq,fF];have:=L.put m.o.dst (.loc (Y s.ao) 0);have ha:ad (V++[W.heap.size]) (Y s.ao)=W.heap.size:=by simp[ad,<-R.gX]
 rw[C.ab,ha] at this;simpa[RE.rv] using this;cases h;cases h;cases h;cases h
def acu:∀{l:uf}{m:Nat}{e:MapEntry},e∈gP m l->∃(j:Nat)(p:Value×Value),l[j]?=U p/\e=⟨p.1,p.2,m+j⟩
 |[],m,e,h=>by simp[gP] at h
 |x::r,m,e,h=>by
  simp only[gP,dS] at h;rcases h with rfl|h;exact⟨0,x,rfl,rfl⟩;obtain⟨j,p,X,R⟩:=acu h;exact⟨j+1,p,by simpa using X,by rw[R];congr 1;omega⟩
def acv:∀{l:uf}{m j:Nat}{p:Value×Value},l[j]?=U p->(⟨p.1,p.2,m+j⟩:MapEntry)∈gP m l
 |[],m,j,p,h=>by simp at h
 |x::r,m,0,p,h=>by simp at h;subst h;simp[gP]
 |x::r,m,j+1,p,h=>by
  have:=acv (m:=m+1) (l:=r) (j:=j) (p:=p) (by simpa using h);simp only[gP,dS];right
  rwa [show m+(j+1)=m+1+j from aa]
def alo:∀(n:Nat)(l:aq),(∀j,j<n->j∈l)->n<=Y l
 |0,_,_=>FJ _
 |n+1,l,h=>by
  have X:=h n aa;have:=alo n (l.erase n) (λj R=>(aKD aa).2 (h j aa));rw[aKq X] at this;have:0<Y l:=aKx X;omega
def LV(R:It f=J):bH f.ty (.mr (yD f))=[.int I]:=by
 simp only[It,aA,aKo] at R;obtain⟨X,N⟩:=R;unfold uh at X;split at X;rename_i tk M;simp only[aA,du] at X;obtain⟨c,Q⟩:=pj.1 X.1.1;have:=X.1.2;rw[Q] at this;simp only[OI,List.all_nil,OJ] at this;unfold abk at this;split at this;simp[bH,yD,M,N,Q];cases this;cases X
def acw(X:It f=J){R:aM}(h:IP f.ty (yD f) R):∃x,R=[.mk (.int I x) []]:=by
 have Q:=h.len;rw[LV X] at Q;obtain⟨c,rfl⟩:=pj.1 Q;obtain⟨x,N⟩:=h.int 0 c I rfl (by rw[LV X];rfl);exact⟨x,by rw[N]⟩
def ayC(Q:It f=J)(x:Int):IP f.ty (yD f) [.mk (.int I x) []]:=by
 refine⟨by rw[LV Q];rfl,λj c k R X=> ?_,λj c R X=> ?_⟩;rw[LV Q] at X;cases j with
 |zero=>simp at R X;subst R X;exact⟨x,rfl⟩
 |succ j=>simp at R
 rw[LV Q] at X;cases j with
 |zero=>simp at X
 |succ j=>simp at R
def Vf{r:RE}{A:K}{R:aM}(L:(r.rv O).ae[(A.ab O).toNat]?=U R):∀{ak:fp}{j:Nat},ak.all nE=J->Y R=j+Y ak->
  (∀(i:Nat)(k:IntKind),ak[i]?=U (.int k)->∃m,R[j+i]?=U (.mk (.int k m) []))->(∀(i:Nat),ak[i]?=U .bool->∃m,R[j+i]?=U (.mk (.bool m) []))->
  C.aK O V (vD r A j ak)=(R.drop j).map RV.val
 |[],j,_,Q,_,_=>by rw[awY (by simp at Q;omega)];rfl
 |.int k::ak,j,N,Q,H,G=>by
  obtain⟨m,X⟩:=H 0 k rfl;have F:=Vf L (ak:=ak) (j:=j+1) (by simpa[nE] using N) (by simp at Q⊢;omega) (λi k h=>by have:=H (i+1) k (by simpa using h);rwa [show j+(i+1)=j+1+i from aa] at this) (λi h=>by have:=G (i+1) (by simpa using h);rwa [show j+(i+1)=j+1+i from aa] at this);have B:R.drop j=.mk (.int k m) []::R.drop (j+1):=by
   rw[zU] at X;have M:=(cj.1 X).1;rw[HZ M];congr 1;rw[cL M] at X;simpa using X
  rw[zU] at X;simp only[vD,FM,C.aK,C.ab,K.ab,aZ,F,B,eW,RV.nJ,dL,L,X,pZ,bp]
 |.bool::ak,j,N,Q,H,G=>by
  obtain⟨m,X⟩:=G 0 rfl;have F:=Vf L (ak:=ak) (j:=j+1) (by simpa[nE] using N) (by simp at Q⊢;omega) (λi k h=>by have:=H (i+1) k (by simpa using h);rwa [show j+(i+1)=j+1+i from aa] at this) (λi h=>by have:=G (i+1) (by simpa using h);rwa [show j+(i+1)=j+1+i from aa] at this);have B:R.drop j=.mk (.bool m) []::R.drop (j+1):=by
   rw[zU] at X;have M:=(cj.1 X).1;rw[HZ M];congr 1;rw[cL M] at X;simpa using X
  rw[zU] at X;simp only[vD,FM,C.aK,C.ab,BE.ab,aZ,F,B,eW,RV.nJ,dL,L,X,pZ,fW]
 |.aS _ _::ak,j,N,_,_,_=>by simp[nE] at N
def acx{r:RE}{X:K}:∀{ak:fp}{j:Nat},(vD r X j ak).length=Y ak
 |[],j=>rfl
 |c::ak,j=>by simp[vD,acx (ak:=ak)]
def alp{r:RE}{N:K}{R:aM}(G:(r.rv O).ae[(N.ab O).toNat]?=U R)(M:e=E->X=1)(F:F2 X R):(K4 r N X e).ab O V=rT e (R.take X):=by
 obtain⟨l,B,L⟩:=F;have A:(R.take X).length=X:=by rw[L];simpa using B
 have z:C.aK O V ((fj X).map λj=>.int I (.cell r N j))=(R.take X).map RV.val:=by
  rw[qe,pn];apply kK;intro j;rw[dX,dX];by_cases H:j<X;rw[FB H];have y:j<Y l:=aa;have Q:(R.take X)[j]?=U (.mk (.int I l[j]) []):=by rw[L,dX,cL y];rfl
  have x:R[j]?=U (.mk (.int I l[j]) []):=by rw[nA,aL H] at Q;exact Q
  simp[Q,C.ab,K.ab,aZ,G,x,bp];rw[ke dh,ke aa];rfl
 rw[K4,DV (λw=>by simpa using M w),z,rT];cases e;obtain⟨c,Q⟩:=pj.1 (A.trans (M rfl));rw[Q];rfl;rfl
def ayD{rs:RE}{je:K}{j:Int}(N:je.ab O=j)(h:∀R∈(rs.rv O).ae,∀x,R=[.mk (.int I x) []]->x≠j)(Q:∀R∈(rs.rv O).ae,∃x,R=[RV.mk (.int I x) []]):(Uq rs je).ab O=J/\∀r∈(rs.rv O).ae,lD 1 [j] r=false:=by
 have M:∀r∈(rs.rv O).ae,∀b c,lD 1 [j,b,c] r=false:=by
  intro r X b c;obtain⟨x,rfl⟩:=Q r X;have:=h _ X x rfl;simp[lD,bp,this]
 constructor;simp only[Uq,BE.ab,N,K.ab,iK,jq];rw[List.find?_eq_none.2 (λr X=>by simp[M r X])];rfl;intro r X;obtain⟨x,rfl⟩:=Q r X;have:=h _ X x rfl;simp[lD,bp,this]
def alq(G:It f=J)(R:aE g B D f.ty V O s a W)(z:s.bd=J){d:cH}{i t:Nat}{c:K}{Q:RE}(y:cJ s.ao X=U (yv,[.mp i,.int I (.c (t:Int)),.int I c,.aj Q]))(cG:Q.rK f.ty s (yD f)=J)
  {N:K}{j:Nat}(w:N.ab O=j)(b:¬((Q.rv O).ae.map qf).contains j=J){kv v:C}{key val:Value}
  (ac:∀F,kv.ab (O.add (.r F)) V=key)(hv:∀F,v.ab (O.add (.r F)) V=val):
  (Uq Q N).ab O=J/\aE g B D f.ty V (O.add (.r (iZ (.ins (.aj Q) 1 [.int I N]) O))) (abr f d s X s.ni i t c kv v) (a.put d (.tuple #[.bool J,key,val])) (W.putObj (ad V X) (.mapIter (U (ad V i)) (c.ab O).toNat (((Q.rv O).ae.map qf).toArray.push j) (c.ab O).toNat)):=by
 have u:=IQ R cG;have ht:∀L∈(Q.rv O).ae,∃x,L=[RV.mk (.int I x) []]:=λL H=>acw G (u L H)
 obtain⟨u1,u2⟩:=ayD (O:=O) (rs:=Q) (je:=N) w (λL H x M=>by
  intro e;apply b;simp only[qH,iL];refine⟨L,H, ?_⟩;subst M;simp[qf,bp,e]) ht
 refine⟨u1, ?_⟩;have hh:bI W f.ty (.mr (yD f)) (iZ (.ins (.aj Q) 1 [.int I N]) O):=by
  refine alj (λL p=> ?_) (λx M=>by rw[LV G] at M;simp at M;subst M;rfl);simp only[LE.ae,eW,Dv,C.cq] at p;rcases acq p with rfl|h;exact ayC G _;exact u L h
 have af:(iZ (.ins (.aj Q) 1 [.int I N]) O).ae=(Q.rv O).ae++[[.mk (.int I j) []]]:=by
  simp only[iZ,RV.nK,LE.ae,eW,Dv,C.cq,w];refine alk λr H=> ?_
  simpa[bp] using u2 r H
 have R1:=R.ali z hh;have ag:∀o n m,mh yv (C.dN (O.add (.r (iZ (.ins (.aj Q) 1 [.int I N]) O))) V [.mp i,.int I (.c (t:Int)),.int I c,.aj Q])≠ .cells o n m:=by
  intro o n m M;rw[PI] at M;cases M
 have A:=R1.acp (cs':=[.mp i,.int I (.c (t:Int)),.int I c,.aj (.v (Y s.rs))]) (i:=X) y ag;have al:(RE.v (Y s.rs)).rv (O.add (.r (iZ (.ins (.aj Q) 1 [.int I N]) O)))=iZ (.ins (.aj Q) 1 [.int I N]) O:=by
  simp[RE.rv,ai.rv,ai.add,<-R.er]
 obtain⟨a9,an⟩:=R.Ag z;have l:=uv an y;simp only[C.jo,C.bm,aA] at l;have a0:c.ab (O.add (.r (iZ (.ins (.aj Q) 1 [.int I N]) O)))=c.ab O:=K.ep (sT s.ao O (.r (iZ (.ins (.aj Q) 1 [.int I N]) O)) V).agree _ l.2.2.1;rw[PI,al,af,a0] at A;have a1:((Q.rv O).ae++[[RV.mk (.int I (j:Int)) []]]).map qf=(Q.rv O).ae.map qf++[j]:=by simp[qf,bp]
 rw[a1] at A;have k:=A.put d (.b9 [.bool (.c J),kv,v]);have a3:(C.b9 [.bool (.c J),kv,v]).ab (O.add (.r (iZ (.ins (.aj Q) 1 [.int I N]) O))) V=.tuple #[.bool J,key,val]:=by
  simp only[C.ab,C.aK,ac,hv,BE.ab]
 rw[a3] at k;have a4:((Q.rv O).ae.map qf).toArray.push j=((Q.rv O).ae.map qf++[j]).toArray:=aw;rw[a4];exact k
def alr{X:Type}:∀{l:List X}{m j:Nat},eX ((m+j:Nat):Int) ((yt m (Y l)).map λ(i:Nat)=>(i:Int)) l=l[j]?
 |[],m,j=>by simp[eX]
 |x::l,m,j=>by
  simp only[qI,aa4,eW,eX];cases j with
  |zero=>simp
  |succ j=>
   rw[aP aa,show m+(j+1)=m+1+j from aa,alr];simp
def als{R:Type}{l:List R}{j:Nat}(h:X=Y l):eX (j:Int) (DC X) l=l[j]?:=by
 have:=alr (l:=l) (m:=0) (j:=j);rw[jz] at this;rw[DC,h,aaY];exact this
def ayE(h:t.ab x V=t.ab O V):C.aK x V t.cells=C.aK O V t.cells:=by
 cases t
 case agg l=>simp only[C.ab,Value.agg.injEq] at h;simpa[C.cells] using h
 all_goals simp only[C.cells,C.aK,h]
def alu(R:aE g B D f.ty V O s a W){Q:TI}(G:fu P v Q){x:K}{N:bw}{X:C}(h:Ur Q x N b=U (t,X))(F:Y N=Y b){O':ai}{j:Nat}(M:x.ab O'=j){k:Int}{u:C}(A:N[j]?=U k)(L:b[j]?=U u)(r:u.ab O' V=u.ab O V):
  t.ab O' V=.int I k/\X.ab O' V=u.ab O V:=by
 unfold Ur at h;split at h;rename_i q;split at h;rename_i y l p o;cases h;constructor;obtain⟨w,n,m,-⟩:=abV (O:=O') p;obtain⟨k',z,i,rfl⟩:=m (.int I (.c k)) (by rw[M,als aw,dX,A];rfl);cases i;simp only[C.ab,n,K.ab];obtain⟨s0,s1,s2⟩:=UR (O:=O') (V:=V) o;have H:=f9.1 q u (ki L);have ac:Y u.cells=0+Y Q.ak:=by
  simp only[BN,aA,du] at H;omega
 have af:Q.d.isAgg=E->Y l=1:=λha=>by rw[s0];exact B8 G ha
 rw[DV af,s1 u.cells (by rw[M,als (by simp[F]),dX,L];rfl) ac,axh,ayE r,UT (xo R) H];cases h;cases h
def alv:∀{l:uf}{m:Nat},(gP m l).map (·.born)=yt m (Y l)
 |[],m=>rfl
 |x::r,m=>by simp[gP,alv (l:=r),aa4]
def ayF{p:Sp}{L:dP}(hP:p.P=P)(R:aE g B D f.ty V O s a W)(al:jW P f.ty){m:OM}{x:Operand}(ho:m.o.op=.next x E)(he:a.eval x=(s.ev f.gl x).ab O V){bl bb:S->T}{t:T}(h:abs f m.o.dst s (s.ev f.gl x) bl bb=U t)(hs:t.ba p O L):
  ∃v W' z w,uz P m.o a W v W'/\aE g B D f.ty V z w (a.put m.o.dst v) W'/\bS s O V w z V/\((z=O/\(bb w).ba p O L)\/(bl w).ba p z L):=by
 unfold abs at h;split at h;rename_i q hx;split at h;rename_i bt i tz c F hq;split at h;cases h;rename_i b7;simp only[iK,H5,aA,du,cz] at b7;obtain⟨⟨⟨⟨⟨rfl,br⟩,cG⟩,hb⟩,b8⟩,dr⟩:=b7;obtain⟨tn,rfl⟩:∃tn:Nat,tz=(tn:Int):=⟨tz.toNat,aa⟩;simp only[zR] at h;have bs:=R.mem.box _ _ _ hq;rw[PI] at bs;have cC:=IQ R cG;have ds:∀H∈(F.rv O).ae,∃x,H=[RV.mk (.int I x) []]:=λH hr=>acw br (cC H hr)
 obtain⟨dx,bx⟩:=R.Ag hb;split at h;rename_i k e n ag ak qq dy cD ca cc;have hd:P.underlying tn=U (.map k e):=(al _ _ ca).desc;have hK:vL P k n ag:=(al _ _ ca).key k e n ag rfl;split at h;rename_i M an;split at h;cases h;rename_i bf;have bf:uh f.ty k n ag=true:=by simpa using bf
 have a0:=R.mem.box _ _ _ cc;have bg:=uv bx cc;have model:∀(l:uf),W.heap[ad V i]?=U (qR l)->(Y l:Int)=c.ab O->
   (c.ab O<=lenOf (F.rv O).val/\uz P m.o a W (.tuple #[.bool E]) W)\/
   ∃(j:Nat)(kv:Value×Value)(G:World),l[j]?=U kv/\¬((F.rv O).ae.map qf).contains j=J/\(G=W\/G=W.drew)/\uz P m.o a W (.tuple #[.bool J,kv.1,kv.2]) (G.putObj (ad V q) (.mapIter (U (ad V i)) (c.ab O).toNat (((F.rv O).ae.map qf).toArray.push j) (c.ab O).toNat)):=by
  intro l hl b0;have hN:(c.ab O).toNat=Y l:=aa;rw[hN] at bs⊢;rcases run_next_at (P:=P) W m.o.type (ad V q) (ad V i) (Y l) (Y l) _ _ _ bs hl (λy hy=>by
   obtain⟨j,p,h1,h2⟩:=acu (by simpa using hy);rw[h2];have:=(cj.1 h1).1;simpa using this) (cg _) with⟨h0,hr⟩|⟨en,b1,G,cI,hr⟩
  left;refine⟨?_,.inl ?_⟩;rw[LU R cG,<-b0];have:=alo (Y l) ((F.rv O).ae.map qf) (λj hj=>by
   cases A:((F.rv O).ae.map qf).contains j with
   |true=>exact qH.1 A
   |false=>
    exfalso;have cO:=acv (m:=0) (cL hj);have:(⟨(l[j]).1,(l[j]).2,0+j⟩:MapEntry)∈(leftOf (gP 0 l).toArray ((F.rv O).ae.map qf).toArray):=by
     unfold leftOf;rw[aKR];refine⟨by simpa using cO, ?_⟩;simp only[jz,iK];rw[<-A];simp
    have dz:=Array.size_pos_of_mem this;omega)
  simpa using this;simp only[execOp,ho,he,hx,C.ab,dt,hr,dq,fF];right;unfold leftOf at b1;rw[Array.mem_toList_iff,aKR] at b1;obtain⟨cR,ch⟩:=b1;obtain⟨j,kv,hj,rfl⟩:=acu (by simpa using cR);simp only[jz] at ch hr;refine⟨j,kv,G,hj, ?_,cI,.inl ?_⟩;simpa using ch;simp only[execOp,ho,he,hx,C.ab,dt,hr,dq,fF,ayy]
 have cl:(W=W)->(c.ab O<=lenOf (F.rv O).val)->uz P m.o a W (.tuple #[.bool E]) W->(bb (s.put m.o.dst (.b9 [.bool (.c E)]))).ba p O L->∃v W' z w,uz P m.o a W v W'/\aE g B D f.ty V z w (a.put m.o.dst v) W'/\bS s O V w z V/\((z=O/\(bb w).ba p O L)\/(bl w).ba p z L):=by
  intro _ _ cW c0;have:=R.put m.o.dst (.b9 [.bool (.c E)]);exact⟨_,W,O,_,cW,this,(bS.refl _ _ _).put _ _,.inl ⟨rfl,c0⟩⟩
 have cn:∀G,(G=W\/G=W.drew)->aE g B D f.ty V O s a G:=by
  rintro G (rfl|rfl);exact R;exact R.drew
 split at h
 
 rename_i jr;simp only[du] at jr;subst jr;split at h;rename_i r hr;split at h;rename_i bk;simp only[aA] at bk;cases h;obtain⟨rfl,c1,c5⟩:=Vd hr;rw[F3] at a0;have dH:c.ab O=((r.rv O).ae.length:Int):=by
  have:=K.bZ _ _ bk.1;rw[this,K.ab,LU R c1]
 have cp:=IQ R c1;simp only[Us,T.ba] at hs;rcases model _ a0 (by rw[dH];simp) with⟨Q,g2⟩|⟨j,kv,G,Q,g2,g3,g4⟩;exact cl rfl Q g2 (hs.2 (decide_eq_true Q))
 ·rw[dX] at Q;cases a3:(r.rv O).ae[j]? with
  |none=>rw[a3] at Q;cases Q
  |some H=>
  rw[a3] at Q;simp only[eo,cS] at Q;have c2:=(cj.1 a3).1;have cs:=ki a3;have c3:=LB bf an (cp H cs);have b2:=hs.1 (j:Int) aa aa;have R1:=(cn G g3).alh hb (j:Int);have ac:=(sT s.ao O (.i (j:Int)) V).agree;simp only[C.jo,C.bm,aA] at bg;have af:=uv bx hq;simp only[C.jo,C.bm,aA] at af;have a4:F.rv (O.add (.i (j:Int)))=F.rv O:=RE.sQ ac _ af.2.2.2.1;have b3:c.ab (O.add (.i (j:Int)))=c.ab O:=K.ep ac _ af.2.2.1;have a9:(K.v s.ni).ab (O.add (.i (j:Int)))=(j:Int):=by simp[K.ab,ai.add,<-R.ei]
  have c4:∀X,(K.v s.ni).ab ((O.add (.i (j:Int))).add (.r X))=(j:Int):=λX=>a9
  have c6:∀X,r.rv ((O.add (.i (j:Int))).add (.r X))=r.rv O:=λX=>by
   have a1:=RE.sQ ac _ bg.1;have b4:=(sT s.ao (O.add (.i (j:Int))) (.r X) V).agree;have a2:=RE.sQ (b4.mono (by simp[ai.add]) (cg _) (cg _)) r bg.1;rw[a2,a1]
  have cv:∀X,(r.rv ((O.add (.i (j:Int))).add (.r X))).ae[((K.v s.ni).ab ((O.add (.i (j:Int))).add (.r X))).toNat]?=U H:=λX=>by
   rw[c6,c4];simpa using a3
  obtain⟨kc,r1,r2,r3⟩:=LA (va:=M.d.isAgg) bf an;have b5:=cp H cs;have b0:Y H=n+Y M.ak:=by rw[b5.len,r1,gU,r2]
  have cx:∀(N:Nat)(ct:CT),M.ak[N]?=U ct->(bH f.ty (.mr ⟨k,e,n,ag,M.d.isAgg⟩))[n+N]?=U ct:=λN ct hm=>by
   rw[r1,jd aa,r2,show n+N-n=N from aa];exact hm
  have cy:∀(N:Nat)(ct:CT),M.ak[N]?=U ct->∃c,H[n+N]?=U c:=λN ct hm=>by
   have:N<Y M.ak:=(cj.1 hm).1;exact⟨H[n+N]' aa,cL _⟩
  have c7:M.d.isAgg=E->(vD r (.v s.ni) n M.ak).length=1:=λha=>by rw[acx];exact B8 (al _ _ an) ha
  have c8:∀X,(ug M.d.isAgg (vD r (.v s.ni) n M.ak)).ab ((O.add (.i (j:Int))).add (.r X)) V=rT M.d.isAgg (H.drop n):=λX=>by
   rw[DV c7,Vf (cv X) c5 b0 (λN kk hm=>by
    obtain⟨c,A⟩:=cy N _ hm;obtain⟨x',b6⟩:=b5.int (n+N) c kk A (cx N _ hm);exact⟨x',by rw[A,b6]⟩) (λN hm=>by
    obtain⟨c,A⟩:=cy N _ hm;obtain⟨x',b6⟩:=b5.bool (n+N) c A (cx N _ hm);exact⟨x',by rw[A,b6]⟩),rT]
   cases c9:M.d.isAgg;have h1:=B8 (al _ _ an) c9;obtain⟨c,A⟩:=pj.1 (show(H.drop n).length=1 from dh);rw[A];rfl;rfl
  obtain⟨u1,u2⟩:=alq (d:=m.o.dst) (s:={s with ni:=s.ni+1}) (kv:=K4 r (.v s.ni) n ag) (v:=ug M.d.isAgg (vD r (.v s.ni) n M.ak)) (key:=rT ag (H.take n)) (val:=rT M.d.isAgg (H.drop n)) br R1 b8 hq (by simpa only[RE.rK,acs] using cG) a9 (by rw[a4];exact g2) (λX=>alp (cv X) hK.1 c3) c8;rw[a4,b3] at u2;subst Q;refine⟨_,_,_,_,g4,u2, ?_,.inr ?_⟩;refine bS.put (s:=s) (s':={s with ni:=s.ni+1,rs:=s.rs++[RK.mr (yD f)],ao:=s.ao.set q _}) ⟨(sT s.ao O (.i (j:Int)) V).trans (sT s.ao _ _ V) (λ_ h=>h),λj hj=>(qh (cj.1 (kA.1 hq)).1).2 (.inr hj),aw,cg _⟩ _ _;exact b2 u1
 cases h;cases h;split at h
 
 rename_i jr;simp only[aA,du,iK] at jr;obtain⟨⟨rfl,rfl⟩,rfl⟩:=jr;split at h;rename_i ks dc;split at h;rename_i bk;split at h;rename_i dd v0 df;cases h;rw[F4] at a0;obtain⟨p1,p2⟩:=LD (O:=O) (V:=V) dc;rw[p1] at a0;have dH:c.ab O=(Y ks:Int):=by
  have:=K.bZ _ _ bk;rw[this,K.ab]
 simp only[Us,T.ba] at hs;rcases model _ a0 (by rw[dH];simp[p2]) with⟨Q,g2⟩|⟨j,kv,G,Q,g2,g3,g4⟩;exact cl rfl Q g2 (hs.2 (decide_eq_true Q))
 ·rw[dX] at Q;cases hz:(ks.zip (mH cD))[j]? with
  |none=>rw[hz] at Q;cases Q
  |some kp=>
  rw[hz] at Q;simp only[eo,cS] at Q;obtain⟨z1,z2⟩:=awX.1 hz;have dk:∀{l:ap}{jj:Nat}{u:C},C.ec (Y O.i) (Y O.b) (Y O.r) (aW s.ao) l=J->(mH l)[jj]?=U u->u.bd (Y O.i) (Y O.b) (Y O.r) (aW s.ao)=true:=by
   intro l;induction l using mH.induct with
   |case1 k v r ih=>
    intro jj u cT hu;simp only[C.jo,aA] at cT;simp only[mH] at hu;cases jj with
    |zero=>simp at hu;subst hu;exact cT.2.1
    |succ jj=>exact ih cT.2.2 (by simpa using hu)
   |case2 l h1=>
    intro jj u cT hu;unfold mH at hu;split at hu;exact aG rfl (h1 _ _ _);simp at hu
  have c2:j<Y ks:=(cj.1 z1).1;have b2:=hs.1 (j:Int) aa aa;have R1:=(cn G g3).alh hb (j:Int);have ac:=(sT s.ao O (.i (j:Int)) V).agree;have af:=uv bx hq;simp only[C.jo,C.bm,aA] at af;have a4:F.rv (O.add (.i (j:Int)))=F.rv O:=RE.sQ ac _ af.2.2.2.1;have b3:c.ab (O.add (.i (j:Int)))=c.ab O:=K.ep ac _ af.2.2.1;have a9:(K.v s.ni).ab (O.add (.i (j:Int)))=(j:Int):=by simp[K.ab,ai.add,<-R.ei]
  have cA:=dk bg z2;have dn:∀X,kp.2.ab ((O.add (.i (j:Int))).add (.r X)) V=kp.2.ab O V:=λX=>by
   have b4:=(sT s.ao (O.add (.i (j:Int))) (.r X) V).agree;rw[C.ep (b4.mono (by simp[ai.add]) (cg _) (cg _)) (λ_ _=>rfl) _ cA,C.ep ac (λ_ _=>rfl) _ cA]
  have cB:=λX=>alu R (al _ _ an) df p2 (O':=(O.add (.i (j:Int))).add (.r X)) (j:=j) a9 z1 z2 (dn X)
  obtain⟨u1,u2⟩:=alq (d:=m.o.dst) (s:={s with ni:=s.ni+1}) (kv:=dd) (v:=v0) (key:=.int I kp.1) (val:=kp.2.ab O V) br R1 b8 hq (by simpa only[RE.rK,acs] using cG) a9 (by rw[a4];exact g2) (λX=>(cB X).1) (λX=>(cB X).2);rw[a4,b3] at u2;subst Q;refine⟨_,_,_,_,g4,u2, ?_,.inr ?_⟩;refine bS.put (s:=s) (s':={s with ni:=s.ni+1,rs:=s.rs++[RK.mr (yD f)],ao:=s.ao.set q _}) ⟨(sT s.ao O (.i (j:Int)) V).trans (sT s.ao _ _ V) (λ_ h=>h),λj hj=>(qh (cj.1 (kA.1 hq)).1).2 (.inr hj),aw,cg _⟩ _ _;exact b2 u1
 cases h;cases h;cases h;cases h;cases h;cases h;cases h;cases h
def ayG{p:Sp}{L:dP}(R:aE g B D f.ty V O s a W)(u:jW P f.ty){m:OM}{x:Operand}(ho:m.o.op=.entry x)(he:a.eval x=(s.ev f.gl x).ab O V){bg:S->T}{t:T}(h:abu f m.o.dst s (s.ev f.gl x) bg=U t)(A:t.ba p O L):
  ∃v s',uz P m.o a W v W/\aE g B D f.ty V O s' (a.put m.o.dst v) W/\bS s O V s' O V/\(bg s').ba p O L:=by
 unfold abu at h;split at h;rename_i q hx;split at h;rename_i bt i tz c Q hq;split at h;cases h;rename_i bk;simp only[iK,H5,aA,du,cz] at bk;obtain⟨⟨⟨⟨rfl,b6⟩,cG⟩,hb⟩,cI⟩:=bk;obtain⟨tn,rfl⟩:∃tn:Nat,tz=(tn:Int):=⟨tz.toNat,aa⟩;simp only[zR] at h;have an:=R.mem.box _ _ _ hq;rw[PI] at an;have b7:=IQ R cG;have model:∀(l:uf),W.heap[ad V i]?=U (qR l)->(Y l:Int)=c.ab O->(abt c Q).ab O=J->
   ∃(j:Nat)(b:Value×Value),l[j]?=U b/\(xe Q).ab O=j/\uz P m.o a W (.tuple #[b.1,b.2]) W:=by
  intro l hl bl b8;obtain⟨a4,ca⟩:=Ce b8;obtain⟨a4,cc⟩:=Ce a4;have h1:=Ak a4;have h2:=U6 cc;obtain⟨h3,h4⟩:=Ce ca;have h3:=Ak h3;rw[DU] at h4;have h4:(xe Q).ab O<c.ab O:=by simpa[iM] using h4
  simp only[K.ab] at h1 h2 h3;rw[LU R cG] at h1 h2;have hN:(c.ab O).toNat=Y l:=aa;rw[hN] at an;obtain⟨ac,a9,a0⟩:∃ac a9,(Q.rv O).ae=ac++[a9]:=⟨_,_,(List.dropLast_concat_getLast (by intro e;rw[e] at h1;simp at h1)).symm⟩;obtain⟨z,y⟩:=acw b6 (b7 a9 (by rw[a0];simp));have ch:IntKind.i64.wrap (((Q.rv O).ae.length:Int)-1)=((Q.rv O).ae.length:Int)-1:=by
   simp[IntKind.wrap,IntKind.bits,IntKind.signed];omega
  have br:(xe Q).ab O=z:=by
   simp only[xe,K.ab,ay,LU R cG,ch,aZ];have:(((Q.rv O).ae.length:Int)-1).toNat=Y ac:=by rw[a0];simp
   rw[this,a0,y];simp[dL,bp]
  rw[br] at h3 h4;obtain⟨j,rfl⟩:∃j:Nat,z=(j:Int):=⟨z.toNat,aa⟩;have bs:j<Y l:=aa;refine⟨j,l[j],cL bs,br,.inl ?_⟩;have cl:((Q.rv O).ae.map qf).toArray=((ac.map qf).toArray).push j:=by
   rw[a0,y];simp[qf,bp]
  rw[cl] at an;have bx:=acv (m:=0) (cL bs);rw[jz] at bx;have hr:=run_entry_at (P:=P) W (ad V q) (ad V i) (Y l) ((ac.map qf).toArray) (gP 0 l).toArray (Y l) ⟨(l[j]).1,(l[j]).2,j⟩ an hl (by simpa using bx) (by
   simp only[alv];exact List.nodup_range' ..)
  simp only[execOp,ho,he,hx,C.ab,dt,hr,dq,fF]
 split at h;rename_i k e n ag ak qq cO cn b0 cp;have hd:P.underlying tn=U (.map k e):=(u _ _ b0).desc;have hK:vL P k n ag:=(u _ _ b0).key k e n ag rfl;split at h;rename_i N af;split at h;cases h;rename_i a1;have a1:uh f.ty k n ag=true:=by simpa using a1
 have al:=R.mem.box _ _ _ cp;split at h;rename_i jr;simp only[du] at jr;subst jr;split at h;rename_i r hr;split at h
 ·rename_i bb;cases h;obtain⟨rfl,c1,c5⟩:=Vd hr;rw[F3] at al;have dH:c.ab O=((r.rv O).ae.length:Int):=by
   have:=K.bZ _ _ bb;rw[this,K.ab,LU R c1]
  have b1:=IQ R c1;obtain⟨hn,A⟩:=A;obtain⟨j,b,M,g2,g3⟩:=model _ al (by rw[dH];simp) hn;rw[dX] at M;cases a3:(r.rv O).ae[j]? with
  |none=>rw[a3] at M;cases M
  |some G=>
  rw[a3] at M;simp only[eo,cS] at M;have b2:=ki a3;have cs:=LB a1 af (b1 G b2);have b3:(r.rv O).ae[((xe Q).ab O).toNat]?=U G:=by rw[g2];simpa using a3
  obtain⟨kc,r1,r2,r3⟩:=LA (va:=N.d.isAgg) a1 af;have bd:=b1 G b2;have bl:Y G=n+Y N.ak:=by rw[bd.len,r1,gU,r2]
  have b4:∀(X:Nat)(w:CT),N.ak[X]?=U w->(bH f.ty (.mr ⟨k,e,n,ag,N.d.isAgg⟩))[n+X]?=U w:=λX w H=>by
   rw[r1,jd aa,r2,show n+X-n=X from aa];exact H
  have b5:∀(X:Nat)(w:CT),N.ak[X]?=U w->∃c,G[n+X]?=U c:=λX w H=>by
   have:X<Y N.ak:=(cj.1 H).1;exact⟨G[n+X]' aa,cL _⟩
  have cv:N.d.isAgg=E->(vD r (xe Q) n N.ak).length=1:=λha=>by rw[acx];exact B8 (u _ _ af) ha
  have cx:(ug N.d.isAgg (vD r (xe Q) n N.ak)).ab O V=rT N.d.isAgg (G.drop n):=by
   rw[DV cv,Vf b3 c5 bl (λX kk H=>by
    obtain⟨c,F⟩:=b5 X _ H;obtain⟨x',bf⟩:=bd.int (n+X) c kk F (b4 X _ H);exact⟨x',by rw[F,bf]⟩) (λX H=>by
    obtain⟨c,F⟩:=b5 X _ H;obtain⟨x',bf⟩:=bd.bool (n+X) c F (b4 X _ H);exact⟨x',by rw[F,bf]⟩),rT]
   cases cy:N.d.isAgg;have h1:=B8 (u _ _ af) cy;obtain⟨c,F⟩:=pj.1 (show(G.drop n).length=1 from dh);rw[F];rfl;rfl
  have cA:=alp (V:=V) b3 hK.1 cs;have R2:=R.put m.o.dst (.b9 [K4 r (xe Q) n ag,ug N.d.isAgg (vD r (xe Q) n N.ak)]);simp only[C.ab,C.aK,cA,cx] at R2;subst M;exact⟨_,_,g3,R2,(bS.refl _ _ _).put _ _,A⟩
 cases h;cases h;split at h;rename_i jr;simp only[aA,du,iK] at jr;obtain⟨⟨rfl,rfl⟩,rfl⟩:=jr;split at h;rename_i ks cB;split at h;rename_i bb;split at h
 ·rename_i cC v0 cD;cases h;rw[F4] at al;obtain⟨p1,p2⟩:=LD (O:=O) (V:=V) cB;rw[p1] at al;have dH:c.ab O=(Y ks:Int):=by
   have:=K.bZ _ _ bb;rw[this,K.ab]
  obtain⟨hn,A⟩:=A;obtain⟨j,b,M,g2,g3⟩:=model _ al (by rw[dH];simp[p2]) hn;rw[dX] at M;cases y:(ks.zip (mH cn))[j]? with
  |none=>rw[y] at M;cases M
  |some kp=>
  rw[y] at M;simp only[eo,cS] at M;obtain⟨z1,z2⟩:=awX.1 y;obtain⟨e1,e2⟩:=alu R (u _ _ af) cD p2 (O':=O) g2 z1 z2 rfl;have R2:=R.put m.o.dst (.b9 [cC,v0]);simp only[C.ab,C.aK,e1,e2] at R2;subst M;exact⟨_,_,g3,R2,(bS.refl _ _ _).put _ _,A⟩
 cases h;cases h;cases h;cases h;cases h;cases h;cases h;cases h
def alw{p:Sp}{L:dP}(R:aE g B D f.ty V O s a W)(af:jW P f.ty){m:OM}{t t2:TypeId}{G:BinOp}{X:Bool}{x y:Operand}(u:m.o.op=.binOp G t x y t2)(ag:(G=.eql/\X=E)\/(G=.neq/\X=J))(he:a.eval x=(s.ev f.gl x).ab O V)(al:a.eval y=(s.ev f.gl y).ab O V){l:S->T}{j:T}(h:Ut f m.o.dst s t X (s.ev f.gl x) (s.ev f.gl y) l=U j)(F:j.ba p O L):
  ∃v z,uz P m.o a W v W/\aE g B D f.ty V O z (a.put m.o.dst v) W/\bS s O V z O V/\(l z).ba p O L:=by
 unfold Ut at h;split at h;rename_i e ak q r ht hx hy;split at h;rename_i hk;cases h;have hd:P.underlying t=U (.slice e):=(af _ _ ht).desc;have N:=sS R aw hk;simp only[T.ba] at F;obtain⟨A,n,c,Q⟩:∃A n c,r.ab O=.slice A n c:=by
  have:∃A n c,(r.rv O).val=.slice A n c:=by
   generalize r.rv O=H at N;cases N;exact⟨_,_,_,rfl⟩
  exact this
 have an:(K.len r).ab O=n:=by simp only[K.ab];unfold RE.ab at Q;rw[Q];rfl
 have i:(FL t (.slice A n c) (.slice Z 0 0)).run P W=.ok A.isNone W:=by
  have w:FL t (.slice A n c) (.slice Z 0 0)=Dw (9999+1) t (.slice A n c) (.slice Z 0 0):=rfl;rw[w,Dw,dt,fu.iS hd,dq];cases A<;>rfl
 have d:(execOp a.eval m.o).run P W=.ok (.value (.bool (if X then !A.isNone else A.isNone))) W:=by
  simp only[execOp,u,he,al,hx,hy,C.ab,Q];have a0:RE.ab O (.k (.slice Z 0 0))=.slice Z 0 0:=rfl;rw[a0];rcases ag with⟨rfl,rfl⟩|⟨rfl,rfl⟩;simp[eqGuard,binOp,i];simp[eqGuard,binOp,i]
 cases M:A with
 |none=>
  have hn:n=0:=by
   unfold RE.ab at Q;have w:∀{H:RV},bI W f.ty (.sl e) H->H.val=.slice A n c->A=Z->n=0:=by
    intro H N Q M;cases N with
    |sl e A' a4 a9 ac h1 h2 h3 hi hb u=>
     simp only[RV.nJ,Value.slice.injEq] at Q;obtain⟨rfl,rfl,rfl⟩:=Q;subst M;cases ac with
     |nil=>simp at h1;omega
     |cons a1 ac=>
      obtain⟨-,b,bb,a3,-⟩:=h3 0 a1 rfl;cases a3
   exact w N Q M
  have:=F.2 (by show decide ((K.len r).ab O<=(K.c 0).ab O)=J;rw[an,hn];rfl);refine⟨_,_,.inl d, ?_,(bS.refl _ _ _).put _ (.bool (.c (!X))),this⟩;have Q:(if X then !A.isNone else A.isNone)= !X:=by rw[M];cases X<;>rfl
  rw[Q];exact R.put m.o.dst (.bool (.c (!X)))
 |some A0=>
  have:=F.1 (by simp[BE.ab]);refine⟨_,_,.inl d, ?_,(bS.refl _ _ _).put _ (.bool (.c X)),this⟩;have Q:(if X then !A.isNone else A.isNone)=X:=by rw[M];cases X<;>rfl
  rw[Q];exact R.put m.o.dst (.bool (.c X))
 cases h;cases h
def aE.cells{x:Ty}{H:ap}(R:aE g B D x V O (s.dl X v b) a W)(F:X<Y s.ao)(h:C.dN O V b=C.dN O V H):aE g B D x V O (s.dl X v H) a W:=by
 have G:∀j,aW (s.ao.set X (U (v,H))) j=aW (s.ao.set X (U (v,b))) j:=λj=>by
  rw[vx,qh F,qh F]
 have w:(s.dl X v H).ao=s.ao.set X (U (v,H)):=rfl;have M:(s.dl X v b).ao=s.ao.set X (U (v,b)):=rfl;refine⟨⟨R.mem.base,λj N=>R.mem.own j (by rw[M,<-G];exact N),λj k N u=>R.mem.inj j k (by rw[M,<-G];exact N) (by rw[M,<-G];exact u),λj t r L=> ?_,λk e A z y=>⟨(R.mem.aj k e A z y).1,λQ L j N=>(R.mem.aj k e A z y).2 Q L j (by rw[M,<-G];exact N)⟩⟩,by simpa[S.dl] using R.gX,R.ei,R.eb,R.er,R.dO,R.size,R.tmps,λk e A Q q p o=> ?_⟩;rw[kA,w] at L;by_cases N:j=X;subst N;rw[H0 (by simpa using F)] at L;cases L;rw[<-h];exact R.mem.box j v b (by rw[kA,M,H0 (by simpa using F)]);rw[sI (λe=>N e.symm)] at L;exact R.mem.box j t r (by rw[kA,M,sI (λe=>N e.symm)];exact L);obtain⟨z,y,n,m,l⟩:=R.gH k e A Q q p o;exact⟨z,y,λj N=>n j (by rw[M,<-G];exact N),m,l⟩
def ayH{b:BE}{y z:C}(h:abv b t y=U z):z.iv O V=if b.ab O then t.iv O V else y.iv O V:=by
 unfold abv at h;split at h;split at h;rename_i X;subst X;cases h;simp only[C.iv,C.ab,K.ab];split<;>rfl;cases h;cases h;simp only[C.iv,C.ab,BE.ab];split<;>rfl;cases h
def PJ:∀(R l:ap)(X:Nat),C.dN O V (lW l X R)=fA (C.dN O V l) X (C.dN O V R)
 |[],l,X=>rfl
 |v::R,l,X=>by
  rw[lW,PJ R (l.set X v) (X+1)];simp only[C.dN,eW,fA,ajV]
def alx{b:BE}:∀{M:ap}{R:Nat}{X Q:ap},OY b M R X=U Q->
  Y Q=Y X/\(M=[]\/R+Y M<=Y X)/\(b.ab O=J->C.dN O V Q=C.dN O V (lW X R M))/\(b.ab O=E->C.dN O V Q=C.dN O V X)
 |[],R,X,Q,h=>by simp only[OY,cS] at h;subst h;exact⟨rfl,.inl rfl,λ_=>rfl,λ_=>rfl⟩
 |x::r,R,X,Q,h=>by
  simp only[OY] at h;split at h;rename_i A H;split at h;rename_i c z;obtain⟨G,L,y,w⟩:=alx h;have v:R<Y X:=(cj.1 H).1;have F:=ayH (O:=O) (V:=V) z;have B:C.dN O V (X.set R c)=(C.dN O V X).set R (c.iv O V):=by simp[C.dN,ajV]
  have u:C.dN O V X=(C.dN O V X).set R (A.iv O V):=by
   apply kK;intro j;rw[wU];split;rename_i t;subst t;simp[C.dN,v];have:=cj.1 H;rw[this.2];rfl
  rw[axd] at G L;refine⟨G,.inr ?_,λN=> ?_,λN=> ?_⟩;rcases L with rfl|L;simp;omega;simp only[qI];omega;rw[y N,PJ,B,F,aL N,PJ];simp only[C.dN,eW,fA];rw[w N,B,F,aP (by simp[N]),<-u];cases h;cases h
def aly{e:K}{G:ap}(y:G≠[]):∀{M:bw}{L X R:ap},Iu e G M L X=U R->Uu M=J->
  Y R=Y X/\(∀v,eX (e.ab O) M L=U v->∃i H,v=.loc i H/\H+Y G<=Y X/\C.dN O V R=C.dN O V (lW X H G))/\(¬(e.ab O∈M)->C.dN O V R=C.dN O V X)
 |[],[],X,R,h,_=>by simp only[Iu,cS] at h;subst h;exact⟨rfl,λv Q=>by simp[eX] at Q,λ_=>rfl⟩
 |[],_::_,X,R,h,_=>by simp[Iu] at h
 |k::M,L,X,R,h,B=>by
  simp only[Uu,aA,iK] at B;cases L with
  |nil=>simp[Iu] at h
  |cons u L=>
   cases u<;>simp only[Iu] at h<;>try cases h
   rename_i i H;split at h;rename_i f q;obtain⟨p,o,x⟩:=aly y h B.2;obtain⟨w,A,t,z⟩:=alx (O:=O) (V:=V) q;have A:=A.resolve_left y;simp only[BE.ab,K.ab,iM,du,beq_eq_false_iff_ne,ne_eq] at t z;refine⟨by rw[p,w],λv Q=> ?_,λr=> ?_⟩;simp only[eX] at Q;split at Q;rename_i N;cases Q;refine⟨i,H,rfl,A, ?_⟩;rw[x (λF=>by
    rw[N] at F;have:=B.1;rw[qH.2 F] at this;cases this),t N]
   rename_i N;obtain⟨n,m,rfl,l,j⟩:=o v Q;refine⟨n,m,rfl,by rw[<-w];exact l, ?_⟩;rw[j,PJ,z N,<-PJ];have N:¬e.ab O=k:=λg=>r (by simp[g])
   rw[x (λF=>r (by simp[F])),z N];cases h
def alz(h:OZ t=J):t.single=true:=by cases t<;>simp only[OZ,jR] at h<;>rfl
def alA:∀{l:ap},K5 l=J->l≠[]/\FN l=J
 |[],h=>by cases h
 |[x],h=>⟨aw,by rw[Ue.2,alz h,Ue.1];rfl⟩
 |x::y::r,h=>by
  simp only[K5,aA] at h;exact⟨aw,by rw[Ue.2,alz h.1,(alA (l:=y::r) h.2).2];rfl⟩
def ayI(h:K5 t.cells=J):(t.ab O V).cells.toList=C.aK O V t.cells:=by
 cases t
 case agg l=>simp[C.cells,C.ab,Value.cells]
 all_goals(simp only[C.cells,K5,OZ,jR] at h)
 all_goals rfl
def ayJ{P:Program}{p:Sp}{L:dP}(R:aE g B D f.ty V O s a W)(m:jW P f.ty){x y:Operand}{A:TI}{e:K}{M:bw}(j:f.ty v=U A)(d:l.op=.store v x y)(c:a.eval x=(C.gz e M b).ab O V)(e2:a.eval y=(s.ev f.gl y).ab O V){k:S->T}{z:T}
  (h:abw l.dst s A e M b (s.ev f.gl y) k=U z)(N:z.ba p O L):∃X Q H,uz P l a W X Q/\aE g B D f.ty V O H (a.put l.dst X) Q/\bS s O V H O V/\(k H).ba p O L:=by
 unfold abw at h;split at h;rename_i i ac;split at h;rename_i bt cs hb;split at h;rename_i af ag;split at h;rename_i w;simp only[aA,du] at w;obtain⟨⟨⟨h1,h2⟩,h3⟩,r⟩:=w;cases h;simp only[T.ba] at N;obtain⟨q,N⟩:=N;rw[US h2] at q;obtain⟨u,G⟩:=lB.1 q;obtain⟨al,an⟩:=alA r;obtain⟨g1,g2,-⟩:=aly (O:=O) (V:=V) al ag h3;obtain⟨i',n,rfl,a0,a1⟩:=g2 u G;obtain⟨bb,hq⟩:=akw ac (Lx G);cases hq;obtain⟨F,a3⟩:=Af hb;have hi:i<Y s.ao:=(cj.1 (kA.1 F)).1;have a4:((s.ev f.gl y).ab O V).cells.toList=C.aK O V (s.ev f.gl y).cells:=ayI r;obtain⟨Q,hr,R'⟩:=R.store (P:=P) (v:=s.ev f.gl y) (off:=n) (m _ _ j) F a3 h1.symm a0 an a4;have R2:aE g B D f.ty V O (s.dl i bt af) a Q:=R'.cells hi a1.symm;refine⟨undef,Q,_,.inr ⟨?_,rfl⟩,R2.put l.dst (.b9 []),ak4 F _ _,N⟩;have a9:(C.gz e M b).ab O V=.pointer (U ⟨ad V i,n,Z⟩):=by
  simp only[C.ab];rw[UU G rfl];rfl
 simp only[execOp,d,c,e2,a9,dt,hr,dq,fF];cases h;cases h;cases h;cases h
def ayK{p:Sp}{L:dP}(R:aE p.S0 p.w0 D f.ty V O s a W)(l:jW p.P f.ty)(w:fO f.gl O){m:OM}{ac:S->Fx->T}{q:Fx}(r:vN O q){t:T}(h:BT f m s ac q=U t)(n:t.ba p O L):
  ∃v F j b X af,uz p.P m.o a W v F/\aE p.S0 p.w0 D f.ty b j X (a.put m.o.dst v) F/\bS s O V X j b/\vN j af/\(ac X af).ba p j L:=by
 unfold BT at h;split at h;cases h;rename_i M;have M:∀x∈m.o.op.operands.toList,(s.ev f.gl x).fk=false:=by
  intro x hx;cases hh:(s.ev f.gl x).fk;rfl;exact aG (by simp only[jy];right;exact lT.2 ⟨x,hx,hh⟩) M
 split at h
 
 rename_i i Q;cases d:Un f m.o.dst s i with
 |none=>rw[d] at h;cases h
 |some X=>
  rw[d] at h;cases h;obtain⟨v,F,b,H,G,N⟩:=ayv (P:=p.P) R Q d;exact⟨v,F,O,b,X,q,H,G,N,r,n⟩
 rename_i i x y z Q;rw[Q] at M;have A:=dw R w x (M x cQ);have k:=dw R w y (M y cQ);have e3:=dw R w z (M z cQ);split at h;rename_i X c;cases h;obtain⟨F,H,G,N⟩:=Ve (P:=p.P) R l c;exact⟨undef,F,O,V,X,q,.inr ⟨by simp only[execOp,Q,A,k,e3,dt,H,dq,fF],rfl⟩,G,N,r,n⟩;rename_i k' x' X c;cases h;obtain⟨F,H,G,N⟩:=Ve (P:=p.P) R l c;exact⟨undef,F,_,V,X,_,.inr ⟨by simp only[execOp,Q,A,k,e3,dt,H,dq,fF],rfl⟩,G,N,IY R N.ext.agree r,n⟩;cases h;rename_i i x y z Q;rw[Q] at M;have A:=dw R w x (M x cQ);have k:=dw R w y (M y cQ);have e3:=dw R w z (M z cQ);split at h;rename_i X c;cases h;obtain⟨F,H,G,N⟩:=Ve (P:=p.P) R l c;exact⟨undef,F,O,V,X,q,.inr ⟨by simp only[execOp,Q,A,k,e3,dt,H,dq,fF],rfl⟩,G,N,r,n⟩;rename_i k' x' X c;cases h;obtain⟨F,H,G,N⟩:=Ve (P:=p.P) R l c;exact⟨undef,F,_,V,X,_,.inr ⟨by simp only[execOp,Q,A,k,e3,dt,H,dq,fF],rfl⟩,G,N,IY R N.ext.agree r,n⟩;cases h;rename_i i x Q;rw[Q] at M;have A:=dw R w x (M x cQ);cases d:Uo f m.o.dst s i (s.ev f.gl x) with
 |none=>rw[d] at h;cases h
 |some X=>
  rw[d] at h;cases h;obtain⟨v,F,b,H,G,N⟩:=ayB (P:=p.P) R l Q A d;exact⟨v,F,O,b,X,q,H,G,N,r,n⟩
 rename_i x Q;rw[Q] at M;have A:=dw R w x (M x cQ);obtain⟨v,F,j,X,H,G,N,u⟩:=ayF (P:=p.P) rfl R l Q A h n;rcases u with⟨rfl,u⟩|u;exact⟨v,F,j,V,X,q,H,G,N,r,u⟩;exact⟨v,F,j,V,X,_,H,G,N,IY R N.ext.agree r,u⟩;rename_i x Q;rw[Q] at M;have A:=dw R w x (M x cQ);obtain⟨v,X,H,G,N,u⟩:=ayG (P:=p.P) R l Q A h n;exact⟨v,W,O,V,X,q,H,G,N,r,u⟩;rename_i i x y Q;rw[Q] at M;have A:=dw R w x (M x cQ);have k:=dw R w y (M y cQ);split at h;rename_i ti e ks vs ht hx;rw[hx] at A;obtain⟨v,F,X,H,G,N,u⟩:=ayJ (P:=p.P) R l ht Q A k h n;exact⟨v,F,O,V,X,q,H,G,N,r,u⟩;cases h;rename_i op i x y t2 Q;rw[Q] at M;have A:=dw R w x (M x cQ);have k:=dw R w y (M y cQ);split at h;obtain⟨v,X,H,G,N,u⟩:=alw (P:=p.P) R l Q (.inl ⟨rfl,rfl⟩) A k h n;exact⟨v,W,O,V,X,q,H,G,N,r,u⟩;obtain⟨v,X,H,G,N,u⟩:=alw (P:=p.P) R l Q (.inr ⟨rfl,rfl⟩) A k h n;exact⟨v,W,O,V,X,q,H,G,N,r,u⟩;cases h;cases h
end
def PK(v:Value)(X:bw)(g:FuncId):mG:=(v::(X.map (Value.int I)++[.func (.func g) #[] #[]])).toArray
def qV(P:Program)(R:Ty)(f g:FuncId)(e:TypeId)(G:bq)(F:Bool):Prop:=
 (∀Q W,(callFunc f Q).run P W=.ok (.enter f Q) W)/\∀(W:World)(A:oE)(n X:Nat)(N aJ:ar)(O:ai)(M:List K)(L:bq),G.fill M=U L->bI W R (.sl e) (.mk (.slice A n X) N)->LP W e (bH R (.sl e)).length A X->lf O L F N=U aJ->
  Calls P f (PK (.slice A n X) (M.map (K.ab O)) g) W λB H=>B=.returned (.tuple #[])/\W.grownBy H (lG A X)/\F6 W H e (bH R (.sl e)).length (lG A X) aJ A X
def alB(P:Program)(N:Ty)(f:FuncId)(e:TypeId):Prop:=
 (∀M W,(callFunc f M).run P W=.ok (.enter f M) W)/\∀(W:World)(b n X:Nat)(L aJ:ar)(i:Int)(R Q:Nat)(G F:TypeId),W.heap[R]?=U (.cells #[.slice (U ⟨b,0,Z⟩) n X] G (0,0))->W.heap[Q]?=U (.cells #[.func (.func f) #[] #[.pointer (U ⟨R,0,Z⟩),.pointer (U ⟨Q,0,Z⟩)]] F (0,0))->R≠b->Q≠b->
  bI W N (.sl e) (.mk (.slice (U ⟨b,0,Z⟩) n X) L)->LP W e (bH N (.sl e)).length (U ⟨b,0,Z⟩) X->xj i L=U aJ->
  Calls P f #[.int I i,.pointer (U ⟨R,0,Z⟩),.pointer (U ⟨Q,0,Z⟩)] W λB H=>B=.returned (.int I (aN 0 (aJ.getD i.toNat [])))/\W.grownBy H (U b)/\F6 W H e (bH N (.sl e)).length (U b) aJ (U ⟨b,0,Z⟩) X
def mM(P:Program)(X:Ty)(f g:FuncId)(e:TypeId)(R:bq)(Q:Bool):Prop:=if f=g then alB P X f e else qV P X f g e R Q
def mM.of{P:Program}{X:Ty}{f g:FuncId}{R:bq}(h:qV P X f g v R e)(Q:f≠g):mM P X f g v R e:=by
 unfold mM;rw[aP Q];exact h
def LW(P:Program)(p:bL):Prop:=∀f g e X R,p.BR f g=U (e,X,R)->mM P p.ty f g e X R
def Vg{lt:aM->aM->Bool}{x y:aM}:∀{l:ar},y∈eB lt x l<->y=x\/y∈l
 |[]=>by simp[eB]
 |z::r=>by
  simp only[eB];split;simp;simp only[dS,Vg (l:=r)];constructor;rintro(h|h|h);exact .inr (.inl h);exact .inl h;exact .inr (.inr h);rintro(h|h|h);exact .inr (.inl h);exact .inl h;exact .inr (.inr h)
def alC{lt:aM->aM->Bool}{x:aM}:∀{l:ar},(eB lt x l).length=Y l+1
 |[]=>rfl
 |z::r=>by
  simp only[eB];split;simp;simp[alC (l:=r)]
def acy{lt:aM->aM->Bool}:∀(l acc:ar),(∀x,x∈l.foldl (λacc x=>eB lt x acc) acc<->x∈acc\/x∈l)/\(l.foldl (λacc x=>eB lt x acc) acc).length=Y acc+Y l
 |[],acc=>aw
 |y::l,acc=>by
  obtain⟨X,R⟩:=acy (lt:=lt) l (eB lt y acc);refine⟨λx=> ?_, ?_⟩;simp only[FF,X,Vg,dS];constructor;rintro((h|h)|h);exact .inr (.inl h);exact .inl h;exact .inr (.inr h);rintro(h|h|h);exact .inl (.inr h);exact .inl (.inl h);exact .inr h;simp only[FF,R,alC,qI];omega
def alD{lt:aM->aM->Bool}{l:ar}{x:aM}:x∈bX lt l<->x∈l:=by
 rw[bX,(acy l []).1];simp
def lZ{lt:aM->aM->Bool}{l:ar}:(bX lt l).length=Y l:=by
 rw[bX,(acy l []).2];simp
def alE{sp:bq}{X aJ:ar}(h:jA sp e X=U aJ):∀x∈aJ,x∈X:=by
 cases sp with
 |dp k o Q=>simp[jA] at h
 |_=>
  simp only[jA] at h;split at h;cases h;intro x R;exact alD.1 R;cases h
def alF{sp:bq}{X aJ:ar}(h:jA sp e X=U aJ):Y aJ=Y X:=by
 cases sp with
 |dp k o R=>simp[jA] at h
 |_=>
  simp only[jA] at h;split at h;cases h;exact lZ;cases h
def vO{R:ar}{b:Nat}{x:aM}(h:x∈bo R X b):x∈R:=Dt (Fz h)
def ayL(X:ar)(a b:Nat):(bo X a b).length=min (b-a) (Y X-a):=by simp[bo]
def Vh{X:ar}:∀(n:Nat)(i:Int),(rR n i X).length=Y X
 |0,_=>rfl
 |n+1,i=>by
  simp only[rR];split;rfl;simp[Vh n]
def F8{X:ar}(h:lc X=J){k:Nat}(R:k<Y X):0<=aN 0 (X.getD k [])/\aN 0 (X.getD k [])<=k:=by
 have:=f9.1 h k (wV.2 R);simpa only[aA,cz] using this
def acz{X:ar}(h:lc X=J){i:Int}(R:0<=i)(Q:i<Y X):0<=aN 0 (X.getD i.toNat [])/\aN 0 (X.getD i.toNat [])<=i/\aN 0 (X.getD i.toNat [])<Y X:=by
 have:=F8 h (k:=i.toNat) aa;omega
def alG{R:Type}{l:List R}(h:X<Y l)(d:R):l.getD X d∈l:=by
 rw[dL,cL h];exact pl _
def alH{R:ar}(h:lc R=J):∀(n:Nat)(i:Int),0<=i->i<Y R->∀x∈rR n i R,x∈R
 |0,_,_,_,x,X=>X
 |n+1,i,N,M,x,X=>by
  simp only[rR] at X;split at X;exact X;obtain⟨L,-,H⟩:=acz h N M;have Q:=alH h n _ L H;rcases Fv X with X|X;exact Q x X;refine Q x ?_;have G:(aN 0 (R.getD i.toNat [])).toNat<(rR n (aN 0 (R.getD i.toNat [])) R).length:=by rw[Vh];omega
  rw[X];exact alG G _
def PL{i:Int}{X aJ:ar}(h:xj i X=U aJ):Y X<=1099511627776/\0<=i/\i<Y X/\lc X=J/\aJ=rR (Y X) i X:=by
 unfold xj at h;split at h;rename_i R;simp only[aA,cz] at R;cases h;exact⟨R.1.1.1,R.1.1.2,R.1.2,R.2,rfl⟩;cases h
def Vi{i:Int}{X aJ:ar}(h:xj i X=U aJ):∀x∈aJ,x∈X:=by
 obtain⟨-,R,Q,N,rfl⟩:=PL h;exact alH N _ _ R Q
def acA{i:Int}{X aJ:ar}(h:xj i X=U aJ):Y aJ=Y X:=by
 obtain⟨-,-,-,-,rfl⟩:=PL h;exact Vh _ _
def ayM{o:bq}{N:bw}{Q aJ:ar}(h:nL X o N Q=U aJ):∀x∈aJ,x∈Q:=by
 unfold nL at h;split at h
 all_goals first|(split at h<;>first|(cases h;done)|skip)|skip
 all_goals first|(cases h;done)|skip
 all_goals
  cases h;intro x R;simp only[fh,alD] at R;rcases R with R|R;exact Fz R
 all_goals
  rcases R with R|R;exact vO R
  first|exact Dt R|(rcases R with R|R<;>first|exact vO R|exact Dt R|(rcases R with R|R<;>first|exact vO R|exact Dt R))
def ayN{o:bq}{Q:bw}{R aJ:ar}(h:nL X o Q R=U aJ):Y aJ=Y R:=by
 unfold nL at h;split at h
 all_goals first|(split at h<;>first|(cases h;done)|skip)|skip
 all_goals first|(cases h;done)|skip
 all_goals
  rename_i N;simp only[aA,cz] at N;cases h;simp only[gU,FD,FE,ayL,lZ];omega
def Cf{o:bq}{Q:bw}{R aJ:ar}(h:qg X o Q R=U aJ):Y R<=1099511627776/\nL X o Q R=U aJ:=by
 unfold qg at h;split at h;rename_i N;exact⟨N,h⟩;cases h
def ayO{o:bq}{Q:bw}{R aJ:ar}(h:qg X o Q R=U aJ):∀x∈aJ,x∈R:=ayM (Cf h).2
def ayP{o:bq}{Q:bw}{R aJ:ar}(h:qg X o Q R=U aJ):Y aJ=Y R:=ayN (Cf h).2
def acB{X:bq}{R aJ:ar}(h:jA X e R=U aJ):Y R<=1099511627776:=by
 cases X with
 |dp k o N=>simp[jA] at h
 |_=>
  simp only[jA] at h;split at h;rename_i Q;simp only[aA,cz] at Q;exact Q.1;cases h
def acC{R:bq}{Q aJ:ar}(h:lf x R e Q=U aJ):∀X∈aJ,X∈Q:=by
 cases R with
 |dp k o N=>
  cases e with
  |false=>exact ayO h
  |true=>
   cases N with
   |nil=>simp[lf] at h
   |cons i l=>
    cases l with
    |nil=>exact Vi h
    |cons j l=>simp[lf] at h
 |lex M d=>exact alE (sp:=.lex M d) h
 |ratio n d=>exact alE (sp:=.ratio n d) h
def acD{X:bq}{R aJ:ar}(h:lf x X e R=U aJ):Y aJ=Y R:=by
 cases X with
 |dp k o Q=>
  cases e with
  |false=>exact ayP h
  |true=>
   cases Q with
   |nil=>simp[lf] at h
   |cons i l=>
    cases l with
    |nil=>exact acA h
    |cons j l=>simp[lf] at h
 |lex N d=>exact alF (sp:=.lex N d) h
 |ratio n d=>exact alF (sp:=.ratio n d) h
section
variable{q:aq}{w:World}{D:cF}{P:Program}{p:bL}{V:aq}{O:ai}{s:S}{a:Act}{W:World}
def ayQ{G aJ:ar}(h:gg W p.ty v G)(F:∀x∈aJ,x∈G):gg W p.ty v aJ:=by
 have H:∀{i:Nat}{X:aM},aJ[i]?=U X->∃R,G[R]?=U X:=λh=>ue (F _ (ki h))
 refine⟨λi X Q=> ?_,λi j X c k Q M L=> ?_,λi j X c Q M L=> ?_,λi j X c z k Q M L=> ?_⟩;obtain⟨R,N⟩:=H Q;exact h.len R X N;obtain⟨R,N⟩:=H Q;exact h.int R j X c k N M L;obtain⟨R,N⟩:=H Q;exact h.bool R j X c N M L;obtain⟨R,N⟩:=H Q;exact h.aS R j X c z k N M L
def ayR{R aJ:ar}(Q:∀x∈aJ,x∈R)(h:n9 p.ty v aJ X):n9 p.ty v R X:=by
 obtain⟨i,j,N,c,z,k,M,L,H,G⟩:=h;obtain⟨F,B⟩:=ue (Q _ (ki M));exact⟨F,j,N,c,z,k,B,L,H,G⟩
def alI{a:Act}{W:World}(X:aE q w D p.ty r x R a W)(N:fO p.gl x){g:FuncId}(h:eN p R l=.call (.fn g) b)
  (H:∀b W,(callFunc g b).run P W=.ok (.enter g b) W):(execOp a.eval l).run P W=.ok (.enter g (C.aK x r b).toArray) W:=by
 unfold eN at h;split at h;split at h<;>cases h;rename_i c G;split at h;rename_i f F;split at h;rename_i v u M;split at h;cases h;rename_i B;cases h;have L:=dw X N f (by rw[M];rfl);rw[M,C.ab] at L;have A:c.args.map a.eval=(C.aK x r (c.args.toList.map (R.ev p.gl))).toArray:=by
  apply oD;simp only[yr,qe,pn];exact kJ λQ z=>dw X N Q (by
   cases y:(R.ev p.gl Q).fk;rfl;exact aG (lT.2 ⟨Q,z,y⟩) B)
 simp only[execOp,G,resolve,F,dt,L,Deferred.ofValue,fF,dq,invoke,A,UL];simp only[aw4,H,di];split at h<;>cases h;cases h;cases h;split at h;split at h<;>cases h;cases h;cases h;cases h
def alJ{g:Iq}(h:eN p R l=.call g b)(c:Call):l.op≠ .defer c:=by
 intro X;simp[eN,X] at h
def alK{O:ai}{V:aq}:∀{l:ap}{as:List K}{g:FuncId},O4 l=U (as,g)->C.aK O V l=(as.map (K.ab O)).map (Value.int I)++[.func (.func g) #[] #[]]
 |[],as,g,h=>by simp[O4] at h
 |v::r,as,g,h=>by
  unfold O4 at h;split at h;rename_i M X;cases h;injection X with R Q;subst R;subst Q;simp[C.aK,C.ab];rename_i e L X;injection X with R Q;subst R;subst Q;split at h;rename_i x N;cases h;have:=alK (O:=O) (V:=V) (as:=x.1) (g:=x.2) N;simp[C.aK,C.ab,this];cases h;cases h
def alL(R:aE q w D p.ty V O s a W)(o:s.bd=J){A:oE}{n Q:Nat}{aJ:ar}{M:World}(N:s.rs[X]?=U (.own v))(H:O.rv X=.mk (.slice A n Q) (O.rv X).ae)(G:bI W p.ty (.sl v) (.mk (.slice A n Q) (O.rv X).ae))
  (F:∀x∈aJ,x∈(O.rv X).ae)(m:Y aJ=(O.rv X).ae.length)(l:W.grownBy M (lG A Q))(j:F6 W M v (bH p.ty (.sl v)).length (lG A Q) aJ A Q)(d:cH)(L:C):
  aE q w D p.ty V (O.add (.r (.mk (O.rv X).val aJ))) ((({s with rs:=kL [] 0 (jU [X] 0 s.rs)++[.own v]}:S).iR X (Y s.rs)).put d L) (a.put d (L.ab (O.add (.r (.mk (O.rv X).val aJ))) V)) M/\
   bS s O V ((({s with rs:=kL [] 0 (jU [X] 0 s.rs)++[.own v]}:S).iR X (Y s.rs)).put d L) (O.add (.r (.mk (O.rv X).val aJ))) V:=by
 obtain⟨h,al⟩:=uy G;have g:D0 p.ty V O s v aJ []:=λb f=>by
  have B:=ayR F f;have z:=LM (O:=O) (e0:=.own v) rfl (by simpa[RE.rv] using B);exact⟨⟨X,_,N,z⟩,(R.mem.aj X _ _ N (vM R N)).2 b z,λk' t rv c g2 g3=>(PA R c g2 g3 N rfl (by simpa[RE.rv] using B)).elim⟩
 obtain⟨y,-⟩:=R.bind o (old:=lG A Q) (kill:=[X]) (dj:=[]) (A:=A) (cap:=Q) (W':=M) (.inr ⟨X,v,O.rv X,rfl,N,vM R N,by rw[H,LO]⟩) aw l (ayQ (gg.yN G) F) g j;rw[m,h] at y;have u:(O.rv X).val=.slice A n Q:=by rw[H];rfl
 rw[u];have ac:X<Y O.r:=by rw[R.er];exact(cj.1 N).1
 have af:(O.add (.r (.mk (.slice A n Q) aJ))).rv X=O.rv X:=by simp[ai.rv,ai.add,dZ ac]
 have ag:(O.add (.r (.mk (.slice A n Q) aJ))).rv (Y s.rs)=.mk (.slice A n Q) aJ:=by simp[ai.rv,ai.add,<-R.er]
 have R2:=(y.iR (k:=X) (n:=Y s.rs) (by rw[af,ag,u];rfl)).put d L;refine⟨R2, ?_⟩;refine bS.put (s:=s) (s':=({s with rs:=kL [] 0 (jU [X] 0 s.rs)++[.own v]}:S).iR X (Y s.rs)) ⟨sT _ _ _ _,λi hi=> ?_, ?_,cg _⟩ _ _;simp only[S.iR];rw[IX];exact hi;simp[S.iR,PH]
def ayS(hs:LW P p)(R:aE q w D p.ty V O s a W)(hg:fO p.gl O)(t:s.bd=J){f:FuncId}(al:eN p s l=.call (.fn f) b){u:BV}(h:abx p f b s l.dst=U u){aJ:ar}(Q:lf O u.sp u.st (u.r.rv O).ae=U aJ):
  ∃b v,(execOp a.eval l).run P W=.ok (.enter u.f b) W/\Calls P u.f b W λL N=>L=.returned v/\aE q w D p.ty V (O.add (.r (.mk (u.r.rv O).val aJ))) u.s (a.put l.dst v) N/\bS s O V u.s (O.add (.r (.mk (u.r.rv O).val aJ))) V:=by
 unfold abx at h;split at h;rename_i r a9;split at h;rename_i H g an;split at h;rename_i e m j G;have i:p.BR f g=U (e,m,j)/\f≠g:=by
  split at G;cases G;rename_i a0;exact⟨G,λh=>a0 (by simp[h])⟩
 have F:=hs f g e m j i.1;unfold mM at F;rw[aP i.2] at F;obtain⟨a1,d⟩:=F;have c:(execOp a.eval l).run P W=.ok (.enter f (PK (r.ab O) (H.map (K.ab O)) g)) W:=by
  rw[alI R hg al a1];simp only[C.aK,C.ab,alK an,PK]
 split at h;rename_i ac af;split at h;rename_i k;split at h;rename_i hk;cases h;obtain⟨A,n,ag,h1,h2,h3⟩:=PE R hk;have M:(RE.v k).rv O=O.rv k:=rfl;simp only[M] at Q⊢;have bb:=Q;have a3:=acC Q;have B:=acD Q;refine⟨_,.tuple #[],c, ?_⟩;have z:(RE.v k).ab O=.slice A n ag:=by rw[RE.ab,M,h1];rfl
 rw[z];refine(d W A n ag _ aJ O H ac af h2 h3 Q).mono ?_;rintro L N ⟨rfl,y,x⟩;exact⟨rfl,alL R t hk h1 h2 a3 B y x l.dst (.b9 [])⟩;cases h;cases h;have M:(RE.k (.slice Z 0 0)).rv O=.mk (.slice Z 0 0) []:=rfl;simp only[M,RV.nK,RV.nJ] at Q⊢;have B:=acD Q;have h0:aJ=[]:=uc (by simpa using B);subst h0;refine⟨_,.tuple #[],c, ?_⟩;have z:(RE.k (.slice Z 0 0)).ab O=.slice Z 0 0:=rfl;rw[z];refine(d W Z 0 0 [] [] O H ac af (DZ _ _) ⟨λ_=>rfl,.inl rfl⟩ Q).mono ?_;rintro L N ⟨rfl,y,x⟩;obtain⟨R1,-⟩:=R.bind t (old:=Z) (kill:=[]) (dj:=[]) (A:=Z) (cap:=0) (rows:=[]) (W':=N) (.inl ⟨rfl,rfl⟩) aw y (gg.yN (DZ (e:=e) Z 0)) (λX a4=>(Pz a4).elim) x;refine⟨rfl,R1.put l.dst (.b9 []), ?_⟩;exact bS.put (s:=s) (s':={s with rs:=kL [] 0 (jU [] 0 s.rs)++[.own e]}) ⟨sT _ _ _ _,λ_ h=>h,cg _,cg _⟩ _ _;cases h;cases h;cases h;cases h;cases h
def alM(hs:LW P p)(R:aE q w D p.ty V O s a W)(hg:fO p.gl O)(hb:s.bd=J){f:FuncId}(an:eN p s l=.call (.fn f) b){u:BV}(h:Iv p f b s l.dst=U u){aJ:ar}(L:lf O u.sp u.st (u.r.rv O).ae=U aJ):
  ∃b v,(execOp a.eval l).run P W=.ok (.enter u.f b) W/\Calls P u.f b W λt m=>t=.returned v/\aE q w D p.ty V (O.add (.r (.mk (u.r.rv O).val aJ))) u.s (a.put l.dst v) m/\bS s O V u.s (O.add (.r (.mk (u.r.rv O).val aJ))) V:=by
 unfold Iv at h;split at h;rename_i i N M;split at h;rename_i e o' eS a0;have B:=hs f f e _ J a0;unfold mM at B;rw[aL rfl] at B;obtain⟨a1,a3⟩:=B;split at h;rename_i H k G f' b1 b2 j yO;split at h;rename_i g;simp only[aA,du,iK,cz] at g;obtain⟨⟨⟨⟨⟨⟨hi,e1⟩,e2⟩,e3⟩,a4⟩,a9⟩,F⟩:=g;rw[e1,e2,e3] at yO;cases h;obtain⟨A,n,Q,z,y,d⟩:=PE R F;have bb:(RE.v k).rv O=O.rv k:=rfl;simp only[bb] at L⊢;have bf:=acC L;have bg:=acD L;have dH:xj (i.ab O) (O.rv k).ae=U aJ:=L;obtain⟨-,b3,b4,-,-⟩:=PL dH;obtain⟨hn,b5⟩:=uy y;have x:Q≠0:=aa;rcases d.mem with h0|⟨X,b6,hA,b7,-⟩;exact(x h0).elim;subst hA;have bk:(O.rv k).lE=U X:=by
  rw[z,LO];cases Q with
  |zero=>exact(x rfl).elim
  |succ c=>rfl
 have hT:=R.gH k e _ X F (vM R F) bk;have ac:=R.mem.box N H _ j;have af:=R.mem.box M G _ yO;have bl:mh H (C.dN O V [.aj (.v k)])=.cells #[.slice (U ⟨X,0,Z⟩) n Q] H (0,0):=by
  rw[uw a4];simp only[C.aK,C.ab,RE.ab,RE.rv];rw[z];rfl
 have br:mh G (C.dN O V [.fn f [.loc N 0,.loc M 0]])=.cells #[.func (.func f) #[] #[.pointer (U ⟨ad V N,0,Z⟩),.pointer (U ⟨ad V M,0,Z⟩)]] G (0,0):=by
  rw[uw a9];simp[C.ab,C.aK]
 rw[bl] at ac;rw[br] at af;have bs:(execOp a.eval l).run P W=.ok (.enter f #[.int I (i.ab O),.pointer (U ⟨ad V N,0,Z⟩),.pointer (U ⟨ad V M,0,Z⟩)]) W:=by
  rw[alI R hg an a1];simp only[C.aK,C.ab]
 refine⟨_,.int I (aN 0 (aJ.getD (i.ab O).toNat [])),bs, ?_⟩;have bt:lG (U ⟨X,0,Z⟩) Q=U X:=by
  cases Q with
  |zero=>exact(x rfl).elim
  |succ c=>rfl
 refine(a3 W X n Q _ aJ (i.ab O) _ _ H G ac af (hT.box N (by simp only[aW,j];rfl)) (hT.box M (by simp only[aW,yO];rfl)) y d dH).mono ?_;rintro t m ⟨rfl,ag,al⟩;rw[<-bt] at ag al;have:=alL R hb F z y bf bg ag al l.dst (.int I (.cell (.v (Y s.rs)) i 0));have bx:(O.add (.r (.mk (O.rv k).val aJ))).rv (Y s.rs)=.mk (O.rv k).val aJ:=by simp[ai.rv,ai.add,<-R.er]
 have b0:i.ab (O.add (.r (.mk (O.rv k).val aJ)))=i.ab O:=K.ep (sT s.ao O _ V).agree i (by rw[R.ei,R.eb,R.er];exact hi);have hd:C.ab (O.add (.r (.mk (O.rv k).val aJ))) V (.int I (.cell (.v (Y s.rs)) i 0))=.int I (aN 0 (aJ.getD (i.ab O).toNat [])):=by
  simp only[C.ab,K.ab,RE.rv,bx,b0];rfl
 rw[hd] at this;exact⟨rfl,this⟩;cases h;cases h;cases h;cases h
def ayT(H:LW P p)(R:aE q w D p.ty V O s a W)(G:fO p.gl O){m:OM}{u:BV}(h:DF p m s=U u){aJ:ar}(F:lf O u.sp u.st (u.r.rv O).ae=U aJ):
  ∃X v,(execOp a.eval m.o).run P W=.ok (.enter u.f X) W/\(∀c,m.o.op≠ .defer c)/\Calls P u.f X W λA z=>A=.returned v/\aE q w D p.ty V (O.add (.r (.mk (u.r.rv O).val aJ))) u.s (a.put m.o.dst v) z/\bS s O V u.s (O.add (.r (.mk (u.r.rv O).val aJ))) V:=by
 unfold DF at h;split at h;cases h;rename_i Q;simp only[jy,iK,not_or,H5] at Q;split at h;rename_i f X N;have B:=λc=>alJ N c
 split at h;rename_i t y;cases h;obtain⟨x,v,M,L⟩:=ayS H R G Q.2 N y F;exact⟨x,v,M,B,L⟩;obtain⟨x,v,M,L⟩:=alM H R G Q.2 N h F;exact⟨x,v,M,B,L⟩;cases h
def ayU(N:LW P p)(R:aE q w D p.ty V O s a W)(M:fO p.gl O){u:BV}(h:Iw p l s=U u){aJ:ar}(L:lf O u.sp u.st (u.r.rv O).ae=U aJ):
  ∃X v,(execOp a.eval l).run P W=.ok (.enter u.f X) W/\(∀c,l.op≠ .defer c)/\Calls P u.f X W λH G=>H=.returned v/\aE q w D p.ty V (O.add (.r (.mk (u.r.rv O).val aJ))) u.s (a.put l.dst v) G/\bS s O V u.s (O.add (.r (.mk (u.r.rv O).val aJ))) V:=by
 unfold Iw at h;split at h;cases h;rename_i F;split at h;rename_i f X Q;obtain⟨x,v,B,A⟩:=alM N R M (by simpa using F) Q h L;exact⟨x,v,B,λc=>alJ Q c,A⟩;cases h
end
structure rW(F:Fence):Prop where
 fn:∀f,F.fn f
 Am:F.depth=Z
 eq:∀P,Machine.fenced P F=Machine.fenced P Fence.wide
def ayV:rW Fence.wide:=⟨λ_=>trivial,rfl,λ_=>rfl⟩
def alN(l:Nat):rW (Fence.wide.inRound l):=⟨λ_=>trivial,rfl,λ_=>rfl⟩
def rW.calls{F:Fence}(W:rW F){P:Program}{f:FuncId}{V:mG}{w:World}{R:Ending->World->Prop}(h:Calls P f V w R):CallsIn F X P f V w R:=by
 have Q:=(callsIn_wide (n:=X)).2 h;refine⟨W.fn f,λO _=> ?_⟩;obtain⟨e,N,M,r,c,x⟩:=Q.2 O (room_wide _);exact⟨e,N,M,r,by rw[W.eq];exact c,x⟩
def acE{p:Sp}{L:dP}{V:Fx}{b:BE}{t f:Fx->T}(X:vN x V)(h:(DE R V b t f).ba p x L):
  ∃Q,vN x Q/\(if b.ab x then(t Q).ba p x L else(f Q).ba p x L):=by
 unfold DE at h;split at h;rename_i P;exact⟨V,X,by rw[Vc X P];exact h⟩;rename_i P;exact⟨V,X,by rw[Vc X P];exact h⟩;split at h;simp only[T.ba] at h;cases W:b.ab x;exact⟨_,alg X W,by simpa[W] using h.2 W⟩;exact⟨_,alg X W,by simpa[W] using h.1 W⟩;exact h.elim
def dI(n:Nat)(L X:dP):Prop:=∀l,l<n->oJ l X=oJ l L
def dI.refl(n:Nat)(L:dP):dI n L L:=λ_ _=>rfl
def dI.trans{n m:Nat}{L X W:dP}(h:dI n L X)(k:dI m X W)(R:n<=m):dI n L W:=λl V=>(k l aa).trans (h l V)
def ayW(p:Sp)(O:ai):Iq->mG->World->(Ending->World->Prop)->Prop
 |.fn g,X,W,V=>(∀X W,(callFunc g X).run p.P W=.ok (.enter g X) W)/\Calls p.P g X W V
 |.yl n,X,W,V=>∀(F:Fence)(_:rW F)(m:Nat),YieldAt F m p.P (O.y.getD n 0) X W V
structure ml where
 s:S
 O:ai
 V:aq
 L:dP
structure ml.sU(B:ml)(s:S)(O:ai)(V:aq)(L:dP):Prop where
 later:bS B.s B.O B.V s O V
 Vj:dI B.s.aC B.L L
def ml.sU.go{B:ml}{X:S}{W:ai}{Q:aq}{L P:dP}(h:B.sU R x r L)(N:bS R x r X W Q)(M:dI R.aC L P):B.sU X W Q P:=⟨h.later.trans N,h.Vj.trans M h.later.aC⟩
def Vk(p:Sp)(z:bL)(D:cF)(B:ml)(A:qO):Prop:=
 ∀(L:dP)(g:Iq)(G:ap)(s:S)(k x:C->S->T)(O:ai)(V:aq)(a:Act)(W:World)(H:Ending->World->Prop),B.sU s O V L->
  (A g G s k x).ba p O L->aE p.S0 p.w0 D z.ty V O s a W->fO z.gl O->
  (∀v P X N Q M,bS s O V P X N->dI s.aC L M->aE p.S0 p.w0 D z.ty N X P a Q->(k v P).ba p X M->H (.returned (v.ab X N)) Q)->
  (∀v P X N Q M,bS s O V P X N->dI s.aC L M->aE p.S0 p.w0 D z.ty N X P a Q->(x v P).ba p X M->H (.panicked [{v:=v.ab X N,recovered:=E}]) Q)->
  (∀w Q u y,eU p.w0 D u y a.defers Q->p.R (.panicked w) Q->H (.panicked w) Q)->
  ayW p O g (C.aK O V G).toArray W H
section
variable{p:Sp}{z:bL}{A:qO}{F:Fence}{D:cF}{ops:dU}
def alO{a:Act}{W:World}(Q:aE p.S0 p.w0 D z.ty r x R a W){d:Nat}(N:(ops[X]?).bind (·.dst)=U d):
  (∀b,R.tmps[d]?=U (.bool b)->yielded ops a.tmps X=U (b.ab x))/\(R.tmps[d]?=U (.b9 [])->yielded ops a.tmps X=Z):=by
 constructor;intro b P;rcases Q.tmps d _ P with h|h;cases h;simp[yielded,N,h,C.ab];intro P;rcases Q.tmps d _ P with h|h;cases h;simp[yielded,N,h,C.ab]
def Vl{a:Act}{W:World}(X:aE p.S0 p.w0 D z.ty r x R a W)(N:fO z.gl x){g:FuncId}(h:eN z R l=.call (.fn g) b)
  (H:∀b W,(callFunc g b).run p.P W=.ok (.enter g b) W):(execOp a.eval l).run p.P W=.ok (.enter g (C.aK x r b).toArray) W:=by
 unfold eN at h;split at h;split at h<;>cases h;rename_i c G;split at h;rename_i f B;split at h;rename_i u t M;split at h;cases h;rename_i A;cases h;have L:=dw X N f (by rw[M];rfl);rw[M,C.ab] at L;have y:c.args.map a.eval=(C.aK x r (c.args.toList.map (R.ev z.gl))).toArray:=by
  apply oD;simp only[yr,qe,pn];exact kJ λQ w=>dw X N Q (by
   cases v:(R.ev z.gl Q).fk;rfl;exact aG (lT.2 ⟨Q,w,v⟩) A)
 simp only[execOp,G,resolve,B,dt,L,Deferred.ofValue,fF,dq,invoke,y,UL];simp only[aw4,H,di];split at h<;>cases h;cases h;cases h;split at h;split at h<;>cases h;cases h;cases h;cases h
def alP{a:Act}{W:World}(Q:aE p.S0 p.w0 D z.ty r x R a W)(M:fO z.gl x)(h:eN z R l=.call (.yl X) b):
  (execOp a.eval l).run p.P W=(Instr.yield (x.y.getD X 0) (C.aK x r b).toArray).run p.P W:=by
 unfold eN at h;split at h;split at h<;>cases h;rename_i c G;split at h;rename_i f B;split at h;split at h<;>cases h;rename_i t L;split at h;cases h;rename_i A;cases h;have H:=dw Q M f (by rw[L];rfl);rw[L,C.ab] at H;have w:c.args.map a.eval=(C.aK x r (c.args.toList.map (R.ev z.gl))).toArray:=by
  apply oD;simp only[yr,qe,pn];exact kJ λN v=>dw Q M N (by
   cases u:(R.ev z.gl N).fk;rfl;exact aG (lT.2 ⟨N,v,u⟩) A)
 simp[execOp,G,resolve,B,H,Deferred.ofValue,invoke,w];cases h;cases h;split at h;split at h<;>cases h;cases h;cases h;cases h
def acF{s:S}{O:ai}{V:aq}{L:dP}{e:K}{A:FuncId->ap->T}:∀{Q:bw}{P:ap},(FQ e A Q P).ba p O L->∃g N,kZ (e.ab O) Q (C.aK O V P)=.func (.func g) #[] (C.aK O V N).toArray/\(A g N).ba p O L
 |[],P,h=>by simp only[FQ] at h;exact h.elim
 |k::Q,[],h=>by simp only[FQ] at h;exact h.elim
 |k::Q,v::P,h=>by
  unfold FQ at h;split at h;rename_i z y g N x W R;simp only[zT] at W R;obtain⟨rfl,rfl⟩:=W;obtain⟨rfl,rfl⟩:=R;simp only[T.ba,BE.ab,iM,K.ab] at h;by_cases X:e.ab O=k;exact⟨g,N,by simp[C.aK,C.ab,kZ,X,jT],h.1 (by simp[X])⟩;obtain⟨M,H,G,B⟩:=acF (s:=s) (V:=V) (h.2 (by simp[X]));exact⟨M,H,by simp only[C.aK,kZ,X,gD];exact G,B⟩;rename_i z y x W R;simp only[zT] at W R;obtain⟨rfl,rfl⟩:=W;obtain⟨rfl,rfl⟩:=R;simp only[T.ba,BE.ab,iM,K.ab] at h;by_cases X:e.ab O=k;exact(h.1 (by simp[X])).elim;obtain⟨M,H,G,B⟩:=acF (s:=s) (V:=V) (h.2 (by simp[X]));exact⟨M,H,by simp only[C.aK,kZ,X,gD];exact G,B⟩;exact h.elim
def ayX{s:S}{a:Act}{W:World}{O:ai}{V:aq}(R:aE p.S0 p.w0 D z.ty V O s a W)(Q:fO z.gl O){m:OM}{e:K}{N:bw}{M X L:ap}{g:FuncId}(h:BU z m s=U (e,N,M,X))
  (w:kZ (e.ab O) N (C.aK O V M)=.func (.func g) #[] (C.aK O V L).toArray)(v:∀X W,(callFunc g X).run p.P W=.ok (.enter g X) W):
  (execOp a.eval m.o).run p.P W=.ok (.enter g (C.aK O V (X++L)).toArray) W/\∀c,m.o.op≠ .defer c:=by
 unfold BU at h;split at h;cases h;split at h;rename_i c H;split at h;rename_i f u;split at h;rename_i n l k G;split at h;cases h;rename_i B;simp only[jy,not_or] at B;cases h;have A:=dw R Q f (by rw[G];rfl);rw[G,C.ab,w] at A;have t:c.args.map a.eval=(C.aK O V (c.args.toList.map (s.ev z.gl))).toArray:=by
  apply oD;simp only[yr,qe,pn];exact kJ λx r=>dw R Q x (by
   cases q:(s.ev z.gl x).fk;rfl;exact aG (lT.2 ⟨x,r,q⟩) B.1)
 refine⟨?_,λj y=>by rw[H] at y;cases y⟩;simp only[execOp,H,resolve,u,dt,A,Deferred.ofValue,fF,dq,invoke,t,UL];simp only[aw4,v,di];cases h;cases h;cases h
def alQ{a:Act}{W:World}(X:aE p.S0 p.w0 D z.ty r x R a W)(G:fO z.gl x)(h:eN z R l=.bD t):
  (execOp a.eval l).run p.P W=.halt (.panic (t.ab x r)) W:=by
 unfold eN at h;split at h;rename_i Q H;split at h;rename_i N y L;cases h;have M:=dw X G Q (by rw[L];rfl);rw[L] at M;simp[execOp,H,M,C.ab,Instr.panic];cases h;rename_i c H;split at h;split at h;split at h<;>cases h;split at h<;>cases h;cases h;cases h;rename_i A;split at h;rename_i Q L;split at h;rename_i N y B;cases h;have M:=dw X G Q (by rw[B];rfl);rw[B] at M;have:c.args.map a.eval= #[a.eval Q]:=by apply oD;simp[L]
 simp[execOp,H,resolve,A,invoke,builtin,this,M,C.ab,Instr.panic];cases h;cases h;cases h;cases h
def D3{a:Act}{W R:World}{v:Value}{V:Act->World->Prop}{Q:Exit->Act->World->Prop}(N:rW F)(h:uz p.P l a W v R)(M:∀c,l.op≠ .defer c)(O:V (a.put l.dst v) R):l.wpIn F X p.P a W V Q:=by
 refine⟨λf _=>N.fn f, ?_⟩;rw[BJ _ _ _ M];rcases h with h|⟨h,rfl⟩;rw[h];exact O;rw[h];exact O
def acG{X:Bool}{b:BI}(h:eY z l e X R=U b):∀c,l.op≠ .defer c:=by
 intro c A;simp[eY,A] at h
def ayY{m:OM}{s:S}{X:S->Fx->T}{W:Fx}{t:T}(h:BT z m s X W=U t):∀c,m.o.op≠ .defer c:=by
 intro c A;simp[BT,A] at h
def PM{m:OM}{s X:S}{O:ai}(h:(gN z m s).gives O X):∀c,m.o.op≠ .defer c:=by
 intro c A;unfold gN at h;split at h;exact h.elim;rw[A] at h;simp[cw,uj,OR.gives] at h
def D4(bf:p.ty=z.ty)(bg:LW p.P z)(hF:rW F)(a1:jW p.P z.ty){B:ml}(hH:Vk p z D B A){n:Nat}{k:S->T}{kp:C->S->T}{Q:Exit->Act->World->Prop}(HP:∀ch a' N pd y,eU p.w0 D pd y a'.defers N->p.R (.panicked ch) N->Q (.panic ch) a' N):
  ∀(l:cU)(j:Nat)(s:S)(fx:Fx)(L:dP)(O:ai)(V:aq)(a:Act)(W:World),
   (∀i m,l[i]?=U m->ops[j+i]?=U m.o)->B.sU s O V L->
   (oF z A ops k kp l s fx).ba p O L->vN O fx->aE p.S0 p.w0 D z.ty V O s a W->fO z.gl O->
   (∀H O' V' a' N L',bS s O V H O' V'->dI s.aC L L'->aE p.S0 p.w0 D z.ty V' O' H a' N->(k H).ba p O' L'->Q .normal a' N)->
   (∀v H O' V' a' N L',bS s O V H O' V'->dI s.aC L L'->aE p.S0 p.w0 D z.ty V' O' H a' N->(kp v H).ba p O' L'->Q (.panic [{v:=v.ab O' V',recovered:=E}]) a' N)->
   wpOpsIn F n p.P ops Q (yt j (Y l)) a W
 |[],j,s,fx,L,O,V,a,W,_,_,h,_,R,_,hk,_=>hk s O V a W L (bS.refl _ _ _) (dI.refl _ _) R h
 |m::al,j,s,fx,L,O,V,a,W,cc,hB,h,b3,R,hg,hk,a3=>by
  have ho:ops[j]?=U m.o:=by simpa using cc 0 m rfl
  have bl:∀i m',al[i]?=U m'->ops[j+1+i]?=U m'.o:=λi m' hi=>by
   have:=cc (i+1) m' (by simpa using hi)
   rwa [show j+(i+1)=j+1+i from aa] at this
  simp only[qI,aa4,wpOpsIn,ho];have b6:∀an,vN O an->
    (BW z A m s (oF z A ops k kp al) kp an).ba p O L->
    m.o.wpIn F n p.P a W (wpOpsIn F n p.P ops Q (yt (j+1) (Y al))) Q:=by
   intro an a4 h;unfold BW at h;have dH:∀g a0,(A (.fn g) a0 s (λv H=>oF z A ops k kp al (H.put m.o.dst v) (qa s an)) kp).ba p O L->((∀a0 W,(callFunc g a0).run p.P W=.ok (.enter g a0) W)->(execOp a.eval m.o).run p.P W=.ok (.enter g (C.aK O V a0).toArray) W)->(∀c,m.o.op≠ .defer c)->
     m.o.wpIn F n p.P a W (wpOpsIn F n p.P ops Q (yt (j+1) (Y al))) Q:=by
    intro g a0 h b7 br;have hC:=hH L (.fn g) a0 s _ _ O V a W (λe N=>match e with
      |.returned v=>wpOpsIn F n p.P ops Q (yt (j+1) (Y al)) (a.put m.o.dst v) N
      |.panicked ch=>Q (.panic ch) a N
      |.outgrown=>LetsOut Q) hB h R hg
     (λv H O' V' N L' X hL R' hs=>D4 bf bg hF a1 hH HP al (j+1) (H.put m.o.dst v) (qa s an) L' O' V' _ N bl (hB.go (X.put _ _) hL) hs
      (IY R X.ext.agree a4) (R'.put m.o.dst v) (hg.ext X.ext)
      (λM G x a2 w r ac af R2 ag=>hk M G x a2 w r ((X.put _ _).trans ac) (hL.trans af (X.put _ _).aC) R2 ag)
      (λv2 M G x a2 w r ac af R2 ag=>a3 v2 M G x a2 w r ((X.put _ _).trans ac) (hL.trans af (X.put _ _).aC) R2 ag))
     (λv H O' V' N L' X hL R' hs=>a3 v H O' V' a N L' X hL R' hs)
     (λch N pd y hA hR=>HP ch a N pd y hA hR)
    obtain⟨b0,b8⟩:=hC;refine⟨λf _=>hF.fn f, ?_⟩;rw[BJ _ _ _ br,b7 b0];rw[T4];refine⟨λhd=>by rw[hF.Am] at hd;simp at hd,CallsIn.mono (hF.calls b8) (λe N he=> ?_)⟩;cases e<;>exact he
   split at h;rename_i e ks vs a0 cl;obtain⟨g,cs,q1,q2⟩:=acF (s:=s) (V:=V) h;refine dH g (a0++cs) q2 (λb0=>(ayX R hg cl q1 b0).1) ?_;intro c bs;simp[BU,bs] at cl;split at h;rename_i u hu;obtain⟨aJ,hr,h⟩:=h;obtain⟨a0,tv,b7,br,b8⟩:=ayT bg R hg hu hr;refine⟨λf _=>hF.fn f, ?_⟩;rw[BJ _ _ _ br,b7];rw[T4];refine⟨λhd=>by rw[hF.Am] at hd;simp at hd,CallsIn.mono (hF.calls b8) (λe N he=> ?_)⟩;obtain⟨rfl,R',X⟩:=he;exact D4 bf bg hF a1 hH HP al (j+1) u.s (qa s an) L _ V _ N bl (hB.go X (dI.refl _ _)) h (IY R X.ext.agree a4) R' (hg.ext X.ext)
    (λM G x a2 w r ac af R2 ag=>hk M G x a2 w r (X.trans ac) ((dI.refl _ _).trans af X.aC) R2 ag)
    (λv2 M G x a2 w r ac af R2 ag=>a3 v2 M G x a2 w r (X.trans ac) ((dI.refl _ _).trans af X.aC) R2 ag)
   split at h;rename_i g a0 b1;exact dH g a0 h (λb0=>Vl R hg b1 b0) (λc bs=>by simp[eN,bs] at b1);rename_i yn a0 b1;split at h;have hC:=hH L (.yl yn) a0 s _ _ O V a W (λe N=>match e with
    |.returned v=>wpOpsIn F n p.P ops Q (yt (j+1) (Y al)) (a.put m.o.dst v) N
    |.panicked ch=>Q (.panic ch) a N
    |.outgrown=>LetsOut Q) hB h R hg
    (λv H O' V' N L' X hL R' hs=>D4 bf bg hF a1 hH HP al (j+1) (H.put m.o.dst v) (qa s an) L' O' V' _ N bl (hB.go (X.put _ _) hL) hs
     (IY R X.ext.agree a4) (R'.put m.o.dst v) (hg.ext X.ext)
     (λM G x a2 w r ac af R2 ag=>hk M G x a2 w r ((X.put _ _).trans ac) (hL.trans af (X.put _ _).aC) R2 ag)
     (λv2 M G x a2 w r ac af R2 ag=>a3 v2 M G x a2 w r ((X.put _ _).trans ac) (hL.trans af (X.put _ _).aC) R2 ag))
    (λv H O' V' N L' X hL R' hs=>a3 v H O' V' a N L' X hL R' hs)
    (λch N pd y hA hR=>HP ch a N pd y hA hR)
   obtain⟨fn,cA,assign,body,hy,ct⟩:=hC F hF (n-1);refine⟨λf _=>hF.fn f, ?_⟩;have br:∀c,m.o.op≠ .defer c:=λc bs=>by simp[eN,bs] at b1
   rw[BJ _ _ _ br,alP R hg b1,hy];rw[aKP];refine⟨λhd=>by rw[hF.Am] at hd;simp at hd,RoundIn.mono ct (λe N he=> ?_)⟩;cases e<;>exact he;exact h.elim;rename_i v cn;refine⟨λf _=>hF.fn f, ?_⟩;have br:∀c,m.o.op≠ .defer c:=λc bs=>by simp[eN,bs] at cn
   rw[BJ _ _ _ br,alQ R hg cn];exact a3 v s O V a W L (bS.refl _ _ _) (dI.refl _ _) R h;exact h.elim;have b4:∀H b5,vN O b5->(gN z m s).gives O H->(oF z A ops k kp al H b5).ba p O L->m.o.wpIn F n p.P a W (wpOpsIn F n p.P ops Q (yt (j+1) (Y al))) Q:=by
    intro H b5 cv cp hs;obtain⟨v,N,V',b2,R',X⟩:=PD R a1 hg m cp;exact D3 hF b2 (PM cp) (D4 bf bg hF a1 hH HP al (j+1) H b5 L O V' _ N bl (hB.go X (dI.refl _ _)) hs cv R' hg
     (λM G x a2 w r ac af R2 ag=>hk M G x a2 w r (X.trans ac) ((dI.refl _ _).trans af X.aC) R2 ag)
     (λv2 M G x a2 w r ac af R2 ag=>a3 v2 M G x a2 w r (X.trans ac) ((dI.refl _ _).trans af X.aC) R2 ag))
   split at h;rename_i t ht;obtain⟨v,N,O',V',H,a9,b2,R',X,bb,h2⟩:=ayK R a1 hg a4 ht h;exact D3 hF b2 (ayY ht) (D4 bf bg hF a1 hH HP al (j+1) H a9 L O' V' _ N bl (hB.go X (dI.refl _ _)) h2 bb R' (hg.ext X.ext)
    (λM G x a2 w r ac af R2 ag=>hk M G x a2 w r (X.trans ac) ((dI.refl _ _).trans af X.aC) R2 ag)
    (λv2 M G x a2 w r ac af R2 ag=>a3 v2 M G x a2 w r (X.trans ac) ((dI.refl _ _).trans af X.aC) R2 ag))
   split at h;rename_i b hb;obtain⟨hn,h⟩:=h;obtain⟨v,N,rv,b2,cx,R',X⟩:=aco R a1 hg hb hn;exact D3 hF b2 (acG hb) (D4 bf bg hF a1 hH HP al (j+1) b.s (qa s an) L _ V _ N bl (hB.go X (dI.refl _ _)) (h rv (by rw[bf];exact cx)) (IY R X.ext.agree a4) R' (hg.ext X.ext)
    (λM G x a2 w r ac af R2 ag=>hk M G x a2 w r (X.trans ac) ((dI.refl _ _).trans af X.aC) R2 ag)
    (λv2 M G x a2 w r ac af R2 ag=>a3 v2 M G x a2 w r (X.trans ac) ((dI.refl _ _).trans af X.aC) R2 ag))
   split at h;rename_i H bt;exact b4 H an a4 (by rw[bt];rfl) h;rename_i b H bt;exact b4 H an a4 (by rw[bt];exact⟨h.1,rfl⟩) h.2;rename_i b s1 M bt;obtain⟨a9,bb,h2⟩:=acE a4 h;cases hb:b.ab O;exact b4 M a9 bb (by rw[bt];simp[OR.gives,hb]) (by simpa[hb] using h2);exact b4 s1 a9 bb (by rw[bt];simp[OR.gives,hb]) (by simpa[hb] using h2);exact h.elim
  have ca:∀an,vN O an->(oF z A ops k kp al (s.put m.o.dst (.b9 [])) an).ba p O L->wpOpsIn F n p.P ops Q (yt (j+1) (Y al)) (a.put m.o.dst undef) W:=
   λan a4 h=>D4 bf bg hF a1 hH HP al (j+1) _ an L O V _ W bl (hB.go ((bS.refl _ _ _).put _ _) (dI.refl _ _)) h a4 (R.put m.o.dst (.b9 [])) hg
    (λM G x a2 w r ac af R2 ag=>hk M G x a2 w r (((bS.refl _ _ _).put _ _).trans ac) ((dI.refl _ _).trans af ((bS.refl s O V).put _ _).aC) R2 ag)
    (λv2 M G x a2 w r ac af R2 ag=>a3 v2 M G x a2 w r (((bS.refl _ _ _).put _ _).trans ac) ((dI.refl _ _).trans af ((bS.refl s O V).put _ _).aC) R2 ag)
  simp only[oF,Uv] at h;cases bk:m.o.guard with
  |none=>
   rw[bk] at h;have:nC m.o (yielded ops a.tmps)=true:=by simp[nC,bk]
   rw[aL this];exact b6 fx b3 h
  |some q=>
   obtain⟨jj,cy⟩:=q;rw[bk] at h;simp only at h;split at h;rename_i d hd;have hy:=alO R hd;split at h;rename_i b hb;have bx:=hy.1 b hb;cases cy;simp only[jR,gD] at h;obtain⟨a9,bb,h2⟩:=acE b3 h;cases bd:b.ab O;have:nC m.o (yielded ops a.tmps)=true:=by simp[nC,bk,bx,bd]
   rw[aL this];exact b6 a9 bb (by simpa[bd] using h2);have:¬nC m.o (yielded ops a.tmps)=true:=by simp[nC,bk,bx,bd]
   rw[aP this];exact⟨λf _=>hF.fn f,ca a9 bb (by simpa[bd] using h2)⟩;simp only[cN] at h;obtain⟨a9,bb,h2⟩:=acE b3 h;cases bd:b.ab O;have:¬nC m.o (yielded ops a.tmps)=true:=by simp[nC,bk,bx,bd]
   rw[aP this];exact⟨λf _=>hF.fn f,ca a9 bb (by simpa[bd] using h2)⟩;have:nC m.o (yielded ops a.tmps)=true:=by simp[nC,bk,bx,bd]
   rw[aL this];exact b6 a9 bb (by simpa[bd] using h2);rename_i hb;have bx:=hy.2 hb;have:¬nC m.o (yielded ops a.tmps)=true:=by simp[nC,bk,bx]
   rw[aP this];exact⟨λf _=>hF.fn f,ca fx b3 h⟩;exact h.elim;exact h.elim
end
section
variable{d:aq}{m:World}{D:cF}{o:Ty}{V:aq}{O:ai}{s:S}{a:Act}{W:World}
def Vm(X:aq):∀(l:bK)(n i:Nat),(sM X n l)[i]?=(l[i]?).map λx=>if X.contains (n+i) then x else Z
 |[],n,i=>by simp[sM]
 |x::R,n,0=>by simp[sM]
 |x::R,n,i+1=>by
  simp only[sM,ud];rw[Vm X R (n+1) i,show n+1+i=n+(i+1) from aa]
def acH:∀(l:bK)(i:Nat),cJ (w8 l) i=cJ l i
 |[],i=>rfl
 |x::R,i=>by
  have X:=acH R;simp only[w8];split;rename_i Q;cases i with
  |zero=>simp[dC]
  |succ i=>
   have:=X i;rw[Q] at this;simpa[dC] using this
  cases i with
  |zero=>simp[dC]
  |succ i=>simpa[dC] using X i
def alR{l:bK}{b:TypeId×ap}(h:cJ (w8 (sM r 0 l)) X=U b):cJ l X=U b:=by
 rw[acH,kA,Vm] at h;rw[kA];cases R:l[X]? with
 |none=>rw[R] at h;cases h
 |some x=>
  rw[R] at h;simp only[eo,cS] at h;split at h;rw[h];cases h
def Vn{l:bK}(h:aW (w8 (sM r 0 l)) X=J):aW l X=true:=by
 obtain⟨b,R⟩:=lB.1 h;simp[aW,alR R]
def ld.Lt{P:bK}{N:bz}(R:ld d m V O P o N W)(L:aq):ld d m V O (w8 (sM L 0 P)) o N W:=
 ⟨R.base,λi h=>R.own i (Vn h),λi j X Q=>R.inj i j (Vn X) (Vn Q),λi t H h=>R.box i t H (alR h),
  λk e M X Q=>⟨(R.aj k e M X Q).1,λb G i F=>(R.aj k e M X Q).2 b G i (Vn F)⟩⟩
def alS{l:bK}{i:Nat}{b:TypeId×ap}(h:cJ (w8 (l.take X)) i=U b):cJ l i=U b:=by
 rw[acH,kA,nA] at h;rw[kA];split at h;exact h;cases h
def Vo{l:bK}{i:Nat}(h:aW (w8 (l.take X)) i=J):aW l i=true:=by
 obtain⟨b,R⟩:=lB.1 h;simp[aW,alS R]
def ld.take{P:bK}{N:bz}(R:ld d m V O P o N W)(n:Nat):ld d m V O (w8 (P.take n)) o N W:=
 ⟨R.base,λi h=>R.own i (Vo h),λi j X Q=>R.inj i j (Vo X) (Vo Q),λi t L h=>R.box i t L (alS h),
  λk e M X Q=>⟨(R.aj k e M X Q).1,λb H i G=>(R.aj k e M X Q).2 b H i (Vo G)⟩⟩
def yP:∀(X:aY)(s:S),(s.cK X).2.ao=s.ao/\(s.cK X).2.tmps=s.tmps/\(s.cK X).2.aC=s.aC/\(s.cK X).2.lk=s.lk
 |[],s=>⟨rfl,rfl,rfl,rfl⟩
 |k::X,s=>by
  simp only[S.cK];obtain⟨R,Q,P,N⟩:=yP X (s.fresh k).2;cases k<;>exact⟨R,Q,P,N⟩
def acI:∀(X:aY)(s:S),(s.cK X).2.pd=s.pd
 |[],s=>rfl
 |k::X,s=>by
  simp only[S.cK];rw[acI X (s.fresh k).2];cases k<;>rfl
def LX:∀(X:bn)(O:ai),(O.ext X).y=O.y
 |[],O=>rfl
 |x::X,O=>by
  simp only[ai.ext];rw[LX X (O.add x)];cases x<;>rfl
def alT:∀(X:aY)(s:S)(k:Nat)(e:RK),s.rs[k]?=U e->(s.cK X).2.rs[k]?=U e
 |[],s,k,e,h=>h
 |q::X,s,k,e,h=>by
  simp only[S.cK];refine alT X _ k e ?_;cases q;exact h;exact h;simp only[S.fresh];rw[dZ (cj.1 h).1];exact h
def An:∀(X:aY)(R:bn)(s:S)(O:ai),fq X R->Y O.i=s.ni->Y O.b=s.nb->Y O.r=Y s.rs->
  (O.ext R).i.length=(s.cK X).2.ni/\(O.ext R).b.length=(s.cK X).2.nb/\(O.ext R).r.length=(s.cK X).2.rs.length
 |[],[],s,O,_,Q,P,N=>⟨Q,P,N⟩
 |[],_::_,_,_,h,_,_,_=>by simp[fq] at h
 |_::_,[],_,_,h,_,_,_=>by simp[fq] at h
 |k::X,x::R,s,O,h,Q,P,N=>by
  obtain⟨L,M⟩:=h;simp only[S.cK,ai.ext];cases k<;>cases x<;>simp[sP] at L;exact An X R _ _ M (by simp[S.fresh,ai.add,Q]) (by simp[S.fresh,ai.add,P]) (by simp[S.fresh,ai.add,N]);exact An X R _ _ M (by simp[S.fresh,ai.add,Q]) (by simp[S.fresh,ai.add,P]) (by simp[S.fresh,ai.add,N]);exact An X R _ _ M (by simp[S.fresh,ai.add,Q]) (by simp[S.fresh,ai.add,P]) (by simp[S.fresh,ai.add,N])
def IZ{PP:RK->RV->Prop}:∀(R:aY)(Q:bn)(s:S)(O:ai),fq R Q->Y O.r=Y s.rs->
  (∀(q:Nat)(e:RK)(X:RV),R[q]?=U (.aj e)->Q[q]?=U (.r X)->PP e X)->(∀(k:Nat)(e:RK)(X:RV),s.rs[k]?=U e->O.r[k]?=U X->PP e X)->
  ∀(k:Nat)(e:RK)(X:RV),(s.cK R).2.rs[k]?=U e->(O.ext Q).r[k]?=U X->PP e X
 |[],[],s,O,_,_,_,M=>M
 |[],_::_,_,_,h,_,_,_=>by simp[fq] at h
 |_::_,[],_,_,h,_,_,_=>by simp[fq] at h
 |k::R,x::Q,s,O,h,L,B,M=>by
  obtain⟨H,G⟩:=h;have F:∀(q:Nat)(e:RK)(X:RV),R[q]?=U (.aj e)->Q[q]?=U (.r X)->PP e X:=λq e X P N=>B (q+1) e X (by simpa using P) (by simpa using N)
  simp only[S.cK,ai.ext];cases k<;>cases x<;>simp[sP] at H;exact IZ R Q _ _ G (by simp[S.fresh,ai.add,L]) F (by simpa[S.fresh,ai.add] using M);exact IZ R Q _ _ G (by simp[S.fresh,ai.add,L]) F (by simpa[S.fresh,ai.add] using M);rename_i A z;refine IZ R Q _ _ G (by simp[S.fresh,ai.add,L]) F ?_;intro k e X P N;simp only[S.fresh,ai.add] at P N;by_cases H:k<Y s.rs;rw[dZ H] at P;rw[dZ aa] at N;exact M k e X P N;have y:k=Y s.rs:=by
   have:=(cj.1 P).1;simp at this;omega
  subst y;simp at P;rw[<-L] at N;simp at N;subst P N;exact B 0 A z rfl rfl
def F9:aY->Nat
 |[]=>0
 |.aj _::X=>F9 X+1
 |_::X=>F9 X
def LY:∀(R:aY)(P:bn)(s:S)(O:ai),fq R P->Y O.r=Y s.rs->
  ∀(k:Nat)(e:RK)(Q:RV),(s.cK R).2.rs[k]?=U e->(O.ext P).r[k]?=U Q->(s.rs[k]?=U e/\O.r[k]?=U Q)\/∃q:Nat,R[q]?=U (.aj e)/\P[q]?=U (.r Q)/\k=Y s.rs+F9 (R.take q)
 |[],[],s,O,_,_,k,e,Q,N,M=>.inl ⟨N,M⟩
 |[],_::_,_,_,h,_,_,_,_,_,_=>by simp[fq] at h
 |_::_,[],_,_,h,_,_,_,_,_,_=>by simp[fq] at h
 |B::R,x::P,s,O,h,G,k,e,Q,N,M=>by
  obtain⟨A,F⟩:=h;simp only[S.cK,ai.ext] at N M;cases B<;>cases x<;>simp[sP] at A;rcases LY R P _ _ F (by simp[S.fresh,ai.add,G]) k e Q N M with X|⟨q,X⟩;exact .inl (by simpa[S.fresh,ai.add] using X);exact .inr ⟨q+1,by simpa[S.fresh,F9] using X⟩;rcases LY R P _ _ F (by simp[S.fresh,ai.add,G]) k e Q N M with X|⟨q,X⟩;exact .inl (by simpa[S.fresh,ai.add] using X);exact .inr ⟨q+1,by simpa[S.fresh,F9] using X⟩;rename_i w v;rcases LY R P _ _ F (by simp[S.fresh,ai.add,G]) k e Q N M with⟨L,H⟩|⟨q,X⟩;simp only[S.fresh,ai.add] at L H;by_cases z:k<Y s.rs;rw[dZ z] at L;rw[dZ aa] at H;exact .inl ⟨L,H⟩;have y:k=Y s.rs:=by
   have:=(cj.1 L).1;simp at this;omega
  subst y;simp at L;rw[<-G] at H;simp at H;subst L H;exact .inr ⟨0,rfl,rfl,by simp[F9]⟩;refine .inr ⟨q+1,by simpa using X.1,by simpa using X.2.1, ?_⟩;have:=X.2.2;simp[S.fresh] at this;simp[F9];omega
def alU:∀{ks:aY}{q:Nat}{e:RK},ks[q]?=U (.aj e)->O5 ks=J
 |[],q,e,h=>by simp at h
 |k::ks,0,e,h=>by simp at h;subst h;rfl
 |k::ks,q+1,e,h=>by
  have:=alU (ks:=ks) (q:=q) (by simpa using h);cases k<;>first|exact this|rfl
def Vp:∀{R:aY}{q:Nat}{k:LK},qQ R=J->R[q]?=U k->IB k=J
 |[],q,k,_,h=>by simp at h
 |Q::R,0,k,X,h=>by simp only[qQ,aA] at X;simp at h;subst h;exact X.1
 |Q::R,q+1,k,X,h=>by simp only[qQ,aA] at X;exact Vp X.2 (by simpa using h)
def acJ{B:Nat}{M:Nat->Prop}:∀{N:aY}{P:bn},Ls o W B M N P->∀(q:Nat)(e:RK)(X:RV),N[q]?=U (.aj e)->P[q]?=U (.r X)->bI W o e X/\∀b,ee o e X b->B<=b\/M b
 |[],P,_,q,e,X,R,_=>by simp at R
 |_::_,[],_,q,e,X,_,Q=>by simp at Q
 |k::N,x::P,h,0,e,X,R,Q=>by simp at R Q;subst R Q;exact h.1
 |k::N,x::P,h,q+1,e,X,R,Q=>acJ h.2 q e X (by simpa using R) (by simpa using Q)
def aE.called{B:World}(R:aE d m D o V O s a W)(u:s.bd=J){Q:aY}(f:qQ Q=J){N:bn}(A:fq Q N)(n:Below W.heap.size W B){c:Nat->Prop}(ho:∀b,c b->O.qS o s.rs b/\∀(k:Nat)(e:TypeId)(X:RV),s.rs[k]?=U (.own e)->O.r[k]?=U X->X.lE=U b->O5 Q=E)
  (hh:Ls o B W.heap.size c Q N):
  aE d m D o V (O.ext N) (s.cK Q).2 a B:=by
 obtain⟨M,e2,e3,e4⟩:=yP Q s;obtain⟨l1,l2,l3⟩:=An Q N s O A R.ei R.eb R.er;obtain⟨ac,af⟩:=R.Ag u;have hE:=DW s.ao O N V;have L:=R.mem.below n;refine⟨⟨L.base,by rw[M];exact L.own,by rw[M];exact L.inj, ?_, ?_⟩,by rw[M];exact R.gX,l1,l2,l3,by rw[LX,acI];exact R.dO.below n,by rw[e2];exact R.size, ?_, ?_⟩;rw[M];intro i t cs h;rw[hE.dN (uv af h)];exact L.box i t cs h;rw[M];refine IZ (PP:=λe X=>bI B o e X/\∀b,ee o e X b->∀i,aW s.ao i=J->ad V i≠b) Q N s O A R.er ?_ (λk e X P H=>L.aj k e X P H);intro q e X P H;obtain⟨z,h4⟩:=acJ hh q e X P H;refine⟨z,λb u i hi=> ?_⟩;rcases h4 b u with G|G;have:=R.mem.lt hi;omega;obtain⟨⟨k,y,hk,hx⟩,-⟩:=ho b G;exact(R.mem.aj k _ _ hk (vM R hk)).2 b hx i hi;rw[e2];intro t sv h;rcases R.tmps t sv h with P|P;exact .inl P;right;rw[hE.ab (xl ac h)];exact P;rw[M];intro k e X b P H z;rcases LY Q N s O A R.er k _ X P H with⟨x,l⟩|⟨q,x,l,-⟩;have t:=R.gH k e X b x l z;have w:=t.world (n.block b t.lt);refine⟨w.own,w.mem,w.box,λk' y j q1 q2 q3 v=> ?_,w.inner⟩;rcases LY Q N s O A R.er k' y j q2 q3 with⟨F,g⟩|⟨q,F,g,-⟩;exact t.alone k' y j q1 F g v;have hr:=alU F;obtain⟨p3,p4⟩:=acJ hh q y j F g;rcases v with v|⟨⟨t0,rfl⟩,_⟩;rcases p4 b v with G|G;have:=t.lt;omega;have:=(ho b G).2 k e X x l z;rw[hr] at this;cases this;have:=Vp f F;simp[IB] at this;have:=Vp f x;simp[IB] at this
def alV(R:aE d m D o V O s a W){H:aY}(h:O.qS o (O7 b s.rs) X):
  O.qS o (DJ b H s.rs) X/\∀(k:Nat)(e:TypeId)(L:RV),(DJ b H s.rs)[k]?=U (.own e)->O.r[k]?=U L->L.lE=U X->O5 H=false:=by
 obtain⟨P,t,Q,B⟩:=h;unfold O7 at Q;rw[ab8] at Q;cases N:s.rs[P]? with
 |none=>rw[N] at Q;cases Q
 |some x=>
  rw[N] at Q;simp only[jz,eo,cS] at Q;have A:=akX ((O6 b (Y s.rs)).contains P) x;rw[Q] at A;have M:ee o x (O.rv P) X:=B.nN A;refine⟨?_,λk e L G w v=> ?_⟩;unfold DJ;split;refine⟨P,zY ((O6 b (Y s.rs)).contains P) x,by rw[LJ,N];simp, ?_⟩;cases x<;>simp only[zY]<;>try exact M
  split;cases M with
  |own e L X M=>exact M
  exact M;exact⟨P,x,N,M⟩;unfold DJ at G;split at G;rename_i z;exfalso;obtain⟨F,u⟩:=acf G;by_cases y:P=k;subst y;rw[N] at F;cases F;simp only[OV] at Q;rw[aP (by simpa using u)] at Q;subst Q;cases B;exact(R.gH k e L X F w v).alone P x (O.rv P) y N (vM R N) (.inl M);rename_i z;simpa using z
def Ga(R:ap)(Q:aY)(X:bz):qT X (DJ R Q X):=by
 unfold DJ;split;exact Pv _ _;exact qT.refl _
end
section
variable{p:Sp}{c:bL}
def alW(w:p.ty=c.ty)(n:∀g,(c.sig g).isSome=J->∀X W,(callFunc g X).run p.P W=.ok (.enter g X) W)
  (D:cF)(L:dP)(g:FuncId)(X:ap)(s:S)(k:C->S->T)(O:ai)(V:aq)(a:Act)(W:World)(B:Ending->World->Prop)
  (h:(z8 c g X s k).ba p O L)(R:aE p.S0 p.w0 D c.ty V O s a W)
  (j:∀v A H z Q u,bS s O V A H z->dI s.aC L u->aE p.S0 p.w0 D c.ty z H A a Q->(k v A).ba p H u->B (.returned (v.ab H z)) Q)
  (i:∀G Q f y,eU p.w0 D f y a.defers Q->p.R (.panicked G) Q->B (.panicked G) Q):
  (∀X W,(callFunc g X).run p.P W=.ok (.enter g X) W)/\Calls p.P g (C.aK O V X).toArray W B:=by
 unfold z8 at h;split at h;rename_i ts ac;refine⟨n g (by rw[ac];rfl), ?_⟩;split at h;rename_i M ag;split at h;rename_i l hl;split at h;rename_i N;simp only[S.fz,aA] at N;obtain⟨N,af⟩:=N;simp only[T.ba] at h;have:=h O.y V W (by rw[w];exact(R.mem.Lt _).nN (akY _ _));refine this.mono ?_;intro e Q F;cases e with
 |returned v=>
  obtain⟨x,h1,t,h3,r,h5⟩:=F;rw[w] at r;obtain⟨q,e2,e3,e4⟩:=yP M (s.cut X M);have hy:(O.ext x).at O.y=O.ext x:=by have:=LX x O;unfold ai.at;rw[<-this]
  rw[hy] at t;subst t;have R1:aE p.S0 p.w0 D c.ty V O (s.cut X M) a W:=R.nN (Ga X M s.rs);exact j _ _ _ V Q L ⟨DW _ _ _ _,by rw[q];exact λ_ h=>h,by rw[q];exact cg _,by rw[e3];exact cg _⟩ (dI.refl _ _) (R1.called (PB N.1 (Ga X M s.rs).len) af h1 h3 (λb N=>alV R N) r) h5
 |panicked G=>exact i G Q _ _ (R.dO.below F.1) F.2
 |outgrown=>exact F.elim
 exact h.elim;exact h.elim;exact h.elim;exact h.elim
def acK{d:aq}{m:World}{D:cF}{V:aq}{O:ai}{s:S}{a:Act}{W:World}(R:aE d m D c.ty V O s a W)(M:jW p.P c.ty)(f:ResultVar->Sem Value)(L:∀t,f (.tmp t)=pure (a.tmps.getD t undef))(H:∀x t,f (.cell x t)=(asAddr (a.tmps.getD x undef)>>=λy=>loadVar t y)):
  ∀(X:sJ)(l:ap),vE c s X=U l->(X.mapM f).run p.P W=.ok (C.aK O V l) W
 |[],l,h=>by simp[vE] at h;subst h;rfl
 |.tmp t::X,l,h=>by
  simp only[vE] at h;split at h;rename_i G F;split at h;cases h;rename_i z;cases h;have N:=dw (gl:=[]) R (λ_ Q=>by cases Q) (.tmp t) (by simpa[S.ev,yw] using z);simp only[Act.eval,S.ev,yw] at N;simp only[axi,dt,L,fF,dq,acK R M f L H X G F,C.aK,N];cases h
 |.cell x t::X,l,h=>by
  simp only[vE] at h;split at h;rename_i G i g e F Q w;split at h;rename_i u r B;split at h;rename_i v q;cases h;have N:=dw (gl:=[]) R (λ_ Q=>by cases Q) (.tmp x) (by simp only[S.ev,yw,Q];rfl);simp only[Act.eval,S.ev,yw,Q,C.ab] at N;have A:=UP (P:=p.P) (W:=W) (M _ _ w) (O:=O) (V:=V) (b:=ad V i) (base:=0) q (λj y n=>by
   obtain⟨B,k⟩:=Af B;have:=R.mem.box i u r B;rw[uw k] at this;simp[oC,this,ur,n])
  simp only[Instr.loadAt,Instr.sureAddr,jz,dt,fF,dq] at A;simp only[axi,dt,H,N,asAddr,fF,dq,A,acK R M f L H X G F,C.aK];cases h;cases h;cases h
def PN{m:World}{D:cF}{V:aq}{a:Act}{W:World}(X:aE r m D c.ty V x R a W)(M:jW p.P c.ty){N:Func}{l:ap}(h:vE c R N.results.toList=U l):
  (results N a.tmps).run p.P W=.ok ((one l).ab x V) W:=by
 unfold results;rw[aKn];simp only[dt,Sem.run_map];rw[acK X M _ (λ_=>rfl) (λ_ _=>rfl) N.results.toList l h];simp only[dq,fF];congr 1
 match l with
 |[]=>rfl
 |[v]=>rfl
 |v::w::Q=>rfl
end
section
variable{d:aq}{m:World}{D:cF}{ty:Ty}{V:aq}{O:ai}{s:S}{a:Act}{W:World}
def XV.at(k:LK):XV->Value
 |.i n=>match k with
  |.int k=>.int k n
  |_=>undef
 |.b x=>.bool x
 |.r v=>v.val
def XV.PO(k:LK)(x:XV):RV:=match x with
 |.r v=>v
 |x=>.mk (x.at k) []
def ayZ{k:LK}(h:DH R k t=J):(t.xv x).PO k=t.iv x r:=by
 unfold DH at h;split at h;simp at h;subst h;rfl;rfl;rfl;rfl;rfl;rfl;cases h
def alX{V1:aq}{k:LK}(h:DH R k t=J):(t.xv x).at k=t.ab x V1/\sP k (t.xv x):=by
 unfold DH at h;split at h;simp at h;subst h;exact⟨rfl,trivial⟩;exact⟨rfl,trivial⟩;exact⟨rfl,trivial⟩;exact⟨rfl,trivial⟩;exact⟨rfl,trivial⟩;exact⟨rfl,trivial⟩;cases h
def alY{N:S}:∀{X:aY}{R:ap},ul N X R=J->Y X=Y R/\∀(q:Nat)(k:LK)(v:C),X[q]?=U k->R[q]?=U v->DH N k v=J
 |[],[],_=>⟨rfl,λq k v h _=>by simp at h⟩
 |[],_::_,h=>by simp[ul] at h
 |_::_,[],h=>by simp[ul] at h
 |k::X,v::R,h=>by
  simp only[ul,aA] at h;obtain⟨M,L⟩:=alY h.2;refine⟨by simp[M],λq H G Q P=> ?_⟩;cases q with
  |zero=>simp at Q P;subst Q P;exact h.1
  |succ q=>exact L q H G (by simpa using Q) (by simpa using P)
def acL{Q:S}{O1:ai}:∀{X:aY}{R:ap},ul Q X R=J->fq X (R.map (C.xv O1))
 |[],[],_=>trivial
 |[],_::_,h=>by simp[ul] at h
 |_::_,[],h=>by simp[ul] at h
 |k::X,v::R,h=>by
  simp only[ul,aA] at h;exact⟨(alX (V1:=[]) h.1).2,acL h.2⟩
def Vq:∀(R:aY)(X:bn)(s:S)(O:ai),fq R X->Y O.i=s.ni->Y O.b=s.nb->Y O.r=Y s.rs->
  ∀(q:Nat)(k:LK)(x:XV)(v:C),R[q]?=U k->X[q]?=U x->(s.cK R).1[q]?=U v->v.ab (O.ext X) V=x.at k/\v≠ .any
 |[],_,_,_,_,_,_,_,q,k,x,v,h,_,_=>by simp at h
 |_::_,[],_,_,h,_,_,_,q,k,x,v,_,_,_=>by simp[fq] at h
 |B::R,G::X,s,O,A,M,L,H,0,k,x,v,Q,P,N=>by
  obtain⟨z,F⟩:=A;simp only[S.cK,Ds,cS] at Q P N;subst Q P N;have y:=F0 X (O.add G);simp only[ai.ext];cases B<;>cases G<;>simp[sP] at z;refine⟨?_,by simp[S.fresh]⟩;simp only[S.fresh,C.ab,K.ab,XV.at];rw[y.i _ (by simp[ai.add,M])];simp[ai.add,<-M];refine⟨?_,by simp[S.fresh]⟩;simp only[S.fresh,C.ab,BE.ab,XV.at];rw[y.b _ (by simp[ai.add,L])];simp[ai.add,<-L];refine⟨?_,by simp[S.fresh]⟩;simp only[S.fresh,C.ab,RE.ab,RE.rv,XV.at];rw[y.r _ (by simp[ai.add,H])];simp[ai.add,ai.rv,<-H]
 |B::R,G::X,s,O,A,M,L,H,q+1,k,x,v,Q,P,N=>by
  obtain⟨z,F⟩:=A;simp only[S.cK,ud] at Q P N;simp only[ai.ext];cases B<;>cases G<;>simp[sP] at z;exact Vq R X _ _ F (by simp[S.fresh,ai.add,M]) (by simp[S.fresh,ai.add,L]) (by simp[S.fresh,ai.add,H]) q k x v Q P N;exact Vq R X _ _ F (by simp[S.fresh,ai.add,M]) (by simp[S.fresh,ai.add,L]) (by simp[S.fresh,ai.add,H]) q k x v Q P N;exact Vq R X _ _ F (by simp[S.fresh,ai.add,M]) (by simp[S.fresh,ai.add,L]) (by simp[S.fresh,ai.add,H]) q k x v Q P N
def Vr:∀(R:aY)(X:bn)(s:S)(O:ai),fq R X->Y O.i=s.ni->Y O.b=s.nb->Y O.r=Y s.rs->
  ∀(q:Nat)(k:LK)(x:XV)(v:C),R[q]?=U k->X[q]?=U x->(s.cK R).1[q]?=U v->v.iv (O.ext X) V=x.PO k
 |[],_,_,_,_,_,_,_,q,k,x,v,h,_,_=>by simp at h
 |_::_,[],_,_,h,_,_,_,q,k,x,v,_,_,_=>by simp[fq] at h
 |B::R,G::X,s,O,A,M,L,H,0,k,x,v,Q,P,N=>by
  obtain⟨z,F⟩:=A;simp only[S.cK,Ds,cS] at Q P N;subst Q P N;have y:=F0 X (O.add G);simp only[ai.ext];cases B<;>cases G<;>simp[sP] at z
  skip
  simp only[S.fresh,C.iv,C.ab,K.ab,XV.PO,XV.at];rw[y.i _ (by simp[ai.add,M])];simp[ai.add,<-M]
  skip
  simp only[S.fresh,C.iv,C.ab,BE.ab,XV.PO,XV.at];rw[y.b _ (by simp[ai.add,L])];simp[ai.add,<-L]
  skip
  simp only[S.fresh,C.iv,RE.rv,XV.PO];rw[y.r _ (by simp[ai.add,H])];simp[ai.add,ai.rv,<-H]
 |B::R,G::X,s,O,A,M,L,H,q+1,k,x,v,Q,P,N=>by
  obtain⟨z,F⟩:=A;simp only[S.cK,ud] at Q P N;simp only[ai.ext];cases B<;>cases G<;>simp[sP] at z;exact Vr R X _ _ F (by simp[S.fresh,ai.add,M]) (by simp[S.fresh,ai.add,L]) (by simp[S.fresh,ai.add,H]) q k x v Q P N;exact Vr R X _ _ F (by simp[S.fresh,ai.add,M]) (by simp[S.fresh,ai.add,L]) (by simp[S.fresh,ai.add,H]) q k x v Q P N;exact Vr R X _ _ F (by simp[S.fresh,ai.add,M]) (by simp[S.fresh,ai.add,L]) (by simp[S.fresh,ai.add,H]) q k x v Q P N
def alZ:∀(X:aY)(s:S),(s.cK X).1.length=Y X
 |[],_=>rfl
 |k::X,s=>by simp[S.cK,alZ X]
def al0{n:Nat}:∀{R:List (Nat×LK)}{X:ap}{v:C},xf n R X=U v->∃(q:Nat)(k:LK),R[q]?=U (n,k)/\X[q]?=U v
 |[],X,v,h=>by simp[xf] at h
 |_::_,[],v,h=>by simp[xf] at h
 |(t,k)::r,x::L,v,h=>by
  simp only[xf] at h;split at h;rename_i Q;cases h;simp at Q;subst Q;exact⟨0,k,rfl,rfl⟩;obtain⟨q,P,N,M⟩:=al0 h;exact⟨q+1,P,by simpa using N,by simpa using M⟩
def al1{n:Nat}:∀{X:List (Nat×LK)}{R:ap},Y X<=Y R->xf n X R=Z->X.any (·.1==n)=E
 |[],R,_,h=>rfl
 |_::_,[],Q,h=>by simp at Q
 |(t,k)::r,x::N,Q,h=>by
  simp only[xf] at h;split at h;cases h;rename_i P;simp only[List.any_cons,wT];exact⟨by simpa using P,al1 (by simpa using Q) h⟩
def al2{b n:Nat}:∀{R:List (Nat×Nat×LK)}{X:ap}{v:C},BX b n R X=U v->∃(q:Nat)(k:LK),R[q]?=U (b,n,k)/\X[q]?=U v
 |[],X,v,h=>by simp[BX] at h
 |_::_,[],v,h=>by simp[BX] at h
 |(L,t,k)::r,x::H,v,h=>by
  simp only[BX] at h;split at h;rename_i Q;cases h;simp at Q;obtain⟨rfl,rfl⟩:=Q;exact⟨0,k,rfl,rfl⟩;obtain⟨q,P,N,M⟩:=al2 h;exact⟨q+1,P,by simpa using N,by simpa using M⟩
def al3{b n:Nat}:∀{X:List (Nat×Nat×LK)}{R:ap},Y X<=Y R->BX b n X R=Z->X.any (λc=>c.1==b&&c.2.1==n)=E
 |[],R,_,h=>rfl
 |_::_,[],Q,h=>by simp at Q
 |(N,t,k)::r,x::M,Q,h=>by
  simp only[BX] at h;split at h;cases h;rename_i P;simp only[List.any_cons,wT];exact⟨by simpa using P,al3 (by simpa using Q) h⟩
def al4(X:fU)(R:aq)(Q:ap):∀(l:ap)(n i:Nat),(BY X R Q n l)[i]?=(l[i]?).map λx=>(xf (n+i) X.tm Q).getD (if R.contains (n+i) then .any else x)
 |[],n,i=>by simp[BY]
 |x::P,n,0=>by simp[BY]
 |x::P,n,i+1=>by
  simp only[BY,ud];rw[al4 X R Q P (n+1) i,show n+1+i=n+(i+1) from aa]
def al5(X:fU)(R:ap)(b:Nat):∀(l:ap)(n i:Nat),(Iz X R b n l)[i]?=(l[i]?).map λx=>(BX b (n+i) X.cl R).getD x
 |[],n,i=>by simp[Iz]
 |x::Q,n,0=>by simp[Iz]
 |x::Q,n,i+1=>by
  simp only[Iz,ud];rw[al5 X R b Q (n+1) i,show n+1+i=n+(i+1) from aa]
def PQ(R:fU)(Q:ap):∀(l:bK)(n i:Nat),cJ (vF R Q n l) i=(cJ l i).map λx=>(x.1,Iz R Q (n+i) 0 x.2)
 |[],n,i=>by simp[vF,dC]
 |Z::X,n,0=>by simp[vF,dC]
 |U (t,P)::X,n,0=>by simp[vF,dC]
 |Z::X,n,i+1=>by
  have:=PQ R Q X (n+1) i;rw[show n+1+i=n+(i+1) from aa] at this;simpa[vF,dC] using this
 |U (t,P)::X,n,i+1=>by
  have:=PQ R Q X (n+1) i;rw[show n+1+i=n+(i+1) from aa] at this;simpa[vF,dC] using this
def Vs(X:fU)(R:ap):∀(l:bK)(n:Nat),(vF X R n l).length=Y l
 |[],n=>rfl
 |Z::Q,n=>by simp[vF,Vs X R Q]
 |U (t,P)::Q,n=>by simp[vF,Vs X R Q]
def al6(X:fU)(R:aq)(Q:ap):∀(l:ap)(n:Nat),(BY X R Q n l).length=Y l
 |[],n=>rfl
 |x::P,n=>by simp[BY,al6 X R Q P]
def acM{N:fU}{M:aq}:∀{l R:ap}{n:Nat},z7 N M n l R=J->Y l=Y R/\∀(i:Nat)(x y:C),l[i]?=U x->R[i]?=U y->N.tm.any (·.1==n+i)=J\/M.contains (n+i)=J\/x=y
 |[],[],n,_=>⟨rfl,λi x y h _=>by simp at h⟩
 |[],_::_,n,h=>by simp[z7] at h
 |_::_,[],n,h=>by simp[z7] at h
 |x::B,y::A,n,h=>by
  simp only[z7,aA,jy] at h;obtain⟨L,H⟩:=acM h.2;refine⟨by simp[L],λi G F Q P=> ?_⟩;cases i with
  |zero=>
   simp only[Ds,cS] at Q P;subst Q P;rcases h.1 with(X|X)|X;exact .inl X;exact .inr (.inl X);exact .inr (.inr (C.bZ _ _ X))
  |succ i=>
   have:=H i G F (by simpa using Q) (by simpa using P);rw[show n+(i+1)=n+1+i from aa];exact this
def al7{N:fU}{b:Nat}:∀{l X:ap}{n:Nat},IA N b n l X=J->Y l=Y X/\∀(i:Nat)(x y:C),l[i]?=U x->X[i]?=U y->N.cl.any (λc=>c.1==b&&c.2.1==n+i)=J\/x=y
 |[],[],n,_=>⟨rfl,λi x y h _=>by simp at h⟩
 |[],_::_,n,h=>by simp[IA] at h
 |_::_,[],n,h=>by simp[IA] at h
 |x::F,y::B,n,h=>by
  simp only[IA,aA,jy] at h;obtain⟨M,L⟩:=al7 h.2;refine⟨by simp[M],λi H G R Q=> ?_⟩;cases i with
  |zero=>
   simp only[Ds,cS] at R Q;subst R Q;rcases h.1 with P|P;exact .inl P;exact .inr (C.bZ _ _ P)
  |succ i=>
   have:=L i H G (by simpa using R) (by simpa using Q);rw[show n+(i+1)=n+1+i from aa];exact this
def acN{G:fU}:∀{l M:bK}{n:Nat},uk G n l M=J->∀(i:Nat)(t:TypeId)(R:ap),cJ l i=U (t,R)->∃Q,cJ M i=U (t,Q)/\IA G (n+i) 0 R Q=J
 |[],M,n,_,i,t,R,h=>by simp[dC] at h
 |Z::P,[],n,X,i,t,R,h=>by simp[uk] at X
 |Z::P,y::N,n,X,0,t,R,h=>by simp[dC] at h
 |Z::P,y::N,n,X,i+1,t,R,h=>by
  simp only[uk] at X;obtain⟨Q,L,H⟩:=acN X i t R (by simpa[dC] using h);exact⟨Q,by simpa[dC] using L,by rw[show n+(i+1)=n+1+i from aa];exact H⟩
 |U x::P,[],n,X,i,t,R,h=>by simp[uk] at X
 |U x::P,Z::N,n,X,i,t,R,h=>by simp[uk] at X
 |U x::P,U y::N,n,X,0,t,R,h=>by
  simp only[uk,aA,du] at X;simp only[dC,Ds,cS] at h⊢;subst h;exact⟨y.2,by rw[show(t:TypeId)=y.1 from X.1.1],X.1.2⟩
 |U x::P,U y::N,n,X,i+1,t,R,h=>by
  simp only[uk,aA] at X;obtain⟨Q,L,H⟩:=acN X.2 i t R (by simpa[dC] using h);exact⟨Q,by simpa[dC] using L,by rw[show n+(i+1)=n+1+i from aa];exact H⟩
def al8{R:fU}{n:Nat}{k:LK}(Q:R.tm[X]?=U (n,k)):R.ks[X]?=U k:=by
 have P:X<Y R.tm:=(cj.1 Q).1;unfold fU.ks;rw[dZ (by simpa using P),dX,Q];rfl
def al9{Q:fU}{n:Nat}{k:LK}(P:Q.tm[X]?=U (n,k))(N:R.tmps[n]?=U t):(kW Q R)[X]?=U t:=by
 have M:X<Y Q.tm:=(cj.1 P).1;unfold kW;rw[dZ (by simpa using M),dX,P];simp[N]
def D5{k:Nat}(h:k<X):ad (r.take X) k=ad r k:=by simp[ad,h]
def ay0(X:fU)(s:S):(jV X s).length=Y s.rs:=Ca _ _ _
def ama:∀{l R:bz},z6 l R=J->∀(k:Nat)(e:RK),l[k]?=U e->∃Q,R[k]?=U Q/\(e=.am\/Q=e)
 |[],R,_,k,e,h=>by simp at h
 |x::P,[],h,_,_,_=>by simp[z6] at h
 |x::P,y::N,h,0,e,X=>by
  simp only[z6,aA,jy,cz] at h;simp at X;subst X;exact⟨y,rfl,h.1.imp id Eq.symm⟩
 |x::P,y::N,h,k+1,e,X=>by
  simp only[z6,aA] at h;exact ama h.2 k e (by simpa using X)
def Vt:∀{R:aY}{X:ap}{q:Nat}{e:TypeId}{k:Nat},R[q]?=U (.aj (.own e))->X[q]?=U (.aj (.v k))->k∈DG R X
 |[],X,q,e,k,h,_=>by simp at h
 |_::_,[],q,e,k,_,h=>by simp at h
 |N::R,v::X,0,e,k,Q,P=>by simp at Q P;subst Q P;simp[DG,Uw]
 |N::R,v::X,q+1,e,k,Q,P=>by
  simp only[DG,fh];right;exact Vt (q:=q) (by simpa using Q) (by simpa using P)
def Vu:∀{a b:aq},nG (a++b)=J->nG b=J/\∀x∈a,x∉b
 |[],b,h=>⟨h,aw⟩
 |x::a,b,h=>by
  simp only[da,nG,aA] at h;obtain⟨R,Q⟩:=Vu h.2;refine⟨R,λy X=> ?_⟩;rcases dS.1 X with rfl|X;intro P;have:=h.1;simp[P] at this;exact Q y X
def amc:∀{N:aY}{R:ap}{q Q:Nat}{e M:TypeId}{k X:Nat},nG (DG N R)=J->N[q]?=U (.aj (.own e))->R[q]?=U (.aj (.v k))->N[Q]?=U (.aj (.own M))->R[Q]?=U (.aj (.v X))->q≠Q->k≠X
 |[],R,q,Q,e,M,k,X,_,h,_,_,_,_=>by simp at h
 |_::_,[],q,Q,e,M,k,X,_,_,h,_,_,_=>by simp at h
 |B::N,v::R,0,0,e,M,k,X,_,_,_,_,_,h=>aG rfl h
 |B::N,v::R,0,Q+1,e,M,k,X,P,L,H,G,F,_=>by
  simp at L H;subst L H;simp only[DG] at P;have:=(Vu P).2 k (by simp[Uw]);intro A;subst A;exact this (Vt (q:=Q) (by simpa using G) (by simpa using F))
 |B::N,v::R,q+1,0,e,M,k,X,P,L,H,G,F,_=>by
  simp at G F;subst G F;simp only[DG] at P;have:=(Vu P).2 X (by simp[Uw]);intro A;subst A;exact this (Vt (q:=q) (by simpa using L) (by simpa using H))
 |B::N,v::R,q+1,Q+1,e,M,k,X,P,L,H,G,F,z=>by
  simp only[DG] at P;exact amc (Vu P).1 (by simpa using L) (by simpa using H) (by simpa using G) (by simpa using F) aa
def aE.head{ty:Ty}{Q:fU}{o:aq}{a1:Act}{W1:World}(cT:s.bd=J)(ei:Y O.i=s.ni)(eb:Y O.b=s.nb)(er:Y O.r=Y s.rs)
  (n:bS s O V R x o)(R1:aE d m D ty o x R a1 W1)(hT:z7 Q r 0 s.tmps R.tmps=J)(hB:uk Q 0 s.ao R.ao=J)(hf:ul R Q.ks (kW Q R)=J)
  (hR:z6 (jV Q s) R.rs=J)(hO:Iy (jV Q s) (Ix Q R)=J)(b8:R.pd=s.pd):
  aE d m D ty (o.take (Y s.ao)) (O.ext ((kW Q R).map (C.xv x))) (rP Q r s) a1 W1:=by
 obtain⟨ca,cc⟩:C.ec (Y O.i) (Y O.b) (Y O.r) (aW s.ao) s.tmps=J/\C.rO (Y O.i) (Y O.b) (Y O.r) (aW s.ao) s.ao=true:=by
  simp only[S.bd,aA] at cT;rw[ei,eb,er];exact cT
 have al:=acL (O1:=x) hf;have a0:Y O.r=(jV Q s).length:=by rw[ay0];exact er
 obtain⟨cI,bb⟩:=alY hf;generalize bk:(kW Q R).map (C.xv x)=u at*;obtain⟨e1,e2,e3,e4⟩:=yP Q.ks {s with aC:=s.aC+1,rs:=jV Q s};obtain⟨l1,l2,l3⟩:=An Q.ks u {s with aC:=s.aC+1,rs:=jV Q s} O al ei eb a0;have bs:=DW s.ao O u V;have ch:=Vq (V:=o.take (Y s.ao)) Q.ks u {s with aC:=s.aC+1,rs:=jV Q s} O al ei eb a0;have bt:=alZ Q.ks {s with aC:=s.aC+1,rs:=jV Q s};have bx:Y Q.ks=Y Q.tm+Y Q.cl:=by simp[fU.ks]
 have a3:∀i,aW (vF Q (((({s with aC:=s.aC+1,rs:=jV Q s}:S).cK Q.ks).1).drop (Y Q.tm)) 0 s.ao) i=J->aW s.ao i=J/\i<Y s.ao:=by
  intro i f;unfold aW at f;rw[PQ] at f;have:(cJ s.ao i).isSome=true:=by simpa using f
  obtain⟨b,L⟩:=lB.1 this;exact⟨this,(cj.1 (kA.1 L)).1⟩
 have cn:∀v:C,v.bd (Y O.i) (Y O.b) (Y O.r) (aW s.ao)=J->v.ab (O.ext u) (o.take (Y s.ao))=v.ab x o:=by
  intro v hv;rw[n.ext.ab hv];refine C.ep bs.agree (λk hk=> ?_) v hv;have a4:k<Y s.ao:=by
   obtain⟨b,L⟩:=lB.1 hk;exact(cj.1 (kA.1 L)).1
  rw[D5 a4];exact n.ext.ad k hk
 have cp:∀(q:Nat)(k:LK)(v w:C),Q.ks[q]?=U k->(kW Q R)[q]?=U w->(({s with aC:=s.aC+1,rs:=jV Q s}:S).cK Q.ks).1[q]?=U v->v.ab (O.ext u) (o.take (Y s.ao))=w.ab x o/\v≠ .any:=by
  intro q k v w hk hw hv;have hx:u[q]?=U (w.xv x):=by rw[<-bk];simp[hw]
  obtain⟨P,N⟩:=ch q k _ v hk hx hv;exact⟨P.trans (alX (V1:=o) (bb q k w hk hw)).1,N⟩
 have ct:∀v:C,v.bd (Y O.i) (Y O.b) (Y O.r) (aW s.ao)=J->v.iv (O.ext u) (o.take (Y s.ao))=v.iv x o:=by
  intro v hv;rw[abP n.ext.agree n.ext.ad v hv];refine abP bs.agree (λk hk=> ?_) v hv;have a4:k<Y s.ao:=by
   obtain⟨b,L⟩:=lB.1 hk;exact(cj.1 (kA.1 L)).1
  rw[D5 a4];exact n.ext.ad k hk
 have cv:∀(q:Nat)(k:LK)(v w:C),Q.ks[q]?=U k->(kW Q R)[q]?=U w->(({s with aC:=s.aC+1,rs:=jV Q s}:S).cK Q.ks).1[q]?=U v->v.iv (O.ext u) (o.take (Y s.ao))=w.iv x o:=by
  intro q k v w hk hw hv;have hx:u[q]?=U (w.xv x):=by rw[<-bk];simp[hw]
  rw[Vr (V:=o.take (Y s.ao)) Q.ks u {s with aC:=s.aC+1,rs:=jV Q s} O al ei eb a0 q k _ v hk hx hv];exact ayZ (bb q k w hk hw)
 have b0:∀(k:Nat)(e:RK)(H:RV),(jV Q s)[k]?=U e->O.r[k]?=U H->∃e1,R.rs[k]?=U e1/\x.r[k]?=U H/\(e=.am\/e1=e):=by
  intro k e H P N;have hk:k<Y O.r:=(cj.1 N).1;have cx:k<Y x.r:=aa0 hk n.ext.lr;have cy:x.r[k]?=U H:=by
   have:=n.ext.agree.r k hk;simp only[ai.rv,dL,N,pZ] at this;rw[cL cx] at this⊢;simpa using this
  obtain⟨M,h3,h4⟩:=ama hR k e P;exact⟨M,h3,cy,h4⟩
 have b1:∀(q:Nat)(e:RK)(H:RV),Q.ks[q]?=U (.aj e)->u[q]?=U (.r H)->(∃B:Nat,(kW Q R)[q]?=U (.aj (.v B))/\R.rs[B]?=U e/\x.r[B]?=U H)\/(H=.mk (.slice Z 0 0) []/\∃t sh,e=.sl t\/e=.own t\/e=.mr sh):=by
  intro q e H P N;rw[<-bk,dX] at N;cases hw:(kW Q R)[q]? with
  |none=>rw[hw] at N;cases N
  |some w=>
   rw[hw] at N;simp only[eo,cS] at N;have bf:=bb q _ w P hw;unfold DH at bf;split at bf;rename_i af;cases af;rename_i af;cases af;rename_i M k af;cases af;simp only[C.xv,XV.r.injEq] at N;have b2:R.rs[k]?=U e:=by simpa using bf
   refine .inl ⟨k,rfl,b2, ?_⟩;rw[<-N];exact vM R1 b2;rename_i M af;cases af;simp only[C.xv,XV.r.injEq,RE.rv] at N;exact .inr ⟨N.symm,_,⟨0,0,0,E,E⟩,.inl rfl⟩;rename_i M af;cases af;simp only[C.xv,XV.r.injEq,RE.rv] at N;exact .inr ⟨N.symm,_,⟨0,0,0,E,E⟩,.inr (.inl rfl)⟩;rename_i M af;cases af;simp only[C.xv,XV.r.injEq,RE.rv] at N;exact .inr ⟨N.symm,0,_,.inr (.inr rfl)⟩;cases bf
 simp only[Iy,aA] at hO;obtain⟨cA,cB⟩:=hO;have b3:∀(q:Nat)(e:TypeId)(B:Nat),Q.ks[q]?=U (.aj (.own e))->(kW Q R)[q]?=U (.aj (.v B))->∀M,(jV Q s)[B]?=U M->M=.am:=by
  intro q e B P N M h3;have:=f9.1 cB B (Vt P N);simp only[jy,cz] at this;rcases this with h4|h4;have:=(cj.1 h3).1;omega;rw[h4] at h3;cases h3;rfl
 refine⟨⟨R1.mem.base, ?_, ?_, ?_, ?_⟩, ?_,l1,l2,l3, ?_, ?_, ?_, ?_⟩;intro i f;obtain⟨P,N⟩:=a3 i f;rw[D5 N];exact R1.mem.own i (n.mono i P);intro i j f hj;obtain⟨P,N⟩:=a3 i f;obtain⟨h3,h4⟩:=a3 j hj;rw[D5 N,D5 h4];exact R1.mem.inj i j (n.mono i P) (n.mono j h3);intro i t cs h;simp only[rP] at h;rw[PQ,jz] at h;cases L:cJ s.ao i with
 |none=>rw[L] at h;cases h
 |some X=>
  obtain⟨t0,lg⟩:=X;rw[L] at h;simp only[eo,cS,FH] at h;obtain⟨rfl,rfl⟩:=h;obtain⟨bg,b4,b5⟩:=acN hB i t0 lg L;rw[jz] at b5;obtain⟨cC,bl⟩:=al7 b5;have a4:i<Y s.ao:=(cj.1 (kA.1 L)).1;rw[D5 a4,R1.mem.box i t0 bg b4];congr 2;apply kK;intro j;rw[C.dN,C.dN,dX,dX,al5,jz];cases hx:lg[j]? with
  |none=>
   have:bg[j]?=none:=by
    rw[Dr] at hx⊢;omega
   simp[this]
  |some X=>
   obtain⟨y,hy⟩:∃y,bg[j]?=U y:=by
    have:j<Y lg:=(cj.1 hx).1;exact⟨bg[j],cL aa⟩
   rw[hy];simp only[eo,cS];cases hp:BX i j Q.cl ((({s with aC:=s.aC+1,rs:=jV Q s}:S).cK Q.ks).1.drop (Y Q.tm)) with
   |some v=>
    obtain⟨q,k,hq,hv⟩:=al2 hp;rw[vw] at hv;simp only[pZ];refine(cv (Y Q.tm+q) k v y ?_ ?_ hv).symm;simp[fU.ks,jd,hq];simp[kW,jd,hq,akd,b4,hy]
   |none=>
    have hn:=al3 (by rw[FE,bt,bx];omega) hp;rcases bl j X y hx hy with P|P;rw[jz] at P;rw[hn] at P;cases P;subst P;simp only[ajP];exact(ct X (xl (uv cc L) hx)).symm
 have br:=IZ (PP:=λe H=>bI W1 ty e H/\∀b,ee ty e H b->∀i,aW s.ao i=J->ad o i≠b) Q.ks u {s with aC:=s.aC+1,rs:=jV Q s} O al a0 ?_ ?_;intro k e H P N;obtain⟨h3,h4⟩:=br k e H P N;refine⟨h3,λb L i f=> ?_⟩;obtain⟨h5,h6⟩:=a3 i f;rw[D5 h6];exact h4 b L i h5
 
 intro q e H P N;rcases b1 q e H P N with⟨B,_,g2,G⟩|⟨rfl,t,sh,g⟩;have:=R1.mem.aj B e H g2 G;exact⟨this.1,λb L i f=>this.2 b L i (n.mono i f)⟩;have hn:∀b,¬ee ty (.sl t) (.mk (.slice Z 0 0) []) b:=λb L=>by
  cases L with
  |deep e v b6 i j ag c z k b g1=>simp at g1
 rcases g with rfl|rfl|rfl;exact⟨DZ Z 0,λb L=>(hn b L).elim⟩;refine⟨bI.own t _ (DZ Z 0) (λl c h=>by cases h;rfl),λb L=> ?_⟩;cases L with
 |own e H b L=>exact(hn b L).elim
 exact⟨bI.mr sh [] (λi ag h=>by simp at h) (λi j ag c k h=>by simp at h) (λi j ag c h=>by simp at h) (λi j ag c z k h=>by simp at h),λb L=>by cases L⟩;intro k e H P N;obtain⟨e1,g1,g2,G⟩:=b0 k e H P N;have:=R1.mem.aj k e1 H g1 g2;rcases G with rfl|rfl;exact⟨bI.am _ (Ly this.1),λb L=>by cases L⟩;exact⟨this.1,λb L i f=>this.2 b L i (n.mono i f)⟩;simp[rP,Vs];have:=n.len;rw[R1.gX];omega;have P:=R1.dO;rw[b8,n.ext.agree.y,<-LX u O] at P;simp only[rP];rw[acI];exact P;simp only[rP,al6];rw[R1.size,(acM hT).1];intro t sv h;simp only[rP] at h;rw[al4,jz] at h;cases hx:s.tmps[t]? with
 |none=>rw[hx] at h;cases h
 |some X=>
  rw[hx] at h;simp only[eo,cS] at h;obtain⟨cC,bl⟩:=acM hT;obtain⟨y,hy⟩:∃y,R.tmps[t]?=U y:=by
   have:t<Y s.tmps:=(cj.1 hx).1;exact⟨R.tmps[t],cL aa⟩
  cases hp:xf t Q.tm ((({s with aC:=s.aC+1,rs:=jV Q s}:S).cK Q.ks).1) with
  |some v=>
   rw[hp] at h;simp only[pZ] at h;subst h;obtain⟨q,k,hq,hv⟩:=al0 hp;have hc:=(cp q k v y (al8 hq) (al9 hq hy) hv);rcases R1.tmps t y hy with P|P;subst P;have:=bb q k .any (al8 hq) (al9 hq hy);rcases k with _|_|(_|_|_|_|_)<;>simp[DH] at this;right;rw[hc.1];exact P
  |none=>
   rw[hp] at h;simp only[ajP] at h;split at h;exact .inl h.symm;rename_i cD;subst h;have hn:=al1 (by rw[bt,bx];omega) hp;rcases bl t X y hx hy with P|P|P;rw[jz] at P;rw[hn] at P;cases P;rw[jz] at P;exact aG P cD;subst P;rcases R1.tmps t X hy with N|N;exact .inl N;right;rw[cn X (xl ca hx)];exact N
 intro k e H b P N h3;simp only[rP] at P;have br:∃B:Nat,R.rs[B]?=U (RK.own e)/\x.r[B]?=U H/\∀(F:Nat)(M:RK)(A:RV),F≠k->(rP Q r s).rs[F]?=U M->(O.ext u).r[F]?=U A->Ad ty M A b->∃ac:Nat,ac≠B/\R.rs[ac]?=U M/\x.r[ac]?=U A:=by
  have other:∀(F:Nat)(M:RK)(A:RV),(rP Q r s).rs[F]?=U M->(O.ext u).r[F]?=U A->Ad ty M A b->
    ((jV Q s)[F]?=U M/\R.rs[F]?=U M/\x.r[F]?=U A)\/∃q ac:Nat,Q.ks[q]?=U (.aj M)/\(kW Q R)[q]?=U (.aj (.v ac))/\R.rs[ac]?=U M/\x.r[ac]?=U A/\F=(jV Q s).length+F9 (Q.ks.take q):=by
   intro F M A g1 g2 G;rcases LY Q.ks u {s with aC:=s.aC+1,rs:=jV Q s} O al a0 F M A g1 g2 with⟨p1,p2⟩|⟨q,p1,p2,p3⟩;obtain⟨e1,q1,q2,q3⟩:=b0 F M A p1 p2;rcases q3 with rfl|rfl;rcases G with G|⟨⟨t,ht⟩,_⟩;cases G;cases ht;exact .inl ⟨p1,q1,q2⟩;rcases b1 q M A p1 p2 with⟨B,q1,q2,q3⟩|⟨rfl,t,sh,q⟩;exact .inr ⟨q,B,p1,q1,q2,q3,p3⟩;exfalso;rcases G with G|⟨_,G⟩;rcases q with rfl|rfl|rfl;cases G with
   |deep e v b6 i j ag c z k b g1=>simp at g1
   cases G with
   |own e H b G=>cases G with
    |deep e v b6 i j ag c z k b g1=>simp at g1
   cases G;simp[RV.lE] at G
  rcases other k (.own e) H P N (.inr ⟨⟨e,rfl⟩,h3⟩) with⟨p1,p2,p3⟩|⟨q,B,p1,p2,p3,p4,p5⟩;refine⟨k,p2,p3,λF M A g0 g1 g2 G=> ?_⟩;rcases other F M A g1 g2 G with⟨r1,r2,r3⟩|⟨q',ac,r1,r2,r3,r4,r5⟩;exact⟨F,g0,r2,r3⟩;refine⟨ac,λa9=> ?_,r3,r4⟩;subst a9;rw[p2] at r3;cases r3;have:=b3 q' e ac r1 r2 _ p1;cases this;refine⟨B,p3,p4,λF M A g0 g1 g2 G=> ?_⟩;rcases other F M A g1 g2 G with⟨r1,r2,r3⟩|⟨q',ac,r1,r2,r3,r4,r5⟩;refine⟨F,λa9=> ?_,r2,r3⟩;subst a9;rw[p3] at r2;cases r2;have:=b3 q e F p1 p2 _ r1;cases this;refine⟨ac,λa9=> ?_,r3,r4⟩;subst a9;rw[p3] at r3;cases r3;by_cases b7:q=q';subst b7;exact g0 (by rw[r5,p5]);exact amc cA p1 p2 r1 r2 b7 rfl
 obtain⟨B,g1,g2,G⟩:=br;have t:=R1.gH B e H b g1 g2 h3;refine⟨t.own,t.mem,λi f=> ?_,λF M A q1 q2 q3 q4=> ?_,t.inner⟩;obtain⟨h5,h6⟩:=a3 i f;rw[D5 h6];exact t.box i (n.mono i h5);obtain⟨ac,r1,r2,r3⟩:=G F M A q1 q2 q3 q4;exact t.alone ac M A r1 r2 r3 q4
end
structure mq(p:Sp)(f:bL):Prop where
 pt:p.ty=f.ty
 mix:p.P.follows .mixedOrders=J
 mN:jW p.P f.ty
 BR:LW p.P f
 D6:∀g,(f.sig g).isSome=J\/(f.inl g).isSome=J->∀args W,(callFunc g args).run p.P W=.ok (.enter g args) W
 Vv:∀ch W b o,p.w0.heap.size<=b->p.R (.panicked ch) W->p.R (.panicked ch) (W.putObj b o)
 inl:∀g c nt rs,f.inl g=U (c,nt,rs)->∃fn,p.P.funcs[g]?=U fn/\fn.body=U c/\fn.ntmps=nt/\fn.results.toList=rs
section
variable{p:Sp}{f:bL}
def aE.amd{m:World}{D:cF}{V:aq}{a:Act}{W:World}(Q:aE r m D f.ty V x R a W){b:BE}(N:R.tmps.getD X .any=.bool b)(L:b.ab x=e):
  aE r m D f.ty V x {R with tmps:=R.tmps.set X (.bool (.c e))} a W:=by
 refine⟨Q.mem,Q.gX,Q.ei,Q.eb,Q.er,Q.dO,by simpa using Q.size,λi H h=> ?_,Q.gH⟩;simp only[wU] at h;split at h;rename_i G;subst G;split at h;rename_i M;cases h;have F:R.tmps[X]?=U (.bool b):=by
  rw[dL,cL M] at N;rw[cL M];simpa using N
 rcases Q.tmps X _ F with P|P;cases P;right;rw[P];simp[C.ab,BE.ab,L];cases h;exact Q.tmps i H h
end
mutual
def K.eJ{R Q P N M H:Nat}(X:R<=N)(W:Q<=M)(V:P<=H):∀(e:K),e.bd R Q P=J->e.bd N M H=J
 |.c n,_=>K.bm.1 _
 |.v k,h=>by simp[K.bm] at h⊢;omega
 |.bin o k a b,h=>by simp[K.bm] at h⊢;exact⟨K.eJ X W V a h.1,K.eJ X W V b h.2⟩
 |.conv k a,h=>by simp[K.bm] at h⊢;exact K.eJ X W V a h
 |.len r,h=>by simp[K.bm] at h⊢;exact RE.eJ X W V r h
 |.mm m a b,h=>by simp[K.bm] at h⊢;exact⟨K.eJ X W V a h.1,K.eJ X W V b h.2⟩
 |.dV b x y,h=>by simp[K.bm] at h⊢;exact⟨⟨BE.eJ X W V b h.1.1,K.eJ X W V x h.1.2⟩,K.eJ X W V y h.2⟩
 |.cell r i j,h=>by simp[K.bm] at h⊢;exact⟨RE.eJ X W V r h.1,K.eJ X W V i h.2⟩
 |.nX r i,h=>by simp[K.bm] at h⊢;exact⟨RE.eJ X W V r h.1,K.eJ X W V i h.2⟩
 |.look r n a b c j,h=>by simp[K.bm] at h⊢;exact⟨⟨⟨RE.eJ X W V r h.1.1.1,K.eJ X W V a h.1.1.2⟩,K.eJ X W V b h.1.2⟩,K.eJ X W V c h.2⟩
def BE.eJ{R Q P N M H:Nat}(X:R<=N)(W:Q<=M)(V:P<=H):∀(e:BE),e.bd R Q P=J->e.bd N M H=J
 |.c n,_=>BE.bm.1 _
 |.v k,h=>by simp[BE.bm] at h⊢;omega
 |.cmp o a b,h=>by simp[BE.bm] at h⊢;exact⟨K.eJ X W V a h.1,K.eJ X W V b h.2⟩
 |.not a,h=>by simp[BE.bm] at h⊢;exact BE.eJ X W V a h
 |.and a b,h=>by simp[BE.bm] at h⊢;exact⟨BE.eJ X W V a h.1,BE.eJ X W V b h.2⟩
 |.beq a b,h=>by simp[BE.bm] at h⊢;exact⟨BE.eJ X W V a h.1,BE.eJ X W V b h.2⟩
 |.dV b x y,h=>by simp[BE.bm] at h⊢;exact⟨⟨BE.eJ X W V b h.1.1,BE.eJ X W V x h.1.2⟩,BE.eJ X W V y h.2⟩
 |.cell r i j,h=>by simp[BE.bm] at h⊢;exact⟨RE.eJ X W V r h.1,K.eJ X W V i h.2⟩
 |.seq a b,h=>by simp[BE.bm] at h⊢;exact⟨RE.eJ X W V a h.1,RE.eJ X W V b h.2⟩
 |.look r n a b c j,h=>by simp[BE.bm] at h⊢;exact⟨⟨⟨RE.eJ X W V r h.1.1.1,K.eJ X W V a h.1.1.2⟩,K.eJ X W V b h.1.2⟩,K.eJ X W V c h.2⟩
 |.has r n a b c,h=>by simp[BE.bm] at h⊢;exact⟨⟨⟨RE.eJ X W V r h.1.1.1,K.eJ X W V a h.1.1.2⟩,K.eJ X W V b h.1.2⟩,K.eJ X W V c h.2⟩
def RE.eJ{X W V R Q P:Nat}(N:X<=R)(M:W<=Q)(H:V<=P):∀(e:RE),e.bd X W V=J->e.bd R Q P=J
 |.v k,h=>by simp[RE.bm] at h⊢;omega
 |.cell r i j k,h=>by simp[RE.bm] at h⊢;exact⟨RE.eJ N M H r h.1,K.eJ N M H i h.2⟩
 |.k v,_=>RE.bm.2.2 _
end
def Vw{ty:Ty}{s R:S}:∀{r:RE}{e:RK},(∀(k:Nat)(e:RK),r.root=U k->s.rs[k]?=U e->∃X,R.rs[k]?=U X/\X.rd=e.rd)->e≠ .aS->r.kind ty s=e->r.kind ty R=e
 |.v k,e,cG,W,h=>by
  simp only[RE.kind,dL] at h⊢;cases V:s.rs[k]? with
  |none=>rw[V] at h;exact aG (show e=.aS from h.symm) W
  |some q=>
   rw[V] at h;obtain⟨X,Q,P⟩:=cG k q rfl V;rw[Q];simp only[pZ] at h⊢;rw[P];exact h
 |.cell r i j M,e,cG,W,h=>by
  simp only[RE.kind] at h⊢;split at h;rename_i X N;rw[Vw (r:=r) cG aw N];exact h;exact aG h.symm W
 |.k v,e,cG,W,h=>by cases v<;>exact h
def D7{ty:Ty}{s s':S}(h:s.rs=s'.rs):∀r:RE,r.kind ty s=r.kind ty s'
 |.v k=>by simp only[RE.kind,h]
 |.cell r i j k=>by simp only[RE.kind,D7 h r]
 |.k v=>by cases v<;>rfl
def Cg(ty:Ty)(s X:S):Prop:=∀(r:RE)(e:RK),e≠ .aS->r.kind ty s=e->r.kind ty X=e
def Cg.Ao{ty:Ty}{X:S}(h:X.rs=R.rs):Cg ty R X:=λr e _ W=>by rw[D7 h];exact W
def ay1{ty:Ty}{X:S}(cG:Cg ty R X){c:CT}{y:C}{e:BE}(h:KU ty R c t y=U e):KU ty X c t y=U e:=by
 unfold KU at h⊢;split at h;exact h;exact h;split at h;rename_i W;rw[aL ⟨cG _ _ aw W.1,cG _ _ aw W.2⟩];exact h;cases h;cases h
def ame{ty:Ty}{s W:S}(cG:Cg ty s W):∀{X:fp}{x y:ap}{e:BE},sL ty s X x y=U e->sL ty W X x y=U e
 |[],[],[],e,h=>h
 |c::X,x::Q,y::P,e,h=>by
  simp only[sL] at h⊢;split at h;rename_i a b V R;rw[ay1 cG V,ame cG R];exact h;cases h
 |[],[],_::_,e,h=>by simp[sL] at h
 |[],_::_,_,e,h=>by simp[sL] at h
 |_::_,[],_,e,h=>by simp[sL] at h
 |_::_,_::_,[],e,h=>by simp[sL] at h
def amf{ty:Ty}{X:S}(cG:Cg ty R X){W:gV}{y:ap}{e:BE}(h:KV ty R W b y=U e):KV ty X W b y=U e:=by
 unfold KV at h⊢;split at h;exact ame cG h;cases h
section
variable{ty:Ty}{F:nD}{O:ai}
def Vx{P:S}{G:Op}{r:PR}(W:∀x∈G.operands.toList,P.ev F x=R.ev F x)(N:looks G=J->BZ G=E->Cg ty R P)
  (af:∀t x r w i z,G=.load t x->R.ev F x=.el r w i z->∀e,e≠ .aS->r.kind ty R=e->r.kind ty P=e)
  (o:∀i,BO F R G=U i->cJ P.ao i=cJ R.ao i)(h:cw ty F R G=r)(V:∀w,r≠ .no w):cw ty F P G=r:=by
 cases G with
 |move x=>have X:=W x cQ;simp only[cw] at h⊢;rw[X];exact h
 |assign x=>have X:=W x cQ;simp only[cw] at h⊢;rw[X];exact h
 |pick c x y=>
  have X:=W c cQ;have M:=W x cQ;have l:=W y cQ;simp only[cw] at h⊢;rw[X,M,l];exact h
 |load t x=>
  have X:=W x cQ;simp only[cw] at h⊢;rw[X];split at h;rename_i ti i z D H;rw[Po (o i (by simp only[BO,H]))];exact h;rename_i ti r w i z D H;split at h;rename_i e Q;rw[af t x r w i z rfl H _ aw Q];exact h;exact aG h.symm (V _);rename_i ti e ks j D H;have B:((zX j).bind λi=>mg P.ao i)=(zX j).bind λi=>mg R.ao i:=by
   cases hl:zX j with
   |none=>rfl
   |some i=>exact Po (o i (by simp only[BO,H];exact hl))
  rw[B];exact h;exact aG h.symm (V _)
 |fieldAddr t x f=>have X:=W x cQ;simp only[cw] at h⊢;rw[X];exact h
 |field t x f=>have X:=W x cQ;simp only[cw] at h⊢;rw[X];exact h
 |indexAddr t x y=>
  have X:=W x cQ;have M:=W y cQ;simp only[cw] at h⊢;rw[X,M];split at h;exact h;exact h;exact h;split at h;rename_i D Q;rw[(N rfl rfl) _ _ aw Q,D];exact h;exact aG h.symm (V _);exact h;exact h;exact aG h.symm (V _)
 |index t x y=>
  have X:=W x cQ;have M:=W y cQ;simp only[cw] at h⊢;rw[X,M];split at h;exact h;exact h;split at h;rename_i Q;rw[(N rfl rfl) _ _ aw Q];exact h;exact aG h.symm (V _);exact aG h.symm (V _)
 |binOp G t x y t2=>
  have X:=W x cQ;have M:=W y cQ;simp only[cw] at h⊢;rw[X,M];split at h;exact h;exact h;exact h;split at h;rename_i v A;simp only[(N rfl rfl) _ _ aw v,(N rfl rfl) _ _ aw A];exact h;rename_i v A;simp only[(N rfl rfl) _ _ aw v,(N rfl rfl) _ _ aw A];exact h;exact aG h.symm (V _);exact h;exact h;split at h;rename_i e Q;rw[amf (N rfl rfl) Q];exact h;rename_i e Q;rw[amf (N rfl rfl) Q];exact h;exact aG h.symm (V _);exact aG h.symm (V _)
 |unOp G t x=>have X:=W x cQ;simp only[cw] at h⊢;rw[X];exact h
 |convert t1 t2 x=>have X:=W x cQ;simp only[cw] at h⊢;rw[X];exact h
 |makeInterface t x=>have X:=W x cQ;simp only[cw] at h⊢;rw[X];exact h
 |makeFunc fn first ac=>
  have X:ac.toList.map (P.ev F)=ac.toList.map (R.ev F):=kJ λx H=>W x (by simp[iY];exact .inr (by simpa using H))
  simp only[cw] at h⊢;rw[X];exact h
 |extract x i=>have X:=W x cQ;simp only[cw] at h⊢;rw[X];exact h
 |nilCheck x=>have X:=W x cQ;simp only[cw] at h⊢;rw[X];exact h
 |slice t x g hi mx=>
  have X:=W x cQ;have M:g.map (P.ev F)=g.map (R.ev F):=by
   cases g with
   |none=>rfl
   |some y=>simp only[eo];rw[W y cQ]
  have l:hi.map (P.ev F)=hi.map (R.ev F):=by
   cases hi with
   |none=>rfl
   |some y=>simp only[eo];rw[W y cQ]
  simp only[cw] at h⊢;rw[X,M,l];exact h
 |build t parts=>
  have X:(parts.toList.map λp=>(p.1,P.ev F p.2))=parts.toList.map λp=>(p.1,R.ev F p.2):=kJ λp hp=>by rw[W p.2 (by simp[iY];exact⟨p.1,by simpa using hp⟩)]
  simp only[cw] at h⊢;rw[X];exact h
 |lookup t x ix ok=>
  have X:=W x cQ;have M:=W ix cQ;simp only[cw] at h⊢;rw[X,M];split at h;rename_i k e n ag ak q i D H;have A:=o i (by simp only[BO,H]);unfold Ui at h⊢;rw[A];split at h;rename_i te a b c bt cs g1 g2 g3;split at h;exact aG h.symm (V _);rename_i al;rw[aP al];split at h;rename_i hd;rw[aL hd];split at h;rename_i r nk ka va;split at h;rename_i u;have:r.rK ty P ⟨k,e,n,ag,te.d.isAgg⟩=true:=by
   simp only[aA] at u;have h6:=u.1.1.1.1.1;unfold RE.rK at h6⊢;rcases aw3.1 h6 with h7|h7;rw[decide_eq_true ((N rfl rfl) r _ aw (wX h7))];rfl;rw[h7];simp
  simp only[aA] at u;simp only[this,u,wW,cN];exact h;exact aG h.symm (V _);exact aG h.symm (V _);rename_i hd;rw[aP hd];exact h;exact aG h.symm (V _);exact aG h.symm (V _)
 |call c=>
  have X:c.args.toList.map (P.ev F)=c.args.toList.map (R.ev F):=kJ λx H=>W x (by simp[iY,BH];exact .inr (by simpa using H))
  cases B:c.callee with
  |builtin b=>
   cases b with
   |len=>
    simp only[cw,B] at h⊢;rw[X];split at h;exact h;rename_i t r an v A;split at h;rename_i D Q;simp only[(N rfl rfl) _ _ aw Q,D];exact h;rename_i D Q;simp only[(N rfl rfl) _ _ aw Q,D];exact h;exact aG h.symm (V _);exact h;exact aG h.symm (V _)
   |min=>simp only[cw,B] at h⊢;rw[X];exact h
   |max=>simp only[cw,B] at h⊢;rw[X];exact h
   |_=>simp only[cw,B] at h;exact aG h.symm (V _)
  |value f=>simp only[cw,B] at h;exact aG h.symm (V _)
  |invoke r m=>simp only[cw,B] at h;exact aG h.symm (V _)
 |_=>simp only[cw] at h;exact aG h.symm (V _)
end
def PR.Ap(s:S)(O:ai)(v:C):PR->Prop
 |.ok x=>v=x
 |.bA b x=>b.ab O=J/\b.bd s.ni s.nb (Y s.rs)=J/\v=x
 |_=>False
def Vy{r:PR}(h:r.Ap R x t):r.gives x t:=by
 cases r with
 |ok X=>exact h
 |bA b X=>exact⟨h.1,h.2.2⟩
 |no w=>exact h
def iH(B:dU)(m:OM)(s:S)(O:ai):Option Bool:=match m.o.guard with
 |none=>U J
 |U (j,X)=>match(B[j]?).bind (·.dst) with
  |U d=>match s.tmps[d]? with
   |U (.bool b)=>if b.bd s.ni s.nb (Y s.rs) then U (b.ab O==X) else Z
   |U (.b9 [])=>U E
   |_=>Z
  |none=>Z
def QV(u:bL)(B:dU)(O:ai)(m:OM)(s:S)(v:C)(l:Nat):Prop:=
 (iH B m s O=U E/\v=.b9 []/\l=0)\/
 (iH B m s O=U J/\(∀x∈m.o.op.operands.toList,(s.ev u.gl x).fk=E)/\match m.o.op with
  |.pick c x y=>∃e:BE,s.ev u.gl c=.bool e/\e.bd s.ni s.nb (Y s.rs)=J/\v=(if e.ab O then s.ev u.gl x else s.ev u.gl y)/\l=0
  |.load t x=>(cw u.ty u.gl s (.load t x)).Ap s O v/\l=OW m.bP (s.ev u.gl x)
  |op=>(cw u.ty u.gl s op).Ap s O v/\l=0)
def OR.I0(s:S)(O:ai)(X:S):OR->Prop
 |.ok x=>X=x
 |.bA b x=>b.ab O=J/\b.bd s.ni s.nb (Y s.rs)=J/\X=x
 |.split b W V=>b.bd s.ni s.nb (Y s.rs)=J/\X=if b.ab O then W else V
 |.no _=>False
def ju(u:bL)(m:OM)(s:S)(O:ai)(X:S):Prop:=(gN u m s).I0 s O X
def LZ{u:bL}{m:OM}{s X:S}{O:ai}(h:ju u m s O X):(gN u m s).gives O X:=by
 unfold ju at h;cases W:gN u m s<;>rw[W] at h;exact h;exact⟨h.1,h.2.2⟩;exact h.2;exact h
def amg{Q:S}{d:cH}{r:PR}:(uj R d X r).I0 R x Q<->∃v,r.Ap R x v/\Q=R.dv d v X:=by
 cases r with
 |ok v=>exact⟨λh=>⟨v,rfl,h⟩,λ⟨w,W,V⟩=>by cases W;exact V⟩
 |bA b v=>
  simp only[uj];split;rename_i P;exact⟨λh=>⟨v,⟨h.1,h.2.1,rfl⟩,h.2.2⟩,λ⟨w,⟨W,V,N⟩,M⟩=>⟨W,V,by rw[M,N]⟩⟩;rename_i P;exact⟨λh=>h.elim,λ⟨w,⟨W,V,N⟩,M⟩=>aG V P⟩
 |no w=>exact⟨λh=>h.elim,λ⟨w,W,V⟩=>W.elim⟩
def L4(p:Sp)(u:bL)(s:S)(O:ai)(g:FuncId)(N:ap)(X:ai->C->S->Prop):Prop:=
 ∃G Q l,u.sig g=U G/\jp u.ty G=U Q/\BS u.ty G ((s.cut N Q).cK Q).1=U l/\(s.fz N&&qQ Q)=J/\
  ∀V W,ld p.S0 p.w0 V O (w8 (sM (C.p7 N) 0 s.ao)) p.ty (O7 N s.rs) W->Calls p.P g (C.aK O V N).toArray W λ
   |.returned v,M=>∃H,fq Q H/\v=(one l).ab (O.ext H) V/\Below W.heap.size W M/\Ls p.ty M W.heap.size (O.qS p.ty (O7 N s.rs)) Q H/\X (O.ext H) (one l) ((s.cut N Q).cK Q).2
   |.panicked F,M=>Below W.heap.size W M/\p.R (.panicked F) M
   |.outgrown,_=>False
def uA(o:Option BI)(f:BI->Prop)(g:Prop):Prop:=match o with
 |U b=>f b
 |none=>g
def qW(o:Option (C×bK))(f:C->bK->Prop)(g:Prop):Prop:=match o with
 |U (v,X)=>f v X
 |none=>g
def eP(p:Sp)(u:bL)(B:dU)(A:yF)(X:ai->S->Prop)(W:ai->C->S->Prop)(V:OM->cU->ai->S->Nat->ap->Prop):cU->ai->S->Prop
 |[],O,s=>X O s
 |m::R,O,s=>
  (iH B m s O=U E/\eP p u B A X W V R O (s.put m.o.dst (.b9 [])))\/
  (iH B m s O=U J/\match eN u s m.o with
   |.call (.fn g) Q=>qW (A g Q s) (λv M=>s.bd=J/\eP p u B A X W V R O ((s.plus M).put m.o.dst v)) (L4 p u s O g Q λH v P=>eP p u B A X W V R H (P.put m.o.dst v))
   |.call (.yl n) Q=>m.so=J/\V m R O s n Q
   |.bD v=>W O v s
   |.no=>False
   |.op=>uA (eY u m.o m.bP m.dr s) (λb=>b.bA.ab O=J/\∀N,IN p.ty p.S0 p.w0 b.e b.x s.rs O N->eP p u B A X W V R (O.add (.r N)) b.s) (∃P,ju u m s O P/\eP p u B A X W V R O P))
def Ch(s:S)(O:ai)(X:Fx):Prop:=∀x∈X,x.1.ab O=x.2/\x.1.bd s.ni s.nb (Y s.rs)=J
def acP{p:Sp}{L:dP}{V:Fx}{b:BE}{t f:Fx->T}(P:Ch R x V)(h:(DE R V b t f).ba p x L):
  b.bd R.ni R.nb (Y R.rs)=J/\∃M,Ch R x M/\(if b.ab x then(t M).ba p x L else(f M).ba p x L):=by
 have G:vN x V:=λX N=>(P X N).1
 have cT:∀v,OX V b=U v->b.bd R.ni R.nb (Y R.rs)=true:=by
  intro v W;unfold OX at W;split at W;exact BE.bm.1 _;cases H:V.find? (λX=>X.1.aU b) with
  |none=>rw[H] at W;cases W
  |some X=>
   have B:=aa7 H;rw[<-BE.bZ _ _ B];exact(P X (aaU H)).2
 unfold DE at h;split at h;rename_i W;exact⟨cT _ W,V,P,by rw[Vc G W];exact h⟩;rename_i W;exact⟨cT _ W,V,P,by rw[Vc G W];exact h⟩;split at h;rename_i F;simp only[T.ba] at h;refine⟨F, ?_⟩;have D:∀v,b.ab x=v->Ch R x ((b,v)::V):=λv Q X N=>by
  rcases dS.1 N with rfl|N;exact⟨Q,F⟩;exact P X N
 cases Q:b.ab x;exact⟨_,D _ Q,by simpa using h.2 Q⟩;exact⟨_,D _ Q,by simpa using h.1 Q⟩;exact h.elim
section
variable{p:Sp}{u:bL}{B:dU}{A:yF}{L:dP}{H:YH}{k:S->T}{D:C->S->T}
def gr(s:S)(d:cH)(v:C):(s.put d v).ni=s.ni/\(s.put d v).nb=s.nb/\(s.put d v).rs=s.rs:=by cases d<;>exact⟨rfl,rfl,rfl⟩
def amh{m:OM}{s X:S}{O:ai}(h:(gN u m s).gives O X):X.ni=s.ni/\X.nb=s.nb/\X.rs=s.rs:=by
 unfold gN at h;split at h;exact h.elim;split at h;split at h;split at h;cases h;exact gr _ _ _;exact h.elim;exact h.elim;split at h;split at h;cases h;exact gr _ _ _;exact h.elim;exact h.elim;split at h;split at h;split at h;split at h;cases h;exact gr _ _ _;exact h.elim;exact h.elim;exact h.elim;exact h.elim;split at h;split at h;split at h;cases h;exact gr _ _ _;exact h.elim;exact h.elim;exact h.elim;split at h;simp only[OR.gives] at h;split at h<;>(subst h;exact gr _ _ _);exact h.elim;obtain⟨v,-,rfl⟩:=Cd h;exact gr _ _ _;obtain⟨v,-,rfl⟩:=Cd h;exact gr _ _ _
def PS{d:cH}{bA:BE}{k:RK}{x:LE}{dj:aq}{b:BI}(h:kM R d bA v k x r dj=U b):b.s.ni=R.ni/\b.s.nb=R.nb/\Y b.s.rs=Y R.rs+1:=by
 obtain⟨-,-,rfl⟩:=Aj h;refine⟨(gr _ _ _).1,(gr _ _ _).2.1, ?_⟩;simp only;rw[(gr _ _ _).2.2];simp[Cb,Ca]
def ami{W:Bool}{b:BI}(h:eY u l e W R=U b):b.s.ni=R.ni/\b.s.nb=R.nb/\Y b.s.rs=Y R.rs+1:=by
 unfold eY at h;split at h;split at h;split at h;split at h;split at h;split at h;cases h;split at h;exact PS h;cases h;cases h;cases h;cases h;cases h;split at h;split at h;split at h;exact PS h;cases h;cases h;cases h;split at h;cases h;split at h;split at h;split at h;split at h;exact PS h;cases h;cases h;cases h;cases h;split at h;cases h
 ·split at h
  all_goals first
   |cases h
   |(split at h
     split at h;exact PS h;cases h;cases h)
 split at h;cases h;split at h;split at h;split at h;split at h;cases X:kM R Z (w7 _ (.len (.v _))) _ (.own _) _ [_] _ with
 |none=>rw[X] at h;cases h
 |some N=>
  rw[X] at h;simp only[eo,cS] at h;subst h;obtain⟨V,Q,P⟩:=PS X;refine⟨?_, ?_, ?_⟩;simp only;rw[(gr _ _ _).1];exact V;simp only;rw[(gr _ _ _).2.1];exact Q;simp only;rw[(gr _ _ _).2.2];exact P
 cases h;cases h;cases h;cases h;cases h
def amj{W:S}{d:cH}{r:PR}{b:BE}(h:uj R d X r=.bA b W):b.bd R.ni R.nb (Y R.rs)=true:=by
 cases r with
 |ok v=>cases h
 |bA Q v=>
  simp only[uj] at h;split at h;rename_i V;cases h;exact V;cases h
 |no w=>cases h
def ay2{m:OM}{s X:S}{b:BE}(h:gN u m s=.bA b X):b.bd s.ni s.nb (Y s.rs)=true:=by
 unfold gN at h;split at h;cases h;split at h
 ·(repeat' split at h)<;>cases h
 ·(repeat' split at h)<;>cases h
 ·(repeat' split at h)<;>cases h
 ·(repeat' split at h)<;>cases h
 ·(repeat' split at h)<;>cases h
 exact amj h;exact amj h
structure Gb(B:dU)(A:yF):Prop where
 q:∀(g:FuncId)(args:ap)(s:S)(d:cH)(v:C)(l:Nat),A g args (s.dv d v l)=A g args s
 z:∀(g:FuncId)(s:S)(n:Nat)(t:TypeId)(cs:ap)(d:cH)(w:C),gG s.ao n=J->A g [] ((s.dl n t cs).put d w)=A g [] s
 reg:∀(g:FuncId)(args:ap)(s:S)(r:C×bK),A g args s=U r->Uz B=J
def amk{W:bK}(h:aW R.ao X=J):cJ (R.plus W).ao X=cJ R.ao X:=by
 obtain⟨b,V⟩:=lB.1 h;have Q:=(cj.1 (kA.1 V)).1;simp only[dC,S.plus,dZ Q]
def aml{W:bK}(h:gG R.ao X=J):gG (R.plus W).ao X=true:=by
 have V:=(nM h).2;simp only[gG,S.plus,dZ V] at h⊢;exact h
def acR{g:Iq}(h:eN u R l=.call g b):Ab l.op=true:=by
 unfold eN at h;split at h;split at h<;>cases h
 ·rename_i c V;rw[V];cases W:c.callee with
  |value f=>simp[Ab,W]
  |invoke r m=>rw[W] at h;cases h
  |builtin X=>
   rw[W] at h;exfalso;revert h;cases X<;>simp only
   all_goals first
    |(intro h;cases h;done)
    |(split<;>intro h<;>first|(cases h;done)|(split at h<;>cases h))
 cases h
def amm{g:FuncId}(X:K7 l.op=J)(h:eN u R l=.call (.fn g) b):b=[]:=by
 unfold K7 at X;split at X;rename_i c W;split at X;rename_i f V;have Q:c.args.toList=[]:=by simpa using X
 simp only[eN,W,V,S.ev,yw,Q,List.any_nil,jR,gD,Dv,di,CK.call.injEq,Iq.fn.injEq] at h;exact h.2.symm;cases X;cases X
def Gc(p:Sp)(k:S->T)(L:dP)(O:ai)(s:S):Prop:=(k s).ba p O L
def D8(p:Sp)(D:C->S->T)(L:dP)(O:ai)(v:C)(s:S):Prop:=(D v s).ba p O L
def D9(p:Sp)(u:bL)(B:dU)(A:yF)(H:YH)(k:S->T)(D:C->S->T)(L:dP)(m:OM)(X:cU)(O:ai)(s:S)(n:Nat)(V:ap):Prop:=
 (∀R∈X,R.dr=J)/\∃W,Ch s O W/\(Ac u A H (.yl n) V s (λv Q=>oF u (Ac u A H) B k D X (Q.put m.o.dst v) (qa s W)) D).ba p O L
def I1(a3:p.ty=u.ty):∀(l:cU)(s:S)(fx:Fx)(O:ai),Y O.i=s.ni->Y O.b=s.nb->Y O.r=Y s.rs->(oF u (Ac u A H) B k D l s fx).ba p O L->Ch s O fx->
  (∀m∈l,m.dr=J)->eP p u B A (Gc p k L) (D8 p D L) (D9 p u B A H k D L) l O s
 |[],s,fx,O,_,_,_,h,_,_=>h
 |m::Q,s,fx,O,a,e2,e3,h,a9,bx=>by
  have bf:m.dr=true:=bx m aw;have a0:∀m∈Q,m.dr=true:=λm' b2=>bx m' (by simp[b2])
  have b3:BU u m s=none:=by simp[BU,bf]
  have b4:DF u m s=none:=by simp[DF,bf]
  have b5:∀c f,BT u m s c f=none:=λc f=>by simp[BT,bf]
  have bg:∀(s:S)(d:cH)(v:C),(s.put d v).ni=s.ni/\(s.put d v).nb=s.nb/\(s.put d v).rs=s.rs:=λs d v=>by cases d<;>exact⟨rfl,rfl,rfl⟩
  have b0:∀(X:S)(P:Fx),X.ni=s.ni->X.nb=s.nb->X.rs=s.rs->Ch s O P->Ch X O P:=λX P h1 N h3 hf x hx=>by rw[h1,N,h3];exact hf x hx
  have bk:∀P,Ch s O P->(BW u (Ac u A H) m s (oF u (Ac u A H) B k D Q) D P).ba p O L->
    (match eN u s m.o with
     |.call (.fn g) w=>qW (A g w s) (λv ex=>s.bd=J/\eP p u B A (Gc p k L) (D8 p D L) (D9 p u B A H k D L) Q O ((s.plus ex).put m.o.dst v)) (L4 p u s O g w λO' v X=>eP p u B A (Gc p k L) (D8 p D L) (D9 p u B A H k D L) Q O' (X.put m.o.dst v))
     |.call (.yl n) w=>m.so=J/\D9 p u B A H k D L m Q O s n w
     |.bD v=>D8 p D L O v s
     |.no=>False
     |.op=>uA (eY u m.o m.bP m.dr s) (λb=>b.bA.ab O=J/\∀rv,IN p.ty p.S0 p.w0 b.e b.x s.rs O rv->eP p u B A (Gc p k L) (D8 p D L) (D9 p u B A H k D L) Q (O.add (.r rv)) b.s)
      (∃X,ju u m s O X/\eP p u B A (Gc p k L) (D8 p D L) (D9 p u B A H k D L) Q O X):Prop):=by
   intro P al h;unfold BW at h;rw[b3] at h;simp only[b4,b5] at h;cases hc:eN u s m.o with
   |call g0 w=>
    rw[hc] at h;cases g0 with
    |yl n=>
     simp only at h⊢;split at h;rename_i b6;exact⟨b6,a0,P,al,h⟩;exact h.elim
    |fn g=>
    simp only[Ac] at h;simp only;cases b1:A g w s with
    |some ve=>
     obtain⟨v,ex⟩:=ve;rw[b1] at h;simp only at h;split at h;rename_i M;refine⟨M, ?_⟩;obtain⟨G,F,z⟩:=bg (s.plus ex) m.o.dst v;refine I1 a3 Q _ _ O (by rw[G];exact a) (by rw[F];exact e2) (by rw[z];exact e3) h (λx hx=> ?_) a0;rw[G,F,z];exact al x (qK.1 hx).1;exact h.elim
    |none=>
    rw[b1] at h;simp only[z8] at h;simp only[qW];split at h;rename_i ts b7;split at h;rename_i ks b8;split at h;rename_i l hl;split at h;rename_i M;refine⟨ts,ks,l,b7,b8,hl,M,λV W R=> ?_⟩;simp only[T.ba] at h;refine(h O.y V W R).mono ?_;intro e W' he;cases e with
    |returned v=>
     obtain⟨xs,h1,N,h3,h4,h5⟩:=he;have hy:(O.ext xs).at O.y=O.ext xs:=by have:=LX xs O;unfold ai.at;rw[<-this]
     rw[hy] at N;refine⟨xs,h1,N,h3,h4, ?_⟩;obtain⟨l1,l2,l3⟩:=An ks xs (s.cut w ks) O h1 a e2 (e3.trans (Ga w ks s.rs).len.symm);have a1:=bg ((s.cut w ks).cK ks).2 m.o.dst (one l);refine I1 a3 Q _ _ _ (by rw[a1.1];exact l1) (by rw[a1.2.1];exact l2) (by rw[a1.2.2];exact l3) h5 ?_ a0;intro x hx;obtain⟨bl,ca⟩:=qK.1 hx;obtain⟨t,cT⟩:=al x bl;have cc:=F0 xs O;have br:=UX xs O;refine⟨by rw[BE.ep cc _ (by rw[a,e2,e3];exact cT)];exact t, ?_⟩;rw[a1.1,a1.2.1,a1.2.2,<-l1,<-l2,<-l3];exact BE.eJ (by rw[<-a];exact br.1) (by rw[<-e2];exact br.2.1) (by rw[<-e3];exact br.2.2) _ cT
    |panicked ch=>exact he
    |outgrown=>exact he
    exact h.elim;exact h.elim;exact h.elim;exact h.elim
   |bD v=>rw[hc] at h;exact h
   |no=>rw[hc] at h;exact h
   |op=>
    rw[hc] at h;simp only at h⊢;cases bs:eY u m.o m.bP m.dr s with
    |some b=>
     rw[bs] at h;obtain⟨hn,h⟩:=h;refine⟨hn,λrv cl=> ?_⟩;obtain⟨G,F,z⟩:=ami bs;have cn:(O.add (.r rv)).r.length=Y b.s.rs:=by simp[ai.add,z,e3]
     refine I1 a3 Q b.s _ _ (by rw[G];exact a) (by rw[F];exact e2) cn (h rv cl) ?_ a0;intro x hx;obtain⟨bl,ca⟩:=qK.1 hx;obtain⟨t,cT⟩:=al x bl;refine⟨by rw[BE.ep (UM O (.r rv)) _ (by rw[a,e2,e3];exact cT)];exact t, ?_⟩;exact BE.eJ aa aa aa _ cT
    |none=>
    rw[bs] at h;simp only[uA] at h⊢;have bb:∀X a4,Ch s O a4->ju u m s O X->(oF u (Ac u A H) B k D Q X a4).ba p O L->∃X,ju u m s O X/\eP p u B A (Gc p k L) (D8 p D L) (D9 p u B A H k D L) Q O X:=by
     intro X a4 hf hG hs;obtain⟨G,F,z⟩:=amh (LZ hG);exact⟨X,hG,I1 a3 Q X a4 O (by rw[G];exact a) (by rw[F];exact e2) (by rw[z];exact e3) hs (b0 X a4 G F z hf) a0⟩
    split at h;rename_i X an;exact bb X P al (by unfold ju;rw[an];rfl) h;rename_i b X an;refine bb X P al ?_ h.2;unfold ju;rw[an];exact⟨h.1,ay2 an,rfl⟩;rename_i b s1 s2 an;obtain⟨cT,ac,af,N⟩:=acP al h;cases hv:b.ab O;exact bb s2 ac af (by unfold ju;rw[an];simp[OR.I0,hv,cT]) (by simpa[hv] using N);exact bb s1 ac af (by unfold ju;rw[an];simp[OR.I0,hv,cT]) (by simpa[hv] using N);exact h.elim
  have bt:∀P,Ch s O P->(oF u (Ac u A H) B k D Q (s.put m.o.dst (.b9 [])) P).ba p O L->eP p u B A (Gc p k L) (D8 p D L) (D9 p u B A H k D L) Q O (s.put m.o.dst (.b9 [])):=by
   intro P hf h;obtain⟨G,F,z⟩:=bg s m.o.dst (.b9 []);exact I1 a3 Q _ P O (by rw[G];exact a) (by rw[F];exact e2) (by rw[z];exact e3) h (b0 _ P G F z hf) a0
  simp only[oF,Uv] at h;cases ag:m.o.guard with
  |none=>
   rw[ag] at h;exact .inr ⟨by simp[iH,ag],bk fx a9 h⟩
  |some q=>
   obtain⟨jj,cp⟩:=q;rw[ag] at h;simp only at h;split at h;rename_i d t;split at h;rename_i b M;cases cp;simp only[jR,gD] at h;obtain⟨cT,ac,af,N⟩:=acP a9 h;cases j:b.ab O;exact .inr ⟨by simp[iH,ag,t,M,cT,j],bk ac af (by simpa[j] using N)⟩;exact .inl ⟨by simp[iH,ag,t,M,cT,j],bt ac af (by simpa[j] using N)⟩;simp only[cN] at h;obtain⟨cT,ac,af,N⟩:=acP a9 h;cases j:b.ab O;exact .inl ⟨by simp[iH,ag,t,M,cT,j],bt ac af (by simpa[j] using N)⟩;exact .inr ⟨by simp[iH,ag,t,M,cT,j],bk ac af (by simpa[j] using N)⟩;rename_i M;exact .inl ⟨by simp[iH,ag,t,M],bt fx a9 h⟩;exact h.elim;exact h.elim
end
section
variable{p:Sp}{cf:bL}{ops:dU}{A:yF}
structure lH(cf:bL)(ops:dU)(o:Oper)(s:S)(O:ai)(s':S)(O':ai):Prop where
 tm:∀t∈ky ops o,s'.tmps[t]?=s.tmps[t]?
 kd:looks o.op=J->BZ o.op=E->Cg cf.ty s s'
 kl:∀t x r w i off,o.op=.load t x->s.ev cf.gl x=.el r w i off->∀e,e≠ .aS->r.kind cf.ty s=e->r.kind cf.ty s'=e
 li:s.ni<=s'.ni
 lb:s.nb<=s'.nb
 lr:Y s.rs<=Y s'.rs
 ag:jB O O' s.ni s.nb (Y s.rs)
def lH.Ao{o:Oper}{s X:S}{O:ai}(V:∀t∈ky ops o,X.tmps[t]?=s.tmps[t]?)(W:X.rs=s.rs)(R:X.ni=s.ni)(Q:X.nb=s.nb):lH cf ops o s O X O:=
 ⟨V,λ_ _=>Cg.Ao W,λt x r w i P _ _=>Cg.Ao W r,FI R.symm,FI Q.symm,FI (by rw[W]),jB.refl _ _ _ _⟩
def lH.ev{o:Oper}{s X:S}{O V:ai}(h:lH cf ops o s O X V)(W:nD):∀x∈o.op.operands.toList,X.ev W x=s.ev W x:=by
 intro x R;cases x with
 |tmp t=>
  have:t∈ky ops o:=by
   unfold ky;exact zQ _ (FC.2 ⟨.tmp t,R,rfl⟩)
  simp only[S.ev,yw,dL,h.tm t this]
 |const v=>rfl
 |global g=>rfl
 |func f=>rfl
def lH.guard{m:OM}{s W:S}{O Q:ai}(h:lH cf ops m.o s O W Q){b:Bool}(X:iH ops m s O=U b):iH ops m W Q=U b:=by
 unfold iH at X⊢;cases V:m.o.guard with
 |none=>rw[V] at X;exact X
 |some q=>
  obtain⟨j,M⟩:=q;rw[V] at X;simp only at X⊢;cases R:(ops[j]?).bind (·.dst) with
  |none=>rw[R] at X;cases X
  |some d=>
   rw[R] at X;simp only at X⊢;have N:W.tmps[d]?=s.tmps[d]?:=h.tm d (by unfold ky;rw[V];exact OA _ (by simp[R]));rw[N];split at X;rename_i e L;split at X;rename_i P;rw[aL (BE.eJ h.li h.lb h.lr _ P),BE.ep h.ag _ P];exact X;cases X;exact X;cases X
def amn{Q:S}{N:ai}(h:lH cf ops l R x Q N)(M:∀i,BO cf.gl R l.op=U i->cJ Q.ao i=cJ R.ao i)
  (W:(cw cf.ty cf.gl R l.op).Ap R x t):(cw cf.ty cf.gl Q l.op).Ap Q N t:=by
 have H:cw cf.ty cf.gl Q l.op=cw cf.ty cf.gl R l.op:=by
  cases V:cw cf.ty cf.gl R l.op with
  |ok X=>exact Vx (ty:=cf.ty) (h.ev cf.gl) h.kd h.kl M V (λw P=>by cases P)
  |bA b X=>exact Vx (ty:=cf.ty) (h.ev cf.gl) h.kd h.kl M V (λw P=>by cases P)
  |no w=>rw[V] at W;exact W.elim
 rw[H];cases V:cw cf.ty cf.gl R l.op with
 |ok X=>rw[V] at W;exact W
 |bA b X=>
  rw[V] at W;obtain⟨G,L,F⟩:=W;exact⟨by rw[BE.ep h.ag _ L];exact G,BE.eJ h.li h.lb h.lr _ L,F⟩
 |no w=>rw[V] at W;exact W.elim
def acS{m:OM}{s R:S}{O L:ai}(h:lH cf ops m.o s O R L)(H:∀i,BO cf.gl s m.o.op=U i->cJ R.ao i=cJ s.ao i){v:C}{l:Nat}(D:QV cf ops O m s v l):QV cf ops L m R v l:=by
 rcases D with⟨Q,P,X⟩|⟨Q,P,X⟩;exact .inl ⟨h.guard Q,P,X⟩;refine .inr ⟨h.guard Q,λx G=>by rw[h.ev cf.gl x G];exact P x G, ?_⟩;have W:=h.ev cf.gl;cases N:m.o.op with
 |pick c x y=>
  rw[N] at X W;obtain⟨e,B,F,A,z⟩:=X;refine⟨e,by rw[W c cQ];exact B,BE.eJ h.li h.lb h.lr _ F, ?_,z⟩;rw[BE.ep h.ag _ F,W x cQ,W y cQ];exact A
 |load t x=>
  have V:=λ(M:(cw cf.ty cf.gl s m.o.op).Ap s O v)=>amn (cf:=cf) h H M
  rw[N] at X W V;exact⟨V X.1,by rw[W x cQ];exact X.2⟩
 |_=>
  have V:=λ(M:(cw cf.ty cf.gl s m.o.op).Ap s O v)=>amn (cf:=cf) h H M
  rw[N] at X V;exact⟨V X.1,X.2⟩
def ay3(h:n8 l.op=J):eN cf R l=.op:=by
 unfold eN;cases W:l.op<;>rw[W] at h<;>simp[n8] at h<;>try rfl
 rename_i c;cases X:c.callee with
 |builtin b=>cases b<;>simp[X] at h<;>simp[X]
 |value f=>simp[X] at h
 |invoke r m=>simp[X] at h
def I2(s:S)(d:cH)(v:C):s.dv d v 0=s.put d v:=by simp[S.dv]
def L5{m:OM}{s V:S}{O:ai}(H:n8 m.o.op=J)(R:iH ops m s O=U J):ju cf m s O V<->∃v l,QV cf ops O m s v l/\V=s.dv m.o.dst v l:=by
 unfold ju gN QV;by_cases Q:(m.o.op.operands.toList.any λx=>(s.ev cf.gl x).fk)=J;simp only[Q,cN];constructor;exact λh=>h.elim
 rintro⟨v,l,h|h,-⟩;rw[R] at h;cases h.1;obtain⟨x,M,G⟩:=lT.1 Q;have:=h.2.1 x M;rw[this] at G;cases G
 ·have F:∀x∈m.o.op.operands.toList,(s.ev cf.gl x).fk=false:=by
   intro x M;cases w:(s.ev cf.gl x).fk;rfl;exact aG (lT.2 ⟨x,M,w⟩) Q
  have L:¬iH ops m s O=U false:=by rw[R];simp
  have D:∀(P:Nat),(uj s m.o.dst P (cw cf.ty cf.gl s m.o.op)).I0 s O V<->∃v l,((iH ops m s O=U E/\v=.b9 []/\l=0)\/(iH ops m s O=U J/\(∀x∈m.o.op.operands.toList,(s.ev cf.gl x).fk=E)/\(cw cf.ty cf.gl s m.o.op).Ap s O v/\l=P))/\V=s.dv m.o.dst v l:=by
   intro P;rw[amg];constructor;rintro⟨v,X,W⟩;exact⟨v,P,.inr ⟨R,F,X,rfl⟩,W⟩;rintro⟨v,l,h|⟨-,-,X,rfl⟩,N⟩;exact aG h.1 L;exact⟨v,X,N⟩
  rw[aP Q];cases B:m.o.op<;>rw[B] at H D<;>simp only[n8,jR] at H
  case pick c x y=>
   simp only;cases t:s.ev cf.gl c with
   |bool e=>
    constructor;rintro⟨X,W⟩;refine⟨if e.ab O then s.ev cf.gl x else s.ev cf.gl y,0,.inr ⟨R,by rw[<-B];exact F,e,rfl,X,rfl,rfl⟩, ?_⟩;rw[I2,W];split<;>rfl;rintro⟨v,l,h|⟨-,-,u,X,W,A,z⟩,N⟩;exact aG h.1 L;cases X;subst z;refine⟨W, ?_⟩;rw[N,I2,A];split<;>rfl
   |_=>
    constructor;exact λh=>h.elim
    rintro⟨v,l,h|⟨-,-,u,X,W,A,z⟩,N⟩;exact aG h.1 L;cases X
  all_goals exact D _
variable{a:ai->S->Prop}{k:ai->C->S->Prop}{n:OM->cU->ai->S->Nat->ap->Prop}
def amo(X:n8 l.op=J):eY cf l e J R=none:=by
 unfold eY;cases V:l.op<;>rw[V] at X<;>simp only[n8,jR] at X<;>try rfl
 rename_i c;cases W:c.callee with
 |builtin b=>cases b<;>simp[W] at X<;>simp[W]
 |value f=>simp[W] at X
 |invoke r m=>simp[W] at X
def amp{P:cU}(N:h.dr=J)(Q:n8 h.o.op=J):eP p cf ops A a k n (h::P) x R<->∃v l,QV cf ops x h R v l/\eP p cf ops A a k n P x (R.dv h.o.dst v l):=by
 simp only[eP,ay3 Q,N,amo Q,uA];constructor;rintro(⟨V,X⟩|⟨V,L,X,W⟩);exact⟨.b9 [],0,.inl ⟨V,rfl,rfl⟩,by rw[I2];exact X⟩;obtain⟨v,l,M,rfl⟩:=(L5 (ops:=ops) Q V).1 X;exact⟨v,l,M,W⟩;rintro⟨v,l,V,X⟩;rcases V with⟨W,rfl,rfl⟩|W;rw[I2] at X;exact .inl ⟨W,X⟩;exact .inr ⟨W.1,_,(L5 (ops:=ops) Q W.1).2 ⟨v,l,.inr W,rfl⟩,X⟩
end
section
variable{p:Sp}{A:bL}{B:dU}{D:yF}
def mO{d:cH}(h:d≠U X):(R.put d t).tmps[X]?=R.tmps[X]?:=by
 cases d with
 |none=>rfl
 |some d=>simp only[S.put,wZ];rw[sI (λe=>h (by rw[e]))]
def L6{d:cH}{W:Nat}(h:d≠U W):(R.dv d t X).tmps[W]?=R.tmps[W]?:=by
 unfold S.dv;rw[mO h]
def mu(s:S)(d:cH)(v:C):(s.put d v).ao=s.ao:=by cases d<;>rfl
def Ed(s:S)(d:cH)(v:C)(l:Nat):(s.dv d v l).ao=s.ao:=by unfold S.dv;rw[mu]
def Vz(s:S)(d:cH)(v:C):(s.put d v).lk=s.lk:=by cases d<;>rfl
def acT{d e:cH}{w:C}(h:∀x,d=U x->e≠U x):(R.put d t).put e w=(R.put e w).put d t:=by
 cases d with
 |none=>cases e<;>rfl
 |some d=>
  cases e with
  |none=>rfl
  |some e=>
   have X:d≠e:=λW=>h d rfl (by rw[W])
   simp only[S.put,wZ];rw[List.set_comm _ _ X]
def PU{s:S}{d e:cH}{v w:C}{l:Nat}(h:∀x,d=U x->e≠U x):(s.dv d v l).put e w=(s.put e w).dv d v l:=by
 unfold S.dv;rw[acT h];cases e<;>rfl
def ay4{d e:cH}{w:C}{W:Nat}(h:∀x,d=U x->e≠U x):(R.dv d t X).dv e w W=(R.dv e w W).dv d t X:=by
 have V:(R.dv d t X).dv e w W={(R.dv d t X).put e w with lk:=R.lk|||X|||W}:=by
  unfold S.dv;cases e<;>cases d<;>rfl
 have Q:(R.dv e w W).dv d t X={(R.dv e w W).put d t with lk:=R.lk|||W|||X}:=by
  unfold S.dv;cases e<;>cases d<;>rfl
 rw[V,Q,Nat.or_assoc,Nat.or_comm X W,<-Nat.or_assoc];have P:(R.dv d t X).put e w={(R.put d t).put e w with lk:=R.lk|||X}:=by unfold S.dv;cases e<;>cases d<;>rfl
 have O:(R.dv e w W).put d t={(R.put e w).put d t with lk:=R.lk|||W}:=by unfold S.dv;cases e<;>cases d<;>rfl
 rw[P,O,acT h]
def ay5(s:S)(d:cH)(v:C)(l n:Nat)(t:TypeId)(X:ap):(s.dv d v l).dl n t X=(s.dl n t X).dv d v l:=by
 unfold S.dv S.dl;cases d<;>rfl
structure acU(B:dU)(x y:OM)(dx:Nat):Prop where
 xd:x.dr=J
 yd:y.dr=J
 qx:n8 x.o.op=J
 np:K6 y.o.op=E
 dst:x.o.dst=U dx
 ry:dx∉ky B y.o
 dy:y.o.dst≠U dx
 rx:dx∉ky B x.o
 yx:∀d,y.o.dst=U d->d∉ky B x.o
 rc:Aa y.o.op=J->BZ x.o.op=J->x.bP=J/\y.bP=J
 rb:DK y.o.op=J->looks x.o.op=J->BZ x.o.op=J/\x.bP=J/\y.bP=J
def amq{x y:OM}(h:Ux B x y=J):∃Q,acU B x y Q:=by
 unfold Ux at h;simp only[aA,iK] at h;obtain⟨⟨⟨⟨⟨⟨⟨L,H⟩,G⟩,F⟩,X⟩,V⟩,O⟩,R⟩:=h;cases P:x.o.dst with
 |none=>rw[P] at X;cases X
 |some Q=>
  rw[P] at X;simp only[aA,iK,bne_iff_ne] at X;obtain⟨⟨N,D⟩,M⟩:=X;refine⟨Q,L,H,G,F,P, ?_,D, ?_, ?_, ?_, ?_⟩;intro W;rw[qH.2 W] at N;cases N;intro W;rw[qH.2 W] at M;cases M;intro d A W;rw[A] at V;simp only[iK] at V;rw[qH.2 W] at V;cases V;intro a b;simp only[a,b,OK,axm,aA] at O;exact O;intro a b;simp only[a,b,OK,axm,aA] at R;exact⟨R.1.1,R.1.2,R.2⟩
def I3{X:S}(h:∀x∈l.op.operands.toList,X.ev A.gl x=R.ev A.gl x):eN A X l=eN A R l:=by
 unfold eN;cases V:l.op<;>rw[V] at h<;>try rfl
 case panic x=>simp only;rw[h x cQ]
 case call c=>
  simp only;cases Q:c.callee with
  |value f=>
   have P:=h f (by simp[iY,BH,Q]);have W:c.args.toList.map (X.ev A.gl)=c.args.toList.map (R.ev A.gl):=kJ λx O=>h x (by simp[iY,BH];exact .inr (by simpa using O))
   have N:(c.args.toList.any λx=>(X.ev A.gl x).fk)=c.args.toList.any λx=>(R.ev A.gl x).fk:=by
    have M:=ajW (f:=X.ev A.gl) (p:=C.fk) (l:=c.args.toList);have L:=ajW (f:=R.ev A.gl) (p:=C.fk) (l:=c.args.toList);rw[show(c.args.toList.any λx=>(X.ev A.gl x).fk)=(c.args.toList.map (X.ev A.gl)).any C.fk from M.symm,W,L];rfl
   simp only[P,W,N]
  |invoke r m=>rfl
  |builtin b=>
   cases b<;>try rfl
   cases H:c.args.toList with
   |nil=>rfl
   |cons x r=>
    cases r with
    |nil=>simp only;rw[h x (by simp[iY,BH];exact .inr (by have G:x∈c.args.toList:=(by rw[H];simp);simpa using G))]
    |cons y r=>rfl
def acV(h:eN A R l=.bD t):K6 l.op=true:=by
 unfold eN at h;split at h;rename_i X;rw[X];rfl;rename_i c X;split at h;split at h;split at h<;>cases h;split at h<;>cases h;cases h;cases h;rename_i W;rw[X];simp[K6,W];cases h;cases h
def yQ(s:S)(d:Nat):Prop:=s.tmps[d]?=Z\/∃w,s.tmps[d]?=U w/\w.bd s.ni s.nb (Y s.rs) (aW s.ao)=J
def acW{W V R:Nat}{Q:Nat->Bool}:∀{l:ap}{d:Nat}{v:C},C.ec W V R Q (l.set d v)=J->(l[d]?=Z\/∃w,l[d]?=U w/\w.bd W V R Q=J)->C.ec W V R Q l=J
 |[],d,v,h,_=>rfl
 |x::P,0,v,h,X=>by
  simp only[aKK,C.jo,aA] at h⊢;refine⟨?_,h.2⟩;rcases X with X|X;simp at X;simpa using X
 |x::P,d+1,v,h,X=>by
  simp only[List.set_cons_succ,C.jo,aA] at h⊢;exact⟨h.1,acW h.2 (by simpa using X)⟩
def L7{s:S}{dx:Nat}{v:C}{l:Nat}{cs:ap}(h:(s.dv (U dx) v l).fz cs=J)(X:yQ s dx):s.fz cs=true:=by
 simp only[S.fz,S.bd,S.dv,S.put,wZ,aA] at h⊢;exact⟨⟨acW h.1.1 X,h.1.2⟩,h.2⟩
def ay6{V:Ty}{Q:nD}{W:Op}(h:(cw V Q R W).gives x t):n8 W=true:=by
 cases W with
 |call c=>
  cases X:c.callee with
  |builtin b=>cases b<;>simp only[cw,X,PR.gives] at h<;>simp[n8,X]
  |value f=>simp only[cw,X,PR.gives] at h
  |invoke r m=>simp only[cw,X,PR.gives] at h
 |_=>first|rfl|(simp only[cw,PR.gives] at h)
def ay7{x y:OM}{P:Nat}(a:acU B x y P){s f:S}{O:ai}{v:C}{l:Nat}(ha:yQ s P)(hg:iH B y s O=U J)
  (h:ju A y (s.dv (U P) v l) O f):∃W,ju A y s O W/\f=W.dv (U P) v l/\(∀t,y.o.dst≠U t->W.tmps[t]?=s.tmps[t]?)/\W.ni=s.ni/\W.nb=s.nb/\W.rs=s.rs/\
   ∀i,aW s.ao i=J->cJ W.ao i=cJ s.ao i\/(Aa y.o.op=J/\(y.bP=J->(s.lk|||l).testBit (2*i)=E)/\(mg s.ao i).isSome=J):=by
 have an:lH A B y.o (s.dv (U P) v l) O s O:=lH.Ao (λt V=>(L6 (λe=>a.ry (by cases e;exact V))).symm) rfl rfl rfl;have ac:lH A B y.o s O (s.dv (U P) v l) O:=lH.Ao (λt V=>L6 (λe=>a.ry (by cases e;exact V))) rfl rfl rfl;have D:=ac.ev A.gl;have af:∀z,(U P:cH)=U z->y.o.dst≠U z:=λz H=>by cases H;exact a.dy
 by_cases r:n8 y.o.op=J;have a0:=ac.guard hg;obtain⟨w,l',hw,rfl⟩:=(L5 (ops:=B) r a0).1 h;have a1:=acS (cf:=A) an (λi _=>by rw[Ed]) hw;refine⟨s.dv y.o.dst w l',(L5 (ops:=B) r hg).2 ⟨w,l',a1,rfl⟩,ay4 af,λt V=>L6 V,(gr _ _ _).1,(gr _ _ _).2.1,(gr _ _ _).2.2,λi _=>.inl (by rw[Ed])⟩;unfold ju gN at h;split at h;exact h.elim;rename_i hk;have d:¬(y.o.op.operands.toList.any λz=>(s.ev A.gl z).fk)=true:=by
  intro hh;obtain⟨z,ag,a3⟩:=lT.1 hh;exact hk (lT.2 ⟨z,ag,by rw[D z ag];exact a3⟩)
 have b:∀(n:Nat)(t:TypeId)(G:ap)(w:C),n<Y s.ao->ju A y s O ((s.dl n t G).put y.o.dst w)->f=((s.dv (U P) v l).dl n t G).put y.o.dst w->
   (∀i,aW s.ao i=J->i=n->Aa y.o.op=J/\(y.bP=J->(s.lk|||l).testBit (2*i)=E)/\(mg s.ao i).isSome=J)->
   ∃W,ju A y s O W/\f=W.dv (U P) v l/\(∀t,y.o.dst≠U t->W.tmps[t]?=s.tmps[t]?)/\W.ni=s.ni/\W.nb=s.nb/\W.rs=s.rs/\
    ∀i,aW s.ao i=J->cJ W.ao i=cJ s.ao i\/(Aa y.o.op=J/\(y.bP=J->(s.lk|||l).testBit (2*i)=E)/\(mg s.ao i).isSome=J):=by
  intro n t G w hn h1 h2 h3;refine⟨_,h1, ?_,λt V=>mO V,(gr _ _ _).1,(gr _ _ _).2.1,(gr _ _ _).2.2,λi R=> ?_⟩;rw[h2,ay5,PU af];by_cases al:i=n;exact .inr (h3 i R al);left;rw[mu,S.dl,Ah al]
 split at h;rename_i t X;split at h;rename_i ti V;split at h;rename_i Q;simp only[aA] at Q;have N:=L7 Q.1 ha;have M:qP s.ao y.ix t=true:=Q.2;have L:gG s.ao y.ix=true:=ux M;refine b y.ix t (eA ti) _ (nM L).2 ?_ h (λi R e=>by subst e;rw[(nM L).1] at R;cases R);unfold ju gN;rw[aP d];simp only[X,V,N,M,wW,cN];rfl;exact h.elim;exact h.elim;rename_i t z X;have H:=D z (by rw[X];simp[iY]);split at h;rename_i ti V;rw[H] at h;split at h;rename_i Q;simp only[aA] at Q;obtain⟨⟨⟨m,k⟩,g⟩,c4⟩:=Q;have N:=L7 k ha;have M:qP s.ao y.ix t=true:=c4;have L:gG s.ao y.ix=true:=ux M;refine b y.ix t _ _ (nM L).2 ?_ h (λi R e=>by subst e;rw[(nM L).1] at R;cases R);unfold ju gN;rw[aP d];simp only[X,V,m,N,g,M,wW,cN];rfl;exact h.elim;exact h.elim;rename_i t bd parts X;have H:(parts.toList.map λp=>(p.1,(s.dv (U P) v l).ev A.gl p.2))=parts.toList.map λp=>(p.1,s.ev A.gl p.2):=kJ λp hp=>by rw[D p.2 (by rw[X];simp[iY];exact⟨p.1,by simpa using hp⟩)]
 split at h;rename_i e ak q V;split at h;rename_i te a4;rw[H] at h;split at h;rename_i G hf;split at h;rename_i Q;simp only[aA] at Q;obtain⟨⟨m,k⟩,g⟩:=Q;have N:=L7 m ha;have M:qP s.ao y.ix e=true:=g;have L:gG s.ao y.ix=true:=ux M;refine b y.ix e G _ (nM L).2 ?_ h (λi R e=>by subst e;rw[(nM L).1] at R;cases R);unfold ju gN;rw[aP d];simp only[X,V,a4,hf,N,k,M,wW,cN];rfl;exact h.elim;exact h.elim;exact h.elim;exact h.elim;rename_i t z u X;have H:=D z (by rw[X];simp[iY]);have hu:=D u (by rw[X];simp[iY]);rw[H,hu] at h;split at h;rename_i ti i bf V R;rw[Ed] at h;split at h;rename_i bt G N;split at h;rename_i Q;simp only[aA,iK] at Q;obtain⟨⟨⟨⟨m,k⟩,g⟩,c4⟩,F⟩:=Q;have a9:(s.dv (U P) v l).lk=s.lk|||l:=Vz _ _ _;rw[a9] at F;have bb:(y.bP&&s.lk.testBit (2*i))=false:=by
  cases hr:y.bP;rfl;rw[hr,Du,FG] at F;simp only[wT] at F;simp[F.1]
 refine b i bt _ _ (cj.1 (kA.1 (Af N).1)).1 ?_ h (λj hj e=> ?_);unfold ju gN;rw[aP d];simp only[X,V,R,N,m,k,g,c4,bb,wW,ajU,cN];rfl;subst e;refine⟨by rw[X];rfl,λhr=> ?_,by rw[N];rfl⟩;rw[hr,Du] at F;exact F;exact h.elim;exact h.elim;exact h.elim;rename_i c z u X;exact aG (by rw[X];rfl) r;rename_i t z X;exact aG (by rw[X];rfl) r;rename_i o1 o2 o3 o4 o5 o6;exfalso;obtain⟨w,hw,-⟩:=amg.1 h;refine r ?_;exact ay6 (Vy hw)
def ay8{X:Ty}{W:S}(h:R.rs=W.rs)(k:RK)(r:RE):r.fits X R k=r.fits X W k:=by
 unfold RE.fits;cases k<;>simp only[D7 h r]
def amr{X:Ty}{s W:S}(h:s.rs=W.rs):∀(ak:fp)(V:ap),mK X s ak V=mK X W ak V
 |[],[]=>rfl
 |[],_::_=>rfl
 |_::_,[]=>rfl
 |c::R,v::Q=>by
  simp only[mK,amr h R Q];congr 1;cases c<;>cases v<;>simp only[ui,ay8 h]
def Gd{X:Ty}{s s':S}(h:s.rs=s'.rs){ak:fp}:∀{l:yu},n7 X s ak l=n7 X s' ak l
 |[]=>rfl
 |r::W=>by simp only[n7,amr h ak r,Gd h (l:=W)]
def ay9{l:Nat}{W:Ty}{V:TI}{y:C}{r:LE×BE×aq}(h:sN W (R.dv (U X) t l) v V y=U r):sN W R v V y=U r:=by
 unfold sN at h⊢;split at h;simp only[D7 (s:=R) (s':=R.dv (U X) t l) rfl];exact h;rw[Ed] at h;split at h;rename_i Q;simp only[Gd (s:=R) (s':=R.dv (U X) t l) rfl];exact h;cases h;cases h
def aza{l:Nat}{y:C}{Q:LE}{n:BE}(h:yC (R.dv (U X) t l) v e y=U (Q,n,r)):yC R v e y=U (Q,n,r)/\∀k∈r,e=J->(R.lk|||l).testBit (2*k+1)=false:=by
 have N:(R.dv (U X) t l).lk=R.lk|||l:=Vz _ _ _;unfold yC at h⊢;split at h;rename_i k;split at h;rename_i P;cases h;have M:R.rs[k]?=U (.own v):=P.1;have V:=P.2;rw[N] at V;simp only[iK,aKz] at V;refine⟨?_,λG O L=> ?_⟩;rw[aL];refine⟨M, ?_⟩;simp only[iK,aKz];rcases V with V|V;exact .inl V;rw[FG,wT] at V;exact .inr V.1;simp at O;subst O;rcases V with V|V;rw[L] at V;cases V;exact V;cases h;rename_i W F;split at h;rename_i H;cases h;simp[H];cases h;cases h;exact⟨rfl,aw⟩;cases h
variable{F:ai->S->Prop}{H:ai->C->S->Prop}{L:OM->cU->ai->S->Nat->ap->Prop}
def azb(X:aY)(s:S)(d:cH)(v:C)(l:Nat):((s.dv d v l).cK X).1=(s.cK X).1/\((s.dv d v l).cK X).2=(s.cK X).2.dv d v l:=by
 induction X generalizing s with
 |nil=>exact⟨rfl,rfl⟩
 |cons k X W=>
  simp only[S.cK];have V:((s.dv d v l).fresh k).1=(s.fresh k).1/\((s.dv d v l).fresh k).2=(s.fresh k).2.dv d v l:=by
   cases k<;>cases d<;>exact⟨rfl,rfl⟩
  rw[V.1,V.2];exact⟨by rw[(W _).1],(W _).2⟩
def azc{m:OM}{s:S}{O:ai}{v:C}{l:Nat}(h:QV A B O m s v l)(Q:iH B m s O=U J){t:TypeId}{x:Operand}{i P:Nat}(N:m.o.op=.load t x)(W:s.ev A.gl x=.loc i P):aW s.ao i=J/\(m.bP=J->l=1<<<(2*i)):=by
 rcases h with h|⟨-,-,h⟩;rw[Q] at h;cases h.1;rw[N] at h;obtain⟨X,M⟩:=h;refine⟨?_,λL=>by rw[M,W,L];rfl⟩;have X:=Vy X;simp only[cw,W] at X;cases V:A.ty t with
 |none=>rw[V] at X;exact X.elim
 |some H=>
  rw[V] at X;simp only at X;cases R:cJ s.ao i with
  |none=>rw[show mg s.ao i=Z by simp[mg,R]] at X;exact X.elim
  |some b=>simp[aW,R]
def azd{m:OM}{s:S}{O:ai}{v:C}{l:Nat}(h:QV A B O m s v l)(N:iH B m s O=U J){t:TypeId}{x:Operand}{i:Nat}{e:K}{M:bw}{W:ap}(L:m.o.op=.load t x)(V:s.ev A.gl x=.gz e M W)(R:zX W=U i):aW s.ao i=J/\(m.bP=J->l=1<<<(2*i)):=by
 rcases h with h|⟨-,-,h⟩;rw[N] at h;cases h.1;rw[L] at h;obtain⟨X,H⟩:=h;refine⟨?_,λG=>by rw[H,V,G];simp[OW,R]⟩;have X:=Vy X;simp only[cw,V] at X;cases Q:A.ty t with
 |none=>rw[Q] at X;exact X.elim
 |some F=>
  rw[Q] at X;simp only[R,aa5] at X;cases P:cJ s.ao i with
  |none=>rw[show mg s.ao i=Z by simp[mg,P]] at X;exact X.elim
  |some b=>simp[aW,P]
def ams{m:OM}{s:S}{O:ai}{v:C}{l:Nat}(h:QV A B O m s v l)(P:iH B m s O=U J){i:Nat}(W:BO A.gl s m.o.op=U i):aW s.ao i=J/\((BZ m.o.op=J/\(m.bP=J->l=1<<<(2*i)))\/mg s.ao i=Z):=by
 unfold BO at W;split at W;rename_i t x V;split at W;rename_i j G R;cases W;obtain⟨X,N⟩:=azc h P V R;exact⟨X,.inl ⟨by rw[V];rfl,N⟩⟩;rename_i e F D R;obtain⟨X,N⟩:=azd h P V R W;exact⟨X,.inl ⟨by rw[V];rfl,N⟩⟩;cases W;rename_i t x z y V;split at W;rename_i j R;cases W;rcases h with h|⟨-,-,h⟩;rw[P] at h;cases h.1;rw[V] at h;have X:=Vy h.1;simp only[cw,R] at X;split at X;rename_i k e n w ak q u r L;cases L;unfold Ui at X;split at X;rename_i g a b c H f d g2 M;refine⟨by simp[aW,M],.inr ?_⟩;have:rJ H=true:=by
  split at X;exact X.elim;split at X;rename_i Q;simp at Q;rw[Q];decide;split at X;rename_i Q;simp at Q;rw[Q];decide;exact X.elim
 simp[mg,M,this];exact X.elim;exact X.elim;cases W;cases W
def L8{b:BI}(h:eY A l e J R=U b):vG l.op=true:=by
 unfold eY at h;cases W:l.op<;>rw[W] at h<;>simp only[cN,axo] at h<;>try cases h
 rfl;rename_i c;cases X:c.callee with
 |builtin V=>cases V<;>simp[X] at h<;>simp[vG,X]
 |_=>simp[X] at h
def acX{m:OM}{s V:S}{O:ai}(h:vG m.o.op=J)(X:ju A m s O V):False:=by
 unfold ju gN at X;split at X;exact X;cases R:m.o.op<;>rw[R] at h X<;>simp[vG] at h;simp[cw,uj,OR.I0] at X;rename_i c;cases W:c.callee with
 |builtin Q=>cases Q<;>simp[W] at h<;>simp[cw,W,uj,OR.I0] at X
 |_=>simp[W] at h
def amt{l:Nat}{d:cH}{bA:BE}{k:RK}{x:LE}{dj:aq}{V:BI}(P:yQ R X)(O:d≠U X)
  (h:kM (R.dv (U X) t l) d bA v k x r dj=U V):
  ∃b,kM R d bA v k x r dj=U b/\V={b with s:=b.s.dv (U X) t l}/\(∀W,d≠U W->b.s.tmps[W]?=R.tmps[W]?)/\b.s.ni=R.ni/\b.s.nb=R.nb/\b.s.rs=kL dj 0 (jU r 0 R.rs)++[k]/\b.s.ao=R.ao:=by
 unfold kM at h⊢;split at h;rename_i Q;cases h;simp only[aA] at Q;obtain⟨⟨⟨N,M⟩,L⟩,H⟩:=Q;have G:R.bd=true:=by
  have:R.fz []=true:=L7 (dx:=X) (v:=t) (l:=l) (cs:=[]) (by simp[S.fz,N,C.jo]) P;simp only[S.fz,aA] at this;exact this.1
 rw[aL (by simp only[aA];exact⟨⟨⟨G,M⟩,L⟩,H⟩)];refine⟨_,rfl, ?_,λW F=>mO F,(gr _ _ _).1,(gr _ _ _).2.1,(gr _ _ _).2.2,mu _ _ _⟩;congr 1;exact PU (s:={R with rs:=kL dj 0 (jU r 0 R.rs)++[k]}) (d:=U X) (e:=d) (v:=t) (w:=.aj (.v (Y R.rs))) (l:=l) (λz D=>by cases D;exact O);cases h
def aze{x y:OM}{X:Nat}(P:acU B x y X){s:S}{v:C}{l:Nat}(M:yQ s X)(V:∀z∈y.o.op.operands.toList,s.ev A.gl z=(s.dv (U X) v l).ev A.gl z){L:BI}
  (h:eY A y.o y.bP y.dr (s.dv (U X) v l)=U L):
  ∃b W dj G,eY A y.o y.bP y.dr s=U b/\L={b with s:=b.s.dv (U X) v l}/\(∀t,y.o.dst≠U t->b.s.tmps[t]?=s.tmps[t]?)/\b.s.ni=s.ni/\b.s.nb=s.nb/\b.s.rs=kL dj 0 (jU W 0 s.rs)++[G]/\b.s.ao=s.ao/\
   (∀k∈W,y.bP=J->(s.lk|||l).testBit (2*k+1)=E)/\(DK y.o.op=E->W=[]):=by
 have R:=L8 (by rw[P.yd] at h;exact h);unfold eY at h⊢;cases F:y.o.op<;>rw[F] at R h V<;>simp[vG] at R;rename_i t n m;simp only at h⊢;rw[V n cQ,V m cQ];split at h;rename_i e ak q D w u r j;split at h;rename_i Q i;split at h;rename_i g;obtain⟨b,O,N,f,d,a,g6,g7⟩:=amt M P.dy h;have ac:(D.aU w&&n7 A.ty s Q.ak [eA Q]&&Y Q.ak !=0)=true:=by
  rw[<-Gd (s:=s.dv (U X) v l) (s':=s) rfl];exact g
 rw[aL ac];exact⟨b,[],[],_,O,N,f,d,a,g6,g7,aw,λ_=>rfl⟩;cases h;cases h;cases h;rename_i c;cases dH:c.callee with
 |builtin bb=>
  cases bb<;>simp[dH] at R;simp only[dH] at h⊢;have af:c.args.toList.map (s.ev A.gl)=c.args.toList.map ((s.dv (U X) v l).ev A.gl):=kJ λz hz=>V z (by simp[iY,BH];exact .inr (by simpa using hz))
  rw[af];split at h;rename_i t t2 x0 y0 r j;split at h;rename_i e ak q e2 al H u an;split at h;rename_i Q i;split at h;cases h;rename_i ag;rw[aP ag];split at h;rename_i la n1 W lb n2 dj O N;obtain⟨q1,H⟩:=aza O;have q3:=ay9 N;rw[q1,q3];obtain⟨b,k1,k2,k3,k4,k5,k6,k7⟩:=amt M P.dy h;exact⟨b,W,dj,_,k1,k2,k3,k4,k5,k6,k7,H,λh=>by simp[DK,dH] at h⟩;cases h;cases h;cases h;cases h
 |_=>simp[dH] at R
def azf(bs:Gb B D){x y:OM}{ag:cU}{s:S}{O:ai}(bt:y.so=E)(bx:Ux B x y=J)(ha:∀d,x.o.dst=U d->yQ s d)
  (e1:Y O.i=s.ni)(e2:Y O.b=s.nb)(e3:Y O.r=Y s.rs)
  (h:eP p A B D F H L (x::y::ag) O s):eP p A B D F H L (y::x::ag) O s:=by
 obtain⟨f,Q⟩:=amq bx;obtain⟨v,l,P,h⟩:=(amp Q.xd Q.qx).1 h;rw[Q.dst] at h;have a0:=ha f Q.dst;have a3:∀z,(U f:cH)=U z->y.o.dst≠U z:=λz hz=>by cases hz;exact Q.dy
 have al:lH A B y.o (s.dv (U f) v l) O s O:=lH.Ao (λt G=>(L6 (λe=>Q.ry (by cases e;exact G))).symm) rfl rfl rfl;have an:∀(a:S)(O':ai),(iH B x s O=U E->iH B x a O'=U E)->(iH B x s O=U J->lH A B x.o s O a O')->(iH B x s O=U J->∀i,BO A.gl s x.o.op=U i->cJ a.ao i=cJ s.ao i)->eP p A B D F H L ag O' (a.dv (U f) v l)->eP p A B D F H L (x::ag) O' a:=by
  intro a O' b0 hs hb hr;refine(amp Q.xd Q.qx).2 ⟨v,l, ?_,by rw[Q.dst];exact hr⟩;cases ac:iH B x s O with
  |none=>rcases P with P|P<;>(rw[ac] at P;cases P.1)
  |some b=>
   cases b;rcases P with P|P;exact .inl ⟨b0 P.1,P.2⟩;rw[ac] at P;cases P.1;exact acS (hs ac) (hb ac) P
 simp only[eP] at h;rcases h with⟨h1,X⟩|⟨h1,X⟩;refine .inl ⟨al.guard h1, ?_⟩;rw[PU a3] at X;have c:lH A B x.o s O (s.put y.o.dst (.b9 [])) O:=lH.Ao (λt G=>mO (λe=>Q.yx t e G)) (gr _ _ _).2.2 (gr _ _ _).1 (gr _ _ _).2.1;refine an _ _ c.guard (λ_=>c) (λ_ i _=>by rw[mu]) X
 ·refine .inr ⟨al.guard h1, ?_⟩;have hg:iH B y s O=U true:=al.guard h1;have b5:eN A s y.o=eN A (s.dv (U f) v l) y.o:=I3 (al.ev A.gl);rw[b5];cases a1:eN A (s.dv (U f) v l) y.o with
  |call g0 j=>
   rw[a1] at X;rcases g0 with g|n
   rotate_left
   have h3:=X.1;rw[bt] at h3;cases h3;have b6:D g j (s.dv (U f) v l)=D g j s:=bs.q _ _ _ _ _ _;show qW _ _ _;have X:qW _ _ _:=X;rw[b6] at X;cases bf:D g j s with
   |some ve=>
    obtain⟨pv,ex⟩:=ve;rw[bf] at X;obtain⟨b7,X⟩:=X;have b8:s.bd=true:=by
     have:=L7 (s:=s) (dx:=f) (v:=v) (l:=l) (cs:=[]) (by simp only[S.fz,b7,C.jo,wW]) a0;simp only[S.fz,aA] at this;exact this.1
    have ca:(((s.dv (U f) v l).plus ex).put y.o.dst pv)=(((s.plus ex).put y.o.dst pv).dv (U f) v l):=by
     rw[<-PU a3];rfl
    rw[ca] at X;have c:lH A B x.o s O ((s.plus ex).put y.o.dst pv) O:=lH.Ao (λt G=>mO (λe=>Q.yx t e G)) (gr _ _ _).2.2 (gr _ _ _).1 (gr _ _ _).2.1;refine⟨b8,an _ _ c.guard (λ_=>c) (λac i hi=> ?_) X⟩;rw[mu];exact amk (ams P ac hi).1
   |none=>
   rw[bf] at X;simp only[qW] at X⊢;obtain⟨ts,N,r,c1,c2,c3,c4,c5⟩:=X;obtain⟨f1,f2⟩:=azb N (s.cut j N) (U f) v l;have cc:(s.fz j&&qQ N)=true:=by
    simp only[aA] at c4⊢;exact⟨L7 c4.1 a0,c4.2⟩
   refine⟨ts,N,r,c1,c2,by rw[<-f1];exact c3,cc,λV W R=> ?_⟩;refine(c5 V W (by rw[Ed];exact R)).mono ?_;intro e W' he;cases e with
   |returned u=>
    obtain⟨xs,q1,q2,q3,q4,q5⟩:=he;refine⟨xs,q1,q2,q3,q4, ?_⟩;have q5:eP p A B D F H L ag (O.ext xs) ((((s.cut j N).dv (U f) v l).cK N).2.put y.o.dst (one r)):=q5;rw[f2,PU a3] at q5;obtain⟨b1,b2,b3,b4⟩:=yP N (s.cut j N);obtain⟨l1,l2,l3⟩:=An N xs (s.cut j N) O q1 e1 e2 (e3.trans (Ga j N s.rs).len.symm);have a4:=UX xs O;have bg:Cg A.ty s ((((s.cut j N).cK N).2).put y.o.dst (one r)):=by
     intro q e he M;refine Vw (λk e _ M=> ?_) he M;rw[(gr _ _ _).2.2];obtain⟨e',g1,g2⟩:∃e',(DJ j N s.rs)[k]?=U e'/\e'.rd=e.rd:=by
      unfold DJ;split;refine⟨zY ((O6 j (Y s.rs)).contains k) e,by rw[LJ,M];simp, ?_⟩;cases e<;>simp only[zY]<;>try rfl
      split<;>rfl;exact⟨e,M,rfl⟩
     exact⟨e',alT N (s.cut j N) k e' g1,g2⟩
    have c:lH A B x.o s O ((((s.cut j N).cK N).2).put y.o.dst (one r)) (O.ext xs):=by
     refine⟨λt G=> ?_,λ_ _=>bg,λt x r w i bk _ _=>bg r, ?_, ?_, ?_, ?_⟩;rw[mO (λe=>Q.yx t e G),b2];rfl;rw[(gr _ _ _).1,<-l1,<-e1];exact a4.1;rw[(gr _ _ _).2.1,<-l2,<-e2];exact a4.2.1;rw[(gr _ _ _).2.2,<-l3,<-e3];exact a4.2.2;rw[<-e1,<-e2,<-e3];exact F0 xs O
    exact an _ _ c.guard (λ_=>c) (λ_ i _=>by rw[mu,b1];rfl) q5
   |panicked ch=>exact he
   |outgrown=>exact he
  |bD w=>
   have:=acV a1;rw[Q.np] at this;cases this
  |no=>rw[a1] at X;exact X
  |op=>
   rw[a1] at X;simp only at X⊢;cases a9:eY A y.o y.bP y.dr (s.dv (U f) v l) with
   |some b1=>
    rw[a9] at X;obtain⟨hn,X⟩:=X;obtain⟨b,cl,dj,kk,g1,g2,g3,g4,g5,g6,g7,g8,g9⟩:=aze Q a0 (al.ev A.gl) a9;rw[g1];subst g2;refine⟨hn,λrv cn=>an _ _ ?_ ?_ ?_ (X rv cn)⟩;intro cp;have ct:lH A B {x.o with op:=.move (.const undef)} s O b.s (O.add (.r rv)):=⟨λt G=>g3 t (λe=>Q.yx t e (by
     unfold ky at G⊢;refine(fh.1 G).elim (λh=> ?_) (λh=>OA _ h);simp[iY] at h)),λh=>by simp[looks] at h,λt x0 r w i bk h=>by simp at h,FI g4.symm,FI g5.symm,by rw[g6];simp[Cb,Ca],by rw[<-e1,<-e2,<-e3];exact UM O (.r rv)⟩
    exact ct.guard (m:={x with o:={x.o with op:=.move (.const undef)}}) cp;intro ac;have bl:∀(k:Nat)(e:RK),k∉cl->s.rs[k]?=U e->∃e',b.s.rs[k]?=U e'/\e'.rd=e.rd:=by
     intro k e cv M;have cx:k<Y s.rs:=(cj.1 M).1;refine⟨zY (dj.contains k) e, ?_, ?_⟩;rw[g6,dZ (by simp[Cb,Ca];exact cx),LJ,LI,M];simp[cv];cases e<;>simp only[zY]<;>try rfl
     split<;>rfl
    refine⟨λt G=>g3 t (λe=>Q.yx t e G),λcy cA=> ?_,λt x0 r w i bk ho hx e he M=> ?_,FI g4.symm,FI g5.symm,by rw[g6];simp[Cb,Ca],by rw[<-e1,<-e2,<-e3];exact UM O (.r rv)⟩;cases af:DK y.o.op with
    |true=>
     have:=(Q.rb af cy).1;rw[cA] at this;cases this
    |false=>
     intro r e he M;exact Vw (λk e _ M=>bl k e (by rw[g9 af];simp) M) he M
    refine Vw (λk e cB M=>bl k e ?_ M) he M;intro bb;have af:DK y.o.op=true:=by
     cases af:DK y.o.op with
     |true=>rfl
     |false=>rw[g9 af] at bb;cases bb
    obtain⟨-,r1,r2⟩:=Q.rb af (by rw[ho];rfl);have br:=g8 k bb r2;rcases P with P|⟨-,-,P⟩;rw[ac] at P;cases P.1;rw[ho] at P;have:=P.2;rw[hx,r1] at this;simp only[OW,cB,cN] at this;rw[this,FG] at br;simp[awZ] at br;intro _ i _;rw[g7]
   |none=>
   rw[a9] at X;have cC:eY A y.o y.bP y.dr s=none:=by
    cases hb:eY A y.o y.bP y.dr s with
    |none=>rfl
    |some b=>
     exfalso;have cD:=L8 (by rw[Q.yd] at hb;exact hb);obtain⟨s2,h3,-⟩:=X;exact acX cD h3
   rw[cC];simp only[uA] at X⊢;obtain⟨s2,h3,h4⟩:=X;obtain⟨a,g1,g2,g3,g4,g5,g6,g7⟩:=ay7 Q a0 hg h3;subst g2;have c:lH A B x.o s O a O:=lH.Ao (λt G=>g3 t (λe=>Q.yx t e G)) g6 g4 g5;refine⟨a,g1,an a O c.guard (λ_=>c) ?_ h4⟩;intro ac i hi;obtain⟨k1,k2⟩:=ams P ac hi;rcases g7 i k1 with k3|⟨k3,k4,k5⟩;exact k3;rcases k2 with⟨k2,k6⟩|k2;obtain⟨r1,r2⟩:=Q.rc k3 k2;have:=k4 r2;rw[k6 r1,FG] at this;simp[awZ] at this;rw[k2] at k5;cases k5
end
section
variable{p:Sp}{cf:bL}{B:dU}{A:yF}{F:ai->S->Prop}{H:ai->C->S->Prop}{L:OM->cU->ai->S->Nat->ap->Prop}
def amu{m:OM}{s W:S}{O:ai}(h:(gN cf m s).gives O W):∀t,m.o.dst≠U t->W.tmps[t]?=s.tmps[t]?:=by
 intro q X;unfold gN at h;split at h;exact h.elim;split at h;split at h;split at h;cases h;rw[mO X];rfl;exact h.elim;exact h.elim;split at h;split at h;cases h;rw[mO X];rfl;exact h.elim;exact h.elim;split at h;split at h;split at h;split at h;cases h;rw[mO X];rfl;exact h.elim;exact h.elim;exact h.elim;exact h.elim;split at h;split at h;split at h;cases h;rw[mO X];rfl;exact h.elim;exact h.elim;exact h.elim;split at h;simp only[OR.gives] at h;split at h<;>(subst h;rw[mO X]);exact h.elim;obtain⟨v,-,rfl⟩:=Cd h;rw[L6 X];obtain⟨v,-,rfl⟩:=Cd h;rw[L6 X]
def acY{b:BI}(h:eY cf l e J R=U b):∀t,l.dst≠U t->b.s.tmps[t]?=R.tmps[t]?:=by
 intro q O;have Q:∀{bA:BE}{X:TypeId}{k:RK}{x:LE}{P dj:aq},kM R l.dst bA X k x P dj=U b->b.s.tmps[q]?=R.tmps[q]?:=by
  intro bA X k x P dj h;obtain⟨-,-,rfl⟩:=Aj h;simp only;rw[mO O]
 have W:=L8 h;unfold eY at h;cases N:l.op<;>rw[N] at W h<;>simp[vG] at W;simp only at h;split at h;split at h;split at h;exact Q h;cases h;cases h;cases h;rename_i c;cases V:c.callee with
 |builtin M=>
  cases M<;>simp[V] at W;simp only[V] at h;split at h;split at h;split at h;split at h;cases h;split at h;exact Q h;cases h;cases h;cases h;cases h
 |_=>simp[V] at W
def acZ{X W V:Nat}{R:Nat->Bool}:∀{l m:ap},C.ec X W V R (l++m)=J<->C.ec X W V R l=J/\C.ec X W V R m=J
 |[],m=>by simp[C.jo]
 |x::Q,m=>by simp[C.jo,acZ (l:=Q),and_assoc]
def xp{X W V:Nat}{R:Nat->Bool}:∀{l:ap},C.ec X W V R l=J<->∀v∈l,v.bd X W V R=J
 |[]=>by simp[C.jo]
 |x::Q=>by simp[C.jo,xp (l:=Q)]
def azg{W V:Nat}{R:Nat->Bool}(v:Value):(OO v).bd X W V R=true:=by
 have Q:∀w,(KT w).bd X W V R=true:=λw=>by cases w<;>simp[KT,C.bm,K.bm,BE.bm,RE.bm]
 cases v<;>try simp[OO,C.bm,K.bm,BE.bm,RE.bm]
 rw[xp];intro x P;obtain⟨w,-,rfl⟩:=iL.1 P;exact Q w
def Ci(X:R.bd=J){x:Operand}(W:yE x=J):(R.ev cf.gl x).bd R.ni R.nb (Y R.rs) (aW R.ao)=true:=by
 simp only[S.bd,aA] at X;cases x with
 |tmp t=>
  simp only[S.ev,yw,dL];cases V:R.tmps[t]? with
  |none=>simp[C.bm]
  |some v=>exact xl X.1 V
 |const v=>exact azg v
 |global g=>cases W
 |func f=>simp[S.ev,C.bm,C.jo]
def ac0{W V:Nat}{R:Nat->Bool}(h:t.bd X W V R=J):C.ec X W V R t.cells=true:=by
 cases t<;>simp only[C.cells,C.jo,OJ]<;>first|exact h|(simp only[C.bm] at h;exact h)
def ac1{X W V:Nat}{R:Nat->Bool}:∀{vs l:ap}{Q:Nat},C.ec X W V R l=J->C.ec X W V R vs=J->C.ec X W V R (lW l Q vs)=J
 |[],l,Q,h,_=>h
 |v::vs,l,Q,h,P=>by
  simp only[C.jo,aA] at P;rw[lW];refine ac1 (vs:=vs) ?_ P.2;rw[xp] at h⊢;intro x N;rcases Fv N with O|O;exact h x O;rw[O];exact P.1
def amv{V R Q:Nat}{P:Nat->Bool}{place:Nat->Option (Nat×Nat)}:∀{O:List (Nat×C)}{W l:ap},C.ec V R Q P W=J->(∀q∈O,q.2.bd V R Q P=J)->zW place W O=U l->C.ec V R Q P l=J
 |[],W,l,h,_,X=>by simp[zW] at X;subst X;exact h
 |(i,v)::r,W,l,h,N,X=>by
  simp only[zW] at X;split at X;cases X;split at X;cases X;exact amv (ac1 h (ac0 (N (i,v) OE))) (λq M=>N q (Fy _ M)) X
def VA{W V:Nat}{R:Nat->Bool}(Q:TI):C.ec X W V R (eA Q)=true:=by
 rw[xp];intro x P;obtain⟨c,-,rfl⟩:=iL.1 P;cases c<;>simp[Dy,C.bm,K.bm,BE.bm,RE.bm]
def amw{X W V:Nat}{R:Nat->Bool}{l:ap}(h:C.ec X W V R l=J):∀n,C.ec X W V R (yB n l)=J
 |0=>rfl
 |n+1=>by rw[yB,acZ];exact⟨h,amw h n⟩
mutual
def C.PV{W V R:Nat}{Q P:Nat->Bool}(h:∀i,Q i=J->P i=J):∀(v:C),v.bd W V R Q=J->v.bd W V R P=J
 |.int _ _,X=>by simp only[C.bm] at X⊢;exact X
 |.bool _,X=>by simp only[C.bm] at X⊢;exact X
 |.aj _,X=>by simp only[C.bm] at X⊢;exact X
 |.loc i _,X=>by simp only[C.bm] at X⊢;exact h i X
 |.jM i _ _ _,X=>by simp only[C.bm] at X⊢;exact h i X
 |.el _ _ _ _,X=>by simp only[C.bm] at X⊢;exact X
 |.agg l,X=>by simp only[C.bm] at X⊢;exact C.Ge h l X
 |.b9 l,X=>by simp only[C.bm] at X⊢;exact C.Ge h l X
 |.fn _ l,X=>by simp only[C.bm] at X⊢;exact C.Ge h l X
 |.gF _ x,X=>by simp only[C.bm] at X⊢;exact C.PV h x X
 |.yl _,_=>by simp only[C.bm]
 |.any,_=>by simp only[C.bm]
 |.mp i,X=>by simp only[C.bm] at X⊢;exact h i X
 |.gz _ _ O,X=>by simp only[C.bm,aA] at X⊢;exact⟨X.1,C.Ge h O X.2⟩
def C.Ge{W V R:Nat}{Q P:Nat->Bool}(h:∀i,Q i=J->P i=J):∀(l:ap),C.ec W V R Q l=J->C.ec W V R P l=J
 |[],_=>rfl
 |x::O,X=>by simp only[C.jo,aA] at X⊢;exact⟨C.PV h x X.1,C.Ge h O X.2⟩
end
def Ee{V R Q:Nat}{P:Nat->Bool}:∀{l:bK},C.rO V R Q P l=J<->∀(i:Nat)(b:TypeId×ap),cJ l i=U b->C.ec V R Q P b.2=J
 |[]=>by simp[C.rO,dC]
 |Z::W=>by
  simp only[C.rO,Ee (l:=W)];exact⟨λh i b X=>by cases i with
   |zero=>simp[dC] at X
   |succ i=>exact h i b (by simpa[dC] using X),λh i b X=>h (i+1) b (by simpa[dC] using X)⟩
 |some x::W=>by
  simp only[C.rO,aA,Ee (l:=W)];exact⟨λh i b X=>by cases i with
   |zero=>simp[dC] at X;subst X;exact h.1
   |succ i=>exact h.2 i b (by simpa[dC] using X),λh=>⟨h 0 x (by simp[dC]),λi b X=>h (i+1) b (by simpa[dC] using X)⟩⟩
def S.more(s:S)(n:Nat)(t:TypeId)(X:ap)(d:cH)(w:C):S:=(s.dl n t X).put d w
def amx{d:cH}(P:R.bd=J)(F:gG R.ao X=J)(G:R.fz b=J)(D:t.bd R.ni R.nb (Y R.rs) (λi=>i==X)=J):(R.more X v b d t).bd=true:=by
 have M:=(nM F).2;have O:∀i,aW R.ao i=J->aW (R.ao.set X (U (v,b))) i=true:=λi Q=>(qh M).2 (.inr Q)
 simp only[S.fz,S.bd,aA] at P G;simp only[S.more,S.bd,aA];obtain⟨B,A,z⟩:=gr (R.dl X v b) d t;rw[B,A,z,mu];simp only[S.dl];refine⟨?_, ?_⟩;rw[xp];intro W L;cases d with
 |none=>exact C.PV O W (xp.1 P.1 W L)
 |some d=>
  simp only[S.put,wZ] at L;rcases Fv L with H|H;exact C.PV O W (xp.1 P.1 W H);rw[H];exact C.PV (λi Q=>by simp at Q;subst Q;exact(qh M).2 (.inl rfl)) t D
 rw[Ee];intro i V N;by_cases Q:i=X;subst Q;rw[IR M] at N;cases N;exact C.Ge O b G.2;rw[Ah Q] at N;exact C.Ge O _ (Ee.1 P.2 i V N)
def ac2{y:OM}{s r:S}{O:ai}(c:gW y.o.op=J)(b:y.o.op.operands.toList.all yE=J)(h:ju cf y s O r):
  ∃t N w,r=s.more y.ix t N y.o.dst w/\gG s.ao y.ix=J/\(∀a nb nr,w.bd a nb nr (λi=>i==y.ix)=J)/\
   ∀(X:S)(F:ai),(∀x∈y.o.op.operands.toList,X.ev cf.gl x=s.ev cf.gl x)->X.bd=J->gG X.ao y.ix=J->X.fz N=J/\ju cf y X F (X.more y.ix t N y.o.dst w):=by
 unfold ju gN at h;split at h;exact h.elim;rename_i hk;have n:∀x∈y.o.op.operands.toList,yE x=true:=f9.1 b;have A:∀X:S,(∀x∈y.o.op.operands.toList,X.ev cf.gl x=s.ev cf.gl x)->¬(y.o.op.operands.toList.any λz=>(X.ev cf.gl z).fk)=true:=by
  intro X V hh;obtain⟨z,m,ac⟩:=lT.1 hh;exact hk (lT.2 ⟨z,m,by rw[<-V z m];exact ac⟩)
 split at h;rename_i t W;split at h;rename_i D M;split at h;rename_i R;simp only[aA] at R;refine⟨t,eA D,.loc y.ix 0,h,ux R.2,λ_ _ _=>by simp[C.bm],λX F V P L=> ?_⟩;have Q:X.fz (eA D)=true:=by simp only[S.fz,P,Du];exact VA D
 refine⟨Q, ?_⟩;unfold ju gN;rw[aP (A X V)];have H:qP X.ao y.ix t=true:=by simp[qP,L,LH R.2]
 simp only[W,M,Q,H,wW,cN];rfl;exact h.elim;exact h.elim;rename_i t z W;split at h;rename_i D M;split at h;rename_i R;simp only[aA] at R;obtain⟨⟨⟨l,k⟩,B⟩,j⟩:=R;refine⟨t,(s.ev cf.gl z).cells,.loc y.ix 0,h,ux j,λ_ _ _=>by simp[C.bm],λX F V P L=> ?_⟩;have G:=V z (by rw[W];simp[iY]);have Q:X.fz (s.ev cf.gl z).cells=true:=by
  simp only[S.fz,P,Du];rw[<-G];exact ac0 (Ci P (n z (by rw[W];simp[iY])))
 refine⟨Q, ?_⟩;unfold ju gN;rw[aP (A X V)];have H:qP X.ao y.ix t=true:=by simp[qP,L,LH j]
 simp only[W,M,G,l,Q,B,H,wW,cN];rfl;exact h.elim;exact h.elim;rename_i t v parts W;split at h;rename_i e ak q M;split at h;rename_i te af;split at h;rename_i N g;split at h;rename_i R;simp only[aA] at R;obtain⟨⟨l,k⟩,B⟩:=R;refine⟨e,N,.jM y.ix 0 v v,h,ux B,λ_ _ _=>by simp[C.bm],λX F V P L=> ?_⟩;have G:(parts.toList.map λp=>(p.1,X.ev cf.gl p.2))=parts.toList.map λp=>(p.1,s.ev cf.gl p.2):=kJ λp u=>by rw[V p.2 (by rw[W];simp[iY];exact⟨p.1,by simpa using u⟩)]
 have Q:X.fz N=true:=by
  simp only[S.fz,P,Du];refine amv (amw (VA te) v) (λq f=> ?_) g;rw[<-G] at f;obtain⟨d,u,rfl⟩:=iL.1 f;exact Ci P (n d.2 (by rw[W];simp[iY];exact⟨d.1,by simpa using u⟩))
 refine⟨Q, ?_⟩;unfold ju gN;rw[aP (A X V)];have H:qP X.ao y.ix e=true:=by simp[qP,L,LH B]
 simp only[W,M,af,G,g,Q,k,H,wW,cN];rfl;exact h.elim;exact h.elim;exact h.elim;exact h.elim
 all_goals(rename_i W;simp[gW,W] at c)<;>skip
def PW(h:gW l.op=J):eN cf R l=.op:=by
 unfold eN;cases X:l.op<;>rw[X] at h<;>simp[gW] at h<;>rfl
def L9{X:Bool}(h:gW l.op=J)(W:X=J):eY cf l e X R=none:=by
 subst W;unfold eY;cases V:l.op<;>rw[V] at h<;>simp[gW] at h<;>first|rfl|simp
def Aq(s:S)(n:Nat)(t:TypeId)(X:ap)(d:cH)(w:C):(s.more n t X d w).ni=s.ni/\(s.more n t X d w).nb=s.nb/\(s.more n t X d w).rs=s.rs:=gr _ _ _
def Ma{d:cH}{q:Nat}(h:d≠U q):(R.more X v b d t).tmps[q]?=R.tmps[q]?:=mO h
def Ef(s:S)(n:Nat)(t:TypeId)(X:ap)(d:cH)(w:C):(s.more n t X d w).ao=s.ao.set n (U (t,X)):=mu _ _ _
def Eg{d e:cH}{w:C}(h:∀x,d=U x->e≠U x):(R.put d t).more X v b e w=(R.more X v b e w).put d t:=by
 unfold S.more;have:(R.put d t).dl X v b=(R.dl X v b).put d t:=by cases d<;>rfl
 rw[this,acT h]
def ac3{s:S}{n n':Nat}{X:TypeId}{W:ap}{d e:cH}{w:C}(h:∀x,d=U x->e≠U x)(V:n≠n'):(s.more n v b d t).more n' X W e w=(s.more n' X W e w).more n v b d t:=by
 show((s.dl n v b).put d t).more n' X W e w=_;rw[Eg h];unfold S.more;have:((s.dl n v b).dl n' X W).put e w=((s.dl n' X W).put e w).dl n v b:=by
  have R:(s.dl n v b).dl n' X W=(s.dl n' X W).dl n v b:=by simp only[S.dl];rw[List.set_comm _ _ V]
  rw[R];cases e<;>rfl
 rw[this]
def amy:∀{l:ap}{P O N:Nat}{V:Nat->Bool}{i:Nat},C.ec P O N V l=J->i∈C.p7 l->V i=true:=by
 have L:∀(n:Nat)(l:ap),SizeOf.sizeOf l<n->∀{P O N:Nat}{V:Nat->Bool}{i:Nat},C.ec P O N V l=J->i∈C.p7 l->V i=true:=by
  intro n;induction n with
  |zero=>intro l h;omega
  |succ n R=>
   intro l Q P O N V i W X;cases l with
   |nil=>simp[C.p7] at X
   |cons x M=>
    simp only[C.jo,aA] at W;simp only[C.p7,fh] at X;simp only[List.cons.sizeOf_spec] at Q;rcases X with X|X;cases x with
    |loc j o=>simp[C.Ip] at X;subst X;simpa only[C.bm] using W.1
    |jM j a b c=>simp[C.Ip] at X;subst X;simpa only[C.bm] using W.1
    |agg m=>exact R m (by simp at Q;omega) (by simpa only[C.bm] using W.1) X
    |b9 m=>exact R m (by simp at Q;omega) (by simpa only[C.bm] using W.1) X
    |fn f m=>exact R m (by simp at Q;omega) (by simpa only[C.bm] using W.1) X
    |gF t y=>exact R [y] (by
     have H:0<SizeOf.sizeOf M:=by cases M<;>simp<;>omega
     simp at Q⊢;omega) (by simpa[C.jo,C.bm] using W.1) (by simpa[C.p7,C.Ip] using X)
    |mp j=>simp[C.Ip] at X;subst X;simpa only[C.bm] using W.1
    |gz e G m=>exact R m (by simp at Q;omega) (by have:=W.1;simp only[C.bm,aA] at this;exact this.2) X
    |_=>simp[C.Ip] at X
    exact R M aa W.2 X
 intro l P O N V i;exact L _ l (Nat.lt_succ_self _)
def amz{l:bK}{x:TypeId×ap}(h:X∉r)(R:gG l X=J):sM r 0 (l.set X (U x))=sM r 0 l:=by
 apply kK;intro i;rw[Vm,Vm,jz];by_cases W:i=X;subst W;have V:=(nM R).2;rw[H0 V,cL V];simp[h];rw[sI (λe=>W e.symm)]
def amA(X:aY)(s:S)(n:Nat)(t:TypeId)(W:ap)(d:cH)(w:C):((s.more n t W d w).cK X).1=(s.cK X).1/\((s.more n t W d w).cK X).2=(s.cK X).2.more n t W d w:=by
 induction X generalizing s with
 |nil=>exact⟨rfl,rfl⟩
 |cons k X V=>
  simp only[S.cK];have R:((s.more n t W d w).fresh k).1=(s.fresh k).1/\((s.more n t W d w).fresh k).2=(s.fresh k).2.more n t W d w:=by
   cases k<;>cases d<;>exact⟨rfl,rfl⟩
  rw[R.1,R.2];exact⟨by rw[(V _).1],(V _).2⟩
def VB(s:S)(X:ap)(W:aY)(n:Nat)(t:TypeId)(V:ap)(d:cH)(w:C):(s.more n t V d w).cut X W=(s.cut X W).more n t V d w:=by cases d<;>rfl
def azh{d:cH}(h:(R.put d t).bd=J)(X:∀e,d=U e->yQ R e):R.bd=true:=by
 cases d with
 |none=>exact h
 |some d=>
  simp only[S.bd,S.put,wZ,aA] at h⊢;exact⟨acW h.1 (X d rfl),h.2⟩
def amB{V:cH}{d:cH}{bA:BE}{e:TypeId}{k:RK}{x:LE}{dj:aq}{W:BI}(O:(R.more X v b V t).bd=J)(N:∀q,V=U q->d≠U q)
  (h:kM R d bA e k x r dj=U W):kM (R.more X v b V t) d bA e k x r dj=U {W with s:=W.s.more X v b V t}:=by
 unfold kM at h⊢;split at h;rename_i Q;cases h;simp only[aA] at Q;obtain⟨⟨⟨A,M⟩,L⟩,H⟩:=Q;obtain⟨G,F,P⟩:=Aq R X v b V t;rw[aL (by simp only[aA];rw[G,F,P];exact⟨⟨⟨O,M⟩,L⟩,H⟩)];congr 2;rw[P,Eg (λq D B=>N q B D)];cases V<;>rfl;cases h
def azi{W:cH}{V:Ty}{e:TypeId}{Q:TI}{y:C}{r:LE×BE×aq}(O:gG R.ao X=J)(h:sN V R e Q y=U r):sN V (R.more X v b W t) e Q y=U r:=by
 have cG:(R.more X v b W t).rs=R.rs:=(Aq _ _ _ _ _ _).2.2;unfold sN at h⊢;split at h;simp only[D7 cG];exact h;rename_i i M L H;rw[Ef];split at h;rename_i P;have N:i≠X:=λe=>by subst e;have:=(nM O).1;simp[aW,(Af P).1] at this
 rw[Po (Ah N)];simp only[P,Gd cG];exact h;cases h;cases h
def amC{V:cH}{W:TypeId}{y:C}:yC (R.more X v b V t) W e y=yC R W e y:=by
 have cG:(R.more X v b V t).rs=R.rs:=(Aq _ _ _ _ _ _).2.2;have Q:(R.more X v b V t).lk=R.lk:=Vz _ _ _;unfold yC;simp only[cG,Q]
def azj{Q:cH}{W:BI}(L:gG R.ao X=J)(N:(R.more X v b Q t).bd=J)(M:∀q,Q=U q->l.dst≠U q)
  (P:∀z∈l.op.operands.toList,(R.more X v b Q t).ev cf.gl z=R.ev cf.gl z)(h:eY cf l e J R=U W):eY cf l e J (R.more X v b Q t)=U {W with s:=W.s.more X v b Q t}:=by
 have cG:(R.more X v b Q t).rs=R.rs:=(Aq _ _ _ _ _ _).2.2;have O:=L8 h;unfold eY at h⊢;cases H:l.op<;>rw[H] at O h P<;>simp[vG] at O;rename_i d G F;simp only at h⊢;rw[P G cQ,P F cQ];split at h;rename_i V ak q D a B A y;split at h;rename_i x u;split at h;rename_i r;rw[Gd cG,aL r];exact amB N M h;cases h;cases h;cases h;rename_i c;cases dH:c.callee with
 |builtin m=>
  cases m<;>simp[dH] at O;simp only[dH] at h⊢;have k:c.args.toList.map ((R.more X v b Q t).ev cf.gl)=c.args.toList.map (R.ev cf.gl):=kJ λz j=>P z (by simp[iY,BH];exact .inr (by simpa using j))
  rw[k];split at h;rename_i t1 t2 x0 y0 A y;split at h;rename_i V ak q e2 ac q2 B af;split at h;rename_i x u;split at h;cases h;rename_i i;rw[aP i,amC];split at h;rename_i la n1 ag lb D dj g f;rw[g,azi L f];exact amB N M h;cases h;cases h;cases h;cases h
 |_=>simp[dH] at O
mutual
def C.eJ{Q P O N M L:Nat}{H G:Nat->Bool}(W:Q<=N)(V:P<=M)(R:O<=L)(h:∀i,H i=J->G i=J):∀(v:C),v.bd Q P O H=J->v.bd N M L G=J
 |.int _ e,X=>by simp only[C.bm] at X⊢;exact K.eJ W V R e X
 |.bool e,X=>by simp only[C.bm] at X⊢;exact BE.eJ W V R e X
 |.aj e,X=>by simp only[C.bm] at X⊢;exact RE.eJ W V R e X
 |.loc i _,X=>by simp only[C.bm] at X⊢;exact h i X
 |.jM i _ _ _,X=>by simp only[C.bm] at X⊢;exact h i X
 |.el r _ i _,X=>by simp only[C.bm,aA] at X⊢;exact⟨RE.eJ W V R r X.1,K.eJ W V R i X.2⟩
 |.agg l,X=>by simp only[C.bm] at X⊢;exact C.Mb W V R h l X
 |.b9 l,X=>by simp only[C.bm] at X⊢;exact C.Mb W V R h l X
 |.fn _ l,X=>by simp only[C.bm] at X⊢;exact C.Mb W V R h l X
 |.gF _ x,X=>by simp only[C.bm] at X⊢;exact C.eJ W V R h x X
 |.yl _,_=>by simp only[C.bm]
 |.any,_=>by simp only[C.bm]
 |.mp i,X=>by simp only[C.bm] at X⊢;exact h i X
 |.gz e _ F,X=>by simp only[C.bm,aA] at X⊢;exact⟨K.eJ W V R e X.1,C.Mb W V R h F X.2⟩
def C.Mb{W V R Q P O:Nat}{N M:Nat->Bool}(L:W<=Q)(H:V<=P)(G:R<=O)(h:∀i,N i=J->M i=J):∀(l:ap),C.ec W V R N l=J->C.ec Q P O M l=J
 |[],_=>rfl
 |x::F,X=>by simp only[C.jo,aA] at X⊢;exact⟨C.eJ L H G h x X.1,C.Mb L H G h F X.2⟩
end
def PY{s':S}{d:cH}(X:R.bd=J)(V:R.ni<=s'.ni)(Q:R.nb<=s'.nb)(P:Y R.rs<=Y s'.rs)(N:s'.tmps=R.tmps)(M:s'.ao=R.ao)(L:t.bd s'.ni s'.nb (Y s'.rs) (aW s'.ao)=J):(s'.put d t).bd=true:=by
 simp only[S.bd,aA] at X⊢;obtain⟨H,G,F⟩:=gr s' d t;rw[H,G,F,mu,M];rw[M] at L;refine⟨?_, ?_⟩;rw[xp];intro u W;cases d with
 |none=>
  simp only[S.put,N] at W;exact C.eJ V Q P (λ_ h=>h) u (xp.1 X.1 u W)
 |some d=>
  simp only[S.put,wZ,N] at W;rcases Fv W with O|O;exact C.eJ V Q P (λ_ h=>h) u (xp.1 X.1 u O);rw[O];exact L
 rw[Ee];exact λi b D=>C.Mb V Q P (λ_ h=>h) _ (Ee.1 X.2 i b D)
def ac4:∀(X:aY)(s:S),s.ni<=(s.cK X).2.ni/\s.nb<=(s.cK X).2.nb/\Y s.rs<=(s.cK X).2.rs.length
 |[],s=>⟨cg _,cg _,cg _⟩
 |k::X,s=>by
  have:=ac4 X (s.fresh k).2;simp only[S.cK];cases k<;>simp[S.fresh] at this⊢<;>omega
def amD{pr:Nat->Bool}:∀(X:aY)(s:S),C.ec (s.cK X).2.ni (s.cK X).2.nb (s.cK X).2.rs.length pr (s.cK X).1=J
 |[],s=>rfl
 |k::X,s=>by
  have W:=amD (pr:=pr) X (s.fresh k).2;have V:=ac4 X (s.fresh k).2;simp only[S.cK,C.jo,aA];refine⟨?_,W⟩;cases k<;>simp only[S.fresh,C.bm,K.bm,BE.bm,RE.bm,cz]<;>simp[S.fresh] at V<;>omega
def amE{N:Ty}{W V R:Nat}{Q:Nat->Bool}:∀{O:kw}{l r:ap},C.ec W V R Q l=J->BS N O l=U r->C.ec W V R Q r=J
 |[],l,r,_,h=>by simp[BS] at h;subst h;rfl
 |t::O,l,r,X,h=>by
  simp only[BS] at h;split at h;rename_i M F;split at h;rename_i D L;cases h;have H:C.ec W V R Q (l.drop (Y M.ak))=true:=by rw[xp] at X⊢;exact λv P=>X v (Dt P)
  simp only[C.jo,aA];refine⟨?_,amE H L⟩;split;simp only[C.bm];rw[xp] at X⊢;exact λv P=>X v (Fz P)
  rw[dL];cases G:l[0]? with
  |none=>simp[C.bm]
  |some v=>exact xl X G
  cases h;cases h
def azk{W V:Nat}{R:Nat->Bool}(h:C.ec X W V R b=J):(one b).bd X W V R=true:=by
 unfold one;split;simp only[C.jo,OJ] at h;exact h;simp only[C.bm];exact h
def azl(W:R.bd=J){X:aY}{V:kw}{r:ap}{d:cH}(h:BS cf.ty V ((R.cut b X).cK X).1=U r):((((R.cut b X).cK X).2).put d (one r)).bd=true:=by
 obtain⟨Q,P,L,H⟩:=yP X (R.cut b X);obtain⟨O,N,M⟩:=ac4 X (R.cut b X);refine PY W O N ?_ P Q (azk (amE (amD X _) h));have:=(Ga b X R.rs).len;simp only[S.cut] at M⊢;omega
def PZ{b:BI}(h:eY cf l e J R=U b):R.bd=J/\b.s.bd=J/\b.s.ao=R.ao:=by
 have P:∀{bA:BE}{X:TypeId}{k:RK}{x:LE}{V dj:aq},kM R l.dst bA X k x V dj=U b->R.bd=J/\b.s.bd=J/\b.s.ao=R.ao:=by
  intro bA X k x V dj h;obtain⟨O,-,rfl⟩:=Aj h;refine⟨O, ?_,mu _ _ _⟩;exact PY (s':={R with rs:=kL dj 0 (jU V 0 R.rs)++[k]}) O (cg _) (cg _) (by simp[Cb,Ca]) rfl rfl (by simp[C.bm,RE.bm,Cb,Ca])
 have W:=L8 h;unfold eY at h;cases N:l.op<;>rw[N] at W h<;>simp[vG] at W;simp only at h;split at h;split at h;split at h;exact P h;cases h;cases h;cases h;rename_i c;cases Q:c.callee with
 |builtin M=>
  cases M<;>simp[Q] at W;simp only[Q] at h;split at h;split at h;split at h;split at h;cases h;split at h;exact P h;cases h;cases h;cases h;cases h
 |_=>simp[Q] at W
def ac5{Q:S}(V:gW h.o.op=J)(X:ju cf h R x Q):R.bd=true:=by
 unfold ju gN at X;split at X;exact X.elim
 ·cases P:h.o.op<;>rw[P] at V X<;>simp[gW] at V<;>simp only at X
  all_goals
   (repeat' split at X)
   all_goals first
    |exact X.elim
    |(rename_i W;simp only[aA,S.fz] at W;first|exact W.1.1|exact W.1.1.2.1|exact W.1.1.1)
def azm{X:TI}(W:h.o.op=.alloc v)(V:cf.ty v=U X)(Q:rJ v=E)(P:R.bd=J)(N:gG R.ao h.ix=J):ju cf h R x (R.more h.ix v (eA X) h.o.dst (.loc h.ix 0)):=by
 have M:R.fz (eA X)=true:=by simp only[S.fz,P,Du];exact VA X
 unfold ju gN;rw[aP (by rw[W];simp[iY])];have L:qP R.ao h.ix v=true:=by simp[qP,N,Q]
 simp only[W,V,M,L,wW,cN];rfl
def azn{y:OM}{s X:S}{O:ai}{t:TypeId}{W:TI}(V:y.o.op=.alloc t)(R:cf.ty t=U W)(h:ju cf y s O X):X=s.more y.ix t (eA W) y.o.dst (.loc y.ix 0):=by
 unfold ju gN at h;rw[aP (by rw[V];simp[iY])] at h;simp only[V,R] at h;split at h;exact h;exact h.elim
structure azo(B:dU)(x y:OM):Prop where
 xy:∀q,x.o.dst=U q->y.o.dst≠U q
 yx:∀q,y.o.dst=U q->x.o.dst≠U q
 ry:∀q,x.o.dst=U q->q∉ky B y.o
 rx:∀q,y.o.dst=U q->q∉ky B x.o
def amF{x y:OM}(h:Uy B x y=J):azo B x y:=by
 unfold Uy at h;simp only[aA] at h;obtain⟨W,V⟩:=h;have R:∀q,x.o.dst=U q->y.o.dst≠U q:=λq X=>by rw[X] at W;simp at W;exact W.2
 exact⟨R,λq X Q=>R q Q X,λq X=>by rw[X] at W;simp at W;exact W.1,λq X=>by rw[X] at V;simpa using V⟩
def ac6{X:S}(W:∀t∈ky B l,R.tmps[t]?=X.tmps[t]?):∀z∈l.op.operands.toList,R.ev cf.gl z=X.ev cf.gl z:=by
 intro z V;cases z with
 |tmp t=>
  have:t∈ky B l:=by unfold ky;exact zQ _ (FC.2 ⟨.tmp t,V,rfl⟩)
  simp only[S.ev,yw,dL,W t this]
 |_=>rfl
def amG{X:S}(W:∀t∈ky B h.o,R.tmps[t]?=X.tmps[t]?)(V:R.ni=X.ni)(Q:R.nb=X.nb)(P:R.rs=X.rs):iH B h R x=iH B h X x:=by
 unfold iH;cases N:h.o.guard with
 |none=>rfl
 |some q=>
  obtain⟨j,L⟩:=q;simp only;cases M:(B[j]?).bind (·.dst) with
  |none=>rfl
  |some d=>
   simp only;rw[W d (by unfold ky;rw[N];exact OA _ (by simp[M])),V,Q,P]
def amH{g:FuncId}(h:eN cf R l=.call (.fn g) b)(X:R.bd=J)(Q:l.op.operands.toList.all yE=J):C.ec R.ni R.nb (Y R.rs) (aW R.ao) b=true:=by
 have W:∀x∈l.op.operands.toList,yE x=true:=f9.1 Q;unfold eN at h;split at h;split at h<;>cases h;rename_i c V;split at h;rename_i f P;split at h;rename_i L H O;split at h;cases h;cases h;rw[acZ];refine⟨?_, ?_⟩;rw[xp];intro v N;obtain⟨z,M,rfl⟩:=iL.1 N;exact Ci X (W z (by rw[V];simp[iY,BH];exact .inr (by simpa using M)));have:=Ci (cf:=cf) X (W f (by rw[V];simp[iY,BH,P]));rw[O] at this;simpa only[C.bm] using this;split at h<;>cases h;cases h;cases h;split at h;split at h<;>cases h;cases h;cases h;cases h
def azp{g:FuncId}{Q D:ai->C->S->Prop}{M:ap}{d:cH}(H:gG R.ao X=J)(B:C.ec R.ni R.nb (Y R.rs) (aW R.ao) b=J)(q:(R.more X v M d t).bd=J)
  (h:L4 p cf R x g b Q)(o:∀A (L:kw)(N:aY)(r:ap),BS cf.ty L ((R.cut b N).cK N).1=U r->Q A (one r) ((R.cut b N).cK N).2->D A (one r) (((R.cut b N).cK N).2.more X v M d t)):L4 p cf (R.more X v M d t) x g b D:=by
 obtain⟨L,N,r,m,l,z,y,k⟩:=h;obtain⟨j,f,G⟩:=Aq R X v M d t;obtain⟨c,a⟩:=amA N (R.cut b N) X v M d t;have ac:X∉C.p7 b:=λhm=>by have:=amy B hm;rw[(nM H).1] at this;cases this
 have af:sM (C.p7 b) 0 (R.more X v M d t).ao=sM (C.p7 b) 0 R.ao:=by rw[Ef];exact amz ac H
 simp only[aA,S.fz] at y;refine⟨L,N,r,m,l,by rw[VB,c];exact z, ?_,λV W P=> ?_⟩;simp only[aA,S.fz];refine⟨⟨q, ?_⟩,y.2⟩;rw[j,f,G,Ef];exact C.Ge (λi hi=>(qh (nM H).2).2 (.inr hi)) b B;rw[af,G] at P;refine(k V W P).mono ?_;intro e W' F;cases e with
 |returned u=>
  obtain⟨xs,q1,q2,q3,q4,q5⟩:=F;refine⟨xs,q1,q2,q3,by rw[G];exact q4, ?_⟩;rw[VB,a];exact o _ L N r z q5
 |panicked ch=>exact F
 |outgrown=>exact F
def azq{g:FuncId}{Q F:ai->C->S->Prop}{M:ap}{d:cH}(D:gG R.ao X=J)(B:C.ec R.ni R.nb (Y R.rs) (aW R.ao) b=J)(m:R.bd=J)
  (h:L4 p cf (R.more X v M d t) x g b Q)(l:∀A (L:kw)(N:aY)(r:ap),BS cf.ty L ((R.cut b N).cK N).1=U r->Q A (one r) (((R.cut b N).cK N).2.more X v M d t)->F A (one r) ((R.cut b N).cK N).2):L4 p cf R x g b F:=by
 obtain⟨L,N,r,k,j,H,z,i⟩:=h;obtain⟨p1,p2,y⟩:=Aq R X v M d t;obtain⟨f,c⟩:=amA N (R.cut b N) X v M d t;have a:X∉C.p7 b:=λhm=>by have:=amy B hm;rw[(nM D).1] at this;cases this
 have ac:sM (C.p7 b) 0 (R.more X v M d t).ao=sM (C.p7 b) 0 R.ao:=by rw[Ef];exact amz a D
 simp only[aA,S.fz] at z;rw[VB,f] at H;refine⟨L,N,r,k,j,H, ?_,λV W P=> ?_⟩;simp only[aA,S.fz];exact⟨⟨m,B⟩,z.2⟩;refine(i V W (by rw[ac,y];exact P)).mono ?_;intro e W' G;cases e with
 |returned u=>
  obtain⟨xs,q1,q2,q3,q,o⟩:=G;rw[y] at q;rw[VB,c] at o;exact⟨xs,q1,q2,q3,q,l _ L N r H o⟩
 |panicked ch=>exact G
 |outgrown=>exact G
def azr(al:Gb B A){x y:OM}{u:cU}{s:S}{O:ai}(b2:x.so=E)(a3:K8 B x y=J)(b3:∀d,x.o.dst=U d->yQ s d)(N:gG s.ao y.ix=J)(hz:∀t,y.o.op=.alloc t->ID cf t=J)
  (h:eP p cf B A F H L (x::y::u) O s):eP p cf B A F H L (y::x::u) O s:=by
 unfold K8 at a3;simp only[aA] at a3;obtain⟨⟨⟨⟨⟨⟨⟨⟨a4,bl⟩,hy⟩,a9⟩,m⟩,b4⟩,br⟩,b5⟩,bs⟩:=a3;have a9:y.o.guard=none:=by simpa using a9
 have D:=amF b5;obtain⟨t,l⟩:∃t,y.o.op=.alloc t:=by cases l:y.o.op<;>rw[l] at hy<;>simp[IC] at hy;exact⟨_,rfl⟩
 have an:=hz t l;simp only[ID,aA,iK] at an;obtain⟨an,b6⟩:=an;obtain⟨V,ht⟩:=lB.1 an;have k:gW y.o.op=true:=by rw[l];rfl
 have bt:∀(s':S)(M:ai),iH B y s' M=U true:=λs' M=>by simp[iH,a9]
 have j:∀{M:ai}{i:S},eP p cf B A F H L (y::u) M i->i.bd=J/\eP p cf B A F H L u M (i.more y.ix t (eA V) y.o.dst (.loc y.ix 0)):=by
  intro M i hr;simp only[eP,bt,PW k,L9 k bl,uA] at hr;rcases hr with⟨Q,_⟩|⟨_,s3,X,P⟩;cases Q;have:=azn l ht X;subst this;exact⟨ac5 k X,P⟩
 have done:s.bd=J->eP p cf B A F H L (x::u) O (s.more y.ix t (eA V) y.o.dst (.loc y.ix 0))->eP p cf B A F H L (y::x::u) O s:=by
  intro W X;rw[eP];refine .inr ⟨bt s O, ?_⟩;rw[PW k];simp only[L9 k bl,uA];exact⟨_,azm l ht b6 W N,X⟩
 have a0:s.bd=J->(s.more y.ix t (eA V) y.o.dst (.loc y.ix 0)).bd=true:=λW=>amx W N (by simp only[S.fz,W,Du];exact VA V) (by simp[C.bm])
 obtain⟨p1,p2,p3⟩:=Aq s y.ix t (eA V) y.o.dst (.loc y.ix 0);have a:iH B x (s.more y.ix t (eA V) y.o.dst (.loc y.ix 0)) O=iH B x s O:=amG (λq hq=>Ma (λe=>D.rx q e hq)) p1 p2 p3;have ac:∀z∈x.o.op.operands.toList,(s.more y.ix t (eA V) y.o.dst (.loc y.ix 0)).ev cf.gl z=s.ev cf.gl z:=ac6 (λq hq=>Ma (λe=>D.rx q e hq));rw[eP] at h;rcases h with⟨Q,X⟩|⟨Q,X⟩
 ·obtain⟨g1,g2⟩:=j X;refine done (azh g1 b3) ?_;rw[eP];refine .inl ⟨by rw[a];exact Q, ?_⟩;rw[<-Eg D.xy];exact g2
 ·cases R:eN cf s x.o with
  |call g0 bf=>
   rw[R] at X;rcases g0 with g|n
   rotate_left
   have P:=X.1;rw[b2] at P;cases P;have G:qW _ _ _:=X;clear X;cases af:A g bf s with
   |some ve=>
    obtain⟨pv,ex⟩:=ve;rw[af] at G;obtain⟨W,G⟩:=G;have hR:=al.reg _ _ _ _ af;have bg:K7 x.o.op=true:=by simpa[hR,acR R] using bs
    have bk:=amm bg R;subst bk;refine done W ?_;rw[eP];refine .inr ⟨by rw[a];exact Q, ?_⟩;rw[I3 ac,R];show qW _ _ _;rw[show A g [] (s.more y.ix t (eA V) y.o.dst (.loc y.ix 0))=U (pv,ex) from(al.z _ _ _ _ _ _ _ N).trans af];refine⟨a0 W, ?_⟩;have b7:=(nM N).2;have b8:(s.more y.ix t (eA V) y.o.dst (.loc y.ix 0)).plus ex=(s.plus ex).more y.ix t (eA V) y.o.dst (.loc y.ix 0):=by
     have:(s.dl y.ix t (eA V)).plus ex=(s.plus ex).dl y.ix t (eA V):=by
      simp only[S.dl,S.plus,List.set_append_left _ _ b7]
     unfold S.more;rw[<-this];cases y.o.dst<;>rfl
    rw[b8,<-Eg D.xy];exact(j G).2
   |none=>
   rw[af] at G;simp only[qW] at G;have X:=G;have W:s.bd=true:=by obtain⟨ts,ks,r,c1,c2,c3,c4,c5⟩:=X;simp only[aA,S.fz] at c4;exact c4.1.1
   refine done W ?_;rw[eP];refine .inr ⟨by rw[a];exact Q, ?_⟩;rw[I3 ac,R];show qW _ _ _;have ca:A g bf (s.more y.ix t (eA V) y.o.dst (.loc y.ix 0))=none:=by
    cases hh:A g bf (s.more y.ix t (eA V) y.o.dst (.loc y.ix 0)) with
    |none=>rfl
    |some r=>
     exfalso;have hR:=al.reg _ _ _ _ hh;have bg:K7 x.o.op=true:=by simpa[hR,acR R] using bs
     have bk:=amm bg R;subst bk;have:=(al.z g s y.ix t (eA V) y.o.dst (.loc y.ix 0) N).symm.trans hh;rw[af] at this;cases this
   rw[ca];simp only[qW];refine azp N (amH R W br) (a0 W) X (λM ts ks r _ hr=> ?_);rw[<-Eg D.xy];exact(j hr).2
  |bD v=>
   exfalso;have hp:=acV R;cases a1:x.o.op<;>rw[a1] at m hp<;>simp[K6,gW,vG,Ab] at hp m;rename_i c;cases dH:c.callee<;>simp[dH] at hp m;rename_i bb;cases bb<;>simp at hp m
  |no=>rw[R] at X;exact X.elim
  |op=>
   rw[R] at X;simp only at X;cases W:eY cf x.o x.bP x.dr s with
   |some b=>
    rw[W] at X;obtain⟨hn,X⟩:=X;rw[a4] at W;obtain⟨q1,q2,q3⟩:=PZ W;refine done q1 ?_;rw[eP];refine .inr ⟨by rw[a];exact Q, ?_⟩;rw[I3 ac,R];simp only;rw[a4,azj N (a0 q1) D.yx ac W];refine⟨hn,λrv bx=> ?_⟩;rw[p3] at bx;exact(j (X rv bx)).2
   |none=>
    rw[W] at X;obtain⟨i,P,h4⟩:=X;have ag:gW x.o.op=true:=by
     simp only[jy] at m;rcases m with(w|w)|w;exact w;exact(acX w P).elim
     ·exfalso;cases a1:x.o.op<;>rw[a1] at w<;>simp[Ab] at w;rename_i c;cases dH:c.callee<;>simp[dH] at w;rename_i f;simp only[eN,a1,dH] at R
      (repeat' split at R)<;>cases R
    have b0:x.ix≠y.ix:=by simpa[ag] using b4
    have b1:=ac5 ag P;obtain⟨tx,cx,wx,rfl,g2,g3,g4⟩:=ac2 ag br P;refine done b1 ?_;rw[eP];refine .inr ⟨by rw[a];exact Q, ?_⟩;rw[PW ag];simp only[L9 ag a4,uA];refine⟨_,(g4 _ O ac (a0 b1) ?_).2, ?_⟩;unfold gG at g2⊢;rw[Ef,sI (λe=>b0 e.symm)];exact g2;rw[ac3 D.yx (λe=>b0 e.symm)];exact(j h4).2
def amI{V:cH}{d:cH}{bA:BE}{e:TypeId}{k:RK}{x:LE}{dj:aq}{P:BI}(N:R.bd=J)(M:∀q,V=U q->d≠U q)
  (h:kM (R.more X v b V t) d bA e k x r dj=U P):∃W,kM R d bA e k x r dj=U W/\P={W with s:=W.s.more X v b V t}:=by
 obtain⟨L,H,O⟩:=Aq R X v b V t;unfold kM at h⊢;split at h;rename_i Q;cases h;simp only[aA] at Q;rw[L,H,O] at Q;obtain⟨⟨⟨z,G⟩,F⟩,D⟩:=Q;rw[aL (by simp only[aA];exact⟨⟨⟨N,G⟩,F⟩,D⟩)];refine⟨_,rfl, ?_⟩;congr 1;rw[O,Eg (λq B A=>M q A B)];cases V<;>rfl;cases h
def azs{V:cH}{Q:Ty}{e:TypeId}{P:TI}{y:C}{r:LE×BE×aq}(O:gG R.ao X=J)(W:y.bd R.ni R.nb (Y R.rs) (aW R.ao)=J)(h:sN Q (R.more X v b V t) e P y=U r):sN Q R e P y=U r:=by
 have cG:(R.more X v b V t).rs=R.rs:=(Aq _ _ _ _ _ _).2.2;unfold sN at h⊢;split at h;simp only[D7 cG] at h;exact h;rename_i i L H G;rw[Ef] at h;have N:i≠X:=λe=>by subst e;simp only[C.bm] at W;rw[(nM O).1] at W;cases W
 rw[Po (Ah N)] at h;split at h;rename_i M;simp only[Gd cG] at h
 first|exact h|(rw[M];exact h)
 cases h;cases h
def azt{Q:cH}{L:BI}(A:gG R.ao X=J)(N:R.bd=J)(H:∀q,Q=U q->l.dst≠U q)(y:l.op.operands.toList.all yE=J)
  (P:∀z∈l.op.operands.toList,(R.more X v b Q t).ev cf.gl z=R.ev cf.gl z)(h:eY cf l e J (R.more X v b Q t)=U L):∃W,eY cf l e J R=U W/\L={W with s:=W.s.more X v b Q t}:=by
 have cG:(R.more X v b Q t).rs=R.rs:=(Aq _ _ _ _ _ _).2.2;have G:∀x∈l.op.operands.toList,yE x=true:=f9.1 y;have O:=L8 h;unfold eY at h⊢;cases u:l.op<;>rw[u] at O h P G<;>simp[vG] at O;rename_i t' r m;simp only at h⊢;rw[P r cQ,P m cQ] at h;split at h;rename_i V ak q k m2 j i F;split at h;rename_i g f;split at h;rename_i D;rw[Gd cG] at D;rw[aL D];exact amI N H h;cases h;cases h;cases h;rename_i c;cases dH:c.callee with
 |builtin d=>
  cases d<;>simp[dH] at O;simp only[dH] at h⊢;have a:c.args.toList.map ((R.more X v b Q t).ev cf.gl)=c.args.toList.map (R.ev cf.gl):=kJ λz M=>P z (by simp[iY,BH];exact .inr (by simpa using M))
  rw[a] at h;split at h;rename_i t1 t2 x0 B i F;have ac:B.bd R.ni R.nb (Y R.rs) (aW R.ao)=true:=by
   have:B∈c.args.toList.map (R.ev cf.gl):=by rw[F];simp
   obtain⟨z,M,rfl⟩:=iL.1 this;exact Ci N (G z (by simp[iY,BH];exact .inr (by simpa using M)))
  split at h;rename_i V ak q e2 ag q2 j al;split at h;rename_i g f;split at h;cases h;rename_i af;rw[aP af];rw[amC] at h;split at h;rename_i la n1 an lb k dj g1 g2;rw[g1,azs A ac g2];exact amI N H h;cases h;cases h;cases h;cases h
 |_=>simp[dH] at O
def azu(cD:Gb B A){x y:OM}{bf:cU}{s:S}{O:ai}(cI:y.so=E)(bs:O8 B x y=J)
  (h:eP p cf B A F H L (x::y::bf) O s):eP p cf B A F H L (y::x::bf) O s:=by
 unfold O8 at bs;simp only[aA] at bs;obtain⟨⟨⟨⟨⟨⟨⟨⟨⟨⟨cl,bg⟩,an⟩,dx⟩,bx⟩,cO⟩,a9⟩,a0⟩,cR⟩,cW⟩,c0⟩:=bs;have bx:x.o.guard=none:=by simpa using bx
 have D:=amF cW;have cn:∀(N:S)(O':ai),iH B x N O'=U true:=λN O'=>by simp[iH,bx]
 rw[eP] at h;rcases h with⟨h1,_⟩|⟨_,h2⟩;rw[cn] at h1;cases h1;rw[PW an] at h2;simp only[L9 an cl,uA] at h2;obtain⟨s1,h3,h4⟩:=h2;have Q:=ac5 an h3;obtain⟨t,m,w,rfl,G,hw,tr⟩:=ac2 an cO h3;have dy:s.fz m=true:=(tr s O (λ_ _=>rfl) Q G).1;obtain⟨p1,p2,p3⟩:=Aq s x.ix t m x.o.dst w;have b0:iH B y (s.more x.ix t m x.o.dst w) O=iH B y s O:=amG (λq X=>Ma (λe=>D.ry q e X)) p1 p2 p3;have a1:∀z∈y.o.op.operands.toList,(s.more x.ix t m x.o.dst w).ev cf.gl z=s.ev cf.gl z:=ac6 (λq X=>Ma (λe=>D.ry q e X));have a3:∀{O':ai}{N:S},(∀q,y.o.dst≠U q->N.tmps[q]?=s.tmps[q]?)->N.bd=J->gG N.ao x.ix=J->eP p cf B A F H L bf O' (N.more x.ix t m x.o.dst w)->eP p cf B A F H L (x::bf) O' N:=by
  intro O' N ht a4 c1 hr;rw[eP];refine .inr ⟨cn _ _, ?_⟩;rw[PW an];simp only[L9 an cl,uA];exact⟨_,(tr N O' (ac6 (λq X=>ht q (λe=>D.rx q e X))) a4 c1).2,hr⟩
 rw[eP] at h4;rcases h4 with⟨h5,W⟩|⟨h5,W⟩;rw[eP];refine .inl ⟨by rw[<-b0];exact h5, ?_⟩;refine a3 (λq X=>mO X) (PY (s':=s) Q (cg _) (cg _) (cg _) rfl rfl (by simp[C.bm,C.jo])) (by rw[mu];exact G) ?_;rw[Eg D.yx];exact W
 ·rw[eP];refine .inr ⟨by rw[<-b0];exact h5, ?_⟩;rw[I3 a1] at W;cases a:eN cf s y.o with
  |call g0 b5=>
   rw[a] at W;rcases g0 with g|n
   rotate_left
   have h3:=W.1;rw[cI] at h3;cases h3;have cp:∀N,A g b5 N=none:=λN=>by
    cases hh:A g b5 N with
    |none=>rfl
    |some r=>
     exfalso;have hR:=cD.reg _ _ _ _ hh;simp[hR,acR a] at c0
   have hP:qW _ _ _:=W;clear W;rw[cp] at hP;simp only[qW] at hP;have W:=hP;show qW _ _ _;rw[cp];simp only[qW];refine azq G (amH a Q a9) Q W (λO' ts ks r hm hr=> ?_);obtain⟨b1,b2,b3,b4⟩:=yP ks (s.cut b5 ks);refine a3 (λq X=>by rw[mO X,b2];rfl) (azl Q hm) (by rw[mu,b1];exact G) ?_;rw[Eg D.yx];exact hr
  |bD v=>
   exfalso;have hp:=acV a;cases bk:y.o.op<;>rw[bk] at a0 hp<;>simp[K6,gW,vG,Ab,FR,Aa] at hp a0;rename_i c;cases dH:c.callee<;>simp[dH] at hp a0;rename_i bb;cases bb<;>simp at hp a0
  |no=>rw[a] at W;exact W.elim
  |op=>
   rw[a] at W;show uA _ _ _;have W:uA _ _ _:=W;cases bl:eY cf y.o y.bP y.dr (s.more x.ix t m x.o.dst w) with
   |some b1=>
    rw[bl] at W;obtain⟨hn,W⟩:=W;rw[bg] at bl⊢;obtain⟨b,g1,rfl⟩:=azt G Q D.xy a9 a1 bl;rw[g1];obtain⟨q1,q2,q3⟩:=PZ g1;refine⟨hn,λrv c2=> ?_⟩;refine a3 (acY g1) q2 (by rw[q3];exact G) (W rv (by rw[p3];exact c2))
   |none=>
    rw[bl] at W;obtain⟨c3,P,h8⟩:=W;by_cases k:FR y.o.op=J
    
    have X:n8 y.o.op=true:=by cases V:y.o.op<;>rw[V] at k<;>simp[FR] at k<;>rfl
    have dz:BZ y.o.op=false:=by cases V:y.o.op<;>rw[V] at k<;>simp[FR] at k<;>rfl
    rw[bg,amo X];simp only[uA];obtain⟨v,l,hv,rfl⟩:=(L5 (ops:=B) X h5).1 P;have c4:lH cf B y.o (s.more x.ix t m x.o.dst w) O s O:=lH.Ao (λq X=>(Ma (λe=>D.ry q e X)).symm) p3.symm p1.symm p2.symm;have R:=acS c4 (λi hi=>by
     unfold BO at hi;cases V:y.o.op<;>rw[V] at k hi<;>simp[FR] at k<;>cases hi) hv
    have ct:iH B y s O=U true:=by rw[<-b0];exact h5
    refine⟨_,(L5 (ops:=B) X ct).2 ⟨v,l,R,rfl⟩, ?_⟩;have c5:v.bd s.ni s.nb (Y s.rs) (aW s.ao)=true:=by
     have al:∀z∈y.o.op.operands.toList,yE z=true:=f9.1 a9;rcases R with R|⟨-,-,R⟩;rw[ct] at R;cases R.1;cases V:y.o.op<;>rw[V] at k R al<;>simp[FR] at k;rename_i z;have:=R.1;simp only[cw,PR.Ap] at this;rw[this];exact Ci Q (al z cQ);rename_i z;have:=R.1;simp only[cw,PR.Ap] at this;rw[this];exact Ci Q (al z cQ);rename_i st z f;have ac:=Ci (cf:=cf) Q (al z cQ);have:=R.1;simp only[cw] at this;split at this;rename_i hz;rw[hz] at ac;split at this;split at this;split at this;exact this.elim;rw[this];exact ac;exact this.elim;exact this.elim;rename_i hz;rw[hz] at ac;split at this;split at this;split at this;exact this.elim;rw[this];exact ac;exact this.elim;exact this.elim;exact this.elim
    have c6:l=0:=by
     rcases R with R|⟨-,-,R⟩;exact R.2.2;cases V:y.o.op<;>rw[V] at k R<;>simp[FR] at k<;>exact R.2
    subst c6;rw[I2] at h8⊢;refine a3 (λq X=>mO X) (PY (s':=s) Q (cg _) (cg _) (cg _) rfl rfl c5) (by rw[mu];exact G) ?_;rw[Eg D.yx];exact h8;by_cases b6:Aa y.o.op=J;obtain⟨t',z,u,V⟩:∃t z u,y.o.op=.store t z u:=by cases V:y.o.op<;>rw[V] at b6<;>simp[Aa] at b6;exact⟨_,_,_,rfl⟩
    have al:∀z∈y.o.op.operands.toList,yE z=true:=f9.1 a9;have b7:eY cf y.o y.bP y.dr s=none:=by rw[bg];simp[eY,V]
    rw[b7];simp only[uA];have hz:=a1 z (by rw[V];simp[iY]);have hu:=a1 u (by rw[V];simp[iY]);have ac:=Ci (cf:=cf) Q (al z (by rw[V];simp[iY]));have c7:=Ci (cf:=cf) Q (al u (by rw[V];simp[iY]));unfold ju gN at P;split at P;exact P.elim;rename_i M;have c8:¬(y.o.op.operands.toList.any λz=>(s.ev cf.gl z).fk)=true:=by
     intro hh;obtain⟨zz,cv,c9⟩:=lT.1 hh;exact M (lT.2 ⟨zz,cv,by rw[a1 zz cv];exact c9⟩)
    simp only[V,hz,hu] at P;split at P;rename_i ti i af dc hi;have b8:i≠x.ix:=λe=>by subst e;rw[hi] at ac;simp only[C.bm] at ac;rw[(nM G).1] at ac;cases ac
    rw[Ef,Po (Ah b8)] at P;split at P;rename_i bt ag cx;obtain⟨ca,-⟩:=Af cx;split at P;rename_i br;have dd:(s.more x.ix t m x.o.dst w).lk=s.lk:=Vz _ _ _;rw[dd] at br;have dT:((s.ev cf.gl u).cells.length==Y ti.ak)=true:=by simp only[aA] at br;exact br.1.1.1.1
    refine⟨(s.dl i bt (lW ag af (s.ev cf.gl u).cells)).put y.o.dst (.b9 []), ?_, ?_⟩;unfold ju gN;rw[aP c8];simp only[V,dc,hi,cx];rw[aL br];rfl;have df:((s.dl i bt (lW ag af (s.ev cf.gl u).cells)).put y.o.dst (.b9 [])).bd=true:=by
     have cA:i<Y s.ao:=(cj.1 (kA.1 ca)).1;have dk:∀j,aW (s.ao.set i (U (bt,lW ag af (s.ev cf.gl u).cells))) j=aW s.ao j:=λj=>by
      by_cases hj:j=i;subst hj;simp[aW,IR cA,ca];simp[aW,Ah hj]
     have dn:aW (s.ao.set i (U (bt,lW ag af (s.ev cf.gl u).cells)))=aW s.ao:=funext dk;have a4:=Q;simp only[S.bd,aA] at a4;have b7:(s.dl i bt (lW ag af (s.ev cf.gl u).cells)).bd=true:=by
      simp only[S.bd,S.dl,dn,aA];refine⟨a4.1, ?_⟩;rw[Ee];intro j b hj;by_cases cB:j=i;subst cB;rw[IR cA] at hj;cases hj;exact ac1 (Ee.1 a4.2 j _ ca) (ac0 c7);rw[Ah cB] at hj;exact Ee.1 a4.2 j b hj
     exact PY (s':=s.dl i bt (lW ag af (s.ev cf.gl u).cells)) b7 (cg _) (cg _) (cg _) rfl rfl (by simp[C.bm,C.jo])
    refine a3 (λq X=>by rw[mO X];rfl) df ?_ ?_;rw[mu];unfold gG at G⊢;simp only[S.dl];rw[sI b8];exact G;have ds:c3=((s.more x.ix t m x.o.dst w).dl i bt (lW ag af (s.ev cf.gl u).cells)).put y.o.dst (.b9 []):=P;subst ds;have:((s.dl i bt (lW ag af (s.ev cf.gl u).cells)).put y.o.dst (.b9 [])).more x.ix t m x.o.dst w=((s.more x.ix t m x.o.dst w).dl i bt (lW ag af (s.ev cf.gl u).cells)).put y.o.dst (.b9 []):=
     ac3 (s:=s) (n:=i) (n':=x.ix) (d:=y.o.dst) (e:=x.o.dst) D.yx b8
    rw[this];exact h8;exact P.elim;exact P.elim;exact P.elim;have cc:gW y.o.op=true:=by
     simp only[jy] at a0;rcases a0 with(((M|M)|M)|M)|M;exact M;exact(acX M P).elim
     ·exfalso;cases bk:y.o.op<;>rw[bk] at M<;>simp[Ab] at M;rename_i c;cases dH:c.callee<;>simp[dH] at M;rename_i f;simp only[eN,bk,dH] at a
      (repeat' split at a)<;>cases a
     exact aG M k;exact aG M b6
    have ch:x.ix≠y.ix:=by simpa[cc] using cR
    rw[L9 cc bg];simp only[uA];obtain⟨d0,cy,wy,rfl,k2,k3,k4⟩:=ac2 cc a9 P;have cC:gG s.ao y.ix=true:=by
     unfold gG at k2⊢;rw[Ef,sI ch] at k2;exact k2
    obtain⟨m1,m2⟩:=k4 s O (λz hz=>(a1 z hz).symm) Q cC;refine⟨_,m2,a3 (λq X=>Ma X) (amx Q cC m1 (k3 _ _ _)) ?_ ?_⟩;unfold gG at G⊢;rw[Ef,sI (λe=>ch e.symm)];exact G;rw[ac3 D.yx (λe=>ch e.symm)];exact h8
def azv(V:Gb B A){x y:OM}{R:cU}{s:S}{O:ai}(W:vH B x y=J)(Q:∀d,x.o.dst=U d->yQ s d)(N:gW y.o.op=J->gG s.ao y.ix=J)(M:∀t,y.o.op=.alloc t->ID cf t=J)
  (G:Y O.i=s.ni)(D:Y O.b=s.nb)(z:Y O.r=Y s.rs)
  (h:eP p cf B A F H L (x::y::R) O s):eP p cf B A F H L (y::x::R) O s:=by
 unfold vH at W;simp only[aA,iK,jy] at W;obtain⟨⟨w,P⟩,W⟩:=W;rcases W with(X|X)|X;exact azf V P X Q G D z h;have v:gW y.o.op=true:=by
  unfold K8 at X;simp only[aA] at X;have:=X.1.1.1.1.1.1.2;cases u:y.o.op<;>rw[u] at this<;>simp[IC] at this;rfl
 exact azr V w X Q (N v) M h;exact azu V P X h
def amJ{m:OM}{s P:S}{O:ai}(h:(gN cf m s).gives O P):∀n,gG s.ao n=J->(gW m.o.op=J->n≠m.ix)->gG P.ao n=true:=by
 intro q X R;have V:∀{t:TypeId}{Q:ap}{d:cH}{w:C}{i:Nat},q≠i->gG ((s.dl i t Q).put d w).ao q=true:=by
  intro t Q d w i N;rw[mu];unfold gG at X⊢;simp only[S.dl];rw[sI (λe=>N e.symm)];exact X
 unfold gN at h;split at h;exact h.elim;split at h;rename_i t W;split at h;split at h;cases h;exact V (R (by rw[W];rfl));exact h.elim;exact h.elim;rename_i t x W;split at h;split at h;cases h;exact V (R (by rw[W];rfl));exact h.elim;exact h.elim;rename_i t l L W;split at h;split at h;split at h;split at h;cases h;exact V (R (by rw[W];rfl));exact h.elim;exact h.elim;exact h.elim;exact h.elim;split at h;split at h;rename_i H Q M;split at h;cases h;refine V (λe=> ?_);subst e;have:=(nM X).1;simp[aW,(Af M).1] at this;exact h.elim;exact h.elim;exact h.elim;split at h;simp only[OR.gives] at h;split at h<;>(subst h;rw[mu];exact X);exact h.elim;obtain⟨v,-,rfl⟩:=Cd h;rw[Ed];exact X;obtain⟨v,-,rfl⟩:=Cd h;rw[Ed];exact X
def azw{m:OM}{s R:S}{O:ai}(h:(gN cf m s).gives O R):∀i,aW s.ao i=J->aW R.ao i=true:=by
 intro q X;have W:∀{t:TypeId}{V:ap}{d:cH}{w:C}{i:Nat},aW ((s.dl i t V).put d w).ao q=true:=by
  intro t V d w i;rw[mu];unfold aW at X⊢;simp only[dC] at X⊢;simp only[S.dl];by_cases Q:i=q;subst Q;have M:i<Y s.ao:=by
   cases P:s.ao[i]? with
   |none=>rw[P] at X;cases X
   |some b=>exact(cj.1 P).1
  rw[H0 M];rfl;rw[sI Q];exact X
 unfold gN at h;split at h;exact h.elim;split at h;rename_i t N;split at h;split at h;cases h;exact W;exact h.elim;exact h.elim;rename_i t x N;split at h;split at h;cases h;exact W;exact h.elim;exact h.elim;rename_i t l L N;split at h;split at h;split at h;split at h;cases h;exact W;exact h.elim;exact h.elim;exact h.elim;exact h.elim;split at h;split at h;rename_i H V G;split at h;cases h;exact W;exact h.elim;exact h.elim;exact h.elim;split at h;simp only[OR.gives] at h;split at h<;>(subst h;rw[mu];exact X);exact h.elim;obtain⟨v,-,rfl⟩:=Cd h;rw[Ed];exact X;obtain⟨v,-,rfl⟩:=Cd h;rw[Ed];exact X
structure xq(s s':S):Prop where
 i:s.ni<=s'.ni
 b:s.nb<=s'.nb
 r:Y s.rs<=Y s'.rs
 bx:∀i,aW s.ao i=J->aW s'.ao i=J
def xq.put(s:S)(d:cH)(v:C):xq s (s.put d v):=
 ⟨FI (gr _ _ _).1.symm,FI (gr _ _ _).2.1.symm,FI (ku Y (gr s d v).2.2).symm,λi h=>by rw[mu];exact h⟩
def xq.trans{b c:S}(h:xq R b)(k:xq b c):xq R c:=⟨qL h.i k.i,qL h.b k.b,qL h.r k.r,λi X=>k.bx i (h.bx i X)⟩
def azx{x:OM}{l1 k:cU}{s:S}{O:ai}(ac:x.dr=J)(ag:x.so=E)(w:Y O.i=s.ni)(q:Y O.b=s.nb)(m:Y O.r=Y s.rs)(h:eP p cf B A F H L (x::l1) O s)
  (j:∀f Q,Y f.i=Q.ni->Y f.b=Q.nb->Y f.r=Y Q.rs->(∀t,x.o.dst≠U t->Q.tmps[t]?=s.tmps[t]?)->(∀n,gG s.ao n=J->(gW x.o.op=J->n≠x.ix)->gG Q.ao n=J)->xq s Q->eP p cf B A F H L l1 f Q->eP p cf B A F H L k f Q):eP p cf B A F H L (x::k) O s:=by
 simp only[eP] at h⊢;rcases h with⟨h1,X⟩|⟨h1,X⟩;exact .inl ⟨h1,j _ _ (by rw[(gr _ _ _).1];exact w) (by rw[(gr _ _ _).2.1];exact q) (by rw[(gr _ _ _).2.2];exact m) (λt d=>mO d) (λn D _=>by rw[mu];exact D) (xq.put _ _ _) X⟩
 ·refine .inr ⟨h1, ?_⟩;cases a:eN cf s x.o with
  |call g0 c=>
   rw[a] at X;rcases g0 with g|n
   rotate_left
   have N:=X.1;rw[ag] at N;cases N;have X:qW _ _ _:=X;show qW _ _ _;cases af:A g c s with
   |some ve=>
    obtain⟨pv,ex⟩:=ve;rw[af] at X;exact⟨X.1,j _ _ (by rw[(gr _ _ _).1];exact w) (by rw[(gr _ _ _).2.1];exact q) (by rw[(gr _ _ _).2.2];exact m) (λt d=>mO d) (λn D _=>by rw[mu];exact aml D) (xq.trans (b:=s.plus ex) ⟨cg _,cg _,cg _,λi l=>by unfold aW;rw[amk l];exact l⟩ (xq.put _ _ _)) X.2⟩
   |none=>
   rw[af] at X;obtain⟨ts,M,r,c1,c2,c3,c4,c5⟩:=X;refine⟨ts,M,r,c1,c2,c3,c4,λV W R=>(c5 V W R).mono ?_⟩;intro e W' he;cases e with
   |returned u=>
    obtain⟨xs,G,z,y,q4,q5⟩:=he;obtain⟨b1,b2,b3,b4⟩:=yP M (s.cut c M);obtain⟨l1,k,l3⟩:=An M xs (s.cut c M) O G w q (m.trans (Ga c M s.rs).len.symm);refine⟨xs,G,z,y,q4,j _ _ (by rw[(gr _ _ _).1];exact l1) (by rw[(gr _ _ _).2.1];exact k) (by rw[(gr _ _ _).2.2];exact l3) (λt d=>by rw[mO d,b2];rfl) (λn D _=>by rw[mu,b1];exact D) (xq.trans (b:=((s.cut c M).cK M).2) ⟨by rw[<-w,<-l1];exact(DW [] _ _ []).li,by rw[<-q,<-k];exact(DW [] _ _ []).lb,by rw[<-m,<-l3];exact(DW [] _ _ []).lr,λi l=>by rw[b1];exact l⟩ (xq.put _ _ _)) q5⟩
   |panicked ch=>exact he
   |outgrown=>exact he
  |bD v=>rw[a] at X;exact X
  |no=>rw[a] at X;exact X
  |op=>
   rw[a] at X;simp only at X⊢;cases P:eY cf x.o x.bP x.dr s with
   |some b=>
    rw[P] at X;obtain⟨G,z,y⟩:=ami P;exact⟨X.1,λrv al=>j _ _ (by rw[G];exact w) (by rw[z];exact q) (by simp[ai.add,y,m]) (acY (by rw[ac] at P;exact P)) (λn D _=>by rw[(PZ (by rw[ac] at P;exact P)).2.2];exact D) ⟨by rw[G];exact cg _,by rw[z];exact cg _,by rw[y];omega,λi l=>by rw[(PZ (by rw[ac] at P;exact P)).2.2];exact l⟩ (X.2 rv al)⟩
   |none=>
    rw[P] at X;obtain⟨Q,N,h4⟩:=X;obtain⟨G,z,y⟩:=amh (LZ N);exact⟨Q,N,j _ _ (by rw[G];exact w) (by rw[z];exact q) (by rw[y];exact m) (amu (LZ N)) (amJ (LZ N)) ⟨by rw[G];exact cg _,by rw[z];exact cg _,by rw[y];exact cg _,azw (LZ N)⟩ h4⟩
def amK{x y:OM}(h:vH B x y=J):x.so=E/\y.so=false:=by
 unfold vH at h;simp only[aA,iK] at h;exact h.1
def azy{x y:OM}(h:vH B x y=J):x.dr=true:=by
 unfold vH at h;simp only[aA,jy] at h;replace h:=h.2;rcases h with(h|h)|h;exact(amq h).elim λ_ c=>c.xd
 unfold K8 at h;simp only[aA] at h;exact h.1.1.1.1.1.1.1.1;unfold O8 at h;simp only[aA] at h;exact h.1.1.1.1.1.1.1.1.1.1
end
section
variable{p:Sp}{k:bL}{B:dU}{A:yF}{Kn:ai->S->Prop}{Kp:ai->C->S->Prop}{Yp:OM->cU->ai->S->Nat->ap->Prop}
def ac7(s:S)(m:OM):Prop:=∀d,m.o.dst=U d->yQ s d
def amL{V:S}(W:xq R V)(Q:V.tmps[X]?=R.tmps[X]?)(h:yQ R X):yQ V X:=by
 rcases h with h|⟨w,h,P⟩;exact .inl (Q.trans h);exact .inr ⟨w,Q.trans h,C.eJ W.i W.b W.r W.bx _ P⟩
def ac8(s:S)(m:OM):Prop:=gW m.o.op=J->gG s.ao m.ix=J
def amM(Q:Gb B A){m:OM}{V:cU}:∀(X:cU)(s:S)(O:ai),(∀x∈X,vH B x m=J)->(∀x∈X,ac7 s x)->ac8 s m->(X.Pairwise λa b=>∀d,a.o.dst=U d->b.o.dst≠U d)->(∀x∈X,gW x.o.op=J->gW m.o.op=J->m.ix≠x.ix)->(∀t,m.o.op=.alloc t->ID k t=J)->
  Y O.i=s.ni->Y O.b=s.nb->Y O.r=Y s.rs->eP p k B A Kn Kp Yp (X++m::V) O s->eP p k B A Kn Kp Yp (m::(X++V)) O s
 |[],s,O,_,_,_,_,_,_,_,_,_,h=>h
 |x::X,s,O,P,N,M,u,L,H,G,F,D,h=>by
  have R:=P x aw;have q:x.dr=true:=azy R;have n:=(amK R).1;have z:=jS.1 u;have:eP p k B A Kn Kp Yp (x::m::(X++V)) O s:=azx (l1:=X++m::V) q n G F D h (λl j g f c ht ac af hr=>
   amM Q X j l (λy W=>P y (by simp[W])) (λy W e w=>amL af (ht e (λhx=>z.1 y W e hx w)) (N y (by simp[W]) e w))
    (λv=>ac m.ix (M v) (λag=>L x aw ag v)) z.2 (λy W=>L y (by simp[W])) H g f c hr)
  exact azv Q R (N x aw) M H G F D this
def ac9{D:cF}{s:S}{a:Act}{W:World}{O:ai}{V:aq}(R:aE p.S0 p.w0 D k.ty V O s a W){m:OM}{b:Bool}(h:iH B m s O=U b):nC m.o (yielded B a.tmps)=b:=by
 unfold iH at h;cases X:m.o.guard with
 |none=>rw[X] at h;cases h;simp[nC,X]
 |some q=>
  obtain⟨j,N⟩:=q;rw[X] at h;simp only at h;split at h;rename_i d M;have P:=alO R M;split at h;rename_i e Q;split at h;cases h;have:=P.1 e Q;simp only[nC,X,this];cases e.ab O<;>cases N<;>rfl;cases h;rename_i Q;cases h;simp[nC,X,P.2 Q];cases h;cases h
def VC(p:Sp)(k:bL)(A:yF):Prop:=∀(g:FuncId)(X:ap)(s:S)(v:C)(R:bK),A g X s=U (v,R)->
 ∀(D:cF)(O:ai)(V:aq)(a:Act)(W:World),s.bd=J->aE p.S0 p.w0 D k.ty V O s a W->fO k.gl O->(∀X W,(callFunc g X).run p.P W=.ok (.enter g X) W)/\
  Calls p.P g (C.aK O V X).toArray W λe N=>∃Q,e=.returned (v.ab O Q)/\aE p.S0 p.w0 D k.ty Q O (s.plus R) a N/\bS s O V (s.plus R) O Q
structure P0(B:dU)(bs:aq)(listed:Array Bool)(rem:cU):Prop where
 mem:∀m∈rem,B[m.j]?=U m.o
 un:∀i,i<B.size->(listed.getD i J=E<->∃m∈rem,m.j=i)
 sz:listed.size=B.size
 dn:∀(j:Nat)(o:Oper),B[j]?=U o->listed.getD j E=J->∀e∈lY o,listed.getD e E=J
 pr:rem.Pairwise λx y=>(bs.getD y.j 0).testBit x.j=J\/vH B x y=J
 tp:∀xs m ys,rem=xs++m::ys->∀e∈lY m.o,listed.getD e E=J\/∃x∈xs,x.j=e
 nd:rem.Pairwise λx y=>x.j≠y.j
 ds:rem.Pairwise λa b=>∀d,a.o.dst=U d->b.o.dst≠U d
 so:∀xs m ys,rem=xs++m::ys->m.so=J->ys.Pairwise λx y=>(bs.getD y.j 0).testBit x.j=J
def amN{e:Edge}(h:e∈l.after)(X:axp .any e=J):e.on∈lY l:=iL.2 ⟨e,qK.2 ⟨by simpa using h,X⟩,rfl⟩
def amO(h:X∈lY l):∃e∈l.after,axp .any e=J/\e.on=X:=by
 obtain⟨e,W,rfl⟩:=iL.1 h;obtain⟨V,R⟩:=qK.1 W;exact⟨e,by simpa using V,R,rfl⟩
structure Mc(B:dU)(bs:aq):Prop where
 lt:∀(j:Nat)(o:Oper),B[j]?=U o->∀e∈lY o,e<j
 cl:∀(j:Nat)(o:Oper),B[j]?=U o->∀i,i<B.size->(bs.getD j 0).testBit i=J->i∈lY o\/∃e∈lY o,(bs.getD e 0).testBit i=J
def azz{listed:Array Bool}{O:cU}(W:Mc B r)(N:P0 B r listed O):∀(j:Nat)(o:Oper),B[j]?=U o->(∀e∈lY o,listed.getD e E=J)->∀i,i<B.size->(r.getD j 0).testBit i=J->listed.getD i E=true:=by
 intro j;induction j using T8 with
 |_ j M=>
  intro o X V i R L;rcases W.cl j o X i R L with h|⟨e,Q,h⟩;exact V i h;have H:=W.lt j o X e Q;have G:j<B.size:=(pi.1 X).1;have P:B[e]?=U B[e]:=awW aa;exact M e H B[e] P (N.dn e _ P (V e Q)) i R h
def I4(a:Array Bool)(i j:Nat)(b:Bool)(X:i<a.size):(a.setIfInBounds i J).getD j b=if j=i then J else a.getD j b:=by
 by_cases h:j=i;subst h;simp[X];simp[ajE (Ne.symm h),h]
def azA{r:aq}{listed:Array Bool}{P O:cU}{m:OM}(X:P0 B r listed (P++m::O))(l:∀e∈lY m.o,listed.getD e E=J):P0 B r (listed.setIfInBounds m.j J) (P++O):=by
 have q:=X.mem m aw;have k:m.j<B.size:=(pi.1 q).1;have D:m.j<listed.size:=by rw[X.sz];exact k
 have L:axq (P++O) (P++m::O):=ajJ (ajN _) (ajI _ _);have g:∀x∈P++O,x.j≠m.j:=by
  intro x W;have y:=X.nd;rw[nW] at y;rcases fh.1 W with h|h;exact y.2.2 x h m aw;exact Ne.symm ((jS.1 y.2.1).1 x h)
 refine⟨λx W=>X.mem x (L.subset W),λi f=> ?_,by simp[X.sz],λj o w H e M=> ?_,X.pr.sublist L, ?_,X.nd.sublist L,X.ds.sublist L, ?_⟩;rw[I4 _ _ _ _ D];by_cases v:i=m.j;subst v;simp only[cN,aKL,false_iff];rintro⟨x,W,H⟩;exact g x W H;rw[aP v,X.un i f];constructor;rintro⟨x,W,rfl⟩;refine⟨x, ?_,rfl⟩;simp only[fh,dS] at W⊢;rcases W with h|h|h;exact .inl h;subst h;exact aG rfl v;exact .inr h;rintro⟨x,W,rfl⟩;exact⟨x,L.subset W,rfl⟩;rw[I4 _ _ _ _ D];rw[I4 _ _ _ _ D] at H;split;rfl;by_cases n:j=m.j;subst n;rw[q] at w;cases w;exact l e M;rw[aP n] at H;exact X.dn j o w H e M;intro u N G t e M;rw[I4 _ _ _ _ D];by_cases A:e=m.j;left;rw[aL A];rw[aP A];rcases aKp.1 t with⟨R,Q,V⟩|⟨R,Q,V⟩
 
 have:=X.tp (P++m::R) N G (by rw[V];simp) e M;rcases this with h|⟨x,W,F⟩;exact .inl h;right;refine⟨x, ?_,F⟩;rw[Q];simp only[fh,dS] at W⊢;rcases W with h|h|h;exact .inl h;subst h;exact aG F.symm A;exact .inr h
 
 cases R with
 |nil=>
  simp at Q V;subst Q;have:=X.tp (P++[m]) N G (by rw[<-V];simp) e M;rcases this with h|⟨x,W,F⟩;exact .inl h;right;refine⟨x, ?_,F⟩;simp only[fh,T3] at W;rcases W with h|h;exact h;subst h;exact aG F.symm A
 |cons z R=>
  simp only[da,zT] at V;obtain⟨rfl,V⟩:=V;have:=X.tp u N (R++m::O) (by rw[Q];simp) e M;exact this
 intro u N G t s;rcases aKp.1 t with⟨R,Q,V⟩|⟨R,Q,V⟩;exact X.so (P++m::R) N G (by rw[V];simp) s;cases R with
 |nil=>
  simp at Q V;subst Q;exact X.so (P++[m]) N G (by rw[<-V];simp) s
 |cons z R=>
  simp only[da,zT] at V;obtain⟨rfl,V⟩:=V;have:=X.so u N (R++m::O) (by rw[Q];simp) s;rw[V];exact this.sublist (ajJ (ajN _) (ajI _ _))
def azB{F:Fence}(H:rW F)(r:mq p k)(a9:VC p k A){n:Nat}{D:cF}{Q:Exit->Act->World->Prop}(HP:∀ch a' M pd y,eU p.w0 D pd y a'.defers M->p.R (.panicked ch) M->Q (.panic ch) a' M)
  {m:OM}{al:cU}{s:S}{O:ai}{V:aq}{a:Act}{W:World}(h:eP p k B A Kn Kp Yp (m::al) O s)(R:aE p.S0 p.w0 D k.ty V O s a W)(q:fO k.gl O)(hm:B[m.j]?=U m.o)(a4:m.dr=J)
  {X:Act->World->Prop}(hK:∀w O' i a' M,bS s O V w O' i->(∀t,m.o.dst≠U t->w.tmps[t]?=s.tmps[t]?)->(∀n,gG s.ao n=J->(gW m.o.op=J->n≠m.ix)->gG w.ao n=J)->aE p.S0 p.w0 D k.ty i O' w a' M->eP p k B A Kn Kp Yp al O' w->X a' M)
  (bb:∀v,Kp O v s->Q (.panic [{v:=v.ab O V,recovered:=E}]) a W)
  (hY:∀yn G,eN k s m.o=.call (.yl yn) G->m.so=J->Yp m al O s yn G->m.o.wpIn F n p.P a W X Q):wpOpIn F n p.P B Q m.j X a W:=by
 unfold wpOpIn;rw[hm];simp only;simp only[eP] at h;rcases h with⟨h1,N⟩|⟨h1,N⟩;rw[ac9 R h1];exact⟨λf _=>H.fn f,hK _ O V _ W ((bS.refl _ _ _).put _ _) (λt ht=>mO ht) (λn z _=>by rw[mu];exact z) (R.put m.o.dst (.b9 [])) N⟩
 ·rw[ac9 R h1];simp only[cN];cases L:eN k s m.o with
  |call g0 G=>
   rw[L] at N;rcases g0 with g|yn
   rotate_left
   exact hY yn G L N.1 N.2;have N:qW _ _ _:=N;cases an:A g G s with
   |some ve=>
    obtain⟨pv,ex⟩:=ve;rw[an] at N;obtain⟨a0,a1⟩:=a9 g G s pv ex an D O V a W N.1 R q;refine⟨λf _=>H.fn f, ?_⟩;have ac:∀c,m.o.op≠ .defer c:=λc af=>by simp[eN,af] at L
    rw[BJ _ _ _ ac,Vl R q L a0,T4];refine⟨λhd=>by rw[H.Am] at hd;simp at hd,CallsIn.mono (H.calls a1) (λe M d=> ?_)⟩;obtain⟨i,rfl,u,hl⟩:=d;exact hK _ O i _ M (hl.put _ _) (λt ht=>mO ht) (λn z _=>by rw[mu];exact aml z) (u.put m.o.dst pv) N.2
   |none=>
   rw[an] at N;obtain⟨ts,ks,l,c1,c2,c3,c4,c5⟩:=N;simp only[S.fz,aA] at c4;obtain⟨⟨hb,-⟩,bd⟩:=c4;have a0:=r.D6 g (.inl (by rw[c1];rfl));have a1:=c5 V W (by rw[r.pt];exact(R.mem.Lt _).nN (akY _ _));refine⟨λf _=>H.fn f, ?_⟩;have ac:∀c,m.o.op≠ .defer c:=λc af=>by simp[eN,af] at L
   rw[BJ _ _ _ ac,Vl R q L a0,T4];refine⟨λhd=>by rw[H.Am] at hd;simp at hd,CallsIn.mono (H.calls a1) (λe M d=> ?_)⟩;cases e with
   |returned v=>
    obtain⟨xs,q1,q2,q3,q4,q5⟩:=d;rw[r.pt] at q4;obtain⟨e1,e2,e3,e4⟩:=yP ks (s.cut G ks);subst q2;have R1:aE p.S0 p.w0 D k.ty V O (s.cut G ks) a W:=R.nN (Ga G ks s.rs);have u:=(R1.called (PB hb (Ga G ks s.rs).len) bd q1 q3 (λb hb=>alV R hb) q4).put m.o.dst (one l);refine hK _ (O.ext xs) V _ M (bS.put (s:=s) ⟨DW _ _ _ _,by rw[e1];exact λ_ h=>h,by rw[e1];exact cg _,by rw[e3];exact cg _⟩ _ _) (λt ht=>by rw[mO ht,e2];rfl) (λn z _=>by rw[mu,e1];exact z) u q5
   |panicked ch=>exact HP ch a M _ _ (R.dO.below d.1) d.2
   |outgrown=>exact d.elim
  |bD v=>
   rw[L] at N;refine⟨λf _=>H.fn f, ?_⟩;have ac:∀c,m.o.op≠ .defer c:=λc af=>by simp[eN,af] at L
   rw[BJ _ _ _ ac,alQ R q L];exact bb v N
  |no=>rw[L] at N;exact N.elim
  |op=>
   rw[L] at N;simp only at N;cases x:eY k m.o m.bP m.dr s with
   |some b=>
    rw[x] at N;obtain⟨z,N⟩:=N;obtain⟨v,M,rv,a3,bf,u,hl⟩:=aco R r.mN q x z;exact D3 H a3 (acG x) (hK b.s _ V _ M hl (acY (by rw[a4] at x;exact x)) (λn z _=>by rw[(PZ (by rw[a4] at x;exact x)).2.2];exact z) u (N rv (by rw[r.pt];exact bf)))
   |none=>
   rw[x] at N;obtain⟨w,h3,h4⟩:=N;have ag:=LZ h3;obtain⟨v,M,i,a3,u,hl⟩:=PD R r.mN q m ag;exact D3 H a3 (PM ag) (hK w O i _ M hl (amu ag) (amJ ag) u h4)
def azC{W:Type}{V X:List W}{m x:W}(h:x∈(V++X).dropLast):x∈(V++m::X).dropLast:=by
 rw[awU aw];cases X with
 |nil=>
  rw[KQ] at h;exact zQ _ ((aKA _).subset h)
 |cons y X=>
  rw[awU aw] at h;rcases fh.1 h with h|h;exact zQ _ h;rw[List.dropLast_cons_cons];exact OA _ (Fy _ h)
def azD(b4:Gb B A)(b5:VC p k A){Kn:dP->ai->S->Prop}{Kp:dP->ai->C->S->Prop}{Yp:dP->OM->cU->ai->S->Nat->ap->Prop}{F:Fence}(hF:rW F)(ok:mq p k){D:cF}{Q:Exit->Act->World->Prop}(HP:∀ch g M pd y,eU p.w0 D pd y g.defers M->p.R (.panicked ch) M->Q (.panic ch) g M)(hC:Mc B r)
  {s0:S}{O0:ai}{V0:aq}{L0:dP}
  (hk:∀G H z g M w,bS s0 O0 V0 G H z->dI s0.aC L0 w->aE p.S0 p.w0 D k.ty z H G g M->Kn w H G->Q .normal g M)
  (br:∀v G H z g M w,bS s0 O0 V0 G H z->dI s0.aC L0 w->aE p.S0 p.w0 D k.ty z H G g M->Kp w H v G->Q (.panic [{v:=v.ab H z,recovered:=E}]) g M)
  (hy:∀(L:dP)(m:OM)(bt:cU)(s:S)(O:ai)(V:aq)(a:Act)(W:World)(yn:Nat)(a4:ap)(R':Ending->World->Prop),bS s0 O0 V0 s O V->dI s0.aC L0 L->aE p.S0 p.w0 D k.ty V O s a W->fO k.gl O->Yp L m bt O s yn a4->
   (∀v G H z M w,bS s O V G H z->dI s.aC L w->aE p.S0 p.w0 D k.ty z H G a M->eP p k B A (Kn w) (Kp w) (Yp w) bt H (G.put m.o.dst v)->R' (.returned (v.ab H z)) M)->
   (∀v G H z M w,bS s O V G H z->dI s.aC L w->aE p.S0 p.w0 D k.ty z H G a M->Kp w H v G->R' (.panicked [{v:=v.ab H z,recovered:=E}]) M)->
   (∀ch M pd y,eU p.w0 D pd y a.defers M->p.R (.panicked ch) M->R' (.panicked ch) M)->
   ∀(m:Nat),YieldAt F m p.P (O.y.getD yn 0) (C.aK O V a4).toArray W R'):
  ∀(ag:Nat)(listed:Array Bool)(ac:cU)(s:S)(O:ai)(V:aq)(a:Act)(W:World)(L:dP),Y ac=ag->P0 B r listed ac->(∀m∈ac,m.dr=J)->(∀m∈ac,∀t,m.o.op=.alloc t->ID k t=J)->(ac.Pairwise λa b=>gW a.o.op=J->gW b.o.op=J->a.ix≠b.ix)->(((∀m∈ac,ac8 s m)/\(∀m∈ac.dropLast,ac7 s m))\/(ac.Pairwise λx y=>(r.getD y.j 0).testBit x.j=J))->bS s0 O0 V0 s O V->dI s0.aC L0 L->aE p.S0 p.w0 D k.ty V O s a W->fO k.gl O->eP p k B A (Kn L) (Kp L) (Yp L) ac O s->
   wpAnyIn F X p.P .any B Q ag listed a W:=by
 intro ag;induction ag with
 |zero=>
  intro listed ac s O V a W L a9 hW bd hZ bx hA hl hL R hg h;have b6:ac=[]:=wS.1 a9;subst b6;refine⟨?_,hk s O V a W L hl hL R h⟩;cases hr:Ud .any B listed with
  |nil=>rfl
  |cons i N=>
   obtain⟨h1,o,ho,-⟩:=mem_ready.1 (show i∈Ud .any B listed by rw[hr];simp);have:=(hW.un i (pi.1 ho).1).1 h1;obtain⟨m,hm,-⟩:=this;cases hm
 |succ ag ih=>
  intro listed ac s O V a W L a9 hW bd hZ bx hA hl hL R hg h;refine⟨λhr=> ?_,λi hi=> ?_⟩
  
  exfalso;cases ac with
  |nil=>simp at a9
  |cons m ys=>
   have al:=hW.mem m aw;have:m.j∈Ud .any B listed:=by
    refine mem_ready.2 ⟨(hW.un m.j (pi.1 al).1).2 ⟨m,aw,rfl⟩,m.o,al,λe he hb=> ?_⟩;rcases hW.tp [] m ys rfl e.on (amN he hb) with h1|⟨x,u,-⟩;exact h1;cases u
   rw[hr] at this;cases this
  obtain⟨h1,o,ho,b7⟩:=mem_ready.1 hi;obtain⟨m,hm,rfl⟩:=(hW.un i (pi.1 ho).1).1 h1;obtain⟨q,ys,rfl⟩:=aKM hm;have al:=hW.mem m hm;rw[al] at ho;cases ho;have hd:∀e∈lY m.o,listed.getD e E=true:=λe he=>by
   obtain⟨ed,h2,h3,rfl⟩:=amO he;exact b7 ed h2 h3
  have b0:∀x∈q,¬(r.getD m.j 0).testBit x.j=true:=by
   intro x u h2;have b8:=hW.mem x (by simp[u]);have bf:x.j<B.size:=(pi.1 b8).1;have h3:=azz hC hW m.j m.o al hd x.j bf h2;have h4:=(hW.un x.j bf).2 ⟨x,by simp[u],rfl⟩;have ca:x.j<listed.size:=by rw[hW.sz];exact bf
   simp[ca] at h3 h4;rw[h3] at h4;cases h4
  have b1:∀x∈q,vH B x m=true:=by
   intro x u;have cc:=(nW.1 hW.pr).2.2 x u m aw;rcases cc with h2|h2;exact aG h2 (b0 x u);exact h2
  have bg:=nW.1 hW.ds;have an:=nW.1 bx;have hb:eP p k B A (Kn L) (Kp L) (Yp L) (m::(q++ys)) O s:=by
   rcases hA with⟨bk,hA⟩|hA;exact amM b4 q s O b1 (λx u=>hA x (by rw[awU aw];exact zQ _ u)) (bk m hm) bg.1 (λx u a0 bb e=>an.2.2 x u m aw a0 bb e.symm) (hZ m hm) R.ei R.eb R.er h;cases q with
   |nil=>exact h
   |cons x q=>exact aG ((nW.1 hA).2.2 x aw m aw) (b0 x aw)
  have b2:∀(G:S)(H:ai)(z:aq)(g:Act)(M:World)(w:dP),(((∀m∈q++ys,ac8 G m)/\(∀m∈(q++ys).dropLast,ac7 G m))\/((q++ys).Pairwise λx y=>(r.getD y.j 0).testBit x.j=J))->bS s0 O0 V0 G H z->dI s0.aC L0 w->aE p.S0 p.w0 D k.ty z H G g M->fO k.gl H->eP p k B A (Kn w) (Kp w) (Yp w) (q++ys) H G->wpAnyIn F X p.P .any B Q ag (listed.setIfInBounds m.j J) g M:=
   λG H z g M w cl af a1 R' cn a3=>ih _ (q++ys) G H z g M w (by simp at a9⊢;omega) (azA hW hd) (λx u=>bd x (by rcases fh.1 u with l|l<;>simp[l])) (λx u=>hZ x (by rcases fh.1 u with l|l<;>simp[l]))
    (nW.2 ⟨an.1,(jS.1 an.2.1).2,λa ha b hb=>an.2.2 a ha b (by simp[hb])⟩) cl af a1 R' cn a3
  have cp:axq (q++ys) (q++m::ys):=ajJ (ajN _) (ajI _ _);refine azB hF ok b5 HP hb R hg al (bd m hm) (λG H z g M af cs ct R' a3=> ?_) (λv hv=>br v s O V a W L hl hL R hv) (λyn a4 hc b3 cv=> ?_);refine b2 G H z g M L ?_ (hl.trans af) hL R' (hg.ext af.ext) a3;rcases hA with⟨bk,hA⟩|hA;left;refine⟨λx u a0=>ct x.ix (bk x (by rcases fh.1 u with l|l<;>simp[l]) a0) (λbb=>by
   rcases fh.1 u with l|l;exact an.2.2 x l m aw a0 bb;exact λe=>(jS.1 an.2.1).1 x l bb a0 e.symm),λx u=> ?_⟩
  intro d bl;have cx:m.o.dst≠U d:=by
   rcases fh.1 ((aKA _).subset u) with l|l;exact bg.2.2 x l m aw d bl;intro he;exact(jS.1 bg.2.1).1 x l d he bl
  exact amL ⟨by rw[<-R.ei,<-R'.ei];exact af.ext.li,by rw[<-R.eb,<-R'.eb];exact af.ext.lb,by rw[<-R.er,<-R'.er];exact af.ext.lr,af.mono⟩ (cs d cx) (hA x (azC u) d bl);exact .inr (hA.sublist cp);have cy:q=[]:=by
   cases q with
   |nil=>rfl
   |cons x q=>
    have:=(amK (b1 x aw)).2;rw[b3] at this;cases this
  subst cy;have cA:ys.Pairwise λx y=>(r.getD y.j 0).testBit x.j=true:=hW.so [] m ys rfl b3
  have hY:=hy L m ys s O V a W yn a4 (λe M=>match e with
    |.returned v=>wpAnyIn F X p.P .any B Q ag (listed.setIfInBounds m.j J) (a.put m.o.dst v) M
    |.panicked ch=>Q (.panic ch) a M
    |.outgrown=>LetsOut Q) hl hL R hg cv
   (λv G H z M w af a1 R' a3=>b2 (G.put m.o.dst v) H z _ M w (.inr cA) (hl.trans (af.put _ _)) (hL.trans a1 hl.aC) (R'.put m.o.dst v) (hg.ext af.ext) a3)
   (λv G H z M w af a1 R' hs=>br v G H z a M w (hl.trans af) (hL.trans a1 hl.aC) R' hs)
   (λch M pd y hA hR=>HP ch a M pd y hA hR) (X-1)
  obtain⟨fn,cO,assign,body,cB,cC⟩:=hY;refine⟨λf _=>hF.fn f, ?_⟩;have cD:∀c,m.o.op≠ .defer c:=λc cI=>by simp[eN,cI] at hc
  rw[BJ _ _ _ cD,alP R hg hc,cB];rw[aKP];refine⟨λhd=>by rw[hF.Am] at hd;simp at hd,RoundIn.mono cC (λe M he=> ?_)⟩;cases e<;>exact he
end
def VD:cH->Fence
 |none=>Fence.wide
 |U l=>Fence.wide.inRound l
def Eh:∀i,rW (VD i)
 |none=>ayV
 |U l=>alN l
def azE:∀i,(VD i).round=i
 |none=>rfl
 |U _=>rfl
def rW.room{F:Fence}(W:rW F)(n:Nat):F.room n:=λd X=>by rw[W.Am] at X;cases X
def lj(i:cH)(j:FuncId)(P:Program)(c:Code)(Q:Exit->Act->World->Prop)(a:Act)(w:World):Prop:=
 ∀(b:Frame)(k:List Item)(X:List Frame),b.roundOf=i->b.fn=j->
  ∃e W V,Q e W V/\ArrivesIn (Machine.fenced P Fence.wide) P (lone (b.atR a (.code c::k)) X w) b k X e W V
section
variable{i:cH}{j:FuncId}{P:Program}{Q:Exit->Act->World->Prop}{a:Act}{w:World}
def Ei{c:Code}{n:Nat}(h:c.wpIn (VD i) n P Q a w):lj i j P c Q a w:=by
 intro b k W V _;obtain⟨e,R,O,N,X⟩:=h b k W (V.trans (azE i).symm) ((Eh i).fn _) ((Eh i).room _);rw[(Eh i).eq] at X;exact⟨e,R,O,N,X⟩
def azF{c:Code}{X:Exit->Act->World->Prop}(h:lj i j P c Q a w)(W:∀e a w,Q e a w->X e a w):lj i j P c X a w:=
 λb k V R O=>let⟨e,N,M,q,r⟩:=h b k V R O;⟨e,N,M,W _ _ _ q,r⟩
def ada{x y:Code}(h:lj i j P x (Exit.then (lj i j P y Q) Q) a w):lj i j P (Code.seq x y) Q a w:=by
 intro b k N M L;have X:(lone (b.atR a (.code (.seq x y)::k)) N w).fenced P Fence.wide:=fenced_wide _ _;obtain⟨e,R,O,W,V⟩:=h b (.code y::k) N M L;cases e with
 |normal=>
  obtain⟨H,G,F,D,B⟩:=W b k N M L;exact⟨H,G,F,D,.of_steps (.head X stepR_seq V) B⟩
 |exit id=>exact⟨_,R,O,W,.of_steps (.one X stepR_seq) (.pass (x:=.code y) rfl (λ_ _=>.inl aw) V)⟩
 |goto l=>exact⟨_,R,O,W,.of_steps (.one X stepR_seq) (.pass (x:=.code y) rfl (λ_ _=>.inl aw) V)⟩
 |ret=>exact⟨_,R,O,W,.of_steps (.one X stepR_seq) (.pass (x:=.code y) rfl (λ_ _=>.inl aw) V)⟩
 |panic A=>exact⟨_,R,O,W,.of_steps (.one X stepR_seq) (.pass (x:=.code y) rfl (λ_ _=>.inl aw) V)⟩
 |outgrown=>exact⟨_,R,O,W,.of_steps (.one X stepR_seq) (.pass (x:=.code y) rfl (λ_ _=>.inl aw) V)⟩
def azG{c:Code}(h:lj i j P c (Exit.inBlock X Q) a w):lj i j P (Code.block X c) Q a w:=by
 intro b k z y x;have W:(lone (b.atR a (.code (.block X c)::k)) z w).fenced P Fence.wide:=fenced_wide _ _;obtain⟨e,O,N,V,R⟩:=h b (.inBlock X::k) z y x;cases e with
 |normal=>exact⟨.normal,O,N,V,.head W stepR_block (StepsIn.trans R (.one (fenced_wide _ _) stepR_inBlock))⟩
 |exit L=>
  by_cases hid:L=X;simp only[Exit.inBlock,hid,cN] at V;exact⟨.normal,O,N,V,.head W stepR_block (R.1 k (by simp[exitTo,hid]))⟩;simp only[Exit.inBlock,hid,gD] at V;have this:(X==L)=false:=by simp;exact λh=>hid h.symm
  have H:exitTo L (.inBlock X::k)=exitTo L k:=by simp[exitTo,this]
  exact⟨.exit L,O,N,V,λG M=>.head W stepR_block (R.1 G (by rw[H];exact M)),
   λF M=>let⟨D,B,A⟩:=R.2 F (by rw[H];exact M);⟨D,B,.head W stepR_block A⟩⟩
 |goto l=>
  have H:gotoIn l (.inBlock X::k)=gotoIn l k:=by simp[gotoIn]
  exact⟨_,O,N,V,λG M=>.head W stepR_block (R.1 G (by rw[H];exact M)),
   λF M=>let⟨D,B,A⟩:=R.2 F (by rw[H];exact M);⟨D,B,.head W stepR_block A⟩⟩
 |ret=>exact⟨_,O,N,V,.of_steps (.one W stepR_block) R⟩
 |panic v=>exact⟨_,O,N,V,.of_steps (.one W stepR_block) R⟩
 |outgrown=>exact⟨_,O,N,V,.of_steps (.one W stepR_block) R⟩
def azH{c:Code}(h:lj i j P c (λe a w=>(∀l,e≠ .goto l)/\Q e a w) a w):lj i j P (Code.scope c) Q a w:=by
 intro b k X G F;have W:(lone (b.atR a (.code (.scope c)::k)) X w).fenced P Fence.wide:=fenced_wide _ _;have V:step P (lone (b.atR a (.code (.scope c)::k)) X w)=.next (lone (b.atR a (.code c::.inScope c::k)) X w):=step_lone_go (by simp[stepG,stepG.exec,Frame.atR])
 have D:∀a w,step P (lone (b.atR a (.inScope c::k)) X w)=.next (lone (b.atR a k) X w):=λa w=>step_lone_go (by simp[stepG,stepG.exec,Frame.atR])
 obtain⟨e,O,N,⟨B,M⟩,R⟩:=h b (.inScope c::k) X G F;cases e with
 |normal=>exact⟨.normal,O,N,M,.head W V (StepsIn.trans R (.one (fenced_wide _ _) (D _ _)))⟩
 |exit id=>
  have H:exitTo id (.inScope c::k)=exitTo id k:=by simp[exitTo]
  exact⟨.exit id,O,N,M,λA L=>.head W V (R.1 A (by rw[H];exact L)),λz L=>let⟨y,x,v⟩:=R.2 z (by rw[H];exact L);⟨y,x,.head W V v⟩⟩
 |goto l=>exact aG rfl (B l)
 |ret=>exact⟨_,O,N,M,.of_steps (.one W V) R⟩
 |panic u=>exact⟨_,O,N,M,.of_steps (.one W V) R⟩
 |outgrown=>exact⟨_,O,N,M,.of_steps (.one W V) R⟩
def VE{c:Operand}{x y:Code}{t:Bool}(X:a.eval c=.bool t)(h:lj i j P (if t then x else y) Q a w):lj i j P (Code.cond c x y) Q a w:=by
 intro b k W V R;obtain⟨e,O,N,M,L⟩:=h b k W V R;exact⟨e,O,N,M,.of_steps (.one (fenced_wide _ _) (stepR_cond X)) L⟩
def P1(i:cH)(j:FuncId)(P:Program)(c:Code)(Q:Exit->Act->World->Prop):Nat->Act->World->Prop
 |0,_,_=>False
 |m+1,a,w=>lj i j P c (Exit.then (P1 i j P c Q m) Q) a w
def amP{c:Code}(m:Nat)(h:P1 i j P c Q m a w):lj i j P (Code.loop c) Q a w:=by
 intro b k O H G;have F:∀m a w,P1 i j P c Q m a w->
   ∃e M L,Q e M L/\ArrivesIn (Machine.fenced P Fence.wide) P (lone (b.atR a (.code c::.inLoop c::k)) O w) b k O e M L:=by
  intro m;induction m with
  |zero=>intro a w h;exact h.elim
  |succ m D=>
   intro a w h;obtain⟨e,X,W,V,R⟩:=h b (.inLoop c::k) O H G;have N:∀{e:Exit},e≠ .normal->ArrivesIn (Machine.fenced P Fence.wide) P (lone (b.atR a (.code c::.inLoop c::k)) O w) b (.inLoop c::k) O e X W->ArrivesIn (Machine.fenced P Fence.wide) P (lone (b.atR a (.code c::.inLoop c::k)) O w) b k O e X W:=
    λB A=>.pass (x:=.inLoop c) rfl (λ_ _=>.inl B) A
   cases e with
   |normal=>
    obtain⟨z,y,v,u,t⟩:=D X W V;exact⟨z,y,v,u,.of_steps (StepsIn.trans R (.one (fenced_wide _ _) stepR_inLoop)) t⟩
   |exit id=>exact⟨_,X,W,V,N aw R⟩
   |goto l=>exact⟨_,X,W,V,N aw R⟩
   |ret=>exact⟨_,X,W,V,N aw R⟩
   |panic s=>exact⟨_,X,W,V,N aw R⟩
   |outgrown=>exact⟨_,X,W,V,N aw R⟩
 obtain⟨e,M,L,V,R⟩:=F m a w h;exact⟨e,M,L,V,.of_steps (.one (fenced_wide _ _) stepR_loop) R⟩
def azI{c:Code}(X:Nat->Act->World->Prop)(V:Nat)(L:X V a w)
  (round:∀n a w,X n a w->lj i j P c (Exit.then (λO M=>∃R,R<n/\X R O M) Q) a w):lj i j P (Code.loop c) Q a w:=by
 refine amP (V+1) ?_;have H:∀N n a w,n<N->X n a w->P1 i j P c Q N a w:=by
  intro N;induction N with
  |zero=>intro n a w h;omega
  |succ N G=>
   intro n a w B F;refine azF (round n a w F) ?_;intro e O M W;cases e with
   |normal=>
    obtain⟨R,A,D⟩:=W;exact G R O M aa D
   |exit id=>exact W
   |goto l=>exact W
   |ret=>exact W
   |panic z=>exact W
   |outgrown=>exact W
 exact H (V+1) V a w aa L
def adb(i:cH)(j:FuncId)(P:Program)(l:Nat)(Q:Exit->Act->World->Prop)(X:Act):Ending->World->Prop
 |.returned _,W=>∃R V,(Instr.endLoop l).run P W=.ok R V/\
   (match R with
    |none=>Q .normal X V
    |U c=>lj i j P c Q X V)
 |.panicked chain,W=>Q (.panic chain) X W
 |.outgrown,_=>False
def azJ{g:Operand}{W:Array Tmp}{assign body:Code}
  (h:∃(l:Nat)(mark:B7)(V:World)(d:Deferred)(R:World)(f:FuncId)(O:mG)(N:World),
   (Instr.enterLoop j a.tmps W assign body i).run P w=.ok (l,mark) V/\
   (resolve a.eval (rangeCall g l) 0).run P V=.ok d R/\
   (invoke d.target d.args).run P R=.ok (.enter f O) N/\
   Calls P f O N (adb i j P l Q {a with defers:=mark++a.defers})):
  lj i j P (Code.rangeFunc g W assign body) Q a w:=by
 intro b k X H G;obtain⟨l,mark,V,d,R,f,O,N,F,s,r,M⟩:=h;obtain⟨hF,M⟩:=(callsIn_wide (n:=0)).2 M;rw[<-H,<-G] at F;have D:(lone (b.atR a (.code (.rangeFunc g W assign body)::k)) X w).fenced P Fence.wide:=fenced_wide _ _;have B:=stepR_rangeFunc (P:=P) (b:=b) (a:=a) (k:=k) (cs:=X) (w:=w) F s r;obtain⟨e,q,fr,L,A,ag,z⟩:=M (b.atR {a with defers:=mark++a.defers} (.inRangeFunc l::k)::X) (room_wide _);cases e with
 |outgrown=>exact L.elim
 |returned v=>
  obtain⟨y,x,p,u⟩:=L;have t:StepsIn (Machine.fenced P Fence.wide) P (lone (b.atR a (.code (.rangeFunc g W assign body)::k)) X w) (lone (b.atR {a with defers:=mark++a.defers} ((y.map Item.code).toList++k)) X x):=by
   refine .head D B (StepsIn.trans A (.head (fenced_wide _ _) ?_ (.one (fenced_wide _ _) (stepR_endRangeFunc p))));rw[<-finish_atR_inRangeFunc l v];exact step_leave_returned z
  cases y with
  |none=>exact⟨.normal,_,x,u,t⟩
  |some c=>
   obtain⟨o,m,ac,hq,af⟩:=u b k X H G;exact⟨o,m,ac,hq,.of_steps t af⟩
 |panicked chain=>
  refine⟨.panic chain,_,q,L,.inRangeFunc l::k,.head D B (StepsIn.trans A (.one (fenced_wide _ _) ?_))⟩;rw[<-Frame.raise_atR];exact step_leave_panicked z
end
def P2{P:Program}{f:FuncId}{O:Func}{c:Code}{X:mG}{w:World}{R:Ending->World->Prop}
  (A:P.funcs[f]?=U O)(t:O.body=U c)
  (h:lj Z f P c (bodyPostM Fence.wide 0 P O R) {tmps:=X++ajT (O.ntmps-X.size) undef,defers:=[]} w):Calls P f X w R:=by
 refine(callsIn_wide (n:=0)).1 ⟨trivial,λz x=> ?_⟩;let b:Frame:={(default:Frame) with fn:=f,kind:=.normal,roundOf:=Z};have s:Frame.enter P f X .normal=
   b.atR {tmps:=X++ajT (O.ntmps-X.size) undef,defers:=[]} [.code c]:=by
  simp[Frame.enter,Frame.atR,A,t,b]
 obtain⟨e,W,y,V,N⟩:=h b [] z rfl rfl;rw[<-s] at N;cases e with
 |normal=>
  obtain⟨M,L,H,G,F,D,B⟩:=leaves_stepsInM W.defers .returning y {b.atR W [] with mode:=.returning} z rfl rfl rfl A rfl trivial x V;exact⟨M,L,H,G,ComesIn.of_steps (StepsIn.trans N (.one (fenced_wide _ _) (stepR_end rfl))) F,D,B⟩
 |ret=>
  obtain⟨v,u⟩:=N.1 rfl;obtain⟨M,L,H,G,F,D,B⟩:=leaves_stepsInM W.defers .returning y {b.atR W v with mode:=.returning} z rfl rfl rfl A rfl trivial x V;exact⟨M,L,H,G,ComesIn.of_steps u F,D,B⟩
 |panic chain=>
  obtain⟨v,u⟩:=N;obtain⟨M,L,H,G,F,D,B⟩:=leaves_stepsInM W.defers (.panicking chain) y {b.atR W v with mode:=.panicking chain} z rfl rfl rfl A rfl trivial x V;exact⟨M,L,H,G,ComesIn.of_steps u F,D,B⟩
 |exit id=>exact V.elim
 |goto l=>exact V.elim
 |outgrown=>exact⟨.outgrown,y,b,V,N.resolve_left (by simp[b]),rfl,trivial⟩
def azK(P:Program)(l:Nat)(R:Ending->World->Prop):Exit->Act->World->Prop
 |.normal,_,w=>∃v X,(Instr.endRound l Z).run P w=.ok v X/\R (.returned v) X
 |.ret,_,w=>∃v X,(Instr.endRound l (U .ret)).run P w=.ok v X/\R (.returned v) X
 |.exit id,_,w=>∃v X,(Instr.endRound l (U (.exit id))).run P w=.ok v X/\R (.returned v) X
 |.panic W,a,w=>a.defers=[]/\R (.panicked W) w
 |_,_,_=>False
def azL{F:Fence}(p:rW F){P:Program}{l:Nat}{f:FuncId}{o:Func}{u:mG}{assign body:Code}{w:World}{R:Ending->World->Prop}(k:P.funcs[f]?=U o)
  (h:lj (U l) f P assign (λe L H=>(e=.normal/\∃s,(Instr.beginRound l).run P H=.ok () s/\lj (U l) f P body (azK P l R) L s)\/∃A,e=.panic A/\L.defers=[]/\R (.panicked A) H)
   {tmps:=u,defers:=[]} w):
  RoundIn F X P l f u assign body w R:=by
 refine⟨p.fn f,λc O hr=> ?_⟩;let b:Frame:={(default:Frame) with fn:=f,kind:=.normal,roundOf:=U l};have j:Frame.round l f u assign body .normal=b.atR {tmps:=u,defers:=[]} [.code assign,.beginRound,.code body]:=by
  simp[Frame.round,Frame.atR,b]
 have al:(Fence.wide.inRound l).room ((c::O).length+1+X):=(alN l).room _;obtain⟨e,L,H,i,G⟩:=h b [.beginRound,.code body] (c::O) rfl rfl;rw[<-j] at G;rw[p.eq];have Me:∀(m:Machine)(D:Act)(N:World)(chain:List PanicEntry)(M:List Item),D.defers=[]->StepsIn (Machine.fenced P Fence.wide) P m (lone {b.atR D M with mode:=.panicking chain} (c::O) N)->StepsIn (Machine.fenced P Fence.wide) P m (lone (c.raise chain) O N):=by
  intro m D N chain M z W;have g:({b.atR D M with mode:=.panicking chain}:Frame).leaving P N (.panicked chain):=⟨rfl,z,o,k⟩;exact StepsIn.trans W (.one (fenced_wide _ _) (step_leave_panicked g))
 rcases i with⟨rfl,s,d,ac⟩|⟨A,rfl,z,V⟩;have r:StepsIn (Machine.fenced P Fence.wide) P (lone (b.atR L [.beginRound,.code body]) (c::O) H) (lone (b.atR L [.code body]) (c::O) s):=
  .one (fenced_wide _ _) (stepR_beginRound rfl d)
 obtain⟨af,D,N,B,q⟩:=ac b [] (c::O) rfl rfl;cases af with
 |normal=>
  obtain⟨v,y,x,V⟩:=B;exact⟨.returned v,y,V,(StepsIn.trans G r).trans (StepsIn.trans q (.one (fenced_wide _ _) (stepR_round_end rfl rfl x)))⟩
 |ret=>
  obtain⟨v,y,x,V⟩:=B;obtain⟨ag,W⟩:=q.2 rfl;exact⟨.returned v,y,V,(StepsIn.trans G r).trans (StepsIn.trans W (.one (fenced_wide _ _) (stepR_round_ret rfl rfl x)))⟩
 |exit id=>
  obtain⟨v,y,x,V⟩:=B;obtain⟨ag,hk,W⟩:=q.2 rfl rfl;exact⟨.returned v,y,V,(StepsIn.trans G r).trans (StepsIn.trans W (.one (fenced_wide _ _) (stepR_round_exit rfl rfl hk x)))⟩
 |goto t=>exact B.elim
 |panic chain=>
  obtain⟨z,V⟩:=B;obtain⟨M,W⟩:=q;exact⟨.panicked chain,N,V,Me _ D N chain M z ((StepsIn.trans G r).trans W)⟩
 |outgrown=>exact B.elim
 obtain⟨M,W⟩:=G;exact⟨.panicked A,H,V,Me _ L H A M z W⟩
mutual
def K.fl(O:ai)(y:aq):∀(e:K),e.ab (O.at y)=e.ab O
 |.c n=>by simp[K.ab]
 |.v k=>by simp[K.ab,ai.at]
 |.bin o k a b=>by simp only[K.ab];rw[K.fl O y a,K.fl O y b]
 |.conv k a=>by simp only[K.ab];rw[K.fl O y a]
 |.len r=>by simp only[K.ab];rw[RE.mP O y r]
 |.mm m a b=>by simp only[K.ab];rw[K.fl O y a,K.fl O y b]
 |.dV b x z=>by simp only[K.ab];rw[BE.fl O y b,K.fl O y x,K.fl O y z]
 |.cell r i j=>by simp only[K.ab];rw[RE.mP O y r,K.fl O y i]
 |.nX r i=>by simp only[K.ab];rw[RE.mP O y r,K.fl O y i]
 |.look r n a b c j=>by simp only[K.ab];rw[RE.mP O y r,K.fl O y a,K.fl O y b,K.fl O y c]
def BE.fl(O:ai)(y:aq):∀(e:BE),e.ab (O.at y)=e.ab O
 |.c b=>by simp[BE.ab]
 |.v k=>by simp[BE.ab,ai.at]
 |.cmp o a b=>by simp only[BE.ab];rw[K.fl O y a,K.fl O y b]
 |.not a=>by simp only[BE.ab];rw[BE.fl O y a]
 |.and a b=>by simp only[BE.ab];rw[BE.fl O y a,BE.fl O y b]
 |.beq a b=>by simp only[BE.ab];rw[BE.fl O y a,BE.fl O y b]
 |.dV b x z=>by simp only[BE.ab];rw[BE.fl O y b,BE.fl O y x,BE.fl O y z]
 |.cell r i j=>by simp only[BE.ab];rw[RE.mP O y r,K.fl O y i]
 |.seq a b=>by simp only[BE.ab];rw[RE.mP O y a,RE.mP O y b]
 |.look r n a b c j=>by simp only[BE.ab];rw[RE.mP O y r,K.fl O y a,K.fl O y b,K.fl O y c]
 |.has r n a b c=>by simp only[BE.ab];rw[RE.mP O y r,K.fl O y a,K.fl O y b,K.fl O y c]
def RE.mP(O:ai)(y:aq):∀(e:RE),e.rv (O.at y)=e.rv O
 |.v k=>by simp[RE.rv,ai.rv,ai.at]
 |.cell r i j k=>by simp only[RE.rv];rw[RE.mP O y r,K.fl O y i]
 |.k v=>by simp[RE.rv]
end
def C.adc(O:ai)(y:aq)(v:C):v.xv (O.at y)=v.xv O:=by
 cases v<;>simp[C.xv,K.fl,BE.fl,RE.mP]
def C.azM(O:ai)(y:aq)(v:C):v.cq (O.at y)=v.cq O:=by
 cases v<;>simp[C.cq,K.fl,BE.fl,RE.mP]
def C.VF(O:ai)(y:aq):C.cq (O.at y)=C.cq O:=funext (C.azM O y)
def LE.I5(O:ai)(y:aq):∀(e:LE),e.ae (O.at y)=e.ae O
 |.aj r=>by simp only[LE.ae,RE.mP]
 |.lit l=>by simp only[LE.ae,C.VF]
 |.nY a b=>by simp only[LE.ae];rw[LE.I5 O y a,LE.I5 O y b]
 |.sK n R=>by simp only[LE.ae,C.VF,K.fl]
 |.set a i Q X=>by simp only[LE.ae,C.VF,K.fl];rw[LE.I5 O y a]
 |.sub a P N=>by simp only[LE.ae,K.fl];rw[LE.I5 O y a]
 |.ins a n X=>by simp only[LE.ae,C.VF];rw[LE.I5 O y a]
def P3:∀(X:bn)(O:ai)(y:aq),(O.at y).ext X=(O.ext X).at y
 |[],O,y=>rfl
 |x::X,O,y=>by
  simp only[ai.ext];rw[<-P3 X (O.add x) y];cases x<;>rfl
def azN{F:Ty}{q:World}{X:LE}{R:bz}{y:aq}{Q:RV}(h:IN F r q v X R (x.at y) Q):IN F r q v X R x Q:=by
 obtain⟨P,N,M⟩:=h;rw[LE.I5] at P;exact⟨P,N,M⟩
def uB(p:Sp):∀(t:T)(O:ai)(L:dP)(y:aq),t.ba p O L->t.ba p (O.at y) L
 |.out e s,O,L,y,h=>h
 |.ret v u M,O,L,y,h=>h
 |.bD v,O,L,y,h=>h
 |.bi b t f,O,L,y,h=>by
  simp only[T.ba,BE.fl] at h⊢;exact⟨λQ=>uB p t O L y (h.1 Q),λQ=>uB p f O L y (h.2 Q)⟩
 |.bA b t,O,L,y,h=>by
  simp only[T.ba,BE.fl] at h⊢;exact⟨h.1,uB p t O L y h.2⟩
 |.call f af u M q jf t,O,L,y,h=>by
  simp only[T.ba] at h⊢;intro m V W R;refine(h m V W R).mono ?_;intro e W' G;cases e with
  |returned v=>
   obtain⟨F,P,N,B,l,c⟩:=G;refine⟨F,P, ?_,B,l, ?_⟩;rw[P3];exact N;rw[P3];exact uB p t _ L y c
  |panicked ch=>exact G
  |outgrown=>exact G
 |.loop aC q x0 t,O,L,y,h=>by
  simp only[T.ba] at h⊢;obtain⟨X,μ,P,N⟩:=h;refine⟨X,μ, ?_,λF hf hI=> ?_⟩;have:C.xv (O.at y)=C.xv O:=funext (C.adc O y);rw[this];exact P;rw[P3];exact uB p t _ _ y (N F hf hI)
 |.back aC x,O,L,y,h=>by
  have:C.xv (O.at y)=C.xv O:=funext (C.adc O y);simp only[T.ba] at h⊢;rw[this];exact h
 |.new e x M ag t,O,L,y,h=>by
  simp only[T.ba] at h⊢;intro A ac;exact uB p t (O.add (.r A)) L y (h A (azN ac))
 |.ae k x M t,O,L,y,h=>by
  simp only[T.ba] at h⊢;have:iZ x (O.at y)=iZ x O:=by simp only[iZ,LE.I5]
  rw[this];exact uB p t (O.add (.r (iZ x O))) L y h
 |.gA g h' t f,O,L,y,h=>by
  simp only[T.ba,BE.fl] at h⊢;exact⟨λQ=>uB p t O L y (h.1 Q),λQ=>uB p f O L y (h.2 Q)⟩
 |.pick n g h' t f,O,L,y,h=>by
  simp only[T.ba,K.fl,BE.fl] at h⊢;refine⟨λj P N B=>uB p t (O.add (.i j)) L y (h.1 j P N ?_),λQ=>uB p f O L y (h.2 Q)⟩;have:=BE.fl (O.add (.i j)) y g;rw[<-this];exact B
 |.ez f g e sp st r M t,O,L,y,h=>by
  simp only[T.ba,RE.mP] at h⊢;obtain⟨z,P,N⟩:=h;refine⟨z, ?_,uB p t (O.add (.r (.mk (r.rv O).val z))) L y N⟩;rw[<-P];cases sp with
  |dp k o H=>
   have w:K.ab (O.at y)=K.ab O:=funext λe=>K.fl O y e
   cases st with
   |false=>simp only[lf,w]
   |true=>
    cases H with
    |nil=>rfl
    |cons i H=>
     cases H with
     |nil=>simp only[lf,w]
     |cons j H=>rfl
  |lex cs d=>rfl
  |ratio n d=>rfl
 |.stuck _,_,_,_,h=>h
mutual
def C.P4{O:ai}{y:aq}{n:Nat}(X:∀m,m≠n->y.getD m 0=O.y.getD m 0)(V:aq):∀(v:C),v.yH n=E->v.ab (O.at y) V=v.ab O V
 |.int _ e,_=>by simp only[C.ab,K.fl]
 |.bool e,_=>by simp only[C.ab,BE.fl]
 |.aj e,_=>by simp only[C.ab,RE.ab,RE.mP]
 |.loc i _,_=>rfl
 |.el r _ i _,_=>by simp only[C.ab,RE.ab,RE.mP,K.fl]
 |.jM _ _ _ _,_=>rfl
 |.agg l,h=>by simp only[C.ab];rw[C.Mf X V l h]
 |.b9 l,h=>by simp only[C.ab];rw[C.Mf X V l h]
 |.fn _ l,h=>by simp only[C.ab];rw[C.Mf X V l h]
 |.gF _ x,h=>by simp only[C.ab];rw[C.P4 X V x h]
 |.yl m,h=>by
  simp only[C.yH,beq_eq_false_iff_ne] at h;simp only[C.ab,ai.at];rw[X m h]
 |.any,_=>rfl
 |.mp _,_=>rfl
 |.gz e Q R,h=>by simp only[C.ab,K.fl];rw[C.Mf X V R h]
def C.Mf{O:ai}{y:aq}{n:Nat}(X:∀m,m≠n->y.getD m 0=O.y.getD m 0)(V:aq):∀(l:ap),C.rQ n l=E->C.aK (O.at y) V l=C.aK O V l
 |[],_=>rfl
 |x::R,h=>by
  simp only[C.rQ,wT] at h;simp only[C.aK];rw[C.P4 X V x h.1,C.Mf X V R h.2]
end
def C.azO(R:∀m,m≠X->r.getD m 0=x.y.getD m 0)(V:aq)(v:C)(h:v.yH X=E):v.iv (x.at r) V=v.iv x V:=by
 have Q:=C.P4 R V v h;cases v<;>simp only[C.iv]<;>try rw[Q]
 exact RE.mP x r _
def C.amQ{O:ai}{y:aq}{n:Nat}(X:∀m,m≠n->y.getD m 0=O.y.getD m 0)(V:aq):∀(l:ap),C.rQ n l=E->C.dN (O.at y) V l=C.dN O V l
 |[],_=>rfl
 |x::R,h=>by
  simp only[C.rQ,wT] at h;have:=C.amQ X V R h.2;simp only[C.dN,eW] at this⊢;rw[C.azO X V x h.1,this]
def amR{n:Nat}:∀{l:ap},C.rQ n l=E->∀v∈l,v.yH n=E
 |[],_,v,h=>by cases h
 |x::R,h,v,X=>by
  simp only[C.rQ,wT] at h;rcases dS.1 X with rfl|X;exact h.1;exact amR h.2 v X
def ade{n:Nat}:∀{bx:bK},yI n bx=E->∀(i:Nat)(t:TypeId)(X:ap),cJ bx i=U (t,X)->C.rQ n X=E
 |[],_,i,t,X,h=>by simp[dC] at h
 |Z::Q,R,0,t,X,h=>by simp[dC] at h
 |U x::Q,R,0,t,X,h=>by
  simp only[yI,wT] at R;simp[dC] at h;rw[h] at R;exact R.1
 |Z::Q,R,i+1,t,X,h=>ade (bx:=Q) R i t X (by simpa[dC] using h)
 |U x::Q,R,i+1,t,X,h=>by
  simp only[yI,wT] at R;exact ade (bx:=Q) R.2 i t X (by simpa[dC] using h)
section
variable{H:aq}{q:World}{D:cF}{F:Ty}{V:aq}{O:ai}{s:S}{a:Act}{W:World}
def ld.at{Q:bK}{N:bz}(R:ld H q V O Q F N W)(M:∀m,m≠X->r.getD m 0=O.y.getD m 0)(L:yI X Q=E):ld H q V (O.at r) Q F N W:=
 ⟨R.base,R.own,R.inj,λi t P h=>by rw[C.amQ M V P (ade L i t P h)];exact R.box i t P h,R.aj⟩
def azP{a w:World}(h:iu r a w)(P:a.heap.size<=X)(o:Obj):iu r a (w.putObj X o):=
 ⟨h.os,h.tape,h.output,by have:=h.size;simpa[H9] using this,λk R Q=>(vu aa).trans (h.block k R Q)⟩
def bI.cells{k:RK}{Q:RV}(h:bI W F k Q)(R:ee F k Q X):∃M t L,W.heap[X]?=U (.cells M t L):=by
 induction h generalizing X with
 |sl e A H G P m l B g f d N=>
  cases R with
  |here e a H G P=>
   have x:P[0]?=U P[0]:=cL aa;obtain⟨q1,X,ac,w,u,-⟩:=B 0 _ x;cases w;exact u
  |deep e v P i j r c z k X q p o n=>exact N i j r c z k q p o n
 |str s=>cases R
 |aS v h=>cases R
 |own e Q h hn N=>
  cases R with
  |own e Q X R=>exact N R
 |am Q h=>cases R
 |mr sh P=>cases R
def ld.obj{M:bK}{L:bz}(R:ld H q V O M F L W){o:Obj}(G:W.heap[X]?=U o)(B:LF o=J)(x:q.heap.size<=X)(A:Obj):ld H q V O M F L (W.putObj X A):=by
 have w:∀P Q t N,W.heap[P]?=U (.cells Q t N)->P≠X:=λP Q t N h e=>by subst e;rw[G] at h;cases h;exact akQ B _ _ _ rfl
 refine⟨azP R.base x A,R.own,R.inj,λi t Q h=> ?_,λk e v u r=> ?_⟩;have:=R.box i t Q h;rw[vu (λe=>by subst e;rw[G] at this;cases this;exact akR B _ _ rfl)];exact this;obtain⟨z,p⟩:=R.aj k e v u r;refine⟨z.LG (λP n=> ?_) (by simp[H9]),p⟩;obtain⟨Q,t,N,m⟩:=z.cells n;exact vu (w _ _ _ _ m)
def Ae.obj{R:bK}{Q:bz}{P:RV}{N:Nat}(h:Ae H q V O R F Q W X v P N){b:Nat}{o:Obj}(L:W.heap[b]?=U o)(G:LF o=J)(B:Obj):Ae H q V O R F Q (W.putObj b B) X v P N:=by
 refine h.world (vu ?_);obtain⟨A,z,x,-,M,-⟩:=h.mem;intro v;subst v;rw[L] at M;cases M;exact akQ G _ _ _ rfl
def aE.obj(R:aE H q D F V O s a W){b:Nat}{o:Obj}(Q:W.heap[b]?=U o)(P:LF o=J)(M:q.heap.size<=b)(X:Obj){D':cF}{pd:vy}{a':Act}(N:a'.tmps=a.tmps)
  (L:eU q D' pd O.y a'.defers (W.putObj b X)):aE H q D' F V O {s with pd:=pd} a' (W.putObj b X):=
 ⟨R.mem.obj Q P M X,R.gX,R.ei,R.eb,R.er,L,by rw[N];exact R.size,λt G h=>by rw[N];exact R.tmps t G h,λk e B A z x w=>(R.gH k e B A z x w).obj Q P X⟩
def sW:aq->World->World
 |[],W=>W
 |d::ms,W=>sW ms (W.putObj d (.deferred Z))
def aE.sW:∀{ms:aq}{a:Act}{W:World},aE H q D F V O s a W->a.defers=ms.map mj++D.base->aE H q D F V O s {a with defers:=D.base} (sW ms W)
 |[],a,W,R,h=>by
  have:({a with defers:=D.base}:Act)=a:=by cases a;simp at h;subst h;rfl
  rw[this];exact R
 |d::ms,a,W,R,h=>by
  obtain⟨B,Q,A,M,L⟩:=R.dO.oa;have w:B=d::ms:=by
   rw[h] at Q;have Q:=aKr Q;have v:∀(l X:aq),l.map mj=X.map mj->l=X:=by
    intro l;induction l with
    |nil=>intro X h;cases X<;>simp at h;rfl
    |cons x b u=>
     intro X h;cases X with
     |nil=>simp at h
     |cons z t=>
      simp only[eW,zT,mj,Deferred.mk.injEq,Target.collected.injEq] at h;obtain⟨⟨rfl,-⟩,h⟩:=h;rw[u t h]
   exact(v _ _ Q).symm
  subst w;have P:=L d aw;have p:eU q D s.pd O.y (ms.map mj++D.base) (W.putObj d (.deferred Z)):=by
   refine⟨R.dO.len,R.dO.ut,λn l r o m k=> ?_,R.dO.inj,ms,rfl,λj=>(by have:=A j;cases this),(T9.1 M).2,λi G=> ?_⟩;obtain⟨g,N,f⟩:=R.dO.eO n l r o m k;exact⟨g,(vu (λe=>by subst e;rw[P.1] at N;cases N)).trans N,f⟩;have:=L i (by simp only[da,dS];exact .inr G);refine⟨(vu (λe=>by subst e;exact(T9.1 M).1 G)).trans this.1,this.2⟩
  have c:=R.obj P.1 rfl P.2 (.deferred Z) (D':=D) (pd:=s.pd) (a':={a with defers:=ms.map mj++D.base}) rfl p;exact aE.sW (a:={a with defers:=ms.map mj++D.base}) (W:=W.putObj d (.deferred Z)) c rfl
def eU.sW:∀{ms:aq}{pd:vy}{y:aq}{W:World},eU q D pd y (ms.map mj++D.base) W->eU q D pd y D.base (sW ms W)
 |[],pd,y,W,h=>h
 |d::ms,pd,y,W,h=>by
  obtain⟨L,R,H,P,N⟩:=h.oa;have G:L=d::ms:=by
   have R:=aKr R;have F:∀(l X:aq),l.map mj=X.map mj->l=X:=by
    intro l;induction l with
    |nil=>intro X h;cases X<;>simp at h;rfl
    |cons x j B=>
     intro X h;cases X with
     |nil=>simp at h
     |cons z A=>
      simp only[eW,zT,mj,Deferred.mk.injEq,Target.collected.injEq] at h;obtain⟨⟨rfl,-⟩,h⟩:=h;rw[B A h]
   exact(F _ _ R).symm
  subst G;have w:=N d aw;refine eU.sW (ms:=ms) (W:=W.putObj d (.deferred Z)) ⟨h.len,h.ut,λn l r v u t=> ?_,h.inj,ms,rfl,λp=>(by have:=H p;cases this),(T9.1 P).2,λo M=> ?_⟩;obtain⟨m,Q,k⟩:=h.eO n l r v u t;exact⟨m,(vu (λe=>by subst e;rw[w.1] at Q;cases Q)).trans Q,k⟩;have:=N o (by simp only[da,dS];exact .inr M);exact⟨(vu (λe=>by subst e;exact(T9.1 P).1 M)).trans this.1,this.2⟩
end
def P5{P:World->Prop}{B:Nat}(h:∀W b o,B<=b->P W->P (W.putObj b o)):∀{X:aq}{W:World},(∀d∈X,B<=d)->P W->P (sW X W)
 |[],W,_,R=>R
 |d::X,W,Q,R=>P5 (W:=W.putObj d (.deferred Z)) h (λx N=>Q x (by simp[N])) (h W d _ (Q d aw) R)
def vP{P:Program}{Q:Func}{N:mG}{R:Ending->World->Prop}{u:FrameMode}{M:B7}(L:u≠ .run):∀{X:aq}{W:World},X.Nodup->(∀d∈X,W.heap[d]?=U (.deferred (U [])))->
  LeavesInM Fence.wide 0 P Q N R M u (sW X W)->LeavesInM Fence.wide 0 P Q N R (X.map mj++M) u W
 |[],W,_,_,h=>h
 |d::X,W,F,H,h=>by
  obtain⟨B,A⟩:=T9.1 F;refine⟨L,.inl ⟨d,_,rfl,run_takeDeferred (H d aw),vP L A (λz G=> ?_) h⟩⟩;exact(vu (λe=>by subst e;exact B G)).trans (H z (by simp[G]))
section
variable{H:aq}{q:World}{D N:cF}{F:Ty}{V:aq}{O:ai}{s:S}{a:Act}{W:World}{pd:vy}{y:aq}{M:B7}
def eU.enter(h:eU q D pd y M W)(X:(r++D.out).Nodup)(R:∀d∈r++D.out,W.heap[d]?=U (.deferred (U []))/\q.heap.size<=d)(Q:Bool):eU q ⟨r++D.out,D.eO,Q,[]⟩ pd y [] W:=
 ⟨h.len,h.ut,h.eO,h.inj,[],rfl,λ_=>rfl,X,R⟩
def eU.Me(h:eU q ⟨r++D.out,D.eO,e,[]⟩ pd y [] W)(R:D.rd=J->r=[]):eU q D pd y (r.map mj++D.base) W:=by
 obtain⟨X,Q,M,P,N⟩:=h.oa;have:X=[]:=by cases X<;>simp at Q;rfl
 subst this;exact⟨h.len,h.ut,h.eO,h.inj,r,rfl,R,P,N⟩
def eU.push{l:Nat}{R:Loop}(h:eU q D pd y M W)(v:(r++D.out).Nodup)(u:∀X∈r++D.out,W.heap[X]?=U (.deferred (U []))/\q.heap.size<=X)
  (t:W.heap[X]?=U (.deferred (U [])))(p:X∉r++D.out)(o:q.heap.size<=X)(m:W.heap[l]?=U (.loop (sO R .ready)))(z:∀(n:Nat)(N:Nat)(F:Loop),D.eO[n]?=U (N,F)->N≠l)(k:q.heap.size<=l):
  eU q ⟨X::(r++D.out),D.eO++[(l,R)],E,[]⟩ (pd++[.ready]) (y++[l]) [] W:=by
 refine⟨by simp[h.len],by simp[h.ut],λn N F j P Q=> ?_,λn L N x w P Q=> ?_,[],rfl,λ_=>rfl,by simpa using⟨by simpa using p,v⟩,λi G=> ?_⟩;by_cases H:n<Y D.eO;rw[dZ H] at P;rw[dZ (by rw[<-h.len];exact H)] at Q;obtain⟨g,f,e⟩:=h.eO n N F j P Q;exact⟨by rw[dZ (by rw[h.ut,<-h.len];exact H)];exact g,f,e⟩;have B:n=Y D.eO:=by
  have:=(cj.1 P).1;simp at this;omega
 subst B;simp at P;obtain⟨rfl,rfl⟩:=P;rw[h.len] at Q;simp at Q;subst Q;refine⟨?_,m,k⟩;rw[h.len,<-h.ut];simp;by_cases H:n<Y D.eO;rw[dZ H] at P;by_cases A:L<Y D.eO;rw[dZ A] at Q;exact h.inj n L N x w P Q;have B:L=Y D.eO:=by
  have:=(cj.1 Q).1;simp at this;omega
 subst B;simp at Q;obtain⟨rfl,rfl⟩:=Q;exact aG rfl (z n _ x P);have c:n=Y D.eO:=by
  have:=(cj.1 P).1;simp at this;omega
 subst c;simp at P;obtain⟨rfl,rfl⟩:=P;by_cases A:L<Y D.eO;rw[dZ A] at Q;exact aG rfl (z L _ w Q);have:=(cj.1 Q).1;simp at this;omega;simp only[di,dS] at G;rcases G with rfl|G;exact⟨t,o⟩;exact u i G
def eU.pop{l:Nat}{R:Loop}(h:eU q ⟨X::(r++D.out),D.eO++[(l,R)],E,[]⟩ pd y [] W)(G:D.rd=E):eU q D (pd.take (Y D.eO)) (y.take (Y D.eO)) ((X::r).map mj++D.base) W:=by
 obtain⟨L,F,o,B,A⟩:=h.oa;have:L=[]:=by cases L<;>simp at F;rfl
 subst this;have z:=h.len;have m:=h.ut;simp at z;refine⟨dh,dh,λn M x w Q P=> ?_,λn v M u t Q P=> ?_,X::r,rfl,λH=>(by rw[G] at H;cases H),B,A⟩;have N:=(cj.1 Q).1;rw[nA,aL N] at P⊢;exact h.eO n M x w (by rw[dZ N];exact Q) P;have N:=(cj.1 Q).1;have p:=(cj.1 P).1;exact h.inj n v M u t (by rw[dZ N];exact Q) (by rw[dZ p];exact P)
def eU.put{r:Loop}(h:eU q D pd y M W)(H:W.heap[X]?=U (.loop r))(G:∀(n R:Nat)(Q:Loop),D.eO[n]?=U (R,Q)->R≠X)(o:Obj):eU q D pd y M (W.putObj X o):=by
 obtain⟨F,B,A,z,P⟩:=h.oa;refine⟨h.len,h.ut,λn R Q x L w=> ?_,h.inj,F,B,A,z,λd N=>⟨?_,(P d N).2⟩⟩;obtain⟨v,u,t⟩:=h.eO n R Q x L w;exact⟨v,(vu (G n R Q L)).trans u,t⟩;exact(vu (λe=>by subst e;have:=(P d N).1;rw[H] at this;cases this)).trans (P d N).1
def eU.adf{l:Nat}{r:Loop}(h:eU q D pd y M W)(R:D.eO[X]?=U (l,r))(A:Ie):eU q D (pd.set X A) y M (W.putObj l (.loop (sO r A))):=by
 obtain⟨v,u,t,p,L⟩:=h.oa;have z:X<Y pd:=by rw[<-h.len];exact(cj.1 R).1
 have P:∃H,W.heap[l]?=U (.loop H):=⟨_,(h.eO X l r pd[X] R (cL z)).2.1⟩;obtain⟨j,P⟩:=P;refine⟨by simp[h.len],by simp[h.ut],λx o H m N Q=> ?_,h.inj,v,u,t,p,λd G=>⟨?_,(L d G).2⟩⟩;rw[wU] at Q;split at Q;rename_i e;subst e;rw[R] at N;cases N;simp only[cS] at Q;subst Q;obtain⟨F,w,B⟩:=h.eO X l r pd[X] R (cL z);exact⟨F,aKv (B9 P),B⟩;rename_i e;obtain⟨F,w,B⟩:=h.eO x o H m N Q;exact⟨F,(vu (λk=>by subst k;exact e (h.inj X x _ _ _ R N))).trans w,B⟩;exact(vu (λe=>by subst e;have:=(L d G).1;rw[P] at this;cases this)).trans (L d G).1
def amS{O:ai}{V:aq}:∀(R:aq)(N l:ap)(A:mG),A.size=Y l->(∀(t:Nat)(X:C),l[t]?=U X->X=.any\/A[t]?=U (X.ab O V))->
  ((R.zip (C.aK O V N)).foldl (λ(M:mG)(x:Nat×Value)=>M.setIfInBounds x.1 x.2) A).size=(IG R N l).length/\
  ∀(t:Nat)(X:C),(IG R N l)[t]?=U X->X=.any\/((R.zip (C.aK O V N)).foldl (λ(M:mG)(x:Nat×Value)=>M.setIfInBounds x.1 x.2) A)[t]?=U (X.ab O V)
 |[],N,l,A,Q,h=>by simp only[List.zip_nil_left,List.foldl_nil,IG];exact⟨Q,h⟩
 |p::R,[],l,A,Q,h=>by simp only[C.aK,List.zip_nil_right,List.foldl_nil,IG];exact⟨Q,h⟩
 |p::R,v::L,l,A,Q,h=>by
  simp only[C.aK,aa1,FF,IG];refine amS R L (l.set p v) (A.setIfInBounds p (v.ab O V)) (by simp[Q]) (λt X P=> ?_);rw[wU] at P;split at P;rename_i e;subst e;split at P;rename_i H;cases P;right;rw[aKg (by rw[Q];exact H)];cases P;rename_i e;rw[ajE e];exact h t X P
end
section
variable{p:Sp}{cf:bL}
def P6(bP:Nat->Bool)(X W:Bool):∀(l:qM)(j n i:Nat)(m:OM),(iG bP X W j n l)[i]?=U m->l[i]?=U m.o
 |[],j,n,i,m,h=>by simp[iG] at h
 |o::r,j,n,0,m,h=>by simp[iG] at h;simp[<-h]
 |o::r,j,n,i+1,m,h=>by simp[iG] at h;simpa using P6 bP X W r _ _ i m h
def adg(bP:Nat->Bool)(X W:Bool):∀(l:qM)(j n:Nat),(iG bP X W j n l).length=Y l
 |[],j,n=>rfl
 |o::r,j,n=>by simp[iG,adg bP X W r]
def adh(bP:Nat->Bool)(X W:Bool):∀(l:qM)(j n i:Nat)(m:OM),(iG bP X W j n l)[i]?=U m->m.j=j+i
 |[],j,n,i,m,h=>by simp[iG] at h
 |o::r,j,n,0,m,h=>by simp[iG] at h;simp[<-h]
 |o::r,j,n,i+1,m,h=>by simp[iG] at h;have:=adh bP X W r _ _ i m h;omega
def adi(bP:Nat->Bool)(W X:Bool):∀(l:qM)(j n i:Nat)(m:OM),(iG bP W X j n l)[i]?=U m->m.dr=X
 |[],j,n,i,m,h=>by simp[iG] at h
 |o::r,j,n,0,m,h=>by simp[iG] at h;simp[<-h]
 |o::r,j,n,i+1,m,h=>by simp[iG] at h;exact adi bP W X r _ _ i m h
structure amT(m m':OM):Prop where
 o:m.o=m'.o
 ix:m.ix=m'.ix
 j:m.j=m'.j
 dr:m.dr=m'.dr
def adj{V:aq}:∀{l X:cU}{m:OM},m∈vJ V X l->∃W∈l,amT m W
 |[],X,m,h=>by simp[vJ] at h
 |x::l,X,m,h=>by
  simp only[vJ,dS] at h;rcases h with rfl|h;exact⟨x,aw,rfl,rfl,rfl,rfl⟩;obtain⟨W,R,Q⟩:=adj h;exact⟨W,by simp[R],Q⟩
def amU{X:aq}:∀{l:cU},B3 X l=J->l.Pairwise λx y=>(X.getD y.j 0).testBit x.j=J
 |[],_=>yq
 |x::r,h=>by
  simp only[B3,aA] at h;exact jS.2 ⟨λy W=>f9.1 h.1 y W,amU h.2⟩
def amV{X:aq}:∀{l W:cU},(l.Pairwise λx y=>(X.getD y.j 0).testBit x.j=J)->(vJ X W l).Pairwise λx y=>(X.getD y.j 0).testBit x.j=J
 |[],W,_=>yq
 |x::r,W,h=>by
  obtain⟨V,R⟩:=jS.1 h;refine jS.2 ⟨λy Q=> ?_,amV R⟩;obtain⟨P,O,N⟩:=adj Q;rw[N.j];exact V P O
def amW{Q:aq}:∀{l W:cU}(R:cU)(m:OM)(X:cU),vJ Q W l=R++m::X->m.so=J->X.Pairwise λx y=>(Q.getD y.j 0).testBit x.j=J
 |[],W,R,m,X,h,_=>by cases R<;>simp[vJ] at h
 |x::r,W,[],m,X,h,V=>by
  simp only[vJ,di,zT] at h;obtain⟨P,rfl⟩:=h;subst P;simp only[aA] at V;exact amV (jS.1 (amU V.1.2)).2
 |x::r,W,z::O,m,X,h,V=>by
  simp only[vJ,da,zT] at h;exact amW O m X h.2 V
def adk:∀{l:aq},nG l=J->l.Pairwise (·≠·)
 |[],_=>yq
 |x::W,h=>by
  simp only[nG,aA,iK] at h;refine jS.2 ⟨λy X e=> ?_,adk h.2⟩;subst e;rw[qH.2 X] at h;cases h.1
def VG:∀{l:cU},nG (l.filterMap (·.o.dst))=J->l.Pairwise λa b=>∀d,a.o.dst=U d->b.o.dst≠U d
 |[],_=>yq
 |x::V,h=>by
  cases W:x.o.dst with
  |none=>
   simp only[ajK,W] at h;exact jS.2 ⟨λy _ d X=>(by rw[W] at X;cases X),VG h⟩
  |some d=>
   simp only[ajK,W,nG,aA,iK] at h;refine jS.2 ⟨λy R e X Q=> ?_,VG h.2⟩;rw[W] at X;cases X;have:d∈V.filterMap (·.o.dst):=FC.2 ⟨y,R,Q⟩;rw[qH.2 this] at h;cases h.1
def amX{X:dU}{W:aq}:∀{l:cU},FT X W l=J->l.Pairwise λx y=>(W.getD y.j 0).testBit x.j=J\/vH X x y=J
 |[],_=>yq
 |x::R,h=>by
  simp only[FT,aA] at h;refine jS.2 ⟨λy V=> ?_,amX h.2⟩;have:=f9.1 h.1 y V;simpa using this
def amY{Q:dU}:∀{l:cU}{done:aq},FU Q done l=J->(∀m∈l,Q[m.j]?=U m.o)->∀X m V,l=X++m::V->∀e∈lY m.o,e∈done\/∃x∈X,x.j=e
 |[],done,_,_,X,m,V,h=>by cases X<;>simp at h
 |x::l,done,R,P,X,m,V,h=>by
  simp only[FU,aA] at R;intro e O;cases X with
  |nil=>
   simp only[di,zT] at h;obtain⟨rfl,-⟩:=h;rw[P x aw] at R;exact .inl (qH.1 (f9.1 R.1 e O))
  |cons z N=>
   simp only[da,zT] at h;obtain⟨rfl,h⟩:=h;rcases amY R.2 (λm M=>P m (by simp[M])) N m V h e O with W|⟨y,L,W⟩;rcases dS.1 W with rfl|W;exact .inr ⟨x,aw,rfl⟩;exact .inl W;exact .inr ⟨y,by simp[L],W⟩
def amZ{X:dU}(h:UA X.toList r=J):Mc X r:=by
 have P:∀(j:Nat)(o:Oper),X[j]?=U o->(∀e∈lY o,e<j)/\∀i,i<X.size->(r.getD j 0).testBit i=J->i∈lY o\/∃e∈lY o,(r.getD e 0).testBit i=true:=by
  intro j o W;have O:j<X.size:=(pi.1 W).1;have R:=f9.1 h j (by simpa using O);have N:X.toList[j]?=U o:=by simpa using W
  rw[N] at R;simp only[aA] at R;refine⟨λe Q=>by simpa using f9.1 R.1 e Q,λi M L=> ?_⟩;have V:=f9.1 R.2 i (by simpa using M);simp only[L,OK,axm,jy] at V;rcases V with V|V;exact .inl (qH.1 V);obtain⟨e,Q,H⟩:=lT.1 V;exact .inr ⟨e,Q,H⟩
 exact⟨λj o W=>(P j o W).1,λj o W=>(P j o W).2⟩
def xt(X:aq):∀(l:ap)(n i:Nat),(um X n l)[i]?=(l[i]?).map λx=>if X.contains (n+i) then .any else x
 |[],n,i=>by simp[um]
 |x::W,n,0=>by simp[um]
 |x::W,n,i+1=>by
  simp only[um,ud];rw[xt X W (n+1) i,show n+1+i=n+(i+1) from aa]
def Mg(X:aq):∀(l:ap)(n:Nat),(um X n l).length=Y l
 |[],n=>rfl
 |x::W,n=>by simp[um,Mg X W]
def am0:∀{l:qM}{o:Oper}{t:TypeId},Lb cf l=J->o∈l->o.op=.alloc t->ID cf t=J
 |[],o,t,_,h,_=>by simp at h
 |x::V,o,t,h,X,W=>by
  simp only[Lb,aA] at h;rcases dS.1 X with rfl|X;have:=h.1;rw[W] at this;exact this;exact am0 h.2 X W
def adl:∀{l:cU},nG ((l.filter λm=>gW m.o.op).map (·.ix))=J->l.Pairwise λa b=>gW a.o.op=J->gW b.o.op=J->a.ix≠b.ix
 |[],_=>yq
 |x::R,h=>by
  by_cases X:gW x.o.op=J;rw[List.filter_cons_of_pos (by simpa using X),eW,nG,aA] at h;refine jS.2 ⟨λy W _ Q e=> ?_,adl h.2⟩;have:x.ix∈(R.filter λm=>gW m.o.op).map (·.ix):=iL.2 ⟨y,qK.2 ⟨W,by simpa using Q⟩,e.symm⟩;have V:=h.1;rw[qH.2 this] at V;cases V;rw[List.filter_cons_of_neg (by simpa using X)] at h;exact jS.2 ⟨λy W P=>aG P X,adl h⟩
def azQ(bP:Nat->Bool)(W V:Bool)(R:bK):∀(l:qM){i:Nat}{m:OM},gW m.o.op=J->(iG bP W V 0 (Y R) l)[i]?=U m->gG (R++eH (nF l) Z) m.ix=true:=by
 have P:∀(l:qM)(j n i:Nat)(m:OM),gW m.o.op=J->(iG bP W V j n l)[i]?=U m->n<=m.ix/\m.ix<n+nF l:=by
  intro l;induction l with
  |nil=>intro j n i m _ h;simp[iG] at h
  |cons o r O=>
   intro j n i m X h;have Q:nF (o::r)=(if gW o.op then 1 else 0)+nF r:=by
    unfold nF;rw[axc];split<;>simp<;>omega
   cases i with
   |zero=>
    simp only[iG,Ds,cS] at h;subst h;simp only at X⊢;rw[Q,aL X];omega
   |succ i=>
    simp only[iG,ud] at h;have:=O _ _ i m X h;rw[Q];split at this<;>simp_all<;>omega
 intro l i m X h;obtain⟨N,M⟩:=P l 0 _ i m X h;unfold gG;rw[jd N,Fw,aL aa]
def Gf(p:Sp)(cf:bL)(w:List (Nat×Loop))(B:ml)(u:YH):Prop:=
 ∀(D:cF)(_:D.eO=w)(L:dP)(n:Nat)(A:ap)(s:S)(k z:C->S->T)(O:ai)(V:aq)(a:Act)(W:World)(G:Ending->World->Prop),B.sU s O V L->
  (u n A s k z).ba p O L->aE p.S0 p.w0 D cf.ty V O s a W->fO cf.gl O->
  (∀v N X M Q H,bS s O V N X M->dI s.aC L H->aE p.S0 p.w0 D cf.ty M X N a Q->(k v N).ba p X H->G (.returned (v.ab X M)) Q)->
  (∀v N X M Q H,bS s O V N X M->dI s.aC L H->aE p.S0 p.w0 D cf.ty M X N a Q->(z v N).ba p X H->G (.panicked [{v:=v.ab X M,recovered:=E}]) Q)->
  (∀x Q t y,eU p.w0 D t y a.defers Q->p.R (.panicked x) Q->G (.panicked x) Q)->
  ∀(F:Fence)(_:rW F)(m:Nat),YieldAt F m p.P (O.y.getD n 0) (C.aK O V A).toArray W G
def I6(X:List (Nat×Loop))(B:ml):Gf p cf X B j6:=λ_ _ _ _ _ _ _ _ _ _ _ _ _ _ h=>h.elim
def azR{F:Fence}(hF:rW F)(ok:mq p cf){pc:yF}(a3:VC p cf pc){D:cF}{B:ml}{yh:YH}(hY:Gf p cf D.eO B yh){Q:Exit->Act->World->Prop}(HP:∀ch g A pd y,eU p.w0 D pd y g.defers A->p.R (.panicked ch) A->Q (.panic ch) g A){H:dU}{id:Nat}{u:cU}{a:Act}{W:World}{L:dP}{k:XE->S->T}(hB:B.sU R x r L)
  (ac:La H (Y R.ao)=U u)(a4:Lb cf H.toList=J)(a9:Gb H pc)(h:(oF cf (Ac cf pc yh) H (k .normal) (λv=>k (.bD v)) u (R.B4 H u) []).ba p x L)(N:aE p.S0 p.w0 D cf.ty r x R a W)(hg:fO cf.gl x)
  (hk:∀q z f g A c,bS R x r q z f->dI R.aC L c->aE p.S0 p.w0 D cf.ty f z q g A->(k .normal q).ba p z c->Q .normal g A)
  (bb:∀v q z f g A c,bS R x r q z f->dI R.aC L c->aE p.S0 p.w0 D cf.ty f z q g A->(k (.bD v) q).ba p z c->Q (.panic [{v:=v.ab z f,recovered:=E}]) g A):
  (Code.region id H J).wpIn F X p.P Q a W:=by
 unfold La at ac;simp only at ac;split at ac;rename_i hc;simp only[aA,du] at hc;obtain⟨⟨⟨⟨⟨⟨⟨c1,c2⟩,c3⟩,c4⟩,c5⟩,c8⟩,c6⟩,c7⟩:=hc;simp only[cS] at ac;rw[ac] at c2 c3 c4 c5 c6 c7 c8;have al:∀m∈u,∃(i:Nat)(m':OM),(iG (Pa H.toList (qb H.toList)) E J 0 (Y R.ao) H.toList)[i]?=U m'/\amT m m':=by
  intro m G;rw[<-ac] at G;obtain⟨m',h1,h2⟩:=adj G;rw[K9] at h1;obtain⟨i,-,l⟩:=FC.1 h1;exact⟨i,m',l,h2⟩
 have an:∀m∈u,H[m.j]?=U m.o:=by
  intro m G;obtain⟨i,m',l,w⟩:=al m G;have h1:=P6 _ _ _ _ _ _ _ _ l;have h2:=adh _ _ _ _ _ _ _ _ l;rw[w.j,w.o,h2,jz];simpa using h1
 have hW:P0 H (qb H.toList) (ajT H.size E) u:=by
  refine⟨an,λi l=> ?_,aw,λj o ho hj=> ?_,amX c3,λxs m ys he e hd=> ?_, ?_,VG c4,λxs m ys he bf=>amW xs m ys (ac.trans he) bf⟩;constructor;intro _;have:=f9.1 c7 i (by simpa using l);obtain⟨m,G,hj⟩:=lT.1 this;exact⟨m,G,by simpa using hj⟩;intro _;simp[l];exfalso;have bg:j<H.size:=(pi.1 ho).1;simp[bg] at hj;rcases amY c2 an xs m ys he e hd with h1|h1;cases h1;exact .inr h1;have:=adk c5;rw[aw9] at this;exact this
 obtain⟨Rr,ag⟩:=N.room (nF H.toList);have Rb:aE p.S0 p.w0 D cf.ty (r++eH (nF H.toList) 0) x (R.B4 H u) a {W with drawn:=W.drawn+1}:=by
  have Rd:=Rr.drew;refine⟨Rd.mem,Rd.gX,Rd.ei,Rd.eb,Rd.er,Rd.dO,by simp only[S.B4,Mg];exact Rr.size,λt sv b=> ?_,Rd.gH⟩;simp only[S.B4] at b;rw[xt,jz] at b;cases hx:R.tmps[t]? with
  |none=>rw[hx] at b;cases b
  |some M=>
   rw[hx] at b;simp only[eo,cS] at b;split at b;exact .inl b.symm;subst b;exact Rd.tmps t M hx
 have a0:bS R x r (R.B4 H u) x (r++eH (nF H.toList) 0):=⟨ag.ext,ag.mono,ag.len,ag.aC⟩;refine wpIn_region_any ok.mix ?_;refine azD a9 a3 hF ok HP (amZ c1) (Kn:=Gc p (k .normal)) (Kp:=D8 p (λv=>k (.bD v))) (Yp:=D9 p cf H pc yh (k .normal) (λv=>k (.bD v))) (s0:=R.B4 H u) (O0:=x) (V0:=r++eH (nF H.toList) 0) (L0:=L)
  (λq z f g A c hl hL R' w=>hk q z f g A c (a0.trans hl) hL R' w) (λv q z f g A c hl hL R' w=>bb v q z f g A c (a0.trans hl) hL R' w)
  ?_
  H.size _ u (R.B4 H u) x _ a _ L c6 hW (λm G=>by
   obtain⟨i,m',l,w⟩:=al m G;rw[w.dr];exact adi _ _ _ _ _ _ _ _ l) (λm G t b=> ?_) (adl c8) (.inl ⟨λm G bk=> ?_, ?_⟩) (bS.refl _ _ _) (dI.refl _ _) Rb hg ?_
 intro L2 m bl s2 O2 V2 a2 W2 yn br R' hl hL R2 bs bt bx b0 b1 mm;obtain⟨b2,fx,b3,b4⟩:=bt;refine hY D rfl L2 yn br s2 _ _ O2 V2 a2 W2 R' (hB.go (a0.trans hl) hL) b4 R2 bs (λv q z f A c a1 b5 Rn w=> ?_) b0 b1 F hF mm;refine bx v q z f A c a1 b5 Rn ?_;have af:=gr q m.o.dst v;refine I1 ok.pt bl _ _ z (by rw[af.1];exact Rn.ei) (by rw[af.2.1];exact Rn.eb) (by rw[af.2.2];exact Rn.er) w ?_ b2;intro M hx;obtain⟨b6,b8⟩:=qK.1 hx;obtain⟨hd,cT⟩:=b3 M b6;have hE:=a1.ext;refine⟨by rw[BE.ep hE.agree _ (by rw[R2.ei,R2.eb,R2.er];exact cT)];exact hd, ?_⟩;rw[af.1,af.2.1,af.2.2,<-Rn.ei,<-Rn.eb,<-Rn.er];exact BE.eJ (by rw[<-R2.ei];exact hE.li) (by rw[<-R2.eb];exact hE.lb) (by rw[<-R2.er];exact hE.lr) _ cT;have h1:=an m G;exact am0 a4 (ki (show H.toList[m.j]?=U m.o by simpa using h1)) b;obtain⟨i,m',l,w⟩:=al m G;rw[w.ix];exact azQ _ _ _ R.ao _ (by rw[<-w.o];exact bk) l;intro m G d hd;have b7:d∈FV (u.dropLast.map (·.o)):=FC.2 ⟨m.o,iL.2 ⟨m,G,rfl⟩,hd⟩;unfold yQ;simp only[S.B4];rw[xt,jz];cases hx:R.tmps[d]? with
 |none=>exact .inl rfl
 |some M=>
  right;by_cases hb:(ake R (FV (u.dropLast.map (·.o)))).contains d=J;exact⟨.any,by simp only[eo,hb,cN],by simp[C.bm]⟩;refine⟨M,by simp only[eo,hb];rfl, ?_⟩;have cT:M.bd R.ni R.nb (Y R.rs) (aW R.ao)=true:=by
   cases hh:M.bd R.ni R.nb (Y R.rs) (aW R.ao);exfalso;apply hb;exact qH.2 (qK.2 ⟨b7,by simp[hx,hh]⟩);rfl
  exact C.eJ (cg _) (cg _) (cg _) ag.mono _ cT
 refine I1 ok.pt u _ [] x Rb.ei Rb.eb Rb.er h (λM hx=>by cases hx) (λm G=> ?_);obtain⟨i,m',l,w⟩:=al m G;rw[w.dr];exact adi _ _ _ _ _ _ _ _ l;cases ac
def Ar(p:Sp)(cf:bL)(n:Nat):Prop:=
 ∀(D:cF)(B:ml)(z:YH)(H:cH)(G:FuncId)(c:Code)(s:S)(k:XE->S->T)(L:dP)(O:ai)(V:aq)(a:Act)(W:World)(Q:Exit->Act->World->Prop),
  Gf p cf D.eO B z->B.sU s O V L->D.rd=H.isSome->(H.isSome=J->kz c=E)->(∃v,p.P.funcs[G]?=U v)->
  (gq cf n G c s z k).ba p O L->aE p.S0 p.w0 D cf.ty V O s a W->fO cf.gl O->
  (∀x N X u y,eU p.w0 D u y N.defers X->p.R (.panicked x) X->Q (.panic x) N X)->
  (∀e F M A N X w,bS s O V F M A->dI s.aC L w->aE p.S0 p.w0 D cf.ty A M F N X->(k e F).ba p M w->Q (e.to M A) N X)->
  lj H G p.P c Q a W
def VH(p:Sp)(cf:bL)(n:Nat):Prop:=
 ∀(D:cF)(B:ml)(z:YH)(G:cH)(M:FuncId)(x:Code)(s:S)(k:XE->S->T)(L:dP)(O:ai)(V:aq)(a:Act)(W:World)(Q:Exit->Act->World->Prop),
  Gf p cf D.eO B z->B.sU s O V L->D.rd=G.isSome->(G.isSome=J->kz x=E)->(∃u,p.P.funcs[M]?=U u)->
  (∀t,(Code.first x).map (cf.loop M)≠U (.inv t))->
  (gq cf n M (.loop x) s z k).ba p O L->aE p.S0 p.w0 D cf.ty V O s a W->fO cf.gl O->
  (∀w N X r y,eU p.w0 D r y N.defers X->p.R (.panicked w) X->Q (.panic w) N X)->
  (∀e F H A N X v,bS s O V F H A->dI s.aC L v->aE p.S0 p.w0 D cf.ty A H F N X->(k e F).ba p H v->Q (e.to H A) N X)->
  P1 G M p.P x Q n a W
def azS(c:Ar p cf X)(b:VH p cf X):VH p cf (X+1):=by
 intro D B m q o x s k L O V a W Q l j i g f ac h R d HP F;unfold gq at h;simp only at h;show lj q o p.P x _ a W;refine c D B m q o x s _ L O V a W _ l j i g f h R d (λch M H pd y hd hR=>HP ch M H pd y hd hR) ?_;intro e A z w M H u N G t r;cases e with
 |normal=>exact b D B m q o x A k u z w M H Q l (j.go N G) i g f ac r t (d.ext N.ext) HP (λe2 s2 O2 V2 a2 W2 L2 af ag R2 al=>F e2 s2 O2 V2 a2 W2 L2 (N.trans af) (G.trans ag N.aC) R2 al)
 |ret=>exact F .ret A z w M H u N G t r
 |exit id=>exact F (.exit id) A z w M H u N G t r
 |bD v=>exact F (.bD v) A z w M H u N G t r
def aE.back{P:World}{D w:cF}{V M:aq}{N:ai}{F L:S}{a v:Act}{W H:World}(X:aE r P D cf.ty V x R a W)(u:R.bd=J)
  (q:bS F x V L N M)(o:F.ao=R.ao)(Q:aE r P w cf.ty M N L v H){D2:cF}{a2:Act}{B:vy}(A:a2.tmps=a.tmps)(n:eU P D2 B N.y a2.defers H):aE r P D2 cf.ty M N {L with tmps:=R.tmps,pd:=B} a2 H:=by
 obtain⟨m,-⟩:=X.Ag u;refine⟨Q.mem,Q.gX,Q.ei,Q.eb,Q.er,n,by rw[A];exact X.size,λt l h=> ?_,Q.gH⟩;rw[A];rcases X.tmps t l h with G|G;exact .inl G;right;have z:=q.ext;rw[o] at z;rw[z.ab (xl m h)];exact G
def aE.enter{P:World}{D N:cF}{V:aq}{a:Act}{W:World}(X:aE r P D cf.ty V x R a W)(Q:ap)(n:Nat)(L:eU P N R.pd x.y [] W):
  aE r P N cf.ty V x {R with tmps:=Q++eH (n-Y Q) (.b9 [])} {tmps:=(C.aK x V Q).toArray++ajT (n-(C.aK x V Q).toArray.size) undef,defers:=[]} W:=by
 refine⟨X.mem,X.gX,X.ei,X.eb,X.er,L,aw,λt G h=> ?_,X.gH⟩;right;simp only[H6,IM];by_cases M:t<Y Q;rw[dZ M] at h;rw[aKl (by simpa using M)];simp[ur,h];rw[jd aa,Fw] at h;split at h;rename_i H;cases h;rw[Array.getElem?_append_right dh];simp only[H6,IM,Array.getElem?_replicate];rw[aL H];rfl;cases h
def VI(H:mq p cf)(hC:Ar p cf X){D:cF}{B:ml}{yh:YH}(hY:Gf p cf D.eO B yh):Vk p cf D B (kX cf (λf c s k=>gq cf X f c s yh k) yh):=by
 intro L g0 z s k kp O V a W x G h R q b af hp;cases g0 with
 |yl yn=>exact λF hF m=>hY D rfl L yn z s k kp O V a W x G h R q b af hp F hF m
 |fn g=>
 unfold kX at h;simp only at h;split at h;rename_i c nt rs ac;refine⟨H.D6 g (.inr (by rw[ac];rfl)), ?_⟩;split at h;rename_i hb;simp only[S.fz,aA] at hb;obtain⟨fn,hf,an,a0,cG⟩:=H.inl g c nt rs ac;refine P2 hf an ?_;obtain⟨ms,m1,m0,m2,m3⟩:=R.dO.oa;have RE:=R.enter z nt (R.dO.enter m2 m3 E);rw[<-a0] at RE h;have a1:B.sU {s with tmps:=z++eH (fn.ntmps-Y z) (.b9 [])} O V L:=⟨⟨G.later.ext,G.later.mono,G.later.len,G.later.aC⟩,G.Vj⟩;refine hC ⟨ms++D.out,D.eO,E,[]⟩ B yh Z g c _ _ L O V _ W _ hY a1 rfl (λhh=>by cases hh) ⟨fn,hf⟩ h RE q ?_ ?_;intro ch N o pd y hA hR;obtain⟨a3,A,q0,j,w⟩:=hA.oa;rw[A] at hA;have u:=(hA.sW).Me m0;rw[<-m1] at u;show LeavesInM Fence.wide 0 p.P fn N.tmps x N.defers (.panicking ch) o;rw[A];exact vP aw (zS.1 j).1 (λd M=>(w d (by simp[M])).1) (hp ch _ pd y u (P5 (H.Vv ch) (λd M=>(w d (by simp[M])).2) hR));intro e s' i V' N o L' t hL RR Q;have ag:bS s O V {s' with tmps:=s.tmps} i V':=⟨t.ext,t.mono,t.len,t.aC⟩;obtain⟨a3,A,q0,j,w⟩:=RR.dO.oa;have R2:=RR.sW A;have u:=R2.dO.Me m0;rw[<-m1] at u;have RB:=R.back hb.1 t rfl R2 (D2:=D) (a2:=a) rfl u;have al:∀l,vE cf s' rs=U l->(k (one l) {s' with tmps:=s.tmps}).ba p i L'->LeavesInM Fence.wide 0 p.P fn N.tmps x N.defers .returning o:=by
  intro l r Q;rw[A];refine vP aw (zS.1 j).1 (λd M=>(w d (by simp[M])).1) ⟨_,PN R2 H.mN (by rw[cG];exact r), ?_⟩;exact b _ _ i V' _ L' ag hL RB Q
 cases e with
 |normal=>
  simp only[Lc] at Q;split at Q;rename_i l r;exact al l r Q;exact Q.elim
 |ret=>
  simp only[Lc] at Q;split at Q;rename_i l r;exact al l r Q;exact Q.elim
 |bD v=>
  show LeavesInM Fence.wide 0 p.P fn N.tmps x N.defers (.panicking _) o;rw[A];exact vP aw (zS.1 j).1 (λd M=>(w d (by simp[M])).1) (af v _ i V' _ L' ag hL RB Q)
 |exit id=>exact Q.elim
 exact h.elim;rename_i ac;exact alW H.pt (λg q=>H.D6 g (.inl q)) D L g z s k O V a W x h R b hp
def azT(b:Bool)(H:mq p cf){D:cF}{B:ml}{G:qO}(F:Vk p cf D B G):Vk p cf D B (abz b cf G):=by
 intro L x Q s k A O V a W P z h R X N y M;cases x with
 |yl w=>exact F L (.yl w) Q s k A O V a W P z h R X N y M
 |fn g=>
  cases b with
  |false=>exact F L (.fn g) Q s k A O V a W P z h R X N y M
  |true=>exact alW H.pt (λg X=>H.D6 g (.inl X)) D L g Q s k O V a W P h R N M
end
