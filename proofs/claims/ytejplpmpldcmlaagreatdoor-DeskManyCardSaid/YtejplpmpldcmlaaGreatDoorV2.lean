/- Part 2 of the proof; the last part says what is shown. -/
import Derived.Test.YtejplpmpldcmlaaGreatDoorV1
import Derived.Maps.RangeRun
import Derived.RangeFuncSeq
import Derived.StillTailTactics
import Derived.RangeFuncIn
import Derived.RangeFuncLeaves
import Derived.LoopNIn
import Derived.LoopIn
set_option linter.all false
set_option maxRecDepth 100000
set_option maxHeartbeats 100000000
open Bool renaming and_eq_true->aw,not_eq_true'->iw,false_eq_true->jB,or_eq_true->jL,or_eq_false_iff->wb,eq_iff_iff->sx,and_self->we,not_eq_false->Hn,true_and->Hu,and_true->On,not_true->ZS,or_eq_true_iff->avu,and_eq_false_iff->aI7,false_or->avP,true_or->avR,true_eq_false->aJl,true->J,false->E
open List renaming getD_eq_getElem?_getD->cw,getElem?_eq_some_iff->cu,getElem?_eq_getElem->cP,getElem?_append_left->dN,getElem?_map->dS,getElem?_append_right->iJ,cons_append->ef,nil_append->eK,mem_append->eW,map_cons->dU,mem_cons->dV,replicate->eF,length_append->gP,all_eq_true->fZ,mem_of_getElem?->jK,map_congr_left->jA,getElem?_eq_none->km,pairwise_cons->jC,range->e8,mem_map->iD,ext_getElem?->kU,eq_nil_of_length_eq_zero->tM,length_eq_one_iff->oZ,length_cons->kV,any_eq_true->kW,pairwise_append->oc,getElem?_take->nD,contains_iff_mem->qD,getElem?_cons_succ->tN,getElem?_set_ne->ss,getElem?_of_mem->tO,getElem_mem->pM,length_map->pN,drop_eq_getElem_cons->Bj,mem_filter->qE,getElem?_drop->uN,mem_append_left->xQ,map_map->oJ,getElem?_cons_zero->Bk,getElem?_eq_none_iff->Dc,getElem?_set->wc,map_nil->pP,mem_or_eq_of_mem_set->E0,getElem?_range->zH,mem_of_mem_drop->Bl,nodup_append->xS,length_eq_zero_iff->E1,mem_range->uO,mem_cons_of_mem->Dd,getElem?_replicate->Hh,mem_of_mem_take->E2,take_of_length_le->Hj,getElem?_set_self->Hk,mem_filterMap->De,length_drop->Df,mem_singleton->Hm,length_take->E4,range'->xV,size_toArray->Ho,mem_of_find?_eq_some->SK,foldl_cons->E5,mem_append_right->Of,map_append->Hq,mem_cons_self->Oj,range_eq_range'->SN,append_nil->Kb,drop_of_length_le->ZB,all_cons->Om,find?_some->SU,zip_cons_cons->ZH,replicate_one->ZI,dropLast_append_of_ne_nil->avk,nodup_cons->SY,sublist_cons_self->ai7,take_append_of_le_length->avl,drop_append_of_le_length->avm,range'_succ->ZK,filterMap_cons->ajb,getElem?_zip_eq_some->avp,drop_eq_nil_of_le->avq,filter_cons->ajf,append_toArray->avv,pairwise_map->avB,append_eq_append_iff->aIX,length_erase_of_mem->aIY,map_set->ajo,any_map->ajp,append_cancel_right->aIZ,length_set->avF,length_pos_of_mem->aI5,drop_zero->avL,mapM_cons->avM,dropLast_sublist->aI8,getElem?_append->aJb,mem_erase_of_ne->aJc,set_cons_zero->aJk,Sublist->avT,append_of_mem->aJm,length->Y
open Go.Result renaming andThen_ok->du
open Nat renaming le_refl->bY,zero_add->jf,le_trans->pO,add_zero->wh,testBit_or->E7,le_of_eq->E8,zero_le->Hx,lt_of_lt_of_le->ZG,strongRecOn->SX,testBit_shiftLeft->avr
open Option renaming map_some->eh,isSome_iff_exists->lF,getD_some->oI,bind_some->ZL,getD_none->aje,isNone_iff_eq_none->aIW,some->U,none->Z
open Go.Sem renaming run_bind->dC,run_pure->fz
open Array renaming getElem?_eq_some_iff->oY,ext'->nF,toList_map->xT,getElem?_setIfInBounds_ne->ai4,getElem?_setIfInBounds_self_of_lt->aIP,getElem?_eq_getElem->avo,replicate->ajm,getElem?_append_left->aIT,mapM_eq_mapM_toList->aIV,mem_filter->aJr
open Go.Op renaming operands->iN,equalIn->Di,equal->E9
open Go.World renaming putObj_heap_other->uM,cell?->oK,putObj->Hv,putObj_heap_same->aI4
open Go.Region renaming wanted->mw,ready->S2,binds->avS
open Int renaming toNat_natCast->su
open List.Pairwise renaming nil->xR
open List.cons renaming injEq->xU
open Go.Oper renaming semAt_eq->zI,uponIn_enter->SR,uponIn_round->avA
open Go.Call renaming operands->Bo
open Prod.mk renaming injEq->Dh
open List.Sublist renaming append->aja,refl->ajc
open Go.IntKind renaming i64->I
namespace Go.Proofs.YtejplpmpldcmlaaGreatDoor.Y
open Go.RowKit
noncomputable section
variable{X:Nat}{v:TypeId}{e:ap}{b:Bool}{x:ai}{t:aq}{R:S}{r:C}{l:Oper}{h:OM}
section
variable{c:aq}{d:World}{D:cq}{P:Program}{f:bF}{V:aq}{O:ai}{s:S}{a:Act}{W:World}
def akE{X:Type}(l:List X)(x y:X):(l++[x]).set (Y l) y=l++[y]:=by
 induction l with
 |nil=>rfl
 |cons z Q R=>simp[R]
def az.zO(R:az c d D f.ty V O s a W)(N:s.bd=J){t:TypeId}{X:ap}(B:C.eo s.ni s.nb (Y s.rs) (aP s.ao) X=J):
  az c d D f.ty (V++[W.heap.size]) O (s.zO (t,X)) a (W.alloc (mC t (C.dR O V X)))/\bH s O V (s.zO (t,X)) O (V++[W.heap.size]):=by
 obtain⟨A,j⟩:=R.room 1;have g:(s.room 1).ao.length=Y s.ao+1:=by simp[S.room]
 have z:gH (s.room 1).ao (Y s.ao)=true:=by simp[gH,S.room]
 have y:(s.room 1).fp X=true:=by
  simp only[S.fp,S.bd,aw] at N⊢;have M:aP (s.room 1).ao=aP s.ao:=by
   funext i;simp only[aP,cY,S.room,ZI];by_cases Q:i<Y s.ao;rw[dN Q];rw[iJ aa,km (l:=s.ao) aa];cases w:i-Y s.ao with
   |zero=>rfl
   |succ n=>rfl
  have v:∀L,C.rF s.ni s.nb (Y s.rs) L (s.ao++[Z])=C.rF s.ni s.nb (Y s.rs) L s.ao:=by
   intro L;generalize s.ao=l;induction l with
   |nil=>rfl
   |cons x e u=>cases x<;>simp[C.rF,u]
  refine⟨⟨?_, ?_⟩,by rw[M];exact B⟩;rw[M];exact N.1;rw[M];simp only[S.room,ZI];rw[v];exact N.2
 have G:=A.alloc z t X y;have r:(V++eF 1 0).set (Y s.ao) W.heap.size=V++[W.heap.size]:=by
  rw[<-R.gV,ZI];exact akE _ _ _
 have q:C.dR O (V++eF 1 0) X=C.dR O V X:=by
  apply ajT;funext k;simp only[ad,cw,ZI];by_cases h:k<Y V;rw[dN h];rw[iJ aa,km (l:=V) aa];cases w:k-Y V with
  |zero=>rfl
  |succ n=>rfl
 rw[r,q] at G;have p:({((s.room 1).dw (Y s.ao) t X) with lk:=s.lk}:S)=s.zO (t,X):=by
  simp only[S.dw,S.room,S.zO,ZI,akE]
 have F:=G.lk s.lk;rw[p] at F;refine⟨F,⟨⟨ji.refl _ _ _ _,bY _,bY _,bY _,λk o=> ?_⟩,λi Q=> ?_,by simp[S.zO],bY _⟩⟩;have:k<Y V:=by
  obtain⟨b,H⟩:=lF.1 o;rw[R.gV];exact(cu.1 (kw.1 H)).1
 simp[ad,dN this];obtain⟨b,H⟩:=lF.1 Q;have m:=(cu.1 (kw.1 H)).1;simp only[aP,cY,S.zO,dN m] at Q⊢;exact Q
def az.akF(R:az c d D f.ty V O s a W){cs':ap}(M:cz s.ao X=U (v,e)):
  az c d D f.ty V O (s.dw X v cs') a (W.putObj (ad V X) (mC v (C.dR O V cs'))):=by
 have x:=R.mem.box X v e M;have q:ad V X<W.heap.size:=BO x;have w:X<Y s.ao:=(cu.1 (kw.1 M)).1;have H:aP s.ao X=true:=by simp[aP,M]
 have G:∀j,aP (s.ao.set X (U (v,cs'))) j=J->aP s.ao j=true:=λj N=>by
  rcases(p8 w).1 N with rfl|h;exact H;exact h
 have F:∀b,b≠ad V X->(W.putObj (ad V X) (mC v (C.dR O V cs'))).heap[b]?=W.heap[b]?:=λb h=>uM h
 refine⟨⟨⟨R.mem.base.os,R.mem.base.tape,R.mem.base.output,by simpa[Hv] using R.mem.base.size,λk B u=> ?_⟩,λj N=>R.mem.own j (G j N),λj k N B=>R.mem.inj j k (G j N) (G k B),λj L p N=> ?_,λk Q A n m=> ?_⟩,by simpa[S.dw] using R.gV,R.ei,R.eb,R.er,R.dp.awC (λb o z l=> ?_),R.size,R.tmps,λk Q A b g q2 q3=> ?_⟩;have af:k≠ad V X:=by
  rintro rfl;rcases R.mem.own X H with h|h;omega;exact u h
 rw[F k af];exact R.mem.base.block k B u;by_cases y:j=X;subst y;rw[S.dw,Ie w] at N;simp only[cX,Dh] at N;obtain⟨rfl,rfl⟩:=N;exact aI4 q;rw[S.dw,Aa y] at N;rw[F _ (λh=>y (R.mem.inj j X (by simp[aP,N]) H h))];exact R.mem.box j L p N;obtain⟨ag,r⟩:=R.mem.ah k Q A n m;exact⟨ag.KZ (λb M=>F b (λh=>r b M X H h.symm)) (by simp[Hv]),λb M j N=>r b M j (G j N)⟩;rw[F b (λQ=>by subst Q;rw[x] at z;cases z;exact akk l _ _ rfl)];exact z;have t:=R.gD k Q A b g q2 q3;have L:=t.world (W':=W.putObj (ad V X) (mC v (C.dR O V cs'))) (F b (λh=>t.box X H h.symm));exact⟨L.own,L.mem,λj N=>L.box j (G j N),L.alone,L.inner⟩
def az.aa7(R:az c d D f.ty V O s a W){i:Nat}{cs':ap}(X:cz s.ao i=U (v,e))(_:∀Q N M,mC v (C.dR O V e)≠ .cells Q N M):
  az c d D f.ty V O (s.dw i v cs') a (W.putObj (ad V i) (mC v (C.dR O V cs'))):=R.akF X
def Af(L:bA)(X:Value×Value):tQ->tQ
 |[]=>[X]
 |p::r=>if yp p.1=L then X::r else p::Af L X r
def akG:∀{l:tQ}{m:Nat}{p:Value×Value},gU m (l++[p])=gU m l++[⟨p.1,p.2,m+Y l⟩]
 |[],m,p=>by simp[gU]
 |x::r,m,p=>by
  simp only[ef,gU,akG (l:=r) (m:=m+1) (p:=p)];simp;omega
def akH{L:bA}{kv:Value×Value}:∀{l:tQ}{m i:Nat},
  (oQ L (gU m l) i=Z/\Af L kv l=l++[kv])\/∃j v p,oQ L (gU m l) i=U (i+j,v)/\(gU m l)[j]?=U ⟨p.1,p.2,m+j⟩/\p∈l/\yp p.1=L/\(Af L kv l).length=Y l/\gU m (Af L kv l)=(gU m l).modify j λe=>{e with key:=kv.1,val:=kv.2}
 |[],m,i=>.inl ⟨rfl,rfl⟩
 |p::r,m,i=>by
  simp only[gU,oQ,Af];by_cases h:yp p.1=L;right;rw[aL h,aL h];exact⟨0,p.2,p,rfl,rfl,av,h,av,by simp[gU]⟩;rw[aT h,aT h];rcases akH (l:=r) (m:=m+1) (i:=i+1) with⟨X,R⟩|⟨j,v,Q,X,R,N,M,H,G⟩;exact .inl ⟨X,by rw[R];rfl⟩;refine .inr ⟨j+1,v,Q,by rw[X];congr 2;omega,by simp only[tN,R];congr 2;omega,by simp[N],M,by simp[H], ?_⟩;simp only[gU,G,List.modify_succ_cons]
def awW(Q:Bool)(l:bA):Instr.sameBits 10000 (ip Q l) (ip Q l)=true:=by
 cases Q;simp[ip,Instr.sameBits];show Instr.sameBits (9999+1) (.agg _) (.agg _)=J;simp only[Instr.sameBits,beq_self_eq_true,Hu,fZ];intro p L;have:p.1=p.2/\∃x,p.1=.int I x:=by
  have H:∀(m:gG)(q:Value×Value),q∈m.zip m->q.1=q.2/\q.1∈m:=by
   intro m;induction m with
   |nil=>intro q X;cases X
   |cons y F M=>
    intro q X;simp only[ZH,dV] at X;rcases X with rfl|X;exact⟨rfl,av⟩;exact⟨(M q X).1,by simp[(M q X).2]⟩
  obtain⟨N,R⟩:=H _ p L;simp only[iD] at R;obtain⟨x,-,G⟩:=R;exact⟨N,x,G.symm⟩
 obtain⟨N,x,R⟩:=this;rw[<-N,R];simp[Instr.sameBits]
def akI{k e:TypeId}(h:P.underlying v=U (.map k e))(B:u4 P k X b){R:Nat}{l:tQ}(A:W.heap[R]?=U (qK l)){L:bA}(g:Y L=X)
  (z:∀p∈l,∃N:bA,Y N=X/\p.1=ip b N)(Q:Value):
  (Instr.mapUpdate v (.map (U R)) (ip b L) Q).run P W=.ok () (W.putObj R (qK (Af L (ip b L,Q) l))):=by
 have f:∀x∈gU 0 l,∃N:bA,Y N=X/\x.key=ip b N:=λx d=>by
  obtain⟨p,M,H⟩:=aaL d;obtain⟨N,F,G⟩:=z p M;exact⟨N,F,H.trans G⟩
 obtain⟨c,c2⟩:=B.2 L (gU 0 l) W g f;have hg:=MapKept.run_getObj_map (P:=P) (w:=W) A;have y:=λo=>MapKept.run_setObj_map (P:=P) (w:=W) o A
 simp only[Instr.mapUpdate,dC,fw.iL h,du,hg,c,c2];rcases akH (L:=L) (kv:=(ip b L,Q)) (l:=l) (m:=0) (i:=0) with⟨M,H⟩|⟨j,u,p,M,H,F,G,h5,h6⟩;rw[M,H];simp only[y,Hv,qK,akG];simp;rw[M];obtain⟨N,q1,r⟩:=z p F;have hl:N=L:=by
  rw[r,aaJ (λe=>q1.trans (B.1 e))] at G;exact G
 subst hl;have q:(((gU 0 l).toArray[0+j]?).map (·.key)).getD (ip b N)=ip b N:=by
  simp[H,r]
 simp only[jf] at q⊢;simp only[q,Instr.keyThatStays,awW,cS,fz,du,dC,y,Hv,qK,h6,h5];simp
end
def u6(O:ai)(X:Fx):Prop:=∀x∈X,x.1.ab O=x.2
def T5{M:Fx}(h:u6 x M){X:BE}(Q:OC M X=U b):X.ab x=b:=by
 unfold OC at Q;split at Q;cases Q;simp[BE.ab];cases N:M.find? (λR=>R.1.aR X) with
 |none=>rw[N] at Q;cases Q
 |some R=>
  rw[N] at Q;cases Q;have L:=SU N;rw[<-BE.bU _ _ L];exact h R (SK N)
def akJ{N:Fx}(h:u6 x N){X:BE}(M:X.ab x=b):u6 x ((X,b)::N):=by
 intro R Q;rcases dV.1 Q with rfl|Q;exact M;exact h R Q
def Ik{w:World}{D:cq}{H:Ty}{a:Act}{W:World}{N:ai}{V:aq}{M:Fx}(X:az t w D H V x R a W)(G:ji x N (Y x.i) (Y x.b) (Y x.r))(h:u6 x M):u6 N (pU R M):=by
 intro Q F;obtain⟨B,L⟩:=qE.1 F;rw[<-X.ei,<-X.eb,<-X.er] at L;rw[BE.eC G _ L];exact h Q B
section
variable{f:bF}
def az.drew{g:aq}{w:World}{D:cq}{V:aq}{O:ai}{s:S}{a:Act}{W:World}(R:az g w D f.ty V O s a W):az g w D f.ty V O s a {W with drawn:=W.drawn+1}:=
 ⟨⟨R.mem.base.drew,R.mem.own,R.mem.inj,R.mem.box,λk e X Q N=>⟨(R.mem.ah k e X Q N).1.KZ (λ_ _=>rfl) (bY _),(R.mem.ah k e X Q N).2⟩⟩,R.gV,R.ei,R.eb,R.er,R.dp.world (λ_ _ h _=>h),R.size,R.tmps,λk e X b Q N M=>(R.gD k e X b Q N M).world rfl⟩
end
section
variable{g:aq}{w:World}{D:cq}{P:Program}{f:bF}{V:aq}{O:ai}{s:S}{a:Act}{W:World}
def az.akK(R:az g w D f.ty V O s a W)(N:s.bd=J)(j:Int):az g w D f.ty V (O.add (.i j)) {s with ni:=s.ni+1} a W:=by
 obtain⟨M,L⟩:=R.zZ N;have Q:=sL s.ao O (.i j) V;refine⟨⟨R.mem.base,R.mem.own,R.mem.inj,λi t H h=> ?_,R.mem.ah⟩,R.gV,by simp[ai.add,R.ei],R.eb,R.er,R.dp,R.size,λt G h=> ?_,λk e F b X B A=> ?_⟩;rw[Q.dR (ub L h)];exact R.mem.box i t H h;rcases R.tmps t G h with X|X;exact .inl X;right;rw[Q.ab (wz M h)];exact X;have t:=R.gD k e F b X B A;exact⟨t.own,t.mem,t.box,t.alone,t.inner⟩
def az.akL(R:az g w D f.ty V O s a W)(M:s.bd=J){Q:Sh}{N:RV}(L:bJ W f.ty (.mr Q) N):az g w D f.ty V (O.add (.r N)) {s with rs:=s.rs++[.mr Q]} a W:=
 R.add M L (λb X=>by cases X) (λk e F b _ _ _ X=>by
  rcases X with X|⟨⟨t,H⟩,_⟩;cases X;cases H) (λe b G=>by cases G)
def akM{M:Sh}{Q:ar}(h:∀X∈Q,Ib f.ty M X)(H:∀c∈bE f.ty (.mr M),nH c=J):bJ W f.ty (.mr M) (.mk (.slice Z (Y Q) (Y Q)) Q):=by
 refine bJ.mr M Q (λi X R=>(h X (jK R)).len) (λi j X c k R L N=>(h X (jK R)).int j c k L N) (λi j X c R L N=>(h X (jK R)).bool j c L N) (λi j X c z k R L N=> ?_);have:=H _ (jK N);simp[nH] at this
def aa8{n:Nat}{X x:aF}:∀{R:ar},x∈gq n X R->x=X\/x∈R
 |[],h=>by simp[gq] at h;exact .inl h
 |r::Q,h=>by
  simp only[gq] at h;split at h;rcases dV.1 h with h|h;exact .inl h;exact .inr (by simp[h]);rcases dV.1 h with h|h;exact .inr (by simp[h]);rcases aa8 h with h|h;exact .inl h;exact .inr (by simp[h])
def akN{n:Nat}{X:aF}:∀{rows:ar},(∀r∈rows,kZ n ((X.take n).map λc=>bn c.val) r=E)->gq n X rows=rows++[X]
 |[],_=>rfl
 |r::R,h=>by
  simp only[gq];rw[aT (by rw[h r av];simp),akN (rows:=R) (λx Q=>h x (Dd _ Q))];rfl
def akO{n:Nat}{X va:Bool}(Q:X=E->n=1){R:aF}(H:Fw n R){L:bA}(N:(R.take n).map (λc=>bn c.val)=L):∀{M:ar},(∀r∈M,Fw n r)->
  Af L (ww n X va R) (M.map (ww n X va))=(gq n R M).map (ww n X va)
 |[],_=>rfl
 |r::t,h=>by
  obtain⟨l,F,B,A⟩:=O9 (ag:=X) Q (h r av);have q:Y L=n:=by
   obtain⟨p,z,y⟩:=H;rw[<-N,y];simpa using z
  have w:kZ n L r=decide (l=L):=by
   simp only[kZ,A];rw[Hj aa]
  simp only[dU,Af,gq,N,w];have v:yp (ww n X va r).1=l:=by
   simp only[ww,B];exact aaJ (λe=>F.trans (Q e))
  rw[v];by_cases G:l=L;simp[G];simp only[G,gw,decide_false,jB,dU];rw[akO Q H N λx u=>h x (by simp[u])]
def awX(t:TypeId):(Instr.makeMap t Z).run P W=.ok (.map (U W.heap.size)) (W.alloc (.map #[] 0)):=by
 simp[Instr.makeMap]
def awY(R:az g w D f.ty V O s a W){m:OM}{t:TypeId}(F:m.o.op=.makeMap t Z){N:S}(h:Td f m.o.dst s t=U N):
  ∃v M L,sM P m.o a W v M/\az g w D f.ty L O N (a.put m.o.dst v) M/\bH s O V N O L:=by
 unfold Td at h;split at h;rename_i k e n X aj q x;split at h;rename_i Q u;split at h;rename_i H;simp only[aw] at H;cases h;have B:C.eo s.ni s.nb (Y s.rs) (aP s.ao) (HO Q n X).2=true:=by
  unfold HO;split<;>simp[C.ja,C.bo,RE.bo,K.bo,BE.bo]
 obtain⟨G,A⟩:=R.zO H.1 (t:=(HO Q n X).1) B;have z:mC (HO Q n X).1 (C.dR O V (HO Q n X).2)=.map #[] 0:=by
  unfold HO;split;rw[Fy];simp[RE.rv,qK,gU];rw[Fz];simp[C.aG,DE,qK,gU]
 rw[z] at G;refine⟨.map (U W.heap.size),W.alloc (.map #[] 0),V++[W.heap.size],.inl ?_, ?_,A.put _ _⟩;simp[execOp,F,awX];have:=G.put m.o.dst (.mp (Y s.ao));have y:ad (V++[W.heap.size]) (Y s.ao)=W.heap.size:=by simp[ad,<-R.gV]
 rw[C.ab,y] at this;exact this;cases h;cases h;cases h
def T6{R:TypeId}{Q:TI}{r:RE}(h:By f s v R X b Q e=U r):
  e=[.ah r,.int I (.c (X:Int)),.bool (.c b),.bool (.c Q.d.isAgg)]/\r.o8 f.ty s ⟨v,R,X,b,Q.d.isAgg⟩=J/\Q.aj.all nH=true:=by
 unfold By at h;split at h;split at h;rename_i N;simp only[aw,dK] at N;cases h;obtain⟨⟨⟨⟨M,rfl⟩,rfl⟩,rfl⟩,L⟩:=N;exact⟨rfl,M,L⟩;cases h;cases h
def akP{x y z:K}(h:HG X b r=U (x,y,z)):r.cells.map (C.cj O)=([x.ab O,y.ab O,z.ab O].take X).map λu=>.mk (.int I u) []:=by
 unfold HG at h;split at h<;>first|(cases h;done)|(split at h<;>first|(cases h;done)|skip)
 all_goals
  rename_i R;cases h;simp only[aw,dK] at R;obtain⟨rfl,-⟩:=R;simp[C.cells,C.cj]
def aa9:∀{aj:fu}{l:ap},mV f.ty s aj l=J->aj.all nH=J->Y l=Y aj/\(∀(j:Nat)(k:IntKind),aj[j]?=U (.int k)->∃x,(l.map (C.cj O))[j]?=U (.mk (.int k x) []))/\(∀(j:Nat),aj[j]?=U .bool->∃x,(l.map (C.cj O))[j]?=U (.mk (.bool x) []))/\(l.map (C.cj O)).map RV.val=C.aG O V l
 |[],[],_,_=>⟨rfl,λj k h=>by simp at h,λj h=>by simp at h,rfl⟩
 |[],_::_,h,_=>by simp[mV] at h
 |_::_,[],h,_=>by simp[mV] at h
 |c::aj,v::l,h,Q=>by
  simp only[mV,aw] at h;simp only[Om,aw] at Q;obtain⟨M,L,H,G⟩:=aa9 (aj:=aj) (l:=l) h.2 Q.2;have R:=h.1;unfold tU at R;split at R;rename_i k F e;have:k=F:=tP R;subst this;refine⟨by simp[M],λj N X=> ?_,λj X=> ?_,by simp[C.aG,C.cj,C.ab,G]⟩;cases j with
  |zero=>simp at X;subst X;exact⟨e.ab O,rfl⟩
  |succ j=>simpa using L j N (by simpa using X)
  cases j with
  |zero=>simp at X
  |succ j=>simpa using H j (by simpa using X)
  rename_i b;refine⟨by simp[M],λj N X=> ?_,λj X=> ?_,by simp[C.aG,C.cj,C.ab,G]⟩;cases j with
  |zero=>simp at X
  |succ j=>simpa using L j N (by simpa using X)
  cases j with
  |zero=>exact⟨b.ab O,rfl⟩
  |succ j=>simpa using H j (by simpa using X)
  simp[nH] at Q;cases R
def awZ{e:TypeId}{M:TI}(m:tT f.ty v X b=J)(l:f.ty e=U M)(i:M.aj.all nH=J){R:C}{x y z:K}(G:HG X b r=U (x,y,z))(h:mV f.ty s M.aj R.cells=J):
  Ib f.ty ⟨v,e,X,b,M.d.isAgg⟩ ((r.cells++R.cells).map (C.cj O)):=by
 obtain⟨g,F,B,A⟩:=KU (va:=M.d.isAgg) m l;obtain⟨q1,q2,q3,-⟩:=aa9 (O:=O) (V:=[]) h i;have af:=(aaK (O:=O) (V:=[]) G).2;have w:=akP (O:=O) G;have t:(r.cells.map (C.cj O)).length=X:=by rw[w];simpa using af
 have q:∀(j:Nat),((r.cells++R.cells).map (C.cj O))[j]?=if j<X then(r.cells.map (C.cj O))[j]? else(R.cells.map (C.cj O))[j-X]?:=by
  intro j;rw[Hq,aJb,t]
 have p:∀(j:Nat),(bE f.ty (.mr ⟨v,e,X,b,M.d.isAgg⟩))[j]?=if j<X then g[j]? else M.aj[j-X]?:=by
  intro j;rw[F,aJb,B]
 refine⟨?_,λj c kk Q N=> ?_,λj c Q N=> ?_⟩;rw[F,pN,gP,gP,B,q1];simp at t;omega;rw[q] at Q;rw[p] at N;split at Q;rename_i L;rw[aL L] at N;have:=A _ (jK N);cases this;rw[w,dS] at Q;cases o:([x.ab O,y.ab O,z.ab O].take X)[j]? with
 |none=>rw[o] at Q;cases Q
 |some u=>rw[o] at Q;cases Q;exact⟨u,rfl⟩
 rename_i L;rw[aT L] at N;obtain⟨u,H⟩:=q2 _ kk N;rw[H] at Q;cases Q;exact⟨u,rfl⟩;rw[q] at Q;rw[p] at N;split at Q;rename_i L;rw[aL L] at N;have:=A _ (jK N);cases this;rename_i L;rw[aT L] at N;obtain⟨u,H⟩:=q3 _ N;rw[H] at Q;cases Q;exact⟨u,rfl⟩
def aw0{e:TypeId}{R:Bool}{Q:TI}(M:tT f.ty v X b=J)(L:f.ty e=U Q)(H:Q.aj.all nH=J):∀c∈bE f.ty (.mr ⟨v,e,X,b,R⟩),nH c=true:=by
 obtain⟨B,G,A,F⟩:=KU (va:=R) M L;intro c N;rw[G] at N;rcases eW.1 N with h|h;rw[F c h];rfl;exact fZ.1 H c h
def aw1(W:World)(b:Nat)(o:Obj):ChangeMaps.setBlock W b o=W.putObj b o:=rfl
def MR.akQ(g:aq)(w:World)(D:cq)(R:Ty)(V:aq)(O:ai)(s:S)(a:Act)(Q:World):MR->Prop
 |.ok X=>az g w D R V O X a Q/\bH s O V X O V
 |.ac _ x X=>az g w D R V (O.add (.r (gI x O))) X a Q/\bH s O V X (O.add (.r (gI x O))) V
def Po(R:az g w D f.ty V O s a W)(aC:jq P f.ty){d:cQ}{M X:C}{Q:MR}(h:Fi f d s v r M X=U Q):
  ∃W',(Instr.mapUpdate v (r.ab O V) (M.ab O V) (X.ab O V)).run P W=.ok () W'/\Q.akQ g w D f.ty V O s (a.put d undef) W':=by
 unfold Fi at h;split at h;rename_i k e n L aj q i ht;have hd:P.underlying v=U (.map k e):=(aC _ _ ht).desc;have b:u4 P k n L:=(aC _ _ ht).key k e n L rfl;split at h;rename_i H xa xb xc bt A z g2 g3;have br:=aC _ _ z;split at h;cases h;rename_i ba;simp only[jL,iw,not_or,Hn] at ba;obtain⟨⟨af,a0⟩,bs⟩:=ba;simp only[S.fp,aw] at a0;obtain⟨hb,a0⟩:=a0;obtain⟨bb,a1⟩:=aaK (O:=O) (V:=V) g2;have al:=R.mem.box i bt A g3;have bx:=TN (O:=O) (V:=V) (wB R) bs;split at h;rename_i an;simp only[dK] at an;subst an;split at h;rename_i G b0;split at h;rename_i bc;cases h;obtain⟨rfl,c1,c5⟩:=T6 b0;rw[Fy] at al;have bd:=Ic R c1;have bf:∀F∈(G.rv O).ac,Fw n F:=λF o=>KV af z (bd F o)
 have a3:=akI (P:=P) hd b al a1 (λp hp=>by
  obtain⟨F,o,rfl⟩:=iD.1 hp;obtain⟨l,q1,q2,-⟩:=O9 b.1 (bf F o);exact⟨l,q1,q2⟩) (X.ab O V)
 have a4:=awZ (O:=O) (s:=s) af z c5 g2 bc;have bg:=akP (O:=O) g2;have cn:(M.cells.map (C.cj O)).length=n:=by rw[bg];simpa using a1
 have b1:((M.cells++X.cells).map (C.cj O)).take n=M.cells.map (C.cj O):=by
  rw[Hq,avl aa,Hj aa]
 have b2:((M.cells++X.cells).map (C.cj O)).drop n=X.cells.map (C.cj O):=by
  rw[Hq,avm aa,ZB aa];rfl
 have hL:(((M.cells++X.cells).map (C.cj O)).take n).map (λc=>bn c.val)=[xa.ab O,xb.ab O,xc.ab O].take n:=by
  rw[b1,bg];simp[bn]
 obtain⟨f1,-,-,f4⟩:=aa9 (O:=O) (V:=V) bc c5;have b3:ww n L H.d.isAgg ((M.cells++X.cells).map (C.cj O))=(ip L ([xa.ab O,xb.ab O,xc.ab O].take n),X.ab O V):=by
  obtain⟨l,q1,q2,q3⟩:=O9 (ag:=L) b.1 (KV af z a4);have hl:l=[xa.ab O,xb.ab O,xc.ab O].take n:=by rw[<-q3,hL]
  have b4:rI H.d.isAgg (X.cells.map (C.cj O))=X.ab O V:=by
   rw[bx,rI,f4];cases ha:H.d.isAgg;have b5:Y X.cells=1:=by rw[f1];exact BN br ha
   obtain⟨u,hu⟩:=oZ.1 b5;simp only[jB,gw];rw[<-f4,hu];rfl;rfl
  simp only[ww,q2,hl,b2,b4]
 have aA:=akO (va:=H.d.isAgg) b.1 (KV af z a4) hL bf;rw[b3] at aA;have hh:bJ W f.ty (.mr ⟨k,e,n,L,H.d.isAgg⟩) (gI (.ins (.ah G) n (M.cells++X.cells)) O):=by
  refine akM (λF bk=> ?_) (aw0 af z c5);simp only[LE.ac] at bk;rcases aa8 bk with rfl|h;exact a4;exact bd F h
 have R1:=R.akL hb hh;have a9:∀cc tt ff,mC wj (C.dR (O.add (.r (gI (.ins (.ah G) n (M.cells++X.cells)) O))) V [.ah G,.int I (.c (n:Int)),.bool (.c L),.bool (.c H.d.isAgg)])≠ .cells cc tt ff:=by
  intro cc tt ff hx;rw[Fy] at hx;cases hx
 have R2:=R1.aa7 (cs':=[.ah (.v (Y s.rs)),.int I (.c (n:Int)),.bool (.c L),.bool (.c H.d.isAgg)]) (i:=i) g3 a9;have b6:(RE.v (Y s.rs)).rv (O.add (.r (gI (.ins (.ah G) n (M.cells++X.cells)) O)))=gI (.ins (.ah G) n (M.cells++X.cells)) O:=by
  simp[RE.rv,ai.rv,ai.add,<-R.er]
 rw[Fy,b6] at R2;refine⟨W.putObj (ad V i) (qK ((gI (.ins (.ah G) n (M.cells++X.cells)) O).ac.map (ww n L H.d.isAgg))), ?_, ?_, ?_⟩;simp only[C.ab,bb];rw[a3,aA];rfl;have:=R2.put d (.bO []);exact this;exact bH.put (s:=s) (s':={s with rs:=s.rs++[RK.mr ⟨k,e,n,L,H.d.isAgg⟩],ao:=s.ao.set i (U (wj,[.ah (.v (Y s.rs)),.int I (.c n),.bool (.c L),.bool (.c H.d.isAgg)]))}) ⟨sL _ _ _ _,λj hj=>(p8 (cu.1 (kw.1 g3)).1).2 (.inr hj),av,bY _⟩ d _;cases h;cases h;split at h;rename_i an;simp only[aw,dK,iw] at an;obtain⟨⟨rfl,rfl⟩,rfl⟩:=an;split at h;rename_i x N bl;split at h;cases h;rename_i b7;cases h;rw[Fz] at al;obtain⟨p1,p2⟩:=KW (O:=O) (V:=V) bl;rw[p1] at al;have a3:=akI (P:=P) hd b al a1 (λp hp=>by
  obtain⟨u,hu,rfl⟩:=iD.1 hp;exact⟨[u.1],rfl,rfl⟩) (X.ab O V)
 have aA:∀(N:bA)(m:ap),¬N.contains x=J->Y N=Y m->Af [x] (ip E [x],X.ab O V) ((N.zip m).map λp=>(.int I p.1,p.2.ab O V))=((N.zip m).map λp=>(.int I p.1,p.2.ab O V))++[(.int I x,X.ab O V)]:=by
  intro N;induction N with
  |nil=>intro m _ _;simp[Af,ip]
  |cons y ys ih=>
   intro m hc hl;cases m with
   |nil=>simp at hl
   |cons u us=>
    have b8:¬y=x:=by
     intro e;subst e;simp at hc
    have ca:¬ys.contains x=true:=by
     intro e;simp at e hc;exact hc.2 e
    have:=ih us ca (by simpa using hl);simp only[ZH,dU,Af,yp,xU,and_true,b8,gw,this,ef]
 have a9:∀cc tt ff,mC uQ (C.dR O V A)≠ .cells cc tt ff:=by
  intro cc tt ff hx;rw[Fz] at hx;cases hx
 have R2:=R.aa7 (cs':=A++[.int I (.c x),X]) g3 a9;have ch:∀(l:ap)(N:bA),rC l=U N->DE (C.aG O V (l++[.int I (.c x),X]))=DE (C.aG O V l)++[(.int I x,X.ab O V)]:=by
  intro l;induction l using rC.induct with
  |case1=>intro N _;rfl
  |case2 k u Q ih=>
   intro N B;simp only[rC] at B;cases o:rC Q with
   |none=>rw[o] at B;cases B
   |some cl=>
    have:=ih cl o;simp only[ef,C.aG,DE] at this⊢;rw[this]
  |case3 l h1 h2=>intro N B;unfold rC at B;split at B<;>first|(exact aZ rfl h1)|(exact aZ rfl (h2 _ _ _))|cases B
 rw[Fz,ch A N bl,p1] at R2;refine⟨W.putObj (ad V i) (qK ((N.zip (mS A)).map (λp=>(Value.int I p.1,p.2.ab O V))++[(Value.int I x,X.ab O V)])), ?_,R2.put d (.bO []), ?_⟩;simp only[C.ab,bb];rw[a3];have:[(K.c x).ab O,xb.ab O,xc.ab O].take 1=[x]:=rfl;rw[this,aA N _ b7 p2];exact bH.put (s:=s) (s':=s.dw i uQ (A++[.int I (.c x),X])) ⟨ot.refl _ _ _,λj hj=>(p8 (cu.1 (kw.1 g3)).1).2 (.inr hj),by simp[S.dw],bY _⟩ d _;cases h;cases h;cases h;cases h
end
section
variable{g:aq}{B:World}{D:cq}{P:Program}{f:bF}{V:aq}{O:ai}{s:S}{a:Act}{W:World}
def aba{X:Ty}{s:S}{n:Nat}:∀r:RE,r.kind X {s with ni:=n}=r.kind X s
 |.v k=>rfl
 |.cell r i j k=>by simp only[RE.kind,aba r]
 |.k v=>by cases v<;>rfl
def Lb(R:az g B D f.ty V O s a W){Q:Sh}{r:RE}(h:r.o8 f.ty s Q=J):lenOf (r.rv O).val=(r.rv O).ac.length:=by
 unfold RE.o8 at h;rcases avu.1 h with h|h;have X:=sK R av (tP h);generalize r.rv O=N at X;cases X;rfl;unfold RE.nil at h;split at h;simp[RE.rv,lenOf];cases h
def aw2(R:az g B D f.ty V O s a W){e:TypeId}{G:TI}{i:Nat}{c:K}(h:Z7 f s v e X b G i=U c):∃l,W.heap[ad V i]?=U (qK l)/\(Y l:Int)=c.ab O:=by
 unfold Z7 at h;split at h;rename_i F M A;have Q:=R.mem.box i F M A;split at h;rename_i N;simp only[dK] at N;subst N;cases L:By f s v e X b G M with
 |none=>rw[L] at h;cases h
 |some r=>
  rw[L] at h;cases h;obtain⟨rfl,z,w⟩:=T6 L;rw[Fy] at Q;exact⟨_,Q,by simp[K.ab,Lb R z]⟩
 split at h;rename_i N;simp only[aw,dK,iw] at N;obtain⟨⟨rfl,rfl⟩,rfl⟩:=N;cases H:rC M with
 |none=>rw[H] at h;cases h
 |some u=>
  rw[H] at h;cases h;rw[Fz] at Q;obtain⟨y,x⟩:=KW (O:=O) (V:=V) H;rw[y] at Q;exact⟨_,Q,by simp[K.ab,x]⟩
 cases h;cases h
def Pp{t:Int}{c:K}{R:RE}:mC xX (C.dR O V [.mp X,.int I (.c t),.int I c,.ah R])=.mapIter (U (ad V X)) (c.ab O).toNat ((R.rv O).ac.map pZ).toArray (c.ab O).toNat:=by
 simp[mC,xX,wj,uQ,C.dR,C.io,C.ab,ajP]
def aw3(R:az g B D f.ty V O s a W)(H:jq P f.ty){m:OM}{t:TypeId}{x:Operand}(G:m.o.op=.range t x)(F:a.eval x=(s.ev f.gl x).ab O V){X:S}(h:Te f m.o.dst s t (s.ev f.gl x)=U X):
  ∃v Q N,sM P m.o a W v Q/\az g B D f.ty N O X (a.put m.o.dst v) Q/\bH s O V X O N:=by
 unfold Te at h;split at h;rename_i k e n ag aj q i A z;have y:P.underlying t=U (.map k e):=(H _ _ A).desc;split at h;rename_i te al;split at h;rename_i c w;split at h;rename_i M;simp only[aw] at M;obtain⟨⟨u,r⟩,p⟩:=M;cases h;obtain⟨l,j,d⟩:=aw2 R w;have b:C.eo s.ni s.nb (Y s.rs) (aP s.ao) [.mp i,.int I (.c (t:Int)),.int I c,.ah (.k (.slice Z 0 0))]=true:=by
  simp[C.ja,C.bo,RE.bo,K.bo,p,r]
 obtain⟨L,L1⟩:=R.zO u (t:=xX) b;rw[Pp,<-d] at L;have af:=run_range_map (P:=P) W t k e (ad V i) _ _ y j;refine⟨.pointer (U ⟨W.heap.size,0,Z⟩),W.alloc (.mapIter (U (ad V i)) (Y l) #[] (Y l)),V++[W.heap.size],.inl ?_, ?_,L1.put _ _⟩;simp only[execOp,G,F,z,C.ab,dC,af,du,fz];have:=L.put m.o.dst (.loc (Y s.ao) 0);have ha:ad (V++[W.heap.size]) (Y s.ao)=W.heap.size:=by simp[ad,<-R.gV]
 rw[C.ab,ha] at this;simpa[RE.rv] using this;cases h;cases h;cases h;cases h
def abb:∀{l:tQ}{m:Nat}{e:MapEntry},e∈gU m l->∃(j:Nat)(p:Value×Value),l[j]?=U p/\e=⟨p.1,p.2,m+j⟩
 |[],m,e,h=>by simp[gU] at h
 |x::r,m,e,h=>by
  simp only[gU,dV] at h;rcases h with rfl|h;exact⟨0,x,rfl,rfl⟩;obtain⟨j,p,X,R⟩:=abb h;exact⟨j+1,p,by simpa using X,by rw[R];congr 1;omega⟩
def abc:∀{l:tQ}{m j:Nat}{p:Value×Value},l[j]?=U p->(⟨p.1,p.2,m+j⟩:MapEntry)∈gU m l
 |[],m,j,p,h=>by simp at h
 |x::r,m,0,p,h=>by simp at h;subst h;simp[gU]
 |x::r,m,j+1,p,h=>by
  have:=abc (m:=m+1) (l:=r) (j:=j) (p:=p) (by simpa using h);simp only[gU,dV];right
  rwa [show m+(j+1)=m+1+j from aa]
def akR:∀(n:Nat)(l:aq),(∀j,j<n->j∈l)->n<=Y l
 |0,_,_=>Hx _
 |n+1,l,h=>by
  have X:=h n aa;have:=akR n (l.erase n) (λj R=>(aJc aa).2 (h j aa));rw[aIY X] at this;have:0<Y l:=aI5 X;omega
def Lc(R:HQ f=J):bE f.ty (.mr (ye f))=[.int I]:=by
 simp only[HQ,aw,aIW] at R;obtain⟨X,N⟩:=R;unfold tT at X;split at X;rename_i tk M;simp only[aw,dK] at X;obtain⟨c,Q⟩:=oZ.1 X.1.1;have:=X.1.2;rw[Q] at this;simp only[Om,List.all_nil,On] at this;unfold Z1 at this;split at this;simp[bE,ye,M,N,Q];cases this;cases X
def abd(X:HQ f=J){R:aF}(h:Ib f.ty (ye f) R):∃x,R=[.mk (.int I x) []]:=by
 have Q:=h.len;rw[Lc X] at Q;obtain⟨c,rfl⟩:=oZ.1 Q;obtain⟨x,N⟩:=h.int 0 c I rfl (by rw[Lc X];rfl);exact⟨x,by rw[N]⟩
def aw4(Q:HQ f=J)(x:Int):Ib f.ty (ye f) [.mk (.int I x) []]:=by
 refine⟨by rw[Lc Q];rfl,λj c k R X=> ?_,λj c R X=> ?_⟩;rw[Lc Q] at X;cases j with
 |zero=>simp at R X;subst R X;exact⟨x,rfl⟩
 |succ j=>simp at R
 rw[Lc Q] at X;cases j with
 |zero=>simp at X
 |succ j=>simp at R
def T7{r:RE}{A:K}{R:aF}(L:(r.rv O).ac[(A.ab O).toNat]?=U R):∀{aj:fu}{j:Nat},aj.all nH=J->Y R=j+Y aj->
  (∀(i:Nat)(k:IntKind),aj[i]?=U (.int k)->∃m,R[j+i]?=U (.mk (.int k m) []))->(∀(i:Nat),aj[i]?=U .bool->∃m,R[j+i]?=U (.mk (.bool m) []))->
  C.aG O V (uT r A j aj)=(R.drop j).map RV.val
 |[],j,_,Q,_,_=>by rw[avq (by simp at Q;omega)];rfl
 |.int k::aj,j,N,Q,H,G=>by
  obtain⟨m,X⟩:=H 0 k rfl;have F:=T7 L (aj:=aj) (j:=j+1) (by simpa[nH] using N) (by simp at Q⊢;omega) (λi k h=>by have:=H (i+1) k (by simpa using h);rwa [show j+(i+1)=j+1+i from aa] at this) (λi h=>by have:=G (i+1) (by simpa using h);rwa [show j+(i+1)=j+1+i from aa] at this);have B:R.drop j=.mk (.int k m) []::R.drop (j+1):=by
   rw[wh] at X;have M:=(cu.1 X).1;rw[Bj M];congr 1;rw[cP M] at X;simpa using X
  rw[wh] at X;simp only[uT,Fb,C.aG,C.ab,K.ab,aQ,F,B,dU,RV.nM,cw,L,X,oI,bn]
 |.bool::aj,j,N,Q,H,G=>by
  obtain⟨m,X⟩:=G 0 rfl;have F:=T7 L (aj:=aj) (j:=j+1) (by simpa[nH] using N) (by simp at Q⊢;omega) (λi k h=>by have:=H (i+1) k (by simpa using h);rwa [show j+(i+1)=j+1+i from aa] at this) (λi h=>by have:=G (i+1) (by simpa using h);rwa [show j+(i+1)=j+1+i from aa] at this);have B:R.drop j=.mk (.bool m) []::R.drop (j+1):=by
   rw[wh] at X;have M:=(cu.1 X).1;rw[Bj M];congr 1;rw[cP M] at X;simpa using X
  rw[wh] at X;simp only[uT,Fb,C.aG,C.ab,BE.ab,aQ,F,B,dU,RV.nM,cw,L,X,oI,gA]
 |.ae _ _::aj,j,N,_,_,_=>by simp[nH] at N
def abe{r:RE}{X:K}:∀{aj:fu}{j:Nat},(uT r X j aj).length=Y aj
 |[],j=>rfl
 |c::aj,j=>by simp[uT,abe (aj:=aj)]
def akS{r:RE}{N:K}{R:aF}(G:(r.rv O).ac[(N.ab O).toNat]?=U R)(M:b=E->X=1)(F:Fw X R):(Kq r N X b).ab O V=rI b (R.take X):=by
 obtain⟨l,B,L⟩:=F;have A:(R.take X).length=X:=by rw[L];simpa using B
 have z:C.aG O V ((e8 X).map λj=>.int I (.cell r N j))=(R.take X).map RV.val:=by
  rw[pY,oJ];apply kU;intro j;rw[dS,dS];by_cases H:j<X;rw[zH H];have y:j<Y l:=aa;have Q:(R.take X)[j]?=U (.mk (.int I l[j]) []):=by rw[L,dS,cP y];rfl
  have x:R[j]?=U (.mk (.int I l[j]) []):=by rw[nD,aL H] at Q;exact Q
  simp[Q,C.ab,K.ab,aQ,G,x,bn];rw[km dl,km aa];rfl
 rw[Kq,DJ (λw=>by simpa using M w),z,rI];cases b;obtain⟨c,Q⟩:=oZ.1 (A.trans (M rfl));rw[Q];rfl;rfl
def aw5{rs:RE}{je:K}{j:Int}(N:je.ab O=j)(h:∀R∈(rs.rv O).ac,∀x,R=[.mk (.int I x) []]->x≠j)(Q:∀R∈(rs.rv O).ac,∃x,R=[RV.mk (.int I x) []]):(Tf rs je).ab O=J/\∀r∈(rs.rv O).ac,kZ 1 [j] r=false:=by
 have M:∀r∈(rs.rv O).ac,∀b c,kZ 1 [j,b,c] r=false:=by
  intro r X b c;obtain⟨x,rfl⟩:=Q r X;have:=h _ X x rfl;simp[kZ,bn,this]
 constructor;simp only[Tf,BE.ab,N,K.ab,iw,jb];rw[List.find?_eq_none.2 (λr X=>by simp[M r X])];rfl;intro r X;obtain⟨x,rfl⟩:=Q r X;have:=h _ X x rfl;simp[kZ,bn,this]
def akT(G:HQ f=J)(R:az g B D f.ty V O s a W)(z:s.bd=J){d:cQ}{i t:Nat}{c:K}{Q:RE}(y:cz s.ao X=U (xX,[.mp i,.int I (.c (t:Int)),.int I c,.ah Q]))(b:Q.o8 f.ty s (ye f)=J)
  {N:K}{j:Nat}(w:N.ab O=j)(af:¬((Q.rv O).ac.map pZ).contains j=J){kv v:C}{key val:Value}
  (ag:∀F,kv.ab (O.add (.r F)) V=key)(hv:∀F,v.ab (O.add (.r F)) V=val):
  (Tf Q N).ab O=J/\az g B D f.ty V (O.add (.r (gI (.ins (.ah Q) 1 [.int I N]) O))) (Z8 f d s X s.ni i t c kv v) (a.put d (.tuple #[.bool J,key,val])) (W.putObj (ad V X) (.mapIter (U (ad V i)) (c.ab O).toNat (((Q.rv O).ac.map pZ).toArray.push j) (c.ab O).toNat)):=by
 have u:=Ic R b;have ht:∀L∈(Q.rv O).ac,∃x,L=[RV.mk (.int I x) []]:=λL H=>abd G (u L H)
 obtain⟨u1,u2⟩:=aw5 (O:=O) (rs:=Q) (je:=N) w (λL H x M=>by
  intro e;apply af;simp only[qD,iD];refine⟨L,H, ?_⟩;subst M;simp[pZ,bn,e]) ht
 refine⟨u1, ?_⟩;have hh:bJ W f.ty (.mr (ye f)) (gI (.ins (.ah Q) 1 [.int I N]) O):=by
  refine akM (λL p=> ?_) (λx M=>by rw[Lc G] at M;simp at M;subst M;rfl);simp only[LE.ac,dU,pP,C.cj] at p;rcases aa8 p with rfl|h;exact aw4 G _;exact u L h
 have al:(gI (.ins (.ah Q) 1 [.int I N]) O).ac=(Q.rv O).ac++[[.mk (.int I j) []]]:=by
  simp only[gI,RV.nN,LE.ac,dU,pP,C.cj,w];refine akN λr H=> ?_
  simpa[bn] using u2 r H
 have R1:=R.akL z hh;have an:∀o n m,mC xX (C.dR (O.add (.r (gI (.ins (.ah Q) 1 [.int I N]) O))) V [.mp i,.int I (.c (t:Int)),.int I c,.ah Q])≠ .cells o n m:=by
  intro o n m M;rw[Pp] at M;cases M
 have A:=R1.aa7 (cs':=[.mp i,.int I (.c (t:Int)),.int I c,.ah (.v (Y s.rs))]) (i:=X) y an;have aA:(RE.v (Y s.rs)).rv (O.add (.r (gI (.ins (.ah Q) 1 [.int I N]) O)))=gI (.ins (.ah Q) 1 [.int I N]) O:=by
  simp[RE.rv,ai.rv,ai.add,<-R.er]
 obtain⟨a9,aC⟩:=R.zZ z;have l:=ub aC y;simp only[C.ja,C.bo,aw] at l;have a0:c.ab (O.add (.r (gI (.ins (.ah Q) 1 [.int I N]) O)))=c.ab O:=K.eC (sL s.ao O (.r (gI (.ins (.ah Q) 1 [.int I N]) O)) V).agree _ l.2.2.1;rw[Pp,aA,al,a0] at A;have a1:((Q.rv O).ac++[[RV.mk (.int I (j:Int)) []]]).map pZ=(Q.rv O).ac.map pZ++[j]:=by simp[pZ,bn]
 rw[a1] at A;have k:=A.put d (.bO [.bool (.c J),kv,v]);have a3:(C.bO [.bool (.c J),kv,v]).ab (O.add (.r (gI (.ins (.ah Q) 1 [.int I N]) O))) V=.tuple #[.bool J,key,val]:=by
  simp only[C.ab,C.aG,ag,hv,BE.ab]
 rw[a3] at k;have a4:((Q.rv O).ac.map pZ).toArray.push j=((Q.rv O).ac.map pZ++[j]).toArray:=av;rw[a4];exact k
def akU{X:Type}:∀{l:List X}{m j:Nat},fh ((m+j:Nat):Int) ((xV m (Y l)).map λ(i:Nat)=>(i:Int)) l=l[j]?
 |[],m,j=>by simp[fh]
 |x::l,m,j=>by
  simp only[kV,ZK,dU,fh];cases j with
  |zero=>simp
  |succ j=>
   rw[aT aa,show m+(j+1)=m+1+j from aa,akU];simp
def akV{R:Type}{l:List R}{j:Nat}(h:X=Y l):fh (j:Int) (Dp X) l=l[j]?:=by
 have:=akU (l:=l) (m:=0) (j:=j);rw[jf] at this;rw[Dp,h,SN];exact this
def aw6(h:r.ab x V=r.ab O V):C.aG x V r.cells=C.aG O V r.cells:=by
 cases r
 case agg l=>simp only[C.ab,Value.agg.injEq] at h;simpa[C.cells] using h
 all_goals simp only[C.cells,C.aG,h]
def akW(R:az g B D f.ty V O s a W){Q:TI}(G:fw P v Q){x:K}{N:bA}{X:C}(h:Tg Q x N e=U (r,X))(F:Y N=Y e){O':ai}{j:Nat}(M:x.ab O'=j){k:Int}{u:C}(A:N[j]?=U k)(L:e[j]?=U u)(t:u.ab O' V=u.ab O V):
  r.ab O' V=.int I k/\X.ab O' V=u.ab O V:=by
 unfold Tg at h;split at h;rename_i q;split at h;rename_i y l p o;cases h;constructor;obtain⟨w,n,m,-⟩:=aaD (O:=O') p;obtain⟨k',z,i,rfl⟩:=m (.int I (.c k)) (by rw[M,akV av,dS,A];rfl);cases i;simp only[C.ab,n,K.ab];obtain⟨b,s1,s2⟩:=TK (O:=O') (V:=V) o;have H:=fZ.1 q u (jK L);have af:Y u.cells=0+Y Q.aj:=by
  simp only[Bs,aw,dK] at H;omega
 have ag:Q.d.isAgg=E->Y l=1:=λha=>by rw[b];exact BN G ha
 rw[DJ ag,s1 u.cells (by rw[M,akV (by simp[F]),dS,L];rfl) af,avL,aw6 t,TN (wB R) H];cases h;cases h
def akX:∀{l:tQ}{m:Nat},(gU m l).map (·.born)=xV m (Y l)
 |[],m=>rfl
 |x::r,m=>by simp[gU,akX (l:=r),ZK]
def aw7{p:Sp}{L:dG}(hP:p.P=P)(R:az g B D f.ty V O s a W)(an:jq P f.ty){m:OM}{x:Operand}(ho:m.o.op=.next x E)(he:a.eval x=(s.ev f.gl x).ab O V){bl ba:S->T}{t:T}(h:Z9 f m.o.dst s (s.ev f.gl x) bl ba=U t)(hs:t.aS p O L):
  ∃v W' z w,sM P m.o a W v W'/\az g B D f.ty V z w (a.put m.o.dst v) W'/\bH s O V w z V/\((z=O/\(ba w).aS p O L)\/(bl w).aS p z L):=by
 unfold Z9 at h;split at h;rename_i q hx;split at h;rename_i bt i tz c F hq;split at h;cases h;rename_i b8;simp only[iw,Hn,aw,dK,ce] at b8;obtain⟨⟨⟨⟨⟨rfl,br⟩,bb⟩,hb⟩,ca⟩,dr⟩:=b8;obtain⟨tn,rfl⟩:∃tn:Nat,tz=(tn:Int):=⟨tz.toNat,aa⟩;simp only[su] at h;have bs:=R.mem.box _ _ _ hq;rw[Pp] at bs;have cC:=Ic R bb;have ds:∀H∈(F.rv O).ac,∃x,H=[RV.mk (.int I x) []]:=λH hr=>abd br (cC H hr)
 obtain⟨dx,bx⟩:=R.zZ hb;split at h;rename_i k e n ag aj qq dy cD cc ch;have hd:P.underlying tn=U (.map k e):=(an _ _ cc).desc;have hK:u4 P k n ag:=(an _ _ cc).key k e n ag rfl;split at h;rename_i M aA;split at h;cases h;rename_i bc;have bc:tT f.ty k n ag=true:=by simpa using bc
 have aC:=R.mem.box _ _ _ ch;have bf:=ub bx ch;have model:∀(l:tQ),W.heap[ad V i]?=U (qK l)->(Y l:Int)=c.ab O->
   (c.ab O<=lenOf (F.rv O).val/\sM P m.o a W (.tuple #[.bool E]) W)\/
   ∃(j:Nat)(kv:Value×Value)(G:World),l[j]?=U kv/\¬((F.rv O).ac.map pZ).contains j=J/\(G=W\/G=W.drew)/\sM P m.o a W (.tuple #[.bool J,kv.1,kv.2]) (G.putObj (ad V q) (.mapIter (U (ad V i)) (c.ab O).toNat (((F.rv O).ac.map pZ).toArray.push j) (c.ab O).toNat)):=by
  intro l hl b0;have hN:(c.ab O).toNat=Y l:=aa;rw[hN] at bs⊢;rcases run_next_at (P:=P) W m.o.type (ad V q) (ad V i) (Y l) (Y l) _ _ _ bs hl (λy hy=>by
   obtain⟨j,p,h1,h2⟩:=abb (by simpa using hy);rw[h2];have:=(cu.1 h1).1;simpa using this) (bY _) with⟨h0,hr⟩|⟨en,b1,G,cI,hr⟩
  left;refine⟨?_,.inl ?_⟩;rw[Lb R bb,<-b0];have:=akR (Y l) ((F.rv O).ac.map pZ) (λj hj=>by
   cases A:((F.rv O).ac.map pZ).contains j with
   |true=>exact qD.1 A
   |false=>
    exfalso;have cO:=abc (m:=0) (cP hj);have:(⟨(l[j]).1,(l[j]).2,0+j⟩:MapEntry)∈(leftOf (gU 0 l).toArray ((F.rv O).ac.map pZ).toArray):=by
     unfold leftOf;rw[aJr];refine⟨by simpa using cO, ?_⟩;simp only[jf,iw];rw[<-A];simp
    have dz:=Array.size_pos_of_mem this;omega)
  simpa using this;simp only[execOp,ho,he,hx,C.ab,dC,hr,du,fz];right;unfold leftOf at b1;rw[Array.mem_toList_iff,aJr] at b1;obtain⟨cR,cl⟩:=b1;obtain⟨j,kv,hj,rfl⟩:=abb (by simpa using cR);simp only[jf] at cl hr;refine⟨j,kv,G,hj, ?_,cI,.inl ?_⟩;simpa using cl;simp only[execOp,ho,he,hx,C.ab,dC,hr,du,fz,aw1]
 have cn:(W=W)->(c.ab O<=lenOf (F.rv O).val)->sM P m.o a W (.tuple #[.bool E]) W->(ba (s.put m.o.dst (.bO [.bool (.c E)]))).aS p O L->∃v W' z w,sM P m.o a W v W'/\az g B D f.ty V z w (a.put m.o.dst v) W'/\bH s O V w z V/\((z=O/\(ba w).aS p O L)\/(bl w).aS p z L):=by
  intro _ _ cW c0;have:=R.put m.o.dst (.bO [.bool (.c E)]);exact⟨_,W,O,_,cW,this,(bH.refl _ _ _).put _ _,.inl ⟨rfl,c0⟩⟩
 have co:∀G,(G=W\/G=W.drew)->az g B D f.ty V O s a G:=by
  rintro G (rfl|rfl);exact R;exact R.drew
 split at h
 
 rename_i a0;simp only[dK] at a0;subst a0;split at h;rename_i r hr;split at h;rename_i bg;simp only[aw] at bg;cases h;obtain⟨rfl,c1,c5⟩:=T6 hr;rw[Fy] at aC;have b2:c.ab O=((r.rv O).ac.length:Int):=by
  have:=K.bU _ _ bg.1;rw[this,K.ab,Lb R c1]
 have cp:=Ic R c1;simp only[Th,T.aS] at hs;rcases model _ aC (by rw[b2];simp) with⟨Q,g2⟩|⟨j,kv,G,Q,g2,g3,g4⟩;exact cn rfl Q g2 (hs.2 (decide_eq_true Q))
 ·rw[dS] at Q;cases a3:(r.rv O).ac[j]? with
  |none=>rw[a3] at Q;cases Q
  |some H=>
  rw[a3] at Q;simp only[eh,cX] at Q;have c2:=(cu.1 a3).1;have cs:=jK a3;have c3:=KV bc aA (cp H cs);have b3:=hs.1 (j:Int) aa aa;have R1:=(co G g3).akK hb (j:Int);have af:=(sL s.ao O (.i (j:Int)) V).agree;simp only[C.ja,C.bo,aw] at bf;have al:=ub bx hq;simp only[C.ja,C.bo,aw] at al;have a4:F.rv (O.add (.i (j:Int)))=F.rv O:=RE.sJ af _ al.2.2.2.1;have b4:c.ab (O.add (.i (j:Int)))=c.ab O:=K.eC af _ al.2.2.1;have a9:(K.v s.ni).ab (O.add (.i (j:Int)))=(j:Int):=by simp[K.ab,ai.add,<-R.ei]
  have c4:∀X,(K.v s.ni).ab ((O.add (.i (j:Int))).add (.r X))=(j:Int):=λX=>a9
  have c6:∀X,r.rv ((O.add (.i (j:Int))).add (.r X))=r.rv O:=λX=>by
   have a1:=RE.sJ af _ bf.1;have b5:=(sL s.ao (O.add (.i (j:Int))) (.r X) V).agree;have a2:=RE.sJ (b5.mono (by simp[ai.add]) (bY _) (bY _)) r bf.1;rw[a2,a1]
  have cv:∀X,(r.rv ((O.add (.i (j:Int))).add (.r X))).ac[((K.v s.ni).ab ((O.add (.i (j:Int))).add (.r X))).toNat]?=U H:=λX=>by
   rw[c6,c4];simpa using a3
  obtain⟨kc,r1,r2,r3⟩:=KU (va:=M.d.isAgg) bc aA;have b6:=cp H cs;have b0:Y H=n+Y M.aj:=by rw[b6.len,r1,gP,r2]
  have cx:∀(N:Nat)(ct:CT),M.aj[N]?=U ct->(bE f.ty (.mr ⟨k,e,n,ag,M.d.isAgg⟩))[n+N]?=U ct:=λN ct hm=>by
   rw[r1,iJ aa,r2,show n+N-n=N from aa];exact hm
  have cy:∀(N:Nat)(ct:CT),M.aj[N]?=U ct->∃c,H[n+N]?=U c:=λN ct hm=>by
   have:N<Y M.aj:=(cu.1 hm).1;exact⟨H[n+N]' aa,cP _⟩
  have c7:M.d.isAgg=E->(uT r (.v s.ni) n M.aj).length=1:=λha=>by rw[abe];exact BN (an _ _ aA) ha
  have c8:∀X,(tS M.d.isAgg (uT r (.v s.ni) n M.aj)).ab ((O.add (.i (j:Int))).add (.r X)) V=rI M.d.isAgg (H.drop n):=λX=>by
   rw[DJ c7,T7 (cv X) c5 b0 (λN kk hm=>by
    obtain⟨c,A⟩:=cy N _ hm;obtain⟨x',b7⟩:=b6.int (n+N) c kk A (cx N _ hm);exact⟨x',by rw[A,b7]⟩) (λN hm=>by
    obtain⟨c,A⟩:=cy N _ hm;obtain⟨x',b7⟩:=b6.bool (n+N) c A (cx N _ hm);exact⟨x',by rw[A,b7]⟩),rI]
   cases c9:M.d.isAgg;have h1:=BN (an _ _ aA) c9;obtain⟨c,A⟩:=oZ.1 (show(H.drop n).length=1 from dl);rw[A];rfl;rfl
  obtain⟨u1,u2⟩:=akT (d:=m.o.dst) (s:={s with ni:=s.ni+1}) (kv:=Kq r (.v s.ni) n ag) (v:=tS M.d.isAgg (uT r (.v s.ni) n M.aj)) (key:=rI ag (H.take n)) (val:=rI M.d.isAgg (H.drop n)) br R1 ca hq (by simpa only[RE.o8,aba] using bb) a9 (by rw[a4];exact g2) (λX=>akS (cv X) hK.1 c3) c8;rw[a4,b4] at u2;subst Q;refine⟨_,_,_,_,g4,u2, ?_,.inr ?_⟩;refine bH.put (s:=s) (s':={s with ni:=s.ni+1,rs:=s.rs++[RK.mr (ye f)],ao:=s.ao.set q _}) ⟨(sL s.ao O (.i (j:Int)) V).trans (sL s.ao _ _ V) (λ_ h=>h),λj hj=>(p8 (cu.1 (kw.1 hq)).1).2 (.inr hj),av,bY _⟩ _ _;exact b3 u1
 cases h;cases h;split at h
 
 rename_i a0;simp only[aw,dK,iw] at a0;obtain⟨⟨rfl,rfl⟩,rfl⟩:=a0;split at h;rename_i ks dc;split at h;rename_i bg;split at h;rename_i dd v0 df;cases h;rw[Fz] at aC;obtain⟨p1,p2⟩:=KW (O:=O) (V:=V) dc;rw[p1] at aC;have b2:c.ab O=(Y ks:Int):=by
  have:=K.bU _ _ bg;rw[this,K.ab]
 simp only[Th,T.aS] at hs;rcases model _ aC (by rw[b2];simp[p2]) with⟨Q,g2⟩|⟨j,kv,G,Q,g2,g3,g4⟩;exact cn rfl Q g2 (hs.2 (decide_eq_true Q))
 ·rw[dS] at Q;cases hz:(ks.zip (mS cD))[j]? with
  |none=>rw[hz] at Q;cases Q
  |some kp=>
  rw[hz] at Q;simp only[eh,cX] at Q;obtain⟨z1,z2⟩:=avp.1 hz;have dk:∀{l:ap}{jj:Nat}{u:C},C.eo (Y O.i) (Y O.b) (Y O.r) (aP s.ao) l=J->(mS l)[jj]?=U u->u.bd (Y O.i) (Y O.b) (Y O.r) (aP s.ao)=true:=by
   intro l;induction l using mS.induct with
   |case1 k v r ih=>
    intro jj u bk hu;simp only[C.ja,aw] at bk;simp only[mS] at hu;cases jj with
    |zero=>simp at hu;subst hu;exact bk.2.1
    |succ jj=>exact ih bk.2.2 (by simpa using hu)
   |case2 l h1=>
    intro jj u bk hu;unfold mS at hu;split at hu;exact aZ rfl (h1 _ _ _);simp at hu
  have c2:j<Y ks:=(cu.1 z1).1;have b3:=hs.1 (j:Int) aa aa;have R1:=(co G g3).akK hb (j:Int);have af:=(sL s.ao O (.i (j:Int)) V).agree;have al:=ub bx hq;simp only[C.ja,C.bo,aw] at al;have a4:F.rv (O.add (.i (j:Int)))=F.rv O:=RE.sJ af _ al.2.2.2.1;have b4:c.ab (O.add (.i (j:Int)))=c.ab O:=K.eC af _ al.2.2.1;have a9:(K.v s.ni).ab (O.add (.i (j:Int)))=(j:Int):=by simp[K.ab,ai.add,<-R.ei]
  have cA:=dk bf z2;have dn:∀X,kp.2.ab ((O.add (.i (j:Int))).add (.r X)) V=kp.2.ab O V:=λX=>by
   have b5:=(sL s.ao (O.add (.i (j:Int))) (.r X) V).agree;rw[C.eC (b5.mono (by simp[ai.add]) (bY _) (bY _)) (λ_ _=>rfl) _ cA,C.eC af (λ_ _=>rfl) _ cA]
  have cB:=λX=>akW R (an _ _ aA) df p2 (O':=(O.add (.i (j:Int))).add (.r X)) (j:=j) a9 z1 z2 (dn X)
  obtain⟨u1,u2⟩:=akT (d:=m.o.dst) (s:={s with ni:=s.ni+1}) (kv:=dd) (v:=v0) (key:=.int I kp.1) (val:=kp.2.ab O V) br R1 ca hq (by simpa only[RE.o8,aba] using bb) a9 (by rw[a4];exact g2) (λX=>(cB X).1) (λX=>(cB X).2);rw[a4,b4] at u2;subst Q;refine⟨_,_,_,_,g4,u2, ?_,.inr ?_⟩;refine bH.put (s:=s) (s':={s with ni:=s.ni+1,rs:=s.rs++[RK.mr (ye f)],ao:=s.ao.set q _}) ⟨(sL s.ao O (.i (j:Int)) V).trans (sL s.ao _ _ V) (λ_ h=>h),λj hj=>(p8 (cu.1 (kw.1 hq)).1).2 (.inr hj),av,bY _⟩ _ _;exact b3 u1
 cases h;cases h;cases h;cases h;cases h;cases h;cases h;cases h
def aw8{p:Sp}{L:dG}(R:az g B D f.ty V O s a W)(u:jq P f.ty){m:OM}{x:Operand}(ho:m.o.op=.entry x)(he:a.eval x=(s.ev f.gl x).ab O V){bg:S->T}{t:T}(h:aab f m.o.dst s (s.ev f.gl x) bg=U t)(A:t.aS p O L):
  ∃v s',sM P m.o a W v W/\az g B D f.ty V O s' (a.put m.o.dst v) W/\bH s O V s' O V/\(bg s').aS p O L:=by
 unfold aab at h;split at h;rename_i q hx;split at h;rename_i bt i tz c Q hq;split at h;cases h;rename_i bk;simp only[iw,Hn,aw,dK,ce] at bk;obtain⟨⟨⟨⟨rfl,b6⟩,a4⟩,hb⟩,cD⟩:=bk;obtain⟨tn,rfl⟩:∃tn:Nat,tz=(tn:Int):=⟨tz.toNat,aa⟩;simp only[su] at h;have aC:=R.mem.box _ _ _ hq;rw[Pp] at aC;have b7:=Ic R a4;have model:∀(l:tQ),W.heap[ad V i]?=U (qK l)->(Y l:Int)=c.ab O->(aaa c Q).ab O=J->
   ∃(j:Nat)(b:Value×Value),l[j]?=U b/\(wt Q).ab O=j/\sM P m.o a W (.tuple #[b.1,b.2]) W:=by
  intro l hl bl b8;obtain⟨a9,ca⟩:=BT b8;obtain⟨a9,cc⟩:=BT a9;have h1:=Ae a9;have h2:=TY cc;obtain⟨h3,h4⟩:=BT ca;have h3:=Ae h3;rw[DH] at h4;have h4:(wt Q).ab O<c.ab O:=by simpa[fA] using h4
  simp only[K.ab] at h1 h2 h3;rw[Lb R a4] at h1 h2;have hN:(c.ab O).toNat=Y l:=aa;rw[hN] at aC;obtain⟨af,ba,a0⟩:∃af ba,(Q.rv O).ac=af++[ba]:=⟨_,_,(List.dropLast_concat_getLast (by intro e;rw[e] at h1;simp at h1)).symm⟩;obtain⟨z,y⟩:=abd b6 (b7 ba (by rw[a0];simp));have ch:IntKind.i64.wrap (((Q.rv O).ac.length:Int)-1)=((Q.rv O).ac.length:Int)-1:=by
   simp[IntKind.wrap,IntKind.bits,IntKind.signed];omega
  have br:(wt Q).ab O=z:=by
   simp only[wt,K.ab,aH,Lb R a4,ch,aQ];have:(((Q.rv O).ac.length:Int)-1).toNat=Y af:=by rw[a0];simp
   rw[this,a0,y];simp[cw,bn]
  rw[br] at h3 h4;obtain⟨j,rfl⟩:∃j:Nat,z=(j:Int):=⟨z.toNat,aa⟩;have bs:j<Y l:=aa;refine⟨j,l[j],cP bs,br,.inl ?_⟩;have cl:((Q.rv O).ac.map pZ).toArray=((af.map pZ).toArray).push j:=by
   rw[a0,y];simp[pZ,bn]
  rw[cl] at aC;have bx:=abc (m:=0) (cP bs);rw[jf] at bx;have hr:=run_entry_at (P:=P) W (ad V q) (ad V i) (Y l) ((af.map pZ).toArray) (gU 0 l).toArray (Y l) ⟨(l[j]).1,(l[j]).2,j⟩ aC hl (by simpa using bx) (by
   simp only[akX];exact List.nodup_range' ..)
  simp only[execOp,ho,he,hx,C.ab,dC,hr,du,fz]
 split at h;rename_i k e n ag aj qq cI cn b0 co;have hd:P.underlying tn=U (.map k e):=(u _ _ b0).desc;have hK:u4 P k n ag:=(u _ _ b0).key k e n ag rfl;split at h;rename_i N al;split at h;cases h;rename_i a1;have a1:tT f.ty k n ag=true:=by simpa using a1
 have an:=R.mem.box _ _ _ co;split at h;rename_i aA;simp only[dK] at aA;subst aA;split at h;rename_i r hr;split at h
 ·rename_i bb;cases h;obtain⟨rfl,c1,c5⟩:=T6 hr;rw[Fy] at an;have bc:c.ab O=((r.rv O).ac.length:Int):=by
   have:=K.bU _ _ bb;rw[this,K.ab,Lb R c1]
  have b1:=Ic R c1;obtain⟨hn,A⟩:=A;obtain⟨j,b,M,g2,g3⟩:=model _ an (by rw[bc];simp) hn;rw[dS] at M;cases a3:(r.rv O).ac[j]? with
  |none=>rw[a3] at M;cases M
  |some G=>
  rw[a3] at M;simp only[eh,cX] at M;have b2:=jK a3;have cp:=KV a1 al (b1 G b2);have b3:(r.rv O).ac[((wt Q).ab O).toNat]?=U G:=by rw[g2];simpa using a3
  obtain⟨kc,r1,r2,r3⟩:=KU (va:=N.d.isAgg) a1 al;have bd:=b1 G b2;have bl:Y G=n+Y N.aj:=by rw[bd.len,r1,gP,r2]
  have b4:∀(X:Nat)(w:CT),N.aj[X]?=U w->(bE f.ty (.mr ⟨k,e,n,ag,N.d.isAgg⟩))[n+X]?=U w:=λX w H=>by
   rw[r1,iJ aa,r2,show n+X-n=X from aa];exact H
  have b5:∀(X:Nat)(w:CT),N.aj[X]?=U w->∃c,G[n+X]?=U c:=λX w H=>by
   have:X<Y N.aj:=(cu.1 H).1;exact⟨G[n+X]' aa,cP _⟩
  have cs:N.d.isAgg=E->(uT r (wt Q) n N.aj).length=1:=λha=>by rw[abe];exact BN (u _ _ al) ha
  have cv:(tS N.d.isAgg (uT r (wt Q) n N.aj)).ab O V=rI N.d.isAgg (G.drop n):=by
   rw[DJ cs,T7 b3 c5 bl (λX kk H=>by
    obtain⟨c,F⟩:=b5 X _ H;obtain⟨x',bf⟩:=bd.int (n+X) c kk F (b4 X _ H);exact⟨x',by rw[F,bf]⟩) (λX H=>by
    obtain⟨c,F⟩:=b5 X _ H;obtain⟨x',bf⟩:=bd.bool (n+X) c F (b4 X _ H);exact⟨x',by rw[F,bf]⟩),rI]
   cases cx:N.d.isAgg;have h1:=BN (u _ _ al) cx;obtain⟨c,F⟩:=oZ.1 (show(G.drop n).length=1 from dl);rw[F];rfl;rfl
  have cy:=akS (V:=V) b3 hK.1 cp;have R2:=R.put m.o.dst (.bO [Kq r (wt Q) n ag,tS N.d.isAgg (uT r (wt Q) n N.aj)]);simp only[C.ab,C.aG,cy,cv] at R2;subst M;exact⟨_,_,g3,R2,(bH.refl _ _ _).put _ _,A⟩
 cases h;cases h;split at h;rename_i aA;simp only[aw,dK,iw] at aA;obtain⟨⟨rfl,rfl⟩,rfl⟩:=aA;split at h;rename_i ks cA;split at h;rename_i bb;split at h
 ·rename_i cB v0 cC;cases h;rw[Fz] at an;obtain⟨p1,p2⟩:=KW (O:=O) (V:=V) cA;rw[p1] at an;have bc:c.ab O=(Y ks:Int):=by
   have:=K.bU _ _ bb;rw[this,K.ab]
  obtain⟨hn,A⟩:=A;obtain⟨j,b,M,g2,g3⟩:=model _ an (by rw[bc];simp[p2]) hn;rw[dS] at M;cases y:(ks.zip (mS cn))[j]? with
  |none=>rw[y] at M;cases M
  |some kp=>
  rw[y] at M;simp only[eh,cX] at M;obtain⟨z1,z2⟩:=avp.1 y;obtain⟨e1,e2⟩:=akW R (u _ _ al) cC p2 (O':=O) g2 z1 z2 rfl;have R2:=R.put m.o.dst (.bO [cB,v0]);simp only[C.ab,C.aG,e1,e2] at R2;subst M;exact⟨_,_,g3,R2,(bH.refl _ _ _).put _ _,A⟩
 cases h;cases h;cases h;cases h;cases h;cases h;cases h;cases h
def akY{p:Sp}{L:dG}(R:az g B D f.ty V O s a W)(ag:jq P f.ty){m:OM}{t t2:TypeId}{G:BinOp}{X:Bool}{x y:Operand}(u:m.o.op=.binOp G t x y t2)(al:(G=.eql/\X=E)\/(G=.neq/\X=J))(he:a.eval x=(s.ev f.gl x).ab O V)(an:a.eval y=(s.ev f.gl y).ab O V){l:S->T}{j:T}(h:Ti f m.o.dst s t X (s.ev f.gl x) (s.ev f.gl y) l=U j)(F:j.aS p O L):
  ∃v z,sM P m.o a W v W/\az g B D f.ty V O z (a.put m.o.dst v) W/\bH s O V z O V/\(l z).aS p O L:=by
 unfold Ti at h;split at h;rename_i e aj q r ht hx hy;split at h;rename_i hk;cases h;have hd:P.underlying t=U (.slice e):=(ag _ _ ht).desc;have N:=sK R av hk;simp only[T.aS] at F;obtain⟨A,n,c,Q⟩:∃A n c,r.ab O=.slice A n c:=by
  have:∃A n c,(r.rv O).val=.slice A n c:=by
   generalize r.rv O=H at N;cases N;exact⟨_,_,_,rfl⟩
  exact this
 have aA:(K.len r).ab O=n:=by simp only[K.ab];unfold RE.ab at Q;rw[Q];rfl
 have i:(E9 t (.slice A n c) (.slice Z 0 0)).run P W=.ok A.isNone W:=by
  have w:E9 t (.slice A n c) (.slice Z 0 0)=Di (9999+1) t (.slice A n c) (.slice Z 0 0):=rfl;rw[w,Di,dC,fw.iL hd,du];cases A<;>rfl
 have d:(execOp a.eval m.o).run P W=.ok (.value (.bool (if X then !A.isNone else A.isNone))) W:=by
  simp only[execOp,u,he,an,hx,hy,C.ab,Q];have aC:RE.ab O (.k (.slice Z 0 0))=.slice Z 0 0:=rfl;rw[aC];rcases al with⟨rfl,rfl⟩|⟨rfl,rfl⟩;simp[eqGuard,binOp,i];simp[eqGuard,binOp,i]
 cases M:A with
 |none=>
  have hn:n=0:=by
   unfold RE.ab at Q;have w:∀{H:RV},bJ W f.ty (.sl e) H->H.val=.slice A n c->A=Z->n=0:=by
    intro H N Q M;cases N with
    |sl e A' a3 a4 af h1 h2 h3 hi hb u=>
     simp only[RV.nM,Value.slice.injEq] at Q;obtain⟨rfl,rfl,rfl⟩:=Q;subst M;cases af with
     |nil=>simp at h1;omega
     |cons a0 af=>
      obtain⟨-,b,a9,a1,-⟩:=h3 0 a0 rfl;cases a1
   exact w N Q M
  have:=F.2 (by show decide ((K.len r).ab O<=(K.c 0).ab O)=J;rw[aA,hn];rfl);refine⟨_,_,.inl d, ?_,(bH.refl _ _ _).put _ (.bool (.c (!X))),this⟩;have Q:(if X then !A.isNone else A.isNone)= !X:=by rw[M];cases X<;>rfl
  rw[Q];exact R.put m.o.dst (.bool (.c (!X)))
 |some A0=>
  have:=F.1 (by simp[BE.ab]);refine⟨_,_,.inl d, ?_,(bH.refl _ _ _).put _ (.bool (.c X)),this⟩;have Q:(if X then !A.isNone else A.isNone)=X:=by rw[M];cases X<;>rfl
  rw[Q];exact R.put m.o.dst (.bool (.c X))
 cases h;cases h
def az.cells{x:Ty}{H:ap}(R:az g B D x V O (s.dw X v e) a W)(F:X<Y s.ao)(h:C.dR O V e=C.dR O V H):az g B D x V O (s.dw X v H) a W:=by
 have G:∀j,aP (s.ao.set X (U (v,H))) j=aP (s.ao.set X (U (v,e))) j:=λj=>by
  rw[sx,p8 F,p8 F]
 have w:(s.dw X v H).ao=s.ao.set X (U (v,H)):=rfl;have M:(s.dw X v e).ao=s.ao.set X (U (v,e)):=rfl;refine⟨⟨R.mem.base,λj N=>R.mem.own j (by rw[M,<-G];exact N),λj k N u=>R.mem.inj j k (by rw[M,<-G];exact N) (by rw[M,<-G];exact u),λj t r L=> ?_,λk Q A z y=>⟨(R.mem.ah k Q A z y).1,λb L j N=>(R.mem.ah k Q A z y).2 b L j (by rw[M,<-G];exact N)⟩⟩,by simpa[S.dw] using R.gV,R.ei,R.eb,R.er,R.dp,R.size,R.tmps,λk Q A b q p o=> ?_⟩;rw[kw,w] at L;by_cases N:j=X;subst N;rw[Hk (by simpa using F)] at L;cases L;rw[<-h];exact R.mem.box j v e (by rw[kw,M,Hk (by simpa using F)]);rw[ss (λQ=>N Q.symm)] at L;exact R.mem.box j t r (by rw[kw,M,ss (λQ=>N Q.symm)];exact L);obtain⟨z,y,n,m,l⟩:=R.gD k Q A b q p o;exact⟨z,y,λj N=>n j (by rw[M,<-G];exact N),m,l⟩
def aw9{b:BE}{y z:C}(h:aac b r y=U z):z.io O V=if b.ab O then r.io O V else y.io O V:=by
 unfold aac at h;split at h;split at h;rename_i X;subst X;cases h;simp only[C.io,C.ab,K.ab];split<;>rfl;cases h;cases h;simp only[C.io,C.ab,BE.ab];split<;>rfl;cases h
def Pq:∀(R l:ap)(X:Nat),C.dR O V (l8 l X R)=gT (C.dR O V l) X (C.dR O V R)
 |[],l,X=>rfl
 |v::R,l,X=>by
  rw[l8,Pq R (l.set X v) (X+1)];simp only[C.dR,dU,gT,ajo]
def akZ{b:BE}:∀{M:ap}{R:Nat}{X Q:ap},OD b M R X=U Q->
  Y Q=Y X/\(M=[]\/R+Y M<=Y X)/\(b.ab O=J->C.dR O V Q=C.dR O V (l8 X R M))/\(b.ab O=E->C.dR O V Q=C.dR O V X)
 |[],R,X,Q,h=>by simp only[OD,cX] at h;subst h;exact⟨rfl,.inl rfl,λ_=>rfl,λ_=>rfl⟩
 |x::r,R,X,Q,h=>by
  simp only[OD] at h;split at h;rename_i A H;split at h;rename_i c z;obtain⟨G,L,y,w⟩:=akZ h;have v:R<Y X:=(cu.1 H).1;have F:=aw9 (O:=O) (V:=V) z;have B:C.dR O V (X.set R c)=(C.dR O V X).set R (c.io O V):=by simp[C.dR,ajo]
  have u:C.dR O V X=(C.dR O V X).set R (A.io O V):=by
   apply kU;intro j;rw[wc];split;rename_i t;subst t;simp[C.dR,v];have:=cu.1 H;rw[this.2];rfl
  rw[avF] at G L;refine⟨G,.inr ?_,λN=> ?_,λN=> ?_⟩;rcases L with rfl|L;simp;omega;simp only[kV];omega;rw[y N,Pq,B,F,aL N,Pq];simp only[C.dR,dU,gT];rw[w N,B,F,aT (by simp[N]),<-u];cases h;cases h
def ak0{e:K}{G:ap}(y:G≠[]):∀{M:bA}{L X R:ap},HR e G M L X=U R->Tj M=J->
  Y R=Y X/\(∀v,fh (e.ab O) M L=U v->∃i H,v=.loc i H/\H+Y G<=Y X/\C.dR O V R=C.dR O V (l8 X H G))/\(¬(e.ab O∈M)->C.dR O V R=C.dR O V X)
 |[],[],X,R,h,_=>by simp only[HR,cX] at h;subst h;exact⟨rfl,λv Q=>by simp[fh] at Q,λ_=>rfl⟩
 |[],_::_,X,R,h,_=>by simp[HR] at h
 |k::M,L,X,R,h,B=>by
  simp only[Tj,aw,iw] at B;cases L with
  |nil=>simp[HR] at h
  |cons u L=>
   cases u<;>simp only[HR] at h<;>try cases h
   rename_i i H;split at h;rename_i f q;obtain⟨p,o,x⟩:=ak0 y h B.2;obtain⟨w,A,t,z⟩:=akZ (O:=O) (V:=V) q;have A:=A.resolve_left y;simp only[BE.ab,K.ab,fA,dK,beq_eq_false_iff_ne,ne_eq] at t z;refine⟨by rw[p,w],λv Q=> ?_,λr=> ?_⟩;simp only[fh] at Q;split at Q;rename_i N;cases Q;refine⟨i,H,rfl,A, ?_⟩;rw[x (λF=>by
    rw[N] at F;have:=B.1;rw[qD.2 F] at this;cases this),t N]
   rename_i N;obtain⟨n,m,rfl,l,j⟩:=o v Q;refine⟨n,m,rfl,by rw[<-w];exact l, ?_⟩;rw[j,Pq,z N,<-Pq];have N:¬e.ab O=k:=λg=>r (by simp[g])
   rw[x (λF=>r (by simp[F])),z N];cases h
def ak1(h:OE r=J):r.single=true:=by cases r<;>simp only[OE,jB] at h<;>rfl
def ak2:∀{l:ap},Kr l=J->l≠[]/\Fc l=J
 |[],h=>by cases h
 |[x],h=>⟨av,by rw[S3.2,ak1 h,S3.1];rfl⟩
 |x::y::r,h=>by
  simp only[Kr,aw] at h;exact⟨av,by rw[S3.2,ak1 h.1,(ak2 (l:=y::r) h.2).2];rfl⟩
def axa(h:Kr r.cells=J):(r.ab O V).cells.toList=C.aG O V r.cells:=by
 cases r
 case agg l=>simp[C.cells,C.ab,Value.cells]
 all_goals(simp only[C.cells,Kr,OE,jB] at h)
 all_goals rfl
def axb{P:Program}{p:Sp}{L:dG}(R:az g B D f.ty V O s a W)(j:jq P f.ty){x y:Operand}{z:TI}{X:K}{H:bA}(d:f.ty v=U z)(c:l.op=.store v x y)(b:a.eval x=(C.gz X H e).ab O V)(e2:a.eval y=(s.ev f.gl y).ab O V){k:S->T}{w:T}
  (h:aad l.dst s z X H e (s.ev f.gl y) k=U w)(M:w.aS p O L):∃Q N G,sM P l a W Q N/\az g B D f.ty V O G (a.put l.dst Q) N/\bH s O V G O V/\(k G).aS p O L:=by
 unfold aad at h;split at h;rename_i i af;split at h;rename_i bt cs hb;split at h;rename_i ag al;split at h;rename_i r;simp only[aw,dK] at r;obtain⟨⟨⟨h1,h2⟩,h3⟩,q⟩:=r;cases h;simp only[T.aS] at M;obtain⟨n,M⟩:=M;rw[TL h2] at n;obtain⟨u,F⟩:=lF.1 n;obtain⟨an,aA⟩:=ak2 q;obtain⟨g1,g2,-⟩:=ak0 (O:=O) (V:=V) an al h3;obtain⟨i',m,rfl,aC,a0⟩:=g2 u F;obtain⟨a9,hq⟩:=aj0 af (KR F);cases hq;obtain⟨A,a1⟩:=zY hb;have hi:i<Y s.ao:=(cu.1 (kw.1 A)).1;have a3:((s.ev f.gl y).ab O V).cells.toList=C.aG O V (s.ev f.gl y).cells:=axa q;obtain⟨N,hr,R'⟩:=R.store (P:=P) (v:=s.ev f.gl y) (off:=m) (j _ _ d) A a1 h1.symm aC aA a3;have R2:az g B D f.ty V O (s.dw i bt ag) a N:=R'.cells hi a0.symm;refine⟨undef,N,_,.inr ⟨?_,rfl⟩,R2.put l.dst (.bO []),akx A _ _,M⟩;have a4:(C.gz X H e).ab O V=.pointer (U ⟨ad V i,m,Z⟩):=by
  simp only[C.ab];rw[TO F rfl];rfl
 simp only[execOp,c,b,e2,a4,dC,hr,du,fz];cases h;cases h;cases h;cases h
def axc{p:Sp}{L:dG}(R:az p.S0 p.w0 D f.ty V O s a W)(l:jq p.P f.ty)(w:fk f.gl O){m:OM}{af:S->Fx->T}{q:Fx}(r:u6 O q){t:T}(h:Bz f m s af q=U t)(n:t.aS p O L):
  ∃v F j b X ag,sM p.P m.o a W v F/\az p.S0 p.w0 D f.ty b j X (a.put m.o.dst v) F/\bH s O V X j b/\u6 j ag/\(af X ag).aS p j L:=by
 unfold Bz at h;split at h;cases h;rename_i M;have M:∀x∈m.o.op.operands.toList,(s.ev f.gl x).eX=false:=by
  intro x hx;cases hh:(s.ev f.gl x).eX;rfl;exact aZ (by simp only[jL];right;exact kW.2 ⟨x,hx,hh⟩) M
 split at h
 
 rename_i i Q;cases d:Td f m.o.dst s i with
 |none=>rw[d] at h;cases h
 |some X=>
  rw[d] at h;cases h;obtain⟨v,F,b,H,G,N⟩:=awY (P:=p.P) R Q d;exact⟨v,F,O,b,X,q,H,G,N,r,n⟩
 rename_i i x y z Q;rw[Q] at M;have A:=dA R w x (M x cN);have k:=dA R w y (M y cN);have e3:=dA R w z (M z cN);split at h;rename_i X c;cases h;obtain⟨F,H,G,N⟩:=Po (P:=p.P) R l c;exact⟨undef,F,O,V,X,q,.inr ⟨by simp only[execOp,Q,A,k,e3,dC,H,du,fz],rfl⟩,G,N,r,n⟩;rename_i k' x' X c;cases h;obtain⟨F,H,G,N⟩:=Po (P:=p.P) R l c;exact⟨undef,F,_,V,X,_,.inr ⟨by simp only[execOp,Q,A,k,e3,dC,H,du,fz],rfl⟩,G,N,Ik R N.ext.agree r,n⟩;cases h;rename_i i x y z Q;rw[Q] at M;have A:=dA R w x (M x cN);have k:=dA R w y (M y cN);have e3:=dA R w z (M z cN);split at h;rename_i X c;cases h;obtain⟨F,H,G,N⟩:=Po (P:=p.P) R l c;exact⟨undef,F,O,V,X,q,.inr ⟨by simp only[execOp,Q,A,k,e3,dC,H,du,fz],rfl⟩,G,N,r,n⟩;rename_i k' x' X c;cases h;obtain⟨F,H,G,N⟩:=Po (P:=p.P) R l c;exact⟨undef,F,_,V,X,_,.inr ⟨by simp only[execOp,Q,A,k,e3,dC,H,du,fz],rfl⟩,G,N,Ik R N.ext.agree r,n⟩;cases h;rename_i i x Q;rw[Q] at M;have A:=dA R w x (M x cN);cases d:Te f m.o.dst s i (s.ev f.gl x) with
 |none=>rw[d] at h;cases h
 |some X=>
  rw[d] at h;cases h;obtain⟨v,F,b,H,G,N⟩:=aw3 (P:=p.P) R l Q A d;exact⟨v,F,O,b,X,q,H,G,N,r,n⟩
 rename_i x Q;rw[Q] at M;have A:=dA R w x (M x cN);obtain⟨v,F,j,X,H,G,N,u⟩:=aw7 (P:=p.P) rfl R l Q A h n;rcases u with⟨rfl,u⟩|u;exact⟨v,F,j,V,X,q,H,G,N,r,u⟩;exact⟨v,F,j,V,X,_,H,G,N,Ik R N.ext.agree r,u⟩;rename_i x Q;rw[Q] at M;have A:=dA R w x (M x cN);obtain⟨v,X,H,G,N,u⟩:=aw8 (P:=p.P) R l Q A h n;exact⟨v,W,O,V,X,q,H,G,N,r,u⟩;rename_i i x y Q;rw[Q] at M;have A:=dA R w x (M x cN);have k:=dA R w y (M y cN);split at h;rename_i ti e ks vs ht hx;rw[hx] at A;obtain⟨v,F,X,H,G,N,u⟩:=axb (P:=p.P) R l ht Q A k h n;exact⟨v,F,O,V,X,q,H,G,N,r,u⟩;cases h;rename_i op i x y t2 Q;rw[Q] at M;have A:=dA R w x (M x cN);have k:=dA R w y (M y cN);split at h;obtain⟨v,X,H,G,N,u⟩:=akY (P:=p.P) R l Q (.inl ⟨rfl,rfl⟩) A k h n;exact⟨v,W,O,V,X,q,H,G,N,r,u⟩;obtain⟨v,X,H,G,N,u⟩:=akY (P:=p.P) R l Q (.inr ⟨rfl,rfl⟩) A k h n;exact⟨v,W,O,V,X,q,H,G,N,r,u⟩;cases h;cases h
end
def Pr(v:Value)(X:bA)(g:FuncId):mR:=(v::(X.map (Value.int I)++[.func (.func g) #[] #[]])).toArray
def qO(P:Program)(R:Ty)(f g:FuncId)(e:TypeId)(G:bu)(F:Bool):Prop:=
 (∀Q W,(callFunc f Q).run P W=.ok (.enter f Q) W)/\∀(W:World)(A:oL)(n X:Nat)(N aE:ar)(O:ai)(M:List K)(L:bu),G.fill M=U L->bJ W R (.sl e) (.mk (.slice A n X) N)->K7 W e (bE R (.sl e)).length A X->lg O L F N=U aE->
  Calls P f (Pr (.slice A n X) (M.map (K.ab O)) g) W λB H=>B=.returned (.tuple #[])/\W.grownBy H (lJ A X)/\FB W H e (bE R (.sl e)).length (lJ A X) aE A X
def ak3(P:Program)(N:Ty)(f:FuncId)(e:TypeId):Prop:=
 (∀M W,(callFunc f M).run P W=.ok (.enter f M) W)/\∀(W:World)(b n X:Nat)(L aE:ar)(i:Int)(R Q:Nat)(G F:TypeId),W.heap[R]?=U (.cells #[.slice (U ⟨b,0,Z⟩) n X] G (0,0))->W.heap[Q]?=U (.cells #[.func (.func f) #[] #[.pointer (U ⟨R,0,Z⟩),.pointer (U ⟨Q,0,Z⟩)]] F (0,0))->R≠b->Q≠b->
  bJ W N (.sl e) (.mk (.slice (U ⟨b,0,Z⟩) n X) L)->K7 W e (bE N (.sl e)).length (U ⟨b,0,Z⟩) X->wv i L=U aE->
  Calls P f #[.int I i,.pointer (U ⟨R,0,Z⟩),.pointer (U ⟨Q,0,Z⟩)] W λB H=>B=.returned (.int I (aM 0 (aE.getD i.toNat [])))/\W.grownBy H (U b)/\FB W H e (bE N (.sl e)).length (U b) aE (U ⟨b,0,Z⟩) X
def mY(P:Program)(X:Ty)(f g:FuncId)(e:TypeId)(R:bu)(Q:Bool):Prop:=if f=g then ak3 P X f e else qO P X f g e R Q
def mY.of{P:Program}{X:Ty}{f g:FuncId}{R:bu}(h:qO P X f g v R b)(Q:f≠g):mY P X f g v R b:=by
 unfold mY;rw[aT Q];exact h
def Ld(P:Program)(p:bF):Prop:=∀f g e X R,p.zM f g=U (e,X,R)->mY P p.ty f g e X R
def T8{lt:aF->aF->Bool}{x y:aF}:∀{l:ar},y∈eI lt x l<->y=x\/y∈l
 |[]=>by simp[eI]
 |z::r=>by
  simp only[eI];split;simp;simp only[dV,T8 (l:=r)];constructor;rintro(h|h|h);exact .inr (.inl h);exact .inl h;exact .inr (.inr h);rintro(h|h|h);exact .inr (.inl h);exact .inl h;exact .inr (.inr h)
def ak4{lt:aF->aF->Bool}{x:aF}:∀{l:ar},(eI lt x l).length=Y l+1
 |[]=>rfl
 |z::r=>by
  simp only[eI];split;simp;simp[ak4 (l:=r)]
def abf{lt:aF->aF->Bool}:∀(l acc:ar),(∀x,x∈l.foldl (λacc x=>eI lt x acc) acc<->x∈acc\/x∈l)/\(l.foldl (λacc x=>eI lt x acc) acc).length=Y acc+Y l
 |[],acc=>av
 |y::l,acc=>by
  obtain⟨X,R⟩:=abf (lt:=lt) l (eI lt y acc);refine⟨λx=> ?_, ?_⟩;simp only[E5,X,T8,dV];constructor;rintro((h|h)|h);exact .inr (.inl h);exact .inl h;exact .inr (.inr h);rintro(h|h|h);exact .inl (.inr h);exact .inl (.inl h);exact .inr h;simp only[E5,R,ak4,kV];omega
def ak5{lt:aF->aF->Bool}{l:ar}{x:aF}:x∈bT lt l<->x∈l:=by
 rw[bT,(abf l []).1];simp
def mZ{lt:aF->aF->Bool}{l:ar}:(bT lt l).length=Y l:=by
 rw[bT,(abf l []).2];simp
def ak6{sp:bu}{X aE:ar}(h:jh sp b X=U aE):∀x∈aE,x∈X:=by
 cases sp with
 |dD k o Q=>simp[jh] at h
 |_=>
  simp only[jh] at h;split at h;cases h;intro x R;exact ak5.1 R;cases h
def ak7{sp:bu}{X aE:ar}(h:jh sp b X=U aE):Y aE=Y X:=by
 cases sp with
 |dD k o R=>simp[jh] at h
 |_=>
  simp only[jh] at h;split at h;cases h;exact mZ;cases h
def u7{R:ar}{b:Nat}{x:aF}(h:x∈bp R X b):x∈R:=Bl (E2 h)
def axd(X:ar)(a b:Nat):(bp X a b).length=min (b-a) (Y X-a):=by simp[bp]
def T9{X:ar}:∀(n:Nat)(i:Int),(rH n i X).length=Y X
 |0,_=>rfl
 |n+1,i=>by
  simp only[rH];split;rfl;simp[T9 n]
def FD{X:ar}(h:mB X=J){k:Nat}(R:k<Y X):0<=aM 0 (X.getD k [])/\aM 0 (X.getD k [])<=k:=by
 have:=fZ.1 h k (uO.2 R);simpa only[aw,ce] using this
def abg{X:ar}(h:mB X=J){i:Int}(R:0<=i)(Q:i<Y X):0<=aM 0 (X.getD i.toNat [])/\aM 0 (X.getD i.toNat [])<=i/\aM 0 (X.getD i.toNat [])<Y X:=by
 have:=FD h (k:=i.toNat) aa;omega
def ak8{R:Type}{l:List R}(h:X<Y l)(d:R):l.getD X d∈l:=by
 rw[cw,cP h];exact pM _
def ak9{R:ar}(h:mB R=J):∀(n:Nat)(i:Int),0<=i->i<Y R->∀x∈rH n i R,x∈R
 |0,_,_,_,x,X=>X
 |n+1,i,N,M,x,X=>by
  simp only[rH] at X;split at X;exact X;obtain⟨L,-,H⟩:=abg h N M;have Q:=ak9 h n _ L H;rcases E0 X with X|X;exact Q x X;refine Q x ?_;have G:(aM 0 (R.getD i.toNat [])).toNat<(rH n (aM 0 (R.getD i.toNat [])) R).length:=by rw[T9];omega
  rw[X];exact ak8 G _
def Ps{i:Int}{X aE:ar}(h:wv i X=U aE):Y X<=1099511627776/\0<=i/\i<Y X/\mB X=J/\aE=rH (Y X) i X:=by
 unfold wv at h;split at h;rename_i R;simp only[aw,ce] at R;cases h;exact⟨R.1.1.1,R.1.1.2,R.1.2,R.2,rfl⟩;cases h
def Ua{i:Int}{X aE:ar}(h:wv i X=U aE):∀x∈aE,x∈X:=by
 obtain⟨-,R,Q,N,rfl⟩:=Ps h;exact ak9 N _ _ R Q
def abh{i:Int}{X aE:ar}(h:wv i X=U aE):Y aE=Y X:=by
 obtain⟨-,-,-,-,rfl⟩:=Ps h;exact T9 _ _
def axe{o:bu}{N:bA}{Q aE:ar}(h:nO X o N Q=U aE):∀x∈aE,x∈Q:=by
 unfold nO at h;split at h
 all_goals first|(split at h<;>first|(cases h;done)|skip)|skip
 all_goals first|(cases h;done)|skip
 all_goals
  cases h;intro x R;simp only[eW,ak5] at R;rcases R with R|R;exact E2 R
 all_goals
  rcases R with R|R;exact u7 R
  first|exact Bl R|(rcases R with R|R<;>first|exact u7 R|exact Bl R|(rcases R with R|R<;>first|exact u7 R|exact Bl R))
def axf{o:bu}{Q:bA}{R aE:ar}(h:nO X o Q R=U aE):Y aE=Y R:=by
 unfold nO at h;split at h
 all_goals first|(split at h<;>first|(cases h;done)|skip)|skip
 all_goals first|(cases h;done)|skip
 all_goals
  rename_i N;simp only[aw,ce] at N;cases h;simp only[gP,E4,Df,axd,mZ];omega
def BU{o:bu}{Q:bA}{R aE:ar}(h:p7 X o Q R=U aE):Y R<=1099511627776/\nO X o Q R=U aE:=by
 unfold p7 at h;split at h;rename_i N;exact⟨N,h⟩;cases h
def axg{o:bu}{Q:bA}{R aE:ar}(h:p7 X o Q R=U aE):∀x∈aE,x∈R:=axe (BU h).2
def axh{o:bu}{Q:bA}{R aE:ar}(h:p7 X o Q R=U aE):Y aE=Y R:=axf (BU h).2
def abi{X:bu}{R aE:ar}(h:jh X b R=U aE):Y R<=1099511627776:=by
 cases X with
 |dD k o N=>simp[jh] at h
 |_=>
  simp only[jh] at h;split at h;rename_i Q;simp only[aw,ce] at Q;exact Q.1;cases h
def abj{R:bu}{Q aE:ar}(h:lg x R b Q=U aE):∀X∈aE,X∈Q:=by
 cases R with
 |dD k o N=>
  cases b with
  |false=>exact axg h
  |true=>
   cases N with
   |nil=>simp[lg] at h
   |cons i l=>
    cases l with
    |nil=>exact Ua h
    |cons j l=>simp[lg] at h
 |lex M d=>exact ak6 (sp:=.lex M d) h
 |ratio n d=>exact ak6 (sp:=.ratio n d) h
def abk{X:bu}{R aE:ar}(h:lg x X b R=U aE):Y aE=Y R:=by
 cases X with
 |dD k o Q=>
  cases b with
  |false=>exact axh h
  |true=>
   cases Q with
   |nil=>simp[lg] at h
   |cons i l=>
    cases l with
    |nil=>exact abh h
    |cons j l=>simp[lg] at h
 |lex N d=>exact ak7 (sp:=.lex N d) h
 |ratio n d=>exact ak7 (sp:=.ratio n d) h
section
variable{q:aq}{w:World}{D:cq}{P:Program}{p:bF}{V:aq}{O:ai}{s:S}{a:Act}{W:World}
def axi{G aE:ar}(h:gc W p.ty v G)(F:∀x∈aE,x∈G):gc W p.ty v aE:=by
 have H:∀{i:Nat}{X:aF},aE[i]?=U X->∃R,G[R]?=U X:=λh=>tO (F _ (jK h))
 refine⟨λi X Q=> ?_,λi j X c k Q M L=> ?_,λi j X c Q M L=> ?_,λi j X c z k Q M L=> ?_⟩;obtain⟨R,N⟩:=H Q;exact h.len R X N;obtain⟨R,N⟩:=H Q;exact h.int R j X c k N M L;obtain⟨R,N⟩:=H Q;exact h.bool R j X c N M L;obtain⟨R,N⟩:=H Q;exact h.ae R j X c z k N M L
def axj{R aE:ar}(Q:∀x∈aE,x∈R)(h:ol p.ty v aE X):ol p.ty v R X:=by
 obtain⟨i,j,N,c,z,k,M,L,H,G⟩:=h;obtain⟨F,B⟩:=tO (Q _ (jK M));exact⟨F,j,N,c,z,k,B,L,H,G⟩
def ala{a:Act}{W:World}(X:az q w D p.ty t x R a W)(N:fk p.gl x){g:FuncId}(h:eH p R l=.call (.fn g) e)
  (H:∀e W,(callFunc g e).run P W=.ok (.enter g e) W):(execOp a.eval l).run P W=.ok (.enter g (C.aG x t e).toArray) W:=by
 unfold eH at h;split at h;split at h<;>cases h;rename_i c G;split at h;rename_i f F;split at h;rename_i v u M;split at h;cases h;rename_i B;cases h;have L:=dA X N f (by rw[M];rfl);rw[M,C.ab] at L;have A:c.args.map a.eval=(C.aG x t (c.args.toList.map (R.ev p.gl))).toArray:=by
  apply nF;simp only[xT,pY,oJ];exact jA λQ z=>dA X N Q (by
   cases y:(R.ev p.gl Q).eX;rfl;exact aZ (kW.2 ⟨Q,z,y⟩) B)
 simp only[execOp,G,resolve,F,dC,L,Deferred.ofValue,fz,du,invoke,A,TC];simp only[avv,H,eK];split at h<;>cases h;cases h;cases h;split at h;split at h<;>cases h;cases h;cases h;cases h
def alb{g:HN}(h:eH p R l=.call g e)(c:Call):l.op≠ .defer c:=by
 intro X;simp[eH,X] at h
def alc{O:ai}{V:aq}:∀{l:ap}{as:List K}{g:FuncId},OF l=U (as,g)->C.aG O V l=(as.map (K.ab O)).map (Value.int I)++[.func (.func g) #[] #[]]
 |[],as,g,h=>by simp[OF] at h
 |v::r,as,g,h=>by
  unfold OF at h;split at h;rename_i M X;cases h;injection X with R Q;subst R;subst Q;simp[C.aG,C.ab];rename_i e L X;injection X with R Q;subst R;subst Q;split at h;rename_i x N;cases h;have:=alc (O:=O) (V:=V) (as:=x.1) (g:=x.2) N;simp[C.aG,C.ab,this];cases h;cases h
def ald(R:az q w D p.ty V O s a W)(o:s.bd=J){A:oL}{n Q:Nat}{aE:ar}{M:World}(N:s.rs[X]?=U (.own v))(H:O.rv X=.mk (.slice A n Q) (O.rv X).ac)(G:bJ W p.ty (.sl v) (.mk (.slice A n Q) (O.rv X).ac))
  (F:∀x∈aE,x∈(O.rv X).ac)(m:Y aE=(O.rv X).ac.length)(l:W.grownBy M (lJ A Q))(j:FB W M v (bE p.ty (.sl v)).length (lJ A Q) aE A Q)(d:cQ)(L:C):
  az q w D p.ty V (O.add (.r (.mk (O.rv X).val aE))) ((({s with rs:=kG [] 0 (jE [X] 0 s.rs)++[.own v]}:S).iK X (Y s.rs)).put d L) (a.put d (L.ab (O.add (.r (.mk (O.rv X).val aE))) V)) M/\
   bH s O V ((({s with rs:=kG [] 0 (jE [X] 0 s.rs)++[.own v]}:S).iK X (Y s.rs)).put d L) (O.add (.r (.mk (O.rv X).val aE))) V:=by
 obtain⟨h,an⟩:=ue G;have g:DO p.ty V O s v aE []:=λb f=>by
  have B:=axj F f;have z:=K4 (O:=O) (e0:=.own v) rfl (by simpa[RE.rv] using B);exact⟨⟨X,_,N,z⟩,(R.mem.ah X _ _ N (u5 R N)).2 b z,λk' t rv c g2 g3=>(Pf R c g2 g3 N rfl (by simpa[RE.rv] using B)).elim⟩
 obtain⟨y,-⟩:=R.bind o (old:=lJ A Q) (kill:=[X]) (dv:=[]) (A:=A) (cap:=Q) (W':=M) (.inr ⟨X,v,O.rv X,rfl,N,u5 R N,by rw[H,K6]⟩) av l (axi (gc.yr G) F) g j;rw[m,h] at y;have u:(O.rv X).val=.slice A n Q:=by rw[H];rfl
 rw[u];have af:X<Y O.r:=by rw[R.er];exact(cu.1 N).1
 have ag:(O.add (.r (.mk (.slice A n Q) aE))).rv X=O.rv X:=by simp[ai.rv,ai.add,dN af]
 have al:(O.add (.r (.mk (.slice A n Q) aE))).rv (Y s.rs)=.mk (.slice A n Q) aE:=by simp[ai.rv,ai.add,<-R.er]
 have R2:=(y.iK (k:=X) (n:=Y s.rs) (by rw[ag,al,u];rfl)).put d L;refine⟨R2, ?_⟩;refine bH.put (s:=s) (s':=({s with rs:=kG [] 0 (jE [X] 0 s.rs)++[.own v]}:S).iK X (Y s.rs)) ⟨sL _ _ _ _,λi hi=> ?_, ?_,bY _⟩ _ _;simp only[S.iK];rw[Ij];exact hi;simp[S.iK,Pn]
def axk(hs:Ld P p)(R:az q w D p.ty V O s a W)(hg:fk p.gl O)(t:s.bd=J){f:FuncId}(an:eH p s l=.call (.fn f) e){u:BB}(h:aae p f e s l.dst=U u){aE:ar}(Q:lg O u.sp u.st (u.r.rv O).ac=U aE):
  ∃e v,(execOp a.eval l).run P W=.ok (.enter u.f e) W/\Calls P u.f e W λL N=>L=.returned v/\az q w D p.ty V (O.add (.r (.mk (u.r.rv O).val aE))) u.s (a.put l.dst v) N/\bH s O V u.s (O.add (.r (.mk (u.r.rv O).val aE))) V:=by
 unfold aae at h;split at h;rename_i r a4;split at h;rename_i H g aA;split at h;rename_i X m j G;have i:p.zM f g=U (X,m,j)/\f≠g:=by
  split at G;cases G;rename_i aC;exact⟨G,λh=>aC (by simp[h])⟩
 have F:=hs f g X m j i.1;unfold mY at F;rw[aT i.2] at F;obtain⟨a0,d⟩:=F;have c:(execOp a.eval l).run P W=.ok (.enter f (Pr (r.ab O) (H.map (K.ab O)) g)) W:=by
  rw[ala R hg an a0];simp only[C.aG,C.ab,alc aA,Pr]
 split at h;rename_i af ag;split at h;rename_i k;split at h;rename_i hk;cases h;obtain⟨A,n,al,h1,h2,h3⟩:=Pj R hk;have M:(RE.v k).rv O=O.rv k:=rfl;simp only[M] at Q⊢;have a9:=Q;have a1:=abj Q;have B:=abk Q;refine⟨_,.tuple #[],c, ?_⟩;have z:(RE.v k).ab O=.slice A n al:=by rw[RE.ab,M,h1];rfl
 rw[z];refine(d W A n al _ aE O H af ag h2 h3 Q).mono ?_;rintro L N ⟨rfl,y,x⟩;exact⟨rfl,ald R t hk h1 h2 a1 B y x l.dst (.bO [])⟩;cases h;cases h;have M:(RE.k (.slice Z 0 0)).rv O=.mk (.slice Z 0 0) []:=rfl;simp only[M,RV.nN,RV.nM] at Q⊢;have B:=abk Q;have h0:aE=[]:=tM (by simpa using B);subst h0;refine⟨_,.tuple #[],c, ?_⟩;have z:(RE.k (.slice Z 0 0)).ab O=.slice Z 0 0:=rfl;rw[z];refine(d W Z 0 0 [] [] O H af ag (DN _ _) ⟨λ_=>rfl,.inl rfl⟩ Q).mono ?_;rintro L N ⟨rfl,y,x⟩;obtain⟨R1,-⟩:=R.bind t (old:=Z) (kill:=[]) (dv:=[]) (A:=Z) (cap:=0) (rows:=[]) (W':=N) (.inl ⟨rfl,rfl⟩) av y (gc.yr (DN (e:=X) Z 0)) (λb a3=>(Pe a3).elim) x;refine⟨rfl,R1.put l.dst (.bO []), ?_⟩;exact bH.put (s:=s) (s':={s with rs:=kG [] 0 (jE [] 0 s.rs)++[.own X]}) ⟨sL _ _ _ _,λ_ h=>h,bY _,bY _⟩ _ _;cases h;cases h;cases h;cases h;cases h
def ale(hs:Ld P p)(R:az q w D p.ty V O s a W)(hg:fk p.gl O)(hb:s.bd=J){f:FuncId}(aC:eH p s l=.call (.fn f) e){u:BB}(h:HS p f e s l.dst=U u){aE:ar}(L:lg O u.sp u.st (u.r.rv O).ac=U aE):
  ∃e v,(execOp a.eval l).run P W=.ok (.enter u.f e) W/\Calls P u.f e W λm j=>m=.returned v/\az q w D p.ty V (O.add (.r (.mk (u.r.rv O).val aE))) u.s (a.put l.dst v) j/\bH s O V u.s (O.add (.r (.mk (u.r.rv O).val aE))) V:=by
 unfold HS at h;split at h;rename_i i N M;split at h;rename_i X o' qF a0;have B:=hs f f X _ J a0;unfold mY at B;rw[aL rfl] at B;obtain⟨a1,a3⟩:=B;split at h;rename_i H k G f' bx b0 g z;split at h;rename_i d;simp only[aw,dK,iw,ce] at d;obtain⟨⟨⟨⟨⟨⟨hi,e1⟩,e2⟩,e3⟩,a4⟩,a9⟩,F⟩:=d;rw[e1,e2,e3] at z;cases h;obtain⟨A,n,Q,y,x,h3⟩:=Pj R F;have ba:(RE.v k).rv O=O.rv k:=rfl;simp only[ba] at L⊢;have bb:=abj L;have bc:=abk L;have af:wv (i.ab O) (O.rv k).ac=U aE:=L;obtain⟨-,b1,b2,-,-⟩:=Ps af;obtain⟨hn,b3⟩:=ue x;have t:Q≠0:=aa;rcases h3.mem with h0|⟨b,di,hA,b4,-⟩;exact(t h0).elim;subst hA;have bf:(O.rv k).lH=U b:=by
  rw[y,K6];cases Q with
  |zero=>exact(t rfl).elim
  |succ c=>rfl
 have hT:=R.gD k X _ b F (u5 R F) bf;have ag:=R.mem.box N H _ g;have al:=R.mem.box M G _ z;have bg:mC H (C.dR O V [.ah (.v k)])=.cells #[.slice (U ⟨b,0,Z⟩) n Q] H (0,0):=by
  rw[uc a4];simp only[C.aG,C.ab,RE.ab,RE.rv];rw[y];rfl
 have bk:mC G (C.dR O V [.fn f [.loc N 0,.loc M 0]])=.cells #[.func (.func f) #[] #[.pointer (U ⟨ad V N,0,Z⟩),.pointer (U ⟨ad V M,0,Z⟩)]] G (0,0):=by
  rw[uc a9];simp[C.ab,C.aG]
 rw[bg] at ag;rw[bk] at al;have bl:(execOp a.eval l).run P W=.ok (.enter f #[.int I (i.ab O),.pointer (U ⟨ad V N,0,Z⟩),.pointer (U ⟨ad V M,0,Z⟩)]) W:=by
  rw[ala R hg aC a1];simp only[C.aG,C.ab]
 refine⟨_,.int I (aM 0 (aE.getD (i.ab O).toNat [])),bl, ?_⟩;have br:lJ (U ⟨b,0,Z⟩) Q=U b:=by
  cases Q with
  |zero=>exact(t rfl).elim
  |succ c=>rfl
 refine(a3 W b n Q _ aE (i.ab O) _ _ H G ag al (hT.box N (by simp only[aP,g];rfl)) (hT.box M (by simp only[aP,z];rfl)) x h3 af).mono ?_;rintro m j ⟨rfl,an,aA⟩;rw[<-br] at an aA;have:=ald R hb F y x bb bc an aA l.dst (.int I (.cell (.v (Y s.rs)) i 0));have bs:(O.add (.r (.mk (O.rv k).val aE))).rv (Y s.rs)=.mk (O.rv k).val aE:=by simp[ai.rv,ai.add,<-R.er]
 have bt:i.ab (O.add (.r (.mk (O.rv k).val aE)))=i.ab O:=K.eC (sL s.ao O _ V).agree i (by rw[R.ei,R.eb,R.er];exact hi);have hd:C.ab (O.add (.r (.mk (O.rv k).val aE))) V (.int I (.cell (.v (Y s.rs)) i 0))=.int I (aM 0 (aE.getD (i.ab O).toNat [])):=by
  simp only[C.ab,K.ab,RE.rv,bs,bt];rfl
 rw[hd] at this;exact⟨rfl,this⟩;cases h;cases h;cases h;cases h
def axl(H:Ld P p)(R:az q w D p.ty V O s a W)(G:fk p.gl O){m:OM}{u:BB}(h:Ds p m s=U u){aE:ar}(F:lg O u.sp u.st (u.r.rv O).ac=U aE):
  ∃X v,(execOp a.eval m.o).run P W=.ok (.enter u.f X) W/\(∀c,m.o.op≠ .defer c)/\Calls P u.f X W λA z=>A=.returned v/\az q w D p.ty V (O.add (.r (.mk (u.r.rv O).val aE))) u.s (a.put m.o.dst v) z/\bH s O V u.s (O.add (.r (.mk (u.r.rv O).val aE))) V:=by
 unfold Ds at h;split at h;cases h;rename_i Q;simp only[jL,iw,not_or,Hn] at Q;split at h;rename_i f X N;have B:=λc=>alb N c
 split at h;rename_i t y;cases h;obtain⟨x,v,M,L⟩:=axk H R G Q.2 N y F;exact⟨x,v,M,B,L⟩;obtain⟨x,v,M,L⟩:=ale H R G Q.2 N h F;exact⟨x,v,M,B,L⟩;cases h
def axm(N:Ld P p)(R:az q w D p.ty V O s a W)(M:fk p.gl O){u:BB}(h:HT p l s=U u){aE:ar}(L:lg O u.sp u.st (u.r.rv O).ac=U aE):
  ∃X v,(execOp a.eval l).run P W=.ok (.enter u.f X) W/\(∀c,l.op≠ .defer c)/\Calls P u.f X W λH G=>H=.returned v/\az q w D p.ty V (O.add (.r (.mk (u.r.rv O).val aE))) u.s (a.put l.dst v) G/\bH s O V u.s (O.add (.r (.mk (u.r.rv O).val aE))) V:=by
 unfold HT at h;split at h;cases h;rename_i F;split at h;rename_i f X Q;obtain⟨x,v,B,A⟩:=ale N R M (by simpa using F) Q h L;exact⟨x,v,B,λc=>alb Q c,A⟩;cases h
end
structure rL(F:Fence):Prop where
 fn:∀f,F.fn f
 yt:F.depth=Z
 eq:∀P,Machine.fenced P F=Machine.fenced P Fence.wide
def axn:rL Fence.wide:=⟨λ_=>trivial,rfl,λ_=>rfl⟩
def alf(l:Nat):rL (Fence.wide.inRound l):=⟨λ_=>trivial,rfl,λ_=>rfl⟩
def rL.calls{F:Fence}(W:rL F){P:Program}{f:FuncId}{V:mR}{w:World}{R:Ending->World->Prop}(h:Calls P f V w R):CallsIn F X P f V w R:=by
 have Q:=(callsIn_wide (n:=X)).2 h;refine⟨W.fn f,λO _=> ?_⟩;obtain⟨e,N,M,r,c,x⟩:=Q.2 O (room_wide _);exact⟨e,N,M,r,by rw[W.eq];exact c,x⟩
def abl{p:Sp}{L:dG}{V:Fx}{b:BE}{t f:Fx->T}(X:u6 x V)(h:(Dr R V b t f).aS p x L):
  ∃Q,u6 x Q/\(if b.ab x then(t Q).aS p x L else(f Q).aS p x L):=by
 unfold Dr at h;split at h;rename_i P;exact⟨V,X,by rw[T5 X P];exact h⟩;rename_i P;exact⟨V,X,by rw[T5 X P];exact h⟩;split at h;simp only[T.aS] at h;cases W:b.ab x;exact⟨_,akJ X W,by simpa[W] using h.2 W⟩;exact⟨_,akJ X W,by simpa[W] using h.1 W⟩;exact h.elim
def dq(n:Nat)(L X:dG):Prop:=∀l,l<n->oP l X=oP l L
def dq.refl(n:Nat)(L:dG):dq n L L:=λ_ _=>rfl
def dq.trans{n m:Nat}{L X W:dG}(h:dq n L X)(k:dq m X W)(R:n<=m):dq n L W:=λl V=>(k l aa).trans (h l V)
def axo(p:Sp)(O:ai):HN->mR->World->(Ending->World->Prop)->Prop
 |.fn g,X,W,V=>(∀X W,(callFunc g X).run p.P W=.ok (.enter g X) W)/\Calls p.P g X W V
 |.yl n,X,W,V=>∀(F:Fence)(_:rL F)(m:Nat),YieldAt F m p.P (O.y.getD n 0) X W V
structure j8 where
 s:S
 O:ai
 V:aq
 L:dG
structure j8.mF(B:j8)(s:S)(O:ai)(V:aq)(L:dG):Prop where
 later:bH B.s B.O B.V s O V
 Il:dq B.s.ax B.L L
def j8.mF.go{B:j8}{X:S}{W:ai}{Q:aq}{L P:dG}(h:B.mF R x t L)(N:bH R x t X W Q)(M:dq R.ax L P):B.mF X W Q P:=⟨h.later.trans N,h.Il.trans M h.later.ax⟩
def Ub(p:Sp)(z:bF)(D:cq)(B:j8)(A:qH):Prop:=
 ∀(L:dG)(g:HN)(G:ap)(s:S)(k x:C->S->T)(O:ai)(V:aq)(a:Act)(W:World)(H:Ending->World->Prop),B.mF s O V L->
  (A g G s k x).aS p O L->az p.S0 p.w0 D z.ty V O s a W->fk z.gl O->
  (∀v P X N Q M,bH s O V P X N->dq s.ax L M->az p.S0 p.w0 D z.ty N X P a Q->(k v P).aS p X M->H (.returned (v.ab X N)) Q)->
  (∀v P X N Q M,bH s O V P X N->dq s.ax L M->az p.S0 p.w0 D z.ty N X P a Q->(x v P).aS p X M->H (.panicked [{v:=v.ab X N,recovered:=E}]) Q)->
  (∀w Q u y,eN p.w0 D u y a.defers Q->p.R (.panicked w) Q->H (.panicked w) Q)->
  axo p O g (C.aG O V G).toArray W H
section
variable{p:Sp}{z:bF}{A:qH}{F:Fence}{D:cq}{ops:dQ}
def alg{a:Act}{W:World}(Q:az p.S0 p.w0 D z.ty t x R a W){d:Nat}(N:(ops[X]?).bind (·.dst)=U d):
  (∀b,R.tmps[d]?=U (.bool b)->yielded ops a.tmps X=U (b.ab x))/\(R.tmps[d]?=U (.bO [])->yielded ops a.tmps X=Z):=by
 constructor;intro b P;rcases Q.tmps d _ P with h|h;cases h;simp[yielded,N,h,C.ab];intro P;rcases Q.tmps d _ P with h|h;cases h;simp[yielded,N,h,C.ab]
def Uc{a:Act}{W:World}(X:az p.S0 p.w0 D z.ty t x R a W)(N:fk z.gl x){g:FuncId}(h:eH z R l=.call (.fn g) e)
  (H:∀e W,(callFunc g e).run p.P W=.ok (.enter g e) W):(execOp a.eval l).run p.P W=.ok (.enter g (C.aG x t e).toArray) W:=by
 unfold eH at h;split at h;split at h<;>cases h;rename_i c G;split at h;rename_i f B;split at h;rename_i u r M;split at h;cases h;rename_i A;cases h;have L:=dA X N f (by rw[M];rfl);rw[M,C.ab] at L;have y:c.args.map a.eval=(C.aG x t (c.args.toList.map (R.ev z.gl))).toArray:=by
  apply nF;simp only[xT,pY,oJ];exact jA λQ w=>dA X N Q (by
   cases v:(R.ev z.gl Q).eX;rfl;exact aZ (kW.2 ⟨Q,w,v⟩) A)
 simp only[execOp,G,resolve,B,dC,L,Deferred.ofValue,fz,du,invoke,y,TC];simp only[avv,H,eK];split at h<;>cases h;cases h;cases h;split at h;split at h<;>cases h;cases h;cases h;cases h
def abm{a:Act}{W:World}(Q:az p.S0 p.w0 D z.ty t x R a W)(M:fk z.gl x)(h:eH z R l=.call (.yl X) e):
  (execOp a.eval l).run p.P W=(Instr.yield (x.y.getD X 0) (C.aG x t e).toArray).run p.P W:=by
 unfold eH at h;split at h;split at h<;>cases h;rename_i c G;split at h;rename_i f B;split at h;split at h<;>cases h;rename_i r L;split at h;cases h;rename_i A;cases h;have H:=dA Q M f (by rw[L];rfl);rw[L,C.ab] at H;have w:c.args.map a.eval=(C.aG x t (c.args.toList.map (R.ev z.gl))).toArray:=by
  apply nF;simp only[xT,pY,oJ];exact jA λN v=>dA Q M N (by
   cases u:(R.ev z.gl N).eX;rfl;exact aZ (kW.2 ⟨N,v,u⟩) A)
 simp[execOp,G,resolve,B,H,Deferred.ofValue,invoke,w];cases h;cases h;split at h;split at h<;>cases h;cases h;cases h;cases h
def abn{s:S}{O:ai}{V:aq}{L:dG}{e:K}{A:FuncId->ap->T}:∀{Q:bA}{P:ap},(Fj e A Q P).aS p O L->∃g N,ld (e.ab O) Q (C.aG O V P)=.func (.func g) #[] (C.aG O V N).toArray/\(A g N).aS p O L
 |[],P,h=>by simp only[Fj] at h;exact h.elim
 |k::Q,[],h=>by simp only[Fj] at h;exact h.elim
 |k::Q,v::P,h=>by
  unfold Fj at h;split at h;rename_i z y g N x W R;simp only[xU] at W R;obtain⟨rfl,rfl⟩:=W;obtain⟨rfl,rfl⟩:=R;simp only[T.aS,BE.ab,fA,K.ab] at h;by_cases X:e.ab O=k;exact⟨g,N,by simp[C.aG,C.ab,ld,X,jD],h.1 (by simp[X])⟩;obtain⟨M,H,G,B⟩:=abn (s:=s) (V:=V) (h.2 (by simp[X]));exact⟨M,H,by simp only[C.aG,ld,X,gw];exact G,B⟩;rename_i z y x W R;simp only[xU] at W R;obtain⟨rfl,rfl⟩:=W;obtain⟨rfl,rfl⟩:=R;simp only[T.aS,BE.ab,fA,K.ab] at h;by_cases X:e.ab O=k;exact(h.1 (by simp[X])).elim;obtain⟨M,H,G,B⟩:=abn (s:=s) (V:=V) (h.2 (by simp[X]));exact⟨M,H,by simp only[C.aG,ld,X,gw];exact G,B⟩;exact h.elim
def axp{s:S}{a:Act}{W:World}{O:ai}{V:aq}(R:az p.S0 p.w0 D z.ty V O s a W)(Q:fk z.gl O){m:OM}{e:K}{N:bA}{M X L:ap}{g:FuncId}(h:BA z m s=U (e,N,M,X))
  (w:ld (e.ab O) N (C.aG O V M)=.func (.func g) #[] (C.aG O V L).toArray)(v:∀X W,(callFunc g X).run p.P W=.ok (.enter g X) W):
  (execOp a.eval m.o).run p.P W=.ok (.enter g (C.aG O V (X++L)).toArray) W/\∀c,m.o.op≠ .defer c:=by
 unfold BA at h;split at h;cases h;split at h;rename_i c H;split at h;rename_i f u;split at h;rename_i n l k G;split at h;cases h;rename_i B;simp only[jL,not_or] at B;cases h;have A:=dA R Q f (by rw[G];rfl);rw[G,C.ab,w] at A;have t:c.args.map a.eval=(C.aG O V (c.args.toList.map (s.ev z.gl))).toArray:=by
  apply nF;simp only[xT,pY,oJ];exact jA λx r=>dA R Q x (by
   cases q:(s.ev z.gl x).eX;rfl;exact aZ (kW.2 ⟨x,r,q⟩) B.1)
 refine⟨?_,λj y=>by rw[H] at y;cases y⟩;simp only[execOp,H,resolve,u,dC,A,Deferred.ofValue,fz,du,invoke,t,TC];simp only[avv,v,eK];cases h;cases h;cases h
def alh{a:Act}{W:World}(X:az p.S0 p.w0 D z.ty t x R a W)(G:fk z.gl x)(h:eH z R l=.bI r):
  (execOp a.eval l).run p.P W=.halt (.panic (r.ab x t)) W:=by
 unfold eH at h;split at h;rename_i Q H;split at h;rename_i N y L;cases h;have M:=dA X G Q (by rw[L];rfl);rw[L] at M;simp[execOp,H,M,C.ab,Instr.panic];cases h;rename_i c H;split at h;split at h;split at h<;>cases h;split at h<;>cases h;cases h;cases h;rename_i A;split at h;rename_i Q L;split at h;rename_i N y B;cases h;have M:=dA X G Q (by rw[B];rfl);rw[B] at M;have:c.args.map a.eval= #[a.eval Q]:=by apply nF;simp[L]
 simp[execOp,H,resolve,A,invoke,builtin,this,M,C.ab,Instr.panic];cases h;cases h;cases h;cases h
def Ag{a:Act}{W R:World}{v:Value}{V:Act->World->Prop}{Q:Exit->Act->World->Prop}(N:rL F)(h:sM p.P l a W v R)(M:∀c,l.op≠ .defer c)(O:V (a.put l.dst v) R):l.wpIn F X p.P a W V Q:=by
 refine⟨λf _=>N.fn f, ?_⟩;rw[zI _ _ _ M];rcases h with h|⟨h,rfl⟩;rw[h];exact O;rw[h];exact O
def abo{W:Bool}{X:BI}(h:fj z l b W R=U X):∀c,l.op≠ .defer c:=by
 intro c A;simp[fj,A] at h
def axq{m:OM}{s:S}{X:S->Fx->T}{W:Fx}{t:T}(h:Bz z m s X W=U t):∀c,m.o.op≠ .defer c:=by
 intro c A;simp[Bz,A] at h
def Pt{m:OM}{s X:S}{O:ai}(h:(gR z m s).gives O X):∀c,m.o.op≠ .defer c:=by
 intro c A;unfold gR at h;split at h;exact h.elim;rw[A] at h;simp[cH,tV,OR.gives] at h
def BV(bb:p.ty=z.ty)(bc:Ld p.P z)(hF:rL F)(a0:jq p.P z.ty){B:j8}(hH:Ub p z D B A){n:Nat}{k:S->T}{kp:C->S->T}{Q:Exit->Act->World->Prop}(HP:∀ch a' N pd y,eN p.w0 D pd y a'.defers N->p.R (.panicked ch) N->Q (.panic ch) a' N):
  ∀(l:cZ)(j:Nat)(s:S)(fx:Fx)(L:dG)(O:ai)(V:aq)(a:Act)(W:World),
   (∀i m,l[i]?=U m->ops[j+i]?=U m.o)->B.mF s O V L->
   (oM z A ops k kp l s fx).aS p O L->u6 O fx->az p.S0 p.w0 D z.ty V O s a W->fk z.gl O->
   (∀H O' V' a' N L',bH s O V H O' V'->dq s.ax L L'->az p.S0 p.w0 D z.ty V' O' H a' N->(k H).aS p O' L'->Q .normal a' N)->
   (∀v H O' V' a' N L',bH s O V H O' V'->dq s.ax L L'->az p.S0 p.w0 D z.ty V' O' H a' N->(kp v H).aS p O' L'->Q (.panic [{v:=v.ab O' V',recovered:=E}]) a' N)->
   wpOpsIn F n p.P ops Q (xV j (Y l)) a W
 |[],j,s,fx,L,O,V,a,W,_,_,h,_,R,_,hk,_=>hk s O V a W L (bH.refl _ _ _) (dq.refl _ _) R h
 |m::an,j,s,fx,L,O,V,a,W,b7,hB,h,b0,R,hg,hk,a1=>by
  have ho:ops[j]?=U m.o:=by simpa using b7 0 m rfl
  have bf:∀i m',an[i]?=U m'->ops[j+1+i]?=U m'.o:=λi m' hi=>by
   have:=b7 (i+1) m' (by simpa using hi)
   rwa [show j+(i+1)=j+1+i from aa] at this
  simp only[kV,ZK,wpOpsIn,ho];have b3:∀aA,u6 O aA->
    (BC z A m s (oM z A ops k kp an) kp aA).aS p O L->
    m.o.wpIn F n p.P a W (wpOpsIn F n p.P ops Q (xV (j+1) (Y an))) Q:=by
   intro aA a3 h;unfold BC at h;have b8:∀g aC,(A (.fn g) aC s (λv H=>oM z A ops k kp an (H.put m.o.dst v) (pU s aA)) kp).aS p O L->((∀aC W,(callFunc g aC).run p.P W=.ok (.enter g aC) W)->(execOp a.eval m.o).run p.P W=.ok (.enter g (C.aG O V aC).toArray) W)->(∀c,m.o.op≠ .defer c)->
     m.o.wpIn F n p.P a W (wpOpsIn F n p.P ops Q (xV (j+1) (Y an))) Q:=by
    intro g aC h b4 bg;have hC:=hH L (.fn g) aC s _ _ O V a W (λe N=>match e with
      |.returned v=>wpOpsIn F n p.P ops Q (xV (j+1) (Y an)) (a.put m.o.dst v) N
      |.panicked ch=>Q (.panic ch) a N
      |.outgrown=>LetsOut Q) hB h R hg
     (λv H O' V' N L' X hL R' hs=>BV bb bc hF a0 hH HP an (j+1) (H.put m.o.dst v) (pU s aA) L' O' V' _ N bf (hB.go (X.put _ _) hL) hs
      (Ik R X.ext.agree a3) (R'.put m.o.dst v) (hg.ext X.ext)
      (λM G x a2 w r af ag R2 al=>hk M G x a2 w r ((X.put _ _).trans af) (hL.trans ag (X.put _ _).ax) R2 al)
      (λv2 M G x a2 w r af ag R2 al=>a1 v2 M G x a2 w r ((X.put _ _).trans af) (hL.trans ag (X.put _ _).ax) R2 al))
     (λv H O' V' N L' X hL R' hs=>a1 v H O' V' a N L' X hL R' hs)
     (λch N pd y hA hR=>HP ch a N pd y hA hR)
    obtain⟨bs,b5⟩:=hC;refine⟨λf _=>hF.fn f, ?_⟩;rw[zI _ _ _ bg,b4 bs];rw[SR];refine⟨λhd=>by rw[hF.yt] at hd;simp at hd,CallsIn.mono (hF.calls b5) (λe N he=> ?_)⟩;cases e<;>exact he
   split at h;rename_i e ks vs aC ca;obtain⟨g,cn,q1,q2⟩:=abn (s:=s) (V:=V) h;refine b8 g (aC++cn) q2 (λbs=>(axp R hg ca q1 bs).1) ?_;intro c bk;simp[BA,bk] at ca;split at h;rename_i u hu;obtain⟨aE,hr,h⟩:=h;obtain⟨aC,tv,b4,bg,b5⟩:=axl bc R hg hu hr;refine⟨λf _=>hF.fn f, ?_⟩;rw[zI _ _ _ bg,b4];rw[SR];refine⟨λhd=>by rw[hF.yt] at hd;simp at hd,CallsIn.mono (hF.calls b5) (λe N he=> ?_)⟩;obtain⟨rfl,R',X⟩:=he;exact BV bb bc hF a0 hH HP an (j+1) u.s (pU s aA) L _ V _ N bf (hB.go X (dq.refl _ _)) h (Ik R X.ext.agree a3) R' (hg.ext X.ext)
    (λM G x a2 w r af ag R2 al=>hk M G x a2 w r (X.trans af) ((dq.refl _ _).trans ag X.ax) R2 al)
    (λv2 M G x a2 w r af ag R2 al=>a1 v2 M G x a2 w r (X.trans af) ((dq.refl _ _).trans ag X.ax) R2 al)
   split at h;rename_i g aC bt;exact b8 g aC h (λbs=>Uc R hg bt bs) (λc bk=>by simp[eH,bk] at bt);rename_i yn aC bt;split at h;have hC:=hH L (.yl yn) aC s _ _ O V a W (λe N=>match e with
    |.returned v=>wpOpsIn F n p.P ops Q (xV (j+1) (Y an)) (a.put m.o.dst v) N
    |.panicked ch=>Q (.panic ch) a N
    |.outgrown=>LetsOut Q) hB h R hg
    (λv H O' V' N L' X hL R' hs=>BV bb bc hF a0 hH HP an (j+1) (H.put m.o.dst v) (pU s aA) L' O' V' _ N bf (hB.go (X.put _ _) hL) hs
     (Ik R X.ext.agree a3) (R'.put m.o.dst v) (hg.ext X.ext)
     (λM G x a2 w r af ag R2 al=>hk M G x a2 w r ((X.put _ _).trans af) (hL.trans ag (X.put _ _).ax) R2 al)
     (λv2 M G x a2 w r af ag R2 al=>a1 v2 M G x a2 w r ((X.put _ _).trans af) (hL.trans ag (X.put _ _).ax) R2 al))
    (λv H O' V' N L' X hL R' hs=>a1 v H O' V' a N L' X hL R' hs)
    (λch N pd y hA hR=>HP ch a N pd y hA hR)
   obtain⟨fn,cv,assign,body,hy,co⟩:=hC F hF (n-1);refine⟨λf _=>hF.fn f, ?_⟩;have bg:∀c,m.o.op≠ .defer c:=λc bk=>by simp[eH,bk] at bt
   rw[zI _ _ _ bg,abm R hg bt,hy];rw[avA];refine⟨λhd=>by rw[hF.yt] at hd;simp at hd,RoundIn.mono co (λe N he=> ?_)⟩;cases e<;>exact he;exact h.elim;rename_i v cc;refine⟨λf _=>hF.fn f, ?_⟩;have bg:∀c,m.o.op≠ .defer c:=λc bk=>by simp[eH,bk] at cc
   rw[zI _ _ _ bg,alh R hg cc];exact a1 v s O V a W L (bH.refl _ _ _) (dq.refl _ _) R h;exact h.elim;have b1:∀H b2,u6 O b2->(gR z m s).gives O H->(oM z A ops k kp an H b2).aS p O L->m.o.wpIn F n p.P a W (wpOpsIn F n p.P ops Q (xV (j+1) (Y an))) Q:=by
    intro H b2 cp cl hs;obtain⟨v,N,V',bx,R',X⟩:=Ph R a0 hg m cl;exact Ag hF bx (Pt cl) (BV bb bc hF a0 hH HP an (j+1) H b2 L O V' _ N bf (hB.go X (dq.refl _ _)) hs cp R' hg
     (λM G x a2 w r af ag R2 al=>hk M G x a2 w r (X.trans af) ((dq.refl _ _).trans ag X.ax) R2 al)
     (λv2 M G x a2 w r af ag R2 al=>a1 v2 M G x a2 w r (X.trans af) ((dq.refl _ _).trans ag X.ax) R2 al))
   split at h;rename_i t ht;obtain⟨v,N,O',V',H,a4,bx,R',X,a9,h2⟩:=axc R a0 hg a3 ht h;exact Ag hF bx (axq ht) (BV bb bc hF a0 hH HP an (j+1) H a4 L O' V' _ N bf (hB.go X (dq.refl _ _)) h2 a9 R' (hg.ext X.ext)
    (λM G x a2 w r af ag R2 al=>hk M G x a2 w r (X.trans af) ((dq.refl _ _).trans ag X.ax) R2 al)
    (λv2 M G x a2 w r af ag R2 al=>a1 v2 M G x a2 w r (X.trans af) ((dq.refl _ _).trans ag X.ax) R2 al))
   split at h;rename_i b hb;obtain⟨hn,h⟩:=h;obtain⟨v,N,rv,bx,cs,R',X⟩:=aa6 R a0 hg hb hn;exact Ag hF bx (abo hb) (BV bb bc hF a0 hH HP an (j+1) b.s (pU s aA) L _ V _ N bf (hB.go X (dq.refl _ _)) (h rv (by rw[bb];exact cs)) (Ik R X.ext.agree a3) R' (hg.ext X.ext)
    (λM G x a2 w r af ag R2 al=>hk M G x a2 w r (X.trans af) ((dq.refl _ _).trans ag X.ax) R2 al)
    (λv2 M G x a2 w r af ag R2 al=>a1 v2 M G x a2 w r (X.trans af) ((dq.refl _ _).trans ag X.ax) R2 al))
   split at h;rename_i H bl;exact b1 H aA a3 (by rw[bl];rfl) h;rename_i b H bl;exact b1 H aA a3 (by rw[bl];exact⟨h.1,rfl⟩) h.2;rename_i b s1 M bl;obtain⟨a4,a9,h2⟩:=abl a3 h;cases hb:b.ab O;exact b1 M a4 a9 (by rw[bl];simp[OR.gives,hb]) (by simpa[hb] using h2);exact b1 s1 a4 a9 (by rw[bl];simp[OR.gives,hb]) (by simpa[hb] using h2);exact h.elim
  have b6:∀aA,u6 O aA->(oM z A ops k kp an (s.put m.o.dst (.bO [])) aA).aS p O L->wpOpsIn F n p.P ops Q (xV (j+1) (Y an)) (a.put m.o.dst undef) W:=
   λaA a3 h=>BV bb bc hF a0 hH HP an (j+1) _ aA L O V _ W bf (hB.go ((bH.refl _ _ _).put _ _) (dq.refl _ _)) h a3 (R.put m.o.dst (.bO [])) hg
    (λM G x a2 w r af ag R2 al=>hk M G x a2 w r (((bH.refl _ _ _).put _ _).trans af) ((dq.refl _ _).trans ag ((bH.refl s O V).put _ _).ax) R2 al)
    (λv2 M G x a2 w r af ag R2 al=>a1 v2 M G x a2 w r (((bH.refl _ _ _).put _ _).trans af) ((dq.refl _ _).trans ag ((bH.refl s O V).put _ _).ax) R2 al)
  simp only[oM,Tk] at h;cases bd:m.o.guard with
  |none=>
   rw[bd] at h;have:mw m.o (yielded ops a.tmps)=true:=by simp[mw,bd]
   rw[aL this];exact b3 fx b0 h
  |some q=>
   obtain⟨jj,ct⟩:=q;rw[bd] at h;simp only at h;split at h;rename_i d hd;have hy:=alg R hd;split at h;rename_i b hb;have br:=hy.1 b hb;cases ct;simp only[jB,gw] at h;obtain⟨a4,a9,h2⟩:=abl b0 h;cases ba:b.ab O;have:mw m.o (yielded ops a.tmps)=true:=by simp[mw,bd,br,ba]
   rw[aL this];exact b3 a4 a9 (by simpa[ba] using h2);have:¬mw m.o (yielded ops a.tmps)=true:=by simp[mw,bd,br,ba]
   rw[aT this];exact⟨λf _=>hF.fn f,b6 a4 a9 (by simpa[ba] using h2)⟩;simp only[cS] at h;obtain⟨a4,a9,h2⟩:=abl b0 h;cases ba:b.ab O;have:¬mw m.o (yielded ops a.tmps)=true:=by simp[mw,bd,br,ba]
   rw[aT this];exact⟨λf _=>hF.fn f,b6 a4 a9 (by simpa[ba] using h2)⟩;have:mw m.o (yielded ops a.tmps)=true:=by simp[mw,bd,br,ba]
   rw[aL this];exact b3 a4 a9 (by simpa[ba] using h2);rename_i hb;have br:=hy.2 hb;have:¬mw m.o (yielded ops a.tmps)=true:=by simp[mw,bd,br]
   rw[aT this];exact⟨λf _=>hF.fn f,b6 fx b0 h⟩;exact h.elim;exact h.elim
end
section
variable{d:aq}{m:World}{D:cq}{o:Ty}{V:aq}{O:ai}{s:S}{a:Act}{W:World}
def Ud(X:aq):∀(l:bG)(n i:Nat),(sF X n l)[i]?=(l[i]?).map λx=>if X.contains (n+i) then x else Z
 |[],n,i=>by simp[sF]
 |x::R,n,0=>by simp[sF]
 |x::R,n,i+1=>by
  simp only[sF,tN];rw[Ud X R (n+1) i,show n+1+i=n+(i+1) from aa]
def abp:∀(l:bG)(i:Nat),cz (wq l) i=cz l i
 |[],i=>rfl
 |x::R,i=>by
  have X:=abp R;simp only[wq];split;rename_i Q;cases i with
  |zero=>simp[cY]
  |succ i=>
   have:=X i;rw[Q] at this;simpa[cY] using this
  cases i with
  |zero=>simp[cY]
  |succ i=>simpa[cY] using X i
def ali{l:bG}{b:TypeId×ap}(h:cz (wq (sF t 0 l)) X=U b):cz l X=U b:=by
 rw[abp,kw,Ud] at h;rw[kw];cases R:l[X]? with
 |none=>rw[R] at h;cases h
 |some x=>
  rw[R] at h;simp only[eh,cX] at h;split at h;rw[h];cases h
def Ue{l:bG}(h:aP (wq (sF t 0 l)) X=J):aP l X=true:=by
 obtain⟨b,R⟩:=lF.1 h;simp[aP,ali R]
def j7.aaw{P:bG}{N:bz}(R:j7 d m V O P o N W)(L:aq):j7 d m V O (wq (sF L 0 P)) o N W:=
 ⟨R.base,λi h=>R.own i (Ue h),λi j X Q=>R.inj i j (Ue X) (Ue Q),λi t H h=>R.box i t H (ali h),
  λk e M X Q=>⟨(R.ah k e M X Q).1,λb G i F=>(R.ah k e M X Q).2 b G i (Ue F)⟩⟩
def alj{l:bG}{i:Nat}{b:TypeId×ap}(h:cz (wq (l.take X)) i=U b):cz l i=U b:=by
 rw[abp,kw,nD] at h;rw[kw];split at h;exact h;cases h
def Uf{l:bG}{i:Nat}(h:aP (wq (l.take X)) i=J):aP l i=true:=by
 obtain⟨b,R⟩:=lF.1 h;simp[aP,alj R]
def j7.take{P:bG}{N:bz}(R:j7 d m V O P o N W)(n:Nat):j7 d m V O (wq (P.take n)) o N W:=
 ⟨R.base,λi h=>R.own i (Uf h),λi j X Q=>R.inj i j (Uf X) (Uf Q),λi t L h=>R.box i t L (alj h),
  λk e M X Q=>⟨(R.ah k e M X Q).1,λb H i G=>(R.ah k e M X Q).2 b H i (Uf G)⟩⟩
def yu:∀(X:aU)(s:S),(s.cT X).2.ao=s.ao/\(s.cT X).2.tmps=s.tmps/\(s.cT X).2.ax=s.ax/\(s.cT X).2.lk=s.lk
 |[],s=>⟨rfl,rfl,rfl,rfl⟩
 |k::X,s=>by
  simp only[S.cT];obtain⟨R,Q,P,N⟩:=yu X (s.fresh k).2;cases k<;>exact⟨R,Q,P,N⟩
def abq:∀(X:aU)(s:S),(s.cT X).2.pd=s.pd
 |[],s=>rfl
 |k::X,s=>by
  simp only[S.cT];rw[abq X (s.fresh k).2];cases k<;>rfl
def Le:∀(X:bv)(O:ai),(O.ext X).y=O.y
 |[],O=>rfl
 |x::X,O=>by
  simp only[ai.ext];rw[Le X (O.add x)];cases x<;>rfl
def alk:∀(X:aU)(s:S)(k:Nat)(e:RK),s.rs[k]?=U e->(s.cT X).2.rs[k]?=U e
 |[],s,k,e,h=>h
 |q::X,s,k,e,h=>by
  simp only[S.cT];refine alk X _ k e ?_;cases q;exact h;exact h;simp only[S.fresh];rw[dN (cu.1 h).1];exact h
def Ah:∀(X:aU)(R:bv)(s:S)(O:ai),eY X R->Y O.i=s.ni->Y O.b=s.nb->Y O.r=Y s.rs->
  (O.ext R).i.length=(s.cT X).2.ni/\(O.ext R).b.length=(s.cT X).2.nb/\(O.ext R).r.length=(s.cT X).2.rs.length
 |[],[],s,O,_,Q,P,N=>⟨Q,P,N⟩
 |[],_::_,_,_,h,_,_,_=>by simp[eY] at h
 |_::_,[],_,_,h,_,_,_=>by simp[eY] at h
 |k::X,x::R,s,O,h,Q,P,N=>by
  obtain⟨L,M⟩:=h;simp only[S.cT,ai.ext];cases k<;>cases x<;>simp[sI] at L;exact Ah X R _ _ M (by simp[S.fresh,ai.add,Q]) (by simp[S.fresh,ai.add,P]) (by simp[S.fresh,ai.add,N]);exact Ah X R _ _ M (by simp[S.fresh,ai.add,Q]) (by simp[S.fresh,ai.add,P]) (by simp[S.fresh,ai.add,N]);exact Ah X R _ _ M (by simp[S.fresh,ai.add,Q]) (by simp[S.fresh,ai.add,P]) (by simp[S.fresh,ai.add,N])
def Im{PP:RK->RV->Prop}:∀(R:aU)(Q:bv)(s:S)(O:ai),eY R Q->Y O.r=Y s.rs->
  (∀(q:Nat)(e:RK)(X:RV),R[q]?=U (.ah e)->Q[q]?=U (.r X)->PP e X)->(∀(k:Nat)(e:RK)(X:RV),s.rs[k]?=U e->O.r[k]?=U X->PP e X)->
  ∀(k:Nat)(e:RK)(X:RV),(s.cT R).2.rs[k]?=U e->(O.ext Q).r[k]?=U X->PP e X
 |[],[],s,O,_,_,_,M=>M
 |[],_::_,_,_,h,_,_,_=>by simp[eY] at h
 |_::_,[],_,_,h,_,_,_=>by simp[eY] at h
 |k::R,x::Q,s,O,h,L,B,M=>by
  obtain⟨H,G⟩:=h;have F:∀(q:Nat)(e:RK)(X:RV),R[q]?=U (.ah e)->Q[q]?=U (.r X)->PP e X:=λq e X P N=>B (q+1) e X (by simpa using P) (by simpa using N)
  simp only[S.cT,ai.ext];cases k<;>cases x<;>simp[sI] at H;exact Im R Q _ _ G (by simp[S.fresh,ai.add,L]) F (by simpa[S.fresh,ai.add] using M);exact Im R Q _ _ G (by simp[S.fresh,ai.add,L]) F (by simpa[S.fresh,ai.add] using M);rename_i A z;refine Im R Q _ _ G (by simp[S.fresh,ai.add,L]) F ?_;intro k e X P N;simp only[S.fresh,ai.add] at P N;by_cases H:k<Y s.rs;rw[dN H] at P;rw[dN aa] at N;exact M k e X P N;have y:k=Y s.rs:=by
   have:=(cu.1 P).1;simp at this;omega
  subst y;simp at P;rw[<-L] at N;simp at N;subst P N;exact B 0 A z rfl rfl
def FE:aU->Nat
 |[]=>0
 |.ah _::X=>FE X+1
 |_::X=>FE X
def Lf:∀(R:aU)(P:bv)(s:S)(O:ai),eY R P->Y O.r=Y s.rs->
  ∀(k:Nat)(e:RK)(Q:RV),(s.cT R).2.rs[k]?=U e->(O.ext P).r[k]?=U Q->(s.rs[k]?=U e/\O.r[k]?=U Q)\/∃q:Nat,R[q]?=U (.ah e)/\P[q]?=U (.r Q)/\k=Y s.rs+FE (R.take q)
 |[],[],s,O,_,_,k,e,Q,N,M=>.inl ⟨N,M⟩
 |[],_::_,_,_,h,_,_,_,_,_,_=>by simp[eY] at h
 |_::_,[],_,_,h,_,_,_,_,_,_=>by simp[eY] at h
 |B::R,x::P,s,O,h,G,k,e,Q,N,M=>by
  obtain⟨A,F⟩:=h;simp only[S.cT,ai.ext] at N M;cases B<;>cases x<;>simp[sI] at A;rcases Lf R P _ _ F (by simp[S.fresh,ai.add,G]) k e Q N M with X|⟨q,X⟩;exact .inl (by simpa[S.fresh,ai.add] using X);exact .inr ⟨q+1,by simpa[S.fresh,FE] using X⟩;rcases Lf R P _ _ F (by simp[S.fresh,ai.add,G]) k e Q N M with X|⟨q,X⟩;exact .inl (by simpa[S.fresh,ai.add] using X);exact .inr ⟨q+1,by simpa[S.fresh,FE] using X⟩;rename_i w v;rcases Lf R P _ _ F (by simp[S.fresh,ai.add,G]) k e Q N M with⟨L,H⟩|⟨q,X⟩;simp only[S.fresh,ai.add] at L H;by_cases z:k<Y s.rs;rw[dN z] at L;rw[dN aa] at H;exact .inl ⟨L,H⟩;have y:k=Y s.rs:=by
   have:=(cu.1 L).1;simp at this;omega
  subst y;simp at L;rw[<-G] at H;simp at H;subst L H;exact .inr ⟨0,rfl,rfl,by simp[FE]⟩;refine .inr ⟨q+1,by simpa using X.1,by simpa using X.2.1, ?_⟩;have:=X.2.2;simp[S.fresh] at this;simp[FE];omega
def alm:∀{ks:aU}{q:Nat}{e:RK},ks[q]?=U (.ah e)->OG ks=J
 |[],q,e,h=>by simp at h
 |k::ks,0,e,h=>by simp at h;subst h;rfl
 |k::ks,q+1,e,h=>by
  have:=alm (ks:=ks) (q:=q) (by simpa using h);cases k<;>first|exact this|rfl
def Ug:∀{R:aU}{q:Nat}{k:LK},qJ R=J->R[q]?=U k->HZ k=J
 |[],q,k,_,h=>by simp at h
 |Q::R,0,k,X,h=>by simp only[qJ,aw] at X;simp at h;subst h;exact X.1
 |Q::R,q+1,k,X,h=>by simp only[qJ,aw] at X;exact Ug X.2 (by simpa using h)
def abr{B:Nat}{M:Nat->Prop}:∀{N:aU}{P:bv},KM o W B M N P->∀(q:Nat)(e:RK)(X:RV),N[q]?=U (.ah e)->P[q]?=U (.r X)->bJ W o e X/\∀b,et o e X b->B<=b\/M b
 |[],P,_,q,e,X,R,_=>by simp at R
 |_::_,[],_,q,e,X,_,Q=>by simp at Q
 |k::N,x::P,h,0,e,X,R,Q=>by simp at R Q;subst R Q;exact h.1
 |k::N,x::P,h,q+1,e,X,R,Q=>abr h.2 q e X (by simpa using R) (by simpa using Q)
def az.called{B:World}(R:az d m D o V O s a W)(u:s.bd=J){Q:aU}(f:qJ Q=J){N:bv}(A:eY Q N)(n:Below W.heap.size W B){c:Nat->Prop}(ho:∀b,c b->O.qM o s.rs b/\∀(k:Nat)(e:TypeId)(X:RV),s.rs[k]?=U (.own e)->O.r[k]?=U X->X.lH=U b->OG Q=E)
  (hh:KM o B W.heap.size c Q N):
  az d m D o V (O.ext N) (s.cT Q).2 a B:=by
 obtain⟨M,e2,e3,e4⟩:=yu Q s;obtain⟨l1,l2,l3⟩:=Ah Q N s O A R.ei R.eb R.er;obtain⟨af,ag⟩:=R.zZ u;have hE:=DK s.ao O N V;have L:=R.mem.below n;refine⟨⟨L.base,by rw[M];exact L.own,by rw[M];exact L.inj, ?_, ?_⟩,by rw[M];exact R.gV,l1,l2,l3,by rw[Le,abq];exact R.dp.below n,by rw[e2];exact R.size, ?_, ?_⟩;rw[M];intro i t cs h;rw[hE.dR (ub ag h)];exact L.box i t cs h;rw[M];refine Im (PP:=λe X=>bJ B o e X/\∀b,et o e X b->∀i,aP s.ao i=J->ad V i≠b) Q N s O A R.er ?_ (λk e X P H=>L.ah k e X P H);intro q e X P H;obtain⟨z,h4⟩:=abr hh q e X P H;refine⟨z,λb u i hi=> ?_⟩;rcases h4 b u with G|G;have:=R.mem.lt hi;omega;obtain⟨⟨k,y,hk,hx⟩,-⟩:=ho b G;exact(R.mem.ah k _ _ hk (u5 R hk)).2 b hx i hi;rw[e2];intro t sv h;rcases R.tmps t sv h with P|P;exact .inl P;right;rw[hE.ab (wz af h)];exact P;rw[M];intro k e X b P H z;rcases Lf Q N s O A R.er k _ X P H with⟨x,l⟩|⟨q,x,l,-⟩;have t:=R.gD k e X b x l z;have w:=t.world (n.block b t.lt);refine⟨w.own,w.mem,w.box,λk' y j q1 q2 q3 v=> ?_,w.inner⟩;rcases Lf Q N s O A R.er k' y j q2 q3 with⟨F,g⟩|⟨q,F,g,-⟩;exact t.alone k' y j q1 F g v;have hr:=alm F;obtain⟨p3,p4⟩:=abr hh q y j F g;rcases v with v|⟨⟨t0,rfl⟩,_⟩;rcases p4 b v with G|G;have:=t.lt;omega;have:=(ho b G).2 k e X x l z;rw[hr] at this;cases this;have:=Ug f F;simp[HZ] at this;have:=Ug f x;simp[HZ] at this
def aln(R:az d m D o V O s a W){G:aU}(h:O.qM o (OI e s.rs) X):
  O.qM o (Dv e G s.rs) X/\∀(k:Nat)(Q:TypeId)(H:RV),(Dv e G s.rs)[k]?=U (.own Q)->O.r[k]?=U H->H.lH=U X->OG G=false:=by
 obtain⟨N,q,P,A⟩:=h;unfold OI at P;rw[aaR] at P;cases M:s.rs[N]? with
 |none=>rw[M] at P;cases P
 |some x=>
  rw[M] at P;simp only[jf,eh,cX] at P;have z:=akq ((OH e (Y s.rs)).contains N) x;rw[P] at z;have L:et o x (O.rv N) X:=A.mX z;refine⟨?_,λk Q H F v u=> ?_⟩;unfold Dv;split;refine⟨N,zN ((OH e (Y s.rs)).contains N) x,by rw[K2,M];simp, ?_⟩;cases x<;>simp only[zN]<;>try exact L
  split;cases L with
  |own Q H X L=>exact L
  exact L;exact⟨N,x,M,L⟩;unfold Dv at F;split at F;rename_i y;exfalso;obtain⟨B,t⟩:=aaX F;by_cases w:N=k;subst w;rw[M] at B;cases B;simp only[Oz] at P;rw[aT (by simpa using t)] at P;subst P;cases A;exact(R.gD k Q H X B v u).alone N x (O.rv N) w M (u5 R M) (.inl L);rename_i y;simpa using y
def FF(R:ap)(Q:aU)(X:bz):qN X (Dv R Q X):=by
 unfold Dv;split;exact Pa _ _;exact qN.refl _
end
section
variable{p:Sp}{c:bF}
def alo(w:p.ty=c.ty)(n:∀g,(c.sig g).isSome=J->∀X W,(callFunc g X).run p.P W=.ok (.enter g X) W)
  (D:cq)(L:dG)(g:FuncId)(X:ap)(s:S)(k:C->S->T)(O:ai)(V:aq)(a:Act)(W:World)(B:Ending->World->Prop)
  (h:(zR c g X s k).aS p O L)(R:az p.S0 p.w0 D c.ty V O s a W)
  (j:∀v A H z Q u,bH s O V A H z->dq s.ax L u->az p.S0 p.w0 D c.ty z H A a Q->(k v A).aS p H u->B (.returned (v.ab H z)) Q)
  (i:∀G Q f y,eN p.w0 D f y a.defers Q->p.R (.panicked G) Q->B (.panicked G) Q):
  (∀X W,(callFunc g X).run p.P W=.ok (.enter g X) W)/\Calls p.P g (C.aG O V X).toArray W B:=by
 unfold zR at h;split at h;rename_i ts af;refine⟨n g (by rw[af];rfl), ?_⟩;split at h;rename_i M al;split at h;rename_i l hl;split at h;rename_i N;simp only[S.fp,aw] at N;obtain⟨N,ag⟩:=N;simp only[T.aS] at h;have:=h O.y V W (by rw[w];exact(R.mem.aaw _).mX (akr _ _));refine this.mono ?_;intro e Q F;cases e with
 |returned v=>
  obtain⟨x,h1,t,h3,r,h5⟩:=F;rw[w] at r;obtain⟨q,e2,e3,e4⟩:=yu M (s.cut X M);have hy:(O.ext x).at O.y=O.ext x:=by have:=Le x O;unfold ai.at;rw[<-this]
  rw[hy] at t;subst t;have R1:az p.S0 p.w0 D c.ty V O (s.cut X M) a W:=R.mX (FF X M s.rs);exact j _ _ _ V Q L ⟨DK _ _ _ _,by rw[q];exact λ_ h=>h,by rw[q];exact bY _,by rw[e3];exact bY _⟩ (dq.refl _ _) (R1.called (Pg N.1 (FF X M s.rs).len) ag h1 h3 (λb N=>aln R N) r) h5
 |panicked G=>exact i G Q _ _ (R.dp.below F.1) F.2
 |outgrown=>exact F.elim
 exact h.elim;exact h.elim;exact h.elim;exact h.elim
def abs{d:aq}{m:World}{D:cq}{V:aq}{O:ai}{s:S}{a:Act}{W:World}(R:az d m D c.ty V O s a W)(M:jq p.P c.ty)(f:ResultVar->Sem Value)(L:∀t,f (.tmp t)=pure (a.tmps.getD t undef))(H:∀x t,f (.cell x t)=(asAddr (a.tmps.getD x undef)>>=λy=>loadVar t y)):
  ∀(X:od)(l:ap),uU c s X=U l->(X.mapM f).run p.P W=.ok (C.aG O V l) W
 |[],l,h=>by simp[uU] at h;subst h;rfl
 |.tmp t::X,l,h=>by
  simp only[uU] at h;split at h;rename_i G F;split at h;cases h;rename_i z;cases h;have N:=dA (gl:=[]) R (λ_ Q=>by cases Q) (.tmp t) (by simpa[S.ev,xY] using z);simp only[Act.eval,S.ev,xY] at N;simp only[avM,dC,L,fz,du,abs R M f L H X G F,C.aG,N];cases h
 |.cell x t::X,l,h=>by
  simp only[uU] at h;split at h;rename_i G i g e F Q w;split at h;rename_i u r B;split at h;rename_i v q;cases h;have N:=dA (gl:=[]) R (λ_ Q=>by cases Q) (.tmp x) (by simp only[S.ev,xY,Q];rfl);simp only[Act.eval,S.ev,xY,Q,C.ab] at N;have A:=TH (P:=p.P) (W:=W) (M _ _ w) (O:=O) (V:=V) (b:=ad V i) (base:=0) q (λj y n=>by
   obtain⟨B,k⟩:=zY B;have:=R.mem.box i u r B;rw[uc k] at this;simp[oK,this,t8,n])
  simp only[Instr.loadAt,Instr.sureAddr,jf,dC,fz,du] at A;simp only[avM,dC,H,N,asAddr,fz,du,A,abs R M f L H X G F,C.aG];cases h;cases h;cases h
def Lg{m:World}{D:cq}{V:aq}{a:Act}{W:World}(X:az t m D c.ty V x R a W)(N:jq p.P c.ty){Q:Func}{l:ap}(h:uU c R Q.results.toList=U l):
  (results Q a.tmps).run p.P W=.ok ((one l).ab x V) W:=by
 unfold results;rw[aIV];simp only[dC,Sem.run_map];rw[abs X N _ (λ_=>rfl) (λ_ _=>rfl) Q.results.toList l h];simp only[du,fz];congr 1
 match l with
 |[]=>rfl
 |[v]=>rfl
 |v::w::r=>rfl
end
section
variable{d:aq}{m:World}{D:cq}{ty:Ty}{V:aq}{O:ai}{s:S}{a:Act}{W:World}
def XV.at(k:LK):XV->Value
 |.i n=>match k with
  |.int k=>.int k n
  |_=>undef
 |.b x=>.bool x
 |.r v=>v.val
def XV.Pu(k:LK)(x:XV):RV:=match x with
 |.r v=>v
 |x=>.mk (x.at k) []
def axr{k:LK}(h:Du R k r=J):(r.xv x).Pu k=r.io x t:=by
 unfold Du at h;split at h;simp at h;subst h;rfl;rfl;rfl;rfl;rfl;rfl;cases h
def alp{V1:aq}{k:LK}(h:Du R k r=J):(r.xv x).at k=r.ab x V1/\sI k (r.xv x):=by
 unfold Du at h;split at h;simp at h;subst h;exact⟨rfl,trivial⟩;exact⟨rfl,trivial⟩;exact⟨rfl,trivial⟩;exact⟨rfl,trivial⟩;exact⟨rfl,trivial⟩;exact⟨rfl,trivial⟩;cases h
def alq{N:S}:∀{X:aU}{R:ap},tX N X R=J->Y X=Y R/\∀(q:Nat)(k:LK)(v:C),X[q]?=U k->R[q]?=U v->Du N k v=J
 |[],[],_=>⟨rfl,λq k v h _=>by simp at h⟩
 |[],_::_,h=>by simp[tX] at h
 |_::_,[],h=>by simp[tX] at h
 |k::X,v::R,h=>by
  simp only[tX,aw] at h;obtain⟨M,L⟩:=alq h.2;refine⟨by simp[M],λq H G Q P=> ?_⟩;cases q with
  |zero=>simp at Q P;subst Q P;exact h.1
  |succ q=>exact L q H G (by simpa using Q) (by simpa using P)
def abt{Q:S}{O1:ai}:∀{X:aU}{R:ap},tX Q X R=J->eY X (R.map (C.xv O1))
 |[],[],_=>trivial
 |[],_::_,h=>by simp[tX] at h
 |_::_,[],h=>by simp[tX] at h
 |k::X,v::R,h=>by
  simp only[tX,aw] at h;exact⟨(alp (V1:=[]) h.1).2,abt h.2⟩
def Uh:∀(R:aU)(X:bv)(s:S)(O:ai),eY R X->Y O.i=s.ni->Y O.b=s.nb->Y O.r=Y s.rs->
  ∀(q:Nat)(k:LK)(x:XV)(v:C),R[q]?=U k->X[q]?=U x->(s.cT R).1[q]?=U v->v.ab (O.ext X) V=x.at k/\v≠ .any
 |[],_,_,_,_,_,_,_,q,k,x,v,h,_,_=>by simp at h
 |_::_,[],_,_,h,_,_,_,q,k,x,v,_,_,_=>by simp[eY] at h
 |B::R,G::X,s,O,A,M,L,H,0,k,x,v,Q,P,N=>by
  obtain⟨z,F⟩:=A;simp only[S.cT,Bk,cX] at Q P N;subst Q P N;have y:=Fu X (O.add G);simp only[ai.ext];cases B<;>cases G<;>simp[sI] at z;refine⟨?_,by simp[S.fresh]⟩;simp only[S.fresh,C.ab,K.ab,XV.at];rw[y.i _ (by simp[ai.add,M])];simp[ai.add,<-M];refine⟨?_,by simp[S.fresh]⟩;simp only[S.fresh,C.ab,BE.ab,XV.at];rw[y.b _ (by simp[ai.add,L])];simp[ai.add,<-L];refine⟨?_,by simp[S.fresh]⟩;simp only[S.fresh,C.ab,RE.ab,RE.rv,XV.at];rw[y.r _ (by simp[ai.add,H])];simp[ai.add,ai.rv,<-H]
 |B::R,G::X,s,O,A,M,L,H,q+1,k,x,v,Q,P,N=>by
  obtain⟨z,F⟩:=A;simp only[S.cT,tN] at Q P N;simp only[ai.ext];cases B<;>cases G<;>simp[sI] at z;exact Uh R X _ _ F (by simp[S.fresh,ai.add,M]) (by simp[S.fresh,ai.add,L]) (by simp[S.fresh,ai.add,H]) q k x v Q P N;exact Uh R X _ _ F (by simp[S.fresh,ai.add,M]) (by simp[S.fresh,ai.add,L]) (by simp[S.fresh,ai.add,H]) q k x v Q P N;exact Uh R X _ _ F (by simp[S.fresh,ai.add,M]) (by simp[S.fresh,ai.add,L]) (by simp[S.fresh,ai.add,H]) q k x v Q P N
def Ui:∀(R:aU)(X:bv)(s:S)(O:ai),eY R X->Y O.i=s.ni->Y O.b=s.nb->Y O.r=Y s.rs->
  ∀(q:Nat)(k:LK)(x:XV)(v:C),R[q]?=U k->X[q]?=U x->(s.cT R).1[q]?=U v->v.io (O.ext X) V=x.Pu k
 |[],_,_,_,_,_,_,_,q,k,x,v,h,_,_=>by simp at h
 |_::_,[],_,_,h,_,_,_,q,k,x,v,_,_,_=>by simp[eY] at h
 |B::R,G::X,s,O,A,M,L,H,0,k,x,v,Q,P,N=>by
  obtain⟨z,F⟩:=A;simp only[S.cT,Bk,cX] at Q P N;subst Q P N;have y:=Fu X (O.add G);simp only[ai.ext];cases B<;>cases G<;>simp[sI] at z
  skip
  simp only[S.fresh,C.io,C.ab,K.ab,XV.Pu,XV.at];rw[y.i _ (by simp[ai.add,M])];simp[ai.add,<-M]
  skip
  simp only[S.fresh,C.io,C.ab,BE.ab,XV.Pu,XV.at];rw[y.b _ (by simp[ai.add,L])];simp[ai.add,<-L]
  skip
  simp only[S.fresh,C.io,RE.rv,XV.Pu];rw[y.r _ (by simp[ai.add,H])];simp[ai.add,ai.rv,<-H]
 |B::R,G::X,s,O,A,M,L,H,q+1,k,x,v,Q,P,N=>by
  obtain⟨z,F⟩:=A;simp only[S.cT,tN] at Q P N;simp only[ai.ext];cases B<;>cases G<;>simp[sI] at z;exact Ui R X _ _ F (by simp[S.fresh,ai.add,M]) (by simp[S.fresh,ai.add,L]) (by simp[S.fresh,ai.add,H]) q k x v Q P N;exact Ui R X _ _ F (by simp[S.fresh,ai.add,M]) (by simp[S.fresh,ai.add,L]) (by simp[S.fresh,ai.add,H]) q k x v Q P N;exact Ui R X _ _ F (by simp[S.fresh,ai.add,M]) (by simp[S.fresh,ai.add,L]) (by simp[S.fresh,ai.add,H]) q k x v Q P N
def alr:∀(X:aU)(s:S),(s.cT X).1.length=Y X
 |[],_=>rfl
 |k::X,s=>by simp[S.cT,alr X]
def als{n:Nat}:∀{R:List (Nat×LK)}{X:ap}{v:C},wu n R X=U v->∃(q:Nat)(k:LK),R[q]?=U (n,k)/\X[q]?=U v
 |[],X,v,h=>by simp[wu] at h
 |_::_,[],v,h=>by simp[wu] at h
 |(t,k)::r,x::L,v,h=>by
  simp only[wu] at h;split at h;rename_i Q;cases h;simp at Q;subst Q;exact⟨0,k,rfl,rfl⟩;obtain⟨q,P,N,M⟩:=als h;exact⟨q+1,P,by simpa using N,by simpa using M⟩
def alu{n:Nat}:∀{X:List (Nat×LK)}{R:ap},Y X<=Y R->wu n X R=Z->X.any (·.1==n)=E
 |[],R,_,h=>rfl
 |_::_,[],Q,h=>by simp at Q
 |(t,k)::r,x::N,Q,h=>by
  simp only[wu] at h;split at h;cases h;rename_i P;simp only[List.any_cons,wb];exact⟨by simpa using P,alu (by simpa using Q) h⟩
def alv{b n:Nat}:∀{R:List (Nat×Nat×LK)}{X:ap}{v:C},BD b n R X=U v->∃(q:Nat)(k:LK),R[q]?=U (b,n,k)/\X[q]?=U v
 |[],X,v,h=>by simp[BD] at h
 |_::_,[],v,h=>by simp[BD] at h
 |(L,t,k)::r,x::H,v,h=>by
  simp only[BD] at h;split at h;rename_i Q;cases h;simp at Q;obtain⟨rfl,rfl⟩:=Q;exact⟨0,k,rfl,rfl⟩;obtain⟨q,P,N,M⟩:=alv h;exact⟨q+1,P,by simpa using N,by simpa using M⟩
def alw{b n:Nat}:∀{X:List (Nat×Nat×LK)}{R:ap},Y X<=Y R->BD b n X R=Z->X.any (λc=>c.1==b&&c.2.1==n)=E
 |[],R,_,h=>rfl
 |_::_,[],Q,h=>by simp at Q
 |(N,t,k)::r,x::M,Q,h=>by
  simp only[BD] at h;split at h;cases h;rename_i P;simp only[List.any_cons,wb];exact⟨by simpa using P,alw (by simpa using Q) h⟩
def alx(X:fP)(R:aq)(Q:ap):∀(l:ap)(n i:Nat),(BF X R Q n l)[i]?=(l[i]?).map λx=>(wu (n+i) X.tm Q).getD (if R.contains (n+i) then .any else x)
 |[],n,i=>by simp[BF]
 |x::P,n,0=>by simp[BF]
 |x::P,n,i+1=>by
  simp only[BF,tN];rw[alx X R Q P (n+1) i,show n+1+i=n+(i+1) from aa]
def aly(X:fP)(R:ap)(b:Nat):∀(l:ap)(n i:Nat),(HX X R b n l)[i]?=(l[i]?).map λx=>(BD b (n+i) X.cl R).getD x
 |[],n,i=>by simp[HX]
 |x::Q,n,0=>by simp[HX]
 |x::Q,n,i+1=>by
  simp only[HX,tN];rw[aly X R b Q (n+1) i,show n+1+i=n+(i+1) from aa]
def Pv(R:fP)(Q:ap):∀(l:bG)(n i:Nat),cz (uV R Q n l) i=(cz l i).map λx=>(x.1,HX R Q (n+i) 0 x.2)
 |[],n,i=>by simp[uV,cY]
 |Z::X,n,0=>by simp[uV,cY]
 |U (t,P)::X,n,0=>by simp[uV,cY]
 |Z::X,n,i+1=>by
  have:=Pv R Q X (n+1) i;rw[show n+1+i=n+(i+1) from aa] at this;simpa[uV,cY] using this
 |U (t,P)::X,n,i+1=>by
  have:=Pv R Q X (n+1) i;rw[show n+1+i=n+(i+1) from aa] at this;simpa[uV,cY] using this
def Uj(X:fP)(R:ap):∀(l:bG)(n:Nat),(uV X R n l).length=Y l
 |[],n=>rfl
 |Z::Q,n=>by simp[uV,Uj X R Q]
 |U (t,P)::Q,n=>by simp[uV,Uj X R Q]
def alz(X:fP)(R:aq)(Q:ap):∀(l:ap)(n:Nat),(BF X R Q n l).length=Y l
 |[],n=>rfl
 |x::P,n=>by simp[BF,alz X R Q P]
def abu{N:fP}{M:aq}:∀{l R:ap}{n:Nat},zQ N M n l R=J->Y l=Y R/\∀(i:Nat)(x y:C),l[i]?=U x->R[i]?=U y->N.tm.any (·.1==n+i)=J\/M.contains (n+i)=J\/x=y
 |[],[],n,_=>⟨rfl,λi x y h _=>by simp at h⟩
 |[],_::_,n,h=>by simp[zQ] at h
 |_::_,[],n,h=>by simp[zQ] at h
 |x::B,y::A,n,h=>by
  simp only[zQ,aw,jL] at h;obtain⟨L,H⟩:=abu h.2;refine⟨by simp[L],λi G F Q P=> ?_⟩;cases i with
  |zero=>
   simp only[Bk,cX] at Q P;subst Q P;rcases h.1 with(X|X)|X;exact .inl X;exact .inr (.inl X);exact .inr (.inr (C.bU _ _ X))
  |succ i=>
   have:=H i G F (by simpa using Q) (by simpa using P);rw[show n+(i+1)=n+1+i from aa];exact this
def alA{N:fP}{b:Nat}:∀{l X:ap}{n:Nat},HY N b n l X=J->Y l=Y X/\∀(i:Nat)(x y:C),l[i]?=U x->X[i]?=U y->N.cl.any (λc=>c.1==b&&c.2.1==n+i)=J\/x=y
 |[],[],n,_=>⟨rfl,λi x y h _=>by simp at h⟩
 |[],_::_,n,h=>by simp[HY] at h
 |_::_,[],n,h=>by simp[HY] at h
 |x::F,y::B,n,h=>by
  simp only[HY,aw,jL] at h;obtain⟨M,L⟩:=alA h.2;refine⟨by simp[M],λi H G R Q=> ?_⟩;cases i with
  |zero=>
   simp only[Bk,cX] at R Q;subst R Q;rcases h.1 with P|P;exact .inl P;exact .inr (C.bU _ _ P)
  |succ i=>
   have:=L i H G (by simpa using R) (by simpa using Q);rw[show n+(i+1)=n+1+i from aa];exact this
def abv{G:fP}:∀{l M:bG}{n:Nat},tW G n l M=J->∀(i:Nat)(t:TypeId)(R:ap),cz l i=U (t,R)->∃Q,cz M i=U (t,Q)/\HY G (n+i) 0 R Q=J
 |[],M,n,_,i,t,R,h=>by simp[cY] at h
 |Z::P,[],n,X,i,t,R,h=>by simp[tW] at X
 |Z::P,y::N,n,X,0,t,R,h=>by simp[cY] at h
 |Z::P,y::N,n,X,i+1,t,R,h=>by
  simp only[tW] at X;obtain⟨Q,L,H⟩:=abv X i t R (by simpa[cY] using h);exact⟨Q,by simpa[cY] using L,by rw[show n+(i+1)=n+1+i from aa];exact H⟩
 |U x::P,[],n,X,i,t,R,h=>by simp[tW] at X
 |U x::P,Z::N,n,X,i,t,R,h=>by simp[tW] at X
 |U x::P,U y::N,n,X,0,t,R,h=>by
  simp only[tW,aw,dK] at X;simp only[cY,Bk,cX] at h⊢;subst h;exact⟨y.2,by rw[show(t:TypeId)=y.1 from X.1.1],X.1.2⟩
 |U x::P,U y::N,n,X,i+1,t,R,h=>by
  simp only[tW,aw] at X;obtain⟨Q,L,H⟩:=abv X.2 i t R (by simpa[cY] using h);exact⟨Q,by simpa[cY] using L,by rw[show n+(i+1)=n+1+i from aa];exact H⟩
def alB{R:fP}{n:Nat}{k:LK}(Q:R.tm[X]?=U (n,k)):R.ks[X]?=U k:=by
 have P:X<Y R.tm:=(cu.1 Q).1;unfold fP.ks;rw[dN (by simpa using P),dS,Q];rfl
def alC{Q:fP}{n:Nat}{k:LK}(P:Q.tm[X]?=U (n,k))(N:R.tmps[n]?=U r):(kX Q R)[X]?=U r:=by
 have M:X<Y Q.tm:=(cu.1 P).1;unfold kX;rw[dN (by simpa using M),dS,P];simp[N]
def DP{k:Nat}(h:k<X):ad (t.take X) k=ad t k:=by simp[ad,h]
def axs(X:fP)(s:S):(jF X s).length=Y s.rs:=BP _ _ _
def alD:∀{l R:bz},zP l R=J->∀(k:Nat)(e:RK),l[k]?=U e->∃Q,R[k]?=U Q/\(e=.am\/Q=e)
 |[],R,_,k,e,h=>by simp at h
 |x::P,[],h,_,_,_=>by simp[zP] at h
 |x::P,y::N,h,0,e,X=>by
  simp only[zP,aw,jL,ce] at h;simp at X;subst X;exact⟨y,rfl,h.1.imp id Eq.symm⟩
 |x::P,y::N,h,k+1,e,X=>by
  simp only[zP,aw] at h;exact alD h.2 k e (by simpa using X)
def Uk:∀{R:aU}{X:ap}{q:Nat}{e:TypeId}{k:Nat},R[q]?=U (.ah (.own e))->X[q]?=U (.ah (.v k))->k∈Dt R X
 |[],X,q,e,k,h,_=>by simp at h
 |_::_,[],q,e,k,_,h=>by simp at h
 |N::R,v::X,0,e,k,Q,P=>by simp at Q P;subst Q P;simp[Dt,Tl]
 |N::R,v::X,q+1,e,k,Q,P=>by
  simp only[Dt,eW];right;exact Uk (q:=q) (by simpa using Q) (by simpa using P)
def Ul:∀{a b:aq},nJ (a++b)=J->nJ b=J/\∀x∈a,x∉b
 |[],b,h=>⟨h,av⟩
 |x::a,b,h=>by
  simp only[ef,nJ,aw] at h;obtain⟨R,Q⟩:=Ul h.2;refine⟨R,λy X=> ?_⟩;rcases dV.1 X with rfl|X;intro P;have:=h.1;simp[P] at this;exact Q y X
def alE:∀{N:aU}{R:ap}{q Q:Nat}{e M:TypeId}{k X:Nat},nJ (Dt N R)=J->N[q]?=U (.ah (.own e))->R[q]?=U (.ah (.v k))->N[Q]?=U (.ah (.own M))->R[Q]?=U (.ah (.v X))->q≠Q->k≠X
 |[],R,q,Q,e,M,k,X,_,h,_,_,_,_=>by simp at h
 |_::_,[],q,Q,e,M,k,X,_,_,h,_,_,_=>by simp at h
 |B::N,v::R,0,0,e,M,k,X,_,_,_,_,_,h=>aZ rfl h
 |B::N,v::R,0,Q+1,e,M,k,X,P,L,H,G,F,_=>by
  simp at L H;subst L H;simp only[Dt] at P;have:=(Ul P).2 k (by simp[Tl]);intro A;subst A;exact this (Uk (q:=Q) (by simpa using G) (by simpa using F))
 |B::N,v::R,q+1,0,e,M,k,X,P,L,H,G,F,_=>by
  simp at G F;subst G F;simp only[Dt] at P;have:=(Ul P).2 X (by simp[Tl]);intro A;subst A;exact this (Uk (q:=q) (by simpa using L) (by simpa using H))
 |B::N,v::R,q+1,Q+1,e,M,k,X,P,L,H,G,F,z=>by
  simp only[Dt] at P;exact alE (Ul P).1 (by simpa using L) (by simpa using H) (by simpa using G) (by simpa using F) aa
def az.head{ty:Ty}{P:fP}{n:aq}{a1:Act}{W1:World}(bk:s.bd=J)(ei:Y O.i=s.ni)(eb:Y O.b=s.nb)(er:Y O.r=Y s.rs)
  (f:bH s O V R x n)(R1:az d m D ty n x R a1 W1)(hT:zQ P t 0 s.tmps R.tmps=J)(hB:tW P 0 s.ao R.ao=J)(hf:tX R P.ks (kX P R)=J)
  (hR:zP (jF P s) R.rs=J)(hO:HW (jF P s) (HV P R)=J)(b6:R.pd=s.pd):
  az d m D ty (n.take (Y s.ao)) (O.ext ((kX P R).map (C.xv x))) (rG P t s) a1 W1:=by
 obtain⟨b7,b8⟩:C.eo (Y O.i) (Y O.b) (Y O.r) (aP s.ao) s.tmps=J/\C.rF (Y O.i) (Y O.b) (Y O.r) (aP s.ao) s.ao=true:=by
  simp only[S.bd,aw] at bk;rw[ei,eb,er];exact bk
 have aA:=abt (O1:=x) hf;have aC:Y O.r=(jF P s).length:=by rw[axs];exact er
 obtain⟨cB,a9⟩:=alq hf;generalize bc:(kX P R).map (C.xv x)=o at*;obtain⟨e1,e2,e3,e4⟩:=yu P.ks {s with ax:=s.ax+1,rs:=jF P s};obtain⟨l1,l2,l3⟩:=Ah P.ks o {s with ax:=s.ax+1,rs:=jF P s} O aA ei eb aC;have bl:=DK s.ao O o V;have ca:=Uh (V:=n.take (Y s.ao)) P.ks o {s with ax:=s.ax+1,rs:=jF P s} O aA ei eb aC;have br:=alr P.ks {s with ax:=s.ax+1,rs:=jF P s};have bs:Y P.ks=Y P.tm+Y P.cl:=by simp[fP.ks]
 have a0:∀i,aP (uV P (((({s with ax:=s.ax+1,rs:=jF P s}:S).cT P.ks).1).drop (Y P.tm)) 0 s.ao) i=J->aP s.ao i=J/\i<Y s.ao:=by
  intro i hi;unfold aP at hi;rw[Pv] at hi;have:(cz s.ao i).isSome=true:=by simpa using hi
  obtain⟨b,H⟩:=lF.1 this;exact⟨this,(cu.1 (kw.1 H)).1⟩
 have cc:∀v:C,v.bd (Y O.i) (Y O.b) (Y O.r) (aP s.ao)=J->v.ab (O.ext o) (n.take (Y s.ao))=v.ab x n:=by
  intro v hv;rw[f.ext.ab hv];refine C.eC bl.agree (λk hk=> ?_) v hv;have a3:k<Y s.ao:=by
   obtain⟨b,H⟩:=lF.1 hk;exact(cu.1 (kw.1 H)).1
  rw[DP a3];exact f.ext.ad k hk
 have ch:∀(q:Nat)(k:LK)(v w:C),P.ks[q]?=U k->(kX P R)[q]?=U w->(({s with ax:=s.ax+1,rs:=jF P s}:S).cT P.ks).1[q]?=U v->v.ab (O.ext o) (n.take (Y s.ao))=w.ab x n/\v≠ .any:=by
  intro q k v w hk hw hv;have hx:o[q]?=U (w.xv x):=by rw[<-bc];simp[hw]
  obtain⟨N,M⟩:=ca q k _ v hk hx hv;exact⟨N.trans (alp (V1:=n) (a9 q k w hk hw)).1,M⟩
 have cn:∀v:C,v.bd (Y O.i) (Y O.b) (Y O.r) (aP s.ao)=J->v.io (O.ext o) (n.take (Y s.ao))=v.io x n:=by
  intro v hv;rw[aax f.ext.agree f.ext.ad v hv];refine aax bl.agree (λk hk=> ?_) v hv;have a3:k<Y s.ao:=by
   obtain⟨b,H⟩:=lF.1 hk;exact(cu.1 (kw.1 H)).1
  rw[DP a3];exact f.ext.ad k hk
 have co:∀(q:Nat)(k:LK)(v w:C),P.ks[q]?=U k->(kX P R)[q]?=U w->(({s with ax:=s.ax+1,rs:=jF P s}:S).cT P.ks).1[q]?=U v->v.io (O.ext o) (n.take (Y s.ao))=w.io x n:=by
  intro q k v w hk hw hv;have hx:o[q]?=U (w.xv x):=by rw[<-bc];simp[hw]
  rw[Ui (V:=n.take (Y s.ao)) P.ks o {s with ax:=s.ax+1,rs:=jF P s} O aA ei eb aC q k _ v hk hx hv];exact axr (a9 q k w hk hw)
 have bt:∀(k:Nat)(e:RK)(G:RV),(jF P s)[k]?=U e->O.r[k]?=U G->∃e1,R.rs[k]?=U e1/\x.r[k]?=U G/\(e=.am\/e1=e):=by
  intro k e G N M;have hk:k<Y O.r:=(cu.1 M).1;have cp:k<Y x.r:=ZG hk f.ext.lr;have ct:x.r[k]?=U G:=by
   have:=f.ext.agree.r k hk;simp only[ai.rv,cw,M,oI] at this;rw[cP cp] at this⊢;simpa using this
  obtain⟨L,h3,h4⟩:=alD hR k e N;exact⟨L,h3,ct,h4⟩
 have bx:∀(q:Nat)(e:RK)(G:RV),P.ks[q]?=U (.ah e)->o[q]?=U (.r G)->(∃A:Nat,(kX P R)[q]?=U (.ah (.v A))/\R.rs[A]?=U e/\x.r[A]?=U G)\/(G=.mk (.slice Z 0 0) []/\∃X sh,e=.sl X\/e=.own X\/e=.mr sh):=by
  intro q e G N M;rw[<-bc,dS] at M;cases hw:(kX P R)[q]? with
  |none=>rw[hw] at M;cases M
  |some w=>
   rw[hw] at M;simp only[eh,cX] at M;have ba:=a9 q _ w N hw;unfold Du at ba;split at ba;rename_i ag;cases ag;rename_i ag;cases ag;rename_i L k ag;cases ag;simp only[C.xv,XV.r.injEq] at M;have b0:R.rs[k]?=U e:=by simpa using ba
   refine .inl ⟨k,rfl,b0, ?_⟩;rw[<-M];exact u5 R1 b0;rename_i L ag;cases ag;simp only[C.xv,XV.r.injEq,RE.rv] at M;exact .inr ⟨M.symm,_,⟨0,0,0,E,E⟩,.inl rfl⟩;rename_i L ag;cases ag;simp only[C.xv,XV.r.injEq,RE.rv] at M;exact .inr ⟨M.symm,_,⟨0,0,0,E,E⟩,.inr (.inl rfl)⟩;rename_i L ag;cases ag;simp only[C.xv,XV.r.injEq,RE.rv] at M;exact .inr ⟨M.symm,0,_,.inr (.inr rfl)⟩;cases ba
 simp only[HW,aw] at hO;obtain⟨cv,cx⟩:=hO;have b1:∀(q:Nat)(e:TypeId)(A:Nat),P.ks[q]?=U (.ah (.own e))->(kX P R)[q]?=U (.ah (.v A))->∀L,(jF P s)[A]?=U L->L=.am:=by
  intro q e A N M L h3;have:=fZ.1 cx A (Uk N M);simp only[jL,ce] at this;rcases this with h4|h4;have:=(cu.1 h3).1;omega;rw[h4] at h3;cases h3;rfl
 refine⟨⟨R1.mem.base, ?_, ?_, ?_, ?_⟩, ?_,l1,l2,l3, ?_, ?_, ?_, ?_⟩;intro i hi;obtain⟨N,M⟩:=a0 i hi;rw[DP M];exact R1.mem.own i (f.mono i N);intro i j hi hj;obtain⟨N,M⟩:=a0 i hi;obtain⟨h3,h4⟩:=a0 j hj;rw[DP M,DP h4];exact R1.mem.inj i j (f.mono i N) (f.mono j h3);intro i X cs h;simp only[rG] at h;rw[Pv,jf] at h;cases H:cz s.ao i with
 |none=>rw[H] at h;cases h
 |some Q=>
  obtain⟨t0,lj⟩:=Q;rw[H] at h;simp only[eh,cX,Dh] at h;obtain⟨rfl,rfl⟩:=h;obtain⟨bb,b2,b3⟩:=abv hB i t0 lj H;rw[jf] at b3;obtain⟨cy,bf⟩:=alA b3;have a3:i<Y s.ao:=(cu.1 (kw.1 H)).1;rw[DP a3,R1.mem.box i t0 bb b2];congr 2;apply kU;intro j;rw[C.dR,C.dR,dS,dS,aly,jf];cases hx:lj[j]? with
  |none=>
   have:bb[j]?=none:=by
    rw[Dc] at hx⊢;omega
   simp[this]
  |some Q=>
   obtain⟨y,hy⟩:∃y,bb[j]?=U y:=by
    have:j<Y lj:=(cu.1 hx).1;exact⟨bb[j],cP aa⟩
   rw[hy];simp only[eh,cX];cases hp:BD i j P.cl ((({s with ax:=s.ax+1,rs:=jF P s}:S).cT P.ks).1.drop (Y P.tm)) with
   |some v=>
    obtain⟨q,k,hq,hv⟩:=alv hp;rw[uN] at hv;simp only[oI];refine(co (Y P.tm+q) k v y ?_ ?_ hv).symm;simp[fP.ks,iJ,hq];simp[kX,iJ,hq,ajH,b2,hy]
   |none=>
    have hn:=alw (by rw[Df,br,bs];omega) hp;rcases bf j Q y hx hy with N|N;rw[jf] at N;rw[hn] at N;cases N;subst N;simp only[aje];exact(cn Q (wz (ub b8 H) hx)).symm
 have bg:=Im (PP:=λe G=>bJ W1 ty e G/\∀b,et ty e G b->∀i,aP s.ao i=J->ad n i≠b) P.ks o {s with ax:=s.ax+1,rs:=jF P s} O aA aC ?_ ?_;intro k e G N M;obtain⟨h3,h4⟩:=bg k e G N M;refine⟨h3,λb H i hi=> ?_⟩;obtain⟨h5,h6⟩:=a0 i hi;rw[DP h6];exact h4 b H i h5
 
 intro q e G N M;rcases bx q e G N M with⟨A,_,g2,F⟩|⟨rfl,X,sh,g⟩;have:=R1.mem.ah A e G g2 F;exact⟨this.1,λb H i hi=>this.2 b H i (f.mono i hi)⟩;have hn:∀b,¬et ty (.sl X) (.mk (.slice Z 0 0) []) b:=λb H=>by
  cases H with
  |deep e v b4 i j al c z k b g1=>simp at g1
 rcases g with rfl|rfl|rfl;exact⟨DN Z 0,λb H=>(hn b H).elim⟩;refine⟨bJ.own X _ (DN Z 0) (λl c h=>by cases h;rfl),λb H=> ?_⟩;cases H with
 |own e G b H=>exact(hn b H).elim
 exact⟨bJ.mr sh [] (λi al h=>by simp at h) (λi j al c k h=>by simp at h) (λi j al c h=>by simp at h) (λi j al c z k h=>by simp at h),λb H=>by cases H⟩;intro k e G N M;obtain⟨e1,g1,g2,F⟩:=bt k e G N M;have:=R1.mem.ah k e1 G g1 g2;rcases F with rfl|rfl;exact⟨bJ.am _ (KS this.1),λb H=>by cases H⟩;exact⟨this.1,λb H i hi=>this.2 b H i (f.mono i hi)⟩;simp[rG,Uj];have:=f.len;rw[R1.gV];omega;have N:=R1.dp;rw[b6,f.ext.agree.y,<-Le o O] at N;simp only[rG];rw[abq];exact N;simp only[rG,alz];rw[R1.size,(abu hT).1];intro X sv h;simp only[rG] at h;rw[alx,jf] at h;cases hx:s.tmps[X]? with
 |none=>rw[hx] at h;cases h
 |some Q=>
  rw[hx] at h;simp only[eh,cX] at h;obtain⟨cy,bf⟩:=abu hT;obtain⟨y,hy⟩:∃y,R.tmps[X]?=U y:=by
   have:X<Y s.tmps:=(cu.1 hx).1;exact⟨R.tmps[X],cP aa⟩
  cases hp:wu X P.tm ((({s with ax:=s.ax+1,rs:=jF P s}:S).cT P.ks).1) with
  |some v=>
   rw[hp] at h;simp only[oI] at h;subst h;obtain⟨q,k,hq,hv⟩:=als hp;have hc:=(ch q k v y (alB hq) (alC hq hy) hv);rcases R1.tmps X y hy with N|N;subst N;have:=a9 q k .any (alB hq) (alC hq hy);rcases k with _|_|(_|_|_|_|_)<;>simp[Du] at this;right;rw[hc.1];exact N
  |none=>
   rw[hp] at h;simp only[aje] at h;split at h;exact .inl h.symm;rename_i cA;subst h;have hn:=alu (by rw[br,bs];omega) hp;rcases bf X Q y hx hy with N|N|N;rw[jf] at N;rw[hn] at N;cases N;rw[jf] at N;exact aZ N cA;subst N;rcases R1.tmps X Q hy with M|M;exact .inl M;right;rw[cc Q (wz b7 hx)];exact M
 intro k e G b N M h3;simp only[rG] at N;have bg:∃A:Nat,R.rs[A]?=U (RK.own e)/\x.r[A]?=U G/\∀(B:Nat)(L:RK)(u:RV),B≠k->(rG P t s).rs[B]?=U L->(O.ext o).r[B]?=U u->zW ty L u b->∃af:Nat,af≠A/\R.rs[af]?=U L/\x.r[af]?=U u:=by
  have other:∀(B:Nat)(L:RK)(u:RV),(rG P t s).rs[B]?=U L->(O.ext o).r[B]?=U u->zW ty L u b->
    ((jF P s)[B]?=U L/\R.rs[B]?=U L/\x.r[B]?=U u)\/∃q af:Nat,P.ks[q]?=U (.ah L)/\(kX P R)[q]?=U (.ah (.v af))/\R.rs[af]?=U L/\x.r[af]?=U u/\B=(jF P s).length+FE (P.ks.take q):=by
   intro B L u g1 g2 F;rcases Lf P.ks o {s with ax:=s.ax+1,rs:=jF P s} O aA aC B L u g1 g2 with⟨p1,p2⟩|⟨q,p1,p2,p3⟩;obtain⟨e1,q1,q2,q3⟩:=bt B L u p1 p2;rcases q3 with rfl|rfl;rcases F with F|⟨⟨X,ht⟩,_⟩;cases F;cases ht;exact .inl ⟨p1,q1,q2⟩;rcases bx q L u p1 p2 with⟨A,q1,q2,q3⟩|⟨rfl,X,sh,q⟩;exact .inr ⟨q,A,p1,q1,q2,q3,p3⟩;exfalso;rcases F with F|⟨_,F⟩;rcases q with rfl|rfl|rfl;cases F with
   |deep e v b4 i j al c z k b g1=>simp at g1
   cases F with
   |own e G b F=>cases F with
    |deep e v b4 i j al c z k b g1=>simp at g1
   cases F;simp[RV.lH] at F
  rcases other k (.own e) G N M (.inr ⟨⟨e,rfl⟩,h3⟩) with⟨p1,p2,p3⟩|⟨q,A,p1,p2,p3,p4,p5⟩;refine⟨k,p2,p3,λB L u g0 g1 g2 F=> ?_⟩;rcases other B L u g1 g2 F with⟨r1,r2,r3⟩|⟨q',af,r1,r2,r3,r4,r5⟩;exact⟨B,g0,r2,r3⟩;refine⟨af,λa4=> ?_,r3,r4⟩;subst a4;rw[p2] at r3;cases r3;have:=b1 q' e af r1 r2 _ p1;cases this;refine⟨A,p3,p4,λB L u g0 g1 g2 F=> ?_⟩;rcases other B L u g1 g2 F with⟨r1,r2,r3⟩|⟨q',af,r1,r2,r3,r4,r5⟩;refine⟨B,λa4=> ?_,r2,r3⟩;subst a4;rw[p3] at r2;cases r2;have:=b1 q e B p1 p2 _ r1;cases this;refine⟨af,λa4=> ?_,r3,r4⟩;subst a4;rw[p3] at r3;cases r3;by_cases b5:q=q';subst b5;exact g0 (by rw[r5,p5]);exact alE cv p1 p2 r1 r2 b5 rfl
 obtain⟨A,g1,g2,F⟩:=bg;have X:=R1.gD A e G b g1 g2 h3;refine⟨X.own,X.mem,λi hi=> ?_,λB L u q1 q2 q3 q4=> ?_,X.inner⟩;obtain⟨h5,h6⟩:=a0 i hi;rw[DP h6];exact X.box i (f.mono i h5);obtain⟨af,r1,r2,r3⟩:=F B L u q1 q2 q3 q4;exact X.alone af L u r1 r2 r3 q4
end
structure jS(p:Sp)(f:bF):Prop where
 pt:p.ty=f.ty
 mix:p.P.follows .mixedOrders=J
 ll:jq p.P f.ty
 zM:Ld p.P f
 Ai:∀g,(f.sig g).isSome=J\/(f.inl g).isSome=J->∀args W,(callFunc g args).run p.P W=.ok (.enter g args) W
 Um:∀ch W b o,p.w0.heap.size<=b->p.R (.panicked ch) W->p.R (.panicked ch) (W.putObj b o)
 inl:∀g c nt rs,f.inl g=U (c,nt,rs)->∃fn,p.P.funcs[g]?=U fn/\fn.body=U c/\fn.ntmps=nt/\fn.results.toList=rs
section
variable{p:Sp}{f:bF}
def az.alF{m:World}{D:cq}{V:aq}{a:Act}{W:World}(Q:az t m D f.ty V x R a W){P:BE}(M:R.tmps.getD X .any=.bool P)(H:P.ab x=b):
  az t m D f.ty V x {R with tmps:=R.tmps.set X (.bool (.c b))} a W:=by
 refine⟨Q.mem,Q.gV,Q.ei,Q.eb,Q.er,Q.dp,by simpa using Q.size,λi G h=> ?_,Q.gD⟩;simp only[wc] at h;split at h;rename_i F;subst F;split at h;rename_i L;cases h;have B:R.tmps[X]?=U (.bool P):=by
  rw[cw,cP L] at M;rw[cP L];simpa using M
 rcases Q.tmps X _ B with N|N;cases N;right;rw[N];simp[C.ab,BE.ab,H];cases h;exact Q.tmps i G h
end
mutual
def K.eP{R Q P N M H:Nat}(X:R<=N)(W:Q<=M)(V:P<=H):∀(e:K),e.bd R Q P=J->e.bd N M H=J
 |.c n,_=>K.bo.1 _
 |.v k,h=>by simp[K.bo] at h⊢;omega
 |.bin o k a b,h=>by simp[K.bo] at h⊢;exact⟨K.eP X W V a h.1,K.eP X W V b h.2⟩
 |.conv k a,h=>by simp[K.bo] at h⊢;exact K.eP X W V a h
 |.len r,h=>by simp[K.bo] at h⊢;exact RE.eP X W V r h
 |.mm m a b,h=>by simp[K.bo] at h⊢;exact⟨K.eP X W V a h.1,K.eP X W V b h.2⟩
 |.eB b x y,h=>by simp[K.bo] at h⊢;exact⟨⟨BE.eP X W V b h.1.1,K.eP X W V x h.1.2⟩,K.eP X W V y h.2⟩
 |.cell r i j,h=>by simp[K.bo] at h⊢;exact⟨RE.eP X W V r h.1,K.eP X W V i h.2⟩
 |.oe r i,h=>by simp[K.bo] at h⊢;exact⟨RE.eP X W V r h.1,K.eP X W V i h.2⟩
 |.look r n a b c j,h=>by simp[K.bo] at h⊢;exact⟨⟨⟨RE.eP X W V r h.1.1.1,K.eP X W V a h.1.1.2⟩,K.eP X W V b h.1.2⟩,K.eP X W V c h.2⟩
def BE.eP{R Q P N M H:Nat}(X:R<=N)(W:Q<=M)(V:P<=H):∀(e:BE),e.bd R Q P=J->e.bd N M H=J
 |.c n,_=>BE.bo.1 _
 |.v k,h=>by simp[BE.bo] at h⊢;omega
 |.cmp o a b,h=>by simp[BE.bo] at h⊢;exact⟨K.eP X W V a h.1,K.eP X W V b h.2⟩
 |.not a,h=>by simp[BE.bo] at h⊢;exact BE.eP X W V a h
 |.and a b,h=>by simp[BE.bo] at h⊢;exact⟨BE.eP X W V a h.1,BE.eP X W V b h.2⟩
 |.beq a b,h=>by simp[BE.bo] at h⊢;exact⟨BE.eP X W V a h.1,BE.eP X W V b h.2⟩
 |.eB b x y,h=>by simp[BE.bo] at h⊢;exact⟨⟨BE.eP X W V b h.1.1,BE.eP X W V x h.1.2⟩,BE.eP X W V y h.2⟩
 |.cell r i j,h=>by simp[BE.bo] at h⊢;exact⟨RE.eP X W V r h.1,K.eP X W V i h.2⟩
 |.seq a b,h=>by simp[BE.bo] at h⊢;exact⟨RE.eP X W V a h.1,RE.eP X W V b h.2⟩
 |.look r n a b c j,h=>by simp[BE.bo] at h⊢;exact⟨⟨⟨RE.eP X W V r h.1.1.1,K.eP X W V a h.1.1.2⟩,K.eP X W V b h.1.2⟩,K.eP X W V c h.2⟩
 |.has r n a b c,h=>by simp[BE.bo] at h⊢;exact⟨⟨⟨RE.eP X W V r h.1.1.1,K.eP X W V a h.1.1.2⟩,K.eP X W V b h.1.2⟩,K.eP X W V c h.2⟩
def RE.eP{X W V R Q P:Nat}(N:X<=R)(M:W<=Q)(H:V<=P):∀(e:RE),e.bd X W V=J->e.bd R Q P=J
 |.v k,h=>by simp[RE.bo] at h⊢;omega
 |.cell r i j k,h=>by simp[RE.bo] at h⊢;exact⟨RE.eP N M H r h.1,K.eP N M H i h.2⟩
 |.k v,_=>RE.bo.2.2 _
end
def Un{ty:Ty}{s Q:S}:∀{r:RE}{e:RK},(∀(k:Nat)(e:RK),r.root=U k->s.rs[k]?=U e->∃X,Q.rs[k]?=U X/\X.rd=e.rd)->e≠ .ae->r.kind ty s=e->r.kind ty Q=e
 |.v k,e,W,V,h=>by
  simp only[RE.kind,cw] at h⊢;cases R:s.rs[k]? with
  |none=>rw[R] at h;exact aZ (show e=.ae from h.symm) V
  |some q=>
   rw[R] at h;obtain⟨X,P,N⟩:=W k q rfl R;rw[P];simp only[oI] at h⊢;rw[N];exact h
 |.cell r i j H,e,W,V,h=>by
  simp only[RE.kind] at h⊢;split at h;rename_i X M;rw[Un (r:=r) W av M];exact h;exact aZ h.symm V
 |.k v,e,W,V,h=>by cases v<;>exact h
def DQ{ty:Ty}{s s':S}(h:s.rs=s'.rs):∀r:RE,r.kind ty s=r.kind ty s'
 |.v k=>by simp only[RE.kind,h]
 |.cell r i j k=>by simp only[RE.kind,DQ h r]
 |.k v=>by cases v<;>rfl
def BW(ty:Ty)(s X:S):Prop:=∀(r:RE)(e:RK),e≠ .ae->r.kind ty s=e->r.kind ty X=e
def BW.Aj{ty:Ty}{X:S}(h:X.rs=R.rs):BW ty R X:=λr e _ W=>by rw[DQ h];exact W
def axt{ty:Ty}{X:S}(W:BW ty R X){c:CT}{y:C}{e:BE}(h:Kf ty R c r y=U e):Kf ty X c r y=U e:=by
 unfold Kf at h⊢;split at h;exact h;exact h;split at h;rename_i V;rw[aL ⟨W _ _ av V.1,W _ _ av V.2⟩];exact h;cases h;cases h
def alG{ty:Ty}{s W:S}(V:BW ty s W):∀{X:fu}{x y:ap}{e:BE},sD ty s X x y=U e->sD ty W X x y=U e
 |[],[],[],e,h=>h
 |c::X,x::P,y::N,e,h=>by
  simp only[sD] at h⊢;split at h;rename_i a b R Q;rw[axt V R,alG V Q];exact h;cases h
 |[],[],_::_,e,h=>by simp[sD] at h
 |[],_::_,_,e,h=>by simp[sD] at h
 |_::_,[],_,e,h=>by simp[sD] at h
 |_::_,_::_,[],e,h=>by simp[sD] at h
def alH{ty:Ty}{W:S}(Q:BW ty R W){V:Fa}{y:ap}{X:BE}(h:Kg ty R V e y=U X):Kg ty W V e y=U X:=by
 unfold Kg at h⊢;split at h;exact alG Q h;cases h
section
variable{ty:Ty}{F:nG}{O:ai}
def Uo{P:S}{G:Op}{r:PR}(W:∀x∈G.operands.toList,P.ev F x=R.ev F x)(N:looks G=J->BG G=E->BW ty R P)
  (al:∀t x r w i z,G=.load t x->R.ev F x=.el r w i z->∀e,e≠ .ae->r.kind ty R=e->r.kind ty P=e)
  (o:∀i,Bt F R G=U i->cz P.ao i=cz R.ao i)(h:cH ty F R G=r)(V:∀w,r≠ .no w):cH ty F P G=r:=by
 cases G with
 |move x=>have X:=W x cN;simp only[cH] at h⊢;rw[X];exact h
 |assign x=>have X:=W x cN;simp only[cH] at h⊢;rw[X];exact h
 |pick c x y=>
  have X:=W c cN;have M:=W x cN;have l:=W y cN;simp only[cH] at h⊢;rw[X,M,l];exact h
 |load t x=>
  have X:=W x cN;simp only[cH] at h⊢;rw[X];split at h;rename_i ti i z D H;rw[O4 (o i (by simp only[Bt,H]))];exact h;rename_i ti r w i z D H;split at h;rename_i e Q;rw[al t x r w i z rfl H _ av Q];exact h;exact aZ h.symm (V _);rename_i ti e ks j D H;have B:((zL j).bind λi=>mz P.ao i)=(zL j).bind λi=>mz R.ao i:=by
   cases hl:zL j with
   |none=>rfl
   |some i=>exact O4 (o i (by simp only[Bt,H];exact hl))
  rw[B];exact h;exact aZ h.symm (V _)
 |fieldAddr t x f=>have X:=W x cN;simp only[cH] at h⊢;rw[X];exact h
 |field t x f=>have X:=W x cN;simp only[cH] at h⊢;rw[X];exact h
 |indexAddr t x y=>
  have X:=W x cN;have M:=W y cN;simp only[cH] at h⊢;rw[X,M];split at h;exact h;exact h;exact h;split at h;rename_i D Q;rw[(N rfl rfl) _ _ av Q,D];exact h;exact aZ h.symm (V _);exact h;exact h;exact aZ h.symm (V _)
 |index t x y=>
  have X:=W x cN;have M:=W y cN;simp only[cH] at h⊢;rw[X,M];split at h;exact h;exact h;split at h;rename_i Q;rw[(N rfl rfl) _ _ av Q];exact h;exact aZ h.symm (V _);exact aZ h.symm (V _)
 |binOp G t x y t2=>
  have X:=W x cN;have M:=W y cN;simp only[cH] at h⊢;rw[X,M];split at h;exact h;exact h;exact h;split at h;rename_i v A;simp only[(N rfl rfl) _ _ av v,(N rfl rfl) _ _ av A];exact h;rename_i v A;simp only[(N rfl rfl) _ _ av v,(N rfl rfl) _ _ av A];exact h;exact aZ h.symm (V _);exact h;exact h;split at h;rename_i e Q;rw[alH (N rfl rfl) Q];exact h;rename_i e Q;rw[alH (N rfl rfl) Q];exact h;exact aZ h.symm (V _);exact aZ h.symm (V _)
 |unOp G t x=>have X:=W x cN;simp only[cH] at h⊢;rw[X];exact h
 |convert t1 t2 x=>have X:=W x cN;simp only[cH] at h⊢;rw[X];exact h
 |makeInterface t x=>have X:=W x cN;simp only[cH] at h⊢;rw[X];exact h
 |makeFunc fn first af=>
  have X:af.toList.map (P.ev F)=af.toList.map (R.ev F):=jA λx H=>W x (by simp[iN];exact .inr (by simpa using H))
  simp only[cH] at h⊢;rw[X];exact h
 |extract x i=>have X:=W x cN;simp only[cH] at h⊢;rw[X];exact h
 |nilCheck x=>have X:=W x cN;simp only[cH] at h⊢;rw[X];exact h
 |slice t x g hi mx=>
  have X:=W x cN;have M:g.map (P.ev F)=g.map (R.ev F):=by
   cases g with
   |none=>rfl
   |some y=>simp only[eh];rw[W y cN]
  have l:hi.map (P.ev F)=hi.map (R.ev F):=by
   cases hi with
   |none=>rfl
   |some y=>simp only[eh];rw[W y cN]
  simp only[cH] at h⊢;rw[X,M,l];exact h
 |build t parts=>
  have X:(parts.toList.map λp=>(p.1,P.ev F p.2))=parts.toList.map λp=>(p.1,R.ev F p.2):=jA λp hp=>by rw[W p.2 (by simp[iN];exact⟨p.1,by simpa using hp⟩)]
  simp only[cH] at h⊢;rw[X];exact h
 |lookup t x ix ok=>
  have X:=W x cN;have M:=W ix cN;simp only[cH] at h⊢;rw[X,M];split at h;rename_i k e n ag aj q i D H;have A:=o i (by simp only[Bt,H]);unfold S8 at h⊢;rw[A];split at h;rename_i te a b c bt cs g1 g2 g3;split at h;exact aZ h.symm (V _);rename_i an;rw[aT an];split at h;rename_i hd;rw[aL hd];split at h;rename_i r nk ka va;split at h;rename_i u;have:r.o8 ty P ⟨k,e,n,ag,te.d.isAgg⟩=true:=by
   simp only[aw] at u;have h6:=u.1.1.1.1.1;unfold RE.o8 at h6⊢;rcases avu.1 h6 with h7|h7;rw[decide_eq_true ((N rfl rfl) r _ av (tP h7))];rfl;rw[h7];simp
  simp only[aw] at u;simp only[this,u,we,cS];exact h;exact aZ h.symm (V _);exact aZ h.symm (V _);rename_i hd;rw[aT hd];exact h;exact aZ h.symm (V _);exact aZ h.symm (V _)
 |call c=>
  have X:c.args.toList.map (P.ev F)=c.args.toList.map (R.ev F):=jA λx H=>W x (by simp[iN,Bo];exact .inr (by simpa using H))
  cases B:c.callee with
  |builtin b=>
   cases b with
   |len=>
    simp only[cH,B] at h⊢;rw[X];split at h;exact h;rename_i t r aA v A;split at h;rename_i D Q;simp only[(N rfl rfl) _ _ av Q,D];exact h;rename_i D Q;simp only[(N rfl rfl) _ _ av Q,D];exact h;exact aZ h.symm (V _);exact h;exact aZ h.symm (V _)
   |min=>simp only[cH,B] at h⊢;rw[X];exact h
   |max=>simp only[cH,B] at h⊢;rw[X];exact h
   |_=>simp only[cH,B] at h;exact aZ h.symm (V _)
  |value f=>simp only[cH,B] at h;exact aZ h.symm (V _)
  |invoke r m=>simp only[cH,B] at h;exact aZ h.symm (V _)
 |_=>simp only[cH] at h;exact aZ h.symm (V _)
end
def PR.Ak(s:S)(O:ai)(v:C):PR->Prop
 |.ok x=>v=x
 |.bi b x=>b.ab O=J/\b.bd s.ni s.nb (Y s.rs)=J/\v=x
 |_=>False
def Uq{X:PR}(h:X.Ak R x r):X.gives x r:=by
 cases X with
 |ok W=>exact h
 |bi b W=>exact⟨h.1,h.2.2⟩
 |no w=>exact h
def iA(B:dQ)(m:OM)(s:S)(O:ai):Option Bool:=match m.o.guard with
 |none=>U J
 |U (j,X)=>match(B[j]?).bind (·.dst) with
  |U d=>match s.tmps[d]? with
   |U (.bool b)=>if b.bd s.ni s.nb (Y s.rs) then U (b.ab O==X) else Z
   |U (.bO [])=>U E
   |_=>Z
  |none=>Z
def QV(u:bF)(B:dQ)(O:ai)(m:OM)(s:S)(v:C)(l:Nat):Prop:=
 (iA B m s O=U E/\v=.bO []/\l=0)\/
 (iA B m s O=U J/\(∀x∈m.o.op.operands.toList,(s.ev u.gl x).eX=E)/\match m.o.op with
  |.pick c x y=>∃e:BE,s.ev u.gl c=.bool e/\e.bd s.ni s.nb (Y s.rs)=J/\v=(if e.ab O then s.ev u.gl x else s.ev u.gl y)/\l=0
  |.load t x=>(cH u.ty u.gl s (.load t x)).Ak s O v/\l=OA m.bP (s.ev u.gl x)
  |op=>(cH u.ty u.gl s op).Ak s O v/\l=0)
def OR.In(s:S)(O:ai)(X:S):OR->Prop
 |.ok x=>X=x
 |.bi b x=>b.ab O=J/\b.bd s.ni s.nb (Y s.rs)=J/\X=x
 |.split b W V=>b.bd s.ni s.nb (Y s.rs)=J/\X=if b.ab O then W else V
 |.no _=>False
def jc(u:bF)(m:OM)(s:S)(O:ai)(X:S):Prop:=(gR u m s).In s O X
def Lh{u:bF}{m:OM}{s X:S}{O:ai}(h:jc u m s O X):(gR u m s).gives O X:=by
 unfold jc at h;cases W:gR u m s<;>rw[W] at h;exact h;exact⟨h.1,h.2.2⟩;exact h.2;exact h
def alI{Q:S}{d:cQ}{r:PR}:(tV R d X r).In R x Q<->∃v,r.Ak R x v/\Q=R.dL d v X:=by
 cases r with
 |ok v=>exact⟨λh=>⟨v,rfl,h⟩,λ⟨w,W,V⟩=>by cases W;exact V⟩
 |bi b v=>
  simp only[tV];split;rename_i P;exact⟨λh=>⟨v,⟨h.1,h.2.1,rfl⟩,h.2.2⟩,λ⟨w,⟨W,V,N⟩,M⟩=>⟨W,V,by rw[M,N]⟩⟩;rename_i P;exact⟨λh=>h.elim,λ⟨w,⟨W,V,N⟩,M⟩=>aZ V P⟩
 |no w=>exact⟨λh=>h.elim,λ⟨w,W,V⟩=>W.elim⟩
def Li(p:Sp)(u:bF)(s:S)(O:ai)(g:FuncId)(N:ap)(X:ai->C->S->Prop):Prop:=
 ∃G Q l,u.sig g=U G/\iO u.ty G=U Q/\Bw u.ty G ((s.cut N Q).cT Q).1=U l/\(s.fp N&&qJ Q)=J/\
  ∀V W,j7 p.S0 p.w0 V O (wq (sF (C.pR N) 0 s.ao)) p.ty (OI N s.rs) W->Calls p.P g (C.aG O V N).toArray W λ
   |.returned v,M=>∃H,eY Q H/\v=(one l).ab (O.ext H) V/\Below W.heap.size W M/\KM p.ty M W.heap.size (O.qM p.ty (OI N s.rs)) Q H/\X (O.ext H) (one l) ((s.cut N Q).cT Q).2
   |.panicked F,M=>Below W.heap.size W M/\p.R (.panicked F) M
   |.outgrown,_=>False
def uf(o:Option BI)(f:BI->Prop)(g:Prop):Prop:=match o with
 |U b=>f b
 |none=>g
def qP(o:Option (C×bG))(f:C->bG->Prop)(g:Prop):Prop:=match o with
 |U (v,X)=>f v X
 |none=>g
def eZ(p:Sp)(u:bF)(B:dQ)(A:yg)(X:ai->S->Prop)(W:ai->C->S->Prop)(V:OM->cZ->ai->S->Nat->ap->Prop):cZ->ai->S->Prop
 |[],O,s=>X O s
 |m::R,O,s=>
  (iA B m s O=U E/\eZ p u B A X W V R O (s.put m.o.dst (.bO [])))\/
  (iA B m s O=U J/\match eH u s m.o with
   |.call (.fn g) Q=>qP (A g Q s) (λv M=>s.bd=J/\eZ p u B A X W V R O ((s.plus M).put m.o.dst v)) (Li p u s O g Q λH v P=>eZ p u B A X W V R H (P.put m.o.dst v))
   |.call (.yl n) Q=>m.so=J/\V m R O s n Q
   |.bI v=>W O v s
   |.no=>False
   |.op=>uf (fj u m.o m.bP m.dr s) (λb=>b.bi.ab O=J/\∀N,Ia p.ty p.S0 p.w0 b.e b.x s.rs O N->eZ p u B A X W V R (O.add (.r N)) b.s) (∃P,jc u m s O P/\eZ p u B A X W V R O P))
def BX(s:S)(O:ai)(X:Fx):Prop:=∀x∈X,x.1.ab O=x.2/\x.1.bd s.ni s.nb (Y s.rs)=J
def abx{p:Sp}{L:dG}{V:Fx}{b:BE}{t f:Fx->T}(P:BX R x V)(h:(Dr R V b t f).aS p x L):
  b.bd R.ni R.nb (Y R.rs)=J/\∃M,BX R x M/\(if b.ab x then(t M).aS p x L else(f M).aS p x L):=by
 have G:u6 x V:=λX N=>(P X N).1
 have F:∀v,OC V b=U v->b.bd R.ni R.nb (Y R.rs)=true:=by
  intro v W;unfold OC at W;split at W;exact BE.bo.1 _;cases H:V.find? (λX=>X.1.aR b) with
  |none=>rw[H] at W;cases W
  |some X=>
   have A:=SU H;rw[<-BE.bU _ _ A];exact(P X (SK H)).2
 unfold Dr at h;split at h;rename_i W;exact⟨F _ W,V,P,by rw[T5 G W];exact h⟩;rename_i W;exact⟨F _ W,V,P,by rw[T5 G W];exact h⟩;split at h;rename_i D;simp only[T.aS] at h;refine⟨D, ?_⟩;have B:∀v,b.ab x=v->BX R x ((b,v)::V):=λv Q X N=>by
  rcases dV.1 N with rfl|N;exact⟨Q,D⟩;exact P X N
 cases Q:b.ab x;exact⟨_,B _ Q,by simpa using h.2 Q⟩;exact⟨_,B _ Q,by simpa using h.1 Q⟩;exact h.elim
section
variable{p:Sp}{u:bF}{B:dQ}{A:yg}{L:dG}{G:YH}{k:S->T}{D:C->S->T}
def gr(s:S)(d:cQ)(v:C):(s.put d v).ni=s.ni/\(s.put d v).nb=s.nb/\(s.put d v).rs=s.rs:=by cases d<;>exact⟨rfl,rfl,rfl⟩
def alJ{m:OM}{s X:S}{O:ai}(h:(gR u m s).gives O X):X.ni=s.ni/\X.nb=s.nb/\X.rs=s.rs:=by
 unfold gR at h;split at h;exact h.elim;split at h;split at h;split at h;cases h;exact gr _ _ _;exact h.elim;exact h.elim;split at h;split at h;cases h;exact gr _ _ _;exact h.elim;exact h.elim;split at h;split at h;split at h;split at h;cases h;exact gr _ _ _;exact h.elim;exact h.elim;exact h.elim;exact h.elim;split at h;split at h;split at h;cases h;exact gr _ _ _;exact h.elim;exact h.elim;exact h.elim;split at h;simp only[OR.gives] at h;split at h<;>(subst h;exact gr _ _ _);exact h.elim;obtain⟨v,-,rfl⟩:=BS h;exact gr _ _ _;obtain⟨v,-,rfl⟩:=BS h;exact gr _ _ _
def Pw{d:cQ}{bi:BE}{k:RK}{x:LE}{dv:aq}{b:BI}(h:kH R d bi v k x t dv=U b):b.s.ni=R.ni/\b.s.nb=R.nb/\Y b.s.rs=Y R.rs+1:=by
 obtain⟨-,-,rfl⟩:=Ad h;refine⟨(gr _ _ _).1,(gr _ _ _).2.1, ?_⟩;simp only;rw[(gr _ _ _).2.2];simp[BQ,BP]
def alK{V:Bool}{X:BI}(h:fj u l b V R=U X):X.s.ni=R.ni/\X.s.nb=R.nb/\Y X.s.rs=Y R.rs+1:=by
 unfold fj at h;split at h;split at h;split at h;split at h;split at h;split at h;cases h;split at h;exact Pw h;cases h;cases h;cases h;cases h;cases h;split at h;split at h;split at h;exact Pw h;cases h;cases h;cases h;split at h;cases h;split at h;split at h;split at h;split at h;exact Pw h;cases h;cases h;cases h;cases h;split at h;cases h
 ·split at h
  all_goals first
   |cases h
   |(split at h
     split at h;exact Pw h;cases h;cases h)
 split at h;cases h;split at h;split at h;split at h;split at h;cases W:kH R Z (wn _ (.len (.v _))) _ (.own _) _ [_] _ with
 |none=>rw[W] at h;cases h
 |some M=>
  rw[W] at h;simp only[eh,cX] at h;subst h;obtain⟨Q,P,N⟩:=Pw W;refine⟨?_, ?_, ?_⟩;simp only;rw[(gr _ _ _).1];exact Q;simp only;rw[(gr _ _ _).2.1];exact P;simp only;rw[(gr _ _ _).2.2];exact N
 cases h;cases h;cases h;cases h;cases h
def alL{W:S}{d:cQ}{r:PR}{b:BE}(h:tV R d X r=.bi b W):b.bd R.ni R.nb (Y R.rs)=true:=by
 cases r with
 |ok v=>cases h
 |bi Q v=>
  simp only[tV] at h;split at h;rename_i V;cases h;exact V;cases h
 |no w=>cases h
def axu{m:OM}{s X:S}{b:BE}(h:gR u m s=.bi b X):b.bd s.ni s.nb (Y s.rs)=true:=by
 unfold gR at h;split at h;cases h;split at h
 ·(repeat' split at h)<;>cases h
 ·(repeat' split at h)<;>cases h
 ·(repeat' split at h)<;>cases h
 ·(repeat' split at h)<;>cases h
 ·(repeat' split at h)<;>cases h
 exact alL h;exact alL h
structure FG(B:dQ)(A:yg):Prop where
 q:∀(g:FuncId)(args:ap)(s:S)(d:cQ)(v:C)(l:Nat),A g args (s.dL d v l)=A g args s
 z:∀(g:FuncId)(s:S)(n:Nat)(t:TypeId)(cs:ap)(d:cQ)(w:C),gH s.ao n=J->A g [] ((s.dw n t cs).put d w)=A g [] s
 reg:∀(g:FuncId)(args:ap)(s:S)(r:C×bG),A g args s=U r->To B=J
def alM{W:bG}(h:aP R.ao X=J):cz (R.plus W).ao X=cz R.ao X:=by
 obtain⟨b,V⟩:=lF.1 h;have Q:=(cu.1 (kw.1 V)).1;simp only[cY,S.plus,dN Q]
def alN{W:bG}(h:gH R.ao X=J):gH (R.plus W).ao X=true:=by
 have V:=(nP h).2;simp only[gH,S.plus,dN V] at h⊢;exact h
def abz{g:HN}(h:eH u R l=.call g e):zT l.op=true:=by
 unfold eH at h;split at h;split at h<;>cases h
 ·rename_i c W;rw[W];cases X:c.callee with
  |value f=>simp[zT,X]
  |invoke r m=>rw[X] at h;cases h
  |builtin b=>
   rw[X] at h;exfalso;revert h;cases b<;>simp only
   all_goals first
    |(intro h;cases h;done)
    |(split<;>intro h<;>first|(cases h;done)|(split at h<;>cases h))
 cases h
def alO{g:FuncId}(X:Kt l.op=J)(h:eH u R l=.call (.fn g) e):e=[]:=by
 unfold Kt at X;split at X;rename_i c W;split at X;rename_i f V;have Q:c.args.toList=[]:=by simpa using X
 simp only[eH,W,V,S.ev,xY,Q,List.any_nil,jB,gw,pP,eK,CK.call.injEq,HN.fn.injEq] at h;exact h.2.symm;cases X;cases X
def FH(p:Sp)(k:S->T)(L:dG)(O:ai)(s:S):Prop:=(k s).aS p O L
def DR(p:Sp)(D:C->S->T)(L:dG)(O:ai)(v:C)(s:S):Prop:=(D v s).aS p O L
def DS(p:Sp)(u:bF)(B:dQ)(A:yg)(G:YH)(k:S->T)(D:C->S->T)(L:dG)(m:OM)(X:cZ)(O:ai)(s:S)(n:Nat)(V:ap):Prop:=
 (∀R∈X,R.dr=J)/\∃W,BX s O W/\(zU u A G (.yl n) V s (λv Q=>oM u (zU u A G) B k D X (Q.put m.o.dst v) (pU s W)) D).aS p O L
def Io(a1:p.ty=u.ty):∀(l:cZ)(s:S)(fx:Fx)(O:ai),Y O.i=s.ni->Y O.b=s.nb->Y O.r=Y s.rs->(oM u (zU u A G) B k D l s fx).aS p O L->BX s O fx->
  (∀m∈l,m.dr=J)->eZ p u B A (FH p k L) (DR p D L) (DS p u B A G k D L) l O s
 |[],s,fx,O,_,_,_,h,_,_=>h
 |m::Q,s,fx,O,e1,e2,e3,h,a4,br=>by
  have ba:m.dr=true:=br m av;have aC:∀m∈Q,m.dr=true:=λm' bx=>br m' (by simp[bx])
  have b0:BA u m s=none:=by simp[BA,ba]
  have b1:Ds u m s=none:=by simp[Ds,ba]
  have b2:∀c f,Bz u m s c f=none:=λc f=>by simp[Bz,ba]
  have bb:∀(s:S)(d:cQ)(v:C),(s.put d v).ni=s.ni/\(s.put d v).nb=s.nb/\(s.put d v).rs=s.rs:=λs d v=>by cases d<;>exact⟨rfl,rfl,rfl⟩
  have bs:∀(X:S)(P:Fx),X.ni=s.ni->X.nb=s.nb->X.rs=s.rs->BX s O P->BX X O P:=λX P h1 M h3 hf x hx=>by rw[h1,M,h3];exact hf x hx
  have bc:∀P,BX s O P->(BC u (zU u A G) m s (oM u (zU u A G) B k D Q) D P).aS p O L->
    (match eH u s m.o with
     |.call (.fn g) t=>qP (A g t s) (λv ex=>s.bd=J/\eZ p u B A (FH p k L) (DR p D L) (DS p u B A G k D L) Q O ((s.plus ex).put m.o.dst v)) (Li p u s O g t λO' v X=>eZ p u B A (FH p k L) (DR p D L) (DS p u B A G k D L) Q O' (X.put m.o.dst v))
     |.call (.yl n) t=>m.so=J/\DS p u B A G k D L m Q O s n t
     |.bI v=>DR p D L O v s
     |.no=>False
     |.op=>uf (fj u m.o m.bP m.dr s) (λb=>b.bi.ab O=J/\∀rv,Ia p.ty p.S0 p.w0 b.e b.x s.rs O rv->eZ p u B A (FH p k L) (DR p D L) (DS p u B A G k D L) Q (O.add (.r rv)) b.s)
      (∃X,jc u m s O X/\eZ p u B A (FH p k L) (DR p D L) (DS p u B A G k D L) Q O X):Prop):=by
   intro P an h;unfold BC at h;rw[b0] at h;simp only[b1,b2] at h;cases hc:eH u s m.o with
   |call g0 t=>
    rw[hc] at h;cases g0 with
    |yl n=>
     simp only at h⊢;split at h;rename_i b3;exact⟨b3,aC,P,an,h⟩;exact h.elim
    |fn g=>
    simp only[zU] at h;simp only;cases bt:A g t s with
    |some ve=>
     obtain⟨v,ex⟩:=ve;rw[bt] at h;simp only at h;split at h;rename_i H;refine⟨H, ?_⟩;obtain⟨F,z,w⟩:=bb (s.plus ex) m.o.dst v;refine Io a1 Q _ _ O (by rw[F];exact e1) (by rw[z];exact e2) (by rw[w];exact e3) h (λx hx=> ?_) aC;rw[F,z,w];exact an x (qE.1 hx).1;exact h.elim
    |none=>
    rw[bt] at h;simp only[zR] at h;simp only[qP];split at h;rename_i ts b4;split at h;rename_i ks b5;split at h;rename_i l hl;split at h;rename_i H;refine⟨ts,ks,l,b4,b5,hl,H,λV W R=> ?_⟩;simp only[T.aS] at h;refine(h O.y V W R).mono ?_;intro e W' he;cases e with
    |returned v=>
     obtain⟨xs,h1,M,h3,h4,h5⟩:=he;have hy:(O.ext xs).at O.y=O.ext xs:=by have:=Le xs O;unfold ai.at;rw[<-this]
     rw[hy] at M;refine⟨xs,h1,M,h3,h4, ?_⟩;obtain⟨l1,l2,l3⟩:=Ah ks xs (s.cut t ks) O h1 e1 e2 (e3.trans (FF t ks s.rs).len.symm);have a0:=bb ((s.cut t ks).cT ks).2 m.o.dst (one l);refine Io a1 Q _ _ _ (by rw[a0.1];exact l1) (by rw[a0.2.1];exact l2) (by rw[a0.2.2];exact l3) h5 ?_ aC;intro x hx;obtain⟨bf,b6⟩:=qE.1 hx;obtain⟨j,N⟩:=an x bf;have b7:=Fu xs O;have bg:=TR xs O;refine⟨by rw[BE.eC b7 _ (by rw[e1,e2,e3];exact N)];exact j, ?_⟩;rw[a0.1,a0.2.1,a0.2.2,<-l1,<-l2,<-l3];exact BE.eP (by rw[<-e1];exact bg.1) (by rw[<-e2];exact bg.2.1) (by rw[<-e3];exact bg.2.2) _ N
    |panicked ch=>exact he
    |outgrown=>exact he
    exact h.elim;exact h.elim;exact h.elim;exact h.elim
   |bI v=>rw[hc] at h;exact h
   |no=>rw[hc] at h;exact h
   |op=>
    rw[hc] at h;simp only at h⊢;cases bk:fj u m.o m.bP m.dr s with
    |some b=>
     rw[bk] at h;obtain⟨hn,h⟩:=h;refine⟨hn,λrv b8=> ?_⟩;obtain⟨F,z,w⟩:=alK bk;have ca:(O.add (.r rv)).r.length=Y b.s.rs:=by simp[ai.add,w,e3]
     refine Io a1 Q b.s _ _ (by rw[F];exact e1) (by rw[z];exact e2) ca (h rv b8) ?_ aC;intro x hx;obtain⟨bf,b6⟩:=qE.1 hx;obtain⟨j,N⟩:=an x bf;refine⟨by rw[BE.eC (TE O (.r rv)) _ (by rw[e1,e2,e3];exact N)];exact j, ?_⟩;exact BE.eP aa aa aa _ N
    |none=>
    rw[bk] at h;simp only[uf] at h⊢;have a9:∀X a3,BX s O a3->jc u m s O X->(oM u (zU u A G) B k D Q X a3).aS p O L->∃X,jc u m s O X/\eZ p u B A (FH p k L) (DR p D L) (DS p u B A G k D L) Q O X:=by
     intro X a3 hf hG hs;obtain⟨F,z,w⟩:=alJ (Lh hG);exact⟨X,hG,Io a1 Q X a3 O (by rw[F];exact e1) (by rw[z];exact e2) (by rw[w];exact e3) hs (bs X a3 F z w hf) aC⟩
    split at h;rename_i X aA;exact a9 X P an (by unfold jc;rw[aA];rfl) h;rename_i b X aA;refine a9 X P an ?_ h.2;unfold jc;rw[aA];exact⟨h.1,axu aA,rfl⟩;rename_i b s1 s2 aA;obtain⟨N,af,ag,M⟩:=abx an h;cases hv:b.ab O;exact a9 s2 af ag (by unfold jc;rw[aA];simp[OR.In,hv,N]) (by simpa[hv] using M);exact a9 s1 af ag (by unfold jc;rw[aA];simp[OR.In,hv,N]) (by simpa[hv] using M);exact h.elim
  have bl:∀P,BX s O P->(oM u (zU u A G) B k D Q (s.put m.o.dst (.bO [])) P).aS p O L->eZ p u B A (FH p k L) (DR p D L) (DS p u B A G k D L) Q O (s.put m.o.dst (.bO [])):=by
   intro P hf h;obtain⟨F,z,w⟩:=bb s m.o.dst (.bO []);exact Io a1 Q _ P O (by rw[F];exact e1) (by rw[z];exact e2) (by rw[w];exact e3) h (bs _ P F z w hf) aC
  simp only[oM,Tk] at h;cases al:m.o.guard with
  |none=>
   rw[al] at h;exact .inr ⟨by simp[iA,al],bc fx a4 h⟩
  |some q=>
   obtain⟨jj,cc⟩:=q;rw[al] at h;simp only at h;split at h;rename_i d j;split at h;rename_i b H;cases cc;simp only[jB,gw] at h;obtain⟨N,af,ag,M⟩:=abx a4 h;cases a:b.ab O;exact .inr ⟨by simp[iA,al,j,H,N,a],bc af ag (by simpa[a] using M)⟩;exact .inl ⟨by simp[iA,al,j,H,N,a],bl af ag (by simpa[a] using M)⟩;simp only[cS] at h;obtain⟨N,af,ag,M⟩:=abx a4 h;cases a:b.ab O;exact .inl ⟨by simp[iA,al,j,H,N,a],bl af ag (by simpa[a] using M)⟩;exact .inr ⟨by simp[iA,al,j,H,N,a],bc af ag (by simpa[a] using M)⟩;rename_i H;exact .inl ⟨by simp[iA,al,j,H],bl fx a4 h⟩;exact h.elim;exact h.elim
end
section
variable{p:Sp}{cf:bF}{ops:dQ}{A:yg}
structure lK(cf:bF)(ops:dQ)(o:Oper)(s:S)(O:ai)(s':S)(O':ai):Prop where
 tm:∀t∈j6 ops o,s'.tmps[t]?=s.tmps[t]?
 kd:looks o.op=J->BG o.op=E->BW cf.ty s s'
 kl:∀t x r w i off,o.op=.load t x->s.ev cf.gl x=.el r w i off->∀e,e≠ .ae->r.kind cf.ty s=e->r.kind cf.ty s'=e
 li:s.ni<=s'.ni
 lb:s.nb<=s'.nb
 lr:Y s.rs<=Y s'.rs
 ag:ji O O' s.ni s.nb (Y s.rs)
def lK.Aj{o:Oper}{s X:S}{O:ai}(V:∀t∈j6 ops o,X.tmps[t]?=s.tmps[t]?)(W:X.rs=s.rs)(R:X.ni=s.ni)(Q:X.nb=s.nb):lK cf ops o s O X O:=
 ⟨V,λ_ _=>BW.Aj W,λt x r w i P _ _=>BW.Aj W r,E8 R.symm,E8 Q.symm,E8 (by rw[W]),ji.refl _ _ _ _⟩
def lK.ev{o:Oper}{s X:S}{O V:ai}(h:lK cf ops o s O X V)(W:nG):∀x∈o.op.operands.toList,X.ev W x=s.ev W x:=by
 intro x R;cases x with
 |tmp t=>
  have:t∈j6 ops o:=by
   unfold j6;exact xQ _ (De.2 ⟨.tmp t,R,rfl⟩)
  simp only[S.ev,xY,cw,h.tm t this]
 |const v=>rfl
 |global g=>rfl
 |func f=>rfl
def lK.guard{m:OM}{s W:S}{O Q:ai}(h:lK cf ops m.o s O W Q){b:Bool}(X:iA ops m s O=U b):iA ops m W Q=U b:=by
 unfold iA at X⊢;cases V:m.o.guard with
 |none=>rw[V] at X;exact X
 |some q=>
  obtain⟨j,M⟩:=q;rw[V] at X;simp only at X⊢;cases R:(ops[j]?).bind (·.dst) with
  |none=>rw[R] at X;cases X
  |some d=>
   rw[R] at X;simp only at X⊢;have N:W.tmps[d]?=s.tmps[d]?:=h.tm d (by unfold j6;rw[V];exact Of _ (by simp[R]));rw[N];split at X;rename_i e L;split at X;rename_i P;rw[aL (BE.eP h.li h.lb h.lr _ P),BE.eC h.ag _ P];exact X;cases X;exact X;cases X
def alP{Q:S}{N:ai}(h:lK cf ops l R x Q N)(M:∀i,Bt cf.gl R l.op=U i->cz Q.ao i=cz R.ao i)
  (W:(cH cf.ty cf.gl R l.op).Ak R x r):(cH cf.ty cf.gl Q l.op).Ak Q N r:=by
 have H:cH cf.ty cf.gl Q l.op=cH cf.ty cf.gl R l.op:=by
  cases V:cH cf.ty cf.gl R l.op with
  |ok X=>exact Uo (ty:=cf.ty) (h.ev cf.gl) h.kd h.kl M V (λw P=>by cases P)
  |bi b X=>exact Uo (ty:=cf.ty) (h.ev cf.gl) h.kd h.kl M V (λw P=>by cases P)
  |no w=>rw[V] at W;exact W.elim
 rw[H];cases V:cH cf.ty cf.gl R l.op with
 |ok X=>rw[V] at W;exact W
 |bi b X=>
  rw[V] at W;obtain⟨G,L,F⟩:=W;exact⟨by rw[BE.eC h.ag _ L];exact G,BE.eP h.li h.lb h.lr _ L,F⟩
 |no w=>rw[V] at W;exact W.elim
def abA{m:OM}{s R:S}{O L:ai}(h:lK cf ops m.o s O R L)(H:∀i,Bt cf.gl s m.o.op=U i->cz R.ao i=cz s.ao i){v:C}{l:Nat}(D:QV cf ops O m s v l):QV cf ops L m R v l:=by
 rcases D with⟨Q,P,X⟩|⟨Q,P,X⟩;exact .inl ⟨h.guard Q,P,X⟩;refine .inr ⟨h.guard Q,λx G=>by rw[h.ev cf.gl x G];exact P x G, ?_⟩;have W:=h.ev cf.gl;cases N:m.o.op with
 |pick c x y=>
  rw[N] at X W;obtain⟨e,B,F,A,z⟩:=X;refine⟨e,by rw[W c cN];exact B,BE.eP h.li h.lb h.lr _ F, ?_,z⟩;rw[BE.eC h.ag _ F,W x cN,W y cN];exact A
 |load t x=>
  have V:=λ(M:(cH cf.ty cf.gl s m.o.op).Ak s O v)=>alP (cf:=cf) h H M
  rw[N] at X W V;exact⟨V X.1,by rw[W x cN];exact X.2⟩
 |_=>
  have V:=λ(M:(cH cf.ty cf.gl s m.o.op).Ak s O v)=>alP (cf:=cf) h H M
  rw[N] at X V;exact⟨V X.1,X.2⟩
def axv(h:oh l.op=J):eH cf R l=.op:=by
 unfold eH;cases W:l.op<;>rw[W] at h<;>simp[oh] at h<;>try rfl
 rename_i c;cases X:c.callee with
 |builtin b=>cases b<;>simp[X] at h<;>simp[X]
 |value f=>simp[X] at h
 |invoke r m=>simp[X] at h
def Ip(s:S)(d:cQ)(v:C):s.dL d v 0=s.put d v:=by simp[S.dL]
def Lj{m:OM}{s V:S}{O:ai}(H:oh m.o.op=J)(R:iA ops m s O=U J):jc cf m s O V<->∃v l,QV cf ops O m s v l/\V=s.dL m.o.dst v l:=by
 unfold jc gR QV;by_cases Q:(m.o.op.operands.toList.any λx=>(s.ev cf.gl x).eX)=J;simp only[Q,cS];constructor;exact λh=>h.elim
 rintro⟨v,l,h|h,-⟩;rw[R] at h;cases h.1;obtain⟨x,M,G⟩:=kW.1 Q;have:=h.2.1 x M;rw[this] at G;cases G
 ·have F:∀x∈m.o.op.operands.toList,(s.ev cf.gl x).eX=false:=by
   intro x M;cases w:(s.ev cf.gl x).eX;rfl;exact aZ (kW.2 ⟨x,M,w⟩) Q
  have L:¬iA ops m s O=U false:=by rw[R];simp
  have D:∀(P:Nat),(tV s m.o.dst P (cH cf.ty cf.gl s m.o.op)).In s O V<->∃v l,((iA ops m s O=U E/\v=.bO []/\l=0)\/(iA ops m s O=U J/\(∀x∈m.o.op.operands.toList,(s.ev cf.gl x).eX=E)/\(cH cf.ty cf.gl s m.o.op).Ak s O v/\l=P))/\V=s.dL m.o.dst v l:=by
   intro P;rw[alI];constructor;rintro⟨v,X,W⟩;exact⟨v,P,.inr ⟨R,F,X,rfl⟩,W⟩;rintro⟨v,l,h|⟨-,-,X,rfl⟩,N⟩;exact aZ h.1 L;exact⟨v,X,N⟩
  rw[aT Q];cases B:m.o.op<;>rw[B] at H D<;>simp only[oh,jB] at H
  case pick c x y=>
   simp only;cases t:s.ev cf.gl c with
   |bool e=>
    constructor;rintro⟨X,W⟩;refine⟨if e.ab O then s.ev cf.gl x else s.ev cf.gl y,0,.inr ⟨R,by rw[<-B];exact F,e,rfl,X,rfl,rfl⟩, ?_⟩;rw[Ip,W];split<;>rfl;rintro⟨v,l,h|⟨-,-,u,X,W,A,z⟩,N⟩;exact aZ h.1 L;cases X;subst z;refine⟨W, ?_⟩;rw[N,Ip,A];split<;>rfl
   |_=>
    constructor;exact λh=>h.elim
    rintro⟨v,l,h|⟨-,-,u,X,W,A,z⟩,N⟩;exact aZ h.1 L;cases X
  all_goals exact D _
variable{a:ai->S->Prop}{k:ai->C->S->Prop}{n:OM->cZ->ai->S->Nat->ap->Prop}
def alQ(W:oh l.op=J):fj cf l b J R=none:=by
 unfold fj;cases Q:l.op<;>rw[Q] at W<;>simp only[oh,jB] at W<;>try rfl
 rename_i c;cases V:c.callee with
 |builtin X=>cases X<;>simp[V] at W<;>simp[V]
 |value f=>simp[V] at W
 |invoke r m=>simp[V] at W
def alR{P:cZ}(N:h.dr=J)(Q:oh h.o.op=J):eZ p cf ops A a k n (h::P) x R<->∃v l,QV cf ops x h R v l/\eZ p cf ops A a k n P x (R.dL h.o.dst v l):=by
 simp only[eZ,axv Q,N,alQ Q,uf];constructor;rintro(⟨V,X⟩|⟨V,L,X,W⟩);exact⟨.bO [],0,.inl ⟨V,rfl,rfl⟩,by rw[Ip];exact X⟩;obtain⟨v,l,M,rfl⟩:=(Lj (ops:=ops) Q V).1 X;exact⟨v,l,M,W⟩;rintro⟨v,l,V,X⟩;rcases V with⟨W,rfl,rfl⟩|W;rw[Ip] at X;exact .inl ⟨W,X⟩;exact .inr ⟨W.1,_,(Lj (ops:=ops) Q W.1).2 ⟨v,l,.inr W,rfl⟩,X⟩
end
section
variable{p:Sp}{A:bF}{B:dQ}{D:yg}
def nc{d:cQ}(h:d≠U X):(R.put d r).tmps[X]?=R.tmps[X]?:=by
 cases d with
 |none=>rfl
 |some d=>simp only[S.put,wl];rw[ss (λe=>h (by rw[e]))]
def Lk{d:cQ}{t:Nat}(h:d≠U t):(R.dL d r X).tmps[t]?=R.tmps[t]?:=by
 unfold S.dL;rw[nc h]
def mG(s:S)(d:cQ)(v:C):(s.put d v).ao=s.ao:=by cases d<;>rfl
def DT(s:S)(d:cQ)(v:C)(l:Nat):(s.dL d v l).ao=s.ao:=by unfold S.dL;rw[mG]
def Ur(s:S)(d:cQ)(v:C):(s.put d v).lk=s.lk:=by cases d<;>rfl
def abB{d e:cQ}{w:C}(h:∀x,d=U x->e≠U x):(R.put d r).put e w=(R.put e w).put d r:=by
 cases d with
 |none=>cases e<;>rfl
 |some d=>
  cases e with
  |none=>rfl
  |some e=>
   have X:d≠e:=λW=>h d rfl (by rw[W])
   simp only[S.put,wl];rw[List.set_comm _ _ X]
def Px{s:S}{d e:cQ}{v w:C}{l:Nat}(h:∀x,d=U x->e≠U x):(s.dL d v l).put e w=(s.put e w).dL d v l:=by
 unfold S.dL;rw[abB h];cases e<;>rfl
def axw{d e:cQ}{w:C}{W:Nat}(h:∀x,d=U x->e≠U x):(R.dL d r X).dL e w W=(R.dL e w W).dL d r X:=by
 have V:(R.dL d r X).dL e w W={(R.dL d r X).put e w with lk:=R.lk|||X|||W}:=by
  unfold S.dL;cases e<;>cases d<;>rfl
 have Q:(R.dL e w W).dL d r X={(R.dL e w W).put d r with lk:=R.lk|||W|||X}:=by
  unfold S.dL;cases e<;>cases d<;>rfl
 rw[V,Q,Nat.or_assoc,Nat.or_comm X W,<-Nat.or_assoc];have P:(R.dL d r X).put e w={(R.put d r).put e w with lk:=R.lk|||X}:=by unfold S.dL;cases e<;>cases d<;>rfl
 have O:(R.dL e w W).put d r={(R.put e w).put d r with lk:=R.lk|||W}:=by unfold S.dL;cases e<;>cases d<;>rfl
 rw[P,O,abB h]
def axx(s:S)(d:cQ)(v:C)(l n:Nat)(t:TypeId)(X:ap):(s.dL d v l).dw n t X=(s.dw n t X).dL d v l:=by
 unfold S.dL S.dw;cases d<;>rfl
structure abC(B:dQ)(x y:OM)(dx:Nat):Prop where
 xd:x.dr=J
 yd:y.dr=J
 qx:oh x.o.op=J
 np:Ks y.o.op=E
 dst:x.o.dst=U dx
 ry:dx∉j6 B y.o
 dy:y.o.dst≠U dx
 rx:dx∉j6 B x.o
 yx:∀d,y.o.dst=U d->d∉j6 B x.o
 rc:zS y.o.op=J->BG x.o.op=J->x.bP=J/\y.bP=J
 rb:Dw y.o.op=J->looks x.o.op=J->BG x.o.op=J/\x.bP=J/\y.bP=J
def alS{x y:OM}(h:Tm B x y=J):∃Q,abC B x y Q:=by
 unfold Tm at h;simp only[aw,iw] at h;obtain⟨⟨⟨⟨⟨⟨⟨L,H⟩,G⟩,F⟩,X⟩,V⟩,O⟩,R⟩:=h;cases P:x.o.dst with
 |none=>rw[P] at X;cases X
 |some Q=>
  rw[P] at X;simp only[aw,iw,bne_iff_ne] at X;obtain⟨⟨N,D⟩,M⟩:=X;refine⟨Q,L,H,G,F,P, ?_,D, ?_, ?_, ?_, ?_⟩;intro W;rw[qD.2 W] at N;cases N;intro W;rw[qD.2 W] at M;cases M;intro d A W;rw[A] at V;simp only[iw] at V;rw[qD.2 W] at V;cases V;intro a b;simp only[a,b,ZS,avP,aw] at O;exact O;intro a b;simp only[a,b,ZS,avP,aw] at R;exact⟨R.1.1,R.1.2,R.2⟩
def FI{X:S}(h:∀x∈l.op.operands.toList,X.ev A.gl x=R.ev A.gl x):eH A X l=eH A R l:=by
 unfold eH;cases V:l.op<;>rw[V] at h<;>try rfl
 case panic x=>simp only;rw[h x cN]
 case call c=>
  simp only;cases Q:c.callee with
  |value f=>
   have P:=h f (by simp[iN,Bo,Q]);have W:c.args.toList.map (X.ev A.gl)=c.args.toList.map (R.ev A.gl):=jA λx O=>h x (by simp[iN,Bo];exact .inr (by simpa using O))
   have N:(c.args.toList.any λx=>(X.ev A.gl x).eX)=c.args.toList.any λx=>(R.ev A.gl x).eX:=by
    have M:=ajp (f:=X.ev A.gl) (p:=C.eX) (l:=c.args.toList);have L:=ajp (f:=R.ev A.gl) (p:=C.eX) (l:=c.args.toList);rw[show(c.args.toList.any λx=>(X.ev A.gl x).eX)=(c.args.toList.map (X.ev A.gl)).any C.eX from M.symm,W,L];rfl
   simp only[P,W,N]
  |invoke r m=>rfl
  |builtin b=>
   cases b<;>try rfl
   cases H:c.args.toList with
   |nil=>rfl
   |cons x r=>
    cases r with
    |nil=>simp only;rw[h x (by simp[iN,Bo];exact .inr (by have G:x∈c.args.toList:=(by rw[H];simp);simpa using G))]
    |cons y r=>rfl
def abD(h:eH A R l=.bI r):Ks l.op=true:=by
 unfold eH at h;split at h;rename_i X;rw[X];rfl;rename_i c X;split at h;split at h;split at h<;>cases h;split at h<;>cases h;cases h;cases h;rename_i W;rw[X];simp[Ks,W];cases h;cases h
def yv(s:S)(d:Nat):Prop:=s.tmps[d]?=Z\/∃w,s.tmps[d]?=U w/\w.bd s.ni s.nb (Y s.rs) (aP s.ao)=J
def abE{W V R:Nat}{Q:Nat->Bool}:∀{l:ap}{d:Nat}{v:C},C.eo W V R Q (l.set d v)=J->(l[d]?=Z\/∃w,l[d]?=U w/\w.bd W V R Q=J)->C.eo W V R Q l=J
 |[],d,v,h,_=>rfl
 |x::P,0,v,h,X=>by
  simp only[aJk,C.ja,aw] at h⊢;refine⟨?_,h.2⟩;rcases X with X|X;simp at X;simpa using X
 |x::P,d+1,v,h,X=>by
  simp only[List.set_cons_succ,C.ja,aw] at h⊢;exact⟨h.1,abE h.2 (by simpa using X)⟩
def Ll{s:S}{dx:Nat}{v:C}{l:Nat}{cs:ap}(h:(s.dL (U dx) v l).fp cs=J)(X:yv s dx):s.fp cs=true:=by
 simp only[S.fp,S.bd,S.dL,S.put,wl,aw] at h⊢;exact⟨⟨abE h.1.1 X,h.1.2⟩,h.2⟩
def axy{Q:Ty}{P:nG}{V:Op}(h:(cH Q P R V).gives x r):oh V=true:=by
 cases V with
 |call c=>
  cases W:c.callee with
  |builtin b=>cases b<;>simp only[cH,W,PR.gives] at h<;>simp[oh,W]
  |value f=>simp only[cH,W,PR.gives] at h
  |invoke X m=>simp only[cH,W,PR.gives] at h
 |_=>first|rfl|(simp only[cH,PR.gives] at h)
def axz{x y:OM}{P:Nat}(a:abC B x y P){s f:S}{O:ai}{v:C}{l:Nat}(ha:yv s P)(hg:iA B y s O=U J)
  (h:jc A y (s.dL (U P) v l) O f):∃W,jc A y s O W/\f=W.dL (U P) v l/\(∀t,y.o.dst≠U t->W.tmps[t]?=s.tmps[t]?)/\W.ni=s.ni/\W.nb=s.nb/\W.rs=s.rs/\
   ∀i,aP s.ao i=J->cz W.ao i=cz s.ao i\/(zS y.o.op=J/\(y.bP=J->(s.lk|||l).testBit (2*i)=E)/\(mz s.ao i).isSome=J):=by
 have aA:lK A B y.o (s.dL (U P) v l) O s O:=lK.Aj (λt V=>(Lk (λe=>a.ry (by cases e;exact V))).symm) rfl rfl rfl;have af:lK A B y.o s O (s.dL (U P) v l) O:=lK.Aj (λt V=>Lk (λe=>a.ry (by cases e;exact V))) rfl rfl rfl;have D:=af.ev A.gl;have ag:∀z,(U P:cQ)=U z->y.o.dst≠U z:=λz H=>by cases H;exact a.dy
 by_cases r:oh y.o.op=J;have aC:=af.guard hg;obtain⟨w,l',hw,rfl⟩:=(Lj (ops:=B) r aC).1 h;have a0:=abA (cf:=A) aA (λi _=>by rw[DT]) hw;refine⟨s.dL y.o.dst w l',(Lj (ops:=B) r hg).2 ⟨w,l',a0,rfl⟩,axw ag,λt V=>Lk V,(gr _ _ _).1,(gr _ _ _).2.1,(gr _ _ _).2.2,λi _=>.inl (by rw[DT])⟩;unfold jc gR at h;split at h;exact h.elim;rename_i hk;have d:¬(y.o.op.operands.toList.any λz=>(s.ev A.gl z).eX)=true:=by
  intro hh;obtain⟨z,al,a1⟩:=kW.1 hh;exact hk (kW.2 ⟨z,al,by rw[D z al];exact a1⟩)
 have b:∀(n:Nat)(t:TypeId)(G:ap)(w:C),n<Y s.ao->jc A y s O ((s.dw n t G).put y.o.dst w)->f=((s.dL (U P) v l).dw n t G).put y.o.dst w->
   (∀i,aP s.ao i=J->i=n->zS y.o.op=J/\(y.bP=J->(s.lk|||l).testBit (2*i)=E)/\(mz s.ao i).isSome=J)->
   ∃W,jc A y s O W/\f=W.dL (U P) v l/\(∀t,y.o.dst≠U t->W.tmps[t]?=s.tmps[t]?)/\W.ni=s.ni/\W.nb=s.nb/\W.rs=s.rs/\
    ∀i,aP s.ao i=J->cz W.ao i=cz s.ao i\/(zS y.o.op=J/\(y.bP=J->(s.lk|||l).testBit (2*i)=E)/\(mz s.ao i).isSome=J):=by
  intro n t G w hn h1 h2 h3;refine⟨_,h1, ?_,λt V=>nc V,(gr _ _ _).1,(gr _ _ _).2.1,(gr _ _ _).2.2,λi R=> ?_⟩;rw[h2,axx,Px ag];by_cases an:i=n;exact .inr (h3 i R an);left;rw[mG,S.dw,Aa an]
 split at h;rename_i t X;split at h;rename_i ti V;split at h;rename_i Q;simp only[aw] at Q;have N:=Ll Q.1 ha;have M:qI s.ao y.ix t=true:=Q.2;have L:gH s.ao y.ix=true:=ud M;refine b y.ix t (eG ti) _ (nP L).2 ?_ h (λi R e=>by subst e;rw[(nP L).1] at R;cases R);unfold jc gR;rw[aT d];simp only[X,V,N,M,we,cS];rfl;exact h.elim;exact h.elim;rename_i t z X;have H:=D z (by rw[X];simp[iN]);split at h;rename_i ti V;rw[H] at h;split at h;rename_i Q;simp only[aw] at Q;obtain⟨⟨⟨m,k⟩,g⟩,c4⟩:=Q;have N:=Ll k ha;have M:qI s.ao y.ix t=true:=c4;have L:gH s.ao y.ix=true:=ud M;refine b y.ix t _ _ (nP L).2 ?_ h (λi R e=>by subst e;rw[(nP L).1] at R;cases R);unfold jc gR;rw[aT d];simp only[X,V,m,N,g,M,we,cS];rfl;exact h.elim;exact h.elim;rename_i t ba parts X;have H:(parts.toList.map λp=>(p.1,(s.dL (U P) v l).ev A.gl p.2))=parts.toList.map λp=>(p.1,s.ev A.gl p.2):=jA λp hp=>by rw[D p.2 (by rw[X];simp[iN];exact⟨p.1,by simpa using hp⟩)]
 split at h;rename_i e aj q V;split at h;rename_i te a3;rw[H] at h;split at h;rename_i G hf;split at h;rename_i Q;simp only[aw] at Q;obtain⟨⟨m,k⟩,g⟩:=Q;have N:=Ll m ha;have M:qI s.ao y.ix e=true:=g;have L:gH s.ao y.ix=true:=ud M;refine b y.ix e G _ (nP L).2 ?_ h (λi R e=>by subst e;rw[(nP L).1] at R;cases R);unfold jc gR;rw[aT d];simp only[X,V,a3,hf,N,k,M,we,cS];rfl;exact h.elim;exact h.elim;exact h.elim;exact h.elim;rename_i t z u X;have H:=D z (by rw[X];simp[iN]);have hu:=D u (by rw[X];simp[iN]);rw[H,hu] at h;split at h;rename_i ti i bb V R;rw[DT] at h;split at h;rename_i bt G N;split at h;rename_i Q;simp only[aw,iw] at Q;obtain⟨⟨⟨⟨m,k⟩,g⟩,c4⟩,F⟩:=Q;have a4:(s.dL (U P) v l).lk=s.lk|||l:=Ur _ _ _;rw[a4] at F;have a9:(y.bP&&s.lk.testBit (2*i))=false:=by
  cases hr:y.bP;rfl;rw[hr,Hu,E7] at F;simp only[wb] at F;simp[F.1]
 refine b i bt _ _ (cu.1 (kw.1 (zY N).1)).1 ?_ h (λj hj e=> ?_);unfold jc gR;rw[aT d];simp only[X,V,R,N,m,k,g,c4,a9,we,Bool.not_false,cS];rfl;subst e;refine⟨by rw[X];rfl,λhr=> ?_,by rw[N];rfl⟩;rw[hr,Hu] at F;exact F;exact h.elim;exact h.elim;exact h.elim;rename_i c z u X;exact aZ (by rw[X];rfl) r;rename_i t z X;exact aZ (by rw[X];rfl) r;rename_i o1 o2 o3 o4 o5 o6;exfalso;obtain⟨w,hw,-⟩:=alI.1 h;refine r ?_;exact axy (Uq hw)
def axA{X:Ty}{W:S}(h:R.rs=W.rs)(k:RK)(r:RE):r.fits X R k=r.fits X W k:=by
 unfold RE.fits;cases k<;>simp only[DQ h r]
def alT{X:Ty}{s W:S}(h:s.rs=W.rs):∀(aj:fu)(V:ap),mV X s aj V=mV X W aj V
 |[],[]=>rfl
 |[],_::_=>rfl
 |_::_,[]=>rfl
 |c::R,v::Q=>by
  simp only[mV,alT h R Q];congr 1;cases c<;>cases v<;>simp only[tU,axA h]
def FJ{X:Ty}{s s':S}(h:s.rs=s'.rs){aj:fu}:∀{l:xW},og X s aj l=og X s' aj l
 |[]=>rfl
 |r::W=>by simp only[og,alT h aj r,FJ h (l:=W)]
def axB{l:Nat}{V:Ty}{Q:TI}{y:C}{W:LE×BE×aq}(h:sG V (R.dL (U X) r l) v Q y=U W):sG V R v Q y=U W:=by
 unfold sG at h⊢;split at h;simp only[DQ (s:=R) (s':=R.dL (U X) r l) rfl];exact h;rw[DT] at h;split at h;rename_i P;simp only[FJ (s:=R) (s':=R.dL (U X) r l) rfl];exact h;cases h;cases h
def axC{l:Nat}{y:C}{Q:LE}{n:BE}(h:yc (R.dL (U X) r l) v b y=U (Q,n,t)):yc R v b y=U (Q,n,t)/\∀k∈t,b=J->(R.lk|||l).testBit (2*k+1)=false:=by
 have N:(R.dL (U X) r l).lk=R.lk|||l:=Ur _ _ _;unfold yc at h⊢;split at h;rename_i k;split at h;rename_i P;cases h;have M:R.rs[k]?=U (.own v):=P.1;have V:=P.2;rw[N] at V;simp only[iw,aI7] at V;refine⟨?_,λG O L=> ?_⟩;rw[aL];refine⟨M, ?_⟩;simp only[iw,aI7];rcases V with V|V;exact .inl V;rw[E7,wb] at V;exact .inr V.1;simp at O;subst O;rcases V with V|V;rw[L] at V;cases V;exact V;cases h;rename_i W F;split at h;rename_i H;cases h;simp[H];cases h;cases h;exact⟨rfl,av⟩;cases h
variable{F:ai->S->Prop}{G:ai->C->S->Prop}{H:OM->cZ->ai->S->Nat->ap->Prop}
def axD(X:aU)(s:S)(d:cQ)(v:C)(l:Nat):((s.dL d v l).cT X).1=(s.cT X).1/\((s.dL d v l).cT X).2=(s.cT X).2.dL d v l:=by
 induction X generalizing s with
 |nil=>exact⟨rfl,rfl⟩
 |cons k X W=>
  simp only[S.cT];have V:((s.dL d v l).fresh k).1=(s.fresh k).1/\((s.dL d v l).fresh k).2=(s.fresh k).2.dL d v l:=by
   cases k<;>cases d<;>exact⟨rfl,rfl⟩
  rw[V.1,V.2];exact⟨by rw[(W _).1],(W _).2⟩
def axE{m:OM}{s:S}{O:ai}{v:C}{l:Nat}(h:QV A B O m s v l)(Q:iA B m s O=U J){t:TypeId}{x:Operand}{i P:Nat}(N:m.o.op=.load t x)(W:s.ev A.gl x=.loc i P):aP s.ao i=J/\(m.bP=J->l=1<<<(2*i)):=by
 rcases h with h|⟨-,-,h⟩;rw[Q] at h;cases h.1;rw[N] at h;obtain⟨X,M⟩:=h;refine⟨?_,λL=>by rw[M,W,L];rfl⟩;have X:=Uq X;simp only[cH,W] at X;cases V:A.ty t with
 |none=>rw[V] at X;exact X.elim
 |some H=>
  rw[V] at X;simp only at X;cases R:cz s.ao i with
  |none=>rw[show mz s.ao i=Z by simp[mz,R]] at X;exact X.elim
  |some b=>simp[aP,R]
def axF{m:OM}{s:S}{O:ai}{v:C}{l:Nat}(h:QV A B O m s v l)(N:iA B m s O=U J){t:TypeId}{x:Operand}{i:Nat}{e:K}{M:bA}{W:ap}(L:m.o.op=.load t x)(V:s.ev A.gl x=.gz e M W)(R:zL W=U i):aP s.ao i=J/\(m.bP=J->l=1<<<(2*i)):=by
 rcases h with h|⟨-,-,h⟩;rw[N] at h;cases h.1;rw[L] at h;obtain⟨X,H⟩:=h;refine⟨?_,λG=>by rw[H,V,G];simp[OA,R]⟩;have X:=Uq X;simp only[cH,V] at X;cases Q:A.ty t with
 |none=>rw[Q] at X;exact X.elim
 |some F=>
  rw[Q] at X;simp only[R,ZL] at X;cases P:cz s.ao i with
  |none=>rw[show mz s.ao i=Z by simp[mz,P]] at X;exact X.elim
  |some b=>simp[aP,P]
def alU{m:OM}{s:S}{O:ai}{v:C}{l:Nat}(h:QV A B O m s v l)(P:iA B m s O=U J){i:Nat}(W:Bt A.gl s m.o.op=U i):aP s.ao i=J/\((BG m.o.op=J/\(m.bP=J->l=1<<<(2*i)))\/mz s.ao i=Z):=by
 unfold Bt at W;split at W;rename_i t x V;split at W;rename_i j G R;cases W;obtain⟨X,N⟩:=axE h P V R;exact⟨X,.inl ⟨by rw[V];rfl,N⟩⟩;rename_i e F D R;obtain⟨X,N⟩:=axF h P V R W;exact⟨X,.inl ⟨by rw[V];rfl,N⟩⟩;cases W;rename_i t x z y V;split at W;rename_i j R;cases W;rcases h with h|⟨-,-,h⟩;rw[P] at h;cases h.1;rw[V] at h;have X:=Uq h.1;simp only[cH,R] at X;split at X;rename_i k e n w aj q u r L;cases L;unfold S8 at X;split at X;rename_i g a b c H f d g2 M;refine⟨by simp[aP,M],.inr ?_⟩;have:rz H=true:=by
  split at X;exact X.elim;split at X;rename_i Q;simp at Q;rw[Q];decide;split at X;rename_i Q;simp at Q;rw[Q];decide;exact X.elim
 simp[mz,M,this];exact X.elim;exact X.elim;cases W;cases W
def Ln{X:BI}(h:fj A l b J R=U X):uW l.op=true:=by
 unfold fj at h;cases V:l.op<;>rw[V] at h<;>simp only[cS,avR] at h<;>try cases h
 rfl;rename_i c;cases W:c.callee with
 |builtin Q=>cases Q<;>simp[W] at h<;>simp[uW,W]
 |_=>simp[W] at h
def abF{m:OM}{s V:S}{O:ai}(h:uW m.o.op=J)(X:jc A m s O V):False:=by
 unfold jc gR at X;split at X;exact X;cases R:m.o.op<;>rw[R] at h X<;>simp[uW] at h;simp[cH,tV,OR.In] at X;rename_i c;cases W:c.callee with
 |builtin Q=>cases Q<;>simp[W] at h<;>simp[cH,W,tV,OR.In] at X
 |_=>simp[W] at h
def alV{l:Nat}{d:cQ}{bi:BE}{k:RK}{x:LE}{dv:aq}{V:BI}(P:yv R X)(O:d≠U X)
  (h:kH (R.dL (U X) r l) d bi v k x t dv=U V):
  ∃b,kH R d bi v k x t dv=U b/\V={b with s:=b.s.dL (U X) r l}/\(∀W,d≠U W->b.s.tmps[W]?=R.tmps[W]?)/\b.s.ni=R.ni/\b.s.nb=R.nb/\b.s.rs=kG dv 0 (jE t 0 R.rs)++[k]/\b.s.ao=R.ao:=by
 unfold kH at h⊢;split at h;rename_i Q;cases h;simp only[aw] at Q;obtain⟨⟨⟨N,M⟩,L⟩,H⟩:=Q;have G:R.bd=true:=by
  have:R.fp []=true:=Ll (dx:=X) (v:=r) (l:=l) (cs:=[]) (by simp[S.fp,N,C.ja]) P;simp only[S.fp,aw] at this;exact this.1
 rw[aL (by simp only[aw];exact⟨⟨⟨G,M⟩,L⟩,H⟩)];refine⟨_,rfl, ?_,λW F=>nc F,(gr _ _ _).1,(gr _ _ _).2.1,(gr _ _ _).2.2,mG _ _ _⟩;congr 1;exact Px (s:={R with rs:=kG dv 0 (jE t 0 R.rs)++[k]}) (d:=U X) (e:=d) (v:=r) (w:=.ah (.v (Y R.rs))) (l:=l) (λz D=>by cases D;exact O);cases h
def axG{x y:OM}{X:Nat}(O:abC B x y X){s:S}{v:C}{l:Nat}(L:yv s X)(V:∀z∈y.o.op.operands.toList,s.ev A.gl z=(s.dL (U X) v l).ev A.gl z){H:BI}
  (h:fj A y.o y.bP y.dr (s.dL (U X) v l)=U H):
  ∃b W dv F,fj A y.o y.bP y.dr s=U b/\H={b with s:=b.s.dL (U X) v l}/\(∀t,y.o.dst≠U t->b.s.tmps[t]?=s.tmps[t]?)/\b.s.ni=s.ni/\b.s.nb=s.nb/\b.s.rs=kG dv 0 (jE W 0 s.rs)++[F]/\b.s.ao=s.ao/\
   (∀k∈W,y.bP=J->(s.lk|||l).testBit (2*k+1)=E)/\(Dw y.o.op=E->W=[]):=by
 have R:=Ln (by rw[O.yd] at h;exact h);unfold fj at h⊢;cases D:y.o.op<;>rw[D] at R h V<;>simp[uW] at R;rename_i t n m;simp only at h⊢;rw[V n cN,V m cN];split at h;rename_i e aj q w u r j i;split at h;rename_i Q g;split at h;rename_i f;obtain⟨b,N,M,d,a,g5,g6,g7⟩:=alV L O.dy h;have af:(w.aR u&&og A.ty s Q.aj [eG Q]&&Y Q.aj !=0)=true:=by
  rw[<-FJ (s:=s.dL (U X) v l) (s':=s) rfl];exact f
 rw[aL af];exact⟨b,[],[],_,N,M,d,a,g5,g6,g7,av,λ_=>rfl⟩;cases h;cases h;cases h;rename_i c;cases P:c.callee with
 |builtin bb=>
  cases bb<;>simp[P] at R;simp only[P] at h⊢;have ag:c.args.toList.map (s.ev A.gl)=c.args.toList.map ((s.dL (U X) v l).ev A.gl):=jA λz hz=>V z (by simp[iN,Bo];exact .inr (by simpa using hz))
  rw[ag];split at h;rename_i t t2 x0 y0 j i;split at h;rename_i e aj q e2 an G r aA;split at h;rename_i Q g;split at h;cases h;rename_i al;rw[aT al];split at h;rename_i la n1 W lb n2 dv N M;obtain⟨q1,G⟩:=axC N;have q3:=axB M;rw[q1,q3];obtain⟨b,k1,k2,k3,k4,k5,k6,k7⟩:=alV L O.dy h;exact⟨b,W,dv,_,k1,k2,k3,k4,k5,k6,k7,G,λh=>by simp[Dw,P] at h⟩;cases h;cases h;cases h;cases h
 |_=>simp[P] at R
def axH(bk:FG B D){x y:OM}{al:cZ}{s:S}{O:ai}(bl:y.so=E)(br:Tm B x y=J)(ha:∀d,x.o.dst=U d->yv s d)
  (e1:Y O.i=s.ni)(e2:Y O.b=s.nb)(e3:Y O.r=Y s.rs)
  (h:eZ p A B D F G H (x::y::al) O s):eZ p A B D F G H (y::x::al) O s:=by
 obtain⟨f,Q⟩:=alS br;obtain⟨v,l,P,h⟩:=(alR Q.xd Q.qx).1 h;rw[Q.dst] at h;have aC:=ha f Q.dst;have a1:∀z,(U f:cQ)=U z->y.o.dst≠U z:=λz hz=>by cases hz;exact Q.dy
 have an:lK A B y.o (s.dL (U f) v l) O s O:=lK.Aj (λt L=>(Lk (λe=>Q.ry (by cases e;exact L))).symm) rfl rfl rfl;have aA:∀(a:S)(O':ai),(iA B x s O=U E->iA B x a O'=U E)->(iA B x s O=U J->lK A B x.o s O a O')->(iA B x s O=U J->∀i,Bt A.gl s x.o.op=U i->cz a.ao i=cz s.ao i)->eZ p A B D F G H al O' (a.dL (U f) v l)->eZ p A B D F G H (x::al) O' a:=by
  intro a O' bs hs hb hr;refine(alR Q.xd Q.qx).2 ⟨v,l, ?_,by rw[Q.dst];exact hr⟩;cases af:iA B x s O with
  |none=>rcases P with P|P<;>(rw[af] at P;cases P.1)
  |some b=>
   cases b;rcases P with P|P;exact .inl ⟨bs P.1,P.2⟩;rw[af] at P;cases P.1;exact abA (hs af) (hb af) P
 simp only[eZ] at h;rcases h with⟨h1,X⟩|⟨h1,X⟩;refine .inl ⟨an.guard h1, ?_⟩;rw[Px a1] at X;have c:lK A B x.o s O (s.put y.o.dst (.bO [])) O:=lK.Aj (λt L=>nc (λe=>Q.yx t e L)) (gr _ _ _).2.2 (gr _ _ _).1 (gr _ _ _).2.1;refine aA _ _ c.guard (λ_=>c) (λ_ i _=>by rw[mG]) X
 ·refine .inr ⟨an.guard h1, ?_⟩;have hg:iA B y s O=U true:=an.guard h1;have bt:eH A s y.o=eH A (s.dL (U f) v l) y.o:=FI (an.ev A.gl);rw[bt];cases a0:eH A (s.dL (U f) v l) y.o with
  |call g0 j=>
   rw[a0] at X;rcases g0 with g|n
   rotate_left
   have h3:=X.1;rw[bl] at h3;cases h3;have bx:D g j (s.dL (U f) v l)=D g j s:=bk.q _ _ _ _ _ _;show qP _ _ _;have X:qP _ _ _:=X;rw[bx] at X;cases ba:D g j s with
   |some ve=>
    obtain⟨pv,ex⟩:=ve;rw[ba] at X;obtain⟨b0,X⟩:=X;have b5:s.bd=true:=by
     have:=Ll (s:=s) (dx:=f) (v:=v) (l:=l) (cs:=[]) (by simp only[S.fp,b0,C.ja,we]) aC;simp only[S.fp,aw] at this;exact this.1
    have b6:(((s.dL (U f) v l).plus ex).put y.o.dst pv)=(((s.plus ex).put y.o.dst pv).dL (U f) v l):=by
     rw[<-Px a1];rfl
    rw[b6] at X;have c:lK A B x.o s O ((s.plus ex).put y.o.dst pv) O:=lK.Aj (λt L=>nc (λe=>Q.yx t e L)) (gr _ _ _).2.2 (gr _ _ _).1 (gr _ _ _).2.1;refine⟨b5,aA _ _ c.guard (λ_=>c) (λaf i hi=> ?_) X⟩;rw[mG];exact alM (alU P af hi).1
   |none=>
   rw[ba] at X;simp only[qP] at X⊢;obtain⟨ts,N,r,c1,c2,c3,c4,c5⟩:=X;obtain⟨f1,f2⟩:=axD N (s.cut j N) (U f) v l;have b7:(s.fp j&&qJ N)=true:=by
    simp only[aw] at c4⊢;exact⟨Ll c4.1 aC,c4.2⟩
   refine⟨ts,N,r,c1,c2,by rw[<-f1];exact c3,b7,λV W R=> ?_⟩;refine(c5 V W (by rw[DT];exact R)).mono ?_;intro e W' he;cases e with
   |returned u=>
    obtain⟨xs,q1,q2,q3,q4,q5⟩:=he;refine⟨xs,q1,q2,q3,q4, ?_⟩;have q5:eZ p A B D F G H al (O.ext xs) ((((s.cut j N).dL (U f) v l).cT N).2.put y.o.dst (one r)):=q5;rw[f2,Px a1] at q5;obtain⟨b1,b2,b3,b4⟩:=yu N (s.cut j N);obtain⟨l1,l2,l3⟩:=Ah N xs (s.cut j N) O q1 e1 e2 (e3.trans (FF j N s.rs).len.symm);have a3:=TR xs O;have bb:BW A.ty s ((((s.cut j N).cT N).2).put y.o.dst (one r)):=by
     intro q e he M;refine Un (λk e _ M=> ?_) he M;rw[(gr _ _ _).2.2];obtain⟨e',g1,g2⟩:∃e',(Dv j N s.rs)[k]?=U e'/\e'.rd=e.rd:=by
      unfold Dv;split;refine⟨zN ((OH j (Y s.rs)).contains k) e,by rw[K2,M];simp, ?_⟩;cases e<;>simp only[zN]<;>try rfl
      split<;>rfl;exact⟨e,M,rfl⟩
     exact⟨e',alk N (s.cut j N) k e' g1,g2⟩
    have c:lK A B x.o s O ((((s.cut j N).cT N).2).put y.o.dst (one r)) (O.ext xs):=by
     refine⟨λt L=> ?_,λ_ _=>bb,λt x r w i bc _ _=>bb r, ?_, ?_, ?_, ?_⟩;rw[nc (λe=>Q.yx t e L),b2];rfl;rw[(gr _ _ _).1,<-l1,<-e1];exact a3.1;rw[(gr _ _ _).2.1,<-l2,<-e2];exact a3.2.1;rw[(gr _ _ _).2.2,<-l3,<-e3];exact a3.2.2;rw[<-e1,<-e2,<-e3];exact Fu xs O
    exact aA _ _ c.guard (λ_=>c) (λ_ i _=>by rw[mG,b1];rfl) q5
   |panicked ch=>exact he
   |outgrown=>exact he
  |bI w=>
   have:=abD a0;rw[Q.np] at this;cases this
  |no=>rw[a0] at X;exact X
  |op=>
   rw[a0] at X;simp only at X⊢;cases a4:fj A y.o y.bP y.dr (s.dL (U f) v l) with
   |some b1=>
    rw[a4] at X;obtain⟨hn,X⟩:=X;obtain⟨b,b8,dv,kk,g1,g2,g3,g4,g5,g6,g7,g8,g9⟩:=axG Q aC (an.ev A.gl) a4;rw[g1];subst g2;refine⟨hn,λrv ca=>aA _ _ ?_ ?_ ?_ (X rv ca)⟩;intro cc;have cl:lK A B {x.o with op:=.move (.const undef)} s O b.s (O.add (.r rv)):=⟨λt L=>g3 t (λe=>Q.yx t e (by
     unfold j6 at L⊢;refine(eW.1 L).elim (λh=> ?_) (λh=>Of _ h);simp[iN] at h)),λh=>by simp[looks] at h,λt x0 r w i bc h=>by simp at h,E8 g4.symm,E8 g5.symm,by rw[g6];simp[BQ,BP],by rw[<-e1,<-e2,<-e3];exact TE O (.r rv)⟩
    exact cl.guard (m:={x with o:={x.o with op:=.move (.const undef)}}) cc;intro af;have bf:∀(k:Nat)(e:RK),k∉b8->s.rs[k]?=U e->∃e',b.s.rs[k]?=U e'/\e'.rd=e.rd:=by
     intro k e cn M;have co:k<Y s.rs:=(cu.1 M).1;refine⟨zN (dv.contains k) e, ?_, ?_⟩;rw[g6,dN (by simp[BQ,BP];exact co),K2,K1,M];simp[cn];cases e<;>simp only[zN]<;>try rfl
     split<;>rfl
    refine⟨λt L=>g3 t (λe=>Q.yx t e L),λcp ct=> ?_,λt x0 r w i bc ho hx e he M=> ?_,E8 g4.symm,E8 g5.symm,by rw[g6];simp[BQ,BP],by rw[<-e1,<-e2,<-e3];exact TE O (.r rv)⟩;cases ag:Dw y.o.op with
    |true=>
     have:=(Q.rb ag cp).1;rw[ct] at this;cases this
    |false=>
     intro r e he M;exact Un (λk e _ M=>bf k e (by rw[g9 ag];simp) M) he M
    refine Un (λk e cv M=>bf k e ?_ M) he M;intro a9;have ag:Dw y.o.op=true:=by
     cases ag:Dw y.o.op with
     |true=>rfl
     |false=>rw[g9 ag] at a9;cases a9
    obtain⟨-,r1,r2⟩:=Q.rb ag (by rw[ho];rfl);have bg:=g8 k a9 r2;rcases P with P|⟨-,-,P⟩;rw[af] at P;cases P.1;rw[ho] at P;have:=P.2;rw[hx,r1] at this;simp only[OA,cv,cS] at this;rw[this,E7] at bg;simp[avr] at bg;intro _ i _;rw[g7]
   |none=>
   rw[a4] at X;have cx:fj A y.o y.bP y.dr s=none:=by
    cases hb:fj A y.o y.bP y.dr s with
    |none=>rfl
    |some b=>
     exfalso;have cy:=Ln (by rw[Q.yd] at hb;exact hb);obtain⟨s2,h3,-⟩:=X;exact abF cy h3
   rw[cx];simp only[uf] at X⊢;obtain⟨s2,h3,h4⟩:=X;obtain⟨a,g1,g2,g3,g4,g5,g6,g7⟩:=axz Q aC hg h3;subst g2;have c:lK A B x.o s O a O:=lK.Aj (λt L=>g3 t (λe=>Q.yx t e L)) g6 g4 g5;refine⟨a,g1,aA a O c.guard (λ_=>c) ?_ h4⟩;intro af i hi;obtain⟨k1,k2⟩:=alU P af hi;rcases g7 i k1 with k3|⟨k3,k4,k5⟩;exact k3;rcases k2 with⟨k2,k6⟩|k2;obtain⟨r1,r2⟩:=Q.rc k3 k2;have:=k4 r2;rw[k6 r1,E7] at this;simp[avr] at this;rw[k2] at k5;cases k5
end
section
variable{p:Sp}{cf:bF}{B:dQ}{A:yg}{F:ai->S->Prop}{G:ai->C->S->Prop}{H:OM->cZ->ai->S->Nat->ap->Prop}
def alW{m:OM}{s W:S}{O:ai}(h:(gR cf m s).gives O W):∀t,m.o.dst≠U t->W.tmps[t]?=s.tmps[t]?:=by
 intro q X;unfold gR at h;split at h;exact h.elim;split at h;split at h;split at h;cases h;rw[nc X];rfl;exact h.elim;exact h.elim;split at h;split at h;cases h;rw[nc X];rfl;exact h.elim;exact h.elim;split at h;split at h;split at h;split at h;cases h;rw[nc X];rfl;exact h.elim;exact h.elim;exact h.elim;exact h.elim;split at h;split at h;split at h;cases h;rw[nc X];rfl;exact h.elim;exact h.elim;exact h.elim;split at h;simp only[OR.gives] at h;split at h<;>(subst h;rw[nc X]);exact h.elim;obtain⟨v,-,rfl⟩:=BS h;rw[Lk X];obtain⟨v,-,rfl⟩:=BS h;rw[Lk X]
def abG{X:BI}(h:fj cf l b J R=U X):∀t,l.dst≠U t->X.s.tmps[t]?=R.tmps[t]?:=by
 intro q O;have Q:∀{bi:BE}{e:TypeId}{k:RK}{x:LE}{P dv:aq},kH R l.dst bi e k x P dv=U X->X.s.tmps[q]?=R.tmps[q]?:=by
  intro bi e k x P dv h;obtain⟨-,-,rfl⟩:=Ad h;simp only;rw[nc O]
 have W:=Ln h;unfold fj at h;cases N:l.op<;>rw[N] at W h<;>simp[uW] at W;simp only at h;split at h;split at h;split at h;exact Q h;cases h;cases h;cases h;rename_i c;cases V:c.callee with
 |builtin M=>
  cases M<;>simp[V] at W;simp only[V] at h;split at h;split at h;split at h;split at h;cases h;split at h;exact Q h;cases h;cases h;cases h;cases h
 |_=>simp[V] at W
def abH{X W V:Nat}{R:Nat->Bool}:∀{l m:ap},C.eo X W V R (l++m)=J<->C.eo X W V R l=J/\C.eo X W V R m=J
 |[],m=>by simp[C.ja]
 |x::Q,m=>by simp[C.ja,abH (l:=Q),and_assoc]
def wC{X W V:Nat}{R:Nat->Bool}:∀{l:ap},C.eo X W V R l=J<->∀v∈l,v.bd X W V R=J
 |[]=>by simp[C.ja]
 |x::Q=>by simp[C.ja,wC (l:=Q)]
def axI{W V:Nat}{R:Nat->Bool}(v:Value):(Ot v).bd X W V R=true:=by
 have Q:∀w,(Ke w).bd X W V R=true:=λw=>by cases w<;>simp[Ke,C.bo,K.bo,BE.bo,RE.bo]
 cases v<;>try simp[Ot,C.bo,K.bo,BE.bo,RE.bo]
 rw[wC];intro x P;obtain⟨w,-,rfl⟩:=iD.1 P;exact Q w
def BY(X:R.bd=J){x:Operand}(W:yf x=J):(R.ev cf.gl x).bd R.ni R.nb (Y R.rs) (aP R.ao)=true:=by
 simp only[S.bd,aw] at X;cases x with
 |tmp t=>
  simp only[S.ev,xY,cw];cases V:R.tmps[t]? with
  |none=>simp[C.bo]
  |some v=>exact wz X.1 V
 |const v=>exact axI v
 |global g=>cases W
 |func f=>simp[S.ev,C.bo,C.ja]
def abI{W V:Nat}{R:Nat->Bool}(h:r.bd X W V R=J):C.eo X W V R r.cells=true:=by
 cases r<;>simp only[C.cells,C.ja,On]<;>first|exact h|(simp only[C.bo] at h;exact h)
def abJ{X W V:Nat}{R:Nat->Bool}:∀{vs l:ap}{Q:Nat},C.eo X W V R l=J->C.eo X W V R vs=J->C.eo X W V R (l8 l Q vs)=J
 |[],l,Q,h,_=>h
 |v::vs,l,Q,h,P=>by
  simp only[C.ja,aw] at P;rw[l8];refine abJ (vs:=vs) ?_ P.2;rw[wC] at h⊢;intro x N;rcases E0 N with O|O;exact h x O;rw[O];exact P.1
def alX{V R Q:Nat}{P:Nat->Bool}{place:Nat->Option (Nat×Nat)}:∀{O:List (Nat×C)}{W l:ap},C.eo V R Q P W=J->(∀q∈O,q.2.bd V R Q P=J)->zK place W O=U l->C.eo V R Q P l=J
 |[],W,l,h,_,X=>by simp[zK] at X;subst X;exact h
 |(i,v)::r,W,l,h,N,X=>by
  simp only[zK] at X;split at X;cases X;split at X;cases X;exact alX (abJ h (abI (N (i,v) Oj))) (λq M=>N q (Dd _ M)) X
def Us{W V:Nat}{R:Nat->Bool}(Q:TI):C.eo X W V R (eG Q)=true:=by
 rw[wC];intro x P;obtain⟨c,-,rfl⟩:=iD.1 P;cases c<;>simp[Dl,C.bo,K.bo,BE.bo,RE.bo]
def alY{X W V:Nat}{R:Nat->Bool}{l:ap}(h:C.eo X W V R l=J):∀n,C.eo X W V R (yb n l)=J
 |0=>rfl
 |n+1=>by rw[yb,abH];exact⟨h,alY h n⟩
mutual
def C.Py{W V R:Nat}{Q P:Nat->Bool}(h:∀i,Q i=J->P i=J):∀(v:C),v.bd W V R Q=J->v.bd W V R P=J
 |.int _ _,X=>by simp only[C.bo] at X⊢;exact X
 |.bool _,X=>by simp only[C.bo] at X⊢;exact X
 |.ah _,X=>by simp only[C.bo] at X⊢;exact X
 |.loc i _,X=>by simp only[C.bo] at X⊢;exact h i X
 |.jp i _ _ _,X=>by simp only[C.bo] at X⊢;exact h i X
 |.el _ _ _ _,X=>by simp only[C.bo] at X⊢;exact X
 |.agg l,X=>by simp only[C.bo] at X⊢;exact C.FL h l X
 |.bO l,X=>by simp only[C.bo] at X⊢;exact C.FL h l X
 |.fn _ l,X=>by simp only[C.bo] at X⊢;exact C.FL h l X
 |.ik _ x,X=>by simp only[C.bo] at X⊢;exact C.Py h x X
 |.yl _,_=>by simp only[C.bo]
 |.any,_=>by simp only[C.bo]
 |.mp i,X=>by simp only[C.bo] at X⊢;exact h i X
 |.gz _ _ O,X=>by simp only[C.bo,aw] at X⊢;exact⟨X.1,C.FL h O X.2⟩
def C.FL{W V R:Nat}{Q P:Nat->Bool}(h:∀i,Q i=J->P i=J):∀(l:ap),C.eo W V R Q l=J->C.eo W V R P l=J
 |[],_=>rfl
 |x::O,X=>by simp only[C.ja,aw] at X⊢;exact⟨C.Py h x X.1,C.FL h O X.2⟩
end
def DU{V R Q:Nat}{P:Nat->Bool}:∀{l:bG},C.rF V R Q P l=J<->∀(i:Nat)(b:TypeId×ap),cz l i=U b->C.eo V R Q P b.2=J
 |[]=>by simp[C.rF,cY]
 |Z::W=>by
  simp only[C.rF,DU (l:=W)];exact⟨λh i b X=>by cases i with
   |zero=>simp[cY] at X
   |succ i=>exact h i b (by simpa[cY] using X),λh i b X=>h (i+1) b (by simpa[cY] using X)⟩
 |some x::W=>by
  simp only[C.rF,aw,DU (l:=W)];exact⟨λh i b X=>by cases i with
   |zero=>simp[cY] at X;subst X;exact h.1
   |succ i=>exact h.2 i b (by simpa[cY] using X),λh=>⟨h 0 x (by simp[cY]),λi b X=>h (i+1) b (by simpa[cY] using X)⟩⟩
def S.more(s:S)(n:Nat)(t:TypeId)(X:ap)(d:cQ)(w:C):S:=(s.dw n t X).put d w
def alZ{d:cQ}(Q:R.bd=J)(G:gH R.ao X=J)(H:R.fp e=J)(F:r.bd R.ni R.nb (Y R.rs) (λi=>i==X)=J):(R.more X v e d r).bd=true:=by
 have N:=(nP G).2;have P:∀i,aP R.ao i=J->aP (R.ao.set X (U (v,e))) i=true:=λi V=>(p8 N).2 (.inr V)
 simp only[S.fp,S.bd,aw] at Q H;simp only[S.more,S.bd,aw];obtain⟨D,B,A⟩:=gr (R.dw X v e) d r;rw[D,B,A,mG];simp only[S.dw];refine⟨?_, ?_⟩;rw[wC];intro W M;cases d with
 |none=>exact C.Py P W (wC.1 Q.1 W M)
 |some d=>
  simp only[S.put,wl] at M;rcases E0 M with L|L;exact C.Py P W (wC.1 Q.1 W L);rw[L];exact C.Py (λi V=>by simp at V;subst V;exact(p8 N).2 (.inl rfl)) r F
 rw[DU];intro i b O;by_cases V:i=X;subst V;rw[Ie N] at O;cases O;exact C.FL P e H.2;rw[Aa V] at O;exact C.FL P _ (DU.1 Q.2 i b O)
def abK{y:OM}{s r:S}{O:ai}(c:gZ y.o.op=J)(b:y.o.op.operands.toList.all yf=J)(h:jc cf y s O r):
  ∃t N w,r=s.more y.ix t N y.o.dst w/\gH s.ao y.ix=J/\(∀a nb nr,w.bd a nb nr (λi=>i==y.ix)=J)/\
   ∀(X:S)(F:ai),(∀x∈y.o.op.operands.toList,X.ev cf.gl x=s.ev cf.gl x)->X.bd=J->gH X.ao y.ix=J->X.fp N=J/\jc cf y X F (X.more y.ix t N y.o.dst w):=by
 unfold jc gR at h;split at h;exact h.elim;rename_i hk;have n:∀x∈y.o.op.operands.toList,yf x=true:=fZ.1 b;have A:∀X:S,(∀x∈y.o.op.operands.toList,X.ev cf.gl x=s.ev cf.gl x)->¬(y.o.op.operands.toList.any λz=>(X.ev cf.gl z).eX)=true:=by
  intro X V hh;obtain⟨z,m,af⟩:=kW.1 hh;exact hk (kW.2 ⟨z,m,by rw[<-V z m];exact af⟩)
 split at h;rename_i t W;split at h;rename_i D M;split at h;rename_i R;simp only[aw] at R;refine⟨t,eG D,.loc y.ix 0,h,ud R.2,λ_ _ _=>by simp[C.bo],λX F V P L=> ?_⟩;have Q:X.fp (eG D)=true:=by simp only[S.fp,P,Hu];exact Us D
 refine⟨Q, ?_⟩;unfold jc gR;rw[aT (A X V)];have H:qI X.ao y.ix t=true:=by simp[qI,L,K0 R.2]
 simp only[W,M,Q,H,we,cS];rfl;exact h.elim;exact h.elim;rename_i t z W;split at h;rename_i D M;split at h;rename_i R;simp only[aw] at R;obtain⟨⟨⟨l,k⟩,B⟩,j⟩:=R;refine⟨t,(s.ev cf.gl z).cells,.loc y.ix 0,h,ud j,λ_ _ _=>by simp[C.bo],λX F V P L=> ?_⟩;have G:=V z (by rw[W];simp[iN]);have Q:X.fp (s.ev cf.gl z).cells=true:=by
  simp only[S.fp,P,Hu];rw[<-G];exact abI (BY P (n z (by rw[W];simp[iN])))
 refine⟨Q, ?_⟩;unfold jc gR;rw[aT (A X V)];have H:qI X.ao y.ix t=true:=by simp[qI,L,K0 j]
 simp only[W,M,G,l,Q,B,H,we,cS];rfl;exact h.elim;exact h.elim;rename_i t v parts W;split at h;rename_i e aj q M;split at h;rename_i te ag;split at h;rename_i N g;split at h;rename_i R;simp only[aw] at R;obtain⟨⟨l,k⟩,B⟩:=R;refine⟨e,N,.jp y.ix 0 v v,h,ud B,λ_ _ _=>by simp[C.bo],λX F V P L=> ?_⟩;have G:(parts.toList.map λp=>(p.1,X.ev cf.gl p.2))=parts.toList.map λp=>(p.1,s.ev cf.gl p.2):=jA λp u=>by rw[V p.2 (by rw[W];simp[iN];exact⟨p.1,by simpa using u⟩)]
 have Q:X.fp N=true:=by
  simp only[S.fp,P,Hu];refine alX (alY (Us te) v) (λq f=> ?_) g;rw[<-G] at f;obtain⟨d,u,rfl⟩:=iD.1 f;exact BY P (n d.2 (by rw[W];simp[iN];exact⟨d.1,by simpa using u⟩))
 refine⟨Q, ?_⟩;unfold jc gR;rw[aT (A X V)];have H:qI X.ao y.ix e=true:=by simp[qI,L,K0 B]
 simp only[W,M,ag,G,g,Q,k,H,we,cS];rfl;exact h.elim;exact h.elim;exact h.elim;exact h.elim
 all_goals(rename_i W;simp[gZ,W] at c)<;>skip
def Pz(h:gZ l.op=J):eH cf R l=.op:=by
 unfold eH;cases X:l.op<;>rw[X] at h<;>simp[gZ] at h<;>rfl
def Lq{X:Bool}(h:gZ l.op=J)(W:X=J):fj cf l b X R=none:=by
 subst W;unfold fj;cases V:l.op<;>rw[V] at h<;>simp[gZ] at h<;>first|rfl|simp
def Al(s:S)(n:Nat)(t:TypeId)(X:ap)(d:cQ)(w:C):(s.more n t X d w).ni=s.ni/\(s.more n t X d w).nb=s.nb/\(s.more n t X d w).rs=s.rs:=gr _ _ _
def Lr{d:cQ}{q:Nat}(h:d≠U q):(R.more X v e d r).tmps[q]?=R.tmps[q]?:=nc h
def DV(s:S)(n:Nat)(t:TypeId)(X:ap)(d:cQ)(w:C):(s.more n t X d w).ao=s.ao.set n (U (t,X)):=mG _ _ _
def DW{d W:cQ}{w:C}(h:∀x,d=U x->W≠U x):(R.put d r).more X v e W w=(R.more X v e W w).put d r:=by
 unfold S.more;have:(R.put d r).dw X v e=(R.dw X v e).put d r:=by cases d<;>rfl
 rw[this,abB h]
def abL{s:S}{n n':Nat}{X:TypeId}{W V:ap}{d e:cQ}{w:C}(h:∀x,d=U x->e≠U x)(R:n≠n'):(s.more n v W d r).more n' X V e w=(s.more n' X V e w).more n v W d r:=by
 show((s.dw n v W).put d r).more n' X V e w=_;rw[DW h];unfold S.more;have:((s.dw n v W).dw n' X V).put e w=((s.dw n' X V).put e w).dw n v W:=by
  have Q:(s.dw n v W).dw n' X V=(s.dw n' X V).dw n v W:=by simp only[S.dw];rw[List.set_comm _ _ R]
  rw[Q];cases e<;>rfl
 rw[this]
def al0:∀{l:ap}{P O N:Nat}{V:Nat->Bool}{i:Nat},C.eo P O N V l=J->i∈C.pR l->V i=true:=by
 have L:∀(n:Nat)(l:ap),SizeOf.sizeOf l<n->∀{P O N:Nat}{V:Nat->Bool}{i:Nat},C.eo P O N V l=J->i∈C.pR l->V i=true:=by
  intro n;induction n with
  |zero=>intro l h;omega
  |succ n R=>
   intro l Q P O N V i W X;cases l with
   |nil=>simp[C.pR] at X
   |cons x M=>
    simp only[C.ja,aw] at W;simp only[C.pR,eW] at X;simp only[List.cons.sizeOf_spec] at Q;rcases X with X|X;cases x with
    |loc j o=>simp[C.HM] at X;subst X;simpa only[C.bo] using W.1
    |jp j a b c=>simp[C.HM] at X;subst X;simpa only[C.bo] using W.1
    |agg m=>exact R m (by simp at Q;omega) (by simpa only[C.bo] using W.1) X
    |bO m=>exact R m (by simp at Q;omega) (by simpa only[C.bo] using W.1) X
    |fn f m=>exact R m (by simp at Q;omega) (by simpa only[C.bo] using W.1) X
    |ik t y=>exact R [y] (by
     have H:0<SizeOf.sizeOf M:=by cases M<;>simp<;>omega
     simp at Q⊢;omega) (by simpa[C.ja,C.bo] using W.1) (by simpa[C.pR,C.HM] using X)
    |mp j=>simp[C.HM] at X;subst X;simpa only[C.bo] using W.1
    |gz e G m=>exact R m (by simp at Q;omega) (by have:=W.1;simp only[C.bo,aw] at this;exact this.2) X
    |_=>simp[C.HM] at X
    exact R M aa W.2 X
 intro l P O N V i;exact L _ l (Nat.lt_succ_self _)
def al1{l:bG}{x:TypeId×ap}(h:X∉t)(R:gH l X=J):sF t 0 (l.set X (U x))=sF t 0 l:=by
 apply kU;intro i;rw[Ud,Ud,jf];by_cases W:i=X;subst W;have V:=(nP R).2;rw[Hk V,cP V];simp[h];rw[ss (λe=>W e.symm)]
def al2(X:aU)(s:S)(n:Nat)(t:TypeId)(W:ap)(d:cQ)(w:C):((s.more n t W d w).cT X).1=(s.cT X).1/\((s.more n t W d w).cT X).2=(s.cT X).2.more n t W d w:=by
 induction X generalizing s with
 |nil=>exact⟨rfl,rfl⟩
 |cons k X V=>
  simp only[S.cT];have R:((s.more n t W d w).fresh k).1=(s.fresh k).1/\((s.more n t W d w).fresh k).2=(s.fresh k).2.more n t W d w:=by
   cases k<;>cases d<;>exact⟨rfl,rfl⟩
  rw[R.1,R.2];exact⟨by rw[(V _).1],(V _).2⟩
def Ut(s:S)(X:ap)(W:aU)(n:Nat)(t:TypeId)(V:ap)(d:cQ)(w:C):(s.more n t V d w).cut X W=(s.cut X W).more n t V d w:=by cases d<;>rfl
def axJ{d:cQ}(h:(R.put d r).bd=J)(X:∀e,d=U e->yv R e):R.bd=true:=by
 cases d with
 |none=>exact h
 |some d=>
  simp only[S.bd,S.put,wl,aw] at h⊢;exact⟨abE h.1 (X d rfl),h.2⟩
def al3{V:cQ}{d:cQ}{bi:BE}{W:TypeId}{k:RK}{x:LE}{dv:aq}{b:BI}(O:(R.more X v e V r).bd=J)(N:∀q,V=U q->d≠U q)
  (h:kH R d bi W k x t dv=U b):kH (R.more X v e V r) d bi W k x t dv=U {b with s:=b.s.more X v e V r}:=by
 unfold kH at h⊢;split at h;rename_i Q;cases h;simp only[aw] at Q;obtain⟨⟨⟨A,M⟩,L⟩,H⟩:=Q;obtain⟨G,F,P⟩:=Al R X v e V r;rw[aL (by simp only[aw];rw[G,F,P];exact⟨⟨⟨O,M⟩,L⟩,H⟩)];congr 2;rw[P,DW (λq D B=>N q B D)];cases V<;>rfl;cases h
def axK{Q:cQ}{P:Ty}{W:TypeId}{O:TI}{y:C}{V:LE×BE×aq}(L:gH R.ao X=J)(h:sG P R W O y=U V):sG P (R.more X v e Q r) W O y=U V:=by
 have N:(R.more X v e Q r).rs=R.rs:=(Al _ _ _ _ _ _).2.2;unfold sG at h⊢;split at h;simp only[DQ N];exact h;rename_i i G F D;rw[DV];split at h;rename_i M;have H:i≠X:=λW=>by subst W;have:=(nP L).1;simp[aP,(zY M).1] at this
 rw[O4 (Aa H)];simp only[M,FJ N];exact h;cases h;cases h
def al4{V:cQ}{W:TypeId}{y:C}:yc (R.more X v e V r) W b y=yc R W b y:=by
 have Q:(R.more X v e V r).rs=R.rs:=(Al _ _ _ _ _ _).2.2;have P:(R.more X v e V r).lk=R.lk:=Ur _ _ _;unfold yc;simp only[Q,P]
def axL{Q:cQ}{W:BI}(H:gH R.ao X=J)(M:(R.more X v e Q r).bd=J)(L:∀q,Q=U q->l.dst≠U q)
  (P:∀z∈l.op.operands.toList,(R.more X v e Q r).ev cf.gl z=R.ev cf.gl z)(h:fj cf l b J R=U W):fj cf l b J (R.more X v e Q r)=U {W with s:=W.s.more X v e Q r}:=by
 have G:(R.more X v e Q r).rs=R.rs:=(Al _ _ _ _ _ _).2.2;have O:=Ln h;unfold fj at h⊢;cases F:l.op<;>rw[F] at O h P<;>simp[uW] at O;rename_i t' D B;simp only at h⊢;rw[P D cN,P B cN];split at h;rename_i V aj q A m2 y x u;split at h;rename_i m k;split at h;rename_i j;rw[FJ G,aL j];exact al3 M L h;cases h;cases h;cases h;rename_i c;cases N:c.callee with
 |builtin i=>
  cases i<;>simp[N] at O;simp only[N] at h⊢;have g:c.args.toList.map ((R.more X v e Q r).ev cf.gl)=c.args.toList.map (R.ev cf.gl):=jA λz f=>P z (by simp[iN,Bo];exact .inr (by simpa using f))
  rw[g];split at h;rename_i t1 t2 x0 y0 x u;split at h;rename_i V aj q e2 af q2 y ag;split at h;rename_i m k;split at h;cases h;rename_i d;rw[aT d,al4];split at h;rename_i la n1 al lb A dv a g2;rw[a,axK H g2];exact al3 M L h;cases h;cases h;cases h;cases h
 |_=>simp[N] at O
mutual
def C.eP{Q P O N M L:Nat}{H G:Nat->Bool}(W:Q<=N)(V:P<=M)(R:O<=L)(h:∀i,H i=J->G i=J):∀(v:C),v.bd Q P O H=J->v.bd N M L G=J
 |.int _ e,X=>by simp only[C.bo] at X⊢;exact K.eP W V R e X
 |.bool e,X=>by simp only[C.bo] at X⊢;exact BE.eP W V R e X
 |.ah e,X=>by simp only[C.bo] at X⊢;exact RE.eP W V R e X
 |.loc i _,X=>by simp only[C.bo] at X⊢;exact h i X
 |.jp i _ _ _,X=>by simp only[C.bo] at X⊢;exact h i X
 |.el r _ i _,X=>by simp only[C.bo,aw] at X⊢;exact⟨RE.eP W V R r X.1,K.eP W V R i X.2⟩
 |.agg l,X=>by simp only[C.bo] at X⊢;exact C.Ls W V R h l X
 |.bO l,X=>by simp only[C.bo] at X⊢;exact C.Ls W V R h l X
 |.fn _ l,X=>by simp only[C.bo] at X⊢;exact C.Ls W V R h l X
 |.ik _ x,X=>by simp only[C.bo] at X⊢;exact C.eP W V R h x X
 |.yl _,_=>by simp only[C.bo]
 |.any,_=>by simp only[C.bo]
 |.mp i,X=>by simp only[C.bo] at X⊢;exact h i X
 |.gz e _ F,X=>by simp only[C.bo,aw] at X⊢;exact⟨K.eP W V R e X.1,C.Ls W V R h F X.2⟩
def C.Ls{W V R Q P O:Nat}{N M:Nat->Bool}(L:W<=Q)(H:V<=P)(G:R<=O)(h:∀i,N i=J->M i=J):∀(l:ap),C.eo W V R N l=J->C.eo Q P O M l=J
 |[],_=>rfl
 |x::F,X=>by simp only[C.ja,aw] at X⊢;exact⟨C.eP L H G h x X.1,C.Ls L H G h F X.2⟩
end
def PA{s':S}{d:cQ}(X:R.bd=J)(V:R.ni<=s'.ni)(Q:R.nb<=s'.nb)(P:Y R.rs<=Y s'.rs)(N:s'.tmps=R.tmps)(M:s'.ao=R.ao)(L:r.bd s'.ni s'.nb (Y s'.rs) (aP s'.ao)=J):(s'.put d r).bd=true:=by
 simp only[S.bd,aw] at X⊢;obtain⟨H,G,F⟩:=gr s' d r;rw[H,G,F,mG,M];rw[M] at L;refine⟨?_, ?_⟩;rw[wC];intro u W;cases d with
 |none=>
  simp only[S.put,N] at W;exact C.eP V Q P (λ_ h=>h) u (wC.1 X.1 u W)
 |some d=>
  simp only[S.put,wl,N] at W;rcases E0 W with O|O;exact C.eP V Q P (λ_ h=>h) u (wC.1 X.1 u O);rw[O];exact L
 rw[DU];exact λi b D=>C.Ls V Q P (λ_ h=>h) _ (DU.1 X.2 i b D)
def abM:∀(X:aU)(s:S),s.ni<=(s.cT X).2.ni/\s.nb<=(s.cT X).2.nb/\Y s.rs<=(s.cT X).2.rs.length
 |[],s=>⟨bY _,bY _,bY _⟩
 |k::X,s=>by
  have:=abM X (s.fresh k).2;simp only[S.cT];cases k<;>simp[S.fresh] at this⊢<;>omega
def al5{pr:Nat->Bool}:∀(X:aU)(s:S),C.eo (s.cT X).2.ni (s.cT X).2.nb (s.cT X).2.rs.length pr (s.cT X).1=J
 |[],s=>rfl
 |k::X,s=>by
  have W:=al5 (pr:=pr) X (s.fresh k).2;have V:=abM X (s.fresh k).2;simp only[S.cT,C.ja,aw];refine⟨?_,W⟩;cases k<;>simp only[S.fresh,C.bo,K.bo,BE.bo,RE.bo,ce]<;>simp[S.fresh] at V<;>omega
def al6{N:Ty}{W V R:Nat}{Q:Nat->Bool}:∀{O:j5}{l r:ap},C.eo W V R Q l=J->Bw N O l=U r->C.eo W V R Q r=J
 |[],l,r,_,h=>by simp[Bw] at h;subst h;rfl
 |t::O,l,r,X,h=>by
  simp only[Bw] at h;split at h;rename_i M F;split at h;rename_i D L;cases h;have H:C.eo W V R Q (l.drop (Y M.aj))=true:=by rw[wC] at X⊢;exact λv P=>X v (Bl P)
  simp only[C.ja,aw];refine⟨?_,al6 H L⟩;split;simp only[C.bo];rw[wC] at X⊢;exact λv P=>X v (E2 P)
  rw[cw];cases G:l[0]? with
  |none=>simp[C.bo]
  |some v=>exact wz X G
  cases h;cases h
def axM{W V:Nat}{R:Nat->Bool}(h:C.eo X W V R e=J):(one e).bd X W V R=true:=by
 unfold one;split;simp only[C.ja,On] at h;exact h;simp only[C.bo];exact h
def axN(W:R.bd=J){X:aU}{V:j5}{r:ap}{d:cQ}(h:Bw cf.ty V ((R.cut e X).cT X).1=U r):((((R.cut e X).cT X).2).put d (one r)).bd=true:=by
 obtain⟨Q,P,L,H⟩:=yu X (R.cut e X);obtain⟨O,N,M⟩:=abM X (R.cut e X);refine PA W O N ?_ P Q (axM (al6 (al5 X _) h));have:=(FF e X R.rs).len;simp only[S.cut] at M⊢;omega
def PB{X:BI}(h:fj cf l b J R=U X):R.bd=J/\X.s.bd=J/\X.s.ao=R.ao:=by
 have P:∀{bi:BE}{e:TypeId}{k:RK}{x:LE}{V dv:aq},kH R l.dst bi e k x V dv=U X->R.bd=J/\X.s.bd=J/\X.s.ao=R.ao:=by
  intro bi e k x V dv h;obtain⟨O,-,rfl⟩:=Ad h;refine⟨O, ?_,mG _ _ _⟩;exact PA (s':={R with rs:=kG dv 0 (jE V 0 R.rs)++[k]}) O (bY _) (bY _) (by simp[BQ,BP]) rfl rfl (by simp[C.bo,RE.bo,BQ,BP])
 have W:=Ln h;unfold fj at h;cases N:l.op<;>rw[N] at W h<;>simp[uW] at W;simp only at h;split at h;split at h;split at h;exact P h;cases h;cases h;cases h;rename_i c;cases Q:c.callee with
 |builtin M=>
  cases M<;>simp[Q] at W;simp only[Q] at h;split at h;split at h;split at h;split at h;cases h;split at h;exact P h;cases h;cases h;cases h;cases h
 |_=>simp[Q] at W
def abN{Q:S}(V:gZ h.o.op=J)(X:jc cf h R x Q):R.bd=true:=by
 unfold jc gR at X;split at X;exact X.elim
 ·cases P:h.o.op<;>rw[P] at V X<;>simp[gZ] at V<;>simp only at X
  all_goals
   (repeat' split at X)
   all_goals first
    |exact X.elim
    |(rename_i W;simp only[aw,S.fp] at W;first|exact W.1.1|exact W.1.1.2.1|exact W.1.1.1)
def axO{X:TI}(W:h.o.op=.alloc v)(V:cf.ty v=U X)(Q:rz v=E)(P:R.bd=J)(N:gH R.ao h.ix=J):jc cf h R x (R.more h.ix v (eG X) h.o.dst (.loc h.ix 0)):=by
 have M:R.fp (eG X)=true:=by simp only[S.fp,P,Hu];exact Us X
 unfold jc gR;rw[aT (by rw[W];simp[iN])];have L:qI R.ao h.ix v=true:=by simp[qI,N,Q]
 simp only[W,V,M,L,we,cS];rfl
def axP{y:OM}{s X:S}{O:ai}{t:TypeId}{W:TI}(V:y.o.op=.alloc t)(R:cf.ty t=U W)(h:jc cf y s O X):X=s.more y.ix t (eG W) y.o.dst (.loc y.ix 0):=by
 unfold jc gR at h;rw[aT (by rw[V];simp[iN])] at h;simp only[V,R] at h;split at h;exact h;exact h.elim
structure axQ(B:dQ)(x y:OM):Prop where
 xy:∀q,x.o.dst=U q->y.o.dst≠U q
 yx:∀q,y.o.dst=U q->x.o.dst≠U q
 ry:∀q,x.o.dst=U q->q∉j6 B y.o
 rx:∀q,y.o.dst=U q->q∉j6 B x.o
def al7{x y:OM}(h:Tn B x y=J):axQ B x y:=by
 unfold Tn at h;simp only[aw] at h;obtain⟨W,V⟩:=h;have R:∀q,x.o.dst=U q->y.o.dst≠U q:=λq X=>by rw[X] at W;simp at W;exact W.2
 exact⟨R,λq X Q=>R q Q X,λq X=>by rw[X] at W;simp at W;exact W.1,λq X=>by rw[X] at V;simpa using V⟩
def abO{X:S}(W:∀t∈j6 B l,R.tmps[t]?=X.tmps[t]?):∀z∈l.op.operands.toList,R.ev cf.gl z=X.ev cf.gl z:=by
 intro z V;cases z with
 |tmp t=>
  have:t∈j6 B l:=by unfold j6;exact xQ _ (De.2 ⟨.tmp t,V,rfl⟩)
  simp only[S.ev,xY,cw,W t this]
 |_=>rfl
def al8{X:S}(W:∀t∈j6 B h.o,R.tmps[t]?=X.tmps[t]?)(V:R.ni=X.ni)(Q:R.nb=X.nb)(P:R.rs=X.rs):iA B h R x=iA B h X x:=by
 unfold iA;cases N:h.o.guard with
 |none=>rfl
 |some q=>
  obtain⟨j,L⟩:=q;simp only;cases M:(B[j]?).bind (·.dst) with
  |none=>rfl
  |some d=>
   simp only;rw[W d (by unfold j6;rw[N];exact Of _ (by simp[M])),V,Q,P]
def al9{g:FuncId}(h:eH cf R l=.call (.fn g) e)(X:R.bd=J)(Q:l.op.operands.toList.all yf=J):C.eo R.ni R.nb (Y R.rs) (aP R.ao) e=true:=by
 have W:∀x∈l.op.operands.toList,yf x=true:=fZ.1 Q;unfold eH at h;split at h;split at h<;>cases h;rename_i c V;split at h;rename_i f P;split at h;rename_i L H O;split at h;cases h;cases h;rw[abH];refine⟨?_, ?_⟩;rw[wC];intro v N;obtain⟨z,M,rfl⟩:=iD.1 N;exact BY X (W z (by rw[V];simp[iN,Bo];exact .inr (by simpa using M)));have:=BY (cf:=cf) X (W f (by rw[V];simp[iN,Bo,P]));rw[O] at this;simpa only[C.bo] using this;split at h<;>cases h;cases h;cases h;split at h;split at h<;>cases h;cases h;cases h;cases h
def axR{g:FuncId}{Q A:ai->C->S->Prop}{H:ap}{d:cQ}(F:gH R.ao X=J)(z:C.eo R.ni R.nb (Y R.rs) (aP R.ao) e=J)(m:(R.more X v H d r).bd=J)
  (h:Li p cf R x g e Q)(l:∀y (G:j5)(L:aU)(P:ap),Bw cf.ty G ((R.cut e L).cT L).1=U P->Q y (one P) ((R.cut e L).cT L).2->A y (one P) (((R.cut e L).cT L).2.more X v H d r)):Li p cf (R.more X v H d r) x g e A:=by
 obtain⟨G,L,P,k,j,q,o,f⟩:=h;obtain⟨c,b,D⟩:=Al R X v H d r;obtain⟨a,f2⟩:=al2 L (R.cut e L) X v H d r;have af:X∉C.pR e:=λhm=>by have:=al0 z hm;rw[(nP F).1] at this;cases this
 have ag:sF (C.pR e) 0 (R.more X v H d r).ao=sF (C.pR e) 0 R.ao:=by rw[DV];exact al1 af F
 simp only[aw,S.fp] at o;refine⟨G,L,P,k,j,by rw[Ut,a];exact q, ?_,λV W N=> ?_⟩;simp only[aw,S.fp];refine⟨⟨m, ?_⟩,o.2⟩;rw[c,b,D,DV];exact C.FL (λi hi=>(p8 (nP F).2).2 (.inr hi)) e z;rw[ag,D] at N;refine(f V W N).mono ?_;intro M W' B;cases M with
 |returned u=>
  obtain⟨xs,q1,q2,q3,q4,q5⟩:=B;refine⟨xs,q1,q2,q3,by rw[D];exact q4, ?_⟩;rw[Ut,f2];exact l _ G L P q q5
 |panicked ch=>exact B
 |outgrown=>exact B
def axS{g:FuncId}{Q B:ai->C->S->Prop}{H:ap}{d:cQ}(A:gH R.ao X=J)(z:C.eo R.ni R.nb (Y R.rs) (aP R.ao) e=J)(k:R.bd=J)
  (h:Li p cf (R.more X v H d r) x g e Q)(j:∀y (G:j5)(L:aU)(P:ap),Bw cf.ty G ((R.cut e L).cT L).1=U P->Q y (one P) (((R.cut e L).cT L).2.more X v H d r)->B y (one P) ((R.cut e L).cT L).2):Li p cf R x g e B:=by
 obtain⟨G,L,P,i,f,F,q,c⟩:=h;obtain⟨p1,p2,o⟩:=Al R X v H d r;obtain⟨b,a⟩:=al2 L (R.cut e L) X v H d r;have af:X∉C.pR e:=λhm=>by have:=al0 z hm;rw[(nP A).1] at this;cases this
 have ag:sF (C.pR e) 0 (R.more X v H d r).ao=sF (C.pR e) 0 R.ao:=by rw[DV];exact al1 af A
 simp only[aw,S.fp] at q;rw[Ut,b] at F;refine⟨G,L,P,i,f,F, ?_,λV W N=> ?_⟩;simp only[aw,S.fp];exact⟨⟨k,z⟩,q.2⟩;refine(c V W (by rw[ag,o];exact N)).mono ?_;intro M W' D;cases M with
 |returned u=>
  obtain⟨xs,q1,q2,q3,m,l⟩:=D;rw[o] at m;rw[Ut,a] at l;exact⟨xs,q1,q2,q3,m,j _ G L P F l⟩
 |panicked ch=>exact D
 |outgrown=>exact D
def axT(an:FG B A){x y:OM}{u:cZ}{s:S}{O:ai}(b0:x.so=E)(a3:Ku B x y=J)(b1:∀d,x.o.dst=U d->yv s d)(N:gH s.ao y.ix=J)(hz:∀t,y.o.op=.alloc t->H3 cf t=J)
  (h:eZ p cf B A F G H (x::y::u) O s):eZ p cf B A F G H (y::x::u) O s:=by
 unfold Ku at a3;simp only[aw] at a3;obtain⟨⟨⟨⟨⟨⟨⟨⟨a4,bg⟩,hy⟩,a9⟩,m⟩,b2⟩,bk⟩,b3⟩,bl⟩:=a3;have a9:y.o.guard=none:=by simpa using a9
 have D:=al7 b3;obtain⟨t,l⟩:∃t,y.o.op=.alloc t:=by cases l:y.o.op<;>rw[l] at hy<;>simp[H0] at hy;exact⟨_,rfl⟩
 have aA:=hz t l;simp only[H3,aw,iw] at aA;obtain⟨aA,b4⟩:=aA;obtain⟨V,ht⟩:=lF.1 aA;have k:gZ y.o.op=true:=by rw[l];rfl
 have br:∀(s':S)(M:ai),iA B y s' M=U true:=λs' M=>by simp[iA,a9]
 have j:∀{M:ai}{i:S},eZ p cf B A F G H (y::u) M i->i.bd=J/\eZ p cf B A F G H u M (i.more y.ix t (eG V) y.o.dst (.loc y.ix 0)):=by
  intro M i hr;simp only[eZ,br,Pz k,Lq k bg,uf] at hr;rcases hr with⟨Q,_⟩|⟨_,s3,X,P⟩;cases Q;have:=axP l ht X;subst this;exact⟨abN k X,P⟩
 have done:s.bd=J->eZ p cf B A F G H (x::u) O (s.more y.ix t (eG V) y.o.dst (.loc y.ix 0))->eZ p cf B A F G H (y::x::u) O s:=by
  intro W X;rw[eZ];refine .inr ⟨br s O, ?_⟩;rw[Pz k];simp only[Lq k bg,uf];exact⟨_,axO l ht b4 W N,X⟩
 have aC:s.bd=J->(s.more y.ix t (eG V) y.o.dst (.loc y.ix 0)).bd=true:=λW=>alZ W N (by simp only[S.fp,W,Hu];exact Us V) (by simp[C.bo])
 obtain⟨p1,p2,p3⟩:=Al s y.ix t (eG V) y.o.dst (.loc y.ix 0);have a:iA B x (s.more y.ix t (eG V) y.o.dst (.loc y.ix 0)) O=iA B x s O:=al8 (λq hq=>Lr (λe=>D.rx q e hq)) p1 p2 p3;have af:∀z∈x.o.op.operands.toList,(s.more y.ix t (eG V) y.o.dst (.loc y.ix 0)).ev cf.gl z=s.ev cf.gl z:=abO (λq hq=>Lr (λe=>D.rx q e hq));rw[eZ] at h;rcases h with⟨Q,X⟩|⟨Q,X⟩
 ·obtain⟨g1,g2⟩:=j X;refine done (axJ g1 b1) ?_;rw[eZ];refine .inl ⟨by rw[a];exact Q, ?_⟩;rw[<-DW D.xy];exact g2
 ·cases R:eH cf s x.o with
  |call g0 ba=>
   rw[R] at X;rcases g0 with g|n
   rotate_left
   have P:=X.1;rw[b0] at P;cases P;have L:qP _ _ _:=X;clear X;cases ag:A g ba s with
   |some ve=>
    obtain⟨pv,ex⟩:=ve;rw[ag] at L;obtain⟨W,L⟩:=L;have hR:=an.reg _ _ _ _ ag;have bc:Kt x.o.op=true:=by simpa[hR,abz R] using bl
    have bf:=alO bc R;subst bf;refine done W ?_;rw[eZ];refine .inr ⟨by rw[a];exact Q, ?_⟩;rw[FI af,R];show qP _ _ _;rw[show A g [] (s.more y.ix t (eG V) y.o.dst (.loc y.ix 0))=U (pv,ex) from(an.z _ _ _ _ _ _ _ N).trans ag];refine⟨aC W, ?_⟩;have b5:=(nP N).2;have b6:(s.more y.ix t (eG V) y.o.dst (.loc y.ix 0)).plus ex=(s.plus ex).more y.ix t (eG V) y.o.dst (.loc y.ix 0):=by
     have:(s.dw y.ix t (eG V)).plus ex=(s.plus ex).dw y.ix t (eG V):=by
      simp only[S.dw,S.plus,List.set_append_left _ _ b5]
     unfold S.more;rw[<-this];cases y.o.dst<;>rfl
    rw[b6,<-DW D.xy];exact(j L).2
   |none=>
   rw[ag] at L;simp only[qP] at L;have X:=L;have W:s.bd=true:=by obtain⟨ts,ks,r,c1,c2,c3,c4,c5⟩:=X;simp only[aw,S.fp] at c4;exact c4.1.1
   refine done W ?_;rw[eZ];refine .inr ⟨by rw[a];exact Q, ?_⟩;rw[FI af,R];show qP _ _ _;have b7:A g ba (s.more y.ix t (eG V) y.o.dst (.loc y.ix 0))=none:=by
    cases hh:A g ba (s.more y.ix t (eG V) y.o.dst (.loc y.ix 0)) with
    |none=>rfl
    |some r=>
     exfalso;have hR:=an.reg _ _ _ _ hh;have bc:Kt x.o.op=true:=by simpa[hR,abz R] using bl
     have bf:=alO bc R;subst bf;have:=(an.z g s y.ix t (eG V) y.o.dst (.loc y.ix 0) N).symm.trans hh;rw[ag] at this;cases this
   rw[b7];simp only[qP];refine axR N (al9 R W bk) (aC W) X (λM ts ks r _ hr=> ?_);rw[<-DW D.xy];exact(j hr).2
  |bI v=>
   exfalso;have hp:=abD R;cases a0:x.o.op<;>rw[a0] at m hp<;>simp[Ks,gZ,uW,zT] at hp m;rename_i c;cases a1:c.callee<;>simp[a1] at hp m;rename_i bb;cases bb<;>simp at hp m
  |no=>rw[R] at X;exact X.elim
  |op=>
   rw[R] at X;simp only at X;cases W:fj cf x.o x.bP x.dr s with
   |some b=>
    rw[W] at X;obtain⟨hn,X⟩:=X;rw[a4] at W;obtain⟨q1,q2,q3⟩:=PB W;refine done q1 ?_;rw[eZ];refine .inr ⟨by rw[a];exact Q, ?_⟩;rw[FI af,R];simp only;rw[a4,axL N (aC q1) D.yx af W];refine⟨hn,λrv bs=> ?_⟩;rw[p3] at bs;exact(j (X rv bs)).2
   |none=>
    rw[W] at X;obtain⟨i,P,h4⟩:=X;have al:gZ x.o.op=true:=by
     simp only[jL] at m;rcases m with(w|w)|w;exact w;exact(abF w P).elim
     ·exfalso;cases a0:x.o.op<;>rw[a0] at w<;>simp[zT] at w;rename_i c;cases a1:c.callee<;>simp[a1] at w;rename_i f;simp only[eH,a0,a1] at R
      (repeat' split at R)<;>cases R
    have bt:x.ix≠y.ix:=by simpa[al] using b2
    have bx:=abN al P;obtain⟨tx,cx,wx,rfl,g2,g3,g4⟩:=abK al bk P;refine done bx ?_;rw[eZ];refine .inr ⟨by rw[a];exact Q, ?_⟩;rw[Pz al];simp only[Lq al a4,uf];refine⟨_,(g4 _ O af (aC bx) ?_).2, ?_⟩;unfold gH at g2⊢;rw[DV,ss (λe=>bt e.symm)];exact g2;rw[abL D.yx (λe=>bt e.symm)];exact(j h4).2
def ama{V:cQ}{d:cQ}{bi:BE}{W:TypeId}{k:RK}{x:LE}{dv:aq}{P:BI}(N:R.bd=J)(M:∀q,V=U q->d≠U q)
  (h:kH (R.more X v e V r) d bi W k x t dv=U P):∃b,kH R d bi W k x t dv=U b/\P={b with s:=b.s.more X v e V r}:=by
 obtain⟨L,H,O⟩:=Al R X v e V r;unfold kH at h⊢;split at h;rename_i Q;cases h;simp only[aw] at Q;rw[L,H,O] at Q;obtain⟨⟨⟨z,G⟩,F⟩,D⟩:=Q;rw[aL (by simp only[aw];exact⟨⟨⟨N,G⟩,F⟩,D⟩)];refine⟨_,rfl, ?_⟩;congr 1;rw[O,DW (λq B A=>M q A B)];cases V<;>rfl;cases h
def axU{P:cQ}{O:Ty}{W:TypeId}{N:TI}{y:C}{V:LE×BE×aq}(L:gH R.ao X=J)(Q:y.bd R.ni R.nb (Y R.rs) (aP R.ao)=J)(h:sG O (R.more X v e P r) W N y=U V):sG O R W N y=U V:=by
 have M:(R.more X v e P r).rs=R.rs:=(Al _ _ _ _ _ _).2.2;unfold sG at h⊢;split at h;simp only[DQ M] at h;exact h;rename_i i F D B;rw[DV] at h;have H:i≠X:=λW=>by subst W;simp only[C.bo] at Q;rw[(nP L).1] at Q;cases Q
 rw[O4 (Aa H)] at h;split at h;rename_i G;simp only[FJ M] at h
 first|exact h|(rw[G];exact h)
 cases h;cases h
def axV{Q:cQ}{H:BI}(y:gH R.ao X=J)(N:R.bd=J)(G:∀q,Q=U q->l.dst≠U q)(u:l.op.operands.toList.all yf=J)
  (P:∀z∈l.op.operands.toList,(R.more X v e Q r).ev cf.gl z=R.ev cf.gl z)(h:fj cf l b J (R.more X v e Q r)=U H):∃W,fj cf l b J R=U W/\H={W with s:=W.s.more X v e Q r}:=by
 have m:(R.more X v e Q r).rs=R.rs:=(Al _ _ _ _ _ _).2.2;have F:∀x∈l.op.operands.toList,yf x=true:=fZ.1 u;have O:=Ln h;unfold fj at h⊢;cases k:l.op<;>rw[k] at O h P F<;>simp[uW] at O;rename_i t' j i;simp only at h⊢;rw[P j cN,P i cN] at h;split at h;rename_i V aj q g m2 f d D;split at h;rename_i a af;split at h;rename_i B;rw[FJ m] at B;rw[aL B];exact ama N G h;cases h;cases h;cases h;rename_i c;cases M:c.callee with
 |builtin bb=>
  cases bb<;>simp[M] at O;simp only[M] at h⊢;have ag:c.args.toList.map ((R.more X v e Q r).ev cf.gl)=c.args.toList.map (R.ev cf.gl):=jA λz L=>P z (by simp[iN,Bo];exact .inr (by simpa using L))
  rw[ag] at h;split at h;rename_i t1 t2 x0 A d D;have al:A.bd R.ni R.nb (Y R.rs) (aP R.ao)=true:=by
   have:A∈c.args.toList.map (R.ev cf.gl):=by rw[D];simp
   obtain⟨z,L,rfl⟩:=iD.1 this;exact BY N (F z (by simp[iN,Bo];exact .inr (by simpa using L)))
  split at h;rename_i V aj q e2 aA q2 f aC;split at h;rename_i a af;split at h;cases h;rename_i an;rw[aT an];rw[al4] at h;split at h;rename_i la n1 a0 lb g dv g1 g2;rw[g1,axU y al g2];exact ama N G h;cases h;cases h;cases h;cases h
 |_=>simp[M] at O
def axW(cA:FG B A){x y:OM}{a9:cZ}{s:S}{O:ai}(cB:y.so=E)(bl:OJ B x y=J)
  (h:eZ p cf B A F G H (x::y::a9) O s):eZ p cf B A F G H (y::x::a9) O s:=by
 unfold OJ at bl;simp only[aw] at bl;obtain⟨⟨⟨⟨⟨⟨⟨⟨⟨⟨cc,ba⟩,aA⟩,dk⟩,br⟩,cC⟩,a4⟩,aC⟩,cD⟩,cI⟩,cO⟩:=bl;have br:x.o.guard=none:=by simpa using br
 have D:=al7 cI;have ch:∀(N:S)(O':ai),iA B x N O'=U true:=λN O'=>by simp[iA,br]
 rw[eZ] at h;rcases h with⟨h1,_⟩|⟨_,h2⟩;rw[ch] at h1;cases h1;rw[Pz aA] at h2;simp only[Lq aA cc,uf] at h2;obtain⟨s1,h3,h4⟩:=h2;have Q:=abN aA h3;obtain⟨t,m,w,rfl,L,hw,tr⟩:=abK aA cC h3;have dn:s.fp m=true:=(tr s O (λ_ _=>rfl) Q L).1;obtain⟨p1,p2,p3⟩:=Al s x.ix t m x.o.dst w;have bs:iA B y (s.more x.ix t m x.o.dst w) O=iA B y s O:=al8 (λq X=>Lr (λe=>D.ry q e X)) p1 p2 p3;have a0:∀z∈y.o.op.operands.toList,(s.more x.ix t m x.o.dst w).ev cf.gl z=s.ev cf.gl z:=abO (λq X=>Lr (λe=>D.ry q e X));have a1:∀{O':ai}{N:S},(∀q,y.o.dst≠U q->N.tmps[q]?=s.tmps[q]?)->N.bd=J->gH N.ao x.ix=J->eZ p cf B A F G H a9 O' (N.more x.ix t m x.o.dst w)->eZ p cf B A F G H (x::a9) O' N:=by
  intro O' N ht a3 cR hr;rw[eZ];refine .inr ⟨ch _ _, ?_⟩;rw[Pz aA];simp only[Lq aA cc,uf];exact⟨_,(tr N O' (abO (λq X=>ht q (λe=>D.rx q e X))) a3 cR).2,hr⟩
 rw[eZ] at h4;rcases h4 with⟨h5,W⟩|⟨h5,W⟩;rw[eZ];refine .inl ⟨by rw[<-bs];exact h5, ?_⟩;refine a1 (λq X=>nc X) (PA (s':=s) Q (bY _) (bY _) (bY _) rfl rfl (by simp[C.bo,C.ja])) (by rw[mG];exact L) ?_;rw[DW D.yx];exact W
 ·rw[eZ];refine .inr ⟨by rw[<-bs];exact h5, ?_⟩;rw[FI a0] at W;cases a:eH cf s y.o with
  |call g0 bx=>
   rw[a] at W;rcases g0 with g|n
   rotate_left
   have h3:=W.1;rw[cB] at h3;cases h3;have cl:∀N,A g bx N=none:=λN=>by
    cases hh:A g bx N with
    |none=>rfl
    |some r=>
     exfalso;have hR:=cA.reg _ _ _ _ hh;simp[hR,abz a] at cO
   have hP:qP _ _ _:=W;clear W;rw[cl] at hP;simp only[qP] at hP;have W:=hP;show qP _ _ _;rw[cl];simp only[qP];refine axS L (al9 a Q a4) Q W (λO' ts ks r hm hr=> ?_);obtain⟨b1,b2,b3,b4⟩:=yu ks (s.cut bx ks);refine a1 (λq X=>by rw[nc X,b2];rfl) (axN Q hm) (by rw[mG,b1];exact L) ?_;rw[DW D.yx];exact hr
  |bI v=>
   exfalso;have hp:=abD a;cases bc:y.o.op<;>rw[bc] at aC hp<;>simp[Ks,gZ,uW,zT,Fk,zS] at hp aC;rename_i c;cases bf:c.callee<;>simp[bf] at hp aC;rename_i bb;cases bb<;>simp at hp aC
  |no=>rw[a] at W;exact W.elim
  |op=>
   rw[a] at W;show uf _ _ _;have W:uf _ _ _:=W;cases bg:fj cf y.o y.bP y.dr (s.more x.ix t m x.o.dst w) with
   |some b1=>
    rw[bg] at W;obtain⟨hn,W⟩:=W;rw[ba] at bg⊢;obtain⟨b,g1,rfl⟩:=axV L Q D.xy a4 a0 bg;rw[g1];obtain⟨q1,q2,q3⟩:=PB g1;refine⟨hn,λrv cW=> ?_⟩;refine a1 (abG g1) q2 (by rw[q3];exact L) (W rv (by rw[p3];exact cW))
   |none=>
    rw[bg] at W;obtain⟨c0,P,h8⟩:=W;by_cases k:Fk y.o.op=J
    
    have X:oh y.o.op=true:=by cases V:y.o.op<;>rw[V] at k<;>simp[Fk] at k<;>rfl
    have ds:BG y.o.op=false:=by cases V:y.o.op<;>rw[V] at k<;>simp[Fk] at k<;>rfl
    rw[ba,alQ X];simp only[uf];obtain⟨v,l,hv,rfl⟩:=(Lj (ops:=B) X h5).1 P;have c1:lK cf B y.o (s.more x.ix t m x.o.dst w) O s O:=lK.Aj (λq X=>(Lr (λe=>D.ry q e X)).symm) p3.symm p1.symm p2.symm;have R:=abA c1 (λi hi=>by
     unfold Bt at hi;cases V:y.o.op<;>rw[V] at k hi<;>simp[Fk] at k<;>cases hi) hv
    have cn:iA B y s O=U true:=by rw[<-bs];exact h5
    refine⟨_,(Lj (ops:=B) X cn).2 ⟨v,l,R,rfl⟩, ?_⟩;have c2:v.bd s.ni s.nb (Y s.rs) (aP s.ao)=true:=by
     have an:∀z∈y.o.op.operands.toList,yf z=true:=fZ.1 a4;rcases R with R|⟨-,-,R⟩;rw[cn] at R;cases R.1;cases V:y.o.op<;>rw[V] at k R an<;>simp[Fk] at k;rename_i z;have:=R.1;simp only[cH,PR.Ak] at this;rw[this];exact BY Q (an z cN);rename_i z;have:=R.1;simp only[cH,PR.Ak] at this;rw[this];exact BY Q (an z cN);rename_i st z f;have af:=BY (cf:=cf) Q (an z cN);have:=R.1;simp only[cH] at this;split at this;rename_i hz;rw[hz] at af;split at this;split at this;split at this;exact this.elim;rw[this];exact af;exact this.elim;exact this.elim;rename_i hz;rw[hz] at af;split at this;split at this;split at this;exact this.elim;rw[this];exact af;exact this.elim;exact this.elim;exact this.elim
    have c3:l=0:=by
     rcases R with R|⟨-,-,R⟩;exact R.2.2;cases V:y.o.op<;>rw[V] at k R<;>simp[Fk] at k<;>exact R.2
    subst c3;rw[Ip] at h8⊢;refine a1 (λq X=>nc X) (PA (s':=s) Q (bY _) (bY _) (bY _) rfl rfl c2) (by rw[mG];exact L) ?_;rw[DW D.yx];exact h8;by_cases b0:zS y.o.op=J;obtain⟨t',z,u,V⟩:∃t z u,y.o.op=.store t z u:=by cases V:y.o.op<;>rw[V] at b0<;>simp[zS] at b0;exact⟨_,_,_,rfl⟩
    have an:∀z∈y.o.op.operands.toList,yf z=true:=fZ.1 a4;have b5:fj cf y.o y.bP y.dr s=none:=by rw[ba];simp[fj,V]
    rw[b5];simp only[uf];have hz:=a0 z (by rw[V];simp[iN]);have hu:=a0 u (by rw[V];simp[iN]);have af:=BY (cf:=cf) Q (an z (by rw[V];simp[iN]));have c4:=BY (cf:=cf) Q (an u (by rw[V];simp[iN]));unfold jc gR at P;split at P;exact P.elim;rename_i M;have c5:¬(y.o.op.operands.toList.any λz=>(s.ev cf.gl z).eX)=true:=by
     intro hh;obtain⟨zz,co,c6⟩:=kW.1 hh;exact M (kW.2 ⟨zz,co,by rw[a0 zz co];exact c6⟩)
    simp only[V,hz,hu] at P;split at P;rename_i ti i ag c7 hi;have b6:i≠x.ix:=λe=>by subst e;rw[hi] at af;simp only[C.bo] at af;rw[(nP L).1] at af;cases af
    rw[DV,O4 (Aa b6)] at P;split at P;rename_i bt al cp;obtain⟨b7,-⟩:=zY cp;split at P;rename_i bk;have c8:(s.more x.ix t m x.o.dst w).lk=s.lk:=Ur _ _ _;rw[c8] at bk;have dx:((s.ev cf.gl u).cells.length==Y ti.aj)=true:=by simp only[aw] at bk;exact bk.1.1.1.1
    refine⟨(s.dw i bt (l8 al ag (s.ev cf.gl u).cells)).put y.o.dst (.bO []), ?_, ?_⟩;unfold jc gR;rw[aT c5];simp only[V,c7,hi,cp];rw[aL bk];rfl;have c9:((s.dw i bt (l8 al ag (s.ev cf.gl u).cells)).put y.o.dst (.bO [])).bd=true:=by
     have ct:i<Y s.ao:=(cu.1 (kw.1 b7)).1;have dc:∀j,aP (s.ao.set i (U (bt,l8 al ag (s.ev cf.gl u).cells))) j=aP s.ao j:=λj=>by
      by_cases hj:j=i;subst hj;simp[aP,Ie ct,b7];simp[aP,Aa hj]
     have dd:aP (s.ao.set i (U (bt,l8 al ag (s.ev cf.gl u).cells)))=aP s.ao:=funext dc;have a3:=Q;simp only[S.bd,aw] at a3;have b5:(s.dw i bt (l8 al ag (s.ev cf.gl u).cells)).bd=true:=by
      simp only[S.bd,S.dw,dd,aw];refine⟨a3.1, ?_⟩;rw[DU];intro j b hj;by_cases cv:j=i;subst cv;rw[Ie ct] at hj;cases hj;exact abJ (DU.1 a3.2 j _ b7) (abI c4);rw[Aa cv] at hj;exact DU.1 a3.2 j b hj
     exact PA (s':=s.dw i bt (l8 al ag (s.ev cf.gl u).cells)) b5 (bY _) (bY _) (bY _) rfl rfl (by simp[C.bo,C.ja])
    refine a1 (λq X=>by rw[nc X];rfl) c9 ?_ ?_;rw[mG];unfold gH at L⊢;simp only[S.dw];rw[ss b6];exact L;have df:c0=((s.more x.ix t m x.o.dst w).dw i bt (l8 al ag (s.ev cf.gl u).cells)).put y.o.dst (.bO []):=P;subst df;have:((s.dw i bt (l8 al ag (s.ev cf.gl u).cells)).put y.o.dst (.bO [])).more x.ix t m x.o.dst w=((s.more x.ix t m x.o.dst w).dw i bt (l8 al ag (s.ev cf.gl u).cells)).put y.o.dst (.bO []):=
     abL (s:=s) (n:=i) (n':=x.ix) (d:=y.o.dst) (e:=x.o.dst) D.yx b6
    rw[this];exact h8;exact P.elim;exact P.elim;exact P.elim;have b8:gZ y.o.op=true:=by
     simp only[jL] at aC;rcases aC with(((M|M)|M)|M)|M;exact M;exact(abF M P).elim
     ·exfalso;cases bc:y.o.op<;>rw[bc] at M<;>simp[zT] at M;rename_i c;cases bf:c.callee<;>simp[bf] at M;rename_i f;simp only[eH,bc,bf] at a
      (repeat' split at a)<;>cases a
     exact aZ M k;exact aZ M b0
    have ca:x.ix≠y.ix:=by simpa[b8] using cD
    rw[Lq b8 ba];simp only[uf];obtain⟨dy,cy,wy,rfl,k2,k3,k4⟩:=abK b8 a4 P;have cx:gH s.ao y.ix=true:=by
     unfold gH at k2⊢;rw[DV,ss ca] at k2;exact k2
    obtain⟨m1,m2⟩:=k4 s O (λz hz=>(a0 z hz).symm) Q cx;refine⟨_,m2,a1 (λq X=>Lr X) (alZ Q cx m1 (k3 _ _ _)) ?_ ?_⟩;unfold gH at L⊢;rw[DV,ss (λe=>ca e.symm)];exact L;rw[abL D.yx (λe=>ca e.symm)];exact h8
def axX(V:FG B A){x y:OM}{R:cZ}{s:S}{O:ai}(W:uX B x y=J)(Q:∀d,x.o.dst=U d->yv s d)(N:gZ y.o.op=J->gH s.ao y.ix=J)(M:∀t,y.o.op=.alloc t->H3 cf t=J)
  (L:Y O.i=s.ni)(D:Y O.b=s.nb)(z:Y O.r=Y s.rs)
  (h:eZ p cf B A F G H (x::y::R) O s):eZ p cf B A F G H (y::x::R) O s:=by
 unfold uX at W;simp only[aw,iw,jL] at W;obtain⟨⟨w,P⟩,W⟩:=W;rcases W with(X|X)|X;exact axH V P X Q L D z h;have v:gZ y.o.op=true:=by
  unfold Ku at X;simp only[aw] at X;have:=X.1.1.1.1.1.1.2;cases u:y.o.op<;>rw[u] at this<;>simp[H0] at this;rfl
 exact axT V w X Q (N v) M h;exact axW V P X h
def amc{m:OM}{s P:S}{O:ai}(h:(gR cf m s).gives O P):∀n,gH s.ao n=J->(gZ m.o.op=J->n≠m.ix)->gH P.ao n=true:=by
 intro q X R;have V:∀{t:TypeId}{Q:ap}{d:cQ}{w:C}{i:Nat},q≠i->gH ((s.dw i t Q).put d w).ao q=true:=by
  intro t Q d w i N;rw[mG];unfold gH at X⊢;simp only[S.dw];rw[ss (λe=>N e.symm)];exact X
 unfold gR at h;split at h;exact h.elim;split at h;rename_i t W;split at h;split at h;cases h;exact V (R (by rw[W];rfl));exact h.elim;exact h.elim;rename_i t x W;split at h;split at h;cases h;exact V (R (by rw[W];rfl));exact h.elim;exact h.elim;rename_i t l L W;split at h;split at h;split at h;split at h;cases h;exact V (R (by rw[W];rfl));exact h.elim;exact h.elim;exact h.elim;exact h.elim;split at h;split at h;rename_i H Q M;split at h;cases h;refine V (λe=> ?_);subst e;have:=(nP X).1;simp[aP,(zY M).1] at this;exact h.elim;exact h.elim;exact h.elim;split at h;simp only[OR.gives] at h;split at h<;>(subst h;rw[mG];exact X);exact h.elim;obtain⟨v,-,rfl⟩:=BS h;rw[DT];exact X;obtain⟨v,-,rfl⟩:=BS h;rw[DT];exact X
def axY{m:OM}{s R:S}{O:ai}(h:(gR cf m s).gives O R):∀i,aP s.ao i=J->aP R.ao i=true:=by
 intro q X;have W:∀{t:TypeId}{V:ap}{d:cQ}{w:C}{i:Nat},aP ((s.dw i t V).put d w).ao q=true:=by
  intro t V d w i;rw[mG];unfold aP at X⊢;simp only[cY] at X⊢;simp only[S.dw];by_cases Q:i=q;subst Q;have M:i<Y s.ao:=by
   cases P:s.ao[i]? with
   |none=>rw[P] at X;cases X
   |some b=>exact(cu.1 P).1
  rw[Hk M];rfl;rw[ss Q];exact X
 unfold gR at h;split at h;exact h.elim;split at h;rename_i t N;split at h;split at h;cases h;exact W;exact h.elim;exact h.elim;rename_i t x N;split at h;split at h;cases h;exact W;exact h.elim;exact h.elim;rename_i t l L N;split at h;split at h;split at h;split at h;cases h;exact W;exact h.elim;exact h.elim;exact h.elim;exact h.elim;split at h;split at h;rename_i H V G;split at h;cases h;exact W;exact h.elim;exact h.elim;exact h.elim;split at h;simp only[OR.gives] at h;split at h<;>(subst h;rw[mG];exact X);exact h.elim;obtain⟨v,-,rfl⟩:=BS h;rw[DT];exact X;obtain⟨v,-,rfl⟩:=BS h;rw[DT];exact X
structure wD(s s':S):Prop where
 i:s.ni<=s'.ni
 b:s.nb<=s'.nb
 r:Y s.rs<=Y s'.rs
 bx:∀i,aP s.ao i=J->aP s'.ao i=J
def wD.put(s:S)(d:cQ)(v:C):wD s (s.put d v):=
 ⟨E8 (gr _ _ _).1.symm,E8 (gr _ _ _).2.1.symm,E8 (ko Y (gr s d v).2.2).symm,λi h=>by rw[mG];exact h⟩
def wD.trans{b c:S}(h:wD R b)(k:wD b c):wD R c:=⟨pO h.i k.i,pO h.b k.b,pO h.r k.r,λi X=>k.bx i (h.bx i X)⟩
def axZ{x:OM}{l1 k:cZ}{s:S}{O:ai}(af:x.dr=J)(al:x.so=E)(w:Y O.i=s.ni)(q:Y O.b=s.nb)(m:Y O.r=Y s.rs)(h:eZ p cf B A F G H (x::l1) O s)
  (j:∀f Q,Y f.i=Q.ni->Y f.b=Q.nb->Y f.r=Y Q.rs->(∀t,x.o.dst≠U t->Q.tmps[t]?=s.tmps[t]?)->(∀n,gH s.ao n=J->(gZ x.o.op=J->n≠x.ix)->gH Q.ao n=J)->wD s Q->eZ p cf B A F G H l1 f Q->eZ p cf B A F G H k f Q):eZ p cf B A F G H (x::k) O s:=by
 simp only[eZ] at h⊢;rcases h with⟨h1,X⟩|⟨h1,X⟩;exact .inl ⟨h1,j _ _ (by rw[(gr _ _ _).1];exact w) (by rw[(gr _ _ _).2.1];exact q) (by rw[(gr _ _ _).2.2];exact m) (λt d=>nc d) (λn D _=>by rw[mG];exact D) (wD.put _ _ _) X⟩
 ·refine .inr ⟨h1, ?_⟩;cases a:eH cf s x.o with
  |call g0 c=>
   rw[a] at X;rcases g0 with g|n
   rotate_left
   have N:=X.1;rw[al] at N;cases N;have X:qP _ _ _:=X;show qP _ _ _;cases ag:A g c s with
   |some ve=>
    obtain⟨pv,ex⟩:=ve;rw[ag] at X;exact⟨X.1,j _ _ (by rw[(gr _ _ _).1];exact w) (by rw[(gr _ _ _).2.1];exact q) (by rw[(gr _ _ _).2.2];exact m) (λt d=>nc d) (λn D _=>by rw[mG];exact alN D) (wD.trans (b:=s.plus ex) ⟨bY _,bY _,bY _,λi l=>by unfold aP;rw[alM l];exact l⟩ (wD.put _ _ _)) X.2⟩
   |none=>
   rw[ag] at X;obtain⟨ts,M,r,c1,c2,c3,c4,c5⟩:=X;refine⟨ts,M,r,c1,c2,c3,c4,λV W R=>(c5 V W R).mono ?_⟩;intro e W' he;cases e with
   |returned u=>
    obtain⟨xs,L,z,y,q4,q5⟩:=he;obtain⟨b1,b2,b3,b4⟩:=yu M (s.cut c M);obtain⟨l1,k,l3⟩:=Ah M xs (s.cut c M) O L w q (m.trans (FF c M s.rs).len.symm);refine⟨xs,L,z,y,q4,j _ _ (by rw[(gr _ _ _).1];exact l1) (by rw[(gr _ _ _).2.1];exact k) (by rw[(gr _ _ _).2.2];exact l3) (λt d=>by rw[nc d,b2];rfl) (λn D _=>by rw[mG,b1];exact D) (wD.trans (b:=((s.cut c M).cT M).2) ⟨by rw[<-w,<-l1];exact(DK [] _ _ []).li,by rw[<-q,<-k];exact(DK [] _ _ []).lb,by rw[<-m,<-l3];exact(DK [] _ _ []).lr,λi l=>by rw[b1];exact l⟩ (wD.put _ _ _)) q5⟩
   |panicked ch=>exact he
   |outgrown=>exact he
  |bI v=>rw[a] at X;exact X
  |no=>rw[a] at X;exact X
  |op=>
   rw[a] at X;simp only at X⊢;cases P:fj cf x.o x.bP x.dr s with
   |some b=>
    rw[P] at X;obtain⟨L,z,y⟩:=alK P;exact⟨X.1,λrv an=>j _ _ (by rw[L];exact w) (by rw[z];exact q) (by simp[ai.add,y,m]) (abG (by rw[af] at P;exact P)) (λn D _=>by rw[(PB (by rw[af] at P;exact P)).2.2];exact D) ⟨by rw[L];exact bY _,by rw[z];exact bY _,by rw[y];omega,λi l=>by rw[(PB (by rw[af] at P;exact P)).2.2];exact l⟩ (X.2 rv an)⟩
   |none=>
    rw[P] at X;obtain⟨Q,N,h4⟩:=X;obtain⟨L,z,y⟩:=alJ (Lh N);exact⟨Q,N,j _ _ (by rw[L];exact w) (by rw[z];exact q) (by rw[y];exact m) (alW (Lh N)) (amc (Lh N)) ⟨by rw[L];exact bY _,by rw[z];exact bY _,by rw[y];exact bY _,axY (Lh N)⟩ h4⟩
def amd{x y:OM}(h:uX B x y=J):x.so=E/\y.so=false:=by
 unfold uX at h;simp only[aw,iw] at h;exact h.1
def ax0{x y:OM}(h:uX B x y=J):x.dr=true:=by
 unfold uX at h;simp only[aw,jL] at h;replace h:=h.2;rcases h with(h|h)|h;exact(alS h).elim λ_ c=>c.xd
 unfold Ku at h;simp only[aw] at h;exact h.1.1.1.1.1.1.1.1;unfold OJ at h;simp only[aw] at h;exact h.1.1.1.1.1.1.1.1.1.1
end
section
variable{p:Sp}{k:bF}{B:dQ}{A:yg}{Kn:ai->S->Prop}{Kp:ai->C->S->Prop}{Yp:OM->cZ->ai->S->Nat->ap->Prop}
def abP(s:S)(m:OM):Prop:=∀d,m.o.dst=U d->yv s d
def ame{V:S}(W:wD R V)(Q:V.tmps[X]?=R.tmps[X]?)(h:yv R X):yv V X:=by
 rcases h with h|⟨w,h,P⟩;exact .inl (Q.trans h);exact .inr ⟨w,Q.trans h,C.eP W.i W.b W.r W.bx _ P⟩
def abQ(s:S)(m:OM):Prop:=gZ m.o.op=J->gH s.ao m.ix=J
def amf(Q:FG B A){m:OM}{V:cZ}:∀(X:cZ)(s:S)(O:ai),(∀x∈X,uX B x m=J)->(∀x∈X,abP s x)->abQ s m->(X.Pairwise λa b=>∀d,a.o.dst=U d->b.o.dst≠U d)->(∀x∈X,gZ x.o.op=J->gZ m.o.op=J->m.ix≠x.ix)->(∀t,m.o.op=.alloc t->H3 k t=J)->
  Y O.i=s.ni->Y O.b=s.nb->Y O.r=Y s.rs->eZ p k B A Kn Kp Yp (X++m::V) O s->eZ p k B A Kn Kp Yp (m::(X++V)) O s
 |[],s,O,_,_,_,_,_,_,_,_,_,h=>h
 |x::X,s,O,P,N,M,u,L,H,G,F,D,h=>by
  have R:=P x av;have q:x.dr=true:=ax0 R;have n:=(amd R).1;have z:=jC.1 u;have:eZ p k B A Kn Kp Yp (x::m::(X++V)) O s:=axZ (l1:=X++m::V) q n G F D h (λl j g f c ht af ag hr=>
   amf Q X j l (λy W=>P y (by simp[W])) (λy W e w=>ame ag (ht e (λhx=>z.1 y W e hx w)) (N y (by simp[W]) e w))
    (λv=>af m.ix (M v) (λal=>L x av al v)) z.2 (λy W=>L y (by simp[W])) H g f c hr)
  exact axX Q R (N x av) M H G F D this
def abR{D:cq}{s:S}{a:Act}{W:World}{O:ai}{V:aq}(R:az p.S0 p.w0 D k.ty V O s a W){m:OM}{b:Bool}(h:iA B m s O=U b):mw m.o (yielded B a.tmps)=b:=by
 unfold iA at h;cases X:m.o.guard with
 |none=>rw[X] at h;cases h;simp[mw,X]
 |some q=>
  obtain⟨j,N⟩:=q;rw[X] at h;simp only at h;split at h;rename_i d M;have P:=alg R M;split at h;rename_i e Q;split at h;cases h;have:=P.1 e Q;simp only[mw,X,this];cases e.ab O<;>cases N<;>rfl;cases h;rename_i Q;cases h;simp[mw,X,P.2 Q];cases h;cases h
def Uu(p:Sp)(k:bF)(A:yg):Prop:=∀(g:FuncId)(X:ap)(s:S)(v:C)(R:bG),A g X s=U (v,R)->
 ∀(D:cq)(O:ai)(V:aq)(a:Act)(W:World),s.bd=J->az p.S0 p.w0 D k.ty V O s a W->fk k.gl O->(∀X W,(callFunc g X).run p.P W=.ok (.enter g X) W)/\
  Calls p.P g (C.aG O V X).toArray W λe N=>∃Q,e=.returned (v.ab O Q)/\az p.S0 p.w0 D k.ty Q O (s.plus R) a N/\bH s O V (s.plus R) O Q
structure PD(B:dQ)(bs:aq)(listed:Array Bool)(rem:cZ):Prop where
 mem:∀m∈rem,B[m.j]?=U m.o
 un:∀i,i<B.size->(listed.getD i J=E<->∃m∈rem,m.j=i)
 sz:listed.size=B.size
 dn:∀(j:Nat)(o:Oper),B[j]?=U o->listed.getD j E=J->∀e∈mb o,listed.getD e E=J
 pr:rem.Pairwise λx y=>(bs.getD y.j 0).testBit x.j=J\/uX B x y=J
 tp:∀xs m ys,rem=xs++m::ys->∀e∈mb m.o,listed.getD e E=J\/∃x∈xs,x.j=e
 nd:rem.Pairwise λx y=>x.j≠y.j
 ds:rem.Pairwise λa b=>∀d,a.o.dst=U d->b.o.dst≠U d
 so:∀xs m ys,rem=xs++m::ys->m.so=J->ys.Pairwise λx y=>(bs.getD y.j 0).testBit x.j=J
def amg{e:Edge}(h:e∈l.after)(X:avS .any e=J):e.on∈mb l:=iD.2 ⟨e,qE.2 ⟨by simpa using h,X⟩,rfl⟩
def amh(h:X∈mb l):∃e∈l.after,avS .any e=J/\e.on=X:=by
 obtain⟨e,W,rfl⟩:=iD.1 h;obtain⟨V,R⟩:=qE.1 W;exact⟨e,by simpa using V,R,rfl⟩
structure Lt(B:dQ)(bs:aq):Prop where
 lt:∀(j:Nat)(o:Oper),B[j]?=U o->∀e∈mb o,e<j
 cl:∀(j:Nat)(o:Oper),B[j]?=U o->∀i,i<B.size->(bs.getD j 0).testBit i=J->i∈mb o\/∃e∈mb o,(bs.getD e 0).testBit i=J
def ax1{listed:Array Bool}{O:cZ}(W:Lt B t)(N:PD B t listed O):∀(j:Nat)(o:Oper),B[j]?=U o->(∀e∈mb o,listed.getD e E=J)->∀i,i<B.size->(t.getD j 0).testBit i=J->listed.getD i E=true:=by
 intro j;induction j using SX with
 |_ j M=>
  intro o X V i R L;rcases W.cl j o X i R L with h|⟨e,Q,h⟩;exact V i h;have H:=W.lt j o X e Q;have G:j<B.size:=(oY.1 X).1;have P:B[e]?=U B[e]:=avo aa;exact M e H B[e] P (N.dn e _ P (V e Q)) i R h
def Iq(a:Array Bool)(i j:Nat)(b:Bool)(X:i<a.size):(a.setIfInBounds i J).getD j b=if j=i then J else a.getD j b:=by
 by_cases h:j=i;subst h;simp[X];simp[ai4 (Ne.symm h),h]
def ax2{r:aq}{listed:Array Bool}{P O:cZ}{m:OM}(X:PD B r listed (P++m::O))(l:∀e∈mb m.o,listed.getD e E=J):PD B r (listed.setIfInBounds m.j J) (P++O):=by
 have q:=X.mem m av;have k:m.j<B.size:=(oY.1 q).1;have D:m.j<listed.size:=by rw[X.sz];exact k
 have L:avT (P++O) (P++m::O):=aja (ajc _) (ai7 _ _);have g:∀x∈P++O,x.j≠m.j:=by
  intro x W;have y:=X.nd;rw[oc] at y;rcases eW.1 W with h|h;exact y.2.2 x h m av;exact Ne.symm ((jC.1 y.2.1).1 x h)
 refine⟨λx W=>X.mem x (L.subset W),λi f=> ?_,by simp[X.sz],λj o w H e M=> ?_,X.pr.sublist L, ?_,X.nd.sublist L,X.ds.sublist L, ?_⟩;rw[Iq _ _ _ _ D];by_cases v:i=m.j;subst v;simp only[cS,aJl,false_iff];rintro⟨x,W,H⟩;exact g x W H;rw[aT v,X.un i f];constructor;rintro⟨x,W,rfl⟩;refine⟨x, ?_,rfl⟩;simp only[eW,dV] at W⊢;rcases W with h|h|h;exact .inl h;subst h;exact aZ rfl v;exact .inr h;rintro⟨x,W,rfl⟩;exact⟨x,L.subset W,rfl⟩;rw[Iq _ _ _ _ D];rw[Iq _ _ _ _ D] at H;split;rfl;by_cases n:j=m.j;subst n;rw[q] at w;cases w;exact l e M;rw[aT n] at H;exact X.dn j o w H e M;intro u N G t e M;rw[Iq _ _ _ _ D];by_cases A:e=m.j;left;rw[aL A];rw[aT A];rcases aIX.1 t with⟨R,Q,V⟩|⟨R,Q,V⟩
 
 have:=X.tp (P++m::R) N G (by rw[V];simp) e M;rcases this with h|⟨x,W,F⟩;exact .inl h;right;refine⟨x, ?_,F⟩;rw[Q];simp only[eW,dV] at W⊢;rcases W with h|h|h;exact .inl h;subst h;exact aZ F.symm A;exact .inr h
 
 cases R with
 |nil=>
  simp at Q V;subst Q;have:=X.tp (P++[m]) N G (by rw[<-V];simp) e M;rcases this with h|⟨x,W,F⟩;exact .inl h;right;refine⟨x, ?_,F⟩;simp only[eW,Hm] at W;rcases W with h|h;exact h;subst h;exact aZ F.symm A
 |cons z R=>
  simp only[ef,xU] at V;obtain⟨rfl,V⟩:=V;have:=X.tp u N (R++m::O) (by rw[Q];simp) e M;exact this
 intro u N G t s;rcases aIX.1 t with⟨R,Q,V⟩|⟨R,Q,V⟩;exact X.so (P++m::R) N G (by rw[V];simp) s;cases R with
 |nil=>
  simp at Q V;subst Q;exact X.so (P++[m]) N G (by rw[<-V];simp) s
 |cons z R=>
  simp only[ef,xU] at V;obtain⟨rfl,V⟩:=V;have:=X.so u N (R++m::O) (by rw[Q];simp) s;rw[V];exact this.sublist (aja (ajc _) (ai7 _ _))
def ax3{F:Fence}(H:rL F)(r:jS p k)(a4:Uu p k A){n:Nat}{D:cq}{Q:Exit->Act->World->Prop}(HP:∀ch a' M pd y,eN p.w0 D pd y a'.defers M->p.R (.panicked ch) M->Q (.panic ch) a' M)
  {m:OM}{an:cZ}{s:S}{O:ai}{V:aq}{a:Act}{W:World}(h:eZ p k B A Kn Kp Yp (m::an) O s)(R:az p.S0 p.w0 D k.ty V O s a W)(q:fk k.gl O)(hm:B[m.j]?=U m.o)(a3:m.dr=J)
  {X:Act->World->Prop}(hK:∀w O' i a' M,bH s O V w O' i->(∀t,m.o.dst≠U t->w.tmps[t]?=s.tmps[t]?)->(∀n,gH s.ao n=J->(gZ m.o.op=J->n≠m.ix)->gH w.ao n=J)->az p.S0 p.w0 D k.ty i O' w a' M->eZ p k B A Kn Kp Yp an O' w->X a' M)
  (a9:∀v,Kp O v s->Q (.panic [{v:=v.ab O V,recovered:=E}]) a W)
  (hY:∀yn G,eH k s m.o=.call (.yl yn) G->m.so=J->Yp m an O s yn G->m.o.wpIn F n p.P a W X Q):wpOpIn F n p.P B Q m.j X a W:=by
 unfold wpOpIn;rw[hm];simp only;simp only[eZ] at h;rcases h with⟨h1,N⟩|⟨h1,N⟩;rw[abR R h1];exact⟨λf _=>H.fn f,hK _ O V _ W ((bH.refl _ _ _).put _ _) (λt ht=>nc ht) (λn z _=>by rw[mG];exact z) (R.put m.o.dst (.bO [])) N⟩
 ·rw[abR R h1];simp only[cS];cases L:eH k s m.o with
  |call g0 G=>
   rw[L] at N;rcases g0 with g|yn
   rotate_left
   exact hY yn G L N.1 N.2;have N:qP _ _ _:=N;cases aA:A g G s with
   |some ve=>
    obtain⟨pv,ex⟩:=ve;rw[aA] at N;obtain⟨aC,a0⟩:=a4 g G s pv ex aA D O V a W N.1 R q;refine⟨λf _=>H.fn f, ?_⟩;have af:∀c,m.o.op≠ .defer c:=λc ag=>by simp[eH,ag] at L
    rw[zI _ _ _ af,Uc R q L aC,SR];refine⟨λhd=>by rw[H.yt] at hd;simp at hd,CallsIn.mono (H.calls a0) (λe M d=> ?_)⟩;obtain⟨i,rfl,u,hl⟩:=d;exact hK _ O i _ M (hl.put _ _) (λt ht=>nc ht) (λn z _=>by rw[mG];exact alN z) (u.put m.o.dst pv) N.2
   |none=>
   rw[aA] at N;obtain⟨ts,ks,l,c1,c2,c3,c4,c5⟩:=N;simp only[S.fp,aw] at c4;obtain⟨⟨hb,-⟩,ba⟩:=c4;have aC:=r.Ai g (.inl (by rw[c1];rfl));have a0:=c5 V W (by rw[r.pt];exact(R.mem.aaw _).mX (akr _ _));refine⟨λf _=>H.fn f, ?_⟩;have af:∀c,m.o.op≠ .defer c:=λc ag=>by simp[eH,ag] at L
   rw[zI _ _ _ af,Uc R q L aC,SR];refine⟨λhd=>by rw[H.yt] at hd;simp at hd,CallsIn.mono (H.calls a0) (λe M d=> ?_)⟩;cases e with
   |returned v=>
    obtain⟨xs,q1,q2,q3,q4,q5⟩:=d;rw[r.pt] at q4;obtain⟨e1,e2,e3,e4⟩:=yu ks (s.cut G ks);subst q2;have R1:az p.S0 p.w0 D k.ty V O (s.cut G ks) a W:=R.mX (FF G ks s.rs);have u:=(R1.called (Pg hb (FF G ks s.rs).len) ba q1 q3 (λb hb=>aln R hb) q4).put m.o.dst (one l);refine hK _ (O.ext xs) V _ M (bH.put (s:=s) ⟨DK _ _ _ _,by rw[e1];exact λ_ h=>h,by rw[e1];exact bY _,by rw[e3];exact bY _⟩ _ _) (λt ht=>by rw[nc ht,e2];rfl) (λn z _=>by rw[mG,e1];exact z) u q5
   |panicked ch=>exact HP ch a M _ _ (R.dp.below d.1) d.2
   |outgrown=>exact d.elim
  |bI v=>
   rw[L] at N;refine⟨λf _=>H.fn f, ?_⟩;have af:∀c,m.o.op≠ .defer c:=λc ag=>by simp[eH,ag] at L
   rw[zI _ _ _ af,alh R q L];exact a9 v N
  |no=>rw[L] at N;exact N.elim
  |op=>
   rw[L] at N;simp only at N;cases x:fj k m.o m.bP m.dr s with
   |some b=>
    rw[x] at N;obtain⟨z,N⟩:=N;obtain⟨v,M,rv,a1,bb,u,hl⟩:=aa6 R r.ll q x z;exact Ag H a1 (abo x) (hK b.s _ V _ M hl (abG (by rw[a3] at x;exact x)) (λn z _=>by rw[(PB (by rw[a3] at x;exact x)).2.2];exact z) u (N rv (by rw[r.pt];exact bb)))
   |none=>
   rw[x] at N;obtain⟨w,h3,h4⟩:=N;have al:=Lh h3;obtain⟨v,M,i,a1,u,hl⟩:=Ph R r.ll q m al;exact Ag H a1 (Pt al) (hK w O i _ M hl (alW al) (amc al) u h4)
def ax4{W:Type}{V X:List W}{m x:W}(h:x∈(V++X).dropLast):x∈(V++m::X).dropLast:=by
 rw[avk av];cases X with
 |nil=>
  rw[Kb] at h;exact xQ _ ((aI8 _).subset h)
 |cons y X=>
  rw[avk av] at h;rcases eW.1 h with h|h;exact xQ _ h;rw[List.dropLast_cons_cons];exact Of _ (Dd _ h)
def ax5(b1:FG B A)(b2:Uu p k A){Kn:dG->ai->S->Prop}{Kp:dG->ai->C->S->Prop}{Yp:dG->OM->cZ->ai->S->Nat->ap->Prop}{F:Fence}(hF:rL F)(ok:jS p k){D:cq}{Q:Exit->Act->World->Prop}(HP:∀ch g M pd y,eN p.w0 D pd y g.defers M->p.R (.panicked ch) M->Q (.panic ch) g M)(hC:Lt B t)
  {s0:S}{O0:ai}{V0:aq}{L0:dG}
  (hk:∀G H z g M w,bH s0 O0 V0 G H z->dq s0.ax L0 w->az p.S0 p.w0 D k.ty z H G g M->Kn w H G->Q .normal g M)
  (bg:∀v G H z g M w,bH s0 O0 V0 G H z->dq s0.ax L0 w->az p.S0 p.w0 D k.ty z H G g M->Kp w H v G->Q (.panic [{v:=v.ab H z,recovered:=E}]) g M)
  (hy:∀(L:dG)(m:OM)(bk:cZ)(s:S)(O:ai)(V:aq)(a:Act)(W:World)(yn:Nat)(a3:ap)(R':Ending->World->Prop),bH s0 O0 V0 s O V->dq s0.ax L0 L->az p.S0 p.w0 D k.ty V O s a W->fk k.gl O->Yp L m bk O s yn a3->
   (∀v G H z M w,bH s O V G H z->dq s.ax L w->az p.S0 p.w0 D k.ty z H G a M->eZ p k B A (Kn w) (Kp w) (Yp w) bk H (G.put m.o.dst v)->R' (.returned (v.ab H z)) M)->
   (∀v G H z M w,bH s O V G H z->dq s.ax L w->az p.S0 p.w0 D k.ty z H G a M->Kp w H v G->R' (.panicked [{v:=v.ab H z,recovered:=E}]) M)->
   (∀ch M pd y,eN p.w0 D pd y a.defers M->p.R (.panicked ch) M->R' (.panicked ch) M)->
   ∀(m:Nat),YieldAt F m p.P (O.y.getD yn 0) (C.aG O V a3).toArray W R'):
  ∀(al:Nat)(listed:Array Bool)(af:cZ)(s:S)(O:ai)(V:aq)(a:Act)(W:World)(L:dG),Y af=al->PD B t listed af->(∀m∈af,m.dr=J)->(∀m∈af,∀N,m.o.op=.alloc N->H3 k N=J)->(af.Pairwise λa b=>gZ a.o.op=J->gZ b.o.op=J->a.ix≠b.ix)->(((∀m∈af,abQ s m)/\(∀m∈af.dropLast,abP s m))\/(af.Pairwise λx y=>(t.getD y.j 0).testBit x.j=J))->bH s0 O0 V0 s O V->dq s0.ax L0 L->az p.S0 p.w0 D k.ty V O s a W->fk k.gl O->eZ p k B A (Kn L) (Kp L) (Yp L) af O s->
   wpAnyIn F X p.P .any B Q al listed a W:=by
 intro al;induction al with
 |zero=>
  intro listed af s O V a W L a4 hW ba hZ bl hA hl hL R hg h;have b3:af=[]:=E1.1 a4;subst b3;refine⟨?_,hk s O V a W L hl hL R h⟩;cases hr:S2 .any B listed with
  |nil=>rfl
  |cons i r=>
   obtain⟨h1,o,ho,-⟩:=mem_ready.1 (show i∈S2 .any B listed by rw[hr];simp);have:=(hW.un i (oY.1 ho).1).1 h1;obtain⟨m,hm,-⟩:=this;cases hm
 |succ al ih=>
  intro listed af s O V a W L a4 hW ba hZ bl hA hl hL R hg h;refine⟨λhr=> ?_,λi hi=> ?_⟩
  
  exfalso;cases af with
  |nil=>simp at a4
  |cons m ys=>
   have an:=hW.mem m av;have:m.j∈S2 .any B listed:=by
    refine mem_ready.2 ⟨(hW.un m.j (oY.1 an).1).2 ⟨m,av,rfl⟩,m.o,an,λe he hb=> ?_⟩;rcases hW.tp [] m ys rfl e.on (amg he hb) with h1|⟨x,u,-⟩;exact h1;cases u
   rw[hr] at this;cases this
  obtain⟨h1,o,ho,b4⟩:=mem_ready.1 hi;obtain⟨m,hm,rfl⟩:=(hW.un i (oY.1 ho).1).1 h1;obtain⟨q,ys,rfl⟩:=aJm hm;have an:=hW.mem m hm;rw[an] at ho;cases ho;have hd:∀e∈mb m.o,listed.getD e E=true:=λe he=>by
   obtain⟨ed,h2,h3,rfl⟩:=amh he;exact b4 ed h2 h3
  have br:∀x∈q,¬(t.getD m.j 0).testBit x.j=true:=by
   intro x u h2;have b5:=hW.mem x (by simp[u]);have bb:x.j<B.size:=(oY.1 b5).1;have h3:=ax1 hC hW m.j m.o an hd x.j bb h2;have h4:=(hW.un x.j bb).2 ⟨x,by simp[u],rfl⟩;have b6:x.j<listed.size:=by rw[hW.sz];exact bb
   simp[b6] at h3 h4;rw[h3] at h4;cases h4
  have bt:∀x∈q,uX B x m=true:=by
   intro x u;have b7:=(oc.1 hW.pr).2.2 x u m av;rcases b7 with h2|h2;exact aZ h2 (br x u);exact h2
  have bc:=oc.1 hW.ds;have aA:=oc.1 bl;have hb:eZ p k B A (Kn L) (Kp L) (Yp L) (m::(q++ys)) O s:=by
   rcases hA with⟨bd,hA⟩|hA;exact amf b1 q s O bt (λx u=>hA x (by rw[avk av];exact xQ _ u)) (bd m hm) bc.1 (λx u aC a9 e=>aA.2.2 x u m av aC a9 e.symm) (hZ m hm) R.ei R.eb R.er h;cases q with
   |nil=>exact h
   |cons x q=>exact aZ ((oc.1 hA).2.2 x av m av) (br x av)
  have bx:∀(G:S)(H:ai)(z:aq)(g:Act)(M:World)(w:dG),(((∀m∈q++ys,abQ G m)/\(∀m∈(q++ys).dropLast,abP G m))\/((q++ys).Pairwise λx y=>(t.getD y.j 0).testBit x.j=J))->bH s0 O0 V0 G H z->dq s0.ax L0 w->az p.S0 p.w0 D k.ty z H G g M->fk k.gl H->eZ p k B A (Kn w) (Kp w) (Yp w) (q++ys) H G->wpAnyIn F X p.P .any B Q al (listed.setIfInBounds m.j J) g M:=
   λG H z g M w b8 ag a0 R' ca a1=>ih _ (q++ys) G H z g M w (by simp at a4⊢;omega) (ax2 hW hd) (λx u=>ba x (by rcases eW.1 u with l|l<;>simp[l])) (λx u=>hZ x (by rcases eW.1 u with l|l<;>simp[l]))
    (oc.2 ⟨aA.1,(jC.1 aA.2.1).2,λa ha b hb=>aA.2.2 a ha b (by simp[hb])⟩) b8 ag a0 R' ca a1
  have cc:avT (q++ys) (q++m::ys):=aja (ajc _) (ai7 _ _);refine ax3 hF ok b2 HP hb R hg an (ba m hm) (λG H z g M ag cl cn R' a1=> ?_) (λv hv=>bg v s O V a W L hl hL R hv) (λyn a3 hc b0 co=> ?_);refine bx G H z g M L ?_ (hl.trans ag) hL R' (hg.ext ag.ext) a1;rcases hA with⟨bd,hA⟩|hA;left;refine⟨λx u aC=>cn x.ix (bd x (by rcases eW.1 u with l|l<;>simp[l]) aC) (λa9=>by
   rcases eW.1 u with l|l;exact aA.2.2 x l m av aC a9;exact λe=>(jC.1 aA.2.1).1 x l a9 aC e.symm),λx u=> ?_⟩
  intro d bf;have cp:m.o.dst≠U d:=by
   rcases eW.1 ((aI8 _).subset u) with l|l;exact bc.2.2 x l m av d bf;intro he;exact(jC.1 bc.2.1).1 x l d he bf
  exact ame ⟨by rw[<-R.ei,<-R'.ei];exact ag.ext.li,by rw[<-R.eb,<-R'.eb];exact ag.ext.lb,by rw[<-R.er,<-R'.er];exact ag.ext.lr,ag.mono⟩ (cl d cp) (hA x (ax4 u) d bf);exact .inr (hA.sublist cc);have cs:q=[]:=by
   cases q with
   |nil=>rfl
   |cons x q=>
    have:=(amd (bt x av)).2;rw[b0] at this;cases this
  subst cs;have ct:ys.Pairwise λx y=>(t.getD y.j 0).testBit x.j=true:=hW.so [] m ys rfl b0
  have hY:=hy L m ys s O V a W yn a3 (λe M=>match e with
    |.returned v=>wpAnyIn F X p.P .any B Q al (listed.setIfInBounds m.j J) (a.put m.o.dst v) M
    |.panicked ch=>Q (.panic ch) a M
    |.outgrown=>LetsOut Q) hl hL R hg co
   (λv G H z M w ag a0 R' a1=>bx (G.put m.o.dst v) H z _ M w (.inr ct) (hl.trans (ag.put _ _)) (hL.trans a0 hl.ax) (R'.put m.o.dst v) (hg.ext ag.ext) a1)
   (λv G H z M w ag a0 R' hs=>bg v G H z a M w (hl.trans ag) (hL.trans a0 hl.ax) R' hs)
   (λch M pd y hA hR=>HP ch a M pd y hA hR) (X-1)
  obtain⟨fn,cB,assign,body,cv,cx⟩:=hY;refine⟨λf _=>hF.fn f, ?_⟩;have cy:∀c,m.o.op≠ .defer c:=λc cA=>by simp[eH,cA] at hc
  rw[zI _ _ _ cy,abm R hg hc,cv];rw[avA];refine⟨λhd=>by rw[hF.yt] at hd;simp at hd,RoundIn.mono cx (λe M he=> ?_)⟩;cases e<;>exact he
end
def PE:cQ->Fence
 |none=>Fence.wide
 |U l=>Fence.wide.inRound l
def Am:∀i,rL (PE i)
 |none=>axn
 |U l=>alf l
def ax6:∀i,(PE i).round=i
 |none=>rfl
 |U _=>rfl
def rL.room{F:Fence}(W:rL F)(n:Nat):F.room n:=λd X=>by rw[W.yt] at X;cases X
def jN(i:cQ)(j:FuncId)(P:Program)(c:Code)(Q:Exit->Act->World->Prop)(a:Act)(w:World):Prop:=
 ∀(b:Frame)(k:List Item)(X:List Frame),b.roundOf=i->b.fn=j->
  ∃e W V,Q e W V/\ArrivesIn (Machine.fenced P Fence.wide) P (lone (b.atR a (.code c::k)) X w) b k X e W V
section
variable{i:cQ}{j:FuncId}{P:Program}{Q:Exit->Act->World->Prop}{a:Act}{w:World}
def u9{c:Code}{n:Nat}(h:c.wpIn (PE i) n P Q a w):jN i j P c Q a w:=by
 intro b k W V _;obtain⟨e,R,O,N,X⟩:=h b k W (V.trans (ax6 i).symm) ((Am i).fn _) ((Am i).room _);rw[(Am i).eq] at X;exact⟨e,R,O,N,X⟩
def ax7{c:Code}{X:Exit->Act->World->Prop}(h:jN i j P c Q a w)(W:∀e a w,Q e a w->X e a w):jN i j P c X a w:=
 λb k V R O=>let⟨e,N,M,q,r⟩:=h b k V R O;⟨e,N,M,W _ _ _ q,r⟩
def Ir{x y:Code}(h:jN i j P x (Exit.then (jN i j P y Q) Q) a w):jN i j P (Code.seq x y) Q a w:=by
 intro b k N M L;have X:(lone (b.atR a (.code (.seq x y)::k)) N w).fenced P Fence.wide:=fenced_wide _ _;obtain⟨e,R,O,W,V⟩:=h b (.code y::k) N M L;cases e with
 |normal=>
  obtain⟨H,G,F,D,B⟩:=W b k N M L;exact⟨H,G,F,D,.of_steps (.head X stepR_seq V) B⟩
 |exit id=>exact⟨_,R,O,W,.of_steps (.one X stepR_seq) (.pass (x:=.code y) rfl (λ_ _=>.inl av) V)⟩
 |goto l=>exact⟨_,R,O,W,.of_steps (.one X stepR_seq) (.pass (x:=.code y) rfl (λ_ _=>.inl av) V)⟩
 |ret=>exact⟨_,R,O,W,.of_steps (.one X stepR_seq) (.pass (x:=.code y) rfl (λ_ _=>.inl av) V)⟩
 |panic A=>exact⟨_,R,O,W,.of_steps (.one X stepR_seq) (.pass (x:=.code y) rfl (λ_ _=>.inl av) V)⟩
 |outgrown=>exact⟨_,R,O,W,.of_steps (.one X stepR_seq) (.pass (x:=.code y) rfl (λ_ _=>.inl av) V)⟩
def ax8{c:Code}(h:jN i j P c (Exit.inBlock X Q) a w):jN i j P (Code.block X c) Q a w:=by
 intro b k z y x;have W:(lone (b.atR a (.code (.block X c)::k)) z w).fenced P Fence.wide:=fenced_wide _ _;obtain⟨e,O,N,V,R⟩:=h b (.inBlock X::k) z y x;cases e with
 |normal=>exact⟨.normal,O,N,V,.head W stepR_block (StepsIn.trans R (.one (fenced_wide _ _) stepR_inBlock))⟩
 |exit L=>
  by_cases hid:L=X;simp only[Exit.inBlock,hid,cS] at V;exact⟨.normal,O,N,V,.head W stepR_block (R.1 k (by simp[exitTo,hid]))⟩;simp only[Exit.inBlock,hid,gw] at V;have this:(X==L)=false:=by simp;exact λh=>hid h.symm
  have H:exitTo L (.inBlock X::k)=exitTo L k:=by simp[exitTo,this]
  exact⟨.exit L,O,N,V,λG M=>.head W stepR_block (R.1 G (by rw[H];exact M)),
   λF M=>let⟨D,B,A⟩:=R.2 F (by rw[H];exact M);⟨D,B,.head W stepR_block A⟩⟩
 |goto l=>
  have H:gotoIn l (.inBlock X::k)=gotoIn l k:=by simp[gotoIn]
  exact⟨_,O,N,V,λG M=>.head W stepR_block (R.1 G (by rw[H];exact M)),
   λF M=>let⟨D,B,A⟩:=R.2 F (by rw[H];exact M);⟨D,B,.head W stepR_block A⟩⟩
 |ret=>exact⟨_,O,N,V,.of_steps (.one W stepR_block) R⟩
 |panic v=>exact⟨_,O,N,V,.of_steps (.one W stepR_block) R⟩
 |outgrown=>exact⟨_,O,N,V,.of_steps (.one W stepR_block) R⟩
def ax9{c:Code}(h:jN i j P c (λe a w=>(∀l,e≠ .goto l)/\Q e a w) a w):jN i j P (Code.scope c) Q a w:=by
 intro b k X G F;have W:(lone (b.atR a (.code (.scope c)::k)) X w).fenced P Fence.wide:=fenced_wide _ _;have V:step P (lone (b.atR a (.code (.scope c)::k)) X w)=.next (lone (b.atR a (.code c::.inScope c::k)) X w):=step_lone_go (by simp[stepG,stepG.exec,Frame.atR])
 have D:∀a w,step P (lone (b.atR a (.inScope c::k)) X w)=.next (lone (b.atR a k) X w):=λa w=>step_lone_go (by simp[stepG,stepG.exec,Frame.atR])
 obtain⟨e,O,N,⟨B,M⟩,R⟩:=h b (.inScope c::k) X G F;cases e with
 |normal=>exact⟨.normal,O,N,M,.head W V (StepsIn.trans R (.one (fenced_wide _ _) (D _ _)))⟩
 |exit id=>
  have H:exitTo id (.inScope c::k)=exitTo id k:=by simp[exitTo]
  exact⟨.exit id,O,N,M,λA L=>.head W V (R.1 A (by rw[H];exact L)),λz L=>let⟨y,x,v⟩:=R.2 z (by rw[H];exact L);⟨y,x,.head W V v⟩⟩
 |goto l=>exact aZ rfl (B l)
 |ret=>exact⟨_,O,N,M,.of_steps (.one W V) R⟩
 |panic u=>exact⟨_,O,N,M,.of_steps (.one W V) R⟩
 |outgrown=>exact⟨_,O,N,M,.of_steps (.one W V) R⟩
def Lu{c:Operand}{x y:Code}{t:Bool}(X:a.eval c=.bool t)(h:jN i j P (if t then x else y) Q a w):jN i j P (Code.cond c x y) Q a w:=by
 intro b k W V R;obtain⟨e,O,N,M,L⟩:=h b k W V R;exact⟨e,O,N,M,.of_steps (.one (fenced_wide _ _) (stepR_cond X)) L⟩
def PF(i:cQ)(j:FuncId)(P:Program)(c:Code)(Q:Exit->Act->World->Prop):Nat->Act->World->Prop
 |0,_,_=>False
 |m+1,a,w=>jN i j P c (Exit.then (PF i j P c Q m) Q) a w
def ami{c:Code}(m:Nat)(h:PF i j P c Q m a w):jN i j P (Code.loop c) Q a w:=by
 intro b k O H G;have F:∀m a w,PF i j P c Q m a w->
   ∃e M L,Q e M L/\ArrivesIn (Machine.fenced P Fence.wide) P (lone (b.atR a (.code c::.inLoop c::k)) O w) b k O e M L:=by
  intro m;induction m with
  |zero=>intro a w h;exact h.elim
  |succ m D=>
   intro a w h;obtain⟨e,X,W,V,R⟩:=h b (.inLoop c::k) O H G;have N:∀{e:Exit},e≠ .normal->ArrivesIn (Machine.fenced P Fence.wide) P (lone (b.atR a (.code c::.inLoop c::k)) O w) b (.inLoop c::k) O e X W->ArrivesIn (Machine.fenced P Fence.wide) P (lone (b.atR a (.code c::.inLoop c::k)) O w) b k O e X W:=
    λB A=>.pass (x:=.inLoop c) rfl (λ_ _=>.inl B) A
   cases e with
   |normal=>
    obtain⟨z,y,v,u,t⟩:=D X W V;exact⟨z,y,v,u,.of_steps (StepsIn.trans R (.one (fenced_wide _ _) stepR_inLoop)) t⟩
   |exit id=>exact⟨_,X,W,V,N av R⟩
   |goto l=>exact⟨_,X,W,V,N av R⟩
   |ret=>exact⟨_,X,W,V,N av R⟩
   |panic s=>exact⟨_,X,W,V,N av R⟩
   |outgrown=>exact⟨_,X,W,V,N av R⟩
 obtain⟨e,M,L,V,R⟩:=F m a w h;exact⟨e,M,L,V,.of_steps (.one (fenced_wide _ _) stepR_loop) R⟩
def aya{c:Code}(X:Nat->Act->World->Prop)(V:Nat)(L:X V a w)
  (round:∀n a w,X n a w->jN i j P c (Exit.then (λO M=>∃R,R<n/\X R O M) Q) a w):jN i j P (Code.loop c) Q a w:=by
 refine ami (V+1) ?_;have H:∀N n a w,n<N->X n a w->PF i j P c Q N a w:=by
  intro N;induction N with
  |zero=>intro n a w h;omega
  |succ N G=>
   intro n a w B F;refine ax7 (round n a w F) ?_;intro e O M W;cases e with
   |normal=>
    obtain⟨R,A,D⟩:=W;exact G R O M aa D
   |exit id=>exact W
   |goto l=>exact W
   |ret=>exact W
   |panic z=>exact W
   |outgrown=>exact W
 exact H (V+1) V a w aa L
def abS(i:cQ)(j:FuncId)(P:Program)(l:Nat)(Q:Exit->Act->World->Prop)(X:Act):Ending->World->Prop
 |.returned _,W=>∃R V,(Instr.endLoop l).run P W=.ok R V/\
   (match R with
    |none=>Q .normal X V
    |U c=>jN i j P c Q X V)
 |.panicked chain,W=>Q (.panic chain) X W
 |.outgrown,_=>False
def ayb{g:Operand}{W:Array Tmp}{assign body:Code}
  (h:∃(l:Nat)(mark:BM)(V:World)(d:Deferred)(R:World)(f:FuncId)(O:mR)(N:World),
   (Instr.enterLoop j a.tmps W assign body i).run P w=.ok (l,mark) V/\
   (resolve a.eval (rangeCall g l) 0).run P V=.ok d R/\
   (invoke d.target d.args).run P R=.ok (.enter f O) N/\
   Calls P f O N (abS i j P l Q {a with defers:=mark++a.defers})):
  jN i j P (Code.rangeFunc g W assign body) Q a w:=by
 intro b k X H G;obtain⟨l,mark,V,d,R,f,O,N,F,s,r,M⟩:=h;obtain⟨hF,M⟩:=(callsIn_wide (n:=0)).2 M;rw[<-H,<-G] at F;have D:(lone (b.atR a (.code (.rangeFunc g W assign body)::k)) X w).fenced P Fence.wide:=fenced_wide _ _;have B:=stepR_rangeFunc (P:=P) (b:=b) (a:=a) (k:=k) (cs:=X) (w:=w) F s r;obtain⟨e,q,fr,L,A,al,z⟩:=M (b.atR {a with defers:=mark++a.defers} (.inRangeFunc l::k)::X) (room_wide _);cases e with
 |outgrown=>exact L.elim
 |returned v=>
  obtain⟨y,x,p,u⟩:=L;have t:StepsIn (Machine.fenced P Fence.wide) P (lone (b.atR a (.code (.rangeFunc g W assign body)::k)) X w) (lone (b.atR {a with defers:=mark++a.defers} ((y.map Item.code).toList++k)) X x):=by
   refine .head D B (StepsIn.trans A (.head (fenced_wide _ _) ?_ (.one (fenced_wide _ _) (stepR_endRangeFunc p))));rw[<-finish_atR_inRangeFunc l v];exact step_leave_returned z
  cases y with
  |none=>exact⟨.normal,_,x,u,t⟩
  |some c=>
   obtain⟨o,m,af,hq,ag⟩:=u b k X H G;exact⟨o,m,af,hq,.of_steps t ag⟩
 |panicked chain=>
  refine⟨.panic chain,_,q,L,.inRangeFunc l::k,.head D B (StepsIn.trans A (.one (fenced_wide _ _) ?_))⟩;rw[<-Frame.raise_atR];exact step_leave_panicked z
end
def Lv{P:Program}{f:FuncId}{O:Func}{c:Code}{X:mR}{w:World}{R:Ending->World->Prop}
  (A:P.funcs[f]?=U O)(t:O.body=U c)
  (h:jN Z f P c (bodyPostM Fence.wide 0 P O R) {tmps:=X++ajm (O.ntmps-X.size) undef,defers:=[]} w):Calls P f X w R:=by
 refine(callsIn_wide (n:=0)).1 ⟨trivial,λz x=> ?_⟩;let b:Frame:={(default:Frame) with fn:=f,kind:=.normal,roundOf:=Z};have s:Frame.enter P f X .normal=
   b.atR {tmps:=X++ajm (O.ntmps-X.size) undef,defers:=[]} [.code c]:=by
  simp[Frame.enter,Frame.atR,A,t,b]
 obtain⟨e,W,y,V,N⟩:=h b [] z rfl rfl;rw[<-s] at N;cases e with
 |normal=>
  obtain⟨M,L,H,G,F,D,B⟩:=leaves_stepsInM W.defers .returning y {b.atR W [] with mode:=.returning} z rfl rfl rfl A rfl trivial x V;exact⟨M,L,H,G,ComesIn.of_steps (StepsIn.trans N (.one (fenced_wide _ _) (stepR_end rfl))) F,D,B⟩
 |ret=>
  obtain⟨v,u⟩:=N.1 rfl;obtain⟨M,L,H,G,F,D,B⟩:=leaves_stepsInM W.defers .returning y {b.atR W v with mode:=.returning} z rfl rfl rfl A rfl trivial x V;exact⟨M,L,H,G,ComesIn.of_steps u F,D,B⟩
 |panic chain=>
  obtain⟨v,u⟩:=N;obtain⟨M,L,H,G,F,D,B⟩:=leaves_stepsInM W.defers (.panicking chain) y {b.atR W v with mode:=.panicking chain} z rfl rfl rfl A rfl trivial x V;exact⟨M,L,H,G,ComesIn.of_steps u F,D,B⟩
 |exit id=>exact V.elim
 |goto l=>exact V.elim
 |outgrown=>exact⟨.outgrown,y,b,V,N.resolve_left (by simp[b]),rfl,trivial⟩
def ayc(P:Program)(l:Nat)(R:Ending->World->Prop):Exit->Act->World->Prop
 |.normal,_,w=>∃v X,(Instr.endRound l Z).run P w=.ok v X/\R (.returned v) X
 |.ret,_,w=>∃v X,(Instr.endRound l (U .ret)).run P w=.ok v X/\R (.returned v) X
 |.exit id,_,w=>∃v X,(Instr.endRound l (U (.exit id))).run P w=.ok v X/\R (.returned v) X
 |.panic W,a,w=>a.defers=[]/\R (.panicked W) w
 |_,_,_=>False
def ayd{F:Fence}(p:rL F){P:Program}{l:Nat}{f:FuncId}{o:Func}{u:mR}{assign body:Code}{w:World}{R:Ending->World->Prop}(k:P.funcs[f]?=U o)
  (h:jN (U l) f P assign (λe L H=>(e=.normal/\∃s,(Instr.beginRound l).run P H=.ok () s/\jN (U l) f P body (ayc P l R) L s)\/∃A,e=.panic A/\L.defers=[]/\R (.panicked A) H)
   {tmps:=u,defers:=[]} w):
  RoundIn F X P l f u assign body w R:=by
 refine⟨p.fn f,λc O hr=> ?_⟩;let b:Frame:={(default:Frame) with fn:=f,kind:=.normal,roundOf:=U l};have j:Frame.round l f u assign body .normal=b.atR {tmps:=u,defers:=[]} [.code assign,.beginRound,.code body]:=by
  simp[Frame.round,Frame.atR,b]
 have an:(Fence.wide.inRound l).room ((c::O).length+1+X):=(alf l).room _;obtain⟨e,L,H,i,G⟩:=h b [.beginRound,.code body] (c::O) rfl rfl;rw[<-j] at G;rw[p.eq];have Lw:∀(m:Machine)(D:Act)(N:World)(chain:List PanicEntry)(M:List Item),D.defers=[]->StepsIn (Machine.fenced P Fence.wide) P m (lone {b.atR D M with mode:=.panicking chain} (c::O) N)->StepsIn (Machine.fenced P Fence.wide) P m (lone (c.raise chain) O N):=by
  intro m D N chain M z W;have g:({b.atR D M with mode:=.panicking chain}:Frame).leaving P N (.panicked chain):=⟨rfl,z,o,k⟩;exact StepsIn.trans W (.one (fenced_wide _ _) (step_leave_panicked g))
 rcases i with⟨rfl,s,d,af⟩|⟨A,rfl,z,V⟩;have r:StepsIn (Machine.fenced P Fence.wide) P (lone (b.atR L [.beginRound,.code body]) (c::O) H) (lone (b.atR L [.code body]) (c::O) s):=
  .one (fenced_wide _ _) (stepR_beginRound rfl d)
 obtain⟨ag,D,N,B,q⟩:=af b [] (c::O) rfl rfl;cases ag with
 |normal=>
  obtain⟨v,y,x,V⟩:=B;exact⟨.returned v,y,V,(StepsIn.trans G r).trans (StepsIn.trans q (.one (fenced_wide _ _) (stepR_round_end rfl rfl x)))⟩
 |ret=>
  obtain⟨v,y,x,V⟩:=B;obtain⟨al,W⟩:=q.2 rfl;exact⟨.returned v,y,V,(StepsIn.trans G r).trans (StepsIn.trans W (.one (fenced_wide _ _) (stepR_round_ret rfl rfl x)))⟩
 |exit id=>
  obtain⟨v,y,x,V⟩:=B;obtain⟨al,hk,W⟩:=q.2 rfl rfl;exact⟨.returned v,y,V,(StepsIn.trans G r).trans (StepsIn.trans W (.one (fenced_wide _ _) (stepR_round_exit rfl rfl hk x)))⟩
 |goto t=>exact B.elim
 |panic chain=>
  obtain⟨z,V⟩:=B;obtain⟨M,W⟩:=q;exact⟨.panicked chain,N,V,Lw _ D N chain M z ((StepsIn.trans G r).trans W)⟩
 |outgrown=>exact B.elim
 obtain⟨M,W⟩:=G;exact⟨.panicked A,H,V,Lw _ L H A M z W⟩
mutual
def K.fq(O:ai)(y:aq):∀(e:K),e.ab (O.at y)=e.ab O
 |.c n=>by simp[K.ab]
 |.v k=>by simp[K.ab,ai.at]
 |.bin o k a b=>by simp only[K.ab];rw[K.fq O y a,K.fq O y b]
 |.conv k a=>by simp only[K.ab];rw[K.fq O y a]
 |.len r=>by simp only[K.ab];rw[RE.nf O y r]
 |.mm m a b=>by simp only[K.ab];rw[K.fq O y a,K.fq O y b]
 |.eB b x z=>by simp only[K.ab];rw[BE.fq O y b,K.fq O y x,K.fq O y z]
 |.cell r i j=>by simp only[K.ab];rw[RE.nf O y r,K.fq O y i]
 |.oe r i=>by simp only[K.ab];rw[RE.nf O y r,K.fq O y i]
 |.look r n a b c j=>by simp only[K.ab];rw[RE.nf O y r,K.fq O y a,K.fq O y b,K.fq O y c]
def BE.fq(O:ai)(y:aq):∀(e:BE),e.ab (O.at y)=e.ab O
 |.c b=>by simp[BE.ab]
 |.v k=>by simp[BE.ab,ai.at]
 |.cmp o a b=>by simp only[BE.ab];rw[K.fq O y a,K.fq O y b]
 |.not a=>by simp only[BE.ab];rw[BE.fq O y a]
 |.and a b=>by simp only[BE.ab];rw[BE.fq O y a,BE.fq O y b]
 |.beq a b=>by simp only[BE.ab];rw[BE.fq O y a,BE.fq O y b]
 |.eB b x z=>by simp only[BE.ab];rw[BE.fq O y b,BE.fq O y x,BE.fq O y z]
 |.cell r i j=>by simp only[BE.ab];rw[RE.nf O y r,K.fq O y i]
 |.seq a b=>by simp only[BE.ab];rw[RE.nf O y a,RE.nf O y b]
 |.look r n a b c j=>by simp only[BE.ab];rw[RE.nf O y r,K.fq O y a,K.fq O y b,K.fq O y c]
 |.has r n a b c=>by simp only[BE.ab];rw[RE.nf O y r,K.fq O y a,K.fq O y b,K.fq O y c]
def RE.nf(O:ai)(y:aq):∀(e:RE),e.rv (O.at y)=e.rv O
 |.v k=>by simp[RE.rv,ai.rv,ai.at]
 |.cell r i j k=>by simp only[RE.rv];rw[RE.nf O y r,K.fq O y i]
 |.k v=>by simp[RE.rv]
end
def C.abT(O:ai)(y:aq)(v:C):v.xv (O.at y)=v.xv O:=by
 cases v<;>simp[C.xv,K.fq,BE.fq,RE.nf]
def C.aye(O:ai)(y:aq)(v:C):v.cj (O.at y)=v.cj O:=by
 cases v<;>simp[C.cj,K.fq,BE.fq,RE.nf]
def C.Uv(O:ai)(y:aq):C.cj (O.at y)=C.cj O:=funext (C.aye O y)
def LE.Is(O:ai)(y:aq):∀(e:LE),e.ac (O.at y)=e.ac O
 |.ah r=>by simp only[LE.ac,RE.nf]
 |.lit l=>by simp only[LE.ac,C.Uv]
 |.kq a b=>by simp only[LE.ac];rw[LE.Is O y a,LE.Is O y b]
 |.tR n R=>by simp only[LE.ac,C.Uv,K.fq]
 |.set a i Q X=>by simp only[LE.ac,C.Uv,K.fq];rw[LE.Is O y a]
 |.sub a P N=>by simp only[LE.ac,K.fq];rw[LE.Is O y a]
 |.ins a n X=>by simp only[LE.ac,C.Uv];rw[LE.Is O y a]
def PG:∀(X:bv)(O:ai)(y:aq),(O.at y).ext X=(O.ext X).at y
 |[],O,y=>rfl
 |x::X,O,y=>by
  simp only[ai.ext];rw[<-PG X (O.add x) y];cases x<;>rfl
def ayf{G:Ty}{F:World}{X:LE}{R:bz}{y:aq}{Q:RV}(h:Ia G t F v X R (x.at y) Q):Ia G t F v X R x Q:=by
 obtain⟨P,N,M⟩:=h;rw[LE.Is] at P;exact⟨P,N,M⟩
def ug(p:Sp):∀(t:T)(O:ai)(L:dG)(y:aq),t.aS p O L->t.aS p (O.at y) L
 |.out e s,O,L,y,h=>h
 |.ret v u M,O,L,y,h=>h
 |.bI v,O,L,y,h=>h
 |.aV b t f,O,L,y,h=>by
  simp only[T.aS,BE.fq] at h⊢;exact⟨λQ=>ug p t O L y (h.1 Q),λQ=>ug p f O L y (h.2 Q)⟩
 |.bi b t,O,L,y,h=>by
  simp only[T.aS,BE.fq] at h⊢;exact⟨h.1,ug p t O L y h.2⟩
 |.call f ag u M q jM t,O,L,y,h=>by
  simp only[T.aS] at h⊢;intro m V W R;refine(h m V W R).mono ?_;intro e W' G;cases e with
  |returned v=>
   obtain⟨F,P,N,B,l,c⟩:=G;refine⟨F,P, ?_,B,l, ?_⟩;rw[PG];exact N;rw[PG];exact ug p t _ L y c
  |panicked ch=>exact G
  |outgrown=>exact G
 |.loop ax q x0 t,O,L,y,h=>by
  simp only[T.aS] at h⊢;obtain⟨X,μ,P,N⟩:=h;refine⟨X,μ, ?_,λF hf hI=> ?_⟩;have:C.xv (O.at y)=C.xv O:=funext (C.abT O y);rw[this];exact P;rw[PG];exact ug p t _ _ y (N F hf hI)
 |.back ax x,O,L,y,h=>by
  have:C.xv (O.at y)=C.xv O:=funext (C.abT O y);simp only[T.aS] at h⊢;rw[this];exact h
 |.new e x M al t,O,L,y,h=>by
  simp only[T.aS] at h⊢;intro A af;exact ug p t (O.add (.r A)) L y (h A (ayf af))
 |.ac k x M t,O,L,y,h=>by
  simp only[T.aS] at h⊢;have:gI x (O.at y)=gI x O:=by simp only[gI,LE.Is]
  rw[this];exact ug p t (O.add (.r (gI x O))) L y h
 |.gQ g h' t f,O,L,y,h=>by
  simp only[T.aS,BE.fq] at h⊢;exact⟨λQ=>ug p t O L y (h.1 Q),λQ=>ug p f O L y (h.2 Q)⟩
 |.pick n g h' t f,O,L,y,h=>by
  simp only[T.aS,K.fq,BE.fq] at h⊢;refine⟨λj P N B=>ug p t (O.add (.i j)) L y (h.1 j P N ?_),λQ=>ug p f O L y (h.2 Q)⟩;have:=BE.fq (O.add (.i j)) y g;rw[<-this];exact B
 |.eL f g e sp st r M t,O,L,y,h=>by
  simp only[T.aS,RE.nf] at h⊢;obtain⟨z,P,N⟩:=h;refine⟨z, ?_,ug p t (O.add (.r (.mk (r.rv O).val z))) L y N⟩;rw[<-P];cases sp with
  |dD k o H=>
   have w:K.ab (O.at y)=K.ab O:=funext λe=>K.fq O y e
   cases st with
   |false=>simp only[lg,w]
   |true=>
    cases H with
    |nil=>rfl
    |cons i H=>
     cases H with
     |nil=>simp only[lg,w]
     |cons j H=>rfl
  |lex cs d=>rfl
  |ratio n d=>rfl
 |.stuck _,_,_,_,h=>h
mutual
def C.Lx{O:ai}{y:aq}{n:Nat}(X:∀m,m<n->y.getD m 0=O.y.getD m 0)(V:aq):∀(v:C),v.yj n=E->v.ab (O.at y) V=v.ab O V
 |.int _ e,_=>by simp only[C.ab,K.fq]
 |.bool e,_=>by simp only[C.ab,BE.fq]
 |.ah e,_=>by simp only[C.ab,RE.ab,RE.nf]
 |.loc i _,_=>rfl
 |.el r _ i _,_=>by simp only[C.ab,RE.ab,RE.nf,K.fq]
 |.jp _ _ _ _,_=>rfl
 |.agg l,h=>by simp only[C.ab];rw[C.Ly X V l h]
 |.bO l,h=>by simp only[C.ab];rw[C.Ly X V l h]
 |.fn _ l,h=>by simp only[C.ab];rw[C.Ly X V l h]
 |.ik _ x,h=>by simp only[C.ab];rw[C.Lx X V x h]
 |.yl m,h=>by
  simp only[C.yj,decide_eq_false_iff_not,Nat.not_le] at h;simp only[C.ab,ai.at];rw[X m h]
 |.any,_=>rfl
 |.mp _,_=>rfl
 |.gz e Q R,h=>by simp only[C.ab,K.fq];rw[C.Ly X V R h]
def C.Ly{O:ai}{y:aq}{n:Nat}(X:∀m,m<n->y.getD m 0=O.y.getD m 0)(V:aq):∀(l:ap),C.pX n l=E->C.aG (O.at y) V l=C.aG O V l
 |[],_=>rfl
 |x::R,h=>by
  simp only[C.pX,wb] at h;simp only[C.aG];rw[C.Lx X V x h.1,C.Ly X V R h.2]
end
def C.ayg(R:∀m,m<X->t.getD m 0=x.y.getD m 0)(V:aq)(v:C)(h:v.yj X=E):v.io (x.at t) V=v.io x V:=by
 have Q:=C.Lx R V v h;cases v<;>simp only[C.io]<;>try rw[Q]
 exact RE.nf x t _
def C.amj{O:ai}{y:aq}{n:Nat}(X:∀m,m<n->y.getD m 0=O.y.getD m 0)(V:aq):∀(l:ap),C.pX n l=E->C.dR (O.at y) V l=C.dR O V l
 |[],_=>rfl
 |x::R,h=>by
  simp only[C.pX,wb] at h;have:=C.amj X V R h.2;simp only[C.dR,dU] at this⊢;rw[C.ayg X V x h.1,this]
def abU{n:Nat}:∀{l:ap},C.pX n l=E->∀v∈l,v.yj n=E
 |[],_,v,h=>by cases h
 |x::R,h,v,X=>by
  simp only[C.pX,wb] at h;rcases dV.1 X with rfl|X;exact h.1;exact abU h.2 v X
def abV{n:Nat}:∀{bx:bG},yk n bx=E->∀(i:Nat)(t:TypeId)(X:ap),cz bx i=U (t,X)->C.pX n X=E
 |[],_,i,t,X,h=>by simp[cY] at h
 |Z::Q,R,0,t,X,h=>by simp[cY] at h
 |U x::Q,R,0,t,X,h=>by
  simp only[yk,wb] at R;simp[cY] at h;rw[h] at R;exact R.1
 |Z::Q,R,i+1,t,X,h=>abV (bx:=Q) R i t X (by simpa[cY] using h)
 |U x::Q,R,i+1,t,X,h=>by
  simp only[yk,wb] at R;exact abV (bx:=Q) R.2 i t X (by simpa[cY] using h)
section
variable{H:aq}{F:World}{D:cq}{G:Ty}{V:aq}{O:ai}{s:S}{a:Act}{W:World}
def PH(n:Nat):∀(k:Nat)(R:bG),(oj n k R).length=Y R
 |0,[]=>rfl
 |_+1,[]=>rfl
 |k+1,x::X=>by simp[oj,PH n k X]
 |0,Z::X=>by simp[oj,PH n 0 X]
 |0,U x::X=>by simp[oj,PH n 0 X]
def PI(n:Nat):∀(k:Nat)(R:bG)(i:Nat)(x:TypeId×ap),cz (oj n k R) i=U x->cz R i=U x
 |0,[],_,_,h=>h
 |_+1,[],_,_,h=>h
 |k+1,x::X,0,_,h=>by simpa[oj,cY] using h
 |k+1,x::X,i+1,z,h=>by
  have:=PI n k X i z (by simpa[oj,cY] using h);simpa[cY] using this
 |0,Z::X,0,_,h=>by simp[oj,cY] at h
 |0,Z::X,i+1,z,h=>by
  have:=PI n 0 X i z (by simpa[oj,cY] using h);simpa[cY] using this
 |0,U x::X,0,z,h=>by
  simp only[oj] at h;split at h;simp[cY] at h;simpa[cY] using h
 |0,U x::X,i+1,z,h=>by
  have:=PI n 0 X i z (by simpa[oj,cY] using h);simpa[cY] using this
def amk:∀{bx:bG}{i:Nat},aP bx i=J->i<Y bx
 |[],i,h=>by simp[aP,cY] at h
 |x::X,0,_=>av
 |x::X,i+1,h=>by
  have:=amk (bx:=X) (i:=i) (by simpa[aP,cY] using h);simp only[kV];omega
def aml{R:bG}:aP R X=J<->∃x,cz R X=U x:=by
 cases h:cz R X<;>simp[aP,h]
def PJ{k:Nat}{R:bG}{i:Nat}(h:aP (oj X k R) i=J):aP R i=true:=by
 obtain⟨x,Q⟩:=aml.1 h;exact aml.2 ⟨x,PI X k R i x Q⟩
def amm(n:Nat):∀(k:Nat)(X:bG)(i:Nat),i<k->aP X i=J->aP (oj n k X) i=J
 |0,_,_,h,_=>aa
 |_+1,[],_,_,h=>h
 |k+1,x::R,0,_,h=>by simpa[oj,aP,cY] using h
 |k+1,x::R,i+1,Q,h=>by
  have:=amm n k R i aa (by simpa[aP,cY] using h);simpa[oj,aP,cY] using this
def j7.ayh{X:bG}{Q:bz}(R:j7 H F V O X G Q W)(n k:Nat):j7 H F V O (oj n k X) G Q W:=
 ⟨R.base,λi h=>R.own i (PJ h),λi j h L=>R.inj i j (PJ h) (PJ L),λi t B h=>R.box i t B (PI n k X i _ h),λq e P N M=>⟨(R.ah q e P N M).1,λb A i z=>(R.ah q e P N M).2 b A i (PJ z)⟩⟩
def j7.at{P:bG}{M:bz}(R:j7 H F V O P G M W)(L:∀m,m<X->t.getD m 0=O.y.getD m 0)(B:yk X P=E):j7 H F V (O.at t) P G M W:=
 ⟨R.base,R.own,R.inj,λi Q N h=>by rw[C.amj L V N (abV B i Q N h)];exact R.box i Q N h,R.ah⟩
def ayi{a w:World}(h:im t a w)(P:a.heap.size<=X)(o:Obj):im t a (w.putObj X o):=
 ⟨h.os,h.tape,h.output,by have:=h.size;simpa[Hv] using this,λk R Q=>(uM aa).trans (h.block k R Q)⟩
def bJ.cells{k:RK}{Q:RV}(h:bJ W G k Q)(R:et G k Q X):∃M t L,W.heap[X]?=U (.cells M t L):=by
 induction h generalizing X with
 |sl e A H F P m l B g f d N=>
  cases R with
  |here e a H F P=>
   have x:P[0]?=U P[0]:=cP aa;obtain⟨q1,X,af,w,u,-⟩:=B 0 _ x;cases w;exact u
  |deep e v P i j r c z k X q p o n=>exact N i j r c z k q p o n
 |str s=>cases R
 |ae v h=>cases R
 |own e Q h hn N=>
  cases R with
  |own e Q X R=>exact N R
 |am Q h=>cases R
 |mr sh P=>cases R
def j7.obj{M:bG}{L:bz}(R:j7 H F V O M G L W){o:Obj}(B:W.heap[X]?=U o)(A:KY o=J)(w:F.heap.size<=X)(z:Obj):j7 H F V O M G L (W.putObj X z):=by
 have v:∀P Q t N,W.heap[P]?=U (.cells Q t N)->P≠X:=λP Q t N h e=>by subst e;rw[B] at h;cases h;exact akj A _ _ _ rfl
 refine⟨ayi R.base w z,R.own,R.inj,λi t Q h=> ?_,λk e u r q=> ?_⟩;have:=R.box i t Q h;rw[uM (λe=>by subst e;rw[B] at this;cases this;exact akk A _ _ rfl)];exact this;obtain⟨x,p⟩:=R.ah k e u r q;refine⟨x.KZ (λP n=> ?_) (by simp[Hv]),p⟩;obtain⟨Q,t,N,m⟩:=x.cells n;exact uM (v _ _ _ _ m)
def zX.obj{R:bG}{Q:bz}{P:RV}{N:Nat}(h:zX H F V O R G Q W X v P N){b:Nat}{o:Obj}(L:W.heap[b]?=U o)(B:KY o=J)(A:Obj):zX H F V O R G Q (W.putObj b A) X v P N:=by
 refine h.world (uM ?_);obtain⟨z,x,di,-,M,-⟩:=h.mem;intro v;subst v;rw[L] at M;cases M;exact akj B _ _ _ rfl
def az.obj(R:az H F D G V O s a W){b:Nat}{o:Obj}(Q:W.heap[b]?=U o)(P:KY o=J)(M:F.heap.size<=b)(X:Obj){D':cq}{pd:uP}{a':Act}(N:a'.tmps=a.tmps)
  (L:eN F D' pd O.y a'.defers (W.putObj b X)):az H F D' G V O {s with pd:=pd} a' (W.putObj b X):=
 ⟨R.mem.obj Q P M X,R.gV,R.ei,R.eb,R.er,L,by rw[N];exact R.size,λt B h=>by rw[N];exact R.tmps t B h,λk e A z x w v=>(R.gD k e A z x w v).obj Q P X⟩
def rM:aq->World->World
 |[],W=>W
 |d::ms,W=>rM ms (W.putObj d (.deferred Z))
def az.rM:∀{ms:aq}{a:Act}{W:World},az H F D G V O s a W->a.defers=ms.map mD++D.base->az H F D G V O s {a with defers:=D.base} (rM ms W)
 |[],a,W,R,h=>by
  have:({a with defers:=D.base}:Act)=a:=by cases a;simp at h;subst h;rfl
  rw[this];exact R
 |d::ms,a,W,R,h=>by
  obtain⟨A,Q,w,M,L⟩:=R.dp.mE;have v:A=d::ms:=by
   rw[h] at Q;have Q:=aIZ Q;have u:∀(l X:aq),l.map mD=X.map mD->l=X:=by
    intro l;induction l with
    |nil=>intro X h;cases X<;>simp at h;rfl
    |cons x b t=>
     intro X h;cases X with
     |nil=>simp at h
     |cons z q=>
      simp only[dU,xU,mD,Deferred.mk.injEq,Target.collected.injEq] at h;obtain⟨⟨rfl,-⟩,h⟩:=h;rw[t q h]
   exact(u _ _ Q).symm
  subst v;have P:=L d av;have p:eN F D s.pd O.y (ms.map mD++D.base) (W.putObj d (.deferred Z)):=by
   refine⟨R.dp.len,R.dp.qL,λn l r o m k=> ?_,R.dp.inj,ms,rfl,λj=>(by have:=w j;cases this),(SY.1 M).2,λi B=> ?_⟩;obtain⟨g,N,f⟩:=R.dp.dF n l r o m k;exact⟨g,(uM (λe=>by subst e;rw[P.1] at N;cases N)).trans N,f⟩;have:=L i (by simp only[ef,dV];exact .inr B);refine⟨(uM (λe=>by subst e;exact(SY.1 M).1 B)).trans this.1,this.2⟩
  have c:=R.obj P.1 rfl P.2 (.deferred Z) (D':=D) (pd:=s.pd) (a':={a with defers:=ms.map mD++D.base}) rfl p;exact az.rM (a:={a with defers:=ms.map mD++D.base}) (W:=W.putObj d (.deferred Z)) c rfl
def eN.rM:∀{ms:aq}{pd:uP}{y:aq}{W:World},eN F D pd y (ms.map mD++D.base) W->eN F D pd y D.base (rM ms W)
 |[],pd,y,W,h=>h
 |d::ms,pd,y,W,h=>by
  obtain⟨L,R,H,P,N⟩:=h.mE;have G:L=d::ms:=by
   have R:=aIZ R;have B:∀(l X:aq),l.map mD=X.map mD->l=X:=by
    intro l;induction l with
    |nil=>intro X h;cases X<;>simp at h;rfl
    |cons x j A=>
     intro X h;cases X with
     |nil=>simp at h
     |cons z w=>
      simp only[dU,xU,mD,Deferred.mk.injEq,Target.collected.injEq] at h;obtain⟨⟨rfl,-⟩,h⟩:=h;rw[A w h]
   exact(B _ _ R).symm
  subst G;have v:=N d av;refine eN.rM (ms:=ms) (W:=W.putObj d (.deferred Z)) ⟨h.len,h.qL,λn l r u t q=> ?_,h.inj,ms,rfl,λp=>(by have:=H p;cases this),(SY.1 P).2,λo M=> ?_⟩;obtain⟨m,Q,k⟩:=h.dF n l r u t q;exact⟨m,(uM (λe=>by subst e;rw[v.1] at Q;cases Q)).trans Q,k⟩;have:=N o (by simp only[ef,dV];exact .inr M);exact⟨(uM (λe=>by subst e;exact(SY.1 P).1 M)).trans this.1,this.2⟩
end
def PK{P:World->Prop}{B:Nat}(h:∀W b o,B<=b->P W->P (W.putObj b o)):∀{X:aq}{W:World},(∀d∈X,B<=d)->P W->P (rM X W)
 |[],W,_,R=>R
 |d::X,W,Q,R=>PK (W:=W.putObj d (.deferred Z)) h (λx N=>Q x (by simp[N])) (h W d _ (Q d av) R)
def uh{P:Program}{Q:Func}{N:mR}{R:Ending->World->Prop}{u:FrameMode}{M:BM}(L:u≠ .run):∀{X:aq}{W:World},X.Nodup->(∀d∈X,W.heap[d]?=U (.deferred (U [])))->
  LeavesInM Fence.wide 0 P Q N R M u (rM X W)->LeavesInM Fence.wide 0 P Q N R (X.map mD++M) u W
 |[],W,_,_,h=>h
 |d::X,W,F,H,h=>by
  obtain⟨B,A⟩:=SY.1 F;refine⟨L,.inl ⟨d,_,rfl,run_takeDeferred (H d av),uh L A (λz G=> ?_) h⟩⟩;exact(uM (λe=>by subst e;exact B G)).trans (H z (by simp[G]))
section
variable{H:aq}{F:World}{D N:cq}{G:Ty}{V:aq}{O:ai}{s:S}{a:Act}{W:World}{pd:uP}{y:aq}{M:BM}
def eN.enter(h:eN F D pd y M W)(X:(t++D.out).Nodup)(R:∀d∈t++D.out,W.heap[d]?=U (.deferred (U []))/\F.heap.size<=d)(Q:Bool):eN F ⟨t++D.out,D.dF,Q,[]⟩ pd y [] W:=
 ⟨h.len,h.qL,h.dF,h.inj,[],rfl,λ_=>rfl,X,R⟩
def eN.Lw(h:eN F ⟨t++D.out,D.dF,b,[]⟩ pd y [] W)(R:D.rd=J->t=[]):eN F D pd y (t.map mD++D.base) W:=by
 obtain⟨X,Q,M,P,N⟩:=h.mE;have:X=[]:=by cases X<;>simp at Q;rfl
 subst this;exact⟨h.len,h.qL,h.dF,h.inj,t,rfl,R,P,N⟩
def eN.push{l:Nat}{r:Loop}(h:eN F D pd y M W)(v:(t++D.out).Nodup)(u:∀X∈t++D.out,W.heap[X]?=U (.deferred (U []))/\F.heap.size<=X)
  (q:W.heap[X]?=U (.deferred (U [])))(p:X∉t++D.out)(o:F.heap.size<=X)(m:W.heap[l]?=U (.loop (sH r .ready)))(z:∀(n:Nat)(P:Nat)(G:Loop),D.dF[n]?=U (P,G)->P≠l)(k:F.heap.size<=l):
  eN F ⟨X::(t++D.out),D.dF++[(l,r)],E,[]⟩ (pd++[.ready]) (y++[l]) [] W:=by
 refine⟨by simp[h.len],by simp[h.qL],λn P G j Q R=> ?_,λn N P x w Q R=> ?_,[],rfl,λ_=>rfl,by simpa using⟨by simpa using p,v⟩,λi H=> ?_⟩;by_cases L:n<Y D.dF;rw[dN L] at Q;rw[dN (by rw[<-h.len];exact L)] at R;obtain⟨g,f,e⟩:=h.dF n P G j Q R;exact⟨by rw[dN (by rw[h.qL,<-h.len];exact L)];exact g,f,e⟩;have B:n=Y D.dF:=by
  have:=(cu.1 Q).1;simp at this;omega
 subst B;simp at Q;obtain⟨rfl,rfl⟩:=Q;rw[h.len] at R;simp at R;subst R;refine⟨?_,m,k⟩;rw[h.len,<-h.qL];simp;by_cases L:n<Y D.dF;rw[dN L] at Q;by_cases A:N<Y D.dF;rw[dN A] at R;exact h.inj n N P x w Q R;have B:N=Y D.dF:=by
  have:=(cu.1 R).1;simp at this;omega
 subst B;simp at R;obtain⟨rfl,rfl⟩:=R;exact aZ rfl (z n _ x Q);have c:n=Y D.dF:=by
  have:=(cu.1 Q).1;simp at this;omega
 subst c;simp at Q;obtain⟨rfl,rfl⟩:=Q;by_cases A:N<Y D.dF;rw[dN A] at R;exact aZ rfl (z N _ w R);have:=(cu.1 R).1;simp at this;omega;simp only[eK,dV] at H;rcases H with rfl|H;exact⟨q,o⟩;exact u i H
def eN.pop{l:Nat}{r:Loop}(h:eN F ⟨X::(t++D.out),D.dF++[(l,r)],E,[]⟩ pd y [] W)(H:D.rd=E):eN F D (pd.take (Y D.dF)) (y.take (Y D.dF)) ((X::t).map mD++D.base) W:=by
 obtain⟨M,G,o,B,A⟩:=h.mE;have:M=[]:=by cases M<;>simp at G;rfl
 subst this;have z:=h.len;have m:=h.qL;simp at z;refine⟨dl,dl,λn N x w R Q=> ?_,λn v N u q R Q=> ?_,X::t,rfl,λL=>(by rw[H] at L;cases L),B,A⟩;have P:=(cu.1 R).1;rw[nD,aL P] at Q⊢;exact h.dF n N x w (by rw[dN P];exact R) Q;have P:=(cu.1 R).1;have p:=(cu.1 Q).1;exact h.inj n v N u q (by rw[dN P];exact R) (by rw[dN p];exact Q)
def eN.put{r:Loop}(h:eN F D pd y M W)(H:W.heap[X]?=U (.loop r))(G:∀(n R:Nat)(Q:Loop),D.dF[n]?=U (R,Q)->R≠X)(o:Obj):eN F D pd y M (W.putObj X o):=by
 obtain⟨B,A,z,x,P⟩:=h.mE;refine⟨h.len,h.qL,λn R Q w L v=> ?_,h.inj,B,A,z,x,λd N=>⟨?_,(P d N).2⟩⟩;obtain⟨u,t,q⟩:=h.dF n R Q w L v;exact⟨u,(uM (G n R Q L)).trans t,q⟩;exact(uM (λe=>by subst e;have:=(P d N).1;rw[H] at this;cases this)).trans (P d N).1
def eN.abW{l:Nat}{r:Loop}(h:eN F D pd y M W)(R:D.dF[X]?=U (l,r))(z:HB):eN F D (pd.set X z) y M (W.putObj l (.loop (sH r z))):=by
 obtain⟨u,t,q,p,L⟩:=h.mE;have x:X<Y pd:=by rw[<-h.len];exact(cu.1 R).1
 have P:∃H,W.heap[l]?=U (.loop H):=⟨_,(h.dF X l r pd[X] R (cP x)).2.1⟩;obtain⟨j,P⟩:=P;refine⟨by simp[h.len],by simp[h.qL],λw o H m N Q=> ?_,h.inj,u,t,q,p,λd G=>⟨?_,(L d G).2⟩⟩;rw[wc] at Q;split at Q;rename_i e;subst e;rw[R] at N;cases N;simp only[cX] at Q;subst Q;obtain⟨B,v,A⟩:=h.dF X l r pd[X] R (cP x);exact⟨B,aI4 (BO P),A⟩;rename_i e;obtain⟨B,v,A⟩:=h.dF w o H m N Q;exact⟨B,(uM (λk=>by subst k;exact e (h.inj X w _ _ _ R N))).trans v,A⟩;exact(uM (λe=>by subst e;have:=(L d G).1;rw[P] at this;cases this)).trans (L d G).1
def amn{O:ai}{V:aq}:∀(R:aq)(N l:ap)(A:mR),A.size=Y l->(∀(t:Nat)(X:C),l[t]?=U X->X=.any\/A[t]?=U (X.ab O V))->
  ((R.zip (C.aG O V N)).foldl (λ(M:mR)(x:Nat×Value)=>M.setIfInBounds x.1 x.2) A).size=(H5 R N l).length/\
  ∀(t:Nat)(X:C),(H5 R N l)[t]?=U X->X=.any\/((R.zip (C.aG O V N)).foldl (λ(M:mR)(x:Nat×Value)=>M.setIfInBounds x.1 x.2) A)[t]?=U (X.ab O V)
 |[],N,l,A,Q,h=>by simp only[List.zip_nil_left,List.foldl_nil,H5];exact⟨Q,h⟩
 |p::R,[],l,A,Q,h=>by simp only[C.aG,List.zip_nil_right,List.foldl_nil,H5];exact⟨Q,h⟩
 |p::R,v::L,l,A,Q,h=>by
  simp only[C.aG,ZH,E5,H5];refine amn R L (l.set p v) (A.setIfInBounds p (v.ab O V)) (by simp[Q]) (λt X P=> ?_);rw[wc] at P;split at P;rename_i e;subst e;split at P;rename_i H;cases P;right;rw[aIP (by rw[Q];exact H)];cases P;rename_i e;rw[ai4 e];exact h t X P
end
section
variable{p:Sp}{cf:bF}
def Lz(bP:Nat->Bool)(X W:Bool):∀(l:pQ)(j n i:Nat)(m:OM),(hJ bP X W j n l)[i]?=U m->l[i]?=U m.o
 |[],j,n,i,m,h=>by simp[hJ] at h
 |o::r,j,n,0,m,h=>by simp[hJ] at h;simp[<-h]
 |o::r,j,n,i+1,m,h=>by simp[hJ] at h;simpa using Lz bP X W r _ _ i m h
def Uw(bP:Nat->Bool)(X W:Bool):∀(l:pQ)(j n:Nat),(hJ bP X W j n l).length=Y l
 |[],j,n=>rfl
 |o::r,j,n=>by simp[hJ,Uw bP X W r]
def abX(bP:Nat->Bool)(X W:Bool):∀(l:pQ)(j n i:Nat)(m:OM),(hJ bP X W j n l)[i]?=U m->m.j=j+i
 |[],j,n,i,m,h=>by simp[hJ] at h
 |o::r,j,n,0,m,h=>by simp[hJ] at h;simp[<-h]
 |o::r,j,n,i+1,m,h=>by simp[hJ] at h;have:=abX bP X W r _ _ i m h;omega
def abY(bP:Nat->Bool)(W X:Bool):∀(l:pQ)(j n i:Nat)(m:OM),(hJ bP W X j n l)[i]?=U m->m.dr=X
 |[],j,n,i,m,h=>by simp[hJ] at h
 |o::r,j,n,0,m,h=>by simp[hJ] at h;simp[<-h]
 |o::r,j,n,i+1,m,h=>by simp[hJ] at h;exact abY bP W X r _ _ i m h
structure amo(m m':OM):Prop where
 o:m.o=m'.o
 ix:m.ix=m'.ix
 j:m.j=m'.j
 dr:m.dr=m'.dr
def abZ{V:aq}:∀{l X:cZ}{m:OM},m∈uY V X l->∃W∈l,amo m W
 |[],X,m,h=>by simp[uY] at h
 |x::l,X,m,h=>by
  simp only[uY,dV] at h;rcases h with rfl|h;exact⟨x,av,rfl,rfl,rfl,rfl⟩;obtain⟨W,R,Q⟩:=abZ h;exact⟨W,by simp[R],Q⟩
def amp{X:aq}:∀{l:cZ},BH X l=J->l.Pairwise λx y=>(X.getD y.j 0).testBit x.j=J
 |[],_=>xR
 |x::r,h=>by
  simp only[BH,aw] at h;exact jC.2 ⟨λy W=>fZ.1 h.1 y W,amp h.2⟩
def amq{X:aq}:∀{l W:cZ},(l.Pairwise λx y=>(X.getD y.j 0).testBit x.j=J)->(uY X W l).Pairwise λx y=>(X.getD y.j 0).testBit x.j=J
 |[],W,_=>xR
 |x::r,W,h=>by
  obtain⟨V,R⟩:=jC.1 h;refine jC.2 ⟨λy Q=> ?_,amq R⟩;obtain⟨P,O,N⟩:=abZ Q;rw[N.j];exact V P O
def amr{Q:aq}:∀{l W:cZ}(R:cZ)(m:OM)(X:cZ),uY Q W l=R++m::X->m.so=J->X.Pairwise λx y=>(Q.getD y.j 0).testBit x.j=J
 |[],W,R,m,X,h,_=>by cases R<;>simp[uY] at h
 |x::r,W,[],m,X,h,V=>by
  simp only[uY,eK,xU] at h;obtain⟨P,rfl⟩:=h;subst P;simp only[aw] at V;exact amq (jC.1 (amp V.1.2)).2
 |x::r,W,z::O,m,X,h,V=>by
  simp only[uY,ef,xU] at h;exact amr O m X h.2 V
def ab0:∀{l:aq},nJ l=J->l.Pairwise (·≠·)
 |[],_=>xR
 |x::W,h=>by
  simp only[nJ,aw,iw] at h;refine jC.2 ⟨λy X e=> ?_,ab0 h.2⟩;subst e;rw[qD.2 X] at h;cases h.1
def Ux:∀{l:cZ},nJ (l.filterMap (·.o.dst))=J->l.Pairwise λa b=>∀d,a.o.dst=U d->b.o.dst≠U d
 |[],_=>xR
 |x::V,h=>by
  cases W:x.o.dst with
  |none=>
   simp only[ajb,W] at h;exact jC.2 ⟨λy _ d X=>(by rw[W] at X;cases X),Ux h⟩
  |some d=>
   simp only[ajb,W,nJ,aw,iw] at h;refine jC.2 ⟨λy R e X Q=> ?_,Ux h.2⟩;rw[W] at X;cases X;have:d∈V.filterMap (·.o.dst):=De.2 ⟨y,R,Q⟩;rw[qD.2 this] at h;cases h.1
def ams{X:dQ}{W:aq}:∀{l:cZ},Fl X W l=J->l.Pairwise λx y=>(W.getD y.j 0).testBit x.j=J\/uX X x y=J
 |[],_=>xR
 |x::R,h=>by
  simp only[Fl,aw] at h;refine jC.2 ⟨λy V=> ?_,ams h.2⟩;have:=fZ.1 h.1 y V;simpa using this
def amt{Q:dQ}:∀{l:cZ}{done:aq},Fm Q done l=J->(∀m∈l,Q[m.j]?=U m.o)->∀X m V,l=X++m::V->∀e∈mb m.o,e∈done\/∃x∈X,x.j=e
 |[],done,_,_,X,m,V,h=>by cases X<;>simp at h
 |x::l,done,R,P,X,m,V,h=>by
  simp only[Fm,aw] at R;intro e O;cases X with
  |nil=>
   simp only[eK,xU] at h;obtain⟨rfl,-⟩:=h;rw[P x av] at R;exact .inl (qD.1 (fZ.1 R.1 e O))
  |cons z N=>
   simp only[ef,xU] at h;obtain⟨rfl,h⟩:=h;rcases amt R.2 (λm M=>P m (by simp[M])) N m V h e O with W|⟨y,L,W⟩;rcases dV.1 W with rfl|W;exact .inr ⟨x,av,rfl⟩;exact .inl W;exact .inr ⟨y,by simp[L],W⟩
def amu{X:dQ}(h:Tp X.toList t=J):Lt X t:=by
 have P:∀(j:Nat)(o:Oper),X[j]?=U o->(∀e∈mb o,e<j)/\∀i,i<X.size->(t.getD j 0).testBit i=J->i∈mb o\/∃e∈mb o,(t.getD e 0).testBit i=true:=by
  intro j o W;have O:j<X.size:=(oY.1 W).1;have R:=fZ.1 h j (by simpa using O);have N:X.toList[j]?=U o:=by simpa using W
  rw[N] at R;simp only[aw] at R;refine⟨λe Q=>by simpa using fZ.1 R.1 e Q,λi M L=> ?_⟩;have V:=fZ.1 R.2 i (by simpa using M);simp only[L,ZS,avP,jL] at V;rcases V with V|V;exact .inl (qD.1 V);obtain⟨e,Q,H⟩:=kW.1 V;exact .inr ⟨e,Q,H⟩
 exact⟨λj o W=>(P j o W).1,λj o W=>(P j o W).2⟩
def wE(X:aq):∀(l:ap)(n i:Nat),(tY X n l)[i]?=(l[i]?).map λx=>if X.contains (n+i) then .any else x
 |[],n,i=>by simp[tY]
 |x::W,n,0=>by simp[tY]
 |x::W,n,i+1=>by
  simp only[tY,tN];rw[wE X W (n+1) i,show n+1+i=n+(i+1) from aa]
def LA(X:aq):∀(l:ap)(n:Nat),(tY X n l).length=Y l
 |[],n=>rfl
 |x::W,n=>by simp[tY,LA X W]
def amv:∀{l:pQ}{o:Oper}{t:TypeId},Kx cf l=J->o∈l->o.op=.alloc t->H3 cf t=J
 |[],o,t,_,h,_=>by simp at h
 |x::V,o,t,h,X,W=>by
  simp only[Kx,aw] at h;rcases dV.1 X with rfl|X;have:=h.1;rw[W] at this;exact this;exact amv h.2 X W
def ab1:∀{l:cZ},nJ ((l.filter λm=>gZ m.o.op).map (·.ix))=J->l.Pairwise λa b=>gZ a.o.op=J->gZ b.o.op=J->a.ix≠b.ix
 |[],_=>xR
 |x::R,h=>by
  by_cases X:gZ x.o.op=J;rw[List.filter_cons_of_pos (by simpa using X),dU,nJ,aw] at h;refine jC.2 ⟨λy W _ Q e=> ?_,ab1 h.2⟩;have:x.ix∈(R.filter λm=>gZ m.o.op).map (·.ix):=iD.2 ⟨y,qE.2 ⟨W,by simpa using Q⟩,e.symm⟩;have V:=h.1;rw[qD.2 this] at V;cases V;rw[List.filter_cons_of_neg (by simpa using X)] at h;exact jC.2 ⟨λy W P=>aZ P X,ab1 h⟩
def ayj(bP:Nat->Bool)(W V:Bool)(R:bG):∀(l:pQ){i:Nat}{m:OM},gZ m.o.op=J->(hJ bP W V 0 (Y R) l)[i]?=U m->gH (R++eF (mA l) Z) m.ix=true:=by
 have P:∀(l:pQ)(j n i:Nat)(m:OM),gZ m.o.op=J->(hJ bP W V j n l)[i]?=U m->n<=m.ix/\m.ix<n+mA l:=by
  intro l;induction l with
  |nil=>intro j n i m _ h;simp[hJ] at h
  |cons o r O=>
   intro j n i m X h;have Q:mA (o::r)=(if gZ o.op then 1 else 0)+mA r:=by
    unfold mA;rw[ajf];split<;>simp<;>omega
   cases i with
   |zero=>
    simp only[hJ,Bk,cX] at h;subst h;simp only at X⊢;rw[Q,aL X];omega
   |succ i=>
    simp only[hJ,tN] at h;have:=O _ _ i m X h;rw[Q];split at this<;>simp_all<;>omega
 intro l i m X h;obtain⟨N,M⟩:=P l 0 _ i m X h;unfold gH;rw[iJ N,Hh,aL aa]
abbrev amw(p:Sp)(cf:bF)(D:cq)(x:YH)(L:dG)(n:Nat)(B:ap)(s:S)(k A:C->S->T)(O:ai)(V:aq)(a:Act)(W:World)(G:Ending->World->Prop):Prop:=
  (x n B s k A).aS p O L->az p.S0 p.w0 D cf.ty V O s a W->fk cf.gl O->
  (∀v N X M Q H,bH s O V N X M->dq s.ax L H->az p.S0 p.w0 D cf.ty M X N a Q->(k v N).aS p X H->G (.returned (v.ab X M)) Q)->
  (∀v N X M Q H,bH s O V N X M->dq s.ax L H->az p.S0 p.w0 D cf.ty M X N a Q->(A v N).aS p X H->G (.panicked [{v:=v.ab X M,recovered:=E}]) Q)->
  (∀z Q w y,eN p.w0 D w y a.defers Q->p.R (.panicked z) Q->G (.panicked z) Q)->
  ∀(F:Fence)(_:rL F)(m:Nat),YieldAt F m p.P (O.y.getD n 0) (C.aG O V B).toArray W G
def rN(p:Sp)(cf:bF)(X:List (Nat×Loop))(B:j8)(R:YH):Prop:=
 ∀(D:cq)(_:X<+:D.dF)(L:dG)(n:Nat)(Q:ap)(s:S)(k P:C->S->T)(O:ai)(V:aq)(a:Act)(W:World)(N:Ending->World->Prop),B.mF s (O.at (O.y.take (Y X))) V L->amw p cf D R L n Q s k P O V a W N
def ayk{Q:World}{D:cq}{P:Ty}{V:aq}{a:Act}{W:World}(X:az t Q D P V x R a W):x.at (x.y.take (Y D.dF))=x:=by
 rw[Hj (by rw[X.dp.qL,<-X.dp.len];exact bY _)];cases x;rfl
def rN.use{D:cq}{B:j8}{P:YH}(H:rN p cf D.dF B P){L:dG}{k N:C->S->T}{a:Act}{W:World}{M:Ending->World->Prop}(G:B.mF R x t L):amw p cf D P L X e R k N x t a W M:=
 λh Q=>H D (List.prefix_refl _) L X e R k N x t a W M (by rw[ayk Q];exact G) h Q
def FM(X:List (Nat×Loop))(B:j8):rN p cf X B jg:=λ_ _ _ _ _ _ _ _ _ _ _ _ _ _ h=>h.elim
def ayl{F:Fence}(hF:rL F)(ok:jS p cf){pc:yg}(a3:Uu p cf pc){D:cq}{B:j8}{yh:YH}(hY:rN p cf D.dF B yh){Q:Exit->Act->World->Prop}(HP:∀ch g z pd y,eN p.w0 D pd y g.defers z->p.R (.panicked ch) z->Q (.panic ch) g z){G:dQ}{id:Nat}{r:cZ}{a:Act}{W:World}{L:dG}{k:XE->S->T}(hB:B.mF R x t L)
  (af:Kw G (Y R.ao)=U r)(a4:Kx cf G.toList=J)(a9:FG G pc)(h:(oM cf (zU cf pc yh) G (k .normal) (λv=>k (.bI v)) r (R.BJ G r) []).aS p x L)(N:az p.S0 p.w0 D cf.ty t x R a W)(hg:fk cf.gl x)
  (hk:∀q w f g z c,bH R x t q w f->dq R.ax L c->az p.S0 p.w0 D cf.ty f w q g z->(k .normal q).aS p w c->Q .normal g z)
  (ba:∀v q w f g z c,bH R x t q w f->dq R.ax L c->az p.S0 p.w0 D cf.ty f w q g z->(k (.bI v) q).aS p w c->Q (.panic [{v:=v.ab w f,recovered:=E}]) g z):
  (Code.region id G J).wpIn F X p.P Q a W:=by
 unfold Kw at af;simp only at af;split at af;rename_i hc;simp only[aw,dK] at hc;obtain⟨⟨⟨⟨⟨⟨⟨c1,c2⟩,c3⟩,c4⟩,c5⟩,c8⟩,c6⟩,c7⟩:=hc;simp only[cX] at af;rw[af] at c2 c3 c4 c5 c6 c7 c8;have an:∀m∈r,∃(i:Nat)(m':OM),(hJ (OL G.toList (pV G.toList)) E J 0 (Y R.ao) G.toList)[i]?=U m'/\amo m m':=by
  intro m A;rw[<-af] at A;obtain⟨m',h1,h2⟩:=abZ A;rw[Kv] at h1;obtain⟨i,-,l⟩:=De.1 h1;exact⟨i,m',l,h2⟩
 have aC:∀m∈r,G[m.j]?=U m.o:=by
  intro m A;obtain⟨i,m',l,u⟩:=an m A;have h1:=Lz _ _ _ _ _ _ _ _ l;have h2:=abX _ _ _ _ _ _ _ _ l;rw[u.j,u.o,h2,jf];simpa using h1
 have hW:PD G (pV G.toList) (ajm G.size E) r:=by
  refine⟨aC,λi l=> ?_,av,λj o ho hj=> ?_,ams c3,λxs m ys he e hd=> ?_, ?_,Ux c4,λxs m ys he bb=>amr xs m ys (af.trans he) bb⟩;constructor;intro _;have:=fZ.1 c7 i (by simpa using l);obtain⟨m,A,hj⟩:=kW.1 this;exact⟨m,A,by simpa using hj⟩;intro _;simp[l];exfalso;have bc:j<G.size:=(oY.1 ho).1;simp[bc] at hj;rcases amt c2 aC xs m ys he e hd with h1|h1;cases h1;exact .inr h1;have:=ab0 c5;rw[avB] at this;exact this
 obtain⟨Rr,al⟩:=N.room (mA G.toList);have Rb:az p.S0 p.w0 D cf.ty (t++eF (mA G.toList) 0) x (R.BJ G r) a {W with drawn:=W.drawn+1}:=by
  have Rd:=Rr.drew;refine⟨Rd.mem,Rd.gV,Rd.ei,Rd.eb,Rd.er,Rd.dp,by simp only[S.BJ,LA];exact Rr.size,λM sv b=> ?_,Rd.gD⟩;simp only[S.BJ] at b;rw[wE,jf] at b;cases hx:R.tmps[M]? with
  |none=>rw[hx] at b;cases b
  |some H=>
   rw[hx] at b;simp only[eh,cX] at b;split at b;exact .inl b.symm;subst b;exact Rd.tmps M H hx
 have a0:bH R x t (R.BJ G r) x (t++eF (mA G.toList) 0):=⟨al.ext,al.mono,al.len,al.ax⟩;refine wpIn_region_any ok.mix ?_;refine ax5 a9 a3 hF ok HP (amu c1) (Kn:=FH p (k .normal)) (Kp:=DR p (λv=>k (.bI v))) (Yp:=DS p cf G pc yh (k .normal) (λv=>k (.bI v))) (s0:=R.BJ G r) (O0:=x) (V0:=t++eF (mA G.toList) 0) (L0:=L)
  (λq w f g z c hl hL R' u=>hk q w f g z c (a0.trans hl) hL R' u) (λv q w f g z c hl hL R' u=>ba v q w f g z c (a0.trans hl) hL R' u)
  ?_
  G.size _ r (R.BJ G r) x _ a _ L c6 hW (λm A=>by
   obtain⟨i,m',l,u⟩:=an m A;rw[u.dr];exact abY _ _ _ _ _ _ _ _ l) (λm A M b=> ?_) (ab1 c8) (.inl ⟨λm A bf=> ?_, ?_⟩) (bH.refl _ _ _) (dq.refl _ _) Rb hg ?_
 intro L2 m bg s2 O2 V2 a2 W2 yn b5 R' hl hL R2 bk bl br bs bt mm;obtain⟨bx,fx,b0,b1⟩:=bl;refine hY.use (hB.go (a0.trans hl) hL) b1 R2 bk (λv q w f z c a1 b2 Rn u=> ?_) bs bt F hF mm;refine br v q w f z c a1 b2 Rn ?_;have ag:=gr q m.o.dst v;refine Io ok.pt bg _ _ w (by rw[ag.1];exact Rn.ei) (by rw[ag.2.1];exact Rn.eb) (by rw[ag.2.2];exact Rn.er) u ?_ bx;intro H hx;obtain⟨b3,b6⟩:=qE.1 hx;obtain⟨hd,aA⟩:=b0 H b3;have hE:=a1.ext;refine⟨by rw[BE.eC hE.agree _ (by rw[R2.ei,R2.eb,R2.er];exact aA)];exact hd, ?_⟩;rw[ag.1,ag.2.1,ag.2.2,<-Rn.ei,<-Rn.eb,<-Rn.er];exact BE.eP (by rw[<-R2.ei];exact hE.li) (by rw[<-R2.eb];exact hE.lb) (by rw[<-R2.er];exact hE.lr) _ aA;have h1:=aC m A;exact amv a4 (jK (show G.toList[m.j]?=U m.o by simpa using h1)) b;obtain⟨i,m',l,u⟩:=an m A;rw[u.ix];exact ayj _ _ _ R.ao _ (by rw[<-u.o];exact bf) l;intro m A d hd;have b4:d∈Fo (r.dropLast.map (·.o)):=De.2 ⟨m.o,iD.2 ⟨m,A,rfl⟩,hd⟩;unfold yv;simp only[S.BJ];rw[wE,jf];cases hx:R.tmps[d]? with
 |none=>exact .inl rfl
 |some H=>
  right;by_cases hb:(ajI R (Fo (r.dropLast.map (·.o)))).contains d=J;exact⟨.any,by simp only[eh,hb,cS],by simp[C.bo]⟩;refine⟨H,by simp only[eh,hb];rfl, ?_⟩;have aA:H.bd R.ni R.nb (Y R.rs) (aP R.ao)=true:=by
   cases hh:H.bd R.ni R.nb (Y R.rs) (aP R.ao);exfalso;apply hb;exact qD.2 (qE.2 ⟨b4,by simp[hx,hh]⟩);rfl
  exact C.eP (bY _) (bY _) (bY _) al.mono _ aA
 refine Io ok.pt r _ [] x Rb.ei Rb.eb Rb.er h (λH hx=>by cases hx) (λm A=> ?_);obtain⟨i,m',l,u⟩:=an m A;rw[u.dr];exact abY _ _ _ _ _ _ _ _ l;cases af
def An(p:Sp)(cf:bF)(n:Nat):Prop:=
 ∀(D:cq)(B:j8)(z:YH)(H:cQ)(G:FuncId)(c:Code)(s:S)(k:XE->S->T)(L:dG)(O:ai)(V:aq)(a:Act)(W:World)(Q:Exit->Act->World->Prop),
  rN p cf D.dF B z->B.mF s O V L->D.rd=H.isSome->(H.isSome=J->ku c=E)->(∃v,p.P.funcs[G]?=U v)->
  (gp cf n G c s z k).aS p O L->az p.S0 p.w0 D cf.ty V O s a W->fk cf.gl O->
  (∀x N X u y,eN p.w0 D u y N.defers X->p.R (.panicked x) X->Q (.panic x) N X)->
  (∀e F M A N X w,bH s O V F M A->dq s.ax L w->az p.S0 p.w0 D cf.ty A M F N X->(k e F).aS p M w->Q (e.to M A) N X)->
  jN H G p.P c Q a W
def Uy(p:Sp)(cf:bF)(n:Nat):Prop:=
 ∀(D:cq)(B:j8)(z:YH)(G:cQ)(M:FuncId)(x:Code)(s:S)(k:XE->S->T)(L:dG)(O:ai)(V:aq)(a:Act)(W:World)(Q:Exit->Act->World->Prop),
  rN p cf D.dF B z->B.mF s O V L->D.rd=G.isSome->(G.isSome=J->ku x=E)->(∃u,p.P.funcs[M]?=U u)->
  (∀t,(Code.first x).map (cf.loop M)≠U (.inv t))->
  (gp cf n M (.loop x) s z k).aS p O L->az p.S0 p.w0 D cf.ty V O s a W->fk cf.gl O->
  (∀w N X r y,eN p.w0 D r y N.defers X->p.R (.panicked w) X->Q (.panic w) N X)->
  (∀e F H A N X v,bH s O V F H A->dq s.ax L v->az p.S0 p.w0 D cf.ty A H F N X->(k e F).aS p H v->Q (e.to H A) N X)->
  PF G M p.P x Q n a W
def aym(c:An p cf X)(b:Uy p cf X):Uy p cf (X+1):=by
 intro D B m q o x s k L O V a W Q l j i g f af h R d HP F;unfold gp at h;simp only at h;show jN q o p.P x _ a W;refine c D B m q o x s _ L O V a W _ l j i g f h R d (λch M H pd y hd hR=>HP ch M H pd y hd hR) ?_;intro e A z w M H u N G t r;cases e with
 |normal=>exact b D B m q o x A k u z w M H Q l (j.go N G) i g f af r t (d.ext N.ext) HP (λe2 s2 O2 V2 a2 W2 L2 ag al R2 an=>F e2 s2 O2 V2 a2 W2 L2 (N.trans ag) (G.trans al N.ax) R2 an)
 |ret=>exact F .ret A z w M H u N G t r
 |exit id=>exact F (.exit id) A z w M H u N G t r
 |bI v=>exact F (.bI v) A z w M H u N G t r
def az.back{N:World}{D v:cq}{V L:aq}{M:ai}{B H:S}{a u:Act}{W G:World}(X:az t N D cf.ty V x R a W)(r:R.bd=J)
  (q:bH B x V H M L)(o:B.ao=R.ao)(P:az t N v cf.ty L M H u G){D2:cq}{a2:Act}{A:uP}(z:a2.tmps=a.tmps)(n:eN N D2 A M.y a2.defers G):az t N D2 cf.ty L M {H with tmps:=R.tmps,pd:=A} a2 G:=by
 obtain⟨m,-⟩:=X.zZ r;refine⟨P.mem,P.gV,P.ei,P.eb,P.er,n,by rw[z];exact X.size,λQ l h=> ?_,P.gD⟩;rw[z];rcases X.tmps Q l h with F|F;exact .inl F;right;have w:=q.ext;rw[o] at w;rw[w.ab (wz m h)];exact F
def az.enter{N:World}{D M:cq}{V:aq}{a:Act}{W:World}(X:az t N D cf.ty V x R a W)(P:ap)(n:Nat)(H:eN N M R.pd x.y [] W):
  az t N M cf.ty V x {R with tmps:=P++eF (n-Y P) (.bO [])} {tmps:=(C.aG x V P).toArray++ajm (n-(C.aG x V P).toArray.size) undef,defers:=[]} W:=by
 refine⟨X.mem,X.gV,X.ei,X.eb,X.er,H,av,λQ F h=> ?_,X.gD⟩;right;simp only[Ho,H9];by_cases L:Q<Y P;rw[dN L] at h;rw[aIT (by simpa using L)];simp[t8,h];rw[iJ aa,Hh] at h;split at h;rename_i G;cases h;rw[Array.getElem?_append_right dl];simp only[Ho,H9,Array.getElem?_replicate];rw[aL G];rfl;cases h
def LB(H:jS p cf)(hC:An p cf X){D:cq}{B:j8}{yh:YH}(hY:rN p cf D.dF B yh):Ub p cf D B (kJ cf (λf c s k=>gp cf X f c s yh k) yh):=by
 intro L g0 t s k kp O V a W r G h R q b ag hp;cases g0 with
 |yl yn=>exact λF hF m=>hY.use G h R q b ag hp F hF m
 |fn g=>
 unfold kJ at h;simp only at h;split at h;rename_i c nt rs af;refine⟨H.Ai g (.inr (by rw[af];rfl)), ?_⟩;split at h;rename_i hb;simp only[S.fp,aw] at hb;obtain⟨fn,hf,aA,aC,a0⟩:=H.inl g c nt rs af;refine Lv hf aA ?_;obtain⟨ms,m1,m0,m2,m3⟩:=R.dp.mE;have RE:=R.enter t nt (R.dp.enter m2 m3 E);rw[<-aC] at RE h;have a1:B.mF {s with tmps:=t++eF (fn.ntmps-Y t) (.bO [])} O V L:=⟨⟨G.later.ext,G.later.mono,G.later.len,G.later.ax⟩,G.Il⟩;refine hC ⟨ms++D.out,D.dF,E,[]⟩ B yh Z g c _ _ L O V _ W _ hY a1 rfl (λhh=>by cases hh) ⟨fn,hf⟩ h RE q ?_ ?_;intro ch N o pd y hA hR;obtain⟨a3,A,q0,j,z⟩:=hA.mE;rw[A] at hA;have x:=(hA.rM).Lw m0;rw[<-m1] at x;show LeavesInM Fence.wide 0 p.P fn N.tmps r N.defers (.panicking ch) o;rw[A];exact uh av (xS.1 j).1 (λd M=>(z d (by simp[M])).1) (hp ch _ pd y x (PK (H.Um ch) (λd M=>(z d (by simp[M])).2) hR));intro e s' i V' N o L' w hL RR Q;have al:bH s O V {s' with tmps:=s.tmps} i V':=⟨w.ext,w.mono,w.len,w.ax⟩;obtain⟨a3,A,q0,j,z⟩:=RR.dp.mE;have R2:=RR.rM A;have x:=R2.dp.Lw m0;rw[<-m1] at x;have RB:=R.back hb.1 w rfl R2 (D2:=D) (a2:=a) rfl x;have an:∀l,uU cf s' rs=U l->(k (one l) {s' with tmps:=s.tmps}).aS p i L'->LeavesInM Fence.wide 0 p.P fn N.tmps r N.defers .returning o:=by
  intro l u Q;rw[A];refine uh av (xS.1 j).1 (λd M=>(z d (by simp[M])).1) ⟨_,Lg R2 H.ll (by rw[a0];exact u), ?_⟩;exact b _ _ i V' _ L' al hL RB Q
 cases e with
 |normal=>
  simp only[Ky] at Q;split at Q;rename_i l u;exact an l u Q;exact Q.elim
 |ret=>
  simp only[Ky] at Q;split at Q;rename_i l u;exact an l u Q;exact Q.elim
 |bI v=>
  show LeavesInM Fence.wide 0 p.P fn N.tmps r N.defers (.panicking _) o;rw[A];exact uh av (xS.1 j).1 (λd M=>(z d (by simp[M])).1) (ag v _ i V' _ L' al hL RB Q)
 |exit id=>exact Q.elim
 exact h.elim;rename_i af;exact alo H.pt (λg q=>H.Ai g (.inl q)) D L g t s k O V a W r h R b hp
def ayn(b:Bool)(H:jS p cf){D:cq}{B:j8}{G:qH}(F:Ub p cf D B G):Ub p cf D B (aag b cf G):=by
 intro L x Q s k A O V a W P z h R X N y M;cases x with
 |yl w=>exact F L (.yl w) Q s k A O V a W P z h R X N y M
 |fn g=>
  cases b with
  |false=>exact F L (.fn g) Q s k A O V a W P z h R X N y M
  |true=>exact alo H.pt (λg X=>H.Ai g (.inl X)) D L g Q s k O V a W P h R N M
end
