/- Part 2 of the proof; the last part says what is shown. -/
import Derived.Test.YtfpoabmmjhhncaaGreatDoorQ1
import Derived.Maps.RangeRun
import Derived.RangeFuncSeq
import Derived.StillTailTactics
import Derived.RangeFuncIn
import Derived.RangeFuncLeaves
import Derived.LoopNIn
import Derived.LoopIn
set_option linter.all false
set_option maxRecDepth 100000
set_option maxHeartbeats 100000000
open Bool renaming and_eq_true->aw,not_eq_true'->f9,false_eq_true->iC,or_eq_true->iD,or_eq_false_iff->tc,eq_iff_iff->uF,not_eq_false->BC,and_self->xT,true_and->Gd,and_true->JL,or_eq_true_iff->alp,not_true->aaH,and_eq_false_iff->axc,false_or->alG,true_or->alH,true_eq_false->axr,true->J,false->E
open List renaming getElem?_eq_some_iff->bJ,getD_eq_getElem?_getD->cw,getElem?_eq_getElem->ce,getElem?_append_left->dF,getElem?_map->dM,getElem?_append_right->gK,mem_append->eC,mem_cons->dJ,all_eq_true->eO,replicate->ew,length_append->fQ,map_cons->ep,cons_append->gA,mem_of_getElem?->iU,getElem?_eq_none->jx,pairwise_cons->iv,map_congr_left->jh,nil_append->gU,range->e8,any_eq_true->jy,ext_getElem?->jV,eq_nil_of_length_eq_zero->qG,length_eq_one_iff->nj,mem_map->gL,pairwise_append->mB,getElem?_take->lT,contains_iff_mem->ov,getElem?_cons_succ->qH,getElem?_set_ne->pM,getElem?_of_mem->qI,getElem?_drop->rJ,getElem_mem->pN,length_cons->pO,length_map->o8,mem_filter->o9,mem_append_left->uC,map_map->mT,getElem?_cons_zero->xR,getElem?_eq_none_iff->zT,getElem?_set->td,mem_or_eq_of_mem_set->Bw,nodup_append->uE,drop_eq_getElem_cons->Dv,mem_of_mem_drop->zU,getElem?_replicate->Dw,length_eq_zero_iff->Dx,mem_cons_of_mem->By,mem_of_mem_take->Bz,getElem?_set_self->Dy,mem_filterMap->zV,mem_range->vZ,take_of_length_le->F7,range'->uI,size_toArray->DB,getElem?_range->F8,mem_of_find?_eq_some->NB,foldl_cons->BF,mem_append_right->JC,length_drop->DD,map_nil->xU,length_take->F9,mem_cons_self->JF,range_eq_range'->NF,append_nil->Gc,mem_singleton->NI,map_append->JG,all_cons->JK,find?_some->NN,zip_cons_cons->To,replicate_one->Tp,dropLast_append_of_ne_nil->alg,nodup_cons->NO,sublist_cons_self->aax,take_append_of_le_length->alh,range'_succ->Ts,filterMap_cons->aaA,getElem?_zip_eq_some->ali,drop_eq_nil_of_le->alj,drop_append_of_le_length->awV,pairwise_map->alu,append_eq_append_iff->aw1,length_erase_of_mem->aw2,map_set->aaI,any_map->aaJ,append_cancel_right->aw3,length_set->alx,drop_of_length_le->aw9,length_pos_of_mem->axa,drop_zero->alB,mapM_cons->alC,dropLast_sublist->axd,getElem?_append->axf,mem_erase_of_ne->axg,set_cons_zero->axq,Sublist->alJ,append_of_mem->axs,length->Y
open Go.Result renaming andThen_ok->cT
open Nat renaming le_refl->bU,zero_add->gV,blt->iW,le_trans->pP,add_zero->uH,testBit_or->BG,le_of_eq->BK,strongRecOn->JH,lt_of_lt_of_le->Tn,zero_le->NT,testBit_shiftLeft->alk
open Option renaming map_some->dQ,isSome_iff_exists->jw,getD_some->nl,bind_some->Tt,getD_none->aaC,isNone_iff_eq_none->aw0,some->U,none->Z
open Go.Sem renaming run_bind->cZ,run_pure->eI
open Array renaming getElem?_eq_some_iff->jg,ext'->kG,toList_map->th,getElem?_eq_getElem->F6,getElem?_setIfInBounds_ne->aav,replicate->JI,getElem?_setIfInBounds_self_of_lt->awT,getElem?_append_left->awX,mapM_eq_mapM_toList->awZ,getElem?_replicate->aw4,mem_toList_iff->axh,mem_filter->axA
open Go.Op renaming operands->gu,equalIn->zW,equal->BL
open Go.Region renaming wanted->jH,ready->qJ,binds->alI
open Go.World renaming putObj_heap_other->rI,cell?->mC,putObj->BJ,putObj_heap_same->aw8
open List.Pairwise renaming nil->uD
open List.cons renaming injEq->uG
open Go.Oper renaming semAt_eq->v6,uponIn_enter->NK,uponIn_round->als
open Go.Call renaming operands->xS
open Int renaming toNat_natCast->DC
open Prod.mk renaming injEq->BH
open List.Sublist renaming append->aaz,refl->aaB
open Go.IntKind renaming i64->I
namespace Go.Proofs.YtfpoabmmjhhncaaGreatDoor.Y
open Go.RowKit
noncomputable section
variable{X:Nat}{v:TypeId}{e:am}{b:Bool}{x:ai}{t:ap}{R:S}{r:C}{l:Oper}{h:OM}
section
variable{c:ap}{d:World}{D:bI}{P:Program}{f:bi}{V:ap}{O:ai}{s:S}{a:Act}{W:World}
def ab1{X:Type}(l:List X)(x y:X):(l++[x]).set (Y l) y=l++[y]:=by
 induction l with
 |nil=>rfl
 |cons z Q R=>simp[R]
def ax.we(R:ax c d D f.ty V O s a W)(N:s.bd=J){t:TypeId}{X:am}(B:C.dA s.ni s.nb (Y s.rs) (aF s.ak) X=J):
  ax c d D f.ty (V++[W.heap.size]) O (s.we (t,X)) a (W.alloc (kO t (C.dw O V X)))/\bj s O V (s.we (t,X)) O (V++[W.heap.size]):=by
 obtain⟨A,j⟩:=R.room 1;have g:(s.room 1).ak.length=Y s.ak+1:=by simp[S.room]
 have z:fA (s.room 1).ak (Y s.ak)=true:=by simp[fA,S.room]
 have y:(s.room 1).eD X=true:=by
  simp only[S.eD,S.bd,aw] at N⊢;have M:aF (s.room 1).ak=aF s.ak:=by
   funext i;simp only[aF,cj,S.room,Tp];by_cases Q:i<Y s.ak;rw[dF Q];rw[gK aa,jx (l:=s.ak) aa];cases w:i-Y s.ak with
   |zero=>rfl
   |succ n=>rfl
  have v:∀L,C.pj s.ni s.nb (Y s.rs) L (s.ak++[Z])=C.pj s.ni s.nb (Y s.rs) L s.ak:=by
   intro L;generalize s.ak=l;induction l with
   |nil=>rfl
   |cons x e u=>cases x<;>simp[C.pj,u]
  refine⟨⟨?_, ?_⟩,by rw[M];exact B⟩;rw[M];exact N.1;rw[M];simp only[S.room,Tp];rw[v];exact N.2
 have G:=A.alloc z t X y;have r:(V++ew 1 0).set (Y s.ak) W.heap.size=V++[W.heap.size]:=by
  rw[<-R.fM,Tp];exact ab1 _ _ _
 have q:C.dw O (V++ew 1 0) X=C.dw O V X:=by
  apply abf;funext k;simp only[ad,cw,Tp];by_cases h:k<Y V;rw[dF h];rw[gK aa,jx (l:=V) aa];cases w:k-Y V with
  |zero=>rfl
  |succ n=>rfl
 rw[r,q] at G;have p:({((s.room 1).cU (Y s.ak) t X) with lk:=s.lk}:S)=s.we (t,X):=by
  simp only[S.cU,S.room,S.we,Tp,ab1]
 have F:=G.lk s.lk;rw[p] at F;refine⟨F,⟨⟨gW.refl _ _ _ _,bU _,bU _,bU _,λk o=> ?_⟩,λi Q=> ?_,by simp[S.we],bU _⟩⟩;have:k<Y V:=by
  obtain⟨b,H⟩:=jw.1 o;rw[R.fM];exact(bJ.1 (jl.1 H)).1
 simp[ad,dF this];obtain⟨b,H⟩:=jw.1 Q;have m:=(bJ.1 (jl.1 H)).1;simp only[aF,cj,S.we,dF m] at Q⊢;exact Q
def ax.UU(R:ax c d D f.ty V O s a W){cs':am}(M:bM s.ak X=U (v,e)):
  ax c d D f.ty V O (s.cU X v cs') a (W.putObj (ad V X) (kO v (C.dw O V cs'))):=by
 have x:=R.mem.box X v e M;have q:ad V X<W.heap.size:=yA x;have w:X<Y s.ak:=(bJ.1 (jl.1 M)).1;have H:aF s.ak X=true:=by simp[aF,M]
 have G:∀j,aF (s.ak.set X (U (v,cs'))) j=J->aF s.ak j=true:=λj N=>by
  rcases(nX w).1 N with rfl|h;exact H;exact h
 have F:∀b,b≠ad V X->(W.putObj (ad V X) (kO v (C.dw O V cs'))).heap[b]?=W.heap[b]?:=λb h=>rI h
 refine⟨⟨⟨R.mem.base.os,R.mem.base.tape,R.mem.base.output,by simpa[BJ] using R.mem.base.size,λk B u=> ?_⟩,λj N=>R.mem.own j (G j N),λj k N B=>R.mem.inj j k (G j N) (G k B),λj L p N=> ?_,λk Q A n m=> ?_⟩,by simpa[S.cU] using R.fM,R.ei,R.eb,R.er,R.cQ.amx (λb o z l=> ?_),R.size,R.tmps,λk Q A b g q2 q3=> ?_⟩;have af:k≠ad V X:=by
  rintro rfl;rcases R.mem.own X H with h|h;omega;exact u h
 rw[F k af];exact R.mem.base.block k B u;by_cases y:j=X;subst y;rw[S.cU,En w] at N;simp only[cg,BH] at N;obtain⟨rfl,rfl⟩:=N;exact aw8 q;rw[S.cU,ww y] at N;rw[F _ (λh=>y (R.mem.inj j X (by simp[aF,N]) H h))];exact R.mem.box j L p N;obtain⟨ag,r⟩:=R.mem.ah k Q A n m;exact⟨ag.GX (λb M=>F b (λh=>r b M X H h.symm)) (by simp[BJ]),λb M j N=>r b M j (G j N)⟩;rw[F b (λQ=>by subst Q;rw[x] at z;cases z;exact abH l _ _ rfl)];exact z;have t:=R.fz k Q A b g q2 q3;have L:=t.world (W':=W.putObj (ad V X) (kO v (C.dw O V cs'))) (F b (λh=>t.box X H h.symm));exact⟨L.own,L.mem,λj N=>L.box j (G j N),L.alone,L.inner⟩
def ax.UV(R:ax c d D f.ty V O s a W){i:Nat}{cs':am}(X:bM s.ak i=U (v,e))(_:∀Q N M,kO v (C.dw O V e)≠ .cells Q N M):
  ax c d D f.ty V O (s.cU i v cs') a (W.putObj (ad V i) (kO v (C.dw O V cs'))):=R.UU X
def wC(L:aZ)(X:Value×Value):qL->qL
 |[]=>[X]
 |p::r=>if uZ p.1=L then X::r else p::wC L X r
def ab2:∀{l:qL}{m:Nat}{p:Value×Value},fK m (l++[p])=fK m l++[⟨p.1,p.2,m+Y l⟩]
 |[],m,p=>by simp[fK]
 |x::r,m,p=>by
  simp only[gA,fK,ab2 (l:=r) (m:=m+1) (p:=p)];simp;omega
def ab3{L:aZ}{kv:Value×Value}:∀{l:qL}{m i:Nat},
  (mZ L (fK m l) i=Z/\wC L kv l=l++[kv])\/∃j v p,mZ L (fK m l) i=U (i+j,v)/\(fK m l)[j]?=U ⟨p.1,p.2,m+j⟩/\p∈l/\uZ p.1=L/\(wC L kv l).length=Y l/\fK m (wC L kv l)=(fK m l).modify j λe=>{e with key:=kv.1,val:=kv.2}
 |[],m,i=>.inl ⟨rfl,rfl⟩
 |p::r,m,i=>by
  simp only[fK,mZ,wC];by_cases h:uZ p.1=L;right;rw[aE h,aE h];exact⟨0,p.2,p,rfl,rfl,au,h,au,by simp[fK]⟩;rw[aJ h,aJ h];rcases ab3 (l:=r) (m:=m+1) (i:=i+1) with⟨X,R⟩|⟨j,v,Q,X,R,N,M,H,G⟩;exact .inl ⟨X,by rw[R];rfl⟩;refine .inr ⟨j+1,v,Q,by rw[X];congr 2;omega,by simp only[qH,R];congr 2;omega,by simp[N],M,by simp[H], ?_⟩;simp only[fK,G,List.modify_succ_cons]
def amR(Q:Bool)(l:aZ):Instr.sameBits 10000 (gf Q l) (gf Q l)=true:=by
 cases Q;simp[gf,Instr.sameBits];show Instr.sameBits (9999+1) (.agg _) (.agg _)=J;simp only[Instr.sameBits,beq_self_eq_true,Gd,eO];intro p L;have:p.1=p.2/\∃x,p.1=.int I x:=by
  have H:∀(m:eX)(q:Value×Value),q∈m.zip m->q.1=q.2/\q.1∈m:=by
   intro m;induction m with
   |nil=>intro q X;cases X
   |cons y F M=>
    intro q X;simp only[To,dJ] at X;rcases X with rfl|X;exact⟨rfl,au⟩;exact⟨(M q X).1,by simp[(M q X).2]⟩
  obtain⟨N,R⟩:=H _ p L;simp only[gL] at R;obtain⟨x,-,G⟩:=R;exact⟨N,x,G.symm⟩
 obtain⟨N,x,R⟩:=this;rw[<-N,R];simp[Instr.sameBits]
def ab4{k e:TypeId}(h:P.underlying v=U (.map k e))(B:rZ P k X b){R:Nat}{l:qL}(A:W.heap[R]?=U (oC l)){L:aZ}(g:Y L=X)
  (z:∀p∈l,∃N:aZ,Y N=X/\p.1=gf b N)(Q:Value):
  (Instr.mapUpdate v (.map (U R)) (gf b L) Q).run P W=.ok () (W.putObj R (oC (wC L (gf b L,Q) l))):=by
 have f:∀x∈fK 0 l,∃N:aZ,Y N=X/\x.key=gf b N:=λx d=>by
  obtain⟨p,M,H⟩:=Uy d;obtain⟨N,F,G⟩:=z p M;exact⟨N,F,H.trans G⟩
 obtain⟨c,c2⟩:=B.2 L (fK 0 l) W g f;have hg:=MapKept.run_getObj_map (P:=P) (w:=W) A;have y:=λo=>MapKept.run_setObj_map (P:=P) (w:=W) o A
 simp only[Instr.mapUpdate,cZ,eB.gp h,cT,hg,c,c2];rcases ab3 (L:=L) (kv:=(gf b L,Q)) (l:=l) (m:=0) (i:=0) with⟨M,H⟩|⟨j,u,p,M,H,F,G,h5,h6⟩;rw[M,H];simp only[y,BJ,oC,ab2];simp;rw[M];obtain⟨N,q1,r⟩:=z p F;have hl:N=L:=by
  rw[r,Uw (λe=>q1.trans (B.1 e))] at G;exact G
 subst hl;have q:(((fK 0 l).toArray[0+j]?).map (·.key)).getD (gf b N)=gf b N:=by
  simp[H,r]
 simp only[gV] at q⊢;simp only[q,Instr.keyThatStays,amR,cH,eI,cT,cZ,y,BJ,oC,h6,h5];simp
end
def sd(O:ai)(X:Fx):Prop:=∀x∈X,x.1.ab O=x.2
def OQ{M:Fx}(h:sd x M){X:BE}(Q:JW M X=U b):X.ab x=b:=by
 unfold JW at Q;split at Q;cases Q;simp[BE.ab];cases N:M.find? (λR=>R.1.aH X) with
 |none=>rw[N] at Q;cases Q
 |some R=>
  rw[N] at Q;cases Q;have L:=NN N;rw[<-BE.bD _ _ L];exact h R (NB N)
def ab5{N:Fx}(h:sd x N){X:BE}(M:X.ab x=b):sd x ((X,b)::N):=by
 intro R Q;rcases dJ.1 Q with rfl|Q;exact M;exact h R Q
def Ex{w:World}{D:bI}{H:Ty}{a:Act}{W:World}{N:ai}{V:ap}{M:Fx}(X:ax t w D H V x R a W)(G:gW x N (Y x.i) (Y x.b) (Y x.r))(h:sd x M):sd N (nR R M):=by
 intro Q F;obtain⟨B,L⟩:=o9.1 F;rw[<-X.ei,<-X.eb,<-X.er] at L;rw[BE.dS G _ L];exact h Q B
section
variable{f:bi}
def ax.drew{g:ap}{w:World}{D:bI}{V:ap}{O:ai}{s:S}{a:Act}{W:World}(R:ax g w D f.ty V O s a W):ax g w D f.ty V O s a {W with drawn:=W.drawn+1}:=
 ⟨⟨R.mem.base.drew,R.mem.own,R.mem.inj,R.mem.box,λk e X Q N=>⟨(R.mem.ah k e X Q N).1.GX (λ_ _=>rfl) (bU _),(R.mem.ah k e X Q N).2⟩⟩,R.fM,R.ei,R.eb,R.er,R.cQ.world (λ_ _ h _=>h),R.size,R.tmps,λk e X b Q N M=>(R.fz k e X b Q N M).world rfl⟩
end
section
variable{g:ap}{w:World}{D:bI}{P:Program}{f:bi}{V:ap}{O:ai}{s:S}{a:Act}{W:World}
def ax.ab6(R:ax g w D f.ty V O s a W)(N:s.bd=J)(j:Int):ax g w D f.ty V (O.add (.i j)) {s with ni:=s.ni+1} a W:=by
 obtain⟨M,L⟩:=R.wv N;have Q:=pY s.ak O (.i j) V;refine⟨⟨R.mem.base,R.mem.own,R.mem.inj,λi t H h=> ?_,R.mem.ah⟩,R.fM,by simp[ai.add,R.ei],R.eb,R.er,R.cQ,R.size,λt G h=> ?_,λk e F b X B A=> ?_⟩;rw[Q.dw (qX L h)];exact R.mem.box i t H h;rcases R.tmps t G h with X|X;exact .inl X;right;rw[Q.ab (tJ M h)];exact X;have t:=R.fz k e F b X B A;exact⟨t.own,t.mem,t.box,t.alone,t.inner⟩
def ax.ab7(R:ax g w D f.ty V O s a W)(M:s.bd=J){Q:Sh}{N:RV}(L:bu W f.ty (.mr Q) N):ax g w D f.ty V (O.add (.r N)) {s with rs:=s.rs++[.mr Q]} a W:=
 R.add M L (λb X=>by cases X) (λk e F b _ _ _ X=>by
  rcases X with X|⟨⟨t,H⟩,_⟩;cases X;cases H) (λe b G=>by cases G)
def ab8{M:Sh}{Q:aq}(h:∀X∈Q,El f.ty M X)(H:∀c∈bm f.ty (.mr M),lX c=J):bu W f.ty (.mr M) (.mk (.slice Z (Y Q) (Y Q)) Q):=by
 refine bu.mr M Q (λi X R=>(h X (iU R)).len) (λi j X c k R L N=>(h X (iU R)).int j c k L N) (λi j X c R L N=>(h X (iU R)).bool j c L N) (λi j X c z k R L N=> ?_);have:=H _ (iU N);simp[lX] at this
def UW{n:Nat}{X x:aC}:∀{R:aq},x∈eL n X R->x=X\/x∈R
 |[],h=>by simp[eL] at h;exact .inl h
 |r::Q,h=>by
  simp only[eL] at h;split at h;rcases dJ.1 h with h|h;exact .inl h;exact .inr (by simp[h]);rcases dJ.1 h with h|h;exact .inr (by simp[h]);rcases UW h with h|h;exact .inl h;exact .inr (by simp[h])
def ab9{n:Nat}{X:aC}:∀{rows:aq},(∀r∈rows,jJ n ((X.take n).map λc=>bF c.val) r=E)->eL n X rows=rows++[X]
 |[],_=>rfl
 |r::R,h=>by
  simp only[eL];rw[aJ (by rw[h r au];simp),ab9 (rows:=R) (λx Q=>h x (By _ Q))];rfl
def aca{n:Nat}{X va:Bool}(Q:X=E->n=1){R:aC}(H:B6 n R){L:aZ}(N:(R.take n).map (λc=>bF c.val)=L):∀{M:aq},(∀r∈M,B6 n r)->
  wC L (tI n X va R) (M.map (tI n X va))=(eL n R M).map (tI n X va)
 |[],_=>rfl
 |r::t,h=>by
  obtain⟨l,F,B,A⟩:=Kr (ag:=X) Q (h r au);have q:Y L=n:=by
   obtain⟨p,z,y⟩:=H;rw[<-N,y];simpa using z
  have w:jJ n L r=decide (l=L):=by
   simp only[jJ,A];rw[F7 aa]
  simp only[ep,wC,eL,N,w];have v:uZ (tI n X va r).1=l:=by
   simp only[tI,B];exact Uw (λe=>F.trans (Q e))
  rw[v];by_cases G:l=L;simp[G];simp only[G,fH,decide_false,iC,ep];rw[aca Q H N λx u=>h x (by simp[u])]
def amS(t:TypeId):(Instr.makeMap t Z).run P W=.ok (.map (U W.heap.size)) (W.alloc (.map #[] 0)):=by
 simp[Instr.makeMap]
def amT(R:ax g w D f.ty V O s a W){m:OM}{t:TypeId}(F:m.o.op=.makeMap t Z){N:S}(h:N2 f m.o.dst s t=U N):
  ∃v M L,pZ P m.o a W v M/\ax g w D f.ty L O N (a.put m.o.dst v) M/\bj s O V N O L:=by
 unfold N2 at h;split at h;rename_i k e n X aj q x;split at h;rename_i Q u;split at h;rename_i H;simp only[aw] at H;cases h;have B:C.dA s.ni s.nb (Y s.rs) (aF s.ak) (DW Q n X).2=true:=by
  unfold DW;split<;>simp[C.gO,C.aQ,RE.aQ,K.aQ,BE.aQ]
 obtain⟨G,A⟩:=R.we H.1 (t:=(DW Q n X).1) B;have z:kO (DW Q n X).1 (C.dw O V (DW Q n X).2)=.map #[] 0:=by
  unfold DW;split;rw[B7];simp[RE.rv,oC,fK];rw[B8];simp[C.ay,At,oC,fK]
 rw[z] at G;refine⟨.map (U W.heap.size),W.alloc (.map #[] 0),V++[W.heap.size],.inl ?_, ?_,A.put _ _⟩;simp[execOp,F,amS];have:=G.put m.o.dst (.mp (Y s.ak));have y:ad (V++[W.heap.size]) (Y s.ak)=W.heap.size:=by simp[ad,<-R.fM]
 rw[C.ab,y] at this;exact this;cases h;cases h;cases h
def OS{R:TypeId}{Q:TI}{r:RE}(h:ye f s v R X b Q e=U r):
  e=[.ah r,.int I (.c (X:Int)),.bool (.c b),.bool (.c Q.d.isAgg)]/\r.nq f.ty s ⟨v,R,X,b,Q.d.isAgg⟩=J/\Q.aj.all lX=true:=by
 unfold ye at h;split at h;split at h;rename_i N;simp only[aw,di] at N;cases h;obtain⟨⟨⟨⟨M,rfl⟩,rfl⟩,rfl⟩,L⟩:=N;exact⟨rfl,M,L⟩;cases h;cases h
def acb{x y z:K}(h:DO X b r=U (x,y,z)):r.cells.map (C.bN O)=([x.ab O,y.ab O,z.ab O].take X).map λu=>.mk (.int I u) []:=by
 unfold DO at h;split at h<;>first|(cases h;done)|(split at h<;>first|(cases h;done)|skip)
 all_goals
  rename_i R;cases h;simp only[aw,di] at R;obtain⟨rfl,-⟩:=R;simp[C.cells,C.bN]
def UX:∀{aj:eG}{l:am},lq f.ty s aj l=J->aj.all lX=J->Y l=Y aj/\(∀(j:Nat)(k:IntKind),aj[j]?=U (.int k)->∃x,(l.map (C.bN O))[j]?=U (.mk (.int k x) []))/\(∀(j:Nat),aj[j]?=U .bool->∃x,(l.map (C.bN O))[j]?=U (.mk (.bool x) []))/\(l.map (C.bN O)).map RV.val=C.ay O V l
 |[],[],_,_=>⟨rfl,λj k h=>by simp at h,λj h=>by simp at h,rfl⟩
 |[],_::_,h,_=>by simp[lq] at h
 |_::_,[],h,_=>by simp[lq] at h
 |c::aj,v::l,h,Q=>by
  simp only[lq,aw] at h;simp only[JK,aw] at Q;obtain⟨M,L,H,G⟩:=UX (aj:=aj) (l:=l) h.2 Q.2;have R:=h.1;unfold qO at R;split at R;rename_i k F e;have:k=F:=uJ R;subst this;refine⟨by simp[M],λj N X=> ?_,λj X=> ?_,by simp[C.ay,C.bN,C.ab,G]⟩;cases j with
  |zero=>simp at X;subst X;exact⟨e.ab O,rfl⟩
  |succ j=>simpa using L j N (by simpa using X)
  cases j with
  |zero=>simp at X
  |succ j=>simpa using H j (by simpa using X)
  rename_i b;refine⟨by simp[M],λj N X=> ?_,λj X=> ?_,by simp[C.ay,C.bN,C.ab,G]⟩;cases j with
  |zero=>simp at X
  |succ j=>simpa using L j N (by simpa using X)
  cases j with
  |zero=>exact⟨b.ab O,rfl⟩
  |succ j=>simpa using H j (by simpa using X)
  simp[lX] at Q;cases R
def amU{e:TypeId}{M:TI}(m:qN f.ty v X b=J)(l:f.ty e=U M)(i:M.aj.all lX=J){R:C}{x y z:K}(G:DO X b r=U (x,y,z))(h:lq f.ty s M.aj R.cells=J):
  El f.ty ⟨v,e,X,b,M.d.isAgg⟩ ((r.cells++R.cells).map (C.bN O)):=by
 obtain⟨g,F,B,A⟩:=GR (va:=M.d.isAgg) m l;obtain⟨q1,q2,q3,-⟩:=UX (O:=O) (V:=[]) h i;have af:=(Ux (O:=O) (V:=[]) G).2;have w:=acb (O:=O) G;have t:(r.cells.map (C.bN O)).length=X:=by rw[w];simpa using af
 have q:∀(j:Nat),((r.cells++R.cells).map (C.bN O))[j]?=if j<X then(r.cells.map (C.bN O))[j]? else(R.cells.map (C.bN O))[j-X]?:=by
  intro j;rw[JG,axf,t]
 have p:∀(j:Nat),(bm f.ty (.mr ⟨v,e,X,b,M.d.isAgg⟩))[j]?=if j<X then g[j]? else M.aj[j-X]?:=by
  intro j;rw[F,axf,B]
 refine⟨?_,λj c kk Q N=> ?_,λj c Q N=> ?_⟩;rw[F,o8,fQ,fQ,B,q1];simp at t;omega;rw[q] at Q;rw[p] at N;split at Q;rename_i L;rw[aE L] at N;have:=A _ (iU N);cases this;rw[w,dM] at Q;cases o:([x.ab O,y.ab O,z.ab O].take X)[j]? with
 |none=>rw[o] at Q;cases Q
 |some u=>rw[o] at Q;cases Q;exact⟨u,rfl⟩
 rename_i L;rw[aJ L] at N;obtain⟨u,H⟩:=q2 _ kk N;rw[H] at Q;cases Q;exact⟨u,rfl⟩;rw[q] at Q;rw[p] at N;split at Q;rename_i L;rw[aE L] at N;have:=A _ (iU N);cases this;rename_i L;rw[aJ L] at N;obtain⟨u,H⟩:=q3 _ N;rw[H] at Q;cases Q;exact⟨u,rfl⟩
def amV{e:TypeId}{R:Bool}{Q:TI}(M:qN f.ty v X b=J)(L:f.ty e=U Q)(H:Q.aj.all lX=J):∀c∈bm f.ty (.mr ⟨v,e,X,b,R⟩),lX c=true:=by
 obtain⟨B,G,A,F⟩:=GR (va:=R) M L;intro c N;rw[G] at N;rcases eC.1 N with h|h;rw[F c h];rfl;exact eO.1 H c h
def amW(W:World)(b:Nat)(o:Obj):ChangeMaps.setBlock W b o=W.putObj b o:=rfl
def MR.acd(g:ap)(w:World)(D:bI)(R:Ty)(V:ap)(O:ai)(s:S)(a:Act)(Q:World):MR->Prop
 |.ok X=>ax g w D R V O X a Q/\bj s O V X O V
 |.ae _ x X=>ax g w D R V (O.add (.r (gI x O))) X a Q/\bj s O V X (O.add (.r (gI x O))) V
def KI(R:ax g w D f.ty V O s a W)(a1:ip P f.ty){d:bX}{M X:C}{Q:MR}(h:BS f d s v r M X=U Q):
  ∃W',(Instr.mapUpdate v (r.ab O V) (M.ab O V) (X.ab O V)).run P W=.ok () W'/\Q.acd g w D f.ty V O s (a.put d undef) W':=by
 unfold BS at h;split at h;rename_i k e n L aj q i ht;have hd:P.underlying v=U (.map k e):=(a1 _ _ ht).desc;have b:rZ P k n L:=(a1 _ _ ht).key k e n L rfl;split at h;rename_i H xa xb xc bt A z g2 g3;have bx:=a1 _ _ z;split at h;cases h;rename_i bc;simp only[iD,f9,not_or,BC] at bc;obtain⟨⟨af,a3⟩,b0⟩:=bc;simp only[S.eD,aw] at a3;obtain⟨hb,a3⟩:=a3;obtain⟨bd,a4⟩:=Ux (O:=O) (V:=V) g2;have al:=R.mem.box i bt A g3;have b1:=OC (O:=O) (V:=V) (tL R) b0;split at h;rename_i an;simp only[di] at an;subst an;split at h;rename_i G b2;split at h;rename_i bf;cases h;obtain⟨rfl,c1,c5⟩:=OS b2;rw[B7] at al;have bg:=Em R c1;have bk:∀F∈(G.rv O).ae,B6 n F:=λF o=>GS af z (bg F o)
 have a9:=ab4 (P:=P) hd b al a4 (λp hp=>by
  obtain⟨F,o,rfl⟩:=gL.1 hp;obtain⟨l,q1,q2,-⟩:=Kr b.1 (bk F o);exact⟨l,q1,q2⟩) (X.ab O V)
 have ba:=amU (O:=O) (s:=s) af z c5 g2 bf;have bl:=acb (O:=O) g2;have cp:(M.cells.map (C.bN O)).length=n:=by rw[bl];simpa using a4
 have b3:((M.cells++X.cells).map (C.bN O)).take n=M.cells.map (C.bN O):=by
  rw[JG,alh aa,F7 aa]
 have b4:((M.cells++X.cells).map (C.bN O)).drop n=X.cells.map (C.bN O):=by
  rw[JG,awV aa,aw9 aa];rfl
 have hL:(((M.cells++X.cells).map (C.bN O)).take n).map (λc=>bF c.val)=[xa.ab O,xb.ab O,xc.ab O].take n:=by
  rw[b3,bl];simp[bF]
 obtain⟨f1,-,-,f4⟩:=UX (O:=O) (V:=V) bf c5;have b5:tI n L H.d.isAgg ((M.cells++X.cells).map (C.bN O))=(gf L ([xa.ab O,xb.ab O,xc.ab O].take n),X.ab O V):=by
  obtain⟨l,q1,q2,q3⟩:=Kr (ag:=L) b.1 (GS af z ba);have hl:l=[xa.ab O,xb.ab O,xc.ab O].take n:=by rw[<-q3,hL]
  have b6:po H.d.isAgg (X.cells.map (C.bN O))=X.ab O V:=by
   rw[b1,po,f4];cases ha:H.d.isAgg;have b7:Y X.cells=1:=by rw[f1];exact yz bx ha
   obtain⟨u,hu⟩:=nj.1 b7;simp only[iC,fH];rw[<-f4,hu];rfl;rfl
  simp only[tI,q2,hl,b4,b6]
 have a0:=aca (va:=H.d.isAgg) b.1 (GS af z ba) hL bk;rw[b5] at a0;have hh:bu W f.ty (.mr ⟨k,e,n,L,H.d.isAgg⟩) (gI (.ins (.ah G) n (M.cells++X.cells)) O):=by
  refine ab8 (λF br=> ?_) (amV af z c5);simp only[LE.ae] at br;rcases UW br with rfl|h;exact ba;exact bg F h
 have R1:=R.ab7 hb hh;have bb:∀cc tt ff,kO tj (C.dw (O.add (.r (gI (.ins (.ah G) n (M.cells++X.cells)) O))) V [.ah G,.int I (.c (n:Int)),.bool (.c L),.bool (.c H.d.isAgg)])≠ .cells cc tt ff:=by
  intro cc tt ff hx;rw[B7] at hx;cases hx
 have R2:=R1.UV (cs':=[.ah (.v (Y s.rs)),.int I (.c (n:Int)),.bool (.c L),.bool (.c H.d.isAgg)]) (i:=i) g3 bb;have b8:(RE.v (Y s.rs)).rv (O.add (.r (gI (.ins (.ah G) n (M.cells++X.cells)) O)))=gI (.ins (.ah G) n (M.cells++X.cells)) O:=by
  simp[RE.rv,ai.rv,ai.add,<-R.er]
 rw[B7,b8] at R2;refine⟨W.putObj (ad V i) (oC ((gI (.ins (.ah G) n (M.cells++X.cells)) O).ae.map (tI n L H.d.isAgg))), ?_, ?_, ?_⟩;simp only[C.ab,bd];rw[a9,a0];rfl;have:=R2.put d (.bA []);exact this;exact bj.put (s:=s) (s':={s with rs:=s.rs++[RK.mr ⟨k,e,n,L,H.d.isAgg⟩],ak:=s.ak.set i (U (tj,[.ah (.v (Y s.rs)),.int I (.c n),.bool (.c L),.bool (.c H.d.isAgg)]))}) ⟨pY _ _ _ _,λj hj=>(nX (bJ.1 (jl.1 g3)).1).2 (.inr hj),au,bU _⟩ d _;cases h;cases h;split at h;rename_i an;simp only[aw,di,f9] at an;obtain⟨⟨rfl,rfl⟩,rfl⟩:=an;split at h;rename_i x N bs;split at h;cases h;rename_i ca;cases h;rw[B8] at al;obtain⟨p1,p2⟩:=GU (O:=O) (V:=V) bs;rw[p1] at al;have a9:=ab4 (P:=P) hd b al a4 (λp hp=>by
  obtain⟨u,hu,rfl⟩:=gL.1 hp;exact⟨[u.1],rfl,rfl⟩) (X.ab O V)
 have a0:∀(N:aZ)(m:am),¬N.contains x=J->Y N=Y m->wC [x] (gf E [x],X.ab O V) ((N.zip m).map λp=>(.int I p.1,p.2.ab O V))=((N.zip m).map λp=>(.int I p.1,p.2.ab O V))++[(.int I x,X.ab O V)]:=by
  intro N;induction N with
  |nil=>intro m _ _;simp[wC,gf]
  |cons y ys ih=>
   intro m hc hl;cases m with
   |nil=>simp at hl
   |cons u us=>
    have ch:¬y=x:=by
     intro e;subst e;simp at hc
    have cl:¬ys.contains x=true:=by
     intro e;simp at e hc;exact hc.2 e
    have:=ih us cl (by simpa using hl);simp only[To,ep,wC,uZ,uG,and_true,ch,fH,this,gA]
 have bb:∀cc tt ff,kO rL (C.dw O V A)≠ .cells cc tt ff:=by
  intro cc tt ff hx;rw[B8] at hx;cases hx
 have R2:=R.UV (cs':=A++[.int I (.c x),X]) g3 bb;have cn:∀(l:am)(N:aZ),ph l=U N->At (C.ay O V (l++[.int I (.c x),X]))=At (C.ay O V l)++[(.int I x,X.ab O V)]:=by
  intro l;induction l using ph.induct with
  |case1=>intro N _;rfl
  |case2 k u Q ih=>
   intro N B;simp only[ph] at B;cases o:ph Q with
   |none=>rw[o] at B;cases B
   |some co=>
    have:=ih co o;simp only[gA,C.ay,At] at this⊢;rw[this]
  |case3 l h1 h2=>intro N B;unfold ph at B;split at B<;>first|(exact bp rfl h1)|(exact bp rfl (h2 _ _ _))|cases B
 rw[B8,cn A N bs,p1] at R2;refine⟨W.putObj (ad V i) (oC ((N.zip (lj A)).map (λp=>(Value.int I p.1,p.2.ab O V))++[(Value.int I x,X.ab O V)])), ?_,R2.put d (.bA []), ?_⟩;simp only[C.ab,bd];rw[a9];have:[(K.c x).ab O,xb.ab O,xc.ab O].take 1=[x]:=rfl;rw[this,a0 N _ ca p2];exact bj.put (s:=s) (s':=s.cU i rL (A++[.int I (.c x),X])) ⟨mI.refl _ _ _,λj hj=>(nX (bJ.1 (jl.1 g3)).1).2 (.inr hj),by simp[S.cU],bU _⟩ d _;cases h;cases h;cases h;cases h
end
section
variable{g:ap}{B:World}{D:bI}{P:Program}{f:bi}{V:ap}{O:ai}{s:S}{a:Act}{W:World}
def UY{X:Ty}{s:S}{n:Nat}:∀r:RE,r.kind X {s with ni:=n}=r.kind X s
 |.v k=>rfl
 |.cell r i j k=>by simp only[RE.kind,UY r]
 |.k v=>by cases v<;>rfl
def G9(R:ax g B D f.ty V O s a W){Q:Sh}{r:RE}(h:r.nq f.ty s Q=J):lenOf (r.rv O).val=(r.rv O).ae.length:=by
 unfold RE.nq at h;rcases alp.1 h with h|h;have X:=oF R au (uJ h);generalize r.rv O=N at X;cases X;rfl;unfold RE.nil at h;split at h;simp[RE.rv,lenOf];cases h
def amX(R:ax g B D f.ty V O s a W){e:TypeId}{G:TI}{i:Nat}{c:K}(h:TN f s v e X b G i=U c):∃l,W.heap[ad V i]?=U (oC l)/\(Y l:Int)=c.ab O:=by
 unfold TN at h;split at h;rename_i F M A;have Q:=R.mem.box i F M A;split at h;rename_i N;simp only[di] at N;subst N;cases L:ye f s v e X b G M with
 |none=>rw[L] at h;cases h
 |some r=>
  rw[L] at h;cases h;obtain⟨rfl,z,w⟩:=OS L;rw[B7] at Q;exact⟨_,Q,by simp[K.ab,G9 R z]⟩
 split at h;rename_i N;simp only[aw,di,f9] at N;obtain⟨⟨rfl,rfl⟩,rfl⟩:=N;cases H:ph M with
 |none=>rw[H] at h;cases h
 |some u=>
  rw[H] at h;cases h;rw[B8] at Q;obtain⟨y,x⟩:=GU (O:=O) (V:=V) H;rw[y] at Q;exact⟨_,Q,by simp[K.ab,x]⟩
 cases h;cases h
def KJ{t:Int}{c:K}{R:RE}:kO uL (C.dw O V [.mp X,.int I (.c t),.int I c,.ah R])=.mapIter (U (ad V X)) (c.ab O).toNat ((R.rv O).ae.map nV).toArray (c.ab O).toNat:=by
 simp[kO,uL,tj,rL,C.dw,C.gc,C.ab,abb]
def amY(R:ax g B D f.ty V O s a W)(H:ip P f.ty){m:OM}{t:TypeId}{x:Operand}(G:m.o.op=.range t x)(F:a.eval x=(s.ev f.gl x).ab O V){X:S}(h:N3 f m.o.dst s t (s.ev f.gl x)=U X):
  ∃v Q N,pZ P m.o a W v Q/\ax g B D f.ty N O X (a.put m.o.dst v) Q/\bj s O V X O N:=by
 unfold N3 at h;split at h;rename_i k e n ag aj q i A z;have y:P.underlying t=U (.map k e):=(H _ _ A).desc;split at h;rename_i te al;split at h;rename_i c w;split at h;rename_i M;simp only[aw] at M;obtain⟨⟨u,r⟩,p⟩:=M;cases h;obtain⟨l,j,d⟩:=amX R w;have b:C.dA s.ni s.nb (Y s.rs) (aF s.ak) [.mp i,.int I (.c (t:Int)),.int I c,.ah (.k (.slice Z 0 0))]=true:=by
  simp[C.gO,C.aQ,RE.aQ,K.aQ,p,r]
 obtain⟨L,L1⟩:=R.we u (t:=uL) b;rw[KJ,<-d] at L;have af:=run_range_map (P:=P) W t k e (ad V i) _ _ y j;refine⟨.pointer (U ⟨W.heap.size,0,Z⟩),W.alloc (.mapIter (U (ad V i)) (Y l) #[] (Y l)),V++[W.heap.size],.inl ?_, ?_,L1.put _ _⟩;simp only[execOp,G,F,z,C.ab,cZ,af,cT,eI];have:=L.put m.o.dst (.loc (Y s.ak) 0);have ha:ad (V++[W.heap.size]) (Y s.ak)=W.heap.size:=by simp[ad,<-R.fM]
 rw[C.ab,ha] at this;simpa[RE.rv] using this;cases h;cases h;cases h;cases h
def UZ:∀{l:qL}{m:Nat}{e:MapEntry},e∈fK m l->∃(j:Nat)(p:Value×Value),l[j]?=U p/\e=⟨p.1,p.2,m+j⟩
 |[],m,e,h=>by simp[fK] at h
 |x::r,m,e,h=>by
  simp only[fK,dJ] at h;rcases h with rfl|h;exact⟨0,x,rfl,rfl⟩;obtain⟨j,p,X,R⟩:=UZ h;exact⟨j+1,p,by simpa using X,by rw[R];congr 1;omega⟩
def U0:∀{l:qL}{m j:Nat}{p:Value×Value},l[j]?=U p->(⟨p.1,p.2,m+j⟩:MapEntry)∈fK m l
 |[],m,j,p,h=>by simp at h
 |x::r,m,0,p,h=>by simp at h;subst h;simp[fK]
 |x::r,m,j+1,p,h=>by
  have:=U0 (m:=m+1) (l:=r) (j:=j) (p:=p) (by simpa using h);simp only[fK,dJ];right
  rwa [show m+(j+1)=m+1+j from aa]
def ace:∀(n:Nat)(l:ap),(∀j,j<n->j∈l)->n<=Y l
 |0,_,_=>NT _
 |n+1,l,h=>by
  have X:=h n aa;have:=ace n (l.erase n) (λj R=>(axg aa).2 (h j aa));rw[aw2 X] at this;have:0<Y l:=axa X;omega
def Hd(R:DX f=J):bm f.ty (.mr (uR f))=[.int I]:=by
 simp only[DX,aw,aw0] at R;obtain⟨X,N⟩:=R;unfold qN at X;split at X;rename_i tk M;simp only[aw,di] at X;obtain⟨c,Q⟩:=nj.1 X.1.1;have:=X.1.2;rw[Q] at this;simp only[JK,List.all_nil,JL] at this;unfold TE at this;split at this;simp[bm,uR,M,N,Q];cases this;cases X
def U4(X:DX f=J){R:aC}(h:El f.ty (uR f) R):∃x,R=[.mk (.int I x) []]:=by
 have Q:=h.len;rw[Hd X] at Q;obtain⟨c,rfl⟩:=nj.1 Q;obtain⟨x,N⟩:=h.int 0 c I rfl (by rw[Hd X];rfl);exact⟨x,by rw[N]⟩
def amZ(Q:DX f=J)(x:Int):El f.ty (uR f) [.mk (.int I x) []]:=by
 refine⟨by rw[Hd Q];rfl,λj c k R X=> ?_,λj c R X=> ?_⟩;rw[Hd Q] at X;cases j with
 |zero=>simp at R X;subst R X;exact⟨x,rfl⟩
 |succ j=>simp at R
 rw[Hd Q] at X;cases j with
 |zero=>simp at X
 |succ j=>simp at R
def OT{r:RE}{A:K}{R:aC}(L:(r.rv O).ae[(A.ab O).toNat]?=U R):∀{aj:eG}{j:Nat},aj.all lX=J->Y R=j+Y aj->
  (∀(i:Nat)(k:IntKind),aj[i]?=U (.int k)->∃m,R[j+i]?=U (.mk (.int k m) []))->(∀(i:Nat),aj[i]?=U .bool->∃m,R[j+i]?=U (.mk (.bool m) []))->
  C.ay O V (rO r A j aj)=(R.drop j).map RV.val
 |[],j,_,Q,_,_=>by rw[alj (by simp at Q;omega)];rfl
 |.int k::aj,j,N,Q,H,G=>by
  obtain⟨m,X⟩:=H 0 k rfl;have F:=OT L (aj:=aj) (j:=j+1) (by simpa[lX] using N) (by simp at Q⊢;omega) (λi k h=>by have:=H (i+1) k (by simpa using h);rwa [show j+(i+1)=j+1+i from aa] at this) (λi h=>by have:=G (i+1) (by simpa using h);rwa [show j+(i+1)=j+1+i from aa] at this);have B:R.drop j=.mk (.int k m) []::R.drop (j+1):=by
   rw[uH] at X;have M:=(bJ.1 X).1;rw[Dv M];congr 1;rw[ce M] at X;simpa using X
  rw[uH] at X;simp only[rO,BN,C.ay,C.ab,K.ab,bz,F,B,ep,RV.l9,cw,L,X,nl,bF]
 |.bool::aj,j,N,Q,H,G=>by
  obtain⟨m,X⟩:=G 0 rfl;have F:=OT L (aj:=aj) (j:=j+1) (by simpa[lX] using N) (by simp at Q⊢;omega) (λi k h=>by have:=H (i+1) k (by simpa using h);rwa [show j+(i+1)=j+1+i from aa] at this) (λi h=>by have:=G (i+1) (by simpa using h);rwa [show j+(i+1)=j+1+i from aa] at this);have B:R.drop j=.mk (.bool m) []::R.drop (j+1):=by
   rw[uH] at X;have M:=(bJ.1 X).1;rw[Dv M];congr 1;rw[ce M] at X;simpa using X
  rw[uH] at X;simp only[rO,BN,C.ay,C.ab,BE.ab,bz,F,B,ep,RV.l9,cw,L,X,nl,iF]
 |.ac _ _::aj,j,N,_,_,_=>by simp[lX] at N
def U5{r:RE}{X:K}:∀{aj:eG}{j:Nat},(rO r X j aj).length=Y aj
 |[],j=>rfl
 |c::aj,j=>by simp[rO,U5 (aj:=aj)]
def acf{r:RE}{N:K}{R:aC}(G:(r.rv O).ae[(N.ab O).toNat]?=U R)(M:b=E->X=1)(F:B6 X R):(Gp r N X b).ab O V=po b (R.take X):=by
 obtain⟨l,B,L⟩:=F;have A:(R.take X).length=X:=by rw[L];simpa using B
 have z:C.ay O V ((e8 X).map λj=>.int I (.cell r N j))=(R.take X).map RV.val:=by
  rw[nx,mT];apply jV;intro j;rw[dM,dM];by_cases H:j<X;rw[F8 H];have y:j<Y l:=aa;have Q:(R.take X)[j]?=U (.mk (.int I l[j]) []):=by rw[L,dM,ce y];rfl
  have x:R[j]?=U (.mk (.int I l[j]) []):=by rw[lT,aE H] at Q;exact Q
  simp[Q,C.ab,K.ab,bz,G,x,bF];rw[jx dG,jx aa];rfl
 rw[Gp,Ax (λw=>by simpa using M w),z,po];cases b;obtain⟨c,Q⟩:=nj.1 (A.trans (M rfl));rw[Q];rfl;rfl
def am0{rs:RE}{je:K}{j:Int}(N:je.ab O=j)(h:∀R∈(rs.rv O).ae,∀x,R=[.mk (.int I x) []]->x≠j)(Q:∀R∈(rs.rv O).ae,∃x,R=[RV.mk (.int I x) []]):(N4 rs je).ab O=J/\∀r∈(rs.rv O).ae,jJ 1 [j] r=false:=by
 have M:∀r∈(rs.rv O).ae,∀b c,jJ 1 [j,b,c] r=false:=by
  intro r X b c;obtain⟨x,rfl⟩:=Q r X;have:=h _ X x rfl;simp[jJ,bF,this]
 constructor;simp only[N4,BE.ab,N,K.ab,f9,gD];rw[List.find?_eq_none.2 (λr X=>by simp[M r X])];rfl;intro r X;obtain⟨x,rfl⟩:=Q r X;have:=h _ X x rfl;simp[jJ,bF,this]
def acg(G:DX f=J)(R:ax g B D f.ty V O s a W)(z:s.bd=J){d:bX}{i t:Nat}{c:K}{Q:RE}(y:bM s.ak X=U (uL,[.mp i,.int I (.c (t:Int)),.int I c,.ah Q]))(b:Q.nq f.ty s (uR f)=J)
  {N:K}{j:Nat}(w:N.ab O=j)(af:¬((Q.rv O).ae.map nV).contains j=J){kv v:C}{key val:Value}
  (ag:∀F,kv.ab (O.add (.r F)) V=key)(hv:∀F,v.ab (O.add (.r F)) V=val):
  (N4 Q N).ab O=J/\ax g B D f.ty V (O.add (.r (gI (.ins (.ah Q) 1 [.int I N]) O))) (TO f d s X s.ni i t c kv v) (a.put d (.tuple #[.bool J,key,val])) (W.putObj (ad V X) (.mapIter (U (ad V i)) (c.ab O).toNat (((Q.rv O).ae.map nV).toArray.push j) (c.ab O).toNat)):=by
 have u:=Em R b;have ht:∀L∈(Q.rv O).ae,∃x,L=[RV.mk (.int I x) []]:=λL H=>U4 G (u L H)
 obtain⟨u1,u2⟩:=am0 (O:=O) (rs:=Q) (je:=N) w (λL H x M=>by
  intro e;apply af;simp only[ov,gL];refine⟨L,H, ?_⟩;subst M;simp[nV,bF,e]) ht
 refine⟨u1, ?_⟩;have hh:bu W f.ty (.mr (uR f)) (gI (.ins (.ah Q) 1 [.int I N]) O):=by
  refine ab8 (λL p=> ?_) (λx M=>by rw[Hd G] at M;simp at M;subst M;rfl);simp only[LE.ae,ep,xU,C.bN] at p;rcases UW p with rfl|h;exact amZ G _;exact u L h
 have al:(gI (.ins (.ah Q) 1 [.int I N]) O).ae=(Q.rv O).ae++[[.mk (.int I j) []]]:=by
  simp only[gI,RV.ma,LE.ae,ep,xU,C.bN,w];refine ab9 λr H=> ?_
  simpa[bF] using u2 r H
 have R1:=R.ab7 z hh;have an:∀o n m,kO uL (C.dw (O.add (.r (gI (.ins (.ah Q) 1 [.int I N]) O))) V [.mp i,.int I (.c (t:Int)),.int I c,.ah Q])≠ .cells o n m:=by
  intro o n m M;rw[KJ] at M;cases M
 have A:=R1.UV (cs':=[.mp i,.int I (.c (t:Int)),.int I c,.ah (.v (Y s.rs))]) (i:=X) y an;have a0:(RE.v (Y s.rs)).rv (O.add (.r (gI (.ins (.ah Q) 1 [.int I N]) O)))=gI (.ins (.ah Q) 1 [.int I N]) O:=by
  simp[RE.rv,ai.rv,ai.add,<-R.er]
 obtain⟨bb,a1⟩:=R.wv z;have l:=qX a1 y;simp only[C.gO,C.aQ,aw] at l;have a3:c.ab (O.add (.r (gI (.ins (.ah Q) 1 [.int I N]) O)))=c.ab O:=K.dS (pY s.ak O (.r (gI (.ins (.ah Q) 1 [.int I N]) O)) V).agree _ l.2.2.1;rw[KJ,a0,al,a3] at A;have a4:((Q.rv O).ae++[[RV.mk (.int I (j:Int)) []]]).map nV=(Q.rv O).ae.map nV++[j]:=by simp[nV,bF]
 rw[a4] at A;have k:=A.put d (.bA [.bool (.c J),kv,v]);have a9:(C.bA [.bool (.c J),kv,v]).ab (O.add (.r (gI (.ins (.ah Q) 1 [.int I N]) O))) V=.tuple #[.bool J,key,val]:=by
  simp only[C.ab,C.ay,ag,hv,BE.ab]
 rw[a9] at k;have ba:((Q.rv O).ae.map nV).toArray.push j=((Q.rv O).ae.map nV++[j]).toArray:=au;rw[ba];exact k
def ach{X:Type}:∀{l:List X}{m j:Nat},ez ((m+j:Nat):Int) ((uI m (Y l)).map λ(i:Nat)=>(i:Int)) l=l[j]?
 |[],m,j=>by simp[ez]
 |x::l,m,j=>by
  simp only[pO,Ts,ep,ez];cases j with
  |zero=>simp
  |succ j=>
   rw[aJ aa,show m+(j+1)=m+1+j from aa,ach];simp
def aci{R:Type}{l:List R}{j:Nat}(h:X=Y l):ez (j:Int) (Ad X) l=l[j]?:=by
 have:=ach (l:=l) (m:=0) (j:=j);rw[gV] at this;rw[Ad,h,NF];exact this
def am1(h:r.ab x V=r.ab O V):C.ay x V r.cells=C.ay O V r.cells:=by
 cases r
 case agg l=>simp only[C.ab,Value.agg.injEq] at h;simpa[C.cells] using h
 all_goals simp only[C.cells,C.ay,h]
def acj(R:ax g B D f.ty V O s a W){Q:TI}(G:eB P v Q){x:K}{N:aZ}{X:C}(h:N5 Q x N e=U (r,X))(F:Y N=Y e){O':ai}{j:Nat}(M:x.ab O'=j){k:Int}{u:C}(A:N[j]?=U k)(L:e[j]?=U u)(t:u.ab O' V=u.ab O V):
  r.ab O' V=.int I k/\X.ab O' V=u.ab O V:=by
 unfold N5 at h;split at h;rename_i q;split at h;rename_i y l p o;cases h;constructor;obtain⟨w,n,m,-⟩:=Uq (O:=O') p;obtain⟨k',z,i,rfl⟩:=m (.int I (.c k)) (by rw[M,aci au,dM,A];rfl);cases i;simp only[C.ab,n,K.ab];obtain⟨b,s1,s2⟩:=Oz (O:=O') (V:=V) o;have H:=eO.1 q u (iU L);have af:Y u.cells=0+Y Q.aj:=by
  simp only[xY,aw,di] at H;omega
 have ag:Q.d.isAgg=E->Y l=1:=λha=>by rw[b];exact yz G ha
 rw[Ax ag,s1 u.cells (by rw[M,aci (by simp[F]),dM,L];rfl) af,alB,am1 t,OC (tL R) H];cases h;cases h
def ack:∀{l:qL}{m:Nat},(fK m l).map (·.born)=uI m (Y l)
 |[],m=>rfl
 |x::r,m=>by simp[fK,ack (l:=r),Ts]
def am2{p:Sp}{L:cX}(hP:p.P=P)(R:ax g B D f.ty V O s a W)(an:ip P f.ty){m:OM}{x:Operand}(ho:m.o.op=.next x E)(he:a.eval x=(s.ev f.gl x).ab O V){bs bc:S->T}{t:T}(h:TP f m.o.dst s (s.ev f.gl x) bs bc=U t)(hs:t.aG p O L):
  ∃v W' z w,pZ P m.o a W v W'/\ax g B D f.ty V z w (a.put m.o.dst v) W'/\bj s O V w z V/\((z=O/\(bc w).aG p O L)\/(bs w).aG p z L):=by
 unfold TP at h;split at h;rename_i q hx;split at h;rename_i bt i tz c F hq;split at h;cases h;rename_i cc;simp only[f9,BC,aw,di,bZ] at cc;obtain⟨⟨⟨⟨⟨rfl,bx⟩,bf⟩,hb⟩,ch⟩,dx⟩:=cc;obtain⟨tn,rfl⟩:∃tn:Nat,tz=(tn:Int):=⟨tz.toNat,aa⟩;simp only[DC] at h;have b0:=R.mem.box _ _ _ hq;rw[KJ] at b0;have cI:=Em R bf;have dy:∀H∈(F.rv O).ae,∃x,H=[RV.mk (.int I x) []]:=λH hr=>U4 bx (cI H hr)
 obtain⟨dz,b1⟩:=R.wv hb;split at h;rename_i k e n ag aj qq dT cO cl cn;have hd:P.underlying tn=U (.map k e):=(an _ _ cl).desc;have hK:rZ P k n ag:=(an _ _ cl).key k e n ag rfl;split at h;rename_i M a0;split at h;cases h;rename_i bg;have bg:qN f.ty k n ag=true:=by simpa using bg
 have a3:=R.mem.box _ _ _ cn;have bk:=qX b1 cn;have model:∀(l:qL),W.heap[ad V i]?=U (oC l)->(Y l:Int)=c.ab O->
   (c.ab O<=lenOf (F.rv O).val/\pZ P m.o a W (.tuple #[.bool E]) W)\/
   ∃(j:Nat)(kv:Value×Value)(G:World),l[j]?=U kv/\¬((F.rv O).ae.map nV).contains j=J/\(G=W\/G=W.drew)/\pZ P m.o a W (.tuple #[.bool J,kv.1,kv.2]) (G.putObj (ad V q) (.mapIter (U (ad V i)) (c.ab O).toNat (((F.rv O).ae.map nV).toArray.push j) (c.ab O).toNat)):=by
  intro l hl b2;have hN:(c.ab O).toNat=Y l:=aa;rw[hN] at b0⊢;rcases run_next_at (P:=P) W m.o.type (ad V q) (ad V i) (Y l) (Y l) _ _ _ b0 hl (λy hy=>by
   obtain⟨j,p,h1,h2⟩:=UZ (by simpa using hy);rw[h2];have:=(bJ.1 h1).1;simpa using this) (bU _) with⟨h0,hr⟩|⟨en,b3,G,cR,hr⟩
  left;refine⟨?_,.inl ?_⟩;rw[G9 R bf,<-b2];have:=ace (Y l) ((F.rv O).ae.map nV) (λj hj=>by
   cases A:((F.rv O).ae.map nV).contains j with
   |true=>exact ov.1 A
   |false=>
    exfalso;have cW:=U0 (m:=0) (ce hj);have:(⟨(l[j]).1,(l[j]).2,0+j⟩:MapEntry)∈(leftOf (fK 0 l).toArray ((F.rv O).ae.map nV).toArray):=by
     unfold leftOf;rw[axA];refine⟨by simpa using cW, ?_⟩;simp only[gV,f9];rw[<-A];simp
    have d0:=Array.size_pos_of_mem this;omega)
  simpa using this;simp only[execOp,ho,he,hx,C.ab,cZ,hr,cT,eI];right;unfold leftOf at b3;rw[axh,axA] at b3;obtain⟨c0,co⟩:=b3;obtain⟨j,kv,hj,rfl⟩:=UZ (by simpa using c0);simp only[gV] at co hr;refine⟨j,kv,G,hj, ?_,cR,.inl ?_⟩;simpa using co;simp only[execOp,ho,he,hx,C.ab,cZ,hr,cT,eI,amW]
 have cp:(W=W)->(c.ab O<=lenOf (F.rv O).val)->pZ P m.o a W (.tuple #[.bool E]) W->(bc (s.put m.o.dst (.bA [.bool (.c E)]))).aG p O L->∃v W' z w,pZ P m.o a W v W'/\ax g B D f.ty V z w (a.put m.o.dst v) W'/\bj s O V w z V/\((z=O/\(bc w).aG p O L)\/(bs w).aG p z L):=by
  intro _ _ c2 c3;have:=R.put m.o.dst (.bA [.bool (.c E)]);exact⟨_,W,O,_,c2,this,(bj.refl _ _ _).put _ _,.inl ⟨rfl,c3⟩⟩
 have cs:∀G,(G=W\/G=W.drew)->ax g B D f.ty V O s a G:=by
  rintro G (rfl|rfl);exact R;exact R.drew
 split at h
 
 rename_i a4;simp only[di] at a4;subst a4;split at h;rename_i r hr;split at h;rename_i bl;simp only[aw] at bl;cases h;obtain⟨rfl,c1,c5⟩:=OS hr;rw[B7] at a3;have b4:c.ab O=((r.rv O).ae.length:Int):=by
  have:=K.bD _ _ bl.1;rw[this,K.ab,G9 R c1]
 have cv:=Em R c1;simp only[N6,T.aG] at hs;rcases model _ a3 (by rw[b4];simp) with⟨Q,g2⟩|⟨j,kv,G,Q,g2,g3,g4⟩;exact cp rfl Q g2 (hs.2 (decide_eq_true Q))
 ·rw[dM] at Q;cases a9:(r.rv O).ae[j]? with
  |none=>rw[a9] at Q;cases Q
  |some H=>
  rw[a9] at Q;simp only[dQ,cg] at Q;have c4:=(bJ.1 a9).1;have cx:=iU a9;have c6:=GS bg a0 (cv H cx);have b5:=hs.1 (j:Int) aa aa;have R1:=(cs G g3).ab6 hb (j:Int);have af:=(pY s.ak O (.i (j:Int)) V).agree;simp only[C.gO,C.aQ,aw] at bk;have al:=qX b1 hq;simp only[C.gO,C.aQ,aw] at al;have ba:F.rv (O.add (.i (j:Int)))=F.rv O:=RE.pX af _ al.2.2.2.1;have b6:c.ab (O.add (.i (j:Int)))=c.ab O:=K.dS af _ al.2.2.1;have bb:(K.v s.ni).ab (O.add (.i (j:Int)))=(j:Int):=by simp[K.ab,ai.add,<-R.ei]
  have c7:∀X,(K.v s.ni).ab ((O.add (.i (j:Int))).add (.r X))=(j:Int):=λX=>bb
  have c8:∀X,r.rv ((O.add (.i (j:Int))).add (.r X))=r.rv O:=λX=>by
   have a1:=RE.pX af _ bk.1;have b7:=(pY s.ak (O.add (.i (j:Int))) (.r X) V).agree;have a2:=RE.pX (b7.mono (by simp[ai.add]) (bU _) (bU _)) r bk.1;rw[a2,a1]
  have cy:∀X,(r.rv ((O.add (.i (j:Int))).add (.r X))).ae[((K.v s.ni).ab ((O.add (.i (j:Int))).add (.r X))).toNat]?=U H:=λX=>by
   rw[c8,c7];simpa using a9
  obtain⟨kc,r1,r2,r3⟩:=GR (va:=M.d.isAgg) bg a0;have b8:=cv H cx;have b2:Y H=n+Y M.aj:=by rw[b8.len,r1,fQ,r2]
  have cA:∀(N:Nat)(ct:CT),M.aj[N]?=U ct->(bm f.ty (.mr ⟨k,e,n,ag,M.d.isAgg⟩))[n+N]?=U ct:=λN ct hm=>by
   rw[r1,gK aa,r2,show n+N-n=N from aa];exact hm
  have cB:∀(N:Nat)(ct:CT),M.aj[N]?=U ct->∃c,H[n+N]?=U c:=λN ct hm=>by
   have:N<Y M.aj:=(bJ.1 hm).1;exact⟨H[n+N]' aa,ce _⟩
  have c9:M.d.isAgg=E->(rO r (.v s.ni) n M.aj).length=1:=λha=>by rw[U5];exact yz (an _ _ a0) ha
  have dc:∀X,(qM M.d.isAgg (rO r (.v s.ni) n M.aj)).ab ((O.add (.i (j:Int))).add (.r X)) V=po M.d.isAgg (H.drop n):=λX=>by
   rw[Ax c9,OT (cy X) c5 b2 (λN kk hm=>by
    obtain⟨c,A⟩:=cB N _ hm;obtain⟨x',ca⟩:=b8.int (n+N) c kk A (cA N _ hm);exact⟨x',by rw[A,ca]⟩) (λN hm=>by
    obtain⟨c,A⟩:=cB N _ hm;obtain⟨x',ca⟩:=b8.bool (n+N) c A (cA N _ hm);exact⟨x',by rw[A,ca]⟩),po]
   cases dd:M.d.isAgg;have h1:=yz (an _ _ a0) dd;obtain⟨c,A⟩:=nj.1 (show(H.drop n).length=1 from dG);rw[A];rfl;rfl
  obtain⟨u1,u2⟩:=acg (d:=m.o.dst) (s:={s with ni:=s.ni+1}) (kv:=Gp r (.v s.ni) n ag) (v:=qM M.d.isAgg (rO r (.v s.ni) n M.aj)) (key:=po ag (H.take n)) (val:=po M.d.isAgg (H.drop n)) bx R1 ch hq (by simpa only[RE.nq,UY] using bf) bb (by rw[ba];exact g2) (λX=>acf (cy X) hK.1 c6) dc;rw[ba,b6] at u2;subst Q;refine⟨_,_,_,_,g4,u2, ?_,.inr ?_⟩;refine bj.put (s:=s) (s':={s with ni:=s.ni+1,rs:=s.rs++[RK.mr (uR f)],ak:=s.ak.set q _}) ⟨(pY s.ak O (.i (j:Int)) V).trans (pY s.ak _ _ V) (λ_ h=>h),λj hj=>(nX (bJ.1 (jl.1 hq)).1).2 (.inr hj),au,bU _⟩ _ _;exact b5 u1
 cases h;cases h;split at h
 
 rename_i a4;simp only[aw,di,f9] at a4;obtain⟨⟨rfl,rfl⟩,rfl⟩:=a4;split at h;rename_i ks df;split at h;rename_i bl;split at h;rename_i dk v0 dn;cases h;rw[B8] at a3;obtain⟨p1,p2⟩:=GU (O:=O) (V:=V) df;rw[p1] at a3;have b4:c.ab O=(Y ks:Int):=by
  have:=K.bD _ _ bl;rw[this,K.ab]
 simp only[N6,T.aG] at hs;rcases model _ a3 (by rw[b4];simp[p2]) with⟨Q,g2⟩|⟨j,kv,G,Q,g2,g3,g4⟩;exact cp rfl Q g2 (hs.2 (decide_eq_true Q))
 ·rw[dM] at Q;cases hz:(ks.zip (lj cO))[j]? with
  |none=>rw[hz] at Q;cases Q
  |some kp=>
  rw[hz] at Q;simp only[dQ,cg] at Q;obtain⟨z1,z2⟩:=ali.1 hz;have dr:∀{l:am}{jj:Nat}{u:C},C.dA (Y O.i) (Y O.b) (Y O.r) (aF s.ak) l=J->(lj l)[jj]?=U u->u.bd (Y O.i) (Y O.b) (Y O.r) (aF s.ak)=true:=by
   intro l;induction l using lj.induct with
   |case1 k v r ih=>
    intro jj u br hu;simp only[C.gO,aw] at br;simp only[lj] at hu;cases jj with
    |zero=>simp at hu;subst hu;exact br.2.1
    |succ jj=>exact ih br.2.2 (by simpa using hu)
   |case2 l h1=>
    intro jj u br hu;unfold lj at hu;split at hu;exact bp rfl (h1 _ _ _);simp at hu
  have c4:j<Y ks:=(bJ.1 z1).1;have b5:=hs.1 (j:Int) aa aa;have R1:=(cs G g3).ab6 hb (j:Int);have af:=(pY s.ak O (.i (j:Int)) V).agree;have al:=qX b1 hq;simp only[C.gO,C.aQ,aw] at al;have ba:F.rv (O.add (.i (j:Int)))=F.rv O:=RE.pX af _ al.2.2.2.1;have b6:c.ab (O.add (.i (j:Int)))=c.ab O:=K.dS af _ al.2.2.1;have bb:(K.v s.ni).ab (O.add (.i (j:Int)))=(j:Int):=by simp[K.ab,ai.add,<-R.ei]
  have cC:=dr bk z2;have ds:∀X,kp.2.ab ((O.add (.i (j:Int))).add (.r X)) V=kp.2.ab O V:=λX=>by
   have b7:=(pY s.ak (O.add (.i (j:Int))) (.r X) V).agree;rw[C.dS (b7.mono (by simp[ai.add]) (bU _) (bU _)) (λ_ _=>rfl) _ cC,C.dS af (λ_ _=>rfl) _ cC]
  have cD:=λX=>acj R (an _ _ a0) dn p2 (O':=(O.add (.i (j:Int))).add (.r X)) (j:=j) bb z1 z2 (ds X)
  obtain⟨u1,u2⟩:=acg (d:=m.o.dst) (s:={s with ni:=s.ni+1}) (kv:=dk) (v:=v0) (key:=.int I kp.1) (val:=kp.2.ab O V) bx R1 ch hq (by simpa only[RE.nq,UY] using bf) bb (by rw[ba];exact g2) (λX=>(cD X).1) (λX=>(cD X).2);rw[ba,b6] at u2;subst Q;refine⟨_,_,_,_,g4,u2, ?_,.inr ?_⟩;refine bj.put (s:=s) (s':={s with ni:=s.ni+1,rs:=s.rs++[RK.mr (uR f)],ak:=s.ak.set q _}) ⟨(pY s.ak O (.i (j:Int)) V).trans (pY s.ak _ _ V) (λ_ h=>h),λj hj=>(nX (bJ.1 (jl.1 hq)).1).2 (.inr hj),au,bU _⟩ _ _;exact b5 u1
 cases h;cases h;cases h;cases h;cases h;cases h;cases h;cases h
def am3{p:Sp}{L:cX}(R:ax g B D f.ty V O s a W)(u:ip P f.ty){m:OM}{x:Operand}(ho:m.o.op=.entry x)(he:a.eval x=(s.ev f.gl x).ab O V){bl:S->T}{t:T}(h:TR f m.o.dst s (s.ev f.gl x) bl=U t)(A:t.aG p O L):
  ∃v s',pZ P m.o a W v W/\ax g B D f.ty V O s' (a.put m.o.dst v) W/\bj s O V s' O V/\(bl s').aG p O L:=by
 unfold TR at h;split at h;rename_i q hx;split at h;rename_i bt i tz c Q hq;split at h;cases h;rename_i br;simp only[f9,BC,aw,di,bZ] at br;obtain⟨⟨⟨⟨rfl,b8⟩,ba⟩,hb⟩,cO⟩:=br;obtain⟨tn,rfl⟩:∃tn:Nat,tz=(tn:Int):=⟨tz.toNat,aa⟩;simp only[DC] at h;have a1:=R.mem.box _ _ _ hq;rw[KJ] at a1;have ca:=Em R ba;have model:∀(l:qL),W.heap[ad V i]?=U (oC l)->(Y l:Int)=c.ab O->(TQ c Q).ab O=J->
   ∃(j:Nat)(b:Value×Value),l[j]?=U b/\(tE Q).ab O=j/\pZ P m.o a W (.tuple #[b.1,b.2]) W:=by
  intro l hl bs cc;obtain⟨bb,ch⟩:=yG cc;obtain⟨bb,cl⟩:=yG bb;have h1:=wB bb;have h2:=KD cl;obtain⟨h3,h4⟩:=yG ch;have h3:=wB h3;rw[Aw] at h4;have h4:(tE Q).ab O<c.ab O:=by simpa[gm] using h4
  simp only[K.ab] at h1 h2 h3;rw[G9 R ba] at h1 h2;have hN:(c.ab O).toNat=Y l:=aa;rw[hN] at a1;obtain⟨af,bc,a3⟩:∃af bc,(Q.rv O).ae=af++[bc]:=⟨_,_,(List.dropLast_concat_getLast (by intro e;rw[e] at h1;simp at h1)).symm⟩;obtain⟨z,y⟩:=U4 b8 (ca bc (by rw[a3];simp));have cn:IntKind.i64.wrap (((Q.rv O).ae.length:Int)-1)=((Q.rv O).ae.length:Int)-1:=by
   simp[IntKind.wrap,IntKind.bits,IntKind.signed];omega
  have bx:(tE Q).ab O=z:=by
   simp only[tE,K.ab,bH,G9 R ba,cn,bz];have:(((Q.rv O).ae.length:Int)-1).toNat=Y af:=by rw[a3];simp
   rw[this,a3,y];simp[cw,bF]
  rw[bx] at h3 h4;obtain⟨j,rfl⟩:∃j:Nat,z=(j:Int):=⟨z.toNat,aa⟩;have b0:j<Y l:=aa;refine⟨j,l[j],ce b0,bx,.inl ?_⟩;have co:((Q.rv O).ae.map nV).toArray=((af.map nV).toArray).push j:=by
   rw[a3,y];simp[nV,bF]
  rw[co] at a1;have b1:=U0 (m:=0) (ce b0);rw[gV] at b1;have hr:=run_entry_at (P:=P) W (ad V q) (ad V i) (Y l) ((af.map nV).toArray) (fK 0 l).toArray (Y l) ⟨(l[j]).1,(l[j]).2,j⟩ a1 hl (by simpa using b1) (by
   simp only[ack];exact List.nodup_range' ..)
  simp only[execOp,ho,he,hx,C.ab,cZ,hr,cT,eI]
 split at h;rename_i k e n ag aj qq cR cp b2 cs;have hd:P.underlying tn=U (.map k e):=(u _ _ b2).desc;have hK:rZ P k n ag:=(u _ _ b2).key k e n ag rfl;split at h;rename_i N al;split at h;cases h;rename_i a4;have a4:qN f.ty k n ag=true:=by simpa using a4
 have an:=R.mem.box _ _ _ cs;split at h;rename_i a0;simp only[di] at a0;subst a0;split at h;rename_i r hr;split at h
 ·rename_i bd;cases h;obtain⟨rfl,c1,c5⟩:=OS hr;rw[B7] at an;have bf:c.ab O=((r.rv O).ae.length:Int):=by
   have:=K.bD _ _ bd;rw[this,K.ab,G9 R c1]
  have b3:=Em R c1;obtain⟨hn,A⟩:=A;obtain⟨j,b,M,g2,g3⟩:=model _ an (by rw[bf];simp) hn;rw[dM] at M;cases a9:(r.rv O).ae[j]? with
  |none=>rw[a9] at M;cases M
  |some G=>
  rw[a9] at M;simp only[dQ,cg] at M;have b4:=iU a9;have cv:=GS a4 al (b3 G b4);have b5:(r.rv O).ae[((tE Q).ab O).toNat]?=U G:=by rw[g2];simpa using a9
  obtain⟨kc,r1,r2,r3⟩:=GR (va:=N.d.isAgg) a4 al;have bg:=b3 G b4;have bs:Y G=n+Y N.aj:=by rw[bg.len,r1,fQ,r2]
  have b6:∀(X:Nat)(w:CT),N.aj[X]?=U w->(bm f.ty (.mr ⟨k,e,n,ag,N.d.isAgg⟩))[n+X]?=U w:=λX w H=>by
   rw[r1,gK aa,r2,show n+X-n=X from aa];exact H
  have b7:∀(X:Nat)(w:CT),N.aj[X]?=U w->∃c,G[n+X]?=U c:=λX w H=>by
   have:X<Y N.aj:=(bJ.1 H).1;exact⟨G[n+X]' aa,ce _⟩
  have cx:N.d.isAgg=E->(rO r (tE Q) n N.aj).length=1:=λha=>by rw[U5];exact yz (u _ _ al) ha
  have cy:(qM N.d.isAgg (rO r (tE Q) n N.aj)).ab O V=po N.d.isAgg (G.drop n):=by
   rw[Ax cx,OT b5 c5 bs (λX kk H=>by
    obtain⟨c,F⟩:=b7 X _ H;obtain⟨x',bk⟩:=bg.int (n+X) c kk F (b6 X _ H);exact⟨x',by rw[F,bk]⟩) (λX H=>by
    obtain⟨c,F⟩:=b7 X _ H;obtain⟨x',bk⟩:=bg.bool (n+X) c F (b6 X _ H);exact⟨x',by rw[F,bk]⟩),po]
   cases cA:N.d.isAgg;have h1:=yz (u _ _ al) cA;obtain⟨c,F⟩:=nj.1 (show(G.drop n).length=1 from dG);rw[F];rfl;rfl
  have cB:=acf (V:=V) b5 hK.1 cv;have R2:=R.put m.o.dst (.bA [Gp r (tE Q) n ag,qM N.d.isAgg (rO r (tE Q) n N.aj)]);simp only[C.ab,C.ay,cB,cy] at R2;subst M;exact⟨_,_,g3,R2,(bj.refl _ _ _).put _ _,A⟩
 cases h;cases h;split at h;rename_i a0;simp only[aw,di,f9] at a0;obtain⟨⟨rfl,rfl⟩,rfl⟩:=a0;split at h;rename_i ks cC;split at h;rename_i bd;split at h
 ·rename_i cD v0 cI;cases h;rw[B8] at an;obtain⟨p1,p2⟩:=GU (O:=O) (V:=V) cC;rw[p1] at an;have bf:c.ab O=(Y ks:Int):=by
   have:=K.bD _ _ bd;rw[this,K.ab]
  obtain⟨hn,A⟩:=A;obtain⟨j,b,M,g2,g3⟩:=model _ an (by rw[bf];simp[p2]) hn;rw[dM] at M;cases y:(ks.zip (lj cp))[j]? with
  |none=>rw[y] at M;cases M
  |some kp=>
  rw[y] at M;simp only[dQ,cg] at M;obtain⟨z1,z2⟩:=ali.1 y;obtain⟨e1,e2⟩:=acj R (u _ _ al) cI p2 (O':=O) g2 z1 z2 rfl;have R2:=R.put m.o.dst (.bA [cD,v0]);simp only[C.ab,C.ay,e1,e2] at R2;subst M;exact⟨_,_,g3,R2,(bj.refl _ _ _).put _ _,A⟩
 cases h;cases h;cases h;cases h;cases h;cases h;cases h;cases h
def acl{p:Sp}{L:cX}(R:ax g B D f.ty V O s a W)(ag:ip P f.ty){m:OM}{t t2:TypeId}{G:BinOp}{X:Bool}{x y:Operand}(u:m.o.op=.binOp G t x y t2)(al:(G=.eql/\X=E)\/(G=.neq/\X=J))(he:a.eval x=(s.ev f.gl x).ab O V)(an:a.eval y=(s.ev f.gl y).ab O V){l:S->T}{j:T}(h:N7 f m.o.dst s t X (s.ev f.gl x) (s.ev f.gl y) l=U j)(F:j.aG p O L):
  ∃v z,pZ P m.o a W v W/\ax g B D f.ty V O z (a.put m.o.dst v) W/\bj s O V z O V/\(l z).aG p O L:=by
 unfold N7 at h;split at h;rename_i e aj q r ht hx hy;split at h;rename_i hk;cases h;have hd:P.underlying t=U (.slice e):=(ag _ _ ht).desc;have N:=oF R au hk;simp only[T.aG] at F;obtain⟨A,n,c,Q⟩:∃A n c,r.ab O=.slice A n c:=by
  have:∃A n c,(r.rv O).val=.slice A n c:=by
   generalize r.rv O=H at N;cases N;exact⟨_,_,_,rfl⟩
  exact this
 have a0:(K.len r).ab O=n:=by simp only[K.ab];unfold RE.ab at Q;rw[Q];rfl
 have i:(BL t (.slice A n c) (.slice Z 0 0)).run P W=.ok A.isNone W:=by
  have w:BL t (.slice A n c) (.slice Z 0 0)=zW (9999+1) t (.slice A n c) (.slice Z 0 0):=rfl;rw[w,zW,cZ,eB.gp hd,cT];cases A<;>rfl
 have d:(execOp a.eval m.o).run P W=.ok (.value (.bool (if X then !A.isNone else A.isNone))) W:=by
  simp only[execOp,u,he,an,hx,hy,C.ab,Q];have a1:RE.ab O (.k (.slice Z 0 0))=.slice Z 0 0:=rfl;rw[a1];rcases al with⟨rfl,rfl⟩|⟨rfl,rfl⟩;simp[eqGuard,binOp,i];simp[eqGuard,binOp,i]
 cases M:A with
 |none=>
  have hn:n=0:=by
   unfold RE.ab at Q;have w:∀{H:RV},bu W f.ty (.sl e) H->H.val=.slice A n c->A=Z->n=0:=by
    intro H N Q M;cases N with
    |sl e A' a9 ba af h1 h2 h3 hi hb u=>
     simp only[RV.l9,Value.slice.injEq] at Q;obtain⟨rfl,rfl,rfl⟩:=Q;subst M;cases af with
     |nil=>simp at h1;omega
     |cons a3 af=>
      obtain⟨-,b,bb,a4,-⟩:=h3 0 a3 rfl;cases a4
   exact w N Q M
  have:=F.2 (by show decide ((K.len r).ab O<=(K.c 0).ab O)=J;rw[a0,hn];rfl);refine⟨_,_,.inl d, ?_,(bj.refl _ _ _).put _ (.bool (.c (!X))),this⟩;have Q:(if X then !A.isNone else A.isNone)= !X:=by rw[M];cases X<;>rfl
  rw[Q];exact R.put m.o.dst (.bool (.c (!X)))
 |some A0=>
  have:=F.1 (by simp[BE.ab]);refine⟨_,_,.inl d, ?_,(bj.refl _ _ _).put _ (.bool (.c X)),this⟩;have Q:(if X then !A.isNone else A.isNone)=X:=by rw[M];cases X<;>rfl
  rw[Q];exact R.put m.o.dst (.bool (.c X))
 cases h;cases h
def ax.cells{x:Ty}{H:am}(R:ax g B D x V O (s.cU X v e) a W)(F:X<Y s.ak)(h:C.dw O V e=C.dw O V H):ax g B D x V O (s.cU X v H) a W:=by
 have G:∀j,aF (s.ak.set X (U (v,H))) j=aF (s.ak.set X (U (v,e))) j:=λj=>by
  rw[uF,nX F,nX F]
 have w:(s.cU X v H).ak=s.ak.set X (U (v,H)):=rfl;have M:(s.cU X v e).ak=s.ak.set X (U (v,e)):=rfl;refine⟨⟨R.mem.base,λj N=>R.mem.own j (by rw[M,<-G];exact N),λj k N u=>R.mem.inj j k (by rw[M,<-G];exact N) (by rw[M,<-G];exact u),λj t r L=> ?_,λk Q A z y=>⟨(R.mem.ah k Q A z y).1,λb L j N=>(R.mem.ah k Q A z y).2 b L j (by rw[M,<-G];exact N)⟩⟩,by simpa[S.cU] using R.fM,R.ei,R.eb,R.er,R.cQ,R.size,R.tmps,λk Q A b q p o=> ?_⟩;rw[jl,w] at L;by_cases N:j=X;subst N;rw[Dy (by simpa using F)] at L;cases L;rw[<-h];exact R.mem.box j v e (by rw[jl,M,Dy (by simpa using F)]);rw[pM (λQ=>N Q.symm)] at L;exact R.mem.box j t r (by rw[jl,M,pM (λQ=>N Q.symm)];exact L);obtain⟨z,y,n,m,l⟩:=R.fz k Q A b q p o;exact⟨z,y,λj N=>n j (by rw[M,<-G];exact N),m,l⟩
def am4{b:BE}{y z:C}(h:TS b r y=U z):z.gc O V=if b.ab O then r.gc O V else y.gc O V:=by
 unfold TS at h;split at h;split at h;rename_i X;subst X;cases h;simp only[C.gc,C.ab,K.ab];split<;>rfl;cases h;cases h;simp only[C.gc,C.ab,BE.ab];split<;>rfl;cases h
def KK:∀(R l:am)(X:Nat),C.dw O V (ko l X R)=gE (C.dw O V l) X (C.dw O V R)
 |[],l,X=>rfl
 |v::R,l,X=>by
  rw[ko,KK R (l.set X v) (X+1)];simp only[C.dw,ep,gE,aaI]
def acm{b:BE}:∀{M:am}{R:Nat}{X Q:am},JX b M R X=U Q->
  Y Q=Y X/\(M=[]\/R+Y M<=Y X)/\(b.ab O=J->C.dw O V Q=C.dw O V (ko X R M))/\(b.ab O=E->C.dw O V Q=C.dw O V X)
 |[],R,X,Q,h=>by simp only[JX,cg] at h;subst h;exact⟨rfl,.inl rfl,λ_=>rfl,λ_=>rfl⟩
 |x::r,R,X,Q,h=>by
  simp only[JX] at h;split at h;rename_i A H;split at h;rename_i c z;obtain⟨G,L,y,w⟩:=acm h;have v:R<Y X:=(bJ.1 H).1;have F:=am4 (O:=O) (V:=V) z;have B:C.dw O V (X.set R c)=(C.dw O V X).set R (c.gc O V):=by simp[C.dw,aaI]
  have u:C.dw O V X=(C.dw O V X).set R (A.gc O V):=by
   apply jV;intro j;rw[td];split;rename_i t;subst t;simp[C.dw,v];have:=bJ.1 H;rw[this.2];rfl
  rw[alx] at G L;refine⟨G,.inr ?_,λN=> ?_,λN=> ?_⟩;rcases L with rfl|L;simp;omega;simp only[pO];omega;rw[y N,KK,B,F,aE N,KK];simp only[C.dw,ep,gE];rw[w N,B,F,aJ (by simp[N]),<-u];cases h;cases h
def acn{e:K}{G:am}(y:G≠[]):∀{M:aZ}{L X R:am},DY e G M L X=U R->N8 M=J->
  Y R=Y X/\(∀v,ez (e.ab O) M L=U v->∃i H,v=.loc i H/\H+Y G<=Y X/\C.dw O V R=C.dw O V (ko X H G))/\(¬(e.ab O∈M)->C.dw O V R=C.dw O V X)
 |[],[],X,R,h,_=>by simp only[DY,cg] at h;subst h;exact⟨rfl,λv Q=>by simp[ez] at Q,λ_=>rfl⟩
 |[],_::_,X,R,h,_=>by simp[DY] at h
 |k::M,L,X,R,h,B=>by
  simp only[N8,aw,f9] at B;cases L with
  |nil=>simp[DY] at h
  |cons u L=>
   cases u<;>simp only[DY] at h<;>try cases h
   rename_i i H;split at h;rename_i f q;obtain⟨p,o,x⟩:=acn y h B.2;obtain⟨w,A,t,z⟩:=acm (O:=O) (V:=V) q;have A:=A.resolve_left y;simp only[BE.ab,K.ab,gm,di,beq_eq_false_iff_ne,ne_eq] at t z;refine⟨by rw[p,w],λv Q=> ?_,λr=> ?_⟩;simp only[ez] at Q;split at Q;rename_i N;cases Q;refine⟨i,H,rfl,A, ?_⟩;rw[x (λF=>by
    rw[N] at F;have:=B.1;rw[ov.2 F] at this;cases this),t N]
   rename_i N;obtain⟨n,m,rfl,l,j⟩:=o v Q;refine⟨n,m,rfl,by rw[<-w];exact l, ?_⟩;rw[j,KK,z N,<-KK];have N:¬e.ab O=k:=λg=>r (by simp[g])
   rw[x (λF=>r (by simp[F])),z N];cases h
def aco(h:JY r=J):r.single=true:=by cases r<;>simp only[JY,iC] at h<;>rfl
def acp:∀{l:am},Gq l=J->l≠[]/\BO l=J
 |[],h=>by cases h
 |[x],h=>⟨au,by rw[NU.2,aco h,NU.1];rfl⟩
 |x::y::r,h=>by
  simp only[Gq,aw] at h;exact⟨au,by rw[NU.2,aco h.1,(acp (l:=y::r) h.2).2];rfl⟩
def am5(h:Gq r.cells=J):(r.ab O V).cells.toList=C.ay O V r.cells:=by
 cases r
 case agg l=>simp[C.cells,C.ab,Value.cells]
 all_goals(simp only[C.cells,Gq,JY,iC] at h)
 all_goals rfl
def am6{P:Program}{p:Sp}{L:cX}(R:ax g B D f.ty V O s a W)(j:ip P f.ty){x y:Operand}{z:TI}{X:K}{H:aZ}(d:f.ty v=U z)(c:l.op=.store v x y)(b:a.eval x=(C.fy X H e).ab O V)(e2:a.eval y=(s.ev f.gl y).ab O V){k:S->T}{w:T}
  (h:TU l.dst s z X H e (s.ev f.gl y) k=U w)(M:w.aG p O L):∃Q N G,pZ P l a W Q N/\ax g B D f.ty V O G (a.put l.dst Q) N/\bj s O V G O V/\(k G).aG p O L:=by
 unfold TU at h;split at h;rename_i i af;split at h;rename_i bt cs hb;split at h;rename_i ag al;split at h;rename_i r;simp only[aw,di] at r;obtain⟨⟨⟨h1,h2⟩,h3⟩,q⟩:=r;cases h;simp only[T.aG] at M;obtain⟨n,M⟩:=M;rw[OA h2] at n;obtain⟨u,F⟩:=jw.1 n;obtain⟨an,a0⟩:=acp q;obtain⟨g1,g2,-⟩:=acn (O:=O) (V:=V) an al h3;obtain⟨i',m,rfl,a1,a3⟩:=g2 u F;obtain⟨bb,hq⟩:=abn af (GO F);cases hq;obtain⟨A,a4⟩:=wu hb;have hi:i<Y s.ak:=(bJ.1 (jl.1 A)).1;have a9:((s.ev f.gl y).ab O V).cells.toList=C.ay O V (s.ev f.gl y).cells:=am5 q;obtain⟨N,hr,R'⟩:=R.store (P:=P) (v:=s.ev f.gl y) (off:=m) (j _ _ d) A a4 h1.symm a1 a0 a9;have R2:ax g B D f.ty V O (s.cU i bt ag) a N:=R'.cells hi a3.symm;refine⟨undef,N,_,.inr ⟨?_,rfl⟩,R2.put l.dst (.bA []),abU A _ _,M⟩;have ba:(C.fy X H e).ab O V=.pointer (U ⟨ad V i,m,Z⟩):=by
  simp only[C.ab];rw[OD F rfl];rfl
 simp only[execOp,c,b,e2,ba,cZ,hr,cT,eI];cases h;cases h;cases h;cases h
def am7{p:Sp}{L:cX}(R:ax p.S0 p.w0 D f.ty V O s a W)(l:ip p.P f.ty)(w:et f.gl O){m:OM}{af:S->Fx->T}{q:Fx}(r:sd O q){t:T}(h:yf f m s af q=U t)(n:t.aG p O L):
  ∃v F j b X ag,pZ p.P m.o a W v F/\ax p.S0 p.w0 D f.ty b j X (a.put m.o.dst v) F/\bj s O V X j b/\sd j ag/\(af X ag).aG p j L:=by
 unfold yf at h;split at h;cases h;rename_i M;have M:∀x∈m.o.op.operands.toList,(s.ev f.gl x).ec=false:=by
  intro x hx;cases hh:(s.ev f.gl x).ec;rfl;exact bp (by simp only[iD];right;exact jy.2 ⟨x,hx,hh⟩) M
 split at h
 
 rename_i i Q;cases d:N2 f m.o.dst s i with
 |none=>rw[d] at h;cases h
 |some X=>
  rw[d] at h;cases h;obtain⟨v,F,b,H,G,N⟩:=amT (P:=p.P) R Q d;exact⟨v,F,O,b,X,q,H,G,N,r,n⟩
 rename_i i x y z Q;rw[Q] at M;have A:=cK R w x (M x bS);have k:=cK R w y (M y bS);have e3:=cK R w z (M z bS);split at h;rename_i X c;cases h;obtain⟨F,H,G,N⟩:=KI (P:=p.P) R l c;exact⟨undef,F,O,V,X,q,.inr ⟨by simp only[execOp,Q,A,k,e3,cZ,H,cT,eI],rfl⟩,G,N,r,n⟩;rename_i k' x' X c;cases h;obtain⟨F,H,G,N⟩:=KI (P:=p.P) R l c;exact⟨undef,F,_,V,X,_,.inr ⟨by simp only[execOp,Q,A,k,e3,cZ,H,cT,eI],rfl⟩,G,N,Ex R N.ext.agree r,n⟩;cases h;rename_i i x y z Q;rw[Q] at M;have A:=cK R w x (M x bS);have k:=cK R w y (M y bS);have e3:=cK R w z (M z bS);split at h;rename_i X c;cases h;obtain⟨F,H,G,N⟩:=KI (P:=p.P) R l c;exact⟨undef,F,O,V,X,q,.inr ⟨by simp only[execOp,Q,A,k,e3,cZ,H,cT,eI],rfl⟩,G,N,r,n⟩;rename_i k' x' X c;cases h;obtain⟨F,H,G,N⟩:=KI (P:=p.P) R l c;exact⟨undef,F,_,V,X,_,.inr ⟨by simp only[execOp,Q,A,k,e3,cZ,H,cT,eI],rfl⟩,G,N,Ex R N.ext.agree r,n⟩;cases h;rename_i i x Q;rw[Q] at M;have A:=cK R w x (M x bS);cases d:N3 f m.o.dst s i (s.ev f.gl x) with
 |none=>rw[d] at h;cases h
 |some X=>
  rw[d] at h;cases h;obtain⟨v,F,b,H,G,N⟩:=amY (P:=p.P) R l Q A d;exact⟨v,F,O,b,X,q,H,G,N,r,n⟩
 rename_i x Q;rw[Q] at M;have A:=cK R w x (M x bS);obtain⟨v,F,j,X,H,G,N,u⟩:=am2 (P:=p.P) rfl R l Q A h n;rcases u with⟨rfl,u⟩|u;exact⟨v,F,j,V,X,q,H,G,N,r,u⟩;exact⟨v,F,j,V,X,_,H,G,N,Ex R N.ext.agree r,u⟩;rename_i x Q;rw[Q] at M;have A:=cK R w x (M x bS);obtain⟨v,X,H,G,N,u⟩:=am3 (P:=p.P) R l Q A h n;exact⟨v,W,O,V,X,q,H,G,N,r,u⟩;rename_i i x y Q;rw[Q] at M;have A:=cK R w x (M x bS);have k:=cK R w y (M y bS);split at h;rename_i ti e ks vs ht hx;rw[hx] at A;obtain⟨v,F,X,H,G,N,u⟩:=am6 (P:=p.P) R l ht Q A k h n;exact⟨v,F,O,V,X,q,H,G,N,r,u⟩;cases h;rename_i op i x y t2 Q;rw[Q] at M;have A:=cK R w x (M x bS);have k:=cK R w y (M y bS);split at h;obtain⟨v,X,H,G,N,u⟩:=acl (P:=p.P) R l Q (.inl ⟨rfl,rfl⟩) A k h n;exact⟨v,W,O,V,X,q,H,G,N,r,u⟩;obtain⟨v,X,H,G,N,u⟩:=acl (P:=p.P) R l Q (.inr ⟨rfl,rfl⟩) A k h n;exact⟨v,W,O,V,X,q,H,G,N,r,u⟩;cases h;cases h
end
def KL(v:Value)(X:aZ)(g:FuncId):kH:=(v::(X.map (Value.int I)++[.func (.func g) #[] #[]])).toArray
def oH(P:Program)(R:Ty)(f g:FuncId)(e:TypeId)(G:bB)(F:Bool):Prop:=
 (∀Q W,(callFunc f Q).run P W=.ok (.enter f Q) W)/\∀(W:World)(A:mU)(n X:Nat)(N az:aq)(O:ai)(M:List K)(L:bB),G.fill M=U L->bu W R (.sl e) (.mk (.slice A n X) N)->Et W e (bm R (.sl e)).length A X->jL O L F N=U az->
  Calls P f (KL (.slice A n X) (M.map (K.ab O)) g) W λB H=>B=.returned (.tuple #[])/\W.grownBy H (kS A X)/\Cb W H e (bm R (.sl e)).length (kS A X) az A X
def acq(P:Program)(N:Ty)(f:FuncId)(e:TypeId):Prop:=
 (∀M W,(callFunc f M).run P W=.ok (.enter f M) W)/\∀(W:World)(b n X:Nat)(L az:aq)(i:Int)(R Q:Nat)(G F:TypeId),W.heap[R]?=U (.cells #[.slice (U ⟨b,0,Z⟩) n X] G (0,0))->W.heap[Q]?=U (.cells #[.func (.func f) #[] #[.pointer (U ⟨R,0,Z⟩),.pointer (U ⟨Q,0,Z⟩)]] F (0,0))->R≠b->Q≠b->
  bu W N (.sl e) (.mk (.slice (U ⟨b,0,Z⟩) n X) L)->Et W e (bm N (.sl e)).length (U ⟨b,0,Z⟩) X->tH i L=U az->
  Calls P f #[.int I i,.pointer (U ⟨R,0,Z⟩),.pointer (U ⟨Q,0,Z⟩)] W λB H=>B=.returned (.int I (aK 0 (az.getD i.toNat [])))/\W.grownBy H (U b)/\Cb W H e (bm N (.sl e)).length (U b) az (U ⟨b,0,Z⟩) X
def ly(P:Program)(X:Ty)(f g:FuncId)(e:TypeId)(R:bB)(Q:Bool):Prop:=if f=g then acq P X f e else oH P X f g e R Q
def ly.of{P:Program}{X:Ty}{f g:FuncId}{R:bB}(h:oH P X f g v R b)(Q:f≠g):ly P X f g v R b:=by
 unfold ly;rw[aJ Q];exact h
def He(P:Program)(p:bi):Prop:=∀f g e X R,p.uQ f g=U (e,X,R)->ly P p.ty f g e X R
def OU{lt:aC->aC->Bool}{x y:aC}:∀{l:aq},y∈eH lt x l<->y=x\/y∈l
 |[]=>by simp[eH]
 |z::r=>by
  simp only[eH];split;simp;simp only[dJ,OU (l:=r)];constructor;rintro(h|h|h);exact .inr (.inl h);exact .inl h;exact .inr (.inr h);rintro(h|h|h);exact .inr (.inl h);exact .inl h;exact .inr (.inr h)
def acr{lt:aC->aC->Bool}{x:aC}:∀{l:aq},(eH lt x l).length=Y l+1
 |[]=>rfl
 |z::r=>by
  simp only[eH];split;simp;simp[acr (l:=r)]
def U6{lt:aC->aC->Bool}:∀(l acc:aq),(∀x,x∈l.foldl (λacc x=>eH lt x acc) acc<->x∈acc\/x∈l)/\(l.foldl (λacc x=>eH lt x acc) acc).length=Y acc+Y l
 |[],acc=>au
 |y::l,acc=>by
  obtain⟨X,R⟩:=U6 (lt:=lt) l (eH lt y acc);refine⟨λx=> ?_, ?_⟩;simp only[BF,X,OU,dJ];constructor;rintro((h|h)|h);exact .inr (.inl h);exact .inl h;exact .inr (.inr h);rintro(h|h|h);exact .inl (.inr h);exact .inl (.inl h);exact .inr h;simp only[BF,R,acr,pO];omega
def acs{lt:aC->aC->Bool}{l:aq}{x:aC}:x∈bK lt l<->x∈l:=by
 rw[bK,(U6 l []).1];simp
def oI{lt:aC->aC->Bool}{l:aq}:(bK lt l).length=Y l:=by
 rw[bK,(U6 l []).2];simp
def acu{sp:bB}{X az:aq}(h:io sp b X=U az):∀x∈az,x∈X:=by
 cases sp with
 |da k o Q=>simp[io] at h
 |_=>
  simp only[io] at h;split at h;cases h;intro x R;exact acs.1 R;cases h
def acv{sp:bB}{X az:aq}(h:io sp b X=U az):Y az=Y X:=by
 cases sp with
 |da k o R=>simp[io] at h
 |_=>
  simp only[io] at h;split at h;cases h;exact oI;cases h
def se{R:aq}{b:Nat}{x:aC}(h:x∈aR R X b):x∈R:=zU (Bz h)
def am8(X:aq)(a b:Nat):(aR X a b).length=min (b-a) (Y X-a):=by simp[aR]
def OV{X:aq}:∀(n:Nat)(i:Int),(pn n i X).length=Y X
 |0,_=>rfl
 |n+1,i=>by
  simp only[pn];split;rfl;simp[OV n]
def Cd{X:aq}(h:kN X=J){k:Nat}(R:k<Y X):0<=aK 0 (X.getD k [])/\aK 0 (X.getD k [])<=k:=by
 have:=eO.1 h k (vZ.2 R);simpa only[aw,bZ] using this
def U7{X:aq}(h:kN X=J){i:Int}(R:0<=i)(Q:i<Y X):0<=aK 0 (X.getD i.toNat [])/\aK 0 (X.getD i.toNat [])<=i/\aK 0 (X.getD i.toNat [])<Y X:=by
 have:=Cd h (k:=i.toNat) aa;omega
def acw{R:Type}{l:List R}(h:X<Y l)(d:R):l.getD X d∈l:=by
 rw[cw,ce h];exact pN _
def acx{R:aq}(h:kN R=J):∀(n:Nat)(i:Int),0<=i->i<Y R->∀x∈pn n i R,x∈R
 |0,_,_,_,x,X=>X
 |n+1,i,N,M,x,X=>by
  simp only[pn] at X;split at X;exact X;obtain⟨L,-,H⟩:=U7 h N M;have Q:=acx h n _ L H;rcases Bw X with X|X;exact Q x X;refine Q x ?_;have G:(aK 0 (R.getD i.toNat [])).toNat<(pn n (aK 0 (R.getD i.toNat [])) R).length:=by rw[OV];omega
  rw[X];exact acw G _
def KM{i:Int}{X az:aq}(h:tH i X=U az):Y X<=1099511627776/\0<=i/\i<Y X/\kN X=J/\az=pn (Y X) i X:=by
 unfold tH at h;split at h;rename_i R;simp only[aw,bZ] at R;cases h;exact⟨R.1.1.1,R.1.1.2,R.1.2,R.2,rfl⟩;cases h
def OW{i:Int}{X az:aq}(h:tH i X=U az):∀x∈az,x∈X:=by
 obtain⟨-,R,Q,N,rfl⟩:=KM h;exact acx N _ _ R Q
def U8{i:Int}{X az:aq}(h:tH i X=U az):Y az=Y X:=by
 obtain⟨-,-,-,-,rfl⟩:=KM h;exact OV _ _
def am9{o:bB}{N:aZ}{Q az:aq}(h:mb X o N Q=U az):∀x∈az,x∈Q:=by
 unfold mb at h;split at h
 all_goals first|(split at h<;>first|(cases h;done)|skip)|skip
 all_goals first|(cases h;done)|skip
 all_goals
  cases h;intro x R;simp only[eC,acs] at R;rcases R with R|R;exact Bz R
 all_goals
  rcases R with R|R;exact se R
  first|exact zU R|(rcases R with R|R<;>first|exact se R|exact zU R|(rcases R with R|R<;>first|exact se R|exact zU R))
def ana{o:bB}{Q:aZ}{R az:aq}(h:mb X o Q R=U az):Y az=Y R:=by
 unfold mb at h;split at h
 all_goals first|(split at h<;>first|(cases h;done)|skip)|skip
 all_goals first|(cases h;done)|skip
 all_goals
  rename_i N;simp only[aw,bZ] at N;cases h;simp only[fQ,F9,DD,am8,oI];omega
def yH{o:bB}{Q:aZ}{R az:aq}(h:nW X o Q R=U az):Y R<=1099511627776/\mb X o Q R=U az:=by
 unfold nW at h;split at h;rename_i N;exact⟨N,h⟩;cases h
def anb{o:bB}{Q:aZ}{R az:aq}(h:nW X o Q R=U az):∀x∈az,x∈R:=am9 (yH h).2
def anc{o:bB}{Q:aZ}{R az:aq}(h:nW X o Q R=U az):Y az=Y R:=ana (yH h).2
def U9{X:bB}{R az:aq}(h:io X b R=U az):Y R<=1099511627776:=by
 cases X with
 |da k o N=>simp[io] at h
 |_=>
  simp only[io] at h;split at h;rename_i Q;simp only[aw,bZ] at Q;exact Q.1;cases h
def Va{R:bB}{Q az:aq}(h:jL x R b Q=U az):∀X∈az,X∈Q:=by
 cases R with
 |da k o N=>
  cases b with
  |false=>exact anb h
  |true=>
   cases N with
   |nil=>simp[jL] at h
   |cons i l=>
    cases l with
    |nil=>exact OW h
    |cons j l=>simp[jL] at h
 |lex M d=>exact acu (sp:=.lex M d) h
 |ratio n d=>exact acu (sp:=.ratio n d) h
def Vb{X:bB}{R az:aq}(h:jL x X b R=U az):Y az=Y R:=by
 cases X with
 |da k o Q=>
  cases b with
  |false=>exact anc h
  |true=>
   cases Q with
   |nil=>simp[jL] at h
   |cons i l=>
    cases l with
    |nil=>exact U8 h
    |cons j l=>simp[jL] at h
 |lex N d=>exact acv (sp:=.lex N d) h
 |ratio n d=>exact acv (sp:=.ratio n d) h
section
variable{q:ap}{w:World}{D:bI}{P:Program}{p:bi}{V:ap}{O:ai}{s:S}{a:Act}{W:World}
def ane{G az:aq}(h:fj W p.ty v G)(F:∀x∈az,x∈G):fj W p.ty v az:=by
 have H:∀{i:Nat}{X:aC},az[i]?=U X->∃R,G[R]?=U X:=λh=>qI (F _ (iU h))
 refine⟨λi X Q=> ?_,λi j X c k Q M L=> ?_,λi j X c Q M L=> ?_,λi j X c z k Q M L=> ?_⟩;obtain⟨R,N⟩:=H Q;exact h.len R X N;obtain⟨R,N⟩:=H Q;exact h.int R j X c k N M L;obtain⟨R,N⟩:=H Q;exact h.bool R j X c N M L;obtain⟨R,N⟩:=H Q;exact h.ac R j X c z k N M L
def anf{R az:aq}(Q:∀x∈az,x∈R)(h:mG p.ty v az X):mG p.ty v R X:=by
 obtain⟨i,j,N,c,z,k,M,L,H,G⟩:=h;obtain⟨F,B⟩:=qI (Q _ (iU M));exact⟨F,j,N,c,z,k,B,L,H,G⟩
def acy{a:Act}{W:World}(X:ax q w D p.ty t x R a W)(M:et p.gl x){g:FuncId}(h:dW p R l=.call (.fn g) e)
  (H:∀e W,(callFunc g e).run P W=.ok (.enter g e) W):(execOp a.eval l).run P W=.ok (.enter g (C.ay x t e).toArray) W:=by
 unfold dW at h;split at h;split at h<;>cases h;rename_i c G;split at h;rename_i f F;split at h;rename_i r n L;split at h;cases h;rename_i B;have N:=cK X M f (by rw[L];rfl);rw[L] at N;have A:c.args.map a.eval=(C.ay x t (c.args.toList.map (R.ev p.gl))).toArray:=by
  apply kG;simp only[th,nx,mT];exact jh λQ z=>cK X M Q (by
   cases y:(R.ev p.gl Q).ec;rfl;exact bp (jy.2 ⟨Q,z,y⟩) B)
 obtain⟨m,k,v,u⟩:=aba x t h;rw[v] at N;simp only[execOp,G,resolve,F,cZ,N,Deferred.ofValue,eI,cT,invoke,A,u,H];split at h<;>cases h;cases h;cases h;split at h;split at h<;>cases h;cases h;cases h;cases h
def acz{g:wb}(h:dW p R l=.call g e)(c:Call):l.op≠ .defer c:=by
 intro X;simp[dW,X] at h
def acA{O:ai}{V:ap}:∀{l:am}{as:List K}{g:FuncId},JZ l=U (as,g)->C.ay O V l=(as.map (K.ab O)).map (Value.int I)++[.func (.func g) #[] #[]]
 |[],as,g,h=>by simp[JZ] at h
 |v::r,as,g,h=>by
  unfold JZ at h;split at h;rename_i M X;cases h;injection X with R Q;subst R;subst Q;simp[C.ay,C.ab];rename_i e L X;injection X with R Q;subst R;subst Q;split at h;rename_i x N;cases h;have:=acA (O:=O) (V:=V) (as:=x.1) (g:=x.2) N;simp[C.ay,C.ab,this];cases h;cases h
def acC(R:ax q w D p.ty V O s a W)(o:s.bd=J){A:mU}{n Q:Nat}{az:aq}{M:World}(N:s.rs[X]?=U (.own v))(H:O.rv X=.mk (.slice A n Q) (O.rv X).ae)(G:bu W p.ty (.sl v) (.mk (.slice A n Q) (O.rv X).ae))
  (F:∀x∈az,x∈(O.rv X).ae)(m:Y az=(O.rv X).ae.length)(l:W.grownBy M (kS A Q))(j:Cb W M v (bm p.ty (.sl v)).length (kS A Q) az A Q)(d:bX)(L:C):
  ax q w D p.ty V (O.add (.r (.mk (O.rv X).val az))) ((({s with rs:=jz [] 0 (iw [X] 0 s.rs)++[.own v]}:S).gC X (Y s.rs)).put d L) (a.put d (L.ab (O.add (.r (.mk (O.rv X).val az))) V)) M/\
   bj s O V ((({s with rs:=jz [] 0 (iw [X] 0 s.rs)++[.own v]}:S).gC X (Y s.rs)).put d L) (O.add (.r (.mk (O.rv X).val az))) V:=by
 obtain⟨h,an⟩:=qZ G;have g:yE p.ty V O s v az []:=λb f=>by
  have B:=anf F f;have z:=G3 (O:=O) (e0:=.own v) rfl (by simpa[RE.rv] using B);exact⟨⟨X,_,N,z⟩,(R.mem.ah X _ _ N (sa R N)).2 b z,λk' t rv c g2 g3=>(G4 R c g2 g3 N rfl (by simpa[RE.rv] using B)).elim⟩
 obtain⟨y,-⟩:=R.bind o (old:=kS A Q) (kill:=[X]) (cM:=[]) (A:=A) (cap:=Q) (W':=M) (.inr ⟨X,v,O.rv X,rfl,N,sa R N,by rw[H,G5]⟩) au l (ane (fj.u0 G) F) g j;rw[m,h] at y;have u:(O.rv X).val=.slice A n Q:=by rw[H];rfl
 rw[u];have af:X<Y O.r:=by rw[R.er];exact(bJ.1 N).1
 have ag:(O.add (.r (.mk (.slice A n Q) az))).rv X=O.rv X:=by simp[ai.rv,ai.add,dF af]
 have al:(O.add (.r (.mk (.slice A n Q) az))).rv (Y s.rs)=.mk (.slice A n Q) az:=by simp[ai.rv,ai.add,<-R.er]
 have R2:=(y.gC (k:=X) (n:=Y s.rs) (by rw[ag,al,u];rfl)).put d L;refine⟨R2, ?_⟩;refine bj.put (s:=s) (s':=({s with rs:=jz [] 0 (iw [X] 0 s.rs)++[.own v]}:S).gC X (Y s.rs)) ⟨pY _ _ _ _,λi hi=> ?_, ?_,bU _⟩ _ _;simp only[S.gC];rw[Ew];exact hi;simp[S.gC,KH]
def ang(hs:He P p)(R:ax q w D p.ty V O s a W)(hg:et p.gl O)(t:s.bd=J){f:FuncId}(an:dW p s l=.call (.fn f) e){u:yi}(h:TV p f e s l.dst=U u){az:aq}(Q:jL O u.sp u.st (u.r.rv O).ae=U az):
  ∃e v,(execOp a.eval l).run P W=.ok (.enter u.f e) W/\Calls P u.f e W λL N=>L=.returned v/\ax q w D p.ty V (O.add (.r (.mk (u.r.rv O).val az))) u.s (a.put l.dst v) N/\bj s O V u.s (O.add (.r (.mk (u.r.rv O).val az))) V:=by
 unfold TV at h;split at h;rename_i r ba;split at h;rename_i H g a0;split at h;rename_i X m j G;have i:p.uQ f g=U (X,m,j)/\f≠g:=by
  split at G;cases G;rename_i a1;exact⟨G,λh=>a1 (by simp[h])⟩
 have F:=hs f g X m j i.1;unfold ly at F;rw[aJ i.2] at F;obtain⟨a3,d⟩:=F;have c:(execOp a.eval l).run P W=.ok (.enter f (KL (r.ab O) (H.map (K.ab O)) g)) W:=by
  rw[acy R hg an a3];simp only[C.ay,C.ab,acA a0,KL]
 split at h;rename_i af ag;split at h;rename_i k;split at h;rename_i hk;cases h;obtain⟨A,n,al,h1,h2,h3⟩:=KE R hk;have M:(RE.v k).rv O=O.rv k:=rfl;simp only[M] at Q⊢;have bb:=Q;have a4:=Va Q;have B:=Vb Q;refine⟨_,.tuple #[],c, ?_⟩;have z:(RE.v k).ab O=.slice A n al:=by rw[RE.ab,M,h1];rfl
 rw[z];refine(d W A n al _ az O H af ag h2 h3 Q).mono ?_;rintro L N ⟨rfl,y,x⟩;exact⟨rfl,acC R t hk h1 h2 a4 B y x l.dst (.bA [])⟩;cases h;cases h;have M:(RE.k (.slice Z 0 0)).rv O=.mk (.slice Z 0 0) []:=rfl;simp only[M,RV.ma,RV.l9] at Q⊢;have B:=Vb Q;have h0:az=[]:=qG (by simpa using B);subst h0;refine⟨_,.tuple #[],c, ?_⟩;have z:(RE.k (.slice Z 0 0)).ab O=.slice Z 0 0:=rfl;rw[z];refine(d W Z 0 0 [] [] O H af ag (AB _ _) ⟨λ_=>rfl,.inl rfl⟩ Q).mono ?_;rintro L N ⟨rfl,y,x⟩;obtain⟨R1,-⟩:=R.bind t (old:=Z) (kill:=[]) (cM:=[]) (A:=Z) (cap:=0) (rows:=[]) (W':=N) (.inl ⟨rfl,rfl⟩) au y (fj.u0 (AB (e:=X) Z 0)) (λb a9=>(Kw a9).elim) x;refine⟨rfl,R1.put l.dst (.bA []), ?_⟩;exact bj.put (s:=s) (s':={s with rs:=jz [] 0 (iw [] 0 s.rs)++[.own X]}) ⟨pY _ _ _ _,λ_ h=>h,bU _,bU _⟩ _ _;cases h;cases h;cases h;cases h;cases h
def acD(hs:He P p)(R:ax q w D p.ty V O s a W)(hg:et p.gl O)(hb:s.bd=J){f:FuncId}(a1:dW p s l=.call (.fn f) e){u:yi}(h:DZ p f e s l.dst=U u){az:aq}(L:jL O u.sp u.st (u.r.rv O).ae=U az):
  ∃e v,(execOp a.eval l).run P W=.ok (.enter u.f e) W/\Calls P u.f e W λj g=>j=.returned v/\ax q w D p.ty V (O.add (.r (.mk (u.r.rv O).val az))) u.s (a.put l.dst v) g/\bj s O V u.s (O.add (.r (.mk (u.r.rv O).val az))) V:=by
 unfold DZ at h;split at h;rename_i i N M;split at h;rename_i X o' DG a3;have B:=hs f f X _ J a3;unfold ly at B;rw[aE rfl] at B;obtain⟨a4,a9⟩:=B;split at h;rename_i H k G f' b0 b1 d z;split at h;rename_i hc;simp only[aw,di,f9,bZ] at hc;obtain⟨⟨⟨⟨⟨⟨⟨hi,e1⟩,y⟩,e2⟩,e3⟩,ba⟩,bb⟩,F⟩:=hc;rw[e1,e2,e3] at z;cases h;obtain⟨A,n,Q,x,t,h3⟩:=KE R F;have bc:(RE.v k).rv O=O.rv k:=rfl;simp only[bc] at L⊢;have bf:=Va L;have bg:=Vb L;have af:tH (i.ab O) (O.rv k).ae=U az:=L;obtain⟨-,b2,b3,-,-⟩:=KM af;obtain⟨hn,b4⟩:=qZ t;have m:Q≠0:=aa;rcases h3.mem with h0|⟨b,cJ,hA,b5,-⟩;exact(m h0).elim;subst hA;have bk:(O.rv k).jY=U b:=by
  rw[x,G5];cases Q with
  |zero=>exact(m rfl).elim
  |succ c=>rfl
 have hT:=R.fz k X _ b F (sa R F) bk;have ag:=R.mem.box N H _ d;have al:=R.mem.box M G _ z;have bl:kO H (C.dw O V [.ah (.v k)])=.cells #[.slice (U ⟨b,0,Z⟩) n Q] H (0,0):=by
  rw[pu ba];simp only[C.ay,C.ab,RE.ab,RE.rv];rw[x];rfl
 have y:kO G (C.dw O V [.fn f [.loc N 0,.loc M 0]])=.cells #[.func (.func f) #[] #[.pointer (U ⟨ad V N,0,Z⟩),.pointer (U ⟨ad V M,0,Z⟩)]] G (0,0):=by
  rw[pu bb];simp[C.ab,C.ay,uY,y]
 rw[bl] at ag;rw[y] at al;have br:(execOp a.eval l).run P W=.ok (.enter f #[.int I (i.ab O),.pointer (U ⟨ad V N,0,Z⟩),.pointer (U ⟨ad V M,0,Z⟩)]) W:=by
  rw[acy R hg a1 a4];simp only[C.ay,C.ab]
 refine⟨_,.int I (aK 0 (az.getD (i.ab O).toNat [])),br, ?_⟩;have bs:kS (U ⟨b,0,Z⟩) Q=U b:=by
  cases Q with
  |zero=>exact(m rfl).elim
  |succ c=>rfl
 refine(a9 W b n Q _ az (i.ab O) _ _ H G ag al (hT.box N (by simp only[aF,d];rfl)) (hT.box M (by simp only[aF,z];rfl)) t h3 af).mono ?_;rintro j g ⟨rfl,an,a0⟩;rw[<-bs] at an a0;have:=acC R hb F x t bf bg an a0 l.dst (.int I (.cell (.v (Y s.rs)) i 0));have bt:(O.add (.r (.mk (O.rv k).val az))).rv (Y s.rs)=.mk (O.rv k).val az:=by simp[ai.rv,ai.add,<-R.er]
 have bx:i.ab (O.add (.r (.mk (O.rv k).val az)))=i.ab O:=K.dS (pY s.ak O _ V).agree i (by rw[R.ei,R.eb,R.er];exact hi);have hd:C.ab (O.add (.r (.mk (O.rv k).val az))) V (.int I (.cell (.v (Y s.rs)) i 0))=.int I (aK 0 (az.getD (i.ab O).toNat [])):=by
  simp only[C.ab,K.ab,RE.rv,bt,bx];rfl
 rw[hd] at this;exact⟨rfl,this⟩;cases h;cases h;cases h;cases h
def anh(H:He P p)(R:ax q w D p.ty V O s a W)(G:et p.gl O){m:OM}{u:yi}(h:Ag p m s=U u){az:aq}(F:jL O u.sp u.st (u.r.rv O).ae=U az):
  ∃X v,(execOp a.eval m.o).run P W=.ok (.enter u.f X) W/\(∀c,m.o.op≠ .defer c)/\Calls P u.f X W λA z=>A=.returned v/\ax q w D p.ty V (O.add (.r (.mk (u.r.rv O).val az))) u.s (a.put m.o.dst v) z/\bj s O V u.s (O.add (.r (.mk (u.r.rv O).val az))) V:=by
 unfold Ag at h;split at h;cases h;rename_i Q;simp only[iD,f9,not_or,BC] at Q;split at h;rename_i f X N;have B:=λc=>acz N c
 split at h;rename_i t y;cases h;obtain⟨x,v,M,L⟩:=ang H R G Q.2 N y F;exact⟨x,v,M,B,L⟩;obtain⟨x,v,M,L⟩:=acD H R G Q.2 N h F;exact⟨x,v,M,B,L⟩;cases h
def ani(N:He P p)(R:ax q w D p.ty V O s a W)(M:et p.gl O){u:yi}(h:D0 p l s=U u){az:aq}(L:jL O u.sp u.st (u.r.rv O).ae=U az):
  ∃X v,(execOp a.eval l).run P W=.ok (.enter u.f X) W/\(∀c,l.op≠ .defer c)/\Calls P u.f X W λH G=>H=.returned v/\ax q w D p.ty V (O.add (.r (.mk (u.r.rv O).val az))) u.s (a.put l.dst v) G/\bj s O V u.s (O.add (.r (.mk (u.r.rv O).val az))) V:=by
 unfold D0 at h;split at h;cases h;rename_i F;split at h;rename_i f X Q;obtain⟨x,v,B,A⟩:=acD N R M (by simpa using F) Q h L;exact⟨x,v,B,λc=>acz Q c,A⟩;cases h
end
structure nY(F:Fence):Prop where
 fn:∀f,F.fn f
 u4:F.depth=Z
 eq:∀P,Machine.fenced P F=Machine.fenced P Fence.wide
def anj:nY Fence.wide:=⟨λ_=>trivial,rfl,λ_=>rfl⟩
def acG(l:Nat):nY (Fence.wide.inRound l):=⟨λ_=>trivial,rfl,λ_=>rfl⟩
def nY.calls{F:Fence}(W:nY F){P:Program}{f:FuncId}{V:kH}{w:World}{R:Ending->World->Prop}(h:Calls P f V w R):CallsIn F X P f V w R:=by
 have Q:=(callsIn_wide (n:=X)).2 h;refine⟨W.fn f,λO _=> ?_⟩;obtain⟨e,N,M,r,c,x⟩:=Q.2 O (room_wide _);exact⟨e,N,M,r,by rw[W.eq];exact c,x⟩
def Vc{p:Sp}{L:cX}{V:Fx}{b:BE}{t f:Fx->T}(X:sd x V)(h:(Af R V b t f).aG p x L):
  ∃Q,sd x Q/\(if b.ab x then(t Q).aG p x L else(f Q).aG p x L):=by
 unfold Af at h;split at h;rename_i P;exact⟨V,X,by rw[OQ X P];exact h⟩;rename_i P;exact⟨V,X,by rw[OQ X P];exact h⟩;split at h;simp only[T.aG] at h;cases W:b.ab x;exact⟨_,ab5 X W,by simpa[W] using h.2 W⟩;exact⟨_,ab5 X W,by simpa[W] using h.1 W⟩;exact h.elim
def cz(n:Nat)(L X:cX):Prop:=∀l,l<n->mY l X=mY l L
def cz.refl(n:Nat)(L:cX):cz n L L:=λ_ _=>rfl
def cz.trans{n m:Nat}{L X W:cX}(h:cz n L X)(k:cz m X W)(R:n<=m):cz n L W:=λl V=>(k l aa).trans (h l V)
def ank(p:Sp)(O:ai):wb->kH->World->(Ending->World->Prop)->Prop
 |.fn g,X,W,V=>(∀X W,(callFunc g X).run p.P W=.ok (.enter g X) W)/\Calls p.P g X W V
 |.yl n,X,W,V=>∀(F:Fence)(_:nY F)(m:Nat),YieldAt F m p.P (O.y.getD n 0) X W V
structure iG where
 s:S
 O:ai
 V:ap
 L:cX
structure iG.j5(B:iG)(s:S)(O:ai)(V:ap)(L:cX):Prop where
 later:bj B.s B.O B.V s O V
 Ey:cz B.s.av B.L L
def iG.j5.go{B:iG}{X:S}{W:ai}{Q:ap}{L P:cX}(h:B.j5 R x t L)(N:bj R x t X W Q)(M:cz R.av L P):B.j5 X W Q P:=⟨h.later.trans N,h.Ey.trans M h.later.av⟩
def KN(p:Sp)(z:bi)(D:bI)(B:iG)(A:nO):Prop:=
 ∀(L:cX)(g:wb)(G:am)(s:S)(k x:C->S->T)(O:ai)(V:ap)(a:Act)(W:World)(H:Ending->World->Prop),B.j5 s O V L->
  (A g G s k x).aG p O L->ax p.S0 p.w0 D z.ty V O s a W->et z.gl O->
  (∀v P X N Q M,bj s O V P X N->cz s.av L M->ax p.S0 p.w0 D z.ty N X P a Q->(k v P).aG p X M->H (.returned (v.ab X N)) Q)->
  (∀v P X N Q M,bj s O V P X N->cz s.av L M->ax p.S0 p.w0 D z.ty N X P a Q->(x v P).aG p X M->H (.panicked [{v:=v.ab X N,recovered:=E}]) Q)->
  (∀w Q u y,dR p.w0 D u y a.defers Q->p.R (.panicked w) Q->H (.panicked w) Q)->
  ank p O g (C.ay O V G).toArray W H
section
variable{p:Sp}{z:bi}{A:nO}{F:Fence}{D:bI}{ops:db}
def acH{a:Act}{W:World}(Q:ax p.S0 p.w0 D z.ty t x R a W){d:Nat}(N:(ops[X]?).bind (·.dst)=U d):
  (∀b,R.tmps[d]?=U (.bool b)->yielded ops a.tmps X=U (b.ab x))/\(R.tmps[d]?=U (.bA [])->yielded ops a.tmps X=Z):=by
 constructor;intro b P;rcases Q.tmps d _ P with h|h;cases h;simp[yielded,N,h,C.ab];intro P;rcases Q.tmps d _ P with h|h;cases h;simp[yielded,N,h,C.ab]
def OX{a:Act}{W:World}(X:ax p.S0 p.w0 D z.ty t x R a W)(M:et z.gl x){g:FuncId}(h:dW z R l=.call (.fn g) e)
  (H:∀e W,(callFunc g e).run p.P W=.ok (.enter g e) W):(execOp a.eval l).run p.P W=.ok (.enter g (C.ay x t e).toArray) W:=by
 unfold dW at h;split at h;split at h<;>cases h;rename_i c G;split at h;rename_i f B;split at h;rename_i q n L;split at h;cases h;rename_i A;have N:=cK X M f (by rw[L];rfl);rw[L] at N;have y:c.args.map a.eval=(C.ay x t (c.args.toList.map (R.ev z.gl))).toArray:=by
  apply kG;simp only[th,nx,mT];exact jh λQ w=>cK X M Q (by
   cases v:(R.ev z.gl Q).ec;rfl;exact bp (jy.2 ⟨Q,w,v⟩) A)
 obtain⟨m,k,u,r⟩:=aba x t h;rw[u] at N;simp only[execOp,G,resolve,B,cZ,N,Deferred.ofValue,eI,cT,invoke,y,r,H];split at h<;>cases h;cases h;cases h;split at h;split at h<;>cases h;cases h;cases h;cases h
def Vd{a:Act}{W:World}(Q:ax p.S0 p.w0 D z.ty t x R a W)(M:et z.gl x)(h:dW z R l=.call (.yl X) e):
  (execOp a.eval l).run p.P W=(Instr.yield (x.y.getD X 0) (C.ay x t e).toArray).run p.P W:=by
 unfold dW at h;split at h;split at h<;>cases h;rename_i c G;split at h;rename_i f B;split at h;split at h;cases h;exact(al3 h).elim;rename_i r L;split at h;cases h;rename_i A;cases h;have H:=cK Q M f (by rw[L];rfl);rw[L,C.ab] at H;have w:c.args.map a.eval=(C.ay x t (c.args.toList.map (R.ev z.gl))).toArray:=by
  apply kG;simp only[th,nx,mT];exact jh λN v=>cK Q M N (by
   cases u:(R.ev z.gl N).ec;rfl;exact bp (jy.2 ⟨N,v,u⟩) A)
 simp[execOp,G,resolve,B,H,Deferred.ofValue,invoke,w];cases h;cases h;split at h;split at h<;>cases h;cases h;cases h;cases h
def Ve{s:S}{O:ai}{V:ap}{L:cX}{e:K}{z:FuncId->am->T}:∀{Q:aZ}{P:am},(BT e z Q P).aG p O L->∃g N,jK (e.ab O) Q (C.ay O V P)=.func (.func g) #[] (C.ay O V N).toArray/\(z g N).aG p O L
 |[],P,h=>by simp only[BT] at h;exact h.elim
 |k::Q,[],h=>by simp only[BT] at h;exact h.elim
 |k::Q,v::P,h=>by
  unfold BT at h;split at h;rename_i y x g N w X R;simp only[uG] at X R;obtain⟨rfl,rfl⟩:=X;obtain⟨rfl,rfl⟩:=R;simp only[T.aG,BE.ab,gm,K.ab] at h;by_cases W:e.ab O=k;have X:=h.1 (by simp[W]);cases M:iW g 1000000;rw[M] at X;exact X.elim;rw[M] at X;exact⟨g,N,by simp[C.ay,C.ab,jK,W,ik,Uf M],X⟩;obtain⟨H,G,B,A⟩:=Ve (s:=s) (V:=V) (h.2 (by simp[W]));exact⟨H,G,by simp only[C.ay,jK,W,fH];exact B,A⟩;rename_i y x w X R;simp only[uG] at X R;obtain⟨rfl,rfl⟩:=X;obtain⟨rfl,rfl⟩:=R;simp only[T.aG,BE.ab,gm,K.ab] at h;by_cases W:e.ab O=k;exact(h.1 (by simp[W])).elim;obtain⟨H,G,B,A⟩:=Ve (s:=s) (V:=V) (h.2 (by simp[W]));exact⟨H,G,by simp only[C.ay,jK,W,fH];exact B,A⟩;exact h.elim
def anl{s:S}{a:Act}{W:World}{O:ai}{V:ap}(R:ax p.S0 p.w0 D z.ty V O s a W)(Q:et z.gl O){m:OM}{e:K}{N:aZ}{M X L:am}{g:FuncId}(h:yg z m s=U (e,N,M,X))
  (w:jK (e.ab O) N (C.ay O V M)=.func (.func g) #[] (C.ay O V L).toArray)(v:∀X W,(callFunc g X).run p.P W=.ok (.enter g X) W):
  (execOp a.eval m.o).run p.P W=.ok (.enter g (C.ay O V (X++L)).toArray) W/\∀c,m.o.op≠ .defer c:=by
 unfold yg at h;split at h;cases h;split at h;rename_i c H;split at h;rename_i f u;split at h;rename_i n l k G;split at h;cases h;rename_i B;simp only[iD,not_or] at B;cases h;have A:=cK R Q f (by rw[G];rfl);rw[G,C.ab,w] at A;have t:c.args.map a.eval=(C.ay O V (c.args.toList.map (s.ev z.gl))).toArray:=by
  apply kG;simp only[th,nx,mT];exact jh λx r=>cK R Q x (by
   cases q:(s.ev z.gl x).ec;rfl;exact bp (jy.2 ⟨x,r,q⟩) B.1)
 refine⟨?_,λj y=>by rw[H] at y;cases y⟩;simp only[execOp,H,resolve,u,cZ,A,Deferred.ofValue,eI,cT,invoke,t,Ot];simp only[List.append_toArray,v,gU];cases h;cases h;cases h
def acJ{a:Act}{W:World}(X:ax p.S0 p.w0 D z.ty t x R a W)(G:et z.gl x)(h:dW z R l=.aW r):
  (execOp a.eval l).run p.P W=.halt (.panic (r.ab x t)) W:=by
 unfold dW at h;split at h;rename_i Q H;split at h;rename_i N y L;cases h;have M:=cK X G Q (by rw[L];rfl);rw[L] at M;simp[execOp,H,M,C.ab,Instr.panic];cases h;rename_i c H;split at h;split at h;split at h;cases h;exact(aa9 h).elim;split at h<;>cases h;cases h;cases h;rename_i A;split at h;rename_i Q L;split at h;rename_i N y B;cases h;have M:=cK X G Q (by rw[B];rfl);rw[B] at M;have:c.args.map a.eval= #[a.eval Q]:=by apply kG;simp[L]
 simp[execOp,H,resolve,A,invoke,builtin,this,M,C.ab,Instr.panic];cases h;cases h;cases h;cases h
def wD{a:Act}{W R:World}{v:Value}{V:Act->World->Prop}{Q:Exit->Act->World->Prop}(N:nY F)(h:pZ p.P l a W v R)(M:∀c,l.op≠ .defer c)(O:V (a.put l.dst v) R):l.wpIn F X p.P a W V Q:=by
 refine⟨λf _=>N.fn f, ?_⟩;rw[v6 _ _ _ M];rcases h with h|⟨h,rfl⟩;rw[h];exact O;rw[h];exact O
def Vf{W:Bool}{X:BI}(h:eA z l b W R=U X):∀c,l.op≠ .defer c:=by
 intro c A;simp[eA,A] at h
def anm{m:OM}{s:S}{X:S->Fx->T}{W:Fx}{t:T}(h:yf z m s X W=U t):∀c,m.o.op≠ .defer c:=by
 intro c A;simp[yf,A] at h
def KO{m:OM}{s X:S}{O:ai}(h:(fJ z m s).gives O X):∀c,m.o.op≠ .defer c:=by
 intro c A;unfold fJ at h;split at h;exact h.elim;rw[A] at h;simp[bT,qP,OR.gives] at h
def wE(bd:p.ty=z.ty)(bf:He p.P z)(hF:nY F)(a3:ip p.P z.ty){B:iG}(hH:KN p z D B A){n:Nat}{k:S->T}{kp:C->S->T}{Q:Exit->Act->World->Prop}(HP:∀ch a' N pd y,dR p.w0 D pd y a'.defers N->p.R (.panicked ch) N->Q (.panic ch) a' N):
  ∀(l:ck)(j:Nat)(s:S)(fx:Fx)(L:cX)(O:ai)(V:ap)(a:Act)(W:World),
   (∀i m,l[i]?=U m->ops[j+i]?=U m.o)->B.j5 s O V L->
   (jX z A ops k kp l s fx).aG p O L->sd O fx->ax p.S0 p.w0 D z.ty V O s a W->et z.gl O->
   (∀H O' V' a' N L',bj s O V H O' V'->cz s.av L L'->ax p.S0 p.w0 D z.ty V' O' H a' N->(k H).aG p O' L'->Q .normal a' N)->
   (∀v H O' V' a' N L',bj s O V H O' V'->cz s.av L L'->ax p.S0 p.w0 D z.ty V' O' H a' N->(kp v H).aG p O' L'->Q (.panic [{v:=v.ab O' V',recovered:=E}]) a' N)->
   wpOpsIn F n p.P ops Q (uI j (Y l)) a W
 |[],j,s,fx,L,O,V,a,W,_,_,h,_,R,_,hk,_=>hk s O V a W L (bj.refl _ _ _) (cz.refl _ _) R h
 |m::an,j,s,fx,L,O,V,a,W,ca,hB,h,b2,R,hg,hk,a4=>by
  have ho:ops[j]?=U m.o:=by simpa using ca 0 m rfl
  have bk:∀i m',an[i]?=U m'->ops[j+1+i]?=U m'.o:=λi m' hi=>by
   have:=ca (i+1) m' (by simpa using hi)
   rwa [show j+(i+1)=j+1+i from aa] at this
  simp only[pO,Ts,wpOpsIn,ho];have b5:∀a0,sd O a0->
    (yj z A m s (jX z A ops k kp an) kp a0).aG p O L->
    m.o.wpIn F n p.P a W (wpOpsIn F n p.P ops Q (uI (j+1) (Y an))) Q:=by
   intro a0 a9 h;unfold yj at h;have cc:∀g a1,(A (.fn g) a1 s (λv H=>jX z A ops k kp an (H.put m.o.dst v) (nR s a0)) kp).aG p O L->((∀a1 W,(callFunc g a1).run p.P W=.ok (.enter g a1) W)->(execOp a.eval m.o).run p.P W=.ok (.enter g (C.ay O V a1).toArray) W)->(∀c,m.o.op≠ .defer c)->
     m.o.wpIn F n p.P a W (wpOpsIn F n p.P ops Q (uI (j+1) (Y an))) Q:=by
    intro g a1 h b6 bl;have hC:=hH L (.fn g) a1 s _ _ O V a W (λe N=>match e with
      |.returned v=>wpOpsIn F n p.P ops Q (uI (j+1) (Y an)) (a.put m.o.dst v) N
      |.panicked ch=>Q (.panic ch) a N
      |.outgrown=>LetsOut Q) hB h R hg
     (λv H O' V' N L' X hL R' hs=>wE bd bf hF a3 hH HP an (j+1) (H.put m.o.dst v) (nR s a0) L' O' V' _ N bk (hB.go (X.put _ _) hL) hs
      (Ex R X.ext.agree a9) (R'.put m.o.dst v) (hg.ext X.ext)
      (λM G x a2 w r af ag R2 al=>hk M G x a2 w r ((X.put _ _).trans af) (hL.trans ag (X.put _ _).av) R2 al)
      (λv2 M G x a2 w r af ag R2 al=>a4 v2 M G x a2 w r ((X.put _ _).trans af) (hL.trans ag (X.put _ _).av) R2 al))
     (λv H O' V' N L' X hL R' hs=>a4 v H O' V' a N L' X hL R' hs)
     (λch N pd y hA hR=>HP ch a N pd y hA hR)
    obtain⟨bx,b7⟩:=hC;refine⟨λf _=>hF.fn f, ?_⟩;rw[v6 _ _ _ bl,b6 bx];rw[NK];refine⟨λhd=>by rw[hF.u4] at hd;simp at hd,CallsIn.mono (hF.calls b7) (λe N he=> ?_)⟩;cases e<;>exact he
   split at h;rename_i e ks vs a1 cl;obtain⟨g,cp,q1,q2⟩:=Ve (s:=s) (V:=V) h;refine cc g (a1++cp) q2 (λbx=>(anl R hg cl q1 bx).1) ?_;intro c br;simp[yg,br] at cl;split at h;rename_i u hu;obtain⟨az,hr,h⟩:=h;obtain⟨a1,tv,b6,bl,b7⟩:=anh bf R hg hu hr;refine⟨λf _=>hF.fn f, ?_⟩;rw[v6 _ _ _ bl,b6];rw[NK];refine⟨λhd=>by rw[hF.u4] at hd;simp at hd,CallsIn.mono (hF.calls b7) (λe N he=> ?_)⟩;obtain⟨rfl,R',X⟩:=he;exact wE bd bf hF a3 hH HP an (j+1) u.s (nR s a0) L _ V _ N bk (hB.go X (cz.refl _ _)) h (Ex R X.ext.agree a9) R' (hg.ext X.ext)
    (λM G x a2 w r af ag R2 al=>hk M G x a2 w r (X.trans af) ((cz.refl _ _).trans ag X.av) R2 al)
    (λv2 M G x a2 w r af ag R2 al=>a4 v2 M G x a2 w r (X.trans af) ((cz.refl _ _).trans ag X.av) R2 al)
   split at h;rename_i g a1 b0;exact cc g a1 h (λbx=>OX R hg b0 bx) (λc br=>by simp[dW,br] at b0);rename_i yn a1 b0;split at h;have hC:=hH L (.yl yn) a1 s _ _ O V a W (λe N=>match e with
    |.returned v=>wpOpsIn F n p.P ops Q (uI (j+1) (Y an)) (a.put m.o.dst v) N
    |.panicked ch=>Q (.panic ch) a N
    |.outgrown=>LetsOut Q) hB h R hg
    (λv H O' V' N L' X hL R' hs=>wE bd bf hF a3 hH HP an (j+1) (H.put m.o.dst v) (nR s a0) L' O' V' _ N bk (hB.go (X.put _ _) hL) hs
     (Ex R X.ext.agree a9) (R'.put m.o.dst v) (hg.ext X.ext)
     (λM G x a2 w r af ag R2 al=>hk M G x a2 w r ((X.put _ _).trans af) (hL.trans ag (X.put _ _).av) R2 al)
     (λv2 M G x a2 w r af ag R2 al=>a4 v2 M G x a2 w r ((X.put _ _).trans af) (hL.trans ag (X.put _ _).av) R2 al))
    (λv H O' V' N L' X hL R' hs=>a4 v H O' V' a N L' X hL R' hs)
    (λch N pd y hA hR=>HP ch a N pd y hA hR)
   obtain⟨fn,cy,assign,body,hy,cs⟩:=hC F hF (n-1);refine⟨λf _=>hF.fn f, ?_⟩;have bl:∀c,m.o.op≠ .defer c:=λc br=>by simp[dW,br] at b0
   rw[v6 _ _ _ bl,Vd R hg b0,hy];rw[als];refine⟨λhd=>by rw[hF.u4] at hd;simp at hd,RoundIn.mono cs (λe N he=> ?_)⟩;cases e<;>exact he;exact h.elim;rename_i v cn;refine⟨λf _=>hF.fn f, ?_⟩;have bl:∀c,m.o.op≠ .defer c:=λc br=>by simp[dW,br] at cn
   rw[v6 _ _ _ bl,acJ R hg cn];exact a4 v s O V a W L (bj.refl _ _ _) (cz.refl _ _) R h;exact h.elim;have b3:∀H b4,sd O b4->(fJ z m s).gives O H->(jX z A ops k kp an H b4).aG p O L->m.o.wpIn F n p.P a W (wpOpsIn F n p.P ops Q (uI (j+1) (Y an))) Q:=by
    intro H b4 ct co hs;obtain⟨v,N,V',b1,R',X⟩:=KC R a3 hg m co;exact wD hF b1 (KO co) (wE bd bf hF a3 hH HP an (j+1) H b4 L O V' _ N bk (hB.go X (cz.refl _ _)) hs ct R' hg
     (λM G x a2 w r af ag R2 al=>hk M G x a2 w r (X.trans af) ((cz.refl _ _).trans ag X.av) R2 al)
     (λv2 M G x a2 w r af ag R2 al=>a4 v2 M G x a2 w r (X.trans af) ((cz.refl _ _).trans ag X.av) R2 al))
   split at h;rename_i t ht;obtain⟨v,N,O',V',H,ba,b1,R',X,bb,h2⟩:=am7 R a3 hg a9 ht h;exact wD hF b1 (anm ht) (wE bd bf hF a3 hH HP an (j+1) H ba L O' V' _ N bk (hB.go X (cz.refl _ _)) h2 bb R' (hg.ext X.ext)
    (λM G x a2 w r af ag R2 al=>hk M G x a2 w r (X.trans af) ((cz.refl _ _).trans ag X.av) R2 al)
    (λv2 M G x a2 w r af ag R2 al=>a4 v2 M G x a2 w r (X.trans af) ((cz.refl _ _).trans ag X.av) R2 al))
   split at h;rename_i b hb;obtain⟨hn,h⟩:=h;obtain⟨v,N,rv,b1,cv,R',X⟩:=UT R a3 hg hb hn;exact wD hF b1 (Vf hb) (wE bd bf hF a3 hH HP an (j+1) b.s (nR s a0) L _ V _ N bk (hB.go X (cz.refl _ _)) (h rv (by rw[bd];exact cv)) (Ex R X.ext.agree a9) R' (hg.ext X.ext)
    (λM G x a2 w r af ag R2 al=>hk M G x a2 w r (X.trans af) ((cz.refl _ _).trans ag X.av) R2 al)
    (λv2 M G x a2 w r af ag R2 al=>a4 v2 M G x a2 w r (X.trans af) ((cz.refl _ _).trans ag X.av) R2 al))
   split at h;rename_i H bs;exact b3 H a0 a9 (by rw[bs];rfl) h;rename_i b H bs;exact b3 H a0 a9 (by rw[bs];exact⟨h.1,rfl⟩) h.2;rename_i b s1 M bs;obtain⟨ba,bb,h2⟩:=Vc a9 h;cases hb:b.ab O;exact b3 M ba bb (by rw[bs];simp[OR.gives,hb]) (by simpa[hb] using h2);exact b3 s1 ba bb (by rw[bs];simp[OR.gives,hb]) (by simpa[hb] using h2);exact h.elim
  have b8:∀a0,sd O a0->(jX z A ops k kp an (s.put m.o.dst (.bA [])) a0).aG p O L->wpOpsIn F n p.P ops Q (uI (j+1) (Y an)) (a.put m.o.dst undef) W:=
   λa0 a9 h=>wE bd bf hF a3 hH HP an (j+1) _ a0 L O V _ W bk (hB.go ((bj.refl _ _ _).put _ _) (cz.refl _ _)) h a9 (R.put m.o.dst (.bA [])) hg
    (λM G x a2 w r af ag R2 al=>hk M G x a2 w r (((bj.refl _ _ _).put _ _).trans af) ((cz.refl _ _).trans ag ((bj.refl s O V).put _ _).av) R2 al)
    (λv2 M G x a2 w r af ag R2 al=>a4 v2 M G x a2 w r (((bj.refl _ _ _).put _ _).trans af) ((cz.refl _ _).trans ag ((bj.refl s O V).put _ _).av) R2 al)
  simp only[jX,N9] at h;cases bg:m.o.guard with
  |none=>
   rw[bg] at h;have:jH m.o (yielded ops a.tmps)=true:=by simp[jH,bg]
   rw[aE this];exact b5 fx b2 h
  |some q=>
   obtain⟨jj,cx⟩:=q;rw[bg] at h;simp only at h;split at h;rename_i d hd;have hy:=acH R hd;split at h;rename_i b hb;have bt:=hy.1 b hb;cases cx;simp only[iC,fH] at h;obtain⟨ba,bb,h2⟩:=Vc b2 h;cases bc:b.ab O;have:jH m.o (yielded ops a.tmps)=true:=by simp[jH,bg,bt,bc]
   rw[aE this];exact b5 ba bb (by simpa[bc] using h2);have:¬jH m.o (yielded ops a.tmps)=true:=by simp[jH,bg,bt,bc]
   rw[aJ this];exact⟨λf _=>hF.fn f,b8 ba bb (by simpa[bc] using h2)⟩;simp only[cH] at h;obtain⟨ba,bb,h2⟩:=Vc b2 h;cases bc:b.ab O;have:¬jH m.o (yielded ops a.tmps)=true:=by simp[jH,bg,bt,bc]
   rw[aJ this];exact⟨λf _=>hF.fn f,b8 ba bb (by simpa[bc] using h2)⟩;have:jH m.o (yielded ops a.tmps)=true:=by simp[jH,bg,bt,bc]
   rw[aE this];exact b5 ba bb (by simpa[bc] using h2);rename_i hb;have bt:=hy.2 hb;have:¬jH m.o (yielded ops a.tmps)=true:=by simp[jH,bg,bt]
   rw[aJ this];exact⟨λf _=>hF.fn f,b8 fx b2 h⟩;exact h.elim;exact h.elim
end
section
variable{d:ap}{m:World}{D:bI}{o:Ty}{V:ap}{O:ai}{s:S}{a:Act}{W:World}
def OY(X:ap):∀(l:bn)(n i:Nat),(pS X n l)[i]?=(l[i]?).map λx=>if X.contains (n+i) then x else Z
 |[],n,i=>by simp[pS]
 |x::R,n,0=>by simp[pS]
 |x::R,n,i+1=>by
  simp only[pS,qH];rw[OY X R (n+1) i,show n+1+i=n+(i+1) from aa]
def Vg:∀(l:bn)(i:Nat),bM (tC l) i=bM l i
 |[],i=>rfl
 |x::R,i=>by
  have X:=Vg R;simp only[tC];split;rename_i Q;cases i with
  |zero=>simp[cj]
  |succ i=>
   have:=X i;rw[Q] at this;simpa[cj] using this
  cases i with
  |zero=>simp[cj]
  |succ i=>simpa[cj] using X i
def acO{l:bn}{b:TypeId×am}(h:bM (tC (pS t 0 l)) X=U b):bM l X=U b:=by
 rw[Vg,jl,OY] at h;rw[jl];cases R:l[X]? with
 |none=>rw[R] at h;cases h
 |some x=>
  rw[R] at h;simp only[dQ,cg] at h;split at h;rw[h];cases h
def OZ{l:bn}(h:aF (tC (pS t 0 l)) X=J):aF l X=true:=by
 obtain⟨b,R⟩:=jw.1 h;simp[aF,acO R]
def i8.Ui{P:bn}{N:aY}(R:i8 d m V O P o N W)(L:ap):i8 d m V O (tC (pS L 0 P)) o N W:=
 ⟨R.base,λi h=>R.own i (OZ h),λi j X Q=>R.inj i j (OZ X) (OZ Q),λi t H h=>R.box i t H (acO h),
  λk e M X Q=>⟨(R.ah k e M X Q).1,λb G i F=>(R.ah k e M X Q).2 b G i (OZ F)⟩⟩
def acQ{l:bn}{i:Nat}{b:TypeId×am}(h:bM (tC (l.take X)) i=U b):bM l i=U b:=by
 rw[Vg,jl,lT] at h;rw[jl];split at h;exact h;cases h
def O4{l:bn}{i:Nat}(h:aF (tC (l.take X)) i=J):aF l i=true:=by
 obtain⟨b,R⟩:=jw.1 h;simp[aF,acQ R]
def i8.take{P:bn}{N:aY}(R:i8 d m V O P o N W)(n:Nat):i8 d m V O (tC (P.take n)) o N W:=
 ⟨R.base,λi h=>R.own i (O4 h),λi j X Q=>R.inj i j (O4 X) (O4 Q),λi t L h=>R.box i t L (acQ h),
  λk e M X Q=>⟨(R.ah k e M X Q).1,λb H i G=>(R.ah k e M X Q).2 b H i (O4 G)⟩⟩
def u5:∀(X:aI)(s:S),(s.b9 X).2.ak=s.ak/\(s.b9 X).2.tmps=s.tmps/\(s.b9 X).2.av=s.av/\(s.b9 X).2.lk=s.lk
 |[],s=>⟨rfl,rfl,rfl,rfl⟩
 |k::X,s=>by
  simp only[S.b9];obtain⟨R,Q,P,N⟩:=u5 X (s.fresh k).2;cases k<;>exact⟨R,Q,P,N⟩
def Vh:∀(X:aI)(s:S),(s.b9 X).2.pd=s.pd
 |[],s=>rfl
 |k::X,s=>by
  simp only[S.b9];rw[Vh X (s.fresh k).2];cases k<;>rfl
def Hf:∀(X:aX)(O:ai),(O.ext X).y=O.y
 |[],O=>rfl
 |x::X,O=>by
  simp only[ai.ext];rw[Hf X (O.add x)];cases x<;>rfl
def acR:∀(X:aI)(s:S)(k:Nat)(e:RK),s.rs[k]?=U e->(s.b9 X).2.rs[k]?=U e
 |[],s,k,e,h=>h
 |q::X,s,k,e,h=>by
  simp only[S.b9];refine acR X _ k e ?_;cases q;exact h;exact h;simp only[S.fresh];rw[dF (bJ.1 h).1];exact h
def wF:∀(X:aI)(R:aX)(s:S)(O:ai),ee X R->Y O.i=s.ni->Y O.b=s.nb->Y O.r=Y s.rs->
  (O.ext R).i.length=(s.b9 X).2.ni/\(O.ext R).b.length=(s.b9 X).2.nb/\(O.ext R).r.length=(s.b9 X).2.rs.length
 |[],[],s,O,_,Q,P,N=>⟨Q,P,N⟩
 |[],_::_,_,_,h,_,_,_=>by simp[ee] at h
 |_::_,[],_,_,h,_,_,_=>by simp[ee] at h
 |k::X,x::R,s,O,h,Q,P,N=>by
  obtain⟨L,M⟩:=h;simp only[S.b9,ai.ext];cases k<;>cases x<;>simp[pW] at L;exact wF X R _ _ M (by simp[S.fresh,ai.add,Q]) (by simp[S.fresh,ai.add,P]) (by simp[S.fresh,ai.add,N]);exact wF X R _ _ M (by simp[S.fresh,ai.add,Q]) (by simp[S.fresh,ai.add,P]) (by simp[S.fresh,ai.add,N]);exact wF X R _ _ M (by simp[S.fresh,ai.add,Q]) (by simp[S.fresh,ai.add,P]) (by simp[S.fresh,ai.add,N])
def Ez{PP:RK->RV->Prop}:∀(R:aI)(Q:aX)(s:S)(O:ai),ee R Q->Y O.r=Y s.rs->
  (∀(q:Nat)(e:RK)(X:RV),R[q]?=U (.ah e)->Q[q]?=U (.r X)->PP e X)->(∀(k:Nat)(e:RK)(X:RV),s.rs[k]?=U e->O.r[k]?=U X->PP e X)->
  ∀(k:Nat)(e:RK)(X:RV),(s.b9 R).2.rs[k]?=U e->(O.ext Q).r[k]?=U X->PP e X
 |[],[],s,O,_,_,_,M=>M
 |[],_::_,_,_,h,_,_,_=>by simp[ee] at h
 |_::_,[],_,_,h,_,_,_=>by simp[ee] at h
 |k::R,x::Q,s,O,h,L,B,M=>by
  obtain⟨H,G⟩:=h;have F:∀(q:Nat)(e:RK)(X:RV),R[q]?=U (.ah e)->Q[q]?=U (.r X)->PP e X:=λq e X P N=>B (q+1) e X (by simpa using P) (by simpa using N)
  simp only[S.b9,ai.ext];cases k<;>cases x<;>simp[pW] at H;exact Ez R Q _ _ G (by simp[S.fresh,ai.add,L]) F (by simpa[S.fresh,ai.add] using M);exact Ez R Q _ _ G (by simp[S.fresh,ai.add,L]) F (by simpa[S.fresh,ai.add] using M);rename_i A z;refine Ez R Q _ _ G (by simp[S.fresh,ai.add,L]) F ?_;intro k e X P N;simp only[S.fresh,ai.add] at P N;by_cases H:k<Y s.rs;rw[dF H] at P;rw[dF aa] at N;exact M k e X P N;have y:k=Y s.rs:=by
   have:=(bJ.1 P).1;simp at this;omega
  subst y;simp at P;rw[<-L] at N;simp at N;subst P N;exact B 0 A z rfl rfl
def Ce:aI->Nat
 |[]=>0
 |.ah _::X=>Ce X+1
 |_::X=>Ce X
def Hg:∀(R:aI)(P:aX)(s:S)(O:ai),ee R P->Y O.r=Y s.rs->
  ∀(k:Nat)(e:RK)(Q:RV),(s.b9 R).2.rs[k]?=U e->(O.ext P).r[k]?=U Q->(s.rs[k]?=U e/\O.r[k]?=U Q)\/∃q:Nat,R[q]?=U (.ah e)/\P[q]?=U (.r Q)/\k=Y s.rs+Ce (R.take q)
 |[],[],s,O,_,_,k,e,Q,N,M=>.inl ⟨N,M⟩
 |[],_::_,_,_,h,_,_,_,_,_,_=>by simp[ee] at h
 |_::_,[],_,_,h,_,_,_,_,_,_=>by simp[ee] at h
 |B::R,x::P,s,O,h,G,k,e,Q,N,M=>by
  obtain⟨A,F⟩:=h;simp only[S.b9,ai.ext] at N M;cases B<;>cases x<;>simp[pW] at A;rcases Hg R P _ _ F (by simp[S.fresh,ai.add,G]) k e Q N M with X|⟨q,X⟩;exact .inl (by simpa[S.fresh,ai.add] using X);exact .inr ⟨q+1,by simpa[S.fresh,Ce] using X⟩;rcases Hg R P _ _ F (by simp[S.fresh,ai.add,G]) k e Q N M with X|⟨q,X⟩;exact .inl (by simpa[S.fresh,ai.add] using X);exact .inr ⟨q+1,by simpa[S.fresh,Ce] using X⟩;rename_i w v;rcases Hg R P _ _ F (by simp[S.fresh,ai.add,G]) k e Q N M with⟨L,H⟩|⟨q,X⟩;simp only[S.fresh,ai.add] at L H;by_cases z:k<Y s.rs;rw[dF z] at L;rw[dF aa] at H;exact .inl ⟨L,H⟩;have y:k=Y s.rs:=by
   have:=(bJ.1 L).1;simp at this;omega
  subst y;simp at L;rw[<-G] at H;simp at H;subst L H;exact .inr ⟨0,rfl,rfl,by simp[Ce]⟩;refine .inr ⟨q+1,by simpa using X.1,by simpa using X.2.1, ?_⟩;have:=X.2.2;simp[S.fresh] at this;simp[Ce];omega
def acU:∀{ks:aI}{q:Nat}{e:RK},ks[q]?=U (.ah e)->J0 ks=J
 |[],q,e,h=>by simp at h
 |k::ks,0,e,h=>by simp at h;subst h;rfl
 |k::ks,q+1,e,h=>by
  have:=acU (ks:=ks) (q:=q) (by simpa using h);cases k<;>first|exact this|rfl
def O5:∀{R:aI}{q:Nat}{k:LK},oB R=J->R[q]?=U k->D8 k=J
 |[],q,k,_,h=>by simp at h
 |Q::R,0,k,X,h=>by simp only[oB,aw] at X;simp at h;subst h;exact X.1
 |Q::R,q+1,k,X,h=>by simp only[oB,aw] at X;exact O5 X.2 (by simpa using h)
def Vi{B:Nat}{M:Nat->Prop}:∀{N:aI}{P:aX},GI o W B M N P->∀(q:Nat)(e:RK)(X:RV),N[q]?=U (.ah e)->P[q]?=U (.r X)->bu W o e X/\∀b,dL o e X b->B<=b\/M b
 |[],P,_,q,e,X,R,_=>by simp at R
 |_::_,[],_,q,e,X,_,Q=>by simp at Q
 |k::N,x::P,h,0,e,X,R,Q=>by simp at R Q;subst R Q;exact h.1
 |k::N,x::P,h,q+1,e,X,R,Q=>Vi h.2 q e X (by simpa using R) (by simpa using Q)
def ax.called{B:World}(R:ax d m D o V O s a W)(u:s.bd=J){Q:aI}(f:oB Q=J){N:aX}(A:ee Q N)(n:Below W.heap.size W B){c:Nat->Prop}(ho:∀b,c b->O.oE o s.rs b/\∀(k:Nat)(e:TypeId)(X:RV),s.rs[k]?=U (.own e)->O.r[k]?=U X->X.jY=U b->J0 Q=E)
  (hh:GI o B W.heap.size c Q N):
  ax d m D o V (O.ext N) (s.b9 Q).2 a B:=by
 obtain⟨M,e2,e3,e4⟩:=u5 Q s;obtain⟨l1,l2,l3⟩:=wF Q N s O A R.ei R.eb R.er;obtain⟨af,ag⟩:=R.wv u;have hE:=Ay s.ak O N V;have L:=R.mem.below n;refine⟨⟨L.base,by rw[M];exact L.own,by rw[M];exact L.inj, ?_, ?_⟩,by rw[M];exact R.fM,l1,l2,l3,by rw[Hf,Vh];exact R.cQ.below n,by rw[e2];exact R.size, ?_, ?_⟩;rw[M];intro i t cs h;rw[hE.dw (qX ag h)];exact L.box i t cs h;rw[M];refine Ez (PP:=λe X=>bu B o e X/\∀b,dL o e X b->∀i,aF s.ak i=J->ad V i≠b) Q N s O A R.er ?_ (λk e X P H=>L.ah k e X P H);intro q e X P H;obtain⟨z,h4⟩:=Vi hh q e X P H;refine⟨z,λb u i hi=> ?_⟩;rcases h4 b u with G|G;have:=R.mem.lt hi;omega;obtain⟨⟨k,y,hk,hx⟩,-⟩:=ho b G;exact(R.mem.ah k _ _ hk (sa R hk)).2 b hx i hi;rw[e2];intro t sv h;rcases R.tmps t sv h with P|P;exact .inl P;right;rw[hE.ab (tJ af h)];exact P;rw[M];intro k e X b P H z;rcases Hg Q N s O A R.er k _ X P H with⟨x,l⟩|⟨q,x,l,-⟩;have t:=R.fz k e X b x l z;have w:=t.world (n.block b t.lt);refine⟨w.own,w.mem,w.box,λk' y j q1 q2 q3 v=> ?_,w.inner⟩;rcases Hg Q N s O A R.er k' y j q2 q3 with⟨F,g⟩|⟨q,F,g,-⟩;exact t.alone k' y j q1 F g v;have hr:=acU F;obtain⟨p3,p4⟩:=Vi hh q y j F g;rcases v with v|⟨⟨t0,rfl⟩,_⟩;rcases p4 b v with G|G;have:=t.lt;omega;have:=(ho b G).2 k e X x l z;rw[hr] at this;cases this;have:=O5 f F;simp[D8] at this;have:=O5 f x;simp[D8] at this
def acY(R:ax d m D o V O s a W){G:aI}(h:O.oE o (J2 e s.rs) X):
  O.oE o (Aj e G s.rs) X/\∀(k:Nat)(Q:TypeId)(H:RV),(Aj e G s.rs)[k]?=U (.own Q)->O.r[k]?=U H->H.jY=U X->J0 G=false:=by
 obtain⟨N,q,P,A⟩:=h;unfold J2 at P;rw[UE] at P;cases M:s.rs[N]? with
 |none=>rw[M] at P;cases P
 |some x=>
  rw[M] at P;simp only[gV,dQ,cg] at P;have z:=abN ((J1 e (Y s.rs)).contains N) x;rw[P] at z;have L:dL o x (O.rv N) X:=A.lx z;refine⟨?_,λk Q H F v u=> ?_⟩;unfold Aj;split;refine⟨N,wc ((J1 e (Y s.rs)).contains N) x,by rw[G1,M];simp, ?_⟩;cases x<;>simp only[wc]<;>try exact L
  split;cases L with
  |own Q H X L=>exact L
  exact L;exact⟨N,x,M,L⟩;unfold Aj at F;split at F;rename_i y;exfalso;obtain⟨B,t⟩:=UK F;by_cases w:N=k;subst w;rw[M] at B;cases B;simp only[JU] at P;rw[aJ (by simpa using t)] at P;subst P;cases A;exact(R.fz k Q H X B v u).alone N x (O.rv N) w M (sa R M) (.inl L);rename_i y;simpa using y
def Cf(R:am)(Q:aI)(X:aY):oG X (Aj R Q X):=by
 unfold Aj;split;exact Ks _ _;exact oG.refl _
end
section
variable{p:Sp}{c:bi}
def acZ(w:p.ty=c.ty)(n:∀g,(c.sig g).isSome=J->∀X W,(callFunc g X).run p.P W=.ok (.enter g X) W)
  (D:bI)(L:cX)(g:FuncId)(X:am)(s:S)(k:C->S->T)(O:ai)(V:ap)(a:Act)(W:World)(B:Ending->World->Prop)
  (h:(wl c g X s k).aG p O L)(R:ax p.S0 p.w0 D c.ty V O s a W)
  (j:∀v A H z Q u,bj s O V A H z->cz s.av L u->ax p.S0 p.w0 D c.ty z H A a Q->(k v A).aG p H u->B (.returned (v.ab H z)) Q)
  (i:∀G Q f y,dR p.w0 D f y a.defers Q->p.R (.panicked G) Q->B (.panicked G) Q):
  (∀X W,(callFunc g X).run p.P W=.ok (.enter g X) W)/\Calls p.P g (C.ay O V X).toArray W B:=by
 unfold wl at h;split at h;rename_i ts af;refine⟨n g (by rw[af];rfl), ?_⟩;split at h;rename_i M al;split at h;rename_i l hl;split at h;rename_i N;simp only[S.eD,aw] at N;obtain⟨N,ag⟩:=N;simp only[T.aG] at h;have:=h O.y V W (by rw[w];exact(R.mem.Ui _).lx (abO _ _));refine this.mono ?_;intro e Q F;cases e with
 |returned v=>
  obtain⟨x,h1,t,h3,r,h5⟩:=F;rw[w] at r;obtain⟨q,e2,e3,e4⟩:=u5 M (s.cut X M);have hy:(O.ext x).at O.y=O.ext x:=by have:=Hf x O;unfold ai.at;rw[<-this]
  rw[hy] at t;subst t;have R1:ax p.S0 p.w0 D c.ty V O (s.cut X M) a W:=R.lx (Cf X M s.rs);exact j _ _ _ V Q L ⟨Ay _ _ _ _,by rw[q];exact λ_ h=>h,by rw[q];exact bU _,by rw[e3];exact bU _⟩ (cz.refl _ _) (R1.called (Kz N.1 (Cf X M s.rs).len) ag h1 h3 (λb N=>acY R N) r) h5
 |panicked G=>exact i G Q _ _ (R.cQ.below F.1) F.2
 |outgrown=>exact F.elim
 exact h.elim;exact h.elim;exact h.elim;exact h.elim
def Vj{d:ap}{m:World}{D:bI}{V:ap}{O:ai}{s:S}{a:Act}{W:World}(R:ax d m D c.ty V O s a W)(M:ip p.P c.ty)(f:ResultVar->Sem Value)(L:∀t,f (.tmp t)=pure (a.tmps.getD t undef))(H:∀x t,f (.cell x t)=(asAddr (a.tmps.getD x undef)>>=λy=>loadVar t y)):
  ∀(X:lg)(l:am),rP c s X=U l->(X.mapM f).run p.P W=.ok (C.ay O V l) W
 |[],l,h=>by simp[rP] at h;subst h;rfl
 |.tmp t::X,l,h=>by
  simp only[rP] at h;split at h;rename_i G F;split at h;cases h;rename_i z;cases h;have N:=cK (gl:=[]) R (λ_ Q=>by cases Q) (.tmp t) (by simpa[S.ev,uM] using z);simp only[Act.eval,S.ev,uM] at N;simp only[alC,cZ,L,eI,cT,Vj R M f L H X G F,C.ay,N];cases h
 |.cell x t::X,l,h=>by
  simp only[rP] at h;split at h;rename_i G i g e F Q w;split at h;rename_i u r B;split at h;rename_i v q;cases h;have N:=cK (gl:=[]) R (λ_ Q=>by cases Q) (.tmp x) (by simp only[S.ev,uM,Q];rfl);simp only[Act.eval,S.ev,uM,Q,C.ab] at N;have A:=Ox (P:=p.P) (W:=W) (M _ _ w) (O:=O) (V:=V) (b:=ad V i) (base:=0) q (λj y n=>by
   obtain⟨B,k⟩:=wu B;have:=R.mem.box i u r B;rw[pu k] at this;simp[mC,this,qV,n])
  simp only[Instr.loadAt,Instr.sureAddr,gV,cZ,eI,cT] at A;simp only[alC,cZ,H,N,asAddr,eI,cT,A,Vj R M f L H X G F,C.ay];cases h;cases h;cases h
def Hh{m:World}{D:bI}{V:ap}{a:Act}{W:World}(X:ax t m D c.ty V x R a W)(N:ip p.P c.ty){Q:Func}{l:am}(h:rP c R Q.results.toList=U l):
  (results Q a.tmps).run p.P W=.ok ((one l).ab x V) W:=by
 unfold results;rw[awZ];simp only[cZ,Sem.run_map];rw[Vj X N _ (λ_=>rfl) (λ_ _=>rfl) Q.results.toList l h];simp only[cT,eI];congr 1
 match l with
 |[]=>rfl
 |[v]=>rfl
 |v::w::r=>rfl
end
section
variable{d:ap}{m:World}{D:bI}{ty:Ty}{V:ap}{O:ai}{s:S}{a:Act}{W:World}
def XV.at(k:LK):XV->Value
 |.i n=>match k with
  |.int k=>.int k n
  |_=>undef
 |.b x=>.bool x
 |.r v=>v.val
def XV.KP(k:LK)(x:XV):RV:=match x with
 |.r v=>v
 |x=>.mk (x.at k) []
def ann{k:LK}(h:Ai R k r=J):(r.xv x).KP k=r.gc x t:=by
 unfold Ai at h;split at h;simp at h;subst h;rfl;rfl;rfl;rfl;rfl;rfl;cases h
def ac0{V1:ap}{k:LK}(h:Ai R k r=J):(r.xv x).at k=r.ab x V1/\pW k (r.xv x):=by
 unfold Ai at h;split at h;simp at h;subst h;exact⟨rfl,trivial⟩;exact⟨rfl,trivial⟩;exact⟨rfl,trivial⟩;exact⟨rfl,trivial⟩;exact⟨rfl,trivial⟩;exact⟨rfl,trivial⟩;cases h
def ac1{N:S}:∀{X:aI}{R:am},qR N X R=J->Y X=Y R/\∀(q:Nat)(k:LK)(v:C),X[q]?=U k->R[q]?=U v->Ai N k v=J
 |[],[],_=>⟨rfl,λq k v h _=>by simp at h⟩
 |[],_::_,h=>by simp[qR] at h
 |_::_,[],h=>by simp[qR] at h
 |k::X,v::R,h=>by
  simp only[qR,aw] at h;obtain⟨M,L⟩:=ac1 h.2;refine⟨by simp[M],λq H G Q P=> ?_⟩;cases q with
  |zero=>simp at Q P;subst Q P;exact h.1
  |succ q=>exact L q H G (by simpa using Q) (by simpa using P)
def Vk{Q:S}{O1:ai}:∀{X:aI}{R:am},qR Q X R=J->ee X (R.map (C.xv O1))
 |[],[],_=>trivial
 |[],_::_,h=>by simp[qR] at h
 |_::_,[],h=>by simp[qR] at h
 |k::X,v::R,h=>by
  simp only[qR,aw] at h;exact⟨(ac0 (V1:=[]) h.1).2,Vk h.2⟩
def O6:∀(R:aI)(X:aX)(s:S)(O:ai),ee R X->Y O.i=s.ni->Y O.b=s.nb->Y O.r=Y s.rs->
  ∀(q:Nat)(k:LK)(x:XV)(v:C),R[q]?=U k->X[q]?=U x->(s.b9 R).1[q]?=U v->v.ab (O.ext X) V=x.at k/\v≠ .any
 |[],_,_,_,_,_,_,_,q,k,x,v,h,_,_=>by simp at h
 |_::_,[],_,_,h,_,_,_,q,k,x,v,_,_,_=>by simp[ee] at h
 |B::R,G::X,s,O,A,M,L,H,0,k,x,v,Q,P,N=>by
  obtain⟨z,F⟩:=A;simp only[S.b9,xR,cg] at Q P N;subst Q P N;have y:=B4 X (O.add G);simp only[ai.ext];cases B<;>cases G<;>simp[pW] at z;refine⟨?_,by simp[S.fresh]⟩;simp only[S.fresh,C.ab,K.ab,XV.at];rw[y.i _ (by simp[ai.add,M])];simp[ai.add,<-M];refine⟨?_,by simp[S.fresh]⟩;simp only[S.fresh,C.ab,BE.ab,XV.at];rw[y.b _ (by simp[ai.add,L])];simp[ai.add,<-L];refine⟨?_,by simp[S.fresh]⟩;simp only[S.fresh,C.ab,RE.ab,RE.rv,XV.at];rw[y.r _ (by simp[ai.add,H])];simp[ai.add,ai.rv,<-H]
 |B::R,G::X,s,O,A,M,L,H,q+1,k,x,v,Q,P,N=>by
  obtain⟨z,F⟩:=A;simp only[S.b9,qH] at Q P N;simp only[ai.ext];cases B<;>cases G<;>simp[pW] at z;exact O6 R X _ _ F (by simp[S.fresh,ai.add,M]) (by simp[S.fresh,ai.add,L]) (by simp[S.fresh,ai.add,H]) q k x v Q P N;exact O6 R X _ _ F (by simp[S.fresh,ai.add,M]) (by simp[S.fresh,ai.add,L]) (by simp[S.fresh,ai.add,H]) q k x v Q P N;exact O6 R X _ _ F (by simp[S.fresh,ai.add,M]) (by simp[S.fresh,ai.add,L]) (by simp[S.fresh,ai.add,H]) q k x v Q P N
def O7:∀(R:aI)(X:aX)(s:S)(O:ai),ee R X->Y O.i=s.ni->Y O.b=s.nb->Y O.r=Y s.rs->
  ∀(q:Nat)(k:LK)(x:XV)(v:C),R[q]?=U k->X[q]?=U x->(s.b9 R).1[q]?=U v->v.gc (O.ext X) V=x.KP k
 |[],_,_,_,_,_,_,_,q,k,x,v,h,_,_=>by simp at h
 |_::_,[],_,_,h,_,_,_,q,k,x,v,_,_,_=>by simp[ee] at h
 |B::R,G::X,s,O,A,M,L,H,0,k,x,v,Q,P,N=>by
  obtain⟨z,F⟩:=A;simp only[S.b9,xR,cg] at Q P N;subst Q P N;have y:=B4 X (O.add G);simp only[ai.ext];cases B<;>cases G<;>simp[pW] at z
  skip
  simp only[S.fresh,C.gc,C.ab,K.ab,XV.KP,XV.at];rw[y.i _ (by simp[ai.add,M])];simp[ai.add,<-M]
  skip
  simp only[S.fresh,C.gc,C.ab,BE.ab,XV.KP,XV.at];rw[y.b _ (by simp[ai.add,L])];simp[ai.add,<-L]
  skip
  simp only[S.fresh,C.gc,RE.rv,XV.KP];rw[y.r _ (by simp[ai.add,H])];simp[ai.add,ai.rv,<-H]
 |B::R,G::X,s,O,A,M,L,H,q+1,k,x,v,Q,P,N=>by
  obtain⟨z,F⟩:=A;simp only[S.b9,qH] at Q P N;simp only[ai.ext];cases B<;>cases G<;>simp[pW] at z;exact O7 R X _ _ F (by simp[S.fresh,ai.add,M]) (by simp[S.fresh,ai.add,L]) (by simp[S.fresh,ai.add,H]) q k x v Q P N;exact O7 R X _ _ F (by simp[S.fresh,ai.add,M]) (by simp[S.fresh,ai.add,L]) (by simp[S.fresh,ai.add,H]) q k x v Q P N;exact O7 R X _ _ F (by simp[S.fresh,ai.add,M]) (by simp[S.fresh,ai.add,L]) (by simp[S.fresh,ai.add,H]) q k x v Q P N
def ac2:∀(X:aI)(s:S),(s.b9 X).1.length=Y X
 |[],_=>rfl
 |k::X,s=>by simp[S.b9,ac2 X]
def ac3{n:Nat}:∀{R:List (Nat×LK)}{X:am}{v:C},tF n R X=U v->∃(q:Nat)(k:LK),R[q]?=U (n,k)/\X[q]?=U v
 |[],X,v,h=>by simp[tF] at h
 |_::_,[],v,h=>by simp[tF] at h
 |(t,k)::r,x::L,v,h=>by
  simp only[tF] at h;split at h;rename_i Q;cases h;simp at Q;subst Q;exact⟨0,k,rfl,rfl⟩;obtain⟨q,P,N,M⟩:=ac3 h;exact⟨q+1,P,by simpa using N,by simpa using M⟩
def ac4{n:Nat}:∀{X:List (Nat×LK)}{R:am},Y X<=Y R->tF n X R=Z->X.any (·.1==n)=E
 |[],R,_,h=>rfl
 |_::_,[],Q,h=>by simp at Q
 |(t,k)::r,x::N,Q,h=>by
  simp only[tF] at h;split at h;cases h;rename_i P;simp only[List.any_cons,tc];exact⟨by simpa using P,ac4 (by simpa using Q) h⟩
def ac5{b n:Nat}:∀{R:List (Nat×Nat×LK)}{X:am}{v:C},yk b n R X=U v->∃(q:Nat)(k:LK),R[q]?=U (b,n,k)/\X[q]?=U v
 |[],X,v,h=>by simp[yk] at h
 |_::_,[],v,h=>by simp[yk] at h
 |(L,t,k)::r,x::H,v,h=>by
  simp only[yk] at h;split at h;rename_i Q;cases h;simp at Q;obtain⟨rfl,rfl⟩:=Q;exact⟨0,k,rfl,rfl⟩;obtain⟨q,P,N,M⟩:=ac5 h;exact⟨q+1,P,by simpa using N,by simpa using M⟩
def ac6{b n:Nat}:∀{X:List (Nat×Nat×LK)}{R:am},Y X<=Y R->yk b n X R=Z->X.any (λc=>c.1==b&&c.2.1==n)=E
 |[],R,_,h=>rfl
 |_::_,[],Q,h=>by simp at Q
 |(N,t,k)::r,x::M,Q,h=>by
  simp only[yk] at h;split at h;cases h;rename_i P;simp only[List.any_cons,tc];exact⟨by simpa using P,ac6 (by simpa using Q) h⟩
def ac7(X:eV)(R:ap)(Q:am):∀(l:am)(n i:Nat),(ym X R Q n l)[i]?=(l[i]?).map λx=>(tF (n+i) X.tm Q).getD (if R.contains (n+i) then .any else x)
 |[],n,i=>by simp[ym]
 |x::P,n,0=>by simp[ym]
 |x::P,n,i+1=>by
  simp only[ym,qH];rw[ac7 X R Q P (n+1) i,show n+1+i=n+(i+1) from aa]
def ac8(X:eV)(R:am)(b:Nat):∀(l:am)(n i:Nat),(D6 X R b n l)[i]?=(l[i]?).map λx=>(yk b (n+i) X.cl R).getD x
 |[],n,i=>by simp[D6]
 |x::Q,n,0=>by simp[D6]
 |x::Q,n,i+1=>by
  simp only[D6,qH];rw[ac8 X R b Q (n+1) i,show n+1+i=n+(i+1) from aa]
def KQ(R:eV)(Q:am):∀(l:bn)(n i:Nat),bM (rQ R Q n l) i=(bM l i).map λx=>(x.1,D6 R Q (n+i) 0 x.2)
 |[],n,i=>by simp[rQ,cj]
 |Z::X,n,0=>by simp[rQ,cj]
 |U (t,P)::X,n,0=>by simp[rQ,cj]
 |Z::X,n,i+1=>by
  have:=KQ R Q X (n+1) i;rw[show n+1+i=n+(i+1) from aa] at this;simpa[rQ,cj] using this
 |U (t,P)::X,n,i+1=>by
  have:=KQ R Q X (n+1) i;rw[show n+1+i=n+(i+1) from aa] at this;simpa[rQ,cj] using this
def O8(X:eV)(R:am):∀(l:bn)(n:Nat),(rQ X R n l).length=Y l
 |[],n=>rfl
 |Z::Q,n=>by simp[rQ,O8 X R Q]
 |U (t,P)::Q,n=>by simp[rQ,O8 X R Q]
def ac9(X:eV)(R:ap)(Q:am):∀(l:am)(n:Nat),(ym X R Q n l).length=Y l
 |[],n=>rfl
 |x::P,n=>by simp[ym,ac9 X R Q P]
def Vl{N:eV}{M:ap}:∀{l R:am}{n:Nat},wj N M n l R=J->Y l=Y R/\∀(i:Nat)(x y:C),l[i]?=U x->R[i]?=U y->N.tm.any (·.1==n+i)=J\/M.contains (n+i)=J\/x=y
 |[],[],n,_=>⟨rfl,λi x y h _=>by simp at h⟩
 |[],_::_,n,h=>by simp[wj] at h
 |_::_,[],n,h=>by simp[wj] at h
 |x::B,y::A,n,h=>by
  simp only[wj,aw,iD] at h;obtain⟨L,H⟩:=Vl h.2;refine⟨by simp[L],λi G F Q P=> ?_⟩;cases i with
  |zero=>
   simp only[xR,cg] at Q P;subst Q P;rcases h.1 with(X|X)|X;exact .inl X;exact .inr (.inl X);exact .inr (.inr (C.bD _ _ X))
  |succ i=>
   have:=H i G F (by simpa using Q) (by simpa using P);rw[show n+(i+1)=n+1+i from aa];exact this
def ada{N:eV}{b:Nat}:∀{l X:am}{n:Nat},D7 N b n l X=J->Y l=Y X/\∀(i:Nat)(x y:C),l[i]?=U x->X[i]?=U y->N.cl.any (λc=>c.1==b&&c.2.1==n+i)=J\/x=y
 |[],[],n,_=>⟨rfl,λi x y h _=>by simp at h⟩
 |[],_::_,n,h=>by simp[D7] at h
 |_::_,[],n,h=>by simp[D7] at h
 |x::F,y::B,n,h=>by
  simp only[D7,aw,iD] at h;obtain⟨M,L⟩:=ada h.2;refine⟨by simp[M],λi H G R Q=> ?_⟩;cases i with
  |zero=>
   simp only[xR,cg] at R Q;subst R Q;rcases h.1 with P|P;exact .inl P;exact .inr (C.bD _ _ P)
  |succ i=>
   have:=L i H G (by simpa using R) (by simpa using Q);rw[show n+(i+1)=n+1+i from aa];exact this
def Vm{G:eV}:∀{l M:bn}{n:Nat},qQ G n l M=J->∀(i:Nat)(t:TypeId)(R:am),bM l i=U (t,R)->∃Q,bM M i=U (t,Q)/\D7 G (n+i) 0 R Q=J
 |[],M,n,_,i,t,R,h=>by simp[cj] at h
 |Z::P,[],n,X,i,t,R,h=>by simp[qQ] at X
 |Z::P,y::N,n,X,0,t,R,h=>by simp[cj] at h
 |Z::P,y::N,n,X,i+1,t,R,h=>by
  simp only[qQ] at X;obtain⟨Q,L,H⟩:=Vm X i t R (by simpa[cj] using h);exact⟨Q,by simpa[cj] using L,by rw[show n+(i+1)=n+1+i from aa];exact H⟩
 |U x::P,[],n,X,i,t,R,h=>by simp[qQ] at X
 |U x::P,Z::N,n,X,i,t,R,h=>by simp[qQ] at X
 |U x::P,U y::N,n,X,0,t,R,h=>by
  simp only[qQ,aw,di] at X;simp only[cj,xR,cg] at h⊢;subst h;exact⟨y.2,by rw[show(t:TypeId)=y.1 from X.1.1],X.1.2⟩
 |U x::P,U y::N,n,X,i+1,t,R,h=>by
  simp only[qQ,aw] at X;obtain⟨Q,L,H⟩:=Vm X.2 i t R (by simpa[cj] using h);exact⟨Q,by simpa[cj] using L,by rw[show n+(i+1)=n+1+i from aa];exact H⟩
def adb{R:eV}{n:Nat}{k:LK}(Q:R.tm[X]?=U (n,k)):R.ks[X]?=U k:=by
 have P:X<Y R.tm:=(bJ.1 Q).1;unfold eV.ks;rw[dF (by simpa using P),dM,Q];rfl
def adc{Q:eV}{n:Nat}{k:LK}(P:Q.tm[X]?=U (n,k))(N:R.tmps[n]?=U r):(jI Q R)[X]?=U r:=by
 have M:X<Y Q.tm:=(bJ.1 P).1;unfold jI;rw[dF (by simpa using M),dM,P];simp[N]
def AC{k:Nat}(h:k<X):ad (t.take X) k=ad t k:=by simp[ad,h]
def ano(X:eV)(s:S):(iA X s).length=Y s.rs:=yB _ _ _
def ade:∀{l R:aY},wi l R=J->∀(k:Nat)(e:RK),l[k]?=U e->∃Q,R[k]?=U Q/\(e=.ao\/Q=e)
 |[],R,_,k,e,h=>by simp at h
 |x::P,[],h,_,_,_=>by simp[wi] at h
 |x::P,y::N,h,0,e,X=>by
  simp only[wi,aw,iD,bZ] at h;simp at X;subst X;exact⟨y,rfl,h.1.imp id Eq.symm⟩
 |x::P,y::N,h,k+1,e,X=>by
  simp only[wi,aw] at h;exact ade h.2 k e (by simpa using X)
def O9:∀{R:aI}{X:am}{q:Nat}{e:TypeId}{k:Nat},R[q]?=U (.ah (.own e))->X[q]?=U (.ah (.v k))->k∈Ah R X
 |[],X,q,e,k,h,_=>by simp at h
 |_::_,[],q,e,k,_,h=>by simp at h
 |N::R,v::X,0,e,k,Q,P=>by simp at Q P;subst Q P;simp[Ah,Oa]
 |N::R,v::X,q+1,e,k,Q,P=>by
  simp only[Ah,eC];right;exact O9 (q:=q) (by simpa using Q) (by simpa using P)
def Pa:∀{a b:ap},lY (a++b)=J->lY b=J/\∀x∈a,x∉b
 |[],b,h=>⟨h,au⟩
 |x::a,b,h=>by
  simp only[gA,lY,aw] at h;obtain⟨R,Q⟩:=Pa h.2;refine⟨R,λy X=> ?_⟩;rcases dJ.1 X with rfl|X;intro P;have:=h.1;simp[P] at this;exact Q y X
def adf:∀{N:aI}{R:am}{q Q:Nat}{e M:TypeId}{k X:Nat},lY (Ah N R)=J->N[q]?=U (.ah (.own e))->R[q]?=U (.ah (.v k))->N[Q]?=U (.ah (.own M))->R[Q]?=U (.ah (.v X))->q≠Q->k≠X
 |[],R,q,Q,e,M,k,X,_,h,_,_,_,_=>by simp at h
 |_::_,[],q,Q,e,M,k,X,_,_,h,_,_,_=>by simp at h
 |B::N,v::R,0,0,e,M,k,X,_,_,_,_,_,h=>bp rfl h
 |B::N,v::R,0,Q+1,e,M,k,X,P,L,H,G,F,_=>by
  simp at L H;subst L H;simp only[Ah] at P;have:=(Pa P).2 k (by simp[Oa]);intro A;subst A;exact this (O9 (q:=Q) (by simpa using G) (by simpa using F))
 |B::N,v::R,q+1,0,e,M,k,X,P,L,H,G,F,_=>by
  simp at G F;subst G F;simp only[Ah] at P;have:=(Pa P).2 X (by simp[Oa]);intro A;subst A;exact this (O9 (q:=q) (by simpa using L) (by simpa using H))
 |B::N,v::R,q+1,Q+1,e,M,k,X,P,L,H,G,F,z=>by
  simp only[Ah] at P;exact adf (Pa P).1 (by simpa using L) (by simpa using H) (by simpa using G) (by simpa using F) aa
def ax.head{ty:Ty}{P:eV}{n:ap}{a1:Act}{W1:World}(br:s.bd=J)(ei:Y O.i=s.ni)(eb:Y O.b=s.nb)(er:Y O.r=Y s.rs)
  (f:bj s O V R x n)(R1:ax d m D ty n x R a1 W1)(hT:wj P t 0 s.tmps R.tmps=J)(hB:qQ P 0 s.ak R.ak=J)(hf:qR R P.ks (jI P R)=J)
  (hR:wi (iA P s) R.rs=J)(hO:D5 (iA P s) (D4 P R)=J)(b8:R.pd=s.pd):
  ax d m D ty (n.take (Y s.ak)) (O.ext ((jI P R).map (C.xv x))) (pl P t s) a1 W1:=by
 obtain⟨ca,cc⟩:C.dA (Y O.i) (Y O.b) (Y O.r) (aF s.ak) s.tmps=J/\C.pj (Y O.i) (Y O.b) (Y O.r) (aF s.ak) s.ak=true:=by
  simp only[S.bd,aw] at br;rw[ei,eb,er];exact br
 have a0:=Vk (O1:=x) hf;have a3:Y O.r=(iA P s).length:=by rw[ano];exact er
 obtain⟨cD,bb⟩:=ac1 hf;generalize bg:(jI P R).map (C.xv x)=o at*;obtain⟨e1,e2,e3,e4⟩:=u5 P.ks {s with av:=s.av+1,rs:=iA P s};obtain⟨l1,l2,l3⟩:=wF P.ks o {s with av:=s.av+1,rs:=iA P s} O a0 ei eb a3;have bs:=Ay s.ak O o V;have ch:=O6 (V:=n.take (Y s.ak)) P.ks o {s with av:=s.av+1,rs:=iA P s} O a0 ei eb a3;have bt:=ac2 P.ks {s with av:=s.av+1,rs:=iA P s};have bx:Y P.ks=Y P.tm+Y P.cl:=by simp[eV.ks]
 have a4:∀i,aF (rQ P (((({s with av:=s.av+1,rs:=iA P s}:S).b9 P.ks).1).drop (Y P.tm)) 0 s.ak) i=J->aF s.ak i=J/\i<Y s.ak:=by
  intro i hi;unfold aF at hi;rw[KQ] at hi;have:(bM s.ak i).isSome=true:=by simpa using hi
  obtain⟨b,H⟩:=jw.1 this;exact⟨this,(bJ.1 (jl.1 H)).1⟩
 have cn:∀v:C,v.bd (Y O.i) (Y O.b) (Y O.r) (aF s.ak)=J->v.ab (O.ext o) (n.take (Y s.ak))=v.ab x n:=by
  intro v hv;rw[f.ext.ab hv];refine C.dS bs.agree (λk hk=> ?_) v hv;have a9:k<Y s.ak:=by
   obtain⟨b,H⟩:=jw.1 hk;exact(bJ.1 (jl.1 H)).1
  rw[AC a9];exact f.ext.ad k hk
 have co:∀(q:Nat)(k:LK)(v w:C),P.ks[q]?=U k->(jI P R)[q]?=U w->(({s with av:=s.av+1,rs:=iA P s}:S).b9 P.ks).1[q]?=U v->v.ab (O.ext o) (n.take (Y s.ak))=w.ab x n/\v≠ .any:=by
  intro q k v w hk hw hv;have hx:o[q]?=U (w.xv x):=by rw[<-bg];simp[hw]
  obtain⟨N,M⟩:=ch q k _ v hk hx hv;exact⟨N.trans (ac0 (V1:=n) (bb q k w hk hw)).1,M⟩
 have cp:∀v:C,v.bd (Y O.i) (Y O.b) (Y O.r) (aF s.ak)=J->v.gc (O.ext o) (n.take (Y s.ak))=v.gc x n:=by
  intro v hv;rw[Uj f.ext.agree f.ext.ad v hv];refine Uj bs.agree (λk hk=> ?_) v hv;have a9:k<Y s.ak:=by
   obtain⟨b,H⟩:=jw.1 hk;exact(bJ.1 (jl.1 H)).1
  rw[AC a9];exact f.ext.ad k hk
 have ct:∀(q:Nat)(k:LK)(v w:C),P.ks[q]?=U k->(jI P R)[q]?=U w->(({s with av:=s.av+1,rs:=iA P s}:S).b9 P.ks).1[q]?=U v->v.gc (O.ext o) (n.take (Y s.ak))=w.gc x n:=by
  intro q k v w hk hw hv;have hx:o[q]?=U (w.xv x):=by rw[<-bg];simp[hw]
  rw[O7 (V:=n.take (Y s.ak)) P.ks o {s with av:=s.av+1,rs:=iA P s} O a0 ei eb a3 q k _ v hk hx hv];exact ann (bb q k w hk hw)
 have b0:∀(k:Nat)(e:RK)(G:RV),(iA P s)[k]?=U e->O.r[k]?=U G->∃e1,R.rs[k]?=U e1/\x.r[k]?=U G/\(e=.ao\/e1=e):=by
  intro k e G N M;have hk:k<Y O.r:=(bJ.1 M).1;have cv:k<Y x.r:=Tn hk f.ext.lr;have cx:x.r[k]?=U G:=by
   have:=f.ext.agree.r k hk;simp only[ai.rv,cw,M,nl] at this;rw[ce cv] at this⊢;simpa using this
  obtain⟨L,h3,h4⟩:=ade hR k e N;exact⟨L,h3,cx,h4⟩
 have b1:∀(q:Nat)(e:RK)(G:RV),P.ks[q]?=U (.ah e)->o[q]?=U (.r G)->(∃A:Nat,(jI P R)[q]?=U (.ah (.v A))/\R.rs[A]?=U e/\x.r[A]?=U G)\/(G=.mk (.slice Z 0 0) []/\∃X sh,e=.sl X\/e=.own X\/e=.mr sh):=by
  intro q e G N M;rw[<-bg,dM] at M;cases hw:(jI P R)[q]? with
  |none=>rw[hw] at M;cases M
  |some w=>
   rw[hw] at M;simp only[dQ,cg] at M;have bc:=bb q _ w N hw;unfold Ai at bc;split at bc;rename_i ag;cases ag;rename_i ag;cases ag;rename_i L k ag;cases ag;simp only[C.xv,XV.r.injEq] at M;have b2:R.rs[k]?=U e:=by simpa using bc
   refine .inl ⟨k,rfl,b2, ?_⟩;rw[<-M];exact sa R1 b2;rename_i L ag;cases ag;simp only[C.xv,XV.r.injEq,RE.rv] at M;exact .inr ⟨M.symm,_,⟨0,0,0,E,E⟩,.inl rfl⟩;rename_i L ag;cases ag;simp only[C.xv,XV.r.injEq,RE.rv] at M;exact .inr ⟨M.symm,_,⟨0,0,0,E,E⟩,.inr (.inl rfl)⟩;rename_i L ag;cases ag;simp only[C.xv,XV.r.injEq,RE.rv] at M;exact .inr ⟨M.symm,0,_,.inr (.inr rfl)⟩;cases bc
 simp only[D5,aw] at hO;obtain⟨cy,cA⟩:=hO;have b3:∀(q:Nat)(e:TypeId)(A:Nat),P.ks[q]?=U (.ah (.own e))->(jI P R)[q]?=U (.ah (.v A))->∀L,(iA P s)[A]?=U L->L=.ao:=by
  intro q e A N M L h3;have:=eO.1 cA A (O9 N M);simp only[iD,bZ] at this;rcases this with h4|h4;have:=(bJ.1 h3).1;omega;rw[h4] at h3;cases h3;rfl
 refine⟨⟨R1.mem.base, ?_, ?_, ?_, ?_⟩, ?_,l1,l2,l3, ?_, ?_, ?_, ?_⟩;intro i hi;obtain⟨N,M⟩:=a4 i hi;rw[AC M];exact R1.mem.own i (f.mono i N);intro i j hi hj;obtain⟨N,M⟩:=a4 i hi;obtain⟨h3,h4⟩:=a4 j hj;rw[AC M,AC h4];exact R1.mem.inj i j (f.mono i N) (f.mono j h3);intro i X cs h;simp only[pl] at h;rw[KQ,gV] at h;cases H:bM s.ak i with
 |none=>rw[H] at h;cases h
 |some Q=>
  obtain⟨t0,jM⟩:=Q;rw[H] at h;simp only[dQ,cg,BH] at h;obtain⟨rfl,rfl⟩:=h;obtain⟨bf,b4,b5⟩:=Vm hB i t0 jM H;rw[gV] at b5;obtain⟨cB,bk⟩:=ada b5;have a9:i<Y s.ak:=(bJ.1 (jl.1 H)).1;rw[AC a9,R1.mem.box i t0 bf b4];congr 2;apply jV;intro j;rw[C.dw,C.dw,dM,dM,ac8,gV];cases hx:jM[j]? with
  |none=>
   have:bf[j]?=none:=by
    rw[zT] at hx⊢;omega
   simp[this]
  |some Q=>
   obtain⟨y,hy⟩:∃y,bf[j]?=U y:=by
    have:j<Y jM:=(bJ.1 hx).1;exact⟨bf[j],ce aa⟩
   rw[hy];simp only[dQ,cg];cases hp:yk i j P.cl ((({s with av:=s.av+1,rs:=iA P s}:S).b9 P.ks).1.drop (Y P.tm)) with
   |some v=>
    obtain⟨q,k,hq,hv⟩:=ac5 hp;rw[rJ] at hv;simp only[nl];refine(ct (Y P.tm+q) k v y ?_ ?_ hv).symm;simp[eV.ks,gK,hq];simp[jI,gK,hq,aaZ,b4,hy]
   |none=>
    have hn:=ac6 (by rw[DD,bt,bx];omega) hp;rcases bk j Q y hx hy with N|N;rw[gV] at N;rw[hn] at N;cases N;subst N;simp only[aaC];exact(cp Q (tJ (qX cc H) hx)).symm
 have bl:=Ez (PP:=λe G=>bu W1 ty e G/\∀b,dL ty e G b->∀i,aF s.ak i=J->ad n i≠b) P.ks o {s with av:=s.av+1,rs:=iA P s} O a0 a3 ?_ ?_;intro k e G N M;obtain⟨h3,h4⟩:=bl k e G N M;refine⟨h3,λb H i hi=> ?_⟩;obtain⟨h5,h6⟩:=a4 i hi;rw[AC h6];exact h4 b H i h5
 
 intro q e G N M;rcases b1 q e G N M with⟨A,_,g2,F⟩|⟨rfl,X,sh,g⟩;have:=R1.mem.ah A e G g2 F;exact⟨this.1,λb H i hi=>this.2 b H i (f.mono i hi)⟩;have hn:∀b,¬dL ty (.sl X) (.mk (.slice Z 0 0) []) b:=λb H=>by
  cases H with
  |deep e v b6 i j al c z k b g1=>simp at g1
 rcases g with rfl|rfl|rfl;exact⟨AB Z 0,λb H=>(hn b H).elim⟩;refine⟨bu.own X _ (AB Z 0) (λl c h=>by cases h;rfl),λb H=> ?_⟩;cases H with
 |own e G b H=>exact(hn b H).elim
 exact⟨bu.mr sh [] (λi al h=>by simp at h) (λi j al c k h=>by simp at h) (λi j al c h=>by simp at h) (λi j al c z k h=>by simp at h),λb H=>by cases H⟩;intro k e G N M;obtain⟨e1,g1,g2,F⟩:=b0 k e G N M;have:=R1.mem.ah k e1 G g1 g2;rcases F with rfl|rfl;exact⟨bu.ao _ (GP this.1),λb H=>by cases H⟩;exact⟨this.1,λb H i hi=>this.2 b H i (f.mono i hi)⟩;simp[pl,O8];have:=f.len;rw[R1.fM];omega;have N:=R1.cQ;rw[b8,f.ext.agree.y,<-Hf o O] at N;simp only[pl];rw[Vh];exact N;simp only[pl,ac9];rw[R1.size,(Vl hT).1];intro X sv h;simp only[pl] at h;rw[ac7,gV] at h;cases hx:s.tmps[X]? with
 |none=>rw[hx] at h;cases h
 |some Q=>
  rw[hx] at h;simp only[dQ,cg] at h;obtain⟨cB,bk⟩:=Vl hT;obtain⟨y,hy⟩:∃y,R.tmps[X]?=U y:=by
   have:X<Y s.tmps:=(bJ.1 hx).1;exact⟨R.tmps[X],ce aa⟩
  cases hp:tF X P.tm ((({s with av:=s.av+1,rs:=iA P s}:S).b9 P.ks).1) with
  |some v=>
   rw[hp] at h;simp only[nl] at h;subst h;obtain⟨q,k,hq,hv⟩:=ac3 hp;have hc:=(co q k v y (adb hq) (adc hq hy) hv);rcases R1.tmps X y hy with N|N;subst N;have:=bb q k .any (adb hq) (adc hq hy);rcases k with _|_|(_|_|_|_|_)<;>simp[Ai] at this;right;rw[hc.1];exact N
  |none=>
   rw[hp] at h;simp only[aaC] at h;split at h;exact .inl h.symm;rename_i cC;subst h;have hn:=ac4 (by rw[bt,bx];omega) hp;rcases bk X Q y hx hy with N|N|N;rw[gV] at N;rw[hn] at N;cases N;rw[gV] at N;exact bp N cC;subst N;rcases R1.tmps X Q hy with M|M;exact .inl M;right;rw[cn Q (tJ ca hx)];exact M
 intro k e G b N M h3;simp only[pl] at N;have bl:∃A:Nat,R.rs[A]?=U (RK.own e)/\x.r[A]?=U G/\∀(B:Nat)(L:RK)(u:RV),B≠k->(pl P t s).rs[B]?=U L->(O.ext o).r[B]?=U u->wq ty L u b->∃af:Nat,af≠A/\R.rs[af]?=U L/\x.r[af]?=U u:=by
  have other:∀(B:Nat)(L:RK)(u:RV),(pl P t s).rs[B]?=U L->(O.ext o).r[B]?=U u->wq ty L u b->
    ((iA P s)[B]?=U L/\R.rs[B]?=U L/\x.r[B]?=U u)\/∃q af:Nat,P.ks[q]?=U (.ah L)/\(jI P R)[q]?=U (.ah (.v af))/\R.rs[af]?=U L/\x.r[af]?=U u/\B=(iA P s).length+Ce (P.ks.take q):=by
   intro B L u g1 g2 F;rcases Hg P.ks o {s with av:=s.av+1,rs:=iA P s} O a0 a3 B L u g1 g2 with⟨p1,p2⟩|⟨q,p1,p2,p3⟩;obtain⟨e1,q1,q2,q3⟩:=b0 B L u p1 p2;rcases q3 with rfl|rfl;rcases F with F|⟨⟨X,ht⟩,_⟩;cases F;cases ht;exact .inl ⟨p1,q1,q2⟩;rcases b1 q L u p1 p2 with⟨A,q1,q2,q3⟩|⟨rfl,X,sh,q⟩;exact .inr ⟨q,A,p1,q1,q2,q3,p3⟩;exfalso;rcases F with F|⟨_,F⟩;rcases q with rfl|rfl|rfl;cases F with
   |deep e v b6 i j al c z k b g1=>simp at g1
   cases F with
   |own e G b F=>cases F with
    |deep e v b6 i j al c z k b g1=>simp at g1
   cases F;simp[RV.jY] at F
  rcases other k (.own e) G N M (.inr ⟨⟨e,rfl⟩,h3⟩) with⟨p1,p2,p3⟩|⟨q,A,p1,p2,p3,p4,p5⟩;refine⟨k,p2,p3,λB L u g0 g1 g2 F=> ?_⟩;rcases other B L u g1 g2 F with⟨r1,r2,r3⟩|⟨q',af,r1,r2,r3,r4,r5⟩;exact⟨B,g0,r2,r3⟩;refine⟨af,λba=> ?_,r3,r4⟩;subst ba;rw[p2] at r3;cases r3;have:=b3 q' e af r1 r2 _ p1;cases this;refine⟨A,p3,p4,λB L u g0 g1 g2 F=> ?_⟩;rcases other B L u g1 g2 F with⟨r1,r2,r3⟩|⟨q',af,r1,r2,r3,r4,r5⟩;refine⟨B,λba=> ?_,r2,r3⟩;subst ba;rw[p3] at r2;cases r2;have:=b3 q e B p1 p2 _ r1;cases this;refine⟨af,λba=> ?_,r3,r4⟩;subst ba;rw[p3] at r3;cases r3;by_cases b7:q=q';subst b7;exact g0 (by rw[r5,p5]);exact adf cy p1 p2 r1 r2 b7 rfl
 obtain⟨A,g1,g2,F⟩:=bl;have X:=R1.fz A e G b g1 g2 h3;refine⟨X.own,X.mem,λi hi=> ?_,λB L u q1 q2 q3 q4=> ?_,X.inner⟩;obtain⟨h5,h6⟩:=a4 i hi;rw[AC h6];exact X.box i (f.mono i h5);obtain⟨af,r1,r2,r3⟩:=F B L u q1 q2 q3 q4;exact X.alone af L u r1 r2 r3 q4
end
structure iB(p:Sp)(f:bi):Prop where
 pt:p.ty=f.ty
 Pb:p.P.follows .mixedOrders=J
 jB:ip p.P f.ty
 uQ:He p.P f
 wG:∀g,(f.sig g).isSome=J\/(f.inl g).isSome=J->∀args W,(callFunc g args).run p.P W=.ok (.enter g args) W
 Pc:∀ch W b o,p.w0.heap.size<=b->p.R (.panicked ch) W->p.R (.panicked ch) (W.putObj b o)
 inl:∀g c nt rs,f.inl g=U (c,nt,rs)->∃fn,p.P.funcs[g]?=U fn/\fn.body=U c/\fn.ntmps=nt/\fn.results.toList=rs
section
variable{p:Sp}{f:bi}
def ax.adg{m:World}{D:bI}{V:ap}{a:Act}{W:World}(Q:ax t m D f.ty V x R a W){P:BE}(M:R.tmps.getD X .any=.bool P)(H:P.ab x=b):
  ax t m D f.ty V x {R with tmps:=R.tmps.set X (.bool (.c b))} a W:=by
 refine⟨Q.mem,Q.fM,Q.ei,Q.eb,Q.er,Q.cQ,by simpa using Q.size,λi G h=> ?_,Q.fz⟩;simp only[td] at h;split at h;rename_i F;subst F;split at h;rename_i L;cases h;have B:R.tmps[X]?=U (.bool P):=by
  rw[cw,ce L] at M;rw[ce L];simpa using M
 rcases Q.tmps X _ B with N|N;cases N;right;rw[N];simp[C.ab,BE.ab,H];cases h;exact Q.tmps i G h
end
mutual
def K.dY{R Q P N M H:Nat}(X:R<=N)(W:Q<=M)(V:P<=H):∀(e:K),e.bd R Q P=J->e.bd N M H=J
 |.c n,_=>K.aQ.1 _
 |.v k,h=>by simp[K.aQ] at h⊢;omega
 |.bin o k a b,h=>by simp[K.aQ] at h⊢;exact⟨K.dY X W V a h.1,K.dY X W V b h.2⟩
 |.conv k a,h=>by simp[K.aQ] at h⊢;exact K.dY X W V a h
 |.len r,h=>by simp[K.aQ] at h⊢;exact RE.dY X W V r h
 |.mm m a b,h=>by simp[K.aQ] at h⊢;exact⟨K.dY X W V a h.1,K.dY X W V b h.2⟩
 |.dv b x y,h=>by simp[K.aQ] at h⊢;exact⟨⟨BE.dY X W V b h.1.1,K.dY X W V x h.1.2⟩,K.dY X W V y h.2⟩
 |.cell r i j,h=>by simp[K.aQ] at h⊢;exact⟨RE.dY X W V r h.1,K.dY X W V i h.2⟩
 |.mV r i,h=>by simp[K.aQ] at h⊢;exact⟨RE.dY X W V r h.1,K.dY X W V i h.2⟩
 |.look r n a b c j,h=>by simp[K.aQ] at h⊢;exact⟨⟨⟨RE.dY X W V r h.1.1.1,K.dY X W V a h.1.1.2⟩,K.dY X W V b h.1.2⟩,K.dY X W V c h.2⟩
def BE.dY{R Q P N M H:Nat}(X:R<=N)(W:Q<=M)(V:P<=H):∀(e:BE),e.bd R Q P=J->e.bd N M H=J
 |.c n,_=>BE.aQ.1 _
 |.v k,h=>by simp[BE.aQ] at h⊢;omega
 |.cmp o a b,h=>by simp[BE.aQ] at h⊢;exact⟨K.dY X W V a h.1,K.dY X W V b h.2⟩
 |.not a,h=>by simp[BE.aQ] at h⊢;exact BE.dY X W V a h
 |.and a b,h=>by simp[BE.aQ] at h⊢;exact⟨BE.dY X W V a h.1,BE.dY X W V b h.2⟩
 |.beq a b,h=>by simp[BE.aQ] at h⊢;exact⟨BE.dY X W V a h.1,BE.dY X W V b h.2⟩
 |.dv b x y,h=>by simp[BE.aQ] at h⊢;exact⟨⟨BE.dY X W V b h.1.1,BE.dY X W V x h.1.2⟩,BE.dY X W V y h.2⟩
 |.cell r i j,h=>by simp[BE.aQ] at h⊢;exact⟨RE.dY X W V r h.1,K.dY X W V i h.2⟩
 |.seq a b,h=>by simp[BE.aQ] at h⊢;exact⟨RE.dY X W V a h.1,RE.dY X W V b h.2⟩
 |.look r n a b c j,h=>by simp[BE.aQ] at h⊢;exact⟨⟨⟨RE.dY X W V r h.1.1.1,K.dY X W V a h.1.1.2⟩,K.dY X W V b h.1.2⟩,K.dY X W V c h.2⟩
 |.has r n a b c,h=>by simp[BE.aQ] at h⊢;exact⟨⟨⟨RE.dY X W V r h.1.1.1,K.dY X W V a h.1.1.2⟩,K.dY X W V b h.1.2⟩,K.dY X W V c h.2⟩
def RE.dY{X W V R Q P:Nat}(N:X<=R)(M:W<=Q)(H:V<=P):∀(e:RE),e.bd X W V=J->e.bd R Q P=J
 |.v k,h=>by simp[RE.aQ] at h⊢;omega
 |.cell r i j k,h=>by simp[RE.aQ] at h⊢;exact⟨RE.dY N M H r h.1,K.dY N M H i h.2⟩
 |.k v,_=>RE.aQ.2.2 _
end
def Pd{ty:Ty}{s Q:S}:∀{r:RE}{e:RK},(∀(k:Nat)(e:RK),r.root=U k->s.rs[k]?=U e->∃X,Q.rs[k]?=U X/\X.rd=e.rd)->e≠ .ac->r.kind ty s=e->r.kind ty Q=e
 |.v k,e,W,V,h=>by
  simp only[RE.kind,cw] at h⊢;cases R:s.rs[k]? with
  |none=>rw[R] at h;exact bp (show e=.ac from h.symm) V
  |some q=>
   rw[R] at h;obtain⟨X,P,N⟩:=W k q rfl R;rw[P];simp only[nl] at h⊢;rw[N];exact h
 |.cell r i j H,e,W,V,h=>by
  simp only[RE.kind] at h⊢;split at h;rename_i X M;rw[Pd (r:=r) W au M];exact h;exact bp h.symm V
 |.k v,e,W,V,h=>by cases v<;>exact h
def u6{ty:Ty}{s s':S}(h:s.rs=s'.rs):∀r:RE,r.kind ty s=r.kind ty s'
 |.v k=>by simp only[RE.kind,h]
 |.cell r i j k=>by simp only[RE.kind,u6 h r]
 |.k v=>by cases v<;>rfl
def yI(ty:Ty)(s X:S):Prop:=∀(r:RE)(e:RK),e≠ .ac->r.kind ty s=e->r.kind ty X=e
def yI.wH{ty:Ty}{X:S}(h:X.rs=R.rs):yI ty R X:=λr e _ W=>by rw[u6 h];exact W
def anp{ty:Ty}{X:S}(W:yI ty R X){c:CT}{y:C}{e:BE}(h:Gg ty R c r y=U e):Gg ty X c r y=U e:=by
 unfold Gg at h⊢;split at h;exact h;exact h;split at h;rename_i V;rw[aE ⟨W _ _ au V.1,W _ _ au V.2⟩];exact h;cases h;cases h
def adh{ty:Ty}{s W:S}(V:yI ty s W):∀{X:eG}{x y:am}{e:BE},pR ty s X x y=U e->pR ty W X x y=U e
 |[],[],[],e,h=>h
 |c::X,x::P,y::N,e,h=>by
  simp only[pR] at h⊢;split at h;rename_i a b R Q;rw[anp V R,adh V Q];exact h;cases h
 |[],[],_::_,e,h=>by simp[pR] at h
 |[],_::_,_,e,h=>by simp[pR] at h
 |_::_,[],_,e,h=>by simp[pR] at h
 |_::_,_::_,[],e,h=>by simp[pR] at h
def adi{ty:Ty}{W:S}(Q:yI ty R W){V:BM}{y:am}{X:BE}(h:Gh ty R V e y=U X):Gh ty W V e y=U X:=by
 unfold Gh at h⊢;split at h;exact adh Q h;cases h
section
variable{ty:Ty}{F:lW}{O:ai}
def Pe{P:S}{G:Op}{r:PR}(W:∀x∈G.operands.toList,P.ev F x=R.ev F x)(H:looks G=J->yo G=E->yI ty R P)
  (an:∀t x r w i z,G=.load t x->R.ev F x=.el r w i z->∀e,e≠ .ac->r.kind ty R=e->r.kind ty P=e)
  (o:∀i,ya F R G=U i->bM P.ak i=bM R.ak i)(h:bT ty F R G=r)(V:∀w,r≠ .no w):bT ty F P G=r:=by
 cases G with
 |move x=>have X:=W x bS;simp only[bT] at h⊢;rw[X];exact h
 |assign x=>have X:=W x bS;simp only[bT] at h⊢;rw[X];exact h
 |pick c x y=>
  have X:=W c bS;have N:=W x bS;have l:=W y bS;simp only[bT] at h⊢;rw[X,N,l];exact h
 |load t x=>
  have X:=W x bS;simp only[bT] at h⊢;rw[X];split at h;rename_i ti i z D Q;rw[Kk (o i (by simp only[ya,Q]))];exact h;rename_i ti r w i z D Q;split at h;rename_i e M;rw[an t x r w i z rfl Q _ au M];exact h;exact bp h.symm (V _);rename_i ti e ks j D Q;have B:((wa j).bind λi=>kK P.ak i)=(wa j).bind λi=>kK R.ak i:=by
   cases hl:wa j with
   |none=>rfl
   |some i=>exact Kk (o i (by simp only[ya,Q];exact hl))
  rw[B];exact h;exact bp h.symm (V _)
 |fieldAddr t x f=>have X:=W x bS;simp only[bT] at h⊢;rw[X];exact h
 |field t x f=>have X:=W x bS;simp only[bT] at h⊢;rw[X];exact h
 |indexAddr t x y=>
  have X:=W x bS;have N:=W y bS;simp only[bT] at h⊢;rw[X,N];split at h;exact h;exact h;exact h;split at h;rename_i D M;rw[(H rfl rfl) _ _ au M,D];exact h;exact bp h.symm (V _);exact h;exact h;exact bp h.symm (V _)
 |index t x y=>
  have X:=W x bS;have N:=W y bS;simp only[bT] at h⊢;rw[X,N];split at h;exact h;exact h;split at h;rename_i M;rw[(H rfl rfl) _ _ au M];exact h;exact bp h.symm (V _);exact bp h.symm (V _)
 |binOp G t x y t2=>
  have X:=W x bS;have N:=W y bS;simp only[bT] at h⊢;rw[X,N];split at h;exact h;exact h;exact h;split at h;rename_i v A;simp only[(H rfl rfl) _ _ au v,(H rfl rfl) _ _ au A];exact h;rename_i v A;simp only[(H rfl rfl) _ _ au v,(H rfl rfl) _ _ au A];exact h;exact bp h.symm (V _);exact h;exact h;split at h;rename_i e M;rw[adi (H rfl rfl) M];exact h;rename_i e M;rw[adi (H rfl rfl) M];exact h;exact bp h.symm (V _);exact bp h.symm (V _)
 |unOp G t x=>have X:=W x bS;simp only[bT] at h⊢;rw[X];exact h
 |convert t1 t2 x=>have X:=W x bS;simp only[bT] at h⊢;rw[X];exact h
 |makeInterface t x=>have X:=W x bS;simp only[bT] at h⊢;rw[X];exact h
 |makeFunc fn first af=>
  have X:af.toList.map (P.ev F)=af.toList.map (R.ev F):=jh λx Q=>W x (by simp[gu];exact .inr (by simpa using Q))
  have N:∀x,first.toList=[x]->P.ev F x=R.ev F x:=λx Q=>W x (by
   have:x∈first:=by rw[<-axh,Q];simp
   simp[gu];exact .inl this)
  simp only[bT] at h⊢;rw[X];rcases al:first.toList with _|⟨x,_|⟨y,r⟩⟩
  all_goals rw[al] at h
  all_goals cases fn<;>first|exact h|(simp only at h⊢;rw[N x al];exact h)
 |extract x i=>have X:=W x bS;simp only[bT] at h⊢;rw[X];exact h
 |nilCheck x=>have X:=W x bS;simp only[bT] at h⊢;rw[X];exact h
 |slice t x g hi mx=>
  have X:=W x bS;have N:g.map (P.ev F)=g.map (R.ev F):=by
   cases g with
   |none=>rfl
   |some y=>simp only[dQ];rw[W y bS]
  have l:hi.map (P.ev F)=hi.map (R.ev F):=by
   cases hi with
   |none=>rfl
   |some y=>simp only[dQ];rw[W y bS]
  simp only[bT] at h⊢;rw[X,N,l];split at h;exact h;rename_i e aj q r m D Q;rw[W m bS];split at h;split at h;rename_i hn;rw[aE hn];exact h;rename_i hn;rw[aJ hn];split at h;rename_i hk;rw[aE ((H rfl rfl) _ _ au hk)];exact h;exact bp h.symm (V _);exact bp h.symm (V _);exact bp h.symm (V _)
 |build t parts=>
  have X:(parts.toList.map λp=>(p.1,P.ev F p.2))=parts.toList.map λp=>(p.1,R.ev F p.2):=jh λp hp=>by rw[W p.2 (by simp[gu];exact⟨p.1,by simpa using hp⟩)]
  simp only[bT] at h⊢;rw[X];exact h
 |lookup t x ix ok=>
  have X:=W x bS;have N:=W ix bS;simp only[bT] at h⊢;rw[X,N];split at h;rename_i k e n ag aj q i D Q;have A:=o i (by simp only[ya,Q]);unfold NY at h⊢;rw[A];split at h;rename_i te a b c bt cs g1 g2 g3;split at h;exact bp h.symm (V _);rename_i a0;rw[aJ a0];split at h;rename_i hd;rw[aE hd];split at h;rename_i r nk ka va;split at h;rename_i u;have:r.nq ty P ⟨k,e,n,ag,te.d.isAgg⟩=true:=by
   simp only[aw] at u;have h6:=u.1.1.1.1.1;unfold RE.nq at h6⊢;rcases alp.1 h6 with h7|h7;rw[decide_eq_true ((H rfl rfl) r _ au (uJ h7))];rfl;rw[h7];simp
  simp only[aw] at u;simp only[this,u,xT,cH];exact h;exact bp h.symm (V _);exact bp h.symm (V _);rename_i hd;rw[aJ hd];exact h;exact bp h.symm (V _);exact bp h.symm (V _)
 |call c=>
  have X:c.args.toList.map (P.ev F)=c.args.toList.map (R.ev F):=jh λx Q=>W x (by simp[gu,xS];exact .inr (by simpa using Q))
  cases B:c.callee with
  |builtin b=>
   cases b with
   |len=>
    simp only[bT,B] at h⊢;rw[X];split at h;exact h;rename_i t r a1 v A;split at h;rename_i D M;simp only[(H rfl rfl) _ _ au M,D];exact h;rename_i D M;simp only[(H rfl rfl) _ _ au M,D];exact h;exact bp h.symm (V _);exact h;exact bp h.symm (V _)
   |min=>simp only[bT,B] at h⊢;rw[X];exact h
   |max=>simp only[bT,B] at h⊢;rw[X];exact h
   |_=>simp only[bT,B] at h;exact bp h.symm (V _)
  |value f=>simp only[bT,B] at h;exact bp h.symm (V _)
  |invoke r m=>simp only[bT,B] at h;exact bp h.symm (V _)
 |_=>simp only[bT] at h;exact bp h.symm (V _)
end
def PR.wI(s:S)(O:ai)(v:C):PR->Prop
 |.ok x=>v=x
 |.aN b x=>b.ab O=J/\b.bd s.ni s.nb (Y s.rs)=J/\v=x
 |_=>False
def Pf{X:PR}(h:X.wI R x r):X.gives x r:=by
 cases X with
 |ok W=>exact h
 |aN b W=>exact⟨h.1,h.2.2⟩
 |no w=>exact h
def gq(B:db)(m:OM)(s:S)(O:ai):Option Bool:=match m.o.guard with
 |none=>U J
 |U (j,X)=>match(B[j]?).bind (·.dst) with
  |U d=>match s.tmps[d]? with
   |U (.bool b)=>if b.bd s.ni s.nb (Y s.rs) then U (b.ab O==X) else Z
   |U (.bA [])=>U E
   |_=>Z
  |none=>Z
def QV(u:bi)(B:db)(O:ai)(m:OM)(s:S)(v:C)(l:Nat):Prop:=
 (gq B m s O=U E/\v=.bA []/\l=0)\/
 (gq B m s O=U J/\(∀x∈m.o.op.operands.toList,(s.ev u.gl x).ec=E)/\match m.o.op with
  |.pick c x y=>∃e:BE,s.ev u.gl c=.bool e/\e.bd s.ni s.nb (Y s.rs)=J/\v=(if e.ab O then s.ev u.gl x else s.ev u.gl y)/\l=0
  |.load t x=>(bT u.ty u.gl s (.load t x)).wI s O v/\l=JV m.bC (s.ev u.gl x)
  |op=>(bT u.ty u.gl s op).wI s O v/\l=0)
def OR.EA(s:S)(O:ai)(X:S):OR->Prop
 |.ok x=>X=x
 |.aN b x=>b.ab O=J/\b.bd s.ni s.nb (Y s.rs)=J/\X=x
 |.split b W V=>b.bd s.ni s.nb (Y s.rs)=J/\X=if b.ab O then W else V
 |.no _=>False
def gP(u:bi)(m:OM)(s:S)(O:ai)(X:S):Prop:=(fJ u m s).EA s O X
def Hj{u:bi}{m:OM}{s X:S}{O:ai}(h:gP u m s O X):(fJ u m s).gives O X:=by
 unfold gP at h;cases W:fJ u m s<;>rw[W] at h;exact h;exact⟨h.1,h.2.2⟩;exact h.2;exact h
def adj{Q:S}{d:bX}{r:PR}:(qP R d X r).EA R x Q<->∃v,r.wI R x v/\Q=R.de d v X:=by
 cases r with
 |ok v=>exact⟨λh=>⟨v,rfl,h⟩,λ⟨w,W,V⟩=>by cases W;exact V⟩
 |aN b v=>
  simp only[qP];split;rename_i P;exact⟨λh=>⟨v,⟨h.1,h.2.1,rfl⟩,h.2.2⟩,λ⟨w,⟨W,V,N⟩,M⟩=>⟨W,V,by rw[M,N]⟩⟩;rename_i P;exact⟨λh=>h.elim,λ⟨w,⟨W,V,N⟩,M⟩=>bp V P⟩
 |no w=>exact⟨λh=>h.elim,λ⟨w,W,V⟩=>W.elim⟩
def Hk(p:Sp)(u:bi)(s:S)(O:ai)(g:FuncId)(N:am)(X:ai->C->S->Prop):Prop:=
 ∃G Q l,u.sig g=U G/\gH u.ty G=U Q/\yc u.ty G ((s.cut N Q).b9 Q).1=U l/\(s.eD N&&oB Q)=J/\
  ∀V W,i8 p.S0 p.w0 V O (tC (pS (C.nN N) 0 s.ak)) p.ty (J2 N s.rs) W->Calls p.P g (C.ay O V N).toArray W λ
   |.returned v,M=>∃H,ee Q H/\v=(one l).ab (O.ext H) V/\Below W.heap.size W M/\GI p.ty M W.heap.size (O.oE p.ty (J2 N s.rs)) Q H/\X (O.ext H) (one l) ((s.cut N Q).b9 Q).2
   |.panicked F,M=>Below W.heap.size W M/\p.R (.panicked F) M
   |.outgrown,_=>False
def q7(o:Option BI)(f:BI->Prop)(g:Prop):Prop:=match o with
 |U b=>f b
 |none=>g
def oJ(o:Option (C×bn))(f:C->bn->Prop)(g:Prop):Prop:=match o with
 |U (v,X)=>f v X
 |none=>g
def ef(p:Sp)(u:bi)(B:db)(A:rV)(X:ai->S->Prop)(W:ai->C->S->Prop)(V:OM->ck->ai->S->Nat->am->Prop):ck->ai->S->Prop
 |[],O,s=>X O s
 |m::R,O,s=>
  (gq B m s O=U E/\ef p u B A X W V R O (s.put m.o.dst (.bA [])))\/
  (gq B m s O=U J/\match dW u s m.o with
   |.call (.fn g) Q=>oJ (A g Q s) (λv M=>s.bd=J/\ef p u B A X W V R O ((s.plus M).put m.o.dst v)) (Hk p u s O g Q λH v P=>ef p u B A X W V R H (P.put m.o.dst v))
   |.call (.yl n) Q=>m.so=J/\V m R O s n Q
   |.aW v=>W O v s
   |.no=>False
   |.op=>q7 (eA u m.o m.bC m.dr s) (λb=>b.aN.ab O=J/\∀N,Ek p.ty p.S0 p.w0 b.e b.x s.rs O N->ef p u B A X W V R (O.add (.r N)) b.s) (∃P,gP u m s O P/\ef p u B A X W V R O P))
def yJ(s:S)(O:ai)(X:Fx):Prop:=∀x∈X,x.1.ab O=x.2/\x.1.bd s.ni s.nb (Y s.rs)=J
def Vn{p:Sp}{L:cX}{V:Fx}{b:BE}{t f:Fx->T}(P:yJ R x V)(h:(Af R V b t f).aG p x L):
  b.bd R.ni R.nb (Y R.rs)=J/\∃M,yJ R x M/\(if b.ab x then(t M).aG p x L else(f M).aG p x L):=by
 have G:sd x V:=λX N=>(P X N).1
 have F:∀v,JW V b=U v->b.bd R.ni R.nb (Y R.rs)=true:=by
  intro v W;unfold JW at W;split at W;exact BE.aQ.1 _;cases H:V.find? (λX=>X.1.aH b) with
  |none=>rw[H] at W;cases W
  |some X=>
   have A:=NN H;rw[<-BE.bD _ _ A];exact(P X (NB H)).2
 unfold Af at h;split at h;rename_i W;exact⟨F _ W,V,P,by rw[OQ G W];exact h⟩;rename_i W;exact⟨F _ W,V,P,by rw[OQ G W];exact h⟩;split at h;rename_i D;simp only[T.aG] at h;refine⟨D, ?_⟩;have B:∀v,b.ab x=v->yJ R x ((b,v)::V):=λv Q X N=>by
  rcases dJ.1 N with rfl|N;exact⟨Q,D⟩;exact P X N
 cases Q:b.ab x;exact⟨_,B _ Q,by simpa using h.2 Q⟩;exact⟨_,B _ Q,by simpa using h.1 Q⟩;exact h.elim
section
variable{p:Sp}{u:bi}{B:db}{A:rV}{L:cX}{G:YH}{k:S->T}{D:C->S->T}
def fo(s:S)(d:bX)(v:C):(s.put d v).ni=s.ni/\(s.put d v).nb=s.nb/\(s.put d v).rs=s.rs:=by cases d<;>exact⟨rfl,rfl,rfl⟩
def adk{m:OM}{s X:S}{O:ai}(h:(fJ u m s).gives O X):X.ni=s.ni/\X.nb=s.nb/\X.rs=s.rs:=by
 unfold fJ at h;split at h;exact h.elim;split at h;split at h;split at h;cases h;exact fo _ _ _;exact h.elim;exact h.elim;split at h;split at h;cases h;exact fo _ _ _;exact h.elim;exact h.elim;split at h;split at h;split at h;split at h;cases h;exact fo _ _ _;exact h.elim;exact h.elim;exact h.elim;exact h.elim;split at h;split at h;split at h;cases h;exact fo _ _ _;exact h.elim;exact h.elim;exact h.elim;split at h;simp only[OR.gives] at h;split at h<;>(subst h;exact fo _ _ _);exact h.elim;obtain⟨v,-,rfl⟩:=yF h;exact fo _ _ _;obtain⟨v,-,rfl⟩:=yF h;exact fo _ _ _
def KR{d:bX}{aN:BE}{k:RK}{x:LE}{cM:ap}{b:BI}(h:jA R d aN v k x t cM=U b):b.s.ni=R.ni/\b.s.nb=R.nb/\Y b.s.rs=Y R.rs+1:=by
 obtain⟨-,-,rfl⟩:=wA h;refine⟨(fo _ _ _).1,(fo _ _ _).2.1, ?_⟩;simp only;rw[(fo _ _ _).2.2];simp[yC,yB]
def adl{V:Bool}{X:BI}(h:eA u l b V R=U X):X.s.ni=R.ni/\X.s.nb=R.nb/\Y X.s.rs=Y R.rs+1:=by
 unfold eA at h;split at h;split at h;split at h;split at h;split at h;split at h;cases h;split at h;split at h;cases h;exact KR h;cases h;cases h;cases h;cases h;cases h;split at h;split at h;split at h;exact KR h;cases h;cases h;cases h;split at h;cases h;split at h;split at h;split at h;split at h;exact KR h;cases h;cases h;cases h;cases h;split at h;cases h
 ·split at h
  all_goals first
   |cases h
   |(split at h
     split at h;exact KR h;cases h;cases h)
 split at h;cases h;split at h;split at h;split at h;split at h;cases W:jA R Z (tB _ (.len (.v _))) _ (.own _) _ [_] _ with
 |none=>rw[W] at h;cases h
 |some M=>
  rw[W] at h;simp only[dQ,cg] at h;subst h;obtain⟨Q,P,N⟩:=KR W;refine⟨?_, ?_, ?_⟩;simp only;rw[(fo _ _ _).1];exact Q;simp only;rw[(fo _ _ _).2.1];exact P;simp only;rw[(fo _ _ _).2.2];exact N
 cases h;cases h;cases h;cases h;cases h
def adm{W:S}{d:bX}{r:PR}{b:BE}(h:qP R d X r=.aN b W):b.bd R.ni R.nb (Y R.rs)=true:=by
 cases r with
 |ok v=>cases h
 |aN Q v=>
  simp only[qP] at h;split at h;rename_i V;cases h;exact V;cases h
 |no w=>cases h
def anq{m:OM}{s X:S}{b:BE}(h:fJ u m s=.aN b X):b.bd s.ni s.nb (Y s.rs)=true:=by
 unfold fJ at h;split at h;cases h;split at h
 ·(repeat' split at h)<;>cases h
 ·(repeat' split at h)<;>cases h
 ·(repeat' split at h)<;>cases h
 ·(repeat' split at h)<;>cases h
 ·(repeat' split at h)<;>cases h
 exact adm h;exact adm h
structure yK(B:db)(A:rV):Prop where
 q:∀(g:FuncId)(args:am)(s:S)(d:bX)(v:C)(l:Nat),A g args (s.de d v l)=A g args s
 z:∀(g:FuncId)(s:S)(n:Nat)(t:TypeId)(cs:am)(d:bX)(w:C),fA s.ak n=J->A g [] ((s.cU n t cs).put d w)=A g [] s
 Vo:∀(g:FuncId)(args:am)(s:S)(r:C×bn),A g args s=U r->Od B=J
def adn{W:bn}(h:aF R.ak X=J):bM (R.plus W).ak X=bM R.ak X:=by
 obtain⟨b,V⟩:=jw.1 h;have Q:=(bJ.1 (jl.1 V)).1;simp only[cj,S.plus,dF Q]
def ado{W:bn}(h:fA R.ak X=J):fA (R.plus W).ak X=true:=by
 have V:=(mc h).2;simp only[fA,S.plus,dF V] at h⊢;exact h
def Vp{g:wb}(h:dW u R l=.call g e):wn l.op=true:=by
 unfold dW at h;split at h;split at h<;>cases h
 ·rename_i c W;rw[W];cases X:c.callee with
  |value f=>simp[wn,X]
  |invoke r m=>rw[X] at h;cases h
  |builtin b=>
   rw[X] at h;exfalso;revert h;cases b<;>simp only
   all_goals first
    |(intro h;cases h;done)
    |(split<;>intro h<;>first|(cases h;done)|(split at h<;>cases h))
 cases h
def adp{g:FuncId}(X:Gs l.op=J)(h:dW u R l=.call (.fn g) e):e=[]:=by
 unfold Gs at X;split at X;rename_i c W;split at X;rename_i f V;have Q:c.args.toList=[]:=by simpa using X
 simp only[dW,W,V,S.ev,uM,Q,List.any_nil,iC,fH,xU,gU,wh,CK.call.injEq,wb.fn.injEq] at h;exact h.2.symm;cases X;cases X
def Cg(p:Sp)(k:S->T)(L:cX)(O:ai)(s:S):Prop:=(k s).aG p O L
def AD(p:Sp)(D:C->S->T)(L:cX)(O:ai)(v:C)(s:S):Prop:=(D v s).aG p O L
def AE(p:Sp)(u:bi)(B:db)(A:rV)(G:YH)(k:S->T)(D:C->S->T)(L:cX)(m:OM)(X:ck)(O:ai)(s:S)(n:Nat)(V:am):Prop:=
 (∀R∈X,R.dr=J)/\∃W,yJ s O W/\(qT u A G (.yl n) V s (λv Q=>jX u (qT u A G) B k D X (Q.put m.o.dst v) (nR s W)) D).aG p O L
def EB(a4:p.ty=u.ty):∀(l:ck)(s:S)(fx:Fx)(O:ai),Y O.i=s.ni->Y O.b=s.nb->Y O.r=Y s.rs->(jX u (qT u A G) B k D l s fx).aG p O L->yJ s O fx->
  (∀m∈l,m.dr=J)->ef p u B A (Cg p k L) (AD p D L) (AE p u B A G k D L) l O s
 |[],s,fx,O,_,_,_,h,_,_=>h
 |m::Q,s,fx,O,e1,e2,e3,h,ba,bt=>by
  have bc:m.dr=true:=bt m au;have a1:∀m∈Q,m.dr=true:=λm' b1=>bt m' (by simp[b1])
  have b2:yg u m s=none:=by simp[yg,bc]
  have b3:Ag u m s=none:=by simp[Ag,bc]
  have b4:∀c f,yf u m s c f=none:=λc f=>by simp[yf,bc]
  have bf:∀(s:S)(d:bX)(v:C),(s.put d v).ni=s.ni/\(s.put d v).nb=s.nb/\(s.put d v).rs=s.rs:=λs d v=>by cases d<;>exact⟨rfl,rfl,rfl⟩
  have bx:∀(X:S)(P:Fx),X.ni=s.ni->X.nb=s.nb->X.rs=s.rs->yJ s O P->yJ X O P:=λX P h1 M h3 hf x hx=>by rw[h1,M,h3];exact hf x hx
  have bg:∀P,yJ s O P->(yj u (qT u A G) m s (jX u (qT u A G) B k D Q) D P).aG p O L->
    (match dW u s m.o with
     |.call (.fn g) t=>oJ (A g t s) (λv ex=>s.bd=J/\ef p u B A (Cg p k L) (AD p D L) (AE p u B A G k D L) Q O ((s.plus ex).put m.o.dst v)) (Hk p u s O g t λO' v X=>ef p u B A (Cg p k L) (AD p D L) (AE p u B A G k D L) Q O' (X.put m.o.dst v))
     |.call (.yl n) t=>m.so=J/\AE p u B A G k D L m Q O s n t
     |.aW v=>AD p D L O v s
     |.no=>False
     |.op=>q7 (eA u m.o m.bC m.dr s) (λb=>b.aN.ab O=J/\∀rv,Ek p.ty p.S0 p.w0 b.e b.x s.rs O rv->ef p u B A (Cg p k L) (AD p D L) (AE p u B A G k D L) Q (O.add (.r rv)) b.s)
      (∃X,gP u m s O X/\ef p u B A (Cg p k L) (AD p D L) (AE p u B A G k D L) Q O X):Prop):=by
   intro P an h;unfold yj at h;rw[b2] at h;simp only[b3,b4] at h;cases hc:dW u s m.o with
   |call g0 t=>
    rw[hc] at h;cases g0 with
    |yl n=>
     simp only at h⊢;split at h;rename_i b5;exact⟨b5,a1,P,an,h⟩;exact h.elim
    |fn g=>
    simp only[qT] at h;simp only;cases b0:A g t s with
    |some ve=>
     obtain⟨v,ex⟩:=ve;rw[b0] at h;simp only at h;split at h;rename_i H;refine⟨H, ?_⟩;obtain⟨F,z,w⟩:=bf (s.plus ex) m.o.dst v;refine EB a4 Q _ _ O (by rw[F];exact e1) (by rw[z];exact e2) (by rw[w];exact e3) h (λx hx=> ?_) a1;rw[F,z,w];exact an x (o9.1 hx).1;exact h.elim
    |none=>
    rw[b0] at h;simp only[wl] at h;simp only[oJ];split at h;rename_i ts b6;split at h;rename_i ks b7;split at h;rename_i l hl;split at h;rename_i H;refine⟨ts,ks,l,b6,b7,hl,H,λV W R=> ?_⟩;simp only[T.aG] at h;refine(h O.y V W R).mono ?_;intro e W' he;cases e with
    |returned v=>
     obtain⟨xs,h1,M,h3,h4,h5⟩:=he;have hy:(O.ext xs).at O.y=O.ext xs:=by have:=Hf xs O;unfold ai.at;rw[<-this]
     rw[hy] at M;refine⟨xs,h1,M,h3,h4, ?_⟩;obtain⟨l1,l2,l3⟩:=wF ks xs (s.cut t ks) O h1 e1 e2 (e3.trans (Cf t ks s.rs).len.symm);have a3:=bf ((s.cut t ks).b9 ks).2 m.o.dst (one l);refine EB a4 Q _ _ _ (by rw[a3.1];exact l1) (by rw[a3.2.1];exact l2) (by rw[a3.2.2];exact l3) h5 ?_ a1;intro x hx;obtain⟨bk,b8⟩:=o9.1 hx;obtain⟨j,N⟩:=an x bk;have ca:=B4 xs O;have bl:=OG xs O;refine⟨by rw[BE.dS ca _ (by rw[e1,e2,e3];exact N)];exact j, ?_⟩;rw[a3.1,a3.2.1,a3.2.2,<-l1,<-l2,<-l3];exact BE.dY (by rw[<-e1];exact bl.1) (by rw[<-e2];exact bl.2.1) (by rw[<-e3];exact bl.2.2) _ N
    |panicked ch=>exact he
    |outgrown=>exact he
    exact h.elim;exact h.elim;exact h.elim;exact h.elim
   |aW v=>rw[hc] at h;exact h
   |no=>rw[hc] at h;exact h
   |op=>
    rw[hc] at h;simp only at h⊢;cases br:eA u m.o m.bC m.dr s with
    |some b=>
     rw[br] at h;obtain⟨hn,h⟩:=h;refine⟨hn,λrv cc=> ?_⟩;obtain⟨F,z,w⟩:=adl br;have cl:(O.add (.r rv)).r.length=Y b.s.rs:=by simp[ai.add,w,e3]
     refine EB a4 Q b.s _ _ (by rw[F];exact e1) (by rw[z];exact e2) cl (h rv cc) ?_ a1;intro x hx;obtain⟨bk,b8⟩:=o9.1 hx;obtain⟨j,N⟩:=an x bk;refine⟨by rw[BE.dS (Ou O (.r rv)) _ (by rw[e1,e2,e3];exact N)];exact j, ?_⟩;exact BE.dY aa aa aa _ N
    |none=>
    rw[br] at h;simp only[q7] at h⊢;have bb:∀X a9,yJ s O a9->gP u m s O X->(jX u (qT u A G) B k D Q X a9).aG p O L->∃X,gP u m s O X/\ef p u B A (Cg p k L) (AD p D L) (AE p u B A G k D L) Q O X:=by
     intro X a9 hf hG hs;obtain⟨F,z,w⟩:=adk (Hj hG);exact⟨X,hG,EB a4 Q X a9 O (by rw[F];exact e1) (by rw[z];exact e2) (by rw[w];exact e3) hs (bx X a9 F z w hf) a1⟩
    split at h;rename_i X a0;exact bb X P an (by unfold gP;rw[a0];rfl) h;rename_i b X a0;refine bb X P an ?_ h.2;unfold gP;rw[a0];exact⟨h.1,anq a0,rfl⟩;rename_i b s1 s2 a0;obtain⟨N,af,ag,M⟩:=Vn an h;cases hv:b.ab O;exact bb s2 af ag (by unfold gP;rw[a0];simp[OR.EA,hv,N]) (by simpa[hv] using M);exact bb s1 af ag (by unfold gP;rw[a0];simp[OR.EA,hv,N]) (by simpa[hv] using M);exact h.elim
  have bs:∀P,yJ s O P->(jX u (qT u A G) B k D Q (s.put m.o.dst (.bA [])) P).aG p O L->ef p u B A (Cg p k L) (AD p D L) (AE p u B A G k D L) Q O (s.put m.o.dst (.bA [])):=by
   intro P hf h;obtain⟨F,z,w⟩:=bf s m.o.dst (.bA []);exact EB a4 Q _ P O (by rw[F];exact e1) (by rw[z];exact e2) (by rw[w];exact e3) h (bx _ P F z w hf) a1
  simp only[jX,N9] at h;cases al:m.o.guard with
  |none=>
   rw[al] at h;exact .inr ⟨by simp[gq,al],bg fx ba h⟩
  |some q=>
   obtain⟨jj,cn⟩:=q;rw[al] at h;simp only at h;split at h;rename_i d j;split at h;rename_i b H;cases cn;simp only[iC,fH] at h;obtain⟨N,af,ag,M⟩:=Vn ba h;cases a:b.ab O;exact .inr ⟨by simp[gq,al,j,H,N,a],bg af ag (by simpa[a] using M)⟩;exact .inl ⟨by simp[gq,al,j,H,N,a],bs af ag (by simpa[a] using M)⟩;simp only[cH] at h;obtain⟨N,af,ag,M⟩:=Vn ba h;cases a:b.ab O;exact .inl ⟨by simp[gq,al,j,H,N,a],bs af ag (by simpa[a] using M)⟩;exact .inr ⟨by simp[gq,al,j,H,N,a],bg af ag (by simpa[a] using M)⟩;rename_i H;exact .inl ⟨by simp[gq,al,j,H],bs fx ba h⟩;exact h.elim;exact h.elim
end
section
variable{p:Sp}{cf:bi}{ops:db}{A:rV}
structure j6(cf:bi)(ops:db)(o:Oper)(s:S)(O:ai)(s':S)(O':ai):Prop where
 tm:∀t∈iY ops o,s'.tmps[t]?=s.tmps[t]?
 kd:looks o.op=J->yo o.op=E->yI cf.ty s s'
 kl:∀t x r w i off,o.op=.load t x->s.ev cf.gl x=.el r w i off->∀e,e≠ .ac->r.kind cf.ty s=e->r.kind cf.ty s'=e
 li:s.ni<=s'.ni
 lb:s.nb<=s'.nb
 lr:Y s.rs<=Y s'.rs
 ag:gW O O' s.ni s.nb (Y s.rs)
def j6.wH{o:Oper}{s X:S}{O:ai}(V:∀t∈iY ops o,X.tmps[t]?=s.tmps[t]?)(W:X.rs=s.rs)(R:X.ni=s.ni)(Q:X.nb=s.nb):j6 cf ops o s O X O:=
 ⟨V,λ_ _=>yI.wH W,λt x r w i P _ _=>yI.wH W r,BK R.symm,BK Q.symm,BK (by rw[W]),gW.refl _ _ _ _⟩
def j6.ev{o:Oper}{s X:S}{O V:ai}(h:j6 cf ops o s O X V)(W:lW):∀x∈o.op.operands.toList,X.ev W x=s.ev W x:=by
 intro x R;cases x with
 |tmp t=>
  have:t∈iY ops o:=by
   unfold iY;exact uC _ (zV.2 ⟨.tmp t,R,rfl⟩)
  simp only[S.ev,uM,cw,h.tm t this]
 |const v=>rfl
 |global g=>rfl
 |func f=>rfl
def j6.guard{m:OM}{s W:S}{O Q:ai}(h:j6 cf ops m.o s O W Q){b:Bool}(X:gq ops m s O=U b):gq ops m W Q=U b:=by
 unfold gq at X⊢;cases V:m.o.guard with
 |none=>rw[V] at X;exact X
 |some q=>
  obtain⟨j,M⟩:=q;rw[V] at X;simp only at X⊢;cases R:(ops[j]?).bind (·.dst) with
  |none=>rw[R] at X;cases X
  |some d=>
   rw[R] at X;simp only at X⊢;have N:W.tmps[d]?=s.tmps[d]?:=h.tm d (by unfold iY;rw[V];exact JC _ (by simp[R]));rw[N];split at X;rename_i e L;split at X;rename_i P;rw[aE (BE.dY h.li h.lb h.lr _ P),BE.dS h.ag _ P];exact X;cases X;exact X;cases X
def adq{Q:S}{N:ai}(h:j6 cf ops l R x Q N)(M:∀i,ya cf.gl R l.op=U i->bM Q.ak i=bM R.ak i)
  (W:(bT cf.ty cf.gl R l.op).wI R x r):(bT cf.ty cf.gl Q l.op).wI Q N r:=by
 have H:bT cf.ty cf.gl Q l.op=bT cf.ty cf.gl R l.op:=by
  cases V:bT cf.ty cf.gl R l.op with
  |ok X=>exact Pe (ty:=cf.ty) (h.ev cf.gl) h.kd h.kl M V (λw P=>by cases P)
  |aN b X=>exact Pe (ty:=cf.ty) (h.ev cf.gl) h.kd h.kl M V (λw P=>by cases P)
  |no w=>rw[V] at W;exact W.elim
 rw[H];cases V:bT cf.ty cf.gl R l.op with
 |ok X=>rw[V] at W;exact W
 |aN b X=>
  rw[V] at W;obtain⟨G,L,F⟩:=W;exact⟨by rw[BE.dS h.ag _ L];exact G,BE.dY h.li h.lb h.lr _ L,F⟩
 |no w=>rw[V] at W;exact W.elim
def Vq{m:OM}{s R:S}{O L:ai}(h:j6 cf ops m.o s O R L)(H:∀i,ya cf.gl s m.o.op=U i->bM R.ak i=bM s.ak i){v:C}{l:Nat}(D:QV cf ops O m s v l):QV cf ops L m R v l:=by
 rcases D with⟨Q,P,X⟩|⟨Q,P,X⟩;exact .inl ⟨h.guard Q,P,X⟩;refine .inr ⟨h.guard Q,λx G=>by rw[h.ev cf.gl x G];exact P x G, ?_⟩;have W:=h.ev cf.gl;cases N:m.o.op with
 |pick c x y=>
  rw[N] at X W;obtain⟨e,B,F,A,z⟩:=X;refine⟨e,by rw[W c bS];exact B,BE.dY h.li h.lb h.lr _ F, ?_,z⟩;rw[BE.dS h.ag _ F,W x bS,W y bS];exact A
 |load t x=>
  have V:=λ(M:(bT cf.ty cf.gl s m.o.op).wI s O v)=>adq (cf:=cf) h H M
  rw[N] at X W V;exact⟨V X.1,by rw[W x bS];exact X.2⟩
 |_=>
  have V:=λ(M:(bT cf.ty cf.gl s m.o.op).wI s O v)=>adq (cf:=cf) h H M
  rw[N] at X V;exact⟨V X.1,X.2⟩
def anr(h:mE l.op=J):dW cf R l=.op:=by
 unfold dW;cases W:l.op<;>rw[W] at h<;>simp[mE] at h<;>try rfl
 rename_i c;cases X:c.callee with
 |builtin b=>cases b<;>simp[X] at h<;>simp[X]
 |value f=>simp[X] at h
 |invoke r m=>simp[X] at h
def EC(s:S)(d:bX)(v:C):s.de d v 0=s.put d v:=by simp[S.de]
def Hl{m:OM}{s V:S}{O:ai}(H:mE m.o.op=J)(R:gq ops m s O=U J):gP cf m s O V<->∃v l,QV cf ops O m s v l/\V=s.de m.o.dst v l:=by
 unfold gP fJ QV;by_cases Q:(m.o.op.operands.toList.any λx=>(s.ev cf.gl x).ec)=J;simp only[Q,cH];constructor;exact λh=>h.elim
 rintro⟨v,l,h|h,-⟩;rw[R] at h;cases h.1;obtain⟨x,M,G⟩:=jy.1 Q;have:=h.2.1 x M;rw[this] at G;cases G
 ·have F:∀x∈m.o.op.operands.toList,(s.ev cf.gl x).ec=false:=by
   intro x M;cases w:(s.ev cf.gl x).ec;rfl;exact bp (jy.2 ⟨x,M,w⟩) Q
  have L:¬gq ops m s O=U false:=by rw[R];simp
  have D:∀(P:Nat),(qP s m.o.dst P (bT cf.ty cf.gl s m.o.op)).EA s O V<->∃v l,((gq ops m s O=U E/\v=.bA []/\l=0)\/(gq ops m s O=U J/\(∀x∈m.o.op.operands.toList,(s.ev cf.gl x).ec=E)/\(bT cf.ty cf.gl s m.o.op).wI s O v/\l=P))/\V=s.de m.o.dst v l:=by
   intro P;rw[adj];constructor;rintro⟨v,X,W⟩;exact⟨v,P,.inr ⟨R,F,X,rfl⟩,W⟩;rintro⟨v,l,h|⟨-,-,X,rfl⟩,N⟩;exact bp h.1 L;exact⟨v,X,N⟩
  rw[aJ Q];cases B:m.o.op<;>rw[B] at H D<;>simp only[mE,iC] at H
  case pick c x y=>
   simp only;cases t:s.ev cf.gl c with
   |bool e=>
    constructor;rintro⟨X,W⟩;refine⟨if e.ab O then s.ev cf.gl x else s.ev cf.gl y,0,.inr ⟨R,by rw[<-B];exact F,e,rfl,X,rfl,rfl⟩, ?_⟩;rw[EC,W];split<;>rfl;rintro⟨v,l,h|⟨-,-,u,X,W,A,z⟩,N⟩;exact bp h.1 L;cases X;subst z;refine⟨W, ?_⟩;rw[N,EC,A];split<;>rfl
   |_=>
    constructor;exact λh=>h.elim
    rintro⟨v,l,h|⟨-,-,u,X,W,A,z⟩,N⟩;exact bp h.1 L;cases X
  all_goals exact D _
variable{a:ai->S->Prop}{k:ai->C->S->Prop}{n:OM->ck->ai->S->Nat->am->Prop}
def adr(W:mE l.op=J):eA cf l b J R=none:=by
 unfold eA;cases Q:l.op<;>rw[Q] at W<;>simp only[mE,iC] at W<;>try rfl
 rename_i c;cases V:c.callee with
 |builtin X=>cases X<;>simp[V] at W<;>simp[V]
 |value f=>simp[V] at W
 |invoke r m=>simp[V] at W
def ads{P:ck}(N:h.dr=J)(Q:mE h.o.op=J):ef p cf ops A a k n (h::P) x R<->∃v l,QV cf ops x h R v l/\ef p cf ops A a k n P x (R.de h.o.dst v l):=by
 simp only[ef,anr Q,N,adr Q,q7];constructor;rintro(⟨V,X⟩|⟨V,L,X,W⟩);exact⟨.bA [],0,.inl ⟨V,rfl,rfl⟩,by rw[EC];exact X⟩;obtain⟨v,l,M,rfl⟩:=(Hl (ops:=ops) Q V).1 X;exact⟨v,l,M,W⟩;rintro⟨v,l,V,X⟩;rcases V with⟨W,rfl,rfl⟩|W;rw[EC] at X;exact .inl ⟨W,X⟩;exact .inr ⟨W.1,_,(Hl (ops:=ops) Q W.1).2 ⟨v,l,.inr W,rfl⟩,X⟩
end
section
variable{p:Sp}{A:bi}{B:db}{D:rV}
def lz{d:bX}(h:d≠U X):(R.put d r).tmps[X]?=R.tmps[X]?:=by
 cases d with
 |none=>rfl
 |some d=>simp only[S.put,tw];rw[pM (λe=>h (by rw[e]))]
def Hm{d:bX}{t:Nat}(h:d≠U t):(R.de d r X).tmps[t]?=R.tmps[t]?:=by
 unfold S.de;rw[lz h]
def kU(s:S)(d:bX)(v:C):(s.put d v).ak=s.ak:=by cases d<;>rfl
def AF(s:S)(d:bX)(v:C)(l:Nat):(s.de d v l).ak=s.ak:=by unfold S.de;rw[kU]
def Pg(s:S)(d:bX)(v:C):(s.put d v).lk=s.lk:=by cases d<;>rfl
def Vr{d e:bX}{w:C}(h:∀x,d=U x->e≠U x):(R.put d r).put e w=(R.put e w).put d r:=by
 cases d with
 |none=>cases e<;>rfl
 |some d=>
  cases e with
  |none=>rfl
  |some e=>
   have X:d≠e:=λW=>h d rfl (by rw[W])
   simp only[S.put,tw];rw[List.set_comm _ _ X]
def KS{s:S}{d e:bX}{v w:C}{l:Nat}(h:∀x,d=U x->e≠U x):(s.de d v l).put e w=(s.put e w).de d v l:=by
 unfold S.de;rw[Vr h];cases e<;>rfl
def ant{d e:bX}{w:C}{W:Nat}(h:∀x,d=U x->e≠U x):(R.de d r X).de e w W=(R.de e w W).de d r X:=by
 have V:(R.de d r X).de e w W={(R.de d r X).put e w with lk:=R.lk|||X|||W}:=by
  unfold S.de;cases e<;>cases d<;>rfl
 have Q:(R.de e w W).de d r X={(R.de e w W).put d r with lk:=R.lk|||W|||X}:=by
  unfold S.de;cases e<;>cases d<;>rfl
 rw[V,Q,Nat.or_assoc,Nat.or_comm X W,<-Nat.or_assoc];have P:(R.de d r X).put e w={(R.put d r).put e w with lk:=R.lk|||X}:=by unfold S.de;cases e<;>cases d<;>rfl
 have O:(R.de e w W).put d r={(R.put e w).put d r with lk:=R.lk|||W}:=by unfold S.de;cases e<;>cases d<;>rfl
 rw[P,O,Vr h]
def anu(s:S)(d:bX)(v:C)(l n:Nat)(t:TypeId)(X:am):(s.de d v l).cU n t X=(s.cU n t X).de d v l:=by
 unfold S.de S.cU;cases d<;>rfl
structure Vs(B:db)(x y:OM)(dx:Nat):Prop where
 xd:x.dr=J
 yd:y.dr=J
 qx:mE x.o.op=J
 np:Gr y.o.op=E
 dst:x.o.dst=U dx
 ry:dx∉iY B y.o
 dy:y.o.dst≠U dx
 rx:dx∉iY B x.o
 yx:∀d,y.o.dst=U d->d∉iY B x.o
 rc:wm y.o.op=J->yo x.o.op=J->x.bC=J/\y.bC=J
 rb:Ak y.o.op=J->looks x.o.op=J->yo x.o.op=J/\x.bC=J/\y.bC=J
def adt{x y:OM}(h:Ob B x y=J):∃Q,Vs B x y Q:=by
 unfold Ob at h;simp only[aw,f9] at h;obtain⟨⟨⟨⟨⟨⟨⟨L,H⟩,G⟩,F⟩,X⟩,V⟩,O⟩,R⟩:=h;cases P:x.o.dst with
 |none=>rw[P] at X;cases X
 |some Q=>
  rw[P] at X;simp only[aw,f9,bne_iff_ne] at X;obtain⟨⟨N,D⟩,M⟩:=X;refine⟨Q,L,H,G,F,P, ?_,D, ?_, ?_, ?_, ?_⟩;intro W;rw[ov.2 W] at N;cases N;intro W;rw[ov.2 W] at M;cases M;intro d A W;rw[A] at V;simp only[f9] at V;rw[ov.2 W] at V;cases V;intro a b;simp only[a,b,aaH,alG,aw] at O;exact O;intro a b;simp only[a,b,aaH,alG,aw] at R;exact⟨R.1.1,R.1.2,R.2⟩
def Ch{X:S}(h:∀x∈l.op.operands.toList,X.ev A.gl x=R.ev A.gl x):dW A X l=dW A R l:=by
 unfold dW;cases V:l.op<;>rw[V] at h<;>try rfl
 case panic x=>simp only;rw[h x bS]
 case call c=>
  simp only;cases Q:c.callee with
  |value f=>
   have P:=h f (by simp[gu,xS,Q]);have W:c.args.toList.map (X.ev A.gl)=c.args.toList.map (R.ev A.gl):=jh λx O=>h x (by simp[gu,xS];exact .inr (by simpa using O))
   have N:(c.args.toList.any λx=>(X.ev A.gl x).ec)=c.args.toList.any λx=>(R.ev A.gl x).ec:=by
    have M:=aaJ (f:=X.ev A.gl) (p:=C.ec) (l:=c.args.toList);have L:=aaJ (f:=R.ev A.gl) (p:=C.ec) (l:=c.args.toList);rw[show(c.args.toList.any λx=>(X.ev A.gl x).ec)=(c.args.toList.map (X.ev A.gl)).any C.ec from M.symm,W,L];rfl
   simp only[P,W,N]
  |invoke r m=>rfl
  |builtin b=>
   cases b<;>try rfl
   cases H:c.args.toList with
   |nil=>rfl
   |cons x r=>
    cases r with
    |nil=>simp only;rw[h x (by simp[gu,xS];exact .inr (by have G:x∈c.args.toList:=(by rw[H];simp);simpa using G))]
    |cons y r=>rfl
def Vt(h:dW A R l=.aW r):Gr l.op=true:=by
 unfold dW at h;split at h;rename_i X;rw[X];rfl;rename_i c X;split at h;split at h;split at h;cases h;exact(aa9 h).elim;split at h<;>cases h;cases h;cases h;rename_i W;rw[X];simp[Gr,W];cases h;cases h
def u7(s:S)(d:Nat):Prop:=s.tmps[d]?=Z\/∃w,s.tmps[d]?=U w/\w.bd s.ni s.nb (Y s.rs) (aF s.ak)=J
def Vu{W V R:Nat}{Q:Nat->Bool}:∀{l:am}{d:Nat}{v:C},C.dA W V R Q (l.set d v)=J->(l[d]?=Z\/∃w,l[d]?=U w/\w.bd W V R Q=J)->C.dA W V R Q l=J
 |[],d,v,h,_=>rfl
 |x::P,0,v,h,X=>by
  simp only[axq,C.gO,aw] at h⊢;refine⟨?_,h.2⟩;rcases X with X|X;simp at X;simpa using X
 |x::P,d+1,v,h,X=>by
  simp only[List.set_cons_succ,C.gO,aw] at h⊢;exact⟨h.1,Vu h.2 (by simpa using X)⟩
def Hn{s:S}{dx:Nat}{v:C}{l:Nat}{cs:am}(h:(s.de (U dx) v l).eD cs=J)(X:u7 s dx):s.eD cs=true:=by
 simp only[S.eD,S.bd,S.de,S.put,tw,aw] at h⊢;exact⟨⟨Vu h.1.1 X,h.1.2⟩,h.2⟩
def anv{Q:Ty}{P:lW}{V:Op}(h:(bT Q P R V).gives x r):mE V=true:=by
 cases V with
 |call c=>
  cases W:c.callee with
  |builtin b=>cases b<;>simp only[bT,W,PR.gives] at h<;>simp[mE,W]
  |value f=>simp only[bT,W,PR.gives] at h
  |invoke X m=>simp only[bT,W,PR.gives] at h
 |_=>first|rfl|(simp only[bT,PR.gives] at h)
def anw{x y:OM}{P:Nat}(a:Vs B x y P){s f:S}{O:ai}{v:C}{l:Nat}(ha:u7 s P)(hg:gq B y s O=U J)
  (h:gP A y (s.de (U P) v l) O f):∃W,gP A y s O W/\f=W.de (U P) v l/\(∀t,y.o.dst≠U t->W.tmps[t]?=s.tmps[t]?)/\W.ni=s.ni/\W.nb=s.nb/\W.rs=s.rs/\
   ∀i,aF s.ak i=J->bM W.ak i=bM s.ak i\/(wm y.o.op=J/\(y.bC=J->(s.lk|||l).testBit (2*i)=E)/\(kK s.ak i).isSome=J):=by
 have a0:j6 A B y.o (s.de (U P) v l) O s O:=j6.wH (λt V=>(Hm (λe=>a.ry (by cases e;exact V))).symm) rfl rfl rfl;have af:j6 A B y.o s O (s.de (U P) v l) O:=j6.wH (λt V=>Hm (λe=>a.ry (by cases e;exact V))) rfl rfl rfl;have D:=af.ev A.gl;have ag:∀z,(U P:bX)=U z->y.o.dst≠U z:=λz H=>by cases H;exact a.dy
 by_cases r:mE y.o.op=J;have a1:=af.guard hg;obtain⟨w,l',hw,rfl⟩:=(Hl (ops:=B) r a1).1 h;have a3:=Vq (cf:=A) a0 (λi _=>by rw[AF]) hw;refine⟨s.de y.o.dst w l',(Hl (ops:=B) r hg).2 ⟨w,l',a3,rfl⟩,ant ag,λt V=>Hm V,(fo _ _ _).1,(fo _ _ _).2.1,(fo _ _ _).2.2,λi _=>.inl (by rw[AF])⟩;unfold gP fJ at h;split at h;exact h.elim;rename_i hk;have d:¬(y.o.op.operands.toList.any λz=>(s.ev A.gl z).ec)=true:=by
  intro hh;obtain⟨z,al,a4⟩:=jy.1 hh;exact hk (jy.2 ⟨z,al,by rw[D z al];exact a4⟩)
 have b:∀(n:Nat)(t:TypeId)(G:am)(w:C),n<Y s.ak->gP A y s O ((s.cU n t G).put y.o.dst w)->f=((s.de (U P) v l).cU n t G).put y.o.dst w->
   (∀i,aF s.ak i=J->i=n->wm y.o.op=J/\(y.bC=J->(s.lk|||l).testBit (2*i)=E)/\(kK s.ak i).isSome=J)->
   ∃W,gP A y s O W/\f=W.de (U P) v l/\(∀t,y.o.dst≠U t->W.tmps[t]?=s.tmps[t]?)/\W.ni=s.ni/\W.nb=s.nb/\W.rs=s.rs/\
    ∀i,aF s.ak i=J->bM W.ak i=bM s.ak i\/(wm y.o.op=J/\(y.bC=J->(s.lk|||l).testBit (2*i)=E)/\(kK s.ak i).isSome=J):=by
  intro n t G w hn h1 h2 h3;refine⟨_,h1, ?_,λt V=>lz V,(fo _ _ _).1,(fo _ _ _).2.1,(fo _ _ _).2.2,λi R=> ?_⟩;rw[h2,anu,KS ag];by_cases an:i=n;exact .inr (h3 i R an);left;rw[kU,S.cU,ww an]
 split at h;rename_i t X;split at h;rename_i ti V;split at h;rename_i Q;simp only[aw] at Q;have N:=Hn Q.1 ha;have M:oA s.ak y.ix t=true:=Q.2;have L:fA s.ak y.ix=true:=qY M;refine b y.ix t (dV ti) _ (mc L).2 ?_ h (λi R e=>by subst e;rw[(mc L).1] at R;cases R);unfold gP fJ;rw[aJ d];simp only[X,V,N,M,xT,cH];rfl;exact h.elim;exact h.elim;rename_i t z X;have H:=D z (by rw[X];simp[gu]);split at h;rename_i ti V;rw[H] at h;split at h;rename_i Q;simp only[aw] at Q;obtain⟨⟨⟨m,k⟩,g⟩,c4⟩:=Q;have N:=Hn k ha;have M:oA s.ak y.ix t=true:=c4;have L:fA s.ak y.ix=true:=qY M;refine b y.ix t _ _ (mc L).2 ?_ h (λi R e=>by subst e;rw[(mc L).1] at R;cases R);unfold gP fJ;rw[aJ d];simp only[X,V,m,N,g,M,xT,cH];rfl;exact h.elim;exact h.elim;rename_i t bc parts X;have H:(parts.toList.map λp=>(p.1,(s.de (U P) v l).ev A.gl p.2))=parts.toList.map λp=>(p.1,s.ev A.gl p.2):=jh λp hp=>by rw[D p.2 (by rw[X];simp[gu];exact⟨p.1,by simpa using hp⟩)]
 split at h;rename_i e aj q V;split at h;rename_i te a9;rw[H] at h;split at h;rename_i G hf;split at h;rename_i Q;simp only[aw] at Q;obtain⟨⟨m,k⟩,g⟩:=Q;have N:=Hn m ha;have M:oA s.ak y.ix e=true:=g;have L:fA s.ak y.ix=true:=qY M;refine b y.ix e G _ (mc L).2 ?_ h (λi R e=>by subst e;rw[(mc L).1] at R;cases R);unfold gP fJ;rw[aJ d];simp only[X,V,a9,hf,N,k,M,xT,cH];rfl;exact h.elim;exact h.elim;exact h.elim;exact h.elim;rename_i t z u X;have H:=D z (by rw[X];simp[gu]);have hu:=D u (by rw[X];simp[gu]);rw[H,hu] at h;split at h;rename_i ti i bd V R;rw[AF] at h;split at h;rename_i bt G N;split at h;rename_i Q;simp only[aw,f9] at Q;obtain⟨⟨⟨⟨m,k⟩,g⟩,c4⟩,F⟩:=Q;have ba:(s.de (U P) v l).lk=s.lk|||l:=Pg _ _ _;rw[ba] at F;have bb:(y.bC&&s.lk.testBit (2*i))=false:=by
  cases hr:y.bC;rfl;rw[hr,Gd,BG] at F;simp only[tc] at F;simp[F.1]
 refine b i bt _ _ (bJ.1 (jl.1 (wu N).1)).1 ?_ h (λj hj e=> ?_);unfold gP fJ;rw[aJ d];simp only[X,V,R,N,m,k,g,c4,bb,xT,Bool.not_false,cH];rfl;subst e;refine⟨by rw[X];rfl,λhr=> ?_,by rw[N];rfl⟩;rw[hr,Gd] at F;exact F;exact h.elim;exact h.elim;exact h.elim;rename_i c z u X;exact bp (by rw[X];rfl) r;rename_i t z X;exact bp (by rw[X];rfl) r;rename_i o1 o2 o3 o4 o5 o6;exfalso;obtain⟨w,hw,-⟩:=adj.1 h;refine r ?_;exact anv (Pf hw)
def anx{X:Ty}{W:S}(h:R.rs=W.rs)(k:RK)(r:RE):r.fits X R k=r.fits X W k:=by
 unfold RE.fits;cases k<;>simp only[u6 h r]
def adu{X:Ty}{s W:S}(h:s.rs=W.rs):∀(aj:eG)(V:am),lq X s aj V=lq X W aj V
 |[],[]=>rfl
 |[],_::_=>rfl
 |_::_,[]=>rfl
 |c::R,v::Q=>by
  simp only[lq,adu h R Q];congr 1;cases c<;>cases v<;>simp only[qO,anx h]
def Ci{X:Ty}{s s':S}(h:s.rs=s'.rs){aj:eG}:∀{l:uK},mD X s aj l=mD X s' aj l
 |[]=>rfl
 |r::W=>by simp only[mD,adu h aj r,Ci h (l:=W)]
def anz{l:Nat}{V:Ty}{Q:TI}{y:C}{W:LE×BE×ap}(h:pT V (R.de (U X) r l) v Q y=U W):pT V R v Q y=U W:=by
 unfold pT at h⊢;split at h;simp only[u6 (s:=R) (s':=R.de (U X) r l) rfl];exact h;rw[AF] at h;split at h;rename_i P;simp only[Ci (s:=R) (s':=R.de (U X) r l) rfl];exact h;cases h;cases h
def anA{l:Nat}{y:C}{P:LE}{n:BE}(h:tD A.ty (R.de (U X) r l) v b y=U (P,n,t)):tD A.ty R v b y=U (P,n,t)/\∀k∈t,b=J->(R.lk|||l).testBit (2*k+1)=false:=by
 have M:(R.de (U X) r l).lk=R.lk|||l:=Pg _ _ _;unfold tD at h⊢;split at h;rename_i k;split at h;rename_i O;cases h;have L:R.rs[k]?=U (.own v):=O.1;have V:=O.2;rw[M] at V;simp only[f9,axc] at V;refine⟨?_,λG N H=> ?_⟩;rw[aE];refine⟨L, ?_⟩;simp only[f9,axc];rcases V with V|V;exact .inl V;rw[BG,tc] at V;exact .inr V.1;simp at N;subst N;rcases V with V|V;rw[H] at V;cases V;exact V;cases h;rename_i W F;split at h;rename_i Q;cases h;simp[Q];cases h;cases h;exact⟨rfl,au⟩;simp only[u6 (s:=R) (s':=R.de (U X) r l) rfl];split at h;rename_i Q;cases h;simp[Q];cases h;cases h
variable{F:ai->S->Prop}{G:ai->C->S->Prop}{H:OM->ck->ai->S->Nat->am->Prop}
def anB(X:aI)(s:S)(d:bX)(v:C)(l:Nat):((s.de d v l).b9 X).1=(s.b9 X).1/\((s.de d v l).b9 X).2=(s.b9 X).2.de d v l:=by
 induction X generalizing s with
 |nil=>exact⟨rfl,rfl⟩
 |cons k X W=>
  simp only[S.b9];have V:((s.de d v l).fresh k).1=(s.fresh k).1/\((s.de d v l).fresh k).2=(s.fresh k).2.de d v l:=by
   cases k<;>cases d<;>exact⟨rfl,rfl⟩
  rw[V.1,V.2];exact⟨by rw[(W _).1],(W _).2⟩
def anC{m:OM}{s:S}{O:ai}{v:C}{l:Nat}(h:QV A B O m s v l)(Q:gq B m s O=U J){t:TypeId}{x:Operand}{i P:Nat}(N:m.o.op=.load t x)(W:s.ev A.gl x=.loc i P):aF s.ak i=J/\(m.bC=J->l=1<<<(2*i)):=by
 rcases h with h|⟨-,-,h⟩;rw[Q] at h;cases h.1;rw[N] at h;obtain⟨X,M⟩:=h;refine⟨?_,λL=>by rw[M,W,L];rfl⟩;have X:=Pf X;simp only[bT,W] at X;cases V:A.ty t with
 |none=>rw[V] at X;exact X.elim
 |some H=>
  rw[V] at X;simp only at X;cases R:bM s.ak i with
  |none=>rw[show kK s.ak i=Z by simp[kK,R]] at X;exact X.elim
  |some b=>simp[aF,R]
def anD{m:OM}{s:S}{O:ai}{v:C}{l:Nat}(h:QV A B O m s v l)(N:gq B m s O=U J){t:TypeId}{x:Operand}{i:Nat}{e:K}{M:aZ}{W:am}(L:m.o.op=.load t x)(V:s.ev A.gl x=.fy e M W)(R:wa W=U i):aF s.ak i=J/\(m.bC=J->l=1<<<(2*i)):=by
 rcases h with h|⟨-,-,h⟩;rw[N] at h;cases h.1;rw[L] at h;obtain⟨X,H⟩:=h;refine⟨?_,λG=>by rw[H,V,G];simp[JV,R]⟩;have X:=Pf X;simp only[bT,V] at X;cases Q:A.ty t with
 |none=>rw[Q] at X;exact X.elim
 |some F=>
  rw[Q] at X;simp only[R,Tt] at X;cases P:bM s.ak i with
  |none=>rw[show kK s.ak i=Z by simp[kK,P]] at X;exact X.elim
  |some b=>simp[aF,P]
def adv{m:OM}{s:S}{O:ai}{v:C}{l:Nat}(h:QV A B O m s v l)(P:gq B m s O=U J){i:Nat}(W:ya A.gl s m.o.op=U i):aF s.ak i=J/\((yo m.o.op=J/\(m.bC=J->l=1<<<(2*i)))\/kK s.ak i=Z):=by
 unfold ya at W;split at W;rename_i t x V;split at W;rename_i j G R;cases W;obtain⟨X,N⟩:=anC h P V R;exact⟨X,.inl ⟨by rw[V];rfl,N⟩⟩;rename_i e F D R;obtain⟨X,N⟩:=anD h P V R W;exact⟨X,.inl ⟨by rw[V];rfl,N⟩⟩;cases W;rename_i t x z y V;split at W;rename_i j R;cases W;rcases h with h|⟨-,-,h⟩;rw[P] at h;cases h.1;rw[V] at h;have X:=Pf h.1;simp only[bT,R] at X;split at X;rename_i k e n w aj q u r L;cases L;unfold NY at X;split at X;rename_i g a b c H f d g2 M;refine⟨by simp[aF,M],.inr ?_⟩;have:ow H=true:=by
  split at X;exact X.elim;split at X;rename_i Q;simp at Q;rw[Q];decide;split at X;rename_i Q;simp at Q;rw[Q];decide;exact X.elim
 simp[kK,M,this];exact X.elim;exact X.elim;cases W;cases W
def Ho{X:BI}(h:eA A l b J R=U X):rR l.op=true:=by
 unfold eA at h;cases V:l.op<;>rw[V] at h<;>simp only[cH,alH] at h<;>try cases h
 rfl;rename_i c;cases W:c.callee with
 |builtin Q=>cases Q<;>simp[W] at h<;>simp[rR,W]
 |_=>simp[W] at h
def Vv{m:OM}{s V:S}{O:ai}(h:rR m.o.op=J)(X:gP A m s O V):False:=by
 unfold gP fJ at X;split at X;exact X;cases R:m.o.op<;>rw[R] at h X<;>simp[rR] at h;simp[bT,qP,OR.EA] at X;rename_i c;cases W:c.callee with
 |builtin Q=>cases Q<;>simp[W] at h<;>simp[bT,W,qP,OR.EA] at X
 |_=>simp[W] at h
def adw{l:Nat}{d:bX}{aN:BE}{k:RK}{x:LE}{cM:ap}{V:BI}(P:u7 R X)(O:d≠U X)
  (h:jA (R.de (U X) r l) d aN v k x t cM=U V):
  ∃b,jA R d aN v k x t cM=U b/\V={b with s:=b.s.de (U X) r l}/\(∀W,d≠U W->b.s.tmps[W]?=R.tmps[W]?)/\b.s.ni=R.ni/\b.s.nb=R.nb/\b.s.rs=jz cM 0 (iw t 0 R.rs)++[k]/\b.s.ak=R.ak:=by
 unfold jA at h⊢;split at h;rename_i Q;cases h;simp only[aw] at Q;obtain⟨⟨⟨N,M⟩,L⟩,H⟩:=Q;have G:R.bd=true:=by
  have:R.eD []=true:=Hn (dx:=X) (v:=r) (l:=l) (cs:=[]) (by simp[S.eD,N,C.gO]) P;simp only[S.eD,aw] at this;exact this.1
 rw[aE (by simp only[aw];exact⟨⟨⟨G,M⟩,L⟩,H⟩)];refine⟨_,rfl, ?_,λW F=>lz F,(fo _ _ _).1,(fo _ _ _).2.1,(fo _ _ _).2.2,kU _ _ _⟩;congr 1;exact KS (s:={R with rs:=jz cM 0 (iw t 0 R.rs)++[k]}) (d:=U X) (e:=d) (v:=r) (w:=.ah (.v (Y R.rs))) (l:=l) (λz D=>by cases D;exact O);cases h
def anE{x y:OM}{X:Nat}(O:Vs B x y X){s:S}{v:C}{l:Nat}(L:u7 s X)(V:∀z∈y.o.op.operands.toList,s.ev A.gl z=(s.de (U X) v l).ev A.gl z){H:BI}
  (h:eA A y.o y.bC y.dr (s.de (U X) v l)=U H):
  ∃b W cM F,eA A y.o y.bC y.dr s=U b/\H={b with s:=b.s.de (U X) v l}/\(∀t,y.o.dst≠U t->b.s.tmps[t]?=s.tmps[t]?)/\b.s.ni=s.ni/\b.s.nb=s.nb/\b.s.rs=jz cM 0 (iw W 0 s.rs)++[F]/\b.s.ak=s.ak/\
   (∀k∈W,y.bC=J->(s.lk|||l).testBit (2*k+1)=E)/\(Ak y.o.op=E->W=[]):=by
 have R:=Ho (by rw[O.yd] at h;exact h);unfold eA at h⊢;cases D:y.o.op<;>rw[D] at R h V<;>simp[rR] at R;rename_i t n m;simp only at h⊢;rw[V n bS,V m bS];split at h;rename_i e aj q w u r j i;split at h;rename_i Q g;split at h;rename_i f;obtain⟨b,N,M,d,a,g5,g6,g7⟩:=adw L O.dy h;have af:(w.aH u&&mD A.ty s Q.aj [dV Q]&&Y Q.aj !=0)=true:=by
  rw[<-Ci (s:=s.de (U X) v l) (s':=s) rfl];exact f
 rw[aE af];exact⟨b,[],[],_,N,M,d,a,g5,g6,g7,au,λ_=>rfl⟩;cases h;cases h;cases h;rename_i c;cases P:c.callee with
 |builtin bb=>
  cases bb<;>simp[P] at R;simp only[P] at h⊢;have ag:c.args.toList.map (s.ev A.gl)=c.args.toList.map ((s.de (U X) v l).ev A.gl):=jh λz hz=>V z (by simp[gu,xS];exact .inr (by simpa using hz))
  rw[ag];split at h;rename_i t t2 x0 y0 j i;split at h;rename_i e aj q e2 a0 G r a1;split at h;rename_i Q g;split at h;cases h;rename_i al;rw[aJ al];split at h;rename_i la n1 W lb n2 cM N M;obtain⟨q1,G⟩:=anA N;have q3:=anz M;rw[q1,q3];split at h;cases h;rename_i an;simp only[aJ an];obtain⟨b,k1,k2,k3,k4,k5,k6,k7⟩:=adw L O.dy h;exact⟨b,W,cM,_,k1,k2,k3,k4,k5,k6,k7,G,λh=>by simp[Ak,P] at h⟩;cases h;cases h;cases h;cases h
 |_=>simp[P] at R
def anF(br:yK B D){x y:OM}{al:ck}{s:S}{O:ai}(bs:y.so=E)(bt:Ob B x y=J)(ha:∀d,x.o.dst=U d->u7 s d)
  (e1:Y O.i=s.ni)(e2:Y O.b=s.nb)(e3:Y O.r=Y s.rs)
  (h:ef p A B D F G H (x::y::al) O s):ef p A B D F G H (y::x::al) O s:=by
 obtain⟨f,Q⟩:=adt bt;obtain⟨v,l,P,h⟩:=(ads Q.xd Q.qx).1 h;rw[Q.dst] at h;have a1:=ha f Q.dst;have a4:∀z,(U f:bX)=U z->y.o.dst≠U z:=λz hz=>by cases hz;exact Q.dy
 have an:j6 A B y.o (s.de (U f) v l) O s O:=j6.wH (λt L=>(Hm (λe=>Q.ry (by cases e;exact L))).symm) rfl rfl rfl;have a0:∀(a:S)(O':ai),(gq B x s O=U E->gq B x a O'=U E)->(gq B x s O=U J->j6 A B x.o s O a O')->(gq B x s O=U J->∀i,ya A.gl s x.o.op=U i->bM a.ak i=bM s.ak i)->ef p A B D F G H al O' (a.de (U f) v l)->ef p A B D F G H (x::al) O' a:=by
  intro a O' bx hs hb hr;refine(ads Q.xd Q.qx).2 ⟨v,l, ?_,by rw[Q.dst];exact hr⟩;cases af:gq B x s O with
  |none=>rcases P with P|P<;>(rw[af] at P;cases P.1)
  |some b=>
   cases b;rcases P with P|P;exact .inl ⟨bx P.1,P.2⟩;rw[af] at P;cases P.1;exact Vq (hs af) (hb af) P
 simp only[ef] at h;rcases h with⟨h1,X⟩|⟨h1,X⟩;refine .inl ⟨an.guard h1, ?_⟩;rw[KS a4] at X;have c:j6 A B x.o s O (s.put y.o.dst (.bA [])) O:=j6.wH (λt L=>lz (λe=>Q.yx t e L)) (fo _ _ _).2.2 (fo _ _ _).1 (fo _ _ _).2.1;refine a0 _ _ c.guard (λ_=>c) (λ_ i _=>by rw[kU]) X
 ·refine .inr ⟨an.guard h1, ?_⟩;have hg:gq B y s O=U true:=an.guard h1;have b0:dW A s y.o=dW A (s.de (U f) v l) y.o:=Ch (an.ev A.gl);rw[b0];cases a3:dW A (s.de (U f) v l) y.o with
  |call g0 j=>
   rw[a3] at X;rcases g0 with g|n
   rotate_left
   have h3:=X.1;rw[bs] at h3;cases h3;have b5:D g j (s.de (U f) v l)=D g j s:=br.q _ _ _ _ _ _;show oJ _ _ _;have X:oJ _ _ _:=X;rw[b5] at X;cases bc:D g j s with
   |some ve=>
    obtain⟨pv,ex⟩:=ve;rw[bc] at X;obtain⟨b6,X⟩:=X;have b7:s.bd=true:=by
     have:=Hn (s:=s) (dx:=f) (v:=v) (l:=l) (cs:=[]) (by simp only[S.eD,b6,C.gO,xT]) a1;simp only[S.eD,aw] at this;exact this.1
    have b8:(((s.de (U f) v l).plus ex).put y.o.dst pv)=(((s.plus ex).put y.o.dst pv).de (U f) v l):=by
     rw[<-KS a4];rfl
    rw[b8] at X;have c:j6 A B x.o s O ((s.plus ex).put y.o.dst pv) O:=j6.wH (λt L=>lz (λe=>Q.yx t e L)) (fo _ _ _).2.2 (fo _ _ _).1 (fo _ _ _).2.1;refine⟨b7,a0 _ _ c.guard (λ_=>c) (λaf i hi=> ?_) X⟩;rw[kU];exact adn (adv P af hi).1
   |none=>
   rw[bc] at X;simp only[oJ] at X⊢;obtain⟨ts,N,r,c1,c2,c3,c4,c5⟩:=X;obtain⟨f1,f2⟩:=anB N (s.cut j N) (U f) v l;have ca:(s.eD j&&oB N)=true:=by
    simp only[aw] at c4⊢;exact⟨Hn c4.1 a1,c4.2⟩
   refine⟨ts,N,r,c1,c2,by rw[<-f1];exact c3,ca,λV W R=> ?_⟩;refine(c5 V W (by rw[AF];exact R)).mono ?_;intro e W' he;cases e with
   |returned u=>
    obtain⟨xs,q1,q2,q3,q4,q5⟩:=he;refine⟨xs,q1,q2,q3,q4, ?_⟩;have q5:ef p A B D F G H al (O.ext xs) ((((s.cut j N).de (U f) v l).b9 N).2.put y.o.dst (one r)):=q5;rw[f2,KS a4] at q5;obtain⟨b1,b2,b3,b4⟩:=u5 N (s.cut j N);obtain⟨l1,l2,l3⟩:=wF N xs (s.cut j N) O q1 e1 e2 (e3.trans (Cf j N s.rs).len.symm);have a9:=OG xs O;have bf:yI A.ty s ((((s.cut j N).b9 N).2).put y.o.dst (one r)):=by
     intro q e he M;refine Pd (λk e _ M=> ?_) he M;rw[(fo _ _ _).2.2];obtain⟨e',g1,g2⟩:∃e',(Aj j N s.rs)[k]?=U e'/\e'.rd=e.rd:=by
      unfold Aj;split;refine⟨wc ((J1 j (Y s.rs)).contains k) e,by rw[G1,M];simp, ?_⟩;cases e<;>simp only[wc]<;>try rfl
      split<;>rfl;exact⟨e,M,rfl⟩
     exact⟨e',acR N (s.cut j N) k e' g1,g2⟩
    have c:j6 A B x.o s O ((((s.cut j N).b9 N).2).put y.o.dst (one r)) (O.ext xs):=by
     refine⟨λt L=> ?_,λ_ _=>bf,λt x r w i bg _ _=>bf r, ?_, ?_, ?_, ?_⟩;rw[lz (λe=>Q.yx t e L),b2];rfl;rw[(fo _ _ _).1,<-l1,<-e1];exact a9.1;rw[(fo _ _ _).2.1,<-l2,<-e2];exact a9.2.1;rw[(fo _ _ _).2.2,<-l3,<-e3];exact a9.2.2;rw[<-e1,<-e2,<-e3];exact B4 xs O
    exact a0 _ _ c.guard (λ_=>c) (λ_ i _=>by rw[kU,b1];rfl) q5
   |panicked ch=>exact he
   |outgrown=>exact he
  |aW w=>
   have:=Vt a3;rw[Q.np] at this;cases this
  |no=>rw[a3] at X;exact X
  |op=>
   rw[a3] at X;simp only at X⊢;cases ba:eA A y.o y.bC y.dr (s.de (U f) v l) with
   |some b1=>
    rw[ba] at X;obtain⟨hn,X⟩:=X;obtain⟨b,cc,cM,kk,g1,g2,g3,g4,g5,g6,g7,g8,g9⟩:=anE Q a1 (an.ev A.gl) ba;rw[g1];subst g2;refine⟨hn,λrv cl=>a0 _ _ ?_ ?_ ?_ (X rv cl)⟩;intro cn;have co:j6 A B {x.o with op:=.move (.const undef)} s O b.s (O.add (.r rv)):=⟨λt L=>g3 t (λe=>Q.yx t e (by
     unfold iY at L⊢;refine(eC.1 L).elim (λh=> ?_) (λh=>JC _ h);simp[gu] at h)),λh=>by simp[looks] at h,λt x0 r w i bg h=>by simp at h,BK g4.symm,BK g5.symm,by rw[g6];simp[yC,yB],by rw[<-e1,<-e2,<-e3];exact Ou O (.r rv)⟩
    exact co.guard (m:={x with o:={x.o with op:=.move (.const undef)}}) cn;intro af;have bk:∀(k:Nat)(e:RK),k∉cc->s.rs[k]?=U e->∃e',b.s.rs[k]?=U e'/\e'.rd=e.rd:=by
     intro k e cp M;have ct:k<Y s.rs:=(bJ.1 M).1;refine⟨wc (cM.contains k) e, ?_, ?_⟩;rw[g6,dF (by simp[yC,yB];exact ct),G1,G0,M];simp[cp];cases e<;>simp only[wc]<;>try rfl
     split<;>rfl
    refine⟨λt L=>g3 t (λe=>Q.yx t e L),λcv cx=> ?_,λt x0 r w i bg ho hx e he M=> ?_,BK g4.symm,BK g5.symm,by rw[g6];simp[yC,yB],by rw[<-e1,<-e2,<-e3];exact Ou O (.r rv)⟩;cases ag:Ak y.o.op with
    |true=>
     have:=(Q.rb ag cv).1;rw[cx] at this;cases this
    |false=>
     intro r e he M;exact Pd (λk e _ M=>bk k e (by rw[g9 ag];simp) M) he M
    refine Pd (λk e cy M=>bk k e ?_ M) he M;intro bb;have ag:Ak y.o.op=true:=by
     cases ag:Ak y.o.op with
     |true=>rfl
     |false=>rw[g9 ag] at bb;cases bb
    obtain⟨-,r1,r2⟩:=Q.rb ag (by rw[ho];rfl);have bl:=g8 k bb r2;rcases P with P|⟨-,-,P⟩;rw[af] at P;cases P.1;rw[ho] at P;have:=P.2;rw[hx,r1] at this;simp only[JV,cy,cH] at this;rw[this,BG] at bl;simp[alk] at bl;intro _ i _;rw[g7]
   |none=>
   rw[ba] at X;have cA:eA A y.o y.bC y.dr s=none:=by
    cases hb:eA A y.o y.bC y.dr s with
    |none=>rfl
    |some b=>
     exfalso;have cB:=Ho (by rw[Q.yd] at hb;exact hb);obtain⟨s2,h3,-⟩:=X;exact Vv cB h3
   rw[cA];simp only[q7] at X⊢;obtain⟨s2,h3,h4⟩:=X;obtain⟨a,g1,g2,g3,g4,g5,g6,g7⟩:=anw Q a1 hg h3;subst g2;have c:j6 A B x.o s O a O:=j6.wH (λt L=>g3 t (λe=>Q.yx t e L)) g6 g4 g5;refine⟨a,g1,a0 a O c.guard (λ_=>c) ?_ h4⟩;intro af i hi;obtain⟨k1,k2⟩:=adv P af hi;rcases g7 i k1 with k3|⟨k3,k4,k5⟩;exact k3;rcases k2 with⟨k2,k6⟩|k2;obtain⟨r1,r2⟩:=Q.rc k3 k2;have:=k4 r2;rw[k6 r1,BG] at this;simp[alk] at this;rw[k2] at k5;cases k5
end
section
variable{p:Sp}{cf:bi}{B:db}{A:rV}{F:ai->S->Prop}{G:ai->C->S->Prop}{H:OM->ck->ai->S->Nat->am->Prop}
def adx{m:OM}{s W:S}{O:ai}(h:(fJ cf m s).gives O W):∀t,m.o.dst≠U t->W.tmps[t]?=s.tmps[t]?:=by
 intro q X;unfold fJ at h;split at h;exact h.elim;split at h;split at h;split at h;cases h;rw[lz X];rfl;exact h.elim;exact h.elim;split at h;split at h;cases h;rw[lz X];rfl;exact h.elim;exact h.elim;split at h;split at h;split at h;split at h;cases h;rw[lz X];rfl;exact h.elim;exact h.elim;exact h.elim;exact h.elim;split at h;split at h;split at h;cases h;rw[lz X];rfl;exact h.elim;exact h.elim;exact h.elim;split at h;simp only[OR.gives] at h;split at h<;>(subst h;rw[lz X]);exact h.elim;obtain⟨v,-,rfl⟩:=yF h;rw[Hm X];obtain⟨v,-,rfl⟩:=yF h;rw[Hm X]
def Vw{X:BI}(h:eA cf l b J R=U X):∀t,l.dst≠U t->X.s.tmps[t]?=R.tmps[t]?:=by
 intro q O;have Q:∀{aN:BE}{e:TypeId}{k:RK}{x:LE}{P cM:ap},jA R l.dst aN e k x P cM=U X->X.s.tmps[q]?=R.tmps[q]?:=by
  intro aN e k x P cM h;obtain⟨-,-,rfl⟩:=wA h;simp only;rw[lz O]
 have W:=Ho h;unfold eA at h;cases N:l.op<;>rw[N] at W h<;>simp[rR] at W;simp only at h;split at h;split at h;split at h;exact Q h;cases h;cases h;cases h;rename_i c;cases V:c.callee with
 |builtin M=>
  cases M<;>simp[V] at W;simp only[V] at h;split at h;split at h;split at h;split at h;cases h;split at h;split at h;cases h;exact Q h;cases h;cases h;cases h;cases h
 |_=>simp[V] at W
def Hp{X W V:Nat}{R:Nat->Bool}:∀{l m:am},C.dA X W V R (l++m)=J<->C.dA X W V R l=J/\C.dA X W V R m=J
 |[],m=>by simp[C.gO]
 |x::Q,m=>by simp[C.gO,Hp (l:=Q),and_assoc]
def tM{X W V:Nat}{R:Nat->Bool}:∀{l:am},C.dA X W V R l=J<->∀v∈l,v.bd X W V R=J
 |[]=>by simp[C.gO]
 |x::Q=>by simp[C.gO,tM (l:=Q)]
def anG{W V:Nat}{R:Nat->Bool}(v:Value):(JP v).bd X W V R=true:=by
 have Q:∀w,(Gf w).bd X W V R=true:=λw=>by cases w<;>simp[Gf,C.aQ,K.aQ,BE.aQ,RE.aQ]
 cases v<;>try simp[JP,C.aQ,K.aQ,BE.aQ,RE.aQ]
 rw[tM];intro x P;obtain⟨w,-,rfl⟩:=gL.1 P;exact Q w
def yL(X:R.bd=J){x:Operand}(W:uS x=J):(R.ev cf.gl x).bd R.ni R.nb (Y R.rs) (aF R.ak)=true:=by
 simp only[S.bd,aw] at X;cases x with
 |tmp t=>
  simp only[S.ev,uM,cw];cases V:R.tmps[t]? with
  |none=>simp[C.aQ]
  |some v=>exact tJ X.1 V
 |const v=>exact anG v
 |global g=>cases W
 |func f=>simp[S.ev,C.aQ,C.gO]
def Vx{W V:Nat}{R:Nat->Bool}(h:r.bd X W V R=J):C.dA X W V R r.cells=true:=by
 cases r<;>simp only[C.cells,C.gO,JL]<;>first|exact h|(simp only[C.aQ] at h;exact h)
def Vy{X W V:Nat}{R:Nat->Bool}:∀{vs l:am}{Q:Nat},C.dA X W V R l=J->C.dA X W V R vs=J->C.dA X W V R (ko l Q vs)=J
 |[],l,Q,h,_=>h
 |v::vs,l,Q,h,P=>by
  simp only[C.gO,aw] at P;rw[ko];refine Vy (vs:=vs) ?_ P.2;rw[tM] at h⊢;intro x N;rcases Bw N with O|O;exact h x O;rw[O];exact P.1
def ady{V R Q:Nat}{P:Nat->Bool}{place:Nat->Option (Nat×Nat)}:∀{O:List (Nat×C)}{W l:am},C.dA V R Q P W=J->(∀q∈O,q.2.bd V R Q P=J)->v8 place W O=U l->C.dA V R Q P l=J
 |[],W,l,h,_,X=>by simp[v8] at X;subst X;exact h
 |(i,v)::r,W,l,h,N,X=>by
  simp only[v8] at X;split at X;cases X;split at X;cases X;exact ady (Vy h (Vx (N (i,v) JF))) (λq M=>N q (By _ M)) X
def Ph{W V:Nat}{R:Nat->Bool}(Q:TI):C.dA X W V R (dV Q)=true:=by
 rw[tM];intro x P;obtain⟨c,-,rfl⟩:=gL.1 P;cases c<;>simp[zY,C.aQ,K.aQ,BE.aQ,RE.aQ]
def adz{X W V:Nat}{R:Nat->Bool}{l:am}(h:C.dA X W V R l=J):∀n,C.dA X W V R (uP n l)=J
 |0=>rfl
 |n+1=>by rw[uP,Hp];exact⟨h,adz h n⟩
mutual
def C.KT{W V R:Nat}{Q P:Nat->Bool}(h:∀i,Q i=J->P i=J):∀(v:C),v.bd W V R Q=J->v.bd W V R P=J
 |.int _ _,X=>by simp only[C.aQ] at X⊢;exact X
 |.bool _,X=>by simp only[C.aQ] at X⊢;exact X
 |.ah _,X=>by simp only[C.aQ] at X⊢;exact X
 |.loc i _,X=>by simp only[C.aQ] at X⊢;exact h i X
 |.ij i _ _ _,X=>by simp only[C.aQ] at X⊢;exact h i X
 |.el _ _ _ _,X=>by simp only[C.aQ] at X⊢;exact X
 |.agg l,X=>by simp only[C.aQ] at X⊢;exact C.Cj h l X
 |.bA l,X=>by simp only[C.aQ] at X⊢;exact C.Cj h l X
 |.fn _ l,X=>by simp only[C.aQ] at X⊢;exact C.Cj h l X
 |.fT _ x,X=>by simp only[C.aQ] at X⊢;exact C.KT h x X
 |.yl _,_=>by simp only[C.aQ]
 |.any,_=>by simp only[C.aQ]
 |.mp i,X=>by simp only[C.aQ] at X⊢;exact h i X
 |.fy _ _ O,X=>by simp only[C.aQ,aw] at X⊢;exact⟨X.1,C.Cj h O X.2⟩
def C.Cj{W V R:Nat}{Q P:Nat->Bool}(h:∀i,Q i=J->P i=J):∀(l:am),C.dA W V R Q l=J->C.dA W V R P l=J
 |[],_=>rfl
 |x::O,X=>by simp only[C.gO,aw] at X⊢;exact⟨C.KT h x X.1,C.Cj h O X.2⟩
end
def AG{V R Q:Nat}{P:Nat->Bool}:∀{l:bn},C.pj V R Q P l=J<->∀(i:Nat)(b:TypeId×am),bM l i=U b->C.dA V R Q P b.2=J
 |[]=>by simp[C.pj,cj]
 |Z::W=>by
  simp only[C.pj,AG (l:=W)];exact⟨λh i b X=>by cases i with
   |zero=>simp[cj] at X
   |succ i=>exact h i b (by simpa[cj] using X),λh i b X=>h (i+1) b (by simpa[cj] using X)⟩
 |some x::W=>by
  simp only[C.pj,aw,AG (l:=W)];exact⟨λh i b X=>by cases i with
   |zero=>simp[cj] at X;subst X;exact h.1
   |succ i=>exact h.2 i b (by simpa[cj] using X),λh=>⟨h 0 x (by simp[cj]),λi b X=>h (i+1) b (by simpa[cj] using X)⟩⟩
def S.more(s:S)(n:Nat)(t:TypeId)(X:am)(d:bX)(w:C):S:=(s.cU n t X).put d w
def adA{d:bX}(Q:R.bd=J)(G:fA R.ak X=J)(H:R.eD e=J)(F:r.bd R.ni R.nb (Y R.rs) (λi=>i==X)=J):(R.more X v e d r).bd=true:=by
 have N:=(mc G).2;have P:∀i,aF R.ak i=J->aF (R.ak.set X (U (v,e))) i=true:=λi V=>(nX N).2 (.inr V)
 simp only[S.eD,S.bd,aw] at Q H;simp only[S.more,S.bd,aw];obtain⟨D,B,A⟩:=fo (R.cU X v e) d r;rw[D,B,A,kU];simp only[S.cU];refine⟨?_, ?_⟩;rw[tM];intro W M;cases d with
 |none=>exact C.KT P W (tM.1 Q.1 W M)
 |some d=>
  simp only[S.put,tw] at M;rcases Bw M with L|L;exact C.KT P W (tM.1 Q.1 W L);rw[L];exact C.KT (λi V=>by simp at V;subst V;exact(nX N).2 (.inl rfl)) r F
 rw[AG];intro i b O;by_cases V:i=X;subst V;rw[En N] at O;cases O;exact C.Cj P e H.2;rw[ww V] at O;exact C.Cj P _ (AG.1 Q.2 i b O)
def Vz{y:OM}{s r:S}{O:ai}(c:fW y.o.op=J)(b:y.o.op.operands.toList.all uS=J)(h:gP cf y s O r):
  ∃t N w,r=s.more y.ix t N y.o.dst w/\fA s.ak y.ix=J/\(∀a nb nr,w.bd a nb nr (λi=>i==y.ix)=J)/\
   ∀(X:S)(F:ai),(∀x∈y.o.op.operands.toList,X.ev cf.gl x=s.ev cf.gl x)->X.bd=J->fA X.ak y.ix=J->X.eD N=J/\gP cf y X F (X.more y.ix t N y.o.dst w):=by
 unfold gP fJ at h;split at h;exact h.elim;rename_i hk;have n:∀x∈y.o.op.operands.toList,uS x=true:=eO.1 b;have A:∀X:S,(∀x∈y.o.op.operands.toList,X.ev cf.gl x=s.ev cf.gl x)->¬(y.o.op.operands.toList.any λz=>(X.ev cf.gl z).ec)=true:=by
  intro X V hh;obtain⟨z,m,af⟩:=jy.1 hh;exact hk (jy.2 ⟨z,m,by rw[<-V z m];exact af⟩)
 split at h;rename_i t W;split at h;rename_i D M;split at h;rename_i R;simp only[aw] at R;refine⟨t,dV D,.loc y.ix 0,h,qY R.2,λ_ _ _=>by simp[C.aQ],λX F V P L=> ?_⟩;have Q:X.eD (dV D)=true:=by simp only[S.eD,P,Gd];exact Ph D
 refine⟨Q, ?_⟩;unfold gP fJ;rw[aJ (A X V)];have H:oA X.ak y.ix t=true:=by simp[oA,L,GY R.2]
 simp only[W,M,Q,H,xT,cH];rfl;exact h.elim;exact h.elim;rename_i t z W;split at h;rename_i D M;split at h;rename_i R;simp only[aw] at R;obtain⟨⟨⟨l,k⟩,B⟩,j⟩:=R;refine⟨t,(s.ev cf.gl z).cells,.loc y.ix 0,h,qY j,λ_ _ _=>by simp[C.aQ],λX F V P L=> ?_⟩;have G:=V z (by rw[W];simp[gu]);have Q:X.eD (s.ev cf.gl z).cells=true:=by
  simp only[S.eD,P,Gd];rw[<-G];exact Vx (yL P (n z (by rw[W];simp[gu])))
 refine⟨Q, ?_⟩;unfold gP fJ;rw[aJ (A X V)];have H:oA X.ak y.ix t=true:=by simp[oA,L,GY j]
 simp only[W,M,G,l,Q,B,H,xT,cH];rfl;exact h.elim;exact h.elim;rename_i t v parts W;split at h;rename_i e aj q M;split at h;rename_i te ag;split at h;rename_i N g;split at h;rename_i R;simp only[aw] at R;obtain⟨⟨l,k⟩,B⟩:=R;refine⟨e,N,.ij y.ix 0 v v,h,qY B,λ_ _ _=>by simp[C.aQ],λX F V P L=> ?_⟩;have G:(parts.toList.map λp=>(p.1,X.ev cf.gl p.2))=parts.toList.map λp=>(p.1,s.ev cf.gl p.2):=jh λp u=>by rw[V p.2 (by rw[W];simp[gu];exact⟨p.1,by simpa using u⟩)]
 have Q:X.eD N=true:=by
  simp only[S.eD,P,Gd];refine ady (adz (Ph te) v) (λq f=> ?_) g;rw[<-G] at f;obtain⟨d,u,rfl⟩:=gL.1 f;exact yL P (n d.2 (by rw[W];simp[gu];exact⟨d.1,by simpa using u⟩))
 refine⟨Q, ?_⟩;unfold gP fJ;rw[aJ (A X V)];have H:oA X.ak y.ix e=true:=by simp[oA,L,GY B]
 simp only[W,M,ag,G,g,Q,k,H,xT,cH];rfl;exact h.elim;exact h.elim;exact h.elim;exact h.elim
 all_goals(rename_i W;simp[fW,W] at c)<;>skip
def KU(h:fW l.op=J):dW cf R l=.op:=by
 unfold dW;cases X:l.op<;>rw[X] at h<;>simp[fW] at h<;>rfl
def Hq{X:Bool}(h:fW l.op=J)(W:X=J):eA cf l b X R=none:=by
 subst W;unfold eA;cases V:l.op<;>rw[V] at h<;>simp[fW] at h<;>first|rfl|simp
def wJ(s:S)(n:Nat)(t:TypeId)(X:am)(d:bX)(w:C):(s.more n t X d w).ni=s.ni/\(s.more n t X d w).nb=s.nb/\(s.more n t X d w).rs=s.rs:=fo _ _ _
def Ht{d:bX}{q:Nat}(h:d≠U q):(R.more X v e d r).tmps[q]?=R.tmps[q]?:=lz h
def AH(s:S)(n:Nat)(t:TypeId)(X:am)(d:bX)(w:C):(s.more n t X d w).ak=s.ak.set n (U (t,X)):=kU _ _ _
def AI{d W:bX}{w:C}(h:∀x,d=U x->W≠U x):(R.put d r).more X v e W w=(R.more X v e W w).put d r:=by
 unfold S.more;have:(R.put d r).cU X v e=(R.cU X v e).put d r:=by cases d<;>rfl
 rw[this,Vr h]
def VA{s:S}{n n':Nat}{X:TypeId}{W V:am}{d e:bX}{w:C}(h:∀x,d=U x->e≠U x)(R:n≠n'):(s.more n v W d r).more n' X V e w=(s.more n' X V e w).more n v W d r:=by
 show((s.cU n v W).put d r).more n' X V e w=_;rw[AI h];unfold S.more;have:((s.cU n v W).cU n' X V).put e w=((s.cU n' X V).put e w).cU n v W:=by
  have Q:(s.cU n v W).cU n' X V=(s.cU n' X V).cU n v W:=by simp only[S.cU];rw[List.set_comm _ _ R]
  rw[Q];cases e<;>rfl
 rw[this]
def adB:∀{l:am}{P O N:Nat}{V:Nat->Bool}{i:Nat},C.dA P O N V l=J->i∈C.nN l->V i=true:=by
 have L:∀(n:Nat)(l:am),SizeOf.sizeOf l<n->∀{P O N:Nat}{V:Nat->Bool}{i:Nat},C.dA P O N V l=J->i∈C.nN l->V i=true:=by
  intro n;induction n with
  |zero=>intro l h;omega
  |succ n R=>
   intro l Q P O N V i W X;cases l with
   |nil=>simp[C.nN] at X
   |cons x M=>
    simp only[C.gO,aw] at W;simp only[C.nN,eC] at X;simp only[List.cons.sizeOf_spec] at Q;rcases X with X|X;cases x with
    |loc j o=>simp[C.DU] at X;subst X;simpa only[C.aQ] using W.1
    |ij j a b c=>simp[C.DU] at X;subst X;simpa only[C.aQ] using W.1
    |agg m=>exact R m (by simp at Q;omega) (by simpa only[C.aQ] using W.1) X
    |bA m=>exact R m (by simp at Q;omega) (by simpa only[C.aQ] using W.1) X
    |fn f m=>exact R m (by simp at Q;omega) (by simpa only[C.aQ] using W.1) X
    |fT t y=>exact R [y] (by
     have H:0<SizeOf.sizeOf M:=by cases M<;>simp<;>omega
     simp at Q⊢;omega) (by simpa[C.gO,C.aQ] using W.1) (by simpa[C.nN,C.DU] using X)
    |mp j=>simp[C.DU] at X;subst X;simpa only[C.aQ] using W.1
    |fy e G m=>exact R m (by simp at Q;omega) (by have:=W.1;simp only[C.aQ,aw] at this;exact this.2) X
    |_=>simp[C.DU] at X
    exact R M aa W.2 X
 intro l P O N V i;exact L _ l (Nat.lt_succ_self _)
def adC{l:bn}{x:TypeId×am}(h:X∉t)(R:fA l X=J):pS t 0 (l.set X (U x))=pS t 0 l:=by
 apply jV;intro i;rw[OY,OY,gV];by_cases W:i=X;subst W;have V:=(mc R).2;rw[Dy V,ce V];simp[h];rw[pM (λe=>W e.symm)]
def adD(X:aI)(s:S)(n:Nat)(t:TypeId)(W:am)(d:bX)(w:C):((s.more n t W d w).b9 X).1=(s.b9 X).1/\((s.more n t W d w).b9 X).2=(s.b9 X).2.more n t W d w:=by
 induction X generalizing s with
 |nil=>exact⟨rfl,rfl⟩
 |cons k X V=>
  simp only[S.b9];have R:((s.more n t W d w).fresh k).1=(s.fresh k).1/\((s.more n t W d w).fresh k).2=(s.fresh k).2.more n t W d w:=by
   cases k<;>cases d<;>exact⟨rfl,rfl⟩
  rw[R.1,R.2];exact⟨by rw[(V _).1],(V _).2⟩
def Pj(s:S)(X:am)(W:aI)(n:Nat)(t:TypeId)(V:am)(d:bX)(w:C):(s.more n t V d w).cut X W=(s.cut X W).more n t V d w:=by cases d<;>rfl
def anH{d:bX}(h:(R.put d r).bd=J)(X:∀e,d=U e->u7 R e):R.bd=true:=by
 cases d with
 |none=>exact h
 |some d=>
  simp only[S.bd,S.put,tw,aw] at h⊢;exact⟨Vu h.1 (X d rfl),h.2⟩
def adF{V:bX}{d:bX}{aN:BE}{W:TypeId}{k:RK}{x:LE}{cM:ap}{b:BI}(O:(R.more X v e V r).bd=J)(N:∀q,V=U q->d≠U q)
  (h:jA R d aN W k x t cM=U b):jA (R.more X v e V r) d aN W k x t cM=U {b with s:=b.s.more X v e V r}:=by
 unfold jA at h⊢;split at h;rename_i Q;cases h;simp only[aw] at Q;obtain⟨⟨⟨A,M⟩,L⟩,H⟩:=Q;obtain⟨G,F,P⟩:=wJ R X v e V r;rw[aE (by simp only[aw];rw[G,F,P];exact⟨⟨⟨O,M⟩,L⟩,H⟩)];congr 2;rw[P,AI (λq D B=>N q B D)];cases V<;>rfl;cases h
def anI{Q:bX}{P:Ty}{W:TypeId}{O:TI}{y:C}{V:LE×BE×ap}(L:fA R.ak X=J)(h:pT P R W O y=U V):pT P (R.more X v e Q r) W O y=U V:=by
 have N:(R.more X v e Q r).rs=R.rs:=(wJ _ _ _ _ _ _).2.2;unfold pT at h⊢;split at h;simp only[u6 N];exact h;rename_i i G F D;rw[AH];split at h;rename_i M;have H:i≠X:=λW=>by subst W;have:=(mc L).1;simp[aF,(wu M).1] at this
 rw[Kk (ww H)];simp only[M,Ci N];exact h;cases h;cases h
def adG{V:bX}{W:TypeId}{y:C}:tD cf.ty (R.more X v e V r) W b y=tD cf.ty R W b y:=by
 have Q:(R.more X v e V r).rs=R.rs:=(wJ _ _ _ _ _ _).2.2;have P:(R.more X v e V r).lk=R.lk:=Pg _ _ _;unfold tD;simp only[Q,P,u6 Q]
def anJ{Q:bX}{W:BI}(H:fA R.ak X=J)(M:(R.more X v e Q r).bd=J)(L:∀q,Q=U q->l.dst≠U q)
  (P:∀z∈l.op.operands.toList,(R.more X v e Q r).ev cf.gl z=R.ev cf.gl z)(h:eA cf l b J R=U W):eA cf l b J (R.more X v e Q r)=U {W with s:=W.s.more X v e Q r}:=by
 have G:(R.more X v e Q r).rs=R.rs:=(wJ _ _ _ _ _ _).2.2;have O:=Ho h;unfold eA at h⊢;cases F:l.op<;>rw[F] at O h P<;>simp[rR] at O;rename_i t' D B;simp only at h⊢;rw[P D bS,P B bS];split at h;rename_i V aj q A m2 y x u;split at h;rename_i m k;split at h;rename_i j;rw[Ci G,aE j];exact adF M L h;cases h;cases h;cases h;rename_i c;cases N:c.callee with
 |builtin i=>
  cases i<;>simp[N] at O;simp only[N] at h⊢;have g:c.args.toList.map ((R.more X v e Q r).ev cf.gl)=c.args.toList.map (R.ev cf.gl):=jh λz f=>P z (by simp[gu,xS];exact .inr (by simpa using f))
  rw[g];split at h;rename_i t1 t2 x0 y0 x u;split at h;rename_i V aj q e2 ag q2 y al;split at h;rename_i m k;split at h;cases h;rename_i d;rw[aJ d,adG];split at h;rename_i la n1 an lb A cM a g2;rw[a,anI H g2];split at h;cases h;rename_i af;simp only[aJ af];exact adF M L h;cases h;cases h;cases h;cases h
 |_=>simp[N] at O
mutual
def C.dY{Q P O N M L:Nat}{H G:Nat->Bool}(W:Q<=N)(V:P<=M)(R:O<=L)(h:∀i,H i=J->G i=J):∀(v:C),v.bd Q P O H=J->v.bd N M L G=J
 |.int _ e,X=>by simp only[C.aQ] at X⊢;exact K.dY W V R e X
 |.bool e,X=>by simp only[C.aQ] at X⊢;exact BE.dY W V R e X
 |.ah e,X=>by simp only[C.aQ] at X⊢;exact RE.dY W V R e X
 |.loc i _,X=>by simp only[C.aQ] at X⊢;exact h i X
 |.ij i _ _ _,X=>by simp only[C.aQ] at X⊢;exact h i X
 |.el r _ i _,X=>by simp only[C.aQ,aw] at X⊢;exact⟨RE.dY W V R r X.1,K.dY W V R i X.2⟩
 |.agg l,X=>by simp only[C.aQ] at X⊢;exact C.Hu W V R h l X
 |.bA l,X=>by simp only[C.aQ] at X⊢;exact C.Hu W V R h l X
 |.fn _ l,X=>by simp only[C.aQ] at X⊢;exact C.Hu W V R h l X
 |.fT _ x,X=>by simp only[C.aQ] at X⊢;exact C.dY W V R h x X
 |.yl _,_=>by simp only[C.aQ]
 |.any,_=>by simp only[C.aQ]
 |.mp i,X=>by simp only[C.aQ] at X⊢;exact h i X
 |.fy e _ F,X=>by simp only[C.aQ,aw] at X⊢;exact⟨K.dY W V R e X.1,C.Hu W V R h F X.2⟩
def C.Hu{W V R Q P O:Nat}{N M:Nat->Bool}(L:W<=Q)(H:V<=P)(G:R<=O)(h:∀i,N i=J->M i=J):∀(l:am),C.dA W V R N l=J->C.dA Q P O M l=J
 |[],_=>rfl
 |x::F,X=>by simp only[C.gO,aw] at X⊢;exact⟨C.dY L H G h x X.1,C.Hu L H G h F X.2⟩
end
def KV{s':S}{d:bX}(X:R.bd=J)(V:R.ni<=s'.ni)(Q:R.nb<=s'.nb)(P:Y R.rs<=Y s'.rs)(N:s'.tmps=R.tmps)(M:s'.ak=R.ak)(L:r.bd s'.ni s'.nb (Y s'.rs) (aF s'.ak)=J):(s'.put d r).bd=true:=by
 simp only[S.bd,aw] at X⊢;obtain⟨H,G,F⟩:=fo s' d r;rw[H,G,F,kU,M];rw[M] at L;refine⟨?_, ?_⟩;rw[tM];intro u W;cases d with
 |none=>
  simp only[S.put,N] at W;exact C.dY V Q P (λ_ h=>h) u (tM.1 X.1 u W)
 |some d=>
  simp only[S.put,tw,N] at W;rcases Bw W with O|O;exact C.dY V Q P (λ_ h=>h) u (tM.1 X.1 u O);rw[O];exact L
 rw[AG];exact λi b D=>C.Hu V Q P (λ_ h=>h) _ (AG.1 X.2 i b D)
def VB:∀(X:aI)(s:S),s.ni<=(s.b9 X).2.ni/\s.nb<=(s.b9 X).2.nb/\Y s.rs<=(s.b9 X).2.rs.length
 |[],s=>⟨bU _,bU _,bU _⟩
 |k::X,s=>by
  have:=VB X (s.fresh k).2;simp only[S.b9];cases k<;>simp[S.fresh] at this⊢<;>omega
def adH{pr:Nat->Bool}:∀(X:aI)(s:S),C.dA (s.b9 X).2.ni (s.b9 X).2.nb (s.b9 X).2.rs.length pr (s.b9 X).1=J
 |[],s=>rfl
 |k::X,s=>by
  have W:=adH (pr:=pr) X (s.fresh k).2;have V:=VB X (s.fresh k).2;simp only[S.b9,C.gO,aw];refine⟨?_,W⟩;cases k<;>simp only[S.fresh,C.aQ,K.aQ,BE.aQ,RE.aQ,bZ]<;>simp[S.fresh] at V<;>omega
def adI{N:Ty}{W V R:Nat}{Q:Nat->Bool}:∀{O:iX}{l r:am},C.dA W V R Q l=J->yc N O l=U r->C.dA W V R Q r=J
 |[],l,r,_,h=>by simp[yc] at h;subst h;rfl
 |t::O,l,r,X,h=>by
  simp only[yc] at h;split at h;rename_i M F;split at h;rename_i D L;cases h;have H:C.dA W V R Q (l.drop (Y M.aj))=true:=by rw[tM] at X⊢;exact λv P=>X v (zU P)
  simp only[C.gO,aw];refine⟨?_,adI H L⟩;split;simp only[C.aQ];rw[tM] at X⊢;exact λv P=>X v (Bz P)
  rw[cw];cases G:l[0]? with
  |none=>simp[C.aQ]
  |some v=>exact tJ X G
  cases h;cases h
def anK{W V:Nat}{R:Nat->Bool}(h:C.dA X W V R e=J):(one e).bd X W V R=true:=by
 unfold one;split;simp only[C.gO,JL] at h;exact h;simp only[C.aQ];exact h
def anL(W:R.bd=J){X:aI}{V:iX}{r:am}{d:bX}(h:yc cf.ty V ((R.cut e X).b9 X).1=U r):((((R.cut e X).b9 X).2).put d (one r)).bd=true:=by
 obtain⟨Q,P,L,H⟩:=u5 X (R.cut e X);obtain⟨O,N,M⟩:=VB X (R.cut e X);refine KV W O N ?_ P Q (anK (adI (adH X _) h));have:=(Cf e X R.rs).len;simp only[S.cut] at M⊢;omega
def KW{X:BI}(h:eA cf l b J R=U X):R.bd=J/\X.s.bd=J/\X.s.ak=R.ak:=by
 have P:∀{aN:BE}{e:TypeId}{k:RK}{x:LE}{V cM:ap},jA R l.dst aN e k x V cM=U X->R.bd=J/\X.s.bd=J/\X.s.ak=R.ak:=by
  intro aN e k x V cM h;obtain⟨O,-,rfl⟩:=wA h;refine⟨O, ?_,kU _ _ _⟩;exact KV (s':={R with rs:=jz cM 0 (iw V 0 R.rs)++[k]}) O (bU _) (bU _) (by simp[yC,yB]) rfl rfl (by simp[C.aQ,RE.aQ,yC,yB])
 have W:=Ho h;unfold eA at h;cases N:l.op<;>rw[N] at W h<;>simp[rR] at W;simp only at h;split at h;split at h;split at h;exact P h;cases h;cases h;cases h;rename_i c;cases Q:c.callee with
 |builtin M=>
  cases M<;>simp[Q] at W;simp only[Q] at h;split at h;split at h;split at h;split at h;cases h;split at h;split at h;cases h;exact P h;cases h;cases h;cases h;cases h
 |_=>simp[Q] at W
def VC{Q:S}(V:fW h.o.op=J)(X:gP cf h R x Q):R.bd=true:=by
 unfold gP fJ at X;split at X;exact X.elim
 ·cases P:h.o.op<;>rw[P] at V X<;>simp[fW] at V<;>simp only at X
  all_goals
   (repeat' split at X)
   all_goals first
    |exact X.elim
    |(rename_i W;simp only[aw,S.eD] at W;first|exact W.1.1|exact W.1.1.2.1|exact W.1.1.1)
def anM{X:TI}(W:h.o.op=.alloc v)(V:cf.ty v=U X)(Q:ow v=E)(P:R.bd=J)(N:fA R.ak h.ix=J):gP cf h R x (R.more h.ix v (dV X) h.o.dst (.loc h.ix 0)):=by
 have M:R.eD (dV X)=true:=by simp only[S.eD,P,Gd];exact Ph X
 unfold gP fJ;rw[aJ (by rw[W];simp[gu])];have L:oA R.ak h.ix v=true:=by simp[oA,N,Q]
 simp only[W,V,M,L,xT,cH];rfl
def anN{y:OM}{s X:S}{O:ai}{t:TypeId}{W:TI}(V:y.o.op=.alloc t)(R:cf.ty t=U W)(h:gP cf y s O X):X=s.more y.ix t (dV W) y.o.dst (.loc y.ix 0):=by
 unfold gP fJ at h;rw[aJ (by rw[V];simp[gu])] at h;simp only[V,R] at h;split at h;exact h;exact h.elim
structure anO(B:db)(x y:OM):Prop where
 xy:∀q,x.o.dst=U q->y.o.dst≠U q
 yx:∀q,y.o.dst=U q->x.o.dst≠U q
 ry:∀q,x.o.dst=U q->q∉iY B y.o
 rx:∀q,y.o.dst=U q->q∉iY B x.o
def adJ{x y:OM}(h:Oc B x y=J):anO B x y:=by
 unfold Oc at h;simp only[aw] at h;obtain⟨W,V⟩:=h;have R:∀q,x.o.dst=U q->y.o.dst≠U q:=λq X=>by rw[X] at W;simp at W;exact W.2
 exact⟨R,λq X Q=>R q Q X,λq X=>by rw[X] at W;simp at W;exact W.1,λq X=>by rw[X] at V;simpa using V⟩
def VD{X:S}(W:∀t∈iY B l,R.tmps[t]?=X.tmps[t]?):∀z∈l.op.operands.toList,R.ev cf.gl z=X.ev cf.gl z:=by
 intro z V;cases z with
 |tmp t=>
  have:t∈iY B l:=by unfold iY;exact uC _ (zV.2 ⟨.tmp t,V,rfl⟩)
  simp only[S.ev,uM,cw,W t this]
 |_=>rfl
def adK{X:S}(W:∀t∈iY B h.o,R.tmps[t]?=X.tmps[t]?)(V:R.ni=X.ni)(Q:R.nb=X.nb)(P:R.rs=X.rs):gq B h R x=gq B h X x:=by
 unfold gq;cases N:h.o.guard with
 |none=>rfl
 |some q=>
  obtain⟨j,L⟩:=q;simp only;cases M:(B[j]?).bind (·.dst) with
  |none=>rfl
  |some d=>
   simp only;rw[W d (by unfold iY;rw[N];exact JC _ (by simp[M])),V,Q,P]
def adL{g:FuncId}(h:dW cf R l=.call (.fn g) e)(Q:R.bd=J)(G:l.op.operands.toList.all uS=J):C.dA R.ni R.nb (Y R.rs) (aF R.ak) e=true:=by
 have P:∀x∈l.op.operands.toList,uS x=true:=eO.1 G;unfold dW at h;split at h;split at h<;>cases h;rename_i c O;split at h;rename_i f F;split at h;rename_i N M D;split at h;cases h;have X:C.dA R.ni R.nb (Y R.rs) (aF R.ak) (c.args.toList.map (R.ev cf.gl))=true:=by
  rw[tM];intro v B;obtain⟨z,A,rfl⟩:=gL.1 B;exact yL Q (P z (by rw[O];simp[gu,xS];exact .inr (by simpa using A)))
 have L:C.dA R.ni R.nb (Y R.rs) (aF R.ak) M=true:=by
  have:=yL (cf:=cf) Q (P f (by rw[O];simp[gu,xS,F]));rw[D] at this;simpa only[C.aQ] using this
 unfold wh at h;cases M with
 |nil=>cases h;exact X
 |cons v r=>
  cases W:iW N 1000000;cases H:iW N 2000000;simp only[W,H,cond_false] at h;cases h;simp only[W,H,cond_false,cond_true,CK.call.injEq,wb.fn.injEq] at h;obtain⟨-,rfl⟩:=h;have V:C.dA R.ni R.nb (Y R.rs) (aF R.ak) ([v]++r)=true:=L;rw[Hp] at V;show C.dA R.ni R.nb (Y R.rs) (aF R.ak) ([v]++(c.args.toList.map (R.ev cf.gl)++r))=J;rw[Hp,Hp];exact⟨V.1,X,V.2⟩;rw[W] at h;cases h;rw[Hp];exact⟨X,L⟩
 split at h<;>cases h;cases h;cases h;split at h;split at h<;>cases h;cases h;cases h;cases h
def anP{g:FuncId}{Q A:ai->C->S->Prop}{H:am}{d:bX}(F:fA R.ak X=J)(z:C.dA R.ni R.nb (Y R.rs) (aF R.ak) e=J)(m:(R.more X v H d r).bd=J)
  (h:Hk p cf R x g e Q)(l:∀y (G:iX)(L:aI)(P:am),yc cf.ty G ((R.cut e L).b9 L).1=U P->Q y (one P) ((R.cut e L).b9 L).2->A y (one P) (((R.cut e L).b9 L).2.more X v H d r)):Hk p cf (R.more X v H d r) x g e A:=by
 obtain⟨G,L,P,k,j,q,o,f⟩:=h;obtain⟨c,b,D⟩:=wJ R X v H d r;obtain⟨a,f2⟩:=adD L (R.cut e L) X v H d r;have af:X∉C.nN e:=λhm=>by have:=adB z hm;rw[(mc F).1] at this;cases this
 have ag:pS (C.nN e) 0 (R.more X v H d r).ak=pS (C.nN e) 0 R.ak:=by rw[AH];exact adC af F
 simp only[aw,S.eD] at o;refine⟨G,L,P,k,j,by rw[Pj,a];exact q, ?_,λV W N=> ?_⟩;simp only[aw,S.eD];refine⟨⟨m, ?_⟩,o.2⟩;rw[c,b,D,AH];exact C.Cj (λi hi=>(nX (mc F).2).2 (.inr hi)) e z;rw[ag,D] at N;refine(f V W N).mono ?_;intro M W' B;cases M with
 |returned u=>
  obtain⟨xs,q1,q2,q3,q4,q5⟩:=B;refine⟨xs,q1,q2,q3,by rw[D];exact q4, ?_⟩;rw[Pj,f2];exact l _ G L P q q5
 |panicked ch=>exact B
 |outgrown=>exact B
def anQ{g:FuncId}{Q B:ai->C->S->Prop}{H:am}{d:bX}(A:fA R.ak X=J)(z:C.dA R.ni R.nb (Y R.rs) (aF R.ak) e=J)(k:R.bd=J)
  (h:Hk p cf (R.more X v H d r) x g e Q)(j:∀y (G:iX)(L:aI)(P:am),yc cf.ty G ((R.cut e L).b9 L).1=U P->Q y (one P) (((R.cut e L).b9 L).2.more X v H d r)->B y (one P) ((R.cut e L).b9 L).2):Hk p cf R x g e B:=by
 obtain⟨G,L,P,i,f,F,q,c⟩:=h;obtain⟨p1,p2,o⟩:=wJ R X v H d r;obtain⟨b,a⟩:=adD L (R.cut e L) X v H d r;have af:X∉C.nN e:=λhm=>by have:=adB z hm;rw[(mc A).1] at this;cases this
 have ag:pS (C.nN e) 0 (R.more X v H d r).ak=pS (C.nN e) 0 R.ak:=by rw[AH];exact adC af A
 simp only[aw,S.eD] at q;rw[Pj,b] at F;refine⟨G,L,P,i,f,F, ?_,λV W N=> ?_⟩;simp only[aw,S.eD];exact⟨⟨k,z⟩,q.2⟩;refine(c V W (by rw[ag,o];exact N)).mono ?_;intro M W' D;cases M with
 |returned u=>
  obtain⟨xs,q1,q2,q3,m,l⟩:=D;rw[o] at m;rw[Pj,a] at l;exact⟨xs,q1,q2,q3,m,j _ G L P F l⟩
 |panicked ch=>exact D
 |outgrown=>exact D
def anR(an:yK B A){x y:OM}{u:ck}{s:S}{O:ai}(b2:x.so=E)(a9:Gt B x y=J)(b3:∀d,x.o.dst=U d->u7 s d)(N:fA s.ak y.ix=J)(hz:∀t,y.o.op=.alloc t->Ed cf t=J)
  (h:ef p cf B A F G H (x::y::u) O s):ef p cf B A F G H (y::x::u) O s:=by
 unfold Gt at a9;simp only[aw] at a9;obtain⟨⟨⟨⟨⟨⟨⟨⟨ba,bl⟩,hy⟩,bc⟩,m⟩,b4⟩,br⟩,b5⟩,bs⟩:=a9;have bc:y.o.guard=none:=by simpa using bc
 have D:=adJ b5;obtain⟨t,l⟩:∃t,y.o.op=.alloc t:=by cases l:y.o.op<;>rw[l] at hy<;>simp[D9] at hy;exact⟨_,rfl⟩
 have a0:=hz t l;simp only[Ed,aw,f9] at a0;obtain⟨a0,b6⟩:=a0;obtain⟨R,ht⟩:=jw.1 a0;have k:fW y.o.op=true:=by rw[l];rfl
 have bt:∀(s':S)(M:ai),gq B y s' M=U true:=λs' M=>by simp[gq,bc]
 have j:∀{M:ai}{i:S},ef p cf B A F G H (y::u) M i->i.bd=J/\ef p cf B A F G H u M (i.more y.ix t (dV R) y.o.dst (.loc y.ix 0)):=by
  intro M i hr;simp only[ef,bt,KU k,Hq k bl,q7] at hr;rcases hr with⟨Q,_⟩|⟨_,s3,X,P⟩;cases Q;have:=anN l ht X;subst this;exact⟨VC k X,P⟩
 have done:s.bd=J->ef p cf B A F G H (x::u) O (s.more y.ix t (dV R) y.o.dst (.loc y.ix 0))->ef p cf B A F G H (y::x::u) O s:=by
  intro W X;rw[ef];refine .inr ⟨bt s O, ?_⟩;rw[KU k];simp only[Hq k bl,q7];exact⟨_,anM l ht b6 W N,X⟩
 have a1:s.bd=J->(s.more y.ix t (dV R) y.o.dst (.loc y.ix 0)).bd=true:=λW=>adA W N (by simp only[S.eD,W,Gd];exact Ph R) (by simp[C.aQ])
 obtain⟨p1,p2,p3⟩:=wJ s y.ix t (dV R) y.o.dst (.loc y.ix 0);have a:gq B x (s.more y.ix t (dV R) y.o.dst (.loc y.ix 0)) O=gq B x s O:=adK (λq hq=>Ht (λe=>D.rx q e hq)) p1 p2 p3;have af:∀z∈x.o.op.operands.toList,(s.more y.ix t (dV R) y.o.dst (.loc y.ix 0)).ev cf.gl z=s.ev cf.gl z:=VD (λq hq=>Ht (λe=>D.rx q e hq));rw[ef] at h;rcases h with⟨Q,X⟩|⟨Q,X⟩
 ·obtain⟨g1,g2⟩:=j X;refine done (anH g1 b3) ?_;rw[ef];refine .inl ⟨by rw[a];exact Q, ?_⟩;rw[<-AI D.xy];exact g2
 ·cases V:dW cf s x.o with
  |call g0 bf=>
   rw[V] at X;rcases g0 with g|n
   rotate_left
   have P:=X.1;rw[b2] at P;cases P;have L:oJ _ _ _:=X;clear X;cases ag:A g bf s with
   |some ve=>
    obtain⟨pv,ex⟩:=ve;rw[ag] at L;obtain⟨W,L⟩:=L;have hR:=an.Vo _ _ _ _ ag;have bg:Gs x.o.op=true:=by simpa[hR,Vp V] using bs
    have bk:=adp bg V;subst bk;refine done W ?_;rw[ef];refine .inr ⟨by rw[a];exact Q, ?_⟩;rw[Ch af,V];show oJ _ _ _;rw[show A g [] (s.more y.ix t (dV R) y.o.dst (.loc y.ix 0))=U (pv,ex) from(an.z _ _ _ _ _ _ _ N).trans ag];refine⟨a1 W, ?_⟩;have b7:=(mc N).2;have b8:(s.more y.ix t (dV R) y.o.dst (.loc y.ix 0)).plus ex=(s.plus ex).more y.ix t (dV R) y.o.dst (.loc y.ix 0):=by
     have:(s.cU y.ix t (dV R)).plus ex=(s.plus ex).cU y.ix t (dV R):=by
      simp only[S.cU,S.plus,List.set_append_left _ _ b7]
     unfold S.more;rw[<-this];cases y.o.dst<;>rfl
    rw[b8,<-AI D.xy];exact(j L).2
   |none=>
   rw[ag] at L;simp only[oJ] at L;have X:=L;have W:s.bd=true:=by obtain⟨ts,ks,r,c1,c2,c3,c4,c5⟩:=X;simp only[aw,S.eD] at c4;exact c4.1.1
   refine done W ?_;rw[ef];refine .inr ⟨by rw[a];exact Q, ?_⟩;rw[Ch af,V];show oJ _ _ _;have ca:A g bf (s.more y.ix t (dV R) y.o.dst (.loc y.ix 0))=none:=by
    cases hh:A g bf (s.more y.ix t (dV R) y.o.dst (.loc y.ix 0)) with
    |none=>rfl
    |some r=>
     exfalso;have hR:=an.Vo _ _ _ _ hh;have bg:Gs x.o.op=true:=by simpa[hR,Vp V] using bs
     have bk:=adp bg V;subst bk;have:=(an.z g s y.ix t (dV R) y.o.dst (.loc y.ix 0) N).symm.trans hh;rw[ag] at this;cases this
   rw[ca];simp only[oJ];refine anP N (adL V W br) (a1 W) X (λM ts ks r _ hr=> ?_);rw[<-AI D.xy];exact(j hr).2
  |aW v=>
   exfalso;have hp:=Vt V;cases a3:x.o.op<;>rw[a3] at m hp<;>simp[Gr,fW,rR,wn] at hp m;rename_i c;cases a4:c.callee<;>simp[a4] at hp m;rename_i bb;cases bb<;>simp at hp m
  |no=>rw[V] at X;exact X.elim
  |op=>
   rw[V] at X;simp only at X;cases W:eA cf x.o x.bC x.dr s with
   |some b=>
    rw[W] at X;obtain⟨hn,X⟩:=X;rw[ba] at W;obtain⟨q1,q2,q3⟩:=KW W;refine done q1 ?_;rw[ef];refine .inr ⟨by rw[a];exact Q, ?_⟩;rw[Ch af,V];simp only;rw[ba,anJ N (a1 q1) D.yx af W];refine⟨hn,λrv bx=> ?_⟩;rw[p3] at bx;exact(j (X rv bx)).2
   |none=>
    rw[W] at X;obtain⟨i,P,h4⟩:=X;have al:fW x.o.op=true:=by
     simp only[iD] at m;rcases m with(w|w)|w;exact w;exact(Vv w P).elim
     ·exfalso;cases a3:x.o.op<;>rw[a3] at w<;>simp[wn] at w;rename_i c;cases a4:c.callee<;>simp[a4] at w;rename_i f;simp only[dW,a3,a4] at V
      (repeat' split at V)<;>first|exact(aa8 V).elim|cases V
    have b0:x.ix≠y.ix:=by simpa[al] using b4
    have b1:=VC al P;obtain⟨tx,cx,wx,rfl,g2,g3,g4⟩:=Vz al br P;refine done b1 ?_;rw[ef];refine .inr ⟨by rw[a];exact Q, ?_⟩;rw[KU al];simp only[Hq al ba,q7];refine⟨_,(g4 _ O af (a1 b1) ?_).2, ?_⟩;unfold fA at g2⊢;rw[AH,pM (λe=>b0 e.symm)];exact g2;rw[VA D.yx (λe=>b0 e.symm)];exact(j h4).2
def adM{V:bX}{d:bX}{aN:BE}{W:TypeId}{k:RK}{x:LE}{cM:ap}{P:BI}(N:R.bd=J)(M:∀q,V=U q->d≠U q)
  (h:jA (R.more X v e V r) d aN W k x t cM=U P):∃b,jA R d aN W k x t cM=U b/\P={b with s:=b.s.more X v e V r}:=by
 obtain⟨L,H,O⟩:=wJ R X v e V r;unfold jA at h⊢;split at h;rename_i Q;cases h;simp only[aw] at Q;rw[L,H,O] at Q;obtain⟨⟨⟨z,G⟩,F⟩,D⟩:=Q;rw[aE (by simp only[aw];exact⟨⟨⟨N,G⟩,F⟩,D⟩)];refine⟨_,rfl, ?_⟩;congr 1;rw[O,AI (λq B A=>M q A B)];cases V<;>rfl;cases h
def anS{P:bX}{O:Ty}{W:TypeId}{N:TI}{y:C}{V:LE×BE×ap}(L:fA R.ak X=J)(Q:y.bd R.ni R.nb (Y R.rs) (aF R.ak)=J)(h:pT O (R.more X v e P r) W N y=U V):pT O R W N y=U V:=by
 have M:(R.more X v e P r).rs=R.rs:=(wJ _ _ _ _ _ _).2.2;unfold pT at h⊢;split at h;simp only[u6 M] at h;exact h;rename_i i F D B;rw[AH] at h;have H:i≠X:=λW=>by subst W;simp only[C.aQ] at Q;rw[(mc L).1] at Q;cases Q
 rw[Kk (ww H)] at h;split at h;rename_i G;simp only[Ci M] at h
 first|exact h|(rw[G];exact h)
 cases h;cases h
def anT{Q:bX}{H:BI}(y:fA R.ak X=J)(N:R.bd=J)(G:∀q,Q=U q->l.dst≠U q)(u:l.op.operands.toList.all uS=J)
  (P:∀z∈l.op.operands.toList,(R.more X v e Q r).ev cf.gl z=R.ev cf.gl z)(h:eA cf l b J (R.more X v e Q r)=U H):∃W,eA cf l b J R=U W/\H={W with s:=W.s.more X v e Q r}:=by
 have m:(R.more X v e Q r).rs=R.rs:=(wJ _ _ _ _ _ _).2.2;have F:∀x∈l.op.operands.toList,uS x=true:=eO.1 u;have O:=Ho h;unfold eA at h⊢;cases k:l.op<;>rw[k] at O h P F<;>simp[rR] at O;rename_i t' j i;simp only at h⊢;rw[P j bS,P i bS] at h;split at h;rename_i V aj q g m2 f d D;split at h;rename_i a af;split at h;rename_i B;rw[Ci m] at B;rw[aE B];exact adM N G h;cases h;cases h;cases h;rename_i c;cases M:c.callee with
 |builtin bb=>
  cases bb<;>simp[M] at O;simp only[M] at h⊢;have ag:c.args.toList.map ((R.more X v e Q r).ev cf.gl)=c.args.toList.map (R.ev cf.gl):=jh λz L=>P z (by simp[gu,xS];exact .inr (by simpa using L))
  rw[ag] at h;split at h;rename_i t1 t2 x0 A d D;have al:A.bd R.ni R.nb (Y R.rs) (aF R.ak)=true:=by
   have:A∈c.args.toList.map (R.ev cf.gl):=by rw[D];simp
   obtain⟨z,L,rfl⟩:=gL.1 this;exact yL N (F z (by simp[gu,xS];exact .inr (by simpa using L)))
  split at h;rename_i V aj q e2 a1 q2 f a3;split at h;rename_i a af;split at h;cases h;rename_i an;rw[aJ an];rw[adG] at h;split at h;rename_i la n1 a4 lb g cM g1 g2;rw[g1,anS y al g2];split at h;cases h;rename_i a0;simp only[aJ a0];exact adM N G h;cases h;cases h;cases h;cases h
 |_=>simp[M] at O
def anU(cC:yK B A){x y:OM}{bc:ck}{s:S}{O:ai}(cD:y.so=E)(bs:J3 B x y=J)
  (h:ef p cf B A F G H (x::y::bc) O s):ef p cf B A F G H (y::x::bc) O s:=by
 unfold J3 at bs;simp only[aw] at bs;obtain⟨⟨⟨⟨⟨⟨⟨⟨⟨⟨cl,bf⟩,a0⟩,ds⟩,bx⟩,cI⟩,ba⟩,a1⟩,cO⟩,cR⟩,cW⟩:=bs;have bx:x.o.guard=none:=by simpa using bx
 have D:=adJ cR;have cn:∀(N:S)(O':ai),gq B x N O'=U true:=λN O'=>by simp[gq,bx]
 rw[ef] at h;rcases h with⟨h1,_⟩|⟨_,h2⟩;rw[cn] at h1;cases h1;rw[KU a0] at h2;simp only[Hq a0 cl,q7] at h2;obtain⟨s1,h3,h4⟩:=h2;have Q:=VC a0 h3;obtain⟨t,m,w,rfl,L,hw,tr⟩:=Vz a0 cI h3;have dx:s.eD m=true:=(tr s O (λ_ _=>rfl) Q L).1;obtain⟨p1,p2,p3⟩:=wJ s x.ix t m x.o.dst w;have b0:gq B y (s.more x.ix t m x.o.dst w) O=gq B y s O:=adK (λq X=>Ht (λe=>D.ry q e X)) p1 p2 p3;have a3:∀z∈y.o.op.operands.toList,(s.more x.ix t m x.o.dst w).ev cf.gl z=s.ev cf.gl z:=VD (λq X=>Ht (λe=>D.ry q e X));have a4:∀{O':ai}{N:S},(∀q,y.o.dst≠U q->N.tmps[q]?=s.tmps[q]?)->N.bd=J->fA N.ak x.ix=J->ef p cf B A F G H bc O' (N.more x.ix t m x.o.dst w)->ef p cf B A F G H (x::bc) O' N:=by
  intro O' N ht a9 c0 hr;rw[ef];refine .inr ⟨cn _ _, ?_⟩;rw[KU a0];simp only[Hq a0 cl,q7];exact⟨_,(tr N O' (VD (λq X=>ht q (λe=>D.rx q e X))) a9 c0).2,hr⟩
 rw[ef] at h4;rcases h4 with⟨h5,W⟩|⟨h5,W⟩;rw[ef];refine .inl ⟨by rw[<-b0];exact h5, ?_⟩;refine a4 (λq X=>lz X) (KV (s':=s) Q (bU _) (bU _) (bU _) rfl rfl (by simp[C.aQ,C.gO])) (by rw[kU];exact L) ?_;rw[AI D.yx];exact W
 ·rw[ef];refine .inr ⟨by rw[<-b0];exact h5, ?_⟩;rw[Ch a3] at W;cases a:dW cf s y.o with
  |call g0 b5=>
   rw[a] at W;rcases g0 with g|n
   rotate_left
   have h3:=W.1;rw[cD] at h3;cases h3;have co:∀N,A g b5 N=none:=λN=>by
    cases hh:A g b5 N with
    |none=>rfl
    |some r=>
     exfalso;have hR:=cC.Vo _ _ _ _ hh;simp[hR,Vp a] at cW
   have hP:oJ _ _ _:=W;clear W;rw[co] at hP;simp only[oJ] at hP;have W:=hP;show oJ _ _ _;rw[co];simp only[oJ];refine anQ L (adL a Q ba) Q W (λO' ts ks r hm hr=> ?_);obtain⟨b1,b2,b3,b4⟩:=u5 ks (s.cut b5 ks);refine a4 (λq X=>by rw[lz X,b2];rfl) (anL Q hm) (by rw[kU,b1];exact L) ?_;rw[AI D.yx];exact hr
  |aW v=>
   exfalso;have hp:=Vt a;cases bg:y.o.op<;>rw[bg] at a1 hp<;>simp[Gr,fW,rR,wn,BU,wm] at hp a1;rename_i c;cases bk:c.callee<;>simp[bk] at hp a1;rename_i bb;cases bb<;>simp at hp a1
  |no=>rw[a] at W;exact W.elim
  |op=>
   rw[a] at W;show q7 _ _ _;have W:q7 _ _ _:=W;cases bl:eA cf y.o y.bC y.dr (s.more x.ix t m x.o.dst w) with
   |some b1=>
    rw[bl] at W;obtain⟨hn,W⟩:=W;rw[bf] at bl⊢;obtain⟨b,g1,rfl⟩:=anT L Q D.xy ba a3 bl;rw[g1];obtain⟨q1,q2,q3⟩:=KW g1;refine⟨hn,λrv c1=> ?_⟩;refine a4 (Vw g1) q2 (by rw[q3];exact L) (W rv (by rw[p3];exact c1))
   |none=>
    rw[bl] at W;obtain⟨c2,P,h8⟩:=W;by_cases k:BU y.o.op=J
    
    have X:mE y.o.op=true:=by cases V:y.o.op<;>rw[V] at k<;>simp[BU] at k<;>rfl
    have dy:yo y.o.op=false:=by cases V:y.o.op<;>rw[V] at k<;>simp[BU] at k<;>rfl
    rw[bf,adr X];simp only[q7];obtain⟨v,l,hv,rfl⟩:=(Hl (ops:=B) X h5).1 P;have c3:j6 cf B y.o (s.more x.ix t m x.o.dst w) O s O:=j6.wH (λq X=>(Ht (λe=>D.ry q e X)).symm) p3.symm p1.symm p2.symm;have R:=Vq c3 (λi hi=>by
     unfold ya at hi;cases V:y.o.op<;>rw[V] at k hi<;>simp[BU] at k<;>cases hi) hv
    have cp:gq B y s O=U true:=by rw[<-b0];exact h5
    refine⟨_,(Hl (ops:=B) X cp).2 ⟨v,l,R,rfl⟩, ?_⟩;have c4:v.bd s.ni s.nb (Y s.rs) (aF s.ak)=true:=by
     have an:∀z∈y.o.op.operands.toList,uS z=true:=eO.1 ba;rcases R with R|⟨-,-,R⟩;rw[cp] at R;cases R.1;cases V:y.o.op<;>rw[V] at k R an<;>simp[BU] at k;rename_i z;have:=R.1;simp only[bT,PR.wI] at this;rw[this];exact yL Q (an z bS);rename_i z;have:=R.1;simp only[bT,PR.wI] at this;rw[this];exact yL Q (an z bS);rename_i st z f;have af:=yL (cf:=cf) Q (an z bS);have:=R.1;simp only[bT] at this;split at this;rename_i hz;rw[hz] at af;split at this;split at this;split at this;exact this.elim;rw[this];exact af;exact this.elim;exact this.elim;rename_i hz;rw[hz] at af;split at this;split at this;split at this;exact this.elim;rw[this];exact af;exact this.elim;exact this.elim;exact this.elim
    have c5:l=0:=by
     rcases R with R|⟨-,-,R⟩;exact R.2.2;cases V:y.o.op<;>rw[V] at k R<;>simp[BU] at k<;>exact R.2
    subst c5;rw[EC] at h8⊢;refine a4 (λq X=>lz X) (KV (s':=s) Q (bU _) (bU _) (bU _) rfl rfl c4) (by rw[kU];exact L) ?_;rw[AI D.yx];exact h8;by_cases b6:wm y.o.op=J;obtain⟨t',z,u,V⟩:∃t z u,y.o.op=.store t z u:=by cases V:y.o.op<;>rw[V] at b6<;>simp[wm] at b6;exact⟨_,_,_,rfl⟩
    have an:∀z∈y.o.op.operands.toList,uS z=true:=eO.1 ba;have b7:eA cf y.o y.bC y.dr s=none:=by rw[bf];simp[eA,V]
    rw[b7];simp only[q7];have hz:=a3 z (by rw[V];simp[gu]);have hu:=a3 u (by rw[V];simp[gu]);have af:=yL (cf:=cf) Q (an z (by rw[V];simp[gu]));have c6:=yL (cf:=cf) Q (an u (by rw[V];simp[gu]));unfold gP fJ at P;split at P;exact P.elim;rename_i M;have c7:¬(y.o.op.operands.toList.any λz=>(s.ev cf.gl z).ec)=true:=by
     intro hh;obtain⟨zz,ct,c8⟩:=jy.1 hh;exact M (jy.2 ⟨zz,ct,by rw[a3 zz ct];exact c8⟩)
    simp only[V,hz,hu] at P;split at P;rename_i ti i ag c9 hi;have b8:i≠x.ix:=λe=>by subst e;rw[hi] at af;simp only[C.aQ] at af;rw[(mc L).1] at af;cases af
    rw[AH,Kk (ww b8)] at P;split at P;rename_i bt al cv;obtain⟨ca,-⟩:=wu cv;split at P;rename_i br;have dc:(s.more x.ix t m x.o.dst w).lk=s.lk:=Pg _ _ _;rw[dc] at br;have dz:((s.ev cf.gl u).cells.length==Y ti.aj)=true:=by simp only[aw] at br;exact br.1.1.1.1
    refine⟨(s.cU i bt (ko al ag (s.ev cf.gl u).cells)).put y.o.dst (.bA []), ?_, ?_⟩;unfold gP fJ;rw[aJ c7];simp only[V,c9,hi,cv];rw[aE br];rfl;have dd:((s.cU i bt (ko al ag (s.ev cf.gl u).cells)).put y.o.dst (.bA [])).bd=true:=by
     have cx:i<Y s.ak:=(bJ.1 (jl.1 ca)).1;have df:∀j,aF (s.ak.set i (U (bt,ko al ag (s.ev cf.gl u).cells))) j=aF s.ak j:=λj=>by
      by_cases hj:j=i;subst hj;simp[aF,En cx,ca];simp[aF,ww hj]
     have dk:aF (s.ak.set i (U (bt,ko al ag (s.ev cf.gl u).cells)))=aF s.ak:=funext df;have a9:=Q;simp only[S.bd,aw] at a9;have b7:(s.cU i bt (ko al ag (s.ev cf.gl u).cells)).bd=true:=by
      simp only[S.bd,S.cU,dk,aw];refine⟨a9.1, ?_⟩;rw[AG];intro j b hj;by_cases cA:j=i;subst cA;rw[En cx] at hj;cases hj;exact Vy (AG.1 a9.2 j _ ca) (Vx c6);rw[ww cA] at hj;exact AG.1 a9.2 j b hj
     exact KV (s':=s.cU i bt (ko al ag (s.ev cf.gl u).cells)) b7 (bU _) (bU _) (bU _) rfl rfl (by simp[C.aQ,C.gO])
    refine a4 (λq X=>by rw[lz X];rfl) dd ?_ ?_;rw[kU];unfold fA at L⊢;simp only[S.cU];rw[pM b8];exact L;have dn:c2=((s.more x.ix t m x.o.dst w).cU i bt (ko al ag (s.ev cf.gl u).cells)).put y.o.dst (.bA []):=P;subst dn;have:((s.cU i bt (ko al ag (s.ev cf.gl u).cells)).put y.o.dst (.bA [])).more x.ix t m x.o.dst w=((s.more x.ix t m x.o.dst w).cU i bt (ko al ag (s.ev cf.gl u).cells)).put y.o.dst (.bA []):=
     VA (s:=s) (n:=i) (n':=x.ix) (d:=y.o.dst) (e:=x.o.dst) D.yx b8
    rw[this];exact h8;exact P.elim;exact P.elim;exact P.elim;have cc:fW y.o.op=true:=by
     simp only[iD] at a1;rcases a1 with(((M|M)|M)|M)|M;exact M;exact(Vv M P).elim
     ·exfalso;cases bg:y.o.op<;>rw[bg] at M<;>simp[wn] at M;rename_i c;cases bk:c.callee<;>simp[bk] at M;rename_i f;simp only[dW,bg,bk] at a
      (repeat' split at a)<;>first|exact(aa8 a).elim|cases a
     exact bp M k;exact bp M b6
    have ch:x.ix≠y.ix:=by simpa[cc] using cO
    rw[Hq cc bf];simp only[q7];obtain⟨dT,cy,wy,rfl,k2,k3,k4⟩:=Vz cc ba P;have cB:fA s.ak y.ix=true:=by
     unfold fA at k2⊢;rw[AH,pM ch] at k2;exact k2
    obtain⟨m1,m2⟩:=k4 s O (λz hz=>(a3 z hz).symm) Q cB;refine⟨_,m2,a4 (λq X=>Ht X) (adA Q cB m1 (k3 _ _ _)) ?_ ?_⟩;unfold fA at L⊢;rw[AH,pM (λe=>ch e.symm)];exact L;rw[VA D.yx (λe=>ch e.symm)];exact h8
def anV(V:yK B A){x y:OM}{R:ck}{s:S}{O:ai}(W:rT B x y=J)(Q:∀d,x.o.dst=U d->u7 s d)(N:fW y.o.op=J->fA s.ak y.ix=J)(M:∀t,y.o.op=.alloc t->Ed cf t=J)
  (L:Y O.i=s.ni)(D:Y O.b=s.nb)(z:Y O.r=Y s.rs)
  (h:ef p cf B A F G H (x::y::R) O s):ef p cf B A F G H (y::x::R) O s:=by
 unfold rT at W;simp only[aw,f9,iD] at W;obtain⟨⟨w,P⟩,W⟩:=W;rcases W with(X|X)|X;exact anF V P X Q L D z h;have v:fW y.o.op=true:=by
  unfold Gt at X;simp only[aw] at X;have:=X.1.1.1.1.1.1.2;cases u:y.o.op<;>rw[u] at this<;>simp[D9] at this;rfl
 exact anR V w X Q (N v) M h;exact anU V P X h
def adN{m:OM}{s P:S}{O:ai}(h:(fJ cf m s).gives O P):∀n,fA s.ak n=J->(fW m.o.op=J->n≠m.ix)->fA P.ak n=true:=by
 intro q X R;have V:∀{t:TypeId}{Q:am}{d:bX}{w:C}{i:Nat},q≠i->fA ((s.cU i t Q).put d w).ak q=true:=by
  intro t Q d w i N;rw[kU];unfold fA at X⊢;simp only[S.cU];rw[pM (λe=>N e.symm)];exact X
 unfold fJ at h;split at h;exact h.elim;split at h;rename_i t W;split at h;split at h;cases h;exact V (R (by rw[W];rfl));exact h.elim;exact h.elim;rename_i t x W;split at h;split at h;cases h;exact V (R (by rw[W];rfl));exact h.elim;exact h.elim;rename_i t l L W;split at h;split at h;split at h;split at h;cases h;exact V (R (by rw[W];rfl));exact h.elim;exact h.elim;exact h.elim;exact h.elim;split at h;split at h;rename_i H Q M;split at h;cases h;refine V (λe=> ?_);subst e;have:=(mc X).1;simp[aF,(wu M).1] at this;exact h.elim;exact h.elim;exact h.elim;split at h;simp only[OR.gives] at h;split at h<;>(subst h;rw[kU];exact X);exact h.elim;obtain⟨v,-,rfl⟩:=yF h;rw[AF];exact X;obtain⟨v,-,rfl⟩:=yF h;rw[AF];exact X
def anW{m:OM}{s R:S}{O:ai}(h:(fJ cf m s).gives O R):∀i,aF s.ak i=J->aF R.ak i=true:=by
 intro q X;have W:∀{t:TypeId}{V:am}{d:bX}{w:C}{i:Nat},aF ((s.cU i t V).put d w).ak q=true:=by
  intro t V d w i;rw[kU];unfold aF at X⊢;simp only[cj] at X⊢;simp only[S.cU];by_cases Q:i=q;subst Q;have M:i<Y s.ak:=by
   cases P:s.ak[i]? with
   |none=>rw[P] at X;cases X
   |some b=>exact(bJ.1 P).1
  rw[Dy M];rfl;rw[pM Q];exact X
 unfold fJ at h;split at h;exact h.elim;split at h;rename_i t N;split at h;split at h;cases h;exact W;exact h.elim;exact h.elim;rename_i t x N;split at h;split at h;cases h;exact W;exact h.elim;exact h.elim;rename_i t l L N;split at h;split at h;split at h;split at h;cases h;exact W;exact h.elim;exact h.elim;exact h.elim;exact h.elim;split at h;split at h;rename_i H V G;split at h;cases h;exact W;exact h.elim;exact h.elim;exact h.elim;split at h;simp only[OR.gives] at h;split at h<;>(subst h;rw[kU];exact X);exact h.elim;obtain⟨v,-,rfl⟩:=yF h;rw[AF];exact X;obtain⟨v,-,rfl⟩:=yF h;rw[AF];exact X
structure tN(s s':S):Prop where
 i:s.ni<=s'.ni
 b:s.nb<=s'.nb
 r:Y s.rs<=Y s'.rs
 bx:∀i,aF s.ak i=J->aF s'.ak i=J
def tN.put(s:S)(d:bX)(v:C):tN s (s.put d v):=
 ⟨BK (fo _ _ _).1.symm,BK (fo _ _ _).2.1.symm,BK (ji Y (fo s d v).2.2).symm,λi h=>by rw[kU];exact h⟩
def tN.trans{b c:S}(h:tN R b)(k:tN b c):tN R c:=⟨pP h.i k.i,pP h.b k.b,pP h.r k.r,λi X=>k.bx i (h.bx i X)⟩
def anX{x:OM}{l1 k:ck}{s:S}{O:ai}(af:x.dr=J)(al:x.so=E)(w:Y O.i=s.ni)(q:Y O.b=s.nb)(m:Y O.r=Y s.rs)(h:ef p cf B A F G H (x::l1) O s)
  (j:∀f Q,Y f.i=Q.ni->Y f.b=Q.nb->Y f.r=Y Q.rs->(∀t,x.o.dst≠U t->Q.tmps[t]?=s.tmps[t]?)->(∀n,fA s.ak n=J->(fW x.o.op=J->n≠x.ix)->fA Q.ak n=J)->tN s Q->ef p cf B A F G H l1 f Q->ef p cf B A F G H k f Q):ef p cf B A F G H (x::k) O s:=by
 simp only[ef] at h⊢;rcases h with⟨h1,X⟩|⟨h1,X⟩;exact .inl ⟨h1,j _ _ (by rw[(fo _ _ _).1];exact w) (by rw[(fo _ _ _).2.1];exact q) (by rw[(fo _ _ _).2.2];exact m) (λt d=>lz d) (λn D _=>by rw[kU];exact D) (tN.put _ _ _) X⟩
 ·refine .inr ⟨h1, ?_⟩;cases a:dW cf s x.o with
  |call g0 c=>
   rw[a] at X;rcases g0 with g|n
   rotate_left
   have N:=X.1;rw[al] at N;cases N;have X:oJ _ _ _:=X;show oJ _ _ _;cases ag:A g c s with
   |some ve=>
    obtain⟨pv,ex⟩:=ve;rw[ag] at X;exact⟨X.1,j _ _ (by rw[(fo _ _ _).1];exact w) (by rw[(fo _ _ _).2.1];exact q) (by rw[(fo _ _ _).2.2];exact m) (λt d=>lz d) (λn D _=>by rw[kU];exact ado D) (tN.trans (b:=s.plus ex) ⟨bU _,bU _,bU _,λi l=>by unfold aF;rw[adn l];exact l⟩ (tN.put _ _ _)) X.2⟩
   |none=>
   rw[ag] at X;obtain⟨ts,M,r,c1,c2,c3,c4,c5⟩:=X;refine⟨ts,M,r,c1,c2,c3,c4,λV W R=>(c5 V W R).mono ?_⟩;intro e W' he;cases e with
   |returned u=>
    obtain⟨xs,L,z,y,q4,q5⟩:=he;obtain⟨b1,b2,b3,b4⟩:=u5 M (s.cut c M);obtain⟨l1,k,l3⟩:=wF M xs (s.cut c M) O L w q (m.trans (Cf c M s.rs).len.symm);refine⟨xs,L,z,y,q4,j _ _ (by rw[(fo _ _ _).1];exact l1) (by rw[(fo _ _ _).2.1];exact k) (by rw[(fo _ _ _).2.2];exact l3) (λt d=>by rw[lz d,b2];rfl) (λn D _=>by rw[kU,b1];exact D) (tN.trans (b:=((s.cut c M).b9 M).2) ⟨by rw[<-w,<-l1];exact(Ay [] _ _ []).li,by rw[<-q,<-k];exact(Ay [] _ _ []).lb,by rw[<-m,<-l3];exact(Ay [] _ _ []).lr,λi l=>by rw[b1];exact l⟩ (tN.put _ _ _)) q5⟩
   |panicked ch=>exact he
   |outgrown=>exact he
  |aW v=>rw[a] at X;exact X
  |no=>rw[a] at X;exact X
  |op=>
   rw[a] at X;simp only at X⊢;cases P:eA cf x.o x.bC x.dr s with
   |some b=>
    rw[P] at X;obtain⟨L,z,y⟩:=adl P;exact⟨X.1,λrv an=>j _ _ (by rw[L];exact w) (by rw[z];exact q) (by simp[ai.add,y,m]) (Vw (by rw[af] at P;exact P)) (λn D _=>by rw[(KW (by rw[af] at P;exact P)).2.2];exact D) ⟨by rw[L];exact bU _,by rw[z];exact bU _,by rw[y];omega,λi l=>by rw[(KW (by rw[af] at P;exact P)).2.2];exact l⟩ (X.2 rv an)⟩
   |none=>
    rw[P] at X;obtain⟨Q,N,h4⟩:=X;obtain⟨L,z,y⟩:=adk (Hj N);exact⟨Q,N,j _ _ (by rw[L];exact w) (by rw[z];exact q) (by rw[y];exact m) (adx (Hj N)) (adN (Hj N)) ⟨by rw[L];exact bU _,by rw[z];exact bU _,by rw[y];exact bU _,anW (Hj N)⟩ h4⟩
def adO{x y:OM}(h:rT B x y=J):x.so=E/\y.so=false:=by
 unfold rT at h;simp only[aw,f9] at h;exact h.1
def anY{x y:OM}(h:rT B x y=J):x.dr=true:=by
 unfold rT at h;simp only[aw,iD] at h;replace h:=h.2;rcases h with(h|h)|h;exact(adt h).elim λ_ c=>c.xd
 unfold Gt at h;simp only[aw] at h;exact h.1.1.1.1.1.1.1.1;unfold J3 at h;simp only[aw] at h;exact h.1.1.1.1.1.1.1.1.1.1
end
section
variable{p:Sp}{k:bi}{B:db}{A:rV}{Kn:ai->S->Prop}{Kp:ai->C->S->Prop}{Yp:OM->ck->ai->S->Nat->am->Prop}
def VE(s:S)(m:OM):Prop:=∀d,m.o.dst=U d->u7 s d
def adP{V:S}(W:tN R V)(Q:V.tmps[X]?=R.tmps[X]?)(h:u7 R X):u7 V X:=by
 rcases h with h|⟨w,h,P⟩;exact .inl (Q.trans h);exact .inr ⟨w,Q.trans h,C.dY W.i W.b W.r W.bx _ P⟩
def VF(s:S)(m:OM):Prop:=fW m.o.op=J->fA s.ak m.ix=J
def adQ(Q:yK B A){m:OM}{V:ck}:∀(X:ck)(s:S)(O:ai),(∀x∈X,rT B x m=J)->(∀x∈X,VE s x)->VF s m->(X.Pairwise λa b=>∀d,a.o.dst=U d->b.o.dst≠U d)->(∀x∈X,fW x.o.op=J->fW m.o.op=J->m.ix≠x.ix)->(∀t,m.o.op=.alloc t->Ed k t=J)->
  Y O.i=s.ni->Y O.b=s.nb->Y O.r=Y s.rs->ef p k B A Kn Kp Yp (X++m::V) O s->ef p k B A Kn Kp Yp (m::(X++V)) O s
 |[],s,O,_,_,_,_,_,_,_,_,_,h=>h
 |x::X,s,O,P,N,M,u,L,H,G,F,D,h=>by
  have R:=P x au;have q:x.dr=true:=anY R;have n:=(adO R).1;have z:=iv.1 u;have:ef p k B A Kn Kp Yp (x::m::(X++V)) O s:=anX (l1:=X++m::V) q n G F D h (λl j g f c ht af ag hr=>
   adQ Q X j l (λy W=>P y (by simp[W])) (λy W e w=>adP ag (ht e (λhx=>z.1 y W e hx w)) (N y (by simp[W]) e w))
    (λv=>af m.ix (M v) (λal=>L x au al v)) z.2 (λy W=>L y (by simp[W])) H g f c hr)
  exact anV Q R (N x au) M H G F D this
def VG{D:bI}{s:S}{a:Act}{W:World}{O:ai}{V:ap}(R:ax p.S0 p.w0 D k.ty V O s a W){m:OM}{b:Bool}(h:gq B m s O=U b):jH m.o (yielded B a.tmps)=b:=by
 unfold gq at h;cases X:m.o.guard with
 |none=>rw[X] at h;cases h;simp[jH,X]
 |some q=>
  obtain⟨j,N⟩:=q;rw[X] at h;simp only at h;split at h;rename_i d M;have P:=acH R M;split at h;rename_i e Q;split at h;cases h;have:=P.1 e Q;simp only[jH,X,this];cases e.ab O<;>cases N<;>rfl;cases h;rename_i Q;cases h;simp[jH,X,P.2 Q];cases h;cases h
def Hv(p:Sp)(k:bi)(A:rV):Prop:=∀(g:FuncId)(X:am)(s:S)(v:C)(R:bn),A g X s=U (v,R)->
 ∀(D:bI)(O:ai)(V:ap)(a:Act)(W:World),s.bd=J->ax p.S0 p.w0 D k.ty V O s a W->et k.gl O->(∀X W,(callFunc g X).run p.P W=.ok (.enter g X) W)/\
  Calls p.P g (C.ay O V X).toArray W λe N=>∃Q,e=.returned (v.ab O Q)/\ax p.S0 p.w0 D k.ty Q O (s.plus R) a N/\bj s O V (s.plus R) O Q
structure KY(B:db)(bs:ap)(listed:Array Bool)(rem:ck):Prop where
 mem:∀m∈rem,B[m.j]?=U m.o
 un:∀i,i<B.size->(listed.getD i J=E<->∃m∈rem,m.j=i)
 sz:listed.size=B.size
 dn:∀(j:Nat)(o:Oper),B[j]?=U o->listed.getD j E=J->∀e∈im o,listed.getD e E=J
 pr:rem.Pairwise λx y=>(bs.getD y.j 0).testBit x.j=J\/rT B x y=J
 tp:∀xs m ys,rem=xs++m::ys->∀e∈im m.o,listed.getD e E=J\/∃x∈xs,x.j=e
 nd:rem.Pairwise λx y=>x.j≠y.j
 ds:rem.Pairwise λa b=>∀d,a.o.dst=U d->b.o.dst≠U d
 so:∀xs m ys,rem=xs++m::ys->m.so=J->ys.Pairwise λx y=>(bs.getD y.j 0).testBit x.j=J
def KZ{e:Edge}(h:e∈l.after)(X:alI .any e=J):e.on∈im l:=gL.2 ⟨e,o9.2 ⟨by simpa using h,X⟩,rfl⟩
def Pl(h:X∈im l):∃e∈l.after,alI .any e=J/\e.on=X:=by
 obtain⟨e,W,rfl⟩:=gL.1 h;obtain⟨V,R⟩:=o9.1 W;exact⟨e,by simpa using V,R,rfl⟩
structure Hx(B:db)(bs:ap):Prop where
 lt:∀(j:Nat)(o:Oper),B[j]?=U o->∀e∈im o,e<j
 cl:∀(j:Nat)(o:Oper),B[j]?=U o->∀i,i<B.size->(bs.getD j 0).testBit i=J->i∈im o\/∃e∈im o,(bs.getD e 0).testBit i=J
def anZ{listed:Array Bool}{O:ck}(W:Hx B t)(N:KY B t listed O):∀(j:Nat)(o:Oper),B[j]?=U o->(∀e∈im o,listed.getD e E=J)->∀i,i<B.size->(t.getD j 0).testBit i=J->listed.getD i E=true:=by
 intro j;induction j using JH with
 |_ j M=>
  intro o X V i R L;rcases W.cl j o X i R L with h|⟨e,Q,h⟩;exact V i h;have H:=W.lt j o X e Q;have G:j<B.size:=(jg.1 X).1;have P:B[e]?=U B[e]:=F6 aa;exact M e H B[e] P (N.dn e _ P (V e Q)) i R h
def AJ(a:Array Bool)(i j:Nat)(b:Bool)(X:i<a.size):(a.setIfInBounds i J).getD j b=if j=i then J else a.getD j b:=by
 by_cases h:j=i;subst h;simp[X];simp[aav (Ne.symm h),h]
def an1{r:ap}{listed:Array Bool}{P O:ck}{m:OM}(X:KY B r listed (P++m::O))(l:∀e∈im m.o,listed.getD e E=J):KY B r (listed.setIfInBounds m.j J) (P++O):=by
 have q:=X.mem m au;have k:m.j<B.size:=(jg.1 q).1;have D:m.j<listed.size:=by rw[X.sz];exact k
 have L:alJ (P++O) (P++m::O):=aaz (aaB _) (aax _ _);have g:∀x∈P++O,x.j≠m.j:=by
  intro x W;have y:=X.nd;rw[mB] at y;rcases eC.1 W with h|h;exact y.2.2 x h m au;exact Ne.symm ((iv.1 y.2.1).1 x h)
 refine⟨λx W=>X.mem x (L.subset W),λi f=> ?_,by simp[X.sz],λj o w H e M=> ?_,X.pr.sublist L, ?_,X.nd.sublist L,X.ds.sublist L, ?_⟩;rw[AJ _ _ _ _ D];by_cases v:i=m.j;subst v;simp only[cH,axr,false_iff];rintro⟨x,W,H⟩;exact g x W H;rw[aJ v,X.un i f];constructor;rintro⟨x,W,rfl⟩;refine⟨x, ?_,rfl⟩;simp only[eC,dJ] at W⊢;rcases W with h|h|h;exact .inl h;subst h;exact bp rfl v;exact .inr h;rintro⟨x,W,rfl⟩;exact⟨x,L.subset W,rfl⟩;rw[AJ _ _ _ _ D];rw[AJ _ _ _ _ D] at H;split;rfl;by_cases n:j=m.j;subst n;rw[q] at w;cases w;exact l e M;rw[aJ n] at H;exact X.dn j o w H e M;intro u N G t e M;rw[AJ _ _ _ _ D];by_cases A:e=m.j;left;rw[aE A];rw[aJ A];rcases aw1.1 t with⟨R,Q,V⟩|⟨R,Q,V⟩
 
 have:=X.tp (P++m::R) N G (by rw[V];simp) e M;rcases this with h|⟨x,W,F⟩;exact .inl h;right;refine⟨x, ?_,F⟩;rw[Q];simp only[eC,dJ] at W⊢;rcases W with h|h|h;exact .inl h;subst h;exact bp F.symm A;exact .inr h
 
 cases R with
 |nil=>
  simp at Q V;subst Q;have:=X.tp (P++[m]) N G (by rw[<-V];simp) e M;rcases this with h|⟨x,W,F⟩;exact .inl h;right;refine⟨x, ?_,F⟩;simp only[eC,NI] at W;rcases W with h|h;exact h;subst h;exact bp F.symm A
 |cons z R=>
  simp only[gA,uG] at V;obtain⟨rfl,V⟩:=V;have:=X.tp u N (R++m::O) (by rw[Q];simp) e M;exact this
 intro u N G t s;rcases aw1.1 t with⟨R,Q,V⟩|⟨R,Q,V⟩;exact X.so (P++m::R) N G (by rw[V];simp) s;cases R with
 |nil=>
  simp at Q V;subst Q;exact X.so (P++[m]) N G (by rw[<-V];simp) s
 |cons z R=>
  simp only[gA,uG] at V;obtain⟨rfl,V⟩:=V;have:=X.so u N (R++m::O) (by rw[Q];simp) s;rw[V];exact this.sublist (aaz (aaB _) (aax _ _))
def an2{F:Fence}(H:nY F)(r:iB p k)(ba:Hv p k A){n:Nat}{D:bI}{Q:Exit->Act->World->Prop}(HP:∀ch a' M pd y,dR p.w0 D pd y a'.defers M->p.R (.panicked ch) M->Q (.panic ch) a' M)
  {m:OM}{an:ck}{s:S}{O:ai}{V:ap}{a:Act}{W:World}(h:ef p k B A Kn Kp Yp (m::an) O s)(R:ax p.S0 p.w0 D k.ty V O s a W)(q:et k.gl O)(hm:B[m.j]?=U m.o)(a9:m.dr=J)
  {X:Act->World->Prop}(hK:∀w O' i a' M,bj s O V w O' i->(∀t,m.o.dst≠U t->w.tmps[t]?=s.tmps[t]?)->(∀n,fA s.ak n=J->(fW m.o.op=J->n≠m.ix)->fA w.ak n=J)->ax p.S0 p.w0 D k.ty i O' w a' M->ef p k B A Kn Kp Yp an O' w->X a' M)
  (bb:∀v,Kp O v s->Q (.panic [{v:=v.ab O V,recovered:=E}]) a W)
  (hY:∀yn G,dW k s m.o=.call (.yl yn) G->m.so=J->Yp m an O s yn G->m.o.wpIn F n p.P a W X Q):wpOpIn F n p.P B Q m.j X a W:=by
 unfold wpOpIn;rw[hm];simp only;simp only[ef] at h;rcases h with⟨h1,N⟩|⟨h1,N⟩;rw[VG R h1];exact⟨λf _=>H.fn f,hK _ O V _ W ((bj.refl _ _ _).put _ _) (λt ht=>lz ht) (λn z _=>by rw[kU];exact z) (R.put m.o.dst (.bA [])) N⟩
 ·rw[VG R h1];simp only[cH];cases L:dW k s m.o with
  |call g0 G=>
   rw[L] at N;rcases g0 with g|yn
   rotate_left
   exact hY yn G L N.1 N.2;have N:oJ _ _ _:=N;cases a0:A g G s with
   |some ve=>
    obtain⟨pv,ex⟩:=ve;rw[a0] at N;obtain⟨a1,a3⟩:=ba g G s pv ex a0 D O V a W N.1 R q;refine⟨λf _=>H.fn f, ?_⟩;have af:∀c,m.o.op≠ .defer c:=λc ag=>by simp[dW,ag] at L
    rw[v6 _ _ _ af,OX R q L a1,NK];refine⟨λhd=>by rw[H.u4] at hd;simp at hd,CallsIn.mono (H.calls a3) (λe M d=> ?_)⟩;obtain⟨i,rfl,u,hl⟩:=d;exact hK _ O i _ M (hl.put _ _) (λt ht=>lz ht) (λn z _=>by rw[kU];exact ado z) (u.put m.o.dst pv) N.2
   |none=>
   rw[a0] at N;obtain⟨ts,ks,l,c1,c2,c3,c4,c5⟩:=N;simp only[S.eD,aw] at c4;obtain⟨⟨hb,-⟩,bc⟩:=c4;have a1:=r.wG g (.inl (by rw[c1];rfl));have a3:=c5 V W (by rw[r.pt];exact(R.mem.Ui _).lx (abO _ _));refine⟨λf _=>H.fn f, ?_⟩;have af:∀c,m.o.op≠ .defer c:=λc ag=>by simp[dW,ag] at L
   rw[v6 _ _ _ af,OX R q L a1,NK];refine⟨λhd=>by rw[H.u4] at hd;simp at hd,CallsIn.mono (H.calls a3) (λe M d=> ?_)⟩;cases e with
   |returned v=>
    obtain⟨xs,q1,q2,q3,q4,q5⟩:=d;rw[r.pt] at q4;obtain⟨e1,e2,e3,e4⟩:=u5 ks (s.cut G ks);subst q2;have R1:ax p.S0 p.w0 D k.ty V O (s.cut G ks) a W:=R.lx (Cf G ks s.rs);have u:=(R1.called (Kz hb (Cf G ks s.rs).len) bc q1 q3 (λb hb=>acY R hb) q4).put m.o.dst (one l);refine hK _ (O.ext xs) V _ M (bj.put (s:=s) ⟨Ay _ _ _ _,by rw[e1];exact λ_ h=>h,by rw[e1];exact bU _,by rw[e3];exact bU _⟩ _ _) (λt ht=>by rw[lz ht,e2];rfl) (λn z _=>by rw[kU,e1];exact z) u q5
   |panicked ch=>exact HP ch a M _ _ (R.cQ.below d.1) d.2
   |outgrown=>exact d.elim
  |aW v=>
   rw[L] at N;refine⟨λf _=>H.fn f, ?_⟩;have af:∀c,m.o.op≠ .defer c:=λc ag=>by simp[dW,ag] at L
   rw[v6 _ _ _ af,acJ R q L];exact bb v N
  |no=>rw[L] at N;exact N.elim
  |op=>
   rw[L] at N;simp only at N;cases x:eA k m.o m.bC m.dr s with
   |some b=>
    rw[x] at N;obtain⟨z,N⟩:=N;obtain⟨v,M,rv,a4,bd,u,hl⟩:=UT R r.jB q x z;exact wD H a4 (Vf x) (hK b.s _ V _ M hl (Vw (by rw[a9] at x;exact x)) (λn z _=>by rw[(KW (by rw[a9] at x;exact x)).2.2];exact z) u (N rv (by rw[r.pt];exact bd)))
   |none=>
   rw[x] at N;obtain⟨w,h3,h4⟩:=N;have al:=Hj h3;obtain⟨v,M,i,a4,u,hl⟩:=KC R r.jB q m al;exact wD H a4 (KO al) (hK w O i _ M hl (adx al) (adN al) u h4)
def an3{W:Type}{V X:List W}{m x:W}(h:x∈(V++X).dropLast):x∈(V++m::X).dropLast:=by
 rw[alg au];cases X with
 |nil=>
  rw[Gc] at h;exact uC _ ((axd _).subset h)
 |cons y X=>
  rw[alg au] at h;rcases eC.1 h with h|h;exact uC _ h;rw[List.dropLast_cons_cons];exact JC _ (By _ h)
def an4(b3:yK B A)(b4:Hv p k A){Kn:cX->ai->S->Prop}{Kp:cX->ai->C->S->Prop}{Yp:cX->OM->ck->ai->S->Nat->am->Prop}{F:Fence}(hF:nY F)(ok:iB p k){D:bI}{Q:Exit->Act->World->Prop}(HP:∀ch g M pd y,dR p.w0 D pd y g.defers M->p.R (.panicked ch) M->Q (.panic ch) g M)(hC:Hx B t)
  {s0:S}{O0:ai}{V0:ap}{L0:cX}
  (hk:∀G H z g M w,bj s0 O0 V0 G H z->cz s0.av L0 w->ax p.S0 p.w0 D k.ty z H G g M->Kn w H G->Q .normal g M)
  (bl:∀v G H z g M w,bj s0 O0 V0 G H z->cz s0.av L0 w->ax p.S0 p.w0 D k.ty z H G g M->Kp w H v G->Q (.panic [{v:=v.ab H z,recovered:=E}]) g M)
  (hy:∀(L:cX)(m:OM)(br:ck)(s:S)(O:ai)(V:ap)(a:Act)(W:World)(yn:Nat)(a9:am)(R':Ending->World->Prop),bj s0 O0 V0 s O V->cz s0.av L0 L->ax p.S0 p.w0 D k.ty V O s a W->et k.gl O->Yp L m br O s yn a9->
   (∀v G H z M w,bj s O V G H z->cz s.av L w->ax p.S0 p.w0 D k.ty z H G a M->ef p k B A (Kn w) (Kp w) (Yp w) br H (G.put m.o.dst v)->R' (.returned (v.ab H z)) M)->
   (∀v G H z M w,bj s O V G H z->cz s.av L w->ax p.S0 p.w0 D k.ty z H G a M->Kp w H v G->R' (.panicked [{v:=v.ab H z,recovered:=E}]) M)->
   (∀ch M pd y,dR p.w0 D pd y a.defers M->p.R (.panicked ch) M->R' (.panicked ch) M)->
   ∀(m:Nat),YieldAt F m p.P (O.y.getD yn 0) (C.ay O V a9).toArray W R'):
  ∀(al:Nat)(listed:Array Bool)(af:ck)(s:S)(O:ai)(V:ap)(a:Act)(W:World)(L:cX),Y af=al->KY B t listed af->(∀m∈af,m.dr=J)->(∀m∈af,∀N,m.o.op=.alloc N->Ed k N=J)->(af.Pairwise λa b=>fW a.o.op=J->fW b.o.op=J->a.ix≠b.ix)->(((∀m∈af,VF s m)/\(∀m∈af.dropLast,VE s m))\/(af.Pairwise λx y=>(t.getD y.j 0).testBit x.j=J))->bj s0 O0 V0 s O V->cz s0.av L0 L->ax p.S0 p.w0 D k.ty V O s a W->et k.gl O->ef p k B A (Kn L) (Kp L) (Yp L) af O s->
   wpAnyIn F X p.P .any B Q al listed a W:=by
 intro al;induction al with
 |zero=>
  intro listed af s O V a W L ba hW bc hZ bt hA hl hL R hg h;have b5:af=[]:=Dx.1 ba;subst b5;refine⟨?_,hk s O V a W L hl hL R h⟩;cases hr:qJ .any B listed with
  |nil=>rfl
  |cons i r=>
   obtain⟨h1,o,ho,-⟩:=mem_ready.1 (show i∈qJ .any B listed by rw[hr];simp);have:=(hW.un i (jg.1 ho).1).1 h1;obtain⟨m,hm,-⟩:=this;cases hm
 |succ al ih=>
  intro listed af s O V a W L ba hW bc hZ bt hA hl hL R hg h;refine⟨λhr=> ?_,λi hi=> ?_⟩
  
  exfalso;cases af with
  |nil=>simp at ba
  |cons m ys=>
   have an:=hW.mem m au;have:m.j∈qJ .any B listed:=by
    refine mem_ready.2 ⟨(hW.un m.j (jg.1 an).1).2 ⟨m,au,rfl⟩,m.o,an,λe he hb=> ?_⟩;rcases hW.tp [] m ys rfl e.on (KZ he hb) with h1|⟨x,u,-⟩;exact h1;cases u
   rw[hr] at this;cases this
  obtain⟨h1,o,ho,b6⟩:=mem_ready.1 hi;obtain⟨m,hm,rfl⟩:=(hW.un i (jg.1 ho).1).1 h1;obtain⟨q,ys,rfl⟩:=axs hm;have an:=hW.mem m hm;rw[an] at ho;cases ho;have hd:∀e∈im m.o,listed.getD e E=true:=λe he=>by
   obtain⟨ed,h2,h3,rfl⟩:=Pl he;exact b6 ed h2 h3
  have bx:∀x∈q,¬(t.getD m.j 0).testBit x.j=true:=by
   intro x u h2;have b7:=hW.mem x (by simp[u]);have bd:x.j<B.size:=(jg.1 b7).1;have h3:=anZ hC hW m.j m.o an hd x.j bd h2;have h4:=(hW.un x.j bd).2 ⟨x,by simp[u],rfl⟩;have b8:x.j<listed.size:=by rw[hW.sz];exact bd
   simp[b8] at h3 h4;rw[h3] at h4;cases h4
  have b0:∀x∈q,rT B x m=true:=by
   intro x u;have ca:=(mB.1 hW.pr).2.2 x u m au;rcases ca with h2|h2;exact bp h2 (bx x u);exact h2
  have bf:=mB.1 hW.ds;have a0:=mB.1 bt;have hb:ef p k B A (Kn L) (Kp L) (Yp L) (m::(q++ys)) O s:=by
   rcases hA with⟨bg,hA⟩|hA;exact adQ b3 q s O b0 (λx u=>hA x (by rw[alg au];exact uC _ u)) (bg m hm) bf.1 (λx u a1 bb e=>a0.2.2 x u m au a1 bb e.symm) (hZ m hm) R.ei R.eb R.er h;cases q with
   |nil=>exact h
   |cons x q=>exact bp ((mB.1 hA).2.2 x au m au) (bx x au)
  have b1:∀(G:S)(H:ai)(z:ap)(g:Act)(M:World)(w:cX),(((∀m∈q++ys,VF G m)/\(∀m∈(q++ys).dropLast,VE G m))\/((q++ys).Pairwise λx y=>(t.getD y.j 0).testBit x.j=J))->bj s0 O0 V0 G H z->cz s0.av L0 w->ax p.S0 p.w0 D k.ty z H G g M->et k.gl H->ef p k B A (Kn w) (Kp w) (Yp w) (q++ys) H G->wpAnyIn F X p.P .any B Q al (listed.setIfInBounds m.j J) g M:=
   λG H z g M w cc ag a3 R' cl a4=>ih _ (q++ys) G H z g M w (by simp at ba⊢;omega) (an1 hW hd) (λx u=>bc x (by rcases eC.1 u with l|l<;>simp[l])) (λx u=>hZ x (by rcases eC.1 u with l|l<;>simp[l]))
    (mB.2 ⟨a0.1,(iv.1 a0.2.1).2,λa ha b hb=>a0.2.2 a ha b (by simp[hb])⟩) cc ag a3 R' cl a4
  have cn:alJ (q++ys) (q++m::ys):=aaz (aaB _) (aax _ _);refine an2 hF ok b4 HP hb R hg an (bc m hm) (λG H z g M ag co cp R' a4=> ?_) (λv hv=>bl v s O V a W L hl hL R hv) (λyn a9 hc b2 cs=> ?_);refine b1 G H z g M L ?_ (hl.trans ag) hL R' (hg.ext ag.ext) a4;rcases hA with⟨bg,hA⟩|hA;left;refine⟨λx u a1=>cp x.ix (bg x (by rcases eC.1 u with l|l<;>simp[l]) a1) (λbb=>by
   rcases eC.1 u with l|l;exact a0.2.2 x l m au a1 bb;exact λe=>(iv.1 a0.2.1).1 x l bb a1 e.symm),λx u=> ?_⟩
  intro d bk;have ct:m.o.dst≠U d:=by
   rcases eC.1 ((axd _).subset u) with l|l;exact bf.2.2 x l m au d bk;intro he;exact(iv.1 bf.2.1).1 x l d he bk
  exact adP ⟨by rw[<-R.ei,<-R'.ei];exact ag.ext.li,by rw[<-R.eb,<-R'.eb];exact ag.ext.lb,by rw[<-R.er,<-R'.er];exact ag.ext.lr,ag.mono⟩ (co d ct) (hA x (an3 u) d bk);exact .inr (hA.sublist cn);have cv:q=[]:=by
   cases q with
   |nil=>rfl
   |cons x q=>
    have:=(adO (b0 x au)).2;rw[b2] at this;cases this
  subst cv;have cx:ys.Pairwise λx y=>(t.getD y.j 0).testBit x.j=true:=hW.so [] m ys rfl b2
  have hY:=hy L m ys s O V a W yn a9 (λe M=>match e with
    |.returned v=>wpAnyIn F X p.P .any B Q al (listed.setIfInBounds m.j J) (a.put m.o.dst v) M
    |.panicked ch=>Q (.panic ch) a M
    |.outgrown=>LetsOut Q) hl hL R hg cs
   (λv G H z M w ag a3 R' a4=>b1 (G.put m.o.dst v) H z _ M w (.inr cx) (hl.trans (ag.put _ _)) (hL.trans a3 hl.av) (R'.put m.o.dst v) (hg.ext ag.ext) a4)
   (λv G H z M w ag a3 R' hs=>bl v G H z a M w (hl.trans ag) (hL.trans a3 hl.av) R' hs)
   (λch M pd y hA hR=>HP ch a M pd y hA hR) (X-1)
  obtain⟨fn,cD,assign,body,cy,cA⟩:=hY;refine⟨λf _=>hF.fn f, ?_⟩;have cB:∀c,m.o.op≠ .defer c:=λc cC=>by simp[dW,cC] at hc
  rw[v6 _ _ _ cB,Vd R hg hc,cy];rw[als];refine⟨λhd=>by rw[hF.u4] at hd;simp at hd,RoundIn.mono cA (λe M he=> ?_)⟩;cases e<;>exact he
end
def K0:bX->Fence
 |none=>Fence.wide
 |U l=>Fence.wide.inRound l
def u9:∀i,nY (K0 i)
 |none=>anj
 |U l=>acG l
def an5:∀i,(K0 i).round=i
 |none=>rfl
 |U _=>rfl
def nY.room{F:Fence}(W:nY F)(n:Nat):F.room n:=λd X=>by rw[W.u4] at X;cases X
def iH(i:bX)(j:FuncId)(P:Program)(c:Code)(Q:Exit->Act->World->Prop)(a:Act)(w:World):Prop:=
 ∀(b:Frame)(k:List Item)(X:List Frame),b.roundOf=i->b.fn=j->
  ∃e W V,Q e W V/\ArrivesIn (Machine.fenced P Fence.wide) P (lone (b.atR a (.code c::k)) X w) b k X e W V
section
variable{i:bX}{j:FuncId}{P:Program}{Q:Exit->Act->World->Prop}{a:Act}{w:World}
def sf{c:Code}{n:Nat}(h:c.wpIn (K0 i) n P Q a w):iH i j P c Q a w:=by
 intro b k W V _;obtain⟨e,R,O,N,X⟩:=h b k W (V.trans (an5 i).symm) ((u9 i).fn _) ((u9 i).room _);rw[(u9 i).eq] at X;exact⟨e,R,O,N,X⟩
def an6{c:Code}{X:Exit->Act->World->Prop}(h:iH i j P c Q a w)(W:∀e a w,Q e a w->X e a w):iH i j P c X a w:=
 λb k V R O=>let⟨e,N,M,q,r⟩:=h b k V R O;⟨e,N,M,W _ _ _ q,r⟩
def ED{x y:Code}(h:iH i j P x (Exit.then (iH i j P y Q) Q) a w):iH i j P (Code.seq x y) Q a w:=by
 intro b k N M L;have X:(lone (b.atR a (.code (.seq x y)::k)) N w).fenced P Fence.wide:=fenced_wide _ _;obtain⟨e,R,O,W,V⟩:=h b (.code y::k) N M L;cases e with
 |normal=>
  obtain⟨H,G,F,D,B⟩:=W b k N M L;exact⟨H,G,F,D,.of_steps (.head X stepR_seq V) B⟩
 |exit id=>exact⟨_,R,O,W,.of_steps (.one X stepR_seq) (.pass (x:=.code y) rfl (λ_ _=>.inl au) V)⟩
 |goto l=>exact⟨_,R,O,W,.of_steps (.one X stepR_seq) (.pass (x:=.code y) rfl (λ_ _=>.inl au) V)⟩
 |ret=>exact⟨_,R,O,W,.of_steps (.one X stepR_seq) (.pass (x:=.code y) rfl (λ_ _=>.inl au) V)⟩
 |panic A=>exact⟨_,R,O,W,.of_steps (.one X stepR_seq) (.pass (x:=.code y) rfl (λ_ _=>.inl au) V)⟩
 |outgrown=>exact⟨_,R,O,W,.of_steps (.one X stepR_seq) (.pass (x:=.code y) rfl (λ_ _=>.inl au) V)⟩
def an7{c:Code}(h:iH i j P c (Exit.inBlock X Q) a w):iH i j P (Code.block X c) Q a w:=by
 intro b k z y x;have W:(lone (b.atR a (.code (.block X c)::k)) z w).fenced P Fence.wide:=fenced_wide _ _;obtain⟨e,O,N,V,R⟩:=h b (.inBlock X::k) z y x;cases e with
 |normal=>exact⟨.normal,O,N,V,.head W stepR_block (StepsIn.trans R (.one (fenced_wide _ _) stepR_inBlock))⟩
 |exit L=>
  by_cases hid:L=X;simp only[Exit.inBlock,hid,cH] at V;exact⟨.normal,O,N,V,.head W stepR_block (R.1 k (by simp[exitTo,hid]))⟩;simp only[Exit.inBlock,hid,fH] at V;have this:(X==L)=false:=by simp;exact λh=>hid h.symm
  have H:exitTo L (.inBlock X::k)=exitTo L k:=by simp[exitTo,this]
  exact⟨.exit L,O,N,V,λG M=>.head W stepR_block (R.1 G (by rw[H];exact M)),
   λF M=>let⟨D,B,A⟩:=R.2 F (by rw[H];exact M);⟨D,B,.head W stepR_block A⟩⟩
 |goto l=>
  have H:gotoIn l (.inBlock X::k)=gotoIn l k:=by simp[gotoIn]
  exact⟨_,O,N,V,λG M=>.head W stepR_block (R.1 G (by rw[H];exact M)),
   λF M=>let⟨D,B,A⟩:=R.2 F (by rw[H];exact M);⟨D,B,.head W stepR_block A⟩⟩
 |ret=>exact⟨_,O,N,V,.of_steps (.one W stepR_block) R⟩
 |panic v=>exact⟨_,O,N,V,.of_steps (.one W stepR_block) R⟩
 |outgrown=>exact⟨_,O,N,V,.of_steps (.one W stepR_block) R⟩
def an8{c:Code}(h:iH i j P c (λe a w=>(∀l,e≠ .goto l)/\Q e a w) a w):iH i j P (Code.scope c) Q a w:=by
 intro b k X G F;have W:(lone (b.atR a (.code (.scope c)::k)) X w).fenced P Fence.wide:=fenced_wide _ _;have V:step P (lone (b.atR a (.code (.scope c)::k)) X w)=.next (lone (b.atR a (.code c::.inScope c::k)) X w):=step_lone_go (by simp[stepG,stepG.exec,Frame.atR])
 have D:∀a w,step P (lone (b.atR a (.inScope c::k)) X w)=.next (lone (b.atR a k) X w):=λa w=>step_lone_go (by simp[stepG,stepG.exec,Frame.atR])
 obtain⟨e,O,N,⟨B,M⟩,R⟩:=h b (.inScope c::k) X G F;cases e with
 |normal=>exact⟨.normal,O,N,M,.head W V (StepsIn.trans R (.one (fenced_wide _ _) (D _ _)))⟩
 |exit id=>
  have H:exitTo id (.inScope c::k)=exitTo id k:=by simp[exitTo]
  exact⟨.exit id,O,N,M,λA L=>.head W V (R.1 A (by rw[H];exact L)),λz L=>let⟨y,x,v⟩:=R.2 z (by rw[H];exact L);⟨y,x,.head W V v⟩⟩
 |goto l=>exact bp rfl (B l)
 |ret=>exact⟨_,O,N,M,.of_steps (.one W V) R⟩
 |panic u=>exact⟨_,O,N,M,.of_steps (.one W V) R⟩
 |outgrown=>exact⟨_,O,N,M,.of_steps (.one W V) R⟩
def Hy{c:Operand}{x y:Code}{t:Bool}(X:a.eval c=.bool t)(h:iH i j P (if t then x else y) Q a w):iH i j P (Code.cond c x y) Q a w:=by
 intro b k W V R;obtain⟨e,O,N,M,L⟩:=h b k W V R;exact⟨e,O,N,M,.of_steps (.one (fenced_wide _ _) (stepR_cond X)) L⟩
def K1(i:bX)(j:FuncId)(P:Program)(c:Code)(Q:Exit->Act->World->Prop):Nat->Act->World->Prop
 |0,_,_=>False
 |m+1,a,w=>iH i j P c (Exit.then (K1 i j P c Q m) Q) a w
def adR{c:Code}(m:Nat)(h:K1 i j P c Q m a w):iH i j P (Code.loop c) Q a w:=by
 intro b k O H G;have F:∀m a w,K1 i j P c Q m a w->
   ∃e M L,Q e M L/\ArrivesIn (Machine.fenced P Fence.wide) P (lone (b.atR a (.code c::.inLoop c::k)) O w) b k O e M L:=by
  intro m;induction m with
  |zero=>intro a w h;exact h.elim
  |succ m D=>
   intro a w h;obtain⟨e,X,W,V,R⟩:=h b (.inLoop c::k) O H G;have N:∀{e:Exit},e≠ .normal->ArrivesIn (Machine.fenced P Fence.wide) P (lone (b.atR a (.code c::.inLoop c::k)) O w) b (.inLoop c::k) O e X W->ArrivesIn (Machine.fenced P Fence.wide) P (lone (b.atR a (.code c::.inLoop c::k)) O w) b k O e X W:=
    λB A=>.pass (x:=.inLoop c) rfl (λ_ _=>.inl B) A
   cases e with
   |normal=>
    obtain⟨z,y,v,u,t⟩:=D X W V;exact⟨z,y,v,u,.of_steps (StepsIn.trans R (.one (fenced_wide _ _) stepR_inLoop)) t⟩
   |exit id=>exact⟨_,X,W,V,N au R⟩
   |goto l=>exact⟨_,X,W,V,N au R⟩
   |ret=>exact⟨_,X,W,V,N au R⟩
   |panic s=>exact⟨_,X,W,V,N au R⟩
   |outgrown=>exact⟨_,X,W,V,N au R⟩
 obtain⟨e,M,L,V,R⟩:=F m a w h;exact⟨e,M,L,V,.of_steps (.one (fenced_wide _ _) stepR_loop) R⟩
def an9{c:Code}(X:Nat->Act->World->Prop)(V:Nat)(L:X V a w)
  (round:∀n a w,X n a w->iH i j P c (Exit.then (λO M=>∃R,R<n/\X R O M) Q) a w):iH i j P (Code.loop c) Q a w:=by
 refine adR (V+1) ?_;have H:∀N n a w,n<N->X n a w->K1 i j P c Q N a w:=by
  intro N;induction N with
  |zero=>intro n a w h;omega
  |succ N G=>
   intro n a w B F;refine an6 (round n a w F) ?_;intro e O M W;cases e with
   |normal=>
    obtain⟨R,A,D⟩:=W;exact G R O M aa D
   |exit id=>exact W
   |goto l=>exact W
   |ret=>exact W
   |panic z=>exact W
   |outgrown=>exact W
 exact H (V+1) V a w aa L
def VH(i:bX)(j:FuncId)(P:Program)(l:Nat)(Q:Exit->Act->World->Prop)(X:Act):Ending->World->Prop
 |.returned _,W=>∃R V,(Instr.endLoop l).run P W=.ok R V/\
   (match R with
    |none=>Q .normal X V
    |U c=>iH i j P c Q X V)
 |.panicked chain,W=>Q (.panic chain) X W
 |.outgrown,_=>False
def aoa{g:Operand}{W:Array Tmp}{assign body:Code}
  (h:∃(l:Nat)(mark:yv)(V:World)(d:Deferred)(R:World)(f:FuncId)(O:kH)(N:World),
   (Instr.enterLoop j a.tmps W assign body i).run P w=.ok (l,mark) V/\
   (resolve a.eval (rangeCall g l) 0).run P V=.ok d R/\
   (invoke d.target d.args).run P R=.ok (.enter f O) N/\
   Calls P f O N (VH i j P l Q {a with defers:=mark++a.defers})):
  iH i j P (Code.rangeFunc g W assign body) Q a w:=by
 intro b k X H G;obtain⟨l,mark,V,d,R,f,O,N,F,s,r,M⟩:=h;obtain⟨hF,M⟩:=(callsIn_wide (n:=0)).2 M;rw[<-H,<-G] at F;have D:(lone (b.atR a (.code (.rangeFunc g W assign body)::k)) X w).fenced P Fence.wide:=fenced_wide _ _;have B:=stepR_rangeFunc (P:=P) (b:=b) (a:=a) (k:=k) (cs:=X) (w:=w) F s r;obtain⟨e,q,fr,L,A,al,z⟩:=M (b.atR {a with defers:=mark++a.defers} (.inRangeFunc l::k)::X) (room_wide _);cases e with
 |outgrown=>exact L.elim
 |returned v=>
  obtain⟨y,x,p,u⟩:=L;have t:StepsIn (Machine.fenced P Fence.wide) P (lone (b.atR a (.code (.rangeFunc g W assign body)::k)) X w) (lone (b.atR {a with defers:=mark++a.defers} ((y.map Item.code).toList++k)) X x):=by
   refine .head D B (StepsIn.trans A (.head (fenced_wide _ _) ?_ (.one (fenced_wide _ _) (stepR_endRangeFunc p))));rw[<-finish_atR_inRangeFunc l v];exact step_leave_returned z
  cases y with
  |none=>exact⟨.normal,_,x,u,t⟩
  |some c=>
   obtain⟨o,m,af,hq,ag⟩:=u b k X H G;exact⟨o,m,af,hq,.of_steps t ag⟩
 |panicked chain=>
  refine⟨.panic chain,_,q,L,.inRangeFunc l::k,.head D B (StepsIn.trans A (.one (fenced_wide _ _) ?_))⟩;rw[<-Frame.raise_atR];exact step_leave_panicked z
end
def Hz{P:Program}{f:FuncId}{O:Func}{c:Code}{X:kH}{w:World}{R:Ending->World->Prop}
  (A:P.funcs[f]?=U O)(t:O.body=U c)
  (h:iH Z f P c (bodyPostM Fence.wide 0 P O R) {tmps:=X++JI (O.ntmps-X.size) undef,defers:=[]} w):Calls P f X w R:=by
 refine(callsIn_wide (n:=0)).1 ⟨trivial,λz x=> ?_⟩;let b:Frame:={(default:Frame) with fn:=f,kind:=.normal,roundOf:=Z};have s:Frame.enter P f X .normal=
   b.atR {tmps:=X++JI (O.ntmps-X.size) undef,defers:=[]} [.code c]:=by
  simp[Frame.enter,Frame.atR,A,t,b]
 obtain⟨e,W,y,V,N⟩:=h b [] z rfl rfl;rw[<-s] at N;cases e with
 |normal=>
  obtain⟨M,L,H,G,F,D,B⟩:=leaves_stepsInM W.defers .returning y {b.atR W [] with mode:=.returning} z rfl rfl rfl A rfl trivial x V;exact⟨M,L,H,G,ComesIn.of_steps (StepsIn.trans N (.one (fenced_wide _ _) (stepR_end rfl))) F,D,B⟩
 |ret=>
  obtain⟨v,u⟩:=N.1 rfl;obtain⟨M,L,H,G,F,D,B⟩:=leaves_stepsInM W.defers .returning y {b.atR W v with mode:=.returning} z rfl rfl rfl A rfl trivial x V;exact⟨M,L,H,G,ComesIn.of_steps u F,D,B⟩
 |panic chain=>
  obtain⟨v,u⟩:=N;obtain⟨M,L,H,G,F,D,B⟩:=leaves_stepsInM W.defers (.panicking chain) y {b.atR W v with mode:=.panicking chain} z rfl rfl rfl A rfl trivial x V;exact⟨M,L,H,G,ComesIn.of_steps u F,D,B⟩
 |exit id=>exact V.elim
 |goto l=>exact V.elim
 |outgrown=>exact⟨.outgrown,y,b,V,N.resolve_left (by simp[b]),rfl,trivial⟩
def aob(P:Program)(l:Nat)(R:Ending->World->Prop):Exit->Act->World->Prop
 |.normal,_,w=>∃v X,(Instr.endRound l Z).run P w=.ok v X/\R (.returned v) X
 |.ret,_,w=>∃v X,(Instr.endRound l (U .ret)).run P w=.ok v X/\R (.returned v) X
 |.exit id,_,w=>∃v X,(Instr.endRound l (U (.exit id))).run P w=.ok v X/\R (.returned v) X
 |.panic W,a,w=>a.defers=[]/\R (.panicked W) w
 |_,_,_=>False
def aoc{F:Fence}(p:nY F){P:Program}{l:Nat}{f:FuncId}{o:Func}{u:kH}{assign body:Code}{w:World}{R:Ending->World->Prop}(k:P.funcs[f]?=U o)
  (h:iH (U l) f P assign (λe L H=>(e=.normal/\∃s,(Instr.beginRound l).run P H=.ok () s/\iH (U l) f P body (aob P l R) L s)\/∃A,e=.panic A/\L.defers=[]/\R (.panicked A) H)
   {tmps:=u,defers:=[]} w):
  RoundIn F X P l f u assign body w R:=by
 refine⟨p.fn f,λc O hr=> ?_⟩;let b:Frame:={(default:Frame) with fn:=f,kind:=.normal,roundOf:=U l};have j:Frame.round l f u assign body .normal=b.atR {tmps:=u,defers:=[]} [.code assign,.beginRound,.code body]:=by
  simp[Frame.round,Frame.atR,b]
 have an:(Fence.wide.inRound l).room ((c::O).length+1+X):=(acG l).room _;obtain⟨e,L,H,i,G⟩:=h b [.beginRound,.code body] (c::O) rfl rfl;rw[<-j] at G;rw[p.eq];have HA:∀(m:Machine)(D:Act)(N:World)(chain:List PanicEntry)(M:List Item),D.defers=[]->StepsIn (Machine.fenced P Fence.wide) P m (lone {b.atR D M with mode:=.panicking chain} (c::O) N)->StepsIn (Machine.fenced P Fence.wide) P m (lone (c.raise chain) O N):=by
  intro m D N chain M z W;have g:({b.atR D M with mode:=.panicking chain}:Frame).leaving P N (.panicked chain):=⟨rfl,z,o,k⟩;exact StepsIn.trans W (.one (fenced_wide _ _) (step_leave_panicked g))
 rcases i with⟨rfl,s,d,af⟩|⟨A,rfl,z,V⟩;have r:StepsIn (Machine.fenced P Fence.wide) P (lone (b.atR L [.beginRound,.code body]) (c::O) H) (lone (b.atR L [.code body]) (c::O) s):=
  .one (fenced_wide _ _) (stepR_beginRound rfl d)
 obtain⟨ag,D,N,B,q⟩:=af b [] (c::O) rfl rfl;cases ag with
 |normal=>
  obtain⟨v,y,x,V⟩:=B;exact⟨.returned v,y,V,(StepsIn.trans G r).trans (StepsIn.trans q (.one (fenced_wide _ _) (stepR_round_end rfl rfl x)))⟩
 |ret=>
  obtain⟨v,y,x,V⟩:=B;obtain⟨al,W⟩:=q.2 rfl;exact⟨.returned v,y,V,(StepsIn.trans G r).trans (StepsIn.trans W (.one (fenced_wide _ _) (stepR_round_ret rfl rfl x)))⟩
 |exit id=>
  obtain⟨v,y,x,V⟩:=B;obtain⟨al,hk,W⟩:=q.2 rfl rfl;exact⟨.returned v,y,V,(StepsIn.trans G r).trans (StepsIn.trans W (.one (fenced_wide _ _) (stepR_round_exit rfl rfl hk x)))⟩
 |goto t=>exact B.elim
 |panic chain=>
  obtain⟨z,V⟩:=B;obtain⟨M,W⟩:=q;exact⟨.panicked chain,N,V,HA _ D N chain M z ((StepsIn.trans G r).trans W)⟩
 |outgrown=>exact B.elim
 obtain⟨M,W⟩:=G;exact⟨.panicked A,H,V,HA _ L H A M z W⟩
mutual
def K.eE(O:ai)(y:ap):∀(e:K),e.ab (O.at y)=e.ab O
 |.c n=>by simp[K.ab]
 |.v k=>by simp[K.ab,ai.at]
 |.bin o k a b=>by simp only[K.ab];rw[K.eE O y a,K.eE O y b]
 |.conv k a=>by simp only[K.ab];rw[K.eE O y a]
 |.len r=>by simp only[K.ab];rw[RE.lA O y r]
 |.mm m a b=>by simp only[K.ab];rw[K.eE O y a,K.eE O y b]
 |.dv b x z=>by simp only[K.ab];rw[BE.eE O y b,K.eE O y x,K.eE O y z]
 |.cell r i j=>by simp only[K.ab];rw[RE.lA O y r,K.eE O y i]
 |.mV r i=>by simp only[K.ab];rw[RE.lA O y r,K.eE O y i]
 |.look r n a b c j=>by simp only[K.ab];rw[RE.lA O y r,K.eE O y a,K.eE O y b,K.eE O y c]
def BE.eE(O:ai)(y:ap):∀(e:BE),e.ab (O.at y)=e.ab O
 |.c b=>by simp[BE.ab]
 |.v k=>by simp[BE.ab,ai.at]
 |.cmp o a b=>by simp only[BE.ab];rw[K.eE O y a,K.eE O y b]
 |.not a=>by simp only[BE.ab];rw[BE.eE O y a]
 |.and a b=>by simp only[BE.ab];rw[BE.eE O y a,BE.eE O y b]
 |.beq a b=>by simp only[BE.ab];rw[BE.eE O y a,BE.eE O y b]
 |.dv b x z=>by simp only[BE.ab];rw[BE.eE O y b,BE.eE O y x,BE.eE O y z]
 |.cell r i j=>by simp only[BE.ab];rw[RE.lA O y r,K.eE O y i]
 |.seq a b=>by simp only[BE.ab];rw[RE.lA O y a,RE.lA O y b]
 |.look r n a b c j=>by simp only[BE.ab];rw[RE.lA O y r,K.eE O y a,K.eE O y b,K.eE O y c]
 |.has r n a b c=>by simp only[BE.ab];rw[RE.lA O y r,K.eE O y a,K.eE O y b,K.eE O y c]
def RE.lA(O:ai)(y:ap):∀(e:RE),e.rv (O.at y)=e.rv O
 |.v k=>by simp[RE.rv,ai.rv,ai.at]
 |.cell r i j k=>by simp only[RE.rv];rw[RE.lA O y r,K.eE O y i]
 |.k v=>by simp[RE.rv]
end
def C.VI(O:ai)(y:ap)(v:C):v.xv (O.at y)=v.xv O:=by
 cases v<;>simp[C.xv,K.eE,BE.eE,RE.lA]
def C.aod(O:ai)(y:ap)(v:C):v.bN (O.at y)=v.bN O:=by
 cases v<;>simp[C.bN,K.eE,BE.eE,RE.lA]
def C.Pm(O:ai)(y:ap):C.bN (O.at y)=C.bN O:=funext (C.aod O y)
def LE.EE(O:ai)(y:ap):∀(e:LE),e.ae (O.at y)=e.ae O
 |.ah r=>by simp only[LE.ae,RE.lA]
 |.lit l=>by simp only[LE.ae,C.Pm]
 |.jW a b=>by simp only[LE.ae];rw[LE.EE O y a,LE.EE O y b]
 |.tq n R=>by simp only[LE.ae,C.Pm,K.eE]
 |.set a i Q X=>by simp only[LE.ae,C.Pm,K.eE];rw[LE.EE O y a]
 |.sub a P N=>by simp only[LE.ae,K.eE];rw[LE.EE O y a]
 |.ins a n X=>by simp only[LE.ae,C.Pm];rw[LE.EE O y a]
def K2:∀(X:aX)(O:ai)(y:ap),(O.at y).ext X=(O.ext X).at y
 |[],O,y=>rfl
 |x::X,O,y=>by
  simp only[ai.ext];rw[<-K2 X (O.add x) y];cases x<;>rfl
def aoe{G:Ty}{F:World}{X:LE}{R:aY}{y:ap}{Q:RV}(h:Ek G t F v X R (x.at y) Q):Ek G t F v X R x Q:=by
 obtain⟨P,N,M⟩:=h;rw[LE.EE] at P;exact⟨P,N,M⟩
def q8(p:Sp):∀(t:T)(O:ai)(L:cX)(y:ap),t.aG p O L->t.aG p (O.at y) L
 |.out e s,O,L,y,h=>h
 |.ret v u M,O,L,y,h=>h
 |.aW v,O,L,y,h=>h
 |.aS b t f,O,L,y,h=>by
  simp only[T.aG,BE.eE] at h⊢;exact⟨λQ=>q8 p t O L y (h.1 Q),λQ=>q8 p f O L y (h.2 Q)⟩
 |.aN b t,O,L,y,h=>by
  simp only[T.aG,BE.eE] at h⊢;exact⟨h.1,q8 p t O L y h.2⟩
 |.call f ag u M q iE t,O,L,y,h=>by
  simp only[T.aG] at h⊢;intro m V W R;refine(h m V W R).mono ?_;intro e W' G;cases e with
  |returned v=>
   obtain⟨F,P,N,B,l,c⟩:=G;refine⟨F,P, ?_,B,l, ?_⟩;rw[K2];exact N;rw[K2];exact q8 p t _ L y c
  |panicked ch=>exact G
  |outgrown=>exact G
 |.loop av q x0 t,O,L,y,h=>by
  simp only[T.aG] at h⊢;obtain⟨X,μ,P,N⟩:=h;refine⟨X,μ, ?_,λF hf hI=> ?_⟩;have:C.xv (O.at y)=C.xv O:=funext (C.VI O y);rw[this];exact P;rw[K2];exact q8 p t _ _ y (N F hf hI)
 |.back av x,O,L,y,h=>by
  have:C.xv (O.at y)=C.xv O:=funext (C.VI O y);simp only[T.aG] at h⊢;rw[this];exact h
 |.new e x M al t,O,L,y,h=>by
  simp only[T.aG] at h⊢;intro A af;exact q8 p t (O.add (.r A)) L y (h A (aoe af))
 |.ae k x M t,O,L,y,h=>by
  simp only[T.aG] at h⊢;have:gI x (O.at y)=gI x O:=by simp only[gI,LE.EE]
  rw[this];exact q8 p t (O.add (.r (gI x O))) L y h
 |.fU g h' t f,O,L,y,h=>by
  simp only[T.aG,BE.eE] at h⊢;exact⟨λQ=>q8 p t O L y (h.1 Q),λQ=>q8 p f O L y (h.2 Q)⟩
 |.pick n g h' t f,O,L,y,h=>by
  simp only[T.aG,K.eE,BE.eE] at h⊢;refine⟨λj P N B=>q8 p t (O.add (.i j)) L y (h.1 j P N ?_),λQ=>q8 p f O L y (h.2 Q)⟩;have:=BE.eE (O.add (.i j)) y g;rw[<-this];exact B
 |.dK f g e sp st r M t,O,L,y,h=>by
  simp only[T.aG,RE.lA] at h⊢;obtain⟨z,P,N⟩:=h;refine⟨z, ?_,q8 p t (O.add (.r (.mk (r.rv O).val z))) L y N⟩;rw[<-P];cases sp with
  |da k o H=>
   have w:K.ab (O.at y)=K.ab O:=funext λe=>K.eE O y e
   cases st with
   |false=>simp only[jL,w]
   |true=>
    cases H with
    |nil=>rfl
    |cons i H=>
     cases H with
     |nil=>simp only[jL,w]
     |cons j H=>rfl
  |lex cs d=>rfl
  |ratio n d=>rfl
 |.stuck _,_,_,_,h=>h
mutual
def C.HB{O:ai}{y:ap}{n:Nat}(X:∀m,m<n->y.getD m 0=O.y.getD m 0)(V:ap):∀(v:C),v.uU n=E->v.ab (O.at y) V=v.ab O V
 |.int _ e,_=>by simp only[C.ab,K.eE]
 |.bool e,_=>by simp only[C.ab,BE.eE]
 |.ah e,_=>by simp only[C.ab,RE.ab,RE.lA]
 |.loc i _,_=>rfl
 |.el r _ i _,_=>by simp only[C.ab,RE.ab,RE.lA,K.eE]
 |.ij _ _ _ _,_=>rfl
 |.agg l,h=>by simp only[C.ab];rw[C.HC X V l h]
 |.bA l,h=>by simp only[C.ab];rw[C.HC X V l h]
 |.fn _ l,h=>by simp only[C.ab];rw[C.HC X V l h]
 |.fT _ x,h=>by simp only[C.ab];rw[C.HB X V x h]
 |.yl m,h=>by
  simp only[C.uU,decide_eq_false_iff_not,Nat.not_le] at h;simp only[C.ab,ai.at];rw[X m h]
 |.any,_=>rfl
 |.mp _,_=>rfl
 |.fy e Q R,h=>by simp only[C.ab,K.eE];rw[C.HC X V R h]
def C.HC{O:ai}{y:ap}{n:Nat}(X:∀m,m<n->y.getD m 0=O.y.getD m 0)(V:ap):∀(l:am),C.nU n l=E->C.ay (O.at y) V l=C.ay O V l
 |[],_=>rfl
 |x::R,h=>by
  simp only[C.nU,tc] at h;simp only[C.ay];rw[C.HB X V x h.1,C.HC X V R h.2]
end
def C.aof(R:∀m,m<X->t.getD m 0=x.y.getD m 0)(V:ap)(v:C)(h:v.uU X=E):v.gc (x.at t) V=v.gc x V:=by
 have Q:=C.HB R V v h;cases v<;>simp only[C.gc]<;>try rw[Q]
 exact RE.lA x t _
def C.adS{O:ai}{y:ap}{n:Nat}(X:∀m,m<n->y.getD m 0=O.y.getD m 0)(V:ap):∀(l:am),C.nU n l=E->C.dw (O.at y) V l=C.dw O V l
 |[],_=>rfl
 |x::R,h=>by
  simp only[C.nU,tc] at h;have:=C.adS X V R h.2;simp only[C.dw,ep] at this⊢;rw[C.aof X V x h.1,this]
def VJ{n:Nat}:∀{l:am},C.nU n l=E->∀v∈l,v.uU n=E
 |[],_,v,h=>by cases h
 |x::R,h,v,X=>by
  simp only[C.nU,tc] at h;rcases dJ.1 X with rfl|X;exact h.1;exact VJ h.2 v X
def VK{n:Nat}:∀{bx:bn},uV n bx=E->∀(i:Nat)(t:TypeId)(X:am),bM bx i=U (t,X)->C.nU n X=E
 |[],_,i,t,X,h=>by simp[cj] at h
 |Z::Q,R,0,t,X,h=>by simp[cj] at h
 |U x::Q,R,0,t,X,h=>by
  simp only[uV,tc] at R;simp[cj] at h;rw[h] at R;exact R.1
 |Z::Q,R,i+1,t,X,h=>VK (bx:=Q) R i t X (by simpa[cj] using h)
 |U x::Q,R,i+1,t,X,h=>by
  simp only[uV,tc] at R;exact VK (bx:=Q) R.2 i t X (by simpa[cj] using h)
section
variable{H:ap}{F:World}{D:bI}{G:Ty}{V:ap}{O:ai}{s:S}{a:Act}{W:World}
def K3(n:Nat):∀(k:Nat)(R:bn),(mF n k R).length=Y R
 |0,[]=>rfl
 |_+1,[]=>rfl
 |k+1,x::X=>by simp[mF,K3 n k X]
 |0,Z::X=>by simp[mF,K3 n 0 X]
 |0,U x::X=>by simp[mF,K3 n 0 X]
def K4(n:Nat):∀(k:Nat)(R:bn)(i:Nat)(x:TypeId×am),bM (mF n k R) i=U x->bM R i=U x
 |0,[],_,_,h=>h
 |_+1,[],_,_,h=>h
 |k+1,x::X,0,_,h=>by simpa[mF,cj] using h
 |k+1,x::X,i+1,z,h=>by
  have:=K4 n k X i z (by simpa[mF,cj] using h);simpa[cj] using this
 |0,Z::X,0,_,h=>by simp[mF,cj] at h
 |0,Z::X,i+1,z,h=>by
  have:=K4 n 0 X i z (by simpa[mF,cj] using h);simpa[cj] using this
 |0,U x::X,0,z,h=>by
  simp only[mF] at h;split at h;simp[cj] at h;simpa[cj] using h
 |0,U x::X,i+1,z,h=>by
  have:=K4 n 0 X i z (by simpa[mF,cj] using h);simpa[cj] using this
def adT:∀{bx:bn}{i:Nat},aF bx i=J->i<Y bx
 |[],i,h=>by simp[aF,cj] at h
 |x::X,0,_=>au
 |x::X,i+1,h=>by
  have:=adT (bx:=X) (i:=i) (by simpa[aF,cj] using h);simp only[pO];omega
def adU{R:bn}:aF R X=J<->∃x,bM R X=U x:=by
 cases h:bM R X<;>simp[aF,h]
def K5{k:Nat}{R:bn}{i:Nat}(h:aF (mF X k R) i=J):aF R i=true:=by
 obtain⟨x,Q⟩:=adU.1 h;exact adU.2 ⟨x,K4 X k R i x Q⟩
def adV(n:Nat):∀(k:Nat)(X:bn)(i:Nat),i<k->aF X i=J->aF (mF n k X) i=J
 |0,_,_,h,_=>aa
 |_+1,[],_,_,h=>h
 |k+1,x::R,0,_,h=>by simpa[mF,aF,cj] using h
 |k+1,x::R,i+1,Q,h=>by
  have:=adV n k R i aa (by simpa[aF,cj] using h);simpa[mF,aF,cj] using this
def i8.aog{X:bn}{Q:aY}(R:i8 H F V O X G Q W)(n k:Nat):i8 H F V O (mF n k X) G Q W:=
 ⟨R.base,λi h=>R.own i (K5 h),λi j h L=>R.inj i j (K5 h) (K5 L),λi t B h=>R.box i t B (K4 n k X i _ h),λq e P N M=>⟨(R.ah q e P N M).1,λb A i z=>(R.ah q e P N M).2 b A i (K5 z)⟩⟩
def i8.at{P:bn}{M:aY}(R:i8 H F V O P G M W)(L:∀m,m<X->t.getD m 0=O.y.getD m 0)(B:uV X P=E):i8 H F V (O.at t) P G M W:=
 ⟨R.base,R.own,R.inj,λi Q N h=>by rw[C.adS L V N (VK B i Q N h)];exact R.box i Q N h,R.ah⟩
def aoh{a w:World}(h:ga t a w)(P:a.heap.size<=X)(o:Obj):ga t a (w.putObj X o):=
 ⟨h.os,h.tape,h.output,by have:=h.size;simpa[BJ] using this,λk R Q=>(rI aa).trans (h.block k R Q)⟩
def bu.cells{k:RK}{Q:RV}(h:bu W G k Q)(R:dL G k Q X):∃M t L,W.heap[X]?=U (.cells M t L):=by
 induction h generalizing X with
 |sl e A H F P m l B g f d N=>
  cases R with
  |here e a H F P=>
   have x:P[0]?=U P[0]:=ce aa;obtain⟨q1,X,af,w,u,-⟩:=B 0 _ x;cases w;exact u
  |deep e v P i j r c z k X q p o n=>exact N i j r c z k q p o n
 |str s=>cases R
 |ac v h=>cases R
 |own e Q h hn N=>
  cases R with
  |own e Q X R=>exact N R
 |ao Q h=>cases R
 |mr sh P=>cases R
def i8.obj{M:bn}{L:aY}(R:i8 H F V O M G L W){o:Obj}(B:W.heap[X]?=U o)(A:GV o=J)(w:F.heap.size<=X)(z:Obj):i8 H F V O M G L (W.putObj X z):=by
 have v:∀P Q t N,W.heap[P]?=U (.cells Q t N)->P≠X:=λP Q t N h e=>by subst e;rw[B] at h;cases h;exact abG A _ _ _ rfl
 refine⟨aoh R.base w z,R.own,R.inj,λi t Q h=> ?_,λk e u r q=> ?_⟩;have:=R.box i t Q h;rw[rI (λe=>by subst e;rw[B] at this;cases this;exact abH A _ _ rfl)];exact this;obtain⟨x,p⟩:=R.ah k e u r q;refine⟨x.GX (λP n=> ?_) (by simp[BJ]),p⟩;obtain⟨Q,t,N,m⟩:=x.cells n;exact rI (v _ _ _ _ m)
def wt.obj{R:bn}{Q:aY}{P:RV}{N:Nat}(h:wt H F V O R G Q W X v P N){b:Nat}{o:Obj}(L:W.heap[b]?=U o)(B:GV o=J)(A:Obj):wt H F V O R G Q (W.putObj b A) X v P N:=by
 refine h.world (rI ?_);obtain⟨z,x,cJ,-,M,-⟩:=h.mem;intro v;subst v;rw[L] at M;cases M;exact abG B _ _ _ rfl
def ax.obj(R:ax H F D G V O s a W){b:Nat}{o:Obj}(Q:W.heap[b]?=U o)(P:GV o=J)(M:F.heap.size<=b)(X:Obj){D':bI}{pd:rK}{a':Act}(N:a'.tmps=a.tmps)
  (L:dR F D' pd O.y a'.defers (W.putObj b X)):ax H F D' G V O {s with pd:=pd} a' (W.putObj b X):=
 ⟨R.mem.obj Q P M X,R.fM,R.ei,R.eb,R.er,L,by rw[N];exact R.size,λt B h=>by rw[N];exact R.tmps t B h,λk e A z x w v=>(R.fz k e A z x w v).obj Q P X⟩
def py:ap->World->World
 |[],W=>W
 |d::ms,W=>py ms (W.putObj d (.deferred Z))
def ax.py:∀{ms:ap}{a:Act}{W:World},ax H F D G V O s a W->a.defers=ms.map kP++D.base->ax H F D G V O s {a with defers:=D.base} (py ms W)
 |[],a,W,R,h=>by
  have:({a with defers:=D.base}:Act)=a:=by cases a;simp at h;subst h;rfl
  rw[this];exact R
 |d::ms,a,W,R,h=>by
  obtain⟨A,Q,w,M,L⟩:=R.cQ.kQ;have v:A=d::ms:=by
   rw[h] at Q;have Q:=aw3 Q;have u:∀(l X:ap),l.map kP=X.map kP->l=X:=by
    intro l;induction l with
    |nil=>intro X h;cases X<;>simp at h;rfl
    |cons x b t=>
     intro X h;cases X with
     |nil=>simp at h
     |cons z q=>
      simp only[ep,uG,kP,Deferred.mk.injEq,Target.collected.injEq] at h;obtain⟨⟨rfl,-⟩,h⟩:=h;rw[t q h]
   exact(u _ _ Q).symm
  subst v;have P:=L d au;have p:dR F D s.pd O.y (ms.map kP++D.base) (W.putObj d (.deferred Z)):=by
   refine⟨R.cQ.len,R.cQ.oD,λn l r o m k=> ?_,R.cQ.inj,ms,rfl,λj=>(by have:=w j;cases this),(NO.1 M).2,λi B=> ?_⟩;obtain⟨g,N,f⟩:=R.cQ.cV n l r o m k;exact⟨g,(rI (λe=>by subst e;rw[P.1] at N;cases N)).trans N,f⟩;have:=L i (by simp only[gA,dJ];exact .inr B);refine⟨(rI (λe=>by subst e;exact(NO.1 M).1 B)).trans this.1,this.2⟩
  have c:=R.obj P.1 rfl P.2 (.deferred Z) (D':=D) (pd:=s.pd) (a':={a with defers:=ms.map kP++D.base}) rfl p;exact ax.py (a:={a with defers:=ms.map kP++D.base}) (W:=W.putObj d (.deferred Z)) c rfl
def dR.py:∀{ms:ap}{pd:rK}{y:ap}{W:World},dR F D pd y (ms.map kP++D.base) W->dR F D pd y D.base (py ms W)
 |[],pd,y,W,h=>h
 |d::ms,pd,y,W,h=>by
  obtain⟨L,R,H,P,N⟩:=h.kQ;have G:L=d::ms:=by
   have R:=aw3 R;have B:∀(l X:ap),l.map kP=X.map kP->l=X:=by
    intro l;induction l with
    |nil=>intro X h;cases X<;>simp at h;rfl
    |cons x j A=>
     intro X h;cases X with
     |nil=>simp at h
     |cons z w=>
      simp only[ep,uG,kP,Deferred.mk.injEq,Target.collected.injEq] at h;obtain⟨⟨rfl,-⟩,h⟩:=h;rw[A w h]
   exact(B _ _ R).symm
  subst G;have v:=N d au;refine dR.py (ms:=ms) (W:=W.putObj d (.deferred Z)) ⟨h.len,h.oD,λn l r u t q=> ?_,h.inj,ms,rfl,λp=>(by have:=H p;cases this),(NO.1 P).2,λo M=> ?_⟩;obtain⟨m,Q,k⟩:=h.cV n l r u t q;exact⟨m,(rI (λe=>by subst e;rw[v.1] at Q;cases Q)).trans Q,k⟩;have:=N o (by simp only[gA,dJ];exact .inr M);exact⟨(rI (λe=>by subst e;exact(NO.1 P).1 M)).trans this.1,this.2⟩
end
def K6{P:World->Prop}{B:Nat}(h:∀W b o,B<=b->P W->P (W.putObj b o)):∀{X:ap}{W:World},(∀d∈X,B<=d)->P W->P (py X W)
 |[],W,_,R=>R
 |d::X,W,Q,R=>K6 (W:=W.putObj d (.deferred Z)) h (λx N=>Q x (by simp[N])) (h W d _ (Q d au) R)
def p7{P:Program}{Q:Func}{N:kH}{R:Ending->World->Prop}{u:FrameMode}{M:yv}(L:u≠ .run):∀{X:ap}{W:World},X.Nodup->(∀d∈X,W.heap[d]?=U (.deferred (U [])))->
  LeavesInM Fence.wide 0 P Q N R M u (py X W)->LeavesInM Fence.wide 0 P Q N R (X.map kP++M) u W
 |[],W,_,_,h=>h
 |d::X,W,F,H,h=>by
  obtain⟨B,A⟩:=NO.1 F;refine⟨L,.inl ⟨d,_,rfl,run_takeDeferred (H d au),p7 L A (λz G=> ?_) h⟩⟩;exact(rI (λe=>by subst e;exact B G)).trans (H z (by simp[G]))
section
variable{H:ap}{F:World}{D N:bI}{G:Ty}{V:ap}{O:ai}{s:S}{a:Act}{W:World}{pd:rK}{y:ap}{M:yv}
def dR.enter(h:dR F D pd y M W)(X:(t++D.out).Nodup)(R:∀d∈t++D.out,W.heap[d]?=U (.deferred (U []))/\F.heap.size<=d)(Q:Bool):dR F ⟨t++D.out,D.cV,Q,[]⟩ pd y [] W:=
 ⟨h.len,h.oD,h.cV,h.inj,[],rfl,λ_=>rfl,X,R⟩
def dR.HA(h:dR F ⟨t++D.out,D.cV,b,[]⟩ pd y [] W)(R:D.rd=J->t=[]):dR F D pd y (t.map kP++D.base) W:=by
 obtain⟨X,Q,M,P,N⟩:=h.kQ;have:X=[]:=by cases X<;>simp at Q;rfl
 subst this;exact⟨h.len,h.oD,h.cV,h.inj,t,rfl,R,P,N⟩
def dR.push{l:Nat}{r:Loop}(h:dR F D pd y M W)(v:(t++D.out).Nodup)(u:∀X∈t++D.out,W.heap[X]?=U (.deferred (U []))/\F.heap.size<=X)
  (q:W.heap[X]?=U (.deferred (U [])))(p:X∉t++D.out)(o:F.heap.size<=X)(m:W.heap[l]?=U (.loop (pV r .ready)))(z:∀(n:Nat)(P:Nat)(G:Loop),D.cV[n]?=U (P,G)->P≠l)(k:F.heap.size<=l):
  dR F ⟨X::(t++D.out),D.cV++[(l,r)],E,[]⟩ (pd++[.ready]) (y++[l]) [] W:=by
 refine⟨by simp[h.len],by simp[h.oD],λn P G j Q R=> ?_,λn N P x w Q R=> ?_,[],rfl,λ_=>rfl,by simpa using⟨by simpa using p,v⟩,λi H=> ?_⟩;by_cases L:n<Y D.cV;rw[dF L] at Q;rw[dF (by rw[<-h.len];exact L)] at R;obtain⟨g,f,e⟩:=h.cV n P G j Q R;exact⟨by rw[dF (by rw[h.oD,<-h.len];exact L)];exact g,f,e⟩;have B:n=Y D.cV:=by
  have:=(bJ.1 Q).1;simp at this;omega
 subst B;simp at Q;obtain⟨rfl,rfl⟩:=Q;rw[h.len] at R;simp at R;subst R;refine⟨?_,m,k⟩;rw[h.len,<-h.oD];simp;by_cases L:n<Y D.cV;rw[dF L] at Q;by_cases A:N<Y D.cV;rw[dF A] at R;exact h.inj n N P x w Q R;have B:N=Y D.cV:=by
  have:=(bJ.1 R).1;simp at this;omega
 subst B;simp at R;obtain⟨rfl,rfl⟩:=R;exact bp rfl (z n _ x Q);have c:n=Y D.cV:=by
  have:=(bJ.1 Q).1;simp at this;omega
 subst c;simp at Q;obtain⟨rfl,rfl⟩:=Q;by_cases A:N<Y D.cV;rw[dF A] at R;exact bp rfl (z N _ w R);have:=(bJ.1 R).1;simp at this;omega;simp only[gU,dJ] at H;rcases H with rfl|H;exact⟨q,o⟩;exact u i H
def dR.pop{l:Nat}{r:Loop}(h:dR F ⟨X::(t++D.out),D.cV++[(l,r)],E,[]⟩ pd y [] W)(H:D.rd=E):dR F D (pd.take (Y D.cV)) (y.take (Y D.cV)) ((X::t).map kP++D.base) W:=by
 obtain⟨M,G,o,B,A⟩:=h.kQ;have:M=[]:=by cases M<;>simp at G;rfl
 subst this;have z:=h.len;have m:=h.oD;simp at z;refine⟨dG,dG,λn N x w R Q=> ?_,λn v N u q R Q=> ?_,X::t,rfl,λL=>(by rw[H] at L;cases L),B,A⟩;have P:=(bJ.1 R).1;rw[lT,aE P] at Q⊢;exact h.cV n N x w (by rw[dF P];exact R) Q;have P:=(bJ.1 R).1;have p:=(bJ.1 Q).1;exact h.inj n v N u q (by rw[dF P];exact R) (by rw[dF p];exact Q)
def dR.put{r:Loop}(h:dR F D pd y M W)(H:W.heap[X]?=U (.loop r))(G:∀(n R:Nat)(Q:Loop),D.cV[n]?=U (R,Q)->R≠X)(o:Obj):dR F D pd y M (W.putObj X o):=by
 obtain⟨B,A,z,x,P⟩:=h.kQ;refine⟨h.len,h.oD,λn R Q w L v=> ?_,h.inj,B,A,z,x,λd N=>⟨?_,(P d N).2⟩⟩;obtain⟨u,t,q⟩:=h.cV n R Q w L v;exact⟨u,(rI (G n R Q L)).trans t,q⟩;exact(rI (λe=>by subst e;have:=(P d N).1;rw[H] at this;cases this)).trans (P d N).1
def dR.VL{l:Nat}{r:Loop}(h:dR F D pd y M W)(R:D.cV[X]?=U (l,r))(z:DJ):dR F D (pd.set X z) y M (W.putObj l (.loop (pV r z))):=by
 obtain⟨u,t,q,p,L⟩:=h.kQ;have x:X<Y pd:=by rw[<-h.len];exact(bJ.1 R).1
 have P:∃H,W.heap[l]?=U (.loop H):=⟨_,(h.cV X l r pd[X] R (ce x)).2.1⟩;obtain⟨j,P⟩:=P;refine⟨by simp[h.len],by simp[h.oD],λw o H m N Q=> ?_,h.inj,u,t,q,p,λd G=>⟨?_,(L d G).2⟩⟩;rw[td] at Q;split at Q;rename_i e;subst e;rw[R] at N;cases N;simp only[cg] at Q;subst Q;obtain⟨B,v,A⟩:=h.cV X l r pd[X] R (ce x);exact⟨B,aw8 (yA P),A⟩;rename_i e;obtain⟨B,v,A⟩:=h.cV w o H m N Q;exact⟨B,(rI (λk=>by subst k;exact e (h.inj X w _ _ _ R N))).trans v,A⟩;exact(rI (λe=>by subst e;have:=(L d G).1;rw[P] at this;cases this)).trans (L d G).1
def adW{O:ai}{V:ap}:∀(R:ap)(N l:am)(A:kH),A.size=Y l->(∀(t:Nat)(X:C),l[t]?=U X->X=.any\/A[t]?=U (X.ab O V))->
  ((R.zip (C.ay O V N)).foldl (λ(M:kH)(x:Nat×Value)=>M.setIfInBounds x.1 x.2) A).size=(Ef R N l).length/\
  ∀(t:Nat)(X:C),(Ef R N l)[t]?=U X->X=.any\/((R.zip (C.ay O V N)).foldl (λ(M:kH)(x:Nat×Value)=>M.setIfInBounds x.1 x.2) A)[t]?=U (X.ab O V)
 |[],N,l,A,Q,h=>by simp only[List.zip_nil_left,List.foldl_nil,Ef];exact⟨Q,h⟩
 |p::R,[],l,A,Q,h=>by simp only[C.ay,List.zip_nil_right,List.foldl_nil,Ef];exact⟨Q,h⟩
 |p::R,v::L,l,A,Q,h=>by
  simp only[C.ay,To,BF,Ef];refine adW R L (l.set p v) (A.setIfInBounds p (v.ab O V)) (by simp[Q]) (λt X P=> ?_);rw[td] at P;split at P;rename_i e;subst e;split at P;rename_i H;cases P;right;rw[awT (by rw[Q];exact H)];cases P;rename_i e;rw[aav e];exact h t X P
end
section
variable{p:Sp}{cf:bi}
def EF(bC:Nat->Bool)(X W:Bool):∀(l:nM)(j n i:Nat)(m:OM),(fh bC X W j n l)[i]?=U m->l[i]?=U m.o
 |[],j,n,i,m,h=>by simp[fh] at h
 |o::r,j,n,0,m,h=>by simp[fh] at h;simp[<-h]
 |o::r,j,n,i+1,m,h=>by simp[fh] at h;simpa using EF bC X W r _ _ i m h
def K7(bC:Nat->Bool)(X W:Bool):∀(l:nM)(j n:Nat),(fh bC X W j n l).length=Y l
 |[],j,n=>rfl
 |o::r,j,n=>by simp[fh,K7 bC X W r]
def VM(bC:Nat->Bool)(X W:Bool):∀(l:nM)(j n i:Nat)(m:OM),(fh bC X W j n l)[i]?=U m->m.j=j+i
 |[],j,n,i,m,h=>by simp[fh] at h
 |o::r,j,n,0,m,h=>by simp[fh] at h;simp[<-h]
 |o::r,j,n,i+1,m,h=>by simp[fh] at h;have:=VM bC X W r _ _ i m h;omega
def VN(bC:Nat->Bool)(W X:Bool):∀(l:nM)(j n i:Nat)(m:OM),(fh bC W X j n l)[i]?=U m->m.dr=X
 |[],j,n,i,m,h=>by simp[fh] at h
 |o::r,j,n,0,m,h=>by simp[fh] at h;simp[<-h]
 |o::r,j,n,i+1,m,h=>by simp[fh] at h;exact VN bC W X r _ _ i m h
structure adX(m m':OM):Prop where
 o:m.o=m'.o
 ix:m.ix=m'.ix
 j:m.j=m'.j
 dr:m.dr=m'.dr
def VO{V:ap}:∀{l X:ck}{m:OM},m∈rU V X l->∃W∈l,adX m W
 |[],X,m,h=>by simp[rU] at h
 |x::l,X,m,h=>by
  simp only[rU,dJ] at h;rcases h with rfl|h;exact⟨x,au,rfl,rfl,rfl,rfl⟩;obtain⟨W,R,Q⟩:=VO h;exact⟨W,by simp[R],Q⟩
def adY{X:ap}:∀{l:ck},yp X l=J->l.Pairwise λx y=>(X.getD y.j 0).testBit x.j=J
 |[],_=>uD
 |x::r,h=>by
  simp only[yp,aw] at h;exact iv.2 ⟨λy W=>eO.1 h.1 y W,adY h.2⟩
def adZ{X:ap}:∀{l W:ck},(l.Pairwise λx y=>(X.getD y.j 0).testBit x.j=J)->(rU X W l).Pairwise λx y=>(X.getD y.j 0).testBit x.j=J
 |[],W,_=>uD
 |x::r,W,h=>by
  obtain⟨V,R⟩:=iv.1 h;refine iv.2 ⟨λy Q=> ?_,adZ R⟩;obtain⟨P,O,N⟩:=VO Q;rw[N.j];exact V P O
def ad0{Q:ap}:∀{l W:ck}(R:ck)(m:OM)(X:ck),rU Q W l=R++m::X->m.so=J->X.Pairwise λx y=>(Q.getD y.j 0).testBit x.j=J
 |[],W,R,m,X,h,_=>by cases R<;>simp[rU] at h
 |x::r,W,[],m,X,h,V=>by
  simp only[rU,gU,uG] at h;obtain⟨P,rfl⟩:=h;subst P;simp only[aw] at V;exact adZ (iv.1 (adY V.1.2)).2
 |x::r,W,z::O,m,X,h,V=>by
  simp only[rU,gA,uG] at h;exact ad0 O m X h.2 V
def VP:∀{l:ap},lY l=J->l.Pairwise (·≠·)
 |[],_=>uD
 |x::W,h=>by
  simp only[lY,aw,f9] at h;refine iv.2 ⟨λy X e=> ?_,VP h.2⟩;subst e;rw[ov.2 X] at h;cases h.1
def Pn:∀{l:ck},lY (l.filterMap (·.o.dst))=J->l.Pairwise λa b=>∀d,a.o.dst=U d->b.o.dst≠U d
 |[],_=>uD
 |x::V,h=>by
  cases W:x.o.dst with
  |none=>
   simp only[aaA,W] at h;exact iv.2 ⟨λy _ d X=>(by rw[W] at X;cases X),Pn h⟩
  |some d=>
   simp only[aaA,W,lY,aw,f9] at h;refine iv.2 ⟨λy R e X Q=> ?_,Pn h.2⟩;rw[W] at X;cases X;have:d∈V.filterMap (·.o.dst):=zV.2 ⟨y,R,Q⟩;rw[ov.2 this] at h;cases h.1
def ad1{X:db}{W:ap}:∀{l:ck},BV X W l=J->l.Pairwise λx y=>(W.getD y.j 0).testBit x.j=J\/rT X x y=J
 |[],_=>uD
 |x::R,h=>by
  simp only[BV,aw] at h;refine iv.2 ⟨λy V=> ?_,ad1 h.2⟩;have:=eO.1 h.1 y V;simpa using this
def ad2{Q:db}:∀{l:ck}{done:ap},BW Q done l=J->(∀m∈l,Q[m.j]?=U m.o)->∀X m V,l=X++m::V->∀e∈im m.o,e∈done\/∃x∈X,x.j=e
 |[],done,_,_,X,m,V,h=>by cases X<;>simp at h
 |x::l,done,R,P,X,m,V,h=>by
  simp only[BW,aw] at R;intro e O;cases X with
  |nil=>
   simp only[gU,uG] at h;obtain⟨rfl,-⟩:=h;rw[P x au] at R;exact .inl (ov.1 (eO.1 R.1 e O))
  |cons z N=>
   simp only[gA,uG] at h;obtain⟨rfl,h⟩:=h;rcases ad2 R.2 (λm M=>P m (by simp[M])) N m V h e O with W|⟨y,L,W⟩;rcases dJ.1 W with rfl|W;exact .inr ⟨x,au,rfl⟩;exact .inl W;exact .inr ⟨y,by simp[L],W⟩
def ad3{X:db}(h:Oe X.toList t=J):Hx X t:=by
 have P:∀(j:Nat)(o:Oper),X[j]?=U o->(∀e∈im o,e<j)/\∀i,i<X.size->(t.getD j 0).testBit i=J->i∈im o\/∃e∈im o,(t.getD e 0).testBit i=true:=by
  intro j o W;have O:j<X.size:=(jg.1 W).1;have R:=eO.1 h j (by simpa using O);have N:X.toList[j]?=U o:=by simpa using W
  rw[N] at R;simp only[aw] at R;refine⟨λe Q=>by simpa using eO.1 R.1 e Q,λi M L=> ?_⟩;have V:=eO.1 R.2 i (by simpa using M);simp only[L,aaH,alG,iD] at V;rcases V with V|V;exact .inl (ov.1 V);obtain⟨e,Q,H⟩:=jy.1 V;exact .inr ⟨e,Q,H⟩
 exact⟨λj o W=>(P j o W).1,λj o W=>(P j o W).2⟩
def tO(X:ap):∀(l:am)(n i:Nat),(qS X n l)[i]?=(l[i]?).map λx=>if X.contains (n+i) then .any else x
 |[],n,i=>by simp[qS]
 |x::W,n,0=>by simp[qS]
 |x::W,n,i+1=>by
  simp only[qS,qH];rw[tO X W (n+1) i,show n+1+i=n+(i+1) from aa]
def HD(X:ap):∀(l:am)(n:Nat),(qS X n l).length=Y l
 |[],n=>rfl
 |x::W,n=>by simp[qS,HD X W]
def ad4:∀{l:nM}{o:Oper}{t:TypeId},yq cf l=J->o∈l->o.op=.alloc t->Ed cf t=J
 |[],o,t,_,h,_=>by simp at h
 |x::V,o,t,h,X,W=>by
  simp only[yq,aw] at h;rcases dJ.1 X with rfl|X;have:=h.1;rw[W] at this;exact this;exact ad4 h.2 X W
def VQ:∀{l:ck},lY ((l.filter λm=>fW m.o.op).map (·.ix))=J->l.Pairwise λa b=>fW a.o.op=J->fW b.o.op=J->a.ix≠b.ix
 |[],_=>uD
 |x::R,h=>by
  by_cases X:fW x.o.op=J;rw[List.filter_cons_of_pos (by simpa using X),ep,lY,aw] at h;refine iv.2 ⟨λy W _ Q e=> ?_,VQ h.2⟩;have:x.ix∈(R.filter λm=>fW m.o.op).map (·.ix):=gL.2 ⟨y,o9.2 ⟨W,by simpa using Q⟩,e.symm⟩;have V:=h.1;rw[ov.2 this] at V;cases V;rw[List.filter_cons_of_neg (by simpa using X)] at h;exact iv.2 ⟨λy W P=>bp P X,VQ h⟩
def aoi(bC:Nat->Bool)(W V:Bool)(R:bn):∀(l:nM){i:Nat}{m:OM},fW m.o.op=J->(fh bC W V 0 (Y R) l)[i]?=U m->fA (R++ew (kL l) Z) m.ix=true:=by
 have P:∀(l:nM)(j n i:Nat)(m:OM),fW m.o.op=J->(fh bC W V j n l)[i]?=U m->n<=m.ix/\m.ix<n+kL l:=by
  intro l;induction l with
  |nil=>intro j n i m _ h;simp[fh] at h
  |cons o r O=>
   intro j n i m X h;have Q:kL (o::r)=(if fW o.op then 1 else 0)+kL r:=by
    unfold kL;rw[List.filter_cons];split<;>simp<;>omega
   cases i with
   |zero=>
    simp only[fh,xR,cg] at h;subst h;simp only at X⊢;rw[Q,aE X];omega
   |succ i=>
    simp only[fh,qH] at h;have:=O _ _ i m X h;rw[Q];split at this<;>simp_all<;>omega
 intro l i m X h;obtain⟨N,M⟩:=P l 0 _ i m X h;unfold fA;rw[gK N,Dw,aE aa]
abbrev ad5(p:Sp)(cf:bi)(D:bI)(x:YH)(L:cX)(n:Nat)(B:am)(s:S)(k A:C->S->T)(O:ai)(V:ap)(a:Act)(W:World)(G:Ending->World->Prop):Prop:=
  (x n B s k A).aG p O L->ax p.S0 p.w0 D cf.ty V O s a W->et cf.gl O->
  (∀v N X M Q H,bj s O V N X M->cz s.av L H->ax p.S0 p.w0 D cf.ty M X N a Q->(k v N).aG p X H->G (.returned (v.ab X M)) Q)->
  (∀v N X M Q H,bj s O V N X M->cz s.av L H->ax p.S0 p.w0 D cf.ty M X N a Q->(A v N).aG p X H->G (.panicked [{v:=v.ab X M,recovered:=E}]) Q)->
  (∀z Q w y,dR p.w0 D w y a.defers Q->p.R (.panicked z) Q->G (.panicked z) Q)->
  ∀(F:Fence)(_:nY F)(m:Nat),YieldAt F m p.P (O.y.getD n 0) (C.ay O V B).toArray W G
def nZ(p:Sp)(cf:bi)(X:List (Nat×Loop))(B:iG)(R:YH):Prop:=
 ∀(D:bI)(_:X<+:D.cV)(L:cX)(n:Nat)(Q:am)(s:S)(k P:C->S->T)(O:ai)(V:ap)(a:Act)(W:World)(N:Ending->World->Prop),B.j5 s (O.at (O.y.take (Y X))) V L->ad5 p cf D R L n Q s k P O V a W N
def aoj{Q:World}{D:bI}{P:Ty}{V:ap}{a:Act}{W:World}(X:ax t Q D P V x R a W):x.at (x.y.take (Y D.cV))=x:=by
 rw[F7 (by rw[X.cQ.oD,<-X.cQ.len];exact bU _)];cases x;rfl
def nZ.use{D:bI}{B:iG}{P:YH}(H:nZ p cf D.cV B P){L:cX}{k N:C->S->T}{a:Act}{W:World}{M:Ending->World->Prop}(G:B.j5 R x t L):ad5 p cf D P L X e R k N x t a W M:=
 λh Q=>H D (List.prefix_refl _) L X e R k N x t a W M (by rw[aoj Q];exact G) h Q
def Ck(X:List (Nat×Loop))(B:iG):nZ p cf X B gM:=λ_ _ _ _ _ _ _ _ _ _ _ _ _ _ h=>h.elim
def ad7{F:Fence}(hF:nY F)(ok:iB p cf){n:Nat}{pc:rV}(a9:Hv p cf pc){D:bI}{B:iG}{yh:YH}(hY:nZ p cf D.cV B yh){Q:Exit->Act->World->Prop}(HP:∀ch l A pd y,dR p.w0 D pd y l.defers A->p.R (.panicked ch) A->Q (.panic ch) l A){H:db}{u:ck}{a:Act}{W:World}{L:cX}{k:XE->S->T}(hB:B.j5 R x t L)
  (af:Al H (Y R.ak)=U u)(ba:yq cf H.toList=J)(bb:yK H pc)(h:(jX cf (qT cf pc yh) H (k .normal) (λv=>k (.aW v)) u (R.rW H u) []).aG p x L)(X:ax p.S0 p.w0 D cf.ty t x R a W)(hg:et cf.gl x)
  (hk:∀r z g l A f,bj R x t r z g->cz R.av L f->ax p.S0 p.w0 D cf.ty g z r l A->(k .normal r).aG p z f->Q .normal l A)
  (bc:∀v r z g l A f,bj R x t r z g->cz R.av L f->ax p.S0 p.w0 D cf.ty g z r l A->(k (.aW v) r).aG p z f->Q (.panic [{v:=v.ab z g,recovered:=E}]) l A):
  wpAnyIn F n p.P .any H Q H.size (JI H.size E) a {W with drawn:=W.drawn+1}:=by
 unfold Al at af;simp only at af;split at af;rename_i hc;simp only[aw,di] at hc;obtain⟨⟨⟨⟨⟨⟨⟨c1,c2⟩,c3⟩,c4⟩,c5⟩,c8⟩,c6⟩,c7⟩:=hc;simp only[cg] at af;rw[af] at c2 c3 c4 c5 c6 c7 c8;have an:∀m∈u,∃(i:Nat)(m':OM),(fh (J5 H.toList (nS H.toList)) E J 0 (Y R.ak) H.toList)[i]?=U m'/\adX m m':=by
  intro m G;rw[<-af] at G;obtain⟨m',b,h2⟩:=VO G;rw[Gu] at b;obtain⟨i,-,q⟩:=zV.1 b;exact⟨i,m',q,h2⟩
 have a1:∀m∈u,H[m.j]?=U m.o:=by
  intro m G;obtain⟨i,m',q,w⟩:=an m G;have b:=EF _ _ _ _ _ _ _ _ q;have h2:=VM _ _ _ _ _ _ _ _ q;rw[w.j,w.o,h2,gV];simpa using b
 have hW:KY H (nS H.toList) (JI H.size E) u:=by
  refine⟨a1,λi q=> ?_,au,λj o ho hj=> ?_,ad1 c3,λxs m ys he e hd=> ?_, ?_,Pn c4,λxs m ys he bf=>ad0 xs m ys (af.trans he) bf⟩;constructor;intro _;have:=eO.1 c7 i (by simpa using q);obtain⟨m,G,hj⟩:=jy.1 this;exact⟨m,G,by simpa using hj⟩;intro _;simp[q];exfalso;have bg:j<H.size:=(jg.1 ho).1;simp[bg] at hj;rcases ad2 c2 a1 xs m ys he e hd with b|b;cases b;exact .inr b;have:=VP c5;rw[alu] at this;exact this
 obtain⟨Rr,al⟩:=X.room (kL H.toList);have Rb:ax p.S0 p.w0 D cf.ty (t++ew (kL H.toList) 0) x (R.rW H u) a {W with drawn:=W.drawn+1}:=by
  have Rd:=Rr.drew;refine⟨Rd.mem,Rd.fM,Rd.ei,Rd.eb,Rd.er,Rd.cQ,by simp only[S.rW,HD];exact Rr.size,λN sv c=> ?_,Rd.fz⟩;simp only[S.rW] at c;rw[tO,gV] at c;cases hx:R.tmps[N]? with
  |none=>rw[hx] at c;cases c
  |some M=>
   rw[hx] at c;simp only[dQ,cg] at c;split at c;exact .inl c.symm;subst c;exact Rd.tmps N M hx
 have a3:bj R x t (R.rW H u) x (t++ew (kL H.toList) 0):=⟨al.ext,al.mono,al.len,al.av⟩;refine an4 bb a9 hF ok HP (ad3 c1) (Kn:=Cg p (k .normal)) (Kp:=AD p (λv=>k (.aW v))) (Yp:=AE p cf H pc yh (k .normal) (λv=>k (.aW v))) (s0:=R.rW H u) (O0:=x) (V0:=t++ew (kL H.toList) 0) (L0:=L)
  (λr z g l A f hl hL R' w=>hk r z g l A f (a3.trans hl) hL R' w) (λv r z g l A f hl hL R' w=>bc v r z g l A f (a3.trans hl) hL R' w)
  ?_
  H.size _ u (R.rW H u) x _ a _ L c6 hW (λm G=>by
   obtain⟨i,m',q,w⟩:=an m G;rw[w.dr];exact VN _ _ _ _ _ _ _ _ q) (λm G N c=> ?_) (VQ c8) (.inl ⟨λm G bk=> ?_, ?_⟩) (bj.refl _ _ _) (cz.refl _ _) Rb hg ?_
 intro L2 m bl s2 O2 V2 a2 W2 yn b7 R' hl hL R2 br bs bt bx b0 mm;obtain⟨b1,fx,b2,b3⟩:=bs;refine hY.use (hB.go (a3.trans hl) hL) b3 R2 br (λv r z g A f a4 b4 Rn w=> ?_) bx b0 F hF mm;refine bt v r z g A f a4 b4 Rn ?_;have ag:=fo r m.o.dst v;refine EB ok.pt bl _ _ z (by rw[ag.1];exact Rn.ei) (by rw[ag.2.1];exact Rn.eb) (by rw[ag.2.2];exact Rn.er) w ?_ b1;intro M hx;obtain⟨b5,b8⟩:=o9.1 hx;obtain⟨hd,a0⟩:=b2 M b5;have hE:=a4.ext;refine⟨by rw[BE.dS hE.agree _ (by rw[R2.ei,R2.eb,R2.er];exact a0)];exact hd, ?_⟩;rw[ag.1,ag.2.1,ag.2.2,<-Rn.ei,<-Rn.eb,<-Rn.er];exact BE.dY (by rw[<-R2.ei];exact hE.li) (by rw[<-R2.eb];exact hE.lb) (by rw[<-R2.er];exact hE.lr) _ a0;have b:=a1 m G;exact ad4 ba (iU (show H.toList[m.j]?=U m.o by simpa using b)) c;obtain⟨i,m',q,w⟩:=an m G;rw[w.ix];exact aoi _ _ _ R.ak _ (by rw[<-w.o];exact bk) q;intro m G d hd;have b6:d∈BX (u.dropLast.map (·.o)):=zV.2 ⟨m.o,gL.2 ⟨m,G,rfl⟩,hd⟩;unfold u7;simp only[S.rW];rw[tO,gV];cases hx:R.tmps[d]? with
 |none=>exact .inl rfl
 |some M=>
  right;by_cases hb:(aa1 R (BX (u.dropLast.map (·.o)))).contains d=J;exact⟨.any,by simp only[dQ,hb,cH],by simp[C.aQ]⟩;refine⟨M,by simp only[dQ,hb];rfl, ?_⟩;have a0:M.bd R.ni R.nb (Y R.rs) (aF R.ak)=true:=by
   cases hh:M.bd R.ni R.nb (Y R.rs) (aF R.ak);exfalso;apply hb;exact ov.2 (o9.2 ⟨b6,by simp[hx,hh]⟩);rfl
  exact C.dY (bU _) (bU _) (bU _) al.mono _ a0
 refine EB ok.pt u _ [] x Rb.ei Rb.eb Rb.er h (λM hx=>by cases hx) (λm G=> ?_);obtain⟨i,m',q,w⟩:=an m G;rw[w.dr];exact VN _ _ _ _ _ _ _ _ q;cases af
def wK(p:Sp)(cf:bi)(n:Nat):Prop:=
 ∀(D:bI)(B:iG)(z:YH)(H:bX)(G:FuncId)(c:Code)(s:S)(k:XE->S->T)(L:cX)(O:ai)(V:ap)(a:Act)(W:World)(Q:Exit->Act->World->Prop),
  nZ p cf D.cV B z->B.j5 s O V L->D.rd=H.isSome->(H.isSome=J->jk c=E)->(∃v,p.P.funcs[G]?=U v)->
  (eY cf n G c s z k).aG p O L->ax p.S0 p.w0 D cf.ty V O s a W->et cf.gl O->
  (∀x N X u y,dR p.w0 D u y N.defers X->p.R (.panicked x) X->Q (.panic x) N X)->
  (∀e F M A N X w,bj s O V F M A->cz s.av L w->ax p.S0 p.w0 D cf.ty A M F N X->(k e F).aG p M w->Q (e.to M A) N X)->
  iH H G p.P c Q a W
def Po(p:Sp)(cf:bi)(n:Nat):Prop:=
 ∀(D:bI)(B:iG)(z:YH)(G:bX)(M:FuncId)(x:Code)(s:S)(k:XE->S->T)(L:cX)(O:ai)(V:ap)(a:Act)(W:World)(Q:Exit->Act->World->Prop),
  nZ p cf D.cV B z->B.j5 s O V L->D.rd=G.isSome->(G.isSome=J->jk x=E)->(∃u,p.P.funcs[M]?=U u)->
  (∀t,(Code.first x).map (cf.loop M)≠U (.inv t))->
  (eY cf n M (.loop x) s z k).aG p O L->ax p.S0 p.w0 D cf.ty V O s a W->et cf.gl O->
  (∀w N X r y,dR p.w0 D r y N.defers X->p.R (.panicked w) X->Q (.panic w) N X)->
  (∀e F H A N X v,bj s O V F H A->cz s.av L v->ax p.S0 p.w0 D cf.ty A H F N X->(k e F).aG p H v->Q (e.to H A) N X)->
  K1 G M p.P x Q n a W
def aok{F:Fence}(j:nY F)(o:iB p cf){r:rV}(i:Hv p cf r){D:bI}{B:iG}{m:YH}(g:nZ p cf D.cV B m){Q:Exit->Act->World->Prop}(HP:∀l H M f y,dR p.w0 D f y H.defers M->p.R (.panicked l) M->Q (.panic l) H M){z:db}{id:Nat}{q:ck}{a:Act}{W:World}{L:cX}{k:XE->S->T}(e:B.j5 R x t L)
  (d:Al z (Y R.ak)=U q)(c:yq cf z.toList=J)(b:yK z r)(h:(jX cf (qT cf r m) z (k .normal) (λv=>k (.aW v)) q (R.rW z q) []).aG p x L)(N:ax p.S0 p.w0 D cf.ty t x R a W)(hg:et cf.gl x)
  (hk:∀A G w H M u,bj R x t A G w->cz R.av L u->ax p.S0 p.w0 D cf.ty w G A H M->(k .normal A).aG p G u->Q .normal H M)
  (af:∀v A G w H M u,bj R x t A G w->cz R.av L u->ax p.S0 p.w0 D cf.ty w G A H M->(k (.aW v) A).aG p G u->Q (.panic [{v:=v.ab G w,recovered:=E}]) H M):
  (Code.region id z J).wpIn F X p.P Q a W:=
 wpIn_region_any o.Pb (ad7 j o i g HP e d c b h N hg hk af)
def aol(c:wK p cf X)(b:Po p cf X):Po p cf (X+1):=by
 intro D B m q o x s k L O V a W Q l j i g f af h R d HP F;unfold eY at h;simp only at h;show iH q o p.P x _ a W;refine c D B m q o x s _ L O V a W _ l j i g f h R d (λch M H pd y hd hR=>HP ch M H pd y hd hR) ?_;intro e A z w M H u N G t r;cases e with
 |normal=>exact b D B m q o x A k u z w M H Q l (j.go N G) i g f af r t (d.ext N.ext) HP (λe2 s2 O2 V2 a2 W2 L2 ag al R2 an=>F e2 s2 O2 V2 a2 W2 L2 (N.trans ag) (G.trans al N.av) R2 an)
 |ret=>exact F .ret A z w M H u N G t r
 |exit id=>exact F (.exit id) A z w M H u N G t r
 |aW v=>exact F (.aW v) A z w M H u N G t r
def ax.back{N:World}{D v:bI}{V L:ap}{M:ai}{B H:S}{a u:Act}{W G:World}(X:ax t N D cf.ty V x R a W)(r:R.bd=J)
  (q:bj B x V H M L)(o:B.ak=R.ak)(P:ax t N v cf.ty L M H u G){D2:bI}{a2:Act}{A:rK}(z:a2.tmps=a.tmps)(n:dR N D2 A M.y a2.defers G):ax t N D2 cf.ty L M {H with tmps:=R.tmps,pd:=A} a2 G:=by
 obtain⟨m,-⟩:=X.wv r;refine⟨P.mem,P.fM,P.ei,P.eb,P.er,n,by rw[z];exact X.size,λQ l h=> ?_,P.fz⟩;rw[z];rcases X.tmps Q l h with F|F;exact .inl F;right;have w:=q.ext;rw[o] at w;rw[w.ab (tJ m h)];exact F
def ax.enter{N:World}{D M:bI}{V:ap}{a:Act}{W:World}(X:ax t N D cf.ty V x R a W)(P:am)(n:Nat)(H:dR N M R.pd x.y [] W):
  ax t N M cf.ty V x {R with tmps:=P++ew (n-Y P) (.bA [])} {tmps:=(C.ay x V P).toArray++JI (n-(C.ay x V P).toArray.size) undef,defers:=[]} W:=by
 refine⟨X.mem,X.fM,X.ei,X.eb,X.er,H,au,λQ F h=> ?_,X.fz⟩;right;simp only[DB,Ej];by_cases L:Q<Y P;rw[dF L] at h;rw[awX (by simpa using L)];simp[qV,h];rw[gK aa,Dw] at h;split at h;rename_i G;cases h;rw[Array.getElem?_append_right dG];simp only[DB,Ej,aw4];rw[aE G];rfl;cases h
def EG(H:iB p cf)(hC:wK p cf X){D:bI}{B:iG}{yh:YH}(hY:nZ p cf D.cV B yh):KN p cf D B (iZ cf (λf c s k=>eY cf X f c s yh k) yh):=by
 intro L g0 t s k kp O V a W r G h R q b ag hp;cases g0 with
 |yl yn=>exact λF hF m=>hY.use G h R q b ag hp F hF m
 |fn g=>
 unfold iZ at h;simp only at h;split at h;rename_i c nt rs af;refine⟨H.wG g (.inr (by rw[af];rfl)), ?_⟩;split at h;rename_i hb;simp only[S.eD,aw] at hb;obtain⟨fn,hf,a0,a1,a3⟩:=H.inl g c nt rs af;refine Hz hf a0 ?_;obtain⟨ms,m1,m0,m2,m3⟩:=R.cQ.kQ;have RE:=R.enter t nt (R.cQ.enter m2 m3 E);rw[<-a1] at RE h;have a4:B.j5 {s with tmps:=t++ew (fn.ntmps-Y t) (.bA [])} O V L:=⟨⟨G.later.ext,G.later.mono,G.later.len,G.later.av⟩,G.Ey⟩;refine hC ⟨ms++D.out,D.cV,E,[]⟩ B yh Z g c _ _ L O V _ W _ hY a4 rfl (λhh=>by cases hh) ⟨fn,hf⟩ h RE q ?_ ?_;intro ch N o pd y hA hR;obtain⟨a9,A,q0,j,z⟩:=hA.kQ;rw[A] at hA;have x:=(hA.py).HA m0;rw[<-m1] at x;show LeavesInM Fence.wide 0 p.P fn N.tmps r N.defers (.panicking ch) o;rw[A];exact p7 au (uE.1 j).1 (λd M=>(z d (by simp[M])).1) (hp ch _ pd y x (K6 (H.Pc ch) (λd M=>(z d (by simp[M])).2) hR));intro e s' i V' N o L' w hL RR Q;have al:bj s O V {s' with tmps:=s.tmps} i V':=⟨w.ext,w.mono,w.len,w.av⟩;obtain⟨a9,A,q0,j,z⟩:=RR.cQ.kQ;have R2:=RR.py A;have x:=R2.cQ.HA m0;rw[<-m1] at x;have RB:=R.back hb.1 w rfl R2 (D2:=D) (a2:=a) rfl x;have an:∀l,rP cf s' rs=U l->(k (one l) {s' with tmps:=s.tmps}).aG p i L'->LeavesInM Fence.wide 0 p.P fn N.tmps r N.defers .returning o:=by
  intro l u Q;rw[A];refine p7 au (uE.1 j).1 (λd M=>(z d (by simp[M])).1) ⟨_,Hh R2 H.jB (by rw[a3];exact u), ?_⟩;exact b _ _ i V' _ L' al hL RB Q
 cases e with
 |normal=>
  simp only[Gv] at Q;split at Q;rename_i l u;exact an l u Q;exact Q.elim
 |ret=>
  simp only[Gv] at Q;split at Q;rename_i l u;exact an l u Q;exact Q.elim
 |aW v=>
  show LeavesInM Fence.wide 0 p.P fn N.tmps r N.defers (.panicking _) o;rw[A];exact p7 au (uE.1 j).1 (λd M=>(z d (by simp[M])).1) (ag v _ i V' _ L' al hL RB Q)
 |exit id=>exact Q.elim
 exact h.elim;rename_i af;exact acZ H.pt (λg q=>H.wG g (.inl q)) D L g t s k O V a W r h R b hp
def aom(b:Bool)(H:iB p cf){D:bI}{B:iG}{G:nO}(F:KN p cf D B G):KN p cf D B (TX b cf G):=by
 intro L x Q s k A O V a W P z h R X N y M;cases x with
 |yl w=>exact F L (.yl w) Q s k A O V a W P z h R X N y M
 |fn g=>
  cases b with
  |false=>exact F L (.fn g) Q s k A O V a W P z h R X N y M
  |true=>exact acZ H.pt (λg X=>H.wG g (.inl X)) D L g Q s k O V a W P h R N M
end
