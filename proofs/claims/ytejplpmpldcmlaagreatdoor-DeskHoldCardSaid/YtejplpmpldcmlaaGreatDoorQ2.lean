/- Part 2 of the proof; the last part says what is shown. -/
import Derived.Test.YtejplpmpldcmlaaGreatDoorQ1
import Derived.Maps.RangeRun
import Derived.RangeFuncSeq
import Derived.StillTailTactics
import Derived.RangeFuncIn
import Derived.RangeFuncLeaves
import Derived.LoopNIn
import Derived.LoopIn
set_option linter.all false
set_option maxRecDepth 100000
set_option maxHeartbeats 100000000
open Bool renaming and_eq_true->aw,not_eq_true'->ik,false_eq_true->jp,or_eq_true->jy,eq_iff_iff->uD,or_eq_false_iff->vZ,and_self->v8,not_eq_false->G8,true_and->Hf,and_true->N8,not_true->Zy,or_eq_true_iff->au1,false_or->avn,true_or->avo,and_eq_false_iff->aIo,true_eq_false->aIB,true->J,false->E
open Nat renaming le_refl->b9,zero_add->iX,le_trans->pw,add_zero->zl,testBit_or->E1,le_of_eq->E2,zero_le->Hh,strongRecOn->SP,lt_of_lt_of_le->Zn,testBit_shiftLeft->auY
open List renaming getElem?_eq_some_iff->ck,getD_eq_getElem?_getD->cz,getElem?_eq_getElem->cS,getElem?_append_left->dH,mem_cons->dP,map_cons->dU,getElem?_map->dW,cons_append->ez,replicate->eN,mem_append->eV,nil_append->eW,range->fw,all_eq_true->fO,length_append->gc,mem_map->iq,getElem?_append_right->iE,pairwise_cons->jq,mem_of_getElem?->jI,map_congr_left->jT,getElem?_eq_none->kg,ext_getElem?->kG,any_eq_true->kH,length_cons->lH,getElem?_take->nj,pairwise_append->nU,map_map->ov,length_eq_one_iff->oR,contains_iff_mem->qj,getElem_mem->ql,mem_filter->qm,map_nil->qn,length_map->qX,getElem?_set_ne->rX,eq_nil_of_length_eq_zero->tw,getElem?_cons_succ->tA,getElem?_of_mem->tB,getElem?_drop->uC,getElem?_set->v6,mem_append_left->xD,nodup_append->xF,mem_range->xI,range'->xJ,getElem?_cons_zero->A4,drop_eq_getElem_cons->CU,getElem?_eq_none_iff->CV,length_eq_zero_iff->CW,mem_cons_of_mem->CX,mem_of_mem_drop->CY,getElem?_range->CZ,mem_filterMap->C0,length_drop->C1,mem_or_eq_of_mem_set->EU,mem_of_mem_take->EW,length_take->EY,foldl_cons->EZ,getElem?_replicate->G4,take_of_length_le->G5,getElem?_set_self->G6,size_toArray->G9,mem_singleton->J1,append_nil->J3,mem_append_right->N1,mem_cons_self->N4,map_append->N5,all_cons->N7,mem_of_find?_eq_some->SF,range_eq_range'->SJ,find?_some->SO,nodup_cons->SQ,zip_cons_cons->Zo,replicate_one->Zp,range'_succ->Zr,drop_of_length_le->aiL,sublist_cons_self->aiM,filterMap_cons->aiQ,map_set->ai0,any_map->ai1,dropLast_append_of_ne_nil->auR,take_append_of_le_length->auS,drop_append_of_le_length->auT,getElem?_zip_eq_some->auW,drop_eq_nil_of_le->auX,append_toArray->au2,pairwise_map->au7,filter_cons->ava,length_set->avc,drop_zero->avj,mapM_cons->avk,Sublist->avq,append_eq_append_iff->aIf,length_erase_of_mem->aIg,append_cancel_right->aIh,length_pos_of_mem->aIm,dropLast_sublist->aIp,getElem?_append->aIr,mem_erase_of_ne->aIs,set_cons_zero->aIA,append_of_mem->aIC,length->Y
open Go.Result renaming andThen_ok->dv
open Go.Sem renaming run_bind->dA,run_pure->fq
open Option renaming map_some->eh,isSome_iff_exists->ln,getD_some->pu,bind_some->Zs,getD_none->aiU,isNone_iff_eq_none->aIe,some->U,none->Z
open Go.Op renaming operands->iF,equalIn->C3,equal->E3
open Go.Region renaming wanted->l9,ready->SS,binds->avp
open Array renaming ext'->nq,getElem?_eq_some_iff->oQ,toList_map->xG,getElem?_setIfInBounds_ne->aiH,replicate->aiZ,getElem?_eq_getElem->auV,getElem?_setIfInBounds_self_of_lt->aH8,getElem?_append_left->aIb,mapM_eq_mapM_toList->aId,mem_filter->aII
open Go.World renaming cell?->ow,putObj_heap_other->uB,putObj->Hg,putObj_heap_same->aIl
open Int renaming toNat_natCast->v7
open List.Pairwise renaming nil->xE
open List.cons renaming injEq->xH
open Go.Oper renaming semAt_eq->zk,uponIn_enter->SM,uponIn_round->au6
open Go.Call renaming operands->A7
open Prod.mk renaming injEq->C2
open List.Sublist renaming append->aiP,refl->aiS
open Go.IntKind renaming i64->I
namespace Go.Proofs.YtejplpmpldcmlaaGreatDoor.Y
open Go.RowKit
noncomputable section
variable{X:Nat}{v:TypeId}{e:aq}{b:Bool}{x:ai}{t:ar}{R:S}{r:C}{l:Oper}{h:OM}
section
variable{c:ar}{d:World}{D:cg}{P:Program}{f:bE}{V:ar}{O:ai}{s:S}{a:Act}{W:World}
def aki{X:Type}(l:List X)(x y:X):(l++[x]).set (Y l) y=l++[y]:=by
 induction l with
 |nil=>rfl
 |cons z Q R=>simp[R]
def az.zr(R:az c d D f.ty V O s a W)(N:s.bd=J){t:TypeId}{X:aq}(B:C.ec s.ni s.nb (Y s.rs) (aK s.ap) X=J):
  az c d D f.ty (V++[W.heap.size]) O (s.zr (t,X)) a (W.alloc (me t (C.dO O V X)))/\bH s O V (s.zr (t,X)) O (V++[W.heap.size]):=by
 obtain⟨A,j⟩:=R.room 1;have g:(s.room 1).ap.length=Y s.ap+1:=by simp[S.room]
 have z:gu (s.room 1).ap (Y s.ap)=true:=by simp[gu,S.room]
 have y:(s.room 1).e9 X=true:=by
  simp only[S.e9,S.bd,aw] at N⊢;have M:aK (s.room 1).ap=aK s.ap:=by
   funext i;simp only[aK,cV,S.room,Zp];by_cases Q:i<Y s.ap;rw[dH Q];rw[iE aa,kg (l:=s.ap) aa];cases w:i-Y s.ap with
   |zero=>rfl
   |succ n=>rfl
  have v:∀L,C.rh s.ni s.nb (Y s.rs) L (s.ap++[Z])=C.rh s.ni s.nb (Y s.rs) L s.ap:=by
   intro L;generalize s.ap=l;induction l with
   |nil=>rfl
   |cons x e u=>cases x<;>simp[C.rh,u]
  refine⟨⟨?_, ?_⟩,by rw[M];exact B⟩;rw[M];exact N.1;rw[M];simp only[S.room,Zp];rw[v];exact N.2
 have G:=A.alloc z t X y;have r:(V++eN 1 0).set (Y s.ap) W.heap.size=V++[W.heap.size]:=by
  rw[<-R.gJ,Zp];exact aki _ _ _
 have q:C.dO O (V++eN 1 0) X=C.dO O V X:=by
  apply ajw;funext k;simp only[ad,cz,Zp];by_cases h:k<Y V;rw[dH h];rw[iE aa,kg (l:=V) aa];cases w:k-Y V with
  |zero=>rfl
  |succ n=>rfl
 rw[r,q] at G;have p:({((s.room 1).dt (Y s.ap) t X) with lk:=s.lk}:S)=s.zr (t,X):=by
  simp only[S.dt,S.room,S.zr,Zp,aki]
 have F:=G.lk s.lk;rw[p] at F;refine⟨F,⟨⟨i7.refl _ _ _ _,b9 _,b9 _,b9 _,λk o=> ?_⟩,λi Q=> ?_,by simp[S.zr],b9 _⟩⟩;have:k<Y V:=by
  obtain⟨b,H⟩:=ln.1 o;rw[R.gJ];exact(ck.1 (kj.1 H)).1
 simp[ad,dH this];obtain⟨b,H⟩:=ln.1 Q;have m:=(ck.1 (kj.1 H)).1;simp only[aK,cV,S.zr,dH m] at Q⊢;exact Q
def az.akj(R:az c d D f.ty V O s a W){cs':aq}(M:cw s.ap X=U (v,e)):
  az c d D f.ty V O (s.dt X v cs') a (W.putObj (ad V X) (me v (C.dO O V cs'))):=by
 have x:=R.mem.box X v e M;have q:ad V X<W.heap.size:=Bv x;have w:X<Y s.ap:=(ck.1 (kj.1 M)).1;have H:aK s.ap X=true:=by simp[aK,M]
 have G:∀j,aK (s.ap.set X (U (v,cs'))) j=J->aK s.ap j=true:=λj N=>by
  rcases(pM w).1 N with rfl|h;exact H;exact h
 have F:∀b,b≠ad V X->(W.putObj (ad V X) (me v (C.dO O V cs'))).heap[b]?=W.heap[b]?:=λb h=>uB h
 refine⟨⟨⟨R.mem.base.os,R.mem.base.tape,R.mem.base.output,by simpa[Hg] using R.mem.base.size,λk B u=> ?_⟩,λj N=>R.mem.own j (G j N),λj k N B=>R.mem.inj j k (G j N) (G k B),λj L p N=> ?_,λk Q A n m=> ?_⟩,by simpa[S.dt] using R.gJ,R.ei,R.eb,R.er,R.dl.av9 (λb o z l=> ?_),R.size,R.tmps,λk Q A b g q2 q3=> ?_⟩;have af:k≠ad V X:=by
  rintro rfl;rcases R.mem.own X H with h|h;omega;exact u h
 rw[F k af];exact R.mem.base.block k B u;by_cases y:j=X;subst y;rw[S.dt,H0 w] at N;simp only[cU,C2] at N;obtain⟨rfl,rfl⟩:=N;exact aIl q;rw[S.dt,zF y] at N;rw[F _ (λh=>y (R.mem.inj j X (by simp[aK,N]) H h))];exact R.mem.box j L p N;obtain⟨ag,r⟩:=R.mem.ah k Q A n m;exact⟨ag.KQ (λb M=>F b (λh=>r b M X H h.symm)) (by simp[Hg]),λb M j N=>r b M j (G j N)⟩;rw[F b (λQ=>by subst Q;rw[x] at z;cases z;exact ajY l _ _ rfl)];exact z;have t:=R.gj k Q A b g q2 q3;have L:=t.world (W':=W.putObj (ad V X) (me v (C.dO O V cs'))) (F b (λh=>t.box X H h.symm));exact⟨L.own,L.mem,λj N=>L.box j (G j N),L.alone,L.inner⟩
def az.aaL(R:az c d D f.ty V O s a W){i:Nat}{cs':aq}(X:cw s.ap i=U (v,e))(_:∀Q N M,me v (C.dO O V e)≠ .cells Q N M):
  az c d D f.ty V O (s.dt i v cs') a (W.putObj (ad V i) (me v (C.dO O V cs'))):=R.akj X
def zJ(L:bz)(X:Value×Value):tC->tC
 |[]=>[X]
 |p::r=>if xZ p.1=L then X::r else p::zJ L X r
def akk:∀{l:tC}{m:Nat}{p:Value×Value},gI m (l++[p])=gI m l++[⟨p.1,p.2,m+Y l⟩]
 |[],m,p=>by simp[gI]
 |x::r,m,p=>by
  simp only[ez,gI,akk (l:=r) (m:=m+1) (p:=p)];simp;omega
def akl{L:bz}{kv:Value×Value}:∀{l:tC}{m i:Nat},
  (oE L (gI m l) i=Z/\zJ L kv l=l++[kv])\/∃j v p,oE L (gI m l) i=U (i+j,v)/\(gI m l)[j]?=U ⟨p.1,p.2,m+j⟩/\p∈l/\xZ p.1=L/\(zJ L kv l).length=Y l/\gI m (zJ L kv l)=(gI m l).modify j λe=>{e with key:=kv.1,val:=kv.2}
 |[],m,i=>.inl ⟨rfl,rfl⟩
 |p::r,m,i=>by
  simp only[gI,oE,zJ];by_cases h:xZ p.1=L;right;rw[aJ h,aJ h];exact⟨0,p.2,p,rfl,rfl,av,h,av,by simp[gI]⟩;rw[aQ h,aQ h];rcases akl (l:=r) (m:=m+1) (i:=i+1) with⟨X,R⟩|⟨j,v,Q,X,R,N,M,H,G⟩;exact .inl ⟨X,by rw[R];rfl⟩;refine .inr ⟨j+1,v,Q,by rw[X];congr 2;omega,by simp only[tA,R];congr 2;omega,by simp[N],M,by simp[H], ?_⟩;simp only[gI,G,List.modify_succ_cons]
def awt(Q:Bool)(l:bz):Instr.sameBits 10000 (ij Q l) (ij Q l)=true:=by
 cases Q;simp[ij,Instr.sameBits];show Instr.sameBits (9999+1) (.agg _) (.agg _)=J;simp only[Instr.sameBits,beq_self_eq_true,Hf,fO];intro p L;have:p.1=p.2/\∃x,p.1=.int I x:=by
  have H:∀(m:gt)(q:Value×Value),q∈m.zip m->q.1=q.2/\q.1∈m:=by
   intro m;induction m with
   |nil=>intro q X;cases X
   |cons y F M=>
    intro q X;simp only[Zo,dP] at X;rcases X with rfl|X;exact⟨rfl,av⟩;exact⟨(M q X).1,by simp[(M q X).2]⟩
  obtain⟨N,R⟩:=H _ p L;simp only[iq] at R;obtain⟨x,-,G⟩:=R;exact⟨N,x,G.symm⟩
 obtain⟨N,x,R⟩:=this;rw[<-N,R];simp[Instr.sameBits]
def akm{k e:TypeId}(h:P.underlying v=U (.map k e))(B:uR P k X b){R:Nat}{l:tC}(A:W.heap[R]?=U (qw l)){L:bz}(g:Y L=X)
  (z:∀p∈l,∃N:bz,Y N=X/\p.1=ij b N)(Q:Value):
  (Instr.mapUpdate v (.map (U R)) (ij b L) Q).run P W=.ok () (W.putObj R (qw (zJ L (ij b L,Q) l))):=by
 have f:∀x∈gI 0 l,∃N:bz,Y N=X/\x.key=ij b N:=λx d=>by
  obtain⟨p,M,H⟩:=aap d;obtain⟨N,F,G⟩:=z p M;exact⟨N,F,H.trans G⟩
 obtain⟨c,c2⟩:=B.2 L (gI 0 l) W g f;have hg:=MapKept.run_getObj_map (P:=P) (w:=W) A;have y:=λo=>MapKept.run_setObj_map (P:=P) (w:=W) o A
 simp only[Instr.mapUpdate,dA,fk.iC h,dv,hg,c,c2];rcases akl (L:=L) (kv:=(ij b L,Q)) (l:=l) (m:=0) (i:=0) with⟨M,H⟩|⟨j,u,p,M,H,F,G,h5,h6⟩;rw[M,H];simp only[y,Hg,qw,akk];simp;rw[M];obtain⟨N,q1,r⟩:=z p F;have hl:N=L:=by
  rw[r,aan (λe=>q1.trans (B.1 e))] at G;exact G
 subst hl;have q:(((gI 0 l).toArray[0+j]?).map (·.key)).getD (ij b N)=ij b N:=by
  simp[H,r]
 simp only[iX] at q⊢;simp only[q,Instr.keyThatStays,awt,cN,fq,dv,dA,y,Hg,qw,h6,h5];simp
end
def uT(O:ai)(X:Fx):Prop:=∀x∈X,x.1.ab O=x.2
def TZ{M:Fx}(h:uT x M){X:BE}(Q:Ol M X=U b):X.ab x=b:=by
 unfold Ol at Q;split at Q;cases Q;simp[BE.ab];cases N:M.find? (λR=>R.1.aN X) with
 |none=>rw[N] at Q;cases Q
 |some R=>
  rw[N] at Q;cases Q;have L:=SO N;rw[<-BE.bY _ _ L];exact h R (SF N)
def akn{N:Fx}(h:uT x N){X:BE}(M:X.ab x=b):uT x ((X,b)::N):=by
 intro R Q;rcases dP.1 Q with rfl|Q;exact M;exact h R Q
def H8{w:World}{D:cg}{H:Ty}{a:Act}{W:World}{N:ai}{V:ar}{M:Fx}(X:az t w D H V x R a W)(G:i7 x N (Y x.i) (Y x.b) (Y x.r))(h:uT x M):uT N (pF R M):=by
 intro Q F;obtain⟨B,L⟩:=qm.1 F;rw[<-X.ei,<-X.eb,<-X.er] at L;rw[BE.ep G _ L];exact h Q B
section
variable{f:bE}
def az.drew{g:ar}{w:World}{D:cg}{V:ar}{O:ai}{s:S}{a:Act}{W:World}(R:az g w D f.ty V O s a W):az g w D f.ty V O s a {W with drawn:=W.drawn+1}:=
 ⟨⟨R.mem.base.drew,R.mem.own,R.mem.inj,R.mem.box,λk e X Q N=>⟨(R.mem.ah k e X Q N).1.KQ (λ_ _=>rfl) (b9 _),(R.mem.ah k e X Q N).2⟩⟩,R.gJ,R.ei,R.eb,R.er,R.dl.world (λ_ _ h _=>h),R.size,R.tmps,λk e X b Q N M=>(R.gj k e X b Q N M).world rfl⟩
end
section
variable{g:ar}{w:World}{D:cg}{P:Program}{f:bE}{V:ar}{O:ai}{s:S}{a:Act}{W:World}
def az.ako(R:az g w D f.ty V O s a W)(N:s.bd=J)(j:Int):az g w D f.ty V (O.add (.i j)) {s with ni:=s.ni+1} a W:=by
 obtain⟨M,L⟩:=R.zE N;have Q:=sq s.ap O (.i j) V;refine⟨⟨R.mem.base,R.mem.own,R.mem.inj,λi t H h=> ?_,R.mem.ah⟩,R.gJ,by simp[ai.add,R.ei],R.eb,R.er,R.dl,R.size,λt G h=> ?_,λk e F b X B A=> ?_⟩;rw[Q.dO (tP L h)];exact R.mem.box i t H h;rcases R.tmps t G h with X|X;exact .inl X;right;rw[Q.ab (wt M h)];exact X;have t:=R.gj k e F b X B A;exact⟨t.own,t.mem,t.box,t.alone,t.inner⟩
def az.akp(R:az g w D f.ty V O s a W)(M:s.bd=J){Q:Sh}{N:RV}(L:bJ W f.ty (.mr Q) N):az g w D f.ty V (O.add (.r N)) {s with rs:=s.rs++[.mr Q]} a W:=
 R.add M L (λb X=>by cases X) (λk e F b _ _ _ X=>by
  rcases X with X|⟨⟨t,H⟩,_⟩;cases X;cases H) (λe b G=>by cases G)
def akq{M:Sh}{Q:au}(h:∀X∈Q,HY f.ty M X)(H:∀c∈bD f.ty (.mr M),nx c=J):bJ W f.ty (.mr M) (.mk (.slice Z (Y Q) (Y Q)) Q):=by
 refine bJ.mr M Q (λi X R=>(h X (jI R)).len) (λi j X c k R L N=>(h X (jI R)).int j c k L N) (λi j X c R L N=>(h X (jI R)).bool j c L N) (λi j X c z k R L N=> ?_);have:=H _ (jI N);simp[nx] at this
def aaM{n:Nat}{X x:aC}:∀{R:au},x∈fZ n X R->x=X\/x∈R
 |[],h=>by simp[fZ] at h;exact .inl h
 |r::Q,h=>by
  simp only[fZ] at h;split at h;rcases dP.1 h with h|h;exact .inl h;exact .inr (by simp[h]);rcases dP.1 h with h|h;exact .inr (by simp[h]);rcases aaM h with h|h;exact .inl h;exact .inr (by simp[h])
def akr{n:Nat}{X:aC}:∀{rows:au},(∀r∈rows,kM n ((X.take n).map λc=>bn c.val) r=E)->fZ n X rows=rows++[X]
 |[],_=>rfl
 |r::R,h=>by
  simp only[fZ];rw[aQ (by rw[h r av];simp),akr (rows:=R) (λx Q=>h x (CX _ Q))];rfl
def aks{n:Nat}{X va:Bool}(Q:X=E->n=1){R:aC}(H:Fo n R){L:bz}(N:(R.take n).map (λc=>bn c.val)=L):∀{M:au},(∀r∈M,Fo n r)->
  zJ L (wq n X va R) (M.map (wq n X va))=(fZ n R M).map (wq n X va)
 |[],_=>rfl
 |r::t,h=>by
  obtain⟨l,F,B,A⟩:=OT (ag:=X) Q (h r av);have q:Y L=n:=by
   obtain⟨p,z,y⟩:=H;rw[<-N,y];simpa using z
  have w:kM n L r=decide (l=L):=by
   simp only[kM,A];rw[G5 aa]
  simp only[dU,zJ,fZ,N,w];have v:xZ (wq n X va r).1=l:=by
   simp only[wq,B];exact aan (λe=>F.trans (Q e))
  rw[v];by_cases G:l=L;simp[G];simp only[G,gf,decide_false,jp,dU];rw[aks Q H N λx u=>h x (by simp[u])]
def awu(t:TypeId):(Instr.makeMap t Z).run P W=.ok (.map (U W.heap.size)) (W.alloc (.map #[] 0)):=by
 simp[Instr.makeMap]
def awv(R:az g w D f.ty V O s a W){m:OM}{t:TypeId}(F:m.o.op=.makeMap t Z){N:S}(h:S7 f m.o.dst s t=U N):
  ∃v M L,ss P m.o a W v M/\az g w D f.ty L O N (a.put m.o.dst v) M/\bH s O V N O L:=by
 unfold S7 at h;split at h;rename_i k e n X aj q x;split at h;rename_i Q u;split at h;rename_i H;simp only[aw] at H;cases h;have B:C.ec s.ni s.nb (Y s.rs) (aK s.ap) (HC Q n X).2=true:=by
  unfold HC;split<;>simp[C.iQ,C.bj,RE.bj,K.bj,BE.bj]
 obtain⟨G,A⟩:=R.zr H.1 (t:=(HC Q n X).1) B;have z:me (HC Q n X).1 (C.dO O V (HC Q n X).2)=.map #[] 0:=by
  unfold HC;split;rw[Fp];simp[RE.rv,qw,gI];rw[Fq];simp[C.aE,Dp,qw,gI]
 rw[z] at G;refine⟨.map (U W.heap.size),W.alloc (.map #[] 0),V++[W.heap.size],.inl ?_, ?_,A.put _ _⟩;simp[execOp,F,awu];have:=G.put m.o.dst (.mp (Y s.ap));have y:ad (V++[W.heap.size]) (Y s.ap)=W.heap.size:=by simp[ad,<-R.gJ]
 rw[C.ab,y] at this;exact this;cases h;cases h;cases h
def T1{R:TypeId}{Q:TI}{r:RE}(h:Bh f s v R X b Q e=U r):
  e=[.ah r,.int I (.c (X:Int)),.bool (.c b),.bool (.c Q.d.isAgg)]/\r.oT f.ty s ⟨v,R,X,b,Q.d.isAgg⟩=J/\Q.aj.all nx=true:=by
 unfold Bh at h;split at h;split at h;rename_i N;simp only[aw,dE] at N;cases h;obtain⟨⟨⟨⟨M,rfl⟩,rfl⟩,rfl⟩,L⟩:=N;exact⟨rfl,M,L⟩;cases h;cases h
def akt{x y z:K}(h:Hu X b r=U (x,y,z)):r.cells.map (C.cd O)=([x.ab O,y.ab O,z.ab O].take X).map λu=>.mk (.int I u) []:=by
 unfold Hu at h;split at h<;>first|(cases h;done)|(split at h<;>first|(cases h;done)|skip)
 all_goals
  rename_i R;cases h;simp only[aw,dE] at R;obtain⟨rfl,-⟩:=R;simp[C.cells,C.cd]
def aaN:∀{aj:fj}{l:aq},mM f.ty s aj l=J->aj.all nx=J->Y l=Y aj/\(∀(j:Nat)(k:IntKind),aj[j]?=U (.int k)->∃x,(l.map (C.cd O))[j]?=U (.mk (.int k x) []))/\(∀(j:Nat),aj[j]?=U .bool->∃x,(l.map (C.cd O))[j]?=U (.mk (.bool x) []))/\(l.map (C.cd O)).map RV.val=C.aE O V l
 |[],[],_,_=>⟨rfl,λj k h=>by simp at h,λj h=>by simp at h,rfl⟩
 |[],_::_,h,_=>by simp[mM] at h
 |_::_,[],h,_=>by simp[mM] at h
 |c::aj,v::l,h,Q=>by
  simp only[mM,aw] at h;simp only[N7,aw] at Q;obtain⟨M,L,H,G⟩:=aaN (aj:=aj) (l:=l) h.2 Q.2;have R:=h.1;unfold tF at R;split at R;rename_i k F e;have:k=F:=uE R;subst this;refine⟨by simp[M],λj N X=> ?_,λj X=> ?_,by simp[C.aE,C.cd,C.ab,G]⟩;cases j with
  |zero=>simp at X;subst X;exact⟨e.ab O,rfl⟩
  |succ j=>simpa using L j N (by simpa using X)
  cases j with
  |zero=>simp at X
  |succ j=>simpa using H j (by simpa using X)
  rename_i b;refine⟨by simp[M],λj N X=> ?_,λj X=> ?_,by simp[C.aE,C.cd,C.ab,G]⟩;cases j with
  |zero=>simp at X
  |succ j=>simpa using L j N (by simpa using X)
  cases j with
  |zero=>exact⟨b.ab O,rfl⟩
  |succ j=>simpa using H j (by simpa using X)
  simp[nx] at Q;cases R
def aww{e:TypeId}{M:TI}(m:tE f.ty v X b=J)(l:f.ty e=U M)(i:M.aj.all nx=J){R:C}{x y z:K}(G:Hu X b r=U (x,y,z))(h:mM f.ty s M.aj R.cells=J):
  HY f.ty ⟨v,e,X,b,M.d.isAgg⟩ ((r.cells++R.cells).map (C.cd O)):=by
 obtain⟨g,F,B,A⟩:=KM (va:=M.d.isAgg) m l;obtain⟨q1,q2,q3,-⟩:=aaN (O:=O) (V:=[]) h i;have af:=(aao (O:=O) (V:=[]) G).2;have w:=akt (O:=O) G;have t:(r.cells.map (C.cd O)).length=X:=by rw[w];simpa using af
 have q:∀(j:Nat),((r.cells++R.cells).map (C.cd O))[j]?=if j<X then(r.cells.map (C.cd O))[j]? else(R.cells.map (C.cd O))[j-X]?:=by
  intro j;rw[N5,aIr,t]
 have p:∀(j:Nat),(bD f.ty (.mr ⟨v,e,X,b,M.d.isAgg⟩))[j]?=if j<X then g[j]? else M.aj[j-X]?:=by
  intro j;rw[F,aIr,B]
 refine⟨?_,λj c kk Q N=> ?_,λj c Q N=> ?_⟩;rw[F,qX,gc,gc,B,q1];simp at t;omega;rw[q] at Q;rw[p] at N;split at Q;rename_i L;rw[aJ L] at N;have:=A _ (jI N);cases this;rw[w,dW] at Q;cases o:([x.ab O,y.ab O,z.ab O].take X)[j]? with
 |none=>rw[o] at Q;cases Q
 |some u=>rw[o] at Q;cases Q;exact⟨u,rfl⟩
 rename_i L;rw[aQ L] at N;obtain⟨u,H⟩:=q2 _ kk N;rw[H] at Q;cases Q;exact⟨u,rfl⟩;rw[q] at Q;rw[p] at N;split at Q;rename_i L;rw[aJ L] at N;have:=A _ (jI N);cases this;rename_i L;rw[aQ L] at N;obtain⟨u,H⟩:=q3 _ N;rw[H] at Q;cases Q;exact⟨u,rfl⟩
def awx{e:TypeId}{R:Bool}{Q:TI}(M:tE f.ty v X b=J)(L:f.ty e=U Q)(H:Q.aj.all nx=J):∀c∈bD f.ty (.mr ⟨v,e,X,b,R⟩),nx c=true:=by
 obtain⟨B,G,A,F⟩:=KM (va:=R) M L;intro c N;rw[G] at N;rcases eV.1 N with h|h;rw[F c h];rfl;exact fO.1 H c h
def awy(W:World)(b:Nat)(o:Obj):ChangeMaps.setBlock W b o=W.putObj b o:=rfl
def MR.aku(g:ar)(w:World)(D:cg)(R:Ty)(V:ar)(O:ai)(s:S)(a:Act)(Q:World):MR->Prop
 |.ok X=>az g w D R V O X a Q/\bH s O V X O V
 |.ac _ x X=>az g w D R V (O.add (.r (gv x O))) X a Q/\bH s O V X (O.add (.r (gv x O))) V
def Pa(R:az g w D f.ty V O s a W)(a1:jg P f.ty){d:cM}{M X:C}{Q:MR}(h:E9 f d s v r M X=U Q):
  ∃W',(Instr.mapUpdate v (r.ab O V) (M.ab O V) (X.ab O V)).run P W=.ok () W'/\Q.aku g w D f.ty V O s (a.put d undef) W':=by
 unfold E9 at h;split at h;rename_i k e n L aj q i ht;have hd:P.underlying v=U (.map k e):=(a1 _ _ ht).desc;have b:uR P k n L:=(a1 _ _ ht).key k e n L rfl;split at h;rename_i H xa xb xc bt A z g2 g3;have bx:=a1 _ _ z;split at h;cases h;rename_i bc;simp only[jy,ik,not_or,G8] at bc;obtain⟨⟨af,a3⟩,b0⟩:=bc;simp only[S.e9,aw] at a3;obtain⟨hb,a3⟩:=a3;obtain⟨bd,a4⟩:=aao (O:=O) (V:=V) g2;have al:=R.mem.box i bt A g3;have b1:=TG (O:=O) (V:=V) (wu R) b0;split at h;rename_i an;simp only[dE] at an;subst an;split at h;rename_i G b2;split at h;rename_i bf;cases h;obtain⟨rfl,c1,c5⟩:=T1 b2;rw[Fp] at al;have bg:=HZ R c1;have bk:∀F∈(G.rv O).ac,Fo n F:=λF o=>KN af z (bg F o)
 have a9:=akm (P:=P) hd b al a4 (λp hp=>by
  obtain⟨F,o,rfl⟩:=iq.1 hp;obtain⟨l,q1,q2,-⟩:=OT b.1 (bk F o);exact⟨l,q1,q2⟩) (X.ab O V)
 have ba:=aww (O:=O) (s:=s) af z c5 g2 bf;have bl:=akt (O:=O) g2;have cp:(M.cells.map (C.cd O)).length=n:=by rw[bl];simpa using a4
 have b3:((M.cells++X.cells).map (C.cd O)).take n=M.cells.map (C.cd O):=by
  rw[N5,auS aa,G5 aa]
 have b4:((M.cells++X.cells).map (C.cd O)).drop n=X.cells.map (C.cd O):=by
  rw[N5,auT aa,aiL aa];rfl
 have hL:(((M.cells++X.cells).map (C.cd O)).take n).map (λc=>bn c.val)=[xa.ab O,xb.ab O,xc.ab O].take n:=by
  rw[b3,bl];simp[bn]
 obtain⟨f1,-,-,f4⟩:=aaN (O:=O) (V:=V) bf c5;have b5:wq n L H.d.isAgg ((M.cells++X.cells).map (C.cd O))=(ij L ([xa.ab O,xb.ab O,xc.ab O].take n),X.ab O V):=by
  obtain⟨l,q1,q2,q3⟩:=OT (ag:=L) b.1 (KN af z ba);have hl:l=[xa.ab O,xb.ab O,xc.ab O].take n:=by rw[<-q3,hL]
  have b6:rk H.d.isAgg (X.cells.map (C.cd O))=X.ab O V:=by
   rw[b1,rk,f4];cases ha:H.d.isAgg;have b7:Y X.cells=1:=by rw[f1];exact Bu bx ha
   obtain⟨u,hu⟩:=oR.1 b7;simp only[jp,gf];rw[<-f4,hu];rfl;rfl
  simp only[wq,q2,hl,b4,b6]
 have a0:=aks (va:=H.d.isAgg) b.1 (KN af z ba) hL bk;rw[b5] at a0;have hh:bJ W f.ty (.mr ⟨k,e,n,L,H.d.isAgg⟩) (gv (.ins (.ah G) n (M.cells++X.cells)) O):=by
  refine akq (λF br=> ?_) (awx af z c5);simp only[LE.ac] at br;rcases aaM br with rfl|h;exact ba;exact bg F h
 have R1:=R.akp hb hh;have bb:∀cc tt ff,me wa (C.dO (O.add (.r (gv (.ins (.ah G) n (M.cells++X.cells)) O))) V [.ah G,.int I (.c (n:Int)),.bool (.c L),.bool (.c H.d.isAgg)])≠ .cells cc tt ff:=by
  intro cc tt ff hx;rw[Fp] at hx;cases hx
 have R2:=R1.aaL (cs':=[.ah (.v (Y s.rs)),.int I (.c (n:Int)),.bool (.c L),.bool (.c H.d.isAgg)]) (i:=i) g3 bb;have b8:(RE.v (Y s.rs)).rv (O.add (.r (gv (.ins (.ah G) n (M.cells++X.cells)) O)))=gv (.ins (.ah G) n (M.cells++X.cells)) O:=by
  simp[RE.rv,ai.rv,ai.add,<-R.er]
 rw[Fp,b8] at R2;refine⟨W.putObj (ad V i) (qw ((gv (.ins (.ah G) n (M.cells++X.cells)) O).ac.map (wq n L H.d.isAgg))), ?_, ?_, ?_⟩;simp only[C.ab,bd];rw[a9,a0];rfl;have:=R2.put d (.bM []);exact this;exact bH.put (s:=s) (s':={s with rs:=s.rs++[RK.mr ⟨k,e,n,L,H.d.isAgg⟩],ap:=s.ap.set i (U (wa,[.ah (.v (Y s.rs)),.int I (.c n),.bool (.c L),.bool (.c H.d.isAgg)]))}) ⟨sq _ _ _ _,λj hj=>(pM (ck.1 (kj.1 g3)).1).2 (.inr hj),av,b9 _⟩ d _;cases h;cases h;split at h;rename_i an;simp only[aw,dE,ik] at an;obtain⟨⟨rfl,rfl⟩,rfl⟩:=an;split at h;rename_i x N bs;split at h;cases h;rename_i ca;cases h;rw[Fq] at al;obtain⟨p1,p2⟩:=KO (O:=O) (V:=V) bs;rw[p1] at al;have a9:=akm (P:=P) hd b al a4 (λp hp=>by
  obtain⟨u,hu,rfl⟩:=iq.1 hp;exact⟨[u.1],rfl,rfl⟩) (X.ab O V)
 have a0:∀(N:bz)(m:aq),¬N.contains x=J->Y N=Y m->zJ [x] (ij E [x],X.ab O V) ((N.zip m).map λp=>(.int I p.1,p.2.ab O V))=((N.zip m).map λp=>(.int I p.1,p.2.ab O V))++[(.int I x,X.ab O V)]:=by
  intro N;induction N with
  |nil=>intro m _ _;simp[zJ,ij]
  |cons y ys ih=>
   intro m hc hl;cases m with
   |nil=>simp at hl
   |cons u us=>
    have ch:¬y=x:=by
     intro e;subst e;simp at hc
    have cl:¬ys.contains x=true:=by
     intro e;simp at e hc;exact hc.2 e
    have:=ih us cl (by simpa using hl);simp only[Zo,dU,zJ,xZ,xH,and_true,ch,gf,this,ez]
 have bb:∀cc tt ff,me uG (C.dO O V A)≠ .cells cc tt ff:=by
  intro cc tt ff hx;rw[Fq] at hx;cases hx
 have R2:=R.aaL (cs':=A++[.int I (.c x),X]) g3 bb;have cn:∀(l:aq)(N:bz),rf l=U N->Dp (C.aE O V (l++[.int I (.c x),X]))=Dp (C.aE O V l)++[(.int I x,X.ab O V)]:=by
  intro l;induction l using rf.induct with
  |case1=>intro N _;rfl
  |case2 k u Q ih=>
   intro N B;simp only[rf] at B;cases o:rf Q with
   |none=>rw[o] at B;cases B
   |some co=>
    have:=ih co o;simp only[ez,C.aE,Dp] at this⊢;rw[this]
  |case3 l h1 h2=>intro N B;unfold rf at B;split at B<;>first|(exact aZ rfl h1)|(exact aZ rfl (h2 _ _ _))|cases B
 rw[Fq,cn A N bs,p1] at R2;refine⟨W.putObj (ad V i) (qw ((N.zip (mJ A)).map (λp=>(Value.int I p.1,p.2.ab O V))++[(Value.int I x,X.ab O V)])), ?_,R2.put d (.bM []), ?_⟩;simp only[C.ab,bd];rw[a9];have:[(K.c x).ab O,xb.ab O,xc.ab O].take 1=[x]:=rfl;rw[this,a0 N _ ca p2];exact bH.put (s:=s) (s':=s.dt i uG (A++[.int I (.c x),X])) ⟨oa.refl _ _ _,λj hj=>(pM (ck.1 (kj.1 g3)).1).2 (.inr hj),by simp[S.dt],b9 _⟩ d _;cases h;cases h;cases h;cases h
end
section
variable{g:ar}{B:World}{D:cg}{P:Program}{f:bE}{V:ar}{O:ai}{s:S}{a:Act}{W:World}
def aaO{X:Ty}{s:S}{n:Nat}:∀r:RE,r.kind X {s with ni:=n}=r.kind X s
 |.v k=>rfl
 |.cell r i j k=>by simp only[RE.kind,aaO r]
 |.k v=>by cases v<;>rfl
def K3(R:az g B D f.ty V O s a W){Q:Sh}{r:RE}(h:r.oT f.ty s Q=J):lenOf (r.rv O).val=(r.rv O).ac.length:=by
 unfold RE.oT at h;rcases au1.1 h with h|h;have X:=sn R av (uE h);generalize r.rv O=N at X;cases X;rfl;unfold RE.nil at h;split at h;simp[RE.rv,lenOf];cases h
def awz(R:az g B D f.ty V O s a W){e:TypeId}{G:TI}{i:Nat}{c:K}(h:ZM f s v e X b G i=U c):∃l,W.heap[ad V i]?=U (qw l)/\(Y l:Int)=c.ab O:=by
 unfold ZM at h;split at h;rename_i F M A;have Q:=R.mem.box i F M A;split at h;rename_i N;simp only[dE] at N;subst N;cases L:Bh f s v e X b G M with
 |none=>rw[L] at h;cases h
 |some r=>
  rw[L] at h;cases h;obtain⟨rfl,z,w⟩:=T1 L;rw[Fp] at Q;exact⟨_,Q,by simp[K.ab,K3 R z]⟩
 split at h;rename_i N;simp only[aw,dE,ik] at N;obtain⟨⟨rfl,rfl⟩,rfl⟩:=N;cases H:rf M with
 |none=>rw[H] at h;cases h
 |some u=>
  rw[H] at h;cases h;rw[Fq] at Q;obtain⟨y,x⟩:=KO (O:=O) (V:=V) H;rw[y] at Q;exact⟨_,Q,by simp[K.ab,x]⟩
 cases h;cases h
def Pb{t:Int}{c:K}{R:RE}:me xL (C.dO O V [.mp X,.int I (.c t),.int I c,.ah R])=.mapIter (U (ad V X)) (c.ab O).toNat ((R.rv O).ac.map pK).toArray (c.ab O).toNat:=by
 simp[me,xL,wa,uG,C.dO,C.hJ,C.ab,ajs]
def awA(R:az g B D f.ty V O s a W)(H:jg P f.ty){m:OM}{t:TypeId}{x:Operand}(G:m.o.op=.range t x)(F:a.eval x=(s.ev f.gl x).ab O V){X:S}(h:S8 f m.o.dst s t (s.ev f.gl x)=U X):
  ∃v Q N,ss P m.o a W v Q/\az g B D f.ty N O X (a.put m.o.dst v) Q/\bH s O V X O N:=by
 unfold S8 at h;split at h;rename_i k e n ag aj q i A z;have y:P.underlying t=U (.map k e):=(H _ _ A).desc;split at h;rename_i te al;split at h;rename_i c w;split at h;rename_i M;simp only[aw] at M;obtain⟨⟨u,r⟩,p⟩:=M;cases h;obtain⟨l,j,d⟩:=awz R w;have b:C.ec s.ni s.nb (Y s.rs) (aK s.ap) [.mp i,.int I (.c (t:Int)),.int I c,.ah (.k (.slice Z 0 0))]=true:=by
  simp[C.iQ,C.bj,RE.bj,K.bj,p,r]
 obtain⟨L,L1⟩:=R.zr u (t:=xL) b;rw[Pb,<-d] at L;have af:=run_range_map (P:=P) W t k e (ad V i) _ _ y j;refine⟨.pointer (U ⟨W.heap.size,0,Z⟩),W.alloc (.mapIter (U (ad V i)) (Y l) #[] (Y l)),V++[W.heap.size],.inl ?_, ?_,L1.put _ _⟩;simp only[execOp,G,F,z,C.ab,dA,af,dv,fq];have:=L.put m.o.dst (.loc (Y s.ap) 0);have ha:ad (V++[W.heap.size]) (Y s.ap)=W.heap.size:=by simp[ad,<-R.gJ]
 rw[C.ab,ha] at this;simpa[RE.rv] using this;cases h;cases h;cases h;cases h
def aaP:∀{l:tC}{m:Nat}{e:MapEntry},e∈gI m l->∃(j:Nat)(p:Value×Value),l[j]?=U p/\e=⟨p.1,p.2,m+j⟩
 |[],m,e,h=>by simp[gI] at h
 |x::r,m,e,h=>by
  simp only[gI,dP] at h;rcases h with rfl|h;exact⟨0,x,rfl,rfl⟩;obtain⟨j,p,X,R⟩:=aaP h;exact⟨j+1,p,by simpa using X,by rw[R];congr 1;omega⟩
def aaQ:∀{l:tC}{m j:Nat}{p:Value×Value},l[j]?=U p->(⟨p.1,p.2,m+j⟩:MapEntry)∈gI m l
 |[],m,j,p,h=>by simp at h
 |x::r,m,0,p,h=>by simp at h;subst h;simp[gI]
 |x::r,m,j+1,p,h=>by
  have:=aaQ (m:=m+1) (l:=r) (j:=j) (p:=p) (by simpa using h);simp only[gI,dP];right
  rwa [show m+(j+1)=m+1+j from aa]
def akv:∀(n:Nat)(l:ar),(∀j,j<n->j∈l)->n<=Y l
 |0,_,_=>Hh _
 |n+1,l,h=>by
  have X:=h n aa;have:=akv n (l.erase n) (λj R=>(aIs aa).2 (h j aa));rw[aIg X] at this;have:0<Y l:=aIm X;omega
def K4(R:HD f=J):bD f.ty (.mr (xR f))=[.int I]:=by
 simp only[HD,aw,aIe] at R;obtain⟨X,N⟩:=R;unfold tE at X;split at X;rename_i tk M;simp only[aw,dE] at X;obtain⟨c,Q⟩:=oR.1 X.1.1;have:=X.1.2;rw[Q] at this;simp only[N7,List.all_nil,N8] at this;unfold ZG at this;split at this;simp[bD,xR,M,N,Q];cases this;cases X
def aaR(X:HD f=J){R:aC}(h:HY f.ty (xR f) R):∃x,R=[.mk (.int I x) []]:=by
 have Q:=h.len;rw[K4 X] at Q;obtain⟨c,rfl⟩:=oR.1 Q;obtain⟨x,N⟩:=h.int 0 c I rfl (by rw[K4 X];rfl);exact⟨x,by rw[N]⟩
def awB(Q:HD f=J)(x:Int):HY f.ty (xR f) [.mk (.int I x) []]:=by
 refine⟨by rw[K4 Q];rfl,λj c k R X=> ?_,λj c R X=> ?_⟩;rw[K4 Q] at X;cases j with
 |zero=>simp at R X;subst R X;exact⟨x,rfl⟩
 |succ j=>simp at R
 rw[K4 Q] at X;cases j with
 |zero=>simp at X
 |succ j=>simp at R
def T2{r:RE}{A:K}{R:aC}(L:(r.rv O).ac[(A.ab O).toNat]?=U R):∀{aj:fj}{j:Nat},aj.all nx=J->Y R=j+Y aj->
  (∀(i:Nat)(k:IntKind),aj[i]?=U (.int k)->∃m,R[j+i]?=U (.mk (.int k m) []))->(∀(i:Nat),aj[i]?=U .bool->∃m,R[j+i]?=U (.mk (.bool m) []))->
  C.aE O V (uJ r A j aj)=(R.drop j).map RV.val
 |[],j,_,Q,_,_=>by rw[auX (by simp at Q;omega)];rfl
 |.int k::aj,j,N,Q,H,G=>by
  obtain⟨m,X⟩:=H 0 k rfl;have F:=T2 L (aj:=aj) (j:=j+1) (by simpa[nx] using N) (by simp at Q⊢;omega) (λi k h=>by have:=H (i+1) k (by simpa using h);rwa [show j+(i+1)=j+1+i from aa] at this) (λi h=>by have:=G (i+1) (by simpa using h);rwa [show j+(i+1)=j+1+i from aa] at this);have B:R.drop j=.mk (.int k m) []::R.drop (j+1):=by
   rw[zl] at X;have M:=(ck.1 X).1;rw[CU M];congr 1;rw[cS M] at X;simpa using X
  rw[zl] at X;simp only[uJ,E5,C.aE,C.ab,K.ab,aU,F,B,dU,RV.nC,cz,L,X,pu,bn]
 |.bool::aj,j,N,Q,H,G=>by
  obtain⟨m,X⟩:=G 0 rfl;have F:=T2 L (aj:=aj) (j:=j+1) (by simpa[nx] using N) (by simp at Q⊢;omega) (λi k h=>by have:=H (i+1) k (by simpa using h);rwa [show j+(i+1)=j+1+i from aa] at this) (λi h=>by have:=G (i+1) (by simpa using h);rwa [show j+(i+1)=j+1+i from aa] at this);have B:R.drop j=.mk (.bool m) []::R.drop (j+1):=by
   rw[zl] at X;have M:=(ck.1 X).1;rw[CU M];congr 1;rw[cS M] at X;simpa using X
  rw[zl] at X;simp only[uJ,E5,C.aE,C.ab,BE.ab,aU,F,B,dU,RV.nC,cz,L,X,pu,gH]
 |.ae _ _::aj,j,N,_,_,_=>by simp[nx] at N
def aaS{r:RE}{X:K}:∀{aj:fj}{j:Nat},(uJ r X j aj).length=Y aj
 |[],j=>rfl
 |c::aj,j=>by simp[uJ,aaS (aj:=aj)]
def akw{r:RE}{N:K}{R:aC}(G:(r.rv O).ac[(N.ab O).toNat]?=U R)(M:b=E->X=1)(F:Fo X R):(Kh r N X b).ab O V=rk b (R.take X):=by
 obtain⟨l,B,L⟩:=F;have A:(R.take X).length=X:=by rw[L];simpa using B
 have z:C.aE O V ((fw X).map λj=>.int I (.cell r N j))=(R.take X).map RV.val:=by
  rw[pJ,ov];apply kG;intro j;rw[dW,dW];by_cases H:j<X;rw[CZ H];have y:j<Y l:=aa;have Q:(R.take X)[j]?=U (.mk (.int I l[j]) []):=by rw[L,dW,cS y];rfl
  have x:R[j]?=U (.mk (.int I l[j]) []):=by rw[nj,aJ H] at Q;exact Q
  simp[Q,C.ab,K.ab,aU,G,x,bn];rw[kg dh,kg aa];rfl
 rw[Kh,Dt (λw=>by simpa using M w),z,rk];cases b;obtain⟨c,Q⟩:=oR.1 (A.trans (M rfl));rw[Q];rfl;rfl
def awC{rs:RE}{je:K}{j:Int}(N:je.ab O=j)(h:∀R∈(rs.rv O).ac,∀x,R=[.mk (.int I x) []]->x≠j)(Q:∀R∈(rs.rv O).ac,∃x,R=[RV.mk (.int I x) []]):(S9 rs je).ab O=J/\∀r∈(rs.rv O).ac,kM 1 [j] r=false:=by
 have M:∀r∈(rs.rv O).ac,∀b c,kM 1 [j,b,c] r=false:=by
  intro r X b c;obtain⟨x,rfl⟩:=Q r X;have:=h _ X x rfl;simp[kM,bn,this]
 constructor;simp only[S9,BE.ab,N,K.ab,ik,iR];rw[List.find?_eq_none.2 (λr X=>by simp[M r X])];rfl;intro r X;obtain⟨x,rfl⟩:=Q r X;have:=h _ X x rfl;simp[kM,bn,this]
def akx(G:HD f=J)(R:az g B D f.ty V O s a W)(z:s.bd=J){d:cM}{i t:Nat}{c:K}{Q:RE}(y:cw s.ap X=U (xL,[.mp i,.int I (.c (t:Int)),.int I c,.ah Q]))(b:Q.oT f.ty s (xR f)=J)
  {N:K}{j:Nat}(w:N.ab O=j)(af:¬((Q.rv O).ac.map pK).contains j=J){kv v:C}{key val:Value}
  (ag:∀F,kv.ab (O.add (.r F)) V=key)(hv:∀F,v.ab (O.add (.r F)) V=val):
  (S9 Q N).ab O=J/\az g B D f.ty V (O.add (.r (gv (.ins (.ah Q) 1 [.int I N]) O))) (ZN f d s X s.ni i t c kv v) (a.put d (.tuple #[.bool J,key,val])) (W.putObj (ad V X) (.mapIter (U (ad V i)) (c.ab O).toNat (((Q.rv O).ac.map pK).toArray.push j) (c.ab O).toNat)):=by
 have u:=HZ R b;have ht:∀L∈(Q.rv O).ac,∃x,L=[RV.mk (.int I x) []]:=λL H=>aaR G (u L H)
 obtain⟨u1,u2⟩:=awC (O:=O) (rs:=Q) (je:=N) w (λL H x M=>by
  intro e;apply af;simp only[qj,iq];refine⟨L,H, ?_⟩;subst M;simp[pK,bn,e]) ht
 refine⟨u1, ?_⟩;have hh:bJ W f.ty (.mr (xR f)) (gv (.ins (.ah Q) 1 [.int I N]) O):=by
  refine akq (λL p=> ?_) (λx M=>by rw[K4 G] at M;simp at M;subst M;rfl);simp only[LE.ac,dU,qn,C.cd] at p;rcases aaM p with rfl|h;exact awB G _;exact u L h
 have al:(gv (.ins (.ah Q) 1 [.int I N]) O).ac=(Q.rv O).ac++[[.mk (.int I j) []]]:=by
  simp only[gv,RV.nD,LE.ac,dU,qn,C.cd,w];refine akr λr H=> ?_
  simpa[bn] using u2 r H
 have R1:=R.akp z hh;have an:∀o n m,me xL (C.dO (O.add (.r (gv (.ins (.ah Q) 1 [.int I N]) O))) V [.mp i,.int I (.c (t:Int)),.int I c,.ah Q])≠ .cells o n m:=by
  intro o n m M;rw[Pb] at M;cases M
 have A:=R1.aaL (cs':=[.mp i,.int I (.c (t:Int)),.int I c,.ah (.v (Y s.rs))]) (i:=X) y an;have a0:(RE.v (Y s.rs)).rv (O.add (.r (gv (.ins (.ah Q) 1 [.int I N]) O)))=gv (.ins (.ah Q) 1 [.int I N]) O:=by
  simp[RE.rv,ai.rv,ai.add,<-R.er]
 obtain⟨bb,a1⟩:=R.zE z;have l:=tP a1 y;simp only[C.iQ,C.bj,aw] at l;have a3:c.ab (O.add (.r (gv (.ins (.ah Q) 1 [.int I N]) O)))=c.ab O:=K.ep (sq s.ap O (.r (gv (.ins (.ah Q) 1 [.int I N]) O)) V).agree _ l.2.2.1;rw[Pb,a0,al,a3] at A;have a4:((Q.rv O).ac++[[RV.mk (.int I (j:Int)) []]]).map pK=(Q.rv O).ac.map pK++[j]:=by simp[pK,bn]
 rw[a4] at A;have k:=A.put d (.bM [.bool (.c J),kv,v]);have a9:(C.bM [.bool (.c J),kv,v]).ab (O.add (.r (gv (.ins (.ah Q) 1 [.int I N]) O))) V=.tuple #[.bool J,key,val]:=by
  simp only[C.ab,C.aE,ag,hv,BE.ab]
 rw[a9] at k;have ba:((Q.rv O).ac.map pK).toArray.push j=((Q.rv O).ac.map pK++[j]).toArray:=av;rw[ba];exact k
def aky{X:Type}:∀{l:List X}{m j:Nat},eY ((m+j:Nat):Int) ((xJ m (Y l)).map λ(i:Nat)=>(i:Int)) l=l[j]?
 |[],m,j=>by simp[eY]
 |x::l,m,j=>by
  simp only[lH,Zr,dU,eY];cases j with
  |zero=>simp
  |succ j=>
   rw[aQ aa,show m+(j+1)=m+1+j from aa,aky];simp
def akz{R:Type}{l:List R}{j:Nat}(h:X=Y l):eY (j:Int) (C9 X) l=l[j]?:=by
 have:=aky (l:=l) (m:=0) (j:=j);rw[iX] at this;rw[C9,h,SJ];exact this
def awD(h:r.ab x V=r.ab O V):C.aE x V r.cells=C.aE O V r.cells:=by
 cases r
 case agg l=>simp only[C.ab,Value.agg.injEq] at h;simpa[C.cells] using h
 all_goals simp only[C.cells,C.aE,h]
def akA(R:az g B D f.ty V O s a W){Q:TI}(G:fk P v Q){x:K}{N:bz}{X:C}(h:Ta Q x N e=U (r,X))(F:Y N=Y e){O':ai}{j:Nat}(M:x.ab O'=j){k:Int}{u:C}(A:N[j]?=U k)(L:e[j]?=U u)(t:u.ab O' V=u.ab O V):
  r.ab O' V=.int I k/\X.ab O' V=u.ab O V:=by
 unfold Ta at h;split at h;rename_i q;split at h;rename_i y l p o;cases h;constructor;obtain⟨w,n,m,-⟩:=aai (O:=O') p;obtain⟨k',z,i,rfl⟩:=m (.int I (.c k)) (by rw[M,akz av,dW,A];rfl);cases i;simp only[C.ab,n,K.ab];obtain⟨b,s1,s2⟩:=TE (O:=O') (V:=V) o;have H:=fO.1 q u (jI L);have af:Y u.cells=0+Y Q.aj:=by
  simp only[Bb,aw,dE] at H;omega
 have ag:Q.d.isAgg=E->Y l=1:=λha=>by rw[b];exact Bu G ha
 rw[Dt ag,s1 u.cells (by rw[M,akz (by simp[F]),dW,L];rfl) af,avj,awD t,TG (wu R) H];cases h;cases h
def akB:∀{l:tC}{m:Nat},(gI m l).map (·.born)=xJ m (Y l)
 |[],m=>rfl
 |x::r,m=>by simp[gI,akB (l:=r),Zr]
def awE{p:Sp}{L:dC}(hP:p.P=P)(R:az g B D f.ty V O s a W)(an:jg P f.ty){m:OM}{x:Operand}(ho:m.o.op=.next x E)(he:a.eval x=(s.ev f.gl x).ab O V){bs bc:S->T}{t:T}(h:ZO f m.o.dst s (s.ev f.gl x) bs bc=U t)(hs:t.aP p O L):
  ∃v W' z w,ss P m.o a W v W'/\az g B D f.ty V z w (a.put m.o.dst v) W'/\bH s O V w z V/\((z=O/\(bc w).aP p O L)\/(bs w).aP p z L):=by
 unfold ZO at h;split at h;rename_i q hx;split at h;rename_i bt i tz c F hq;split at h;cases h;rename_i cc;simp only[ik,G8,aw,dE,cm] at cc;obtain⟨⟨⟨⟨⟨rfl,bx⟩,bf⟩,hb⟩,ch⟩,dx⟩:=cc;obtain⟨tn,rfl⟩:∃tn:Nat,tz=(tn:Int):=⟨tz.toNat,aa⟩;simp only[v7] at h;have b0:=R.mem.box _ _ _ hq;rw[Pb] at b0;have cI:=HZ R bf;have dy:∀H∈(F.rv O).ac,∃x,H=[RV.mk (.int I x) []]:=λH hr=>aaR bx (cI H hr)
 obtain⟨dz,b1⟩:=R.zE hb;split at h;rename_i k e n ag aj qq dT cO cl cn;have hd:P.underlying tn=U (.map k e):=(an _ _ cl).desc;have hK:uR P k n ag:=(an _ _ cl).key k e n ag rfl;split at h;rename_i M a0;split at h;cases h;rename_i bg;have bg:tE f.ty k n ag=true:=by simpa using bg
 have a3:=R.mem.box _ _ _ cn;have bk:=tP b1 cn;have model:∀(l:tC),W.heap[ad V i]?=U (qw l)->(Y l:Int)=c.ab O->
   (c.ab O<=lenOf (F.rv O).val/\ss P m.o a W (.tuple #[.bool E]) W)\/
   ∃(j:Nat)(kv:Value×Value)(G:World),l[j]?=U kv/\¬((F.rv O).ac.map pK).contains j=J/\(G=W\/G=W.drew)/\ss P m.o a W (.tuple #[.bool J,kv.1,kv.2]) (G.putObj (ad V q) (.mapIter (U (ad V i)) (c.ab O).toNat (((F.rv O).ac.map pK).toArray.push j) (c.ab O).toNat)):=by
  intro l hl b2;have hN:(c.ab O).toNat=Y l:=aa;rw[hN] at b0⊢;rcases run_next_at (P:=P) W m.o.type (ad V q) (ad V i) (Y l) (Y l) _ _ _ b0 hl (λy hy=>by
   obtain⟨j,p,h1,h2⟩:=aaP (by simpa using hy);rw[h2];have:=(ck.1 h1).1;simpa using this) (b9 _) with⟨h0,hr⟩|⟨en,b3,G,cR,hr⟩
  left;refine⟨?_,.inl ?_⟩;rw[K3 R bf,<-b2];have:=akv (Y l) ((F.rv O).ac.map pK) (λj hj=>by
   cases A:((F.rv O).ac.map pK).contains j with
   |true=>exact qj.1 A
   |false=>
    exfalso;have cW:=aaQ (m:=0) (cS hj);have:(⟨(l[j]).1,(l[j]).2,0+j⟩:MapEntry)∈(leftOf (gI 0 l).toArray ((F.rv O).ac.map pK).toArray):=by
     unfold leftOf;rw[aII];refine⟨by simpa using cW, ?_⟩;simp only[iX,ik];rw[<-A];simp
    have d0:=Array.size_pos_of_mem this;omega)
  simpa using this;simp only[execOp,ho,he,hx,C.ab,dA,hr,dv,fq];right;unfold leftOf at b3;rw[Array.mem_toList_iff,aII] at b3;obtain⟨c0,co⟩:=b3;obtain⟨j,kv,hj,rfl⟩:=aaP (by simpa using c0);simp only[iX] at co hr;refine⟨j,kv,G,hj, ?_,cR,.inl ?_⟩;simpa using co;simp only[execOp,ho,he,hx,C.ab,dA,hr,dv,fq,awy]
 have cp:(W=W)->(c.ab O<=lenOf (F.rv O).val)->ss P m.o a W (.tuple #[.bool E]) W->(bc (s.put m.o.dst (.bM [.bool (.c E)]))).aP p O L->∃v W' z w,ss P m.o a W v W'/\az g B D f.ty V z w (a.put m.o.dst v) W'/\bH s O V w z V/\((z=O/\(bc w).aP p O L)\/(bs w).aP p z L):=by
  intro _ _ c2 c3;have:=R.put m.o.dst (.bM [.bool (.c E)]);exact⟨_,W,O,_,c2,this,(bH.refl _ _ _).put _ _,.inl ⟨rfl,c3⟩⟩
 have cs:∀G,(G=W\/G=W.drew)->az g B D f.ty V O s a G:=by
  rintro G (rfl|rfl);exact R;exact R.drew
 split at h
 
 rename_i a4;simp only[dE] at a4;subst a4;split at h;rename_i r hr;split at h;rename_i bl;simp only[aw] at bl;cases h;obtain⟨rfl,c1,c5⟩:=T1 hr;rw[Fp] at a3;have b4:c.ab O=((r.rv O).ac.length:Int):=by
  have:=K.bY _ _ bl.1;rw[this,K.ab,K3 R c1]
 have cv:=HZ R c1;simp only[Tb,T.aP] at hs;rcases model _ a3 (by rw[b4];simp) with⟨Q,g2⟩|⟨j,kv,G,Q,g2,g3,g4⟩;exact cp rfl Q g2 (hs.2 (decide_eq_true Q))
 ·rw[dW] at Q;cases a9:(r.rv O).ac[j]? with
  |none=>rw[a9] at Q;cases Q
  |some H=>
  rw[a9] at Q;simp only[eh,cU] at Q;have c4:=(ck.1 a9).1;have cx:=jI a9;have c6:=KN bg a0 (cv H cx);have b5:=hs.1 (j:Int) aa aa;have R1:=(cs G g3).ako hb (j:Int);have af:=(sq s.ap O (.i (j:Int)) V).agree;simp only[C.iQ,C.bj,aw] at bk;have al:=tP b1 hq;simp only[C.iQ,C.bj,aw] at al;have ba:F.rv (O.add (.i (j:Int)))=F.rv O:=RE.sj af _ al.2.2.2.1;have b6:c.ab (O.add (.i (j:Int)))=c.ab O:=K.ep af _ al.2.2.1;have bb:(K.v s.ni).ab (O.add (.i (j:Int)))=(j:Int):=by simp[K.ab,ai.add,<-R.ei]
  have c7:∀X,(K.v s.ni).ab ((O.add (.i (j:Int))).add (.r X))=(j:Int):=λX=>bb
  have c8:∀X,r.rv ((O.add (.i (j:Int))).add (.r X))=r.rv O:=λX=>by
   have a1:=RE.sj af _ bk.1;have b7:=(sq s.ap (O.add (.i (j:Int))) (.r X) V).agree;have a2:=RE.sj (b7.mono (by simp[ai.add]) (b9 _) (b9 _)) r bk.1;rw[a2,a1]
  have cy:∀X,(r.rv ((O.add (.i (j:Int))).add (.r X))).ac[((K.v s.ni).ab ((O.add (.i (j:Int))).add (.r X))).toNat]?=U H:=λX=>by
   rw[c8,c7];simpa using a9
  obtain⟨kc,r1,r2,r3⟩:=KM (va:=M.d.isAgg) bg a0;have b8:=cv H cx;have b2:Y H=n+Y M.aj:=by rw[b8.len,r1,gc,r2]
  have cA:∀(N:Nat)(ct:CT),M.aj[N]?=U ct->(bD f.ty (.mr ⟨k,e,n,ag,M.d.isAgg⟩))[n+N]?=U ct:=λN ct hm=>by
   rw[r1,iE aa,r2,show n+N-n=N from aa];exact hm
  have cB:∀(N:Nat)(ct:CT),M.aj[N]?=U ct->∃c,H[n+N]?=U c:=λN ct hm=>by
   have:N<Y M.aj:=(ck.1 hm).1;exact⟨H[n+N]' aa,cS _⟩
  have c9:M.d.isAgg=E->(uJ r (.v s.ni) n M.aj).length=1:=λha=>by rw[aaS];exact Bu (an _ _ a0) ha
  have dc:∀X,(tD M.d.isAgg (uJ r (.v s.ni) n M.aj)).ab ((O.add (.i (j:Int))).add (.r X)) V=rk M.d.isAgg (H.drop n):=λX=>by
   rw[Dt c9,T2 (cy X) c5 b2 (λN kk hm=>by
    obtain⟨c,A⟩:=cB N _ hm;obtain⟨x',ca⟩:=b8.int (n+N) c kk A (cA N _ hm);exact⟨x',by rw[A,ca]⟩) (λN hm=>by
    obtain⟨c,A⟩:=cB N _ hm;obtain⟨x',ca⟩:=b8.bool (n+N) c A (cA N _ hm);exact⟨x',by rw[A,ca]⟩),rk]
   cases dd:M.d.isAgg;have h1:=Bu (an _ _ a0) dd;obtain⟨c,A⟩:=oR.1 (show(H.drop n).length=1 from dh);rw[A];rfl;rfl
  obtain⟨u1,u2⟩:=akx (d:=m.o.dst) (s:={s with ni:=s.ni+1}) (kv:=Kh r (.v s.ni) n ag) (v:=tD M.d.isAgg (uJ r (.v s.ni) n M.aj)) (key:=rk ag (H.take n)) (val:=rk M.d.isAgg (H.drop n)) bx R1 ch hq (by simpa only[RE.oT,aaO] using bf) bb (by rw[ba];exact g2) (λX=>akw (cy X) hK.1 c6) dc;rw[ba,b6] at u2;subst Q;refine⟨_,_,_,_,g4,u2, ?_,.inr ?_⟩;refine bH.put (s:=s) (s':={s with ni:=s.ni+1,rs:=s.rs++[RK.mr (xR f)],ap:=s.ap.set q _}) ⟨(sq s.ap O (.i (j:Int)) V).trans (sq s.ap _ _ V) (λ_ h=>h),λj hj=>(pM (ck.1 (kj.1 hq)).1).2 (.inr hj),av,b9 _⟩ _ _;exact b5 u1
 cases h;cases h;split at h
 
 rename_i a4;simp only[aw,dE,ik] at a4;obtain⟨⟨rfl,rfl⟩,rfl⟩:=a4;split at h;rename_i ks df;split at h;rename_i bl;split at h;rename_i dk v0 dn;cases h;rw[Fq] at a3;obtain⟨p1,p2⟩:=KO (O:=O) (V:=V) df;rw[p1] at a3;have b4:c.ab O=(Y ks:Int):=by
  have:=K.bY _ _ bl;rw[this,K.ab]
 simp only[Tb,T.aP] at hs;rcases model _ a3 (by rw[b4];simp[p2]) with⟨Q,g2⟩|⟨j,kv,G,Q,g2,g3,g4⟩;exact cp rfl Q g2 (hs.2 (decide_eq_true Q))
 ·rw[dW] at Q;cases hz:(ks.zip (mJ cO))[j]? with
  |none=>rw[hz] at Q;cases Q
  |some kp=>
  rw[hz] at Q;simp only[eh,cU] at Q;obtain⟨z1,z2⟩:=auW.1 hz;have dr:∀{l:aq}{jj:Nat}{u:C},C.ec (Y O.i) (Y O.b) (Y O.r) (aK s.ap) l=J->(mJ l)[jj]?=U u->u.bd (Y O.i) (Y O.b) (Y O.r) (aK s.ap)=true:=by
   intro l;induction l using mJ.induct with
   |case1 k v r ih=>
    intro jj u br hu;simp only[C.iQ,aw] at br;simp only[mJ] at hu;cases jj with
    |zero=>simp at hu;subst hu;exact br.2.1
    |succ jj=>exact ih br.2.2 (by simpa using hu)
   |case2 l h1=>
    intro jj u br hu;unfold mJ at hu;split at hu;exact aZ rfl (h1 _ _ _);simp at hu
  have c4:j<Y ks:=(ck.1 z1).1;have b5:=hs.1 (j:Int) aa aa;have R1:=(cs G g3).ako hb (j:Int);have af:=(sq s.ap O (.i (j:Int)) V).agree;have al:=tP b1 hq;simp only[C.iQ,C.bj,aw] at al;have ba:F.rv (O.add (.i (j:Int)))=F.rv O:=RE.sj af _ al.2.2.2.1;have b6:c.ab (O.add (.i (j:Int)))=c.ab O:=K.ep af _ al.2.2.1;have bb:(K.v s.ni).ab (O.add (.i (j:Int)))=(j:Int):=by simp[K.ab,ai.add,<-R.ei]
  have cC:=dr bk z2;have ds:∀X,kp.2.ab ((O.add (.i (j:Int))).add (.r X)) V=kp.2.ab O V:=λX=>by
   have b7:=(sq s.ap (O.add (.i (j:Int))) (.r X) V).agree;rw[C.ep (b7.mono (by simp[ai.add]) (b9 _) (b9 _)) (λ_ _=>rfl) _ cC,C.ep af (λ_ _=>rfl) _ cC]
  have cD:=λX=>akA R (an _ _ a0) dn p2 (O':=(O.add (.i (j:Int))).add (.r X)) (j:=j) bb z1 z2 (ds X)
  obtain⟨u1,u2⟩:=akx (d:=m.o.dst) (s:={s with ni:=s.ni+1}) (kv:=dk) (v:=v0) (key:=.int I kp.1) (val:=kp.2.ab O V) bx R1 ch hq (by simpa only[RE.oT,aaO] using bf) bb (by rw[ba];exact g2) (λX=>(cD X).1) (λX=>(cD X).2);rw[ba,b6] at u2;subst Q;refine⟨_,_,_,_,g4,u2, ?_,.inr ?_⟩;refine bH.put (s:=s) (s':={s with ni:=s.ni+1,rs:=s.rs++[RK.mr (xR f)],ap:=s.ap.set q _}) ⟨(sq s.ap O (.i (j:Int)) V).trans (sq s.ap _ _ V) (λ_ h=>h),λj hj=>(pM (ck.1 (kj.1 hq)).1).2 (.inr hj),av,b9 _⟩ _ _;exact b5 u1
 cases h;cases h;cases h;cases h;cases h;cases h;cases h;cases h
def awF{p:Sp}{L:dC}(R:az g B D f.ty V O s a W)(u:jg P f.ty){m:OM}{x:Operand}(ho:m.o.op=.entry x)(he:a.eval x=(s.ev f.gl x).ab O V){bl:S->T}{t:T}(h:ZQ f m.o.dst s (s.ev f.gl x) bl=U t)(A:t.aP p O L):
  ∃v s',ss P m.o a W v W/\az g B D f.ty V O s' (a.put m.o.dst v) W/\bH s O V s' O V/\(bl s').aP p O L:=by
 unfold ZQ at h;split at h;rename_i q hx;split at h;rename_i bt i tz c Q hq;split at h;cases h;rename_i br;simp only[ik,G8,aw,dE,cm] at br;obtain⟨⟨⟨⟨rfl,b8⟩,ba⟩,hb⟩,cO⟩:=br;obtain⟨tn,rfl⟩:∃tn:Nat,tz=(tn:Int):=⟨tz.toNat,aa⟩;simp only[v7] at h;have a1:=R.mem.box _ _ _ hq;rw[Pb] at a1;have ca:=HZ R ba;have model:∀(l:tC),W.heap[ad V i]?=U (qw l)->(Y l:Int)=c.ab O->(ZP c Q).ab O=J->
   ∃(j:Nat)(b:Value×Value),l[j]?=U b/\(wl Q).ab O=j/\ss P m.o a W (.tuple #[b.1,b.2]) W:=by
  intro l hl bs cc;obtain⟨bb,ch⟩:=BB cc;obtain⟨bb,cl⟩:=BB bb;have h1:=zI bb;have h2:=TS cl;obtain⟨h3,h4⟩:=BB ch;have h3:=zI h3;rw[Ds] at h4;have h4:(wl Q).ab O<c.ab O:=by simpa[fy] using h4
  simp only[K.ab] at h1 h2 h3;rw[K3 R ba] at h1 h2;have hN:(c.ab O).toNat=Y l:=aa;rw[hN] at a1;obtain⟨af,bc,a3⟩:∃af bc,(Q.rv O).ac=af++[bc]:=⟨_,_,(List.dropLast_concat_getLast (by intro e;rw[e] at h1;simp at h1)).symm⟩;obtain⟨z,y⟩:=aaR b8 (ca bc (by rw[a3];simp));have cn:IntKind.i64.wrap (((Q.rv O).ac.length:Int)-1)=((Q.rv O).ac.length:Int)-1:=by
   simp[IntKind.wrap,IntKind.bits,IntKind.signed];omega
  have bx:(wl Q).ab O=z:=by
   simp only[wl,K.ab,aF,K3 R ba,cn,aU];have:(((Q.rv O).ac.length:Int)-1).toNat=Y af:=by rw[a3];simp
   rw[this,a3,y];simp[cz,bn]
  rw[bx] at h3 h4;obtain⟨j,rfl⟩:∃j:Nat,z=(j:Int):=⟨z.toNat,aa⟩;have b0:j<Y l:=aa;refine⟨j,l[j],cS b0,bx,.inl ?_⟩;have co:((Q.rv O).ac.map pK).toArray=((af.map pK).toArray).push j:=by
   rw[a3,y];simp[pK,bn]
  rw[co] at a1;have b1:=aaQ (m:=0) (cS b0);rw[iX] at b1;have hr:=run_entry_at (P:=P) W (ad V q) (ad V i) (Y l) ((af.map pK).toArray) (gI 0 l).toArray (Y l) ⟨(l[j]).1,(l[j]).2,j⟩ a1 hl (by simpa using b1) (by
   simp only[akB];exact List.nodup_range' ..)
  simp only[execOp,ho,he,hx,C.ab,dA,hr,dv,fq]
 split at h;rename_i k e n ag aj qq cR cp b2 cs;have hd:P.underlying tn=U (.map k e):=(u _ _ b2).desc;have hK:uR P k n ag:=(u _ _ b2).key k e n ag rfl;split at h;rename_i N al;split at h;cases h;rename_i a4;have a4:tE f.ty k n ag=true:=by simpa using a4
 have an:=R.mem.box _ _ _ cs;split at h;rename_i a0;simp only[dE] at a0;subst a0;split at h;rename_i r hr;split at h
 ·rename_i bd;cases h;obtain⟨rfl,c1,c5⟩:=T1 hr;rw[Fp] at an;have bf:c.ab O=((r.rv O).ac.length:Int):=by
   have:=K.bY _ _ bd;rw[this,K.ab,K3 R c1]
  have b3:=HZ R c1;obtain⟨hn,A⟩:=A;obtain⟨j,b,M,g2,g3⟩:=model _ an (by rw[bf];simp) hn;rw[dW] at M;cases a9:(r.rv O).ac[j]? with
  |none=>rw[a9] at M;cases M
  |some G=>
  rw[a9] at M;simp only[eh,cU] at M;have b4:=jI a9;have cv:=KN a4 al (b3 G b4);have b5:(r.rv O).ac[((wl Q).ab O).toNat]?=U G:=by rw[g2];simpa using a9
  obtain⟨kc,r1,r2,r3⟩:=KM (va:=N.d.isAgg) a4 al;have bg:=b3 G b4;have bs:Y G=n+Y N.aj:=by rw[bg.len,r1,gc,r2]
  have b6:∀(X:Nat)(w:CT),N.aj[X]?=U w->(bD f.ty (.mr ⟨k,e,n,ag,N.d.isAgg⟩))[n+X]?=U w:=λX w H=>by
   rw[r1,iE aa,r2,show n+X-n=X from aa];exact H
  have b7:∀(X:Nat)(w:CT),N.aj[X]?=U w->∃c,G[n+X]?=U c:=λX w H=>by
   have:X<Y N.aj:=(ck.1 H).1;exact⟨G[n+X]' aa,cS _⟩
  have cx:N.d.isAgg=E->(uJ r (wl Q) n N.aj).length=1:=λha=>by rw[aaS];exact Bu (u _ _ al) ha
  have cy:(tD N.d.isAgg (uJ r (wl Q) n N.aj)).ab O V=rk N.d.isAgg (G.drop n):=by
   rw[Dt cx,T2 b5 c5 bs (λX kk H=>by
    obtain⟨c,F⟩:=b7 X _ H;obtain⟨x',bk⟩:=bg.int (n+X) c kk F (b6 X _ H);exact⟨x',by rw[F,bk]⟩) (λX H=>by
    obtain⟨c,F⟩:=b7 X _ H;obtain⟨x',bk⟩:=bg.bool (n+X) c F (b6 X _ H);exact⟨x',by rw[F,bk]⟩),rk]
   cases cA:N.d.isAgg;have h1:=Bu (u _ _ al) cA;obtain⟨c,F⟩:=oR.1 (show(G.drop n).length=1 from dh);rw[F];rfl;rfl
  have cB:=akw (V:=V) b5 hK.1 cv;have R2:=R.put m.o.dst (.bM [Kh r (wl Q) n ag,tD N.d.isAgg (uJ r (wl Q) n N.aj)]);simp only[C.ab,C.aE,cB,cy] at R2;subst M;exact⟨_,_,g3,R2,(bH.refl _ _ _).put _ _,A⟩
 cases h;cases h;split at h;rename_i a0;simp only[aw,dE,ik] at a0;obtain⟨⟨rfl,rfl⟩,rfl⟩:=a0;split at h;rename_i ks cC;split at h;rename_i bd;split at h
 ·rename_i cD v0 cI;cases h;rw[Fq] at an;obtain⟨p1,p2⟩:=KO (O:=O) (V:=V) cC;rw[p1] at an;have bf:c.ab O=(Y ks:Int):=by
   have:=K.bY _ _ bd;rw[this,K.ab]
  obtain⟨hn,A⟩:=A;obtain⟨j,b,M,g2,g3⟩:=model _ an (by rw[bf];simp[p2]) hn;rw[dW] at M;cases y:(ks.zip (mJ cp))[j]? with
  |none=>rw[y] at M;cases M
  |some kp=>
  rw[y] at M;simp only[eh,cU] at M;obtain⟨z1,z2⟩:=auW.1 y;obtain⟨e1,e2⟩:=akA R (u _ _ al) cI p2 (O':=O) g2 z1 z2 rfl;have R2:=R.put m.o.dst (.bM [cD,v0]);simp only[C.ab,C.aE,e1,e2] at R2;subst M;exact⟨_,_,g3,R2,(bH.refl _ _ _).put _ _,A⟩
 cases h;cases h;cases h;cases h;cases h;cases h;cases h;cases h
def akC{p:Sp}{L:dC}(R:az g B D f.ty V O s a W)(ag:jg P f.ty){m:OM}{t t2:TypeId}{G:BinOp}{X:Bool}{x y:Operand}(u:m.o.op=.binOp G t x y t2)(al:(G=.eql/\X=E)\/(G=.neq/\X=J))(he:a.eval x=(s.ev f.gl x).ab O V)(an:a.eval y=(s.ev f.gl y).ab O V){l:S->T}{j:T}(h:Td f m.o.dst s t X (s.ev f.gl x) (s.ev f.gl y) l=U j)(F:j.aP p O L):
  ∃v z,ss P m.o a W v W/\az g B D f.ty V O z (a.put m.o.dst v) W/\bH s O V z O V/\(l z).aP p O L:=by
 unfold Td at h;split at h;rename_i e aj q r ht hx hy;split at h;rename_i hk;cases h;have hd:P.underlying t=U (.slice e):=(ag _ _ ht).desc;have N:=sn R av hk;simp only[T.aP] at F;obtain⟨A,n,c,Q⟩:∃A n c,r.ab O=.slice A n c:=by
  have:∃A n c,(r.rv O).val=.slice A n c:=by
   generalize r.rv O=H at N;cases N;exact⟨_,_,_,rfl⟩
  exact this
 have a0:(K.len r).ab O=n:=by simp only[K.ab];unfold RE.ab at Q;rw[Q];rfl
 have i:(E3 t (.slice A n c) (.slice Z 0 0)).run P W=.ok A.isNone W:=by
  have w:E3 t (.slice A n c) (.slice Z 0 0)=C3 (9999+1) t (.slice A n c) (.slice Z 0 0):=rfl;rw[w,C3,dA,fk.iC hd,dv];cases A<;>rfl
 have d:(execOp a.eval m.o).run P W=.ok (.value (.bool (if X then !A.isNone else A.isNone))) W:=by
  simp only[execOp,u,he,an,hx,hy,C.ab,Q];have a1:RE.ab O (.k (.slice Z 0 0))=.slice Z 0 0:=rfl;rw[a1];rcases al with⟨rfl,rfl⟩|⟨rfl,rfl⟩;simp[eqGuard,binOp,i];simp[eqGuard,binOp,i]
 cases M:A with
 |none=>
  have hn:n=0:=by
   unfold RE.ab at Q;have w:∀{H:RV},bJ W f.ty (.sl e) H->H.val=.slice A n c->A=Z->n=0:=by
    intro H N Q M;cases N with
    |sl e A' a9 ba af h1 h2 h3 hi hb u=>
     simp only[RV.nC,Value.slice.injEq] at Q;obtain⟨rfl,rfl,rfl⟩:=Q;subst M;cases af with
     |nil=>simp at h1;omega
     |cons a3 af=>
      obtain⟨-,b,bb,a4,-⟩:=h3 0 a3 rfl;cases a4
   exact w N Q M
  have:=F.2 (by show decide ((K.len r).ab O<=(K.c 0).ab O)=J;rw[a0,hn];rfl);refine⟨_,_,.inl d, ?_,(bH.refl _ _ _).put _ (.bool (.c (!X))),this⟩;have Q:(if X then !A.isNone else A.isNone)= !X:=by rw[M];cases X<;>rfl
  rw[Q];exact R.put m.o.dst (.bool (.c (!X)))
 |some A0=>
  have:=F.1 (by simp[BE.ab]);refine⟨_,_,.inl d, ?_,(bH.refl _ _ _).put _ (.bool (.c X)),this⟩;have Q:(if X then !A.isNone else A.isNone)=X:=by rw[M];cases X<;>rfl
  rw[Q];exact R.put m.o.dst (.bool (.c X))
 cases h;cases h
def az.cells{x:Ty}{H:aq}(R:az g B D x V O (s.dt X v e) a W)(F:X<Y s.ap)(h:C.dO O V e=C.dO O V H):az g B D x V O (s.dt X v H) a W:=by
 have G:∀j,aK (s.ap.set X (U (v,H))) j=aK (s.ap.set X (U (v,e))) j:=λj=>by
  rw[uD,pM F,pM F]
 have w:(s.dt X v H).ap=s.ap.set X (U (v,H)):=rfl;have M:(s.dt X v e).ap=s.ap.set X (U (v,e)):=rfl;refine⟨⟨R.mem.base,λj N=>R.mem.own j (by rw[M,<-G];exact N),λj k N u=>R.mem.inj j k (by rw[M,<-G];exact N) (by rw[M,<-G];exact u),λj t r L=> ?_,λk Q A z y=>⟨(R.mem.ah k Q A z y).1,λb L j N=>(R.mem.ah k Q A z y).2 b L j (by rw[M,<-G];exact N)⟩⟩,by simpa[S.dt] using R.gJ,R.ei,R.eb,R.er,R.dl,R.size,R.tmps,λk Q A b q p o=> ?_⟩;rw[kj,w] at L;by_cases N:j=X;subst N;rw[G6 (by simpa using F)] at L;cases L;rw[<-h];exact R.mem.box j v e (by rw[kj,M,G6 (by simpa using F)]);rw[rX (λQ=>N Q.symm)] at L;exact R.mem.box j t r (by rw[kj,M,rX (λQ=>N Q.symm)];exact L);obtain⟨z,y,n,m,l⟩:=R.gj k Q A b q p o;exact⟨z,y,λj N=>n j (by rw[M,<-G];exact N),m,l⟩
def awG{b:BE}{y z:C}(h:ZR b r y=U z):z.hJ O V=if b.ab O then r.hJ O V else y.hJ O V:=by
 unfold ZR at h;split at h;split at h;rename_i X;subst X;cases h;simp only[C.hJ,C.ab,K.ab];split<;>rfl;cases h;cases h;simp only[C.hJ,C.ab,BE.ab];split<;>rfl;cases h
def Pc:∀(R l:aq)(X:Nat),C.dO O V (lI l X R)=gZ (C.dO O V l) X (C.dO O V R)
 |[],l,X=>rfl
 |v::R,l,X=>by
  rw[lI,Pc R (l.set X v) (X+1)];simp only[C.dO,dU,gZ,ai0]
def akD{b:BE}:∀{M:aq}{R:Nat}{X Q:aq},Om b M R X=U Q->
  Y Q=Y X/\(M=[]\/R+Y M<=Y X)/\(b.ab O=J->C.dO O V Q=C.dO O V (lI X R M))/\(b.ab O=E->C.dO O V Q=C.dO O V X)
 |[],R,X,Q,h=>by simp only[Om,cU] at h;subst h;exact⟨rfl,.inl rfl,λ_=>rfl,λ_=>rfl⟩
 |x::r,R,X,Q,h=>by
  simp only[Om] at h;split at h;rename_i A H;split at h;rename_i c z;obtain⟨G,L,y,w⟩:=akD h;have v:R<Y X:=(ck.1 H).1;have F:=awG (O:=O) (V:=V) z;have B:C.dO O V (X.set R c)=(C.dO O V X).set R (c.hJ O V):=by simp[C.dO,ai0]
  have u:C.dO O V X=(C.dO O V X).set R (A.hJ O V):=by
   apply kG;intro j;rw[v6];split;rename_i t;subst t;simp[C.dO,v];have:=ck.1 H;rw[this.2];rfl
  rw[avc] at G L;refine⟨G,.inr ?_,λN=> ?_,λN=> ?_⟩;rcases L with rfl|L;simp;omega;simp only[lH];omega;rw[y N,Pc,B,F,aJ N,Pc];simp only[C.dO,dU,gZ];rw[w N,B,F,aQ (by simp[N]),<-u];cases h;cases h
def akE{e:K}{G:aq}(y:G≠[]):∀{M:bz}{L X R:aq},HE e G M L X=U R->Te M=J->
  Y R=Y X/\(∀v,eY (e.ab O) M L=U v->∃i H,v=.loc i H/\H+Y G<=Y X/\C.dO O V R=C.dO O V (lI X H G))/\(¬(e.ab O∈M)->C.dO O V R=C.dO O V X)
 |[],[],X,R,h,_=>by simp only[HE,cU] at h;subst h;exact⟨rfl,λv Q=>by simp[eY] at Q,λ_=>rfl⟩
 |[],_::_,X,R,h,_=>by simp[HE] at h
 |k::M,L,X,R,h,B=>by
  simp only[Te,aw,ik] at B;cases L with
  |nil=>simp[HE] at h
  |cons u L=>
   cases u<;>simp only[HE] at h<;>try cases h
   rename_i i H;split at h;rename_i f q;obtain⟨p,o,x⟩:=akE y h B.2;obtain⟨w,A,t,z⟩:=akD (O:=O) (V:=V) q;have A:=A.resolve_left y;simp only[BE.ab,K.ab,fy,dE,beq_eq_false_iff_ne,ne_eq] at t z;refine⟨by rw[p,w],λv Q=> ?_,λr=> ?_⟩;simp only[eY] at Q;split at Q;rename_i N;cases Q;refine⟨i,H,rfl,A, ?_⟩;rw[x (λF=>by
    rw[N] at F;have:=B.1;rw[qj.2 F] at this;cases this),t N]
   rename_i N;obtain⟨n,m,rfl,l,j⟩:=o v Q;refine⟨n,m,rfl,by rw[<-w];exact l, ?_⟩;rw[j,Pc,z N,<-Pc];have N:¬e.ab O=k:=λg=>r (by simp[g])
   rw[x (λF=>r (by simp[F])),z N];cases h
def akF(h:On r=J):r.single=true:=by cases r<;>simp only[On,jp] at h<;>rfl
def akG:∀{l:aq},Ki l=J->l≠[]/\E6 l=J
 |[],h=>by cases h
 |[x],h=>⟨av,by rw[SU.2,akF h,SU.1];rfl⟩
 |x::y::r,h=>by
  simp only[Ki,aw] at h;exact⟨av,by rw[SU.2,akF h.1,(akG (l:=y::r) h.2).2];rfl⟩
def awH(h:Ki r.cells=J):(r.ab O V).cells.toList=C.aE O V r.cells:=by
 cases r
 case agg l=>simp[C.cells,C.ab,Value.cells]
 all_goals(simp only[C.cells,Ki,On,jp] at h)
 all_goals rfl
def awI{P:Program}{p:Sp}{L:dC}(R:az g B D f.ty V O s a W)(j:jg P f.ty){x y:Operand}{z:TI}{X:K}{H:bz}(d:f.ty v=U z)(c:l.op=.store v x y)(b:a.eval x=(C.gg X H e).ab O V)(e2:a.eval y=(s.ev f.gl y).ab O V){k:S->T}{w:T}
  (h:ZS l.dst s z X H e (s.ev f.gl y) k=U w)(M:w.aP p O L):∃Q N G,ss P l a W Q N/\az g B D f.ty V O G (a.put l.dst Q) N/\bH s O V G O V/\(k G).aP p O L:=by
 unfold ZS at h;split at h;rename_i i af;split at h;rename_i bt cs hb;split at h;rename_i ag al;split at h;rename_i r;simp only[aw,dE] at r;obtain⟨⟨⟨h1,h2⟩,h3⟩,q⟩:=r;cases h;simp only[T.aP] at M;obtain⟨n,M⟩:=M;rw[TF h2] at n;obtain⟨u,F⟩:=ln.1 n;obtain⟨an,a0⟩:=akG q;obtain⟨g1,g2,-⟩:=akE (O:=O) (V:=V) an al h3;obtain⟨i',m,rfl,a1,a3⟩:=g2 u F;obtain⟨bb,hq⟩:=ajD af (KJ F);cases hq;obtain⟨A,a4⟩:=zD hb;have hi:i<Y s.ap:=(ck.1 (kj.1 A)).1;have a9:((s.ev f.gl y).ab O V).cells.toList=C.aE O V (s.ev f.gl y).cells:=awH q;obtain⟨N,hr,R'⟩:=R.store (P:=P) (v:=s.ev f.gl y) (off:=m) (j _ _ d) A a4 h1.symm a1 a0 a9;have R2:az g B D f.ty V O (s.dt i bt ag) a N:=R'.cells hi a3.symm;refine⟨undef,N,_,.inr ⟨?_,rfl⟩,R2.put l.dst (.bM []),akb A _ _,M⟩;have ba:(C.gg X H e).ab O V=.pointer (U ⟨ad V i,m,Z⟩):=by
  simp only[C.ab];rw[TH F rfl];rfl
 simp only[execOp,c,b,e2,ba,dA,hr,dv,fq];cases h;cases h;cases h;cases h
def awJ{p:Sp}{L:dC}(R:az p.S0 p.w0 D f.ty V O s a W)(l:jg p.P f.ty)(w:e8 f.gl O){m:OM}{af:S->Fx->T}{q:Fx}(r:uT O q){t:T}(h:Bi f m s af q=U t)(n:t.aP p O L):
  ∃v F j b X ag,ss p.P m.o a W v F/\az p.S0 p.w0 D f.ty b j X (a.put m.o.dst v) F/\bH s O V X j b/\uT j ag/\(af X ag).aP p j L:=by
 unfold Bi at h;split at h;cases h;rename_i M;have M:∀x∈m.o.op.operands.toList,(s.ev f.gl x).eO=false:=by
  intro x hx;cases hh:(s.ev f.gl x).eO;rfl;exact aZ (by simp only[jy];right;exact kH.2 ⟨x,hx,hh⟩) M
 split at h
 
 rename_i i Q;cases d:S7 f m.o.dst s i with
 |none=>rw[d] at h;cases h
 |some X=>
  rw[d] at h;cases h;obtain⟨v,F,b,H,G,N⟩:=awv (P:=p.P) R Q d;exact⟨v,F,O,b,X,q,H,G,N,r,n⟩
 rename_i i x y z Q;rw[Q] at M;have A:=du R w x (M x cK);have k:=du R w y (M y cK);have e3:=du R w z (M z cK);split at h;rename_i X c;cases h;obtain⟨F,H,G,N⟩:=Pa (P:=p.P) R l c;exact⟨undef,F,O,V,X,q,.inr ⟨by simp only[execOp,Q,A,k,e3,dA,H,dv,fq],rfl⟩,G,N,r,n⟩;rename_i k' x' X c;cases h;obtain⟨F,H,G,N⟩:=Pa (P:=p.P) R l c;exact⟨undef,F,_,V,X,_,.inr ⟨by simp only[execOp,Q,A,k,e3,dA,H,dv,fq],rfl⟩,G,N,H8 R N.ext.agree r,n⟩;cases h;rename_i i x y z Q;rw[Q] at M;have A:=du R w x (M x cK);have k:=du R w y (M y cK);have e3:=du R w z (M z cK);split at h;rename_i X c;cases h;obtain⟨F,H,G,N⟩:=Pa (P:=p.P) R l c;exact⟨undef,F,O,V,X,q,.inr ⟨by simp only[execOp,Q,A,k,e3,dA,H,dv,fq],rfl⟩,G,N,r,n⟩;rename_i k' x' X c;cases h;obtain⟨F,H,G,N⟩:=Pa (P:=p.P) R l c;exact⟨undef,F,_,V,X,_,.inr ⟨by simp only[execOp,Q,A,k,e3,dA,H,dv,fq],rfl⟩,G,N,H8 R N.ext.agree r,n⟩;cases h;rename_i i x Q;rw[Q] at M;have A:=du R w x (M x cK);cases d:S8 f m.o.dst s i (s.ev f.gl x) with
 |none=>rw[d] at h;cases h
 |some X=>
  rw[d] at h;cases h;obtain⟨v,F,b,H,G,N⟩:=awA (P:=p.P) R l Q A d;exact⟨v,F,O,b,X,q,H,G,N,r,n⟩
 rename_i x Q;rw[Q] at M;have A:=du R w x (M x cK);obtain⟨v,F,j,X,H,G,N,u⟩:=awE (P:=p.P) rfl R l Q A h n;rcases u with⟨rfl,u⟩|u;exact⟨v,F,j,V,X,q,H,G,N,r,u⟩;exact⟨v,F,j,V,X,_,H,G,N,H8 R N.ext.agree r,u⟩;rename_i x Q;rw[Q] at M;have A:=du R w x (M x cK);obtain⟨v,X,H,G,N,u⟩:=awF (P:=p.P) R l Q A h n;exact⟨v,W,O,V,X,q,H,G,N,r,u⟩;rename_i i x y Q;rw[Q] at M;have A:=du R w x (M x cK);have k:=du R w y (M y cK);split at h;rename_i ti e ks vs ht hx;rw[hx] at A;obtain⟨v,F,X,H,G,N,u⟩:=awI (P:=p.P) R l ht Q A k h n;exact⟨v,F,O,V,X,q,H,G,N,r,u⟩;cases h;rename_i op i x y t2 Q;rw[Q] at M;have A:=du R w x (M x cK);have k:=du R w y (M y cK);split at h;obtain⟨v,X,H,G,N,u⟩:=akC (P:=p.P) R l Q (.inl ⟨rfl,rfl⟩) A k h n;exact⟨v,W,O,V,X,q,H,G,N,r,u⟩;obtain⟨v,X,H,G,N,u⟩:=akC (P:=p.P) R l Q (.inr ⟨rfl,rfl⟩) A k h n;exact⟨v,W,O,V,X,q,H,G,N,r,u⟩;cases h;cases h
end
def Pd(v:Value)(X:bz)(g:FuncId):mI:=(v::(X.map (Value.int I)++[.func (.func g) #[] #[]])).toArray
def qB(P:Program)(R:Ty)(f g:FuncId)(e:TypeId)(G:bp)(F:Bool):Prop:=
 (∀Q W,(callFunc f Q).run P W=.ok (.enter f Q) W)/\∀(W:World)(A:oz)(n X:Nat)(N aA:au)(O:ai)(M:List K)(L:bp),G.fill M=U L->bJ W R (.sl e) (.mk (.slice A n X) N)->KZ W e (bD R (.sl e)).length A X->kO O L F N=U aA->
  Calls P f (Pd (.slice A n X) (M.map (K.ab O)) g) W λB H=>B=.returned (.tuple #[])/\W.grownBy H (lx A X)/\Ft W H e (bD R (.sl e)).length (lx A X) aA A X
def akH(P:Program)(N:Ty)(f:FuncId)(e:TypeId):Prop:=
 (∀M W,(callFunc f M).run P W=.ok (.enter f M) W)/\∀(W:World)(b n X:Nat)(L aA:au)(i:Int)(R Q:Nat)(G F:TypeId),W.heap[R]?=U (.cells #[.slice (U ⟨b,0,Z⟩) n X] G (0,0))->W.heap[Q]?=U (.cells #[.func (.func f) #[] #[.pointer (U ⟨R,0,Z⟩),.pointer (U ⟨Q,0,Z⟩)]] F (0,0))->R≠b->Q≠b->
  bJ W N (.sl e) (.mk (.slice (U ⟨b,0,Z⟩) n X) L)->KZ W e (bD N (.sl e)).length (U ⟨b,0,Z⟩) X->wn i L=U aA->
  Calls P f #[.int I i,.pointer (U ⟨R,0,Z⟩),.pointer (U ⟨Q,0,Z⟩)] W λB H=>B=.returned (.int I (aI 0 (aA.getD i.toNat [])))/\W.grownBy H (U b)/\Ft W H e (bD N (.sl e)).length (U b) aA (U ⟨b,0,Z⟩) X
def mP(P:Program)(X:Ty)(f g:FuncId)(e:TypeId)(R:bp)(Q:Bool):Prop:=if f=g then akH P X f e else qB P X f g e R Q
def mP.of{P:Program}{X:Ty}{f g:FuncId}{R:bp}(h:qB P X f g v R b)(Q:f≠g):mP P X f g v R b:=by
 unfold mP;rw[aQ Q];exact h
def K5(P:Program)(p:bE):Prop:=∀f g e X R,p.zp f g=U (e,X,R)->mP P p.ty f g e X R
def T3{lt:aC->aC->Bool}{x y:aC}:∀{l:au},y∈eC lt x l<->y=x\/y∈l
 |[]=>by simp[eC]
 |z::r=>by
  simp only[eC];split;simp;simp only[dP,T3 (l:=r)];constructor;rintro(h|h|h);exact .inr (.inl h);exact .inl h;exact .inr (.inr h);rintro(h|h|h);exact .inr (.inl h);exact .inl h;exact .inr (.inr h)
def akI{lt:aC->aC->Bool}{x:aC}:∀{l:au},(eC lt x l).length=Y l+1
 |[]=>rfl
 |z::r=>by
  simp only[eC];split;simp;simp[akI (l:=r)]
def aaT{lt:aC->aC->Bool}:∀(l acc:au),(∀x,x∈l.foldl (λacc x=>eC lt x acc) acc<->x∈acc\/x∈l)/\(l.foldl (λacc x=>eC lt x acc) acc).length=Y acc+Y l
 |[],acc=>av
 |y::l,acc=>by
  obtain⟨X,R⟩:=aaT (lt:=lt) l (eC lt y acc);refine⟨λx=> ?_, ?_⟩;simp only[EZ,X,T3,dP];constructor;rintro((h|h)|h);exact .inr (.inl h);exact .inl h;exact .inr (.inr h);rintro(h|h|h);exact .inl (.inr h);exact .inl (.inl h);exact .inr h;simp only[EZ,R,akI,lH];omega
def akJ{lt:aC->aC->Bool}{l:au}{x:aC}:x∈bX lt l<->x∈l:=by
 rw[bX,(aaT l []).1];simp
def mQ{lt:aC->aC->Bool}{l:au}:(bX lt l).length=Y l:=by
 rw[bX,(aaT l []).2];simp
def akK{sp:bp}{X aA:au}(h:iZ sp b X=U aA):∀x∈aA,x∈X:=by
 cases sp with
 |dw k o Q=>simp[iZ] at h
 |_=>
  simp only[iZ] at h;split at h;cases h;intro x R;exact akJ.1 R;cases h
def akL{sp:bp}{X aA:au}(h:iZ sp b X=U aA):Y aA=Y X:=by
 cases sp with
 |dw k o R=>simp[iZ] at h
 |_=>
  simp only[iZ] at h;split at h;cases h;exact mQ;cases h
def uU{R:au}{b:Nat}{x:aC}(h:x∈bm R X b):x∈R:=CY (EW h)
def awK(X:au)(a b:Nat):(bm X a b).length=min (b-a) (Y X-a):=by simp[bm]
def T4{X:au}:∀(n:Nat)(i:Int),(rj n i X).length=Y X
 |0,_=>rfl
 |n+1,i=>by
  simp only[rj];split;rfl;simp[T4 n]
def Fv{X:au}(h:md X=J){k:Nat}(R:k<Y X):0<=aI 0 (X.getD k [])/\aI 0 (X.getD k [])<=k:=by
 have:=fO.1 h k (xI.2 R);simpa only[aw,cm] using this
def aaU{X:au}(h:md X=J){i:Int}(R:0<=i)(Q:i<Y X):0<=aI 0 (X.getD i.toNat [])/\aI 0 (X.getD i.toNat [])<=i/\aI 0 (X.getD i.toNat [])<Y X:=by
 have:=Fv h (k:=i.toNat) aa;omega
def akM{R:Type}{l:List R}(h:X<Y l)(d:R):l.getD X d∈l:=by
 rw[cz,cS h];exact ql _
def akN{R:au}(h:md R=J):∀(n:Nat)(i:Int),0<=i->i<Y R->∀x∈rj n i R,x∈R
 |0,_,_,_,x,X=>X
 |n+1,i,N,M,x,X=>by
  simp only[rj] at X;split at X;exact X;obtain⟨L,-,H⟩:=aaU h N M;have Q:=akN h n _ L H;rcases EU X with X|X;exact Q x X;refine Q x ?_;have G:(aI 0 (R.getD i.toNat [])).toNat<(rj n (aI 0 (R.getD i.toNat [])) R).length:=by rw[T4];omega
  rw[X];exact akM G _
def Pe{i:Int}{X aA:au}(h:wn i X=U aA):Y X<=1099511627776/\0<=i/\i<Y X/\md X=J/\aA=rj (Y X) i X:=by
 unfold wn at h;split at h;rename_i R;simp only[aw,cm] at R;cases h;exact⟨R.1.1.1,R.1.1.2,R.1.2,R.2,rfl⟩;cases h
def T5{i:Int}{X aA:au}(h:wn i X=U aA):∀x∈aA,x∈X:=by
 obtain⟨-,R,Q,N,rfl⟩:=Pe h;exact akN N _ _ R Q
def aaV{i:Int}{X aA:au}(h:wn i X=U aA):Y aA=Y X:=by
 obtain⟨-,-,-,-,rfl⟩:=Pe h;exact T4 _ _
def awL{o:bp}{N:bz}{Q aA:au}(h:nE X o N Q=U aA):∀x∈aA,x∈Q:=by
 unfold nE at h;split at h
 all_goals first|(split at h<;>first|(cases h;done)|skip)|skip
 all_goals first|(cases h;done)|skip
 all_goals
  cases h;intro x R;simp only[eV,akJ] at R;rcases R with R|R;exact EW R
 all_goals
  rcases R with R|R;exact uU R
  first|exact CY R|(rcases R with R|R<;>first|exact uU R|exact CY R|(rcases R with R|R<;>first|exact uU R|exact CY R))
def awM{o:bp}{Q:bz}{R aA:au}(h:nE X o Q R=U aA):Y aA=Y R:=by
 unfold nE at h;split at h
 all_goals first|(split at h<;>first|(cases h;done)|skip)|skip
 all_goals first|(cases h;done)|skip
 all_goals
  rename_i N;simp only[aw,cm] at N;cases h;simp only[gc,EY,C1,awK,mQ];omega
def BC{o:bp}{Q:bz}{R aA:au}(h:pL X o Q R=U aA):Y R<=1099511627776/\nE X o Q R=U aA:=by
 unfold pL at h;split at h;rename_i N;exact⟨N,h⟩;cases h
def awN{o:bp}{Q:bz}{R aA:au}(h:pL X o Q R=U aA):∀x∈aA,x∈R:=awL (BC h).2
def awO{o:bp}{Q:bz}{R aA:au}(h:pL X o Q R=U aA):Y aA=Y R:=awM (BC h).2
def aaW{X:bp}{R aA:au}(h:iZ X b R=U aA):Y R<=1099511627776:=by
 cases X with
 |dw k o N=>simp[iZ] at h
 |_=>
  simp only[iZ] at h;split at h;rename_i Q;simp only[aw,cm] at Q;exact Q.1;cases h
def aaX{R:bp}{Q aA:au}(h:kO x R b Q=U aA):∀X∈aA,X∈Q:=by
 cases R with
 |dw k o N=>
  cases b with
  |false=>exact awN h
  |true=>
   cases N with
   |nil=>simp[kO] at h
   |cons i l=>
    cases l with
    |nil=>exact T5 h
    |cons j l=>simp[kO] at h
 |lex M d=>exact akK (sp:=.lex M d) h
 |ratio n d=>exact akK (sp:=.ratio n d) h
def aaY{X:bp}{R aA:au}(h:kO x X b R=U aA):Y aA=Y R:=by
 cases X with
 |dw k o Q=>
  cases b with
  |false=>exact awO h
  |true=>
   cases Q with
   |nil=>simp[kO] at h
   |cons i l=>
    cases l with
    |nil=>exact aaV h
    |cons j l=>simp[kO] at h
 |lex N d=>exact akL (sp:=.lex N d) h
 |ratio n d=>exact akL (sp:=.ratio n d) h
section
variable{q:ar}{w:World}{D:cg}{P:Program}{p:bE}{V:ar}{O:ai}{s:S}{a:Act}{W:World}
def awP{G aA:au}(h:fQ W p.ty v G)(F:∀x∈aA,x∈G):fQ W p.ty v aA:=by
 have H:∀{i:Nat}{X:aC},aA[i]?=U X->∃R,G[R]?=U X:=λh=>tB (F _ (jI h))
 refine⟨λi X Q=> ?_,λi j X c k Q M L=> ?_,λi j X c Q M L=> ?_,λi j X c z k Q M L=> ?_⟩;obtain⟨R,N⟩:=H Q;exact h.len R X N;obtain⟨R,N⟩:=H Q;exact h.int R j X c k N M L;obtain⟨R,N⟩:=H Q;exact h.bool R j X c N M L;obtain⟨R,N⟩:=H Q;exact h.ae R j X c z k N M L
def awQ{R aA:au}(Q:∀x∈aA,x∈R)(h:n7 p.ty v aA X):n7 p.ty v R X:=by
 obtain⟨i,j,N,c,z,k,M,L,H,G⟩:=h;obtain⟨F,B⟩:=tB (Q _ (jI M));exact⟨F,j,N,c,z,k,B,L,H,G⟩
def akO{a:Act}{W:World}(X:az q w D p.ty t x R a W)(N:e8 p.gl x){g:FuncId}(h:eB p R l=.call (.fn g) e)
  (H:∀e W,(callFunc g e).run P W=.ok (.enter g e) W):(execOp a.eval l).run P W=.ok (.enter g (C.aE x t e).toArray) W:=by
 unfold eB at h;split at h;split at h<;>cases h;rename_i c G;split at h;rename_i f F;split at h;rename_i v u M;split at h;cases h;rename_i B;cases h;have L:=du X N f (by rw[M];rfl);rw[M,C.ab] at L;have A:c.args.map a.eval=(C.aE x t (c.args.toList.map (R.ev p.gl))).toArray:=by
  apply nq;simp only[xG,pJ,ov];exact jT λQ z=>du X N Q (by
   cases y:(R.ev p.gl Q).eO;rfl;exact aZ (kH.2 ⟨Q,z,y⟩) B)
 simp only[execOp,G,resolve,F,dA,L,Deferred.ofValue,fq,dv,invoke,A,Tv];simp only[au2,H,eW];split at h<;>cases h;cases h;cases h;split at h;split at h<;>cases h;cases h;cases h;cases h
def akP{g:HB}(h:eB p R l=.call g e)(c:Call):l.op≠ .defer c:=by
 intro X;simp[eB,X] at h
def akQ{O:ai}{V:ar}:∀{l:aq}{as:List K}{g:FuncId},Oo l=U (as,g)->C.aE O V l=(as.map (K.ab O)).map (Value.int I)++[.func (.func g) #[] #[]]
 |[],as,g,h=>by simp[Oo] at h
 |v::r,as,g,h=>by
  unfold Oo at h;split at h;rename_i M X;cases h;injection X with R Q;subst R;subst Q;simp[C.aE,C.ab];rename_i e L X;injection X with R Q;subst R;subst Q;split at h;rename_i x N;cases h;have:=akQ (O:=O) (V:=V) (as:=x.1) (g:=x.2) N;simp[C.aE,C.ab,this];cases h;cases h
def akR(R:az q w D p.ty V O s a W)(o:s.bd=J){A:oz}{n Q:Nat}{aA:au}{M:World}(N:s.rs[X]?=U (.own v))(H:O.rv X=.mk (.slice A n Q) (O.rv X).ac)(G:bJ W p.ty (.sl v) (.mk (.slice A n Q) (O.rv X).ac))
  (F:∀x∈aA,x∈(O.rv X).ac)(m:Y aA=(O.rv X).ac.length)(l:W.grownBy M (lx A Q))(j:Ft W M v (bD p.ty (.sl v)).length (lx A Q) aA A Q)(d:cM)(L:C):
  az q w D p.ty V (O.add (.r (.mk (O.rv X).val aA))) ((({s with rs:=kB [] 0 (ju [X] 0 s.rs)++[.own v]}:S).iB X (Y s.rs)).put d L) (a.put d (L.ab (O.add (.r (.mk (O.rv X).val aA))) V)) M/\
   bH s O V ((({s with rs:=kB [] 0 (ju [X] 0 s.rs)++[.own v]}:S).iB X (Y s.rs)).put d L) (O.add (.r (.mk (O.rv X).val aA))) V:=by
 obtain⟨h,an⟩:=tS G;have g:Dy p.ty V O s v aA []:=λb f=>by
  have B:=awQ F f;have z:=KV (O:=O) (e0:=.own v) rfl (by simpa[RE.rv] using B);exact⟨⟨X,_,N,z⟩,(R.mem.ah X _ _ N (uS R N)).2 b z,λk' t rv c g2 g3=>(OZ R c g2 g3 N rfl (by simpa[RE.rv] using B)).elim⟩
 obtain⟨y,-⟩:=R.bind o (old:=lx A Q) (kill:=[X]) (dq:=[]) (A:=A) (cap:=Q) (W':=M) (.inr ⟨X,v,O.rv X,rfl,N,uS R N,by rw[H,KY]⟩) av l (awP (fQ.yb G) F) g j;rw[m,h] at y;have u:(O.rv X).val=.slice A n Q:=by rw[H];rfl
 rw[u];have af:X<Y O.r:=by rw[R.er];exact(ck.1 N).1
 have ag:(O.add (.r (.mk (.slice A n Q) aA))).rv X=O.rv X:=by simp[ai.rv,ai.add,dH af]
 have al:(O.add (.r (.mk (.slice A n Q) aA))).rv (Y s.rs)=.mk (.slice A n Q) aA:=by simp[ai.rv,ai.add,<-R.er]
 have R2:=(y.iB (k:=X) (n:=Y s.rs) (by rw[ag,al,u];rfl)).put d L;refine⟨R2, ?_⟩;refine bH.put (s:=s) (s':=({s with rs:=kB [] 0 (ju [X] 0 s.rs)++[.own v]}:S).iB X (Y s.rs)) ⟨sq _ _ _ _,λi hi=> ?_, ?_,b9 _⟩ _ _;simp only[S.iB];rw[H7];exact hi;simp[S.iB,O9]
def awR(hs:K5 P p)(R:az q w D p.ty V O s a W)(hg:e8 p.gl O)(t:s.bd=J){f:FuncId}(an:eB p s l=.call (.fn f) e){u:Bk}(h:ZT p f e s l.dst=U u){aA:au}(Q:kO O u.sp u.st (u.r.rv O).ac=U aA):
  ∃e v,(execOp a.eval l).run P W=.ok (.enter u.f e) W/\Calls P u.f e W λL N=>L=.returned v/\az q w D p.ty V (O.add (.r (.mk (u.r.rv O).val aA))) u.s (a.put l.dst v) N/\bH s O V u.s (O.add (.r (.mk (u.r.rv O).val aA))) V:=by
 unfold ZT at h;split at h;rename_i r ba;split at h;rename_i H g a0;split at h;rename_i X m j G;have i:p.zp f g=U (X,m,j)/\f≠g:=by
  split at G;cases G;rename_i a1;exact⟨G,λh=>a1 (by simp[h])⟩
 have F:=hs f g X m j i.1;unfold mP at F;rw[aQ i.2] at F;obtain⟨a3,d⟩:=F;have c:(execOp a.eval l).run P W=.ok (.enter f (Pd (r.ab O) (H.map (K.ab O)) g)) W:=by
  rw[akO R hg an a3];simp only[C.aE,C.ab,akQ a0,Pd]
 split at h;rename_i af ag;split at h;rename_i k;split at h;rename_i hk;cases h;obtain⟨A,n,al,h1,h2,h3⟩:=O6 R hk;have M:(RE.v k).rv O=O.rv k:=rfl;simp only[M] at Q⊢;have bb:=Q;have a4:=aaX Q;have B:=aaY Q;refine⟨_,.tuple #[],c, ?_⟩;have z:(RE.v k).ab O=.slice A n al:=by rw[RE.ab,M,h1];rfl
 rw[z];refine(d W A n al _ aA O H af ag h2 h3 Q).mono ?_;rintro L N ⟨rfl,y,x⟩;exact⟨rfl,akR R t hk h1 h2 a4 B y x l.dst (.bM [])⟩;cases h;cases h;have M:(RE.k (.slice Z 0 0)).rv O=.mk (.slice Z 0 0) []:=rfl;simp only[M,RV.nD,RV.nC] at Q⊢;have B:=aaY Q;have h0:aA=[]:=tw (by simpa using B);subst h0;refine⟨_,.tuple #[],c, ?_⟩;have z:(RE.k (.slice Z 0 0)).ab O=.slice Z 0 0:=rfl;rw[z];refine(d W Z 0 0 [] [] O H af ag (Dx _ _) ⟨λ_=>rfl,.inl rfl⟩ Q).mono ?_;rintro L N ⟨rfl,y,x⟩;obtain⟨R1,-⟩:=R.bind t (old:=Z) (kill:=[]) (dq:=[]) (A:=Z) (cap:=0) (rows:=[]) (W':=N) (.inl ⟨rfl,rfl⟩) av y (fQ.yb (Dx (e:=X) Z 0)) (λb a9=>(OY a9).elim) x;refine⟨rfl,R1.put l.dst (.bM []), ?_⟩;exact bH.put (s:=s) (s':={s with rs:=kB [] 0 (ju [] 0 s.rs)++[.own X]}) ⟨sq _ _ _ _,λ_ h=>h,b9 _,b9 _⟩ _ _;cases h;cases h;cases h;cases h;cases h
def akS(hs:K5 P p)(R:az q w D p.ty V O s a W)(hg:e8 p.gl O)(hb:s.bd=J){f:FuncId}(a1:eB p s l=.call (.fn f) e){u:Bk}(h:HF p f e s l.dst=U u){aA:au}(L:kO O u.sp u.st (u.r.rv O).ac=U aA):
  ∃e v,(execOp a.eval l).run P W=.ok (.enter u.f e) W/\Calls P u.f e W λm j=>m=.returned v/\az q w D p.ty V (O.add (.r (.mk (u.r.rv O).val aA))) u.s (a.put l.dst v) j/\bH s O V u.s (O.add (.r (.mk (u.r.rv O).val aA))) V:=by
 unfold HF at h;split at h;rename_i i N M;split at h;rename_i X o' pA a3;have B:=hs f f X _ J a3;unfold mP at B;rw[aJ rfl] at B;obtain⟨a4,a9⟩:=B;split at h;rename_i H k G f' b1 b2 g z;split at h;rename_i d;simp only[aw,dE,ik,cm] at d;obtain⟨⟨⟨⟨⟨⟨hi,e1⟩,e2⟩,e3⟩,ba⟩,bb⟩,F⟩:=d;rw[e1,e2,e3] at z;cases h;obtain⟨A,n,Q,y,x,h3⟩:=O6 R F;have bc:(RE.v k).rv O=O.rv k:=rfl;simp only[bc] at L⊢;have bf:=aaX L;have bg:=aaY L;have af:wn (i.ab O) (O.rv k).ac=U aA:=L;obtain⟨-,b3,b4,-,-⟩:=Pe af;obtain⟨hn,b5⟩:=tS x;have t:Q≠0:=aa;rcases h3.mem with h0|⟨b,da,hA,b6,-⟩;exact(t h0).elim;subst hA;have bk:(O.rv k).lu=U b:=by
  rw[y,KY];cases Q with
  |zero=>exact(t rfl).elim
  |succ c=>rfl
 have hT:=R.gj k X _ b F (uS R F) bk;have ag:=R.mem.box N H _ g;have al:=R.mem.box M G _ z;have bl:me H (C.dO O V [.ah (.v k)])=.cells #[.slice (U ⟨b,0,Z⟩) n Q] H (0,0):=by
  rw[tQ ba];simp only[C.aE,C.ab,RE.ab,RE.rv];rw[y];rfl
 have br:me G (C.dO O V [.fn f [.loc N 0,.loc M 0]])=.cells #[.func (.func f) #[] #[.pointer (U ⟨ad V N,0,Z⟩),.pointer (U ⟨ad V M,0,Z⟩)]] G (0,0):=by
  rw[tQ bb];simp[C.ab,C.aE]
 rw[bl] at ag;rw[br] at al;have bs:(execOp a.eval l).run P W=.ok (.enter f #[.int I (i.ab O),.pointer (U ⟨ad V N,0,Z⟩),.pointer (U ⟨ad V M,0,Z⟩)]) W:=by
  rw[akO R hg a1 a4];simp only[C.aE,C.ab]
 refine⟨_,.int I (aI 0 (aA.getD (i.ab O).toNat [])),bs, ?_⟩;have bt:lx (U ⟨b,0,Z⟩) Q=U b:=by
  cases Q with
  |zero=>exact(t rfl).elim
  |succ c=>rfl
 refine(a9 W b n Q _ aA (i.ab O) _ _ H G ag al (hT.box N (by simp only[aK,g];rfl)) (hT.box M (by simp only[aK,z];rfl)) x h3 af).mono ?_;rintro m j ⟨rfl,an,a0⟩;rw[<-bt] at an a0;have:=akR R hb F y x bf bg an a0 l.dst (.int I (.cell (.v (Y s.rs)) i 0));have bx:(O.add (.r (.mk (O.rv k).val aA))).rv (Y s.rs)=.mk (O.rv k).val aA:=by simp[ai.rv,ai.add,<-R.er]
 have b0:i.ab (O.add (.r (.mk (O.rv k).val aA)))=i.ab O:=K.ep (sq s.ap O _ V).agree i (by rw[R.ei,R.eb,R.er];exact hi);have hd:C.ab (O.add (.r (.mk (O.rv k).val aA))) V (.int I (.cell (.v (Y s.rs)) i 0))=.int I (aI 0 (aA.getD (i.ab O).toNat [])):=by
  simp only[C.ab,K.ab,RE.rv,bx,b0];rfl
 rw[hd] at this;exact⟨rfl,this⟩;cases h;cases h;cases h;cases h
def awS(H:K5 P p)(R:az q w D p.ty V O s a W)(G:e8 p.gl O){m:OM}{u:Bk}(h:Dc p m s=U u){aA:au}(F:kO O u.sp u.st (u.r.rv O).ac=U aA):
  ∃X v,(execOp a.eval m.o).run P W=.ok (.enter u.f X) W/\(∀c,m.o.op≠ .defer c)/\Calls P u.f X W λA z=>A=.returned v/\az q w D p.ty V (O.add (.r (.mk (u.r.rv O).val aA))) u.s (a.put m.o.dst v) z/\bH s O V u.s (O.add (.r (.mk (u.r.rv O).val aA))) V:=by
 unfold Dc at h;split at h;cases h;rename_i Q;simp only[jy,ik,not_or,G8] at Q;split at h;rename_i f X N;have B:=λc=>akP N c
 split at h;rename_i t y;cases h;obtain⟨x,v,M,L⟩:=awR H R G Q.2 N y F;exact⟨x,v,M,B,L⟩;obtain⟨x,v,M,L⟩:=akS H R G Q.2 N h F;exact⟨x,v,M,B,L⟩;cases h
def awT(N:K5 P p)(R:az q w D p.ty V O s a W)(M:e8 p.gl O){u:Bk}(h:HG p l s=U u){aA:au}(L:kO O u.sp u.st (u.r.rv O).ac=U aA):
  ∃X v,(execOp a.eval l).run P W=.ok (.enter u.f X) W/\(∀c,l.op≠ .defer c)/\Calls P u.f X W λH G=>H=.returned v/\az q w D p.ty V (O.add (.r (.mk (u.r.rv O).val aA))) u.s (a.put l.dst v) G/\bH s O V u.s (O.add (.r (.mk (u.r.rv O).val aA))) V:=by
 unfold HG at h;split at h;cases h;rename_i F;split at h;rename_i f X Q;obtain⟨x,v,B,A⟩:=akS N R M (by simpa using F) Q h L;exact⟨x,v,B,λc=>akP Q c,A⟩;cases h
end
structure rp(F:Fence):Prop where
 fn:∀f,F.fn f
 yc:F.depth=Z
 eq:∀P,Machine.fenced P F=Machine.fenced P Fence.wide
def awU:rp Fence.wide:=⟨λ_=>trivial,rfl,λ_=>rfl⟩
def akT(l:Nat):rp (Fence.wide.inRound l):=⟨λ_=>trivial,rfl,λ_=>rfl⟩
def rp.calls{F:Fence}(W:rp F){P:Program}{f:FuncId}{V:mI}{w:World}{R:Ending->World->Prop}(h:Calls P f V w R):CallsIn F X P f V w R:=by
 have Q:=(callsIn_wide (n:=X)).2 h;refine⟨W.fn f,λO _=> ?_⟩;obtain⟨e,N,M,r,c,x⟩:=Q.2 O (room_wide _);exact⟨e,N,M,r,by rw[W.eq];exact c,x⟩
def aaZ{p:Sp}{L:dC}{V:Fx}{b:BE}{t f:Fx->T}(X:uT x V)(h:(Db R V b t f).aP p x L):
  ∃Q,uT x Q/\(if b.ab x then(t Q).aP p x L else(f Q).aP p x L):=by
 unfold Db at h;split at h;rename_i P;exact⟨V,X,by rw[TZ X P];exact h⟩;rename_i P;exact⟨V,X,by rw[TZ X P];exact h⟩;split at h;simp only[T.aP] at h;cases W:b.ab x;exact⟨_,akn X W,by simpa[W] using h.2 W⟩;exact⟨_,akn X W,by simpa[W] using h.1 W⟩;exact h.elim
def dm(n:Nat)(L X:dC):Prop:=∀l,l<n->oD l X=oD l L
def dm.refl(n:Nat)(L:dC):dm n L L:=λ_ _=>rfl
def dm.trans{n m:Nat}{L X W:dC}(h:dm n L X)(k:dm m X W)(R:n<=m):dm n L W:=λl V=>(k l aa).trans (h l V)
def awV(p:Sp)(O:ai):HB->mI->World->(Ending->World->Prop)->Prop
 |.fn g,X,W,V=>(∀X W,(callFunc g X).run p.P W=.ok (.enter g X) W)/\Calls p.P g X W V
 |.yl n,X,W,V=>∀(F:Fence)(_:rp F)(m:Nat),YieldAt F m p.P (O.y.getD n 0) X W V
structure jX where
 s:S
 O:ai
 V:ar
 L:dC
structure jX.mi(B:jX)(s:S)(O:ai)(V:ar)(L:dC):Prop where
 later:bH B.s B.O B.V s O V
 H9:dm B.s.ax B.L L
def jX.mi.go{B:jX}{X:S}{W:ai}{Q:ar}{L P:dC}(h:B.mi R x t L)(N:bH R x t X W Q)(M:dm R.ax L P):B.mi X W Q P:=⟨h.later.trans N,h.H9.trans M h.later.ax⟩
def T6(p:Sp)(z:bE)(D:cg)(B:jX)(A:qp):Prop:=
 ∀(L:dC)(g:HB)(G:aq)(s:S)(k x:C->S->T)(O:ai)(V:ar)(a:Act)(W:World)(H:Ending->World->Prop),B.mi s O V L->
  (A g G s k x).aP p O L->az p.S0 p.w0 D z.ty V O s a W->e8 z.gl O->
  (∀v P X N Q M,bH s O V P X N->dm s.ax L M->az p.S0 p.w0 D z.ty N X P a Q->(k v P).aP p X M->H (.returned (v.ab X N)) Q)->
  (∀v P X N Q M,bH s O V P X N->dm s.ax L M->az p.S0 p.w0 D z.ty N X P a Q->(x v P).aP p X M->H (.panicked [{v:=v.ab X N,recovered:=E}]) Q)->
  (∀w Q u y,eF p.w0 D u y a.defers Q->p.R (.panicked w) Q->H (.panicked w) Q)->
  awV p O g (C.aE O V G).toArray W H
section
variable{p:Sp}{z:bE}{A:qp}{F:Fence}{D:cg}{ops:dN}
def akU{a:Act}{W:World}(Q:az p.S0 p.w0 D z.ty t x R a W){d:Nat}(N:(ops[X]?).bind (·.dst)=U d):
  (∀b,R.tmps[d]?=U (.bool b)->yielded ops a.tmps X=U (b.ab x))/\(R.tmps[d]?=U (.bM [])->yielded ops a.tmps X=Z):=by
 constructor;intro b P;rcases Q.tmps d _ P with h|h;cases h;simp[yielded,N,h,C.ab];intro P;rcases Q.tmps d _ P with h|h;cases h;simp[yielded,N,h,C.ab]
def T7{a:Act}{W:World}(X:az p.S0 p.w0 D z.ty t x R a W)(N:e8 z.gl x){g:FuncId}(h:eB z R l=.call (.fn g) e)
  (H:∀e W,(callFunc g e).run p.P W=.ok (.enter g e) W):(execOp a.eval l).run p.P W=.ok (.enter g (C.aE x t e).toArray) W:=by
 unfold eB at h;split at h;split at h<;>cases h;rename_i c G;split at h;rename_i f B;split at h;rename_i u r M;split at h;cases h;rename_i A;cases h;have L:=du X N f (by rw[M];rfl);rw[M,C.ab] at L;have y:c.args.map a.eval=(C.aE x t (c.args.toList.map (R.ev z.gl))).toArray:=by
  apply nq;simp only[xG,pJ,ov];exact jT λQ w=>du X N Q (by
   cases v:(R.ev z.gl Q).eO;rfl;exact aZ (kH.2 ⟨Q,w,v⟩) A)
 simp only[execOp,G,resolve,B,dA,L,Deferred.ofValue,fq,dv,invoke,y,Tv];simp only[au2,H,eW];split at h<;>cases h;cases h;cases h;split at h;split at h<;>cases h;cases h;cases h;cases h
def aa0{a:Act}{W:World}(Q:az p.S0 p.w0 D z.ty t x R a W)(M:e8 z.gl x)(h:eB z R l=.call (.yl X) e):
  (execOp a.eval l).run p.P W=(Instr.yield (x.y.getD X 0) (C.aE x t e).toArray).run p.P W:=by
 unfold eB at h;split at h;split at h<;>cases h;rename_i c G;split at h;rename_i f B;split at h;split at h<;>cases h;rename_i r L;split at h;cases h;rename_i A;cases h;have H:=du Q M f (by rw[L];rfl);rw[L,C.ab] at H;have w:c.args.map a.eval=(C.aE x t (c.args.toList.map (R.ev z.gl))).toArray:=by
  apply nq;simp only[xG,pJ,ov];exact jT λN v=>du Q M N (by
   cases u:(R.ev z.gl N).eO;rfl;exact aZ (kH.2 ⟨N,v,u⟩) A)
 simp[execOp,G,resolve,B,H,Deferred.ofValue,invoke,w];cases h;cases h;split at h;split at h<;>cases h;cases h;cases h;cases h
def aa1{s:S}{O:ai}{V:ar}{L:dC}{e:K}{A:FuncId->aq->T}:∀{Q:bz}{P:aq},(Fa e A Q P).aP p O L->∃g N,kN (e.ab O) Q (C.aE O V P)=.func (.func g) #[] (C.aE O V N).toArray/\(A g N).aP p O L
 |[],P,h=>by simp only[Fa] at h;exact h.elim
 |k::Q,[],h=>by simp only[Fa] at h;exact h.elim
 |k::Q,v::P,h=>by
  unfold Fa at h;split at h;rename_i z y g N x W R;simp only[xH] at W R;obtain⟨rfl,rfl⟩:=W;obtain⟨rfl,rfl⟩:=R;simp only[T.aP,BE.ab,fy,K.ab] at h;by_cases X:e.ab O=k;exact⟨g,N,by simp[C.aE,C.ab,kN,X,jr],h.1 (by simp[X])⟩;obtain⟨M,H,G,B⟩:=aa1 (s:=s) (V:=V) (h.2 (by simp[X]));exact⟨M,H,by simp only[C.aE,kN,X,gf];exact G,B⟩;rename_i z y x W R;simp only[xH] at W R;obtain⟨rfl,rfl⟩:=W;obtain⟨rfl,rfl⟩:=R;simp only[T.aP,BE.ab,fy,K.ab] at h;by_cases X:e.ab O=k;exact(h.1 (by simp[X])).elim;obtain⟨M,H,G,B⟩:=aa1 (s:=s) (V:=V) (h.2 (by simp[X]));exact⟨M,H,by simp only[C.aE,kN,X,gf];exact G,B⟩;exact h.elim
def awW{s:S}{a:Act}{W:World}{O:ai}{V:ar}(R:az p.S0 p.w0 D z.ty V O s a W)(Q:e8 z.gl O){m:OM}{e:K}{N:bz}{M X L:aq}{g:FuncId}(h:Bj z m s=U (e,N,M,X))
  (w:kN (e.ab O) N (C.aE O V M)=.func (.func g) #[] (C.aE O V L).toArray)(v:∀X W,(callFunc g X).run p.P W=.ok (.enter g X) W):
  (execOp a.eval m.o).run p.P W=.ok (.enter g (C.aE O V (X++L)).toArray) W/\∀c,m.o.op≠ .defer c:=by
 unfold Bj at h;split at h;cases h;split at h;rename_i c H;split at h;rename_i f u;split at h;rename_i n l k G;split at h;cases h;rename_i B;simp only[jy,not_or] at B;cases h;have A:=du R Q f (by rw[G];rfl);rw[G,C.ab,w] at A;have t:c.args.map a.eval=(C.aE O V (c.args.toList.map (s.ev z.gl))).toArray:=by
  apply nq;simp only[xG,pJ,ov];exact jT λx r=>du R Q x (by
   cases q:(s.ev z.gl x).eO;rfl;exact aZ (kH.2 ⟨x,r,q⟩) B.1)
 refine⟨?_,λj y=>by rw[H] at y;cases y⟩;simp only[execOp,H,resolve,u,dA,A,Deferred.ofValue,fq,dv,invoke,t,Tv];simp only[au2,v,eW];cases h;cases h;cases h
def akV{a:Act}{W:World}(X:az p.S0 p.w0 D z.ty t x R a W)(G:e8 z.gl x)(h:eB z R l=.bI r):
  (execOp a.eval l).run p.P W=.halt (.panic (r.ab x t)) W:=by
 unfold eB at h;split at h;rename_i Q H;split at h;rename_i N y L;cases h;have M:=du X G Q (by rw[L];rfl);rw[L] at M;simp[execOp,H,M,C.ab,Instr.panic];cases h;rename_i c H;split at h;split at h;split at h<;>cases h;split at h<;>cases h;cases h;cases h;rename_i A;split at h;rename_i Q L;split at h;rename_i N y B;cases h;have M:=du X G Q (by rw[B];rfl);rw[B] at M;have:c.args.map a.eval= #[a.eval Q]:=by apply nq;simp[L]
 simp[execOp,H,resolve,A,invoke,builtin,this,M,C.ab,Instr.panic];cases h;cases h;cases h;cases h
def zK{a:Act}{W R:World}{v:Value}{V:Act->World->Prop}{Q:Exit->Act->World->Prop}(N:rp F)(h:ss p.P l a W v R)(M:∀c,l.op≠ .defer c)(O:V (a.put l.dst v) R):l.wpIn F X p.P a W V Q:=by
 refine⟨λf _=>N.fn f, ?_⟩;rw[zk _ _ _ M];rcases h with h|⟨h,rfl⟩;rw[h];exact O;rw[h];exact O
def aa2{W:Bool}{X:BI}(h:eZ z l b W R=U X):∀c,l.op≠ .defer c:=by
 intro c A;simp[eZ,A] at h
def awX{m:OM}{s:S}{X:S->Fx->T}{W:Fx}{t:T}(h:Bi z m s X W=U t):∀c,m.o.op≠ .defer c:=by
 intro c A;simp[Bi,A] at h
def Pf{m:OM}{s X:S}{O:ai}(h:(gG z m s).gives O X):∀c,m.o.op≠ .defer c:=by
 intro c A;unfold gG at h;split at h;exact h.elim;rw[A] at h;simp[cE,tG,OR.gives] at h
def BD(bd:p.ty=z.ty)(bf:K5 p.P z)(hF:rp F)(a3:jg p.P z.ty){B:jX}(hH:T6 p z D B A){n:Nat}{k:S->T}{kp:C->S->T}{Q:Exit->Act->World->Prop}(HP:∀ch a' N pd y,eF p.w0 D pd y a'.defers N->p.R (.panicked ch) N->Q (.panic ch) a' N):
  ∀(l:cX)(j:Nat)(s:S)(fx:Fx)(L:dC)(O:ai)(V:ar)(a:Act)(W:World),
   (∀i m,l[i]?=U m->ops[j+i]?=U m.o)->B.mi s O V L->
   (oA z A ops k kp l s fx).aP p O L->uT O fx->az p.S0 p.w0 D z.ty V O s a W->e8 z.gl O->
   (∀H O' V' a' N L',bH s O V H O' V'->dm s.ax L L'->az p.S0 p.w0 D z.ty V' O' H a' N->(k H).aP p O' L'->Q .normal a' N)->
   (∀v H O' V' a' N L',bH s O V H O' V'->dm s.ax L L'->az p.S0 p.w0 D z.ty V' O' H a' N->(kp v H).aP p O' L'->Q (.panic [{v:=v.ab O' V',recovered:=E}]) a' N)->
   wpOpsIn F n p.P ops Q (xJ j (Y l)) a W
 |[],j,s,fx,L,O,V,a,W,_,_,h,_,R,_,hk,_=>hk s O V a W L (bH.refl _ _ _) (dm.refl _ _) R h
 |m::an,j,s,fx,L,O,V,a,W,ca,hB,h,b2,R,hg,hk,a4=>by
  have ho:ops[j]?=U m.o:=by simpa using ca 0 m rfl
  have bk:∀i m',an[i]?=U m'->ops[j+1+i]?=U m'.o:=λi m' hi=>by
   have:=ca (i+1) m' (by simpa using hi)
   rwa [show j+(i+1)=j+1+i from aa] at this
  simp only[lH,Zr,wpOpsIn,ho];have b5:∀a0,uT O a0->
    (Bl z A m s (oA z A ops k kp an) kp a0).aP p O L->
    m.o.wpIn F n p.P a W (wpOpsIn F n p.P ops Q (xJ (j+1) (Y an))) Q:=by
   intro a0 a9 h;unfold Bl at h;have cc:∀g a1,(A (.fn g) a1 s (λv H=>oA z A ops k kp an (H.put m.o.dst v) (pF s a0)) kp).aP p O L->((∀a1 W,(callFunc g a1).run p.P W=.ok (.enter g a1) W)->(execOp a.eval m.o).run p.P W=.ok (.enter g (C.aE O V a1).toArray) W)->(∀c,m.o.op≠ .defer c)->
     m.o.wpIn F n p.P a W (wpOpsIn F n p.P ops Q (xJ (j+1) (Y an))) Q:=by
    intro g a1 h b6 bl;have hC:=hH L (.fn g) a1 s _ _ O V a W (λe N=>match e with
      |.returned v=>wpOpsIn F n p.P ops Q (xJ (j+1) (Y an)) (a.put m.o.dst v) N
      |.panicked ch=>Q (.panic ch) a N
      |.outgrown=>LetsOut Q) hB h R hg
     (λv H O' V' N L' X hL R' hs=>BD bd bf hF a3 hH HP an (j+1) (H.put m.o.dst v) (pF s a0) L' O' V' _ N bk (hB.go (X.put _ _) hL) hs
      (H8 R X.ext.agree a9) (R'.put m.o.dst v) (hg.ext X.ext)
      (λM G x a2 w r af ag R2 al=>hk M G x a2 w r ((X.put _ _).trans af) (hL.trans ag (X.put _ _).ax) R2 al)
      (λv2 M G x a2 w r af ag R2 al=>a4 v2 M G x a2 w r ((X.put _ _).trans af) (hL.trans ag (X.put _ _).ax) R2 al))
     (λv H O' V' N L' X hL R' hs=>a4 v H O' V' a N L' X hL R' hs)
     (λch N pd y hA hR=>HP ch a N pd y hA hR)
    obtain⟨bx,b7⟩:=hC;refine⟨λf _=>hF.fn f, ?_⟩;rw[zk _ _ _ bl,b6 bx];rw[SM];refine⟨λhd=>by rw[hF.yc] at hd;simp at hd,CallsIn.mono (hF.calls b7) (λe N he=> ?_)⟩;cases e<;>exact he
   split at h;rename_i e ks vs a1 cl;obtain⟨g,cp,q1,q2⟩:=aa1 (s:=s) (V:=V) h;refine cc g (a1++cp) q2 (λbx=>(awW R hg cl q1 bx).1) ?_;intro c br;simp[Bj,br] at cl;split at h;rename_i u hu;obtain⟨aA,hr,h⟩:=h;obtain⟨a1,tv,b6,bl,b7⟩:=awS bf R hg hu hr;refine⟨λf _=>hF.fn f, ?_⟩;rw[zk _ _ _ bl,b6];rw[SM];refine⟨λhd=>by rw[hF.yc] at hd;simp at hd,CallsIn.mono (hF.calls b7) (λe N he=> ?_)⟩;obtain⟨rfl,R',X⟩:=he;exact BD bd bf hF a3 hH HP an (j+1) u.s (pF s a0) L _ V _ N bk (hB.go X (dm.refl _ _)) h (H8 R X.ext.agree a9) R' (hg.ext X.ext)
    (λM G x a2 w r af ag R2 al=>hk M G x a2 w r (X.trans af) ((dm.refl _ _).trans ag X.ax) R2 al)
    (λv2 M G x a2 w r af ag R2 al=>a4 v2 M G x a2 w r (X.trans af) ((dm.refl _ _).trans ag X.ax) R2 al)
   split at h;rename_i g a1 b0;exact cc g a1 h (λbx=>T7 R hg b0 bx) (λc br=>by simp[eB,br] at b0);rename_i yn a1 b0;split at h;have hC:=hH L (.yl yn) a1 s _ _ O V a W (λe N=>match e with
    |.returned v=>wpOpsIn F n p.P ops Q (xJ (j+1) (Y an)) (a.put m.o.dst v) N
    |.panicked ch=>Q (.panic ch) a N
    |.outgrown=>LetsOut Q) hB h R hg
    (λv H O' V' N L' X hL R' hs=>BD bd bf hF a3 hH HP an (j+1) (H.put m.o.dst v) (pF s a0) L' O' V' _ N bk (hB.go (X.put _ _) hL) hs
     (H8 R X.ext.agree a9) (R'.put m.o.dst v) (hg.ext X.ext)
     (λM G x a2 w r af ag R2 al=>hk M G x a2 w r ((X.put _ _).trans af) (hL.trans ag (X.put _ _).ax) R2 al)
     (λv2 M G x a2 w r af ag R2 al=>a4 v2 M G x a2 w r ((X.put _ _).trans af) (hL.trans ag (X.put _ _).ax) R2 al))
    (λv H O' V' N L' X hL R' hs=>a4 v H O' V' a N L' X hL R' hs)
    (λch N pd y hA hR=>HP ch a N pd y hA hR)
   obtain⟨fn,cy,assign,body,hy,cs⟩:=hC F hF (n-1);refine⟨λf _=>hF.fn f, ?_⟩;have bl:∀c,m.o.op≠ .defer c:=λc br=>by simp[eB,br] at b0
   rw[zk _ _ _ bl,aa0 R hg b0,hy];rw[au6];refine⟨λhd=>by rw[hF.yc] at hd;simp at hd,RoundIn.mono cs (λe N he=> ?_)⟩;cases e<;>exact he;exact h.elim;rename_i v cn;refine⟨λf _=>hF.fn f, ?_⟩;have bl:∀c,m.o.op≠ .defer c:=λc br=>by simp[eB,br] at cn
   rw[zk _ _ _ bl,akV R hg cn];exact a4 v s O V a W L (bH.refl _ _ _) (dm.refl _ _) R h;exact h.elim;have b3:∀H b4,uT O b4->(gG z m s).gives O H->(oA z A ops k kp an H b4).aP p O L->m.o.wpIn F n p.P a W (wpOpsIn F n p.P ops Q (xJ (j+1) (Y an))) Q:=by
    intro H b4 ct co hs;obtain⟨v,N,V',b1,R',X⟩:=O5 R a3 hg m co;exact zK hF b1 (Pf co) (BD bd bf hF a3 hH HP an (j+1) H b4 L O V' _ N bk (hB.go X (dm.refl _ _)) hs ct R' hg
     (λM G x a2 w r af ag R2 al=>hk M G x a2 w r (X.trans af) ((dm.refl _ _).trans ag X.ax) R2 al)
     (λv2 M G x a2 w r af ag R2 al=>a4 v2 M G x a2 w r (X.trans af) ((dm.refl _ _).trans ag X.ax) R2 al))
   split at h;rename_i t ht;obtain⟨v,N,O',V',H,ba,b1,R',X,bb,h2⟩:=awJ R a3 hg a9 ht h;exact zK hF b1 (awX ht) (BD bd bf hF a3 hH HP an (j+1) H ba L O' V' _ N bk (hB.go X (dm.refl _ _)) h2 bb R' (hg.ext X.ext)
    (λM G x a2 w r af ag R2 al=>hk M G x a2 w r (X.trans af) ((dm.refl _ _).trans ag X.ax) R2 al)
    (λv2 M G x a2 w r af ag R2 al=>a4 v2 M G x a2 w r (X.trans af) ((dm.refl _ _).trans ag X.ax) R2 al))
   split at h;rename_i b hb;obtain⟨hn,h⟩:=h;obtain⟨v,N,rv,b1,cv,R',X⟩:=aaK R a3 hg hb hn;exact zK hF b1 (aa2 hb) (BD bd bf hF a3 hH HP an (j+1) b.s (pF s a0) L _ V _ N bk (hB.go X (dm.refl _ _)) (h rv (by rw[bd];exact cv)) (H8 R X.ext.agree a9) R' (hg.ext X.ext)
    (λM G x a2 w r af ag R2 al=>hk M G x a2 w r (X.trans af) ((dm.refl _ _).trans ag X.ax) R2 al)
    (λv2 M G x a2 w r af ag R2 al=>a4 v2 M G x a2 w r (X.trans af) ((dm.refl _ _).trans ag X.ax) R2 al))
   split at h;rename_i H bs;exact b3 H a0 a9 (by rw[bs];rfl) h;rename_i b H bs;exact b3 H a0 a9 (by rw[bs];exact⟨h.1,rfl⟩) h.2;rename_i b s1 M bs;obtain⟨ba,bb,h2⟩:=aaZ a9 h;cases hb:b.ab O;exact b3 M ba bb (by rw[bs];simp[OR.gives,hb]) (by simpa[hb] using h2);exact b3 s1 ba bb (by rw[bs];simp[OR.gives,hb]) (by simpa[hb] using h2);exact h.elim
  have b8:∀a0,uT O a0->(oA z A ops k kp an (s.put m.o.dst (.bM [])) a0).aP p O L->wpOpsIn F n p.P ops Q (xJ (j+1) (Y an)) (a.put m.o.dst undef) W:=
   λa0 a9 h=>BD bd bf hF a3 hH HP an (j+1) _ a0 L O V _ W bk (hB.go ((bH.refl _ _ _).put _ _) (dm.refl _ _)) h a9 (R.put m.o.dst (.bM [])) hg
    (λM G x a2 w r af ag R2 al=>hk M G x a2 w r (((bH.refl _ _ _).put _ _).trans af) ((dm.refl _ _).trans ag ((bH.refl s O V).put _ _).ax) R2 al)
    (λv2 M G x a2 w r af ag R2 al=>a4 v2 M G x a2 w r (((bH.refl _ _ _).put _ _).trans af) ((dm.refl _ _).trans ag ((bH.refl s O V).put _ _).ax) R2 al)
  simp only[oA,Tf] at h;cases bg:m.o.guard with
  |none=>
   rw[bg] at h;have:l9 m.o (yielded ops a.tmps)=true:=by simp[l9,bg]
   rw[aJ this];exact b5 fx b2 h
  |some q=>
   obtain⟨jj,cx⟩:=q;rw[bg] at h;simp only at h;split at h;rename_i d hd;have hy:=akU R hd;split at h;rename_i b hb;have bt:=hy.1 b hb;cases cx;simp only[jp,gf] at h;obtain⟨ba,bb,h2⟩:=aaZ b2 h;cases bc:b.ab O;have:l9 m.o (yielded ops a.tmps)=true:=by simp[l9,bg,bt,bc]
   rw[aJ this];exact b5 ba bb (by simpa[bc] using h2);have:¬l9 m.o (yielded ops a.tmps)=true:=by simp[l9,bg,bt,bc]
   rw[aQ this];exact⟨λf _=>hF.fn f,b8 ba bb (by simpa[bc] using h2)⟩;simp only[cN] at h;obtain⟨ba,bb,h2⟩:=aaZ b2 h;cases bc:b.ab O;have:¬l9 m.o (yielded ops a.tmps)=true:=by simp[l9,bg,bt,bc]
   rw[aQ this];exact⟨λf _=>hF.fn f,b8 ba bb (by simpa[bc] using h2)⟩;have:l9 m.o (yielded ops a.tmps)=true:=by simp[l9,bg,bt,bc]
   rw[aJ this];exact b5 ba bb (by simpa[bc] using h2);rename_i hb;have bt:=hy.2 hb;have:¬l9 m.o (yielded ops a.tmps)=true:=by simp[l9,bg,bt]
   rw[aQ this];exact⟨λf _=>hF.fn f,b8 fx b2 h⟩;exact h.elim;exact h.elim
end
section
variable{d:ar}{m:World}{D:cg}{o:Ty}{V:ar}{O:ai}{s:S}{a:Act}{W:World}
def T8(X:ar):∀(l:bG)(n i:Nat),(sa X n l)[i]?=(l[i]?).map λx=>if X.contains (n+i) then x else Z
 |[],n,i=>by simp[sa]
 |x::R,n,0=>by simp[sa]
 |x::R,n,i+1=>by
  simp only[sa,tA];rw[T8 X R (n+1) i,show n+1+i=n+(i+1) from aa]
def aa3:∀(l:bG)(i:Nat),cw (wj l) i=cw l i
 |[],i=>rfl
 |x::R,i=>by
  have X:=aa3 R;simp only[wj];split;rename_i Q;cases i with
  |zero=>simp[cV]
  |succ i=>
   have:=X i;rw[Q] at this;simpa[cV] using this
  cases i with
  |zero=>simp[cV]
  |succ i=>simpa[cV] using X i
def akW{l:bG}{b:TypeId×aq}(h:cw (wj (sa t 0 l)) X=U b):cw l X=U b:=by
 rw[aa3,kj,T8] at h;rw[kj];cases R:l[X]? with
 |none=>rw[R] at h;cases h
 |some x=>
  rw[R] at h;simp only[eh,cU] at h;split at h;rw[h];cases h
def T9{l:bG}(h:aK (wj (sa t 0 l)) X=J):aK l X=true:=by
 obtain⟨b,R⟩:=ln.1 h;simp[aK,akW R]
def jW.aab{P:bG}{N:bv}(R:jW d m V O P o N W)(L:ar):jW d m V O (wj (sa L 0 P)) o N W:=
 ⟨R.base,λi h=>R.own i (T9 h),λi j X Q=>R.inj i j (T9 X) (T9 Q),λi t H h=>R.box i t H (akW h),
  λk e M X Q=>⟨(R.ah k e M X Q).1,λb G i F=>(R.ah k e M X Q).2 b G i (T9 F)⟩⟩
def akX{l:bG}{i:Nat}{b:TypeId×aq}(h:cw (wj (l.take X)) i=U b):cw l i=U b:=by
 rw[aa3,kj,nj] at h;rw[kj];split at h;exact h;cases h
def Ua{l:bG}{i:Nat}(h:aK (wj (l.take X)) i=J):aK l i=true:=by
 obtain⟨b,R⟩:=ln.1 h;simp[aK,akX R]
def jW.take{P:bG}{N:bv}(R:jW d m V O P o N W)(n:Nat):jW d m V O (wj (P.take n)) o N W:=
 ⟨R.base,λi h=>R.own i (Ua h),λi j X Q=>R.inj i j (Ua X) (Ua Q),λi t L h=>R.box i t L (akX h),
  λk e M X Q=>⟨(R.ah k e M X Q).1,λb H i G=>(R.ah k e M X Q).2 b H i (Ua G)⟩⟩
def ye:∀(X:aS)(s:S),(s.cP X).2.ap=s.ap/\(s.cP X).2.tmps=s.tmps/\(s.cP X).2.ax=s.ax/\(s.cP X).2.lk=s.lk
 |[],s=>⟨rfl,rfl,rfl,rfl⟩
 |k::X,s=>by
  simp only[S.cP];obtain⟨R,Q,P,N⟩:=ye X (s.fresh k).2;cases k<;>exact⟨R,Q,P,N⟩
def aa4:∀(X:aS)(s:S),(s.cP X).2.pd=s.pd
 |[],s=>rfl
 |k::X,s=>by
  simp only[S.cP];rw[aa4 X (s.fresh k).2];cases k<;>rfl
def K6:∀(X:bq)(O:ai),(O.ext X).y=O.y
 |[],O=>rfl
 |x::X,O=>by
  simp only[ai.ext];rw[K6 X (O.add x)];cases x<;>rfl
def akY:∀(X:aS)(s:S)(k:Nat)(e:RK),s.rs[k]?=U e->(s.cP X).2.rs[k]?=U e
 |[],s,k,e,h=>h
 |q::X,s,k,e,h=>by
  simp only[S.cP];refine akY X _ k e ?_;cases q;exact h;exact h;simp only[S.fresh];rw[dH (ck.1 h).1];exact h
def zL:∀(X:aS)(R:bq)(s:S)(O:ai),eP X R->Y O.i=s.ni->Y O.b=s.nb->Y O.r=Y s.rs->
  (O.ext R).i.length=(s.cP X).2.ni/\(O.ext R).b.length=(s.cP X).2.nb/\(O.ext R).r.length=(s.cP X).2.rs.length
 |[],[],s,O,_,Q,P,N=>⟨Q,P,N⟩
 |[],_::_,_,_,h,_,_,_=>by simp[eP] at h
 |_::_,[],_,_,h,_,_,_=>by simp[eP] at h
 |k::X,x::R,s,O,h,Q,P,N=>by
  obtain⟨L,M⟩:=h;simp only[S.cP,ai.ext];cases k<;>cases x<;>simp[sf] at L;exact zL X R _ _ M (by simp[S.fresh,ai.add,Q]) (by simp[S.fresh,ai.add,P]) (by simp[S.fresh,ai.add,N]);exact zL X R _ _ M (by simp[S.fresh,ai.add,Q]) (by simp[S.fresh,ai.add,P]) (by simp[S.fresh,ai.add,N]);exact zL X R _ _ M (by simp[S.fresh,ai.add,Q]) (by simp[S.fresh,ai.add,P]) (by simp[S.fresh,ai.add,N])
def Ia{PP:RK->RV->Prop}:∀(R:aS)(Q:bq)(s:S)(O:ai),eP R Q->Y O.r=Y s.rs->
  (∀(q:Nat)(e:RK)(X:RV),R[q]?=U (.ah e)->Q[q]?=U (.r X)->PP e X)->(∀(k:Nat)(e:RK)(X:RV),s.rs[k]?=U e->O.r[k]?=U X->PP e X)->
  ∀(k:Nat)(e:RK)(X:RV),(s.cP R).2.rs[k]?=U e->(O.ext Q).r[k]?=U X->PP e X
 |[],[],s,O,_,_,_,M=>M
 |[],_::_,_,_,h,_,_,_=>by simp[eP] at h
 |_::_,[],_,_,h,_,_,_=>by simp[eP] at h
 |k::R,x::Q,s,O,h,L,B,M=>by
  obtain⟨H,G⟩:=h;have F:∀(q:Nat)(e:RK)(X:RV),R[q]?=U (.ah e)->Q[q]?=U (.r X)->PP e X:=λq e X P N=>B (q+1) e X (by simpa using P) (by simpa using N)
  simp only[S.cP,ai.ext];cases k<;>cases x<;>simp[sf] at H;exact Ia R Q _ _ G (by simp[S.fresh,ai.add,L]) F (by simpa[S.fresh,ai.add] using M);exact Ia R Q _ _ G (by simp[S.fresh,ai.add,L]) F (by simpa[S.fresh,ai.add] using M);rename_i A z;refine Ia R Q _ _ G (by simp[S.fresh,ai.add,L]) F ?_;intro k e X P N;simp only[S.fresh,ai.add] at P N;by_cases H:k<Y s.rs;rw[dH H] at P;rw[dH aa] at N;exact M k e X P N;have y:k=Y s.rs:=by
   have:=(ck.1 P).1;simp at this;omega
  subst y;simp at P;rw[<-L] at N;simp at N;subst P N;exact B 0 A z rfl rfl
def Fw:aS->Nat
 |[]=>0
 |.ah _::X=>Fw X+1
 |_::X=>Fw X
def K7:∀(R:aS)(P:bq)(s:S)(O:ai),eP R P->Y O.r=Y s.rs->
  ∀(k:Nat)(e:RK)(Q:RV),(s.cP R).2.rs[k]?=U e->(O.ext P).r[k]?=U Q->(s.rs[k]?=U e/\O.r[k]?=U Q)\/∃q:Nat,R[q]?=U (.ah e)/\P[q]?=U (.r Q)/\k=Y s.rs+Fw (R.take q)
 |[],[],s,O,_,_,k,e,Q,N,M=>.inl ⟨N,M⟩
 |[],_::_,_,_,h,_,_,_,_,_,_=>by simp[eP] at h
 |_::_,[],_,_,h,_,_,_,_,_,_=>by simp[eP] at h
 |B::R,x::P,s,O,h,G,k,e,Q,N,M=>by
  obtain⟨A,F⟩:=h;simp only[S.cP,ai.ext] at N M;cases B<;>cases x<;>simp[sf] at A;rcases K7 R P _ _ F (by simp[S.fresh,ai.add,G]) k e Q N M with X|⟨q,X⟩;exact .inl (by simpa[S.fresh,ai.add] using X);exact .inr ⟨q+1,by simpa[S.fresh,Fw] using X⟩;rcases K7 R P _ _ F (by simp[S.fresh,ai.add,G]) k e Q N M with X|⟨q,X⟩;exact .inl (by simpa[S.fresh,ai.add] using X);exact .inr ⟨q+1,by simpa[S.fresh,Fw] using X⟩;rename_i w v;rcases K7 R P _ _ F (by simp[S.fresh,ai.add,G]) k e Q N M with⟨L,H⟩|⟨q,X⟩;simp only[S.fresh,ai.add] at L H;by_cases z:k<Y s.rs;rw[dH z] at L;rw[dH aa] at H;exact .inl ⟨L,H⟩;have y:k=Y s.rs:=by
   have:=(ck.1 L).1;simp at this;omega
  subst y;simp at L;rw[<-G] at H;simp at H;subst L H;exact .inr ⟨0,rfl,rfl,by simp[Fw]⟩;refine .inr ⟨q+1,by simpa using X.1,by simpa using X.2.1, ?_⟩;have:=X.2.2;simp[S.fresh] at this;simp[Fw];omega
def akZ:∀{ks:aS}{q:Nat}{e:RK},ks[q]?=U (.ah e)->Oq ks=J
 |[],q,e,h=>by simp at h
 |k::ks,0,e,h=>by simp at h;subst h;rfl
 |k::ks,q+1,e,h=>by
  have:=akZ (ks:=ks) (q:=q) (by simpa using h);cases k<;>first|exact this|rfl
def Ub:∀{R:aS}{q:Nat}{k:LK},qu R=J->R[q]?=U k->HM k=J
 |[],q,k,_,h=>by simp at h
 |Q::R,0,k,X,h=>by simp only[qu,aw] at X;simp at h;subst h;exact X.1
 |Q::R,q+1,k,X,h=>by simp only[qu,aw] at X;exact Ub X.2 (by simpa using h)
def aa5{B:Nat}{M:Nat->Prop}:∀{N:aS}{P:bq},KF o W B M N P->∀(q:Nat)(e:RK)(X:RV),N[q]?=U (.ah e)->P[q]?=U (.r X)->bJ W o e X/\∀b,ee o e X b->B<=b\/M b
 |[],P,_,q,e,X,R,_=>by simp at R
 |_::_,[],_,q,e,X,_,Q=>by simp at Q
 |k::N,x::P,h,0,e,X,R,Q=>by simp at R Q;subst R Q;exact h.1
 |k::N,x::P,h,q+1,e,X,R,Q=>aa5 h.2 q e X (by simpa using R) (by simpa using Q)
def az.called{B:World}(R:az d m D o V O s a W)(u:s.bd=J){Q:aS}(f:qu Q=J){N:bq}(A:eP Q N)(n:Below W.heap.size W B){c:Nat->Prop}(ho:∀b,c b->O.qz o s.rs b/\∀(k:Nat)(e:TypeId)(X:RV),s.rs[k]?=U (.own e)->O.r[k]?=U X->X.lu=U b->Oq Q=E)
  (hh:KF o B W.heap.size c Q N):
  az d m D o V (O.ext N) (s.cP Q).2 a B:=by
 obtain⟨M,e2,e3,e4⟩:=ye Q s;obtain⟨l1,l2,l3⟩:=zL Q N s O A R.ei R.eb R.er;obtain⟨af,ag⟩:=R.zE u;have hE:=Du s.ap O N V;have L:=R.mem.below n;refine⟨⟨L.base,by rw[M];exact L.own,by rw[M];exact L.inj, ?_, ?_⟩,by rw[M];exact R.gJ,l1,l2,l3,by rw[K6,aa4];exact R.dl.below n,by rw[e2];exact R.size, ?_, ?_⟩;rw[M];intro i t cs h;rw[hE.dO (tP ag h)];exact L.box i t cs h;rw[M];refine Ia (PP:=λe X=>bJ B o e X/\∀b,ee o e X b->∀i,aK s.ap i=J->ad V i≠b) Q N s O A R.er ?_ (λk e X P H=>L.ah k e X P H);intro q e X P H;obtain⟨z,h4⟩:=aa5 hh q e X P H;refine⟨z,λb u i hi=> ?_⟩;rcases h4 b u with G|G;have:=R.mem.lt hi;omega;obtain⟨⟨k,y,hk,hx⟩,-⟩:=ho b G;exact(R.mem.ah k _ _ hk (uS R hk)).2 b hx i hi;rw[e2];intro t sv h;rcases R.tmps t sv h with P|P;exact .inl P;right;rw[hE.ab (wt af h)];exact P;rw[M];intro k e X b P H z;rcases K7 Q N s O A R.er k _ X P H with⟨x,l⟩|⟨q,x,l,-⟩;have t:=R.gj k e X b x l z;have w:=t.world (n.block b t.lt);refine⟨w.own,w.mem,w.box,λk' y j q1 q2 q3 v=> ?_,w.inner⟩;rcases K7 Q N s O A R.er k' y j q2 q3 with⟨F,g⟩|⟨q,F,g,-⟩;exact t.alone k' y j q1 F g v;have hr:=akZ F;obtain⟨p3,p4⟩:=aa5 hh q y j F g;rcases v with v|⟨⟨t0,rfl⟩,_⟩;rcases p4 b v with G|G;have:=t.lt;omega;have:=(ho b G).2 k e X x l z;rw[hr] at this;cases this;have:=Ub f F;simp[HM] at this;have:=Ub f x;simp[HM] at this
def ak0(R:az d m D o V O s a W){G:aS}(h:O.qz o (Ou e s.rs) X):
  O.qz o (Df e G s.rs) X/\∀(k:Nat)(Q:TypeId)(H:RV),(Df e G s.rs)[k]?=U (.own Q)->O.r[k]?=U H->H.lu=U X->Oq G=false:=by
 obtain⟨N,q,P,A⟩:=h;unfold Ou at P;rw[aav] at P;cases M:s.rs[N]? with
 |none=>rw[M] at P;cases P
 |some x=>
  rw[M] at P;simp only[iX,eh,cU] at P;have z:=aj4 ((Ot e (Y s.rs)).contains N) x;rw[P] at z;have L:ee o x (O.rv N) X:=A.mO z;refine⟨?_,λk Q H F v u=> ?_⟩;unfold Df;split;refine⟨N,zq ((Ot e (Y s.rs)).contains N) x,by rw[KT,M];simp, ?_⟩;cases x<;>simp only[zq]<;>try exact L
  split;cases L with
  |own Q H X L=>exact L
  exact L;exact⟨N,x,M,L⟩;unfold Df at F;split at F;rename_i y;exfalso;obtain⟨B,t⟩:=aaB F;by_cases w:N=k;subst w;rw[M] at B;cases B;simp only[Oi] at P;rw[aQ (by simpa using t)] at P;subst P;cases A;exact(R.gj k Q H X B v u).alone N x (O.rv N) w M (uS R M) (.inl L);rename_i y;simpa using y
def Fy(R:aq)(Q:aS)(X:bv):qA X (Df R Q X):=by
 unfold Df;split;exact OU _ _;exact qA.refl _
end
section
variable{p:Sp}{c:bE}
def ak1(w:p.ty=c.ty)(n:∀g,(c.sig g).isSome=J->∀X W,(callFunc g X).run p.P W=.ok (.enter g X) W)
  (D:cg)(L:dC)(g:FuncId)(X:aq)(s:S)(k:C->S->T)(O:ai)(V:ar)(a:Act)(W:World)(B:Ending->World->Prop)
  (h:(zv c g X s k).aP p O L)(R:az p.S0 p.w0 D c.ty V O s a W)
  (j:∀v A H z Q u,bH s O V A H z->dm s.ax L u->az p.S0 p.w0 D c.ty z H A a Q->(k v A).aP p H u->B (.returned (v.ab H z)) Q)
  (i:∀G Q f y,eF p.w0 D f y a.defers Q->p.R (.panicked G) Q->B (.panicked G) Q):
  (∀X W,(callFunc g X).run p.P W=.ok (.enter g X) W)/\Calls p.P g (C.aE O V X).toArray W B:=by
 unfold zv at h;split at h;rename_i ts af;refine⟨n g (by rw[af];rfl), ?_⟩;split at h;rename_i M al;split at h;rename_i l hl;split at h;rename_i N;simp only[S.e9,aw] at N;obtain⟨N,ag⟩:=N;simp only[T.aP] at h;have:=h O.y V W (by rw[w];exact(R.mem.aab _).mO (aj5 _ _));refine this.mono ?_;intro e Q F;cases e with
 |returned v=>
  obtain⟨x,h1,t,h3,r,h5⟩:=F;rw[w] at r;obtain⟨q,e2,e3,e4⟩:=ye M (s.cut X M);have hy:(O.ext x).at O.y=O.ext x:=by have:=K6 x O;unfold ai.at;rw[<-this]
  rw[hy] at t;subst t;have R1:az p.S0 p.w0 D c.ty V O (s.cut X M) a W:=R.mO (Fy X M s.rs);exact j _ _ _ V Q L ⟨Du _ _ _ _,by rw[q];exact λ_ h=>h,by rw[q];exact b9 _,by rw[e3];exact b9 _⟩ (dm.refl _ _) (R1.called (O4 N.1 (Fy X M s.rs).len) ag h1 h3 (λb N=>ak0 R N) r) h5
 |panicked G=>exact i G Q _ _ (R.dl.below F.1) F.2
 |outgrown=>exact F.elim
 exact h.elim;exact h.elim;exact h.elim;exact h.elim
def aa6{d:ar}{m:World}{D:cg}{V:ar}{O:ai}{s:S}{a:Act}{W:World}(R:az d m D c.ty V O s a W)(M:jg p.P c.ty)(f:ResultVar->Sem Value)(L:∀t,f (.tmp t)=pure (a.tmps.getD t undef))(H:∀x t,f (.cell x t)=(asAddr (a.tmps.getD x undef)>>=λy=>loadVar t y)):
  ∀(X:nV)(l:aq),uK c s X=U l->(X.mapM f).run p.P W=.ok (C.aE O V l) W
 |[],l,h=>by simp[uK] at h;subst h;rfl
 |.tmp t::X,l,h=>by
  simp only[uK] at h;split at h;rename_i G F;split at h;cases h;rename_i z;cases h;have N:=du (gl:=[]) R (λ_ Q=>by cases Q) (.tmp t) (by simpa[S.ev,xM] using z);simp only[Act.eval,S.ev,xM] at N;simp only[avk,dA,L,fq,dv,aa6 R M f L H X G F,C.aE,N];cases h
 |.cell x t::X,l,h=>by
  simp only[uK] at h;split at h;rename_i G i g e F Q w;split at h;rename_i u r B;split at h;rename_i v q;cases h;have N:=du (gl:=[]) R (λ_ Q=>by cases Q) (.tmp x) (by simp only[S.ev,xM,Q];rfl);simp only[Act.eval,S.ev,xM,Q,C.ab] at N;have A:=TA (P:=p.P) (W:=W) (M _ _ w) (O:=O) (V:=V) (b:=ad V i) (base:=0) q (λj y n=>by
   obtain⟨B,k⟩:=zD B;have:=R.mem.box i u r B;rw[tQ k] at this;simp[ow,this,tN,n])
  simp only[Instr.loadAt,Instr.sureAddr,iX,dA,fq,dv] at A;simp only[avk,dA,H,N,asAddr,fq,dv,A,aa6 R M f L H X G F,C.aE];cases h;cases h;cases h
def K8{m:World}{D:cg}{V:ar}{a:Act}{W:World}(X:az t m D c.ty V x R a W)(N:jg p.P c.ty){Q:Func}{l:aq}(h:uK c R Q.results.toList=U l):
  (results Q a.tmps).run p.P W=.ok ((one l).ab x V) W:=by
 unfold results;rw[aId];simp only[dA,Sem.run_map];rw[aa6 X N _ (λ_=>rfl) (λ_ _=>rfl) Q.results.toList l h];simp only[dv,fq];congr 1
 match l with
 |[]=>rfl
 |[v]=>rfl
 |v::w::r=>rfl
end
section
variable{d:ar}{m:World}{D:cg}{ty:Ty}{V:ar}{O:ai}{s:S}{a:Act}{W:World}
def XV.at(k:LK):XV->Value
 |.i n=>match k with
  |.int k=>.int k n
  |_=>undef
 |.b x=>.bool x
 |.r v=>v.val
def XV.Pg(k:LK)(x:XV):RV:=match x with
 |.r v=>v
 |x=>.mk (x.at k) []
def awY{k:LK}(h:De R k r=J):(r.xv x).Pg k=r.hJ x t:=by
 unfold De at h;split at h;simp at h;subst h;rfl;rfl;rfl;rfl;rfl;rfl;cases h
def ak2{V1:ar}{k:LK}(h:De R k r=J):(r.xv x).at k=r.ab x V1/\sf k (r.xv x):=by
 unfold De at h;split at h;simp at h;subst h;exact⟨rfl,trivial⟩;exact⟨rfl,trivial⟩;exact⟨rfl,trivial⟩;exact⟨rfl,trivial⟩;exact⟨rfl,trivial⟩;exact⟨rfl,trivial⟩;cases h
def ak3{N:S}:∀{X:aS}{R:aq},tI N X R=J->Y X=Y R/\∀(q:Nat)(k:LK)(v:C),X[q]?=U k->R[q]?=U v->De N k v=J
 |[],[],_=>⟨rfl,λq k v h _=>by simp at h⟩
 |[],_::_,h=>by simp[tI] at h
 |_::_,[],h=>by simp[tI] at h
 |k::X,v::R,h=>by
  simp only[tI,aw] at h;obtain⟨M,L⟩:=ak3 h.2;refine⟨by simp[M],λq H G Q P=> ?_⟩;cases q with
  |zero=>simp at Q P;subst Q P;exact h.1
  |succ q=>exact L q H G (by simpa using Q) (by simpa using P)
def aa7{Q:S}{O1:ai}:∀{X:aS}{R:aq},tI Q X R=J->eP X (R.map (C.xv O1))
 |[],[],_=>trivial
 |[],_::_,h=>by simp[tI] at h
 |_::_,[],h=>by simp[tI] at h
 |k::X,v::R,h=>by
  simp only[tI,aw] at h;exact⟨(ak2 (V1:=[]) h.1).2,aa7 h.2⟩
def Uc:∀(R:aS)(X:bq)(s:S)(O:ai),eP R X->Y O.i=s.ni->Y O.b=s.nb->Y O.r=Y s.rs->
  ∀(q:Nat)(k:LK)(x:XV)(v:C),R[q]?=U k->X[q]?=U x->(s.cP R).1[q]?=U v->v.ab (O.ext X) V=x.at k/\v≠ .any
 |[],_,_,_,_,_,_,_,q,k,x,v,h,_,_=>by simp at h
 |_::_,[],_,_,h,_,_,_,q,k,x,v,_,_,_=>by simp[eP] at h
 |B::R,G::X,s,O,A,M,L,H,0,k,x,v,Q,P,N=>by
  obtain⟨z,F⟩:=A;simp only[S.cP,A4,cU] at Q P N;subst Q P N;have y:=Fl X (O.add G);simp only[ai.ext];cases B<;>cases G<;>simp[sf] at z;refine⟨?_,by simp[S.fresh]⟩;simp only[S.fresh,C.ab,K.ab,XV.at];rw[y.i _ (by simp[ai.add,M])];simp[ai.add,<-M];refine⟨?_,by simp[S.fresh]⟩;simp only[S.fresh,C.ab,BE.ab,XV.at];rw[y.b _ (by simp[ai.add,L])];simp[ai.add,<-L];refine⟨?_,by simp[S.fresh]⟩;simp only[S.fresh,C.ab,RE.ab,RE.rv,XV.at];rw[y.r _ (by simp[ai.add,H])];simp[ai.add,ai.rv,<-H]
 |B::R,G::X,s,O,A,M,L,H,q+1,k,x,v,Q,P,N=>by
  obtain⟨z,F⟩:=A;simp only[S.cP,tA] at Q P N;simp only[ai.ext];cases B<;>cases G<;>simp[sf] at z;exact Uc R X _ _ F (by simp[S.fresh,ai.add,M]) (by simp[S.fresh,ai.add,L]) (by simp[S.fresh,ai.add,H]) q k x v Q P N;exact Uc R X _ _ F (by simp[S.fresh,ai.add,M]) (by simp[S.fresh,ai.add,L]) (by simp[S.fresh,ai.add,H]) q k x v Q P N;exact Uc R X _ _ F (by simp[S.fresh,ai.add,M]) (by simp[S.fresh,ai.add,L]) (by simp[S.fresh,ai.add,H]) q k x v Q P N
def Ud:∀(R:aS)(X:bq)(s:S)(O:ai),eP R X->Y O.i=s.ni->Y O.b=s.nb->Y O.r=Y s.rs->
  ∀(q:Nat)(k:LK)(x:XV)(v:C),R[q]?=U k->X[q]?=U x->(s.cP R).1[q]?=U v->v.hJ (O.ext X) V=x.Pg k
 |[],_,_,_,_,_,_,_,q,k,x,v,h,_,_=>by simp at h
 |_::_,[],_,_,h,_,_,_,q,k,x,v,_,_,_=>by simp[eP] at h
 |B::R,G::X,s,O,A,M,L,H,0,k,x,v,Q,P,N=>by
  obtain⟨z,F⟩:=A;simp only[S.cP,A4,cU] at Q P N;subst Q P N;have y:=Fl X (O.add G);simp only[ai.ext];cases B<;>cases G<;>simp[sf] at z
  skip
  simp only[S.fresh,C.hJ,C.ab,K.ab,XV.Pg,XV.at];rw[y.i _ (by simp[ai.add,M])];simp[ai.add,<-M]
  skip
  simp only[S.fresh,C.hJ,C.ab,BE.ab,XV.Pg,XV.at];rw[y.b _ (by simp[ai.add,L])];simp[ai.add,<-L]
  skip
  simp only[S.fresh,C.hJ,RE.rv,XV.Pg];rw[y.r _ (by simp[ai.add,H])];simp[ai.add,ai.rv,<-H]
 |B::R,G::X,s,O,A,M,L,H,q+1,k,x,v,Q,P,N=>by
  obtain⟨z,F⟩:=A;simp only[S.cP,tA] at Q P N;simp only[ai.ext];cases B<;>cases G<;>simp[sf] at z;exact Ud R X _ _ F (by simp[S.fresh,ai.add,M]) (by simp[S.fresh,ai.add,L]) (by simp[S.fresh,ai.add,H]) q k x v Q P N;exact Ud R X _ _ F (by simp[S.fresh,ai.add,M]) (by simp[S.fresh,ai.add,L]) (by simp[S.fresh,ai.add,H]) q k x v Q P N;exact Ud R X _ _ F (by simp[S.fresh,ai.add,M]) (by simp[S.fresh,ai.add,L]) (by simp[S.fresh,ai.add,H]) q k x v Q P N
def ak4:∀(X:aS)(s:S),(s.cP X).1.length=Y X
 |[],_=>rfl
 |k::X,s=>by simp[S.cP,ak4 X]
def ak5{n:Nat}:∀{R:List (Nat×LK)}{X:aq}{v:C},wm n R X=U v->∃(q:Nat)(k:LK),R[q]?=U (n,k)/\X[q]?=U v
 |[],X,v,h=>by simp[wm] at h
 |_::_,[],v,h=>by simp[wm] at h
 |(t,k)::r,x::L,v,h=>by
  simp only[wm] at h;split at h;rename_i Q;cases h;simp at Q;subst Q;exact⟨0,k,rfl,rfl⟩;obtain⟨q,P,N,M⟩:=ak5 h;exact⟨q+1,P,by simpa using N,by simpa using M⟩
def ak6{n:Nat}:∀{X:List (Nat×LK)}{R:aq},Y X<=Y R->wm n X R=Z->X.any (·.1==n)=E
 |[],R,_,h=>rfl
 |_::_,[],Q,h=>by simp at Q
 |(t,k)::r,x::N,Q,h=>by
  simp only[wm] at h;split at h;cases h;rename_i P;simp only[List.any_cons,vZ];exact⟨by simpa using P,ak6 (by simpa using Q) h⟩
def ak7{b n:Nat}:∀{R:List (Nat×Nat×LK)}{X:aq}{v:C},Bm b n R X=U v->∃(q:Nat)(k:LK),R[q]?=U (b,n,k)/\X[q]?=U v
 |[],X,v,h=>by simp[Bm] at h
 |_::_,[],v,h=>by simp[Bm] at h
 |(L,t,k)::r,x::H,v,h=>by
  simp only[Bm] at h;split at h;rename_i Q;cases h;simp at Q;obtain⟨rfl,rfl⟩:=Q;exact⟨0,k,rfl,rfl⟩;obtain⟨q,P,N,M⟩:=ak7 h;exact⟨q+1,P,by simpa using N,by simpa using M⟩
def ak8{b n:Nat}:∀{X:List (Nat×Nat×LK)}{R:aq},Y X<=Y R->Bm b n X R=Z->X.any (λc=>c.1==b&&c.2.1==n)=E
 |[],R,_,h=>rfl
 |_::_,[],Q,h=>by simp at Q
 |(N,t,k)::r,x::M,Q,h=>by
  simp only[Bm] at h;split at h;cases h;rename_i P;simp only[List.any_cons,vZ];exact⟨by simpa using P,ak8 (by simpa using Q) h⟩
def ak9(X:fH)(R:ar)(Q:aq):∀(l:aq)(n i:Nat),(Bn X R Q n l)[i]?=(l[i]?).map λx=>(wm (n+i) X.tm Q).getD (if R.contains (n+i) then .any else x)
 |[],n,i=>by simp[Bn]
 |x::P,n,0=>by simp[Bn]
 |x::P,n,i+1=>by
  simp only[Bn,tA];rw[ak9 X R Q P (n+1) i,show n+1+i=n+(i+1) from aa]
def ala(X:fH)(R:aq)(b:Nat):∀(l:aq)(n i:Nat),(HJ X R b n l)[i]?=(l[i]?).map λx=>(Bm b (n+i) X.cl R).getD x
 |[],n,i=>by simp[HJ]
 |x::Q,n,0=>by simp[HJ]
 |x::Q,n,i+1=>by
  simp only[HJ,tA];rw[ala X R b Q (n+1) i,show n+1+i=n+(i+1) from aa]
def Ph(R:fH)(Q:aq):∀(l:bG)(n i:Nat),cw (uL R Q n l) i=(cw l i).map λx=>(x.1,HJ R Q (n+i) 0 x.2)
 |[],n,i=>by simp[uL,cV]
 |Z::X,n,0=>by simp[uL,cV]
 |U (t,P)::X,n,0=>by simp[uL,cV]
 |Z::X,n,i+1=>by
  have:=Ph R Q X (n+1) i;rw[show n+1+i=n+(i+1) from aa] at this;simpa[uL,cV] using this
 |U (t,P)::X,n,i+1=>by
  have:=Ph R Q X (n+1) i;rw[show n+1+i=n+(i+1) from aa] at this;simpa[uL,cV] using this
def Ue(X:fH)(R:aq):∀(l:bG)(n:Nat),(uL X R n l).length=Y l
 |[],n=>rfl
 |Z::Q,n=>by simp[uL,Ue X R Q]
 |U (t,P)::Q,n=>by simp[uL,Ue X R Q]
def alb(X:fH)(R:ar)(Q:aq):∀(l:aq)(n:Nat),(Bn X R Q n l).length=Y l
 |[],n=>rfl
 |x::P,n=>by simp[Bn,alb X R Q P]
def aa8{N:fH}{M:ar}:∀{l R:aq}{n:Nat},zu N M n l R=J->Y l=Y R/\∀(i:Nat)(x y:C),l[i]?=U x->R[i]?=U y->N.tm.any (·.1==n+i)=J\/M.contains (n+i)=J\/x=y
 |[],[],n,_=>⟨rfl,λi x y h _=>by simp at h⟩
 |[],_::_,n,h=>by simp[zu] at h
 |_::_,[],n,h=>by simp[zu] at h
 |x::B,y::A,n,h=>by
  simp only[zu,aw,jy] at h;obtain⟨L,H⟩:=aa8 h.2;refine⟨by simp[L],λi G F Q P=> ?_⟩;cases i with
  |zero=>
   simp only[A4,cU] at Q P;subst Q P;rcases h.1 with(X|X)|X;exact .inl X;exact .inr (.inl X);exact .inr (.inr (C.bY _ _ X))
  |succ i=>
   have:=H i G F (by simpa using Q) (by simpa using P);rw[show n+(i+1)=n+1+i from aa];exact this
def alc{N:fH}{b:Nat}:∀{l X:aq}{n:Nat},HL N b n l X=J->Y l=Y X/\∀(i:Nat)(x y:C),l[i]?=U x->X[i]?=U y->N.cl.any (λc=>c.1==b&&c.2.1==n+i)=J\/x=y
 |[],[],n,_=>⟨rfl,λi x y h _=>by simp at h⟩
 |[],_::_,n,h=>by simp[HL] at h
 |_::_,[],n,h=>by simp[HL] at h
 |x::F,y::B,n,h=>by
  simp only[HL,aw,jy] at h;obtain⟨M,L⟩:=alc h.2;refine⟨by simp[M],λi H G R Q=> ?_⟩;cases i with
  |zero=>
   simp only[A4,cU] at R Q;subst R Q;rcases h.1 with P|P;exact .inl P;exact .inr (C.bY _ _ P)
  |succ i=>
   have:=L i H G (by simpa using R) (by simpa using Q);rw[show n+(i+1)=n+1+i from aa];exact this
def aa9{G:fH}:∀{l M:bG}{n:Nat},tH G n l M=J->∀(i:Nat)(t:TypeId)(R:aq),cw l i=U (t,R)->∃Q,cw M i=U (t,Q)/\HL G (n+i) 0 R Q=J
 |[],M,n,_,i,t,R,h=>by simp[cV] at h
 |Z::P,[],n,X,i,t,R,h=>by simp[tH] at X
 |Z::P,y::N,n,X,0,t,R,h=>by simp[cV] at h
 |Z::P,y::N,n,X,i+1,t,R,h=>by
  simp only[tH] at X;obtain⟨Q,L,H⟩:=aa9 X i t R (by simpa[cV] using h);exact⟨Q,by simpa[cV] using L,by rw[show n+(i+1)=n+1+i from aa];exact H⟩
 |U x::P,[],n,X,i,t,R,h=>by simp[tH] at X
 |U x::P,Z::N,n,X,i,t,R,h=>by simp[tH] at X
 |U x::P,U y::N,n,X,0,t,R,h=>by
  simp only[tH,aw,dE] at X;simp only[cV,A4,cU] at h⊢;subst h;exact⟨y.2,by rw[show(t:TypeId)=y.1 from X.1.1],X.1.2⟩
 |U x::P,U y::N,n,X,i+1,t,R,h=>by
  simp only[tH,aw] at X;obtain⟨Q,L,H⟩:=aa9 X.2 i t R (by simpa[cV] using h);exact⟨Q,by simpa[cV] using L,by rw[show n+(i+1)=n+1+i from aa];exact H⟩
def ald{R:fH}{n:Nat}{k:LK}(Q:R.tm[X]?=U (n,k)):R.ks[X]?=U k:=by
 have P:X<Y R.tm:=(ck.1 Q).1;unfold fH.ks;rw[dH (by simpa using P),dW,Q];rfl
def ale{Q:fH}{n:Nat}{k:LK}(P:Q.tm[X]?=U (n,k))(N:R.tmps[n]?=U r):(kK Q R)[X]?=U r:=by
 have M:X<Y Q.tm:=(ck.1 P).1;unfold kK;rw[dH (by simpa using M),dW,P];simp[N]
def Dz{k:Nat}(h:k<X):ad (t.take X) k=ad t k:=by simp[ad,h]
def awZ(X:fH)(s:S):(jw X s).length=Y s.rs:=Bw _ _ _
def alf:∀{l R:bv},zt l R=J->∀(k:Nat)(e:RK),l[k]?=U e->∃Q,R[k]?=U Q/\(e=.am\/Q=e)
 |[],R,_,k,e,h=>by simp at h
 |x::P,[],h,_,_,_=>by simp[zt] at h
 |x::P,y::N,h,0,e,X=>by
  simp only[zt,aw,jy,cm] at h;simp at X;subst X;exact⟨y,rfl,h.1.imp id Eq.symm⟩
 |x::P,y::N,h,k+1,e,X=>by
  simp only[zt,aw] at h;exact alf h.2 k e (by simpa using X)
def Uf:∀{R:aS}{X:aq}{q:Nat}{e:TypeId}{k:Nat},R[q]?=U (.ah (.own e))->X[q]?=U (.ah (.v k))->k∈Dd R X
 |[],X,q,e,k,h,_=>by simp at h
 |_::_,[],q,e,k,_,h=>by simp at h
 |N::R,v::X,0,e,k,Q,P=>by simp at Q P;subst Q P;simp[Dd,Tg]
 |N::R,v::X,q+1,e,k,Q,P=>by
  simp only[Dd,eV];right;exact Uf (q:=q) (by simpa using Q) (by simpa using P)
def Ug:∀{a b:ar},ny (a++b)=J->ny b=J/\∀x∈a,x∉b
 |[],b,h=>⟨h,av⟩
 |x::a,b,h=>by
  simp only[ez,ny,aw] at h;obtain⟨R,Q⟩:=Ug h.2;refine⟨R,λy X=> ?_⟩;rcases dP.1 X with rfl|X;intro P;have:=h.1;simp[P] at this;exact Q y X
def alg:∀{N:aS}{R:aq}{q Q:Nat}{e M:TypeId}{k X:Nat},ny (Dd N R)=J->N[q]?=U (.ah (.own e))->R[q]?=U (.ah (.v k))->N[Q]?=U (.ah (.own M))->R[Q]?=U (.ah (.v X))->q≠Q->k≠X
 |[],R,q,Q,e,M,k,X,_,h,_,_,_,_=>by simp at h
 |_::_,[],q,Q,e,M,k,X,_,_,h,_,_,_=>by simp at h
 |B::N,v::R,0,0,e,M,k,X,_,_,_,_,_,h=>aZ rfl h
 |B::N,v::R,0,Q+1,e,M,k,X,P,L,H,G,F,_=>by
  simp at L H;subst L H;simp only[Dd] at P;have:=(Ug P).2 k (by simp[Tg]);intro A;subst A;exact this (Uf (q:=Q) (by simpa using G) (by simpa using F))
 |B::N,v::R,q+1,0,e,M,k,X,P,L,H,G,F,_=>by
  simp at G F;subst G F;simp only[Dd] at P;have:=(Ug P).2 X (by simp[Tg]);intro A;subst A;exact this (Uf (q:=q) (by simpa using L) (by simpa using H))
 |B::N,v::R,q+1,Q+1,e,M,k,X,P,L,H,G,F,z=>by
  simp only[Dd] at P;exact alg (Ug P).1 (by simpa using L) (by simpa using H) (by simpa using G) (by simpa using F) aa
def az.head{ty:Ty}{P:fH}{n:ar}{a1:Act}{W1:World}(br:s.bd=J)(ei:Y O.i=s.ni)(eb:Y O.b=s.nb)(er:Y O.r=Y s.rs)
  (f:bH s O V R x n)(R1:az d m D ty n x R a1 W1)(hT:zu P t 0 s.tmps R.tmps=J)(hB:tH P 0 s.ap R.ap=J)(hf:tI R P.ks (kK P R)=J)
  (hR:zt (jw P s) R.rs=J)(hO:HI (jw P s) (HH P R)=J)(b8:R.pd=s.pd):
  az d m D ty (n.take (Y s.ap)) (O.ext ((kK P R).map (C.xv x))) (ri P t s) a1 W1:=by
 obtain⟨ca,cc⟩:C.ec (Y O.i) (Y O.b) (Y O.r) (aK s.ap) s.tmps=J/\C.rh (Y O.i) (Y O.b) (Y O.r) (aK s.ap) s.ap=true:=by
  simp only[S.bd,aw] at br;rw[ei,eb,er];exact br
 have a0:=aa7 (O1:=x) hf;have a3:Y O.r=(jw P s).length:=by rw[awZ];exact er
 obtain⟨cD,bb⟩:=ak3 hf;generalize bg:(kK P R).map (C.xv x)=o at*;obtain⟨e1,e2,e3,e4⟩:=ye P.ks {s with ax:=s.ax+1,rs:=jw P s};obtain⟨l1,l2,l3⟩:=zL P.ks o {s with ax:=s.ax+1,rs:=jw P s} O a0 ei eb a3;have bs:=Du s.ap O o V;have ch:=Uc (V:=n.take (Y s.ap)) P.ks o {s with ax:=s.ax+1,rs:=jw P s} O a0 ei eb a3;have bt:=ak4 P.ks {s with ax:=s.ax+1,rs:=jw P s};have bx:Y P.ks=Y P.tm+Y P.cl:=by simp[fH.ks]
 have a4:∀i,aK (uL P (((({s with ax:=s.ax+1,rs:=jw P s}:S).cP P.ks).1).drop (Y P.tm)) 0 s.ap) i=J->aK s.ap i=J/\i<Y s.ap:=by
  intro i hi;unfold aK at hi;rw[Ph] at hi;have:(cw s.ap i).isSome=true:=by simpa using hi
  obtain⟨b,H⟩:=ln.1 this;exact⟨this,(ck.1 (kj.1 H)).1⟩
 have cn:∀v:C,v.bd (Y O.i) (Y O.b) (Y O.r) (aK s.ap)=J->v.ab (O.ext o) (n.take (Y s.ap))=v.ab x n:=by
  intro v hv;rw[f.ext.ab hv];refine C.ep bs.agree (λk hk=> ?_) v hv;have a9:k<Y s.ap:=by
   obtain⟨b,H⟩:=ln.1 hk;exact(ck.1 (kj.1 H)).1
  rw[Dz a9];exact f.ext.ad k hk
 have co:∀(q:Nat)(k:LK)(v w:C),P.ks[q]?=U k->(kK P R)[q]?=U w->(({s with ax:=s.ax+1,rs:=jw P s}:S).cP P.ks).1[q]?=U v->v.ab (O.ext o) (n.take (Y s.ap))=w.ab x n/\v≠ .any:=by
  intro q k v w hk hw hv;have hx:o[q]?=U (w.xv x):=by rw[<-bg];simp[hw]
  obtain⟨N,M⟩:=ch q k _ v hk hx hv;exact⟨N.trans (ak2 (V1:=n) (bb q k w hk hw)).1,M⟩
 have cp:∀v:C,v.bd (Y O.i) (Y O.b) (Y O.r) (aK s.ap)=J->v.hJ (O.ext o) (n.take (Y s.ap))=v.hJ x n:=by
  intro v hv;rw[aac f.ext.agree f.ext.ad v hv];refine aac bs.agree (λk hk=> ?_) v hv;have a9:k<Y s.ap:=by
   obtain⟨b,H⟩:=ln.1 hk;exact(ck.1 (kj.1 H)).1
  rw[Dz a9];exact f.ext.ad k hk
 have ct:∀(q:Nat)(k:LK)(v w:C),P.ks[q]?=U k->(kK P R)[q]?=U w->(({s with ax:=s.ax+1,rs:=jw P s}:S).cP P.ks).1[q]?=U v->v.hJ (O.ext o) (n.take (Y s.ap))=w.hJ x n:=by
  intro q k v w hk hw hv;have hx:o[q]?=U (w.xv x):=by rw[<-bg];simp[hw]
  rw[Ud (V:=n.take (Y s.ap)) P.ks o {s with ax:=s.ax+1,rs:=jw P s} O a0 ei eb a3 q k _ v hk hx hv];exact awY (bb q k w hk hw)
 have b0:∀(k:Nat)(e:RK)(G:RV),(jw P s)[k]?=U e->O.r[k]?=U G->∃e1,R.rs[k]?=U e1/\x.r[k]?=U G/\(e=.am\/e1=e):=by
  intro k e G N M;have hk:k<Y O.r:=(ck.1 M).1;have cv:k<Y x.r:=Zn hk f.ext.lr;have cx:x.r[k]?=U G:=by
   have:=f.ext.agree.r k hk;simp only[ai.rv,cz,M,pu] at this;rw[cS cv] at this⊢;simpa using this
  obtain⟨L,h3,h4⟩:=alf hR k e N;exact⟨L,h3,cx,h4⟩
 have b1:∀(q:Nat)(e:RK)(G:RV),P.ks[q]?=U (.ah e)->o[q]?=U (.r G)->(∃A:Nat,(kK P R)[q]?=U (.ah (.v A))/\R.rs[A]?=U e/\x.r[A]?=U G)\/(G=.mk (.slice Z 0 0) []/\∃X sh,e=.sl X\/e=.own X\/e=.mr sh):=by
  intro q e G N M;rw[<-bg,dW] at M;cases hw:(kK P R)[q]? with
  |none=>rw[hw] at M;cases M
  |some w=>
   rw[hw] at M;simp only[eh,cU] at M;have bc:=bb q _ w N hw;unfold De at bc;split at bc;rename_i ag;cases ag;rename_i ag;cases ag;rename_i L k ag;cases ag;simp only[C.xv,XV.r.injEq] at M;have b2:R.rs[k]?=U e:=by simpa using bc
   refine .inl ⟨k,rfl,b2, ?_⟩;rw[<-M];exact uS R1 b2;rename_i L ag;cases ag;simp only[C.xv,XV.r.injEq,RE.rv] at M;exact .inr ⟨M.symm,_,⟨0,0,0,E,E⟩,.inl rfl⟩;rename_i L ag;cases ag;simp only[C.xv,XV.r.injEq,RE.rv] at M;exact .inr ⟨M.symm,_,⟨0,0,0,E,E⟩,.inr (.inl rfl)⟩;rename_i L ag;cases ag;simp only[C.xv,XV.r.injEq,RE.rv] at M;exact .inr ⟨M.symm,0,_,.inr (.inr rfl)⟩;cases bc
 simp only[HI,aw] at hO;obtain⟨cy,cA⟩:=hO;have b3:∀(q:Nat)(e:TypeId)(A:Nat),P.ks[q]?=U (.ah (.own e))->(kK P R)[q]?=U (.ah (.v A))->∀L,(jw P s)[A]?=U L->L=.am:=by
  intro q e A N M L h3;have:=fO.1 cA A (Uf N M);simp only[jy,cm] at this;rcases this with h4|h4;have:=(ck.1 h3).1;omega;rw[h4] at h3;cases h3;rfl
 refine⟨⟨R1.mem.base, ?_, ?_, ?_, ?_⟩, ?_,l1,l2,l3, ?_, ?_, ?_, ?_⟩;intro i hi;obtain⟨N,M⟩:=a4 i hi;rw[Dz M];exact R1.mem.own i (f.mono i N);intro i j hi hj;obtain⟨N,M⟩:=a4 i hi;obtain⟨h3,h4⟩:=a4 j hj;rw[Dz M,Dz h4];exact R1.mem.inj i j (f.mono i N) (f.mono j h3);intro i X cs h;simp only[ri] at h;rw[Ph,iX] at h;cases H:cw s.ap i with
 |none=>rw[H] at h;cases h
 |some Q=>
  obtain⟨t0,kP⟩:=Q;rw[H] at h;simp only[eh,cU,C2] at h;obtain⟨rfl,rfl⟩:=h;obtain⟨bf,b4,b5⟩:=aa9 hB i t0 kP H;rw[iX] at b5;obtain⟨cB,bk⟩:=alc b5;have a9:i<Y s.ap:=(ck.1 (kj.1 H)).1;rw[Dz a9,R1.mem.box i t0 bf b4];congr 2;apply kG;intro j;rw[C.dO,C.dO,dW,dW,ala,iX];cases hx:kP[j]? with
  |none=>
   have:bf[j]?=none:=by
    rw[CV] at hx⊢;omega
   simp[this]
  |some Q=>
   obtain⟨y,hy⟩:∃y,bf[j]?=U y:=by
    have:j<Y kP:=(ck.1 hx).1;exact⟨bf[j],cS aa⟩
   rw[hy];simp only[eh,cU];cases hp:Bm i j P.cl ((({s with ax:=s.ax+1,rs:=jw P s}:S).cP P.ks).1.drop (Y P.tm)) with
   |some v=>
    obtain⟨q,k,hq,hv⟩:=ak7 hp;rw[uC] at hv;simp only[pu];refine(ct (Y P.tm+q) k v y ?_ ?_ hv).symm;simp[fH.ks,iE,hq];simp[kK,iE,hq,ajk,b4,hy]
   |none=>
    have hn:=ak8 (by rw[C1,bt,bx];omega) hp;rcases bk j Q y hx hy with N|N;rw[iX] at N;rw[hn] at N;cases N;subst N;simp only[aiU];exact(cp Q (wt (tP cc H) hx)).symm
 have bl:=Ia (PP:=λe G=>bJ W1 ty e G/\∀b,ee ty e G b->∀i,aK s.ap i=J->ad n i≠b) P.ks o {s with ax:=s.ax+1,rs:=jw P s} O a0 a3 ?_ ?_;intro k e G N M;obtain⟨h3,h4⟩:=bl k e G N M;refine⟨h3,λb H i hi=> ?_⟩;obtain⟨h5,h6⟩:=a4 i hi;rw[Dz h6];exact h4 b H i h5
 
 intro q e G N M;rcases b1 q e G N M with⟨A,_,g2,F⟩|⟨rfl,X,sh,g⟩;have:=R1.mem.ah A e G g2 F;exact⟨this.1,λb H i hi=>this.2 b H i (f.mono i hi)⟩;have hn:∀b,¬ee ty (.sl X) (.mk (.slice Z 0 0) []) b:=λb H=>by
  cases H with
  |deep e v b6 i j al c z k b g1=>simp at g1
 rcases g with rfl|rfl|rfl;exact⟨Dx Z 0,λb H=>(hn b H).elim⟩;refine⟨bJ.own X _ (Dx Z 0) (λl c h=>by cases h;rfl),λb H=> ?_⟩;cases H with
 |own e G b H=>exact(hn b H).elim
 exact⟨bJ.mr sh [] (λi al h=>by simp at h) (λi j al c k h=>by simp at h) (λi j al c h=>by simp at h) (λi j al c z k h=>by simp at h),λb H=>by cases H⟩;intro k e G N M;obtain⟨e1,g1,g2,F⟩:=b0 k e G N M;have:=R1.mem.ah k e1 G g1 g2;rcases F with rfl|rfl;exact⟨bJ.am _ (KK this.1),λb H=>by cases H⟩;exact⟨this.1,λb H i hi=>this.2 b H i (f.mono i hi)⟩;simp[ri,Ue];have:=f.len;rw[R1.gJ];omega;have N:=R1.dl;rw[b8,f.ext.agree.y,<-K6 o O] at N;simp only[ri];rw[aa4];exact N;simp only[ri,alb];rw[R1.size,(aa8 hT).1];intro X sv h;simp only[ri] at h;rw[ak9,iX] at h;cases hx:s.tmps[X]? with
 |none=>rw[hx] at h;cases h
 |some Q=>
  rw[hx] at h;simp only[eh,cU] at h;obtain⟨cB,bk⟩:=aa8 hT;obtain⟨y,hy⟩:∃y,R.tmps[X]?=U y:=by
   have:X<Y s.tmps:=(ck.1 hx).1;exact⟨R.tmps[X],cS aa⟩
  cases hp:wm X P.tm ((({s with ax:=s.ax+1,rs:=jw P s}:S).cP P.ks).1) with
  |some v=>
   rw[hp] at h;simp only[pu] at h;subst h;obtain⟨q,k,hq,hv⟩:=ak5 hp;have hc:=(co q k v y (ald hq) (ale hq hy) hv);rcases R1.tmps X y hy with N|N;subst N;have:=bb q k .any (ald hq) (ale hq hy);rcases k with _|_|(_|_|_|_|_)<;>simp[De] at this;right;rw[hc.1];exact N
  |none=>
   rw[hp] at h;simp only[aiU] at h;split at h;exact .inl h.symm;rename_i cC;subst h;have hn:=ak6 (by rw[bt,bx];omega) hp;rcases bk X Q y hx hy with N|N|N;rw[iX] at N;rw[hn] at N;cases N;rw[iX] at N;exact aZ N cC;subst N;rcases R1.tmps X Q hy with M|M;exact .inl M;right;rw[cn Q (wt ca hx)];exact M
 intro k e G b N M h3;simp only[ri] at N;have bl:∃A:Nat,R.rs[A]?=U (RK.own e)/\x.r[A]?=U G/\∀(B:Nat)(L:RK)(u:RV),B≠k->(ri P t s).rs[B]?=U L->(O.ext o).r[B]?=U u->zB ty L u b->∃af:Nat,af≠A/\R.rs[af]?=U L/\x.r[af]?=U u:=by
  have other:∀(B:Nat)(L:RK)(u:RV),(ri P t s).rs[B]?=U L->(O.ext o).r[B]?=U u->zB ty L u b->
    ((jw P s)[B]?=U L/\R.rs[B]?=U L/\x.r[B]?=U u)\/∃q af:Nat,P.ks[q]?=U (.ah L)/\(kK P R)[q]?=U (.ah (.v af))/\R.rs[af]?=U L/\x.r[af]?=U u/\B=(jw P s).length+Fw (P.ks.take q):=by
   intro B L u g1 g2 F;rcases K7 P.ks o {s with ax:=s.ax+1,rs:=jw P s} O a0 a3 B L u g1 g2 with⟨p1,p2⟩|⟨q,p1,p2,p3⟩;obtain⟨e1,q1,q2,q3⟩:=b0 B L u p1 p2;rcases q3 with rfl|rfl;rcases F with F|⟨⟨X,ht⟩,_⟩;cases F;cases ht;exact .inl ⟨p1,q1,q2⟩;rcases b1 q L u p1 p2 with⟨A,q1,q2,q3⟩|⟨rfl,X,sh,q⟩;exact .inr ⟨q,A,p1,q1,q2,q3,p3⟩;exfalso;rcases F with F|⟨_,F⟩;rcases q with rfl|rfl|rfl;cases F with
   |deep e v b6 i j al c z k b g1=>simp at g1
   cases F with
   |own e G b F=>cases F with
    |deep e v b6 i j al c z k b g1=>simp at g1
   cases F;simp[RV.lu] at F
  rcases other k (.own e) G N M (.inr ⟨⟨e,rfl⟩,h3⟩) with⟨p1,p2,p3⟩|⟨q,A,p1,p2,p3,p4,p5⟩;refine⟨k,p2,p3,λB L u g0 g1 g2 F=> ?_⟩;rcases other B L u g1 g2 F with⟨r1,r2,r3⟩|⟨q',af,r1,r2,r3,r4,r5⟩;exact⟨B,g0,r2,r3⟩;refine⟨af,λba=> ?_,r3,r4⟩;subst ba;rw[p2] at r3;cases r3;have:=b3 q' e af r1 r2 _ p1;cases this;refine⟨A,p3,p4,λB L u g0 g1 g2 F=> ?_⟩;rcases other B L u g1 g2 F with⟨r1,r2,r3⟩|⟨q',af,r1,r2,r3,r4,r5⟩;refine⟨B,λba=> ?_,r2,r3⟩;subst ba;rw[p3] at r2;cases r2;have:=b3 q e B p1 p2 _ r1;cases this;refine⟨af,λba=> ?_,r3,r4⟩;subst ba;rw[p3] at r3;cases r3;by_cases b7:q=q';subst b7;exact g0 (by rw[r5,p5]);exact alg cy p1 p2 r1 r2 b7 rfl
 obtain⟨A,g1,g2,F⟩:=bl;have X:=R1.gj A e G b g1 g2 h3;refine⟨X.own,X.mem,λi hi=> ?_,λB L u q1 q2 q3 q4=> ?_,X.inner⟩;obtain⟨h5,h6⟩:=a4 i hi;rw[Dz h6];exact X.box i (f.mono i h5);obtain⟨af,r1,r2,r3⟩:=F B L u q1 q2 q3 q4;exact X.alone af L u r1 r2 r3 q4
end
structure jL(p:Sp)(f:bE):Prop where
 pt:p.ty=f.ty
 mix:p.P.follows .mixedOrders=J
 kQ:jg p.P f.ty
 zp:K5 p.P f
 zM:∀g,(f.sig g).isSome=J\/(f.inl g).isSome=J->∀args W,(callFunc g args).run p.P W=.ok (.enter g args) W
 Uh:∀ch W b o,p.w0.heap.size<=b->p.R (.panicked ch) W->p.R (.panicked ch) (W.putObj b o)
 inl:∀g c nt rs,f.inl g=U (c,nt,rs)->∃fn,p.P.funcs[g]?=U fn/\fn.body=U c/\fn.ntmps=nt/\fn.results.toList=rs
section
variable{p:Sp}{f:bE}
def az.alh{m:World}{D:cg}{V:ar}{a:Act}{W:World}(Q:az t m D f.ty V x R a W){P:BE}(M:R.tmps.getD X .any=.bool P)(H:P.ab x=b):
  az t m D f.ty V x {R with tmps:=R.tmps.set X (.bool (.c b))} a W:=by
 refine⟨Q.mem,Q.gJ,Q.ei,Q.eb,Q.er,Q.dl,by simpa using Q.size,λi G h=> ?_,Q.gj⟩;simp only[v6] at h;split at h;rename_i F;subst F;split at h;rename_i L;cases h;have B:R.tmps[X]?=U (.bool P):=by
  rw[cz,cS L] at M;rw[cS L];simpa using M
 rcases Q.tmps X _ B with N|N;cases N;right;rw[N];simp[C.ab,BE.ab,H];cases h;exact Q.tmps i G h
end
mutual
def K.eH{R Q P N M H:Nat}(X:R<=N)(W:Q<=M)(V:P<=H):∀(e:K),e.bd R Q P=J->e.bd N M H=J
 |.c n,_=>K.bj.1 _
 |.v k,h=>by simp[K.bj] at h⊢;omega
 |.bin o k a b,h=>by simp[K.bj] at h⊢;exact⟨K.eH X W V a h.1,K.eH X W V b h.2⟩
 |.conv k a,h=>by simp[K.bj] at h⊢;exact K.eH X W V a h
 |.len r,h=>by simp[K.bj] at h⊢;exact RE.eH X W V r h
 |.mm m a b,h=>by simp[K.bj] at h⊢;exact⟨K.eH X W V a h.1,K.eH X W V b h.2⟩
 |.eo b x y,h=>by simp[K.bj] at h⊢;exact⟨⟨BE.eH X W V b h.1.1,K.eH X W V x h.1.2⟩,K.eH X W V y h.2⟩
 |.cell r i j,h=>by simp[K.bj] at h⊢;exact⟨RE.eH X W V r h.1,K.eH X W V i h.2⟩
 |.nW r i,h=>by simp[K.bj] at h⊢;exact⟨RE.eH X W V r h.1,K.eH X W V i h.2⟩
 |.look r n a b c j,h=>by simp[K.bj] at h⊢;exact⟨⟨⟨RE.eH X W V r h.1.1.1,K.eH X W V a h.1.1.2⟩,K.eH X W V b h.1.2⟩,K.eH X W V c h.2⟩
def BE.eH{R Q P N M H:Nat}(X:R<=N)(W:Q<=M)(V:P<=H):∀(e:BE),e.bd R Q P=J->e.bd N M H=J
 |.c n,_=>BE.bj.1 _
 |.v k,h=>by simp[BE.bj] at h⊢;omega
 |.cmp o a b,h=>by simp[BE.bj] at h⊢;exact⟨K.eH X W V a h.1,K.eH X W V b h.2⟩
 |.not a,h=>by simp[BE.bj] at h⊢;exact BE.eH X W V a h
 |.and a b,h=>by simp[BE.bj] at h⊢;exact⟨BE.eH X W V a h.1,BE.eH X W V b h.2⟩
 |.beq a b,h=>by simp[BE.bj] at h⊢;exact⟨BE.eH X W V a h.1,BE.eH X W V b h.2⟩
 |.eo b x y,h=>by simp[BE.bj] at h⊢;exact⟨⟨BE.eH X W V b h.1.1,BE.eH X W V x h.1.2⟩,BE.eH X W V y h.2⟩
 |.cell r i j,h=>by simp[BE.bj] at h⊢;exact⟨RE.eH X W V r h.1,K.eH X W V i h.2⟩
 |.seq a b,h=>by simp[BE.bj] at h⊢;exact⟨RE.eH X W V a h.1,RE.eH X W V b h.2⟩
 |.look r n a b c j,h=>by simp[BE.bj] at h⊢;exact⟨⟨⟨RE.eH X W V r h.1.1.1,K.eH X W V a h.1.1.2⟩,K.eH X W V b h.1.2⟩,K.eH X W V c h.2⟩
 |.has r n a b c,h=>by simp[BE.bj] at h⊢;exact⟨⟨⟨RE.eH X W V r h.1.1.1,K.eH X W V a h.1.1.2⟩,K.eH X W V b h.1.2⟩,K.eH X W V c h.2⟩
def RE.eH{X W V R Q P:Nat}(N:X<=R)(M:W<=Q)(H:V<=P):∀(e:RE),e.bd X W V=J->e.bd R Q P=J
 |.v k,h=>by simp[RE.bj] at h⊢;omega
 |.cell r i j k,h=>by simp[RE.bj] at h⊢;exact⟨RE.eH N M H r h.1,K.eH N M H i h.2⟩
 |.k v,_=>RE.bj.2.2 _
end
def Ui{ty:Ty}{s Q:S}:∀{r:RE}{e:RK},(∀(k:Nat)(e:RK),r.root=U k->s.rs[k]?=U e->∃X,Q.rs[k]?=U X/\X.rd=e.rd)->e≠ .ae->r.kind ty s=e->r.kind ty Q=e
 |.v k,e,W,V,h=>by
  simp only[RE.kind,cz] at h⊢;cases R:s.rs[k]? with
  |none=>rw[R] at h;exact aZ (show e=.ae from h.symm) V
  |some q=>
   rw[R] at h;obtain⟨X,P,N⟩:=W k q rfl R;rw[P];simp only[pu] at h⊢;rw[N];exact h
 |.cell r i j H,e,W,V,h=>by
  simp only[RE.kind] at h⊢;split at h;rename_i X M;rw[Ui (r:=r) W av M];exact h;exact aZ h.symm V
 |.k v,e,W,V,h=>by cases v<;>exact h
def DA{ty:Ty}{s s':S}(h:s.rs=s'.rs):∀r:RE,r.kind ty s=r.kind ty s'
 |.v k=>by simp only[RE.kind,h]
 |.cell r i j k=>by simp only[RE.kind,DA h r]
 |.k v=>by cases v<;>rfl
def BF(ty:Ty)(s X:S):Prop:=∀(r:RE)(e:RK),e≠ .ae->r.kind ty s=e->r.kind ty X=e
def BF.zN{ty:Ty}{X:S}(h:X.rs=R.rs):BF ty R X:=λr e _ W=>by rw[DA h];exact W
def aw0{ty:Ty}{X:S}(W:BF ty R X){c:CT}{y:C}{e:BE}(h:J8 ty R c r y=U e):J8 ty X c r y=U e:=by
 unfold J8 at h⊢;split at h;exact h;exact h;split at h;rename_i V;rw[aJ ⟨W _ _ av V.1,W _ _ av V.2⟩];exact h;cases h;cases h
def ali{ty:Ty}{s W:S}(V:BF ty s W):∀{X:fj}{x y:aq}{e:BE},rZ ty s X x y=U e->rZ ty W X x y=U e
 |[],[],[],e,h=>h
 |c::X,x::P,y::N,e,h=>by
  simp only[rZ] at h⊢;split at h;rename_i a b R Q;rw[aw0 V R,ali V Q];exact h;cases h
 |[],[],_::_,e,h=>by simp[rZ] at h
 |[],_::_,_,e,h=>by simp[rZ] at h
 |_::_,[],_,e,h=>by simp[rZ] at h
 |_::_,_::_,[],e,h=>by simp[rZ] at h
def alj{ty:Ty}{W:S}(Q:BF ty R W){V:E4}{y:aq}{X:BE}(h:J9 ty R V e y=U X):J9 ty W V e y=U X:=by
 unfold J9 at h⊢;split at h;exact ali Q h;cases h
section
variable{ty:Ty}{F:nu}{O:ai}
def Uj{P:S}{G:Op}{r:PR}(W:∀x∈G.operands.toList,P.ev F x=R.ev F x)(N:looks G=J->Bo G=E->BF ty R P)
  (al:∀t x r w i z,G=.load t x->R.ev F x=.el r w i z->∀e,e≠ .ae->r.kind ty R=e->r.kind ty P=e)
  (o:∀i,Bc F R G=U i->cw P.ap i=cw R.ap i)(h:cE ty F R G=r)(V:∀w,r≠ .no w):cE ty F P G=r:=by
 cases G with
 |move x=>have X:=W x cK;simp only[cE] at h⊢;rw[X];exact h
 |assign x=>have X:=W x cK;simp only[cE] at h⊢;rw[X];exact h
 |pick c x y=>
  have X:=W c cK;have M:=W x cK;have l:=W y cK;simp only[cE] at h⊢;rw[X,M,l];exact h
 |load t x=>
  have X:=W x cK;simp only[cE] at h⊢;rw[X];split at h;rename_i ti i z D H;rw[OL (o i (by simp only[Bc,H]))];exact h;rename_i ti r w i z D H;split at h;rename_i e Q;rw[al t x r w i z rfl H _ av Q];exact h;exact aZ h.symm (V _);rename_i ti e ks j D H;have B:((zo j).bind λi=>mb P.ap i)=(zo j).bind λi=>mb R.ap i:=by
   cases hl:zo j with
   |none=>rfl
   |some i=>exact OL (o i (by simp only[Bc,H];exact hl))
  rw[B];exact h;exact aZ h.symm (V _)
 |fieldAddr t x f=>have X:=W x cK;simp only[cE] at h⊢;rw[X];exact h
 |field t x f=>have X:=W x cK;simp only[cE] at h⊢;rw[X];exact h
 |indexAddr t x y=>
  have X:=W x cK;have M:=W y cK;simp only[cE] at h⊢;rw[X,M];split at h;exact h;exact h;exact h;split at h;rename_i D Q;rw[(N rfl rfl) _ _ av Q,D];exact h;exact aZ h.symm (V _);exact h;exact h;exact aZ h.symm (V _)
 |index t x y=>
  have X:=W x cK;have M:=W y cK;simp only[cE] at h⊢;rw[X,M];split at h;exact h;exact h;split at h;rename_i Q;rw[(N rfl rfl) _ _ av Q];exact h;exact aZ h.symm (V _);exact aZ h.symm (V _)
 |binOp G t x y t2=>
  have X:=W x cK;have M:=W y cK;simp only[cE] at h⊢;rw[X,M];split at h;exact h;exact h;exact h;split at h;rename_i v A;simp only[(N rfl rfl) _ _ av v,(N rfl rfl) _ _ av A];exact h;rename_i v A;simp only[(N rfl rfl) _ _ av v,(N rfl rfl) _ _ av A];exact h;exact aZ h.symm (V _);exact h;exact h;split at h;rename_i e Q;rw[alj (N rfl rfl) Q];exact h;rename_i e Q;rw[alj (N rfl rfl) Q];exact h;exact aZ h.symm (V _);exact aZ h.symm (V _)
 |unOp G t x=>have X:=W x cK;simp only[cE] at h⊢;rw[X];exact h
 |convert t1 t2 x=>have X:=W x cK;simp only[cE] at h⊢;rw[X];exact h
 |makeInterface t x=>have X:=W x cK;simp only[cE] at h⊢;rw[X];exact h
 |makeFunc fn first af=>
  have X:af.toList.map (P.ev F)=af.toList.map (R.ev F):=jT λx H=>W x (by simp[iF];exact .inr (by simpa using H))
  simp only[cE] at h⊢;rw[X];exact h
 |extract x i=>have X:=W x cK;simp only[cE] at h⊢;rw[X];exact h
 |nilCheck x=>have X:=W x cK;simp only[cE] at h⊢;rw[X];exact h
 |slice t x g hi mx=>
  have X:=W x cK;have M:g.map (P.ev F)=g.map (R.ev F):=by
   cases g with
   |none=>rfl
   |some y=>simp only[eh];rw[W y cK]
  have l:hi.map (P.ev F)=hi.map (R.ev F):=by
   cases hi with
   |none=>rfl
   |some y=>simp only[eh];rw[W y cK]
  simp only[cE] at h⊢;rw[X,M,l];exact h
 |build t parts=>
  have X:(parts.toList.map λp=>(p.1,P.ev F p.2))=parts.toList.map λp=>(p.1,R.ev F p.2):=jT λp hp=>by rw[W p.2 (by simp[iF];exact⟨p.1,by simpa using hp⟩)]
  simp only[cE] at h⊢;rw[X];exact h
 |lookup t x ix ok=>
  have X:=W x cK;have M:=W ix cK;simp only[cE] at h⊢;rw[X,M];split at h;rename_i k e n ag aj q i D H;have A:=o i (by simp only[Bc,H]);unfold S2 at h⊢;rw[A];split at h;rename_i te a b c bt cs g1 g2 g3;split at h;exact aZ h.symm (V _);rename_i an;rw[aQ an];split at h;rename_i hd;rw[aJ hd];split at h;rename_i r nk ka va;split at h;rename_i u;have:r.oT ty P ⟨k,e,n,ag,te.d.isAgg⟩=true:=by
   simp only[aw] at u;have h6:=u.1.1.1.1.1;unfold RE.oT at h6⊢;rcases au1.1 h6 with h7|h7;rw[decide_eq_true ((N rfl rfl) r _ av (uE h7))];rfl;rw[h7];simp
  simp only[aw] at u;simp only[this,u,v8,cN];exact h;exact aZ h.symm (V _);exact aZ h.symm (V _);rename_i hd;rw[aQ hd];exact h;exact aZ h.symm (V _);exact aZ h.symm (V _)
 |call c=>
  have X:c.args.toList.map (P.ev F)=c.args.toList.map (R.ev F):=jT λx H=>W x (by simp[iF,A7];exact .inr (by simpa using H))
  cases B:c.callee with
  |builtin b=>
   cases b with
   |len=>
    simp only[cE,B] at h⊢;rw[X];split at h;exact h;rename_i t r a0 v A;split at h;rename_i D Q;simp only[(N rfl rfl) _ _ av Q,D];exact h;rename_i D Q;simp only[(N rfl rfl) _ _ av Q,D];exact h;exact aZ h.symm (V _);exact h;exact aZ h.symm (V _)
   |min=>simp only[cE,B] at h⊢;rw[X];exact h
   |max=>simp only[cE,B] at h⊢;rw[X];exact h
   |_=>simp only[cE,B] at h;exact aZ h.symm (V _)
  |value f=>simp only[cE,B] at h;exact aZ h.symm (V _)
  |invoke r m=>simp only[cE,B] at h;exact aZ h.symm (V _)
 |_=>simp only[cE] at h;exact aZ h.symm (V _)
end
def PR.zO(s:S)(O:ai)(v:C):PR->Prop
 |.ok x=>v=x
 |.be b x=>b.ab O=J/\b.bd s.ni s.nb (Y s.rs)=J/\v=x
 |_=>False
def Uk{X:PR}(h:X.zO R x r):X.gives x r:=by
 cases X with
 |ok W=>exact h
 |be b W=>exact⟨h.1,h.2.2⟩
 |no w=>exact h
def im(B:dN)(m:OM)(s:S)(O:ai):Option Bool:=match m.o.guard with
 |none=>U J
 |U (j,X)=>match(B[j]?).bind (·.dst) with
  |U d=>match s.tmps[d]? with
   |U (.bool b)=>if b.bd s.ni s.nb (Y s.rs) then U (b.ab O==X) else Z
   |U (.bM [])=>U E
   |_=>Z
  |none=>Z
def QV(u:bE)(B:dN)(O:ai)(m:OM)(s:S)(v:C)(l:Nat):Prop:=
 (im B m s O=U E/\v=.bM []/\l=0)\/
 (im B m s O=U J/\(∀x∈m.o.op.operands.toList,(s.ev u.gl x).eO=E)/\match m.o.op with
  |.pick c x y=>∃e:BE,s.ev u.gl c=.bool e/\e.bd s.ni s.nb (Y s.rs)=J/\v=(if e.ab O then s.ev u.gl x else s.ev u.gl y)/\l=0
  |.load t x=>(cE u.ty u.gl s (.load t x)).zO s O v/\l=Oj m.bS (s.ev u.gl x)
  |op=>(cE u.ty u.gl s op).zO s O v/\l=0)
def OR.Ib(s:S)(O:ai)(X:S):OR->Prop
 |.ok x=>X=x
 |.be b x=>b.ab O=J/\b.bd s.ni s.nb (Y s.rs)=J/\X=x
 |.split b W V=>b.bd s.ni s.nb (Y s.rs)=J/\X=if b.ab O then W else V
 |.no _=>False
def iS(u:bE)(m:OM)(s:S)(O:ai)(X:S):Prop:=(gG u m s).Ib s O X
def K9{u:bE}{m:OM}{s X:S}{O:ai}(h:iS u m s O X):(gG u m s).gives O X:=by
 unfold iS at h;cases W:gG u m s<;>rw[W] at h;exact h;exact⟨h.1,h.2.2⟩;exact h.2;exact h
def alk{Q:S}{d:cM}{r:PR}:(tG R d X r).Ib R x Q<->∃v,r.zO R x v/\Q=R.dF d v X:=by
 cases r with
 |ok v=>exact⟨λh=>⟨v,rfl,h⟩,λ⟨w,W,V⟩=>by cases W;exact V⟩
 |be b v=>
  simp only[tG];split;rename_i P;exact⟨λh=>⟨v,⟨h.1,h.2.1,rfl⟩,h.2.2⟩,λ⟨w,⟨W,V,N⟩,M⟩=>⟨W,V,by rw[M,N]⟩⟩;rename_i P;exact⟨λh=>h.elim,λ⟨w,⟨W,V,N⟩,M⟩=>aZ V P⟩
 |no w=>exact⟨λh=>h.elim,λ⟨w,W,V⟩=>W.elim⟩
def La(p:Sp)(u:bE)(s:S)(O:ai)(g:FuncId)(N:aq)(X:ai->C->S->Prop):Prop:=
 ∃G Q l,u.sig g=U G/\iG u.ty G=U Q/\Bg u.ty G ((s.cut N Q).cP Q).1=U l/\(s.e9 N&&qu Q)=J/\
  ∀V W,jW p.S0 p.w0 V O (wj (sa (C.pC N) 0 s.ap)) p.ty (Ou N s.rs) W->Calls p.P g (C.aE O V N).toArray W λ
   |.returned v,M=>∃H,eP Q H/\v=(one l).ab (O.ext H) V/\Below W.heap.size W M/\KF p.ty M W.heap.size (O.qz p.ty (Ou N s.rs)) Q H/\X (O.ext H) (one l) ((s.cut N Q).cP Q).2
   |.panicked F,M=>Below W.heap.size W M/\p.R (.panicked F) M
   |.outgrown,_=>False
def tT(o:Option BI)(f:BI->Prop)(g:Prop):Prop:=match o with
 |U b=>f b
 |none=>g
def qC(o:Option (C×bG))(f:C->bG->Prop)(g:Prop):Prop:=match o with
 |U (v,X)=>f v X
 |none=>g
def eQ(p:Sp)(u:bE)(B:dN)(A:xT)(X:ai->S->Prop)(W:ai->C->S->Prop)(V:OM->cX->ai->S->Nat->aq->Prop):cX->ai->S->Prop
 |[],O,s=>X O s
 |m::R,O,s=>
  (im B m s O=U E/\eQ p u B A X W V R O (s.put m.o.dst (.bM [])))\/
  (im B m s O=U J/\match eB u s m.o with
   |.call (.fn g) Q=>qC (A g Q s) (λv M=>s.bd=J/\eQ p u B A X W V R O ((s.plus M).put m.o.dst v)) (La p u s O g Q λH v P=>eQ p u B A X W V R H (P.put m.o.dst v))
   |.call (.yl n) Q=>m.so=J/\V m R O s n Q
   |.bI v=>W O v s
   |.no=>False
   |.op=>tT (eZ u m.o m.bS m.dr s) (λb=>b.be.ab O=J/\∀N,HX p.ty p.S0 p.w0 b.e b.x s.rs O N->eQ p u B A X W V R (O.add (.r N)) b.s) (∃P,iS u m s O P/\eQ p u B A X W V R O P))
def BG(s:S)(O:ai)(X:Fx):Prop:=∀x∈X,x.1.ab O=x.2/\x.1.bd s.ni s.nb (Y s.rs)=J
def abb{p:Sp}{L:dC}{V:Fx}{b:BE}{t f:Fx->T}(P:BG R x V)(h:(Db R V b t f).aP p x L):
  b.bd R.ni R.nb (Y R.rs)=J/\∃M,BG R x M/\(if b.ab x then(t M).aP p x L else(f M).aP p x L):=by
 have G:uT x V:=λX N=>(P X N).1
 have F:∀v,Ol V b=U v->b.bd R.ni R.nb (Y R.rs)=true:=by
  intro v W;unfold Ol at W;split at W;exact BE.bj.1 _;cases H:V.find? (λX=>X.1.aN b) with
  |none=>rw[H] at W;cases W
  |some X=>
   have A:=SO H;rw[<-BE.bY _ _ A];exact(P X (SF H)).2
 unfold Db at h;split at h;rename_i W;exact⟨F _ W,V,P,by rw[TZ G W];exact h⟩;rename_i W;exact⟨F _ W,V,P,by rw[TZ G W];exact h⟩;split at h;rename_i D;simp only[T.aP] at h;refine⟨D, ?_⟩;have B:∀v,b.ab x=v->BG R x ((b,v)::V):=λv Q X N=>by
  rcases dP.1 N with rfl|N;exact⟨Q,D⟩;exact P X N
 cases Q:b.ab x;exact⟨_,B _ Q,by simpa using h.2 Q⟩;exact⟨_,B _ Q,by simpa using h.1 Q⟩;exact h.elim
section
variable{p:Sp}{u:bE}{B:dN}{A:xT}{L:dC}{G:YH}{k:S->T}{D:C->S->T}
def f8(s:S)(d:cM)(v:C):(s.put d v).ni=s.ni/\(s.put d v).nb=s.nb/\(s.put d v).rs=s.rs:=by cases d<;>exact⟨rfl,rfl,rfl⟩
def alm{m:OM}{s X:S}{O:ai}(h:(gG u m s).gives O X):X.ni=s.ni/\X.nb=s.nb/\X.rs=s.rs:=by
 unfold gG at h;split at h;exact h.elim;split at h;split at h;split at h;cases h;exact f8 _ _ _;exact h.elim;exact h.elim;split at h;split at h;cases h;exact f8 _ _ _;exact h.elim;exact h.elim;split at h;split at h;split at h;split at h;cases h;exact f8 _ _ _;exact h.elim;exact h.elim;exact h.elim;exact h.elim;split at h;split at h;split at h;cases h;exact f8 _ _ _;exact h.elim;exact h.elim;exact h.elim;split at h;simp only[OR.gives] at h;split at h<;>(subst h;exact f8 _ _ _);exact h.elim;obtain⟨v,-,rfl⟩:=BA h;exact f8 _ _ _;obtain⟨v,-,rfl⟩:=BA h;exact f8 _ _ _
def Pj{d:cM}{be:BE}{k:RK}{x:LE}{dq:ar}{b:BI}(h:kC R d be v k x t dq=U b):b.s.ni=R.ni/\b.s.nb=R.nb/\Y b.s.rs=Y R.rs+1:=by
 obtain⟨-,-,rfl⟩:=zH h;refine⟨(f8 _ _ _).1,(f8 _ _ _).2.1, ?_⟩;simp only;rw[(f8 _ _ _).2.2];simp[By,Bw]
def aln{V:Bool}{X:BI}(h:eZ u l b V R=U X):X.s.ni=R.ni/\X.s.nb=R.nb/\Y X.s.rs=Y R.rs+1:=by
 unfold eZ at h;split at h;split at h;split at h;split at h;split at h;split at h;cases h;split at h;exact Pj h;cases h;cases h;cases h;cases h;cases h;split at h;split at h;split at h;exact Pj h;cases h;cases h;cases h;split at h;cases h;split at h;split at h;split at h;split at h;exact Pj h;cases h;cases h;cases h;cases h;split at h;cases h
 ·split at h
  all_goals first
   |cases h
   |(split at h
     split at h;exact Pj h;cases h;cases h)
 split at h;cases h;split at h;split at h;split at h;split at h;cases W:kC R Z (wh _ (.len (.v _))) _ (.own _) _ [_] _ with
 |none=>rw[W] at h;cases h
 |some M=>
  rw[W] at h;simp only[eh,cU] at h;subst h;obtain⟨Q,P,N⟩:=Pj W;refine⟨?_, ?_, ?_⟩;simp only;rw[(f8 _ _ _).1];exact Q;simp only;rw[(f8 _ _ _).2.1];exact P;simp only;rw[(f8 _ _ _).2.2];exact N
 cases h;cases h;cases h;cases h;cases h
def alo{W:S}{d:cM}{r:PR}{b:BE}(h:tG R d X r=.be b W):b.bd R.ni R.nb (Y R.rs)=true:=by
 cases r with
 |ok v=>cases h
 |be Q v=>
  simp only[tG] at h;split at h;rename_i V;cases h;exact V;cases h
 |no w=>cases h
def aw1{m:OM}{s X:S}{b:BE}(h:gG u m s=.be b X):b.bd s.ni s.nb (Y s.rs)=true:=by
 unfold gG at h;split at h;cases h;split at h
 ·(repeat' split at h)<;>cases h
 ·(repeat' split at h)<;>cases h
 ·(repeat' split at h)<;>cases h
 ·(repeat' split at h)<;>cases h
 ·(repeat' split at h)<;>cases h
 exact alo h;exact alo h
structure Fz(B:dN)(A:xT):Prop where
 q:∀(g:FuncId)(args:aq)(s:S)(d:cM)(v:C)(l:Nat),A g args (s.dF d v l)=A g args s
 z:∀(g:FuncId)(s:S)(n:Nat)(t:TypeId)(cs:aq)(d:cM)(w:C),gu s.ap n=J->A g [] ((s.dt n t cs).put d w)=A g [] s
 reg:∀(g:FuncId)(args:aq)(s:S)(r:C×bG),A g args s=U r->Tj B=J
def alp{W:bG}(h:aK R.ap X=J):cw (R.plus W).ap X=cw R.ap X:=by
 obtain⟨b,V⟩:=ln.1 h;have Q:=(ck.1 (kj.1 V)).1;simp only[cV,S.plus,dH Q]
def alq{W:bG}(h:gu R.ap X=J):gu (R.plus W).ap X=true:=by
 have V:=(nF h).2;simp only[gu,S.plus,dH V] at h⊢;exact h
def abd{g:HB}(h:eB u R l=.call g e):zx l.op=true:=by
 unfold eB at h;split at h;split at h<;>cases h
 ·rename_i c W;rw[W];cases X:c.callee with
  |value f=>simp[zx,X]
  |invoke r m=>rw[X] at h;cases h
  |builtin b=>
   rw[X] at h;exfalso;revert h;cases b<;>simp only
   all_goals first
    |(intro h;cases h;done)
    |(split<;>intro h<;>first|(cases h;done)|(split at h<;>cases h))
 cases h
def alr{g:FuncId}(X:Kk l.op=J)(h:eB u R l=.call (.fn g) e):e=[]:=by
 unfold Kk at X;split at X;rename_i c W;split at X;rename_i f V;have Q:c.args.toList=[]:=by simpa using X
 simp only[eB,W,V,S.ev,xM,Q,List.any_nil,jp,gf,qn,eW,CK.call.injEq,HB.fn.injEq] at h;exact h.2.symm;cases X;cases X
def FA(p:Sp)(k:S->T)(L:dC)(O:ai)(s:S):Prop:=(k s).aP p O L
def DB(p:Sp)(D:C->S->T)(L:dC)(O:ai)(v:C)(s:S):Prop:=(D v s).aP p O L
def DC(p:Sp)(u:bE)(B:dN)(A:xT)(G:YH)(k:S->T)(D:C->S->T)(L:dC)(m:OM)(X:cX)(O:ai)(s:S)(n:Nat)(V:aq):Prop:=
 (∀R∈X,R.dr=J)/\∃W,BG s O W/\(zy u A G (.yl n) V s (λv Q=>oA u (zy u A G) B k D X (Q.put m.o.dst v) (pF s W)) D).aP p O L
def Ic(a4:p.ty=u.ty):∀(l:cX)(s:S)(fx:Fx)(O:ai),Y O.i=s.ni->Y O.b=s.nb->Y O.r=Y s.rs->(oA u (zy u A G) B k D l s fx).aP p O L->BG s O fx->
  (∀m∈l,m.dr=J)->eQ p u B A (FA p k L) (DB p D L) (DC p u B A G k D L) l O s
 |[],s,fx,O,_,_,_,h,_,_=>h
 |m::Q,s,fx,O,e1,e2,e3,h,ba,bt=>by
  have bc:m.dr=true:=bt m av;have a1:∀m∈Q,m.dr=true:=λm' b1=>bt m' (by simp[b1])
  have b2:Bj u m s=none:=by simp[Bj,bc]
  have b3:Dc u m s=none:=by simp[Dc,bc]
  have b4:∀c f,Bi u m s c f=none:=λc f=>by simp[Bi,bc]
  have bf:∀(s:S)(d:cM)(v:C),(s.put d v).ni=s.ni/\(s.put d v).nb=s.nb/\(s.put d v).rs=s.rs:=λs d v=>by cases d<;>exact⟨rfl,rfl,rfl⟩
  have bx:∀(X:S)(P:Fx),X.ni=s.ni->X.nb=s.nb->X.rs=s.rs->BG s O P->BG X O P:=λX P h1 M h3 hf x hx=>by rw[h1,M,h3];exact hf x hx
  have bg:∀P,BG s O P->(Bl u (zy u A G) m s (oA u (zy u A G) B k D Q) D P).aP p O L->
    (match eB u s m.o with
     |.call (.fn g) t=>qC (A g t s) (λv ex=>s.bd=J/\eQ p u B A (FA p k L) (DB p D L) (DC p u B A G k D L) Q O ((s.plus ex).put m.o.dst v)) (La p u s O g t λO' v X=>eQ p u B A (FA p k L) (DB p D L) (DC p u B A G k D L) Q O' (X.put m.o.dst v))
     |.call (.yl n) t=>m.so=J/\DC p u B A G k D L m Q O s n t
     |.bI v=>DB p D L O v s
     |.no=>False
     |.op=>tT (eZ u m.o m.bS m.dr s) (λb=>b.be.ab O=J/\∀rv,HX p.ty p.S0 p.w0 b.e b.x s.rs O rv->eQ p u B A (FA p k L) (DB p D L) (DC p u B A G k D L) Q (O.add (.r rv)) b.s)
      (∃X,iS u m s O X/\eQ p u B A (FA p k L) (DB p D L) (DC p u B A G k D L) Q O X):Prop):=by
   intro P an h;unfold Bl at h;rw[b2] at h;simp only[b3,b4] at h;cases hc:eB u s m.o with
   |call g0 t=>
    rw[hc] at h;cases g0 with
    |yl n=>
     simp only at h⊢;split at h;rename_i b5;exact⟨b5,a1,P,an,h⟩;exact h.elim
    |fn g=>
    simp only[zy] at h;simp only;cases b0:A g t s with
    |some ve=>
     obtain⟨v,ex⟩:=ve;rw[b0] at h;simp only at h;split at h;rename_i H;refine⟨H, ?_⟩;obtain⟨F,z,w⟩:=bf (s.plus ex) m.o.dst v;refine Ic a4 Q _ _ O (by rw[F];exact e1) (by rw[z];exact e2) (by rw[w];exact e3) h (λx hx=> ?_) a1;rw[F,z,w];exact an x (qm.1 hx).1;exact h.elim
    |none=>
    rw[b0] at h;simp only[zv] at h;simp only[qC];split at h;rename_i ts b6;split at h;rename_i ks b7;split at h;rename_i l hl;split at h;rename_i H;refine⟨ts,ks,l,b6,b7,hl,H,λV W R=> ?_⟩;simp only[T.aP] at h;refine(h O.y V W R).mono ?_;intro e W' he;cases e with
    |returned v=>
     obtain⟨xs,h1,M,h3,h4,h5⟩:=he;have hy:(O.ext xs).at O.y=O.ext xs:=by have:=K6 xs O;unfold ai.at;rw[<-this]
     rw[hy] at M;refine⟨xs,h1,M,h3,h4, ?_⟩;obtain⟨l1,l2,l3⟩:=zL ks xs (s.cut t ks) O h1 e1 e2 (e3.trans (Fy t ks s.rs).len.symm);have a3:=bf ((s.cut t ks).cP ks).2 m.o.dst (one l);refine Ic a4 Q _ _ _ (by rw[a3.1];exact l1) (by rw[a3.2.1];exact l2) (by rw[a3.2.2];exact l3) h5 ?_ a1;intro x hx;obtain⟨bk,b8⟩:=qm.1 hx;obtain⟨j,N⟩:=an x bk;have ca:=Fl xs O;have bl:=TL xs O;refine⟨by rw[BE.ep ca _ (by rw[e1,e2,e3];exact N)];exact j, ?_⟩;rw[a3.1,a3.2.1,a3.2.2,<-l1,<-l2,<-l3];exact BE.eH (by rw[<-e1];exact bl.1) (by rw[<-e2];exact bl.2.1) (by rw[<-e3];exact bl.2.2) _ N
    |panicked ch=>exact he
    |outgrown=>exact he
    exact h.elim;exact h.elim;exact h.elim;exact h.elim
   |bI v=>rw[hc] at h;exact h
   |no=>rw[hc] at h;exact h
   |op=>
    rw[hc] at h;simp only at h⊢;cases br:eZ u m.o m.bS m.dr s with
    |some b=>
     rw[br] at h;obtain⟨hn,h⟩:=h;refine⟨hn,λrv cc=> ?_⟩;obtain⟨F,z,w⟩:=aln br;have cl:(O.add (.r rv)).r.length=Y b.s.rs:=by simp[ai.add,w,e3]
     refine Ic a4 Q b.s _ _ (by rw[F];exact e1) (by rw[z];exact e2) cl (h rv cc) ?_ a1;intro x hx;obtain⟨bk,b8⟩:=qm.1 hx;obtain⟨j,N⟩:=an x bk;refine⟨by rw[BE.ep (Tw O (.r rv)) _ (by rw[e1,e2,e3];exact N)];exact j, ?_⟩;exact BE.eH aa aa aa _ N
    |none=>
    rw[br] at h;simp only[tT] at h⊢;have bb:∀X a9,BG s O a9->iS u m s O X->(oA u (zy u A G) B k D Q X a9).aP p O L->∃X,iS u m s O X/\eQ p u B A (FA p k L) (DB p D L) (DC p u B A G k D L) Q O X:=by
     intro X a9 hf hG hs;obtain⟨F,z,w⟩:=alm (K9 hG);exact⟨X,hG,Ic a4 Q X a9 O (by rw[F];exact e1) (by rw[z];exact e2) (by rw[w];exact e3) hs (bx X a9 F z w hf) a1⟩
    split at h;rename_i X a0;exact bb X P an (by unfold iS;rw[a0];rfl) h;rename_i b X a0;refine bb X P an ?_ h.2;unfold iS;rw[a0];exact⟨h.1,aw1 a0,rfl⟩;rename_i b s1 s2 a0;obtain⟨N,af,ag,M⟩:=abb an h;cases hv:b.ab O;exact bb s2 af ag (by unfold iS;rw[a0];simp[OR.Ib,hv,N]) (by simpa[hv] using M);exact bb s1 af ag (by unfold iS;rw[a0];simp[OR.Ib,hv,N]) (by simpa[hv] using M);exact h.elim
  have bs:∀P,BG s O P->(oA u (zy u A G) B k D Q (s.put m.o.dst (.bM [])) P).aP p O L->eQ p u B A (FA p k L) (DB p D L) (DC p u B A G k D L) Q O (s.put m.o.dst (.bM [])):=by
   intro P hf h;obtain⟨F,z,w⟩:=bf s m.o.dst (.bM []);exact Ic a4 Q _ P O (by rw[F];exact e1) (by rw[z];exact e2) (by rw[w];exact e3) h (bx _ P F z w hf) a1
  simp only[oA,Tf] at h;cases al:m.o.guard with
  |none=>
   rw[al] at h;exact .inr ⟨by simp[im,al],bg fx ba h⟩
  |some q=>
   obtain⟨jj,cn⟩:=q;rw[al] at h;simp only at h;split at h;rename_i d j;split at h;rename_i b H;cases cn;simp only[jp,gf] at h;obtain⟨N,af,ag,M⟩:=abb ba h;cases a:b.ab O;exact .inr ⟨by simp[im,al,j,H,N,a],bg af ag (by simpa[a] using M)⟩;exact .inl ⟨by simp[im,al,j,H,N,a],bs af ag (by simpa[a] using M)⟩;simp only[cN] at h;obtain⟨N,af,ag,M⟩:=abb ba h;cases a:b.ab O;exact .inl ⟨by simp[im,al,j,H,N,a],bs af ag (by simpa[a] using M)⟩;exact .inr ⟨by simp[im,al,j,H,N,a],bg af ag (by simpa[a] using M)⟩;rename_i H;exact .inl ⟨by simp[im,al,j,H],bs fx ba h⟩;exact h.elim;exact h.elim
end
section
variable{p:Sp}{cf:bE}{ops:dN}{A:xT}
structure ly(cf:bE)(ops:dN)(o:Oper)(s:S)(O:ai)(s':S)(O':ai):Prop where
 tm:∀t∈jV ops o,s'.tmps[t]?=s.tmps[t]?
 kd:looks o.op=J->Bo o.op=E->BF cf.ty s s'
 kl:∀t x r w i off,o.op=.load t x->s.ev cf.gl x=.el r w i off->∀e,e≠ .ae->r.kind cf.ty s=e->r.kind cf.ty s'=e
 li:s.ni<=s'.ni
 lb:s.nb<=s'.nb
 lr:Y s.rs<=Y s'.rs
 ag:i7 O O' s.ni s.nb (Y s.rs)
def ly.zN{o:Oper}{s X:S}{O:ai}(V:∀t∈jV ops o,X.tmps[t]?=s.tmps[t]?)(W:X.rs=s.rs)(R:X.ni=s.ni)(Q:X.nb=s.nb):ly cf ops o s O X O:=
 ⟨V,λ_ _=>BF.zN W,λt x r w i P _ _=>BF.zN W r,E2 R.symm,E2 Q.symm,E2 (by rw[W]),i7.refl _ _ _ _⟩
def ly.ev{o:Oper}{s X:S}{O V:ai}(h:ly cf ops o s O X V)(W:nu):∀x∈o.op.operands.toList,X.ev W x=s.ev W x:=by
 intro x R;cases x with
 |tmp t=>
  have:t∈jV ops o:=by
   unfold jV;exact xD _ (C0.2 ⟨.tmp t,R,rfl⟩)
  simp only[S.ev,xM,cz,h.tm t this]
 |const v=>rfl
 |global g=>rfl
 |func f=>rfl
def ly.guard{m:OM}{s W:S}{O Q:ai}(h:ly cf ops m.o s O W Q){b:Bool}(X:im ops m s O=U b):im ops m W Q=U b:=by
 unfold im at X⊢;cases V:m.o.guard with
 |none=>rw[V] at X;exact X
 |some q=>
  obtain⟨j,M⟩:=q;rw[V] at X;simp only at X⊢;cases R:(ops[j]?).bind (·.dst) with
  |none=>rw[R] at X;cases X
  |some d=>
   rw[R] at X;simp only at X⊢;have N:W.tmps[d]?=s.tmps[d]?:=h.tm d (by unfold jV;rw[V];exact N1 _ (by simp[R]));rw[N];split at X;rename_i e L;split at X;rename_i P;rw[aJ (BE.eH h.li h.lb h.lr _ P),BE.ep h.ag _ P];exact X;cases X;exact X;cases X
def als{Q:S}{N:ai}(h:ly cf ops l R x Q N)(M:∀i,Bc cf.gl R l.op=U i->cw Q.ap i=cw R.ap i)
  (W:(cE cf.ty cf.gl R l.op).zO R x r):(cE cf.ty cf.gl Q l.op).zO Q N r:=by
 have H:cE cf.ty cf.gl Q l.op=cE cf.ty cf.gl R l.op:=by
  cases V:cE cf.ty cf.gl R l.op with
  |ok X=>exact Uj (ty:=cf.ty) (h.ev cf.gl) h.kd h.kl M V (λw P=>by cases P)
  |be b X=>exact Uj (ty:=cf.ty) (h.ev cf.gl) h.kd h.kl M V (λw P=>by cases P)
  |no w=>rw[V] at W;exact W.elim
 rw[H];cases V:cE cf.ty cf.gl R l.op with
 |ok X=>rw[V] at W;exact W
 |be b X=>
  rw[V] at W;obtain⟨G,L,F⟩:=W;exact⟨by rw[BE.ep h.ag _ L];exact G,BE.eH h.li h.lb h.lr _ L,F⟩
 |no w=>rw[V] at W;exact W.elim
def abe{m:OM}{s R:S}{O L:ai}(h:ly cf ops m.o s O R L)(H:∀i,Bc cf.gl s m.o.op=U i->cw R.ap i=cw s.ap i){v:C}{l:Nat}(D:QV cf ops O m s v l):QV cf ops L m R v l:=by
 rcases D with⟨Q,P,X⟩|⟨Q,P,X⟩;exact .inl ⟨h.guard Q,P,X⟩;refine .inr ⟨h.guard Q,λx G=>by rw[h.ev cf.gl x G];exact P x G, ?_⟩;have W:=h.ev cf.gl;cases N:m.o.op with
 |pick c x y=>
  rw[N] at X W;obtain⟨e,B,F,A,z⟩:=X;refine⟨e,by rw[W c cK];exact B,BE.eH h.li h.lb h.lr _ F, ?_,z⟩;rw[BE.ep h.ag _ F,W x cK,W y cK];exact A
 |load t x=>
  have V:=λ(M:(cE cf.ty cf.gl s m.o.op).zO s O v)=>als (cf:=cf) h H M
  rw[N] at X W V;exact⟨V X.1,by rw[W x cK];exact X.2⟩
 |_=>
  have V:=λ(M:(cE cf.ty cf.gl s m.o.op).zO s O v)=>als (cf:=cf) h H M
  rw[N] at X V;exact⟨V X.1,X.2⟩
def aw2(h:nY l.op=J):eB cf R l=.op:=by
 unfold eB;cases W:l.op<;>rw[W] at h<;>simp[nY] at h<;>try rfl
 rename_i c;cases X:c.callee with
 |builtin b=>cases b<;>simp[X] at h<;>simp[X]
 |value f=>simp[X] at h
 |invoke r m=>simp[X] at h
def Ie(s:S)(d:cM)(v:C):s.dF d v 0=s.put d v:=by simp[S.dF]
def Lb{m:OM}{s V:S}{O:ai}(H:nY m.o.op=J)(R:im ops m s O=U J):iS cf m s O V<->∃v l,QV cf ops O m s v l/\V=s.dF m.o.dst v l:=by
 unfold iS gG QV;by_cases Q:(m.o.op.operands.toList.any λx=>(s.ev cf.gl x).eO)=J;simp only[Q,cN];constructor;exact λh=>h.elim
 rintro⟨v,l,h|h,-⟩;rw[R] at h;cases h.1;obtain⟨x,M,G⟩:=kH.1 Q;have:=h.2.1 x M;rw[this] at G;cases G
 ·have F:∀x∈m.o.op.operands.toList,(s.ev cf.gl x).eO=false:=by
   intro x M;cases w:(s.ev cf.gl x).eO;rfl;exact aZ (kH.2 ⟨x,M,w⟩) Q
  have L:¬im ops m s O=U false:=by rw[R];simp
  have D:∀(P:Nat),(tG s m.o.dst P (cE cf.ty cf.gl s m.o.op)).Ib s O V<->∃v l,((im ops m s O=U E/\v=.bM []/\l=0)\/(im ops m s O=U J/\(∀x∈m.o.op.operands.toList,(s.ev cf.gl x).eO=E)/\(cE cf.ty cf.gl s m.o.op).zO s O v/\l=P))/\V=s.dF m.o.dst v l:=by
   intro P;rw[alk];constructor;rintro⟨v,X,W⟩;exact⟨v,P,.inr ⟨R,F,X,rfl⟩,W⟩;rintro⟨v,l,h|⟨-,-,X,rfl⟩,N⟩;exact aZ h.1 L;exact⟨v,X,N⟩
  rw[aQ Q];cases B:m.o.op<;>rw[B] at H D<;>simp only[nY,jp] at H
  case pick c x y=>
   simp only;cases t:s.ev cf.gl c with
   |bool e=>
    constructor;rintro⟨X,W⟩;refine⟨if e.ab O then s.ev cf.gl x else s.ev cf.gl y,0,.inr ⟨R,by rw[<-B];exact F,e,rfl,X,rfl,rfl⟩, ?_⟩;rw[Ie,W];split<;>rfl;rintro⟨v,l,h|⟨-,-,u,X,W,A,z⟩,N⟩;exact aZ h.1 L;cases X;subst z;refine⟨W, ?_⟩;rw[N,Ie,A];split<;>rfl
   |_=>
    constructor;exact λh=>h.elim
    rintro⟨v,l,h|⟨-,-,u,X,W,A,z⟩,N⟩;exact aZ h.1 L;cases X
  all_goals exact D _
variable{a:ai->S->Prop}{k:ai->C->S->Prop}{n:OM->cX->ai->S->Nat->aq->Prop}
def alu(W:nY l.op=J):eZ cf l b J R=none:=by
 unfold eZ;cases Q:l.op<;>rw[Q] at W<;>simp only[nY,jp] at W<;>try rfl
 rename_i c;cases V:c.callee with
 |builtin X=>cases X<;>simp[V] at W<;>simp[V]
 |value f=>simp[V] at W
 |invoke r m=>simp[V] at W
def alv{P:cX}(N:h.dr=J)(Q:nY h.o.op=J):eQ p cf ops A a k n (h::P) x R<->∃v l,QV cf ops x h R v l/\eQ p cf ops A a k n P x (R.dF h.o.dst v l):=by
 simp only[eQ,aw2 Q,N,alu Q,tT];constructor;rintro(⟨V,X⟩|⟨V,L,X,W⟩);exact⟨.bM [],0,.inl ⟨V,rfl,rfl⟩,by rw[Ie];exact X⟩;obtain⟨v,l,M,rfl⟩:=(Lb (ops:=ops) Q V).1 X;exact⟨v,l,M,W⟩;rintro⟨v,l,V,X⟩;rcases V with⟨W,rfl,rfl⟩|W;rw[Ie] at X;exact .inl ⟨W,X⟩;exact .inr ⟨W.1,_,(Lb (ops:=ops) Q W.1).2 ⟨v,l,.inr W,rfl⟩,X⟩
end
section
variable{p:Sp}{A:bE}{B:dN}{D:xT}
def mR{d:cM}(h:d≠U X):(R.put d r).tmps[X]?=R.tmps[X]?:=by
 cases d with
 |none=>rfl
 |some d=>simp only[S.put,wc];rw[rX (λe=>h (by rw[e]))]
def Lc{d:cM}{t:Nat}(h:d≠U t):(R.dF d r X).tmps[t]?=R.tmps[t]?:=by
 unfold S.dF;rw[mR h]
def mj(s:S)(d:cM)(v:C):(s.put d v).ap=s.ap:=by cases d<;>rfl
def DD(s:S)(d:cM)(v:C)(l:Nat):(s.dF d v l).ap=s.ap:=by unfold S.dF;rw[mj]
def Ul(s:S)(d:cM)(v:C):(s.put d v).lk=s.lk:=by cases d<;>rfl
def abf{d e:cM}{w:C}(h:∀x,d=U x->e≠U x):(R.put d r).put e w=(R.put e w).put d r:=by
 cases d with
 |none=>cases e<;>rfl
 |some d=>
  cases e with
  |none=>rfl
  |some e=>
   have X:d≠e:=λW=>h d rfl (by rw[W])
   simp only[S.put,wc];rw[List.set_comm _ _ X]
def Pl{s:S}{d e:cM}{v w:C}{l:Nat}(h:∀x,d=U x->e≠U x):(s.dF d v l).put e w=(s.put e w).dF d v l:=by
 unfold S.dF;rw[abf h];cases e<;>rfl
def aw3{d e:cM}{w:C}{W:Nat}(h:∀x,d=U x->e≠U x):(R.dF d r X).dF e w W=(R.dF e w W).dF d r X:=by
 have V:(R.dF d r X).dF e w W={(R.dF d r X).put e w with lk:=R.lk|||X|||W}:=by
  unfold S.dF;cases e<;>cases d<;>rfl
 have Q:(R.dF e w W).dF d r X={(R.dF e w W).put d r with lk:=R.lk|||W|||X}:=by
  unfold S.dF;cases e<;>cases d<;>rfl
 rw[V,Q,Nat.or_assoc,Nat.or_comm X W,<-Nat.or_assoc];have P:(R.dF d r X).put e w={(R.put d r).put e w with lk:=R.lk|||X}:=by unfold S.dF;cases e<;>cases d<;>rfl
 have O:(R.dF e w W).put d r={(R.put e w).put d r with lk:=R.lk|||W}:=by unfold S.dF;cases e<;>cases d<;>rfl
 rw[P,O,abf h]
def aw4(s:S)(d:cM)(v:C)(l n:Nat)(t:TypeId)(X:aq):(s.dF d v l).dt n t X=(s.dt n t X).dF d v l:=by
 unfold S.dF S.dt;cases d<;>rfl
structure abg(B:dN)(x y:OM)(dx:Nat):Prop where
 xd:x.dr=J
 yd:y.dr=J
 qx:nY x.o.op=J
 np:Kj y.o.op=E
 dst:x.o.dst=U dx
 ry:dx∉jV B y.o
 dy:y.o.dst≠U dx
 rx:dx∉jV B x.o
 yx:∀d,y.o.dst=U d->d∉jV B x.o
 rc:zw y.o.op=J->Bo x.o.op=J->x.bS=J/\y.bS=J
 rb:Dg y.o.op=J->looks x.o.op=J->Bo x.o.op=J/\x.bS=J/\y.bS=J
def alw{x y:OM}(h:Th B x y=J):∃Q,abg B x y Q:=by
 unfold Th at h;simp only[aw,ik] at h;obtain⟨⟨⟨⟨⟨⟨⟨L,H⟩,G⟩,F⟩,X⟩,V⟩,O⟩,R⟩:=h;cases P:x.o.dst with
 |none=>rw[P] at X;cases X
 |some Q=>
  rw[P] at X;simp only[aw,ik,bne_iff_ne] at X;obtain⟨⟨N,D⟩,M⟩:=X;refine⟨Q,L,H,G,F,P, ?_,D, ?_, ?_, ?_, ?_⟩;intro W;rw[qj.2 W] at N;cases N;intro W;rw[qj.2 W] at M;cases M;intro d A W;rw[A] at V;simp only[ik] at V;rw[qj.2 W] at V;cases V;intro a b;simp only[a,b,Zy,avn,aw] at O;exact O;intro a b;simp only[a,b,Zy,avn,aw] at R;exact⟨R.1.1,R.1.2,R.2⟩
def FB{X:S}(h:∀x∈l.op.operands.toList,X.ev A.gl x=R.ev A.gl x):eB A X l=eB A R l:=by
 unfold eB;cases V:l.op<;>rw[V] at h<;>try rfl
 case panic x=>simp only;rw[h x cK]
 case call c=>
  simp only;cases Q:c.callee with
  |value f=>
   have P:=h f (by simp[iF,A7,Q]);have W:c.args.toList.map (X.ev A.gl)=c.args.toList.map (R.ev A.gl):=jT λx O=>h x (by simp[iF,A7];exact .inr (by simpa using O))
   have N:(c.args.toList.any λx=>(X.ev A.gl x).eO)=c.args.toList.any λx=>(R.ev A.gl x).eO:=by
    have M:=ai1 (f:=X.ev A.gl) (p:=C.eO) (l:=c.args.toList);have L:=ai1 (f:=R.ev A.gl) (p:=C.eO) (l:=c.args.toList);rw[show(c.args.toList.any λx=>(X.ev A.gl x).eO)=(c.args.toList.map (X.ev A.gl)).any C.eO from M.symm,W,L];rfl
   simp only[P,W,N]
  |invoke r m=>rfl
  |builtin b=>
   cases b<;>try rfl
   cases H:c.args.toList with
   |nil=>rfl
   |cons x r=>
    cases r with
    |nil=>simp only;rw[h x (by simp[iF,A7];exact .inr (by have G:x∈c.args.toList:=(by rw[H];simp);simpa using G))]
    |cons y r=>rfl
def abh(h:eB A R l=.bI r):Kj l.op=true:=by
 unfold eB at h;split at h;rename_i X;rw[X];rfl;rename_i c X;split at h;split at h;split at h<;>cases h;split at h<;>cases h;cases h;cases h;rename_i W;rw[X];simp[Kj,W];cases h;cases h
def yf(s:S)(d:Nat):Prop:=s.tmps[d]?=Z\/∃w,s.tmps[d]?=U w/\w.bd s.ni s.nb (Y s.rs) (aK s.ap)=J
def abi{W V R:Nat}{Q:Nat->Bool}:∀{l:aq}{d:Nat}{v:C},C.ec W V R Q (l.set d v)=J->(l[d]?=Z\/∃w,l[d]?=U w/\w.bd W V R Q=J)->C.ec W V R Q l=J
 |[],d,v,h,_=>rfl
 |x::P,0,v,h,X=>by
  simp only[aIA,C.iQ,aw] at h⊢;refine⟨?_,h.2⟩;rcases X with X|X;simp at X;simpa using X
 |x::P,d+1,v,h,X=>by
  simp only[List.set_cons_succ,C.iQ,aw] at h⊢;exact⟨h.1,abi h.2 (by simpa using X)⟩
def Ld{s:S}{dx:Nat}{v:C}{l:Nat}{cs:aq}(h:(s.dF (U dx) v l).e9 cs=J)(X:yf s dx):s.e9 cs=true:=by
 simp only[S.e9,S.bd,S.dF,S.put,wc,aw] at h⊢;exact⟨⟨abi h.1.1 X,h.1.2⟩,h.2⟩
def aw5{Q:Ty}{P:nu}{V:Op}(h:(cE Q P R V).gives x r):nY V=true:=by
 cases V with
 |call c=>
  cases W:c.callee with
  |builtin b=>cases b<;>simp only[cE,W,PR.gives] at h<;>simp[nY,W]
  |value f=>simp only[cE,W,PR.gives] at h
  |invoke X m=>simp only[cE,W,PR.gives] at h
 |_=>first|rfl|(simp only[cE,PR.gives] at h)
def aw6{x y:OM}{P:Nat}(a:abg B x y P){s f:S}{O:ai}{v:C}{l:Nat}(ha:yf s P)(hg:im B y s O=U J)
  (h:iS A y (s.dF (U P) v l) O f):∃W,iS A y s O W/\f=W.dF (U P) v l/\(∀t,y.o.dst≠U t->W.tmps[t]?=s.tmps[t]?)/\W.ni=s.ni/\W.nb=s.nb/\W.rs=s.rs/\
   ∀i,aK s.ap i=J->cw W.ap i=cw s.ap i\/(zw y.o.op=J/\(y.bS=J->(s.lk|||l).testBit (2*i)=E)/\(mb s.ap i).isSome=J):=by
 have a0:ly A B y.o (s.dF (U P) v l) O s O:=ly.zN (λt V=>(Lc (λe=>a.ry (by cases e;exact V))).symm) rfl rfl rfl;have af:ly A B y.o s O (s.dF (U P) v l) O:=ly.zN (λt V=>Lc (λe=>a.ry (by cases e;exact V))) rfl rfl rfl;have D:=af.ev A.gl;have ag:∀z,(U P:cM)=U z->y.o.dst≠U z:=λz H=>by cases H;exact a.dy
 by_cases r:nY y.o.op=J;have a1:=af.guard hg;obtain⟨w,l',hw,rfl⟩:=(Lb (ops:=B) r a1).1 h;have a3:=abe (cf:=A) a0 (λi _=>by rw[DD]) hw;refine⟨s.dF y.o.dst w l',(Lb (ops:=B) r hg).2 ⟨w,l',a3,rfl⟩,aw3 ag,λt V=>Lc V,(f8 _ _ _).1,(f8 _ _ _).2.1,(f8 _ _ _).2.2,λi _=>.inl (by rw[DD])⟩;unfold iS gG at h;split at h;exact h.elim;rename_i hk;have d:¬(y.o.op.operands.toList.any λz=>(s.ev A.gl z).eO)=true:=by
  intro hh;obtain⟨z,al,a4⟩:=kH.1 hh;exact hk (kH.2 ⟨z,al,by rw[D z al];exact a4⟩)
 have b:∀(n:Nat)(t:TypeId)(G:aq)(w:C),n<Y s.ap->iS A y s O ((s.dt n t G).put y.o.dst w)->f=((s.dF (U P) v l).dt n t G).put y.o.dst w->
   (∀i,aK s.ap i=J->i=n->zw y.o.op=J/\(y.bS=J->(s.lk|||l).testBit (2*i)=E)/\(mb s.ap i).isSome=J)->
   ∃W,iS A y s O W/\f=W.dF (U P) v l/\(∀t,y.o.dst≠U t->W.tmps[t]?=s.tmps[t]?)/\W.ni=s.ni/\W.nb=s.nb/\W.rs=s.rs/\
    ∀i,aK s.ap i=J->cw W.ap i=cw s.ap i\/(zw y.o.op=J/\(y.bS=J->(s.lk|||l).testBit (2*i)=E)/\(mb s.ap i).isSome=J):=by
  intro n t G w hn h1 h2 h3;refine⟨_,h1, ?_,λt V=>mR V,(f8 _ _ _).1,(f8 _ _ _).2.1,(f8 _ _ _).2.2,λi R=> ?_⟩;rw[h2,aw4,Pl ag];by_cases an:i=n;exact .inr (h3 i R an);left;rw[mj,S.dt,zF an]
 split at h;rename_i t X;split at h;rename_i ti V;split at h;rename_i Q;simp only[aw] at Q;have N:=Ld Q.1 ha;have M:qr s.ap y.ix t=true:=Q.2;have L:gu s.ap y.ix=true:=tR M;refine b y.ix t (eA ti) _ (nF L).2 ?_ h (λi R e=>by subst e;rw[(nF L).1] at R;cases R);unfold iS gG;rw[aQ d];simp only[X,V,N,M,v8,cN];rfl;exact h.elim;exact h.elim;rename_i t z X;have H:=D z (by rw[X];simp[iF]);split at h;rename_i ti V;rw[H] at h;split at h;rename_i Q;simp only[aw] at Q;obtain⟨⟨⟨m,k⟩,g⟩,c4⟩:=Q;have N:=Ld k ha;have M:qr s.ap y.ix t=true:=c4;have L:gu s.ap y.ix=true:=tR M;refine b y.ix t _ _ (nF L).2 ?_ h (λi R e=>by subst e;rw[(nF L).1] at R;cases R);unfold iS gG;rw[aQ d];simp only[X,V,m,N,g,M,v8,cN];rfl;exact h.elim;exact h.elim;rename_i t bc parts X;have H:(parts.toList.map λp=>(p.1,(s.dF (U P) v l).ev A.gl p.2))=parts.toList.map λp=>(p.1,s.ev A.gl p.2):=jT λp hp=>by rw[D p.2 (by rw[X];simp[iF];exact⟨p.1,by simpa using hp⟩)]
 split at h;rename_i e aj q V;split at h;rename_i te a9;rw[H] at h;split at h;rename_i G hf;split at h;rename_i Q;simp only[aw] at Q;obtain⟨⟨m,k⟩,g⟩:=Q;have N:=Ld m ha;have M:qr s.ap y.ix e=true:=g;have L:gu s.ap y.ix=true:=tR M;refine b y.ix e G _ (nF L).2 ?_ h (λi R e=>by subst e;rw[(nF L).1] at R;cases R);unfold iS gG;rw[aQ d];simp only[X,V,a9,hf,N,k,M,v8,cN];rfl;exact h.elim;exact h.elim;exact h.elim;exact h.elim;rename_i t z u X;have H:=D z (by rw[X];simp[iF]);have hu:=D u (by rw[X];simp[iF]);rw[H,hu] at h;split at h;rename_i ti i bd V R;rw[DD] at h;split at h;rename_i bt G N;split at h;rename_i Q;simp only[aw,ik] at Q;obtain⟨⟨⟨⟨m,k⟩,g⟩,c4⟩,F⟩:=Q;have ba:(s.dF (U P) v l).lk=s.lk|||l:=Ul _ _ _;rw[ba] at F;have bb:(y.bS&&s.lk.testBit (2*i))=false:=by
  cases hr:y.bS;rfl;rw[hr,Hf,E1] at F;simp only[vZ] at F;simp[F.1]
 refine b i bt _ _ (ck.1 (kj.1 (zD N).1)).1 ?_ h (λj hj e=> ?_);unfold iS gG;rw[aQ d];simp only[X,V,R,N,m,k,g,c4,bb,v8,Bool.not_false,cN];rfl;subst e;refine⟨by rw[X];rfl,λhr=> ?_,by rw[N];rfl⟩;rw[hr,Hf] at F;exact F;exact h.elim;exact h.elim;exact h.elim;rename_i c z u X;exact aZ (by rw[X];rfl) r;rename_i t z X;exact aZ (by rw[X];rfl) r;rename_i o1 o2 o3 o4 o5 o6;exfalso;obtain⟨w,hw,-⟩:=alk.1 h;refine r ?_;exact aw5 (Uk hw)
def aw7{X:Ty}{W:S}(h:R.rs=W.rs)(k:RK)(r:RE):r.fits X R k=r.fits X W k:=by
 unfold RE.fits;cases k<;>simp only[DA h r]
def alx{X:Ty}{s W:S}(h:s.rs=W.rs):∀(aj:fj)(V:aq),mM X s aj V=mM X W aj V
 |[],[]=>rfl
 |[],_::_=>rfl
 |_::_,[]=>rfl
 |c::R,v::Q=>by
  simp only[mM,alx h R Q];congr 1;cases c<;>cases v<;>simp only[tF,aw7 h]
def FC{X:Ty}{s s':S}(h:s.rs=s'.rs){aj:fj}:∀{l:xK},nX X s aj l=nX X s' aj l
 |[]=>rfl
 |r::W=>by simp only[nX,alx h aj r,FC h (l:=W)]
def aw8{l:Nat}{V:Ty}{Q:TI}{y:C}{W:LE×BE×ar}(h:sd V (R.dF (U X) r l) v Q y=U W):sd V R v Q y=U W:=by
 unfold sd at h⊢;split at h;simp only[DA (s:=R) (s':=R.dF (U X) r l) rfl];exact h;rw[DD] at h;split at h;rename_i P;simp only[FC (s:=R) (s':=R.dF (U X) r l) rfl];exact h;cases h;cases h
def aw9{l:Nat}{y:C}{Q:LE}{n:BE}(h:xQ (R.dF (U X) r l) v b y=U (Q,n,t)):xQ R v b y=U (Q,n,t)/\∀k∈t,b=J->(R.lk|||l).testBit (2*k+1)=false:=by
 have N:(R.dF (U X) r l).lk=R.lk|||l:=Ul _ _ _;unfold xQ at h⊢;split at h;rename_i k;split at h;rename_i P;cases h;have M:R.rs[k]?=U (.own v):=P.1;have V:=P.2;rw[N] at V;simp only[ik,aIo] at V;refine⟨?_,λG O L=> ?_⟩;rw[aJ];refine⟨M, ?_⟩;simp only[ik,aIo];rcases V with V|V;exact .inl V;rw[E1,vZ] at V;exact .inr V.1;simp at O;subst O;rcases V with V|V;rw[L] at V;cases V;exact V;cases h;rename_i W F;split at h;rename_i H;cases h;simp[H];cases h;cases h;exact⟨rfl,av⟩;cases h
variable{F:ai->S->Prop}{G:ai->C->S->Prop}{H:OM->cX->ai->S->Nat->aq->Prop}
def axa(X:aS)(s:S)(d:cM)(v:C)(l:Nat):((s.dF d v l).cP X).1=(s.cP X).1/\((s.dF d v l).cP X).2=(s.cP X).2.dF d v l:=by
 induction X generalizing s with
 |nil=>exact⟨rfl,rfl⟩
 |cons k X W=>
  simp only[S.cP];have V:((s.dF d v l).fresh k).1=(s.fresh k).1/\((s.dF d v l).fresh k).2=(s.fresh k).2.dF d v l:=by
   cases k<;>cases d<;>exact⟨rfl,rfl⟩
  rw[V.1,V.2];exact⟨by rw[(W _).1],(W _).2⟩
def axb{m:OM}{s:S}{O:ai}{v:C}{l:Nat}(h:QV A B O m s v l)(Q:im B m s O=U J){t:TypeId}{x:Operand}{i P:Nat}(N:m.o.op=.load t x)(W:s.ev A.gl x=.loc i P):aK s.ap i=J/\(m.bS=J->l=1<<<(2*i)):=by
 rcases h with h|⟨-,-,h⟩;rw[Q] at h;cases h.1;rw[N] at h;obtain⟨X,M⟩:=h;refine⟨?_,λL=>by rw[M,W,L];rfl⟩;have X:=Uk X;simp only[cE,W] at X;cases V:A.ty t with
 |none=>rw[V] at X;exact X.elim
 |some H=>
  rw[V] at X;simp only at X;cases R:cw s.ap i with
  |none=>rw[show mb s.ap i=Z by simp[mb,R]] at X;exact X.elim
  |some b=>simp[aK,R]
def axc{m:OM}{s:S}{O:ai}{v:C}{l:Nat}(h:QV A B O m s v l)(N:im B m s O=U J){t:TypeId}{x:Operand}{i:Nat}{e:K}{M:bz}{W:aq}(L:m.o.op=.load t x)(V:s.ev A.gl x=.gg e M W)(R:zo W=U i):aK s.ap i=J/\(m.bS=J->l=1<<<(2*i)):=by
 rcases h with h|⟨-,-,h⟩;rw[N] at h;cases h.1;rw[L] at h;obtain⟨X,H⟩:=h;refine⟨?_,λG=>by rw[H,V,G];simp[Oj,R]⟩;have X:=Uk X;simp only[cE,V] at X;cases Q:A.ty t with
 |none=>rw[Q] at X;exact X.elim
 |some F=>
  rw[Q] at X;simp only[R,Zs] at X;cases P:cw s.ap i with
  |none=>rw[show mb s.ap i=Z by simp[mb,P]] at X;exact X.elim
  |some b=>simp[aK,P]
def aly{m:OM}{s:S}{O:ai}{v:C}{l:Nat}(h:QV A B O m s v l)(P:im B m s O=U J){i:Nat}(W:Bc A.gl s m.o.op=U i):aK s.ap i=J/\((Bo m.o.op=J/\(m.bS=J->l=1<<<(2*i)))\/mb s.ap i=Z):=by
 unfold Bc at W;split at W;rename_i t x V;split at W;rename_i j G R;cases W;obtain⟨X,N⟩:=axb h P V R;exact⟨X,.inl ⟨by rw[V];rfl,N⟩⟩;rename_i e F D R;obtain⟨X,N⟩:=axc h P V R W;exact⟨X,.inl ⟨by rw[V];rfl,N⟩⟩;cases W;rename_i t x z y V;split at W;rename_i j R;cases W;rcases h with h|⟨-,-,h⟩;rw[P] at h;cases h.1;rw[V] at h;have X:=Uk h.1;simp only[cE,R] at X;split at X;rename_i k e n w aj q u r L;cases L;unfold S2 at X;split at X;rename_i g a b c H f d g2 M;refine⟨by simp[aK,M],.inr ?_⟩;have:qY H=true:=by
  split at X;exact X.elim;split at X;rename_i Q;simp at Q;rw[Q];decide;split at X;rename_i Q;simp at Q;rw[Q];decide;exact X.elim
 simp[mb,M,this];exact X.elim;exact X.elim;cases W;cases W
def Le{X:BI}(h:eZ A l b J R=U X):uM l.op=true:=by
 unfold eZ at h;cases V:l.op<;>rw[V] at h<;>simp only[cN,avo] at h<;>try cases h
 rfl;rename_i c;cases W:c.callee with
 |builtin Q=>cases Q<;>simp[W] at h<;>simp[uM,W]
 |_=>simp[W] at h
def abj{m:OM}{s V:S}{O:ai}(h:uM m.o.op=J)(X:iS A m s O V):False:=by
 unfold iS gG at X;split at X;exact X;cases R:m.o.op<;>rw[R] at h X<;>simp[uM] at h;simp[cE,tG,OR.Ib] at X;rename_i c;cases W:c.callee with
 |builtin Q=>cases Q<;>simp[W] at h<;>simp[cE,W,tG,OR.Ib] at X
 |_=>simp[W] at h
def alz{l:Nat}{d:cM}{be:BE}{k:RK}{x:LE}{dq:ar}{V:BI}(P:yf R X)(O:d≠U X)
  (h:kC (R.dF (U X) r l) d be v k x t dq=U V):
  ∃b,kC R d be v k x t dq=U b/\V={b with s:=b.s.dF (U X) r l}/\(∀W,d≠U W->b.s.tmps[W]?=R.tmps[W]?)/\b.s.ni=R.ni/\b.s.nb=R.nb/\b.s.rs=kB dq 0 (ju t 0 R.rs)++[k]/\b.s.ap=R.ap:=by
 unfold kC at h⊢;split at h;rename_i Q;cases h;simp only[aw] at Q;obtain⟨⟨⟨N,M⟩,L⟩,H⟩:=Q;have G:R.bd=true:=by
  have:R.e9 []=true:=Ld (dx:=X) (v:=r) (l:=l) (cs:=[]) (by simp[S.e9,N,C.iQ]) P;simp only[S.e9,aw] at this;exact this.1
 rw[aJ (by simp only[aw];exact⟨⟨⟨G,M⟩,L⟩,H⟩)];refine⟨_,rfl, ?_,λW F=>mR F,(f8 _ _ _).1,(f8 _ _ _).2.1,(f8 _ _ _).2.2,mj _ _ _⟩;congr 1;exact Pl (s:={R with rs:=kB dq 0 (ju t 0 R.rs)++[k]}) (d:=U X) (e:=d) (v:=r) (w:=.ah (.v (Y R.rs))) (l:=l) (λz D=>by cases D;exact O);cases h
def axd{x y:OM}{X:Nat}(O:abg B x y X){s:S}{v:C}{l:Nat}(L:yf s X)(V:∀z∈y.o.op.operands.toList,s.ev A.gl z=(s.dF (U X) v l).ev A.gl z){H:BI}
  (h:eZ A y.o y.bS y.dr (s.dF (U X) v l)=U H):
  ∃b W dq F,eZ A y.o y.bS y.dr s=U b/\H={b with s:=b.s.dF (U X) v l}/\(∀t,y.o.dst≠U t->b.s.tmps[t]?=s.tmps[t]?)/\b.s.ni=s.ni/\b.s.nb=s.nb/\b.s.rs=kB dq 0 (ju W 0 s.rs)++[F]/\b.s.ap=s.ap/\
   (∀k∈W,y.bS=J->(s.lk|||l).testBit (2*k+1)=E)/\(Dg y.o.op=E->W=[]):=by
 have R:=Le (by rw[O.yd] at h;exact h);unfold eZ at h⊢;cases D:y.o.op<;>rw[D] at R h V<;>simp[uM] at R;rename_i t n m;simp only at h⊢;rw[V n cK,V m cK];split at h;rename_i e aj q w u r j i;split at h;rename_i Q g;split at h;rename_i f;obtain⟨b,N,M,d,a,g5,g6,g7⟩:=alz L O.dy h;have af:(w.aN u&&nX A.ty s Q.aj [eA Q]&&Y Q.aj !=0)=true:=by
  rw[<-FC (s:=s.dF (U X) v l) (s':=s) rfl];exact f
 rw[aJ af];exact⟨b,[],[],_,N,M,d,a,g5,g6,g7,av,λ_=>rfl⟩;cases h;cases h;cases h;rename_i c;cases P:c.callee with
 |builtin bb=>
  cases bb<;>simp[P] at R;simp only[P] at h⊢;have ag:c.args.toList.map (s.ev A.gl)=c.args.toList.map ((s.dF (U X) v l).ev A.gl):=jT λz hz=>V z (by simp[iF,A7];exact .inr (by simpa using hz))
  rw[ag];split at h;rename_i t t2 x0 y0 j i;split at h;rename_i e aj q e2 an G r a0;split at h;rename_i Q g;split at h;cases h;rename_i al;rw[aQ al];split at h;rename_i la n1 W lb n2 dq N M;obtain⟨q1,G⟩:=aw9 N;have q3:=aw8 M;rw[q1,q3];obtain⟨b,k1,k2,k3,k4,k5,k6,k7⟩:=alz L O.dy h;exact⟨b,W,dq,_,k1,k2,k3,k4,k5,k6,k7,G,λh=>by simp[Dg,P] at h⟩;cases h;cases h;cases h;cases h
 |_=>simp[P] at R
def axe(br:Fz B D){x y:OM}{al:cX}{s:S}{O:ai}(bs:y.so=E)(bt:Th B x y=J)(ha:∀d,x.o.dst=U d->yf s d)
  (e1:Y O.i=s.ni)(e2:Y O.b=s.nb)(e3:Y O.r=Y s.rs)
  (h:eQ p A B D F G H (x::y::al) O s):eQ p A B D F G H (y::x::al) O s:=by
 obtain⟨f,Q⟩:=alw bt;obtain⟨v,l,P,h⟩:=(alv Q.xd Q.qx).1 h;rw[Q.dst] at h;have a1:=ha f Q.dst;have a4:∀z,(U f:cM)=U z->y.o.dst≠U z:=λz hz=>by cases hz;exact Q.dy
 have an:ly A B y.o (s.dF (U f) v l) O s O:=ly.zN (λt L=>(Lc (λe=>Q.ry (by cases e;exact L))).symm) rfl rfl rfl;have a0:∀(a:S)(O':ai),(im B x s O=U E->im B x a O'=U E)->(im B x s O=U J->ly A B x.o s O a O')->(im B x s O=U J->∀i,Bc A.gl s x.o.op=U i->cw a.ap i=cw s.ap i)->eQ p A B D F G H al O' (a.dF (U f) v l)->eQ p A B D F G H (x::al) O' a:=by
  intro a O' bx hs hb hr;refine(alv Q.xd Q.qx).2 ⟨v,l, ?_,by rw[Q.dst];exact hr⟩;cases af:im B x s O with
  |none=>rcases P with P|P<;>(rw[af] at P;cases P.1)
  |some b=>
   cases b;rcases P with P|P;exact .inl ⟨bx P.1,P.2⟩;rw[af] at P;cases P.1;exact abe (hs af) (hb af) P
 simp only[eQ] at h;rcases h with⟨h1,X⟩|⟨h1,X⟩;refine .inl ⟨an.guard h1, ?_⟩;rw[Pl a4] at X;have c:ly A B x.o s O (s.put y.o.dst (.bM [])) O:=ly.zN (λt L=>mR (λe=>Q.yx t e L)) (f8 _ _ _).2.2 (f8 _ _ _).1 (f8 _ _ _).2.1;refine a0 _ _ c.guard (λ_=>c) (λ_ i _=>by rw[mj]) X
 ·refine .inr ⟨an.guard h1, ?_⟩;have hg:im B y s O=U true:=an.guard h1;have b0:eB A s y.o=eB A (s.dF (U f) v l) y.o:=FB (an.ev A.gl);rw[b0];cases a3:eB A (s.dF (U f) v l) y.o with
  |call g0 j=>
   rw[a3] at X;rcases g0 with g|n
   rotate_left
   have h3:=X.1;rw[bs] at h3;cases h3;have b5:D g j (s.dF (U f) v l)=D g j s:=br.q _ _ _ _ _ _;show qC _ _ _;have X:qC _ _ _:=X;rw[b5] at X;cases bc:D g j s with
   |some ve=>
    obtain⟨pv,ex⟩:=ve;rw[bc] at X;obtain⟨b6,X⟩:=X;have b7:s.bd=true:=by
     have:=Ld (s:=s) (dx:=f) (v:=v) (l:=l) (cs:=[]) (by simp only[S.e9,b6,C.iQ,v8]) a1;simp only[S.e9,aw] at this;exact this.1
    have b8:(((s.dF (U f) v l).plus ex).put y.o.dst pv)=(((s.plus ex).put y.o.dst pv).dF (U f) v l):=by
     rw[<-Pl a4];rfl
    rw[b8] at X;have c:ly A B x.o s O ((s.plus ex).put y.o.dst pv) O:=ly.zN (λt L=>mR (λe=>Q.yx t e L)) (f8 _ _ _).2.2 (f8 _ _ _).1 (f8 _ _ _).2.1;refine⟨b7,a0 _ _ c.guard (λ_=>c) (λaf i hi=> ?_) X⟩;rw[mj];exact alp (aly P af hi).1
   |none=>
   rw[bc] at X;simp only[qC] at X⊢;obtain⟨ts,N,r,c1,c2,c3,c4,c5⟩:=X;obtain⟨f1,f2⟩:=axa N (s.cut j N) (U f) v l;have ca:(s.e9 j&&qu N)=true:=by
    simp only[aw] at c4⊢;exact⟨Ld c4.1 a1,c4.2⟩
   refine⟨ts,N,r,c1,c2,by rw[<-f1];exact c3,ca,λV W R=> ?_⟩;refine(c5 V W (by rw[DD];exact R)).mono ?_;intro e W' he;cases e with
   |returned u=>
    obtain⟨xs,q1,q2,q3,q4,q5⟩:=he;refine⟨xs,q1,q2,q3,q4, ?_⟩;have q5:eQ p A B D F G H al (O.ext xs) ((((s.cut j N).dF (U f) v l).cP N).2.put y.o.dst (one r)):=q5;rw[f2,Pl a4] at q5;obtain⟨b1,b2,b3,b4⟩:=ye N (s.cut j N);obtain⟨l1,l2,l3⟩:=zL N xs (s.cut j N) O q1 e1 e2 (e3.trans (Fy j N s.rs).len.symm);have a9:=TL xs O;have bf:BF A.ty s ((((s.cut j N).cP N).2).put y.o.dst (one r)):=by
     intro q e he M;refine Ui (λk e _ M=> ?_) he M;rw[(f8 _ _ _).2.2];obtain⟨e',g1,g2⟩:∃e',(Df j N s.rs)[k]?=U e'/\e'.rd=e.rd:=by
      unfold Df;split;refine⟨zq ((Ot j (Y s.rs)).contains k) e,by rw[KT,M];simp, ?_⟩;cases e<;>simp only[zq]<;>try rfl
      split<;>rfl;exact⟨e,M,rfl⟩
     exact⟨e',akY N (s.cut j N) k e' g1,g2⟩
    have c:ly A B x.o s O ((((s.cut j N).cP N).2).put y.o.dst (one r)) (O.ext xs):=by
     refine⟨λt L=> ?_,λ_ _=>bf,λt x r w i bg _ _=>bf r, ?_, ?_, ?_, ?_⟩;rw[mR (λe=>Q.yx t e L),b2];rfl;rw[(f8 _ _ _).1,<-l1,<-e1];exact a9.1;rw[(f8 _ _ _).2.1,<-l2,<-e2];exact a9.2.1;rw[(f8 _ _ _).2.2,<-l3,<-e3];exact a9.2.2;rw[<-e1,<-e2,<-e3];exact Fl xs O
    exact a0 _ _ c.guard (λ_=>c) (λ_ i _=>by rw[mj,b1];rfl) q5
   |panicked ch=>exact he
   |outgrown=>exact he
  |bI w=>
   have:=abh a3;rw[Q.np] at this;cases this
  |no=>rw[a3] at X;exact X
  |op=>
   rw[a3] at X;simp only at X⊢;cases ba:eZ A y.o y.bS y.dr (s.dF (U f) v l) with
   |some b1=>
    rw[ba] at X;obtain⟨hn,X⟩:=X;obtain⟨b,cc,dq,kk,g1,g2,g3,g4,g5,g6,g7,g8,g9⟩:=axd Q a1 (an.ev A.gl) ba;rw[g1];subst g2;refine⟨hn,λrv cl=>a0 _ _ ?_ ?_ ?_ (X rv cl)⟩;intro cn;have co:ly A B {x.o with op:=.move (.const undef)} s O b.s (O.add (.r rv)):=⟨λt L=>g3 t (λe=>Q.yx t e (by
     unfold jV at L⊢;refine(eV.1 L).elim (λh=> ?_) (λh=>N1 _ h);simp[iF] at h)),λh=>by simp[looks] at h,λt x0 r w i bg h=>by simp at h,E2 g4.symm,E2 g5.symm,by rw[g6];simp[By,Bw],by rw[<-e1,<-e2,<-e3];exact Tw O (.r rv)⟩
    exact co.guard (m:={x with o:={x.o with op:=.move (.const undef)}}) cn;intro af;have bk:∀(k:Nat)(e:RK),k∉cc->s.rs[k]?=U e->∃e',b.s.rs[k]?=U e'/\e'.rd=e.rd:=by
     intro k e cp M;have ct:k<Y s.rs:=(ck.1 M).1;refine⟨zq (dq.contains k) e, ?_, ?_⟩;rw[g6,dH (by simp[By,Bw];exact ct),KT,KS,M];simp[cp];cases e<;>simp only[zq]<;>try rfl
     split<;>rfl
    refine⟨λt L=>g3 t (λe=>Q.yx t e L),λcv cx=> ?_,λt x0 r w i bg ho hx e he M=> ?_,E2 g4.symm,E2 g5.symm,by rw[g6];simp[By,Bw],by rw[<-e1,<-e2,<-e3];exact Tw O (.r rv)⟩;cases ag:Dg y.o.op with
    |true=>
     have:=(Q.rb ag cv).1;rw[cx] at this;cases this
    |false=>
     intro r e he M;exact Ui (λk e _ M=>bk k e (by rw[g9 ag];simp) M) he M
    refine Ui (λk e cy M=>bk k e ?_ M) he M;intro bb;have ag:Dg y.o.op=true:=by
     cases ag:Dg y.o.op with
     |true=>rfl
     |false=>rw[g9 ag] at bb;cases bb
    obtain⟨-,r1,r2⟩:=Q.rb ag (by rw[ho];rfl);have bl:=g8 k bb r2;rcases P with P|⟨-,-,P⟩;rw[af] at P;cases P.1;rw[ho] at P;have:=P.2;rw[hx,r1] at this;simp only[Oj,cy,cN] at this;rw[this,E1] at bl;simp[auY] at bl;intro _ i _;rw[g7]
   |none=>
   rw[ba] at X;have cA:eZ A y.o y.bS y.dr s=none:=by
    cases hb:eZ A y.o y.bS y.dr s with
    |none=>rfl
    |some b=>
     exfalso;have cB:=Le (by rw[Q.yd] at hb;exact hb);obtain⟨s2,h3,-⟩:=X;exact abj cB h3
   rw[cA];simp only[tT] at X⊢;obtain⟨s2,h3,h4⟩:=X;obtain⟨a,g1,g2,g3,g4,g5,g6,g7⟩:=aw6 Q a1 hg h3;subst g2;have c:ly A B x.o s O a O:=ly.zN (λt L=>g3 t (λe=>Q.yx t e L)) g6 g4 g5;refine⟨a,g1,a0 a O c.guard (λ_=>c) ?_ h4⟩;intro af i hi;obtain⟨k1,k2⟩:=aly P af hi;rcases g7 i k1 with k3|⟨k3,k4,k5⟩;exact k3;rcases k2 with⟨k2,k6⟩|k2;obtain⟨r1,r2⟩:=Q.rc k3 k2;have:=k4 r2;rw[k6 r1,E1] at this;simp[auY] at this;rw[k2] at k5;cases k5
end
section
variable{p:Sp}{cf:bE}{B:dN}{A:xT}{F:ai->S->Prop}{G:ai->C->S->Prop}{H:OM->cX->ai->S->Nat->aq->Prop}
def alA{m:OM}{s W:S}{O:ai}(h:(gG cf m s).gives O W):∀t,m.o.dst≠U t->W.tmps[t]?=s.tmps[t]?:=by
 intro q X;unfold gG at h;split at h;exact h.elim;split at h;split at h;split at h;cases h;rw[mR X];rfl;exact h.elim;exact h.elim;split at h;split at h;cases h;rw[mR X];rfl;exact h.elim;exact h.elim;split at h;split at h;split at h;split at h;cases h;rw[mR X];rfl;exact h.elim;exact h.elim;exact h.elim;exact h.elim;split at h;split at h;split at h;cases h;rw[mR X];rfl;exact h.elim;exact h.elim;exact h.elim;split at h;simp only[OR.gives] at h;split at h<;>(subst h;rw[mR X]);exact h.elim;obtain⟨v,-,rfl⟩:=BA h;rw[Lc X];obtain⟨v,-,rfl⟩:=BA h;rw[Lc X]
def abk{X:BI}(h:eZ cf l b J R=U X):∀t,l.dst≠U t->X.s.tmps[t]?=R.tmps[t]?:=by
 intro q O;have Q:∀{be:BE}{e:TypeId}{k:RK}{x:LE}{P dq:ar},kC R l.dst be e k x P dq=U X->X.s.tmps[q]?=R.tmps[q]?:=by
  intro be e k x P dq h;obtain⟨-,-,rfl⟩:=zH h;simp only;rw[mR O]
 have W:=Le h;unfold eZ at h;cases N:l.op<;>rw[N] at W h<;>simp[uM] at W;simp only at h;split at h;split at h;split at h;exact Q h;cases h;cases h;cases h;rename_i c;cases V:c.callee with
 |builtin M=>
  cases M<;>simp[V] at W;simp only[V] at h;split at h;split at h;split at h;split at h;cases h;split at h;exact Q h;cases h;cases h;cases h;cases h
 |_=>simp[V] at W
def abl{X W V:Nat}{R:Nat->Bool}:∀{l m:aq},C.ec X W V R (l++m)=J<->C.ec X W V R l=J/\C.ec X W V R m=J
 |[],m=>by simp[C.iQ]
 |x::Q,m=>by simp[C.iQ,abl (l:=Q),and_assoc]
def wv{X W V:Nat}{R:Nat->Bool}:∀{l:aq},C.ec X W V R l=J<->∀v∈l,v.bd X W V R=J
 |[]=>by simp[C.iQ]
 |x::Q=>by simp[C.iQ,wv (l:=Q)]
def axf{W V:Nat}{R:Nat->Bool}(v:Value):(Ob v).bd X W V R=true:=by
 have Q:∀w,(J7 w).bd X W V R=true:=λw=>by cases w<;>simp[J7,C.bj,K.bj,BE.bj,RE.bj]
 cases v<;>try simp[Ob,C.bj,K.bj,BE.bj,RE.bj]
 rw[wv];intro x P;obtain⟨w,-,rfl⟩:=iq.1 P;exact Q w
def BH(X:R.bd=J){x:Operand}(W:xS x=J):(R.ev cf.gl x).bd R.ni R.nb (Y R.rs) (aK R.ap)=true:=by
 simp only[S.bd,aw] at X;cases x with
 |tmp t=>
  simp only[S.ev,xM,cz];cases V:R.tmps[t]? with
  |none=>simp[C.bj]
  |some v=>exact wt X.1 V
 |const v=>exact axf v
 |global g=>cases W
 |func f=>simp[S.ev,C.bj,C.iQ]
def abm{W V:Nat}{R:Nat->Bool}(h:r.bd X W V R=J):C.ec X W V R r.cells=true:=by
 cases r<;>simp only[C.cells,C.iQ,N8]<;>first|exact h|(simp only[C.bj] at h;exact h)
def abn{X W V:Nat}{R:Nat->Bool}:∀{vs l:aq}{Q:Nat},C.ec X W V R l=J->C.ec X W V R vs=J->C.ec X W V R (lI l Q vs)=J
 |[],l,Q,h,_=>h
 |v::vs,l,Q,h,P=>by
  simp only[C.iQ,aw] at P;rw[lI];refine abn (vs:=vs) ?_ P.2;rw[wv] at h⊢;intro x N;rcases EU N with O|O;exact h x O;rw[O];exact P.1
def alB{V R Q:Nat}{P:Nat->Bool}{place:Nat->Option (Nat×Nat)}:∀{O:List (Nat×C)}{W l:aq},C.ec V R Q P W=J->(∀q∈O,q.2.bd V R Q P=J)->zn place W O=U l->C.ec V R Q P l=J
 |[],W,l,h,_,X=>by simp[zn] at X;subst X;exact h
 |(i,v)::r,W,l,h,N,X=>by
  simp only[zn] at X;split at X;cases X;split at X;cases X;exact alB (abn h (abm (N (i,v) N4))) (λq M=>N q (CX _ M)) X
def Um{W V:Nat}{R:Nat->Bool}(Q:TI):C.ec X W V R (eA Q)=true:=by
 rw[wv];intro x P;obtain⟨c,-,rfl⟩:=iq.1 P;cases c<;>simp[C5,C.bj,K.bj,BE.bj,RE.bj]
def alC{X W V:Nat}{R:Nat->Bool}{l:aq}(h:C.ec X W V R l=J):∀n,C.ec X W V R (xP n l)=J
 |0=>rfl
 |n+1=>by rw[xP,abl];exact⟨h,alC h n⟩
mutual
def C.Pm{W V R:Nat}{Q P:Nat->Bool}(h:∀i,Q i=J->P i=J):∀(v:C),v.bd W V R Q=J->v.bd W V R P=J
 |.int _ _,X=>by simp only[C.bj] at X⊢;exact X
 |.bool _,X=>by simp only[C.bj] at X⊢;exact X
 |.ah _,X=>by simp only[C.bj] at X⊢;exact X
 |.loc i _,X=>by simp only[C.bj] at X⊢;exact h i X
 |.jf i _ _ _,X=>by simp only[C.bj] at X⊢;exact h i X
 |.el _ _ _ _,X=>by simp only[C.bj] at X⊢;exact X
 |.agg l,X=>by simp only[C.bj] at X⊢;exact C.FD h l X
 |.bM l,X=>by simp only[C.bj] at X⊢;exact C.FD h l X
 |.fn _ l,X=>by simp only[C.bj] at X⊢;exact C.FD h l X
 |.gX _ x,X=>by simp only[C.bj] at X⊢;exact C.Pm h x X
 |.yl _,_=>by simp only[C.bj]
 |.any,_=>by simp only[C.bj]
 |.mp i,X=>by simp only[C.bj] at X⊢;exact h i X
 |.gg _ _ O,X=>by simp only[C.bj,aw] at X⊢;exact⟨X.1,C.FD h O X.2⟩
def C.FD{W V R:Nat}{Q P:Nat->Bool}(h:∀i,Q i=J->P i=J):∀(l:aq),C.ec W V R Q l=J->C.ec W V R P l=J
 |[],_=>rfl
 |x::O,X=>by simp only[C.iQ,aw] at X⊢;exact⟨C.Pm h x X.1,C.FD h O X.2⟩
end
def DE{V R Q:Nat}{P:Nat->Bool}:∀{l:bG},C.rh V R Q P l=J<->∀(i:Nat)(b:TypeId×aq),cw l i=U b->C.ec V R Q P b.2=J
 |[]=>by simp[C.rh,cV]
 |Z::W=>by
  simp only[C.rh,DE (l:=W)];exact⟨λh i b X=>by cases i with
   |zero=>simp[cV] at X
   |succ i=>exact h i b (by simpa[cV] using X),λh i b X=>h (i+1) b (by simpa[cV] using X)⟩
 |some x::W=>by
  simp only[C.rh,aw,DE (l:=W)];exact⟨λh i b X=>by cases i with
   |zero=>simp[cV] at X;subst X;exact h.1
   |succ i=>exact h.2 i b (by simpa[cV] using X),λh=>⟨h 0 x (by simp[cV]),λi b X=>h (i+1) b (by simpa[cV] using X)⟩⟩
def S.more(s:S)(n:Nat)(t:TypeId)(X:aq)(d:cM)(w:C):S:=(s.dt n t X).put d w
def alD{d:cM}(Q:R.bd=J)(G:gu R.ap X=J)(H:R.e9 e=J)(F:r.bd R.ni R.nb (Y R.rs) (λi=>i==X)=J):(R.more X v e d r).bd=true:=by
 have N:=(nF G).2;have P:∀i,aK R.ap i=J->aK (R.ap.set X (U (v,e))) i=true:=λi V=>(pM N).2 (.inr V)
 simp only[S.e9,S.bd,aw] at Q H;simp only[S.more,S.bd,aw];obtain⟨D,B,A⟩:=f8 (R.dt X v e) d r;rw[D,B,A,mj];simp only[S.dt];refine⟨?_, ?_⟩;rw[wv];intro W M;cases d with
 |none=>exact C.Pm P W (wv.1 Q.1 W M)
 |some d=>
  simp only[S.put,wc] at M;rcases EU M with L|L;exact C.Pm P W (wv.1 Q.1 W L);rw[L];exact C.Pm (λi V=>by simp at V;subst V;exact(pM N).2 (.inl rfl)) r F
 rw[DE];intro i b O;by_cases V:i=X;subst V;rw[H0 N] at O;cases O;exact C.FD P e H.2;rw[zF V] at O;exact C.FD P _ (DE.1 Q.2 i b O)
def abo{y:OM}{s r:S}{O:ai}(c:gT y.o.op=J)(b:y.o.op.operands.toList.all xS=J)(h:iS cf y s O r):
  ∃t N w,r=s.more y.ix t N y.o.dst w/\gu s.ap y.ix=J/\(∀a nb nr,w.bd a nb nr (λi=>i==y.ix)=J)/\
   ∀(X:S)(F:ai),(∀x∈y.o.op.operands.toList,X.ev cf.gl x=s.ev cf.gl x)->X.bd=J->gu X.ap y.ix=J->X.e9 N=J/\iS cf y X F (X.more y.ix t N y.o.dst w):=by
 unfold iS gG at h;split at h;exact h.elim;rename_i hk;have n:∀x∈y.o.op.operands.toList,xS x=true:=fO.1 b;have A:∀X:S,(∀x∈y.o.op.operands.toList,X.ev cf.gl x=s.ev cf.gl x)->¬(y.o.op.operands.toList.any λz=>(X.ev cf.gl z).eO)=true:=by
  intro X V hh;obtain⟨z,m,af⟩:=kH.1 hh;exact hk (kH.2 ⟨z,m,by rw[<-V z m];exact af⟩)
 split at h;rename_i t W;split at h;rename_i D M;split at h;rename_i R;simp only[aw] at R;refine⟨t,eA D,.loc y.ix 0,h,tR R.2,λ_ _ _=>by simp[C.bj],λX F V P L=> ?_⟩;have Q:X.e9 (eA D)=true:=by simp only[S.e9,P,Hf];exact Um D
 refine⟨Q, ?_⟩;unfold iS gG;rw[aQ (A X V)];have H:qr X.ap y.ix t=true:=by simp[qr,L,KR R.2]
 simp only[W,M,Q,H,v8,cN];rfl;exact h.elim;exact h.elim;rename_i t z W;split at h;rename_i D M;split at h;rename_i R;simp only[aw] at R;obtain⟨⟨⟨l,k⟩,B⟩,j⟩:=R;refine⟨t,(s.ev cf.gl z).cells,.loc y.ix 0,h,tR j,λ_ _ _=>by simp[C.bj],λX F V P L=> ?_⟩;have G:=V z (by rw[W];simp[iF]);have Q:X.e9 (s.ev cf.gl z).cells=true:=by
  simp only[S.e9,P,Hf];rw[<-G];exact abm (BH P (n z (by rw[W];simp[iF])))
 refine⟨Q, ?_⟩;unfold iS gG;rw[aQ (A X V)];have H:qr X.ap y.ix t=true:=by simp[qr,L,KR j]
 simp only[W,M,G,l,Q,B,H,v8,cN];rfl;exact h.elim;exact h.elim;rename_i t v parts W;split at h;rename_i e aj q M;split at h;rename_i te ag;split at h;rename_i N g;split at h;rename_i R;simp only[aw] at R;obtain⟨⟨l,k⟩,B⟩:=R;refine⟨e,N,.jf y.ix 0 v v,h,tR B,λ_ _ _=>by simp[C.bj],λX F V P L=> ?_⟩;have G:(parts.toList.map λp=>(p.1,X.ev cf.gl p.2))=parts.toList.map λp=>(p.1,s.ev cf.gl p.2):=jT λp u=>by rw[V p.2 (by rw[W];simp[iF];exact⟨p.1,by simpa using u⟩)]
 have Q:X.e9 N=true:=by
  simp only[S.e9,P,Hf];refine alB (alC (Um te) v) (λq f=> ?_) g;rw[<-G] at f;obtain⟨d,u,rfl⟩:=iq.1 f;exact BH P (n d.2 (by rw[W];simp[iF];exact⟨d.1,by simpa using u⟩))
 refine⟨Q, ?_⟩;unfold iS gG;rw[aQ (A X V)];have H:qr X.ap y.ix e=true:=by simp[qr,L,KR B]
 simp only[W,M,ag,G,g,Q,k,H,v8,cN];rfl;exact h.elim;exact h.elim;exact h.elim;exact h.elim
 all_goals(rename_i W;simp[gT,W] at c)<;>skip
def Pn(h:gT l.op=J):eB cf R l=.op:=by
 unfold eB;cases X:l.op<;>rw[X] at h<;>simp[gT] at h<;>rfl
def Lf{X:Bool}(h:gT l.op=J)(W:X=J):eZ cf l b X R=none:=by
 subst W;unfold eZ;cases V:l.op<;>rw[V] at h<;>simp[gT] at h<;>first|rfl|simp
def zP(s:S)(n:Nat)(t:TypeId)(X:aq)(d:cM)(w:C):(s.more n t X d w).ni=s.ni/\(s.more n t X d w).nb=s.nb/\(s.more n t X d w).rs=s.rs:=f8 _ _ _
def Lg{d:cM}{q:Nat}(h:d≠U q):(R.more X v e d r).tmps[q]?=R.tmps[q]?:=mR h
def DF(s:S)(n:Nat)(t:TypeId)(X:aq)(d:cM)(w:C):(s.more n t X d w).ap=s.ap.set n (U (t,X)):=mj _ _ _
def DG{d W:cM}{w:C}(h:∀x,d=U x->W≠U x):(R.put d r).more X v e W w=(R.more X v e W w).put d r:=by
 unfold S.more;have:(R.put d r).dt X v e=(R.dt X v e).put d r:=by cases d<;>rfl
 rw[this,abf h]
def abp{s:S}{n n':Nat}{X:TypeId}{W V:aq}{d e:cM}{w:C}(h:∀x,d=U x->e≠U x)(R:n≠n'):(s.more n v W d r).more n' X V e w=(s.more n' X V e w).more n v W d r:=by
 show((s.dt n v W).put d r).more n' X V e w=_;rw[DG h];unfold S.more;have:((s.dt n v W).dt n' X V).put e w=((s.dt n' X V).put e w).dt n v W:=by
  have Q:(s.dt n v W).dt n' X V=(s.dt n' X V).dt n v W:=by simp only[S.dt];rw[List.set_comm _ _ R]
  rw[Q];cases e<;>rfl
 rw[this]
def alE:∀{l:aq}{P O N:Nat}{V:Nat->Bool}{i:Nat},C.ec P O N V l=J->i∈C.pC l->V i=true:=by
 have L:∀(n:Nat)(l:aq),SizeOf.sizeOf l<n->∀{P O N:Nat}{V:Nat->Bool}{i:Nat},C.ec P O N V l=J->i∈C.pC l->V i=true:=by
  intro n;induction n with
  |zero=>intro l h;omega
  |succ n R=>
   intro l Q P O N V i W X;cases l with
   |nil=>simp[C.pC] at X
   |cons x M=>
    simp only[C.iQ,aw] at W;simp only[C.pC,eV] at X;simp only[List.cons.sizeOf_spec] at Q;rcases X with X|X;cases x with
    |loc j o=>simp[C.HA] at X;subst X;simpa only[C.bj] using W.1
    |jf j a b c=>simp[C.HA] at X;subst X;simpa only[C.bj] using W.1
    |agg m=>exact R m (by simp at Q;omega) (by simpa only[C.bj] using W.1) X
    |bM m=>exact R m (by simp at Q;omega) (by simpa only[C.bj] using W.1) X
    |fn f m=>exact R m (by simp at Q;omega) (by simpa only[C.bj] using W.1) X
    |gX t y=>exact R [y] (by
     have H:0<SizeOf.sizeOf M:=by cases M<;>simp<;>omega
     simp at Q⊢;omega) (by simpa[C.iQ,C.bj] using W.1) (by simpa[C.pC,C.HA] using X)
    |mp j=>simp[C.HA] at X;subst X;simpa only[C.bj] using W.1
    |gg e G m=>exact R m (by simp at Q;omega) (by have:=W.1;simp only[C.bj,aw] at this;exact this.2) X
    |_=>simp[C.HA] at X
    exact R M aa W.2 X
 intro l P O N V i;exact L _ l (Nat.lt_succ_self _)
def alF{l:bG}{x:TypeId×aq}(h:X∉t)(R:gu l X=J):sa t 0 (l.set X (U x))=sa t 0 l:=by
 apply kG;intro i;rw[T8,T8,iX];by_cases W:i=X;subst W;have V:=(nF R).2;rw[G6 V,cS V];simp[h];rw[rX (λe=>W e.symm)]
def alG(X:aS)(s:S)(n:Nat)(t:TypeId)(W:aq)(d:cM)(w:C):((s.more n t W d w).cP X).1=(s.cP X).1/\((s.more n t W d w).cP X).2=(s.cP X).2.more n t W d w:=by
 induction X generalizing s with
 |nil=>exact⟨rfl,rfl⟩
 |cons k X V=>
  simp only[S.cP];have R:((s.more n t W d w).fresh k).1=(s.fresh k).1/\((s.more n t W d w).fresh k).2=(s.fresh k).2.more n t W d w:=by
   cases k<;>cases d<;>exact⟨rfl,rfl⟩
  rw[R.1,R.2];exact⟨by rw[(V _).1],(V _).2⟩
def Un(s:S)(X:aq)(W:aS)(n:Nat)(t:TypeId)(V:aq)(d:cM)(w:C):(s.more n t V d w).cut X W=(s.cut X W).more n t V d w:=by cases d<;>rfl
def axg{d:cM}(h:(R.put d r).bd=J)(X:∀e,d=U e->yf R e):R.bd=true:=by
 cases d with
 |none=>exact h
 |some d=>
  simp only[S.bd,S.put,wc,aw] at h⊢;exact⟨abi h.1 (X d rfl),h.2⟩
def alH{V:cM}{d:cM}{be:BE}{W:TypeId}{k:RK}{x:LE}{dq:ar}{b:BI}(O:(R.more X v e V r).bd=J)(N:∀q,V=U q->d≠U q)
  (h:kC R d be W k x t dq=U b):kC (R.more X v e V r) d be W k x t dq=U {b with s:=b.s.more X v e V r}:=by
 unfold kC at h⊢;split at h;rename_i Q;cases h;simp only[aw] at Q;obtain⟨⟨⟨A,M⟩,L⟩,H⟩:=Q;obtain⟨G,F,P⟩:=zP R X v e V r;rw[aJ (by simp only[aw];rw[G,F,P];exact⟨⟨⟨O,M⟩,L⟩,H⟩)];congr 2;rw[P,DG (λq D B=>N q B D)];cases V<;>rfl;cases h
def axh{Q:cM}{P:Ty}{W:TypeId}{O:TI}{y:C}{V:LE×BE×ar}(L:gu R.ap X=J)(h:sd P R W O y=U V):sd P (R.more X v e Q r) W O y=U V:=by
 have N:(R.more X v e Q r).rs=R.rs:=(zP _ _ _ _ _ _).2.2;unfold sd at h⊢;split at h;simp only[DA N];exact h;rename_i i G F D;rw[DF];split at h;rename_i M;have H:i≠X:=λW=>by subst W;have:=(nF L).1;simp[aK,(zD M).1] at this
 rw[OL (zF H)];simp only[M,FC N];exact h;cases h;cases h
def alI{V:cM}{W:TypeId}{y:C}:xQ (R.more X v e V r) W b y=xQ R W b y:=by
 have Q:(R.more X v e V r).rs=R.rs:=(zP _ _ _ _ _ _).2.2;have P:(R.more X v e V r).lk=R.lk:=Ul _ _ _;unfold xQ;simp only[Q,P]
def axi{Q:cM}{W:BI}(H:gu R.ap X=J)(M:(R.more X v e Q r).bd=J)(L:∀q,Q=U q->l.dst≠U q)
  (P:∀z∈l.op.operands.toList,(R.more X v e Q r).ev cf.gl z=R.ev cf.gl z)(h:eZ cf l b J R=U W):eZ cf l b J (R.more X v e Q r)=U {W with s:=W.s.more X v e Q r}:=by
 have G:(R.more X v e Q r).rs=R.rs:=(zP _ _ _ _ _ _).2.2;have O:=Le h;unfold eZ at h⊢;cases F:l.op<;>rw[F] at O h P<;>simp[uM] at O;rename_i t' D B;simp only at h⊢;rw[P D cK,P B cK];split at h;rename_i V aj q A m2 y x u;split at h;rename_i m k;split at h;rename_i j;rw[FC G,aJ j];exact alH M L h;cases h;cases h;cases h;rename_i c;cases N:c.callee with
 |builtin i=>
  cases i<;>simp[N] at O;simp only[N] at h⊢;have g:c.args.toList.map ((R.more X v e Q r).ev cf.gl)=c.args.toList.map (R.ev cf.gl):=jT λz f=>P z (by simp[iF,A7];exact .inr (by simpa using f))
  rw[g];split at h;rename_i t1 t2 x0 y0 x u;split at h;rename_i V aj q e2 af q2 y ag;split at h;rename_i m k;split at h;cases h;rename_i d;rw[aQ d,alI];split at h;rename_i la n1 al lb A dq a g2;rw[a,axh H g2];exact alH M L h;cases h;cases h;cases h;cases h
 |_=>simp[N] at O
mutual
def C.eH{Q P O N M L:Nat}{H G:Nat->Bool}(W:Q<=N)(V:P<=M)(R:O<=L)(h:∀i,H i=J->G i=J):∀(v:C),v.bd Q P O H=J->v.bd N M L G=J
 |.int _ e,X=>by simp only[C.bj] at X⊢;exact K.eH W V R e X
 |.bool e,X=>by simp only[C.bj] at X⊢;exact BE.eH W V R e X
 |.ah e,X=>by simp only[C.bj] at X⊢;exact RE.eH W V R e X
 |.loc i _,X=>by simp only[C.bj] at X⊢;exact h i X
 |.jf i _ _ _,X=>by simp only[C.bj] at X⊢;exact h i X
 |.el r _ i _,X=>by simp only[C.bj,aw] at X⊢;exact⟨RE.eH W V R r X.1,K.eH W V R i X.2⟩
 |.agg l,X=>by simp only[C.bj] at X⊢;exact C.Lh W V R h l X
 |.bM l,X=>by simp only[C.bj] at X⊢;exact C.Lh W V R h l X
 |.fn _ l,X=>by simp only[C.bj] at X⊢;exact C.Lh W V R h l X
 |.gX _ x,X=>by simp only[C.bj] at X⊢;exact C.eH W V R h x X
 |.yl _,_=>by simp only[C.bj]
 |.any,_=>by simp only[C.bj]
 |.mp i,X=>by simp only[C.bj] at X⊢;exact h i X
 |.gg e _ F,X=>by simp only[C.bj,aw] at X⊢;exact⟨K.eH W V R e X.1,C.Lh W V R h F X.2⟩
def C.Lh{W V R Q P O:Nat}{N M:Nat->Bool}(L:W<=Q)(H:V<=P)(G:R<=O)(h:∀i,N i=J->M i=J):∀(l:aq),C.ec W V R N l=J->C.ec Q P O M l=J
 |[],_=>rfl
 |x::F,X=>by simp only[C.iQ,aw] at X⊢;exact⟨C.eH L H G h x X.1,C.Lh L H G h F X.2⟩
end
def Po{s':S}{d:cM}(X:R.bd=J)(V:R.ni<=s'.ni)(Q:R.nb<=s'.nb)(P:Y R.rs<=Y s'.rs)(N:s'.tmps=R.tmps)(M:s'.ap=R.ap)(L:r.bd s'.ni s'.nb (Y s'.rs) (aK s'.ap)=J):(s'.put d r).bd=true:=by
 simp only[S.bd,aw] at X⊢;obtain⟨H,G,F⟩:=f8 s' d r;rw[H,G,F,mj,M];rw[M] at L;refine⟨?_, ?_⟩;rw[wv];intro u W;cases d with
 |none=>
  simp only[S.put,N] at W;exact C.eH V Q P (λ_ h=>h) u (wv.1 X.1 u W)
 |some d=>
  simp only[S.put,wc,N] at W;rcases EU W with O|O;exact C.eH V Q P (λ_ h=>h) u (wv.1 X.1 u O);rw[O];exact L
 rw[DE];exact λi b D=>C.Lh V Q P (λ_ h=>h) _ (DE.1 X.2 i b D)
def abq:∀(X:aS)(s:S),s.ni<=(s.cP X).2.ni/\s.nb<=(s.cP X).2.nb/\Y s.rs<=(s.cP X).2.rs.length
 |[],s=>⟨b9 _,b9 _,b9 _⟩
 |k::X,s=>by
  have:=abq X (s.fresh k).2;simp only[S.cP];cases k<;>simp[S.fresh] at this⊢<;>omega
def alJ{pr:Nat->Bool}:∀(X:aS)(s:S),C.ec (s.cP X).2.ni (s.cP X).2.nb (s.cP X).2.rs.length pr (s.cP X).1=J
 |[],s=>rfl
 |k::X,s=>by
  have W:=alJ (pr:=pr) X (s.fresh k).2;have V:=abq X (s.fresh k).2;simp only[S.cP,C.iQ,aw];refine⟨?_,W⟩;cases k<;>simp only[S.fresh,C.bj,K.bj,BE.bj,RE.bj,cm]<;>simp[S.fresh] at V<;>omega
def alK{N:Ty}{W V R:Nat}{Q:Nat->Bool}:∀{O:jU}{l r:aq},C.ec W V R Q l=J->Bg N O l=U r->C.ec W V R Q r=J
 |[],l,r,_,h=>by simp[Bg] at h;subst h;rfl
 |t::O,l,r,X,h=>by
  simp only[Bg] at h;split at h;rename_i M F;split at h;rename_i D L;cases h;have H:C.ec W V R Q (l.drop (Y M.aj))=true:=by rw[wv] at X⊢;exact λv P=>X v (CY P)
  simp only[C.iQ,aw];refine⟨?_,alK H L⟩;split;simp only[C.bj];rw[wv] at X⊢;exact λv P=>X v (EW P)
  rw[cz];cases G:l[0]? with
  |none=>simp[C.bj]
  |some v=>exact wt X G
  cases h;cases h
def axj{W V:Nat}{R:Nat->Bool}(h:C.ec X W V R e=J):(one e).bd X W V R=true:=by
 unfold one;split;simp only[C.iQ,N8] at h;exact h;simp only[C.bj];exact h
def axk(W:R.bd=J){X:aS}{V:jU}{r:aq}{d:cM}(h:Bg cf.ty V ((R.cut e X).cP X).1=U r):((((R.cut e X).cP X).2).put d (one r)).bd=true:=by
 obtain⟨Q,P,L,H⟩:=ye X (R.cut e X);obtain⟨O,N,M⟩:=abq X (R.cut e X);refine Po W O N ?_ P Q (axj (alK (alJ X _) h));have:=(Fy e X R.rs).len;simp only[S.cut] at M⊢;omega
def Pp{X:BI}(h:eZ cf l b J R=U X):R.bd=J/\X.s.bd=J/\X.s.ap=R.ap:=by
 have P:∀{be:BE}{e:TypeId}{k:RK}{x:LE}{V dq:ar},kC R l.dst be e k x V dq=U X->R.bd=J/\X.s.bd=J/\X.s.ap=R.ap:=by
  intro be e k x V dq h;obtain⟨O,-,rfl⟩:=zH h;refine⟨O, ?_,mj _ _ _⟩;exact Po (s':={R with rs:=kB dq 0 (ju V 0 R.rs)++[k]}) O (b9 _) (b9 _) (by simp[By,Bw]) rfl rfl (by simp[C.bj,RE.bj,By,Bw])
 have W:=Le h;unfold eZ at h;cases N:l.op<;>rw[N] at W h<;>simp[uM] at W;simp only at h;split at h;split at h;split at h;exact P h;cases h;cases h;cases h;rename_i c;cases Q:c.callee with
 |builtin M=>
  cases M<;>simp[Q] at W;simp only[Q] at h;split at h;split at h;split at h;split at h;cases h;split at h;exact P h;cases h;cases h;cases h;cases h
 |_=>simp[Q] at W
def abr{Q:S}(V:gT h.o.op=J)(X:iS cf h R x Q):R.bd=true:=by
 unfold iS gG at X;split at X;exact X.elim
 ·cases P:h.o.op<;>rw[P] at V X<;>simp[gT] at V<;>simp only at X
  all_goals
   (repeat' split at X)
   all_goals first
    |exact X.elim
    |(rename_i W;simp only[aw,S.e9] at W;first|exact W.1.1|exact W.1.1.2.1|exact W.1.1.1)
def axl{X:TI}(W:h.o.op=.alloc v)(V:cf.ty v=U X)(Q:qY v=E)(P:R.bd=J)(N:gu R.ap h.ix=J):iS cf h R x (R.more h.ix v (eA X) h.o.dst (.loc h.ix 0)):=by
 have M:R.e9 (eA X)=true:=by simp only[S.e9,P,Hf];exact Um X
 unfold iS gG;rw[aQ (by rw[W];simp[iF])];have L:qr R.ap h.ix v=true:=by simp[qr,N,Q]
 simp only[W,V,M,L,v8,cN];rfl
def axm{y:OM}{s X:S}{O:ai}{t:TypeId}{W:TI}(V:y.o.op=.alloc t)(R:cf.ty t=U W)(h:iS cf y s O X):X=s.more y.ix t (eA W) y.o.dst (.loc y.ix 0):=by
 unfold iS gG at h;rw[aQ (by rw[V];simp[iF])] at h;simp only[V,R] at h;split at h;exact h;exact h.elim
structure axn(B:dN)(x y:OM):Prop where
 xy:∀q,x.o.dst=U q->y.o.dst≠U q
 yx:∀q,y.o.dst=U q->x.o.dst≠U q
 ry:∀q,x.o.dst=U q->q∉jV B y.o
 rx:∀q,y.o.dst=U q->q∉jV B x.o
def alL{x y:OM}(h:Ti B x y=J):axn B x y:=by
 unfold Ti at h;simp only[aw] at h;obtain⟨W,V⟩:=h;have R:∀q,x.o.dst=U q->y.o.dst≠U q:=λq X=>by rw[X] at W;simp at W;exact W.2
 exact⟨R,λq X Q=>R q Q X,λq X=>by rw[X] at W;simp at W;exact W.1,λq X=>by rw[X] at V;simpa using V⟩
def abs{X:S}(W:∀t∈jV B l,R.tmps[t]?=X.tmps[t]?):∀z∈l.op.operands.toList,R.ev cf.gl z=X.ev cf.gl z:=by
 intro z V;cases z with
 |tmp t=>
  have:t∈jV B l:=by unfold jV;exact xD _ (C0.2 ⟨.tmp t,V,rfl⟩)
  simp only[S.ev,xM,cz,W t this]
 |_=>rfl
def alM{X:S}(W:∀t∈jV B h.o,R.tmps[t]?=X.tmps[t]?)(V:R.ni=X.ni)(Q:R.nb=X.nb)(P:R.rs=X.rs):im B h R x=im B h X x:=by
 unfold im;cases N:h.o.guard with
 |none=>rfl
 |some q=>
  obtain⟨j,L⟩:=q;simp only;cases M:(B[j]?).bind (·.dst) with
  |none=>rfl
  |some d=>
   simp only;rw[W d (by unfold jV;rw[N];exact N1 _ (by simp[M])),V,Q,P]
def alN{g:FuncId}(h:eB cf R l=.call (.fn g) e)(X:R.bd=J)(Q:l.op.operands.toList.all xS=J):C.ec R.ni R.nb (Y R.rs) (aK R.ap) e=true:=by
 have W:∀x∈l.op.operands.toList,xS x=true:=fO.1 Q;unfold eB at h;split at h;split at h<;>cases h;rename_i c V;split at h;rename_i f P;split at h;rename_i L H O;split at h;cases h;cases h;rw[abl];refine⟨?_, ?_⟩;rw[wv];intro v N;obtain⟨z,M,rfl⟩:=iq.1 N;exact BH X (W z (by rw[V];simp[iF,A7];exact .inr (by simpa using M)));have:=BH (cf:=cf) X (W f (by rw[V];simp[iF,A7,P]));rw[O] at this;simpa only[C.bj] using this;split at h<;>cases h;cases h;cases h;split at h;split at h<;>cases h;cases h;cases h;cases h
def axo{g:FuncId}{Q A:ai->C->S->Prop}{H:aq}{d:cM}(F:gu R.ap X=J)(z:C.ec R.ni R.nb (Y R.rs) (aK R.ap) e=J)(m:(R.more X v H d r).bd=J)
  (h:La p cf R x g e Q)(l:∀y (G:jU)(L:aS)(P:aq),Bg cf.ty G ((R.cut e L).cP L).1=U P->Q y (one P) ((R.cut e L).cP L).2->A y (one P) (((R.cut e L).cP L).2.more X v H d r)):La p cf (R.more X v H d r) x g e A:=by
 obtain⟨G,L,P,k,j,q,o,f⟩:=h;obtain⟨c,b,D⟩:=zP R X v H d r;obtain⟨a,f2⟩:=alG L (R.cut e L) X v H d r;have af:X∉C.pC e:=λhm=>by have:=alE z hm;rw[(nF F).1] at this;cases this
 have ag:sa (C.pC e) 0 (R.more X v H d r).ap=sa (C.pC e) 0 R.ap:=by rw[DF];exact alF af F
 simp only[aw,S.e9] at o;refine⟨G,L,P,k,j,by rw[Un,a];exact q, ?_,λV W N=> ?_⟩;simp only[aw,S.e9];refine⟨⟨m, ?_⟩,o.2⟩;rw[c,b,D,DF];exact C.FD (λi hi=>(pM (nF F).2).2 (.inr hi)) e z;rw[ag,D] at N;refine(f V W N).mono ?_;intro M W' B;cases M with
 |returned u=>
  obtain⟨xs,q1,q2,q3,q4,q5⟩:=B;refine⟨xs,q1,q2,q3,by rw[D];exact q4, ?_⟩;rw[Un,f2];exact l _ G L P q q5
 |panicked ch=>exact B
 |outgrown=>exact B
def axp{g:FuncId}{Q B:ai->C->S->Prop}{H:aq}{d:cM}(A:gu R.ap X=J)(z:C.ec R.ni R.nb (Y R.rs) (aK R.ap) e=J)(k:R.bd=J)
  (h:La p cf (R.more X v H d r) x g e Q)(j:∀y (G:jU)(L:aS)(P:aq),Bg cf.ty G ((R.cut e L).cP L).1=U P->Q y (one P) (((R.cut e L).cP L).2.more X v H d r)->B y (one P) ((R.cut e L).cP L).2):La p cf R x g e B:=by
 obtain⟨G,L,P,i,f,F,q,c⟩:=h;obtain⟨p1,p2,o⟩:=zP R X v H d r;obtain⟨b,a⟩:=alG L (R.cut e L) X v H d r;have af:X∉C.pC e:=λhm=>by have:=alE z hm;rw[(nF A).1] at this;cases this
 have ag:sa (C.pC e) 0 (R.more X v H d r).ap=sa (C.pC e) 0 R.ap:=by rw[DF];exact alF af A
 simp only[aw,S.e9] at q;rw[Un,b] at F;refine⟨G,L,P,i,f,F, ?_,λV W N=> ?_⟩;simp only[aw,S.e9];exact⟨⟨k,z⟩,q.2⟩;refine(c V W (by rw[ag,o];exact N)).mono ?_;intro M W' D;cases M with
 |returned u=>
  obtain⟨xs,q1,q2,q3,m,l⟩:=D;rw[o] at m;rw[Un,a] at l;exact⟨xs,q1,q2,q3,m,j _ G L P F l⟩
 |panicked ch=>exact D
 |outgrown=>exact D
def axq(an:Fz B A){x y:OM}{u:cX}{s:S}{O:ai}(b2:x.so=E)(a9:Kl B x y=J)(b3:∀d,x.o.dst=U d->yf s d)(N:gu s.ap y.ix=J)(hz:∀t,y.o.op=.alloc t->HO cf t=J)
  (h:eQ p cf B A F G H (x::y::u) O s):eQ p cf B A F G H (y::x::u) O s:=by
 unfold Kl at a9;simp only[aw] at a9;obtain⟨⟨⟨⟨⟨⟨⟨⟨ba,bl⟩,hy⟩,bc⟩,m⟩,b4⟩,br⟩,b5⟩,bs⟩:=a9;have bc:y.o.guard=none:=by simpa using bc
 have D:=alL b5;obtain⟨t,l⟩:∃t,y.o.op=.alloc t:=by cases l:y.o.op<;>rw[l] at hy<;>simp[HN] at hy;exact⟨_,rfl⟩
 have a0:=hz t l;simp only[HO,aw,ik] at a0;obtain⟨a0,b6⟩:=a0;obtain⟨V,ht⟩:=ln.1 a0;have k:gT y.o.op=true:=by rw[l];rfl
 have bt:∀(s':S)(M:ai),im B y s' M=U true:=λs' M=>by simp[im,bc]
 have j:∀{M:ai}{i:S},eQ p cf B A F G H (y::u) M i->i.bd=J/\eQ p cf B A F G H u M (i.more y.ix t (eA V) y.o.dst (.loc y.ix 0)):=by
  intro M i hr;simp only[eQ,bt,Pn k,Lf k bl,tT] at hr;rcases hr with⟨Q,_⟩|⟨_,s3,X,P⟩;cases Q;have:=axm l ht X;subst this;exact⟨abr k X,P⟩
 have done:s.bd=J->eQ p cf B A F G H (x::u) O (s.more y.ix t (eA V) y.o.dst (.loc y.ix 0))->eQ p cf B A F G H (y::x::u) O s:=by
  intro W X;rw[eQ];refine .inr ⟨bt s O, ?_⟩;rw[Pn k];simp only[Lf k bl,tT];exact⟨_,axl l ht b6 W N,X⟩
 have a1:s.bd=J->(s.more y.ix t (eA V) y.o.dst (.loc y.ix 0)).bd=true:=λW=>alD W N (by simp only[S.e9,W,Hf];exact Um V) (by simp[C.bj])
 obtain⟨p1,p2,p3⟩:=zP s y.ix t (eA V) y.o.dst (.loc y.ix 0);have a:im B x (s.more y.ix t (eA V) y.o.dst (.loc y.ix 0)) O=im B x s O:=alM (λq hq=>Lg (λe=>D.rx q e hq)) p1 p2 p3;have af:∀z∈x.o.op.operands.toList,(s.more y.ix t (eA V) y.o.dst (.loc y.ix 0)).ev cf.gl z=s.ev cf.gl z:=abs (λq hq=>Lg (λe=>D.rx q e hq));rw[eQ] at h;rcases h with⟨Q,X⟩|⟨Q,X⟩
 ·obtain⟨g1,g2⟩:=j X;refine done (axg g1 b3) ?_;rw[eQ];refine .inl ⟨by rw[a];exact Q, ?_⟩;rw[<-DG D.xy];exact g2
 ·cases R:eB cf s x.o with
  |call g0 bf=>
   rw[R] at X;rcases g0 with g|n
   rotate_left
   have P:=X.1;rw[b2] at P;cases P;have L:qC _ _ _:=X;clear X;cases ag:A g bf s with
   |some ve=>
    obtain⟨pv,ex⟩:=ve;rw[ag] at L;obtain⟨W,L⟩:=L;have hR:=an.reg _ _ _ _ ag;have bg:Kk x.o.op=true:=by simpa[hR,abd R] using bs
    have bk:=alr bg R;subst bk;refine done W ?_;rw[eQ];refine .inr ⟨by rw[a];exact Q, ?_⟩;rw[FB af,R];show qC _ _ _;rw[show A g [] (s.more y.ix t (eA V) y.o.dst (.loc y.ix 0))=U (pv,ex) from(an.z _ _ _ _ _ _ _ N).trans ag];refine⟨a1 W, ?_⟩;have b7:=(nF N).2;have b8:(s.more y.ix t (eA V) y.o.dst (.loc y.ix 0)).plus ex=(s.plus ex).more y.ix t (eA V) y.o.dst (.loc y.ix 0):=by
     have:(s.dt y.ix t (eA V)).plus ex=(s.plus ex).dt y.ix t (eA V):=by
      simp only[S.dt,S.plus,List.set_append_left _ _ b7]
     unfold S.more;rw[<-this];cases y.o.dst<;>rfl
    rw[b8,<-DG D.xy];exact(j L).2
   |none=>
   rw[ag] at L;simp only[qC] at L;have X:=L;have W:s.bd=true:=by obtain⟨ts,ks,r,c1,c2,c3,c4,c5⟩:=X;simp only[aw,S.e9] at c4;exact c4.1.1
   refine done W ?_;rw[eQ];refine .inr ⟨by rw[a];exact Q, ?_⟩;rw[FB af,R];show qC _ _ _;have ca:A g bf (s.more y.ix t (eA V) y.o.dst (.loc y.ix 0))=none:=by
    cases hh:A g bf (s.more y.ix t (eA V) y.o.dst (.loc y.ix 0)) with
    |none=>rfl
    |some r=>
     exfalso;have hR:=an.reg _ _ _ _ hh;have bg:Kk x.o.op=true:=by simpa[hR,abd R] using bs
     have bk:=alr bg R;subst bk;have:=(an.z g s y.ix t (eA V) y.o.dst (.loc y.ix 0) N).symm.trans hh;rw[ag] at this;cases this
   rw[ca];simp only[qC];refine axo N (alN R W br) (a1 W) X (λM ts ks r _ hr=> ?_);rw[<-DG D.xy];exact(j hr).2
  |bI v=>
   exfalso;have hp:=abh R;cases a3:x.o.op<;>rw[a3] at m hp<;>simp[Kj,gT,uM,zx] at hp m;rename_i c;cases a4:c.callee<;>simp[a4] at hp m;rename_i bb;cases bb<;>simp at hp m
  |no=>rw[R] at X;exact X.elim
  |op=>
   rw[R] at X;simp only at X;cases W:eZ cf x.o x.bS x.dr s with
   |some b=>
    rw[W] at X;obtain⟨hn,X⟩:=X;rw[ba] at W;obtain⟨q1,q2,q3⟩:=Pp W;refine done q1 ?_;rw[eQ];refine .inr ⟨by rw[a];exact Q, ?_⟩;rw[FB af,R];simp only;rw[ba,axi N (a1 q1) D.yx af W];refine⟨hn,λrv bx=> ?_⟩;rw[p3] at bx;exact(j (X rv bx)).2
   |none=>
    rw[W] at X;obtain⟨i,P,h4⟩:=X;have al:gT x.o.op=true:=by
     simp only[jy] at m;rcases m with(w|w)|w;exact w;exact(abj w P).elim
     ·exfalso;cases a3:x.o.op<;>rw[a3] at w<;>simp[zx] at w;rename_i c;cases a4:c.callee<;>simp[a4] at w;rename_i f;simp only[eB,a3,a4] at R
      (repeat' split at R)<;>cases R
    have b0:x.ix≠y.ix:=by simpa[al] using b4
    have b1:=abr al P;obtain⟨tx,cx,wx,rfl,g2,g3,g4⟩:=abo al br P;refine done b1 ?_;rw[eQ];refine .inr ⟨by rw[a];exact Q, ?_⟩;rw[Pn al];simp only[Lf al ba,tT];refine⟨_,(g4 _ O af (a1 b1) ?_).2, ?_⟩;unfold gu at g2⊢;rw[DF,rX (λe=>b0 e.symm)];exact g2;rw[abp D.yx (λe=>b0 e.symm)];exact(j h4).2
def alO{V:cM}{d:cM}{be:BE}{W:TypeId}{k:RK}{x:LE}{dq:ar}{P:BI}(N:R.bd=J)(M:∀q,V=U q->d≠U q)
  (h:kC (R.more X v e V r) d be W k x t dq=U P):∃b,kC R d be W k x t dq=U b/\P={b with s:=b.s.more X v e V r}:=by
 obtain⟨L,H,O⟩:=zP R X v e V r;unfold kC at h⊢;split at h;rename_i Q;cases h;simp only[aw] at Q;rw[L,H,O] at Q;obtain⟨⟨⟨z,G⟩,F⟩,D⟩:=Q;rw[aJ (by simp only[aw];exact⟨⟨⟨N,G⟩,F⟩,D⟩)];refine⟨_,rfl, ?_⟩;congr 1;rw[O,DG (λq B A=>M q A B)];cases V<;>rfl;cases h
def axr{P:cM}{O:Ty}{W:TypeId}{N:TI}{y:C}{V:LE×BE×ar}(L:gu R.ap X=J)(Q:y.bd R.ni R.nb (Y R.rs) (aK R.ap)=J)(h:sd O (R.more X v e P r) W N y=U V):sd O R W N y=U V:=by
 have M:(R.more X v e P r).rs=R.rs:=(zP _ _ _ _ _ _).2.2;unfold sd at h⊢;split at h;simp only[DA M] at h;exact h;rename_i i F D B;rw[DF] at h;have H:i≠X:=λW=>by subst W;simp only[C.bj] at Q;rw[(nF L).1] at Q;cases Q
 rw[OL (zF H)] at h;split at h;rename_i G;simp only[FC M] at h
 first|exact h|(rw[G];exact h)
 cases h;cases h
def axs{Q:cM}{H:BI}(y:gu R.ap X=J)(N:R.bd=J)(G:∀q,Q=U q->l.dst≠U q)(u:l.op.operands.toList.all xS=J)
  (P:∀z∈l.op.operands.toList,(R.more X v e Q r).ev cf.gl z=R.ev cf.gl z)(h:eZ cf l b J (R.more X v e Q r)=U H):∃W,eZ cf l b J R=U W/\H={W with s:=W.s.more X v e Q r}:=by
 have m:(R.more X v e Q r).rs=R.rs:=(zP _ _ _ _ _ _).2.2;have F:∀x∈l.op.operands.toList,xS x=true:=fO.1 u;have O:=Le h;unfold eZ at h⊢;cases k:l.op<;>rw[k] at O h P F<;>simp[uM] at O;rename_i t' j i;simp only at h⊢;rw[P j cK,P i cK] at h;split at h;rename_i V aj q g m2 f d D;split at h;rename_i a af;split at h;rename_i B;rw[FC m] at B;rw[aJ B];exact alO N G h;cases h;cases h;cases h;rename_i c;cases M:c.callee with
 |builtin bb=>
  cases bb<;>simp[M] at O;simp only[M] at h⊢;have ag:c.args.toList.map ((R.more X v e Q r).ev cf.gl)=c.args.toList.map (R.ev cf.gl):=jT λz L=>P z (by simp[iF,A7];exact .inr (by simpa using L))
  rw[ag] at h;split at h;rename_i t1 t2 x0 A d D;have al:A.bd R.ni R.nb (Y R.rs) (aK R.ap)=true:=by
   have:A∈c.args.toList.map (R.ev cf.gl):=by rw[D];simp
   obtain⟨z,L,rfl⟩:=iq.1 this;exact BH N (F z (by simp[iF,A7];exact .inr (by simpa using L)))
  split at h;rename_i V aj q e2 a0 q2 f a1;split at h;rename_i a af;split at h;cases h;rename_i an;rw[aQ an];rw[alI] at h;split at h;rename_i la n1 a3 lb g dq g1 g2;rw[g1,axr y al g2];exact alO N G h;cases h;cases h;cases h;cases h
 |_=>simp[M] at O
def axt(cC:Fz B A){x y:OM}{bc:cX}{s:S}{O:ai}(cD:y.so=E)(bs:Ov B x y=J)
  (h:eQ p cf B A F G H (x::y::bc) O s):eQ p cf B A F G H (y::x::bc) O s:=by
 unfold Ov at bs;simp only[aw] at bs;obtain⟨⟨⟨⟨⟨⟨⟨⟨⟨⟨cl,bf⟩,a0⟩,ds⟩,bx⟩,cI⟩,ba⟩,a1⟩,cO⟩,cR⟩,cW⟩:=bs;have bx:x.o.guard=none:=by simpa using bx
 have D:=alL cR;have cn:∀(N:S)(O':ai),im B x N O'=U true:=λN O'=>by simp[im,bx]
 rw[eQ] at h;rcases h with⟨h1,_⟩|⟨_,h2⟩;rw[cn] at h1;cases h1;rw[Pn a0] at h2;simp only[Lf a0 cl,tT] at h2;obtain⟨s1,h3,h4⟩:=h2;have Q:=abr a0 h3;obtain⟨t,m,w,rfl,L,hw,tr⟩:=abo a0 cI h3;have dx:s.e9 m=true:=(tr s O (λ_ _=>rfl) Q L).1;obtain⟨p1,p2,p3⟩:=zP s x.ix t m x.o.dst w;have b0:im B y (s.more x.ix t m x.o.dst w) O=im B y s O:=alM (λq X=>Lg (λe=>D.ry q e X)) p1 p2 p3;have a3:∀z∈y.o.op.operands.toList,(s.more x.ix t m x.o.dst w).ev cf.gl z=s.ev cf.gl z:=abs (λq X=>Lg (λe=>D.ry q e X));have a4:∀{O':ai}{N:S},(∀q,y.o.dst≠U q->N.tmps[q]?=s.tmps[q]?)->N.bd=J->gu N.ap x.ix=J->eQ p cf B A F G H bc O' (N.more x.ix t m x.o.dst w)->eQ p cf B A F G H (x::bc) O' N:=by
  intro O' N ht a9 c0 hr;rw[eQ];refine .inr ⟨cn _ _, ?_⟩;rw[Pn a0];simp only[Lf a0 cl,tT];exact⟨_,(tr N O' (abs (λq X=>ht q (λe=>D.rx q e X))) a9 c0).2,hr⟩
 rw[eQ] at h4;rcases h4 with⟨h5,W⟩|⟨h5,W⟩;rw[eQ];refine .inl ⟨by rw[<-b0];exact h5, ?_⟩;refine a4 (λq X=>mR X) (Po (s':=s) Q (b9 _) (b9 _) (b9 _) rfl rfl (by simp[C.bj,C.iQ])) (by rw[mj];exact L) ?_;rw[DG D.yx];exact W
 ·rw[eQ];refine .inr ⟨by rw[<-b0];exact h5, ?_⟩;rw[FB a3] at W;cases a:eB cf s y.o with
  |call g0 b5=>
   rw[a] at W;rcases g0 with g|n
   rotate_left
   have h3:=W.1;rw[cD] at h3;cases h3;have co:∀N,A g b5 N=none:=λN=>by
    cases hh:A g b5 N with
    |none=>rfl
    |some r=>
     exfalso;have hR:=cC.reg _ _ _ _ hh;simp[hR,abd a] at cW
   have hP:qC _ _ _:=W;clear W;rw[co] at hP;simp only[qC] at hP;have W:=hP;show qC _ _ _;rw[co];simp only[qC];refine axp L (alN a Q ba) Q W (λO' ts ks r hm hr=> ?_);obtain⟨b1,b2,b3,b4⟩:=ye ks (s.cut b5 ks);refine a4 (λq X=>by rw[mR X,b2];rfl) (axk Q hm) (by rw[mj,b1];exact L) ?_;rw[DG D.yx];exact hr
  |bI v=>
   exfalso;have hp:=abh a;cases bg:y.o.op<;>rw[bg] at a1 hp<;>simp[Kj,gT,uM,zx,Fb,zw] at hp a1;rename_i c;cases bk:c.callee<;>simp[bk] at hp a1;rename_i bb;cases bb<;>simp at hp a1
  |no=>rw[a] at W;exact W.elim
  |op=>
   rw[a] at W;show tT _ _ _;have W:tT _ _ _:=W;cases bl:eZ cf y.o y.bS y.dr (s.more x.ix t m x.o.dst w) with
   |some b1=>
    rw[bl] at W;obtain⟨hn,W⟩:=W;rw[bf] at bl⊢;obtain⟨b,g1,rfl⟩:=axs L Q D.xy ba a3 bl;rw[g1];obtain⟨q1,q2,q3⟩:=Pp g1;refine⟨hn,λrv c1=> ?_⟩;refine a4 (abk g1) q2 (by rw[q3];exact L) (W rv (by rw[p3];exact c1))
   |none=>
    rw[bl] at W;obtain⟨c2,P,h8⟩:=W;by_cases k:Fb y.o.op=J
    
    have X:nY y.o.op=true:=by cases V:y.o.op<;>rw[V] at k<;>simp[Fb] at k<;>rfl
    have dy:Bo y.o.op=false:=by cases V:y.o.op<;>rw[V] at k<;>simp[Fb] at k<;>rfl
    rw[bf,alu X];simp only[tT];obtain⟨v,l,hv,rfl⟩:=(Lb (ops:=B) X h5).1 P;have c3:ly cf B y.o (s.more x.ix t m x.o.dst w) O s O:=ly.zN (λq X=>(Lg (λe=>D.ry q e X)).symm) p3.symm p1.symm p2.symm;have R:=abe c3 (λi hi=>by
     unfold Bc at hi;cases V:y.o.op<;>rw[V] at k hi<;>simp[Fb] at k<;>cases hi) hv
    have cp:im B y s O=U true:=by rw[<-b0];exact h5
    refine⟨_,(Lb (ops:=B) X cp).2 ⟨v,l,R,rfl⟩, ?_⟩;have c4:v.bd s.ni s.nb (Y s.rs) (aK s.ap)=true:=by
     have an:∀z∈y.o.op.operands.toList,xS z=true:=fO.1 ba;rcases R with R|⟨-,-,R⟩;rw[cp] at R;cases R.1;cases V:y.o.op<;>rw[V] at k R an<;>simp[Fb] at k;rename_i z;have:=R.1;simp only[cE,PR.zO] at this;rw[this];exact BH Q (an z cK);rename_i z;have:=R.1;simp only[cE,PR.zO] at this;rw[this];exact BH Q (an z cK);rename_i st z f;have af:=BH (cf:=cf) Q (an z cK);have:=R.1;simp only[cE] at this;split at this;rename_i hz;rw[hz] at af;split at this;split at this;split at this;exact this.elim;rw[this];exact af;exact this.elim;exact this.elim;rename_i hz;rw[hz] at af;split at this;split at this;split at this;exact this.elim;rw[this];exact af;exact this.elim;exact this.elim;exact this.elim
    have c5:l=0:=by
     rcases R with R|⟨-,-,R⟩;exact R.2.2;cases V:y.o.op<;>rw[V] at k R<;>simp[Fb] at k<;>exact R.2
    subst c5;rw[Ie] at h8⊢;refine a4 (λq X=>mR X) (Po (s':=s) Q (b9 _) (b9 _) (b9 _) rfl rfl c4) (by rw[mj];exact L) ?_;rw[DG D.yx];exact h8;by_cases b6:zw y.o.op=J;obtain⟨t',z,u,V⟩:∃t z u,y.o.op=.store t z u:=by cases V:y.o.op<;>rw[V] at b6<;>simp[zw] at b6;exact⟨_,_,_,rfl⟩
    have an:∀z∈y.o.op.operands.toList,xS z=true:=fO.1 ba;have b7:eZ cf y.o y.bS y.dr s=none:=by rw[bf];simp[eZ,V]
    rw[b7];simp only[tT];have hz:=a3 z (by rw[V];simp[iF]);have hu:=a3 u (by rw[V];simp[iF]);have af:=BH (cf:=cf) Q (an z (by rw[V];simp[iF]));have c6:=BH (cf:=cf) Q (an u (by rw[V];simp[iF]));unfold iS gG at P;split at P;exact P.elim;rename_i M;have c7:¬(y.o.op.operands.toList.any λz=>(s.ev cf.gl z).eO)=true:=by
     intro hh;obtain⟨zz,ct,c8⟩:=kH.1 hh;exact M (kH.2 ⟨zz,ct,by rw[a3 zz ct];exact c8⟩)
    simp only[V,hz,hu] at P;split at P;rename_i ti i ag c9 hi;have b8:i≠x.ix:=λe=>by subst e;rw[hi] at af;simp only[C.bj] at af;rw[(nF L).1] at af;cases af
    rw[DF,OL (zF b8)] at P;split at P;rename_i bt al cv;obtain⟨ca,-⟩:=zD cv;split at P;rename_i br;have dc:(s.more x.ix t m x.o.dst w).lk=s.lk:=Ul _ _ _;rw[dc] at br;have dz:((s.ev cf.gl u).cells.length==Y ti.aj)=true:=by simp only[aw] at br;exact br.1.1.1.1
    refine⟨(s.dt i bt (lI al ag (s.ev cf.gl u).cells)).put y.o.dst (.bM []), ?_, ?_⟩;unfold iS gG;rw[aQ c7];simp only[V,c9,hi,cv];rw[aJ br];rfl;have dd:((s.dt i bt (lI al ag (s.ev cf.gl u).cells)).put y.o.dst (.bM [])).bd=true:=by
     have cx:i<Y s.ap:=(ck.1 (kj.1 ca)).1;have df:∀j,aK (s.ap.set i (U (bt,lI al ag (s.ev cf.gl u).cells))) j=aK s.ap j:=λj=>by
      by_cases hj:j=i;subst hj;simp[aK,H0 cx,ca];simp[aK,zF hj]
     have dk:aK (s.ap.set i (U (bt,lI al ag (s.ev cf.gl u).cells)))=aK s.ap:=funext df;have a9:=Q;simp only[S.bd,aw] at a9;have b7:(s.dt i bt (lI al ag (s.ev cf.gl u).cells)).bd=true:=by
      simp only[S.bd,S.dt,dk,aw];refine⟨a9.1, ?_⟩;rw[DE];intro j b hj;by_cases cA:j=i;subst cA;rw[H0 cx] at hj;cases hj;exact abn (DE.1 a9.2 j _ ca) (abm c6);rw[zF cA] at hj;exact DE.1 a9.2 j b hj
     exact Po (s':=s.dt i bt (lI al ag (s.ev cf.gl u).cells)) b7 (b9 _) (b9 _) (b9 _) rfl rfl (by simp[C.bj,C.iQ])
    refine a4 (λq X=>by rw[mR X];rfl) dd ?_ ?_;rw[mj];unfold gu at L⊢;simp only[S.dt];rw[rX b8];exact L;have dn:c2=((s.more x.ix t m x.o.dst w).dt i bt (lI al ag (s.ev cf.gl u).cells)).put y.o.dst (.bM []):=P;subst dn;have:((s.dt i bt (lI al ag (s.ev cf.gl u).cells)).put y.o.dst (.bM [])).more x.ix t m x.o.dst w=((s.more x.ix t m x.o.dst w).dt i bt (lI al ag (s.ev cf.gl u).cells)).put y.o.dst (.bM []):=
     abp (s:=s) (n:=i) (n':=x.ix) (d:=y.o.dst) (e:=x.o.dst) D.yx b8
    rw[this];exact h8;exact P.elim;exact P.elim;exact P.elim;have cc:gT y.o.op=true:=by
     simp only[jy] at a1;rcases a1 with(((M|M)|M)|M)|M;exact M;exact(abj M P).elim
     ·exfalso;cases bg:y.o.op<;>rw[bg] at M<;>simp[zx] at M;rename_i c;cases bk:c.callee<;>simp[bk] at M;rename_i f;simp only[eB,bg,bk] at a
      (repeat' split at a)<;>cases a
     exact aZ M k;exact aZ M b6
    have ch:x.ix≠y.ix:=by simpa[cc] using cO
    rw[Lf cc bf];simp only[tT];obtain⟨dT,cy,wy,rfl,k2,k3,k4⟩:=abo cc ba P;have cB:gu s.ap y.ix=true:=by
     unfold gu at k2⊢;rw[DF,rX ch] at k2;exact k2
    obtain⟨m1,m2⟩:=k4 s O (λz hz=>(a3 z hz).symm) Q cB;refine⟨_,m2,a4 (λq X=>Lg X) (alD Q cB m1 (k3 _ _ _)) ?_ ?_⟩;unfold gu at L⊢;rw[DF,rX (λe=>ch e.symm)];exact L;rw[abp D.yx (λe=>ch e.symm)];exact h8
def axu(V:Fz B A){x y:OM}{R:cX}{s:S}{O:ai}(W:uN B x y=J)(Q:∀d,x.o.dst=U d->yf s d)(N:gT y.o.op=J->gu s.ap y.ix=J)(M:∀t,y.o.op=.alloc t->HO cf t=J)
  (L:Y O.i=s.ni)(D:Y O.b=s.nb)(z:Y O.r=Y s.rs)
  (h:eQ p cf B A F G H (x::y::R) O s):eQ p cf B A F G H (y::x::R) O s:=by
 unfold uN at W;simp only[aw,ik,jy] at W;obtain⟨⟨w,P⟩,W⟩:=W;rcases W with(X|X)|X;exact axe V P X Q L D z h;have v:gT y.o.op=true:=by
  unfold Kl at X;simp only[aw] at X;have:=X.1.1.1.1.1.1.2;cases u:y.o.op<;>rw[u] at this<;>simp[HN] at this;rfl
 exact axq V w X Q (N v) M h;exact axt V P X h
def alP{m:OM}{s P:S}{O:ai}(h:(gG cf m s).gives O P):∀n,gu s.ap n=J->(gT m.o.op=J->n≠m.ix)->gu P.ap n=true:=by
 intro q X R;have V:∀{t:TypeId}{Q:aq}{d:cM}{w:C}{i:Nat},q≠i->gu ((s.dt i t Q).put d w).ap q=true:=by
  intro t Q d w i N;rw[mj];unfold gu at X⊢;simp only[S.dt];rw[rX (λe=>N e.symm)];exact X
 unfold gG at h;split at h;exact h.elim;split at h;rename_i t W;split at h;split at h;cases h;exact V (R (by rw[W];rfl));exact h.elim;exact h.elim;rename_i t x W;split at h;split at h;cases h;exact V (R (by rw[W];rfl));exact h.elim;exact h.elim;rename_i t l L W;split at h;split at h;split at h;split at h;cases h;exact V (R (by rw[W];rfl));exact h.elim;exact h.elim;exact h.elim;exact h.elim;split at h;split at h;rename_i H Q M;split at h;cases h;refine V (λe=> ?_);subst e;have:=(nF X).1;simp[aK,(zD M).1] at this;exact h.elim;exact h.elim;exact h.elim;split at h;simp only[OR.gives] at h;split at h<;>(subst h;rw[mj];exact X);exact h.elim;obtain⟨v,-,rfl⟩:=BA h;rw[DD];exact X;obtain⟨v,-,rfl⟩:=BA h;rw[DD];exact X
def axv{m:OM}{s R:S}{O:ai}(h:(gG cf m s).gives O R):∀i,aK s.ap i=J->aK R.ap i=true:=by
 intro q X;have W:∀{t:TypeId}{V:aq}{d:cM}{w:C}{i:Nat},aK ((s.dt i t V).put d w).ap q=true:=by
  intro t V d w i;rw[mj];unfold aK at X⊢;simp only[cV] at X⊢;simp only[S.dt];by_cases Q:i=q;subst Q;have M:i<Y s.ap:=by
   cases P:s.ap[i]? with
   |none=>rw[P] at X;cases X
   |some b=>exact(ck.1 P).1
  rw[G6 M];rfl;rw[rX Q];exact X
 unfold gG at h;split at h;exact h.elim;split at h;rename_i t N;split at h;split at h;cases h;exact W;exact h.elim;exact h.elim;rename_i t x N;split at h;split at h;cases h;exact W;exact h.elim;exact h.elim;rename_i t l L N;split at h;split at h;split at h;split at h;cases h;exact W;exact h.elim;exact h.elim;exact h.elim;exact h.elim;split at h;split at h;rename_i H V G;split at h;cases h;exact W;exact h.elim;exact h.elim;exact h.elim;split at h;simp only[OR.gives] at h;split at h<;>(subst h;rw[mj];exact X);exact h.elim;obtain⟨v,-,rfl⟩:=BA h;rw[DD];exact X;obtain⟨v,-,rfl⟩:=BA h;rw[DD];exact X
structure ww(s s':S):Prop where
 i:s.ni<=s'.ni
 b:s.nb<=s'.nb
 r:Y s.rs<=Y s'.rs
 bx:∀i,aK s.ap i=J->aK s'.ap i=J
def ww.put(s:S)(d:cM)(v:C):ww s (s.put d v):=
 ⟨E2 (f8 _ _ _).1.symm,E2 (f8 _ _ _).2.1.symm,E2 (kh Y (f8 s d v).2.2).symm,λi h=>by rw[mj];exact h⟩
def ww.trans{b c:S}(h:ww R b)(k:ww b c):ww R c:=⟨pw h.i k.i,pw h.b k.b,pw h.r k.r,λi X=>k.bx i (h.bx i X)⟩
def axw{x:OM}{l1 k:cX}{s:S}{O:ai}(af:x.dr=J)(al:x.so=E)(w:Y O.i=s.ni)(q:Y O.b=s.nb)(m:Y O.r=Y s.rs)(h:eQ p cf B A F G H (x::l1) O s)
  (j:∀f Q,Y f.i=Q.ni->Y f.b=Q.nb->Y f.r=Y Q.rs->(∀t,x.o.dst≠U t->Q.tmps[t]?=s.tmps[t]?)->(∀n,gu s.ap n=J->(gT x.o.op=J->n≠x.ix)->gu Q.ap n=J)->ww s Q->eQ p cf B A F G H l1 f Q->eQ p cf B A F G H k f Q):eQ p cf B A F G H (x::k) O s:=by
 simp only[eQ] at h⊢;rcases h with⟨h1,X⟩|⟨h1,X⟩;exact .inl ⟨h1,j _ _ (by rw[(f8 _ _ _).1];exact w) (by rw[(f8 _ _ _).2.1];exact q) (by rw[(f8 _ _ _).2.2];exact m) (λt d=>mR d) (λn D _=>by rw[mj];exact D) (ww.put _ _ _) X⟩
 ·refine .inr ⟨h1, ?_⟩;cases a:eB cf s x.o with
  |call g0 c=>
   rw[a] at X;rcases g0 with g|n
   rotate_left
   have N:=X.1;rw[al] at N;cases N;have X:qC _ _ _:=X;show qC _ _ _;cases ag:A g c s with
   |some ve=>
    obtain⟨pv,ex⟩:=ve;rw[ag] at X;exact⟨X.1,j _ _ (by rw[(f8 _ _ _).1];exact w) (by rw[(f8 _ _ _).2.1];exact q) (by rw[(f8 _ _ _).2.2];exact m) (λt d=>mR d) (λn D _=>by rw[mj];exact alq D) (ww.trans (b:=s.plus ex) ⟨b9 _,b9 _,b9 _,λi l=>by unfold aK;rw[alp l];exact l⟩ (ww.put _ _ _)) X.2⟩
   |none=>
   rw[ag] at X;obtain⟨ts,M,r,c1,c2,c3,c4,c5⟩:=X;refine⟨ts,M,r,c1,c2,c3,c4,λV W R=>(c5 V W R).mono ?_⟩;intro e W' he;cases e with
   |returned u=>
    obtain⟨xs,L,z,y,q4,q5⟩:=he;obtain⟨b1,b2,b3,b4⟩:=ye M (s.cut c M);obtain⟨l1,k,l3⟩:=zL M xs (s.cut c M) O L w q (m.trans (Fy c M s.rs).len.symm);refine⟨xs,L,z,y,q4,j _ _ (by rw[(f8 _ _ _).1];exact l1) (by rw[(f8 _ _ _).2.1];exact k) (by rw[(f8 _ _ _).2.2];exact l3) (λt d=>by rw[mR d,b2];rfl) (λn D _=>by rw[mj,b1];exact D) (ww.trans (b:=((s.cut c M).cP M).2) ⟨by rw[<-w,<-l1];exact(Du [] _ _ []).li,by rw[<-q,<-k];exact(Du [] _ _ []).lb,by rw[<-m,<-l3];exact(Du [] _ _ []).lr,λi l=>by rw[b1];exact l⟩ (ww.put _ _ _)) q5⟩
   |panicked ch=>exact he
   |outgrown=>exact he
  |bI v=>rw[a] at X;exact X
  |no=>rw[a] at X;exact X
  |op=>
   rw[a] at X;simp only at X⊢;cases P:eZ cf x.o x.bS x.dr s with
   |some b=>
    rw[P] at X;obtain⟨L,z,y⟩:=aln P;exact⟨X.1,λrv an=>j _ _ (by rw[L];exact w) (by rw[z];exact q) (by simp[ai.add,y,m]) (abk (by rw[af] at P;exact P)) (λn D _=>by rw[(Pp (by rw[af] at P;exact P)).2.2];exact D) ⟨by rw[L];exact b9 _,by rw[z];exact b9 _,by rw[y];omega,λi l=>by rw[(Pp (by rw[af] at P;exact P)).2.2];exact l⟩ (X.2 rv an)⟩
   |none=>
    rw[P] at X;obtain⟨Q,N,h4⟩:=X;obtain⟨L,z,y⟩:=alm (K9 N);exact⟨Q,N,j _ _ (by rw[L];exact w) (by rw[z];exact q) (by rw[y];exact m) (alA (K9 N)) (alP (K9 N)) ⟨by rw[L];exact b9 _,by rw[z];exact b9 _,by rw[y];exact b9 _,axv (K9 N)⟩ h4⟩
def alQ{x y:OM}(h:uN B x y=J):x.so=E/\y.so=false:=by
 unfold uN at h;simp only[aw,ik] at h;exact h.1
def axx{x y:OM}(h:uN B x y=J):x.dr=true:=by
 unfold uN at h;simp only[aw,jy] at h;replace h:=h.2;rcases h with(h|h)|h;exact(alw h).elim λ_ c=>c.xd
 unfold Kl at h;simp only[aw] at h;exact h.1.1.1.1.1.1.1.1;unfold Ov at h;simp only[aw] at h;exact h.1.1.1.1.1.1.1.1.1.1
end
section
variable{p:Sp}{k:bE}{B:dN}{A:xT}{Kn:ai->S->Prop}{Kp:ai->C->S->Prop}{Yp:OM->cX->ai->S->Nat->aq->Prop}
def abt(s:S)(m:OM):Prop:=∀d,m.o.dst=U d->yf s d
def alR{V:S}(W:ww R V)(Q:V.tmps[X]?=R.tmps[X]?)(h:yf R X):yf V X:=by
 rcases h with h|⟨w,h,P⟩;exact .inl (Q.trans h);exact .inr ⟨w,Q.trans h,C.eH W.i W.b W.r W.bx _ P⟩
def abu(s:S)(m:OM):Prop:=gT m.o.op=J->gu s.ap m.ix=J
def alS(Q:Fz B A){m:OM}{V:cX}:∀(X:cX)(s:S)(O:ai),(∀x∈X,uN B x m=J)->(∀x∈X,abt s x)->abu s m->(X.Pairwise λa b=>∀d,a.o.dst=U d->b.o.dst≠U d)->(∀x∈X,gT x.o.op=J->gT m.o.op=J->m.ix≠x.ix)->(∀t,m.o.op=.alloc t->HO k t=J)->
  Y O.i=s.ni->Y O.b=s.nb->Y O.r=Y s.rs->eQ p k B A Kn Kp Yp (X++m::V) O s->eQ p k B A Kn Kp Yp (m::(X++V)) O s
 |[],s,O,_,_,_,_,_,_,_,_,_,h=>h
 |x::X,s,O,P,N,M,u,L,H,G,F,D,h=>by
  have R:=P x av;have q:x.dr=true:=axx R;have n:=(alQ R).1;have z:=jq.1 u;have:eQ p k B A Kn Kp Yp (x::m::(X++V)) O s:=axw (l1:=X++m::V) q n G F D h (λl j g f c ht af ag hr=>
   alS Q X j l (λy W=>P y (by simp[W])) (λy W e w=>alR ag (ht e (λhx=>z.1 y W e hx w)) (N y (by simp[W]) e w))
    (λv=>af m.ix (M v) (λal=>L x av al v)) z.2 (λy W=>L y (by simp[W])) H g f c hr)
  exact axu Q R (N x av) M H G F D this
def abv{D:cg}{s:S}{a:Act}{W:World}{O:ai}{V:ar}(R:az p.S0 p.w0 D k.ty V O s a W){m:OM}{b:Bool}(h:im B m s O=U b):l9 m.o (yielded B a.tmps)=b:=by
 unfold im at h;cases X:m.o.guard with
 |none=>rw[X] at h;cases h;simp[l9,X]
 |some q=>
  obtain⟨j,N⟩:=q;rw[X] at h;simp only at h;split at h;rename_i d M;have P:=akU R M;split at h;rename_i e Q;split at h;cases h;have:=P.1 e Q;simp only[l9,X,this];cases e.ab O<;>cases N<;>rfl;cases h;rename_i Q;cases h;simp[l9,X,P.2 Q];cases h;cases h
def Uo(p:Sp)(k:bE)(A:xT):Prop:=∀(g:FuncId)(X:aq)(s:S)(v:C)(R:bG),A g X s=U (v,R)->
 ∀(D:cg)(O:ai)(V:ar)(a:Act)(W:World),s.bd=J->az p.S0 p.w0 D k.ty V O s a W->e8 k.gl O->(∀X W,(callFunc g X).run p.P W=.ok (.enter g X) W)/\
  Calls p.P g (C.aE O V X).toArray W λe N=>∃Q,e=.returned (v.ab O Q)/\az p.S0 p.w0 D k.ty Q O (s.plus R) a N/\bH s O V (s.plus R) O Q
structure Pq(B:dN)(bs:ar)(listed:Array Bool)(rem:cX):Prop where
 mem:∀m∈rem,B[m.j]?=U m.o
 un:∀i,i<B.size->(listed.getD i J=E<->∃m∈rem,m.j=i)
 sz:listed.size=B.size
 dn:∀(j:Nat)(o:Oper),B[j]?=U o->listed.getD j E=J->∀e∈lL o,listed.getD e E=J
 pr:rem.Pairwise λx y=>(bs.getD y.j 0).testBit x.j=J\/uN B x y=J
 tp:∀xs m ys,rem=xs++m::ys->∀e∈lL m.o,listed.getD e E=J\/∃x∈xs,x.j=e
 nd:rem.Pairwise λx y=>x.j≠y.j
 ds:rem.Pairwise λa b=>∀d,a.o.dst=U d->b.o.dst≠U d
 so:∀xs m ys,rem=xs++m::ys->m.so=J->ys.Pairwise λx y=>(bs.getD y.j 0).testBit x.j=J
def alT{e:Edge}(h:e∈l.after)(X:avp .any e=J):e.on∈lL l:=iq.2 ⟨e,qm.2 ⟨by simpa using h,X⟩,rfl⟩
def alU(h:X∈lL l):∃e∈l.after,avp .any e=J/\e.on=X:=by
 obtain⟨e,W,rfl⟩:=iq.1 h;obtain⟨V,R⟩:=qm.1 W;exact⟨e,by simpa using V,R,rfl⟩
structure Li(B:dN)(bs:ar):Prop where
 lt:∀(j:Nat)(o:Oper),B[j]?=U o->∀e∈lL o,e<j
 cl:∀(j:Nat)(o:Oper),B[j]?=U o->∀i,i<B.size->(bs.getD j 0).testBit i=J->i∈lL o\/∃e∈lL o,(bs.getD e 0).testBit i=J
def axy{listed:Array Bool}{O:cX}(W:Li B t)(N:Pq B t listed O):∀(j:Nat)(o:Oper),B[j]?=U o->(∀e∈lL o,listed.getD e E=J)->∀i,i<B.size->(t.getD j 0).testBit i=J->listed.getD i E=true:=by
 intro j;induction j using SP with
 |_ j M=>
  intro o X V i R L;rcases W.cl j o X i R L with h|⟨e,Q,h⟩;exact V i h;have H:=W.lt j o X e Q;have G:j<B.size:=(oQ.1 X).1;have P:B[e]?=U B[e]:=auV aa;exact M e H B[e] P (N.dn e _ P (V e Q)) i R h
def If(a:Array Bool)(i j:Nat)(b:Bool)(X:i<a.size):(a.setIfInBounds i J).getD j b=if j=i then J else a.getD j b:=by
 by_cases h:j=i;subst h;simp[X];simp[aiH (Ne.symm h),h]
def axz{r:ar}{listed:Array Bool}{P O:cX}{m:OM}(X:Pq B r listed (P++m::O))(l:∀e∈lL m.o,listed.getD e E=J):Pq B r (listed.setIfInBounds m.j J) (P++O):=by
 have q:=X.mem m av;have k:m.j<B.size:=(oQ.1 q).1;have D:m.j<listed.size:=by rw[X.sz];exact k
 have L:avq (P++O) (P++m::O):=aiP (aiS _) (aiM _ _);have g:∀x∈P++O,x.j≠m.j:=by
  intro x W;have y:=X.nd;rw[nU] at y;rcases eV.1 W with h|h;exact y.2.2 x h m av;exact Ne.symm ((jq.1 y.2.1).1 x h)
 refine⟨λx W=>X.mem x (L.subset W),λi f=> ?_,by simp[X.sz],λj o w H e M=> ?_,X.pr.sublist L, ?_,X.nd.sublist L,X.ds.sublist L, ?_⟩;rw[If _ _ _ _ D];by_cases v:i=m.j;subst v;simp only[cN,aIB,false_iff];rintro⟨x,W,H⟩;exact g x W H;rw[aQ v,X.un i f];constructor;rintro⟨x,W,rfl⟩;refine⟨x, ?_,rfl⟩;simp only[eV,dP] at W⊢;rcases W with h|h|h;exact .inl h;subst h;exact aZ rfl v;exact .inr h;rintro⟨x,W,rfl⟩;exact⟨x,L.subset W,rfl⟩;rw[If _ _ _ _ D];rw[If _ _ _ _ D] at H;split;rfl;by_cases n:j=m.j;subst n;rw[q] at w;cases w;exact l e M;rw[aQ n] at H;exact X.dn j o w H e M;intro u N G t e M;rw[If _ _ _ _ D];by_cases A:e=m.j;left;rw[aJ A];rw[aQ A];rcases aIf.1 t with⟨R,Q,V⟩|⟨R,Q,V⟩
 
 have:=X.tp (P++m::R) N G (by rw[V];simp) e M;rcases this with h|⟨x,W,F⟩;exact .inl h;right;refine⟨x, ?_,F⟩;rw[Q];simp only[eV,dP] at W⊢;rcases W with h|h|h;exact .inl h;subst h;exact aZ F.symm A;exact .inr h
 
 cases R with
 |nil=>
  simp at Q V;subst Q;have:=X.tp (P++[m]) N G (by rw[<-V];simp) e M;rcases this with h|⟨x,W,F⟩;exact .inl h;right;refine⟨x, ?_,F⟩;simp only[eV,J1] at W;rcases W with h|h;exact h;subst h;exact aZ F.symm A
 |cons z R=>
  simp only[ez,xH] at V;obtain⟨rfl,V⟩:=V;have:=X.tp u N (R++m::O) (by rw[Q];simp) e M;exact this
 intro u N G t s;rcases aIf.1 t with⟨R,Q,V⟩|⟨R,Q,V⟩;exact X.so (P++m::R) N G (by rw[V];simp) s;cases R with
 |nil=>
  simp at Q V;subst Q;exact X.so (P++[m]) N G (by rw[<-V];simp) s
 |cons z R=>
  simp only[ez,xH] at V;obtain⟨rfl,V⟩:=V;have:=X.so u N (R++m::O) (by rw[Q];simp) s;rw[V];exact this.sublist (aiP (aiS _) (aiM _ _))
def axA{F:Fence}(H:rp F)(r:jL p k)(ba:Uo p k A){n:Nat}{D:cg}{Q:Exit->Act->World->Prop}(HP:∀ch a' M pd y,eF p.w0 D pd y a'.defers M->p.R (.panicked ch) M->Q (.panic ch) a' M)
  {m:OM}{an:cX}{s:S}{O:ai}{V:ar}{a:Act}{W:World}(h:eQ p k B A Kn Kp Yp (m::an) O s)(R:az p.S0 p.w0 D k.ty V O s a W)(q:e8 k.gl O)(hm:B[m.j]?=U m.o)(a9:m.dr=J)
  {X:Act->World->Prop}(hK:∀w O' i a' M,bH s O V w O' i->(∀t,m.o.dst≠U t->w.tmps[t]?=s.tmps[t]?)->(∀n,gu s.ap n=J->(gT m.o.op=J->n≠m.ix)->gu w.ap n=J)->az p.S0 p.w0 D k.ty i O' w a' M->eQ p k B A Kn Kp Yp an O' w->X a' M)
  (bb:∀v,Kp O v s->Q (.panic [{v:=v.ab O V,recovered:=E}]) a W)
  (hY:∀yn G,eB k s m.o=.call (.yl yn) G->m.so=J->Yp m an O s yn G->m.o.wpIn F n p.P a W X Q):wpOpIn F n p.P B Q m.j X a W:=by
 unfold wpOpIn;rw[hm];simp only;simp only[eQ] at h;rcases h with⟨h1,N⟩|⟨h1,N⟩;rw[abv R h1];exact⟨λf _=>H.fn f,hK _ O V _ W ((bH.refl _ _ _).put _ _) (λt ht=>mR ht) (λn z _=>by rw[mj];exact z) (R.put m.o.dst (.bM [])) N⟩
 ·rw[abv R h1];simp only[cN];cases L:eB k s m.o with
  |call g0 G=>
   rw[L] at N;rcases g0 with g|yn
   rotate_left
   exact hY yn G L N.1 N.2;have N:qC _ _ _:=N;cases a0:A g G s with
   |some ve=>
    obtain⟨pv,ex⟩:=ve;rw[a0] at N;obtain⟨a1,a3⟩:=ba g G s pv ex a0 D O V a W N.1 R q;refine⟨λf _=>H.fn f, ?_⟩;have af:∀c,m.o.op≠ .defer c:=λc ag=>by simp[eB,ag] at L
    rw[zk _ _ _ af,T7 R q L a1,SM];refine⟨λhd=>by rw[H.yc] at hd;simp at hd,CallsIn.mono (H.calls a3) (λe M d=> ?_)⟩;obtain⟨i,rfl,u,hl⟩:=d;exact hK _ O i _ M (hl.put _ _) (λt ht=>mR ht) (λn z _=>by rw[mj];exact alq z) (u.put m.o.dst pv) N.2
   |none=>
   rw[a0] at N;obtain⟨ts,ks,l,c1,c2,c3,c4,c5⟩:=N;simp only[S.e9,aw] at c4;obtain⟨⟨hb,-⟩,bc⟩:=c4;have a1:=r.zM g (.inl (by rw[c1];rfl));have a3:=c5 V W (by rw[r.pt];exact(R.mem.aab _).mO (aj5 _ _));refine⟨λf _=>H.fn f, ?_⟩;have af:∀c,m.o.op≠ .defer c:=λc ag=>by simp[eB,ag] at L
   rw[zk _ _ _ af,T7 R q L a1,SM];refine⟨λhd=>by rw[H.yc] at hd;simp at hd,CallsIn.mono (H.calls a3) (λe M d=> ?_)⟩;cases e with
   |returned v=>
    obtain⟨xs,q1,q2,q3,q4,q5⟩:=d;rw[r.pt] at q4;obtain⟨e1,e2,e3,e4⟩:=ye ks (s.cut G ks);subst q2;have R1:az p.S0 p.w0 D k.ty V O (s.cut G ks) a W:=R.mO (Fy G ks s.rs);have u:=(R1.called (O4 hb (Fy G ks s.rs).len) bc q1 q3 (λb hb=>ak0 R hb) q4).put m.o.dst (one l);refine hK _ (O.ext xs) V _ M (bH.put (s:=s) ⟨Du _ _ _ _,by rw[e1];exact λ_ h=>h,by rw[e1];exact b9 _,by rw[e3];exact b9 _⟩ _ _) (λt ht=>by rw[mR ht,e2];rfl) (λn z _=>by rw[mj,e1];exact z) u q5
   |panicked ch=>exact HP ch a M _ _ (R.dl.below d.1) d.2
   |outgrown=>exact d.elim
  |bI v=>
   rw[L] at N;refine⟨λf _=>H.fn f, ?_⟩;have af:∀c,m.o.op≠ .defer c:=λc ag=>by simp[eB,ag] at L
   rw[zk _ _ _ af,akV R q L];exact bb v N
  |no=>rw[L] at N;exact N.elim
  |op=>
   rw[L] at N;simp only at N;cases x:eZ k m.o m.bS m.dr s with
   |some b=>
    rw[x] at N;obtain⟨z,N⟩:=N;obtain⟨v,M,rv,a4,bd,u,hl⟩:=aaK R r.kQ q x z;exact zK H a4 (aa2 x) (hK b.s _ V _ M hl (abk (by rw[a9] at x;exact x)) (λn z _=>by rw[(Pp (by rw[a9] at x;exact x)).2.2];exact z) u (N rv (by rw[r.pt];exact bd)))
   |none=>
   rw[x] at N;obtain⟨w,h3,h4⟩:=N;have al:=K9 h3;obtain⟨v,M,i,a4,u,hl⟩:=O5 R r.kQ q m al;exact zK H a4 (Pf al) (hK w O i _ M hl (alA al) (alP al) u h4)
def axB{W:Type}{V X:List W}{m x:W}(h:x∈(V++X).dropLast):x∈(V++m::X).dropLast:=by
 rw[auR av];cases X with
 |nil=>
  rw[J3] at h;exact xD _ ((aIp _).subset h)
 |cons y X=>
  rw[auR av] at h;rcases eV.1 h with h|h;exact xD _ h;rw[List.dropLast_cons_cons];exact N1 _ (CX _ h)
def axC(b3:Fz B A)(b4:Uo p k A){Kn:dC->ai->S->Prop}{Kp:dC->ai->C->S->Prop}{Yp:dC->OM->cX->ai->S->Nat->aq->Prop}{F:Fence}(hF:rp F)(ok:jL p k){D:cg}{Q:Exit->Act->World->Prop}(HP:∀ch g M pd y,eF p.w0 D pd y g.defers M->p.R (.panicked ch) M->Q (.panic ch) g M)(hC:Li B t)
  {s0:S}{O0:ai}{V0:ar}{L0:dC}
  (hk:∀G H z g M w,bH s0 O0 V0 G H z->dm s0.ax L0 w->az p.S0 p.w0 D k.ty z H G g M->Kn w H G->Q .normal g M)
  (bl:∀v G H z g M w,bH s0 O0 V0 G H z->dm s0.ax L0 w->az p.S0 p.w0 D k.ty z H G g M->Kp w H v G->Q (.panic [{v:=v.ab H z,recovered:=E}]) g M)
  (hy:∀(L:dC)(m:OM)(br:cX)(s:S)(O:ai)(V:ar)(a:Act)(W:World)(yn:Nat)(a9:aq)(R':Ending->World->Prop),bH s0 O0 V0 s O V->dm s0.ax L0 L->az p.S0 p.w0 D k.ty V O s a W->e8 k.gl O->Yp L m br O s yn a9->
   (∀v G H z M w,bH s O V G H z->dm s.ax L w->az p.S0 p.w0 D k.ty z H G a M->eQ p k B A (Kn w) (Kp w) (Yp w) br H (G.put m.o.dst v)->R' (.returned (v.ab H z)) M)->
   (∀v G H z M w,bH s O V G H z->dm s.ax L w->az p.S0 p.w0 D k.ty z H G a M->Kp w H v G->R' (.panicked [{v:=v.ab H z,recovered:=E}]) M)->
   (∀ch M pd y,eF p.w0 D pd y a.defers M->p.R (.panicked ch) M->R' (.panicked ch) M)->
   ∀(m:Nat),YieldAt F m p.P (O.y.getD yn 0) (C.aE O V a9).toArray W R'):
  ∀(al:Nat)(listed:Array Bool)(af:cX)(s:S)(O:ai)(V:ar)(a:Act)(W:World)(L:dC),Y af=al->Pq B t listed af->(∀m∈af,m.dr=J)->(∀m∈af,∀N,m.o.op=.alloc N->HO k N=J)->(af.Pairwise λa b=>gT a.o.op=J->gT b.o.op=J->a.ix≠b.ix)->(((∀m∈af,abu s m)/\(∀m∈af.dropLast,abt s m))\/(af.Pairwise λx y=>(t.getD y.j 0).testBit x.j=J))->bH s0 O0 V0 s O V->dm s0.ax L0 L->az p.S0 p.w0 D k.ty V O s a W->e8 k.gl O->eQ p k B A (Kn L) (Kp L) (Yp L) af O s->
   wpAnyIn F X p.P .any B Q al listed a W:=by
 intro al;induction al with
 |zero=>
  intro listed af s O V a W L ba hW bc hZ bt hA hl hL R hg h;have b5:af=[]:=CW.1 ba;subst b5;refine⟨?_,hk s O V a W L hl hL R h⟩;cases hr:SS .any B listed with
  |nil=>rfl
  |cons i r=>
   obtain⟨h1,o,ho,-⟩:=mem_ready.1 (show i∈SS .any B listed by rw[hr];simp);have:=(hW.un i (oQ.1 ho).1).1 h1;obtain⟨m,hm,-⟩:=this;cases hm
 |succ al ih=>
  intro listed af s O V a W L ba hW bc hZ bt hA hl hL R hg h;refine⟨λhr=> ?_,λi hi=> ?_⟩
  
  exfalso;cases af with
  |nil=>simp at ba
  |cons m ys=>
   have an:=hW.mem m av;have:m.j∈SS .any B listed:=by
    refine mem_ready.2 ⟨(hW.un m.j (oQ.1 an).1).2 ⟨m,av,rfl⟩,m.o,an,λe he hb=> ?_⟩;rcases hW.tp [] m ys rfl e.on (alT he hb) with h1|⟨x,u,-⟩;exact h1;cases u
   rw[hr] at this;cases this
  obtain⟨h1,o,ho,b6⟩:=mem_ready.1 hi;obtain⟨m,hm,rfl⟩:=(hW.un i (oQ.1 ho).1).1 h1;obtain⟨q,ys,rfl⟩:=aIC hm;have an:=hW.mem m hm;rw[an] at ho;cases ho;have hd:∀e∈lL m.o,listed.getD e E=true:=λe he=>by
   obtain⟨ed,h2,h3,rfl⟩:=alU he;exact b6 ed h2 h3
  have bx:∀x∈q,¬(t.getD m.j 0).testBit x.j=true:=by
   intro x u h2;have b7:=hW.mem x (by simp[u]);have bd:x.j<B.size:=(oQ.1 b7).1;have h3:=axy hC hW m.j m.o an hd x.j bd h2;have h4:=(hW.un x.j bd).2 ⟨x,by simp[u],rfl⟩;have b8:x.j<listed.size:=by rw[hW.sz];exact bd
   simp[b8] at h3 h4;rw[h3] at h4;cases h4
  have b0:∀x∈q,uN B x m=true:=by
   intro x u;have ca:=(nU.1 hW.pr).2.2 x u m av;rcases ca with h2|h2;exact aZ h2 (bx x u);exact h2
  have bf:=nU.1 hW.ds;have a0:=nU.1 bt;have hb:eQ p k B A (Kn L) (Kp L) (Yp L) (m::(q++ys)) O s:=by
   rcases hA with⟨bg,hA⟩|hA;exact alS b3 q s O b0 (λx u=>hA x (by rw[auR av];exact xD _ u)) (bg m hm) bf.1 (λx u a1 bb e=>a0.2.2 x u m av a1 bb e.symm) (hZ m hm) R.ei R.eb R.er h;cases q with
   |nil=>exact h
   |cons x q=>exact aZ ((nU.1 hA).2.2 x av m av) (bx x av)
  have b1:∀(G:S)(H:ai)(z:ar)(g:Act)(M:World)(w:dC),(((∀m∈q++ys,abu G m)/\(∀m∈(q++ys).dropLast,abt G m))\/((q++ys).Pairwise λx y=>(t.getD y.j 0).testBit x.j=J))->bH s0 O0 V0 G H z->dm s0.ax L0 w->az p.S0 p.w0 D k.ty z H G g M->e8 k.gl H->eQ p k B A (Kn w) (Kp w) (Yp w) (q++ys) H G->wpAnyIn F X p.P .any B Q al (listed.setIfInBounds m.j J) g M:=
   λG H z g M w cc ag a3 R' cl a4=>ih _ (q++ys) G H z g M w (by simp at ba⊢;omega) (axz hW hd) (λx u=>bc x (by rcases eV.1 u with l|l<;>simp[l])) (λx u=>hZ x (by rcases eV.1 u with l|l<;>simp[l]))
    (nU.2 ⟨a0.1,(jq.1 a0.2.1).2,λa ha b hb=>a0.2.2 a ha b (by simp[hb])⟩) cc ag a3 R' cl a4
  have cn:avq (q++ys) (q++m::ys):=aiP (aiS _) (aiM _ _);refine axA hF ok b4 HP hb R hg an (bc m hm) (λG H z g M ag co cp R' a4=> ?_) (λv hv=>bl v s O V a W L hl hL R hv) (λyn a9 hc b2 cs=> ?_);refine b1 G H z g M L ?_ (hl.trans ag) hL R' (hg.ext ag.ext) a4;rcases hA with⟨bg,hA⟩|hA;left;refine⟨λx u a1=>cp x.ix (bg x (by rcases eV.1 u with l|l<;>simp[l]) a1) (λbb=>by
   rcases eV.1 u with l|l;exact a0.2.2 x l m av a1 bb;exact λe=>(jq.1 a0.2.1).1 x l bb a1 e.symm),λx u=> ?_⟩
  intro d bk;have ct:m.o.dst≠U d:=by
   rcases eV.1 ((aIp _).subset u) with l|l;exact bf.2.2 x l m av d bk;intro he;exact(jq.1 bf.2.1).1 x l d he bk
  exact alR ⟨by rw[<-R.ei,<-R'.ei];exact ag.ext.li,by rw[<-R.eb,<-R'.eb];exact ag.ext.lb,by rw[<-R.er,<-R'.er];exact ag.ext.lr,ag.mono⟩ (co d ct) (hA x (axB u) d bk);exact .inr (hA.sublist cn);have cv:q=[]:=by
   cases q with
   |nil=>rfl
   |cons x q=>
    have:=(alQ (b0 x av)).2;rw[b2] at this;cases this
  subst cv;have cx:ys.Pairwise λx y=>(t.getD y.j 0).testBit x.j=true:=hW.so [] m ys rfl b2
  have hY:=hy L m ys s O V a W yn a9 (λe M=>match e with
    |.returned v=>wpAnyIn F X p.P .any B Q al (listed.setIfInBounds m.j J) (a.put m.o.dst v) M
    |.panicked ch=>Q (.panic ch) a M
    |.outgrown=>LetsOut Q) hl hL R hg cs
   (λv G H z M w ag a3 R' a4=>b1 (G.put m.o.dst v) H z _ M w (.inr cx) (hl.trans (ag.put _ _)) (hL.trans a3 hl.ax) (R'.put m.o.dst v) (hg.ext ag.ext) a4)
   (λv G H z M w ag a3 R' hs=>bl v G H z a M w (hl.trans ag) (hL.trans a3 hl.ax) R' hs)
   (λch M pd y hA hR=>HP ch a M pd y hA hR) (X-1)
  obtain⟨fn,cD,assign,body,cy,cA⟩:=hY;refine⟨λf _=>hF.fn f, ?_⟩;have cB:∀c,m.o.op≠ .defer c:=λc cC=>by simp[eB,cC] at hc
  rw[zk _ _ _ cB,aa0 R hg hc,cy];rw[au6];refine⟨λhd=>by rw[hF.yc] at hd;simp at hd,RoundIn.mono cA (λe M he=> ?_)⟩;cases e<;>exact he
end
def Pr:cM->Fence
 |none=>Fence.wide
 |U l=>Fence.wide.inRound l
def zQ:∀i,rp (Pr i)
 |none=>awU
 |U l=>akT l
def axD:∀i,(Pr i).round=i
 |none=>rfl
 |U _=>rfl
def rp.room{F:Fence}(W:rp F)(n:Nat):F.room n:=λd X=>by rw[W.yc] at X;cases X
def jA(i:cM)(j:FuncId)(P:Program)(c:Code)(Q:Exit->Act->World->Prop)(a:Act)(w:World):Prop:=
 ∀(b:Frame)(k:List Item)(X:List Frame),b.roundOf=i->b.fn=j->
  ∃e W V,Q e W V/\ArrivesIn (Machine.fenced P Fence.wide) P (lone (b.atR a (.code c::k)) X w) b k X e W V
section
variable{i:cM}{j:FuncId}{P:Program}{Q:Exit->Act->World->Prop}{a:Act}{w:World}
def uV{c:Code}{n:Nat}(h:c.wpIn (Pr i) n P Q a w):jA i j P c Q a w:=by
 intro b k W V _;obtain⟨e,R,O,N,X⟩:=h b k W (V.trans (axD i).symm) ((zQ i).fn _) ((zQ i).room _);rw[(zQ i).eq] at X;exact⟨e,R,O,N,X⟩
def axE{c:Code}{X:Exit->Act->World->Prop}(h:jA i j P c Q a w)(W:∀e a w,Q e a w->X e a w):jA i j P c X a w:=
 λb k V R O=>let⟨e,N,M,q,r⟩:=h b k V R O;⟨e,N,M,W _ _ _ q,r⟩
def Ig{x y:Code}(h:jA i j P x (Exit.then (jA i j P y Q) Q) a w):jA i j P (Code.seq x y) Q a w:=by
 intro b k N M L;have X:(lone (b.atR a (.code (.seq x y)::k)) N w).fenced P Fence.wide:=fenced_wide _ _;obtain⟨e,R,O,W,V⟩:=h b (.code y::k) N M L;cases e with
 |normal=>
  obtain⟨H,G,F,D,B⟩:=W b k N M L;exact⟨H,G,F,D,.of_steps (.head X stepR_seq V) B⟩
 |exit id=>exact⟨_,R,O,W,.of_steps (.one X stepR_seq) (.pass (x:=.code y) rfl (λ_ _=>.inl av) V)⟩
 |goto l=>exact⟨_,R,O,W,.of_steps (.one X stepR_seq) (.pass (x:=.code y) rfl (λ_ _=>.inl av) V)⟩
 |ret=>exact⟨_,R,O,W,.of_steps (.one X stepR_seq) (.pass (x:=.code y) rfl (λ_ _=>.inl av) V)⟩
 |panic A=>exact⟨_,R,O,W,.of_steps (.one X stepR_seq) (.pass (x:=.code y) rfl (λ_ _=>.inl av) V)⟩
 |outgrown=>exact⟨_,R,O,W,.of_steps (.one X stepR_seq) (.pass (x:=.code y) rfl (λ_ _=>.inl av) V)⟩
def axF{c:Code}(h:jA i j P c (Exit.inBlock X Q) a w):jA i j P (Code.block X c) Q a w:=by
 intro b k z y x;have W:(lone (b.atR a (.code (.block X c)::k)) z w).fenced P Fence.wide:=fenced_wide _ _;obtain⟨e,O,N,V,R⟩:=h b (.inBlock X::k) z y x;cases e with
 |normal=>exact⟨.normal,O,N,V,.head W stepR_block (StepsIn.trans R (.one (fenced_wide _ _) stepR_inBlock))⟩
 |exit L=>
  by_cases hid:L=X;simp only[Exit.inBlock,hid,cN] at V;exact⟨.normal,O,N,V,.head W stepR_block (R.1 k (by simp[exitTo,hid]))⟩;simp only[Exit.inBlock,hid,gf] at V;have this:(X==L)=false:=by simp;exact λh=>hid h.symm
  have H:exitTo L (.inBlock X::k)=exitTo L k:=by simp[exitTo,this]
  exact⟨.exit L,O,N,V,λG M=>.head W stepR_block (R.1 G (by rw[H];exact M)),
   λF M=>let⟨D,B,A⟩:=R.2 F (by rw[H];exact M);⟨D,B,.head W stepR_block A⟩⟩
 |goto l=>
  have H:gotoIn l (.inBlock X::k)=gotoIn l k:=by simp[gotoIn]
  exact⟨_,O,N,V,λG M=>.head W stepR_block (R.1 G (by rw[H];exact M)),
   λF M=>let⟨D,B,A⟩:=R.2 F (by rw[H];exact M);⟨D,B,.head W stepR_block A⟩⟩
 |ret=>exact⟨_,O,N,V,.of_steps (.one W stepR_block) R⟩
 |panic v=>exact⟨_,O,N,V,.of_steps (.one W stepR_block) R⟩
 |outgrown=>exact⟨_,O,N,V,.of_steps (.one W stepR_block) R⟩
def axG{c:Code}(h:jA i j P c (λe a w=>(∀l,e≠ .goto l)/\Q e a w) a w):jA i j P (Code.scope c) Q a w:=by
 intro b k X G F;have W:(lone (b.atR a (.code (.scope c)::k)) X w).fenced P Fence.wide:=fenced_wide _ _;have V:step P (lone (b.atR a (.code (.scope c)::k)) X w)=.next (lone (b.atR a (.code c::.inScope c::k)) X w):=step_lone_go (by simp[stepG,stepG.exec,Frame.atR])
 have D:∀a w,step P (lone (b.atR a (.inScope c::k)) X w)=.next (lone (b.atR a k) X w):=λa w=>step_lone_go (by simp[stepG,stepG.exec,Frame.atR])
 obtain⟨e,O,N,⟨B,M⟩,R⟩:=h b (.inScope c::k) X G F;cases e with
 |normal=>exact⟨.normal,O,N,M,.head W V (StepsIn.trans R (.one (fenced_wide _ _) (D _ _)))⟩
 |exit id=>
  have H:exitTo id (.inScope c::k)=exitTo id k:=by simp[exitTo]
  exact⟨.exit id,O,N,M,λA L=>.head W V (R.1 A (by rw[H];exact L)),λz L=>let⟨y,x,v⟩:=R.2 z (by rw[H];exact L);⟨y,x,.head W V v⟩⟩
 |goto l=>exact aZ rfl (B l)
 |ret=>exact⟨_,O,N,M,.of_steps (.one W V) R⟩
 |panic u=>exact⟨_,O,N,M,.of_steps (.one W V) R⟩
 |outgrown=>exact⟨_,O,N,M,.of_steps (.one W V) R⟩
def Lj{c:Operand}{x y:Code}{t:Bool}(X:a.eval c=.bool t)(h:jA i j P (if t then x else y) Q a w):jA i j P (Code.cond c x y) Q a w:=by
 intro b k W V R;obtain⟨e,O,N,M,L⟩:=h b k W V R;exact⟨e,O,N,M,.of_steps (.one (fenced_wide _ _) (stepR_cond X)) L⟩
def Ps(i:cM)(j:FuncId)(P:Program)(c:Code)(Q:Exit->Act->World->Prop):Nat->Act->World->Prop
 |0,_,_=>False
 |m+1,a,w=>jA i j P c (Exit.then (Ps i j P c Q m) Q) a w
def alV{c:Code}(m:Nat)(h:Ps i j P c Q m a w):jA i j P (Code.loop c) Q a w:=by
 intro b k O H G;have F:∀m a w,Ps i j P c Q m a w->
   ∃e M L,Q e M L/\ArrivesIn (Machine.fenced P Fence.wide) P (lone (b.atR a (.code c::.inLoop c::k)) O w) b k O e M L:=by
  intro m;induction m with
  |zero=>intro a w h;exact h.elim
  |succ m D=>
   intro a w h;obtain⟨e,X,W,V,R⟩:=h b (.inLoop c::k) O H G;have N:∀{e:Exit},e≠ .normal->ArrivesIn (Machine.fenced P Fence.wide) P (lone (b.atR a (.code c::.inLoop c::k)) O w) b (.inLoop c::k) O e X W->ArrivesIn (Machine.fenced P Fence.wide) P (lone (b.atR a (.code c::.inLoop c::k)) O w) b k O e X W:=
    λB A=>.pass (x:=.inLoop c) rfl (λ_ _=>.inl B) A
   cases e with
   |normal=>
    obtain⟨z,y,v,u,t⟩:=D X W V;exact⟨z,y,v,u,.of_steps (StepsIn.trans R (.one (fenced_wide _ _) stepR_inLoop)) t⟩
   |exit id=>exact⟨_,X,W,V,N av R⟩
   |goto l=>exact⟨_,X,W,V,N av R⟩
   |ret=>exact⟨_,X,W,V,N av R⟩
   |panic s=>exact⟨_,X,W,V,N av R⟩
   |outgrown=>exact⟨_,X,W,V,N av R⟩
 obtain⟨e,M,L,V,R⟩:=F m a w h;exact⟨e,M,L,V,.of_steps (.one (fenced_wide _ _) stepR_loop) R⟩
def axH{c:Code}(X:Nat->Act->World->Prop)(V:Nat)(L:X V a w)
  (round:∀n a w,X n a w->jA i j P c (Exit.then (λO M=>∃R,R<n/\X R O M) Q) a w):jA i j P (Code.loop c) Q a w:=by
 refine alV (V+1) ?_;have H:∀N n a w,n<N->X n a w->Ps i j P c Q N a w:=by
  intro N;induction N with
  |zero=>intro n a w h;omega
  |succ N G=>
   intro n a w B F;refine axE (round n a w F) ?_;intro e O M W;cases e with
   |normal=>
    obtain⟨R,A,D⟩:=W;exact G R O M aa D
   |exit id=>exact W
   |goto l=>exact W
   |ret=>exact W
   |panic z=>exact W
   |outgrown=>exact W
 exact H (V+1) V a w aa L
def abw(i:cM)(j:FuncId)(P:Program)(l:Nat)(Q:Exit->Act->World->Prop)(X:Act):Ending->World->Prop
 |.returned _,W=>∃R V,(Instr.endLoop l).run P W=.ok R V/\
   (match R with
    |none=>Q .normal X V
    |U c=>jA i j P c Q X V)
 |.panicked chain,W=>Q (.panic chain) X W
 |.outgrown,_=>False
def axI{g:Operand}{W:Array Tmp}{assign body:Code}
  (h:∃(l:Nat)(mark:Bt)(V:World)(d:Deferred)(R:World)(f:FuncId)(O:mI)(N:World),
   (Instr.enterLoop j a.tmps W assign body i).run P w=.ok (l,mark) V/\
   (resolve a.eval (rangeCall g l) 0).run P V=.ok d R/\
   (invoke d.target d.args).run P R=.ok (.enter f O) N/\
   Calls P f O N (abw i j P l Q {a with defers:=mark++a.defers})):
  jA i j P (Code.rangeFunc g W assign body) Q a w:=by
 intro b k X H G;obtain⟨l,mark,V,d,R,f,O,N,F,s,r,M⟩:=h;obtain⟨hF,M⟩:=(callsIn_wide (n:=0)).2 M;rw[<-H,<-G] at F;have D:(lone (b.atR a (.code (.rangeFunc g W assign body)::k)) X w).fenced P Fence.wide:=fenced_wide _ _;have B:=stepR_rangeFunc (P:=P) (b:=b) (a:=a) (k:=k) (cs:=X) (w:=w) F s r;obtain⟨e,q,fr,L,A,al,z⟩:=M (b.atR {a with defers:=mark++a.defers} (.inRangeFunc l::k)::X) (room_wide _);cases e with
 |outgrown=>exact L.elim
 |returned v=>
  obtain⟨y,x,p,u⟩:=L;have t:StepsIn (Machine.fenced P Fence.wide) P (lone (b.atR a (.code (.rangeFunc g W assign body)::k)) X w) (lone (b.atR {a with defers:=mark++a.defers} ((y.map Item.code).toList++k)) X x):=by
   refine .head D B (StepsIn.trans A (.head (fenced_wide _ _) ?_ (.one (fenced_wide _ _) (stepR_endRangeFunc p))));rw[<-finish_atR_inRangeFunc l v];exact step_leave_returned z
  cases y with
  |none=>exact⟨.normal,_,x,u,t⟩
  |some c=>
   obtain⟨o,m,af,hq,ag⟩:=u b k X H G;exact⟨o,m,af,hq,.of_steps t ag⟩
 |panicked chain=>
  refine⟨.panic chain,_,q,L,.inRangeFunc l::k,.head D B (StepsIn.trans A (.one (fenced_wide _ _) ?_))⟩;rw[<-Frame.raise_atR];exact step_leave_panicked z
end
def Lk{P:Program}{f:FuncId}{O:Func}{c:Code}{X:mI}{w:World}{R:Ending->World->Prop}
  (A:P.funcs[f]?=U O)(t:O.body=U c)
  (h:jA Z f P c (bodyPostM Fence.wide 0 P O R) {tmps:=X++aiZ (O.ntmps-X.size) undef,defers:=[]} w):Calls P f X w R:=by
 refine(callsIn_wide (n:=0)).1 ⟨trivial,λz x=> ?_⟩;let b:Frame:={(default:Frame) with fn:=f,kind:=.normal,roundOf:=Z};have s:Frame.enter P f X .normal=
   b.atR {tmps:=X++aiZ (O.ntmps-X.size) undef,defers:=[]} [.code c]:=by
  simp[Frame.enter,Frame.atR,A,t,b]
 obtain⟨e,W,y,V,N⟩:=h b [] z rfl rfl;rw[<-s] at N;cases e with
 |normal=>
  obtain⟨M,L,H,G,F,D,B⟩:=leaves_stepsInM W.defers .returning y {b.atR W [] with mode:=.returning} z rfl rfl rfl A rfl trivial x V;exact⟨M,L,H,G,ComesIn.of_steps (StepsIn.trans N (.one (fenced_wide _ _) (stepR_end rfl))) F,D,B⟩
 |ret=>
  obtain⟨v,u⟩:=N.1 rfl;obtain⟨M,L,H,G,F,D,B⟩:=leaves_stepsInM W.defers .returning y {b.atR W v with mode:=.returning} z rfl rfl rfl A rfl trivial x V;exact⟨M,L,H,G,ComesIn.of_steps u F,D,B⟩
 |panic chain=>
  obtain⟨v,u⟩:=N;obtain⟨M,L,H,G,F,D,B⟩:=leaves_stepsInM W.defers (.panicking chain) y {b.atR W v with mode:=.panicking chain} z rfl rfl rfl A rfl trivial x V;exact⟨M,L,H,G,ComesIn.of_steps u F,D,B⟩
 |exit id=>exact V.elim
 |goto l=>exact V.elim
 |outgrown=>exact⟨.outgrown,y,b,V,N.resolve_left (by simp[b]),rfl,trivial⟩
def axJ(P:Program)(l:Nat)(R:Ending->World->Prop):Exit->Act->World->Prop
 |.normal,_,w=>∃v X,(Instr.endRound l Z).run P w=.ok v X/\R (.returned v) X
 |.ret,_,w=>∃v X,(Instr.endRound l (U .ret)).run P w=.ok v X/\R (.returned v) X
 |.exit id,_,w=>∃v X,(Instr.endRound l (U (.exit id))).run P w=.ok v X/\R (.returned v) X
 |.panic W,a,w=>a.defers=[]/\R (.panicked W) w
 |_,_,_=>False
def axK{F:Fence}(p:rp F){P:Program}{l:Nat}{f:FuncId}{o:Func}{u:mI}{assign body:Code}{w:World}{R:Ending->World->Prop}(k:P.funcs[f]?=U o)
  (h:jA (U l) f P assign (λe L H=>(e=.normal/\∃s,(Instr.beginRound l).run P H=.ok () s/\jA (U l) f P body (axJ P l R) L s)\/∃A,e=.panic A/\L.defers=[]/\R (.panicked A) H)
   {tmps:=u,defers:=[]} w):
  RoundIn F X P l f u assign body w R:=by
 refine⟨p.fn f,λc O hr=> ?_⟩;let b:Frame:={(default:Frame) with fn:=f,kind:=.normal,roundOf:=U l};have j:Frame.round l f u assign body .normal=b.atR {tmps:=u,defers:=[]} [.code assign,.beginRound,.code body]:=by
  simp[Frame.round,Frame.atR,b]
 have an:(Fence.wide.inRound l).room ((c::O).length+1+X):=(akT l).room _;obtain⟨e,L,H,i,G⟩:=h b [.beginRound,.code body] (c::O) rfl rfl;rw[<-j] at G;rw[p.eq];have Ll:∀(m:Machine)(D:Act)(N:World)(chain:List PanicEntry)(M:List Item),D.defers=[]->StepsIn (Machine.fenced P Fence.wide) P m (lone {b.atR D M with mode:=.panicking chain} (c::O) N)->StepsIn (Machine.fenced P Fence.wide) P m (lone (c.raise chain) O N):=by
  intro m D N chain M z W;have g:({b.atR D M with mode:=.panicking chain}:Frame).leaving P N (.panicked chain):=⟨rfl,z,o,k⟩;exact StepsIn.trans W (.one (fenced_wide _ _) (step_leave_panicked g))
 rcases i with⟨rfl,s,d,af⟩|⟨A,rfl,z,V⟩;have r:StepsIn (Machine.fenced P Fence.wide) P (lone (b.atR L [.beginRound,.code body]) (c::O) H) (lone (b.atR L [.code body]) (c::O) s):=
  .one (fenced_wide _ _) (stepR_beginRound rfl d)
 obtain⟨ag,D,N,B,q⟩:=af b [] (c::O) rfl rfl;cases ag with
 |normal=>
  obtain⟨v,y,x,V⟩:=B;exact⟨.returned v,y,V,(StepsIn.trans G r).trans (StepsIn.trans q (.one (fenced_wide _ _) (stepR_round_end rfl rfl x)))⟩
 |ret=>
  obtain⟨v,y,x,V⟩:=B;obtain⟨al,W⟩:=q.2 rfl;exact⟨.returned v,y,V,(StepsIn.trans G r).trans (StepsIn.trans W (.one (fenced_wide _ _) (stepR_round_ret rfl rfl x)))⟩
 |exit id=>
  obtain⟨v,y,x,V⟩:=B;obtain⟨al,hk,W⟩:=q.2 rfl rfl;exact⟨.returned v,y,V,(StepsIn.trans G r).trans (StepsIn.trans W (.one (fenced_wide _ _) (stepR_round_exit rfl rfl hk x)))⟩
 |goto t=>exact B.elim
 |panic chain=>
  obtain⟨z,V⟩:=B;obtain⟨M,W⟩:=q;exact⟨.panicked chain,N,V,Ll _ D N chain M z ((StepsIn.trans G r).trans W)⟩
 |outgrown=>exact B.elim
 obtain⟨M,W⟩:=G;exact⟨.panicked A,H,V,Ll _ L H A M z W⟩
mutual
def K.fh(O:ai)(y:ar):∀(e:K),e.ab (O.at y)=e.ab O
 |.c n=>by simp[K.ab]
 |.v k=>by simp[K.ab,ai.at]
 |.bin o k a b=>by simp only[K.ab];rw[K.fh O y a,K.fh O y b]
 |.conv k a=>by simp only[K.ab];rw[K.fh O y a]
 |.len r=>by simp only[K.ab];rw[RE.mS O y r]
 |.mm m a b=>by simp only[K.ab];rw[K.fh O y a,K.fh O y b]
 |.eo b x z=>by simp only[K.ab];rw[BE.fh O y b,K.fh O y x,K.fh O y z]
 |.cell r i j=>by simp only[K.ab];rw[RE.mS O y r,K.fh O y i]
 |.nW r i=>by simp only[K.ab];rw[RE.mS O y r,K.fh O y i]
 |.look r n a b c j=>by simp only[K.ab];rw[RE.mS O y r,K.fh O y a,K.fh O y b,K.fh O y c]
def BE.fh(O:ai)(y:ar):∀(e:BE),e.ab (O.at y)=e.ab O
 |.c b=>by simp[BE.ab]
 |.v k=>by simp[BE.ab,ai.at]
 |.cmp o a b=>by simp only[BE.ab];rw[K.fh O y a,K.fh O y b]
 |.not a=>by simp only[BE.ab];rw[BE.fh O y a]
 |.and a b=>by simp only[BE.ab];rw[BE.fh O y a,BE.fh O y b]
 |.beq a b=>by simp only[BE.ab];rw[BE.fh O y a,BE.fh O y b]
 |.eo b x z=>by simp only[BE.ab];rw[BE.fh O y b,BE.fh O y x,BE.fh O y z]
 |.cell r i j=>by simp only[BE.ab];rw[RE.mS O y r,K.fh O y i]
 |.seq a b=>by simp only[BE.ab];rw[RE.mS O y a,RE.mS O y b]
 |.look r n a b c j=>by simp only[BE.ab];rw[RE.mS O y r,K.fh O y a,K.fh O y b,K.fh O y c]
 |.has r n a b c=>by simp only[BE.ab];rw[RE.mS O y r,K.fh O y a,K.fh O y b,K.fh O y c]
def RE.mS(O:ai)(y:ar):∀(e:RE),e.rv (O.at y)=e.rv O
 |.v k=>by simp[RE.rv,ai.rv,ai.at]
 |.cell r i j k=>by simp only[RE.rv];rw[RE.mS O y r,K.fh O y i]
 |.k v=>by simp[RE.rv]
end
def C.abx(O:ai)(y:ar)(v:C):v.xv (O.at y)=v.xv O:=by
 cases v<;>simp[C.xv,K.fh,BE.fh,RE.mS]
def C.axL(O:ai)(y:ar)(v:C):v.cd (O.at y)=v.cd O:=by
 cases v<;>simp[C.cd,K.fh,BE.fh,RE.mS]
def C.Uq(O:ai)(y:ar):C.cd (O.at y)=C.cd O:=funext (C.axL O y)
def LE.Ih(O:ai)(y:ar):∀(e:LE),e.ac (O.at y)=e.ac O
 |.ah r=>by simp only[LE.ac,RE.mS]
 |.lit l=>by simp only[LE.ac,C.Uq]
 |.kJ a b=>by simp only[LE.ac];rw[LE.Ih O y a,LE.Ih O y b]
 |.wb n R=>by simp only[LE.ac,C.Uq,K.fh]
 |.set a i Q X=>by simp only[LE.ac,C.Uq,K.fh];rw[LE.Ih O y a]
 |.sub a P N=>by simp only[LE.ac,K.fh];rw[LE.Ih O y a]
 |.ins a n X=>by simp only[LE.ac,C.Uq];rw[LE.Ih O y a]
def Pt:∀(X:bq)(O:ai)(y:ar),(O.at y).ext X=(O.ext X).at y
 |[],O,y=>rfl
 |x::X,O,y=>by
  simp only[ai.ext];rw[<-Pt X (O.add x) y];cases x<;>rfl
def axM{G:Ty}{F:World}{X:LE}{R:bv}{y:ar}{Q:RV}(h:HX G t F v X R (x.at y) Q):HX G t F v X R x Q:=by
 obtain⟨P,N,M⟩:=h;rw[LE.Ih] at P;exact⟨P,N,M⟩
def tU(p:Sp):∀(t:T)(O:ai)(L:dC)(y:ar),t.aP p O L->t.aP p (O.at y) L
 |.out e s,O,L,y,h=>h
 |.ret v u M,O,L,y,h=>h
 |.bI v,O,L,y,h=>h
 |.aT b t f,O,L,y,h=>by
  simp only[T.aP,BE.fh] at h⊢;exact⟨λQ=>tU p t O L y (h.1 Q),λQ=>tU p f O L y (h.2 Q)⟩
 |.be b t,O,L,y,h=>by
  simp only[T.aP,BE.fh] at h⊢;exact⟨h.1,tU p t O L y h.2⟩
 |.call f ag u M q jz t,O,L,y,h=>by
  simp only[T.aP] at h⊢;intro m V W R;refine(h m V W R).mono ?_;intro e W' G;cases e with
  |returned v=>
   obtain⟨F,P,N,B,l,c⟩:=G;refine⟨F,P, ?_,B,l, ?_⟩;rw[Pt];exact N;rw[Pt];exact tU p t _ L y c
  |panicked ch=>exact G
  |outgrown=>exact G
 |.loop ax q x0 t,O,L,y,h=>by
  simp only[T.aP] at h⊢;obtain⟨X,μ,P,N⟩:=h;refine⟨X,μ, ?_,λF hf hI=> ?_⟩;have:C.xv (O.at y)=C.xv O:=funext (C.abx O y);rw[this];exact P;rw[Pt];exact tU p t _ _ y (N F hf hI)
 |.back ax x,O,L,y,h=>by
  have:C.xv (O.at y)=C.xv O:=funext (C.abx O y);simp only[T.aP] at h⊢;rw[this];exact h
 |.new e x M al t,O,L,y,h=>by
  simp only[T.aP] at h⊢;intro A af;exact tU p t (O.add (.r A)) L y (h A (axM af))
 |.ac k x M t,O,L,y,h=>by
  simp only[T.aP] at h⊢;have:gv x (O.at y)=gv x O:=by simp only[gv,LE.Ih]
  rw[this];exact tU p t (O.add (.r (gv x O))) L y h
 |.gF g h' t f,O,L,y,h=>by
  simp only[T.aP,BE.fh] at h⊢;exact⟨λQ=>tU p t O L y (h.1 Q),λQ=>tU p f O L y (h.2 Q)⟩
 |.pick n g h' t f,O,L,y,h=>by
  simp only[T.aP,K.fh,BE.fh] at h⊢;refine⟨λj P N B=>tU p t (O.add (.i j)) L y (h.1 j P N ?_),λQ=>tU p f O L y (h.2 Q)⟩;have:=BE.fh (O.add (.i j)) y g;rw[<-this];exact B
 |.eE f g e sp st r M t,O,L,y,h=>by
  simp only[T.aP,RE.mS] at h⊢;obtain⟨z,P,N⟩:=h;refine⟨z, ?_,tU p t (O.add (.r (.mk (r.rv O).val z))) L y N⟩;rw[<-P];cases sp with
  |dw k o H=>
   have w:K.ab (O.at y)=K.ab O:=funext λe=>K.fh O y e
   cases st with
   |false=>simp only[kO,w]
   |true=>
    cases H with
    |nil=>rfl
    |cons i H=>
     cases H with
     |nil=>simp only[kO,w]
     |cons j H=>rfl
  |lex cs d=>rfl
  |ratio n d=>rfl
 |.stuck _,_,_,_,h=>h
mutual
def C.Ln{O:ai}{y:ar}{n:Nat}(X:∀m,m<n->y.getD m 0=O.y.getD m 0)(V:ar):∀(v:C),v.xV n=E->v.ab (O.at y) V=v.ab O V
 |.int _ e,_=>by simp only[C.ab,K.fh]
 |.bool e,_=>by simp only[C.ab,BE.fh]
 |.ah e,_=>by simp only[C.ab,RE.ab,RE.mS]
 |.loc i _,_=>rfl
 |.el r _ i _,_=>by simp only[C.ab,RE.ab,RE.mS,K.fh]
 |.jf _ _ _ _,_=>rfl
 |.agg l,h=>by simp only[C.ab];rw[C.Lq X V l h]
 |.bM l,h=>by simp only[C.ab];rw[C.Lq X V l h]
 |.fn _ l,h=>by simp only[C.ab];rw[C.Lq X V l h]
 |.gX _ x,h=>by simp only[C.ab];rw[C.Ln X V x h]
 |.yl m,h=>by
  simp only[C.xV,decide_eq_false_iff_not,Nat.not_le] at h;simp only[C.ab,ai.at];rw[X m h]
 |.any,_=>rfl
 |.mp _,_=>rfl
 |.gg e Q R,h=>by simp only[C.ab,K.fh];rw[C.Lq X V R h]
def C.Lq{O:ai}{y:ar}{n:Nat}(X:∀m,m<n->y.getD m 0=O.y.getD m 0)(V:ar):∀(l:aq),C.pI n l=E->C.aE (O.at y) V l=C.aE O V l
 |[],_=>rfl
 |x::R,h=>by
  simp only[C.pI,vZ] at h;simp only[C.aE];rw[C.Ln X V x h.1,C.Lq X V R h.2]
end
def C.axN(R:∀m,m<X->t.getD m 0=x.y.getD m 0)(V:ar)(v:C)(h:v.xV X=E):v.hJ (x.at t) V=v.hJ x V:=by
 have Q:=C.Ln R V v h;cases v<;>simp only[C.hJ]<;>try rw[Q]
 exact RE.mS x t _
def C.alW{O:ai}{y:ar}{n:Nat}(X:∀m,m<n->y.getD m 0=O.y.getD m 0)(V:ar):∀(l:aq),C.pI n l=E->C.dO (O.at y) V l=C.dO O V l
 |[],_=>rfl
 |x::R,h=>by
  simp only[C.pI,vZ] at h;have:=C.alW X V R h.2;simp only[C.dO,dU] at this⊢;rw[C.axN X V x h.1,this]
def aby{n:Nat}:∀{l:aq},C.pI n l=E->∀v∈l,v.xV n=E
 |[],_,v,h=>by cases h
 |x::R,h,v,X=>by
  simp only[C.pI,vZ] at h;rcases dP.1 X with rfl|X;exact h.1;exact aby h.2 v X
def abz{n:Nat}:∀{bx:bG},xW n bx=E->∀(i:Nat)(t:TypeId)(X:aq),cw bx i=U (t,X)->C.pI n X=E
 |[],_,i,t,X,h=>by simp[cV] at h
 |Z::Q,R,0,t,X,h=>by simp[cV] at h
 |U x::Q,R,0,t,X,h=>by
  simp only[xW,vZ] at R;simp[cV] at h;rw[h] at R;exact R.1
 |Z::Q,R,i+1,t,X,h=>abz (bx:=Q) R i t X (by simpa[cV] using h)
 |U x::Q,R,i+1,t,X,h=>by
  simp only[xW,vZ] at R;exact abz (bx:=Q) R.2 i t X (by simpa[cV] using h)
section
variable{H:ar}{F:World}{D:cg}{G:Ty}{V:ar}{O:ai}{s:S}{a:Act}{W:World}
def Pu(n:Nat):∀(k:Nat)(R:bG),(nZ n k R).length=Y R
 |0,[]=>rfl
 |_+1,[]=>rfl
 |k+1,x::X=>by simp[nZ,Pu n k X]
 |0,Z::X=>by simp[nZ,Pu n 0 X]
 |0,U x::X=>by simp[nZ,Pu n 0 X]
def Pv(n:Nat):∀(k:Nat)(R:bG)(i:Nat)(x:TypeId×aq),cw (nZ n k R) i=U x->cw R i=U x
 |0,[],_,_,h=>h
 |_+1,[],_,_,h=>h
 |k+1,x::X,0,_,h=>by simpa[nZ,cV] using h
 |k+1,x::X,i+1,z,h=>by
  have:=Pv n k X i z (by simpa[nZ,cV] using h);simpa[cV] using this
 |0,Z::X,0,_,h=>by simp[nZ,cV] at h
 |0,Z::X,i+1,z,h=>by
  have:=Pv n 0 X i z (by simpa[nZ,cV] using h);simpa[cV] using this
 |0,U x::X,0,z,h=>by
  simp only[nZ] at h;split at h;simp[cV] at h;simpa[cV] using h
 |0,U x::X,i+1,z,h=>by
  have:=Pv n 0 X i z (by simpa[nZ,cV] using h);simpa[cV] using this
def alX:∀{bx:bG}{i:Nat},aK bx i=J->i<Y bx
 |[],i,h=>by simp[aK,cV] at h
 |x::X,0,_=>av
 |x::X,i+1,h=>by
  have:=alX (bx:=X) (i:=i) (by simpa[aK,cV] using h);simp only[lH];omega
def alY{R:bG}:aK R X=J<->∃x,cw R X=U x:=by
 cases h:cw R X<;>simp[aK,h]
def Pw{k:Nat}{R:bG}{i:Nat}(h:aK (nZ X k R) i=J):aK R i=true:=by
 obtain⟨x,Q⟩:=alY.1 h;exact alY.2 ⟨x,Pv X k R i x Q⟩
def alZ(n:Nat):∀(k:Nat)(X:bG)(i:Nat),i<k->aK X i=J->aK (nZ n k X) i=J
 |0,_,_,h,_=>aa
 |_+1,[],_,_,h=>h
 |k+1,x::R,0,_,h=>by simpa[nZ,aK,cV] using h
 |k+1,x::R,i+1,Q,h=>by
  have:=alZ n k R i aa (by simpa[aK,cV] using h);simpa[nZ,aK,cV] using this
def jW.axO{X:bG}{Q:bv}(R:jW H F V O X G Q W)(n k:Nat):jW H F V O (nZ n k X) G Q W:=
 ⟨R.base,λi h=>R.own i (Pw h),λi j h L=>R.inj i j (Pw h) (Pw L),λi t B h=>R.box i t B (Pv n k X i _ h),λq e P N M=>⟨(R.ah q e P N M).1,λb A i z=>(R.ah q e P N M).2 b A i (Pw z)⟩⟩
def jW.at{P:bG}{M:bv}(R:jW H F V O P G M W)(L:∀m,m<X->t.getD m 0=O.y.getD m 0)(B:xW X P=E):jW H F V (O.at t) P G M W:=
 ⟨R.base,R.own,R.inj,λi Q N h=>by rw[C.alW L V N (abz B i Q N h)];exact R.box i Q N h,R.ah⟩
def axP{a w:World}(h:gY t a w)(P:a.heap.size<=X)(o:Obj):gY t a (w.putObj X o):=
 ⟨h.os,h.tape,h.output,by have:=h.size;simpa[Hg] using this,λk R Q=>(uB aa).trans (h.block k R Q)⟩
def bJ.cells{k:RK}{Q:RV}(h:bJ W G k Q)(R:ee G k Q X):∃M t L,W.heap[X]?=U (.cells M t L):=by
 induction h generalizing X with
 |sl e A H F P m l B g f d N=>
  cases R with
  |here e a H F P=>
   have x:P[0]?=U P[0]:=cS aa;obtain⟨q1,X,af,w,u,-⟩:=B 0 _ x;cases w;exact u
  |deep e v P i j r c z k X q p o n=>exact N i j r c z k q p o n
 |str s=>cases R
 |ae v h=>cases R
 |own e Q h hn N=>
  cases R with
  |own e Q X R=>exact N R
 |am Q h=>cases R
 |mr sh P=>cases R
def jW.obj{M:bG}{L:bv}(R:jW H F V O M G L W){o:Obj}(B:W.heap[X]?=U o)(A:KP o=J)(w:F.heap.size<=X)(z:Obj):jW H F V O M G L (W.putObj X z):=by
 have v:∀P Q t N,W.heap[P]?=U (.cells Q t N)->P≠X:=λP Q t N h e=>by subst e;rw[B] at h;cases h;exact ajX A _ _ _ rfl
 refine⟨axP R.base w z,R.own,R.inj,λi t Q h=> ?_,λk e u r q=> ?_⟩;have:=R.box i t Q h;rw[uB (λe=>by subst e;rw[B] at this;cases this;exact ajY A _ _ rfl)];exact this;obtain⟨x,p⟩:=R.ah k e u r q;refine⟨x.KQ (λP n=> ?_) (by simp[Hg]),p⟩;obtain⟨Q,t,N,m⟩:=x.cells n;exact uB (v _ _ _ _ m)
def zC.obj{R:bG}{Q:bv}{P:RV}{N:Nat}(h:zC H F V O R G Q W X v P N){b:Nat}{o:Obj}(L:W.heap[b]?=U o)(B:KP o=J)(A:Obj):zC H F V O R G Q (W.putObj b A) X v P N:=by
 refine h.world (uB ?_);obtain⟨z,x,da,-,M,-⟩:=h.mem;intro v;subst v;rw[L] at M;cases M;exact ajX B _ _ _ rfl
def az.obj(R:az H F D G V O s a W){b:Nat}{o:Obj}(Q:W.heap[b]?=U o)(P:KP o=J)(M:F.heap.size<=b)(X:Obj){D':cg}{pd:uF}{a':Act}(N:a'.tmps=a.tmps)
  (L:eF F D' pd O.y a'.defers (W.putObj b X)):az H F D' G V O {s with pd:=pd} a' (W.putObj b X):=
 ⟨R.mem.obj Q P M X,R.gJ,R.ei,R.eb,R.er,L,by rw[N];exact R.size,λt B h=>by rw[N];exact R.tmps t B h,λk e A z x w v=>(R.gj k e A z x w v).obj Q P X⟩
def rq:ar->World->World
 |[],W=>W
 |d::ms,W=>rq ms (W.putObj d (.deferred Z))
def az.rq:∀{ms:ar}{a:Act}{W:World},az H F D G V O s a W->a.defers=ms.map mg++D.base->az H F D G V O s {a with defers:=D.base} (rq ms W)
 |[],a,W,R,h=>by
  have:({a with defers:=D.base}:Act)=a:=by cases a;simp at h;subst h;rfl
  rw[this];exact R
 |d::ms,a,W,R,h=>by
  obtain⟨A,Q,w,M,L⟩:=R.dl.mh;have v:A=d::ms:=by
   rw[h] at Q;have Q:=aIh Q;have u:∀(l X:ar),l.map mg=X.map mg->l=X:=by
    intro l;induction l with
    |nil=>intro X h;cases X<;>simp at h;rfl
    |cons x b t=>
     intro X h;cases X with
     |nil=>simp at h
     |cons z q=>
      simp only[dU,xH,mg,Deferred.mk.injEq,Target.collected.injEq] at h;obtain⟨⟨rfl,-⟩,h⟩:=h;rw[t q h]
   exact(u _ _ Q).symm
  subst v;have P:=L d av;have p:eF F D s.pd O.y (ms.map mg++D.base) (W.putObj d (.deferred Z)):=by
   refine⟨R.dl.len,R.dl.qy,λn l r o m k=> ?_,R.dl.inj,ms,rfl,λj=>(by have:=w j;cases this),(SQ.1 M).2,λi B=> ?_⟩;obtain⟨g,N,f⟩:=R.dl.dB n l r o m k;exact⟨g,(uB (λe=>by subst e;rw[P.1] at N;cases N)).trans N,f⟩;have:=L i (by simp only[ez,dP];exact .inr B);refine⟨(uB (λe=>by subst e;exact(SQ.1 M).1 B)).trans this.1,this.2⟩
  have c:=R.obj P.1 rfl P.2 (.deferred Z) (D':=D) (pd:=s.pd) (a':={a with defers:=ms.map mg++D.base}) rfl p;exact az.rq (a:={a with defers:=ms.map mg++D.base}) (W:=W.putObj d (.deferred Z)) c rfl
def eF.rq:∀{ms:ar}{pd:uF}{y:ar}{W:World},eF F D pd y (ms.map mg++D.base) W->eF F D pd y D.base (rq ms W)
 |[],pd,y,W,h=>h
 |d::ms,pd,y,W,h=>by
  obtain⟨L,R,H,P,N⟩:=h.mh;have G:L=d::ms:=by
   have R:=aIh R;have B:∀(l X:ar),l.map mg=X.map mg->l=X:=by
    intro l;induction l with
    |nil=>intro X h;cases X<;>simp at h;rfl
    |cons x j A=>
     intro X h;cases X with
     |nil=>simp at h
     |cons z w=>
      simp only[dU,xH,mg,Deferred.mk.injEq,Target.collected.injEq] at h;obtain⟨⟨rfl,-⟩,h⟩:=h;rw[A w h]
   exact(B _ _ R).symm
  subst G;have v:=N d av;refine eF.rq (ms:=ms) (W:=W.putObj d (.deferred Z)) ⟨h.len,h.qy,λn l r u t q=> ?_,h.inj,ms,rfl,λp=>(by have:=H p;cases this),(SQ.1 P).2,λo M=> ?_⟩;obtain⟨m,Q,k⟩:=h.dB n l r u t q;exact⟨m,(uB (λe=>by subst e;rw[v.1] at Q;cases Q)).trans Q,k⟩;have:=N o (by simp only[ez,dP];exact .inr M);exact⟨(uB (λe=>by subst e;exact(SQ.1 P).1 M)).trans this.1,this.2⟩
end
def Px{P:World->Prop}{B:Nat}(h:∀W b o,B<=b->P W->P (W.putObj b o)):∀{X:ar}{W:World},(∀d∈X,B<=d)->P W->P (rq X W)
 |[],W,_,R=>R
 |d::X,W,Q,R=>Px (W:=W.putObj d (.deferred Z)) h (λx N=>Q x (by simp[N])) (h W d _ (Q d av) R)
def tV{P:Program}{Q:Func}{N:mI}{R:Ending->World->Prop}{u:FrameMode}{M:Bt}(L:u≠ .run):∀{X:ar}{W:World},X.Nodup->(∀d∈X,W.heap[d]?=U (.deferred (U [])))->
  LeavesInM Fence.wide 0 P Q N R M u (rq X W)->LeavesInM Fence.wide 0 P Q N R (X.map mg++M) u W
 |[],W,_,_,h=>h
 |d::X,W,F,H,h=>by
  obtain⟨B,A⟩:=SQ.1 F;refine⟨L,.inl ⟨d,_,rfl,run_takeDeferred (H d av),tV L A (λz G=> ?_) h⟩⟩;exact(uB (λe=>by subst e;exact B G)).trans (H z (by simp[G]))
section
variable{H:ar}{F:World}{D N:cg}{G:Ty}{V:ar}{O:ai}{s:S}{a:Act}{W:World}{pd:uF}{y:ar}{M:Bt}
def eF.enter(h:eF F D pd y M W)(X:(t++D.out).Nodup)(R:∀d∈t++D.out,W.heap[d]?=U (.deferred (U []))/\F.heap.size<=d)(Q:Bool):eF F ⟨t++D.out,D.dB,Q,[]⟩ pd y [] W:=
 ⟨h.len,h.qy,h.dB,h.inj,[],rfl,λ_=>rfl,X,R⟩
def eF.Ll(h:eF F ⟨t++D.out,D.dB,b,[]⟩ pd y [] W)(R:D.rd=J->t=[]):eF F D pd y (t.map mg++D.base) W:=by
 obtain⟨X,Q,M,P,N⟩:=h.mh;have:X=[]:=by cases X<;>simp at Q;rfl
 subst this;exact⟨h.len,h.qy,h.dB,h.inj,t,rfl,R,P,N⟩
def eF.push{l:Nat}{r:Loop}(h:eF F D pd y M W)(v:(t++D.out).Nodup)(u:∀X∈t++D.out,W.heap[X]?=U (.deferred (U []))/\F.heap.size<=X)
  (q:W.heap[X]?=U (.deferred (U [])))(p:X∉t++D.out)(o:F.heap.size<=X)(m:W.heap[l]?=U (.loop (se r .ready)))(z:∀(n:Nat)(P:Nat)(G:Loop),D.dB[n]?=U (P,G)->P≠l)(k:F.heap.size<=l):
  eF F ⟨X::(t++D.out),D.dB++[(l,r)],E,[]⟩ (pd++[.ready]) (y++[l]) [] W:=by
 refine⟨by simp[h.len],by simp[h.qy],λn P G j Q R=> ?_,λn N P x w Q R=> ?_,[],rfl,λ_=>rfl,by simpa using⟨by simpa using p,v⟩,λi H=> ?_⟩;by_cases L:n<Y D.dB;rw[dH L] at Q;rw[dH (by rw[<-h.len];exact L)] at R;obtain⟨g,f,e⟩:=h.dB n P G j Q R;exact⟨by rw[dH (by rw[h.qy,<-h.len];exact L)];exact g,f,e⟩;have B:n=Y D.dB:=by
  have:=(ck.1 Q).1;simp at this;omega
 subst B;simp at Q;obtain⟨rfl,rfl⟩:=Q;rw[h.len] at R;simp at R;subst R;refine⟨?_,m,k⟩;rw[h.len,<-h.qy];simp;by_cases L:n<Y D.dB;rw[dH L] at Q;by_cases A:N<Y D.dB;rw[dH A] at R;exact h.inj n N P x w Q R;have B:N=Y D.dB:=by
  have:=(ck.1 R).1;simp at this;omega
 subst B;simp at R;obtain⟨rfl,rfl⟩:=R;exact aZ rfl (z n _ x Q);have c:n=Y D.dB:=by
  have:=(ck.1 Q).1;simp at this;omega
 subst c;simp at Q;obtain⟨rfl,rfl⟩:=Q;by_cases A:N<Y D.dB;rw[dH A] at R;exact aZ rfl (z N _ w R);have:=(ck.1 R).1;simp at this;omega;simp only[eW,dP] at H;rcases H with rfl|H;exact⟨q,o⟩;exact u i H
def eF.pop{l:Nat}{r:Loop}(h:eF F ⟨X::(t++D.out),D.dB++[(l,r)],E,[]⟩ pd y [] W)(H:D.rd=E):eF F D (pd.take (Y D.dB)) (y.take (Y D.dB)) ((X::t).map mg++D.base) W:=by
 obtain⟨M,G,o,B,A⟩:=h.mh;have:M=[]:=by cases M<;>simp at G;rfl
 subst this;have z:=h.len;have m:=h.qy;simp at z;refine⟨dh,dh,λn N x w R Q=> ?_,λn v N u q R Q=> ?_,X::t,rfl,λL=>(by rw[H] at L;cases L),B,A⟩;have P:=(ck.1 R).1;rw[nj,aJ P] at Q⊢;exact h.dB n N x w (by rw[dH P];exact R) Q;have P:=(ck.1 R).1;have p:=(ck.1 Q).1;exact h.inj n v N u q (by rw[dH P];exact R) (by rw[dH p];exact Q)
def eF.put{r:Loop}(h:eF F D pd y M W)(H:W.heap[X]?=U (.loop r))(G:∀(n R:Nat)(Q:Loop),D.dB[n]?=U (R,Q)->R≠X)(o:Obj):eF F D pd y M (W.putObj X o):=by
 obtain⟨B,A,z,x,P⟩:=h.mh;refine⟨h.len,h.qy,λn R Q w L v=> ?_,h.inj,B,A,z,x,λd N=>⟨?_,(P d N).2⟩⟩;obtain⟨u,t,q⟩:=h.dB n R Q w L v;exact⟨u,(uB (G n R Q L)).trans t,q⟩;exact(uB (λe=>by subst e;have:=(P d N).1;rw[H] at this;cases this)).trans (P d N).1
def eF.abA{l:Nat}{r:Loop}(h:eF F D pd y M W)(R:D.dB[X]?=U (l,r))(z:Hm):eF F D (pd.set X z) y M (W.putObj l (.loop (se r z))):=by
 obtain⟨u,t,q,p,L⟩:=h.mh;have x:X<Y pd:=by rw[<-h.len];exact(ck.1 R).1
 have P:∃H,W.heap[l]?=U (.loop H):=⟨_,(h.dB X l r pd[X] R (cS x)).2.1⟩;obtain⟨j,P⟩:=P;refine⟨by simp[h.len],by simp[h.qy],λw o H m N Q=> ?_,h.inj,u,t,q,p,λd G=>⟨?_,(L d G).2⟩⟩;rw[v6] at Q;split at Q;rename_i e;subst e;rw[R] at N;cases N;simp only[cU] at Q;subst Q;obtain⟨B,v,A⟩:=h.dB X l r pd[X] R (cS x);exact⟨B,aIl (Bv P),A⟩;rename_i e;obtain⟨B,v,A⟩:=h.dB w o H m N Q;exact⟨B,(uB (λk=>by subst k;exact e (h.inj X w _ _ _ R N))).trans v,A⟩;exact(uB (λe=>by subst e;have:=(L d G).1;rw[P] at this;cases this)).trans (L d G).1
def al0{O:ai}{V:ar}:∀(R:ar)(N l:aq)(A:mI),A.size=Y l->(∀(t:Nat)(X:C),l[t]?=U X->X=.any\/A[t]?=U (X.ab O V))->
  ((R.zip (C.aE O V N)).foldl (λ(M:mI)(x:Nat×Value)=>M.setIfInBounds x.1 x.2) A).size=(HR R N l).length/\
  ∀(t:Nat)(X:C),(HR R N l)[t]?=U X->X=.any\/((R.zip (C.aE O V N)).foldl (λ(M:mI)(x:Nat×Value)=>M.setIfInBounds x.1 x.2) A)[t]?=U (X.ab O V)
 |[],N,l,A,Q,h=>by simp only[List.zip_nil_left,List.foldl_nil,HR];exact⟨Q,h⟩
 |p::R,[],l,A,Q,h=>by simp only[C.aE,List.zip_nil_right,List.foldl_nil,HR];exact⟨Q,h⟩
 |p::R,v::L,l,A,Q,h=>by
  simp only[C.aE,Zo,EZ,HR];refine al0 R L (l.set p v) (A.setIfInBounds p (v.ab O V)) (by simp[Q]) (λt X P=> ?_);rw[v6] at P;split at P;rename_i e;subst e;split at P;rename_i H;cases P;right;rw[aH8 (by rw[Q];exact H)];cases P;rename_i e;rw[aiH e];exact h t X P
end
section
variable{p:Sp}{cf:bE}
def Lr(bS:Nat->Bool)(X W:Bool):∀(l:pB)(j n i:Nat)(m:OM),(gU bS X W j n l)[i]?=U m->l[i]?=U m.o
 |[],j,n,i,m,h=>by simp[gU] at h
 |o::r,j,n,0,m,h=>by simp[gU] at h;simp[<-h]
 |o::r,j,n,i+1,m,h=>by simp[gU] at h;simpa using Lr bS X W r _ _ i m h
def Ur(bS:Nat->Bool)(X W:Bool):∀(l:pB)(j n:Nat),(gU bS X W j n l).length=Y l
 |[],j,n=>rfl
 |o::r,j,n=>by simp[gU,Ur bS X W r]
def abB(bS:Nat->Bool)(X W:Bool):∀(l:pB)(j n i:Nat)(m:OM),(gU bS X W j n l)[i]?=U m->m.j=j+i
 |[],j,n,i,m,h=>by simp[gU] at h
 |o::r,j,n,0,m,h=>by simp[gU] at h;simp[<-h]
 |o::r,j,n,i+1,m,h=>by simp[gU] at h;have:=abB bS X W r _ _ i m h;omega
def abC(bS:Nat->Bool)(W X:Bool):∀(l:pB)(j n i:Nat)(m:OM),(gU bS W X j n l)[i]?=U m->m.dr=X
 |[],j,n,i,m,h=>by simp[gU] at h
 |o::r,j,n,0,m,h=>by simp[gU] at h;simp[<-h]
 |o::r,j,n,i+1,m,h=>by simp[gU] at h;exact abC bS W X r _ _ i m h
structure al1(m m':OM):Prop where
 o:m.o=m'.o
 ix:m.ix=m'.ix
 j:m.j=m'.j
 dr:m.dr=m'.dr
def abD{V:ar}:∀{l X:cX}{m:OM},m∈uO V X l->∃W∈l,al1 m W
 |[],X,m,h=>by simp[uO] at h
 |x::l,X,m,h=>by
  simp only[uO,dP] at h;rcases h with rfl|h;exact⟨x,av,rfl,rfl,rfl,rfl⟩;obtain⟨W,R,Q⟩:=abD h;exact⟨W,by simp[R],Q⟩
def al2{X:ar}:∀{l:cX},Bp X l=J->l.Pairwise λx y=>(X.getD y.j 0).testBit x.j=J
 |[],_=>xE
 |x::r,h=>by
  simp only[Bp,aw] at h;exact jq.2 ⟨λy W=>fO.1 h.1 y W,al2 h.2⟩
def al3{X:ar}:∀{l W:cX},(l.Pairwise λx y=>(X.getD y.j 0).testBit x.j=J)->(uO X W l).Pairwise λx y=>(X.getD y.j 0).testBit x.j=J
 |[],W,_=>xE
 |x::r,W,h=>by
  obtain⟨V,R⟩:=jq.1 h;refine jq.2 ⟨λy Q=> ?_,al3 R⟩;obtain⟨P,O,N⟩:=abD Q;rw[N.j];exact V P O
def al4{Q:ar}:∀{l W:cX}(R:cX)(m:OM)(X:cX),uO Q W l=R++m::X->m.so=J->X.Pairwise λx y=>(Q.getD y.j 0).testBit x.j=J
 |[],W,R,m,X,h,_=>by cases R<;>simp[uO] at h
 |x::r,W,[],m,X,h,V=>by
  simp only[uO,eW,xH] at h;obtain⟨P,rfl⟩:=h;subst P;simp only[aw] at V;exact al3 (jq.1 (al2 V.1.2)).2
 |x::r,W,z::O,m,X,h,V=>by
  simp only[uO,ez,xH] at h;exact al4 O m X h.2 V
def abE:∀{l:ar},ny l=J->l.Pairwise (·≠·)
 |[],_=>xE
 |x::W,h=>by
  simp only[ny,aw,ik] at h;refine jq.2 ⟨λy X e=> ?_,abE h.2⟩;subst e;rw[qj.2 X] at h;cases h.1
def Us:∀{l:cX},ny (l.filterMap (·.o.dst))=J->l.Pairwise λa b=>∀d,a.o.dst=U d->b.o.dst≠U d
 |[],_=>xE
 |x::V,h=>by
  cases W:x.o.dst with
  |none=>
   simp only[aiQ,W] at h;exact jq.2 ⟨λy _ d X=>(by rw[W] at X;cases X),Us h⟩
  |some d=>
   simp only[aiQ,W,ny,aw,ik] at h;refine jq.2 ⟨λy R e X Q=> ?_,Us h.2⟩;rw[W] at X;cases X;have:d∈V.filterMap (·.o.dst):=C0.2 ⟨y,R,Q⟩;rw[qj.2 this] at h;cases h.1
def al5{X:dN}{W:ar}:∀{l:cX},Fc X W l=J->l.Pairwise λx y=>(W.getD y.j 0).testBit x.j=J\/uN X x y=J
 |[],_=>xE
 |x::R,h=>by
  simp only[Fc,aw] at h;refine jq.2 ⟨λy V=> ?_,al5 h.2⟩;have:=fO.1 h.1 y V;simpa using this
def al6{Q:dN}:∀{l:cX}{done:ar},Fe Q done l=J->(∀m∈l,Q[m.j]?=U m.o)->∀X m V,l=X++m::V->∀e∈lL m.o,e∈done\/∃x∈X,x.j=e
 |[],done,_,_,X,m,V,h=>by cases X<;>simp at h
 |x::l,done,R,P,X,m,V,h=>by
  simp only[Fe,aw] at R;intro e O;cases X with
  |nil=>
   simp only[eW,xH] at h;obtain⟨rfl,-⟩:=h;rw[P x av] at R;exact .inl (qj.1 (fO.1 R.1 e O))
  |cons z N=>
   simp only[ez,xH] at h;obtain⟨rfl,h⟩:=h;rcases al6 R.2 (λm M=>P m (by simp[M])) N m V h e O with W|⟨y,L,W⟩;rcases dP.1 W with rfl|W;exact .inr ⟨x,av,rfl⟩;exact .inl W;exact .inr ⟨y,by simp[L],W⟩
def al7{X:dN}(h:Tk X.toList t=J):Li X t:=by
 have P:∀(j:Nat)(o:Oper),X[j]?=U o->(∀e∈lL o,e<j)/\∀i,i<X.size->(t.getD j 0).testBit i=J->i∈lL o\/∃e∈lL o,(t.getD e 0).testBit i=true:=by
  intro j o W;have O:j<X.size:=(oQ.1 W).1;have R:=fO.1 h j (by simpa using O);have N:X.toList[j]?=U o:=by simpa using W
  rw[N] at R;simp only[aw] at R;refine⟨λe Q=>by simpa using fO.1 R.1 e Q,λi M L=> ?_⟩;have V:=fO.1 R.2 i (by simpa using M);simp only[L,Zy,avn,jy] at V;rcases V with V|V;exact .inl (qj.1 V);obtain⟨e,Q,H⟩:=kH.1 V;exact .inr ⟨e,Q,H⟩
 exact⟨λj o W=>(P j o W).1,λj o W=>(P j o W).2⟩
def wz(X:ar):∀(l:aq)(n i:Nat),(tJ X n l)[i]?=(l[i]?).map λx=>if X.contains (n+i) then .any else x
 |[],n,i=>by simp[tJ]
 |x::W,n,0=>by simp[tJ]
 |x::W,n,i+1=>by
  simp only[tJ,tA];rw[wz X W (n+1) i,show n+1+i=n+(i+1) from aa]
def Ls(X:ar):∀(l:aq)(n:Nat),(tJ X n l).length=Y l
 |[],n=>rfl
 |x::W,n=>by simp[tJ,Ls X W]
def al8:∀{l:pB}{o:Oper}{t:TypeId},Kq cf l=J->o∈l->o.op=.alloc t->HO cf t=J
 |[],o,t,_,h,_=>by simp at h
 |x::V,o,t,h,X,W=>by
  simp only[Kq,aw] at h;rcases dP.1 X with rfl|X;have:=h.1;rw[W] at this;exact this;exact al8 h.2 X W
def abF:∀{l:cX},ny ((l.filter λm=>gT m.o.op).map (·.ix))=J->l.Pairwise λa b=>gT a.o.op=J->gT b.o.op=J->a.ix≠b.ix
 |[],_=>xE
 |x::R,h=>by
  by_cases X:gT x.o.op=J;rw[List.filter_cons_of_pos (by simpa using X),dU,ny,aw] at h;refine jq.2 ⟨λy W _ Q e=> ?_,abF h.2⟩;have:x.ix∈(R.filter λm=>gT m.o.op).map (·.ix):=iq.2 ⟨y,qm.2 ⟨W,by simpa using Q⟩,e.symm⟩;have V:=h.1;rw[qj.2 this] at V;cases V;rw[List.filter_cons_of_neg (by simpa using X)] at h;exact jq.2 ⟨λy W P=>aZ P X,abF h⟩
def axQ(bS:Nat->Bool)(W V:Bool)(R:bG):∀(l:pB){i:Nat}{m:OM},gT m.o.op=J->(gU bS W V 0 (Y R) l)[i]?=U m->gu (R++eN (mc l) Z) m.ix=true:=by
 have P:∀(l:pB)(j n i:Nat)(m:OM),gT m.o.op=J->(gU bS W V j n l)[i]?=U m->n<=m.ix/\m.ix<n+mc l:=by
  intro l;induction l with
  |nil=>intro j n i m _ h;simp[gU] at h
  |cons o r O=>
   intro j n i m X h;have Q:mc (o::r)=(if gT o.op then 1 else 0)+mc r:=by
    unfold mc;rw[ava];split<;>simp<;>omega
   cases i with
   |zero=>
    simp only[gU,A4,cU] at h;subst h;simp only at X⊢;rw[Q,aJ X];omega
   |succ i=>
    simp only[gU,tA] at h;have:=O _ _ i m X h;rw[Q];split at this<;>simp_all<;>omega
 intro l i m X h;obtain⟨N,M⟩:=P l 0 _ i m X h;unfold gu;rw[iE N,G4,aJ aa]
abbrev al9(p:Sp)(cf:bE)(D:cg)(x:YH)(L:dC)(n:Nat)(B:aq)(s:S)(k A:C->S->T)(O:ai)(V:ar)(a:Act)(W:World)(G:Ending->World->Prop):Prop:=
  (x n B s k A).aP p O L->az p.S0 p.w0 D cf.ty V O s a W->e8 cf.gl O->
  (∀v N X M Q H,bH s O V N X M->dm s.ax L H->az p.S0 p.w0 D cf.ty M X N a Q->(k v N).aP p X H->G (.returned (v.ab X M)) Q)->
  (∀v N X M Q H,bH s O V N X M->dm s.ax L H->az p.S0 p.w0 D cf.ty M X N a Q->(A v N).aP p X H->G (.panicked [{v:=v.ab X M,recovered:=E}]) Q)->
  (∀z Q w y,eF p.w0 D w y a.defers Q->p.R (.panicked z) Q->G (.panicked z) Q)->
  ∀(F:Fence)(_:rp F)(m:Nat),YieldAt F m p.P (O.y.getD n 0) (C.aE O V B).toArray W G
def ru(p:Sp)(cf:bE)(X:List (Nat×Loop))(B:jX)(R:YH):Prop:=
 ∀(D:cg)(_:X<+:D.dB)(L:dC)(n:Nat)(Q:aq)(s:S)(k P:C->S->T)(O:ai)(V:ar)(a:Act)(W:World)(N:Ending->World->Prop),B.mi s (O.at (O.y.take (Y X))) V L->al9 p cf D R L n Q s k P O V a W N
def axR{Q:World}{D:cg}{P:Ty}{V:ar}{a:Act}{W:World}(X:az t Q D P V x R a W):x.at (x.y.take (Y D.dB))=x:=by
 rw[G5 (by rw[X.dl.qy,<-X.dl.len];exact b9 _)];cases x;rfl
def ru.use{D:cg}{B:jX}{P:YH}(H:ru p cf D.dB B P){L:dC}{k N:C->S->T}{a:Act}{W:World}{M:Ending->World->Prop}(G:B.mi R x t L):al9 p cf D P L X e R k N x t a W M:=
 λh Q=>H D (List.prefix_refl _) L X e R k N x t a W M (by rw[axR Q];exact G) h Q
def FE(X:List (Nat×Loop))(B:jX):ru p cf X B iY:=λ_ _ _ _ _ _ _ _ _ _ _ _ _ _ h=>h.elim
def axS{F:Fence}(hF:rp F)(ok:jL p cf){pc:xT}(a9:Uo p cf pc){D:cg}{B:jX}{yh:YH}(hY:ru p cf D.dB B yh){Q:Exit->Act->World->Prop}(HP:∀ch g z pd y,eF p.w0 D pd y g.defers z->p.R (.panicked ch) z->Q (.panic ch) g z){G:dN}{id:Nat}{r:cX}{a:Act}{W:World}{L:dC}{k:XE->S->T}(hB:B.mi R x t L)
  (af:Ko G (Y R.ap)=U r)(ba:Kq cf G.toList=J)(bb:Fz G pc)(h:(oA cf (zy cf pc yh) G (k .normal) (λv=>k (.bI v)) r (R.Bq G r) []).aP p x L)(N:az p.S0 p.w0 D cf.ty t x R a W)(hg:e8 cf.gl x)
  (hk:∀q w f g z c,bH R x t q w f->dm R.ax L c->az p.S0 p.w0 D cf.ty f w q g z->(k .normal q).aP p w c->Q .normal g z)
  (bc:∀v q w f g z c,bH R x t q w f->dm R.ax L c->az p.S0 p.w0 D cf.ty f w q g z->(k (.bI v) q).aP p w c->Q (.panic [{v:=v.ab w f,recovered:=E}]) g z):
  (Code.region id G J).wpIn F X p.P Q a W:=by
 unfold Ko at af;simp only at af;split at af;rename_i hc;simp only[aw,dE] at hc;obtain⟨⟨⟨⟨⟨⟨⟨c1,c2⟩,c3⟩,c4⟩,c5⟩,c8⟩,c6⟩,c7⟩:=hc;simp only[cU] at af;rw[af] at c2 c3 c4 c5 c6 c7 c8;have an:∀m∈r,∃(i:Nat)(m':OM),(gU (Ox G.toList (pG G.toList)) E J 0 (Y R.ap) G.toList)[i]?=U m'/\al1 m m':=by
  intro m A;rw[<-af] at A;obtain⟨m',h1,h2⟩:=abD A;rw[Km] at h1;obtain⟨i,-,l⟩:=C0.1 h1;exact⟨i,m',l,h2⟩
 have a1:∀m∈r,G[m.j]?=U m.o:=by
  intro m A;obtain⟨i,m',l,u⟩:=an m A;have h1:=Lr _ _ _ _ _ _ _ _ l;have h2:=abB _ _ _ _ _ _ _ _ l;rw[u.j,u.o,h2,iX];simpa using h1
 have hW:Pq G (pG G.toList) (aiZ G.size E) r:=by
  refine⟨a1,λi l=> ?_,av,λj o ho hj=> ?_,al5 c3,λxs m ys he e hd=> ?_, ?_,Us c4,λxs m ys he bf=>al4 xs m ys (af.trans he) bf⟩;constructor;intro _;have:=fO.1 c7 i (by simpa using l);obtain⟨m,A,hj⟩:=kH.1 this;exact⟨m,A,by simpa using hj⟩;intro _;simp[l];exfalso;have bg:j<G.size:=(oQ.1 ho).1;simp[bg] at hj;rcases al6 c2 a1 xs m ys he e hd with h1|h1;cases h1;exact .inr h1;have:=abE c5;rw[au7] at this;exact this
 obtain⟨Rr,al⟩:=N.room (mc G.toList);have Rb:az p.S0 p.w0 D cf.ty (t++eN (mc G.toList) 0) x (R.Bq G r) a {W with drawn:=W.drawn+1}:=by
  have Rd:=Rr.drew;refine⟨Rd.mem,Rd.gJ,Rd.ei,Rd.eb,Rd.er,Rd.dl,by simp only[S.Bq,Ls];exact Rr.size,λM sv b=> ?_,Rd.gj⟩;simp only[S.Bq] at b;rw[wz,iX] at b;cases hx:R.tmps[M]? with
  |none=>rw[hx] at b;cases b
  |some H=>
   rw[hx] at b;simp only[eh,cU] at b;split at b;exact .inl b.symm;subst b;exact Rd.tmps M H hx
 have a3:bH R x t (R.Bq G r) x (t++eN (mc G.toList) 0):=⟨al.ext,al.mono,al.len,al.ax⟩;refine wpIn_region_any ok.mix ?_;refine axC bb a9 hF ok HP (al7 c1) (Kn:=FA p (k .normal)) (Kp:=DB p (λv=>k (.bI v))) (Yp:=DC p cf G pc yh (k .normal) (λv=>k (.bI v))) (s0:=R.Bq G r) (O0:=x) (V0:=t++eN (mc G.toList) 0) (L0:=L)
  (λq w f g z c hl hL R' u=>hk q w f g z c (a3.trans hl) hL R' u) (λv q w f g z c hl hL R' u=>bc v q w f g z c (a3.trans hl) hL R' u)
  ?_
  G.size _ r (R.Bq G r) x _ a _ L c6 hW (λm A=>by
   obtain⟨i,m',l,u⟩:=an m A;rw[u.dr];exact abC _ _ _ _ _ _ _ _ l) (λm A M b=> ?_) (abF c8) (.inl ⟨λm A bk=> ?_, ?_⟩) (bH.refl _ _ _) (dm.refl _ _) Rb hg ?_
 intro L2 m bl s2 O2 V2 a2 W2 yn b7 R' hl hL R2 br bs bt bx b0 mm;obtain⟨b1,fx,b2,b3⟩:=bs;refine hY.use (hB.go (a3.trans hl) hL) b3 R2 br (λv q w f z c a4 b4 Rn u=> ?_) bx b0 F hF mm;refine bt v q w f z c a4 b4 Rn ?_;have ag:=f8 q m.o.dst v;refine Ic ok.pt bl _ _ w (by rw[ag.1];exact Rn.ei) (by rw[ag.2.1];exact Rn.eb) (by rw[ag.2.2];exact Rn.er) u ?_ b1;intro H hx;obtain⟨b5,b8⟩:=qm.1 hx;obtain⟨hd,a0⟩:=b2 H b5;have hE:=a4.ext;refine⟨by rw[BE.ep hE.agree _ (by rw[R2.ei,R2.eb,R2.er];exact a0)];exact hd, ?_⟩;rw[ag.1,ag.2.1,ag.2.2,<-Rn.ei,<-Rn.eb,<-Rn.er];exact BE.eH (by rw[<-R2.ei];exact hE.li) (by rw[<-R2.eb];exact hE.lb) (by rw[<-R2.er];exact hE.lr) _ a0;have h1:=a1 m A;exact al8 ba (jI (show G.toList[m.j]?=U m.o by simpa using h1)) b;obtain⟨i,m',l,u⟩:=an m A;rw[u.ix];exact axQ _ _ _ R.ap _ (by rw[<-u.o];exact bk) l;intro m A d hd;have b6:d∈Ff (r.dropLast.map (·.o)):=C0.2 ⟨m.o,iq.2 ⟨m,A,rfl⟩,hd⟩;unfold yf;simp only[S.Bq];rw[wz,iX];cases hx:R.tmps[d]? with
 |none=>exact .inl rfl
 |some H=>
  right;by_cases hb:(ajl R (Ff (r.dropLast.map (·.o)))).contains d=J;exact⟨.any,by simp only[eh,hb,cN],by simp[C.bj]⟩;refine⟨H,by simp only[eh,hb];rfl, ?_⟩;have a0:H.bd R.ni R.nb (Y R.rs) (aK R.ap)=true:=by
   cases hh:H.bd R.ni R.nb (Y R.rs) (aK R.ap);exfalso;apply hb;exact qj.2 (qm.2 ⟨b6,by simp[hx,hh]⟩);rfl
  exact C.eH (b9 _) (b9 _) (b9 _) al.mono _ a0
 refine Ic ok.pt r _ [] x Rb.ei Rb.eb Rb.er h (λH hx=>by cases hx) (λm A=> ?_);obtain⟨i,m',l,u⟩:=an m A;rw[u.dr];exact abC _ _ _ _ _ _ _ _ l;cases af
def zR(p:Sp)(cf:bE)(n:Nat):Prop:=
 ∀(D:cg)(B:jX)(z:YH)(H:cM)(G:FuncId)(c:Code)(s:S)(k:XE->S->T)(L:dC)(O:ai)(V:ar)(a:Act)(W:World)(Q:Exit->Act->World->Prop),
  ru p cf D.dB B z->B.mi s O V L->D.rd=H.isSome->(H.isSome=J->ki c=E)->(∃v,p.P.funcs[G]?=U v)->
  (fY cf n G c s z k).aP p O L->az p.S0 p.w0 D cf.ty V O s a W->e8 cf.gl O->
  (∀x N X u y,eF p.w0 D u y N.defers X->p.R (.panicked x) X->Q (.panic x) N X)->
  (∀e F M A N X w,bH s O V F M A->dm s.ax L w->az p.S0 p.w0 D cf.ty A M F N X->(k e F).aP p M w->Q (e.to M A) N X)->
  jA H G p.P c Q a W
def Ut(p:Sp)(cf:bE)(n:Nat):Prop:=
 ∀(D:cg)(B:jX)(z:YH)(G:cM)(M:FuncId)(x:Code)(s:S)(k:XE->S->T)(L:dC)(O:ai)(V:ar)(a:Act)(W:World)(Q:Exit->Act->World->Prop),
  ru p cf D.dB B z->B.mi s O V L->D.rd=G.isSome->(G.isSome=J->ki x=E)->(∃u,p.P.funcs[M]?=U u)->
  (∀t,(Code.first x).map (cf.loop M)≠U (.inv t))->
  (fY cf n M (.loop x) s z k).aP p O L->az p.S0 p.w0 D cf.ty V O s a W->e8 cf.gl O->
  (∀w N X r y,eF p.w0 D r y N.defers X->p.R (.panicked w) X->Q (.panic w) N X)->
  (∀e F H A N X v,bH s O V F H A->dm s.ax L v->az p.S0 p.w0 D cf.ty A H F N X->(k e F).aP p H v->Q (e.to H A) N X)->
  Ps G M p.P x Q n a W
def axT(c:zR p cf X)(b:Ut p cf X):Ut p cf (X+1):=by
 intro D B m q o x s k L O V a W Q l j i g f af h R d HP F;unfold fY at h;simp only at h;show jA q o p.P x _ a W;refine c D B m q o x s _ L O V a W _ l j i g f h R d (λch M H pd y hd hR=>HP ch M H pd y hd hR) ?_;intro e A z w M H u N G t r;cases e with
 |normal=>exact b D B m q o x A k u z w M H Q l (j.go N G) i g f af r t (d.ext N.ext) HP (λe2 s2 O2 V2 a2 W2 L2 ag al R2 an=>F e2 s2 O2 V2 a2 W2 L2 (N.trans ag) (G.trans al N.ax) R2 an)
 |ret=>exact F .ret A z w M H u N G t r
 |exit id=>exact F (.exit id) A z w M H u N G t r
 |bI v=>exact F (.bI v) A z w M H u N G t r
def az.back{N:World}{D v:cg}{V L:ar}{M:ai}{B H:S}{a u:Act}{W G:World}(X:az t N D cf.ty V x R a W)(r:R.bd=J)
  (q:bH B x V H M L)(o:B.ap=R.ap)(P:az t N v cf.ty L M H u G){D2:cg}{a2:Act}{A:uF}(z:a2.tmps=a.tmps)(n:eF N D2 A M.y a2.defers G):az t N D2 cf.ty L M {H with tmps:=R.tmps,pd:=A} a2 G:=by
 obtain⟨m,-⟩:=X.zE r;refine⟨P.mem,P.gJ,P.ei,P.eb,P.er,n,by rw[z];exact X.size,λQ l h=> ?_,P.gj⟩;rw[z];rcases X.tmps Q l h with F|F;exact .inl F;right;have w:=q.ext;rw[o] at w;rw[w.ab (wt m h)];exact F
def az.enter{N:World}{D M:cg}{V:ar}{a:Act}{W:World}(X:az t N D cf.ty V x R a W)(P:aq)(n:Nat)(H:eF N M R.pd x.y [] W):
  az t N M cf.ty V x {R with tmps:=P++eN (n-Y P) (.bM [])} {tmps:=(C.aE x V P).toArray++aiZ (n-(C.aE x V P).toArray.size) undef,defers:=[]} W:=by
 refine⟨X.mem,X.gJ,X.ei,X.eb,X.er,H,av,λQ F h=> ?_,X.gj⟩;right;simp only[G9,HW];by_cases L:Q<Y P;rw[dH L] at h;rw[aIb (by simpa using L)];simp[tN,h];rw[iE aa,G4] at h;split at h;rename_i G;cases h;rw[Array.getElem?_append_right dh];simp only[G9,HW,Array.getElem?_replicate];rw[aJ G];rfl;cases h
def Lt(H:jL p cf)(hC:zR p cf X){D:cg}{B:jX}{yh:YH}(hY:ru p cf D.dB B yh):T6 p cf D B (kD cf (λf c s k=>fY cf X f c s yh k) yh):=by
 intro L g0 t s k kp O V a W r G h R q b ag hp;cases g0 with
 |yl yn=>exact λF hF m=>hY.use G h R q b ag hp F hF m
 |fn g=>
 unfold kD at h;simp only at h;split at h;rename_i c nt rs af;refine⟨H.zM g (.inr (by rw[af];rfl)), ?_⟩;split at h;rename_i hb;simp only[S.e9,aw] at hb;obtain⟨fn,hf,a0,a1,a3⟩:=H.inl g c nt rs af;refine Lk hf a0 ?_;obtain⟨ms,m1,m0,m2,m3⟩:=R.dl.mh;have RE:=R.enter t nt (R.dl.enter m2 m3 E);rw[<-a1] at RE h;have a4:B.mi {s with tmps:=t++eN (fn.ntmps-Y t) (.bM [])} O V L:=⟨⟨G.later.ext,G.later.mono,G.later.len,G.later.ax⟩,G.H9⟩;refine hC ⟨ms++D.out,D.dB,E,[]⟩ B yh Z g c _ _ L O V _ W _ hY a4 rfl (λhh=>by cases hh) ⟨fn,hf⟩ h RE q ?_ ?_;intro ch N o pd y hA hR;obtain⟨a9,A,q0,j,z⟩:=hA.mh;rw[A] at hA;have x:=(hA.rq).Ll m0;rw[<-m1] at x;show LeavesInM Fence.wide 0 p.P fn N.tmps r N.defers (.panicking ch) o;rw[A];exact tV av (xF.1 j).1 (λd M=>(z d (by simp[M])).1) (hp ch _ pd y x (Px (H.Uh ch) (λd M=>(z d (by simp[M])).2) hR));intro e s' i V' N o L' w hL RR Q;have al:bH s O V {s' with tmps:=s.tmps} i V':=⟨w.ext,w.mono,w.len,w.ax⟩;obtain⟨a9,A,q0,j,z⟩:=RR.dl.mh;have R2:=RR.rq A;have x:=R2.dl.Ll m0;rw[<-m1] at x;have RB:=R.back hb.1 w rfl R2 (D2:=D) (a2:=a) rfl x;have an:∀l,uK cf s' rs=U l->(k (one l) {s' with tmps:=s.tmps}).aP p i L'->LeavesInM Fence.wide 0 p.P fn N.tmps r N.defers .returning o:=by
  intro l u Q;rw[A];refine tV av (xF.1 j).1 (λd M=>(z d (by simp[M])).1) ⟨_,K8 R2 H.kQ (by rw[a3];exact u), ?_⟩;exact b _ _ i V' _ L' al hL RB Q
 cases e with
 |normal=>
  simp only[Kr] at Q;split at Q;rename_i l u;exact an l u Q;exact Q.elim
 |ret=>
  simp only[Kr] at Q;split at Q;rename_i l u;exact an l u Q;exact Q.elim
 |bI v=>
  show LeavesInM Fence.wide 0 p.P fn N.tmps r N.defers (.panicking _) o;rw[A];exact tV av (xF.1 j).1 (λd M=>(z d (by simp[M])).1) (ag v _ i V' _ L' al hL RB Q)
 |exit id=>exact Q.elim
 exact h.elim;rename_i af;exact ak1 H.pt (λg q=>H.zM g (.inl q)) D L g t s k O V a W r h R b hp
def axU(b:Bool)(H:jL p cf){D:cg}{B:jX}{G:qp}(F:T6 p cf D B G):T6 p cf D B (ZV b cf G):=by
 intro L x Q s k A O V a W P z h R X N y M;cases x with
 |yl w=>exact F L (.yl w) Q s k A O V a W P z h R X N y M
 |fn g=>
  cases b with
  |false=>exact F L (.fn g) Q s k A O V a W P z h R X N y M
  |true=>exact ak1 H.pt (λg X=>H.zM g (.inl X)) D L g Q s k O V a W P h R N M
end
