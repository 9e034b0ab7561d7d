/- Part 2 of the proof; the last part says what is shown. -/
import Derived.Test.YtieaiocljdpebaaGreatDoorQ1
import Derived.Maps.RangeRun
import Derived.RangeFuncSeq
import Derived.StillTailTactics
import Derived.RangeFuncIn
import Derived.RangeFuncLeaves
import Derived.LoopNIn
import Derived.LoopIn
set_option linter.all false
open Bool renaming and_eq_true->aDc,not_eq_true'->aDv,false_eq_true->aDB,or_eq_true->aDE,or_eq_false_iff->aDW,eq_iff_iff->aEk,and_self->aEB,not_eq_false->aEM,true_and->aE8,and_true->aFg,or_eq_true_iff->aF0,not_true->aF8,and_eq_false_iff->aGB,false_or->aGI,true_or->aGL,true_eq_false->aGQ,true->J,false->E
open List renaming getElem?_eq_some_iff->aDd,getElem?_eq_getElem->aDe,getD_eq_getElem?_getD->aDf,getElem?_append_left->aDg,cons_append->aDi,getElem?_map->aDj,getElem?_append_right->aDk,nil_append->aDl,mem_append->aDo,mem_cons->aDp,replicate->aDq,all_eq_true->aDr,length_append->aDs,map_cons->aDt,mem_of_getElem?->aDx,getElem?_eq_none->aDy,pairwise_cons->aDz,range->aDA,map_congr_left->aDC,mem_map->aDF,ext_getElem?->aDG,pairwise_append->aDH,eq_nil_of_length_eq_zero->aDI,length_eq_one_iff->aDJ,getElem?_take->aDK,any_eq_true->aDL,contains_iff_mem->aDN,getElem?_cons_succ->aDO,getElem?_set_ne->aDP,length_eq_zero_iff->aDT,getElem?_of_mem->aDU,length_map->aDV,mem_append_left->aDX,getElem?_drop->aDZ,mem_filter->aD1,getElem?_eq_none_iff->aD2,getElem_mem->aD3,length_cons->aD4,map_map->aD7,getElem?_set->aD9,getElem?_cons_zero->aEb,mem_or_eq_of_mem_set->aEc,mem_range->aEd,drop_eq_getElem_cons->aEf,nodup_append->aEi,mem_of_mem_drop->aEj,getElem?_replicate->aEm,mem_cons_of_mem->aEn,mem_of_mem_take->aEo,take_of_length_le->aEp,getElem?_set_self->aEq,getElem?_range->aEt,mem_filterMap->aEw,range'->aEC,size_toArray->aED,mem_of_find?_eq_some->aEF,foldl_cons->aEG,mem_append_right->aEH,length_drop->aEJ,map_nil->aEK,append_nil->aEO,length_take->aEQ,mem_cons_self->aES,mem_singleton->aE0,map_append->aE3,nodup_cons->aE5,range_eq_range'->aE9,all_cons->aFf,find?_some->aFi,zip_cons_cons->aFj,replicate_one->aFk,dropLast_append_of_ne_nil->aFl,sublist_cons_self->aFn,take_append_of_le_length->aFo,pairwise_map->aFq,range'_succ->aFs,filterMap_cons->aFx,getElem?_zip_eq_some->aFB,length_erase_of_mem->aFE,drop_eq_nil_of_le->aFL,mem_erase_of_ne->aFV,drop_append_of_le_length->aFZ,append_toArray->aF1,append_eq_append_iff->aGe,map_set->aGg,any_map->aGh,append_cancel_right->aGi,length_set->aGo,drop_of_length_le->aGt,length_pos_of_mem->aGu,drop_zero->aGz,mapM_cons->aGA,dropLast_sublist->aGC,getElem?_append->aGG,set_cons_zero->aGO,Sublist->aGP,append_of_mem->aGR,length->Y
open Option.some renaming injEq->aDh
open Nat renaming le_refl->aDm,zero_add->aDM,le_trans->aDY,zero_le->aD0,add_zero->aEA,testBit_or->aEL,le_of_eq->aEV,strongRecOn->aE4,lt_succ_self->aFb,lt_of_lt_of_le->aFh,testBit_shiftLeft->aFP
open Option renaming map_some->aDn,isSome_iff_exists->aDw,getD_some->aDS,bind_some->aFt,getD_none->aFN,isNone_iff_eq_none->aGd,some->U,none->Z
open Array renaming getElem?_eq_some_iff->aDD,ext'->aEe,toList_map->aEh,getElem?_setIfInBounds_ne->aEU,getElem?_setIfInBounds_self_of_lt->aFv,getElem?_eq_getElem->aFz,replicate->aFW,getElem?_append_left->aF9,mapM_eq_mapM_toList->aGc,mem_filter->aG0
open List.Pairwise renaming nil->aD6
open Int renaming toNat_natCast->aEa
open List.cons renaming injEq->aEg
open Prod.mk renaming injEq->aEX
open List.Sublist renaming append->aFw,refl->aFI
open Go.IntKind renaming i64->I
namespace Go.Proofs.YtieaiocljdpebaaGreatDoor.Y
open Go.RowKit
noncomputable section
variable{M:TypeId}{h:ai}{X:Nat}{l:Bool}{N:ac}{v:aj}{e:World}{R:S}{t:OM}{x:SV}{b:bT}{r:Oper}
section
variable{c:aj}{d:World}{D:bR}{P:Program}{f:bB}{V:aj}{O:ac}{s:S}{a:Act}{W:World}
def ahl{X:Type}(l:List X)(x y:X):(l++[x]).set (Y l) y=l++[y]:=by
 induction l with
 |nil=>rfl
 |cons z Q R=>simp[R]
def az.xp(R:az c d D f.ty V O s a W)(N:s.bd=J){t:TypeId}{X:ai}(C:SV.db s.ni s.nb (Y s.rs) (aM s.boxes) X=J):
  az c d D f.ty (V++[W.heap.size]) O (s.xp (t,X)) a (W.alloc (kC t (SV.cN O V X)))/\bG s O V (s.xp (t,X)) O (V++[W.heap.size]):=by
 obtain⟨B,o⟩:=R.room 1;have m:(s.room 1).boxes.length=Y s.boxes+1:=by simp[S.room]
 have A:eU (s.room 1).boxes (Y s.boxes)=true:=by simp[eU,S.room]
 have bJ:(s.room 1).dV X=true:=by
  simp only[S.dV,S.bd,aDc] at N⊢;have M:aM (s.room 1).boxes=aM s.boxes:=by
   funext i;simp only[aM,cK,S.room,aFk];by_cases Q:i<Y s.boxes;rw[aDg Q];rw[aDk (by omega),aDy (l:=s.boxes) (by omega)];cases z:i-Y s.boxes with
   |zero=>rfl
   |succ n=>rfl
  have y:∀L,SV.oZ s.ni s.nb (Y s.rs) L (s.boxes++[Z])=SV.oZ s.ni s.nb (Y s.rs) L s.boxes:=by
   intro L;generalize s.boxes=l;induction l with
   |nil=>rfl
   |cons x j w=>cases x<;>simp[SV.oZ,w]
  refine⟨⟨?_, ?_⟩,by rw[M];exact C⟩;rw[M];exact N.1;rw[M];simp only[S.room,aFk];rw[y];exact N.2
 have G:=B.alloc A t X bJ;have v:(V++aDq 1 0).set (Y s.boxes) W.heap.size=V++[W.heap.size]:=by
  rw[<-R.fp,aFk];exact ahl _ _ _
 have u:SV.cN O (V++aDq 1 0) X=SV.cN O V X:=by
  apply agz;funext k;simp only[ad,aDf,aFk];by_cases h:k<Y V;rw[aDg h];rw[aDk (by omega),aDy (l:=V) (by omega)];cases z:k-Y V with
  |zero=>rfl
  |succ n=>rfl
 rw[v,u] at G;have r:({((s.room 1).cq (Y s.boxes) t X) with lk:=s.lk}:S)=s.xp (t,X):=by
  simp only[S.cq,S.room,S.xp,aFk,ahl]
 have F:=G.lk s.lk;rw[r] at F;refine⟨F,⟨⟨gI.refl _ _ _ _,aDm _,aDm _,aDm _,λk q=> ?_⟩,λi Q=> ?_,by simp[S.xp],aDm _⟩⟩;have:k<Y V:=by
  obtain⟨b,H⟩:=aDw.1 q;rw[R.fp];exact(aDd.1 (i5.1 H)).1
 simp[ad,aDg this];obtain⟨b,H⟩:=aDw.1 Q;have p:=(aDd.1 (i5.1 H)).1;simp only[aM,cK,S.xp,aDg p] at Q⊢;exact Q
def az.ahm(R:az c d D f.ty V O s a W){i:Nat}{Q:TypeId}{z cs':ai}(N:bX s.boxes i=U (Q,z)):
  az c d D f.ty V O (s.cq i Q cs') a (W.putObj (ad V i) (kC Q (SV.cN O V cs'))):=by
 have y:=R.mem.box i Q z N;have u:ad V i<W.heap.size:=zG y;have x:i<Y s.boxes:=(aDd.1 (i5.1 N)).1;have L:aM s.boxes i=true:=by simp[aM,N]
 have H:∀j,aM (s.boxes.set i (U (Q,cs'))) j=J->aM s.boxes j=true:=λj X=>by
  rcases(nM x).1 X with rfl|h;exact L;exact h
 have G:∀b,b≠ad V i->(W.putObj (ad V i) (kC Q (SV.cN O V cs'))).heap[b]?=W.heap[b]?:=λb h=>World.putObj_heap_other h
 refine⟨⟨⟨R.mem.base.os,R.mem.base.tape,R.mem.base.output,by simpa[World.putObj] using R.mem.base.size,λk F w=> ?_⟩,λj X=>R.mem.own j (H j X),λj k X F=>R.mem.inj j k (H j X) (H k F),λj M r X=> ?_,λk e C q p=> ?_⟩,by simpa[S.cq] using R.fp,R.ei,R.eb,R.er,R.cP.ar4 (λb o B n=> ?_),R.size,R.tmps,λk e C b m l g=> ?_⟩;have ab:k≠ad V i:=by
  rintro rfl;rcases R.mem.own i L with h|h;omega;exact w h
 rw[G k ab];exact R.mem.base.block k F w;by_cases A:j=i;subst A;rw[S.cq,FO x] at X;simp only[aDh,aEX] at X;obtain⟨rfl,rfl⟩:=X;exact World.putObj_heap_same u;rw[S.cq,xE A] at X;rw[G _ (λh=>A (R.mem.inj j i (by simp[aM,X]) L h))];exact R.mem.box j M r X;obtain⟨af,v⟩:=R.mem.ref k e C q p;exact⟨af.Iy (λb N=>G b (λh=>v b N i L h.symm)) (by simp[World.putObj]),λb N j X=>v b N j (H j X)⟩;rw[G b (λe=>by subst e;rw[y] at B;cases B;exact ag1 n _ _ rfl)];exact B;have t:=R.dJ k e C b m l g;have M:=t.world (W':=W.putObj (ad V i) (kC Q (SV.cN O V cs'))) (G b (λh=>t.box i L h.symm));exact⟨M.own,M.mem,λj X=>M.box j (H j X),M.alone,M.inner⟩
def az.YK(R:az c d D f.ty V O s a W){i:Nat}{cs':ai}(X:bX s.boxes i=U (M,h))(_:∀Q N L,kC M (SV.cN O V h)≠ .cells Q N L):
  az c d D f.ty V O (s.cq i M cs') a (W.putObj (ad V i) (kC M (SV.cN O V cs'))):=R.ahm X
def xI(L:bh)(X:Value×Value):qJ->qJ
 |[]=>[X]
 |p::r=>if vL p.1=L then X::r else p::xI L X r
def ahn:∀{l:qJ}{m:Nat}{p:Value×Value},fe m (l++[p])=fe m l++[⟨p.1,p.2,m+Y l⟩]
 |[],m,p=>by simp[fe]
 |x::r,m,p=>by
  simp only[aDi,fe,ahn (l:=r) (m:=m+1) (p:=p)];simp;omega
def aho{L:bh}{kv:Value×Value}:∀{l:qJ}{m i:Nat},
  (mJ L (fe m l) i=Z/\xI L kv l=l++[kv])\/∃j v p,mJ L (fe m l) i=U (i+j,v)/\(fe m l)[j]?=U ⟨p.1,p.2,m+j⟩/\p∈l/\vL p.1=L/\(xI L kv l).length=Y l/\fe m (xI L kv l)=(fe m l).modify j λe=>{e with key:=kv.1,val:=kv.2}
 |[],m,i=>.inl ⟨rfl,rfl⟩
 |p::r,m,i=>by
  simp only[fe,mJ,xI];by_cases h:vL p.1=L;right;rw[if_pos h,if_pos h];exact⟨0,p.2,p,rfl,rfl,by simp,h,by simp,by simp[fe]⟩;rw[if_neg h,if_neg h];rcases aho (l:=r) (m:=m+1) (i:=i+1) with⟨X,R⟩|⟨j,v,Q,X,R,N,M,H,G⟩;exact .inl ⟨X,by rw[R];rfl⟩;refine .inr ⟨j+1,v,Q,by rw[X];congr 2;omega,by simp only[aDO,R];congr 2;omega,by simp[N],M,by simp[H], ?_⟩;simp only[fe,G,List.modify_succ_cons]
def asp(Q:Bool)(l:bh):Instr.sameBits 10000 (fC Q l) (fC Q l)=true:=by
 cases Q;simp[fC,Instr.sameBits];show Instr.sameBits (9999+1) (.agg _) (.agg _)=J;simp only[Instr.sameBits,beq_self_eq_true,aE8,aDr];intro p L;have:p.1=p.2/\∃x,p.1=.int I x:=by
  have H:∀(m:eJ)(q:Value×Value),q∈m.zip m->q.1=q.2/\q.1∈m:=by
   intro m;induction m with
   |nil=>intro q X;cases X
   |cons y F M=>
    intro q X;simp only[aFj,aDp] at X;rcases X with rfl|X;exact⟨rfl,by simp⟩;exact⟨(M q X).1,by simp[(M q X).2]⟩
  obtain⟨N,R⟩:=H _ p L;simp only[aDF] at R;obtain⟨x,-,G⟩:=R;exact⟨N,x,G.symm⟩
 obtain⟨N,x,R⟩:=this;rw[<-N,R];simp[Instr.sameBits]
def ahp{k e:TypeId}(q:P.underlying M=U (.map k e))(C:sq P k X l){b:Nat}{R:qJ}(B:W.heap[b]?=U (ov R)){L:bh}(h:Y L=X)
  (A:∀p∈R,∃Q:bh,Y Q=X/\p.1=fC l Q)(v:Value):
  (Instr.mapUpdate M (.map (U b)) (fC l L) v).run P W=.ok () (W.putObj b (ov (xI L (fC l L,v) R))):=by
 have g:∀x∈fe 0 R,∃Q:bh,Y Q=X/\x.key=fC l Q:=λx f=>by
  obtain⟨p,N,H⟩:=Ym f;obtain⟨Q,F,G⟩:=A p N;exact⟨Q,F,H.trans G⟩
 obtain⟨d,c⟩:=C.2 L (fe 0 R) W h g;have hg:=MapKept.run_getObj_map (P:=P) (w:=W) B;have z:=λo=>MapKept.run_setObj_map (P:=P) (w:=W) o B
 simp only[Instr.mapUpdate,Sem.run_bind,dQ.f9 q,Result.andThen_ok,hg,d,c];rcases aho (L:=L) (kv:=(fC l L,v)) (l:=R) (m:=0) (i:=0) with⟨N,H⟩|⟨j,u,p,N,H,F,G,h5,h6⟩;rw[N,H];simp only[z,World.putObj,ov,ahn];simp;rw[N];obtain⟨Q,q1,y⟩:=A p F;have hl:Q=L:=by
  rw[y,Yk (λe=>q1.trans (C.1 e))] at G;exact G
 subst hl;have r:(((fe 0 R).toArray[0+j]?).map (·.key)).getD (fC l Q)=fC l Q:=by
  simp[H,y]
 simp only[aDM] at r⊢;simp only[r,Instr.keyThatStays,asp,if_true,Sem.run_pure,Result.andThen_ok,Sem.run_bind,z,World.putObj,ov,h6,h5];simp
end
def ss(O:ac)(X:Fx):Prop:=∀x∈X,x.1.den O=x.2
def Qy{Q:Fx}(h:ss N Q){b:BE}(X:LP Q b=U l):b.den N=l:=by
 unfold LP at X;split at X;cases X;simp[BE.den];cases R:Q.find? (λx=>x.1.same b) with
 |none=>rw[R] at X;cases X
 |some x=>
  rw[R] at X;cases X;have M:=aFi R;rw[<-BE.bL _ _ M];exact h x (aEF R)
def ahq{R:Fx}(h:ss N R){b:BE}(Q:b.den N=l):ss N ((b,l)::R):=by
 intro x X;rcases aDp.1 X with rfl|X;exact Q;exact h x X
def FV{D:bR}{H:Ty}{a:Act}{W:World}{Q:ac}{V:aj}{M:Fx}(X:az v e D H V N R a W)(G:gI N Q (Y N.i) (Y N.b) (Y N.r))(h:ss N M):ss Q (nF R M):=by
 intro x F;obtain⟨C,L⟩:=aD1.1 F;rw[<-X.ei,<-X.eb,<-X.er] at L;rw[BE.dj G _ L];exact h x C
section
variable{f:bB}
def az.drew{g:aj}{w:World}{D:bR}{V:aj}{O:ac}{s:S}{a:Act}{W:World}(R:az g w D f.ty V O s a W):az g w D f.ty V O s a {W with drawn:=W.drawn+1}:=
 ⟨⟨R.mem.base.drew,R.mem.own,R.mem.inj,R.mem.box,λk e X Q N=>⟨(R.mem.ref k e X Q N).1.Iy (λ_ _=>rfl) (aDm _),(R.mem.ref k e X Q N).2⟩⟩,R.fp,R.ei,R.eb,R.er,R.cP.world (λ_ _ h _=>h),R.size,R.tmps,λk e X b Q N M=>(R.dJ k e X b Q N M).world rfl⟩
end
section
variable{g:aj}{w:World}{D:bR}{P:Program}{f:bB}{V:aj}{O:ac}{s:S}{a:Act}{W:World}
def az.ahr(R:az g w D f.ty V O s a W)(N:s.bd=J)(j:Int):az g w D f.ty V (O.add (.i j)) {s with ni:=s.ni+1} a W:=by
 obtain⟨M,L⟩:=R.xD N;have Q:=pV s.boxes O (.i j) V;refine⟨⟨R.mem.base,R.mem.own,R.mem.inj,λi t H h=> ?_,R.mem.ref⟩,R.fp,by simp[ac.add,R.ei],R.eb,R.er,R.cP,R.size,λt G h=> ?_,λk e F b X C B=> ?_⟩;rw[Q.cN (qV L h)];exact R.mem.box i t H h;rcases R.tmps t G h with X|X;exact .inl X;right;rw[Q.den (uh M h)];exact X;have t:=R.dJ k e F b X C B;exact⟨t.own,t.mem,t.box,t.alone,t.inner⟩
def az.ahs(R:az g w D f.ty V O s a W)(M:s.bd=J){Q:Sh}{N:RV}(L:bz W f.ty (.mr Q) N):az g w D f.ty V (O.add (.r N)) {s with rs:=s.rs++[.mr Q]} a W:=
 R.add M L (λb X=>by cases X) (λk e F b _ _ _ X=>by
  rcases X with X|⟨⟨t,H⟩,_⟩;cases X;cases H) (λe b G=>by cases G)
def aht{M:Sh}{Q:am}(h:∀X∈Q,FM f.ty M X)(H:∀c∈bw f.ty (.mr M),lD c=J):bz W f.ty (.mr M) (.mk (.slice Z (Y Q) (Y Q)) Q):=by
 refine bz.mr M Q (λi X R=>(h X (aDx R)).len) (λi j X c k R L N=>(h X (aDx R)).int j c k L N) (λi j X c R L N=>(h X (aDx R)).bool j c L N) (λi j X c z k R L N=> ?_);have:=H _ (aDx N);simp[lD] at this
def YL{n:Nat}{X x:aF}:∀{R:am},x∈di n X R->x=X\/x∈R
 |[],h=>by simp[di] at h;exact .inl h
 |r::Q,h=>by
  simp only[di] at h;split at h;rcases aDp.1 h with h|h;exact .inl h;exact .inr (by simp[h]);rcases aDp.1 h with h|h;exact .inr (by simp[h]);rcases YL h with h|h;exact .inl h;exact .inr (by simp[h])
def ahu{n:Nat}{X:aF}:∀{rows:am},(∀r∈rows,iB n ((X.take n).map λc=>aO c.val) r=E)->di n X rows=rows++[X]
 |[],_=>rfl
 |r::R,h=>by
  simp only[di];rw[if_neg (by rw[h r (by simp)];simp),ahu (rows:=R) (λx Q=>h x (aEn _ Q))];rfl
def ahv{n:Nat}{X va:Bool}(Q:X=E->n=1){R:aF}(H:Dc n R){L:bh}(N:(R.take n).map (λc=>aO c.val)=L):∀{M:am},(∀r∈M,Dc n r)->
  xI L (ug n X va R) (M.map (ug n X va))=(di n R M).map (ug n X va)
 |[],_=>rfl
 |r::u,h=>by
  obtain⟨l,F,C,B⟩:=Mn (ag:=X) Q (h r (by simp));have t:Y L=n:=by
   obtain⟨q,A,z⟩:=H;rw[<-N,z];simpa using A
  have y:iB n L r=decide (l=L):=by
   simp only[iB,B];rw[aEp (by omega)]
  simp only[aDt,xI,di,N,y];have w:vL (ug n X va r).1=l:=by
   simp only[ug,C];exact Yk (λe=>F.trans (Q e))
  rw[w];by_cases G:l=L;simp[G];simp only[G,if_false,decide_false,aDB,aDt];rw[ahv Q H N λx v=>h x (by simp[v])]
def asq(t:TypeId):(Instr.makeMap t Z).run P W=.ok (.map (U W.heap.size)) (W.alloc (.map #[] 0)):=by
 simp[Instr.makeMap]
def asr(X:az g w D f.ty V O s a W)(C:t.o.op=.makeMap M Z)(h:PI f t.o.dst s M=U R):
  ∃v L H,qZ P t.o a W v L/\az g w D f.ty H O R (a.put t.o.dst v) L/\bG s O V R O H:=by
 unfold PI at h;split at h;rename_i k e n Q ae q x;split at h;rename_i N u;split at h;rename_i G;simp only[aDc] at G;cases h;have B:SV.db s.ni s.nb (Y s.rs) (aM s.boxes) (Fo N n Q).2=true:=by
  unfold Fo;split<;>simp[SV.gz,SV.ba,RE.ba,IE.ba,BE.ba]
 obtain⟨F,A⟩:=X.xp G.1 (t:=(Fo N n Q).1) B;have z:kC (Fo N n Q).1 (SV.cN O V (Fo N n Q).2)=.map #[] 0:=by
  unfold Fo;split;rw[Dd];simp[RE.rv,ov,fe];rw[De];simp[SV.aD,Bp,ov,fe]
 rw[z] at F;refine⟨.map (U W.heap.size),W.alloc (.map #[] 0),V++[W.heap.size],.inl ?_, ?_,A.put _ _⟩;simp[execOp,C,asq];have:=F.put t.o.dst (.mp (Y s.boxes));have y:ad (V++[W.heap.size]) (Y s.boxes)=W.heap.size:=by simp[ad,<-X.fp]
 rw[SV.den,y] at this;exact this;cases h;cases h;cases h
def Qz{k e:TypeId}{n:Nat}{R:Bool}{X:TI}{Q:ai}{r:RE}(h:Fp f s k e n R X Q=U r):
  Q=[.ref r,.int I (.c (n:Int)),.bool (.c R),.bool (.c X.d.isAgg)]/\r.oV f.ty s ⟨k,e,n,R,X.d.isAgg⟩=J/\X.ae.all lD=true:=by
 unfold Fp at h;split at h;split at h;rename_i N;simp only[aDc,beq_iff_eq] at N;cases h;obtain⟨⟨⟨⟨M,rfl⟩,rfl⟩,rfl⟩,L⟩:=N;exact⟨rfl,M,L⟩;cases h;cases h
def ahw{R y z:IE}(h:Ff X l x=U (R,y,z)):x.cells.map (SV.bN O)=([R.den O,y.den O,z.den O].take X).map λu=>.mk (.int I u) []:=by
 unfold Ff at h;split at h<;>first|(cases h;done)|(split at h<;>first|(cases h;done)|skip)
 all_goals
  rename_i Q;cases h;simp only[aDc,beq_iff_eq] at Q;obtain⟨rfl,-⟩:=Q;simp[SV.cells,SV.bN]
def YM:∀{ae:dN}{l:ai},ld f.ty s ae l=J->ae.all lD=J->Y l=Y ae/\(∀(j:Nat)(k:IntKind),ae[j]?=U (.int k)->∃x,(l.map (SV.bN O))[j]?=U (.mk (.int k x) []))/\(∀(j:Nat),ae[j]?=U .bool->∃x,(l.map (SV.bN O))[j]?=U (.mk (.bool x) []))/\(l.map (SV.bN O)).map RV.val=SV.aD O V l
 |[],[],_,_=>⟨rfl,λj k h=>by simp at h,λj h=>by simp at h,rfl⟩
 |[],_::_,h,_=>by simp[ld] at h
 |_::_,[],h,_=>by simp[ld] at h
 |c::ae,v::l,h,Q=>by
  simp only[ld,aDc] at h;simp only[aFf,aDc] at Q;obtain⟨M,L,H,G⟩:=YM (ae:=ae) (l:=l) h.2 Q.2;have R:=h.1;unfold qM at R;split at R;rename_i k F e;have:k=F:=of_decide_eq_true R;subst this;refine⟨by simp[M],λj N X=> ?_,λj X=> ?_,by simp[SV.aD,SV.bN,SV.den,G]⟩;cases j with
  |zero=>simp at X;subst X;exact⟨e.den O,rfl⟩
  |succ j=>simpa using L j N (by simpa using X)
  cases j with
  |zero=>simp at X
  |succ j=>simpa using H j (by simpa using X)
  rename_i b;refine⟨by simp[M],λj N X=> ?_,λj X=> ?_,by simp[SV.aD,SV.bN,SV.den,G]⟩;cases j with
  |zero=>simp at X
  |succ j=>simpa using L j N (by simpa using X)
  cases j with
  |zero=>exact⟨b.den O,rfl⟩
  |succ j=>simpa using H j (by simpa using X)
  simp[lD] at Q;cases R
def ast{e:TypeId}{L:TI}(o:qL f.ty M X l=J)(m:f.ty e=U L)(i:L.ae.all lD=J){v:SV}{R y z:IE}(F:Ff X l x=U (R,y,z))(h:ld f.ty s L.ae v.cells=J):
  FM f.ty ⟨M,e,X,l,L.d.isAgg⟩ ((x.cells++v.cells).map (SV.bN O)):=by
 obtain⟨g,C,B,A⟩:=Iu (va:=L.d.isAgg) o m;obtain⟨b,q2,q3,-⟩:=YM (O:=O) (V:=[]) h i;have ab:=(Yl (O:=O) (V:=[]) F).2;have w:=ahw (O:=O) F;have t:(x.cells.map (SV.bN O)).length=X:=by rw[w];simpa using ab
 have r:∀(j:Nat),((x.cells++v.cells).map (SV.bN O))[j]?=if j<X then(x.cells.map (SV.bN O))[j]? else(v.cells.map (SV.bN O))[j-X]?:=by
  intro j;rw[aE3,aGG,t]
 have q:∀(j:Nat),(bw f.ty (.mr ⟨M,e,X,l,L.d.isAgg⟩))[j]?=if j<X then g[j]? else L.ae[j-X]?:=by
  intro j;rw[C,aGG,B]
 refine⟨?_,λj c kk Q N=> ?_,λj c Q N=> ?_⟩;rw[C,aDV,aDs,aDs,B,b];simp at t;omega;rw[r] at Q;rw[q] at N;split at Q;rename_i H;rw[if_pos H] at N;have:=A _ (aDx N);cases this;rw[w,aDj] at Q;cases p:([R.den O,y.den O,z.den O].take X)[j]? with
 |none=>rw[p] at Q;cases Q
 |some u=>rw[p] at Q;cases Q;exact⟨u,rfl⟩
 rename_i H;rw[if_neg H] at N;obtain⟨u,G⟩:=q2 _ kk N;rw[G] at Q;cases Q;exact⟨u,rfl⟩;rw[r] at Q;rw[q] at N;split at Q;rename_i H;rw[if_pos H] at N;have:=A _ (aDx N);cases this;rename_i H;rw[if_neg H] at N;obtain⟨u,G⟩:=q3 _ N;rw[G] at Q;cases Q;exact⟨u,rfl⟩
def asu{e:TypeId}{R:Bool}{Q:TI}(L:qL f.ty M X l=J)(H:f.ty e=U Q)(G:Q.ae.all lD=J):∀c∈bw f.ty (.mr ⟨M,e,X,l,R⟩),lD c=true:=by
 obtain⟨B,F,A,C⟩:=Iu (va:=R) L H;intro c N;rw[F] at N;rcases aDo.1 N with h|h;rw[C c h];rfl;exact aDr.1 G c h
def asv(W:World)(b:Nat)(o:Obj):ChangeMaps.setBlock W b o=W.putObj b o:=rfl
def MR.asw(g:aj)(w:World)(D:bR)(R:Ty)(V:aj)(O:ac)(s:S)(a:Act)(Q:World):MR->Prop
 |.ok X=>az g w D R V O X a Q/\bG s O V X O V
 |.rows _ x X=>az g w D R V (O.add (.r (gf x O))) X a Q/\bG s O V X (O.add (.r (gf x O))) V
def QA(R:az g w D f.ty V O s a W)(an:gY P f.ty){N v:SV}{r:MR}(h:PH f b s M x N v=U r):
  ∃W',(Instr.mapUpdate M (x.den O V) (N.den O V) (v.den O V)).run P W=.ok () W'/\r.asw g w D f.ty V O s (a.put b undef) W':=by
 unfold PH at h;split at h;rename_i k e n L ae q i ht;have hd:P.underlying M=U (.map k e):=(an _ _ ht).desc;have m:sq P k n L:=(an _ _ ht).key k e n L rfl;split at h;rename_i H xa xb xc bt B A g2 g3;have bd:=an _ _ A;split at h;cases h;rename_i a3;simp only[aDE,aDv,not_or,aEM] at a3;obtain⟨⟨ab,bJ⟩,bf⟩:=a3;simp only[S.dV,aDc] at bJ;obtain⟨hb,bJ⟩:=bJ;obtain⟨a4,ap⟩:=Yl (O:=O) (V:=V) g2;have af:=R.mem.box i bt B g3;have bg:=Qh (O:=O) (V:=V) (ui R) bf;split at h;rename_i dR;simp only[beq_iff_eq] at dR;subst dR;split at h;rename_i G bk;split at h;rename_i a5;cases h;obtain⟨rfl,c1,c5⟩:=Qz bk;rw[Dd] at af;have a6:=FN R c1;have a7:∀F∈(G.rv O).rows,Dc n F:=λF z=>Iv ab A (a6 F z)
 have a0:=ahp (P:=P) hd m af ap (λp hp=>by
  obtain⟨F,z,rfl⟩:=aDF.1 hp;obtain⟨l,q1,q2,-⟩:=Mn m.1 (a7 F z);exact⟨l,q1,q2⟩) (v.den O V)
 have a1:=ast (O:=O) (s:=s) ab A c5 g2 a5;have a8:=ahw (O:=O) g2;have b6:(N.cells.map (SV.bN O)).length=n:=by rw[a8];simpa using ap
 have bl:((N.cells++v.cells).map (SV.bN O)).take n=N.cells.map (SV.bN O):=by
  rw[aE3,aFo (by omega),aEp (by omega)]
 have bo:((N.cells++v.cells).map (SV.bN O)).drop n=v.cells.map (SV.bN O):=by
  rw[aE3,aFZ (by omega),aGt (by omega)];rfl
 have hL:(((N.cells++v.cells).map (SV.bN O)).take n).map (λc=>aO c.val)=[xa.den O,xb.den O,xc.den O].take n:=by
  rw[bl,a8];simp[aO]
 obtain⟨f1,-,-,f4⟩:=YM (O:=O) (V:=V) a5 c5;have br:ug n L H.d.isAgg ((N.cells++v.cells).map (SV.bN O))=(fC L ([xa.den O,xb.den O,xc.den O].take n),v.den O V):=by
  obtain⟨l,q1,q2,q3⟩:=Mn (ag:=L) m.1 (Iv ab A a1);have hl:l=[xa.den O,xb.den O,xc.den O].take n:=by rw[<-q3,hL]
  have bs:pe H.d.isAgg (v.cells.map (SV.bN O))=v.den O V:=by
   rw[bg,pe,f4];cases ha:H.d.isAgg;have bx:Y v.cells=1:=by rw[f1];exact zF bd ha
   obtain⟨u,hu⟩:=aDJ.1 bx;simp only[aDB,if_false];rw[<-f4,hu];rfl;rfl
  simp only[ug,q2,hl,bo,bs]
 have al:=ahv (va:=H.d.isAgg) m.1 (Iv ab A a1) hL a7;rw[br] at al;have hh:bz W f.ty (.mr ⟨k,e,n,L,H.d.isAgg⟩) (gf (.ins (.ref G) n (N.cells++v.cells)) O):=by
  refine aht (λF a9=> ?_) (asu ab A c5);simp only[LE.rows] at a9;rcases YL a9 with rfl|h;exact a1;exact a6 F h
 have R1:=R.ahs hb hh;have a2:∀cc tt ff,kC tX (SV.cN (O.add (.r (gf (.ins (.ref G) n (N.cells++v.cells)) O))) V [.ref G,.int I (.c (n:Int)),.bool (.c L),.bool (.c H.d.isAgg)])≠ .cells cc tt ff:=by
  intro cc tt ff hx;rw[Dd] at hx;cases hx
 have R2:=R1.YK (cs':=[.ref (.v (Y s.rs)),.int I (.c (n:Int)),.bool (.c L),.bool (.c H.d.isAgg)]) (i:=i) g3 a2;have b0:(RE.v (Y s.rs)).rv (O.add (.r (gf (.ins (.ref G) n (N.cells++v.cells)) O)))=gf (.ins (.ref G) n (N.cells++v.cells)) O:=by
  simp[RE.rv,ac.rv,ac.add,<-R.er]
 rw[Dd,b0] at R2;refine⟨W.putObj (ad V i) (ov ((gf (.ins (.ref G) n (N.cells++v.cells)) O).rows.map (ug n L H.d.isAgg))), ?_, ?_, ?_⟩;simp only[SV.den,a4];rw[a0,al];rfl;have:=R2.put b (.bK []);exact this;exact bG.put (s:=s) (s':={s with rs:=s.rs++[RK.mr ⟨k,e,n,L,H.d.isAgg⟩],boxes:=s.boxes.set i (U (tX,[.ref (.v (Y s.rs)),.int I (.c n),.bool (.c L),.bool (.c H.d.isAgg)]))}) ⟨pV _ _ _ _,λj hj=>(nM (aDd.1 (i5.1 g3)).1).2 (.inr hj),by simp,aDm _⟩ b _;cases h;cases h;split at h;rename_i dR;simp only[aDc,beq_iff_eq,aDv] at dR;obtain⟨⟨rfl,rfl⟩,rfl⟩:=dR;split at h;rename_i X Q bb;split at h;cases h;rename_i b1;cases h;rw[De] at af;obtain⟨p1,p2⟩:=Iw (O:=O) (V:=V) bb;rw[p1] at af;have a0:=ahp (P:=P) hd m af ap (λp hp=>by
  obtain⟨u,hu,rfl⟩:=aDF.1 hp;exact⟨[u.1],rfl,rfl⟩) (v.den O V)
 have al:∀(Q:bh)(o:ai),¬Q.contains X=J->Y Q=Y o->xI [X] (fC E [X],v.den O V) ((Q.zip o).map λp=>(.int I p.1,p.2.den O V))=((Q.zip o).map λp=>(.int I p.1,p.2.den O V))++[(.int I X,v.den O V)]:=by
  intro Q;induction Q with
  |nil=>intro o _ _;simp[xI,fC]
  |cons y ys ih=>
   intro o hc hl;cases o with
   |nil=>simp at hl
   |cons u us=>
    have b2:¬y=X:=by
     intro e;subst e;simp at hc
    have b3:¬ys.contains X=true:=by
     intro e;simp at e hc;exact hc.2 e
    have:=ih us b3 (by simpa using hl);simp only[aFj,aDt,xI,vL,aEg,and_true,b2,if_false,this,aDi]
 have a2:∀cc tt ff,kC rX (SV.cN O V B)≠ .cells cc tt ff:=by
  intro cc tt ff hx;rw[De] at hx;cases hx
 have R2:=R.YK (cs':=B++[.int I (.c X),v]) g3 a2;have b4:∀(l:ai)(Q:bh),oX l=U Q->Bp (SV.aD O V (l++[.int I (.c X),v]))=Bp (SV.aD O V l)++[(.int I X,v.den O V)]:=by
  intro l;induction l using oX.induct with
  |case1=>intro Q _;rfl
  |case2 k u r ih=>
   intro Q C;simp only[oX] at C;cases z:oX r with
   |none=>rw[z] at C;cases C
   |some b5=>
    have:=ih b5 z;simp only[aDi,SV.aD,Bp] at this⊢;rw[this]
  |case3 l h1 h2=>intro Q C;unfold oX at C;split at C<;>first|(exact absurd rfl h1)|(exact absurd rfl (h2 _ _ _))|cases C
 rw[De,b4 B Q bb,p1] at R2;refine⟨W.putObj (ad V i) (ov ((Q.zip (kX B)).map (λp=>(Value.int I p.1,p.2.den O V))++[(Value.int I X,v.den O V)])), ?_,R2.put b (.bK []), ?_⟩;simp only[SV.den,a4];rw[a0];have:[(IE.c X).den O,xb.den O,xc.den O].take 1=[X]:=rfl;rw[this,al Q _ b1 p2];exact bG.put (s:=s) (s':=s.cq i rX (B++[.int I (.c X),v])) ⟨mb.refl _ _ _,λj hj=>(nM (aDd.1 (i5.1 g3)).1).2 (.inr hj),by simp[S.cq],aDm _⟩ b _;cases h;cases h;cases h;cases h
end
section
variable{g:aj}{B:World}{D:bR}{P:Program}{f:bB}{V:aj}{O:ac}{s:S}{a:Act}{W:World}
def YN{X:Ty}{s:S}{n:Nat}:∀r:RE,r.kind X {s with ni:=n}=r.kind X s
 |.v k=>rfl
 |.cell r i j k=>by simp only[RE.kind,YN r]
 |.k v=>by cases v<;>rfl
def IM(R:az g B D f.ty V O s a W){Q:Sh}{r:RE}(h:r.oV f.ty s Q=J):lenOf (r.rv O).val=(r.rv O).rows.length:=by
 unfold RE.oV at h;rcases aF0.1 h with h|h;have X:=pU R (by simp) (of_decide_eq_true h);generalize r.rv O=N at X;cases X;rfl;unfold RE.nil at h;split at h;simp[RE.rv,lenOf];cases h
def asx(R:az g B D f.ty V O s a W){e:TypeId}{F:TI}{i:Nat}{c:IE}(h:XK f s M e X l F i=U c):∃Q,W.heap[ad V i]?=U (ov Q)/\(Y Q:Int)=c.den O:=by
 unfold XK at h;split at h;rename_i C L A;have N:=R.mem.box i C L A;split at h;rename_i dR;simp only[beq_iff_eq] at dR;subst dR;cases H:Fp f s M e X l F L with
 |none=>rw[H] at h;cases h
 |some r=>
  rw[H] at h;cases h;obtain⟨rfl,z,w⟩:=Qz H;rw[Dd] at N;exact⟨_,N,by simp[IE.den,IM R z]⟩
 split at h;rename_i dR;simp only[aDc,beq_iff_eq,aDv] at dR;obtain⟨⟨rfl,rfl⟩,rfl⟩:=dR;cases G:oX L with
 |none=>rw[G] at h;cases h
 |some v=>
  rw[G] at h;cases h;rw[De] at N;obtain⟨y,x⟩:=Iw (O:=O) (V:=V) G;rw[y] at N;exact⟨_,N,by simp[IE.den,x]⟩
 cases h;cases h
def Mz{t:Int}{c:IE}{R:RE}:kC vw (SV.cN O V [.mp X,.int I (.c t),.int I c,.ref R])=.mapIter (U (ad V X)) (c.den O).toNat ((R.rv O).rows.map nK).toArray (c.den O).toNat:=by
 simp[kC,vw,tX,rX,SV.cN,SV.f8,SV.den,agv]
def asy(X:az g B D f.ty V O s a W)(G:gY P f.ty){x:Operand}(F:t.o.op=.range M x)(C:a.eval x=(s.ev f.gl x).den O V)(h:PJ f t.o.dst s M (s.ev f.gl x)=U R):
  ∃v Q N,qZ P t.o a W v Q/\az g B D f.ty N O R (a.put t.o.dst v) Q/\bG s O V R O N:=by
 unfold PJ at h;split at h;rename_i k e n ag ae q i A z;have y:P.underlying M=U (.map k e):=(G _ _ A).desc;split at h;rename_i te af;split at h;rename_i c w;split at h;rename_i L;simp only[aDc] at L;obtain⟨⟨u,r⟩,p⟩:=L;cases h;obtain⟨l,j,d⟩:=asx X w;have b:SV.db s.ni s.nb (Y s.rs) (aM s.boxes) [.mp i,.int I (.c (M:Int)),.int I c,.ref (.k (.slice Z 0 0))]=true:=by
  simp[SV.gz,SV.ba,RE.ba,IE.ba,p,r]
 obtain⟨H,L1⟩:=X.xp u (t:=vw) b;rw[Mz,<-d] at H;have ab:=run_range_map (P:=P) W M k e (ad V i) _ _ y j;refine⟨.pointer (U ⟨W.heap.size,0,Z⟩),W.alloc (.mapIter (U (ad V i)) (Y l) #[] (Y l)),V++[W.heap.size],.inl ?_, ?_,L1.put _ _⟩;simp only[execOp,F,C,z,SV.den,Sem.run_bind,ab,Result.andThen_ok,Sem.run_pure];have:=H.put t.o.dst (.loc (Y s.boxes) 0);have ha:ad (V++[W.heap.size]) (Y s.boxes)=W.heap.size:=by simp[ad,<-X.fp]
 rw[SV.den,ha] at this;simpa[RE.rv] using this;cases h;cases h;cases h;cases h
def YO:∀{l:qJ}{m:Nat}{e:MapEntry},e∈fe m l->∃(j:Nat)(p:Value×Value),l[j]?=U p/\e=⟨p.1,p.2,m+j⟩
 |[],m,e,h=>by simp[fe] at h
 |x::r,m,e,h=>by
  simp only[fe,aDp] at h;rcases h with rfl|h;exact⟨0,x,rfl,rfl⟩;obtain⟨j,p,X,R⟩:=YO h;exact⟨j+1,p,by simpa using X,by rw[R];congr 1;omega⟩
def YP:∀{l:qJ}{m j:Nat}{p:Value×Value},l[j]?=U p->(⟨p.1,p.2,m+j⟩:MapEntry)∈fe m l
 |[],m,j,p,h=>by simp at h
 |x::r,m,0,p,h=>by simp at h;subst h;simp[fe]
 |x::r,m,j+1,p,h=>by
  have:=YP (m:=m+1) (l:=r) (j:=j) (p:=p) (by simpa using h);simp only[fe,aDp];right
  rwa [show m+(j+1)=m+1+j by omega]
def ahx:∀(n:Nat)(l:aj),(∀j,j<n->j∈l)->n<=Y l
 |0,_,_=>aD0 _
 |n+1,l,h=>by
  have X:=h n (by omega);have:=ahx n (l.erase n) (λj R=>(aFV (by omega)).2 (h j (by omega)));rw[aFE X] at this;have:0<Y l:=aGu X;omega
def IN(R:Fq f=J):bw f.ty (.mr (vE f))=[.int I]:=by
 simp only[Fq,aDc,aGd] at R;obtain⟨X,N⟩:=R;unfold qL at X;split at X;rename_i tk M;simp only[aDc,beq_iff_eq] at X;obtain⟨c,Q⟩:=aDJ.1 X.1.1;have:=X.1.2;rw[Q] at this;simp only[aFf,List.all_nil,aFg] at this;unfold XD at this;split at this;simp[bw,vE,M,N,Q];cases this;cases X
def YQ(X:Fq f=J){R:aF}(h:FM f.ty (vE f) R):∃x,R=[.mk (.int I x) []]:=by
 have Q:=h.len;rw[IN X] at Q;obtain⟨c,rfl⟩:=aDJ.1 Q;obtain⟨x,N⟩:=h.int 0 c I rfl (by rw[IN X];rfl);exact⟨x,by rw[N]⟩
def asz(Q:Fq f=J)(x:Int):FM f.ty (vE f) [.mk (.int I x) []]:=by
 refine⟨by rw[IN Q];rfl,λj c k R X=> ?_,λj c R X=> ?_⟩;rw[IN Q] at X;cases j with
 |zero=>simp at R X;subst R X;exact⟨x,rfl⟩
 |succ j=>simp at R
 rw[IN Q] at X;cases j with
 |zero=>simp at X
 |succ j=>simp at R
def QB{r:RE}{B:IE}{R:aF}(L:(r.rv O).rows[(B.den O).toNat]?=U R):∀{ae:dN}{j:Nat},ae.all lD=J->Y R=j+Y ae->
  (∀(i:Nat)(k:IntKind),ae[i]?=U (.int k)->∃m,R[j+i]?=U (.mk (.int k m) []))->(∀(i:Nat),ae[i]?=U .bool->∃m,R[j+i]?=U (.mk (.bool m) []))->
  SV.aD O V (sc r B j ae)=(R.drop j).map RV.val
 |[],j,_,Q,_,_=>by rw[aFL (by simp at Q;omega)];rfl
 |.int k::ae,j,N,Q,H,G=>by
  obtain⟨m,X⟩:=H 0 k rfl;have F:=QB L (ae:=ae) (j:=j+1) (by simpa[lD] using N) (by simp at Q⊢;omega) (λi k h=>by have:=H (i+1) k (by simpa using h);rwa [show j+(i+1)=j+1+i by omega] at this) (λi h=>by have:=G (i+1) (by simpa using h);rwa [show j+(i+1)=j+1+i by omega] at this);have C:R.drop j=.mk (.int k m) []::R.drop (j+1):=by
   rw[aEA] at X;have M:=(aDd.1 X).1;rw[aEf M];congr 1;rw[aDe M] at X;simpa using X
  rw[aEA] at X;simp only[sc,CW,SV.aD,SV.den,IE.den,cellAt,F,C,aDt,RV.lg,aDf,L,X,aDS,aO]
 |.bool::ae,j,N,Q,H,G=>by
  obtain⟨m,X⟩:=G 0 rfl;have F:=QB L (ae:=ae) (j:=j+1) (by simpa[lD] using N) (by simp at Q⊢;omega) (λi k h=>by have:=H (i+1) k (by simpa using h);rwa [show j+(i+1)=j+1+i by omega] at this) (λi h=>by have:=G (i+1) (by simpa using h);rwa [show j+(i+1)=j+1+i by omega] at this);have C:R.drop j=.mk (.bool m) []::R.drop (j+1):=by
   rw[aEA] at X;have M:=(aDd.1 X).1;rw[aEf M];congr 1;rw[aDe M] at X;simpa using X
  rw[aEA] at X;simp only[sc,CW,SV.aD,SV.den,BE.den,cellAt,F,C,aDt,RV.lg,aDf,L,X,aDS,fm]
 |.aH _ _::ae,j,N,_,_,_=>by simp[lD] at N
def YR{r:RE}{X:IE}:∀{ae:dN}{j:Nat},(sc r X j ae).length=Y ae
 |[],j=>rfl
 |c::ae,j=>by simp[sc,YR (ae:=ae)]
def ahy{r:RE}{M:IE}{Q:aF}(F:(r.rv O).rows[(M.den O).toNat]?=U Q)(L:l=E->X=1)(C:Dc X Q):(HZ r M X l).den O V=pe l (Q.take X):=by
 obtain⟨R,B,H⟩:=C;have A:(Q.take X).length=X:=by rw[H];simpa using B
 have z:SV.aD O V ((aDA X).map λj=>.int I (.cell r M j))=(Q.take X).map RV.val:=by
  rw[nJ,aD7];apply aDG;intro j;rw[aDj,aDj];by_cases G:j<X;rw[aEt G];have y:j<Y R:=by omega
  have N:(Q.take X)[j]?=U (.mk (.int I R[j]) []):=by rw[H,aDj,aDe y];rfl
  have x:Q[j]?=U (.mk (.int I R[j]) []):=by rw[aDK,if_pos G] at N;exact N
  simp[N,SV.den,IE.den,cellAt,F,x,aO];rw[aDy (by simp;omega),aDy (by omega)];rfl
 rw[HZ,Bt (λw=>by simpa using L w),z,pe];cases l;obtain⟨c,N⟩:=aDJ.1 (A.trans (L rfl));rw[N];rfl;rfl
def asA{rs:RE}{je:IE}{j:Int}(N:je.den O=j)(h:∀R∈(rs.rv O).rows,∀x,R=[.mk (.int I x) []]->x≠j)(Q:∀R∈(rs.rv O).rows,∃x,R=[RV.mk (.int I x) []]):(PK rs je).den O=J/\∀r∈(rs.rv O).rows,iB 1 [j] r=false:=by
 have M:∀r∈(rs.rv O).rows,∀b c,iB 1 [j,b,c] r=false:=by
  intro r X b c;obtain⟨x,rfl⟩:=Q r X;have:=h _ X x rfl;simp[iB,aO,this]
 constructor;simp only[PK,BE.den,N,IE.den,aDv,fJ];rw[List.find?_eq_none.2 (λr X=>by simp[M r X])];rfl;intro r X;obtain⟨x,rfl⟩:=Q r X;have:=h _ X x rfl;simp[iB,aO,this]
def ahz(G:Fq f=J)(R:az g B D f.ty V O s a W)(A:s.bd=J){d:bT}{i t:Nat}{c:IE}{Q:RE}(z:bX s.boxes X=U (vw,[.mp i,.int I (.c (t:Int)),.int I c,.ref Q]))(bI:Q.oV f.ty s (vE f)=J)
  {N:IE}{j:Nat}(y:N.den O=j)(k:¬((Q.rv O).rows.map nK).contains j=J){kv v:SV}{key val:Value}
  (b:∀F,kv.den (O.add (.r F)) V=key)(hv:∀F,v.den (O.add (.r F)) V=val):
  (PK Q N).den O=J/\az g B D f.ty V (O.add (.r (gf (.ins (.ref Q) 1 [.int I N]) O))) (XL f d s X s.ni i t c kv v) (a.put d (.tuple #[.bool J,key,val])) (W.putObj (ad V X) (.mapIter (U (ad V i)) (c.den O).toNat (((Q.rv O).rows.map nK).toArray.push j) (c.den O).toNat)):=by
 have w:=FN R bI;have ht:∀L∈(Q.rv O).rows,∃x,L=[RV.mk (.int I x) []]:=λL H=>YQ G (w L H)
 obtain⟨u1,u2⟩:=asA (O:=O) (rs:=Q) (je:=N) y (λL H x M=>by
  intro e;apply k;simp only[aDN,aDF];refine⟨L,H, ?_⟩;subst M;simp[nK,aO,e]) ht
 refine⟨u1, ?_⟩;have hh:bz W f.ty (.mr (vE f)) (gf (.ins (.ref Q) 1 [.int I N]) O):=by
  refine aht (λL u=> ?_) (λx M=>by rw[IN G] at M;simp at M;subst M;rfl);simp only[LE.rows,aDt,aEK,SV.bN] at u;rcases YL u with rfl|h;exact asz G _;exact w L h
 have ab:(gf (.ins (.ref Q) 1 [.int I N]) O).rows=(Q.rv O).rows++[[.mk (.int I j) []]]:=by
  simp only[gf,RV.lj,LE.rows,aDt,aEK,SV.bN,y];refine ahu λr H=> ?_
  simpa[aO] using u2 r H
 have R1:=R.ahs A hh;have af:∀p o n,kC vw (SV.cN (O.add (.r (gf (.ins (.ref Q) 1 [.int I N]) O))) V [.mp i,.int I (.c (t:Int)),.int I c,.ref Q])≠ .cells p o n:=by
  intro p o n M;rw[Mz] at M;cases M
 have C:=R1.YK (cs':=[.mp i,.int I (.c (t:Int)),.int I c,.ref (.v (Y s.rs))]) (i:=X) z af;have ag:(RE.v (Y s.rs)).rv (O.add (.r (gf (.ins (.ref Q) 1 [.int I N]) O)))=gf (.ins (.ref Q) 1 [.int I N]) O:=by
  simp[RE.rv,ac.rv,ac.add,<-R.er]
 obtain⟨a2,al⟩:=R.xD A;have m:=qV al z;simp only[SV.gz,SV.ba,aDc] at m;have an:c.den (O.add (.r (gf (.ins (.ref Q) 1 [.int I N]) O)))=c.den O:=IE.dj (pV s.boxes O (.r (gf (.ins (.ref Q) 1 [.int I N]) O)) V).agree _ m.2.2.1;rw[Mz,ag,ab,an] at C;have ap:((Q.rv O).rows++[[RV.mk (.int I (j:Int)) []]]).map nK=(Q.rv O).rows.map nK++[j]:=by simp[nK,aO]
 rw[ap] at C;have l:=C.put d (.bK [.bool (.c J),kv,v]);have a0:(SV.bK [.bool (.c J),kv,v]).den (O.add (.r (gf (.ins (.ref Q) 1 [.int I N]) O))) V=.tuple #[.bool J,key,val]:=by
  simp only[SV.den,SV.aD,b,hv,BE.den]
 rw[a0] at l;have a1:((Q.rv O).rows.map nK).toArray.push j=((Q.rv O).rows.map nK++[j]).toArray:=by simp
 rw[a1];exact l
def ahA{X:Type}:∀{l:List X}{m j:Nat},dH ((m+j:Nat):Int) ((aEC m (Y l)).map λ(i:Nat)=>(i:Int)) l=l[j]?
 |[],m,j=>by simp[dH]
 |x::l,m,j=>by
  simp only[aD4,aFs,aDt,dH];cases j with
  |zero=>simp
  |succ j=>
   rw[if_neg (by omega),show m+(j+1)=m+1+j by omega,ahA];simp
def ahB{R:Type}{l:List R}{j:Nat}(h:X=Y l):dH (j:Int) (Ba X) l=l[j]?:=by
 have:=ahA (l:=l) (m:=0) (j:=j);rw[aDM] at this;rw[Ba,h,aE9];exact this
def asB(h:x.den N V=x.den O V):SV.aD N V x.cells=SV.aD O V x.cells:=by
 cases x
 case agg l=>simp only[SV.den,Value.agg.injEq] at h;simpa[SV.cells] using h
 all_goals simp only[SV.cells,SV.aD,h]
def ahC(R:az g B D f.ty V O s a W){X:TI}{e:TypeId}(F:dQ P e X){x:IE}{Q:bh}{N:ai}{M v:SV}(h:PL X x Q N=U (M,v))(C:Y Q=Y N){O':ac}{j:Nat}(L:x.den O'=j){k:Int}{u:SV}(A:Q[j]?=U k)(H:N[j]?=U u)(t:u.den O' V=u.den O V):
  M.den O' V=.int I k/\v.den O' V=u.den O V:=by
 unfold PL at h;split at h;rename_i r;split at h;rename_i y l q p;cases h;constructor;obtain⟨w,o,n,-⟩:=Yf (O:=O') q;obtain⟨k',z,m,rfl⟩:=n (.int I (.c k)) (by rw[L,ahB (by simp),aDj,A];rfl);cases m;simp only[SV.den,o,IE.den];obtain⟨i,b,s2⟩:=Qf (O:=O') (V:=V) p;have G:=aDr.1 r u (aDx H);have ab:Y u.cells=0+Y X.ae:=by
  simp only[zl,aDc,beq_iff_eq] at G;omega
 have af:X.d.isAgg=E->Y l=1:=λha=>by rw[i];exact zF F ha
 rw[Bt af,b u.cells (by rw[L,ahB (by simp[C]),aDj,H];rfl) ab,aGz,asB t,Qh (ui R) G];cases h;cases h
def ahD:∀{l:qJ}{m:Nat},(fe m l).map (·.born)=aEC m (Y l)
 |[],m=>rfl
 |x::r,m=>by simp[fe,ahD (l:=r),aFs]
def asC{p:Sp}{L:cZ}(hP:p.P=P)(R:az g B D f.ty V O s a W)(al:gY P f.ty){x:Operand}(ho:t.o.op=.next x E)(he:a.eval x=(s.ev f.gl x).den O V){a9 a5:S->T}{X:T}(h:XM f t.o.dst s (s.ev f.gl x) a9 a5=U X)(hs:X.aT p O L):
  ∃v W' z w,qZ P t.o a W v W'/\az g B D f.ty V z w (a.put t.o.dst v) W'/\bG s O V w z V/\((z=O/\(a5 w).aT p O L)\/(a9 w).aT p z L):=by
 unfold XM at h;split at h;rename_i q hx;split at h;rename_i bt i tz c C hq;split at h;cases h;rename_i b1;simp only[aDv,aEM,aDc,beq_iff_eq,decide_eq_true_eq] at b1;obtain⟨⟨⟨⟨⟨rfl,bb⟩,bI⟩,hb⟩,b2⟩,dc⟩:=b1;obtain⟨tn,rfl⟩:∃tn:Nat,tz=(tn:Int):=⟨tz.toNat,by omega⟩;simp only[aEa] at h;have bf:=R.mem.box _ _ _ hq;rw[Mz] at bf;have cs:=FN R bI;have dd:∀G∈(C.rv O).rows,∃x,G=[RV.mk (.int I x) []]:=λG hr=>YQ bb (cs G hr)
 obtain⟨df,bg⟩:=R.xD hb;split at h;rename_i k e n ag ae qq dk cv b3 b4;have hd:P.underlying tn=U (.map k e):=(al _ _ b3).desc;have hK:sq P k n ag:=(al _ _ b3).key k e n ag rfl;split at h;rename_i H an;split at h;cases h;rename_i a6;have a6:qL f.ty k n ag=true:=by simpa using a6
 have ap:=R.mem.box _ _ _ b4;have a7:=qV bg b4;have model:∀(l:qJ),W.heap[ad V i]?=U (ov l)->(Y l:Int)=c.den O->
   (c.den O<=lenOf (C.rv O).val/\qZ P t.o a W (.tuple #[.bool E]) W)\/
   ∃(j:Nat)(kv:Value×Value)(F:World),l[j]?=U kv/\¬((C.rv O).rows.map nK).contains j=J/\(F=W\/F=W.drew)/\qZ P t.o a W (.tuple #[.bool J,kv.1,kv.2]) (F.putObj (ad V q) (.mapIter (U (ad V i)) (c.den O).toNat (((C.rv O).rows.map nK).toArray.push j) (c.den O).toNat)):=by
  intro l hl bk;have hN:(c.den O).toNat=Y l:=by omega
  rw[hN] at bf⊢;rcases run_next_at (P:=P) W t.o.type (ad V q) (ad V i) (Y l) (Y l) _ _ _ bf hl (λy hy=>by
   obtain⟨j,p,h1,h2⟩:=YO (by simpa using hy);rw[h2];have:=(aDd.1 h1).1;simpa using this) (aDm _) with⟨h0,hr⟩|⟨en,bl,F,cx,hr⟩
  left;refine⟨?_,.inl ?_⟩;rw[IM R bI,<-bk];have:=ahx (Y l) ((C.rv O).rows.map nK) (λj hj=>by
   cases A:((C.rv O).rows.map nK).contains j with
   |true=>exact aDN.1 A
   |false=>
    exfalso;have cy:=YP (m:=0) (aDe hj);have:(⟨(l[j]).1,(l[j]).2,0+j⟩:MapEntry)∈(leftOf (fe 0 l).toArray ((C.rv O).rows.map nK).toArray):=by
     unfold leftOf;rw[aG0];refine⟨by simpa using cy, ?_⟩;simp only[aDM,aDv];rw[<-A];simp
    have dn:=Array.size_pos_of_mem this;omega)
  simpa using this;simp only[execOp,ho,he,hx,SV.den,Sem.run_bind,hr,Result.andThen_ok,Sem.run_pure];right;unfold leftOf at bl;rw[Array.mem_toList_iff,aG0] at bl;obtain⟨cA,b5⟩:=bl;obtain⟨j,kv,hj,rfl⟩:=YO (by simpa using cA);simp only[aDM] at b5 hr;refine⟨j,kv,F,hj, ?_,cx,.inl ?_⟩;simpa using b5;simp only[execOp,ho,he,hx,SV.den,Sem.run_bind,hr,Result.andThen_ok,Sem.run_pure,asv]
 have b6:(W=W)->(c.den O<=lenOf (C.rv O).val)->qZ P t.o a W (.tuple #[.bool E]) W->(a5 (s.put t.o.dst (.bK [.bool (.c E)]))).aT p O L->∃v W' z w,qZ P t.o a W v W'/\az g B D f.ty V z w (a.put t.o.dst v) W'/\bG s O V w z V/\((z=O/\(a5 w).aT p O L)\/(a9 w).aT p z L):=by
  intro _ _ cB cC;have:=R.put t.o.dst (.bK [.bool (.c E)]);exact⟨_,W,O,_,cB,this,(bG.refl _ _ _).put _ _,.inl ⟨rfl,cC⟩⟩
 have b7:∀F,(F=W\/F=W.drew)->az g B D f.ty V O s a F:=by
  rintro F (rfl|rfl);exact R;exact R.drew
 split at h
 
 rename_i dR;simp only[beq_iff_eq] at dR;subst dR;split at h;rename_i r hr;split at h;rename_i a8;simp only[aDc] at a8;cases h;obtain⟨rfl,c1,c5⟩:=Qz hr;rw[Dd] at ap;have bq:c.den O=((r.rv O).rows.length:Int):=by
  have:=IE.bL _ _ a8.1;rw[this,IE.den,IM R c1]
 have b8:=FN R c1;simp only[PM,T.aT] at hs;rcases model _ ap (by rw[bq];simp) with⟨N,g2⟩|⟨j,kv,F,N,g2,g3,g4⟩;exact b6 rfl N g2 (hs.2 (decide_eq_true N))
 ·rw[aDj] at N;cases a0:(r.rv O).rows[j]? with
  |none=>rw[a0] at N;cases N
  |some G=>
  rw[a0] at N;simp only[aDn,aDh] at N;have cD:=(aDd.1 a0).1;have ca:=aDx a0;have cI:=Iv a6 an (b8 G ca);have bo:=hs.1 (j:Int) (by omega) (by omega);have R1:=(b7 F g3).ahr hb (j:Int);have ab:=(pV s.boxes O (.i (j:Int)) V).agree;simp only[SV.gz,SV.ba,aDc] at a7;have af:=qV bg hq;simp only[SV.gz,SV.ba,aDc] at af;have a3:C.rv (O.add (.i (j:Int)))=C.rv O:=RE.pT ab _ af.2.2.2.1;have br:c.den (O.add (.i (j:Int)))=c.den O:=IE.dj ab _ af.2.2.1;have a4:(IE.v s.ni).den (O.add (.i (j:Int)))=(j:Int):=by simp[IE.den,ac.add,<-R.ei]
  have cO:∀Q,(IE.v s.ni).den ((O.add (.i (j:Int))).add (.r Q))=(j:Int):=λQ=>a4
  have cW:∀Q,r.rv ((O.add (.i (j:Int))).add (.r Q))=r.rv O:=λQ=>by
   have a1:=RE.pT ab _ a7.1;have bs:=(pV s.boxes (O.add (.i (j:Int))) (.r Q) V).agree;have a2:=RE.pT (bs.mono (by simp[ac.add]) (aDm _) (aDm _)) r a7.1;rw[a2,a1]
  have cc:∀Q,(r.rv ((O.add (.i (j:Int))).add (.r Q))).rows[((IE.v s.ni).den ((O.add (.i (j:Int))).add (.r Q))).toNat]?=U G:=λQ=>by
   rw[cW,cO];simpa using a0
  obtain⟨kc,r1,r2,r3⟩:=Iu (va:=H.d.isAgg) a6 an;have bx:=b8 G ca;have bk:Y G=n+Y H.ae:=by rw[bx.len,r1,aDs,r2]
  have ch:∀(M:Nat)(ct:CT),H.ae[M]?=U ct->(bw f.ty (.mr ⟨k,e,n,ag,H.d.isAgg⟩))[n+M]?=U ct:=λM ct hm=>by
   rw[r1,aDk (by omega),r2,show n+M-n=M by omega];exact hm
  have cl:∀(M:Nat)(ct:CT),H.ae[M]?=U ct->∃c,G[n+M]?=U c:=λM ct hm=>by
   have:M<Y H.ae:=(aDd.1 hm).1;exact⟨G[n+M]'(by omega),aDe _⟩
  have c0:H.d.isAgg=E->(sc r (.v s.ni) n H.ae).length=1:=λha=>by rw[YR];exact zF (al _ _ an) ha
  have c2:∀Q,(qK H.d.isAgg (sc r (.v s.ni) n H.ae)).den ((O.add (.i (j:Int))).add (.r Q)) V=pe H.d.isAgg (G.drop n):=λQ=>by
   rw[Bt c0,QB (cc Q) c5 bk (λM kk hm=>by
    obtain⟨c,A⟩:=cl M _ hm;obtain⟨x',b0⟩:=bx.int (n+M) c kk A (ch M _ hm);exact⟨x',by rw[A,b0]⟩) (λM hm=>by
    obtain⟨c,A⟩:=cl M _ hm;obtain⟨x',b0⟩:=bx.bool (n+M) c A (ch M _ hm);exact⟨x',by rw[A,b0]⟩),pe]
   cases c3:H.d.isAgg;have h1:=zF (al _ _ an) c3;obtain⟨c,A⟩:=aDJ.1 (show(G.drop n).length=1 by simp;omega);rw[A];rfl;rfl
  obtain⟨u1,u2⟩:=ahz (d:=t.o.dst) (s:={s with ni:=s.ni+1}) (kv:=HZ r (.v s.ni) n ag) (v:=qK H.d.isAgg (sc r (.v s.ni) n H.ae)) (key:=pe ag (G.take n)) (val:=pe H.d.isAgg (G.drop n)) bb R1 b2 hq (by simpa only[RE.oV,YN] using bI) a4 (by rw[a3];exact g2) (λQ=>ahy (cc Q) hK.1 cI) c2;rw[a3,br] at u2;subst N;refine⟨_,_,_,_,g4,u2, ?_,.inr ?_⟩;refine bG.put (s:=s) (s':={s with ni:=s.ni+1,rs:=s.rs++[RK.mr (vE f)],boxes:=s.boxes.set q _}) ⟨(pV s.boxes O (.i (j:Int)) V).trans (pV s.boxes _ _ V) (λ_ h=>h),λj hj=>(nM (aDd.1 (i5.1 hq)).1).2 (.inr hj),by simp,aDm _⟩ _ _;exact bo u1
 cases h;cases h;split at h
 
 rename_i dR;simp only[aDc,beq_iff_eq,aDv] at dR;obtain⟨⟨rfl,rfl⟩,rfl⟩:=dR;split at h;rename_i ks c4;split at h;rename_i a8;split at h;rename_i c6 v0 c7;cases h;rw[De] at ap;obtain⟨p1,p2⟩:=Iw (O:=O) (V:=V) c4;rw[p1] at ap;have bq:c.den O=(Y ks:Int):=by
  have:=IE.bL _ _ a8;rw[this,IE.den]
 simp only[PM,T.aT] at hs;rcases model _ ap (by rw[bq];simp[p2]) with⟨N,g2⟩|⟨j,kv,F,N,g2,g3,g4⟩;exact b6 rfl N g2 (hs.2 (decide_eq_true N))
 ·rw[aDj] at N;cases hz:(ks.zip (kX cv))[j]? with
  |none=>rw[hz] at N;cases N
  |some kp=>
  rw[hz] at N;simp only[aDn,aDh] at N;obtain⟨z1,z2⟩:=aFB.1 hz;have c8:∀{l:ai}{jj:Nat}{u:SV},SV.db (Y O.i) (Y O.b) (Y O.r) (aM s.boxes) l=J->(kX l)[jj]?=U u->u.bd (Y O.i) (Y O.b) (Y O.r) (aM s.boxes)=true:=by
   intro l;induction l using kX.induct with
   |case1 k v r ih=>
    intro jj u bJ hu;simp only[SV.gz,aDc] at bJ;simp only[kX] at hu;cases jj with
    |zero=>simp at hu;subst hu;exact bJ.2.1
    |succ jj=>exact ih bJ.2.2 (by simpa using hu)
   |case2 l h1=>
    intro jj u bJ hu;unfold kX at hu;split at hu;exact absurd rfl (h1 _ _ _);simp at hu
  have cD:j<Y ks:=(aDd.1 z1).1;have bo:=hs.1 (j:Int) (by omega) (by omega);have R1:=(b7 F g3).ahr hb (j:Int);have ab:=(pV s.boxes O (.i (j:Int)) V).agree;have af:=qV bg hq;simp only[SV.gz,SV.ba,aDc] at af;have a3:C.rv (O.add (.i (j:Int)))=C.rv O:=RE.pT ab _ af.2.2.2.1;have br:c.den (O.add (.i (j:Int)))=c.den O:=IE.dj ab _ af.2.2.1;have a4:(IE.v s.ni).den (O.add (.i (j:Int)))=(j:Int):=by simp[IE.den,ac.add,<-R.ei]
  have cm:=c8 a7 z2;have c9:∀Q,kp.2.den ((O.add (.i (j:Int))).add (.r Q)) V=kp.2.den O V:=λQ=>by
   have bs:=(pV s.boxes (O.add (.i (j:Int))) (.r Q) V).agree;rw[SV.dj (bs.mono (by simp[ac.add]) (aDm _) (aDm _)) (λ_ _=>rfl) _ cm,SV.dj ab (λ_ _=>rfl) _ cm]
  have cp:=λQ=>ahC R (al _ _ an) c7 p2 (O':=(O.add (.i (j:Int))).add (.r Q)) (j:=j) a4 z1 z2 (c9 Q)
  obtain⟨u1,u2⟩:=ahz (d:=t.o.dst) (s:={s with ni:=s.ni+1}) (kv:=c6) (v:=v0) (key:=.int I kp.1) (val:=kp.2.den O V) bb R1 b2 hq (by simpa only[RE.oV,YN] using bI) a4 (by rw[a3];exact g2) (λQ=>(cp Q).1) (λQ=>(cp Q).2);rw[a3,br] at u2;subst N;refine⟨_,_,_,_,g4,u2, ?_,.inr ?_⟩;refine bG.put (s:=s) (s':={s with ni:=s.ni+1,rs:=s.rs++[RK.mr (vE f)],boxes:=s.boxes.set q _}) ⟨(pV s.boxes O (.i (j:Int)) V).trans (pV s.boxes _ _ V) (λ_ h=>h),λj hj=>(nM (aDd.1 (i5.1 hq)).1).2 (.inr hj),by simp,aDm _⟩ _ _;exact bo u1
 cases h;cases h;cases h;cases h;cases h;cases h;cases h;cases h
def asD{p:Sp}{L:cZ}(R:az g B D f.ty V O s a W)(u:gY P f.ty){x:Operand}(ho:t.o.op=.entry x)(he:a.eval x=(s.ev f.gl x).den O V){a7:S->T}{X:T}(h:XO f t.o.dst s (s.ev f.gl x) a7=U X)(A:X.aT p O L):
  ∃v s',qZ P t.o a W v W/\az g B D f.ty V O s' (a.put t.o.dst v) W/\bG s O V s' O V/\(a7 s').aT p O L:=by
 unfold XO at h;split at h;rename_i q hx;split at h;rename_i bt i tz c N hq;split at h;cases h;rename_i a8;simp only[aDv,aEM,aDc,beq_iff_eq,decide_eq_true_eq] at a8;obtain⟨⟨⟨⟨rfl,bx⟩,bI⟩,hb⟩,cv⟩:=a8;obtain⟨tn,rfl⟩:∃tn:Nat,tz=(tn:Int):=⟨tz.toNat,by omega⟩;simp only[aEa] at h;have an:=R.mem.box _ _ _ hq;rw[Mz] at an;have b0:=FN R bI;have model:∀(l:qJ),W.heap[ad V i]?=U (ov l)->(Y l:Int)=c.den O->(XN c N).den O=J->
   ∃(j:Nat)(b:Value×Value),l[j]?=U b/\(ub N).den O=j/\qZ P t.o a W (.tuple #[b.1,b.2]) W:=by
  intro l hl a9 b1;obtain⟨a2,b2⟩:=zL b1;obtain⟨a2,b3⟩:=zL a2;have h1:=xH a2;have h2:=Qs b3;obtain⟨h3,h4⟩:=zL b2;have h3:=xH h3;rw[Bs] at h4;have h4:(ub N).den O<c.den O:=by simpa[fQ] using h4
  simp only[IE.den] at h1 h2 h3;rw[IM R bI] at h1 h2;have hN:(c.den O).toNat=Y l:=by omega
  rw[hN] at an;obtain⟨ab,a3,ap⟩:∃ab a3,(N.rv O).rows=ab++[a3]:=⟨_,_,(List.dropLast_concat_getLast (by intro e;rw[e] at h1;simp at h1)).symm⟩;obtain⟨z,y⟩:=YQ bx (b0 a3 (by rw[ap];simp));have b4:IntKind.i64.wrap (((N.rv O).rows.length:Int)-1)=((N.rv O).rows.length:Int)-1:=by
   simp[IntKind.wrap,IntKind.bits,IntKind.signed];omega
  have bb:(ub N).den O=z:=by
   simp only[ub,IE.den,ay,IM R bI,b4,cellAt];have:(((N.rv O).rows.length:Int)-1).toNat=Y ab:=by rw[ap];simp
   rw[this,ap,y];simp[aDf,aO]
  rw[bb] at h3 h4;obtain⟨j,rfl⟩:∃j:Nat,z=(j:Int):=⟨z.toNat,by omega⟩;have bd:j<Y l:=by omega
  refine⟨j,l[j],aDe bd,bb,.inl ?_⟩;have b5:((N.rv O).rows.map nK).toArray=((ab.map nK).toArray).push j:=by
   rw[ap,y];simp[nK,aO]
  rw[b5] at an;have bf:=YP (m:=0) (aDe bd);rw[aDM] at bf;have hr:=run_entry_at (P:=P) W (ad V q) (ad V i) (Y l) ((ab.map nK).toArray) (fe 0 l).toArray (Y l) ⟨(l[j]).1,(l[j]).2,j⟩ an hl (by simpa using bf) (by
   simp only[ahD];exact List.nodup_range' ..)
  simp only[execOp,ho,he,hx,SV.den,Sem.run_bind,hr,Result.andThen_ok,Sem.run_pure]
 split at h;rename_i k e n ag ae qq cx b6 bg b7;have hd:P.underlying tn=U (.map k e):=(u _ _ bg).desc;have hK:sq P k n ag:=(u _ _ bg).key k e n ag rfl;split at h;rename_i M af;split at h;cases h;rename_i a0;have a0:qL f.ty k n ag=true:=by simpa using a0
 have al:=R.mem.box _ _ _ b7;split at h;rename_i dR;simp only[beq_iff_eq] at dR;subst dR;split at h;rename_i r hr;split at h
 ·rename_i a4;cases h;obtain⟨rfl,c1,c5⟩:=Qz hr;rw[Dd] at al;have bq:c.den O=((r.rv O).rows.length:Int):=by
   have:=IE.bL _ _ a4;rw[this,IE.den,IM R c1]
  have bk:=FN R c1;obtain⟨hn,A⟩:=A;obtain⟨j,b,H,g2,g3⟩:=model _ al (by rw[bq];simp) hn;rw[aDj] at H;cases a1:(r.rv O).rows[j]? with
  |none=>rw[a1] at H;cases H
  |some F=>
  rw[a1] at H;simp only[aDn,aDh] at H;have bl:=aDx a1;have b8:=Iv a0 af (bk F bl);have bo:(r.rv O).rows[((ub N).den O).toNat]?=U F:=by rw[g2];simpa using a1
  obtain⟨kc,r1,r2,r3⟩:=Iu (va:=M.d.isAgg) a0 af;have a5:=bk F bl;have a9:Y F=n+Y M.ae:=by rw[a5.len,r1,aDs,r2]
  have br:∀(Q:Nat)(w:CT),M.ae[Q]?=U w->(bw f.ty (.mr ⟨k,e,n,ag,M.d.isAgg⟩))[n+Q]?=U w:=λQ w G=>by
   rw[r1,aDk (by omega),r2,show n+Q-n=Q by omega];exact G
  have bs:∀(Q:Nat)(w:CT),M.ae[Q]?=U w->∃c,F[n+Q]?=U c:=λQ w G=>by
   have:Q<Y M.ae:=(aDd.1 G).1;exact⟨F[n+Q]'(by omega),aDe _⟩
  have ca:M.d.isAgg=E->(sc r (ub N) n M.ae).length=1:=λha=>by rw[YR];exact zF (u _ _ af) ha
  have cc:(qK M.d.isAgg (sc r (ub N) n M.ae)).den O V=pe M.d.isAgg (F.drop n):=by
   rw[Bt ca,QB bo c5 a9 (λQ kk G=>by
    obtain⟨c,C⟩:=bs Q _ G;obtain⟨x',a6⟩:=a5.int (n+Q) c kk C (br Q _ G);exact⟨x',by rw[C,a6]⟩) (λQ G=>by
    obtain⟨c,C⟩:=bs Q _ G;obtain⟨x',a6⟩:=a5.bool (n+Q) c C (br Q _ G);exact⟨x',by rw[C,a6]⟩),pe]
   cases ch:M.d.isAgg;have h1:=zF (u _ _ af) ch;obtain⟨c,C⟩:=aDJ.1 (show(F.drop n).length=1 by simp;omega);rw[C];rfl;rfl
  have cl:=ahy (V:=V) bo hK.1 b8;have R2:=R.put t.o.dst (.bK [HZ r (ub N) n ag,qK M.d.isAgg (sc r (ub N) n M.ae)]);simp only[SV.den,SV.aD,cl,cc] at R2;subst H;exact⟨_,_,g3,R2,(bG.refl _ _ _).put _ _,A⟩
 cases h;cases h;split at h;rename_i dR;simp only[aDc,beq_iff_eq,aDv] at dR;obtain⟨⟨rfl,rfl⟩,rfl⟩:=dR;split at h;rename_i ks cm;split at h;rename_i a4;split at h
 ·rename_i cp v0 cs;cases h;rw[De] at al;obtain⟨p1,p2⟩:=Iw (O:=O) (V:=V) cm;rw[p1] at al;have bq:c.den O=(Y ks:Int):=by
   have:=IE.bL _ _ a4;rw[this,IE.den]
  obtain⟨hn,A⟩:=A;obtain⟨j,b,H,g2,g3⟩:=model _ al (by rw[bq];simp[p2]) hn;rw[aDj] at H;cases y:(ks.zip (kX b6))[j]? with
  |none=>rw[y] at H;cases H
  |some kp=>
  rw[y] at H;simp only[aDn,aDh] at H;obtain⟨z1,z2⟩:=aFB.1 y;obtain⟨e1,e2⟩:=ahC R (u _ _ af) cs p2 (O':=O) g2 z1 z2 rfl;have R2:=R.put t.o.dst (.bK [cp,v0]);simp only[SV.den,SV.aD,e1,e2] at R2;subst H;exact⟨_,_,g3,R2,(bG.refl _ _ _).put _ _,A⟩
 cases h;cases h;cases h;cases h;cases h;cases h;cases h;cases h
def ahE{p:Sp}{L:cZ}(R:az g B D f.ty V O s a W)(af:gY P f.ty){t2:TypeId}{G:BinOp}{x y:Operand}(w:t.o.op=.binOp G M x y t2)(ag:(G=.eql/\l=E)\/(G=.neq/\l=J))(he:a.eval x=(s.ev f.gl x).den O V)(al:a.eval y=(s.ev f.gl y).den O V){u:S->T}{j:T}(h:PN f t.o.dst s M l (s.ev f.gl x) (s.ev f.gl y) u=U j)(F:j.aT p O L):
  ∃v C,qZ P t.o a W v W/\az g B D f.ty V O C (a.put t.o.dst v) W/\bG s O V C O V/\(u C).aT p O L:=by
 unfold PN at h;split at h;rename_i e ae q r ht hx hy;split at h;rename_i hk;cases h;have hd:P.underlying M=U (.slice e):=(af _ _ ht).desc;have Q:=pU R (by simp) hk;simp only[T.aT] at F;obtain⟨A,n,c,X⟩:∃A n c,r.den O=.slice A n c:=by
  have:∃A n c,(r.rv O).val=.slice A n c:=by
   generalize r.rv O=H at Q;cases Q;exact⟨_,_,_,rfl⟩
  exact this
 have an:(IE.len r).den O=n:=by simp only[IE.den];unfold RE.den at X;rw[X];rfl
 have i:(Op.equal M (.slice A n c) (.slice Z 0 0)).run P W=.ok A.isNone W:=by
  have z:Op.equal M (.slice A n c) (.slice Z 0 0)=Op.equalIn (9999+1) M (.slice A n c) (.slice Z 0 0):=rfl;rw[z,Op.equalIn,Sem.run_bind,dQ.f9 hd,Result.andThen_ok];cases A<;>rfl
 have d:(execOp a.eval t.o).run P W=.ok (.value (.bool (if l then !A.isNone else A.isNone))) W:=by
  simp only[execOp,w,he,al,hx,hy,SV.den,X];have ap:RE.den O (.k (.slice Z 0 0))=.slice Z 0 0:=rfl;rw[ap];rcases ag with⟨rfl,rfl⟩|⟨rfl,rfl⟩;simp[eqGuard,binOp,i];simp[eqGuard,binOp,i]
 cases N:A with
 |none=>
  have hn:n=0:=by
   unfold RE.den at X;have z:∀{H:RV},bz W f.ty (.sl e) H->H.val=.slice A n c->A=Z->n=0:=by
    intro H Q X N;cases Q with
    |sl e A' a2 a3 ab h1 h2 h3 hi hb w=>
     simp only[RV.lg,Value.slice.injEq] at X;obtain⟨rfl,rfl,rfl⟩:=X;subst N;cases ab with
     |nil=>simp at h1;omega
     |cons a0 ab=>
      obtain⟨-,b,a4,a1,-⟩:=h3 0 a0 rfl;cases a1
   exact z Q X N
  have:=F.2 (by show decide ((IE.len r).den O<=(IE.c 0).den O)=J;rw[an,hn];rfl);refine⟨_,_,.inl d, ?_,(bG.refl _ _ _).put _ (.bool (.c (!l))),this⟩;have X:(if l then !A.isNone else A.isNone)= !l:=by rw[N];cases l<;>rfl
  rw[X];exact R.put t.o.dst (.bool (.c (!l)))
 |some A0=>
  have:=F.1 (by simp[BE.den]);refine⟨_,_,.inl d, ?_,(bG.refl _ _ _).put _ (.bool (.c l)),this⟩;have X:(if l then !A.isNone else A.isNone)=l:=by rw[N];cases l<;>rfl
  rw[X];exact R.put t.o.dst (.bool (.c l))
 cases h;cases h
def az.cells{y:Ty}{i:Nat}{Q:TypeId}{L H:ai}(R:az g B D y V O (s.cq i Q L) a W)(F:i<Y s.boxes)(h:SV.cN O V L=SV.cN O V H):az g B D y V O (s.cq i Q H) a W:=by
 have G:∀j,aM (s.boxes.set i (U (Q,H))) j=aM (s.boxes.set i (U (Q,L))) j:=λj=>by
  rw[aEk,nM F,nM F]
 have x:(s.cq i Q H).boxes=s.boxes.set i (U (Q,H)):=rfl;have N:(s.cq i Q L).boxes=s.boxes.set i (U (Q,L)):=rfl;refine⟨⟨R.mem.base,λj X=>R.mem.own j (by rw[N,<-G];exact X),λj k X w=>R.mem.inj j k (by rw[N,<-G];exact X) (by rw[N,<-G];exact w),λj t v M=> ?_,λk e C A z=>⟨(R.mem.ref k e C A z).1,λb M j X=>(R.mem.ref k e C A z).2 b M j (by rw[N,<-G];exact X)⟩⟩,by simpa[S.cq] using R.fp,R.ei,R.eb,R.er,R.cP,R.size,R.tmps,λk e C b u r q=> ?_⟩;rw[i5,x] at M;by_cases X:j=i;subst X;rw[aEq (by simpa using F)] at M;cases M;rw[<-h];exact R.mem.box j Q L (by rw[i5,N,aEq (by simpa using F)]);rw[aDP (λe=>X e.symm)] at M;exact R.mem.box j t v (by rw[i5,N,aDP (λe=>X e.symm)];exact M);obtain⟨A,z,p,o,n⟩:=R.dJ k e C b u r q;exact⟨A,z,λj X=>p j (by rw[N,<-G];exact X),o,n⟩
def asE{b:BE}{y z:SV}(h:XP b x y=U z):z.f8 O V=if b.den O then x.f8 O V else y.f8 O V:=by
 unfold XP at h;split at h;split at h;rename_i X;subst X;cases h;simp only[SV.f8,SV.den,IE.den];split<;>rfl;cases h;cases h;simp only[SV.f8,SV.den,BE.den];split<;>rfl;cases h
def MA:∀(R l:ai)(X:Nat),SV.cN O V (j8 l X R)=fo (SV.cN O V l) X (SV.cN O V R)
 |[],l,X=>rfl
 |v::R,l,X=>by
  rw[j8,MA R (l.set X v) (X+1)];simp only[SV.cN,aDt,fo,aGg]
def ahF{b:BE}:∀{M:ai}{R:Nat}{X Q:ai},LQ b M R X=U Q->
  Y Q=Y X/\(M=[]\/R+Y M<=Y X)/\(b.den O=J->SV.cN O V Q=SV.cN O V (j8 X R M))/\(b.den O=E->SV.cN O V Q=SV.cN O V X)
 |[],R,X,Q,h=>by simp only[LQ,aDh] at h;subst h;exact⟨rfl,.inl rfl,λ_=>rfl,λ_=>rfl⟩
 |x::t,R,X,Q,h=>by
  simp only[LQ] at h;split at h;rename_i B H;split at h;rename_i c A;obtain⟨G,L,z,y⟩:=ahF h;have w:R<Y X:=(aDd.1 H).1;have F:=asE (O:=O) (V:=V) A;have C:SV.cN O V (X.set R c)=(SV.cN O V X).set R (c.f8 O V):=by simp[SV.cN,aGg]
  have v:SV.cN O V X=(SV.cN O V X).set R (B.f8 O V):=by
   apply aDG;intro j;rw[aD9];split;rename_i u;subst u;simp[SV.cN,w];have:=aDd.1 H;rw[this.2];rfl
  rw[aGo] at G L;refine⟨G,.inr ?_,λN=> ?_,λN=> ?_⟩;rcases L with rfl|L;simp;omega;simp only[aD4];omega;rw[z N,MA,C,F,if_pos N,MA];simp only[SV.cN,aDt,fo];rw[y N,C,F,if_neg (by simp[N]),<-v];cases h;cases h
def ahG{e:IE}{G:ai}(z:G≠[]):∀{M:bh}{L X R:ai},Fs e G M L X=U R->PO M=J->
  Y R=Y X/\(∀v,dH (e.den O) M L=U v->∃i H,v=.loc i H/\H+Y G<=Y X/\SV.cN O V R=SV.cN O V (j8 X H G))/\(¬(e.den O∈M)->SV.cN O V R=SV.cN O V X)
 |[],[],X,R,h,_=>by simp only[Fs,aDh] at h;subst h;exact⟨rfl,λv Q=>by simp[dH] at Q,λ_=>rfl⟩
 |[],_::_,X,R,h,_=>by simp[Fs] at h
 |k::M,L,X,R,h,C=>by
  simp only[PO,aDc,aDv] at C;cases L with
  |nil=>simp[Fs] at h
  |cons u L=>
   cases u<;>simp only[Fs] at h<;>try cases h
   rename_i i H;split at h;rename_i g r;obtain⟨q,p,y⟩:=ahG z h C.2;obtain⟨x,B,w,A⟩:=ahF (O:=O) (V:=V) r;have B:=B.resolve_left z;simp only[BE.den,IE.den,fQ,beq_iff_eq,beq_eq_false_iff_ne,ne_eq] at w A;refine⟨by rw[q,x],λv Q=> ?_,λt=> ?_⟩;simp only[dH] at Q;split at Q;rename_i N;cases Q;refine⟨i,H,rfl,B, ?_⟩;rw[y (λF=>by
    rw[N] at F;have:=C.1;rw[aDN.2 F] at this;cases this),w N]
   rename_i N;obtain⟨o,n,rfl,m,l⟩:=p v Q;refine⟨o,n,rfl,by rw[<-x];exact m, ?_⟩;rw[l,MA,A N,<-MA];have N:¬e.den O=k:=λj=>t (by simp[j])
   rw[y (λF=>t (by simp[F])),A N];cases h
def ahH(h:LR x=J):x.single=true:=by cases x<;>simp only[LR,aDB] at h<;>rfl
def ahI:∀{l:ai},H0 l=J->l≠[]/\CX l=J
 |[],h=>by cases h
 |[x],h=>⟨by simp,by rw[Py.2,ahH h,Py.1];rfl⟩
 |x::y::r,h=>by
  simp only[H0,aDc] at h;exact⟨by simp,by rw[Py.2,ahH h.1,(ahI (l:=y::r) h.2).2];rfl⟩
def asF(h:H0 x.cells=J):(x.den O V).cells.toList=SV.aD O V x.cells:=by
 cases x
 case agg l=>simp[SV.cells,SV.den,Value.cells]
 all_goals(simp only[SV.cells,H0,LR,aDB] at h)
 all_goals rfl
def asG{P:Program}{p:Sp}{L:cZ}(R:az g B D f.ty V O s a W)(n:gY P f.ty){o:Oper}{t:TypeId}{x y:Operand}{C:TI}{e:IE}{N:bh}{M:ai}(m:f.ty t=U C)(l:o.op=.store t x y)(j:a.eval x=(SV.eQ e N M).den O V)(d:a.eval y=(s.ev f.gl y).den O V){k:S->T}{A:T}
  (h:XQ o.dst s C e N M (s.ev f.gl y) k=U A)(Q:A.aT p O L):∃v X H,qZ P o a W v X/\az g B D f.ty V O H (a.put o.dst v) X/\bG s O V H O V/\(k H).aT p O L:=by
 unfold XQ at h;split at h;rename_i i c;split at h;rename_i b cs hb;split at h;rename_i ab af;split at h;rename_i z;simp only[aDc,beq_iff_eq] at z;obtain⟨⟨⟨h1,h2⟩,h3⟩,w⟩:=z;cases h;simp only[T.aT] at Q;obtain⟨r,Q⟩:=Q;rw[Qg h2] at r;obtain⟨u,G⟩:=aDw.1 r;obtain⟨ag,al⟩:=ahI w;obtain⟨g1,g2,-⟩:=ahG (O:=O) (V:=V) ag af h3;obtain⟨i',q,rfl,an,ap⟩:=g2 u G;obtain⟨a3,hq⟩:=agG c (Ir G);cases hq;obtain⟨F,a0⟩:=xC hb;have hi:i<Y s.boxes:=(aDd.1 (i5.1 F)).1;have a1:((s.ev f.gl y).den O V).cells.toList=SV.aD O V (s.ev f.gl y).cells:=asF w;obtain⟨X,hr,R'⟩:=R.store (P:=P) (v:=s.ev f.gl y) (off:=q) (n _ _ m) F a0 h1.symm an al a1;have R2:az g B D f.ty V O (s.cq i b ab) a X:=R'.cells hi ap.symm;refine⟨undef,X,_,.inr ⟨?_,rfl⟩,R2.put o.dst (.bK []),ahe F _ _,Q⟩;have a2:(SV.eQ e N M).den O V=.pointer (U ⟨ad V i,q,Z⟩):=by
  simp only[SV.den];rw[Qi G rfl];rfl
 simp only[execOp,l,j,d,a2,Sem.run_bind,hr,Result.andThen_ok,Sem.run_pure];cases h;cases h;cases h;cases h
def asH{p:Sp}{L:cZ}(R:az p.S0 p.w0 D f.ty V O s a W)(l:gY p.P f.ty)(w:et f.gl O){ab:S->Fx->T}{q:Fx}(r:ss O q){X:T}(h:zr f t s ab q=U X)(n:X.aT p O L):
  ∃v C j b Q af,qZ p.P t.o a W v C/\az p.S0 p.w0 D f.ty b j Q (a.put t.o.dst v) C/\bG s O V Q j b/\ss j af/\(ab Q af).aT p j L:=by
 unfold zr at h;split at h;cases h;rename_i H;have H:∀x∈t.o.op.operands.toList,(s.ev f.gl x).dL=false:=by
  intro x hx;cases hh:(s.ev f.gl x).dL;rfl;exact absurd (by simp only[aDE];right;exact aDL.2 ⟨x,hx,hh⟩) H
 split at h
 
 rename_i i N;cases d:PI f t.o.dst s i with
 |none=>rw[d] at h;cases h
 |some Q=>
  rw[d] at h;cases h;obtain⟨v,C,b,G,F,M⟩:=asr (P:=p.P) R N d;exact⟨v,C,O,b,Q,q,G,F,M,r,n⟩
 rename_i i x y z N;rw[N] at H;have A:=cJ R w x (H x (by simp[Op.operands]));have k:=cJ R w y (H y (by simp[Op.operands]));have e3:=cJ R w z (H z (by simp[Op.operands]));split at h;rename_i Q c;cases h;obtain⟨C,G,F,M⟩:=QA (P:=p.P) R l c;exact⟨undef,C,O,V,Q,q,.inr ⟨by simp only[execOp,N,A,k,e3,Sem.run_bind,G,Result.andThen_ok,Sem.run_pure],rfl⟩,F,M,r,n⟩;rename_i k' x' Q c;cases h;obtain⟨C,G,F,M⟩:=QA (P:=p.P) R l c;exact⟨undef,C,_,V,Q,_,.inr ⟨by simp only[execOp,N,A,k,e3,Sem.run_bind,G,Result.andThen_ok,Sem.run_pure],rfl⟩,F,M,FV R M.ext.agree r,n⟩;cases h;rename_i i x y z N;rw[N] at H;have A:=cJ R w x (H x (by simp[Op.operands]));have k:=cJ R w y (H y (by simp[Op.operands]));have e3:=cJ R w z (H z (by simp[Op.operands]));split at h;rename_i Q c;cases h;obtain⟨C,G,F,M⟩:=QA (P:=p.P) R l c;exact⟨undef,C,O,V,Q,q,.inr ⟨by simp only[execOp,N,A,k,e3,Sem.run_bind,G,Result.andThen_ok,Sem.run_pure],rfl⟩,F,M,r,n⟩;rename_i k' x' Q c;cases h;obtain⟨C,G,F,M⟩:=QA (P:=p.P) R l c;exact⟨undef,C,_,V,Q,_,.inr ⟨by simp only[execOp,N,A,k,e3,Sem.run_bind,G,Result.andThen_ok,Sem.run_pure],rfl⟩,F,M,FV R M.ext.agree r,n⟩;cases h;rename_i i x N;rw[N] at H;have A:=cJ R w x (H x (by simp[Op.operands]));cases d:PJ f t.o.dst s i (s.ev f.gl x) with
 |none=>rw[d] at h;cases h
 |some Q=>
  rw[d] at h;cases h;obtain⟨v,C,b,G,F,M⟩:=asy (P:=p.P) R l N A d;exact⟨v,C,O,b,Q,q,G,F,M,r,n⟩
 rename_i x N;rw[N] at H;have A:=cJ R w x (H x (by simp[Op.operands]));obtain⟨v,C,j,Q,G,F,M,u⟩:=asC (P:=p.P) rfl R l N A h n;rcases u with⟨rfl,u⟩|u;exact⟨v,C,j,V,Q,q,G,F,M,r,u⟩;exact⟨v,C,j,V,Q,_,G,F,M,FV R M.ext.agree r,u⟩;rename_i x N;rw[N] at H;have A:=cJ R w x (H x (by simp[Op.operands]));obtain⟨v,Q,G,F,M,u⟩:=asD (P:=p.P) R l N A h n;exact⟨v,W,O,V,Q,q,G,F,M,r,u⟩;rename_i i x y N;rw[N] at H;have A:=cJ R w x (H x (by simp[Op.operands]));have k:=cJ R w y (H y (by simp[Op.operands]));split at h;rename_i ti e ks vs ht hx;rw[hx] at A;obtain⟨v,C,Q,G,F,M,u⟩:=asG (P:=p.P) R l ht N A k h n;exact⟨v,C,O,V,Q,q,G,F,M,r,u⟩;cases h;rename_i op i x y t2 N;rw[N] at H;have A:=cJ R w x (H x (by simp[Op.operands]));have k:=cJ R w y (H y (by simp[Op.operands]));split at h;obtain⟨v,Q,G,F,M,u⟩:=ahE (P:=p.P) R l N (.inl ⟨rfl,rfl⟩) A k h n;exact⟨v,W,O,V,Q,q,G,F,M,r,u⟩;obtain⟨v,Q,G,F,M,u⟩:=ahE (P:=p.P) R l N (.inr ⟨rfl,rfl⟩) A k h n;exact⟨v,W,O,V,Q,q,G,F,M,r,u⟩;cases h;cases h
end
def MB(v:Value)(X:bh)(g:FuncId):jk:=(v::(X.map (Value.int I)++[.func (.func g) #[] #[]])).toArray
def oA(P:Program)(R:Ty)(f g:FuncId)(e:TypeId)(G:be)(F:Bool):Prop:=
 (∀Q W,(callFunc f Q).run P W=.ok (.enter f Q) W)/\∀(W:World)(A:mC)(n X:Nat)(N aC:am)(O:ac)(M:List IE)(L:be),G.fill M=U L->bz W R (.sl e) (.mk (.slice A n X) N)->II W e (bw R (.sl e)).length A X->jE O L F N=U aC->
  Calls P f (MB (.slice A n X) (M.map (IE.den O)) g) W λC H=>C=.returned (.tuple #[])/\W.grownBy H (jU A X)/\Dg W H e (bw R (.sl e)).length (jU A X) aC A X
def ahJ(P:Program)(N:Ty)(f:FuncId)(e:TypeId):Prop:=
 (∀M W,(callFunc f M).run P W=.ok (.enter f M) W)/\∀(W:World)(b n X:Nat)(L aC:am)(i:Int)(R Q:Nat)(G F:TypeId),W.heap[R]?=U (.cells #[.slice (U ⟨b,0,Z⟩) n X] G (0,0))->W.heap[Q]?=U (.cells #[.func (.func f) #[] #[.pointer (U ⟨R,0,Z⟩),.pointer (U ⟨Q,0,Z⟩)]] F (0,0))->R≠b->Q≠b->
  bz W N (.sl e) (.mk (.slice (U ⟨b,0,Z⟩) n X) L)->II W e (bw N (.sl e)).length (U ⟨b,0,Z⟩) X->uf i L=U aC->
  Calls P f #[.int I i,.pointer (U ⟨R,0,Z⟩),.pointer (U ⟨Q,0,Z⟩)] W λC H=>C=.returned (.int I (ax 0 (aC.getD i.toNat [])))/\W.grownBy H (U b)/\Dg W H e (bw N (.sl e)).length (U b) aC (U ⟨b,0,Z⟩) X
def ll(P:Program)(X:Ty)(f g:FuncId)(e:TypeId)(R:be)(Q:Bool):Prop:=if f=g then ahJ P X f e else oA P X f g e R Q
def ll.of{P:Program}{X:Ty}{f g:FuncId}{R:be}(h:oA P X f g M R l)(Q:f≠g):ll P X f g M R l:=by
 unfold ll;rw[if_neg Q];exact h
def IP(P:Program)(p:bB):Prop:=∀f g e X R,p.zp f g=U (e,X,R)->ll P p.ty f g e X R
def QC{lt:aF->aF->Bool}{x y:aF}:∀{l:am},y∈dO lt x l<->y=x\/y∈l
 |[]=>by simp[dO]
 |z::r=>by
  simp only[dO];split;simp;simp only[aDp,QC (l:=r)];constructor;rintro(h|h|h);exact .inr (.inl h);exact .inl h;exact .inr (.inr h);rintro(h|h|h);exact .inr (.inl h);exact .inl h;exact .inr (.inr h)
def ahK{lt:aF->aF->Bool}{x:aF}:∀{l:am},(dO lt x l).length=Y l+1
 |[]=>rfl
 |z::r=>by
  simp only[dO];split;simp;simp[ahK (l:=r)]
def YS{lt:aF->aF->Bool}:∀(l acc:am),(∀x,x∈l.foldl (λacc x=>dO lt x acc) acc<->x∈acc\/x∈l)/\(l.foldl (λacc x=>dO lt x acc) acc).length=Y acc+Y l
 |[],acc=>by simp
 |y::l,acc=>by
  obtain⟨X,R⟩:=YS (lt:=lt) l (dO lt y acc);refine⟨λx=> ?_, ?_⟩;simp only[aEG,X,QC,aDp];constructor;rintro((h|h)|h);exact .inr (.inl h);exact .inl h;exact .inr (.inr h);rintro(h|h|h);exact .inl (.inr h);exact .inl (.inl h);exact .inr h;simp only[aEG,R,ahK,aD4];omega
def ahL{lt:aF->aF->Bool}{l:am}{x:aF}:x∈bD lt l<->x∈l:=by
 rw[bD,(YS l []).1];simp
def nN{lt:aF->aF->Bool}{l:am}:(bD lt l).length=Y l:=by
 rw[bD,(YS l []).2];simp
def ahM{sp:be}{X aC:am}(h:fU sp l X=U aC):∀x∈aC,x∈X:=by
 cases sp with
 |cw k o Q=>simp[fU] at h
 |_=>
  simp only[fU] at h;split at h;cases h;intro x R;exact ahL.1 R;cases h
def ahN{sp:be}{X aC:am}(h:fU sp l X=U aC):Y aC=Y X:=by
 cases sp with
 |cw k o R=>simp[fU] at h
 |_=>
  simp only[fU] at h;split at h;cases h;exact nN;cases h
def su{R:am}{b:Nat}{x:aF}(h:x∈aX R X b):x∈R:=aEj (aEo h)
def asI(X:am)(a b:Nat):(aX X a b).length=min (b-a) (Y X-a):=by simp[aX]
def QD{X:am}:∀(n:Nat)(i:Int),(o9 n i X).length=Y X
 |0,_=>rfl
 |n+1,i=>by
  simp only[o9];split;rfl;simp[QD n]
def Di{X:am}(h:kB X=J){k:Nat}(R:k<Y X):0<=ax 0 (X.getD k [])/\ax 0 (X.getD k [])<=k:=by
 have:=aDr.1 h k (aEd.2 R);simpa only[aDc,decide_eq_true_eq] using this
def YT{X:am}(h:kB X=J){i:Int}(R:0<=i)(Q:i<Y X):0<=ax 0 (X.getD i.toNat [])/\ax 0 (X.getD i.toNat [])<=i/\ax 0 (X.getD i.toNat [])<Y X:=by
 have:=Di h (k:=i.toNat) (by omega);omega
def ahO{R:Type}{l:List R}(h:X<Y l)(d:R):l.getD X d∈l:=by
 rw[aDf,aDe h];exact aD3 _
def ahP{R:am}(h:kB R=J):∀(n:Nat)(i:Int),0<=i->i<Y R->∀x∈o9 n i R,x∈R
 |0,_,_,_,x,X=>X
 |n+1,i,N,M,x,X=>by
  simp only[o9] at X;split at X;exact X;obtain⟨L,-,H⟩:=YT h N M;have Q:=ahP h n _ L H;rcases aEc X with X|X;exact Q x X;refine Q x ?_;have G:(ax 0 (R.getD i.toNat [])).toNat<(o9 n (ax 0 (R.getD i.toNat [])) R).length:=by rw[QD];omega
  rw[X];exact ahO G _
def MC{i:Int}{X aC:am}(h:uf i X=U aC):Y X<=1099511627776/\0<=i/\i<Y X/\kB X=J/\aC=o9 (Y X) i X:=by
 unfold uf at h;split at h;rename_i R;simp only[aDc,decide_eq_true_eq] at R;cases h;exact⟨R.1.1.1,R.1.1.2,R.1.2,R.2,rfl⟩;cases h
def QE{i:Int}{X aC:am}(h:uf i X=U aC):∀x∈aC,x∈X:=by
 obtain⟨-,R,Q,N,rfl⟩:=MC h;exact ahP N _ _ R Q
def YU{i:Int}{X aC:am}(h:uf i X=U aC):Y aC=Y X:=by
 obtain⟨-,-,-,-,rfl⟩:=MC h;exact QD _ _
def asJ{o:be}{N:bh}{Q aC:am}(h:lJ X o N Q=U aC):∀x∈aC,x∈Q:=by
 unfold lJ at h;split at h
 all_goals first|(split at h<;>first|(cases h;done)|skip)|skip
 all_goals first|(cases h;done)|skip
 all_goals
  cases h;intro x R;simp only[aDo,ahL] at R;rcases R with R|R;exact aEo R
 all_goals
  rcases R with R|R;exact su R
  first|exact aEj R|(rcases R with R|R<;>first|exact su R|exact aEj R|(rcases R with R|R<;>first|exact su R|exact aEj R))
def asK{o:be}{Q:bh}{R aC:am}(h:lJ X o Q R=U aC):Y aC=Y R:=by
 unfold lJ at h;split at h
 all_goals first|(split at h<;>first|(cases h;done)|skip)|skip
 all_goals first|(cases h;done)|skip
 all_goals
  rename_i N;simp only[aDc,decide_eq_true_eq] at N;cases h;simp only[aDs,aEQ,aEJ,asI,nN];omega
def zM{o:be}{Q:bh}{R aC:am}(h:nL X o Q R=U aC):Y R<=1099511627776/\lJ X o Q R=U aC:=by
 unfold nL at h;split at h;rename_i N;exact⟨N,h⟩;cases h
def asL{o:be}{Q:bh}{R aC:am}(h:nL X o Q R=U aC):∀x∈aC,x∈R:=asJ (zM h).2
def asM{o:be}{Q:bh}{R aC:am}(h:nL X o Q R=U aC):Y aC=Y R:=asK (zM h).2
def YV{X:be}{R aC:am}(h:fU X l R=U aC):Y R<=1099511627776:=by
 cases X with
 |cw k o N=>simp[fU] at h
 |_=>
  simp only[fU] at h;split at h;rename_i Q;simp only[aDc,decide_eq_true_eq] at Q;exact Q.1;cases h
def YW{R:be}{Q aC:am}(h:jE N R l Q=U aC):∀x∈aC,x∈Q:=by
 cases R with
 |cw k o M=>
  cases l with
  |false=>exact asL h
  |true=>
   cases M with
   |nil=>simp[jE] at h
   |cons i X=>
    cases X with
    |nil=>exact QE h
    |cons j X=>simp[jE] at h
 |lex L d=>exact ahM (sp:=.lex L d) h
 |ratio n d=>exact ahM (sp:=.ratio n d) h
def YX{R:be}{Q aC:am}(h:jE N R l Q=U aC):Y aC=Y Q:=by
 cases R with
 |cw k o M=>
  cases l with
  |false=>exact asM h
  |true=>
   cases M with
   |nil=>simp[jE] at h
   |cons i X=>
    cases X with
    |nil=>exact YU h
    |cons j X=>simp[jE] at h
 |lex L d=>exact ahN (sp:=.lex L d) h
 |ratio n d=>exact ahN (sp:=.ratio n d) h
section
variable{q:aj}{w:World}{D:bR}{P:Program}{p:bB}{V:aj}{O:ac}{s:S}{a:Act}{W:World}
def asN{F aC:am}(h:eG W p.ty M F)(C:∀x∈aC,x∈F):eG W p.ty M aC:=by
 have G:∀{i:Nat}{X:aF},aC[i]?=U X->∃R,F[R]?=U X:=λh=>aDU (C _ (aDx h))
 refine⟨λi X Q=> ?_,λi j X c k Q L H=> ?_,λi j X c Q L H=> ?_,λi j X c z k Q L H=> ?_⟩;obtain⟨R,N⟩:=G Q;exact h.len R X N;obtain⟨R,N⟩:=G Q;exact h.int R j X c k N L H;obtain⟨R,N⟩:=G Q;exact h.bool R j X c N L H;obtain⟨R,N⟩:=G Q;exact h.aH R j X c z k N L H
def asO{R aC:am}(Q:∀x∈aC,x∈R)(h:lZ p.ty M aC X):lZ p.ty M R X:=by
 obtain⟨i,j,N,c,z,k,L,H,G,F⟩:=h;obtain⟨C,B⟩:=aDU (Q _ (aDx L));exact⟨C,j,N,c,z,k,B,H,G,F⟩
def ahQ{s:S}{a:Act}{W:World}{O:ac}{V:aj}(R:az q w D p.ty V O s a W)(Q:et p.gl O){o:Oper}{g:FuncId}{X:ai}(h:dA p s o=.call (.fn g) X)
  (L:∀X W,(callFunc g X).run P W=.ok (.enter g X) W):(execOp a.eval o).run P W=.ok (.enter g (SV.aD O V X).toArray) W:=by
 unfold dA at h;split at h;split at h<;>cases h;rename_i c H;split at h;rename_i f G;split at h;rename_i z y N;split at h;cases h;rename_i F;cases h;have M:=cJ R Q f (by rw[N];rfl);rw[N,SV.den] at M;have C:c.args.map a.eval=(SV.aD O V (c.args.toList.map (s.ev p.gl))).toArray:=by
  apply aEe;simp only[aEh,nJ,aD7];exact aDC λx B=>cJ R Q x (by
   cases A:(s.ev p.gl x).dL;rfl;exact absurd (aDL.2 ⟨x,B,A⟩) F)
 simp only[execOp,H,resolve,G,Sem.run_bind,M,Deferred.ofValue,Sem.run_pure,Result.andThen_ok,invoke,C,P9];simp only[aF1,L,aDl];split at h<;>cases h;cases h;cases h;split at h;split at h<;>cases h;cases h;cases h;cases h
def ahR{s:S}{o:Oper}{g:Fm}{X:ai}(h:dA p s o=.call g X)(c:Call):o.op≠ .defer c:=by
 intro R;simp[dA,R] at h
def ahS{O:ac}{V:aj}:∀{l:ai}{as:List IE}{g:FuncId},LS l=U (as,g)->SV.aD O V l=(as.map (IE.den O)).map (Value.int I)++[.func (.func g) #[] #[]]
 |[],as,g,h=>by simp[LS] at h
 |v::r,as,g,h=>by
  unfold LS at h;split at h;rename_i M X;cases h;injection X with R Q;subst R;subst Q;simp[SV.aD,SV.den];rename_i e L X;injection X with R Q;subst R;subst Q;split at h;rename_i x N;cases h;have:=ahS (O:=O) (V:=V) (as:=x.1) (g:=x.2) N;simp[SV.aD,SV.den,this];cases h;cases h
def YY(R:az q w D p.ty V O s a W)(v:s.bd=J){A:mC}{n Q:Nat}{aC:am}(N:s.rs[X]?=U (.own M))(H:O.rv X=.mk (.slice A n Q) (O.rv X).rows)(G:bz W p.ty (.sl M) (.mk (.slice A n Q) (O.rv X).rows))
  (F:∀x∈aC,x∈(O.rv X).rows)(u:Y aC=(O.rv X).rows.length)(o:W.grownBy e (jU A Q))(m:Dg W e M (bw p.ty (.sl M)).length (jU A Q) aC A Q)(d:bT)(L:SV):
  az q w D p.ty V (O.add (.r (.mk (O.rv X).val aC))) ((({s with rs:=jz [] 0 (gV [X] 0 s.rs)++[.own M]}:S).fZ X (Y s.rs)).put d L) (a.put d (L.den (O.add (.r (.mk (O.rv X).val aC))) V)) e/\
   bG s O V ((({s with rs:=jz [] 0 (gV [X] 0 s.rs)++[.own M]}:S).fZ X (Y s.rs)).put d L) (O.add (.r (.mk (O.rv X).val aC))) V:=by
 obtain⟨l,al⟩:=qY G;have j:Bz p.ty V O s M aC []:=λb h=>by
  have C:=asO F h;have B:=ID (O:=O) (e0:=.own M) rfl (by simpa[RE.rv] using C);exact⟨⟨X,_,N,B⟩,(R.mem.ref X _ _ N (sr R N)).2 b B,λk' t rv g f c=>(Ms R g f c N rfl (by simpa[RE.rv] using C)).elim⟩
 obtain⟨z,-⟩:=R.bind v (old:=jU A Q) (kill:=[X]) (frz:=[]) (A:=A) (cap:=Q) (W':=e) (.inr ⟨X,M,O.rv X,rfl,N,sr R N,by rw[H,IG]⟩) (by simp) o (asN (eG.vN G) F) j m;rw[u,l] at z;have y:(O.rv X).val=.slice A n Q:=by rw[H];rfl
 rw[y];have ab:X<Y O.r:=by rw[R.er];exact(aDd.1 N).1
 have af:(O.add (.r (.mk (.slice A n Q) aC))).rv X=O.rv X:=by simp[ac.rv,ac.add,aDg ab]
 have ag:(O.add (.r (.mk (.slice A n Q) aC))).rv (Y s.rs)=.mk (.slice A n Q) aC:=by simp[ac.rv,ac.add,<-R.er]
 have R2:=(z.fZ (k:=X) (n:=Y s.rs) (by rw[af,ag,y];rfl)).put d L;refine⟨R2, ?_⟩;refine bG.put (s:=s) (s':=({s with rs:=jz [] 0 (gV [X] 0 s.rs)++[.own M]}:S).fZ X (Y s.rs)) ⟨pV _ _ _ _,λi hi=> ?_, ?_,aDm _⟩ _ _;simp only[S.fZ];rw[FU];exact hi;simp[S.fZ,My]
def asP(hs:IP P p)(R:az q w D p.ty V O s a W)(hg:et p.gl O)(x:s.bd=J){o:Oper}{f:FuncId}{Q:ai}(af:dA p s o=.call (.fn f) Q){u:zu}(h:XR p f Q s o.dst=U u){aC:am}(X:jE O u.sp u.st (u.r.rv O).rows=U aC):
  ∃Q v,(execOp a.eval o).run P W=.ok (.enter u.f Q) W/\Calls P u.f Q W λL N=>L=.returned v/\az q w D p.ty V (O.add (.r (.mk (u.r.rv O).val aC))) u.s (a.put o.dst v) N/\bG s O V u.s (O.add (.r (.mk (u.r.rv O).val aC))) V:=by
 unfold XR at h;split at h;rename_i r a1;split at h;rename_i H g ag;split at h;rename_i e t m G;have l:p.zp f g=U (e,t,m)/\f≠g:=by
  split at G;cases G;rename_i al;exact⟨G,λh=>al (by simp[h])⟩
 have F:=hs f g e t m l.1;unfold ll at F;rw[if_neg l.2] at F;obtain⟨an,j⟩:=F;have i:(execOp a.eval o).run P W=.ok (.enter f (MB (r.den O) (H.map (IE.den O)) g)) W:=by
  rw[ahQ R hg af an];simp only[SV.aD,SV.den,ahS ag,MB]
 split at h;rename_i d c;split at h;rename_i k;split at h;rename_i hk;cases h;obtain⟨A,n,ab,h1,h2,h3⟩:=Mv R hk;have M:(RE.v k).rv O=O.rv k:=rfl;simp only[M] at X⊢;have a2:=X;have ap:=YW X;have C:=YX X;refine⟨_,.tuple #[],i, ?_⟩;have B:(RE.v k).den O=.slice A n ab:=by rw[RE.den,M,h1];rfl
 rw[B];refine(j W A n ab _ aC O H d c h2 h3 X).mono ?_;rintro L N ⟨rfl,z,y⟩;exact⟨rfl,YY R x hk h1 h2 ap C z y o.dst (.bK [])⟩;cases h;cases h;have M:(RE.k (.slice Z 0 0)).rv O=.mk (.slice Z 0 0) []:=rfl;simp only[M,RV.lj,RV.lg] at X⊢;have C:=YX X;have h0:aC=[]:=aDI (by simpa using C);subst h0;refine⟨_,.tuple #[],i, ?_⟩;have B:(RE.k (.slice Z 0 0)).den O=.slice Z 0 0:=rfl;rw[B];refine(j W Z 0 0 [] [] O H d c (By _ _) ⟨λ_=>rfl,.inl rfl⟩ X).mono ?_;rintro L N ⟨rfl,z,y⟩;obtain⟨R1,-⟩:=R.bind x (old:=Z) (kill:=[]) (frz:=[]) (A:=Z) (cap:=0) (rows:=[]) (W':=N) (.inl ⟨rfl,rfl⟩) (by simp) z (eG.vN (By (e:=e) Z 0)) (λb a0=>(Mr a0).elim) y;refine⟨rfl,R1.put o.dst (.bK []), ?_⟩;exact bG.put (s:=s) (s':={s with rs:=jz [] 0 (gV [] 0 s.rs)++[.own e]}) ⟨pV _ _ _ _,λ_ h=>h,aDm _,aDm _⟩ _ _;cases h;cases h;cases h;cases h;cases h
def ahT(hs:IP P p)(R:az q w D p.ty V O s a W)(hg:et p.gl O)(hb:s.bd=J){o:Oper}{f:FuncId}{Q:ai}(al:dA p s o=.call (.fn f) Q){u:zu}(h:Ft p f Q s o.dst=U u){aC:am}(L:jE O u.sp u.st (u.r.rv O).rows=U aC):
  ∃Q v,(execOp a.eval o).run P W=.ok (.enter u.f Q) W/\Calls P u.f Q W λx t=>x=.returned v/\az q w D p.ty V (O.add (.r (.mk (u.r.rv O).val aC))) u.s (a.put o.dst v) t/\bG s O V u.s (O.add (.r (.mk (u.r.rv O).val aC))) V:=by
 unfold Ft at h;split at h;rename_i i N M;split at h;rename_i e o' bk an;have C:=hs f f e _ J an;unfold ll at C;rw[if_pos rfl] at C;obtain⟨ap,a0⟩:=C;split at h;rename_i H k G f' bl bo m gC;split at h;rename_i l;simp only[aDc,beq_iff_eq,aDv,decide_eq_true_eq] at l;obtain⟨⟨⟨⟨⟨⟨hi,e1⟩,e2⟩,e3⟩,a1⟩,a2⟩,F⟩:=l;rw[e1,e2,e3] at gC;cases h;obtain⟨A,n,X,B,z,j⟩:=Mv R F;have a3:(RE.v k).rv O=O.rv k:=rfl;simp only[a3] at L⊢;have a4:=YW L;have a5:=YX L;have bq:uf (i.den O) (O.rv k).rows=U aC:=L;obtain⟨-,br,bs,-,-⟩:=MC bq;obtain⟨hn,bt⟩:=qY z;have y:X≠0:=by omega
 rcases j.mem with h0|⟨b,bx,hA,b0,-⟩;exact(y h0).elim;subst hA;have a6:(O.rv k).jS=U b:=by
  rw[B,IG];cases X with
  |zero=>exact(y rfl).elim
  |succ c=>rfl
 have g:=R.dJ k e _ b F (sr R F) a6;have d:=R.mem.box N H _ m;have ab:=R.mem.box M G _ gC;have a7:kC H (SV.cN O V [.ref (.v k)])=.cells #[.slice (U ⟨b,0,Z⟩) n X] H (0,0):=by
  rw[qW a1];simp only[SV.aD,SV.den,RE.den,RE.rv];rw[B];rfl
 have a8:kC G (SV.cN O V [.fn f [.loc N 0,.loc M 0]])=.cells #[.func (.func f) #[] #[.pointer (U ⟨ad V N,0,Z⟩),.pointer (U ⟨ad V M,0,Z⟩)]] G (0,0):=by
  rw[qW a2];simp[SV.den,SV.aD]
 rw[a7] at d;rw[a8] at ab;have a9:(execOp a.eval o).run P W=.ok (.enter f #[.int I (i.den O),.pointer (U ⟨ad V N,0,Z⟩),.pointer (U ⟨ad V M,0,Z⟩)]) W:=by
  rw[ahQ R hg al ap];simp only[SV.aD,SV.den]
 refine⟨_,.int I (ax 0 (aC.getD (i.den O).toNat [])),a9, ?_⟩;have bb:jU (U ⟨b,0,Z⟩) X=U b:=by
  cases X with
  |zero=>exact(y rfl).elim
  |succ c=>rfl
 refine(a0 W b n X _ aC (i.den O) _ _ H G d ab (g.box N (by simp only[aM,m];rfl)) (g.box M (by simp only[aM,gC];rfl)) z j bq).mono ?_;rintro x t ⟨rfl,af,ag⟩;rw[<-bb] at af ag;have:=YY R hb F B z a4 a5 af ag o.dst (.int I (.cell (.v (Y s.rs)) i 0));have bf:(O.add (.r (.mk (O.rv k).val aC))).rv (Y s.rs)=.mk (O.rv k).val aC:=by simp[ac.rv,ac.add,<-R.er]
 have bg:i.den (O.add (.r (.mk (O.rv k).val aC)))=i.den O:=IE.dj (pV s.boxes O _ V).agree i (by rw[R.ei,R.eb,R.er];exact hi);have hd:SV.den (O.add (.r (.mk (O.rv k).val aC))) V (.int I (.cell (.v (Y s.rs)) i 0))=.int I (ax 0 (aC.getD (i.den O).toNat [])):=by
  simp only[SV.den,IE.den,RE.rv,bf,bg];rfl
 rw[hd] at this;exact⟨rfl,this⟩;cases h;cases h;cases h;cases h
def asQ(H:IP P p)(R:az q w D p.ty V O s a W)(G:et p.gl O){u:zu}(h:Be p t s=U u){aC:am}(F:jE O u.sp u.st (u.r.rv O).rows=U aC):
  ∃X v,(execOp a.eval t.o).run P W=.ok (.enter u.f X) W/\(∀c,t.o.op≠ .defer c)/\Calls P u.f X W λB A=>B=.returned v/\az q w D p.ty V (O.add (.r (.mk (u.r.rv O).val aC))) u.s (a.put t.o.dst v) A/\bG s O V u.s (O.add (.r (.mk (u.r.rv O).val aC))) V:=by
 unfold Be at h;split at h;cases h;rename_i Q;simp only[aDE,aDv,not_or,aEM] at Q;split at h;rename_i f X N;have C:=λc=>ahR N c
 split at h;rename_i y z;cases h;obtain⟨x,v,M,L⟩:=asP H R G Q.2 N z F;exact⟨x,v,M,C,L⟩;obtain⟨x,v,M,L⟩:=ahT H R G Q.2 N h F;exact⟨x,v,M,C,L⟩;cases h
def asR(N:IP P p)(R:az q w D p.ty V O s a W)(M:et p.gl O){u:zu}(h:Fu p r s=U u){aC:am}(L:jE O u.sp u.st (u.r.rv O).rows=U aC):
  ∃X v,(execOp a.eval r).run P W=.ok (.enter u.f X) W/\(∀c,r.op≠ .defer c)/\Calls P u.f X W λH G=>H=.returned v/\az q w D p.ty V (O.add (.r (.mk (u.r.rv O).val aC))) u.s (a.put r.dst v) G/\bG s O V u.s (O.add (.r (.mk (u.r.rv O).val aC))) V:=by
 unfold Fu at h;split at h;cases h;rename_i F;split at h;rename_i f X Q;obtain⟨x,v,C,B⟩:=ahT N R M (by simpa using F) Q h L;exact⟨x,v,C,λc=>ahR Q c,B⟩;cases h
end
structure ph(F:Fence):Prop where
 fn:∀f,F.fn f
 xJ:F.depth=Z
 eq:∀P,Machine.fenced P F=Machine.fenced P Fence.wide
def asS:ph Fence.wide:=⟨λ_=>trivial,rfl,λ_=>rfl⟩
def ahU(l:Nat):ph (Fence.wide.inRound l):=⟨λ_=>trivial,rfl,λ_=>rfl⟩
def ph.calls{F:Fence}(V:ph F){P:Program}{f:FuncId}{Q:jk}{R:Ending->World->Prop}(h:Calls P f Q e R):CallsIn F X P f Q e R:=by
 have O:=(callsIn_wide (n:=X)).2 h;refine⟨V.fn f,λN _=> ?_⟩;obtain⟨W,M,L,r,c,x⟩:=O.2 N (room_wide _);exact⟨W,M,L,r,by rw[V.eq];exact c,x⟩
def YZ{p:Sp}{L:cZ}{V:Fx}{b:BE}{t f:Fx->T}(X:ss N V)(h:(Bc R V b t f).aT p N L):
  ∃Q,ss N Q/\(if b.den N then(t Q).aT p N L else(f Q).aT p N L):=by
 unfold Bc at h;split at h;rename_i P;exact⟨V,X,by rw[Qy X P];exact h⟩;rename_i P;exact⟨V,X,by rw[Qy X P];exact h⟩;split at h;simp only[T.aT] at h;cases W:b.den N;exact⟨_,ahq X W,by simpa[W] using h.2 W⟩;exact⟨_,ahq X W,by simpa[W] using h.1 W⟩;exact h.elim
def cM(n:Nat)(L X:cZ):Prop:=∀l,l<n->mI l X=mI l L
def cM.refl(n:Nat)(L:cZ):cM n L L:=λ_ _=>rfl
def cM.trans{n m:Nat}{L X W:cZ}(h:cM n L X)(k:cM m X W)(R:n<=m):cM n L W:=λl V=>(k l (by omega)).trans (h l V)
def asT(p:Sp)(O:ac):Fm->jk->World->(Ending->World->Prop)->Prop
 |.fn g,X,W,V=>(∀X W,(callFunc g X).run p.P W=.ok (.enter g X) W)/\Calls p.P g X W V
 |.yl n,X,W,V=>∀(F:Fence)(_:ph F)(m:Nat),YieldAt F m p.P (O.y.getD n 0) X W V
structure kE where
 s:S
 O:ac
 V:aj
 L:cZ
structure kE.pW(B:kE)(s:S)(O:ac)(V:aj)(L:cZ):Prop where
 later:bG B.s B.O B.V s O V
 QF:cM B.s.au B.L L
def kE.pW.go{B:kE}{X:S}{W:ac}{Q:aj}{L P:cZ}(h:B.pW R N v L)(M:bG R N v X W Q)(H:cM R.au L P):B.pW X W Q P:=⟨h.later.trans M,h.QF.trans H h.later.au⟩
def QG(p:Sp)(A:bB)(D:bR)(B:kE)(C:oq):Prop:=
 ∀(L:cZ)(g:Fm)(G:ai)(s:S)(k z:SV->S->T)(O:ac)(V:aj)(a:Act)(W:World)(H:Ending->World->Prop),B.pW s O V L->
  (C g G s k z).aT p O L->az p.S0 p.w0 D A.ty V O s a W->et A.gl O->
  (∀v P X N Q M,bG s O V P X N->cM s.au L M->az p.S0 p.w0 D A.ty N X P a Q->(k v P).aT p X M->H (.returned (v.den X N)) Q)->
  (∀v P X N Q M,bG s O V P X N->cM s.au L M->az p.S0 p.w0 D A.ty N X P a Q->(z v P).aT p X M->H (.panicked [{v:=v.den X N,recovered:=E}]) Q)->
  (∀x Q w y,dE p.w0 D w y a.defers Q->p.R (.panicked x) Q->H (.panicked x) Q)->
  asT p O g (SV.aD O V G).toArray W H
section
variable{p:Sp}{A:bB}{C:oq}{F:Fence}{D:bR}{ops:cS}
def ahV{a:Act}(Q:az p.S0 p.w0 D A.ty v N R a e){j:Nat}(M:(ops[j]?).bind (·.dst)=U X):
  (∀b,R.tmps[X]?=U (.bool b)->yielded ops a.tmps j=U (b.den N))/\(R.tmps[X]?=U (.bK [])->yielded ops a.tmps j=Z):=by
 constructor;intro b P;rcases Q.tmps X _ P with h|h;cases h;simp[yielded,M,h,SV.den];intro P;rcases Q.tmps X _ P with h|h;cases h;simp[yielded,M,h,SV.den]
def QH{s:S}{a:Act}{W:World}{O:ac}{V:aj}(R:az p.S0 p.w0 D A.ty V O s a W)(Q:et A.gl O){o:Oper}{g:FuncId}{X:ai}(h:dA A s o=.call (.fn g) X)
  (L:∀X W,(callFunc g X).run p.P W=.ok (.enter g X) W):(execOp a.eval o).run p.P W=.ok (.enter g (SV.aD O V X).toArray) W:=by
 unfold dA at h;split at h;split at h<;>cases h;rename_i c H;split at h;rename_i f G;split at h;rename_i w v N;split at h;cases h;rename_i C;cases h;have M:=cJ R Q f (by rw[N];rfl);rw[N,SV.den] at M;have B:c.args.map a.eval=(SV.aD O V (c.args.toList.map (s.ev A.gl))).toArray:=by
  apply aEe;simp only[aEh,nJ,aD7];exact aDC λx z=>cJ R Q x (by
   cases y:(s.ev A.gl x).dL;rfl;exact absurd (aDL.2 ⟨x,z,y⟩) C)
 simp only[execOp,H,resolve,G,Sem.run_bind,M,Deferred.ofValue,Sem.run_pure,Result.andThen_ok,invoke,B,P9];simp only[aF1,L,aDl];split at h<;>cases h;cases h;cases h;split at h;split at h<;>cases h;cases h;cases h;cases h
def ahW{s:S}{a:Act}{W:World}{O:ac}{V:aj}(R:az p.S0 p.w0 D A.ty V O s a W)(X:et A.gl O){o:Oper}{n:Nat}{Q:ai}(h:dA A s o=.call (.yl n) Q):
  (execOp a.eval o).run p.P W=(Instr.yield (O.y.getD n 0) (SV.aD O V Q).toArray).run p.P W:=by
 unfold dA at h;split at h;split at h<;>cases h;rename_i c L;split at h;rename_i f H;split at h;split at h<;>cases h;rename_i w N;split at h;cases h;rename_i G;cases h;have M:=cJ R X f (by rw[N];rfl);rw[N,SV.den] at M;have C:c.args.map a.eval=(SV.aD O V (c.args.toList.map (s.ev A.gl))).toArray:=by
  apply aEe;simp only[aEh,nJ,aD7];exact aDC λx B=>cJ R X x (by
   cases z:(s.ev A.gl x).dL;rfl;exact absurd (aDL.2 ⟨x,B,z⟩) G)
 simp[execOp,L,resolve,H,M,Deferred.ofValue,invoke,C];cases h;cases h;split at h;split at h<;>cases h;cases h;cases h;cases h
def Y0{s:S}{O:ac}{V:aj}{L:cZ}{e:IE}{B:FuncId->ai->T}:∀{Q:bh}{P:ai},(C0 e B Q P).aT p O L->∃g N,jC (e.den O) Q (SV.aD O V P)=.func (.func g) #[] (SV.aD O V N).toArray/\(B g N).aT p O L
 |[],P,h=>by simp only[C0] at h;exact h.elim
 |k::Q,[],h=>by simp only[C0] at h;exact h.elim
 |k::Q,v::P,h=>by
  unfold C0 at h;split at h;rename_i A z g N y W R;simp only[aEg] at W R;obtain⟨rfl,rfl⟩:=W;obtain⟨rfl,rfl⟩:=R;simp only[T.aT,BE.den,fQ,IE.den] at h;by_cases X:e.den O=k;exact⟨g,N,by simp[SV.aD,SV.den,jC,X,gU],h.1 (by simp[X])⟩;obtain⟨M,H,G,C⟩:=Y0 (s:=s) (V:=V) (h.2 (by simp[X]));exact⟨M,H,by simp only[SV.aD,jC,X,if_false];exact G,C⟩;rename_i A z y W R;simp only[aEg] at W R;obtain⟨rfl,rfl⟩:=W;obtain⟨rfl,rfl⟩:=R;simp only[T.aT,BE.den,fQ,IE.den] at h;by_cases X:e.den O=k;exact(h.1 (by simp[X])).elim;obtain⟨M,H,G,C⟩:=Y0 (s:=s) (V:=V) (h.2 (by simp[X]));exact⟨M,H,by simp only[SV.aD,jC,X,if_false];exact G,C⟩;exact h.elim
def asU{s:S}{a:Act}{W:World}{O:ac}{V:aj}(R:az p.S0 p.w0 D A.ty V O s a W)(Q:et A.gl O){m:OM}{e:IE}{N:bh}{M X L:ai}{g:FuncId}(h:zt A m s=U (e,N,M,X))
  (y:jC (e.den O) N (SV.aD O V M)=.func (.func g) #[] (SV.aD O V L).toArray)(w:∀X W,(callFunc g X).run p.P W=.ok (.enter g X) W):
  (execOp a.eval m.o).run p.P W=.ok (.enter g (SV.aD O V (X++L)).toArray) W/\∀c,m.o.op≠ .defer c:=by
 unfold zt at h;split at h;cases h;split at h;rename_i c H;split at h;rename_i f v;split at h;rename_i q n l G;split at h;cases h;rename_i C;simp only[aDE,not_or] at C;cases h;have B:=cJ R Q f (by rw[G];rfl);rw[G,SV.den,y] at B;have u:c.args.map a.eval=(SV.aD O V (c.args.toList.map (s.ev A.gl))).toArray:=by
  apply aEe;simp only[aEh,nJ,aD7];exact aDC λx t=>cJ R Q x (by
   cases r:(s.ev A.gl x).dL;rfl;exact absurd (aDL.2 ⟨x,t,r⟩) C.1)
 refine⟨?_,λk z=>by rw[H] at z;cases z⟩;simp only[execOp,H,resolve,v,Sem.run_bind,B,Deferred.ofValue,Sem.run_pure,Result.andThen_ok,invoke,u,P9];simp only[aF1,w,aDl];cases h;cases h;cases h
def ahX{a:Act}(X:az p.S0 p.w0 D A.ty v N R a e)(G:et A.gl N)(h:dA A R r=.bj x):
  (execOp a.eval r).run p.P e=.halt (.panic (x.den N v)) e:=by
 unfold dA at h;split at h;rename_i Q H;split at h;rename_i t y L;cases h;have M:=cJ X G Q (by rw[L];rfl);rw[L] at M;simp[execOp,H,M,SV.den,Instr.panic];cases h;rename_i c H;split at h;split at h;split at h<;>cases h;split at h<;>cases h;cases h;cases h;rename_i B;split at h;rename_i Q L;split at h;rename_i t y C;cases h;have M:=cJ X G Q (by rw[C];rfl);rw[C] at M;have:c.args.map a.eval= #[a.eval Q]:=by apply aEe;simp[L]
 simp[execOp,H,resolve,B,invoke,builtin,this,M,SV.den,Instr.panic];cases h;cases h;cases h;cases h
def BA{a:Act}{V:World}{v:Value}{K:Act->World->Prop}{Q:Exit->Act->World->Prop}(O:ph F)(h:qZ p.P r a e v V)(N:∀c,r.op≠ .defer c)(R:K (a.put r.dst v) V):r.wpIn F X p.P a e K Q:=by
 refine⟨λf _=>O.fn f, ?_⟩;rw[Oper.semAt_eq _ _ _ N];rcases h with h|⟨h,rfl⟩;rw[h];exact R;rw[h];exact R
def Y1{X:Bool}{b:BI}(h:dI A r l X R=U b):∀c,r.op≠ .defer c:=by
 intro c C;simp[dI,C] at h
def asV{W:S->Fx->T}{V:Fx}{X:T}(h:zr A t R W V=U X):∀c,t.o.op≠ .defer c:=by
 intro c C;simp[zr,C] at h
def MD{X:S}(h:(fc A t R).gives N X):∀c,t.o.op≠ .defer c:=by
 intro c C;unfold fc at h;split at h;exact h.elim;rw[C] at h;simp[bO,qN,OR.gives] at h
def BB(a7:p.ty=A.ty)(a8:IP p.P A)(hF:ph F)(a0:gY p.P A.ty){B:kE}(hH:QG p A D B C){n:Nat}{k:S->T}{kp:SV->S->T}{Q:Exit->Act->World->Prop}(HP:∀ch a' N pd y,dE p.w0 D pd y a'.defers N->p.R (.panicked ch) N->Q (.panic ch) a' N):
  ∀(l:ce)(j:Nat)(s:S)(fx:Fx)(L:cZ)(O:ac)(V:aj)(a:Act)(W:World),
   (∀i m,l[i]?=U m->ops[j+i]?=U m.o)->B.pW s O V L->
   (mE A C ops k kp l s fx).aT p O L->ss O fx->az p.S0 p.w0 D A.ty V O s a W->et A.gl O->
   (∀H O' V' a' N L',bG s O V H O' V'->cM s.au L L'->az p.S0 p.w0 D A.ty V' O' H a' N->(k H).aT p O' L'->Q .normal a' N)->
   (∀v H O' V' a' N L',bG s O V H O' V'->cM s.au L L'->az p.S0 p.w0 D A.ty V' O' H a' N->(kp v H).aT p O' L'->Q (.panic [{v:=v.den O' V',recovered:=E}]) a' N)->
   wpOpsIn F n p.P ops Q (aEC j (Y l)) a W
 |[],j,s,fx,L,O,V,a,W,_,_,h,_,R,_,hk,_=>hk s O V a W L (bG.refl _ _ _) (cM.refl _ _) R h
 |m::al,j,s,fx,L,O,V,a,W,b4,hB,h,bs,R,hg,hk,a1=>by
  have ho:ops[j]?=U m.o:=by simpa using b4 0 m rfl
  have bb:∀i m',al[i]?=U m'->ops[j+1+i]?=U m'.o:=λi m' hi=>by
   have:=b4 (i+1) m' (by simpa using hi)
   rwa [show j+(i+1)=j+1+i by omega] at this
  simp only[aD4,aFs,wpOpsIn,ho];have b0:∀an,ss O an->
    (zv A C m s (mE A C ops k kp al) kp an).aT p O L->
    m.o.wpIn F n p.P a W (wpOpsIn F n p.P ops Q (aEC (j+1) (Y al))) Q:=by
   intro an a3 h;unfold zv at h;have bq:∀g ap,(C (.fn g) ap s (λv H=>mE A C ops k kp al (H.put m.o.dst v) (nF s an)) kp).aT p O L->((∀ap W,(callFunc g ap).run p.P W=.ok (.enter g ap) W)->(execOp a.eval m.o).run p.P W=.ok (.enter g (SV.aD O V ap).toArray) W)->(∀c,m.o.op≠ .defer c)->
     m.o.wpIn F n p.P a W (wpOpsIn F n p.P ops Q (aEC (j+1) (Y al))) Q:=by
    intro g ap h b1 bd;have hC:=hH L (.fn g) ap s _ _ O V a W (λe N=>match e with
      |.returned v=>wpOpsIn F n p.P ops Q (aEC (j+1) (Y al)) (a.put m.o.dst v) N
      |.panicked ch=>Q (.panic ch) a N
      |.outgrown=>LetsOut Q) hB h R hg
     (λv H O' V' N L' X hL R' hs=>BB a7 a8 hF a0 hH HP al (j+1) (H.put m.o.dst v) (nF s an) L' O' V' _ N bb (hB.go (X.put _ _) hL) hs
      (FV R X.ext.agree a3) (R'.put m.o.dst v) (hg.ext X.ext)
      (λM G z x w r ab af R2 ag=>hk M G z x w r ((X.put _ _).trans ab) (hL.trans af (X.put _ _).au) R2 ag)
      (λv2 M G z x w r ab af R2 ag=>a1 v2 M G z x w r ((X.put _ _).trans ab) (hL.trans af (X.put _ _).au) R2 ag))
     (λv H O' V' N L' X hL R' hs=>a1 v H O' V' a N L' X hL R' hs)
     (λch N pd y hA hR=>HP ch a N pd y hA hR)
    obtain⟨bl,b2⟩:=hC;refine⟨λf _=>hF.fn f, ?_⟩;rw[Oper.semAt_eq _ _ _ bd,b1 bl];rw[Oper.uponIn_enter];refine⟨λhd=>by rw[hF.xJ] at hd;simp at hd,CallsIn.mono (hF.calls b2) (λe N he=> ?_)⟩;cases e<;>exact he
   split at h;rename_i e ks vs ap b5;obtain⟨g,b8,q1,q2⟩:=Y0 (s:=s) (V:=V) h;refine bq g (ap++b8) q2 (λbl=>(asU R hg b5 q1 bl).1) ?_;intro c bf;simp[zt,bf] at b5;split at h;rename_i u hu;obtain⟨aC,hr,h⟩:=h;obtain⟨ap,tv,b1,bd,b2⟩:=asQ a8 R hg hu hr;refine⟨λf _=>hF.fn f, ?_⟩;rw[Oper.semAt_eq _ _ _ bd,b1];rw[Oper.uponIn_enter];refine⟨λhd=>by rw[hF.xJ] at hd;simp at hd,CallsIn.mono (hF.calls b2) (λe N he=> ?_)⟩;obtain⟨rfl,R',X⟩:=he;exact BB a7 a8 hF a0 hH HP al (j+1) u.s (nF s an) L _ V _ N bb (hB.go X (cM.refl _ _)) h (FV R X.ext.agree a3) R' (hg.ext X.ext)
    (λM G z x w r ab af R2 ag=>hk M G z x w r (X.trans ab) ((cM.refl _ _).trans af X.au) R2 ag)
    (λv2 M G z x w r ab af R2 ag=>a1 v2 M G z x w r (X.trans ab) ((cM.refl _ _).trans af X.au) R2 ag)
   split at h;rename_i g ap bo;exact bq g ap h (λbl=>QH R hg bo bl) (λc bf=>by simp[dA,bf] at bo);rename_i yn ap bo;split at h;have hC:=hH L (.yl yn) ap s _ _ O V a W (λe N=>match e with
    |.returned v=>wpOpsIn F n p.P ops Q (aEC (j+1) (Y al)) (a.put m.o.dst v) N
    |.panicked ch=>Q (.panic ch) a N
    |.outgrown=>LetsOut Q) hB h R hg
    (λv H O' V' N L' X hL R' hs=>BB a7 a8 hF a0 hH HP al (j+1) (H.put m.o.dst v) (nF s an) L' O' V' _ N bb (hB.go (X.put _ _) hL) hs
     (FV R X.ext.agree a3) (R'.put m.o.dst v) (hg.ext X.ext)
     (λM G z x w r ab af R2 ag=>hk M G z x w r ((X.put _ _).trans ab) (hL.trans af (X.put _ _).au) R2 ag)
     (λv2 M G z x w r ab af R2 ag=>a1 v2 M G z x w r ((X.put _ _).trans ab) (hL.trans af (X.put _ _).au) R2 ag))
    (λv H O' V' N L' X hL R' hs=>a1 v H O' V' a N L' X hL R' hs)
    (λch N pd y hA hR=>HP ch a N pd y hA hR)
   obtain⟨fn,cp,assign,body,hy,ca⟩:=hC F hF (n-1);refine⟨λf _=>hF.fn f, ?_⟩;have bd:∀c,m.o.op≠ .defer c:=λc bf=>by simp[dA,bf] at bo
   rw[Oper.semAt_eq _ _ _ bd,ahW R hg bo,hy];rw[Oper.uponIn_round];refine⟨λhd=>by rw[hF.xJ] at hd;simp at hd,RoundIn.mono ca (λe N he=> ?_)⟩;cases e<;>exact he;exact h.elim;rename_i v b6;refine⟨λf _=>hF.fn f, ?_⟩;have bd:∀c,m.o.op≠ .defer c:=λc bf=>by simp[dA,bf] at b6
   rw[Oper.semAt_eq _ _ _ bd,ahX R hg b6];exact a1 v s O V a W L (bG.refl _ _ _) (cM.refl _ _) R h;exact h.elim;have bt:∀H bx,ss O bx->(fc A m s).gives O H->(mE A C ops k kp al H bx).aT p O L->m.o.wpIn F n p.P a W (wpOpsIn F n p.P ops Q (aEC (j+1) (Y al))) Q:=by
    intro H bx cc b7 hs;obtain⟨v,N,V',br,R',X⟩:=Mu R a0 hg m b7;exact BA hF br (MD b7) (BB a7 a8 hF a0 hH HP al (j+1) H bx L O V' _ N bb (hB.go X (cM.refl _ _)) hs cc R' hg
     (λM G z x w r ab af R2 ag=>hk M G z x w r (X.trans ab) ((cM.refl _ _).trans af X.au) R2 ag)
     (λv2 M G z x w r ab af R2 ag=>a1 v2 M G z x w r (X.trans ab) ((cM.refl _ _).trans af X.au) R2 ag))
   split at h;rename_i t ht;obtain⟨v,N,O',V',H,a4,br,R',X,a5,h2⟩:=asH R a0 hg a3 ht h;exact BA hF br (asV ht) (BB a7 a8 hF a0 hH HP al (j+1) H a4 L O' V' _ N bb (hB.go X (cM.refl _ _)) h2 a5 R' (hg.ext X.ext)
    (λM G z x w r ab af R2 ag=>hk M G z x w r (X.trans ab) ((cM.refl _ _).trans af X.au) R2 ag)
    (λv2 M G z x w r ab af R2 ag=>a1 v2 M G z x w r (X.trans ab) ((cM.refl _ _).trans af X.au) R2 ag))
   split at h;rename_i b hb;obtain⟨hn,h⟩:=h;obtain⟨v,N,rv,br,cl,R',X⟩:=YJ R a0 hg hb hn;exact BA hF br (Y1 hb) (BB a7 a8 hF a0 hH HP al (j+1) b.s (nF s an) L _ V _ N bb (hB.go X (cM.refl _ _)) (h rv (by rw[a7];exact cl)) (FV R X.ext.agree a3) R' (hg.ext X.ext)
    (λM G z x w r ab af R2 ag=>hk M G z x w r (X.trans ab) ((cM.refl _ _).trans af X.au) R2 ag)
    (λv2 M G z x w r ab af R2 ag=>a1 v2 M G z x w r (X.trans ab) ((cM.refl _ _).trans af X.au) R2 ag))
   split at h;rename_i H bg;exact bt H an a3 (by rw[bg];rfl) h;rename_i b H bg;exact bt H an a3 (by rw[bg];exact⟨h.1,rfl⟩) h.2;rename_i b s1 M bg;obtain⟨a4,a5,h2⟩:=YZ a3 h;cases hb:b.den O;exact bt M a4 a5 (by rw[bg];simp[OR.gives,hb]) (by simpa[hb] using h2);exact bt s1 a4 a5 (by rw[bg];simp[OR.gives,hb]) (by simpa[hb] using h2);exact h.elim
  have b3:∀an,ss O an->(mE A C ops k kp al (s.put m.o.dst (.bK [])) an).aT p O L->wpOpsIn F n p.P ops Q (aEC (j+1) (Y al)) (a.put m.o.dst undef) W:=
   λan a3 h=>BB a7 a8 hF a0 hH HP al (j+1) _ an L O V _ W bb (hB.go ((bG.refl _ _ _).put _ _) (cM.refl _ _)) h a3 (R.put m.o.dst (.bK [])) hg
    (λM G z x w r ab af R2 ag=>hk M G z x w r (((bG.refl _ _ _).put _ _).trans ab) ((cM.refl _ _).trans af ((bG.refl s O V).put _ _).au) R2 ag)
    (λv2 M G z x w r ab af R2 ag=>a1 v2 M G z x w r (((bG.refl _ _ _).put _ _).trans ab) ((cM.refl _ _).trans af ((bG.refl s O V).put _ _).au) R2 ag)
  simp only[mE,PQ] at h;cases a9:m.o.guard with
  |none=>
   rw[a9] at h;have:Region.wanted m.o (yielded ops a.tmps)=true:=by simp[Region.wanted,a9]
   rw[if_pos this];exact b0 fx bs h
  |some q=>
   obtain⟨jj,cm⟩:=q;rw[a9] at h;simp only at h;split at h;rename_i d hd;have hy:=ahV R hd;split at h;rename_i b hb;have bk:=hy.1 b hb;cases cm;simp only[aDB,if_false] at h;obtain⟨a4,a5,h2⟩:=YZ bs h;cases a6:b.den O;have:Region.wanted m.o (yielded ops a.tmps)=true:=by simp[Region.wanted,a9,bk,a6]
   rw[if_pos this];exact b0 a4 a5 (by simpa[a6] using h2);have:¬Region.wanted m.o (yielded ops a.tmps)=true:=by simp[Region.wanted,a9,bk,a6]
   rw[if_neg this];exact⟨λf _=>hF.fn f,b3 a4 a5 (by simpa[a6] using h2)⟩;simp only[if_true] at h;obtain⟨a4,a5,h2⟩:=YZ bs h;cases a6:b.den O;have:¬Region.wanted m.o (yielded ops a.tmps)=true:=by simp[Region.wanted,a9,bk,a6]
   rw[if_neg this];exact⟨λf _=>hF.fn f,b3 a4 a5 (by simpa[a6] using h2)⟩;have:Region.wanted m.o (yielded ops a.tmps)=true:=by simp[Region.wanted,a9,bk,a6]
   rw[if_pos this];exact b0 a4 a5 (by simpa[a6] using h2);rename_i hb;have bk:=hy.2 hb;have:¬Region.wanted m.o (yielded ops a.tmps)=true:=by simp[Region.wanted,a9,bk]
   rw[if_neg this];exact⟨λf _=>hF.fn f,b3 fx bs h⟩;exact h.elim;exact h.elim
end
section
variable{d:aj}{m:World}{D:bR}{o:Ty}{V:aj}{O:ac}{s:S}{a:Act}{W:World}
def QI(X:aj):∀(l:bA)(n i:Nat),(pP X n l)[i]?=(l[i]?).map λx=>if X.contains (n+i) then x else Z
 |[],n,i=>by simp[pP]
 |x::R,n,0=>by simp[pP]
 |x::R,n,i+1=>by
  simp only[pP,aDO];rw[QI X R (n+1) i,show n+1+i=n+(i+1) by omega]
def Y2:∀(l:bA)(i:Nat),bX (ua l) i=bX l i
 |[],i=>rfl
 |x::R,i=>by
  have X:=Y2 R;simp only[ua];split;rename_i Q;cases i with
  |zero=>simp[cK]
  |succ i=>
   have:=X i;rw[Q] at this;simpa[cK] using this
  cases i with
  |zero=>simp[cK]
  |succ i=>simpa[cK] using X i
def ahY{l:bA}{b:TypeId×ai}(h:bX (ua (pP v 0 l)) X=U b):bX l X=U b:=by
 rw[Y2,i5,QI] at h;rw[i5];cases R:l[X]? with
 |none=>rw[R] at h;cases h
 |some x=>
  rw[R] at h;simp only[aDn,aDh] at h;split at h;rw[h];cases h
def QJ{l:bA}(h:aM (ua (pP v 0 l)) X=J):aM l X=true:=by
 obtain⟨b,R⟩:=aDw.1 h;simp[aM,ahY R]
def jD.X8{P:bA}{N:aE}(R:jD d m V O P o N W)(L:aj):jD d m V O (ua (pP L 0 P)) o N W:=
 ⟨R.base,λi h=>R.own i (QJ h),λi j X Q=>R.inj i j (QJ X) (QJ Q),λi t H h=>R.box i t H (ahY h),
  λk e M X Q=>⟨(R.ref k e M X Q).1,λb G i F=>(R.ref k e M X Q).2 b G i (QJ F)⟩⟩
def ahZ{l:bA}{i:Nat}{b:TypeId×ai}(h:bX (ua (l.take X)) i=U b):bX l i=U b:=by
 rw[Y2,i5,aDK] at h;rw[i5];split at h;exact h;cases h
def QK{l:bA}{i:Nat}(h:aM (ua (l.take X)) i=J):aM l i=true:=by
 obtain⟨b,R⟩:=aDw.1 h;simp[aM,ahZ R]
def jD.take{P:bA}{N:aE}(R:jD d m V O P o N W)(n:Nat):jD d m V O (ua (P.take n)) o N W:=
 ⟨R.base,λi h=>R.own i (QK h),λi j X Q=>R.inj i j (QK X) (QK Q),λi t L h=>R.box i t L (ahZ h),
  λk e M X Q=>⟨(R.ref k e M X Q).1,λb H i G=>(R.ref k e M X Q).2 b H i (QK G)⟩⟩
def vO:∀(X:aR)(s:S),(s.bW X).2.boxes=s.boxes/\(s.bW X).2.tmps=s.tmps/\(s.bW X).2.au=s.au/\(s.bW X).2.lk=s.lk
 |[],s=>⟨rfl,rfl,rfl,rfl⟩
 |k::X,s=>by
  simp only[S.bW];obtain⟨R,Q,P,N⟩:=vO X (s.fresh k).2;cases k<;>exact⟨R,Q,P,N⟩
def Y3:∀(X:aR)(s:S),(s.bW X).2.pd=s.pd
 |[],s=>rfl
 |k::X,s=>by
  simp only[S.bW];rw[Y3 X (s.fresh k).2];cases k<;>rfl
def IQ:∀(X:aW)(O:ac),(O.ext X).y=O.y
 |[],O=>rfl
 |x::X,O=>by
  simp only[ac.ext];rw[IQ X (O.add x)];cases x<;>rfl
def ah0:∀(X:aR)(s:S)(k:Nat)(e:RK),s.rs[k]?=U e->(s.bW X).2.rs[k]?=U e
 |[],s,k,e,h=>h
 |q::X,s,k,e,h=>by
  simp only[S.bW];refine ah0 X _ k e ?_;cases q;exact h;exact h;simp only[S.fresh];rw[aDg (aDd.1 h).1];exact h
def xK:∀(X:aR)(R:aW)(s:S)(O:ac),dP X R->Y O.i=s.ni->Y O.b=s.nb->Y O.r=Y s.rs->
  (O.ext R).i.length=(s.bW X).2.ni/\(O.ext R).b.length=(s.bW X).2.nb/\(O.ext R).r.length=(s.bW X).2.rs.length
 |[],[],s,O,_,Q,P,N=>⟨Q,P,N⟩
 |[],_::_,_,_,h,_,_,_=>by simp[dP] at h
 |_::_,[],_,_,h,_,_,_=>by simp[dP] at h
 |k::X,x::R,s,O,h,Q,P,N=>by
  obtain⟨L,M⟩:=h;simp only[S.bW,ac.ext];cases k<;>cases x<;>simp[pS] at L;exact xK X R _ _ M (by simp[S.fresh,ac.add,Q]) (by simp[S.fresh,ac.add,P]) (by simp[S.fresh,ac.add,N]);exact xK X R _ _ M (by simp[S.fresh,ac.add,Q]) (by simp[S.fresh,ac.add,P]) (by simp[S.fresh,ac.add,N]);exact xK X R _ _ M (by simp[S.fresh,ac.add,Q]) (by simp[S.fresh,ac.add,P]) (by simp[S.fresh,ac.add,N])
def FW{PP:RK->RV->Prop}:∀(R:aR)(Q:aW)(s:S)(O:ac),dP R Q->Y O.r=Y s.rs->
  (∀(q:Nat)(e:RK)(X:RV),R[q]?=U (.ref e)->Q[q]?=U (.r X)->PP e X)->(∀(k:Nat)(e:RK)(X:RV),s.rs[k]?=U e->O.r[k]?=U X->PP e X)->
  ∀(k:Nat)(e:RK)(X:RV),(s.bW R).2.rs[k]?=U e->(O.ext Q).r[k]?=U X->PP e X
 |[],[],s,O,_,_,_,M=>M
 |[],_::_,_,_,h,_,_,_=>by simp[dP] at h
 |_::_,[],_,_,h,_,_,_=>by simp[dP] at h
 |k::R,x::Q,s,O,h,L,C,M=>by
  obtain⟨H,G⟩:=h;have F:∀(q:Nat)(e:RK)(X:RV),R[q]?=U (.ref e)->Q[q]?=U (.r X)->PP e X:=λq e X P N=>C (q+1) e X (by simpa using P) (by simpa using N)
  simp only[S.bW,ac.ext];cases k<;>cases x<;>simp[pS] at H;exact FW R Q _ _ G (by simp[S.fresh,ac.add,L]) F (by simpa[S.fresh,ac.add] using M);exact FW R Q _ _ G (by simp[S.fresh,ac.add,L]) F (by simpa[S.fresh,ac.add] using M);rename_i B A;refine FW R Q _ _ G (by simp[S.fresh,ac.add,L]) F ?_;intro k e X P N;simp only[S.fresh,ac.add] at P N;by_cases H:k<Y s.rs;rw[aDg H] at P;rw[aDg (by omega)] at N;exact M k e X P N;have z:k=Y s.rs:=by
   have:=(aDd.1 P).1;simp at this;omega
  subst z;simp at P;rw[<-L] at N;simp at N;subst P N;exact C 0 B A rfl rfl
def Dj:aR->Nat
 |[]=>0
 |.ref _::X=>Dj X+1
 |_::X=>Dj X
def IR:∀(R:aR)(P:aW)(s:S)(O:ac),dP R P->Y O.r=Y s.rs->
  ∀(k:Nat)(e:RK)(Q:RV),(s.bW R).2.rs[k]?=U e->(O.ext P).r[k]?=U Q->(s.rs[k]?=U e/\O.r[k]?=U Q)\/∃q:Nat,R[q]?=U (.ref e)/\P[q]?=U (.r Q)/\k=Y s.rs+Dj (R.take q)
 |[],[],s,O,_,_,k,e,Q,N,M=>.inl ⟨N,M⟩
 |[],_::_,_,_,h,_,_,_,_,_,_=>by simp[dP] at h
 |_::_,[],_,_,h,_,_,_,_,_,_=>by simp[dP] at h
 |C::R,x::P,s,O,h,G,k,e,Q,N,M=>by
  obtain⟨B,F⟩:=h;simp only[S.bW,ac.ext] at N M;cases C<;>cases x<;>simp[pS] at B;rcases IR R P _ _ F (by simp[S.fresh,ac.add,G]) k e Q N M with X|⟨q,X⟩;exact .inl (by simpa[S.fresh,ac.add] using X);exact .inr ⟨q+1,by simpa[S.fresh,Dj] using X⟩;rcases IR R P _ _ F (by simp[S.fresh,ac.add,G]) k e Q N M with X|⟨q,X⟩;exact .inl (by simpa[S.fresh,ac.add] using X);exact .inr ⟨q+1,by simpa[S.fresh,Dj] using X⟩;rename_i y w;rcases IR R P _ _ F (by simp[S.fresh,ac.add,G]) k e Q N M with⟨L,H⟩|⟨q,X⟩;simp only[S.fresh,ac.add] at L H;by_cases A:k<Y s.rs;rw[aDg A] at L;rw[aDg (by omega)] at H;exact .inl ⟨L,H⟩;have z:k=Y s.rs:=by
   have:=(aDd.1 L).1;simp at this;omega
  subst z;simp at L;rw[<-G] at H;simp at H;subst L H;exact .inr ⟨0,rfl,rfl,by simp[Dj]⟩;refine .inr ⟨q+1,by simpa using X.1,by simpa using X.2.1, ?_⟩;have:=X.2.2;simp[S.fresh] at this;simp[Dj];omega
def ah1:∀{ks:aR}{q:Nat}{e:RK},ks[q]?=U (.ref e)->LU ks=J
 |[],q,e,h=>by simp at h
 |k::ks,0,e,h=>by simp at h;subst h;rfl
 |k::ks,q+1,e,h=>by
  have:=ah1 (ks:=ks) (q:=q) (by simpa using h);cases k<;>first|exact this|rfl
def QL:∀{R:aR}{q:Nat}{k:LK},ou R=J->R[q]?=U k->FA k=J
 |[],q,k,_,h=>by simp at h
 |Q::R,0,k,X,h=>by simp only[ou,aDc] at X;simp at h;subst h;exact X.1
 |Q::R,q+1,k,X,h=>by simp only[ou,aDc] at X;exact QL X.2 (by simpa using h)
def Y4{B:Nat}{M:Nat->Prop}:∀{N:aR}{P:aW},In o W B M N P->∀(q:Nat)(e:RK)(X:RV),N[q]?=U (.ref e)->P[q]?=U (.r X)->bz W o e X/\∀b,de o e X b->B<=b\/M b
 |[],P,_,q,e,X,R,_=>by simp at R
 |_::_,[],_,q,e,X,_,Q=>by simp at Q
 |k::N,x::P,h,0,e,X,R,Q=>by simp at R Q;subst R Q;exact h.1
 |k::N,x::P,h,q+1,e,X,R,Q=>Y4 h.2 q e X (by simpa using R) (by simpa using Q)
def az.called(R:az d m D o V O s a W)(v:s.bd=J){P:aR}(g:ou P=J){M:aW}(B:dP P M)(u:Below W.heap.size W e){f:Nat->Prop}(c:∀b,f b->O.ow o s.rs b/\∀(k:Nat)(X:TypeId)(Q:RV),s.rs[k]?=U (.own X)->O.r[k]?=U Q->Q.jS=U b->LU P=E)
  (hh:In o e W.heap.size f P M):
  az d m D o V (O.ext M) (s.bW P).2 a e:=by
 obtain⟨L,e2,e3,e4⟩:=vO P s;obtain⟨l1,l2,l3⟩:=xK P M s O B R.ei R.eb R.er;obtain⟨ab,af⟩:=R.xD v;have hE:=Bu s.boxes O M V;have H:=R.mem.below u;refine⟨⟨H.base,by rw[L];exact H.own,by rw[L];exact H.inj, ?_, ?_⟩,by rw[L];exact R.fp,l1,l2,l3,by rw[IQ,Y3];exact R.cP.below u,by rw[e2];exact R.size, ?_, ?_⟩;rw[L];intro i t cs h;rw[hE.cN (qV af h)];exact H.box i t cs h;rw[L];refine FW (PP:=λX Q=>bz e o X Q/\∀b,de o X Q b->∀i,aM s.boxes i=J->ad V i≠b) P M s O B R.er ?_ (λk X Q N G=>H.ref k X Q N G);intro q X Q N G;obtain⟨A,h4⟩:=Y4 hh q X Q N G;refine⟨A,λb v i hi=> ?_⟩;rcases h4 b v with F|F;have:=R.mem.lt hi;omega;obtain⟨⟨k,z,hk,hx⟩,-⟩:=c b F;exact(R.mem.ref k _ _ hk (sr R hk)).2 b hx i hi;rw[e2];intro t sv h;rcases R.tmps t sv h with N|N;exact .inl N;right;rw[hE.den (uh ab h)];exact N;rw[L];intro k X Q b N G A;rcases IR P M s O B R.er k _ Q N G with⟨y,n⟩|⟨q,y,n,-⟩;have t:=R.dJ k X Q b y n A;have x:=t.world (u.block b t.lt);refine⟨x.own,x.mem,x.box,λk' z l q1 q2 q3 w=> ?_,x.inner⟩;rcases IR P M s O B R.er k' z l q2 q3 with⟨C,j⟩|⟨q,C,j,-⟩;exact t.alone k' z l q1 C j w;have hr:=ah1 C;obtain⟨p3,p4⟩:=Y4 hh q z l C j;rcases w with w|⟨⟨t0,rfl⟩,_⟩;rcases p4 b w with F|F;have:=t.lt;omega;have:=(c b F).2 k X Q y n A;rw[hr] at this;cases this;have:=QL g C;simp[FA] at this;have:=QL g y;simp[FA] at this
def ah2(R:az d m D o V O s a W){M:ai}{H:aR}{b:Nat}(h:O.ow o (LW M s.rs) b):
  O.ow o (Bh M H s.rs) b/\∀(k:Nat)(e:TypeId)(L:RV),(Bh M H s.rs)[k]?=U (.own e)->O.r[k]?=U L->L.jS=U b->LU H=false:=by
 obtain⟨Q,u,X,C⟩:=h;unfold LW at X;rw[Yt] at X;cases P:s.rs[Q]? with
 |none=>rw[P] at X;cases X
 |some x=>
  rw[P] at X;simp only[aDM,aDn,aDh] at X;have B:=ag7 ((LV M (Y s.rs)).contains Q) x;rw[X] at B;have N:de o x (O.rv Q) b:=C.mc B;refine⟨?_,λk e L G y w=> ?_⟩;unfold Bh;split;refine⟨Q,xo ((LV M (Y s.rs)).contains Q) x,by rw[IB,P];simp, ?_⟩;cases x<;>simp only[xo]<;>try exact N
  split;cases N with
  |own e L b N=>exact N
  exact N;exact⟨Q,x,P,N⟩;unfold Bh at G;split at G;rename_i A;exfalso;obtain⟨F,v⟩:=Yz G;by_cases z:Q=k;subst z;rw[P] at F;cases F;simp only[LN] at X;rw[if_neg (by simpa using v)] at X;subst X;cases C;exact(R.dJ k e L b F y w).alone Q x (O.rv Q) z P (sr R P) (.inl N);rename_i A;simpa using A
def Dk(R:ai)(Q:aR)(X:aE):oz X (Bh R Q X):=by
 unfold Bh;split;exact Qm _ _;exact oz.refl _
end
section
variable{p:Sp}{c:bB}
def ah3(x:p.ty=c.ty)(q:∀g,(c.sig g).isSome=J->∀X W,(callFunc g X).run p.P W=.ok (.enter g X) W)
  (D:bR)(L:cZ)(g:FuncId)(X:ai)(s:S)(k:SV->S->T)(O:ac)(V:aj)(a:Act)(W:World)(C:Ending->World->Prop)
  (h:(xu c g X s k).aT p O L)(R:az p.S0 p.w0 D c.ty V O s a W)
  (n:∀v B H A Q w,bG s O V B H A->cM s.au L w->az p.S0 p.w0 D c.ty A H B a Q->(k v B).aT p H w->C (.returned (v.den H A)) Q)
  (j:∀G Q i y,dE p.w0 D i y a.defers Q->p.R (.panicked G) Q->C (.panicked G) Q):
  (∀X W,(callFunc g X).run p.P W=.ok (.enter g X) W)/\Calls p.P g (SV.aD O V X).toArray W C:=by
 unfold xu at h;split at h;rename_i ts f;refine⟨q g (by rw[f];rfl), ?_⟩;split at h;rename_i M af;split at h;rename_i l hl;split at h;rename_i N;simp only[S.dV,aDc] at N;obtain⟨N,ab⟩:=N;simp only[T.aT] at h;have:=h O.y V W (by rw[x];exact(R.mem.X8 _).mc (ag8 _ _));refine this.mono ?_;intro e Q F;cases e with
 |returned v=>
  obtain⟨z,h1,u,h3,t,h5⟩:=F;rw[x] at t;obtain⟨r,e2,e3,e4⟩:=vO M (s.cut X M);have hy:(O.ext z).at O.y=O.ext z:=by have:=IQ z O;unfold ac.at;rw[<-this]
  rw[hy] at u;subst u;have R1:az p.S0 p.w0 D c.ty V O (s.cut X M) a W:=R.mc (Dk X M s.rs);exact n _ _ _ V Q L ⟨Bu _ _ _ _,by rw[r];exact λ_ h=>h,by rw[r];exact aDm _,by rw[e3];exact aDm _⟩ (cM.refl _ _) (R1.called (Mt N.1 (Dk X M s.rs).len) ab h1 h3 (λb N=>ah2 R N) t) h5
 |panicked G=>exact j G Q _ _ (R.cP.below F.1) F.2
 |outgrown=>exact F.elim
 exact h.elim;exact h.elim;exact h.elim;exact h.elim
def Y5{d:aj}{m:World}{D:bR}{V:aj}{O:ac}{s:S}{a:Act}{W:World}(R:az d m D c.ty V O s a W)(M:gY p.P c.ty)(f:ResultVar->Sem Value)(L:∀t,f (.tmp t)=pure (a.tmps.getD t undef))(H:∀x t,f (.cell x t)=(asAddr (a.tmps.getD x undef)>>=λy=>loadVar t y)):
  ∀(X:pN)(l:ai),sd c s X=U l->(X.mapM f).run p.P W=.ok (SV.aD O V l) W
 |[],l,h=>by simp[sd] at h;subst h;rfl
 |.tmp t::X,l,h=>by
  simp only[sd] at h;split at h;rename_i G F;split at h;cases h;rename_i A;cases h;have N:=cJ (gl:=[]) R (λ_ Q=>by cases Q) (.tmp t) (by simpa[S.ev,vx] using A);simp only[Act.eval,S.ev,vx] at N;simp only[aGA,Sem.run_bind,L,Sem.run_pure,Result.andThen_ok,Y5 R M f L H X G F,SV.aD,N];cases h
 |.cell x t::X,l,h=>by
  simp only[sd] at h;split at h;rename_i G i k g F Q z;split at h;rename_i w u C;split at h;rename_i v r;cases h;have N:=cJ (gl:=[]) R (λ_ Q=>by cases Q) (.tmp x) (by simp only[S.ev,vx,Q];rfl);simp only[Act.eval,S.ev,vx,Q,SV.den] at N;have B:=Qd (P:=p.P) (W:=W) (M _ _ z) (O:=O) (V:=V) (b:=ad V i) (base:=0) r (λj y q=>by
   obtain⟨C,n⟩:=xC C;have:=R.mem.box i w u C;rw[qW n] at this;simp[World.cell?,this,qS,q])
  simp only[Instr.loadAt,Instr.sureAddr,aDM,Sem.run_bind,Sem.run_pure,Result.andThen_ok] at B;simp only[aGA,Sem.run_bind,H,N,asAddr,Sem.run_pure,Result.andThen_ok,B,Y5 R M f L H X G F,SV.aD];cases h;cases h;cases h
def ME{D:bR}{V:aj}{a:Act}{W:World}(X:az v e D c.ty V N R a W)(L:gY p.P c.ty){M:Func}{l:ai}(h:sd c R M.results.toList=U l):
  (results M a.tmps).run p.P W=.ok ((one l).den N V) W:=by
 unfold results;rw[aGc];simp only[Sem.run_bind,Sem.run_map];rw[Y5 X L _ (λ_=>rfl) (λ_ _=>rfl) M.results.toList l h];simp only[Result.andThen_ok,Sem.run_pure];congr 1
 match l with
 |[]=>rfl
 |[Q]=>rfl
 |Q::w::r=>rfl
end
section
variable{d:aj}{m:World}{D:bR}{ty:Ty}{V:aj}{O:ac}{s:S}{a:Act}{W:World}
def XV.at(k:LK):XV->Value
 |.i n=>match k with
  |.int k=>.int k n
  |_=>undef
 |.b x=>.bool x
 |.r v=>v.val
def XV.MF(k:LK)(x:XV):RV:=match x with
 |.r v=>v
 |x=>.mk (x.at k) []
def asW{k:LK}(h:Bg R k x=J):(x.xv N).MF k=x.f8 N v:=by
 unfold Bg at h;split at h;simp at h;subst h;rfl;rfl;rfl;rfl;rfl;rfl;cases h
def ah4{V1:aj}{k:LK}(h:Bg R k x=J):(x.xv N).at k=x.den N V1/\pS k (x.xv N):=by
 unfold Bg at h;split at h;simp at h;subst h;exact⟨rfl,trivial⟩;exact⟨rfl,trivial⟩;exact⟨rfl,trivial⟩;exact⟨rfl,trivial⟩;exact⟨rfl,trivial⟩;exact⟨rfl,trivial⟩;cases h
def ah5{N:S}:∀{X:aR}{R:ai},qP N X R=J->Y X=Y R/\∀(q:Nat)(k:LK)(v:SV),X[q]?=U k->R[q]?=U v->Bg N k v=J
 |[],[],_=>⟨rfl,λq k v h _=>by simp at h⟩
 |[],_::_,h=>by simp[qP] at h
 |_::_,[],h=>by simp[qP] at h
 |k::X,v::R,h=>by
  simp only[qP,aDc] at h;obtain⟨M,L⟩:=ah5 h.2;refine⟨by simp[M],λq H G Q P=> ?_⟩;cases q with
  |zero=>simp at Q P;subst Q P;exact h.1
  |succ q=>exact L q H G (by simpa using Q) (by simpa using P)
def Y6{Q:S}{O1:ac}:∀{X:aR}{R:ai},qP Q X R=J->dP X (R.map (SV.xv O1))
 |[],[],_=>trivial
 |[],_::_,h=>by simp[qP] at h
 |_::_,[],h=>by simp[qP] at h
 |k::X,v::R,h=>by
  simp only[qP,aDc] at h;exact⟨(ah4 (V1:=[]) h.1).2,Y6 h.2⟩
def QM:∀(R:aR)(X:aW)(s:S)(O:ac),dP R X->Y O.i=s.ni->Y O.b=s.nb->Y O.r=Y s.rs->
  ∀(q:Nat)(k:LK)(x:XV)(v:SV),R[q]?=U k->X[q]?=U x->(s.bW R).1[q]?=U v->v.den (O.ext X) V=x.at k/\v≠ .any
 |[],_,_,_,_,_,_,_,q,k,x,v,h,_,_=>by simp at h
 |_::_,[],_,_,h,_,_,_,q,k,x,v,_,_,_=>by simp[dP] at h
 |C::R,G::X,s,O,B,M,L,H,0,k,x,v,Q,P,N=>by
  obtain⟨A,F⟩:=B;simp only[S.bW,aEb,aDh] at Q P N;subst Q P N;have z:=Da X (O.add G);simp only[ac.ext];cases C<;>cases G<;>simp[pS] at A;refine⟨?_,by simp[S.fresh]⟩;simp only[S.fresh,SV.den,IE.den,XV.at];rw[z.i _ (by simp[ac.add,M])];simp[ac.add,<-M];refine⟨?_,by simp[S.fresh]⟩;simp only[S.fresh,SV.den,BE.den,XV.at];rw[z.b _ (by simp[ac.add,L])];simp[ac.add,<-L];refine⟨?_,by simp[S.fresh]⟩;simp only[S.fresh,SV.den,RE.den,RE.rv,XV.at];rw[z.r _ (by simp[ac.add,H])];simp[ac.add,ac.rv,<-H]
 |C::R,G::X,s,O,B,M,L,H,q+1,k,x,v,Q,P,N=>by
  obtain⟨A,F⟩:=B;simp only[S.bW,aDO] at Q P N;simp only[ac.ext];cases C<;>cases G<;>simp[pS] at A;exact QM R X _ _ F (by simp[S.fresh,ac.add,M]) (by simp[S.fresh,ac.add,L]) (by simp[S.fresh,ac.add,H]) q k x v Q P N;exact QM R X _ _ F (by simp[S.fresh,ac.add,M]) (by simp[S.fresh,ac.add,L]) (by simp[S.fresh,ac.add,H]) q k x v Q P N;exact QM R X _ _ F (by simp[S.fresh,ac.add,M]) (by simp[S.fresh,ac.add,L]) (by simp[S.fresh,ac.add,H]) q k x v Q P N
def QN:∀(R:aR)(X:aW)(s:S)(O:ac),dP R X->Y O.i=s.ni->Y O.b=s.nb->Y O.r=Y s.rs->
  ∀(q:Nat)(k:LK)(x:XV)(v:SV),R[q]?=U k->X[q]?=U x->(s.bW R).1[q]?=U v->v.f8 (O.ext X) V=x.MF k
 |[],_,_,_,_,_,_,_,q,k,x,v,h,_,_=>by simp at h
 |_::_,[],_,_,h,_,_,_,q,k,x,v,_,_,_=>by simp[dP] at h
 |C::R,G::X,s,O,B,M,L,H,0,k,x,v,Q,P,N=>by
  obtain⟨A,F⟩:=B;simp only[S.bW,aEb,aDh] at Q P N;subst Q P N;have z:=Da X (O.add G);simp only[ac.ext];cases C<;>cases G<;>simp[pS] at A
  skip
  simp only[S.fresh,SV.f8,SV.den,IE.den,XV.MF,XV.at];rw[z.i _ (by simp[ac.add,M])];simp[ac.add,<-M]
  skip
  simp only[S.fresh,SV.f8,SV.den,BE.den,XV.MF,XV.at];rw[z.b _ (by simp[ac.add,L])];simp[ac.add,<-L]
  skip
  simp only[S.fresh,SV.f8,RE.rv,XV.MF];rw[z.r _ (by simp[ac.add,H])];simp[ac.add,ac.rv,<-H]
 |C::R,G::X,s,O,B,M,L,H,q+1,k,x,v,Q,P,N=>by
  obtain⟨A,F⟩:=B;simp only[S.bW,aDO] at Q P N;simp only[ac.ext];cases C<;>cases G<;>simp[pS] at A;exact QN R X _ _ F (by simp[S.fresh,ac.add,M]) (by simp[S.fresh,ac.add,L]) (by simp[S.fresh,ac.add,H]) q k x v Q P N;exact QN R X _ _ F (by simp[S.fresh,ac.add,M]) (by simp[S.fresh,ac.add,L]) (by simp[S.fresh,ac.add,H]) q k x v Q P N;exact QN R X _ _ F (by simp[S.fresh,ac.add,M]) (by simp[S.fresh,ac.add,L]) (by simp[S.fresh,ac.add,H]) q k x v Q P N
def ah6:∀(X:aR)(s:S),(s.bW X).1.length=Y X
 |[],_=>rfl
 |k::X,s=>by simp[S.bW,ah6 X]
def ah7{n:Nat}:∀{R:List (Nat×LK)}{X:ai}{v:SV},uc n R X=U v->∃(q:Nat)(k:LK),R[q]?=U (n,k)/\X[q]?=U v
 |[],X,v,h=>by simp[uc] at h
 |_::_,[],v,h=>by simp[uc] at h
 |(t,k)::r,x::L,v,h=>by
  simp only[uc] at h;split at h;rename_i Q;cases h;simp at Q;subst Q;exact⟨0,k,rfl,rfl⟩;obtain⟨q,P,N,M⟩:=ah7 h;exact⟨q+1,P,by simpa using N,by simpa using M⟩
def ah8{n:Nat}:∀{X:List (Nat×LK)}{R:ai},Y X<=Y R->uc n X R=Z->X.any (·.1==n)=E
 |[],R,_,h=>rfl
 |_::_,[],Q,h=>by simp at Q
 |(t,k)::r,x::N,Q,h=>by
  simp only[uc] at h;split at h;cases h;rename_i P;simp only[List.any_cons,aDW];exact⟨by simpa using P,ah8 (by simpa using Q) h⟩
def ah9{b n:Nat}:∀{R:List (Nat×Nat×LK)}{X:ai}{v:SV},zw b n R X=U v->∃(q:Nat)(k:LK),R[q]?=U (b,n,k)/\X[q]?=U v
 |[],X,v,h=>by simp[zw] at h
 |_::_,[],v,h=>by simp[zw] at h
 |(L,t,k)::r,x::H,v,h=>by
  simp only[zw] at h;split at h;rename_i Q;cases h;simp at Q;obtain⟨rfl,rfl⟩:=Q;exact⟨0,k,rfl,rfl⟩;obtain⟨q,P,N,M⟩:=ah9 h;exact⟨q+1,P,by simpa using N,by simpa using M⟩
def aia{b n:Nat}:∀{X:List (Nat×Nat×LK)}{R:ai},Y X<=Y R->zw b n X R=Z->X.any (λc=>c.1==b&&c.2.1==n)=E
 |[],R,_,h=>rfl
 |_::_,[],Q,h=>by simp at Q
 |(N,t,k)::r,x::M,Q,h=>by
  simp only[zw] at h;split at h;cases h;rename_i P;simp only[List.any_cons,aDW];exact⟨by simpa using P,aia (by simpa using Q) h⟩
def aib(X:eF)(R:aj)(Q:ai):∀(l:ai)(n i:Nat),(zx X R Q n l)[i]?=(l[i]?).map λx=>(uc (n+i) X.tm Q).getD (if R.contains (n+i) then .any else x)
 |[],n,i=>by simp[zx]
 |x::P,n,0=>by simp[zx]
 |x::P,n,i+1=>by
  simp only[zx,aDO];rw[aib X R Q P (n+1) i,show n+1+i=n+(i+1) by omega]
def aic(X:eF)(R:ai)(b:Nat):∀(l:ai)(n i:Nat),(Fy X R b n l)[i]?=(l[i]?).map λx=>(zw b (n+i) X.cl R).getD x
 |[],n,i=>by simp[Fy]
 |x::Q,n,0=>by simp[Fy]
 |x::Q,n,i+1=>by
  simp only[Fy,aDO];rw[aic X R b Q (n+1) i,show n+1+i=n+(i+1) by omega]
def MG(R:eF)(Q:ai):∀(l:bA)(n i:Nat),bX (se R Q n l) i=(bX l i).map λx=>(x.1,Fy R Q (n+i) 0 x.2)
 |[],n,i=>by simp[se,cK]
 |Z::X,n,0=>by simp[se,cK]
 |U (t,P)::X,n,0=>by simp[se,cK]
 |Z::X,n,i+1=>by
  have:=MG R Q X (n+1) i;rw[show n+1+i=n+(i+1) by omega] at this;simpa[se,cK] using this
 |U (t,P)::X,n,i+1=>by
  have:=MG R Q X (n+1) i;rw[show n+1+i=n+(i+1) by omega] at this;simpa[se,cK] using this
def QO(X:eF)(R:ai):∀(l:bA)(n:Nat),(se X R n l).length=Y l
 |[],n=>rfl
 |Z::Q,n=>by simp[se,QO X R Q]
 |U (t,P)::Q,n=>by simp[se,QO X R Q]
def aid(X:eF)(R:aj)(Q:ai):∀(l:ai)(n:Nat),(zx X R Q n l).length=Y l
 |[],n=>rfl
 |x::P,n=>by simp[zx,aid X R Q P]
def Y7{N:eF}{M:aj}:∀{l R:ai}{n:Nat},xt N M n l R=J->Y l=Y R/\∀(i:Nat)(x y:SV),l[i]?=U x->R[i]?=U y->N.tm.any (·.1==n+i)=J\/M.contains (n+i)=J\/x=y
 |[],[],n,_=>⟨rfl,λi x y h _=>by simp at h⟩
 |[],_::_,n,h=>by simp[xt] at h
 |_::_,[],n,h=>by simp[xt] at h
 |x::C,y::B,n,h=>by
  simp only[xt,aDc,aDE] at h;obtain⟨L,H⟩:=Y7 h.2;refine⟨by simp[L],λi G F Q P=> ?_⟩;cases i with
  |zero=>
   simp only[aEb,aDh] at Q P;subst Q P;rcases h.1 with(X|X)|X;exact .inl X;exact .inr (.inl X);exact .inr (.inr (SV.bL _ _ X))
  |succ i=>
   have:=H i G F (by simpa using Q) (by simpa using P);rw[show n+(i+1)=n+1+i by omega];exact this
def aie{N:eF}{b:Nat}:∀{l X:ai}{n:Nat},Fz N b n l X=J->Y l=Y X/\∀(i:Nat)(x y:SV),l[i]?=U x->X[i]?=U y->N.cl.any (λc=>c.1==b&&c.2.1==n+i)=J\/x=y
 |[],[],n,_=>⟨rfl,λi x y h _=>by simp at h⟩
 |[],_::_,n,h=>by simp[Fz] at h
 |_::_,[],n,h=>by simp[Fz] at h
 |x::F,y::C,n,h=>by
  simp only[Fz,aDc,aDE] at h;obtain⟨M,L⟩:=aie h.2;refine⟨by simp[M],λi H G R Q=> ?_⟩;cases i with
  |zero=>
   simp only[aEb,aDh] at R Q;subst R Q;rcases h.1 with P|P;exact .inl P;exact .inr (SV.bL _ _ P)
  |succ i=>
   have:=L i H G (by simpa using R) (by simpa using Q);rw[show n+(i+1)=n+1+i by omega];exact this
def Y8{G:eF}:∀{l M:bA}{n:Nat},qO G n l M=J->∀(i:Nat)(t:TypeId)(R:ai),bX l i=U (t,R)->∃Q,bX M i=U (t,Q)/\Fz G (n+i) 0 R Q=J
 |[],M,n,_,i,t,R,h=>by simp[cK] at h
 |Z::P,[],n,X,i,t,R,h=>by simp[qO] at X
 |Z::P,y::N,n,X,0,t,R,h=>by simp[cK] at h
 |Z::P,y::N,n,X,i+1,t,R,h=>by
  simp only[qO] at X;obtain⟨Q,L,H⟩:=Y8 X i t R (by simpa[cK] using h);exact⟨Q,by simpa[cK] using L,by rw[show n+(i+1)=n+1+i by omega];exact H⟩
 |U x::P,[],n,X,i,t,R,h=>by simp[qO] at X
 |U x::P,Z::N,n,X,i,t,R,h=>by simp[qO] at X
 |U x::P,U y::N,n,X,0,t,R,h=>by
  simp only[qO,aDc,beq_iff_eq] at X;simp only[cK,aEb,aDh] at h⊢;subst h;exact⟨y.2,by rw[show(t:TypeId)=y.1 from X.1.1],X.1.2⟩
 |U x::P,U y::N,n,X,i+1,t,R,h=>by
  simp only[qO,aDc] at X;obtain⟨Q,L,H⟩:=Y8 X.2 i t R (by simpa[cK] using h);exact⟨Q,by simpa[cK] using L,by rw[show n+(i+1)=n+1+i by omega];exact H⟩
def aif{R:eF}{n:Nat}{k:LK}(Q:R.tm[X]?=U (n,k)):R.ks[X]?=U k:=by
 have P:X<Y R.tm:=(aDd.1 Q).1;unfold eF.ks;rw[aDg (by simpa using P),aDj,Q];rfl
def aig{Q:eF}{n:Nat}{k:LK}(P:Q.tm[X]?=U (n,k))(N:R.tmps[n]?=U x):(jA Q R)[X]?=U x:=by
 have M:X<Y Q.tm:=(aDd.1 P).1;unfold jA;rw[aDg (by simpa using M),aDj,P];simp[N]
def BC{k:Nat}(h:k<X):ad (v.take X) k=ad v k:=by simp[ad,h]
def asX(X:eF)(s:S):(gW X s).length=Y s.rs:=zH _ _ _
def aih:∀{l R:aE},xq l R=J->∀(k:Nat)(e:RK),l[k]?=U e->∃Q,R[k]?=U Q/\(e=.dead\/Q=e)
 |[],R,_,k,e,h=>by simp at h
 |x::P,[],h,_,_,_=>by simp[xq] at h
 |x::P,y::N,h,0,e,X=>by
  simp only[xq,aDc,aDE,decide_eq_true_eq] at h;simp at X;subst X;exact⟨y,rfl,h.1.imp id Eq.symm⟩
 |x::P,y::N,h,k+1,e,X=>by
  simp only[xq,aDc] at h;exact aih h.2 k e (by simpa using X)
def QP:∀{R:aR}{X:ai}{q:Nat}{e:TypeId}{k:Nat},R[q]?=U (.ref (.own e))->X[q]?=U (.ref (.v k))->k∈Bf R X
 |[],X,q,e,k,h,_=>by simp at h
 |_::_,[],q,e,k,_,h=>by simp at h
 |N::R,v::X,0,e,k,Q,P=>by simp at Q P;subst Q P;simp[Bf,PS]
 |N::R,v::X,q+1,e,k,Q,P=>by
  simp only[Bf,aDo];right;exact QP (q:=q) (by simpa using Q) (by simpa using P)
def QQ:∀{a b:aj},lH (a++b)=J->lH b=J/\∀x∈a,x∉b
 |[],b,h=>⟨h,by simp⟩
 |x::a,b,h=>by
  simp only[aDi,lH,aDc] at h;obtain⟨R,Q⟩:=QQ h.2;refine⟨R,λy X=> ?_⟩;rcases aDp.1 X with rfl|X;intro P;have:=h.1;simp[P] at this;exact Q y X
def aii:∀{N:aR}{R:ai}{q Q:Nat}{e M:TypeId}{k X:Nat},lH (Bf N R)=J->N[q]?=U (.ref (.own e))->R[q]?=U (.ref (.v k))->N[Q]?=U (.ref (.own M))->R[Q]?=U (.ref (.v X))->q≠Q->k≠X
 |[],R,q,Q,e,M,k,X,_,h,_,_,_,_=>by simp at h
 |_::_,[],q,Q,e,M,k,X,_,_,h,_,_,_=>by simp at h
 |C::N,v::R,0,0,e,M,k,X,_,_,_,_,_,h=>absurd rfl h
 |C::N,v::R,0,Q+1,e,M,k,X,P,L,H,G,F,_=>by
  simp at L H;subst L H;simp only[Bf] at P;have:=(QQ P).2 k (by simp[PS]);intro B;subst B;exact this (QP (q:=Q) (by simpa using G) (by simpa using F))
 |C::N,v::R,q+1,0,e,M,k,X,P,L,H,G,F,_=>by
  simp at G F;subst G F;simp only[Bf] at P;have:=(QQ P).2 X (by simp[PS]);intro B;subst B;exact this (QP (q:=q) (by simpa using L) (by simpa using H))
 |C::N,v::R,q+1,Q+1,e,M,k,X,P,L,H,G,F,A=>by
  simp only[Bf] at P;exact aii (QQ P).1 (by simpa using L) (by simpa using H) (by simpa using G) (by simpa using F) (by omega)
def az.head{ty:Ty}{P:eF}{n:aj}{a1:Act}(bJ:s.bd=J)(ei:Y O.i=s.ni)(eb:Y O.b=s.nb)(er:Y O.r=Y s.rs)
  (f:bG s O V R N n)(R1:az d m D ty n N R a1 e)(hT:xt P v 0 s.tmps R.tmps=J)(hB:qO P 0 s.boxes R.boxes=J)(hf:qP R P.ks (jA P R)=J)
  (hR:xq (gW P s) R.rs=J)(hO:Fw (gW P s) (Fv P R)=J)(b1:R.pd=s.pd):
  az d m D ty (n.take (Y s.boxes)) (O.ext ((jA P R).map (SV.xv N))) (o7 P v s) a1 e:=by
 obtain⟨b2,b3⟩:SV.db (Y O.i) (Y O.b) (Y O.r) (aM s.boxes) s.tmps=J/\SV.oZ (Y O.i) (Y O.b) (Y O.r) (aM s.boxes) s.boxes=true:=by
  simp only[S.bd,aDc] at bJ;rw[ei,eb,er];exact bJ
 have al:=Y6 (O1:=N) hf;have ap:Y O.r=(gW P s).length:=by rw[asX];exact er
 obtain⟨cv,a4⟩:=ah5 hf;generalize a7:(jA P R).map (SV.xv N)=o at*;obtain⟨e1,e2,e3,e4⟩:=vO P.ks {s with au:=s.au+1,rs:=gW P s};obtain⟨l1,l2,l3⟩:=xK P.ks o {s with au:=s.au+1,rs:=gW P s} O al ei eb ap;have bb:=Bu s.boxes O o V;have b4:=QM (V:=n.take (Y s.boxes)) P.ks o {s with au:=s.au+1,rs:=gW P s} O al ei eb ap;have bf:=ah6 P.ks {s with au:=s.au+1,rs:=gW P s};have bg:Y P.ks=Y P.tm+Y P.cl:=by simp[eF.ks]
 have a0:∀i,aM (se P (((({s with au:=s.au+1,rs:=gW P s}:S).bW P.ks).1).drop (Y P.tm)) 0 s.boxes) i=J->aM s.boxes i=J/\i<Y s.boxes:=by
  intro i hi;unfold aM at hi;rw[MG] at hi;have:(bX s.boxes i).isSome=true:=by simpa using hi
  obtain⟨b,G⟩:=aDw.1 this;exact⟨this,(aDd.1 (i5.1 G)).1⟩
 have b5:∀X:SV,X.bd (Y O.i) (Y O.b) (Y O.r) (aM s.boxes)=J->X.den (O.ext o) (n.take (Y s.boxes))=X.den N n:=by
  intro X hv;rw[f.ext.den hv];refine SV.dj bb.agree (λk hk=> ?_) X hv;have a2:k<Y s.boxes:=by
   obtain⟨b,G⟩:=aDw.1 hk;exact(aDd.1 (i5.1 G)).1
  rw[BC a2];exact f.ext.ad k hk
 have b6:∀(q:Nat)(k:LK)(X w:SV),P.ks[q]?=U k->(jA P R)[q]?=U w->(({s with au:=s.au+1,rs:=gW P s}:S).bW P.ks).1[q]?=U X->X.den (O.ext o) (n.take (Y s.boxes))=w.den N n/\X≠ .any:=by
  intro q k X w hk hw hv;have hx:o[q]?=U (w.xv N):=by rw[<-a7];simp[hw]
  obtain⟨M,L⟩:=b4 q k _ X hk hx hv;exact⟨M.trans (ah4 (V1:=n) (a4 q k w hk hw)).1,L⟩
 have b7:∀X:SV,X.bd (Y O.i) (Y O.b) (Y O.r) (aM s.boxes)=J->X.f8 (O.ext o) (n.take (Y s.boxes))=X.f8 N n:=by
  intro X hv;rw[X9 f.ext.agree f.ext.ad X hv];refine X9 bb.agree (λk hk=> ?_) X hv;have a2:k<Y s.boxes:=by
   obtain⟨b,G⟩:=aDw.1 hk;exact(aDd.1 (i5.1 G)).1
  rw[BC a2];exact f.ext.ad k hk
 have b8:∀(q:Nat)(k:LK)(X w:SV),P.ks[q]?=U k->(jA P R)[q]?=U w->(({s with au:=s.au+1,rs:=gW P s}:S).bW P.ks).1[q]?=U X->X.f8 (O.ext o) (n.take (Y s.boxes))=w.f8 N n:=by
  intro q k X w hk hw hv;have hx:o[q]?=U (w.xv N):=by rw[<-a7];simp[hw]
  rw[QN (V:=n.take (Y s.boxes)) P.ks o {s with au:=s.au+1,rs:=gW P s} O al ei eb ap q k _ X hk hx hv];exact asW (a4 q k w hk hw)
 have bk:∀(k:Nat)(Q:RK)(F:RV),(gW P s)[k]?=U Q->O.r[k]?=U F->∃e1,R.rs[k]?=U e1/\N.r[k]?=U F/\(Q=.dead\/e1=Q):=by
  intro k Q F M L;have hk:k<Y O.r:=(aDd.1 L).1;have ca:k<Y N.r:=aFh hk f.ext.lr;have cc:N.r[k]?=U F:=by
   have:=f.ext.agree.r k hk;simp only[ac.rv,aDf,L,aDS] at this;rw[aDe ca] at this⊢;simpa using this
  obtain⟨H,h3,h4⟩:=aih hR k Q M;exact⟨H,h3,cc,h4⟩
 have bl:∀(q:Nat)(Q:RK)(F:RV),P.ks[q]?=U (.ref Q)->o[q]?=U (.r F)->(∃A:Nat,(jA P R)[q]?=U (.ref (.v A))/\R.rs[A]?=U Q/\N.r[A]?=U F)\/(F=.mk (.slice Z 0 0) []/\∃t sh,Q=.sl t\/Q=.own t\/Q=.mr sh):=by
  intro q Q F M L;rw[<-a7,aDj] at L;cases hw:(jA P R)[q]? with
  |none=>rw[hw] at L;cases L
  |some w=>
   rw[hw] at L;simp only[aDn,aDh] at L;have a5:=a4 q _ w M hw;unfold Bg at a5;split at a5;rename_i af;cases af;rename_i af;cases af;rename_i H k af;cases af;simp only[SV.xv,XV.r.injEq] at L;have bo:R.rs[k]?=U Q:=by simpa using a5
   refine .inl ⟨k,rfl,bo, ?_⟩;rw[<-L];exact sr R1 bo;rename_i H af;cases af;simp only[SV.xv,XV.r.injEq,RE.rv] at L;exact .inr ⟨L.symm,_,⟨0,0,0,E,E⟩,.inl rfl⟩;rename_i H af;cases af;simp only[SV.xv,XV.r.injEq,RE.rv] at L;exact .inr ⟨L.symm,_,⟨0,0,0,E,E⟩,.inr (.inl rfl)⟩;rename_i H af;cases af;simp only[SV.xv,XV.r.injEq,RE.rv] at L;exact .inr ⟨L.symm,0,_,.inr (.inr rfl)⟩;cases a5
 simp only[Fw,aDc] at hO;obtain⟨ch,cm⟩:=hO;have br:∀(q:Nat)(Q:TypeId)(A:Nat),P.ks[q]?=U (.ref (.own Q))->(jA P R)[q]?=U (.ref (.v A))->∀H,(gW P s)[A]?=U H->H=.dead:=by
  intro q Q A M L H h3;have:=aDr.1 cm A (QP M L);simp only[aDE,decide_eq_true_eq] at this;rcases this with h4|h4;have:=(aDd.1 h3).1;omega;rw[h4] at h3;cases h3;rfl
 refine⟨⟨R1.mem.base, ?_, ?_, ?_, ?_⟩, ?_,l1,l2,l3, ?_, ?_, ?_, ?_⟩;intro i hi;obtain⟨M,L⟩:=a0 i hi;rw[BC L];exact R1.mem.own i (f.mono i M);intro i j hi hj;obtain⟨M,L⟩:=a0 i hi;obtain⟨h3,h4⟩:=a0 j hj;rw[BC L,BC h4];exact R1.mem.inj i j (f.mono i M) (f.mono j h3);intro i t cs h;simp only[o7] at h;rw[MG,aDM] at h;cases G:bX s.boxes i with
 |none=>rw[G] at h;cases h
 |some x=>
  obtain⟨t0,jF⟩:=x;rw[G] at h;simp only[aDn,aDh,aEX] at h;obtain⟨rfl,rfl⟩:=h;obtain⟨a6,bs,bt⟩:=Y8 hB i t0 jF G;rw[aDM] at bt;obtain⟨cp,a8⟩:=aie bt;have a2:i<Y s.boxes:=(aDd.1 (i5.1 G)).1;rw[BC a2,R1.mem.box i t0 a6 bs];congr 2;apply aDG;intro j;rw[SV.cN,SV.cN,aDj,aDj,aic,aDM];cases hx:jF[j]? with
  |none=>
   have:a6[j]?=none:=by
    rw[aD2] at hx⊢;omega
   simp[this]
  |some x=>
   obtain⟨y,hy⟩:∃y,a6[j]?=U y:=by
    have:j<Y jF:=(aDd.1 hx).1;exact⟨a6[j],aDe (by omega)⟩
   rw[hy];simp only[aDn,aDh];cases hp:zw i j P.cl ((({s with au:=s.au+1,rs:=gW P s}:S).bW P.ks).1.drop (Y P.tm)) with
   |some X=>
    obtain⟨q,k,hq,hv⟩:=ah9 hp;rw[aDZ] at hv;simp only[aDS];refine(b8 (Y P.tm+q) k X y ?_ ?_ hv).symm;simp[eF.ks,aDk,hq];simp[jA,aDk,hq,agn,bs,hy]
   |none=>
    have hn:=aia (by rw[aEJ,bf,bg];omega) hp;rcases a8 j x y hx hy with M|M;rw[aDM] at M;rw[hn] at M;cases M;subst M;simp only[aFN];exact(b7 x (uh (qV b3 G) hx)).symm
 have a9:=FW (PP:=λQ F=>bz e ty Q F/\∀b,de ty Q F b->∀i,aM s.boxes i=J->ad n i≠b) P.ks o {s with au:=s.au+1,rs:=gW P s} O al ap ?_ ?_;intro k Q F M L;obtain⟨h3,h4⟩:=a9 k Q F M L;refine⟨h3,λb G i hi=> ?_⟩;obtain⟨h5,h6⟩:=a0 i hi;rw[BC h6];exact h4 b G i h5
 
 intro q Q F M L;rcases bl q Q F M L with⟨A,_,g2,C⟩|⟨rfl,t,sh,g⟩;have:=R1.mem.ref A Q F g2 C;exact⟨this.1,λb G i hi=>this.2 b G i (f.mono i hi)⟩;have hn:∀b,¬de ty (.sl t) (.mk (.slice Z 0 0) []) b:=λb G=>by
  cases G with
  |deep Q X bx i j ag c z k b g1=>simp at g1
 rcases g with rfl|rfl|rfl;exact⟨By Z 0,λb G=>(hn b G).elim⟩;refine⟨bz.own t _ (By Z 0) (λl c h=>by cases h;rfl),λb G=> ?_⟩;cases G with
 |own Q F b G=>exact(hn b G).elim
 exact⟨bz.mr sh [] (λi ag h=>by simp at h) (λi j ag c k h=>by simp at h) (λi j ag c h=>by simp at h) (λi j ag c z k h=>by simp at h),λb G=>by cases G⟩;intro k Q F M L;obtain⟨e1,g1,g2,C⟩:=bk k Q F M L;have:=R1.mem.ref k e1 F g1 g2;rcases C with rfl|rfl;exact⟨bz.dead _ (Is this.1),λb G=>by cases G⟩;exact⟨this.1,λb G i hi=>this.2 b G i (f.mono i hi)⟩;simp[o7,QO];have:=f.len;rw[R1.fp];omega;have M:=R1.cP;rw[b1,f.ext.agree.y,<-IQ o O] at M;simp only[o7];rw[Y3];exact M;simp only[o7,aid];rw[R1.size,(Y7 hT).1];intro t sv h;simp only[o7] at h;rw[aib,aDM] at h;cases hx:s.tmps[t]? with
 |none=>rw[hx] at h;cases h
 |some x=>
  rw[hx] at h;simp only[aDn,aDh] at h;obtain⟨cp,a8⟩:=Y7 hT;obtain⟨y,hy⟩:∃y,R.tmps[t]?=U y:=by
   have:t<Y s.tmps:=(aDd.1 hx).1;exact⟨R.tmps[t],aDe (by omega)⟩
  cases hp:uc t P.tm ((({s with au:=s.au+1,rs:=gW P s}:S).bW P.ks).1) with
  |some X=>
   rw[hp] at h;simp only[aDS] at h;subst h;obtain⟨q,k,hq,hv⟩:=ah7 hp;have hc:=(b6 q k X y (aif hq) (aig hq hy) hv);rcases R1.tmps t y hy with M|M;subst M;have:=a4 q k .any (aif hq) (aig hq hy);rcases k with _|_|(_|_|_|_|_)<;>simp[Bg] at this;right;rw[hc.1];exact M
  |none=>
   rw[hp] at h;simp only[aFN] at h;split at h;exact .inl h.symm;rename_i ct;subst h;have hn:=ah8 (by rw[bf,bg];omega) hp;rcases a8 t x y hx hy with M|M|M;rw[aDM] at M;rw[hn] at M;cases M;rw[aDM] at M;exact absurd M ct;subst M;rcases R1.tmps t x hy with L|L;exact .inl L;right;rw[b5 x (uh b2 hx)];exact L
 intro k Q F b M L h3;simp only[o7] at M;have a9:∃A:Nat,R.rs[A]?=U (RK.own Q)/\N.r[A]?=U F/\∀(B:Nat)(H:RK)(u:RV),B≠k->(o7 P v s).rs[B]?=U H->(O.ext o).r[B]?=U u->xA ty H u b->∃ab:Nat,ab≠A/\R.rs[ab]?=U H/\N.r[ab]?=U u:=by
  have other:∀(B:Nat)(H:RK)(u:RV),(o7 P v s).rs[B]?=U H->(O.ext o).r[B]?=U u->xA ty H u b->
    ((gW P s)[B]?=U H/\R.rs[B]?=U H/\N.r[B]?=U u)\/∃q ab:Nat,P.ks[q]?=U (.ref H)/\(jA P R)[q]?=U (.ref (.v ab))/\R.rs[ab]?=U H/\N.r[ab]?=U u/\B=(gW P s).length+Dj (P.ks.take q):=by
   intro B H u g1 g2 C;rcases IR P.ks o {s with au:=s.au+1,rs:=gW P s} O al ap B H u g1 g2 with⟨p1,p2⟩|⟨q,p1,p2,p3⟩;obtain⟨e1,q1,q2,q3⟩:=bk B H u p1 p2;rcases q3 with rfl|rfl;rcases C with C|⟨⟨t,ht⟩,_⟩;cases C;cases ht;exact .inl ⟨p1,q1,q2⟩;rcases bl q H u p1 p2 with⟨A,q1,q2,q3⟩|⟨rfl,t,sh,q⟩;exact .inr ⟨q,A,p1,q1,q2,q3,p3⟩;exfalso;rcases C with C|⟨_,C⟩;rcases q with rfl|rfl|rfl;cases C with
   |deep Q X bx i j ag c z k b g1=>simp at g1
   cases C with
   |own Q F b C=>cases C with
    |deep Q X bx i j ag c z k b g1=>simp at g1
   cases C;simp[RV.jS] at C
  rcases other k (.own Q) F M L (.inr ⟨⟨Q,rfl⟩,h3⟩) with⟨p1,p2,p3⟩|⟨q,A,p1,p2,p3,p4,p5⟩;refine⟨k,p2,p3,λB H u g0 g1 g2 C=> ?_⟩;rcases other B H u g1 g2 C with⟨r1,r2,r3⟩|⟨q',ab,r1,r2,r3,r4,r5⟩;exact⟨B,g0,r2,r3⟩;refine⟨ab,λa3=> ?_,r3,r4⟩;subst a3;rw[p2] at r3;cases r3;have:=br q' Q ab r1 r2 _ p1;cases this;refine⟨A,p3,p4,λB H u g0 g1 g2 C=> ?_⟩;rcases other B H u g1 g2 C with⟨r1,r2,r3⟩|⟨q',ab,r1,r2,r3,r4,r5⟩;refine⟨B,λa3=> ?_,r2,r3⟩;subst a3;rw[p3] at r2;cases r2;have:=br q Q B p1 p2 _ r1;cases this;refine⟨ab,λa3=> ?_,r3,r4⟩;subst a3;rw[p3] at r3;cases r3;by_cases b0:q=q';subst b0;exact g0 (by rw[r5,p5]);exact aii ch p1 p2 r1 r2 b0 rfl
 obtain⟨A,g1,g2,C⟩:=a9;have t:=R1.dJ A Q F b g1 g2 h3;refine⟨t.own,t.mem,λi hi=> ?_,λB H u q1 q2 q3 q4=> ?_,t.inner⟩;obtain⟨h5,h6⟩:=a0 i hi;rw[BC h6];exact t.box i (f.mono i h5);obtain⟨ab,r1,r2,r3⟩:=C B H u q1 q2 q3 q4;exact t.alone ab H u r1 r2 r3 q4
end
structure kG(p:Sp)(f:bB):Prop where
 pt:p.ty=f.ty
 Y9:p.P.follows .mixedOrders=J
 ln:gY p.P f.ty
 zp:IP p.P f
 BD:∀g,(f.sig g).isSome=J\/(f.inl g).isSome=J->∀args W,(callFunc g args).run p.P W=.ok (.enter g args) W
 QR:∀ch W b o,p.w0.heap.size<=b->p.R (.panicked ch) W->p.R (.panicked ch) (W.putObj b o)
 inl:∀g c nt rs,f.inl g=U (c,nt,rs)->∃fn,p.P.funcs[g]?=U fn/\fn.body=U c/\fn.ntmps=nt/\fn.results.toList=rs
section
variable{p:Sp}{f:bB}
def az.aij{D:bR}{V:aj}{a:Act}{W:World}(Q:az v e D f.ty V N R a W){b:BE}(M:R.tmps.getD X .any=.bool b)(H:b.den N=l):
  az v e D f.ty V N {R with tmps:=R.tmps.set X (.bool (.c l))} a W:=by
 refine⟨Q.mem,Q.fp,Q.ei,Q.eb,Q.er,Q.cP,by simpa using Q.size,λi G h=> ?_,Q.dJ⟩;simp only[aD9] at h;split at h;rename_i F;subst F;split at h;rename_i L;cases h;have C:R.tmps[X]?=U (.bool b):=by
  rw[aDf,aDe L] at M;rw[aDe L];simpa using M
 rcases Q.tmps X _ C with P|P;cases P;right;rw[P];simp[SV.den,BE.den,H];cases h;exact Q.tmps i G h
end
mutual
def IE.du{R Q P N M H:Nat}(X:R<=N)(W:Q<=M)(V:P<=H):∀(e:IE),e.bd R Q P=J->e.bd N M H=J
 |.c n,_=>IE.ba.1 _
 |.v k,h=>by simp[IE.ba] at h⊢;omega
 |.bin o k a b,h=>by simp[IE.ba] at h⊢;exact⟨IE.du X W V a h.1,IE.du X W V b h.2⟩
 |.conv k a,h=>by simp[IE.ba] at h⊢;exact IE.du X W V a h
 |.len r,h=>by simp[IE.ba] at h⊢;exact RE.du X W V r h
 |.mm m a b,h=>by simp[IE.ba] at h⊢;exact⟨IE.du X W V a h.1,IE.du X W V b h.2⟩
 |.cR b x y,h=>by simp[IE.ba] at h⊢;exact⟨⟨BE.du X W V b h.1.1,IE.du X W V x h.1.2⟩,IE.du X W V y h.2⟩
 |.cell r i j,h=>by simp[IE.ba] at h⊢;exact⟨RE.du X W V r h.1,IE.du X W V i h.2⟩
 |.mD r i,h=>by simp[IE.ba] at h⊢;exact⟨RE.du X W V r h.1,IE.du X W V i h.2⟩
 |.look r n a b c j,h=>by simp[IE.ba] at h⊢;exact⟨⟨⟨RE.du X W V r h.1.1.1,IE.du X W V a h.1.1.2⟩,IE.du X W V b h.1.2⟩,IE.du X W V c h.2⟩
def BE.du{R Q P N M H:Nat}(X:R<=N)(W:Q<=M)(V:P<=H):∀(e:BE),e.bd R Q P=J->e.bd N M H=J
 |.c n,_=>BE.ba.1 _
 |.v k,h=>by simp[BE.ba] at h⊢;omega
 |.cmp o a b,h=>by simp[BE.ba] at h⊢;exact⟨IE.du X W V a h.1,IE.du X W V b h.2⟩
 |.not a,h=>by simp[BE.ba] at h⊢;exact BE.du X W V a h
 |.and a b,h=>by simp[BE.ba] at h⊢;exact⟨BE.du X W V a h.1,BE.du X W V b h.2⟩
 |.beq a b,h=>by simp[BE.ba] at h⊢;exact⟨BE.du X W V a h.1,BE.du X W V b h.2⟩
 |.cR b x y,h=>by simp[BE.ba] at h⊢;exact⟨⟨BE.du X W V b h.1.1,BE.du X W V x h.1.2⟩,BE.du X W V y h.2⟩
 |.cell r i j,h=>by simp[BE.ba] at h⊢;exact⟨RE.du X W V r h.1,IE.du X W V i h.2⟩
 |.seq a b,h=>by simp[BE.ba] at h⊢;exact⟨RE.du X W V a h.1,RE.du X W V b h.2⟩
 |.look r n a b c j,h=>by simp[BE.ba] at h⊢;exact⟨⟨⟨RE.du X W V r h.1.1.1,IE.du X W V a h.1.1.2⟩,IE.du X W V b h.1.2⟩,IE.du X W V c h.2⟩
 |.has r n a b c,h=>by simp[BE.ba] at h⊢;exact⟨⟨⟨RE.du X W V r h.1.1.1,IE.du X W V a h.1.1.2⟩,IE.du X W V b h.1.2⟩,IE.du X W V c h.2⟩
def RE.du{X W V R Q P:Nat}(N:X<=R)(M:W<=Q)(H:V<=P):∀(e:RE),e.bd X W V=J->e.bd R Q P=J
 |.v k,h=>by simp[RE.ba] at h⊢;omega
 |.cell r i j k,h=>by simp[RE.ba] at h⊢;exact⟨RE.du N M H r h.1,IE.du N M H i h.2⟩
 |.k v,_=>RE.ba.2.2 _
end
def QS{ty:Ty}{s R:S}:∀{r:RE}{e:RK},(∀(k:Nat)(e:RK),r.root=U k->s.rs[k]?=U e->∃X,R.rs[k]?=U X/\X.rd=e.rd)->e≠ .aH->r.kind ty s=e->r.kind ty R=e
 |.v k,e,bI,W,h=>by
  simp only[RE.kind,aDf] at h⊢;cases V:s.rs[k]? with
  |none=>rw[V] at h;exact absurd (show e=.aH from h.symm) W
  |some q=>
   rw[V] at h;obtain⟨X,Q,P⟩:=bI k q rfl V;rw[Q];simp only[aDS] at h⊢;rw[P];exact h
 |.cell r i j M,e,bI,W,h=>by
  simp only[RE.kind] at h⊢;split at h;rename_i X N;rw[QS (r:=r) bI (by simp) N];exact h;exact absurd h.symm W
 |.k v,e,bI,W,h=>by cases v<;>exact h
def BF{ty:Ty}{s s':S}(h:s.rs=s'.rs):∀r:RE,r.kind ty s=r.kind ty s'
 |.v k=>by simp only[RE.kind,h]
 |.cell r i j k=>by simp only[RE.kind,BF h r]
 |.k v=>by cases v<;>rfl
def zN(ty:Ty)(s X:S):Prop:=∀(r:RE)(e:RK),e≠ .aH->r.kind ty s=e->r.kind ty X=e
def zN.xL{ty:Ty}{X:S}(h:X.rs=R.rs):zN ty R X:=λr e _ W=>by rw[BF h];exact W
def asY{ty:Ty}{X:S}(bI:zN ty R X){c:CT}{y:SV}{e:BE}(h:HO ty R c x y=U e):HO ty X c x y=U e:=by
 unfold HO at h⊢;split at h;exact h;exact h;split at h;rename_i W;rw[if_pos ⟨bI _ _ (by simp) W.1,bI _ _ (by simp) W.2⟩];exact h;cases h;cases h
def aik{ty:Ty}{s W:S}(bI:zN ty s W):∀{X:dN}{x y:ai}{e:BE},pO ty s X x y=U e->pO ty W X x y=U e
 |[],[],[],e,h=>h
 |c::X,x::Q,y::P,e,h=>by
  simp only[pO] at h⊢;split at h;rename_i a b V R;rw[asY bI V,aik bI R];exact h;cases h
 |[],[],_::_,e,h=>by simp[pO] at h
 |[],_::_,_,e,h=>by simp[pO] at h
 |_::_,[],_,e,h=>by simp[pO] at h
 |_::_,_::_,[],e,h=>by simp[pO] at h
def ail{ty:Ty}{s X:S}(bI:zN ty s X){W:fj}{x y:ai}{e:BE}(h:HQ ty s W x y=U e):HQ ty X W x y=U e:=by
 unfold HQ at h⊢;split at h;exact aik bI h;cases h
section
variable{ty:Ty}{D:lC}{O:ac}
def QT{P:S}{G:Op}{r:PR}(W:∀x∈G.operands.toList,P.ev D x=R.ev D x)(N:looks G=J->zy G=E->zN ty R P)
  (af:∀t x r w i A,G=.load t x->R.ev D x=.el r w i A->∀e,e≠ .aH->r.kind ty R=e->r.kind ty P=e)
  (u:∀i,zm D R G=U i->bX P.boxes i=bX R.boxes i)(h:bO ty D R G=r)(V:∀w,r≠ .no w):bO ty D P G=r:=by
 cases G with
 |move x=>have X:=W x (by simp[Op.operands]);simp only[bO] at h⊢;rw[X];exact h
 |assign x=>have X:=W x (by simp[Op.operands]);simp only[bO] at h⊢;rw[X];exact h
 |pick c x y=>
  have X:=W c (by simp[Op.operands]);have M:=W x (by simp[Op.operands]);have o:=W y (by simp[Op.operands]);simp only[bO] at h⊢;rw[X,M,o];exact h
 |load t x=>
  have X:=W x (by simp[Op.operands]);simp only[bO] at h⊢;rw[X];split at h;rename_i ti i A F H;rw[Mg (u i (by simp only[zm,H]))];exact h;rename_i ti r w i A F H;split at h;rename_i e Q;rw[af t x r w i A rfl H _ (by simp) Q];exact h;exact absurd h.symm (V _);rename_i ti e ks l F H;have C:((xl l).bind λi=>kA P.boxes i)=(xl l).bind λi=>kA R.boxes i:=by
   cases hl:xl l with
   |none=>rfl
   |some i=>exact Mg (u i (by simp only[zm,H];exact hl))
  rw[C];exact h;exact absurd h.symm (V _)
 |fieldAddr t x f=>have X:=W x (by simp[Op.operands]);simp only[bO] at h⊢;rw[X];exact h
 |field t x f=>have X:=W x (by simp[Op.operands]);simp only[bO] at h⊢;rw[X];exact h
 |indexAddr t x y=>
  have X:=W x (by simp[Op.operands]);have M:=W y (by simp[Op.operands]);simp only[bO] at h⊢;rw[X,M];split at h;exact h;exact h;exact h;split at h;rename_i F Q;rw[(N rfl rfl) _ _ (by simp) Q,F];exact h;exact absurd h.symm (V _);exact h;exact h;exact absurd h.symm (V _)
 |index t x y=>
  have X:=W x (by simp[Op.operands]);have M:=W y (by simp[Op.operands]);simp only[bO] at h⊢;rw[X,M];split at h;exact h;exact h;split at h;rename_i Q;rw[(N rfl rfl) _ _ (by simp) Q];exact h;exact absurd h.symm (V _);exact absurd h.symm (V _)
 |binOp G t x y t2=>
  have X:=W x (by simp[Op.operands]);have M:=W y (by simp[Op.operands]);simp only[bO] at h⊢;rw[X,M];split at h;exact h;exact h;exact h;split at h;rename_i z B;simp only[(N rfl rfl) _ _ (by simp) z,(N rfl rfl) _ _ (by simp) B];exact h;rename_i z B;simp only[(N rfl rfl) _ _ (by simp) z,(N rfl rfl) _ _ (by simp) B];exact h;exact absurd h.symm (V _);exact h;exact h;split at h;rename_i e Q;rw[ail (N rfl rfl) Q];exact h;rename_i e Q;rw[ail (N rfl rfl) Q];exact h;exact absurd h.symm (V _);exact absurd h.symm (V _)
 |unOp G t x=>have X:=W x (by simp[Op.operands]);simp only[bO] at h⊢;rw[X];exact h
 |convert t1 t2 x=>have X:=W x (by simp[Op.operands]);simp only[bO] at h⊢;rw[X];exact h
 |makeInterface t x=>have X:=W x (by simp[Op.operands]);simp only[bO] at h⊢;rw[X];exact h
 |makeFunc fn first ab=>
  have X:ab.toList.map (P.ev D)=ab.toList.map (R.ev D):=aDC λx H=>W x (by simp[Op.operands];exact .inr (by simpa using H))
  simp only[bO] at h⊢;rw[X];exact h
 |extract x i=>have X:=W x (by simp[Op.operands]);simp only[bO] at h⊢;rw[X];exact h
 |nilCheck x=>have X:=W x (by simp[Op.operands]);simp only[bO] at h⊢;rw[X];exact h
 |slice t x j g mx=>
  have X:=W x (by simp[Op.operands]);have M:j.map (P.ev D)=j.map (R.ev D):=by
   cases j with
   |none=>rfl
   |some y=>simp only[aDn];rw[W y (by simp[Op.operands])]
  have o:g.map (P.ev D)=g.map (R.ev D):=by
   cases g with
   |none=>rfl
   |some y=>simp only[aDn];rw[W y (by simp[Op.operands])]
  simp only[bO] at h⊢;rw[X,M,o];exact h
 |build t parts=>
  have X:(parts.toList.map λp=>(p.1,P.ev D p.2))=parts.toList.map λp=>(p.1,R.ev D p.2):=aDC λp hp=>by rw[W p.2 (by simp[Op.operands];exact⟨p.1,by simpa using hp⟩)]
  simp only[bO] at h⊢;rw[X];exact h
 |lookup t x ix ok=>
  have X:=W x (by simp[Op.operands]);have M:=W ix (by simp[Op.operands]);simp only[bO] at h⊢;rw[X,M];split at h;rename_i k e n ag ae q i F H;have B:=u i (by simp only[zm,H]);unfold PD at h⊢;rw[B];split at h;rename_i te a b c bt cs g1 g2 g3;split at h;exact absurd h.symm (V _);rename_i al;rw[if_neg al];split at h;rename_i hd;rw[if_pos hd];split at h;rename_i r nk ka va;split at h;rename_i v;have:r.oV ty P ⟨k,e,n,ag,te.d.isAgg⟩=true:=by
   simp only[aDc] at v;have h6:=v.1.1.1.1.1;unfold RE.oV at h6⊢;rcases aF0.1 h6 with h7|h7;rw[decide_eq_true ((N rfl rfl) r _ (by simp) (of_decide_eq_true h7))];rfl;rw[h7];simp
  simp only[aDc] at v;simp only[this,v,aEB,if_true];exact h;exact absurd h.symm (V _);exact absurd h.symm (V _);rename_i hd;rw[if_neg hd];exact h;exact absurd h.symm (V _);exact absurd h.symm (V _)
 |call c=>
  have X:c.args.toList.map (P.ev D)=c.args.toList.map (R.ev D):=aDC λx H=>W x (by simp[Op.operands,Call.operands];exact .inr (by simpa using H))
  cases C:c.callee with
  |builtin b=>
   cases b with
   |len=>
    simp only[bO,C] at h⊢;rw[X];split at h;exact h;rename_i t r an z B;split at h;rename_i F Q;simp only[(N rfl rfl) _ _ (by simp) Q,F];exact h;rename_i F Q;simp only[(N rfl rfl) _ _ (by simp) Q,F];exact h;exact absurd h.symm (V _);exact h;exact absurd h.symm (V _)
   |min=>simp only[bO,C] at h⊢;rw[X];exact h
   |max=>simp only[bO,C] at h⊢;rw[X];exact h
   |_=>simp only[bO,C] at h;exact absurd h.symm (V _)
  |value f=>simp only[bO,C] at h;exact absurd h.symm (V _)
  |invoke r m=>simp only[bO,C] at h;exact absurd h.symm (V _)
 |_=>simp only[bO] at h;exact absurd h.symm (V _)
end
def PR.xM(s:S)(O:ac)(v:SV):PR->Prop
 |.ok x=>v=x
 |.aV b x=>b.den O=J/\b.bd s.ni s.nb (Y s.rs)=J/\v=x
 |_=>False
def QU{r:PR}(h:r.xM R N x):r.gives N x:=by
 cases r with
 |ok X=>exact h
 |aV b X=>exact⟨h.1,h.2.2⟩
 |no w=>exact h
def fK(B:cS)(m:OM)(s:S)(O:ac):Option Bool:=match m.o.guard with
 |none=>U J
 |U (j,X)=>match(B[j]?).bind (·.dst) with
  |U d=>match s.tmps[d]? with
   |U (.bool b)=>if b.bd s.ni s.nb (Y s.rs) then U (b.den O==X) else Z
   |U (.bK [])=>U E
   |_=>Z
  |none=>Z
def QV(u:bB)(B:cS)(O:ac)(m:OM)(s:S)(v:SV)(l:Nat):Prop:=
 (fK B m s O=U E/\v=.bK []/\l=0)\/
 (fK B m s O=U J/\(∀x∈m.o.op.operands.toList,(s.ev u.gl x).dL=E)/\match m.o.op with
  |.pick c x y=>∃e:BE,s.ev u.gl c=.bool e/\e.bd s.ni s.nb (Y s.rs)=J/\v=(if e.den O then s.ev u.gl x else s.ev u.gl y)/\l=0
  |.load t x=>(bO u.ty u.gl s (.load t x)).xM s O v/\l=LO m.bC (s.ev u.gl x)
  |op=>(bO u.ty u.gl s op).xM s O v/\l=0)
def OR.FX(s:S)(O:ac)(X:S):OR->Prop
 |.ok x=>X=x
 |.aV b x=>b.den O=J/\b.bd s.ni s.nb (Y s.rs)=J/\X=x
 |.split b W V=>b.bd s.ni s.nb (Y s.rs)=J/\X=if b.den O then W else V
 |.no _=>False
def gD(u:bB)(m:OM)(s:S)(O:ac)(X:S):Prop:=(fc u m s).FX s O X
def IS{u:bB}{X:S}(h:gD u t R N X):(fc u t R).gives N X:=by
 unfold gD at h;cases W:fc u t R<;>rw[W] at h;exact h;exact⟨h.1,h.2.2⟩;exact h.2;exact h
def aim{P:S}{r:PR}:(qN R b X r).FX R N P<->∃v,r.xM R N v/\P=R.cH b v X:=by
 cases r with
 |ok v=>exact⟨λh=>⟨v,rfl,h⟩,λ⟨w,V,Q⟩=>by cases V;exact Q⟩
 |aV W v=>
  simp only[qN];split;rename_i M;exact⟨λh=>⟨v,⟨h.1,h.2.1,rfl⟩,h.2.2⟩,λ⟨w,⟨V,Q,H⟩,G⟩=>⟨V,Q,by rw[G,H]⟩⟩;rename_i M;exact⟨λh=>h.elim,λ⟨w,⟨V,Q,H⟩,G⟩=>absurd Q M⟩
 |no w=>exact⟨λh=>h.elim,λ⟨w,V,Q⟩=>V.elim⟩
def IT(p:Sp)(u:bB)(s:S)(O:ac)(g:FuncId)(Q:ai)(K:ac->SV->S->Prop):Prop:=
 ∃H X l,u.sig g=U H/\gA u.ty H=U X/\zq u.ty H ((s.cut Q X).bW X).1=U l/\(s.dV Q&&ou X)=J/\
  ∀V W,jD p.S0 p.w0 V O (ua (pP (SV.nC Q) 0 s.boxes)) p.ty (LW Q s.rs) W->Calls p.P g (SV.aD O V Q).toArray W λ
   |.returned v,N=>∃M,dP X M/\v=(one l).den (O.ext M) V/\Below W.heap.size W N/\In p.ty N W.heap.size (O.ow p.ty (LW Q s.rs)) X M/\K (O.ext M) (one l) ((s.cut Q X).bW X).2
   |.panicked G,N=>Below W.heap.size W N/\p.R (.panicked G) N
   |.outgrown,_=>False
def q7(o:Option BI)(f:BI->Prop)(g:Prop):Prop:=match o with
 |U b=>f b
 |none=>g
def oB(o:Option (SV×bA))(f:SV->bA->Prop)(g:Prop):Prop:=match o with
 |U (v,X)=>f v X
 |none=>g
def dC(p:Sp)(u:bB)(B:cS)(A:vG)(X:ac->S->Prop)(W:ac->SV->S->Prop)(V:OM->ce->ac->S->Nat->ai->Prop):ce->ac->S->Prop
 |[],O,s=>X O s
 |m::R,O,s=>
  (fK B m s O=U E/\dC p u B A X W V R O (s.put m.o.dst (.bK [])))\/
  (fK B m s O=U J/\match dA u s m.o with
   |.call (.fn g) Q=>oB (A g Q s) (λv M=>s.bd=J/\dC p u B A X W V R O ((s.plus M).put m.o.dst v)) (IT p u s O g Q λH v P=>dC p u B A X W V R H (P.put m.o.dst v))
   |.call (.yl n) Q=>m.so=J/\V m R O s n Q
   |.bj v=>W O v s
   |.no=>False
   |.op=>q7 (dI u m.o m.bC m.dr s) (λb=>b.aV.den O=J/\∀N,FL p.ty p.S0 p.w0 b.e b.x s.rs O N->dC p u B A X W V R (O.add (.r N)) b.s) (∃P,gD u m s O P/\dC p u B A X W V R O P))
def zO(s:S)(O:ac)(X:Fx):Prop:=∀x∈X,x.1.den O=x.2/\x.1.bd s.ni s.nb (Y s.rs)=J
def Za{p:Sp}{L:cZ}{W:Fx}{b:BE}{t f:Fx->T}(Q:zO R N W)(h:(Bc R W b t f).aT p N L):
  b.bd R.ni R.nb (Y R.rs)=J/\∃M,zO R N M/\(if b.den N then(t M).aT p N L else(f M).aT p N L):=by
 have G:ss N W:=λx P=>(Q x P).1
 have bJ:∀v,LP W b=U v->b.bd R.ni R.nb (Y R.rs)=true:=by
  intro v X;unfold LP at X;split at X;exact BE.ba.1 _;cases H:W.find? (λx=>x.1.same b) with
  |none=>rw[H] at X;cases X
  |some x=>
   have C:=aFi H;rw[<-BE.bL _ _ C];exact(Q x (aEF H)).2
 unfold Bc at h;split at h;rename_i X;exact⟨bJ _ X,W,Q,by rw[Qy G X];exact h⟩;rename_i X;exact⟨bJ _ X,W,Q,by rw[Qy G X];exact h⟩;split at h;rename_i F;simp only[T.aT] at h;refine⟨F, ?_⟩;have D:∀v,b.den N=v->zO R N ((b,v)::W):=λv V x P=>by
  rcases aDp.1 P with rfl|P;exact⟨V,F⟩;exact Q x P
 cases V:b.den N;exact⟨_,D _ V,by simpa using h.2 V⟩;exact⟨_,D _ V,by simpa using h.1 V⟩;exact h.elim
section
variable{p:Sp}{u:bB}{B:cS}{A:vG}{L:cZ}{F:YH}{k:S->T}{C:SV->S->T}
def eK(s:S)(d:bT)(v:SV):(s.put d v).ni=s.ni/\(s.put d v).nb=s.nb/\(s.put d v).rs=s.rs:=by cases d<;>exact⟨rfl,rfl,rfl⟩
def ain{X:S}(h:(fc u t R).gives N X):X.ni=R.ni/\X.nb=R.nb/\X.rs=R.rs:=by
 unfold fc at h;split at h;exact h.elim;split at h;split at h;split at h;cases h;exact eK _ _ _;exact h.elim;exact h.elim;split at h;split at h;cases h;exact eK _ _ _;exact h.elim;exact h.elim;split at h;split at h;split at h;split at h;cases h;exact eK _ _ _;exact h.elim;exact h.elim;exact h.elim;exact h.elim;split at h;split at h;split at h;cases h;exact eK _ _ _;exact h.elim;exact h.elim;exact h.elim;split at h;simp only[OR.gives] at h;split at h<;>(subst h;exact eK _ _ _);exact h.elim;obtain⟨v,-,rfl⟩:=zK h;exact eK _ _ _;obtain⟨v,-,rfl⟩:=zK h;exact eK _ _ _
def MH{aV:BE}{k:RK}{x:LE}{W:aj}{X:BI}(h:jl R b aV M k x v W=U X):X.s.ni=R.ni/\X.s.nb=R.nb/\Y X.s.rs=Y R.rs+1:=by
 obtain⟨-,-,rfl⟩:=xG h;refine⟨(eK _ _ _).1,(eK _ _ _).2.1, ?_⟩;simp only;rw[(eK _ _ _).2.2];simp[zI,zH]
def aio{W:Bool}{b:BI}(h:dI u r l W R=U b):b.s.ni=R.ni/\b.s.nb=R.nb/\Y b.s.rs=Y R.rs+1:=by
 unfold dI at h;split at h;split at h;split at h;split at h;split at h;split at h;cases h;split at h;exact MH h;cases h;cases h;cases h;cases h;cases h;split at h;split at h;split at h;exact MH h;cases h;cases h;cases h;split at h;cases h;split at h;split at h;split at h;split at h;exact MH h;cases h;cases h;cases h;cases h;split at h;cases h
 ·split at h
  all_goals first
   |cases h
   |(split at h
     split at h;exact MH h;cases h;cases h)
 split at h;cases h;split at h;split at h;split at h;split at h;cases X:jl R Z (t8 _ (.len (.v _))) _ (.own _) _ [_] _ with
 |none=>rw[X] at h;cases h
 |some N=>
  rw[X] at h;simp only[aDn,aDh] at h;subst h;obtain⟨V,Q,P⟩:=MH X;refine⟨?_, ?_, ?_⟩;simp only;rw[(eK _ _ _).1];exact V;simp only;rw[(eK _ _ _).2.1];exact Q;simp only;rw[(eK _ _ _).2.2];exact P
 cases h;cases h;cases h;cases h;cases h
def aip{V:S}{r:PR}{W:BE}(h:qN R b X r=.aV W V):W.bd R.ni R.nb (Y R.rs)=true:=by
 cases r with
 |ok v=>cases h
 |aV P v=>
  simp only[qN] at h;split at h;rename_i Q;cases h;exact Q;cases h
 |no w=>cases h
def asZ{X:S}{b:BE}(h:fc u t R=.aV b X):b.bd R.ni R.nb (Y R.rs)=true:=by
 unfold fc at h;split at h;cases h;split at h
 ·(repeat' split at h)<;>cases h
 ·(repeat' split at h)<;>cases h
 ·(repeat' split at h)<;>cases h
 ·(repeat' split at h)<;>cases h
 ·(repeat' split at h)<;>cases h
 exact aip h;exact aip h
structure Dl(B:cS)(A:vG):Prop where
 q:∀(g:FuncId)(args:ai)(s:S)(d:bT)(v:SV)(l:Nat),A g args (s.cH d v l)=A g args s
 z:∀(g:FuncId)(s:S)(n:Nat)(t:TypeId)(cs:ai)(d:bT)(w:SV),eU s.boxes n=J->A g [] ((s.cq n t cs).put d w)=A g [] s
 Zb:∀(g:FuncId)(args:ai)(s:S)(r:SV×bA),A g args s=U r->PW B=J
def aiq{W:bA}(h:aM R.boxes X=J):bX (R.plus W).boxes X=bX R.boxes X:=by
 obtain⟨b,V⟩:=aDw.1 h;have Q:=(aDd.1 (i5.1 V)).1;simp only[cK,S.plus,aDg Q]
def air{W:bA}(h:eU R.boxes X=J):eU (R.plus W).boxes X=true:=by
 have V:=(lK h).2;simp only[eU,S.plus,aDg V] at h⊢;exact h
def Zc{s:S}{o:Oper}{g:Fm}{W:ai}(h:dA u s o=.call g W):xx o.op=true:=by
 unfold dA at h;split at h;split at h<;>cases h
 ·rename_i c V;rw[V];cases X:c.callee with
  |value f=>simp[xx,X]
  |invoke r m=>rw[X] at h;cases h
  |builtin b=>
   rw[X] at h;exfalso;revert h;cases b<;>simp only
   all_goals first
    |(intro h;cases h;done)
    |(split<;>intro h<;>first|(cases h;done)|(split at h<;>cases h))
 cases h
def ais{s:S}{o:Oper}{g:FuncId}{W:ai}(X:H4 o.op=J)(h:dA u s o=.call (.fn g) W):W=[]:=by
 unfold H4 at X;split at X;rename_i c V;split at X;rename_i f R;have Q:c.args.toList=[]:=by simpa using X
 simp only[dA,V,R,S.ev,vx,Q,List.any_nil,aDB,if_false,aEK,aDl,CK.call.injEq,Fm.fn.injEq] at h;exact h.2.symm;cases X;cases X
def Dm(p:Sp)(k:S->T)(L:cZ)(O:ac)(s:S):Prop:=(k s).aT p O L
def BG(p:Sp)(C:SV->S->T)(L:cZ)(O:ac)(v:SV)(s:S):Prop:=(C v s).aT p O L
def BH(p:Sp)(u:bB)(B:cS)(A:vG)(F:YH)(k:S->T)(C:SV->S->T)(L:cZ)(m:OM)(X:ce)(O:ac)(s:S)(n:Nat)(V:ai):Prop:=
 (∀R∈X,R.dr=J)/\∃W,zO s O W/\(xz u A F (.yl n) V s (λv Q=>mE u (xz u A F) B k C X (Q.put m.o.dst v) (nF s W)) C).aT p O L
def FY(a1:p.ty=u.ty):∀(l:ce)(s:S)(fx:Fx)(O:ac),Y O.i=s.ni->Y O.b=s.nb->Y O.r=Y s.rs->(mE u (xz u A F) B k C l s fx).aT p O L->zO s O fx->
  (∀m∈l,m.dr=J)->dC p u B A (Dm p k L) (BG p C L) (BH p u B A F k C L) l O s
 |[],s,fx,O,_,_,_,h,_,_=>h
 |m::Q,s,fx,O,j,a,e3,h,a3,bg=>by
  have a5:m.dr=true:=bg m (by simp);have ap:∀m∈Q,m.dr=true:=λm' bo=>bg m' (by simp[bo])
  have br:zt u m s=none:=by simp[zt,a5]
  have bs:Be u m s=none:=by simp[Be,a5]
  have bt:∀c f,zr u m s c f=none:=λc f=>by simp[zr,a5]
  have a6:∀(s:S)(d:bT)(v:SV),(s.put d v).ni=s.ni/\(s.put d v).nb=s.nb/\(s.put d v).rs=s.rs:=λs d v=>by cases d<;>exact⟨rfl,rfl,rfl⟩
  have bk:∀(X:S)(P:Fx),X.ni=s.ni->X.nb=s.nb->X.rs=s.rs->zO s O P->zO X O P:=λX P h1 N h3 hf x hx=>by rw[h1,N,h3];exact hf x hx
  have a7:∀P,zO s O P->(zv u (xz u A F) m s (mE u (xz u A F) B k C Q) C P).aT p O L->
    (match dA u s m.o with
     |.call (.fn g) z=>oB (A g z s) (λv ex=>s.bd=J/\dC p u B A (Dm p k L) (BG p C L) (BH p u B A F k C L) Q O ((s.plus ex).put m.o.dst v)) (IT p u s O g z λO' v X=>dC p u B A (Dm p k L) (BG p C L) (BH p u B A F k C L) Q O' (X.put m.o.dst v))
     |.call (.yl n) z=>m.so=J/\BH p u B A F k C L m Q O s n z
     |.bj v=>BG p C L O v s
     |.no=>False
     |.op=>q7 (dI u m.o m.bC m.dr s) (λb=>b.aV.den O=J/\∀rv,FL p.ty p.S0 p.w0 b.e b.x s.rs O rv->dC p u B A (Dm p k L) (BG p C L) (BH p u B A F k C L) Q (O.add (.r rv)) b.s)
      (∃X,gD u m s O X/\dC p u B A (Dm p k L) (BG p C L) (BH p u B A F k C L) Q O X):Prop):=by
   intro P al h;unfold zv at h;rw[br] at h;simp only[bs,bt] at h;cases hc:dA u s m.o with
   |call g0 z=>
    rw[hc] at h;cases g0 with
    |yl n=>
     simp only at h⊢;split at h;rename_i bx;exact⟨bx,ap,P,al,h⟩;exact h.elim
    |fn g=>
    simp only[xz] at h;simp only;cases bl:A g z s with
    |some ve=>
     obtain⟨v,ex⟩:=ve;rw[bl] at h;simp only at h;split at h;rename_i M;refine⟨M, ?_⟩;obtain⟨H,G,D⟩:=a6 (s.plus ex) m.o.dst v;refine FY a1 Q _ _ O (by rw[H];exact j) (by rw[G];exact a) (by rw[D];exact e3) h (λx hx=> ?_) ap;rw[H,G,D];exact al x (aD1.1 hx).1;exact h.elim
    |none=>
    rw[bl] at h;simp only[xu] at h;simp only[oB];split at h;rename_i ts b0;split at h;rename_i ks b1;split at h;rename_i l hl;split at h;rename_i M;refine⟨ts,ks,l,b0,b1,hl,M,λV W R=> ?_⟩;simp only[T.aT] at h;refine(h O.y V W R).mono ?_;intro e W' he;cases e with
    |returned v=>
     obtain⟨xs,h1,N,h3,h4,h5⟩:=he;have hy:(O.ext xs).at O.y=O.ext xs:=by have:=IQ xs O;unfold ac.at;rw[<-this]
     rw[hy] at N;refine⟨xs,h1,N,h3,h4, ?_⟩;obtain⟨l1,l2,l3⟩:=xK ks xs (s.cut z ks) O h1 j a (e3.trans (Dk z ks s.rs).len.symm);have a0:=a6 ((s.cut z ks).bW ks).2 m.o.dst (one l);refine FY a1 Q _ _ _ (by rw[a0.1];exact l1) (by rw[a0.2.1];exact l2) (by rw[a0.2.2];exact l3) h5 ?_ ap;intro x hx;obtain⟨a8,b2⟩:=aD1.1 hx;obtain⟨w,bJ⟩:=al x a8;have b3:=Da xs O;have a9:=Ql xs O;refine⟨by rw[BE.dj b3 _ (by rw[j,a,e3];exact bJ)];exact w, ?_⟩;rw[a0.1,a0.2.1,a0.2.2,<-l1,<-l2,<-l3];exact BE.du (by rw[<-j];exact a9.1) (by rw[<-a];exact a9.2.1) (by rw[<-e3];exact a9.2.2) _ bJ
    |panicked ch=>exact he
    |outgrown=>exact he
    exact h.elim;exact h.elim;exact h.elim;exact h.elim
   |bj v=>rw[hc] at h;exact h
   |no=>rw[hc] at h;exact h
   |op=>
    rw[hc] at h;simp only at h⊢;cases bb:dI u m.o m.bC m.dr s with
    |some b=>
     rw[bb] at h;obtain⟨hn,h⟩:=h;refine⟨hn,λrv b4=> ?_⟩;obtain⟨H,G,D⟩:=aio bb;have b5:(O.add (.r rv)).r.length=Y b.s.rs:=by simp[ac.add,D,e3]
     refine FY a1 Q b.s _ _ (by rw[H];exact j) (by rw[G];exact a) b5 (h rv b4) ?_ ap;intro x hx;obtain⟨a8,b2⟩:=aD1.1 hx;obtain⟨w,bJ⟩:=al x a8;refine⟨by rw[BE.dj (Qa O (.r rv)) _ (by rw[j,a,e3];exact bJ)];exact w, ?_⟩;exact BE.du (by omega) (by omega) (by omega) _ bJ
    |none=>
    rw[bb] at h;simp only[q7] at h⊢;have a4:∀X a2,zO s O a2->gD u m s O X->(mE u (xz u A F) B k C Q X a2).aT p O L->∃X,gD u m s O X/\dC p u B A (Dm p k L) (BG p C L) (BH p u B A F k C L) Q O X:=by
     intro X a2 hf hG hs;obtain⟨H,G,D⟩:=ain (IS hG);exact⟨X,hG,FY a1 Q X a2 O (by rw[H];exact j) (by rw[G];exact a) (by rw[D];exact e3) hs (bk X a2 H G D hf) ap⟩
    split at h;rename_i X an;exact a4 X P al (by unfold gD;rw[an];rfl) h;rename_i b X an;refine a4 X P al ?_ h.2;unfold gD;rw[an];exact⟨h.1,asZ an,rfl⟩;rename_i b s1 s2 an;obtain⟨bJ,ab,af,N⟩:=Za al h;cases hv:b.den O;exact a4 s2 ab af (by unfold gD;rw[an];simp[OR.FX,hv,bJ]) (by simpa[hv] using N);exact a4 s1 ab af (by unfold gD;rw[an];simp[OR.FX,hv,bJ]) (by simpa[hv] using N);exact h.elim
  have bf:∀P,zO s O P->(mE u (xz u A F) B k C Q (s.put m.o.dst (.bK [])) P).aT p O L->dC p u B A (Dm p k L) (BG p C L) (BH p u B A F k C L) Q O (s.put m.o.dst (.bK [])):=by
   intro P hf h;obtain⟨H,G,D⟩:=a6 s m.o.dst (.bK []);exact FY a1 Q _ P O (by rw[H];exact j) (by rw[G];exact a) (by rw[D];exact e3) h (bk _ P H G D hf) ap
  simp only[mE,PQ] at h;cases ag:m.o.guard with
  |none=>
   rw[ag] at h;exact .inr ⟨by simp[fK,ag],a7 fx a3 h⟩
  |some q=>
   obtain⟨jj,b6⟩:=q;rw[ag] at h;simp only at h;split at h;rename_i d w;split at h;rename_i b M;cases b6;simp only[aDB,if_false] at h;obtain⟨bJ,ab,af,N⟩:=Za a3 h;cases t:b.den O;exact .inr ⟨by simp[fK,ag,w,M,bJ,t],a7 ab af (by simpa[t] using N)⟩;exact .inl ⟨by simp[fK,ag,w,M,bJ,t],bf ab af (by simpa[t] using N)⟩;simp only[if_true] at h;obtain⟨bJ,ab,af,N⟩:=Za a3 h;cases t:b.den O;exact .inl ⟨by simp[fK,ag,w,M,bJ,t],bf ab af (by simpa[t] using N)⟩;exact .inr ⟨by simp[fK,ag,w,M,bJ,t],a7 ab af (by simpa[t] using N)⟩;rename_i M;exact .inl ⟨by simp[fK,ag,w,M],bf fx a3 h⟩;exact h.elim;exact h.elim
end
section
variable{p:Sp}{cf:bB}{ops:cS}{A:vG}
structure jV(cf:bB)(ops:cS)(o:Oper)(s:S)(O:ac)(s':S)(O':ac):Prop where
 tm:∀t∈iY ops o,s'.tmps[t]?=s.tmps[t]?
 kd:looks o.op=J->zy o.op=E->zN cf.ty s s'
 kl:∀t x r w i off,o.op=.load t x->s.ev cf.gl x=.el r w i off->∀e,e≠ .aH->r.kind cf.ty s=e->r.kind cf.ty s'=e
 li:s.ni<=s'.ni
 lb:s.nb<=s'.nb
 lr:Y s.rs<=Y s'.rs
 ag:gI O O' s.ni s.nb (Y s.rs)
def jV.xL{o:Oper}{s X:S}{O:ac}(V:∀t∈iY ops o,X.tmps[t]?=s.tmps[t]?)(W:X.rs=s.rs)(R:X.ni=s.ni)(Q:X.nb=s.nb):jV cf ops o s O X O:=
 ⟨V,λ_ _=>zN.xL W,λt x r w i P _ _=>zN.xL W r,aEV R.symm,aEV Q.symm,aEV (by rw[W]),gI.refl _ _ _ _⟩
def jV.ev{o:Oper}{s X:S}{O V:ac}(h:jV cf ops o s O X V)(W:lC):∀x∈o.op.operands.toList,X.ev W x=s.ev W x:=by
 intro x R;cases x with
 |tmp t=>
  have:t∈iY ops o:=by
   unfold iY;exact aDX _ (aEw.2 ⟨.tmp t,R,rfl⟩)
  simp only[S.ev,vx,aDf,h.tm t this]
 |const v=>rfl
 |global g=>rfl
 |func f=>rfl
def jV.guard{m:OM}{s W:S}{O Q:ac}(h:jV cf ops m.o s O W Q){b:Bool}(X:fK ops m s O=U b):fK ops m W Q=U b:=by
 unfold fK at X⊢;cases V:m.o.guard with
 |none=>rw[V] at X;exact X
 |some q=>
  obtain⟨j,M⟩:=q;rw[V] at X;simp only at X⊢;cases R:(ops[j]?).bind (·.dst) with
  |none=>rw[R] at X;cases X
  |some d=>
   rw[R] at X;simp only at X⊢;have N:W.tmps[d]?=s.tmps[d]?:=h.tm d (by unfold iY;rw[V];exact aEH _ (by simp[R]));rw[N];split at X;rename_i e L;split at X;rename_i P;rw[if_pos (BE.du h.li h.lb h.lr _ P),BE.dj h.ag _ P];exact X;cases X;exact X;cases X
def ait{Q:S}{M:ac}(h:jV cf ops r R N Q M)(L:∀i,zm cf.gl R r.op=U i->bX Q.boxes i=bX R.boxes i)
  (W:(bO cf.ty cf.gl R r.op).xM R N x):(bO cf.ty cf.gl Q r.op).xM Q M x:=by
 have G:bO cf.ty cf.gl Q r.op=bO cf.ty cf.gl R r.op:=by
  cases V:bO cf.ty cf.gl R r.op with
  |ok X=>exact QT (ty:=cf.ty) (h.ev cf.gl) h.kd h.kl L V (λw P=>by cases P)
  |aV b X=>exact QT (ty:=cf.ty) (h.ev cf.gl) h.kd h.kl L V (λw P=>by cases P)
  |no w=>rw[V] at W;exact W.elim
 rw[G];cases V:bO cf.ty cf.gl R r.op with
 |ok X=>rw[V] at W;exact W
 |aV b X=>
  rw[V] at W;obtain⟨F,H,D⟩:=W;exact⟨by rw[BE.dj h.ag _ H];exact F,BE.du h.li h.lb h.lr _ H,D⟩
 |no w=>rw[V] at W;exact W.elim
def Zd{L:S}{C:ac}(h:jV cf ops t.o R N L C)(B:∀i,zm cf.gl R t.o.op=U i->bX L.boxes i=bX R.boxes i)(w:QV cf ops N t R x X):QV cf ops C t L x X:=by
 rcases w with⟨H,G,Q⟩|⟨H,G,Q⟩;exact .inl ⟨h.guard H,G,Q⟩;refine .inr ⟨h.guard H,λW A=>by rw[h.ev cf.gl W A];exact G W A, ?_⟩;have P:=h.ev cf.gl;cases F:t.o.op with
 |pick c W y=>
  rw[F] at Q P;obtain⟨e,u,z,r,q⟩:=Q;refine⟨e,by rw[P c (by simp[Op.operands])];exact u,BE.du h.li h.lb h.lr _ z, ?_,q⟩;rw[BE.dj h.ag _ z,P W (by simp[Op.operands]),P y (by simp[Op.operands])];exact r
 |load V W=>
  have M:=λ(D:(bO cf.ty cf.gl R t.o.op).xM R N x)=>ait (cf:=cf) h B D
  rw[F] at Q P M;exact⟨M Q.1,by rw[P W (by simp[Op.operands])];exact Q.2⟩
 |_=>
  have M:=λ(D:(bO cf.ty cf.gl R t.o.op).xM R N x)=>ait (cf:=cf) h B D
  rw[F] at Q M;exact⟨M Q.1,Q.2⟩
def as1(h:lY r.op=J):dA cf R r=.op:=by
 unfold dA;cases V:r.op<;>rw[V] at h<;>simp[lY] at h<;>try rfl
 rename_i c;cases W:c.callee with
 |builtin b=>cases b<;>simp[W] at h<;>simp[W]
 |value f=>simp[W] at h
 |invoke X m=>simp[W] at h
def FZ(s:S)(d:bT)(v:SV):s.cH d v 0=s.put d v:=by simp[S.cH]
def IU{V:S}(F:lY t.o.op=J)(Q:fK ops t R N=U J):gD cf t R N V<->∃v l,QV cf ops N t R v l/\V=R.cH t.o.dst v l:=by
 unfold gD fc QV;by_cases P:(t.o.op.operands.toList.any λx=>(R.ev cf.gl x).dL)=J;simp only[P,if_true];constructor;exact λh=>h.elim
 rintro⟨v,l,h|h,-⟩;rw[Q] at h;cases h.1;obtain⟨x,H,D⟩:=aDL.1 P;have:=h.2.1 x H;rw[this] at D;cases D
 ·have C:∀x∈t.o.op.operands.toList,(R.ev cf.gl x).dL=false:=by
   intro x H;cases u:(R.ev cf.gl x).dL;rfl;exact absurd (aDL.2 ⟨x,H,u⟩) P
  have G:¬fK ops t R N=U false:=by rw[Q];simp
  have B:∀(M:Nat),(qN R t.o.dst M (bO cf.ty cf.gl R t.o.op)).FX R N V<->∃v l,((fK ops t R N=U E/\v=.bK []/\l=0)\/(fK ops t R N=U J/\(∀x∈t.o.op.operands.toList,(R.ev cf.gl x).dL=E)/\(bO cf.ty cf.gl R t.o.op).xM R N v/\l=M))/\V=R.cH t.o.dst v l:=by
   intro M;rw[aim];constructor;rintro⟨v,X,W⟩;exact⟨v,M,.inr ⟨Q,C,X,rfl⟩,W⟩;rintro⟨v,l,h|⟨-,-,X,rfl⟩,L⟩;exact absurd h.1 G;exact⟨v,X,L⟩
  rw[if_neg P];cases A:t.o.op<;>rw[A] at F B<;>simp only[lY,aDB] at F
  case pick c x y=>
   simp only;cases q:R.ev cf.gl c with
   |bool e=>
    constructor;rintro⟨X,W⟩;refine⟨if e.den N then R.ev cf.gl x else R.ev cf.gl y,0,.inr ⟨Q,by rw[<-A];exact C,e,rfl,X,rfl,rfl⟩, ?_⟩;rw[FZ,W];split<;>rfl;rintro⟨v,l,h|⟨-,-,r,X,W,z,w⟩,L⟩;exact absurd h.1 G;cases X;subst w;refine⟨W, ?_⟩;rw[L,FZ,z];split<;>rfl
   |_=>
    constructor;exact λh=>h.elim
    rintro⟨v,l,h|⟨-,-,r,X,W,z,w⟩,L⟩;exact absurd h.1 G;cases X
  all_goals exact B _
variable{a:ac->S->Prop}{k:ac->SV->S->Prop}{n:OM->ce->ac->S->Nat->ai->Prop}
def aiu(W:lY r.op=J):dI cf r l J R=none:=by
 unfold dI;cases Q:r.op<;>rw[Q] at W<;>simp only[lY,aDB] at W<;>try rfl
 rename_i c;cases V:c.callee with
 |builtin b=>cases b<;>simp[V] at W<;>simp[V]
 |value f=>simp[V] at W
 |invoke X m=>simp[V] at W
def aiv{P:ce}(M:t.dr=J)(Q:lY t.o.op=J):dC p cf ops A a k n (t::P) N R<->∃v l,QV cf ops N t R v l/\dC p cf ops A a k n P N (R.cH t.o.dst v l):=by
 simp only[dC,as1 Q,M,aiu Q,q7];constructor;rintro(⟨V,X⟩|⟨V,H,X,W⟩);exact⟨.bK [],0,.inl ⟨V,rfl,rfl⟩,by rw[FZ];exact X⟩;obtain⟨v,l,L,rfl⟩:=(IU (ops:=ops) Q V).1 X;exact⟨v,l,L,W⟩;rintro⟨v,l,V,X⟩;rcases V with⟨W,rfl,rfl⟩|W;rw[FZ] at X;exact .inl ⟨W,X⟩;exact .inr ⟨W.1,_,(IU (ops:=ops) Q W.1).2 ⟨v,l,.inr W,rfl⟩,X⟩
end
section
variable{p:Sp}{A:bB}{B:cS}{C:vG}
def kH(h:b≠U X):(R.put b x).tmps[X]?=R.tmps[X]?:=by
 cases b with
 |none=>rfl
 |some b=>simp only[S.put,tY];rw[aDP (λe=>h (by rw[e]))]
def IW{t:Nat}(h:b≠U t):(R.cH b x X).tmps[t]?=R.tmps[t]?:=by
 unfold S.cH;rw[kH h]
def kJ(s:S)(d:bT)(v:SV):(s.put d v).boxes=s.boxes:=by cases d<;>rfl
def BJ(s:S)(d:bT)(v:SV)(l:Nat):(s.cH d v l).boxes=s.boxes:=by unfold S.cH;rw[kJ]
def QW(s:S)(d:bT)(v:SV):(s.put d v).lk=s.lk:=by cases d<;>rfl
def Ze{e:bT}{w:SV}(h:∀X,b=U X->e≠U X):(R.put b x).put e w=(R.put e w).put b x:=by
 cases b with
 |none=>cases e<;>rfl
 |some b=>
  cases e with
  |none=>rfl
  |some e=>
   have W:b≠e:=λV=>h b rfl (by rw[V])
   simp only[S.put,tY];rw[List.set_comm _ _ W]
def MI{s:S}{d e:bT}{v w:SV}{l:Nat}(h:∀x,d=U x->e≠U x):(s.cH d v l).put e w=(s.put e w).cH d v l:=by
 unfold S.cH;rw[Ze h];cases e<;>rfl
def as2{e:bT}{w:SV}{V:Nat}(h:∀W,b=U W->e≠U W):(R.cH b x X).cH e w V=(R.cH e w V).cH b x X:=by
 have Q:(R.cH b x X).cH e w V={(R.cH b x X).put e w with lk:=R.lk|||X|||V}:=by
  unfold S.cH;cases e<;>cases b<;>rfl
 have P:(R.cH e w V).cH b x X={(R.cH e w V).put b x with lk:=R.lk|||V|||X}:=by
  unfold S.cH;cases e<;>cases b<;>rfl
 rw[Q,P,Nat.or_assoc,Nat.or_comm X V,<-Nat.or_assoc];have O:(R.cH b x X).put e w={(R.put b x).put e w with lk:=R.lk|||X}:=by unfold S.cH;cases e<;>cases b<;>rfl
 have N:(R.cH e w V).put b x={(R.put e w).put b x with lk:=R.lk|||V}:=by unfold S.cH;cases e<;>cases b<;>rfl
 rw[O,N,Ze h]
def as3(s:S)(d:bT)(v:SV)(l n:Nat)(t:TypeId)(X:ai):(s.cH d v l).cq n t X=(s.cq n t X).cH d v l:=by
 unfold S.cH S.cq;cases d<;>rfl
structure Zf(B:cS)(x y:OM)(dx:Nat):Prop where
 xd:x.dr=J
 yd:y.dr=J
 qx:lY x.o.op=J
 np:H3 y.o.op=E
 dst:x.o.dst=U dx
 ry:dx∉iY B y.o
 dy:y.o.dst≠U dx
 rx:dx∉iY B x.o
 yx:∀d,y.o.dst=U d->d∉iY B x.o
 rc:xw y.o.op=J->zy x.o.op=J->x.bC=J/\y.bC=J
 rb:Bi y.o.op=J->looks x.o.op=J->zy x.o.op=J/\x.bC=J/\y.bC=J
def aiw{y:OM}(h:PU B t y=J):∃Q,Zf B t y Q:=by
 unfold PU at h;simp only[aDc,aDv] at h;obtain⟨⟨⟨⟨⟨⟨⟨L,H⟩,G⟩,F⟩,X⟩,V⟩,O⟩,R⟩:=h;cases P:t.o.dst with
 |none=>rw[P] at X;cases X
 |some Q=>
  rw[P] at X;simp only[aDc,aDv,bne_iff_ne] at X;obtain⟨⟨N,D⟩,M⟩:=X;refine⟨Q,L,H,G,F,P, ?_,D, ?_, ?_, ?_, ?_⟩;intro W;rw[aDN.2 W] at N;cases N;intro W;rw[aDN.2 W] at M;cases M;intro d C W;rw[C] at V;simp only[aDv] at V;rw[aDN.2 W] at V;cases V;intro a b;simp only[a,b,aF8,aGI,aDc] at O;exact O;intro a b;simp only[a,b,aF8,aGI,aDc] at R;exact⟨R.1.1,R.1.2,R.2⟩
def F0{W:S}(h:∀x∈r.op.operands.toList,W.ev A.gl x=R.ev A.gl x):dA A W r=dA A R r:=by
 unfold dA;cases Q:r.op<;>rw[Q] at h<;>try rfl
 case panic x=>simp only;rw[h x (by simp[Op.operands])]
 case call c=>
  simp only;cases P:c.callee with
  |value f=>
   have O:=h f (by simp[Op.operands,Call.operands,P]);have V:c.args.toList.map (W.ev A.gl)=c.args.toList.map (R.ev A.gl):=aDC λx N=>h x (by simp[Op.operands,Call.operands];exact .inr (by simpa using N))
   have M:(c.args.toList.any λx=>(W.ev A.gl x).dL)=c.args.toList.any λx=>(R.ev A.gl x).dL:=by
    have L:=aGh (f:=W.ev A.gl) (p:=SV.dL) (l:=c.args.toList);have H:=aGh (f:=R.ev A.gl) (p:=SV.dL) (l:=c.args.toList);rw[show(c.args.toList.any λx=>(W.ev A.gl x).dL)=(c.args.toList.map (W.ev A.gl)).any SV.dL from L.symm,V,H];rfl
   simp only[O,V,M]
  |invoke X m=>rfl
  |builtin b=>
   cases b<;>try rfl
   cases G:c.args.toList with
   |nil=>rfl
   |cons x X=>
    cases X with
    |nil=>simp only;rw[h x (by simp[Op.operands,Call.operands];exact .inr (by have F:x∈c.args.toList:=(by rw[G];simp);simpa using F))]
    |cons y X=>rfl
def Zg(h:dA A R r=.bj x):H3 r.op=true:=by
 unfold dA at h;split at h;rename_i X;rw[X];rfl;rename_i c X;split at h;split at h;split at h<;>cases h;split at h<;>cases h;cases h;cases h;rename_i W;rw[X];simp[H3,W];cases h;cases h
def vP(s:S)(d:Nat):Prop:=s.tmps[d]?=Z\/∃w,s.tmps[d]?=U w/\w.bd s.ni s.nb (Y s.rs) (aM s.boxes)=J
def Zh{W V R:Nat}{Q:Nat->Bool}:∀{l:ai}{d:Nat}{v:SV},SV.db W V R Q (l.set d v)=J->(l[d]?=Z\/∃w,l[d]?=U w/\w.bd W V R Q=J)->SV.db W V R Q l=J
 |[],d,v,h,_=>rfl
 |x::P,0,v,h,X=>by
  simp only[aGO,SV.gz,aDc] at h⊢;refine⟨?_,h.2⟩;rcases X with X|X;simp at X;simpa using X
 |x::P,d+1,v,h,X=>by
  simp only[List.set_cons_succ,SV.gz,aDc] at h⊢;exact⟨h.1,Zh h.2 (by simpa using X)⟩
def IX{s:S}{dx:Nat}{v:SV}{l:Nat}{cs:ai}(h:(s.cH (U dx) v l).dV cs=J)(X:vP s dx):s.dV cs=true:=by
 simp only[S.dV,S.bd,S.cH,S.put,tY,aDc] at h⊢;exact⟨⟨Zh h.1.1 X,h.1.2⟩,h.2⟩
def as4{V:Ty}{Q:lC}{W:Op}(h:(bO V Q R W).gives N x):lY W=true:=by
 cases W with
 |call c=>
  cases X:c.callee with
  |builtin b=>cases b<;>simp only[bO,X,PR.gives] at h<;>simp[lY,X]
  |value f=>simp only[bO,X,PR.gives] at h
  |invoke r m=>simp only[bO,X,PR.gives] at h
 |_=>first|rfl|(simp only[bO,PR.gives] at h)
def as5{y:OM}(hc:Zf B t y X){b:S}{l:Nat}(ha:vP R X)(hg:fK B y R N=U J)
  (h:gD A y (R.cH (U X) x l) N b):∃Q,gD A y R N Q/\b=Q.cH (U X) x l/\(∀W,y.o.dst≠U W->Q.tmps[W]?=R.tmps[W]?)/\Q.ni=R.ni/\Q.nb=R.nb/\Q.rs=R.rs/\
   ∀i,aM R.boxes i=J->bX Q.boxes i=bX R.boxes i\/(xw y.o.op=J/\(y.bC=J->(R.lk|||l).testBit (2*i)=E)/\(kA R.boxes i).isSome=J):=by
 have ap:jV A B y.o (R.cH (U X) x l) N R N:=jV.xL (λW P=>(IW (λe=>hc.ry (by cases e;exact P))).symm) rfl rfl rfl;have af:jV A B y.o R N (R.cH (U X) x l) N:=jV.xL (λW P=>IW (λe=>hc.ry (by cases e;exact P))) rfl rfl rfl;have m:=af.ev A.gl;have ag:∀z,(U X:bT)=U z->y.o.dst≠U z:=λz D=>by cases D;exact hc.dy
 by_cases k:lY y.o.op=J;have a0:=af.guard hg;obtain⟨w,l',hw,rfl⟩:=(IU (ops:=B) k a0).1 h;have a1:=Zd (cf:=A) ap (λi _=>by rw[BJ]) hw;refine⟨R.cH y.o.dst w l',(IU (ops:=B) k hg).2 ⟨w,l',a1,rfl⟩,as2 ag,λW P=>IW P,(eK _ _ _).1,(eK _ _ _).2.1,(eK _ _ _).2.2,λi _=>.inl (by rw[BJ])⟩;unfold gD fc at h;split at h;exact h.elim;rename_i hk;have a:¬(y.o.op.operands.toList.any λz=>(R.ev A.gl z).dL)=true:=by
  intro hh;obtain⟨z,al,a2⟩:=aDL.1 hh;exact hk (aDL.2 ⟨z,al,by rw[m z al];exact a2⟩)
 have ab:∀(n:Nat)(W:TypeId)(C:ai)(w:SV),n<Y R.boxes->gD A y R N ((R.cq n W C).put y.o.dst w)->b=((R.cH (U X) x l).cq n W C).put y.o.dst w->
   (∀i,aM R.boxes i=J->i=n->xw y.o.op=J/\(y.bC=J->(R.lk|||l).testBit (2*i)=E)/\(kA R.boxes i).isSome=J)->
   ∃Q,gD A y R N Q/\b=Q.cH (U X) x l/\(∀W,y.o.dst≠U W->Q.tmps[W]?=R.tmps[W]?)/\Q.ni=R.ni/\Q.nb=R.nb/\Q.rs=R.rs/\
    ∀i,aM R.boxes i=J->bX Q.boxes i=bX R.boxes i\/(xw y.o.op=J/\(y.bC=J->(R.lk|||l).testBit (2*i)=E)/\(kA R.boxes i).isSome=J):=by
  intro n W C w hn h1 h2 h3;refine⟨_,h1, ?_,λW P=>kH P,(eK _ _ _).1,(eK _ _ _).2.1,(eK _ _ _).2.2,λi M=> ?_⟩;rw[h2,as3,MI ag];by_cases an:i=n;exact .inr (h3 i M an);left;rw[kJ,S.cq,xE an]
 split at h;rename_i W V;split at h;rename_i ti P;split at h;rename_i L;simp only[aDc] at L;have H:=IX L.1 ha;have G:ot R.boxes y.ix W=true:=L.2;have F:eU R.boxes y.ix=true:=qX G;refine ab y.ix W (dp ti) _ (lK F).2 ?_ h (λi M e=>by subst e;rw[(lK F).1] at M;cases M);unfold gD fc;rw[if_neg a];simp only[V,P,H,G,aEB,if_true];rfl;exact h.elim;exact h.elim;rename_i W z V;have D:=m z (by rw[V];simp[Op.operands]);split at h;rename_i ti P;rw[D] at h;split at h;rename_i L;simp only[aDc] at L;obtain⟨⟨⟨g,f⟩,d⟩,c4⟩:=L;have H:=IX f ha;have G:ot R.boxes y.ix W=true:=c4;have F:eU R.boxes y.ix=true:=qX G;refine ab y.ix W _ _ (lK F).2 ?_ h (λi M e=>by subst e;rw[(lK F).1] at M;cases M);unfold gD fc;rw[if_neg a];simp only[V,P,g,H,d,G,aEB,if_true];rfl;exact h.elim;exact h.elim;rename_i W a6 parts V;have D:(parts.toList.map λp=>(p.1,(R.cH (U X) x l).ev A.gl p.2))=parts.toList.map λp=>(p.1,R.ev A.gl p.2):=aDC λp hp=>by rw[m p.2 (by rw[V];simp[Op.operands];exact⟨p.1,by simpa using hp⟩)]
 split at h;rename_i e ae q P;split at h;rename_i te a3;rw[D] at h;split at h;rename_i C hf;split at h;rename_i L;simp only[aDc] at L;obtain⟨⟨g,f⟩,d⟩:=L;have H:=IX g ha;have G:ot R.boxes y.ix e=true:=d;have F:eU R.boxes y.ix=true:=qX G;refine ab y.ix e C _ (lK F).2 ?_ h (λi M e=>by subst e;rw[(lK F).1] at M;cases M);unfold gD fc;rw[if_neg a];simp only[V,P,a3,hf,H,f,G,aEB,if_true];rfl;exact h.elim;exact h.elim;exact h.elim;exact h.elim;rename_i W z u V;have D:=m z (by rw[V];simp[Op.operands]);have hu:=m u (by rw[V];simp[Op.operands]);rw[D,hu] at h;split at h;rename_i ti i a7 P M;rw[BJ] at h;split at h;rename_i bt C H;split at h;rename_i L;simp only[aDc,aDv] at L;obtain⟨⟨⟨⟨g,f⟩,d⟩,c4⟩,r⟩:=L;have a4:(R.cH (U X) x l).lk=R.lk|||l:=QW _ _ _;rw[a4] at r;have a5:(y.bC&&R.lk.testBit (2*i))=false:=by
  cases hr:y.bC;rfl;rw[hr,aE8,aEL] at r;simp only[aDW] at r;simp[r.1]
 refine ab i bt _ _ (aDd.1 (i5.1 (xC H).1)).1 ?_ h (λj hj e=> ?_);unfold gD fc;rw[if_neg a];simp only[V,P,M,H,g,f,d,c4,a5,aEB,Bool.not_false,if_true];rfl;subst e;refine⟨by rw[V];rfl,λhr=> ?_,by rw[H];rfl⟩;rw[hr,aE8] at r;exact r;exact h.elim;exact h.elim;exact h.elim;rename_i c z u V;exact absurd (by rw[V];rfl) k;rename_i W z V;exact absurd (by rw[V];rfl) k;rename_i o1 o2 o3 o4 o5 o6;exfalso;obtain⟨w,hw,-⟩:=aim.1 h;refine k ?_;exact as4 (QU hw)
def as6{X:Ty}{W:S}(h:R.rs=W.rs)(k:RK)(r:RE):r.fits X R k=r.fits X W k:=by
 unfold RE.fits;cases k<;>simp only[BF h r]
def aix{X:Ty}{s W:S}(h:s.rs=W.rs):∀(ae:dN)(V:ai),ld X s ae V=ld X W ae V
 |[],[]=>rfl
 |[],_::_=>rfl
 |_::_,[]=>rfl
 |c::R,v::Q=>by
  simp only[ld,aix h R Q];congr 1;cases c<;>cases v<;>simp only[qM,as6 h]
def Dn{X:Ty}{s s':S}(h:s.rs=s'.rs){ae:dN}:∀{l:tW},lX X s ae l=lX X s' ae l
 |[]=>rfl
 |r::W=>by simp only[lX,aix h ae r,Dn h (l:=W)]
def as7{l:Nat}{W:Ty}{V:TI}{y:SV}{r:LE×BE×aj}(h:pQ W (R.cH (U X) x l) M V y=U r):pQ W R M V y=U r:=by
 unfold pQ at h⊢;split at h;simp only[BF (s:=R) (s':=R.cH (U X) x l) rfl];exact h;rw[BJ] at h;split at h;rename_i Q;simp only[Dn (s:=R) (s':=R.cH (U X) x l) rfl];exact h;cases h;cases h
def as8{W:Nat}{y:SV}{Q:LE}{n:BE}(h:vD (R.cH (U X) x W) M l y=U (Q,n,v)):vD R M l y=U (Q,n,v)/\∀k∈v,l=J->(R.lk|||W).testBit (2*k+1)=false:=by
 have N:(R.cH (U X) x W).lk=R.lk|||W:=QW _ _ _;unfold vD at h⊢;split at h;rename_i k;split at h;rename_i P;cases h;have L:R.rs[k]?=U (.own M):=P.1;have V:=P.2;rw[N] at V;simp only[aDv,aGB] at V;refine⟨?_,λF O H=> ?_⟩;rw[if_pos];refine⟨L, ?_⟩;simp only[aDv,aGB];rcases V with V|V;exact .inl V;rw[aEL,aDW] at V;exact .inr V.1;simp at O;subst O;rcases V with V|V;rw[H] at V;cases V;exact V;cases h;rename_i r D;split at h;rename_i G;cases h;simp[G];cases h;cases h;exact⟨rfl,by simp⟩;cases h
variable{D:ac->S->Prop}{F:ac->SV->S->Prop}{G:OM->ce->ac->S->Nat->ai->Prop}
def as9(X:aR)(s:S)(d:bT)(v:SV)(l:Nat):((s.cH d v l).bW X).1=(s.bW X).1/\((s.cH d v l).bW X).2=(s.bW X).2.cH d v l:=by
 induction X generalizing s with
 |nil=>exact⟨rfl,rfl⟩
 |cons k X W=>
  simp only[S.bW];have V:((s.cH d v l).fresh k).1=(s.fresh k).1/\((s.cH d v l).fresh k).2=(s.fresh k).2.cH d v l:=by
   cases k<;>cases d<;>exact⟨rfl,rfl⟩
  rw[V.1,V.2];exact⟨by rw[(W _).1],(W _).2⟩
def ata(h:QV A B N t R x X)(H:fK B t R N=U J){W:Operand}{i G:Nat}(F:t.o.op=.load M W)(Q:R.ev A.gl W=.loc i G):aM R.boxes i=J/\(t.bC=J->X=1<<<(2*i)):=by
 rcases h with h|⟨-,-,h⟩;rw[H] at h;cases h.1;rw[F] at h;obtain⟨V,D⟩:=h;refine⟨?_,λC=>by rw[D,Q,C];rfl⟩;have V:=QU V;simp only[bO,Q] at V;cases P:A.ty M with
 |none=>rw[P] at V;exact V.elim
 |some z=>
  rw[P] at V;simp only at V;cases L:bX R.boxes i with
  |none=>rw[show kA R.boxes i=Z by simp[kA,L]] at V;exact V.elim
  |some b=>simp[aM,L]
def atb{m:OM}{s:S}{O:ac}{v:SV}{l:Nat}(h:QV A B O m s v l)(N:fK B m s O=U J){t:TypeId}{x:Operand}{i:Nat}{e:IE}{M:bh}{W:ai}(L:m.o.op=.load t x)(V:s.ev A.gl x=.eQ e M W)(R:xl W=U i):aM s.boxes i=J/\(m.bC=J->l=1<<<(2*i)):=by
 rcases h with h|⟨-,-,h⟩;rw[N] at h;cases h.1;rw[L] at h;obtain⟨X,H⟩:=h;refine⟨?_,λG=>by rw[H,V,G];simp[LO,R]⟩;have X:=QU X;simp only[bO,V] at X;cases Q:A.ty t with
 |none=>rw[Q] at X;exact X.elim
 |some F=>
  rw[Q] at X;simp only[R,aFt] at X;cases P:bX s.boxes i with
  |none=>rw[show kA s.boxes i=Z by simp[kA,P]] at X;exact X.elim
  |some b=>simp[aM,P]
def aiy(h:QV A B N t R x X)(G:fK B t R N=U J){i:Nat}(P:zm A.gl R t.o.op=U i):aM R.boxes i=J/\((zy t.o.op=J/\(t.bC=J->X=1<<<(2*i)))\/kA R.boxes i=Z):=by
 unfold zm at P;split at P;rename_i W V M;split at P;rename_i j y L;cases P;obtain⟨Q,F⟩:=ata h G M L;exact⟨Q,.inl ⟨by rw[M];rfl,F⟩⟩;rename_i e w u L;obtain⟨Q,F⟩:=atb h G M L P;exact⟨Q,.inl ⟨by rw[M];rfl,F⟩⟩;cases P;rename_i W V r g M;split at P;rename_i j L;cases P;rcases h with h|⟨-,-,h⟩;rw[G] at h;cases h.1;rw[M] at h;have Q:=QU h.1;simp only[bO,L] at Q;split at Q;rename_i k e n f ae q d ab C;cases C;unfold PD at Q;split at Q;rename_i te a b c z cs g1 g2 D;refine⟨by simp[aM,D],.inr ?_⟩;have:oU z=true:=by
  split at Q;exact Q.elim;split at Q;rename_i H;simp at H;rw[H];decide;split at Q;rename_i H;simp at H;rw[H];decide;exact Q.elim
 simp[kA,D,this];exact Q.elim;exact Q.elim;cases P;cases P
def IY{b:BI}(h:dI A r l J R=U b):sf r.op=true:=by
 unfold dI at h;cases W:r.op<;>rw[W] at h<;>simp only[if_true,aGL] at h<;>try cases h
 rfl;rename_i c;cases X:c.callee with
 |builtin V=>cases V<;>simp[X] at h<;>simp[sf,X]
 |_=>simp[X] at h
def Zi{V:S}(h:sf t.o.op=J)(X:gD A t R N V):False:=by
 unfold gD fc at X;split at X;exact X;cases Q:t.o.op<;>rw[Q] at h X<;>simp[sf] at h;simp[bO,qN,OR.FX] at X;rename_i c;cases W:c.callee with
 |builtin P=>cases P<;>simp[W] at h<;>simp[bO,W,qN,OR.FX] at X
 |_=>simp[W] at h
def aiz{l:Nat}{aV:BE}{k:RK}{W:LE}{Q:aj}{P:BI}(N:vP R X)(L:b≠U X)
  (h:jl (R.cH (U X) x l) b aV M k W v Q=U P):
  ∃V,jl R b aV M k W v Q=U V/\P={V with s:=V.s.cH (U X) x l}/\(∀t,b≠U t->V.s.tmps[t]?=R.tmps[t]?)/\V.s.ni=R.ni/\V.s.nb=R.nb/\V.s.rs=jz Q 0 (gV v 0 R.rs)++[k]/\V.s.boxes=R.boxes:=by
 unfold jl at h⊢;split at h;rename_i O;cases h;simp only[aDc] at O;obtain⟨⟨⟨H,G⟩,F⟩,D⟩:=O;have C:R.bd=true:=by
  have:R.dV []=true:=IX (dx:=X) (v:=x) (l:=l) (cs:=[]) (by simp[S.dV,H,SV.gz]) N;simp only[S.dV,aDc] at this;exact this.1
 rw[if_pos (by simp only[aDc];exact⟨⟨⟨C,G⟩,F⟩,D⟩)];refine⟨_,rfl, ?_,λt B=>kH B,(eK _ _ _).1,(eK _ _ _).2.1,(eK _ _ _).2.2,kJ _ _ _⟩;congr 1;exact MI (s:={R with rs:=jz Q 0 (gV v 0 R.rs)++[k]}) (d:=U X) (e:=b) (v:=x) (w:=.ref (.v (Y R.rs))) (l:=l) (λz A=>by cases A;exact L);cases h
def atc{y:OM}(N:Zf B t y X){l:Nat}(G:vP R X)(Q:∀z∈y.o.op.operands.toList,R.ev A.gl z=(R.cH (U X) x l).ev A.gl z){F:BI}
  (h:dI A y.o y.bC y.dr (R.cH (U X) x l)=U F):
  ∃b V M C,dI A y.o y.bC y.dr R=U b/\F={b with s:=b.s.cH (U X) x l}/\(∀W,y.o.dst≠U W->b.s.tmps[W]?=R.tmps[W]?)/\b.s.ni=R.ni/\b.s.nb=R.nb/\b.s.rs=jz M 0 (gV V 0 R.rs)++[C]/\b.s.boxes=R.boxes/\
   (∀k∈V,y.bC=J->(R.lk|||l).testBit (2*k+1)=E)/\(Bi y.o.op=E->V=[]):=by
 have P:=IY (by rw[N.yd] at h;exact h);unfold dI at h⊢;cases w:y.o.op<;>rw[w] at P h Q<;>simp[sf] at P;rename_i W n m;simp only at h⊢;rw[Q n (by simp[Op.operands]),Q m (by simp[Op.operands])];split at h;rename_i e ae q u r j i g;split at h;rename_i O f;split at h;rename_i d;obtain⟨b,L,H,a,g4,g5,g6,g7⟩:=aiz G N.dy h;have ab:(u.same r&&lX A.ty R O.ae [dp O]&&Y O.ae !=0)=true:=by
  rw[<-Dn (s:=R.cH (U X) x l) (s':=R) rfl];exact d
 rw[if_pos ab];exact⟨b,[],[],_,L,H,a,g4,g5,g6,g7,by simp,λ_=>rfl⟩;cases h;cases h;cases h;rename_i c;cases bq:c.callee with
 |builtin bb=>
  cases bb<;>simp[bq] at P;simp only[bq] at h⊢;have af:c.args.toList.map (R.ev A.gl)=c.args.toList.map ((R.cH (U X) x l).ev A.gl):=aDC λz hz=>Q z (by simp[Op.operands,Call.operands];exact .inr (by simpa using hz))
  rw[af];split at h;rename_i W t2 x0 y0 i g;split at h;rename_i e ae q e2 al D j an;split at h;rename_i O f;split at h;cases h;rename_i ag;rw[if_neg ag];split at h;rename_i la n1 V lb n2 M L H;obtain⟨q1,D⟩:=as8 L;have q3:=as7 H;rw[q1,q3];obtain⟨b,k1,k2,k3,k4,k5,k6,k7⟩:=aiz G N.dy h;exact⟨b,V,M,_,k1,k2,k3,k4,k5,k6,k7,D,λh=>by simp[Bi,bq] at h⟩;cases h;cases h;cases h;cases h
 |_=>simp[bq] at P
def atd(bf:Dl B C){y:OM}{al:ce}(bg:y.so=E)(bk:PU B t y=J)(ha:∀d,t.o.dst=U d->vP R d)
  (e1:Y N.i=R.ni)(e2:Y N.b=R.nb)(e3:Y N.r=Y R.rs)
  (h:dC p A B C D F G (t::y::al) N R):dC p A B C D F G (y::t::al) N R:=by
 obtain⟨a,M⟩:=aiw bk;obtain⟨v,l,L,h⟩:=(aiv M.xd M.qx).1 h;rw[M.dst] at h;have a0:=ha a M.dst;have a2:∀z,(U a:bT)=U z->y.o.dst≠U z:=λz hz=>by cases hz;exact M.dy
 have an:jV A B y.o (R.cH (U a) v l) N R N:=jV.xL (λX f=>(IW (λe=>M.ry (by cases e;exact f))).symm) rfl rfl rfl;have ap:∀(s':S)(O':ac),(fK B t R N=U E->fK B t s' O'=U E)->(fK B t R N=U J->jV A B t.o R N s' O')->(fK B t R N=U J->∀i,zm A.gl R t.o.op=U i->bX s'.boxes i=bX R.boxes i)->dC p A B C D F G al O' (s'.cH (U a) v l)->dC p A B C D F G (t::al) O' s':=by
  intro s' O' bl hs hb hr;refine(aiv M.xd M.qx).2 ⟨v,l, ?_,by rw[M.dst];exact hr⟩;cases af:fK B t R N with
  |none=>rcases L with L|L<;>(rw[af] at L;cases L.1)
  |some b=>
   cases b;rcases L with L|L;exact .inl ⟨bl L.1,L.2⟩;rw[af] at L;cases L.1;exact Zd (hs af) (hb af) L
 simp only[dC] at h;rcases h with⟨h1,P⟩|⟨h1,P⟩;refine .inl ⟨an.guard h1, ?_⟩;rw[MI a2] at P;have ab:jV A B t.o R N (R.put y.o.dst (.bK [])) N:=jV.xL (λX f=>kH (λe=>M.yx X e f)) (eK _ _ _).2.2 (eK _ _ _).1 (eK _ _ _).2.1;refine ap _ _ ab.guard (λ_=>ab) (λ_ i _=>by rw[kJ]) P
 ·refine .inr ⟨an.guard h1, ?_⟩;have hg:fK B y R N=U true:=an.guard h1;have bo:dA A R y.o=dA A (R.cH (U a) v l) y.o:=F0 (an.ev A.gl);rw[bo];cases a1:dA A (R.cH (U a) v l) y.o with
  |call g0 c=>
   rw[a1] at P;rcases g0 with g|n
   rotate_left
   have h3:=P.1;rw[bg] at h3;cases h3;have br:C g c (R.cH (U a) v l)=C g c R:=bf.q _ _ _ _ _ _;show oB _ _ _;have P:oB _ _ _:=P;rw[br] at P;cases a6:C g c R with
   |some ve=>
    obtain⟨pv,ex⟩:=ve;rw[a6] at P;obtain⟨bs,P⟩:=P;have bt:R.bd=true:=by
     have:=IX (s:=R) (dx:=a) (v:=v) (l:=l) (cs:=[]) (by simp only[S.dV,bs,SV.gz,aEB]) a0;simp only[S.dV,aDc] at this;exact this.1
    have bx:(((R.cH (U a) v l).plus ex).put y.o.dst pv)=(((R.plus ex).put y.o.dst pv).cH (U a) v l):=by
     rw[<-MI a2];rfl
    rw[bx] at P;have ab:jV A B t.o R N ((R.plus ex).put y.o.dst pv) N:=jV.xL (λX f=>kH (λe=>M.yx X e f)) (eK _ _ _).2.2 (eK _ _ _).1 (eK _ _ _).2.1;refine⟨bt,ap _ _ ab.guard (λ_=>ab) (λaf i hi=> ?_) P⟩;rw[kJ];exact aiq (aiy L af hi).1
   |none=>
   rw[a6] at P;simp only[oB] at P⊢;obtain⟨ts,H,r,c1,c2,c3,c4,c5⟩:=P;obtain⟨f1,f2⟩:=as9 H (R.cut c H) (U a) v l;have b0:(R.dV c&&ou H)=true:=by
    simp only[aDc] at c4⊢;exact⟨IX c4.1 a0,c4.2⟩
   refine⟨ts,H,r,c1,c2,by rw[<-f1];exact c3,b0,λV W Q=> ?_⟩;refine(c5 V W (by rw[BJ];exact Q)).mono ?_;intro e W' he;cases e with
   |returned u=>
    obtain⟨xs,q1,q2,q3,q4,q5⟩:=he;refine⟨xs,q1,q2,q3,q4, ?_⟩;have q5:dC p A B C D F G al (N.ext xs) ((((R.cut c H).cH (U a) v l).bW H).2.put y.o.dst (one r)):=q5;rw[f2,MI a2] at q5;obtain⟨b1,b2,b3,b4⟩:=vO H (R.cut c H);obtain⟨l1,l2,l3⟩:=xK H xs (R.cut c H) N q1 e1 e2 (e3.trans (Dk c H R.rs).len.symm);have a3:=Ql xs N;have a7:zN A.ty R ((((R.cut c H).bW H).2).put y.o.dst (one r)):=by
     intro q e he j;refine QS (λk e _ j=> ?_) he j;rw[(eK _ _ _).2.2];obtain⟨e',g1,g2⟩:∃e',(Bh c H R.rs)[k]?=U e'/\e'.rd=e.rd:=by
      unfold Bh;split;refine⟨xo ((LV c (Y R.rs)).contains k) e,by rw[IB,j];simp, ?_⟩;cases e<;>simp only[xo]<;>try rfl
      split<;>rfl;exact⟨e,j,rfl⟩
     exact⟨e',ah0 H (R.cut c H) k e' g1,g2⟩
    have ab:jV A B t.o R N ((((R.cut c H).bW H).2).put y.o.dst (one r)) (N.ext xs):=by
     refine⟨λX f=> ?_,λ_ _=>a7,λX t r w i a8 _ _=>a7 r, ?_, ?_, ?_, ?_⟩;rw[kH (λe=>M.yx X e f),b2];rfl;rw[(eK _ _ _).1,<-l1,<-e1];exact a3.1;rw[(eK _ _ _).2.1,<-l2,<-e2];exact a3.2.1;rw[(eK _ _ _).2.2,<-l3,<-e3];exact a3.2.2;rw[<-e1,<-e2,<-e3];exact Da xs N
    exact ap _ _ ab.guard (λ_=>ab) (λ_ i _=>by rw[kJ,b1];rfl) q5
   |panicked ch=>exact he
   |outgrown=>exact he
  |bj w=>
   have:=Zg a1;rw[M.np] at this;cases this
  |no=>rw[a1] at P;exact P
  |op=>
   rw[a1] at P;simp only at P⊢;cases a4:dI A y.o y.bC y.dr (R.cH (U a) v l) with
   |some b1=>
    rw[a4] at P;obtain⟨hn,P⟩:=P;obtain⟨b,b5,b6,kk,g1,g2,g3,g4,g5,g6,g7,g8,g9⟩:=atc M a0 (an.ev A.gl) a4;rw[g1];subst g2;refine⟨hn,λrv b7=>ap _ _ ?_ ?_ ?_ (P rv b7)⟩;intro b8;have ca:jV A B {t.o with op:=.move (.const undef)} R N b.s (N.add (.r rv)):=⟨λX f=>g3 X (λe=>M.yx X e (by
     unfold iY at f⊢;refine(aDo.1 f).elim (λh=> ?_) (λh=>aEH _ h);simp[Op.operands] at h)),λh=>by simp[looks] at h,λX x0 r w i a8 h=>by simp at h,aEV g4.symm,aEV g5.symm,by rw[g6];simp[zI,zH],by rw[<-e1,<-e2,<-e3];exact Qa N (.r rv)⟩
    exact ca.guard (m:={t with o:={t.o with op:=.move (.const undef)}}) b8;intro af;have a9:∀(k:Nat)(e:RK),k∉b5->R.rs[k]?=U e->∃e',b.s.rs[k]?=U e'/\e'.rd=e.rd:=by
     intro k e cc j;have cl:k<Y R.rs:=(aDd.1 j).1;refine⟨xo (b6.contains k) e, ?_, ?_⟩;rw[g6,aDg (by simp[zI,zH];exact cl),IB,IA,j];simp[cc];cases e<;>simp only[xo]<;>try rfl
     split<;>rfl
    refine⟨λX f=>g3 X (λe=>M.yx X e f),λcm cp=> ?_,λX x0 r w i a8 ho hx e he j=> ?_,aEV g4.symm,aEV g5.symm,by rw[g6];simp[zI,zH],by rw[<-e1,<-e2,<-e3];exact Qa N (.r rv)⟩;cases ag:Bi y.o.op with
    |true=>
     have:=(M.rb ag cm).1;rw[cp] at this;cases this
    |false=>
     intro r e he j;exact QS (λk e _ j=>a9 k e (by rw[g9 ag];simp) j) he j
    refine QS (λk e ct j=>a9 k e ?_ j) he j;intro a5;have ag:Bi y.o.op=true:=by
     cases ag:Bi y.o.op with
     |true=>rfl
     |false=>rw[g9 ag] at a5;cases a5
    obtain⟨-,r1,r2⟩:=M.rb ag (by rw[ho];rfl);have bb:=g8 k a5 r2;rcases L with L|⟨-,-,L⟩;rw[af] at L;cases L.1;rw[ho] at L;have:=L.2;rw[hx,r1] at this;simp only[LO,ct,if_true] at this;rw[this,aEL] at bb;simp[aFP] at bb;intro _ i _;rw[g7]
   |none=>
   rw[a4] at P;have cv:dI A y.o y.bC y.dr R=none:=by
    cases hb:dI A y.o y.bC y.dr R with
    |none=>rfl
    |some b=>
     exfalso;have cx:=IY (by rw[M.yd] at hb;exact hb);obtain⟨s2,h3,-⟩:=P;exact Zi cx h3
   rw[cv];simp only[q7] at P⊢;obtain⟨s2,h3,h4⟩:=P;obtain⟨s',g1,g2,g3,g4,g5,g6,g7⟩:=as5 M a0 hg h3;subst g2;have ab:jV A B t.o R N s' N:=jV.xL (λX f=>g3 X (λe=>M.yx X e f)) g6 g4 g5;refine⟨s',g1,ap s' N ab.guard (λ_=>ab) ?_ h4⟩;intro af i hi;obtain⟨k1,k2⟩:=aiy L af hi;rcases g7 i k1 with k3|⟨k3,k4,k5⟩;exact k3;rcases k2 with⟨k2,k6⟩|k2;obtain⟨r1,r2⟩:=M.rc k3 k2;have:=k4 r2;rw[k6 r1,aEL] at this;simp[aFP] at this;rw[k2] at k5;cases k5
end
section
variable{p:Sp}{cf:bB}{B:cS}{A:vG}{C:ac->S->Prop}{F:ac->SV->S->Prop}{G:OM->ce->ac->S->Nat->ai->Prop}
def aiA{V:S}(h:(fc cf t R).gives N V):∀X,t.o.dst≠U X->V.tmps[X]?=R.tmps[X]?:=by
 intro q W;unfold fc at h;split at h;exact h.elim;split at h;split at h;split at h;cases h;rw[kH W];rfl;exact h.elim;exact h.elim;split at h;split at h;cases h;rw[kH W];rfl;exact h.elim;exact h.elim;split at h;split at h;split at h;split at h;cases h;rw[kH W];rfl;exact h.elim;exact h.elim;exact h.elim;exact h.elim;split at h;split at h;split at h;cases h;rw[kH W];rfl;exact h.elim;exact h.elim;exact h.elim;split at h;simp only[OR.gives] at h;split at h<;>(subst h;rw[kH W]);exact h.elim;obtain⟨v,-,rfl⟩:=zK h;rw[IW W];obtain⟨v,-,rfl⟩:=zK h;rw[IW W]
def Zj{b:BI}(h:dI cf r l J R=U b):∀t,r.dst≠U t->b.s.tmps[t]?=R.tmps[t]?:=by
 intro q O;have V:∀{aV:BE}{e:TypeId}{k:RK}{x:LE}{Q P:aj},jl R r.dst aV e k x Q P=U b->b.s.tmps[q]?=R.tmps[q]?:=by
  intro aV e k x Q P h;obtain⟨-,-,rfl⟩:=xG h;simp only;rw[kH O]
 have X:=IY h;unfold dI at h;cases N:r.op<;>rw[N] at X h<;>simp[sf] at X;simp only at h;split at h;split at h;split at h;exact V h;cases h;cases h;cases h;rename_i c;cases W:c.callee with
 |builtin M=>
  cases M<;>simp[W] at X;simp only[W] at h;split at h;split at h;split at h;split at h;cases h;split at h;exact V h;cases h;cases h;cases h;cases h
 |_=>simp[W] at X
def Zk{X W V:Nat}{R:Nat->Bool}:∀{l m:ai},SV.db X W V R (l++m)=J<->SV.db X W V R l=J/\SV.db X W V R m=J
 |[],m=>by simp[SV.gz]
 |x::Q,m=>by simp[SV.gz,Zk (l:=Q),and_assoc]
def uj{X W V:Nat}{R:Nat->Bool}:∀{l:ai},SV.db X W V R l=J<->∀v∈l,v.bd X W V R=J
 |[]=>by simp[SV.gz]
 |x::Q=>by simp[SV.gz,uj (l:=Q)]
def ate{W V:Nat}{R:Nat->Bool}(v:Value):(LG v).bd X W V R=true:=by
 have Q:∀w,(HN w).bd X W V R=true:=λw=>by cases w<;>simp[HN,SV.ba,IE.ba,BE.ba,RE.ba]
 cases v<;>try simp[LG,SV.ba,IE.ba,BE.ba,RE.ba]
 rw[uj];intro x P;obtain⟨w,-,rfl⟩:=aDF.1 P;exact Q w
def zP(X:R.bd=J){x:Operand}(W:vF x=J):(R.ev cf.gl x).bd R.ni R.nb (Y R.rs) (aM R.boxes)=true:=by
 simp only[S.bd,aDc] at X;cases x with
 |tmp t=>
  simp only[S.ev,vx,aDf];cases V:R.tmps[t]? with
  |none=>simp[SV.ba]
  |some v=>exact uh X.1 V
 |const v=>exact ate v
 |global g=>cases W
 |func f=>simp[S.ev,SV.ba,SV.gz]
def Zl{W V:Nat}{R:Nat->Bool}(h:x.bd X W V R=J):SV.db X W V R x.cells=true:=by
 cases x<;>simp only[SV.cells,SV.gz,aFg]<;>first|exact h|(simp only[SV.ba] at h;exact h)
def Zm{X W V:Nat}{R:Nat->Bool}:∀{vs l:ai}{Q:Nat},SV.db X W V R l=J->SV.db X W V R vs=J->SV.db X W V R (j8 l Q vs)=J
 |[],l,Q,h,_=>h
 |v::vs,l,Q,h,P=>by
  simp only[SV.gz,aDc] at P;rw[j8];refine Zm (vs:=vs) ?_ P.2;rw[uj] at h⊢;intro x N;rcases aEc N with O|O;exact h x O;rw[O];exact P.1
def aiB{V R Q:Nat}{P:Nat->Bool}{place:Nat->Option (Nat×Nat)}:∀{O:List (Nat×SV)}{W l:ai},SV.db V R Q P W=J->(∀q∈O,q.2.bd V R Q P=J)->xk place W O=U l->SV.db V R Q P l=J
 |[],W,l,h,_,X=>by simp[xk] at X;subst X;exact h
 |(i,v)::r,W,l,h,N,X=>by
  simp only[xk] at X;split at X;cases X;split at X;cases X;exact aiB (Zm h (Zl (N (i,v) aES))) (λq M=>N q (aEn _ M)) X
def QX{W V:Nat}{R:Nat->Bool}(Q:TI):SV.db X W V R (dp Q)=true:=by
 rw[uj];intro x P;obtain⟨c,-,rfl⟩:=aDF.1 P;cases c<;>simp[A6,SV.ba,IE.ba,BE.ba,RE.ba]
def aiC{X W V:Nat}{R:Nat->Bool}{l:ai}(h:SV.db X W V R l=J):∀n,SV.db X W V R (vC n l)=J
 |0=>rfl
 |n+1=>by rw[vC,Zk];exact⟨h,aiC h n⟩
mutual
def SV.MJ{W V R:Nat}{Q P:Nat->Bool}(h:∀i,Q i=J->P i=J):∀(v:SV),v.bd W V R Q=J->v.bd W V R P=J
 |.int _ _,X=>by simp only[SV.ba] at X⊢;exact X
 |.bool _,X=>by simp only[SV.ba] at X⊢;exact X
 |.ref _,X=>by simp only[SV.ba] at X⊢;exact X
 |.loc i _,X=>by simp only[SV.ba] at X⊢;exact h i X
 |.gM i _ _ _,X=>by simp only[SV.ba] at X⊢;exact h i X
 |.el _ _ _ _,X=>by simp only[SV.ba] at X⊢;exact X
 |.agg l,X=>by simp only[SV.ba] at X⊢;exact SV.Do h l X
 |.bK l,X=>by simp only[SV.ba] at X⊢;exact SV.Do h l X
 |.fn _ l,X=>by simp only[SV.ba] at X⊢;exact SV.Do h l X
 |.eP _ x,X=>by simp only[SV.ba] at X⊢;exact SV.MJ h x X
 |.yl _,_=>by simp only[SV.ba]
 |.any,_=>by simp only[SV.ba]
 |.mp i,X=>by simp only[SV.ba] at X⊢;exact h i X
 |.eQ _ _ O,X=>by simp only[SV.ba,aDc] at X⊢;exact⟨X.1,SV.Do h O X.2⟩
def SV.Do{W V R:Nat}{Q P:Nat->Bool}(h:∀i,Q i=J->P i=J):∀(l:ai),SV.db W V R Q l=J->SV.db W V R P l=J
 |[],_=>rfl
 |x::O,X=>by simp only[SV.gz,aDc] at X⊢;exact⟨SV.MJ h x X.1,SV.Do h O X.2⟩
end
def BK{V R Q:Nat}{P:Nat->Bool}:∀{l:bA},SV.oZ V R Q P l=J<->∀(i:Nat)(b:TypeId×ai),bX l i=U b->SV.db V R Q P b.2=J
 |[]=>by simp[SV.oZ,cK]
 |Z::W=>by
  simp only[SV.oZ,BK (l:=W)];exact⟨λh i b X=>by cases i with
   |zero=>simp[cK] at X
   |succ i=>exact h i b (by simpa[cK] using X),λh i b X=>h (i+1) b (by simpa[cK] using X)⟩
 |some x::W=>by
  simp only[SV.oZ,aDc,BK (l:=W)];exact⟨λh i b X=>by cases i with
   |zero=>simp[cK] at X;subst X;exact h.1
   |succ i=>exact h.2 i b (by simpa[cK] using X),λh=>⟨h 0 x (by simp[cK]),λi b X=>h (i+1) b (by simpa[cK] using X)⟩⟩
def S.more(s:S)(n:Nat)(t:TypeId)(X:ai)(d:bT)(w:SV):S:=(s.cq n t X).put d w
def aiD(Q:R.bd=J)(F:eU R.boxes X=J)(G:R.dV h=J)(D:x.bd R.ni R.nb (Y R.rs) (λi=>i==X)=J):(R.more X M h b x).bd=true:=by
 have N:=(lK F).2;have P:∀i,aM R.boxes i=J->aM (R.boxes.set X (U (M,h))) i=true:=λi V=>(nM N).2 (.inr V)
 simp only[S.dV,S.bd,aDc] at Q G;simp only[S.more,S.bd,aDc];obtain⟨C,B,A⟩:=eK (R.cq X M h) b x;rw[C,B,A,kJ];simp only[S.cq];refine⟨?_, ?_⟩;rw[uj];intro v L;cases b with
 |none=>exact SV.MJ P v (uj.1 Q.1 v L)
 |some b=>
  simp only[S.put,tY] at L;rcases aEc L with H|H;exact SV.MJ P v (uj.1 Q.1 v H);rw[H];exact SV.MJ (λi V=>by simp at V;subst V;exact(nM N).2 (.inl rfl)) x D
 rw[BK];intro i W O;by_cases V:i=X;subst V;rw[FO N] at O;cases O;exact SV.Do P h G.2;rw[xE V] at O;exact SV.Do P _ (BK.1 Q.2 i W O)
def Zn{m:S}(a:fk t.o.op=J)(ab:t.o.op.operands.toList.all vF=J)(h:gD cf t R N m):
  ∃X H w,m=R.more t.ix X H t.o.dst w/\eU R.boxes t.ix=J/\(∀ni nb nr,w.bd ni nb nr (λi=>i==t.ix)=J)/\
   ∀(W:S)(B:ac),(∀x∈t.o.op.operands.toList,W.ev cf.gl x=R.ev cf.gl x)->W.bd=J->eU W.boxes t.ix=J->W.dV H=J/\gD cf t W B (W.more t.ix X H t.o.dst w):=by
 unfold gD fc at h;split at h;exact h.elim;rename_i hk;have l:∀x∈t.o.op.operands.toList,vF x=true:=aDr.1 ab;have u:∀W:S,(∀x∈t.o.op.operands.toList,W.ev cf.gl x=R.ev cf.gl x)->¬(t.o.op.operands.toList.any λz=>(W.ev cf.gl z).dL)=true:=by
  intro W Q hh;obtain⟨z,k,af⟩:=aDL.1 hh;exact hk (aDL.2 ⟨z,k,by rw[<-Q z k];exact af⟩)
 split at h;rename_i X V;split at h;rename_i A G;split at h;rename_i P;simp only[aDc] at P;refine⟨X,dp A,.loc t.ix 0,h,qX P.2,λ_ _ _=>by simp[SV.ba],λW B Q L F=> ?_⟩;have M:W.dV (dp A)=true:=by simp only[S.dV,L,aE8];exact QX A
 refine⟨M, ?_⟩;unfold gD fc;rw[if_neg (u W Q)];have D:ot W.boxes t.ix X=true:=by simp[ot,F,Iz P.2]
 simp only[V,G,M,D,aEB,if_true];rfl;exact h.elim;exact h.elim;rename_i X z V;split at h;rename_i A G;split at h;rename_i P;simp only[aDc] at P;obtain⟨⟨⟨j,g⟩,v⟩,f⟩:=P;refine⟨X,(R.ev cf.gl z).cells,.loc t.ix 0,h,qX f,λ_ _ _=>by simp[SV.ba],λW B Q L F=> ?_⟩;have C:=Q z (by rw[V];simp[Op.operands]);have M:W.dV (R.ev cf.gl z).cells=true:=by
  simp only[S.dV,L,aE8];rw[<-C];exact Zl (zP L (l z (by rw[V];simp[Op.operands])))
 refine⟨M, ?_⟩;unfold gD fc;rw[if_neg (u W Q)];have D:ot W.boxes t.ix X=true:=by simp[ot,F,Iz f]
 simp only[V,G,C,j,M,v,D,aEB,if_true];rfl;exact h.elim;exact h.elim;rename_i X r parts V;split at h;rename_i e ae q G;split at h;rename_i te ag;split at h;rename_i H d;split at h;rename_i P;simp only[aDc] at P;obtain⟨⟨j,g⟩,v⟩:=P;refine⟨e,H,.gM t.ix 0 r r,h,qX v,λ_ _ _=>by simp[SV.ba],λW B Q L F=> ?_⟩;have C:(parts.toList.map λp=>(p.1,W.ev cf.gl p.2))=parts.toList.map λp=>(p.1,R.ev cf.gl p.2):=aDC λp n=>by rw[Q p.2 (by rw[V];simp[Op.operands];exact⟨p.1,by simpa using n⟩)]
 have M:W.dV H=true:=by
  simp only[S.dV,L,aE8];refine aiB (aiC (QX te) r) (λq c=> ?_) d;rw[<-C] at c;obtain⟨b,n,rfl⟩:=aDF.1 c;exact zP L (l b.2 (by rw[V];simp[Op.operands];exact⟨b.1,by simpa using n⟩))
 refine⟨M, ?_⟩;unfold gD fc;rw[if_neg (u W Q)];have D:ot W.boxes t.ix e=true:=by simp[ot,F,Iz v]
 simp only[V,G,ag,C,d,M,g,D,aEB,if_true];rfl;exact h.elim;exact h.elim;exact h.elim;exact h.elim
 all_goals(rename_i V;simp[fk,V] at a)<;>skip
def MK(h:fk r.op=J):dA cf R r=.op:=by
 unfold dA;cases X:r.op<;>rw[X] at h<;>simp[fk] at h<;>rfl
def IZ{X:Bool}(h:fk r.op=J)(W:X=J):dI cf r l X R=none:=by
 subst W;unfold dI;cases V:r.op<;>rw[V] at h<;>simp[fk] at h<;>first|rfl|simp
def xN(s:S)(n:Nat)(t:TypeId)(X:ai)(d:bT)(w:SV):(s.more n t X d w).ni=s.ni/\(s.more n t X d w).nb=s.nb/\(s.more n t X d w).rs=s.rs:=eK _ _ _
def I0{s:S}{n:Nat}{t:TypeId}{X:ai}{d:bT}{w:SV}{q:Nat}(h:d≠U q):(s.more n t X d w).tmps[q]?=s.tmps[q]?:=kH h
def BL(s:S)(n:Nat)(t:TypeId)(X:ai)(d:bT)(w:SV):(s.more n t X d w).boxes=s.boxes.set n (U (t,X)):=kJ _ _ _
def BM{s:S}{n:Nat}{t:TypeId}{X:ai}{d e:bT}{v w:SV}(h:∀x,d=U x->e≠U x):(s.put d v).more n t X e w=(s.more n t X e w).put d v:=by
 unfold S.more;have:(s.put d v).cq n t X=(s.cq n t X).put d v:=by cases d<;>rfl
 rw[this,Ze h]
def Zo{s:S}{n n':Nat}{t X:TypeId}{W V:ai}{d e:bT}{v w:SV}(h:∀x,d=U x->e≠U x)(R:n≠n'):(s.more n t W d v).more n' X V e w=(s.more n' X V e w).more n t W d v:=by
 show((s.cq n t W).put d v).more n' X V e w=_;rw[BM h];unfold S.more;have:((s.cq n t W).cq n' X V).put e w=((s.cq n' X V).put e w).cq n t W:=by
  have Q:(s.cq n t W).cq n' X V=(s.cq n' X V).cq n t W:=by simp only[S.cq];rw[List.set_comm _ _ R]
  rw[Q];cases e<;>rfl
 rw[this]
def aiE:∀{l:ai}{P O N:Nat}{V:Nat->Bool}{i:Nat},SV.db P O N V l=J->i∈SV.nC l->V i=true:=by
 have L:∀(n:Nat)(l:ai),SizeOf.sizeOf l<n->∀{P O N:Nat}{V:Nat->Bool}{i:Nat},SV.db P O N V l=J->i∈SV.nC l->V i=true:=by
  intro n;induction n with
  |zero=>intro l h;omega
  |succ n R=>
   intro l Q P O N V i W X;cases l with
   |nil=>simp[SV.nC] at X
   |cons x M=>
    simp only[SV.gz,aDc] at W;simp only[SV.nC,aDo] at X;simp only[List.cons.sizeOf_spec] at Q;rcases X with X|X;cases x with
    |loc j o=>simp[SV.Fl] at X;subst X;simpa only[SV.ba] using W.1
    |gM j a b c=>simp[SV.Fl] at X;subst X;simpa only[SV.ba] using W.1
    |agg m=>exact R m (by simp at Q;omega) (by simpa only[SV.ba] using W.1) X
    |bK m=>exact R m (by simp at Q;omega) (by simpa only[SV.ba] using W.1) X
    |fn f m=>exact R m (by simp at Q;omega) (by simpa only[SV.ba] using W.1) X
    |eP t y=>exact R [y] (by
     have H:0<SizeOf.sizeOf M:=by cases M<;>simp<;>omega
     simp at Q⊢;omega) (by simpa[SV.gz,SV.ba] using W.1) (by simpa[SV.nC,SV.Fl] using X)
    |mp j=>simp[SV.Fl] at X;subst X;simpa only[SV.ba] using W.1
    |eQ e G m=>exact R m (by simp at Q;omega) (by have:=W.1;simp only[SV.ba,aDc] at this;exact this.2) X
    |_=>simp[SV.Fl] at X
    exact R M (by omega) W.2 X
 intro l P O N V i;exact L _ l (aFb _)
def aiF{l:bA}{x:TypeId×ai}(h:X∉v)(R:eU l X=J):pP v 0 (l.set X (U x))=pP v 0 l:=by
 apply aDG;intro i;rw[QI,QI,aDM];by_cases W:i=X;subst W;have V:=(lK R).2;rw[aEq V,aDe V];simp[h];rw[aDP (λe=>W e.symm)]
def aiG(X:aR)(s:S)(n:Nat)(t:TypeId)(W:ai)(d:bT)(w:SV):((s.more n t W d w).bW X).1=(s.bW X).1/\((s.more n t W d w).bW X).2=(s.bW X).2.more n t W d w:=by
 induction X generalizing s with
 |nil=>exact⟨rfl,rfl⟩
 |cons k X V=>
  simp only[S.bW];have R:((s.more n t W d w).fresh k).1=(s.fresh k).1/\((s.more n t W d w).fresh k).2=(s.fresh k).2.more n t W d w:=by
   cases k<;>cases d<;>exact⟨rfl,rfl⟩
  rw[R.1,R.2];exact⟨by rw[(V _).1],(V _).2⟩
def QY(s:S)(X:ai)(W:aR)(n:Nat)(t:TypeId)(V:ai)(d:bT)(w:SV):(s.more n t V d w).cut X W=(s.cut X W).more n t V d w:=by cases d<;>rfl
def atf(h:(R.put b x).bd=J)(X:∀e,b=U e->vP R e):R.bd=true:=by
 cases b with
 |none=>exact h
 |some b=>
  simp only[S.bd,S.put,tY,aDc] at h⊢;exact⟨Zh h.1 (X b rfl),h.2⟩
def aiH{s:S}{n:Nat}{t:TypeId}{W:ai}{X:bT}{w:SV}{d:bT}{aV:BE}{e:TypeId}{k:RK}{x:LE}{V R:aj}{b:BI}(O:(s.more n t W X w).bd=J)(N:∀q,X=U q->d≠U q)
  (h:jl s d aV e k x V R=U b):jl (s.more n t W X w) d aV e k x V R=U {b with s:=b.s.more n t W X w}:=by
 unfold jl at h⊢;split at h;rename_i Q;cases h;simp only[aDc] at Q;obtain⟨⟨⟨B,M⟩,L⟩,H⟩:=Q;obtain⟨G,F,P⟩:=xN s n t W X w;rw[if_pos (by simp only[aDc];rw[G,F,P];exact⟨⟨⟨O,M⟩,L⟩,H⟩)];congr 2;rw[P,BM (λq D C=>N q C D)];cases X<;>rfl;cases h
def atg{s:S}{n:Nat}{t:TypeId}{X:ai}{W:bT}{w:SV}{V:Ty}{e:TypeId}{R:TI}{y:SV}{r:LE×BE×aj}(P:eU s.boxes n=J)(h:pQ V s e R y=U r):pQ V (s.more n t X W w) e R y=U r:=by
 have bI:(s.more n t X W w).rs=s.rs:=(xN _ _ _ _ _ _).2.2;unfold pQ at h⊢;split at h;simp only[BF bI];exact h;rename_i i N M L;rw[BL];split at h;rename_i Q;have O:i≠n:=λe=>by subst e;have:=(lK P).1;simp[aM,(xC Q).1] at this
 rw[Mg (xE O)];simp only[Q,Dn bI];exact h;cases h;cases h
def aiI{e:TypeId}{y:SV}:vD (R.more X M h b x) e l y=vD R e l y:=by
 have bI:(R.more X M h b x).rs=R.rs:=(xN _ _ _ _ _ _).2.2;have W:(R.more X M h b x).lk=R.lk:=QW _ _ _;unfold vD;simp only[bI,W]
def ath{o:Oper}{bC:Bool}{s:S}{n:Nat}{t:TypeId}{W:ai}{X:bT}{w:SV}{b:BI}(O:eU s.boxes n=J)(Q:(s.more n t W X w).bd=J)(P:∀q,X=U q->o.dst≠U q)
  (V:∀z∈o.op.operands.toList,(s.more n t W X w).ev cf.gl z=s.ev cf.gl z)(h:dI cf o bC J s=U b):dI cf o bC J (s.more n t W X w)=U {b with s:=b.s.more n t W X w}:=by
 have bI:(s.more n t W X w).rs=s.rs:=(xN _ _ _ _ _ _).2.2;have R:=IY h;unfold dI at h⊢;cases N:o.op<;>rw[N] at R h V<;>simp[sf] at R;rename_i l M L;simp only at h⊢;rw[V M (by simp[Op.operands]),V L (by simp[Op.operands])];split at h;rename_i e ae q H k G F D;split at h;rename_i C B;split at h;rename_i A;rw[Dn bI,if_pos A];exact aiH Q P h;cases h;cases h;cases h;rename_i c;cases bq:c.callee with
 |builtin y=>
  cases y<;>simp[bq] at R;simp only[bq] at h⊢;have x:c.args.toList.map ((s.more n t W X w).ev cf.gl)=c.args.toList.map (s.ev cf.gl):=aDC λz v=>V z (by simp[Op.operands,Call.operands];exact .inr (by simpa using v))
  rw[x];split at h;rename_i j i g f F D;split at h;rename_i e ae q d a q2 G ab;split at h;rename_i C B;split at h;cases h;rename_i u;rw[if_neg u,aiI];split at h;rename_i la n1 af lb H ag r m;rw[r,atg O m];exact aiH Q P h;cases h;cases h;cases h;cases h
 |_=>simp[bq] at R
mutual
def SV.du{Q P O N M L:Nat}{H G:Nat->Bool}(W:Q<=N)(V:P<=M)(R:O<=L)(h:∀i,H i=J->G i=J):∀(v:SV),v.bd Q P O H=J->v.bd N M L G=J
 |.int _ e,X=>by simp only[SV.ba] at X⊢;exact IE.du W V R e X
 |.bool e,X=>by simp only[SV.ba] at X⊢;exact BE.du W V R e X
 |.ref e,X=>by simp only[SV.ba] at X⊢;exact RE.du W V R e X
 |.loc i _,X=>by simp only[SV.ba] at X⊢;exact h i X
 |.gM i _ _ _,X=>by simp only[SV.ba] at X⊢;exact h i X
 |.el r _ i _,X=>by simp only[SV.ba,aDc] at X⊢;exact⟨RE.du W V R r X.1,IE.du W V R i X.2⟩
 |.agg l,X=>by simp only[SV.ba] at X⊢;exact SV.I1 W V R h l X
 |.bK l,X=>by simp only[SV.ba] at X⊢;exact SV.I1 W V R h l X
 |.fn _ l,X=>by simp only[SV.ba] at X⊢;exact SV.I1 W V R h l X
 |.eP _ x,X=>by simp only[SV.ba] at X⊢;exact SV.du W V R h x X
 |.yl _,_=>by simp only[SV.ba]
 |.any,_=>by simp only[SV.ba]
 |.mp i,X=>by simp only[SV.ba] at X⊢;exact h i X
 |.eQ e _ F,X=>by simp only[SV.ba,aDc] at X⊢;exact⟨IE.du W V R e X.1,SV.I1 W V R h F X.2⟩
def SV.I1{W V R Q P O:Nat}{N M:Nat->Bool}(L:W<=Q)(H:V<=P)(G:R<=O)(h:∀i,N i=J->M i=J):∀(l:ai),SV.db W V R N l=J->SV.db Q P O M l=J
 |[],_=>rfl
 |x::F,X=>by simp only[SV.gz,aDc] at X⊢;exact⟨SV.du L H G h x X.1,SV.I1 L H G h F X.2⟩
end
def ML{s':S}(W:R.bd=J)(Q:R.ni<=s'.ni)(P:R.nb<=s'.nb)(O:Y R.rs<=Y s'.rs)(M:s'.tmps=R.tmps)(L:s'.boxes=R.boxes)(H:x.bd s'.ni s'.nb (Y s'.rs) (aM s'.boxes)=J):(s'.put b x).bd=true:=by
 simp only[S.bd,aDc] at W⊢;obtain⟨G,F,D⟩:=eK s' b x;rw[G,F,D,kJ,L];rw[L] at H;refine⟨?_, ?_⟩;rw[uj];intro u V;cases b with
 |none=>
  simp only[S.put,M] at V;exact SV.du Q P O (λ_ h=>h) u (uj.1 W.1 u V)
 |some b=>
  simp only[S.put,tY,M] at V;rcases aEc V with N|N;exact SV.du Q P O (λ_ h=>h) u (uj.1 W.1 u N);rw[N];exact H
 rw[BK];exact λi X C=>SV.I1 Q P O (λ_ h=>h) _ (BK.1 W.2 i X C)
def Zp:∀(X:aR)(s:S),s.ni<=(s.bW X).2.ni/\s.nb<=(s.bW X).2.nb/\Y s.rs<=(s.bW X).2.rs.length
 |[],s=>⟨aDm _,aDm _,aDm _⟩
 |k::X,s=>by
  have:=Zp X (s.fresh k).2;simp only[S.bW];cases k<;>simp[S.fresh] at this⊢<;>omega
def aiJ{pr:Nat->Bool}:∀(X:aR)(s:S),SV.db (s.bW X).2.ni (s.bW X).2.nb (s.bW X).2.rs.length pr (s.bW X).1=J
 |[],s=>rfl
 |k::X,s=>by
  have W:=aiJ (pr:=pr) X (s.fresh k).2;have V:=Zp X (s.fresh k).2;simp only[S.bW,SV.gz,aDc];refine⟨?_,W⟩;cases k<;>simp only[S.fresh,SV.ba,IE.ba,BE.ba,RE.ba,decide_eq_true_eq]<;>simp[S.fresh] at V<;>omega
def aiK{N:Ty}{W V R:Nat}{Q:Nat->Bool}:∀{O:gT}{l r:ai},SV.db W V R Q l=J->zq N O l=U r->SV.db W V R Q r=J
 |[],l,r,_,h=>by simp[zq] at h;subst h;rfl
 |t::O,l,r,X,h=>by
  simp only[zq] at h;split at h;rename_i M F;split at h;rename_i D L;cases h;have H:SV.db W V R Q (l.drop (Y M.ae))=true:=by rw[uj] at X⊢;exact λv P=>X v (aEj P)
  simp only[SV.gz,aDc];refine⟨?_,aiK H L⟩;split;simp only[SV.ba];rw[uj] at X⊢;exact λv P=>X v (aEo P)
  rw[aDf];cases G:l[0]? with
  |none=>simp[SV.ba]
  |some v=>exact uh X G
  cases h;cases h
def ati{X W V:Nat}{R:Nat->Bool}{l:ai}(h:SV.db X W V R l=J):(one l).bd X W V R=true:=by
 unfold one;split;simp only[SV.gz,aFg] at h;exact h;simp only[SV.ba];exact h
def atj{s:S}(V:s.bd=J){W:ai}{X:aR}{R:gT}{r:ai}{d:bT}(h:zq cf.ty R ((s.cut W X).bW X).1=U r):((((s.cut W X).bW X).2).put d (one r)).bd=true:=by
 obtain⟨Q,P,L,H⟩:=vO X (s.cut W X);obtain⟨O,N,M⟩:=Zp X (s.cut W X);refine ML V O N ?_ P Q (ati (aiK (aiJ X _) h));have:=(Dk W X s.rs).len;simp only[S.cut] at M⊢;omega
def MM{b:BI}(h:dI cf r l J R=U b):R.bd=J/\b.s.bd=J/\b.s.boxes=R.boxes:=by
 have P:∀{aV:BE}{e:TypeId}{k:RK}{x:LE}{W V:aj},jl R r.dst aV e k x W V=U b->R.bd=J/\b.s.bd=J/\b.s.boxes=R.boxes:=by
  intro aV e k x W V h;obtain⟨O,-,rfl⟩:=xG h;refine⟨O, ?_,kJ _ _ _⟩;exact ML (s':={R with rs:=jz V 0 (gV W 0 R.rs)++[k]}) O (aDm _) (aDm _) (by simp[zI,zH]) rfl rfl (by simp[SV.ba,RE.ba,zI,zH])
 have X:=IY h;unfold dI at h;cases N:r.op<;>rw[N] at X h<;>simp[sf] at X;simp only at h;split at h;split at h;split at h;exact P h;cases h;cases h;cases h;rename_i c;cases Q:c.callee with
 |builtin M=>
  cases M<;>simp[Q] at X;simp only[Q] at h;split at h;split at h;split at h;split at h;cases h;split at h;exact P h;cases h;cases h;cases h;cases h
 |_=>simp[Q] at X
def Zq{Q:S}(V:fk t.o.op=J)(X:gD cf t R N Q):R.bd=true:=by
 unfold gD fc at X;split at X;exact X.elim
 ·cases P:t.o.op<;>rw[P] at V X<;>simp[fk] at V<;>simp only at X
  all_goals
   (repeat' split at X)
   all_goals first
    |exact X.elim
    |(rename_i W;simp only[aDc,S.dV] at W;first|exact W.1.1|exact W.1.1.2.1|exact W.1.1.1)
def atk{X:TI}(W:t.o.op=.alloc M)(V:cf.ty M=U X)(Q:oU M=E)(P:R.bd=J)(L:eU R.boxes t.ix=J):gD cf t R N (R.more t.ix M (dp X) t.o.dst (.loc t.ix 0)):=by
 have H:R.dV (dp X)=true:=by simp only[S.dV,P,aE8];exact QX X
 unfold gD fc;rw[if_neg (by rw[W];simp[Op.operands])];have G:ot R.boxes t.ix M=true:=by simp[ot,L,Q]
 simp only[W,V,H,G,aEB,if_true];rfl
def atl{X:S}{W:TI}(V:t.o.op=.alloc M)(Q:cf.ty M=U W)(h:gD cf t R N X):X=R.more t.ix M (dp W) t.o.dst (.loc t.ix 0):=by
 unfold gD fc at h;rw[if_neg (by rw[V];simp[Op.operands])] at h;simp only[V,Q] at h;split at h;exact h;exact h.elim
structure atm(B:cS)(x y:OM):Prop where
 xy:∀q,x.o.dst=U q->y.o.dst≠U q
 yx:∀q,y.o.dst=U q->x.o.dst≠U q
 ry:∀q,x.o.dst=U q->q∉iY B y.o
 rx:∀q,y.o.dst=U q->q∉iY B x.o
def aiL{y:OM}(h:PV B t y=J):atm B t y:=by
 unfold PV at h;simp only[aDc] at h;obtain⟨W,V⟩:=h;have R:∀q,t.o.dst=U q->y.o.dst≠U q:=λq X=>by rw[X] at W;simp at W;exact W.2
 exact⟨R,λq X Q=>R q Q X,λq X=>by rw[X] at W;simp at W;exact W.1,λq X=>by rw[X] at V;simpa using V⟩
def Zr{X:S}(W:∀t∈iY B r,R.tmps[t]?=X.tmps[t]?):∀z∈r.op.operands.toList,R.ev cf.gl z=X.ev cf.gl z:=by
 intro z V;cases z with
 |tmp t=>
  have:t∈iY B r:=by unfold iY;exact aDX _ (aEw.2 ⟨.tmp t,V,rfl⟩)
  simp only[S.ev,vx,aDf,W t this]
 |_=>rfl
def aiM{W:S}(V:∀X∈iY B t.o,R.tmps[X]?=W.tmps[X]?)(Q:R.ni=W.ni)(P:R.nb=W.nb)(M:R.rs=W.rs):fK B t R N=fK B t W N:=by
 unfold fK;cases L:t.o.guard with
 |none=>rfl
 |some q=>
  obtain⟨j,G⟩:=q;simp only;cases H:(B[j]?).bind (·.dst) with
  |none=>rfl
  |some d=>
   simp only;rw[V d (by unfold iY;rw[L];exact aEH _ (by simp[H])),Q,P,M]
def aiN{s:S}{o:Oper}{g:FuncId}{X:ai}(h:dA cf s o=.call (.fn g) X)(W:s.bd=J)(Q:o.op.operands.toList.all vF=J):SV.db s.ni s.nb (Y s.rs) (aM s.boxes) X=true:=by
 have V:∀x∈o.op.operands.toList,vF x=true:=aDr.1 Q;unfold dA at h;split at h;split at h<;>cases h;rename_i c R;split at h;rename_i f P;split at h;rename_i L H O;split at h;cases h;cases h;rw[Zk];refine⟨?_, ?_⟩;rw[uj];intro v N;obtain⟨z,M,rfl⟩:=aDF.1 N;exact zP W (V z (by rw[R];simp[Op.operands,Call.operands];exact .inr (by simpa using M)));have:=zP (cf:=cf) W (V f (by rw[R];simp[Op.operands,Call.operands,P]));rw[O] at this;simpa only[SV.ba] using this;split at h<;>cases h;cases h;cases h;split at h;split at h<;>cases h;cases h;cases h;cases h
def atn{s:S}{O:ac}{g:FuncId}{X:ai}{K G:ac->SV->S->Prop}{n:Nat}{t:TypeId}{P:ai}{d:bT}{w:SV}(M:eU s.boxes n=J)(F:SV.db s.ni s.nb (Y s.rs) (aM s.boxes) X=J)(A:(s.more n t P d w).bd=J)
  (h:IT p cf s O g X K)(z:∀D (N:gT)(Q:aR)(r:ai),zq cf.ty N ((s.cut X Q).bW Q).1=U r->K D (one r) ((s.cut X Q).bW Q).2->G D (one r) (((s.cut X Q).bW Q).2.more n t P d w)):IT p cf (s.more n t P d w) O g X G:=by
 obtain⟨N,Q,r,y,x,C,B,v⟩:=h;obtain⟨q,o,L⟩:=xN s n t P d w;obtain⟨m,l⟩:=aiG Q (s.cut X Q) n t P d w;have k:n∉SV.nC X:=λj=>by have:=aiE F j;rw[(lK M).1] at this;cases this
 have f:pP (SV.nC X) 0 (s.more n t P d w).boxes=pP (SV.nC X) 0 s.boxes:=by rw[BL];exact aiF k M
 simp only[aDc,S.dV] at B;refine⟨N,Q,r,y,x,by rw[QY,m];exact C, ?_,λV W R=> ?_⟩;simp only[aDc,S.dV];refine⟨⟨A, ?_⟩,B.2⟩;rw[q,o,L,BL];exact SV.Do (λi c=>(nM (lK M).2).2 (.inr c)) X F;rw[f,L] at R;refine(v V W R).mono ?_;intro e W' H;cases e with
 |returned u=>
  obtain⟨b,a,q2,q3,q4,q5⟩:=H;refine⟨b,a,q2,q3,by rw[L];exact q4, ?_⟩;rw[QY,l];exact z _ N Q r C q5
 |panicked ch=>exact H
 |outgrown=>exact H
def ato{s:S}{O:ac}{g:FuncId}{Q:ai}{K H:ac->SV->S->Prop}{n:Nat}{t:TypeId}{P:ai}{d:bT}{w:SV}(G:eU s.boxes n=J)(F:SV.db s.ni s.nb (Y s.rs) (aM s.boxes) Q=J)(y:s.bd=J)
  (h:IT p cf (s.more n t P d w) O g Q K)(x:∀D (N:gT)(X:aR)(r:ai),zq cf.ty N ((s.cut Q X).bW X).1=U r->K D (one r) (((s.cut Q X).bW X).2.more n t P d w)->H D (one r) ((s.cut Q X).bW X).2):IT p cf s O g Q H:=by
 obtain⟨N,X,r,v,q,M,C,o⟩:=h;obtain⟨p1,p2,B⟩:=xN s n t P d w;obtain⟨m,l⟩:=aiG X (s.cut Q X) n t P d w;have k:n∉SV.nC Q:=λj=>by have:=aiE F j;rw[(lK G).1] at this;cases this
 have i:pP (SV.nC Q) 0 (s.more n t P d w).boxes=pP (SV.nC Q) 0 s.boxes:=by rw[BL];exact aiF k G
 simp only[aDc,S.dV] at C;rw[QY,m] at M;refine⟨N,X,r,v,q,M, ?_,λV W R=> ?_⟩;simp only[aDc,S.dV];exact⟨⟨y,F⟩,C.2⟩;refine(o V W (by rw[i,B];exact R)).mono ?_;intro e W' L;cases e with
 |returned u=>
  obtain⟨f,c,b,a,A,z⟩:=L;rw[B] at A;rw[QY,l] at z;exact⟨f,c,b,a,A,x _ N X r M z⟩
 |panicked ch=>exact L
 |outgrown=>exact L
def atp(ap:Dl B A){y:OM}{l:ce}(bs:t.so=E)(a3:H5 B t y=J)(bt:∀d,t.o.dst=U d->vP R d)(H:eU R.boxes y.ix=J)(hz:∀X,y.o.op=.alloc X->FC cf X=J)
  (h:dC p cf B A C F G (t::y::l) N R):dC p cf B A C F G (y::t::l) N R:=by
 unfold H5 at a3;simp only[aDc] at a3;obtain⟨⟨⟨⟨⟨⟨⟨⟨a4,a9⟩,hy⟩,a5⟩,k⟩,bx⟩,bf⟩,b0⟩,bg⟩:=a3;have a5:y.o.guard=none:=by simpa using a5
 have D:=aiL b0;obtain⟨X,j⟩:∃X,y.o.op=.alloc X:=by cases j:y.o.op<;>rw[j] at hy<;>simp[FB] at hy;exact⟨_,rfl⟩
 have a0:=hz X j;simp only[FC,aDc,aDv] at a0;obtain⟨a0,b1⟩:=a0;obtain⟨Q,ht⟩:=aDw.1 a0;have i:fk y.o.op=true:=by rw[j];rfl
 have bk:∀(s':S)(w:ac),fK B y s' w=U true:=λs' w=>by simp[fK,a5]
 have a:∀{w:ac}{ab:S},dC p cf B A C F G (y::l) w ab->ab.bd=J/\dC p cf B A C F G l w (ab.more y.ix X (dp Q) y.o.dst (.loc y.ix 0)):=by
  intro w ab hr;simp only[dC,bk,MK i,IZ i a9,q7] at hr;rcases hr with⟨M,_⟩|⟨_,s3,W,L⟩;cases M;have:=atl j ht W;subst this;exact⟨Zq i W,L⟩
 have done:R.bd=J->dC p cf B A C F G (t::l) N (R.more y.ix X (dp Q) y.o.dst (.loc y.ix 0))->dC p cf B A C F G (y::t::l) N R:=by
  intro V W;rw[dC];refine .inr ⟨bk R N, ?_⟩;rw[MK i];simp only[IZ i a9,q7];exact⟨_,atk j ht b1 V H,W⟩
 have a1:R.bd=J->(R.more y.ix X (dp Q) y.o.dst (.loc y.ix 0)).bd=true:=λV=>aiD V H (by simp only[S.dV,V,aE8];exact QX Q) (by simp[SV.ba])
 obtain⟨p1,p2,p3⟩:=xN R y.ix X (dp Q) y.o.dst (.loc y.ix 0);have af:fK B t (R.more y.ix X (dp Q) y.o.dst (.loc y.ix 0)) N=fK B t R N:=aiM (λq hq=>I0 (λe=>D.rx q e hq)) p1 p2 p3;have ag:∀z∈t.o.op.operands.toList,(R.more y.ix X (dp Q) y.o.dst (.loc y.ix 0)).ev cf.gl z=R.ev cf.gl z:=Zr (λq hq=>I0 (λe=>D.rx q e hq));rw[dC] at h;rcases h with⟨M,W⟩|⟨M,W⟩
 ·obtain⟨g1,g2⟩:=a W;refine done (atf g1 bt) ?_;rw[dC];refine .inl ⟨by rw[af];exact M, ?_⟩;rw[<-BM D.xy];exact g2
 ·cases P:dA cf R t.o with
  |call g0 a6=>
   rw[P] at W;rcases g0 with g|n
   rotate_left
   have L:=W.1;rw[bs] at L;cases L;have u:oB _ _ _:=W;clear W;cases al:A g a6 R with
   |some ve=>
    obtain⟨pv,ex⟩:=ve;rw[al] at u;obtain⟨V,u⟩:=u;have hR:=ap.Zb _ _ _ _ al;have a7:H4 t.o.op=true:=by simpa[hR,Zc P] using bg
    have a8:=ais a7 P;subst a8;refine done V ?_;rw[dC];refine .inr ⟨by rw[af];exact M, ?_⟩;rw[F0 ag,P];show oB _ _ _;rw[show A g [] (R.more y.ix X (dp Q) y.o.dst (.loc y.ix 0))=U (pv,ex) from(ap.z _ _ _ _ _ _ _ H).trans al];refine⟨a1 V, ?_⟩;have b2:=(lK H).2;have b3:(R.more y.ix X (dp Q) y.o.dst (.loc y.ix 0)).plus ex=(R.plus ex).more y.ix X (dp Q) y.o.dst (.loc y.ix 0):=by
     have:(R.cq y.ix X (dp Q)).plus ex=(R.plus ex).cq y.ix X (dp Q):=by
      simp only[S.cq,S.plus,List.set_append_left _ _ b2]
     unfold S.more;rw[<-this];cases y.o.dst<;>rfl
    rw[b3,<-BM D.xy];exact(a u).2
   |none=>
   rw[al] at u;simp only[oB] at u;have W:=u;have V:R.bd=true:=by obtain⟨ts,ks,r,c1,c2,c3,c4,c5⟩:=W;simp only[aDc,S.dV] at c4;exact c4.1.1
   refine done V ?_;rw[dC];refine .inr ⟨by rw[af];exact M, ?_⟩;rw[F0 ag,P];show oB _ _ _;have b4:A g a6 (R.more y.ix X (dp Q) y.o.dst (.loc y.ix 0))=none:=by
    cases hh:A g a6 (R.more y.ix X (dp Q) y.o.dst (.loc y.ix 0)) with
    |none=>rfl
    |some r=>
     exfalso;have hR:=ap.Zb _ _ _ _ hh;have a7:H4 t.o.op=true:=by simpa[hR,Zc P] using bg
     have a8:=ais a7 P;subst a8;have:=(ap.z g R y.ix X (dp Q) y.o.dst (.loc y.ix 0) H).symm.trans hh;rw[al] at this;cases this
   rw[b4];simp only[oB];refine atn H (aiN P V bf) (a1 V) W (λw ts ks r _ hr=> ?_);rw[<-BM D.xy];exact(a hr).2
  |bj v=>
   exfalso;have hp:=Zg P;cases a2:t.o.op<;>rw[a2] at k hp<;>simp[H3,fk,sf,xx] at hp k;rename_i c;cases bq:c.callee<;>simp[bq] at hp k;rename_i bb;cases bb<;>simp at hp k
  |no=>rw[P] at W;exact W.elim
  |op=>
   rw[P] at W;simp only at W;cases V:dI cf t.o t.bC t.dr R with
   |some b=>
    rw[V] at W;obtain⟨hn,W⟩:=W;rw[a4] at V;obtain⟨q1,q2,q3⟩:=MM V;refine done q1 ?_;rw[dC];refine .inr ⟨by rw[af];exact M, ?_⟩;rw[F0 ag,P];simp only;rw[a4,ath H (a1 q1) D.yx ag V];refine⟨hn,λrv bl=> ?_⟩;rw[p3] at bl;exact(a (W rv bl)).2
   |none=>
    rw[V] at W;obtain⟨ab,L,h4⟩:=W;have an:fk t.o.op=true:=by
     simp only[aDE] at k;rcases k with(m|m)|m;exact m;exact(Zi m L).elim
     ·exfalso;cases a2:t.o.op<;>rw[a2] at m<;>simp[xx] at m;rename_i c;cases bq:c.callee<;>simp[bq] at m;rename_i f;simp only[dA,a2,bq] at P
      (repeat' split at P)<;>cases P
    have bo:t.ix≠y.ix:=by simpa[an] using bx
    have br:=Zq an L;obtain⟨tx,cx,wx,rfl,g2,g3,g4⟩:=Zn an bf L;refine done br ?_;rw[dC];refine .inr ⟨by rw[af];exact M, ?_⟩;rw[MK an];simp only[IZ an a4,q7];refine⟨_,(g4 _ N ag (a1 br) ?_).2, ?_⟩;unfold eU at g2⊢;rw[BL,aDP (λe=>bo e.symm)];exact g2;rw[Zo D.yx (λe=>bo e.symm)];exact(a h4).2
def aiO{s:S}{n:Nat}{t:TypeId}{W:ai}{X:bT}{w:SV}{d:bT}{aV:BE}{e:TypeId}{k:RK}{x:LE}{R Q:aj}{P:BI}(N:s.bd=J)(M:∀q,X=U q->d≠U q)
  (h:jl (s.more n t W X w) d aV e k x R Q=U P):∃b,jl s d aV e k x R Q=U b/\P={b with s:=b.s.more n t W X w}:=by
 obtain⟨L,H,O⟩:=xN s n t W X w;unfold jl at h⊢;split at h;rename_i V;cases h;simp only[aDc] at V;rw[L,H,O] at V;obtain⟨⟨⟨A,G⟩,F⟩,D⟩:=V;rw[if_pos (by simp only[aDc];exact⟨⟨⟨N,G⟩,F⟩,D⟩)];refine⟨_,rfl, ?_⟩;congr 1;rw[O,BM (λq C B=>M q B C)];cases X<;>rfl;cases h
def atq{s:S}{n:Nat}{t:TypeId}{W:ai}{V:bT}{w:SV}{R:Ty}{e:TypeId}{Q:TI}{y:SV}{r:LE×BE×aj}(P:eU s.boxes n=J)(X:y.bd s.ni s.nb (Y s.rs) (aM s.boxes)=J)(h:pQ R (s.more n t W V w) e Q y=U r):pQ R s e Q y=U r:=by
 have bI:(s.more n t W V w).rs=s.rs:=(xN _ _ _ _ _ _).2.2;unfold pQ at h⊢;split at h;simp only[BF bI] at h;exact h;rename_i i M L H;rw[BL] at h;have O:i≠n:=λe=>by subst e;simp only[SV.ba] at X;rw[(lK P).1] at X;cases X
 rw[Mg (xE O)] at h;split at h;rename_i N;simp only[Dn bI] at h
 first|exact h|(rw[N];exact h)
 cases h;cases h
def atr{o:Oper}{bC:Bool}{s:S}{n:Nat}{t:TypeId}{W:ai}{X:bT}{w:SV}{O:BI}(F:eU s.boxes n=J)(Q:s.bd=J)(N:∀q,X=U q->o.dst≠U q)(D:o.op.operands.toList.all vF=J)
  (V:∀z∈o.op.operands.toList,(s.more n t W X w).ev cf.gl z=s.ev cf.gl z)(h:dI cf o bC J (s.more n t W X w)=U O):∃b,dI cf o bC J s=U b/\O={b with s:=b.s.more n t W X w}:=by
 have bI:(s.more n t W X w).rs=s.rs:=(xN _ _ _ _ _ _).2.2;have M:∀x∈o.op.operands.toList,vF x=true:=aDr.1 D;have R:=IY h;unfold dI at h⊢;cases C:o.op<;>rw[C] at R h V M<;>simp[sf] at R;rename_i d B A;simp only at h⊢;rw[V B (by simp[Op.operands]),V A (by simp[Op.operands])] at h;split at h;rename_i e ae q y a v u L;split at h;rename_i r m;split at h;rename_i H;rw[Dn bI] at H;rw[if_pos H];exact aiO Q N h;cases h;cases h;cases h;rename_i c;cases bq:c.callee with
 |builtin l=>
  cases l<;>simp[bq] at R;simp only[bq] at h⊢;have k:c.args.toList.map ((s.more n t W X w).ev cf.gl)=c.args.toList.map (s.ev cf.gl):=aDC λz P=>V z (by simp[Op.operands,Call.operands];exact .inr (by simpa using P))
  rw[k] at h;split at h;rename_i t1 t2 x0 G u L;have j:G.bd s.ni s.nb (Y s.rs) (aM s.boxes)=true:=by
   have:G∈c.args.toList.map (s.ev cf.gl):=by rw[L];simp
   obtain⟨z,P,rfl⟩:=aDF.1 this;exact zP Q (M z (by simp[Op.operands,Call.operands];exact .inr (by simpa using P)))
  split at h;rename_i e ae q e2 ab q2 v af;split at h;rename_i r m;split at h;cases h;rename_i i;rw[if_neg i];rw[aiI] at h;split at h;rename_i la n1 ag lb y al g f;rw[g,atq F j f];exact aiO Q N h;cases h;cases h;cases h;cases h
 |_=>simp[bq] at R
def ats(ct:Dl B A){y:OM}{a5:ce}(cv:y.so=E)(bf:LX B t y=J)
  (h:dC p cf B A C F G (t::y::a5) N R):dC p cf B A C F G (y::t::a5) N R:=by
 unfold LX at bf;simp only[aDc] at bf;obtain⟨⟨⟨⟨⟨⟨⟨⟨⟨⟨b6,a6⟩,ap⟩,dd⟩,bg⟩,cx⟩,a4⟩,a0⟩,cA⟩,cB⟩,cC⟩:=bf;have bg:t.o.guard=none:=by simpa using bg
 have D:=aiL cB;have b7:∀(H:S)(O':ac),fK B t H O'=U true:=λH O'=>by simp[fK,bg]
 rw[dC] at h;rcases h with⟨h1,_⟩|⟨_,h2⟩;rw[b7] at h1;cases h1;rw[MK ap] at h2;simp only[IZ ap b6,q7] at h2;obtain⟨s1,h3,h4⟩:=h2;have M:=Zq ap h3;obtain⟨X,a,w,rfl,k,hw,tr⟩:=Zn ap cx h3;have df:R.dV a=true:=(tr R N (λ_ _=>rfl) M k).1;obtain⟨p1,p2,p3⟩:=xN R t.ix X a t.o.dst w;have bk:fK B y (R.more t.ix X a t.o.dst w) N=fK B y R N:=aiM (λq W=>I0 (λe=>D.ry q e W)) p1 p2 p3;have a1:∀z∈y.o.op.operands.toList,(R.more t.ix X a t.o.dst w).ev cf.gl z=R.ev cf.gl z:=Zr (λq W=>I0 (λe=>D.ry q e W));have a2:∀{O':ac}{H:S},(∀q,y.o.dst≠U q->H.tmps[q]?=R.tmps[q]?)->H.bd=J->eU H.boxes t.ix=J->dC p cf B A C F G a5 O' (H.more t.ix X a t.o.dst w)->dC p cf B A C F G (t::a5) O' H:=by
  intro O' H ht a3 cD hr;rw[dC];refine .inr ⟨b7 _ _, ?_⟩;rw[MK ap];simp only[IZ ap b6,q7];exact⟨_,(tr H O' (Zr (λq W=>ht q (λe=>D.rx q e W))) a3 cD).2,hr⟩
 rw[dC] at h4;rcases h4 with⟨h5,V⟩|⟨h5,V⟩;rw[dC];refine .inl ⟨by rw[<-bk];exact h5, ?_⟩;refine a2 (λq W=>kH W) (ML (s':=R) M (aDm _) (aDm _) (aDm _) rfl rfl (by simp[SV.ba,SV.gz])) (by rw[kJ];exact k) ?_;rw[BM D.yx];exact V
 ·rw[dC];refine .inr ⟨by rw[<-bk];exact h5, ?_⟩;rw[F0 a1] at V;cases hc:dA cf R y.o with
  |call g0 bl=>
   rw[hc] at V;rcases g0 with g|n
   rotate_left
   have h3:=V.1;rw[cv] at h3;cases h3;have b8:∀H,A g bl H=none:=λH=>by
    cases hh:A g bl H with
    |none=>rfl
    |some r=>
     exfalso;have hR:=ct.Zb _ _ _ _ hh;simp[hR,Zc hc] at cC
   have hP:oB _ _ _:=V;clear V;rw[b8] at hP;simp only[oB] at hP;have V:=hP;show oB _ _ _;rw[b8];simp only[oB];refine ato k (aiN hc M a4) M V (λO' ts ks r hm hr=> ?_);obtain⟨b1,b2,b3,b4⟩:=vO ks (R.cut bl ks);refine a2 (λq W=>by rw[kH W,b2];rfl) (atj M hm) (by rw[kJ,b1];exact k) ?_;rw[BM D.yx];exact hr
  |bj v=>
   exfalso;have hp:=Zg hc;cases a7:y.o.op<;>rw[a7] at a0 hp<;>simp[H3,fk,sf,xx,C1,xw] at hp a0;rename_i c;cases bq:c.callee<;>simp[bq] at hp a0;rename_i bb;cases bb<;>simp at hp a0
  |no=>rw[hc] at V;exact V.elim
  |op=>
   rw[hc] at V;show q7 _ _ _;have V:q7 _ _ _:=V;cases a8:dI cf y.o y.bC y.dr (R.more t.ix X a t.o.dst w) with
   |some b1=>
    rw[a8] at V;obtain⟨hn,V⟩:=V;rw[a6] at a8⊢;obtain⟨b,g1,rfl⟩:=atr k M D.xy a4 a1 a8;rw[g1];obtain⟨q1,q2,q3⟩:=MM g1;refine⟨hn,λrv cI=> ?_⟩;refine a2 (Zj g1) q2 (by rw[q3];exact k) (V rv (by rw[p3];exact cI))
   |none=>
    rw[a8] at V;obtain⟨cO,L,h8⟩:=V;by_cases ab:C1 y.o.op=J
    
    have W:lY y.o.op=true:=by cases Q:y.o.op<;>rw[Q] at ab<;>simp[C1] at ab<;>rfl
    have dk:zy y.o.op=false:=by cases Q:y.o.op<;>rw[Q] at ab<;>simp[C1] at ab<;>rfl
    rw[a6,aiu W];simp only[q7];obtain⟨v,l,hv,rfl⟩:=(IU (ops:=B) W h5).1 L;have cW:jV cf B y.o (R.more t.ix X a t.o.dst w) N R N:=jV.xL (λq W=>(I0 (λe=>D.ry q e W)).symm) p3.symm p1.symm p2.symm;have P:=Zd cW (λi hi=>by
     unfold zm at hi;cases Q:y.o.op<;>rw[Q] at ab hi<;>simp[C1] at ab<;>cases hi) hv
    have ca:fK B y R N=U true:=by rw[<-bk];exact h5
    refine⟨_,(IU (ops:=B) W ca).2 ⟨v,l,P,rfl⟩, ?_⟩;have c0:v.bd R.ni R.nb (Y R.rs) (aM R.boxes)=true:=by
     have an:∀z∈y.o.op.operands.toList,vF z=true:=aDr.1 a4;rcases P with P|⟨-,-,P⟩;rw[ca] at P;cases P.1;cases Q:y.o.op<;>rw[Q] at ab P an<;>simp[C1] at ab;rename_i z;have:=P.1;simp only[bO,PR.xM] at this;rw[this];exact zP M (an z (by simp[Op.operands]));rename_i z;have:=P.1;simp only[bO,PR.xM] at this;rw[this];exact zP M (an z (by simp[Op.operands]));rename_i st z f;have af:=zP (cf:=cf) M (an z (by simp[Op.operands]));have:=P.1;simp only[bO] at this;split at this;rename_i hz;rw[hz] at af;split at this;split at this;split at this;exact this.elim;rw[this];exact af;exact this.elim;exact this.elim;rename_i hz;rw[hz] at af;split at this;split at this;split at this;exact this.elim;rw[this];exact af;exact this.elim;exact this.elim;exact this.elim
    have c1:l=0:=by
     rcases P with P|⟨-,-,P⟩;exact P.2.2;cases Q:y.o.op<;>rw[Q] at ab P<;>simp[C1] at ab<;>exact P.2
    subst c1;rw[FZ] at h8⊢;refine a2 (λq W=>kH W) (ML (s':=R) M (aDm _) (aDm _) (aDm _) rfl rfl c0) (by rw[kJ];exact k) ?_;rw[BM D.yx];exact h8;by_cases bo:xw y.o.op=J;obtain⟨t',z,u,Q⟩:∃X z u,y.o.op=.store X z u:=by cases Q:y.o.op<;>rw[Q] at bo<;>simp[xw] at bo;exact⟨_,_,_,rfl⟩
    have an:∀z∈y.o.op.operands.toList,vF z=true:=aDr.1 a4;have br:dI cf y.o y.bC y.dr R=none:=by rw[a6];simp[dI,Q]
    rw[br];simp only[q7];have hz:=a1 z (by rw[Q];simp[Op.operands]);have hu:=a1 u (by rw[Q];simp[Op.operands]);have af:=zP (cf:=cf) M (an z (by rw[Q];simp[Op.operands]));have c2:=zP (cf:=cf) M (an u (by rw[Q];simp[Op.operands]));unfold gD fc at L;split at L;exact L.elim;rename_i m;have c3:¬(y.o.op.operands.toList.any λz=>(R.ev cf.gl z).dL)=true:=by
     intro hh;obtain⟨zz,cc,c4⟩:=aDL.1 hh;exact m (aDL.2 ⟨zz,cc,by rw[a1 zz cc];exact c4⟩)
    simp only[Q,hz,hu] at L;split at L;rename_i ti i ag c5 hi;have bs:i≠t.ix:=λe=>by subst e;rw[hi] at af;simp only[SV.ba] at af;rw[(lK k).1] at af;cases af
    rw[BL,Mg (xE bs)] at L;split at L;rename_i bt al ch;obtain⟨bx,-⟩:=xC ch;split at L;rename_i a9;have c6:(R.more t.ix X a t.o.dst w).lk=R.lk:=QW _ _ _;rw[c6] at a9;have dn:((R.ev cf.gl u).cells.length==Y ti.ae)=true:=by simp only[aDc] at a9;exact a9.1.1.1.1
    refine⟨(R.cq i bt (j8 al ag (R.ev cf.gl u).cells)).put y.o.dst (.bK []), ?_, ?_⟩;unfold gD fc;rw[if_neg c3];simp only[Q,c5,hi,ch];rw[if_pos a9];rfl;have c7:((R.cq i bt (j8 al ag (R.ev cf.gl u).cells)).put y.o.dst (.bK [])).bd=true:=by
     have cl:i<Y R.boxes:=(aDd.1 (i5.1 bx)).1;have c8:∀j,aM (R.boxes.set i (U (bt,j8 al ag (R.ev cf.gl u).cells))) j=aM R.boxes j:=λj=>by
      by_cases hj:j=i;subst hj;simp[aM,FO cl,bx];simp[aM,xE hj]
     have c9:aM (R.boxes.set i (U (bt,j8 al ag (R.ev cf.gl u).cells)))=aM R.boxes:=funext c8;have a3:=M;simp only[S.bd,aDc] at a3;have br:(R.cq i bt (j8 al ag (R.ev cf.gl u).cells)).bd=true:=by
      simp only[S.bd,S.cq,c9,aDc];refine⟨a3.1, ?_⟩;rw[BK];intro j b hj;by_cases cm:j=i;subst cm;rw[FO cl] at hj;cases hj;exact Zm (BK.1 a3.2 j _ bx) (Zl c2);rw[xE cm] at hj;exact BK.1 a3.2 j b hj
     exact ML (s':=R.cq i bt (j8 al ag (R.ev cf.gl u).cells)) br (aDm _) (aDm _) (aDm _) rfl rfl (by simp[SV.ba,SV.gz])
    refine a2 (λq W=>by rw[kH W];rfl) c7 ?_ ?_;rw[kJ];unfold eU at k⊢;simp only[S.cq];rw[aDP bs];exact k;have dc:cO=((R.more t.ix X a t.o.dst w).cq i bt (j8 al ag (R.ev cf.gl u).cells)).put y.o.dst (.bK []):=L;subst dc;have:((R.cq i bt (j8 al ag (R.ev cf.gl u).cells)).put y.o.dst (.bK [])).more t.ix X a t.o.dst w=((R.more t.ix X a t.o.dst w).cq i bt (j8 al ag (R.ev cf.gl u).cells)).put y.o.dst (.bK []):=
     Zo (s:=R) (n:=i) (n':=t.ix) (d:=y.o.dst) (e:=t.o.dst) D.yx bs
    rw[this];exact h8;exact L.elim;exact L.elim;exact L.elim;have b0:fk y.o.op=true:=by
     simp only[aDE] at a0;rcases a0 with(((m|m)|m)|m)|m;exact m;exact(Zi m L).elim
     ·exfalso;cases a7:y.o.op<;>rw[a7] at m<;>simp[xx] at m;rename_i c;cases bq:c.callee<;>simp[bq] at m;rename_i f;simp only[dA,a7,bq] at hc
      (repeat' split at hc)<;>cases hc
     exact absurd m ab;exact absurd m bo
    have b5:t.ix≠y.ix:=by simpa[b0] using cA
    rw[IZ b0 a6];simp only[q7];obtain⟨ds,cy,wy,rfl,k2,k3,k4⟩:=Zn b0 a4 L;have cp:eU R.boxes y.ix=true:=by
     unfold eU at k2⊢;rw[BL,aDP b5] at k2;exact k2
    obtain⟨m1,m2⟩:=k4 R N (λz hz=>(a1 z hz).symm) M cp;refine⟨_,m2,a2 (λq W=>I0 W) (aiD M cp m1 (k3 _ _ _)) ?_ ?_⟩;unfold eU at k⊢;rw[BL,aDP (λe=>b5 e.symm)];exact k;rw[Zo D.yx (λe=>b5 e.symm)];exact h8
def att(Q:Dl B A){y:OM}{P:ce}(V:si B t y=J)(M:∀d,t.o.dst=U d->vP R d)(H:fk y.o.op=J->eU R.boxes y.ix=J)(D:∀X,y.o.op=.alloc X->FC cf X=J)
  (z:Y N.i=R.ni)(w:Y N.b=R.nb)(v:Y N.r=Y R.rs)
  (h:dC p cf B A C F G (t::y::P) N R):dC p cf B A C F G (y::t::P) N R:=by
 unfold si at V;simp only[aDc,aDv,aDE] at V;obtain⟨⟨u,L⟩,V⟩:=V;rcases V with(W|W)|W;exact atd Q L W M z w v h;have q:fk y.o.op=true:=by
  unfold H5 at W;simp only[aDc] at W;have:=W.1.1.1.1.1.1.2;cases n:y.o.op<;>rw[n] at this<;>simp[FB] at this;rfl
 exact atp Q u W M (H q) D h;exact ats Q L W h
def aiP{L:S}(h:(fc cf t R).gives N L):∀n,eU R.boxes n=J->(fk t.o.op=J->n≠t.ix)->eU L.boxes n=true:=by
 intro q W P;have Q:∀{X:TypeId}{M:ai}{d:bT}{w:SV}{i:Nat},q≠i->eU ((R.cq i X M).put d w).boxes q=true:=by
  intro X M d w i H;rw[kJ];unfold eU at W⊢;simp only[S.cq];rw[aDP (λe=>H e.symm)];exact W
 unfold fc at h;split at h;exact h.elim;split at h;rename_i X V;split at h;split at h;cases h;exact Q (P (by rw[V];rfl));exact h.elim;exact h.elim;rename_i X x V;split at h;split at h;cases h;exact Q (P (by rw[V];rfl));exact h.elim;exact h.elim;rename_i X l F V;split at h;split at h;split at h;split at h;cases h;exact Q (P (by rw[V];rfl));exact h.elim;exact h.elim;exact h.elim;exact h.elim;split at h;split at h;rename_i D M G;split at h;cases h;refine Q (λe=> ?_);subst e;have:=(lK W).1;simp[aM,(xC G).1] at this;exact h.elim;exact h.elim;exact h.elim;split at h;simp only[OR.gives] at h;split at h<;>(subst h;rw[kJ];exact W);exact h.elim;obtain⟨v,-,rfl⟩:=zK h;rw[BJ];exact W;obtain⟨v,-,rfl⟩:=zK h;rw[BJ];exact W
def atu{P:S}(h:(fc cf t R).gives N P):∀i,aM R.boxes i=J->aM P.boxes i=true:=by
 intro q W;have V:∀{X:TypeId}{Q:ai}{d:bT}{w:SV}{i:Nat},aM ((R.cq i X Q).put d w).boxes q=true:=by
  intro X Q d w i;rw[kJ];unfold aM at W⊢;simp only[cK] at W⊢;simp only[S.cq];by_cases M:i=q;subst M;have G:i<Y R.boxes:=by
   cases L:R.boxes[i]? with
   |none=>rw[L] at W;cases W
   |some b=>exact(aDd.1 L).1
  rw[aEq G];rfl;rw[aDP M];exact W
 unfold fc at h;split at h;exact h.elim;split at h;rename_i X H;split at h;split at h;cases h;exact V;exact h.elim;exact h.elim;rename_i X x H;split at h;split at h;cases h;exact V;exact h.elim;exact h.elim;rename_i X l F H;split at h;split at h;split at h;split at h;cases h;exact V;exact h.elim;exact h.elim;exact h.elim;exact h.elim;split at h;split at h;rename_i D Q C;split at h;cases h;exact V;exact h.elim;exact h.elim;exact h.elim;split at h;simp only[OR.gives] at h;split at h<;>(subst h;rw[kJ];exact W);exact h.elim;obtain⟨v,-,rfl⟩:=zK h;rw[BJ];exact W;obtain⟨v,-,rfl⟩:=zK h;rw[BJ];exact W
structure sw(s s':S):Prop where
 i:s.ni<=s'.ni
 b:s.nb<=s'.nb
 r:Y s.rs<=Y s'.rs
 bx:∀i,aM s.boxes i=J->aM s'.boxes i=J
def sw.put(s:S)(d:bT)(v:SV):sw s (s.put d v):=
 ⟨aEV (eK _ _ _).1.symm,aEV (eK _ _ _).2.1.symm,aEV (congrArg Y (eK s d v).2.2).symm,λi h=>by rw[kJ];exact h⟩
def sw.trans{b c:S}(h:sw R b)(k:sw b c):sw R c:=⟨aDY h.i k.i,aDY h.b k.b,aDY h.r k.r,λi X=>k.bx i (h.bx i X)⟩
def atv{l1 f:ce}(af:t.dr=J)(al:t.so=E)(m:Y N.i=R.ni)(l:Y N.b=R.nb)(k:Y N.r=Y R.rs)(h:dC p cf B A C F G (t::l1) N R)
  (d:∀c M,Y c.i=M.ni->Y c.b=M.nb->Y c.r=Y M.rs->(∀X,t.o.dst≠U X->M.tmps[X]?=R.tmps[X]?)->(∀n,eU R.boxes n=J->(fk t.o.op=J->n≠t.ix)->eU M.boxes n=J)->sw R M->dC p cf B A C F G l1 c M->dC p cf B A C F G f c M):dC p cf B A C F G (t::f) N R:=by
 simp only[dC] at h⊢;rcases h with⟨h1,P⟩|⟨h1,P⟩;exact .inl ⟨h1,d _ _ (by rw[(eK _ _ _).1];exact m) (by rw[(eK _ _ _).2.1];exact l) (by rw[(eK _ _ _).2.2];exact k) (λX a=>kH a) (λn y _=>by rw[kJ];exact y) (sw.put _ _ _) P⟩
 ·refine .inr ⟨h1, ?_⟩;cases hc:dA cf R t.o with
  |call g0 ab=>
   rw[hc] at P;rcases g0 with g|n
   rotate_left
   have H:=P.1;rw[al] at H;cases H;have P:oB _ _ _:=P;show oB _ _ _;cases ag:A g ab R with
   |some ve=>
    obtain⟨pv,ex⟩:=ve;rw[ag] at P;exact⟨P.1,d _ _ (by rw[(eK _ _ _).1];exact m) (by rw[(eK _ _ _).2.1];exact l) (by rw[(eK _ _ _).2.2];exact k) (λX a=>kH a) (λn y _=>by rw[kJ];exact air y) (sw.trans (b:=R.plus ex) ⟨aDm _,aDm _,aDm _,λi j=>by unfold aM;rw[aiq j];exact j⟩ (sw.put _ _ _)) P.2⟩
   |none=>
   rw[ag] at P;obtain⟨ts,D,r,c1,c2,c3,c4,c5⟩:=P;refine⟨ts,D,r,c1,c2,c3,c4,λV W Q=>(c5 V W Q).mono ?_⟩;intro e W' he;cases e with
   |returned u=>
    obtain⟨xs,z,w,q,q4,q5⟩:=he;obtain⟨b1,b2,b3,b4⟩:=vO D (R.cut ab D);obtain⟨l1,f,l3⟩:=xK D xs (R.cut ab D) N z m l (k.trans (Dk ab D R.rs).len.symm);refine⟨xs,z,w,q,q4,d _ _ (by rw[(eK _ _ _).1];exact l1) (by rw[(eK _ _ _).2.1];exact f) (by rw[(eK _ _ _).2.2];exact l3) (λX a=>by rw[kH a,b2];rfl) (λn y _=>by rw[kJ,b1];exact y) (sw.trans (b:=((R.cut ab D).bW D).2) ⟨by rw[<-m,<-l1];exact(Bu [] _ _ []).li,by rw[<-l,<-f];exact(Bu [] _ _ []).lb,by rw[<-k,<-l3];exact(Bu [] _ _ []).lr,λi j=>by rw[b1];exact j⟩ (sw.put _ _ _)) q5⟩
   |panicked ch=>exact he
   |outgrown=>exact he
  |bj v=>rw[hc] at P;exact P
  |no=>rw[hc] at P;exact P
  |op=>
   rw[hc] at P;simp only at P⊢;cases L:dI cf t.o t.bC t.dr R with
   |some b=>
    rw[L] at P;obtain⟨z,w,q⟩:=aio L;exact⟨P.1,λrv an=>d _ _ (by rw[z];exact m) (by rw[w];exact l) (by simp[ac.add,q,k]) (Zj (by rw[af] at L;exact L)) (λn y _=>by rw[(MM (by rw[af] at L;exact L)).2.2];exact y) ⟨by rw[z];exact aDm _,by rw[w];exact aDm _,by rw[q];omega,λi j=>by rw[(MM (by rw[af] at L;exact L)).2.2];exact j⟩ (P.2 rv an)⟩
   |none=>
    rw[L] at P;obtain⟨M,H,h4⟩:=P;obtain⟨z,w,q⟩:=ain (IS H);exact⟨M,H,d _ _ (by rw[z];exact m) (by rw[w];exact l) (by rw[q];exact k) (aiA (IS H)) (aiP (IS H)) ⟨by rw[z];exact aDm _,by rw[w];exact aDm _,by rw[q];exact aDm _,atu (IS H)⟩ h4⟩
def aiQ{y:OM}(h:si B t y=J):t.so=E/\y.so=false:=by
 unfold si at h;simp only[aDc,aDv] at h;exact h.1
def atw{y:OM}(h:si B t y=J):t.dr=true:=by
 unfold si at h;simp only[aDc,aDE] at h;replace h:=h.2;rcases h with(h|h)|h;exact(aiw h).elim λ_ c=>c.xd
 unfold H5 at h;simp only[aDc] at h;exact h.1.1.1.1.1.1.1.1;unfold LX at h;simp only[aDc] at h;exact h.1.1.1.1.1.1.1.1.1.1
end
section
variable{p:Sp}{k:bB}{B:cS}{A:vG}{Kn:ac->S->Prop}{Kp:ac->SV->S->Prop}{Yp:OM->ce->ac->S->Nat->ai->Prop}
def I2(s:S)(m:OM):Prop:=∀d,m.o.dst=U d->vP s d
def Zs{V:S}(W:sw R V)(Q:V.tmps[X]?=R.tmps[X]?)(h:vP R X):vP V X:=by
 rcases h with h|⟨w,h,P⟩;exact .inl (Q.trans h);exact .inr ⟨w,Q.trans h,SV.du W.i W.b W.r W.bx _ P⟩
def I2.other(h:I2 R t)(W:∀e,b=U e->t.o.dst≠U e):I2 (R.put b x) t:=by
 intro e X;have:=(sw.put R b x);exact Zs this (kH (λV=>W e V X)) (h e X)
def Zt(s:S)(m:OM):Prop:=fk m.o.op=J->eU s.boxes m.ix=J
def aiR(Q:Dl B A){m:OM}{V:ce}:∀(X:ce)(s:S)(O:ac),(∀x∈X,si B x m=J)->(∀x∈X,I2 s x)->Zt s m->(X.Pairwise λa b=>∀d,a.o.dst=U d->b.o.dst≠U d)->(∀x∈X,fk x.o.op=J->fk m.o.op=J->m.ix≠x.ix)->(∀t,m.o.op=.alloc t->FC k t=J)->
  Y O.i=s.ni->Y O.b=s.nb->Y O.r=Y s.rs->dC p k B A Kn Kp Yp (X++m::V) O s->dC p k B A Kn Kp Yp (m::(X++V)) O s
 |[],s,O,_,_,_,_,_,_,_,_,_,h=>h
 |x::X,s,O,P,N,M,v,L,H,G,F,D,h=>by
  have R:=P x (by simp);have u:x.dr=true:=atw R;have q:=(aiQ R).1;have C:=aDz.1 v;have:dC p k B A Kn Kp Yp (x::m::(X++V)) O s:=atv (l1:=X++m::V) u q G F D h (λn l j g f c ab af hr=>
   aiR Q X l n (λy W=>P y (by simp[W])) (λy W e z=>Zs af (c e (λhx=>C.1 y W e hx z)) (N y (by simp[W]) e z))
    (λw=>ab m.ix (M w) (λag=>L x (by simp) ag w)) C.2 (λy W=>L y (by simp[W])) H j g f hr)
  exact att Q R (N x (by simp)) M H G F D this
def Zu{D:bR}{a:Act}(X:az p.S0 p.w0 D k.ty v N R a e)(h:fK B t R N=U l):Region.wanted t.o (yielded B a.tmps)=l:=by
 unfold fK at h;cases P:t.o.guard with
 |none=>rw[P] at h;cases h;simp[Region.wanted,P]
 |some q=>
  obtain⟨j,H⟩:=q;rw[P] at h;simp only at h;split at h;rename_i d G;have L:=ahV X G;split at h;rename_i Q M;split at h;cases h;have:=L.1 Q M;simp only[Region.wanted,P,this];cases Q.den N<;>cases H<;>rfl;cases h;rename_i M;cases h;simp[Region.wanted,P,L.2 M];cases h;cases h
def QZ(p:Sp)(k:bB)(A:vG):Prop:=∀(g:FuncId)(X:ai)(s:S)(v:SV)(R:bA),A g X s=U (v,R)->
 ∀(D:bR)(O:ac)(V:aj)(a:Act)(W:World),s.bd=J->az p.S0 p.w0 D k.ty V O s a W->et k.gl O->(∀X W,(callFunc g X).run p.P W=.ok (.enter g X) W)/\
  Calls p.P g (SV.aD O V X).toArray W λe N=>∃Q,e=.returned (v.den O Q)/\az p.S0 p.w0 D k.ty Q O (s.plus R) a N/\bG s O V (s.plus R) O Q
structure MN(B:cS)(bs:aj)(listed:Array Bool)(rem:ce):Prop where
 mem:∀m∈rem,B[m.j]?=U m.o
 un:∀i,i<B.size->(listed.getD i J=E<->∃m∈rem,m.j=i)
 sz:listed.size=B.size
 dn:∀(j:Nat)(o:Oper),B[j]?=U o->listed.getD j E=J->∀e∈kb o,listed.getD e E=J
 pr:rem.Pairwise λx y=>(bs.getD y.j 0).testBit x.j=J\/si B x y=J
 tp:∀xs m ys,rem=xs++m::ys->∀e∈kb m.o,listed.getD e E=J\/∃x∈xs,x.j=e
 nd:rem.Pairwise λx y=>x.j≠y.j
 ds:rem.Pairwise λa b=>∀d,a.o.dst=U d->b.o.dst≠U d
 so:∀xs m ys,rem=xs++m::ys->m.so=J->ys.Pairwise λx y=>(bs.getD y.j 0).testBit x.j=J
def aiS{e:Edge}(h:e∈r.after)(X:Region.binds .any e=J):e.on∈kb r:=aDF.2 ⟨e,aD1.2 ⟨by simpa using h,X⟩,rfl⟩
def aiT(h:X∈kb r):∃e∈r.after,Region.binds .any e=J/\e.on=X:=by
 obtain⟨e,W,rfl⟩:=aDF.1 h;obtain⟨V,R⟩:=aD1.1 W;exact⟨e,by simpa using V,R,rfl⟩
structure I3(B:cS)(bs:aj):Prop where
 lt:∀(j:Nat)(o:Oper),B[j]?=U o->∀e∈kb o,e<j
 cl:∀(j:Nat)(o:Oper),B[j]?=U o->∀i,i<B.size->(bs.getD j 0).testBit i=J->i∈kb o\/∃e∈kb o,(bs.getD e 0).testBit i=J
def atx{listed:Array Bool}{O:ce}(W:I3 B v)(N:MN B v listed O):∀(j:Nat)(o:Oper),B[j]?=U o->(∀e∈kb o,listed.getD e E=J)->∀i,i<B.size->(v.getD j 0).testBit i=J->listed.getD i E=true:=by
 intro j;induction j using aE4 with
 |_ j M=>
  intro o X V i R L;rcases W.cl j o X i R L with h|⟨e,Q,h⟩;exact V i h;have H:=W.lt j o X e Q;have G:j<B.size:=(aDD.1 X).1;have P:B[e]?=U B[e]:=aFz (by omega);exact M e H B[e] P (N.dn e _ P (V e Q)) i R h
def F1(a:Array Bool)(i j:Nat)(b:Bool)(X:i<a.size):(a.setIfInBounds i J).getD j b=if j=i then J else a.getD j b:=by
 by_cases h:j=i;subst h;simp[X];simp[aEU (Ne.symm h),h]
def aty{listed:Array Bool}{P O:ce}(X:MN B v listed (P++t::O))(l:∀e∈kb t.o,listed.getD e E=J):MN B v (listed.setIfInBounds t.j J) (P++O):=by
 have q:=X.mem t (by simp);have k:t.j<B.size:=(aDD.1 q).1;have D:t.j<listed.size:=by rw[X.sz];exact k
 have L:aGP (P++O) (P++t::O):=aFw (aFI _) (aFn _ _);have g:∀x∈P++O,x.j≠t.j:=by
  intro x W;have A:=X.nd;rw[aDH] at A;rcases aDo.1 W with h|h;exact A.2.2 x h t (by simp);exact Ne.symm ((aDz.1 A.2.1).1 x h)
 refine⟨λx W=>X.mem x (L.subset W),λi f=> ?_,by simp[X.sz],λj o y H e M=> ?_,X.pr.sublist L, ?_,X.nd.sublist L,X.ds.sublist L, ?_⟩;rw[F1 _ _ _ _ D];by_cases w:i=t.j;subst w;simp only[if_true,aGQ,false_iff];rintro⟨x,W,H⟩;exact g x W H;rw[if_neg w,X.un i f];constructor;rintro⟨x,W,rfl⟩;refine⟨x, ?_,rfl⟩;simp only[aDo,aDp] at W⊢;rcases W with h|h|h;exact .inl h;subst h;exact absurd rfl w;exact .inr h;rintro⟨x,W,rfl⟩;exact⟨x,L.subset W,rfl⟩;rw[F1 _ _ _ _ D];rw[F1 _ _ _ _ D] at H;split;rfl;by_cases n:j=t.j;subst n;rw[q] at y;cases y;exact l e M;rw[if_neg n] at H;exact X.dn j o y H e M;intro u N G s e M;rw[F1 _ _ _ _ D];by_cases C:e=t.j;left;rw[if_pos C];rw[if_neg C];rcases aGe.1 s with⟨R,Q,V⟩|⟨R,Q,V⟩
 
 have:=X.tp (P++t::R) N G (by rw[V];simp) e M;rcases this with h|⟨x,W,F⟩;exact .inl h;right;refine⟨x, ?_,F⟩;rw[Q];simp only[aDo,aDp] at W⊢;rcases W with h|h|h;exact .inl h;subst h;exact absurd F.symm C;exact .inr h
 
 cases R with
 |nil=>
  simp at Q V;subst Q;have:=X.tp (P++[t]) N G (by rw[<-V];simp) e M;rcases this with h|⟨x,W,F⟩;exact .inl h;right;refine⟨x, ?_,F⟩;simp only[aDo,aE0] at W;rcases W with h|h;exact h;subst h;exact absurd F.symm C
 |cons z R=>
  simp only[aDi,aEg] at V;obtain⟨rfl,V⟩:=V;have:=X.tp u N (R++t::O) (by rw[Q];simp) e M;exact this
 intro u N G s r;rcases aGe.1 s with⟨R,Q,V⟩|⟨R,Q,V⟩;exact X.so (P++t::R) N G (by rw[V];simp) r;cases R with
 |nil=>
  simp at Q V;subst Q;exact X.so (P++[t]) N G (by rw[<-V];simp) r
 |cons z R=>
  simp only[aDi,aEg] at V;obtain⟨rfl,V⟩:=V;have:=X.so u N (R++t::O) (by rw[Q];simp) r;rw[V];exact this.sublist (aFw (aFI _) (aFn _ _))
def atz{F:Fence}(w:ph F)(ok:kG p k)(a3:QZ p k A){D:bR}{Q:Exit->Act->World->Prop}(HP:∀ch a' z pd y,dE p.w0 D pd y a'.defers z->p.R (.panicked ch) z->Q (.panic ch) a' z)
   {al:ce}{a:Act}(h:dC p k B A Kn Kp Yp (t::al) N R)(M:az p.S0 p.w0 D k.ty v N R a e)(hg:et k.gl N)(hm:B[t.j]?=U t.o)(a2:t.dr=J)
  {K:Act->World->Prop}(hK:∀i O' V' a' z,bG R N v i O' V'->(∀L,t.o.dst≠U L->i.tmps[L]?=R.tmps[L]?)->(∀X,eU R.boxes X=J->(fk t.o.op=J->X≠t.ix)->eU i.boxes X=J)->az p.S0 p.w0 D k.ty V' O' i a' z->dC p k B A Kn Kp Yp al O' i->K a' z)
  (a4:∀H,Kp N H R->Q (.panic [{v:=H.den N v,recovered:=E}]) a e)
  (hY:∀yn u,dA k R t.o=.call (.yl yn) u->t.so=J->Yp t al N R yn u->t.o.wpIn F X p.P a e K Q):wpOpIn F X p.P B Q t.j K a e:=by
 unfold wpOpIn;rw[hm];simp only;simp only[dC] at h;rcases h with⟨h1,C⟩|⟨h1,C⟩;rw[Zu M h1];exact⟨λf _=>w.fn f,hK _ N v _ e ((bG.refl _ _ _).put _ _) (λL ht=>kH ht) (λX r _=>by rw[kJ];exact r) (M.put t.o.dst (.bK [])) C⟩
 ·rw[Zu M h1];simp only[if_true];cases x:dA k R t.o with
  |call g0 u=>
   rw[x] at C;rcases g0 with g|yn
   rotate_left
   exact hY yn u x C.1 C.2;have C:oB _ _ _:=C;cases an:A g u R with
   |some ve=>
    obtain⟨pv,ex⟩:=ve;rw[an] at C;obtain⟨ap,a0⟩:=a3 g u R pv ex an D N v a e C.1 M hg;refine⟨λf _=>w.fn f, ?_⟩;have ab:∀c,t.o.op≠ .defer c:=λc af=>by simp[dA,af] at x
    rw[Oper.semAt_eq _ _ _ ab,QH M hg x ap,Oper.uponIn_enter];refine⟨λhd=>by rw[w.xJ] at hd;simp at hd,CallsIn.mono (w.calls a0) (λG z he=> ?_)⟩;obtain⟨V',rfl,d,hl⟩:=he;exact hK _ N V' _ z (hl.put _ _) (λL ht=>kH ht) (λX r _=>by rw[kJ];exact air r) (d.put t.o.dst pv) C.2
   |none=>
   rw[an] at C;obtain⟨ts,ks,l,c1,c2,c3,c4,c5⟩:=C;simp only[S.dV,aDc] at c4;obtain⟨⟨hb,-⟩,a5⟩:=c4;have ap:=ok.BD g (.inl (by rw[c1];rfl));have a0:=c5 v e (by rw[ok.pt];exact(M.mem.X8 _).mc (ag8 _ _));refine⟨λf _=>w.fn f, ?_⟩;have ab:∀c,t.o.op≠ .defer c:=λc af=>by simp[dA,af] at x
   rw[Oper.semAt_eq _ _ _ ab,QH M hg x ap,Oper.uponIn_enter];refine⟨λhd=>by rw[w.xJ] at hd;simp at hd,CallsIn.mono (w.calls a0) (λG z he=> ?_)⟩;cases G with
   |returned H=>
    obtain⟨xs,q1,q2,q3,q4,q5⟩:=he;rw[ok.pt] at q4;obtain⟨e1,e2,e3,e4⟩:=vO ks (R.cut u ks);subst q2;have R1:az p.S0 p.w0 D k.ty v N (R.cut u ks) a e:=M.mc (Dk u ks R.rs);have d:=(R1.called (Mt hb (Dk u ks R.rs).len) a5 q1 q3 (λb hb=>ah2 M hb) q4).put t.o.dst (one l);refine hK _ (N.ext xs) v _ z (bG.put (s:=R) ⟨Bu _ _ _ _,by rw[e1];exact λ_ h=>h,by rw[e1];exact aDm _,by rw[e3];exact aDm _⟩ _ _) (λL ht=>by rw[kH ht,e2];rfl) (λX r _=>by rw[kJ,e1];exact r) d q5
   |panicked ch=>exact HP ch a z _ _ (M.cP.below he.1) he.2
   |outgrown=>exact he.elim
  |bj H=>
   rw[x] at C;refine⟨λf _=>w.fn f, ?_⟩;have ab:∀c,t.o.op≠ .defer c:=λc af=>by simp[dA,af] at x
   rw[Oper.semAt_eq _ _ _ ab,ahX M hg x];exact a4 H C
  |no=>rw[x] at C;exact C.elim
  |op=>
   rw[x] at C;simp only at C;cases q:dI k t.o t.bC t.dr R with
   |some b=>
    rw[q] at C;obtain⟨r,C⟩:=C;obtain⟨H,z,rv,a1,a6,d,hl⟩:=YJ M ok.ln hg q r;exact BA w a1 (Y1 q) (hK b.s _ v _ z hl (Zj (by rw[a2] at q;exact q)) (λX r _=>by rw[(MM (by rw[a2] at q;exact q)).2.2];exact r) d (C rv (by rw[ok.pt];exact a6)))
   |none=>
   rw[q] at C;obtain⟨i,h3,h4⟩:=C;have ag:=IS h3;obtain⟨H,z,V',a1,d,hl⟩:=Mu M ok.ln hg t ag;exact BA w a1 (MD ag) (hK i N V' _ z hl (aiA ag) (aiP ag) d h4)
def atA{W:Type}{V X:List W}{m x:W}(h:x∈(V++X).dropLast):x∈(V++m::X).dropLast:=by
 rw[aFl (by simp)];cases X with
 |nil=>
  rw[aEO] at h;exact aDX _ ((aGC _).subset h)
 |cons y X=>
  rw[aFl (by simp)] at h;rcases aDo.1 h with h|h;exact aDX _ h;rw[List.dropLast_cons_cons];exact aEH _ (aEn _ h)
def atB(br:Dl B A)(bt:QZ p k A){Kn:cZ->ac->S->Prop}{Kp:cZ->ac->SV->S->Prop}{Yp:cZ->OM->ce->ac->S->Nat->ai->Prop}{F:Fence}(hF:ph F)(ok:kG p k){D:bR}{Q:Exit->Act->World->Prop}(HP:∀ch l M pd y,dE p.w0 D pd y l.defers M->p.R (.panicked ch) M->Q (.panic ch) l M)(hC:I3 B v)
  {s0:S}{O0:ac}{V0:aj}{L0:cZ}
  (hk:∀G H C l M z,bG s0 O0 V0 G H C->cM s0.au L0 z->az p.S0 p.w0 D k.ty C H G l M->Kn z H G->Q .normal l M)
  (bb:∀N G H C l M z,bG s0 O0 V0 G H C->cM s0.au L0 z->az p.S0 p.w0 D k.ty C H G l M->Kp z H N G->Q (.panic [{v:=N.den H C,recovered:=E}]) l M)
  (hy:∀(L:cZ)(m:OM)(bd:ce)(s:S)(O:ac)(V:aj)(a:Act)(W:World)(yn:Nat)(a2:ai)(g:Ending->World->Prop),bG s0 O0 V0 s O V->cM s0.au L0 L->az p.S0 p.w0 D k.ty V O s a W->et k.gl O->Yp L m bd O s yn a2->
   (∀N G H C M z,bG s O V G H C->cM s.au L z->az p.S0 p.w0 D k.ty C H G a M->dC p k B A (Kn z) (Kp z) (Yp z) bd H (G.put m.o.dst N)->g (.returned (N.den H C)) M)->
   (∀N G H C M z,bG s O V G H C->cM s.au L z->az p.S0 p.w0 D k.ty C H G a M->Kp z H N G->g (.panicked [{v:=N.den H C,recovered:=E}]) M)->
   (∀ch M pd y,dE p.w0 D pd y a.defers M->p.R (.panicked ch) M->g (.panicked ch) M)->
   ∀(m:Nat),YieldAt F m p.P (O.y.getD yn 0) (SV.aD O V a2).toArray W g):
  ∀(ag:Nat)(listed:Array Bool)(ab:ce)(s:S)(O:ac)(V:aj)(a:Act)(W:World)(L:cZ),Y ab=ag->MN B v listed ab->(∀m∈ab,m.dr=J)->(∀m∈ab,∀t,m.o.op=.alloc t->FC k t=J)->(ab.Pairwise λa b=>fk a.o.op=J->fk b.o.op=J->a.ix≠b.ix)->(((∀m∈ab,Zt s m)/\(∀m∈ab.dropLast,I2 s m))\/(ab.Pairwise λx y=>(v.getD y.j 0).testBit x.j=J))->bG s0 O0 V0 s O V->cM s0.au L0 L->az p.S0 p.w0 D k.ty V O s a W->et k.gl O->dC p k B A (Kn L) (Kp L) (Yp L) ab O s->
   wpAnyIn F X p.P .any B Q ag listed a W:=by
 intro ag;induction ag with
 |zero=>
  intro listed ab s O V a W L a3 hW a5 hZ bf hA hl hL R hg h;have bx:ab=[]:=aDT.1 a3;subst bx;refine⟨?_,hk s O V a W L hl hL R h⟩;cases hr:Region.ready .any B listed with
  |nil=>rfl
  |cons i r=>
   obtain⟨h1,o,ho,-⟩:=mem_ready.1 (show i∈Region.ready .any B listed by rw[hr];simp);have:=(hW.un i (aDD.1 ho).1).1 h1;obtain⟨m,hm,-⟩:=this;cases hm
 |succ ag ih=>
  intro listed ab s O V a W L a3 hW a5 hZ bf hA hl hL R hg h;refine⟨λhr=> ?_,λi hi=> ?_⟩
  
  exfalso;cases ab with
  |nil=>simp at a3
  |cons m ys=>
   have al:=hW.mem m (by simp);have:m.j∈Region.ready .any B listed:=by
    refine mem_ready.2 ⟨(hW.un m.j (aDD.1 al).1).2 ⟨m,by simp,rfl⟩,m.o,al,λe he hb=> ?_⟩;rcases hW.tp [] m ys rfl e.on (aiS he hb) with h1|⟨x,w,-⟩;exact h1;cases w
   rw[hr] at this;cases this
  obtain⟨h1,o,ho,b0⟩:=mem_ready.1 hi;obtain⟨m,hm,rfl⟩:=(hW.un i (aDD.1 ho).1).1 h1;obtain⟨u,ys,rfl⟩:=aGR hm;have al:=hW.mem m hm;rw[al] at ho;cases ho;have hd:∀e∈kb m.o,listed.getD e E=true:=λe he=>by
   obtain⟨ed,h2,h3,rfl⟩:=aiT he;exact b0 ed h2 h3
  have bg:∀x∈u,¬(v.getD m.j 0).testBit x.j=true:=by
   intro x w h2;have b1:=hW.mem x (by simp[w]);have a6:x.j<B.size:=(aDD.1 b1).1;have h3:=atx hC hW m.j m.o al hd x.j a6 h2;have h4:=(hW.un x.j a6).2 ⟨x,by simp[w],rfl⟩;have b2:x.j<listed.size:=by rw[hW.sz];exact a6
   simp[b2] at h3 h4;rw[h3] at h4;cases h4
  have bk:∀x∈u,si B x m=true:=by
   intro x w;have b3:=(aDH.1 hW.pr).2.2 x w m (by simp);rcases b3 with h2|h2;exact absurd h2 (bg x w);exact h2
  have a7:=aDH.1 hW.ds;have an:=aDH.1 bf;have hb:dC p k B A (Kn L) (Kp L) (Yp L) (m::(u++ys)) O s:=by
   rcases hA with⟨a8,hA⟩|hA;exact aiR br u s O bk (λx w=>hA x (by rw[aFl (by simp)];exact aDX _ w)) (a8 m hm) a7.1 (λx w ap a4 e=>an.2.2 x w m (by simp) ap a4 e.symm) (hZ m hm) R.ei R.eb R.er h;cases u with
   |nil=>exact h
   |cons x u=>exact absurd ((aDH.1 hA).2.2 x (by simp) m (by simp)) (bg x (by simp))
  have bl:∀(G:S)(H:ac)(C:aj)(l:Act)(M:World)(z:cZ),(((∀m∈u++ys,Zt G m)/\(∀m∈(u++ys).dropLast,I2 G m))\/((u++ys).Pairwise λx y=>(v.getD y.j 0).testBit x.j=J))->bG s0 O0 V0 G H C->cM s0.au L0 z->az p.S0 p.w0 D k.ty C H G l M->et k.gl H->dC p k B A (Kn z) (Kp z) (Yp z) (u++ys) H G->wpAnyIn F X p.P .any B Q ag (listed.setIfInBounds m.j J) l M:=
   λG H C l M z b4 af a0 g b5 a1=>ih _ (u++ys) G H C l M z (by simp at a3⊢;omega) (aty hW hd) (λx w=>a5 x (by rcases aDo.1 w with q|q<;>simp[q])) (λx w=>hZ x (by rcases aDo.1 w with q|q<;>simp[q]))
    (aDH.2 ⟨an.1,(aDz.1 an.2.1).2,λa ha b hb=>an.2.2 a ha b (by simp[hb])⟩) b4 af a0 g b5 a1
  have b6:aGP (u++ys) (u++m::ys):=aFw (aFI _) (aFn _ _);refine atz hF ok bt HP hb R hg al (a5 m hm) (λG H C l M af b7 b8 g a1=> ?_) (λN hv=>bb N s O V a W L hl hL R hv) (λyn a2 hc bo ca=> ?_);refine bl G H C l M L ?_ (hl.trans af) hL g (hg.ext af.ext) a1;rcases hA with⟨a8,hA⟩|hA;left;refine⟨λx w ap=>b8 x.ix (a8 x (by rcases aDo.1 w with q|q<;>simp[q]) ap) (λa4=>by
   rcases aDo.1 w with q|q;exact an.2.2 x q m (by simp) ap a4;exact λe=>(aDz.1 an.2.1).1 x q a4 ap e.symm),λx w=> ?_⟩
  intro d a9;have cc:m.o.dst≠U d:=by
   rcases aDo.1 ((aGC _).subset w) with q|q;exact a7.2.2 x q m (by simp) d a9;intro he;exact(aDz.1 a7.2.1).1 x q d he a9
  exact Zs ⟨by rw[<-R.ei,<-g.ei];exact af.ext.li,by rw[<-R.eb,<-g.eb];exact af.ext.lb,by rw[<-R.er,<-g.er];exact af.ext.lr,af.mono⟩ (b7 d cc) (hA x (atA w) d a9);exact .inr (hA.sublist b6);have cl:u=[]:=by
   cases u with
   |nil=>rfl
   |cons x u=>
    have:=(aiQ (bk x (by simp))).2;rw[bo] at this;cases this
  subst cl;have cm:ys.Pairwise λx y=>(v.getD y.j 0).testBit x.j=true:=hW.so [] m ys rfl bo
  have hY:=hy L m ys s O V a W yn a2 (λe M=>match e with
    |.returned N=>wpAnyIn F X p.P .any B Q ag (listed.setIfInBounds m.j J) (a.put m.o.dst N) M
    |.panicked ch=>Q (.panic ch) a M
    |.outgrown=>LetsOut Q) hl hL R hg ca
   (λN G H C M z af a0 g a1=>bl (G.put m.o.dst N) H C _ M z (.inr cm) (hl.trans (af.put _ _)) (hL.trans a0 hl.au) (g.put m.o.dst N) (hg.ext af.ext) a1)
   (λN G H C M z af a0 g hs=>bb N G H C a M z (hl.trans af) (hL.trans a0 hl.au) g hs)
   (λch M pd y hA hR=>HP ch a M pd y hA hR) (X-1)
  obtain⟨fn,cx,assign,body,cp,cs⟩:=hY;refine⟨λf _=>hF.fn f, ?_⟩;have ct:∀c,m.o.op≠ .defer c:=λc cv=>by simp[dA,cv] at hc
  rw[Oper.semAt_eq _ _ _ ct,ahW R hg hc,cp];rw[Oper.uponIn_round];refine⟨λhd=>by rw[hF.xJ] at hd;simp at hd,RoundIn.mono cs (λe M he=> ?_)⟩;cases e<;>exact he
end
def Q0:bT->Fence
 |none=>Fence.wide
 |U l=>Fence.wide.inRound l
def BN:∀i,ph (Q0 i)
 |none=>asS
 |U l=>ahU l
def atC:∀i,(Q0 i).round=i
 |none=>rfl
 |U _=>rfl
def ph.room{F:Fence}(W:ph F)(n:Nat):F.room n:=λd X=>by rw[W.xJ] at X;cases X
def jG(i:bT)(o:FuncId)(P:Program)(c:Code)(Q:Exit->Act->World->Prop)(a:Act)(w:World):Prop:=
 ∀(b:Frame)(k:List Item)(X:List Frame),b.roundOf=i->b.fn=o->
  ∃e W V,Q e W V/\ArrivesIn (Machine.fenced P Fence.wide) P (lone (b.atR a (.code c::k)) X w) b k X e W V
section
variable{i:bT}{o:FuncId}{P:Program}{Q:Exit->Act->World->Prop}{a:Act}{w:World}
def BO{c:Code}{n:Nat}(h:c.wpIn (Q0 i) n P Q a w):jG i o P c Q a w:=by
 intro b k W V _;obtain⟨e,R,O,N,X⟩:=h b k W (V.trans (atC i).symm) ((BN i).fn _) ((BN i).room _);rw[(BN i).eq] at X;exact⟨e,R,O,N,X⟩
def atD{c:Code}{X:Exit->Act->World->Prop}(h:jG i o P c Q a w)(W:∀e a w,Q e a w->X e a w):jG i o P c X a w:=
 λb k V R O=>let⟨e,N,M,q,r⟩:=h b k V R O;⟨e,N,M,W _ _ _ q,r⟩
def Zv{x y:Code}(h:jG i o P x (Exit.then (jG i o P y Q) Q) a w):jG i o P (Code.seq x y) Q a w:=by
 intro b k N M L;have X:(lone (b.atR a (.code (.seq x y)::k)) N w).fenced P Fence.wide:=fenced_wide _ _;obtain⟨e,R,O,W,V⟩:=h b (.code y::k) N M L;cases e with
 |normal=>
  obtain⟨H,G,F,D,C⟩:=W b k N M L;exact⟨H,G,F,D,.of_steps (.head X stepR_seq V) C⟩
 |exit id=>exact⟨_,R,O,W,.of_steps (.one X stepR_seq) (.pass (x:=.code y) rfl (λ_ _=>.inl (by simp)) V)⟩
 |goto l=>exact⟨_,R,O,W,.of_steps (.one X stepR_seq) (.pass (x:=.code y) rfl (λ_ _=>.inl (by simp)) V)⟩
 |ret=>exact⟨_,R,O,W,.of_steps (.one X stepR_seq) (.pass (x:=.code y) rfl (λ_ _=>.inl (by simp)) V)⟩
 |panic B=>exact⟨_,R,O,W,.of_steps (.one X stepR_seq) (.pass (x:=.code y) rfl (λ_ _=>.inl (by simp)) V)⟩
 |outgrown=>exact⟨_,R,O,W,.of_steps (.one X stepR_seq) (.pass (x:=.code y) rfl (λ_ _=>.inl (by simp)) V)⟩
def atE{c:Code}(h:jG i o P c (Exit.inBlock X Q) a w):jG i o P (Code.block X c) Q a w:=by
 intro b k A z y;have W:(lone (b.atR a (.code (.block X c)::k)) A w).fenced P Fence.wide:=fenced_wide _ _;obtain⟨e,O,N,V,R⟩:=h b (.inBlock X::k) A z y;cases e with
 |normal=>exact⟨.normal,O,N,V,.head W stepR_block (StepsIn.trans R (.one (fenced_wide _ _) stepR_inBlock))⟩
 |exit L=>
  by_cases hid:L=X;simp only[Exit.inBlock,hid,if_true] at V;exact⟨.normal,O,N,V,.head W stepR_block (R.1 k (by simp[exitTo,hid]))⟩;simp only[Exit.inBlock,hid,if_false] at V;have this:(X==L)=false:=by simp;exact λh=>hid h.symm
  have H:exitTo L (.inBlock X::k)=exitTo L k:=by simp[exitTo,this]
  exact⟨.exit L,O,N,V,λG M=>.head W stepR_block (R.1 G (by rw[H];exact M)),
   λF M=>let⟨D,C,B⟩:=R.2 F (by rw[H];exact M);⟨D,C,.head W stepR_block B⟩⟩
 |goto l=>
  have H:gotoIn l (.inBlock X::k)=gotoIn l k:=by simp[gotoIn]
  exact⟨_,O,N,V,λG M=>.head W stepR_block (R.1 G (by rw[H];exact M)),
   λF M=>let⟨D,C,B⟩:=R.2 F (by rw[H];exact M);⟨D,C,.head W stepR_block B⟩⟩
 |ret=>exact⟨_,O,N,V,.of_steps (.one W stepR_block) R⟩
 |panic x=>exact⟨_,O,N,V,.of_steps (.one W stepR_block) R⟩
 |outgrown=>exact⟨_,O,N,V,.of_steps (.one W stepR_block) R⟩
def atF{c:Code}(h:jG i o P c (λe a w=>(∀l,e≠ .goto l)/\Q e a w) a w):jG i o P (Code.scope c) Q a w:=by
 intro b k X G F;have W:(lone (b.atR a (.code (.scope c)::k)) X w).fenced P Fence.wide:=fenced_wide _ _;have V:step P (lone (b.atR a (.code (.scope c)::k)) X w)=.next (lone (b.atR a (.code c::.inScope c::k)) X w):=step_lone_go (by simp[stepG,stepG.exec,Frame.atR])
 have D:∀a w,step P (lone (b.atR a (.inScope c::k)) X w)=.next (lone (b.atR a k) X w):=λa w=>step_lone_go (by simp[stepG,stepG.exec,Frame.atR])
 obtain⟨e,O,N,⟨C,M⟩,R⟩:=h b (.inScope c::k) X G F;cases e with
 |normal=>exact⟨.normal,O,N,M,.head W V (StepsIn.trans R (.one (fenced_wide _ _) (D _ _)))⟩
 |exit id=>
  have H:exitTo id (.inScope c::k)=exitTo id k:=by simp[exitTo]
  exact⟨.exit id,O,N,M,λB L=>.head W V (R.1 B (by rw[H];exact L)),λA L=>let⟨z,y,x⟩:=R.2 A (by rw[H];exact L);⟨z,y,.head W V x⟩⟩
 |goto l=>exact absurd rfl (C l)
 |ret=>exact⟨_,O,N,M,.of_steps (.one W V) R⟩
 |panic v=>exact⟨_,O,N,M,.of_steps (.one W V) R⟩
 |outgrown=>exact⟨_,O,N,M,.of_steps (.one W V) R⟩
def Q7{c:Operand}{x y:Code}{t:Bool}(X:a.eval c=.bool t)(h:jG i o P (if t then x else y) Q a w):jG i o P (Code.cond c x y) Q a w:=by
 intro b k W V R;obtain⟨e,O,N,M,L⟩:=h b k W V R;exact⟨e,O,N,M,.of_steps (.one (fenced_wide _ _) (stepR_cond X)) L⟩
def MO(i:bT)(o:FuncId)(P:Program)(c:Code)(Q:Exit->Act->World->Prop):Nat->Act->World->Prop
 |0,_,_=>False
 |m+1,a,w=>jG i o P c (Exit.then (MO i o P c Q m) Q) a w
def aiU{c:Code}(m:Nat)(h:MO i o P c Q m a w):jG i o P (Code.loop c) Q a w:=by
 intro b k O H G;have F:∀m a w,MO i o P c Q m a w->
   ∃e M L,Q e M L/\ArrivesIn (Machine.fenced P Fence.wide) P (lone (b.atR a (.code c::.inLoop c::k)) O w) b k O e M L:=by
  intro m;induction m with
  |zero=>intro a w h;exact h.elim
  |succ m D=>
   intro a w h;obtain⟨e,X,W,V,R⟩:=h b (.inLoop c::k) O H G;have N:∀{e:Exit},e≠ .normal->ArrivesIn (Machine.fenced P Fence.wide) P (lone (b.atR a (.code c::.inLoop c::k)) O w) b (.inLoop c::k) O e X W->ArrivesIn (Machine.fenced P Fence.wide) P (lone (b.atR a (.code c::.inLoop c::k)) O w) b k O e X W:=
    λC B=>.pass (x:=.inLoop c) rfl (λ_ _=>.inl C) B
   cases e with
   |normal=>
    obtain⟨A,z,y,v,u⟩:=D X W V;exact⟨A,z,y,v,.of_steps (StepsIn.trans R (.one (fenced_wide _ _) stepR_inLoop)) u⟩
   |exit id=>exact⟨_,X,W,V,N (by simp) R⟩
   |goto l=>exact⟨_,X,W,V,N (by simp) R⟩
   |ret=>exact⟨_,X,W,V,N (by simp) R⟩
   |panic t=>exact⟨_,X,W,V,N (by simp) R⟩
   |outgrown=>exact⟨_,X,W,V,N (by simp) R⟩
 obtain⟨e,M,L,V,R⟩:=F m a w h;exact⟨e,M,L,V,.of_steps (.one (fenced_wide _ _) stepR_loop) R⟩
def atG{c:Code}(X:Nat->Act->World->Prop)(V:Nat)(L:X V a w)
  (round:∀n a w,X n a w->jG i o P c (Exit.then (λO M=>∃R,R<n/\X R O M) Q) a w):jG i o P (Code.loop c) Q a w:=by
 refine aiU (V+1) ?_;have H:∀N n a w,n<N->X n a w->MO i o P c Q N a w:=by
  intro N;induction N with
  |zero=>intro n a w h;omega
  |succ N G=>
   intro n a w C F;refine atD (round n a w F) ?_;intro e O M W;cases e with
   |normal=>
    obtain⟨R,B,D⟩:=W;exact G R O M (by omega) D
   |exit id=>exact W
   |goto l=>exact W
   |ret=>exact W
   |panic A=>exact W
   |outgrown=>exact W
 exact H (V+1) V a w (by omega) L
def Zw(i:bT)(o:FuncId)(P:Program)(l:Nat)(Q:Exit->Act->World->Prop)(X:Act):Ending->World->Prop
 |.returned _,W=>∃R V,(Instr.endLoop l).run P W=.ok R V/\
   (match R with
    |none=>Q .normal X V
    |U c=>jG i o P c Q X V)
 |.panicked chain,W=>Q (.panic chain) X W
 |.outgrown,_=>False
def atH{g:Operand}{W:Array Tmp}{assign body:Code}
  (h:∃(l:Nat)(mark:zE)(V:World)(d:Deferred)(R:World)(f:FuncId)(O:jk)(N:World),
   (Instr.enterLoop o a.tmps W assign body i).run P w=.ok (l,mark) V/\
   (resolve a.eval (rangeCall g l) 0).run P V=.ok d R/\
   (invoke d.target d.args).run P R=.ok (.enter f O) N/\
   Calls P f O N (Zw i o P l Q {a with defers:=mark++a.defers})):
  jG i o P (Code.rangeFunc g W assign body) Q a w:=by
 intro b k X H G;obtain⟨l,mark,V,d,R,f,O,N,F,t,s,M⟩:=h;obtain⟨hF,M⟩:=(callsIn_wide (n:=0)).2 M;rw[<-H,<-G] at F;have D:(lone (b.atR a (.code (.rangeFunc g W assign body)::k)) X w).fenced P Fence.wide:=fenced_wide _ _;have C:=stepR_rangeFunc (P:=P) (b:=b) (a:=a) (k:=k) (cs:=X) (w:=w) F t s;obtain⟨e,r,fr,L,B,af,A⟩:=M (b.atR {a with defers:=mark++a.defers} (.inRangeFunc l::k)::X) (room_wide _);cases e with
 |outgrown=>exact L.elim
 |returned v=>
  obtain⟨z,y,q,x⟩:=L;have u:StepsIn (Machine.fenced P Fence.wide) P (lone (b.atR a (.code (.rangeFunc g W assign body)::k)) X w) (lone (b.atR {a with defers:=mark++a.defers} ((z.map Item.code).toList++k)) X y):=by
   refine .head D C (StepsIn.trans B (.head (fenced_wide _ _) ?_ (.one (fenced_wide _ _) (stepR_endRangeFunc q))));rw[<-finish_atR_inRangeFunc l v];exact step_leave_returned A
  cases z with
  |none=>exact⟨.normal,_,y,x,u⟩
  |some c=>
   obtain⟨p,m,j,hq,ab⟩:=x b k X H G;exact⟨p,m,j,hq,.of_steps u ab⟩
 |panicked chain=>
  refine⟨.panic chain,_,r,L,.inRangeFunc l::k,.head D C (StepsIn.trans B (.one (fenced_wide _ _) ?_))⟩;rw[<-Frame.raise_atR];exact step_leave_panicked A
end
def MP{P:Program}{f:FuncId}{N:Func}{c:Code}{W:jk}{R:Ending->World->Prop}
  (A:P.funcs[f]?=U N)(t:N.body=U c)
  (h:jG Z f P c (bodyPostM Fence.wide 0 P N R) {tmps:=W++aFW (N.ntmps-W.size) undef,defers:=[]} e):Calls P f W e R:=by
 refine(callsIn_wide (n:=0)).1 ⟨trivial,λz x=> ?_⟩;let b:Frame:={(default:Frame) with fn:=f,kind:=.normal,roundOf:=Z};have s:Frame.enter P f W .normal=
   b.atR {tmps:=W++aFW (N.ntmps-W.size) undef,defers:=[]} [.code c]:=by
  simp[Frame.enter,Frame.atR,A,t,b]
 obtain⟨X,V,y,O,M⟩:=h b [] z rfl rfl;rw[<-s] at M;cases X with
 |normal=>
  obtain⟨L,H,G,F,D,C,B⟩:=leaves_stepsInM V.defers .returning y {b.atR V [] with mode:=.returning} z rfl rfl rfl A rfl trivial x O;exact⟨L,H,G,F,ComesIn.of_steps (StepsIn.trans M (.one (fenced_wide _ _) (stepR_end rfl))) D,C,B⟩
 |ret=>
  obtain⟨v,u⟩:=M.1 rfl;obtain⟨L,H,G,F,D,C,B⟩:=leaves_stepsInM V.defers .returning y {b.atR V v with mode:=.returning} z rfl rfl rfl A rfl trivial x O;exact⟨L,H,G,F,ComesIn.of_steps u D,C,B⟩
 |panic chain=>
  obtain⟨v,u⟩:=M;obtain⟨L,H,G,F,D,C,B⟩:=leaves_stepsInM V.defers (.panicking chain) y {b.atR V v with mode:=.panicking chain} z rfl rfl rfl A rfl trivial x O;exact⟨L,H,G,F,ComesIn.of_steps u D,C,B⟩
 |exit id=>exact O.elim
 |goto l=>exact O.elim
 |outgrown=>exact⟨.outgrown,y,b,O,M.resolve_left (by simp[b]),rfl,trivial⟩
def atI(P:Program)(l:Nat)(R:Ending->World->Prop):Exit->Act->World->Prop
 |.normal,_,w=>∃v X,(Instr.endRound l Z).run P w=.ok v X/\R (.returned v) X
 |.ret,_,w=>∃v X,(Instr.endRound l (U .ret)).run P w=.ok v X/\R (.returned v) X
 |.exit id,_,w=>∃v X,(Instr.endRound l (U (.exit id))).run P w=.ok v X/\R (.returned v) X
 |.panic W,a,w=>a.defers=[]/\R (.panicked W) w
 |_,_,_=>False
def atJ{F:Fence}(p:ph F){P:Program}{l:Nat}{f:FuncId}{o:Func}{u:jk}{assign body:Code}{R:Ending->World->Prop}(k:P.funcs[f]?=U o)
  (h:jG (U l) f P assign (λW H G=>(W=.normal/\∃s,(Instr.beginRound l).run P G=.ok () s/\jG (U l) f P body (atI P l R) H s)\/∃A,W=.panic A/\H.defers=[]/\R (.panicked A) G)
   {tmps:=u,defers:=[]} e):
  RoundIn F X P l f u assign body e R:=by
 refine⟨p.fn f,λc N hr=> ?_⟩;let b:Frame:={(default:Frame) with fn:=f,kind:=.normal,roundOf:=U l};have j:Frame.round l f u assign body .normal=b.atR {tmps:=u,defers:=[]} [.code assign,.beginRound,.code body]:=by
  simp[Frame.round,Frame.atR,b]
 have al:(Fence.wide.inRound l).room ((c::N).length+1+X):=(ahU l).room _;obtain⟨W,H,G,i,D⟩:=h b [.beginRound,.code body] (c::N) rfl rfl;rw[<-j] at D;rw[p.eq];have I4:∀(m:Machine)(C:Act)(M:World)(chain:List PanicEntry)(L:List Item),C.defers=[]->StepsIn (Machine.fenced P Fence.wide) P m (lone {b.atR C L with mode:=.panicking chain} (c::N) M)->StepsIn (Machine.fenced P Fence.wide) P m (lone (c.raise chain) N M):=by
  intro m C M chain L z V;have g:({b.atR C L with mode:=.panicking chain}:Frame).leaving P M (.panicked chain):=⟨rfl,z,o,k⟩;exact StepsIn.trans V (.one (fenced_wide _ _) (step_leave_panicked g))
 rcases i with⟨rfl,s,d,ab⟩|⟨A,rfl,z,O⟩;have r:StepsIn (Machine.fenced P Fence.wide) P (lone (b.atR H [.beginRound,.code body]) (c::N) G) (lone (b.atR H [.code body]) (c::N) s):=
  .one (fenced_wide _ _) (stepR_beginRound rfl d)
 obtain⟨af,C,M,B,q⟩:=ab b [] (c::N) rfl rfl;cases af with
 |normal=>
  obtain⟨v,y,x,O⟩:=B;exact⟨.returned v,y,O,(StepsIn.trans D r).trans (StepsIn.trans q (.one (fenced_wide _ _) (stepR_round_end rfl rfl x)))⟩
 |ret=>
  obtain⟨v,y,x,O⟩:=B;obtain⟨ag,V⟩:=q.2 rfl;exact⟨.returned v,y,O,(StepsIn.trans D r).trans (StepsIn.trans V (.one (fenced_wide _ _) (stepR_round_ret rfl rfl x)))⟩
 |exit id=>
  obtain⟨v,y,x,O⟩:=B;obtain⟨ag,hk,V⟩:=q.2 rfl rfl;exact⟨.returned v,y,O,(StepsIn.trans D r).trans (StepsIn.trans V (.one (fenced_wide _ _) (stepR_round_exit rfl rfl hk x)))⟩
 |goto t=>exact B.elim
 |panic chain=>
  obtain⟨z,O⟩:=B;obtain⟨L,V⟩:=q;exact⟨.panicked chain,M,O,I4 _ C M chain L z ((StepsIn.trans D r).trans V)⟩
 |outgrown=>exact B.elim
 obtain⟨L,V⟩:=D;exact⟨.panicked A,G,O,I4 _ H G A L z V⟩
mutual
def IE.dM(O:ac)(y:aj):∀(e:IE),e.den (O.at y)=e.den O
 |.c n=>by simp[IE.den]
 |.v k=>by simp[IE.den,ac.at]
 |.bin o k a b=>by simp only[IE.den];rw[IE.dM O y a,IE.dM O y b]
 |.conv k a=>by simp only[IE.den];rw[IE.dM O y a]
 |.len r=>by simp only[IE.den];rw[RE.lp O y r]
 |.mm m a b=>by simp only[IE.den];rw[IE.dM O y a,IE.dM O y b]
 |.cR b x z=>by simp only[IE.den];rw[BE.dM O y b,IE.dM O y x,IE.dM O y z]
 |.cell r i j=>by simp only[IE.den];rw[RE.lp O y r,IE.dM O y i]
 |.mD r i=>by simp only[IE.den];rw[RE.lp O y r,IE.dM O y i]
 |.look r n a b c j=>by simp only[IE.den];rw[RE.lp O y r,IE.dM O y a,IE.dM O y b,IE.dM O y c]
def BE.dM(O:ac)(y:aj):∀(e:BE),e.den (O.at y)=e.den O
 |.c b=>by simp[BE.den]
 |.v k=>by simp[BE.den,ac.at]
 |.cmp o a b=>by simp only[BE.den];rw[IE.dM O y a,IE.dM O y b]
 |.not a=>by simp only[BE.den];rw[BE.dM O y a]
 |.and a b=>by simp only[BE.den];rw[BE.dM O y a,BE.dM O y b]
 |.beq a b=>by simp only[BE.den];rw[BE.dM O y a,BE.dM O y b]
 |.cR b x z=>by simp only[BE.den];rw[BE.dM O y b,BE.dM O y x,BE.dM O y z]
 |.cell r i j=>by simp only[BE.den];rw[RE.lp O y r,IE.dM O y i]
 |.seq a b=>by simp only[BE.den];rw[RE.lp O y a,RE.lp O y b]
 |.look r n a b c j=>by simp only[BE.den];rw[RE.lp O y r,IE.dM O y a,IE.dM O y b,IE.dM O y c]
 |.has r n a b c=>by simp only[BE.den];rw[RE.lp O y r,IE.dM O y a,IE.dM O y b,IE.dM O y c]
def RE.lp(O:ac)(y:aj):∀(e:RE),e.rv (O.at y)=e.rv O
 |.v k=>by simp[RE.rv,ac.rv,ac.at]
 |.cell r i j k=>by simp only[RE.rv];rw[RE.lp O y r,IE.dM O y i]
 |.k v=>by simp[RE.rv]
end
def SV.Zx(O:ac)(y:aj)(v:SV):v.xv (O.at y)=v.xv O:=by
 cases v<;>simp[SV.xv,IE.dM,BE.dM,RE.lp]
def SV.atK(O:ac)(y:aj)(v:SV):v.bN (O.at y)=v.bN O:=by
 cases v<;>simp[SV.bN,IE.dM,BE.dM,RE.lp]
def SV.Q8(O:ac)(y:aj):SV.bN (O.at y)=SV.bN O:=funext (SV.atK O y)
def LE.F2(O:ac)(y:aj):∀(e:LE),e.rows (O.at y)=e.rows O
 |.ref r=>by simp only[LE.rows,RE.lp]
 |.lit l=>by simp only[LE.rows,SV.Q8]
 |.iG a b=>by simp only[LE.rows];rw[LE.F2 O y a,LE.F2 O y b]
 |.rY n R=>by simp only[LE.rows,SV.Q8,IE.dM]
 |.set a i Q X=>by simp only[LE.rows,SV.Q8,IE.dM];rw[LE.F2 O y a]
 |.sub a P N=>by simp only[LE.rows,IE.dM];rw[LE.F2 O y a]
 |.ins a n X=>by simp only[LE.rows,SV.Q8];rw[LE.F2 O y a]
def MQ:∀(X:aW)(O:ac)(y:aj),(O.at y).ext X=(O.ext X).at y
 |[],O,y=>rfl
 |x::X,O,y=>by
  simp only[ac.ext];rw[<-MQ X (O.add x) y];cases x<;>rfl
def atL{C:Ty}{x:LE}{X:aE}{y:aj}{R:RV}(h:FL C v e M x X (N.at y) R):FL C v e M x X N R:=by
 obtain⟨Q,P,L⟩:=h;rw[LE.F2] at Q;exact⟨Q,P,L⟩
def q8(p:Sp):∀(t:T)(O:ac)(L:cZ)(y:aj),t.aT p O L->t.aT p (O.at y) L
 |.out e s,O,L,y,h=>h
 |.ret v w M,O,L,y,h=>h
 |.bj v,O,L,y,h=>h
 |.node b t f,O,L,y,h=>by
  simp only[T.aT,BE.dM] at h⊢;exact⟨λQ=>q8 p t O L y (h.1 Q),λQ=>q8 p f O L y (h.2 Q)⟩
 |.aV b t,O,L,y,h=>by
  simp only[T.aT,BE.dM] at h⊢;exact⟨h.1,q8 p t O L y h.2⟩
 |.call f af w M u fG t,O,L,y,h=>by
  simp only[T.aT] at h⊢;intro q V W R;refine(h q V W R).mono ?_;intro e W' G;cases e with
  |returned v=>
   obtain⟨F,P,N,C,m,l⟩:=G;refine⟨F,P, ?_,C,m, ?_⟩;rw[MQ];exact N;rw[MQ];exact q8 p t _ L y l
  |panicked ch=>exact G
  |outgrown=>exact G
 |.loop au u x0 t,O,L,y,h=>by
  simp only[T.aT] at h⊢;obtain⟨X,c,P,N⟩:=h;refine⟨X,c, ?_,λF hf hI=> ?_⟩;have:SV.xv (O.at y)=SV.xv O:=funext (SV.Zx O y);rw[this];exact P;rw[MQ];exact q8 p t _ _ y (N F hf hI)
 |.back au x,O,L,y,h=>by
  have:SV.xv (O.at y)=SV.xv O:=funext (SV.Zx O y);simp only[T.aT] at h⊢;rw[this];exact h
 |.new e x M ag t,O,L,y,h=>by
  simp only[T.aT] at h⊢;intro B ab;exact q8 p t (O.add (.r B)) L y (h B (atL ab))
 |.rows k x M t,O,L,y,h=>by
  simp only[T.aT] at h⊢;have:gf x (O.at y)=gf x O:=by simp only[gf,LE.F2]
  rw[this];exact q8 p t (O.add (.r (gf x O))) L y h
 |.fA g h' t f,O,L,y,h=>by
  simp only[T.aT,BE.dM] at h⊢;exact⟨λQ=>q8 p t O L y (h.1 Q),λQ=>q8 p f O L y (h.2 Q)⟩
 |.pick n g h' t f,O,L,y,h=>by
  simp only[T.aT,IE.dM,BE.dM] at h⊢;refine⟨λj P N C=>q8 p t (O.add (.i j)) L y (h.1 j P N ?_),λQ=>q8 p f O L y (h.2 Q)⟩;have:=BE.dM (O.add (.i j)) y g;rw[<-this];exact C
 |.dw f g e sp st r M t,O,L,y,h=>by
  simp only[T.aT,RE.lp] at h⊢;obtain⟨A,P,N⟩:=h;refine⟨A, ?_,q8 p t (O.add (.r (.mk (r.rv O).val A))) L y N⟩;rw[<-P];cases sp with
  |cw k o H=>
   have z:IE.den (O.at y)=IE.den O:=funext λe=>IE.dM O y e
   cases st with
   |false=>simp only[jE,z]
   |true=>
    cases H with
    |nil=>rfl
    |cons i H=>
     cases H with
     |nil=>simp only[jE,z]
     |cons j H=>rfl
  |lex cs d=>rfl
  |ratio n d=>rfl
 |.stuck _,_,_,_,h=>h
mutual
def SV.MS{O:ac}{y:aj}{n:Nat}(X:∀m,m≠n->y.getD m 0=O.y.getD m 0)(V:aj):∀(v:SV),v.vI n=E->v.den (O.at y) V=v.den O V
 |.int _ e,_=>by simp only[SV.den,IE.dM]
 |.bool e,_=>by simp only[SV.den,BE.dM]
 |.ref e,_=>by simp only[SV.den,RE.den,RE.lp]
 |.loc i _,_=>rfl
 |.el r _ i _,_=>by simp only[SV.den,RE.den,RE.lp,IE.dM]
 |.gM _ _ _ _,_=>rfl
 |.agg l,h=>by simp only[SV.den];rw[SV.I5 X V l h]
 |.bK l,h=>by simp only[SV.den];rw[SV.I5 X V l h]
 |.fn _ l,h=>by simp only[SV.den];rw[SV.I5 X V l h]
 |.eP _ x,h=>by simp only[SV.den];rw[SV.MS X V x h]
 |.yl m,h=>by
  simp only[SV.vI,beq_eq_false_iff_ne] at h;simp only[SV.den,ac.at];rw[X m h]
 |.any,_=>rfl
 |.mp _,_=>rfl
 |.eQ e Q R,h=>by simp only[SV.den,IE.dM];rw[SV.I5 X V R h]
def SV.I5{O:ac}{y:aj}{n:Nat}(X:∀m,m≠n->y.getD m 0=O.y.getD m 0)(V:aj):∀(l:ai),SV.o8 n l=E->SV.aD (O.at y) V l=SV.aD O V l
 |[],_=>rfl
 |x::R,h=>by
  simp only[SV.o8,aDW] at h;simp only[SV.aD];rw[SV.MS X V x h.1,SV.I5 X V R h.2]
end
def SV.atM(Q:∀m,m≠X->v.getD m 0=N.y.getD m 0)(V:aj)(R:SV)(h:R.vI X=E):R.f8 (N.at v) V=R.f8 N V:=by
 have P:=SV.MS Q V R h;cases R<;>simp only[SV.f8]<;>try rw[P]
 exact RE.lp N v _
def SV.aiV{O:ac}{y:aj}{n:Nat}(X:∀m,m≠n->y.getD m 0=O.y.getD m 0)(V:aj):∀(l:ai),SV.o8 n l=E->SV.cN (O.at y) V l=SV.cN O V l
 |[],_=>rfl
 |x::R,h=>by
  simp only[SV.o8,aDW] at h;have:=SV.aiV X V R h.2;simp only[SV.cN,aDt] at this⊢;rw[SV.atM X V x h.1,this]
def aiW{n:Nat}:∀{l:ai},SV.o8 n l=E->∀v∈l,v.vI n=E
 |[],_,v,h=>by cases h
 |x::R,h,v,X=>by
  simp only[SV.o8,aDW] at h;rcases aDp.1 X with rfl|X;exact h.1;exact aiW h.2 v X
def Zy{n:Nat}:∀{bx:bA},vJ n bx=E->∀(i:Nat)(t:TypeId)(X:ai),bX bx i=U (t,X)->SV.o8 n X=E
 |[],_,i,t,X,h=>by simp[cK] at h
 |Z::Q,R,0,t,X,h=>by simp[cK] at h
 |U x::Q,R,0,t,X,h=>by
  simp only[vJ,aDW] at R;simp[cK] at h;rw[h] at R;exact R.1
 |Z::Q,R,i+1,t,X,h=>Zy (bx:=Q) R i t X (by simpa[cK] using h)
 |U x::Q,R,i+1,t,X,h=>by
  simp only[vJ,aDW] at R;exact Zy (bx:=Q) R.2 i t X (by simpa[cK] using h)
section
variable{F:aj}{q:World}{D:bR}{C:Ty}{V:aj}{O:ac}{s:S}{a:Act}{W:World}
def jD.at{Q:bA}{N:aE}(R:jD F q V O Q C N W)(M:∀m,m≠X->v.getD m 0=O.y.getD m 0)(L:vJ X Q=E):jD F q V (O.at v) Q C N W:=
 ⟨R.base,R.own,R.inj,λi t P h=>by rw[SV.aiV M V P (Zy L i t P h)];exact R.box i t P h,R.ref⟩
def atN{w:World}(h:eV v e w)(P:e.heap.size<=X)(o:Obj):eV v e (w.putObj X o):=
 ⟨h.os,h.tape,h.output,by have:=h.size;simpa[World.putObj] using this,λk R Q=>(World.putObj_heap_other (by omega)).trans (h.block k R Q)⟩
def bz.cells{k:RK}{Q:RV}(h:bz W C k Q)(R:de C k Q X):∃M t L,W.heap[X]?=U (.cells M t L):=by
 induction h generalizing X with
 |sl e A H G P n m F l g f N=>
  cases R with
  |here e a H G P=>
   have B:P[0]?=U P[0]:=aDe (by omega);obtain⟨d,X,ab,x,w,-⟩:=F 0 _ B;cases x;exact w
  |deep e v P i j u c z k X r q p o=>exact N i j u c z k r q p o
 |str s=>cases R
 |aH v h=>cases R
 |own e Q h hn N=>
  cases R with
  |own e Q X R=>exact N R
 |dead Q h=>cases R
 |mr sh P=>cases R
def jD.obj{M:bA}{L:aE}(R:jD F q V O M C L W){o:Obj}(H:W.heap[X]?=U o)(G:Ix o=J)(z:q.heap.size<=X)(B:Obj):jD F q V O M C L (W.putObj X B):=by
 have x:∀P Q t N,W.heap[P]?=U (.cells Q t N)->P≠X:=λP Q t N h e=>by subst e;rw[H] at h;cases h;exact ag0 G _ _ _ rfl
 refine⟨atN R.base z B,R.own,R.inj,λi t Q h=> ?_,λk e w v u=> ?_⟩;have:=R.box i t Q h;rw[World.putObj_heap_other (λe=>by subst e;rw[H] at this;cases this;exact ag1 G _ _ rfl)];exact this;obtain⟨A,r⟩:=R.ref k e w v u;refine⟨A.Iy (λP p=> ?_) (by simp[World.putObj]),r⟩;obtain⟨Q,t,N,n⟩:=A.cells p;exact World.putObj_heap_other (x _ _ _ _ n)
def xB.obj{R:bA}{Q:aE}{P:RV}{N:Nat}(h:xB F q V O R C Q W X M P N){b:Nat}{o:Obj}(H:W.heap[b]?=U o)(G:Ix o=J)(B:Obj):xB F q V O R C Q (W.putObj b B) X M P N:=by
 refine h.world (World.putObj_heap_other ?_);obtain⟨A,z,x,-,L,-⟩:=h.mem;intro M;subst M;rw[H] at L;cases L;exact ag0 G _ _ _ rfl
def az.obj(R:az F q D C V O s a W){b:Nat}{o:Obj}(Q:W.heap[b]?=U o)(P:Ix o=J)(M:q.heap.size<=b)(X:Obj){D':bR}{pd:rW}{a':Act}(N:a'.tmps=a.tmps)
  (L:dE q D' pd O.y a'.defers (W.putObj b X)):az F q D' C V O {s with pd:=pd} a' (W.putObj b X):=
 ⟨R.mem.obj Q P M X,R.fp,R.ei,R.eb,R.er,L,by rw[N];exact R.size,λt H h=>by rw[N];exact R.tmps t H h,λk e G B A z x=>(R.dJ k e G B A z x).obj Q P X⟩
def pX:aj->World->World
 |[],W=>W
 |d::ms,W=>pX ms (W.putObj d (.deferred Z))
def az.pX:∀{ms:aj}{a:Act}{W:World},az F q D C V O s a W->a.defers=ms.map kD++D.base->az F q D C V O s {a with defers:=D.base} (pX ms W)
 |[],a,W,R,h=>by
  have:({a with defers:=D.base}:Act)=a:=by cases a;simp at h;subst h;rfl
  rw[this];exact R
 |d::ms,a,W,R,h=>by
  obtain⟨G,Q,B,M,L⟩:=R.cP.l8;have A:G=d::ms:=by
   rw[h] at Q;have Q:=aGi Q;have w:∀(l X:aj),l.map kD=X.map kD->l=X:=by
    intro l;induction l with
    |nil=>intro X h;cases X<;>simp at h;rfl
    |cons x c v=>
     intro X h;cases X with
     |nil=>simp at h
     |cons z u=>
      simp only[aDt,aEg,kD,Deferred.mk.injEq,Target.collected.injEq] at h;obtain⟨⟨rfl,-⟩,h⟩:=h;rw[v u h]
   exact(w _ _ Q).symm
  subst A;have P:=L d (by simp);have t:dE q D s.pd O.y (ms.map kD++D.base) (W.putObj d (.deferred Z)):=by
   refine⟨R.cP.len,R.cP.qT,λn l r p o m=> ?_,R.cP.inj,ms,rfl,λk=>(by have:=B k;cases this),(aE5.1 M).2,λj H=> ?_⟩;obtain⟨i,N,g⟩:=R.cP.dB n l r p o m;exact⟨i,(World.putObj_heap_other (λe=>by subst e;rw[P.1] at N;cases N)).trans N,g⟩;have:=L j (by simp only[aDi,aDp];exact .inr H);refine⟨(World.putObj_heap_other (λe=>by subst e;exact(aE5.1 M).1 H)).trans this.1,this.2⟩
  have f:=R.obj P.1 rfl P.2 (.deferred Z) (D':=D) (pd:=s.pd) (a':={a with defers:=ms.map kD++D.base}) rfl t;exact az.pX (a:={a with defers:=ms.map kD++D.base}) (W:=W.putObj d (.deferred Z)) f rfl
def dE.pX:∀{ms:aj}{pd:rW}{y:aj}{W:World},dE q D pd y (ms.map kD++D.base) W->dE q D pd y D.base (pX ms W)
 |[],pd,y,W,h=>h
 |d::ms,pd,y,W,h=>by
  obtain⟨L,R,H,P,N⟩:=h.l8;have G:L=d::ms:=by
   have R:=aGi R;have F:∀(l X:aj),l.map kD=X.map kD->l=X:=by
    intro l;induction l with
    |nil=>intro X h;cases X<;>simp at h;rfl
    |cons x k C=>
     intro X h;cases X with
     |nil=>simp at h
     |cons z B=>
      simp only[aDt,aEg,kD,Deferred.mk.injEq,Target.collected.injEq] at h;obtain⟨⟨rfl,-⟩,h⟩:=h;rw[C B h]
   exact(F _ _ R).symm
  subst G;have A:=N d (by simp);refine dE.pX (ms:=ms) (W:=W.putObj d (.deferred Z)) ⟨h.len,h.qT,λn l r w v u=> ?_,h.inj,ms,rfl,λt=>(by have:=H t;cases this),(aE5.1 P).2,λp M=> ?_⟩;obtain⟨o,Q,m⟩:=h.dB n l r w v u;exact⟨o,(World.putObj_heap_other (λe=>by subst e;rw[A.1] at Q;cases Q)).trans Q,m⟩;have:=N p (by simp only[aDi,aDp];exact .inr M);exact⟨(World.putObj_heap_other (λe=>by subst e;exact(aE5.1 P).1 M)).trans this.1,this.2⟩
end
def MT{P:World->Prop}{B:Nat}(h:∀W b o,B<=b->P W->P (W.putObj b o)):∀{X:aj}{W:World},(∀d∈X,B<=d)->P W->P (pX X W)
 |[],W,_,R=>R
 |d::X,W,Q,R=>MT (W:=W.putObj d (.deferred Z)) h (λx N=>Q x (by simp[N])) (h W d _ (Q d (by simp)) R)
def sx{P:Program}{Q:Func}{N:jk}{R:Ending->World->Prop}{u:FrameMode}{M:zE}(L:u≠ .run):∀{X:aj}{W:World},X.Nodup->(∀d∈X,W.heap[d]?=U (.deferred (U [])))->
  LeavesInM Fence.wide 0 P Q N R M u (pX X W)->LeavesInM Fence.wide 0 P Q N R (X.map kD++M) u W
 |[],W,_,_,h=>h
 |d::X,W,F,H,h=>by
  obtain⟨C,B⟩:=aE5.1 F;refine⟨L,.inl ⟨d,_,rfl,run_takeDeferred (H d (by simp)),sx L B (λA G=> ?_) h⟩⟩;exact(World.putObj_heap_other (λe=>by subst e;exact C G)).trans (H A (by simp[G]))
section
variable{F:aj}{q:World}{D H:bR}{C:Ty}{V:aj}{O:ac}{s:S}{a:Act}{W:World}{pd:rW}{y:aj}{G:zE}
def dE.enter(h:dE q D pd y G W)(X:(v++D.out).Nodup)(R:∀d∈v++D.out,W.heap[d]?=U (.deferred (U []))/\q.heap.size<=d)(Q:Bool):dE q ⟨v++D.out,D.dB,Q,[]⟩ pd y [] W:=
 ⟨h.len,h.qT,h.dB,h.inj,[],rfl,λ_=>rfl,X,R⟩
def dE.I4(h:dE q ⟨v++D.out,D.dB,l,[]⟩ pd y [] W)(R:D.rd=J->v=[]):dE q D pd y (v.map kD++D.base) W:=by
 obtain⟨X,Q,M,P,N⟩:=h.l8;have:X=[]:=by cases X<;>simp at Q;rfl
 subst this;exact⟨h.len,h.qT,h.dB,h.inj,v,rfl,R,P,N⟩
def dE.push{l:Nat}{r:Loop}(h:dE q D pd y G W)(x:(v++D.out).Nodup)(w:∀X∈v++D.out,W.heap[X]?=U (.deferred (U []))/\q.heap.size<=X)
  (u:W.heap[X]?=U (.deferred (U [])))(t:X∉v++D.out)(p:q.heap.size<=X)(o:W.heap[l]?=U (.loop (pR r .ready)))(B:∀(n:Nat)(P:Nat)(H:Loop),D.dB[n]?=U (P,H)->P≠l)(m:q.heap.size<=l):
  dE q ⟨X::(v++D.out),D.dB++[(l,r)],E,[]⟩ (pd++[.ready]) (y++[l]) [] W:=by
 refine⟨by simp[h.len],by simp[h.qT],λn P H k Q R=> ?_,λn N P A z Q R=> ?_,[],rfl,λ_=>rfl,by simpa using⟨by simpa using t,x⟩,λj L=> ?_⟩;by_cases M:n<Y D.dB;rw[aDg M] at Q;rw[aDg (by rw[<-h.len];exact M)] at R;obtain⟨i,g,f⟩:=h.dB n P H k Q R;exact⟨by rw[aDg (by rw[h.qT,<-h.len];exact M)];exact i,g,f⟩;have F:n=Y D.dB:=by
  have:=(aDd.1 Q).1;simp at this;omega
 subst F;simp at Q;obtain⟨rfl,rfl⟩:=Q;rw[h.len] at R;simp at R;subst R;refine⟨?_,o,m⟩;rw[h.len,<-h.qT];simp;by_cases M:n<Y D.dB;rw[aDg M] at Q;by_cases C:N<Y D.dB;rw[aDg C] at R;exact h.inj n N P A z Q R;have F:N=Y D.dB:=by
  have:=(aDd.1 R).1;simp at this;omega
 subst F;simp at R;obtain⟨rfl,rfl⟩:=R;exact absurd rfl (B n _ A Q);have e:n=Y D.dB:=by
  have:=(aDd.1 Q).1;simp at this;omega
 subst e;simp at Q;obtain⟨rfl,rfl⟩:=Q;by_cases C:N<Y D.dB;rw[aDg C] at R;exact absurd rfl (B N _ z R);have:=(aDd.1 R).1;simp at this;omega;simp only[aDl,aDp] at L;rcases L with rfl|L;exact⟨u,p⟩;exact w j L
def dE.pop{l:Nat}{r:Loop}(h:dE q ⟨X::(v++D.out),D.dB++[(l,r)],E,[]⟩ pd y [] W)(H:D.rd=E):dE q D (pd.take (Y D.dB)) (y.take (Y D.dB)) ((X::v).map kD++D.base) W:=by
 obtain⟨M,G,p,F,C⟩:=h.l8;have:M=[]:=by cases M<;>simp at G;rfl
 subst this;have B:=h.len;have o:=h.qT;simp at B;refine⟨by simp;omega,by simp;omega,λn N A z R Q=> ?_,λn x N w u R Q=> ?_,X::v,rfl,λL=>(by rw[H] at L;cases L),F,C⟩;have P:=(aDd.1 R).1;rw[aDK,if_pos P] at Q⊢;exact h.dB n N A z (by rw[aDg P];exact R) Q;have P:=(aDd.1 R).1;have t:=(aDd.1 Q).1;exact h.inj n x N w u (by rw[aDg P];exact R) (by rw[aDg t];exact Q)
def dE.put{r:Loop}(h:dE q D pd y G W)(L:W.heap[X]?=U (.loop r))(H:∀(n R:Nat)(Q:Loop),D.dB[n]?=U (R,Q)->R≠X)(o:Obj):dE q D pd y G (W.putObj X o):=by
 obtain⟨F,C,B,A,P⟩:=h.l8;refine⟨h.len,h.qT,λn R Q z M x=> ?_,h.inj,F,C,B,A,λd N=>⟨?_,(P d N).2⟩⟩;obtain⟨w,v,u⟩:=h.dB n R Q z M x;exact⟨w,(World.putObj_heap_other (H n R Q M)).trans v,u⟩;exact(World.putObj_heap_other (λe=>by subst e;have:=(P d N).1;rw[L] at this;cases this)).trans (P d N).1
def dE.Zz{l:Nat}{r:Loop}(h:dE q D pd y G W)(R:D.dB[X]?=U (l,r))(B:E8):dE q D (pd.set X B) y G (W.putObj l (.loop (pR r B))):=by
 obtain⟨w,v,u,t,M⟩:=h.l8;have A:X<Y pd:=by rw[<-h.len];exact(aDd.1 R).1
 have P:∃L,W.heap[l]?=U (.loop L):=⟨_,(h.dB X l r pd[X] R (aDe A)).2.1⟩;obtain⟨k,P⟩:=P;refine⟨by simp[h.len],by simp[h.qT],λz p L o N Q=> ?_,h.inj,w,v,u,t,λd H=>⟨?_,(M d H).2⟩⟩;rw[aD9] at Q;split at Q;rename_i e;subst e;rw[R] at N;cases N;simp only[aDh] at Q;subst Q;obtain⟨F,x,C⟩:=h.dB X l r pd[X] R (aDe A);exact⟨F,World.putObj_heap_same (zG P),C⟩;rename_i e;obtain⟨F,x,C⟩:=h.dB z p L o N Q;exact⟨F,(World.putObj_heap_other (λm=>by subst m;exact e (h.inj X z _ _ _ R N))).trans x,C⟩;exact(World.putObj_heap_other (λe=>by subst e;have:=(M d H).1;rw[P] at this;cases this)).trans (M d H).1
def aiX{O:ac}{V:aj}:∀(R:aj)(N l:ai)(A:jk),A.size=Y l->(∀(t:Nat)(X:SV),l[t]?=U X->X=.any\/A[t]?=U (X.den O V))->
  ((R.zip (SV.aD O V N)).foldl (λ(M:jk)(x:Nat×Value)=>M.setIfInBounds x.1 x.2) A).size=(FE R N l).length/\
  ∀(t:Nat)(X:SV),(FE R N l)[t]?=U X->X=.any\/((R.zip (SV.aD O V N)).foldl (λ(M:jk)(x:Nat×Value)=>M.setIfInBounds x.1 x.2) A)[t]?=U (X.den O V)
 |[],N,l,A,Q,h=>by simp only[List.zip_nil_left,List.foldl_nil,FE];exact⟨Q,h⟩
 |p::R,[],l,A,Q,h=>by simp only[SV.aD,List.zip_nil_right,List.foldl_nil,FE];exact⟨Q,h⟩
 |p::R,v::L,l,A,Q,h=>by
  simp only[SV.aD,aFj,aEG,FE];refine aiX R L (l.set p v) (A.setIfInBounds p (v.den O V)) (by simp[Q]) (λt X P=> ?_);rw[aD9] at P;split at P;rename_i e;subst e;split at P;rename_i H;cases P;right;rw[aFv (by rw[Q];exact H)];cases P;rename_i e;rw[aEU e];exact h t X P
end
section
variable{p:Sp}{cf:bB}
def MU(bC:Nat->Bool)(X W:Bool):∀(l:ol)(j n i:Nat)(m:OM),(fH bC X W j n l)[i]?=U m->l[i]?=U m.o
 |[],j,n,i,m,h=>by simp[fH] at h
 |o::r,j,n,0,m,h=>by simp[fH] at h;simp[<-h]
 |o::r,j,n,i+1,m,h=>by simp[fH] at h;simpa using MU bC X W r _ _ i m h
def ZA(bC:Nat->Bool)(X W:Bool):∀(l:ol)(j n:Nat),(fH bC X W j n l).length=Y l
 |[],j,n=>rfl
 |o::r,j,n=>by simp[fH,ZA bC X W r]
def ZB(bC:Nat->Bool)(X W:Bool):∀(l:ol)(j n i:Nat)(m:OM),(fH bC X W j n l)[i]?=U m->m.j=j+i
 |[],j,n,i,m,h=>by simp[fH] at h
 |o::r,j,n,0,m,h=>by simp[fH] at h;simp[<-h]
 |o::r,j,n,i+1,m,h=>by simp[fH] at h;have:=ZB bC X W r _ _ i m h;omega
def ZC(bC:Nat->Bool)(W X:Bool):∀(l:ol)(j n i:Nat)(m:OM),(fH bC W X j n l)[i]?=U m->m.dr=X
 |[],j,n,i,m,h=>by simp[fH] at h
 |o::r,j,n,0,m,h=>by simp[fH] at h;simp[<-h]
 |o::r,j,n,i+1,m,h=>by simp[fH] at h;exact ZC bC W X r _ _ i m h
structure aiY(m m':OM):Prop where
 o:m.o=m'.o
 ix:m.ix=m'.ix
 j:m.j=m'.j
 dr:m.dr=m'.dr
def ZD{V:aj}:∀{l X:ce}{m:OM},m∈sj V X l->∃W∈l,aiY m W
 |[],X,m,h=>by simp[sj] at h
 |x::l,X,m,h=>by
  simp only[sj,aDp] at h;rcases h with rfl|h;exact⟨x,by simp,rfl,rfl,rfl,rfl⟩;obtain⟨W,R,Q⟩:=ZD h;exact⟨W,by simp[R],Q⟩
def aiZ{X:aj}:∀{l:ce},zA X l=J->l.Pairwise λx y=>(X.getD y.j 0).testBit x.j=J
 |[],_=>aD6
 |x::r,h=>by
  simp only[zA,aDc] at h;exact aDz.2 ⟨λy W=>aDr.1 h.1 y W,aiZ h.2⟩
def ai0{X:aj}:∀{l W:ce},(l.Pairwise λx y=>(X.getD y.j 0).testBit x.j=J)->(sj X W l).Pairwise λx y=>(X.getD y.j 0).testBit x.j=J
 |[],W,_=>aD6
 |x::r,W,h=>by
  obtain⟨V,R⟩:=aDz.1 h;refine aDz.2 ⟨λy Q=> ?_,ai0 R⟩;obtain⟨P,O,N⟩:=ZD Q;rw[N.j];exact V P O
def ai1{Q:aj}:∀{l W:ce}(R:ce)(m:OM)(X:ce),sj Q W l=R++m::X->m.so=J->X.Pairwise λx y=>(Q.getD y.j 0).testBit x.j=J
 |[],W,R,m,X,h,_=>by cases R<;>simp[sj] at h
 |x::r,W,[],m,X,h,V=>by
  simp only[sj,aDl,aEg] at h;obtain⟨P,rfl⟩:=h;subst P;simp only[aDc] at V;exact ai0 (aDz.1 (aiZ V.1.2)).2
 |x::r,W,z::O,m,X,h,V=>by
  simp only[sj,aDi,aEg] at h;exact ai1 O m X h.2 V
def ZE:∀{l:aj},lH l=J->l.Pairwise (·≠·)
 |[],_=>aD6
 |x::W,h=>by
  simp only[lH,aDc,aDv] at h;refine aDz.2 ⟨λy X e=> ?_,ZE h.2⟩;subst e;rw[aDN.2 X] at h;cases h.1
def Q9:∀{l:ce},lH (l.filterMap (·.o.dst))=J->l.Pairwise λa b=>∀d,a.o.dst=U d->b.o.dst≠U d
 |[],_=>aD6
 |x::V,h=>by
  cases W:x.o.dst with
  |none=>
   simp only[aFx,W] at h;exact aDz.2 ⟨λy _ d X=>(by rw[W] at X;cases X),Q9 h⟩
  |some d=>
   simp only[aFx,W,lH,aDc,aDv] at h;refine aDz.2 ⟨λy R e X Q=> ?_,Q9 h.2⟩;rw[W] at X;cases X;have:d∈V.filterMap (·.o.dst):=aEw.2 ⟨y,R,Q⟩;rw[aDN.2 this] at h;cases h.1
def ai2{X:cS}{W:aj}:∀{l:ce},C2 X W l=J->l.Pairwise λx y=>(W.getD y.j 0).testBit x.j=J\/si X x y=J
 |[],_=>aD6
 |x::R,h=>by
  simp only[C2,aDc] at h;refine aDz.2 ⟨λy V=> ?_,ai2 h.2⟩;have:=aDr.1 h.1 y V;simpa using this
def ai3{Q:cS}:∀{l:ce}{done:aj},C3 Q done l=J->(∀m∈l,Q[m.j]?=U m.o)->∀X m V,l=X++m::V->∀e∈kb m.o,e∈done\/∃x∈X,x.j=e
 |[],done,_,_,X,m,V,h=>by cases X<;>simp at h
 |x::l,done,R,P,X,m,V,h=>by
  simp only[C3,aDc] at R;intro e O;cases X with
  |nil=>
   simp only[aDl,aEg] at h;obtain⟨rfl,-⟩:=h;rw[P x (by simp)] at R;exact .inl (aDN.1 (aDr.1 R.1 e O))
  |cons z N=>
   simp only[aDi,aEg] at h;obtain⟨rfl,h⟩:=h;rcases ai3 R.2 (λm M=>P m (by simp[M])) N m V h e O with W|⟨y,L,W⟩;rcases aDp.1 W with rfl|W;exact .inr ⟨x,by simp,rfl⟩;exact .inl W;exact .inr ⟨y,by simp[L],W⟩
def ai4{X:cS}(h:PY X.toList v=J):I3 X v:=by
 have P:∀(j:Nat)(o:Oper),X[j]?=U o->(∀e∈kb o,e<j)/\∀i,i<X.size->(v.getD j 0).testBit i=J->i∈kb o\/∃e∈kb o,(v.getD e 0).testBit i=true:=by
  intro j o W;have O:j<X.size:=(aDD.1 W).1;have R:=aDr.1 h j (by simpa using O);have N:X.toList[j]?=U o:=by simpa using W
  rw[N] at R;simp only[aDc] at R;refine⟨λe Q=>by simpa using aDr.1 R.1 e Q,λi M L=> ?_⟩;have V:=aDr.1 R.2 i (by simpa using M);simp only[L,aF8,aGI,aDE] at V;rcases V with V|V;exact .inl (aDN.1 V);obtain⟨e,Q,H⟩:=aDL.1 V;exact .inr ⟨e,Q,H⟩
 exact⟨λj o W=>(P j o W).1,λj o W=>(P j o W).2⟩
def uk(X:aj):∀(l:ai)(n i:Nat),(qQ X n l)[i]?=(l[i]?).map λx=>if X.contains (n+i) then .any else x
 |[],n,i=>by simp[qQ]
 |x::W,n,0=>by simp[qQ]
 |x::W,n,i+1=>by
  simp only[qQ,aDO];rw[uk X W (n+1) i,show n+1+i=n+(i+1) by omega]
def I6(X:aj):∀(l:ai)(n:Nat),(qQ X n l).length=Y l
 |[],n=>rfl
 |x::W,n=>by simp[qQ,I6 X W]
def ai5:∀{l:ol}{o:Oper}{t:TypeId},H8 cf l=J->o∈l->o.op=.alloc t->FC cf t=J
 |[],o,t,_,h,_=>by simp at h
 |x::V,o,t,h,X,W=>by
  simp only[H8,aDc] at h;rcases aDp.1 X with rfl|X;have:=h.1;rw[W] at this;exact this;exact ai5 h.2 X W
def ZF:∀{l:ce},lH ((l.filter λm=>fk m.o.op).map (·.ix))=J->l.Pairwise λa b=>fk a.o.op=J->fk b.o.op=J->a.ix≠b.ix
 |[],_=>aD6
 |x::R,h=>by
  by_cases X:fk x.o.op=J;rw[List.filter_cons_of_pos (by simpa using X),aDt,lH,aDc] at h;refine aDz.2 ⟨λy W _ Q e=> ?_,ZF h.2⟩;have:x.ix∈(R.filter λm=>fk m.o.op).map (·.ix):=aDF.2 ⟨y,aD1.2 ⟨W,by simpa using Q⟩,e.symm⟩;have V:=h.1;rw[aDN.2 this] at V;cases V;rw[List.filter_cons_of_neg (by simpa using X)] at h;exact aDz.2 ⟨λy W P=>absurd P X,ZF h⟩
def atO(bC:Nat->Bool)(W V:Bool)(R:bA):∀(l:ol){i:Nat}{m:OM},fk m.o.op=J->(fH bC W V 0 (Y R) l)[i]?=U m->eU (R++aDq (lG l) Z) m.ix=true:=by
 have P:∀(l:ol)(j n i:Nat)(m:OM),fk m.o.op=J->(fH bC W V j n l)[i]?=U m->n<=m.ix/\m.ix<n+lG l:=by
  intro l;induction l with
  |nil=>intro j n i m _ h;simp[fH] at h
  |cons o r O=>
   intro j n i m X h;have Q:lG (o::r)=(if fk o.op then 1 else 0)+lG r:=by
    unfold lG;rw[List.filter_cons];split<;>simp<;>omega
   cases i with
   |zero=>
    simp only[fH,aEb,aDh] at h;subst h;simp only at X⊢;rw[Q,if_pos X];omega
   |succ i=>
    simp only[fH,aDO] at h;have:=O _ _ i m X h;rw[Q];split at this<;>simp_all<;>omega
 intro l i m X h;obtain⟨N,M⟩:=P l 0 _ i m X h;unfold eU;rw[aDk N,aEm,if_pos (by omega)]
def Dp(p:Sp)(cf:bB)(x:List (Nat×Loop))(B:kE)(w:YH):Prop:=
 ∀(D:bR)(_:D.dB=x)(L:cZ)(n:Nat)(C:ai)(s:S)(k A:SV->S->T)(O:ac)(V:aj)(a:Act)(W:World)(G:Ending->World->Prop),B.pW s O V L->
  (w n C s k A).aT p O L->az p.S0 p.w0 D cf.ty V O s a W->et cf.gl O->
  (∀v N X M Q H,bG s O V N X M->cM s.au L H->az p.S0 p.w0 D cf.ty M X N a Q->(k v N).aT p X H->G (.returned (v.den X M)) Q)->
  (∀v N X M Q H,bG s O V N X M->cM s.au L H->az p.S0 p.w0 D cf.ty M X N a Q->(A v N).aT p X H->G (.panicked [{v:=v.den X M,recovered:=E}]) Q)->
  (∀z Q u y,dE p.w0 D u y a.defers Q->p.R (.panicked z) Q->G (.panicked z) Q)->
  ∀(F:Fence)(_:ph F)(m:Nat),YieldAt F m p.P (O.y.getD n 0) (SV.aD O V C).toArray W G
def F3(X:List (Nat×Loop))(B:kE):Dp p cf X B iA:=λ_ _ _ _ _ _ _ _ _ _ _ _ _ _ h=>h.elim
def atP{F:Fence}(hF:ph F)(ok:kG p cf){pc:vG}(a1:QZ p cf pc){D:bR}{B:kE}{yh:YH}(hY:Dp p cf D.dB B yh){Q:Exit->Act->World->Prop}(HP:∀ch g z pd y,dE p.w0 D pd y g.defers z->p.R (.panicked ch) z->Q (.panic ch) g z){C:cS}{id:Nat}{r:ce}{a:Act}{L:cZ}{k:XE->S->T}(hB:B.pW R N v L)
  (ab:H7 C (Y R.boxes)=U r)(a3:H8 cf C.toList=J)(a4:Dl C pc)(h:(mE cf (xz cf pc yh) C (k .normal) (λM=>k (.bj M)) r (R.zB C r) []).aT p N L)(H:az p.S0 p.w0 D cf.ty v N R a e)(hg:et cf.gl N)
  (hk:∀q w f g z c,bG R N v q w f->cM R.au L c->az p.S0 p.w0 D cf.ty f w q g z->(k .normal q).aT p w c->Q .normal g z)
  (a5:∀M q w f g z c,bG R N v q w f->cM R.au L c->az p.S0 p.w0 D cf.ty f w q g z->(k (.bj M) q).aT p w c->Q (.panic [{v:=M.den w f,recovered:=E}]) g z):
  (Code.region id C J).wpIn F X p.P Q a e:=by
 unfold H7 at ab;simp only at ab;split at ab;rename_i hc;simp only[aDc,beq_iff_eq] at hc;obtain⟨⟨⟨⟨⟨⟨⟨c1,c2⟩,c3⟩,c4⟩,c5⟩,c8⟩,c6⟩,c7⟩:=hc;simp only[aDh] at ab;rw[ab] at c2 c3 c4 c5 c6 c7 c8;have al:∀m∈r,∃(i:Nat)(m':OM),(fH (LZ C.toList (nG C.toList)) E J 0 (Y R.boxes) C.toList)[i]?=U m'/\aiY m m':=by
  intro m A;rw[<-ab] at A;obtain⟨m',h1,h2⟩:=ZD A;rw[H6] at h1;obtain⟨i,-,l⟩:=aEw.1 h1;exact⟨i,m',l,h2⟩
 have an:∀m∈r,C[m.j]?=U m.o:=by
  intro m A;obtain⟨i,m',l,u⟩:=al m A;have h1:=MU _ _ _ _ _ _ _ _ l;have h2:=ZB _ _ _ _ _ _ _ _ l;rw[u.j,u.o,h2,aDM];simpa using h1
 have hW:MN C (nG C.toList) (aFW C.size E) r:=by
  refine⟨an,λi l=> ?_,by simp,λj o ho hj=> ?_,ai2 c3,λxs m ys he G hd=> ?_, ?_,Q9 c4,λxs m ys he a6=>ai1 xs m ys (ab.trans he) a6⟩;constructor;intro _;have:=aDr.1 c7 i (by simpa using l);obtain⟨m,A,hj⟩:=aDL.1 this;exact⟨m,A,by simpa using hj⟩;intro _;simp[l];exfalso;have a7:j<C.size:=(aDD.1 ho).1;simp[a7] at hj;rcases ai3 c2 an xs m ys he G hd with h1|h1;cases h1;exact .inr h1;have:=ZE c5;rw[aFq] at this;exact this
 obtain⟨Rr,ag⟩:=H.room (lG C.toList);have Rb:az p.S0 p.w0 D cf.ty (v++aDq (lG C.toList) 0) N (R.zB C r) a {e with drawn:=e.drawn+1}:=by
  have Rd:=Rr.drew;refine⟨Rd.mem,Rd.fp,Rd.ei,Rd.eb,Rd.er,Rd.cP,by simp only[S.zB,I6];exact Rr.size,λt sv b=> ?_,Rd.dJ⟩;simp only[S.zB] at b;rw[uk,aDM] at b;cases hx:R.tmps[t]? with
  |none=>rw[hx] at b;cases b
  |some x=>
   rw[hx] at b;simp only[aDn,aDh] at b;split at b;exact .inl b.symm;subst b;exact Rd.tmps t x hx
 have ap:bG R N v (R.zB C r) N (v++aDq (lG C.toList) 0):=⟨ag.ext,ag.mono,ag.len,ag.au⟩;refine wpIn_region_any ok.Y9 ?_;refine atB a4 a1 hF ok HP (ai4 c1) (Kn:=Dm p (k .normal)) (Kp:=BG p (λM=>k (.bj M))) (Yp:=BH p cf C pc yh (k .normal) (λM=>k (.bj M))) (s0:=R.zB C r) (O0:=N) (V0:=v++aDq (lG C.toList) 0) (L0:=L)
  (λq w f g z c hl hL R' u=>hk q w f g z c (ap.trans hl) hL R' u) (λM q w f g z c hl hL R' u=>a5 M q w f g z c (ap.trans hl) hL R' u)
  ?_
  C.size _ r (R.zB C r) N _ a _ L c6 hW (λm A=>by
   obtain⟨i,m',l,u⟩:=al m A;rw[u.dr];exact ZC _ _ _ _ _ _ _ _ l) (λm A t b=> ?_) (ZF c8) (.inl ⟨λm A a8=> ?_, ?_⟩) (bG.refl _ _ _) (cM.refl _ _) Rb hg ?_
 intro L2 m a9 s2 O2 V2 a2 W2 yn bb R' hl hL R2 bf bg bk bl bo mm;obtain⟨br,fx,bs,bt⟩:=bg;refine hY D rfl L2 yn bb s2 _ _ O2 V2 a2 W2 R' (hB.go (ap.trans hl) hL) bt R2 bf (λM q w f z c a0 bx Rn u=> ?_) bl bo F hF mm;refine bk M q w f z c a0 bx Rn ?_;have af:=eK q m.o.dst M;refine FY ok.pt a9 _ _ w (by rw[af.1];exact Rn.ei) (by rw[af.2.1];exact Rn.eb) (by rw[af.2.2];exact Rn.er) u ?_ br;intro x hx;obtain⟨b0,b2⟩:=aD1.1 hx;obtain⟨hd,bJ⟩:=bs x b0;have hE:=a0.ext;refine⟨by rw[BE.dj hE.agree _ (by rw[R2.ei,R2.eb,R2.er];exact bJ)];exact hd, ?_⟩;rw[af.1,af.2.1,af.2.2,<-Rn.ei,<-Rn.eb,<-Rn.er];exact BE.du (by rw[<-R2.ei];exact hE.li) (by rw[<-R2.eb];exact hE.lb) (by rw[<-R2.er];exact hE.lr) _ bJ;have h1:=an m A;exact ai5 a3 (aDx (show C.toList[m.j]?=U m.o by simpa using h1)) b;obtain⟨i,m',l,u⟩:=al m A;rw[u.ix];exact atO _ _ _ R.boxes _ (by rw[<-u.o];exact a8) l;intro m A d hd;have b1:d∈C4 (r.dropLast.map (·.o)):=aEw.2 ⟨m.o,aDF.2 ⟨m,A,rfl⟩,hd⟩;unfold vP;simp only[S.zB];rw[uk,aDM];cases hx:R.tmps[d]? with
 |none=>exact .inl rfl
 |some x=>
  right;by_cases hb:(ago R (C4 (r.dropLast.map (·.o)))).contains d=J;exact⟨.any,by simp only[aDn,hb,if_true],by simp[SV.ba]⟩;refine⟨x,by simp only[aDn,hb];rfl, ?_⟩;have bJ:x.bd R.ni R.nb (Y R.rs) (aM R.boxes)=true:=by
   cases hh:x.bd R.ni R.nb (Y R.rs) (aM R.boxes);exfalso;apply hb;exact aDN.2 (aD1.2 ⟨b1,by simp[hx,hh]⟩);rfl
  exact SV.du (aDm _) (aDm _) (aDm _) ag.mono _ bJ
 refine FY ok.pt r _ [] N Rb.ei Rb.eb Rb.er h (λx hx=>by cases hx) (λm A=> ?_);obtain⟨i,m',l,u⟩:=al m A;rw[u.dr];exact ZC _ _ _ _ _ _ _ _ l;cases ab
def xO(p:Sp)(cf:bB)(n:Nat):Prop:=
 ∀(D:bR)(B:kE)(A:YH)(H:bT)(G:FuncId)(c:Code)(s:S)(k:XE->S->T)(L:cZ)(O:ac)(V:aj)(a:Act)(W:World)(Q:Exit->Act->World->Prop),
  Dp p cf D.dB B A->B.pW s O V L->D.rd=H.isSome->(H.isSome=J->iZ c=E)->(∃w,p.P.funcs[G]?=U w)->
  (eR cf n G c s A k).aT p O L->az p.S0 p.w0 D cf.ty V O s a W->et cf.gl O->
  (∀z N X v y,dE p.w0 D v y N.defers X->p.R (.panicked z) X->Q (.panic z) N X)->
  (∀e F M C N X x,bG s O V F M C->cM s.au L x->az p.S0 p.w0 D cf.ty C M F N X->(k e F).aT p M x->Q (e.to M C) N X)->
  jG H G p.P c Q a W
def Ra(p:Sp)(cf:bB)(n:Nat):Prop:=
 ∀(D:bR)(B:kE)(A:YH)(G:bT)(M:FuncId)(x:Code)(s:S)(k:XE->S->T)(L:cZ)(O:ac)(V:aj)(a:Act)(W:World)(Q:Exit->Act->World->Prop),
  Dp p cf D.dB B A->B.pW s O V L->D.rd=G.isSome->(G.isSome=J->iZ x=E)->(∃v,p.P.funcs[M]?=U v)->
  (∀u,(Code.first x).map (cf.loop M)≠U (.inv u))->
  (eR cf n M (.loop x) s A k).aT p O L->az p.S0 p.w0 D cf.ty V O s a W->et cf.gl O->
  (∀z N X t y,dE p.w0 D t y N.defers X->p.R (.panicked z) X->Q (.panic z) N X)->
  (∀e F H C N X w,bG s O V F H C->cM s.au L w->az p.S0 p.w0 D cf.ty C H F N X->(k e F).aT p H w->Q (e.to H C) N X)->
  MO G M p.P x Q n a W
def atQ(d:xO p cf X)(c:Ra p cf X):Ra p cf (X+1):=by
 intro D B o r q x s k L O V a W Q m l j i g b h R f HP F;unfold eR at h;simp only at h;show jG r q p.P x _ a W;refine d D B o r q x s _ L O V a W _ m l j i g h R f (λch M H pd y hd hR=>HP ch M H pd y hd hR) ?_;intro e C A z M H w N G u t;cases e with
 |normal=>exact c D B o r q x C k w A z M H Q m (l.go N G) j i g b t u (f.ext N.ext) HP (λe2 s2 O2 V2 a2 W2 L2 ab af R2 ag=>F e2 s2 O2 V2 a2 W2 L2 (N.trans ab) (G.trans af N.au) R2 ag)
 |ret=>exact F .ret C A z M H w N G u t
 |exit id=>exact F (.exit id) C A z M H w N G u t
 |bj v=>exact F (.bj v) C A z M H w N G u t
def az.back{D z:bR}{V M:aj}{P:ac}{F L:S}{a x:Act}{W H:World}(X:az v e D cf.ty V N R a W)(w:R.bd=J)
  (u:bG F N V L P M)(r:F.boxes=R.boxes)(Q:az v e z cf.ty M P L x H){D2:bR}{a2:Act}{C:rW}(B:a2.tmps=a.tmps)(q:dE e D2 C P.y a2.defers H):az v e D2 cf.ty M P {L with tmps:=R.tmps,pd:=C} a2 H:=by
 obtain⟨o,-⟩:=X.xD w;refine⟨Q.mem,Q.fp,Q.ei,Q.eb,Q.er,q,by rw[B];exact X.size,λt n h=> ?_,Q.dJ⟩;rw[B];rcases X.tmps t n h with G|G;exact .inl G;right;have A:=u.ext;rw[r] at A;rw[A.den (uh o h)];exact G
def az.enter{D P:bR}{V:aj}{a:Act}{W:World}(X:az v e D cf.ty V N R a W)(Q:ai)(n:Nat)(L:dE e P R.pd N.y [] W):
  az v e P cf.ty V N {R with tmps:=Q++aDq (n-Y Q) (.bK [])} {tmps:=(SV.aD N V Q).toArray++aFW (n-(SV.aD N V Q).toArray.size) undef,defers:=[]} W:=by
 refine⟨X.mem,X.fp,X.ei,X.eb,X.er,L,by simp,λt G h=> ?_,X.dJ⟩;right;simp only[aED,FJ];by_cases M:t<Y Q;rw[aDg M] at h;rw[aF9 (by simpa using M)];simp[qS,h];rw[aDk (by omega),aEm] at h;split at h;rename_i H;cases h;rw[Array.getElem?_append_right (by simp;omega)];simp only[aED,FJ,Array.getElem?_replicate];rw[if_pos H];rfl;cases h
def Rc(H:kG p cf)(hC:xO p cf X){D:bR}{B:kE}{yh:YH}(hY:Dp p cf D.dB B yh):QG p cf D B (jB cf (λf c s k=>eR cf X f c s yh k) yh):=by
 intro L g0 A s k kp O V a W z G h R r i af b;cases g0 with
 |yl yn=>exact λF hF m=>hY D rfl L yn A s k kp O V a W z G h R r i af b F hF m
 |fn g=>
 unfold jB at h;simp only at h;split at h;rename_i c nt rs ab;refine⟨H.BD g (.inr (by rw[ab];rfl)), ?_⟩;split at h;rename_i hb;simp only[S.dV,aDc] at hb;obtain⟨fn,hf,an,ap,bI⟩:=H.inl g c nt rs ab;refine MP hf an ?_;obtain⟨ms,m1,m0,m2,m3⟩:=R.cP.l8;have RE:=R.enter A nt (R.cP.enter m2 m3 E);rw[<-ap] at RE h;have a0:B.pW {s with tmps:=A++aDq (fn.ntmps-Y A) (.bK [])} O V L:=⟨⟨G.later.ext,G.later.mono,G.later.len,G.later.au⟩,G.QF⟩;refine hC ⟨ms++D.out,D.dB,E,[]⟩ B yh Z g c _ _ L O V _ W _ hY a0 rfl (λhh=>by cases hh) ⟨fn,hf⟩ h RE r ?_ ?_;intro ch N q pd y hA hR;obtain⟨a1,C,q0,o,x⟩:=hA.l8;rw[C] at hA;have w:=(hA.pX).I4 m0;rw[<-m1] at w;show LeavesInM Fence.wide 0 p.P fn N.tmps z N.defers (.panicking ch) q;rw[C];exact sx (by simp) (aEi.1 o).1 (λd M=>(x d (by simp[M])).1) (b ch _ pd y w (MT (H.QR ch) (λd M=>(x d (by simp[M])).2) hR));intro e s' j V' N q L' u hL RR Q;have ag:bG s O V {s' with tmps:=s.tmps} j V':=⟨u.ext,u.mono,u.len,u.au⟩;obtain⟨a1,C,q0,o,x⟩:=RR.cP.l8;have R2:=RR.pX C;have w:=R2.cP.I4 m0;rw[<-m1] at w;have RB:=R.back hb.1 u rfl R2 (D2:=D) (a2:=a) rfl w;have al:∀l,sd cf s' rs=U l->(k (one l) {s' with tmps:=s.tmps}).aT p j L'->LeavesInM Fence.wide 0 p.P fn N.tmps z N.defers .returning q:=by
  intro l t Q;rw[C];refine sx (by simp) (aEi.1 o).1 (λd M=>(x d (by simp[M])).1) ⟨_,ME R2 H.ln (by rw[bI];exact t), ?_⟩;exact i _ _ j V' _ L' ag hL RB Q
 cases e with
 |normal=>
  simp only[H9] at Q;split at Q;rename_i l t;exact al l t Q;exact Q.elim
 |ret=>
  simp only[H9] at Q;split at Q;rename_i l t;exact al l t Q;exact Q.elim
 |bj v=>
  show LeavesInM Fence.wide 0 p.P fn N.tmps z N.defers (.panicking _) q;rw[C];exact sx (by simp) (aEi.1 o).1 (λd M=>(x d (by simp[M])).1) (af v _ j V' _ L' ag hL RB Q)
 |exit id=>exact Q.elim
 exact h.elim;rename_i ab;exact ah3 H.pt (λg r=>H.BD g (.inl r)) D L g A s k O V a W z h R i b
def atS(b:Bool)(H:kG p cf){D:bR}{B:kE}{G:oq}(F:QG p cf D B G):QG p cf D B (XT b cf G):=by
 intro L y Q s k C O V a W P A h R X N z M;cases y with
 |yl x=>exact F L (.yl x) Q s k C O V a W P A h R X N z M
 |fn g=>
  cases b with
  |false=>exact F L (.fn g) Q s k C O V a W P A h R X N z M
  |true=>exact ah3 H.pt (λg X=>H.BD g (.inl X)) D L g Q s k O V a W P h R N M
end
