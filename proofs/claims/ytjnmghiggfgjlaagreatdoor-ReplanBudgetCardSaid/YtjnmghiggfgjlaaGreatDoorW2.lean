/- Part 2. -/
import Derived.Test.YtjnmghiggfgjlaaGreatDoorW1
import Derived.Maps.RangeRun
import Derived.RangeFuncSeq
import Derived.StillTailTactics
import Derived.RangeFuncIn
import Derived.RangeFuncLeaves
import Derived.LoopNIn
import Derived.LoopIn
set_option linter.all false
set_option maxRecDepth 100000
set_option maxHeartbeats 100000000
open Bool renaming and_eq_true->aC,false_eq_true->iW,not_eq_true'->jP,or_eq_true->lu,or_eq_false_iff->yN,and_self->Ci,eq_iff_iff->Jv,not_eq_false->Mc,true_and->Mi,and_true->Vx,or_eq_true_iff->avP,true_eq_false->aI0,true->J,false->E
open Nat renaming le_refl->cd,zero_add->jm,blt->ko,le_trans->md,zero_le->rO,add_zero->yR,le_of_eq->GG,testBit_or->Jx,lt_of_lt_of_le->QP,strongRecOn->QS,add_sub_cancel_left->Vi,lt_succ_self->akR,testBit_shiftLeft->avL
open List renaming cons_append->cU,range->dj,getElem?_eq_some_iff->dq,nil_append->du,getD_eq_getElem?_getD->dA,getElem?_eq_getElem->dB,map_cons->dG,replicate->ee,getElem?_map->eo,mem_cons->eu,mem_append->fg,mem_map->fw,getElem?_append_left->fT,length_append->ga,all_eq_true->gC,getElem?_append_right->jl,mem_of_getElem?->jA,pairwise_cons->jO,map_congr_left->kF,ext_getElem?->kS,any_eq_true->ny,length_cons->nX,pairwise_append->oC,map_nil->oD,length_map->oX,map_map->oY,length_eq_one_iff->pH,getElem?_take->pI,mem_filter->qg,mem_range->rN,getElem?_of_mem->sJ,eq_nil_of_length_eq_zero->uj,getElem?_cons_succ->vz,getElem?_drop->xj,nodup_append->xl,getElem?_set->yO,range'->yS,length_eq_zero_iff->AC,mem_cons_of_mem->AD,getElem?_set_ne->AE,getElem?_cons_zero->Cd,length_drop->Cf,drop_eq_getElem_cons->Ei,getElem?_eq_none_iff->Ej,mem_of_mem_drop->Ek,mem_append_left->El,getElem?_range->Em,zip_cons_cons->En,nodup_cons->Eo,mem_of_mem_take->GB,map_append->GF,take_of_length_le->Jp,contains_iff_mem->Jq,take_append_drop->Jr,append_nil->Jw,mem_or_eq_of_mem_set->Mb,size_toArray->Me,length_take->Mf,mem_filterMap->QQ,mem_of_find?_eq_some->Vg,getElem?_replicate->Vh,range_eq_range'->Vk,mem_singleton->Vn,mem_cons_self->Vo,all_cons->Vv,getElem?_set_self->abZ,replicate_one->ab5,range'_succ->ab6,foldl_cons->ab7,find?_some->ab8,of_mem_zip->ab9,drop_of_length_le->akH,sublist_cons_self->akI,mem_append_right->akK,map_set->akW,take_append_of_le_length->avF,drop_append_of_le_length->avG,getElem?_zip_eq_some->avH,drop_eq_nil_of_le->avI,mem_erase_of_ne->avO,filterMap_cons->avQ,length_set->av6,mapM_cons->awc,any_map->awg,Sublist->awh,dropLast_append_of_ne_nil->aIz,append_eq_append_iff->aIE,append_cancel_right->aIF,dropLast_sublist->aIN,getElem?_append->aIQ,set_cons_zero->aIZ,append_of_mem->aI1,length->Y
open Go.Result renaming andThen_ok->dC
open Go.Sem renaming run_bind->dD,run_pure->fu
open Option renaming map_some->gc,isSome_iff_exists->jz,getD_some->yP,isNone_iff_eq_none->akF,bind_some->akP,getD_none->av1,some->U,none->Z
open Go.Op renaming operands->ip,equalIn->Ep,equal->GH
open Array renaming getElem?_eq_some_iff->lH,ext'->nA,toList_map->yQ,getElem?_eq_getElem->Ma,replicate->QT,getElem?_setIfInBounds_ne->aIy,getElem?_append_left->aIC,mapM_eq_mapM_toList->aID,getElem?_replicate->aIG,mem_toList_iff->aIR,mem_filter->aI8
open Go.Region renaming wanted->lI,ready->um,binds->awf
open Go.World renaming cell?->oE,putObj_heap_other->uk,putObj->Mj,putObj_heap_same->avJ
open Int renaming toNat_natCast->rM
open List.Pairwise renaming nil->xk
open Go.Oper renaming semAt_eq->AF,uponIn_enter->Vp,uponIn_round->avX
open Go.Call renaming operands->Ch
open List.cons renaming injEq->GD
open Option.some renaming injEq->Ju
open Prod.mk renaming injEq->Jy
open List.Sublist renaming append->akL,refl->akN
open Go.IntKind renaming i64->I
namespace Go.Proofs.YtjnmghiggfgjlaaGreatDoor.Y
open Go.RowKit
noncomputable section
variable{v:TypeId}{h:aq}{X:Nat}{x:aj}{t:ar}{e:World}{R:S}{b:OM}{r:C}{l:Oper}
section
variable{c:ar}{q:World}{D:bT}{P:Program}{f:bv}{V:ar}{O:aj}{s:S}{a:Act}{W:World}
def amj{X:Type}(l:List X)(x y:X):(l++[x]).set (Y l) y=l++[y]:=by
 induction l with|nil=>rfl|cons z Q R=>simp[R]
theorem aA.AL(R:aA c q D f.ty V O s a W)(L:s.bd=J){t:TypeId}{X:aq}(v:C.dO s.ni s.nb (Y s.rs) (aK s.au) X=J):
  aA c q D f.ty (V++[W.heap.size]) O (s.AL (t,X)) a (W.alloc (j5 t (C.bK O V X)))/\bB s O V (s.AL (t,X)) O (V++[W.heap.size]):=by
 obtain⟨H,u⟩:=R.room 1;have r:(s.room 1).au.length=Y s.au+1:=by simp[S.room]
 have G:gt (s.room 1).au (Y s.au)=true:=by simp[gt,S.room]
 have ce:(s.room 1).eW X=true:=by
  simp only[S.eW,S.bd,aC] at L⊢;have p:aK (s.room 1).au=aK s.au:=by
   grind [aK,bS,S.room,ab5]
  have o:∀Q,C.rT s.ni s.nb (Y s.rs) Q (s.au++[Z])=C.rT s.ni s.nb (Y s.rs) Q s.au:=by
   intro Q;generalize s.au=l;induction l with|nil=>rfl|cons x n F=>cases x<;>simp[C.rT,F]
  grind [S.room,ab5]
 have N:=H.alloc G t X ce;have B:(V++ee 1 0).set (Y s.au) W.heap.size=V++[W.heap.size]:=by
  rw[<-R.gE,ab5];exact amj _ _ _
 have A:C.bK O (V++ee 1 0) X=C.bK O V X:=by
  apply alx
  grind [ad,ab5]
 rw[B,A] at N;have z:({((s.room 1).cX (Y s.au) t X) with lk:=s.lk}:S)=s.AL (t,X):=by
  simp only[S.cX,S.room,S.AL,ab5,amj]
 have M:=N.lk s.lk;rw[z] at M;refine⟨M,⟨⟨ja.refl _ _ _ _,cd _,cd _,cd _,λk y=> ?_⟩,λi m=> ?_,by simp[S.AL],cd _⟩⟩;have:k<Y V:=by
  obtain⟨b,w⟩:=jz.1 y;rw[R.gE];exact(dq.1 (ku.1 w)).1
 grind [ad]
 grind [aK,bS,S.AL]
def aA.Wz(R:aA c q D f.ty V O s a W){i:Nat}{Q:TypeId}{y cs':aq}(N:bP s.au i=U (Q,y)):
  aA c q D f.ty V O (s.cX i Q cs') a (W.putObj (ad V i) (j5 Q (C.bK O V cs'))):=by
 have x:=R.mem.box i Q y N;have u:ad V i<W.heap.size:=EV x;have w:i<Y s.au:=(dq.1 (ku.1 N)).1;have L:aK s.au i=true:=by simp[aK,N]
 have H:∀j,aK (s.au.set i (U (Q,cs'))) j=J->aK s.au j=true:=λj X=>by
  rcases(qA w).1 X with rfl|h;exact L;exact h
 have G:∀b,b≠ad V i->(W.putObj (ad V i) (j5 Q (C.bK O V cs'))).heap[b]?=W.heap[b]?:=λb h=>uk h
 refine⟨⟨⟨R.mem.base.os,R.mem.base.tape,R.mem.base.output,by simpa[Mj] using R.mem.base.size,λk F r=> ?_⟩,λj X=>R.mem.own j (H j X),λj k X F=>R.mem.inj j k (H j X) (H k F),λj M p X=> ?_,λk e B n m=> ?_⟩,by simpa[S.cX] using R.gE,R.ei,R.eb,R.er,R.dh.aw5 (λb o A l=> ?_),R.size,R.tmps,λk e B b g d q3=> ?_⟩;have aa:k≠ad V i:=by
  rintro rfl;rcases R.mem.own i L with h|h;omega
  grind
 rw[G k aa];exact R.mem.base.block k F r;by_cases z:j=i;subst z;rw[S.cX,EY w] at X;simp at X;obtain⟨rfl,rfl⟩:=X;exact avJ u;rw[S.cX,xH z] at X;rw[G _ (λh=>z (R.mem.inj j i (by simp[aK,X]) L h))];exact R.mem.box j M p X;obtain⟨ab,v⟩:=R.mem.ak k e B n m;exact⟨ab.J8 (λb N=>G b (λh=>v b N i L h.symm)) aw,λb N j X=>v b N j (H j X)⟩;rw[G b (λe=>by subst e;rw[x] at A;cases A;exact alZ l _ _ rfl)];exact A;have t:=R.eL k e B b g d q3;have M:=t.world (W':=W.putObj (ad V i) (j5 Q (C.bK O V cs'))) (G b (λh=>t.box i L h.symm));exact⟨M.own,M.mem,λj X=>M.box j (H j X),M.alone,M.inner⟩
def aA.adH(R:aA c q D f.ty V O s a W){i:Nat}{cs':aq}(X:bP s.au i=U (v,h))(_:∀Q N M,j5 v (C.bK O V h)≠ .cells Q N M):
  aA c q D f.ty V O (s.cX i v cs') a (W.putObj (ad V i) (j5 v (C.bK O V cs'))):=R.Wz X
def AY(L:bA)(X:Value×Value):uq->uq
 |[]=>[X]|p::r=>if zn p.1=L then X::r else p::AY L X r
theorem amk:∀{l:uq}{m:Nat}{p:Value×Value},gD m (l++[p])=gD m l++[⟨p.1,p.2,m+Y l⟩]
 |[],m,p=>by simp[gD]
 |x::r,m,p=>by
  simp only[cU,gD,amk (l:=r) (m:=m+1) (p:=p)];simp;omega
def aml{L:bA}{kv:Value×Value}:∀{l:uq}{m i:Nat},
  (pn L (gD m l) i=Z/\AY L kv l=l++[kv])\/∃j v p,pn L (gD m l) i=U (i+j,v)/\(gD m l)[j]?=U ⟨p.1,p.2,m+j⟩/\p∈l/\zn p.1=L/\(AY L kv l).length=Y l/\gD m (AY L kv l)=(gD m l).modify j λe=>{e with key:=kv.1,val:=kv.2}
 |[],m,i=>.inl ⟨rfl,rfl⟩
 |p::r,m,i=>by
  simp only[gD,pn,AY];by_cases h:zn p.1=L;right;rw[aH h,aH h];exact⟨0,p.2,p,rfl,rfl,aw,h,aw,by simp[gD]⟩;rw[aP h,aP h];rcases aml (l:=r) (m:=m+1) (i:=i+1) with⟨X,R⟩|⟨j,v,Q,X,R,N,M,H,G⟩;exact .inl ⟨X,by rw[R];rfl⟩;refine .inr ⟨j+1,v,Q,by rw[X];congr 2;omega,by simp only[vz,R];congr 2;omega,by simp[N],M,by simp[H], ?_⟩;simp only[gD,G,List.modify_succ_cons]
theorem axp(X:Bool)(l:bA):Instr.sameBits 10000 (gU X l) (gU X l)=true:=by
 cases X;simp[gU,Instr.sameBits];show Instr.sameBits (9999+1) (.agg _) (.agg _)=J;simp only[Instr.sameBits,beq_self_eq_true,Mi,gC]
 grind [En,Instr.sameBits]
def amm{k e:TypeId}{N:Bool}(A:P.underlying v=U (.map k e))(H:vU P k X N){b:Nat}{l:uq}(G:W.heap[b]?=U (qY l)){L:bA}(z:Y L=X)
  (y:∀p∈l,∃Q:bA,Y Q=X/\p.1=gU N Q)(R:Value):
  (Instr.mapUpdate v (.map (U b)) (gU N L) R).run P W=.ok () (W.putObj b (qY (AY L (gU N L,R) l))):=by
 have r:∀x∈gD 0 l,∃Q:bA,Y Q=X/\x.key=gU N Q:=λx q=>by
  obtain⟨p,M,F⟩:=adj q
  grind
 obtain⟨h,g⟩:=H.2 L (gD 0 l) W z r;have f:=MapKept.run_getObj_map (P:=P) (w:=W) G;have hs:=λo=>MapKept.run_setObj_map (P:=P) (w:=W) o G
 simp only[Instr.mapUpdate,dD,eY.gY A,dC,f,h,g];rcases aml (L:=L) (kv:=(gU N L,R)) (l:=l) (m:=0) (i:=0) with⟨M,F⟩|⟨j,u,p,M,F,d,B,h5,h6⟩
 grind [Mj,qY,amk]
 rw[M];obtain⟨Q,c,q2⟩:=y p d;have hl:Q=L:=by
  rw[q2,adh (λe=>c.trans (H.1 e))] at B;exact B
 subst hl;have aa:(((gD 0 l).toArray[0+j]?).map (·.key)).getD (gU N Q)=gU N Q:=by
  grind
 simp only[jm] at aa⊢
 grind [Instr.keyThatStays,axp,fu,dC,dD,Mj,qY]
end
def vV(O:aj)(X:Fx):Prop:=∀x∈X,x.1.ai O=x.2
theorem WA{N:Fx}(h:vV x N){b:BE}{v:Bool}(R:Rf N b=U v):b.ai x=v:=by
 unfold Rf at R;split at R;cases R;simp[BE.ai];cases Q:N.find? (λX=>X.1.aR b) with
 |none=>rw[Q] at R;cases R
 |some X=>
  rw[Q] at R;cases R;have M:=ab8 Q;rw[<-BE.bW _ _ M];exact h X (Vg Q)
def amn{Q:Fx}(h:vV x Q){b:BE}{v:Bool}(N:b.ai x=v):vV x ((b,v)::Q):=by
 intro X R;rcases eu.1 R with rfl|R;exact N;exact h X R
def Kf{D:bT}{H:Ty}{a:Act}{W:World}{N:aj}{V:ar}{M:Fx}(X:aA t e D H V x R a W)(G:ja x N (Y x.i) (Y x.b) (Y x.r))(h:vV x M):vV N (qn R M):=by
 intro Q F;obtain⟨B,L⟩:=qg.1 F;rw[<-X.ei,<-X.eb,<-X.er] at L;rw[BE.eh G _ L];exact h Q B
section
variable{f:bv}
def aA.drew{g:ar}{w:World}{D:bT}{V:ar}{O:aj}{s:S}{a:Act}{W:World}(R:aA g w D f.ty V O s a W):aA g w D f.ty V O s a {W with drawn:=W.drawn+1}:=
 ⟨⟨R.mem.base.drew,R.mem.own,R.mem.inj,R.mem.box,λk e X Q N=>⟨(R.mem.ak k e X Q N).1.J8 (λ_ _=>rfl) (cd _),(R.mem.ak k e X Q N).2⟩⟩,R.gE,R.ei,R.eb,R.er,R.dh.world (λ_ _ h _=>h),R.size,R.tmps,λk e X b Q N M=>(R.eL k e X b Q N M).world rfl⟩
end
section
variable{g:ar}{w:World}{D:bT}{P:Program}{f:bv}{V:ar}{O:aj}{s:S}{a:Act}{W:World}
def aA.amo(R:aA g w D f.ty V O s a W)(N:s.bd=J)(j:Int):aA g w D f.ty V (O.add (.i j)) {s with ni:=s.ni+1} a W:=by
 obtain⟨M,L⟩:=R.zo N;have Q:=ta s.au O (.i j) V;refine⟨⟨R.mem.base,R.mem.own,R.mem.inj,λi t H h=> ?_,R.mem.ak⟩,R.gE,by simp[aj.add,R.ei],R.eb,R.er,R.dh,R.size,λt G h=> ?_,λk e F b X B A=> ?_⟩;rw[Q.bK (sZ L h)];exact R.mem.box i t H h;rcases R.tmps t G h with X|X
 grind
 right;rw[Q.ai (xE M h)];exact X;have t:=R.eL k e F b X B A;exact⟨t.own,t.mem,t.box,t.alone,t.inner⟩
def aA.amp(R:aA g w D f.ty V O s a W)(M:s.bd=J){Q:Sh}{N:RV}(L:bG W f.ty (.mr Q) N):aA g w D f.ty V (O.add (.r N)) {s with rs:=s.rs++[.mr Q]} a W:=
 R.add M L (λb X=>by cases X) (λk e F b _ _ _ X=>by
  rcases X with X|⟨⟨t,H⟩,_⟩;cases X;cases H) (λe b G=>by cases G)
def amq{M:Sh}{Q:av}(h:∀X∈Q,J6 f.ty M X)(H:∀c∈bH f.ty (.mr M),nZ c=J):bG W f.ty (.mr M) (.mk (.slice Z (Y Q) (Y Q)) Q):=by
 refine bG.mr M Q (λi X R=>(h X (jA R)).len) (λi j X c k R L N=>(h X (jA R)).int j c k L N) (λi j X c R L N=>(h X (jA R)).bool j c L N) (λi j X c z k R L N=> ?_);have:=H _ (jA N);simp[nZ] at this
def adI{n:Nat}{X x:aE}:∀{R:av},x∈iD n X R->x=X\/x∈R
 |[],h=>by simp[iD] at h;exact .inl h
 |r::Q,h=>by
  simp only[iD] at h;split at h
  grind
  rcases eu.1 h with h|h
  grind
  rcases adI h with h|h
  grind
  grind
def amr{n:Nat}{X:aE}:∀{rows:av},(∀r∈rows,mj n ((X.take n).map λc=>bn c.val) r=E)->iD n X rows=rows++[X]
 |[],_=>rfl
 |r::R,h=>by
  simp only[iD];rw[aP (by rw[h r aw];simp),amr (rows:=R) (λx Q=>h x (AD _ Q))];rfl
def ams{n:Nat}{X va:Bool}(Q:X=E->n=1){R:aE}(M:G6 n R){L:bA}(H:(R.take n).map (λc=>bn c.val)=L):∀{N:av},(∀r∈N,G6 n r)->
  AY L (xD n X va R) (N.map (xD n X va))=(iD n R N).map (xD n X va)
 |[],_=>rfl
 |r::v,h=>by
  obtain⟨l,F,B,A⟩:=RP (ag:=X) Q (h r aw);have u:Y L=n:=by
   obtain⟨t,q,p⟩:=M
   grind
  have z:mj n L r=decide (l=L):=by
   simp only[mj,A];rw[Jp ae]
  simp only[dG,AY,iD,H,z];have y:zn (xD n X va r).1=l:=by
   simp only[xD,B];exact adh (λe=>F.trans (Q e))
  rw[y];by_cases G:l=L;simp[G];simp only[G,jB,decide_false,iW,dG];rw[ams Q M H λx w=>h x (by simp[w])]
def axq(t:TypeId):(Instr.makeMap t Z).run P W=.ok (.map (U W.heap.size)) (W.alloc (.map #[] 0)):=by
 simp[Instr.makeMap]
def axr(X:aA g w D f.ty V O s a W)(B:b.o.op=.makeMap v Z)(h:VH f b.o.dst s v=U R):
  ∃Q L H,tc P b.o a W Q L/\aA g w D f.ty H O R (a.put b.o.dst Q) L/\bB s O V R O H:=by
 unfold VH at h;split at h;rename_i k e n N am q u;split at h;rename_i M r;split at h;rename_i G;simp only[aC] at G;cases h;have A:C.dO s.ni s.nb (Y s.rs) (aK s.au) (JN M n N).2=true:=by
  unfold JN;split<;>simp[C.iY,C.bj,RE.bj,K.bj,BE.bj]
 obtain⟨F,z⟩:=X.AL G.1 (t:=(JN M n N).1) A;have y:j5 (JN M n N).1 (C.bK O V (JN M n N).2)=.map #[] 0:=by
  unfold JN;split;rw[G7];simp[RE.rv,qY,gD];rw[G8];simp[C.az,EP,qY,gD]
 rw[y] at F;refine⟨.map (U W.heap.size),W.alloc (.map #[] 0),V++[W.heap.size],.inl ?_, ?_,z.put _ _⟩;simp[execOp,B,axq];have:=F.put b.o.dst (.mp (Y s.au));have x:ad (V++[W.heap.size]) (Y s.au)=W.heap.size:=by simp[ad,<-X.gE]
 rw[C.ai,x] at this;exact this;cases h;cases h;cases h
def WB{k e:TypeId}{n:Nat}{R:Bool}{X:TI}{Q:aq}{r:RE}(h:Ct f s k e n R X Q=U r):
  Q=[.ak r,.int I (.c (n:Int)),.bool (.c R),.bool (.c X.d.isAgg)]/\r.pJ f.ty s ⟨k,e,n,R,X.d.isAgg⟩=J/\X.am.all nZ=true:=by
 unfold Ct at h
 grind
def amt{R:Bool}{x y z:K}(h:JF X R r=U (x,y,z)):r.cells.map (C.cg O)=([x.ai O,y.ai O,z.ai O].take X).map λu=>.mk (.int I u) []:=by
 unfold JF at h;split at h<;>first|(cases h;done)|(split at h<;>first|(cases h;done)|skip)
 all_goals
  rename_i Q;cases h;simp at Q
  grind [C.cells,C.cg]
def adJ:∀{am:eJ}{l:aq},nG f.ty s am l=J->am.all nZ=J->Y l=Y am/\(∀(j:Nat)(k:IntKind),am[j]?=U (.int k)->∃x,(l.map (C.cg O))[j]?=U (.mk (.int k x) []))/\(∀(j:Nat),am[j]?=U .bool->∃x,(l.map (C.cg O))[j]?=U (.mk (.bool x) []))/\(l.map (C.cg O)).map RV.val=C.az O V l
 |[],[],_,_=>⟨rfl,λj k h=>by simp at h,λj h=>by simp at h,rfl⟩|[],_::_,h,_=>by simp[nG] at h|_::_,[],h,_=>by simp[nG] at h
 |c::am,v::l,h,Q=>by
  simp only[nG,aC] at h;simp only[Vv,aC] at Q;obtain⟨N,H,G,M⟩:=adJ (am:=am) (l:=l) h.2 Q.2;have R:=h.1;unfold uv at R;split at R;rename_i k F e;have:k=F:=GI R;subst this;refine⟨by simp[N],λj L X=> ?_,λj X=> ?_,by simp[C.az,C.cg,C.ai,M]⟩;cases j with|zero=>simp at X;subst X;exact⟨e.ai O,rfl⟩|succ j=>simpa using H j L (by simpa using X)
  grind
  rename_i b;refine⟨by simp[N],λj L X=> ?_,λj X=> ?_,by simp[C.az,C.cg,C.ai,M]⟩
  grind
  cases j with|zero=>exact⟨b.ai O,rfl⟩|succ j=>simpa using G j (by simpa using X)
  simp[nZ] at Q;cases R
def axs{e:TypeId}{H:Bool}{M:TI}(l:ut f.ty v X H=J)(i:f.ty e=U M)(h:M.am.all nZ=J){R:C}{x y z:K}(F:JF X H r=U (x,y,z))(g:nG f.ty s M.am R.cells=J):
  J6 f.ty ⟨v,e,X,H,M.d.isAgg⟩ ((r.cells++R.cells).map (C.cg O)):=by
 obtain⟨b,B,A,w⟩:=MY (va:=M.d.isAgg) l i;obtain⟨q1,q2,q3,-⟩:=adJ (O:=O) (V:=[]) g h;have aa:=(adi (O:=O) (V:=[]) F).2;have t:=amt (O:=O) F;have q:(r.cells.map (C.cg O)).length=X:=by rw[t];simpa using aa
 have p:∀(j:Nat),((r.cells++R.cells).map (C.cg O))[j]?=if j<X then(r.cells.map (C.cg O))[j]? else(R.cells.map (C.cg O))[j-X]?:=by
  intro j;rw[GF,aIQ,q]
 have o:∀(j:Nat),(bH f.ty (.mr ⟨v,e,X,H,M.d.isAgg⟩))[j]?=if j<X then b[j]? else M.am[j-X]?:=by
  intro j;rw[B,aIQ,A]
 refine⟨?_,λj c kk Q N=> ?_,λj c Q N=> ?_⟩;rw[B,oX,ga,ga,A,q1];simp at q;omega;rw[p] at Q;rw[o] at N;split at Q;rename_i L;rw[aH L] at N;have:=w _ (jA N);cases this;rw[t,eo] at Q;cases m:([x.ai O,y.ai O,z.ai O].take X)[j]? with|none=>rw[m] at Q;cases Q|some u=>rw[m] at Q;cases Q;exact⟨u,rfl⟩
 rename_i L;rw[aP L] at N;obtain⟨u,G⟩:=q2 _ kk N;rw[G] at Q;cases Q;exact⟨u,rfl⟩;rw[p] at Q;rw[o] at N;split at Q;rename_i L;rw[aH L] at N;have:=w _ (jA N);cases this;rename_i L;rw[aP L] at N;obtain⟨u,G⟩:=q3 _ N;rw[G] at Q;cases Q;exact⟨u,rfl⟩
def axt{e:TypeId}{R Q:Bool}{N:TI}(L:ut f.ty v X R=J)(H:f.ty e=U N)(B:N.am.all nZ=J):∀c∈bH f.ty (.mr ⟨v,e,X,R,Q⟩),nZ c=true:=by
 obtain⟨A,G,z,F⟩:=MY (va:=Q) L H;intro c M;rw[G] at M;rcases fg.1 M with h|h;rw[F c h];rfl
 grind
def axu(W:World)(b:Nat)(o:Obj):ChangeMaps.setBlock W b o=W.putObj b o:=rfl
def MR.amu(g:ar)(w:World)(D:bT)(R:Ty)(V:ar)(O:aj)(s:S)(a:Act)(Q:World):MR->Prop
 |.ok X=>aA g w D R V O X a Q/\bB s O V X O V|.ah _ x X=>aA g w D R V (O.add (.r (gu x O))) X a Q/\bB s O V X (O.add (.r (gu x O))) V
def Sb(R:aA g w D f.ty V O s a W)(af:ju P f.ty){d:cG}{M X:C}{Q:MR}(h:GP f d s v r M X=U Q):
  ∃W',(Instr.mapUpdate v (r.ai O V) (M.ai O V) (X.ai O V)).run P W=.ok () W'/\Q.amu g w D f.ty V O s (a.put d undef) W':=by
 unfold GP at h;split at h;rename_i k e n L am q i ht;have hd:P.underlying v=U (.map k e):=(af _ _ ht).desc;have b:vU P k n L:=(af _ _ ht).key k e n L rfl;split at h;rename_i H xa xb xc bt A z g2 g3;have bg:=af _ _ z;split at h;cases h;rename_i a3;simp only[lu,jP,not_or,Mc] at a3;obtain⟨⟨aa,ce⟩,bk⟩:=a3;simp only[S.eW,aC] at ce;obtain⟨hb,ce⟩:=ce;obtain⟨a4,al⟩:=adi (O:=O) (V:=V) g2;have ab:=R.mem.box i bt A g3;have bl:=Wk (O:=O) (V:=V) (xG R) bk;split at h;rename_i fm;simp only[ge] at fm;subst fm;split at h;rename_i G br;split at h;rename_i a9;cases h;obtain⟨rfl,c1,c5⟩:=WB br;rw[G7] at ab;have ba:=J7 R c1;have bb:∀F∈(G.rv O).ah,G6 n F:=λF o=>MZ aa z (ba F o)
 have an:=amm (P:=P) hd b ab al (λp hp=>by
  obtain⟨F,o,rfl⟩:=fw.1 hp;obtain⟨l,q1,q2,-⟩:=RP b.1 (bb F o);exact⟨l,q1,q2⟩) (X.ai O V)
 have a0:=axs (O:=O) (s:=s) aa z c5 g2 a9;have bc:=amt (O:=O) g2;have ca:(M.cells.map (C.cg O)).length=n:=by rw[bc];simpa using al
 have bs:((M.cells++X.cells).map (C.cg O)).take n=M.cells.map (C.cg O):=by
  rw[GF,avF ae,Jp ae]
 have bx:((M.cells++X.cells).map (C.cg O)).drop n=X.cells.map (C.cg O):=by
  rw[GF,avG ae,akH ae];rfl
 have hL:(((M.cells++X.cells).map (C.cg O)).take n).map (λc=>bn c.val)=[xa.ai O,xb.ai O,xc.ai O].take n:=by
  rw[bs,bc];simp[bn]
 obtain⟨f1,-,-,f4⟩:=adJ (O:=O) (V:=V) a9 c5;have b0:xD n L H.d.isAgg ((M.cells++X.cells).map (C.cg O))=(gU L ([xa.ai O,xb.ai O,xc.ai O].take n),X.ai O V):=by
  obtain⟨l,q1,q2,q3⟩:=RP (ag:=L) b.1 (MZ aa z a0);have hl:l=[xa.ai O,xb.ai O,xc.ai O].take n:=by rw[<-q3,hL]
  have b1:rW H.d.isAgg (X.cells.map (C.cg O))=X.ai O V:=by
   rw[bl,rW,f4];cases ha:H.d.isAgg;have b2:Y X.cells=1:=by rw[f1];exact CI bg ha
   obtain⟨u,hu⟩:=pH.1 b2;simp only[iW,jB];rw[<-f4,hu];rfl;rfl
  simp only[xD,q2,hl,bx,b1]
 have ac:=ams (va:=H.d.isAgg) b.1 (MZ aa z a0) hL bb;rw[b0] at ac;have hh:bG W f.ty (.mr ⟨k,e,n,L,H.d.isAgg⟩) (gu (.ins (.ak G) n (M.cells++X.cells)) O):=by
  refine amq (λF bd=> ?_) (axt aa z c5);simp only[LE.ah] at bd;rcases adI bd with rfl|h;exact a0;exact ba F h
 have R1:=R.amp hb hh;have a1:∀cc tt ff,j5 xo (C.bK (O.add (.r (gu (.ins (.ak G) n (M.cells++X.cells)) O))) V [.ak G,.int I (.c (n:Int)),.bool (.c L),.bool (.c H.d.isAgg)])≠ .cells cc tt ff:=by
  intro cc tt ff hx;rw[G7] at hx;cases hx
 have R2:=R1.adH (cs':=[.ak (.v (Y s.rs)),.int I (.c (n:Int)),.bool (.c L),.bool (.c H.d.isAgg)]) (i:=i) g3 a1;have b3:(RE.v (Y s.rs)).rv (O.add (.r (gu (.ins (.ak G) n (M.cells++X.cells)) O)))=gu (.ins (.ak G) n (M.cells++X.cells)) O:=by
  simp[RE.rv,aj.rv,aj.add,<-R.er]
 rw[G7,b3] at R2;refine⟨W.putObj (ad V i) (qY ((gu (.ins (.ak G) n (M.cells++X.cells)) O).ah.map (xD n L H.d.isAgg))), ?_, ?_, ?_⟩;simp only[C.ai,a4];rw[an,ac];rfl;have:=R2.put d (.bI []);exact this;exact bB.put (s:=s) (s':={s with rs:=s.rs++[RK.mr ⟨k,e,n,L,H.d.isAgg⟩],au:=s.au.set i (U (xo,[.ak (.v (Y s.rs)),.int I (.c n),.bool (.c L),.bool (.c H.d.isAgg)]))}) ⟨ta _ _ _ _,λj hj=>(qA (dq.1 (ku.1 g3)).1).2 (.inr hj),aw,cd _⟩ d _;cases h;cases h;split at h;rename_i fm;simp only[aC,ge,jP] at fm;obtain⟨⟨rfl,rfl⟩,rfl⟩:=fm;split at h;rename_i x N bf;split at h;cases h;rename_i b4;cases h;rw[G8] at ab;obtain⟨p1,p2⟩:=M1 (O:=O) (V:=V) bf;rw[p1] at ab;have an:=amm (P:=P) hd b ab al (λp hp=>by
  obtain⟨u,hu,rfl⟩:=fw.1 hp;exact⟨[u.1],rfl,rfl⟩) (X.ai O V)
 have ac:∀(N:bA)(m:aq),¬N.contains x=J->Y N=Y m->AY [x] (gU E [x],X.ai O V) ((N.zip m).map λp=>(.int I p.1,p.2.ai O V))=((N.zip m).map λp=>(.int I p.1,p.2.ai O V))++[(.int I x,X.ai O V)]:=by
  intro N;induction N with
  |nil=>intro m _ _;simp[AY,gU]
  |cons y ys ih=>
   intro m hc hl;cases m with
   |nil=>simp at hl
   |cons u us=>
    have b5:¬y=x:=by
     intro e;subst e;simp at hc
    have b6:¬ys.contains x=true:=by
     intro e;simp at e hc;exact hc.2 e
    have:=ih us b6 (by simpa using hl);simp only[En,dG,AY,zn,GD,and_true,b5,jB,this,cU]
 have a1:∀cc tt ff,j5 vE (C.bK O V A)≠ .cells cc tt ff:=by
  intro cc tt ff hx;rw[G8] at hx;cases hx
 have R2:=R.adH (cs':=A++[.int I (.c x),X]) g3 a1;have b7:∀(l:aq)(N:bA),rQ l=U N->EP (C.az O V (l++[.int I (.c x),X]))=EP (C.az O V l)++[(.int I x,X.ai O V)]:=by
  intro l;induction l using rQ.induct with
  |case1=>intro N _;rfl
  |case2 k u Q ih=>
   intro N B;simp only[rQ] at B;cases o:rQ Q with
   |none=>rw[o] at B;cases B
   |some b8=>
    have:=ih b8 o;simp only[cU,C.az,EP] at this⊢;rw[this]
  |case3 l h1 h2=>intro N B;unfold rQ at B;split at B<;>first|(exact bE rfl h1)|(exact bE rfl (h2 _ _ _))|cases B
 rw[G8,b7 A N bf,p1] at R2;refine⟨W.putObj (ad V i) (qY ((N.zip (n7 A)).map (λp=>(Value.int I p.1,p.2.ai O V))++[(Value.int I x,X.ai O V)])), ?_,R2.put d (.bI []), ?_⟩;simp only[C.ai,a4];rw[an];have:[(K.c x).ai O,xb.ai O,xc.ai O].take 1=[x]:=rfl;rw[this,ac N _ b4 p2];exact bB.put (s:=s) (s':=s.cX i vE (A++[.int I (.c x),X])) ⟨oK.refl _ _ _,λj hj=>(qA (dq.1 (ku.1 g3)).1).2 (.inr hj),by simp[S.cX],cd _⟩ d _;cases h;cases h;cases h;cases h
end
section
variable{g:ar}{B:World}{D:bT}{P:Program}{f:bv}{V:ar}{O:aj}{s:S}{a:Act}{W:World}
def adK{X:Ty}{s:S}{n:Nat}:∀r:RE,r.kind X {s with ni:=n}=r.kind X s
 |.v k=>rfl|.cell r i j k=>by simp only[RE.kind,adK r]|.k v=>by cases v<;>rfl
theorem Ng(R:aA g B D f.ty V O s a W){Q:Sh}{r:RE}(h:r.pJ f.ty s Q=J):lenOf (r.rv O).val=(r.rv O).ah.length:=by
 unfold RE.pJ at h;rcases avP.1 h with h|h;have X:=qZ R aw (GI h);generalize r.rv O=N at X;cases X;rfl;unfold RE.nil at h;split at h;simp[RE.rv,lenOf];cases h
def axv(R:aA g B D f.ty V O s a W){e:TypeId}{L:Bool}{H:TI}{i:Nat}{c:K}(h:acq f s v e X L H i=U c):∃l,W.heap[ad V i]?=U (qY l)/\(Y l:Int)=c.ai O:=by
 unfold acq at h;split at h;rename_i G Q F;have A:=R.mem.box i G Q F;split at h;rename_i fm;simp at fm;subst fm;cases N:Ct f s v e X L H Q with
 |none=>rw[N] at h;cases h
 |some r=>
  rw[N] at h;cases h;obtain⟨rfl,z,y⟩:=WB N
  grind [G7,K.ai,Ng]
 split at h;rename_i fm;simp at fm;obtain⟨⟨rfl,rfl⟩,rfl⟩:=fm;cases M:rQ Q with
 |none=>rw[M] at h;cases h
 |some x=>
  rw[M] at h;cases h;rw[G8] at A;obtain⟨w,u⟩:=M1 (O:=O) (V:=V) M
  grind [K.ai]
 cases h;cases h
theorem Sc{t:Int}{c:K}{R:RE}:j5 yU (C.bK O V [.mp X,.int I (.c t),.int I c,.ak R])=.mapIter (U (ad V X)) (c.ai O).toNat ((R.rv O).ah.map qu).toArray (c.ai O).toNat:=by
 simp[j5,yU,xo,vE,C.bK,C.gg,C.ai,alr]
def axw(X:aA g B D f.ty V O s a W)(G:ju P f.ty){x:Operand}(F:b.o.op=.range v x)(A:a.eval x=(s.ev f.gl x).ai O V)(h:VJ f b.o.dst s v (s.ev f.gl x)=U R):
  ∃Q N M,tc P b.o a W Q N/\aA g B D f.ty M O R (a.put b.o.dst Q) N/\bB s O V R O M:=by
 unfold VJ at h;split at h;rename_i k e n ag am q i z y;have w:P.underlying v=U (.map k e):=(G _ _ z).desc;split at h;rename_i te af;split at h;rename_i c u;split at h;rename_i L;simp at L;obtain⟨⟨r,p⟩,j⟩:=L;cases h;obtain⟨l,d,aa⟩:=axv X u;have ab:C.dO s.ni s.nb (Y s.rs) (aK s.au) [.mp i,.int I (.c (v:Int)),.int I c,.ak (.k (.slice Z 0 0))]=true:=by
  simp[C.iY,C.bj,RE.bj,K.bj,j,p]
 obtain⟨H,L1⟩:=X.AL r (t:=yU) ab;rw[Sc,<-aa] at H;have ac:=run_range_map (P:=P) W v k e (ad V i) _ _ w d;refine⟨.pointer (U ⟨W.heap.size,0,Z⟩),W.alloc (.mapIter (U (ad V i)) (Y l) #[] (Y l)),V++[W.heap.size],.inl ?_, ?_,L1.put _ _⟩;simp only[execOp,F,A,y,C.ai,dD,ac,dC,fu];have:=H.put b.o.dst (.loc (Y s.au) 0);have ha:ad (V++[W.heap.size]) (Y s.au)=W.heap.size:=by simp[ad,<-X.gE]
 rw[C.ai,ha] at this;simpa[RE.rv] using this;cases h;cases h;cases h;cases h
def adL:∀{l:uq}{m:Nat}{e:MapEntry},e∈gD m l->∃(j:Nat)(p:Value×Value),l[j]?=U p/\e=⟨p.1,p.2,m+j⟩
 |[],m,e,h=>by simp[gD] at h
 |x::r,m,e,h=>by
  simp only[gD,eu] at h;rcases h with rfl|h;exact⟨0,x,rfl,rfl⟩;obtain⟨j,p,X,R⟩:=adL h;exact⟨j+1,p,by simpa using X,by rw[R];congr 1;omega⟩
def adM:∀{l:uq}{m j:Nat}{p:Value×Value},l[j]?=U p->(⟨p.1,p.2,m+j⟩:MapEntry)∈gD m l
 |[],m,j,p,h=>by simp at h|x::r,m,0,p,h=>by simp at h;subst h;simp[gD]
 |x::r,m,j+1,p,h=>by
  have:=adM (m:=m+1) (l:=r) (j:=j) (p:=p) (by simpa using h)
  grind [gD]
def amv:∀(n:Nat)(l:ar),(∀j,j<n->j∈l)->n<=Y l
 |0,_,_=>rO _
 |n+1,l,h=>by
  have X:=h n ae;have:=amv n (l.erase n) (λj R=>(avO ae).2 (h j ae))
  grind
theorem Nh(R:JO f=J):bH f.ty (.mr (zf f))=[.int I]:=by
 simp only[JO,aC,akF] at R;obtain⟨X,N⟩:=R;unfold ut at X;split at X;rename_i tk M;simp only[aC,ge] at X;obtain⟨c,Q⟩:=pH.1 X.1.1;have:=X.1.2;rw[Q] at this;simp at this
 grind [bH,zf,acj]
 cases X
def adN(X:JO f=J){R:aE}(h:J6 f.ty (zf f) R):∃x,R=[.mk (.int I x) []]:=by
 have Q:=h.len;rw[Nh X] at Q;obtain⟨c,rfl⟩:=pH.1 Q;obtain⟨x,N⟩:=h.int 0 c I rfl (by rw[Nh X];rfl)
 grind
def axx(X:JO f=J)(x:Int):J6 f.ty (zf f) [.mk (.int I x) []]:=by
 refine⟨by rw[Nh X];rfl,λj c k R Q=> ?_,λj c R Q=> ?_⟩
 grind [Nh]
 grind [Nh]
def WC{r:RE}{H:K}{X:aE}(G:(r.rv O).ah[(H.ai O).toNat]?=U X):∀{am:eJ}{j:Nat},am.all nZ=J->Y X=j+Y am->
  (∀(i:Nat)(k:IntKind),am[i]?=U (.int k)->∃m,X[j+i]?=U (.mk (.int k m) []))->(∀(i:Nat),am[i]?=U .bool->∃m,X[j+i]?=U (.mk (.bool m) []))->
  C.az O V (vH r H j am)=(X.drop j).map RV.val
 |[],j,_,R,_,_=>by rw[avI (by simp at R;omega)];rfl
 |.int k::am,j,Q,R,M,L=>by
  obtain⟨m,N⟩:=M 0 k rfl;have F:=WC G (am:=am) (j:=j+1) (by simpa[nZ] using Q) (by simp at R⊢;omega) (λi k h=>by have:=M (i+1) k (by simpa using h);rwa [show j+(i+1)=j+1+i from ae] at this) (λi h=>by have:=L (i+1) (by simpa using h);rwa [show j+(i+1)=j+1+i from ae] at this);have B:X.drop j=.mk (.int k m) []::X.drop (j+1):=by
   rw[yR] at N
   grind [Ei]
  rw[yR] at N
  grind [vH,GJ,C.az,C.ai,K.ai,aQ,RV.pf,bn]
 |.bool::am,j,Q,R,M,L=>by
  obtain⟨m,N⟩:=L 0 rfl;have F:=WC G (am:=am) (j:=j+1) (by simpa[nZ] using Q) (by simp at R⊢;omega) (λi k h=>by have:=M (i+1) k (by simpa using h);rwa [show j+(i+1)=j+1+i from ae] at this) (λi h=>by have:=L (i+1) (by simpa using h);rwa [show j+(i+1)=j+1+i from ae] at this);have B:X.drop j=.mk (.bool m) []::X.drop (j+1):=by
   rw[yR] at N
   grind [Ei]
  rw[yR] at N
  grind [vH,GJ,C.az,C.ai,BE.ai,aQ,RV.pf,jr]
 |.bz _ _::am,j,Q,_,_,_=>by simp[nZ] at Q
def adO{r:RE}{X:K}:∀{am:eJ}{j:Nat},(vH r X j am).length=Y am
 |[],j=>rfl|c::am,j=>by simp[vH,adO (am:=am)]
def amw{r:RE}{M:K}{R:aE}(F:(r.rv O).ah[(M.ai O).toNat]?=U R){N:Bool}(L:N=E->X=1)(B:G6 X R):(Mv r M X N).ai O V=rW N (R.take X):=by
 obtain⟨l,A,H⟩:=B;have z:(R.take X).length=X:=by rw[H];simpa using A
 have y:C.az O V ((dj X).map λj=>.int I (.cell r M j))=(R.take X).map RV.val:=by
  rw[oH,oY];apply kS;intro j;rw[eo,eo];by_cases G:j<X;rw[Em G];have x:j<Y l:=ae;have Q:(R.take X)[j]?=U (.mk (.int I l[j]) []):=by rw[H,eo,dB x];rfl
  have w:R[j]?=U (.mk (.int I l[j]) []):=by rw[pI,aH G] at Q;exact Q
  simp[Q,C.ai,K.ai,aQ,F,w,bn]
  grind
 rw[Mv,EU (λv=>by simpa using L v),y,rW];cases N;obtain⟨c,Q⟩:=pH.1 (z.trans (L rfl));rw[Q];rfl;rfl
def axy{rs:RE}{je:K}{j:Int}(N:je.ai O=j)(h:∀X∈(rs.rv O).ah,∀x,X=[.mk (.int I x) []]->x≠j)(Q:∀X∈(rs.rv O).ah,∃x,X=[RV.mk (.int I x) []]):(VK rs je).ai O=J/\∀r∈(rs.rv O).ah,mj 1 [j] r=false:=by
 have M:∀r∈(rs.rv O).ah,∀b c,mj 1 [j,b,c] r=false:=by
  intro r R b c;obtain⟨x,rfl⟩:=Q r R;have:=h _ R x rfl;simp[mj,bn,this]
 grind [VK,BE.ai,K.ai,jP,mo,mj,bn]
def amx(G:JO f=J)(R:aA g B D f.ty V O s a W)(z:s.bd=J){d:cG}{i t:Nat}{c:K}{Q:RE}(y:bP s.au X=U (yU,[.mp i,.int I (.c (t:Int)),.int I c,.ak Q]))(bY:Q.pJ f.ty s (zf f)=J)
  {N:K}{j:Nat}(w:N.ai O=j)(n:¬((Q.rv O).ah.map qu).contains j=J){kv v:C}{key val:Value}
  (m:∀F,kv.ai (O.add (.r F)) V=key)(l:∀F,v.ai (O.add (.r F)) V=val):
  (VK Q N).ai O=J/\aA g B D f.ty V (O.add (.r (gu (.ins (.ak Q) 1 [.int I N]) O))) (acr f d s X s.ni i t c kv v) (a.put d (.tuple #[.bool J,key,val])) (W.putObj (ad V X) (.mapIter (U (ad V i)) (c.ai O).toNat (((Q.rv O).ah.map qu).toArray.push j) (c.ai O).toNat)):=by
 have k:=J7 R bY;have b:∀M∈(Q.rv O).ah,∃x,M=[RV.mk (.int I x) []]:=λM L=>adN G (k M L)
 obtain⟨u1,u2⟩:=axy (O:=O) (rs:=Q) (je:=N) w (λM L x H=>by
  intro e;apply n;simp;refine⟨M,L, ?_⟩;subst H;simp[qu,bn,e]) b
 refine⟨u1, ?_⟩;have hh:bG W f.ty (.mr (zf f)) (gu (.ins (.ak Q) 1 [.int I N]) O):=by
  refine amq (λM u=> ?_) (λx H=>by rw[Nh G] at H;simp at H;subst H;rfl);simp only[LE.ah,dG,oD,C.cg] at u;rcases adI u with rfl|h;exact axx G _
  grind
 have aa:(gu (.ins (.ak Q) 1 [.int I N]) O).ah=(Q.rv O).ah++[[.mk (.int I j) []]]:=by
  simp only[gu,RV.mR,LE.ah,dG,oD,C.cg,w];refine amr λr L=> ?_
  simpa[bn] using u2 r L
 have R1:=R.amp z hh;have ab:∀cc tt ff,j5 yU (C.bK (O.add (.r (gu (.ins (.ak Q) 1 [.int I N]) O))) V [.mp i,.int I (.c (t:Int)),.int I c,.ak Q])≠ .cells cc tt ff:=by
  grind [Sc]
 have A:=R1.adH (cs':=[.mp i,.int I (.c (t:Int)),.int I c,.ak (.v (Y s.rs))]) (i:=X) y ab;have ac:(RE.v (Y s.rs)).rv (O.add (.r (gu (.ins (.ak Q) 1 [.int I N]) O)))=gu (.ins (.ak Q) 1 [.int I N]) O:=by
  simp[RE.rv,aj.rv,aj.add,<-R.er]
 obtain⟨a1,af⟩:=R.zo z;have p:=sZ af y;simp only[C.iY,C.bj,aC] at p;have ag:c.ai (O.add (.r (gu (.ins (.ak Q) 1 [.int I N]) O)))=c.ai O:=K.eh (ta s.au O (.r (gu (.ins (.ak Q) 1 [.int I N]) O)) V).agree _ p.2.2.1;rw[Sc,ac,aa,ag] at A;have al:((Q.rv O).ah++[[RV.mk (.int I (j:Int)) []]]).map qu=(Q.rv O).ah.map qu++[j]:=by simp[qu,bn]
 rw[al] at A;have o:=A.put d (.bI [.bool (.c J),kv,v]);have an:(C.bI [.bool (.c J),kv,v]).ai (O.add (.r (gu (.ins (.ak Q) 1 [.int I N]) O))) V=.tuple #[.bool J,key,val]:=by
  simp only[C.ai,C.az,m,l,BE.ai]
 rw[an] at o;have a0:((Q.rv O).ah.map qu).toArray.push j=((Q.rv O).ah.map qu++[j]).toArray:=aw;rw[a0];exact o
def amy{X:Type}:∀{l:List X}{m j:Nat},eV ((m+j:Nat):Int) ((yS m (Y l)).map λ(i:Nat)=>(i:Int)) l=l[j]?
 |[],m,j=>by simp[eV]
 |x::l,m,j=>by
  simp only[nX,ab6,dG,eV];cases j with
  |zero=>simp
  |succ j=>
   rw[aP ae,show m+(j+1)=m+1+j from ae,amy];simp
theorem amz{R:Type}{l:List R}{j:Nat}(h:X=Y l):eV (j:Int) (Ey X) l=l[j]?:=by
 have:=amy (l:=l) (m:=0) (j:=j);rw[jm] at this;rw[Ey,h,Vk];exact this
def axz(h:r.ai x V=r.ai O V):C.az x V r.cells=C.az O V r.cells:=by
 cases r
 case agg l=>simp only[C.ai,Value.agg.injEq] at h;simpa[C.cells] using h
 all_goals simp only[C.cells,C.az,h]
def amA(R:aA g B D f.ty V O s a W){X:TI}{e:TypeId}(G:eY P e X){x:K}{Q:bA}{N:aq}{M v:C}(h:VL X x Q N=U (M,v))(F:Y Q=Y N){O':aj}{j:Nat}(A:x.ai O'=j){k:Int}{u:C}(c:Q[j]?=U k)(L:N[j]?=U u)(z:u.ai O' V=u.ai O V):
  M.ai O' V=.int I k/\v.ai O' V=u.ai O V:=by
 unfold VL at h;split at h;rename_i t;split at h;rename_i y l r q;cases h;constructor;obtain⟨w,b,w2,-⟩:=ada (O:=O') r
 grind [amz,C.ai,K.ai]
 obtain⟨p,o,s2⟩:=Wi (O:=O') (V:=V) q;have H:=gC.1 t u (jA L);have n:Y u.cells=0+Y X.am:=by
  simp only[Co,aC,ge] at H;omega
 have m:X.d.isAgg=E->Y l=1:=λi=>by rw[p];exact CI G i
 rw[EU m,o u.cells (by rw[A,amz (by simp[F]),eo,L];rfl) n,List.drop_zero,axz z,Wk (xG R) H];cases h;cases h
def amB:∀{l:uq}{m:Nat},(gD m l).map (·.born)=yS m (Y l)
 |[],m=>rfl|x::r,m=>by simp[gD,amB (l:=r),ab6]
def axA{p:Sp}{L:dm}(hP:p.P=P)(R:aA g B D f.ty V O s a W)(ac:ju P f.ty){x:Operand}(ho:b.o.op=.next x E)(he:a.eval x=(s.ev f.gl x).ai O V){bc a4:S->T}{t:T}(h:acs f b.o.dst s (s.ev f.gl x) bc a4=U t)(hs:t.aN p O L):
  ∃v W' z w,tc P b.o a W v W'/\aA g B D f.ty V z w (a.put b.o.dst v) W'/\bB s O V w z V/\((z=O/\(a4 w).aN p O L)\/(bc w).aN p z L):=by
 unfold acs at h;split at h;rename_i q hx;split at h;rename_i bt i tz c F hq;split at h;cases h;rename_i b3;simp only[jP,Mc,aC,ge,dl] at b3;obtain⟨⟨⟨⟨⟨rfl,bf⟩,bY⟩,hb⟩,b4⟩,dd⟩:=b3;obtain⟨tn,rfl⟩:∃tn:Nat,tz=(tn:Int):=⟨tz.toNat,ae⟩;simp only[rM] at h;have bg:=R.mem.box _ _ _ hq;rw[Sc] at bg;have cu:=J7 R bY;have df:∀H∈(F.rv O).ah,∃x,H=[RV.mk (.int I x) []]:=λH hr=>adN bf (cu H hr)
 obtain⟨dk,bk⟩:=R.zo hb;split at h;rename_i k e n ag am qq dn cv b5 b6;have hd:P.underlying tn=U (.map k e):=(ac _ _ b5).desc;have hK:vU P k n ag:=(ac _ _ b5).key k e n ag rfl;split at h;rename_i M af;split at h;cases h;rename_i a9;have a9:ut f.ty k n ag=true:=by simpa using a9
 have al:=R.mem.box _ _ _ b6;have ba:=sZ bk b6;have model:∀(l:uq),W.heap[ad V i]?=U (qY l)->(Y l:Int)=c.ai O->
   (c.ai O<=lenOf (F.rv O).val/\tc P b.o a W (.tuple #[.bool E]) W)\/
   ∃(j:Nat)(kv:Value×Value)(G:World),l[j]?=U kv/\¬((F.rv O).ah.map qu).contains j=J/\(G=W\/G=W.drew)/\tc P b.o a W (.tuple #[.bool J,kv.1,kv.2]) (G.putObj (ad V q) (.mapIter (U (ad V i)) (c.ai O).toNat (((F.rv O).ah.map qu).toArray.push j) (c.ai O).toNat)):=by
  intro l hl bl;have hN:(c.ai O).toNat=Y l:=ae;rw[hN] at bg⊢;rcases run_next_at (P:=P) W b.o.type (ad V q) (ad V i) (Y l) (Y l) _ _ _ bg hl (λy hy=>by
   obtain⟨j,p,h1,h2⟩:=adL (by simpa using hy);rw[h2];have:=(dq.1 h1).1;simpa using this) (cd _) with⟨h0,hr⟩|⟨en,br,G,cx,hr⟩
  left;refine⟨?_,.inl ?_⟩;rw[Ng R bY,<-bl];have:=amv (Y l) ((F.rv O).ah.map qu) (λj hj=>by
   cases A:((F.rv O).ah.map qu).contains j with
   |true=>exact Jq.1 A
   |false=>
    exfalso;have cy:=adM (m:=0) (dB hj);have:(⟨(l[j]).1,(l[j]).2,0+j⟩:MapEntry)∈(leftOf (gD 0 l).toArray ((F.rv O).ah.map qu).toArray):=by
     unfold leftOf;rw[aI8];refine⟨by simpa using cy, ?_⟩;simp only[jm,jP];rw[<-A];simp
    have dr:=Array.size_pos_of_mem this;omega)
  simpa using this;simp only[execOp,ho,he,hx,C.ai,dD,hr,dC,fu];right;unfold leftOf at br;rw[aIR,aI8] at br;obtain⟨cA,b7⟩:=br;obtain⟨j,kv,hj,rfl⟩:=adL (by simpa using cA);simp only[jm] at b7 hr;refine⟨j,kv,G,hj, ?_,cx,.inl ?_⟩;simpa using b7;simp only[execOp,ho,he,hx,C.ai,dD,hr,dC,fu,axu]
 have b8:(W=W)->(c.ai O<=lenOf (F.rv O).val)->tc P b.o a W (.tuple #[.bool E]) W->(a4 (s.put b.o.dst (.bI [.bool (.c E)]))).aN p O L->∃v W' z w,tc P b.o a W v W'/\aA g B D f.ty V z w (a.put b.o.dst v) W'/\bB s O V w z V/\((z=O/\(a4 w).aN p O L)\/(bc w).aN p z L):=by
  intro _ _ cB cC;have:=R.put b.o.dst (.bI [.bool (.c E)]);exact⟨_,W,O,_,cB,this,(bB.refl _ _ _).put _ _,.inl ⟨rfl,cC⟩⟩
 have ca:∀G,(G=W\/G=W.drew)->aA g B D f.ty V O s a G:=by
  rintro G (rfl|rfl);exact R;exact R.drew
 split at h
 
 rename_i fm;simp only[ge] at fm;subst fm;split at h;rename_i r hr;split at h;rename_i bb;simp only[aC] at bb;cases h;obtain⟨rfl,c1,c5⟩:=WB hr;rw[G7] at al;have bq:c.ai O=((r.rv O).ah.length:Int):=by
  have:=K.bW _ _ bb.1;rw[this,K.ai,Ng R c1]
 have cc:=J7 R c1;simp only[VM,T.aN] at hs;rcases model _ al (by rw[bq];simp) with⟨Q,g2⟩|⟨j,kv,G,Q,g2,g3,g4⟩;exact b8 rfl Q g2 (hs.2 (decide_eq_true Q))
 ·rw[eo] at Q;cases an:(r.rv O).ah[j]? with
  |none=>rw[an] at Q;cases Q
  |some H=>
  rw[an] at Q;simp only[gc,dW] at Q;have cD:=(dq.1 an).1;have ch:=jA an;have cO:=MZ a9 af (cc H ch);have bs:=hs.1 (j:Int) ae ae;have R1:=(ca G g3).amo hb (j:Int);have aa:=(ta s.au O (.i (j:Int)) V).agree;simp only[C.iY,C.bj,aC] at ba;have ab:=sZ bk hq;simp only[C.iY,C.bj,aC] at ab;have a0:F.rv (O.add (.i (j:Int)))=F.rv O:=RE.sW aa _ ab.2.2.2.1;have bx:c.ai (O.add (.i (j:Int)))=c.ai O:=K.eh aa _ ab.2.2.1;have a3:(K.v s.ni).ai (O.add (.i (j:Int)))=(j:Int):=by simp[K.ai,aj.add,<-R.ei]
  have cW:∀X,(K.v s.ni).ai ((O.add (.i (j:Int))).add (.r X))=(j:Int):=λX=>a3
  have c0:∀X,r.rv ((O.add (.i (j:Int))).add (.r X))=r.rv O:=λX=>by
   have a1:=RE.sW aa _ ba.1;have b0:=(ta s.au (O.add (.i (j:Int))) (.r X) V).agree;have a2:=RE.sW (b0.mono (by simp[aj.add]) (cd _) (cd _)) r ba.1;rw[a2,a1]
  have cl:∀X,(r.rv ((O.add (.i (j:Int))).add (.r X))).ah[((K.v s.ni).ai ((O.add (.i (j:Int))).add (.r X))).toNat]?=U H:=λX=>by
   rw[c0,cW];simpa using an
  obtain⟨kc,r1,r2,r3⟩:=MY (va:=M.d.isAgg) a9 af;have b1:=cc H ch;have bl:Y H=n+Y M.am:=by rw[b1.len,r1,ga,r2]
  have cn:∀(N:Nat)(ct:CT),M.am[N]?=U ct->(bH f.ty (.mr ⟨k,e,n,ag,M.d.isAgg⟩))[n+N]?=U ct:=λN ct hm=>by
   rw[r1,jl ae,r2,show n+N-n=N from ae];exact hm
  have co:∀(N:Nat)(ct:CT),M.am[N]?=U ct->∃c,H[n+N]?=U c:=λN ct hm=>by
   have:N<Y M.am:=(dq.1 hm).1;exact⟨H[n+N]' ae,dB _⟩
  have c2:M.d.isAgg=E->(vH r (.v s.ni) n M.am).length=1:=λha=>by rw[adO];exact CI (ac _ _ af) ha
  have c3:∀X,(ur M.d.isAgg (vH r (.v s.ni) n M.am)).ai ((O.add (.i (j:Int))).add (.r X)) V=rW M.d.isAgg (H.drop n):=λX=>by
   rw[EU c2,WC (cl X) c5 bl (λN kk hm=>by
    obtain⟨c,A⟩:=co N _ hm;obtain⟨x',b2⟩:=b1.int (n+N) c kk A (cn N _ hm);exact⟨x',by rw[A,b2]⟩) (λN hm=>by
    obtain⟨c,A⟩:=co N _ hm;obtain⟨x',b2⟩:=b1.bool (n+N) c A (cn N _ hm);exact⟨x',by rw[A,b2]⟩),rW]
   cases c4:M.d.isAgg;have h1:=CI (ac _ _ af) c4;obtain⟨c,A⟩:=pH.1 (show(H.drop n).length=1 from bZ);rw[A];rfl;rfl
  obtain⟨u1,u2⟩:=amx (d:=b.o.dst) (s:={s with ni:=s.ni+1}) (kv:=Mv r (.v s.ni) n ag) (v:=ur M.d.isAgg (vH r (.v s.ni) n M.am)) (key:=rW ag (H.take n)) (val:=rW M.d.isAgg (H.drop n)) bf R1 b4 hq (by simpa only[RE.pJ,adK] using bY) a3 (by rw[a0];exact g2) (λX=>amw (cl X) hK.1 cO) c3;rw[a0,bx] at u2;subst Q;refine⟨_,_,_,_,g4,u2, ?_,.inr ?_⟩;refine bB.put (s:=s) (s':={s with ni:=s.ni+1,rs:=s.rs++[RK.mr (zf f)],au:=s.au.set q _}) ⟨(ta s.au O (.i (j:Int)) V).trans (ta s.au _ _ V) (λ_ h=>h),λj hj=>(qA (dq.1 (ku.1 hq)).1).2 (.inr hj),aw,cd _⟩ _ _;exact bs u1
 cases h;cases h;split at h
 
 rename_i fm;simp only[aC,ge,jP] at fm;obtain⟨⟨rfl,rfl⟩,rfl⟩:=fm;split at h;rename_i ks c6;split at h;rename_i bb;split at h;rename_i c7 v0 c8;cases h;rw[G8] at al;obtain⟨p1,p2⟩:=M1 (O:=O) (V:=V) c6;rw[p1] at al;have bq:c.ai O=(Y ks:Int):=by
  have:=K.bW _ _ bb;rw[this,K.ai]
 simp only[VM,T.aN] at hs;rcases model _ al (by rw[bq];simp[p2]) with⟨Q,g2⟩|⟨j,kv,G,Q,g2,g3,g4⟩;exact b8 rfl Q g2 (hs.2 (decide_eq_true Q))
 ·rw[eo] at Q;cases hz:(ks.zip (n7 cv))[j]? with
  |none=>rw[hz] at Q;cases Q
  |some kp=>
  rw[hz] at Q;simp only[gc,dW] at Q;obtain⟨z1,z2⟩:=avH.1 hz;have c9:∀{l:aq}{jj:Nat}{u:C},C.dO (Y O.i) (Y O.b) (Y O.r) (aK s.au) l=J->(n7 l)[jj]?=U u->u.bd (Y O.i) (Y O.b) (Y O.r) (aK s.au)=true:=by
   intro l;induction l using n7.induct with
   |case1 k v r ih=>
    intro jj u ce hu;simp only[C.iY,aC] at ce;simp only[n7] at hu;cases jj with|zero=>simp at hu;subst hu;exact ce.2.1|succ jj=>exact ih ce.2.2 (by simpa using hu)
   |case2 l h1=>
    intro jj u ce hu;unfold n7 at hu;split at hu;exact bE rfl (h1 _ _ _);simp at hu
  have cD:j<Y ks:=(dq.1 z1).1;have bs:=hs.1 (j:Int) ae ae;have R1:=(ca G g3).amo hb (j:Int);have aa:=(ta s.au O (.i (j:Int)) V).agree;have ab:=sZ bk hq;simp only[C.iY,C.bj,aC] at ab;have a0:F.rv (O.add (.i (j:Int)))=F.rv O:=RE.sW aa _ ab.2.2.2.1;have bx:c.ai (O.add (.i (j:Int)))=c.ai O:=K.eh aa _ ab.2.2.1;have a3:(K.v s.ni).ai (O.add (.i (j:Int)))=(j:Int):=by simp[K.ai,aj.add,<-R.ei]
  have cp:=c9 ba z2;have dc:∀X,kp.2.ai ((O.add (.i (j:Int))).add (.r X)) V=kp.2.ai O V:=λX=>by
   have b0:=(ta s.au (O.add (.i (j:Int))) (.r X) V).agree;rw[C.eh (b0.mono (by simp[aj.add]) (cd _) (cd _)) (λ_ _=>rfl) _ cp,C.eh aa (λ_ _=>rfl) _ cp]
  have cs:=λX=>amA R (ac _ _ af) c8 p2 (O':=(O.add (.i (j:Int))).add (.r X)) (j:=j) a3 z1 z2 (dc X)
  obtain⟨u1,u2⟩:=amx (d:=b.o.dst) (s:={s with ni:=s.ni+1}) (kv:=c7) (v:=v0) (key:=.int I kp.1) (val:=kp.2.ai O V) bf R1 b4 hq (by simpa only[RE.pJ,adK] using bY) a3 (by rw[a0];exact g2) (λX=>(cs X).1) (λX=>(cs X).2);rw[a0,bx] at u2;subst Q;refine⟨_,_,_,_,g4,u2, ?_,.inr ?_⟩;refine bB.put (s:=s) (s':={s with ni:=s.ni+1,rs:=s.rs++[RK.mr (zf f)],au:=s.au.set q _}) ⟨(ta s.au O (.i (j:Int)) V).trans (ta s.au _ _ V) (λ_ h=>h),λj hj=>(qA (dq.1 (ku.1 hq)).1).2 (.inr hj),aw,cd _⟩ _ _;exact bs u1
 cases h;cases h;cases h;cases h;cases h;cases h;cases h;cases h
def axB{p:Sp}{L:dm}(R:aA g B D f.ty V O s a W)(u:ju P f.ty){x:Operand}(ho:b.o.op=.entry x)(he:a.eval x=(s.ev f.gl x).ai O V){bb:S->T}{t:T}(h:acv f b.o.dst s (s.ev f.gl x) bb=U t)(A:t.aN p O L):
  ∃v s',tc P b.o a W v W/\aA g B D f.ty V O s' (a.put b.o.dst v) W/\bB s O V s' O V/\(bb s').aN p O L:=by
 unfold acv at h;split at h;rename_i q hx;split at h;rename_i bt i tz c Q hq;split at h;cases h;rename_i bc;simp only[jP,Mc,aC,ge,dl] at bc;obtain⟨⟨⟨⟨rfl,b2⟩,bY⟩,hb⟩,cx⟩:=bc;obtain⟨tn,rfl⟩:∃tn:Nat,tz=(tn:Int):=⟨tz.toNat,ae⟩;simp only[rM] at h;have af:=R.mem.box _ _ _ hq;rw[Sc] at af;have b3:=J7 R bY;have model:∀(l:uq),W.heap[ad V i]?=U (qY l)->(Y l:Int)=c.ai O->(acu c Q).ai O=J->
   ∃(j:Nat)(kv:Value×Value),l[j]?=U kv/\(xx Q).ai O=j/\tc P b.o a W (.tuple #[kv.1,kv.2]) W:=by
  intro l hl bd b4;obtain⟨a1,b5⟩:=CQ b4;obtain⟨a1,b6⟩:=CQ a1;have h1:=AX a1;have h2:=R7 b6;obtain⟨h3,h4⟩:=CQ b5;have h3:=AX h3;rw[ET] at h4;have h4:(xx Q).ai O<c.ai O:=by simpa[fk] using h4
  simp only[K.ai] at h1 h2 h3;rw[Ng R bY] at h1 h2;have hN:(c.ai O).toNat=Y l:=ae;rw[hN] at af;obtain⟨aa,a3,al⟩:∃aa a3,(Q.rv O).ah=aa++[a3]:=⟨_,_,(List.dropLast_concat_getLast (by intro e;rw[e] at h1;simp at h1)).symm⟩;obtain⟨z,y⟩:=adN b2 (b3 a3 (by rw[al];simp));have b7:IntKind.i64.wrap (((Q.rv O).ah.length:Int)-1)=((Q.rv O).ah.length:Int)-1:=by
   simp[IntKind.wrap,IntKind.bits,IntKind.signed];omega
  have bf:(xx Q).ai O=z:=by
   simp only[xx,K.ai,be,Ng R bY,b7,aQ];have:(((Q.rv O).ah.length:Int)-1).toNat=Y aa:=by rw[al];simp
   rw[this,al,y];simp[dA,bn]
  rw[bf] at h3 h4;obtain⟨j,rfl⟩:∃j:Nat,z=(j:Int):=⟨z.toNat,ae⟩;have bg:j<Y l:=ae;refine⟨j,l[j],dB bg,bf,.inl ?_⟩;have b8:((Q.rv O).ah.map qu).toArray=((aa.map qu).toArray).push j:=by
   rw[al,y];simp[qu,bn]
  rw[b8] at af;have bk:=adM (m:=0) (dB bg);rw[jm] at bk;have hr:=run_entry_at (P:=P) W (ad V q) (ad V i) (Y l) ((aa.map qu).toArray) (gD 0 l).toArray (Y l) ⟨(l[j]).1,(l[j]).2,j⟩ af hl (by simpa using bk) (by
   simp only[amB];exact List.nodup_range' ..)
  simp only[execOp,ho,he,hx,C.ai,dD,hr,dC,fu]
 split at h;rename_i k e n ag am qq cy ca bl cc;have hd:P.underlying tn=U (.map k e):=(u _ _ bl).desc;have hK:vU P k n ag:=(u _ _ bl).key k e n ag rfl;split at h;rename_i N ab;split at h;cases h;rename_i an;have an:ut f.ty k n ag=true:=by simpa using an
 have ac:=R.mem.box _ _ _ cc;split at h;rename_i fm;simp only[ge] at fm;subst fm;split at h;rename_i r hr;split at h
 ·rename_i a4;cases h;obtain⟨rfl,c1,c5⟩:=WB hr;rw[G7] at ac;have bq:c.ai O=((r.rv O).ah.length:Int):=by
   have:=K.bW _ _ a4;rw[this,K.ai,Ng R c1]
  have br:=J7 R c1;obtain⟨hn,A⟩:=A;obtain⟨j,kv,M,g2,g3⟩:=model _ ac (by rw[bq];simp) hn;rw[eo] at M;cases a0:(r.rv O).ah[j]? with
  |none=>rw[a0] at M;cases M
  |some G=>
  rw[a0] at M;simp only[gc,dW] at M;have bs:=jA a0;have ch:=MZ an ab (br G bs);have bx:(r.rv O).ah[((xx Q).ai O).toNat]?=U G:=by rw[g2];simpa using a0
  obtain⟨kc,r1,r2,r3⟩:=MY (va:=N.d.isAgg) an ab;have a9:=br G bs;have bd:Y G=n+Y N.am:=by rw[a9.len,r1,ga,r2]
  have b0:∀(X:Nat)(w:CT),N.am[X]?=U w->(bH f.ty (.mr ⟨k,e,n,ag,N.d.isAgg⟩))[n+X]?=U w:=λX w H=>by
   rw[r1,jl ae,r2,show n+X-n=X from ae];exact H
  have b1:∀(X:Nat)(w:CT),N.am[X]?=U w->∃c,G[n+X]?=U c:=λX w H=>by
   have:X<Y N.am:=(dq.1 H).1;exact⟨G[n+X]' ae,dB _⟩
  have cl:N.d.isAgg=E->(vH r (xx Q) n N.am).length=1:=λha=>by rw[adO];exact CI (u _ _ ab) ha
  have cn:(ur N.d.isAgg (vH r (xx Q) n N.am)).ai O V=rW N.d.isAgg (G.drop n):=by
   rw[EU cl,WC bx c5 bd (λX kk H=>by
    obtain⟨c,F⟩:=b1 X _ H;obtain⟨x',ba⟩:=a9.int (n+X) c kk F (b0 X _ H);exact⟨x',by rw[F,ba]⟩) (λX H=>by
    obtain⟨c,F⟩:=b1 X _ H;obtain⟨x',ba⟩:=a9.bool (n+X) c F (b0 X _ H);exact⟨x',by rw[F,ba]⟩),rW]
   cases co:N.d.isAgg;have h1:=CI (u _ _ ab) co;obtain⟨c,F⟩:=pH.1 (show(G.drop n).length=1 from bZ);rw[F];rfl;rfl
  have cp:=amw (V:=V) bx hK.1 ch;have R2:=R.put b.o.dst (.bI [Mv r (xx Q) n ag,ur N.d.isAgg (vH r (xx Q) n N.am)]);simp only[C.ai,C.az,cp,cn] at R2;subst M;exact⟨_,_,g3,R2,(bB.refl _ _ _).put _ _,A⟩
 cases h;cases h;split at h;rename_i fm;simp only[aC,ge,jP] at fm;obtain⟨⟨rfl,rfl⟩,rfl⟩:=fm;split at h;rename_i ks cs;split at h;rename_i a4;split at h
 ·rename_i cu v0 cv;cases h;rw[G8] at ac;obtain⟨p1,p2⟩:=M1 (O:=O) (V:=V) cs;rw[p1] at ac;have bq:c.ai O=(Y ks:Int):=by
   have:=K.bW _ _ a4;rw[this,K.ai]
  obtain⟨hn,A⟩:=A;obtain⟨j,kv,M,g2,g3⟩:=model _ ac (by rw[bq];simp[p2]) hn;rw[eo] at M;cases y:(ks.zip (n7 ca))[j]? with
  |none=>rw[y] at M;cases M
  |some kp=>
  rw[y] at M;simp only[gc,dW] at M;obtain⟨z1,z2⟩:=avH.1 y;obtain⟨e1,e2⟩:=amA R (u _ _ ab) cv p2 (O':=O) g2 z1 z2 rfl;have R2:=R.put b.o.dst (.bI [cu,v0]);simp only[C.ai,C.az,e1,e2] at R2;subst M;exact⟨_,_,g3,R2,(bB.refl _ _ _).put _ _,A⟩
 cases h;cases h;cases h;cases h;cases h;cases h;cases h;cases h
def amC{p:Sp}{L:dm}(R:aA g B D f.ty V O s a W)(ac:ju P f.ty){t2:TypeId}{z:BinOp}{N:Bool}{x y:Operand}(l:b.o.op=.binOp z v x y t2)(af:(z=.eql/\N=E)\/(z=.neq/\N=J))(he:a.eval x=(s.ev f.gl x).ai O V)(ag:a.eval y=(s.ev f.gl y).ai O V){j:S->T}{i:T}(h:VN f b.o.dst s v N (s.ev f.gl x) (s.ev f.gl y) j=U i)(w:i.aN p O L):
  ∃X u,tc P b.o a W X W/\aA g B D f.ty V O u (a.put b.o.dst X) W/\bB s O V u O V/\(j u).aN p O L:=by
 unfold VN at h;split at h;rename_i e am q r ht hx hy;split at h;rename_i hk;cases h;have hd:P.underlying v=U (.slice e):=(ac _ _ ht).desc;have H:=qZ R aw hk;simp only[T.aN] at w;obtain⟨A,n,c,M⟩:∃A n c,r.ai O=.slice A n c:=by
  have:∃A n c,(r.rv O).val=.slice A n c:=by
   generalize r.rv O=G at H;cases H;simp
  exact this
 have al:(K.len r).ai O=n:=by simp only[K.ai];unfold RE.ai at M;rw[M];rfl
 have d:(GH v (.slice A n c) (.slice Z 0 0)).run P W=.ok A.isNone W:=by
  have h0:GH v (.slice A n c) (.slice Z 0 0)=Ep (9999+1) v (.slice A n c) (.slice Z 0 0):=rfl;rw[h0,Ep,dD,eY.gY hd,dC];cases A<;>rfl
 have aa:(execOp a.eval b.o).run P W=.ok (.value (.bool (if N then !A.isNone else A.isNone))) W:=by
  simp only[execOp,l,he,ag,hx,hy,C.ai,M];have an:RE.ai O (.k (.slice Z 0 0))=.slice Z 0 0:=rfl;rw[an];rcases af with⟨rfl,rfl⟩|⟨rfl,rfl⟩;simp[eqGuard,binOp,d];simp[eqGuard,binOp,d]
 cases F:A with
 |none=>
  have hn:n=0:=by
   unfold RE.ai at M;have h0:∀{G:RV},bG W f.ty (.sl e) G->G.val=.slice A n c->A=Z->n=0:=by
    intro G H M F;cases H with
    |sl e A' a3 a4 ab h1 h2 h3 hi hb l=>
     simp at M;obtain⟨rfl,rfl,rfl⟩:=M;subst F;cases ab with
     |nil=>simp at h1;omega
     |cons a0 ab=>
      obtain⟨-,Q,a9,a1,-⟩:=h3 0 a0 rfl;cases a1
   grind
  have:=w.2 (by show decide ((K.len r).ai O<=(K.c 0).ai O)=J;rw[al,hn];rfl);refine⟨_,_,.inl aa, ?_,(bB.refl _ _ _).put _ (.bool (.c (!N))),this⟩;have M:(if N then !A.isNone else A.isNone)= !N:=by rw[F];cases N<;>rfl
  rw[M];exact R.put b.o.dst (.bool (.c (!N)))
 |some A0=>
  have:=w.1 (by simp[BE.ai]);refine⟨_,_,.inl aa, ?_,(bB.refl _ _ _).put _ (.bool (.c N)),this⟩;have M:(if N then !A.isNone else A.isNone)=N:=by rw[F];cases N<;>rfl
  rw[M];exact R.put b.o.dst (.bool (.c N))
 cases h;cases h
theorem aA.cells{x:Ty}{i:Nat}{Q:TypeId}{L H:aq}(R:aA g B D x V O (s.cX i Q L) a W)(F:i<Y s.au)(h:C.bK O V L=C.bK O V H):aA g B D x V O (s.cX i Q H) a W:=by
 have G:∀j,aK (s.au.set i (U (Q,H))) j=aK (s.au.set i (U (Q,L))) j:=λj=>by
  rw[Jv,qA F,qA F]
 have w:(s.cX i Q H).au=s.au.set i (U (Q,H)):=rfl;have N:(s.cX i Q L).au=s.au.set i (U (Q,L)):=rfl;refine⟨⟨R.mem.base,λj X=>R.mem.own j (by rw[N,<-G];exact X),λj k X v=>R.mem.inj j k (by rw[N,<-G];exact X) (by rw[N,<-G];exact v),λj t u M=> ?_,λk e A z y=>⟨(R.mem.ak k e A z y).1,λb M j X=>(R.mem.ak k e A z y).2 b M j (by rw[N,<-G];exact X)⟩⟩,by simpa[S.cX] using R.gE,R.ei,R.eb,R.er,R.dh,R.size,R.tmps,λk e A b r q p=> ?_⟩;rw[ku,w] at M;by_cases X:j=i;subst X;rw[abZ (by simpa using F)] at M;cases M;rw[<-h];exact R.mem.box j Q L (by rw[ku,N,abZ (by simpa using F)]);rw[AE (λe=>X e.symm)] at M;exact R.mem.box j t u (by rw[ku,N,AE (λe=>X e.symm)];exact M);obtain⟨z,y,o,n,m⟩:=R.eL k e A b r q p;exact⟨z,y,λj X=>o j (by rw[N,<-G];exact X),n,m⟩
def axC{b:BE}{y z:C}(h:acw b r y=U z):z.gg O V=if b.ai O then r.gg O V else y.gg O V:=by
 unfold acw at h
 grind [C.gg,C.ai,K.ai,BE.ai]
theorem WD:∀(R l:aq)(X:Nat),C.bK O V (mh l X R)=gf (C.bK O V l) X (C.bK O V R)
 |[],l,X=>rfl
 |v::R,l,X=>by
  rw[mh,WD R (l.set X v) (X+1)];simp only[C.bK,dG,gf,akW]
def amD{b:BE}:∀{M:aq}{R:Nat}{X Q:aq},Rg b M R X=U Q->
  Y Q=Y X/\(M=[]\/R+Y M<=Y X)/\(b.ai O=J->C.bK O V Q=C.bK O V (mh X R M))/\(b.ai O=E->C.bK O V Q=C.bK O V X)
 |[],R,X,Q,h=>by simp only[Rg,dW] at h;subst h;exact⟨rfl,.inl rfl,λ_=>rfl,λ_=>rfl⟩
 |x::r,R,X,Q,h=>by
  simp only[Rg] at h;split at h;rename_i A H;split at h;rename_i c z;obtain⟨G,L,y,w⟩:=amD h;have v:R<Y X:=(dq.1 H).1;have F:=axC (O:=O) (V:=V) z;have B:C.bK O V (X.set R c)=(C.bK O V X).set R (c.gg O V):=by simp[C.bK,akW]
  have u:C.bK O V X=(C.bK O V X).set R (A.gg O V):=by
   apply kS;intro j;rw[yO];split;rename_i t;subst t;simp[C.bK,v];have:=dq.1 H;rw[this.2];rfl
  rw[av6] at G L;refine⟨G,.inr ?_,λN=> ?_,λN=> ?_⟩;rcases L with rfl|L;simp;omega;simp only[nX];omega;rw[y N,WD,B,F,aH N,WD];simp only[C.bK,dG,gf];rw[w N,B,F,aP (by simp[N]),<-u];cases h;cases h
def amE{e:K}{M:aq}(G:M≠[]):∀{Q:bA}{N X R:aq},JP e M Q N X=U R->VO Q=J->
  Y R=Y X/\(∀v,eV (e.ai O) Q N=U v->∃i L,v=.loc i L/\L+Y M<=Y X/\C.bK O V R=C.bK O V (mh X L M))/\(¬(e.ai O∈Q)->C.bK O V R=C.bK O V X)
 |[],[],X,R,h,_=>by simp only[JP,dW] at h;subst h;exact⟨rfl,λv F=>by simp[eV] at F,λ_=>rfl⟩|[],_::_,X,R,h,_=>by simp[JP] at h
 |k::Q,N,X,R,h,H=>by
  simp only[VO,aC,jP] at H;cases N with
  |nil=>simp[JP] at h
  |cons u N=>
   cases u<;>simp only[JP] at h<;>try cases h
   rename_i i L;split at h;rename_i A B;obtain⟨z,y,x⟩:=amE G h H.2;obtain⟨w,t,r,q⟩:=amD (O:=O) (V:=V) B
   grind [BE.ai,K.ai,fk,eV,Jq.2,WD]
   cases h
def amF(h:Rh r=J):r.single=true:=by cases r<;>simp only[Rh,iW] at h<;>rfl
def amG:∀{l:aq},Mw l=J->l≠[]/\GK l=J
 |[],h=>by cases h|[x],h=>⟨aw,by rw[Vz.2,amF h,Vz.1];rfl⟩
 |x::y::r,h=>by
  simp only[Mw,aC] at h;exact⟨aw,by rw[Vz.2,amF h.1,(amG (l:=y::r) h.2).2];rfl⟩
def axD(h:Mw r.cells=J):(r.ai O V).cells.toList=C.az O V r.cells:=by
 cases r
 case agg l=>simp[C.cells,C.ai,Value.cells]
 all_goals(simp only[C.cells,Mw,Rh,iW] at h)
 all_goals rfl
def axE{P:Program}{p:Sp}{L:dm}(R:aA g B D f.ty V O s a W)(m:ju P f.ty){o:Oper}{t:TypeId}{x y:Operand}{A:TI}{e:K}{N:bA}{M:aq}(l:f.ty t=U A)(j:o.op=.store t x y)(d:a.eval x=(C.gq e N M).ai O V)(c:a.eval y=(s.ev f.gl y).ai O V){k:S->T}{z:T}
  (h:acx o.dst s A e N M (s.ev f.gl y) k=U z)(Q:z.aN p O L):∃v X H,tc P o a W v X/\aA g B D f.ty V O H (a.put o.dst v) X/\bB s O V H O V/\(k H).aN p O L:=by
 unfold acx at h;split at h;rename_i i b;split at h;rename_i bt cs hb;split at h;rename_i aa ab;split at h;rename_i w;simp at w;obtain⟨⟨⟨h1,h2⟩,h3⟩,r⟩:=w;cases h;simp only[T.aN] at Q;obtain⟨q,Q⟩:=Q;rw[Wj h2] at q;obtain⟨u,G⟩:=jz.1 q;obtain⟨ac,af⟩:=amG r;obtain⟨g1,g2,-⟩:=amE (O:=O) (V:=V) ac ab h3;obtain⟨i',n,rfl,ag,al⟩:=g2 u G;obtain⟨a3,hq⟩:=alF b (MV G);cases hq;obtain⟨F,an⟩:=AU hb;have hi:i<Y s.au:=(dq.1 (ku.1 F)).1;have a0:((s.ev f.gl y).ai O V).cells.toList=C.az O V (s.ev f.gl y).cells:=axD r;obtain⟨X,hr,R'⟩:=R.store (P:=P) (v:=s.ev f.gl y) (off:=n) (m _ _ l) F an h1.symm ag af a0;have R2:aA g B D f.ty V O (s.cX i bt aa) a X:=R'.cells hi al.symm;refine⟨undef,X,_,.inr ⟨?_,rfl⟩,R2.put o.dst (.bI []),amc F _ _,Q⟩;have a1:(C.gq e N M).ai O V=.pointer (U ⟨ad V i,n,Z⟩):=by
  simp only[C.ai];rw[Wl G rfl];rfl
 simp only[execOp,j,d,c,a1,dD,hr,dC,fu];cases h;cases h;cases h;cases h
def axF{p:Sp}{L:dm}(R:aA p.S0 p.w0 D f.ty V O s a W)(l:ju p.P f.ty)(w:eC f.gl O){aa:S->Fx->T}{q:Fx}(r:vV O q){t:T}(h:Cu f b s aa q=U t)(n:t.aN p O L):
  ∃v F j V' X ab,tc p.P b.o a W v F/\aA p.S0 p.w0 D f.ty V' j X (a.put b.o.dst v) F/\bB s O V X j V'/\vV j ab/\(aa X ab).aN p j L:=by
 unfold Cu at h;split at h;cases h;rename_i M;have M:∀x∈b.o.op.operands.toList,(s.ev f.gl x).eZ=false:=by
  intro x hx;cases hh:(s.ev f.gl x).eZ;rfl;exact bE (by simp only[lu];right;exact ny.2 ⟨x,hx,hh⟩) M
 split at h
 
 rename_i i Q;cases d:VH f b.o.dst s i with
 |none=>rw[d] at h;cases h
 |some X=>
  rw[d] at h;cases h;obtain⟨v,F,V',H,G,N⟩:=axr (P:=p.P) R Q d;exact⟨v,F,O,V',X,q,H,G,N,r,n⟩
 rename_i i x y z Q;rw[Q] at M;have A:=db R w x (M x cq);have k:=db R w y (M y cq);have e3:=db R w z (M z cq);split at h;rename_i X c;cases h;obtain⟨F,H,G,N⟩:=Sb (P:=p.P) R l c;exact⟨undef,F,O,V,X,q,.inr ⟨by simp only[execOp,Q,A,k,e3,dD,H,dC,fu],rfl⟩,G,N,r,n⟩;rename_i k' x' X c;cases h;obtain⟨F,H,G,N⟩:=Sb (P:=p.P) R l c;exact⟨undef,F,_,V,X,_,.inr ⟨by simp only[execOp,Q,A,k,e3,dD,H,dC,fu],rfl⟩,G,N,Kf R N.ext.agree r,n⟩;cases h;rename_i i x y z Q;rw[Q] at M;have A:=db R w x (M x cq);have k:=db R w y (M y cq);have e3:=db R w z (M z cq);split at h;rename_i X c;cases h;obtain⟨F,H,G,N⟩:=Sb (P:=p.P) R l c;exact⟨undef,F,O,V,X,q,.inr ⟨by simp only[execOp,Q,A,k,e3,dD,H,dC,fu],rfl⟩,G,N,r,n⟩;rename_i k' x' X c;cases h;obtain⟨F,H,G,N⟩:=Sb (P:=p.P) R l c;exact⟨undef,F,_,V,X,_,.inr ⟨by simp only[execOp,Q,A,k,e3,dD,H,dC,fu],rfl⟩,G,N,Kf R N.ext.agree r,n⟩;cases h;rename_i i x Q;rw[Q] at M;have A:=db R w x (M x cq);cases d:VJ f b.o.dst s i (s.ev f.gl x) with
 |none=>rw[d] at h;cases h
 |some X=>
  rw[d] at h;cases h;obtain⟨v,F,V',H,G,N⟩:=axw (P:=p.P) R l Q A d;exact⟨v,F,O,V',X,q,H,G,N,r,n⟩
 rename_i x Q;rw[Q] at M;have A:=db R w x (M x cq);obtain⟨v,F,j,X,H,G,N,u⟩:=axA (P:=p.P) rfl R l Q A h n;rcases u with⟨rfl,u⟩|u;exact⟨v,F,j,V,X,q,H,G,N,r,u⟩;exact⟨v,F,j,V,X,_,H,G,N,Kf R N.ext.agree r,u⟩;rename_i x Q;rw[Q] at M;have A:=db R w x (M x cq);obtain⟨v,X,H,G,N,u⟩:=axB (P:=p.P) R l Q A h n;exact⟨v,W,O,V,X,q,H,G,N,r,u⟩;rename_i i x y Q;rw[Q] at M;have A:=db R w x (M x cq);have k:=db R w y (M y cq);split at h;rename_i ti e ks vs ht hx;rw[hx] at A;obtain⟨v,F,X,H,G,N,u⟩:=axE (P:=p.P) R l ht Q A k h n;exact⟨v,F,O,V,X,q,H,G,N,r,u⟩;cases h;rename_i op i x y t2 Q;rw[Q] at M;have A:=db R w x (M x cq);have k:=db R w y (M y cq);split at h;obtain⟨v,X,H,G,N,u⟩:=amC (P:=p.P) R l Q (.inl ⟨rfl,rfl⟩) A k h n;exact⟨v,W,O,V,X,q,H,G,N,r,u⟩;obtain⟨v,X,H,G,N,u⟩:=amC (P:=p.P) R l Q (.inr ⟨rfl,rfl⟩) A k h n;exact⟨v,W,O,V,X,q,H,G,N,r,u⟩;cases h;cases h
end
def Sd(v:Value)(X:bA)(g:FuncId):mL:=(v::(X.map (Value.int I)++[.func (.func g) #[] #[]])).toArray
def rg(P:Program)(R:Ty)(f g:FuncId)(e:TypeId)(G:bu)(F:Bool):Prop:=
 (∀Q W,(callFunc f Q).run P W=.ok (.enter f Q) W)/\∀(W:World)(A:oZ)(n X:Nat)(N aF:av)(O:aj)(M:List K)(L:bu),G.fill M=U L->bG W R (.sl e) (.mk (.slice A n X) N)->Kc W e (bH R (.sl e)).length A X->lz O L F N=U aF->
  Calls P f (Sd (.slice A n X) (M.map (K.ai O)) g) W λB H=>B=.returned (.tuple #[])/\W.grownBy H (mT A X)/\He W H e (bH R (.sl e)).length (mT A X) aF A X
def amH(P:Program)(N:Ty)(f:FuncId)(e:TypeId):Prop:=
 (∀M W,(callFunc f M).run P W=.ok (.enter f M) W)/\∀(W:World)(b n X:Nat)(L aF:av)(i:Int)(R Q:Nat)(G F:TypeId),W.heap[R]?=U (.cells #[.slice (U ⟨b,0,Z⟩) n X] G (0,0))->W.heap[Q]?=U (.cells #[.func (.func f) #[] #[.pointer (U ⟨R,0,Z⟩),.pointer (U ⟨Q,0,Z⟩)]] F (0,0))->R≠b->Q≠b->
  bG W N (.sl e) (.mk (.slice (U ⟨b,0,Z⟩) n X) L)->Kc W e (bH N (.sl e)).length (U ⟨b,0,Z⟩) X->xC i L=U aF->
  Calls P f #[.int I i,.pointer (U ⟨R,0,Z⟩),.pointer (U ⟨Q,0,Z⟩)] W λB H=>B=.returned (.int I (aI 0 (aF.getD i.toNat [])))/\W.grownBy H (U b)/\He W H e (bH N (.sl e)).length (U b) aF (U ⟨b,0,Z⟩) X
def nK(P:Program)(X:Ty)(f g:FuncId)(e:TypeId)(R:bu)(Q:Bool):Prop:=if f=g then amH P X f e else rg P X f g e R Q
def nK.of{P:Program}{X:Ty}{f g:FuncId}{R:bu}{Q:Bool}(h:rg P X f g v R Q)(N:f≠g):nK P X f g v R Q:=by
 unfold nK;rw[aP N];exact h
def Ni(P:Program)(p:bv):Prop:=∀f g e X R,p.zd f g=U (e,X,R)->nK P p.ty f g e X R
theorem WE{lt:aE->aE->Bool}{x y:aE}:∀{l:av},y∈fh lt x l<->y=x\/y∈l
 |[]=>by simp[fh]
 |z::r=>by
  simp only[fh];split;simp;simp only[eu,WE (l:=r)]
  grind
theorem amI{lt:aE->aE->Bool}{x:aE}:∀{l:av},(fh lt x l).length=Y l+1
 |[]=>rfl
 |z::r=>by
  simp only[fh];split;simp;simp[amI (l:=r)]
def adP{lt:aE->aE->Bool}:∀(l acc:av),(∀x,x∈l.foldl (λacc x=>fh lt x acc) acc<->x∈acc\/x∈l)/\(l.foldl (λacc x=>fh lt x acc) acc).length=Y acc+Y l
 |[],acc=>aw
 |y::l,acc=>by
  obtain⟨X,R⟩:=adP (lt:=lt) l (fh lt y acc)
  grind [WE,amI,nX]
def amJ{lt:aE->aE->Bool}{l:av}{x:aE}:x∈bN lt l<->x∈l:=by
 rw[bN,(adP l []).1];simp
def pL{lt:aE->aE->Bool}{l:av}:(bN lt l).length=Y l:=by
 rw[bN,(adP l []).2];simp
def amK{sp:bu}{R:Bool}{X aF:av}(h:iu sp R X=U aF):∀x∈aF,x∈X:=by
 cases sp with
 |dE k o N=>simp[iu] at h
 |_=>
  simp only[iu] at h;split at h;cases h;intro x Q;exact amJ.1 Q;cases h
def amL{sp:bu}{R:Bool}{X aF:av}(h:iu sp R X=U aF):Y aF=Y X:=by
 cases sp with
 |dE k o Q=>simp[iu] at h
 |_=>
  simp only[iu] at h;split at h;cases h;exact pL;cases h
def vW{R:av}{b:Nat}{x:aE}(h:x∈bi R X b):x∈R:=Ek (GB h)
def axG(X:av)(a b:Nat):(bi X a b).length=min (b-a) (Y X-a):=by simp[bi]
theorem WF{X:av}:∀(n:Nat)(i:Int),(sT n i X).length=Y X
 |0,_=>rfl
 |n+1,i=>by
  simp only[sT];split;rfl;simp[WF n]
def Hg{X:av}(h:mu X=J){k:Nat}(R:k<Y X):0<=aI 0 (X.getD k [])/\aI 0 (X.getD k [])<=k:=by
 have:=gC.1 h k (rN.2 R)
 grind
def adQ{X:av}(h:mu X=J){i:Int}(R:0<=i)(Q:i<Y X):0<=aI 0 (X.getD i.toNat [])/\aI 0 (X.getD i.toNat [])<=i/\aI 0 (X.getD i.toNat [])<Y X:=by
 have:=Hg h (k:=i.toNat) ae;omega
def axH{R:Type}{l:List R}(h:X<Y l)(d:R):l.getD X d∈l:=by
 grind
def amM{R:av}(h:mu R=J):∀(n:Nat)(i:Int),0<=i->i<Y R->∀x∈sT n i R,x∈R
 |0,_,_,_,x,X=>X
 |n+1,i,Q,N,x,X=>by
  simp only[sT] at X;split at X;exact X;obtain⟨M,-,L⟩:=adQ h Q N;have H:=amM h n _ M L
  grind [WF]
def Se{i:Int}{X aF:av}(h:xC i X=U aF):Y X<=1099511627776/\0<=i/\i<Y X/\mu X=J/\aF=sT (Y X) i X:=by
 unfold xC at h
 grind
def WG{i:Int}{X aF:av}(h:xC i X=U aF):∀x∈aF,x∈X:=by
 obtain⟨-,R,Q,N,rfl⟩:=Se h;exact amM N _ _ R Q
def adR{i:Int}{X aF:av}(h:xC i X=U aF):Y aF=Y X:=by
 obtain⟨-,-,-,-,rfl⟩:=Se h;exact WF _ _
def axI{o:bu}{N:bA}{Q aF:av}(h:oe X o N Q=U aF):∀x∈aF,x∈Q:=by
 unfold oe at h;split at h
 all_goals first|(split at h<;>first|(cases h;done)|skip)|skip
 all_goals first|(cases h;done)|skip
 all_goals
  cases h;intro x R;simp only[fg,amJ] at R;rcases R with R|R;exact GB R
 all_goals
  rcases R with R|R;exact vW R
  first|exact Ek R|(rcases R with R|R<;>first|exact vW R|exact Ek R|(rcases R with R|R<;>first|exact vW R|exact Ek R))
def axJ{o:bu}{Q:bA}{R aF:av}(h:oe X o Q R=U aF):Y aF=Y R:=by
 unfold oe at h;split at h
 all_goals first|(split at h<;>first|(cases h;done)|skip)|skip
 all_goals first|(cases h;done)|skip
 all_goals
  rename_i N;simp only[aC,dl] at N;cases h;simp only[ga,Mf,Cf,axG,pL];omega
def CR{o:bu}{Q:bA}{R aF:av}(h:qy X o Q R=U aF):Y R<=1099511627776/\oe X o Q R=U aF:=by
 grind [qy]
def axK{o:bu}{Q:bA}{R aF:av}(h:qy X o Q R=U aF):∀x∈aF,x∈R:=axI (CR h).2
def axL{o:bu}{Q:bA}{R aF:av}(h:qy X o Q R=U aF):Y aF=Y R:=axJ (CR h).2
def adS{X:bu}{Q:Bool}{R aF:av}(h:iu X Q R=U aF):Y R<=1099511627776:=by
 cases X with
 |dE k o N=>simp[iu] at h
 |_=>
  simp only[iu] at h
  grind
def adT{R:bu}{Q:Bool}{N aF:av}(h:lz x R Q N=U aF):∀X∈aF,X∈N:=by
 cases R with
 |dE k o M=>
  cases Q with
  |false=>exact axK h
  |true=>
   cases M with
   |nil=>simp[lz] at h
   |cons i l=>
    cases l with|nil=>exact WG h|cons j l=>simp[lz] at h
 |lex L d=>exact amK (sp:=.lex L d) h|ratio n d=>exact amK (sp:=.ratio n d) h
def adU{X:bu}{R:Bool}{Q aF:av}(h:lz x X R Q=U aF):Y aF=Y Q:=by
 cases X with
 |dE k o N=>
  cases R with
  |false=>exact axL h
  |true=>
   cases N with
   |nil=>simp[lz] at h
   |cons i l=>
    cases l with|nil=>exact adR h|cons j l=>simp[lz] at h
 |lex M d=>exact amL (sp:=.lex M d) h|ratio n d=>exact amL (sp:=.ratio n d) h
section
variable{q:ar}{w:World}{D:bT}{P:Program}{p:bv}{V:ar}{O:aj}{s:S}{a:Act}{W:World}
def axM{G aF:av}(h:fW W p.ty v G)(F:∀x∈aF,x∈G):fW W p.ty v aF:=by
 have H:∀{i:Nat}{X:aE},aF[i]?=U X->∃R,G[R]?=U X:=λh=>sJ (F _ (jA h))
 refine⟨λi X Q=> ?_,λi j X c k Q M L=> ?_,λi j X c Q M L=> ?_,λi j X c z k Q M L=> ?_⟩;obtain⟨R,N⟩:=H Q;exact h.len R X N;obtain⟨R,N⟩:=H Q;exact h.int R j X c k N M L;obtain⟨R,N⟩:=H Q;exact h.bool R j X c N M L;obtain⟨R,N⟩:=H Q;exact h.bz R j X c z k N M L
def axN{R aF:av}(Q:∀x∈aF,x∈R)(h:oI p.ty v aF X):oI p.ty v R X:=by
 obtain⟨i,j,N,c,z,k,M,L,H,G⟩:=h;obtain⟨F,B⟩:=sJ (Q _ (jA M));exact⟨F,j,N,c,z,k,B,L,H,G⟩
def amN{s:S}{a:Act}{W:World}{O:aj}{V:ar}(R:aA q w D p.ty V O s a W)(N:eC p.gl O){o:Oper}{g:FuncId}{X:aq}(h:et p s o=.call (.fn g) X)
  (L:∀X W,(callFunc g X).run P W=.ok (.enter g X) W):(execOp a.eval o).run P W=.ok (.enter g (C.az O V X).toArray) W:=by
 unfold et at h;split at h;split at h<;>cases h;rename_i c H;split at h;rename_i f G;split at h;rename_i u bC M;split at h;cases h;rename_i F;have Q:=db R N f (by rw[M];rfl);rw[M] at Q;have B:c.args.map a.eval=(C.az O V (c.args.toList.map (s.ev p.gl))).toArray:=by
  apply nA;simp only[yQ,oH,oY];exact kF λx A=>db R N x (by
   cases z:(s.ev p.gl x).eZ;rfl;exact bE (ny.2 ⟨x,A,z⟩) F)
 obtain⟨t,r,y,v⟩:=alp O V h;rw[y] at Q;simp only[execOp,H,resolve,G,dD,Q,Deferred.ofValue,fu,dC,invoke,B,v,L];split at h<;>cases h;cases h;cases h;split at h;split at h<;>cases h;cases h;cases h;cases h
def amO{s:S}{o:Oper}{g:Cs}{X:aq}(h:et p s o=.call g X)(c:Call):o.op≠ .defer c:=by
 intro R;simp[et,R] at h
def amP{O:aj}{V:ar}:∀{l:aq}{as:List K}{g:FuncId},Ri l=U (as,g)->C.az O V l=(as.map (K.ai O)).map (Value.int I)++[.func (.func g) #[] #[]]
 |[],as,g,h=>by simp[Ri] at h
 |v::r,as,g,h=>by
  unfold Ri at h;split at h;rename_i M X;cases h;injection X with R Q;subst R;subst Q;simp[C.az,C.ai];rename_i e L X;injection X with R Q;subst R;subst Q;split at h;rename_i x N;cases h;have:=amP (O:=O) (V:=V) (as:=x.1) (g:=x.2) N;simp[C.az,C.ai,this];cases h;cases h
def amQ(R:aA q w D p.ty V O s a W)(u:s.bd=J){A:oZ}{n Q:Nat}{aF:av}(N:s.rs[X]?=U (.own v))(L:O.rv X=.mk (.slice A n Q) (O.rv X).ah)(H:bG W p.ty (.sl v) (.mk (.slice A n Q) (O.rv X).ah))
  (G:∀x∈aF,x∈(O.rv X).ah)(o:Y aF=(O.rv X).ah.length)(m:W.grownBy e (mT A Q))(l:He W e v (bH p.ty (.sl v)).length (mT A Q) aF A Q)(d:cG)(M:C):
  aA q w D p.ty V (O.add (.r (.mk (O.rv X).val aF))) ((({s with rs:=kU [] 0 (jD [X] 0 s.rs)++[.own v]}:S).iC X (Y s.rs)).put d M) (a.put d (M.ai (O.add (.r (.mk (O.rv X).val aF))) V)) e/\
   bB s O V ((({s with rs:=kU [] 0 (jD [X] 0 s.rs)++[.own v]}:S).iC X (Y s.rs)).put d M) (O.add (.r (.mk (O.rv X).val aF))) V:=by
 obtain⟨j,af⟩:=uE H;have h:CO p.ty V O s v aF []:=λb g=>by
  have F:=axN G g;have B:=M8 (O:=O) (e0:=.own v) rfl (by simpa[RE.rv] using F);exact⟨⟨X,_,N,B⟩,(R.mem.ak X _ _ N (uF R N)).2 b B,λk' t rv f c g3=>(M9 R f c g3 N rfl (by simpa[RE.rv] using F)).elim⟩
 obtain⟨z,-⟩:=R.bind u (old:=mT A Q) (kill:=[X]) (de:=[]) (A:=A) (cap:=Q) (W':=e) (.inr ⟨X,v,O.rv X,rfl,N,uF R N,by rw[L,Nb]⟩) aw m (axM (fW.zp H) G) h l;rw[o,j] at z;have y:(O.rv X).val=.slice A n Q:=by rw[L];rfl
 rw[y];have aa:X<Y O.r:=by rw[R.er];exact(dq.1 N).1
 have ab:(O.add (.r (.mk (.slice A n Q) aF))).rv X=O.rv X:=by simp[aj.rv,aj.add,fT aa]
 have ac:(O.add (.r (.mk (.slice A n Q) aF))).rv (Y s.rs)=.mk (.slice A n Q) aF:=by simp[aj.rv,aj.add,<-R.er]
 have R2:=(z.iC (k:=X) (n:=Y s.rs) (by rw[ab,ac,y];rfl)).put d M;refine⟨R2, ?_⟩;refine bB.put (s:=s) (s':=({s with rs:=kU [] 0 (jD [X] 0 s.rs)++[.own v]}:S).iC X (Y s.rs)) ⟨ta _ _ _ _,λi hi=> ?_, ?_,cd _⟩ _ _;simp only[S.iC];rw[Ke];exact hi;simp[S.iC,Sa]
def axO(hs:Ni P p)(R:aA q w D p.ty V O s a W)(hg:eC p.gl O)(x:s.bd=J){o:Oper}{f:FuncId}{Q:aq}(ab:et p s o=.call (.fn f) Q){u:Cw}(h:acy p f Q s o.dst=U u){aF:av}(X:lz O u.sp u.st (u.r.rv O).ah=U aF):
  ∃Q v,(execOp a.eval o).run P W=.ok (.enter u.f Q) W/\Calls P u.f Q W λL N=>L=.returned v/\aA q w D p.ty V (O.add (.r (.mk (u.r.rv O).val aF))) u.s (a.put o.dst v) N/\bB s O V u.s (O.add (.r (.mk (u.r.rv O).val aF))) V:=by
 unfold acy at h;split at h;rename_i r an;split at h;rename_i H g ac;split at h;rename_i e t m a0;have l:p.zd f g=U (e,t,m)/\f≠g:=by
  grind
 have G:=hs f g e t m l.1;unfold nK at G;rw[aP l.2] at G;obtain⟨af,j⟩:=G;have i:(execOp a.eval o).run P W=.ok (.enter f (Sd (r.ai O) (H.map (K.ai O)) g)) W:=by
  rw[amN R hg ab af];simp only[C.az,C.ai,amP ac,Sd]
 split at h;rename_i d c;split at h;rename_i k;split at h;rename_i hk;cases h;obtain⟨A,n,aa,h1,h2,h3⟩:=R8 R hk;have M:(RE.v k).rv O=O.rv k:=rfl;simp only[M] at X⊢;have a1:=X;have ag:=adT X;have F:=adU X;refine⟨_,.tuple #[],i, ?_⟩;have B:(RE.v k).ai O=.slice A n aa:=by rw[RE.ai,M,h1];rfl
 rw[B];refine(j W A n aa _ aF O H d c h2 h3 X).mono ?_;rintro L N ⟨rfl,z,y⟩;exact⟨rfl,amQ R x hk h1 h2 ag F z y o.dst (.bI [])⟩;cases h;cases h;have M:(RE.k (.slice Z 0 0)).rv O=.mk (.slice Z 0 0) []:=rfl;simp only[M,RV.mR,RV.pf] at X⊢;have F:=adU X;have h0:aF=[]:=uj (by simpa using F);subst h0;refine⟨_,.tuple #[],i, ?_⟩;have B:(RE.k (.slice Z 0 0)).ai O=.slice Z 0 0:=rfl;rw[B];refine(j W Z 0 0 [] [] O H d c (EZ _ _) ⟨λ_=>rfl,.inl rfl⟩ X).mono ?_;rintro L N ⟨rfl,z,y⟩;obtain⟨R1,-⟩:=R.bind x (old:=Z) (kill:=[]) (de:=[]) (A:=Z) (cap:=0) (rows:=[]) (W':=N) (.inl ⟨rfl,rfl⟩) aw z (fW.zp (EZ (e:=e) Z 0)) (λb al=>(RX al).elim) y;refine⟨rfl,R1.put o.dst (.bI []), ?_⟩;exact bB.put (s:=s) (s':={s with rs:=kU [] 0 (jD [] 0 s.rs)++[.own e]}) ⟨ta _ _ _ _,λ_ h=>h,cd _,cd _⟩ _ _;cases h;cases h;cases h;cases h;cases h
def amR(hs:Ni P p)(R:aA q w D p.ty V O s a W)(hg:eC p.gl O)(hb:s.bd=J){o:Oper}{f:FuncId}{Q:aq}(ag:et p s o=.call (.fn f) Q){u:Cw}(h:JQ p f Q s o.dst=U u){aF:av}(L:lz O u.sp u.st (u.r.rv O).ah=U aF):
  ∃Q v,(execOp a.eval o).run P W=.ok (.enter u.f Q) W/\Calls P u.f Q W λt m=>t=.returned v/\aA q w D p.ty V (O.add (.r (.mk (u.r.rv O).val aF))) u.s (a.put o.dst v) m/\bB s O V u.s (O.add (.r (.mk (u.r.rv O).val aF))) V:=by
 unfold JQ at h;split at h;rename_i i N M;split at h;rename_i e o' me al;have B:=hs f f e _ J al;unfold nK at B;rw[aH rfl] at B;obtain⟨an,a0⟩:=B;split at h;rename_i H k G f' br bs l jc;split at h;rename_i j;simp only[aC,ge,jP,dl] at j;obtain⟨⟨⟨⟨⟨⟨⟨hi,e1⟩,z⟩,e2⟩,e3⟩,a1⟩,a3⟩,F⟩:=j;rw[e1,e2,e3] at jc;cases h;obtain⟨A,n,X,y,x,g⟩:=R8 R F;have a4:(RE.v k).rv O=O.rv k:=rfl;simp only[a4] at L⊢;have a9:=adT L;have ba:=adU L;have bq:xC (i.ai O) (O.rv k).ah=U aF:=L;obtain⟨-,bt,bx,-,-⟩:=Se bq;obtain⟨hn,b0⟩:=uE x;have d:X≠0:=ae;rcases g.mem with h0|⟨b,da,hA,b1,-⟩;omega;subst hA;have bb:(O.rv k).ly=U b:=by
  rw[y,Nb];cases X with|zero=>exact(d rfl).elim|succ c=>rfl
 have hT:=R.eL k e _ b F (uF R F) bb;have aa:=R.mem.box N H _ l;have ab:=R.mem.box M G _ jc;have bc:j5 H (C.bK O V [.ak (.v k)])=.cells #[.slice (U ⟨b,0,Z⟩) n X] H (0,0):=by
  rw[qz a1];simp only[C.az,C.ai,RE.ai,RE.rv];rw[y];rfl
 have z:j5 G (C.bK O V [.fn f [.loc N 0,.loc M 0]])=.cells #[.func (.func f) #[] #[.pointer (U ⟨ad V N,0,Z⟩),.pointer (U ⟨ad V M,0,Z⟩)]] G (0,0):=by
  rw[qz a3];simp[C.ai,C.az,zm,z]
 rw[bc] at aa;rw[z] at ab;have bf:(execOp a.eval o).run P W=.ok (.enter f #[.int I (i.ai O),.pointer (U ⟨ad V N,0,Z⟩),.pointer (U ⟨ad V M,0,Z⟩)]) W:=by
  rw[amN R hg ag an];simp only[C.az,C.ai]
 refine⟨_,.int I (aI 0 (aF.getD (i.ai O).toNat [])),bf, ?_⟩;have bg:mT (U ⟨b,0,Z⟩) X=U b:=by
  cases X with|zero=>exact(d rfl).elim|succ c=>rfl
 refine(a0 W b n X _ aF (i.ai O) _ _ H G aa ab (hT.box N (by simp only[aK,l];rfl)) (hT.box M (by simp only[aK,jc];rfl)) x g bq).mono ?_;rintro t m ⟨rfl,ac,af⟩;rw[<-bg] at ac af;have:=amQ R hb F y x a9 ba ac af o.dst (.int I (.cell (.v (Y s.rs)) i 0));have bk:(O.add (.r (.mk (O.rv k).val aF))).rv (Y s.rs)=.mk (O.rv k).val aF:=by simp[aj.rv,aj.add,<-R.er]
 have bl:i.ai (O.add (.r (.mk (O.rv k).val aF)))=i.ai O:=K.eh (ta s.au O _ V).agree i (by rw[R.ei,R.eb,R.er];exact hi);have hd:C.ai (O.add (.r (.mk (O.rv k).val aF))) V (.int I (.cell (.v (Y s.rs)) i 0))=.int I (aI 0 (aF.getD (i.ai O).toNat [])):=by
  simp only[C.ai,K.ai,RE.rv,bk,bl];rfl
 grind
 cases h;cases h;cases h;cases h
def axP(H:Ni P p)(R:aA q w D p.ty V O s a W)(G:eC p.gl O){u:Cw}(h:EB p b s=U u){aF:av}(F:lz O u.sp u.st (u.r.rv O).ah=U aF):
  ∃X v,(execOp a.eval b.o).run P W=.ok (.enter u.f X) W/\(∀c,b.o.op≠ .defer c)/\Calls P u.f X W λA z=>A=.returned v/\aA q w D p.ty V (O.add (.r (.mk (u.r.rv O).val aF))) u.s (a.put b.o.dst v) z/\bB s O V u.s (O.add (.r (.mk (u.r.rv O).val aF))) V:=by
 unfold EB at h;split at h;cases h;rename_i Q;simp only[lu,jP,not_or,Mc] at Q;split at h;rename_i f X N;have B:=λc=>amO N c
 split at h;rename_i t y;cases h;obtain⟨x,v,M,L⟩:=axO H R G Q.2 N y F;exact⟨x,v,M,B,L⟩;obtain⟨x,v,M,L⟩:=amR H R G Q.2 N h F;exact⟨x,v,M,B,L⟩;cases h
def axQ(N:Ni P p)(R:aA q w D p.ty V O s a W)(M:eC p.gl O){u:Cw}(h:JR p l s=U u){aF:av}(L:lz O u.sp u.st (u.r.rv O).ah=U aF):
  ∃X v,(execOp a.eval l).run P W=.ok (.enter u.f X) W/\(∀c,l.op≠ .defer c)/\Calls P u.f X W λH G=>H=.returned v/\aA q w D p.ty V (O.add (.r (.mk (u.r.rv O).val aF))) u.s (a.put l.dst v) G/\bB s O V u.s (O.add (.r (.mk (u.r.rv O).val aF))) V:=by
 unfold JR at h;split at h;cases h;rename_i F;split at h;rename_i f X Q;obtain⟨x,v,B,A⟩:=amR N R M (by simpa using F) Q h L;exact⟨x,v,B,λc=>amO Q c,A⟩;cases h
end
structure qB(F:Fence):Prop where
 fn:∀f,F.fn f
 zq:F.depth=Z
 eq:∀P,Machine.fenced P F=Machine.fenced P Fence.wide
def axR:qB Fence.wide:=⟨λ_=>trivial,rfl,λ_=>rfl⟩
def amS(l:Nat):qB (Fence.wide.inRound l):=⟨λ_=>trivial,rfl,λ_=>rfl⟩
def qB.calls{F:Fence}(V:qB F){P:Program}{f:FuncId}{Q:mL}{R:Ending->World->Prop}(h:Calls P f Q e R):CallsIn F X P f Q e R:=by
 have O:=(callsIn_wide (n:=X)).2 h;refine⟨V.fn f,λN _=> ?_⟩;obtain⟨W,M,L,r,c,x⟩:=O.2 N (room_wide _)
 grind [V.eq]
def adV{p:Sp}{L:dm}{V:Fx}{b:BE}{t f:Fx->T}(Q:vV x V)(h:(EA R V b t f).aN p x L):
  ∃W,vV x W/\(if b.ai x then(t W).aN p x L else(f W).aN p x L):=by
 unfold EA at h;split at h
 grind [WA]
 grind [WA]
 split at h;simp only[T.aN] at h;cases X:b.ai x;exact⟨_,amn Q X,by simpa[X] using h.2 X⟩;exact⟨_,amn Q X,by simpa[X] using h.1 X⟩;exact h.elim
def cT(n:Nat)(L X:dm):Prop:=∀l,l<n->pj l X=pj l L
def cT.refl(n:Nat)(L:dm):cT n L L:=λ_ _=>rfl
def cT.trans{n m:Nat}{L X W:dm}(h:cT n L X)(k:cT m X W)(R:n<=m):cT n L W:=λl V=>(k l ae).trans (h l V)
def axS(p:Sp)(O:aj):Cs->mL->World->(Ending->World->Prop)->Prop
 |.fn g,X,W,V=>(∀X W,(callFunc g X).run p.P W=.ok (.enter g X) W)/\Calls p.P g X W V|.yl n,X,W,V=>∀(F:Fence)(_:qB F)(m:Nat),YieldAt F m p.P (O.y.getD n 0) X W V
structure jH where
 s:S
 O:aj
 V:ar
 L:dm
structure jH.lM(B:jH)(s:S)(O:aj)(V:ar)(L:dm):Prop where
 later:bB B.s B.O B.V s O V
 Kg:cT B.s.ax B.L L
def jH.lM.go{B:jH}{X:S}{W:aj}{Q:ar}{L P:dm}(h:B.lM R x t L)(N:bB R x t X W Q)(M:cT R.ax L P):B.lM X W Q P:=⟨h.later.trans N,h.Kg.trans M h.later.ax⟩
def Sf(p:Sp)(A:bv)(D:bT)(B:jH)(G:qj):Prop:=
 ∀(L:dm)(g:Cs)(z:aq)(s:S)(k x:C->S->T)(O:aj)(V:ar)(a:Act)(W:World)(H:Ending->World->Prop),B.lM s O V L->
  (G g z s k x).aN p O L->aA p.S0 p.w0 D A.ty V O s a W->eC A.gl O->
  (∀v P X N Q M,bB s O V P X N->cT s.ax L M->aA p.S0 p.w0 D A.ty N X P a Q->(k v P).aN p X M->H (.returned (v.ai X N)) Q)->
  (∀v P X N Q M,bB s O V P X N->cT s.ax L M->aA p.S0 p.w0 D A.ty N X P a Q->(x v P).aN p X M->H (.panicked [{v:=v.ai X N,recovered:=E}]) Q)->
  (∀w Q u y,ef p.w0 D u y a.defers Q->p.R (.panicked w) Q->H (.panicked w) Q)->
  axS p O g (C.az O V z).toArray W H
section
variable{p:Sp}{A:bv}{G:qj}{F:Fence}{D:bT}{ops:dF}
def amT{a:Act}(Q:aA p.S0 p.w0 D A.ty t x R a e){j:Nat}(N:(ops[j]?).bind (·.dst)=U X):
  (∀b,R.tmps[X]?=U (.bool b)->yielded ops a.tmps j=U (b.ai x))/\(R.tmps[X]?=U (.bI [])->yielded ops a.tmps j=Z):=by
 constructor;intro b P;rcases Q.tmps X _ P with h|h;cases h;simp[yielded,N,h,C.ai];intro P;rcases Q.tmps X _ P with h|h;cases h;simp[yielded,N,h,C.ai]
def WH{s:S}{a:Act}{W:World}{O:aj}{V:ar}(R:aA p.S0 p.w0 D A.ty V O s a W)(N:eC A.gl O){o:Oper}{g:FuncId}{X:aq}(h:et A s o=.call (.fn g) X)
  (L:∀X W,(callFunc g X).run p.P W=.ok (.enter g X) W):(execOp a.eval o).run p.P W=.ok (.enter g (C.az O V X).toArray) W:=by
 unfold et at h;split at h;split at h<;>cases h;rename_i c H;split at h;rename_i f G;split at h;rename_i t bC M;split at h;cases h;rename_i B;have Q:=db R N f (by rw[M];rfl);rw[M] at Q;have z:c.args.map a.eval=(C.az O V (c.args.toList.map (s.ev A.gl))).toArray:=by
  apply nA;simp only[yQ,oH,oY];exact kF λx y=>db R N x (by
   cases w:(s.ev A.gl x).eZ;rfl;exact bE (ny.2 ⟨x,y,w⟩) B)
 obtain⟨r,q,v,u⟩:=alp O V h;rw[v] at Q;simp only[execOp,H,resolve,G,dD,Q,Deferred.ofValue,fu,dC,invoke,z,u,L];split at h<;>cases h;cases h;cases h;split at h;split at h<;>cases h;cases h;cases h;cases h
def adW{s:S}{a:Act}{W:World}{O:aj}{V:ar}(R:aA p.S0 p.w0 D A.ty V O s a W)(X:eC A.gl O){o:Oper}{n:Nat}{Q:aq}(h:et A s o=.call (.yl n) Q):
  (execOp a.eval o).run p.P W=(Instr.yield (O.y.getD n 0) (C.az O V Q).toArray).run p.P W:=by
 unfold et at h;split at h;split at h<;>cases h;rename_i c L;split at h;rename_i f H;split at h;split at h;cases h;exact(awC h).elim;rename_i v N;split at h;cases h;rename_i G;cases h;have M:=db R X f (by rw[N];rfl);rw[N,C.ai] at M;have B:c.args.map a.eval=(C.az O V (c.args.toList.map (s.ev A.gl))).toArray:=by
  apply nA;simp only[yQ,oH,oY];exact kF λx z=>db R X x (by
   cases w:(s.ev A.gl x).eZ;rfl;exact bE (ny.2 ⟨x,z,w⟩) G)
 simp[execOp,L,resolve,H,M,Deferred.ofValue,invoke,B];cases h;cases h;split at h;split at h<;>cases h;cases h;cases h;cases h
def adX{s:S}{O:aj}{V:ar}{L:dm}{e:K}{N:FuncId->aq->T}:∀{R:bA}{Q:aq},(GQ e N R Q).aN p O L->∃g bC,lx (e.ai O) R (C.az O V Q)=.func (.func g) #[] (C.az O V bC).toArray/\(N g bC).aN p O L
 |[],Q,h=>by simp only[GQ] at h;exact h.elim|k::R,[],h=>by simp only[GQ] at h;exact h.elim
 |k::R,v::Q,h=>by
  unfold GQ at h;split at h;rename_i M H g bC G X W;simp at X W;obtain⟨rfl,rfl⟩:=X;obtain⟨rfl,rfl⟩:=W;simp only[T.aN,BE.ai,fk,K.ai] at h;by_cases P:e.ai O=k;have X:=h.1 (by simp[P]);cases B:ko g 1000000;rw[B] at X;exact X.elim
  grind [C.az,C.ai,lx,jp,ac0]
  obtain⟨A,z,y,x⟩:=adX (s:=s) (V:=V) (h.2 (by simp[P]))
  grind [C.az,lx]
  rename_i M H G X W;simp at X W;obtain⟨rfl,rfl⟩:=X;obtain⟨rfl,rfl⟩:=W;simp only[T.aN,BE.ai,fk,K.ai] at h;by_cases P:e.ai O=k
  grind
  obtain⟨A,z,y,x⟩:=adX (s:=s) (V:=V) (h.2 (by simp[P]))
  grind [C.az,lx]
  exact h.elim
def axT{s:S}{a:Act}{W:World}{O:aj}{V:ar}(R:aA p.S0 p.w0 D A.ty V O s a W)(Q:eC A.gl O){m:OM}{e:K}{N:bA}{M X bC:aq}{g:FuncId}(h:Cv A m s=U (e,N,M,X))
  (y:lx (e.ai O) N (C.az O V M)=.func (.func g) #[] (C.az O V bC).toArray)(w:∀X W,(callFunc g X).run p.P W=.ok (.enter g X) W):
  (execOp a.eval m.o).run p.P W=.ok (.enter g (C.az O V (X++bC)).toArray) W/\∀c,m.o.op≠ .defer c:=by
 unfold Cv at h;split at h;cases h;split at h;rename_i c L;split at h;rename_i f v;split at h;rename_i q n l H;split at h;cases h;rename_i G;simp only[lu,not_or] at G;cases h;have B:=db R Q f (by rw[H];rfl);rw[H,C.ai,y] at B;have u:c.args.map a.eval=(C.az O V (c.args.toList.map (s.ev A.gl))).toArray:=by
  apply nA;simp only[yQ,oH,oY];exact kF λx t=>db R Q x (by
   cases r:(s.ev A.gl x).eZ;rfl;exact bE (ny.2 ⟨x,t,r⟩) G.1)
 refine⟨?_,λk z=>by rw[L] at z;cases z⟩;simp only[execOp,L,resolve,v,dD,B,Deferred.ofValue,fu,dC,invoke,u,G4];simp only[List.append_toArray,w,du];cases h;cases h;cases h
def amU{a:Act}(X:aA p.S0 p.w0 D A.ty t x R a e)(G:eC A.gl x)(h:et A R l=.bp r):
  (execOp a.eval l).run p.P e=.halt (.panic (r.ai x t)) e:=by
 unfold et at h;split at h;rename_i Q H;split at h;rename_i N y L;cases h;have M:=db X G Q (by rw[L];rfl);rw[L] at M;simp[execOp,H,M,C.ai,Instr.panic];cases h;rename_i c H;split at h;split at h;split at h;cases h;exact(alo h).elim
 grind
 cases h;cases h;rename_i z;split at h;rename_i Q L;split at h;rename_i N y B;cases h;have M:=db X G Q (by rw[B];rfl);rw[B] at M;have:c.args.map a.eval= #[a.eval Q]:=by apply nA;simp[L]
 simp[execOp,H,resolve,z,invoke,builtin,this,M,C.ai,Instr.panic];cases h;cases h;cases h;cases h
def AZ{a:Act}{R:World}{v:Value}{V:Act->World->Prop}{Q:Exit->Act->World->Prop}(N:qB F)(h:tc p.P l a e v R)(M:∀c,l.op≠ .defer c)(O:V (a.put l.dst v) R):l.wpIn F X p.P a e V Q:=by
 refine⟨λf _=>N.fn f, ?_⟩;rw[AF _ _ _ M];rcases h with h|⟨h,rfl⟩;rw[h];exact O;rw[h];exact O
def adY{bM X:Bool}{b:BI}(h:eX A l bM X R=U b):∀c,l.op≠ .defer c:=by
 intro c G;simp[eX,G] at h
def axU{X:S->Fx->T}{W:Fx}{t:T}(h:Cu A b R X W=U t):∀c,b.o.op≠ .defer c:=by
 intro c G;simp[Cu,G] at h
def Sg{X:S}(h:(gI A b R).gives x X):∀c,b.o.op≠ .defer c:=by
 intro c G;unfold gI at h;split at h;exact h.elim;rw[G] at h;simp[cw,xw,OR.gives] at h
def A4(ba:p.ty=A.ty)(bb:Ni p.P A)(hF:qB F)(an:ju p.P A.ty){B:jH}(hH:Sf p A D B G){n:Nat}{k:S->T}{kp:C->S->T}{Q:Exit->Act->World->Prop}(HP:∀ch a' N pd y,ef p.w0 D pd y a'.defers N->p.R (.panicked ch) N->Q (.panic ch) a' N):
  ∀(l:cN)(j:Nat)(s:S)(fx:Fx)(L:dm)(O:aj)(V:ar)(a:Act)(W:World),
   (∀i m,l[i]?=U m->ops[j+i]?=U m.o)->B.lM s O V L->
   (lJ A G ops k kp l s fx).aN p O L->vV O fx->aA p.S0 p.w0 D A.ty V O s a W->eC A.gl O->
   (∀H O' V' a' N L',bB s O V H O' V'->cT s.ax L L'->aA p.S0 p.w0 D A.ty V' O' H a' N->(k H).aN p O' L'->Q .normal a' N)->
   (∀v H O' V' a' N L',bB s O V H O' V'->cT s.ax L L'->aA p.S0 p.w0 D A.ty V' O' H a' N->(kp v H).aN p O' L'->Q (.panic [{v:=v.ai O' V',recovered:=E}]) a' N)->
   wpOpsIn F n p.P ops Q (yS j (Y l)) a W
 |[],j,s,fx,L,O,V,a,W,_,_,h,_,R,_,hk,_=>hk s O V a W L (bB.refl _ _ _) (cT.refl _ _) R h
 |m::af,j,s,fx,L,O,V,a,W,b6,hB,h,bx,R,hg,hk,a0=>by
  have ho:ops[j]?=U m.o:=by simpa using b6 0 m rfl
  have bd:∀i m',af[i]?=U m'->ops[j+1+i]?=U m'.o:=λi m' hi=>by
   have:=b6 (i+1) m' (by simpa using hi)
   rwa [show j+(i+1)=j+1+i from ae] at this
  simp only[nX,ab6,wpOpsIn,ho];have b2:∀ag,vV O ag->
    (Cx A G m s (lJ A G ops k kp af) kp ag).aN p O L->
    m.o.wpIn F n p.P a W (wpOpsIn F n p.P ops Q (yS (j+1) (Y af))) Q:=by
   intro ag a1 h;unfold Cx at h;have bq:∀g al,(G (.fn g) al s (λv H=>lJ A G ops k kp af (H.put m.o.dst v) (qn s ag)) kp).aN p O L->((∀al W,(callFunc g al).run p.P W=.ok (.enter g al) W)->(execOp a.eval m.o).run p.P W=.ok (.enter g (C.az O V al).toArray) W)->(∀c,m.o.op≠ .defer c)->
     m.o.wpIn F n p.P a W (wpOpsIn F n p.P ops Q (yS (j+1) (Y af))) Q:=by
    intro g al h b3 bf;have hC:=hH L (.fn g) al s _ _ O V a W (λe N=>match e with|.returned v=>wpOpsIn F n p.P ops Q (yS (j+1) (Y af)) (a.put m.o.dst v) N|.panicked ch=>Q (.panic ch) a N|.outgrown=>LetsOut Q) hB h R hg
     (λv H O' V' N L' X hL R' hs=>A4 ba bb hF an hH HP af (j+1) (H.put m.o.dst v) (qn s ag) L' O' V' _ N bd (hB.go (X.put _ _) hL) hs
      (Kf R X.ext.agree a1) (R'.put m.o.dst v) (hg.ext X.ext)
      (λM z x a2 w r aa ab R2 ac=>hk M z x a2 w r ((X.put _ _).trans aa) (hL.trans ab (X.put _ _).ax) R2 ac)
      (λv2 M z x a2 w r aa ab R2 ac=>a0 v2 M z x a2 w r ((X.put _ _).trans aa) (hL.trans ab (X.put _ _).ax) R2 ac))
     (λv H O' V' N L' X hL R' hs=>a0 v H O' V' a N L' X hL R' hs)
     (λch N pd y hA hR=>HP ch a N pd y hA hR)
    obtain⟨br,b4⟩:=hC;refine⟨λf _=>hF.fn f, ?_⟩;rw[AF _ _ _ bf,b3 br];rw[Vp];refine⟨λhd=>by rw[hF.zq] at hd;simp at hd,CallsIn.mono (hF.calls b4) (λe N he=> ?_)⟩;cases e<;>exact he
   split at h;rename_i e ks vs al b7;obtain⟨g,bC,q1,q2⟩:=adX (s:=s) (V:=V) h;refine bq g (al++bC) q2 (λbr=>(axT R hg b7 q1 br).1) ?_;intro c bg;simp[Cv,bg] at b7;split at h;rename_i u hu;obtain⟨aF,hr,h⟩:=h;obtain⟨al,tv,b3,bf,b4⟩:=axP bb R hg hu hr;refine⟨λf _=>hF.fn f, ?_⟩;rw[AF _ _ _ bf,b3];rw[Vp];refine⟨λhd=>by rw[hF.zq] at hd;simp at hd,CallsIn.mono (hF.calls b4) (λe N he=> ?_)⟩;obtain⟨rfl,R',X⟩:=he;exact A4 ba bb hF an hH HP af (j+1) u.s (qn s ag) L _ V _ N bd (hB.go X (cT.refl _ _)) h (Kf R X.ext.agree a1) R' (hg.ext X.ext)
    (λM z x a2 w r aa ab R2 ac=>hk M z x a2 w r (X.trans aa) ((cT.refl _ _).trans ab X.ax) R2 ac)
    (λv2 M z x a2 w r aa ab R2 ac=>a0 v2 M z x a2 w r (X.trans aa) ((cT.refl _ _).trans ab X.ax) R2 ac)
   split at h;rename_i g al bs;exact bq g al h (λbr=>WH R hg bs br) (λc bg=>by simp[et,bg] at bs);rename_i yn al bs;split at h;have hC:=hH L (.yl yn) al s _ _ O V a W (λe N=>match e with|.returned v=>wpOpsIn F n p.P ops Q (yS (j+1) (Y af)) (a.put m.o.dst v) N|.panicked ch=>Q (.panic ch) a N|.outgrown=>LetsOut Q) hB h R hg
    (λv H O' V' N L' X hL R' hs=>A4 ba bb hF an hH HP af (j+1) (H.put m.o.dst v) (qn s ag) L' O' V' _ N bd (hB.go (X.put _ _) hL) hs
     (Kf R X.ext.agree a1) (R'.put m.o.dst v) (hg.ext X.ext)
     (λM z x a2 w r aa ab R2 ac=>hk M z x a2 w r ((X.put _ _).trans aa) (hL.trans ab (X.put _ _).ax) R2 ac)
     (λv2 M z x a2 w r aa ab R2 ac=>a0 v2 M z x a2 w r ((X.put _ _).trans aa) (hL.trans ab (X.put _ _).ax) R2 ac))
    (λv H O' V' N L' X hL R' hs=>a0 v H O' V' a N L' X hL R' hs)
    (λch N pd y hA hR=>HP ch a N pd y hA hR)
   obtain⟨fn,cp,assign,body,hy,cc⟩:=hC F hF (n-1);refine⟨λf _=>hF.fn f, ?_⟩;have bf:∀c,m.o.op≠ .defer c:=λc bg=>by simp[et,bg] at bs
   rw[AF _ _ _ bf,adW R hg bs,hy];rw[avX];refine⟨λhd=>by rw[hF.zq] at hd;simp at hd,RoundIn.mono cc (λe N he=> ?_)⟩;cases e<;>exact he;exact h.elim;rename_i v b8;refine⟨λf _=>hF.fn f, ?_⟩;have bf:∀c,m.o.op≠ .defer c:=λc bg=>by simp[et,bg] at b8
   rw[AF _ _ _ bf,amU R hg b8];exact a0 v s O V a W L (bB.refl _ _ _) (cT.refl _ _) R h;exact h.elim;have b0:∀H b1,vV O b1->(gI A m s).gives O H->(lJ A G ops k kp af H b1).aN p O L->m.o.wpIn F n p.P a W (wpOpsIn F n p.P ops Q (yS (j+1) (Y af))) Q:=by
    intro H b1 cl ca hs;obtain⟨v,N,V',bt,R',X⟩:=R6 R an hg m ca;exact AZ hF bt (Sg ca) (A4 ba bb hF an hH HP af (j+1) H b1 L O V' _ N bd (hB.go X (cT.refl _ _)) hs cl R' hg
     (λM z x a2 w r aa ab R2 ac=>hk M z x a2 w r (X.trans aa) ((cT.refl _ _).trans ab X.ax) R2 ac)
     (λv2 M z x a2 w r aa ab R2 ac=>a0 v2 M z x a2 w r (X.trans aa) ((cT.refl _ _).trans ab X.ax) R2 ac))
   split at h;rename_i t ht;obtain⟨v,N,O',V',H,a3,bt,R',X,a4,h2⟩:=axF R an hg a1 ht h;exact AZ hF bt (axU ht) (A4 ba bb hF an hH HP af (j+1) H a3 L O' V' _ N bd (hB.go X (cT.refl _ _)) h2 a4 R' (hg.ext X.ext)
    (λM z x a2 w r aa ab R2 ac=>hk M z x a2 w r (X.trans aa) ((cT.refl _ _).trans ab X.ax) R2 ac)
    (λv2 M z x a2 w r aa ab R2 ac=>a0 v2 M z x a2 w r (X.trans aa) ((cT.refl _ _).trans ab X.ax) R2 ac))
   split at h;rename_i b hb;obtain⟨hn,h⟩:=h;obtain⟨v,N,rv,bt,cn,R',X⟩:=adG R an hg hb hn;exact AZ hF bt (adY hb) (A4 ba bb hF an hH HP af (j+1) b.s (qn s ag) L _ V _ N bd (hB.go X (cT.refl _ _)) (h rv (by rw[ba];exact cn)) (Kf R X.ext.agree a1) R' (hg.ext X.ext)
    (λM z x a2 w r aa ab R2 ac=>hk M z x a2 w r (X.trans aa) ((cT.refl _ _).trans ab X.ax) R2 ac)
    (λv2 M z x a2 w r aa ab R2 ac=>a0 v2 M z x a2 w r (X.trans aa) ((cT.refl _ _).trans ab X.ax) R2 ac))
   split at h;rename_i H bk;exact b0 H ag a1 (by rw[bk];rfl) h;rename_i b H bk;exact b0 H ag a1 (by rw[bk];exact⟨h.1,rfl⟩) h.2;rename_i b s1 M bk;obtain⟨a3,a4,h2⟩:=adV a1 h;cases hb:b.ai O;exact b0 M a3 a4 (by rw[bk];simp[OR.gives,hb]) (by simpa[hb] using h2);exact b0 s1 a3 a4 (by rw[bk];simp[OR.gives,hb]) (by simpa[hb] using h2);exact h.elim
  have b5:∀ag,vV O ag->(lJ A G ops k kp af (s.put m.o.dst (.bI [])) ag).aN p O L->wpOpsIn F n p.P ops Q (yS (j+1) (Y af)) (a.put m.o.dst undef) W:=
   λag a1 h=>A4 ba bb hF an hH HP af (j+1) _ ag L O V _ W bd (hB.go ((bB.refl _ _ _).put _ _) (cT.refl _ _)) h a1 (R.put m.o.dst (.bI [])) hg
    (λM z x a2 w r aa ab R2 ac=>hk M z x a2 w r (((bB.refl _ _ _).put _ _).trans aa) ((cT.refl _ _).trans ab ((bB.refl s O V).put _ _).ax) R2 ac)
    (λv2 M z x a2 w r aa ab R2 ac=>a0 v2 M z x a2 w r (((bB.refl _ _ _).put _ _).trans aa) ((cT.refl _ _).trans ab ((bB.refl s O V).put _ _).ax) R2 ac)
  simp only[lJ,VP] at h;cases bc:m.o.guard with
  |none=>
   rw[bc] at h;have:lI m.o (yielded ops a.tmps)=true:=by simp[lI,bc]
   rw[aH this];exact b2 fx bx h
  |some q=>
   obtain⟨jj,co⟩:=q;rw[bc] at h;simp only at h;split at h;rename_i d hd;have hy:=amT R hd;split at h;rename_i b hb;have bl:=hy.1 b hb;cases co;simp only[iW,jB] at h;obtain⟨a3,a4,h2⟩:=adV bx h;cases a9:b.ai O;have:lI m.o (yielded ops a.tmps)=true:=by simp[lI,bc,bl,a9]
   rw[aH this];exact b2 a3 a4 (by simpa[a9] using h2);have:¬lI m.o (yielded ops a.tmps)=true:=by simp[lI,bc,bl,a9]
   rw[aP this];exact⟨λf _=>hF.fn f,b5 a3 a4 (by simpa[a9] using h2)⟩;simp only[dN] at h;obtain⟨a3,a4,h2⟩:=adV bx h;cases a9:b.ai O;have:¬lI m.o (yielded ops a.tmps)=true:=by simp[lI,bc,bl,a9]
   rw[aP this];exact⟨λf _=>hF.fn f,b5 a3 a4 (by simpa[a9] using h2)⟩;have:lI m.o (yielded ops a.tmps)=true:=by simp[lI,bc,bl,a9]
   rw[aH this];exact b2 a3 a4 (by simpa[a9] using h2);rename_i hb;have bl:=hy.2 hb;have:¬lI m.o (yielded ops a.tmps)=true:=by simp[lI,bc,bl]
   rw[aP this];exact⟨λf _=>hF.fn f,b5 fx bx h⟩;exact h.elim;exact h.elim
end
section
variable{d:ar}{m:World}{D:bT}{o:Ty}{V:ar}{O:aj}{s:S}{a:Act}{W:World}
def WI(X:ar):∀(l:bm)(n i:Nat),(sO X n l)[i]?=(l[i]?).map λx=>if X.contains (n+i) then x else Z
 |[],n,i=>by simp[sO]|x::R,n,0=>by simp[sO]
 |x::R,n,i+1=>by
  simp only[sO,vz];rw[WI X R (n+1) i,show n+1+i=n+(i+1) from ae]
theorem adZ:∀(l:bm)(i:Nat),bP (uu l) i=bP l i
 |[],i=>rfl
 |x::R,i=>by
  have X:=adZ R;simp only[uu];split;rename_i Q;cases i with
  |zero=>simp[bS]
  |succ i=>
   have:=X i
   grind [bS]
  cases i with|zero=>simp[bS]|succ i=>simpa[bS] using X i
def amV{l:bm}{b:TypeId×aq}(h:bP (uu (sO t 0 l)) X=U b):bP l X=U b:=by
 rw[adZ,ku,WI] at h;rw[ku];cases R:l[X]? with
 |none=>rw[R] at h;cases h
 |some x=>
  rw[R] at h;simp only[gc,dW] at h;split at h;rw[h];cases h
def WJ{l:bm}(h:aK (uu (sO t 0 l)) X=J):aK l X=true:=by
 obtain⟨b,R⟩:=jz.1 h;simp[aK,amV R]
def jG.ac3{P:bm}{N:bo}(R:jG d m V O P o N W)(L:ar):jG d m V O (uu (sO L 0 P)) o N W:=
 ⟨R.base,λi h=>R.own i (WJ h),λi j X Q=>R.inj i j (WJ X) (WJ Q),λi t H h=>R.box i t H (amV h),
  λk e M X Q=>⟨(R.ak k e M X Q).1,λb G i F=>(R.ak k e M X Q).2 b G i (WJ F)⟩⟩
def amW{l:bm}{i:Nat}{b:TypeId×aq}(h:bP (uu (l.take X)) i=U b):bP l i=U b:=by
 grind [adZ,ku]
def WK{l:bm}{i:Nat}(h:aK (uu (l.take X)) i=J):aK l i=true:=by
 obtain⟨b,R⟩:=jz.1 h;simp[aK,amW R]
def jG.take{P:bm}{N:bo}(R:jG d m V O P o N W)(n:Nat):jG d m V O (uu (P.take n)) o N W:=
 ⟨R.base,λi h=>R.own i (WK h),λi j X Q=>R.inj i j (WK X) (WK Q),λi t L h=>R.box i t L (amW h),
  λk e M X Q=>⟨(R.ak k e M X Q).1,λb H i G=>(R.ak k e M X Q).2 b H i (WK G)⟩⟩
def uG:∀(X:aL)(s:S),(s.bU X).2.au=s.au/\(s.bU X).2.tmps=s.tmps/\(s.bU X).2.ax=s.ax/\(s.bU X).2.lk=s.lk
 |[],s=>⟨rfl,rfl,rfl,rfl⟩
 |k::X,s=>by
  simp only[S.bU];obtain⟨R,Q,P,N⟩:=uG X (s.fresh k).2;cases k<;>exact⟨R,Q,P,N⟩
def ad0:∀(X:aL)(s:S),(s.bU X).2.pd=s.pd
 |[],s=>rfl
 |k::X,s=>by
  simp only[S.bU];rw[ad0 X (s.fresh k).2];cases k<;>rfl
def Hh:∀(X:aZ)(O:aj),(O.ext X).y=O.y
 |[],O=>rfl
 |x::X,O=>by
  simp only[aj.ext];rw[Hh X (O.add x)];cases x<;>rfl
def amX:∀(X:aL)(s:S)(k:Nat)(e:RK),s.rs[k]?=U e->(s.bU X).2.rs[k]?=U e
 |[],s,k,e,h=>h
 |q::X,s,k,e,h=>by
  simp only[S.bU];refine amX X _ k e ?_;cases q;exact h;exact h
  grind [S.fresh]
def xI:∀(X:aL)(R:aZ)(s:S)(O:aj),dK X R->Y O.i=s.ni->Y O.b=s.nb->Y O.r=Y s.rs->
  (O.ext R).i.length=(s.bU X).2.ni/\(O.ext R).b.length=(s.bU X).2.nb/\(O.ext R).r.length=(s.bU X).2.rs.length
 |[],[],s,O,_,Q,P,N=>⟨Q,P,N⟩|[],_::_,_,_,h,_,_,_=>by simp[dK] at h|_::_,[],_,_,h,_,_,_=>by simp[dK] at h
 |k::X,x::R,s,O,h,Q,P,N=>by
  obtain⟨L,M⟩:=h;simp only[S.bU,aj.ext];cases k<;>cases x<;>simp[qw] at L;exact xI X R _ _ M (by simp[S.fresh,aj.add,Q]) (by simp[S.fresh,aj.add,P]) (by simp[S.fresh,aj.add,N]);exact xI X R _ _ M (by simp[S.fresh,aj.add,Q]) (by simp[S.fresh,aj.add,P]) (by simp[S.fresh,aj.add,N]);exact xI X R _ _ M (by simp[S.fresh,aj.add,Q]) (by simp[S.fresh,aj.add,P]) (by simp[S.fresh,aj.add,N])
def Hj{PP:RK->RV->Prop}:∀(R:aL)(Q:aZ)(s:S)(O:aj),dK R Q->Y O.r=Y s.rs->
  (∀(q:Nat)(e:RK)(X:RV),R[q]?=U (.ak e)->Q[q]?=U (.r X)->PP e X)->(∀(k:Nat)(e:RK)(X:RV),s.rs[k]?=U e->O.r[k]?=U X->PP e X)->
  ∀(k:Nat)(e:RK)(X:RV),(s.bU R).2.rs[k]?=U e->(O.ext Q).r[k]?=U X->PP e X
 |[],[],s,O,_,_,_,M=>M|[],_::_,_,_,h,_,_,_=>by simp[dK] at h|_::_,[],_,_,h,_,_,_=>by simp[dK] at h
 |k::R,x::Q,s,O,h,L,F,M=>by
  obtain⟨B,H⟩:=h;have G:∀(q:Nat)(e:RK)(X:RV),R[q]?=U (.ak e)->Q[q]?=U (.r X)->PP e X:=λq e X N P=>F (q+1) e X (by simpa using N) (by simpa using P)
  simp only[S.bU,aj.ext];cases k<;>cases x<;>simp[qw] at B;exact Hj R Q _ _ H (by simp[S.fresh,aj.add,L]) G (by simpa[S.fresh,aj.add] using M);exact Hj R Q _ _ H (by simp[S.fresh,aj.add,L]) G (by simpa[S.fresh,aj.add] using M);rename_i A z;refine Hj R Q _ _ H (by simp[S.fresh,aj.add,L]) G ?_;intro k e X N P;simp only[S.fresh,aj.add] at N P;by_cases B:k<Y s.rs
  grind
  have y:k=Y s.rs:=by
   grind
  subst y;simp at N;rw[<-L] at P;simp at P;subst N P;exact F 0 A z rfl rfl
def Hk:aL->Nat
 |[]=>0|.ak _::X=>Hk X+1|_::X=>Hk X
def Nj:∀(X:aL)(P:aZ)(s:S)(O:aj),dK X P->Y O.r=Y s.rs->
  ∀(k:Nat)(e:RK)(R:RV),(s.bU X).2.rs[k]?=U e->(O.ext P).r[k]?=U R->(s.rs[k]?=U e/\O.r[k]?=U R)\/∃q:Nat,X[q]?=U (.ak e)/\P[q]?=U (.r R)/\k=Y s.rs+Hk (X.take q)
 |[],[],s,O,_,_,k,e,R,N,M=>.inl ⟨N,M⟩|[],_::_,_,_,h,_,_,_,_,_,_=>by simp[dK] at h|_::_,[],_,_,h,_,_,_,_,_,_=>by simp[dK] at h
 |B::X,x::P,s,O,h,L,k,e,R,N,M=>by
  obtain⟨A,G⟩:=h;simp only[S.bU,aj.ext] at N M;cases B<;>cases x<;>simp[qw] at A;rcases Nj X P _ _ G (by simp[S.fresh,aj.add,L]) k e R N M with Q|⟨q,Q⟩
  grind [S.fresh,aj.add]
  exact .inr ⟨q+1,by simpa[S.fresh,Hk] using Q⟩;rcases Nj X P _ _ G (by simp[S.fresh,aj.add,L]) k e R N M with Q|⟨q,Q⟩
  grind [S.fresh,aj.add]
  exact .inr ⟨q+1,by simpa[S.fresh,Hk] using Q⟩;rename_i y w;rcases Nj X P _ _ G (by simp[S.fresh,aj.add,L]) k e R N M with⟨F,H⟩|⟨q,Q⟩;simp only[S.fresh,aj.add] at F H;by_cases v:k<Y s.rs
  grind
  have z:k=Y s.rs:=by
   grind
  subst z;simp at F;rw[<-L] at H;simp at H;subst F H;exact .inr ⟨0,rfl,rfl,by simp[Hk]⟩;refine .inr ⟨q+1,by simpa using Q.1,by simpa using Q.2.1, ?_⟩
  grind [S.fresh,Hk]
def amY:∀{ks:aL}{q:Nat}{e:RK},ks[q]?=U (.ak e)->Mx ks=J
 |[],q,e,h=>by simp at h|k::ks,0,e,h=>by simp at h;subst h;rfl
 |k::ks,q+1,e,h=>by
  have:=amY (ks:=ks) (q:=q) (by simpa using h);cases k<;>first|exact this|rfl
def WL:∀{R:aL}{q:Nat}{k:LK},mQ R=J->R[q]?=U k->JW k=J
 |[],q,k,_,h=>by simp at h|Q::R,0,k,X,h=>by simp only[mQ,aC] at X;simp at h;subst h;exact X.1|Q::R,q+1,k,X,h=>by simp only[mQ,aC] at X;exact WL X.2 (by simpa using h)
def WM{B:Nat}{M:Nat->Prop}:∀{N:aL}{P:aZ},CH o W B M N P->∀(q:Nat)(e:RK)(X:RV),N[q]?=U (.ak e)->P[q]?=U (.r X)->bG W o e X/\∀b,dU o e X b->B<=b\/M b
 |[],P,_,q,e,X,R,_=>by simp at R|_::_,[],_,q,e,X,_,Q=>by simp at Q|k::N,x::P,h,0,e,X,R,Q=>by simp at R Q;subst R Q;exact h.1|k::N,x::P,h,q+1,e,X,R,Q=>WM h.2 q e X (by simpa using R) (by simpa using Q)
def aA.called(R:aA d m D o V O s a W)(w:s.bd=J){P:aL}(g:mQ P=J){N:aZ}(B:dK P N)(v:Below W.heap.size W e){f:Nat->Prop}(ho:∀b,f b->O.pi o s.rs b/\∀(k:Nat)(X:TypeId)(Q:RV),s.rs[k]?=U (.own X)->O.r[k]?=U Q->Q.ly=U b->Mx P=E)
  (c:CH o e W.heap.size f P N):
  aA d m D o V (O.ext N) (s.bU P).2 a e:=by
 obtain⟨L,e2,e3,e4⟩:=uG P s;obtain⟨l1,l2,l3⟩:=xI P N s O B R.ei R.eb R.er;obtain⟨aa,ab⟩:=R.zo w;have hE:=CJ s.au O N V;have H:=R.mem.below v;refine⟨⟨H.base,by rw[L];exact H.own,by rw[L];exact H.inj, ?_, ?_⟩,by rw[L];exact R.gE,l1,l2,l3,by rw[Hh,ad0];exact R.dh.below v,by rw[e2];exact R.size, ?_, ?_⟩;rw[L];intro i t cs h;rw[hE.bK (sZ ab h)];exact H.box i t cs h;rw[L];refine Hj (PP:=λX Q=>bG e o X Q/\∀b,dU o X Q b->∀i,aK s.au i=J->ad V i≠b) P N s O B R.er ?_ (λk X Q M G=>H.ak k X Q M G);intro q X Q M G;obtain⟨u,h4⟩:=WM c q X Q M G;refine⟨u,λb w i hi=> ?_⟩;rcases h4 b w with A|A;have:=R.mem.lt hi;omega;obtain⟨⟨k,z,hk,hx⟩,-⟩:=ho b A;exact(R.mem.ak k _ _ hk (uF R hk)).2 b hx i hi;rw[e2];intro t sv h;rcases R.tmps t sv h with M|M
 grind
 right;rw[hE.ai (xE aa h)];exact M;rw[L];intro k X Q b M G u;rcases Nj P N s O B R.er k _ Q M G with⟨n,g2⟩|⟨q,n,g2,-⟩;have t:=R.eL k X Q b n g2 u;have y:=t.world (v.block b t.lt);refine⟨y.own,y.mem,y.box,λk' z l q1 q2 q3 x=> ?_,y.inner⟩;rcases Nj P N s O B R.er k' z l q2 q3 with⟨F,j⟩|⟨q,F,j,-⟩;exact t.alone k' z l q1 F j x;have hr:=amY F;obtain⟨p3,p4⟩:=WM c q z l F j;rcases x with x|⟨⟨t0,rfl⟩,_⟩;rcases p4 b x with A|A;have:=t.lt;omega
 grind
 have:=WL g F;simp[JW] at this;have:=WL g n;simp[JW] at this
def ad1(R:aA d m D o V O s a W){M:aq}{H:aL}{b:Nat}(h:O.pi o (JX M s.rs) b):
  O.pi o (EE M H s.rs) b/\∀(k:Nat)(e:TypeId)(L:RV),(EE M H s.rs)[k]?=U (.own e)->O.r[k]?=U L->L.ly=U b->Mx H=false:=by
 obtain⟨Q,u,X,B⟩:=h;unfold JX at X;rw[adp] at X;cases P:s.rs[Q]? with
 |none=>rw[P] at X;cases X
 |some x=>
  rw[P] at X;simp only[jm,gc,dW] at X;have A:=al5 ((Rj M (Y s.rs)).contains Q) x;rw[X] at A;have N:dU o x (O.rv Q) b:=B.lL A;refine⟨?_,λk e L G y w=> ?_⟩;unfold EE;split;refine⟨Q,AK ((Rj M (Y s.rs)).contains Q) x,by rw[M6,P];simp, ?_⟩;cases x<;>simp only[AK]<;>try exact N
  split;cases N with|own e L b N=>exact N
  exact N;exact⟨Q,x,P,N⟩;unfold EE at G;split at G;rename_i t;exfalso;obtain⟨F,v⟩:=adw G;by_cases z:Q=k;subst z;rw[P] at F;cases F;simp only[Rc] at X;rw[aP (by simpa using v)] at X;subst X;cases B;exact(R.eL k e L b F y w).alone Q x (O.rv Q) z P (uF R P) (.inl N)
  grind
def CU(R:aq)(Q:aL)(X:bo):rf X (EE R Q X):=by
 unfold EE;split;exact RQ _ _;exact rf.refl _
end
section
variable{p:Sp}{c:bv}
def amZ(w:p.ty=c.ty)(n:∀g,(c.sig g).isSome=J->∀X W,(callFunc g X).run p.P W=.ok (.enter g X) W)
  (D:bT)(L:dm)(g:FuncId)(X:aq)(s:S)(k:C->S->T)(O:aj)(V:ar)(a:Act)(W:World)(B:Ending->World->Prop)
  (h:(AP c g X s k).aN p O L)(R:aA p.S0 p.w0 D c.ty V O s a W)
  (j:∀v A H z Q u,bB s O V A H z->cT s.ax L u->aA p.S0 p.w0 D c.ty z H A a Q->(k v A).aN p H u->B (.returned (v.ai H z)) Q)
  (i:∀G Q f y,ef p.w0 D f y a.defers Q->p.R (.panicked G) Q->B (.panicked G) Q):
  (∀X W,(callFunc g X).run p.P W=.ok (.enter g X) W)/\Calls p.P g (C.az O V X).toArray W B:=by
 unfold AP at h;split at h;rename_i ts aa;refine⟨n g (by rw[aa];rfl), ?_⟩;split at h;rename_i M ac;split at h;rename_i l hl;split at h;rename_i N;simp only[S.eW,aC,akF] at N;obtain⟨⟨N,ab⟩,hv⟩:=N;simp only[T.aN,hv] at h;have:=h O.y V W (by rw[w];exact(R.mem.ac3 _).lL (adq _ _));refine this.mono ?_;intro e Q F;cases e with
 |returned v=>
  obtain⟨x,h1,t,h3,r,h5⟩:=F;rw[w] at r;obtain⟨q,e2,e3,e4⟩:=uG M (s.cut X M);have hy:(O.ext x).at O.y=O.ext x:=by have:=Hh x O;unfold aj.at;rw[<-this]
  rw[hy] at t;subst t;have R1:aA p.S0 p.w0 D c.ty V O (s.cut X M) a W:=R.lL (CU X M s.rs);exact j _ _ _ V Q L ⟨CJ _ _ _ _,by rw[q];exact λ_ h=>h,by rw[q];exact cd _,by rw[e3];exact cd _⟩ (cT.refl _ _) (R1.called (Na N.1 (CU X M s.rs).len) ab h1 h3 (λb N=>ad1 R N) r) h5
 |panicked G=>exact i G Q _ _ (R.dh.below F.1) F.2|outgrown=>exact F.elim
 exact h.elim;exact h.elim;exact h.elim;exact h.elim
def ad2{d:ar}{m:World}{D:bT}{V:ar}{O:aj}{s:S}{a:Act}{W:World}(R:aA d m D c.ty V O s a W)(M:ju p.P c.ty)(f:ResultVar->Sem Value)(L:∀t,f (.tmp t)=pure (a.tmps.getD t undef))(H:∀x t,f (.cell x t)=(asAddr (a.tmps.getD x undef)>>=λy=>loadVar t y)):
  ∀(X:nD)(l:aq),uw c s X=U l->(X.mapM f).run p.P W=.ok (C.az O V l) W
 |[],l,h=>by simp[uw] at h;subst h;rfl
 |.tmp t::X,l,h=>by
  simp only[uw] at h;split at h;rename_i G F;split at h;cases h;rename_i z;cases h;have N:=db (gl:=[]) R (λ_ Q=>by cases Q) (.tmp t) (by simpa[S.ev,yW] using z);simp only[Act.eval,S.ev,yW] at N;simp only[awc,dD,L,fu,dC,ad2 R M f L H X G F,C.az,N];cases h
 |.cell x t::X,l,h=>by
  simp only[uw] at h;split at h;rename_i G i g e F Q w;split at h;rename_i u r B;split at h;rename_i v q;cases h;have N:=db (gl:=[]) R (λ_ Q=>by cases Q) (.tmp x) (by simp only[S.ev,yW,Q];rfl);simp only[Act.eval,S.ev,yW,Q,C.ai] at N;have A:=Wg (P:=p.P) (W:=W) (M _ _ w) (O:=O) (V:=V) (b:=ad V i) (base:=0) q (λj y n=>by
   obtain⟨B,k⟩:=AU B;have:=R.mem.box i u r B;rw[qz k] at this;simp[oE,this,uC,n])
  simp only[Instr.loadAt,Instr.sureAddr,jm,dD,fu,dC] at A;simp only[awc,dD,H,N,asAddr,fu,dC,A,ad2 R M f L H X G F,C.az];cases h;cases h;cases h
def Kh{D:bT}{V:ar}{a:Act}{W:World}(X:aA t e D c.ty V x R a W)(N:ju p.P c.ty){Q:Func}{l:aq}(h:uw c R Q.results.toList=U l):
  (results Q a.tmps).run p.P W=.ok ((one l).ai x V) W:=by
 unfold results;rw[aID];simp only[dD,Sem.run_map];rw[ad2 X N _ (λ_=>rfl) (λ_ _=>rfl) Q.results.toList l h];simp only[dC,fu];congr 1
 match l with|[]=>rfl|[v]=>rfl|v::w::r=>rfl
end
section
variable{c:ar}{d:World}{D:bT}{f:bv}{V:ar}{O:aj}{s:S}{a:Act}{W:World}
def uH(W:World):List (Nat×Obj)->World
 |[]=>W|x::l=>uH (W.putObj x.1 x.2) l
def WN:∀{l:List (Nat×Obj)}{W:World},(uH W l).heap.size=W.heap.size
 |[],_=>rfl|x::l,W=>by rw[uH,WN (l:=l)];simp
theorem Si:∀{l:List (Nat×Obj)}{W:World}{k:Nat},k∉l.map (·.1)->(uH W l).heap[k]?=W.heap[k]?
 |[],_,_,_=>rfl
 |x::l,W,k,h=>by
  simp only[dG,eu,not_or] at h;rw[uH,Si h.2,uk h.1]
def ad3:∀{l:List (Nat×Obj)}{W:World}{x:Nat×Obj},(l.map (·.1)).Nodup->x∈l->x.1<W.heap.size->(uH W l).heap[x.1]?=U x.2
 |[],_,_,_,h,_=>by simp at h
 |y::l,W,x,X,h,R=>by
  simp only[dG,Eo] at X;rw[uH];rcases eu.1 h with rfl|h;rw[Si X.1,avJ R];exact ad3 X.2 h (by simpa using R)
def ad4:∀{l:List (Nat×Obj)}{W:World},(uH W l).os=W.os/\(uH W l).tape=W.tape/\(uH W l).output=W.output/\(uH W l).drawn=W.drawn
 |[],_=>⟨rfl,rfl,rfl,rfl⟩|x::l,W=>by rw[uH];exact ad4 (l:=l)
def axV{w:World}(X:e.os=w.os)(R:e.tape=w.tape)(Q:e.output=w.output)(P:e.drawn=w.drawn)(N:∀k:Nat,e.heap[k]?=w.heap[k]?):e=w:=by
 have:e.heap=w.heap:=by
  apply nA;apply kS
  grind
 cases e;cases w;simp_all
def am0{Q:Ty}{B:Nat}{N:Nat->Prop}:∀{P:aL}{X:aZ},(∀(q:Nat)(e:RK)(R:RV),P[q]?=U (.ak e)->X[q]?=U (.r R)->bG W Q e R/\∀b,dU Q e R b->B<=b\/N b)->CH Q W B N P X
 |[],X,_=>by cases X<;>trivial
 |_::_,[],_=>trivial
 |k::P,x::X,h=>by
  refine⟨?_,am0 λq e R M L=>h (q+1) e R (by simpa using M) (by simpa using L)⟩;cases k<;>cases x<;>try trivial
  exact h 0 _ _ rfl rfl
def aA.am1:∀{l:List (Nat×TypeId×aq)}{s:S}{W:World},aA c d D f.ty V O s a W->(∀x∈l,∃P,bP s.au x.1=U (x.2.1,P))->
  aA c d D f.ty V O (s.o8 l) a (uH W (l.map λx=>(ad V x.1,j5 x.2.1 (C.bK O V x.2.2))))
 |[],_,_,R,_=>R
 |x::l,s,W,R,h=>by
  obtain⟨P,Q⟩:=h x aw;refine aA.am1 (l:=l) (R.Wz (cs':=x.2.2) Q) λy N=> ?_
  obtain⟨M,X⟩:=h y (by simp[N]);have L:x.1<Y s.au:=(dq.1 (ku.1 Q)).1;by_cases e:y.1=x.1;refine⟨x.2.2, ?_⟩;rw[e,S.cX,EY L];rw[e,Q] at X;simp only[dW,Jy] at X;rw[X.1];exact⟨M,by rw[S.cX,xH e];exact X⟩
def aA.axW(R:aA c d D f.ty V O s a W)(B:s.bd=J){M:aL}(aa:mQ M=J){P:aZ}(hf:dK M P)
  {rw:List (Nat×TypeId×aq)}(t:∀x∈rw,∃o,bP s.au x.1=U (x.2.1,o))(al:(rw.map (·.1)).Nodup)
  (L:fl (rw.map λx=>ad V x.1) W e)(hN:∀x∈rw,e.heap[ad V x.1]?=U (j5 x.2.1 (C.bK (O.ext P) V x.2.2)))
  {A:Nat->Prop}(n:∀b,A b->O.pi f.ty s.rs b/\∀(k:Nat)(X:TypeId)(z:RV),s.rs[k]?=U (.own X)->O.r[k]?=U z->z.ly=U b->Mx M=E)
  (hh:CH f.ty e W.heap.size A M P):
  aA c d D f.ty V (O.ext P) ((s.bU M).2.o8 rw) a e:=by
 obtain⟨e1,e2,e3,e4⟩:=uG M s;have w:∀x∈rw,aK s.au x.1=true:=λx Q=>by obtain⟨o,h⟩:=t x Q;simp[aK,h]
 have an:∀x∈rw,∀y∈rw,ad V x.1=ad V y.1->x.1=y.1:=λx Q y hy h=>R.mem.inj _ _ (w x Q) (w y hy) h
 have ab:∀x∈rw,ad V x.1<W.heap.size:=λx Q=>R.mem.lt (w x Q)
 obtain⟨F,m⟩:∃F:List (Nat×Obj),F=rw.map λx=>(ad V x.1,(W.heap[ad V x.1]?).getD (.cells #[] 0 (0,0))):=⟨_,rfl⟩
 obtain⟨H,N⟩:∃H,H=uH e F:=⟨_,rfl⟩;have u:F.map (·.1)=rw.map λx=>ad V x.1:=by rw[m];simp
 have j:(rw.map λx=>ad V x.1).Nodup:=by
  have h0:∀l:List (Nat×TypeId×aq),(∀x∈l,x∈rw)->(l.map (·.1)).Nodup->(l.map λx=>ad V x.1).Nodup:=by
   intro l;induction l with
   |nil=>intro _ _;exact List.nodup_nil
   |cons y l ih=>
    grind
  grind
 obtain⟨i,g,r3,r4⟩:=ad4 (l:=F) (W:=e);have hB:Below W.heap.size W H:=by
  rw[N];refine⟨i.trans L.os,g.trans L.tape,r3.trans L.output,by rw[WN];exact L.size,λk v=> ?_⟩;by_cases G:k∈rw.map λx=>ad V x.1
  obtain⟨x,Q,rfl⟩:=fw.1 G;have hg:(ad V x.1,(W.heap[ad V x.1]?).getD (.cells #[] 0 (0,0)))∈F:=by rw[m];exact fw.2 ⟨x,Q,rfl⟩
  have:=ad3 (W:=e) (by rw[u];exact j) hg (by have:=L.size;simp only;omega)
  grind
  rw[Si (by rw[u];exact G)];exact L.block k v G
 have ac:∀b,(W.heap.size<=b\/A b)->b∉rw.map λx=>ad V x.1:=by
  intro b B G;obtain⟨x,Q,rfl⟩:=fw.1 G;rcases B with h|h
  grind
  obtain⟨⟨k,e',v,hl⟩,-⟩:=n _ h;exact(R.mem.ak k _ _ v (uF R v)).2 _ hl x.1 (w x Q) rfl
 have af:CH f.ty H W.heap.size A M P:=by
  refine am0 (λq X z h1 h2=> ?_);obtain⟨h3,h4⟩:=WM hh q X z h1 h2;exact⟨h3.J8 (λb B=>by rw[N,Si (by rw[u];exact ac b (h4 b B))]) (by rw[N,WN];exact cd _),h4⟩
 have R1:=R.called B aa hf hB n af;have R2:=R1.am1 (l:=rw) (λx Q=>by rw[e1];exact t x Q);have a0:uH H (rw.map λx=>(ad V x.1,j5 x.2.1 (C.bK (O.ext P) V x.2.2)))=e:=by
  obtain⟨q1,q2,q3,q4⟩:=ad4 (l:=rw.map λx=>(ad V x.1,j5 x.2.1 (C.bK (O.ext P) V x.2.2))) (W:=H);have ag:(rw.map λx=>(ad V x.1,j5 x.2.1 (C.bK (O.ext P) V x.2.2))).map (·.1)=rw.map λx=>ad V x.1:=aw
  have a1:H.heap.size=e.heap.size:=by rw[N,WN]
  refine axV (q1.trans (by rw[N];exact i)) (q2.trans (by rw[N];exact g)) (q3.trans (by rw[N];exact r3)) (q4.trans (by rw[N];exact r4)) λk=> ?_
  by_cases G:k∈rw.map λx=>ad V x.1
  obtain⟨x,Q,rfl⟩:=fw.1 G;rw[hN x Q];exact ad3 (x:=(ad V x.1,j5 x.2.1 (C.bK (O.ext P) V x.2.2))) (by rw[ag];exact j) (fw.2 ⟨x,Q,rfl⟩) (by have:=ab x Q;have:=L.size;simp only;omega)
  grind [Si]
 grind
end
section
variable{p:Sp}{f:bv}{D:bT}{V:ar}{O:aj}{s:S}{a:Act}{W:World}
def axX(F:p.ty=f.ty){Q:VI}{N:aq}{M:aL}{m:Nat}{X:aj->Prop}(H:s.bd=J)(w:mQ M=J)
  (u:∀x∈Q.out,∃t,bP s.au x.1=U (x.2.1,t))(r:(Q.out.map (·.1)).Nodup)
  (h:alu p Q N (uu (s.au.take m)) (JX N s.rs) M O X)(R:aA p.S0 p.w0 D f.ty V O s a W):
  Calls p.P Q.g (C.az O V (N.take Q.n)++C.az O V Q.bC).toArray W λe B=>e=.returned (.tuple #[])/\∃L,aA p.S0 p.w0 D f.ty V (O.ext L) (((s.cut N M).bU M).2.o8 Q.out) a B/\X (O.ext L):=by
 have:=h O.y V W (by rw[F];exact(R.mem.take m).lL (adq _ _));refine this.mono ?_;intro e B G;cases e with
 |returned v=>
  obtain⟨L,q,rfl,o,A,z,l⟩:=G;rw[F] at z;have k:(O.ext L).at O.y=O.ext L:=by have:=Hh L O;unfold aj.at;rw[<-this]
  rw[k] at A;have j:aA p.S0 p.w0 D f.ty V O (s.cut N M) a W:=R.lL (CU N M s.rs);exact⟨rfl,L,j.axW (Na H (CU N M s.rs).len) w q u r o A (λb H=>ad1 R H) z,l⟩
 |panicked i=>exact G.elim|outgrown=>exact G.elim
end
def ad5:∀(l:List (Nat×TypeId×aq))(s:S),(s.o8 l).tmps=s.tmps/\(s.o8 l).ax=s.ax/\(s.o8 l).lk=s.lk/\(s.o8 l).pd=s.pd/\(s.o8 l).rs=s.rs/\(s.o8 l).ni=s.ni/\(s.o8 l).nb=s.nb/\(s.o8 l).au.length=Y s.au
 |[],s=>⟨rfl,rfl,rfl,rfl,rfl,rfl,rfl,rfl⟩
 |x::l,s=>by
  obtain⟨X,R,Q,P,N,M,L,H⟩:=ad5 l (s.cX x.1 x.2.1 x.2.2)
  grind [S.o8,S.cX]
def am2:∀(l:List (Nat×TypeId×aq))(s:S)(i:Nat),aK s.au i=J->aK (s.o8 l).au i=J
 |[],_,_,h=>h
 |x::l,s,i,h=>by
  refine am2 l _ i ?_;simp only[S.cX];by_cases e:i=x.1;subst e;obtain⟨b,X⟩:=jz.1 h;have R:=(dq.1 (ku.1 X)).1;simp[aK,EY R];simp only[aK,xH e];exact h
def am3:∀l:List (Nat×TypeId),VR (l.map λx=>C.iP x.1 x.2 0 0)=l
 |[]=>rfl|x::l=>by simp only[dG,VR,am3 l]
def axY(X:VI):zg X.sv=U X:=by
 have R:ko 3999999 (4000000+X.g)=true:=by rw[Nat.blt_eq];omega
 simp only[VI.sv,zg,R,cond_true,Vi,rM,am3]
def Nk:∀{l:List LB}{k i:Nat}{t:TypeId},(i,t)∈eB k l->k<=i/\l[i-k]?=U (.rw t)
 |[],k,i,t,h=>by simp[eB] at h
 |b::l,k,i,t,h=>by
  have X:(i,t)∈eB (k+1) l->k<=i/\(b::l)[i-k]?=U (.rw t):=λh=>by
   obtain⟨Q,P⟩:=Nk h
   grind
  cases b with
  |rw R=>
   grind [eB,Jy]
  |no=>exact X (by simpa[eB] using h)|ro R=>exact X (by simpa[eB] using h)|st R N=>exact X (by simpa[eB] using h)
def am4:∀{l:List LB}{k:Nat},((eB k l).map (·.1)).Nodup
 |[],k=>by simp[eB]
 |b::l,k=>by
  have X:=am4 (l:=l) (k:=k+1);cases b with
  |rw t=>
   simp only[eB,dG,Eo];refine⟨λh=> ?_,X⟩;obtain⟨⟨i,Q⟩,R,P⟩:=fw.1 h;have:=(Nk R).1;omega
  |no=>exact X|ro t=>exact X|st t N=>exact X
def Nl{B:Ty}:∀{l:List LB}{X:bm}{H:aq},kG B l X=U H->∀(i:Nat)(t:TypeId),l[i]?=U (.rw t)->∃R,bP X i=U (t,R)/\mN t=E
 |[],_,_,_,i,t,h=>by simp at h
 |b::l,X,H,h,i,t,Q=>by
  cases b with
  |no=>
   simp only[kG] at h;cases i with
   |zero=>simp at Q
   |succ i=>
    obtain⟨R,L,P⟩:=Nl h i t (by simpa using Q);refine⟨R, ?_,P⟩;cases X with|nil=>simp[bS] at L|cons x X=>simpa[bS] using L
  |ro G=>
   cases X with
   |nil=>simp[kG] at h
   |cons x X=>
    cases x with
    |none=>simp[kG] at h
    |some x=>
     simp only[kG] at h;split at h;split at h;rename_i v r L P;cases i with|zero=>simp at Q|succ i=>obtain⟨R,N,M⟩:=Nl P i t (by simpa using Q);exact⟨R,by simpa[bS] using N,M⟩
     cases h;cases h
  |rw G=>
   cases X with
   |nil=>simp[kG] at h
   |cons x X=>
    cases x with
    |none=>simp[kG] at h
    |some x=>
     simp only[kG] at h;split at h;rename_i F;simp at F;split at h;rename_i v r L P;cases i with
     |zero=>
      grind [Ju,LB.rw.injEq,bS,F.1]
     |succ i=>obtain⟨R,N,M⟩:=Nl P i t (by simpa using Q);exact⟨R,by simpa[bS] using N,M⟩
     cases h;cases h
  |st G gJ=>
   cases X with
   |nil=>simp[kG] at h
   |cons x X=>
    cases x with
    |none=>simp[kG] at h
    |some x=>
     simp only[kG] at h;split at h;cases i with|zero=>simp at Q|succ i=>obtain⟨R,N,M⟩:=Nl h i t (by simpa using Q);exact⟨R,by simpa[bS] using N,M⟩
     cases h
section
variable{p:Sp}{f:bv}
def axZ(aa:p.ty=f.ty)(ab:∀g,(f.sig g).isSome=J->∀Q W,(callFunc g Q).run p.P W=.ok (.enter g Q) W)
  (D:bT)(L:dm)(g:FuncId)(X:sN)(Q:aq)(s:S)(k:C->S->T)(O:aj)(V:ar)(a:Act)(W:World)(r:Ending->World->Prop)
  (h:(VS f g X Q s k).aN p O L)(R:aA p.S0 p.w0 D f.ty V O s a W)
  (hk:∀v B N A M o,bB s O V B N A->cT s.ax L o->aA p.S0 p.w0 D f.ty A N B a M->(k v B).aN p N o->r (.returned (v.ai N A)) M):
  (∀Q W,(callFunc g Q).run p.P W=.ok (.enter g Q) W)/\Calls p.P g (C.az O V Q).toArray W r:=by
 unfold VS at h;split at h;rename_i u H ac a3;split at h;rename_i l hl;split at h;rename_i G;simp only[S.eW,aC,dl] at G;obtain⟨⟨⟨⟨⟨hb,ce⟩,af⟩,a4⟩,fP⟩,F⟩:=G;refine⟨ab g (by rw[fP];rfl), ?_⟩;simp only[T.aN,axY] at h;have ag:∀x∈VI.out ⟨g,X.n,X.bC,eB 0 X.bx,l⟩,(x.1,x.2.1)∈eB 0 X.bx:=λx t=>by
  obtain⟨⟨q,v⟩,hq,rfl⟩:=fw.1 t;exact(ab9 hq).1
 have al:∀x∈VI.out ⟨g,X.n,X.bC,eB 0 X.bx,l⟩,∃m,bP s.au x.1=U (x.2.1,m):=λx t=>by
  obtain⟨-,h2⟩:=Nk (ag x t);obtain⟨m,h3,-⟩:=Nl ac x.1 x.2.1 (by simpa using h2)
  grind
 have an:((VI.out ⟨g,X.n,X.bC,eB 0 X.bx,l⟩).map (·.1)).Nodup:=by
  have h1:∀(a:List (Nat×TypeId))(b:aq),(a.map (·.1)).Nodup->(((a.zip b).map λx=>(x.1.1,x.1.2,x.2.cells)).map (·.1)).Nodup:=by
   intro a;induction a with
   |nil=>intro b _;simp
   |cons x a ih=>
    intro b F;cases b with
    |nil=>simp
    |cons y b=>
     simp only[dG,Eo] at F;simp only[En,dG,Eo];refine⟨λG=>F.1 ?_,ih b F.2⟩;obtain⟨z,hz,a0⟩:=fw.1 G;obtain⟨w,hw,rfl⟩:=fw.1 hz;exact fw.2 ⟨w.1,(ab9 hw).1,a0⟩
  exact h1 _ _ am4
 have hR:=axX aa hb af al an h R;have a1:C.az O V Q=C.az O V ((Q.take X.n++u).take X.n)++C.az O V X.bC:=by
  grind [Nat.min_self,C.pm,G4,Jr]
 rw[a1];refine hR.mono ?_;rintro e M ⟨rfl,xs,R2,h5⟩;obtain⟨q1,q2,q3,q4,q5,q6,q7,q8⟩:=ad5 (VI.out ⟨g,X.n,X.bC,eB 0 X.bx,l⟩) ((s.cut (Q.take X.n++u) H).bU H).2;obtain⟨j,e2,e3,e4⟩:=uG H (s.cut (Q.take X.n++u) H);exact hk (.bI []) _ _ V M L ⟨CJ _ _ _ _,λi hi=>am2 _ _ i (by rw[j];exact hi),by rw[q8,j];exact cd _,by rw[q2,e3];exact cd _⟩ (cT.refl _ _) R2 h5;exact h.elim;exact h.elim;exact h.elim
end
def Sj:aq:=[.loc 0 0,.loc 5 0,.loc 2 0,.loc 3 0,.loc 6 0]
def ad6:List (FuncId×sN):=[(18,⟨308,3,[44,39,3,41,44,3,3,65],Sj,[.ro 41,.ro 44,.ro 3,.rw 3,.rw 65,.st 66 [.fn (1000000+17) [.loc 4 0]],.st 67 [.fn 18 Sj]]⟩)]
def oL(v:FuncId):Option (FuncId×sN):=ad6.find? λx=>x.2.v==v
def ax0(g:FuncId):Option sN:=(ad6.find? λx=>x.1==g).map (·.2)
def Nn(X:FuncId->mg)(f:FuncId):mg:=match oL f with|U x=>U x.2.ps|none=>X f
def No(X:FuncId->mg)(f:FuncId):mg:=match oL f with|U x=>U ((eB 0 x.2.bx).map (·.2))|none=>X f
def Np(V:Ty)(f:FuncId)(W:aq)(R:bm)(fz:C):Bool:=match oL f,zg fz with
 |Z,Z=>J
 |U (g,L),U X=>X.g==g&&X.n==L.n&&C.n8 X.bC L.bC&&decide (X.rw=eB 0 L.bx)&&(Y X.l==Y X.rw)&&decide (L.n<=Y W)&&(match kG V L.bx R with|U Q=>C.n8 Q (W.drop L.n)|none=>E)
 |_,_=>E
section
variable{d:ar}{m:World}{D:bT}{ty:Ty}{V:ar}{O:aj}{s:S}{a:Act}{W:World}
def XV.at(k:LK):XV->Value
 |.i n=>match k with|.int k=>.int k n|_=>undef
 |.b x=>.bool x|.r v=>v.val
def XV.Sk(k:LK)(x:XV):RV:=match x with|.r v=>v|x=>.mk (x.at k) []
def ax1{k:LK}(h:ED R k r=J):(r.xv x).Sk k=r.gg x t:=by
 unfold ED at h;split at h;simp at h;subst h;rfl;rfl;rfl;rfl;rfl;rfl;cases h
def am5{V1:ar}{k:LK}(h:ED R k r=J):(r.xv x).at k=r.ai x V1/\qw k (r.xv x):=by
 unfold ED at h;split at h;simp at h;subst h;exact⟨rfl,trivial⟩;exact⟨rfl,trivial⟩;exact⟨rfl,trivial⟩;exact⟨rfl,trivial⟩;exact⟨rfl,trivial⟩;exact⟨rfl,trivial⟩;cases h
def am6{N:S}:∀{X:aL}{R:aq},uy N X R=J->Y X=Y R/\∀(q:Nat)(k:LK)(v:C),X[q]?=U k->R[q]?=U v->ED N k v=J
 |[],[],_=>⟨rfl,λq k v h _=>by simp at h⟩|[],_::_,h=>by simp[uy] at h|_::_,[],h=>by simp[uy] at h
 |k::X,v::R,h=>by
  simp only[uy,aC] at h;obtain⟨M,L⟩:=am6 h.2;refine⟨by simp[M],λq H G Q P=> ?_⟩;cases q with|zero=>simp at Q P;subst Q P;exact h.1|succ q=>exact L q H G (by simpa using Q) (by simpa using P)
def ad7{Q:S}{O1:aj}:∀{X:aL}{R:aq},uy Q X R=J->dK X (R.map (C.xv O1))
 |[],[],_=>trivial|[],_::_,h=>by simp[uy] at h|_::_,[],h=>by simp[uy] at h
 |k::X,v::R,h=>by
  simp only[uy,aC] at h;exact⟨(am5 (V1:=[]) h.1).2,ad7 h.2⟩
def WO:∀(R:aL)(X:aZ)(s:S)(O:aj),dK R X->Y O.i=s.ni->Y O.b=s.nb->Y O.r=Y s.rs->
  ∀(q:Nat)(k:LK)(x:XV)(v:C),R[q]?=U k->X[q]?=U x->(s.bU R).1[q]?=U v->v.ai (O.ext X) V=x.at k/\v≠ .any
 |[],_,_,_,_,_,_,_,q,k,x,v,h,_,_=>by simp at h|_::_,[],_,_,h,_,_,_,q,k,x,v,_,_,_=>by simp[dK] at h
 |B::R,M::X,s,O,A,L,H,G,0,k,x,v,Q,P,N=>by
  obtain⟨z,F⟩:=A;simp only[S.bU,Cd,dW] at Q P N;subst Q P N;have y:=EQ X (O.add M);simp only[aj.ext];cases B<;>cases M<;>simp[qw] at z
  grind [S.fresh,C.ai,K.ai,XV.at,y.i,aj.add]
  grind [S.fresh,C.ai,BE.ai,XV.at,y.b,aj.add]
  refine⟨?_,by simp[S.fresh]⟩;simp only[S.fresh,C.ai,RE.ai,RE.rv,XV.at]
  grind [y.r,aj.add,aj.rv]
 |B::R,M::X,s,O,A,L,H,G,q+1,k,x,v,Q,P,N=>by
  obtain⟨z,F⟩:=A;simp only[S.bU,vz] at Q P N;simp only[aj.ext];cases B<;>cases M<;>simp[qw] at z;exact WO R X _ _ F (by simp[S.fresh,aj.add,L]) (by simp[S.fresh,aj.add,H]) (by simp[S.fresh,aj.add,G]) q k x v Q P N;exact WO R X _ _ F (by simp[S.fresh,aj.add,L]) (by simp[S.fresh,aj.add,H]) (by simp[S.fresh,aj.add,G]) q k x v Q P N;exact WO R X _ _ F (by simp[S.fresh,aj.add,L]) (by simp[S.fresh,aj.add,H]) (by simp[S.fresh,aj.add,G]) q k x v Q P N
def WP:∀(R:aL)(X:aZ)(s:S)(O:aj),dK R X->Y O.i=s.ni->Y O.b=s.nb->Y O.r=Y s.rs->
  ∀(q:Nat)(k:LK)(x:XV)(v:C),R[q]?=U k->X[q]?=U x->(s.bU R).1[q]?=U v->v.gg (O.ext X) V=x.Sk k
 |[],_,_,_,_,_,_,_,q,k,x,v,h,_,_=>by simp at h|_::_,[],_,_,h,_,_,_,q,k,x,v,_,_,_=>by simp[dK] at h
 |B::R,M::X,s,O,A,L,H,G,0,k,x,v,Q,P,N=>by
  obtain⟨z,F⟩:=A;simp only[S.bU,Cd,dW] at Q P N;subst Q P N;have y:=EQ X (O.add M);simp only[aj.ext];cases B<;>cases M<;>simp[qw] at z
  skip
  grind [S.fresh,C.gg,C.ai,K.ai,XV.Sk,XV.at,y.i,aj.add]
  skip
  grind [S.fresh,C.gg,C.ai,BE.ai,XV.Sk,XV.at,y.b,aj.add]
  skip
  grind [S.fresh,C.gg,RE.rv,XV.Sk,y.r,aj.add,aj.rv]
 |B::R,M::X,s,O,A,L,H,G,q+1,k,x,v,Q,P,N=>by
  obtain⟨z,F⟩:=A;simp only[S.bU,vz] at Q P N;simp only[aj.ext];cases B<;>cases M<;>simp[qw] at z;exact WP R X _ _ F (by simp[S.fresh,aj.add,L]) (by simp[S.fresh,aj.add,H]) (by simp[S.fresh,aj.add,G]) q k x v Q P N;exact WP R X _ _ F (by simp[S.fresh,aj.add,L]) (by simp[S.fresh,aj.add,H]) (by simp[S.fresh,aj.add,G]) q k x v Q P N;exact WP R X _ _ F (by simp[S.fresh,aj.add,L]) (by simp[S.fresh,aj.add,H]) (by simp[S.fresh,aj.add,G]) q k x v Q P N
def am7:∀(X:aL)(s:S),(s.bU X).1.length=Y X
 |[],_=>rfl|k::X,s=>by simp[S.bU,am7 X]
def am8{n:Nat}:∀{R:List (Nat×LK)}{X:aq}{v:C},xz n R X=U v->∃(q:Nat)(k:LK),R[q]?=U (n,k)/\X[q]?=U v
 |[],X,v,h=>by simp[xz] at h|_::_,[],v,h=>by simp[xz] at h
 |(t,k)::r,x::L,v,h=>by
  simp only[xz] at h;split at h;rename_i Q;cases h;simp at Q;subst Q;exact⟨0,k,rfl,rfl⟩;obtain⟨q,P,N,M⟩:=am8 h;exact⟨q+1,P,by simpa using N,by simpa using M⟩
def am9{n:Nat}:∀{X:List (Nat×LK)}{R:aq},Y X<=Y R->xz n X R=Z->X.any (·.1==n)=E
 |[],R,_,h=>rfl|_::_,[],Q,h=>by simp at Q
 |(t,k)::r,x::N,Q,h=>by
  simp only[xz] at h;split at h;cases h;rename_i P;simp only[List.any_cons,yN];exact⟨by simpa using P,am9 (by simpa using Q) h⟩
def ana{b n:Nat}:∀{R:List (Nat×Nat×LK)}{X:aq}{v:C},Cy b n R X=U v->∃(q:Nat)(k:LK),R[q]?=U (b,n,k)/\X[q]?=U v
 |[],X,v,h=>by simp[Cy] at h|_::_,[],v,h=>by simp[Cy] at h
 |(L,t,k)::r,x::H,v,h=>by
  simp only[Cy] at h;split at h;rename_i Q;cases h;simp at Q;obtain⟨rfl,rfl⟩:=Q;exact⟨0,k,rfl,rfl⟩;obtain⟨q,P,N,M⟩:=ana h;exact⟨q+1,P,by simpa using N,by simpa using M⟩
def anb{b n:Nat}:∀{X:List (Nat×Nat×LK)}{R:aq},Y X<=Y R->Cy b n X R=Z->X.any (λc=>c.1==b&&c.2.1==n)=E
 |[],R,_,h=>rfl|_::_,[],Q,h=>by simp at Q
 |(N,t,k)::r,x::M,Q,h=>by
  simp only[Cy] at h;split at h;cases h;rename_i P;simp only[List.any_cons,yN];exact⟨by simpa using P,anb (by simpa using Q) h⟩
def anc(X:fG)(R:ar)(Q:aq):∀(l:aq)(n i:Nat),(Cz X R Q n l)[i]?=(l[i]?).map λx=>(xz (n+i) X.tm Q).getD (if R.contains (n+i) then .any else x)
 |[],n,i=>by simp[Cz]|x::P,n,0=>by simp[Cz]
 |x::P,n,i+1=>by
  simp only[Cz,vz];rw[anc X R Q P (n+1) i,show n+1+i=n+(i+1) from ae]
def ane(X:fG)(R:aq)(b:Nat):∀(l:aq)(n i:Nat),(JU X R b n l)[i]?=(l[i]?).map λx=>(Cy b (n+i) X.cl R).getD x
 |[],n,i=>by simp[JU]|x::Q,n,0=>by simp[JU]
 |x::Q,n,i+1=>by
  simp only[JU,vz];rw[ane X R b Q (n+1) i,show n+1+i=n+(i+1) from ae]
def Sm(R:fG)(Q:aq):∀(l:bm)(n i:Nat),bP (vJ R Q n l) i=(bP l i).map λx=>(x.1,JU R Q (n+i) 0 x.2)
 |[],n,i=>by simp[vJ,bS]|Z::X,n,0=>by simp[vJ,bS]|U (t,P)::X,n,0=>by simp[vJ,bS]
 |Z::X,n,i+1=>by
  have:=Sm R Q X (n+1) i
  grind [vJ,bS]
 |U (t,P)::X,n,i+1=>by
  have:=Sm R Q X (n+1) i
  grind [vJ,bS]
def WQ(X:fG)(R:aq):∀(l:bm)(n:Nat),(vJ X R n l).length=Y l
 |[],n=>rfl|Z::Q,n=>by simp[vJ,WQ X R Q]|U (t,P)::Q,n=>by simp[vJ,WQ X R Q]
def anf(X:fG)(R:ar)(Q:aq):∀(l:aq)(n:Nat),(Cz X R Q n l).length=Y l
 |[],n=>rfl|x::P,n=>by simp[Cz,anf X R Q P]
def ad8{Q:fG}{P:ar}:∀{l X:aq}{n:Nat},AO Q P n l X=J->Y l=Y X/\∀(i:Nat)(x y:C),l[i]?=U x->X[i]?=U y->Q.tm.any (·.1==n+i)=J\/P.contains (n+i)=J\/x=y
 |[],[],n,_=>⟨rfl,λi x y h _=>by simp at h⟩|[],_::_,n,h=>by simp[AO] at h|_::_,[],n,h=>by simp[AO] at h
 |x::H,y::G,n,h=>by
  simp only[AO,aC,lu] at h;obtain⟨L,F⟩:=ad8 h.2;refine⟨by simp[L],λi B A N M=> ?_⟩;cases i with
  |zero=>
   simp at N M;subst N M;rcases h.1 with(R|R)|R
   grind
   grind
   exact .inr (.inr (C.bW _ _ R))
  |succ i=>
   grind
def ang{R:fG}{b:Nat}:∀{l X:aq}{n:Nat},JV R b n l X=J->Y l=Y X/\∀(i:Nat)(x y:C),l[i]?=U x->X[i]?=U y->R.cl.any (λc=>c.1==b&&c.2.1==n+i)=J\/x=y
 |[],[],n,_=>⟨rfl,λi x y h _=>by simp at h⟩|[],_::_,n,h=>by simp[JV] at h|_::_,[],n,h=>by simp[JV] at h
 |x::L,y::H,n,h=>by
  simp only[JV,aC,lu] at h;obtain⟨M,G⟩:=ang h.2;refine⟨by simp[M],λi F B Q P=> ?_⟩;cases i with
  |zero=>
   simp at Q P;subst Q P;rcases h.1 with N|N
   grind
   exact .inr (C.bW _ _ N)
  |succ i=>
   grind
def ad9{L:fG}:∀{l M:bm}{n:Nat},ux L n l M=J->∀(i:Nat)(t:TypeId)(R:aq),bP l i=U (t,R)->∃P,bP M i=U (t,P)/\JV L (n+i) 0 R P=J
 |[],M,n,_,i,t,R,h=>by simp[bS] at h|Z::Q,[],n,X,i,t,R,h=>by simp[ux] at X|Z::Q,y::N,n,X,0,t,R,h=>by simp[bS] at h
 |Z::Q,y::N,n,X,i+1,t,R,h=>by
  simp only[ux] at X;obtain⟨P,H,G⟩:=ad9 X i t R (by simpa[bS] using h)
  grind [bS]
 |U x::Q,[],n,X,i,t,R,h=>by simp[ux] at X|U x::Q,Z::N,n,X,i,t,R,h=>by simp[ux] at X
 |U x::Q,U y::N,n,X,0,t,R,h=>by
  simp only[ux,aC,ge] at X
  grind [bS,Ju]
 |U x::Q,U y::N,n,X,i+1,t,R,h=>by
  simp only[ux,aC] at X;obtain⟨P,H,G⟩:=ad9 X.2 i t R (by simpa[bS] using h)
  grind [bS]
def anh{R:fG}{n:Nat}{k:LK}(Q:R.tm[X]?=U (n,k)):R.ks[X]?=U k:=by
 grind [fG.ks]
def ani{Q:fG}{n:Nat}{k:LK}(P:Q.tm[X]?=U (n,k))(N:R.tmps[n]?=U r):(lw Q R)[X]?=U r:=by
 grind [lw]
def E0{k:Nat}(h:k<X):ad (t.take X) k=ad t k:=by simp[ad,h]
def ax2(X:fG)(s:S):(jE X s).length=Y s.rs:=CL _ _ _
def anj:∀{l X:bo},AN l X=J->∀(k:Nat)(e:RK),l[k]?=U e->∃R,X[k]?=U R/\(e=.aT\/R=e)
 |[],X,_,k,e,h=>by simp at h|x::Q,[],h,_,_,_=>by simp[AN] at h
 |x::Q,y::N,h,0,e,P=>by
  simp only[AN,aC,lu,dl] at h
  grind
 |x::Q,y::N,h,k+1,e,P=>by
  simp only[AN,aC] at h;exact anj h.2 k e (by simpa using P)
def WR:∀{R:aL}{X:aq}{q:Nat}{e:TypeId}{k:Nat},R[q]?=U (.ak (.own e))->X[q]?=U (.ak (.v k))->k∈EC R X
 |[],X,q,e,k,h,_=>by simp at h|_::_,[],q,e,k,_,h=>by simp at h|N::R,v::X,0,e,k,Q,P=>by simp at Q P;subst Q P;simp[EC,VQ]
 |N::R,v::X,q+1,e,k,Q,P=>by
  simp only[EC,fg];right;exact WR (q:=q) (by simpa using Q) (by simpa using P)
def WS:∀{a b:ar},n9 (a++b)=J->n9 b=J/\∀x∈a,x∉b
 |[],b,h=>⟨h,aw⟩
 |x::a,b,h=>by
  simp only[cU,n9,aC] at h;obtain⟨X,R⟩:=WS h.2
  grind
def ank:∀{N:aL}{R:aq}{q Q:Nat}{e M:TypeId}{k X:Nat},n9 (EC N R)=J->N[q]?=U (.ak (.own e))->R[q]?=U (.ak (.v k))->N[Q]?=U (.ak (.own M))->R[Q]?=U (.ak (.v X))->q≠Q->k≠X
 |[],R,q,Q,e,M,k,X,_,h,_,_,_,_=>by simp at h|_::_,[],q,Q,e,M,k,X,_,_,h,_,_,_=>by simp at h|B::N,v::R,0,0,e,M,k,X,_,_,_,_,_,h=>bE rfl h
 |B::N,v::R,0,Q+1,e,M,k,X,P,L,H,G,F,_=>by
  simp at L H;subst L H;simp only[EC] at P;have:=(WS P).2 k (by simp[VQ]);intro A;subst A;exact this (WR (q:=Q) (by simpa using G) (by simpa using F))
 |B::N,v::R,q+1,0,e,M,k,X,P,L,H,G,F,_=>by
  simp at G F;subst G F;simp only[EC] at P;have:=(WS P).2 X (by simp[VQ]);intro A;subst A;exact this (WR (q:=q) (by simpa using L) (by simpa using H))
 |B::N,v::R,q+1,Q+1,e,M,k,X,P,L,H,G,F,z=>by
  simp only[EC] at P;exact ank (WS P).1 (by simpa using L) (by simpa using H) (by simpa using G) (by simpa using F) ae
def aA.head{ty:Ty}{N:fG}{f:ar}{a1:Act}(ce:s.bd=J)(ei:Y O.i=s.ni)(eb:Y O.b=s.nb)(er:Y O.r=Y s.rs)
  (hl:bB s O V R x f)(R1:aA d m D ty f x R a1 e)(hT:AO N t 0 s.tmps R.tmps=J)(hB:ux N 0 s.au R.au=J)(hf:uy R N.ks (lw N R)=J)
  (hR:AN (jE N s) R.rs=J)(hO:JT (jE N s) (JS N R)=J)(b4:R.pd=s.pd):
  aA d m D ty (f.take (Y s.au)) (O.ext ((lw N R).map (C.xv x))) (rU N t s) a1 e:=by
 obtain⟨b5,b6⟩:C.dO (Y O.i) (Y O.b) (Y O.r) (aK s.au) s.tmps=J/\C.rT (Y O.i) (Y O.b) (Y O.r) (aK s.au) s.au=true:=by
  simp only[S.bd,aC] at ce;rw[ei,eb,er];exact ce
 have af:=ad7 (O1:=x) hf;have ag:Y O.r=(jE N s).length:=by rw[ax2];exact er
 obtain⟨cx,a4⟩:=am6 hf;generalize bb:(lw N R).map (C.xv x)=n at*;obtain⟨e1,e2,e3,e4⟩:=uG N.ks {s with ax:=s.ax+1,rs:=jE N s};obtain⟨l1,l2,l3⟩:=xI N.ks n {s with ax:=s.ax+1,rs:=jE N s} O af ei eb ag;have bg:=CJ s.au O n V;have b7:=WO (V:=f.take (Y s.au)) N.ks n {s with ax:=s.ax+1,rs:=jE N s} O af ei eb ag;have bk:=am7 N.ks {s with ax:=s.ax+1,rs:=jE N s};have bl:Y N.ks=Y N.tm+Y N.cl:=by simp[fG.ks]
 have al:∀i,aK (vJ N (((({s with ax:=s.ax+1,rs:=jE N s}:S).bU N.ks).1).drop (Y N.tm)) 0 s.au) i=J->aK s.au i=J/\i<Y s.au:=by
  intro i hi;unfold aK at hi;rw[Sm] at hi;have:(bP s.au i).isSome=true:=by simpa using hi
  obtain⟨b,G⟩:=jz.1 this;exact⟨this,(dq.1 (ku.1 G)).1⟩
 have b8:∀v:C,v.bd (Y O.i) (Y O.b) (Y O.r) (aK s.au)=J->v.ai (O.ext n) (f.take (Y s.au))=v.ai x f:=by
  intro v hv;rw[hl.ext.ai hv];refine C.eh bg.agree (λk hk=> ?_) v hv;have a0:k<Y s.au:=by
   obtain⟨b,G⟩:=jz.1 hk;exact(dq.1 (ku.1 G)).1
  rw[E0 a0];exact hl.ext.ad k hk
 have ca:∀(q:Nat)(k:LK)(v w:C),N.ks[q]?=U k->(lw N R)[q]?=U w->(({s with ax:=s.ax+1,rs:=jE N s}:S).bU N.ks).1[q]?=U v->v.ai (O.ext n) (f.take (Y s.au))=w.ai x f/\v≠ .any:=by
  intro q k v w hk hw hv;have hx:n[q]?=U (w.xv x):=by rw[<-bb];simp[hw]
  obtain⟨M,L⟩:=b7 q k _ v hk hx hv;exact⟨M.trans (am5 (V1:=f) (a4 q k w hk hw)).1,L⟩
 have cc:∀v:C,v.bd (Y O.i) (Y O.b) (Y O.r) (aK s.au)=J->v.gg (O.ext n) (f.take (Y s.au))=v.gg x f:=by
  intro v hv;rw[ac4 hl.ext.agree hl.ext.ad v hv];refine ac4 bg.agree (λk hk=> ?_) v hv;have a0:k<Y s.au:=by
   obtain⟨b,G⟩:=jz.1 hk;exact(dq.1 (ku.1 G)).1
  rw[E0 a0];exact hl.ext.ad k hk
 have ch:∀(q:Nat)(k:LK)(v w:C),N.ks[q]?=U k->(lw N R)[q]?=U w->(({s with ax:=s.ax+1,rs:=jE N s}:S).bU N.ks).1[q]?=U v->v.gg (O.ext n) (f.take (Y s.au))=w.gg x f:=by
  intro q k v w hk hw hv;have hx:n[q]?=U (w.xv x):=by rw[<-bb];simp[hw]
  rw[WP (V:=f.take (Y s.au)) N.ks n {s with ax:=s.ax+1,rs:=jE N s} O af ei eb ag q k _ v hk hx hv];exact ax1 (a4 q k w hk hw)
 have br:∀(k:Nat)(X:RK)(F:RV),(jE N s)[k]?=U X->O.r[k]?=U F->∃e1,R.rs[k]?=U e1/\x.r[k]?=U F/\(X=.aT\/e1=X):=by
  intro k X F M L;have hk:k<Y O.r:=(dq.1 L).1;have cn:k<Y x.r:=QP hk hl.ext.lr;have co:x.r[k]?=U F:=by
   have:=hl.ext.agree.r k hk;simp only[aj.rv,dA,L,yP] at this;rw[dB cn] at this⊢;simpa using this
  obtain⟨H,h3,h4⟩:=anj hR k X M;exact⟨H,h3,co,h4⟩
 have bs:∀(q:Nat)(X:RK)(F:RV),N.ks[q]?=U (.ak X)->n[q]?=U (.r F)->(∃u:Nat,(lw N R)[q]?=U (.ak (.v u))/\R.rs[u]?=U X/\x.r[u]?=U F)\/(F=.mk (.slice Z 0 0) []/\∃Q sh,X=.sl Q\/X=.own Q\/X=.mr sh):=by
  intro q X F M L;rw[<-bb,eo] at L;cases hw:(lw N R)[q]? with
  |none=>rw[hw] at L;cases L
  |some w=>
   rw[hw] at L;simp only[gc,dW] at L;have a9:=a4 q _ w M hw;unfold ED at a9;split at a9;rename_i ab;cases ab;rename_i ab;cases ab;rename_i H k ab;cases ab;simp only[C.xv,XV.r.injEq] at L;have bt:R.rs[k]?=U X:=by simpa using a9
   refine .inl ⟨k,rfl,bt, ?_⟩;rw[<-L];exact uF R1 bt;rename_i H ab;cases ab;simp only[C.xv,XV.r.injEq,RE.rv] at L;exact .inr ⟨L.symm,_,⟨0,0,0,E,E⟩,.inl rfl⟩;rename_i H ab;cases ab;simp only[C.xv,XV.r.injEq,RE.rv] at L;exact .inr ⟨L.symm,_,⟨0,0,0,E,E⟩,.inr (.inl rfl)⟩;rename_i H ab;cases ab;simp only[C.xv,XV.r.injEq,RE.rv] at L;exact .inr ⟨L.symm,0,_,.inr (.inr rfl)⟩;cases a9
 simp only[JT,aC] at hO;obtain⟨cp,ct⟩:=hO;have bx:∀(q:Nat)(X:TypeId)(u:Nat),N.ks[q]?=U (.ak (.own X))->(lw N R)[q]?=U (.ak (.v u))->∀H,(jE N s)[u]?=U H->H=.aT:=by
  intro q X u M L H h3;have:=gC.1 ct u (WR M L);simp only[lu,dl] at this;rcases this with h4|h4;have:=(dq.1 h3).1;omega;rw[h4] at h3;cases h3;rfl
 refine⟨⟨R1.mem.base, ?_, ?_, ?_, ?_⟩, ?_,l1,l2,l3, ?_, ?_, ?_, ?_⟩;intro i hi;obtain⟨M,L⟩:=al i hi;rw[E0 L];exact R1.mem.own i (hl.mono i M);intro i j hi hj;obtain⟨M,L⟩:=al i hi;obtain⟨h3,h4⟩:=al j hj;rw[E0 L,E0 h4];exact R1.mem.inj i j (hl.mono i M) (hl.mono j h3);intro i Q cs h;simp only[rU] at h;rw[Sm,jm] at h;cases G:bP s.au i with
 |none=>rw[G] at h;cases h
 |some P=>
  obtain⟨t0,gJ⟩:=P;rw[G] at h;simp only[gc,dW,Jy] at h;obtain⟨rfl,rfl⟩:=h;obtain⟨ba,b0,b1⟩:=ad9 hB i t0 gJ G;rw[jm] at b1;obtain⟨cu,bc⟩:=ang b1;have a0:i<Y s.au:=(dq.1 (ku.1 G)).1;rw[E0 a0,R1.mem.box i t0 ba b0];congr 2;apply kS;intro j;rw[C.bK,C.bK,eo,eo,ane,jm];cases hx:gJ[j]? with
  |none=>
   have:ba[j]?=none:=by
    rw[Ej] at hx⊢;omega
   simp[this]
  |some P=>
   obtain⟨y,hy⟩:∃y,ba[j]?=U y:=by
    have:j<Y gJ:=(dq.1 hx).1;exact⟨ba[j],dB ae⟩
   rw[hy];simp only[gc,dW];cases hp:Cy i j N.cl ((({s with ax:=s.ax+1,rs:=jE N s}:S).bU N.ks).1.drop (Y N.tm)) with
   |some v=>
    obtain⟨q,k,hq,hv⟩:=ana hp;rw[xj] at hv;simp only[yP];refine(ch (Y N.tm+q) k v y ?_ ?_ hv).symm;simp[fG.ks,jl,hq];simp[lw,jl,hq,ald,b0,hy]
   |none=>
    have hn:=anb (by rw[Cf,bk,bl];omega) hp;rcases bc j P y hx hy with M|M;rw[jm] at M;rw[hn] at M;cases M;subst M;simp only[av1];exact(cc P (xE (sZ b6 G) hx)).symm
 have bf:=Hj (PP:=λX F=>bG e ty X F/\∀b,dU ty X F b->∀i,aK s.au i=J->ad f i≠b) N.ks n {s with ax:=s.ax+1,rs:=jE N s} O af ag ?_ ?_;intro k X F M L;obtain⟨h3,h4⟩:=bf k X F M L;refine⟨h3,λb G i hi=> ?_⟩;obtain⟨h5,h6⟩:=al i hi;rw[E0 h6];exact h4 b G i h5
 
 intro q X F M L;rcases bs q X F M L with⟨u,_,g2,B⟩|⟨rfl,Q,sh,g⟩;have:=R1.mem.ak u X F g2 B;exact⟨this.1,λb G i hi=>this.2 b G i (hl.mono i hi)⟩;have hn:∀b,¬dU ty (.sl Q) (.mk (.slice Z 0 0) []) b:=λb G=>by
  cases G with|deep X v b2 i j ac c z k b g1=>simp at g1
 rcases g with rfl|rfl|rfl;exact⟨EZ Z 0,λb G=>(hn b G).elim⟩;refine⟨bG.own Q _ (EZ Z 0) (λl c h=>by cases h;rfl),λb G=> ?_⟩;cases G with|own X F b G=>exact(hn b G).elim
 exact⟨bG.mr sh [] (λi ac h=>by simp at h) (λi j ac c k h=>by simp at h) (λi j ac c h=>by simp at h) (λi j ac c z k h=>by simp at h),λb G=>by cases G⟩;intro k X F M L;obtain⟨e1,g1,g2,B⟩:=br k X F M L;have:=R1.mem.ak k e1 F g1 g2;rcases B with rfl|rfl;exact⟨bG.aT _ (MW this.1),λb G=>by cases G⟩;exact⟨this.1,λb G i hi=>this.2 b G i (hl.mono i hi)⟩;simp[rU,WQ];have:=hl.len;rw[R1.gE];omega;have M:=R1.dh;rw[b4,hl.ext.agree.y,<-Hh n O] at M;simp only[rU];rw[ad0];exact M;simp only[rU,anf];rw[R1.size,(ad8 hT).1];intro Q sv h;simp only[rU] at h;rw[anc,jm] at h;cases hx:s.tmps[Q]? with
 |none=>rw[hx] at h;cases h
 |some P=>
  rw[hx] at h;simp only[gc,dW] at h;obtain⟨cu,bc⟩:=ad8 hT;obtain⟨y,hy⟩:∃y,R.tmps[Q]?=U y:=by
   have:Q<Y s.tmps:=(dq.1 hx).1;exact⟨R.tmps[Q],dB ae⟩
  cases hp:xz Q N.tm ((({s with ax:=s.ax+1,rs:=jE N s}:S).bU N.ks).1) with
  |some v=>
   rw[hp] at h;simp only[yP] at h;subst h;obtain⟨q,k,hq,hv⟩:=am8 hp;have hc:=(ca q k v y (anh hq) (ani hq hy) hv);rcases R1.tmps Q y hy with M|M;subst M;have:=a4 q k .any (anh hq) (ani hq hy);rcases k with _|_|(_|_|_|_|_)<;>simp[ED] at this;right;rw[hc.1];exact M
  |none=>
   rw[hp] at h;simp only[av1] at h;split at h;exact .inl h.symm;rename_i cv;subst h;have hn:=am9 (by rw[bk,bl];omega) hp;rcases bc Q P y hx hy with M|M|M;rw[jm] at M;rw[hn] at M;cases M;rw[jm] at M;exact bE M cv;subst M;rcases R1.tmps Q P hy with L|L;exact .inl L;right;rw[b8 P (xE b5 hx)];exact L
 intro k X F b M L h3;simp only[rU] at M;have bf:∃u:Nat,R.rs[u]?=U (RK.own X)/\x.r[u]?=U F/\∀(A:Nat)(H:RK)(o:RV),A≠k->(rU N t s).rs[A]?=U H->(O.ext n).r[A]?=U o->AS ty H o b->∃aa:Nat,aa≠u/\R.rs[aa]?=U H/\x.r[aa]?=U o:=by
  have other:∀(A:Nat)(H:RK)(o:RV),(rU N t s).rs[A]?=U H->(O.ext n).r[A]?=U o->AS ty H o b->
    ((jE N s)[A]?=U H/\R.rs[A]?=U H/\x.r[A]?=U o)\/∃q aa:Nat,N.ks[q]?=U (.ak H)/\(lw N R)[q]?=U (.ak (.v aa))/\R.rs[aa]?=U H/\x.r[aa]?=U o/\A=(jE N s).length+Hk (N.ks.take q):=by
   intro A H o g1 g2 B;rcases Nj N.ks n {s with ax:=s.ax+1,rs:=jE N s} O af ag A H o g1 g2 with⟨p1,p2⟩|⟨q,p1,p2,p3⟩;obtain⟨e1,q1,q2,q3⟩:=br A H o p1 p2;rcases q3 with rfl|rfl;rcases B with B|⟨⟨Q,ht⟩,_⟩;cases B;cases ht;exact .inl ⟨p1,q1,q2⟩;rcases bs q H o p1 p2 with⟨u,q1,q2,q3⟩|⟨rfl,Q,sh,q⟩;exact .inr ⟨q,u,p1,q1,q2,q3,p3⟩;exfalso;rcases B with B|⟨_,B⟩;rcases q with rfl|rfl|rfl;cases B with|deep X v b2 i j ac c z k b g1=>simp at g1
   cases B with
   |own X F b B=>cases B with|deep X v b2 i j ac c z k b g1=>simp at g1
   cases B;simp[RV.ly] at B
  rcases other k (.own X) F M L (.inr ⟨⟨X,rfl⟩,h3⟩) with⟨p1,p2,p3⟩|⟨q,u,p1,p2,p3,p4,p5⟩;refine⟨k,p2,p3,λA H o g0 g1 g2 B=> ?_⟩;rcases other A H o g1 g2 B with⟨r1,r2,r3⟩|⟨q',aa,r1,r2,r3,r4,r5⟩;exact⟨A,g0,r2,r3⟩;refine⟨aa,λa3=> ?_,r3,r4⟩;subst a3;rw[p2] at r3;cases r3;have:=bx q' X aa r1 r2 _ p1;cases this;refine⟨u,p3,p4,λA H o g0 g1 g2 B=> ?_⟩;rcases other A H o g1 g2 B with⟨r1,r2,r3⟩|⟨q',aa,r1,r2,r3,r4,r5⟩;refine⟨A,λa3=> ?_,r2,r3⟩;subst a3;rw[p3] at r2;cases r2;have:=bx q X A p1 p2 _ r1;cases this;refine⟨aa,λa3=> ?_,r3,r4⟩;subst a3;rw[p3] at r3;cases r3;by_cases b3:q=q';subst b3;exact g0 (by rw[r5,p5]);exact ank cp p1 p2 r1 r2 b3 rfl
 obtain⟨u,g1,g2,B⟩:=bf;have Q:=R1.eL u X F b g1 g2 h3;refine⟨Q.own,Q.mem,λi hi=> ?_,λA H o q1 q2 q3 q4=> ?_,Q.inner⟩;obtain⟨h5,h6⟩:=al i hi;rw[E0 h6];exact Q.box i (hl.mono i h5);obtain⟨aa,r1,r2,r3⟩:=B A H o q1 q2 q3 q4;exact Q.alone aa H o r1 r2 r3 q4
end
structure jd(p:Sp)(f:bv):Prop where
 pt:p.ty=f.ty
 WT:p.P.follows .mixedOrders=J
 kK:ju p.P f.ty
 zd:Ni p.P f
 zr:∀g,(f.sig g).isSome=J\/(f.inl g).isSome=J->∀args W,(callFunc g args).run p.P W=.ok (.enter g args) W
 WU:∀ch W b o,p.w0.heap.size<=b->p.R (.panicked ch) W->p.R (.panicked ch) (W.putObj b o)
 inl:∀g c nt rs,f.inl g=U (c,nt,rs)->∃fn,p.P.funcs[g]?=U fn/\fn.body=U c/\fn.ntmps=nt/\fn.results.toList=rs
section
variable{p:Sp}{f:bv}
def aA.anl{D:bT}{V:ar}{a:Act}{W:World}(Q:aA t e D f.ty V x R a W){b:BE}{v:Bool}(G:R.tmps.getD X .any=.bool b)(N:b.ai x=v):
  aA t e D f.ty V x {R with tmps:=R.tmps.set X (.bool (.c v))} a W:=by
 refine⟨Q.mem,Q.gE,Q.ei,Q.eb,Q.er,Q.dh,by simpa using Q.size,λi M h=> ?_,Q.eL⟩;simp only[yO] at h;split at h;rename_i L;subst L;split at h;rename_i F;cases h;have H:R.tmps[X]?=U (.bool b):=by
  grind
 rcases Q.tmps X _ H with P|P;cases P;right;rw[P];simp[C.ai,BE.ai,N];cases h;exact Q.tmps i M h
end
mutual
def K.ey{R Q P N M H:Nat}(X:R<=N)(W:Q<=M)(V:P<=H):∀(e:K),e.bd R Q P=J->e.bd N M H=J
 |.c n,_=>K.bj.1 _|.v k,h=>by simp[K.bj] at h⊢;omega|.bin o k a b,h=>by simp[K.bj] at h⊢;exact⟨K.ey X W V a h.1,K.ey X W V b h.2⟩|.conv k a,h=>by simp[K.bj] at h⊢;exact K.ey X W V a h|.len r,h=>by simp[K.bj] at h⊢;exact RE.ey X W V r h|.mm m a b,h=>by simp[K.bj] at h⊢;exact⟨K.ey X W V a h.1,K.ey X W V b h.2⟩|.dv b x y,h=>by simp[K.bj] at h⊢;exact⟨⟨BE.ey X W V b h.1.1,K.ey X W V x h.1.2⟩,K.ey X W V y h.2⟩|.cell r i j,h=>by simp[K.bj] at h⊢;exact⟨RE.ey X W V r h.1,K.ey X W V i h.2⟩|.o7 r i,h=>by simp[K.bj] at h⊢;exact⟨RE.ey X W V r h.1,K.ey X W V i h.2⟩|.look r n a b c j,h=>by simp[K.bj] at h⊢;exact⟨⟨⟨RE.ey X W V r h.1.1.1,K.ey X W V a h.1.1.2⟩,K.ey X W V b h.1.2⟩,K.ey X W V c h.2⟩
def BE.ey{R Q P N M H:Nat}(X:R<=N)(W:Q<=M)(V:P<=H):∀(e:BE),e.bd R Q P=J->e.bd N M H=J
 |.c n,_=>BE.bj.1 _|.v k,h=>by simp[BE.bj] at h⊢;omega|.cmp o a b,h=>by simp[BE.bj] at h⊢;exact⟨K.ey X W V a h.1,K.ey X W V b h.2⟩|.not a,h=>by simp[BE.bj] at h⊢;exact BE.ey X W V a h|.and a b,h=>by simp[BE.bj] at h⊢;exact⟨BE.ey X W V a h.1,BE.ey X W V b h.2⟩|.beq a b,h=>by simp[BE.bj] at h⊢;exact⟨BE.ey X W V a h.1,BE.ey X W V b h.2⟩|.dv b x y,h=>by simp[BE.bj] at h⊢;exact⟨⟨BE.ey X W V b h.1.1,BE.ey X W V x h.1.2⟩,BE.ey X W V y h.2⟩|.cell r i j,h=>by simp[BE.bj] at h⊢;exact⟨RE.ey X W V r h.1,K.ey X W V i h.2⟩|.seq a b,h=>by simp[BE.bj] at h⊢;exact⟨RE.ey X W V a h.1,RE.ey X W V b h.2⟩|.look r n a b c j,h=>by simp[BE.bj] at h⊢;exact⟨⟨⟨RE.ey X W V r h.1.1.1,K.ey X W V a h.1.1.2⟩,K.ey X W V b h.1.2⟩,K.ey X W V c h.2⟩|.has r n a b c,h=>by simp[BE.bj] at h⊢;exact⟨⟨⟨RE.ey X W V r h.1.1.1,K.ey X W V a h.1.1.2⟩,K.ey X W V b h.1.2⟩,K.ey X W V c h.2⟩
def RE.ey{X W V R Q P:Nat}(N:X<=R)(M:W<=Q)(H:V<=P):∀(e:RE),e.bd X W V=J->e.bd R Q P=J
 |.v k,h=>by simp[RE.bj] at h⊢;omega|.cell r i j k,h=>by simp[RE.bj] at h⊢;exact⟨RE.ey N M H r h.1,K.ey N M H i h.2⟩|.k v,_=>RE.bj.2.2 _
end
def WV{ty:Ty}{s R:S}:∀{r:RE}{e:RK},(∀(k:Nat)(e:RK),r.root=U k->s.rs[k]?=U e->∃X,R.rs[k]?=U X/\X.rd=e.rd)->e≠ .bz->r.kind ty s=e->r.kind ty R=e
 |.v k,e,bY,W,h=>by
  simp only[RE.kind,dA] at h⊢;cases V:s.rs[k]? with
  |none=>rw[V] at h;exact bE (show e=.bz from h.symm) W
  |some q=>
   rw[V] at h;obtain⟨X,P,N⟩:=bY k q rfl V
   grind
 |.cell r i j M,e,bY,W,h=>by
  simp only[RE.kind] at h⊢;split at h;rename_i X Q;rw[WV (r:=r) bY aw Q];exact h
  grind
 |.k v,e,bY,W,h=>by cases v<;>exact h
def zt{ty:Ty}{s s':S}(h:s.rs=s'.rs):∀r:RE,r.kind ty s=r.kind ty s'
 |.v k=>by simp only[RE.kind,h]|.cell r i j k=>by simp only[RE.kind,zt h r]|.k v=>by cases v<;>rfl
def CV(ty:Ty)(s X:S):Prop:=∀(r:RE)(e:RK),e≠ .bz->r.kind ty s=e->r.kind ty X=e
def CV.A5{ty:Ty}{X:S}(h:X.rs=R.rs):CV ty R X:=λr e _ W=>by rw[zt h];exact W
def ax3{ty:Ty}{X:S}(bY:CV ty R X){c:CT}{y:C}{e:BE}(h:Mn ty R c r y=U e):Mn ty X c r y=U e:=by
 unfold Mn at h⊢;split at h;exact h;exact h;split at h;rename_i W;rw[aH ⟨bY _ _ aw W.1,bY _ _ aw W.2⟩];exact h;cases h;cases h
def anm{ty:Ty}{s W:S}(bY:CV ty s W):∀{X:eJ}{x y:aq}{e:BE},sM ty s X x y=U e->sM ty W X x y=U e
 |[],[],[],e,h=>h
 |c::X,x::Q,y::P,e,h=>by
  simp only[sM] at h⊢;split at h;rename_i a b V R;rw[ax3 bY V,anm bY R];exact h;cases h
 |[],[],_::_,e,h=>by simp[sM] at h|[],_::_,_,e,h=>by simp[sM] at h|_::_,[],_,e,h=>by simp[sM] at h|_::_,_::_,[],e,h=>by simp[sM] at h
def ann{ty:Ty}{s X:S}(bY:CV ty s X){W:vC}{x y:aq}{e:BE}(h:Mo ty s W x y=U e):Mo ty X W x y=U e:=by
 unfold Mo at h⊢;split at h;exact anm bY h;cases h
section
variable{ty:Ty}{F:nY}{O:aj}
def WW{P:S}{G:Op}{r:PR}(W:∀x∈G.operands.toList,P.ev F x=R.ev F x)(H:looks G=J->CA G=E->CV ty R P)
  (ab:∀t x r w i z,G=.load t x->R.ev F x=.el r w i z->∀e,e≠ .bz->r.kind ty R=e->r.kind ty P=e)
  (o:∀i,Cq F R G=U i->bP P.au i=bP R.au i)(h:cw ty F R G=r)(V:∀w,r≠ .no w):cw ty F P G=r:=by
 cases G with
 |move x=>have X:=W x cq;simp only[cw] at h⊢;rw[X];exact h|assign x=>have X:=W x cq;simp only[cw] at h⊢;rw[X];exact h
 |pick c x y=>
  have X:=W c cq;have N:=W x cq;have l:=W y cq;simp only[cw] at h⊢;rw[X,N,l];exact h
 |load t x=>
  have X:=W x cq;simp only[cw] at h⊢;rw[X];split at h;rename_i ti i z D Q;rw[RG (o i (by simp only[Cq,Q]))];exact h;rename_i ti r w i z D Q;split at h;rename_i e M;rw[ab t x r w i z rfl Q _ aw M];exact h;exact bE h.symm (V _);rename_i ti e ks j D Q;have B:((AJ j).bind λi=>mO P.au i)=(AJ j).bind λi=>mO R.au i:=by
   cases hl:AJ j with|none=>rfl|some i=>exact RG (o i (by simp only[Cq,Q];exact hl))
  rw[B];exact h;exact bE h.symm (V _)
 |fieldAddr t x f=>have X:=W x cq;simp only[cw] at h⊢;rw[X];exact h|field t x f=>have X:=W x cq;simp only[cw] at h⊢;rw[X];exact h
 |indexAddr t x y=>
  have X:=W x cq;have N:=W y cq;simp only[cw] at h⊢;rw[X,N];split at h;exact h;exact h;exact h;split at h;rename_i D M;rw[(H rfl rfl) _ _ aw M,D];exact h;exact bE h.symm (V _);exact h;exact h;exact bE h.symm (V _)
 |index t x y=>
  have X:=W x cq;have N:=W y cq;simp only[cw] at h⊢;rw[X,N];split at h;exact h;exact h;split at h;rename_i M;rw[(H rfl rfl) _ _ aw M];exact h;exact bE h.symm (V _);exact bE h.symm (V _)
 |binOp G t x y t2=>
  have X:=W x cq;have N:=W y cq;simp only[cw] at h⊢;rw[X,N];split at h;exact h;exact h;exact h;split at h;rename_i v A;simp only[(H rfl rfl) _ _ aw v,(H rfl rfl) _ _ aw A];exact h;rename_i v A;simp only[(H rfl rfl) _ _ aw v,(H rfl rfl) _ _ aw A];exact h;exact bE h.symm (V _);exact h;exact h;split at h;rename_i e M;rw[ann (H rfl rfl) M];exact h;rename_i e M;rw[ann (H rfl rfl) M];exact h;exact bE h.symm (V _);exact bE h.symm (V _)
 |unOp G t x=>have X:=W x cq;simp only[cw] at h⊢;rw[X];exact h|convert t1 t2 x=>have X:=W x cq;simp only[cw] at h⊢;rw[X];exact h|makeInterface t x=>have X:=W x cq;simp only[cw] at h⊢;rw[X];exact h
 |makeFunc fn first bC=>
  have X:bC.toList.map (P.ev F)=bC.toList.map (R.ev F):=kF λx Q=>W x (by simp[ip];exact .inr (by simpa using Q))
  have N:∀x,first.toList=[x]->P.ev F x=R.ev F x:=λx Q=>W x (by
   have:x∈first:=by rw[<-aIR,Q];simp
   simp[ip];exact .inl this)
  simp only[cw] at h⊢;rw[X];rcases aa:first.toList with _|⟨x,_|⟨y,r⟩⟩
  all_goals rw[aa] at h
  all_goals cases fn<;>first|exact h|(simp only at h⊢;rw[N x aa];exact h)
 |extract x i=>have X:=W x cq;simp only[cw] at h⊢;rw[X];exact h|nilCheck x=>have X:=W x cq;simp only[cw] at h⊢;rw[X];exact h
 |slice t x g hi mx=>
  have X:=W x cq;have N:g.map (P.ev F)=g.map (R.ev F):=by
   cases g with|none=>rfl|some y=>simp only[gc];rw[W y cq]
  have l:hi.map (P.ev F)=hi.map (R.ev F):=by
   cases hi with|none=>rfl|some y=>simp only[gc];rw[W y cq]
  simp only[cw] at h⊢;rw[X,N,l];split at h;exact h;rename_i e am q r m D Q;rw[W m cq];split at h;split at h;rename_i hn;rw[aH hn];exact h;rename_i hn;rw[aP hn];split at h;rename_i hk;rw[aH ((H rfl rfl) _ _ aw hk)];exact h;exact bE h.symm (V _);exact bE h.symm (V _);exact bE h.symm (V _)
 |build t parts=>
  have X:(parts.toList.map λp=>(p.1,P.ev F p.2))=parts.toList.map λp=>(p.1,R.ev F p.2):=kF λp hp=>by rw[W p.2 (by simp[ip];exact⟨p.1,by simpa using hp⟩)]
  simp only[cw] at h⊢;rw[X];exact h
 |lookup t x ix ok=>
  have X:=W x cq;have N:=W ix cq;simp only[cw] at h⊢;rw[X,N];split at h;rename_i k e n ag am q i D Q;have A:=o i (by simp only[Cq,Q]);unfold VD at h⊢;rw[A];split at h;rename_i te a b c bt cs g1 g2 g3;split at h;exact bE h.symm (V _);rename_i ac;rw[aP ac];split at h;rename_i hd;rw[aH hd];split at h;rename_i r nk ka va;split at h;rename_i u;have:r.pJ ty P ⟨k,e,n,ag,te.d.isAgg⟩=true:=by
   simp only[aC] at u;have h6:=u.1.1.1.1.1;unfold RE.pJ at h6⊢;rcases avP.1 h6 with h7|h7;rw[decide_eq_true ((H rfl rfl) r _ aw (GI h7))];rfl;rw[h7];simp
  simp only[aC] at u;simp only[this,u,Ci,dN];exact h;exact bE h.symm (V _);exact bE h.symm (V _);rename_i hd;rw[aP hd];exact h;exact bE h.symm (V _);exact bE h.symm (V _)
 |call c=>
  have X:c.args.toList.map (P.ev F)=c.args.toList.map (R.ev F):=kF λx Q=>W x (by simp[ip,Ch];exact .inr (by simpa using Q))
  cases B:c.callee with
  |builtin b=>
   cases b with
   |len=>
    simp only[cw,B] at h⊢;rw[X];split at h;exact h;rename_i t r af v A;split at h;rename_i D M;simp only[(H rfl rfl) _ _ aw M,D];exact h;rename_i D M;simp only[(H rfl rfl) _ _ aw M,D];exact h;exact bE h.symm (V _);exact h;exact bE h.symm (V _)
   |min=>simp only[cw,B] at h⊢;rw[X];exact h|max=>simp only[cw,B] at h⊢;rw[X];exact h|_=>simp only[cw,B] at h;exact bE h.symm (V _)
  |value f=>simp only[cw,B] at h;exact bE h.symm (V _)|invoke r m=>simp only[cw,B] at h;exact bE h.symm (V _)
 |_=>simp only[cw] at h;exact bE h.symm (V _)
end
def PR.A6(s:S)(O:aj)(v:C):PR->Prop
 |.ok x=>v=x|.aS b x=>b.ai O=J/\b.bd s.ni s.nb (Y s.rs)=J/\v=x|_=>False
def WX{X:PR}(h:X.A6 R x r):X.gives x r:=by
 cases X with|ok W=>exact h|aS b W=>exact⟨h.1,h.2.2⟩|no w=>exact h
def gZ(B:dF)(m:OM)(s:S)(O:aj):Option Bool:=match m.o.guard with
 |none=>U J
 |U (j,X)=>match(B[j]?).bind (·.dst) with
  |U d=>match s.tmps[d]? with|U (.bool b)=>if b.bd s.ni s.nb (Y s.rs) then U (b.ai O==X) else Z|U (.bI [])=>U E|_=>Z
  |none=>Z
def QV(u:bv)(B:dF)(O:aj)(m:OM)(s:S)(v:C)(l:Nat):Prop:=
 (gZ B m s O=U E/\v=.bI []/\l=0)\/
 (gZ B m s O=U J/\(∀x∈m.o.op.operands.toList,(s.ev u.gl x).eZ=E)/\match m.o.op with|.pick c x y=>∃e:BE,s.ev u.gl c=.bool e/\e.bd s.ni s.nb (Y s.rs)=J/\v=(if e.ai O then s.ev u.gl x else s.ev u.gl y)/\l=0|.load t x=>(cw u.ty u.gl s (.load t x)).A6 s O v/\l=Re m.bM (s.ev u.gl x)|op=>(cw u.ty u.gl s op).A6 s O v/\l=0)
def OR.Ki(s:S)(O:aj)(X:S):OR->Prop
 |.ok x=>X=x|.aS b x=>b.ai O=J/\b.bd s.ni s.nb (Y s.rs)=J/\X=x|.split b W V=>b.bd s.ni s.nb (Y s.rs)=J/\X=if b.ai O then W else V|.no _=>False
def iZ(u:bv)(m:OM)(s:S)(O:aj)(X:S):Prop:=(gI u m s).Ki s O X
def Nq{u:bv}{X:S}(h:iZ u b R x X):(gI u b R).gives x X:=by
 unfold iZ at h;cases W:gI u b R<;>rw[W] at h;exact h;exact⟨h.1,h.2.2⟩;exact h.2;exact h
def ano{Q:S}{d:cG}{r:PR}:(xw R d X r).Ki R x Q<->∃v,r.A6 R x v/\Q=R.dH d v X:=by
 cases r with
 |ok v=>exact⟨λh=>⟨v,rfl,h⟩,λ⟨w,W,V⟩=>by cases W;exact V⟩
 |aS b v=>
  simp only[xw];split;rename_i P;exact⟨λh=>⟨v,⟨h.1,h.2.1,rfl⟩,h.2.2⟩,λ⟨w,⟨W,V,N⟩,M⟩=>⟨W,V,by rw[M,N]⟩⟩;rename_i P;exact⟨λh=>h.elim,λ⟨w,⟨W,V,N⟩,M⟩=>bE V P⟩
 |no w=>exact⟨λh=>h.elim,λ⟨w,W,V⟩=>W.elim⟩
def Nr(p:Sp)(u:bv)(s:S)(O:aj)(g:FuncId)(N:aq)(X:aj->C->S->Prop):Prop:=
 ∃G Q l,u.sig g=U G/\fH u.ty G=U Q/\ze u.ty G ((s.cut N Q).bU Q).1=U l/\(s.eW N&&mQ Q)=J/\
  ∀V W,jG p.S0 p.w0 V O (uu (sO (C.qi N) 0 s.au)) p.ty (JX N s.rs) W->Calls p.P g (C.az O V N).toArray W λ
   |.returned v,M=>∃H,dK Q H/\v=(one l).ai (O.ext H) V/\Below W.heap.size W M/\CH p.ty M W.heap.size (O.pi p.ty (JX N s.rs)) Q H/\X (O.ext H) (one l) ((s.cut N Q).bU Q).2|.panicked F,M=>Below W.heap.size W M/\p.R (.panicked F) M|.outgrown,_=>False
def uI(o:Option BI)(f:BI->Prop)(g:Prop):Prop:=match o with|U b=>f b|none=>g
def rh(o:Option (C×bm))(f:C->bm->Prop)(g:Prop):Prop:=match o with|U (v,X)=>f v X|none=>g
def eD(p:Sp)(u:bv)(B:dF)(A:vN)(X:aj->S->Prop)(W:aj->C->S->Prop)(V:OM->cN->aj->S->Nat->aq->Prop):cN->aj->S->Prop
 |[],O,s=>X O s
 |m::R,O,s=>
  (gZ B m s O=U E/\eD p u B A X W V R O (s.put m.o.dst (.bI [])))\/
  (gZ B m s O=U J/\match et u s m.o with|.call (.fn g) Q=>rh (A g Q s) (λv M=>s.bd=J/\eD p u B A X W V R O ((s.plus M).put m.o.dst v)) (Nr p u s O g Q λH v P=>eD p u B A X W V R H (P.put m.o.dst v))|.call (.yl n) Q=>m.so=J/\V m R O s n Q|.bp v=>W O v s|.no=>False|.op=>uI (eX u m.o m.bM m.dr s) (λb=>b.aS.ai O=J/\∀N,J5 p.ty p.S0 p.w0 b.e b.x s.rs O N->eD p u B A X W V R (O.add (.r N)) b.s) (∃P,iZ u m s O P/\eD p u B A X W V R O P))
def CW(s:S)(O:aj)(X:Fx):Prop:=∀x∈X,x.1.ai O=x.2/\x.1.bd s.ni s.nb (Y s.rs)=J
def aea{p:Sp}{L:dm}{W:Fx}{b:BE}{t f:Fx->T}(P:CW R x W)(h:(EA R W b t f).aN p x L):
  b.bd R.ni R.nb (Y R.rs)=J/\∃N,CW R x N/\(if b.ai x then(t N).aN p x L else(f N).aN p x L):=by
 have F:vV x W:=λX V=>(P X V).1
 have ce:∀v,Rf W b=U v->b.bd R.ni R.nb (Y R.rs)=true:=by
  intro v Q;unfold Rf at Q;split at Q;exact BE.bj.1 _;cases M:W.find? (λX=>X.1.aR b) with
  |none=>rw[M] at Q;cases Q
  |some X=>
   have H:=ab8 M;rw[<-BE.bW _ _ H];exact(P X (Vg M)).2
 unfold EA at h;split at h
 grind [WA]
 grind [WA]
 split at h;rename_i G;simp only[T.aN] at h;refine⟨G, ?_⟩;have D:∀v,b.ai x=v->CW R x ((b,v)::W):=λv B X V=>by
  rcases eu.1 V with rfl|V
  grind
  exact P X V
 grind
 exact h.elim
section
variable{p:Sp}{u:bv}{B:dF}{A:vN}{L:dm}{G:YH}{k:S->T}{D:C->S->T}
def gh(s:S)(d:cG)(v:C):(s.put d v).ni=s.ni/\(s.put d v).nb=s.nb/\(s.put d v).rs=s.rs:=by cases d<;>exact⟨rfl,rfl,rfl⟩
def anp{X:S}(h:(gI u b R).gives x X):X.ni=R.ni/\X.nb=R.nb/\X.rs=R.rs:=by
 unfold gI at h;split at h;exact h.elim;split at h;split at h;split at h;cases h;exact gh _ _ _;exact h.elim;exact h.elim;split at h;split at h;cases h;exact gh _ _ _;exact h.elim;exact h.elim;split at h;split at h;split at h;split at h;cases h;exact gh _ _ _;exact h.elim;exact h.elim;exact h.elim;exact h.elim;split at h;split at h;split at h;cases h;exact gh _ _ _;exact h.elim;exact h.elim;exact h.elim;split at h;simp only[OR.gives] at h;split at h<;>(subst h;exact gh _ _ _);exact h.elim;obtain⟨v,-,rfl⟩:=CP h;exact gh _ _ _;obtain⟨v,-,rfl⟩:=CP h;exact gh _ _ _
def Sn{d:cG}{aS:BE}{k:RK}{x:LE}{de:ar}{b:BI}(h:kV R d aS v k x t de=U b):b.s.ni=R.ni/\b.s.nb=R.nb/\Y b.s.rs=Y R.rs+1:=by
 obtain⟨-,-,rfl⟩:=AW h;refine⟨(gh _ _ _).1,(gh _ _ _).2.1, ?_⟩;simp only;rw[(gh _ _ _).2.2];simp[CM,CL]
def anq{bM W:Bool}{b:BI}(h:eX u l bM W R=U b):b.s.ni=R.ni/\b.s.nb=R.nb/\Y b.s.rs=Y R.rs+1:=by
 unfold eX at h;split at h;split at h;split at h;split at h;split at h;split at h;cases h;split at h;split at h;cases h;exact Sn h;cases h;cases h;cases h;cases h;cases h;split at h;split at h;split at h;exact Sn h;cases h;cases h;cases h;split at h;cases h;split at h;split at h;split at h;split at h;exact Sn h;cases h;cases h;cases h;cases h;split at h;cases h
 ·split at h
  all_goals first
   |cases h
   |(split at h
     split at h;exact Sn h;cases h;cases h)
 split at h;cases h;split at h;split at h;split at h;split at h;cases X:kV R Z (xt _ (.len (.v _))) _ (.own _) _ [_] _ with
 |none=>rw[X] at h;cases h
 |some N=>
  rw[X] at h;simp at h;subst h;obtain⟨V,Q,P⟩:=Sn X;refine⟨?_, ?_, ?_⟩;simp only;rw[(gh _ _ _).1];exact V;simp only;rw[(gh _ _ _).2.1];exact Q;simp only;rw[(gh _ _ _).2.2];exact P
 cases h;cases h;cases h;cases h;cases h
def anr{W:S}{d:cG}{r:PR}{b:BE}(h:xw R d X r=.aS b W):b.bd R.ni R.nb (Y R.rs)=true:=by
 cases r with
 |ok v=>cases h
 |aS V v=>
  grind [xw]
 |no w=>cases h
def ax4{W:S}{X:BE}(h:gI u b R=.aS X W):X.bd R.ni R.nb (Y R.rs)=true:=by
 unfold gI at h;split at h;cases h;split at h
 ·(repeat' split at h)<;>cases h
 ·(repeat' split at h)<;>cases h
 ·(repeat' split at h)<;>cases h
 ·(repeat' split at h)<;>cases h
 ·(repeat' split at h)<;>cases h
 exact anr h;exact anr h
structure CX(B:dF)(A:vN):Prop where
 q:∀(g:FuncId)(args:aq)(s:S)(d:cG)(v:C)(l:Nat),A g args (s.dH d v l)=A g args s
 z:∀(g:FuncId)(s:S)(n:Nat)(t:TypeId)(cs:aq)(d:cG)(w:C),gt s.au n=J->A g [] ((s.cX n t cs).put d w)=A g [] s
 reg:∀(g:FuncId)(args:aq)(s:S)(r:C×bm),A g args s=U r->VV B=J
def ant{W:bm}(h:aK R.au X=J):bP (R.plus W).au X=bP R.au X:=by
 obtain⟨b,V⟩:=jz.1 h
 grind [bS,S.plus]
def anu{W:bm}(h:gt R.au X=J):gt (R.plus W).au X=true:=by
 grind [gt,S.plus]
def aec{s:S}{o:Oper}{g:Cs}{X:aq}(h:et u s o=.call g X):AR o.op=true:=by
 grind [AR,et]
def anv{s:S}{o:Oper}{g:FuncId}{X:aq}(W:MA o.op=J)(h:et u s o=.call (.fn g) X):X=[]:=by
 grind [et,S.ev,yW,iW,AM,CK.call.injEq,Cs.fn.injEq,MA]
def Hl(p:Sp)(k:S->T)(L:dm)(O:aj)(s:S):Prop:=(k s).aN p O L
def E1(p:Sp)(D:C->S->T)(L:dm)(O:aj)(v:C)(s:S):Prop:=(D v s).aN p O L
def E2(p:Sp)(u:bv)(B:dF)(A:vN)(G:YH)(k:S->T)(D:C->S->T)(L:dm)(m:OM)(X:cN)(O:aj)(s:S)(n:Nat)(V:aq):Prop:=
 (∀R∈X,R.dr=J)/\∃W,CW s O W/\(uA u A G (.yl n) V s (λv Q=>lJ u (uA u A G) B k D X (Q.put m.o.dst v) (qn s W)) D).aN p O L
def Kj(a0:p.ty=u.ty):∀(l:cN)(s:S)(fx:Fx)(O:aj),Y O.i=s.ni->Y O.b=s.nb->Y O.r=Y s.rs->(lJ u (uA u A G) B k D l s fx).aN p O L->CW s O fx->
  (∀m∈l,m.dr=J)->eD p u B A (Hl p k L) (E1 p D L) (E2 p u B A G k D L) l O s
 |[],s,fx,O,_,_,_,h,_,_=>h
 |m::Q,s,fx,O,a,e2,e3,h,a3,bl=>by
  have a9:m.dr=true:=bl m aw;have al:∀m∈Q,m.dr=true:=λm' bt=>bl m' (by simp[bt])
  have bx:Cv u m s=none:=by simp[Cv,a9]
  have b0:EB u m s=none:=by simp[EB,a9]
  have b1:∀c f,Cu u m s c f=none:=λc f=>by simp[Cu,a9]
  have ba:∀(s:S)(d:cG)(v:C),(s.put d v).ni=s.ni/\(s.put d v).nb=s.nb/\(s.put d v).rs=s.rs:=λs d v=>by cases d<;>exact⟨rfl,rfl,rfl⟩
  have br:∀(X:S)(P:Fx),X.ni=s.ni->X.nb=s.nb->X.rs=s.rs->CW s O P->CW X O P:=λX P h1 N h3 hf x hx=>by rw[h1,N,h3];exact hf x hx
  have bb:∀P,CW s O P->(Cx u (uA u A G) m s (lJ u (uA u A G) B k D Q) D P).aN p O L->
    (match et u s m.o with
     |.call (.fn g) w=>rh (A g w s) (λv ex=>s.bd=J/\eD p u B A (Hl p k L) (E1 p D L) (E2 p u B A G k D L) Q O ((s.plus ex).put m.o.dst v)) (Nr p u s O g w λO' v X=>eD p u B A (Hl p k L) (E1 p D L) (E2 p u B A G k D L) Q O' (X.put m.o.dst v))|.call (.yl n) w=>m.so=J/\E2 p u B A G k D L m Q O s n w|.bp v=>E1 p D L O v s|.no=>False
     |.op=>uI (eX u m.o m.bM m.dr s) (λb=>b.aS.ai O=J/\∀rv,J5 p.ty p.S0 p.w0 b.e b.x s.rs O rv->eD p u B A (Hl p k L) (E1 p D L) (E2 p u B A G k D L) Q (O.add (.r rv)) b.s)
      (∃X,iZ u m s O X/\eD p u B A (Hl p k L) (E1 p D L) (E2 p u B A G k D L) Q O X):Prop):=by
   intro P af h;unfold Cx at h;rw[bx] at h;simp only[b0,b1] at h;cases hc:et u s m.o with
   |call g0 w=>
    rw[hc] at h;cases g0 with
    |yl n=>
     simp only at h⊢;split at h;rename_i b2;exact⟨b2,al,P,af,h⟩;exact h.elim
    |fn g=>
    simp only[uA] at h;simp only;cases bs:A g w s with
    |some ve=>
     obtain⟨v,ex⟩:=ve;rw[bs] at h;simp only at h;split at h;rename_i M;refine⟨M, ?_⟩;obtain⟨H,F,z⟩:=ba (s.plus ex) m.o.dst v;refine Kj a0 Q _ _ O (by rw[H];exact a) (by rw[F];exact e2) (by rw[z];exact e3) h (λx hx=> ?_) al;rw[H,F,z];exact af x (qg.1 hx).1;exact h.elim
    |none=>
    rw[bs] at h;simp only[AP] at h;simp only[rh];split at h;rename_i ts b3;split at h;rename_i ks b4;split at h;rename_i l hl;split at h;rename_i M;rw[aC] at M;refine⟨ts,ks,l,b3,b4,hl,M.1,λV W R=> ?_⟩;simp only[T.aN,akF.1 M.2] at h;refine(h O.y V W R).mono ?_;intro e W' he;cases e with
    |returned v=>
     obtain⟨xs,h1,N,h3,h4,h5⟩:=he;have hy:(O.ext xs).at O.y=O.ext xs:=by have:=Hh xs O;unfold aj.at;rw[<-this]
     rw[hy] at N;refine⟨xs,h1,N,h3,h4, ?_⟩;obtain⟨l1,l2,l3⟩:=xI ks xs (s.cut w ks) O h1 a e2 (e3.trans (CU w ks s.rs).len.symm);have an:=ba ((s.cut w ks).bU ks).2 m.o.dst (one l);refine Kj a0 Q _ _ _ (by rw[an.1];exact l1) (by rw[an.2.1];exact l2) (by rw[an.2.2];exact l3) h5 ?_ al;intro x hx;obtain⟨bc,b5⟩:=qg.1 hx;obtain⟨t,ce⟩:=af x bc;have b6:=EQ xs O;have bf:=Wo xs O;refine⟨by rw[BE.eh b6 _ (by rw[a,e2,e3];exact ce)];exact t, ?_⟩;rw[an.1,an.2.1,an.2.2,<-l1,<-l2,<-l3];exact BE.ey (by rw[<-a];exact bf.1) (by rw[<-e2];exact bf.2.1) (by rw[<-e3];exact bf.2.2) _ ce
    |panicked ch=>exact he|outgrown=>exact he
    exact h.elim;exact h.elim;exact h.elim;exact h.elim
   |bp v=>rw[hc] at h;exact h|no=>rw[hc] at h;exact h
   |op=>
    rw[hc] at h;simp only at h⊢;cases bg:eX u m.o m.bM m.dr s with
    |some b=>
     rw[bg] at h;obtain⟨hn,h⟩:=h;refine⟨hn,λrv b7=> ?_⟩;obtain⟨H,F,z⟩:=anq bg;have b8:(O.add (.r rv)).r.length=Y b.s.rs:=by simp[aj.add,z,e3]
     refine Kj a0 Q b.s _ _ (by rw[H];exact a) (by rw[F];exact e2) b8 (h rv b7) ?_ al;intro x hx;obtain⟨bc,b5⟩:=qg.1 hx;obtain⟨t,ce⟩:=af x bc;refine⟨by rw[BE.eh (Wc O (.r rv)) _ (by rw[a,e2,e3];exact ce)];exact t, ?_⟩;exact BE.ey ae ae ae _ ce
    |none=>
    rw[bg] at h;simp only[uI] at h⊢;have a4:∀X a1,CW s O a1->iZ u m s O X->(lJ u (uA u A G) B k D Q X a1).aN p O L->∃X,iZ u m s O X/\eD p u B A (Hl p k L) (E1 p D L) (E2 p u B A G k D L) Q O X:=by
     intro X a1 hf hG hs;obtain⟨H,F,z⟩:=anp (Nq hG);exact⟨X,hG,Kj a0 Q X a1 O (by rw[H];exact a) (by rw[F];exact e2) (by rw[z];exact e3) hs (br X a1 H F z hf) al⟩
    split at h;rename_i X ag;exact a4 X P af (by unfold iZ;rw[ag];rfl) h;rename_i b X ag;refine a4 X P af ?_ h.2;unfold iZ;rw[ag];exact⟨h.1,ax4 ag,rfl⟩;rename_i b s1 s2 ag;obtain⟨ce,aa,ab,N⟩:=aea af h;cases hv:b.ai O;exact a4 s2 aa ab (by unfold iZ;rw[ag];simp[OR.Ki,hv,ce]) (by simpa[hv] using N);exact a4 s1 aa ab (by unfold iZ;rw[ag];simp[OR.Ki,hv,ce]) (by simpa[hv] using N);exact h.elim
  have bk:∀P,CW s O P->(lJ u (uA u A G) B k D Q (s.put m.o.dst (.bI [])) P).aN p O L->eD p u B A (Hl p k L) (E1 p D L) (E2 p u B A G k D L) Q O (s.put m.o.dst (.bI [])):=by
   intro P hf h;obtain⟨H,F,z⟩:=ba s m.o.dst (.bI []);exact Kj a0 Q _ P O (by rw[H];exact a) (by rw[F];exact e2) (by rw[z];exact e3) h (br _ P H F z hf) al
  simp only[lJ,VP] at h;cases ac:m.o.guard with
  |none=>
   rw[ac] at h;exact .inr ⟨by simp[gZ,ac],bb fx a3 h⟩
  |some q=>
   obtain⟨jj,ca⟩:=q;rw[ac] at h;simp only at h;split at h;rename_i d t;split at h;rename_i b M;cases ca;simp only[iW,jB] at h;obtain⟨ce,aa,ab,N⟩:=aea a3 h;cases j:b.ai O;exact .inr ⟨by simp[gZ,ac,t,M,ce,j],bb aa ab (by simpa[j] using N)⟩;exact .inl ⟨by simp[gZ,ac,t,M,ce,j],bk aa ab (by simpa[j] using N)⟩;simp only[dN] at h;obtain⟨ce,aa,ab,N⟩:=aea a3 h;cases j:b.ai O;exact .inl ⟨by simp[gZ,ac,t,M,ce,j],bk aa ab (by simpa[j] using N)⟩;exact .inr ⟨by simp[gZ,ac,t,M,ce,j],bb aa ab (by simpa[j] using N)⟩;rename_i M;exact .inl ⟨by simp[gZ,ac,t,M],bk fx a3 h⟩;exact h.elim;exact h.elim
end
section
variable{p:Sp}{cf:bv}{ops:dF}{A:vN}
structure lN(cf:bv)(ops:dF)(o:Oper)(s:S)(O:aj)(s':S)(O':aj):Prop where
 tm:∀t∈kW ops o,s'.tmps[t]?=s.tmps[t]?
 kd:looks o.op=J->CA o.op=E->CV cf.ty s s'
 kl:∀t x r w i off,o.op=.load t x->s.ev cf.gl x=.el r w i off->∀e,e≠ .bz->r.kind cf.ty s=e->r.kind cf.ty s'=e
 li:s.ni<=s'.ni
 lb:s.nb<=s'.nb
 lr:Y s.rs<=Y s'.rs
 ag:ja O O' s.ni s.nb (Y s.rs)
def lN.A5{o:Oper}{s X:S}{O:aj}(V:∀t∈kW ops o,X.tmps[t]?=s.tmps[t]?)(W:X.rs=s.rs)(R:X.ni=s.ni)(Q:X.nb=s.nb):lN cf ops o s O X O:=
 ⟨V,λ_ _=>CV.A5 W,λt x r w i P _ _=>CV.A5 W r,GG R.symm,GG Q.symm,GG (by rw[W]),ja.refl _ _ _ _⟩
theorem lN.ev{o:Oper}{s X:S}{O V:aj}(h:lN cf ops o s O X V)(W:nY):∀x∈o.op.operands.toList,X.ev W x=s.ev W x:=by
 intro x R;cases x with
 |tmp t=>
  grind [S.ev,yW,h.tm,kW]
 |const v=>rfl|global g=>rfl|func f=>rfl
def lN.guard{m:OM}{s W:S}{O Q:aj}(h:lN cf ops m.o s O W Q){b:Bool}(X:gZ ops m s O=U b):gZ ops m W Q=U b:=by
 unfold gZ at X⊢;cases V:m.o.guard with
 |none=>rw[V] at X;exact X
 |some q=>
  obtain⟨j,M⟩:=q;rw[V] at X;simp only at X⊢;cases R:(ops[j]?).bind (·.dst) with
  |none=>rw[R] at X;cases X
  |some d=>
   rw[R] at X;simp only at X⊢;have N:W.tmps[d]?=s.tmps[d]?:=h.tm d (by unfold kW;rw[V];exact akK _ (by simp[R]));rw[N];split at X;rename_i e L;split at X;rename_i P;rw[aH (BE.ey h.li h.lb h.lr _ P),BE.eh h.ag _ P];exact X;cases X;exact X;cases X
def anw{Q:S}{N:aj}(h:lN cf ops l R x Q N)(M:∀i,Cq cf.gl R l.op=U i->bP Q.au i=bP R.au i)
  (W:(cw cf.ty cf.gl R l.op).A6 R x r):(cw cf.ty cf.gl Q l.op).A6 Q N r:=by
 have H:cw cf.ty cf.gl Q l.op=cw cf.ty cf.gl R l.op:=by
  cases V:cw cf.ty cf.gl R l.op with|ok X=>exact WW (ty:=cf.ty) (h.ev cf.gl) h.kd h.kl M V (λw P=>by cases P)|aS b X=>exact WW (ty:=cf.ty) (h.ev cf.gl) h.kd h.kl M V (λw P=>by cases P)|no w=>rw[V] at W;exact W.elim
 rw[H];cases V:cw cf.ty cf.gl R l.op with
 |ok X=>rw[V] at W;exact W
 |aS b X=>
  rw[V] at W;obtain⟨G,L,F⟩:=W;exact⟨by rw[BE.eh h.ag _ L];exact G,BE.ey h.li h.lb h.lr _ L,F⟩
 |no w=>rw[V] at W;exact W.elim
def aed{P:S}{G:aj}(h:lN cf ops b.o R x P G)(F:∀i,Cq cf.gl R b.o.op=U i->bP P.au i=bP R.au i)(z:QV cf ops x b R r X):QV cf ops G b P r X:=by
 rcases z with⟨N,M,V⟩|⟨N,M,V⟩;exact .inl ⟨h.guard N,M,V⟩;refine .inr ⟨h.guard N,λW D=>by rw[h.ev cf.gl W D];exact M W D, ?_⟩;have Q:=h.ev cf.gl;cases B:b.o.op with
 |pick c W y=>
  rw[B] at V Q;obtain⟨e,w,A,u,q⟩:=V;refine⟨e,by rw[Q c cq];exact w,BE.ey h.li h.lb h.lr _ A, ?_,q⟩;rw[BE.eh h.ag _ A,Q W cq,Q y cq];exact u
 |load t W=>
  have L:=λ(H:(cw cf.ty cf.gl R b.o.op).A6 R x r)=>anw (cf:=cf) h F H
  rw[B] at V Q L;exact⟨L V.1,by rw[Q W cq];exact V.2⟩
 |_=>
  have L:=λ(H:(cw cf.ty cf.gl R b.o.op).A6 R x r)=>anw (cf:=cf) h F H
  grind
def ax5(h:o9 l.op=J):et cf R l=.op:=by
 unfold et;cases W:l.op<;>rw[W] at h<;>simp[o9] at h<;>try rfl
 rename_i c;cases X:c.callee with
 |builtin b=>cases b<;>simp[X] at h<;>simp[X]
 |value f=>simp[X] at h|invoke r m=>simp[X] at h
theorem Ns(s:S)(d:cG)(v:C):s.dH d v 0=s.put d v:=by simp[S.dH]
def Nt{Q:S}(F:o9 b.o.op=J)(P:gZ ops b R x=U J):iZ cf b R x Q<->∃v l,QV cf ops x b R v l/\Q=R.dH b.o.dst v l:=by
 unfold iZ gI QV;by_cases N:(b.o.op.operands.toList.any λX=>(R.ev cf.gl X).eZ)=J;simp only[N,dN];constructor;exact λh=>h.elim
 rintro⟨v,l,h|h,-⟩;rw[P] at h;cases h.1;obtain⟨X,H,D⟩:=ny.1 N;have:=h.2.1 X H;rw[this] at D;cases D
 ·have B:∀X∈b.o.op.operands.toList,(R.ev cf.gl X).eZ=false:=by
   intro X H;cases t:(R.ev cf.gl X).eZ;rfl;exact bE (ny.2 ⟨X,H,t⟩) N
  have G:¬gZ ops b R x=U false:=by rw[P];simp
  have A:∀(M:Nat),(xw R b.o.dst M (cw cf.ty cf.gl R b.o.op)).Ki R x Q<->∃v l,((gZ ops b R x=U E/\v=.bI []/\l=0)\/(gZ ops b R x=U J/\(∀X∈b.o.op.operands.toList,(R.ev cf.gl X).eZ=E)/\(cw cf.ty cf.gl R b.o.op).A6 R x v/\l=M))/\Q=R.dH b.o.dst v l:=by
   intro M;rw[ano];constructor;rintro⟨v,W,V⟩;exact⟨v,M,.inr ⟨P,B,W,rfl⟩,V⟩;rintro⟨v,l,h|⟨-,-,W,rfl⟩,L⟩;exact bE h.1 G;exact⟨v,W,L⟩
  rw[aP N];cases z:b.o.op<;>rw[z] at F A<;>simp only[o9,iW] at F
  case pick c X y=>
   simp only;cases q:R.ev cf.gl c with
   |bool e=>
    constructor;rintro⟨W,V⟩;refine⟨if e.ai x then R.ev cf.gl X else R.ev cf.gl y,0,.inr ⟨P,by rw[<-z];exact B,e,rfl,W,rfl,rfl⟩, ?_⟩;rw[Ns,V];split<;>rfl;rintro⟨v,l,h|⟨-,-,r,W,V,w,u⟩,L⟩;exact bE h.1 G;cases W;subst u;refine⟨V, ?_⟩;rw[L,Ns,w];split<;>rfl
   |_=>
    constructor;exact λh=>h.elim
    rintro⟨v,l,h|⟨-,-,r,W,V,w,u⟩,L⟩;exact bE h.1 G;cases W
  all_goals exact A _
variable{a:aj->S->Prop}{k:aj->C->S->Prop}{n:OM->cN->aj->S->Nat->aq->Prop}
def anx{bM:Bool}(X:o9 l.op=J):eX cf l bM J R=none:=by
 unfold eX;cases V:l.op<;>rw[V] at X<;>simp only[o9,iW] at X<;>try rfl
 rename_i c;cases W:c.callee with
 |builtin b=>cases b<;>simp[W] at X<;>simp[W]
 |value f=>simp[W] at X|invoke r m=>simp[W] at X
def anz{P:cN}(N:b.dr=J)(Q:o9 b.o.op=J):eD p cf ops A a k n (b::P) x R<->∃v l,QV cf ops x b R v l/\eD p cf ops A a k n P x (R.dH b.o.dst v l):=by
 simp only[eD,ax5 Q,N,anx Q,uI];constructor;rintro(⟨X,W⟩|⟨X,M,W,V⟩);exact⟨.bI [],0,.inl ⟨X,rfl,rfl⟩,by rw[Ns];exact W⟩;obtain⟨v,l,L,rfl⟩:=(Nt (ops:=ops) Q X).1 W
 grind
 rintro⟨v,l,X,W⟩;rcases X with⟨V,rfl,rfl⟩|V
 grind [Ns]
 exact .inr ⟨V.1,_,(Nt (ops:=ops) Q V.1).2 ⟨v,l,.inr V,rfl⟩,W⟩
end
section
variable{p:Sp}{A:bv}{B:dF}{D:vN}
theorem nL{d:cG}(h:d≠U X):(R.put d r).tmps[X]?=R.tmps[X]?:=by
 cases d with|none=>rfl|some d=>simp only[S.put,Cl];rw[AE (λe=>h (by rw[e]))]
def Nu{d:cG}{t:Nat}(h:d≠U t):(R.dH d r X).tmps[t]?=R.tmps[t]?:=by
 unfold S.dH;rw[nL h]
theorem mU(s:S)(d:cG)(v:C):(s.put d v).au=s.au:=by cases d<;>rfl
def E3(s:S)(d:cG)(v:C)(l:Nat):(s.dH d v l).au=s.au:=by unfold S.dH;rw[mU]
def WY(s:S)(d:cG)(v:C):(s.put d v).lk=s.lk:=by cases d<;>rfl
def aee{d e:cG}{w:C}(h:∀x,d=U x->e≠U x):(R.put d r).put e w=(R.put e w).put d r:=by
 cases d with
 |none=>cases e<;>rfl
 |some d=>
  cases e with
  |none=>rfl
  |some e=>
   grind [S.put,Cl,List.set_comm]
def Sq{s:S}{d e:cG}{v w:C}{l:Nat}(h:∀x,d=U x->e≠U x):(s.dH d v l).put e w=(s.put e w).dH d v l:=by
 unfold S.dH;rw[aee h];cases e<;>rfl
def ax6{d e:cG}{w:C}{W:Nat}(h:∀x,d=U x->e≠U x):(R.dH d r X).dH e w W=(R.dH e w W).dH d r X:=by
 have V:(R.dH d r X).dH e w W={(R.dH d r X).put e w with lk:=R.lk|||X|||W}:=by
  unfold S.dH;cases e<;>cases d<;>rfl
 have Q:(R.dH e w W).dH d r X={(R.dH e w W).put d r with lk:=R.lk|||W|||X}:=by
  unfold S.dH;cases e<;>cases d<;>rfl
 rw[V,Q,Nat.or_assoc,Nat.or_comm X W,<-Nat.or_assoc];have P:(R.dH d r X).put e w={(R.put d r).put e w with lk:=R.lk|||X}:=by unfold S.dH;cases e<;>cases d<;>rfl
 have O:(R.dH e w W).put d r={(R.put e w).put d r with lk:=R.lk|||W}:=by unfold S.dH;cases e<;>cases d<;>rfl
 rw[P,O,aee h]
def ax7(s:S)(d:cG)(v:C)(l n:Nat)(t:TypeId)(X:aq):(s.dH d v l).cX n t X=(s.cX n t X).dH d v l:=by
 unfold S.dH S.cX;cases d<;>rfl
structure aef(B:dF)(x y:OM)(dx:Nat):Prop where
 xd:x.dr=J
 yd:y.dr=J
 qx:o9 x.o.op=J
 np:Mz y.o.op=E
 dst:x.o.dst=U dx
 ry:dx∉kW B y.o
 dy:y.o.dst≠U dx
 rx:dx∉kW B x.o
 yx:∀d,y.o.dst=U d->d∉kW B x.o
 rc:AQ y.o.op=J->CA x.o.op=J->x.bM=J/\y.bM=J
 rb:EF y.o.op=J->looks x.o.op=J->CA x.o.op=J/\x.bM=J/\y.bM=J
def anA{y:OM}(h:VT B b y=J):∃W,aef B b y W:=by
 unfold VT at h;simp only[aC,jP] at h;obtain⟨⟨⟨⟨⟨⟨⟨R,Q⟩,P⟩,O⟩,X⟩,M⟩,L⟩,H⟩:=h;cases V:b.o.dst with
 |none=>rw[V] at X;cases X
 |some W=>
  rw[V] at X;simp only[aC,jP,bne_iff_ne] at X;obtain⟨⟨G,N⟩,F⟩:=X;refine⟨W,R,Q,P,O,V, ?_,N, ?_, ?_, ?_, ?_⟩
  grind
  grind
  grind
  grind
  grind
def Hm{X:S}(h:∀x∈l.op.operands.toList,X.ev A.gl x=R.ev A.gl x):et A X l=et A R l:=by
 unfold et;cases W:l.op<;>rw[W] at h<;>try rfl
 case panic x=>simp only;rw[h x cq]
 case call c=>
  simp only;cases V:c.callee with
  |value f=>
   have N:=h f (by simp[ip,Ch,V]);have M:c.args.toList.map (X.ev A.gl)=c.args.toList.map (R.ev A.gl):=kF λx Q=>h x (by simp[ip,Ch];exact .inr (by simpa using Q))
   have L:(c.args.toList.any λx=>(X.ev A.gl x).eZ)=c.args.toList.any λx=>(R.ev A.gl x).eZ:=by
    have H:=awg (f:=X.ev A.gl) (p:=C.eZ) (l:=c.args.toList)
    grind
   grind
  |invoke r m=>rfl
  |builtin b=>
   cases b<;>try rfl
   cases P:c.args.toList with
   |nil=>rfl
   |cons x r=>
    cases r with|nil=>simp only;rw[h x (by simp[ip,Ch];exact .inr (by have O:x∈c.args.toList:=(by rw[P];simp);simpa using O))]|cons y r=>rfl
def aeg(h:et A R l=.bp r):Mz l.op=true:=by
 unfold et at h;split at h;rename_i X;rw[X];rfl;rename_i c X;split at h;split at h;split at h;cases h;exact(alo h).elim
 grind
 cases h;cases h
 grind [Mz]
 cases h;cases h
def zu(s:S)(d:Nat):Prop:=s.tmps[d]?=Z\/∃w,s.tmps[d]?=U w/\w.bd s.ni s.nb (Y s.rs) (aK s.au)=J
def aeh{X W V:Nat}{R:Nat->Bool}:∀{l:aq}{d:Nat}{v:C},C.dO X W V R (l.set d v)=J->(l[d]?=Z\/∃w,l[d]?=U w/\w.bd X W V R=J)->C.dO X W V R l=J
 |[],d,v,h,_=>rfl
 |x::P,0,v,h,Q=>by
  simp only[aIZ,C.iY,aC] at h⊢
  grind
 |x::P,d+1,v,h,Q=>by
  simp only[List.set_cons_succ,C.iY,aC] at h⊢;exact⟨h.1,aeh h.2 (by simpa using Q)⟩
def Nv{s:S}{dx:Nat}{v:C}{l:Nat}{cs:aq}(h:(s.dH (U dx) v l).eW cs=J)(X:zu s dx):s.eW cs=true:=by
 simp only[S.eW,S.bd,S.dH,S.put,Cl,aC] at h⊢;exact⟨⟨aeh h.1.1 X,h.1.2⟩,h.2⟩
def ax8{Q:Ty}{P:nY}{V:Op}(h:(cw Q P R V).gives x r):o9 V=true:=by
 cases V with
 |call c=>
  cases W:c.callee with
  |builtin b=>cases b<;>simp only[cw,W,PR.gives] at h<;>simp[o9,W]
  |value f=>simp only[cw,W,PR.gives] at h|invoke X m=>simp only[cw,W,PR.gives] at h
 |_=>first|rfl|(simp only[cw,PR.gives] at h)
def ax9{y:OM}(hc:aef B b y X){a:S}{l:Nat}(ha:zu R X)(hg:gZ B y R x=U J)
  (h:iZ A y (R.dH (U X) r l) x a):∃V,iZ A y R x V/\a=V.dH (U X) r l/\(∀t,y.o.dst≠U t->V.tmps[t]?=R.tmps[t]?)/\V.ni=R.ni/\V.nb=R.nb/\V.rs=R.rs/\
   ∀i,aK R.au i=J->bP V.au i=bP R.au i\/(AQ y.o.op=J/\(y.bM=J->(R.lk|||l).testBit (2*i)=E)/\(mO R.au i).isSome=J):=by
 have an:lN A B y.o (R.dH (U X) r l) x R x:=lN.A5 (λt Q=>(Nu (λe=>hc.ry (by cases e;exact Q))).symm) rfl rfl rfl;have ac:lN A B y.o R x (R.dH (U X) r l) x:=lN.A5 (λt Q=>Nu (λe=>hc.ry (by cases e;exact Q))) rfl rfl rfl;have m:=ac.ev A.gl;have af:∀z,(U X:cG)=U z->y.o.dst≠U z:=λz G=>by cases G;exact hc.dy
 by_cases k:o9 y.o.op=J;have a0:=ac.guard hg;obtain⟨w,l',hw,rfl⟩:=(Nt (ops:=B) k a0).1 h;have a1:=aed (cf:=A) an (λi _=>by rw[E3]) hw;refine⟨R.dH y.o.dst w l',(Nt (ops:=B) k hg).2 ⟨w,l',a1,rfl⟩,ax6 af,λt Q=>Nu Q,(gh _ _ _).1,(gh _ _ _).2.1,(gh _ _ _).2.2,λi _=>.inl (by rw[E3])⟩;unfold iZ gI at h;split at h;exact h.elim;rename_i hk;have aa:¬(y.o.op.operands.toList.any λz=>(R.ev A.gl z).eZ)=true:=by
  intro hh;obtain⟨z,ag,a3⟩:=ny.1 hh;exact hk (ny.2 ⟨z,ag,by rw[m z ag];exact a3⟩)
 have ab:∀(n:Nat)(t:TypeId)(F:aq)(w:C),n<Y R.au->iZ A y R x ((R.cX n t F).put y.o.dst w)->a=((R.dH (U X) r l).cX n t F).put y.o.dst w->
   (∀i,aK R.au i=J->i=n->AQ y.o.op=J/\(y.bM=J->(R.lk|||l).testBit (2*i)=E)/\(mO R.au i).isSome=J)->
   ∃V,iZ A y R x V/\a=V.dH (U X) r l/\(∀t,y.o.dst≠U t->V.tmps[t]?=R.tmps[t]?)/\V.ni=R.ni/\V.nb=R.nb/\V.rs=R.rs/\
    ∀i,aK R.au i=J->bP V.au i=bP R.au i\/(AQ y.o.op=J/\(y.bM=J->(R.lk|||l).testBit (2*i)=E)/\(mO R.au i).isSome=J):=by
  intro n t F w hn h1 h2 h3;refine⟨_,h1, ?_,λt Q=>nL Q,(gh _ _ _).1,(gh _ _ _).2.1,(gh _ _ _).2.2,λi P=> ?_⟩;rw[h2,ax7,Sq af];by_cases al:i=n;exact .inr (h3 i P al);left;rw[mU,S.cX,xH al]
 split at h;rename_i t W;split at h;rename_i ti Q;split at h;rename_i N;simp only[aC] at N;have M:=Nv N.1 ha;have L:qW R.au y.ix t=true:=N.2;have H:gt R.au y.ix=true:=uD L;refine ab y.ix t (ep ti) _ (po H).2 ?_ h (λi P e=>by subst e;rw[(po H).1] at P;cases P);unfold iZ gI;rw[aP aa];simp only[W,Q,M,L,Ci,dN];rfl;exact h.elim;exact h.elim;rename_i t z W;have G:=m z (by rw[W];simp[ip]);split at h;rename_i ti Q;rw[G] at h;split at h;rename_i N;simp only[aC] at N;obtain⟨⟨⟨g,f⟩,d⟩,c4⟩:=N;have M:=Nv f ha;have L:qW R.au y.ix t=true:=c4;have H:gt R.au y.ix=true:=uD L;refine ab y.ix t _ _ (po H).2 ?_ h (λi P e=>by subst e;rw[(po H).1] at P;cases P);unfold iZ gI;rw[aP aa];simp only[W,Q,g,M,d,L,Ci,dN];rfl;exact h.elim;exact h.elim;rename_i t bb parts W;have G:(parts.toList.map λp=>(p.1,(R.dH (U X) r l).ev A.gl p.2))=parts.toList.map λp=>(p.1,R.ev A.gl p.2):=kF λp hp=>by rw[m p.2 (by rw[W];simp[ip];exact⟨p.1,by simpa using hp⟩)]
 split at h;rename_i e am q Q;split at h;rename_i te a4;rw[G] at h;split at h;rename_i F hf;split at h;rename_i N;simp only[aC] at N;obtain⟨⟨g,f⟩,d⟩:=N;have M:=Nv g ha;have L:qW R.au y.ix e=true:=d;have H:gt R.au y.ix=true:=uD L;refine ab y.ix e F _ (po H).2 ?_ h (λi P e=>by subst e;rw[(po H).1] at P;cases P);unfold iZ gI;rw[aP aa];simp only[W,Q,a4,hf,M,f,L,Ci,dN];rfl;exact h.elim;exact h.elim;exact h.elim;exact h.elim;rename_i t z u W;have G:=m z (by rw[W];simp[ip]);have hu:=m u (by rw[W];simp[ip]);rw[G,hu] at h;split at h;rename_i ti i bc Q P;rw[E3] at h;split at h;rename_i bt F M;split at h;rename_i N;simp only[aC,jP] at N;obtain⟨⟨⟨⟨g,f⟩,d⟩,c4⟩,D⟩:=N;have a9:(R.dH (U X) r l).lk=R.lk|||l:=WY _ _ _;rw[a9] at D;have ba:(y.bM&&R.lk.testBit (2*i))=false:=by
  cases hr:y.bM;rfl;rw[hr,Mi,Jx] at D;simp only[yN] at D;simp[D.1]
 refine ab i bt _ _ (dq.1 (ku.1 (AU M).1)).1 ?_ h (λj hj e=> ?_);unfold iZ gI;rw[aP aa];simp only[W,Q,P,M,g,f,d,c4,ba,Ci,Bool.not_false,dN];rfl;subst e;refine⟨by rw[W];rfl,λhr=> ?_,by rw[M];rfl⟩;rw[hr,Mi] at D;exact D;exact h.elim;exact h.elim;exact h.elim;rename_i c z u W;exact bE (by rw[W];rfl) k;rename_i t z W;exact bE (by rw[W];rfl) k;rename_i o1 o2 o3 o4 o5 o6;exfalso;obtain⟨w,hw,-⟩:=ano.1 h;refine k ?_;exact ax8 (WX hw)
def aya{X:Ty}{W:S}(h:R.rs=W.rs)(k:RK)(r:RE):r.fits X R k=r.fits X W k:=by
 unfold RE.fits;cases k<;>simp only[zt h r]
def anB{X:Ty}{s W:S}(h:s.rs=W.rs):∀(am:eJ)(V:aq),nG X s am V=nG X W am V
 |[],[]=>rfl|[],_::_=>rfl|_::_,[]=>rfl
 |c::R,v::Q=>by
  simp only[nG,anB h R Q];congr 1;cases c<;>cases v<;>simp only[uv,aya h]
theorem Hn{X:Ty}{s s':S}(h:s.rs=s'.rs){am:eJ}:∀{l:yT},oF X s am l=oF X s' am l
 |[]=>rfl|r::W=>by simp only[oF,anB h am r,Hn h (l:=W)]
def ayb{l:Nat}{V:Ty}{Q:TI}{y:C}{W:LE×BE×ar}(h:sP V (R.dH (U X) r l) v Q y=U W):sP V R v Q y=U W:=by
 unfold sP at h⊢;split at h;simp only[zt (s:=R) (s':=R.dH (U X) r l) rfl];exact h;rw[E3] at h;split at h;rename_i P;simp only[Hn (s:=R) (s':=R.dH (U X) r l) rfl];exact h;cases h;cases h
def ayc{l:Nat}{bM:Bool}{y:C}{W:LE}{n:BE}(h:xu A.ty (R.dH (U X) r l) v bM y=U (W,n,t)):xu A.ty R v bM y=U (W,n,t)/\∀k∈t,bM=J->(R.lk|||l).testBit (2*k+1)=false:=by
 have Q:(R.dH (U X) r l).lk=R.lk|||l:=WY _ _ _;unfold xu at h⊢;split at h;rename_i k;split at h;rename_i V;cases h;have P:R.rs[k]?=U (.own v):=V.1
 grind
 cases h
 grind
 grind
 simp only[zt (s:=R) (s':=R.dH (U X) r l) rfl]
 grind
 cases h
variable{F:aj->S->Prop}{G:aj->C->S->Prop}{H:OM->cN->aj->S->Nat->aq->Prop}
def ayd(X:aL)(s:S)(d:cG)(v:C)(l:Nat):((s.dH d v l).bU X).1=(s.bU X).1/\((s.dH d v l).bU X).2=(s.bU X).2.dH d v l:=by
 induction X generalizing s with
 |nil=>exact⟨rfl,rfl⟩
 |cons k X W=>
  simp only[S.bU];have V:((s.dH d v l).fresh k).1=(s.fresh k).1/\((s.dH d v l).fresh k).2=(s.fresh k).2.dH d v l:=by
   cases k<;>cases d<;>exact⟨rfl,rfl⟩
  grind
def aye(h:QV A B x b R r X)(D:gZ B b R x=U J){W:Operand}{i L:Nat}(H:b.o.op=.load v W)(P:R.ev A.gl W=.loc i L):aK R.au i=J/\(b.bM=J->X=1<<<(2*i)):=by
 rcases h with h|⟨-,-,h⟩
 grind
 rw[H] at h;obtain⟨Q,G⟩:=h;refine⟨?_,λF=>by rw[G,P,F];rfl⟩;have Q:=WX Q;simp only[cw,P] at Q;cases N:A.ty v with
 |none=>rw[N] at Q;exact Q.elim
 |some z=>
  rw[N] at Q;simp only at Q;cases M:bP R.au i with|none=>rw[show mO R.au i=Z by simp[mO,M]] at Q;exact Q.elim|some V=>simp[aK,M]
def ayf{m:OM}{s:S}{O:aj}{v:C}{l:Nat}(h:QV A B O m s v l)(G:gZ B m s O=U J){t:TypeId}{x:Operand}{i:Nat}{e:K}{N:bA}{W:aq}(M:m.o.op=.load t x)(V:s.ev A.gl x=.gq e N W)(R:AJ W=U i):aK s.au i=J/\(m.bM=J->l=1<<<(2*i)):=by
 rcases h with h|⟨-,-,h⟩
 grind
 rw[M] at h;obtain⟨X,L⟩:=h;refine⟨?_,λH=>by rw[L,V,H];simp[Re,R]⟩;have X:=WX X;simp only[cw,V] at X;cases Q:A.ty t with
 |none=>rw[Q] at X;exact X.elim
 |some F=>
  rw[Q] at X;simp only[R,akP] at X;cases P:bP s.au i with|none=>rw[show mO s.au i=Z by simp[mO,P]] at X;exact X.elim|some b=>simp[aK,P]
def anC(h:QV A B x b R r X)(G:gZ B b R x=U J){i:Nat}(P:Cq A.gl R b.o.op=U i):aK R.au i=J/\((CA b.o.op=J/\(b.bM=J->X=1<<<(2*i)))\/mO R.au i=Z):=by
 unfold Cq at P;split at P;rename_i t W N;split at P;rename_i j y M;cases P;obtain⟨Q,H⟩:=aye h G N M;exact⟨Q,.inl ⟨by rw[N];rfl,H⟩⟩;rename_i e w u M;obtain⟨Q,H⟩:=ayf h G N M P;exact⟨Q,.inl ⟨by rw[N];rfl,H⟩⟩;cases P;rename_i t W g f N;split at P;rename_i j M;cases P;rcases h with h|⟨-,-,h⟩
 grind
 rw[N] at h;have Q:=WX h.1;simp only[cw,M] at Q;split at Q;rename_i k e n d am q i' aa D;cases D;unfold VD at Q;split at Q;rename_i te a V c z cs g1 g2 F;refine⟨by simp[aK,F],.inr ?_⟩;have:mN z=true:=by
  split at Q;exact Q.elim;split at Q;rename_i L;simp at L;rw[L];decide;split at Q;rename_i L;simp at L;rw[L];decide;exact Q.elim
 simp[mO,F,this];exact Q.elim;exact Q.elim;cases P;cases P
def Nw{bM:Bool}{b:BI}(h:eX A l bM J R=U b):vK l.op=true:=by
 unfold eX at h;cases X:l.op<;>rw[X] at h<;>simp only[dN] at h<;>try cases h
 rfl
 grind [vK]
def aei{V:S}(h:vK b.o.op=J)(X:iZ A b R x V):False:=by
 unfold iZ gI at X;split at X;exact X;cases Q:b.o.op<;>rw[Q] at h X<;>simp[vK] at h;simp[cw,xw,OR.Ki] at X;rename_i c;cases W:c.callee with
 |builtin P=>cases P<;>simp[W] at h<;>simp[cw,W,xw,OR.Ki] at X
 |_=>simp[W] at h
def anD{l:Nat}{d:cG}{aS:BE}{k:RK}{x:LE}{de:ar}{V:BI}(P:zu R X)(O:d≠U X)
  (h:kV (R.dH (U X) r l) d aS v k x t de=U V):
  ∃b,kV R d aS v k x t de=U b/\V={b with s:=b.s.dH (U X) r l}/\(∀W,d≠U W->b.s.tmps[W]?=R.tmps[W]?)/\b.s.ni=R.ni/\b.s.nb=R.nb/\b.s.rs=kU de 0 (jD t 0 R.rs)++[k]/\b.s.au=R.au:=by
 unfold kV at h⊢;split at h;rename_i Q;cases h;simp only[aC] at Q;obtain⟨⟨⟨N,M⟩,L⟩,H⟩:=Q;have G:R.bd=true:=by
  have:R.eW []=true:=Nv (dx:=X) (v:=r) (l:=l) (cs:=[]) (by simp[S.eW,N,C.iY]) P;simp only[S.eW,aC] at this;exact this.1
 rw[aH (by simp only[aC];exact⟨⟨⟨G,M⟩,L⟩,H⟩)];refine⟨_,rfl, ?_,λW F=>nL F,(gh _ _ _).1,(gh _ _ _).2.1,(gh _ _ _).2.2,mU _ _ _⟩;congr 1;exact Sq (s:={R with rs:=kU de 0 (jD t 0 R.rs)++[k]}) (d:=U X) (e:=d) (v:=r) (w:=.ak (.v (Y R.rs))) (l:=l) (λz D=>by cases D;exact O);cases h
def ayg{y:OM}(N:aef B b y X){l:Nat}(H:zu R X)(Q:∀z∈y.o.op.operands.toList,R.ev A.gl z=(R.dH (U X) r l).ev A.gl z){G:BI}
  (h:eX A y.o y.bM y.dr (R.dH (U X) r l)=U G):
  ∃W V de D,eX A y.o y.bM y.dr R=U W/\G={W with s:=W.s.dH (U X) r l}/\(∀t,y.o.dst≠U t->W.s.tmps[t]?=R.tmps[t]?)/\W.s.ni=R.ni/\W.s.nb=R.nb/\W.s.rs=kU de 0 (jD V 0 R.rs)++[D]/\W.s.au=R.au/\
   (∀k∈V,y.bM=J->(R.lk|||l).testBit (2*k+1)=E)/\(EF y.o.op=E->V=[]):=by
 have P:=Nw (by rw[N.yd] at h;exact h);unfold eX at h⊢;cases w:y.o.op<;>rw[w] at P h Q<;>simp[vK] at P;rename_i t n m;simp only at h⊢;rw[Q n cq,Q m cq];split at h;rename_i e am q u j i g f;split at h;rename_i O d;split at h;rename_i a;obtain⟨W,M,L,g3,g4,g5,g6,g7⟩:=anD H N.dy h;have aa:(u.aR j&&oF A.ty R O.am [ep O]&&Y O.am !=0)=true:=by
  rw[<-Hn (s:=R.dH (U X) r l) (s':=R) rfl];exact a
 rw[aH aa];exact⟨W,[],[],_,M,L,g3,g4,g5,g6,g7,aw,λ_=>rfl⟩;cases h;cases h;cases h;rename_i c;cases bq:c.callee with
 |builtin bb=>
  cases bb<;>simp[bq] at P;simp only[bq] at h⊢;have ab:c.args.toList.map (R.ev A.gl)=c.args.toList.map ((R.dH (U X) r l).ev A.gl):=kF λz hz=>Q z (by simp[ip,Ch];exact .inr (by simpa using hz))
  rw[ab];split at h;rename_i t t2 x0 y0 g f;split at h;rename_i e am q e2 ag F i al;split at h;rename_i O d;split at h;cases h;rename_i ac;rw[aP ac];split at h;rename_i la n1 V lb n2 de M L;obtain⟨q1,F⟩:=ayc M;have q3:=ayb L;rw[q1,q3];split at h;cases h;rename_i af;simp only[aP af];obtain⟨W,k1,k2,k3,k4,k5,k6,k7⟩:=anD H N.dy h;exact⟨W,V,de,_,k1,k2,k3,k4,k5,k6,k7,F,λh=>by simp[EF,bq] at h⟩;cases h;cases h;cases h;cases h
 |_=>simp[bq] at P
def ayh(bk:CX B D){y:OM}{af:cN}(bl:y.so=E)(br:VT B b y=J)(ha:∀d,b.o.dst=U d->zu R d)
  (e1:Y x.i=R.ni)(e2:Y x.b=R.nb)(e3:Y x.r=Y R.rs)
  (h:eD p A B D F G H (b::y::af) x R):eD p A B D F G H (y::b::af) x R:=by
 obtain⟨a,N⟩:=anA br;obtain⟨v,l,M,h⟩:=(anz N.xd N.qx).1 h;rw[N.dst] at h;have an:=ha a N.dst;have a1:∀z,(U a:cG)=U z->y.o.dst≠U z:=λz hz=>by cases hz;exact N.dy
 have ag:lN A B y.o (R.dH (U a) v l) x R x:=lN.A5 (λt f=>(Nu (λe=>N.ry (by cases e;exact f))).symm) rfl rfl rfl;have al:∀(s':S)(O':aj),(gZ B b R x=U E->gZ B b s' O'=U E)->(gZ B b R x=U J->lN A B b.o R x s' O')->(gZ B b R x=U J->∀i,Cq A.gl R b.o.op=U i->bP s'.au i=bP R.au i)->eD p A B D F G H af O' (s'.dH (U a) v l)->eD p A B D F G H (b::af) O' s':=by
  intro s' O' bs hs hb hr;refine(anz N.xd N.qx).2 ⟨v,l, ?_,by rw[N.dst];exact hr⟩;cases ab:gZ B b R x with
  |none=>rcases M with M|M<;>(rw[ab] at M;cases M.1)
  |some X=>
   cases X;rcases M with M|M;exact .inl ⟨bs M.1,M.2⟩;rw[ab] at M;cases M.1;exact aed (hs ab) (hb ab) M
 simp only[eD] at h;rcases h with⟨h1,P⟩|⟨h1,P⟩;refine .inl ⟨ag.guard h1, ?_⟩;rw[Sq a1] at P;have aa:lN A B b.o R x (R.put y.o.dst (.bI [])) x:=lN.A5 (λt f=>nL (λe=>N.yx t e f)) (gh _ _ _).2.2 (gh _ _ _).1 (gh _ _ _).2.1;refine al _ _ aa.guard (λ_=>aa) (λ_ i _=>by rw[mU]) P
 ·refine .inr ⟨ag.guard h1, ?_⟩;have hg:gZ B y R x=U true:=ag.guard h1;have bt:et A R y.o=et A (R.dH (U a) v l) y.o:=Hm (ag.ev A.gl);rw[bt];cases a0:et A (R.dH (U a) v l) y.o with
  |call g0 c=>
   rw[a0] at P;rcases g0 with g|n
   rotate_left
   have h3:=P.1;rw[bl] at h3;cases h3;have bx:D g c (R.dH (U a) v l)=D g c R:=bk.q _ _ _ _ _ _;show rh _ _ _;have P:rh _ _ _:=P;rw[bx] at P;cases ba:D g c R with
   |some ve=>
    obtain⟨pv,ex⟩:=ve;rw[ba] at P;obtain⟨b0,P⟩:=P;have b5:R.bd=true:=by
     have:=Nv (s:=R) (dx:=a) (v:=v) (l:=l) (cs:=[]) (by simp only[S.eW,b0,C.iY,Ci]) an;simp only[S.eW,aC] at this;exact this.1
    have b6:(((R.dH (U a) v l).plus ex).put y.o.dst pv)=(((R.plus ex).put y.o.dst pv).dH (U a) v l):=by
     rw[<-Sq a1];rfl
    rw[b6] at P;have aa:lN A B b.o R x ((R.plus ex).put y.o.dst pv) x:=lN.A5 (λt f=>nL (λe=>N.yx t e f)) (gh _ _ _).2.2 (gh _ _ _).1 (gh _ _ _).2.1;refine⟨b5,al _ _ aa.guard (λ_=>aa) (λab i hi=> ?_) P⟩;rw[mU];exact ant (anC M ab hi).1
   |none=>
   rw[ba] at P;simp only[rh] at P⊢;obtain⟨ts,L,r,c1,c2,c3,c4,c5⟩:=P;obtain⟨f1,f2⟩:=ayd L (R.cut c L) (U a) v l;have b7:(R.eW c&&mQ L)=true:=by
    simp only[aC] at c4⊢;exact⟨Nv c4.1 an,c4.2⟩
   refine⟨ts,L,r,c1,c2,by rw[<-f1];exact c3,b7,λV W Q=> ?_⟩;refine(c5 V W (by rw[E3];exact Q)).mono ?_;intro e W' he;cases e with
   |returned u=>
    obtain⟨xs,q1,q2,q3,q4,q5⟩:=he;refine⟨xs,q1,q2,q3,q4, ?_⟩;have q5:eD p A B D F G H af (x.ext xs) ((((R.cut c L).dH (U a) v l).bU L).2.put y.o.dst (one r)):=q5;rw[f2,Sq a1] at q5;obtain⟨b1,b2,b3,b4⟩:=uG L (R.cut c L);obtain⟨l1,l2,l3⟩:=xI L xs (R.cut c L) x q1 e1 e2 (e3.trans (CU c L R.rs).len.symm);have a3:=Wo xs x;have bb:CV A.ty R ((((R.cut c L).bU L).2).put y.o.dst (one r)):=by
     intro q e he j;refine WV (λk e _ j=> ?_) he j;rw[(gh _ _ _).2.2];obtain⟨e',g1,g2⟩:∃e',(EE c L R.rs)[k]?=U e'/\e'.rd=e.rd:=by
      unfold EE;split;refine⟨AK ((Rj c (Y R.rs)).contains k) e,by rw[M6,j];simp, ?_⟩;cases e<;>simp only[AK]<;>try rfl
      split<;>rfl;exact⟨e,j,rfl⟩
     exact⟨e',amX L (R.cut c L) k e' g1,g2⟩
    have aa:lN A B b.o R x ((((R.cut c L).bU L).2).put y.o.dst (one r)) (x.ext xs):=by
     refine⟨λt f=> ?_,λ_ _=>bb,λt b r w i bc _ _=>bb r, ?_, ?_, ?_, ?_⟩;rw[nL (λe=>N.yx t e f),b2];rfl;rw[(gh _ _ _).1,<-l1,<-e1];exact a3.1;rw[(gh _ _ _).2.1,<-l2,<-e2];exact a3.2.1;rw[(gh _ _ _).2.2,<-l3,<-e3];exact a3.2.2;rw[<-e1,<-e2,<-e3];exact EQ xs x
    exact al _ _ aa.guard (λ_=>aa) (λ_ i _=>by rw[mU,b1];rfl) q5
   |panicked ch=>exact he|outgrown=>exact he
  |bp w=>
   have:=aeg a0;rw[N.np] at this;cases this
  |no=>rw[a0] at P;exact P
  |op=>
   rw[a0] at P;simp only at P⊢;cases a4:eX A y.o y.bM y.dr (R.dH (U a) v l) with
   |some b1=>
    rw[a4] at P;obtain⟨hn,P⟩:=P;obtain⟨X,b8,de,kk,g1,g2,g3,g4,g5,g6,g7,g8,g9⟩:=ayg N an (ag.ev A.gl) a4;rw[g1];subst g2;refine⟨hn,λrv ca=>al _ _ ?_ ?_ ?_ (P rv ca)⟩;intro cc;have cl:lN A B {b.o with op:=.move (.const undef)} R x X.s (x.add (.r rv)):=⟨λt f=>g3 t (λe=>N.yx t e (by
     unfold kW at f⊢;refine(fg.1 f).elim (λh=> ?_) (λh=>akK _ h);simp[ip] at h)),λh=>by simp[looks] at h,λt x0 r w i bc h=>by simp at h,GG g4.symm,GG g5.symm,by rw[g6];simp[CM,CL],by rw[<-e1,<-e2,<-e3];exact Wc x (.r rv)⟩
    exact cl.guard (m:={b with o:={b.o with op:=.move (.const undef)}}) cc;intro ab;have bf:∀(k:Nat)(e:RK),k∉b8->R.rs[k]?=U e->∃e',X.s.rs[k]?=U e'/\e'.rd=e.rd:=by
     intro k e cn j;have co:k<Y R.rs:=(dq.1 j).1;refine⟨AK (de.contains k) e, ?_, ?_⟩;rw[g6,fT (by simp[CM,CL];exact co),M6,M5,j];simp[cn];cases e<;>simp only[AK]<;>try rfl
     split<;>rfl
    refine⟨λt f=>g3 t (λe=>N.yx t e f),λcp ct=> ?_,λt x0 r w i bc ho hx e he j=> ?_,GG g4.symm,GG g5.symm,by rw[g6];simp[CM,CL],by rw[<-e1,<-e2,<-e3];exact Wc x (.r rv)⟩;cases ac:EF y.o.op with
    |true=>
     have:=(N.rb ac cp).1;rw[ct] at this;cases this
    |false=>
     intro r e he j;exact WV (λk e _ j=>bf k e (by rw[g9 ac];simp) j) he j
    refine WV (λk e cu j=>bf k e ?_ j) he j;intro a9;have ac:EF y.o.op=true:=by
     cases ac:EF y.o.op with|true=>rfl|false=>rw[g9 ac] at a9;cases a9
    obtain⟨-,r1,r2⟩:=N.rb ac (by rw[ho];rfl);have bg:=g8 k a9 r2;rcases M with M|⟨-,-,M⟩;rw[ab] at M;cases M.1;rw[ho] at M;have:=M.2;rw[hx,r1] at this;simp only[Re,cu,dN] at this;rw[this,Jx] at bg;simp[avL] at bg;intro _ i _;rw[g7]
   |none=>
   rw[a4] at P;have cv:eX A y.o y.bM y.dr R=none:=by
    cases hb:eX A y.o y.bM y.dr R with
    |none=>rfl
    |some X=>
     exfalso;have cx:=Nw (by rw[N.yd] at hb;exact hb);obtain⟨s2,h3,-⟩:=P;exact aei cx h3
   rw[cv];simp only[uI] at P⊢;obtain⟨s2,h3,h4⟩:=P;obtain⟨s',g1,g2,g3,g4,g5,g6,g7⟩:=ax9 N an hg h3;subst g2;have aa:lN A B b.o R x s' x:=lN.A5 (λt f=>g3 t (λe=>N.yx t e f)) g6 g4 g5;refine⟨s',g1,al s' x aa.guard (λ_=>aa) ?_ h4⟩;intro ab i hi;obtain⟨k1,k2⟩:=anC M ab hi;rcases g7 i k1 with k3|⟨k3,k4,k5⟩;exact k3;rcases k2 with⟨k2,k6⟩|k2;obtain⟨r1,r2⟩:=N.rc k3 k2;have:=k4 r2;rw[k6 r1,Jx] at this;simp[avL] at this;rw[k2] at k5;cases k5
end
section
variable{p:Sp}{cf:bv}{B:dF}{A:vN}{F:aj->S->Prop}{G:aj->C->S->Prop}{H:OM->cN->aj->S->Nat->aq->Prop}
def anE{W:S}(h:(gI cf b R).gives x W):∀t,b.o.dst≠U t->W.tmps[t]?=R.tmps[t]?:=by
 intro q X;unfold gI at h;split at h;exact h.elim;split at h;split at h;split at h;cases h;rw[nL X];rfl;exact h.elim;exact h.elim;split at h;split at h;cases h;rw[nL X];rfl;exact h.elim;exact h.elim;split at h;split at h;split at h;split at h;cases h;rw[nL X];rfl;exact h.elim;exact h.elim;exact h.elim;exact h.elim;split at h;split at h;split at h;cases h;rw[nL X];rfl;exact h.elim;exact h.elim;exact h.elim
 grind [OR.gives,nL]
 obtain⟨v,-,rfl⟩:=CP h;rw[Nu X];obtain⟨v,-,rfl⟩:=CP h;rw[Nu X]
def aej{bM:Bool}{b:BI}(h:eX cf l bM J R=U b):∀t,l.dst≠U t->b.s.tmps[t]?=R.tmps[t]?:=by
 intro q Q;have N:∀{aS:BE}{e:TypeId}{k:RK}{x:LE}{V de:ar},kV R l.dst aS e k x V de=U b->b.s.tmps[q]?=R.tmps[q]?:=by
  intro aS e k x V de h;obtain⟨-,-,rfl⟩:=AW h;simp only;rw[nL Q]
 have X:=Nw h;unfold eX at h;cases P:l.op<;>rw[P] at X h<;>simp[vK] at X
 grind
 rename_i c;cases W:c.callee with
 |builtin O=>
  cases O<;>simp[W] at X;simp only[W] at h;split at h
  grind
  cases h
 |_=>simp[W] at X
theorem Ss{X W V:Nat}{R:Nat->Bool}:∀{l m:aq},C.dO X W V R (l++m)=J<->C.dO X W V R l=J/\C.dO X W V R m=J
 |[],m=>by simp[C.iY]|x::Q,m=>by simp[C.iY,Ss (l:=Q),and_assoc]
theorem xJ{X W V:Nat}{R:Nat->Bool}:∀{l:aq},C.dO X W V R l=J<->∀v∈l,v.bd X W V R=J
 |[]=>by simp[C.iY]|x::Q=>by simp[C.iY,xJ (l:=Q)]
def ayi{W V:Nat}{R:Nat->Bool}(v:Value):(Q0 v).bd X W V R=true:=by
 have Q:∀w,(QZ w).bd X W V R=true:=λw=>by cases w<;>simp[QZ,C.bj,K.bj,BE.bj,RE.bj]
 cases v<;>try simp[Q0,C.bj,K.bj,BE.bj,RE.bj]
 rw[xJ];intro x P;obtain⟨w,-,rfl⟩:=fw.1 P;exact Q w
def CY(X:R.bd=J){x:Operand}(W:zh x=J):(R.ev cf.gl x).bd R.ni R.nb (Y R.rs) (aK R.au)=true:=by
 simp only[S.bd,aC] at X;cases x with
 |tmp t=>
  simp only[S.ev,yW,dA];cases V:R.tmps[t]? with|none=>simp[C.bj]|some v=>exact xE X.1 V
 |const v=>exact ayi v|global g=>cases W|func f=>simp[S.ev,C.bj,C.iY]
def aek{W V:Nat}{R:Nat->Bool}(h:r.bd X W V R=J):C.dO X W V R r.cells=true:=by
 cases r<;>simp only[C.cells,C.iY,Vx]<;>first|exact h|(simp only[C.bj] at h;exact h)
def ael{X W V:Nat}{R:Nat->Bool}:∀{vs l:aq}{Q:Nat},C.dO X W V R l=J->C.dO X W V R vs=J->C.dO X W V R (mh l Q vs)=J
 |[],l,Q,h,_=>h
 |v::vs,l,Q,h,P=>by
  simp only[C.iY,aC] at P;rw[mh];refine ael (vs:=vs) ?_ P.2
  grind [xJ]
def anF{V R Q:Nat}{P:Nat->Bool}{place:Nat->Option (Nat×Nat)}:∀{O:List (Nat×C)}{W l:aq},C.dO V R Q P W=J->(∀q∈O,q.2.bd V R Q P=J)->AI place W O=U l->C.dO V R Q P l=J
 |[],W,l,h,_,X=>by simp[AI] at X;subst X;exact h
 |(i,v)::r,W,l,h,N,X=>by
  simp only[AI] at X;split at X;cases X;split at X;cases X;exact anF (ael h (aek (N (i,v) Vo))) (λq M=>N q (AD _ M)) X
def WZ{W V:Nat}{R:Nat->Bool}(Q:TI):C.dO X W V R (ep Q)=true:=by
 rw[xJ];intro x P;obtain⟨c,-,rfl⟩:=fw.1 P;cases c<;>simp[Et,C.bj,K.bj,BE.bj,RE.bj]
def anG{X W V:Nat}{R:Nat->Bool}{l:aq}(h:C.dO X W V R l=J):∀n,C.dO X W V R (yZ n l)=J
 |0=>rfl|n+1=>by rw[yZ,Ss];exact⟨h,anG h n⟩
mutual
def C.St{W V R:Nat}{Q P:Nat->Bool}(h:∀i,Q i=J->P i=J):∀(v:C),v.bd W V R Q=J->v.bd W V R P=J
 |.int _ _,X=>by simp only[C.bj] at X⊢;exact X|.bool _,X=>by simp only[C.bj] at X⊢;exact X|.ak _,X=>by simp only[C.bj] at X⊢;exact X|.loc i _,X=>by simp only[C.bj] at X⊢;exact h i X|.iP i _ _ _,X=>by simp only[C.bj] at X⊢;exact h i X|.el _ _ _ _,X=>by simp only[C.bj] at X⊢;exact X|.agg l,X=>by simp only[C.bj] at X⊢;exact C.Ho h l X|.bI l,X=>by simp only[C.bj] at X⊢;exact C.Ho h l X|.fn _ l,X=>by simp only[C.bj] at X⊢;exact C.Ho h l X|.gH _ x,X=>by simp only[C.bj] at X⊢;exact C.St h x X|.yl _,_=>by simp only[C.bj]|.any,_=>by simp only[C.bj]|.mp i,X=>by simp only[C.bj] at X⊢;exact h i X|.gq _ _ O,X=>by simp only[C.bj,aC] at X⊢;exact⟨X.1,C.Ho h O X.2⟩
def C.Ho{W V R:Nat}{Q P:Nat->Bool}(h:∀i,Q i=J->P i=J):∀(l:aq),C.dO W V R Q l=J->C.dO W V R P l=J
 |[],_=>rfl|x::O,X=>by simp only[C.iY,aC] at X⊢;exact⟨C.St h x X.1,C.Ho h O X.2⟩
end
def E4{V R Q:Nat}{P:Nat->Bool}:∀{l:bm},C.rT V R Q P l=J<->∀(i:Nat)(b:TypeId×aq),bP l i=U b->C.dO V R Q P b.2=J
 |[]=>by simp[C.rT,bS]
 |Z::W=>by
  simp only[C.rT,E4 (l:=W)];exact⟨λh i b X=>by cases i with|zero=>simp[bS] at X|succ i=>exact h i b (by simpa[bS] using X),λh i b X=>h (i+1) b (by simpa[bS] using X)⟩
 |some x::W=>by
  simp only[C.rT,aC,E4 (l:=W)];exact⟨λh i b X=>by cases i with|zero=>simp[bS] at X;subst X;exact h.1|succ i=>exact h.2 i b (by simpa[bS] using X),λh=>⟨h 0 x (by simp[bS]),λi b X=>h (i+1) b (by simpa[bS] using X)⟩⟩
def S.more(s:S)(n:Nat)(t:TypeId)(X:aq)(d:cG)(w:C):S:=(s.cX n t X).put d w
def anH{d:cG}(Q:R.bd=J)(G:gt R.au X=J)(H:R.eW h=J)(F:r.bd R.ni R.nb (Y R.rs) (λi=>i==X)=J):(R.more X v h d r).bd=true:=by
 have N:=(po G).2;have P:∀i,aK R.au i=J->aK (R.au.set X (U (v,h))) i=true:=λi V=>(qA N).2 (.inr V)
 simp only[S.eW,S.bd,aC] at Q H;simp only[S.more,S.bd,aC];obtain⟨D,B,A⟩:=gh (R.cX X v h) d r;rw[D,B,A,mU];simp only[S.cX];refine⟨?_, ?_⟩;rw[xJ];intro W M;cases d with
 |none=>exact C.St P W (xJ.1 Q.1 W M)
 |some d=>
  simp only[S.put,Cl] at M;rcases Mb M with L|L;exact C.St P W (xJ.1 Q.1 W L);rw[L];exact C.St (λi V=>by simp at V;subst V;exact(qA N).2 (.inl rfl)) r F
 rw[E4];intro i b O;by_cases V:i=X;subst V;rw[EY N] at O;cases O;exact C.Ho P h H.2;rw[xH V] at O;exact C.Ho P _ (E4.1 Q.2 i b O)
def aem{m:S}(hy:gT b.o.op=J)(aa:b.o.op.operands.toList.all zh=J)(h:iZ cf b R x m):
  ∃t L w,m=R.more b.ix t L b.o.dst w/\gt R.au b.ix=J/\(∀ni nb nr,w.bd ni nb nr (λi=>i==b.ix)=J)/\
   ∀(W:S)(B:aj),(∀X∈b.o.op.operands.toList,W.ev cf.gl X=R.ev cf.gl X)->W.bd=J->gt W.au b.ix=J->W.eW L=J/\iZ cf b W B (W.more b.ix t L b.o.dst w):=by
 unfold iZ gI at h;split at h;exact h.elim;rename_i hk;have l:∀X∈b.o.op.operands.toList,zh X=true:=gC.1 aa;have u:∀W:S,(∀X∈b.o.op.operands.toList,W.ev cf.gl X=R.ev cf.gl X)->¬(b.o.op.operands.toList.any λz=>(W.ev cf.gl z).eZ)=true:=by
  intro W Q hh;obtain⟨z,k,ab⟩:=ny.1 hh;exact hk (ny.2 ⟨z,k,by rw[<-Q z k];exact ab⟩)
 split at h;rename_i t V;split at h;rename_i A H;split at h;rename_i P;simp only[aC] at P;refine⟨t,ep A,.loc b.ix 0,h,uD P.2,λ_ _ _=>by simp[C.bj],λW B Q M G=> ?_⟩;have N:W.eW (ep A)=true:=by simp only[S.eW,M,Mi];exact WZ A
 refine⟨N, ?_⟩;unfold iZ gI;rw[aP (u W Q)];have F:qW W.au b.ix t=true:=by simp[qW,G,M4 P.2]
 simp only[V,H,N,F,Ci,dN];rfl;exact h.elim;exact h.elim;rename_i t z V;split at h;rename_i A H;split at h;rename_i P;simp only[aC] at P;obtain⟨⟨⟨j,g⟩,v⟩,f⟩:=P;refine⟨t,(R.ev cf.gl z).cells,.loc b.ix 0,h,uD f,λ_ _ _=>by simp[C.bj],λW B Q M G=> ?_⟩;have D:=Q z (by rw[V];simp[ip]);have N:W.eW (R.ev cf.gl z).cells=true:=by
  simp only[S.eW,M,Mi];rw[<-D];exact aek (CY M (l z (by rw[V];simp[ip])))
 refine⟨N, ?_⟩;unfold iZ gI;rw[aP (u W Q)];have F:qW W.au b.ix t=true:=by simp[qW,G,M4 f]
 simp only[V,H,D,j,N,v,F,Ci,dN];rfl;exact h.elim;exact h.elim;rename_i t r parts V;split at h;rename_i e am q H;split at h;rename_i te ac;split at h;rename_i L d;split at h;rename_i P;simp only[aC] at P;obtain⟨⟨j,g⟩,v⟩:=P;refine⟨e,L,.iP b.ix 0 r r,h,uD v,λ_ _ _=>by simp[C.bj],λW B Q M G=> ?_⟩;have D:(parts.toList.map λp=>(p.1,W.ev cf.gl p.2))=parts.toList.map λp=>(p.1,R.ev cf.gl p.2):=kF λp n=>by rw[Q p.2 (by rw[V];simp[ip];exact⟨p.1,by simpa using n⟩)]
 have N:W.eW L=true:=by
  simp only[S.eW,M,Mi];refine anF (anG (WZ te) r) (λq c=> ?_) d;rw[<-D] at c;obtain⟨a,n,rfl⟩:=fw.1 c;exact CY M (l a.2 (by rw[V];simp[ip];exact⟨a.1,by simpa using n⟩))
 refine⟨N, ?_⟩;unfold iZ gI;rw[aP (u W Q)];have F:qW W.au b.ix e=true:=by simp[qW,G,M4 v]
 simp only[V,H,ac,D,d,N,g,F,Ci,dN];rfl;exact h.elim;exact h.elim;exact h.elim;exact h.elim
 all_goals(rename_i V;simp[gT,V] at hy)<;>skip
def Su(h:gT l.op=J):et cf R l=.op:=by
 grind [gT,et]
def Nx{bM X:Bool}(h:gT l.op=J)(W:X=J):eX cf l bM X R=none:=by
 grind [gT,eX]
def A7(s:S)(n:Nat)(t:TypeId)(X:aq)(d:cG)(w:C):(s.more n t X d w).ni=s.ni/\(s.more n t X d w).nb=s.nb/\(s.more n t X d w).rs=s.rs:=gh _ _ _
def Ny{s:S}{n:Nat}{t:TypeId}{X:aq}{d:cG}{w:C}{q:Nat}(h:d≠U q):(s.more n t X d w).tmps[q]?=s.tmps[q]?:=nL h
def E5(s:S)(n:Nat)(t:TypeId)(X:aq)(d:cG)(w:C):(s.more n t X d w).au=s.au.set n (U (t,X)):=mU _ _ _
def E6{s:S}{n:Nat}{t:TypeId}{X:aq}{d e:cG}{v w:C}(h:∀x,d=U x->e≠U x):(s.put d v).more n t X e w=(s.more n t X e w).put d v:=by
 unfold S.more;have:(s.put d v).cX n t X=(s.cX n t X).put d v:=by cases d<;>rfl
 rw[this,aee h]
def aen{s:S}{n n':Nat}{t X:TypeId}{W V:aq}{d e:cG}{v w:C}(h:∀x,d=U x->e≠U x)(R:n≠n'):(s.more n t W d v).more n' X V e w=(s.more n' X V e w).more n t W d v:=by
 show((s.cX n t W).put d v).more n' X V e w=_;rw[E6 h];unfold S.more;have:((s.cX n t W).cX n' X V).put e w=((s.cX n' X V).put e w).cX n t W:=by
  have Q:(s.cX n t W).cX n' X V=(s.cX n' X V).cX n t W:=by simp only[S.cX];rw[List.set_comm _ _ R]
  rw[Q];cases e<;>rfl
 rw[this]
def anI:∀{l:aq}{P O N:Nat}{V:Nat->Bool}{i:Nat},C.dO P O N V l=J->i∈C.qi l->V i=true:=by
 have L:∀(n:Nat)(l:aq),SizeOf.sizeOf l<n->∀{P O N:Nat}{V:Nat->Bool}{i:Nat},C.dO P O N V l=J->i∈C.qi l->V i=true:=by
  intro n;induction n with
  |zero=>intro l h;omega
  |succ n R=>
   intro l Q P O N V i W X;cases l with
   |nil=>simp[C.qi] at X
   |cons x M=>
    simp only[C.iY,aC] at W;simp only[C.qi,fg] at X;simp only[List.cons.sizeOf_spec] at Q;rcases X with X|X;cases x with
    |loc j o=>simp[C.JL] at X;subst X;simpa only[C.bj] using W.1|iP j a b c=>simp[C.JL] at X;subst X;simpa only[C.bj] using W.1|agg m=>exact R m (by simp at Q;omega) (by simpa only[C.bj] using W.1) X|bI m=>exact R m (by simp at Q;omega) (by simpa only[C.bj] using W.1) X|fn f m=>exact R m (by simp at Q;omega) (by simpa only[C.bj] using W.1) X
    |gH t y=>exact R [y] (by
     have H:0<SizeOf.sizeOf M:=by cases M<;>simp<;>omega
     simp at Q⊢;omega) (by simpa[C.iY,C.bj] using W.1) (by simpa[C.qi,C.JL] using X)
    |mp j=>simp[C.JL] at X;subst X;simpa only[C.bj] using W.1|gq e G m=>exact R m (by simp at Q;omega) (by have:=W.1;simp only[C.bj,aC] at this;exact this.2) X|_=>simp[C.JL] at X
    exact R M ae W.2 X
 intro l P O N V i;exact L _ l (akR _)
def anJ{l:bm}{x:TypeId×aq}(h:X∉t)(W:gt l X=J):sO t 0 (l.set X (U x))=sO t 0 l:=by
 apply kS;intro i;rw[WI,WI,jm]
 grind
def anK(X:aL)(s:S)(n:Nat)(t:TypeId)(W:aq)(d:cG)(w:C):((s.more n t W d w).bU X).1=(s.bU X).1/\((s.more n t W d w).bU X).2=(s.bU X).2.more n t W d w:=by
 induction X generalizing s with
 |nil=>exact⟨rfl,rfl⟩
 |cons k X V=>
  simp only[S.bU];have R:((s.more n t W d w).fresh k).1=(s.fresh k).1/\((s.more n t W d w).fresh k).2=(s.fresh k).2.more n t W d w:=by
   cases k<;>cases d<;>exact⟨rfl,rfl⟩
  grind
theorem W0(s:S)(X:aq)(W:aL)(n:Nat)(t:TypeId)(V:aq)(d:cG)(w:C):(s.more n t V d w).cut X W=(s.cut X W).more n t V d w:=by cases d<;>rfl
def ayj{d:cG}(h:(R.put d r).bd=J)(X:∀e,d=U e->zu R e):R.bd=true:=by
 cases d with
 |none=>exact h
 |some d=>
  simp only[S.bd,S.put,Cl,aC] at h⊢;exact⟨aeh h.1 (X d rfl),h.2⟩
def anL{s:S}{n:Nat}{t:TypeId}{W:aq}{X:cG}{w:C}{d:cG}{aS:BE}{e:TypeId}{k:RK}{x:LE}{V de:ar}{b:BI}(P:(s.more n t W X w).bd=J)(O:∀q,X=U q->d≠U q)
  (h:kV s d aS e k x V de=U b):kV (s.more n t W X w) d aS e k x V de=U {b with s:=b.s.more n t W X w}:=by
 unfold kV at h⊢;split at h;rename_i R;cases h;simp only[aC] at R;obtain⟨⟨⟨B,N⟩,M⟩,L⟩:=R;obtain⟨H,G,Q⟩:=A7 s n t W X w;rw[aH (by simp only[aC];rw[H,G,Q];exact⟨⟨⟨P,N⟩,M⟩,L⟩)];congr 2;rw[Q,E6 (λq F D=>O q D F)];cases X<;>rfl;cases h
def ayk{s:S}{n:Nat}{t:TypeId}{X:aq}{W:cG}{w:C}{V:Ty}{e:TypeId}{R:TI}{y:C}{r:LE×BE×ar}(P:gt s.au n=J)(h:sP V s e R y=U r):sP V (s.more n t X W w) e R y=U r:=by
 have bY:(s.more n t X W w).rs=s.rs:=(A7 _ _ _ _ _ _).2.2;unfold sP at h⊢;split at h;simp only[zt bY];exact h;rename_i i N M L;rw[E5];split at h;rename_i Q;have O:i≠n:=λe=>by subst e;have:=(po P).1;simp[aK,(AU Q).1] at this
 rw[RG (xH O)];simp only[Q,Hn bY];exact h;cases h;cases h
def anM{W:cG}{e:TypeId}{bM:Bool}{y:C}:xu cf.ty (R.more X v h W r) e bM y=xu cf.ty R e bM y:=by
 have bY:(R.more X v h W r).rs=R.rs:=(A7 _ _ _ _ _ _).2.2;have V:(R.more X v h W r).lk=R.lk:=WY _ _ _;unfold xu;simp only[bY,V,zt bY]
def ayl{o:Oper}{bM:Bool}{s:S}{n:Nat}{t:TypeId}{W:aq}{X:cG}{w:C}{b:BI}(O:gt s.au n=J)(Q:(s.more n t W X w).bd=J)(P:∀q,X=U q->o.dst≠U q)
  (V:∀z∈o.op.operands.toList,(s.more n t W X w).ev cf.gl z=s.ev cf.gl z)(h:eX cf o bM J s=U b):eX cf o bM J (s.more n t W X w)=U {b with s:=b.s.more n t W X w}:=by
 have bY:(s.more n t W X w).rs=s.rs:=(A7 _ _ _ _ _ _).2.2;have R:=Nw h;unfold eX at h⊢;cases N:o.op<;>rw[N] at R h V<;>simp[vK] at R;rename_i j M L;simp only at h⊢;rw[V M cq,V L cq];split at h;rename_i e am q H i G F D;split at h;rename_i B A;split at h;rename_i y;rw[Hn bY,aH y];exact anL Q P h;cases h;cases h;cases h;rename_i c;cases bq:c.callee with
 |builtin x=>
  cases x<;>simp[bq] at R;simp only[bq] at h⊢;have v:c.args.toList.map ((s.more n t W X w).ev cf.gl)=c.args.toList.map (s.ev cf.gl):=kF λz u=>V z (by simp[ip,Ch];exact .inr (by simpa using u))
  rw[v];split at h;rename_i g f d a F D;split at h;rename_i e am q e2 aa q2 G ab;split at h;rename_i B A;split at h;cases h;rename_i r;rw[aP r,anM];split at h;rename_i la n1 ac lb H de m l;rw[m,ayk O l];split at h;cases h;rename_i k;simp only[aP k];exact anL Q P h;cases h;cases h;cases h;cases h
 |_=>simp[bq] at R
mutual
def C.ey{Q P O N M L:Nat}{H G:Nat->Bool}(W:Q<=N)(V:P<=M)(R:O<=L)(h:∀i,H i=J->G i=J):∀(v:C),v.bd Q P O H=J->v.bd N M L G=J
 |.int _ e,X=>by simp only[C.bj] at X⊢;exact K.ey W V R e X|.bool e,X=>by simp only[C.bj] at X⊢;exact BE.ey W V R e X|.ak e,X=>by simp only[C.bj] at X⊢;exact RE.ey W V R e X|.loc i _,X=>by simp only[C.bj] at X⊢;exact h i X|.iP i _ _ _,X=>by simp only[C.bj] at X⊢;exact h i X|.el r _ i _,X=>by simp only[C.bj,aC] at X⊢;exact⟨RE.ey W V R r X.1,K.ey W V R i X.2⟩|.agg l,X=>by simp only[C.bj] at X⊢;exact C.Nz W V R h l X|.bI l,X=>by simp only[C.bj] at X⊢;exact C.Nz W V R h l X|.fn _ l,X=>by simp only[C.bj] at X⊢;exact C.Nz W V R h l X|.gH _ x,X=>by simp only[C.bj] at X⊢;exact C.ey W V R h x X|.yl _,_=>by simp only[C.bj]|.any,_=>by simp only[C.bj]|.mp i,X=>by simp only[C.bj] at X⊢;exact h i X|.gq e _ F,X=>by simp only[C.bj,aC] at X⊢;exact⟨K.ey W V R e X.1,C.Nz W V R h F X.2⟩
def C.Nz{W V R Q P O:Nat}{N M:Nat->Bool}(L:W<=Q)(H:V<=P)(G:R<=O)(h:∀i,N i=J->M i=J):∀(l:aq),C.dO W V R N l=J->C.dO Q P O M l=J
 |[],_=>rfl|x::F,X=>by simp only[C.iY,aC] at X⊢;exact⟨C.ey L H G h x X.1,C.Nz L H G h F X.2⟩
end
def Sv{s':S}{d:cG}(X:R.bd=J)(V:R.ni<=s'.ni)(Q:R.nb<=s'.nb)(P:Y R.rs<=Y s'.rs)(O:s'.tmps=R.tmps)(N:s'.au=R.au)(L:r.bd s'.ni s'.nb (Y s'.rs) (aK s'.au)=J):(s'.put d r).bd=true:=by
 simp only[S.bd,aC] at X⊢;obtain⟨H,G,F⟩:=gh s' d r;rw[H,G,F,mU,N];rw[N] at L;refine⟨?_, ?_⟩;rw[xJ];intro u W;cases d with
 |none=>
  simp only[S.put,O] at W;exact C.ey V Q P (λ_ h=>h) u (xJ.1 X.1 u W)
 |some d=>
  simp only[S.put,Cl,O] at W;rcases Mb W with M|M;exact C.ey V Q P (λ_ h=>h) u (xJ.1 X.1 u M)
  grind
 rw[E4];exact λi b D=>C.Nz V Q P (λ_ h=>h) _ (E4.1 X.2 i b D)
def aeo:∀(X:aL)(s:S),s.ni<=(s.bU X).2.ni/\s.nb<=(s.bU X).2.nb/\Y s.rs<=(s.bU X).2.rs.length
 |[],s=>⟨cd _,cd _,cd _⟩
 |k::X,s=>by
  have:=aeo X (s.fresh k).2;simp only[S.bU];cases k<;>simp[S.fresh] at this⊢<;>omega
def anN{pr:Nat->Bool}:∀(X:aL)(s:S),C.dO (s.bU X).2.ni (s.bU X).2.nb (s.bU X).2.rs.length pr (s.bU X).1=J
 |[],s=>rfl
 |k::X,s=>by
  have W:=anN (pr:=pr) X (s.fresh k).2;have V:=aeo X (s.fresh k).2;simp only[S.bU,C.iY,aC];refine⟨?_,W⟩;cases k<;>simp only[S.fresh,C.bj,K.bj,BE.bj,RE.bj,dl]<;>simp[S.fresh] at V<;>omega
def anO{N:Ty}{W V R:Nat}{Q:Nat->Bool}:∀{O:iX}{l r:aq},C.dO W V R Q l=J->ze N O l=U r->C.dO W V R Q r=J
 |[],l,r,_,h=>by simp[ze] at h;subst h;rfl
 |t::O,l,r,X,h=>by
  simp only[ze] at h;split at h;rename_i M F;split at h;rename_i D L;cases h;have H:C.dO W V R Q (l.drop (Y M.am))=true:=by rw[xJ] at X⊢;exact λv P=>X v (Ek P)
  simp only[C.iY,aC];refine⟨?_,anO H L⟩;split;simp only[C.bj];rw[xJ] at X⊢;exact λv P=>X v (GB P)
  rw[dA];cases G:l[0]? with|none=>simp[C.bj]|some v=>exact xE X G
  cases h;cases h
def aym{X W V:Nat}{R:Nat->Bool}{l:aq}(h:C.dO X W V R l=J):(one l).bd X W V R=true:=by
 unfold one;split;simp only[C.iY,Vx] at h;exact h;simp only[C.bj];exact h
def ayn{s:S}(V:s.bd=J){W:aq}{X:aL}{R:iX}{r:aq}{d:cG}(h:ze cf.ty R ((s.cut W X).bU X).1=U r):((((s.cut W X).bU X).2).put d (one r)).bd=true:=by
 obtain⟨Q,P,L,H⟩:=uG X (s.cut W X);obtain⟨O,N,M⟩:=aeo X (s.cut W X);refine Sv V O N ?_ P Q (aym (anO (anN X _) h));have:=(CU W X s.rs).len;simp only[S.cut] at M⊢;omega
def Sw{bM:Bool}{b:BI}(h:eX cf l bM J R=U b):R.bd=J/\b.s.bd=J/\b.s.au=R.au:=by
 have N:∀{aS:BE}{e:TypeId}{k:RK}{x:LE}{W de:ar},kV R l.dst aS e k x W de=U b->R.bd=J/\b.s.bd=J/\b.s.au=R.au:=by
  intro aS e k x W de h;obtain⟨Q,-,rfl⟩:=AW h;refine⟨Q, ?_,mU _ _ _⟩;exact Sv (s':={R with rs:=kU de 0 (jD W 0 R.rs)++[k]}) Q (cd _) (cd _) (by simp[CM,CL]) rfl rfl (by simp[C.bj,RE.bj,CM,CL])
 have X:=Nw h;unfold eX at h;cases P:l.op<;>rw[P] at X h<;>simp[vK] at X
 grind
 rename_i c;cases V:c.callee with
 |builtin O=>
  cases O<;>simp[V] at X;simp only[V] at h;split at h
  grind
  cases h
 |_=>simp[V] at X
def aep{Q:S}(V:gT b.o.op=J)(X:iZ cf b R x Q):R.bd=true:=by
 unfold iZ gI at X;split at X;exact X.elim
 ·cases P:b.o.op<;>rw[P] at V X<;>simp[gT] at V<;>simp only at X
  all_goals
   (repeat' split at X)
   all_goals first
    |exact X.elim
    |(rename_i W;simp only[aC,S.eW] at W;first|exact W.1.1|exact W.1.1.2.1|exact W.1.1.1)
def ayo{X:TI}(W:b.o.op=.alloc v)(V:cf.ty v=U X)(Q:mN v=E)(P:R.bd=J)(N:gt R.au b.ix=J):iZ cf b R x (R.more b.ix v (ep X) b.o.dst (.loc b.ix 0)):=by
 have M:R.eW (ep X)=true:=by simp only[S.eW,P,Mi];exact WZ X
 unfold iZ gI;rw[aP (by rw[W];simp[ip])];have L:qW R.au b.ix v=true:=by simp[qW,N,Q]
 simp only[W,V,M,L,Ci,dN];rfl
def ayp{X:S}{W:TI}(V:b.o.op=.alloc v)(Q:cf.ty v=U W)(h:iZ cf b R x X):X=R.more b.ix v (ep W) b.o.dst (.loc b.ix 0):=by
 unfold iZ gI at h;rw[aP (by rw[V];simp[ip])] at h;simp only[V,Q] at h;split at h;exact h;exact h.elim
structure ayq(B:dF)(x y:OM):Prop where
 xy:∀q,x.o.dst=U q->y.o.dst≠U q
 yx:∀q,y.o.dst=U q->x.o.dst≠U q
 ry:∀q,x.o.dst=U q->q∉kW B y.o
 rx:∀q,y.o.dst=U q->q∉kW B x.o
def anP{y:OM}(h:VU B b y=J):ayq B b y:=by
 unfold VU at h;simp only[aC] at h;obtain⟨W,V⟩:=h;have R:∀q,b.o.dst=U q->y.o.dst≠U q:=λq X=>by rw[X] at W;simp at W;exact W.2
 exact⟨R,λq X Q=>R q Q X,λq X=>by rw[X] at W;simp at W;exact W.1,λq X=>by rw[X] at V;simpa using V⟩
def aeq{X:S}(W:∀t∈kW B l,R.tmps[t]?=X.tmps[t]?):∀z∈l.op.operands.toList,R.ev cf.gl z=X.ev cf.gl z:=by
 intro z V;cases z with
 |tmp t=>
  grind [S.ev,yW,kW]
 |_=>rfl
def anQ{X:S}(W:∀t∈kW B b.o,R.tmps[t]?=X.tmps[t]?)(V:R.ni=X.ni)(Q:R.nb=X.nb)(P:R.rs=X.rs):gZ B b R x=gZ B b X x:=by
 unfold gZ;cases N:b.o.guard with
 |none=>rfl
 |some q=>
  obtain⟨j,M⟩:=q;simp only;cases L:(B[j]?).bind (·.dst) with
  |none=>rfl
  |some d=>
   grind [kW]
def anR{s:S}{o:Oper}{g:FuncId}{X:aq}(h:et cf s o=.call (.fn g) X)(W:s.bd=J)(P:o.op.operands.toList.all zh=J):C.dO s.ni s.nb (Y s.rs) (aK s.au) X=true:=by
 have V:∀x∈o.op.operands.toList,zh x=true:=gC.1 P;unfold et at h;split at h
 grind
 rename_i c R;split at h;rename_i f O;split at h;rename_i Q bC N;split at h;cases h;have M:C.dO s.ni s.nb (Y s.rs) (aK s.au) (c.args.toList.map (s.ev cf.gl))=true:=by
  rw[xJ];intro v L;obtain⟨z,H,rfl⟩:=fw.1 L;exact CY W (V z (by rw[R];simp[ip,Ch];exact .inr (by simpa using H)))
 have G:C.dO s.ni s.nb (Y s.rs) (aK s.au) bC=true:=by
  have:=CY (cf:=cf) W (V f (by rw[R];simp[ip,Ch,O]));rw[N] at this;simpa only[C.bj] using this
 unfold AM at h;cases bC with
 |nil=>cases h;exact M
 |cons v r=>
  cases F:ko Q 1000000;cases D:ko Q 2000000
  grind
  simp only[F,D,cond_false,cond_true,CK.call.injEq,Cs.fn.injEq] at h;obtain⟨-,rfl⟩:=h;have B:C.dO s.ni s.nb (Y s.rs) (aK s.au) ([v]++r)=true:=G;rw[Ss] at B;show C.dO s.ni s.nb (Y s.rs) (aK s.au) ([v]++(c.args.toList.map (s.ev cf.gl)++r))=J
  grind [Ss]
  grind [Ss]
 grind
 cases h;cases h
 grind
 cases h;cases h
def ayr{s:S}{O:aj}{g:FuncId}{Q:aq}{X H:aj->C->S->Prop}{n:Nat}{t:TypeId}{N:aq}{d:cG}{w:C}(M:gt s.au n=J)(G:C.dO s.ni s.nb (Y s.rs) (aK s.au) Q=J)(z:(s.more n t N d w).bd=J)
  (h:Nr p cf s O g Q X)(b:∀F (L:iX)(P:aL)(r:aq),ze cf.ty L ((s.cut Q P).bU P).1=U r->X F (one r) ((s.cut Q P).bU P).2->H F (one r) (((s.cut Q P).bU P).2.more n t N d w)):Nr p cf (s.more n t N d w) O g Q H:=by
 obtain⟨L,P,r,y,x,v,D,q⟩:=h;obtain⟨o,m,B⟩:=A7 s n t N d w;obtain⟨l,a⟩:=anK P (s.cut Q P) n t N d w;have k:n∉C.qi Q:=λj=>by have:=anI G j;rw[(po M).1] at this;cases this
 have f:sO (C.qi Q) 0 (s.more n t N d w).au=sO (C.qi Q) 0 s.au:=by rw[E5];exact anJ k M
 simp only[aC,S.eW] at D;refine⟨L,P,r,y,x,by rw[W0,l];exact v, ?_,λV W R=> ?_⟩;simp only[aC,S.eW];refine⟨⟨z, ?_⟩,D.2⟩;rw[o,m,B,E5];exact C.Ho (λi c=>(qA (po M).2).2 (.inr c)) Q G;rw[f,B] at R;refine(q V W R).mono ?_;intro e W' A;cases e with
 |returned u=>
  grind [W0]
 |panicked ch=>exact A|outgrown=>exact A
def ays{s:S}{O:aj}{g:FuncId}{Q:aq}{X L:aj->C->S->Prop}{n:Nat}{t:TypeId}{N:aq}{d:cG}{w:C}(H:gt s.au n=J)(G:C.dO s.ni s.nb (Y s.rs) (aK s.au) Q=J)(z:s.bd=J)
  (h:Nr p cf (s.more n t N d w) O g Q X)(j:∀F (M:iX)(P:aL)(r:aq),ze cf.ty M ((s.cut Q P).bU P).1=U r->X F (one r) (((s.cut Q P).bU P).2.more n t N d w)->L F (one r) ((s.cut Q P).bU P).2):Nr p cf s O g Q L:=by
 obtain⟨M,P,r,y,x,D,B,v⟩:=h;obtain⟨i,f,q⟩:=A7 s n t N d w;obtain⟨o,c⟩:=anK P (s.cut Q P) n t N d w;have m:n∉C.qi Q:=λl=>by have:=anI G l;rw[(po H).1] at this;cases this
 have k:sO (C.qi Q) 0 (s.more n t N d w).au=sO (C.qi Q) 0 s.au:=by rw[E5];exact anJ m H
 simp only[aC,S.eW] at B;rw[W0,o] at D;refine⟨M,P,r,y,x,D, ?_,λV W R=> ?_⟩;simp only[aC,S.eW];exact⟨⟨z,G⟩,B.2⟩;refine(v V W (by rw[k,q];exact R)).mono ?_;intro e b A;cases e with
 |returned u=>
  grind [W0]
 |panicked a=>exact A|outgrown=>exact A
def ayt(al:CX B A){y:OM}{l:cN}(b0:b.so=E)(a3:MB B b y=J)(b1:∀d,b.o.dst=U d->zu R d)(L:gt R.au y.ix=J)(hz:∀t,y.o.op=.alloc t->JZ cf t=J)
  (h:eD p cf B A F G H (b::y::l) x R):eD p cf B A F G H (y::b::l) x R:=by
 unfold MB at a3;simp only[aC] at a3;obtain⟨⟨⟨⟨⟨⟨⟨⟨a4,bg⟩,hy⟩,a9⟩,k⟩,b2⟩,bk⟩,b3⟩,bl⟩:=a3;have a9:y.o.guard=none:=by simpa using a9
 have D:=anP b3;obtain⟨t,j⟩:∃t,y.o.op=.alloc t:=by cases j:y.o.op<;>rw[j] at hy<;>simp[JY] at hy;exact⟨_,rfl⟩
 have an:=hz t j;simp only[JZ,aC,jP] at an;obtain⟨an,b4⟩:=an;obtain⟨P,ht⟩:=jz.1 an;have i:gT y.o.op=true:=by rw[j];rfl
 have br:∀(s':S)(w:aj),gZ B y s' w=U true:=λs' w=>by simp[gZ,a9]
 have a:∀{w:aj}{aa:S},eD p cf B A F G H (y::l) w aa->aa.bd=J/\eD p cf B A F G H l w (aa.more y.ix t (ep P) y.o.dst (.loc y.ix 0)):=by
  intro w aa hr;simp only[eD,br,Su i,Nx i bg,uI] at hr;rcases hr with⟨N,_⟩|⟨_,s3,W,M⟩;cases N;have:=ayp j ht W;subst this;exact⟨aep i W,M⟩
 have done:R.bd=J->eD p cf B A F G H (b::l) x (R.more y.ix t (ep P) y.o.dst (.loc y.ix 0))->eD p cf B A F G H (y::b::l) x R:=by
  intro V W;rw[eD];refine .inr ⟨br R x, ?_⟩;rw[Su i];simp only[Nx i bg,uI];exact⟨_,ayo j ht b4 V L,W⟩
 have a0:R.bd=J->(R.more y.ix t (ep P) y.o.dst (.loc y.ix 0)).bd=true:=λV=>anH V L (by simp only[S.eW,V,Mi];exact WZ P) (by simp[C.bj])
 obtain⟨p1,p2,p3⟩:=A7 R y.ix t (ep P) y.o.dst (.loc y.ix 0);have ab:gZ B b (R.more y.ix t (ep P) y.o.dst (.loc y.ix 0)) x=gZ B b R x:=anQ (λq hq=>Ny (λe=>D.rx q e hq)) p1 p2 p3;have ac:∀z∈b.o.op.operands.toList,(R.more y.ix t (ep P) y.o.dst (.loc y.ix 0)).ev cf.gl z=R.ev cf.gl z:=aeq (λq hq=>Ny (λe=>D.rx q e hq));rw[eD] at h;rcases h with⟨N,W⟩|⟨N,W⟩
 ·obtain⟨g1,g2⟩:=a W;refine done (ayj g1 b1) ?_;rw[eD];refine .inl ⟨by rw[ab];exact N, ?_⟩;rw[<-E6 D.xy];exact g2
 ·cases Q:et cf R b.o with
  |call g0 ba=>
   rw[Q] at W;rcases g0 with g|n
   rotate_left
   have M:=W.1;rw[b0] at M;cases M;have u:rh _ _ _:=W;clear W;cases af:A g ba R with
   |some ve=>
    obtain⟨pv,ex⟩:=ve;rw[af] at u;obtain⟨V,u⟩:=u;have hR:=al.reg _ _ _ _ af;have bc:MA b.o.op=true:=by simpa[hR,aec Q] using bl
    have bf:=anv bc Q;subst bf;refine done V ?_;rw[eD];refine .inr ⟨by rw[ab];exact N, ?_⟩;rw[Hm ac,Q];show rh _ _ _;rw[show A g [] (R.more y.ix t (ep P) y.o.dst (.loc y.ix 0))=U (pv,ex) from(al.z _ _ _ _ _ _ _ L).trans af];refine⟨a0 V, ?_⟩;have b5:=(po L).2;have b6:(R.more y.ix t (ep P) y.o.dst (.loc y.ix 0)).plus ex=(R.plus ex).more y.ix t (ep P) y.o.dst (.loc y.ix 0):=by
     have:(R.cX y.ix t (ep P)).plus ex=(R.plus ex).cX y.ix t (ep P):=by
      simp only[S.cX,S.plus,List.set_append_left _ _ b5]
     unfold S.more;rw[<-this];cases y.o.dst<;>rfl
    rw[b6,<-E6 D.xy];exact(a u).2
   |none=>
   rw[af] at u;simp only[rh] at u;have W:=u;have V:R.bd=true:=by obtain⟨ts,ks,r,c1,c2,c3,c4,c5⟩:=W;simp only[aC,S.eW] at c4;exact c4.1.1
   refine done V ?_;rw[eD];refine .inr ⟨by rw[ab];exact N, ?_⟩;rw[Hm ac,Q];show rh _ _ _;have b7:A g ba (R.more y.ix t (ep P) y.o.dst (.loc y.ix 0))=none:=by
    cases hh:A g ba (R.more y.ix t (ep P) y.o.dst (.loc y.ix 0)) with
    |none=>rfl
    |some r=>
     exfalso;have hR:=al.reg _ _ _ _ hh;have bc:MA b.o.op=true:=by simpa[hR,aec Q] using bl
     have bf:=anv bc Q;subst bf;have:=(al.z g R y.ix t (ep P) y.o.dst (.loc y.ix 0) L).symm.trans hh;rw[af] at this;cases this
   rw[b7];simp only[rh];refine ayr L (anR Q V bk) (a0 V) W (λw ts ks r _ hr=> ?_);rw[<-E6 D.xy];exact(a hr).2
  |bp v=>
   exfalso;have hp:=aeg Q;cases a1:b.o.op<;>rw[a1] at k hp<;>simp[Mz,gT,vK,AR] at hp k;rename_i c;cases bq:c.callee<;>simp[bq] at hp k;rename_i bb;cases bb<;>simp at hp k
  |no=>rw[Q] at W;exact W.elim
  |op=>
   rw[Q] at W;simp only at W;cases V:eX cf b.o b.bM b.dr R with
   |some X=>
    rw[V] at W;obtain⟨hn,W⟩:=W;rw[a4] at V;obtain⟨q1,q2,q3⟩:=Sw V;refine done q1 ?_;rw[eD];refine .inr ⟨by rw[ab];exact N, ?_⟩;rw[Hm ac,Q];simp only;rw[a4,ayl L (a0 q1) D.yx ac V];refine⟨hn,λrv bs=> ?_⟩;rw[p3] at bs;exact(a (W rv bs)).2
   |none=>
    rw[V] at W;obtain⟨aa,M,h4⟩:=W;have ag:gT b.o.op=true:=by
     simp only[lu] at k;rcases k with(m|m)|m;exact m;exact(aei m M).elim
     ·exfalso;cases a1:b.o.op<;>rw[a1] at m<;>simp[AR] at m;rename_i c;cases bq:c.callee<;>simp[bq] at m;rename_i f;simp only[et,a1,bq] at Q
      (repeat' split at Q)<;>first|exact(aln Q).elim|cases Q
    have bt:b.ix≠y.ix:=by simpa[ag] using b2
    have bx:=aep ag M;obtain⟨tx,cx,wx,rfl,g2,g3,g4⟩:=aem ag bk M;refine done bx ?_;rw[eD];refine .inr ⟨by rw[ab];exact N, ?_⟩;rw[Su ag];simp only[Nx ag a4,uI];refine⟨_,(g4 _ x ac (a0 bx) ?_).2, ?_⟩;unfold gt at g2⊢;rw[E5,AE (λe=>bt e.symm)];exact g2;rw[aen D.yx (λe=>bt e.symm)];exact(a h4).2
def anS{s:S}{n:Nat}{t:TypeId}{W:aq}{X:cG}{w:C}{d:cG}{aS:BE}{e:TypeId}{k:RK}{x:LE}{R de:ar}{Q:BI}(O:s.bd=J)(N:∀q,X=U q->d≠U q)
  (h:kV (s.more n t W X w) d aS e k x R de=U Q):∃b,kV s d aS e k x R de=U b/\Q={b with s:=b.s.more n t W X w}:=by
 obtain⟨M,L,P⟩:=A7 s n t W X w;unfold kV at h⊢;split at h;rename_i V;cases h;simp only[aC] at V;rw[M,L,P] at V;obtain⟨⟨⟨A,H⟩,G⟩,F⟩:=V;rw[aH (by simp only[aC];exact⟨⟨⟨O,H⟩,G⟩,F⟩)];refine⟨_,rfl, ?_⟩;congr 1;rw[P,E6 (λq D B=>N q B D)];cases X<;>rfl;cases h
def ayu{s:S}{n:Nat}{t:TypeId}{W:aq}{V:cG}{w:C}{R:Ty}{e:TypeId}{Q:TI}{y:C}{r:LE×BE×ar}(P:gt s.au n=J)(X:y.bd s.ni s.nb (Y s.rs) (aK s.au)=J)(h:sP R (s.more n t W V w) e Q y=U r):sP R s e Q y=U r:=by
 have bY:(s.more n t W V w).rs=s.rs:=(A7 _ _ _ _ _ _).2.2;unfold sP at h⊢;split at h;simp only[zt bY] at h;exact h;rename_i i N M L;rw[E5] at h;have O:i≠n:=λe=>by subst e;simp only[C.bj] at X;rw[(po P).1] at X;cases X
 rw[RG (xH O)] at h
 grind [Hn]
 cases h
def ayv{o:Oper}{bM:Bool}{s:S}{n:Nat}{t:TypeId}{W:aq}{X:cG}{w:C}{O:BI}(F:gt s.au n=J)(Q:s.bd=J)(N:∀q,X=U q->o.dst≠U q)(D:o.op.operands.toList.all zh=J)
  (V:∀z∈o.op.operands.toList,(s.more n t W X w).ev cf.gl z=s.ev cf.gl z)(h:eX cf o bM J (s.more n t W X w)=U O):∃b,eX cf o bM J s=U b/\O={b with s:=b.s.more n t W X w}:=by
 have bY:(s.more n t W X w).rs=s.rs:=(A7 _ _ _ _ _ _).2.2;have M:∀x∈o.op.operands.toList,zh x=true:=gC.1 D;have R:=Nw h;unfold eX at h⊢;cases B:o.op<;>rw[B] at R h V M<;>simp[vK] at R;rename_i t' A y;simp only at h⊢;rw[V A cq,V y cq] at h;split at h;rename_i e am q v m2 u r L;split at h;rename_i m l;split at h;rename_i H;rw[Hn bY] at H;rw[aH H];exact anS Q N h;cases h;cases h;cases h;rename_i c;cases bq:c.callee with
 |builtin k=>
  cases k<;>simp[bq] at R;simp only[bq] at h⊢;have j:c.args.toList.map ((s.more n t W X w).ev cf.gl)=c.args.toList.map (s.ev cf.gl):=kF λz P=>V z (by simp[ip,Ch];exact .inr (by simpa using P))
  rw[j] at h;split at h;rename_i t1 t2 x0 G r L;have i:G.bd s.ni s.nb (Y s.rs) (aK s.au)=true:=by
   have:G∈c.args.toList.map (s.ev cf.gl):=by rw[L];simp
   obtain⟨z,P,rfl⟩:=fw.1 this;exact CY Q (M z (by simp[ip,Ch];exact .inr (by simpa using P)))
  split at h;rename_i e am q e2 aa q2 u ab;split at h;rename_i m l;split at h;cases h;rename_i g;rw[aP g];rw[anM] at h;split at h;rename_i la n1 ac lb v de f d;rw[f,ayu F i d];split at h;cases h;rename_i a;simp only[aP a];exact anS Q N h;cases h;cases h;cases h;cases h
 |_=>simp[bq] at R
def ayw(cv:CX B A){y:OM}{a9:cN}(cx:y.so=E)(bk:Rk B b y=J)
  (h:eD p cf B A F G H (b::y::a9) x R):eD p cf B A F G H (y::b::a9) x R:=by
 unfold Rk at bk;simp only[aC] at bk;obtain⟨⟨⟨⟨⟨⟨⟨⟨⟨⟨ca,ba⟩,al⟩,dk⟩,bl⟩,cA⟩,a4⟩,an⟩,cB⟩,cC⟩,cD⟩:=bk;have bl:b.o.guard=none:=by simpa using bl
 have D:=anP cC;have cc:∀(L:S)(O':aj),gZ B b L O'=U true:=λL O'=>by simp[gZ,bl]
 rw[eD] at h;rcases h with⟨h1,_⟩|⟨_,h2⟩;rw[cc] at h1;cases h1;rw[Su al] at h2;simp only[Nx al ca,uI] at h2;obtain⟨s1,h3,h4⟩:=h2;have N:=aep al h3;obtain⟨t,a,w,rfl,k,hw,tr⟩:=aem al cA h3;have dn:R.eW a=true:=(tr R x (λ_ _=>rfl) N k).1;obtain⟨p1,p2,p3⟩:=A7 R b.ix t a b.o.dst w;have br:gZ B y (R.more b.ix t a b.o.dst w) x=gZ B y R x:=anQ (λq W=>Ny (λe=>D.ry q e W)) p1 p2 p3;have a0:∀z∈y.o.op.operands.toList,(R.more b.ix t a b.o.dst w).ev cf.gl z=R.ev cf.gl z:=aeq (λq W=>Ny (λe=>D.ry q e W));have a1:∀{O':aj}{L:S},(∀q,y.o.dst≠U q->L.tmps[q]?=R.tmps[q]?)->L.bd=J->gt L.au b.ix=J->eD p cf B A F G H a9 O' (L.more b.ix t a b.o.dst w)->eD p cf B A F G H (b::a9) O' L:=by
  intro O' L ht a3 cO hr;rw[eD];refine .inr ⟨cc _ _, ?_⟩;rw[Su al];simp only[Nx al ca,uI];exact⟨_,(tr L O' (aeq (λq W=>ht q (λe=>D.rx q e W))) a3 cO).2,hr⟩
 rw[eD] at h4;rcases h4 with⟨h5,V⟩|⟨h5,V⟩;rw[eD];refine .inl ⟨by rw[<-br];exact h5, ?_⟩;refine a1 (λq W=>nL W) (Sv (s':=R) N (cd _) (cd _) (cd _) rfl rfl (by simp[C.bj,C.iY])) (by rw[mU];exact k) ?_;rw[E6 D.yx];exact V
 ·rw[eD];refine .inr ⟨by rw[<-br];exact h5, ?_⟩;rw[Hm a0] at V;cases hc:et cf R y.o with
  |call g0 bs=>
   rw[hc] at V;rcases g0 with g|n
   rotate_left
   have h3:=V.1;rw[cx] at h3;cases h3;have ch:∀L,A g bs L=none:=λL=>by
    cases hh:A g bs L with
    |none=>rfl
    |some r=>
     exfalso;have hR:=cv.reg _ _ _ _ hh;simp[hR,aec hc] at cD
   have hP:rh _ _ _:=V;clear V;rw[ch] at hP;simp only[rh] at hP;have V:=hP;show rh _ _ _;rw[ch];simp only[rh];refine ays k (anR hc N a4) N V (λO' ts ks r hm hr=> ?_);obtain⟨b1,b2,b3,b4⟩:=uG ks (R.cut bs ks);refine a1 (λq W=>by rw[nL W,b2];rfl) (ayn N hm) (by rw[mU,b1];exact k) ?_;rw[E6 D.yx];exact hr
  |bp v=>
   exfalso;have hp:=aeg hc;cases bc:y.o.op<;>rw[bc] at an hp<;>simp[Mz,gT,vK,AR,GR,AQ] at hp an;rename_i c;cases bq:c.callee<;>simp[bq] at hp an;rename_i bb;cases bb<;>simp at hp an
  |no=>rw[hc] at V;exact V.elim
  |op=>
   rw[hc] at V;show uI _ _ _;have V:uI _ _ _:=V;cases bf:eX cf y.o y.bM y.dr (R.more b.ix t a b.o.dst w) with
   |some b1=>
    rw[bf] at V;obtain⟨hn,V⟩:=V;rw[ba] at bf⊢;obtain⟨X,g1,rfl⟩:=ayv k N D.xy a4 a0 bf;rw[g1];obtain⟨q1,q2,q3⟩:=Sw g1;refine⟨hn,λrv cW=> ?_⟩;refine a1 (aej g1) q2 (by rw[q3];exact k) (V rv (by rw[p3];exact cW))
   |none=>
    rw[bf] at V;obtain⟨c0,M,h8⟩:=V;by_cases aa:GR y.o.op=J
    
    have W:o9 y.o.op=true:=by cases Q:y.o.op<;>rw[Q] at aa<;>simp[GR] at aa<;>rfl
    have ds:CA y.o.op=false:=by cases Q:y.o.op<;>rw[Q] at aa<;>simp[GR] at aa<;>rfl
    rw[ba,anx W];simp only[uI];obtain⟨v,l,hv,rfl⟩:=(Nt (ops:=B) W h5).1 M;have c1:lN cf B y.o (R.more b.ix t a b.o.dst w) x R x:=lN.A5 (λq W=>(Ny (λe=>D.ry q e W)).symm) p3.symm p1.symm p2.symm;have P:=aed c1 (λi hi=>by
     unfold Cq at hi;cases Q:y.o.op<;>rw[Q] at aa hi<;>simp[GR] at aa<;>cases hi) hv
    have cl:gZ B y R x=U true:=by rw[<-br];exact h5
    refine⟨_,(Nt (ops:=B) W cl).2 ⟨v,l,P,rfl⟩, ?_⟩;have c2:v.bd R.ni R.nb (Y R.rs) (aK R.au)=true:=by
     have ag:∀z∈y.o.op.operands.toList,zh z=true:=gC.1 a4;rcases P with P|⟨-,-,P⟩;rw[cl] at P;cases P.1;cases Q:y.o.op<;>rw[Q] at aa P ag<;>simp[GR] at aa;rename_i z;have:=P.1;simp only[cw,PR.A6] at this;rw[this];exact CY N (ag z cq);rename_i z;have:=P.1;simp only[cw,PR.A6] at this;rw[this];exact CY N (ag z cq);rename_i st z f;have ab:=CY (cf:=cf) N (ag z cq);have:=P.1;simp only[cw] at this;split at this;rename_i hz;rw[hz] at ab;split at this;split at this;split at this;exact this.elim;rw[this];exact ab;exact this.elim;exact this.elim;rename_i hz;rw[hz] at ab;split at this;split at this;split at this;exact this.elim;rw[this];exact ab;exact this.elim;exact this.elim;exact this.elim
    have c3:l=0:=by
     rcases P with P|⟨-,-,P⟩;exact P.2.2;cases Q:y.o.op<;>rw[Q] at aa P<;>simp[GR] at aa<;>exact P.2
    subst c3;rw[Ns] at h8⊢;refine a1 (λq W=>nL W) (Sv (s':=R) N (cd _) (cd _) (cd _) rfl rfl c2) (by rw[mU];exact k) ?_;rw[E6 D.yx];exact h8;by_cases bx:AQ y.o.op=J;obtain⟨t',z,u,Q⟩:∃t z u,y.o.op=.store t z u:=by cases Q:y.o.op<;>rw[Q] at bx<;>simp[AQ] at bx;exact⟨_,_,_,rfl⟩
    have ag:∀z∈y.o.op.operands.toList,zh z=true:=gC.1 a4;have b0:eX cf y.o y.bM y.dr R=none:=by rw[ba];simp[eX,Q]
    rw[b0];simp only[uI];have hz:=a0 z (by rw[Q];simp[ip]);have hu:=a0 u (by rw[Q];simp[ip]);have ab:=CY (cf:=cf) N (ag z (by rw[Q];simp[ip]));have c4:=CY (cf:=cf) N (ag u (by rw[Q];simp[ip]));unfold iZ gI at M;split at M;exact M.elim;rename_i m;have c5:¬(y.o.op.operands.toList.any λz=>(R.ev cf.gl z).eZ)=true:=by
     intro hh;obtain⟨zz,cn,c6⟩:=ny.1 hh;exact m (ny.2 ⟨zz,cn,by rw[a0 zz cn];exact c6⟩)
    simp only[Q,hz,hu] at M;split at M;rename_i ti i ac c7 hi;have b5:i≠b.ix:=λe=>by subst e;rw[hi] at ab;simp only[C.bj] at ab;rw[(po k).1] at ab;cases ab
    rw[E5,RG (xH b5)] at M;split at M;rename_i bt af co;obtain⟨b6,-⟩:=AU co;split at M;rename_i bg;have c8:(R.more b.ix t a b.o.dst w).lk=R.lk:=WY _ _ _;rw[c8] at bg;have dx:((R.ev cf.gl u).cells.length==Y ti.am)=true:=by simp only[aC] at bg;exact bg.1.1.1.1
    refine⟨(R.cX i bt (mh af ac (R.ev cf.gl u).cells)).put y.o.dst (.bI []), ?_, ?_⟩;unfold iZ gI;rw[aP c5];simp only[Q,c7,hi,co];rw[aH bg];rfl;have c9:((R.cX i bt (mh af ac (R.ev cf.gl u).cells)).put y.o.dst (.bI [])).bd=true:=by
     have cp:i<Y R.au:=(dq.1 (ku.1 b6)).1;have dc:∀j,aK (R.au.set i (U (bt,mh af ac (R.ev cf.gl u).cells))) j=aK R.au j:=λj=>by
      by_cases hj:j=i;subst hj;simp[aK,EY cp,b6];simp[aK,xH hj]
     have dd:aK (R.au.set i (U (bt,mh af ac (R.ev cf.gl u).cells)))=aK R.au:=funext dc;have a3:=N;simp only[S.bd,aC] at a3;have b0:(R.cX i bt (mh af ac (R.ev cf.gl u).cells)).bd=true:=by
      simp only[S.bd,S.cX,dd,aC];refine⟨a3.1, ?_⟩;rw[E4];intro j X hj;by_cases ct:j=i;subst ct;rw[EY cp] at hj;cases hj;exact ael (E4.1 a3.2 j _ b6) (aek c4);rw[xH ct] at hj;exact E4.1 a3.2 j X hj
     exact Sv (s':=R.cX i bt (mh af ac (R.ev cf.gl u).cells)) b0 (cd _) (cd _) (cd _) rfl rfl (by simp[C.bj,C.iY])
    refine a1 (λq W=>by rw[nL W];rfl) c9 ?_ ?_;rw[mU];unfold gt at k⊢;simp only[S.cX];rw[AE b5];exact k;have df:c0=((R.more b.ix t a b.o.dst w).cX i bt (mh af ac (R.ev cf.gl u).cells)).put y.o.dst (.bI []):=M;subst df;have:((R.cX i bt (mh af ac (R.ev cf.gl u).cells)).put y.o.dst (.bI [])).more b.ix t a b.o.dst w=((R.more b.ix t a b.o.dst w).cX i bt (mh af ac (R.ev cf.gl u).cells)).put y.o.dst (.bI []):=
     aen (s:=R) (n:=i) (n':=b.ix) (d:=y.o.dst) (e:=b.o.dst) D.yx b5
    rw[this];exact h8;exact M.elim;exact M.elim;exact M.elim;have b7:gT y.o.op=true:=by
     simp only[lu] at an;rcases an with(((m|m)|m)|m)|m;exact m;exact(aei m M).elim
     ·exfalso;cases bc:y.o.op<;>rw[bc] at m<;>simp[AR] at m;rename_i c;cases bq:c.callee<;>simp[bq] at m;rename_i f;simp only[et,bc,bq] at hc
      (repeat' split at hc)<;>first|exact(aln hc).elim|cases hc
     exact bE m aa;exact bE m bx
    have b8:b.ix≠y.ix:=by simpa[b7] using cB
    rw[Nx b7 ba];simp only[uI];obtain⟨dy,cy,wy,rfl,k2,k3,k4⟩:=aem b7 a4 M;have cu:gt R.au y.ix=true:=by
     unfold gt at k2⊢;rw[E5,AE b8] at k2;exact k2
    obtain⟨m1,m2⟩:=k4 R x (λz hz=>(a0 z hz).symm) N cu;refine⟨_,m2,a1 (λq W=>Ny W) (anH N cu m1 (k3 _ _ _)) ?_ ?_⟩;unfold gt at k⊢;rw[E5,AE (λe=>b8 e.symm)];exact k;rw[aen D.yx (λe=>b8 e.symm)];exact h8
def ayx(V:CX B A){y:OM}{Q:cN}(W:vL B b y=J)(P:∀d,b.o.dst=U d->zu R d)(M:gT y.o.op=J->gt R.au y.ix=J)(L:∀t,y.o.op=.alloc t->JZ cf t=J)
  (D:Y x.i=R.ni)(z:Y x.b=R.nb)(w:Y x.r=Y R.rs)
  (h:eD p cf B A F G H (b::y::Q) x R):eD p cf B A F G H (y::b::Q) x R:=by
 unfold vL at W;simp at W;obtain⟨⟨v,N⟩,W⟩:=W;rcases W with(X|X)|X;exact ayh V N X P D z w h;have u:gT y.o.op=true:=by
  unfold MB at X;simp only[aC] at X;have:=X.1.1.1.1.1.1.2;cases q:y.o.op<;>rw[q] at this<;>simp[JY] at this;rfl
 exact ayt V v X P (M u) L h;exact ayw V N X h
def anT{N:S}(h:(gI cf b R).gives x N):∀n,gt R.au n=J->(gT b.o.op=J->n≠b.ix)->gt N.au n=true:=by
 intro q Q P;have V:∀{t:TypeId}{M:aq}{d:cG}{w:C}{i:Nat},q≠i->gt ((R.cX i t M).put d w).au q=true:=by
  grind [mU,S.cX,gt]
 unfold gI at h;split at h;exact h.elim;split at h;rename_i t W;split at h;split at h;cases h;exact V (P (by rw[W];rfl));exact h.elim;exact h.elim;rename_i t X W;split at h;split at h;cases h;exact V (P (by rw[W];rfl));exact h.elim;exact h.elim;rename_i t l H W;split at h;split at h;split at h;split at h;cases h;exact V (P (by rw[W];rfl));exact h.elim;exact h.elim;exact h.elim;exact h.elim;split at h;split at h;rename_i G M L;split at h;cases h;refine V (λe=> ?_);subst e;have:=(po Q).1;simp[aK,(AU L).1] at this;exact h.elim;exact h.elim;exact h.elim
 grind [OR.gives,mU]
 obtain⟨v,-,rfl⟩:=CP h;rw[E3];exact Q;obtain⟨v,-,rfl⟩:=CP h;rw[E3];exact Q
def ayy{V:S}(h:(gI cf b R).gives x V):∀i,aK R.au i=J->aK V.au i=true:=by
 intro q Q;have W:∀{t:TypeId}{P:aq}{d:cG}{w:C}{i:Nat},aK ((R.cX i t P).put d w).au q=true:=by
  grind [mU,bS,S.cX,aK]
 unfold gI at h;split at h;exact h.elim;split at h;rename_i t N;split at h;split at h;cases h;exact W;exact h.elim;exact h.elim;rename_i t X N;split at h;split at h;cases h;exact W;exact h.elim;exact h.elim;rename_i t l M N;split at h;split at h;split at h;split at h;cases h;exact W;exact h.elim;exact h.elim;exact h.elim;exact h.elim;split at h;split at h;rename_i L P H;split at h;cases h;exact W;exact h.elim;exact h.elim;exact h.elim
 grind [OR.gives,mU]
 obtain⟨v,-,rfl⟩:=CP h;rw[E3];exact Q;obtain⟨v,-,rfl⟩:=CP h;rw[E3];exact Q
structure xK(s s':S):Prop where
 i:s.ni<=s'.ni
 b:s.nb<=s'.nb
 r:Y s.rs<=Y s'.rs
 bx:∀i,aK s.au i=J->aK s'.au i=J
theorem xK.put(s:S)(d:cG)(v:C):xK s (s.put d v):=
 ⟨GG (gh _ _ _).1.symm,GG (gh _ _ _).2.1.symm,GG (jY Y (gh s d v).2.2).symm,λi h=>by rw[mU];exact h⟩
def xK.trans{b c:S}(h:xK R b)(k:xK b c):xK R c:=⟨md h.i k.i,md h.b k.b,md h.r k.r,λi X=>k.bx i (h.bx i X)⟩
def ayz{l1 j:cN}(aa:b.dr=J)(af:b.so=E)(q:Y x.i=R.ni)(m:Y x.b=R.nb)(l:Y x.r=Y R.rs)(h:eD p cf B A F G H (b::l1) x R)
  (f:∀d N,Y d.i=N.ni->Y d.b=N.nb->Y d.r=Y N.rs->(∀t,b.o.dst≠U t->N.tmps[t]?=R.tmps[t]?)->(∀n,gt R.au n=J->(gT b.o.op=J->n≠b.ix)->gt N.au n=J)->xK R N->eD p cf B A F G H l1 d N->eD p cf B A F G H j d N):eD p cf B A F G H (b::j) x R:=by
 simp only[eD] at h⊢;rcases h with⟨h1,P⟩|⟨h1,P⟩;exact .inl ⟨h1,f _ _ (by rw[(gh _ _ _).1];exact q) (by rw[(gh _ _ _).2.1];exact m) (by rw[(gh _ _ _).2.2];exact l) (λt c=>nL c) (λn z _=>by rw[mU];exact z) (xK.put _ _ _) P⟩
 ·refine .inr ⟨h1, ?_⟩;cases hc:et cf R b.o with
  |call g0 a=>
   rw[hc] at P;rcases g0 with g|n
   rotate_left
   grind
   have P:rh _ _ _:=P;show rh _ _ _;cases ab:A g a R with
   |some ve=>
    obtain⟨pv,ex⟩:=ve;rw[ab] at P;exact⟨P.1,f _ _ (by rw[(gh _ _ _).1];exact q) (by rw[(gh _ _ _).2.1];exact m) (by rw[(gh _ _ _).2.2];exact l) (λt c=>nL c) (λn z _=>by rw[mU];exact anu z) (xK.trans (b:=R.plus ex) ⟨cd _,cd _,cd _,λi k=>by unfold aK;rw[ant k];exact k⟩ (xK.put _ _ _)) P.2⟩
   |none=>
   rw[ab] at P;obtain⟨ts,L,r,c1,c2,c3,c4,c5⟩:=P;refine⟨ts,L,r,c1,c2,c3,c4,λV W X=>(c5 V W X).mono ?_⟩;intro e W' he;cases e with
   |returned u=>
    obtain⟨xs,D,y,w,q4,q5⟩:=he;obtain⟨b1,b2,b3,b4⟩:=uG L (R.cut a L);obtain⟨l1,j,l3⟩:=xI L xs (R.cut a L) x D q m (l.trans (CU a L R.rs).len.symm);refine⟨xs,D,y,w,q4,f _ _ (by rw[(gh _ _ _).1];exact l1) (by rw[(gh _ _ _).2.1];exact j) (by rw[(gh _ _ _).2.2];exact l3) (λt c=>by rw[nL c,b2];rfl) (λn z _=>by rw[mU,b1];exact z) (xK.trans (b:=((R.cut a L).bU L).2) ⟨by rw[<-q,<-l1];exact(CJ [] _ _ []).li,by rw[<-m,<-j];exact(CJ [] _ _ []).lb,by rw[<-l,<-l3];exact(CJ [] _ _ []).lr,λi k=>by rw[b1];exact k⟩ (xK.put _ _ _)) q5⟩
   |panicked ch=>exact he|outgrown=>exact he
  |bp v=>rw[hc] at P;exact P|no=>rw[hc] at P;exact P
  |op=>
   rw[hc] at P;simp only at P⊢;cases M:eX cf b.o b.bM b.dr R with
   |some Q=>
    rw[M] at P;obtain⟨D,y,w⟩:=anq M;exact⟨P.1,λrv ac=>f _ _ (by rw[D];exact q) (by rw[y];exact m) (by simp[aj.add,w,l]) (aej (by rw[aa] at M;exact M)) (λn z _=>by rw[(Sw (by rw[aa] at M;exact M)).2.2];exact z) ⟨by rw[D];exact cd _,by rw[y];exact cd _,by rw[w];omega,λi k=>by rw[(Sw (by rw[aa] at M;exact M)).2.2];exact k⟩ (P.2 rv ac)⟩
   |none=>
    rw[M] at P;obtain⟨N,h3,h4⟩:=P;obtain⟨D,y,w⟩:=anp (Nq h3);exact⟨N,h3,f _ _ (by rw[D];exact q) (by rw[y];exact m) (by rw[w];exact l) (anE (Nq h3)) (anT (Nq h3)) ⟨by rw[D];exact cd _,by rw[y];exact cd _,by rw[w];exact cd _,ayy (Nq h3)⟩ h4⟩
def anU{y:OM}(h:vL B b y=J):b.so=E/\y.so=false:=by
 unfold vL at h
 grind
def ayA{y:OM}(h:vL B b y=J):b.dr=true:=by
 unfold vL at h;simp only[aC,lu] at h;replace h:=h.2;rcases h with(h|h)|h;exact(anA h).elim λ_ c=>c.xd
 unfold MB at h
 grind
 unfold Rk at h
 grind
end
section
variable{p:Sp}{k:bv}{B:dF}{A:vN}{Kn:aj->S->Prop}{Kp:aj->C->S->Prop}{Yp:OM->cN->aj->S->Nat->aq->Prop}
def aer(s:S)(m:OM):Prop:=∀d,m.o.dst=U d->zu s d
def anV{V:S}(W:xK R V)(Q:V.tmps[X]?=R.tmps[X]?)(h:zu R X):zu V X:=by
 rcases h with h|⟨w,h,P⟩;exact .inl (Q.trans h);exact .inr ⟨w,Q.trans h,C.ey W.i W.b W.r W.bx _ P⟩
def aes(s:S)(m:OM):Prop:=gT m.o.op=J->gt s.au m.ix=J
def anW(Q:CX B A){m:OM}{V:cN}:∀(X:cN)(s:S)(O:aj),(∀x∈X,vL B x m=J)->(∀x∈X,aer s x)->aes s m->(X.Pairwise λa b=>∀d,a.o.dst=U d->b.o.dst≠U d)->(∀x∈X,gT x.o.op=J->gT m.o.op=J->m.ix≠x.ix)->(∀t,m.o.op=.alloc t->JZ k t=J)->
  Y O.i=s.ni->Y O.b=s.nb->Y O.r=Y s.rs->eD p k B A Kn Kp Yp (X++m::V) O s->eD p k B A Kn Kp Yp (m::(X++V)) O s
 |[],s,O,_,_,_,_,_,_,_,_,_,h=>h
 |x::X,s,O,P,N,M,u,L,H,G,F,D,h=>by
  have R:=P x aw;have q:x.dr=true:=ayA R;have n:=(anU R).1;have z:=jO.1 u;have:eD p k B A Kn Kp Yp (x::m::(X++V)) O s:=ayz (l1:=X++m::V) q n G F D h (λl j g f c ht aa ab hr=>
   anW Q X j l (λy W=>P y (by simp[W])) (λy W e w=>anV ab (ht e (λhx=>z.1 y W e hx w)) (N y (by simp[W]) e w))
    (λv=>aa m.ix (M v) (λac=>L x aw ac v)) z.2 (λy W=>L y (by simp[W])) H g f c hr)
  exact ayx Q R (N x aw) M H G F D this
def aet{D:bT}{a:Act}(X:aA p.S0 p.w0 D k.ty t x R a e){Q:Bool}(h:gZ B b R x=U Q):lI b.o (yielded B a.tmps)=Q:=by
 unfold gZ at h;cases P:b.o.guard with
 |none=>rw[P] at h;cases h;simp[lI,P]
 |some q=>
  obtain⟨j,L⟩:=q;rw[P] at h;simp only at h;split at h;rename_i d N;have M:=amT X N
  grind [lI,M.2]
  cases h
def NA(p:Sp)(k:bv)(A:vN):Prop:=∀(g:FuncId)(X:aq)(s:S)(v:C)(R:bm),A g X s=U (v,R)->
 ∀(D:bT)(O:aj)(V:ar)(a:Act)(W:World),s.bd=J->aA p.S0 p.w0 D k.ty V O s a W->eC k.gl O->(∀X W,(callFunc g X).run p.P W=.ok (.enter g X) W)/\
  Calls p.P g (C.az O V X).toArray W λe N=>∃Q,e=.returned (v.ai O Q)/\aA p.S0 p.w0 D k.ty Q O (s.plus R) a N/\bB s O V (s.plus R) O Q
structure Sx(B:dF)(bs:ar)(listed:Array Bool)(rem:cN):Prop where
 mem:∀m∈rem,B[m.j]?=U m.o
 un:∀i,i<B.size->(listed.getD i J=E<->∃m∈rem,m.j=i)
 sz:listed.size=B.size
 dn:∀(j:Nat)(o:Oper),B[j]?=U o->listed.getD j E=J->∀e∈jq o,listed.getD e E=J
 pr:rem.Pairwise λx y=>(bs.getD y.j 0).testBit x.j=J\/vL B x y=J
 tp:∀xs m ys,rem=xs++m::ys->∀e∈jq m.o,listed.getD e E=J\/∃x∈xs,x.j=e
 nd:rem.Pairwise λx y=>x.j≠y.j
 ds:rem.Pairwise λa b=>∀d,a.o.dst=U d->b.o.dst≠U d
 so:∀xs m ys,rem=xs++m::ys->m.so=J->ys.Pairwise λx y=>(bs.getD y.j 0).testBit x.j=J
def Sy{e:Edge}(h:e∈l.after)(X:awf .any e=J):e.on∈jq l:=fw.2 ⟨e,qg.2 ⟨by simpa using h,X⟩,rfl⟩
def W5(h:X∈jq l):∃e∈l.after,awf .any e=J/\e.on=X:=by
 obtain⟨e,W,rfl⟩:=fw.1 h
 grind
structure NB(B:dF)(bs:ar):Prop where
 lt:∀(j:Nat)(o:Oper),B[j]?=U o->∀e∈jq o,e<j
 cl:∀(j:Nat)(o:Oper),B[j]?=U o->∀i,i<B.size->(bs.getD j 0).testBit i=J->i∈jq o\/∃e∈jq o,(bs.getD e 0).testBit i=J
def ayB{listed:Array Bool}{P:cN}(W:NB B t)(O:Sx B t listed P):∀(j:Nat)(o:Oper),B[j]?=U o->(∀e∈jq o,listed.getD e E=J)->∀i,i<B.size->(t.getD j 0).testBit i=J->listed.getD i E=true:=by
 intro j;induction j using QS with
 |_ j N=>
  intro o X M i V L;rcases W.cl j o X i V L with h|⟨e,R,h⟩
  grind
  have H:=W.lt j o X e R;have G:j<B.size:=(lH.1 X).1;have Q:B[e]?=U B[e]:=Ma ae;exact N e H B[e] Q (O.dn e _ Q (M e R)) i V h
def E7(a:Array Bool)(i j:Nat)(b:Bool)(X:i<a.size):(a.setIfInBounds i J).getD j b=if j=i then J else a.getD j b:=by
 by_cases h:j=i;subst h;simp[X];simp[aIy (Ne.symm h),h]
def ayC{listed:Array Bool}{P O:cN}(X:Sx B t listed (P++b::O))(l:∀e∈jq b.o,listed.getD e E=J):Sx B t (listed.setIfInBounds b.j J) (P++O):=by
 have q:=X.mem b aw;have k:b.j<B.size:=(lH.1 q).1;have D:b.j<listed.size:=by rw[X.sz];exact k
 have L:awh (P++O) (P++b::O):=akL (akN _) (akI _ _);have g:∀x∈P++O,x.j≠b.j:=by
  intro x W;have y:=X.nd;rw[oC] at y;rcases fg.1 W with h|h;exact y.2.2 x h b aw;exact Ne.symm ((jO.1 y.2.1).1 x h)
 refine⟨λx W=>X.mem x (L.subset W),λi f=> ?_,by simp[X.sz],λj o w H e M=> ?_,X.pr.sublist L, ?_,X.nd.sublist L,X.ds.sublist L, ?_⟩;rw[E7 _ _ _ _ D];by_cases v:i=b.j;subst v;simp only[dN,aI0,false_iff];rintro⟨x,W,H⟩;exact g x W H;rw[aP v,X.un i f];constructor;rintro⟨x,W,rfl⟩;refine⟨x, ?_,rfl⟩;simp only[fg,eu] at W⊢;rcases W with h|h|h;exact .inl h;subst h;exact bE rfl v;exact .inr h;rintro⟨x,W,rfl⟩;exact⟨x,L.subset W,rfl⟩;rw[E7 _ _ _ _ D];rw[E7 _ _ _ _ D] at H;split;rfl;by_cases n:j=b.j;subst n;rw[q] at w;cases w;exact l e M;rw[aP n] at H;exact X.dn j o w H e M;intro u N G s e M;rw[E7 _ _ _ _ D];by_cases A:e=b.j;left;rw[aH A];rw[aP A];rcases aIE.1 s with⟨R,Q,V⟩|⟨R,Q,V⟩
 
 have:=X.tp (P++b::R) N G (by rw[V];simp) e M;rcases this with h|⟨x,W,F⟩;exact .inl h;right;refine⟨x, ?_,F⟩;rw[Q];simp only[fg,eu] at W⊢;rcases W with h|h|h;exact .inl h;subst h;exact bE F.symm A;exact .inr h
 
 cases R with
 |nil=>
  simp at Q V;subst Q;have:=X.tp (P++[b]) N G (by rw[<-V];simp) e M;rcases this with h|⟨x,W,F⟩;exact .inl h;right;refine⟨x, ?_,F⟩;simp only[fg,Vn] at W;rcases W with h|h;exact h;subst h;exact bE F.symm A
 |cons z R=>
  simp only[cU,GD] at V;obtain⟨rfl,V⟩:=V;have:=X.tp u N (R++b::O) (by rw[Q];simp) e M;exact this
 intro u N G s r;rcases aIE.1 s with⟨R,Q,V⟩|⟨R,Q,V⟩;exact X.so (P++b::R) N G (by rw[V];simp) r;cases R with
 |nil=>
  simp at Q V;subst Q;exact X.so (P++[b]) N G (by rw[<-V];simp) r
 |cons z R=>
  simp only[cU,GD] at V;obtain⟨rfl,V⟩:=V;have:=X.so u N (R++b::O) (by rw[Q];simp) r;rw[V];exact this.sublist (akL (akN _) (akI _ _))
def ayD{F:Fence}(u:qB F)(ok:jd p k)(a3:NA p k A){D:bT}{Q:Exit->Act->World->Prop}(HP:∀ch a' w pd y,ef p.w0 D pd y a'.defers w->p.R (.panicked ch) w->Q (.panic ch) a' w)
   {af:cN}{a:Act}(h:eD p k B A Kn Kp Yp (b::af) x R)(N:aA p.S0 p.w0 D k.ty t x R a e)(hg:eC k.gl x)(hm:B[b.j]?=U b.o)(a1:b.dr=J)
  {M:Act->World->Prop}(hK:∀s' O' V' a' w,bB R x t s' O' V'->(∀L,b.o.dst≠U L->s'.tmps[L]?=R.tmps[L]?)->(∀X,gt R.au X=J->(gT b.o.op=J->X≠b.ix)->gt s'.au X=J)->aA p.S0 p.w0 D k.ty V' O' s' a' w->eD p k B A Kn Kp Yp af O' s'->M a' w)
  (a4:∀v,Kp x v R->Q (.panic [{v:=v.ai x t,recovered:=E}]) a e)
  (hY:∀yn q,et k R b.o=.call (.yl yn) q->b.so=J->Yp b af x R yn q->b.o.wpIn F X p.P a e M Q):wpOpIn F X p.P B Q b.j M a e:=by
 unfold wpOpIn;rw[hm];simp only;simp only[eD] at h;rcases h with⟨h1,z⟩|⟨h1,z⟩;rw[aet N h1];exact⟨λf _=>u.fn f,hK _ x t _ e ((bB.refl _ _ _).put _ _) (λL ht=>nL ht) (λX i _=>by rw[mU];exact i) (N.put b.o.dst (.bI [])) z⟩
 ·rw[aet N h1];simp;cases r:et k R b.o with
  |call g0 q=>
   rw[r] at z;rcases g0 with g|yn
   rotate_left
   grind
   have z:rh _ _ _:=z;cases ag:A g q R with
   |some ve=>
    obtain⟨pv,ex⟩:=ve;rw[ag] at z;obtain⟨al,an⟩:=a3 g q R pv ex ag D x t a e z.1 N hg;refine⟨λf _=>u.fn f, ?_⟩;have aa:∀c,b.o.op≠ .defer c:=λc ab=>by simp[et,ab] at r
    rw[AF _ _ _ aa,WH N hg r al,Vp];refine⟨λhd=>by rw[u.zq] at hd;simp at hd,CallsIn.mono (u.calls an) (λH w he=> ?_)⟩;obtain⟨V',rfl,R',hl⟩:=he;exact hK _ x V' _ w (hl.put _ _) (λL ht=>nL ht) (λX i _=>by rw[mU];exact anu i) (R'.put b.o.dst pv) z.2
   |none=>
   rw[ag] at z;obtain⟨ts,ks,l,c1,c2,c3,c4,c5⟩:=z;simp only[S.eW,aC] at c4;obtain⟨⟨hb,-⟩,a9⟩:=c4;have al:=ok.zr g (.inl (by rw[c1];rfl));have an:=c5 t e (by rw[ok.pt];exact(N.mem.ac3 _).lL (adq _ _));refine⟨λf _=>u.fn f, ?_⟩;have aa:∀c,b.o.op≠ .defer c:=λc ab=>by simp[et,ab] at r
   rw[AF _ _ _ aa,WH N hg r al,Vp];refine⟨λhd=>by rw[u.zq] at hd;simp at hd,CallsIn.mono (u.calls an) (λH w he=> ?_)⟩;cases H with
   |returned v=>
    obtain⟨xs,q1,q2,q3,q4,q5⟩:=he;rw[ok.pt] at q4;obtain⟨e1,e2,e3,e4⟩:=uG ks (R.cut q ks);subst q2;have R1:aA p.S0 p.w0 D k.ty t x (R.cut q ks) a e:=N.lL (CU q ks R.rs);have R':=(R1.called (Na hb (CU q ks R.rs).len) a9 q1 q3 (λG hb=>ad1 N hb) q4).put b.o.dst (one l);refine hK _ (x.ext xs) t _ w (bB.put (s:=R) ⟨CJ _ _ _ _,by rw[e1];exact λ_ h=>h,by rw[e1];exact cd _,by rw[e3];exact cd _⟩ _ _) (λL ht=>by rw[nL ht,e2];rfl) (λX i _=>by rw[mU,e1];exact i) R' q5
   |panicked ch=>exact HP ch a w _ _ (N.dh.below he.1) he.2|outgrown=>exact he.elim
  |bp v=>
   rw[r] at z;refine⟨λf _=>u.fn f, ?_⟩;have aa:∀c,b.o.op≠ .defer c:=λc ab=>by simp[et,ab] at r
   rw[AF _ _ _ aa,amU N hg r];exact a4 v z
  |no=>rw[r] at z;exact z.elim
  |op=>
   rw[r] at z;simp only at z;cases d:eX k b.o b.bM b.dr R with
   |some G=>
    rw[d] at z;obtain⟨i,z⟩:=z;obtain⟨v,w,rv,a0,ba,R',hl⟩:=adG N ok.kK hg d i;exact AZ u a0 (adY d) (hK G.s _ t _ w hl (aej (by rw[a1] at d;exact d)) (λX i _=>by rw[(Sw (by rw[a1] at d;exact d)).2.2];exact i) R' (z rv (by rw[ok.pt];exact ba)))
   |none=>
   rw[d] at z;obtain⟨s',h3,h4⟩:=z;have ac:=Nq h3;obtain⟨v,w,V',a0,R',hl⟩:=R6 N ok.kK hg b ac;exact AZ u a0 (Sg ac) (hK s' x V' _ w hl (anE ac) (anT ac) R' h4)
def ayE{W:Type}{V X:List W}{m x:W}(h:x∈(V++X).dropLast):x∈(V++m::X).dropLast:=by
 rw[aIz aw];cases X with
 |nil=>
  rw[Jw] at h;exact El _ ((aIN _).subset h)
 |cons y X=>
  grind
def ayF(b0:CX B A)(b1:NA p k A){Kn:dm->aj->S->Prop}{Kp:dm->aj->C->S->Prop}{Yp:dm->OM->cN->aj->S->Nat->aq->Prop}{F:Fence}(hF:qB F)(ok:jd p k){D:bT}{Q:Exit->Act->World->Prop}(HP:∀ch g M pd y,ef p.w0 D pd y g.defers M->p.R (.panicked ch) M->Q (.panic ch) g M)(hC:NB B t)
  {s0:S}{O0:aj}{V0:ar}{L0:dm}
  (hk:∀G H z g M w,bB s0 O0 V0 G H z->cT s0.ax L0 w->aA p.S0 p.w0 D k.ty z H G g M->Kn w H G->Q .normal g M)
  (bf:∀v G H z g M w,bB s0 O0 V0 G H z->cT s0.ax L0 w->aA p.S0 p.w0 D k.ty z H G g M->Kp w H v G->Q (.panic [{v:=v.ai H z,recovered:=E}]) g M)
  (hy:∀(L:dm)(m:OM)(bg:cN)(s:S)(O:aj)(V:ar)(a:Act)(W:World)(yn:Nat)(a1:aq)(R':Ending->World->Prop),bB s0 O0 V0 s O V->cT s0.ax L0 L->aA p.S0 p.w0 D k.ty V O s a W->eC k.gl O->Yp L m bg O s yn a1->
   (∀v G H z M w,bB s O V G H z->cT s.ax L w->aA p.S0 p.w0 D k.ty z H G a M->eD p k B A (Kn w) (Kp w) (Yp w) bg H (G.put m.o.dst v)->R' (.returned (v.ai H z)) M)->
   (∀v G H z M w,bB s O V G H z->cT s.ax L w->aA p.S0 p.w0 D k.ty z H G a M->Kp w H v G->R' (.panicked [{v:=v.ai H z,recovered:=E}]) M)->
   (∀ch M pd y,ef p.w0 D pd y a.defers M->p.R (.panicked ch) M->R' (.panicked ch) M)->
   ∀(m:Nat),YieldAt F m p.P (O.y.getD yn 0) (C.az O V a1).toArray W R'):
  ∀(ac:Nat)(listed:Array Bool)(aa:cN)(s:S)(O:aj)(V:ar)(a:Act)(W:World)(L:dm),Y aa=ac->Sx B t listed aa->(∀m∈aa,m.dr=J)->(∀m∈aa,∀N,m.o.op=.alloc N->JZ k N=J)->(aa.Pairwise λa b=>gT a.o.op=J->gT b.o.op=J->a.ix≠b.ix)->(((∀m∈aa,aes s m)/\(∀m∈aa.dropLast,aer s m))\/(aa.Pairwise λx y=>(t.getD y.j 0).testBit x.j=J))->bB s0 O0 V0 s O V->cT s0.ax L0 L->aA p.S0 p.w0 D k.ty V O s a W->eC k.gl O->eD p k B A (Kn L) (Kp L) (Yp L) aa O s->
   wpAnyIn F X p.P .any B Q ac listed a W:=by
 intro ac;induction ac with
 |zero=>
  intro listed aa s O V a W L a3 hW a9 hZ bk hA hl hL R hg h;have b2:aa=[]:=AC.1 a3;subst b2;refine⟨?_,hk s O V a W L hl hL R h⟩;cases hr:um .any B listed with
  |nil=>rfl
  |cons i r=>
   obtain⟨h1,o,ho,-⟩:=mem_ready.1 (show i∈um .any B listed by rw[hr];simp);have:=(hW.un i (lH.1 ho).1).1 h1;obtain⟨m,hm,-⟩:=this;cases hm
 |succ ac ih=>
  intro listed aa s O V a W L a3 hW a9 hZ bk hA hl hL R hg h;refine⟨λhr=> ?_,λi hi=> ?_⟩
  
  exfalso;cases aa with
  |nil=>simp at a3
  |cons m ys=>
   have af:=hW.mem m aw;have:m.j∈um .any B listed:=by
    refine mem_ready.2 ⟨(hW.un m.j (lH.1 af).1).2 ⟨m,aw,rfl⟩,m.o,af,λe he hb=> ?_⟩;rcases hW.tp [] m ys rfl e.on (Sy he hb) with h1|⟨x,u,-⟩;exact h1;cases u
   rw[hr] at this;cases this
  obtain⟨h1,o,ho,b3⟩:=mem_ready.1 hi;obtain⟨m,hm,rfl⟩:=(hW.un i (lH.1 ho).1).1 h1;obtain⟨q,ys,rfl⟩:=aI1 hm;have af:=hW.mem m hm;rw[af] at ho;cases ho;have hd:∀e∈jq m.o,listed.getD e E=true:=λe he=>by
   obtain⟨ed,h2,h3,rfl⟩:=W5 he;exact b3 ed h2 h3
  have bl:∀x∈q,¬(t.getD m.j 0).testBit x.j=true:=by
   intro x u h2;have b4:=hW.mem x (by simp[u]);have ba:x.j<B.size:=(lH.1 b4).1;have h3:=ayB hC hW m.j m.o af hd x.j ba h2;have h4:=(hW.un x.j ba).2 ⟨x,by simp[u],rfl⟩;have b5:x.j<listed.size:=by rw[hW.sz];exact ba
   simp[b5] at h3 h4;rw[h3] at h4;cases h4
  have br:∀x∈q,vL B x m=true:=by
   intro x u;have b6:=(oC.1 hW.pr).2.2 x u m aw;rcases b6 with h2|h2;exact bE h2 (bl x u);exact h2
  have bb:=oC.1 hW.ds;have ag:=oC.1 bk;have hb:eD p k B A (Kn L) (Kp L) (Yp L) (m::(q++ys)) O s:=by
   rcases hA with⟨bc,hA⟩|hA;exact anW b0 q s O br (λx u=>hA x (by rw[aIz aw];exact El _ u)) (bc m hm) bb.1 (λx u al a4 e=>ag.2.2 x u m aw al a4 e.symm) (hZ m hm) R.ei R.eb R.er h;cases q with|nil=>exact h|cons x q=>exact bE ((oC.1 hA).2.2 x aw m aw) (bl x aw)
  have bt:∀(G:S)(H:aj)(z:ar)(g:Act)(M:World)(w:dm),(((∀m∈q++ys,aes G m)/\(∀m∈(q++ys).dropLast,aer G m))\/((q++ys).Pairwise λx y=>(t.getD y.j 0).testBit x.j=J))->bB s0 O0 V0 G H z->cT s0.ax L0 w->aA p.S0 p.w0 D k.ty z H G g M->eC k.gl H->eD p k B A (Kn w) (Kp w) (Yp w) (q++ys) H G->wpAnyIn F X p.P .any B Q ac (listed.setIfInBounds m.j J) g M:=
   λG H z g M w b7 ab an R' b8 a0=>ih _ (q++ys) G H z g M w (by simp at a3⊢;omega) (ayC hW hd) (λx u=>a9 x (by rcases fg.1 u with l|l<;>simp[l])) (λx u=>hZ x (by rcases fg.1 u with l|l<;>simp[l]))
    (oC.2 ⟨ag.1,(jO.1 ag.2.1).2,λa ha b hb=>ag.2.2 a ha b (by simp[hb])⟩) b7 ab an R' b8 a0
  have ca:awh (q++ys) (q++m::ys):=akL (akN _) (akI _ _);refine ayD hF ok b1 HP hb R hg af (a9 m hm) (λG H z g M ab cc cl R' a0=> ?_) (λv hv=>bf v s O V a W L hl hL R hv) (λyn a1 hc bx cn=> ?_);refine bt G H z g M L ?_ (hl.trans ab) hL R' (hg.ext ab.ext) a0;rcases hA with⟨bc,hA⟩|hA;left;refine⟨λx u al=>cl x.ix (bc x (by rcases fg.1 u with l|l<;>simp[l]) al) (λa4=>by
   rcases fg.1 u with l|l;exact ag.2.2 x l m aw al a4;exact λe=>(jO.1 ag.2.1).1 x l a4 al e.symm),λx u=> ?_⟩
  intro d bd;have co:m.o.dst≠U d:=by
   rcases fg.1 ((aIN _).subset u) with l|l;exact bb.2.2 x l m aw d bd;intro he;exact(jO.1 bb.2.1).1 x l d he bd
  exact anV ⟨by rw[<-R.ei,<-R'.ei];exact ab.ext.li,by rw[<-R.eb,<-R'.eb];exact ab.ext.lb,by rw[<-R.er,<-R'.er];exact ab.ext.lr,ab.mono⟩ (cc d co) (hA x (ayE u) d bd);exact .inr (hA.sublist ca);have cp:q=[]:=by
   cases q with
   |nil=>rfl
   |cons x q=>
    have:=(anU (br x aw)).2;rw[bx] at this;cases this
  subst cp;have cs:ys.Pairwise λx y=>(t.getD y.j 0).testBit x.j=true:=hW.so [] m ys rfl bx
  have hY:=hy L m ys s O V a W yn a1 (λe M=>match e with|.returned v=>wpAnyIn F X p.P .any B Q ac (listed.setIfInBounds m.j J) (a.put m.o.dst v) M|.panicked ch=>Q (.panic ch) a M|.outgrown=>LetsOut Q) hl hL R hg cn
   (λv G H z M w ab an R' a0=>bt (G.put m.o.dst v) H z _ M w (.inr cs) (hl.trans (ab.put _ _)) (hL.trans an hl.ax) (R'.put m.o.dst v) (hg.ext ab.ext) a0)
   (λv G H z M w ab an R' hs=>bf v G H z a M w (hl.trans ab) (hL.trans an hl.ax) R' hs)
   (λch M pd y hA hR=>HP ch a M pd y hA hR) (X-1)
  obtain⟨fn,cy,assign,body,ct,cu⟩:=hY;refine⟨λf _=>hF.fn f, ?_⟩;have cv:∀c,m.o.op≠ .defer c:=λc cx=>by simp[et,cx] at hc
  rw[AF _ _ _ cv,adW R hg hc,ct];rw[avX];refine⟨λhd=>by rw[hF.zq] at hd;simp at hd,RoundIn.mono cu (λe M he=> ?_)⟩;cases e<;>exact he
end
def Sz:cG->Fence
 |none=>Fence.wide|U l=>Fence.wide.inRound l
def zv:∀i,qB (Sz i)
 |none=>axR|U l=>amS l
def ayG:∀i,(Sz i).round=i
 |none=>rfl|U _=>rfl
theorem qB.room{F:Fence}(W:qB F)(n:Nat):F.room n:=λd X=>by rw[W.zq] at X;cases X
def jQ(i:cG)(o:FuncId)(P:Program)(c:Code)(Q:Exit->Act->World->Prop)(a:Act)(w:World):Prop:=
 ∀(b:Frame)(k:List Item)(X:List Frame),b.roundOf=i->b.fn=o->
  ∃e W V,Q e W V/\ArrivesIn (Machine.fenced P Fence.wide) P (lone (b.atR a (.code c::k)) X w) b k X e W V
section
variable{i:cG}{o:FuncId}{P:Program}{Q:Exit->Act->World->Prop}{a:Act}{w:World}
def vZ{c:Code}{n:Nat}(h:c.wpIn (Sz i) n P Q a w):jQ i o P c Q a w:=by
 intro b k X W _;obtain⟨e,R,O,N,V⟩:=h b k X (W.trans (ayG i).symm) ((zv i).fn _) ((zv i).room _);rw[(zv i).eq] at V
 grind
def ayH{c:Code}{X:Exit->Act->World->Prop}(h:jQ i o P c Q a w)(W:∀e a w,Q e a w->X e a w):jQ i o P c X a w:=
 λb k V R O=>let⟨e,N,M,q,r⟩:=h b k V R O;⟨e,N,M,W _ _ _ q,r⟩
def Kk{x y:Code}(h:jQ i o P x (Exit.then (jQ i o P y Q) Q) a w):jQ i o P (Code.seq x y) Q a w:=by
 intro b k N M L;have X:(lone (b.atR a (.code (.seq x y)::k)) N w).fenced P Fence.wide:=fenced_wide _ _;obtain⟨e,R,O,W,V⟩:=h b (.code y::k) N M L;cases e with
 |normal=>
  obtain⟨H,G,F,D,B⟩:=W b k N M L;exact⟨H,G,F,D,.of_steps (.head X stepR_seq V) B⟩
 |exit id=>exact⟨_,R,O,W,.of_steps (.one X stepR_seq) (.pass (x:=.code y) rfl (λ_ _=>.inl aw) V)⟩|goto l=>exact⟨_,R,O,W,.of_steps (.one X stepR_seq) (.pass (x:=.code y) rfl (λ_ _=>.inl aw) V)⟩|ret=>exact⟨_,R,O,W,.of_steps (.one X stepR_seq) (.pass (x:=.code y) rfl (λ_ _=>.inl aw) V)⟩|panic A=>exact⟨_,R,O,W,.of_steps (.one X stepR_seq) (.pass (x:=.code y) rfl (λ_ _=>.inl aw) V)⟩|outgrown=>exact⟨_,R,O,W,.of_steps (.one X stepR_seq) (.pass (x:=.code y) rfl (λ_ _=>.inl aw) V)⟩
def ayI{c:Code}(h:jQ i o P c (Exit.inBlock X Q) a w):jQ i o P (Code.block X c) Q a w:=by
 intro b k z y x;have W:(lone (b.atR a (.code (.block X c)::k)) z w).fenced P Fence.wide:=fenced_wide _ _;obtain⟨e,O,N,V,R⟩:=h b (.inBlock X::k) z y x;cases e with
 |normal=>exact⟨.normal,O,N,V,.head W stepR_block (StepsIn.trans R (.one (fenced_wide _ _) stepR_inBlock))⟩
 |exit L=>
  by_cases hid:L=X;simp only[Exit.inBlock,hid,dN] at V;exact⟨.normal,O,N,V,.head W stepR_block (R.1 k (by simp[exitTo,hid]))⟩;simp only[Exit.inBlock,hid,jB] at V;have this:(X==L)=false:=by simp;exact λh=>hid h.symm
  have H:exitTo L (.inBlock X::k)=exitTo L k:=by simp[exitTo,this]
  exact⟨.exit L,O,N,V,λG M=>.head W stepR_block (R.1 G (by rw[H];exact M)),
   λF M=>let⟨D,B,A⟩:=R.2 F (by rw[H];exact M);⟨D,B,.head W stepR_block A⟩⟩
 |goto l=>
  have H:gotoIn l (.inBlock X::k)=gotoIn l k:=by simp[gotoIn]
  exact⟨_,O,N,V,λG M=>.head W stepR_block (R.1 G (by rw[H];exact M)),
   λF M=>let⟨D,B,A⟩:=R.2 F (by rw[H];exact M);⟨D,B,.head W stepR_block A⟩⟩
 |ret=>exact⟨_,O,N,V,.of_steps (.one W stepR_block) R⟩|panic v=>exact⟨_,O,N,V,.of_steps (.one W stepR_block) R⟩|outgrown=>exact⟨_,O,N,V,.of_steps (.one W stepR_block) R⟩
def ayJ{c:Code}(h:jQ i o P c (λe a w=>(∀l,e≠ .goto l)/\Q e a w) a w):jQ i o P (Code.scope c) Q a w:=by
 intro b k X G F;have W:(lone (b.atR a (.code (.scope c)::k)) X w).fenced P Fence.wide:=fenced_wide _ _;have V:step P (lone (b.atR a (.code (.scope c)::k)) X w)=.next (lone (b.atR a (.code c::.inScope c::k)) X w):=step_lone_go (by simp[stepG,stepG.exec,Frame.atR])
 have D:∀a w,step P (lone (b.atR a (.inScope c::k)) X w)=.next (lone (b.atR a k) X w):=λa w=>step_lone_go (by simp[stepG,stepG.exec,Frame.atR])
 obtain⟨e,O,N,⟨B,M⟩,R⟩:=h b (.inScope c::k) X G F;cases e with
 |normal=>exact⟨.normal,O,N,M,.head W V (StepsIn.trans R (.one (fenced_wide _ _) (D _ _)))⟩
 |exit id=>
  have H:exitTo id (.inScope c::k)=exitTo id k:=by simp[exitTo]
  exact⟨.exit id,O,N,M,λA L=>.head W V (R.1 A (by rw[H];exact L)),λz L=>let⟨y,x,v⟩:=R.2 z (by rw[H];exact L);⟨y,x,.head W V v⟩⟩
 |goto l=>exact bE rfl (B l)|ret=>exact⟨_,O,N,M,.of_steps (.one W V) R⟩|panic u=>exact⟨_,O,N,M,.of_steps (.one W V) R⟩|outgrown=>exact⟨_,O,N,M,.of_steps (.one W V) R⟩
def NC{c:Operand}{x y:Code}{t:Bool}(X:a.eval c=.bool t)(h:jQ i o P (if t then x else y) Q a w):jQ i o P (Code.cond c x y) Q a w:=by
 intro b k W V R;obtain⟨e,O,N,M,L⟩:=h b k W V R;exact⟨e,O,N,M,.of_steps (.one (fenced_wide _ _) (stepR_cond X)) L⟩
def SA(i:cG)(o:FuncId)(P:Program)(c:Code)(Q:Exit->Act->World->Prop):Nat->Act->World->Prop
 |0,_,_=>False|m+1,a,w=>jQ i o P c (Exit.then (SA i o P c Q m) Q) a w
def anX{c:Code}(m:Nat)(h:SA i o P c Q m a w):jQ i o P (Code.loop c) Q a w:=by
 intro b k O H G;have F:∀m a w,SA i o P c Q m a w->
   ∃e M L,Q e M L/\ArrivesIn (Machine.fenced P Fence.wide) P (lone (b.atR a (.code c::.inLoop c::k)) O w) b k O e M L:=by
  intro m;induction m with
  |zero=>intro a w h;exact h.elim
  |succ m D=>
   intro a w h;obtain⟨e,X,W,V,R⟩:=h b (.inLoop c::k) O H G;have N:∀{e:Exit},e≠ .normal->ArrivesIn (Machine.fenced P Fence.wide) P (lone (b.atR a (.code c::.inLoop c::k)) O w) b (.inLoop c::k) O e X W->ArrivesIn (Machine.fenced P Fence.wide) P (lone (b.atR a (.code c::.inLoop c::k)) O w) b k O e X W:=
    λB A=>.pass (x:=.inLoop c) rfl (λ_ _=>.inl B) A
   cases e with
   |normal=>
    obtain⟨z,y,v,u,t⟩:=D X W V;exact⟨z,y,v,u,.of_steps (StepsIn.trans R (.one (fenced_wide _ _) stepR_inLoop)) t⟩
   |exit id=>exact⟨_,X,W,V,N aw R⟩|goto l=>exact⟨_,X,W,V,N aw R⟩|ret=>exact⟨_,X,W,V,N aw R⟩|panic s=>exact⟨_,X,W,V,N aw R⟩|outgrown=>exact⟨_,X,W,V,N aw R⟩
 obtain⟨e,M,L,V,R⟩:=F m a w h;exact⟨e,M,L,V,.of_steps (.one (fenced_wide _ _) stepR_loop) R⟩
def ayK{c:Code}(X:Nat->Act->World->Prop)(M:Nat)(F:X M a w)
  (round:∀n a w,X n a w->jQ i o P c (Exit.then (λR O=>∃V,V<n/\X V R O) Q) a w):jQ i o P (Code.loop c) Q a w:=by
 refine anX (M+1) ?_;have D:∀N n a w,n<N->X n a w->SA i o P c Q N a w:=by
  intro N;induction N with
  |zero=>intro n a w h;omega
  |succ N L=>
   intro n a w B H;refine ayH (round n a w H) ?_;intro e R O W;cases e with
   |normal=>
    obtain⟨V,A,G⟩:=W;exact L V R O ae G
   |exit id=>exact W|goto l=>exact W|ret=>exact W|panic z=>exact W|outgrown=>exact W
 grind
def aeu(i:cG)(o:FuncId)(P:Program)(l:Nat)(Q:Exit->Act->World->Prop)(X:Act):Ending->World->Prop
 |.returned _,W=>∃R V,(Instr.endLoop l).run P W=.ok R V/\
   (match R with|none=>Q .normal X V|U c=>jQ i o P c Q X V)
 |.panicked chain,W=>Q (.panic chain) X W|.outgrown,_=>False
def ayL{g:Operand}{W:Array Tmp}{assign body:Code}
  (h:∃(l:Nat)(mark:CG)(V:World)(d:Deferred)(R:World)(f:FuncId)(O:mL)(N:World),
   (Instr.enterLoop o a.tmps W assign body i).run P w=.ok (l,mark) V/\
   (resolve a.eval (rangeCall g l) 0).run P V=.ok d R/\
   (invoke d.target d.args).run P R=.ok (.enter f O) N/\
   Calls P f O N (aeu i o P l Q {a with defers:=mark++a.defers})):
  jQ i o P (Code.rangeFunc g W assign body) Q a w:=by
 intro b k X H G;obtain⟨l,mark,V,d,R,f,O,N,F,s,r,M⟩:=h;obtain⟨hF,M⟩:=(callsIn_wide (n:=0)).2 M;rw[<-H,<-G] at F;have D:(lone (b.atR a (.code (.rangeFunc g W assign body)::k)) X w).fenced P Fence.wide:=fenced_wide _ _;have B:=stepR_rangeFunc (P:=P) (b:=b) (a:=a) (k:=k) (cs:=X) (w:=w) F s r;obtain⟨e,q,fr,L,A,ac,z⟩:=M (b.atR {a with defers:=mark++a.defers} (.inRangeFunc l::k)::X) (room_wide _);cases e with
 |outgrown=>exact L.elim
 |returned v=>
  obtain⟨y,x,p,u⟩:=L;have t:StepsIn (Machine.fenced P Fence.wide) P (lone (b.atR a (.code (.rangeFunc g W assign body)::k)) X w) (lone (b.atR {a with defers:=mark++a.defers} ((y.map Item.code).toList++k)) X x):=by
   refine .head D B (StepsIn.trans A (.head (fenced_wide _ _) ?_ (.one (fenced_wide _ _) (stepR_endRangeFunc p))));rw[<-finish_atR_inRangeFunc l v];exact step_leave_returned z
  cases y with
  |none=>exact⟨.normal,_,x,u,t⟩
  |some c=>
   obtain⟨m,j,aa,hq,ab⟩:=u b k X H G;exact⟨m,j,aa,hq,.of_steps t ab⟩
 |panicked chain=>
  refine⟨.panic chain,_,q,L,.inRangeFunc l::k,.head D B (StepsIn.trans A (.one (fenced_wide _ _) ?_))⟩;rw[<-Frame.raise_atR];exact step_leave_panicked z
end
def Kl{P:Program}{f:FuncId}{N:Func}{c:Code}{W:mL}{R:Ending->World->Prop}
  (z:P.funcs[f]?=U N)(s:N.body=U c)
  (h:jQ Z f P c (bodyPostM Fence.wide 0 P N R) {tmps:=W++QT (N.ntmps-W.size) undef,defers:=[]} e):Calls P f W e R:=by
 refine(callsIn_wide (n:=0)).1 ⟨trivial,λy v=> ?_⟩;let b:Frame:={(default:Frame) with fn:=f,kind:=.normal,roundOf:=Z};have r:Frame.enter P f W .normal=
   b.atR {tmps:=W++QT (N.ntmps-W.size) undef,defers:=[]} [.code c]:=by
  simp[Frame.enter,Frame.atR,z,s,b]
 obtain⟨X,V,x,O,M⟩:=h b [] y rfl rfl;rw[<-r] at M;cases X with
 |normal=>
  obtain⟨L,H,G,F,D,B,A⟩:=leaves_stepsInM V.defers .returning x {b.atR V [] with mode:=.returning} y rfl rfl rfl z rfl trivial v O;exact⟨L,H,G,F,ComesIn.of_steps (StepsIn.trans M (.one (fenced_wide _ _) (stepR_end rfl))) D,B,A⟩
 |ret=>
  obtain⟨u,t⟩:=M.1 rfl;obtain⟨L,H,G,F,D,B,A⟩:=leaves_stepsInM V.defers .returning x {b.atR V u with mode:=.returning} y rfl rfl rfl z rfl trivial v O;exact⟨L,H,G,F,ComesIn.of_steps t D,B,A⟩
 |panic chain=>
  obtain⟨u,t⟩:=M;obtain⟨L,H,G,F,D,B,A⟩:=leaves_stepsInM V.defers (.panicking chain) x {b.atR V u with mode:=.panicking chain} y rfl rfl rfl z rfl trivial v O;exact⟨L,H,G,F,ComesIn.of_steps t D,B,A⟩
 |exit id=>exact O.elim|goto l=>exact O.elim|outgrown=>exact⟨.outgrown,x,b,O,M.resolve_left aw,rfl,trivial⟩
def ayM(P:Program)(l:Nat)(R:Ending->World->Prop):Exit->Act->World->Prop
 |.normal,_,w=>∃v X,(Instr.endRound l Z).run P w=.ok v X/\R (.returned v) X|.ret,_,w=>∃v X,(Instr.endRound l (U .ret)).run P w=.ok v X/\R (.returned v) X|.exit id,_,w=>∃v X,(Instr.endRound l (U (.exit id))).run P w=.ok v X/\R (.returned v) X|.panic W,a,w=>a.defers=[]/\R (.panicked W) w|_,_,_=>False
def ayN{F:Fence}(o:qB F){P:Program}{l:Nat}{f:FuncId}{k:Func}{s:mL}{assign body:Code}{R:Ending->World->Prop}(j:P.funcs[f]?=U k)
  (h:jQ (U l) f P assign (λW H G=>(W=.normal/\∃r,(Instr.beginRound l).run P G=.ok () r/\jQ (U l) f P body (ayM P l R) H r)\/∃z,W=.panic z/\H.defers=[]/\R (.panicked z) G)
   {tmps:=s,defers:=[]} e):
  RoundIn F X P l f s assign body e R:=by
 refine⟨o.fn f,λc N hr=> ?_⟩;let b:Frame:={(default:Frame) with fn:=f,kind:=.normal,roundOf:=U l};have i:Frame.round l f s assign body .normal=b.atR {tmps:=s,defers:=[]} [.code assign,.beginRound,.code body]:=by
  simp[Frame.round,Frame.atR,b]
 have ag:(Fence.wide.inRound l).room ((c::N).length+1+X):=(amS l).room _;obtain⟨W,H,G,g,D⟩:=h b [.beginRound,.code body] (c::N) rfl rfl;rw[<-i] at D;rw[o.eq];have ND:∀(m:Machine)(B:Act)(M:World)(chain:List PanicEntry)(L:List Item),B.defers=[]->StepsIn (Machine.fenced P Fence.wide) P m (lone {b.atR B L with mode:=.panicking chain} (c::N) M)->StepsIn (Machine.fenced P Fence.wide) P m (lone (c.raise chain) N M):=by
  intro m B M chain L y V;have d:({b.atR B L with mode:=.panicking chain}:Frame).leaving P M (.panicked chain):=⟨rfl,y,k,j⟩;exact StepsIn.trans V (.one (fenced_wide _ _) (step_leave_panicked d))
 rcases g with⟨rfl,r,aa,ab⟩|⟨z,rfl,y,O⟩;have q:StepsIn (Machine.fenced P Fence.wide) P (lone (b.atR H [.beginRound,.code body]) (c::N) G) (lone (b.atR H [.code body]) (c::N) r):=
  .one (fenced_wide _ _) (stepR_beginRound rfl aa)
 obtain⟨ac,B,M,A,p⟩:=ab b [] (c::N) rfl rfl;cases ac with
 |normal=>
  obtain⟨v,x,u,O⟩:=A;exact⟨.returned v,x,O,(StepsIn.trans D q).trans (StepsIn.trans p (.one (fenced_wide _ _) (stepR_round_end rfl rfl u)))⟩
 |ret=>
  obtain⟨v,x,u,O⟩:=A;obtain⟨af,V⟩:=p.2 rfl;exact⟨.returned v,x,O,(StepsIn.trans D q).trans (StepsIn.trans V (.one (fenced_wide _ _) (stepR_round_ret rfl rfl u)))⟩
 |exit id=>
  obtain⟨v,x,u,O⟩:=A;obtain⟨af,hk,V⟩:=p.2 rfl rfl;exact⟨.returned v,x,O,(StepsIn.trans D q).trans (StepsIn.trans V (.one (fenced_wide _ _) (stepR_round_exit rfl rfl hk u)))⟩
 |goto t=>exact A.elim
 |panic chain=>
  obtain⟨y,O⟩:=A;obtain⟨L,V⟩:=p;exact⟨.panicked chain,M,O,ND _ B M chain L y ((StepsIn.trans D q).trans V)⟩
 |outgrown=>exact A.elim
 obtain⟨L,V⟩:=D;exact⟨.panicked z,G,O,ND _ H G z L y V⟩
mutual
def K.fc(O:aj)(y:ar):∀(e:K),e.ai (O.at y)=e.ai O
 |.c n=>by simp[K.ai]|.v k=>by simp[K.ai,aj.at]|.bin o k a b=>by simp only[K.ai];rw[K.fc O y a,K.fc O y b]|.conv k a=>by simp only[K.ai];rw[K.fc O y a]|.len r=>by simp only[K.ai];rw[RE.nM O y r]|.mm m a b=>by simp only[K.ai];rw[K.fc O y a,K.fc O y b]|.dv b x z=>by simp only[K.ai];rw[BE.fc O y b,K.fc O y x,K.fc O y z]|.cell r i j=>by simp only[K.ai];rw[RE.nM O y r,K.fc O y i]|.o7 r i=>by simp only[K.ai];rw[RE.nM O y r,K.fc O y i]|.look r n a b c j=>by simp only[K.ai];rw[RE.nM O y r,K.fc O y a,K.fc O y b,K.fc O y c]
def BE.fc(O:aj)(y:ar):∀(e:BE),e.ai (O.at y)=e.ai O
 |.c b=>by simp[BE.ai]|.v k=>by simp[BE.ai,aj.at]|.cmp o a b=>by simp only[BE.ai];rw[K.fc O y a,K.fc O y b]|.not a=>by simp only[BE.ai];rw[BE.fc O y a]|.and a b=>by simp only[BE.ai];rw[BE.fc O y a,BE.fc O y b]|.beq a b=>by simp only[BE.ai];rw[BE.fc O y a,BE.fc O y b]|.dv b x z=>by simp only[BE.ai];rw[BE.fc O y b,BE.fc O y x,BE.fc O y z]|.cell r i j=>by simp only[BE.ai];rw[RE.nM O y r,K.fc O y i]|.seq a b=>by simp only[BE.ai];rw[RE.nM O y a,RE.nM O y b]|.look r n a b c j=>by simp only[BE.ai];rw[RE.nM O y r,K.fc O y a,K.fc O y b,K.fc O y c]|.has r n a b c=>by simp only[BE.ai];rw[RE.nM O y r,K.fc O y a,K.fc O y b,K.fc O y c]
def RE.nM(O:aj)(y:ar):∀(e:RE),e.rv (O.at y)=e.rv O
 |.v k=>by simp[RE.rv,aj.rv,aj.at]|.cell r i j k=>by simp only[RE.rv];rw[RE.nM O y r,K.fc O y i]|.k v=>by simp[RE.rv]
end
def C.W6(O:aj)(y:ar)(v:C):v.xv (O.at y)=v.xv O:=by
 cases v<;>simp[C.xv,K.fc,BE.fc,RE.nM]
def C.ayO(O:aj)(y:ar)(v:C):v.cg (O.at y)=v.cg O:=by
 cases v<;>simp[C.cg,K.fc,BE.fc,RE.nM]
def C.W7(O:aj)(y:ar):C.cg (O.at y)=C.cg O:=funext (C.ayO O y)
def LE.Km(O:aj)(y:ar):∀(e:LE),e.ah (O.at y)=e.ah O
 |.ak r=>by simp only[LE.ah,RE.nM]|.lit l=>by simp only[LE.ah,C.W7]|.iA a b=>by simp only[LE.ah];rw[LE.Km O y a,LE.Km O y b]|.xp n R=>by simp only[LE.ah,C.W7,K.fc]|.set a i Q X=>by simp only[LE.ah,C.W7,K.fc];rw[LE.Km O y a]|.sub a P N=>by simp only[LE.ah,K.fc];rw[LE.Km O y a]|.ins a n X=>by simp only[LE.ah,C.W7];rw[LE.Km O y a]
def Hp:∀(X:aZ)(O:aj)(y:ar),(O.at y).ext X=(O.ext X).at y
 |[],O,y=>rfl
 |x::X,O,y=>by
  simp only[aj.ext];rw[<-Hp X (O.add x) y];cases x<;>rfl
def ayP{G:Ty}{X:LE}{R:bo}{y:ar}{Q:RV}(h:J5 G t e v X R (x.at y) Q):J5 G t e v X R x Q:=by
 obtain⟨P,N,M⟩:=h;rw[LE.Km] at P;exact⟨P,N,M⟩
def td(p:Sp):∀(t:T)(O:aj)(L:dm)(y:ar),t.aN p O L->t.aN p (O.at y) L
 |.out e s,O,L,y,h=>h|.ret v c F,O,L,y,h=>h|.bp v,O,L,y,h=>h
 |.aJ b t f,O,L,y,h=>by
  simp only[T.aN,BE.fc] at h⊢;exact⟨λQ=>td p t O L y (h.1 Q),λQ=>td p f O L y (h.2 Q)⟩
 |.aS b t,O,L,y,h=>by
  simp only[T.aN,BE.fc] at h⊢;exact⟨h.1,td p t O L y h.2⟩
 |.call f ab c F ks fz t,O,L,y,h=>by
  simp only[T.aN] at h⊢;cases u:zg fz with
  |some Vq=>
   simp only[u] at h⊢;intro A V W R;refine(h A V W R).mono ?_;intro e W' M;cases e with
   |returned v=>
    obtain⟨H,N,P,G,z,w,h6⟩:=M;exact⟨H,N,P,G,by rw[Hp];exact z,w,by rw[Hp];exact td p t _ L y h6⟩
   |panicked ch=>exact M|outgrown=>exact M
  |none=>
  simp only[u] at h⊢;intro A V W R;refine(h A V W R).mono ?_;intro e W' M;cases e with
  |returned v=>
   obtain⟨H,N,P,G,z,w⟩:=M;refine⟨H,N, ?_,G,z, ?_⟩;rw[Hp];exact P;rw[Hp];exact td p t _ L y w
  |panicked ch=>exact M|outgrown=>exact M
 |.loop ax ks x0 t,O,L,y,h=>by
  simp only[T.aN] at h⊢;obtain⟨X,μ,N,P⟩:=h;refine⟨X,μ, ?_,λH hf hI=> ?_⟩;have:C.xv (O.at y)=C.xv O:=funext (C.W6 O y)
  grind
  rw[Hp];exact td p t _ _ y (P H hf hI)
 |.back ax x,O,L,y,h=>by
  have:C.xv (O.at y)=C.xv O:=funext (C.W6 O y)
  grind [T.aN]
 |.new e x F ac t,O,L,y,h=>by
  simp only[T.aN] at h⊢;intro q aa;exact td p t (O.add (.r q)) L y (h q (ayP aa))
 |.ah k x F t,O,L,y,h=>by
  simp only[T.aN] at h⊢;have:gu x (O.at y)=gu x O:=by simp only[gu,LE.Km]
  rw[this];exact td p t (O.add (.r (gu x O))) L y h
 |.gr g h' t f,O,L,y,h=>by
  simp only[T.aN,BE.fc] at h⊢;exact⟨λQ=>td p t O L y (h.1 Q),λQ=>td p f O L y (h.2 Q)⟩
 |.pick n g h' t f,O,L,y,h=>by
  simp only[T.aN,K.fc,BE.fc] at h⊢;refine⟨λj N P G=>td p t (O.add (.i j)) L y (h.1 j N P ?_),λQ=>td p f O L y (h.2 Q)⟩;have:=BE.fc (O.add (.i j)) y g;rw[<-this];exact G
 |.eF f g e sp st r F t,O,L,y,h=>by
  simp only[T.aN,RE.nM] at h⊢;obtain⟨m,N,P⟩:=h;refine⟨m, ?_,td p t (O.add (.r (.mk (r.rv O).val m))) L y P⟩;rw[<-N];cases sp with
  |dE k o B=>
   have l:K.ai (O.at y)=K.ai O:=funext λe=>K.fc O y e
   cases st with
   |false=>simp only[lz,l]
   |true=>
    cases B with
    |nil=>rfl
    |cons i B=>
     cases B with|nil=>simp only[lz,l]|cons j B=>rfl
  |lex cs d=>rfl|ratio n d=>rfl
 |.stuck _,_,_,_,h=>h
mutual
def C.NE{O:aj}{y:ar}{n:Nat}(X:∀m,m<n->y.getD m 0=O.y.getD m 0)(V:ar):∀(v:C),v.zj n=E->v.ai (O.at y) V=v.ai O V
 |.int _ e,_=>by simp only[C.ai,K.fc]|.bool e,_=>by simp only[C.ai,BE.fc]|.ak e,_=>by simp only[C.ai,RE.ai,RE.nM]|.loc i _,_=>rfl|.el r _ i _,_=>by simp only[C.ai,RE.ai,RE.nM,K.fc]|.iP _ _ _ _,_=>rfl|.agg l,h=>by simp only[C.ai];rw[C.NF X V l h]|.bI l,h=>by simp only[C.ai];rw[C.NF X V l h]|.fn _ l,h=>by simp only[C.ai];rw[C.NF X V l h]|.gH _ x,h=>by simp only[C.ai];rw[C.NE X V x h]
 |.yl m,h=>by
  grind [C.zj,Nat.not_le,C.ai,aj.at]
 |.any,_=>rfl|.mp _,_=>rfl|.gq e Q R,h=>by simp only[C.ai,K.fc];rw[C.NF X V R h]
def C.NF{O:aj}{y:ar}{n:Nat}(X:∀m,m<n->y.getD m 0=O.y.getD m 0)(V:ar):∀(l:aq),C.qr n l=E->C.az (O.at y) V l=C.az O V l
 |[],_=>rfl
 |x::R,h=>by
  simp only[C.qr,yN] at h;simp only[C.az];rw[C.NE X V x h.1,C.NF X V R h.2]
end
theorem C.ayQ(R:∀m,m<X->t.getD m 0=x.y.getD m 0)(V:ar)(v:C)(h:v.zj X=E):v.gg (x.at t) V=v.gg x V:=by
 have Q:=C.NE R V v h;cases v<;>simp only[C.gg]<;>try rw[Q]
 exact RE.nM x t _
def C.anY{O:aj}{y:ar}{n:Nat}(X:∀m,m<n->y.getD m 0=O.y.getD m 0)(V:ar):∀(l:aq),C.qr n l=E->C.bK (O.at y) V l=C.bK O V l
 |[],_=>rfl
 |x::R,h=>by
  simp only[C.qr,yN] at h;have:=C.anY X V R h.2
  grind [C.bK,C.ayQ]
def aev{n:Nat}:∀{l:aq},C.qr n l=E->∀v∈l,v.zj n=E
 |[],_,v,h=>by cases h
 |x::R,h,v,X=>by
  simp only[C.qr,yN] at h;rcases eu.1 X with rfl|X;exact h.1;exact aev h.2 v X
def aew{n:Nat}:∀{bx:bm},zk n bx=E->∀(i:Nat)(t:TypeId)(X:aq),bP bx i=U (t,X)->C.qr n X=E
 |[],_,i,t,X,h=>by simp[bS] at h|Z::Q,R,0,t,X,h=>by simp[bS] at h
 |U x::Q,R,0,t,X,h=>by
  grind [zk,yN,bS]
 |Z::Q,R,i+1,t,X,h=>aew (bx:=Q) R i t X (by simpa[bS] using h)
 |U x::Q,R,i+1,t,X,h=>by
  simp only[zk,yN] at R;exact aew (bx:=Q) R.2 i t X (by simpa[bS] using h)
section
variable{H:ar}{F:World}{D:bT}{G:Ty}{V:ar}{O:aj}{s:S}{a:Act}{W:World}
def SB(n:Nat):∀(k:Nat)(R:bm),(oG n k R).length=Y R
 |0,[]=>rfl|_+1,[]=>rfl|k+1,x::X=>by simp[oG,SB n k X]|0,Z::X=>by simp[oG,SB n 0 X]|0,U x::X=>by simp[oG,SB n 0 X]
def SC(n:Nat):∀(k:Nat)(R:bm)(i:Nat)(x:TypeId×aq),bP (oG n k R) i=U x->bP R i=U x
 |0,[],_,_,h=>h|_+1,[],_,_,h=>h|k+1,x::X,0,_,h=>by simpa[oG,bS] using h
 |k+1,x::X,i+1,z,h=>by
  have:=SC n k X i z (by simpa[oG,bS] using h);simpa[bS] using this
 |0,Z::X,0,_,h=>by simp[oG,bS] at h
 |0,Z::X,i+1,z,h=>by
  have:=SC n 0 X i z (by simpa[oG,bS] using h);simpa[bS] using this
 |0,U x::X,0,z,h=>by
  grind [oG,bS]
 |0,U x::X,i+1,z,h=>by
  have:=SC n 0 X i z (by simpa[oG,bS] using h);simpa[bS] using this
def ayR:∀{X:bm}{i:Nat},aK X i=J->i<Y X
 |[],i,h=>by simp[aK,bS] at h|x::R,0,_=>aw
 |x::R,i+1,h=>by
  grind [aK,bS,nX]
def anZ{R:bm}:aK R X=J<->∃x,bP R X=U x:=by
 cases h:bP R X<;>simp[aK,h]
def SD{k:Nat}{R:bm}{i:Nat}(h:aK (oG X k R) i=J):aK R i=true:=by
 obtain⟨x,Q⟩:=anZ.1 h;exact anZ.2 ⟨x,SC X k R i x Q⟩
def an1(n:Nat):∀(k:Nat)(X:bm)(i:Nat),i<k->aK X i=J->aK (oG n k X) i=J
 |0,_,_,h,_=>ae|_+1,[],_,_,h=>h|k+1,x::R,0,_,h=>by simpa[oG,aK,bS] using h
 |k+1,x::R,i+1,Q,h=>by
  have:=an1 n k R i ae (by simpa[aK,bS] using h);simpa[oG,aK,bS] using this
def jG.ayS{X:bm}{Q:bo}(R:jG H F V O X G Q W)(n k:Nat):jG H F V O (oG n k X) G Q W:=
 ⟨R.base,λi h=>R.own i (SD h),λi j h L=>R.inj i j (SD h) (SD L),λi t B h=>R.box i t B (SC n k X i _ h),λq e P N M=>⟨(R.ak q e P N M).1,λb A i z=>(R.ak q e P N M).2 b A i (SD z)⟩⟩
theorem jG.at{P:bm}{M:bo}(R:jG H F V O P G M W)(L:∀m,m<X->t.getD m 0=O.y.getD m 0)(B:zk X P=E):jG H F V (O.at t) P G M W:=
 ⟨R.base,R.own,R.inj,λi Q N h=>by rw[C.anY L V N (aew B i Q N h)];exact R.box i Q N h,R.ak⟩
def ayT{w:World}(h:fl t e w)(P:e.heap.size<=X)(o:Obj):fl t e (w.putObj X o):=
 ⟨h.os,h.tape,h.output,by have:=h.size;simpa[Mj] using this,λk R Q=>(uk ae).trans (h.block k R Q)⟩
theorem bG.cells{k:RK}{Q:RV}(h:bG W G k Q)(R:dU G k Q X):∃M t L,W.heap[X]?=U (.cells M t L):=by
 induction h generalizing X with
 |sl e A H F P q p o n m l N=>
  cases R with
  |here e a H F P=>
   have g:P[0]?=U P[0]:=dB ae
   grind
  |deep e v P i j B c z k X x w u r=>exact N i j B c z k x w u r
 |str s=>cases R|bz v h=>cases R
 |own e Q h f N=>
  cases R with|own e Q X R=>exact N R
 |aT Q h=>cases R|mr d P=>cases R
def jG.obj{M:bm}{L:bo}(R:jG H F V O M G L W){o:Obj}(B:W.heap[X]?=U o)(A:M3 o=J)(w:F.heap.size<=X)(z:Obj):jG H F V O M G L (W.putObj X z):=by
 have v:∀P Q t N,W.heap[P]?=U (.cells Q t N)->P≠X:=λP Q t N h e=>by subst e;rw[B] at h;cases h;exact alY A _ _ _ rfl
 refine⟨ayT R.base w z,R.own,R.inj,λi t Q h=> ?_,λk e u r q=> ?_⟩;have:=R.box i t Q h;rw[uk (λe=>by subst e;rw[B] at this;cases this;exact alZ A _ _ rfl)];exact this;obtain⟨x,p⟩:=R.ak k e u r q;refine⟨x.J8 (λP n=> ?_) aw,p⟩;obtain⟨Q,t,N,m⟩:=x.cells n;exact uk (v _ _ _ _ m)
def AT.obj{R:bm}{Q:bo}{P:RV}{N:Nat}(h:AT H F V O R G Q W X v P N){b:Nat}{o:Obj}(L:W.heap[b]?=U o)(B:M3 o=J)(A:Obj):AT H F V O R G Q (W.putObj b A) X v P N:=by
 refine h.world (uk ?_);obtain⟨z,x,da,-,M,-⟩:=h.mem;intro v;subst v;rw[L] at M;cases M;exact alY B _ _ _ rfl
def aA.obj(R:aA H F D G V O s a W){b:Nat}{o:Obj}(Q:W.heap[b]?=U o)(P:M3 o=J)(M:F.heap.size<=b)(X:Obj){D':bT}{pd:vD}{a':Act}(N:a'.tmps=a.tmps)
  (L:ef F D' pd O.y a'.defers (W.putObj b X)):aA H F D' G V O {s with pd:=pd} a' (W.putObj b X):=
 ⟨R.mem.obj Q P M X,R.gE,R.ei,R.eb,R.er,L,by rw[N];exact R.size,λt B h=>by rw[N];exact R.tmps t B h,λk e A z x w v=>(R.eL k e A z x w v).obj Q P X⟩
def ri:ar->World->World
 |[],W=>W|d::ms,W=>ri ms (W.putObj d (.deferred Z))
def aA.ri:∀{ms:ar}{a:Act}{W:World},aA H F D G V O s a W->a.defers=ms.map mS++D.base->aA H F D G V O s {a with defers:=D.base} (ri ms W)
 |[],a,W,R,h=>by
  have:({a with defers:=D.base}:Act)=a:=by cases a;simp at h;subst h;rfl
  rw[this];exact R
 |d::ms,a,W,R,h=>by
  obtain⟨A,Q,w,M,L⟩:=R.dh.mw;have v:A=d::ms:=by
   rw[h] at Q;have Q:=aIF Q;have g:∀(l X:ar),l.map mS=X.map mS->l=X:=by
    intro l;induction l with
    |nil=>intro X h;cases X<;>simp at h;rfl
    |cons x f c=>
     intro X h;cases X with
     |nil=>simp at h
     |cons z b=>
      grind [GD,mS,Deferred.mk.injEq,Target.collected.injEq]
   grind
  subst v;have P:=L d aw;have u:ef F D s.pd O.y (ms.map mS++D.base) (W.putObj d (.deferred Z)):=by
   refine⟨R.dh.len,R.dh.rX,λn l r t q p=> ?_,R.dh.inj,ms,rfl,λo=>(by have:=w o;cases this),(Eo.1 M).2,λm B=> ?_⟩;obtain⟨k,N,j⟩:=R.dh.dJ n l r t q p;exact⟨k,(uk (λe=>by subst e;rw[P.1] at N;cases N)).trans N,j⟩;have:=L m (by simp only[cU,eu];exact .inr B);refine⟨(uk (λe=>by subst e;exact(Eo.1 M).1 B)).trans this.1,this.2⟩
  have i:=R.obj P.1 rfl P.2 (.deferred Z) (D':=D) (pd:=s.pd) (a':={a with defers:=ms.map mS++D.base}) rfl u;exact aA.ri (a:={a with defers:=ms.map mS++D.base}) (W:=W.putObj d (.deferred Z)) i rfl
def ef.ri:∀{ms:ar}{pd:vD}{y:ar}{W:World},ef F D pd y (ms.map mS++D.base) W->ef F D pd y D.base (ri ms W)
 |[],pd,y,W,h=>h
 |d::ms,pd,y,W,h=>by
  obtain⟨L,Q,H,P,N⟩:=h.mw;have G:L=d::ms:=by
   have Q:=aIF Q;have o:∀(l X:ar),l.map mS=X.map mS->l=X:=by
    intro l;induction l with
    |nil=>intro X h;cases X<;>simp at h;rfl
    |cons x m k=>
     intro X h;cases X with
     |nil=>simp at h
     |cons z j=>
      grind [GD,mS,Deferred.mk.injEq,Target.collected.injEq]
   grind
  subst G;have B:=N d aw;refine ef.ri (ms:=ms) (W:=W.putObj d (.deferred Z)) ⟨h.len,h.rX,λn l r A w v=> ?_,h.inj,ms,rfl,λu=>(by have:=H u;cases this),(Eo.1 P).2,λt M=> ?_⟩;obtain⟨q,R,p⟩:=h.dJ n l r A w v;exact⟨q,(uk (λe=>by subst e;rw[B.1] at R;cases R)).trans R,p⟩;have:=N t (by simp only[cU,eu];exact .inr M);exact⟨(uk (λe=>by subst e;exact(Eo.1 P).1 M)).trans this.1,this.2⟩
end
def SE{P:World->Prop}{B:Nat}(h:∀W b o,B<=b->P W->P (W.putObj b o)):∀{X:ar}{W:World},(∀d∈X,B<=d)->P W->P (ri X W)
 |[],W,_,R=>R|d::X,W,Q,R=>SE (W:=W.putObj d (.deferred Z)) h (λx N=>Q x (by simp[N])) (h W d _ (Q d aw) R)
def sa{P:Program}{Q:Func}{N:mL}{R:Ending->World->Prop}{u:FrameMode}{M:CG}(L:u≠ .run):∀{X:ar}{W:World},X.Nodup->(∀d∈X,W.heap[d]?=U (.deferred (U [])))->
  LeavesInM Fence.wide 0 P Q N R M u (ri X W)->LeavesInM Fence.wide 0 P Q N R (X.map mS++M) u W
 |[],W,_,_,h=>h
 |d::X,W,F,H,h=>by
  obtain⟨B,A⟩:=Eo.1 F;refine⟨L,.inl ⟨d,_,rfl,run_takeDeferred (H d aw),sa L A (λz G=> ?_) h⟩⟩;exact(uk (λe=>by subst e;exact B G)).trans (H z (by simp[G]))
section
variable{H:ar}{F:World}{D N:bT}{G:Ty}{V:ar}{O:aj}{s:S}{a:Act}{W:World}{pd:vD}{y:ar}{M:CG}
def ef.enter(h:ef F D pd y M W)(X:(t++D.out).Nodup)(R:∀d∈t++D.out,W.heap[d]?=U (.deferred (U []))/\F.heap.size<=d)(Q:Bool):ef F ⟨t++D.out,D.dJ,Q,[]⟩ pd y [] W:=
 ⟨h.len,h.rX,h.dJ,h.inj,[],rfl,λ_=>rfl,X,R⟩
def ef.ND{R:Bool}(h:ef F ⟨t++D.out,D.dJ,R,[]⟩ pd y [] W)(Q:D.rd=J->t=[]):ef F D pd y (t.map mS++D.base) W:=by
 obtain⟨X,P,L,N,M⟩:=h.mw;have:X=[]:=by cases X<;>simp at P;rfl
 subst this;exact⟨h.len,h.rX,h.dJ,h.inj,t,rfl,Q,N,M⟩
def ef.push{l:Nat}{r:Loop}(h:ef F D pd y M W)(G:(t++D.out).Nodup)(v:∀X∈t++D.out,W.heap[X]?=U (.deferred (U []))/\F.heap.size<=X)
  (u:W.heap[X]?=U (.deferred (U [])))(B:X∉t++D.out)(q:F.heap.size<=X)(p:W.heap[l]?=U (.loop (sU r .ready)))(o:∀(n:Nat)(R:Nat)(L:Loop),D.dJ[n]?=U (R,L)->R≠l)(m:F.heap.size<=l):
  ef F ⟨X::(t++D.out),D.dJ++[(l,r)],E,[]⟩ (pd++[.ready]) (y++[l]) [] W:=by
 refine⟨by simp[h.len],by simp[h.rX],λn R L A Q P=> ?_,λn H R z x Q P=> ?_,[],rfl,λ_=>rfl,by simpa using⟨by simpa using B,G⟩,λk j=> ?_⟩;by_cases N:n<Y D.dJ;rw[fT N] at Q;rw[fT (by rw[<-h.len];exact N)] at P;obtain⟨i,g,f⟩:=h.dJ n R L A Q P
 grind
 grind [h.len,h.rX]
 by_cases N:n<Y D.dJ;rw[fT N] at Q;by_cases w:H<Y D.dJ;rw[fT w] at P;exact h.inj n H R z x Q P
 grind
 grind
 grind
def ef.pop{l:Nat}{r:Loop}(h:ef F ⟨X::(t++D.out),D.dJ++[(l,r)],E,[]⟩ pd y [] W)(H:D.rd=E):ef F D (pd.take (Y D.dJ)) (y.take (Y D.dJ)) ((X::t).map mS++D.base) W:=by
 obtain⟨M,G,o,B,A⟩:=h.mw;have:M=[]:=by cases M<;>simp at G;rfl
 subst this;have z:=h.len;have m:=h.rX;simp at z;refine⟨bZ,bZ,λn N x w R Q=> ?_,λn v N u q R Q=> ?_,X::t,rfl,λL=>(by rw[H] at L;cases L),B,A⟩;have P:=(dq.1 R).1;rw[pI,aH P] at Q⊢;exact h.dJ n N x w (by rw[fT P];exact R) Q;have P:=(dq.1 R).1;have p:=(dq.1 Q).1;exact h.inj n v N u q (by rw[fT P];exact R) (by rw[fT p];exact Q)
theorem ef.put{r:Loop}(h:ef F D pd y M W)(H:W.heap[X]?=U (.loop r))(G:∀(n R:Nat)(Q:Loop),D.dJ[n]?=U (R,Q)->R≠X)(o:Obj):ef F D pd y M (W.putObj X o):=by
 obtain⟨B,A,z,x,P⟩:=h.mw;refine⟨h.len,h.rX,λn R Q w L v=> ?_,h.inj,B,A,z,x,λd N=>⟨?_,(P d N).2⟩⟩;obtain⟨u,t,q⟩:=h.dJ n R Q w L v;exact⟨u,(uk (G n R Q L)).trans t,q⟩;exact(uk (λe=>by subst e;have:=(P d N).1;rw[H] at this;cases this)).trans (P d N).1
def ef.aex{l:Nat}{r:Loop}(h:ef F D pd y M W)(R:D.dJ[X]?=U (l,r))(z:JA):ef F D (pd.set X z) y M (W.putObj l (.loop (sU r z))):=by
 obtain⟨u,t,q,p,L⟩:=h.mw;have x:X<Y pd:=by rw[<-h.len];exact(dq.1 R).1
 have P:∃H,W.heap[l]?=U (.loop H):=⟨_,(h.dJ X l r pd[X] R (dB x)).2.1⟩;obtain⟨j,P⟩:=P;refine⟨by simp[h.len],by simp[h.rX],λw o H m N Q=> ?_,h.inj,u,t,q,p,λd G=>⟨?_,(L d G).2⟩⟩;rw[yO] at Q;split at Q;rename_i e;subst e;rw[R] at N;cases N;simp at Q;subst Q;obtain⟨B,v,A⟩:=h.dJ X l r pd[X] R (dB x);exact⟨B,avJ (EV P),A⟩;rename_i e;obtain⟨B,v,A⟩:=h.dJ w o H m N Q;exact⟨B,(uk (λk=>by subst k;exact e (h.inj X w _ _ _ R N))).trans v,A⟩;exact(uk (λe=>by subst e;have:=(L d G).1;rw[P] at this;cases this)).trans (L d G).1
def an2{O:aj}{V:ar}:∀(R:ar)(Q l:aq)(A:mL),A.size=Y l->(∀(t:Nat)(X:C),l[t]?=U X->X=.any\/A[t]?=U (X.ai O V))->
  ((R.zip (C.az O V Q)).foldl (λ(N:mL)(x:Nat×Value)=>N.setIfInBounds x.1 x.2) A).size=(J1 R Q l).length/\
  ∀(t:Nat)(X:C),(J1 R Q l)[t]?=U X->X=.any\/((R.zip (C.az O V Q)).foldl (λ(N:mL)(x:Nat×Value)=>N.setIfInBounds x.1 x.2) A)[t]?=U (X.ai O V)
 |[],Q,l,A,P,h=>by simp only[List.zip_nil_left,List.foldl_nil,J1];exact⟨P,h⟩|p::R,[],l,A,P,h=>by simp only[C.az,List.zip_nil_right,List.foldl_nil,J1];exact⟨P,h⟩
 |p::R,v::M,l,A,P,h=>by
  simp only[C.az,En,ab7,J1];refine an2 R M (l.set p v) (A.setIfInBounds p (v.ai O V)) (by simp[P]) (λt X L=> ?_)
  grind
end
section
variable{p:Sp}{cf:bv}
def Ko(bM:Nat->Bool)(X W:Bool):∀(l:qh)(j n i:Nat)(m:OM),(fU bM X W j n l)[i]?=U m->l[i]?=U m.o
 |[],j,n,i,m,h=>by simp[fU] at h|o::r,j,n,0,m,h=>by simp[fU] at h;simp[<-h]|o::r,j,n,i+1,m,h=>by simp[fU] at h;simpa using Ko bM X W r _ _ i m h
def SF(bM:Nat->Bool)(X W:Bool):∀(l:qh)(j n:Nat),(fU bM X W j n l).length=Y l
 |[],j,n=>rfl|o::r,j,n=>by simp[fU,SF bM X W r]
def aey(bM:Nat->Bool)(X W:Bool):∀(l:qh)(j n i:Nat)(m:OM),(fU bM X W j n l)[i]?=U m->m.j=j+i
 |[],j,n,i,m,h=>by simp[fU] at h|o::r,j,n,0,m,h=>by simp[fU] at h;simp[<-h]|o::r,j,n,i+1,m,h=>by simp[fU] at h;have:=aey bM X W r _ _ i m h;omega
def aez(bM:Nat->Bool)(W X:Bool):∀(l:qh)(j n i:Nat)(m:OM),(fU bM W X j n l)[i]?=U m->m.dr=X
 |[],j,n,i,m,h=>by simp[fU] at h|o::r,j,n,0,m,h=>by simp[fU] at h;simp[<-h]|o::r,j,n,i+1,m,h=>by simp[fU] at h;exact aez bM W X r _ _ i m h
structure an3(m m':OM):Prop where
 o:m.o=m'.o
 ix:m.ix=m'.ix
 j:m.j=m'.j
 dr:m.dr=m'.dr
def aeA{V:ar}:∀{l X:cN}{m:OM},m∈vM V X l->∃W∈l,an3 m W
 |[],X,m,h=>by simp[vM] at h
 |x::l,X,m,h=>by
  simp only[vM,eu] at h;rcases h with rfl|h;exact⟨x,aw,rfl,rfl,rfl,rfl⟩;obtain⟨W,R,Q⟩:=aeA h
  grind
def an4{X:ar}:∀{l:cN},CB X l=J->l.Pairwise λx y=>(X.getD y.j 0).testBit x.j=J
 |[],_=>xk
 |x::r,h=>by
  simp only[CB,aC] at h;exact jO.2 ⟨λy W=>gC.1 h.1 y W,an4 h.2⟩
def an5{X:ar}:∀{l W:cN},(l.Pairwise λx y=>(X.getD y.j 0).testBit x.j=J)->(vM X W l).Pairwise λx y=>(X.getD y.j 0).testBit x.j=J
 |[],W,_=>xk
 |x::r,W,h=>by
  obtain⟨V,R⟩:=jO.1 h;refine jO.2 ⟨λy Q=> ?_,an5 R⟩;obtain⟨P,O,N⟩:=aeA Q;rw[N.j];exact V P O
def an6{Q:ar}:∀{l W:cN}(R:cN)(m:OM)(X:cN),vM Q W l=R++m::X->m.so=J->X.Pairwise λx y=>(Q.getD y.j 0).testBit x.j=J
 |[],W,R,m,X,h,_=>by cases R<;>simp[vM] at h
 |x::r,W,[],m,X,h,V=>by
  simp only[vM,du,GD] at h;obtain⟨P,rfl⟩:=h;subst P;simp only[aC] at V;exact an5 (jO.1 (an4 V.1.2)).2
 |x::r,W,z::O,m,X,h,V=>by
  simp only[vM,cU,GD] at h;exact an6 O m X h.2 V
def aeB:∀{l:ar},n9 l=J->l.Pairwise (·≠·)
 |[],_=>xk
 |x::X,h=>by
  simp only[n9,aC,jP] at h;refine jO.2 ⟨λy W e=> ?_,aeB h.2⟩
  grind
def W8:∀{l:cN},n9 (l.filterMap (·.o.dst))=J->l.Pairwise λa b=>∀d,a.o.dst=U d->b.o.dst≠U d
 |[],_=>xk
 |x::V,h=>by
  cases X:x.o.dst with
  |none=>
   simp only[avQ,X] at h;exact jO.2 ⟨λy _ d W=>(by rw[X] at W;cases W),W8 h⟩
  |some d=>
   simp only[avQ,X,n9,aC,jP] at h;refine jO.2 ⟨λy R e W Q=> ?_,W8 h.2⟩
   grind
def an7{X:dF}{W:ar}:∀{l:cN},GS X W l=J->l.Pairwise λx y=>(W.getD y.j 0).testBit x.j=J\/vL X x y=J
 |[],_=>xk
 |x::V,h=>by
  simp only[GS,aC] at h;refine jO.2 ⟨λy R=> ?_,an7 h.2⟩
  grind
def an8{V:dF}:∀{l:cN}{done:ar},GU V done l=J->(∀m∈l,V[m.j]?=U m.o)->∀X m W,l=X++m::W->∀e∈jq m.o,e∈done\/∃x∈X,x.j=e
 |[],done,_,_,X,m,W,h=>by cases X<;>simp at h
 |x::l,done,R,Q,X,m,W,h=>by
  simp only[GU,aC] at R;intro e P;cases X with
  |nil=>
   grind
  |cons z O=>
   simp at h;obtain⟨rfl,h⟩:=h;rcases an8 R.2 (λm N=>Q m (by simp[N])) O m W h e P with M|⟨y,L,M⟩
   grind
   grind
def an9{X:dF}(h:VW X.toList t=J):NB X t:=by
 have V:∀(j:Nat)(o:Oper),X[j]?=U o->(∀e∈jq o,e<j)/\∀i,i<X.size->(t.getD j 0).testBit i=J->i∈jq o\/∃e∈jq o,(t.getD e 0).testBit i=true:=by
  intro j o W;have R:j<X.size:=(lH.1 W).1;have Q:=gC.1 h j (by simpa using R)
  grind
 exact⟨λj o W=>(V j o W).1,λj o W=>(V j o W).2⟩
theorem xL(X:ar):∀(l:aq)(n i:Nat),(uz X n l)[i]?=(l[i]?).map λx=>if X.contains (n+i) then .any else x
 |[],n,i=>by simp[uz]|x::W,n,0=>by simp[uz]
 |x::W,n,i+1=>by
  simp only[uz,vz];rw[xL X W (n+1) i,show n+1+i=n+(i+1) from ae]
def NG(X:ar):∀(l:aq)(n:Nat),(uz X n l).length=Y l
 |[],n=>rfl|x::W,n=>by simp[uz,NG X W]
def aoa:∀{l:qh}{o:Oper}{t:TypeId},CD cf l=J->o∈l->o.op=.alloc t->JZ cf t=J
 |[],o,t,_,h,_=>by simp at h
 |x::V,o,t,h,X,W=>by
  simp only[CD,aC] at h;rcases eu.1 X with rfl|X
  grind
  exact aoa h.2 X W
def aeC:∀{l:cN},n9 ((l.filter λm=>gT m.o.op).map (·.ix))=J->l.Pairwise λa b=>gT a.o.op=J->gT b.o.op=J->a.ix≠b.ix
 |[],_=>xk
 |x::R,h=>by
  by_cases X:gT x.o.op=J;rw[List.filter_cons_of_pos (by simpa using X),dG,n9,aC] at h;refine jO.2 ⟨λy W _ Q e=> ?_,aeC h.2⟩
  grind
  rw[List.filter_cons_of_neg (by simpa using X)] at h;exact jO.2 ⟨λy W V=>bE V X,aeC h⟩
def ayU(bM:Nat->Bool)(X W:Bool)(V:bm):∀(l:qh){i:Nat}{m:OM},gT m.o.op=J->(fU bM X W 0 (Y V) l)[i]?=U m->gt (V++ee (mP l) Z) m.ix=true:=by
 have R:∀(l:qh)(j n i:Nat)(m:OM),gT m.o.op=J->(fU bM X W j n l)[i]?=U m->n<=m.ix/\m.ix<n+mP l:=by
  intro l;induction l with
  |nil=>intro j n i m _ h;simp[fU] at h
  |cons o r Q=>
   intro j n i m P h;have O:mP (o::r)=(if gT o.op then 1 else 0)+mP r:=by
    grind [mP]
   cases i with
   |zero=>
    grind [fU,Ju]
   |succ i=>
    grind [fU]
 grind [gt]
abbrev aob(p:Sp)(cf:bv)(D:bT)(x:YH)(L:dm)(n:Nat)(B:aq)(s:S)(k A:C->S->T)(O:aj)(V:ar)(a:Act)(W:World)(G:Ending->World->Prop):Prop:=
  (x n B s k A).aN p O L->aA p.S0 p.w0 D cf.ty V O s a W->eC cf.gl O->
  (∀v N X M Q H,bB s O V N X M->cT s.ax L H->aA p.S0 p.w0 D cf.ty M X N a Q->(k v N).aN p X H->G (.returned (v.ai X M)) Q)->
  (∀v N X M Q H,bB s O V N X M->cT s.ax L H->aA p.S0 p.w0 D cf.ty M X N a Q->(A v N).aN p X H->G (.panicked [{v:=v.ai X M,recovered:=E}]) Q)->
  (∀z Q w y,ef p.w0 D w y a.defers Q->p.R (.panicked z) Q->G (.panicked z) Q)->
  ∀(F:Fence)(_:qB F)(m:Nat),YieldAt F m p.P (O.y.getD n 0) (C.az O V B).toArray W G
def qC(p:Sp)(cf:bv)(X:List (Nat×Loop))(B:jH)(R:YH):Prop:=
 ∀(D:bT)(_:X<+:D.dJ)(L:dm)(n:Nat)(Q:aq)(s:S)(k P:C->S->T)(O:aj)(V:ar)(a:Act)(W:World)(N:Ending->World->Prop),B.lM s (O.at (O.y.take (Y X))) V L->aob p cf D R L n Q s k P O V a W N
def ayV{D:bT}{Q:Ty}{V:ar}{a:Act}{W:World}(X:aA t e D Q V x R a W):x.at (x.y.take (Y D.dJ))=x:=by
 rw[Jp (by rw[X.dh.rX,<-X.dh.len];exact cd _)];cases x;rfl
def qC.use{D:bT}{B:jH}{X:YH}(M:qC p cf D.dJ B X){L:dm}{n:Nat}{Q:aq}{s:S}{k P:C->S->T}{O:aj}{V:ar}{a:Act}{W:World}{N:Ending->World->Prop}(H:B.lM s O V L):aob p cf D X L n Q s k P O V a W N:=
 λh R=>M D (List.prefix_refl _) L n Q s k P O V a W N (by rw[ayV R];exact H) h R
def E8(X:List (Nat×Loop))(B:jH):qC p cf X B iB:=λ_ _ _ _ _ _ _ _ _ _ _ _ _ _ h=>h.elim
def aod{F:Fence}(hF:qB F)(ok:jd p cf){n:Nat}{pc:vN}(a0:NA p cf pc){D:bT}{B:jH}{yh:YH}(hY:qC p cf D.dJ B yh){Q:Exit->Act->World->Prop}(HP:∀ch l A pd y,ef p.w0 D pd y l.defers A->p.R (.panicked ch) A->Q (.panic ch) l A){G:dF}{u:cN}{a:Act}{L:dm}{k:XE->S->T}(hB:B.lM R x t L)
  (aa:EG G (Y R.au)=U u)(a1:CD cf G.toList=J)(a3:CX G pc)(h:(lJ cf (uA cf pc yh) G (k .normal) (λv=>k (.bp v)) u (R.vO G u) []).aN p x L)(X:aA p.S0 p.w0 D cf.ty t x R a e)(hg:eC cf.gl x)
  (hk:∀r z g l A f,bB R x t r z g->cT R.ax L f->aA p.S0 p.w0 D cf.ty g z r l A->(k .normal r).aN p z f->Q .normal l A)
  (a4:∀v r z g l A f,bB R x t r z g->cT R.ax L f->aA p.S0 p.w0 D cf.ty g z r l A->(k (.bp v) r).aN p z f->Q (.panic [{v:=v.ai z g,recovered:=E}]) l A):
  wpAnyIn F n p.P .any G Q G.size (QT G.size E) a {e with drawn:=e.drawn+1}:=by
 unfold EG at aa;simp only at aa;split at aa;rename_i hc;simp only[aC,ge] at hc;obtain⟨⟨⟨⟨⟨⟨⟨c1,c2⟩,c3⟩,c4⟩,c5⟩,c8⟩,c6⟩,c7⟩:=hc;simp at aa;rw[aa] at c2 c3 c4 c5 c6 c7 c8;have af:∀m∈u,∃(i:Nat)(m':OM),(fU (Rm G.toList (qo G.toList)) E J 0 (Y R.au) G.toList)[i]?=U m'/\an3 m m':=by
  intro m q;rw[<-aa] at q;obtain⟨m',h1,h2⟩:=aeA q
  grind [MC]
 have ag:∀m∈u,G[m.j]?=U m.o:=by
  intro m q;obtain⟨i,m',c,w⟩:=af m q;have h1:=Ko _ _ _ _ _ _ _ _ c;have h2:=aey _ _ _ _ _ _ _ _ c;rw[w.j,w.o,h2,jm];simpa using h1
 have hW:Sx G (qo G.toList) (QT G.size E) u:=by
  refine⟨ag,λi c=> ?_,aw,λj o ho hj=> ?_,an7 c3,λxs m ys he N hd=> ?_, ?_,W8 c4,λxs m ys he a9=>an6 xs m ys (aa.trans he) a9⟩;constructor;intro _;have:=gC.1 c7 i (by simpa using c)
  grind
  intro _;simp[c];exfalso;have ba:j<G.size:=(lH.1 ho).1;simp[ba] at hj;rcases an8 c2 ag xs m ys he N hd with h1|h1;cases h1
  grind
  have:=aeB c5
  grind
 obtain⟨Rr,ac⟩:=X.room (mP G.toList);have Rb:aA p.S0 p.w0 D cf.ty (t++ee (mP G.toList) 0) x (R.vO G u) a {e with drawn:=e.drawn+1}:=by
  have Rd:=Rr.drew;refine⟨Rd.mem,Rd.gE,Rd.ei,Rd.eb,Rd.er,Rd.dh,by simp only[S.vO,NG];exact Rr.size,λM sv b=> ?_,Rd.eL⟩;simp only[S.vO] at b;rw[xL,jm] at b;cases hx:R.tmps[M]? with
  |none=>rw[hx] at b;cases b
  |some H=>
   rw[hx] at b;simp only[gc,dW] at b;split at b
   grind
   subst b;exact Rd.tmps M H hx
 have al:bB R x t (R.vO G u) x (t++ee (mP G.toList) 0):=⟨ac.ext,ac.mono,ac.len,ac.ax⟩;refine ayF a3 a0 hF ok HP (an9 c1) (Kn:=Hl p (k .normal)) (Kp:=E1 p (λv=>k (.bp v))) (Yp:=E2 p cf G pc yh (k .normal) (λv=>k (.bp v))) (s0:=R.vO G u) (O0:=x) (V0:=t++ee (mP G.toList) 0) (L0:=L)
  (λr z g l A f hl hL R' w=>hk r z g l A f (al.trans hl) hL R' w) (λv r z g l A f hl hL R' w=>a4 v r z g l A f (al.trans hl) hL R' w)
  ?_
  G.size _ u (R.vO G u) x _ a _ L c6 hW (λm q=>by
   obtain⟨i,m',c,w⟩:=af m q;rw[w.dr];exact aez _ _ _ _ _ _ _ _ c) (λm q M b=> ?_) (aeC c8) (.inl ⟨λm q bb=> ?_, ?_⟩) (bB.refl _ _ _) (cT.refl _ _) Rb hg ?_
 intro L2 m bc s2 O2 V2 a2 W2 yn b3 R' hl hL R2 bf bg bk bl br mm;obtain⟨bs,fx,bt,bx⟩:=bg;refine hY.use (hB.go (al.trans hl) hL) bx R2 bf (λv r z g A f an b0 Rn w=> ?_) bl br F hF mm;refine bk v r z g A f an b0 Rn ?_;have ab:=gh r m.o.dst v;refine Kj ok.pt bc _ _ z (by rw[ab.1];exact Rn.ei) (by rw[ab.2.1];exact Rn.eb) (by rw[ab.2.2];exact Rn.er) w ?_ bs;intro H hx;obtain⟨b1,b4⟩:=qg.1 hx;obtain⟨hd,ce⟩:=bt H b1;have hE:=an.ext;refine⟨by rw[BE.eh hE.agree _ (by rw[R2.ei,R2.eb,R2.er];exact ce)];exact hd, ?_⟩;rw[ab.1,ab.2.1,ab.2.2,<-Rn.ei,<-Rn.eb,<-Rn.er];exact BE.ey (by rw[<-R2.ei];exact hE.li) (by rw[<-R2.eb];exact hE.lb) (by rw[<-R2.er];exact hE.lr) _ ce;have h1:=ag m q;exact aoa a1 (jA (show G.toList[m.j]?=U m.o by simpa using h1)) b;obtain⟨i,m',c,w⟩:=af m q;rw[w.ix];exact ayU _ _ _ R.au _ (by rw[<-w.o];exact bb) c;intro m q d hd;have b2:d∈GV (u.dropLast.map (·.o)):=QQ.2 ⟨m.o,fw.2 ⟨m,q,rfl⟩,hd⟩;unfold zu;simp only[S.vO];rw[xL,jm];cases hx:R.tmps[d]? with
 |none=>exact .inl rfl
 |some H=>
  right;by_cases hb:(alf R (GV (u.dropLast.map (·.o)))).contains d=J
  grind [C.bj]
  refine⟨H,by simp only[gc,hb];rfl, ?_⟩;have ce:H.bd R.ni R.nb (Y R.rs) (aK R.au)=true:=by
   cases hh:H.bd R.ni R.nb (Y R.rs) (aK R.au);exfalso;apply hb;exact Jq.2 (qg.2 ⟨b2,by simp[hx,hh]⟩);rfl
  exact C.ey (cd _) (cd _) (cd _) ac.mono _ ce
 refine Kj ok.pt u _ [] x Rb.ei Rb.eb Rb.er h (λH hx=>by cases hx) (λm q=> ?_);obtain⟨i,m',c,w⟩:=af m q;rw[w.dr];exact aez _ _ _ _ _ _ _ _ c;cases aa
def A8(p:Sp)(cf:bv)(n:Nat):Prop:=
 ∀(D:bT)(B:jH)(z:YH)(H:cG)(G:FuncId)(c:Code)(s:S)(k:XE->S->T)(L:dm)(O:aj)(V:ar)(a:Act)(W:World)(Q:Exit->Act->World->Prop),
  qC p cf D.dJ B z->B.lM s O V L->D.rd=H.isSome->(H.isSome=J->kH c=E)->(∃v,p.P.funcs[G]?=U v)->
  (fO cf n G c s z k).aN p O L->aA p.S0 p.w0 D cf.ty V O s a W->eC cf.gl O->
  (∀x N X u y,ef p.w0 D u y N.defers X->p.R (.panicked x) X->Q (.panic x) N X)->
  (∀e F M A N X w,bB s O V F M A->cT s.ax L w->aA p.S0 p.w0 D cf.ty A M F N X->(k e F).aN p M w->Q (e.to M A) N X)->
  jQ H G p.P c Q a W
def W9(p:Sp)(cf:bv)(n:Nat):Prop:=
 ∀(D:bT)(B:jH)(z:YH)(G:cG)(M:FuncId)(x:Code)(s:S)(k:XE->S->T)(L:dm)(O:aj)(V:ar)(a:Act)(W:World)(Q:Exit->Act->World->Prop),
  qC p cf D.dJ B z->B.lM s O V L->D.rd=G.isSome->(G.isSome=J->kH x=E)->(∃u,p.P.funcs[M]?=U u)->
  (∀t,(Code.first x).map (cf.loop M)≠U (.inv t))->
  (fO cf n M (.loop x) s z k).aN p O L->aA p.S0 p.w0 D cf.ty V O s a W->eC cf.gl O->
  (∀w N X r y,ef p.w0 D r y N.defers X->p.R (.panicked w) X->Q (.panic w) N X)->
  (∀e F H A N X v,bB s O V F H A->cT s.ax L v->aA p.S0 p.w0 D cf.ty A H F N X->(k e F).aN p H v->Q (e.to H A) N X)->
  SA G M p.P x Q n a W
def ayW{F:Fence}(j:qB F)(o:jd p cf){r:vN}(i:NA p cf r){D:bT}{B:jH}{m:YH}(g:qC p cf D.dJ B m){Q:Exit->Act->World->Prop}(HP:∀l H M f y,ef p.w0 D f y H.defers M->p.R (.panicked l) M->Q (.panic l) H M){z:dF}{id:Nat}{q:cN}{a:Act}{L:dm}{k:XE->S->T}(d:B.lM R x t L)
  (c:EG z (Y R.au)=U q)(b:CD cf z.toList=J)(aa:CX z r)(h:(lJ cf (uA cf r m) z (k .normal) (λv=>k (.bp v)) q (R.vO z q) []).aN p x L)(N:aA p.S0 p.w0 D cf.ty t x R a e)(hg:eC cf.gl x)
  (hk:∀A G w H M u,bB R x t A G w->cT R.ax L u->aA p.S0 p.w0 D cf.ty w G A H M->(k .normal A).aN p G u->Q .normal H M)
  (ab:∀v A G w H M u,bB R x t A G w->cT R.ax L u->aA p.S0 p.w0 D cf.ty w G A H M->(k (.bp v) A).aN p G u->Q (.panic [{v:=v.ai G w,recovered:=E}]) H M):
  (Code.region id z J).wpIn F X p.P Q a e:=
 wpIn_region_any o.WT (aod j o i g HP d c b aa h N hg hk ab)
def ayX(c:A8 p cf X)(b:W9 p cf X):W9 p cf (X+1):=by
 intro D B m q o x s k L O V a W Q l j i g f aa h R d HP F;unfold fO at h;simp only at h;show jQ q o p.P x _ a W;refine c D B m q o x s _ L O V a W _ l j i g f h R d (λch M H pd y hd hR=>HP ch M H pd y hd hR) ?_;intro e A z w M H u N G t r;cases e with|normal=>exact b D B m q o x A k u z w M H Q l (j.go N G) i g f aa r t (d.ext N.ext) HP (λe2 s2 O2 V2 a2 W2 L2 ab ac R2 af=>F e2 s2 O2 V2 a2 W2 L2 (N.trans ab) (G.trans ac N.ax) R2 af)|ret=>exact F .ret A z w M H u N G t r|exit id=>exact F (.exit id) A z w M H u N G t r|bp v=>exact F (.bp v) A z w M H u N G t r
def aA.back{D w:bT}{V M:ar}{N:aj}{G L:S}{a v:Act}{W H:World}(X:aA t e D cf.ty V x R a W)(u:R.bd=J)
  (r:bB G x V L N M)(q:G.au=R.au)(P:aA t e w cf.ty M N L v H){D2:bT}{a2:Act}{F:vD}(B:a2.tmps=a.tmps)(o:ef e D2 F N.y a2.defers H):aA t e D2 cf.ty M N {L with tmps:=R.tmps,pd:=F} a2 H:=by
 obtain⟨n,-⟩:=X.zo u;refine⟨P.mem,P.gE,P.ei,P.eb,P.er,o,by rw[B];exact X.size,λQ m h=> ?_,P.eL⟩;rw[B];rcases X.tmps Q m h with A|A
 grind
 right;have z:=r.ext;rw[q] at z;rw[z.ai (xE n h)];exact A
def aA.enter{D N:bT}{V:ar}{a:Act}{W:World}(X:aA t e D cf.ty V x R a W)(P:aq)(n:Nat)(L:ef e N R.pd x.y [] W):
  aA t e N cf.ty V x {R with tmps:=P++ee (n-Y P) (.bI [])} {tmps:=(C.az x V P).toArray++QT (n-(C.az x V P).toArray.size) undef,defers:=[]} W:=by
 refine⟨X.mem,X.gE,X.ei,X.eb,X.er,L,aw,λQ G h=> ?_,X.eL⟩;right;simp;by_cases M:Q<Y P;rw[fT M] at h;rw[aIC (by simpa using M)];simp[uC,h];rw[jl ae,Vh] at h;split at h;rename_i H;cases h;rw[Array.getElem?_append_right bZ];simp only[Me,MP,aIG];rw[aH H];rfl;cases h
def Kq(N:jd p cf)(hC:A8 p cf X){D:bT}{B:jH}{yh:YH}(hY:qC p cf D.dJ B yh):Sf p cf D B (kq cf (λf c s k=>fO cf X f c s yh k) yh):=by
 intro L g0 x s k kp O V a W w G h R A i ab b;cases g0 with
 |yl yn=>exact λF hF m=>hY.use G h R A i ab b F hF m
 |fn g=>
 unfold kq at h;simp only at h;split at h;rename_i c nt rs aa;refine⟨N.zr g (.inr (by rw[aa];rfl)), ?_⟩;split at h;rename_i hb;simp only[S.eW,aC] at hb;obtain⟨fn,hf,af,ag,bY⟩:=N.inl g c nt rs aa;refine Kl hf af ?_;obtain⟨ms,m1,m0,m2,m3⟩:=R.dh.mw;have RE:=R.enter x nt (R.dh.enter m2 m3 E);rw[<-ag] at RE h;have al:B.lM {s with tmps:=x++ee (fn.ntmps-Y x) (.bI [])} O V L:=⟨⟨G.later.ext,G.later.mono,G.later.len,G.later.ax⟩,G.Kg⟩;refine hC ⟨ms++D.out,D.dJ,E,[]⟩ B yh Z g c _ _ L O V _ W _ hY al rfl (λhh=>by cases hh) ⟨fn,hf⟩ h RE A ?_ ?_;intro ch M o pd y hA hR;obtain⟨an,z,q0,j,u⟩:=hA.mw;rw[z] at hA;have t:=(hA.ri).ND m0;rw[<-m1] at t;show LeavesInM Fence.wide 0 p.P fn M.tmps w M.defers (.panicking ch) o;rw[z];exact sa aw (xl.1 j).1 (λd H=>(u d (by simp[H])).1) (b ch _ pd y t (SE (N.WU ch) (λd H=>(u d (by simp[H])).2) hR));intro e s' O' V' M o L' r hL RR Q;have a0:bB s O V {s' with tmps:=s.tmps} O' V':=⟨r.ext,r.mono,r.len,r.ax⟩;obtain⟨an,z,q0,j,u⟩:=RR.dh.mw;have R2:=RR.ri z;have t:=R2.dh.ND m0;rw[<-m1] at t;have RB:=R.back hb.1 r rfl R2 (D2:=D) (a2:=a) rfl t;have ac:∀l,uw cf s' rs=U l->(k (one l) {s' with tmps:=s.tmps}).aN p O' L'->LeavesInM Fence.wide 0 p.P fn M.tmps w M.defers .returning o:=by
  intro l q Q;rw[z];refine sa aw (xl.1 j).1 (λd H=>(u d (by simp[H])).1) ⟨_,Kh R2 N.kK (by rw[bY];exact q), ?_⟩
  grind
 cases e with
 |normal=>
  simp only[MD] at Q;split at Q;rename_i l q;exact ac l q Q;exact Q.elim
 |ret=>
  simp only[MD] at Q;split at Q;rename_i l q;exact ac l q Q;exact Q.elim
 |bp v=>
  show LeavesInM Fence.wide 0 p.P fn M.tmps w M.defers (.panicking _) o;rw[z];exact sa aw (xl.1 j).1 (λd H=>(u d (by simp[H])).1) (ab v _ O' V' _ L' a0 hL RB Q)
 |exit id=>exact Q.elim
 exact h.elim;rename_i aa;split at h;exact axZ N.pt (λg A=>N.zr g (.inl A)) D L g _ x s k O V a W w h R i;exact amZ N.pt (λg A=>N.zr g (.inl A)) D L g x s k O V a W w h R i b
def ayY(b:Bool)(H:jd p cf){D:bT}{B:jH}{G:qj}(F:Sf p cf D B G):Sf p cf D B (acA b cf G):=by
 intro L x Q s k A O V a W P z h R X N y M;cases x with
 |yl w=>exact F L (.yl w) Q s k A O V a W P z h R X N y M
 |fn g=>
  cases b with|false=>exact F L (.fn g) Q s k A O V a W P z h R X N y M|true=>exact amZ H.pt (λg X=>H.zr g (.inl X)) D L g Q s k O V a W P h R N M
end
