/- Part 2. -/
import Derived.Test.YtjnmghiggfgjlaaGreatDoorV1
import Derived.Maps.RangeRun
import Derived.RangeFuncSeq
import Derived.StillTailTactics
import Derived.RangeFuncIn
import Derived.RangeFuncLeaves
import Derived.LoopNIn
import Derived.LoopIn
set_option linter.all false
set_option maxRecDepth 100000
set_option maxHeartbeats 100000000
open Bool renaming and_eq_true->aC,not_eq_true'->jP,false_eq_true->jX,or_eq_true->lg,or_eq_false_iff->yU,and_self->Ci,eq_iff_iff->Jy,not_eq_false->Ml,true_and->Ms,and_true->VL,or_eq_true_iff->avV,true_eq_false->aI7,true->J,false->E
open Nat renaming le_refl->cd,zero_add->jk,blt->kq,le_trans->mc,zero_le->rN,add_zero->yZ,le_of_eq->GI,testBit_or->Jz,lt_of_lt_of_le->QR,strongRecOn->QU,add_sub_cancel_left->Vw,lt_succ_self->ak2,testBit_shiftLeft->avR
open List renaming cons_append->cJ,nil_append->da,range->di,getElem?_eq_some_iff->dq,getElem?_eq_getElem->dG,map_cons->dH,getD_eq_getElem?_getD->dM,getElem?_map->et,replicate->eu,mem_append->fg,mem_cons->fh,mem_map->fw,getElem?_append_left->f8,length_append->f9,all_eq_true->gz,getElem?_append_right->ji,mem_of_getElem?->jz,pairwise_cons->jO,map_congr_left->kF,ext_getElem?->kU,any_eq_true->nA,pairwise_append->oB,map_nil->oC,length_cons->oV,length_map->oW,map_map->oX,length_eq_one_iff->pK,getElem?_take->qg,mem_filter->qh,getElem?_of_mem->sK,mem_range->sL,eq_nil_of_length_eq_zero->ui,getElem?_cons_succ->vC,nodup_append->xp,getElem?_drop->yV,getElem?_set->yW,range'->zd,mem_cons_of_mem->AH,drop_eq_getElem_cons->Cb,getElem?_cons_zero->Cc,getElem?_set_ne->Cd,length_drop->Cf,getElem?_eq_none_iff->El,length_eq_zero_iff->Em,mem_of_mem_drop->En,mem_append_left->Eo,getElem?_range->Ep,zip_cons_cons->Es,nodup_cons->Et,mem_of_mem_take->GD,map_append->GH,take_of_length_le->Jt,contains_iff_mem->Ju,take_append_drop->Jv,mem_or_eq_of_mem_set->Mi,size_toArray->Mn,length_take->Mo,append_nil->Mq,mem_filterMap->QS,mem_of_find?_eq_some->Vu,getElem?_replicate->Vv,range_eq_range'->Vy,mem_singleton->VB,mem_cons_self->VC,all_cons->VJ,drop_of_length_le->acb,replicate_one->aci,range'_succ->acj,find?_some->ack,of_mem_zip->acl,getElem?_set_self->akS,sublist_cons_self->akT,mem_append_right->akV,map_set->ak6,take_append_of_le_length->avL,drop_append_of_le_length->avM,getElem?_zip_eq_some->avN,drop_eq_nil_of_le->avO,mem_erase_of_ne->avU,filterMap_cons->avW,foldl_cons->av9,length_set->awd,mapM_cons->awj,any_map->awo,Sublist->awp,dropLast_append_of_ne_nil->aIH,append_eq_append_iff->aIM,append_cancel_right->aIN,dropLast_sublist->aIU,getElem?_append->aIX,set_cons_zero->aI6,append_of_mem->aI8,length->Y
open Go.Result renaming andThen_ok->du
open Go.Sem renaming run_bind->dv,run_pure->fu
open Option renaming map_some->ga,isSome_iff_exists->jy,getD_some->yX,isNone_iff_eq_none->akQ,bind_some->ak0,getD_none->av7,some->U,none->Z
open Go.Op renaming operands->im,equalIn->Eu,equal->GJ
open Array renaming getElem?_eq_some_iff->lF,ext'->nD,toList_map->yY,getElem?_eq_getElem->Mh,replicate->QW,getElem?_setIfInBounds_ne->aIG,getElem?_append_left->aIK,mapM_eq_mapM_toList->aIL,getElem?_replicate->aIO,mem_toList_iff->aIY,mem_filter->aJf
open Go.Region renaming wanted->lG,ready->um,binds->awn
open Go.World renaming cell?->oD,putObj_heap_other->uj,putObj->Mt,putObj_heap_same->avP
open Int renaming toNat_natCast->rM
open List.Pairwise renaming nil->xo
open Go.Oper renaming semAt_eq->AI,uponIn_enter->VD,uponIn_round->av3
open Go.Call renaming operands->Ch
open List.cons renaming injEq->GG
open Option.some renaming injEq->Jx
open Prod.mk renaming injEq->JA
open List.Sublist renaming append->akW,refl->akY
open Go.IntKind renaming i64->I
namespace Go.Proofs.YtjnmghiggfgjlaaGreatDoor.Y
open Go.RowKit
noncomputable section
variable{v:TypeId}{h:aq}{X:Nat}{x:aj}{t:ar}{e:World}{R:S}{b:OM}{r:C}{l:Oper}
section
variable{c:ar}{q:World}{D:bT}{P:Program}{f:bv}{V:ar}{O:aj}{s:S}{a:Act}{W:World}
def amu{X:Type}(l:List X)(x y:X):(l++[x]).set (Y l) y=l++[y]:=by
 induction l with|nil=>rfl|cons z Q R=>simp[R]
theorem aA.AO(R:aA c q D f.ty V O s a W)(L:s.bd=J){t:TypeId}{X:aq}(v:C.dP s.ni s.nb (Y s.rs) (aJ s.au) X=J):
  aA c q D f.ty (V++[W.heap.size]) O (s.AO (t,X)) a (W.alloc (j5 t (C.bL O V X)))/\bB s O V (s.AO (t,X)) O (V++[W.heap.size]):=by
 obtain⟨H,u⟩:=R.room 1;have r:(s.room 1).au.length=Y s.au+1:=by simp[S.room]
 have G:gr (s.room 1).au (Y s.au)=true:=by simp[gr,S.room]
 have ce:(s.room 1).eV X=true:=by
  simp only[S.eV,S.bd,aC] at L⊢;have p:aJ (s.room 1).au=aJ s.au:=by
   grind [aJ,bS,S.room,aci]
  have o:∀Q,C.rQ s.ni s.nb (Y s.rs) Q (s.au++[Z])=C.rQ s.ni s.nb (Y s.rs) Q s.au:=by
   intro Q;generalize s.au=l;induction l with|nil=>rfl|cons x n F=>cases x<;>simp[C.rQ,F]
  grind [S.room,aci]
 have N:=H.alloc G t X ce;have B:(V++eu 1 0).set (Y s.au) W.heap.size=V++[W.heap.size]:=by
  rw[<-R.gC,aci];exact amu _ _ _
 have A:C.bL O (V++eu 1 0) X=C.bL O V X:=by
  apply alI
  grind [ad,aci]
 rw[B,A] at N;have z:({((s.room 1).cX (Y s.au) t X) with lk:=s.lk}:S)=s.AO (t,X):=by
  simp only[S.cX,S.room,S.AO,aci,amu]
 have M:=N.lk s.lk;rw[z] at M;refine⟨M,⟨⟨ja.refl _ _ _ _,cd _,cd _,cd _,λk y=> ?_⟩,λi m=> ?_,by simp[S.AO],cd _⟩⟩;have:k<Y V:=by
  obtain⟨b,w⟩:=jy.1 y;rw[R.gC];exact(dq.1 (ky.1 w)).1
 grind [ad]
 grind [aJ,bS,S.AO]
def aA.WM(R:aA c q D f.ty V O s a W){i:Nat}{Q:TypeId}{y cs':aq}(N:bP s.au i=U (Q,y)):
  aA c q D f.ty V O (s.cX i Q cs') a (W.putObj (ad V i) (j5 Q (C.bL O V cs'))):=by
 have x:=R.mem.box i Q y N;have u:ad V i<W.heap.size:=EY x;have w:i<Y s.au:=(dq.1 (ky.1 N)).1;have L:aJ s.au i=true:=by simp[aJ,N]
 have H:∀j,aJ (s.au.set i (U (Q,cs'))) j=J->aJ s.au j=true:=λj X=>by
  rcases(qB w).1 X with rfl|h;exact L;exact h
 have G:∀b,b≠ad V i->(W.putObj (ad V i) (j5 Q (C.bL O V cs'))).heap[b]?=W.heap[b]?:=λb h=>uj h
 refine⟨⟨⟨R.mem.base.os,R.mem.base.tape,R.mem.base.output,by simpa[Mt] using R.mem.base.size,λk F r=> ?_⟩,λj X=>R.mem.own j (H j X),λj k X F=>R.mem.inj j k (H j X) (H k F),λj M p X=> ?_,λk e B n m=> ?_⟩,by simpa[S.cX] using R.gC,R.ei,R.eb,R.er,R.dl.axb (λb o A l=> ?_),R.size,R.tmps,λk e B b g d q3=> ?_⟩;have aa:k≠ad V i:=by
  rintro rfl;rcases R.mem.own i L with h|h;omega
  grind
 rw[G k aa];exact R.mem.base.block k F r;by_cases z:j=i;subst z;rw[S.cX,E1 w] at X;simp at X;obtain⟨rfl,rfl⟩:=X;exact avP u;rw[S.cX,xJ z] at X;rw[G _ (λh=>z (R.mem.inj j i (by simp[aJ,X]) L h))];exact R.mem.box j M p X;obtain⟨ab,v⟩:=R.mem.ak k e B n m;exact⟨ab.Kb (λb N=>G b (λh=>v b N i L h.symm)) aw,λb N j X=>v b N j (H j X)⟩;rw[G b (λe=>by subst e;rw[x] at A;cases A;exact ama l _ _ rfl)];exact A;have t:=R.eN k e B b g d q3;have M:=t.world (W':=W.putObj (ad V i) (j5 Q (C.bL O V cs'))) (G b (λh=>t.box i L h.symm));exact⟨M.own,M.mem,λj X=>M.box j (H j X),M.alone,M.inner⟩
def aA.adS(R:aA c q D f.ty V O s a W){i:Nat}{cs':aq}(X:bP s.au i=U (v,h))(_:∀Q N M,j5 v (C.bL O V h)≠ .cells Q N M):
  aA c q D f.ty V O (s.cX i v cs') a (W.putObj (ad V i) (j5 v (C.bL O V cs'))):=R.WM X
def A5(L:bA)(X:Value×Value):uq->uq
 |[]=>[X]|p::r=>if zv p.1=L then X::r else p::A5 L X r
theorem amv:∀{l:uq}{m:Nat}{p:Value×Value},gA m (l++[p])=gA m l++[⟨p.1,p.2,m+Y l⟩]
 |[],m,p=>by simp[gA]
 |x::r,m,p=>by
  simp only[cJ,gA,amv (l:=r) (m:=m+1) (p:=p)];simp;omega
def amw{L:bA}{kv:Value×Value}:∀{l:uq}{m i:Nat},
  (pm L (gA m l) i=Z/\A5 L kv l=l++[kv])\/∃j v p,pm L (gA m l) i=U (i+j,v)/\(gA m l)[j]?=U ⟨p.1,p.2,m+j⟩/\p∈l/\zv p.1=L/\(A5 L kv l).length=Y l/\gA m (A5 L kv l)=(gA m l).modify j λe=>{e with key:=kv.1,val:=kv.2}
 |[],m,i=>.inl ⟨rfl,rfl⟩
 |p::r,m,i=>by
  simp only[gA,pm,A5];by_cases h:zv p.1=L;right;rw[aH h,aH h];exact⟨0,p.2,p,rfl,rfl,aw,h,aw,by simp[gA]⟩;rw[aS h,aS h];rcases amw (l:=r) (m:=m+1) (i:=i+1) with⟨X,R⟩|⟨j,v,Q,X,R,N,M,H,G⟩;exact .inl ⟨X,by rw[R];rfl⟩;refine .inr ⟨j+1,v,Q,by rw[X];congr 2;omega,by simp only[vC,R];congr 2;omega,by simp[N],M,by simp[H], ?_⟩;simp only[gA,G,List.modify_succ_cons]
theorem axv(X:Bool)(l:bA):Instr.sameBits 10000 (gR X l) (gR X l)=true:=by
 cases X;simp[gR,Instr.sameBits];show Instr.sameBits (9999+1) (.agg _) (.agg _)=J;simp only[Instr.sameBits,beq_self_eq_true,Ms,gz]
 grind [Es,Instr.sameBits]
def amx{k e:TypeId}{N:Bool}(A:P.underlying v=U (.map k e))(H:vW P k X N){b:Nat}{l:uq}(G:W.heap[b]?=U (rg l)){L:bA}(z:Y L=X)
  (y:∀p∈l,∃Q:bA,Y Q=X/\p.1=gR N Q)(R:Value):
  (Instr.mapUpdate v (.map (U b)) (gR N L) R).run P W=.ok () (W.putObj b (rg (A5 L (gR N L,R) l))):=by
 have r:∀x∈gA 0 l,∃Q:bA,Y Q=X/\x.key=gR N Q:=λx q=>by
  obtain⟨p,M,F⟩:=adu q
  grind
 obtain⟨h,g⟩:=H.2 L (gA 0 l) W z r;have f:=MapKept.run_getObj_map (P:=P) (w:=W) G;have hs:=λo=>MapKept.run_setObj_map (P:=P) (w:=W) o G
 simp only[Instr.mapUpdate,dv,eX.gX A,du,f,h,g];rcases amw (L:=L) (kv:=(gR N L,R)) (l:=l) (m:=0) (i:=0) with⟨M,F⟩|⟨j,u,p,M,F,d,B,h5,h6⟩
 grind [Mt,rg,amv]
 rw[M];obtain⟨Q,c,q2⟩:=y p d;have hl:Q=L:=by
  rw[q2,ads (λe=>c.trans (H.1 e))] at B;exact B
 subst hl;have aa:(((gA 0 l).toArray[0+j]?).map (·.key)).getD (gR N Q)=gR N Q:=by
  grind
 simp only[jk] at aa⊢
 grind [Instr.keyThatStays,axv,fu,du,dv,Mt,rg]
end
def vZ(O:aj)(X:Fx):Prop:=∀x∈X,x.1.ai O=x.2
theorem WN{N:Fx}(h:vZ x N){b:BE}{v:Bool}(R:Rh N b=U v):b.ai x=v:=by
 unfold Rh at R;split at R;cases R;simp[BE.ai];cases Q:N.find? (λX=>X.1.aP b) with
 |none=>rw[Q] at R;cases R
 |some X=>
  rw[Q] at R;cases R;have M:=ack Q;rw[<-BE.bW _ _ M];exact h X (Vu Q)
def amy{Q:Fx}(h:vZ x Q){b:BE}{v:Bool}(N:b.ai x=v):vZ x ((b,v)::Q):=by
 intro X R;rcases fh.1 R with rfl|R;exact N;exact h X R
def Ki{D:bT}{H:Ty}{a:Act}{W:World}{N:aj}{V:ar}{M:Fx}(X:aA t e D H V x R a W)(G:ja x N (Y x.i) (Y x.b) (Y x.r))(h:vZ x M):vZ N (qo R M):=by
 intro Q F;obtain⟨B,L⟩:=qh.1 F;rw[<-X.ei,<-X.eb,<-X.er] at L;rw[BE.ef G _ L];exact h Q B
section
variable{f:bv}
def aA.drew{g:ar}{w:World}{D:bT}{V:ar}{O:aj}{s:S}{a:Act}{W:World}(R:aA g w D f.ty V O s a W):aA g w D f.ty V O s a {W with drawn:=W.drawn+1}:=
 ⟨⟨R.mem.base.drew,R.mem.own,R.mem.inj,R.mem.box,λk e X Q N=>⟨(R.mem.ak k e X Q N).1.Kb (λ_ _=>rfl) (cd _),(R.mem.ak k e X Q N).2⟩⟩,R.gC,R.ei,R.eb,R.er,R.dl.world (λ_ _ h _=>h),R.size,R.tmps,λk e X b Q N M=>(R.eN k e X b Q N M).world rfl⟩
end
section
variable{g:ar}{w:World}{D:bT}{P:Program}{f:bv}{V:ar}{O:aj}{s:S}{a:Act}{W:World}
def aA.amz(R:aA g w D f.ty V O s a W)(N:s.bd=J)(j:Int):aA g w D f.ty V (O.add (.i j)) {s with ni:=s.ni+1} a W:=by
 obtain⟨M,L⟩:=R.zw N;have Q:=tc s.au O (.i j) V;refine⟨⟨R.mem.base,R.mem.own,R.mem.inj,λi t H h=> ?_,R.mem.ak⟩,R.gC,by simp[aj.add,R.ei],R.eb,R.er,R.dl,R.size,λt G h=> ?_,λk e F b X B A=> ?_⟩;rw[Q.bL (ta L h)];exact R.mem.box i t H h;rcases R.tmps t G h with X|X
 grind
 right;rw[Q.ai (xG M h)];exact X;have t:=R.eN k e F b X B A;exact⟨t.own,t.mem,t.box,t.alone,t.inner⟩
def aA.amA(R:aA g w D f.ty V O s a W)(M:s.bd=J){Q:Sh}{N:RV}(L:bG W f.ty (.mr Q) N):aA g w D f.ty V (O.add (.r N)) {s with rs:=s.rs++[.mr Q]} a W:=
 R.add M L (λb X=>by cases X) (λk e F b _ _ _ X=>by
  rcases X with X|⟨⟨t,H⟩,_⟩;cases X;cases H) (λe b G=>by cases G)
def amB{M:Sh}{Q:av}(h:∀X∈Q,J9 f.ty M X)(H:∀c∈bI f.ty (.mr M),n7 c=J):bG W f.ty (.mr M) (.mk (.slice Z (Y Q) (Y Q)) Q):=by
 refine bG.mr M Q (λi X R=>(h X (jz R)).len) (λi j X c k R L N=>(h X (jz R)).int j c k L N) (λi j X c R L N=>(h X (jz R)).bool j c L N) (λi j X c z k R L N=> ?_);have:=H _ (jz N);simp[n7] at this
def adT{n:Nat}{X x:aE}:∀{R:av},x∈iE n X R->x=X\/x∈R
 |[],h=>by simp[iE] at h;exact .inl h
 |r::Q,h=>by
  simp only[iE] at h;split at h
  grind
  rcases fh.1 h with h|h
  grind
  rcases adT h with h|h
  grind
  grind
def amC{n:Nat}{X:aE}:∀{rows:av},(∀r∈rows,mi n ((X.take n).map λc=>bn c.val) r=E)->iE n X rows=rows++[X]
 |[],_=>rfl
 |r::R,h=>by
  simp only[iE];rw[aS (by rw[h r aw];simp),amC (rows:=R) (λx Q=>h x (AH _ Q))];rfl
def amD{n:Nat}{X va:Bool}(Q:X=E->n=1){R:aE}(M:G8 n R){L:bA}(H:(R.take n).map (λc=>bn c.val)=L):∀{N:av},(∀r∈N,G8 n r)->
  A5 L (xF n X va R) (N.map (xF n X va))=(iE n R N).map (xF n X va)
 |[],_=>rfl
 |r::v,h=>by
  obtain⟨l,F,B,A⟩:=RT (ag:=X) Q (h r aw);have u:Y L=n:=by
   obtain⟨t,q,p⟩:=M
   grind
  have z:mi n L r=decide (l=L):=by
   simp only[mi,A];rw[Jt ae]
  simp only[dH,A5,iE,H,z];have y:zv (xF n X va r).1=l:=by
   simp only[xF,B];exact ads (λe=>F.trans (Q e))
  rw[y];by_cases G:l=L;simp[G];simp only[G,ku,decide_false,jX,dH];rw[amD Q M H λx w=>h x (by simp[w])]
def axw(t:TypeId):(Instr.makeMap t Z).run P W=.ok (.map (U W.heap.size)) (W.alloc (.map #[] 0)):=by
 simp[Instr.makeMap]
def axx(X:aA g w D f.ty V O s a W)(B:b.o.op=.makeMap v Z)(h:VV f b.o.dst s v=U R):
  ∃Q L H,td P b.o a W Q L/\aA g w D f.ty H O R (a.put b.o.dst Q) L/\bB s O V R O H:=by
 unfold VV at h;split at h;rename_i k e n N am q u;split at h;rename_i M r;split at h;rename_i G;simp only[aC] at G;cases h;have A:C.dP s.ni s.nb (Y s.rs) (aJ s.au) (JQ M n N).2=true:=by
  unfold JQ;split<;>simp[C.iX,C.bj,RE.bj,K.bj,BE.bj]
 obtain⟨F,z⟩:=X.AO G.1 (t:=(JQ M n N).1) A;have y:j5 (JQ M n N).1 (C.bL O V (JQ M n N).2)=.map #[] 0:=by
  unfold JQ;split;rw[G9];simp[RE.rv,rg,gA];rw[Hd];simp[C.az,ES,rg,gA]
 rw[y] at F;refine⟨.map (U W.heap.size),W.alloc (.map #[] 0),V++[W.heap.size],.inl ?_, ?_,z.put _ _⟩;simp[execOp,B,axw];have:=F.put b.o.dst (.mp (Y s.au));have x:ad (V++[W.heap.size]) (Y s.au)=W.heap.size:=by simp[ad,<-X.gC]
 rw[C.ai,x] at this;exact this;cases h;cases h;cases h
def WO{k e:TypeId}{n:Nat}{R:Bool}{X:TI}{Q:aq}{r:RE}(h:Cs f s k e n R X Q=U r):
  Q=[.ak r,.int I (.c (n:Int)),.bool (.c R),.bool (.c X.d.isAgg)]/\r.pL f.ty s ⟨k,e,n,R,X.d.isAgg⟩=J/\X.am.all n7=true:=by
 unfold Cs at h
 grind
def amE{R:Bool}{x y z:K}(h:JI X R r=U (x,y,z)):r.cells.map (C.cj O)=([x.ai O,y.ai O,z.ai O].take X).map λu=>.mk (.int I u) []:=by
 unfold JI at h;split at h<;>first|(cases h;done)|(split at h<;>first|(cases h;done)|skip)
 all_goals
  rename_i Q;cases h;simp at Q
  grind [C.cells,C.cj]
def adU:∀{am:eL}{l:aq},nJ f.ty s am l=J->am.all n7=J->Y l=Y am/\(∀(j:Nat)(k:IntKind),am[j]?=U (.int k)->∃x,(l.map (C.cj O))[j]?=U (.mk (.int k x) []))/\(∀(j:Nat),am[j]?=U .bool->∃x,(l.map (C.cj O))[j]?=U (.mk (.bool x) []))/\(l.map (C.cj O)).map RV.val=C.az O V l
 |[],[],_,_=>⟨rfl,λj k h=>by simp at h,λj h=>by simp at h,rfl⟩|[],_::_,h,_=>by simp[nJ] at h|_::_,[],h,_=>by simp[nJ] at h
 |c::am,v::l,h,Q=>by
  simp only[nJ,aC] at h;simp only[VJ,aC] at Q;obtain⟨N,H,G,M⟩:=adU (am:=am) (l:=l) h.2 Q.2;have R:=h.1;unfold uv at R;split at R;rename_i k F e;have:k=F:=GK R;subst this;refine⟨by simp[N],λj L X=> ?_,λj X=> ?_,by simp[C.az,C.cj,C.ai,M]⟩;cases j with|zero=>simp at X;subst X;exact⟨e.ai O,rfl⟩|succ j=>simpa using H j L (by simpa using X)
  grind
  rename_i b;refine⟨by simp[N],λj L X=> ?_,λj X=> ?_,by simp[C.az,C.cj,C.ai,M]⟩
  grind
  cases j with|zero=>exact⟨b.ai O,rfl⟩|succ j=>simpa using G j (by simpa using X)
  simp[n7] at Q;cases R
def axy{e:TypeId}{H:Bool}{M:TI}(l:ut f.ty v X H=J)(i:f.ty e=U M)(h:M.am.all n7=J){R:C}{x y z:K}(F:JI X H r=U (x,y,z))(g:nJ f.ty s M.am R.cells=J):
  J9 f.ty ⟨v,e,X,H,M.d.isAgg⟩ ((r.cells++R.cells).map (C.cj O)):=by
 obtain⟨b,B,A,w⟩:=M8 (va:=M.d.isAgg) l i;obtain⟨q1,q2,q3,-⟩:=adU (O:=O) (V:=[]) g h;have aa:=(adt (O:=O) (V:=[]) F).2;have t:=amE (O:=O) F;have q:(r.cells.map (C.cj O)).length=X:=by rw[t];simpa using aa
 have p:∀(j:Nat),((r.cells++R.cells).map (C.cj O))[j]?=if j<X then(r.cells.map (C.cj O))[j]? else(R.cells.map (C.cj O))[j-X]?:=by
  intro j;rw[GH,aIX,q]
 have o:∀(j:Nat),(bI f.ty (.mr ⟨v,e,X,H,M.d.isAgg⟩))[j]?=if j<X then b[j]? else M.am[j-X]?:=by
  intro j;rw[B,aIX,A]
 refine⟨?_,λj c kk Q N=> ?_,λj c Q N=> ?_⟩;rw[B,oW,f9,f9,A,q1];simp at q;omega;rw[p] at Q;rw[o] at N;split at Q;rename_i L;rw[aH L] at N;have:=w _ (jz N);cases this;rw[t,et] at Q;cases m:([x.ai O,y.ai O,z.ai O].take X)[j]? with|none=>rw[m] at Q;cases Q|some u=>rw[m] at Q;cases Q;exact⟨u,rfl⟩
 rename_i L;rw[aS L] at N;obtain⟨u,G⟩:=q2 _ kk N;rw[G] at Q;cases Q;exact⟨u,rfl⟩;rw[p] at Q;rw[o] at N;split at Q;rename_i L;rw[aH L] at N;have:=w _ (jz N);cases this;rename_i L;rw[aS L] at N;obtain⟨u,G⟩:=q3 _ N;rw[G] at Q;cases Q;exact⟨u,rfl⟩
def axz{e:TypeId}{R Q:Bool}{N:TI}(L:ut f.ty v X R=J)(H:f.ty e=U N)(B:N.am.all n7=J):∀c∈bI f.ty (.mr ⟨v,e,X,R,Q⟩),n7 c=true:=by
 obtain⟨A,G,z,F⟩:=M8 (va:=Q) L H;intro c M;rw[G] at M;rcases fg.1 M with h|h;rw[F c h];rfl
 grind
def axA(W:World)(b:Nat)(o:Obj):ChangeMaps.setBlock W b o=W.putObj b o:=rfl
def MR.amF(g:ar)(w:World)(D:bT)(R:Ty)(V:ar)(O:aj)(s:S)(a:Act)(Q:World):MR->Prop
 |.ok X=>aA g w D R V O X a Q/\bB s O V X O V|.ah _ x X=>aA g w D R V (O.add (.r (gt x O))) X a Q/\bB s O V X (O.add (.r (gt x O))) V
def Sd(R:aA g w D f.ty V O s a W)(af:jq P f.ty){d:cG}{M X:C}{Q:MR}(h:GR f d s v r M X=U Q):
  ∃W',(Instr.mapUpdate v (r.ai O V) (M.ai O V) (X.ai O V)).run P W=.ok () W'/\Q.amF g w D f.ty V O s (a.put d undef) W':=by
 unfold GR at h;split at h;rename_i k e n L am q i ht;have hd:P.underlying v=U (.map k e):=(af _ _ ht).desc;have b:vW P k n L:=(af _ _ ht).key k e n L rfl;split at h;rename_i H xa xb xc bt A z g2 g3;have bg:=af _ _ z;split at h;cases h;rename_i a3;simp only[lg,jP,not_or,Ml] at a3;obtain⟨⟨aa,ce⟩,bk⟩:=a3;simp only[S.eV,aC] at ce;obtain⟨hb,ce⟩:=ce;obtain⟨a4,al⟩:=adt (O:=O) (V:=V) g2;have ab:=R.mem.box i bt A g3;have bl:=Wy (O:=O) (V:=V) (xI R) bk;split at h;rename_i fm;simp only[gc] at fm;subst fm;split at h;rename_i G br;split at h;rename_i a9;cases h;obtain⟨rfl,c1,c5⟩:=WO br;rw[G9] at ab;have ba:=Ka R c1;have bb:∀F∈(G.rv O).ah,G8 n F:=λF o=>M9 aa z (ba F o)
 have an:=amx (P:=P) hd b ab al (λp hp=>by
  obtain⟨F,o,rfl⟩:=fw.1 hp;obtain⟨l,q1,q2,-⟩:=RT b.1 (bb F o);exact⟨l,q1,q2⟩) (X.ai O V)
 have a0:=axy (O:=O) (s:=s) aa z c5 g2 a9;have bc:=amE (O:=O) g2;have ca:(M.cells.map (C.cj O)).length=n:=by rw[bc];simpa using al
 have bs:((M.cells++X.cells).map (C.cj O)).take n=M.cells.map (C.cj O):=by
  rw[GH,avL ae,Jt ae]
 have bx:((M.cells++X.cells).map (C.cj O)).drop n=X.cells.map (C.cj O):=by
  rw[GH,avM ae,acb ae];rfl
 have hL:(((M.cells++X.cells).map (C.cj O)).take n).map (λc=>bn c.val)=[xa.ai O,xb.ai O,xc.ai O].take n:=by
  rw[bs,bc];simp[bn]
 obtain⟨f1,-,-,f4⟩:=adU (O:=O) (V:=V) a9 c5;have b0:xF n L H.d.isAgg ((M.cells++X.cells).map (C.cj O))=(gR L ([xa.ai O,xb.ai O,xc.ai O].take n),X.ai O V):=by
  obtain⟨l,q1,q2,q3⟩:=RT (ag:=L) b.1 (M9 aa z a0);have hl:l=[xa.ai O,xb.ai O,xc.ai O].take n:=by rw[<-q3,hL]
  have b1:rV H.d.isAgg (X.cells.map (C.cj O))=X.ai O V:=by
   rw[bl,rV,f4];cases ha:H.d.isAgg;have b2:Y X.cells=1:=by rw[f1];exact CH bg ha
   obtain⟨u,hu⟩:=pK.1 b2;simp only[jX,ku];rw[<-f4,hu];rfl;rfl
  simp only[xF,q2,hl,bx,b1]
 have ac:=amD (va:=H.d.isAgg) b.1 (M9 aa z a0) hL bb;rw[b0] at ac;have hh:bG W f.ty (.mr ⟨k,e,n,L,H.d.isAgg⟩) (gt (.ins (.ak G) n (M.cells++X.cells)) O):=by
  refine amB (λF bd=> ?_) (axz aa z c5);simp only[LE.ah] at bd;rcases adT bd with rfl|h;exact a0;exact ba F h
 have R1:=R.amA hb hh;have a1:∀cc tt ff,j5 xq (C.bL (O.add (.r (gt (.ins (.ak G) n (M.cells++X.cells)) O))) V [.ak G,.int I (.c (n:Int)),.bool (.c L),.bool (.c H.d.isAgg)])≠ .cells cc tt ff:=by
  intro cc tt ff hx;rw[G9] at hx;cases hx
 have R2:=R1.adS (cs':=[.ak (.v (Y s.rs)),.int I (.c (n:Int)),.bool (.c L),.bool (.c H.d.isAgg)]) (i:=i) g3 a1;have b3:(RE.v (Y s.rs)).rv (O.add (.r (gt (.ins (.ak G) n (M.cells++X.cells)) O)))=gt (.ins (.ak G) n (M.cells++X.cells)) O:=by
  simp[RE.rv,aj.rv,aj.add,<-R.er]
 rw[G9,b3] at R2;refine⟨W.putObj (ad V i) (rg ((gt (.ins (.ak G) n (M.cells++X.cells)) O).ah.map (xF n L H.d.isAgg))), ?_, ?_, ?_⟩;simp only[C.ai,a4];rw[an,ac];rfl;have:=R2.put d (.bH []);exact this;exact bB.put (s:=s) (s':={s with rs:=s.rs++[RK.mr ⟨k,e,n,L,H.d.isAgg⟩],au:=s.au.set i (U (xq,[.ak (.v (Y s.rs)),.int I (.c n),.bool (.c L),.bool (.c H.d.isAgg)]))}) ⟨tc _ _ _ _,λj hj=>(qB (dq.1 (ky.1 g3)).1).2 (.inr hj),aw,cd _⟩ d _;cases h;cases h;split at h;rename_i fm;simp only[aC,gc,jP] at fm;obtain⟨⟨rfl,rfl⟩,rfl⟩:=fm;split at h;rename_i x N bf;split at h;cases h;rename_i b4;cases h;rw[Hd] at ab;obtain⟨p1,p2⟩:=Na (O:=O) (V:=V) bf;rw[p1] at ab;have an:=amx (P:=P) hd b ab al (λp hp=>by
  obtain⟨u,hu,rfl⟩:=fw.1 hp;exact⟨[u.1],rfl,rfl⟩) (X.ai O V)
 have ac:∀(N:bA)(m:aq),¬N.contains x=J->Y N=Y m->A5 [x] (gR E [x],X.ai O V) ((N.zip m).map λp=>(.int I p.1,p.2.ai O V))=((N.zip m).map λp=>(.int I p.1,p.2.ai O V))++[(.int I x,X.ai O V)]:=by
  intro N;induction N with
  |nil=>intro m _ _;simp[A5,gR]
  |cons y ys ih=>
   intro m hc hl;cases m with
   |nil=>simp at hl
   |cons u us=>
    have b5:¬y=x:=by
     intro e;subst e;simp at hc
    have b6:¬ys.contains x=true:=by
     intro e;simp at e hc;exact hc.2 e
    have:=ih us b6 (by simpa using hl);simp only[Es,dH,A5,zv,GG,and_true,b5,ku,this,cJ]
 have a1:∀cc tt ff,j5 vF (C.bL O V A)≠ .cells cc tt ff:=by
  intro cc tt ff hx;rw[Hd] at hx;cases hx
 have R2:=R.adS (cs':=A++[.int I (.c x),X]) g3 a1;have b7:∀(l:aq)(N:bA),rP l=U N->ES (C.az O V (l++[.int I (.c x),X]))=ES (C.az O V l)++[(.int I x,X.ai O V)]:=by
  intro l;induction l using rP.induct with
  |case1=>intro N _;rfl
  |case2 k u Q ih=>
   intro N B;simp only[rP] at B;cases o:rP Q with
   |none=>rw[o] at B;cases B
   |some b8=>
    have:=ih b8 o;simp only[cJ,C.az,ES] at this⊢;rw[this]
  |case3 l h1 h2=>intro N B;unfold rP at B;split at B<;>first|(exact bF rfl h1)|(exact bF rfl (h2 _ _ _))|cases B
 rw[Hd,b7 A N bf,p1] at R2;refine⟨W.putObj (ad V i) (rg ((N.zip (n8 A)).map (λp=>(Value.int I p.1,p.2.ai O V))++[(Value.int I x,X.ai O V)])), ?_,R2.put d (.bH []), ?_⟩;simp only[C.ai,a4];rw[an];have:[(K.c x).ai O,xb.ai O,xc.ai O].take 1=[x]:=rfl;rw[this,ac N _ b4 p2];exact bB.put (s:=s) (s':=s.cX i vF (A++[.int I (.c x),X])) ⟨oJ.refl _ _ _,λj hj=>(qB (dq.1 (ky.1 g3)).1).2 (.inr hj),by simp[S.cX],cd _⟩ d _;cases h;cases h;cases h;cases h
end
section
variable{g:ar}{B:World}{D:bT}{P:Program}{f:bv}{V:ar}{O:aj}{s:S}{a:Act}{W:World}
def adV{X:Ty}{s:S}{n:Nat}:∀r:RE,r.kind X {s with ni:=n}=r.kind X s
 |.v k=>rfl|.cell r i j k=>by simp only[RE.kind,adV r]|.k v=>by cases v<;>rfl
theorem Np(R:aA g B D f.ty V O s a W){Q:Sh}{r:RE}(h:r.pL f.ty s Q=J):lenOf (r.rv O).val=(r.rv O).ah.length:=by
 unfold RE.pL at h;rcases avV.1 h with h|h;have X:=rh R aw (GK h);generalize r.rv O=N at X;cases X;rfl;unfold RE.nil at h;split at h;simp[RE.rv,lenOf];cases h
def axB(R:aA g B D f.ty V O s a W){e:TypeId}{L:Bool}{H:TI}{i:Nat}{c:K}(h:acC f s v e X L H i=U c):∃l,W.heap[ad V i]?=U (rg l)/\(Y l:Int)=c.ai O:=by
 unfold acC at h;split at h;rename_i G Q F;have A:=R.mem.box i G Q F;split at h;rename_i fm;simp at fm;subst fm;cases N:Cs f s v e X L H Q with
 |none=>rw[N] at h;cases h
 |some r=>
  rw[N] at h;cases h;obtain⟨rfl,z,y⟩:=WO N
  grind [G9,K.ai,Np]
 split at h;rename_i fm;simp at fm;obtain⟨⟨rfl,rfl⟩,rfl⟩:=fm;cases M:rP Q with
 |none=>rw[M] at h;cases h
 |some x=>
  rw[M] at h;cases h;rw[Hd] at A;obtain⟨w,u⟩:=Na (O:=O) (V:=V) M
  grind [K.ai]
 cases h;cases h
theorem Se{t:Int}{c:K}{R:RE}:j5 zf (C.bL O V [.mp X,.int I (.c t),.int I c,.ak R])=.mapIter (U (ad V X)) (c.ai O).toNat ((R.rv O).ah.map qw).toArray (c.ai O).toNat:=by
 simp[j5,zf,xq,vF,C.bL,C.gf,C.ai,alD]
def axC(X:aA g B D f.ty V O s a W)(G:jq P f.ty){x:Operand}(F:b.o.op=.range v x)(A:a.eval x=(s.ev f.gl x).ai O V)(h:VW f b.o.dst s v (s.ev f.gl x)=U R):
  ∃Q N M,td P b.o a W Q N/\aA g B D f.ty M O R (a.put b.o.dst Q) N/\bB s O V R O M:=by
 unfold VW at h;split at h;rename_i k e n ag am q i z y;have w:P.underlying v=U (.map k e):=(G _ _ z).desc;split at h;rename_i te af;split at h;rename_i c u;split at h;rename_i L;simp at L;obtain⟨⟨r,p⟩,j⟩:=L;cases h;obtain⟨l,d,aa⟩:=axB X u;have ab:C.dP s.ni s.nb (Y s.rs) (aJ s.au) [.mp i,.int I (.c (v:Int)),.int I c,.ak (.k (.slice Z 0 0))]=true:=by
  simp[C.iX,C.bj,RE.bj,K.bj,j,p]
 obtain⟨H,L1⟩:=X.AO r (t:=zf) ab;rw[Se,<-aa] at H;have ac:=run_range_map (P:=P) W v k e (ad V i) _ _ w d;refine⟨.pointer (U ⟨W.heap.size,0,Z⟩),W.alloc (.mapIter (U (ad V i)) (Y l) #[] (Y l)),V++[W.heap.size],.inl ?_, ?_,L1.put _ _⟩;simp only[execOp,F,A,y,C.ai,dv,ac,du,fu];have:=H.put b.o.dst (.loc (Y s.au) 0);have ha:ad (V++[W.heap.size]) (Y s.au)=W.heap.size:=by simp[ad,<-X.gC]
 rw[C.ai,ha] at this;simpa[RE.rv] using this;cases h;cases h;cases h;cases h
def adW:∀{l:uq}{m:Nat}{e:MapEntry},e∈gA m l->∃(j:Nat)(p:Value×Value),l[j]?=U p/\e=⟨p.1,p.2,m+j⟩
 |[],m,e,h=>by simp[gA] at h
 |x::r,m,e,h=>by
  simp only[gA,fh] at h;rcases h with rfl|h;exact⟨0,x,rfl,rfl⟩;obtain⟨j,p,X,R⟩:=adW h;exact⟨j+1,p,by simpa using X,by rw[R];congr 1;omega⟩
def adX:∀{l:uq}{m j:Nat}{p:Value×Value},l[j]?=U p->(⟨p.1,p.2,m+j⟩:MapEntry)∈gA m l
 |[],m,j,p,h=>by simp at h|x::r,m,0,p,h=>by simp at h;subst h;simp[gA]
 |x::r,m,j+1,p,h=>by
  have:=adX (m:=m+1) (l:=r) (j:=j) (p:=p) (by simpa using h)
  grind [gA]
def amG:∀(n:Nat)(l:ar),(∀j,j<n->j∈l)->n<=Y l
 |0,_,_=>rN _
 |n+1,l,h=>by
  have X:=h n ae;have:=amG n (l.erase n) (λj R=>(avU ae).2 (h j ae))
  grind
theorem Nq(R:JR f=J):bI f.ty (.mr (zn f))=[.int I]:=by
 simp only[JR,aC,akQ] at R;obtain⟨X,N⟩:=R;unfold ut at X;split at X;rename_i tk M;simp only[aC,gc] at X;obtain⟨c,Q⟩:=pK.1 X.1.1;have:=X.1.2;rw[Q] at this;simp at this
 grind [bI,zn,acv]
 cases X
def adY(X:JR f=J){R:aE}(h:J9 f.ty (zn f) R):∃x,R=[.mk (.int I x) []]:=by
 have Q:=h.len;rw[Nq X] at Q;obtain⟨c,rfl⟩:=pK.1 Q;obtain⟨x,N⟩:=h.int 0 c I rfl (by rw[Nq X];rfl)
 grind
def axD(X:JR f=J)(x:Int):J9 f.ty (zn f) [.mk (.int I x) []]:=by
 refine⟨by rw[Nq X];rfl,λj c k R Q=> ?_,λj c R Q=> ?_⟩
 grind [Nq]
 grind [Nq]
def WP{r:RE}{H:K}{X:aE}(G:(r.rv O).ah[(H.ai O).toNat]?=U X):∀{am:eL}{j:Nat},am.all n7=J->Y X=j+Y am->
  (∀(i:Nat)(k:IntKind),am[i]?=U (.int k)->∃m,X[j+i]?=U (.mk (.int k m) []))->(∀(i:Nat),am[i]?=U .bool->∃m,X[j+i]?=U (.mk (.bool m) []))->
  C.az O V (vJ r H j am)=(X.drop j).map RV.val
 |[],j,_,R,_,_=>by rw[avO (by simp at R;omega)];rfl
 |.int k::am,j,Q,R,M,L=>by
  obtain⟨m,N⟩:=M 0 k rfl;have F:=WP G (am:=am) (j:=j+1) (by simpa[n7] using Q) (by simp at R⊢;omega) (λi k h=>by have:=M (i+1) k (by simpa using h);rwa [show j+(i+1)=j+1+i from ae] at this) (λi h=>by have:=L (i+1) (by simpa using h);rwa [show j+(i+1)=j+1+i from ae] at this);have B:X.drop j=.mk (.int k m) []::X.drop (j+1):=by
   rw[yZ] at N
   grind [Cb]
  rw[yZ] at N
  grind [vJ,GM,C.az,C.ai,K.ai,aN,RV.pe,bn]
 |.bool::am,j,Q,R,M,L=>by
  obtain⟨m,N⟩:=L 0 rfl;have F:=WP G (am:=am) (j:=j+1) (by simpa[n7] using Q) (by simp at R⊢;omega) (λi k h=>by have:=M (i+1) k (by simpa using h);rwa [show j+(i+1)=j+1+i from ae] at this) (λi h=>by have:=L (i+1) (by simpa using h);rwa [show j+(i+1)=j+1+i from ae] at this);have B:X.drop j=.mk (.bool m) []::X.drop (j+1):=by
   rw[yZ] at N
   grind [Cb]
  rw[yZ] at N
  grind [vJ,GM,C.az,C.ai,BE.ai,aN,RV.pe,jp]
 |.bw _ _::am,j,Q,_,_,_=>by simp[n7] at Q
def adZ{r:RE}{X:K}:∀{am:eL}{j:Nat},(vJ r X j am).length=Y am
 |[],j=>rfl|c::am,j=>by simp[vJ,adZ (am:=am)]
def amH{r:RE}{M:K}{R:aE}(F:(r.rv O).ah[(M.ai O).toNat]?=U R){N:Bool}(L:N=E->X=1)(B:G8 X R):(MD r M X N).ai O V=rV N (R.take X):=by
 obtain⟨l,A,H⟩:=B;have z:(R.take X).length=X:=by rw[H];simpa using A
 have y:C.az O V ((di X).map λj=>.int I (.cell r M j))=(R.take X).map RV.val:=by
  rw[oG,oX];apply kU;intro j;rw[et,et];by_cases G:j<X;rw[Ep G];have x:j<Y l:=ae;have Q:(R.take X)[j]?=U (.mk (.int I l[j]) []):=by rw[H,et,dG x];rfl
  have w:R[j]?=U (.mk (.int I l[j]) []):=by rw[qg,aH G] at Q;exact Q
  simp[Q,C.ai,K.ai,aN,F,w,bn]
  grind
 rw[MD,EX (λv=>by simpa using L v),y,rV];cases N;obtain⟨c,Q⟩:=pK.1 (z.trans (L rfl));rw[Q];rfl;rfl
def axE{rs:RE}{je:K}{j:Int}(N:je.ai O=j)(h:∀X∈(rs.rv O).ah,∀x,X=[.mk (.int I x) []]->x≠j)(Q:∀X∈(rs.rv O).ah,∃x,X=[RV.mk (.int I x) []]):(VX rs je).ai O=J/\∀r∈(rs.rv O).ah,mi 1 [j] r=false:=by
 have M:∀r∈(rs.rv O).ah,∀b c,mi 1 [j,b,c] r=false:=by
  intro r R b c;obtain⟨x,rfl⟩:=Q r R;have:=h _ R x rfl;simp[mi,bn,this]
 grind [VX,BE.ai,K.ai,jP,mj,mi,bn]
def amI(G:JR f=J)(R:aA g B D f.ty V O s a W)(z:s.bd=J){d:cG}{i t:Nat}{c:K}{Q:RE}(y:bP s.au X=U (zf,[.mp i,.int I (.c (t:Int)),.int I c,.ak Q]))(bZ:Q.pL f.ty s (zn f)=J)
  {N:K}{j:Nat}(w:N.ai O=j)(n:¬((Q.rv O).ah.map qw).contains j=J){kv v:C}{key val:Value}
  (m:∀F,kv.ai (O.add (.r F)) V=key)(l:∀F,v.ai (O.add (.r F)) V=val):
  (VX Q N).ai O=J/\aA g B D f.ty V (O.add (.r (gt (.ins (.ak Q) 1 [.int I N]) O))) (acD f d s X s.ni i t c kv v) (a.put d (.tuple #[.bool J,key,val])) (W.putObj (ad V X) (.mapIter (U (ad V i)) (c.ai O).toNat (((Q.rv O).ah.map qw).toArray.push j) (c.ai O).toNat)):=by
 have k:=Ka R bZ;have b:∀M∈(Q.rv O).ah,∃x,M=[RV.mk (.int I x) []]:=λM L=>adY G (k M L)
 obtain⟨u1,u2⟩:=axE (O:=O) (rs:=Q) (je:=N) w (λM L x H=>by
  intro e;apply n;simp;refine⟨M,L, ?_⟩;subst H;simp[qw,bn,e]) b
 refine⟨u1, ?_⟩;have hh:bG W f.ty (.mr (zn f)) (gt (.ins (.ak Q) 1 [.int I N]) O):=by
  refine amB (λM u=> ?_) (λx H=>by rw[Nq G] at H;simp at H;subst H;rfl);simp only[LE.ah,dH,oC,C.cj] at u;rcases adT u with rfl|h;exact axD G _
  grind
 have aa:(gt (.ins (.ak Q) 1 [.int I N]) O).ah=(Q.rv O).ah++[[.mk (.int I j) []]]:=by
  simp only[gt,RV.mU,LE.ah,dH,oC,C.cj,w];refine amC λr L=> ?_
  simpa[bn] using u2 r L
 have R1:=R.amA z hh;have ab:∀cc tt ff,j5 zf (C.bL (O.add (.r (gt (.ins (.ak Q) 1 [.int I N]) O))) V [.mp i,.int I (.c (t:Int)),.int I c,.ak Q])≠ .cells cc tt ff:=by
  grind [Se]
 have A:=R1.adS (cs':=[.mp i,.int I (.c (t:Int)),.int I c,.ak (.v (Y s.rs))]) (i:=X) y ab;have ac:(RE.v (Y s.rs)).rv (O.add (.r (gt (.ins (.ak Q) 1 [.int I N]) O)))=gt (.ins (.ak Q) 1 [.int I N]) O:=by
  simp[RE.rv,aj.rv,aj.add,<-R.er]
 obtain⟨a1,af⟩:=R.zw z;have p:=ta af y;simp only[C.iX,C.bj,aC] at p;have ag:c.ai (O.add (.r (gt (.ins (.ak Q) 1 [.int I N]) O)))=c.ai O:=K.ef (tc s.au O (.r (gt (.ins (.ak Q) 1 [.int I N]) O)) V).agree _ p.2.2.1;rw[Se,ac,aa,ag] at A;have al:((Q.rv O).ah++[[RV.mk (.int I (j:Int)) []]]).map qw=(Q.rv O).ah.map qw++[j]:=by simp[qw,bn]
 rw[al] at A;have o:=A.put d (.bH [.bool (.c J),kv,v]);have an:(C.bH [.bool (.c J),kv,v]).ai (O.add (.r (gt (.ins (.ak Q) 1 [.int I N]) O))) V=.tuple #[.bool J,key,val]:=by
  simp only[C.ai,C.az,m,l,BE.ai]
 rw[an] at o;have a0:((Q.rv O).ah.map qw).toArray.push j=((Q.rv O).ah.map qw++[j]).toArray:=aw;rw[a0];exact o
def amJ{X:Type}:∀{l:List X}{m j:Nat},eU ((m+j:Nat):Int) ((zd m (Y l)).map λ(i:Nat)=>(i:Int)) l=l[j]?
 |[],m,j=>by simp[eU]
 |x::l,m,j=>by
  simp only[oV,acj,dH,eU];cases j with
  |zero=>simp
  |succ j=>
   rw[aS ae,show m+(j+1)=m+1+j from ae,amJ];simp
theorem amK{R:Type}{l:List R}{j:Nat}(h:X=Y l):eU (j:Int) (EB X) l=l[j]?:=by
 have:=amJ (l:=l) (m:=0) (j:=j);rw[jk] at this;rw[EB,h,Vy];exact this
def axF(h:r.ai x V=r.ai O V):C.az x V r.cells=C.az O V r.cells:=by
 cases r
 case agg l=>simp only[C.ai,Value.agg.injEq] at h;simpa[C.cells] using h
 all_goals simp only[C.cells,C.az,h]
def amL(R:aA g B D f.ty V O s a W){X:TI}{e:TypeId}(G:eX P e X){x:K}{Q:bA}{N:aq}{M v:C}(h:VY X x Q N=U (M,v))(F:Y Q=Y N){O':aj}{j:Nat}(A:x.ai O'=j){k:Int}{u:C}(c:Q[j]?=U k)(L:N[j]?=U u)(z:u.ai O' V=u.ai O V):
  M.ai O' V=.int I k/\v.ai O' V=u.ai O V:=by
 unfold VY at h;split at h;rename_i t;split at h;rename_i y l r q;cases h;constructor;obtain⟨w,b,w2,-⟩:=adm (O:=O') r
 grind [amK,C.ai,K.ai]
 obtain⟨p,o,s2⟩:=Wv (O:=O') (V:=V) q;have H:=gz.1 t u (jz L);have n:Y u.cells=0+Y X.am:=by
  simp only[Cm,aC,gc] at H;omega
 have m:X.d.isAgg=E->Y l=1:=λi=>by rw[p];exact CH G i
 rw[EX m,o u.cells (by rw[A,amK (by simp[F]),et,L];rfl) n,List.drop_zero,axF z,Wy (xI R) H];cases h;cases h
def amM:∀{l:uq}{m:Nat},(gA m l).map (·.born)=zd m (Y l)
 |[],m=>rfl|x::r,m=>by simp[gA,amM (l:=r),acj]
def axG{p:Sp}{L:dp}(hP:p.P=P)(R:aA g B D f.ty V O s a W)(ac:jq P f.ty){x:Operand}(ho:b.o.op=.next x E)(he:a.eval x=(s.ev f.gl x).ai O V){bc a4:S->T}{t:T}(h:acG f b.o.dst s (s.ev f.gl x) bc a4=U t)(hs:t.aM p O L):
  ∃v W' z w,td P b.o a W v W'/\aA g B D f.ty V z w (a.put b.o.dst v) W'/\bB s O V w z V/\((z=O/\(a4 w).aM p O L)\/(bc w).aM p z L):=by
 unfold acG at h;split at h;rename_i q hx;split at h;rename_i bt i tz c F hq;split at h;cases h;rename_i b3;simp only[jP,Ml,aC,gc,dD] at b3;obtain⟨⟨⟨⟨⟨rfl,bf⟩,bZ⟩,hb⟩,b4⟩,dd⟩:=b3;obtain⟨tn,rfl⟩:∃tn:Nat,tz=(tn:Int):=⟨tz.toNat,ae⟩;simp only[rM] at h;have bg:=R.mem.box _ _ _ hq;rw[Se] at bg;have cu:=Ka R bZ;have df:∀H∈(F.rv O).ah,∃x,H=[RV.mk (.int I x) []]:=λH hr=>adY bf (cu H hr)
 obtain⟨dk,bk⟩:=R.zw hb;split at h;rename_i k e n ag am qq dn cv b5 b6;have hd:P.underlying tn=U (.map k e):=(ac _ _ b5).desc;have hK:vW P k n ag:=(ac _ _ b5).key k e n ag rfl;split at h;rename_i M af;split at h;cases h;rename_i a9;have a9:ut f.ty k n ag=true:=by simpa using a9
 have al:=R.mem.box _ _ _ b6;have ba:=ta bk b6;have model:∀(l:uq),W.heap[ad V i]?=U (rg l)->(Y l:Int)=c.ai O->
   (c.ai O<=lenOf (F.rv O).val/\td P b.o a W (.tuple #[.bool E]) W)\/
   ∃(j:Nat)(kv:Value×Value)(G:World),l[j]?=U kv/\¬((F.rv O).ah.map qw).contains j=J/\(G=W\/G=W.drew)/\td P b.o a W (.tuple #[.bool J,kv.1,kv.2]) (G.putObj (ad V q) (.mapIter (U (ad V i)) (c.ai O).toNat (((F.rv O).ah.map qw).toArray.push j) (c.ai O).toNat)):=by
  intro l hl bl;have hN:(c.ai O).toNat=Y l:=ae;rw[hN] at bg⊢;rcases run_next_at (P:=P) W b.o.type (ad V q) (ad V i) (Y l) (Y l) _ _ _ bg hl (λy hy=>by
   obtain⟨j,p,h1,h2⟩:=adW (by simpa using hy);rw[h2];have:=(dq.1 h1).1;simpa using this) (cd _) with⟨h0,hr⟩|⟨en,br,G,cx,hr⟩
  left;refine⟨?_,.inl ?_⟩;rw[Np R bZ,<-bl];have:=amG (Y l) ((F.rv O).ah.map qw) (λj hj=>by
   cases A:((F.rv O).ah.map qw).contains j with
   |true=>exact Ju.1 A
   |false=>
    exfalso;have cy:=adX (m:=0) (dG hj);have:(⟨(l[j]).1,(l[j]).2,0+j⟩:MapEntry)∈(leftOf (gA 0 l).toArray ((F.rv O).ah.map qw).toArray):=by
     unfold leftOf;rw[aJf];refine⟨by simpa using cy, ?_⟩;simp only[jk,jP];rw[<-A];simp
    have dr:=Array.size_pos_of_mem this;omega)
  simpa using this;simp only[execOp,ho,he,hx,C.ai,dv,hr,du,fu];right;unfold leftOf at br;rw[aIY,aJf] at br;obtain⟨cA,b7⟩:=br;obtain⟨j,kv,hj,rfl⟩:=adW (by simpa using cA);simp only[jk] at b7 hr;refine⟨j,kv,G,hj, ?_,cx,.inl ?_⟩;simpa using b7;simp only[execOp,ho,he,hx,C.ai,dv,hr,du,fu,axA]
 have b8:(W=W)->(c.ai O<=lenOf (F.rv O).val)->td P b.o a W (.tuple #[.bool E]) W->(a4 (s.put b.o.dst (.bH [.bool (.c E)]))).aM p O L->∃v W' z w,td P b.o a W v W'/\aA g B D f.ty V z w (a.put b.o.dst v) W'/\bB s O V w z V/\((z=O/\(a4 w).aM p O L)\/(bc w).aM p z L):=by
  intro _ _ cB cC;have:=R.put b.o.dst (.bH [.bool (.c E)]);exact⟨_,W,O,_,cB,this,(bB.refl _ _ _).put _ _,.inl ⟨rfl,cC⟩⟩
 have ca:∀G,(G=W\/G=W.drew)->aA g B D f.ty V O s a G:=by
  rintro G (rfl|rfl);exact R;exact R.drew
 split at h
 
 rename_i fm;simp only[gc] at fm;subst fm;split at h;rename_i r hr;split at h;rename_i bb;simp only[aC] at bb;cases h;obtain⟨rfl,c1,c5⟩:=WO hr;rw[G9] at al;have bq:c.ai O=((r.rv O).ah.length:Int):=by
  have:=K.bW _ _ bb.1;rw[this,K.ai,Np R c1]
 have cc:=Ka R c1;simp only[VZ,T.aM] at hs;rcases model _ al (by rw[bq];simp) with⟨Q,g2⟩|⟨j,kv,G,Q,g2,g3,g4⟩;exact b8 rfl Q g2 (hs.2 (decide_eq_true Q))
 ·rw[et] at Q;cases an:(r.rv O).ah[j]? with
  |none=>rw[an] at Q;cases Q
  |some H=>
  rw[an] at Q;simp only[ga,dW] at Q;have cD:=(dq.1 an).1;have ch:=jz an;have cO:=M9 a9 af (cc H ch);have bs:=hs.1 (j:Int) ae ae;have R1:=(ca G g3).amz hb (j:Int);have aa:=(tc s.au O (.i (j:Int)) V).agree;simp only[C.iX,C.bj,aC] at ba;have ab:=ta bk hq;simp only[C.iX,C.bj,aC] at ab;have a0:F.rv (O.add (.i (j:Int)))=F.rv O:=RE.sZ aa _ ab.2.2.2.1;have bx:c.ai (O.add (.i (j:Int)))=c.ai O:=K.ef aa _ ab.2.2.1;have a3:(K.v s.ni).ai (O.add (.i (j:Int)))=(j:Int):=by simp[K.ai,aj.add,<-R.ei]
  have cW:∀X,(K.v s.ni).ai ((O.add (.i (j:Int))).add (.r X))=(j:Int):=λX=>a3
  have c0:∀X,r.rv ((O.add (.i (j:Int))).add (.r X))=r.rv O:=λX=>by
   have a1:=RE.sZ aa _ ba.1;have b0:=(tc s.au (O.add (.i (j:Int))) (.r X) V).agree;have a2:=RE.sZ (b0.mono (by simp[aj.add]) (cd _) (cd _)) r ba.1;rw[a2,a1]
  have cl:∀X,(r.rv ((O.add (.i (j:Int))).add (.r X))).ah[((K.v s.ni).ai ((O.add (.i (j:Int))).add (.r X))).toNat]?=U H:=λX=>by
   rw[c0,cW];simpa using an
  obtain⟨kc,r1,r2,r3⟩:=M8 (va:=M.d.isAgg) a9 af;have b1:=cc H ch;have bl:Y H=n+Y M.am:=by rw[b1.len,r1,f9,r2]
  have cn:∀(N:Nat)(ct:CT),M.am[N]?=U ct->(bI f.ty (.mr ⟨k,e,n,ag,M.d.isAgg⟩))[n+N]?=U ct:=λN ct hm=>by
   rw[r1,ji ae,r2,show n+N-n=N from ae];exact hm
  have co:∀(N:Nat)(ct:CT),M.am[N]?=U ct->∃c,H[n+N]?=U c:=λN ct hm=>by
   have:N<Y M.am:=(dq.1 hm).1;exact⟨H[n+N]' ae,dG _⟩
  have c2:M.d.isAgg=E->(vJ r (.v s.ni) n M.am).length=1:=λha=>by rw[adZ];exact CH (ac _ _ af) ha
  have c3:∀X,(ur M.d.isAgg (vJ r (.v s.ni) n M.am)).ai ((O.add (.i (j:Int))).add (.r X)) V=rV M.d.isAgg (H.drop n):=λX=>by
   rw[EX c2,WP (cl X) c5 bl (λN kk hm=>by
    obtain⟨c,A⟩:=co N _ hm;obtain⟨x',b2⟩:=b1.int (n+N) c kk A (cn N _ hm);exact⟨x',by rw[A,b2]⟩) (λN hm=>by
    obtain⟨c,A⟩:=co N _ hm;obtain⟨x',b2⟩:=b1.bool (n+N) c A (cn N _ hm);exact⟨x',by rw[A,b2]⟩),rV]
   cases c4:M.d.isAgg;have h1:=CH (ac _ _ af) c4;obtain⟨c,A⟩:=pK.1 (show(H.drop n).length=1 from bY);rw[A];rfl;rfl
  obtain⟨u1,u2⟩:=amI (d:=b.o.dst) (s:={s with ni:=s.ni+1}) (kv:=MD r (.v s.ni) n ag) (v:=ur M.d.isAgg (vJ r (.v s.ni) n M.am)) (key:=rV ag (H.take n)) (val:=rV M.d.isAgg (H.drop n)) bf R1 b4 hq (by simpa only[RE.pL,adV] using bZ) a3 (by rw[a0];exact g2) (λX=>amH (cl X) hK.1 cO) c3;rw[a0,bx] at u2;subst Q;refine⟨_,_,_,_,g4,u2, ?_,.inr ?_⟩;refine bB.put (s:=s) (s':={s with ni:=s.ni+1,rs:=s.rs++[RK.mr (zn f)],au:=s.au.set q _}) ⟨(tc s.au O (.i (j:Int)) V).trans (tc s.au _ _ V) (λ_ h=>h),λj hj=>(qB (dq.1 (ky.1 hq)).1).2 (.inr hj),aw,cd _⟩ _ _;exact bs u1
 cases h;cases h;split at h
 
 rename_i fm;simp only[aC,gc,jP] at fm;obtain⟨⟨rfl,rfl⟩,rfl⟩:=fm;split at h;rename_i ks c6;split at h;rename_i bb;split at h;rename_i c7 v0 c8;cases h;rw[Hd] at al;obtain⟨p1,p2⟩:=Na (O:=O) (V:=V) c6;rw[p1] at al;have bq:c.ai O=(Y ks:Int):=by
  have:=K.bW _ _ bb;rw[this,K.ai]
 simp only[VZ,T.aM] at hs;rcases model _ al (by rw[bq];simp[p2]) with⟨Q,g2⟩|⟨j,kv,G,Q,g2,g3,g4⟩;exact b8 rfl Q g2 (hs.2 (decide_eq_true Q))
 ·rw[et] at Q;cases hz:(ks.zip (n8 cv))[j]? with
  |none=>rw[hz] at Q;cases Q
  |some kp=>
  rw[hz] at Q;simp only[ga,dW] at Q;obtain⟨z1,z2⟩:=avN.1 hz;have c9:∀{l:aq}{jj:Nat}{u:C},C.dP (Y O.i) (Y O.b) (Y O.r) (aJ s.au) l=J->(n8 l)[jj]?=U u->u.bd (Y O.i) (Y O.b) (Y O.r) (aJ s.au)=true:=by
   intro l;induction l using n8.induct with
   |case1 k v r ih=>
    intro jj u ce hu;simp only[C.iX,aC] at ce;simp only[n8] at hu;cases jj with|zero=>simp at hu;subst hu;exact ce.2.1|succ jj=>exact ih ce.2.2 (by simpa using hu)
   |case2 l h1=>
    intro jj u ce hu;unfold n8 at hu;split at hu;exact bF rfl (h1 _ _ _);simp at hu
  have cD:j<Y ks:=(dq.1 z1).1;have bs:=hs.1 (j:Int) ae ae;have R1:=(ca G g3).amz hb (j:Int);have aa:=(tc s.au O (.i (j:Int)) V).agree;have ab:=ta bk hq;simp only[C.iX,C.bj,aC] at ab;have a0:F.rv (O.add (.i (j:Int)))=F.rv O:=RE.sZ aa _ ab.2.2.2.1;have bx:c.ai (O.add (.i (j:Int)))=c.ai O:=K.ef aa _ ab.2.2.1;have a3:(K.v s.ni).ai (O.add (.i (j:Int)))=(j:Int):=by simp[K.ai,aj.add,<-R.ei]
  have cp:=c9 ba z2;have dc:∀X,kp.2.ai ((O.add (.i (j:Int))).add (.r X)) V=kp.2.ai O V:=λX=>by
   have b0:=(tc s.au (O.add (.i (j:Int))) (.r X) V).agree;rw[C.ef (b0.mono (by simp[aj.add]) (cd _) (cd _)) (λ_ _=>rfl) _ cp,C.ef aa (λ_ _=>rfl) _ cp]
  have cs:=λX=>amL R (ac _ _ af) c8 p2 (O':=(O.add (.i (j:Int))).add (.r X)) (j:=j) a3 z1 z2 (dc X)
  obtain⟨u1,u2⟩:=amI (d:=b.o.dst) (s:={s with ni:=s.ni+1}) (kv:=c7) (v:=v0) (key:=.int I kp.1) (val:=kp.2.ai O V) bf R1 b4 hq (by simpa only[RE.pL,adV] using bZ) a3 (by rw[a0];exact g2) (λX=>(cs X).1) (λX=>(cs X).2);rw[a0,bx] at u2;subst Q;refine⟨_,_,_,_,g4,u2, ?_,.inr ?_⟩;refine bB.put (s:=s) (s':={s with ni:=s.ni+1,rs:=s.rs++[RK.mr (zn f)],au:=s.au.set q _}) ⟨(tc s.au O (.i (j:Int)) V).trans (tc s.au _ _ V) (λ_ h=>h),λj hj=>(qB (dq.1 (ky.1 hq)).1).2 (.inr hj),aw,cd _⟩ _ _;exact bs u1
 cases h;cases h;cases h;cases h;cases h;cases h;cases h;cases h
def axH{p:Sp}{L:dp}(R:aA g B D f.ty V O s a W)(u:jq P f.ty){x:Operand}(ho:b.o.op=.entry x)(he:a.eval x=(s.ev f.gl x).ai O V){bb:S->T}{t:T}(h:acJ f b.o.dst s (s.ev f.gl x) bb=U t)(A:t.aM p O L):
  ∃v s',td P b.o a W v W/\aA g B D f.ty V O s' (a.put b.o.dst v) W/\bB s O V s' O V/\(bb s').aM p O L:=by
 unfold acJ at h;split at h;rename_i q hx;split at h;rename_i bt i tz c Q hq;split at h;cases h;rename_i bc;simp only[jP,Ml,aC,gc,dD] at bc;obtain⟨⟨⟨⟨rfl,b2⟩,bZ⟩,hb⟩,cx⟩:=bc;obtain⟨tn,rfl⟩:∃tn:Nat,tz=(tn:Int):=⟨tz.toNat,ae⟩;simp only[rM] at h;have af:=R.mem.box _ _ _ hq;rw[Se] at af;have b3:=Ka R bZ;have model:∀(l:uq),W.heap[ad V i]?=U (rg l)->(Y l:Int)=c.ai O->(acH c Q).ai O=J->
   ∃(j:Nat)(kv:Value×Value),l[j]?=U kv/\(xA Q).ai O=j/\td P b.o a W (.tuple #[kv.1,kv.2]) W:=by
  intro l hl bd b4;obtain⟨a1,b5⟩:=CP b4;obtain⟨a1,b6⟩:=CP a1;have h1:=A4 a1;have h2:=R9 b6;obtain⟨h3,h4⟩:=CP b5;have h3:=A4 h3;rw[EW] at h4;have h4:(xA Q).ai O<c.ai O:=by simpa[fj] using h4
  simp only[K.ai] at h1 h2 h3;rw[Np R bZ] at h1 h2;have hN:(c.ai O).toNat=Y l:=ae;rw[hN] at af;obtain⟨aa,a3,al⟩:∃aa a3,(Q.rv O).ah=aa++[a3]:=⟨_,_,(List.dropLast_concat_getLast (by intro e;rw[e] at h1;simp at h1)).symm⟩;obtain⟨z,y⟩:=adY b2 (b3 a3 (by rw[al];simp));have b7:IntKind.i64.wrap (((Q.rv O).ah.length:Int)-1)=((Q.rv O).ah.length:Int)-1:=by
   simp[IntKind.wrap,IntKind.bits,IntKind.signed];omega
  have bf:(xA Q).ai O=z:=by
   simp only[xA,K.ai,be,Np R bZ,b7,aN];have:(((Q.rv O).ah.length:Int)-1).toNat=Y aa:=by rw[al];simp
   rw[this,al,y];simp[dM,bn]
  rw[bf] at h3 h4;obtain⟨j,rfl⟩:∃j:Nat,z=(j:Int):=⟨z.toNat,ae⟩;have bg:j<Y l:=ae;refine⟨j,l[j],dG bg,bf,.inl ?_⟩;have b8:((Q.rv O).ah.map qw).toArray=((aa.map qw).toArray).push j:=by
   rw[al,y];simp[qw,bn]
  rw[b8] at af;have bk:=adX (m:=0) (dG bg);rw[jk] at bk;have hr:=run_entry_at (P:=P) W (ad V q) (ad V i) (Y l) ((aa.map qw).toArray) (gA 0 l).toArray (Y l) ⟨(l[j]).1,(l[j]).2,j⟩ af hl (by simpa using bk) (by
   simp only[amM];exact List.nodup_range' ..)
  simp only[execOp,ho,he,hx,C.ai,dv,hr,du,fu]
 split at h;rename_i k e n ag am qq cy ca bl cc;have hd:P.underlying tn=U (.map k e):=(u _ _ bl).desc;have hK:vW P k n ag:=(u _ _ bl).key k e n ag rfl;split at h;rename_i N ab;split at h;cases h;rename_i an;have an:ut f.ty k n ag=true:=by simpa using an
 have ac:=R.mem.box _ _ _ cc;split at h;rename_i fm;simp only[gc] at fm;subst fm;split at h;rename_i r hr;split at h
 ·rename_i a4;cases h;obtain⟨rfl,c1,c5⟩:=WO hr;rw[G9] at ac;have bq:c.ai O=((r.rv O).ah.length:Int):=by
   have:=K.bW _ _ a4;rw[this,K.ai,Np R c1]
  have br:=Ka R c1;obtain⟨hn,A⟩:=A;obtain⟨j,kv,M,g2,g3⟩:=model _ ac (by rw[bq];simp) hn;rw[et] at M;cases a0:(r.rv O).ah[j]? with
  |none=>rw[a0] at M;cases M
  |some G=>
  rw[a0] at M;simp only[ga,dW] at M;have bs:=jz a0;have ch:=M9 an ab (br G bs);have bx:(r.rv O).ah[((xA Q).ai O).toNat]?=U G:=by rw[g2];simpa using a0
  obtain⟨kc,r1,r2,r3⟩:=M8 (va:=N.d.isAgg) an ab;have a9:=br G bs;have bd:Y G=n+Y N.am:=by rw[a9.len,r1,f9,r2]
  have b0:∀(X:Nat)(w:CT),N.am[X]?=U w->(bI f.ty (.mr ⟨k,e,n,ag,N.d.isAgg⟩))[n+X]?=U w:=λX w H=>by
   rw[r1,ji ae,r2,show n+X-n=X from ae];exact H
  have b1:∀(X:Nat)(w:CT),N.am[X]?=U w->∃c,G[n+X]?=U c:=λX w H=>by
   have:X<Y N.am:=(dq.1 H).1;exact⟨G[n+X]' ae,dG _⟩
  have cl:N.d.isAgg=E->(vJ r (xA Q) n N.am).length=1:=λha=>by rw[adZ];exact CH (u _ _ ab) ha
  have cn:(ur N.d.isAgg (vJ r (xA Q) n N.am)).ai O V=rV N.d.isAgg (G.drop n):=by
   rw[EX cl,WP bx c5 bd (λX kk H=>by
    obtain⟨c,F⟩:=b1 X _ H;obtain⟨x',ba⟩:=a9.int (n+X) c kk F (b0 X _ H);exact⟨x',by rw[F,ba]⟩) (λX H=>by
    obtain⟨c,F⟩:=b1 X _ H;obtain⟨x',ba⟩:=a9.bool (n+X) c F (b0 X _ H);exact⟨x',by rw[F,ba]⟩),rV]
   cases co:N.d.isAgg;have h1:=CH (u _ _ ab) co;obtain⟨c,F⟩:=pK.1 (show(G.drop n).length=1 from bY);rw[F];rfl;rfl
  have cp:=amH (V:=V) bx hK.1 ch;have R2:=R.put b.o.dst (.bH [MD r (xA Q) n ag,ur N.d.isAgg (vJ r (xA Q) n N.am)]);simp only[C.ai,C.az,cp,cn] at R2;subst M;exact⟨_,_,g3,R2,(bB.refl _ _ _).put _ _,A⟩
 cases h;cases h;split at h;rename_i fm;simp only[aC,gc,jP] at fm;obtain⟨⟨rfl,rfl⟩,rfl⟩:=fm;split at h;rename_i ks cs;split at h;rename_i a4;split at h
 ·rename_i cu v0 cv;cases h;rw[Hd] at ac;obtain⟨p1,p2⟩:=Na (O:=O) (V:=V) cs;rw[p1] at ac;have bq:c.ai O=(Y ks:Int):=by
   have:=K.bW _ _ a4;rw[this,K.ai]
  obtain⟨hn,A⟩:=A;obtain⟨j,kv,M,g2,g3⟩:=model _ ac (by rw[bq];simp[p2]) hn;rw[et] at M;cases y:(ks.zip (n8 ca))[j]? with
  |none=>rw[y] at M;cases M
  |some kp=>
  rw[y] at M;simp only[ga,dW] at M;obtain⟨z1,z2⟩:=avN.1 y;obtain⟨e1,e2⟩:=amL R (u _ _ ab) cv p2 (O':=O) g2 z1 z2 rfl;have R2:=R.put b.o.dst (.bH [cu,v0]);simp only[C.ai,C.az,e1,e2] at R2;subst M;exact⟨_,_,g3,R2,(bB.refl _ _ _).put _ _,A⟩
 cases h;cases h;cases h;cases h;cases h;cases h;cases h;cases h
def amN{p:Sp}{L:dp}(R:aA g B D f.ty V O s a W)(ac:jq P f.ty){t2:TypeId}{z:BinOp}{N:Bool}{x y:Operand}(l:b.o.op=.binOp z v x y t2)(af:(z=.eql/\N=E)\/(z=.neq/\N=J))(he:a.eval x=(s.ev f.gl x).ai O V)(ag:a.eval y=(s.ev f.gl y).ai O V){j:S->T}{i:T}(h:V4 f b.o.dst s v N (s.ev f.gl x) (s.ev f.gl y) j=U i)(w:i.aM p O L):
  ∃X u,td P b.o a W X W/\aA g B D f.ty V O u (a.put b.o.dst X) W/\bB s O V u O V/\(j u).aM p O L:=by
 unfold V4 at h;split at h;rename_i e am q r ht hx hy;split at h;rename_i hk;cases h;have hd:P.underlying v=U (.slice e):=(ac _ _ ht).desc;have H:=rh R aw hk;simp only[T.aM] at w;obtain⟨A,n,c,M⟩:∃A n c,r.ai O=.slice A n c:=by
  have:∃A n c,(r.rv O).val=.slice A n c:=by
   generalize r.rv O=G at H;cases H;simp
  exact this
 have al:(K.len r).ai O=n:=by simp only[K.ai];unfold RE.ai at M;rw[M];rfl
 have d:(GJ v (.slice A n c) (.slice Z 0 0)).run P W=.ok A.isNone W:=by
  have h0:GJ v (.slice A n c) (.slice Z 0 0)=Eu (9999+1) v (.slice A n c) (.slice Z 0 0):=rfl;rw[h0,Eu,dv,eX.gX hd,du];cases A<;>rfl
 have aa:(execOp a.eval b.o).run P W=.ok (.value (.bool (if N then !A.isNone else A.isNone))) W:=by
  simp only[execOp,l,he,ag,hx,hy,C.ai,M];have an:RE.ai O (.k (.slice Z 0 0))=.slice Z 0 0:=rfl;rw[an];rcases af with⟨rfl,rfl⟩|⟨rfl,rfl⟩;simp[eqGuard,binOp,d];simp[eqGuard,binOp,d]
 cases F:A with
 |none=>
  have hn:n=0:=by
   unfold RE.ai at M;have h0:∀{G:RV},bG W f.ty (.sl e) G->G.val=.slice A n c->A=Z->n=0:=by
    intro G H M F;cases H with
    |sl e A' a3 a4 ab h1 h2 h3 hi hb l=>
     simp at M;obtain⟨rfl,rfl,rfl⟩:=M;subst F;cases ab with
     |nil=>simp at h1;omega
     |cons a0 ab=>
      obtain⟨-,Q,a9,a1,-⟩:=h3 0 a0 rfl;cases a1
   grind
  have:=w.2 (by show decide ((K.len r).ai O<=(K.c 0).ai O)=J;rw[al,hn];rfl);refine⟨_,_,.inl aa, ?_,(bB.refl _ _ _).put _ (.bool (.c (!N))),this⟩;have M:(if N then !A.isNone else A.isNone)= !N:=by rw[F];cases N<;>rfl
  rw[M];exact R.put b.o.dst (.bool (.c (!N)))
 |some A0=>
  have:=w.1 (by simp[BE.ai]);refine⟨_,_,.inl aa, ?_,(bB.refl _ _ _).put _ (.bool (.c N)),this⟩;have M:(if N then !A.isNone else A.isNone)=N:=by rw[F];cases N<;>rfl
  rw[M];exact R.put b.o.dst (.bool (.c N))
 cases h;cases h
theorem aA.cells{x:Ty}{i:Nat}{Q:TypeId}{L H:aq}(R:aA g B D x V O (s.cX i Q L) a W)(F:i<Y s.au)(h:C.bL O V L=C.bL O V H):aA g B D x V O (s.cX i Q H) a W:=by
 have G:∀j,aJ (s.au.set i (U (Q,H))) j=aJ (s.au.set i (U (Q,L))) j:=λj=>by
  rw[Jy,qB F,qB F]
 have w:(s.cX i Q H).au=s.au.set i (U (Q,H)):=rfl;have N:(s.cX i Q L).au=s.au.set i (U (Q,L)):=rfl;refine⟨⟨R.mem.base,λj X=>R.mem.own j (by rw[N,<-G];exact X),λj k X v=>R.mem.inj j k (by rw[N,<-G];exact X) (by rw[N,<-G];exact v),λj t u M=> ?_,λk e A z y=>⟨(R.mem.ak k e A z y).1,λb M j X=>(R.mem.ak k e A z y).2 b M j (by rw[N,<-G];exact X)⟩⟩,by simpa[S.cX] using R.gC,R.ei,R.eb,R.er,R.dl,R.size,R.tmps,λk e A b r q p=> ?_⟩;rw[ky,w] at M;by_cases X:j=i;subst X;rw[akS (by simpa using F)] at M;cases M;rw[<-h];exact R.mem.box j Q L (by rw[ky,N,akS (by simpa using F)]);rw[Cd (λe=>X e.symm)] at M;exact R.mem.box j t u (by rw[ky,N,Cd (λe=>X e.symm)];exact M);obtain⟨z,y,o,n,m⟩:=R.eN k e A b r q p;exact⟨z,y,λj X=>o j (by rw[N,<-G];exact X),n,m⟩
def axI{b:BE}{y z:C}(h:acK b r y=U z):z.gf O V=if b.ai O then r.gf O V else y.gf O V:=by
 unfold acK at h
 grind [C.gf,C.ai,K.ai,BE.ai]
theorem WQ:∀(R l:aq)(X:Nat),C.bL O V (mg l X R)=ge (C.bL O V l) X (C.bL O V R)
 |[],l,X=>rfl
 |v::R,l,X=>by
  rw[mg,WQ R (l.set X v) (X+1)];simp only[C.bL,dH,ge,ak6]
def amO{b:BE}:∀{M:aq}{R:Nat}{X Q:aq},Ri b M R X=U Q->
  Y Q=Y X/\(M=[]\/R+Y M<=Y X)/\(b.ai O=J->C.bL O V Q=C.bL O V (mg X R M))/\(b.ai O=E->C.bL O V Q=C.bL O V X)
 |[],R,X,Q,h=>by simp only[Ri,dW] at h;subst h;exact⟨rfl,.inl rfl,λ_=>rfl,λ_=>rfl⟩
 |x::r,R,X,Q,h=>by
  simp only[Ri] at h;split at h;rename_i A H;split at h;rename_i c z;obtain⟨G,L,y,w⟩:=amO h;have v:R<Y X:=(dq.1 H).1;have F:=axI (O:=O) (V:=V) z;have B:C.bL O V (X.set R c)=(C.bL O V X).set R (c.gf O V):=by simp[C.bL,ak6]
  have u:C.bL O V X=(C.bL O V X).set R (A.gf O V):=by
   apply kU;intro j;rw[yW];split;rename_i t;subst t;simp[C.bL,v];have:=dq.1 H;rw[this.2];rfl
  rw[awd] at G L;refine⟨G,.inr ?_,λN=> ?_,λN=> ?_⟩;rcases L with rfl|L;simp;omega;simp only[oV];omega;rw[y N,WQ,B,F,aH N,WQ];simp only[C.bL,dH,ge];rw[w N,B,F,aS (by simp[N]),<-u];cases h;cases h
def amP{e:K}{M:aq}(G:M≠[]):∀{Q:bA}{N X R:aq},JS e M Q N X=U R->V5 Q=J->
  Y R=Y X/\(∀v,eU (e.ai O) Q N=U v->∃i L,v=.loc i L/\L+Y M<=Y X/\C.bL O V R=C.bL O V (mg X L M))/\(¬(e.ai O∈Q)->C.bL O V R=C.bL O V X)
 |[],[],X,R,h,_=>by simp only[JS,dW] at h;subst h;exact⟨rfl,λv F=>by simp[eU] at F,λ_=>rfl⟩|[],_::_,X,R,h,_=>by simp[JS] at h
 |k::Q,N,X,R,h,H=>by
  simp only[V5,aC,jP] at H;cases N with
  |nil=>simp[JS] at h
  |cons u N=>
   cases u<;>simp only[JS] at h<;>try cases h
   rename_i i L;split at h;rename_i A B;obtain⟨z,y,x⟩:=amP G h H.2;obtain⟨w,t,r,q⟩:=amO (O:=O) (V:=V) B
   grind [BE.ai,K.ai,fj,eU,Ju.2,WQ]
   cases h
def amQ(h:Rj r=J):r.single=true:=by cases r<;>simp only[Rj,jX] at h<;>rfl
def amR:∀{l:aq},ME l=J->l≠[]/\GN l=J
 |[],h=>by cases h|[x],h=>⟨aw,by rw[VN.2,amQ h,VN.1];rfl⟩
 |x::y::r,h=>by
  simp only[ME,aC] at h;exact⟨aw,by rw[VN.2,amQ h.1,(amR (l:=y::r) h.2).2];rfl⟩
def axJ(h:ME r.cells=J):(r.ai O V).cells.toList=C.az O V r.cells:=by
 cases r
 case agg l=>simp[C.cells,C.ai,Value.cells]
 all_goals(simp only[C.cells,ME,Rj,jX] at h)
 all_goals rfl
def axK{P:Program}{p:Sp}{L:dp}(R:aA g B D f.ty V O s a W)(m:jq P f.ty){o:Oper}{t:TypeId}{x y:Operand}{A:TI}{e:K}{N:bA}{M:aq}(l:f.ty t=U A)(j:o.op=.store t x y)(d:a.eval x=(C.gp e N M).ai O V)(c:a.eval y=(s.ev f.gl y).ai O V){k:S->T}{z:T}
  (h:acM o.dst s A e N M (s.ev f.gl y) k=U z)(Q:z.aM p O L):∃v X H,td P o a W v X/\aA g B D f.ty V O H (a.put o.dst v) X/\bB s O V H O V/\(k H).aM p O L:=by
 unfold acM at h;split at h;rename_i i b;split at h;rename_i bt cs hb;split at h;rename_i aa ab;split at h;rename_i w;simp at w;obtain⟨⟨⟨h1,h2⟩,h3⟩,r⟩:=w;cases h;simp only[T.aM] at Q;obtain⟨q,Q⟩:=Q;rw[Ww h2] at q;obtain⟨u,G⟩:=jy.1 q;obtain⟨ac,af⟩:=amR r;obtain⟨g1,g2,-⟩:=amP (O:=O) (V:=V) ac ab h3;obtain⟨i',n,rfl,ag,al⟩:=g2 u G;obtain⟨a3,hq⟩:=alQ b (M5 G);cases hq;obtain⟨F,an⟩:=AX hb;have hi:i<Y s.au:=(dq.1 (ky.1 F)).1;have a0:((s.ev f.gl y).ai O V).cells.toList=C.az O V (s.ev f.gl y).cells:=axJ r;obtain⟨X,hr,R'⟩:=R.store (P:=P) (v:=s.ev f.gl y) (off:=n) (m _ _ l) F an h1.symm ag af a0;have R2:aA g B D f.ty V O (s.cX i bt aa) a X:=R'.cells hi al.symm;refine⟨undef,X,_,.inr ⟨?_,rfl⟩,R2.put o.dst (.bH []),amn F _ _,Q⟩;have a1:(C.gp e N M).ai O V=.pointer (U ⟨ad V i,n,Z⟩):=by
  simp only[C.ai];rw[Wz G rfl];rfl
 simp only[execOp,j,d,c,a1,dv,hr,du,fu];cases h;cases h;cases h;cases h
def axL{p:Sp}{L:dp}(R:aA p.S0 p.w0 D f.ty V O s a W)(l:jq p.P f.ty)(w:eB f.gl O){aa:S->Fx->T}{q:Fx}(r:vZ O q){t:T}(h:Ct f b s aa q=U t)(n:t.aM p O L):
  ∃v F j V' X ab,td p.P b.o a W v F/\aA p.S0 p.w0 D f.ty V' j X (a.put b.o.dst v) F/\bB s O V X j V'/\vZ j ab/\(aa X ab).aM p j L:=by
 unfold Ct at h;split at h;cases h;rename_i M;have M:∀x∈b.o.op.operands.toList,(s.ev f.gl x).eY=false:=by
  intro x hx;cases hh:(s.ev f.gl x).eY;rfl;exact bF (by simp only[lg];right;exact nA.2 ⟨x,hx,hh⟩) M
 split at h
 
 rename_i i Q;cases d:VV f b.o.dst s i with
 |none=>rw[d] at h;cases h
 |some X=>
  rw[d] at h;cases h;obtain⟨v,F,V',H,G,N⟩:=axx (P:=p.P) R Q d;exact⟨v,F,O,V',X,q,H,G,N,r,n⟩
 rename_i i x y z Q;rw[Q] at M;have A:=de R w x (M x cq);have k:=de R w y (M y cq);have e3:=de R w z (M z cq);split at h;rename_i X c;cases h;obtain⟨F,H,G,N⟩:=Sd (P:=p.P) R l c;exact⟨undef,F,O,V,X,q,.inr ⟨by simp only[execOp,Q,A,k,e3,dv,H,du,fu],rfl⟩,G,N,r,n⟩;rename_i k' x' X c;cases h;obtain⟨F,H,G,N⟩:=Sd (P:=p.P) R l c;exact⟨undef,F,_,V,X,_,.inr ⟨by simp only[execOp,Q,A,k,e3,dv,H,du,fu],rfl⟩,G,N,Ki R N.ext.agree r,n⟩;cases h;rename_i i x y z Q;rw[Q] at M;have A:=de R w x (M x cq);have k:=de R w y (M y cq);have e3:=de R w z (M z cq);split at h;rename_i X c;cases h;obtain⟨F,H,G,N⟩:=Sd (P:=p.P) R l c;exact⟨undef,F,O,V,X,q,.inr ⟨by simp only[execOp,Q,A,k,e3,dv,H,du,fu],rfl⟩,G,N,r,n⟩;rename_i k' x' X c;cases h;obtain⟨F,H,G,N⟩:=Sd (P:=p.P) R l c;exact⟨undef,F,_,V,X,_,.inr ⟨by simp only[execOp,Q,A,k,e3,dv,H,du,fu],rfl⟩,G,N,Ki R N.ext.agree r,n⟩;cases h;rename_i i x Q;rw[Q] at M;have A:=de R w x (M x cq);cases d:VW f b.o.dst s i (s.ev f.gl x) with
 |none=>rw[d] at h;cases h
 |some X=>
  rw[d] at h;cases h;obtain⟨v,F,V',H,G,N⟩:=axC (P:=p.P) R l Q A d;exact⟨v,F,O,V',X,q,H,G,N,r,n⟩
 rename_i x Q;rw[Q] at M;have A:=de R w x (M x cq);obtain⟨v,F,j,X,H,G,N,u⟩:=axG (P:=p.P) rfl R l Q A h n;rcases u with⟨rfl,u⟩|u;exact⟨v,F,j,V,X,q,H,G,N,r,u⟩;exact⟨v,F,j,V,X,_,H,G,N,Ki R N.ext.agree r,u⟩;rename_i x Q;rw[Q] at M;have A:=de R w x (M x cq);obtain⟨v,X,H,G,N,u⟩:=axH (P:=p.P) R l Q A h n;exact⟨v,W,O,V,X,q,H,G,N,r,u⟩;rename_i i x y Q;rw[Q] at M;have A:=de R w x (M x cq);have k:=de R w y (M y cq);split at h;rename_i ti e ks vs ht hx;rw[hx] at A;obtain⟨v,F,X,H,G,N,u⟩:=axK (P:=p.P) R l ht Q A k h n;exact⟨v,F,O,V,X,q,H,G,N,r,u⟩;cases h;rename_i op i x y t2 Q;rw[Q] at M;have A:=de R w x (M x cq);have k:=de R w y (M y cq);split at h;obtain⟨v,X,H,G,N,u⟩:=amN (P:=p.P) R l Q (.inl ⟨rfl,rfl⟩) A k h n;exact⟨v,W,O,V,X,q,H,G,N,r,u⟩;obtain⟨v,X,H,G,N,u⟩:=amN (P:=p.P) R l Q (.inr ⟨rfl,rfl⟩) A k h n;exact⟨v,W,O,V,X,q,H,G,N,r,u⟩;cases h;cases h
end
def Sf(v:Value)(X:bA)(g:FuncId):mO:=(v::(X.map (Value.int I)++[.func (.func g) #[] #[]])).toArray
def rj(P:Program)(R:Ty)(f g:FuncId)(e:TypeId)(G:bu)(F:Bool):Prop:=
 (∀Q W,(callFunc f Q).run P W=.ok (.enter f Q) W)/\∀(W:World)(A:oY)(n X:Nat)(N aF:av)(O:aj)(M:List K)(L:bu),G.fill M=U L->bG W R (.sl e) (.mk (.slice A n X) N)->Kf W e (bI R (.sl e)).length A X->lu O L F N=U aF->
  Calls P f (Sf (.slice A n X) (M.map (K.ai O)) g) W λB H=>B=.returned (.tuple #[])/\W.grownBy H (mW A X)/\Hg W H e (bI R (.sl e)).length (mW A X) aF A X
def amS(P:Program)(N:Ty)(f:FuncId)(e:TypeId):Prop:=
 (∀M W,(callFunc f M).run P W=.ok (.enter f M) W)/\∀(W:World)(b n X:Nat)(L aF:av)(i:Int)(R Q:Nat)(G F:TypeId),W.heap[R]?=U (.cells #[.slice (U ⟨b,0,Z⟩) n X] G (0,0))->W.heap[Q]?=U (.cells #[.func (.func f) #[] #[.pointer (U ⟨R,0,Z⟩),.pointer (U ⟨Q,0,Z⟩)]] F (0,0))->R≠b->Q≠b->
  bG W N (.sl e) (.mk (.slice (U ⟨b,0,Z⟩) n X) L)->Kf W e (bI N (.sl e)).length (U ⟨b,0,Z⟩) X->xE i L=U aF->
  Calls P f #[.int I i,.pointer (U ⟨R,0,Z⟩),.pointer (U ⟨Q,0,Z⟩)] W λB H=>B=.returned (.int I (aW 0 (aF.getD i.toNat [])))/\W.grownBy H (U b)/\Hg W H e (bI N (.sl e)).length (U b) aF (U ⟨b,0,Z⟩) X
def nM(P:Program)(X:Ty)(f g:FuncId)(e:TypeId)(R:bu)(Q:Bool):Prop:=if f=g then amS P X f e else rj P X f g e R Q
def nM.of{P:Program}{X:Ty}{f g:FuncId}{R:bu}{Q:Bool}(h:rj P X f g v R Q)(N:f≠g):nM P X f g v R Q:=by
 unfold nM;rw[aS N];exact h
def Nr(P:Program)(p:bv):Prop:=∀f g e X R,p.zl f g=U (e,X,R)->nM P p.ty f g e X R
theorem WR{lt:aE->aE->Bool}{x y:aE}:∀{l:av},y∈fl lt x l<->y=x\/y∈l
 |[]=>by simp[fl]
 |z::r=>by
  simp only[fl];split;simp;simp only[fh,WR (l:=r)]
  grind
theorem amT{lt:aE->aE->Bool}{x:aE}:∀{l:av},(fl lt x l).length=Y l+1
 |[]=>rfl
 |z::r=>by
  simp only[fl];split;simp;simp[amT (l:=r)]
def ad0{lt:aE->aE->Bool}:∀(l acc:av),(∀x,x∈l.foldl (λacc x=>fl lt x acc) acc<->x∈acc\/x∈l)/\(l.foldl (λacc x=>fl lt x acc) acc).length=Y acc+Y l
 |[],acc=>aw
 |y::l,acc=>by
  obtain⟨X,R⟩:=ad0 (lt:=lt) l (fl lt y acc)
  grind [WR,amT,oV]
def amU{lt:aE->aE->Bool}{l:av}{x:aE}:x∈bN lt l<->x∈l:=by
 rw[bN,(ad0 l []).1];simp
def pN{lt:aE->aE->Bool}{l:av}:(bN lt l).length=Y l:=by
 rw[bN,(ad0 l []).2];simp
def amV{sp:bu}{R:Bool}{X aF:av}(h:ip sp R X=U aF):∀x∈aF,x∈X:=by
 cases sp with
 |dw k o N=>simp[ip] at h
 |_=>
  simp only[ip] at h;split at h;cases h;intro x Q;exact amU.1 Q;cases h
def amW{sp:bu}{R:Bool}{X aF:av}(h:ip sp R X=U aF):Y aF=Y X:=by
 cases sp with
 |dw k o Q=>simp[ip] at h
 |_=>
  simp only[ip] at h;split at h;cases h;exact pN;cases h
def wa{R:av}{b:Nat}{x:aE}(h:x∈bi R X b):x∈R:=En (GD h)
def axM(X:av)(a b:Nat):(bi X a b).length=min (b-a) (Y X-a):=by simp[bi]
theorem WS{X:av}:∀(n:Nat)(i:Int),(sU n i X).length=Y X
 |0,_=>rfl
 |n+1,i=>by
  simp only[sU];split;rfl;simp[WS n]
def Hj{X:av}(h:mq X=J){k:Nat}(R:k<Y X):0<=aW 0 (X.getD k [])/\aW 0 (X.getD k [])<=k:=by
 have:=gz.1 h k (sL.2 R)
 grind
def ad1{X:av}(h:mq X=J){i:Int}(R:0<=i)(Q:i<Y X):0<=aW 0 (X.getD i.toNat [])/\aW 0 (X.getD i.toNat [])<=i/\aW 0 (X.getD i.toNat [])<Y X:=by
 have:=Hj h (k:=i.toNat) ae;omega
def axN{R:Type}{l:List R}(h:X<Y l)(d:R):l.getD X d∈l:=by
 grind
def amX{R:av}(h:mq R=J):∀(n:Nat)(i:Int),0<=i->i<Y R->∀x∈sU n i R,x∈R
 |0,_,_,_,x,X=>X
 |n+1,i,Q,N,x,X=>by
  simp only[sU] at X;split at X;exact X;obtain⟨M,-,L⟩:=ad1 h Q N;have H:=amX h n _ M L
  grind [WS]
def Sg{i:Int}{X aF:av}(h:xE i X=U aF):Y X<=1099511627776/\0<=i/\i<Y X/\mq X=J/\aF=sU (Y X) i X:=by
 unfold xE at h
 grind
def WT{i:Int}{X aF:av}(h:xE i X=U aF):∀x∈aF,x∈X:=by
 obtain⟨-,R,Q,N,rfl⟩:=Sg h;exact amX N _ _ R Q
def ad2{i:Int}{X aF:av}(h:xE i X=U aF):Y aF=Y X:=by
 obtain⟨-,-,-,-,rfl⟩:=Sg h;exact WS _ _
def axO{o:bu}{N:bA}{Q aF:av}(h:og X o N Q=U aF):∀x∈aF,x∈Q:=by
 unfold og at h;split at h
 all_goals first|(split at h<;>first|(cases h;done)|skip)|skip
 all_goals first|(cases h;done)|skip
 all_goals
  cases h;intro x R;simp only[fg,amU] at R;rcases R with R|R;exact GD R
 all_goals
  rcases R with R|R;exact wa R
  first|exact En R|(rcases R with R|R<;>first|exact wa R|exact En R|(rcases R with R|R<;>first|exact wa R|exact En R))
def axP{o:bu}{Q:bA}{R aF:av}(h:og X o Q R=U aF):Y aF=Y R:=by
 unfold og at h;split at h
 all_goals first|(split at h<;>first|(cases h;done)|skip)|skip
 all_goals first|(cases h;done)|skip
 all_goals
  rename_i N;simp only[aC,dD] at N;cases h;simp only[f9,Mo,Cf,axM,pN];omega
def CQ{o:bu}{Q:bA}{R aF:av}(h:qz X o Q R=U aF):Y R<=1099511627776/\og X o Q R=U aF:=by
 grind [qz]
def axQ{o:bu}{Q:bA}{R aF:av}(h:qz X o Q R=U aF):∀x∈aF,x∈R:=axO (CQ h).2
def axR{o:bu}{Q:bA}{R aF:av}(h:qz X o Q R=U aF):Y aF=Y R:=axP (CQ h).2
def ad3{X:bu}{Q:Bool}{R aF:av}(h:ip X Q R=U aF):Y R<=1099511627776:=by
 cases X with
 |dw k o N=>simp[ip] at h
 |_=>
  simp only[ip] at h
  grind
def ad4{R:bu}{Q:Bool}{N aF:av}(h:lu x R Q N=U aF):∀X∈aF,X∈N:=by
 cases R with
 |dw k o M=>
  cases Q with
  |false=>exact axQ h
  |true=>
   cases M with
   |nil=>simp[lu] at h
   |cons i l=>
    cases l with|nil=>exact WT h|cons j l=>simp[lu] at h
 |lex L d=>exact amV (sp:=.lex L d) h|ratio n d=>exact amV (sp:=.ratio n d) h
def ad5{X:bu}{R:Bool}{Q aF:av}(h:lu x X R Q=U aF):Y aF=Y Q:=by
 cases X with
 |dw k o N=>
  cases R with
  |false=>exact axR h
  |true=>
   cases N with
   |nil=>simp[lu] at h
   |cons i l=>
    cases l with|nil=>exact ad2 h|cons j l=>simp[lu] at h
 |lex M d=>exact amW (sp:=.lex M d) h|ratio n d=>exact amW (sp:=.ratio n d) h
section
variable{q:ar}{w:World}{D:bT}{P:Program}{p:bv}{V:ar}{O:aj}{s:S}{a:Act}{W:World}
def axS{G aF:av}(h:fU W p.ty v G)(F:∀x∈aF,x∈G):fU W p.ty v aF:=by
 have H:∀{i:Nat}{X:aE},aF[i]?=U X->∃R,G[R]?=U X:=λh=>sK (F _ (jz h))
 refine⟨λi X Q=> ?_,λi j X c k Q M L=> ?_,λi j X c Q M L=> ?_,λi j X c z k Q M L=> ?_⟩;obtain⟨R,N⟩:=H Q;exact h.len R X N;obtain⟨R,N⟩:=H Q;exact h.int R j X c k N M L;obtain⟨R,N⟩:=H Q;exact h.bool R j X c N M L;obtain⟨R,N⟩:=H Q;exact h.bw R j X c z k N M L
def axT{R aF:av}(Q:∀x∈aF,x∈R)(h:oH p.ty v aF X):oH p.ty v R X:=by
 obtain⟨i,j,N,c,z,k,M,L,H,G⟩:=h;obtain⟨F,B⟩:=sK (Q _ (jz M));exact⟨F,j,N,c,z,k,B,L,H,G⟩
def amY{s:S}{a:Act}{W:World}{O:aj}{V:ar}(R:aA q w D p.ty V O s a W)(N:eB p.gl O){o:Oper}{g:FuncId}{X:aq}(h:ep p s o=.call (.fn g) X)
  (L:∀X W,(callFunc g X).run P W=.ok (.enter g X) W):(execOp a.eval o).run P W=.ok (.enter g (C.az O V X).toArray) W:=by
 unfold ep at h;split at h;split at h<;>cases h;rename_i c H;split at h;rename_i f G;split at h;rename_i u bD M;split at h;cases h;rename_i F;have Q:=de R N f (by rw[M];rfl);rw[M] at Q;have B:c.args.map a.eval=(C.az O V (c.args.toList.map (s.ev p.gl))).toArray:=by
  apply nD;simp only[yY,oG,oX];exact kF λx A=>de R N x (by
   cases z:(s.ev p.gl x).eY;rfl;exact bF (nA.2 ⟨x,A,z⟩) F)
 obtain⟨t,r,y,v⟩:=alB O V h;rw[y] at Q;simp only[execOp,H,resolve,G,dv,Q,Deferred.ofValue,fu,du,invoke,B,v,L];split at h<;>cases h;cases h;cases h;split at h;split at h<;>cases h;cases h;cases h;cases h
def amZ{s:S}{o:Oper}{g:Cr}{X:aq}(h:ep p s o=.call g X)(c:Call):o.op≠ .defer c:=by
 intro R;simp[ep,R] at h
def am0{O:aj}{V:ar}:∀{l:aq}{as:List K}{g:FuncId},Rk l=U (as,g)->C.az O V l=(as.map (K.ai O)).map (Value.int I)++[.func (.func g) #[] #[]]
 |[],as,g,h=>by simp[Rk] at h
 |v::r,as,g,h=>by
  unfold Rk at h;split at h;rename_i M X;cases h;injection X with R Q;subst R;subst Q;simp[C.az,C.ai];rename_i e L X;injection X with R Q;subst R;subst Q;split at h;rename_i x N;cases h;have:=am0 (O:=O) (V:=V) (as:=x.1) (g:=x.2) N;simp[C.az,C.ai,this];cases h;cases h
def am1(R:aA q w D p.ty V O s a W)(u:s.bd=J){A:oY}{n Q:Nat}{aF:av}(N:s.rs[X]?=U (.own v))(L:O.rv X=.mk (.slice A n Q) (O.rv X).ah)(H:bG W p.ty (.sl v) (.mk (.slice A n Q) (O.rv X).ah))
  (G:∀x∈aF,x∈(O.rv X).ah)(o:Y aF=(O.rv X).ah.length)(m:W.grownBy e (mW A Q))(l:Hg W e v (bI p.ty (.sl v)).length (mW A Q) aF A Q)(d:cG)(M:C):
  aA q w D p.ty V (O.add (.r (.mk (O.rv X).val aF))) ((({s with rs:=kV [] 0 (jB [X] 0 s.rs)++[.own v]}:S).iD X (Y s.rs)).put d M) (a.put d (M.ai (O.add (.r (.mk (O.rv X).val aF))) V)) e/\
   bB s O V ((({s with rs:=kV [] 0 (jB [X] 0 s.rs)++[.own v]}:S).iD X (Y s.rs)).put d M) (O.add (.r (.mk (O.rv X).val aF))) V:=by
 obtain⟨j,af⟩:=uE H;have h:CN p.ty V O s v aF []:=λb g=>by
  have F:=axT G g;have B:=Nh (O:=O) (e0:=.own v) rfl (by simpa[RE.rv] using F);exact⟨⟨X,_,N,B⟩,(R.mem.ak X _ _ N (uF R N)).2 b B,λk' t rv f c g3=>(Ni R f c g3 N rfl (by simpa[RE.rv] using F)).elim⟩
 obtain⟨z,-⟩:=R.bind u (old:=mW A Q) (kill:=[X]) (dj:=[]) (A:=A) (cap:=Q) (W':=e) (.inr ⟨X,v,O.rv X,rfl,N,uF R N,by rw[L,Nk]⟩) aw m (axS (fU.zx H) G) h l;rw[o,j] at z;have y:(O.rv X).val=.slice A n Q:=by rw[L];rfl
 rw[y];have aa:X<Y O.r:=by rw[R.er];exact(dq.1 N).1
 have ab:(O.add (.r (.mk (.slice A n Q) aF))).rv X=O.rv X:=by simp[aj.rv,aj.add,f8 aa]
 have ac:(O.add (.r (.mk (.slice A n Q) aF))).rv (Y s.rs)=.mk (.slice A n Q) aF:=by simp[aj.rv,aj.add,<-R.er]
 have R2:=(z.iD (k:=X) (n:=Y s.rs) (by rw[ab,ac,y];rfl)).put d M;refine⟨R2, ?_⟩;refine bB.put (s:=s) (s':=({s with rs:=kV [] 0 (jB [X] 0 s.rs)++[.own v]}:S).iD X (Y s.rs)) ⟨tc _ _ _ _,λi hi=> ?_, ?_,cd _⟩ _ _;simp only[S.iD];rw[Kh];exact hi;simp[S.iD,Sc]
def axU(hs:Nr P p)(R:aA q w D p.ty V O s a W)(hg:eB p.gl O)(x:s.bd=J){o:Oper}{f:FuncId}{Q:aq}(ab:ep p s o=.call (.fn f) Q){u:Cv}(h:acO p f Q s o.dst=U u){aF:av}(X:lu O u.sp u.st (u.r.rv O).ah=U aF):
  ∃Q v,(execOp a.eval o).run P W=.ok (.enter u.f Q) W/\Calls P u.f Q W λL N=>L=.returned v/\aA q w D p.ty V (O.add (.r (.mk (u.r.rv O).val aF))) u.s (a.put o.dst v) N/\bB s O V u.s (O.add (.r (.mk (u.r.rv O).val aF))) V:=by
 unfold acO at h;split at h;rename_i r an;split at h;rename_i H g ac;split at h;rename_i e t m a0;have l:p.zl f g=U (e,t,m)/\f≠g:=by
  grind
 have G:=hs f g e t m l.1;unfold nM at G;rw[aS l.2] at G;obtain⟨af,j⟩:=G;have i:(execOp a.eval o).run P W=.ok (.enter f (Sf (r.ai O) (H.map (K.ai O)) g)) W:=by
  rw[amY R hg ab af];simp only[C.az,C.ai,am0 ac,Sf]
 split at h;rename_i d c;split at h;rename_i k;split at h;rename_i hk;cases h;obtain⟨A,n,aa,h1,h2,h3⟩:=Sa R hk;have M:(RE.v k).rv O=O.rv k:=rfl;simp only[M] at X⊢;have a1:=X;have ag:=ad4 X;have F:=ad5 X;refine⟨_,.tuple #[],i, ?_⟩;have B:(RE.v k).ai O=.slice A n aa:=by rw[RE.ai,M,h1];rfl
 rw[B];refine(j W A n aa _ aF O H d c h2 h3 X).mono ?_;rintro L N ⟨rfl,z,y⟩;exact⟨rfl,am1 R x hk h1 h2 ag F z y o.dst (.bH [])⟩;cases h;cases h;have M:(RE.k (.slice Z 0 0)).rv O=.mk (.slice Z 0 0) []:=rfl;simp only[M,RV.mU,RV.pe] at X⊢;have F:=ad5 X;have h0:aF=[]:=ui (by simpa using F);subst h0;refine⟨_,.tuple #[],i, ?_⟩;have B:(RE.k (.slice Z 0 0)).ai O=.slice Z 0 0:=rfl;rw[B];refine(j W Z 0 0 [] [] O H d c (E2 _ _) ⟨λ_=>rfl,.inl rfl⟩ X).mono ?_;rintro L N ⟨rfl,z,y⟩;obtain⟨R1,-⟩:=R.bind x (old:=Z) (kill:=[]) (dj:=[]) (A:=Z) (cap:=0) (rows:=[]) (W':=N) (.inl ⟨rfl,rfl⟩) aw z (fU.zx (E2 (e:=e) Z 0)) (λb al=>(RZ al).elim) y;refine⟨rfl,R1.put o.dst (.bH []), ?_⟩;exact bB.put (s:=s) (s':={s with rs:=kV [] 0 (jB [] 0 s.rs)++[.own e]}) ⟨tc _ _ _ _,λ_ h=>h,cd _,cd _⟩ _ _;cases h;cases h;cases h;cases h;cases h
def am2(hs:Nr P p)(R:aA q w D p.ty V O s a W)(hg:eB p.gl O)(hb:s.bd=J){o:Oper}{f:FuncId}{Q:aq}(ag:ep p s o=.call (.fn f) Q){u:Cv}(h:JT p f Q s o.dst=U u){aF:av}(L:lu O u.sp u.st (u.r.rv O).ah=U aF):
  ∃Q v,(execOp a.eval o).run P W=.ok (.enter u.f Q) W/\Calls P u.f Q W λt m=>t=.returned v/\aA q w D p.ty V (O.add (.r (.mk (u.r.rv O).val aF))) u.s (a.put o.dst v) m/\bB s O V u.s (O.add (.r (.mk (u.r.rv O).val aF))) V:=by
 unfold JT at h;split at h;rename_i i N M;split at h;rename_i e o' md al;have B:=hs f f e _ J al;unfold nM at B;rw[aH rfl] at B;obtain⟨an,a0⟩:=B;split at h;rename_i H k G f' br bs l jc;split at h;rename_i j;simp only[aC,gc,jP,dD] at j;obtain⟨⟨⟨⟨⟨⟨⟨hi,e1⟩,z⟩,e2⟩,e3⟩,a1⟩,a3⟩,F⟩:=j;rw[e1,e2,e3] at jc;cases h;obtain⟨A,n,X,y,x,g⟩:=Sa R F;have a4:(RE.v k).rv O=O.rv k:=rfl;simp only[a4] at L⊢;have a9:=ad4 L;have ba:=ad5 L;have bq:xE (i.ai O) (O.rv k).ah=U aF:=L;obtain⟨-,bt,bx,-,-⟩:=Sg bq;obtain⟨hn,b0⟩:=uE x;have d:X≠0:=ae;rcases g.mem with h0|⟨b,db,hA,b1,-⟩;omega;subst hA;have bb:(O.rv k).lq=U b:=by
  rw[y,Nk];cases X with|zero=>exact(d rfl).elim|succ c=>rfl
 have hT:=R.eN k e _ b F (uF R F) bb;have aa:=R.mem.box N H _ l;have ab:=R.mem.box M G _ jc;have bc:j5 H (C.bL O V [.ak (.v k)])=.cells #[.slice (U ⟨b,0,Z⟩) n X] H (0,0):=by
  rw[qA a1];simp only[C.az,C.ai,RE.ai,RE.rv];rw[y];rfl
 have z:j5 G (C.bL O V [.fn f [.loc N 0,.loc M 0]])=.cells #[.func (.func f) #[] #[.pointer (U ⟨ad V N,0,Z⟩),.pointer (U ⟨ad V M,0,Z⟩)]] G (0,0):=by
  rw[qA a3];simp[C.ai,C.az,vV,z]
 rw[bc] at aa;rw[z] at ab;have bf:(execOp a.eval o).run P W=.ok (.enter f #[.int I (i.ai O),.pointer (U ⟨ad V N,0,Z⟩),.pointer (U ⟨ad V M,0,Z⟩)]) W:=by
  rw[amY R hg ag an];simp only[C.az,C.ai]
 refine⟨_,.int I (aW 0 (aF.getD (i.ai O).toNat [])),bf, ?_⟩;have bg:mW (U ⟨b,0,Z⟩) X=U b:=by
  cases X with|zero=>exact(d rfl).elim|succ c=>rfl
 refine(a0 W b n X _ aF (i.ai O) _ _ H G aa ab (hT.box N (by simp only[aJ,l];rfl)) (hT.box M (by simp only[aJ,jc];rfl)) x g bq).mono ?_;rintro t m ⟨rfl,ac,af⟩;rw[<-bg] at ac af;have:=am1 R hb F y x a9 ba ac af o.dst (.int I (.cell (.v (Y s.rs)) i 0));have bk:(O.add (.r (.mk (O.rv k).val aF))).rv (Y s.rs)=.mk (O.rv k).val aF:=by simp[aj.rv,aj.add,<-R.er]
 have bl:i.ai (O.add (.r (.mk (O.rv k).val aF)))=i.ai O:=K.ef (tc s.au O _ V).agree i (by rw[R.ei,R.eb,R.er];exact hi);have hd:C.ai (O.add (.r (.mk (O.rv k).val aF))) V (.int I (.cell (.v (Y s.rs)) i 0))=.int I (aW 0 (aF.getD (i.ai O).toNat [])):=by
  simp only[C.ai,K.ai,RE.rv,bk,bl];rfl
 grind
 cases h;cases h;cases h;cases h
def axV(H:Nr P p)(R:aA q w D p.ty V O s a W)(G:eB p.gl O){u:Cv}(h:EE p b s=U u){aF:av}(F:lu O u.sp u.st (u.r.rv O).ah=U aF):
  ∃X v,(execOp a.eval b.o).run P W=.ok (.enter u.f X) W/\(∀c,b.o.op≠ .defer c)/\Calls P u.f X W λA z=>A=.returned v/\aA q w D p.ty V (O.add (.r (.mk (u.r.rv O).val aF))) u.s (a.put b.o.dst v) z/\bB s O V u.s (O.add (.r (.mk (u.r.rv O).val aF))) V:=by
 unfold EE at h;split at h;cases h;rename_i Q;simp only[lg,jP,not_or,Ml] at Q;split at h;rename_i f X N;have B:=λc=>amZ N c
 split at h;rename_i t y;cases h;obtain⟨x,v,M,L⟩:=axU H R G Q.2 N y F;exact⟨x,v,M,B,L⟩;obtain⟨x,v,M,L⟩:=am2 H R G Q.2 N h F;exact⟨x,v,M,B,L⟩;cases h
def axW(N:Nr P p)(R:aA q w D p.ty V O s a W)(M:eB p.gl O){u:Cv}(h:JU p l s=U u){aF:av}(L:lu O u.sp u.st (u.r.rv O).ah=U aF):
  ∃X v,(execOp a.eval l).run P W=.ok (.enter u.f X) W/\(∀c,l.op≠ .defer c)/\Calls P u.f X W λH G=>H=.returned v/\aA q w D p.ty V (O.add (.r (.mk (u.r.rv O).val aF))) u.s (a.put l.dst v) G/\bB s O V u.s (O.add (.r (.mk (u.r.rv O).val aF))) V:=by
 unfold JU at h;split at h;cases h;rename_i F;split at h;rename_i f X Q;obtain⟨x,v,B,A⟩:=am2 N R M (by simpa using F) Q h L;exact⟨x,v,B,λc=>amZ Q c,A⟩;cases h
end
structure qC(F:Fence):Prop where
 fn:∀f,F.fn f
 zy:F.depth=Z
 eq:∀P,Machine.fenced P F=Machine.fenced P Fence.wide
def axX:qC Fence.wide:=⟨λ_=>trivial,rfl,λ_=>rfl⟩
def am3(l:Nat):qC (Fence.wide.inRound l):=⟨λ_=>trivial,rfl,λ_=>rfl⟩
def qC.calls{F:Fence}(V:qC F){P:Program}{f:FuncId}{Q:mO}{R:Ending->World->Prop}(h:Calls P f Q e R):CallsIn F X P f Q e R:=by
 have O:=(callsIn_wide (n:=X)).2 h;refine⟨V.fn f,λN _=> ?_⟩;obtain⟨W,M,L,r,c,x⟩:=O.2 N (room_wide _)
 grind [V.eq]
def ad6{p:Sp}{L:dp}{V:Fx}{b:BE}{t f:Fx->T}(Q:vZ x V)(h:(ED R V b t f).aM p x L):
  ∃W,vZ x W/\(if b.ai x then(t W).aM p x L else(f W).aM p x L):=by
 unfold ED at h;split at h
 grind [WN]
 grind [WN]
 split at h;simp only[T.aM] at h;cases X:b.ai x;exact⟨_,amy Q X,by simpa[X] using h.2 X⟩;exact⟨_,amy Q X,by simpa[X] using h.1 X⟩;exact h.elim
def cU(n:Nat)(L X:dp):Prop:=∀l,l<n->pi l X=pi l L
def cU.refl(n:Nat)(L:dp):cU n L L:=λ_ _=>rfl
def cU.trans{n m:Nat}{L X W:dp}(h:cU n L X)(k:cU m X W)(R:n<=m):cU n L W:=λl V=>(k l ae).trans (h l V)
def axY(p:Sp)(O:aj):Cr->mO->World->(Ending->World->Prop)->Prop
 |.fn g,X,W,V=>(∀X W,(callFunc g X).run p.P W=.ok (.enter g X) W)/\Calls p.P g X W V|.yl n,X,W,V=>∀(F:Fence)(_:qC F)(m:Nat),YieldAt F m p.P (O.y.getD n 0) X W V
structure jF where
 s:S
 O:aj
 V:ar
 L:dp
structure jF.lK(B:jF)(s:S)(O:aj)(V:ar)(L:dp):Prop where
 later:bB B.s B.O B.V s O V
 Kj:cU B.s.ax B.L L
def jF.lK.go{B:jF}{X:S}{W:aj}{Q:ar}{L P:dp}(h:B.lK R x t L)(N:bB R x t X W Q)(M:cU R.ax L P):B.lK X W Q P:=⟨h.later.trans N,h.Kj.trans M h.later.ax⟩
def Si(p:Sp)(A:bv)(D:bT)(B:jF)(G:ql):Prop:=
 ∀(L:dp)(g:Cr)(z:aq)(s:S)(k x:C->S->T)(O:aj)(V:ar)(a:Act)(W:World)(H:Ending->World->Prop),B.lK s O V L->
  (G g z s k x).aM p O L->aA p.S0 p.w0 D A.ty V O s a W->eB A.gl O->
  (∀v P X N Q M,bB s O V P X N->cU s.ax L M->aA p.S0 p.w0 D A.ty N X P a Q->(k v P).aM p X M->H (.returned (v.ai X N)) Q)->
  (∀v P X N Q M,bB s O V P X N->cU s.ax L M->aA p.S0 p.w0 D A.ty N X P a Q->(x v P).aM p X M->H (.panicked [{v:=v.ai X N,recovered:=E}]) Q)->
  (∀w Q u y,ee p.w0 D u y a.defers Q->p.R (.panicked w) Q->H (.panicked w) Q)->
  axY p O g (C.az O V z).toArray W H
section
variable{p:Sp}{A:bv}{G:ql}{F:Fence}{D:bT}{ops:dC}
def am4{a:Act}(Q:aA p.S0 p.w0 D A.ty t x R a e){j:Nat}(N:(ops[j]?).bind (·.dst)=U X):
  (∀b,R.tmps[X]?=U (.bool b)->yielded ops a.tmps j=U (b.ai x))/\(R.tmps[X]?=U (.bH [])->yielded ops a.tmps j=Z):=by
 constructor;intro b P;rcases Q.tmps X _ P with h|h;cases h;simp[yielded,N,h,C.ai];intro P;rcases Q.tmps X _ P with h|h;cases h;simp[yielded,N,h,C.ai]
def WU{s:S}{a:Act}{W:World}{O:aj}{V:ar}(R:aA p.S0 p.w0 D A.ty V O s a W)(N:eB A.gl O){o:Oper}{g:FuncId}{X:aq}(h:ep A s o=.call (.fn g) X)
  (L:∀X W,(callFunc g X).run p.P W=.ok (.enter g X) W):(execOp a.eval o).run p.P W=.ok (.enter g (C.az O V X).toArray) W:=by
 unfold ep at h;split at h;split at h<;>cases h;rename_i c H;split at h;rename_i f G;split at h;rename_i t bD M;split at h;cases h;rename_i B;have Q:=de R N f (by rw[M];rfl);rw[M] at Q;have z:c.args.map a.eval=(C.az O V (c.args.toList.map (s.ev A.gl))).toArray:=by
  apply nD;simp only[yY,oG,oX];exact kF λx y=>de R N x (by
   cases w:(s.ev A.gl x).eY;rfl;exact bF (nA.2 ⟨x,y,w⟩) B)
 obtain⟨r,q,v,u⟩:=alB O V h;rw[v] at Q;simp only[execOp,H,resolve,G,dv,Q,Deferred.ofValue,fu,du,invoke,z,u,L];split at h<;>cases h;cases h;cases h;split at h;split at h<;>cases h;cases h;cases h;cases h
def ad7{s:S}{a:Act}{W:World}{O:aj}{V:ar}(R:aA p.S0 p.w0 D A.ty V O s a W)(X:eB A.gl O){o:Oper}{n:Nat}{Q:aq}(h:ep A s o=.call (.yl n) Q):
  (execOp a.eval o).run p.P W=(Instr.yield (O.y.getD n 0) (C.az O V Q).toArray).run p.P W:=by
 unfold ep at h;split at h;split at h<;>cases h;rename_i c L;split at h;rename_i f H;split at h;split at h;cases h;exact(awI h).elim;rename_i v N;split at h;cases h;rename_i G;cases h;have M:=de R X f (by rw[N];rfl);rw[N,C.ai] at M;have B:c.args.map a.eval=(C.az O V (c.args.toList.map (s.ev A.gl))).toArray:=by
  apply nD;simp only[yY,oG,oX];exact kF λx z=>de R X x (by
   cases w:(s.ev A.gl x).eY;rfl;exact bF (nA.2 ⟨x,z,w⟩) G)
 simp[execOp,L,resolve,H,M,Deferred.ofValue,invoke,B];cases h;cases h;split at h;split at h<;>cases h;cases h;cases h;cases h
def ad8{s:S}{O:aj}{V:ar}{L:dp}{e:K}{N:FuncId->aq->T}:∀{R:bA}{Q:aq},(GS e N R Q).aM p O L->∃g bD,ln (e.ai O) R (C.az O V Q)=.func (.func g) #[] (C.az O V bD).toArray/\(N g bD).aM p O L
 |[],Q,h=>by simp only[GS] at h;exact h.elim|k::R,[],h=>by simp only[GS] at h;exact h.elim
 |k::R,v::Q,h=>by
  unfold GS at h;split at h;rename_i M H g bD G X W;simp at X W;obtain⟨rfl,rfl⟩:=X;obtain⟨rfl,rfl⟩:=W;simp only[T.aM,BE.ai,fj,K.ai] at h;by_cases P:e.ai O=k;have X:=h.1 (by simp[P]);cases B:kq g 1000000;rw[B] at X;exact X.elim
  grind [C.az,C.ai,ln,jm,adb]
  obtain⟨A,z,y,x⟩:=ad8 (s:=s) (V:=V) (h.2 (by simp[P]))
  grind [C.az,ln]
  rename_i M H G X W;simp at X W;obtain⟨rfl,rfl⟩:=X;obtain⟨rfl,rfl⟩:=W;simp only[T.aM,BE.ai,fj,K.ai] at h;by_cases P:e.ai O=k
  grind
  obtain⟨A,z,y,x⟩:=ad8 (s:=s) (V:=V) (h.2 (by simp[P]))
  grind [C.az,ln]
  exact h.elim
def axZ{s:S}{a:Act}{W:World}{O:aj}{V:ar}(R:aA p.S0 p.w0 D A.ty V O s a W)(Q:eB A.gl O){m:OM}{e:K}{N:bA}{M X bD:aq}{g:FuncId}(h:Cu A m s=U (e,N,M,X))
  (y:ln (e.ai O) N (C.az O V M)=.func (.func g) #[] (C.az O V bD).toArray)(w:∀X W,(callFunc g X).run p.P W=.ok (.enter g X) W):
  (execOp a.eval m.o).run p.P W=.ok (.enter g (C.az O V (X++bD)).toArray) W/\∀c,m.o.op≠ .defer c:=by
 unfold Cu at h;split at h;cases h;split at h;rename_i c L;split at h;rename_i f v;split at h;rename_i q n l H;split at h;cases h;rename_i G;simp only[lg,not_or] at G;cases h;have B:=de R Q f (by rw[H];rfl);rw[H,C.ai,y] at B;have u:c.args.map a.eval=(C.az O V (c.args.toList.map (s.ev A.gl))).toArray:=by
  apply nD;simp only[yY,oG,oX];exact kF λx t=>de R Q x (by
   cases r:(s.ev A.gl x).eY;rfl;exact bF (nA.2 ⟨x,t,r⟩) G.1)
 refine⟨?_,λk z=>by rw[L] at z;cases z⟩;simp only[execOp,L,resolve,v,dv,B,Deferred.ofValue,fu,du,invoke,u,G6];simp only[List.append_toArray,w,da];cases h;cases h;cases h
def am5{a:Act}(X:aA p.S0 p.w0 D A.ty t x R a e)(G:eB A.gl x)(h:ep A R l=.bp r):
  (execOp a.eval l).run p.P e=.halt (.panic (r.ai x t)) e:=by
 unfold ep at h;split at h;rename_i Q H;split at h;rename_i N y L;cases h;have M:=de X G Q (by rw[L];rfl);rw[L] at M;simp[execOp,H,M,C.ai,Instr.panic];cases h;rename_i c H;split at h;split at h;split at h;cases h;exact(alA h).elim
 grind
 cases h;cases h;rename_i z;split at h;rename_i Q L;split at h;rename_i N y B;cases h;have M:=de X G Q (by rw[B];rfl);rw[B] at M;have:c.args.map a.eval= #[a.eval Q]:=by apply nD;simp[L]
 simp[execOp,H,resolve,z,invoke,builtin,this,M,C.ai,Instr.panic];cases h;cases h;cases h;cases h
def A6{a:Act}{R:World}{v:Value}{V:Act->World->Prop}{Q:Exit->Act->World->Prop}(N:qC F)(h:td p.P l a e v R)(M:∀c,l.op≠ .defer c)(O:V (a.put l.dst v) R):l.wpIn F X p.P a e V Q:=by
 refine⟨λf _=>N.fn f, ?_⟩;rw[AI _ _ _ M];rcases h with h|⟨h,rfl⟩;rw[h];exact O;rw[h];exact O
def ad9{bM X:Bool}{b:BI}(h:eW A l bM X R=U b):∀c,l.op≠ .defer c:=by
 intro c G;simp[eW,G] at h
def ax0{X:S->Fx->T}{W:Fx}{t:T}(h:Ct A b R X W=U t):∀c,b.o.op≠ .defer c:=by
 intro c G;simp[Ct,G] at h
def Sj{X:S}(h:(gI A b R).gives x X):∀c,b.o.op≠ .defer c:=by
 intro c G;unfold gI at h;split at h;exact h.elim;rw[G] at h;simp[cw,xz,OR.gives] at h
def A7(ba:p.ty=A.ty)(bb:Nr p.P A)(hF:qC F)(an:jq p.P A.ty){B:jF}(hH:Si p A D B G){n:Nat}{k:S->T}{kp:C->S->T}{Q:Exit->Act->World->Prop}(HP:∀ch a' N pd y,ee p.w0 D pd y a'.defers N->p.R (.panicked ch) N->Q (.panic ch) a' N):
  ∀(l:cQ)(j:Nat)(s:S)(fx:Fx)(L:dp)(O:aj)(V:ar)(a:Act)(W:World),
   (∀i m,l[i]?=U m->ops[j+i]?=U m.o)->B.lK s O V L->
   (lH A G ops k kp l s fx).aM p O L->vZ O fx->aA p.S0 p.w0 D A.ty V O s a W->eB A.gl O->
   (∀H O' V' a' N L',bB s O V H O' V'->cU s.ax L L'->aA p.S0 p.w0 D A.ty V' O' H a' N->(k H).aM p O' L'->Q .normal a' N)->
   (∀v H O' V' a' N L',bB s O V H O' V'->cU s.ax L L'->aA p.S0 p.w0 D A.ty V' O' H a' N->(kp v H).aM p O' L'->Q (.panic [{v:=v.ai O' V',recovered:=E}]) a' N)->
   wpOpsIn F n p.P ops Q (zd j (Y l)) a W
 |[],j,s,fx,L,O,V,a,W,_,_,h,_,R,_,hk,_=>hk s O V a W L (bB.refl _ _ _) (cU.refl _ _) R h
 |m::af,j,s,fx,L,O,V,a,W,b6,hB,h,bx,R,hg,hk,a0=>by
  have ho:ops[j]?=U m.o:=by simpa using b6 0 m rfl
  have bd:∀i m',af[i]?=U m'->ops[j+1+i]?=U m'.o:=λi m' hi=>by
   have:=b6 (i+1) m' (by simpa using hi)
   rwa [show j+(i+1)=j+1+i from ae] at this
  simp only[oV,acj,wpOpsIn,ho];have b2:∀ag,vZ O ag->
    (Cw A G m s (lH A G ops k kp af) kp ag).aM p O L->
    m.o.wpIn F n p.P a W (wpOpsIn F n p.P ops Q (zd (j+1) (Y af))) Q:=by
   intro ag a1 h;unfold Cw at h;have bq:∀g al,(G (.fn g) al s (λv H=>lH A G ops k kp af (H.put m.o.dst v) (qo s ag)) kp).aM p O L->((∀al W,(callFunc g al).run p.P W=.ok (.enter g al) W)->(execOp a.eval m.o).run p.P W=.ok (.enter g (C.az O V al).toArray) W)->(∀c,m.o.op≠ .defer c)->
     m.o.wpIn F n p.P a W (wpOpsIn F n p.P ops Q (zd (j+1) (Y af))) Q:=by
    intro g al h b3 bf;have hC:=hH L (.fn g) al s _ _ O V a W (λe N=>match e with|.returned v=>wpOpsIn F n p.P ops Q (zd (j+1) (Y af)) (a.put m.o.dst v) N|.panicked ch=>Q (.panic ch) a N|.outgrown=>LetsOut Q) hB h R hg
     (λv H O' V' N L' X hL R' hs=>A7 ba bb hF an hH HP af (j+1) (H.put m.o.dst v) (qo s ag) L' O' V' _ N bd (hB.go (X.put _ _) hL) hs
      (Ki R X.ext.agree a1) (R'.put m.o.dst v) (hg.ext X.ext)
      (λM z x a2 w r aa ab R2 ac=>hk M z x a2 w r ((X.put _ _).trans aa) (hL.trans ab (X.put _ _).ax) R2 ac)
      (λv2 M z x a2 w r aa ab R2 ac=>a0 v2 M z x a2 w r ((X.put _ _).trans aa) (hL.trans ab (X.put _ _).ax) R2 ac))
     (λv H O' V' N L' X hL R' hs=>a0 v H O' V' a N L' X hL R' hs)
     (λch N pd y hA hR=>HP ch a N pd y hA hR)
    obtain⟨br,b4⟩:=hC;refine⟨λf _=>hF.fn f, ?_⟩;rw[AI _ _ _ bf,b3 br];rw[VD];refine⟨λhd=>by rw[hF.zy] at hd;simp at hd,CallsIn.mono (hF.calls b4) (λe N he=> ?_)⟩;cases e<;>exact he
   split at h;rename_i e ks vs al b7;obtain⟨g,bD,q1,q2⟩:=ad8 (s:=s) (V:=V) h;refine bq g (al++bD) q2 (λbr=>(axZ R hg b7 q1 br).1) ?_;intro c bg;simp[Cu,bg] at b7;split at h;rename_i u hu;obtain⟨aF,hr,h⟩:=h;obtain⟨al,tv,b3,bf,b4⟩:=axV bb R hg hu hr;refine⟨λf _=>hF.fn f, ?_⟩;rw[AI _ _ _ bf,b3];rw[VD];refine⟨λhd=>by rw[hF.zy] at hd;simp at hd,CallsIn.mono (hF.calls b4) (λe N he=> ?_)⟩;obtain⟨rfl,R',X⟩:=he;exact A7 ba bb hF an hH HP af (j+1) u.s (qo s ag) L _ V _ N bd (hB.go X (cU.refl _ _)) h (Ki R X.ext.agree a1) R' (hg.ext X.ext)
    (λM z x a2 w r aa ab R2 ac=>hk M z x a2 w r (X.trans aa) ((cU.refl _ _).trans ab X.ax) R2 ac)
    (λv2 M z x a2 w r aa ab R2 ac=>a0 v2 M z x a2 w r (X.trans aa) ((cU.refl _ _).trans ab X.ax) R2 ac)
   split at h;rename_i g al bs;exact bq g al h (λbr=>WU R hg bs br) (λc bg=>by simp[ep,bg] at bs);rename_i yn al bs;split at h;have hC:=hH L (.yl yn) al s _ _ O V a W (λe N=>match e with|.returned v=>wpOpsIn F n p.P ops Q (zd (j+1) (Y af)) (a.put m.o.dst v) N|.panicked ch=>Q (.panic ch) a N|.outgrown=>LetsOut Q) hB h R hg
    (λv H O' V' N L' X hL R' hs=>A7 ba bb hF an hH HP af (j+1) (H.put m.o.dst v) (qo s ag) L' O' V' _ N bd (hB.go (X.put _ _) hL) hs
     (Ki R X.ext.agree a1) (R'.put m.o.dst v) (hg.ext X.ext)
     (λM z x a2 w r aa ab R2 ac=>hk M z x a2 w r ((X.put _ _).trans aa) (hL.trans ab (X.put _ _).ax) R2 ac)
     (λv2 M z x a2 w r aa ab R2 ac=>a0 v2 M z x a2 w r ((X.put _ _).trans aa) (hL.trans ab (X.put _ _).ax) R2 ac))
    (λv H O' V' N L' X hL R' hs=>a0 v H O' V' a N L' X hL R' hs)
    (λch N pd y hA hR=>HP ch a N pd y hA hR)
   obtain⟨fn,cp,assign,body,hy,cc⟩:=hC F hF (n-1);refine⟨λf _=>hF.fn f, ?_⟩;have bf:∀c,m.o.op≠ .defer c:=λc bg=>by simp[ep,bg] at bs
   rw[AI _ _ _ bf,ad7 R hg bs,hy];rw[av3];refine⟨λhd=>by rw[hF.zy] at hd;simp at hd,RoundIn.mono cc (λe N he=> ?_)⟩;cases e<;>exact he;exact h.elim;rename_i v b8;refine⟨λf _=>hF.fn f, ?_⟩;have bf:∀c,m.o.op≠ .defer c:=λc bg=>by simp[ep,bg] at b8
   rw[AI _ _ _ bf,am5 R hg b8];exact a0 v s O V a W L (bB.refl _ _ _) (cU.refl _ _) R h;exact h.elim;have b0:∀H b1,vZ O b1->(gI A m s).gives O H->(lH A G ops k kp af H b1).aM p O L->m.o.wpIn F n p.P a W (wpOpsIn F n p.P ops Q (zd (j+1) (Y af))) Q:=by
    intro H b1 cl ca hs;obtain⟨v,N,V',bt,R',X⟩:=R8 R an hg m ca;exact A6 hF bt (Sj ca) (A7 ba bb hF an hH HP af (j+1) H b1 L O V' _ N bd (hB.go X (cU.refl _ _)) hs cl R' hg
     (λM z x a2 w r aa ab R2 ac=>hk M z x a2 w r (X.trans aa) ((cU.refl _ _).trans ab X.ax) R2 ac)
     (λv2 M z x a2 w r aa ab R2 ac=>a0 v2 M z x a2 w r (X.trans aa) ((cU.refl _ _).trans ab X.ax) R2 ac))
   split at h;rename_i t ht;obtain⟨v,N,O',V',H,a3,bt,R',X,a4,h2⟩:=axL R an hg a1 ht h;exact A6 hF bt (ax0 ht) (A7 ba bb hF an hH HP af (j+1) H a3 L O' V' _ N bd (hB.go X (cU.refl _ _)) h2 a4 R' (hg.ext X.ext)
    (λM z x a2 w r aa ab R2 ac=>hk M z x a2 w r (X.trans aa) ((cU.refl _ _).trans ab X.ax) R2 ac)
    (λv2 M z x a2 w r aa ab R2 ac=>a0 v2 M z x a2 w r (X.trans aa) ((cU.refl _ _).trans ab X.ax) R2 ac))
   split at h;rename_i b hb;obtain⟨hn,h⟩:=h;obtain⟨v,N,rv,bt,cn,R',X⟩:=adR R an hg hb hn;exact A6 hF bt (ad9 hb) (A7 ba bb hF an hH HP af (j+1) b.s (qo s ag) L _ V _ N bd (hB.go X (cU.refl _ _)) (h rv (by rw[ba];exact cn)) (Ki R X.ext.agree a1) R' (hg.ext X.ext)
    (λM z x a2 w r aa ab R2 ac=>hk M z x a2 w r (X.trans aa) ((cU.refl _ _).trans ab X.ax) R2 ac)
    (λv2 M z x a2 w r aa ab R2 ac=>a0 v2 M z x a2 w r (X.trans aa) ((cU.refl _ _).trans ab X.ax) R2 ac))
   split at h;rename_i H bk;exact b0 H ag a1 (by rw[bk];rfl) h;rename_i b H bk;exact b0 H ag a1 (by rw[bk];exact⟨h.1,rfl⟩) h.2;rename_i b s1 M bk;obtain⟨a3,a4,h2⟩:=ad6 a1 h;cases hb:b.ai O;exact b0 M a3 a4 (by rw[bk];simp[OR.gives,hb]) (by simpa[hb] using h2);exact b0 s1 a3 a4 (by rw[bk];simp[OR.gives,hb]) (by simpa[hb] using h2);exact h.elim
  have b5:∀ag,vZ O ag->(lH A G ops k kp af (s.put m.o.dst (.bH [])) ag).aM p O L->wpOpsIn F n p.P ops Q (zd (j+1) (Y af)) (a.put m.o.dst undef) W:=
   λag a1 h=>A7 ba bb hF an hH HP af (j+1) _ ag L O V _ W bd (hB.go ((bB.refl _ _ _).put _ _) (cU.refl _ _)) h a1 (R.put m.o.dst (.bH [])) hg
    (λM z x a2 w r aa ab R2 ac=>hk M z x a2 w r (((bB.refl _ _ _).put _ _).trans aa) ((cU.refl _ _).trans ab ((bB.refl s O V).put _ _).ax) R2 ac)
    (λv2 M z x a2 w r aa ab R2 ac=>a0 v2 M z x a2 w r (((bB.refl _ _ _).put _ _).trans aa) ((cU.refl _ _).trans ab ((bB.refl s O V).put _ _).ax) R2 ac)
  simp only[lH,V6] at h;cases bc:m.o.guard with
  |none=>
   rw[bc] at h;have:lG m.o (yielded ops a.tmps)=true:=by simp[lG,bc]
   rw[aH this];exact b2 fx bx h
  |some q=>
   obtain⟨jj,co⟩:=q;rw[bc] at h;simp only at h;split at h;rename_i d hd;have hy:=am4 R hd;split at h;rename_i b hb;have bl:=hy.1 b hb;cases co;simp only[jX,ku] at h;obtain⟨a3,a4,h2⟩:=ad6 bx h;cases a9:b.ai O;have:lG m.o (yielded ops a.tmps)=true:=by simp[lG,bc,bl,a9]
   rw[aH this];exact b2 a3 a4 (by simpa[a9] using h2);have:¬lG m.o (yielded ops a.tmps)=true:=by simp[lG,bc,bl,a9]
   rw[aS this];exact⟨λf _=>hF.fn f,b5 a3 a4 (by simpa[a9] using h2)⟩;simp only[dO] at h;obtain⟨a3,a4,h2⟩:=ad6 bx h;cases a9:b.ai O;have:¬lG m.o (yielded ops a.tmps)=true:=by simp[lG,bc,bl,a9]
   rw[aS this];exact⟨λf _=>hF.fn f,b5 a3 a4 (by simpa[a9] using h2)⟩;have:lG m.o (yielded ops a.tmps)=true:=by simp[lG,bc,bl,a9]
   rw[aH this];exact b2 a3 a4 (by simpa[a9] using h2);rename_i hb;have bl:=hy.2 hb;have:¬lG m.o (yielded ops a.tmps)=true:=by simp[lG,bc,bl]
   rw[aS this];exact⟨λf _=>hF.fn f,b5 fx bx h⟩;exact h.elim;exact h.elim
end
section
variable{d:ar}{m:World}{D:bT}{o:Ty}{V:ar}{O:aj}{s:S}{a:Act}{W:World}
def WV(X:ar):∀(l:bm)(n i:Nat),(sP X n l)[i]?=(l[i]?).map λx=>if X.contains (n+i) then x else Z
 |[],n,i=>by simp[sP]|x::R,n,0=>by simp[sP]
 |x::R,n,i+1=>by
  simp only[sP,vC];rw[WV X R (n+1) i,show n+1+i=n+(i+1) from ae]
theorem aea:∀(l:bm)(i:Nat),bP (uu l) i=bP l i
 |[],i=>rfl
 |x::R,i=>by
  have X:=aea R;simp only[uu];split;rename_i Q;cases i with
  |zero=>simp[bS]
  |succ i=>
   have:=X i
   grind [bS]
  cases i with|zero=>simp[bS]|succ i=>simpa[bS] using X i
def am6{l:bm}{b:TypeId×aq}(h:bP (uu (sP t 0 l)) X=U b):bP l X=U b:=by
 rw[aea,ky,WV] at h;rw[ky];cases R:l[X]? with
 |none=>rw[R] at h;cases h
 |some x=>
  rw[R] at h;simp only[ga,dW] at h;split at h;rw[h];cases h
def WW{l:bm}(h:aJ (uu (sP t 0 l)) X=J):aJ l X=true:=by
 obtain⟨b,R⟩:=jy.1 h;simp[aJ,am6 R]
def jE.adf{P:bm}{N:bo}(R:jE d m V O P o N W)(L:ar):jE d m V O (uu (sP L 0 P)) o N W:=
 ⟨R.base,λi h=>R.own i (WW h),λi j X Q=>R.inj i j (WW X) (WW Q),λi t H h=>R.box i t H (am6 h),
  λk e M X Q=>⟨(R.ak k e M X Q).1,λb G i F=>(R.ak k e M X Q).2 b G i (WW F)⟩⟩
def am7{l:bm}{i:Nat}{b:TypeId×aq}(h:bP (uu (l.take X)) i=U b):bP l i=U b:=by
 grind [aea,ky]
def WX{l:bm}{i:Nat}(h:aJ (uu (l.take X)) i=J):aJ l i=true:=by
 obtain⟨b,R⟩:=jy.1 h;simp[aJ,am7 R]
def jE.take{P:bm}{N:bo}(R:jE d m V O P o N W)(n:Nat):jE d m V O (uu (P.take n)) o N W:=
 ⟨R.base,λi h=>R.own i (WX h),λi j X Q=>R.inj i j (WX X) (WX Q),λi t L h=>R.box i t L (am7 h),
  λk e M X Q=>⟨(R.ak k e M X Q).1,λb H i G=>(R.ak k e M X Q).2 b H i (WX G)⟩⟩
def uG:∀(X:aL)(s:S),(s.bU X).2.au=s.au/\(s.bU X).2.tmps=s.tmps/\(s.bU X).2.ax=s.ax/\(s.bU X).2.lk=s.lk
 |[],s=>⟨rfl,rfl,rfl,rfl⟩
 |k::X,s=>by
  simp only[S.bU];obtain⟨R,Q,P,N⟩:=uG X (s.fresh k).2;cases k<;>exact⟨R,Q,P,N⟩
def aeb:∀(X:aL)(s:S),(s.bU X).2.pd=s.pd
 |[],s=>rfl
 |k::X,s=>by
  simp only[S.bU];rw[aeb X (s.fresh k).2];cases k<;>rfl
def Hk:∀(X:aZ)(O:aj),(O.ext X).y=O.y
 |[],O=>rfl
 |x::X,O=>by
  simp only[aj.ext];rw[Hk X (O.add x)];cases x<;>rfl
def am8:∀(X:aL)(s:S)(k:Nat)(e:RK),s.rs[k]?=U e->(s.bU X).2.rs[k]?=U e
 |[],s,k,e,h=>h
 |q::X,s,k,e,h=>by
  simp only[S.bU];refine am8 X _ k e ?_;cases q;exact h;exact h
  grind [S.fresh]
def xK:∀(X:aL)(R:aZ)(s:S)(O:aj),dJ X R->Y O.i=s.ni->Y O.b=s.nb->Y O.r=Y s.rs->
  (O.ext R).i.length=(s.bU X).2.ni/\(O.ext R).b.length=(s.bU X).2.nb/\(O.ext R).r.length=(s.bU X).2.rs.length
 |[],[],s,O,_,Q,P,N=>⟨Q,P,N⟩|[],_::_,_,_,h,_,_,_=>by simp[dJ] at h|_::_,[],_,_,h,_,_,_=>by simp[dJ] at h
 |k::X,x::R,s,O,h,Q,P,N=>by
  obtain⟨L,M⟩:=h;simp only[S.bU,aj.ext];cases k<;>cases x<;>simp[qy] at L;exact xK X R _ _ M (by simp[S.fresh,aj.add,Q]) (by simp[S.fresh,aj.add,P]) (by simp[S.fresh,aj.add,N]);exact xK X R _ _ M (by simp[S.fresh,aj.add,Q]) (by simp[S.fresh,aj.add,P]) (by simp[S.fresh,aj.add,N]);exact xK X R _ _ M (by simp[S.fresh,aj.add,Q]) (by simp[S.fresh,aj.add,P]) (by simp[S.fresh,aj.add,N])
def Hl{PP:RK->RV->Prop}:∀(R:aL)(Q:aZ)(s:S)(O:aj),dJ R Q->Y O.r=Y s.rs->
  (∀(q:Nat)(e:RK)(X:RV),R[q]?=U (.ak e)->Q[q]?=U (.r X)->PP e X)->(∀(k:Nat)(e:RK)(X:RV),s.rs[k]?=U e->O.r[k]?=U X->PP e X)->
  ∀(k:Nat)(e:RK)(X:RV),(s.bU R).2.rs[k]?=U e->(O.ext Q).r[k]?=U X->PP e X
 |[],[],s,O,_,_,_,M=>M|[],_::_,_,_,h,_,_,_=>by simp[dJ] at h|_::_,[],_,_,h,_,_,_=>by simp[dJ] at h
 |k::R,x::Q,s,O,h,L,F,M=>by
  obtain⟨B,H⟩:=h;have G:∀(q:Nat)(e:RK)(X:RV),R[q]?=U (.ak e)->Q[q]?=U (.r X)->PP e X:=λq e X N P=>F (q+1) e X (by simpa using N) (by simpa using P)
  simp only[S.bU,aj.ext];cases k<;>cases x<;>simp[qy] at B;exact Hl R Q _ _ H (by simp[S.fresh,aj.add,L]) G (by simpa[S.fresh,aj.add] using M);exact Hl R Q _ _ H (by simp[S.fresh,aj.add,L]) G (by simpa[S.fresh,aj.add] using M);rename_i A z;refine Hl R Q _ _ H (by simp[S.fresh,aj.add,L]) G ?_;intro k e X N P;simp only[S.fresh,aj.add] at N P;by_cases B:k<Y s.rs
  grind
  have y:k=Y s.rs:=by
   grind
  subst y;simp at N;rw[<-L] at P;simp at P;subst N P;exact F 0 A z rfl rfl
def Hm:aL->Nat
 |[]=>0|.ak _::X=>Hm X+1|_::X=>Hm X
def Ns:∀(X:aL)(P:aZ)(s:S)(O:aj),dJ X P->Y O.r=Y s.rs->
  ∀(k:Nat)(e:RK)(R:RV),(s.bU X).2.rs[k]?=U e->(O.ext P).r[k]?=U R->(s.rs[k]?=U e/\O.r[k]?=U R)\/∃q:Nat,X[q]?=U (.ak e)/\P[q]?=U (.r R)/\k=Y s.rs+Hm (X.take q)
 |[],[],s,O,_,_,k,e,R,N,M=>.inl ⟨N,M⟩|[],_::_,_,_,h,_,_,_,_,_,_=>by simp[dJ] at h|_::_,[],_,_,h,_,_,_,_,_,_=>by simp[dJ] at h
 |B::X,x::P,s,O,h,L,k,e,R,N,M=>by
  obtain⟨A,G⟩:=h;simp only[S.bU,aj.ext] at N M;cases B<;>cases x<;>simp[qy] at A;rcases Ns X P _ _ G (by simp[S.fresh,aj.add,L]) k e R N M with Q|⟨q,Q⟩
  grind [S.fresh,aj.add]
  exact .inr ⟨q+1,by simpa[S.fresh,Hm] using Q⟩;rcases Ns X P _ _ G (by simp[S.fresh,aj.add,L]) k e R N M with Q|⟨q,Q⟩
  grind [S.fresh,aj.add]
  exact .inr ⟨q+1,by simpa[S.fresh,Hm] using Q⟩;rename_i y w;rcases Ns X P _ _ G (by simp[S.fresh,aj.add,L]) k e R N M with⟨F,H⟩|⟨q,Q⟩;simp only[S.fresh,aj.add] at F H;by_cases v:k<Y s.rs
  grind
  have z:k=Y s.rs:=by
   grind
  subst z;simp at F;rw[<-L] at H;simp at H;subst F H;exact .inr ⟨0,rfl,rfl,by simp[Hm]⟩;refine .inr ⟨q+1,by simpa using Q.1,by simpa using Q.2.1, ?_⟩
  grind [S.fresh,Hm]
def am9:∀{ks:aL}{q:Nat}{e:RK},ks[q]?=U (.ak e)->MF ks=J
 |[],q,e,h=>by simp at h|k::ks,0,e,h=>by simp at h;subst h;rfl
 |k::ks,q+1,e,h=>by
  have:=am9 (ks:=ks) (q:=q) (by simpa using h);cases k<;>first|exact this|rfl
def WY:∀{R:aL}{q:Nat}{k:LK},mT R=J->R[q]?=U k->JZ k=J
 |[],q,k,_,h=>by simp at h|Q::R,0,k,X,h=>by simp only[mT,aC] at X;simp at h;subst h;exact X.1|Q::R,q+1,k,X,h=>by simp only[mT,aC] at X;exact WY X.2 (by simpa using h)
def WZ{B:Nat}{M:Nat->Prop}:∀{N:aL}{P:aZ},CG o W B M N P->∀(q:Nat)(e:RK)(X:RV),N[q]?=U (.ak e)->P[q]?=U (.r X)->bG W o e X/\∀b,dV o e X b->B<=b\/M b
 |[],P,_,q,e,X,R,_=>by simp at R|_::_,[],_,q,e,X,_,Q=>by simp at Q|k::N,x::P,h,0,e,X,R,Q=>by simp at R Q;subst R Q;exact h.1|k::N,x::P,h,q+1,e,X,R,Q=>WZ h.2 q e X (by simpa using R) (by simpa using Q)
def aA.called(R:aA d m D o V O s a W)(w:s.bd=J){P:aL}(g:mT P=J){N:aZ}(B:dJ P N)(v:Below W.heap.size W e){f:Nat->Prop}(ho:∀b,f b->O.ph o s.rs b/\∀(k:Nat)(X:TypeId)(Q:RV),s.rs[k]?=U (.own X)->O.r[k]?=U Q->Q.lq=U b->MF P=E)
  (c:CG o e W.heap.size f P N):
  aA d m D o V (O.ext N) (s.bU P).2 a e:=by
 obtain⟨L,e2,e3,e4⟩:=uG P s;obtain⟨l1,l2,l3⟩:=xK P N s O B R.ei R.eb R.er;obtain⟨aa,ab⟩:=R.zw w;have hE:=CI s.au O N V;have H:=R.mem.below v;refine⟨⟨H.base,by rw[L];exact H.own,by rw[L];exact H.inj, ?_, ?_⟩,by rw[L];exact R.gC,l1,l2,l3,by rw[Hk,aeb];exact R.dl.below v,by rw[e2];exact R.size, ?_, ?_⟩;rw[L];intro i t cs h;rw[hE.bL (ta ab h)];exact H.box i t cs h;rw[L];refine Hl (PP:=λX Q=>bG e o X Q/\∀b,dV o X Q b->∀i,aJ s.au i=J->ad V i≠b) P N s O B R.er ?_ (λk X Q M G=>H.ak k X Q M G);intro q X Q M G;obtain⟨u,h4⟩:=WZ c q X Q M G;refine⟨u,λb w i hi=> ?_⟩;rcases h4 b w with A|A;have:=R.mem.lt hi;omega;obtain⟨⟨k,z,hk,hx⟩,-⟩:=ho b A;exact(R.mem.ak k _ _ hk (uF R hk)).2 b hx i hi;rw[e2];intro t sv h;rcases R.tmps t sv h with M|M
 grind
 right;rw[hE.ai (xG aa h)];exact M;rw[L];intro k X Q b M G u;rcases Ns P N s O B R.er k _ Q M G with⟨n,g2⟩|⟨q,n,g2,-⟩;have t:=R.eN k X Q b n g2 u;have y:=t.world (v.block b t.lt);refine⟨y.own,y.mem,y.box,λk' z l q1 q2 q3 x=> ?_,y.inner⟩;rcases Ns P N s O B R.er k' z l q2 q3 with⟨F,j⟩|⟨q,F,j,-⟩;exact t.alone k' z l q1 F j x;have hr:=am9 F;obtain⟨p3,p4⟩:=WZ c q z l F j;rcases x with x|⟨⟨t0,rfl⟩,_⟩;rcases p4 b x with A|A;have:=t.lt;omega
 grind
 have:=WY g F;simp[JZ] at this;have:=WY g n;simp[JZ] at this
def aec(R:aA d m D o V O s a W){M:aq}{H:aL}{b:Nat}(h:O.ph o (J0 M s.rs) b):
  O.ph o (EH M H s.rs) b/\∀(k:Nat)(e:TypeId)(L:RV),(EH M H s.rs)[k]?=U (.own e)->O.r[k]?=U L->L.lq=U b->MF H=false:=by
 obtain⟨Q,u,X,B⟩:=h;unfold J0 at X;rw[adA] at X;cases P:s.rs[Q]? with
 |none=>rw[P] at X;cases X
 |some x=>
  rw[P] at X;simp only[jk,ga,dW] at X;have A:=amh ((Rl M (Y s.rs)).contains Q) x;rw[X] at A;have N:dV o x (O.rv Q) b:=B.lJ A;refine⟨?_,λk e L G y w=> ?_⟩;unfold EH;split;refine⟨Q,AN ((Rl M (Y s.rs)).contains Q) x,by rw[Nf,P];simp, ?_⟩;cases x<;>simp only[AN]<;>try exact N
  split;cases N with|own e L b N=>exact N
  exact N;exact⟨Q,x,P,N⟩;unfold EH at G;split at G;rename_i t;exfalso;obtain⟨F,v⟩:=adI G;by_cases z:Q=k;subst z;rw[P] at F;cases F;simp only[Rf] at X;rw[aS (by simpa using v)] at X;subst X;cases B;exact(R.eN k e L b F y w).alone Q x (O.rv Q) z P (uF R P) (.inl N)
  grind
def CR(R:aq)(Q:aL)(X:bo):ri X (EH R Q X):=by
 unfold EH;split;exact RU _ _;exact ri.refl _
end
section
variable{p:Sp}{c:bv}
def ana(w:p.ty=c.ty)(n:∀g,(c.sig g).isSome=J->∀X W,(callFunc g X).run p.P W=.ok (.enter g X) W)
  (D:bT)(L:dp)(g:FuncId)(X:aq)(s:S)(k:C->S->T)(O:aj)(V:ar)(a:Act)(W:World)(B:Ending->World->Prop)
  (h:(AS c g X s k).aM p O L)(R:aA p.S0 p.w0 D c.ty V O s a W)
  (j:∀v A H z Q u,bB s O V A H z->cU s.ax L u->aA p.S0 p.w0 D c.ty z H A a Q->(k v A).aM p H u->B (.returned (v.ai H z)) Q)
  (i:∀G Q f y,ee p.w0 D f y a.defers Q->p.R (.panicked G) Q->B (.panicked G) Q):
  (∀X W,(callFunc g X).run p.P W=.ok (.enter g X) W)/\Calls p.P g (C.az O V X).toArray W B:=by
 unfold AS at h;split at h;rename_i ts aa;refine⟨n g (by rw[aa];rfl), ?_⟩;split at h;rename_i M ac;split at h;rename_i l hl;split at h;rename_i N;simp only[S.eV,aC,akQ] at N;obtain⟨⟨N,ab⟩,hv⟩:=N;simp only[T.aM,hv] at h;have:=h O.y V W (by rw[w];exact(R.mem.adf _).lJ (adB _ _));refine this.mono ?_;intro e Q F;cases e with
 |returned v=>
  obtain⟨x,h1,t,h3,r,h5⟩:=F;rw[w] at r;obtain⟨q,e2,e3,e4⟩:=uG M (s.cut X M);have hy:(O.ext x).at O.y=O.ext x:=by have:=Hk x O;unfold aj.at;rw[<-this]
  rw[hy] at t;subst t;have R1:aA p.S0 p.w0 D c.ty V O (s.cut X M) a W:=R.lJ (CR X M s.rs);exact j _ _ _ V Q L ⟨CI _ _ _ _,by rw[q];exact λ_ h=>h,by rw[q];exact cd _,by rw[e3];exact cd _⟩ (cU.refl _ _) (R1.called (Nj N.1 (CR X M s.rs).len) ab h1 h3 (λb N=>aec R N) r) h5
 |panicked G=>exact i G Q _ _ (R.dl.below F.1) F.2|outgrown=>exact F.elim
 exact h.elim;exact h.elim;exact h.elim;exact h.elim
def aed{d:ar}{m:World}{D:bT}{V:ar}{O:aj}{s:S}{a:Act}{W:World}(R:aA d m D c.ty V O s a W)(M:jq p.P c.ty)(f:ResultVar->Sem Value)(L:∀t,f (.tmp t)=pure (a.tmps.getD t undef))(H:∀x t,f (.cell x t)=(asAddr (a.tmps.getD x undef)>>=λy=>loadVar t y)):
  ∀(X:nF)(l:aq),uw c s X=U l->(X.mapM f).run p.P W=.ok (C.az O V l) W
 |[],l,h=>by simp[uw] at h;subst h;rfl
 |.tmp t::X,l,h=>by
  simp only[uw] at h;split at h;rename_i G F;split at h;cases h;rename_i z;cases h;have N:=de (gl:=[]) R (λ_ Q=>by cases Q) (.tmp t) (by simpa[S.ev,zh] using z);simp only[Act.eval,S.ev,zh] at N;simp only[awj,dv,L,fu,du,aed R M f L H X G F,C.az,N];cases h
 |.cell x t::X,l,h=>by
  simp only[uw] at h;split at h;rename_i G i g e F Q w;split at h;rename_i u r B;split at h;rename_i v q;cases h;have N:=de (gl:=[]) R (λ_ Q=>by cases Q) (.tmp x) (by simp only[S.ev,zh,Q];rfl);simp only[Act.eval,S.ev,zh,Q,C.ai] at N;have A:=Wt (P:=p.P) (W:=W) (M _ _ w) (O:=O) (V:=V) (b:=ad V i) (base:=0) q (λj y n=>by
   obtain⟨B,k⟩:=AX B;have:=R.mem.box i u r B;rw[qA k] at this;simp[oD,this,uC,n])
  simp only[Instr.loadAt,Instr.sureAddr,jk,dv,fu,du] at A;simp only[awj,dv,H,N,asAddr,fu,du,A,aed R M f L H X G F,C.az];cases h;cases h;cases h
def Kk{D:bT}{V:ar}{a:Act}{W:World}(X:aA t e D c.ty V x R a W)(N:jq p.P c.ty){Q:Func}{l:aq}(h:uw c R Q.results.toList=U l):
  (results Q a.tmps).run p.P W=.ok ((one l).ai x V) W:=by
 unfold results;rw[aIL];simp only[dv,Sem.run_map];rw[aed X N _ (λ_=>rfl) (λ_ _=>rfl) Q.results.toList l h];simp only[du,fu];congr 1
 match l with|[]=>rfl|[v]=>rfl|v::w::r=>rfl
end
section
variable{c:ar}{d:World}{D:bT}{f:bv}{V:ar}{O:aj}{s:S}{a:Act}{W:World}
def uH(W:World):List (Nat×Obj)->World
 |[]=>W|x::l=>uH (W.putObj x.1 x.2) l
def W0:∀{l:List (Nat×Obj)}{W:World},(uH W l).heap.size=W.heap.size
 |[],_=>rfl|x::l,W=>by rw[uH,W0 (l:=l)];simp
theorem Sk:∀{l:List (Nat×Obj)}{W:World}{k:Nat},k∉l.map (·.1)->(uH W l).heap[k]?=W.heap[k]?
 |[],_,_,_=>rfl
 |x::l,W,k,h=>by
  simp only[dH,fh,not_or] at h;rw[uH,Sk h.2,uj h.1]
def aee:∀{l:List (Nat×Obj)}{W:World}{x:Nat×Obj},(l.map (·.1)).Nodup->x∈l->x.1<W.heap.size->(uH W l).heap[x.1]?=U x.2
 |[],_,_,_,h,_=>by simp at h
 |y::l,W,x,X,h,R=>by
  simp only[dH,Et] at X;rw[uH];rcases fh.1 h with rfl|h;rw[Sk X.1,avP R];exact aee X.2 h (by simpa using R)
def aef:∀{l:List (Nat×Obj)}{W:World},(uH W l).os=W.os/\(uH W l).tape=W.tape/\(uH W l).output=W.output/\(uH W l).drawn=W.drawn
 |[],_=>⟨rfl,rfl,rfl,rfl⟩|x::l,W=>by rw[uH];exact aef (l:=l)
def ax1{w:World}(X:e.os=w.os)(R:e.tape=w.tape)(Q:e.output=w.output)(P:e.drawn=w.drawn)(N:∀k:Nat,e.heap[k]?=w.heap[k]?):e=w:=by
 have:e.heap=w.heap:=by
  apply nD;apply kU
  grind
 cases e;cases w;simp_all
def anb{Q:Ty}{B:Nat}{N:Nat->Prop}:∀{P:aL}{X:aZ},(∀(q:Nat)(e:RK)(R:RV),P[q]?=U (.ak e)->X[q]?=U (.r R)->bG W Q e R/\∀b,dV Q e R b->B<=b\/N b)->CG Q W B N P X
 |[],X,_=>by cases X<;>trivial
 |_::_,[],_=>trivial
 |k::P,x::X,h=>by
  refine⟨?_,anb λq e R M L=>h (q+1) e R (by simpa using M) (by simpa using L)⟩;cases k<;>cases x<;>try trivial
  exact h 0 _ _ rfl rfl
def aA.anc:∀{l:List (Nat×TypeId×aq)}{s:S}{W:World},aA c d D f.ty V O s a W->(∀x∈l,∃P,bP s.au x.1=U (x.2.1,P))->
  aA c d D f.ty V O (s.o7 l) a (uH W (l.map λx=>(ad V x.1,j5 x.2.1 (C.bL O V x.2.2))))
 |[],_,_,R,_=>R
 |x::l,s,W,R,h=>by
  obtain⟨P,Q⟩:=h x aw;refine aA.anc (l:=l) (R.WM (cs':=x.2.2) Q) λy N=> ?_
  obtain⟨M,X⟩:=h y (by simp[N]);have L:x.1<Y s.au:=(dq.1 (ky.1 Q)).1;by_cases e:y.1=x.1;refine⟨x.2.2, ?_⟩;rw[e,S.cX,E1 L];rw[e,Q] at X;simp only[dW,JA] at X;rw[X.1];exact⟨M,by rw[S.cX,xJ e];exact X⟩
def aA.ax2(R:aA c d D f.ty V O s a W)(B:s.bd=J){M:aL}(aa:mT M=J){P:aZ}(hf:dJ M P)
  {rw:List (Nat×TypeId×aq)}(t:∀x∈rw,∃o,bP s.au x.1=U (x.2.1,o))(al:(rw.map (·.1)).Nodup)
  (L:fk (rw.map λx=>ad V x.1) W e)(hN:∀x∈rw,e.heap[ad V x.1]?=U (j5 x.2.1 (C.bL (O.ext P) V x.2.2)))
  {A:Nat->Prop}(n:∀b,A b->O.ph f.ty s.rs b/\∀(k:Nat)(X:TypeId)(z:RV),s.rs[k]?=U (.own X)->O.r[k]?=U z->z.lq=U b->MF M=E)
  (hh:CG f.ty e W.heap.size A M P):
  aA c d D f.ty V (O.ext P) ((s.bU M).2.o7 rw) a e:=by
 obtain⟨e1,e2,e3,e4⟩:=uG M s;have w:∀x∈rw,aJ s.au x.1=true:=λx Q=>by obtain⟨o,h⟩:=t x Q;simp[aJ,h]
 have an:∀x∈rw,∀y∈rw,ad V x.1=ad V y.1->x.1=y.1:=λx Q y hy h=>R.mem.inj _ _ (w x Q) (w y hy) h
 have ab:∀x∈rw,ad V x.1<W.heap.size:=λx Q=>R.mem.lt (w x Q)
 obtain⟨F,m⟩:∃F:List (Nat×Obj),F=rw.map λx=>(ad V x.1,(W.heap[ad V x.1]?).getD (.cells #[] 0 (0,0))):=⟨_,rfl⟩
 obtain⟨H,N⟩:∃H,H=uH e F:=⟨_,rfl⟩;have u:F.map (·.1)=rw.map λx=>ad V x.1:=by rw[m];simp
 have j:(rw.map λx=>ad V x.1).Nodup:=by
  have h0:∀l:List (Nat×TypeId×aq),(∀x∈l,x∈rw)->(l.map (·.1)).Nodup->(l.map λx=>ad V x.1).Nodup:=by
   intro l;induction l with
   |nil=>intro _ _;exact List.nodup_nil
   |cons y l ih=>
    grind
  grind
 obtain⟨i,g,r3,r4⟩:=aef (l:=F) (W:=e);have hB:Below W.heap.size W H:=by
  rw[N];refine⟨i.trans L.os,g.trans L.tape,r3.trans L.output,by rw[W0];exact L.size,λk v=> ?_⟩;by_cases G:k∈rw.map λx=>ad V x.1
  obtain⟨x,Q,rfl⟩:=fw.1 G;have hg:(ad V x.1,(W.heap[ad V x.1]?).getD (.cells #[] 0 (0,0)))∈F:=by rw[m];exact fw.2 ⟨x,Q,rfl⟩
  have:=aee (W:=e) (by rw[u];exact j) hg (by have:=L.size;simp only;omega)
  grind
  rw[Sk (by rw[u];exact G)];exact L.block k v G
 have ac:∀b,(W.heap.size<=b\/A b)->b∉rw.map λx=>ad V x.1:=by
  intro b B G;obtain⟨x,Q,rfl⟩:=fw.1 G;rcases B with h|h
  grind
  obtain⟨⟨k,e',v,hl⟩,-⟩:=n _ h;exact(R.mem.ak k _ _ v (uF R v)).2 _ hl x.1 (w x Q) rfl
 have af:CG f.ty H W.heap.size A M P:=by
  refine anb (λq X z h1 h2=> ?_);obtain⟨h3,h4⟩:=WZ hh q X z h1 h2;exact⟨h3.Kb (λb B=>by rw[N,Sk (by rw[u];exact ac b (h4 b B))]) (by rw[N,W0];exact cd _),h4⟩
 have R1:=R.called B aa hf hB n af;have R2:=R1.anc (l:=rw) (λx Q=>by rw[e1];exact t x Q);have a0:uH H (rw.map λx=>(ad V x.1,j5 x.2.1 (C.bL (O.ext P) V x.2.2)))=e:=by
  obtain⟨q1,q2,q3,q4⟩:=aef (l:=rw.map λx=>(ad V x.1,j5 x.2.1 (C.bL (O.ext P) V x.2.2))) (W:=H);have ag:(rw.map λx=>(ad V x.1,j5 x.2.1 (C.bL (O.ext P) V x.2.2))).map (·.1)=rw.map λx=>ad V x.1:=aw
  have a1:H.heap.size=e.heap.size:=by rw[N,W0]
  refine ax1 (q1.trans (by rw[N];exact i)) (q2.trans (by rw[N];exact g)) (q3.trans (by rw[N];exact r3)) (q4.trans (by rw[N];exact r4)) λk=> ?_
  by_cases G:k∈rw.map λx=>ad V x.1
  obtain⟨x,Q,rfl⟩:=fw.1 G;rw[hN x Q];exact aee (x:=(ad V x.1,j5 x.2.1 (C.bL (O.ext P) V x.2.2))) (by rw[ag];exact j) (fw.2 ⟨x,Q,rfl⟩) (by have:=ab x Q;have:=L.size;simp only;omega)
  grind [Sk]
 grind
end
section
variable{p:Sp}{f:bv}{D:bT}{V:ar}{O:aj}{s:S}{a:Act}{W:World}
def ax3(F:p.ty=f.ty){Q:VI}{N:aq}{M:aL}{m:Nat}{X:aj->Prop}(H:s.bd=J)(w:mT M=J)
  (u:∀x∈Q.out,∃t,bP s.au x.1=U (x.2.1,t))(r:(Q.out.map (·.1)).Nodup)
  (h:alF p Q N (uu (s.au.take m)) (J0 N s.rs) M O X)(R:aA p.S0 p.w0 D f.ty V O s a W):
  Calls p.P Q.g (C.az O V (N.take Q.n)++C.az O V Q.bD).toArray W λe B=>e=.returned (.tuple #[])/\∃L,aA p.S0 p.w0 D f.ty V (O.ext L) (((s.cut N M).bU M).2.o7 Q.out) a B/\X (O.ext L):=by
 have:=h O.y V W (by rw[F];exact(R.mem.take m).lJ (adB _ _));refine this.mono ?_;intro e B G;cases e with
 |returned v=>
  obtain⟨L,q,rfl,o,A,z,l⟩:=G;rw[F] at z;have k:(O.ext L).at O.y=O.ext L:=by have:=Hk L O;unfold aj.at;rw[<-this]
  rw[k] at A;have j:aA p.S0 p.w0 D f.ty V O (s.cut N M) a W:=R.lJ (CR N M s.rs);exact⟨rfl,L,j.ax2 (Nj H (CR N M s.rs).len) w q u r o A (λb H=>aec R H) z,l⟩
 |panicked i=>exact G.elim|outgrown=>exact G.elim
end
def aeg:∀(l:List (Nat×TypeId×aq))(s:S),(s.o7 l).tmps=s.tmps/\(s.o7 l).ax=s.ax/\(s.o7 l).lk=s.lk/\(s.o7 l).pd=s.pd/\(s.o7 l).rs=s.rs/\(s.o7 l).ni=s.ni/\(s.o7 l).nb=s.nb/\(s.o7 l).au.length=Y s.au
 |[],s=>⟨rfl,rfl,rfl,rfl,rfl,rfl,rfl,rfl⟩
 |x::l,s=>by
  obtain⟨X,R,Q,P,N,M,L,H⟩:=aeg l (s.cX x.1 x.2.1 x.2.2)
  grind [S.o7,S.cX]
def ane:∀(l:List (Nat×TypeId×aq))(s:S)(i:Nat),aJ s.au i=J->aJ (s.o7 l).au i=J
 |[],_,_,h=>h
 |x::l,s,i,h=>by
  refine ane l _ i ?_;simp only[S.cX];by_cases e:i=x.1;subst e;obtain⟨b,X⟩:=jy.1 h;have R:=(dq.1 (ky.1 X)).1;simp[aJ,E1 R];simp only[aJ,xJ e];exact h
def anf:∀l:List (Nat×TypeId),V9 (l.map λx=>C.iO x.1 x.2 0 0)=l
 |[]=>rfl|x::l=>by simp only[dH,V9,anf l]
def ax4(X:VI):zo X.sv=U X:=by
 have R:kq 3999999 (4000000+X.g)=true:=by rw[Nat.blt_eq];omega
 simp only[VI.sv,zo,R,cond_true,Vw,rM,anf]
def Nt:∀{l:List LB}{k i:Nat}{t:TypeId},(i,t)∈eA k l->k<=i/\l[i-k]?=U (.rw t)
 |[],k,i,t,h=>by simp[eA] at h
 |b::l,k,i,t,h=>by
  have X:(i,t)∈eA (k+1) l->k<=i/\(b::l)[i-k]?=U (.rw t):=λh=>by
   obtain⟨Q,P⟩:=Nt h
   grind
  cases b with
  |rw R=>
   grind [eA,JA]
  |no=>exact X (by simpa[eA] using h)|ro R=>exact X (by simpa[eA] using h)|st R N=>exact X (by simpa[eA] using h)
def ang:∀{l:List LB}{k:Nat},((eA k l).map (·.1)).Nodup
 |[],k=>by simp[eA]
 |b::l,k=>by
  have X:=ang (l:=l) (k:=k+1);cases b with
  |rw t=>
   simp only[eA,dH,Et];refine⟨λh=> ?_,X⟩;obtain⟨⟨i,Q⟩,R,P⟩:=fw.1 h;have:=(Nt R).1;omega
  |no=>exact X|ro t=>exact X|st t N=>exact X
def Nu{B:Ty}:∀{l:List LB}{X:bm}{H:aq},kG B l X=U H->∀(i:Nat)(t:TypeId),l[i]?=U (.rw t)->∃R,bP X i=U (t,R)/\mQ t=E
 |[],_,_,_,i,t,h=>by simp at h
 |b::l,X,H,h,i,t,Q=>by
  cases b with
  |no=>
   simp only[kG] at h;cases i with
   |zero=>simp at Q
   |succ i=>
    obtain⟨R,L,P⟩:=Nu h i t (by simpa using Q);refine⟨R, ?_,P⟩;cases X with|nil=>simp[bS] at L|cons x X=>simpa[bS] using L
  |ro G=>
   cases X with
   |nil=>simp[kG] at h
   |cons x X=>
    cases x with
    |none=>simp[kG] at h
    |some x=>
     simp only[kG] at h;split at h;split at h;rename_i v r L P;cases i with|zero=>simp at Q|succ i=>obtain⟨R,N,M⟩:=Nu P i t (by simpa using Q);exact⟨R,by simpa[bS] using N,M⟩
     cases h;cases h
  |rw G=>
   cases X with
   |nil=>simp[kG] at h
   |cons x X=>
    cases x with
    |none=>simp[kG] at h
    |some x=>
     simp only[kG] at h;split at h;rename_i F;simp at F;split at h;rename_i v r L P;cases i with
     |zero=>
      grind [Jx,LB.rw.injEq,bS,F.1]
     |succ i=>obtain⟨R,N,M⟩:=Nu P i t (by simpa using Q);exact⟨R,by simpa[bS] using N,M⟩
     cases h;cases h
  |st G gJ=>
   cases X with
   |nil=>simp[kG] at h
   |cons x X=>
    cases x with
    |none=>simp[kG] at h
    |some x=>
     simp only[kG] at h;split at h;cases i with|zero=>simp at Q|succ i=>obtain⟨R,N,M⟩:=Nu h i t (by simpa using Q);exact⟨R,by simpa[bS] using N,M⟩
     cases h
section
variable{p:Sp}{f:bv}
def ax5(aa:p.ty=f.ty)(ab:∀g,(f.sig g).isSome=J->∀Q W,(callFunc g Q).run p.P W=.ok (.enter g Q) W)
  (D:bT)(L:dp)(g:FuncId)(X:sO)(Q:aq)(s:S)(k:C->S->T)(O:aj)(V:ar)(a:Act)(W:World)(r:Ending->World->Prop)
  (h:(Wa f g X Q s k).aM p O L)(R:aA p.S0 p.w0 D f.ty V O s a W)
  (hk:∀v B N A M o,bB s O V B N A->cU s.ax L o->aA p.S0 p.w0 D f.ty A N B a M->(k v B).aM p N o->r (.returned (v.ai N A)) M):
  (∀Q W,(callFunc g Q).run p.P W=.ok (.enter g Q) W)/\Calls p.P g (C.az O V Q).toArray W r:=by
 unfold Wa at h;split at h;rename_i u H ac a3;split at h;rename_i l hl;split at h;rename_i G;simp only[S.eV,aC,dD] at G;obtain⟨⟨⟨⟨⟨hb,ce⟩,af⟩,a4⟩,fG⟩,F⟩:=G;refine⟨ab g (by rw[fG];rfl), ?_⟩;simp only[T.aM,ax4] at h;have ag:∀x∈VI.out ⟨g,X.n,X.bD,eA 0 X.bx,l⟩,(x.1,x.2.1)∈eA 0 X.bx:=λx t=>by
  obtain⟨⟨q,v⟩,hq,rfl⟩:=fw.1 t;exact(acl hq).1
 have al:∀x∈VI.out ⟨g,X.n,X.bD,eA 0 X.bx,l⟩,∃m,bP s.au x.1=U (x.2.1,m):=λx t=>by
  obtain⟨-,h2⟩:=Nt (ag x t);obtain⟨m,h3,-⟩:=Nu ac x.1 x.2.1 (by simpa using h2)
  grind
 have an:((VI.out ⟨g,X.n,X.bD,eA 0 X.bx,l⟩).map (·.1)).Nodup:=by
  have h1:∀(a:List (Nat×TypeId))(b:aq),(a.map (·.1)).Nodup->(((a.zip b).map λx=>(x.1.1,x.1.2,x.2.cells)).map (·.1)).Nodup:=by
   intro a;induction a with
   |nil=>intro b _;simp
   |cons x a ih=>
    intro b F;cases b with
    |nil=>simp
    |cons y b=>
     simp only[dH,Et] at F;simp only[Es,dH,Et];refine⟨λG=>F.1 ?_,ih b F.2⟩;obtain⟨z,hz,a0⟩:=fw.1 G;obtain⟨w,hw,rfl⟩:=fw.1 hz;exact fw.2 ⟨w.1,(acl hw).1,a0⟩
  exact h1 _ _ ang
 have hR:=ax3 aa hb af al an h R;have a1:C.az O V Q=C.az O V ((Q.take X.n++u).take X.n)++C.az O V X.bD:=by
  grind [Nat.min_self,C.pj,G6,Jv]
 rw[a1];refine hR.mono ?_;rintro e M ⟨rfl,xs,R2,h5⟩;obtain⟨q1,q2,q3,q4,q5,q6,q7,q8⟩:=aeg (VI.out ⟨g,X.n,X.bD,eA 0 X.bx,l⟩) ((s.cut (Q.take X.n++u) H).bU H).2;obtain⟨j,e2,e3,e4⟩:=uG H (s.cut (Q.take X.n++u) H);exact hk (.bH []) _ _ V M L ⟨CI _ _ _ _,λi hi=>ane _ _ i (by rw[j];exact hi),by rw[q8,j];exact cd _,by rw[q2,e3];exact cd _⟩ (cU.refl _ _) R2 h5;exact h.elim;exact h.elim;exact h.elim
end
def Sm:aq:=[.loc 0 0,.loc 5 0,.loc 2 0,.loc 3 0,.loc 6 0]
def aeh:List (FuncId×sO):=[(18,⟨308,3,[44,39,3,41,44,3,3,65],Sm,[.ro 41,.ro 44,.ro 3,.rw 3,.rw 65,.st 66 [.fn (1000000+17) [.loc 4 0]],.st 67 [.fn 18 Sm]]⟩)]
def oK(v:FuncId):Option (FuncId×sO):=aeh.find? λx=>x.2.v==v
def ax6(g:FuncId):Option sO:=(aeh.find? λx=>x.1==g).map (·.2)
def Hn(X:FuncId->me)(f:FuncId):me:=match oK f with|U x=>U x.2.ps|none=>X f
def Nv(X:FuncId->me)(f:FuncId):me:=match oK f with|U x=>U ((eA 0 x.2.bx).map (·.2))|none=>X f
def Nw(V:Ty)(f:FuncId)(W:aq)(R:bm)(fz:C):Bool:=match oK f,zo fz with
 |Z,Z=>J
 |U (g,L),U X=>X.g==g&&X.n==L.n&&C.n9 X.bD L.bD&&decide (X.rw=eA 0 L.bx)&&(Y X.l==Y X.rw)&&decide (L.n<=Y W)&&(match kG V L.bx R with|U Q=>C.n9 Q (W.drop L.n)|none=>E)
 |_,_=>E
section
variable{d:ar}{m:World}{D:bT}{ty:Ty}{V:ar}{O:aj}{s:S}{a:Act}{W:World}
def XV.at(k:LK):XV->Value
 |.i n=>match k with|.int k=>.int k n|_=>undef
 |.b x=>.bool x|.r v=>v.val
def XV.Sn(k:LK)(x:XV):RV:=match x with|.r v=>v|x=>.mk (x.at k) []
def ax7{k:LK}(h:EG R k r=J):(r.xv x).Sn k=r.gf x t:=by
 unfold EG at h;split at h;simp at h;subst h;rfl;rfl;rfl;rfl;rfl;rfl;cases h
def anh{V1:ar}{k:LK}(h:EG R k r=J):(r.xv x).at k=r.ai x V1/\qy k (r.xv x):=by
 unfold EG at h;split at h;simp at h;subst h;exact⟨rfl,trivial⟩;exact⟨rfl,trivial⟩;exact⟨rfl,trivial⟩;exact⟨rfl,trivial⟩;exact⟨rfl,trivial⟩;exact⟨rfl,trivial⟩;cases h
def ani{N:S}:∀{X:aL}{R:aq},uy N X R=J->Y X=Y R/\∀(q:Nat)(k:LK)(v:C),X[q]?=U k->R[q]?=U v->EG N k v=J
 |[],[],_=>⟨rfl,λq k v h _=>by simp at h⟩|[],_::_,h=>by simp[uy] at h|_::_,[],h=>by simp[uy] at h
 |k::X,v::R,h=>by
  simp only[uy,aC] at h;obtain⟨M,L⟩:=ani h.2;refine⟨by simp[M],λq H G Q P=> ?_⟩;cases q with|zero=>simp at Q P;subst Q P;exact h.1|succ q=>exact L q H G (by simpa using Q) (by simpa using P)
def aei{Q:S}{O1:aj}:∀{X:aL}{R:aq},uy Q X R=J->dJ X (R.map (C.xv O1))
 |[],[],_=>trivial|[],_::_,h=>by simp[uy] at h|_::_,[],h=>by simp[uy] at h
 |k::X,v::R,h=>by
  simp only[uy,aC] at h;exact⟨(anh (V1:=[]) h.1).2,aei h.2⟩
def W5:∀(R:aL)(X:aZ)(s:S)(O:aj),dJ R X->Y O.i=s.ni->Y O.b=s.nb->Y O.r=Y s.rs->
  ∀(q:Nat)(k:LK)(x:XV)(v:C),R[q]?=U k->X[q]?=U x->(s.bU R).1[q]?=U v->v.ai (O.ext X) V=x.at k/\v≠ .any
 |[],_,_,_,_,_,_,_,q,k,x,v,h,_,_=>by simp at h|_::_,[],_,_,h,_,_,_,q,k,x,v,_,_,_=>by simp[dJ] at h
 |B::R,M::X,s,O,A,L,H,G,0,k,x,v,Q,P,N=>by
  obtain⟨z,F⟩:=A;simp only[S.bU,Cc,dW] at Q P N;subst Q P N;have y:=ET X (O.add M);simp only[aj.ext];cases B<;>cases M<;>simp[qy] at z
  grind [S.fresh,C.ai,K.ai,XV.at,y.i,aj.add]
  grind [S.fresh,C.ai,BE.ai,XV.at,y.b,aj.add]
  refine⟨?_,by simp[S.fresh]⟩;simp only[S.fresh,C.ai,RE.ai,RE.rv,XV.at]
  grind [y.r,aj.add,aj.rv]
 |B::R,M::X,s,O,A,L,H,G,q+1,k,x,v,Q,P,N=>by
  obtain⟨z,F⟩:=A;simp only[S.bU,vC] at Q P N;simp only[aj.ext];cases B<;>cases M<;>simp[qy] at z;exact W5 R X _ _ F (by simp[S.fresh,aj.add,L]) (by simp[S.fresh,aj.add,H]) (by simp[S.fresh,aj.add,G]) q k x v Q P N;exact W5 R X _ _ F (by simp[S.fresh,aj.add,L]) (by simp[S.fresh,aj.add,H]) (by simp[S.fresh,aj.add,G]) q k x v Q P N;exact W5 R X _ _ F (by simp[S.fresh,aj.add,L]) (by simp[S.fresh,aj.add,H]) (by simp[S.fresh,aj.add,G]) q k x v Q P N
def W6:∀(R:aL)(X:aZ)(s:S)(O:aj),dJ R X->Y O.i=s.ni->Y O.b=s.nb->Y O.r=Y s.rs->
  ∀(q:Nat)(k:LK)(x:XV)(v:C),R[q]?=U k->X[q]?=U x->(s.bU R).1[q]?=U v->v.gf (O.ext X) V=x.Sn k
 |[],_,_,_,_,_,_,_,q,k,x,v,h,_,_=>by simp at h|_::_,[],_,_,h,_,_,_,q,k,x,v,_,_,_=>by simp[dJ] at h
 |B::R,M::X,s,O,A,L,H,G,0,k,x,v,Q,P,N=>by
  obtain⟨z,F⟩:=A;simp only[S.bU,Cc,dW] at Q P N;subst Q P N;have y:=ET X (O.add M);simp only[aj.ext];cases B<;>cases M<;>simp[qy] at z
  skip
  grind [S.fresh,C.gf,C.ai,K.ai,XV.Sn,XV.at,y.i,aj.add]
  skip
  grind [S.fresh,C.gf,C.ai,BE.ai,XV.Sn,XV.at,y.b,aj.add]
  skip
  grind [S.fresh,C.gf,RE.rv,XV.Sn,y.r,aj.add,aj.rv]
 |B::R,M::X,s,O,A,L,H,G,q+1,k,x,v,Q,P,N=>by
  obtain⟨z,F⟩:=A;simp only[S.bU,vC] at Q P N;simp only[aj.ext];cases B<;>cases M<;>simp[qy] at z;exact W6 R X _ _ F (by simp[S.fresh,aj.add,L]) (by simp[S.fresh,aj.add,H]) (by simp[S.fresh,aj.add,G]) q k x v Q P N;exact W6 R X _ _ F (by simp[S.fresh,aj.add,L]) (by simp[S.fresh,aj.add,H]) (by simp[S.fresh,aj.add,G]) q k x v Q P N;exact W6 R X _ _ F (by simp[S.fresh,aj.add,L]) (by simp[S.fresh,aj.add,H]) (by simp[S.fresh,aj.add,G]) q k x v Q P N
def anj:∀(X:aL)(s:S),(s.bU X).1.length=Y X
 |[],_=>rfl|k::X,s=>by simp[S.bU,anj X]
def ank{n:Nat}:∀{R:List (Nat×LK)}{X:aq}{v:C},xB n R X=U v->∃(q:Nat)(k:LK),R[q]?=U (n,k)/\X[q]?=U v
 |[],X,v,h=>by simp[xB] at h|_::_,[],v,h=>by simp[xB] at h
 |(t,k)::r,x::L,v,h=>by
  simp only[xB] at h;split at h;rename_i Q;cases h;simp at Q;subst Q;exact⟨0,k,rfl,rfl⟩;obtain⟨q,P,N,M⟩:=ank h;exact⟨q+1,P,by simpa using N,by simpa using M⟩
def anl{n:Nat}:∀{X:List (Nat×LK)}{R:aq},Y X<=Y R->xB n X R=Z->X.any (·.1==n)=E
 |[],R,_,h=>rfl|_::_,[],Q,h=>by simp at Q
 |(t,k)::r,x::N,Q,h=>by
  simp only[xB] at h;split at h;cases h;rename_i P;simp only[List.any_cons,yU];exact⟨by simpa using P,anl (by simpa using Q) h⟩
def anm{b n:Nat}:∀{R:List (Nat×Nat×LK)}{X:aq}{v:C},Cx b n R X=U v->∃(q:Nat)(k:LK),R[q]?=U (b,n,k)/\X[q]?=U v
 |[],X,v,h=>by simp[Cx] at h|_::_,[],v,h=>by simp[Cx] at h
 |(L,t,k)::r,x::H,v,h=>by
  simp only[Cx] at h;split at h;rename_i Q;cases h;simp at Q;obtain⟨rfl,rfl⟩:=Q;exact⟨0,k,rfl,rfl⟩;obtain⟨q,P,N,M⟩:=anm h;exact⟨q+1,P,by simpa using N,by simpa using M⟩
def ann{b n:Nat}:∀{X:List (Nat×Nat×LK)}{R:aq},Y X<=Y R->Cx b n X R=Z->X.any (λc=>c.1==b&&c.2.1==n)=E
 |[],R,_,h=>rfl|_::_,[],Q,h=>by simp at Q
 |(N,t,k)::r,x::M,Q,h=>by
  simp only[Cx] at h;split at h;cases h;rename_i P;simp only[List.any_cons,yU];exact⟨by simpa using P,ann (by simpa using Q) h⟩
def ano(X:fF)(R:ar)(Q:aq):∀(l:aq)(n i:Nat),(Cy X R Q n l)[i]?=(l[i]?).map λx=>(xB (n+i) X.tm Q).getD (if R.contains (n+i) then .any else x)
 |[],n,i=>by simp[Cy]|x::P,n,0=>by simp[Cy]
 |x::P,n,i+1=>by
  simp only[Cy,vC];rw[ano X R Q P (n+1) i,show n+1+i=n+(i+1) from ae]
def anp(X:fF)(R:aq)(b:Nat):∀(l:aq)(n i:Nat),(JX X R b n l)[i]?=(l[i]?).map λx=>(Cx b (n+i) X.cl R).getD x
 |[],n,i=>by simp[JX]|x::Q,n,0=>by simp[JX]
 |x::Q,n,i+1=>by
  simp only[JX,vC];rw[anp X R b Q (n+1) i,show n+1+i=n+(i+1) from ae]
def Sq(R:fF)(Q:aq):∀(l:bm)(n i:Nat),bP (vK R Q n l) i=(bP l i).map λx=>(x.1,JX R Q (n+i) 0 x.2)
 |[],n,i=>by simp[vK,bS]|Z::X,n,0=>by simp[vK,bS]|U (t,P)::X,n,0=>by simp[vK,bS]
 |Z::X,n,i+1=>by
  have:=Sq R Q X (n+1) i
  grind [vK,bS]
 |U (t,P)::X,n,i+1=>by
  have:=Sq R Q X (n+1) i
  grind [vK,bS]
def W7(X:fF)(R:aq):∀(l:bm)(n:Nat),(vK X R n l).length=Y l
 |[],n=>rfl|Z::Q,n=>by simp[vK,W7 X R Q]|U (t,P)::Q,n=>by simp[vK,W7 X R Q]
def anq(X:fF)(R:ar)(Q:aq):∀(l:aq)(n:Nat),(Cy X R Q n l).length=Y l
 |[],n=>rfl|x::P,n=>by simp[Cy,anq X R Q P]
def aej{Q:fF}{P:ar}:∀{l X:aq}{n:Nat},AR Q P n l X=J->Y l=Y X/\∀(i:Nat)(x y:C),l[i]?=U x->X[i]?=U y->Q.tm.any (·.1==n+i)=J\/P.contains (n+i)=J\/x=y
 |[],[],n,_=>⟨rfl,λi x y h _=>by simp at h⟩|[],_::_,n,h=>by simp[AR] at h|_::_,[],n,h=>by simp[AR] at h
 |x::H,y::G,n,h=>by
  simp only[AR,aC,lg] at h;obtain⟨L,F⟩:=aej h.2;refine⟨by simp[L],λi B A N M=> ?_⟩;cases i with
  |zero=>
   simp at N M;subst N M;rcases h.1 with(R|R)|R
   grind
   grind
   exact .inr (.inr (C.bW _ _ R))
  |succ i=>
   grind
def anr{R:fF}{b:Nat}:∀{l X:aq}{n:Nat},JY R b n l X=J->Y l=Y X/\∀(i:Nat)(x y:C),l[i]?=U x->X[i]?=U y->R.cl.any (λc=>c.1==b&&c.2.1==n+i)=J\/x=y
 |[],[],n,_=>⟨rfl,λi x y h _=>by simp at h⟩|[],_::_,n,h=>by simp[JY] at h|_::_,[],n,h=>by simp[JY] at h
 |x::L,y::H,n,h=>by
  simp only[JY,aC,lg] at h;obtain⟨M,G⟩:=anr h.2;refine⟨by simp[M],λi F B Q P=> ?_⟩;cases i with
  |zero=>
   simp at Q P;subst Q P;rcases h.1 with N|N
   grind
   exact .inr (C.bW _ _ N)
  |succ i=>
   grind
def aek{L:fF}:∀{l M:bm}{n:Nat},ux L n l M=J->∀(i:Nat)(t:TypeId)(R:aq),bP l i=U (t,R)->∃P,bP M i=U (t,P)/\JY L (n+i) 0 R P=J
 |[],M,n,_,i,t,R,h=>by simp[bS] at h|Z::Q,[],n,X,i,t,R,h=>by simp[ux] at X|Z::Q,y::N,n,X,0,t,R,h=>by simp[bS] at h
 |Z::Q,y::N,n,X,i+1,t,R,h=>by
  simp only[ux] at X;obtain⟨P,H,G⟩:=aek X i t R (by simpa[bS] using h)
  grind [bS]
 |U x::Q,[],n,X,i,t,R,h=>by simp[ux] at X|U x::Q,Z::N,n,X,i,t,R,h=>by simp[ux] at X
 |U x::Q,U y::N,n,X,0,t,R,h=>by
  simp only[ux,aC,gc] at X
  grind [bS,Jx]
 |U x::Q,U y::N,n,X,i+1,t,R,h=>by
  simp only[ux,aC] at X;obtain⟨P,H,G⟩:=aek X.2 i t R (by simpa[bS] using h)
  grind [bS]
def ant{R:fF}{n:Nat}{k:LK}(Q:R.tm[X]?=U (n,k)):R.ks[X]?=U k:=by
 grind [fF.ks]
def anu{Q:fF}{n:Nat}{k:LK}(P:Q.tm[X]?=U (n,k))(N:R.tmps[n]?=U r):(lj Q R)[X]?=U r:=by
 grind [lj]
def E3{k:Nat}(h:k<X):ad (t.take X) k=ad t k:=by simp[ad,h]
def ax8(X:fF)(s:S):(jC X s).length=Y s.rs:=CJ _ _ _
def anv:∀{l X:bo},AQ l X=J->∀(k:Nat)(e:RK),l[k]?=U e->∃R,X[k]?=U R/\(e=.aR\/R=e)
 |[],X,_,k,e,h=>by simp at h|x::Q,[],h,_,_,_=>by simp[AQ] at h
 |x::Q,y::N,h,0,e,P=>by
  simp only[AQ,aC,lg,dD] at h
  grind
 |x::Q,y::N,h,k+1,e,P=>by
  simp only[AQ,aC] at h;exact anv h.2 k e (by simpa using P)
def W8:∀{R:aL}{X:aq}{q:Nat}{e:TypeId}{k:Nat},R[q]?=U (.ak (.own e))->X[q]?=U (.ak (.v k))->k∈EF R X
 |[],X,q,e,k,h,_=>by simp at h|_::_,[],q,e,k,_,h=>by simp at h|N::R,v::X,0,e,k,Q,P=>by simp at Q P;subst Q P;simp[EF,V7]
 |N::R,v::X,q+1,e,k,Q,P=>by
  simp only[EF,fg];right;exact W8 (q:=q) (by simpa using Q) (by simpa using P)
def W9:∀{a b:ar},oa (a++b)=J->oa b=J/\∀x∈a,x∉b
 |[],b,h=>⟨h,aw⟩
 |x::a,b,h=>by
  simp only[cJ,oa,aC] at h;obtain⟨X,R⟩:=W9 h.2
  grind
def anw:∀{N:aL}{R:aq}{q Q:Nat}{e M:TypeId}{k X:Nat},oa (EF N R)=J->N[q]?=U (.ak (.own e))->R[q]?=U (.ak (.v k))->N[Q]?=U (.ak (.own M))->R[Q]?=U (.ak (.v X))->q≠Q->k≠X
 |[],R,q,Q,e,M,k,X,_,h,_,_,_,_=>by simp at h|_::_,[],q,Q,e,M,k,X,_,_,h,_,_,_=>by simp at h|B::N,v::R,0,0,e,M,k,X,_,_,_,_,_,h=>bF rfl h
 |B::N,v::R,0,Q+1,e,M,k,X,P,L,H,G,F,_=>by
  simp at L H;subst L H;simp only[EF] at P;have:=(W9 P).2 k (by simp[V7]);intro A;subst A;exact this (W8 (q:=Q) (by simpa using G) (by simpa using F))
 |B::N,v::R,q+1,0,e,M,k,X,P,L,H,G,F,_=>by
  simp at G F;subst G F;simp only[EF] at P;have:=(W9 P).2 X (by simp[V7]);intro A;subst A;exact this (W8 (q:=q) (by simpa using L) (by simpa using H))
 |B::N,v::R,q+1,Q+1,e,M,k,X,P,L,H,G,F,z=>by
  simp only[EF] at P;exact anw (W9 P).1 (by simpa using L) (by simpa using H) (by simpa using G) (by simpa using F) ae
def aA.head{ty:Ty}{N:fF}{f:ar}{a1:Act}(ce:s.bd=J)(ei:Y O.i=s.ni)(eb:Y O.b=s.nb)(er:Y O.r=Y s.rs)
  (hl:bB s O V R x f)(R1:aA d m D ty f x R a1 e)(hT:AR N t 0 s.tmps R.tmps=J)(hB:ux N 0 s.au R.au=J)(hf:uy R N.ks (lj N R)=J)
  (hR:AQ (jC N s) R.rs=J)(hO:JW (jC N s) (JV N R)=J)(b4:R.pd=s.pd):
  aA d m D ty (f.take (Y s.au)) (O.ext ((lj N R).map (C.xv x))) (rT N t s) a1 e:=by
 obtain⟨b5,b6⟩:C.dP (Y O.i) (Y O.b) (Y O.r) (aJ s.au) s.tmps=J/\C.rQ (Y O.i) (Y O.b) (Y O.r) (aJ s.au) s.au=true:=by
  simp only[S.bd,aC] at ce;rw[ei,eb,er];exact ce
 have af:=aei (O1:=x) hf;have ag:Y O.r=(jC N s).length:=by rw[ax8];exact er
 obtain⟨cx,a4⟩:=ani hf;generalize bb:(lj N R).map (C.xv x)=n at*;obtain⟨e1,e2,e3,e4⟩:=uG N.ks {s with ax:=s.ax+1,rs:=jC N s};obtain⟨l1,l2,l3⟩:=xK N.ks n {s with ax:=s.ax+1,rs:=jC N s} O af ei eb ag;have bg:=CI s.au O n V;have b7:=W5 (V:=f.take (Y s.au)) N.ks n {s with ax:=s.ax+1,rs:=jC N s} O af ei eb ag;have bk:=anj N.ks {s with ax:=s.ax+1,rs:=jC N s};have bl:Y N.ks=Y N.tm+Y N.cl:=by simp[fF.ks]
 have al:∀i,aJ (vK N (((({s with ax:=s.ax+1,rs:=jC N s}:S).bU N.ks).1).drop (Y N.tm)) 0 s.au) i=J->aJ s.au i=J/\i<Y s.au:=by
  intro i hi;unfold aJ at hi;rw[Sq] at hi;have:(bP s.au i).isSome=true:=by simpa using hi
  obtain⟨b,G⟩:=jy.1 this;exact⟨this,(dq.1 (ky.1 G)).1⟩
 have b8:∀v:C,v.bd (Y O.i) (Y O.b) (Y O.r) (aJ s.au)=J->v.ai (O.ext n) (f.take (Y s.au))=v.ai x f:=by
  intro v hv;rw[hl.ext.ai hv];refine C.ef bg.agree (λk hk=> ?_) v hv;have a0:k<Y s.au:=by
   obtain⟨b,G⟩:=jy.1 hk;exact(dq.1 (ky.1 G)).1
  rw[E3 a0];exact hl.ext.ad k hk
 have ca:∀(q:Nat)(k:LK)(v w:C),N.ks[q]?=U k->(lj N R)[q]?=U w->(({s with ax:=s.ax+1,rs:=jC N s}:S).bU N.ks).1[q]?=U v->v.ai (O.ext n) (f.take (Y s.au))=w.ai x f/\v≠ .any:=by
  intro q k v w hk hw hv;have hx:n[q]?=U (w.xv x):=by rw[<-bb];simp[hw]
  obtain⟨M,L⟩:=b7 q k _ v hk hx hv;exact⟨M.trans (anh (V1:=f) (a4 q k w hk hw)).1,L⟩
 have cc:∀v:C,v.bd (Y O.i) (Y O.b) (Y O.r) (aJ s.au)=J->v.gf (O.ext n) (f.take (Y s.au))=v.gf x f:=by
  intro v hv;rw[adg hl.ext.agree hl.ext.ad v hv];refine adg bg.agree (λk hk=> ?_) v hv;have a0:k<Y s.au:=by
   obtain⟨b,G⟩:=jy.1 hk;exact(dq.1 (ky.1 G)).1
  rw[E3 a0];exact hl.ext.ad k hk
 have ch:∀(q:Nat)(k:LK)(v w:C),N.ks[q]?=U k->(lj N R)[q]?=U w->(({s with ax:=s.ax+1,rs:=jC N s}:S).bU N.ks).1[q]?=U v->v.gf (O.ext n) (f.take (Y s.au))=w.gf x f:=by
  intro q k v w hk hw hv;have hx:n[q]?=U (w.xv x):=by rw[<-bb];simp[hw]
  rw[W6 (V:=f.take (Y s.au)) N.ks n {s with ax:=s.ax+1,rs:=jC N s} O af ei eb ag q k _ v hk hx hv];exact ax7 (a4 q k w hk hw)
 have br:∀(k:Nat)(X:RK)(F:RV),(jC N s)[k]?=U X->O.r[k]?=U F->∃e1,R.rs[k]?=U e1/\x.r[k]?=U F/\(X=.aR\/e1=X):=by
  intro k X F M L;have hk:k<Y O.r:=(dq.1 L).1;have cn:k<Y x.r:=QR hk hl.ext.lr;have co:x.r[k]?=U F:=by
   have:=hl.ext.agree.r k hk;simp only[aj.rv,dM,L,yX] at this;rw[dG cn] at this⊢;simpa using this
  obtain⟨H,h3,h4⟩:=anv hR k X M;exact⟨H,h3,co,h4⟩
 have bs:∀(q:Nat)(X:RK)(F:RV),N.ks[q]?=U (.ak X)->n[q]?=U (.r F)->(∃u:Nat,(lj N R)[q]?=U (.ak (.v u))/\R.rs[u]?=U X/\x.r[u]?=U F)\/(F=.mk (.slice Z 0 0) []/\∃Q sh,X=.sl Q\/X=.own Q\/X=.mr sh):=by
  intro q X F M L;rw[<-bb,et] at L;cases hw:(lj N R)[q]? with
  |none=>rw[hw] at L;cases L
  |some w=>
   rw[hw] at L;simp only[ga,dW] at L;have a9:=a4 q _ w M hw;unfold EG at a9;split at a9;rename_i ab;cases ab;rename_i ab;cases ab;rename_i H k ab;cases ab;simp only[C.xv,XV.r.injEq] at L;have bt:R.rs[k]?=U X:=by simpa using a9
   refine .inl ⟨k,rfl,bt, ?_⟩;rw[<-L];exact uF R1 bt;rename_i H ab;cases ab;simp only[C.xv,XV.r.injEq,RE.rv] at L;exact .inr ⟨L.symm,_,⟨0,0,0,E,E⟩,.inl rfl⟩;rename_i H ab;cases ab;simp only[C.xv,XV.r.injEq,RE.rv] at L;exact .inr ⟨L.symm,_,⟨0,0,0,E,E⟩,.inr (.inl rfl)⟩;rename_i H ab;cases ab;simp only[C.xv,XV.r.injEq,RE.rv] at L;exact .inr ⟨L.symm,0,_,.inr (.inr rfl)⟩;cases a9
 simp only[JW,aC] at hO;obtain⟨cp,ct⟩:=hO;have bx:∀(q:Nat)(X:TypeId)(u:Nat),N.ks[q]?=U (.ak (.own X))->(lj N R)[q]?=U (.ak (.v u))->∀H,(jC N s)[u]?=U H->H=.aR:=by
  intro q X u M L H h3;have:=gz.1 ct u (W8 M L);simp only[lg,dD] at this;rcases this with h4|h4;have:=(dq.1 h3).1;omega;rw[h4] at h3;cases h3;rfl
 refine⟨⟨R1.mem.base, ?_, ?_, ?_, ?_⟩, ?_,l1,l2,l3, ?_, ?_, ?_, ?_⟩;intro i hi;obtain⟨M,L⟩:=al i hi;rw[E3 L];exact R1.mem.own i (hl.mono i M);intro i j hi hj;obtain⟨M,L⟩:=al i hi;obtain⟨h3,h4⟩:=al j hj;rw[E3 L,E3 h4];exact R1.mem.inj i j (hl.mono i M) (hl.mono j h3);intro i Q cs h;simp only[rT] at h;rw[Sq,jk] at h;cases G:bP s.au i with
 |none=>rw[G] at h;cases h
 |some P=>
  obtain⟨t0,gJ⟩:=P;rw[G] at h;simp only[ga,dW,JA] at h;obtain⟨rfl,rfl⟩:=h;obtain⟨ba,b0,b1⟩:=aek hB i t0 gJ G;rw[jk] at b1;obtain⟨cu,bc⟩:=anr b1;have a0:i<Y s.au:=(dq.1 (ky.1 G)).1;rw[E3 a0,R1.mem.box i t0 ba b0];congr 2;apply kU;intro j;rw[C.bL,C.bL,et,et,anp,jk];cases hx:gJ[j]? with
  |none=>
   have:ba[j]?=none:=by
    rw[El] at hx⊢;omega
   simp[this]
  |some P=>
   obtain⟨y,hy⟩:∃y,ba[j]?=U y:=by
    have:j<Y gJ:=(dq.1 hx).1;exact⟨ba[j],dG ae⟩
   rw[hy];simp only[ga,dW];cases hp:Cx i j N.cl ((({s with ax:=s.ax+1,rs:=jC N s}:S).bU N.ks).1.drop (Y N.tm)) with
   |some v=>
    obtain⟨q,k,hq,hv⟩:=anm hp;rw[yV] at hv;simp only[yX];refine(ch (Y N.tm+q) k v y ?_ ?_ hv).symm;simp[fF.ks,ji,hq];simp[lj,ji,hq,alp,b0,hy]
   |none=>
    have hn:=ann (by rw[Cf,bk,bl];omega) hp;rcases bc j P y hx hy with M|M;rw[jk] at M;rw[hn] at M;cases M;subst M;simp only[av7];exact(cc P (xG (ta b6 G) hx)).symm
 have bf:=Hl (PP:=λX F=>bG e ty X F/\∀b,dV ty X F b->∀i,aJ s.au i=J->ad f i≠b) N.ks n {s with ax:=s.ax+1,rs:=jC N s} O af ag ?_ ?_;intro k X F M L;obtain⟨h3,h4⟩:=bf k X F M L;refine⟨h3,λb G i hi=> ?_⟩;obtain⟨h5,h6⟩:=al i hi;rw[E3 h6];exact h4 b G i h5
 
 intro q X F M L;rcases bs q X F M L with⟨u,_,g2,B⟩|⟨rfl,Q,sh,g⟩;have:=R1.mem.ak u X F g2 B;exact⟨this.1,λb G i hi=>this.2 b G i (hl.mono i hi)⟩;have hn:∀b,¬dV ty (.sl Q) (.mk (.slice Z 0 0) []) b:=λb G=>by
  cases G with|deep X v b2 i j ac c z k b g1=>simp at g1
 rcases g with rfl|rfl|rfl;exact⟨E2 Z 0,λb G=>(hn b G).elim⟩;refine⟨bG.own Q _ (E2 Z 0) (λl c h=>by cases h;rfl),λb G=> ?_⟩;cases G with|own X F b G=>exact(hn b G).elim
 exact⟨bG.mr sh [] (λi ac h=>by simp at h) (λi j ac c k h=>by simp at h) (λi j ac c h=>by simp at h) (λi j ac c z k h=>by simp at h),λb G=>by cases G⟩;intro k X F M L;obtain⟨e1,g1,g2,B⟩:=br k X F M L;have:=R1.mem.ak k e1 F g1 g2;rcases B with rfl|rfl;exact⟨bG.aR _ (M6 this.1),λb G=>by cases G⟩;exact⟨this.1,λb G i hi=>this.2 b G i (hl.mono i hi)⟩;simp[rT,W7];have:=hl.len;rw[R1.gC];omega;have M:=R1.dl;rw[b4,hl.ext.agree.y,<-Hk n O] at M;simp only[rT];rw[aeb];exact M;simp only[rT,anq];rw[R1.size,(aej hT).1];intro Q sv h;simp only[rT] at h;rw[ano,jk] at h;cases hx:s.tmps[Q]? with
 |none=>rw[hx] at h;cases h
 |some P=>
  rw[hx] at h;simp only[ga,dW] at h;obtain⟨cu,bc⟩:=aej hT;obtain⟨y,hy⟩:∃y,R.tmps[Q]?=U y:=by
   have:Q<Y s.tmps:=(dq.1 hx).1;exact⟨R.tmps[Q],dG ae⟩
  cases hp:xB Q N.tm ((({s with ax:=s.ax+1,rs:=jC N s}:S).bU N.ks).1) with
  |some v=>
   rw[hp] at h;simp only[yX] at h;subst h;obtain⟨q,k,hq,hv⟩:=ank hp;have hc:=(ca q k v y (ant hq) (anu hq hy) hv);rcases R1.tmps Q y hy with M|M;subst M;have:=a4 q k .any (ant hq) (anu hq hy);rcases k with _|_|(_|_|_|_|_)<;>simp[EG] at this;right;rw[hc.1];exact M
  |none=>
   rw[hp] at h;simp only[av7] at h;split at h;exact .inl h.symm;rename_i cv;subst h;have hn:=anl (by rw[bk,bl];omega) hp;rcases bc Q P y hx hy with M|M|M;rw[jk] at M;rw[hn] at M;cases M;rw[jk] at M;exact bF M cv;subst M;rcases R1.tmps Q P hy with L|L;exact .inl L;right;rw[b8 P (xG b5 hx)];exact L
 intro k X F b M L h3;simp only[rT] at M;have bf:∃u:Nat,R.rs[u]?=U (RK.own X)/\x.r[u]?=U F/\∀(A:Nat)(H:RK)(o:RV),A≠k->(rT N t s).rs[A]?=U H->(O.ext n).r[A]?=U o->AV ty H o b->∃aa:Nat,aa≠u/\R.rs[aa]?=U H/\x.r[aa]?=U o:=by
  have other:∀(A:Nat)(H:RK)(o:RV),(rT N t s).rs[A]?=U H->(O.ext n).r[A]?=U o->AV ty H o b->
    ((jC N s)[A]?=U H/\R.rs[A]?=U H/\x.r[A]?=U o)\/∃q aa:Nat,N.ks[q]?=U (.ak H)/\(lj N R)[q]?=U (.ak (.v aa))/\R.rs[aa]?=U H/\x.r[aa]?=U o/\A=(jC N s).length+Hm (N.ks.take q):=by
   intro A H o g1 g2 B;rcases Ns N.ks n {s with ax:=s.ax+1,rs:=jC N s} O af ag A H o g1 g2 with⟨p1,p2⟩|⟨q,p1,p2,p3⟩;obtain⟨e1,q1,q2,q3⟩:=br A H o p1 p2;rcases q3 with rfl|rfl;rcases B with B|⟨⟨Q,ht⟩,_⟩;cases B;cases ht;exact .inl ⟨p1,q1,q2⟩;rcases bs q H o p1 p2 with⟨u,q1,q2,q3⟩|⟨rfl,Q,sh,q⟩;exact .inr ⟨q,u,p1,q1,q2,q3,p3⟩;exfalso;rcases B with B|⟨_,B⟩;rcases q with rfl|rfl|rfl;cases B with|deep X v b2 i j ac c z k b g1=>simp at g1
   cases B with
   |own X F b B=>cases B with|deep X v b2 i j ac c z k b g1=>simp at g1
   cases B;simp[RV.lq] at B
  rcases other k (.own X) F M L (.inr ⟨⟨X,rfl⟩,h3⟩) with⟨p1,p2,p3⟩|⟨q,u,p1,p2,p3,p4,p5⟩;refine⟨k,p2,p3,λA H o g0 g1 g2 B=> ?_⟩;rcases other A H o g1 g2 B with⟨r1,r2,r3⟩|⟨q',aa,r1,r2,r3,r4,r5⟩;exact⟨A,g0,r2,r3⟩;refine⟨aa,λa3=> ?_,r3,r4⟩;subst a3;rw[p2] at r3;cases r3;have:=bx q' X aa r1 r2 _ p1;cases this;refine⟨u,p3,p4,λA H o g0 g1 g2 B=> ?_⟩;rcases other A H o g1 g2 B with⟨r1,r2,r3⟩|⟨q',aa,r1,r2,r3,r4,r5⟩;refine⟨A,λa3=> ?_,r2,r3⟩;subst a3;rw[p3] at r2;cases r2;have:=bx q X A p1 p2 _ r1;cases this;refine⟨aa,λa3=> ?_,r3,r4⟩;subst a3;rw[p3] at r3;cases r3;by_cases b3:q=q';subst b3;exact g0 (by rw[r5,p5]);exact anw cp p1 p2 r1 r2 b3 rfl
 obtain⟨u,g1,g2,B⟩:=bf;have Q:=R1.eN u X F b g1 g2 h3;refine⟨Q.own,Q.mem,λi hi=> ?_,λA H o q1 q2 q3 q4=> ?_,Q.inner⟩;obtain⟨h5,h6⟩:=al i hi;rw[E3 h6];exact Q.box i (hl.mono i h5);obtain⟨aa,r1,r2,r3⟩:=B A H o q1 q2 q3 q4;exact Q.alone aa H o r1 r2 r3 q4
end
structure jd(p:Sp)(f:bv):Prop where
 pt:p.ty=f.ty
 Xa:p.P.follows .mixedOrders=J
 kK:jq p.P f.ty
 zl:Nr p.P f
 zA:∀g,(f.sig g).isSome=J\/(f.inl g).isSome=J->∀args W,(callFunc g args).run p.P W=.ok (.enter g args) W
 Xb:∀ch W b o,p.w0.heap.size<=b->p.R (.panicked ch) W->p.R (.panicked ch) (W.putObj b o)
 inl:∀g c nt rs,f.inl g=U (c,nt,rs)->∃fn,p.P.funcs[g]?=U fn/\fn.body=U c/\fn.ntmps=nt/\fn.results.toList=rs
section
variable{p:Sp}{f:bv}
def aA.anx{D:bT}{V:ar}{a:Act}{W:World}(Q:aA t e D f.ty V x R a W){b:BE}{v:Bool}(G:R.tmps.getD X .any=.bool b)(N:b.ai x=v):
  aA t e D f.ty V x {R with tmps:=R.tmps.set X (.bool (.c v))} a W:=by
 refine⟨Q.mem,Q.gC,Q.ei,Q.eb,Q.er,Q.dl,by simpa using Q.size,λi M h=> ?_,Q.eN⟩;simp only[yW] at h;split at h;rename_i L;subst L;split at h;rename_i F;cases h;have H:R.tmps[X]?=U (.bool b):=by
  grind
 rcases Q.tmps X _ H with P|P;cases P;right;rw[P];simp[C.ai,BE.ai,N];cases h;exact Q.tmps i M h
end
mutual
def K.ey{R Q P N M H:Nat}(X:R<=N)(W:Q<=M)(V:P<=H):∀(e:K),e.bd R Q P=J->e.bd N M H=J
 |.c n,_=>K.bj.1 _|.v k,h=>by simp[K.bj] at h⊢;omega|.bin o k a b,h=>by simp[K.bj] at h⊢;exact⟨K.ey X W V a h.1,K.ey X W V b h.2⟩|.conv k a,h=>by simp[K.bj] at h⊢;exact K.ey X W V a h|.len r,h=>by simp[K.bj] at h⊢;exact RE.ey X W V r h|.mm m a b,h=>by simp[K.bj] at h⊢;exact⟨K.ey X W V a h.1,K.ey X W V b h.2⟩|.dt b x y,h=>by simp[K.bj] at h⊢;exact⟨⟨BE.ey X W V b h.1.1,K.ey X W V x h.1.2⟩,K.ey X W V y h.2⟩|.cell r i j,h=>by simp[K.bj] at h⊢;exact⟨RE.ey X W V r h.1,K.ey X W V i h.2⟩|.oZ r i,h=>by simp[K.bj] at h⊢;exact⟨RE.ey X W V r h.1,K.ey X W V i h.2⟩|.look r n a b c j,h=>by simp[K.bj] at h⊢;exact⟨⟨⟨RE.ey X W V r h.1.1.1,K.ey X W V a h.1.1.2⟩,K.ey X W V b h.1.2⟩,K.ey X W V c h.2⟩
def BE.ey{R Q P N M H:Nat}(X:R<=N)(W:Q<=M)(V:P<=H):∀(e:BE),e.bd R Q P=J->e.bd N M H=J
 |.c n,_=>BE.bj.1 _|.v k,h=>by simp[BE.bj] at h⊢;omega|.cmp o a b,h=>by simp[BE.bj] at h⊢;exact⟨K.ey X W V a h.1,K.ey X W V b h.2⟩|.not a,h=>by simp[BE.bj] at h⊢;exact BE.ey X W V a h|.and a b,h=>by simp[BE.bj] at h⊢;exact⟨BE.ey X W V a h.1,BE.ey X W V b h.2⟩|.beq a b,h=>by simp[BE.bj] at h⊢;exact⟨BE.ey X W V a h.1,BE.ey X W V b h.2⟩|.dt b x y,h=>by simp[BE.bj] at h⊢;exact⟨⟨BE.ey X W V b h.1.1,BE.ey X W V x h.1.2⟩,BE.ey X W V y h.2⟩|.cell r i j,h=>by simp[BE.bj] at h⊢;exact⟨RE.ey X W V r h.1,K.ey X W V i h.2⟩|.seq a b,h=>by simp[BE.bj] at h⊢;exact⟨RE.ey X W V a h.1,RE.ey X W V b h.2⟩|.look r n a b c j,h=>by simp[BE.bj] at h⊢;exact⟨⟨⟨RE.ey X W V r h.1.1.1,K.ey X W V a h.1.1.2⟩,K.ey X W V b h.1.2⟩,K.ey X W V c h.2⟩|.has r n a b c,h=>by simp[BE.bj] at h⊢;exact⟨⟨⟨RE.ey X W V r h.1.1.1,K.ey X W V a h.1.1.2⟩,K.ey X W V b h.1.2⟩,K.ey X W V c h.2⟩
def RE.ey{X W V R Q P:Nat}(N:X<=R)(M:W<=Q)(H:V<=P):∀(e:RE),e.bd X W V=J->e.bd R Q P=J
 |.v k,h=>by simp[RE.bj] at h⊢;omega|.cell r i j k,h=>by simp[RE.bj] at h⊢;exact⟨RE.ey N M H r h.1,K.ey N M H i h.2⟩|.k v,_=>RE.bj.2.2 _
end
def Xc{ty:Ty}{s R:S}:∀{r:RE}{e:RK},(∀(k:Nat)(e:RK),r.root=U k->s.rs[k]?=U e->∃X,R.rs[k]?=U X/\X.rd=e.rd)->e≠ .bw->r.kind ty s=e->r.kind ty R=e
 |.v k,e,bZ,W,h=>by
  simp only[RE.kind,dM] at h⊢;cases V:s.rs[k]? with
  |none=>rw[V] at h;exact bF (show e=.bw from h.symm) W
  |some q=>
   rw[V] at h;obtain⟨X,P,N⟩:=bZ k q rfl V
   grind
 |.cell r i j M,e,bZ,W,h=>by
  simp only[RE.kind] at h⊢;split at h;rename_i X Q;rw[Xc (r:=r) bZ aw Q];exact h
  grind
 |.k v,e,bZ,W,h=>by cases v<;>exact h
def zB{ty:Ty}{s s':S}(h:s.rs=s'.rs):∀r:RE,r.kind ty s=r.kind ty s'
 |.v k=>by simp only[RE.kind,h]|.cell r i j k=>by simp only[RE.kind,zB h r]|.k v=>by cases v<;>rfl
def CU(ty:Ty)(s X:S):Prop:=∀(r:RE)(e:RK),e≠ .bw->r.kind ty s=e->r.kind ty X=e
def CU.A8{ty:Ty}{X:S}(h:X.rs=R.rs):CU ty R X:=λr e _ W=>by rw[zB h];exact W
def ax9{ty:Ty}{X:S}(bZ:CU ty R X){c:CT}{y:C}{e:BE}(h:Mv ty R c r y=U e):Mv ty X c r y=U e:=by
 unfold Mv at h⊢;split at h;exact h;exact h;split at h;rename_i W;rw[aH ⟨bZ _ _ aw W.1,bZ _ _ aw W.2⟩];exact h;cases h;cases h
def anz{ty:Ty}{s W:S}(bZ:CU ty s W):∀{X:eL}{x y:aq}{e:BE},sN ty s X x y=U e->sN ty W X x y=U e
 |[],[],[],e,h=>h
 |c::X,x::Q,y::P,e,h=>by
  simp only[sN] at h⊢;split at h;rename_i a b V R;rw[ax9 bZ V,anz bZ R];exact h;cases h
 |[],[],_::_,e,h=>by simp[sN] at h|[],_::_,_,e,h=>by simp[sN] at h|_::_,[],_,e,h=>by simp[sN] at h|_::_,_::_,[],e,h=>by simp[sN] at h
def anA{ty:Ty}{s X:S}(bZ:CU ty s X){W:vD}{x y:aq}{e:BE}(h:Mw ty s W x y=U e):Mw ty X W x y=U e:=by
 unfold Mw at h⊢;split at h;exact anz bZ h;cases h
section
variable{ty:Ty}{F:nZ}{O:aj}
def Xd{P:S}{G:Op}{r:PR}(W:∀x∈G.operands.toList,P.ev F x=R.ev F x)(H:looks G=J->Cz G=E->CU ty R P)
  (ab:∀t x r w i z,G=.load t x->R.ev F x=.el r w i z->∀e,e≠ .bw->r.kind ty R=e->r.kind ty P=e)
  (o:∀i,Cp F R G=U i->bP P.au i=bP R.au i)(h:cw ty F R G=r)(V:∀w,r≠ .no w):cw ty F P G=r:=by
 cases G with
 |move x=>have X:=W x cq;simp only[cw] at h⊢;rw[X];exact h|assign x=>have X:=W x cq;simp only[cw] at h⊢;rw[X];exact h
 |pick c x y=>
  have X:=W c cq;have N:=W x cq;have l:=W y cq;simp only[cw] at h⊢;rw[X,N,l];exact h
 |load t x=>
  have X:=W x cq;simp only[cw] at h⊢;rw[X];split at h;rename_i ti i z D Q;rw[RJ (o i (by simp only[Cp,Q]))];exact h;rename_i ti r w i z D Q;split at h;rename_i e M;rw[ab t x r w i z rfl Q _ aw M];exact h;exact bF h.symm (V _);rename_i ti e ks j D Q;have B:((AM j).bind λi=>mR P.au i)=(AM j).bind λi=>mR R.au i:=by
   cases hl:AM j with|none=>rfl|some i=>exact RJ (o i (by simp only[Cp,Q];exact hl))
  rw[B];exact h;exact bF h.symm (V _)
 |fieldAddr t x f=>have X:=W x cq;simp only[cw] at h⊢;rw[X];exact h|field t x f=>have X:=W x cq;simp only[cw] at h⊢;rw[X];exact h
 |indexAddr t x y=>
  have X:=W x cq;have N:=W y cq;simp only[cw] at h⊢;rw[X,N];split at h;exact h;exact h;exact h;split at h;rename_i D M;rw[(H rfl rfl) _ _ aw M,D];exact h;exact bF h.symm (V _);exact h;exact h;exact bF h.symm (V _)
 |index t x y=>
  have X:=W x cq;have N:=W y cq;simp only[cw] at h⊢;rw[X,N];split at h;exact h;exact h;split at h;rename_i M;rw[(H rfl rfl) _ _ aw M];exact h;exact bF h.symm (V _);exact bF h.symm (V _)
 |binOp G t x y t2=>
  have X:=W x cq;have N:=W y cq;simp only[cw] at h⊢;rw[X,N];split at h;exact h;exact h;exact h;split at h;rename_i v A;simp only[(H rfl rfl) _ _ aw v,(H rfl rfl) _ _ aw A];exact h;rename_i v A;simp only[(H rfl rfl) _ _ aw v,(H rfl rfl) _ _ aw A];exact h;exact bF h.symm (V _);exact h;exact h;split at h;rename_i e M;rw[anA (H rfl rfl) M];exact h;rename_i e M;rw[anA (H rfl rfl) M];exact h;exact bF h.symm (V _);exact bF h.symm (V _)
 |unOp G t x=>have X:=W x cq;simp only[cw] at h⊢;rw[X];exact h|convert t1 t2 x=>have X:=W x cq;simp only[cw] at h⊢;rw[X];exact h|makeInterface t x=>have X:=W x cq;simp only[cw] at h⊢;rw[X];exact h
 |makeFunc fn first bD=>
  have X:bD.toList.map (P.ev F)=bD.toList.map (R.ev F):=kF λx Q=>W x (by simp[im];exact .inr (by simpa using Q))
  have N:∀x,first.toList=[x]->P.ev F x=R.ev F x:=λx Q=>W x (by
   have:x∈first:=by rw[<-aIY,Q];simp
   simp[im];exact .inl this)
  simp only[cw] at h⊢;rw[X];rcases aa:first.toList with _|⟨x,_|⟨y,r⟩⟩
  all_goals rw[aa] at h
  all_goals cases fn<;>first|exact h|(simp only at h⊢;rw[N x aa];exact h)
 |extract x i=>have X:=W x cq;simp only[cw] at h⊢;rw[X];exact h|nilCheck x=>have X:=W x cq;simp only[cw] at h⊢;rw[X];exact h
 |slice t x g hi mx=>
  have X:=W x cq;have N:g.map (P.ev F)=g.map (R.ev F):=by
   cases g with|none=>rfl|some y=>simp only[ga];rw[W y cq]
  have l:hi.map (P.ev F)=hi.map (R.ev F):=by
   cases hi with|none=>rfl|some y=>simp only[ga];rw[W y cq]
  simp only[cw] at h⊢;rw[X,N,l];split at h;exact h;rename_i e am q r m D Q;rw[W m cq];split at h;split at h;rename_i hn;rw[aH hn];exact h;rename_i hn;rw[aS hn];split at h;rename_i hk;rw[aH ((H rfl rfl) _ _ aw hk)];exact h;exact bF h.symm (V _);exact bF h.symm (V _);exact bF h.symm (V _)
 |build t parts=>
  have X:(parts.toList.map λp=>(p.1,P.ev F p.2))=parts.toList.map λp=>(p.1,R.ev F p.2):=kF λp hp=>by rw[W p.2 (by simp[im];exact⟨p.1,by simpa using hp⟩)]
  simp only[cw] at h⊢;rw[X];exact h
 |lookup t x ix ok=>
  have X:=W x cq;have N:=W ix cq;simp only[cw] at h⊢;rw[X,N];split at h;rename_i k e n ag am q i D Q;have A:=o i (by simp only[Cp,Q]);unfold VR at h⊢;rw[A];split at h;rename_i te a b c bt cs g1 g2 g3;split at h;exact bF h.symm (V _);rename_i ac;rw[aS ac];split at h;rename_i hd;rw[aH hd];split at h;rename_i r nk ka va;split at h;rename_i u;have:r.pL ty P ⟨k,e,n,ag,te.d.isAgg⟩=true:=by
   simp only[aC] at u;have h6:=u.1.1.1.1.1;unfold RE.pL at h6⊢;rcases avV.1 h6 with h7|h7;rw[decide_eq_true ((H rfl rfl) r _ aw (GK h7))];rfl;rw[h7];simp
  simp only[aC] at u;simp only[this,u,Ci,dO];exact h;exact bF h.symm (V _);exact bF h.symm (V _);rename_i hd;rw[aS hd];exact h;exact bF h.symm (V _);exact bF h.symm (V _)
 |call c=>
  have X:c.args.toList.map (P.ev F)=c.args.toList.map (R.ev F):=kF λx Q=>W x (by simp[im,Ch];exact .inr (by simpa using Q))
  cases B:c.callee with
  |builtin b=>
   cases b with
   |len=>
    simp only[cw,B] at h⊢;rw[X];split at h;exact h;rename_i t r af v A;split at h;rename_i D M;simp only[(H rfl rfl) _ _ aw M,D];exact h;rename_i D M;simp only[(H rfl rfl) _ _ aw M,D];exact h;exact bF h.symm (V _);exact h;exact bF h.symm (V _)
   |min=>simp only[cw,B] at h⊢;rw[X];exact h|max=>simp only[cw,B] at h⊢;rw[X];exact h|_=>simp only[cw,B] at h;exact bF h.symm (V _)
  |value f=>simp only[cw,B] at h;exact bF h.symm (V _)|invoke r m=>simp only[cw,B] at h;exact bF h.symm (V _)
 |_=>simp only[cw] at h;exact bF h.symm (V _)
end
def PR.A9(s:S)(O:aj)(v:C):PR->Prop
 |.ok x=>v=x|.aQ b x=>b.ai O=J/\b.bd s.ni s.nb (Y s.rs)=J/\v=x|_=>False
def Xe{X:PR}(h:X.A9 R x r):X.gives x r:=by
 cases X with|ok W=>exact h|aQ b W=>exact⟨h.1,h.2.2⟩|no w=>exact h
def gY(B:dC)(m:OM)(s:S)(O:aj):Option Bool:=match m.o.guard with
 |none=>U J
 |U (j,X)=>match(B[j]?).bind (·.dst) with
  |U d=>match s.tmps[d]? with|U (.bool b)=>if b.bd s.ni s.nb (Y s.rs) then U (b.ai O==X) else Z|U (.bH [])=>U E|_=>Z
  |none=>Z
def QV(u:bv)(B:dC)(O:aj)(m:OM)(s:S)(v:C)(l:Nat):Prop:=
 (gY B m s O=U E/\v=.bH []/\l=0)\/
 (gY B m s O=U J/\(∀x∈m.o.op.operands.toList,(s.ev u.gl x).eY=E)/\match m.o.op with|.pick c x y=>∃e:BE,s.ev u.gl c=.bool e/\e.bd s.ni s.nb (Y s.rs)=J/\v=(if e.ai O then s.ev u.gl x else s.ev u.gl y)/\l=0|.load t x=>(cw u.ty u.gl s (.load t x)).A9 s O v/\l=Rg m.bM (s.ev u.gl x)|op=>(cw u.ty u.gl s op).A9 s O v/\l=0)
def OR.Kl(s:S)(O:aj)(X:S):OR->Prop
 |.ok x=>X=x|.aQ b x=>b.ai O=J/\b.bd s.ni s.nb (Y s.rs)=J/\X=x|.split b W V=>b.bd s.ni s.nb (Y s.rs)=J/\X=if b.ai O then W else V|.no _=>False
def iY(u:bv)(m:OM)(s:S)(O:aj)(X:S):Prop:=(gI u m s).Kl s O X
def Nx{u:bv}{X:S}(h:iY u b R x X):(gI u b R).gives x X:=by
 unfold iY at h;cases W:gI u b R<;>rw[W] at h;exact h;exact⟨h.1,h.2.2⟩;exact h.2;exact h
def anB{Q:S}{d:cG}{r:PR}:(xz R d X r).Kl R x Q<->∃v,r.A9 R x v/\Q=R.dE d v X:=by
 cases r with
 |ok v=>exact⟨λh=>⟨v,rfl,h⟩,λ⟨w,W,V⟩=>by cases W;exact V⟩
 |aQ b v=>
  simp only[xz];split;rename_i P;exact⟨λh=>⟨v,⟨h.1,h.2.1,rfl⟩,h.2.2⟩,λ⟨w,⟨W,V,N⟩,M⟩=>⟨W,V,by rw[M,N]⟩⟩;rename_i P;exact⟨λh=>h.elim,λ⟨w,⟨W,V,N⟩,M⟩=>bF V P⟩
 |no w=>exact⟨λh=>h.elim,λ⟨w,W,V⟩=>W.elim⟩
def Ny(p:Sp)(u:bv)(s:S)(O:aj)(g:FuncId)(N:aq)(X:aj->C->S->Prop):Prop:=
 ∃G Q l,u.sig g=U G/\fH u.ty G=U Q/\zm u.ty G ((s.cut N Q).bU Q).1=U l/\(s.eV N&&mT Q)=J/\
  ∀V W,jE p.S0 p.w0 V O (uu (sP (C.qj N) 0 s.au)) p.ty (J0 N s.rs) W->Calls p.P g (C.az O V N).toArray W λ
   |.returned v,M=>∃H,dJ Q H/\v=(one l).ai (O.ext H) V/\Below W.heap.size W M/\CG p.ty M W.heap.size (O.ph p.ty (J0 N s.rs)) Q H/\X (O.ext H) (one l) ((s.cut N Q).bU Q).2|.panicked F,M=>Below W.heap.size W M/\p.R (.panicked F) M|.outgrown,_=>False
def uI(o:Option BI)(f:BI->Prop)(g:Prop):Prop:=match o with|U b=>f b|none=>g
def rk(o:Option (C×bm))(f:C->bm->Prop)(g:Prop):Prop:=match o with|U (v,X)=>f v X|none=>g
def eC(p:Sp)(u:bv)(B:dC)(A:vO)(X:aj->S->Prop)(W:aj->C->S->Prop)(V:OM->cQ->aj->S->Nat->aq->Prop):cQ->aj->S->Prop
 |[],O,s=>X O s
 |m::R,O,s=>
  (gY B m s O=U E/\eC p u B A X W V R O (s.put m.o.dst (.bH [])))\/
  (gY B m s O=U J/\match ep u s m.o with|.call (.fn g) Q=>rk (A g Q s) (λv M=>s.bd=J/\eC p u B A X W V R O ((s.plus M).put m.o.dst v)) (Ny p u s O g Q λH v P=>eC p u B A X W V R H (P.put m.o.dst v))|.call (.yl n) Q=>m.so=J/\V m R O s n Q|.bp v=>W O v s|.no=>False|.op=>uI (eW u m.o m.bM m.dr s) (λb=>b.aQ.ai O=J/\∀N,J8 p.ty p.S0 p.w0 b.e b.x s.rs O N->eC p u B A X W V R (O.add (.r N)) b.s) (∃P,iY u m s O P/\eC p u B A X W V R O P))
def CV(s:S)(O:aj)(X:Fx):Prop:=∀x∈X,x.1.ai O=x.2/\x.1.bd s.ni s.nb (Y s.rs)=J
def ael{p:Sp}{L:dp}{W:Fx}{b:BE}{t f:Fx->T}(P:CV R x W)(h:(ED R W b t f).aM p x L):
  b.bd R.ni R.nb (Y R.rs)=J/\∃N,CV R x N/\(if b.ai x then(t N).aM p x L else(f N).aM p x L):=by
 have F:vZ x W:=λX V=>(P X V).1
 have ce:∀v,Rh W b=U v->b.bd R.ni R.nb (Y R.rs)=true:=by
  intro v Q;unfold Rh at Q;split at Q;exact BE.bj.1 _;cases M:W.find? (λX=>X.1.aP b) with
  |none=>rw[M] at Q;cases Q
  |some X=>
   have H:=ack M;rw[<-BE.bW _ _ H];exact(P X (Vu M)).2
 unfold ED at h;split at h
 grind [WN]
 grind [WN]
 split at h;rename_i G;simp only[T.aM] at h;refine⟨G, ?_⟩;have D:∀v,b.ai x=v->CV R x ((b,v)::W):=λv B X V=>by
  rcases fh.1 V with rfl|V
  grind
  exact P X V
 grind
 exact h.elim
section
variable{p:Sp}{u:bv}{B:dC}{A:vO}{L:dp}{G:YH}{k:S->T}{D:C->S->T}
def gg(s:S)(d:cG)(v:C):(s.put d v).ni=s.ni/\(s.put d v).nb=s.nb/\(s.put d v).rs=s.rs:=by cases d<;>exact⟨rfl,rfl,rfl⟩
def anC{X:S}(h:(gI u b R).gives x X):X.ni=R.ni/\X.nb=R.nb/\X.rs=R.rs:=by
 unfold gI at h;split at h;exact h.elim;split at h;split at h;split at h;cases h;exact gg _ _ _;exact h.elim;exact h.elim;split at h;split at h;cases h;exact gg _ _ _;exact h.elim;exact h.elim;split at h;split at h;split at h;split at h;cases h;exact gg _ _ _;exact h.elim;exact h.elim;exact h.elim;exact h.elim;split at h;split at h;split at h;cases h;exact gg _ _ _;exact h.elim;exact h.elim;exact h.elim;split at h;simp only[OR.gives] at h;split at h<;>(subst h;exact gg _ _ _);exact h.elim;obtain⟨v,-,rfl⟩:=CO h;exact gg _ _ _;obtain⟨v,-,rfl⟩:=CO h;exact gg _ _ _
def Ss{d:cG}{aQ:BE}{k:RK}{x:LE}{dj:ar}{b:BI}(h:kW R d aQ v k x t dj=U b):b.s.ni=R.ni/\b.s.nb=R.nb/\Y b.s.rs=Y R.rs+1:=by
 obtain⟨-,-,rfl⟩:=AZ h;refine⟨(gg _ _ _).1,(gg _ _ _).2.1, ?_⟩;simp only;rw[(gg _ _ _).2.2];simp[CL,CJ]
def anD{bM W:Bool}{b:BI}(h:eW u l bM W R=U b):b.s.ni=R.ni/\b.s.nb=R.nb/\Y b.s.rs=Y R.rs+1:=by
 unfold eW at h;split at h;split at h;split at h;split at h;split at h;split at h;cases h;split at h;split at h;cases h;exact Ss h;cases h;cases h;cases h;cases h;cases h;split at h;split at h;split at h;exact Ss h;cases h;cases h;cases h;split at h;cases h;split at h;split at h;split at h;split at h;exact Ss h;cases h;cases h;cases h;cases h;split at h;cases h
 ·split at h
  all_goals first
   |cases h
   |(split at h
     split at h;exact Ss h;cases h;cases h)
 split at h;cases h;split at h;split at h;split at h;split at h;cases X:kW R Z (xw _ (.len (.v _))) _ (.own _) _ [_] _ with
 |none=>rw[X] at h;cases h
 |some N=>
  rw[X] at h;simp at h;subst h;obtain⟨V,Q,P⟩:=Ss X;refine⟨?_, ?_, ?_⟩;simp only;rw[(gg _ _ _).1];exact V;simp only;rw[(gg _ _ _).2.1];exact Q;simp only;rw[(gg _ _ _).2.2];exact P
 cases h;cases h;cases h;cases h;cases h
def anE{W:S}{d:cG}{r:PR}{b:BE}(h:xz R d X r=.aQ b W):b.bd R.ni R.nb (Y R.rs)=true:=by
 cases r with
 |ok v=>cases h
 |aQ V v=>
  grind [xz]
 |no w=>cases h
def aya{W:S}{X:BE}(h:gI u b R=.aQ X W):X.bd R.ni R.nb (Y R.rs)=true:=by
 unfold gI at h;split at h;cases h;split at h
 ·(repeat' split at h)<;>cases h
 ·(repeat' split at h)<;>cases h
 ·(repeat' split at h)<;>cases h
 ·(repeat' split at h)<;>cases h
 ·(repeat' split at h)<;>cases h
 exact anE h;exact anE h
structure CW(B:dC)(A:vO):Prop where
 q:∀(g:FuncId)(args:aq)(s:S)(d:cG)(v:C)(l:Nat),A g args (s.dE d v l)=A g args s
 z:∀(g:FuncId)(s:S)(n:Nat)(t:TypeId)(cs:aq)(d:cG)(w:C),gr s.au n=J->A g [] ((s.cX n t cs).put d w)=A g [] s
 reg:∀(g:FuncId)(args:aq)(s:S)(r:C×bm),A g args s=U r->We B=J
def anF{W:bm}(h:aJ R.au X=J):bP (R.plus W).au X=bP R.au X:=by
 obtain⟨b,V⟩:=jy.1 h
 grind [bS,S.plus]
def anG{W:bm}(h:gr R.au X=J):gr (R.plus W).au X=true:=by
 grind [gr,S.plus]
def aen{s:S}{o:Oper}{g:Cr}{X:aq}(h:ep u s o=.call g X):AU o.op=true:=by
 grind [AU,ep]
def anH{s:S}{o:Oper}{g:FuncId}{X:aq}(W:MI o.op=J)(h:ep u s o=.call (.fn g) X):X=[]:=by
 grind [ep,S.ev,zh,jX,AP,CK.call.injEq,Cr.fn.injEq,MI]
def Ho(p:Sp)(k:S->T)(L:dp)(O:aj)(s:S):Prop:=(k s).aM p O L
def E4(p:Sp)(D:C->S->T)(L:dp)(O:aj)(v:C)(s:S):Prop:=(D v s).aM p O L
def E5(p:Sp)(u:bv)(B:dC)(A:vO)(G:YH)(k:S->T)(D:C->S->T)(L:dp)(m:OM)(X:cQ)(O:aj)(s:S)(n:Nat)(V:aq):Prop:=
 (∀R∈X,R.dr=J)/\∃W,CV s O W/\(uA u A G (.yl n) V s (λv Q=>lH u (uA u A G) B k D X (Q.put m.o.dst v) (qo s W)) D).aM p O L
def Km(a0:p.ty=u.ty):∀(l:cQ)(s:S)(fx:Fx)(O:aj),Y O.i=s.ni->Y O.b=s.nb->Y O.r=Y s.rs->(lH u (uA u A G) B k D l s fx).aM p O L->CV s O fx->
  (∀m∈l,m.dr=J)->eC p u B A (Ho p k L) (E4 p D L) (E5 p u B A G k D L) l O s
 |[],s,fx,O,_,_,_,h,_,_=>h
 |m::Q,s,fx,O,a,e2,e3,h,a3,bl=>by
  have a9:m.dr=true:=bl m aw;have al:∀m∈Q,m.dr=true:=λm' bt=>bl m' (by simp[bt])
  have bx:Cu u m s=none:=by simp[Cu,a9]
  have b0:EE u m s=none:=by simp[EE,a9]
  have b1:∀c f,Ct u m s c f=none:=λc f=>by simp[Ct,a9]
  have ba:∀(s:S)(d:cG)(v:C),(s.put d v).ni=s.ni/\(s.put d v).nb=s.nb/\(s.put d v).rs=s.rs:=λs d v=>by cases d<;>exact⟨rfl,rfl,rfl⟩
  have br:∀(X:S)(P:Fx),X.ni=s.ni->X.nb=s.nb->X.rs=s.rs->CV s O P->CV X O P:=λX P h1 N h3 hf x hx=>by rw[h1,N,h3];exact hf x hx
  have bb:∀P,CV s O P->(Cw u (uA u A G) m s (lH u (uA u A G) B k D Q) D P).aM p O L->
    (match ep u s m.o with
     |.call (.fn g) w=>rk (A g w s) (λv ex=>s.bd=J/\eC p u B A (Ho p k L) (E4 p D L) (E5 p u B A G k D L) Q O ((s.plus ex).put m.o.dst v)) (Ny p u s O g w λO' v X=>eC p u B A (Ho p k L) (E4 p D L) (E5 p u B A G k D L) Q O' (X.put m.o.dst v))|.call (.yl n) w=>m.so=J/\E5 p u B A G k D L m Q O s n w|.bp v=>E4 p D L O v s|.no=>False
     |.op=>uI (eW u m.o m.bM m.dr s) (λb=>b.aQ.ai O=J/\∀rv,J8 p.ty p.S0 p.w0 b.e b.x s.rs O rv->eC p u B A (Ho p k L) (E4 p D L) (E5 p u B A G k D L) Q (O.add (.r rv)) b.s)
      (∃X,iY u m s O X/\eC p u B A (Ho p k L) (E4 p D L) (E5 p u B A G k D L) Q O X):Prop):=by
   intro P af h;unfold Cw at h;rw[bx] at h;simp only[b0,b1] at h;cases hc:ep u s m.o with
   |call g0 w=>
    rw[hc] at h;cases g0 with
    |yl n=>
     simp only at h⊢;split at h;rename_i b2;exact⟨b2,al,P,af,h⟩;exact h.elim
    |fn g=>
    simp only[uA] at h;simp only;cases bs:A g w s with
    |some ve=>
     obtain⟨v,ex⟩:=ve;rw[bs] at h;simp only at h;split at h;rename_i M;refine⟨M, ?_⟩;obtain⟨H,F,z⟩:=ba (s.plus ex) m.o.dst v;refine Km a0 Q _ _ O (by rw[H];exact a) (by rw[F];exact e2) (by rw[z];exact e3) h (λx hx=> ?_) al;rw[H,F,z];exact af x (qh.1 hx).1;exact h.elim
    |none=>
    rw[bs] at h;simp only[AS] at h;simp only[rk];split at h;rename_i ts b3;split at h;rename_i ks b4;split at h;rename_i l hl;split at h;rename_i M;rw[aC] at M;refine⟨ts,ks,l,b3,b4,hl,M.1,λV W R=> ?_⟩;simp only[T.aM,akQ.1 M.2] at h;refine(h O.y V W R).mono ?_;intro e W' he;cases e with
    |returned v=>
     obtain⟨xs,h1,N,h3,h4,h5⟩:=he;have hy:(O.ext xs).at O.y=O.ext xs:=by have:=Hk xs O;unfold aj.at;rw[<-this]
     rw[hy] at N;refine⟨xs,h1,N,h3,h4, ?_⟩;obtain⟨l1,l2,l3⟩:=xK ks xs (s.cut w ks) O h1 a e2 (e3.trans (CR w ks s.rs).len.symm);have an:=ba ((s.cut w ks).bU ks).2 m.o.dst (one l);refine Km a0 Q _ _ _ (by rw[an.1];exact l1) (by rw[an.2.1];exact l2) (by rw[an.2.2];exact l3) h5 ?_ al;intro x hx;obtain⟨bc,b5⟩:=qh.1 hx;obtain⟨t,ce⟩:=af x bc;have b6:=ET xs O;have bf:=WC xs O;refine⟨by rw[BE.ef b6 _ (by rw[a,e2,e3];exact ce)];exact t, ?_⟩;rw[an.1,an.2.1,an.2.2,<-l1,<-l2,<-l3];exact BE.ey (by rw[<-a];exact bf.1) (by rw[<-e2];exact bf.2.1) (by rw[<-e3];exact bf.2.2) _ ce
    |panicked ch=>exact he|outgrown=>exact he
    exact h.elim;exact h.elim;exact h.elim;exact h.elim
   |bp v=>rw[hc] at h;exact h|no=>rw[hc] at h;exact h
   |op=>
    rw[hc] at h;simp only at h⊢;cases bg:eW u m.o m.bM m.dr s with
    |some b=>
     rw[bg] at h;obtain⟨hn,h⟩:=h;refine⟨hn,λrv b7=> ?_⟩;obtain⟨H,F,z⟩:=anD bg;have b8:(O.add (.r rv)).r.length=Y b.s.rs:=by simp[aj.add,z,e3]
     refine Km a0 Q b.s _ _ (by rw[H];exact a) (by rw[F];exact e2) b8 (h rv b7) ?_ al;intro x hx;obtain⟨bc,b5⟩:=qh.1 hx;obtain⟨t,ce⟩:=af x bc;refine⟨by rw[BE.ef (Wq O (.r rv)) _ (by rw[a,e2,e3];exact ce)];exact t, ?_⟩;exact BE.ey ae ae ae _ ce
    |none=>
    rw[bg] at h;simp only[uI] at h⊢;have a4:∀X a1,CV s O a1->iY u m s O X->(lH u (uA u A G) B k D Q X a1).aM p O L->∃X,iY u m s O X/\eC p u B A (Ho p k L) (E4 p D L) (E5 p u B A G k D L) Q O X:=by
     intro X a1 hf hG hs;obtain⟨H,F,z⟩:=anC (Nx hG);exact⟨X,hG,Km a0 Q X a1 O (by rw[H];exact a) (by rw[F];exact e2) (by rw[z];exact e3) hs (br X a1 H F z hf) al⟩
    split at h;rename_i X ag;exact a4 X P af (by unfold iY;rw[ag];rfl) h;rename_i b X ag;refine a4 X P af ?_ h.2;unfold iY;rw[ag];exact⟨h.1,aya ag,rfl⟩;rename_i b s1 s2 ag;obtain⟨ce,aa,ab,N⟩:=ael af h;cases hv:b.ai O;exact a4 s2 aa ab (by unfold iY;rw[ag];simp[OR.Kl,hv,ce]) (by simpa[hv] using N);exact a4 s1 aa ab (by unfold iY;rw[ag];simp[OR.Kl,hv,ce]) (by simpa[hv] using N);exact h.elim
  have bk:∀P,CV s O P->(lH u (uA u A G) B k D Q (s.put m.o.dst (.bH [])) P).aM p O L->eC p u B A (Ho p k L) (E4 p D L) (E5 p u B A G k D L) Q O (s.put m.o.dst (.bH [])):=by
   intro P hf h;obtain⟨H,F,z⟩:=ba s m.o.dst (.bH []);exact Km a0 Q _ P O (by rw[H];exact a) (by rw[F];exact e2) (by rw[z];exact e3) h (br _ P H F z hf) al
  simp only[lH,V6] at h;cases ac:m.o.guard with
  |none=>
   rw[ac] at h;exact .inr ⟨by simp[gY,ac],bb fx a3 h⟩
  |some q=>
   obtain⟨jj,ca⟩:=q;rw[ac] at h;simp only at h;split at h;rename_i d t;split at h;rename_i b M;cases ca;simp only[jX,ku] at h;obtain⟨ce,aa,ab,N⟩:=ael a3 h;cases j:b.ai O;exact .inr ⟨by simp[gY,ac,t,M,ce,j],bb aa ab (by simpa[j] using N)⟩;exact .inl ⟨by simp[gY,ac,t,M,ce,j],bk aa ab (by simpa[j] using N)⟩;simp only[dO] at h;obtain⟨ce,aa,ab,N⟩:=ael a3 h;cases j:b.ai O;exact .inl ⟨by simp[gY,ac,t,M,ce,j],bk aa ab (by simpa[j] using N)⟩;exact .inr ⟨by simp[gY,ac,t,M,ce,j],bb aa ab (by simpa[j] using N)⟩;rename_i M;exact .inl ⟨by simp[gY,ac,t,M],bk fx a3 h⟩;exact h.elim;exact h.elim
end
section
variable{p:Sp}{cf:bv}{ops:dC}{A:vO}
structure lL(cf:bv)(ops:dC)(o:Oper)(s:S)(O:aj)(s':S)(O':aj):Prop where
 tm:∀t∈kX ops o,s'.tmps[t]?=s.tmps[t]?
 kd:looks o.op=J->Cz o.op=E->CU cf.ty s s'
 kl:∀t x r w i off,o.op=.load t x->s.ev cf.gl x=.el r w i off->∀e,e≠ .bw->r.kind cf.ty s=e->r.kind cf.ty s'=e
 li:s.ni<=s'.ni
 lb:s.nb<=s'.nb
 lr:Y s.rs<=Y s'.rs
 ag:ja O O' s.ni s.nb (Y s.rs)
def lL.A8{o:Oper}{s X:S}{O:aj}(V:∀t∈kX ops o,X.tmps[t]?=s.tmps[t]?)(W:X.rs=s.rs)(R:X.ni=s.ni)(Q:X.nb=s.nb):lL cf ops o s O X O:=
 ⟨V,λ_ _=>CU.A8 W,λt x r w i P _ _=>CU.A8 W r,GI R.symm,GI Q.symm,GI (by rw[W]),ja.refl _ _ _ _⟩
theorem lL.ev{o:Oper}{s X:S}{O V:aj}(h:lL cf ops o s O X V)(W:nZ):∀x∈o.op.operands.toList,X.ev W x=s.ev W x:=by
 intro x R;cases x with
 |tmp t=>
  grind [S.ev,zh,h.tm,kX]
 |const v=>rfl|global g=>rfl|func f=>rfl
def lL.guard{m:OM}{s W:S}{O Q:aj}(h:lL cf ops m.o s O W Q){b:Bool}(X:gY ops m s O=U b):gY ops m W Q=U b:=by
 unfold gY at X⊢;cases V:m.o.guard with
 |none=>rw[V] at X;exact X
 |some q=>
  obtain⟨j,M⟩:=q;rw[V] at X;simp only at X⊢;cases R:(ops[j]?).bind (·.dst) with
  |none=>rw[R] at X;cases X
  |some d=>
   rw[R] at X;simp only at X⊢;have N:W.tmps[d]?=s.tmps[d]?:=h.tm d (by unfold kX;rw[V];exact akV _ (by simp[R]));rw[N];split at X;rename_i e L;split at X;rename_i P;rw[aH (BE.ey h.li h.lb h.lr _ P),BE.ef h.ag _ P];exact X;cases X;exact X;cases X
def anI{Q:S}{N:aj}(h:lL cf ops l R x Q N)(M:∀i,Cp cf.gl R l.op=U i->bP Q.au i=bP R.au i)
  (W:(cw cf.ty cf.gl R l.op).A9 R x r):(cw cf.ty cf.gl Q l.op).A9 Q N r:=by
 have H:cw cf.ty cf.gl Q l.op=cw cf.ty cf.gl R l.op:=by
  cases V:cw cf.ty cf.gl R l.op with|ok X=>exact Xd (ty:=cf.ty) (h.ev cf.gl) h.kd h.kl M V (λw P=>by cases P)|aQ b X=>exact Xd (ty:=cf.ty) (h.ev cf.gl) h.kd h.kl M V (λw P=>by cases P)|no w=>rw[V] at W;exact W.elim
 rw[H];cases V:cw cf.ty cf.gl R l.op with
 |ok X=>rw[V] at W;exact W
 |aQ b X=>
  rw[V] at W;obtain⟨G,L,F⟩:=W;exact⟨by rw[BE.ef h.ag _ L];exact G,BE.ey h.li h.lb h.lr _ L,F⟩
 |no w=>rw[V] at W;exact W.elim
def aeo{P:S}{G:aj}(h:lL cf ops b.o R x P G)(F:∀i,Cp cf.gl R b.o.op=U i->bP P.au i=bP R.au i)(z:QV cf ops x b R r X):QV cf ops G b P r X:=by
 rcases z with⟨N,M,V⟩|⟨N,M,V⟩;exact .inl ⟨h.guard N,M,V⟩;refine .inr ⟨h.guard N,λW D=>by rw[h.ev cf.gl W D];exact M W D, ?_⟩;have Q:=h.ev cf.gl;cases B:b.o.op with
 |pick c W y=>
  rw[B] at V Q;obtain⟨e,w,A,u,q⟩:=V;refine⟨e,by rw[Q c cq];exact w,BE.ey h.li h.lb h.lr _ A, ?_,q⟩;rw[BE.ef h.ag _ A,Q W cq,Q y cq];exact u
 |load t W=>
  have L:=λ(H:(cw cf.ty cf.gl R b.o.op).A9 R x r)=>anI (cf:=cf) h F H
  rw[B] at V Q L;exact⟨L V.1,by rw[Q W cq];exact V.2⟩
 |_=>
  have L:=λ(H:(cw cf.ty cf.gl R b.o.op).A9 R x r)=>anI (cf:=cf) h F H
  grind
def ayb(h:o8 l.op=J):ep cf R l=.op:=by
 unfold ep;cases W:l.op<;>rw[W] at h<;>simp[o8] at h<;>try rfl
 rename_i c;cases X:c.callee with
 |builtin b=>cases b<;>simp[X] at h<;>simp[X]
 |value f=>simp[X] at h|invoke r m=>simp[X] at h
theorem Nz(s:S)(d:cG)(v:C):s.dE d v 0=s.put d v:=by simp[S.dE]
def NA{Q:S}(F:o8 b.o.op=J)(P:gY ops b R x=U J):iY cf b R x Q<->∃v l,QV cf ops x b R v l/\Q=R.dE b.o.dst v l:=by
 unfold iY gI QV;by_cases N:(b.o.op.operands.toList.any λX=>(R.ev cf.gl X).eY)=J;simp only[N,dO];constructor;exact λh=>h.elim
 rintro⟨v,l,h|h,-⟩;rw[P] at h;cases h.1;obtain⟨X,H,D⟩:=nA.1 N;have:=h.2.1 X H;rw[this] at D;cases D
 ·have B:∀X∈b.o.op.operands.toList,(R.ev cf.gl X).eY=false:=by
   intro X H;cases t:(R.ev cf.gl X).eY;rfl;exact bF (nA.2 ⟨X,H,t⟩) N
  have G:¬gY ops b R x=U false:=by rw[P];simp
  have A:∀(M:Nat),(xz R b.o.dst M (cw cf.ty cf.gl R b.o.op)).Kl R x Q<->∃v l,((gY ops b R x=U E/\v=.bH []/\l=0)\/(gY ops b R x=U J/\(∀X∈b.o.op.operands.toList,(R.ev cf.gl X).eY=E)/\(cw cf.ty cf.gl R b.o.op).A9 R x v/\l=M))/\Q=R.dE b.o.dst v l:=by
   intro M;rw[anB];constructor;rintro⟨v,W,V⟩;exact⟨v,M,.inr ⟨P,B,W,rfl⟩,V⟩;rintro⟨v,l,h|⟨-,-,W,rfl⟩,L⟩;exact bF h.1 G;exact⟨v,W,L⟩
  rw[aS N];cases z:b.o.op<;>rw[z] at F A<;>simp only[o8,jX] at F
  case pick c X y=>
   simp only;cases q:R.ev cf.gl c with
   |bool e=>
    constructor;rintro⟨W,V⟩;refine⟨if e.ai x then R.ev cf.gl X else R.ev cf.gl y,0,.inr ⟨P,by rw[<-z];exact B,e,rfl,W,rfl,rfl⟩, ?_⟩;rw[Nz,V];split<;>rfl;rintro⟨v,l,h|⟨-,-,r,W,V,w,u⟩,L⟩;exact bF h.1 G;cases W;subst u;refine⟨V, ?_⟩;rw[L,Nz,w];split<;>rfl
   |_=>
    constructor;exact λh=>h.elim
    rintro⟨v,l,h|⟨-,-,r,W,V,w,u⟩,L⟩;exact bF h.1 G;cases W
  all_goals exact A _
variable{a:aj->S->Prop}{k:aj->C->S->Prop}{n:OM->cQ->aj->S->Nat->aq->Prop}
def anJ{bM:Bool}(X:o8 l.op=J):eW cf l bM J R=none:=by
 unfold eW;cases V:l.op<;>rw[V] at X<;>simp only[o8,jX] at X<;>try rfl
 rename_i c;cases W:c.callee with
 |builtin b=>cases b<;>simp[W] at X<;>simp[W]
 |value f=>simp[W] at X|invoke r m=>simp[W] at X
def anK{P:cQ}(N:b.dr=J)(Q:o8 b.o.op=J):eC p cf ops A a k n (b::P) x R<->∃v l,QV cf ops x b R v l/\eC p cf ops A a k n P x (R.dE b.o.dst v l):=by
 simp only[eC,ayb Q,N,anJ Q,uI];constructor;rintro(⟨X,W⟩|⟨X,M,W,V⟩);exact⟨.bH [],0,.inl ⟨X,rfl,rfl⟩,by rw[Nz];exact W⟩;obtain⟨v,l,L,rfl⟩:=(NA (ops:=ops) Q X).1 W
 grind
 rintro⟨v,l,X,W⟩;rcases X with⟨V,rfl,rfl⟩|V
 grind [Nz]
 exact .inr ⟨V.1,_,(NA (ops:=ops) Q V.1).2 ⟨v,l,.inr V,rfl⟩,W⟩
end
section
variable{p:Sp}{A:bv}{B:dC}{D:vO}
theorem nN{d:cG}(h:d≠U X):(R.put d r).tmps[X]?=R.tmps[X]?:=by
 cases d with|none=>rfl|some d=>simp only[S.put,Ck];rw[Cd (λe=>h (by rw[e]))]
def NB{d:cG}{t:Nat}(h:d≠U t):(R.dE d r X).tmps[t]?=R.tmps[t]?:=by
 unfold S.dE;rw[nN h]
theorem mX(s:S)(d:cG)(v:C):(s.put d v).au=s.au:=by cases d<;>rfl
def E6(s:S)(d:cG)(v:C)(l:Nat):(s.dE d v l).au=s.au:=by unfold S.dE;rw[mX]
def Xf(s:S)(d:cG)(v:C):(s.put d v).lk=s.lk:=by cases d<;>rfl
def aep{d e:cG}{w:C}(h:∀x,d=U x->e≠U x):(R.put d r).put e w=(R.put e w).put d r:=by
 cases d with
 |none=>cases e<;>rfl
 |some d=>
  cases e with
  |none=>rfl
  |some e=>
   grind [S.put,Ck,List.set_comm]
def St{s:S}{d e:cG}{v w:C}{l:Nat}(h:∀x,d=U x->e≠U x):(s.dE d v l).put e w=(s.put e w).dE d v l:=by
 unfold S.dE;rw[aep h];cases e<;>rfl
def ayc{d e:cG}{w:C}{W:Nat}(h:∀x,d=U x->e≠U x):(R.dE d r X).dE e w W=(R.dE e w W).dE d r X:=by
 have V:(R.dE d r X).dE e w W={(R.dE d r X).put e w with lk:=R.lk|||X|||W}:=by
  unfold S.dE;cases e<;>cases d<;>rfl
 have Q:(R.dE e w W).dE d r X={(R.dE e w W).put d r with lk:=R.lk|||W|||X}:=by
  unfold S.dE;cases e<;>cases d<;>rfl
 rw[V,Q,Nat.or_assoc,Nat.or_comm X W,<-Nat.or_assoc];have P:(R.dE d r X).put e w={(R.put d r).put e w with lk:=R.lk|||X}:=by unfold S.dE;cases e<;>cases d<;>rfl
 have O:(R.dE e w W).put d r={(R.put e w).put d r with lk:=R.lk|||W}:=by unfold S.dE;cases e<;>cases d<;>rfl
 rw[P,O,aep h]
def ayd(s:S)(d:cG)(v:C)(l n:Nat)(t:TypeId)(X:aq):(s.dE d v l).cX n t X=(s.cX n t X).dE d v l:=by
 unfold S.dE S.cX;cases d<;>rfl
structure aeq(B:dC)(x y:OM)(dx:Nat):Prop where
 xd:x.dr=J
 yd:y.dr=J
 qx:o8 x.o.op=J
 np:MH y.o.op=E
 dst:x.o.dst=U dx
 ry:dx∉kX B y.o
 dy:y.o.dst≠U dx
 rx:dx∉kX B x.o
 yx:∀d,y.o.dst=U d->d∉kX B x.o
 rc:AT y.o.op=J->Cz x.o.op=J->x.bM=J/\y.bM=J
 rb:EI y.o.op=J->looks x.o.op=J->Cz x.o.op=J/\x.bM=J/\y.bM=J
def anL{y:OM}(h:Wb B b y=J):∃W,aeq B b y W:=by
 unfold Wb at h;simp only[aC,jP] at h;obtain⟨⟨⟨⟨⟨⟨⟨R,Q⟩,P⟩,O⟩,X⟩,M⟩,L⟩,H⟩:=h;cases V:b.o.dst with
 |none=>rw[V] at X;cases X
 |some W=>
  rw[V] at X;simp only[aC,jP,bne_iff_ne] at X;obtain⟨⟨G,N⟩,F⟩:=X;refine⟨W,R,Q,P,O,V, ?_,N, ?_, ?_, ?_, ?_⟩
  grind
  grind
  grind
  grind
  grind
def Hp{X:S}(h:∀x∈l.op.operands.toList,X.ev A.gl x=R.ev A.gl x):ep A X l=ep A R l:=by
 unfold ep;cases W:l.op<;>rw[W] at h<;>try rfl
 case panic x=>simp only;rw[h x cq]
 case call c=>
  simp only;cases V:c.callee with
  |value f=>
   have N:=h f (by simp[im,Ch,V]);have M:c.args.toList.map (X.ev A.gl)=c.args.toList.map (R.ev A.gl):=kF λx Q=>h x (by simp[im,Ch];exact .inr (by simpa using Q))
   have L:(c.args.toList.any λx=>(X.ev A.gl x).eY)=c.args.toList.any λx=>(R.ev A.gl x).eY:=by
    have H:=awo (f:=X.ev A.gl) (p:=C.eY) (l:=c.args.toList)
    grind
   grind
  |invoke r m=>rfl
  |builtin b=>
   cases b<;>try rfl
   cases P:c.args.toList with
   |nil=>rfl
   |cons x r=>
    cases r with|nil=>simp only;rw[h x (by simp[im,Ch];exact .inr (by have O:x∈c.args.toList:=(by rw[P];simp);simpa using O))]|cons y r=>rfl
def aer(h:ep A R l=.bp r):MH l.op=true:=by
 unfold ep at h;split at h;rename_i X;rw[X];rfl;rename_i c X;split at h;split at h;split at h;cases h;exact(alA h).elim
 grind
 cases h;cases h
 grind [MH]
 cases h;cases h
def zC(s:S)(d:Nat):Prop:=s.tmps[d]?=Z\/∃w,s.tmps[d]?=U w/\w.bd s.ni s.nb (Y s.rs) (aJ s.au)=J
def aes{X W V:Nat}{R:Nat->Bool}:∀{l:aq}{d:Nat}{v:C},C.dP X W V R (l.set d v)=J->(l[d]?=Z\/∃w,l[d]?=U w/\w.bd X W V R=J)->C.dP X W V R l=J
 |[],d,v,h,_=>rfl
 |x::P,0,v,h,Q=>by
  simp only[aI6,C.iX,aC] at h⊢
  grind
 |x::P,d+1,v,h,Q=>by
  simp only[List.set_cons_succ,C.iX,aC] at h⊢;exact⟨h.1,aes h.2 (by simpa using Q)⟩
def NC{s:S}{dx:Nat}{v:C}{l:Nat}{cs:aq}(h:(s.dE (U dx) v l).eV cs=J)(X:zC s dx):s.eV cs=true:=by
 simp only[S.eV,S.bd,S.dE,S.put,Ck,aC] at h⊢;exact⟨⟨aes h.1.1 X,h.1.2⟩,h.2⟩
def aye{Q:Ty}{P:nZ}{V:Op}(h:(cw Q P R V).gives x r):o8 V=true:=by
 cases V with
 |call c=>
  cases W:c.callee with
  |builtin b=>cases b<;>simp only[cw,W,PR.gives] at h<;>simp[o8,W]
  |value f=>simp only[cw,W,PR.gives] at h|invoke X m=>simp only[cw,W,PR.gives] at h
 |_=>first|rfl|(simp only[cw,PR.gives] at h)
def ayf{y:OM}(hc:aeq B b y X){a:S}{l:Nat}(ha:zC R X)(hg:gY B y R x=U J)
  (h:iY A y (R.dE (U X) r l) x a):∃V,iY A y R x V/\a=V.dE (U X) r l/\(∀t,y.o.dst≠U t->V.tmps[t]?=R.tmps[t]?)/\V.ni=R.ni/\V.nb=R.nb/\V.rs=R.rs/\
   ∀i,aJ R.au i=J->bP V.au i=bP R.au i\/(AT y.o.op=J/\(y.bM=J->(R.lk|||l).testBit (2*i)=E)/\(mR R.au i).isSome=J):=by
 have an:lL A B y.o (R.dE (U X) r l) x R x:=lL.A8 (λt Q=>(NB (λe=>hc.ry (by cases e;exact Q))).symm) rfl rfl rfl;have ac:lL A B y.o R x (R.dE (U X) r l) x:=lL.A8 (λt Q=>NB (λe=>hc.ry (by cases e;exact Q))) rfl rfl rfl;have m:=ac.ev A.gl;have af:∀z,(U X:cG)=U z->y.o.dst≠U z:=λz G=>by cases G;exact hc.dy
 by_cases k:o8 y.o.op=J;have a0:=ac.guard hg;obtain⟨w,l',hw,rfl⟩:=(NA (ops:=B) k a0).1 h;have a1:=aeo (cf:=A) an (λi _=>by rw[E6]) hw;refine⟨R.dE y.o.dst w l',(NA (ops:=B) k hg).2 ⟨w,l',a1,rfl⟩,ayc af,λt Q=>NB Q,(gg _ _ _).1,(gg _ _ _).2.1,(gg _ _ _).2.2,λi _=>.inl (by rw[E6])⟩;unfold iY gI at h;split at h;exact h.elim;rename_i hk;have aa:¬(y.o.op.operands.toList.any λz=>(R.ev A.gl z).eY)=true:=by
  intro hh;obtain⟨z,ag,a3⟩:=nA.1 hh;exact hk (nA.2 ⟨z,ag,by rw[m z ag];exact a3⟩)
 have ab:∀(n:Nat)(t:TypeId)(F:aq)(w:C),n<Y R.au->iY A y R x ((R.cX n t F).put y.o.dst w)->a=((R.dE (U X) r l).cX n t F).put y.o.dst w->
   (∀i,aJ R.au i=J->i=n->AT y.o.op=J/\(y.bM=J->(R.lk|||l).testBit (2*i)=E)/\(mR R.au i).isSome=J)->
   ∃V,iY A y R x V/\a=V.dE (U X) r l/\(∀t,y.o.dst≠U t->V.tmps[t]?=R.tmps[t]?)/\V.ni=R.ni/\V.nb=R.nb/\V.rs=R.rs/\
    ∀i,aJ R.au i=J->bP V.au i=bP R.au i\/(AT y.o.op=J/\(y.bM=J->(R.lk|||l).testBit (2*i)=E)/\(mR R.au i).isSome=J):=by
  intro n t F w hn h1 h2 h3;refine⟨_,h1, ?_,λt Q=>nN Q,(gg _ _ _).1,(gg _ _ _).2.1,(gg _ _ _).2.2,λi P=> ?_⟩;rw[h2,ayd,St af];by_cases al:i=n;exact .inr (h3 i P al);left;rw[mX,S.cX,xJ al]
 split at h;rename_i t W;split at h;rename_i ti Q;split at h;rename_i N;simp only[aC] at N;have M:=NC N.1 ha;have L:qZ R.au y.ix t=true:=N.2;have H:gr R.au y.ix=true:=uD L;refine ab y.ix t (eo ti) _ (pn H).2 ?_ h (λi P e=>by subst e;rw[(pn H).1] at P;cases P);unfold iY gI;rw[aS aa];simp only[W,Q,M,L,Ci,dO];rfl;exact h.elim;exact h.elim;rename_i t z W;have G:=m z (by rw[W];simp[im]);split at h;rename_i ti Q;rw[G] at h;split at h;rename_i N;simp only[aC] at N;obtain⟨⟨⟨g,f⟩,d⟩,c4⟩:=N;have M:=NC f ha;have L:qZ R.au y.ix t=true:=c4;have H:gr R.au y.ix=true:=uD L;refine ab y.ix t _ _ (pn H).2 ?_ h (λi P e=>by subst e;rw[(pn H).1] at P;cases P);unfold iY gI;rw[aS aa];simp only[W,Q,g,M,d,L,Ci,dO];rfl;exact h.elim;exact h.elim;rename_i t bb parts W;have G:(parts.toList.map λp=>(p.1,(R.dE (U X) r l).ev A.gl p.2))=parts.toList.map λp=>(p.1,R.ev A.gl p.2):=kF λp hp=>by rw[m p.2 (by rw[W];simp[im];exact⟨p.1,by simpa using hp⟩)]
 split at h;rename_i e am q Q;split at h;rename_i te a4;rw[G] at h;split at h;rename_i F hf;split at h;rename_i N;simp only[aC] at N;obtain⟨⟨g,f⟩,d⟩:=N;have M:=NC g ha;have L:qZ R.au y.ix e=true:=d;have H:gr R.au y.ix=true:=uD L;refine ab y.ix e F _ (pn H).2 ?_ h (λi P e=>by subst e;rw[(pn H).1] at P;cases P);unfold iY gI;rw[aS aa];simp only[W,Q,a4,hf,M,f,L,Ci,dO];rfl;exact h.elim;exact h.elim;exact h.elim;exact h.elim;rename_i t z u W;have G:=m z (by rw[W];simp[im]);have hu:=m u (by rw[W];simp[im]);rw[G,hu] at h;split at h;rename_i ti i bc Q P;rw[E6] at h;split at h;rename_i bt F M;split at h;rename_i N;simp only[aC,jP] at N;obtain⟨⟨⟨⟨g,f⟩,d⟩,c4⟩,D⟩:=N;have a9:(R.dE (U X) r l).lk=R.lk|||l:=Xf _ _ _;rw[a9] at D;have ba:(y.bM&&R.lk.testBit (2*i))=false:=by
  cases hr:y.bM;rfl;rw[hr,Ms,Jz] at D;simp only[yU] at D;simp[D.1]
 refine ab i bt _ _ (dq.1 (ky.1 (AX M).1)).1 ?_ h (λj hj e=> ?_);unfold iY gI;rw[aS aa];simp only[W,Q,P,M,g,f,d,c4,ba,Ci,Bool.not_false,dO];rfl;subst e;refine⟨by rw[W];rfl,λhr=> ?_,by rw[M];rfl⟩;rw[hr,Ms] at D;exact D;exact h.elim;exact h.elim;exact h.elim;rename_i c z u W;exact bF (by rw[W];rfl) k;rename_i t z W;exact bF (by rw[W];rfl) k;rename_i o1 o2 o3 o4 o5 o6;exfalso;obtain⟨w,hw,-⟩:=anB.1 h;refine k ?_;exact aye (Xe hw)
def ayg{X:Ty}{W:S}(h:R.rs=W.rs)(k:RK)(r:RE):r.fits X R k=r.fits X W k:=by
 unfold RE.fits;cases k<;>simp only[zB h r]
def anM{X:Ty}{s W:S}(h:s.rs=W.rs):∀(am:eL)(V:aq),nJ X s am V=nJ X W am V
 |[],[]=>rfl|[],_::_=>rfl|_::_,[]=>rfl
 |c::R,v::Q=>by
  simp only[nJ,anM h R Q];congr 1;cases c<;>cases v<;>simp only[uv,ayg h]
theorem Hq{X:Ty}{s s':S}(h:s.rs=s'.rs){am:eL}:∀{l:ze},oE X s am l=oE X s' am l
 |[]=>rfl|r::W=>by simp only[oE,anM h am r,Hq h (l:=W)]
def ayh{l:Nat}{V:Ty}{Q:TI}{y:C}{W:LE×BE×ar}(h:sQ V (R.dE (U X) r l) v Q y=U W):sQ V R v Q y=U W:=by
 unfold sQ at h⊢;split at h;simp only[zB (s:=R) (s':=R.dE (U X) r l) rfl];exact h;rw[E6] at h;split at h;rename_i P;simp only[Hq (s:=R) (s':=R.dE (U X) r l) rfl];exact h;cases h;cases h
def ayi{l:Nat}{bM:Bool}{y:C}{W:LE}{n:BE}(h:xx A.ty (R.dE (U X) r l) v bM y=U (W,n,t)):xx A.ty R v bM y=U (W,n,t)/\∀k∈t,bM=J->(R.lk|||l).testBit (2*k+1)=false:=by
 have Q:(R.dE (U X) r l).lk=R.lk|||l:=Xf _ _ _;unfold xx at h⊢;split at h;rename_i k;split at h;rename_i V;cases h;have P:R.rs[k]?=U (.own v):=V.1
 grind
 cases h
 grind
 grind
 simp only[zB (s:=R) (s':=R.dE (U X) r l) rfl]
 grind
 cases h
variable{F:aj->S->Prop}{G:aj->C->S->Prop}{H:OM->cQ->aj->S->Nat->aq->Prop}
def ayj(X:aL)(s:S)(d:cG)(v:C)(l:Nat):((s.dE d v l).bU X).1=(s.bU X).1/\((s.dE d v l).bU X).2=(s.bU X).2.dE d v l:=by
 induction X generalizing s with
 |nil=>exact⟨rfl,rfl⟩
 |cons k X W=>
  simp only[S.bU];have V:((s.dE d v l).fresh k).1=(s.fresh k).1/\((s.dE d v l).fresh k).2=(s.fresh k).2.dE d v l:=by
   cases k<;>cases d<;>exact⟨rfl,rfl⟩
  grind
def ayk(h:QV A B x b R r X)(D:gY B b R x=U J){W:Operand}{i L:Nat}(H:b.o.op=.load v W)(P:R.ev A.gl W=.loc i L):aJ R.au i=J/\(b.bM=J->X=1<<<(2*i)):=by
 rcases h with h|⟨-,-,h⟩
 grind
 rw[H] at h;obtain⟨Q,G⟩:=h;refine⟨?_,λF=>by rw[G,P,F];rfl⟩;have Q:=Xe Q;simp only[cw,P] at Q;cases N:A.ty v with
 |none=>rw[N] at Q;exact Q.elim
 |some z=>
  rw[N] at Q;simp only at Q;cases M:bP R.au i with|none=>rw[show mR R.au i=Z by simp[mR,M]] at Q;exact Q.elim|some V=>simp[aJ,M]
def ayl{m:OM}{s:S}{O:aj}{v:C}{l:Nat}(h:QV A B O m s v l)(G:gY B m s O=U J){t:TypeId}{x:Operand}{i:Nat}{e:K}{N:bA}{W:aq}(M:m.o.op=.load t x)(V:s.ev A.gl x=.gp e N W)(R:AM W=U i):aJ s.au i=J/\(m.bM=J->l=1<<<(2*i)):=by
 rcases h with h|⟨-,-,h⟩
 grind
 rw[M] at h;obtain⟨X,L⟩:=h;refine⟨?_,λH=>by rw[L,V,H];simp[Rg,R]⟩;have X:=Xe X;simp only[cw,V] at X;cases Q:A.ty t with
 |none=>rw[Q] at X;exact X.elim
 |some F=>
  rw[Q] at X;simp only[R,ak0] at X;cases P:bP s.au i with|none=>rw[show mR s.au i=Z by simp[mR,P]] at X;exact X.elim|some b=>simp[aJ,P]
def anN(h:QV A B x b R r X)(G:gY B b R x=U J){i:Nat}(P:Cp A.gl R b.o.op=U i):aJ R.au i=J/\((Cz b.o.op=J/\(b.bM=J->X=1<<<(2*i)))\/mR R.au i=Z):=by
 unfold Cp at P;split at P;rename_i t W N;split at P;rename_i j y M;cases P;obtain⟨Q,H⟩:=ayk h G N M;exact⟨Q,.inl ⟨by rw[N];rfl,H⟩⟩;rename_i e w u M;obtain⟨Q,H⟩:=ayl h G N M P;exact⟨Q,.inl ⟨by rw[N];rfl,H⟩⟩;cases P;rename_i t W g f N;split at P;rename_i j M;cases P;rcases h with h|⟨-,-,h⟩
 grind
 rw[N] at h;have Q:=Xe h.1;simp only[cw,M] at Q;split at Q;rename_i k e n d am q i' aa D;cases D;unfold VR at Q;split at Q;rename_i te a V c z cs g1 g2 F;refine⟨by simp[aJ,F],.inr ?_⟩;have:mQ z=true:=by
  split at Q;exact Q.elim;split at Q;rename_i L;simp at L;rw[L];decide;split at Q;rename_i L;simp at L;rw[L];decide;exact Q.elim
 simp[mR,F,this];exact Q.elim;exact Q.elim;cases P;cases P
def ND{bM:Bool}{b:BI}(h:eW A l bM J R=U b):vL l.op=true:=by
 unfold eW at h;cases X:l.op<;>rw[X] at h<;>simp only[dO] at h<;>try cases h
 rfl
 grind [vL]
def aet{V:S}(h:vL b.o.op=J)(X:iY A b R x V):False:=by
 unfold iY gI at X;split at X;exact X;cases Q:b.o.op<;>rw[Q] at h X<;>simp[vL] at h;simp[cw,xz,OR.Kl] at X;rename_i c;cases W:c.callee with
 |builtin P=>cases P<;>simp[W] at h<;>simp[cw,W,xz,OR.Kl] at X
 |_=>simp[W] at h
def anO{l:Nat}{d:cG}{aQ:BE}{k:RK}{x:LE}{dj:ar}{V:BI}(P:zC R X)(O:d≠U X)
  (h:kW (R.dE (U X) r l) d aQ v k x t dj=U V):
  ∃b,kW R d aQ v k x t dj=U b/\V={b with s:=b.s.dE (U X) r l}/\(∀W,d≠U W->b.s.tmps[W]?=R.tmps[W]?)/\b.s.ni=R.ni/\b.s.nb=R.nb/\b.s.rs=kV dj 0 (jB t 0 R.rs)++[k]/\b.s.au=R.au:=by
 unfold kW at h⊢;split at h;rename_i Q;cases h;simp only[aC] at Q;obtain⟨⟨⟨N,M⟩,L⟩,H⟩:=Q;have G:R.bd=true:=by
  have:R.eV []=true:=NC (dx:=X) (v:=r) (l:=l) (cs:=[]) (by simp[S.eV,N,C.iX]) P;simp only[S.eV,aC] at this;exact this.1
 rw[aH (by simp only[aC];exact⟨⟨⟨G,M⟩,L⟩,H⟩)];refine⟨_,rfl, ?_,λW F=>nN F,(gg _ _ _).1,(gg _ _ _).2.1,(gg _ _ _).2.2,mX _ _ _⟩;congr 1;exact St (s:={R with rs:=kV dj 0 (jB t 0 R.rs)++[k]}) (d:=U X) (e:=d) (v:=r) (w:=.ak (.v (Y R.rs))) (l:=l) (λz D=>by cases D;exact O);cases h
def aym{y:OM}(N:aeq B b y X){l:Nat}(H:zC R X)(Q:∀z∈y.o.op.operands.toList,R.ev A.gl z=(R.dE (U X) r l).ev A.gl z){G:BI}
  (h:eW A y.o y.bM y.dr (R.dE (U X) r l)=U G):
  ∃W V dj D,eW A y.o y.bM y.dr R=U W/\G={W with s:=W.s.dE (U X) r l}/\(∀t,y.o.dst≠U t->W.s.tmps[t]?=R.tmps[t]?)/\W.s.ni=R.ni/\W.s.nb=R.nb/\W.s.rs=kV dj 0 (jB V 0 R.rs)++[D]/\W.s.au=R.au/\
   (∀k∈V,y.bM=J->(R.lk|||l).testBit (2*k+1)=E)/\(EI y.o.op=E->V=[]):=by
 have P:=ND (by rw[N.yd] at h;exact h);unfold eW at h⊢;cases w:y.o.op<;>rw[w] at P h Q<;>simp[vL] at P;rename_i t n m;simp only at h⊢;rw[Q n cq,Q m cq];split at h;rename_i e am q u j i g f;split at h;rename_i O d;split at h;rename_i a;obtain⟨W,M,L,g3,g4,g5,g6,g7⟩:=anO H N.dy h;have aa:(u.aP j&&oE A.ty R O.am [eo O]&&Y O.am !=0)=true:=by
  rw[<-Hq (s:=R.dE (U X) r l) (s':=R) rfl];exact a
 rw[aH aa];exact⟨W,[],[],_,M,L,g3,g4,g5,g6,g7,aw,λ_=>rfl⟩;cases h;cases h;cases h;rename_i c;cases bq:c.callee with
 |builtin bb=>
  cases bb<;>simp[bq] at P;simp only[bq] at h⊢;have ab:c.args.toList.map (R.ev A.gl)=c.args.toList.map ((R.dE (U X) r l).ev A.gl):=kF λz hz=>Q z (by simp[im,Ch];exact .inr (by simpa using hz))
  rw[ab];split at h;rename_i t t2 x0 y0 g f;split at h;rename_i e am q e2 ag F i al;split at h;rename_i O d;split at h;cases h;rename_i ac;rw[aS ac];split at h;rename_i la n1 V lb n2 dj M L;obtain⟨q1,F⟩:=ayi M;have q3:=ayh L;rw[q1,q3];split at h;cases h;rename_i af;simp only[aS af];obtain⟨W,k1,k2,k3,k4,k5,k6,k7⟩:=anO H N.dy h;exact⟨W,V,dj,_,k1,k2,k3,k4,k5,k6,k7,F,λh=>by simp[EI,bq] at h⟩;cases h;cases h;cases h;cases h
 |_=>simp[bq] at P
def ayn(bk:CW B D){y:OM}{af:cQ}(bl:y.so=E)(br:Wb B b y=J)(ha:∀d,b.o.dst=U d->zC R d)
  (e1:Y x.i=R.ni)(e2:Y x.b=R.nb)(e3:Y x.r=Y R.rs)
  (h:eC p A B D F G H (b::y::af) x R):eC p A B D F G H (y::b::af) x R:=by
 obtain⟨a,N⟩:=anL br;obtain⟨v,l,M,h⟩:=(anK N.xd N.qx).1 h;rw[N.dst] at h;have an:=ha a N.dst;have a1:∀z,(U a:cG)=U z->y.o.dst≠U z:=λz hz=>by cases hz;exact N.dy
 have ag:lL A B y.o (R.dE (U a) v l) x R x:=lL.A8 (λt f=>(NB (λe=>N.ry (by cases e;exact f))).symm) rfl rfl rfl;have al:∀(s':S)(O':aj),(gY B b R x=U E->gY B b s' O'=U E)->(gY B b R x=U J->lL A B b.o R x s' O')->(gY B b R x=U J->∀i,Cp A.gl R b.o.op=U i->bP s'.au i=bP R.au i)->eC p A B D F G H af O' (s'.dE (U a) v l)->eC p A B D F G H (b::af) O' s':=by
  intro s' O' bs hs hb hr;refine(anK N.xd N.qx).2 ⟨v,l, ?_,by rw[N.dst];exact hr⟩;cases ab:gY B b R x with
  |none=>rcases M with M|M<;>(rw[ab] at M;cases M.1)
  |some X=>
   cases X;rcases M with M|M;exact .inl ⟨bs M.1,M.2⟩;rw[ab] at M;cases M.1;exact aeo (hs ab) (hb ab) M
 simp only[eC] at h;rcases h with⟨h1,P⟩|⟨h1,P⟩;refine .inl ⟨ag.guard h1, ?_⟩;rw[St a1] at P;have aa:lL A B b.o R x (R.put y.o.dst (.bH [])) x:=lL.A8 (λt f=>nN (λe=>N.yx t e f)) (gg _ _ _).2.2 (gg _ _ _).1 (gg _ _ _).2.1;refine al _ _ aa.guard (λ_=>aa) (λ_ i _=>by rw[mX]) P
 ·refine .inr ⟨ag.guard h1, ?_⟩;have hg:gY B y R x=U true:=ag.guard h1;have bt:ep A R y.o=ep A (R.dE (U a) v l) y.o:=Hp (ag.ev A.gl);rw[bt];cases a0:ep A (R.dE (U a) v l) y.o with
  |call g0 c=>
   rw[a0] at P;rcases g0 with g|n
   rotate_left
   have h3:=P.1;rw[bl] at h3;cases h3;have bx:D g c (R.dE (U a) v l)=D g c R:=bk.q _ _ _ _ _ _;show rk _ _ _;have P:rk _ _ _:=P;rw[bx] at P;cases ba:D g c R with
   |some ve=>
    obtain⟨pv,ex⟩:=ve;rw[ba] at P;obtain⟨b0,P⟩:=P;have b5:R.bd=true:=by
     have:=NC (s:=R) (dx:=a) (v:=v) (l:=l) (cs:=[]) (by simp only[S.eV,b0,C.iX,Ci]) an;simp only[S.eV,aC] at this;exact this.1
    have b6:(((R.dE (U a) v l).plus ex).put y.o.dst pv)=(((R.plus ex).put y.o.dst pv).dE (U a) v l):=by
     rw[<-St a1];rfl
    rw[b6] at P;have aa:lL A B b.o R x ((R.plus ex).put y.o.dst pv) x:=lL.A8 (λt f=>nN (λe=>N.yx t e f)) (gg _ _ _).2.2 (gg _ _ _).1 (gg _ _ _).2.1;refine⟨b5,al _ _ aa.guard (λ_=>aa) (λab i hi=> ?_) P⟩;rw[mX];exact anF (anN M ab hi).1
   |none=>
   rw[ba] at P;simp only[rk] at P⊢;obtain⟨ts,L,r,c1,c2,c3,c4,c5⟩:=P;obtain⟨f1,f2⟩:=ayj L (R.cut c L) (U a) v l;have b7:(R.eV c&&mT L)=true:=by
    simp only[aC] at c4⊢;exact⟨NC c4.1 an,c4.2⟩
   refine⟨ts,L,r,c1,c2,by rw[<-f1];exact c3,b7,λV W Q=> ?_⟩;refine(c5 V W (by rw[E6];exact Q)).mono ?_;intro e W' he;cases e with
   |returned u=>
    obtain⟨xs,q1,q2,q3,q4,q5⟩:=he;refine⟨xs,q1,q2,q3,q4, ?_⟩;have q5:eC p A B D F G H af (x.ext xs) ((((R.cut c L).dE (U a) v l).bU L).2.put y.o.dst (one r)):=q5;rw[f2,St a1] at q5;obtain⟨b1,b2,b3,b4⟩:=uG L (R.cut c L);obtain⟨l1,l2,l3⟩:=xK L xs (R.cut c L) x q1 e1 e2 (e3.trans (CR c L R.rs).len.symm);have a3:=WC xs x;have bb:CU A.ty R ((((R.cut c L).bU L).2).put y.o.dst (one r)):=by
     intro q e he j;refine Xc (λk e _ j=> ?_) he j;rw[(gg _ _ _).2.2];obtain⟨e',g1,g2⟩:∃e',(EH c L R.rs)[k]?=U e'/\e'.rd=e.rd:=by
      unfold EH;split;refine⟨AN ((Rl c (Y R.rs)).contains k) e,by rw[Nf,j];simp, ?_⟩;cases e<;>simp only[AN]<;>try rfl
      split<;>rfl;exact⟨e,j,rfl⟩
     exact⟨e',am8 L (R.cut c L) k e' g1,g2⟩
    have aa:lL A B b.o R x ((((R.cut c L).bU L).2).put y.o.dst (one r)) (x.ext xs):=by
     refine⟨λt f=> ?_,λ_ _=>bb,λt b r w i bc _ _=>bb r, ?_, ?_, ?_, ?_⟩;rw[nN (λe=>N.yx t e f),b2];rfl;rw[(gg _ _ _).1,<-l1,<-e1];exact a3.1;rw[(gg _ _ _).2.1,<-l2,<-e2];exact a3.2.1;rw[(gg _ _ _).2.2,<-l3,<-e3];exact a3.2.2;rw[<-e1,<-e2,<-e3];exact ET xs x
    exact al _ _ aa.guard (λ_=>aa) (λ_ i _=>by rw[mX,b1];rfl) q5
   |panicked ch=>exact he|outgrown=>exact he
  |bp w=>
   have:=aer a0;rw[N.np] at this;cases this
  |no=>rw[a0] at P;exact P
  |op=>
   rw[a0] at P;simp only at P⊢;cases a4:eW A y.o y.bM y.dr (R.dE (U a) v l) with
   |some b1=>
    rw[a4] at P;obtain⟨hn,P⟩:=P;obtain⟨X,b8,dj,kk,g1,g2,g3,g4,g5,g6,g7,g8,g9⟩:=aym N an (ag.ev A.gl) a4;rw[g1];subst g2;refine⟨hn,λrv ca=>al _ _ ?_ ?_ ?_ (P rv ca)⟩;intro cc;have cl:lL A B {b.o with op:=.move (.const undef)} R x X.s (x.add (.r rv)):=⟨λt f=>g3 t (λe=>N.yx t e (by
     unfold kX at f⊢;refine(fg.1 f).elim (λh=> ?_) (λh=>akV _ h);simp[im] at h)),λh=>by simp[looks] at h,λt x0 r w i bc h=>by simp at h,GI g4.symm,GI g5.symm,by rw[g6];simp[CL,CJ],by rw[<-e1,<-e2,<-e3];exact Wq x (.r rv)⟩
    exact cl.guard (m:={b with o:={b.o with op:=.move (.const undef)}}) cc;intro ab;have bf:∀(k:Nat)(e:RK),k∉b8->R.rs[k]?=U e->∃e',X.s.rs[k]?=U e'/\e'.rd=e.rd:=by
     intro k e cn j;have co:k<Y R.rs:=(dq.1 j).1;refine⟨AN (dj.contains k) e, ?_, ?_⟩;rw[g6,f8 (by simp[CL,CJ];exact co),Nf,Nd,j];simp[cn];cases e<;>simp only[AN]<;>try rfl
     split<;>rfl
    refine⟨λt f=>g3 t (λe=>N.yx t e f),λcp ct=> ?_,λt x0 r w i bc ho hx e he j=> ?_,GI g4.symm,GI g5.symm,by rw[g6];simp[CL,CJ],by rw[<-e1,<-e2,<-e3];exact Wq x (.r rv)⟩;cases ac:EI y.o.op with
    |true=>
     have:=(N.rb ac cp).1;rw[ct] at this;cases this
    |false=>
     intro r e he j;exact Xc (λk e _ j=>bf k e (by rw[g9 ac];simp) j) he j
    refine Xc (λk e cu j=>bf k e ?_ j) he j;intro a9;have ac:EI y.o.op=true:=by
     cases ac:EI y.o.op with|true=>rfl|false=>rw[g9 ac] at a9;cases a9
    obtain⟨-,r1,r2⟩:=N.rb ac (by rw[ho];rfl);have bg:=g8 k a9 r2;rcases M with M|⟨-,-,M⟩;rw[ab] at M;cases M.1;rw[ho] at M;have:=M.2;rw[hx,r1] at this;simp only[Rg,cu,dO] at this;rw[this,Jz] at bg;simp[avR] at bg;intro _ i _;rw[g7]
   |none=>
   rw[a4] at P;have cv:eW A y.o y.bM y.dr R=none:=by
    cases hb:eW A y.o y.bM y.dr R with
    |none=>rfl
    |some X=>
     exfalso;have cx:=ND (by rw[N.yd] at hb;exact hb);obtain⟨s2,h3,-⟩:=P;exact aet cx h3
   rw[cv];simp only[uI] at P⊢;obtain⟨s2,h3,h4⟩:=P;obtain⟨s',g1,g2,g3,g4,g5,g6,g7⟩:=ayf N an hg h3;subst g2;have aa:lL A B b.o R x s' x:=lL.A8 (λt f=>g3 t (λe=>N.yx t e f)) g6 g4 g5;refine⟨s',g1,al s' x aa.guard (λ_=>aa) ?_ h4⟩;intro ab i hi;obtain⟨k1,k2⟩:=anN M ab hi;rcases g7 i k1 with k3|⟨k3,k4,k5⟩;exact k3;rcases k2 with⟨k2,k6⟩|k2;obtain⟨r1,r2⟩:=N.rc k3 k2;have:=k4 r2;rw[k6 r1,Jz] at this;simp[avR] at this;rw[k2] at k5;cases k5
end
section
variable{p:Sp}{cf:bv}{B:dC}{A:vO}{F:aj->S->Prop}{G:aj->C->S->Prop}{H:OM->cQ->aj->S->Nat->aq->Prop}
def anP{W:S}(h:(gI cf b R).gives x W):∀t,b.o.dst≠U t->W.tmps[t]?=R.tmps[t]?:=by
 intro q X;unfold gI at h;split at h;exact h.elim;split at h;split at h;split at h;cases h;rw[nN X];rfl;exact h.elim;exact h.elim;split at h;split at h;cases h;rw[nN X];rfl;exact h.elim;exact h.elim;split at h;split at h;split at h;split at h;cases h;rw[nN X];rfl;exact h.elim;exact h.elim;exact h.elim;exact h.elim;split at h;split at h;split at h;cases h;rw[nN X];rfl;exact h.elim;exact h.elim;exact h.elim
 grind [OR.gives,nN]
 obtain⟨v,-,rfl⟩:=CO h;rw[NB X];obtain⟨v,-,rfl⟩:=CO h;rw[NB X]
def aeu{bM:Bool}{b:BI}(h:eW cf l bM J R=U b):∀t,l.dst≠U t->b.s.tmps[t]?=R.tmps[t]?:=by
 intro q Q;have N:∀{aQ:BE}{e:TypeId}{k:RK}{x:LE}{V dj:ar},kW R l.dst aQ e k x V dj=U b->b.s.tmps[q]?=R.tmps[q]?:=by
  intro aQ e k x V dj h;obtain⟨-,-,rfl⟩:=AZ h;simp only;rw[nN Q]
 have X:=ND h;unfold eW at h;cases P:l.op<;>rw[P] at X h<;>simp[vL] at X
 grind
 rename_i c;cases W:c.callee with
 |builtin O=>
  cases O<;>simp[W] at X;simp only[W] at h;split at h
  grind
  cases h
 |_=>simp[W] at X
theorem Su{X W V:Nat}{R:Nat->Bool}:∀{l m:aq},C.dP X W V R (l++m)=J<->C.dP X W V R l=J/\C.dP X W V R m=J
 |[],m=>by simp[C.iX]|x::Q,m=>by simp[C.iX,Su (l:=Q),and_assoc]
theorem xL{X W V:Nat}{R:Nat->Bool}:∀{l:aq},C.dP X W V R l=J<->∀v∈l,v.bd X W V R=J
 |[]=>by simp[C.iX]|x::Q=>by simp[C.iX,xL (l:=Q)]
def ayo{W V:Nat}{R:Nat->Bool}(v:Value):(Q8 v).bd X W V R=true:=by
 have Q:∀w,(Q7 w).bd X W V R=true:=λw=>by cases w<;>simp[Q7,C.bj,K.bj,BE.bj,RE.bj]
 cases v<;>try simp[Q8,C.bj,K.bj,BE.bj,RE.bj]
 rw[xL];intro x P;obtain⟨w,-,rfl⟩:=fw.1 P;exact Q w
def CX(X:R.bd=J){x:Operand}(W:zp x=J):(R.ev cf.gl x).bd R.ni R.nb (Y R.rs) (aJ R.au)=true:=by
 simp only[S.bd,aC] at X;cases x with
 |tmp t=>
  simp only[S.ev,zh,dM];cases V:R.tmps[t]? with|none=>simp[C.bj]|some v=>exact xG X.1 V
 |const v=>exact ayo v|global g=>cases W|func f=>simp[S.ev,C.bj,C.iX]
def aev{W V:Nat}{R:Nat->Bool}(h:r.bd X W V R=J):C.dP X W V R r.cells=true:=by
 cases r<;>simp only[C.cells,C.iX,VL]<;>first|exact h|(simp only[C.bj] at h;exact h)
def aew{X W V:Nat}{R:Nat->Bool}:∀{vs l:aq}{Q:Nat},C.dP X W V R l=J->C.dP X W V R vs=J->C.dP X W V R (mg l Q vs)=J
 |[],l,Q,h,_=>h
 |v::vs,l,Q,h,P=>by
  simp only[C.iX,aC] at P;rw[mg];refine aew (vs:=vs) ?_ P.2
  grind [xL]
def anQ{V R Q:Nat}{P:Nat->Bool}{place:Nat->Option (Nat×Nat)}:∀{O:List (Nat×C)}{W l:aq},C.dP V R Q P W=J->(∀q∈O,q.2.bd V R Q P=J)->AL place W O=U l->C.dP V R Q P l=J
 |[],W,l,h,_,X=>by simp[AL] at X;subst X;exact h
 |(i,v)::r,W,l,h,N,X=>by
  simp only[AL] at X;split at X;cases X;split at X;cases X;exact anQ (aew h (aev (N (i,v) VC))) (λq M=>N q (AH _ M)) X
def Xg{W V:Nat}{R:Nat->Bool}(Q:TI):C.dP X W V R (eo Q)=true:=by
 rw[xL];intro x P;obtain⟨c,-,rfl⟩:=fw.1 P;cases c<;>simp[Ex,C.bj,K.bj,BE.bj,RE.bj]
def anR{X W V:Nat}{R:Nat->Bool}{l:aq}(h:C.dP X W V R l=J):∀n,C.dP X W V R (zk n l)=J
 |0=>rfl|n+1=>by rw[zk,Su];exact⟨h,anR h n⟩
mutual
def C.Sv{W V R:Nat}{Q P:Nat->Bool}(h:∀i,Q i=J->P i=J):∀(v:C),v.bd W V R Q=J->v.bd W V R P=J
 |.int _ _,X=>by simp only[C.bj] at X⊢;exact X|.bool _,X=>by simp only[C.bj] at X⊢;exact X|.ak _,X=>by simp only[C.bj] at X⊢;exact X|.loc i _,X=>by simp only[C.bj] at X⊢;exact h i X|.iO i _ _ _,X=>by simp only[C.bj] at X⊢;exact h i X|.el _ _ _ _,X=>by simp only[C.bj] at X⊢;exact X|.agg l,X=>by simp only[C.bj] at X⊢;exact C.Ht h l X|.bH l,X=>by simp only[C.bj] at X⊢;exact C.Ht h l X|.fn _ l,X=>by simp only[C.bj] at X⊢;exact C.Ht h l X|.gH _ x,X=>by simp only[C.bj] at X⊢;exact C.Sv h x X|.yl _,_=>by simp only[C.bj]|.any,_=>by simp only[C.bj]|.mp i,X=>by simp only[C.bj] at X⊢;exact h i X|.gp _ _ O,X=>by simp only[C.bj,aC] at X⊢;exact⟨X.1,C.Ht h O X.2⟩
def C.Ht{W V R:Nat}{Q P:Nat->Bool}(h:∀i,Q i=J->P i=J):∀(l:aq),C.dP W V R Q l=J->C.dP W V R P l=J
 |[],_=>rfl|x::O,X=>by simp only[C.iX,aC] at X⊢;exact⟨C.Sv h x X.1,C.Ht h O X.2⟩
end
def E7{V R Q:Nat}{P:Nat->Bool}:∀{l:bm},C.rQ V R Q P l=J<->∀(i:Nat)(b:TypeId×aq),bP l i=U b->C.dP V R Q P b.2=J
 |[]=>by simp[C.rQ,bS]
 |Z::W=>by
  simp only[C.rQ,E7 (l:=W)];exact⟨λh i b X=>by cases i with|zero=>simp[bS] at X|succ i=>exact h i b (by simpa[bS] using X),λh i b X=>h (i+1) b (by simpa[bS] using X)⟩
 |some x::W=>by
  simp only[C.rQ,aC,E7 (l:=W)];exact⟨λh i b X=>by cases i with|zero=>simp[bS] at X;subst X;exact h.1|succ i=>exact h.2 i b (by simpa[bS] using X),λh=>⟨h 0 x (by simp[bS]),λi b X=>h (i+1) b (by simpa[bS] using X)⟩⟩
def S.more(s:S)(n:Nat)(t:TypeId)(X:aq)(d:cG)(w:C):S:=(s.cX n t X).put d w
def anS{d:cG}(Q:R.bd=J)(G:gr R.au X=J)(H:R.eV h=J)(F:r.bd R.ni R.nb (Y R.rs) (λi=>i==X)=J):(R.more X v h d r).bd=true:=by
 have N:=(pn G).2;have P:∀i,aJ R.au i=J->aJ (R.au.set X (U (v,h))) i=true:=λi V=>(qB N).2 (.inr V)
 simp only[S.eV,S.bd,aC] at Q H;simp only[S.more,S.bd,aC];obtain⟨D,B,A⟩:=gg (R.cX X v h) d r;rw[D,B,A,mX];simp only[S.cX];refine⟨?_, ?_⟩;rw[xL];intro W M;cases d with
 |none=>exact C.Sv P W (xL.1 Q.1 W M)
 |some d=>
  simp only[S.put,Ck] at M;rcases Mi M with L|L;exact C.Sv P W (xL.1 Q.1 W L);rw[L];exact C.Sv (λi V=>by simp at V;subst V;exact(qB N).2 (.inl rfl)) r F
 rw[E7];intro i b O;by_cases V:i=X;subst V;rw[E1 N] at O;cases O;exact C.Ht P h H.2;rw[xJ V] at O;exact C.Ht P _ (E7.1 Q.2 i b O)
def aex{m:S}(hy:gQ b.o.op=J)(aa:b.o.op.operands.toList.all zp=J)(h:iY cf b R x m):
  ∃t L w,m=R.more b.ix t L b.o.dst w/\gr R.au b.ix=J/\(∀ni nb nr,w.bd ni nb nr (λi=>i==b.ix)=J)/\
   ∀(W:S)(B:aj),(∀X∈b.o.op.operands.toList,W.ev cf.gl X=R.ev cf.gl X)->W.bd=J->gr W.au b.ix=J->W.eV L=J/\iY cf b W B (W.more b.ix t L b.o.dst w):=by
 unfold iY gI at h;split at h;exact h.elim;rename_i hk;have l:∀X∈b.o.op.operands.toList,zp X=true:=gz.1 aa;have u:∀W:S,(∀X∈b.o.op.operands.toList,W.ev cf.gl X=R.ev cf.gl X)->¬(b.o.op.operands.toList.any λz=>(W.ev cf.gl z).eY)=true:=by
  intro W Q hh;obtain⟨z,k,ab⟩:=nA.1 hh;exact hk (nA.2 ⟨z,k,by rw[<-Q z k];exact ab⟩)
 split at h;rename_i t V;split at h;rename_i A H;split at h;rename_i P;simp only[aC] at P;refine⟨t,eo A,.loc b.ix 0,h,uD P.2,λ_ _ _=>by simp[C.bj],λW B Q M G=> ?_⟩;have N:W.eV (eo A)=true:=by simp only[S.eV,M,Ms];exact Xg A
 refine⟨N, ?_⟩;unfold iY gI;rw[aS (u W Q)];have F:qZ W.au b.ix t=true:=by simp[qZ,G,Nc P.2]
 simp only[V,H,N,F,Ci,dO];rfl;exact h.elim;exact h.elim;rename_i t z V;split at h;rename_i A H;split at h;rename_i P;simp only[aC] at P;obtain⟨⟨⟨j,g⟩,v⟩,f⟩:=P;refine⟨t,(R.ev cf.gl z).cells,.loc b.ix 0,h,uD f,λ_ _ _=>by simp[C.bj],λW B Q M G=> ?_⟩;have D:=Q z (by rw[V];simp[im]);have N:W.eV (R.ev cf.gl z).cells=true:=by
  simp only[S.eV,M,Ms];rw[<-D];exact aev (CX M (l z (by rw[V];simp[im])))
 refine⟨N, ?_⟩;unfold iY gI;rw[aS (u W Q)];have F:qZ W.au b.ix t=true:=by simp[qZ,G,Nc f]
 simp only[V,H,D,j,N,v,F,Ci,dO];rfl;exact h.elim;exact h.elim;rename_i t r parts V;split at h;rename_i e am q H;split at h;rename_i te ac;split at h;rename_i L d;split at h;rename_i P;simp only[aC] at P;obtain⟨⟨j,g⟩,v⟩:=P;refine⟨e,L,.iO b.ix 0 r r,h,uD v,λ_ _ _=>by simp[C.bj],λW B Q M G=> ?_⟩;have D:(parts.toList.map λp=>(p.1,W.ev cf.gl p.2))=parts.toList.map λp=>(p.1,R.ev cf.gl p.2):=kF λp n=>by rw[Q p.2 (by rw[V];simp[im];exact⟨p.1,by simpa using n⟩)]
 have N:W.eV L=true:=by
  simp only[S.eV,M,Ms];refine anQ (anR (Xg te) r) (λq c=> ?_) d;rw[<-D] at c;obtain⟨a,n,rfl⟩:=fw.1 c;exact CX M (l a.2 (by rw[V];simp[im];exact⟨a.1,by simpa using n⟩))
 refine⟨N, ?_⟩;unfold iY gI;rw[aS (u W Q)];have F:qZ W.au b.ix e=true:=by simp[qZ,G,Nc v]
 simp only[V,H,ac,D,d,N,g,F,Ci,dO];rfl;exact h.elim;exact h.elim;exact h.elim;exact h.elim
 all_goals(rename_i V;simp[gQ,V] at hy)<;>skip
def Sw(h:gQ l.op=J):ep cf R l=.op:=by
 grind [gQ,ep]
def NE{bM X:Bool}(h:gQ l.op=J)(W:X=J):eW cf l bM X R=none:=by
 grind [gQ,eW]
def Ba(s:S)(n:Nat)(t:TypeId)(X:aq)(d:cG)(w:C):(s.more n t X d w).ni=s.ni/\(s.more n t X d w).nb=s.nb/\(s.more n t X d w).rs=s.rs:=gg _ _ _
def NF{s:S}{n:Nat}{t:TypeId}{X:aq}{d:cG}{w:C}{q:Nat}(h:d≠U q):(s.more n t X d w).tmps[q]?=s.tmps[q]?:=nN h
def E8(s:S)(n:Nat)(t:TypeId)(X:aq)(d:cG)(w:C):(s.more n t X d w).au=s.au.set n (U (t,X)):=mX _ _ _
def E9{s:S}{n:Nat}{t:TypeId}{X:aq}{d e:cG}{v w:C}(h:∀x,d=U x->e≠U x):(s.put d v).more n t X e w=(s.more n t X e w).put d v:=by
 unfold S.more;have:(s.put d v).cX n t X=(s.cX n t X).put d v:=by cases d<;>rfl
 rw[this,aep h]
def aey{s:S}{n n':Nat}{t X:TypeId}{W V:aq}{d e:cG}{v w:C}(h:∀x,d=U x->e≠U x)(R:n≠n'):(s.more n t W d v).more n' X V e w=(s.more n' X V e w).more n t W d v:=by
 show((s.cX n t W).put d v).more n' X V e w=_;rw[E9 h];unfold S.more;have:((s.cX n t W).cX n' X V).put e w=((s.cX n' X V).put e w).cX n t W:=by
  have Q:(s.cX n t W).cX n' X V=(s.cX n' X V).cX n t W:=by simp only[S.cX];rw[List.set_comm _ _ R]
  rw[Q];cases e<;>rfl
 rw[this]
def anT:∀{l:aq}{P O N:Nat}{V:Nat->Bool}{i:Nat},C.dP P O N V l=J->i∈C.qj l->V i=true:=by
 have L:∀(n:Nat)(l:aq),SizeOf.sizeOf l<n->∀{P O N:Nat}{V:Nat->Bool}{i:Nat},C.dP P O N V l=J->i∈C.qj l->V i=true:=by
  intro n;induction n with
  |zero=>intro l h;omega
  |succ n R=>
   intro l Q P O N V i W X;cases l with
   |nil=>simp[C.qj] at X
   |cons x M=>
    simp only[C.iX,aC] at W;simp only[C.qj,fg] at X;simp only[List.cons.sizeOf_spec] at Q;rcases X with X|X;cases x with
    |loc j o=>simp[C.JO] at X;subst X;simpa only[C.bj] using W.1|iO j a b c=>simp[C.JO] at X;subst X;simpa only[C.bj] using W.1|agg m=>exact R m (by simp at Q;omega) (by simpa only[C.bj] using W.1) X|bH m=>exact R m (by simp at Q;omega) (by simpa only[C.bj] using W.1) X|fn f m=>exact R m (by simp at Q;omega) (by simpa only[C.bj] using W.1) X
    |gH t y=>exact R [y] (by
     have H:0<SizeOf.sizeOf M:=by cases M<;>simp<;>omega
     simp at Q⊢;omega) (by simpa[C.iX,C.bj] using W.1) (by simpa[C.qj,C.JO] using X)
    |mp j=>simp[C.JO] at X;subst X;simpa only[C.bj] using W.1|gp e G m=>exact R m (by simp at Q;omega) (by have:=W.1;simp only[C.bj,aC] at this;exact this.2) X|_=>simp[C.JO] at X
    exact R M ae W.2 X
 intro l P O N V i;exact L _ l (ak2 _)
def anU{l:bm}{x:TypeId×aq}(h:X∉t)(W:gr l X=J):sP t 0 (l.set X (U x))=sP t 0 l:=by
 apply kU;intro i;rw[WV,WV,jk]
 grind
def anV(X:aL)(s:S)(n:Nat)(t:TypeId)(W:aq)(d:cG)(w:C):((s.more n t W d w).bU X).1=(s.bU X).1/\((s.more n t W d w).bU X).2=(s.bU X).2.more n t W d w:=by
 induction X generalizing s with
 |nil=>exact⟨rfl,rfl⟩
 |cons k X V=>
  simp only[S.bU];have R:((s.more n t W d w).fresh k).1=(s.fresh k).1/\((s.more n t W d w).fresh k).2=(s.fresh k).2.more n t W d w:=by
   cases k<;>cases d<;>exact⟨rfl,rfl⟩
  grind
theorem Xh(s:S)(X:aq)(W:aL)(n:Nat)(t:TypeId)(V:aq)(d:cG)(w:C):(s.more n t V d w).cut X W=(s.cut X W).more n t V d w:=by cases d<;>rfl
def ayp{d:cG}(h:(R.put d r).bd=J)(X:∀e,d=U e->zC R e):R.bd=true:=by
 cases d with
 |none=>exact h
 |some d=>
  simp only[S.bd,S.put,Ck,aC] at h⊢;exact⟨aes h.1 (X d rfl),h.2⟩
def anW{s:S}{n:Nat}{t:TypeId}{W:aq}{X:cG}{w:C}{d:cG}{aQ:BE}{e:TypeId}{k:RK}{x:LE}{V dj:ar}{b:BI}(P:(s.more n t W X w).bd=J)(O:∀q,X=U q->d≠U q)
  (h:kW s d aQ e k x V dj=U b):kW (s.more n t W X w) d aQ e k x V dj=U {b with s:=b.s.more n t W X w}:=by
 unfold kW at h⊢;split at h;rename_i R;cases h;simp only[aC] at R;obtain⟨⟨⟨B,N⟩,M⟩,L⟩:=R;obtain⟨H,G,Q⟩:=Ba s n t W X w;rw[aH (by simp only[aC];rw[H,G,Q];exact⟨⟨⟨P,N⟩,M⟩,L⟩)];congr 2;rw[Q,E9 (λq F D=>O q D F)];cases X<;>rfl;cases h
def ayq{s:S}{n:Nat}{t:TypeId}{X:aq}{W:cG}{w:C}{V:Ty}{e:TypeId}{R:TI}{y:C}{r:LE×BE×ar}(P:gr s.au n=J)(h:sQ V s e R y=U r):sQ V (s.more n t X W w) e R y=U r:=by
 have bZ:(s.more n t X W w).rs=s.rs:=(Ba _ _ _ _ _ _).2.2;unfold sQ at h⊢;split at h;simp only[zB bZ];exact h;rename_i i N M L;rw[E8];split at h;rename_i Q;have O:i≠n:=λe=>by subst e;have:=(pn P).1;simp[aJ,(AX Q).1] at this
 rw[RJ (xJ O)];simp only[Q,Hq bZ];exact h;cases h;cases h
def anX{W:cG}{e:TypeId}{bM:Bool}{y:C}:xx cf.ty (R.more X v h W r) e bM y=xx cf.ty R e bM y:=by
 have bZ:(R.more X v h W r).rs=R.rs:=(Ba _ _ _ _ _ _).2.2;have V:(R.more X v h W r).lk=R.lk:=Xf _ _ _;unfold xx;simp only[bZ,V,zB bZ]
def ayr{o:Oper}{bM:Bool}{s:S}{n:Nat}{t:TypeId}{W:aq}{X:cG}{w:C}{b:BI}(O:gr s.au n=J)(Q:(s.more n t W X w).bd=J)(P:∀q,X=U q->o.dst≠U q)
  (V:∀z∈o.op.operands.toList,(s.more n t W X w).ev cf.gl z=s.ev cf.gl z)(h:eW cf o bM J s=U b):eW cf o bM J (s.more n t W X w)=U {b with s:=b.s.more n t W X w}:=by
 have bZ:(s.more n t W X w).rs=s.rs:=(Ba _ _ _ _ _ _).2.2;have R:=ND h;unfold eW at h⊢;cases N:o.op<;>rw[N] at R h V<;>simp[vL] at R;rename_i j M L;simp only at h⊢;rw[V M cq,V L cq];split at h;rename_i e am q H i G F D;split at h;rename_i B A;split at h;rename_i y;rw[Hq bZ,aH y];exact anW Q P h;cases h;cases h;cases h;rename_i c;cases bq:c.callee with
 |builtin x=>
  cases x<;>simp[bq] at R;simp only[bq] at h⊢;have v:c.args.toList.map ((s.more n t W X w).ev cf.gl)=c.args.toList.map (s.ev cf.gl):=kF λz u=>V z (by simp[im,Ch];exact .inr (by simpa using u))
  rw[v];split at h;rename_i g f d a F D;split at h;rename_i e am q e2 aa q2 G ab;split at h;rename_i B A;split at h;cases h;rename_i r;rw[aS r,anX];split at h;rename_i la n1 ac lb H dj m l;rw[m,ayq O l];split at h;cases h;rename_i k;simp only[aS k];exact anW Q P h;cases h;cases h;cases h;cases h
 |_=>simp[bq] at R
mutual
def C.ey{Q P O N M L:Nat}{H G:Nat->Bool}(W:Q<=N)(V:P<=M)(R:O<=L)(h:∀i,H i=J->G i=J):∀(v:C),v.bd Q P O H=J->v.bd N M L G=J
 |.int _ e,X=>by simp only[C.bj] at X⊢;exact K.ey W V R e X|.bool e,X=>by simp only[C.bj] at X⊢;exact BE.ey W V R e X|.ak e,X=>by simp only[C.bj] at X⊢;exact RE.ey W V R e X|.loc i _,X=>by simp only[C.bj] at X⊢;exact h i X|.iO i _ _ _,X=>by simp only[C.bj] at X⊢;exact h i X|.el r _ i _,X=>by simp only[C.bj,aC] at X⊢;exact⟨RE.ey W V R r X.1,K.ey W V R i X.2⟩|.agg l,X=>by simp only[C.bj] at X⊢;exact C.NG W V R h l X|.bH l,X=>by simp only[C.bj] at X⊢;exact C.NG W V R h l X|.fn _ l,X=>by simp only[C.bj] at X⊢;exact C.NG W V R h l X|.gH _ x,X=>by simp only[C.bj] at X⊢;exact C.ey W V R h x X|.yl _,_=>by simp only[C.bj]|.any,_=>by simp only[C.bj]|.mp i,X=>by simp only[C.bj] at X⊢;exact h i X|.gp e _ F,X=>by simp only[C.bj,aC] at X⊢;exact⟨K.ey W V R e X.1,C.NG W V R h F X.2⟩
def C.NG{W V R Q P O:Nat}{N M:Nat->Bool}(L:W<=Q)(H:V<=P)(G:R<=O)(h:∀i,N i=J->M i=J):∀(l:aq),C.dP W V R N l=J->C.dP Q P O M l=J
 |[],_=>rfl|x::F,X=>by simp only[C.iX,aC] at X⊢;exact⟨C.ey L H G h x X.1,C.NG L H G h F X.2⟩
end
def Sx{s':S}{d:cG}(X:R.bd=J)(V:R.ni<=s'.ni)(Q:R.nb<=s'.nb)(P:Y R.rs<=Y s'.rs)(O:s'.tmps=R.tmps)(N:s'.au=R.au)(L:r.bd s'.ni s'.nb (Y s'.rs) (aJ s'.au)=J):(s'.put d r).bd=true:=by
 simp only[S.bd,aC] at X⊢;obtain⟨H,G,F⟩:=gg s' d r;rw[H,G,F,mX,N];rw[N] at L;refine⟨?_, ?_⟩;rw[xL];intro u W;cases d with
 |none=>
  simp only[S.put,O] at W;exact C.ey V Q P (λ_ h=>h) u (xL.1 X.1 u W)
 |some d=>
  simp only[S.put,Ck,O] at W;rcases Mi W with M|M;exact C.ey V Q P (λ_ h=>h) u (xL.1 X.1 u M)
  grind
 rw[E7];exact λi b D=>C.NG V Q P (λ_ h=>h) _ (E7.1 X.2 i b D)
def aez:∀(X:aL)(s:S),s.ni<=(s.bU X).2.ni/\s.nb<=(s.bU X).2.nb/\Y s.rs<=(s.bU X).2.rs.length
 |[],s=>⟨cd _,cd _,cd _⟩
 |k::X,s=>by
  have:=aez X (s.fresh k).2;simp only[S.bU];cases k<;>simp[S.fresh] at this⊢<;>omega
def anY{pr:Nat->Bool}:∀(X:aL)(s:S),C.dP (s.bU X).2.ni (s.bU X).2.nb (s.bU X).2.rs.length pr (s.bU X).1=J
 |[],s=>rfl
 |k::X,s=>by
  have W:=anY (pr:=pr) X (s.fresh k).2;have V:=aez X (s.fresh k).2;simp only[S.bU,C.iX,aC];refine⟨?_,W⟩;cases k<;>simp only[S.fresh,C.bj,K.bj,BE.bj,RE.bj,dD]<;>simp[S.fresh] at V<;>omega
def anZ{N:Ty}{W V R:Nat}{Q:Nat->Bool}:∀{O:iW}{l r:aq},C.dP W V R Q l=J->zm N O l=U r->C.dP W V R Q r=J
 |[],l,r,_,h=>by simp[zm] at h;subst h;rfl
 |t::O,l,r,X,h=>by
  simp only[zm] at h;split at h;rename_i M F;split at h;rename_i D L;cases h;have H:C.dP W V R Q (l.drop (Y M.am))=true:=by rw[xL] at X⊢;exact λv P=>X v (En P)
  simp only[C.iX,aC];refine⟨?_,anZ H L⟩;split;simp only[C.bj];rw[xL] at X⊢;exact λv P=>X v (GD P)
  rw[dM];cases G:l[0]? with|none=>simp[C.bj]|some v=>exact xG X G
  cases h;cases h
def ays{X W V:Nat}{R:Nat->Bool}{l:aq}(h:C.dP X W V R l=J):(one l).bd X W V R=true:=by
 unfold one;split;simp only[C.iX,VL] at h;exact h;simp only[C.bj];exact h
def ayt{s:S}(V:s.bd=J){W:aq}{X:aL}{R:iW}{r:aq}{d:cG}(h:zm cf.ty R ((s.cut W X).bU X).1=U r):((((s.cut W X).bU X).2).put d (one r)).bd=true:=by
 obtain⟨Q,P,L,H⟩:=uG X (s.cut W X);obtain⟨O,N,M⟩:=aez X (s.cut W X);refine Sx V O N ?_ P Q (ays (anZ (anY X _) h));have:=(CR W X s.rs).len;simp only[S.cut] at M⊢;omega
def Sy{bM:Bool}{b:BI}(h:eW cf l bM J R=U b):R.bd=J/\b.s.bd=J/\b.s.au=R.au:=by
 have N:∀{aQ:BE}{e:TypeId}{k:RK}{x:LE}{W dj:ar},kW R l.dst aQ e k x W dj=U b->R.bd=J/\b.s.bd=J/\b.s.au=R.au:=by
  intro aQ e k x W dj h;obtain⟨Q,-,rfl⟩:=AZ h;refine⟨Q, ?_,mX _ _ _⟩;exact Sx (s':={R with rs:=kV dj 0 (jB W 0 R.rs)++[k]}) Q (cd _) (cd _) (by simp[CL,CJ]) rfl rfl (by simp[C.bj,RE.bj,CL,CJ])
 have X:=ND h;unfold eW at h;cases P:l.op<;>rw[P] at X h<;>simp[vL] at X
 grind
 rename_i c;cases V:c.callee with
 |builtin O=>
  cases O<;>simp[V] at X;simp only[V] at h;split at h
  grind
  cases h
 |_=>simp[V] at X
def aeA{Q:S}(V:gQ b.o.op=J)(X:iY cf b R x Q):R.bd=true:=by
 unfold iY gI at X;split at X;exact X.elim
 ·cases P:b.o.op<;>rw[P] at V X<;>simp[gQ] at V<;>simp only at X
  all_goals
   (repeat' split at X)
   all_goals first
    |exact X.elim
    |(rename_i W;simp only[aC,S.eV] at W;first|exact W.1.1|exact W.1.1.2.1|exact W.1.1.1)
def ayu{X:TI}(W:b.o.op=.alloc v)(V:cf.ty v=U X)(Q:mQ v=E)(P:R.bd=J)(N:gr R.au b.ix=J):iY cf b R x (R.more b.ix v (eo X) b.o.dst (.loc b.ix 0)):=by
 have M:R.eV (eo X)=true:=by simp only[S.eV,P,Ms];exact Xg X
 unfold iY gI;rw[aS (by rw[W];simp[im])];have L:qZ R.au b.ix v=true:=by simp[qZ,N,Q]
 simp only[W,V,M,L,Ci,dO];rfl
def ayv{X:S}{W:TI}(V:b.o.op=.alloc v)(Q:cf.ty v=U W)(h:iY cf b R x X):X=R.more b.ix v (eo W) b.o.dst (.loc b.ix 0):=by
 unfold iY gI at h;rw[aS (by rw[V];simp[im])] at h;simp only[V,Q] at h;split at h;exact h;exact h.elim
structure ayw(B:dC)(x y:OM):Prop where
 xy:∀q,x.o.dst=U q->y.o.dst≠U q
 yx:∀q,y.o.dst=U q->x.o.dst≠U q
 ry:∀q,x.o.dst=U q->q∉kX B y.o
 rx:∀q,y.o.dst=U q->q∉kX B x.o
def an1{y:OM}(h:Wc B b y=J):ayw B b y:=by
 unfold Wc at h;simp only[aC] at h;obtain⟨W,V⟩:=h;have R:∀q,b.o.dst=U q->y.o.dst≠U q:=λq X=>by rw[X] at W;simp at W;exact W.2
 exact⟨R,λq X Q=>R q Q X,λq X=>by rw[X] at W;simp at W;exact W.1,λq X=>by rw[X] at V;simpa using V⟩
def aeB{X:S}(W:∀t∈kX B l,R.tmps[t]?=X.tmps[t]?):∀z∈l.op.operands.toList,R.ev cf.gl z=X.ev cf.gl z:=by
 intro z V;cases z with
 |tmp t=>
  grind [S.ev,zh,kX]
 |_=>rfl
def an2{X:S}(W:∀t∈kX B b.o,R.tmps[t]?=X.tmps[t]?)(V:R.ni=X.ni)(Q:R.nb=X.nb)(P:R.rs=X.rs):gY B b R x=gY B b X x:=by
 unfold gY;cases N:b.o.guard with
 |none=>rfl
 |some q=>
  obtain⟨j,M⟩:=q;simp only;cases L:(B[j]?).bind (·.dst) with
  |none=>rfl
  |some d=>
   grind [kX]
def an3{s:S}{o:Oper}{g:FuncId}{X:aq}(h:ep cf s o=.call (.fn g) X)(W:s.bd=J)(P:o.op.operands.toList.all zp=J):C.dP s.ni s.nb (Y s.rs) (aJ s.au) X=true:=by
 have V:∀x∈o.op.operands.toList,zp x=true:=gz.1 P;unfold ep at h;split at h
 grind
 rename_i c R;split at h;rename_i f O;split at h;rename_i Q bD N;split at h;cases h;have M:C.dP s.ni s.nb (Y s.rs) (aJ s.au) (c.args.toList.map (s.ev cf.gl))=true:=by
  rw[xL];intro v L;obtain⟨z,H,rfl⟩:=fw.1 L;exact CX W (V z (by rw[R];simp[im,Ch];exact .inr (by simpa using H)))
 have G:C.dP s.ni s.nb (Y s.rs) (aJ s.au) bD=true:=by
  have:=CX (cf:=cf) W (V f (by rw[R];simp[im,Ch,O]));rw[N] at this;simpa only[C.bj] using this
 unfold AP at h;cases bD with
 |nil=>cases h;exact M
 |cons v r=>
  cases F:kq Q 1000000;cases D:kq Q 2000000
  grind
  simp only[F,D,cond_false,cond_true,CK.call.injEq,Cr.fn.injEq] at h;obtain⟨-,rfl⟩:=h;have B:C.dP s.ni s.nb (Y s.rs) (aJ s.au) ([v]++r)=true:=G;rw[Su] at B;show C.dP s.ni s.nb (Y s.rs) (aJ s.au) ([v]++(c.args.toList.map (s.ev cf.gl)++r))=J
  grind [Su]
  grind [Su]
 grind
 cases h;cases h
 grind
 cases h;cases h
def ayx{s:S}{O:aj}{g:FuncId}{Q:aq}{X H:aj->C->S->Prop}{n:Nat}{t:TypeId}{N:aq}{d:cG}{w:C}(M:gr s.au n=J)(G:C.dP s.ni s.nb (Y s.rs) (aJ s.au) Q=J)(z:(s.more n t N d w).bd=J)
  (h:Ny p cf s O g Q X)(b:∀F (L:iW)(P:aL)(r:aq),zm cf.ty L ((s.cut Q P).bU P).1=U r->X F (one r) ((s.cut Q P).bU P).2->H F (one r) (((s.cut Q P).bU P).2.more n t N d w)):Ny p cf (s.more n t N d w) O g Q H:=by
 obtain⟨L,P,r,y,x,v,D,q⟩:=h;obtain⟨o,m,B⟩:=Ba s n t N d w;obtain⟨l,a⟩:=anV P (s.cut Q P) n t N d w;have k:n∉C.qj Q:=λj=>by have:=anT G j;rw[(pn M).1] at this;cases this
 have f:sP (C.qj Q) 0 (s.more n t N d w).au=sP (C.qj Q) 0 s.au:=by rw[E8];exact anU k M
 simp only[aC,S.eV] at D;refine⟨L,P,r,y,x,by rw[Xh,l];exact v, ?_,λV W R=> ?_⟩;simp only[aC,S.eV];refine⟨⟨z, ?_⟩,D.2⟩;rw[o,m,B,E8];exact C.Ht (λi c=>(qB (pn M).2).2 (.inr c)) Q G;rw[f,B] at R;refine(q V W R).mono ?_;intro e W' A;cases e with
 |returned u=>
  grind [Xh]
 |panicked ch=>exact A|outgrown=>exact A
def ayy{s:S}{O:aj}{g:FuncId}{Q:aq}{X L:aj->C->S->Prop}{n:Nat}{t:TypeId}{N:aq}{d:cG}{w:C}(H:gr s.au n=J)(G:C.dP s.ni s.nb (Y s.rs) (aJ s.au) Q=J)(z:s.bd=J)
  (h:Ny p cf (s.more n t N d w) O g Q X)(j:∀F (M:iW)(P:aL)(r:aq),zm cf.ty M ((s.cut Q P).bU P).1=U r->X F (one r) (((s.cut Q P).bU P).2.more n t N d w)->L F (one r) ((s.cut Q P).bU P).2):Ny p cf s O g Q L:=by
 obtain⟨M,P,r,y,x,D,B,v⟩:=h;obtain⟨i,f,q⟩:=Ba s n t N d w;obtain⟨o,c⟩:=anV P (s.cut Q P) n t N d w;have m:n∉C.qj Q:=λl=>by have:=anT G l;rw[(pn H).1] at this;cases this
 have k:sP (C.qj Q) 0 (s.more n t N d w).au=sP (C.qj Q) 0 s.au:=by rw[E8];exact anU m H
 simp only[aC,S.eV] at B;rw[Xh,o] at D;refine⟨M,P,r,y,x,D, ?_,λV W R=> ?_⟩;simp only[aC,S.eV];exact⟨⟨z,G⟩,B.2⟩;refine(v V W (by rw[k,q];exact R)).mono ?_;intro e b A;cases e with
 |returned u=>
  grind [Xh]
 |panicked a=>exact A|outgrown=>exact A
def ayz(al:CW B A){y:OM}{l:cQ}(b0:b.so=E)(a3:MJ B b y=J)(b1:∀d,b.o.dst=U d->zC R d)(L:gr R.au y.ix=J)(hz:∀t,y.o.op=.alloc t->J2 cf t=J)
  (h:eC p cf B A F G H (b::y::l) x R):eC p cf B A F G H (y::b::l) x R:=by
 unfold MJ at a3;simp only[aC] at a3;obtain⟨⟨⟨⟨⟨⟨⟨⟨a4,bg⟩,hy⟩,a9⟩,k⟩,b2⟩,bk⟩,b3⟩,bl⟩:=a3;have a9:y.o.guard=none:=by simpa using a9
 have D:=an1 b3;obtain⟨t,j⟩:∃t,y.o.op=.alloc t:=by cases j:y.o.op<;>rw[j] at hy<;>simp[J1] at hy;exact⟨_,rfl⟩
 have an:=hz t j;simp only[J2,aC,jP] at an;obtain⟨an,b4⟩:=an;obtain⟨P,ht⟩:=jy.1 an;have i:gQ y.o.op=true:=by rw[j];rfl
 have br:∀(s':S)(w:aj),gY B y s' w=U true:=λs' w=>by simp[gY,a9]
 have a:∀{w:aj}{aa:S},eC p cf B A F G H (y::l) w aa->aa.bd=J/\eC p cf B A F G H l w (aa.more y.ix t (eo P) y.o.dst (.loc y.ix 0)):=by
  intro w aa hr;simp only[eC,br,Sw i,NE i bg,uI] at hr;rcases hr with⟨N,_⟩|⟨_,s3,W,M⟩;cases N;have:=ayv j ht W;subst this;exact⟨aeA i W,M⟩
 have done:R.bd=J->eC p cf B A F G H (b::l) x (R.more y.ix t (eo P) y.o.dst (.loc y.ix 0))->eC p cf B A F G H (y::b::l) x R:=by
  intro V W;rw[eC];refine .inr ⟨br R x, ?_⟩;rw[Sw i];simp only[NE i bg,uI];exact⟨_,ayu j ht b4 V L,W⟩
 have a0:R.bd=J->(R.more y.ix t (eo P) y.o.dst (.loc y.ix 0)).bd=true:=λV=>anS V L (by simp only[S.eV,V,Ms];exact Xg P) (by simp[C.bj])
 obtain⟨p1,p2,p3⟩:=Ba R y.ix t (eo P) y.o.dst (.loc y.ix 0);have ab:gY B b (R.more y.ix t (eo P) y.o.dst (.loc y.ix 0)) x=gY B b R x:=an2 (λq hq=>NF (λe=>D.rx q e hq)) p1 p2 p3;have ac:∀z∈b.o.op.operands.toList,(R.more y.ix t (eo P) y.o.dst (.loc y.ix 0)).ev cf.gl z=R.ev cf.gl z:=aeB (λq hq=>NF (λe=>D.rx q e hq));rw[eC] at h;rcases h with⟨N,W⟩|⟨N,W⟩
 ·obtain⟨g1,g2⟩:=a W;refine done (ayp g1 b1) ?_;rw[eC];refine .inl ⟨by rw[ab];exact N, ?_⟩;rw[<-E9 D.xy];exact g2
 ·cases Q:ep cf R b.o with
  |call g0 ba=>
   rw[Q] at W;rcases g0 with g|n
   rotate_left
   have M:=W.1;rw[b0] at M;cases M;have u:rk _ _ _:=W;clear W;cases af:A g ba R with
   |some ve=>
    obtain⟨pv,ex⟩:=ve;rw[af] at u;obtain⟨V,u⟩:=u;have hR:=al.reg _ _ _ _ af;have bc:MI b.o.op=true:=by simpa[hR,aen Q] using bl
    have bf:=anH bc Q;subst bf;refine done V ?_;rw[eC];refine .inr ⟨by rw[ab];exact N, ?_⟩;rw[Hp ac,Q];show rk _ _ _;rw[show A g [] (R.more y.ix t (eo P) y.o.dst (.loc y.ix 0))=U (pv,ex) from(al.z _ _ _ _ _ _ _ L).trans af];refine⟨a0 V, ?_⟩;have b5:=(pn L).2;have b6:(R.more y.ix t (eo P) y.o.dst (.loc y.ix 0)).plus ex=(R.plus ex).more y.ix t (eo P) y.o.dst (.loc y.ix 0):=by
     have:(R.cX y.ix t (eo P)).plus ex=(R.plus ex).cX y.ix t (eo P):=by
      simp only[S.cX,S.plus,List.set_append_left _ _ b5]
     unfold S.more;rw[<-this];cases y.o.dst<;>rfl
    rw[b6,<-E9 D.xy];exact(a u).2
   |none=>
   rw[af] at u;simp only[rk] at u;have W:=u;have V:R.bd=true:=by obtain⟨ts,ks,r,c1,c2,c3,c4,c5⟩:=W;simp only[aC,S.eV] at c4;exact c4.1.1
   refine done V ?_;rw[eC];refine .inr ⟨by rw[ab];exact N, ?_⟩;rw[Hp ac,Q];show rk _ _ _;have b7:A g ba (R.more y.ix t (eo P) y.o.dst (.loc y.ix 0))=none:=by
    cases hh:A g ba (R.more y.ix t (eo P) y.o.dst (.loc y.ix 0)) with
    |none=>rfl
    |some r=>
     exfalso;have hR:=al.reg _ _ _ _ hh;have bc:MI b.o.op=true:=by simpa[hR,aen Q] using bl
     have bf:=anH bc Q;subst bf;have:=(al.z g R y.ix t (eo P) y.o.dst (.loc y.ix 0) L).symm.trans hh;rw[af] at this;cases this
   rw[b7];simp only[rk];refine ayx L (an3 Q V bk) (a0 V) W (λw ts ks r _ hr=> ?_);rw[<-E9 D.xy];exact(a hr).2
  |bp v=>
   exfalso;have hp:=aer Q;cases a1:b.o.op<;>rw[a1] at k hp<;>simp[MH,gQ,vL,AU] at hp k;rename_i c;cases bq:c.callee<;>simp[bq] at hp k;rename_i bb;cases bb<;>simp at hp k
  |no=>rw[Q] at W;exact W.elim
  |op=>
   rw[Q] at W;simp only at W;cases V:eW cf b.o b.bM b.dr R with
   |some X=>
    rw[V] at W;obtain⟨hn,W⟩:=W;rw[a4] at V;obtain⟨q1,q2,q3⟩:=Sy V;refine done q1 ?_;rw[eC];refine .inr ⟨by rw[ab];exact N, ?_⟩;rw[Hp ac,Q];simp only;rw[a4,ayr L (a0 q1) D.yx ac V];refine⟨hn,λrv bs=> ?_⟩;rw[p3] at bs;exact(a (W rv bs)).2
   |none=>
    rw[V] at W;obtain⟨aa,M,h4⟩:=W;have ag:gQ b.o.op=true:=by
     simp only[lg] at k;rcases k with(m|m)|m;exact m;exact(aet m M).elim
     ·exfalso;cases a1:b.o.op<;>rw[a1] at m<;>simp[AU] at m;rename_i c;cases bq:c.callee<;>simp[bq] at m;rename_i f;simp only[ep,a1,bq] at Q
      (repeat' split at Q)<;>first|exact(alz Q).elim|cases Q
    have bt:b.ix≠y.ix:=by simpa[ag] using b2
    have bx:=aeA ag M;obtain⟨tx,cx,wx,rfl,g2,g3,g4⟩:=aex ag bk M;refine done bx ?_;rw[eC];refine .inr ⟨by rw[ab];exact N, ?_⟩;rw[Sw ag];simp only[NE ag a4,uI];refine⟨_,(g4 _ x ac (a0 bx) ?_).2, ?_⟩;unfold gr at g2⊢;rw[E8,Cd (λe=>bt e.symm)];exact g2;rw[aey D.yx (λe=>bt e.symm)];exact(a h4).2
def an4{s:S}{n:Nat}{t:TypeId}{W:aq}{X:cG}{w:C}{d:cG}{aQ:BE}{e:TypeId}{k:RK}{x:LE}{R dj:ar}{Q:BI}(O:s.bd=J)(N:∀q,X=U q->d≠U q)
  (h:kW (s.more n t W X w) d aQ e k x R dj=U Q):∃b,kW s d aQ e k x R dj=U b/\Q={b with s:=b.s.more n t W X w}:=by
 obtain⟨M,L,P⟩:=Ba s n t W X w;unfold kW at h⊢;split at h;rename_i V;cases h;simp only[aC] at V;rw[M,L,P] at V;obtain⟨⟨⟨A,H⟩,G⟩,F⟩:=V;rw[aH (by simp only[aC];exact⟨⟨⟨O,H⟩,G⟩,F⟩)];refine⟨_,rfl, ?_⟩;congr 1;rw[P,E9 (λq D B=>N q B D)];cases X<;>rfl;cases h
def ayA{s:S}{n:Nat}{t:TypeId}{W:aq}{V:cG}{w:C}{R:Ty}{e:TypeId}{Q:TI}{y:C}{r:LE×BE×ar}(P:gr s.au n=J)(X:y.bd s.ni s.nb (Y s.rs) (aJ s.au)=J)(h:sQ R (s.more n t W V w) e Q y=U r):sQ R s e Q y=U r:=by
 have bZ:(s.more n t W V w).rs=s.rs:=(Ba _ _ _ _ _ _).2.2;unfold sQ at h⊢;split at h;simp only[zB bZ] at h;exact h;rename_i i N M L;rw[E8] at h;have O:i≠n:=λe=>by subst e;simp only[C.bj] at X;rw[(pn P).1] at X;cases X
 rw[RJ (xJ O)] at h
 grind [Hq]
 cases h
def ayB{o:Oper}{bM:Bool}{s:S}{n:Nat}{t:TypeId}{W:aq}{X:cG}{w:C}{O:BI}(F:gr s.au n=J)(Q:s.bd=J)(N:∀q,X=U q->o.dst≠U q)(D:o.op.operands.toList.all zp=J)
  (V:∀z∈o.op.operands.toList,(s.more n t W X w).ev cf.gl z=s.ev cf.gl z)(h:eW cf o bM J (s.more n t W X w)=U O):∃b,eW cf o bM J s=U b/\O={b with s:=b.s.more n t W X w}:=by
 have bZ:(s.more n t W X w).rs=s.rs:=(Ba _ _ _ _ _ _).2.2;have M:∀x∈o.op.operands.toList,zp x=true:=gz.1 D;have R:=ND h;unfold eW at h⊢;cases B:o.op<;>rw[B] at R h V M<;>simp[vL] at R;rename_i t' A y;simp only at h⊢;rw[V A cq,V y cq] at h;split at h;rename_i e am q v m2 u r L;split at h;rename_i m l;split at h;rename_i H;rw[Hq bZ] at H;rw[aH H];exact an4 Q N h;cases h;cases h;cases h;rename_i c;cases bq:c.callee with
 |builtin k=>
  cases k<;>simp[bq] at R;simp only[bq] at h⊢;have j:c.args.toList.map ((s.more n t W X w).ev cf.gl)=c.args.toList.map (s.ev cf.gl):=kF λz P=>V z (by simp[im,Ch];exact .inr (by simpa using P))
  rw[j] at h;split at h;rename_i t1 t2 x0 G r L;have i:G.bd s.ni s.nb (Y s.rs) (aJ s.au)=true:=by
   have:G∈c.args.toList.map (s.ev cf.gl):=by rw[L];simp
   obtain⟨z,P,rfl⟩:=fw.1 this;exact CX Q (M z (by simp[im,Ch];exact .inr (by simpa using P)))
  split at h;rename_i e am q e2 aa q2 u ab;split at h;rename_i m l;split at h;cases h;rename_i g;rw[aS g];rw[anX] at h;split at h;rename_i la n1 ac lb v dj f d;rw[f,ayA F i d];split at h;cases h;rename_i a;simp only[aS a];exact an4 Q N h;cases h;cases h;cases h;cases h
 |_=>simp[bq] at R
def ayC(cv:CW B A){y:OM}{a9:cQ}(cx:y.so=E)(bk:Rm B b y=J)
  (h:eC p cf B A F G H (b::y::a9) x R):eC p cf B A F G H (y::b::a9) x R:=by
 unfold Rm at bk;simp only[aC] at bk;obtain⟨⟨⟨⟨⟨⟨⟨⟨⟨⟨ca,ba⟩,al⟩,dk⟩,bl⟩,cA⟩,a4⟩,an⟩,cB⟩,cC⟩,cD⟩:=bk;have bl:b.o.guard=none:=by simpa using bl
 have D:=an1 cC;have cc:∀(L:S)(O':aj),gY B b L O'=U true:=λL O'=>by simp[gY,bl]
 rw[eC] at h;rcases h with⟨h1,_⟩|⟨_,h2⟩;rw[cc] at h1;cases h1;rw[Sw al] at h2;simp only[NE al ca,uI] at h2;obtain⟨s1,h3,h4⟩:=h2;have N:=aeA al h3;obtain⟨t,a,w,rfl,k,hw,tr⟩:=aex al cA h3;have dn:R.eV a=true:=(tr R x (λ_ _=>rfl) N k).1;obtain⟨p1,p2,p3⟩:=Ba R b.ix t a b.o.dst w;have br:gY B y (R.more b.ix t a b.o.dst w) x=gY B y R x:=an2 (λq W=>NF (λe=>D.ry q e W)) p1 p2 p3;have a0:∀z∈y.o.op.operands.toList,(R.more b.ix t a b.o.dst w).ev cf.gl z=R.ev cf.gl z:=aeB (λq W=>NF (λe=>D.ry q e W));have a1:∀{O':aj}{L:S},(∀q,y.o.dst≠U q->L.tmps[q]?=R.tmps[q]?)->L.bd=J->gr L.au b.ix=J->eC p cf B A F G H a9 O' (L.more b.ix t a b.o.dst w)->eC p cf B A F G H (b::a9) O' L:=by
  intro O' L ht a3 cO hr;rw[eC];refine .inr ⟨cc _ _, ?_⟩;rw[Sw al];simp only[NE al ca,uI];exact⟨_,(tr L O' (aeB (λq W=>ht q (λe=>D.rx q e W))) a3 cO).2,hr⟩
 rw[eC] at h4;rcases h4 with⟨h5,V⟩|⟨h5,V⟩;rw[eC];refine .inl ⟨by rw[<-br];exact h5, ?_⟩;refine a1 (λq W=>nN W) (Sx (s':=R) N (cd _) (cd _) (cd _) rfl rfl (by simp[C.bj,C.iX])) (by rw[mX];exact k) ?_;rw[E9 D.yx];exact V
 ·rw[eC];refine .inr ⟨by rw[<-br];exact h5, ?_⟩;rw[Hp a0] at V;cases hc:ep cf R y.o with
  |call g0 bs=>
   rw[hc] at V;rcases g0 with g|n
   rotate_left
   have h3:=V.1;rw[cx] at h3;cases h3;have ch:∀L,A g bs L=none:=λL=>by
    cases hh:A g bs L with
    |none=>rfl
    |some r=>
     exfalso;have hR:=cv.reg _ _ _ _ hh;simp[hR,aen hc] at cD
   have hP:rk _ _ _:=V;clear V;rw[ch] at hP;simp only[rk] at hP;have V:=hP;show rk _ _ _;rw[ch];simp only[rk];refine ayy k (an3 hc N a4) N V (λO' ts ks r hm hr=> ?_);obtain⟨b1,b2,b3,b4⟩:=uG ks (R.cut bs ks);refine a1 (λq W=>by rw[nN W,b2];rfl) (ayt N hm) (by rw[mX,b1];exact k) ?_;rw[E9 D.yx];exact hr
  |bp v=>
   exfalso;have hp:=aer hc;cases bc:y.o.op<;>rw[bc] at an hp<;>simp[MH,gQ,vL,AU,GU,AT] at hp an;rename_i c;cases bq:c.callee<;>simp[bq] at hp an;rename_i bb;cases bb<;>simp at hp an
  |no=>rw[hc] at V;exact V.elim
  |op=>
   rw[hc] at V;show uI _ _ _;have V:uI _ _ _:=V;cases bf:eW cf y.o y.bM y.dr (R.more b.ix t a b.o.dst w) with
   |some b1=>
    rw[bf] at V;obtain⟨hn,V⟩:=V;rw[ba] at bf⊢;obtain⟨X,g1,rfl⟩:=ayB k N D.xy a4 a0 bf;rw[g1];obtain⟨q1,q2,q3⟩:=Sy g1;refine⟨hn,λrv cW=> ?_⟩;refine a1 (aeu g1) q2 (by rw[q3];exact k) (V rv (by rw[p3];exact cW))
   |none=>
    rw[bf] at V;obtain⟨c0,M,h8⟩:=V;by_cases aa:GU y.o.op=J
    
    have W:o8 y.o.op=true:=by cases Q:y.o.op<;>rw[Q] at aa<;>simp[GU] at aa<;>rfl
    have ds:Cz y.o.op=false:=by cases Q:y.o.op<;>rw[Q] at aa<;>simp[GU] at aa<;>rfl
    rw[ba,anJ W];simp only[uI];obtain⟨v,l,hv,rfl⟩:=(NA (ops:=B) W h5).1 M;have c1:lL cf B y.o (R.more b.ix t a b.o.dst w) x R x:=lL.A8 (λq W=>(NF (λe=>D.ry q e W)).symm) p3.symm p1.symm p2.symm;have P:=aeo c1 (λi hi=>by
     unfold Cp at hi;cases Q:y.o.op<;>rw[Q] at aa hi<;>simp[GU] at aa<;>cases hi) hv
    have cl:gY B y R x=U true:=by rw[<-br];exact h5
    refine⟨_,(NA (ops:=B) W cl).2 ⟨v,l,P,rfl⟩, ?_⟩;have c2:v.bd R.ni R.nb (Y R.rs) (aJ R.au)=true:=by
     have ag:∀z∈y.o.op.operands.toList,zp z=true:=gz.1 a4;rcases P with P|⟨-,-,P⟩;rw[cl] at P;cases P.1;cases Q:y.o.op<;>rw[Q] at aa P ag<;>simp[GU] at aa;rename_i z;have:=P.1;simp only[cw,PR.A9] at this;rw[this];exact CX N (ag z cq);rename_i z;have:=P.1;simp only[cw,PR.A9] at this;rw[this];exact CX N (ag z cq);rename_i st z f;have ab:=CX (cf:=cf) N (ag z cq);have:=P.1;simp only[cw] at this;split at this;rename_i hz;rw[hz] at ab;split at this;split at this;split at this;exact this.elim;rw[this];exact ab;exact this.elim;exact this.elim;rename_i hz;rw[hz] at ab;split at this;split at this;split at this;exact this.elim;rw[this];exact ab;exact this.elim;exact this.elim;exact this.elim
    have c3:l=0:=by
     rcases P with P|⟨-,-,P⟩;exact P.2.2;cases Q:y.o.op<;>rw[Q] at aa P<;>simp[GU] at aa<;>exact P.2
    subst c3;rw[Nz] at h8⊢;refine a1 (λq W=>nN W) (Sx (s':=R) N (cd _) (cd _) (cd _) rfl rfl c2) (by rw[mX];exact k) ?_;rw[E9 D.yx];exact h8;by_cases bx:AT y.o.op=J;obtain⟨t',z,u,Q⟩:∃t z u,y.o.op=.store t z u:=by cases Q:y.o.op<;>rw[Q] at bx<;>simp[AT] at bx;exact⟨_,_,_,rfl⟩
    have ag:∀z∈y.o.op.operands.toList,zp z=true:=gz.1 a4;have b0:eW cf y.o y.bM y.dr R=none:=by rw[ba];simp[eW,Q]
    rw[b0];simp only[uI];have hz:=a0 z (by rw[Q];simp[im]);have hu:=a0 u (by rw[Q];simp[im]);have ab:=CX (cf:=cf) N (ag z (by rw[Q];simp[im]));have c4:=CX (cf:=cf) N (ag u (by rw[Q];simp[im]));unfold iY gI at M;split at M;exact M.elim;rename_i m;have c5:¬(y.o.op.operands.toList.any λz=>(R.ev cf.gl z).eY)=true:=by
     intro hh;obtain⟨zz,cn,c6⟩:=nA.1 hh;exact m (nA.2 ⟨zz,cn,by rw[a0 zz cn];exact c6⟩)
    simp only[Q,hz,hu] at M;split at M;rename_i ti i ac c7 hi;have b5:i≠b.ix:=λe=>by subst e;rw[hi] at ab;simp only[C.bj] at ab;rw[(pn k).1] at ab;cases ab
    rw[E8,RJ (xJ b5)] at M;split at M;rename_i bt af co;obtain⟨b6,-⟩:=AX co;split at M;rename_i bg;have c8:(R.more b.ix t a b.o.dst w).lk=R.lk:=Xf _ _ _;rw[c8] at bg;have dx:((R.ev cf.gl u).cells.length==Y ti.am)=true:=by simp only[aC] at bg;exact bg.1.1.1.1
    refine⟨(R.cX i bt (mg af ac (R.ev cf.gl u).cells)).put y.o.dst (.bH []), ?_, ?_⟩;unfold iY gI;rw[aS c5];simp only[Q,c7,hi,co];rw[aH bg];rfl;have c9:((R.cX i bt (mg af ac (R.ev cf.gl u).cells)).put y.o.dst (.bH [])).bd=true:=by
     have cp:i<Y R.au:=(dq.1 (ky.1 b6)).1;have dc:∀j,aJ (R.au.set i (U (bt,mg af ac (R.ev cf.gl u).cells))) j=aJ R.au j:=λj=>by
      by_cases hj:j=i;subst hj;simp[aJ,E1 cp,b6];simp[aJ,xJ hj]
     have dd:aJ (R.au.set i (U (bt,mg af ac (R.ev cf.gl u).cells)))=aJ R.au:=funext dc;have a3:=N;simp only[S.bd,aC] at a3;have b0:(R.cX i bt (mg af ac (R.ev cf.gl u).cells)).bd=true:=by
      simp only[S.bd,S.cX,dd,aC];refine⟨a3.1, ?_⟩;rw[E7];intro j X hj;by_cases ct:j=i;subst ct;rw[E1 cp] at hj;cases hj;exact aew (E7.1 a3.2 j _ b6) (aev c4);rw[xJ ct] at hj;exact E7.1 a3.2 j X hj
     exact Sx (s':=R.cX i bt (mg af ac (R.ev cf.gl u).cells)) b0 (cd _) (cd _) (cd _) rfl rfl (by simp[C.bj,C.iX])
    refine a1 (λq W=>by rw[nN W];rfl) c9 ?_ ?_;rw[mX];unfold gr at k⊢;simp only[S.cX];rw[Cd b5];exact k;have df:c0=((R.more b.ix t a b.o.dst w).cX i bt (mg af ac (R.ev cf.gl u).cells)).put y.o.dst (.bH []):=M;subst df;have:((R.cX i bt (mg af ac (R.ev cf.gl u).cells)).put y.o.dst (.bH [])).more b.ix t a b.o.dst w=((R.more b.ix t a b.o.dst w).cX i bt (mg af ac (R.ev cf.gl u).cells)).put y.o.dst (.bH []):=
     aey (s:=R) (n:=i) (n':=b.ix) (d:=y.o.dst) (e:=b.o.dst) D.yx b5
    rw[this];exact h8;exact M.elim;exact M.elim;exact M.elim;have b7:gQ y.o.op=true:=by
     simp only[lg] at an;rcases an with(((m|m)|m)|m)|m;exact m;exact(aet m M).elim
     ·exfalso;cases bc:y.o.op<;>rw[bc] at m<;>simp[AU] at m;rename_i c;cases bq:c.callee<;>simp[bq] at m;rename_i f;simp only[ep,bc,bq] at hc
      (repeat' split at hc)<;>first|exact(alz hc).elim|cases hc
     exact bF m aa;exact bF m bx
    have b8:b.ix≠y.ix:=by simpa[b7] using cB
    rw[NE b7 ba];simp only[uI];obtain⟨dy,cy,wy,rfl,k2,k3,k4⟩:=aex b7 a4 M;have cu:gr R.au y.ix=true:=by
     unfold gr at k2⊢;rw[E8,Cd b8] at k2;exact k2
    obtain⟨m1,m2⟩:=k4 R x (λz hz=>(a0 z hz).symm) N cu;refine⟨_,m2,a1 (λq W=>NF W) (anS N cu m1 (k3 _ _ _)) ?_ ?_⟩;unfold gr at k⊢;rw[E8,Cd (λe=>b8 e.symm)];exact k;rw[aey D.yx (λe=>b8 e.symm)];exact h8
def ayD(V:CW B A){y:OM}{Q:cQ}(W:vM B b y=J)(P:∀d,b.o.dst=U d->zC R d)(M:gQ y.o.op=J->gr R.au y.ix=J)(L:∀t,y.o.op=.alloc t->J2 cf t=J)
  (D:Y x.i=R.ni)(z:Y x.b=R.nb)(w:Y x.r=Y R.rs)
  (h:eC p cf B A F G H (b::y::Q) x R):eC p cf B A F G H (y::b::Q) x R:=by
 unfold vM at W;simp at W;obtain⟨⟨v,N⟩,W⟩:=W;rcases W with(X|X)|X;exact ayn V N X P D z w h;have u:gQ y.o.op=true:=by
  unfold MJ at X;simp only[aC] at X;have:=X.1.1.1.1.1.1.2;cases q:y.o.op<;>rw[q] at this<;>simp[J1] at this;rfl
 exact ayz V v X P (M u) L h;exact ayC V N X h
def an5{N:S}(h:(gI cf b R).gives x N):∀n,gr R.au n=J->(gQ b.o.op=J->n≠b.ix)->gr N.au n=true:=by
 intro q Q P;have V:∀{t:TypeId}{M:aq}{d:cG}{w:C}{i:Nat},q≠i->gr ((R.cX i t M).put d w).au q=true:=by
  grind [mX,S.cX,gr]
 unfold gI at h;split at h;exact h.elim;split at h;rename_i t W;split at h;split at h;cases h;exact V (P (by rw[W];rfl));exact h.elim;exact h.elim;rename_i t X W;split at h;split at h;cases h;exact V (P (by rw[W];rfl));exact h.elim;exact h.elim;rename_i t l H W;split at h;split at h;split at h;split at h;cases h;exact V (P (by rw[W];rfl));exact h.elim;exact h.elim;exact h.elim;exact h.elim;split at h;split at h;rename_i G M L;split at h;cases h;refine V (λe=> ?_);subst e;have:=(pn Q).1;simp[aJ,(AX L).1] at this;exact h.elim;exact h.elim;exact h.elim
 grind [OR.gives,mX]
 obtain⟨v,-,rfl⟩:=CO h;rw[E6];exact Q;obtain⟨v,-,rfl⟩:=CO h;rw[E6];exact Q
def ayE{V:S}(h:(gI cf b R).gives x V):∀i,aJ R.au i=J->aJ V.au i=true:=by
 intro q Q;have W:∀{t:TypeId}{P:aq}{d:cG}{w:C}{i:Nat},aJ ((R.cX i t P).put d w).au q=true:=by
  grind [mX,bS,S.cX,aJ]
 unfold gI at h;split at h;exact h.elim;split at h;rename_i t N;split at h;split at h;cases h;exact W;exact h.elim;exact h.elim;rename_i t X N;split at h;split at h;cases h;exact W;exact h.elim;exact h.elim;rename_i t l M N;split at h;split at h;split at h;split at h;cases h;exact W;exact h.elim;exact h.elim;exact h.elim;exact h.elim;split at h;split at h;rename_i L P H;split at h;cases h;exact W;exact h.elim;exact h.elim;exact h.elim
 grind [OR.gives,mX]
 obtain⟨v,-,rfl⟩:=CO h;rw[E6];exact Q;obtain⟨v,-,rfl⟩:=CO h;rw[E6];exact Q
structure xM(s s':S):Prop where
 i:s.ni<=s'.ni
 b:s.nb<=s'.nb
 r:Y s.rs<=Y s'.rs
 bx:∀i,aJ s.au i=J->aJ s'.au i=J
theorem xM.put(s:S)(d:cG)(v:C):xM s (s.put d v):=
 ⟨GI (gg _ _ _).1.symm,GI (gg _ _ _).2.1.symm,GI (jY Y (gg s d v).2.2).symm,λi h=>by rw[mX];exact h⟩
def xM.trans{b c:S}(h:xM R b)(k:xM b c):xM R c:=⟨mc h.i k.i,mc h.b k.b,mc h.r k.r,λi X=>k.bx i (h.bx i X)⟩
def ayF{l1 j:cQ}(aa:b.dr=J)(af:b.so=E)(q:Y x.i=R.ni)(m:Y x.b=R.nb)(l:Y x.r=Y R.rs)(h:eC p cf B A F G H (b::l1) x R)
  (f:∀d N,Y d.i=N.ni->Y d.b=N.nb->Y d.r=Y N.rs->(∀t,b.o.dst≠U t->N.tmps[t]?=R.tmps[t]?)->(∀n,gr R.au n=J->(gQ b.o.op=J->n≠b.ix)->gr N.au n=J)->xM R N->eC p cf B A F G H l1 d N->eC p cf B A F G H j d N):eC p cf B A F G H (b::j) x R:=by
 simp only[eC] at h⊢;rcases h with⟨h1,P⟩|⟨h1,P⟩;exact .inl ⟨h1,f _ _ (by rw[(gg _ _ _).1];exact q) (by rw[(gg _ _ _).2.1];exact m) (by rw[(gg _ _ _).2.2];exact l) (λt c=>nN c) (λn z _=>by rw[mX];exact z) (xM.put _ _ _) P⟩
 ·refine .inr ⟨h1, ?_⟩;cases hc:ep cf R b.o with
  |call g0 a=>
   rw[hc] at P;rcases g0 with g|n
   rotate_left
   grind
   have P:rk _ _ _:=P;show rk _ _ _;cases ab:A g a R with
   |some ve=>
    obtain⟨pv,ex⟩:=ve;rw[ab] at P;exact⟨P.1,f _ _ (by rw[(gg _ _ _).1];exact q) (by rw[(gg _ _ _).2.1];exact m) (by rw[(gg _ _ _).2.2];exact l) (λt c=>nN c) (λn z _=>by rw[mX];exact anG z) (xM.trans (b:=R.plus ex) ⟨cd _,cd _,cd _,λi k=>by unfold aJ;rw[anF k];exact k⟩ (xM.put _ _ _)) P.2⟩
   |none=>
   rw[ab] at P;obtain⟨ts,L,r,c1,c2,c3,c4,c5⟩:=P;refine⟨ts,L,r,c1,c2,c3,c4,λV W X=>(c5 V W X).mono ?_⟩;intro e W' he;cases e with
   |returned u=>
    obtain⟨xs,D,y,w,q4,q5⟩:=he;obtain⟨b1,b2,b3,b4⟩:=uG L (R.cut a L);obtain⟨l1,j,l3⟩:=xK L xs (R.cut a L) x D q m (l.trans (CR a L R.rs).len.symm);refine⟨xs,D,y,w,q4,f _ _ (by rw[(gg _ _ _).1];exact l1) (by rw[(gg _ _ _).2.1];exact j) (by rw[(gg _ _ _).2.2];exact l3) (λt c=>by rw[nN c,b2];rfl) (λn z _=>by rw[mX,b1];exact z) (xM.trans (b:=((R.cut a L).bU L).2) ⟨by rw[<-q,<-l1];exact(CI [] _ _ []).li,by rw[<-m,<-j];exact(CI [] _ _ []).lb,by rw[<-l,<-l3];exact(CI [] _ _ []).lr,λi k=>by rw[b1];exact k⟩ (xM.put _ _ _)) q5⟩
   |panicked ch=>exact he|outgrown=>exact he
  |bp v=>rw[hc] at P;exact P|no=>rw[hc] at P;exact P
  |op=>
   rw[hc] at P;simp only at P⊢;cases M:eW cf b.o b.bM b.dr R with
   |some Q=>
    rw[M] at P;obtain⟨D,y,w⟩:=anD M;exact⟨P.1,λrv ac=>f _ _ (by rw[D];exact q) (by rw[y];exact m) (by simp[aj.add,w,l]) (aeu (by rw[aa] at M;exact M)) (λn z _=>by rw[(Sy (by rw[aa] at M;exact M)).2.2];exact z) ⟨by rw[D];exact cd _,by rw[y];exact cd _,by rw[w];omega,λi k=>by rw[(Sy (by rw[aa] at M;exact M)).2.2];exact k⟩ (P.2 rv ac)⟩
   |none=>
    rw[M] at P;obtain⟨N,h3,h4⟩:=P;obtain⟨D,y,w⟩:=anC (Nx h3);exact⟨N,h3,f _ _ (by rw[D];exact q) (by rw[y];exact m) (by rw[w];exact l) (anP (Nx h3)) (an5 (Nx h3)) ⟨by rw[D];exact cd _,by rw[y];exact cd _,by rw[w];exact cd _,ayE (Nx h3)⟩ h4⟩
def an6{y:OM}(h:vM B b y=J):b.so=E/\y.so=false:=by
 unfold vM at h
 grind
def ayG{y:OM}(h:vM B b y=J):b.dr=true:=by
 unfold vM at h;simp only[aC,lg] at h;replace h:=h.2;rcases h with(h|h)|h;exact(anL h).elim λ_ c=>c.xd
 unfold MJ at h
 grind
 unfold Rm at h
 grind
end
section
variable{p:Sp}{k:bv}{B:dC}{A:vO}{Kn:aj->S->Prop}{Kp:aj->C->S->Prop}{Yp:OM->cQ->aj->S->Nat->aq->Prop}
def aeC(s:S)(m:OM):Prop:=∀d,m.o.dst=U d->zC s d
def an7{V:S}(W:xM R V)(Q:V.tmps[X]?=R.tmps[X]?)(h:zC R X):zC V X:=by
 rcases h with h|⟨w,h,P⟩;exact .inl (Q.trans h);exact .inr ⟨w,Q.trans h,C.ey W.i W.b W.r W.bx _ P⟩
def aeD(s:S)(m:OM):Prop:=gQ m.o.op=J->gr s.au m.ix=J
def an8(Q:CW B A){m:OM}{V:cQ}:∀(X:cQ)(s:S)(O:aj),(∀x∈X,vM B x m=J)->(∀x∈X,aeC s x)->aeD s m->(X.Pairwise λa b=>∀d,a.o.dst=U d->b.o.dst≠U d)->(∀x∈X,gQ x.o.op=J->gQ m.o.op=J->m.ix≠x.ix)->(∀t,m.o.op=.alloc t->J2 k t=J)->
  Y O.i=s.ni->Y O.b=s.nb->Y O.r=Y s.rs->eC p k B A Kn Kp Yp (X++m::V) O s->eC p k B A Kn Kp Yp (m::(X++V)) O s
 |[],s,O,_,_,_,_,_,_,_,_,_,h=>h
 |x::X,s,O,P,N,M,u,L,H,G,F,D,h=>by
  have R:=P x aw;have q:x.dr=true:=ayG R;have n:=(an6 R).1;have z:=jO.1 u;have:eC p k B A Kn Kp Yp (x::m::(X++V)) O s:=ayF (l1:=X++m::V) q n G F D h (λl j g f c ht aa ab hr=>
   an8 Q X j l (λy W=>P y (by simp[W])) (λy W e w=>an7 ab (ht e (λhx=>z.1 y W e hx w)) (N y (by simp[W]) e w))
    (λv=>aa m.ix (M v) (λac=>L x aw ac v)) z.2 (λy W=>L y (by simp[W])) H g f c hr)
  exact ayD Q R (N x aw) M H G F D this
def aeE{D:bT}{a:Act}(X:aA p.S0 p.w0 D k.ty t x R a e){Q:Bool}(h:gY B b R x=U Q):lG b.o (yielded B a.tmps)=Q:=by
 unfold gY at h;cases P:b.o.guard with
 |none=>rw[P] at h;cases h;simp[lG,P]
 |some q=>
  obtain⟨j,L⟩:=q;rw[P] at h;simp only at h;split at h;rename_i d N;have M:=am4 X N
  grind [lG,M.2]
  cases h
def NH(p:Sp)(k:bv)(A:vO):Prop:=∀(g:FuncId)(X:aq)(s:S)(v:C)(R:bm),A g X s=U (v,R)->
 ∀(D:bT)(O:aj)(V:ar)(a:Act)(W:World),s.bd=J->aA p.S0 p.w0 D k.ty V O s a W->eB k.gl O->(∀X W,(callFunc g X).run p.P W=.ok (.enter g X) W)/\
  Calls p.P g (C.az O V X).toArray W λe N=>∃Q,e=.returned (v.ai O Q)/\aA p.S0 p.w0 D k.ty Q O (s.plus R) a N/\bB s O V (s.plus R) O Q
structure Sz(B:dC)(bs:ar)(listed:Array Bool)(rem:cQ):Prop where
 mem:∀m∈rem,B[m.j]?=U m.o
 un:∀i,i<B.size->(listed.getD i J=E<->∃m∈rem,m.j=i)
 sz:listed.size=B.size
 dn:∀(j:Nat)(o:Oper),B[j]?=U o->listed.getD j E=J->∀e∈jo o,listed.getD e E=J
 pr:rem.Pairwise λx y=>(bs.getD y.j 0).testBit x.j=J\/vM B x y=J
 tp:∀xs m ys,rem=xs++m::ys->∀e∈jo m.o,listed.getD e E=J\/∃x∈xs,x.j=e
 nd:rem.Pairwise λx y=>x.j≠y.j
 ds:rem.Pairwise λa b=>∀d,a.o.dst=U d->b.o.dst≠U d
 so:∀xs m ys,rem=xs++m::ys->m.so=J->ys.Pairwise λx y=>(bs.getD y.j 0).testBit x.j=J
def SA{e:Edge}(h:e∈l.after)(X:awn .any e=J):e.on∈jo l:=fw.2 ⟨e,qh.2 ⟨by simpa using h,X⟩,rfl⟩
def Xi(h:X∈jo l):∃e∈l.after,awn .any e=J/\e.on=X:=by
 obtain⟨e,W,rfl⟩:=fw.1 h
 grind
structure NI(B:dC)(bs:ar):Prop where
 lt:∀(j:Nat)(o:Oper),B[j]?=U o->∀e∈jo o,e<j
 cl:∀(j:Nat)(o:Oper),B[j]?=U o->∀i,i<B.size->(bs.getD j 0).testBit i=J->i∈jo o\/∃e∈jo o,(bs.getD e 0).testBit i=J
def ayH{listed:Array Bool}{P:cQ}(W:NI B t)(O:Sz B t listed P):∀(j:Nat)(o:Oper),B[j]?=U o->(∀e∈jo o,listed.getD e E=J)->∀i,i<B.size->(t.getD j 0).testBit i=J->listed.getD i E=true:=by
 intro j;induction j using QU with
 |_ j N=>
  intro o X M i V L;rcases W.cl j o X i V L with h|⟨e,R,h⟩
  grind
  have H:=W.lt j o X e R;have G:j<B.size:=(lF.1 X).1;have Q:B[e]?=U B[e]:=Mh ae;exact N e H B[e] Q (O.dn e _ Q (M e R)) i V h
def Fa(a:Array Bool)(i j:Nat)(b:Bool)(X:i<a.size):(a.setIfInBounds i J).getD j b=if j=i then J else a.getD j b:=by
 by_cases h:j=i;subst h;simp[X];simp[aIG (Ne.symm h),h]
def ayI{listed:Array Bool}{P O:cQ}(X:Sz B t listed (P++b::O))(l:∀e∈jo b.o,listed.getD e E=J):Sz B t (listed.setIfInBounds b.j J) (P++O):=by
 have q:=X.mem b aw;have k:b.j<B.size:=(lF.1 q).1;have D:b.j<listed.size:=by rw[X.sz];exact k
 have L:awp (P++O) (P++b::O):=akW (akY _) (akT _ _);have g:∀x∈P++O,x.j≠b.j:=by
  intro x W;have y:=X.nd;rw[oB] at y;rcases fg.1 W with h|h;exact y.2.2 x h b aw;exact Ne.symm ((jO.1 y.2.1).1 x h)
 refine⟨λx W=>X.mem x (L.subset W),λi f=> ?_,by simp[X.sz],λj o w H e M=> ?_,X.pr.sublist L, ?_,X.nd.sublist L,X.ds.sublist L, ?_⟩;rw[Fa _ _ _ _ D];by_cases v:i=b.j;subst v;simp only[dO,aI7,false_iff];rintro⟨x,W,H⟩;exact g x W H;rw[aS v,X.un i f];constructor;rintro⟨x,W,rfl⟩;refine⟨x, ?_,rfl⟩;simp only[fg,fh] at W⊢;rcases W with h|h|h;exact .inl h;subst h;exact bF rfl v;exact .inr h;rintro⟨x,W,rfl⟩;exact⟨x,L.subset W,rfl⟩;rw[Fa _ _ _ _ D];rw[Fa _ _ _ _ D] at H;split;rfl;by_cases n:j=b.j;subst n;rw[q] at w;cases w;exact l e M;rw[aS n] at H;exact X.dn j o w H e M;intro u N G s e M;rw[Fa _ _ _ _ D];by_cases A:e=b.j;left;rw[aH A];rw[aS A];rcases aIM.1 s with⟨R,Q,V⟩|⟨R,Q,V⟩
 
 have:=X.tp (P++b::R) N G (by rw[V];simp) e M;rcases this with h|⟨x,W,F⟩;exact .inl h;right;refine⟨x, ?_,F⟩;rw[Q];simp only[fg,fh] at W⊢;rcases W with h|h|h;exact .inl h;subst h;exact bF F.symm A;exact .inr h
 
 cases R with
 |nil=>
  simp at Q V;subst Q;have:=X.tp (P++[b]) N G (by rw[<-V];simp) e M;rcases this with h|⟨x,W,F⟩;exact .inl h;right;refine⟨x, ?_,F⟩;simp only[fg,VB] at W;rcases W with h|h;exact h;subst h;exact bF F.symm A
 |cons z R=>
  simp only[cJ,GG] at V;obtain⟨rfl,V⟩:=V;have:=X.tp u N (R++b::O) (by rw[Q];simp) e M;exact this
 intro u N G s r;rcases aIM.1 s with⟨R,Q,V⟩|⟨R,Q,V⟩;exact X.so (P++b::R) N G (by rw[V];simp) r;cases R with
 |nil=>
  simp at Q V;subst Q;exact X.so (P++[b]) N G (by rw[<-V];simp) r
 |cons z R=>
  simp only[cJ,GG] at V;obtain⟨rfl,V⟩:=V;have:=X.so u N (R++b::O) (by rw[Q];simp) r;rw[V];exact this.sublist (akW (akY _) (akT _ _))
def ayJ{F:Fence}(u:qC F)(ok:jd p k)(a3:NH p k A){D:bT}{Q:Exit->Act->World->Prop}(HP:∀ch a' w pd y,ee p.w0 D pd y a'.defers w->p.R (.panicked ch) w->Q (.panic ch) a' w)
   {af:cQ}{a:Act}(h:eC p k B A Kn Kp Yp (b::af) x R)(N:aA p.S0 p.w0 D k.ty t x R a e)(hg:eB k.gl x)(hm:B[b.j]?=U b.o)(a1:b.dr=J)
  {M:Act->World->Prop}(hK:∀s' O' V' a' w,bB R x t s' O' V'->(∀L,b.o.dst≠U L->s'.tmps[L]?=R.tmps[L]?)->(∀X,gr R.au X=J->(gQ b.o.op=J->X≠b.ix)->gr s'.au X=J)->aA p.S0 p.w0 D k.ty V' O' s' a' w->eC p k B A Kn Kp Yp af O' s'->M a' w)
  (a4:∀v,Kp x v R->Q (.panic [{v:=v.ai x t,recovered:=E}]) a e)
  (hY:∀yn q,ep k R b.o=.call (.yl yn) q->b.so=J->Yp b af x R yn q->b.o.wpIn F X p.P a e M Q):wpOpIn F X p.P B Q b.j M a e:=by
 unfold wpOpIn;rw[hm];simp only;simp only[eC] at h;rcases h with⟨h1,z⟩|⟨h1,z⟩;rw[aeE N h1];exact⟨λf _=>u.fn f,hK _ x t _ e ((bB.refl _ _ _).put _ _) (λL ht=>nN ht) (λX i _=>by rw[mX];exact i) (N.put b.o.dst (.bH [])) z⟩
 ·rw[aeE N h1];simp;cases r:ep k R b.o with
  |call g0 q=>
   rw[r] at z;rcases g0 with g|yn
   rotate_left
   grind
   have z:rk _ _ _:=z;cases ag:A g q R with
   |some ve=>
    obtain⟨pv,ex⟩:=ve;rw[ag] at z;obtain⟨al,an⟩:=a3 g q R pv ex ag D x t a e z.1 N hg;refine⟨λf _=>u.fn f, ?_⟩;have aa:∀c,b.o.op≠ .defer c:=λc ab=>by simp[ep,ab] at r
    rw[AI _ _ _ aa,WU N hg r al,VD];refine⟨λhd=>by rw[u.zy] at hd;simp at hd,CallsIn.mono (u.calls an) (λH w he=> ?_)⟩;obtain⟨V',rfl,R',hl⟩:=he;exact hK _ x V' _ w (hl.put _ _) (λL ht=>nN ht) (λX i _=>by rw[mX];exact anG i) (R'.put b.o.dst pv) z.2
   |none=>
   rw[ag] at z;obtain⟨ts,ks,l,c1,c2,c3,c4,c5⟩:=z;simp only[S.eV,aC] at c4;obtain⟨⟨hb,-⟩,a9⟩:=c4;have al:=ok.zA g (.inl (by rw[c1];rfl));have an:=c5 t e (by rw[ok.pt];exact(N.mem.adf _).lJ (adB _ _));refine⟨λf _=>u.fn f, ?_⟩;have aa:∀c,b.o.op≠ .defer c:=λc ab=>by simp[ep,ab] at r
   rw[AI _ _ _ aa,WU N hg r al,VD];refine⟨λhd=>by rw[u.zy] at hd;simp at hd,CallsIn.mono (u.calls an) (λH w he=> ?_)⟩;cases H with
   |returned v=>
    obtain⟨xs,q1,q2,q3,q4,q5⟩:=he;rw[ok.pt] at q4;obtain⟨e1,e2,e3,e4⟩:=uG ks (R.cut q ks);subst q2;have R1:aA p.S0 p.w0 D k.ty t x (R.cut q ks) a e:=N.lJ (CR q ks R.rs);have R':=(R1.called (Nj hb (CR q ks R.rs).len) a9 q1 q3 (λG hb=>aec N hb) q4).put b.o.dst (one l);refine hK _ (x.ext xs) t _ w (bB.put (s:=R) ⟨CI _ _ _ _,by rw[e1];exact λ_ h=>h,by rw[e1];exact cd _,by rw[e3];exact cd _⟩ _ _) (λL ht=>by rw[nN ht,e2];rfl) (λX i _=>by rw[mX,e1];exact i) R' q5
   |panicked ch=>exact HP ch a w _ _ (N.dl.below he.1) he.2|outgrown=>exact he.elim
  |bp v=>
   rw[r] at z;refine⟨λf _=>u.fn f, ?_⟩;have aa:∀c,b.o.op≠ .defer c:=λc ab=>by simp[ep,ab] at r
   rw[AI _ _ _ aa,am5 N hg r];exact a4 v z
  |no=>rw[r] at z;exact z.elim
  |op=>
   rw[r] at z;simp only at z;cases d:eW k b.o b.bM b.dr R with
   |some G=>
    rw[d] at z;obtain⟨i,z⟩:=z;obtain⟨v,w,rv,a0,ba,R',hl⟩:=adR N ok.kK hg d i;exact A6 u a0 (ad9 d) (hK G.s _ t _ w hl (aeu (by rw[a1] at d;exact d)) (λX i _=>by rw[(Sy (by rw[a1] at d;exact d)).2.2];exact i) R' (z rv (by rw[ok.pt];exact ba)))
   |none=>
   rw[d] at z;obtain⟨s',h3,h4⟩:=z;have ac:=Nx h3;obtain⟨v,w,V',a0,R',hl⟩:=R8 N ok.kK hg b ac;exact A6 u a0 (Sj ac) (hK s' x V' _ w hl (anP ac) (an5 ac) R' h4)
def ayK{W:Type}{V X:List W}{m x:W}(h:x∈(V++X).dropLast):x∈(V++m::X).dropLast:=by
 rw[aIH aw];cases X with
 |nil=>
  rw[Mq] at h;exact Eo _ ((aIU _).subset h)
 |cons y X=>
  grind
def ayL(b0:CW B A)(b1:NH p k A){Kn:dp->aj->S->Prop}{Kp:dp->aj->C->S->Prop}{Yp:dp->OM->cQ->aj->S->Nat->aq->Prop}{F:Fence}(hF:qC F)(ok:jd p k){D:bT}{Q:Exit->Act->World->Prop}(HP:∀ch g M pd y,ee p.w0 D pd y g.defers M->p.R (.panicked ch) M->Q (.panic ch) g M)(hC:NI B t)
  {s0:S}{O0:aj}{V0:ar}{L0:dp}
  (hk:∀G H z g M w,bB s0 O0 V0 G H z->cU s0.ax L0 w->aA p.S0 p.w0 D k.ty z H G g M->Kn w H G->Q .normal g M)
  (bf:∀v G H z g M w,bB s0 O0 V0 G H z->cU s0.ax L0 w->aA p.S0 p.w0 D k.ty z H G g M->Kp w H v G->Q (.panic [{v:=v.ai H z,recovered:=E}]) g M)
  (hy:∀(L:dp)(m:OM)(bg:cQ)(s:S)(O:aj)(V:ar)(a:Act)(W:World)(yn:Nat)(a1:aq)(R':Ending->World->Prop),bB s0 O0 V0 s O V->cU s0.ax L0 L->aA p.S0 p.w0 D k.ty V O s a W->eB k.gl O->Yp L m bg O s yn a1->
   (∀v G H z M w,bB s O V G H z->cU s.ax L w->aA p.S0 p.w0 D k.ty z H G a M->eC p k B A (Kn w) (Kp w) (Yp w) bg H (G.put m.o.dst v)->R' (.returned (v.ai H z)) M)->
   (∀v G H z M w,bB s O V G H z->cU s.ax L w->aA p.S0 p.w0 D k.ty z H G a M->Kp w H v G->R' (.panicked [{v:=v.ai H z,recovered:=E}]) M)->
   (∀ch M pd y,ee p.w0 D pd y a.defers M->p.R (.panicked ch) M->R' (.panicked ch) M)->
   ∀(m:Nat),YieldAt F m p.P (O.y.getD yn 0) (C.az O V a1).toArray W R'):
  ∀(ac:Nat)(listed:Array Bool)(aa:cQ)(s:S)(O:aj)(V:ar)(a:Act)(W:World)(L:dp),Y aa=ac->Sz B t listed aa->(∀m∈aa,m.dr=J)->(∀m∈aa,∀N,m.o.op=.alloc N->J2 k N=J)->(aa.Pairwise λa b=>gQ a.o.op=J->gQ b.o.op=J->a.ix≠b.ix)->(((∀m∈aa,aeD s m)/\(∀m∈aa.dropLast,aeC s m))\/(aa.Pairwise λx y=>(t.getD y.j 0).testBit x.j=J))->bB s0 O0 V0 s O V->cU s0.ax L0 L->aA p.S0 p.w0 D k.ty V O s a W->eB k.gl O->eC p k B A (Kn L) (Kp L) (Yp L) aa O s->
   wpAnyIn F X p.P .any B Q ac listed a W:=by
 intro ac;induction ac with
 |zero=>
  intro listed aa s O V a W L a3 hW a9 hZ bk hA hl hL R hg h;have b2:aa=[]:=Em.1 a3;subst b2;refine⟨?_,hk s O V a W L hl hL R h⟩;cases hr:um .any B listed with
  |nil=>rfl
  |cons i r=>
   obtain⟨h1,o,ho,-⟩:=mem_ready.1 (show i∈um .any B listed by rw[hr];simp);have:=(hW.un i (lF.1 ho).1).1 h1;obtain⟨m,hm,-⟩:=this;cases hm
 |succ ac ih=>
  intro listed aa s O V a W L a3 hW a9 hZ bk hA hl hL R hg h;refine⟨λhr=> ?_,λi hi=> ?_⟩
  
  exfalso;cases aa with
  |nil=>simp at a3
  |cons m ys=>
   have af:=hW.mem m aw;have:m.j∈um .any B listed:=by
    refine mem_ready.2 ⟨(hW.un m.j (lF.1 af).1).2 ⟨m,aw,rfl⟩,m.o,af,λe he hb=> ?_⟩;rcases hW.tp [] m ys rfl e.on (SA he hb) with h1|⟨x,u,-⟩;exact h1;cases u
   rw[hr] at this;cases this
  obtain⟨h1,o,ho,b3⟩:=mem_ready.1 hi;obtain⟨m,hm,rfl⟩:=(hW.un i (lF.1 ho).1).1 h1;obtain⟨q,ys,rfl⟩:=aI8 hm;have af:=hW.mem m hm;rw[af] at ho;cases ho;have hd:∀e∈jo m.o,listed.getD e E=true:=λe he=>by
   obtain⟨ed,h2,h3,rfl⟩:=Xi he;exact b3 ed h2 h3
  have bl:∀x∈q,¬(t.getD m.j 0).testBit x.j=true:=by
   intro x u h2;have b4:=hW.mem x (by simp[u]);have ba:x.j<B.size:=(lF.1 b4).1;have h3:=ayH hC hW m.j m.o af hd x.j ba h2;have h4:=(hW.un x.j ba).2 ⟨x,by simp[u],rfl⟩;have b5:x.j<listed.size:=by rw[hW.sz];exact ba
   simp[b5] at h3 h4;rw[h3] at h4;cases h4
  have br:∀x∈q,vM B x m=true:=by
   intro x u;have b6:=(oB.1 hW.pr).2.2 x u m aw;rcases b6 with h2|h2;exact bF h2 (bl x u);exact h2
  have bb:=oB.1 hW.ds;have ag:=oB.1 bk;have hb:eC p k B A (Kn L) (Kp L) (Yp L) (m::(q++ys)) O s:=by
   rcases hA with⟨bc,hA⟩|hA;exact an8 b0 q s O br (λx u=>hA x (by rw[aIH aw];exact Eo _ u)) (bc m hm) bb.1 (λx u al a4 e=>ag.2.2 x u m aw al a4 e.symm) (hZ m hm) R.ei R.eb R.er h;cases q with|nil=>exact h|cons x q=>exact bF ((oB.1 hA).2.2 x aw m aw) (bl x aw)
  have bt:∀(G:S)(H:aj)(z:ar)(g:Act)(M:World)(w:dp),(((∀m∈q++ys,aeD G m)/\(∀m∈(q++ys).dropLast,aeC G m))\/((q++ys).Pairwise λx y=>(t.getD y.j 0).testBit x.j=J))->bB s0 O0 V0 G H z->cU s0.ax L0 w->aA p.S0 p.w0 D k.ty z H G g M->eB k.gl H->eC p k B A (Kn w) (Kp w) (Yp w) (q++ys) H G->wpAnyIn F X p.P .any B Q ac (listed.setIfInBounds m.j J) g M:=
   λG H z g M w b7 ab an R' b8 a0=>ih _ (q++ys) G H z g M w (by simp at a3⊢;omega) (ayI hW hd) (λx u=>a9 x (by rcases fg.1 u with l|l<;>simp[l])) (λx u=>hZ x (by rcases fg.1 u with l|l<;>simp[l]))
    (oB.2 ⟨ag.1,(jO.1 ag.2.1).2,λa ha b hb=>ag.2.2 a ha b (by simp[hb])⟩) b7 ab an R' b8 a0
  have ca:awp (q++ys) (q++m::ys):=akW (akY _) (akT _ _);refine ayJ hF ok b1 HP hb R hg af (a9 m hm) (λG H z g M ab cc cl R' a0=> ?_) (λv hv=>bf v s O V a W L hl hL R hv) (λyn a1 hc bx cn=> ?_);refine bt G H z g M L ?_ (hl.trans ab) hL R' (hg.ext ab.ext) a0;rcases hA with⟨bc,hA⟩|hA;left;refine⟨λx u al=>cl x.ix (bc x (by rcases fg.1 u with l|l<;>simp[l]) al) (λa4=>by
   rcases fg.1 u with l|l;exact ag.2.2 x l m aw al a4;exact λe=>(jO.1 ag.2.1).1 x l a4 al e.symm),λx u=> ?_⟩
  intro d bd;have co:m.o.dst≠U d:=by
   rcases fg.1 ((aIU _).subset u) with l|l;exact bb.2.2 x l m aw d bd;intro he;exact(jO.1 bb.2.1).1 x l d he bd
  exact an7 ⟨by rw[<-R.ei,<-R'.ei];exact ab.ext.li,by rw[<-R.eb,<-R'.eb];exact ab.ext.lb,by rw[<-R.er,<-R'.er];exact ab.ext.lr,ab.mono⟩ (cc d co) (hA x (ayK u) d bd);exact .inr (hA.sublist ca);have cp:q=[]:=by
   cases q with
   |nil=>rfl
   |cons x q=>
    have:=(an6 (br x aw)).2;rw[bx] at this;cases this
  subst cp;have cs:ys.Pairwise λx y=>(t.getD y.j 0).testBit x.j=true:=hW.so [] m ys rfl bx
  have hY:=hy L m ys s O V a W yn a1 (λe M=>match e with|.returned v=>wpAnyIn F X p.P .any B Q ac (listed.setIfInBounds m.j J) (a.put m.o.dst v) M|.panicked ch=>Q (.panic ch) a M|.outgrown=>LetsOut Q) hl hL R hg cn
   (λv G H z M w ab an R' a0=>bt (G.put m.o.dst v) H z _ M w (.inr cs) (hl.trans (ab.put _ _)) (hL.trans an hl.ax) (R'.put m.o.dst v) (hg.ext ab.ext) a0)
   (λv G H z M w ab an R' hs=>bf v G H z a M w (hl.trans ab) (hL.trans an hl.ax) R' hs)
   (λch M pd y hA hR=>HP ch a M pd y hA hR) (X-1)
  obtain⟨fn,cy,assign,body,ct,cu⟩:=hY;refine⟨λf _=>hF.fn f, ?_⟩;have cv:∀c,m.o.op≠ .defer c:=λc cx=>by simp[ep,cx] at hc
  rw[AI _ _ _ cv,ad7 R hg hc,ct];rw[av3];refine⟨λhd=>by rw[hF.zy] at hd;simp at hd,RoundIn.mono cu (λe M he=> ?_)⟩;cases e<;>exact he
end
def SB:cG->Fence
 |none=>Fence.wide|U l=>Fence.wide.inRound l
def zD:∀i,qC (SB i)
 |none=>axX|U l=>am3 l
def ayM:∀i,(SB i).round=i
 |none=>rfl|U _=>rfl
theorem qC.room{F:Fence}(W:qC F)(n:Nat):F.room n:=λd X=>by rw[W.zy] at X;cases X
def jQ(i:cG)(o:FuncId)(P:Program)(c:Code)(Q:Exit->Act->World->Prop)(a:Act)(w:World):Prop:=
 ∀(b:Frame)(k:List Item)(X:List Frame),b.roundOf=i->b.fn=o->
  ∃e W V,Q e W V/\ArrivesIn (Machine.fenced P Fence.wide) P (lone (b.atR a (.code c::k)) X w) b k X e W V
section
variable{i:cG}{o:FuncId}{P:Program}{Q:Exit->Act->World->Prop}{a:Act}{w:World}
def wb{c:Code}{n:Nat}(h:c.wpIn (SB i) n P Q a w):jQ i o P c Q a w:=by
 intro b k X W _;obtain⟨e,R,O,N,V⟩:=h b k X (W.trans (ayM i).symm) ((zD i).fn _) ((zD i).room _);rw[(zD i).eq] at V
 grind
def ayN{c:Code}{X:Exit->Act->World->Prop}(h:jQ i o P c Q a w)(W:∀e a w,Q e a w->X e a w):jQ i o P c X a w:=
 λb k V R O=>let⟨e,N,M,q,r⟩:=h b k V R O;⟨e,N,M,W _ _ _ q,r⟩
def Ko{x y:Code}(h:jQ i o P x (Exit.then (jQ i o P y Q) Q) a w):jQ i o P (Code.seq x y) Q a w:=by
 intro b k N M L;have X:(lone (b.atR a (.code (.seq x y)::k)) N w).fenced P Fence.wide:=fenced_wide _ _;obtain⟨e,R,O,W,V⟩:=h b (.code y::k) N M L;cases e with
 |normal=>
  obtain⟨H,G,F,D,B⟩:=W b k N M L;exact⟨H,G,F,D,.of_steps (.head X stepR_seq V) B⟩
 |exit id=>exact⟨_,R,O,W,.of_steps (.one X stepR_seq) (.pass (x:=.code y) rfl (λ_ _=>.inl aw) V)⟩|goto l=>exact⟨_,R,O,W,.of_steps (.one X stepR_seq) (.pass (x:=.code y) rfl (λ_ _=>.inl aw) V)⟩|ret=>exact⟨_,R,O,W,.of_steps (.one X stepR_seq) (.pass (x:=.code y) rfl (λ_ _=>.inl aw) V)⟩|panic A=>exact⟨_,R,O,W,.of_steps (.one X stepR_seq) (.pass (x:=.code y) rfl (λ_ _=>.inl aw) V)⟩|outgrown=>exact⟨_,R,O,W,.of_steps (.one X stepR_seq) (.pass (x:=.code y) rfl (λ_ _=>.inl aw) V)⟩
def ayO{c:Code}(h:jQ i o P c (Exit.inBlock X Q) a w):jQ i o P (Code.block X c) Q a w:=by
 intro b k z y x;have W:(lone (b.atR a (.code (.block X c)::k)) z w).fenced P Fence.wide:=fenced_wide _ _;obtain⟨e,O,N,V,R⟩:=h b (.inBlock X::k) z y x;cases e with
 |normal=>exact⟨.normal,O,N,V,.head W stepR_block (StepsIn.trans R (.one (fenced_wide _ _) stepR_inBlock))⟩
 |exit L=>
  by_cases hid:L=X;simp only[Exit.inBlock,hid,dO] at V;exact⟨.normal,O,N,V,.head W stepR_block (R.1 k (by simp[exitTo,hid]))⟩;simp only[Exit.inBlock,hid,ku] at V;have this:(X==L)=false:=by simp;exact λh=>hid h.symm
  have H:exitTo L (.inBlock X::k)=exitTo L k:=by simp[exitTo,this]
  exact⟨.exit L,O,N,V,λG M=>.head W stepR_block (R.1 G (by rw[H];exact M)),
   λF M=>let⟨D,B,A⟩:=R.2 F (by rw[H];exact M);⟨D,B,.head W stepR_block A⟩⟩
 |goto l=>
  have H:gotoIn l (.inBlock X::k)=gotoIn l k:=by simp[gotoIn]
  exact⟨_,O,N,V,λG M=>.head W stepR_block (R.1 G (by rw[H];exact M)),
   λF M=>let⟨D,B,A⟩:=R.2 F (by rw[H];exact M);⟨D,B,.head W stepR_block A⟩⟩
 |ret=>exact⟨_,O,N,V,.of_steps (.one W stepR_block) R⟩|panic v=>exact⟨_,O,N,V,.of_steps (.one W stepR_block) R⟩|outgrown=>exact⟨_,O,N,V,.of_steps (.one W stepR_block) R⟩
def ayP{c:Code}(h:jQ i o P c (λe a w=>(∀l,e≠ .goto l)/\Q e a w) a w):jQ i o P (Code.scope c) Q a w:=by
 intro b k X G F;have W:(lone (b.atR a (.code (.scope c)::k)) X w).fenced P Fence.wide:=fenced_wide _ _;have V:step P (lone (b.atR a (.code (.scope c)::k)) X w)=.next (lone (b.atR a (.code c::.inScope c::k)) X w):=step_lone_go (by simp[stepG,stepG.exec,Frame.atR])
 have D:∀a w,step P (lone (b.atR a (.inScope c::k)) X w)=.next (lone (b.atR a k) X w):=λa w=>step_lone_go (by simp[stepG,stepG.exec,Frame.atR])
 obtain⟨e,O,N,⟨B,M⟩,R⟩:=h b (.inScope c::k) X G F;cases e with
 |normal=>exact⟨.normal,O,N,M,.head W V (StepsIn.trans R (.one (fenced_wide _ _) (D _ _)))⟩
 |exit id=>
  have H:exitTo id (.inScope c::k)=exitTo id k:=by simp[exitTo]
  exact⟨.exit id,O,N,M,λA L=>.head W V (R.1 A (by rw[H];exact L)),λz L=>let⟨y,x,v⟩:=R.2 z (by rw[H];exact L);⟨y,x,.head W V v⟩⟩
 |goto l=>exact bF rfl (B l)|ret=>exact⟨_,O,N,M,.of_steps (.one W V) R⟩|panic u=>exact⟨_,O,N,M,.of_steps (.one W V) R⟩|outgrown=>exact⟨_,O,N,M,.of_steps (.one W V) R⟩
def NJ{c:Operand}{x y:Code}{t:Bool}(X:a.eval c=.bool t)(h:jQ i o P (if t then x else y) Q a w):jQ i o P (Code.cond c x y) Q a w:=by
 intro b k W V R;obtain⟨e,O,N,M,L⟩:=h b k W V R;exact⟨e,O,N,M,.of_steps (.one (fenced_wide _ _) (stepR_cond X)) L⟩
def SC(i:cG)(o:FuncId)(P:Program)(c:Code)(Q:Exit->Act->World->Prop):Nat->Act->World->Prop
 |0,_,_=>False|m+1,a,w=>jQ i o P c (Exit.then (SC i o P c Q m) Q) a w
def an9{c:Code}(m:Nat)(h:SC i o P c Q m a w):jQ i o P (Code.loop c) Q a w:=by
 intro b k O H G;have F:∀m a w,SC i o P c Q m a w->
   ∃e M L,Q e M L/\ArrivesIn (Machine.fenced P Fence.wide) P (lone (b.atR a (.code c::.inLoop c::k)) O w) b k O e M L:=by
  intro m;induction m with
  |zero=>intro a w h;exact h.elim
  |succ m D=>
   intro a w h;obtain⟨e,X,W,V,R⟩:=h b (.inLoop c::k) O H G;have N:∀{e:Exit},e≠ .normal->ArrivesIn (Machine.fenced P Fence.wide) P (lone (b.atR a (.code c::.inLoop c::k)) O w) b (.inLoop c::k) O e X W->ArrivesIn (Machine.fenced P Fence.wide) P (lone (b.atR a (.code c::.inLoop c::k)) O w) b k O e X W:=
    λB A=>.pass (x:=.inLoop c) rfl (λ_ _=>.inl B) A
   cases e with
   |normal=>
    obtain⟨z,y,v,u,t⟩:=D X W V;exact⟨z,y,v,u,.of_steps (StepsIn.trans R (.one (fenced_wide _ _) stepR_inLoop)) t⟩
   |exit id=>exact⟨_,X,W,V,N aw R⟩|goto l=>exact⟨_,X,W,V,N aw R⟩|ret=>exact⟨_,X,W,V,N aw R⟩|panic s=>exact⟨_,X,W,V,N aw R⟩|outgrown=>exact⟨_,X,W,V,N aw R⟩
 obtain⟨e,M,L,V,R⟩:=F m a w h;exact⟨e,M,L,V,.of_steps (.one (fenced_wide _ _) stepR_loop) R⟩
def ayQ{c:Code}(X:Nat->Act->World->Prop)(M:Nat)(F:X M a w)
  (round:∀n a w,X n a w->jQ i o P c (Exit.then (λR O=>∃V,V<n/\X V R O) Q) a w):jQ i o P (Code.loop c) Q a w:=by
 refine an9 (M+1) ?_;have D:∀N n a w,n<N->X n a w->SC i o P c Q N a w:=by
  intro N;induction N with
  |zero=>intro n a w h;omega
  |succ N L=>
   intro n a w B H;refine ayN (round n a w H) ?_;intro e R O W;cases e with
   |normal=>
    obtain⟨V,A,G⟩:=W;exact L V R O ae G
   |exit id=>exact W|goto l=>exact W|ret=>exact W|panic z=>exact W|outgrown=>exact W
 grind
def aeF(i:cG)(o:FuncId)(P:Program)(l:Nat)(Q:Exit->Act->World->Prop)(X:Act):Ending->World->Prop
 |.returned _,W=>∃R V,(Instr.endLoop l).run P W=.ok R V/\
   (match R with|none=>Q .normal X V|U c=>jQ i o P c Q X V)
 |.panicked chain,W=>Q (.panic chain) X W|.outgrown,_=>False
def ayR{g:Operand}{W:Array Tmp}{assign body:Code}
  (h:∃(l:Nat)(mark:CF)(V:World)(d:Deferred)(R:World)(f:FuncId)(O:mO)(N:World),
   (Instr.enterLoop o a.tmps W assign body i).run P w=.ok (l,mark) V/\
   (resolve a.eval (rangeCall g l) 0).run P V=.ok d R/\
   (invoke d.target d.args).run P R=.ok (.enter f O) N/\
   Calls P f O N (aeF i o P l Q {a with defers:=mark++a.defers})):
  jQ i o P (Code.rangeFunc g W assign body) Q a w:=by
 intro b k X H G;obtain⟨l,mark,V,d,R,f,O,N,F,s,r,M⟩:=h;obtain⟨hF,M⟩:=(callsIn_wide (n:=0)).2 M;rw[<-H,<-G] at F;have D:(lone (b.atR a (.code (.rangeFunc g W assign body)::k)) X w).fenced P Fence.wide:=fenced_wide _ _;have B:=stepR_rangeFunc (P:=P) (b:=b) (a:=a) (k:=k) (cs:=X) (w:=w) F s r;obtain⟨e,q,fr,L,A,ac,z⟩:=M (b.atR {a with defers:=mark++a.defers} (.inRangeFunc l::k)::X) (room_wide _);cases e with
 |outgrown=>exact L.elim
 |returned v=>
  obtain⟨y,x,p,u⟩:=L;have t:StepsIn (Machine.fenced P Fence.wide) P (lone (b.atR a (.code (.rangeFunc g W assign body)::k)) X w) (lone (b.atR {a with defers:=mark++a.defers} ((y.map Item.code).toList++k)) X x):=by
   refine .head D B (StepsIn.trans A (.head (fenced_wide _ _) ?_ (.one (fenced_wide _ _) (stepR_endRangeFunc p))));rw[<-finish_atR_inRangeFunc l v];exact step_leave_returned z
  cases y with
  |none=>exact⟨.normal,_,x,u,t⟩
  |some c=>
   obtain⟨m,j,aa,hq,ab⟩:=u b k X H G;exact⟨m,j,aa,hq,.of_steps t ab⟩
 |panicked chain=>
  refine⟨.panic chain,_,q,L,.inRangeFunc l::k,.head D B (StepsIn.trans A (.one (fenced_wide _ _) ?_))⟩;rw[<-Frame.raise_atR];exact step_leave_panicked z
end
def Kq{P:Program}{f:FuncId}{N:Func}{c:Code}{W:mO}{R:Ending->World->Prop}
  (z:P.funcs[f]?=U N)(s:N.body=U c)
  (h:jQ Z f P c (bodyPostM Fence.wide 0 P N R) {tmps:=W++QW (N.ntmps-W.size) undef,defers:=[]} e):Calls P f W e R:=by
 refine(callsIn_wide (n:=0)).1 ⟨trivial,λy v=> ?_⟩;let b:Frame:={(default:Frame) with fn:=f,kind:=.normal,roundOf:=Z};have r:Frame.enter P f W .normal=
   b.atR {tmps:=W++QW (N.ntmps-W.size) undef,defers:=[]} [.code c]:=by
  simp[Frame.enter,Frame.atR,z,s,b]
 obtain⟨X,V,x,O,M⟩:=h b [] y rfl rfl;rw[<-r] at M;cases X with
 |normal=>
  obtain⟨L,H,G,F,D,B,A⟩:=leaves_stepsInM V.defers .returning x {b.atR V [] with mode:=.returning} y rfl rfl rfl z rfl trivial v O;exact⟨L,H,G,F,ComesIn.of_steps (StepsIn.trans M (.one (fenced_wide _ _) (stepR_end rfl))) D,B,A⟩
 |ret=>
  obtain⟨u,t⟩:=M.1 rfl;obtain⟨L,H,G,F,D,B,A⟩:=leaves_stepsInM V.defers .returning x {b.atR V u with mode:=.returning} y rfl rfl rfl z rfl trivial v O;exact⟨L,H,G,F,ComesIn.of_steps t D,B,A⟩
 |panic chain=>
  obtain⟨u,t⟩:=M;obtain⟨L,H,G,F,D,B,A⟩:=leaves_stepsInM V.defers (.panicking chain) x {b.atR V u with mode:=.panicking chain} y rfl rfl rfl z rfl trivial v O;exact⟨L,H,G,F,ComesIn.of_steps t D,B,A⟩
 |exit id=>exact O.elim|goto l=>exact O.elim|outgrown=>exact⟨.outgrown,x,b,O,M.resolve_left aw,rfl,trivial⟩
def ayS(P:Program)(l:Nat)(R:Ending->World->Prop):Exit->Act->World->Prop
 |.normal,_,w=>∃v X,(Instr.endRound l Z).run P w=.ok v X/\R (.returned v) X|.ret,_,w=>∃v X,(Instr.endRound l (U .ret)).run P w=.ok v X/\R (.returned v) X|.exit id,_,w=>∃v X,(Instr.endRound l (U (.exit id))).run P w=.ok v X/\R (.returned v) X|.panic W,a,w=>a.defers=[]/\R (.panicked W) w|_,_,_=>False
def ayT{F:Fence}(o:qC F){P:Program}{l:Nat}{f:FuncId}{k:Func}{s:mO}{assign body:Code}{R:Ending->World->Prop}(j:P.funcs[f]?=U k)
  (h:jQ (U l) f P assign (λW H G=>(W=.normal/\∃r,(Instr.beginRound l).run P G=.ok () r/\jQ (U l) f P body (ayS P l R) H r)\/∃z,W=.panic z/\H.defers=[]/\R (.panicked z) G)
   {tmps:=s,defers:=[]} e):
  RoundIn F X P l f s assign body e R:=by
 refine⟨o.fn f,λc N hr=> ?_⟩;let b:Frame:={(default:Frame) with fn:=f,kind:=.normal,roundOf:=U l};have i:Frame.round l f s assign body .normal=b.atR {tmps:=s,defers:=[]} [.code assign,.beginRound,.code body]:=by
  simp[Frame.round,Frame.atR,b]
 have ag:(Fence.wide.inRound l).room ((c::N).length+1+X):=(am3 l).room _;obtain⟨W,H,G,g,D⟩:=h b [.beginRound,.code body] (c::N) rfl rfl;rw[<-i] at D;rw[o.eq];have NK:∀(m:Machine)(B:Act)(M:World)(chain:List PanicEntry)(L:List Item),B.defers=[]->StepsIn (Machine.fenced P Fence.wide) P m (lone {b.atR B L with mode:=.panicking chain} (c::N) M)->StepsIn (Machine.fenced P Fence.wide) P m (lone (c.raise chain) N M):=by
  intro m B M chain L y V;have d:({b.atR B L with mode:=.panicking chain}:Frame).leaving P M (.panicked chain):=⟨rfl,y,k,j⟩;exact StepsIn.trans V (.one (fenced_wide _ _) (step_leave_panicked d))
 rcases g with⟨rfl,r,aa,ab⟩|⟨z,rfl,y,O⟩;have q:StepsIn (Machine.fenced P Fence.wide) P (lone (b.atR H [.beginRound,.code body]) (c::N) G) (lone (b.atR H [.code body]) (c::N) r):=
  .one (fenced_wide _ _) (stepR_beginRound rfl aa)
 obtain⟨ac,B,M,A,p⟩:=ab b [] (c::N) rfl rfl;cases ac with
 |normal=>
  obtain⟨v,x,u,O⟩:=A;exact⟨.returned v,x,O,(StepsIn.trans D q).trans (StepsIn.trans p (.one (fenced_wide _ _) (stepR_round_end rfl rfl u)))⟩
 |ret=>
  obtain⟨v,x,u,O⟩:=A;obtain⟨af,V⟩:=p.2 rfl;exact⟨.returned v,x,O,(StepsIn.trans D q).trans (StepsIn.trans V (.one (fenced_wide _ _) (stepR_round_ret rfl rfl u)))⟩
 |exit id=>
  obtain⟨v,x,u,O⟩:=A;obtain⟨af,hk,V⟩:=p.2 rfl rfl;exact⟨.returned v,x,O,(StepsIn.trans D q).trans (StepsIn.trans V (.one (fenced_wide _ _) (stepR_round_exit rfl rfl hk u)))⟩
 |goto t=>exact A.elim
 |panic chain=>
  obtain⟨y,O⟩:=A;obtain⟨L,V⟩:=p;exact⟨.panicked chain,M,O,NK _ B M chain L y ((StepsIn.trans D q).trans V)⟩
 |outgrown=>exact A.elim
 obtain⟨L,V⟩:=D;exact⟨.panicked z,G,O,NK _ H G z L y V⟩
mutual
def K.eZ(O:aj)(y:ar):∀(e:K),e.ai (O.at y)=e.ai O
 |.c n=>by simp[K.ai]|.v k=>by simp[K.ai,aj.at]|.bin o k a b=>by simp only[K.ai];rw[K.eZ O y a,K.eZ O y b]|.conv k a=>by simp only[K.ai];rw[K.eZ O y a]|.len r=>by simp only[K.ai];rw[RE.nO O y r]|.mm m a b=>by simp only[K.ai];rw[K.eZ O y a,K.eZ O y b]|.dt b x z=>by simp only[K.ai];rw[BE.eZ O y b,K.eZ O y x,K.eZ O y z]|.cell r i j=>by simp only[K.ai];rw[RE.nO O y r,K.eZ O y i]|.oZ r i=>by simp only[K.ai];rw[RE.nO O y r,K.eZ O y i]|.look r n a b c j=>by simp only[K.ai];rw[RE.nO O y r,K.eZ O y a,K.eZ O y b,K.eZ O y c]
def BE.eZ(O:aj)(y:ar):∀(e:BE),e.ai (O.at y)=e.ai O
 |.c b=>by simp[BE.ai]|.v k=>by simp[BE.ai,aj.at]|.cmp o a b=>by simp only[BE.ai];rw[K.eZ O y a,K.eZ O y b]|.not a=>by simp only[BE.ai];rw[BE.eZ O y a]|.and a b=>by simp only[BE.ai];rw[BE.eZ O y a,BE.eZ O y b]|.beq a b=>by simp only[BE.ai];rw[BE.eZ O y a,BE.eZ O y b]|.dt b x z=>by simp only[BE.ai];rw[BE.eZ O y b,BE.eZ O y x,BE.eZ O y z]|.cell r i j=>by simp only[BE.ai];rw[RE.nO O y r,K.eZ O y i]|.seq a b=>by simp only[BE.ai];rw[RE.nO O y a,RE.nO O y b]|.look r n a b c j=>by simp only[BE.ai];rw[RE.nO O y r,K.eZ O y a,K.eZ O y b,K.eZ O y c]|.has r n a b c=>by simp only[BE.ai];rw[RE.nO O y r,K.eZ O y a,K.eZ O y b,K.eZ O y c]
def RE.nO(O:aj)(y:ar):∀(e:RE),e.rv (O.at y)=e.rv O
 |.v k=>by simp[RE.rv,aj.rv,aj.at]|.cell r i j k=>by simp only[RE.rv];rw[RE.nO O y r,K.eZ O y i]|.k v=>by simp[RE.rv]
end
def C.Xj(O:aj)(y:ar)(v:C):v.xv (O.at y)=v.xv O:=by
 cases v<;>simp[C.xv,K.eZ,BE.eZ,RE.nO]
def C.ayU(O:aj)(y:ar)(v:C):v.cj (O.at y)=v.cj O:=by
 cases v<;>simp[C.cj,K.eZ,BE.eZ,RE.nO]
def C.Xk(O:aj)(y:ar):C.cj (O.at y)=C.cj O:=funext (C.ayU O y)
def LE.Kr(O:aj)(y:ar):∀(e:LE),e.ah (O.at y)=e.ah O
 |.ak r=>by simp only[LE.ah,RE.nO]|.lit l=>by simp only[LE.ah,C.Xk]|.iB a b=>by simp only[LE.ah];rw[LE.Kr O y a,LE.Kr O y b]|.xt n R=>by simp only[LE.ah,C.Xk,K.eZ]|.set a i Q X=>by simp only[LE.ah,C.Xk,K.eZ];rw[LE.Kr O y a]|.sub a P N=>by simp only[LE.ah,K.eZ];rw[LE.Kr O y a]|.ins a n X=>by simp only[LE.ah,C.Xk];rw[LE.Kr O y a]
def Hu:∀(X:aZ)(O:aj)(y:ar),(O.at y).ext X=(O.ext X).at y
 |[],O,y=>rfl
 |x::X,O,y=>by
  simp only[aj.ext];rw[<-Hu X (O.add x) y];cases x<;>rfl
def ayV{G:Ty}{X:LE}{R:bo}{y:ar}{Q:RV}(h:J8 G t e v X R (x.at y) Q):J8 G t e v X R x Q:=by
 obtain⟨P,N,M⟩:=h;rw[LE.Kr] at P;exact⟨P,N,M⟩
def th(p:Sp):∀(t:T)(O:aj)(L:dp)(y:ar),t.aM p O L->t.aM p (O.at y) L
 |.out e s,O,L,y,h=>h|.ret v c F,O,L,y,h=>h|.bp v,O,L,y,h=>h
 |.aI b t f,O,L,y,h=>by
  simp only[T.aM,BE.eZ] at h⊢;exact⟨λQ=>th p t O L y (h.1 Q),λQ=>th p f O L y (h.2 Q)⟩
 |.aQ b t,O,L,y,h=>by
  simp only[T.aM,BE.eZ] at h⊢;exact⟨h.1,th p t O L y h.2⟩
 |.call f ab c F ks fz t,O,L,y,h=>by
  simp only[T.aM] at h⊢;cases u:zo fz with
  |some Vq=>
   simp only[u] at h⊢;intro A V W R;refine(h A V W R).mono ?_;intro e W' M;cases e with
   |returned v=>
    obtain⟨H,N,P,G,z,w,h6⟩:=M;exact⟨H,N,P,G,by rw[Hu];exact z,w,by rw[Hu];exact th p t _ L y h6⟩
   |panicked ch=>exact M|outgrown=>exact M
  |none=>
  simp only[u] at h⊢;intro A V W R;refine(h A V W R).mono ?_;intro e W' M;cases e with
  |returned v=>
   obtain⟨H,N,P,G,z,w⟩:=M;refine⟨H,N, ?_,G,z, ?_⟩;rw[Hu];exact P;rw[Hu];exact th p t _ L y w
  |panicked ch=>exact M|outgrown=>exact M
 |.loop ax ks x0 t,O,L,y,h=>by
  simp only[T.aM] at h⊢;obtain⟨X,μ,N,P⟩:=h;refine⟨X,μ, ?_,λH hf hI=> ?_⟩;have:C.xv (O.at y)=C.xv O:=funext (C.Xj O y)
  grind
  rw[Hu];exact th p t _ _ y (P H hf hI)
 |.back ax x,O,L,y,h=>by
  have:C.xv (O.at y)=C.xv O:=funext (C.Xj O y)
  grind [T.aM]
 |.new e x F ac t,O,L,y,h=>by
  simp only[T.aM] at h⊢;intro q aa;exact th p t (O.add (.r q)) L y (h q (ayV aa))
 |.ah k x F t,O,L,y,h=>by
  simp only[T.aM] at h⊢;have:gt x (O.at y)=gt x O:=by simp only[gt,LE.Kr]
  rw[this];exact th p t (O.add (.r (gt x O))) L y h
 |.gq g h' t f,O,L,y,h=>by
  simp only[T.aM,BE.eZ] at h⊢;exact⟨λQ=>th p t O L y (h.1 Q),λQ=>th p f O L y (h.2 Q)⟩
 |.pick n g h' t f,O,L,y,h=>by
  simp only[T.aM,K.eZ,BE.eZ] at h⊢;refine⟨λj N P G=>th p t (O.add (.i j)) L y (h.1 j N P ?_),λQ=>th p f O L y (h.2 Q)⟩;have:=BE.eZ (O.add (.i j)) y g;rw[<-this];exact G
 |.eE f g e sp st r F t,O,L,y,h=>by
  simp only[T.aM,RE.nO] at h⊢;obtain⟨m,N,P⟩:=h;refine⟨m, ?_,th p t (O.add (.r (.mk (r.rv O).val m))) L y P⟩;rw[<-N];cases sp with
  |dw k o B=>
   have l:K.ai (O.at y)=K.ai O:=funext λe=>K.eZ O y e
   cases st with
   |false=>simp only[lu,l]
   |true=>
    cases B with
    |nil=>rfl
    |cons i B=>
     cases B with|nil=>simp only[lu,l]|cons j B=>rfl
  |lex cs d=>rfl|ratio n d=>rfl
 |.stuck _,_,_,_,h=>h
mutual
def C.NL{O:aj}{y:ar}{n:Nat}(X:∀m,m<n->y.getD m 0=O.y.getD m 0)(V:ar):∀(v:C),v.zr n=E->v.ai (O.at y) V=v.ai O V
 |.int _ e,_=>by simp only[C.ai,K.eZ]|.bool e,_=>by simp only[C.ai,BE.eZ]|.ak e,_=>by simp only[C.ai,RE.ai,RE.nO]|.loc i _,_=>rfl|.el r _ i _,_=>by simp only[C.ai,RE.ai,RE.nO,K.eZ]|.iO _ _ _ _,_=>rfl|.agg l,h=>by simp only[C.ai];rw[C.NM X V l h]|.bH l,h=>by simp only[C.ai];rw[C.NM X V l h]|.fn _ l,h=>by simp only[C.ai];rw[C.NM X V l h]|.gH _ x,h=>by simp only[C.ai];rw[C.NL X V x h]
 |.yl m,h=>by
  grind [C.zr,Nat.not_le,C.ai,aj.at]
 |.any,_=>rfl|.mp _,_=>rfl|.gp e Q R,h=>by simp only[C.ai,K.eZ];rw[C.NM X V R h]
def C.NM{O:aj}{y:ar}{n:Nat}(X:∀m,m<n->y.getD m 0=O.y.getD m 0)(V:ar):∀(l:aq),C.qu n l=E->C.az (O.at y) V l=C.az O V l
 |[],_=>rfl
 |x::R,h=>by
  simp only[C.qu,yU] at h;simp only[C.az];rw[C.NL X V x h.1,C.NM X V R h.2]
end
theorem C.ayW(R:∀m,m<X->t.getD m 0=x.y.getD m 0)(V:ar)(v:C)(h:v.zr X=E):v.gf (x.at t) V=v.gf x V:=by
 have Q:=C.NL R V v h;cases v<;>simp only[C.gf]<;>try rw[Q]
 exact RE.nO x t _
def C.aoa{O:aj}{y:ar}{n:Nat}(X:∀m,m<n->y.getD m 0=O.y.getD m 0)(V:ar):∀(l:aq),C.qu n l=E->C.bL (O.at y) V l=C.bL O V l
 |[],_=>rfl
 |x::R,h=>by
  simp only[C.qu,yU] at h;have:=C.aoa X V R h.2
  grind [C.bL,C.ayW]
def aeG{n:Nat}:∀{l:aq},C.qu n l=E->∀v∈l,v.zr n=E
 |[],_,v,h=>by cases h
 |x::R,h,v,X=>by
  simp only[C.qu,yU] at h;rcases fh.1 X with rfl|X;exact h.1;exact aeG h.2 v X
def aeH{n:Nat}:∀{bx:bm},zt n bx=E->∀(i:Nat)(t:TypeId)(X:aq),bP bx i=U (t,X)->C.qu n X=E
 |[],_,i,t,X,h=>by simp[bS] at h|Z::Q,R,0,t,X,h=>by simp[bS] at h
 |U x::Q,R,0,t,X,h=>by
  grind [zt,yU,bS]
 |Z::Q,R,i+1,t,X,h=>aeH (bx:=Q) R i t X (by simpa[bS] using h)
 |U x::Q,R,i+1,t,X,h=>by
  simp only[zt,yU] at R;exact aeH (bx:=Q) R.2 i t X (by simpa[bS] using h)
section
variable{H:ar}{F:World}{D:bT}{G:Ty}{V:ar}{O:aj}{s:S}{a:Act}{W:World}
def SD(n:Nat):∀(k:Nat)(R:bm),(oF n k R).length=Y R
 |0,[]=>rfl|_+1,[]=>rfl|k+1,x::X=>by simp[oF,SD n k X]|0,Z::X=>by simp[oF,SD n 0 X]|0,U x::X=>by simp[oF,SD n 0 X]
def SE(n:Nat):∀(k:Nat)(R:bm)(i:Nat)(x:TypeId×aq),bP (oF n k R) i=U x->bP R i=U x
 |0,[],_,_,h=>h|_+1,[],_,_,h=>h|k+1,x::X,0,_,h=>by simpa[oF,bS] using h
 |k+1,x::X,i+1,z,h=>by
  have:=SE n k X i z (by simpa[oF,bS] using h);simpa[bS] using this
 |0,Z::X,0,_,h=>by simp[oF,bS] at h
 |0,Z::X,i+1,z,h=>by
  have:=SE n 0 X i z (by simpa[oF,bS] using h);simpa[bS] using this
 |0,U x::X,0,z,h=>by
  grind [oF,bS]
 |0,U x::X,i+1,z,h=>by
  have:=SE n 0 X i z (by simpa[oF,bS] using h);simpa[bS] using this
def ayX:∀{X:bm}{i:Nat},aJ X i=J->i<Y X
 |[],i,h=>by simp[aJ,bS] at h|x::R,0,_=>aw
 |x::R,i+1,h=>by
  grind [aJ,bS,oV]
def aob{R:bm}:aJ R X=J<->∃x,bP R X=U x:=by
 cases h:bP R X<;>simp[aJ,h]
def SF{k:Nat}{R:bm}{i:Nat}(h:aJ (oF X k R) i=J):aJ R i=true:=by
 obtain⟨x,Q⟩:=aob.1 h;exact aob.2 ⟨x,SE X k R i x Q⟩
def aoc(n:Nat):∀(k:Nat)(X:bm)(i:Nat),i<k->aJ X i=J->aJ (oF n k X) i=J
 |0,_,_,h,_=>ae|_+1,[],_,_,h=>h|k+1,x::R,0,_,h=>by simpa[oF,aJ,bS] using h
 |k+1,x::R,i+1,Q,h=>by
  have:=aoc n k R i ae (by simpa[aJ,bS] using h);simpa[oF,aJ,bS] using this
def jE.ayY{X:bm}{Q:bo}(R:jE H F V O X G Q W)(n k:Nat):jE H F V O (oF n k X) G Q W:=
 ⟨R.base,λi h=>R.own i (SF h),λi j h L=>R.inj i j (SF h) (SF L),λi t B h=>R.box i t B (SE n k X i _ h),λq e P N M=>⟨(R.ak q e P N M).1,λb A i z=>(R.ak q e P N M).2 b A i (SF z)⟩⟩
theorem jE.at{P:bm}{M:bo}(R:jE H F V O P G M W)(L:∀m,m<X->t.getD m 0=O.y.getD m 0)(B:zt X P=E):jE H F V (O.at t) P G M W:=
 ⟨R.base,R.own,R.inj,λi Q N h=>by rw[C.aoa L V N (aeH B i Q N h)];exact R.box i Q N h,R.ak⟩
def ayZ{w:World}(h:fk t e w)(P:e.heap.size<=X)(o:Obj):fk t e (w.putObj X o):=
 ⟨h.os,h.tape,h.output,by have:=h.size;simpa[Mt] using this,λk R Q=>(uj ae).trans (h.block k R Q)⟩
theorem bG.cells{k:RK}{Q:RV}(h:bG W G k Q)(R:dV G k Q X):∃M t L,W.heap[X]?=U (.cells M t L):=by
 induction h generalizing X with
 |sl e A H F P q p o n m l N=>
  cases R with
  |here e a H F P=>
   have g:P[0]?=U P[0]:=dG ae
   grind
  |deep e v P i j B c z k X x w u r=>exact N i j B c z k x w u r
 |str s=>cases R|bw v h=>cases R
 |own e Q h f N=>
  cases R with|own e Q X R=>exact N R
 |aR Q h=>cases R|mr d P=>cases R
def jE.obj{M:bm}{L:bo}(R:jE H F V O M G L W){o:Obj}(B:W.heap[X]?=U o)(A:Nb o=J)(w:F.heap.size<=X)(z:Obj):jE H F V O M G L (W.putObj X z):=by
 have v:∀P Q t N,W.heap[P]?=U (.cells Q t N)->P≠X:=λP Q t N h e=>by subst e;rw[B] at h;cases h;exact al9 A _ _ _ rfl
 refine⟨ayZ R.base w z,R.own,R.inj,λi t Q h=> ?_,λk e u r q=> ?_⟩;have:=R.box i t Q h;rw[uj (λe=>by subst e;rw[B] at this;cases this;exact ama A _ _ rfl)];exact this;obtain⟨x,p⟩:=R.ak k e u r q;refine⟨x.Kb (λP n=> ?_) aw,p⟩;obtain⟨Q,t,N,m⟩:=x.cells n;exact uj (v _ _ _ _ m)
def AW.obj{R:bm}{Q:bo}{P:RV}{N:Nat}(h:AW H F V O R G Q W X v P N){b:Nat}{o:Obj}(L:W.heap[b]?=U o)(B:Nb o=J)(A:Obj):AW H F V O R G Q (W.putObj b A) X v P N:=by
 refine h.world (uj ?_);obtain⟨z,x,db,-,M,-⟩:=h.mem;intro v;subst v;rw[L] at M;cases M;exact al9 B _ _ _ rfl
def aA.obj(R:aA H F D G V O s a W){b:Nat}{o:Obj}(Q:W.heap[b]?=U o)(P:Nb o=J)(M:F.heap.size<=b)(X:Obj){D':bT}{pd:vE}{a':Act}(N:a'.tmps=a.tmps)
  (L:ee F D' pd O.y a'.defers (W.putObj b X)):aA H F D' G V O {s with pd:=pd} a' (W.putObj b X):=
 ⟨R.mem.obj Q P M X,R.gC,R.ei,R.eb,R.er,L,by rw[N];exact R.size,λt B h=>by rw[N];exact R.tmps t B h,λk e A z x w v=>(R.eN k e A z x w v).obj Q P X⟩
def rm:ar->World->World
 |[],W=>W|d::ms,W=>rm ms (W.putObj d (.deferred Z))
def aA.rm:∀{ms:ar}{a:Act}{W:World},aA H F D G V O s a W->a.defers=ms.map mV++D.base->aA H F D G V O s {a with defers:=D.base} (rm ms W)
 |[],a,W,R,h=>by
  have:({a with defers:=D.base}:Act)=a:=by cases a;simp at h;subst h;rfl
  rw[this];exact R
 |d::ms,a,W,R,h=>by
  obtain⟨A,Q,w,M,L⟩:=R.dl.mu;have v:A=d::ms:=by
   rw[h] at Q;have Q:=aIN Q;have g:∀(l X:ar),l.map mV=X.map mV->l=X:=by
    intro l;induction l with
    |nil=>intro X h;cases X<;>simp at h;rfl
    |cons x f c=>
     intro X h;cases X with
     |nil=>simp at h
     |cons z b=>
      grind [GG,mV,Deferred.mk.injEq,Target.collected.injEq]
   grind
  subst v;have P:=L d aw;have u:ee F D s.pd O.y (ms.map mV++D.base) (W.putObj d (.deferred Z)):=by
   refine⟨R.dl.len,R.dl.rW,λn l r t q p=> ?_,R.dl.inj,ms,rfl,λo=>(by have:=w o;cases this),(Et.1 M).2,λm B=> ?_⟩;obtain⟨k,N,j⟩:=R.dl.dI n l r t q p;exact⟨k,(uj (λe=>by subst e;rw[P.1] at N;cases N)).trans N,j⟩;have:=L m (by simp only[cJ,fh];exact .inr B);refine⟨(uj (λe=>by subst e;exact(Et.1 M).1 B)).trans this.1,this.2⟩
  have i:=R.obj P.1 rfl P.2 (.deferred Z) (D':=D) (pd:=s.pd) (a':={a with defers:=ms.map mV++D.base}) rfl u;exact aA.rm (a:={a with defers:=ms.map mV++D.base}) (W:=W.putObj d (.deferred Z)) i rfl
def ee.rm:∀{ms:ar}{pd:vE}{y:ar}{W:World},ee F D pd y (ms.map mV++D.base) W->ee F D pd y D.base (rm ms W)
 |[],pd,y,W,h=>h
 |d::ms,pd,y,W,h=>by
  obtain⟨L,Q,H,P,N⟩:=h.mu;have G:L=d::ms:=by
   have Q:=aIN Q;have o:∀(l X:ar),l.map mV=X.map mV->l=X:=by
    intro l;induction l with
    |nil=>intro X h;cases X<;>simp at h;rfl
    |cons x m k=>
     intro X h;cases X with
     |nil=>simp at h
     |cons z j=>
      grind [GG,mV,Deferred.mk.injEq,Target.collected.injEq]
   grind
  subst G;have B:=N d aw;refine ee.rm (ms:=ms) (W:=W.putObj d (.deferred Z)) ⟨h.len,h.rW,λn l r A w v=> ?_,h.inj,ms,rfl,λu=>(by have:=H u;cases this),(Et.1 P).2,λt M=> ?_⟩;obtain⟨q,R,p⟩:=h.dI n l r A w v;exact⟨q,(uj (λe=>by subst e;rw[B.1] at R;cases R)).trans R,p⟩;have:=N t (by simp only[cJ,fh];exact .inr M);exact⟨(uj (λe=>by subst e;exact(Et.1 P).1 M)).trans this.1,this.2⟩
end
def SH{P:World->Prop}{B:Nat}(h:∀W b o,B<=b->P W->P (W.putObj b o)):∀{X:ar}{W:World},(∀d∈X,B<=d)->P W->P (rm X W)
 |[],W,_,R=>R|d::X,W,Q,R=>SH (W:=W.putObj d (.deferred Z)) h (λx N=>Q x (by simp[N])) (h W d _ (Q d aw) R)
def rZ{P:Program}{Q:Func}{N:mO}{R:Ending->World->Prop}{u:FrameMode}{M:CF}(L:u≠ .run):∀{X:ar}{W:World},X.Nodup->(∀d∈X,W.heap[d]?=U (.deferred (U [])))->
  LeavesInM Fence.wide 0 P Q N R M u (rm X W)->LeavesInM Fence.wide 0 P Q N R (X.map mV++M) u W
 |[],W,_,_,h=>h
 |d::X,W,F,H,h=>by
  obtain⟨B,A⟩:=Et.1 F;refine⟨L,.inl ⟨d,_,rfl,run_takeDeferred (H d aw),rZ L A (λz G=> ?_) h⟩⟩;exact(uj (λe=>by subst e;exact B G)).trans (H z (by simp[G]))
section
variable{H:ar}{F:World}{D N:bT}{G:Ty}{V:ar}{O:aj}{s:S}{a:Act}{W:World}{pd:vE}{y:ar}{M:CF}
def ee.enter(h:ee F D pd y M W)(X:(t++D.out).Nodup)(R:∀d∈t++D.out,W.heap[d]?=U (.deferred (U []))/\F.heap.size<=d)(Q:Bool):ee F ⟨t++D.out,D.dI,Q,[]⟩ pd y [] W:=
 ⟨h.len,h.rW,h.dI,h.inj,[],rfl,λ_=>rfl,X,R⟩
def ee.NK{R:Bool}(h:ee F ⟨t++D.out,D.dI,R,[]⟩ pd y [] W)(Q:D.rd=J->t=[]):ee F D pd y (t.map mV++D.base) W:=by
 obtain⟨X,P,L,N,M⟩:=h.mu;have:X=[]:=by cases X<;>simp at P;rfl
 subst this;exact⟨h.len,h.rW,h.dI,h.inj,t,rfl,Q,N,M⟩
def ee.push{l:Nat}{r:Loop}(h:ee F D pd y M W)(G:(t++D.out).Nodup)(v:∀X∈t++D.out,W.heap[X]?=U (.deferred (U []))/\F.heap.size<=X)
  (u:W.heap[X]?=U (.deferred (U [])))(B:X∉t++D.out)(q:F.heap.size<=X)(p:W.heap[l]?=U (.loop (sW r .ready)))(o:∀(n:Nat)(R:Nat)(L:Loop),D.dI[n]?=U (R,L)->R≠l)(m:F.heap.size<=l):
  ee F ⟨X::(t++D.out),D.dI++[(l,r)],E,[]⟩ (pd++[.ready]) (y++[l]) [] W:=by
 refine⟨by simp[h.len],by simp[h.rW],λn R L A Q P=> ?_,λn H R z x Q P=> ?_,[],rfl,λ_=>rfl,by simpa using⟨by simpa using B,G⟩,λk j=> ?_⟩;by_cases N:n<Y D.dI;rw[f8 N] at Q;rw[f8 (by rw[<-h.len];exact N)] at P;obtain⟨i,g,f⟩:=h.dI n R L A Q P
 grind
 grind [h.len,h.rW]
 by_cases N:n<Y D.dI;rw[f8 N] at Q;by_cases w:H<Y D.dI;rw[f8 w] at P;exact h.inj n H R z x Q P
 grind
 grind
 grind
def ee.pop{l:Nat}{r:Loop}(h:ee F ⟨X::(t++D.out),D.dI++[(l,r)],E,[]⟩ pd y [] W)(H:D.rd=E):ee F D (pd.take (Y D.dI)) (y.take (Y D.dI)) ((X::t).map mV++D.base) W:=by
 obtain⟨M,G,o,B,A⟩:=h.mu;have:M=[]:=by cases M<;>simp at G;rfl
 subst this;have z:=h.len;have m:=h.rW;simp at z;refine⟨bY,bY,λn N x w R Q=> ?_,λn v N u q R Q=> ?_,X::t,rfl,λL=>(by rw[H] at L;cases L),B,A⟩;have P:=(dq.1 R).1;rw[qg,aH P] at Q⊢;exact h.dI n N x w (by rw[f8 P];exact R) Q;have P:=(dq.1 R).1;have p:=(dq.1 Q).1;exact h.inj n v N u q (by rw[f8 P];exact R) (by rw[f8 p];exact Q)
theorem ee.put{r:Loop}(h:ee F D pd y M W)(H:W.heap[X]?=U (.loop r))(G:∀(n R:Nat)(Q:Loop),D.dI[n]?=U (R,Q)->R≠X)(o:Obj):ee F D pd y M (W.putObj X o):=by
 obtain⟨B,A,z,x,P⟩:=h.mu;refine⟨h.len,h.rW,λn R Q w L v=> ?_,h.inj,B,A,z,x,λd N=>⟨?_,(P d N).2⟩⟩;obtain⟨u,t,q⟩:=h.dI n R Q w L v;exact⟨u,(uj (G n R Q L)).trans t,q⟩;exact(uj (λe=>by subst e;have:=(P d N).1;rw[H] at this;cases this)).trans (P d N).1
def ee.aeI{l:Nat}{r:Loop}(h:ee F D pd y M W)(R:D.dI[X]?=U (l,r))(z:JD):ee F D (pd.set X z) y M (W.putObj l (.loop (sW r z))):=by
 obtain⟨u,t,q,p,L⟩:=h.mu;have x:X<Y pd:=by rw[<-h.len];exact(dq.1 R).1
 have P:∃H,W.heap[l]?=U (.loop H):=⟨_,(h.dI X l r pd[X] R (dG x)).2.1⟩;obtain⟨j,P⟩:=P;refine⟨by simp[h.len],by simp[h.rW],λw o H m N Q=> ?_,h.inj,u,t,q,p,λd G=>⟨?_,(L d G).2⟩⟩;rw[yW] at Q;split at Q;rename_i e;subst e;rw[R] at N;cases N;simp at Q;subst Q;obtain⟨B,v,A⟩:=h.dI X l r pd[X] R (dG x);exact⟨B,avP (EY P),A⟩;rename_i e;obtain⟨B,v,A⟩:=h.dI w o H m N Q;exact⟨B,(uj (λk=>by subst k;exact e (h.inj X w _ _ _ R N))).trans v,A⟩;exact(uj (λe=>by subst e;have:=(L d G).1;rw[P] at this;cases this)).trans (L d G).1
def aod{O:aj}{V:ar}:∀(R:ar)(Q l:aq)(A:mO),A.size=Y l->(∀(t:Nat)(X:C),l[t]?=U X->X=.any\/A[t]?=U (X.ai O V))->
  ((R.zip (C.az O V Q)).foldl (λ(N:mO)(x:Nat×Value)=>N.setIfInBounds x.1 x.2) A).size=(J4 R Q l).length/\
  ∀(t:Nat)(X:C),(J4 R Q l)[t]?=U X->X=.any\/((R.zip (C.az O V Q)).foldl (λ(N:mO)(x:Nat×Value)=>N.setIfInBounds x.1 x.2) A)[t]?=U (X.ai O V)
 |[],Q,l,A,P,h=>by simp only[List.zip_nil_left,List.foldl_nil,J4];exact⟨P,h⟩|p::R,[],l,A,P,h=>by simp only[C.az,List.zip_nil_right,List.foldl_nil,J4];exact⟨P,h⟩
 |p::R,v::M,l,A,P,h=>by
  simp only[C.az,Es,av9,J4];refine aod R M (l.set p v) (A.setIfInBounds p (v.ai O V)) (by simp[P]) (λt X L=> ?_)
  grind
end
section
variable{p:Sp}{cf:bv}
def Ks(bM:Nat->Bool)(X W:Bool):∀(l:qi)(j n i:Nat)(m:OM),(fT bM X W j n l)[i]?=U m->l[i]?=U m.o
 |[],j,n,i,m,h=>by simp[fT] at h|o::r,j,n,0,m,h=>by simp[fT] at h;simp[<-h]|o::r,j,n,i+1,m,h=>by simp[fT] at h;simpa using Ks bM X W r _ _ i m h
def SI(bM:Nat->Bool)(X W:Bool):∀(l:qi)(j n:Nat),(fT bM X W j n l).length=Y l
 |[],j,n=>rfl|o::r,j,n=>by simp[fT,SI bM X W r]
def aeJ(bM:Nat->Bool)(X W:Bool):∀(l:qi)(j n i:Nat)(m:OM),(fT bM X W j n l)[i]?=U m->m.j=j+i
 |[],j,n,i,m,h=>by simp[fT] at h|o::r,j,n,0,m,h=>by simp[fT] at h;simp[<-h]|o::r,j,n,i+1,m,h=>by simp[fT] at h;have:=aeJ bM X W r _ _ i m h;omega
def aeK(bM:Nat->Bool)(W X:Bool):∀(l:qi)(j n i:Nat)(m:OM),(fT bM W X j n l)[i]?=U m->m.dr=X
 |[],j,n,i,m,h=>by simp[fT] at h|o::r,j,n,0,m,h=>by simp[fT] at h;simp[<-h]|o::r,j,n,i+1,m,h=>by simp[fT] at h;exact aeK bM W X r _ _ i m h
structure aoe(m m':OM):Prop where
 o:m.o=m'.o
 ix:m.ix=m'.ix
 j:m.j=m'.j
 dr:m.dr=m'.dr
def aeL{V:ar}:∀{l X:cQ}{m:OM},m∈vN V X l->∃W∈l,aoe m W
 |[],X,m,h=>by simp[vN] at h
 |x::l,X,m,h=>by
  simp only[vN,fh] at h;rcases h with rfl|h;exact⟨x,aw,rfl,rfl,rfl,rfl⟩;obtain⟨W,R,Q⟩:=aeL h
  grind
def aof{X:ar}:∀{l:cQ},CA X l=J->l.Pairwise λx y=>(X.getD y.j 0).testBit x.j=J
 |[],_=>xo
 |x::r,h=>by
  simp only[CA,aC] at h;exact jO.2 ⟨λy W=>gz.1 h.1 y W,aof h.2⟩
def aog{X:ar}:∀{l W:cQ},(l.Pairwise λx y=>(X.getD y.j 0).testBit x.j=J)->(vN X W l).Pairwise λx y=>(X.getD y.j 0).testBit x.j=J
 |[],W,_=>xo
 |x::r,W,h=>by
  obtain⟨V,R⟩:=jO.1 h;refine jO.2 ⟨λy Q=> ?_,aog R⟩;obtain⟨P,O,N⟩:=aeL Q;rw[N.j];exact V P O
def aoh{Q:ar}:∀{l W:cQ}(R:cQ)(m:OM)(X:cQ),vN Q W l=R++m::X->m.so=J->X.Pairwise λx y=>(Q.getD y.j 0).testBit x.j=J
 |[],W,R,m,X,h,_=>by cases R<;>simp[vN] at h
 |x::r,W,[],m,X,h,V=>by
  simp only[vN,da,GG] at h;obtain⟨P,rfl⟩:=h;subst P;simp only[aC] at V;exact aog (jO.1 (aof V.1.2)).2
 |x::r,W,z::O,m,X,h,V=>by
  simp only[vN,cJ,GG] at h;exact aoh O m X h.2 V
def aeM:∀{l:ar},oa l=J->l.Pairwise (·≠·)
 |[],_=>xo
 |x::X,h=>by
  simp only[oa,aC,jP] at h;refine jO.2 ⟨λy W e=> ?_,aeM h.2⟩
  grind
def Xl:∀{l:cQ},oa (l.filterMap (·.o.dst))=J->l.Pairwise λa b=>∀d,a.o.dst=U d->b.o.dst≠U d
 |[],_=>xo
 |x::V,h=>by
  cases X:x.o.dst with
  |none=>
   simp only[avW,X] at h;exact jO.2 ⟨λy _ d W=>(by rw[X] at W;cases W),Xl h⟩
  |some d=>
   simp only[avW,X,oa,aC,jP] at h;refine jO.2 ⟨λy R e W Q=> ?_,Xl h.2⟩
   grind
def aoi{X:dC}{W:ar}:∀{l:cQ},GV X W l=J->l.Pairwise λx y=>(W.getD y.j 0).testBit x.j=J\/vM X x y=J
 |[],_=>xo
 |x::V,h=>by
  simp only[GV,aC] at h;refine jO.2 ⟨λy R=> ?_,aoi h.2⟩
  grind
def aoj{V:dC}:∀{l:cQ}{done:ar},GX V done l=J->(∀m∈l,V[m.j]?=U m.o)->∀X m W,l=X++m::W->∀e∈jo m.o,e∈done\/∃x∈X,x.j=e
 |[],done,_,_,X,m,W,h=>by cases X<;>simp at h
 |x::l,done,R,Q,X,m,W,h=>by
  simp only[GX,aC] at R;intro e P;cases X with
  |nil=>
   grind
  |cons z O=>
   simp at h;obtain⟨rfl,h⟩:=h;rcases aoj R.2 (λm N=>Q m (by simp[N])) O m W h e P with M|⟨y,L,M⟩
   grind
   grind
def aok{X:dC}(h:Wf X.toList t=J):NI X t:=by
 have V:∀(j:Nat)(o:Oper),X[j]?=U o->(∀e∈jo o,e<j)/\∀i,i<X.size->(t.getD j 0).testBit i=J->i∈jo o\/∃e∈jo o,(t.getD e 0).testBit i=true:=by
  intro j o W;have R:j<X.size:=(lF.1 W).1;have Q:=gz.1 h j (by simpa using R)
  grind
 exact⟨λj o W=>(V j o W).1,λj o W=>(V j o W).2⟩
theorem xN(X:ar):∀(l:aq)(n i:Nat),(uz X n l)[i]?=(l[i]?).map λx=>if X.contains (n+i) then .any else x
 |[],n,i=>by simp[uz]|x::W,n,0=>by simp[uz]
 |x::W,n,i+1=>by
  simp only[uz,vC];rw[xN X W (n+1) i,show n+1+i=n+(i+1) from ae]
def NN(X:ar):∀(l:aq)(n:Nat),(uz X n l).length=Y l
 |[],n=>rfl|x::W,n=>by simp[uz,NN X W]
def aol:∀{l:qi}{o:Oper}{t:TypeId},CB cf l=J->o∈l->o.op=.alloc t->J2 cf t=J
 |[],o,t,_,h,_=>by simp at h
 |x::V,o,t,h,X,W=>by
  simp only[CB,aC] at h;rcases fh.1 X with rfl|X
  grind
  exact aol h.2 X W
def aeN:∀{l:cQ},oa ((l.filter λm=>gQ m.o.op).map (·.ix))=J->l.Pairwise λa b=>gQ a.o.op=J->gQ b.o.op=J->a.ix≠b.ix
 |[],_=>xo
 |x::R,h=>by
  by_cases X:gQ x.o.op=J;rw[List.filter_cons_of_pos (by simpa using X),dH,oa,aC] at h;refine jO.2 ⟨λy W _ Q e=> ?_,aeN h.2⟩
  grind
  rw[List.filter_cons_of_neg (by simpa using X)] at h;exact jO.2 ⟨λy W V=>bF V X,aeN h⟩
def ay0(bM:Nat->Bool)(X W:Bool)(V:bm):∀(l:qi){i:Nat}{m:OM},gQ m.o.op=J->(fT bM X W 0 (Y V) l)[i]?=U m->gr (V++eu (mS l) Z) m.ix=true:=by
 have R:∀(l:qi)(j n i:Nat)(m:OM),gQ m.o.op=J->(fT bM X W j n l)[i]?=U m->n<=m.ix/\m.ix<n+mS l:=by
  intro l;induction l with
  |nil=>intro j n i m _ h;simp[fT] at h
  |cons o r Q=>
   intro j n i m P h;have O:mS (o::r)=(if gQ o.op then 1 else 0)+mS r:=by
    grind [mS]
   cases i with
   |zero=>
    grind [fT,Jx]
   |succ i=>
    grind [fT]
 grind [gr]
abbrev aom(p:Sp)(cf:bv)(D:bT)(x:YH)(L:dp)(n:Nat)(B:aq)(s:S)(k A:C->S->T)(O:aj)(V:ar)(a:Act)(W:World)(G:Ending->World->Prop):Prop:=
  (x n B s k A).aM p O L->aA p.S0 p.w0 D cf.ty V O s a W->eB cf.gl O->
  (∀v N X M Q H,bB s O V N X M->cU s.ax L H->aA p.S0 p.w0 D cf.ty M X N a Q->(k v N).aM p X H->G (.returned (v.ai X M)) Q)->
  (∀v N X M Q H,bB s O V N X M->cU s.ax L H->aA p.S0 p.w0 D cf.ty M X N a Q->(A v N).aM p X H->G (.panicked [{v:=v.ai X M,recovered:=E}]) Q)->
  (∀z Q w y,ee p.w0 D w y a.defers Q->p.R (.panicked z) Q->G (.panicked z) Q)->
  ∀(F:Fence)(_:qC F)(m:Nat),YieldAt F m p.P (O.y.getD n 0) (C.az O V B).toArray W G
def qD(p:Sp)(cf:bv)(X:List (Nat×Loop))(B:jF)(R:YH):Prop:=
 ∀(D:bT)(_:X<+:D.dI)(L:dp)(n:Nat)(Q:aq)(s:S)(k P:C->S->T)(O:aj)(V:ar)(a:Act)(W:World)(N:Ending->World->Prop),B.lK s (O.at (O.y.take (Y X))) V L->aom p cf D R L n Q s k P O V a W N
def ay1{D:bT}{Q:Ty}{V:ar}{a:Act}{W:World}(X:aA t e D Q V x R a W):x.at (x.y.take (Y D.dI))=x:=by
 rw[Jt (by rw[X.dl.rW,<-X.dl.len];exact cd _)];cases x;rfl
def qD.use{D:bT}{B:jF}{X:YH}(M:qD p cf D.dI B X){L:dp}{n:Nat}{Q:aq}{s:S}{k P:C->S->T}{O:aj}{V:ar}{a:Act}{W:World}{N:Ending->World->Prop}(H:B.lK s O V L):aom p cf D X L n Q s k P O V a W N:=
 λh R=>M D (List.prefix_refl _) L n Q s k P O V a W N (by rw[ay1 R];exact H) h R
def Fb(X:List (Nat×Loop))(B:jF):qD p cf X B iC:=λ_ _ _ _ _ _ _ _ _ _ _ _ _ _ h=>h.elim
def aoo{F:Fence}(hF:qC F)(ok:jd p cf){n:Nat}{pc:vO}(a0:NH p cf pc){D:bT}{B:jF}{yh:YH}(hY:qD p cf D.dI B yh){Q:Exit->Act->World->Prop}(HP:∀ch l A pd y,ee p.w0 D pd y l.defers A->p.R (.panicked ch) A->Q (.panic ch) l A){G:dC}{u:cQ}{a:Act}{L:dp}{k:XE->S->T}(hB:B.lK R x t L)
  (aa:EJ G (Y R.au)=U u)(a1:CB cf G.toList=J)(a3:CW G pc)(h:(lH cf (uA cf pc yh) G (k .normal) (λv=>k (.bp v)) u (R.vP G u) []).aM p x L)(X:aA p.S0 p.w0 D cf.ty t x R a e)(hg:eB cf.gl x)
  (hk:∀r z g l A f,bB R x t r z g->cU R.ax L f->aA p.S0 p.w0 D cf.ty g z r l A->(k .normal r).aM p z f->Q .normal l A)
  (a4:∀v r z g l A f,bB R x t r z g->cU R.ax L f->aA p.S0 p.w0 D cf.ty g z r l A->(k (.bp v) r).aM p z f->Q (.panic [{v:=v.ai z g,recovered:=E}]) l A):
  wpAnyIn F n p.P .any G Q G.size (QW G.size E) a {e with drawn:=e.drawn+1}:=by
 unfold EJ at aa;simp only at aa;split at aa;rename_i hc;simp only[aC,gc] at hc;obtain⟨⟨⟨⟨⟨⟨⟨c1,c2⟩,c3⟩,c4⟩,c5⟩,c8⟩,c6⟩,c7⟩:=hc;simp at aa;rw[aa] at c2 c3 c4 c5 c6 c7 c8;have af:∀m∈u,∃(i:Nat)(m':OM),(fT (Rp G.toList (qp G.toList)) E J 0 (Y R.au) G.toList)[i]?=U m'/\aoe m m':=by
  intro m q;rw[<-aa] at q;obtain⟨m',h1,h2⟩:=aeL q
  grind [MK]
 have ag:∀m∈u,G[m.j]?=U m.o:=by
  intro m q;obtain⟨i,m',c,w⟩:=af m q;have h1:=Ks _ _ _ _ _ _ _ _ c;have h2:=aeJ _ _ _ _ _ _ _ _ c;rw[w.j,w.o,h2,jk];simpa using h1
 have hW:Sz G (qp G.toList) (QW G.size E) u:=by
  refine⟨ag,λi c=> ?_,aw,λj o ho hj=> ?_,aoi c3,λxs m ys he N hd=> ?_, ?_,Xl c4,λxs m ys he a9=>aoh xs m ys (aa.trans he) a9⟩;constructor;intro _;have:=gz.1 c7 i (by simpa using c)
  grind
  intro _;simp[c];exfalso;have ba:j<G.size:=(lF.1 ho).1;simp[ba] at hj;rcases aoj c2 ag xs m ys he N hd with h1|h1;cases h1
  grind
  have:=aeM c5
  grind
 obtain⟨Rr,ac⟩:=X.room (mS G.toList);have Rb:aA p.S0 p.w0 D cf.ty (t++eu (mS G.toList) 0) x (R.vP G u) a {e with drawn:=e.drawn+1}:=by
  have Rd:=Rr.drew;refine⟨Rd.mem,Rd.gC,Rd.ei,Rd.eb,Rd.er,Rd.dl,by simp only[S.vP,NN];exact Rr.size,λM sv b=> ?_,Rd.eN⟩;simp only[S.vP] at b;rw[xN,jk] at b;cases hx:R.tmps[M]? with
  |none=>rw[hx] at b;cases b
  |some H=>
   rw[hx] at b;simp only[ga,dW] at b;split at b
   grind
   subst b;exact Rd.tmps M H hx
 have al:bB R x t (R.vP G u) x (t++eu (mS G.toList) 0):=⟨ac.ext,ac.mono,ac.len,ac.ax⟩;refine ayL a3 a0 hF ok HP (aok c1) (Kn:=Ho p (k .normal)) (Kp:=E4 p (λv=>k (.bp v))) (Yp:=E5 p cf G pc yh (k .normal) (λv=>k (.bp v))) (s0:=R.vP G u) (O0:=x) (V0:=t++eu (mS G.toList) 0) (L0:=L)
  (λr z g l A f hl hL R' w=>hk r z g l A f (al.trans hl) hL R' w) (λv r z g l A f hl hL R' w=>a4 v r z g l A f (al.trans hl) hL R' w)
  ?_
  G.size _ u (R.vP G u) x _ a _ L c6 hW (λm q=>by
   obtain⟨i,m',c,w⟩:=af m q;rw[w.dr];exact aeK _ _ _ _ _ _ _ _ c) (λm q M b=> ?_) (aeN c8) (.inl ⟨λm q bb=> ?_, ?_⟩) (bB.refl _ _ _) (cU.refl _ _) Rb hg ?_
 intro L2 m bc s2 O2 V2 a2 W2 yn b3 R' hl hL R2 bf bg bk bl br mm;obtain⟨bs,fx,bt,bx⟩:=bg;refine hY.use (hB.go (al.trans hl) hL) bx R2 bf (λv r z g A f an b0 Rn w=> ?_) bl br F hF mm;refine bk v r z g A f an b0 Rn ?_;have ab:=gg r m.o.dst v;refine Km ok.pt bc _ _ z (by rw[ab.1];exact Rn.ei) (by rw[ab.2.1];exact Rn.eb) (by rw[ab.2.2];exact Rn.er) w ?_ bs;intro H hx;obtain⟨b1,b4⟩:=qh.1 hx;obtain⟨hd,ce⟩:=bt H b1;have hE:=an.ext;refine⟨by rw[BE.ef hE.agree _ (by rw[R2.ei,R2.eb,R2.er];exact ce)];exact hd, ?_⟩;rw[ab.1,ab.2.1,ab.2.2,<-Rn.ei,<-Rn.eb,<-Rn.er];exact BE.ey (by rw[<-R2.ei];exact hE.li) (by rw[<-R2.eb];exact hE.lb) (by rw[<-R2.er];exact hE.lr) _ ce;have h1:=ag m q;exact aol a1 (jz (show G.toList[m.j]?=U m.o by simpa using h1)) b;obtain⟨i,m',c,w⟩:=af m q;rw[w.ix];exact ay0 _ _ _ R.au _ (by rw[<-w.o];exact bb) c;intro m q d hd;have b2:d∈GY (u.dropLast.map (·.o)):=QS.2 ⟨m.o,fw.2 ⟨m,q,rfl⟩,hd⟩;unfold zC;simp only[S.vP];rw[xN,jk];cases hx:R.tmps[d]? with
 |none=>exact .inl rfl
 |some H=>
  right;by_cases hb:(alr R (GY (u.dropLast.map (·.o)))).contains d=J
  grind [C.bj]
  refine⟨H,by simp only[ga,hb];rfl, ?_⟩;have ce:H.bd R.ni R.nb (Y R.rs) (aJ R.au)=true:=by
   cases hh:H.bd R.ni R.nb (Y R.rs) (aJ R.au);exfalso;apply hb;exact Ju.2 (qh.2 ⟨b2,by simp[hx,hh]⟩);rfl
  exact C.ey (cd _) (cd _) (cd _) ac.mono _ ce
 refine Km ok.pt u _ [] x Rb.ei Rb.eb Rb.er h (λH hx=>by cases hx) (λm q=> ?_);obtain⟨i,m',c,w⟩:=af m q;rw[w.dr];exact aeK _ _ _ _ _ _ _ _ c;cases aa
def Bb(p:Sp)(cf:bv)(n:Nat):Prop:=
 ∀(D:bT)(B:jF)(z:YH)(H:cG)(G:FuncId)(c:Code)(s:S)(k:XE->S->T)(L:dp)(O:aj)(V:ar)(a:Act)(W:World)(Q:Exit->Act->World->Prop),
  qD p cf D.dI B z->B.lK s O V L->D.rd=H.isSome->(H.isSome=J->kH c=E)->(∃v,p.P.funcs[G]?=U v)->
  (fP cf n G c s z k).aM p O L->aA p.S0 p.w0 D cf.ty V O s a W->eB cf.gl O->
  (∀x N X u y,ee p.w0 D u y N.defers X->p.R (.panicked x) X->Q (.panic x) N X)->
  (∀e F M A N X w,bB s O V F M A->cU s.ax L w->aA p.S0 p.w0 D cf.ty A M F N X->(k e F).aM p M w->Q (e.to M A) N X)->
  jQ H G p.P c Q a W
def Xm(p:Sp)(cf:bv)(n:Nat):Prop:=
 ∀(D:bT)(B:jF)(z:YH)(G:cG)(M:FuncId)(x:Code)(s:S)(k:XE->S->T)(L:dp)(O:aj)(V:ar)(a:Act)(W:World)(Q:Exit->Act->World->Prop),
  qD p cf D.dI B z->B.lK s O V L->D.rd=G.isSome->(G.isSome=J->kH x=E)->(∃u,p.P.funcs[M]?=U u)->
  (∀t,(Code.first x).map (cf.loop M)≠U (.inv t))->
  (fP cf n M (.loop x) s z k).aM p O L->aA p.S0 p.w0 D cf.ty V O s a W->eB cf.gl O->
  (∀w N X r y,ee p.w0 D r y N.defers X->p.R (.panicked w) X->Q (.panic w) N X)->
  (∀e F H A N X v,bB s O V F H A->cU s.ax L v->aA p.S0 p.w0 D cf.ty A H F N X->(k e F).aM p H v->Q (e.to H A) N X)->
  SC G M p.P x Q n a W
def ay2{F:Fence}(j:qC F)(o:jd p cf){r:vO}(i:NH p cf r){D:bT}{B:jF}{m:YH}(g:qD p cf D.dI B m){Q:Exit->Act->World->Prop}(HP:∀l H M f y,ee p.w0 D f y H.defers M->p.R (.panicked l) M->Q (.panic l) H M){z:dC}{id:Nat}{q:cQ}{a:Act}{L:dp}{k:XE->S->T}(d:B.lK R x t L)
  (c:EJ z (Y R.au)=U q)(b:CB cf z.toList=J)(aa:CW z r)(h:(lH cf (uA cf r m) z (k .normal) (λv=>k (.bp v)) q (R.vP z q) []).aM p x L)(N:aA p.S0 p.w0 D cf.ty t x R a e)(hg:eB cf.gl x)
  (hk:∀A G w H M u,bB R x t A G w->cU R.ax L u->aA p.S0 p.w0 D cf.ty w G A H M->(k .normal A).aM p G u->Q .normal H M)
  (ab:∀v A G w H M u,bB R x t A G w->cU R.ax L u->aA p.S0 p.w0 D cf.ty w G A H M->(k (.bp v) A).aM p G u->Q (.panic [{v:=v.ai G w,recovered:=E}]) H M):
  (Code.region id z J).wpIn F X p.P Q a e:=
 wpIn_region_any o.Xa (aoo j o i g HP d c b aa h N hg hk ab)
def ay3(c:Bb p cf X)(b:Xm p cf X):Xm p cf (X+1):=by
 intro D B m q o x s k L O V a W Q l j i g f aa h R d HP F;unfold fP at h;simp only at h;show jQ q o p.P x _ a W;refine c D B m q o x s _ L O V a W _ l j i g f h R d (λch M H pd y hd hR=>HP ch M H pd y hd hR) ?_;intro e A z w M H u N G t r;cases e with|normal=>exact b D B m q o x A k u z w M H Q l (j.go N G) i g f aa r t (d.ext N.ext) HP (λe2 s2 O2 V2 a2 W2 L2 ab ac R2 af=>F e2 s2 O2 V2 a2 W2 L2 (N.trans ab) (G.trans ac N.ax) R2 af)|ret=>exact F .ret A z w M H u N G t r|exit id=>exact F (.exit id) A z w M H u N G t r|bp v=>exact F (.bp v) A z w M H u N G t r
def aA.back{D w:bT}{V M:ar}{N:aj}{G L:S}{a v:Act}{W H:World}(X:aA t e D cf.ty V x R a W)(u:R.bd=J)
  (r:bB G x V L N M)(q:G.au=R.au)(P:aA t e w cf.ty M N L v H){D2:bT}{a2:Act}{F:vE}(B:a2.tmps=a.tmps)(o:ee e D2 F N.y a2.defers H):aA t e D2 cf.ty M N {L with tmps:=R.tmps,pd:=F} a2 H:=by
 obtain⟨n,-⟩:=X.zw u;refine⟨P.mem,P.gC,P.ei,P.eb,P.er,o,by rw[B];exact X.size,λQ m h=> ?_,P.eN⟩;rw[B];rcases X.tmps Q m h with A|A
 grind
 right;have z:=r.ext;rw[q] at z;rw[z.ai (xG n h)];exact A
def aA.enter{D N:bT}{V:ar}{a:Act}{W:World}(X:aA t e D cf.ty V x R a W)(P:aq)(n:Nat)(L:ee e N R.pd x.y [] W):
  aA t e N cf.ty V x {R with tmps:=P++eu (n-Y P) (.bH [])} {tmps:=(C.az x V P).toArray++QW (n-(C.az x V P).toArray.size) undef,defers:=[]} W:=by
 refine⟨X.mem,X.gC,X.ei,X.eb,X.er,L,aw,λQ G h=> ?_,X.eN⟩;right;simp;by_cases M:Q<Y P;rw[f8 M] at h;rw[aIK (by simpa using M)];simp[uC,h];rw[ji ae,Vv] at h;split at h;rename_i H;cases h;rw[Array.getElem?_append_right bY];simp only[Mn,MY,aIO];rw[aH H];rfl;cases h
def Kt(N:jd p cf)(hC:Bb p cf X){D:bT}{B:jF}{yh:YH}(hY:qD p cf D.dI B yh):Si p cf D B (kw cf (λf c s k=>fP cf X f c s yh k) yh):=by
 intro L g0 x s k kp O V a W w G h R A i ab b;cases g0 with
 |yl yn=>exact λF hF m=>hY.use G h R A i ab b F hF m
 |fn g=>
 unfold kw at h;simp only at h;split at h;rename_i c nt rs aa;refine⟨N.zA g (.inr (by rw[aa];rfl)), ?_⟩;split at h;rename_i hb;simp only[S.eV,aC] at hb;obtain⟨fn,hf,af,ag,bZ⟩:=N.inl g c nt rs aa;refine Kq hf af ?_;obtain⟨ms,m1,m0,m2,m3⟩:=R.dl.mu;have RE:=R.enter x nt (R.dl.enter m2 m3 E);rw[<-ag] at RE h;have al:B.lK {s with tmps:=x++eu (fn.ntmps-Y x) (.bH [])} O V L:=⟨⟨G.later.ext,G.later.mono,G.later.len,G.later.ax⟩,G.Kj⟩;refine hC ⟨ms++D.out,D.dI,E,[]⟩ B yh Z g c _ _ L O V _ W _ hY al rfl (λhh=>by cases hh) ⟨fn,hf⟩ h RE A ?_ ?_;intro ch M o pd y hA hR;obtain⟨an,z,q0,j,u⟩:=hA.mu;rw[z] at hA;have t:=(hA.rm).NK m0;rw[<-m1] at t;show LeavesInM Fence.wide 0 p.P fn M.tmps w M.defers (.panicking ch) o;rw[z];exact rZ aw (xp.1 j).1 (λd H=>(u d (by simp[H])).1) (b ch _ pd y t (SH (N.Xb ch) (λd H=>(u d (by simp[H])).2) hR));intro e s' O' V' M o L' r hL RR Q;have a0:bB s O V {s' with tmps:=s.tmps} O' V':=⟨r.ext,r.mono,r.len,r.ax⟩;obtain⟨an,z,q0,j,u⟩:=RR.dl.mu;have R2:=RR.rm z;have t:=R2.dl.NK m0;rw[<-m1] at t;have RB:=R.back hb.1 r rfl R2 (D2:=D) (a2:=a) rfl t;have ac:∀l,uw cf s' rs=U l->(k (one l) {s' with tmps:=s.tmps}).aM p O' L'->LeavesInM Fence.wide 0 p.P fn M.tmps w M.defers .returning o:=by
  intro l q Q;rw[z];refine rZ aw (xp.1 j).1 (λd H=>(u d (by simp[H])).1) ⟨_,Kk R2 N.kK (by rw[bZ];exact q), ?_⟩
  grind
 cases e with
 |normal=>
  simp only[ML] at Q;split at Q;rename_i l q;exact ac l q Q;exact Q.elim
 |ret=>
  simp only[ML] at Q;split at Q;rename_i l q;exact ac l q Q;exact Q.elim
 |bp v=>
  show LeavesInM Fence.wide 0 p.P fn M.tmps w M.defers (.panicking _) o;rw[z];exact rZ aw (xp.1 j).1 (λd H=>(u d (by simp[H])).1) (ab v _ O' V' _ L' a0 hL RB Q)
 |exit id=>exact Q.elim
 exact h.elim;rename_i aa;split at h;exact ax5 N.pt (λg A=>N.zA g (.inl A)) D L g _ x s k O V a W w h R i;exact ana N.pt (λg A=>N.zA g (.inl A)) D L g x s k O V a W w h R i b
def ay4(b:Bool)(H:jd p cf){D:bT}{B:jF}{G:ql}(F:Si p cf D B G):Si p cf D B (acQ b cf G):=by
 intro L x Q s k A O V a W P z h R X N y M;cases x with
 |yl w=>exact F L (.yl w) Q s k A O V a W P z h R X N y M
 |fn g=>
  cases b with|false=>exact F L (.fn g) Q s k A O V a W P z h R X N y M|true=>exact ana H.pt (λg X=>H.zA g (.inl X)) D L g Q s k O V a W P h R N M
end
