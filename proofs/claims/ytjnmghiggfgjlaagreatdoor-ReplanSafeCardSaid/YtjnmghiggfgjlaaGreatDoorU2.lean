/- Part 2. -/
import Derived.Test.YtjnmghiggfgjlaaGreatDoorU1
import Derived.Maps.RangeRun
import Derived.RangeFuncSeq
import Derived.StillTailTactics
import Derived.RangeFuncIn
import Derived.RangeFuncLeaves
import Derived.LoopNIn
import Derived.LoopIn
set_option linter.all false
set_option maxRecDepth 100000
set_option maxHeartbeats 100000000
open Bool renaming and_eq_true->aC,false_eq_true->iZ,not_eq_true'->jT,or_eq_true->lq,or_eq_false_iff->yT,and_self->Cm,eq_iff_iff->JB,not_eq_false->Mp,true_and->Mu,and_true->VN,or_eq_true_iff->av2,true_eq_false->aJi,true->J,false->E
open Nat renaming le_refl->cd,zero_add->jp,blt->kz,le_trans->mg,zero_le->rP,add_zero->yX,le_of_eq->GK,testBit_or->JD,lt_of_lt_of_le->QW,strongRecOn->QZ,add_sub_cancel_left->Vw,lt_succ_self->VF,testBit_shiftLeft->avY
open List renaming cons_append->cG,nil_append->cX,getD_eq_getElem?_getD->di,range->dj,getElem?_eq_some_iff->du,getElem?_eq_getElem->dv,map_cons->dH,getElem?_map->ep,replicate->ew,mem_cons->ey,mem_append->fc,mem_map->fo,getElem?_append_left->fO,length_append->fT,all_eq_true->gC,getElem?_append_right->jo,mem_of_getElem?->jD,pairwise_cons->jS,map_congr_left->ky,ext_getElem?->kX,any_eq_true->nF,length_cons->n9,pairwise_append->oD,map_nil->oE,length_map->oW,map_map->oX,length_eq_one_iff->pI,getElem?_take->pJ,mem_filter->qj,mem_range->rO,getElem?_of_mem->sP,eq_nil_of_length_eq_zero->ui,getElem?_cons_succ->vw,getElem?_drop->xj,nodup_append->xk,length_eq_zero_iff->yS,getElem?_set->yU,range'->yY,mem_cons_of_mem->AI,getElem?_set_ne->AJ,drop_eq_getElem_cons->Cg,getElem?_cons_zero->Ch,length_drop->Cj,getElem?_eq_none_iff->Em,mem_of_mem_drop->En,mem_append_left->Eo,getElem?_range->Ep,zip_cons_cons->Es,nodup_cons->Eu,mem_of_mem_take->GH,map_append->GJ,take_of_length_le->Jv,contains_iff_mem->Jw,take_append_drop->Jx,append_nil->JC,mem_or_eq_of_mem_set->Mo,size_toArray->Mq,length_take->Mr,mem_filterMap->QX,mem_of_find?_eq_some->Vu,getElem?_replicate->Vv,range_eq_range'->Vz,mem_singleton->VC,mem_cons_self->VD,all_cons->VL,drop_of_length_le->acj,getElem?_set_self->ack,replicate_one->acp,range'_succ->acq,foldl_cons->acr,find?_some->acs,of_mem_zip->acu,sublist_cons_self->akZ,mem_append_right->ak1,map_set->alc,take_append_of_le_length->avS,drop_append_of_le_length->avT,getElem?_zip_eq_some->avU,drop_eq_nil_of_le->avV,mem_erase_of_ne->av1,filterMap_cons->av3,length_set->awl,mapM_cons->awr,any_map->awv,Sublist->aww,dropLast_append_of_ne_nil->aIQ,append_eq_append_iff->aIW,append_cancel_right->aIX,dropLast_sublist->aI5,getElem?_append->aI8,set_cons_zero->aJh,append_of_mem->aJj,length->Y
open Go.Result renaming andThen_ok->dC
open Go.Sem renaming run_bind->dD,run_pure->fy
open Option renaming map_some->ga,isSome_iff_exists->jC,getD_some->yV,isNone_iff_eq_none->akX,bind_some->ak6,getD_none->awf,some->U,none->Z
open Go.Op renaming operands->io,equalIn->Ew,equal->GM
open Array renaming getElem?_eq_some_iff->lL,ext'->nH,toList_map->yW,getElem?_eq_getElem->Mn,replicate->Q0,getElem?_setIfInBounds_ne->aIP,getElem?_append_left->aIT,mapM_eq_mapM_toList->aIV,getElem?_replicate->aIY,mem_toList_iff->aI9,mem_filter->aJq
open Go.Region renaming wanted->lM,ready->ul,binds->awu
open Go.World renaming cell?->oF,putObj_heap_other->uj,putObj->Mv,putObj_heap_same->avW
open Int renaming toNat_natCast->rN
open List.Pairwise renaming nil->vx
open Go.Oper renaming semAt_eq->AK,uponIn_enter->VE,uponIn_round->awb
open Go.Call renaming operands->Cl
open List.cons renaming injEq->Et
open Option.some renaming injEq->JA
open Prod.mk renaming injEq->JE
open List.Sublist renaming append->ak2,refl->ak4
open Go.IntKind renaming i64->I
namespace Go.Proofs.YtjnmghiggfgjlaaGreatDoor.Y
open Go.RowKit
noncomputable section
variable{v:TypeId}{h:aq}{X:Nat}{x:aj}{t:ar}{e:World}{R:S}{b:OM}{r:C}{l:Oper}
section
variable{c:ar}{q:World}{D:bU}{P:Program}{f:bv}{V:ar}{O:aj}{s:S}{a:Act}{W:World}
def amz{X:Type}(l:List X)(x y:X):(l++[x]).set (Y l) y=l++[y]:=by
 induction l with|nil=>rfl|cons z Q R=>simp[R]
theorem aA.AQ(R:aA c q D f.ty V O s a W)(L:s.bd=J){t:TypeId}{X:aq}(v:C.dQ s.ni s.nb (Y s.rs) (aL s.au) X=J):
  aA c q D f.ty (V++[W.heap.size]) O (s.AQ (t,X)) a (W.alloc (j9 t (C.bL O V X)))/\bC s O V (s.AQ (t,X)) O (V++[W.heap.size]):=by
 obtain⟨H,u⟩:=R.room 1;have r:(s.room 1).au.length=Y s.au+1:=by simp[S.room]
 have G:gt (s.room 1).au (Y s.au)=true:=by simp[gt,S.room]
 have ce:(s.room 1).eX X=true:=by
  simp only[S.eX,S.bd,aC] at L⊢;have p:aL (s.room 1).au=aL s.au:=by
   grind [aL,bT,S.room,acp]
  have o:∀Q,C.rU s.ni s.nb (Y s.rs) Q (s.au++[Z])=C.rU s.ni s.nb (Y s.rs) Q s.au:=by
   intro Q;generalize s.au=l;induction l with|nil=>rfl|cons x n F=>cases x<;>simp[C.rU,F]
  grind [S.room,acp]
 have N:=H.alloc G t X ce;have B:(V++ew 1 0).set (Y s.au) W.heap.size=V++[W.heap.size]:=by
  rw[<-R.gE,acp];exact amz _ _ _
 have A:C.bL O (V++ew 1 0) X=C.bL O V X:=by
  apply alN
  grind [ad,acp]
 rw[B,A] at N;have z:({((s.room 1).cY (Y s.au) t X) with lk:=s.lk}:S)=s.AQ (t,X):=by
  simp only[S.cY,S.room,S.AQ,acp,amz]
 have M:=N.lk s.lk;rw[z] at M;refine⟨M,⟨⟨jg.refl _ _ _ _,cd _,cd _,cd _,λk y=> ?_⟩,λi m=> ?_,by simp[S.AQ],cd _⟩⟩;have:k<Y V:=by
  obtain⟨b,w⟩:=jC.1 y;rw[R.gE];exact(du.1 (kC.1 w)).1
 grind [ad]
 grind [aL,bT,S.AQ]
def aA.WO(R:aA c q D f.ty V O s a W){i:Nat}{Q:TypeId}{y cs':aq}(N:bP s.au i=U (Q,y)):
  aA c q D f.ty V O (s.cY i Q cs') a (W.putObj (ad V i) (j9 Q (C.bL O V cs'))):=by
 have x:=R.mem.box i Q y N;have u:ad V i<W.heap.size:=EZ x;have w:i<Y s.au:=(du.1 (kC.1 N)).1;have L:aL s.au i=true:=by simp[aL,N]
 have H:∀j,aL (s.au.set i (U (Q,cs'))) j=J->aL s.au j=true:=λj X=>by
  rcases(qD w).1 X with rfl|h;exact L;exact h
 have G:∀b,b≠ad V i->(W.putObj (ad V i) (j9 Q (C.bL O V cs'))).heap[b]?=W.heap[b]?:=λb h=>uj h
 refine⟨⟨⟨R.mem.base.os,R.mem.base.tape,R.mem.base.output,by simpa[Mv] using R.mem.base.size,λk F r=> ?_⟩,λj X=>R.mem.own j (H j X),λj k X F=>R.mem.inj j k (H j X) (H k F),λj M p X=> ?_,λk e B n m=> ?_⟩,by simpa[S.cY] using R.gE,R.ei,R.eb,R.er,R.dm.axk (λb o A l=> ?_),R.size,R.tmps,λk e B b g d q3=> ?_⟩;have aa:k≠ad V i:=by
  rintro rfl;rcases R.mem.own i L with h|h;omega
  grind
 rw[G k aa];exact R.mem.base.block k F r;by_cases z:j=i;subst z;rw[S.cY,E2 w] at X;simp at X;obtain⟨rfl,rfl⟩:=X;exact avW u;rw[S.cY,xG z] at X;rw[G _ (λh=>z (R.mem.inj j i (by simp[aL,X]) L h))];exact R.mem.box j M p X;obtain⟨ab,v⟩:=R.mem.ak k e B n m;exact⟨ab.Kf (λb N=>G b (λh=>v b N i L h.symm)) aw,λb N j X=>v b N j (H j X)⟩;rw[G b (λe=>by subst e;rw[x] at A;cases A;exact amg l _ _ rfl)];exact A;have t:=R.eP k e B b g d q3;have M:=t.world (W':=W.putObj (ad V i) (j9 Q (C.bL O V cs'))) (G b (λh=>t.box i L h.symm));exact⟨M.own,M.mem,λj X=>M.box j (H j X),M.alone,M.inner⟩
def aA.ad0(R:aA c q D f.ty V O s a W){i:Nat}{cs':aq}(X:bP s.au i=U (v,h))(_:∀Q N M,j9 v (C.bL O V h)≠ .cells Q N M):
  aA c q D f.ty V O (s.cY i v cs') a (W.putObj (ad V i) (j9 v (C.bL O V cs'))):=R.WO X
def A7(L:bA)(X:Value×Value):uo->uo
 |[]=>[X]|p::r=>if zu p.1=L then X::r else p::A7 L X r
theorem amA:∀{l:uo}{m:Nat}{p:Value×Value},gD m (l++[p])=gD m l++[⟨p.1,p.2,m+Y l⟩]
 |[],m,p=>by simp[gD]
 |x::r,m,p=>by
  simp only[cG,gD,amA (l:=r) (m:=m+1) (p:=p)];simp;omega
def amB{L:bA}{kv:Value×Value}:∀{l:uo}{m i:Nat},
  (pm L (gD m l) i=Z/\A7 L kv l=l++[kv])\/∃j v p,pm L (gD m l) i=U (i+j,v)/\(gD m l)[j]?=U ⟨p.1,p.2,m+j⟩/\p∈l/\zu p.1=L/\(A7 L kv l).length=Y l/\gD m (A7 L kv l)=(gD m l).modify j λe=>{e with key:=kv.1,val:=kv.2}
 |[],m,i=>.inl ⟨rfl,rfl⟩
 |p::r,m,i=>by
  simp only[gD,pm,A7];by_cases h:zu p.1=L;right;rw[aH h,aH h];exact⟨0,p.2,p,rfl,rfl,aw,h,aw,by simp[gD]⟩;rw[aJ h,aJ h];rcases amB (l:=r) (m:=m+1) (i:=i+1) with⟨X,R⟩|⟨j,v,Q,X,R,N,M,H,G⟩;exact .inl ⟨X,by rw[R];rfl⟩;refine .inr ⟨j+1,v,Q,by rw[X];congr 2;omega,by simp only[vw,R];congr 2;omega,by simp[N],M,by simp[H], ?_⟩;simp only[gD,G,List.modify_succ_cons]
theorem axE(X:Bool)(l:bA):Instr.sameBits 10000 (gT X l) (gT X l)=true:=by
 cases X;simp[gT,Instr.sameBits];show Instr.sameBits (9999+1) (.agg _) (.agg _)=J;simp only[Instr.sameBits,beq_self_eq_true,Mu,gC]
 grind [Es,Instr.sameBits]
def amC{k e:TypeId}{N:Bool}(A:P.underlying v=U (.map k e))(H:vQ P k X N){b:Nat}{l:uo}(G:W.heap[b]?=U (rh l)){L:bA}(z:Y L=X)
  (y:∀p∈l,∃Q:bA,Y Q=X/\p.1=gT N Q)(R:Value):
  (Instr.mapUpdate v (.map (U b)) (gT N L) R).run P W=.ok () (W.putObj b (rh (A7 L (gT N L,R) l))):=by
 have r:∀x∈gD 0 l,∃Q:bA,Y Q=X/\x.key=gT N Q:=λx q=>by
  obtain⟨p,M,F⟩:=adC q
  grind
 obtain⟨h,g⟩:=H.2 L (gD 0 l) W z r;have f:=MapKept.run_getObj_map (P:=P) (w:=W) G;have hs:=λo=>MapKept.run_setObj_map (P:=P) (w:=W) o G
 simp only[Instr.mapUpdate,dD,eZ.gY A,dC,f,h,g];rcases amB (L:=L) (kv:=(gT N L,R)) (l:=l) (m:=0) (i:=0) with⟨M,F⟩|⟨j,u,p,M,F,d,B,h5,h6⟩
 grind [Mv,rh,amA]
 rw[M];obtain⟨Q,c,q2⟩:=y p d;have hl:Q=L:=by
  rw[q2,adA (λe=>c.trans (H.1 e))] at B;exact B
 subst hl;have aa:(((gD 0 l).toArray[0+j]?).map (·.key)).getD (gT N Q)=gT N Q:=by
  grind
 simp only[jp] at aa⊢
 grind [Instr.keyThatStays,axE,fy,dC,dD,Mv,rh]
end
def vT(O:aj)(X:Fx):Prop:=∀x∈X,x.1.ai O=x.2
theorem WP{N:Fx}(h:vT x N){b:BE}{v:Bool}(R:Rl N b=U v):b.ai x=v:=by
 unfold Rl at R;split at R;cases R;simp[BE.ai];cases Q:N.find? (λX=>X.1.aR b) with
 |none=>rw[Q] at R;cases R
 |some X=>
  rw[Q] at R;cases R;have M:=acs Q;rw[<-BE.bX _ _ M];exact h X (Vu Q)
def amD{Q:Fx}(h:vT x Q){b:BE}{v:Bool}(N:b.ai x=v):vT x ((b,v)::Q):=by
 intro X R;rcases ey.1 R with rfl|R;exact N;exact h X R
def Km{D:bU}{H:Ty}{a:Act}{W:World}{N:aj}{V:ar}{M:Fx}(X:aA t e D H V x R a W)(G:jg x N (Y x.i) (Y x.b) (Y x.r))(h:vT x M):vT N (qr R M):=by
 intro Q F;obtain⟨B,L⟩:=qj.1 F;rw[<-X.ei,<-X.eb,<-X.er] at L;rw[BE.eh G _ L];exact h Q B
section
variable{f:bv}
def aA.drew{g:ar}{w:World}{D:bU}{V:ar}{O:aj}{s:S}{a:Act}{W:World}(R:aA g w D f.ty V O s a W):aA g w D f.ty V O s a {W with drawn:=W.drawn+1}:=
 ⟨⟨R.mem.base.drew,R.mem.own,R.mem.inj,R.mem.box,λk e X Q N=>⟨(R.mem.ak k e X Q N).1.Kf (λ_ _=>rfl) (cd _),(R.mem.ak k e X Q N).2⟩⟩,R.gE,R.ei,R.eb,R.er,R.dm.world (λ_ _ h _=>h),R.size,R.tmps,λk e X b Q N M=>(R.eP k e X b Q N M).world rfl⟩
end
section
variable{g:ar}{w:World}{D:bU}{P:Program}{f:bv}{V:ar}{O:aj}{s:S}{a:Act}{W:World}
def aA.amE(R:aA g w D f.ty V O s a W)(N:s.bd=J)(j:Int):aA g w D f.ty V (O.add (.i j)) {s with ni:=s.ni+1} a W:=by
 obtain⟨M,L⟩:=R.zv N;have Q:=tu s.au O (.i j) V;refine⟨⟨R.mem.base,R.mem.own,R.mem.inj,λi t H h=> ?_,R.mem.ak⟩,R.gE,by simp[aj.add,R.ei],R.eb,R.er,R.dm,R.size,λt G h=> ?_,λk e F b X B A=> ?_⟩;rw[Q.bL (tq L h)];exact R.mem.box i t H h;rcases R.tmps t G h with X|X
 grind
 right;rw[Q.ai (xD M h)];exact X;have t:=R.eP k e F b X B A;exact⟨t.own,t.mem,t.box,t.alone,t.inner⟩
def aA.amF(R:aA g w D f.ty V O s a W)(M:s.bd=J){Q:Sh}{N:RV}(L:bG W f.ty (.mr Q) N):aA g w D f.ty V (O.add (.r N)) {s with rs:=s.rs++[.mr Q]} a W:=
 R.add M L (λb X=>by cases X) (λk e F b _ _ _ X=>by
  rcases X with X|⟨⟨t,H⟩,_⟩;cases X;cases H) (λe b G=>by cases G)
def amG{M:Sh}{Q:av}(h:∀X∈Q,Kd f.ty M X)(H:∀c∈bJ f.ty (.mr M),oc c=J):bG W f.ty (.mr M) (.mk (.slice Z (Y Q) (Y Q)) Q):=by
 refine bG.mr M Q (λi X R=>(h X (jD R)).len) (λi j X c k R L N=>(h X (jD R)).int j c k L N) (λi j X c R L N=>(h X (jD R)).bool j c L N) (λi j X c z k R L N=> ?_);have:=H _ (jD N);simp[oc] at this
def ad1{n:Nat}{X x:aE}:∀{R:av},x∈iF n X R->x=X\/x∈R
 |[],h=>by simp[iF] at h;exact .inl h
 |r::Q,h=>by
  simp only[iF] at h;split at h
  grind
  rcases ey.1 h with h|h
  grind
  rcases ad1 h with h|h
  grind
  grind
def amH{n:Nat}{X:aE}:∀{rows:av},(∀r∈rows,mq n ((X.take n).map λc=>bn c.val) r=E)->iF n X rows=rows++[X]
 |[],_=>rfl
 |r::R,h=>by
  simp only[iF];rw[aJ (by rw[h r aw];simp),amH (rows:=R) (λx Q=>h x (AI _ Q))];rfl
def amI{n:Nat}{X va:Bool}(Q:X=E->n=1){R:aE}(M:Hd n R){L:bA}(H:(R.take n).map (λc=>bn c.val)=L):∀{N:av},(∀r∈N,Hd n r)->
  A7 L (xC n X va R) (N.map (xC n X va))=(iF n R N).map (xC n X va)
 |[],_=>rfl
 |r::v,h=>by
  obtain⟨l,F,B,A⟩:=RY (ag:=X) Q (h r aw);have u:Y L=n:=by
   obtain⟨t,q,p⟩:=M
   grind
  have z:mq n L r=decide (l=L):=by
   simp only[mq,A];rw[Jv ae]
  simp only[dH,A7,iF,H,z];have y:zu (xC n X va r).1=l:=by
   simp only[xC,B];exact adA (λe=>F.trans (Q e))
  rw[y];by_cases G:l=L;simp[G];simp only[G,jE,decide_false,iZ,dH];rw[amI Q M H λx w=>h x (by simp[w])]
def axF(t:TypeId):(Instr.makeMap t Z).run P W=.ok (.map (U W.heap.size)) (W.alloc (.map #[] 0)):=by
 simp[Instr.makeMap]
def axG(X:aA g w D f.ty V O s a W)(B:b.o.op=.makeMap v Z)(h:VX f b.o.dst s v=U R):
  ∃Q L H,tw P b.o a W Q L/\aA g w D f.ty H O R (a.put b.o.dst Q) L/\bC s O V R O H:=by
 unfold VX at h;split at h;rename_i k e n N am q u;split at h;rename_i M r;split at h;rename_i G;simp only[aC] at G;cases h;have A:C.dQ s.ni s.nb (Y s.rs) (aL s.au) (JU M n N).2=true:=by
  unfold JU;split<;>simp[C.i8,C.bj,RE.bj,K.bj,BE.bj]
 obtain⟨F,z⟩:=X.AQ G.1 (t:=(JU M n N).1) A;have y:j9 (JU M n N).1 (C.bL O V (JU M n N).2)=.map #[] 0:=by
  unfold JU;split;rw[He];simp[RE.rv,rh,gD];rw[Hf];simp[C.az,ET,rh,gD]
 rw[y] at F;refine⟨.map (U W.heap.size),W.alloc (.map #[] 0),V++[W.heap.size],.inl ?_, ?_,z.put _ _⟩;simp[execOp,B,axF];have:=F.put b.o.dst (.mp (Y s.au));have x:ad (V++[W.heap.size]) (Y s.au)=W.heap.size:=by simp[ad,<-X.gE]
 rw[C.ai,x] at this;exact this;cases h;cases h;cases h
def WQ{k e:TypeId}{n:Nat}{R:Bool}{X:TI}{Q:aq}{r:RE}(h:Cw f s k e n R X Q=U r):
  Q=[.ak r,.int I (.c (n:Int)),.bool (.c R),.bool (.c X.d.isAgg)]/\r.pK f.ty s ⟨k,e,n,R,X.d.isAgg⟩=J/\X.am.all oc=true:=by
 unfold Cw at h
 grind
def amJ{R:Bool}{x y z:K}(h:JM X R r=U (x,y,z)):r.cells.map (C.cj O)=([x.ai O,y.ai O,z.ai O].take X).map λu=>.mk (.int I u) []:=by
 unfold JM at h;split at h<;>first|(cases h;done)|(split at h<;>first|(cases h;done)|skip)
 all_goals
  rename_i Q;cases h;simp at Q
  grind [C.cells,C.cj]
def ad2:∀{am:eN}{l:aq},nN f.ty s am l=J->am.all oc=J->Y l=Y am/\(∀(j:Nat)(k:IntKind),am[j]?=U (.int k)->∃x,(l.map (C.cj O))[j]?=U (.mk (.int k x) []))/\(∀(j:Nat),am[j]?=U .bool->∃x,(l.map (C.cj O))[j]?=U (.mk (.bool x) []))/\(l.map (C.cj O)).map RV.val=C.az O V l
 |[],[],_,_=>⟨rfl,λj k h=>by simp at h,λj h=>by simp at h,rfl⟩|[],_::_,h,_=>by simp[nN] at h|_::_,[],h,_=>by simp[nN] at h
 |c::am,v::l,h,Q=>by
  simp only[nN,aC] at h;simp only[VL,aC] at Q;obtain⟨N,H,G,M⟩:=ad2 (am:=am) (l:=l) h.2 Q.2;have R:=h.1;unfold uu at R;split at R;rename_i k F e;have:k=F:=GN R;subst this;refine⟨by simp[N],λj L X=> ?_,λj X=> ?_,by simp[C.az,C.cj,C.ai,M]⟩;cases j with|zero=>simp at X;subst X;exact⟨e.ai O,rfl⟩|succ j=>simpa using H j L (by simpa using X)
  grind
  rename_i b;refine⟨by simp[N],λj L X=> ?_,λj X=> ?_,by simp[C.az,C.cj,C.ai,M]⟩
  grind
  cases j with|zero=>exact⟨b.ai O,rfl⟩|succ j=>simpa using G j (by simpa using X)
  simp[oc] at Q;cases R
def axH{e:TypeId}{H:Bool}{M:TI}(l:ur f.ty v X H=J)(i:f.ty e=U M)(h:M.am.all oc=J){R:C}{x y z:K}(F:JM X H r=U (x,y,z))(g:nN f.ty s M.am R.cells=J):
  Kd f.ty ⟨v,e,X,H,M.d.isAgg⟩ ((r.cells++R.cells).map (C.cj O)):=by
 obtain⟨b,B,A,w⟩:=Na (va:=M.d.isAgg) l i;obtain⟨q1,q2,q3,-⟩:=ad2 (O:=O) (V:=[]) g h;have aa:=(adB (O:=O) (V:=[]) F).2;have t:=amJ (O:=O) F;have q:(r.cells.map (C.cj O)).length=X:=by rw[t];simpa using aa
 have p:∀(j:Nat),((r.cells++R.cells).map (C.cj O))[j]?=if j<X then(r.cells.map (C.cj O))[j]? else(R.cells.map (C.cj O))[j-X]?:=by
  intro j;rw[GJ,aI8,q]
 have o:∀(j:Nat),(bJ f.ty (.mr ⟨v,e,X,H,M.d.isAgg⟩))[j]?=if j<X then b[j]? else M.am[j-X]?:=by
  intro j;rw[B,aI8,A]
 refine⟨?_,λj c kk Q N=> ?_,λj c Q N=> ?_⟩;rw[B,oW,fT,fT,A,q1];simp at q;omega;rw[p] at Q;rw[o] at N;split at Q;rename_i L;rw[aH L] at N;have:=w _ (jD N);cases this;rw[t,ep] at Q;cases m:([x.ai O,y.ai O,z.ai O].take X)[j]? with|none=>rw[m] at Q;cases Q|some u=>rw[m] at Q;cases Q;exact⟨u,rfl⟩
 rename_i L;rw[aJ L] at N;obtain⟨u,G⟩:=q2 _ kk N;rw[G] at Q;cases Q;exact⟨u,rfl⟩;rw[p] at Q;rw[o] at N;split at Q;rename_i L;rw[aH L] at N;have:=w _ (jD N);cases this;rename_i L;rw[aJ L] at N;obtain⟨u,G⟩:=q3 _ N;rw[G] at Q;cases Q;exact⟨u,rfl⟩
def axI{e:TypeId}{R Q:Bool}{N:TI}(L:ur f.ty v X R=J)(H:f.ty e=U N)(B:N.am.all oc=J):∀c∈bJ f.ty (.mr ⟨v,e,X,R,Q⟩),oc c=true:=by
 obtain⟨A,G,z,F⟩:=Na (va:=Q) L H;intro c M;rw[G] at M;rcases fc.1 M with h|h;rw[F c h];rfl
 grind
def axJ(W:World)(b:Nat)(o:Obj):ChangeMaps.setBlock W b o=W.putObj b o:=rfl
def MR.amK(g:ar)(w:World)(D:bU)(R:Ty)(V:ar)(O:aj)(s:S)(a:Act)(Q:World):MR->Prop
 |.ok X=>aA g w D R V O X a Q/\bC s O V X O V|.ah _ x X=>aA g w D R V (O.add (.r (gu x O))) X a Q/\bC s O V X (O.add (.r (gu x O))) V
def Si(R:aA g w D f.ty V O s a W)(af:jx P f.ty){d:cH}{M X:C}{Q:MR}(h:GU f d s v r M X=U Q):
  ∃W',(Instr.mapUpdate v (r.ai O V) (M.ai O V) (X.ai O V)).run P W=.ok () W'/\Q.amK g w D f.ty V O s (a.put d undef) W':=by
 unfold GU at h;split at h;rename_i k e n L am q i ht;have hd:P.underlying v=U (.map k e):=(af _ _ ht).desc;have b:vQ P k n L:=(af _ _ ht).key k e n L rfl;split at h;rename_i H xa xb xc bt A z g2 g3;have bg:=af _ _ z;split at h;cases h;rename_i a3;simp only[lq,jT,not_or,Mp] at a3;obtain⟨⟨aa,ce⟩,bk⟩:=a3;simp only[S.eX,aC] at ce;obtain⟨hb,ce⟩:=ce;obtain⟨a4,al⟩:=adB (O:=O) (V:=V) g2;have ab:=R.mem.box i bt A g3;have bl:=WA (O:=O) (V:=V) (xF R) bk;split at h;rename_i fh;simp only[gc] at fh;subst fh;split at h;rename_i G br;split at h;rename_i a9;cases h;obtain⟨rfl,c1,c5⟩:=WQ br;rw[He] at ab;have ba:=Ke R c1;have bb:∀F∈(G.rv O).ah,Hd n F:=λF o=>Nb aa z (ba F o)
 have an:=amC (P:=P) hd b ab al (λp hp=>by
  obtain⟨F,o,rfl⟩:=fo.1 hp;obtain⟨l,q1,q2,-⟩:=RY b.1 (bb F o);exact⟨l,q1,q2⟩) (X.ai O V)
 have a0:=axH (O:=O) (s:=s) aa z c5 g2 a9;have bc:=amJ (O:=O) g2;have ca:(M.cells.map (C.cj O)).length=n:=by rw[bc];simpa using al
 have bs:((M.cells++X.cells).map (C.cj O)).take n=M.cells.map (C.cj O):=by
  rw[GJ,avS ae,Jv ae]
 have bx:((M.cells++X.cells).map (C.cj O)).drop n=X.cells.map (C.cj O):=by
  rw[GJ,avT ae,acj ae];rfl
 have hL:(((M.cells++X.cells).map (C.cj O)).take n).map (λc=>bn c.val)=[xa.ai O,xb.ai O,xc.ai O].take n:=by
  rw[bs,bc];simp[bn]
 obtain⟨f1,-,-,f4⟩:=ad2 (O:=O) (V:=V) a9 c5;have b0:xC n L H.d.isAgg ((M.cells++X.cells).map (C.cj O))=(gT L ([xa.ai O,xb.ai O,xc.ai O].take n),X.ai O V):=by
  obtain⟨l,q1,q2,q3⟩:=RY (ag:=L) b.1 (Nb aa z a0);have hl:l=[xa.ai O,xb.ai O,xc.ai O].take n:=by rw[<-q3,hL]
  have b1:rX H.d.isAgg (X.cells.map (C.cj O))=X.ai O V:=by
   rw[bl,rX,f4];cases ha:H.d.isAgg;have b2:Y X.cells=1:=by rw[f1];exact CM bg ha
   obtain⟨u,hu⟩:=pI.1 b2;simp only[iZ,jE];rw[<-f4,hu];rfl;rfl
  simp only[xC,q2,hl,bx,b1]
 have ac:=amI (va:=H.d.isAgg) b.1 (Nb aa z a0) hL bb;rw[b0] at ac;have hh:bG W f.ty (.mr ⟨k,e,n,L,H.d.isAgg⟩) (gu (.ins (.ak G) n (M.cells++X.cells)) O):=by
  refine amG (λF bd=> ?_) (axI aa z c5);simp only[LE.ah] at bd;rcases ad1 bd with rfl|h;exact a0;exact ba F h
 have R1:=R.amF hb hh;have a1:∀cc tt ff,j9 xl (C.bL (O.add (.r (gu (.ins (.ak G) n (M.cells++X.cells)) O))) V [.ak G,.int I (.c (n:Int)),.bool (.c L),.bool (.c H.d.isAgg)])≠ .cells cc tt ff:=by
  intro cc tt ff hx;rw[He] at hx;cases hx
 have R2:=R1.ad0 (cs':=[.ak (.v (Y s.rs)),.int I (.c (n:Int)),.bool (.c L),.bool (.c H.d.isAgg)]) (i:=i) g3 a1;have b3:(RE.v (Y s.rs)).rv (O.add (.r (gu (.ins (.ak G) n (M.cells++X.cells)) O)))=gu (.ins (.ak G) n (M.cells++X.cells)) O:=by
  simp[RE.rv,aj.rv,aj.add,<-R.er]
 rw[He,b3] at R2;refine⟨W.putObj (ad V i) (rh ((gu (.ins (.ak G) n (M.cells++X.cells)) O).ah.map (xC n L H.d.isAgg))), ?_, ?_, ?_⟩;simp only[C.ai,a4];rw[an,ac];rfl;have:=R2.put d (.bI []);exact this;exact bC.put (s:=s) (s':={s with rs:=s.rs++[RK.mr ⟨k,e,n,L,H.d.isAgg⟩],au:=s.au.set i (U (xl,[.ak (.v (Y s.rs)),.int I (.c n),.bool (.c L),.bool (.c H.d.isAgg)]))}) ⟨tu _ _ _ _,λj hj=>(qD (du.1 (kC.1 g3)).1).2 (.inr hj),aw,cd _⟩ d _;cases h;cases h;split at h;rename_i fh;simp only[aC,gc,jT] at fh;obtain⟨⟨rfl,rfl⟩,rfl⟩:=fh;split at h;rename_i x N bf;split at h;cases h;rename_i b4;cases h;rw[Hf] at ab;obtain⟨p1,p2⟩:=Nc (O:=O) (V:=V) bf;rw[p1] at ab;have an:=amC (P:=P) hd b ab al (λp hp=>by
  obtain⟨u,hu,rfl⟩:=fo.1 hp;exact⟨[u.1],rfl,rfl⟩) (X.ai O V)
 have ac:∀(N:bA)(m:aq),¬N.contains x=J->Y N=Y m->A7 [x] (gT E [x],X.ai O V) ((N.zip m).map λp=>(.int I p.1,p.2.ai O V))=((N.zip m).map λp=>(.int I p.1,p.2.ai O V))++[(.int I x,X.ai O V)]:=by
  intro N;induction N with
  |nil=>intro m _ _;simp[A7,gT]
  |cons y ys ih=>
   intro m hc hl;cases m with
   |nil=>simp at hl
   |cons u us=>
    have b5:¬y=x:=by
     intro e;subst e;simp at hc
    have b6:¬ys.contains x=true:=by
     intro e;simp at e hc;exact hc.2 e
    have:=ih us b6 (by simpa using hl);simp only[Es,dH,A7,zu,Et,and_true,b5,jE,this,cG]
 have a1:∀cc tt ff,j9 vC (C.bL O V A)≠ .cells cc tt ff:=by
  intro cc tt ff hx;rw[Hf] at hx;cases hx
 have R2:=R.ad0 (cs':=A++[.int I (.c x),X]) g3 a1;have b7:∀(l:aq)(N:bA),rT l=U N->ET (C.az O V (l++[.int I (.c x),X]))=ET (C.az O V l)++[(.int I x,X.ai O V)]:=by
  intro l;induction l using rT.induct with
  |case1=>intro N _;rfl
  |case2 k u Q ih=>
   intro N B;simp only[rT] at B;cases o:rT Q with
   |none=>rw[o] at B;cases B
   |some b8=>
    have:=ih b8 o;simp only[cG,C.az,ET] at this⊢;rw[this]
  |case3 l h1 h2=>intro N B;unfold rT at B;split at B<;>first|(exact bB rfl h1)|(exact bB rfl (h2 _ _ _))|cases B
 rw[Hf,b7 A N bf,p1] at R2;refine⟨W.putObj (ad V i) (rh ((N.zip (oe A)).map (λp=>(Value.int I p.1,p.2.ai O V))++[(Value.int I x,X.ai O V)])), ?_,R2.put d (.bI []), ?_⟩;simp only[C.ai,a4];rw[an];have:[(K.c x).ai O,xb.ai O,xc.ai O].take 1=[x]:=rfl;rw[this,ac N _ b4 p2];exact bC.put (s:=s) (s':=s.cY i vC (A++[.int I (.c x),X])) ⟨oL.refl _ _ _,λj hj=>(qD (du.1 (kC.1 g3)).1).2 (.inr hj),by simp[S.cY],cd _⟩ d _;cases h;cases h;cases h;cases h
end
section
variable{g:ar}{B:World}{D:bU}{P:Program}{f:bv}{V:ar}{O:aj}{s:S}{a:Act}{W:World}
def ad3{X:Ty}{s:S}{n:Nat}:∀r:RE,r.kind X {s with ni:=n}=r.kind X s
 |.v k=>rfl|.cell r i j k=>by simp only[RE.kind,ad3 r]|.k v=>by cases v<;>rfl
theorem Nr(R:aA g B D f.ty V O s a W){Q:Sh}{r:RE}(h:r.pK f.ty s Q=J):lenOf (r.rv O).val=(r.rv O).ah.length:=by
 unfold RE.pK at h;rcases av2.1 h with h|h;have X:=ri R aw (GN h);generalize r.rv O=N at X;cases X;rfl;unfold RE.nil at h;split at h;simp[RE.rv,lenOf];cases h
def axK(R:aA g B D f.ty V O s a W){e:TypeId}{L:Bool}{H:TI}{i:Nat}{c:K}(h:acP f s v e X L H i=U c):∃l,W.heap[ad V i]?=U (rh l)/\(Y l:Int)=c.ai O:=by
 unfold acP at h;split at h;rename_i G Q F;have A:=R.mem.box i G Q F;split at h;rename_i fh;simp at fh;subst fh;cases N:Cw f s v e X L H Q with
 |none=>rw[N] at h;cases h
 |some r=>
  rw[N] at h;cases h;obtain⟨rfl,z,y⟩:=WQ N
  grind [He,K.ai,Nr]
 split at h;rename_i fh;simp at fh;obtain⟨⟨rfl,rfl⟩,rfl⟩:=fh;cases M:rT Q with
 |none=>rw[M] at h;cases h
 |some x=>
  rw[M] at h;cases h;rw[Hf] at A;obtain⟨w,u⟩:=Nc (O:=O) (V:=V) M
  grind [K.ai]
 cases h;cases h
theorem Sj{t:Int}{c:K}{R:RE}:j9 zd (C.bL O V [.mp X,.int I (.c t),.int I c,.ak R])=.mapIter (U (ad V X)) (c.ai O).toNat ((R.rv O).ah.map qz).toArray (c.ai O).toNat:=by
 simp[j9,zd,xl,vC,C.bL,C.gf,C.ai,alI]
def axL(X:aA g B D f.ty V O s a W)(G:jx P f.ty){x:Operand}(F:b.o.op=.range v x)(A:a.eval x=(s.ev f.gl x).ai O V)(h:VY f b.o.dst s v (s.ev f.gl x)=U R):
  ∃Q N M,tw P b.o a W Q N/\aA g B D f.ty M O R (a.put b.o.dst Q) N/\bC s O V R O M:=by
 unfold VY at h;split at h;rename_i k e n ag am q i z y;have w:P.underlying v=U (.map k e):=(G _ _ z).desc;split at h;rename_i te af;split at h;rename_i c u;split at h;rename_i L;simp at L;obtain⟨⟨r,p⟩,j⟩:=L;cases h;obtain⟨l,d,aa⟩:=axK X u;have ab:C.dQ s.ni s.nb (Y s.rs) (aL s.au) [.mp i,.int I (.c (v:Int)),.int I c,.ak (.k (.slice Z 0 0))]=true:=by
  simp[C.i8,C.bj,RE.bj,K.bj,j,p]
 obtain⟨H,L1⟩:=X.AQ r (t:=zd) ab;rw[Sj,<-aa] at H;have ac:=run_range_map (P:=P) W v k e (ad V i) _ _ w d;refine⟨.pointer (U ⟨W.heap.size,0,Z⟩),W.alloc (.mapIter (U (ad V i)) (Y l) #[] (Y l)),V++[W.heap.size],.inl ?_, ?_,L1.put _ _⟩;simp only[execOp,F,A,y,C.ai,dD,ac,dC,fy];have:=H.put b.o.dst (.loc (Y s.au) 0);have ha:ad (V++[W.heap.size]) (Y s.au)=W.heap.size:=by simp[ad,<-X.gE]
 rw[C.ai,ha] at this;simpa[RE.rv] using this;cases h;cases h;cases h;cases h
def ad4:∀{l:uo}{m:Nat}{e:MapEntry},e∈gD m l->∃(j:Nat)(p:Value×Value),l[j]?=U p/\e=⟨p.1,p.2,m+j⟩
 |[],m,e,h=>by simp[gD] at h
 |x::r,m,e,h=>by
  simp only[gD,ey] at h;rcases h with rfl|h;exact⟨0,x,rfl,rfl⟩;obtain⟨j,p,X,R⟩:=ad4 h;exact⟨j+1,p,by simpa using X,by rw[R];congr 1;omega⟩
def ad5:∀{l:uo}{m j:Nat}{p:Value×Value},l[j]?=U p->(⟨p.1,p.2,m+j⟩:MapEntry)∈gD m l
 |[],m,j,p,h=>by simp at h|x::r,m,0,p,h=>by simp at h;subst h;simp[gD]
 |x::r,m,j+1,p,h=>by
  have:=ad5 (m:=m+1) (l:=r) (j:=j) (p:=p) (by simpa using h)
  grind [gD]
def amL:∀(n:Nat)(l:ar),(∀j,j<n->j∈l)->n<=Y l
 |0,_,_=>rP _
 |n+1,l,h=>by
  have X:=h n ae;have:=amL n (l.erase n) (λj R=>(av1 ae).2 (h j ae))
  grind
theorem Ns(R:JV f=J):bJ f.ty (.mr (zl f))=[.int I]:=by
 simp only[JV,aC,akX] at R;obtain⟨X,N⟩:=R;unfold ur at X;split at X;rename_i tk M;simp only[aC,gc] at X;obtain⟨c,Q⟩:=pI.1 X.1.1;have:=X.1.2;rw[Q] at this;simp at this
 grind [bJ,zl,acD]
 cases X
def ad6(X:JV f=J){R:aE}(h:Kd f.ty (zl f) R):∃x,R=[.mk (.int I x) []]:=by
 have Q:=h.len;rw[Ns X] at Q;obtain⟨c,rfl⟩:=pI.1 Q;obtain⟨x,N⟩:=h.int 0 c I rfl (by rw[Ns X];rfl)
 grind
def axM(X:JV f=J)(x:Int):Kd f.ty (zl f) [.mk (.int I x) []]:=by
 refine⟨by rw[Ns X];rfl,λj c k R Q=> ?_,λj c R Q=> ?_⟩
 grind [Ns]
 grind [Ns]
def WR{r:RE}{H:K}{X:aE}(G:(r.rv O).ah[(H.ai O).toNat]?=U X):∀{am:eN}{j:Nat},am.all oc=J->Y X=j+Y am->
  (∀(i:Nat)(k:IntKind),am[i]?=U (.int k)->∃m,X[j+i]?=U (.mk (.int k m) []))->(∀(i:Nat),am[i]?=U .bool->∃m,X[j+i]?=U (.mk (.bool m) []))->
  C.az O V (vF r H j am)=(X.drop j).map RV.val
 |[],j,_,R,_,_=>by rw[avV (by simp at R;omega)];rfl
 |.int k::am,j,Q,R,M,L=>by
  obtain⟨m,N⟩:=M 0 k rfl;have F:=WR G (am:=am) (j:=j+1) (by simpa[oc] using Q) (by simp at R⊢;omega) (λi k h=>by have:=M (i+1) k (by simpa using h);rwa [show j+(i+1)=j+1+i from ae] at this) (λi h=>by have:=L (i+1) (by simpa using h);rwa [show j+(i+1)=j+1+i from ae] at this);have B:X.drop j=.mk (.int k m) []::X.drop (j+1):=by
   rw[yX] at N
   grind [Cg]
  rw[yX] at N
  grind [vF,GO,C.az,C.ai,K.ai,aQ,RV.pe,bn]
 |.bool::am,j,Q,R,M,L=>by
  obtain⟨m,N⟩:=L 0 rfl;have F:=WR G (am:=am) (j:=j+1) (by simpa[oc] using Q) (by simp at R⊢;omega) (λi k h=>by have:=M (i+1) k (by simpa using h);rwa [show j+(i+1)=j+1+i from ae] at this) (λi h=>by have:=L (i+1) (by simpa using h);rwa [show j+(i+1)=j+1+i from ae] at this);have B:X.drop j=.mk (.bool m) []::X.drop (j+1):=by
   rw[yX] at N
   grind [Cg]
  rw[yX] at N
  grind [vF,GO,C.az,C.ai,BE.ai,aQ,RV.pe,jw]
 |.bz _ _::am,j,Q,_,_,_=>by simp[oc] at Q
def ad7{r:RE}{X:K}:∀{am:eN}{j:Nat},(vF r X j am).length=Y am
 |[],j=>rfl|c::am,j=>by simp[vF,ad7 (am:=am)]
def amM{r:RE}{M:K}{R:aE}(F:(r.rv O).ah[(M.ai O).toNat]?=U R){N:Bool}(L:N=E->X=1)(B:Hd X R):(MF r M X N).ai O V=rX N (R.take X):=by
 obtain⟨l,A,H⟩:=B;have z:(R.take X).length=X:=by rw[H];simpa using A
 have y:C.az O V ((dj X).map λj=>.int I (.cell r M j))=(R.take X).map RV.val:=by
  rw[oI,oX];apply kX;intro j;rw[ep,ep];by_cases G:j<X;rw[Ep G];have x:j<Y l:=ae;have Q:(R.take X)[j]?=U (.mk (.int I l[j]) []):=by rw[H,ep,dv x];rfl
  have w:R[j]?=U (.mk (.int I l[j]) []):=by rw[pJ,aH G] at Q;exact Q
  simp[Q,C.ai,K.ai,aQ,F,w,bn]
  grind
 rw[MF,EY (λv=>by simpa using L v),y,rX];cases N;obtain⟨c,Q⟩:=pI.1 (z.trans (L rfl));rw[Q];rfl;rfl
def axN{rs:RE}{je:K}{j:Int}(N:je.ai O=j)(h:∀X∈(rs.rv O).ah,∀x,X=[.mk (.int I x) []]->x≠j)(Q:∀X∈(rs.rv O).ah,∃x,X=[RV.mk (.int I x) []]):(VZ rs je).ai O=J/\∀r∈(rs.rv O).ah,mq 1 [j] r=false:=by
 have M:∀r∈(rs.rv O).ah,∀b c,mq 1 [j,b,c] r=false:=by
  intro r R b c;obtain⟨x,rfl⟩:=Q r R;have:=h _ R x rfl;simp[mq,bn,this]
 grind [VZ,BE.ai,K.ai,jT,mu,mq,bn]
def amN(G:JV f=J)(R:aA g B D f.ty V O s a W)(z:s.bd=J){d:cH}{i t:Nat}{c:K}{Q:RE}(y:bP s.au X=U (zd,[.mp i,.int I (.c (t:Int)),.int I c,.ak Q]))(bZ:Q.pK f.ty s (zl f)=J)
  {N:K}{j:Nat}(w:N.ai O=j)(n:¬((Q.rv O).ah.map qz).contains j=J){kv v:C}{key val:Value}
  (m:∀F,kv.ai (O.add (.r F)) V=key)(l:∀F,v.ai (O.add (.r F)) V=val):
  (VZ Q N).ai O=J/\aA g B D f.ty V (O.add (.r (gu (.ins (.ak Q) 1 [.int I N]) O))) (acQ f d s X s.ni i t c kv v) (a.put d (.tuple #[.bool J,key,val])) (W.putObj (ad V X) (.mapIter (U (ad V i)) (c.ai O).toNat (((Q.rv O).ah.map qz).toArray.push j) (c.ai O).toNat)):=by
 have k:=Ke R bZ;have b:∀M∈(Q.rv O).ah,∃x,M=[RV.mk (.int I x) []]:=λM L=>ad6 G (k M L)
 obtain⟨u1,u2⟩:=axN (O:=O) (rs:=Q) (je:=N) w (λM L x H=>by
  intro e;apply n;simp;refine⟨M,L, ?_⟩;subst H;simp[qz,bn,e]) b
 refine⟨u1, ?_⟩;have hh:bG W f.ty (.mr (zl f)) (gu (.ins (.ak Q) 1 [.int I N]) O):=by
  refine amG (λM u=> ?_) (λx H=>by rw[Ns G] at H;simp at H;subst H;rfl);simp only[LE.ah,dH,oE,C.cj] at u;rcases ad1 u with rfl|h;exact axM G _
  grind
 have aa:(gu (.ins (.ak Q) 1 [.int I N]) O).ah=(Q.rv O).ah++[[.mk (.int I j) []]]:=by
  simp only[gu,RV.mX,LE.ah,dH,oE,C.cj,w];refine amH λr L=> ?_
  simpa[bn] using u2 r L
 have R1:=R.amF z hh;have ab:∀cc tt ff,j9 zd (C.bL (O.add (.r (gu (.ins (.ak Q) 1 [.int I N]) O))) V [.mp i,.int I (.c (t:Int)),.int I c,.ak Q])≠ .cells cc tt ff:=by
  grind [Sj]
 have A:=R1.ad0 (cs':=[.mp i,.int I (.c (t:Int)),.int I c,.ak (.v (Y s.rs))]) (i:=X) y ab;have ac:(RE.v (Y s.rs)).rv (O.add (.r (gu (.ins (.ak Q) 1 [.int I N]) O)))=gu (.ins (.ak Q) 1 [.int I N]) O:=by
  simp[RE.rv,aj.rv,aj.add,<-R.er]
 obtain⟨a1,af⟩:=R.zv z;have p:=tq af y;simp only[C.i8,C.bj,aC] at p;have ag:c.ai (O.add (.r (gu (.ins (.ak Q) 1 [.int I N]) O)))=c.ai O:=K.eh (tu s.au O (.r (gu (.ins (.ak Q) 1 [.int I N]) O)) V).agree _ p.2.2.1;rw[Sj,ac,aa,ag] at A;have al:((Q.rv O).ah++[[RV.mk (.int I (j:Int)) []]]).map qz=(Q.rv O).ah.map qz++[j]:=by simp[qz,bn]
 rw[al] at A;have o:=A.put d (.bI [.bool (.c J),kv,v]);have an:(C.bI [.bool (.c J),kv,v]).ai (O.add (.r (gu (.ins (.ak Q) 1 [.int I N]) O))) V=.tuple #[.bool J,key,val]:=by
  simp only[C.ai,C.az,m,l,BE.ai]
 rw[an] at o;have a0:((Q.rv O).ah.map qz).toArray.push j=((Q.rv O).ah.map qz++[j]).toArray:=aw;rw[a0];exact o
def amO{X:Type}:∀{l:List X}{m j:Nat},eW ((m+j:Nat):Int) ((yY m (Y l)).map λ(i:Nat)=>(i:Int)) l=l[j]?
 |[],m,j=>by simp[eW]
 |x::l,m,j=>by
  simp only[n9,acq,dH,eW];cases j with
  |zero=>simp
  |succ j=>
   rw[aJ ae,show m+(j+1)=m+1+j from ae,amO];simp
theorem amP{R:Type}{l:List R}{j:Nat}(h:X=Y l):eW (j:Int) (EC X) l=l[j]?:=by
 have:=amO (l:=l) (m:=0) (j:=j);rw[jp] at this;rw[EC,h,Vz];exact this
def axO(h:r.ai x V=r.ai O V):C.az x V r.cells=C.az O V r.cells:=by
 cases r
 case agg l=>simp only[C.ai,Value.agg.injEq] at h;simpa[C.cells] using h
 all_goals simp only[C.cells,C.az,h]
def amQ(R:aA g B D f.ty V O s a W){X:TI}{e:TypeId}(G:eZ P e X){x:K}{Q:bA}{N:aq}{M v:C}(h:V4 X x Q N=U (M,v))(F:Y Q=Y N){O':aj}{j:Nat}(A:x.ai O'=j){k:Int}{u:C}(c:Q[j]?=U k)(L:N[j]?=U u)(z:u.ai O' V=u.ai O V):
  M.ai O' V=.int I k/\v.ai O' V=u.ai O V:=by
 unfold V4 at h;split at h;rename_i t;split at h;rename_i y l r q;cases h;constructor;obtain⟨w,b,w2,-⟩:=adu (O:=O') r
 grind [amP,C.ai,K.ai]
 obtain⟨p,o,s2⟩:=Wy (O:=O') (V:=V) q;have H:=gC.1 t u (jD L);have n:Y u.cells=0+Y X.am:=by
  simp only[Cr,aC,gc] at H;omega
 have m:X.d.isAgg=E->Y l=1:=λi=>by rw[p];exact CM G i
 rw[EY m,o u.cells (by rw[A,amP (by simp[F]),ep,L];rfl) n,List.drop_zero,axO z,WA (xF R) H];cases h;cases h
def amR:∀{l:uo}{m:Nat},(gD m l).map (·.born)=yY m (Y l)
 |[],m=>rfl|x::r,m=>by simp[gD,amR (l:=r),acq]
def axP{p:Sp}{L:dt}(hP:p.P=P)(R:aA g B D f.ty V O s a W)(ac:jx P f.ty){x:Operand}(ho:b.o.op=.next x E)(he:a.eval x=(s.ev f.gl x).ai O V){bc a4:S->T}{t:T}(h:acR f b.o.dst s (s.ev f.gl x) bc a4=U t)(hs:t.aP p O L):
  ∃v W' z w,tw P b.o a W v W'/\aA g B D f.ty V z w (a.put b.o.dst v) W'/\bC s O V w z V/\((z=O/\(a4 w).aP p O L)\/(bc w).aP p z L):=by
 unfold acR at h;split at h;rename_i q hx;split at h;rename_i bt i tz c F hq;split at h;cases h;rename_i b3;simp only[jT,Mp,aC,gc,dq] at b3;obtain⟨⟨⟨⟨⟨rfl,bf⟩,bZ⟩,hb⟩,b4⟩,dd⟩:=b3;obtain⟨tn,rfl⟩:∃tn:Nat,tz=(tn:Int):=⟨tz.toNat,ae⟩;simp only[rN] at h;have bg:=R.mem.box _ _ _ hq;rw[Sj] at bg;have cu:=Ke R bZ;have df:∀H∈(F.rv O).ah,∃x,H=[RV.mk (.int I x) []]:=λH hr=>ad6 bf (cu H hr)
 obtain⟨dk,bk⟩:=R.zv hb;split at h;rename_i k e n ag am qq dn cv b5 b6;have hd:P.underlying tn=U (.map k e):=(ac _ _ b5).desc;have hK:vQ P k n ag:=(ac _ _ b5).key k e n ag rfl;split at h;rename_i M af;split at h;cases h;rename_i a9;have a9:ur f.ty k n ag=true:=by simpa using a9
 have al:=R.mem.box _ _ _ b6;have ba:=tq bk b6;have model:∀(l:uo),W.heap[ad V i]?=U (rh l)->(Y l:Int)=c.ai O->
   (c.ai O<=lenOf (F.rv O).val/\tw P b.o a W (.tuple #[.bool E]) W)\/
   ∃(j:Nat)(kv:Value×Value)(G:World),l[j]?=U kv/\¬((F.rv O).ah.map qz).contains j=J/\(G=W\/G=W.drew)/\tw P b.o a W (.tuple #[.bool J,kv.1,kv.2]) (G.putObj (ad V q) (.mapIter (U (ad V i)) (c.ai O).toNat (((F.rv O).ah.map qz).toArray.push j) (c.ai O).toNat)):=by
  intro l hl bl;have hN:(c.ai O).toNat=Y l:=ae;rw[hN] at bg⊢;rcases run_next_at (P:=P) W b.o.type (ad V q) (ad V i) (Y l) (Y l) _ _ _ bg hl (λy hy=>by
   obtain⟨j,p,h1,h2⟩:=ad4 (by simpa using hy);rw[h2];have:=(du.1 h1).1;simpa using this) (cd _) with⟨h0,hr⟩|⟨en,br,G,cx,hr⟩
  left;refine⟨?_,.inl ?_⟩;rw[Nr R bZ,<-bl];have:=amL (Y l) ((F.rv O).ah.map qz) (λj hj=>by
   cases A:((F.rv O).ah.map qz).contains j with
   |true=>exact Jw.1 A
   |false=>
    exfalso;have cy:=ad5 (m:=0) (dv hj);have:(⟨(l[j]).1,(l[j]).2,0+j⟩:MapEntry)∈(leftOf (gD 0 l).toArray ((F.rv O).ah.map qz).toArray):=by
     unfold leftOf;rw[aJq];refine⟨by simpa using cy, ?_⟩;simp only[jp,jT];rw[<-A];simp
    have dr:=Array.size_pos_of_mem this;omega)
  simpa using this;simp only[execOp,ho,he,hx,C.ai,dD,hr,dC,fy];right;unfold leftOf at br;rw[aI9,aJq] at br;obtain⟨cA,b7⟩:=br;obtain⟨j,kv,hj,rfl⟩:=ad4 (by simpa using cA);simp only[jp] at b7 hr;refine⟨j,kv,G,hj, ?_,cx,.inl ?_⟩;simpa using b7;simp only[execOp,ho,he,hx,C.ai,dD,hr,dC,fy,axJ]
 have b8:(W=W)->(c.ai O<=lenOf (F.rv O).val)->tw P b.o a W (.tuple #[.bool E]) W->(a4 (s.put b.o.dst (.bI [.bool (.c E)]))).aP p O L->∃v W' z w,tw P b.o a W v W'/\aA g B D f.ty V z w (a.put b.o.dst v) W'/\bC s O V w z V/\((z=O/\(a4 w).aP p O L)\/(bc w).aP p z L):=by
  intro _ _ cB cC;have:=R.put b.o.dst (.bI [.bool (.c E)]);exact⟨_,W,O,_,cB,this,(bC.refl _ _ _).put _ _,.inl ⟨rfl,cC⟩⟩
 have ca:∀G,(G=W\/G=W.drew)->aA g B D f.ty V O s a G:=by
  rintro G (rfl|rfl);exact R;exact R.drew
 split at h
 
 rename_i fh;simp only[gc] at fh;subst fh;split at h;rename_i r hr;split at h;rename_i bb;simp only[aC] at bb;cases h;obtain⟨rfl,c1,c5⟩:=WQ hr;rw[He] at al;have bq:c.ai O=((r.rv O).ah.length:Int):=by
  have:=K.bX _ _ bb.1;rw[this,K.ai,Nr R c1]
 have cc:=Ke R c1;simp only[V5,T.aP] at hs;rcases model _ al (by rw[bq];simp) with⟨Q,g2⟩|⟨j,kv,G,Q,g2,g3,g4⟩;exact b8 rfl Q g2 (hs.2 (decide_eq_true Q))
 ·rw[ep] at Q;cases an:(r.rv O).ah[j]? with
  |none=>rw[an] at Q;cases Q
  |some H=>
  rw[an] at Q;simp only[ga,dX] at Q;have cD:=(du.1 an).1;have ch:=jD an;have cO:=Nb a9 af (cc H ch);have bs:=hs.1 (j:Int) ae ae;have R1:=(ca G g3).amE hb (j:Int);have aa:=(tu s.au O (.i (j:Int)) V).agree;simp only[C.i8,C.bj,aC] at ba;have ab:=tq bk hq;simp only[C.i8,C.bj,aC] at ab;have a0:F.rv (O.add (.i (j:Int)))=F.rv O:=RE.tj aa _ ab.2.2.2.1;have bx:c.ai (O.add (.i (j:Int)))=c.ai O:=K.eh aa _ ab.2.2.1;have a3:(K.v s.ni).ai (O.add (.i (j:Int)))=(j:Int):=by simp[K.ai,aj.add,<-R.ei]
  have cW:∀X,(K.v s.ni).ai ((O.add (.i (j:Int))).add (.r X))=(j:Int):=λX=>a3
  have c0:∀X,r.rv ((O.add (.i (j:Int))).add (.r X))=r.rv O:=λX=>by
   have a1:=RE.tj aa _ ba.1;have b0:=(tu s.au (O.add (.i (j:Int))) (.r X) V).agree;have a2:=RE.tj (b0.mono (by simp[aj.add]) (cd _) (cd _)) r ba.1;rw[a2,a1]
  have cl:∀X,(r.rv ((O.add (.i (j:Int))).add (.r X))).ah[((K.v s.ni).ai ((O.add (.i (j:Int))).add (.r X))).toNat]?=U H:=λX=>by
   rw[c0,cW];simpa using an
  obtain⟨kc,r1,r2,r3⟩:=Na (va:=M.d.isAgg) a9 af;have b1:=cc H ch;have bl:Y H=n+Y M.am:=by rw[b1.len,r1,fT,r2]
  have cn:∀(N:Nat)(ct:CT),M.am[N]?=U ct->(bJ f.ty (.mr ⟨k,e,n,ag,M.d.isAgg⟩))[n+N]?=U ct:=λN ct hm=>by
   rw[r1,jo ae,r2,show n+N-n=N from ae];exact hm
  have co:∀(N:Nat)(ct:CT),M.am[N]?=U ct->∃c,H[n+N]?=U c:=λN ct hm=>by
   have:N<Y M.am:=(du.1 hm).1;exact⟨H[n+N]' ae,dv _⟩
  have c2:M.d.isAgg=E->(vF r (.v s.ni) n M.am).length=1:=λha=>by rw[ad7];exact CM (ac _ _ af) ha
  have c3:∀X,(uq M.d.isAgg (vF r (.v s.ni) n M.am)).ai ((O.add (.i (j:Int))).add (.r X)) V=rX M.d.isAgg (H.drop n):=λX=>by
   rw[EY c2,WR (cl X) c5 bl (λN kk hm=>by
    obtain⟨c,A⟩:=co N _ hm;obtain⟨x',b2⟩:=b1.int (n+N) c kk A (cn N _ hm);exact⟨x',by rw[A,b2]⟩) (λN hm=>by
    obtain⟨c,A⟩:=co N _ hm;obtain⟨x',b2⟩:=b1.bool (n+N) c A (cn N _ hm);exact⟨x',by rw[A,b2]⟩),rX]
   cases c4:M.d.isAgg;have h1:=CM (ac _ _ af) c4;obtain⟨c,A⟩:=pI.1 (show(H.drop n).length=1 from bS);rw[A];rfl;rfl
  obtain⟨u1,u2⟩:=amN (d:=b.o.dst) (s:={s with ni:=s.ni+1}) (kv:=MF r (.v s.ni) n ag) (v:=uq M.d.isAgg (vF r (.v s.ni) n M.am)) (key:=rX ag (H.take n)) (val:=rX M.d.isAgg (H.drop n)) bf R1 b4 hq (by simpa only[RE.pK,ad3] using bZ) a3 (by rw[a0];exact g2) (λX=>amM (cl X) hK.1 cO) c3;rw[a0,bx] at u2;subst Q;refine⟨_,_,_,_,g4,u2, ?_,.inr ?_⟩;refine bC.put (s:=s) (s':={s with ni:=s.ni+1,rs:=s.rs++[RK.mr (zl f)],au:=s.au.set q _}) ⟨(tu s.au O (.i (j:Int)) V).trans (tu s.au _ _ V) (λ_ h=>h),λj hj=>(qD (du.1 (kC.1 hq)).1).2 (.inr hj),aw,cd _⟩ _ _;exact bs u1
 cases h;cases h;split at h
 
 rename_i fh;simp only[aC,gc,jT] at fh;obtain⟨⟨rfl,rfl⟩,rfl⟩:=fh;split at h;rename_i ks c6;split at h;rename_i bb;split at h;rename_i c7 v0 c8;cases h;rw[Hf] at al;obtain⟨p1,p2⟩:=Nc (O:=O) (V:=V) c6;rw[p1] at al;have bq:c.ai O=(Y ks:Int):=by
  have:=K.bX _ _ bb;rw[this,K.ai]
 simp only[V5,T.aP] at hs;rcases model _ al (by rw[bq];simp[p2]) with⟨Q,g2⟩|⟨j,kv,G,Q,g2,g3,g4⟩;exact b8 rfl Q g2 (hs.2 (decide_eq_true Q))
 ·rw[ep] at Q;cases hz:(ks.zip (oe cv))[j]? with
  |none=>rw[hz] at Q;cases Q
  |some kp=>
  rw[hz] at Q;simp only[ga,dX] at Q;obtain⟨z1,z2⟩:=avU.1 hz;have c9:∀{l:aq}{jj:Nat}{u:C},C.dQ (Y O.i) (Y O.b) (Y O.r) (aL s.au) l=J->(oe l)[jj]?=U u->u.bd (Y O.i) (Y O.b) (Y O.r) (aL s.au)=true:=by
   intro l;induction l using oe.induct with
   |case1 k v r ih=>
    intro jj u ce hu;simp only[C.i8,aC] at ce;simp only[oe] at hu;cases jj with|zero=>simp at hu;subst hu;exact ce.2.1|succ jj=>exact ih ce.2.2 (by simpa using hu)
   |case2 l h1=>
    intro jj u ce hu;unfold oe at hu;split at hu;exact bB rfl (h1 _ _ _);simp at hu
  have cD:j<Y ks:=(du.1 z1).1;have bs:=hs.1 (j:Int) ae ae;have R1:=(ca G g3).amE hb (j:Int);have aa:=(tu s.au O (.i (j:Int)) V).agree;have ab:=tq bk hq;simp only[C.i8,C.bj,aC] at ab;have a0:F.rv (O.add (.i (j:Int)))=F.rv O:=RE.tj aa _ ab.2.2.2.1;have bx:c.ai (O.add (.i (j:Int)))=c.ai O:=K.eh aa _ ab.2.2.1;have a3:(K.v s.ni).ai (O.add (.i (j:Int)))=(j:Int):=by simp[K.ai,aj.add,<-R.ei]
  have cp:=c9 ba z2;have dc:∀X,kp.2.ai ((O.add (.i (j:Int))).add (.r X)) V=kp.2.ai O V:=λX=>by
   have b0:=(tu s.au (O.add (.i (j:Int))) (.r X) V).agree;rw[C.eh (b0.mono (by simp[aj.add]) (cd _) (cd _)) (λ_ _=>rfl) _ cp,C.eh aa (λ_ _=>rfl) _ cp]
  have cs:=λX=>amQ R (ac _ _ af) c8 p2 (O':=(O.add (.i (j:Int))).add (.r X)) (j:=j) a3 z1 z2 (dc X)
  obtain⟨u1,u2⟩:=amN (d:=b.o.dst) (s:={s with ni:=s.ni+1}) (kv:=c7) (v:=v0) (key:=.int I kp.1) (val:=kp.2.ai O V) bf R1 b4 hq (by simpa only[RE.pK,ad3] using bZ) a3 (by rw[a0];exact g2) (λX=>(cs X).1) (λX=>(cs X).2);rw[a0,bx] at u2;subst Q;refine⟨_,_,_,_,g4,u2, ?_,.inr ?_⟩;refine bC.put (s:=s) (s':={s with ni:=s.ni+1,rs:=s.rs++[RK.mr (zl f)],au:=s.au.set q _}) ⟨(tu s.au O (.i (j:Int)) V).trans (tu s.au _ _ V) (λ_ h=>h),λj hj=>(qD (du.1 (kC.1 hq)).1).2 (.inr hj),aw,cd _⟩ _ _;exact bs u1
 cases h;cases h;cases h;cases h;cases h;cases h;cases h;cases h
def axQ{p:Sp}{L:dt}(R:aA g B D f.ty V O s a W)(u:jx P f.ty){x:Operand}(ho:b.o.op=.entry x)(he:a.eval x=(s.ev f.gl x).ai O V){bb:S->T}{t:T}(h:acU f b.o.dst s (s.ev f.gl x) bb=U t)(A:t.aP p O L):
  ∃v s',tw P b.o a W v W/\aA g B D f.ty V O s' (a.put b.o.dst v) W/\bC s O V s' O V/\(bb s').aP p O L:=by
 unfold acU at h;split at h;rename_i q hx;split at h;rename_i bt i tz c Q hq;split at h;cases h;rename_i bc;simp only[jT,Mp,aC,gc,dq] at bc;obtain⟨⟨⟨⟨rfl,b2⟩,bZ⟩,hb⟩,cx⟩:=bc;obtain⟨tn,rfl⟩:∃tn:Nat,tz=(tn:Int):=⟨tz.toNat,ae⟩;simp only[rN] at h;have af:=R.mem.box _ _ _ hq;rw[Sj] at af;have b3:=Ke R bZ;have model:∀(l:uo),W.heap[ad V i]?=U (rh l)->(Y l:Int)=c.ai O->(acS c Q).ai O=J->
   ∃(j:Nat)(kv:Value×Value),l[j]?=U kv/\(xw Q).ai O=j/\tw P b.o a W (.tuple #[kv.1,kv.2]) W:=by
  intro l hl bd b4;obtain⟨a1,b5⟩:=CV b4;obtain⟨a1,b6⟩:=CV a1;have h1:=A6 a1;have h2:=Sd b6;obtain⟨h3,h4⟩:=CV b5;have h3:=A6 h3;rw[EX] at h4;have h4:(xw Q).ai O<c.ai O:=by simpa[fp] using h4
  simp only[K.ai] at h1 h2 h3;rw[Nr R bZ] at h1 h2;have hN:(c.ai O).toNat=Y l:=ae;rw[hN] at af;obtain⟨aa,a3,al⟩:∃aa a3,(Q.rv O).ah=aa++[a3]:=⟨_,_,(List.dropLast_concat_getLast (by intro e;rw[e] at h1;simp at h1)).symm⟩;obtain⟨z,y⟩:=ad6 b2 (b3 a3 (by rw[al];simp));have b7:IntKind.i64.wrap (((Q.rv O).ah.length:Int)-1)=((Q.rv O).ah.length:Int)-1:=by
   simp[IntKind.wrap,IntKind.bits,IntKind.signed];omega
  have bf:(xw Q).ai O=z:=by
   simp only[xw,K.ai,be,Nr R bZ,b7,aQ];have:(((Q.rv O).ah.length:Int)-1).toNat=Y aa:=by rw[al];simp
   rw[this,al,y];simp[di,bn]
  rw[bf] at h3 h4;obtain⟨j,rfl⟩:∃j:Nat,z=(j:Int):=⟨z.toNat,ae⟩;have bg:j<Y l:=ae;refine⟨j,l[j],dv bg,bf,.inl ?_⟩;have b8:((Q.rv O).ah.map qz).toArray=((aa.map qz).toArray).push j:=by
   rw[al,y];simp[qz,bn]
  rw[b8] at af;have bk:=ad5 (m:=0) (dv bg);rw[jp] at bk;have hr:=run_entry_at (P:=P) W (ad V q) (ad V i) (Y l) ((aa.map qz).toArray) (gD 0 l).toArray (Y l) ⟨(l[j]).1,(l[j]).2,j⟩ af hl (by simpa using bk) (by
   simp only[amR];exact List.nodup_range' ..)
  simp only[execOp,ho,he,hx,C.ai,dD,hr,dC,fy]
 split at h;rename_i k e n ag am qq cy ca bl cc;have hd:P.underlying tn=U (.map k e):=(u _ _ bl).desc;have hK:vQ P k n ag:=(u _ _ bl).key k e n ag rfl;split at h;rename_i N ab;split at h;cases h;rename_i an;have an:ur f.ty k n ag=true:=by simpa using an
 have ac:=R.mem.box _ _ _ cc;split at h;rename_i fh;simp only[gc] at fh;subst fh;split at h;rename_i r hr;split at h
 ·rename_i a4;cases h;obtain⟨rfl,c1,c5⟩:=WQ hr;rw[He] at ac;have bq:c.ai O=((r.rv O).ah.length:Int):=by
   have:=K.bX _ _ a4;rw[this,K.ai,Nr R c1]
  have br:=Ke R c1;obtain⟨hn,A⟩:=A;obtain⟨j,kv,M,g2,g3⟩:=model _ ac (by rw[bq];simp) hn;rw[ep] at M;cases a0:(r.rv O).ah[j]? with
  |none=>rw[a0] at M;cases M
  |some G=>
  rw[a0] at M;simp only[ga,dX] at M;have bs:=jD a0;have ch:=Nb an ab (br G bs);have bx:(r.rv O).ah[((xw Q).ai O).toNat]?=U G:=by rw[g2];simpa using a0
  obtain⟨kc,r1,r2,r3⟩:=Na (va:=N.d.isAgg) an ab;have a9:=br G bs;have bd:Y G=n+Y N.am:=by rw[a9.len,r1,fT,r2]
  have b0:∀(X:Nat)(w:CT),N.am[X]?=U w->(bJ f.ty (.mr ⟨k,e,n,ag,N.d.isAgg⟩))[n+X]?=U w:=λX w H=>by
   rw[r1,jo ae,r2,show n+X-n=X from ae];exact H
  have b1:∀(X:Nat)(w:CT),N.am[X]?=U w->∃c,G[n+X]?=U c:=λX w H=>by
   have:X<Y N.am:=(du.1 H).1;exact⟨G[n+X]' ae,dv _⟩
  have cl:N.d.isAgg=E->(vF r (xw Q) n N.am).length=1:=λha=>by rw[ad7];exact CM (u _ _ ab) ha
  have cn:(uq N.d.isAgg (vF r (xw Q) n N.am)).ai O V=rX N.d.isAgg (G.drop n):=by
   rw[EY cl,WR bx c5 bd (λX kk H=>by
    obtain⟨c,F⟩:=b1 X _ H;obtain⟨x',ba⟩:=a9.int (n+X) c kk F (b0 X _ H);exact⟨x',by rw[F,ba]⟩) (λX H=>by
    obtain⟨c,F⟩:=b1 X _ H;obtain⟨x',ba⟩:=a9.bool (n+X) c F (b0 X _ H);exact⟨x',by rw[F,ba]⟩),rX]
   cases co:N.d.isAgg;have h1:=CM (u _ _ ab) co;obtain⟨c,F⟩:=pI.1 (show(G.drop n).length=1 from bS);rw[F];rfl;rfl
  have cp:=amM (V:=V) bx hK.1 ch;have R2:=R.put b.o.dst (.bI [MF r (xw Q) n ag,uq N.d.isAgg (vF r (xw Q) n N.am)]);simp only[C.ai,C.az,cp,cn] at R2;subst M;exact⟨_,_,g3,R2,(bC.refl _ _ _).put _ _,A⟩
 cases h;cases h;split at h;rename_i fh;simp only[aC,gc,jT] at fh;obtain⟨⟨rfl,rfl⟩,rfl⟩:=fh;split at h;rename_i ks cs;split at h;rename_i a4;split at h
 ·rename_i cu v0 cv;cases h;rw[Hf] at ac;obtain⟨p1,p2⟩:=Nc (O:=O) (V:=V) cs;rw[p1] at ac;have bq:c.ai O=(Y ks:Int):=by
   have:=K.bX _ _ a4;rw[this,K.ai]
  obtain⟨hn,A⟩:=A;obtain⟨j,kv,M,g2,g3⟩:=model _ ac (by rw[bq];simp[p2]) hn;rw[ep] at M;cases y:(ks.zip (oe ca))[j]? with
  |none=>rw[y] at M;cases M
  |some kp=>
  rw[y] at M;simp only[ga,dX] at M;obtain⟨z1,z2⟩:=avU.1 y;obtain⟨e1,e2⟩:=amQ R (u _ _ ab) cv p2 (O':=O) g2 z1 z2 rfl;have R2:=R.put b.o.dst (.bI [cu,v0]);simp only[C.ai,C.az,e1,e2] at R2;subst M;exact⟨_,_,g3,R2,(bC.refl _ _ _).put _ _,A⟩
 cases h;cases h;cases h;cases h;cases h;cases h;cases h;cases h
def amS{p:Sp}{L:dt}(R:aA g B D f.ty V O s a W)(ac:jx P f.ty){t2:TypeId}{z:BinOp}{N:Bool}{x y:Operand}(l:b.o.op=.binOp z v x y t2)(af:(z=.eql/\N=E)\/(z=.neq/\N=J))(he:a.eval x=(s.ev f.gl x).ai O V)(ag:a.eval y=(s.ev f.gl y).ai O V){j:S->T}{i:T}(h:V6 f b.o.dst s v N (s.ev f.gl x) (s.ev f.gl y) j=U i)(w:i.aP p O L):
  ∃X u,tw P b.o a W X W/\aA g B D f.ty V O u (a.put b.o.dst X) W/\bC s O V u O V/\(j u).aP p O L:=by
 unfold V6 at h;split at h;rename_i e am q r ht hx hy;split at h;rename_i hk;cases h;have hd:P.underlying v=U (.slice e):=(ac _ _ ht).desc;have H:=ri R aw hk;simp only[T.aP] at w;obtain⟨A,n,c,M⟩:∃A n c,r.ai O=.slice A n c:=by
  have:∃A n c,(r.rv O).val=.slice A n c:=by
   generalize r.rv O=G at H;cases H;simp
  exact this
 have al:(K.len r).ai O=n:=by simp only[K.ai];unfold RE.ai at M;rw[M];rfl
 have d:(GM v (.slice A n c) (.slice Z 0 0)).run P W=.ok A.isNone W:=by
  have h0:GM v (.slice A n c) (.slice Z 0 0)=Ew (9999+1) v (.slice A n c) (.slice Z 0 0):=rfl;rw[h0,Ew,dD,eZ.gY hd,dC];cases A<;>rfl
 have aa:(execOp a.eval b.o).run P W=.ok (.value (.bool (if N then !A.isNone else A.isNone))) W:=by
  simp only[execOp,l,he,ag,hx,hy,C.ai,M];have an:RE.ai O (.k (.slice Z 0 0))=.slice Z 0 0:=rfl;rw[an];rcases af with⟨rfl,rfl⟩|⟨rfl,rfl⟩;simp[eqGuard,binOp,d];simp[eqGuard,binOp,d]
 cases F:A with
 |none=>
  have hn:n=0:=by
   unfold RE.ai at M;have h0:∀{G:RV},bG W f.ty (.sl e) G->G.val=.slice A n c->A=Z->n=0:=by
    intro G H M F;cases H with
    |sl e A' a3 a4 ab h1 h2 h3 hi hb l=>
     simp at M;obtain⟨rfl,rfl,rfl⟩:=M;subst F;cases ab with
     |nil=>simp at h1;omega
     |cons a0 ab=>
      obtain⟨-,Q,a9,a1,-⟩:=h3 0 a0 rfl;cases a1
   grind
  have:=w.2 (by show decide ((K.len r).ai O<=(K.c 0).ai O)=J;rw[al,hn];rfl);refine⟨_,_,.inl aa, ?_,(bC.refl _ _ _).put _ (.bool (.c (!N))),this⟩;have M:(if N then !A.isNone else A.isNone)= !N:=by rw[F];cases N<;>rfl
  rw[M];exact R.put b.o.dst (.bool (.c (!N)))
 |some A0=>
  have:=w.1 (by simp[BE.ai]);refine⟨_,_,.inl aa, ?_,(bC.refl _ _ _).put _ (.bool (.c N)),this⟩;have M:(if N then !A.isNone else A.isNone)=N:=by rw[F];cases N<;>rfl
  rw[M];exact R.put b.o.dst (.bool (.c N))
 cases h;cases h
theorem aA.cells{x:Ty}{i:Nat}{Q:TypeId}{L H:aq}(R:aA g B D x V O (s.cY i Q L) a W)(F:i<Y s.au)(h:C.bL O V L=C.bL O V H):aA g B D x V O (s.cY i Q H) a W:=by
 have G:∀j,aL (s.au.set i (U (Q,H))) j=aL (s.au.set i (U (Q,L))) j:=λj=>by
  rw[JB,qD F,qD F]
 have w:(s.cY i Q H).au=s.au.set i (U (Q,H)):=rfl;have N:(s.cY i Q L).au=s.au.set i (U (Q,L)):=rfl;refine⟨⟨R.mem.base,λj X=>R.mem.own j (by rw[N,<-G];exact X),λj k X v=>R.mem.inj j k (by rw[N,<-G];exact X) (by rw[N,<-G];exact v),λj t u M=> ?_,λk e A z y=>⟨(R.mem.ak k e A z y).1,λb M j X=>(R.mem.ak k e A z y).2 b M j (by rw[N,<-G];exact X)⟩⟩,by simpa[S.cY] using R.gE,R.ei,R.eb,R.er,R.dm,R.size,R.tmps,λk e A b r q p=> ?_⟩;rw[kC,w] at M;by_cases X:j=i;subst X;rw[ack (by simpa using F)] at M;cases M;rw[<-h];exact R.mem.box j Q L (by rw[kC,N,ack (by simpa using F)]);rw[AJ (λe=>X e.symm)] at M;exact R.mem.box j t u (by rw[kC,N,AJ (λe=>X e.symm)];exact M);obtain⟨z,y,o,n,m⟩:=R.eP k e A b r q p;exact⟨z,y,λj X=>o j (by rw[N,<-G];exact X),n,m⟩
def axR{b:BE}{y z:C}(h:acY b r y=U z):z.gf O V=if b.ai O then r.gf O V else y.gf O V:=by
 unfold acY at h
 grind [C.gf,C.ai,K.ai,BE.ai]
theorem WS:∀(R l:aq)(X:Nat),C.bL O V (mj l X R)=ge (C.bL O V l) X (C.bL O V R)
 |[],l,X=>rfl
 |v::R,l,X=>by
  rw[mj,WS R (l.set X v) (X+1)];simp only[C.bL,dH,ge,alc]
def amT{b:BE}:∀{M:aq}{R:Nat}{X Q:aq},Rm b M R X=U Q->
  Y Q=Y X/\(M=[]\/R+Y M<=Y X)/\(b.ai O=J->C.bL O V Q=C.bL O V (mj X R M))/\(b.ai O=E->C.bL O V Q=C.bL O V X)
 |[],R,X,Q,h=>by simp only[Rm,dX] at h;subst h;exact⟨rfl,.inl rfl,λ_=>rfl,λ_=>rfl⟩
 |x::r,R,X,Q,h=>by
  simp only[Rm] at h;split at h;rename_i A H;split at h;rename_i c z;obtain⟨G,L,y,w⟩:=amT h;have v:R<Y X:=(du.1 H).1;have F:=axR (O:=O) (V:=V) z;have B:C.bL O V (X.set R c)=(C.bL O V X).set R (c.gf O V):=by simp[C.bL,alc]
  have u:C.bL O V X=(C.bL O V X).set R (A.gf O V):=by
   apply kX;intro j;rw[yU];split;rename_i t;subst t;simp[C.bL,v];have:=du.1 H;rw[this.2];rfl
  rw[awl] at G L;refine⟨G,.inr ?_,λN=> ?_,λN=> ?_⟩;rcases L with rfl|L;simp;omega;simp only[n9];omega;rw[y N,WS,B,F,aH N,WS];simp only[C.bL,dH,ge];rw[w N,B,F,aJ (by simp[N]),<-u];cases h;cases h
def amU{e:K}{M:aq}(G:M≠[]):∀{Q:bA}{N X R:aq},JW e M Q N X=U R->V7 Q=J->
  Y R=Y X/\(∀v,eW (e.ai O) Q N=U v->∃i L,v=.loc i L/\L+Y M<=Y X/\C.bL O V R=C.bL O V (mj X L M))/\(¬(e.ai O∈Q)->C.bL O V R=C.bL O V X)
 |[],[],X,R,h,_=>by simp only[JW,dX] at h;subst h;exact⟨rfl,λv F=>by simp[eW] at F,λ_=>rfl⟩|[],_::_,X,R,h,_=>by simp[JW] at h
 |k::Q,N,X,R,h,H=>by
  simp only[V7,aC,jT] at H;cases N with
  |nil=>simp[JW] at h
  |cons u N=>
   cases u<;>simp only[JW] at h<;>try cases h
   rename_i i L;split at h;rename_i A B;obtain⟨z,y,x⟩:=amU G h H.2;obtain⟨w,t,r,q⟩:=amT (O:=O) (V:=V) B
   grind [BE.ai,K.ai,fp,eW,Jw.2,WS]
   cases h
def amV(h:Ro r=J):r.single=true:=by cases r<;>simp only[Ro,iZ] at h<;>rfl
def amW:∀{l:aq},MG l=J->l≠[]/\GP l=J
 |[],h=>by cases h|[x],h=>⟨aw,by rw[VP.2,amV h,VP.1];rfl⟩
 |x::y::r,h=>by
  simp only[MG,aC] at h;exact⟨aw,by rw[VP.2,amV h.1,(amW (l:=y::r) h.2).2];rfl⟩
def axS(h:MG r.cells=J):(r.ai O V).cells.toList=C.az O V r.cells:=by
 cases r
 case agg l=>simp[C.cells,C.ai,Value.cells]
 all_goals(simp only[C.cells,MG,Ro,iZ] at h)
 all_goals rfl
def axT{P:Program}{p:Sp}{L:dt}(R:aA g B D f.ty V O s a W)(m:jx P f.ty){o:Oper}{t:TypeId}{x y:Operand}{A:TI}{e:K}{N:bA}{M:aq}(l:f.ty t=U A)(j:o.op=.store t x y)(d:a.eval x=(C.gq e N M).ai O V)(c:a.eval y=(s.ev f.gl y).ai O V){k:S->T}{z:T}
  (h:acZ o.dst s A e N M (s.ev f.gl y) k=U z)(Q:z.aP p O L):∃v X H,tw P o a W v X/\aA g B D f.ty V O H (a.put o.dst v) X/\bC s O V H O V/\(k H).aP p O L:=by
 unfold acZ at h;split at h;rename_i i b;split at h;rename_i bt cs hb;split at h;rename_i aa ab;split at h;rename_i w;simp at w;obtain⟨⟨⟨h1,h2⟩,h3⟩,r⟩:=w;cases h;simp only[T.aP] at Q;obtain⟨q,Q⟩:=Q;rw[Wz h2] at q;obtain⟨u,G⟩:=jC.1 q;obtain⟨ac,af⟩:=amW r;obtain⟨g1,g2,-⟩:=amU (O:=O) (V:=V) ac ab h3;obtain⟨i',n,rfl,ag,al⟩:=g2 u G;obtain⟨a3,hq⟩:=alV b (M7 G);cases hq;obtain⟨F,an⟩:=AZ hb;have hi:i<Y s.au:=(du.1 (kC.1 F)).1;have a0:((s.ev f.gl y).ai O V).cells.toList=C.az O V (s.ev f.gl y).cells:=axS r;obtain⟨X,hr,R'⟩:=R.store (P:=P) (v:=s.ev f.gl y) (off:=n) (m _ _ l) F an h1.symm ag af a0;have R2:aA g B D f.ty V O (s.cY i bt aa) a X:=R'.cells hi al.symm;refine⟨undef,X,_,.inr ⟨?_,rfl⟩,R2.put o.dst (.bI []),ams F _ _,Q⟩;have a1:(C.gq e N M).ai O V=.pointer (U ⟨ad V i,n,Z⟩):=by
  simp only[C.ai];rw[WB G rfl];rfl
 simp only[execOp,j,d,c,a1,dD,hr,dC,fy];cases h;cases h;cases h;cases h
def axU{p:Sp}{L:dt}(R:aA p.S0 p.w0 D f.ty V O s a W)(l:jx p.P f.ty)(w:eD f.gl O){aa:S->Fx->T}{q:Fx}(r:vT O q){t:T}(h:Cx f b s aa q=U t)(n:t.aP p O L):
  ∃v F j V' X ab,tw p.P b.o a W v F/\aA p.S0 p.w0 D f.ty V' j X (a.put b.o.dst v) F/\bC s O V X j V'/\vT j ab/\(aa X ab).aP p j L:=by
 unfold Cx at h;split at h;cases h;rename_i M;have M:∀x∈b.o.op.operands.toList,(s.ev f.gl x).fg=false:=by
  intro x hx;cases hh:(s.ev f.gl x).fg;rfl;exact bB (by simp only[lq];right;exact nF.2 ⟨x,hx,hh⟩) M
 split at h
 
 rename_i i Q;cases d:VX f b.o.dst s i with
 |none=>rw[d] at h;cases h
 |some X=>
  rw[d] at h;cases h;obtain⟨v,F,V',H,G,N⟩:=axG (P:=p.P) R Q d;exact⟨v,F,O,V',X,q,H,G,N,r,n⟩
 rename_i i x y z Q;rw[Q] at M;have A:=de R w x (M x cq);have k:=de R w y (M y cq);have e3:=de R w z (M z cq);split at h;rename_i X c;cases h;obtain⟨F,H,G,N⟩:=Si (P:=p.P) R l c;exact⟨undef,F,O,V,X,q,.inr ⟨by simp only[execOp,Q,A,k,e3,dD,H,dC,fy],rfl⟩,G,N,r,n⟩;rename_i k' x' X c;cases h;obtain⟨F,H,G,N⟩:=Si (P:=p.P) R l c;exact⟨undef,F,_,V,X,_,.inr ⟨by simp only[execOp,Q,A,k,e3,dD,H,dC,fy],rfl⟩,G,N,Km R N.ext.agree r,n⟩;cases h;rename_i i x y z Q;rw[Q] at M;have A:=de R w x (M x cq);have k:=de R w y (M y cq);have e3:=de R w z (M z cq);split at h;rename_i X c;cases h;obtain⟨F,H,G,N⟩:=Si (P:=p.P) R l c;exact⟨undef,F,O,V,X,q,.inr ⟨by simp only[execOp,Q,A,k,e3,dD,H,dC,fy],rfl⟩,G,N,r,n⟩;rename_i k' x' X c;cases h;obtain⟨F,H,G,N⟩:=Si (P:=p.P) R l c;exact⟨undef,F,_,V,X,_,.inr ⟨by simp only[execOp,Q,A,k,e3,dD,H,dC,fy],rfl⟩,G,N,Km R N.ext.agree r,n⟩;cases h;rename_i i x Q;rw[Q] at M;have A:=de R w x (M x cq);cases d:VY f b.o.dst s i (s.ev f.gl x) with
 |none=>rw[d] at h;cases h
 |some X=>
  rw[d] at h;cases h;obtain⟨v,F,V',H,G,N⟩:=axL (P:=p.P) R l Q A d;exact⟨v,F,O,V',X,q,H,G,N,r,n⟩
 rename_i x Q;rw[Q] at M;have A:=de R w x (M x cq);obtain⟨v,F,j,X,H,G,N,u⟩:=axP (P:=p.P) rfl R l Q A h n;rcases u with⟨rfl,u⟩|u;exact⟨v,F,j,V,X,q,H,G,N,r,u⟩;exact⟨v,F,j,V,X,_,H,G,N,Km R N.ext.agree r,u⟩;rename_i x Q;rw[Q] at M;have A:=de R w x (M x cq);obtain⟨v,X,H,G,N,u⟩:=axQ (P:=p.P) R l Q A h n;exact⟨v,W,O,V,X,q,H,G,N,r,u⟩;rename_i i x y Q;rw[Q] at M;have A:=de R w x (M x cq);have k:=de R w y (M y cq);split at h;rename_i ti e ks vs ht hx;rw[hx] at A;obtain⟨v,F,X,H,G,N,u⟩:=axT (P:=p.P) R l ht Q A k h n;exact⟨v,F,O,V,X,q,H,G,N,r,u⟩;cases h;rename_i op i x y t2 Q;rw[Q] at M;have A:=de R w x (M x cq);have k:=de R w y (M y cq);split at h;obtain⟨v,X,H,G,N,u⟩:=amS (P:=p.P) R l Q (.inl ⟨rfl,rfl⟩) A k h n;exact⟨v,W,O,V,X,q,H,G,N,r,u⟩;obtain⟨v,X,H,G,N,u⟩:=amS (P:=p.P) R l Q (.inr ⟨rfl,rfl⟩) A k h n;exact⟨v,W,O,V,X,q,H,G,N,r,u⟩;cases h;cases h
end
def Sk(v:Value)(X:bA)(g:FuncId):mR:=(v::(X.map (Value.int I)++[.func (.func g) #[] #[]])).toArray
def rk(P:Program)(R:Ty)(f g:FuncId)(e:TypeId)(G:bu)(F:Bool):Prop:=
 (∀Q W,(callFunc f Q).run P W=.ok (.enter f Q) W)/\∀(W:World)(A:oY)(n X:Nat)(N aF:av)(O:aj)(M:List K)(L:bu),G.fill M=U L->bG W R (.sl e) (.mk (.slice A n X) N)->Kj W e (bJ R (.sl e)).length A X->ly O L F N=U aF->
  Calls P f (Sk (.slice A n X) (M.map (K.ai O)) g) W λB H=>B=.returned (.tuple #[])/\W.grownBy H (mZ A X)/\Hj W H e (bJ R (.sl e)).length (mZ A X) aF A X
def amX(P:Program)(N:Ty)(f:FuncId)(e:TypeId):Prop:=
 (∀M W,(callFunc f M).run P W=.ok (.enter f M) W)/\∀(W:World)(b n X:Nat)(L aF:av)(i:Int)(R Q:Nat)(G F:TypeId),W.heap[R]?=U (.cells #[.slice (U ⟨b,0,Z⟩) n X] G (0,0))->W.heap[Q]?=U (.cells #[.func (.func f) #[] #[.pointer (U ⟨R,0,Z⟩),.pointer (U ⟨Q,0,Z⟩)]] F (0,0))->R≠b->Q≠b->
  bG W N (.sl e) (.mk (.slice (U ⟨b,0,Z⟩) n X) L)->Kj W e (bJ N (.sl e)).length (U ⟨b,0,Z⟩) X->xB i L=U aF->
  Calls P f #[.int I i,.pointer (U ⟨R,0,Z⟩),.pointer (U ⟨Q,0,Z⟩)] W λB H=>B=.returned (.int I (aI 0 (aF.getD i.toNat [])))/\W.grownBy H (U b)/\Hj W H e (bJ N (.sl e)).length (U b) aF (U ⟨b,0,Z⟩) X
def nQ(P:Program)(X:Ty)(f g:FuncId)(e:TypeId)(R:bu)(Q:Bool):Prop:=if f=g then amX P X f e else rk P X f g e R Q
def nQ.of{P:Program}{X:Ty}{f g:FuncId}{R:bu}{Q:Bool}(h:rk P X f g v R Q)(N:f≠g):nQ P X f g v R Q:=by
 unfold nQ;rw[aJ N];exact h
def Nt(P:Program)(p:bv):Prop:=∀f g e X R,p.zj f g=U (e,X,R)->nQ P p.ty f g e X R
theorem WT{lt:aE->aE->Bool}{x y:aE}:∀{l:av},y∈fk lt x l<->y=x\/y∈l
 |[]=>by simp[fk]
 |z::r=>by
  simp only[fk];split;simp;simp only[ey,WT (l:=r)]
  grind
theorem amY{lt:aE->aE->Bool}{x:aE}:∀{l:av},(fk lt x l).length=Y l+1
 |[]=>rfl
 |z::r=>by
  simp only[fk];split;simp;simp[amY (l:=r)]
def ad8{lt:aE->aE->Bool}:∀(l acc:av),(∀x,x∈l.foldl (λacc x=>fk lt x acc) acc<->x∈acc\/x∈l)/\(l.foldl (λacc x=>fk lt x acc) acc).length=Y acc+Y l
 |[],acc=>aw
 |y::l,acc=>by
  obtain⟨X,R⟩:=ad8 (lt:=lt) l (fk lt y acc)
  grind [WT,amY,n9]
def amZ{lt:aE->aE->Bool}{l:av}{x:aE}:x∈bN lt l<->x∈l:=by
 rw[bN,(ad8 l []).1];simp
def pM{lt:aE->aE->Bool}{l:av}:(bN lt l).length=Y l:=by
 rw[bN,(ad8 l []).2];simp
def am0{sp:bu}{R:Bool}{X aF:av}(h:iq sp R X=U aF):∀x∈aF,x∈X:=by
 cases sp with
 |dE k o N=>simp[iq] at h
 |_=>
  simp only[iq] at h;split at h;cases h;intro x Q;exact amZ.1 Q;cases h
def am1{sp:bu}{R:Bool}{X aF:av}(h:iq sp R X=U aF):Y aF=Y X:=by
 cases sp with
 |dE k o Q=>simp[iq] at h
 |_=>
  simp only[iq] at h;split at h;cases h;exact pM;cases h
def vU{R:av}{b:Nat}{x:aE}(h:x∈bi R X b):x∈R:=En (GH h)
def axV(X:av)(a b:Nat):(bi X a b).length=min (b-a) (Y X-a):=by simp[bi]
theorem WU{X:av}:∀(n:Nat)(i:Int),(td n i X).length=Y X
 |0,_=>rfl
 |n+1,i=>by
  simp only[td];split;rfl;simp[WU n]
def Hl{X:av}(h:my X=J){k:Nat}(R:k<Y X):0<=aI 0 (X.getD k [])/\aI 0 (X.getD k [])<=k:=by
 have:=gC.1 h k (rO.2 R)
 grind
def ad9{X:av}(h:my X=J){i:Int}(R:0<=i)(Q:i<Y X):0<=aI 0 (X.getD i.toNat [])/\aI 0 (X.getD i.toNat [])<=i/\aI 0 (X.getD i.toNat [])<Y X:=by
 have:=Hl h (k:=i.toNat) ae;omega
def axW{R:Type}{l:List R}(h:X<Y l)(d:R):l.getD X d∈l:=by
 grind
def am2{R:av}(h:my R=J):∀(n:Nat)(i:Int),0<=i->i<Y R->∀x∈td n i R,x∈R
 |0,_,_,_,x,X=>X
 |n+1,i,Q,N,x,X=>by
  simp only[td] at X;split at X;exact X;obtain⟨M,-,L⟩:=ad9 h Q N;have H:=am2 h n _ M L
  grind [WU]
def Sm{i:Int}{X aF:av}(h:xB i X=U aF):Y X<=1099511627776/\0<=i/\i<Y X/\my X=J/\aF=td (Y X) i X:=by
 unfold xB at h
 grind
def WV{i:Int}{X aF:av}(h:xB i X=U aF):∀x∈aF,x∈X:=by
 obtain⟨-,R,Q,N,rfl⟩:=Sm h;exact am2 N _ _ R Q
def aea{i:Int}{X aF:av}(h:xB i X=U aF):Y aF=Y X:=by
 obtain⟨-,-,-,-,rfl⟩:=Sm h;exact WU _ _
def axX{o:bu}{N:bA}{Q aF:av}(h:oq X o N Q=U aF):∀x∈aF,x∈Q:=by
 unfold oq at h;split at h
 all_goals first|(split at h<;>first|(cases h;done)|skip)|skip
 all_goals first|(cases h;done)|skip
 all_goals
  cases h;intro x R;simp only[fc,amZ] at R;rcases R with R|R;exact GH R
 all_goals
  rcases R with R|R;exact vU R
  first|exact En R|(rcases R with R|R<;>first|exact vU R|exact En R|(rcases R with R|R<;>first|exact vU R|exact En R))
def axY{o:bu}{Q:bA}{R aF:av}(h:oq X o Q R=U aF):Y aF=Y R:=by
 unfold oq at h;split at h
 all_goals first|(split at h<;>first|(cases h;done)|skip)|skip
 all_goals first|(cases h;done)|skip
 all_goals
  rename_i N;simp only[aC,dq] at N;cases h;simp only[fT,Mr,Cj,axV,pM];omega
def CW{o:bu}{Q:bA}{R aF:av}(h:qB X o Q R=U aF):Y R<=1099511627776/\oq X o Q R=U aF:=by
 grind [qB]
def axZ{o:bu}{Q:bA}{R aF:av}(h:qB X o Q R=U aF):∀x∈aF,x∈R:=axX (CW h).2
def ax0{o:bu}{Q:bA}{R aF:av}(h:qB X o Q R=U aF):Y aF=Y R:=axY (CW h).2
def aeb{X:bu}{Q:Bool}{R aF:av}(h:iq X Q R=U aF):Y R<=1099511627776:=by
 cases X with
 |dE k o N=>simp[iq] at h
 |_=>
  simp only[iq] at h
  grind
def aec{R:bu}{Q:Bool}{N aF:av}(h:ly x R Q N=U aF):∀X∈aF,X∈N:=by
 cases R with
 |dE k o M=>
  cases Q with
  |false=>exact axZ h
  |true=>
   cases M with
   |nil=>simp[ly] at h
   |cons i l=>
    cases l with|nil=>exact WV h|cons j l=>simp[ly] at h
 |lex L d=>exact am0 (sp:=.lex L d) h|ratio n d=>exact am0 (sp:=.ratio n d) h
def aed{X:bu}{R:Bool}{Q aF:av}(h:ly x X R Q=U aF):Y aF=Y Q:=by
 cases X with
 |dE k o N=>
  cases R with
  |false=>exact ax0 h
  |true=>
   cases N with
   |nil=>simp[ly] at h
   |cons i l=>
    cases l with|nil=>exact aea h|cons j l=>simp[ly] at h
 |lex M d=>exact am1 (sp:=.lex M d) h|ratio n d=>exact am1 (sp:=.ratio n d) h
section
variable{q:ar}{w:World}{D:bU}{P:Program}{p:bv}{V:ar}{O:aj}{s:S}{a:Act}{W:World}
def ax1{G aF:av}(h:fW W p.ty v G)(F:∀x∈aF,x∈G):fW W p.ty v aF:=by
 have H:∀{i:Nat}{X:aE},aF[i]?=U X->∃R,G[R]?=U X:=λh=>sP (F _ (jD h))
 refine⟨λi X Q=> ?_,λi j X c k Q M L=> ?_,λi j X c Q M L=> ?_,λi j X c z k Q M L=> ?_⟩;obtain⟨R,N⟩:=H Q;exact h.len R X N;obtain⟨R,N⟩:=H Q;exact h.int R j X c k N M L;obtain⟨R,N⟩:=H Q;exact h.bool R j X c N M L;obtain⟨R,N⟩:=H Q;exact h.bz R j X c z k N M L
def ax2{R aF:av}(Q:∀x∈aF,x∈R)(h:oJ p.ty v aF X):oJ p.ty v R X:=by
 obtain⟨i,j,N,c,z,k,M,L,H,G⟩:=h;obtain⟨F,B⟩:=sP (Q _ (jD M));exact⟨F,j,N,c,z,k,B,L,H,G⟩
def am3{s:S}{a:Act}{W:World}{O:aj}{V:ar}(R:aA q w D p.ty V O s a W)(N:eD p.gl O){o:Oper}{g:FuncId}{X:aq}(h:eu p s o=.call (.fn g) X)
  (L:∀X W,(callFunc g X).run P W=.ok (.enter g X) W):(execOp a.eval o).run P W=.ok (.enter g (C.az O V X).toArray) W:=by
 unfold eu at h;split at h;split at h<;>cases h;rename_i c H;split at h;rename_i f G;split at h;rename_i u bE M;split at h;cases h;rename_i F;have Q:=de R N f (by rw[M];rfl);rw[M] at Q;have B:c.args.map a.eval=(C.az O V (c.args.toList.map (s.ev p.gl))).toArray:=by
  apply nH;simp only[yW,oI,oX];exact ky λx A=>de R N x (by
   cases z:(s.ev p.gl x).fg;rfl;exact bB (nF.2 ⟨x,A,z⟩) F)
 obtain⟨t,r,y,v⟩:=alG O V h;rw[y] at Q;simp only[execOp,H,resolve,G,dD,Q,Deferred.ofValue,fy,dC,invoke,B,v,L];split at h<;>cases h;cases h;cases h;split at h;split at h<;>cases h;cases h;cases h;cases h
def am4{s:S}{o:Oper}{g:Cv}{X:aq}(h:eu p s o=.call g X)(c:Call):o.op≠ .defer c:=by
 intro R;simp[eu,R] at h
def am5{O:aj}{V:ar}:∀{l:aq}{as:List K}{g:FuncId},Rp l=U (as,g)->C.az O V l=(as.map (K.ai O)).map (Value.int I)++[.func (.func g) #[] #[]]
 |[],as,g,h=>by simp[Rp] at h
 |v::r,as,g,h=>by
  unfold Rp at h;split at h;rename_i M X;cases h;injection X with R Q;subst R;subst Q;simp[C.az,C.ai];rename_i e L X;injection X with R Q;subst R;subst Q;split at h;rename_i x N;cases h;have:=am5 (O:=O) (V:=V) (as:=x.1) (g:=x.2) N;simp[C.az,C.ai,this];cases h;cases h
def am6(R:aA q w D p.ty V O s a W)(u:s.bd=J){A:oY}{n Q:Nat}{aF:av}(N:s.rs[X]?=U (.own v))(L:O.rv X=.mk (.slice A n Q) (O.rv X).ah)(H:bG W p.ty (.sl v) (.mk (.slice A n Q) (O.rv X).ah))
  (G:∀x∈aF,x∈(O.rv X).ah)(o:Y aF=(O.rv X).ah.length)(m:W.grownBy e (mZ A Q))(l:Hj W e v (bJ p.ty (.sl v)).length (mZ A Q) aF A Q)(d:cH)(M:C):
  aA q w D p.ty V (O.add (.r (.mk (O.rv X).val aF))) ((({s with rs:=kY [] 0 (jG [X] 0 s.rs)++[.own v]}:S).iE X (Y s.rs)).put d M) (a.put d (M.ai (O.add (.r (.mk (O.rv X).val aF))) V)) e/\
   bC s O V ((({s with rs:=kY [] 0 (jG [X] 0 s.rs)++[.own v]}:S).iE X (Y s.rs)).put d M) (O.add (.r (.mk (O.rv X).val aF))) V:=by
 obtain⟨j,af⟩:=uD H;have h:CR p.ty V O s v aF []:=λb g=>by
  have F:=ax2 G g;have B:=Nj (O:=O) (e0:=.own v) rfl (by simpa[RE.rv] using F);exact⟨⟨X,_,N,B⟩,(R.mem.ak X _ _ N (uE R N)).2 b B,λk' t rv f c g3=>(Nk R f c g3 N rfl (by simpa[RE.rv] using F)).elim⟩
 obtain⟨z,-⟩:=R.bind u (old:=mZ A Q) (kill:=[X]) (dl:=[]) (A:=A) (cap:=Q) (W':=e) (.inr ⟨X,v,O.rv X,rfl,N,uE R N,by rw[L,Nn]⟩) aw m (ax1 (fW.zw H) G) h l;rw[o,j] at z;have y:(O.rv X).val=.slice A n Q:=by rw[L];rfl
 rw[y];have aa:X<Y O.r:=by rw[R.er];exact(du.1 N).1
 have ab:(O.add (.r (.mk (.slice A n Q) aF))).rv X=O.rv X:=by simp[aj.rv,aj.add,fO aa]
 have ac:(O.add (.r (.mk (.slice A n Q) aF))).rv (Y s.rs)=.mk (.slice A n Q) aF:=by simp[aj.rv,aj.add,<-R.er]
 have R2:=(z.iE (k:=X) (n:=Y s.rs) (by rw[ab,ac,y];rfl)).put d M;refine⟨R2, ?_⟩;refine bC.put (s:=s) (s':=({s with rs:=kY [] 0 (jG [X] 0 s.rs)++[.own v]}:S).iE X (Y s.rs)) ⟨tu _ _ _ _,λi hi=> ?_, ?_,cd _⟩ _ _;simp only[S.iE];rw[Kl];exact hi;simp[S.iE,Sg]
def ax3(hs:Nt P p)(R:aA q w D p.ty V O s a W)(hg:eD p.gl O)(x:s.bd=J){o:Oper}{f:FuncId}{Q:aq}(ab:eu p s o=.call (.fn f) Q){u:Cz}(h:ac0 p f Q s o.dst=U u){aF:av}(X:ly O u.sp u.st (u.r.rv O).ah=U aF):
  ∃Q v,(execOp a.eval o).run P W=.ok (.enter u.f Q) W/\Calls P u.f Q W λL N=>L=.returned v/\aA q w D p.ty V (O.add (.r (.mk (u.r.rv O).val aF))) u.s (a.put o.dst v) N/\bC s O V u.s (O.add (.r (.mk (u.r.rv O).val aF))) V:=by
 unfold ac0 at h;split at h;rename_i r an;split at h;rename_i H g ac;split at h;rename_i e t m a0;have l:p.zj f g=U (e,t,m)/\f≠g:=by
  grind
 have G:=hs f g e t m l.1;unfold nQ at G;rw[aJ l.2] at G;obtain⟨af,j⟩:=G;have i:(execOp a.eval o).run P W=.ok (.enter f (Sk (r.ai O) (H.map (K.ai O)) g)) W:=by
  rw[am3 R hg ab af];simp only[C.az,C.ai,am5 ac,Sk]
 split at h;rename_i d c;split at h;rename_i k;split at h;rename_i hk;cases h;obtain⟨A,n,aa,h1,h2,h3⟩:=Se R hk;have M:(RE.v k).rv O=O.rv k:=rfl;simp only[M] at X⊢;have a1:=X;have ag:=aec X;have F:=aed X;refine⟨_,.tuple #[],i, ?_⟩;have B:(RE.v k).ai O=.slice A n aa:=by rw[RE.ai,M,h1];rfl
 rw[B];refine(j W A n aa _ aF O H d c h2 h3 X).mono ?_;rintro L N ⟨rfl,z,y⟩;exact⟨rfl,am6 R x hk h1 h2 ag F z y o.dst (.bI [])⟩;cases h;cases h;have M:(RE.k (.slice Z 0 0)).rv O=.mk (.slice Z 0 0) []:=rfl;simp only[M,RV.mX,RV.pe] at X⊢;have F:=aed X;have h0:aF=[]:=ui (by simpa using F);subst h0;refine⟨_,.tuple #[],i, ?_⟩;have B:(RE.k (.slice Z 0 0)).ai O=.slice Z 0 0:=rfl;rw[B];refine(j W Z 0 0 [] [] O H d c (E3 _ _) ⟨λ_=>rfl,.inl rfl⟩ X).mono ?_;rintro L N ⟨rfl,z,y⟩;obtain⟨R1,-⟩:=R.bind x (old:=Z) (kill:=[]) (dl:=[]) (A:=Z) (cap:=0) (rows:=[]) (W':=N) (.inl ⟨rfl,rfl⟩) aw z (fW.zw (E3 (e:=e) Z 0)) (λb al=>(R9 al).elim) y;refine⟨rfl,R1.put o.dst (.bI []), ?_⟩;exact bC.put (s:=s) (s':={s with rs:=kY [] 0 (jG [] 0 s.rs)++[.own e]}) ⟨tu _ _ _ _,λ_ h=>h,cd _,cd _⟩ _ _;cases h;cases h;cases h;cases h;cases h
def am7(hs:Nt P p)(R:aA q w D p.ty V O s a W)(hg:eD p.gl O)(hb:s.bd=J){o:Oper}{f:FuncId}{Q:aq}(ag:eu p s o=.call (.fn f) Q){u:Cz}(h:JX p f Q s o.dst=U u){aF:av}(L:ly O u.sp u.st (u.r.rv O).ah=U aF):
  ∃Q v,(execOp a.eval o).run P W=.ok (.enter u.f Q) W/\Calls P u.f Q W λt m=>t=.returned v/\aA q w D p.ty V (O.add (.r (.mk (u.r.rv O).val aF))) u.s (a.put o.dst v) m/\bC s O V u.s (O.add (.r (.mk (u.r.rv O).val aF))) V:=by
 unfold JX at h;split at h;rename_i i N M;split at h;rename_i e o' mh al;have B:=hs f f e _ J al;unfold nQ at B;rw[aH rfl] at B;obtain⟨an,a0⟩:=B;split at h;rename_i H k G f' br bs l jh;split at h;rename_i j;simp only[aC,gc,jT,dq] at j;obtain⟨⟨⟨⟨⟨⟨⟨hi,e1⟩,z⟩,e2⟩,e3⟩,a1⟩,a3⟩,F⟩:=j;rw[e1,e2,e3] at jh;cases h;obtain⟨A,n,X,y,x,g⟩:=Se R F;have a4:(RE.v k).rv O=O.rv k:=rfl;simp only[a4] at L⊢;have a9:=aec L;have ba:=aed L;have bq:xB (i.ai O) (O.rv k).ah=U aF:=L;obtain⟨-,bt,bx,-,-⟩:=Sm bq;obtain⟨hn,b0⟩:=uD x;have d:X≠0:=ae;rcases g.mem with h0|⟨b,db,hA,b1,-⟩;omega;subst hA;have bb:(O.rv k).lx=U b:=by
  rw[y,Nn];cases X with|zero=>exact(d rfl).elim|succ c=>rfl
 have hT:=R.eP k e _ b F (uE R F) bb;have aa:=R.mem.box N H _ l;have ab:=R.mem.box M G _ jh;have bc:j9 H (C.bL O V [.ak (.v k)])=.cells #[.slice (U ⟨b,0,Z⟩) n X] H (0,0):=by
  rw[qC a1];simp only[C.az,C.ai,RE.ai,RE.rv];rw[y];rfl
 have z:j9 G (C.bL O V [.fn f [.loc N 0,.loc M 0]])=.cells #[.func (.func f) #[] #[.pointer (U ⟨ad V N,0,Z⟩),.pointer (U ⟨ad V M,0,Z⟩)]] G (0,0):=by
  rw[qC a3];simp[C.ai,C.az,zt,z]
 rw[bc] at aa;rw[z] at ab;have bf:(execOp a.eval o).run P W=.ok (.enter f #[.int I (i.ai O),.pointer (U ⟨ad V N,0,Z⟩),.pointer (U ⟨ad V M,0,Z⟩)]) W:=by
  rw[am3 R hg ag an];simp only[C.az,C.ai]
 refine⟨_,.int I (aI 0 (aF.getD (i.ai O).toNat [])),bf, ?_⟩;have bg:mZ (U ⟨b,0,Z⟩) X=U b:=by
  cases X with|zero=>exact(d rfl).elim|succ c=>rfl
 refine(a0 W b n X _ aF (i.ai O) _ _ H G aa ab (hT.box N (by simp only[aL,l];rfl)) (hT.box M (by simp only[aL,jh];rfl)) x g bq).mono ?_;rintro t m ⟨rfl,ac,af⟩;rw[<-bg] at ac af;have:=am6 R hb F y x a9 ba ac af o.dst (.int I (.cell (.v (Y s.rs)) i 0));have bk:(O.add (.r (.mk (O.rv k).val aF))).rv (Y s.rs)=.mk (O.rv k).val aF:=by simp[aj.rv,aj.add,<-R.er]
 have bl:i.ai (O.add (.r (.mk (O.rv k).val aF)))=i.ai O:=K.eh (tu s.au O _ V).agree i (by rw[R.ei,R.eb,R.er];exact hi);have hd:C.ai (O.add (.r (.mk (O.rv k).val aF))) V (.int I (.cell (.v (Y s.rs)) i 0))=.int I (aI 0 (aF.getD (i.ai O).toNat [])):=by
  simp only[C.ai,K.ai,RE.rv,bk,bl];rfl
 grind
 cases h;cases h;cases h;cases h
def ax4(H:Nt P p)(R:aA q w D p.ty V O s a W)(G:eD p.gl O){u:Cz}(h:EF p b s=U u){aF:av}(F:ly O u.sp u.st (u.r.rv O).ah=U aF):
  ∃X v,(execOp a.eval b.o).run P W=.ok (.enter u.f X) W/\(∀c,b.o.op≠ .defer c)/\Calls P u.f X W λA z=>A=.returned v/\aA q w D p.ty V (O.add (.r (.mk (u.r.rv O).val aF))) u.s (a.put b.o.dst v) z/\bC s O V u.s (O.add (.r (.mk (u.r.rv O).val aF))) V:=by
 unfold EF at h;split at h;cases h;rename_i Q;simp only[lq,jT,not_or,Mp] at Q;split at h;rename_i f X N;have B:=λc=>am4 N c
 split at h;rename_i t y;cases h;obtain⟨x,v,M,L⟩:=ax3 H R G Q.2 N y F;exact⟨x,v,M,B,L⟩;obtain⟨x,v,M,L⟩:=am7 H R G Q.2 N h F;exact⟨x,v,M,B,L⟩;cases h
def ax5(N:Nt P p)(R:aA q w D p.ty V O s a W)(M:eD p.gl O){u:Cz}(h:JY p l s=U u){aF:av}(L:ly O u.sp u.st (u.r.rv O).ah=U aF):
  ∃X v,(execOp a.eval l).run P W=.ok (.enter u.f X) W/\(∀c,l.op≠ .defer c)/\Calls P u.f X W λH G=>H=.returned v/\aA q w D p.ty V (O.add (.r (.mk (u.r.rv O).val aF))) u.s (a.put l.dst v) G/\bC s O V u.s (O.add (.r (.mk (u.r.rv O).val aF))) V:=by
 unfold JY at h;split at h;cases h;rename_i F;split at h;rename_i f X Q;obtain⟨x,v,B,A⟩:=am7 N R M (by simpa using F) Q h L;exact⟨x,v,B,λc=>am4 Q c,A⟩;cases h
end
structure qE(F:Fence):Prop where
 fn:∀f,F.fn f
 zx:F.depth=Z
 eq:∀P,Machine.fenced P F=Machine.fenced P Fence.wide
def ax6:qE Fence.wide:=⟨λ_=>trivial,rfl,λ_=>rfl⟩
def am8(l:Nat):qE (Fence.wide.inRound l):=⟨λ_=>trivial,rfl,λ_=>rfl⟩
def qE.calls{F:Fence}(V:qE F){P:Program}{f:FuncId}{Q:mR}{R:Ending->World->Prop}(h:Calls P f Q e R):CallsIn F X P f Q e R:=by
 have O:=(callsIn_wide (n:=X)).2 h;refine⟨V.fn f,λN _=> ?_⟩;obtain⟨W,M,L,r,c,x⟩:=O.2 N (room_wide _)
 grind [V.eq]
def aee{p:Sp}{L:dt}{V:Fx}{b:BE}{t f:Fx->T}(Q:vT x V)(h:(EE R V b t f).aP p x L):
  ∃W,vT x W/\(if b.ai x then(t W).aP p x L else(f W).aP p x L):=by
 unfold EE at h;split at h
 grind [WP]
 grind [WP]
 split at h;simp only[T.aP] at h;cases X:b.ai x;exact⟨_,amD Q X,by simpa[X] using h.2 X⟩;exact⟨_,amD Q X,by simpa[X] using h.1 X⟩;exact h.elim
def cU(n:Nat)(L X:dt):Prop:=∀l,l<n->pi l X=pi l L
def cU.refl(n:Nat)(L:dt):cU n L L:=λ_ _=>rfl
def cU.trans{n m:Nat}{L X W:dt}(h:cU n L X)(k:cU m X W)(R:n<=m):cU n L W:=λl V=>(k l ae).trans (h l V)
def ax7(p:Sp)(O:aj):Cv->mR->World->(Ending->World->Prop)->Prop
 |.fn g,X,W,V=>(∀X W,(callFunc g X).run p.P W=.ok (.enter g X) W)/\Calls p.P g X W V|.yl n,X,W,V=>∀(F:Fence)(_:qE F)(m:Nat),YieldAt F m p.P (O.y.getD n 0) X W V
structure jK where
 s:S
 O:aj
 V:ar
 L:dt
structure jK.lT(B:jK)(s:S)(O:aj)(V:ar)(L:dt):Prop where
 later:bC B.s B.O B.V s O V
 Ko:cU B.s.ax B.L L
def jK.lT.go{B:jK}{X:S}{W:aj}{Q:ar}{L P:dt}(h:B.lT R x t L)(N:bC R x t X W Q)(M:cU R.ax L P):B.lT X W Q P:=⟨h.later.trans N,h.Ko.trans M h.later.ax⟩
def Sn(p:Sp)(A:bv)(D:bU)(B:jK)(G:qn):Prop:=
 ∀(L:dt)(g:Cv)(z:aq)(s:S)(k x:C->S->T)(O:aj)(V:ar)(a:Act)(W:World)(H:Ending->World->Prop),B.lT s O V L->
  (G g z s k x).aP p O L->aA p.S0 p.w0 D A.ty V O s a W->eD A.gl O->
  (∀v P X N Q M,bC s O V P X N->cU s.ax L M->aA p.S0 p.w0 D A.ty N X P a Q->(k v P).aP p X M->H (.returned (v.ai X N)) Q)->
  (∀v P X N Q M,bC s O V P X N->cU s.ax L M->aA p.S0 p.w0 D A.ty N X P a Q->(x v P).aP p X M->H (.panicked [{v:=v.ai X N,recovered:=E}]) Q)->
  (∀w Q u y,ef p.w0 D u y a.defers Q->p.R (.panicked w) Q->H (.panicked w) Q)->
  ax7 p O g (C.az O V z).toArray W H
section
variable{p:Sp}{A:bv}{G:qn}{F:Fence}{D:bU}{ops:dG}
def am9{a:Act}(Q:aA p.S0 p.w0 D A.ty t x R a e){j:Nat}(N:(ops[j]?).bind (·.dst)=U X):
  (∀b,R.tmps[X]?=U (.bool b)->yielded ops a.tmps j=U (b.ai x))/\(R.tmps[X]?=U (.bI [])->yielded ops a.tmps j=Z):=by
 constructor;intro b P;rcases Q.tmps X _ P with h|h;cases h;simp[yielded,N,h,C.ai];intro P;rcases Q.tmps X _ P with h|h;cases h;simp[yielded,N,h,C.ai]
def WW{s:S}{a:Act}{W:World}{O:aj}{V:ar}(R:aA p.S0 p.w0 D A.ty V O s a W)(N:eD A.gl O){o:Oper}{g:FuncId}{X:aq}(h:eu A s o=.call (.fn g) X)
  (L:∀X W,(callFunc g X).run p.P W=.ok (.enter g X) W):(execOp a.eval o).run p.P W=.ok (.enter g (C.az O V X).toArray) W:=by
 unfold eu at h;split at h;split at h<;>cases h;rename_i c H;split at h;rename_i f G;split at h;rename_i t bE M;split at h;cases h;rename_i B;have Q:=de R N f (by rw[M];rfl);rw[M] at Q;have z:c.args.map a.eval=(C.az O V (c.args.toList.map (s.ev A.gl))).toArray:=by
  apply nH;simp only[yW,oI,oX];exact ky λx y=>de R N x (by
   cases w:(s.ev A.gl x).fg;rfl;exact bB (nF.2 ⟨x,y,w⟩) B)
 obtain⟨r,q,v,u⟩:=alG O V h;rw[v] at Q;simp only[execOp,H,resolve,G,dD,Q,Deferred.ofValue,fy,dC,invoke,z,u,L];split at h<;>cases h;cases h;cases h;split at h;split at h<;>cases h;cases h;cases h;cases h
def aef{s:S}{a:Act}{W:World}{O:aj}{V:ar}(R:aA p.S0 p.w0 D A.ty V O s a W)(X:eD A.gl O){o:Oper}{n:Nat}{Q:aq}(h:eu A s o=.call (.yl n) Q):
  (execOp a.eval o).run p.P W=(Instr.yield (O.y.getD n 0) (C.az O V Q).toArray).run p.P W:=by
 unfold eu at h;split at h;split at h<;>cases h;rename_i c L;split at h;rename_i f H;split at h;split at h;cases h;exact(awR h).elim;rename_i v N;split at h;cases h;rename_i G;cases h;have M:=de R X f (by rw[N];rfl);rw[N,C.ai] at M;have B:c.args.map a.eval=(C.az O V (c.args.toList.map (s.ev A.gl))).toArray:=by
  apply nH;simp only[yW,oI,oX];exact ky λx z=>de R X x (by
   cases w:(s.ev A.gl x).fg;rfl;exact bB (nF.2 ⟨x,z,w⟩) G)
 simp[execOp,L,resolve,H,M,Deferred.ofValue,invoke,B];cases h;cases h;split at h;split at h<;>cases h;cases h;cases h;cases h
def aeg{s:S}{O:aj}{V:ar}{L:dt}{e:K}{N:FuncId->aq->T}:∀{R:bA}{Q:aq},(GV e N R Q).aP p O L->∃g bE,lw (e.ai O) R (C.az O V Q)=.func (.func g) #[] (C.az O V bE).toArray/\(N g bE).aP p O L
 |[],Q,h=>by simp only[GV] at h;exact h.elim|k::R,[],h=>by simp only[GV] at h;exact h.elim
 |k::R,v::Q,h=>by
  unfold GV at h;split at h;rename_i M H g bE G X W;simp at X W;obtain⟨rfl,rfl⟩:=X;obtain⟨rfl,rfl⟩:=W;simp only[T.aP,BE.ai,fp,K.ai] at h;by_cases P:e.ai O=k;have X:=h.1 (by simp[P]);cases B:kz g 1000000;rw[B] at X;exact X.elim
  grind [C.az,C.ai,lw,jr,adk]
  obtain⟨A,z,y,x⟩:=aeg (s:=s) (V:=V) (h.2 (by simp[P]))
  grind [C.az,lw]
  rename_i M H G X W;simp at X W;obtain⟨rfl,rfl⟩:=X;obtain⟨rfl,rfl⟩:=W;simp only[T.aP,BE.ai,fp,K.ai] at h;by_cases P:e.ai O=k
  grind
  obtain⟨A,z,y,x⟩:=aeg (s:=s) (V:=V) (h.2 (by simp[P]))
  grind [C.az,lw]
  exact h.elim
def ax8{s:S}{a:Act}{W:World}{O:aj}{V:ar}(R:aA p.S0 p.w0 D A.ty V O s a W)(Q:eD A.gl O){m:OM}{e:K}{N:bA}{M X bE:aq}{g:FuncId}(h:Cy A m s=U (e,N,M,X))
  (y:lw (e.ai O) N (C.az O V M)=.func (.func g) #[] (C.az O V bE).toArray)(w:∀X W,(callFunc g X).run p.P W=.ok (.enter g X) W):
  (execOp a.eval m.o).run p.P W=.ok (.enter g (C.az O V (X++bE)).toArray) W/\∀c,m.o.op≠ .defer c:=by
 unfold Cy at h;split at h;cases h;split at h;rename_i c L;split at h;rename_i f v;split at h;rename_i q n l H;split at h;cases h;rename_i G;simp only[lq,not_or] at G;cases h;have B:=de R Q f (by rw[H];rfl);rw[H,C.ai,y] at B;have u:c.args.map a.eval=(C.az O V (c.args.toList.map (s.ev A.gl))).toArray:=by
  apply nH;simp only[yW,oI,oX];exact ky λx t=>de R Q x (by
   cases r:(s.ev A.gl x).fg;rfl;exact bB (nF.2 ⟨x,t,r⟩) G.1)
 refine⟨?_,λk z=>by rw[L] at z;cases z⟩;simp only[execOp,L,resolve,v,dD,B,Deferred.ofValue,fy,dC,invoke,u,G8];simp only[List.append_toArray,w,cX];cases h;cases h;cases h
def ana{a:Act}(X:aA p.S0 p.w0 D A.ty t x R a e)(G:eD A.gl x)(h:eu A R l=.bp r):
  (execOp a.eval l).run p.P e=.halt (.panic (r.ai x t)) e:=by
 unfold eu at h;split at h;rename_i Q H;split at h;rename_i N y L;cases h;have M:=de X G Q (by rw[L];rfl);rw[L] at M;simp[execOp,H,M,C.ai,Instr.panic];cases h;rename_i c H;split at h;split at h;split at h;cases h;exact(alF h).elim
 grind
 cases h;cases h;rename_i z;split at h;rename_i Q L;split at h;rename_i N y B;cases h;have M:=de X G Q (by rw[B];rfl);rw[B] at M;have:c.args.map a.eval= #[a.eval Q]:=by apply nH;simp[L]
 simp[execOp,H,resolve,z,invoke,builtin,this,M,C.ai,Instr.panic];cases h;cases h;cases h;cases h
def A8{a:Act}{R:World}{v:Value}{V:Act->World->Prop}{Q:Exit->Act->World->Prop}(N:qE F)(h:tw p.P l a e v R)(M:∀c,l.op≠ .defer c)(O:V (a.put l.dst v) R):l.wpIn F X p.P a e V Q:=by
 refine⟨λf _=>N.fn f, ?_⟩;rw[AK _ _ _ M];rcases h with h|⟨h,rfl⟩;rw[h];exact O;rw[h];exact O
def aeh{bM X:Bool}{b:BI}(h:eY A l bM X R=U b):∀c,l.op≠ .defer c:=by
 intro c G;simp[eY,G] at h
def ax9{X:S->Fx->T}{W:Fx}{t:T}(h:Cx A b R X W=U t):∀c,b.o.op≠ .defer c:=by
 intro c G;simp[Cx,G] at h
def Sq{X:S}(h:(gJ A b R).gives x X):∀c,b.o.op≠ .defer c:=by
 intro c G;unfold gJ at h;split at h;exact h.elim;rw[G] at h;simp[cw,xu,OR.gives] at h
def A9(ba:p.ty=A.ty)(bb:Nt p.P A)(hF:qE F)(an:jx p.P A.ty){B:jK}(hH:Sn p A D B G){n:Nat}{k:S->T}{kp:C->S->T}{Q:Exit->Act->World->Prop}(HP:∀ch a' N pd y,ef p.w0 D pd y a'.defers N->p.R (.panicked ch) N->Q (.panic ch) a' N):
  ∀(l:cQ)(j:Nat)(s:S)(fx:Fx)(L:dt)(O:aj)(V:ar)(a:Act)(W:World),
   (∀i m,l[i]?=U m->ops[j+i]?=U m.o)->B.lT s O V L->
   (lN A G ops k kp l s fx).aP p O L->vT O fx->aA p.S0 p.w0 D A.ty V O s a W->eD A.gl O->
   (∀H O' V' a' N L',bC s O V H O' V'->cU s.ax L L'->aA p.S0 p.w0 D A.ty V' O' H a' N->(k H).aP p O' L'->Q .normal a' N)->
   (∀v H O' V' a' N L',bC s O V H O' V'->cU s.ax L L'->aA p.S0 p.w0 D A.ty V' O' H a' N->(kp v H).aP p O' L'->Q (.panic [{v:=v.ai O' V',recovered:=E}]) a' N)->
   wpOpsIn F n p.P ops Q (yY j (Y l)) a W
 |[],j,s,fx,L,O,V,a,W,_,_,h,_,R,_,hk,_=>hk s O V a W L (bC.refl _ _ _) (cU.refl _ _) R h
 |m::af,j,s,fx,L,O,V,a,W,b6,hB,h,bx,R,hg,hk,a0=>by
  have ho:ops[j]?=U m.o:=by simpa using b6 0 m rfl
  have bd:∀i m',af[i]?=U m'->ops[j+1+i]?=U m'.o:=λi m' hi=>by
   have:=b6 (i+1) m' (by simpa using hi)
   rwa [show j+(i+1)=j+1+i from ae] at this
  simp only[n9,acq,wpOpsIn,ho];have b2:∀ag,vT O ag->
    (CA A G m s (lN A G ops k kp af) kp ag).aP p O L->
    m.o.wpIn F n p.P a W (wpOpsIn F n p.P ops Q (yY (j+1) (Y af))) Q:=by
   intro ag a1 h;unfold CA at h;have bq:∀g al,(G (.fn g) al s (λv H=>lN A G ops k kp af (H.put m.o.dst v) (qr s ag)) kp).aP p O L->((∀al W,(callFunc g al).run p.P W=.ok (.enter g al) W)->(execOp a.eval m.o).run p.P W=.ok (.enter g (C.az O V al).toArray) W)->(∀c,m.o.op≠ .defer c)->
     m.o.wpIn F n p.P a W (wpOpsIn F n p.P ops Q (yY (j+1) (Y af))) Q:=by
    intro g al h b3 bf;have hC:=hH L (.fn g) al s _ _ O V a W (λe N=>match e with|.returned v=>wpOpsIn F n p.P ops Q (yY (j+1) (Y af)) (a.put m.o.dst v) N|.panicked ch=>Q (.panic ch) a N|.outgrown=>LetsOut Q) hB h R hg
     (λv H O' V' N L' X hL R' hs=>A9 ba bb hF an hH HP af (j+1) (H.put m.o.dst v) (qr s ag) L' O' V' _ N bd (hB.go (X.put _ _) hL) hs
      (Km R X.ext.agree a1) (R'.put m.o.dst v) (hg.ext X.ext)
      (λM z x a2 w r aa ab R2 ac=>hk M z x a2 w r ((X.put _ _).trans aa) (hL.trans ab (X.put _ _).ax) R2 ac)
      (λv2 M z x a2 w r aa ab R2 ac=>a0 v2 M z x a2 w r ((X.put _ _).trans aa) (hL.trans ab (X.put _ _).ax) R2 ac))
     (λv H O' V' N L' X hL R' hs=>a0 v H O' V' a N L' X hL R' hs)
     (λch N pd y hA hR=>HP ch a N pd y hA hR)
    obtain⟨br,b4⟩:=hC;refine⟨λf _=>hF.fn f, ?_⟩;rw[AK _ _ _ bf,b3 br];rw[VE];refine⟨λhd=>by rw[hF.zx] at hd;simp at hd,CallsIn.mono (hF.calls b4) (λe N he=> ?_)⟩;cases e<;>exact he
   split at h;rename_i e ks vs al b7;obtain⟨g,bE,q1,q2⟩:=aeg (s:=s) (V:=V) h;refine bq g (al++bE) q2 (λbr=>(ax8 R hg b7 q1 br).1) ?_;intro c bg;simp[Cy,bg] at b7;split at h;rename_i u hu;obtain⟨aF,hr,h⟩:=h;obtain⟨al,tv,b3,bf,b4⟩:=ax4 bb R hg hu hr;refine⟨λf _=>hF.fn f, ?_⟩;rw[AK _ _ _ bf,b3];rw[VE];refine⟨λhd=>by rw[hF.zx] at hd;simp at hd,CallsIn.mono (hF.calls b4) (λe N he=> ?_)⟩;obtain⟨rfl,R',X⟩:=he;exact A9 ba bb hF an hH HP af (j+1) u.s (qr s ag) L _ V _ N bd (hB.go X (cU.refl _ _)) h (Km R X.ext.agree a1) R' (hg.ext X.ext)
    (λM z x a2 w r aa ab R2 ac=>hk M z x a2 w r (X.trans aa) ((cU.refl _ _).trans ab X.ax) R2 ac)
    (λv2 M z x a2 w r aa ab R2 ac=>a0 v2 M z x a2 w r (X.trans aa) ((cU.refl _ _).trans ab X.ax) R2 ac)
   split at h;rename_i g al bs;exact bq g al h (λbr=>WW R hg bs br) (λc bg=>by simp[eu,bg] at bs);rename_i yn al bs;split at h;have hC:=hH L (.yl yn) al s _ _ O V a W (λe N=>match e with|.returned v=>wpOpsIn F n p.P ops Q (yY (j+1) (Y af)) (a.put m.o.dst v) N|.panicked ch=>Q (.panic ch) a N|.outgrown=>LetsOut Q) hB h R hg
    (λv H O' V' N L' X hL R' hs=>A9 ba bb hF an hH HP af (j+1) (H.put m.o.dst v) (qr s ag) L' O' V' _ N bd (hB.go (X.put _ _) hL) hs
     (Km R X.ext.agree a1) (R'.put m.o.dst v) (hg.ext X.ext)
     (λM z x a2 w r aa ab R2 ac=>hk M z x a2 w r ((X.put _ _).trans aa) (hL.trans ab (X.put _ _).ax) R2 ac)
     (λv2 M z x a2 w r aa ab R2 ac=>a0 v2 M z x a2 w r ((X.put _ _).trans aa) (hL.trans ab (X.put _ _).ax) R2 ac))
    (λv H O' V' N L' X hL R' hs=>a0 v H O' V' a N L' X hL R' hs)
    (λch N pd y hA hR=>HP ch a N pd y hA hR)
   obtain⟨fn,cp,assign,body,hy,cc⟩:=hC F hF (n-1);refine⟨λf _=>hF.fn f, ?_⟩;have bf:∀c,m.o.op≠ .defer c:=λc bg=>by simp[eu,bg] at bs
   rw[AK _ _ _ bf,aef R hg bs,hy];rw[awb];refine⟨λhd=>by rw[hF.zx] at hd;simp at hd,RoundIn.mono cc (λe N he=> ?_)⟩;cases e<;>exact he;exact h.elim;rename_i v b8;refine⟨λf _=>hF.fn f, ?_⟩;have bf:∀c,m.o.op≠ .defer c:=λc bg=>by simp[eu,bg] at b8
   rw[AK _ _ _ bf,ana R hg b8];exact a0 v s O V a W L (bC.refl _ _ _) (cU.refl _ _) R h;exact h.elim;have b0:∀H b1,vT O b1->(gJ A m s).gives O H->(lN A G ops k kp af H b1).aP p O L->m.o.wpIn F n p.P a W (wpOpsIn F n p.P ops Q (yY (j+1) (Y af))) Q:=by
    intro H b1 cl ca hs;obtain⟨v,N,V',bt,R',X⟩:=Sc R an hg m ca;exact A8 hF bt (Sq ca) (A9 ba bb hF an hH HP af (j+1) H b1 L O V' _ N bd (hB.go X (cU.refl _ _)) hs cl R' hg
     (λM z x a2 w r aa ab R2 ac=>hk M z x a2 w r (X.trans aa) ((cU.refl _ _).trans ab X.ax) R2 ac)
     (λv2 M z x a2 w r aa ab R2 ac=>a0 v2 M z x a2 w r (X.trans aa) ((cU.refl _ _).trans ab X.ax) R2 ac))
   split at h;rename_i t ht;obtain⟨v,N,O',V',H,a3,bt,R',X,a4,h2⟩:=axU R an hg a1 ht h;exact A8 hF bt (ax9 ht) (A9 ba bb hF an hH HP af (j+1) H a3 L O' V' _ N bd (hB.go X (cU.refl _ _)) h2 a4 R' (hg.ext X.ext)
    (λM z x a2 w r aa ab R2 ac=>hk M z x a2 w r (X.trans aa) ((cU.refl _ _).trans ab X.ax) R2 ac)
    (λv2 M z x a2 w r aa ab R2 ac=>a0 v2 M z x a2 w r (X.trans aa) ((cU.refl _ _).trans ab X.ax) R2 ac))
   split at h;rename_i b hb;obtain⟨hn,h⟩:=h;obtain⟨v,N,rv,bt,cn,R',X⟩:=adZ R an hg hb hn;exact A8 hF bt (aeh hb) (A9 ba bb hF an hH HP af (j+1) b.s (qr s ag) L _ V _ N bd (hB.go X (cU.refl _ _)) (h rv (by rw[ba];exact cn)) (Km R X.ext.agree a1) R' (hg.ext X.ext)
    (λM z x a2 w r aa ab R2 ac=>hk M z x a2 w r (X.trans aa) ((cU.refl _ _).trans ab X.ax) R2 ac)
    (λv2 M z x a2 w r aa ab R2 ac=>a0 v2 M z x a2 w r (X.trans aa) ((cU.refl _ _).trans ab X.ax) R2 ac))
   split at h;rename_i H bk;exact b0 H ag a1 (by rw[bk];rfl) h;rename_i b H bk;exact b0 H ag a1 (by rw[bk];exact⟨h.1,rfl⟩) h.2;rename_i b s1 M bk;obtain⟨a3,a4,h2⟩:=aee a1 h;cases hb:b.ai O;exact b0 M a3 a4 (by rw[bk];simp[OR.gives,hb]) (by simpa[hb] using h2);exact b0 s1 a3 a4 (by rw[bk];simp[OR.gives,hb]) (by simpa[hb] using h2);exact h.elim
  have b5:∀ag,vT O ag->(lN A G ops k kp af (s.put m.o.dst (.bI [])) ag).aP p O L->wpOpsIn F n p.P ops Q (yY (j+1) (Y af)) (a.put m.o.dst undef) W:=
   λag a1 h=>A9 ba bb hF an hH HP af (j+1) _ ag L O V _ W bd (hB.go ((bC.refl _ _ _).put _ _) (cU.refl _ _)) h a1 (R.put m.o.dst (.bI [])) hg
    (λM z x a2 w r aa ab R2 ac=>hk M z x a2 w r (((bC.refl _ _ _).put _ _).trans aa) ((cU.refl _ _).trans ab ((bC.refl s O V).put _ _).ax) R2 ac)
    (λv2 M z x a2 w r aa ab R2 ac=>a0 v2 M z x a2 w r (((bC.refl _ _ _).put _ _).trans aa) ((cU.refl _ _).trans ab ((bC.refl s O V).put _ _).ax) R2 ac)
  simp only[lN,V9] at h;cases bc:m.o.guard with
  |none=>
   rw[bc] at h;have:lM m.o (yielded ops a.tmps)=true:=by simp[lM,bc]
   rw[aH this];exact b2 fx bx h
  |some q=>
   obtain⟨jj,co⟩:=q;rw[bc] at h;simp only at h;split at h;rename_i d hd;have hy:=am9 R hd;split at h;rename_i b hb;have bl:=hy.1 b hb;cases co;simp only[iZ,jE] at h;obtain⟨a3,a4,h2⟩:=aee bx h;cases a9:b.ai O;have:lM m.o (yielded ops a.tmps)=true:=by simp[lM,bc,bl,a9]
   rw[aH this];exact b2 a3 a4 (by simpa[a9] using h2);have:¬lM m.o (yielded ops a.tmps)=true:=by simp[lM,bc,bl,a9]
   rw[aJ this];exact⟨λf _=>hF.fn f,b5 a3 a4 (by simpa[a9] using h2)⟩;simp only[dP] at h;obtain⟨a3,a4,h2⟩:=aee bx h;cases a9:b.ai O;have:¬lM m.o (yielded ops a.tmps)=true:=by simp[lM,bc,bl,a9]
   rw[aJ this];exact⟨λf _=>hF.fn f,b5 a3 a4 (by simpa[a9] using h2)⟩;have:lM m.o (yielded ops a.tmps)=true:=by simp[lM,bc,bl,a9]
   rw[aH this];exact b2 a3 a4 (by simpa[a9] using h2);rename_i hb;have bl:=hy.2 hb;have:¬lM m.o (yielded ops a.tmps)=true:=by simp[lM,bc,bl]
   rw[aJ this];exact⟨λf _=>hF.fn f,b5 fx bx h⟩;exact h.elim;exact h.elim
end
section
variable{d:ar}{m:World}{D:bU}{o:Ty}{V:ar}{O:aj}{s:S}{a:Act}{W:World}
def WX(X:ar):∀(l:bm)(n i:Nat),(sZ X n l)[i]?=(l[i]?).map λx=>if X.contains (n+i) then x else Z
 |[],n,i=>by simp[sZ]|x::R,n,0=>by simp[sZ]
 |x::R,n,i+1=>by
  simp only[sZ,vw];rw[WX X R (n+1) i,show n+1+i=n+(i+1) from ae]
theorem aei:∀(l:bm)(i:Nat),bP (ut l) i=bP l i
 |[],i=>rfl
 |x::R,i=>by
  have X:=aei R;simp only[ut];split;rename_i Q;cases i with
  |zero=>simp[bT]
  |succ i=>
   have:=X i
   grind [bT]
  cases i with|zero=>simp[bT]|succ i=>simpa[bT] using X i
def anb{l:bm}{b:TypeId×aq}(h:bP (ut (sZ t 0 l)) X=U b):bP l X=U b:=by
 rw[aei,kC,WX] at h;rw[kC];cases R:l[X]? with
 |none=>rw[R] at h;cases h
 |some x=>
  rw[R] at h;simp only[ga,dX] at h;split at h;rw[h];cases h
def WY{l:bm}(h:aL (ut (sZ t 0 l)) X=J):aL l X=true:=by
 obtain⟨b,R⟩:=jC.1 h;simp[aL,anb R]
def jJ.adn{P:bm}{N:bo}(R:jJ d m V O P o N W)(L:ar):jJ d m V O (ut (sZ L 0 P)) o N W:=
 ⟨R.base,λi h=>R.own i (WY h),λi j X Q=>R.inj i j (WY X) (WY Q),λi t H h=>R.box i t H (anb h),
  λk e M X Q=>⟨(R.ak k e M X Q).1,λb G i F=>(R.ak k e M X Q).2 b G i (WY F)⟩⟩
def anc{l:bm}{i:Nat}{b:TypeId×aq}(h:bP (ut (l.take X)) i=U b):bP l i=U b:=by
 grind [aei,kC]
def WZ{l:bm}{i:Nat}(h:aL (ut (l.take X)) i=J):aL l i=true:=by
 obtain⟨b,R⟩:=jC.1 h;simp[aL,anc R]
def jJ.take{P:bm}{N:bo}(R:jJ d m V O P o N W)(n:Nat):jJ d m V O (ut (P.take n)) o N W:=
 ⟨R.base,λi h=>R.own i (WZ h),λi j X Q=>R.inj i j (WZ X) (WZ Q),λi t L h=>R.box i t L (anc h),
  λk e M X Q=>⟨(R.ak k e M X Q).1,λb H i G=>(R.ak k e M X Q).2 b H i (WZ G)⟩⟩
def uF:∀(X:aN)(s:S),(s.bW X).2.au=s.au/\(s.bW X).2.tmps=s.tmps/\(s.bW X).2.ax=s.ax/\(s.bW X).2.lk=s.lk
 |[],s=>⟨rfl,rfl,rfl,rfl⟩
 |k::X,s=>by
  simp only[S.bW];obtain⟨R,Q,P,N⟩:=uF X (s.fresh k).2;cases k<;>exact⟨R,Q,P,N⟩
def aej:∀(X:aN)(s:S),(s.bW X).2.pd=s.pd
 |[],s=>rfl
 |k::X,s=>by
  simp only[S.bW];rw[aej X (s.fresh k).2];cases k<;>rfl
def Hm:∀(X:aZ)(O:aj),(O.ext X).y=O.y
 |[],O=>rfl
 |x::X,O=>by
  simp only[aj.ext];rw[Hm X (O.add x)];cases x<;>rfl
def ane:∀(X:aN)(s:S)(k:Nat)(e:RK),s.rs[k]?=U e->(s.bW X).2.rs[k]?=U e
 |[],s,k,e,h=>h
 |q::X,s,k,e,h=>by
  simp only[S.bW];refine ane X _ k e ?_;cases q;exact h;exact h
  grind [S.fresh]
def xH:∀(X:aN)(R:aZ)(s:S)(O:aj),dL X R->Y O.i=s.ni->Y O.b=s.nb->Y O.r=Y s.rs->
  (O.ext R).i.length=(s.bW X).2.ni/\(O.ext R).b.length=(s.bW X).2.nb/\(O.ext R).r.length=(s.bW X).2.rs.length
 |[],[],s,O,_,Q,P,N=>⟨Q,P,N⟩|[],_::_,_,_,h,_,_,_=>by simp[dL] at h|_::_,[],_,_,h,_,_,_=>by simp[dL] at h
 |k::X,x::R,s,O,h,Q,P,N=>by
  obtain⟨L,M⟩:=h;simp only[S.bW,aj.ext];cases k<;>cases x<;>simp[qA] at L;exact xH X R _ _ M (by simp[S.fresh,aj.add,Q]) (by simp[S.fresh,aj.add,P]) (by simp[S.fresh,aj.add,N]);exact xH X R _ _ M (by simp[S.fresh,aj.add,Q]) (by simp[S.fresh,aj.add,P]) (by simp[S.fresh,aj.add,N]);exact xH X R _ _ M (by simp[S.fresh,aj.add,Q]) (by simp[S.fresh,aj.add,P]) (by simp[S.fresh,aj.add,N])
def Hn{PP:RK->RV->Prop}:∀(R:aN)(Q:aZ)(s:S)(O:aj),dL R Q->Y O.r=Y s.rs->
  (∀(q:Nat)(e:RK)(X:RV),R[q]?=U (.ak e)->Q[q]?=U (.r X)->PP e X)->(∀(k:Nat)(e:RK)(X:RV),s.rs[k]?=U e->O.r[k]?=U X->PP e X)->
  ∀(k:Nat)(e:RK)(X:RV),(s.bW R).2.rs[k]?=U e->(O.ext Q).r[k]?=U X->PP e X
 |[],[],s,O,_,_,_,M=>M|[],_::_,_,_,h,_,_,_=>by simp[dL] at h|_::_,[],_,_,h,_,_,_=>by simp[dL] at h
 |k::R,x::Q,s,O,h,L,F,M=>by
  obtain⟨B,H⟩:=h;have G:∀(q:Nat)(e:RK)(X:RV),R[q]?=U (.ak e)->Q[q]?=U (.r X)->PP e X:=λq e X N P=>F (q+1) e X (by simpa using N) (by simpa using P)
  simp only[S.bW,aj.ext];cases k<;>cases x<;>simp[qA] at B;exact Hn R Q _ _ H (by simp[S.fresh,aj.add,L]) G (by simpa[S.fresh,aj.add] using M);exact Hn R Q _ _ H (by simp[S.fresh,aj.add,L]) G (by simpa[S.fresh,aj.add] using M);rename_i A z;refine Hn R Q _ _ H (by simp[S.fresh,aj.add,L]) G ?_;intro k e X N P;simp only[S.fresh,aj.add] at N P;by_cases B:k<Y s.rs
  grind
  have y:k=Y s.rs:=by
   grind
  subst y;simp at N;rw[<-L] at P;simp at P;subst N P;exact F 0 A z rfl rfl
def Ho:aN->Nat
 |[]=>0|.ak _::X=>Ho X+1|_::X=>Ho X
def Nu:∀(X:aN)(P:aZ)(s:S)(O:aj),dL X P->Y O.r=Y s.rs->
  ∀(k:Nat)(e:RK)(R:RV),(s.bW X).2.rs[k]?=U e->(O.ext P).r[k]?=U R->(s.rs[k]?=U e/\O.r[k]?=U R)\/∃q:Nat,X[q]?=U (.ak e)/\P[q]?=U (.r R)/\k=Y s.rs+Ho (X.take q)
 |[],[],s,O,_,_,k,e,R,N,M=>.inl ⟨N,M⟩|[],_::_,_,_,h,_,_,_,_,_,_=>by simp[dL] at h|_::_,[],_,_,h,_,_,_,_,_,_=>by simp[dL] at h
 |B::X,x::P,s,O,h,L,k,e,R,N,M=>by
  obtain⟨A,G⟩:=h;simp only[S.bW,aj.ext] at N M;cases B<;>cases x<;>simp[qA] at A;rcases Nu X P _ _ G (by simp[S.fresh,aj.add,L]) k e R N M with Q|⟨q,Q⟩
  grind [S.fresh,aj.add]
  exact .inr ⟨q+1,by simpa[S.fresh,Ho] using Q⟩;rcases Nu X P _ _ G (by simp[S.fresh,aj.add,L]) k e R N M with Q|⟨q,Q⟩
  grind [S.fresh,aj.add]
  exact .inr ⟨q+1,by simpa[S.fresh,Ho] using Q⟩;rename_i y w;rcases Nu X P _ _ G (by simp[S.fresh,aj.add,L]) k e R N M with⟨F,H⟩|⟨q,Q⟩;simp only[S.fresh,aj.add] at F H;by_cases v:k<Y s.rs
  grind
  have z:k=Y s.rs:=by
   grind
  subst z;simp at F;rw[<-L] at H;simp at H;subst F H;exact .inr ⟨0,rfl,rfl,by simp[Ho]⟩;refine .inr ⟨q+1,by simpa using Q.1,by simpa using Q.2.1, ?_⟩
  grind [S.fresh,Ho]
def anf:∀{ks:aN}{q:Nat}{e:RK},ks[q]?=U (.ak e)->MH ks=J
 |[],q,e,h=>by simp at h|k::ks,0,e,h=>by simp at h;subst h;rfl
 |k::ks,q+1,e,h=>by
  have:=anf (ks:=ks) (q:=q) (by simpa using h);cases k<;>first|exact this|rfl
def W0:∀{R:aN}{q:Nat}{k:LK},mW R=J->R[q]?=U k->J3 k=J
 |[],q,k,_,h=>by simp at h|Q::R,0,k,X,h=>by simp only[mW,aC] at X;simp at h;subst h;exact X.1|Q::R,q+1,k,X,h=>by simp only[mW,aC] at X;exact W0 X.2 (by simpa using h)
def W5{B:Nat}{M:Nat->Prop}:∀{N:aN}{P:aZ},CL o W B M N P->∀(q:Nat)(e:RK)(X:RV),N[q]?=U (.ak e)->P[q]?=U (.r X)->bG W o e X/\∀b,dW o e X b->B<=b\/M b
 |[],P,_,q,e,X,R,_=>by simp at R|_::_,[],_,q,e,X,_,Q=>by simp at Q|k::N,x::P,h,0,e,X,R,Q=>by simp at R Q;subst R Q;exact h.1|k::N,x::P,h,q+1,e,X,R,Q=>W5 h.2 q e X (by simpa using R) (by simpa using Q)
def aA.called(R:aA d m D o V O s a W)(w:s.bd=J){P:aN}(g:mW P=J){N:aZ}(B:dL P N)(v:Below W.heap.size W e){f:Nat->Prop}(ho:∀b,f b->O.ph o s.rs b/\∀(k:Nat)(X:TypeId)(Q:RV),s.rs[k]?=U (.own X)->O.r[k]?=U Q->Q.lx=U b->MH P=E)
  (c:CL o e W.heap.size f P N):
  aA d m D o V (O.ext N) (s.bW P).2 a e:=by
 obtain⟨L,e2,e3,e4⟩:=uF P s;obtain⟨l1,l2,l3⟩:=xH P N s O B R.ei R.eb R.er;obtain⟨aa,ab⟩:=R.zv w;have hE:=CN s.au O N V;have H:=R.mem.below v;refine⟨⟨H.base,by rw[L];exact H.own,by rw[L];exact H.inj, ?_, ?_⟩,by rw[L];exact R.gE,l1,l2,l3,by rw[Hm,aej];exact R.dm.below v,by rw[e2];exact R.size, ?_, ?_⟩;rw[L];intro i t cs h;rw[hE.bL (tq ab h)];exact H.box i t cs h;rw[L];refine Hn (PP:=λX Q=>bG e o X Q/\∀b,dW o X Q b->∀i,aL s.au i=J->ad V i≠b) P N s O B R.er ?_ (λk X Q M G=>H.ak k X Q M G);intro q X Q M G;obtain⟨u,h4⟩:=W5 c q X Q M G;refine⟨u,λb w i hi=> ?_⟩;rcases h4 b w with A|A;have:=R.mem.lt hi;omega;obtain⟨⟨k,z,hk,hx⟩,-⟩:=ho b A;exact(R.mem.ak k _ _ hk (uE R hk)).2 b hx i hi;rw[e2];intro t sv h;rcases R.tmps t sv h with M|M
 grind
 right;rw[hE.ai (xD aa h)];exact M;rw[L];intro k X Q b M G u;rcases Nu P N s O B R.er k _ Q M G with⟨n,g2⟩|⟨q,n,g2,-⟩;have t:=R.eP k X Q b n g2 u;have y:=t.world (v.block b t.lt);refine⟨y.own,y.mem,y.box,λk' z l q1 q2 q3 x=> ?_,y.inner⟩;rcases Nu P N s O B R.er k' z l q2 q3 with⟨F,j⟩|⟨q,F,j,-⟩;exact t.alone k' z l q1 F j x;have hr:=anf F;obtain⟨p3,p4⟩:=W5 c q z l F j;rcases x with x|⟨⟨t0,rfl⟩,_⟩;rcases p4 b x with A|A;have:=t.lt;omega
 grind
 have:=W0 g F;simp[J3] at this;have:=W0 g n;simp[J3] at this
def aek(R:aA d m D o V O s a W){M:aq}{H:aN}{b:Nat}(h:O.ph o (J4 M s.rs) b):
  O.ph o (EI M H s.rs) b/\∀(k:Nat)(e:TypeId)(L:RV),(EI M H s.rs)[k]?=U (.own e)->O.r[k]?=U L->L.lx=U b->MH H=false:=by
 obtain⟨Q,u,X,B⟩:=h;unfold J4 at X;rw[adJ] at X;cases P:s.rs[Q]? with
 |none=>rw[P] at X;cases X
 |some x=>
  rw[P] at X;simp only[jp,ga,dX] at X;have A:=amm ((Rq M (Y s.rs)).contains Q) x;rw[X] at A;have N:dW o x (O.rv Q) b:=B.lR A;refine⟨?_,λk e L G y w=> ?_⟩;unfold EI;split;refine⟨Q,AP ((Rq M (Y s.rs)).contains Q) x,by rw[Nh,P];simp, ?_⟩;cases x<;>simp only[AP]<;>try exact N
  split;cases N with|own e L b N=>exact N
  exact N;exact⟨Q,x,P,N⟩;unfold EI at G;split at G;rename_i t;exfalso;obtain⟨F,v⟩:=adQ G;by_cases z:Q=k;subst z;rw[P] at F;cases F;simp only[Rj] at X;rw[aJ (by simpa using v)] at X;subst X;cases B;exact(R.eP k e L b F y w).alone Q x (O.rv Q) z P (uE R P) (.inl N)
  grind
def CX(R:aq)(Q:aN)(X:bo):rj X (EI R Q X):=by
 unfold EI;split;exact RZ _ _;exact rj.refl _
end
section
variable{p:Sp}{c:bv}
def ang(w:p.ty=c.ty)(n:∀g,(c.sig g).isSome=J->∀X W,(callFunc g X).run p.P W=.ok (.enter g X) W)
  (D:bU)(L:dt)(g:FuncId)(X:aq)(s:S)(k:C->S->T)(O:aj)(V:ar)(a:Act)(W:World)(B:Ending->World->Prop)
  (h:(AU c g X s k).aP p O L)(R:aA p.S0 p.w0 D c.ty V O s a W)
  (j:∀v A H z Q u,bC s O V A H z->cU s.ax L u->aA p.S0 p.w0 D c.ty z H A a Q->(k v A).aP p H u->B (.returned (v.ai H z)) Q)
  (i:∀G Q f y,ef p.w0 D f y a.defers Q->p.R (.panicked G) Q->B (.panicked G) Q):
  (∀X W,(callFunc g X).run p.P W=.ok (.enter g X) W)/\Calls p.P g (C.az O V X).toArray W B:=by
 unfold AU at h;split at h;rename_i ts aa;refine⟨n g (by rw[aa];rfl), ?_⟩;split at h;rename_i M ac;split at h;rename_i l hl;split at h;rename_i N;simp only[S.eX,aC,akX] at N;obtain⟨⟨N,ab⟩,hv⟩:=N;simp only[T.aP,hv] at h;have:=h O.y V W (by rw[w];exact(R.mem.adn _).lR (adK _ _));refine this.mono ?_;intro e Q F;cases e with
 |returned v=>
  obtain⟨x,h1,t,h3,r,h5⟩:=F;rw[w] at r;obtain⟨q,e2,e3,e4⟩:=uF M (s.cut X M);have hy:(O.ext x).at O.y=O.ext x:=by have:=Hm x O;unfold aj.at;rw[<-this]
  rw[hy] at t;subst t;have R1:aA p.S0 p.w0 D c.ty V O (s.cut X M) a W:=R.lR (CX X M s.rs);exact j _ _ _ V Q L ⟨CN _ _ _ _,by rw[q];exact λ_ h=>h,by rw[q];exact cd _,by rw[e3];exact cd _⟩ (cU.refl _ _) (R1.called (Nl N.1 (CX X M s.rs).len) ab h1 h3 (λb N=>aek R N) r) h5
 |panicked G=>exact i G Q _ _ (R.dm.below F.1) F.2|outgrown=>exact F.elim
 exact h.elim;exact h.elim;exact h.elim;exact h.elim
def ael{d:ar}{m:World}{D:bU}{V:ar}{O:aj}{s:S}{a:Act}{W:World}(R:aA d m D c.ty V O s a W)(M:jx p.P c.ty)(f:ResultVar->Sem Value)(L:∀t,f (.tmp t)=pure (a.tmps.getD t undef))(H:∀x t,f (.cell x t)=(asAddr (a.tmps.getD x undef)>>=λy=>loadVar t y)):
  ∀(X:nK)(l:aq),uv c s X=U l->(X.mapM f).run p.P W=.ok (C.az O V l) W
 |[],l,h=>by simp[uv] at h;subst h;rfl
 |.tmp t::X,l,h=>by
  simp only[uv] at h;split at h;rename_i G F;split at h;cases h;rename_i z;cases h;have N:=de (gl:=[]) R (λ_ Q=>by cases Q) (.tmp t) (by simpa[S.ev,zf] using z);simp only[Act.eval,S.ev,zf] at N;simp only[awr,dD,L,fy,dC,ael R M f L H X G F,C.az,N];cases h
 |.cell x t::X,l,h=>by
  simp only[uv] at h;split at h;rename_i G i g e F Q w;split at h;rename_i u r B;split at h;rename_i v q;cases h;have N:=de (gl:=[]) R (λ_ Q=>by cases Q) (.tmp x) (by simp only[S.ev,zf,Q];rfl);simp only[Act.eval,S.ev,zf,Q,C.ai] at N;have A:=Wv (P:=p.P) (W:=W) (M _ _ w) (O:=O) (V:=V) (b:=ad V i) (base:=0) q (λj y n=>by
   obtain⟨B,k⟩:=AZ B;have:=R.mem.box i u r B;rw[qC k] at this;simp[oF,this,uB,n])
  simp only[Instr.loadAt,Instr.sureAddr,jp,dD,fy,dC] at A;simp only[awr,dD,H,N,asAddr,fy,dC,A,ael R M f L H X G F,C.az];cases h;cases h;cases h
def Kq{D:bU}{V:ar}{a:Act}{W:World}(X:aA t e D c.ty V x R a W)(N:jx p.P c.ty){Q:Func}{l:aq}(h:uv c R Q.results.toList=U l):
  (results Q a.tmps).run p.P W=.ok ((one l).ai x V) W:=by
 unfold results;rw[aIV];simp only[dD,Sem.run_map];rw[ael X N _ (λ_=>rfl) (λ_ _=>rfl) Q.results.toList l h];simp only[dC,fy];congr 1
 match l with|[]=>rfl|[v]=>rfl|v::w::r=>rfl
end
section
variable{c:ar}{d:World}{D:bU}{f:bv}{V:ar}{O:aj}{s:S}{a:Act}{W:World}
def uG(W:World):List (Nat×Obj)->World
 |[]=>W|x::l=>uG (W.putObj x.1 x.2) l
def W6:∀{l:List (Nat×Obj)}{W:World},(uG W l).heap.size=W.heap.size
 |[],_=>rfl|x::l,W=>by rw[uG,W6 (l:=l)];simp
theorem Ss:∀{l:List (Nat×Obj)}{W:World}{k:Nat},k∉l.map (·.1)->(uG W l).heap[k]?=W.heap[k]?
 |[],_,_,_=>rfl
 |x::l,W,k,h=>by
  simp only[dH,ey,not_or] at h;rw[uG,Ss h.2,uj h.1]
def aem:∀{l:List (Nat×Obj)}{W:World}{x:Nat×Obj},(l.map (·.1)).Nodup->x∈l->x.1<W.heap.size->(uG W l).heap[x.1]?=U x.2
 |[],_,_,_,h,_=>by simp at h
 |y::l,W,x,X,h,R=>by
  simp only[dH,Eu] at X;rw[uG];rcases ey.1 h with rfl|h;rw[Ss X.1,avW R];exact aem X.2 h (by simpa using R)
def aen:∀{l:List (Nat×Obj)}{W:World},(uG W l).os=W.os/\(uG W l).tape=W.tape/\(uG W l).output=W.output/\(uG W l).drawn=W.drawn
 |[],_=>⟨rfl,rfl,rfl,rfl⟩|x::l,W=>by rw[uG];exact aen (l:=l)
def aya{w:World}(X:e.os=w.os)(R:e.tape=w.tape)(Q:e.output=w.output)(P:e.drawn=w.drawn)(N:∀k:Nat,e.heap[k]?=w.heap[k]?):e=w:=by
 have:e.heap=w.heap:=by
  apply nH;apply kX
  grind
 cases e;cases w;simp_all
def anh{Q:Ty}{B:Nat}{N:Nat->Prop}:∀{P:aN}{X:aZ},(∀(q:Nat)(e:RK)(R:RV),P[q]?=U (.ak e)->X[q]?=U (.r R)->bG W Q e R/\∀b,dW Q e R b->B<=b\/N b)->CL Q W B N P X
 |[],X,_=>by cases X<;>trivial
 |_::_,[],_=>trivial
 |k::P,x::X,h=>by
  refine⟨?_,anh λq e R M L=>h (q+1) e R (by simpa using M) (by simpa using L)⟩;cases k<;>cases x<;>try trivial
  exact h 0 _ _ rfl rfl
def aA.ani:∀{l:List (Nat×TypeId×aq)}{s:S}{W:World},aA c d D f.ty V O s a W->(∀x∈l,∃P,bP s.au x.1=U (x.2.1,P))->
  aA c d D f.ty V O (s.o7 l) a (uG W (l.map λx=>(ad V x.1,j9 x.2.1 (C.bL O V x.2.2))))
 |[],_,_,R,_=>R
 |x::l,s,W,R,h=>by
  obtain⟨P,Q⟩:=h x aw;refine aA.ani (l:=l) (R.WO (cs':=x.2.2) Q) λy N=> ?_
  obtain⟨M,X⟩:=h y (by simp[N]);have L:x.1<Y s.au:=(du.1 (kC.1 Q)).1;by_cases e:y.1=x.1;refine⟨x.2.2, ?_⟩;rw[e,S.cY,E2 L];rw[e,Q] at X;simp only[dX,JE] at X;rw[X.1];exact⟨M,by rw[S.cY,xG e];exact X⟩
def aA.ayb(R:aA c d D f.ty V O s a W)(B:s.bd=J){M:aN}(aa:mW M=J){P:aZ}(hf:dL M P)
  {rw:List (Nat×TypeId×aq)}(t:∀x∈rw,∃o,bP s.au x.1=U (x.2.1,o))(al:(rw.map (·.1)).Nodup)
  (L:fq (rw.map λx=>ad V x.1) W e)(hN:∀x∈rw,e.heap[ad V x.1]?=U (j9 x.2.1 (C.bL (O.ext P) V x.2.2)))
  {A:Nat->Prop}(n:∀b,A b->O.ph f.ty s.rs b/\∀(k:Nat)(X:TypeId)(z:RV),s.rs[k]?=U (.own X)->O.r[k]?=U z->z.lx=U b->MH M=E)
  (hh:CL f.ty e W.heap.size A M P):
  aA c d D f.ty V (O.ext P) ((s.bW M).2.o7 rw) a e:=by
 obtain⟨e1,e2,e3,e4⟩:=uF M s;have w:∀x∈rw,aL s.au x.1=true:=λx Q=>by obtain⟨o,h⟩:=t x Q;simp[aL,h]
 have an:∀x∈rw,∀y∈rw,ad V x.1=ad V y.1->x.1=y.1:=λx Q y hy h=>R.mem.inj _ _ (w x Q) (w y hy) h
 have ab:∀x∈rw,ad V x.1<W.heap.size:=λx Q=>R.mem.lt (w x Q)
 obtain⟨F,m⟩:∃F:List (Nat×Obj),F=rw.map λx=>(ad V x.1,(W.heap[ad V x.1]?).getD (.cells #[] 0 (0,0))):=⟨_,rfl⟩
 obtain⟨H,N⟩:∃H,H=uG e F:=⟨_,rfl⟩;have u:F.map (·.1)=rw.map λx=>ad V x.1:=by rw[m];simp
 have j:(rw.map λx=>ad V x.1).Nodup:=by
  have h0:∀l:List (Nat×TypeId×aq),(∀x∈l,x∈rw)->(l.map (·.1)).Nodup->(l.map λx=>ad V x.1).Nodup:=by
   intro l;induction l with
   |nil=>intro _ _;exact List.nodup_nil
   |cons y l ih=>
    grind
  grind
 obtain⟨i,g,r3,r4⟩:=aen (l:=F) (W:=e);have hB:Below W.heap.size W H:=by
  rw[N];refine⟨i.trans L.os,g.trans L.tape,r3.trans L.output,by rw[W6];exact L.size,λk v=> ?_⟩;by_cases G:k∈rw.map λx=>ad V x.1
  obtain⟨x,Q,rfl⟩:=fo.1 G;have hg:(ad V x.1,(W.heap[ad V x.1]?).getD (.cells #[] 0 (0,0)))∈F:=by rw[m];exact fo.2 ⟨x,Q,rfl⟩
  have:=aem (W:=e) (by rw[u];exact j) hg (by have:=L.size;simp only;omega)
  grind
  rw[Ss (by rw[u];exact G)];exact L.block k v G
 have ac:∀b,(W.heap.size<=b\/A b)->b∉rw.map λx=>ad V x.1:=by
  intro b B G;obtain⟨x,Q,rfl⟩:=fo.1 G;rcases B with h|h
  grind
  obtain⟨⟨k,e',v,hl⟩,-⟩:=n _ h;exact(R.mem.ak k _ _ v (uE R v)).2 _ hl x.1 (w x Q) rfl
 have af:CL f.ty H W.heap.size A M P:=by
  refine anh (λq X z h1 h2=> ?_);obtain⟨h3,h4⟩:=W5 hh q X z h1 h2;exact⟨h3.Kf (λb B=>by rw[N,Ss (by rw[u];exact ac b (h4 b B))]) (by rw[N,W6];exact cd _),h4⟩
 have R1:=R.called B aa hf hB n af;have R2:=R1.ani (l:=rw) (λx Q=>by rw[e1];exact t x Q);have a0:uG H (rw.map λx=>(ad V x.1,j9 x.2.1 (C.bL (O.ext P) V x.2.2)))=e:=by
  obtain⟨q1,q2,q3,q4⟩:=aen (l:=rw.map λx=>(ad V x.1,j9 x.2.1 (C.bL (O.ext P) V x.2.2))) (W:=H);have ag:(rw.map λx=>(ad V x.1,j9 x.2.1 (C.bL (O.ext P) V x.2.2))).map (·.1)=rw.map λx=>ad V x.1:=aw
  have a1:H.heap.size=e.heap.size:=by rw[N,W6]
  refine aya (q1.trans (by rw[N];exact i)) (q2.trans (by rw[N];exact g)) (q3.trans (by rw[N];exact r3)) (q4.trans (by rw[N];exact r4)) λk=> ?_
  by_cases G:k∈rw.map λx=>ad V x.1
  obtain⟨x,Q,rfl⟩:=fo.1 G;rw[hN x Q];exact aem (x:=(ad V x.1,j9 x.2.1 (C.bL (O.ext P) V x.2.2))) (by rw[ag];exact j) (fo.2 ⟨x,Q,rfl⟩) (by have:=ab x Q;have:=L.size;simp only;omega)
  grind [Ss]
 grind
end
section
variable{p:Sp}{f:bv}{D:bU}{V:ar}{O:aj}{s:S}{a:Act}{W:World}
def ayc(F:p.ty=f.ty){Q:VI}{N:aq}{M:aN}{m:Nat}{X:aj->Prop}(H:s.bd=J)(w:mW M=J)
  (u:∀x∈Q.out,∃t,bP s.au x.1=U (x.2.1,t))(r:(Q.out.map (·.1)).Nodup)
  (h:alK p Q N (ut (s.au.take m)) (J4 N s.rs) M O X)(R:aA p.S0 p.w0 D f.ty V O s a W):
  Calls p.P Q.g (C.az O V (N.take Q.n)++C.az O V Q.bE).toArray W λe B=>e=.returned (.tuple #[])/\∃L,aA p.S0 p.w0 D f.ty V (O.ext L) (((s.cut N M).bW M).2.o7 Q.out) a B/\X (O.ext L):=by
 have:=h O.y V W (by rw[F];exact(R.mem.take m).lR (adK _ _));refine this.mono ?_;intro e B G;cases e with
 |returned v=>
  obtain⟨L,q,rfl,o,A,z,l⟩:=G;rw[F] at z;have k:(O.ext L).at O.y=O.ext L:=by have:=Hm L O;unfold aj.at;rw[<-this]
  rw[k] at A;have j:aA p.S0 p.w0 D f.ty V O (s.cut N M) a W:=R.lR (CX N M s.rs);exact⟨rfl,L,j.ayb (Nl H (CX N M s.rs).len) w q u r o A (λb H=>aek R H) z,l⟩
 |panicked i=>exact G.elim|outgrown=>exact G.elim
end
def aeo:∀(l:List (Nat×TypeId×aq))(s:S),(s.o7 l).tmps=s.tmps/\(s.o7 l).ax=s.ax/\(s.o7 l).lk=s.lk/\(s.o7 l).pd=s.pd/\(s.o7 l).rs=s.rs/\(s.o7 l).ni=s.ni/\(s.o7 l).nb=s.nb/\(s.o7 l).au.length=Y s.au
 |[],s=>⟨rfl,rfl,rfl,rfl,rfl,rfl,rfl,rfl⟩
 |x::l,s=>by
  obtain⟨X,R,Q,P,N,M,L,H⟩:=aeo l (s.cY x.1 x.2.1 x.2.2)
  grind [S.o7,S.cY]
def anj:∀(l:List (Nat×TypeId×aq))(s:S)(i:Nat),aL s.au i=J->aL (s.o7 l).au i=J
 |[],_,_,h=>h
 |x::l,s,i,h=>by
  refine anj l _ i ?_;simp only[S.cY];by_cases e:i=x.1;subst e;obtain⟨b,X⟩:=jC.1 h;have R:=(du.1 (kC.1 X)).1;simp[aL,E2 R];simp only[aL,xG e];exact h
def ank:∀l:List (Nat×TypeId),Wb (l.map λx=>C.iP x.1 x.2 0 0)=l
 |[]=>rfl|x::l=>by simp only[dH,Wb,ank l]
def ayd(X:VI):zm X.sv=U X:=by
 have R:kz 3999999 (4000000+X.g)=true:=by rw[Nat.blt_eq];omega
 simp only[VI.sv,zm,R,cond_true,Vw,rN,ank]
def Nv:∀{l:List LB}{k i:Nat}{t:TypeId},(i,t)∈eC k l->k<=i/\l[i-k]?=U (.rw t)
 |[],k,i,t,h=>by simp[eC] at h
 |b::l,k,i,t,h=>by
  have X:(i,t)∈eC (k+1) l->k<=i/\(b::l)[i-k]?=U (.rw t):=λh=>by
   obtain⟨Q,P⟩:=Nv h
   grind
  cases b with
  |rw R=>
   grind [eC,JE]
  |no=>exact X (by simpa[eC] using h)|ro R=>exact X (by simpa[eC] using h)|st R N=>exact X (by simpa[eC] using h)
def anl:∀{l:List LB}{k:Nat},((eC k l).map (·.1)).Nodup
 |[],k=>by simp[eC]
 |b::l,k=>by
  have X:=anl (l:=l) (k:=k+1);cases b with
  |rw t=>
   simp only[eC,dH,Eu];refine⟨λh=> ?_,X⟩;obtain⟨⟨i,Q⟩,R,P⟩:=fo.1 h;have:=(Nv R).1;omega
  |no=>exact X|ro t=>exact X|st t N=>exact X
def Nw{B:Ty}:∀{l:List LB}{X:bm}{H:aq},kJ B l X=U H->∀(i:Nat)(t:TypeId),l[i]?=U (.rw t)->∃R,bP X i=U (t,R)/\mT t=E
 |[],_,_,_,i,t,h=>by simp at h
 |b::l,X,H,h,i,t,Q=>by
  cases b with
  |no=>
   simp only[kJ] at h;cases i with
   |zero=>simp at Q
   |succ i=>
    obtain⟨R,L,P⟩:=Nw h i t (by simpa using Q);refine⟨R, ?_,P⟩;cases X with|nil=>simp[bT] at L|cons x X=>simpa[bT] using L
  |ro G=>
   cases X with
   |nil=>simp[kJ] at h
   |cons x X=>
    cases x with
    |none=>simp[kJ] at h
    |some x=>
     simp only[kJ] at h;split at h;split at h;rename_i v r L P;cases i with|zero=>simp at Q|succ i=>obtain⟨R,N,M⟩:=Nw P i t (by simpa using Q);exact⟨R,by simpa[bT] using N,M⟩
     cases h;cases h
  |rw G=>
   cases X with
   |nil=>simp[kJ] at h
   |cons x X=>
    cases x with
    |none=>simp[kJ] at h
    |some x=>
     simp only[kJ] at h;split at h;rename_i F;simp at F;split at h;rename_i v r L P;cases i with
     |zero=>
      grind [JA,LB.rw.injEq,bT,F.1]
     |succ i=>obtain⟨R,N,M⟩:=Nw P i t (by simpa using Q);exact⟨R,by simpa[bT] using N,M⟩
     cases h;cases h
  |st G gK=>
   cases X with
   |nil=>simp[kJ] at h
   |cons x X=>
    cases x with
    |none=>simp[kJ] at h
    |some x=>
     simp only[kJ] at h;split at h;cases i with|zero=>simp at Q|succ i=>obtain⟨R,N,M⟩:=Nw h i t (by simpa using Q);exact⟨R,by simpa[bT] using N,M⟩
     cases h
section
variable{p:Sp}{f:bv}
def aye(aa:p.ty=f.ty)(ab:∀g,(f.sig g).isSome=J->∀Q W,(callFunc g Q).run p.P W=.ok (.enter g Q) W)
  (D:bU)(L:dt)(g:FuncId)(X:sW)(Q:aq)(s:S)(k:C->S->T)(O:aj)(V:ar)(a:Act)(W:World)(r:Ending->World->Prop)
  (h:(Wc f g X Q s k).aP p O L)(R:aA p.S0 p.w0 D f.ty V O s a W)
  (hk:∀v B N A M o,bC s O V B N A->cU s.ax L o->aA p.S0 p.w0 D f.ty A N B a M->(k v B).aP p N o->r (.returned (v.ai N A)) M):
  (∀Q W,(callFunc g Q).run p.P W=.ok (.enter g Q) W)/\Calls p.P g (C.az O V Q).toArray W r:=by
 unfold Wc at h;split at h;rename_i u H ac a3;split at h;rename_i l hl;split at h;rename_i G;simp only[S.eX,aC,dq] at G;obtain⟨⟨⟨⟨⟨hb,ce⟩,af⟩,a4⟩,fH⟩,F⟩:=G;refine⟨ab g (by rw[fH];rfl), ?_⟩;simp only[T.aP,ayd] at h;have ag:∀x∈VI.out ⟨g,X.n,X.bE,eC 0 X.bx,l⟩,(x.1,x.2.1)∈eC 0 X.bx:=λx t=>by
  obtain⟨⟨q,v⟩,hq,rfl⟩:=fo.1 t;exact(acu hq).1
 have al:∀x∈VI.out ⟨g,X.n,X.bE,eC 0 X.bx,l⟩,∃m,bP s.au x.1=U (x.2.1,m):=λx t=>by
  obtain⟨-,h2⟩:=Nv (ag x t);obtain⟨m,h3,-⟩:=Nw ac x.1 x.2.1 (by simpa using h2)
  grind
 have an:((VI.out ⟨g,X.n,X.bE,eC 0 X.bx,l⟩).map (·.1)).Nodup:=by
  have h1:∀(a:List (Nat×TypeId))(b:aq),(a.map (·.1)).Nodup->(((a.zip b).map λx=>(x.1.1,x.1.2,x.2.cells)).map (·.1)).Nodup:=by
   intro a;induction a with
   |nil=>intro b _;simp
   |cons x a ih=>
    intro b F;cases b with
    |nil=>simp
    |cons y b=>
     simp only[dH,Eu] at F;simp only[Es,dH,Eu];refine⟨λG=>F.1 ?_,ih b F.2⟩;obtain⟨z,hz,a0⟩:=fo.1 G;obtain⟨w,hw,rfl⟩:=fo.1 hz;exact fo.2 ⟨w.1,(acu hw).1,a0⟩
  exact h1 _ _ anl
 have hR:=ayc aa hb af al an h R;have a1:C.az O V Q=C.az O V ((Q.take X.n++u).take X.n)++C.az O V X.bE:=by
  grind [Nat.min_self,C.pj,G8,Jx]
 rw[a1];refine hR.mono ?_;rintro e M ⟨rfl,xs,R2,h5⟩;obtain⟨q1,q2,q3,q4,q5,q6,q7,q8⟩:=aeo (VI.out ⟨g,X.n,X.bE,eC 0 X.bx,l⟩) ((s.cut (Q.take X.n++u) H).bW H).2;obtain⟨j,e2,e3,e4⟩:=uF H (s.cut (Q.take X.n++u) H);exact hk (.bI []) _ _ V M L ⟨CN _ _ _ _,λi hi=>anj _ _ i (by rw[j];exact hi),by rw[q8,j];exact cd _,by rw[q2,e3];exact cd _⟩ (cU.refl _ _) R2 h5;exact h.elim;exact h.elim;exact h.elim
end
def St:aq:=[.loc 0 0,.loc 5 0,.loc 2 0,.loc 3 0,.loc 6 0]
def aep:List (FuncId×sW):=[(18,⟨308,3,[44,39,3,41,44,3,3,65],St,[.ro 41,.ro 44,.ro 3,.rw 3,.rw 65,.st 66 [.fn (1000000+17) [.loc 4 0]],.st 67 [.fn 18 St]]⟩)]
def oM(v:FuncId):Option (FuncId×sW):=aep.find? λx=>x.2.v==v
def ayf(g:FuncId):Option sW:=(aep.find? λx=>x.1==g).map (·.2)
def Nx(X:FuncId->mi)(f:FuncId):mi:=match oM f with|U x=>U x.2.ps|none=>X f
def Ny(X:FuncId->mi)(f:FuncId):mi:=match oM f with|U x=>U ((eC 0 x.2.bx).map (·.2))|none=>X f
def Nz(V:Ty)(f:FuncId)(W:aq)(R:bm)(fA:C):Bool:=match oM f,zm fA with
 |Z,Z=>J
 |U (g,L),U X=>X.g==g&&X.n==L.n&&C.og X.bE L.bE&&decide (X.rw=eC 0 L.bx)&&(Y X.l==Y X.rw)&&decide (L.n<=Y W)&&(match kJ V L.bx R with|U Q=>C.og Q (W.drop L.n)|none=>E)
 |_,_=>E
section
variable{d:ar}{m:World}{D:bU}{ty:Ty}{V:ar}{O:aj}{s:S}{a:Act}{W:World}
def XV.at(k:LK):XV->Value
 |.i n=>match k with|.int k=>.int k n|_=>undef
 |.b x=>.bool x|.r v=>v.val
def XV.Su(k:LK)(x:XV):RV:=match x with|.r v=>v|x=>.mk (x.at k) []
def ayg{k:LK}(h:EH R k r=J):(r.xv x).Su k=r.gf x t:=by
 unfold EH at h;split at h;simp at h;subst h;rfl;rfl;rfl;rfl;rfl;rfl;cases h
def anm{V1:ar}{k:LK}(h:EH R k r=J):(r.xv x).at k=r.ai x V1/\qA k (r.xv x):=by
 unfold EH at h;split at h;simp at h;subst h;exact⟨rfl,trivial⟩;exact⟨rfl,trivial⟩;exact⟨rfl,trivial⟩;exact⟨rfl,trivial⟩;exact⟨rfl,trivial⟩;exact⟨rfl,trivial⟩;cases h
def ann{N:S}:∀{X:aN}{R:aq},ux N X R=J->Y X=Y R/\∀(q:Nat)(k:LK)(v:C),X[q]?=U k->R[q]?=U v->EH N k v=J
 |[],[],_=>⟨rfl,λq k v h _=>by simp at h⟩|[],_::_,h=>by simp[ux] at h|_::_,[],h=>by simp[ux] at h
 |k::X,v::R,h=>by
  simp only[ux,aC] at h;obtain⟨M,L⟩:=ann h.2;refine⟨by simp[M],λq H G Q P=> ?_⟩;cases q with|zero=>simp at Q P;subst Q P;exact h.1|succ q=>exact L q H G (by simpa using Q) (by simpa using P)
def aeq{Q:S}{O1:aj}:∀{X:aN}{R:aq},ux Q X R=J->dL X (R.map (C.xv O1))
 |[],[],_=>trivial|[],_::_,h=>by simp[ux] at h|_::_,[],h=>by simp[ux] at h
 |k::X,v::R,h=>by
  simp only[ux,aC] at h;exact⟨(anm (V1:=[]) h.1).2,aeq h.2⟩
def W7:∀(R:aN)(X:aZ)(s:S)(O:aj),dL R X->Y O.i=s.ni->Y O.b=s.nb->Y O.r=Y s.rs->
  ∀(q:Nat)(k:LK)(x:XV)(v:C),R[q]?=U k->X[q]?=U x->(s.bW R).1[q]?=U v->v.ai (O.ext X) V=x.at k/\v≠ .any
 |[],_,_,_,_,_,_,_,q,k,x,v,h,_,_=>by simp at h|_::_,[],_,_,h,_,_,_,q,k,x,v,_,_,_=>by simp[dL] at h
 |B::R,M::X,s,O,A,L,H,G,0,k,x,v,Q,P,N=>by
  obtain⟨z,F⟩:=A;simp only[S.bW,Ch,dX] at Q P N;subst Q P N;have y:=EU X (O.add M);simp only[aj.ext];cases B<;>cases M<;>simp[qA] at z
  grind [S.fresh,C.ai,K.ai,XV.at,y.i,aj.add]
  grind [S.fresh,C.ai,BE.ai,XV.at,y.b,aj.add]
  refine⟨?_,by simp[S.fresh]⟩;simp only[S.fresh,C.ai,RE.ai,RE.rv,XV.at]
  grind [y.r,aj.add,aj.rv]
 |B::R,M::X,s,O,A,L,H,G,q+1,k,x,v,Q,P,N=>by
  obtain⟨z,F⟩:=A;simp only[S.bW,vw] at Q P N;simp only[aj.ext];cases B<;>cases M<;>simp[qA] at z;exact W7 R X _ _ F (by simp[S.fresh,aj.add,L]) (by simp[S.fresh,aj.add,H]) (by simp[S.fresh,aj.add,G]) q k x v Q P N;exact W7 R X _ _ F (by simp[S.fresh,aj.add,L]) (by simp[S.fresh,aj.add,H]) (by simp[S.fresh,aj.add,G]) q k x v Q P N;exact W7 R X _ _ F (by simp[S.fresh,aj.add,L]) (by simp[S.fresh,aj.add,H]) (by simp[S.fresh,aj.add,G]) q k x v Q P N
def W8:∀(R:aN)(X:aZ)(s:S)(O:aj),dL R X->Y O.i=s.ni->Y O.b=s.nb->Y O.r=Y s.rs->
  ∀(q:Nat)(k:LK)(x:XV)(v:C),R[q]?=U k->X[q]?=U x->(s.bW R).1[q]?=U v->v.gf (O.ext X) V=x.Su k
 |[],_,_,_,_,_,_,_,q,k,x,v,h,_,_=>by simp at h|_::_,[],_,_,h,_,_,_,q,k,x,v,_,_,_=>by simp[dL] at h
 |B::R,M::X,s,O,A,L,H,G,0,k,x,v,Q,P,N=>by
  obtain⟨z,F⟩:=A;simp only[S.bW,Ch,dX] at Q P N;subst Q P N;have y:=EU X (O.add M);simp only[aj.ext];cases B<;>cases M<;>simp[qA] at z
  skip
  grind [S.fresh,C.gf,C.ai,K.ai,XV.Su,XV.at,y.i,aj.add]
  skip
  grind [S.fresh,C.gf,C.ai,BE.ai,XV.Su,XV.at,y.b,aj.add]
  skip
  grind [S.fresh,C.gf,RE.rv,XV.Su,y.r,aj.add,aj.rv]
 |B::R,M::X,s,O,A,L,H,G,q+1,k,x,v,Q,P,N=>by
  obtain⟨z,F⟩:=A;simp only[S.bW,vw] at Q P N;simp only[aj.ext];cases B<;>cases M<;>simp[qA] at z;exact W8 R X _ _ F (by simp[S.fresh,aj.add,L]) (by simp[S.fresh,aj.add,H]) (by simp[S.fresh,aj.add,G]) q k x v Q P N;exact W8 R X _ _ F (by simp[S.fresh,aj.add,L]) (by simp[S.fresh,aj.add,H]) (by simp[S.fresh,aj.add,G]) q k x v Q P N;exact W8 R X _ _ F (by simp[S.fresh,aj.add,L]) (by simp[S.fresh,aj.add,H]) (by simp[S.fresh,aj.add,G]) q k x v Q P N
def ano:∀(X:aN)(s:S),(s.bW X).1.length=Y X
 |[],_=>rfl|k::X,s=>by simp[S.bW,ano X]
def anp{n:Nat}:∀{R:List (Nat×LK)}{X:aq}{v:C},xx n R X=U v->∃(q:Nat)(k:LK),R[q]?=U (n,k)/\X[q]?=U v
 |[],X,v,h=>by simp[xx] at h|_::_,[],v,h=>by simp[xx] at h
 |(t,k)::r,x::L,v,h=>by
  simp only[xx] at h;split at h;rename_i Q;cases h;simp at Q;subst Q;exact⟨0,k,rfl,rfl⟩;obtain⟨q,P,N,M⟩:=anp h;exact⟨q+1,P,by simpa using N,by simpa using M⟩
def anq{n:Nat}:∀{X:List (Nat×LK)}{R:aq},Y X<=Y R->xx n X R=Z->X.any (·.1==n)=E
 |[],R,_,h=>rfl|_::_,[],Q,h=>by simp at Q
 |(t,k)::r,x::N,Q,h=>by
  simp only[xx] at h;split at h;cases h;rename_i P;simp only[List.any_cons,yT];exact⟨by simpa using P,anq (by simpa using Q) h⟩
def anr{b n:Nat}:∀{R:List (Nat×Nat×LK)}{X:aq}{v:C},CB b n R X=U v->∃(q:Nat)(k:LK),R[q]?=U (b,n,k)/\X[q]?=U v
 |[],X,v,h=>by simp[CB] at h|_::_,[],v,h=>by simp[CB] at h
 |(L,t,k)::r,x::H,v,h=>by
  simp only[CB] at h;split at h;rename_i Q;cases h;simp at Q;obtain⟨rfl,rfl⟩:=Q;exact⟨0,k,rfl,rfl⟩;obtain⟨q,P,N,M⟩:=anr h;exact⟨q+1,P,by simpa using N,by simpa using M⟩
def ant{b n:Nat}:∀{X:List (Nat×Nat×LK)}{R:aq},Y X<=Y R->CB b n X R=Z->X.any (λc=>c.1==b&&c.2.1==n)=E
 |[],R,_,h=>rfl|_::_,[],Q,h=>by simp at Q
 |(N,t,k)::r,x::M,Q,h=>by
  simp only[CB] at h;split at h;cases h;rename_i P;simp only[List.any_cons,yT];exact⟨by simpa using P,ant (by simpa using Q) h⟩
def anu(X:fG)(R:ar)(Q:aq):∀(l:aq)(n i:Nat),(CD X R Q n l)[i]?=(l[i]?).map λx=>(xx (n+i) X.tm Q).getD (if R.contains (n+i) then .any else x)
 |[],n,i=>by simp[CD]|x::P,n,0=>by simp[CD]
 |x::P,n,i+1=>by
  simp only[CD,vw];rw[anu X R Q P (n+1) i,show n+1+i=n+(i+1) from ae]
def anv(X:fG)(R:aq)(b:Nat):∀(l:aq)(n i:Nat),(J1 X R b n l)[i]?=(l[i]?).map λx=>(CB b (n+i) X.cl R).getD x
 |[],n,i=>by simp[J1]|x::Q,n,0=>by simp[J1]
 |x::Q,n,i+1=>by
  simp only[J1,vw];rw[anv X R b Q (n+1) i,show n+1+i=n+(i+1) from ae]
def Sv(R:fG)(Q:aq):∀(l:bm)(n i:Nat),bP (vG R Q n l) i=(bP l i).map λx=>(x.1,J1 R Q (n+i) 0 x.2)
 |[],n,i=>by simp[vG,bT]|Z::X,n,0=>by simp[vG,bT]|U (t,P)::X,n,0=>by simp[vG,bT]
 |Z::X,n,i+1=>by
  have:=Sv R Q X (n+1) i
  grind [vG,bT]
 |U (t,P)::X,n,i+1=>by
  have:=Sv R Q X (n+1) i
  grind [vG,bT]
def W9(X:fG)(R:aq):∀(l:bm)(n:Nat),(vG X R n l).length=Y l
 |[],n=>rfl|Z::Q,n=>by simp[vG,W9 X R Q]|U (t,P)::Q,n=>by simp[vG,W9 X R Q]
def anw(X:fG)(R:ar)(Q:aq):∀(l:aq)(n:Nat),(CD X R Q n l).length=Y l
 |[],n=>rfl|x::P,n=>by simp[CD,anw X R Q P]
def aer{Q:fG}{P:ar}:∀{l X:aq}{n:Nat},AT Q P n l X=J->Y l=Y X/\∀(i:Nat)(x y:C),l[i]?=U x->X[i]?=U y->Q.tm.any (·.1==n+i)=J\/P.contains (n+i)=J\/x=y
 |[],[],n,_=>⟨rfl,λi x y h _=>by simp at h⟩|[],_::_,n,h=>by simp[AT] at h|_::_,[],n,h=>by simp[AT] at h
 |x::H,y::G,n,h=>by
  simp only[AT,aC,lq] at h;obtain⟨L,F⟩:=aer h.2;refine⟨by simp[L],λi B A N M=> ?_⟩;cases i with
  |zero=>
   simp at N M;subst N M;rcases h.1 with(R|R)|R
   grind
   grind
   exact .inr (.inr (C.bX _ _ R))
  |succ i=>
   grind
def anx{R:fG}{b:Nat}:∀{l X:aq}{n:Nat},J2 R b n l X=J->Y l=Y X/\∀(i:Nat)(x y:C),l[i]?=U x->X[i]?=U y->R.cl.any (λc=>c.1==b&&c.2.1==n+i)=J\/x=y
 |[],[],n,_=>⟨rfl,λi x y h _=>by simp at h⟩|[],_::_,n,h=>by simp[J2] at h|_::_,[],n,h=>by simp[J2] at h
 |x::L,y::H,n,h=>by
  simp only[J2,aC,lq] at h;obtain⟨M,G⟩:=anx h.2;refine⟨by simp[M],λi F B Q P=> ?_⟩;cases i with
  |zero=>
   simp at Q P;subst Q P;rcases h.1 with N|N
   grind
   exact .inr (C.bX _ _ N)
  |succ i=>
   grind
def aes{L:fG}:∀{l M:bm}{n:Nat},uw L n l M=J->∀(i:Nat)(t:TypeId)(R:aq),bP l i=U (t,R)->∃P,bP M i=U (t,P)/\J2 L (n+i) 0 R P=J
 |[],M,n,_,i,t,R,h=>by simp[bT] at h|Z::Q,[],n,X,i,t,R,h=>by simp[uw] at X|Z::Q,y::N,n,X,0,t,R,h=>by simp[bT] at h
 |Z::Q,y::N,n,X,i+1,t,R,h=>by
  simp only[uw] at X;obtain⟨P,H,G⟩:=aes X i t R (by simpa[bT] using h)
  grind [bT]
 |U x::Q,[],n,X,i,t,R,h=>by simp[uw] at X|U x::Q,Z::N,n,X,i,t,R,h=>by simp[uw] at X
 |U x::Q,U y::N,n,X,0,t,R,h=>by
  simp only[uw,aC,gc] at X
  grind [bT,JA]
 |U x::Q,U y::N,n,X,i+1,t,R,h=>by
  simp only[uw,aC] at X;obtain⟨P,H,G⟩:=aes X.2 i t R (by simpa[bT] using h)
  grind [bT]
def anz{R:fG}{n:Nat}{k:LK}(Q:R.tm[X]?=U (n,k)):R.ks[X]?=U k:=by
 grind [fG.ks]
def anA{Q:fG}{n:Nat}{k:LK}(P:Q.tm[X]?=U (n,k))(N:R.tmps[n]?=U r):(lu Q R)[X]?=U r:=by
 grind [lu]
def E4{k:Nat}(h:k<X):ad (t.take X) k=ad t k:=by simp[ad,h]
def ayh(X:fG)(s:S):(jH X s).length=Y s.rs:=CO _ _ _
def anB:∀{l X:bo},AS l X=J->∀(k:Nat)(e:RK),l[k]?=U e->∃R,X[k]?=U R/\(e=.aT\/R=e)
 |[],X,_,k,e,h=>by simp at h|x::Q,[],h,_,_,_=>by simp[AS] at h
 |x::Q,y::N,h,0,e,P=>by
  simp only[AS,aC,lq,dq] at h
  grind
 |x::Q,y::N,h,k+1,e,P=>by
  simp only[AS,aC] at h;exact anB h.2 k e (by simpa using P)
def Xa:∀{R:aN}{X:aq}{q:Nat}{e:TypeId}{k:Nat},R[q]?=U (.ak (.own e))->X[q]?=U (.ak (.v k))->k∈EG R X
 |[],X,q,e,k,h,_=>by simp at h|_::_,[],q,e,k,_,h=>by simp at h|N::R,v::X,0,e,k,Q,P=>by simp at Q P;subst Q P;simp[EG,Wa]
 |N::R,v::X,q+1,e,k,Q,P=>by
  simp only[EG,fc];right;exact Xa (q:=q) (by simpa using Q) (by simpa using P)
def Xb:∀{a b:ar},oh (a++b)=J->oh b=J/\∀x∈a,x∉b
 |[],b,h=>⟨h,aw⟩
 |x::a,b,h=>by
  simp only[cG,oh,aC] at h;obtain⟨X,R⟩:=Xb h.2
  grind
def anC:∀{N:aN}{R:aq}{q Q:Nat}{e M:TypeId}{k X:Nat},oh (EG N R)=J->N[q]?=U (.ak (.own e))->R[q]?=U (.ak (.v k))->N[Q]?=U (.ak (.own M))->R[Q]?=U (.ak (.v X))->q≠Q->k≠X
 |[],R,q,Q,e,M,k,X,_,h,_,_,_,_=>by simp at h|_::_,[],q,Q,e,M,k,X,_,_,h,_,_,_=>by simp at h|B::N,v::R,0,0,e,M,k,X,_,_,_,_,_,h=>bB rfl h
 |B::N,v::R,0,Q+1,e,M,k,X,P,L,H,G,F,_=>by
  simp at L H;subst L H;simp only[EG] at P;have:=(Xb P).2 k (by simp[Wa]);intro A;subst A;exact this (Xa (q:=Q) (by simpa using G) (by simpa using F))
 |B::N,v::R,q+1,0,e,M,k,X,P,L,H,G,F,_=>by
  simp at G F;subst G F;simp only[EG] at P;have:=(Xb P).2 X (by simp[Wa]);intro A;subst A;exact this (Xa (q:=q) (by simpa using L) (by simpa using H))
 |B::N,v::R,q+1,Q+1,e,M,k,X,P,L,H,G,F,z=>by
  simp only[EG] at P;exact anC (Xb P).1 (by simpa using L) (by simpa using H) (by simpa using G) (by simpa using F) ae
def aA.head{ty:Ty}{N:fG}{f:ar}{a1:Act}(ce:s.bd=J)(ei:Y O.i=s.ni)(eb:Y O.b=s.nb)(er:Y O.r=Y s.rs)
  (hl:bC s O V R x f)(R1:aA d m D ty f x R a1 e)(hT:AT N t 0 s.tmps R.tmps=J)(hB:uw N 0 s.au R.au=J)(hf:ux R N.ks (lu N R)=J)
  (hR:AS (jH N s) R.rs=J)(hO:J0 (jH N s) (JZ N R)=J)(b4:R.pd=s.pd):
  aA d m D ty (f.take (Y s.au)) (O.ext ((lu N R).map (C.xv x))) (rV N t s) a1 e:=by
 obtain⟨b5,b6⟩:C.dQ (Y O.i) (Y O.b) (Y O.r) (aL s.au) s.tmps=J/\C.rU (Y O.i) (Y O.b) (Y O.r) (aL s.au) s.au=true:=by
  simp only[S.bd,aC] at ce;rw[ei,eb,er];exact ce
 have af:=aeq (O1:=x) hf;have ag:Y O.r=(jH N s).length:=by rw[ayh];exact er
 obtain⟨cx,a4⟩:=ann hf;generalize bb:(lu N R).map (C.xv x)=n at*;obtain⟨e1,e2,e3,e4⟩:=uF N.ks {s with ax:=s.ax+1,rs:=jH N s};obtain⟨l1,l2,l3⟩:=xH N.ks n {s with ax:=s.ax+1,rs:=jH N s} O af ei eb ag;have bg:=CN s.au O n V;have b7:=W7 (V:=f.take (Y s.au)) N.ks n {s with ax:=s.ax+1,rs:=jH N s} O af ei eb ag;have bk:=ano N.ks {s with ax:=s.ax+1,rs:=jH N s};have bl:Y N.ks=Y N.tm+Y N.cl:=by simp[fG.ks]
 have al:∀i,aL (vG N (((({s with ax:=s.ax+1,rs:=jH N s}:S).bW N.ks).1).drop (Y N.tm)) 0 s.au) i=J->aL s.au i=J/\i<Y s.au:=by
  intro i hi;unfold aL at hi;rw[Sv] at hi;have:(bP s.au i).isSome=true:=by simpa using hi
  obtain⟨b,G⟩:=jC.1 this;exact⟨this,(du.1 (kC.1 G)).1⟩
 have b8:∀v:C,v.bd (Y O.i) (Y O.b) (Y O.r) (aL s.au)=J->v.ai (O.ext n) (f.take (Y s.au))=v.ai x f:=by
  intro v hv;rw[hl.ext.ai hv];refine C.eh bg.agree (λk hk=> ?_) v hv;have a0:k<Y s.au:=by
   obtain⟨b,G⟩:=jC.1 hk;exact(du.1 (kC.1 G)).1
  rw[E4 a0];exact hl.ext.ad k hk
 have ca:∀(q:Nat)(k:LK)(v w:C),N.ks[q]?=U k->(lu N R)[q]?=U w->(({s with ax:=s.ax+1,rs:=jH N s}:S).bW N.ks).1[q]?=U v->v.ai (O.ext n) (f.take (Y s.au))=w.ai x f/\v≠ .any:=by
  intro q k v w hk hw hv;have hx:n[q]?=U (w.xv x):=by rw[<-bb];simp[hw]
  obtain⟨M,L⟩:=b7 q k _ v hk hx hv;exact⟨M.trans (anm (V1:=f) (a4 q k w hk hw)).1,L⟩
 have cc:∀v:C,v.bd (Y O.i) (Y O.b) (Y O.r) (aL s.au)=J->v.gf (O.ext n) (f.take (Y s.au))=v.gf x f:=by
  intro v hv;rw[ado hl.ext.agree hl.ext.ad v hv];refine ado bg.agree (λk hk=> ?_) v hv;have a0:k<Y s.au:=by
   obtain⟨b,G⟩:=jC.1 hk;exact(du.1 (kC.1 G)).1
  rw[E4 a0];exact hl.ext.ad k hk
 have ch:∀(q:Nat)(k:LK)(v w:C),N.ks[q]?=U k->(lu N R)[q]?=U w->(({s with ax:=s.ax+1,rs:=jH N s}:S).bW N.ks).1[q]?=U v->v.gf (O.ext n) (f.take (Y s.au))=w.gf x f:=by
  intro q k v w hk hw hv;have hx:n[q]?=U (w.xv x):=by rw[<-bb];simp[hw]
  rw[W8 (V:=f.take (Y s.au)) N.ks n {s with ax:=s.ax+1,rs:=jH N s} O af ei eb ag q k _ v hk hx hv];exact ayg (a4 q k w hk hw)
 have br:∀(k:Nat)(X:RK)(F:RV),(jH N s)[k]?=U X->O.r[k]?=U F->∃e1,R.rs[k]?=U e1/\x.r[k]?=U F/\(X=.aT\/e1=X):=by
  intro k X F M L;have hk:k<Y O.r:=(du.1 L).1;have cn:k<Y x.r:=QW hk hl.ext.lr;have co:x.r[k]?=U F:=by
   have:=hl.ext.agree.r k hk;simp only[aj.rv,di,L,yV] at this;rw[dv cn] at this⊢;simpa using this
  obtain⟨H,h3,h4⟩:=anB hR k X M;exact⟨H,h3,co,h4⟩
 have bs:∀(q:Nat)(X:RK)(F:RV),N.ks[q]?=U (.ak X)->n[q]?=U (.r F)->(∃u:Nat,(lu N R)[q]?=U (.ak (.v u))/\R.rs[u]?=U X/\x.r[u]?=U F)\/(F=.mk (.slice Z 0 0) []/\∃Q sh,X=.sl Q\/X=.own Q\/X=.mr sh):=by
  intro q X F M L;rw[<-bb,ep] at L;cases hw:(lu N R)[q]? with
  |none=>rw[hw] at L;cases L
  |some w=>
   rw[hw] at L;simp only[ga,dX] at L;have a9:=a4 q _ w M hw;unfold EH at a9;split at a9;rename_i ab;cases ab;rename_i ab;cases ab;rename_i H k ab;cases ab;simp only[C.xv,XV.r.injEq] at L;have bt:R.rs[k]?=U X:=by simpa using a9
   refine .inl ⟨k,rfl,bt, ?_⟩;rw[<-L];exact uE R1 bt;rename_i H ab;cases ab;simp only[C.xv,XV.r.injEq,RE.rv] at L;exact .inr ⟨L.symm,_,⟨0,0,0,E,E⟩,.inl rfl⟩;rename_i H ab;cases ab;simp only[C.xv,XV.r.injEq,RE.rv] at L;exact .inr ⟨L.symm,_,⟨0,0,0,E,E⟩,.inr (.inl rfl)⟩;rename_i H ab;cases ab;simp only[C.xv,XV.r.injEq,RE.rv] at L;exact .inr ⟨L.symm,0,_,.inr (.inr rfl)⟩;cases a9
 simp only[J0,aC] at hO;obtain⟨cp,ct⟩:=hO;have bx:∀(q:Nat)(X:TypeId)(u:Nat),N.ks[q]?=U (.ak (.own X))->(lu N R)[q]?=U (.ak (.v u))->∀H,(jH N s)[u]?=U H->H=.aT:=by
  intro q X u M L H h3;have:=gC.1 ct u (Xa M L);simp only[lq,dq] at this;rcases this with h4|h4;have:=(du.1 h3).1;omega;rw[h4] at h3;cases h3;rfl
 refine⟨⟨R1.mem.base, ?_, ?_, ?_, ?_⟩, ?_,l1,l2,l3, ?_, ?_, ?_, ?_⟩;intro i hi;obtain⟨M,L⟩:=al i hi;rw[E4 L];exact R1.mem.own i (hl.mono i M);intro i j hi hj;obtain⟨M,L⟩:=al i hi;obtain⟨h3,h4⟩:=al j hj;rw[E4 L,E4 h4];exact R1.mem.inj i j (hl.mono i M) (hl.mono j h3);intro i Q cs h;simp only[rV] at h;rw[Sv,jp] at h;cases G:bP s.au i with
 |none=>rw[G] at h;cases h
 |some P=>
  obtain⟨t0,gK⟩:=P;rw[G] at h;simp only[ga,dX,JE] at h;obtain⟨rfl,rfl⟩:=h;obtain⟨ba,b0,b1⟩:=aes hB i t0 gK G;rw[jp] at b1;obtain⟨cu,bc⟩:=anx b1;have a0:i<Y s.au:=(du.1 (kC.1 G)).1;rw[E4 a0,R1.mem.box i t0 ba b0];congr 2;apply kX;intro j;rw[C.bL,C.bL,ep,ep,anv,jp];cases hx:gK[j]? with
  |none=>
   have:ba[j]?=none:=by
    rw[Em] at hx⊢;omega
   simp[this]
  |some P=>
   obtain⟨y,hy⟩:∃y,ba[j]?=U y:=by
    have:j<Y gK:=(du.1 hx).1;exact⟨ba[j],dv ae⟩
   rw[hy];simp only[ga,dX];cases hp:CB i j N.cl ((({s with ax:=s.ax+1,rs:=jH N s}:S).bW N.ks).1.drop (Y N.tm)) with
   |some v=>
    obtain⟨q,k,hq,hv⟩:=anr hp;rw[xj] at hv;simp only[yV];refine(ch (Y N.tm+q) k v y ?_ ?_ hv).symm;simp[fG.ks,jo,hq];simp[lu,jo,hq,alv,b0,hy]
   |none=>
    have hn:=ant (by rw[Cj,bk,bl];omega) hp;rcases bc j P y hx hy with M|M;rw[jp] at M;rw[hn] at M;cases M;subst M;simp only[awf];exact(cc P (xD (tq b6 G) hx)).symm
 have bf:=Hn (PP:=λX F=>bG e ty X F/\∀b,dW ty X F b->∀i,aL s.au i=J->ad f i≠b) N.ks n {s with ax:=s.ax+1,rs:=jH N s} O af ag ?_ ?_;intro k X F M L;obtain⟨h3,h4⟩:=bf k X F M L;refine⟨h3,λb G i hi=> ?_⟩;obtain⟨h5,h6⟩:=al i hi;rw[E4 h6];exact h4 b G i h5
 
 intro q X F M L;rcases bs q X F M L with⟨u,_,g2,B⟩|⟨rfl,Q,sh,g⟩;have:=R1.mem.ak u X F g2 B;exact⟨this.1,λb G i hi=>this.2 b G i (hl.mono i hi)⟩;have hn:∀b,¬dW ty (.sl Q) (.mk (.slice Z 0 0) []) b:=λb G=>by
  cases G with|deep X v b2 i j ac c z k b g1=>simp at g1
 rcases g with rfl|rfl|rfl;exact⟨E3 Z 0,λb G=>(hn b G).elim⟩;refine⟨bG.own Q _ (E3 Z 0) (λl c h=>by cases h;rfl),λb G=> ?_⟩;cases G with|own X F b G=>exact(hn b G).elim
 exact⟨bG.mr sh [] (λi ac h=>by simp at h) (λi j ac c k h=>by simp at h) (λi j ac c h=>by simp at h) (λi j ac c z k h=>by simp at h),λb G=>by cases G⟩;intro k X F M L;obtain⟨e1,g1,g2,B⟩:=br k X F M L;have:=R1.mem.ak k e1 F g1 g2;rcases B with rfl|rfl;exact⟨bG.aT _ (M8 this.1),λb G=>by cases G⟩;exact⟨this.1,λb G i hi=>this.2 b G i (hl.mono i hi)⟩;simp[rV,W9];have:=hl.len;rw[R1.gE];omega;have M:=R1.dm;rw[b4,hl.ext.agree.y,<-Hm n O] at M;simp only[rV];rw[aej];exact M;simp only[rV,anw];rw[R1.size,(aer hT).1];intro Q sv h;simp only[rV] at h;rw[anu,jp] at h;cases hx:s.tmps[Q]? with
 |none=>rw[hx] at h;cases h
 |some P=>
  rw[hx] at h;simp only[ga,dX] at h;obtain⟨cu,bc⟩:=aer hT;obtain⟨y,hy⟩:∃y,R.tmps[Q]?=U y:=by
   have:Q<Y s.tmps:=(du.1 hx).1;exact⟨R.tmps[Q],dv ae⟩
  cases hp:xx Q N.tm ((({s with ax:=s.ax+1,rs:=jH N s}:S).bW N.ks).1) with
  |some v=>
   rw[hp] at h;simp only[yV] at h;subst h;obtain⟨q,k,hq,hv⟩:=anp hp;have hc:=(ca q k v y (anz hq) (anA hq hy) hv);rcases R1.tmps Q y hy with M|M;subst M;have:=a4 q k .any (anz hq) (anA hq hy);rcases k with _|_|(_|_|_|_|_)<;>simp[EH] at this;right;rw[hc.1];exact M
  |none=>
   rw[hp] at h;simp only[awf] at h;split at h;exact .inl h.symm;rename_i cv;subst h;have hn:=anq (by rw[bk,bl];omega) hp;rcases bc Q P y hx hy with M|M|M;rw[jp] at M;rw[hn] at M;cases M;rw[jp] at M;exact bB M cv;subst M;rcases R1.tmps Q P hy with L|L;exact .inl L;right;rw[b8 P (xD b5 hx)];exact L
 intro k X F b M L h3;simp only[rV] at M;have bf:∃u:Nat,R.rs[u]?=U (RK.own X)/\x.r[u]?=U F/\∀(A:Nat)(H:RK)(o:RV),A≠k->(rV N t s).rs[A]?=U H->(O.ext n).r[A]?=U o->AX ty H o b->∃aa:Nat,aa≠u/\R.rs[aa]?=U H/\x.r[aa]?=U o:=by
  have other:∀(A:Nat)(H:RK)(o:RV),(rV N t s).rs[A]?=U H->(O.ext n).r[A]?=U o->AX ty H o b->
    ((jH N s)[A]?=U H/\R.rs[A]?=U H/\x.r[A]?=U o)\/∃q aa:Nat,N.ks[q]?=U (.ak H)/\(lu N R)[q]?=U (.ak (.v aa))/\R.rs[aa]?=U H/\x.r[aa]?=U o/\A=(jH N s).length+Ho (N.ks.take q):=by
   intro A H o g1 g2 B;rcases Nu N.ks n {s with ax:=s.ax+1,rs:=jH N s} O af ag A H o g1 g2 with⟨p1,p2⟩|⟨q,p1,p2,p3⟩;obtain⟨e1,q1,q2,q3⟩:=br A H o p1 p2;rcases q3 with rfl|rfl;rcases B with B|⟨⟨Q,ht⟩,_⟩;cases B;cases ht;exact .inl ⟨p1,q1,q2⟩;rcases bs q H o p1 p2 with⟨u,q1,q2,q3⟩|⟨rfl,Q,sh,q⟩;exact .inr ⟨q,u,p1,q1,q2,q3,p3⟩;exfalso;rcases B with B|⟨_,B⟩;rcases q with rfl|rfl|rfl;cases B with|deep X v b2 i j ac c z k b g1=>simp at g1
   cases B with
   |own X F b B=>cases B with|deep X v b2 i j ac c z k b g1=>simp at g1
   cases B;simp[RV.lx] at B
  rcases other k (.own X) F M L (.inr ⟨⟨X,rfl⟩,h3⟩) with⟨p1,p2,p3⟩|⟨q,u,p1,p2,p3,p4,p5⟩;refine⟨k,p2,p3,λA H o g0 g1 g2 B=> ?_⟩;rcases other A H o g1 g2 B with⟨r1,r2,r3⟩|⟨q',aa,r1,r2,r3,r4,r5⟩;exact⟨A,g0,r2,r3⟩;refine⟨aa,λa3=> ?_,r3,r4⟩;subst a3;rw[p2] at r3;cases r3;have:=bx q' X aa r1 r2 _ p1;cases this;refine⟨u,p3,p4,λA H o g0 g1 g2 B=> ?_⟩;rcases other A H o g1 g2 B with⟨r1,r2,r3⟩|⟨q',aa,r1,r2,r3,r4,r5⟩;refine⟨A,λa3=> ?_,r2,r3⟩;subst a3;rw[p3] at r2;cases r2;have:=bx q X A p1 p2 _ r1;cases this;refine⟨aa,λa3=> ?_,r3,r4⟩;subst a3;rw[p3] at r3;cases r3;by_cases b3:q=q';subst b3;exact g0 (by rw[r5,p5]);exact anC cp p1 p2 r1 r2 b3 rfl
 obtain⟨u,g1,g2,B⟩:=bf;have Q:=R1.eP u X F b g1 g2 h3;refine⟨Q.own,Q.mem,λi hi=> ?_,λA H o q1 q2 q3 q4=> ?_,Q.inner⟩;obtain⟨h5,h6⟩:=al i hi;rw[E4 h6];exact Q.box i (hl.mono i h5);obtain⟨aa,r1,r2,r3⟩:=B A H o q1 q2 q3 q4;exact Q.alone aa H o r1 r2 r3 q4
end
structure ji(p:Sp)(f:bv):Prop where
 pt:p.ty=f.ty
 Xc:p.P.follows .mixedOrders=J
 kM:jx p.P f.ty
 zj:Nt p.P f
 zy:∀g,(f.sig g).isSome=J\/(f.inl g).isSome=J->∀args W,(callFunc g args).run p.P W=.ok (.enter g args) W
 Xd:∀ch W b o,p.w0.heap.size<=b->p.R (.panicked ch) W->p.R (.panicked ch) (W.putObj b o)
 inl:∀g c nt rs,f.inl g=U (c,nt,rs)->∃fn,p.P.funcs[g]?=U fn/\fn.body=U c/\fn.ntmps=nt/\fn.results.toList=rs
section
variable{p:Sp}{f:bv}
def aA.anD{D:bU}{V:ar}{a:Act}{W:World}(Q:aA t e D f.ty V x R a W){b:BE}{v:Bool}(G:R.tmps.getD X .any=.bool b)(N:b.ai x=v):
  aA t e D f.ty V x {R with tmps:=R.tmps.set X (.bool (.c v))} a W:=by
 refine⟨Q.mem,Q.gE,Q.ei,Q.eb,Q.er,Q.dm,by simpa using Q.size,λi M h=> ?_,Q.eP⟩;simp only[yU] at h;split at h;rename_i L;subst L;split at h;rename_i F;cases h;have H:R.tmps[X]?=U (.bool b):=by
  grind
 rcases Q.tmps X _ H with P|P;cases P;right;rw[P];simp[C.ai,BE.ai,N];cases h;exact Q.tmps i M h
end
mutual
def K.eA{R Q P N M H:Nat}(X:R<=N)(W:Q<=M)(V:P<=H):∀(e:K),e.bd R Q P=J->e.bd N M H=J
 |.c n,_=>K.bj.1 _|.v k,h=>by simp[K.bj] at h⊢;omega|.bin o k a b,h=>by simp[K.bj] at h⊢;exact⟨K.eA X W V a h.1,K.eA X W V b h.2⟩|.conv k a,h=>by simp[K.bj] at h⊢;exact K.eA X W V a h|.len r,h=>by simp[K.bj] at h⊢;exact RE.eA X W V r h|.mm m a b,h=>by simp[K.bj] at h⊢;exact⟨K.eA X W V a h.1,K.eA X W V b h.2⟩|.dw b x y,h=>by simp[K.bj] at h⊢;exact⟨⟨BE.eA X W V b h.1.1,K.eA X W V x h.1.2⟩,K.eA X W V y h.2⟩|.cell r i j,h=>by simp[K.bj] at h⊢;exact⟨RE.eA X W V r h.1,K.eA X W V i h.2⟩|.oZ r i,h=>by simp[K.bj] at h⊢;exact⟨RE.eA X W V r h.1,K.eA X W V i h.2⟩|.look r n a b c j,h=>by simp[K.bj] at h⊢;exact⟨⟨⟨RE.eA X W V r h.1.1.1,K.eA X W V a h.1.1.2⟩,K.eA X W V b h.1.2⟩,K.eA X W V c h.2⟩
def BE.eA{R Q P N M H:Nat}(X:R<=N)(W:Q<=M)(V:P<=H):∀(e:BE),e.bd R Q P=J->e.bd N M H=J
 |.c n,_=>BE.bj.1 _|.v k,h=>by simp[BE.bj] at h⊢;omega|.cmp o a b,h=>by simp[BE.bj] at h⊢;exact⟨K.eA X W V a h.1,K.eA X W V b h.2⟩|.not a,h=>by simp[BE.bj] at h⊢;exact BE.eA X W V a h|.and a b,h=>by simp[BE.bj] at h⊢;exact⟨BE.eA X W V a h.1,BE.eA X W V b h.2⟩|.beq a b,h=>by simp[BE.bj] at h⊢;exact⟨BE.eA X W V a h.1,BE.eA X W V b h.2⟩|.dw b x y,h=>by simp[BE.bj] at h⊢;exact⟨⟨BE.eA X W V b h.1.1,BE.eA X W V x h.1.2⟩,BE.eA X W V y h.2⟩|.cell r i j,h=>by simp[BE.bj] at h⊢;exact⟨RE.eA X W V r h.1,K.eA X W V i h.2⟩|.seq a b,h=>by simp[BE.bj] at h⊢;exact⟨RE.eA X W V a h.1,RE.eA X W V b h.2⟩|.look r n a b c j,h=>by simp[BE.bj] at h⊢;exact⟨⟨⟨RE.eA X W V r h.1.1.1,K.eA X W V a h.1.1.2⟩,K.eA X W V b h.1.2⟩,K.eA X W V c h.2⟩|.has r n a b c,h=>by simp[BE.bj] at h⊢;exact⟨⟨⟨RE.eA X W V r h.1.1.1,K.eA X W V a h.1.1.2⟩,K.eA X W V b h.1.2⟩,K.eA X W V c h.2⟩
def RE.eA{X W V R Q P:Nat}(N:X<=R)(M:W<=Q)(H:V<=P):∀(e:RE),e.bd X W V=J->e.bd R Q P=J
 |.v k,h=>by simp[RE.bj] at h⊢;omega|.cell r i j k,h=>by simp[RE.bj] at h⊢;exact⟨RE.eA N M H r h.1,K.eA N M H i h.2⟩|.k v,_=>RE.bj.2.2 _
end
def Xe{ty:Ty}{s R:S}:∀{r:RE}{e:RK},(∀(k:Nat)(e:RK),r.root=U k->s.rs[k]?=U e->∃X,R.rs[k]?=U X/\X.rd=e.rd)->e≠ .bz->r.kind ty s=e->r.kind ty R=e
 |.v k,e,bZ,W,h=>by
  simp only[RE.kind,di] at h⊢;cases V:s.rs[k]? with
  |none=>rw[V] at h;exact bB (show e=.bz from h.symm) W
  |some q=>
   rw[V] at h;obtain⟨X,P,N⟩:=bZ k q rfl V
   grind
 |.cell r i j M,e,bZ,W,h=>by
  simp only[RE.kind] at h⊢;split at h;rename_i X Q;rw[Xe (r:=r) bZ aw Q];exact h
  grind
 |.k v,e,bZ,W,h=>by cases v<;>exact h
def zA{ty:Ty}{s s':S}(h:s.rs=s'.rs):∀r:RE,r.kind ty s=r.kind ty s'
 |.v k=>by simp only[RE.kind,h]|.cell r i j k=>by simp only[RE.kind,zA h r]|.k v=>by cases v<;>rfl
def CY(ty:Ty)(s X:S):Prop:=∀(r:RE)(e:RK),e≠ .bz->r.kind ty s=e->r.kind ty X=e
def CY.Ba{ty:Ty}{X:S}(h:X.rs=R.rs):CY ty R X:=λr e _ W=>by rw[zA h];exact W
def ayi{ty:Ty}{X:S}(bZ:CY ty R X){c:CT}{y:C}{e:BE}(h:Mx ty R c r y=U e):Mx ty X c r y=U e:=by
 unfold Mx at h⊢;split at h;exact h;exact h;split at h;rename_i W;rw[aH ⟨bZ _ _ aw W.1,bZ _ _ aw W.2⟩];exact h;cases h;cases h
def anE{ty:Ty}{s W:S}(bZ:CY ty s W):∀{X:eN}{x y:aq}{e:BE},sU ty s X x y=U e->sU ty W X x y=U e
 |[],[],[],e,h=>h
 |c::X,x::Q,y::P,e,h=>by
  simp only[sU] at h⊢;split at h;rename_i a b V R;rw[ayi bZ V,anE bZ R];exact h;cases h
 |[],[],_::_,e,h=>by simp[sU] at h|[],_::_,_,e,h=>by simp[sU] at h|_::_,[],_,e,h=>by simp[sU] at h|_::_,_::_,[],e,h=>by simp[sU] at h
def anF{ty:Ty}{s X:S}(bZ:CY ty s X){W:vy}{x y:aq}{e:BE}(h:My ty s W x y=U e):My ty X W x y=U e:=by
 unfold My at h⊢;split at h;exact anE bZ h;cases h
section
variable{ty:Ty}{F:oa}{O:aj}
def Xf{P:S}{G:Op}{r:PR}(W:∀x∈G.operands.toList,P.ev F x=R.ev F x)(H:looks G=J->CE G=E->CY ty R P)
  (ab:∀t x r w i z,G=.load t x->R.ev F x=.el r w i z->∀e,e≠ .bz->r.kind ty R=e->r.kind ty P=e)
  (o:∀i,Ct F R G=U i->bP P.au i=bP R.au i)(h:cw ty F R G=r)(V:∀w,r≠ .no w):cw ty F P G=r:=by
 cases G with
 |move x=>have X:=W x cq;simp only[cw] at h⊢;rw[X];exact h|assign x=>have X:=W x cq;simp only[cw] at h⊢;rw[X];exact h
 |pick c x y=>
  have X:=W c cq;have N:=W x cq;have l:=W y cq;simp only[cw] at h⊢;rw[X,N,l];exact h
 |load t x=>
  have X:=W x cq;simp only[cw] at h⊢;rw[X];split at h;rename_i ti i z D Q;rw[RQ (o i (by simp only[Ct,Q]))];exact h;rename_i ti r w i z D Q;split at h;rename_i e M;rw[ab t x r w i z rfl Q _ aw M];exact h;exact bB h.symm (V _);rename_i ti e ks j D Q;have B:((AO j).bind λi=>mU P.au i)=(AO j).bind λi=>mU R.au i:=by
   cases hl:AO j with|none=>rfl|some i=>exact RQ (o i (by simp only[Ct,Q];exact hl))
  rw[B];exact h;exact bB h.symm (V _)
 |fieldAddr t x f=>have X:=W x cq;simp only[cw] at h⊢;rw[X];exact h|field t x f=>have X:=W x cq;simp only[cw] at h⊢;rw[X];exact h
 |indexAddr t x y=>
  have X:=W x cq;have N:=W y cq;simp only[cw] at h⊢;rw[X,N];split at h;exact h;exact h;exact h;split at h;rename_i D M;rw[(H rfl rfl) _ _ aw M,D];exact h;exact bB h.symm (V _);exact h;exact h;exact bB h.symm (V _)
 |index t x y=>
  have X:=W x cq;have N:=W y cq;simp only[cw] at h⊢;rw[X,N];split at h;exact h;exact h;split at h;rename_i M;rw[(H rfl rfl) _ _ aw M];exact h;exact bB h.symm (V _);exact bB h.symm (V _)
 |binOp G t x y t2=>
  have X:=W x cq;have N:=W y cq;simp only[cw] at h⊢;rw[X,N];split at h;exact h;exact h;exact h;split at h;rename_i v A;simp only[(H rfl rfl) _ _ aw v,(H rfl rfl) _ _ aw A];exact h;rename_i v A;simp only[(H rfl rfl) _ _ aw v,(H rfl rfl) _ _ aw A];exact h;exact bB h.symm (V _);exact h;exact h;split at h;rename_i e M;rw[anF (H rfl rfl) M];exact h;rename_i e M;rw[anF (H rfl rfl) M];exact h;exact bB h.symm (V _);exact bB h.symm (V _)
 |unOp G t x=>have X:=W x cq;simp only[cw] at h⊢;rw[X];exact h|convert t1 t2 x=>have X:=W x cq;simp only[cw] at h⊢;rw[X];exact h|makeInterface t x=>have X:=W x cq;simp only[cw] at h⊢;rw[X];exact h
 |makeFunc fn first bE=>
  have X:bE.toList.map (P.ev F)=bE.toList.map (R.ev F):=ky λx Q=>W x (by simp[io];exact .inr (by simpa using Q))
  have N:∀x,first.toList=[x]->P.ev F x=R.ev F x:=λx Q=>W x (by
   have:x∈first:=by rw[<-aI9,Q];simp
   simp[io];exact .inl this)
  simp only[cw] at h⊢;rw[X];rcases aa:first.toList with _|⟨x,_|⟨y,r⟩⟩
  all_goals rw[aa] at h
  all_goals cases fn<;>first|exact h|(simp only at h⊢;rw[N x aa];exact h)
 |extract x i=>have X:=W x cq;simp only[cw] at h⊢;rw[X];exact h|nilCheck x=>have X:=W x cq;simp only[cw] at h⊢;rw[X];exact h
 |slice t x g hi mx=>
  have X:=W x cq;have N:g.map (P.ev F)=g.map (R.ev F):=by
   cases g with|none=>rfl|some y=>simp only[ga];rw[W y cq]
  have l:hi.map (P.ev F)=hi.map (R.ev F):=by
   cases hi with|none=>rfl|some y=>simp only[ga];rw[W y cq]
  simp only[cw] at h⊢;rw[X,N,l];split at h;exact h;rename_i e am q r m D Q;rw[W m cq];split at h;split at h;rename_i hn;rw[aH hn];exact h;rename_i hn;rw[aJ hn];split at h;rename_i hk;rw[aH ((H rfl rfl) _ _ aw hk)];exact h;exact bB h.symm (V _);exact bB h.symm (V _);exact bB h.symm (V _)
 |build t parts=>
  have X:(parts.toList.map λp=>(p.1,P.ev F p.2))=parts.toList.map λp=>(p.1,R.ev F p.2):=ky λp hp=>by rw[W p.2 (by simp[io];exact⟨p.1,by simpa using hp⟩)]
  simp only[cw] at h⊢;rw[X];exact h
 |lookup t x ix ok=>
  have X:=W x cq;have N:=W ix cq;simp only[cw] at h⊢;rw[X,N];split at h;rename_i k e n ag am q i D Q;have A:=o i (by simp only[Ct,Q]);unfold VT at h⊢;rw[A];split at h;rename_i te a b c bt cs g1 g2 g3;split at h;exact bB h.symm (V _);rename_i ac;rw[aJ ac];split at h;rename_i hd;rw[aH hd];split at h;rename_i r nk ka va;split at h;rename_i u;have:r.pK ty P ⟨k,e,n,ag,te.d.isAgg⟩=true:=by
   simp only[aC] at u;have h6:=u.1.1.1.1.1;unfold RE.pK at h6⊢;rcases av2.1 h6 with h7|h7;rw[decide_eq_true ((H rfl rfl) r _ aw (GN h7))];rfl;rw[h7];simp
  simp only[aC] at u;simp only[this,u,Cm,dP];exact h;exact bB h.symm (V _);exact bB h.symm (V _);rename_i hd;rw[aJ hd];exact h;exact bB h.symm (V _);exact bB h.symm (V _)
 |call c=>
  have X:c.args.toList.map (P.ev F)=c.args.toList.map (R.ev F):=ky λx Q=>W x (by simp[io,Cl];exact .inr (by simpa using Q))
  cases B:c.callee with
  |builtin b=>
   cases b with
   |len=>
    simp only[cw,B] at h⊢;rw[X];split at h;exact h;rename_i t r af v A;split at h;rename_i D M;simp only[(H rfl rfl) _ _ aw M,D];exact h;rename_i D M;simp only[(H rfl rfl) _ _ aw M,D];exact h;exact bB h.symm (V _);exact h;exact bB h.symm (V _)
   |min=>simp only[cw,B] at h⊢;rw[X];exact h|max=>simp only[cw,B] at h⊢;rw[X];exact h|_=>simp only[cw,B] at h;exact bB h.symm (V _)
  |value f=>simp only[cw,B] at h;exact bB h.symm (V _)|invoke r m=>simp only[cw,B] at h;exact bB h.symm (V _)
 |_=>simp only[cw] at h;exact bB h.symm (V _)
end
def PR.Bb(s:S)(O:aj)(v:C):PR->Prop
 |.ok x=>v=x|.aS b x=>b.ai O=J/\b.bd s.ni s.nb (Y s.rs)=J/\v=x|_=>False
def Xg{X:PR}(h:X.Bb R x r):X.gives x r:=by
 cases X with|ok W=>exact h|aS b W=>exact⟨h.1,h.2.2⟩|no w=>exact h
def gZ(B:dG)(m:OM)(s:S)(O:aj):Option Bool:=match m.o.guard with
 |none=>U J
 |U (j,X)=>match(B[j]?).bind (·.dst) with
  |U d=>match s.tmps[d]? with|U (.bool b)=>if b.bd s.ni s.nb (Y s.rs) then U (b.ai O==X) else Z|U (.bI [])=>U E|_=>Z
  |none=>Z
def QV(u:bv)(B:dG)(O:aj)(m:OM)(s:S)(v:C)(l:Nat):Prop:=
 (gZ B m s O=U E/\v=.bI []/\l=0)\/
 (gZ B m s O=U J/\(∀x∈m.o.op.operands.toList,(s.ev u.gl x).fg=E)/\match m.o.op with|.pick c x y=>∃e:BE,s.ev u.gl c=.bool e/\e.bd s.ni s.nb (Y s.rs)=J/\v=(if e.ai O then s.ev u.gl x else s.ev u.gl y)/\l=0|.load t x=>(cw u.ty u.gl s (.load t x)).Bb s O v/\l=Rk m.bM (s.ev u.gl x)|op=>(cw u.ty u.gl s op).Bb s O v/\l=0)
def OR.Kr(s:S)(O:aj)(X:S):OR->Prop
 |.ok x=>X=x|.aS b x=>b.ai O=J/\b.bd s.ni s.nb (Y s.rs)=J/\X=x|.split b W V=>b.bd s.ni s.nb (Y s.rs)=J/\X=if b.ai O then W else V|.no _=>False
def ja(u:bv)(m:OM)(s:S)(O:aj)(X:S):Prop:=(gJ u m s).Kr s O X
def NA{u:bv}{X:S}(h:ja u b R x X):(gJ u b R).gives x X:=by
 unfold ja at h;cases W:gJ u b R<;>rw[W] at h;exact h;exact⟨h.1,h.2.2⟩;exact h.2;exact h
def anG{Q:S}{d:cH}{r:PR}:(xu R d X r).Kr R x Q<->∃v,r.Bb R x v/\Q=R.dI d v X:=by
 cases r with
 |ok v=>exact⟨λh=>⟨v,rfl,h⟩,λ⟨w,W,V⟩=>by cases W;exact V⟩
 |aS b v=>
  simp only[xu];split;rename_i P;exact⟨λh=>⟨v,⟨h.1,h.2.1,rfl⟩,h.2.2⟩,λ⟨w,⟨W,V,N⟩,M⟩=>⟨W,V,by rw[M,N]⟩⟩;rename_i P;exact⟨λh=>h.elim,λ⟨w,⟨W,V,N⟩,M⟩=>bB V P⟩
 |no w=>exact⟨λh=>h.elim,λ⟨w,W,V⟩=>W.elim⟩
def NB(p:Sp)(u:bv)(s:S)(O:aj)(g:FuncId)(N:aq)(X:aj->C->S->Prop):Prop:=
 ∃G Q l,u.sig g=U G/\fJ u.ty G=U Q/\zk u.ty G ((s.cut N Q).bW Q).1=U l/\(s.eX N&&mW Q)=J/\
  ∀V W,jJ p.S0 p.w0 V O (ut (sZ (C.qm N) 0 s.au)) p.ty (J4 N s.rs) W->Calls p.P g (C.az O V N).toArray W λ
   |.returned v,M=>∃H,dL Q H/\v=(one l).ai (O.ext H) V/\Below W.heap.size W M/\CL p.ty M W.heap.size (O.ph p.ty (J4 N s.rs)) Q H/\X (O.ext H) (one l) ((s.cut N Q).bW Q).2|.panicked F,M=>Below W.heap.size W M/\p.R (.panicked F) M|.outgrown,_=>False
def uH(o:Option BI)(f:BI->Prop)(g:Prop):Prop:=match o with|U b=>f b|none=>g
def rm(o:Option (C×bm))(f:C->bm->Prop)(g:Prop):Prop:=match o with|U (v,X)=>f v X|none=>g
def eE(p:Sp)(u:bv)(B:dG)(A:vL)(X:aj->S->Prop)(W:aj->C->S->Prop)(V:OM->cQ->aj->S->Nat->aq->Prop):cQ->aj->S->Prop
 |[],O,s=>X O s
 |m::R,O,s=>
  (gZ B m s O=U E/\eE p u B A X W V R O (s.put m.o.dst (.bI [])))\/
  (gZ B m s O=U J/\match eu u s m.o with|.call (.fn g) Q=>rm (A g Q s) (λv M=>s.bd=J/\eE p u B A X W V R O ((s.plus M).put m.o.dst v)) (NB p u s O g Q λH v P=>eE p u B A X W V R H (P.put m.o.dst v))|.call (.yl n) Q=>m.so=J/\V m R O s n Q|.bp v=>W O v s|.no=>False|.op=>uH (eY u m.o m.bM m.dr s) (λb=>b.aS.ai O=J/\∀N,Kc p.ty p.S0 p.w0 b.e b.x s.rs O N->eE p u B A X W V R (O.add (.r N)) b.s) (∃P,ja u m s O P/\eE p u B A X W V R O P))
def CZ(s:S)(O:aj)(X:Fx):Prop:=∀x∈X,x.1.ai O=x.2/\x.1.bd s.ni s.nb (Y s.rs)=J
def aet{p:Sp}{L:dt}{W:Fx}{b:BE}{t f:Fx->T}(P:CZ R x W)(h:(EE R W b t f).aP p x L):
  b.bd R.ni R.nb (Y R.rs)=J/\∃N,CZ R x N/\(if b.ai x then(t N).aP p x L else(f N).aP p x L):=by
 have F:vT x W:=λX V=>(P X V).1
 have ce:∀v,Rl W b=U v->b.bd R.ni R.nb (Y R.rs)=true:=by
  intro v Q;unfold Rl at Q;split at Q;exact BE.bj.1 _;cases M:W.find? (λX=>X.1.aR b) with
  |none=>rw[M] at Q;cases Q
  |some X=>
   have H:=acs M;rw[<-BE.bX _ _ H];exact(P X (Vu M)).2
 unfold EE at h;split at h
 grind [WP]
 grind [WP]
 split at h;rename_i G;simp only[T.aP] at h;refine⟨G, ?_⟩;have D:∀v,b.ai x=v->CZ R x ((b,v)::W):=λv B X V=>by
  rcases ey.1 V with rfl|V
  grind
  exact P X V
 grind
 exact h.elim
section
variable{p:Sp}{u:bv}{B:dG}{A:vL}{L:dt}{G:YH}{k:S->T}{D:C->S->T}
def gg(s:S)(d:cH)(v:C):(s.put d v).ni=s.ni/\(s.put d v).nb=s.nb/\(s.put d v).rs=s.rs:=by cases d<;>exact⟨rfl,rfl,rfl⟩
def anH{X:S}(h:(gJ u b R).gives x X):X.ni=R.ni/\X.nb=R.nb/\X.rs=R.rs:=by
 unfold gJ at h;split at h;exact h.elim;split at h;split at h;split at h;cases h;exact gg _ _ _;exact h.elim;exact h.elim;split at h;split at h;cases h;exact gg _ _ _;exact h.elim;exact h.elim;split at h;split at h;split at h;split at h;cases h;exact gg _ _ _;exact h.elim;exact h.elim;exact h.elim;exact h.elim;split at h;split at h;split at h;cases h;exact gg _ _ _;exact h.elim;exact h.elim;exact h.elim;split at h;simp only[OR.gives] at h;split at h<;>(subst h;exact gg _ _ _);exact h.elim;obtain⟨v,-,rfl⟩:=CU h;exact gg _ _ _;obtain⟨v,-,rfl⟩:=CU h;exact gg _ _ _
def Sw{d:cH}{aS:BE}{k:RK}{x:LE}{dl:ar}{b:BI}(h:kZ R d aS v k x t dl=U b):b.s.ni=R.ni/\b.s.nb=R.nb/\Y b.s.rs=Y R.rs+1:=by
 obtain⟨-,-,rfl⟩:=A5 h;refine⟨(gg _ _ _).1,(gg _ _ _).2.1, ?_⟩;simp only;rw[(gg _ _ _).2.2];simp[CP,CO]
def anI{bM W:Bool}{b:BI}(h:eY u l bM W R=U b):b.s.ni=R.ni/\b.s.nb=R.nb/\Y b.s.rs=Y R.rs+1:=by
 unfold eY at h;split at h;split at h;split at h;split at h;split at h;split at h;cases h;split at h;split at h;cases h;exact Sw h;cases h;cases h;cases h;cases h;cases h;split at h;split at h;split at h;exact Sw h;cases h;cases h;cases h;split at h;cases h;split at h;split at h;split at h;split at h;exact Sw h;cases h;cases h;cases h;cases h;split at h;cases h
 ·split at h
  all_goals first
   |cases h
   |(split at h
     split at h;exact Sw h;cases h;cases h)
 split at h;cases h;split at h;split at h;split at h;split at h;cases X:kZ R Z (xq _ (.len (.v _))) _ (.own _) _ [_] _ with
 |none=>rw[X] at h;cases h
 |some N=>
  rw[X] at h;simp at h;subst h;obtain⟨V,Q,P⟩:=Sw X;refine⟨?_, ?_, ?_⟩;simp only;rw[(gg _ _ _).1];exact V;simp only;rw[(gg _ _ _).2.1];exact Q;simp only;rw[(gg _ _ _).2.2];exact P
 cases h;cases h;cases h;cases h;cases h
def anJ{W:S}{d:cH}{r:PR}{b:BE}(h:xu R d X r=.aS b W):b.bd R.ni R.nb (Y R.rs)=true:=by
 cases r with
 |ok v=>cases h
 |aS V v=>
  grind [xu]
 |no w=>cases h
def ayj{W:S}{X:BE}(h:gJ u b R=.aS X W):X.bd R.ni R.nb (Y R.rs)=true:=by
 unfold gJ at h;split at h;cases h;split at h
 ·(repeat' split at h)<;>cases h
 ·(repeat' split at h)<;>cases h
 ·(repeat' split at h)<;>cases h
 ·(repeat' split at h)<;>cases h
 ·(repeat' split at h)<;>cases h
 exact anJ h;exact anJ h
structure C0(B:dG)(A:vL):Prop where
 q:∀(g:FuncId)(args:aq)(s:S)(d:cH)(v:C)(l:Nat),A g args (s.dI d v l)=A g args s
 z:∀(g:FuncId)(s:S)(n:Nat)(t:TypeId)(cs:aq)(d:cH)(w:C),gt s.au n=J->A g [] ((s.cY n t cs).put d w)=A g [] s
 reg:∀(g:FuncId)(args:aq)(s:S)(r:C×bm),A g args s=U r->Wg B=J
def anK{W:bm}(h:aL R.au X=J):bP (R.plus W).au X=bP R.au X:=by
 obtain⟨b,V⟩:=jC.1 h
 grind [bT,S.plus]
def anL{W:bm}(h:gt R.au X=J):gt (R.plus W).au X=true:=by
 grind [gt,S.plus]
def aev{s:S}{o:Oper}{g:Cv}{X:aq}(h:eu u s o=.call g X):AW o.op=true:=by
 grind [AW,eu]
def anM{s:S}{o:Oper}{g:FuncId}{X:aq}(W:MK o.op=J)(h:eu u s o=.call (.fn g) X):X=[]:=by
 grind [eu,S.ev,zf,iZ,AR,CK.call.injEq,Cv.fn.injEq,MK]
def Hp(p:Sp)(k:S->T)(L:dt)(O:aj)(s:S):Prop:=(k s).aP p O L
def E5(p:Sp)(D:C->S->T)(L:dt)(O:aj)(v:C)(s:S):Prop:=(D v s).aP p O L
def E6(p:Sp)(u:bv)(B:dG)(A:vL)(G:YH)(k:S->T)(D:C->S->T)(L:dt)(m:OM)(X:cQ)(O:aj)(s:S)(n:Nat)(V:aq):Prop:=
 (∀R∈X,R.dr=J)/\∃W,CZ s O W/\(uz u A G (.yl n) V s (λv Q=>lN u (uz u A G) B k D X (Q.put m.o.dst v) (qr s W)) D).aP p O L
def Ks(a0:p.ty=u.ty):∀(l:cQ)(s:S)(fx:Fx)(O:aj),Y O.i=s.ni->Y O.b=s.nb->Y O.r=Y s.rs->(lN u (uz u A G) B k D l s fx).aP p O L->CZ s O fx->
  (∀m∈l,m.dr=J)->eE p u B A (Hp p k L) (E5 p D L) (E6 p u B A G k D L) l O s
 |[],s,fx,O,_,_,_,h,_,_=>h
 |m::Q,s,fx,O,a,e2,e3,h,a3,bl=>by
  have a9:m.dr=true:=bl m aw;have al:∀m∈Q,m.dr=true:=λm' bt=>bl m' (by simp[bt])
  have bx:Cy u m s=none:=by simp[Cy,a9]
  have b0:EF u m s=none:=by simp[EF,a9]
  have b1:∀c f,Cx u m s c f=none:=λc f=>by simp[Cx,a9]
  have ba:∀(s:S)(d:cH)(v:C),(s.put d v).ni=s.ni/\(s.put d v).nb=s.nb/\(s.put d v).rs=s.rs:=λs d v=>by cases d<;>exact⟨rfl,rfl,rfl⟩
  have br:∀(X:S)(P:Fx),X.ni=s.ni->X.nb=s.nb->X.rs=s.rs->CZ s O P->CZ X O P:=λX P h1 N h3 hf x hx=>by rw[h1,N,h3];exact hf x hx
  have bb:∀P,CZ s O P->(CA u (uz u A G) m s (lN u (uz u A G) B k D Q) D P).aP p O L->
    (match eu u s m.o with
     |.call (.fn g) w=>rm (A g w s) (λv ex=>s.bd=J/\eE p u B A (Hp p k L) (E5 p D L) (E6 p u B A G k D L) Q O ((s.plus ex).put m.o.dst v)) (NB p u s O g w λO' v X=>eE p u B A (Hp p k L) (E5 p D L) (E6 p u B A G k D L) Q O' (X.put m.o.dst v))|.call (.yl n) w=>m.so=J/\E6 p u B A G k D L m Q O s n w|.bp v=>E5 p D L O v s|.no=>False
     |.op=>uH (eY u m.o m.bM m.dr s) (λb=>b.aS.ai O=J/\∀rv,Kc p.ty p.S0 p.w0 b.e b.x s.rs O rv->eE p u B A (Hp p k L) (E5 p D L) (E6 p u B A G k D L) Q (O.add (.r rv)) b.s)
      (∃X,ja u m s O X/\eE p u B A (Hp p k L) (E5 p D L) (E6 p u B A G k D L) Q O X):Prop):=by
   intro P af h;unfold CA at h;rw[bx] at h;simp only[b0,b1] at h;cases hc:eu u s m.o with
   |call g0 w=>
    rw[hc] at h;cases g0 with
    |yl n=>
     simp only at h⊢;split at h;rename_i b2;exact⟨b2,al,P,af,h⟩;exact h.elim
    |fn g=>
    simp only[uz] at h;simp only;cases bs:A g w s with
    |some ve=>
     obtain⟨v,ex⟩:=ve;rw[bs] at h;simp only at h;split at h;rename_i M;refine⟨M, ?_⟩;obtain⟨H,F,z⟩:=ba (s.plus ex) m.o.dst v;refine Ks a0 Q _ _ O (by rw[H];exact a) (by rw[F];exact e2) (by rw[z];exact e3) h (λx hx=> ?_) al;rw[H,F,z];exact af x (qj.1 hx).1;exact h.elim
    |none=>
    rw[bs] at h;simp only[AU] at h;simp only[rm];split at h;rename_i ts b3;split at h;rename_i ks b4;split at h;rename_i l hl;split at h;rename_i M;rw[aC] at M;refine⟨ts,ks,l,b3,b4,hl,M.1,λV W R=> ?_⟩;simp only[T.aP,akX.1 M.2] at h;refine(h O.y V W R).mono ?_;intro e W' he;cases e with
    |returned v=>
     obtain⟨xs,h1,N,h3,h4,h5⟩:=he;have hy:(O.ext xs).at O.y=O.ext xs:=by have:=Hm xs O;unfold aj.at;rw[<-this]
     rw[hy] at N;refine⟨xs,h1,N,h3,h4, ?_⟩;obtain⟨l1,l2,l3⟩:=xH ks xs (s.cut w ks) O h1 a e2 (e3.trans (CX w ks s.rs).len.symm);have an:=ba ((s.cut w ks).bW ks).2 m.o.dst (one l);refine Ks a0 Q _ _ _ (by rw[an.1];exact l1) (by rw[an.2.1];exact l2) (by rw[an.2.2];exact l3) h5 ?_ al;intro x hx;obtain⟨bc,b5⟩:=qj.1 hx;obtain⟨t,ce⟩:=af x bc;have b6:=EU xs O;have bf:=WE xs O;refine⟨by rw[BE.eh b6 _ (by rw[a,e2,e3];exact ce)];exact t, ?_⟩;rw[an.1,an.2.1,an.2.2,<-l1,<-l2,<-l3];exact BE.eA (by rw[<-a];exact bf.1) (by rw[<-e2];exact bf.2.1) (by rw[<-e3];exact bf.2.2) _ ce
    |panicked ch=>exact he|outgrown=>exact he
    exact h.elim;exact h.elim;exact h.elim;exact h.elim
   |bp v=>rw[hc] at h;exact h|no=>rw[hc] at h;exact h
   |op=>
    rw[hc] at h;simp only at h⊢;cases bg:eY u m.o m.bM m.dr s with
    |some b=>
     rw[bg] at h;obtain⟨hn,h⟩:=h;refine⟨hn,λrv b7=> ?_⟩;obtain⟨H,F,z⟩:=anI bg;have b8:(O.add (.r rv)).r.length=Y b.s.rs:=by simp[aj.add,z,e3]
     refine Ks a0 Q b.s _ _ (by rw[H];exact a) (by rw[F];exact e2) b8 (h rv b7) ?_ al;intro x hx;obtain⟨bc,b5⟩:=qj.1 hx;obtain⟨t,ce⟩:=af x bc;refine⟨by rw[BE.eh (Ws O (.r rv)) _ (by rw[a,e2,e3];exact ce)];exact t, ?_⟩;exact BE.eA ae ae ae _ ce
    |none=>
    rw[bg] at h;simp only[uH] at h⊢;have a4:∀X a1,CZ s O a1->ja u m s O X->(lN u (uz u A G) B k D Q X a1).aP p O L->∃X,ja u m s O X/\eE p u B A (Hp p k L) (E5 p D L) (E6 p u B A G k D L) Q O X:=by
     intro X a1 hf hG hs;obtain⟨H,F,z⟩:=anH (NA hG);exact⟨X,hG,Ks a0 Q X a1 O (by rw[H];exact a) (by rw[F];exact e2) (by rw[z];exact e3) hs (br X a1 H F z hf) al⟩
    split at h;rename_i X ag;exact a4 X P af (by unfold ja;rw[ag];rfl) h;rename_i b X ag;refine a4 X P af ?_ h.2;unfold ja;rw[ag];exact⟨h.1,ayj ag,rfl⟩;rename_i b s1 s2 ag;obtain⟨ce,aa,ab,N⟩:=aet af h;cases hv:b.ai O;exact a4 s2 aa ab (by unfold ja;rw[ag];simp[OR.Kr,hv,ce]) (by simpa[hv] using N);exact a4 s1 aa ab (by unfold ja;rw[ag];simp[OR.Kr,hv,ce]) (by simpa[hv] using N);exact h.elim
  have bk:∀P,CZ s O P->(lN u (uz u A G) B k D Q (s.put m.o.dst (.bI [])) P).aP p O L->eE p u B A (Hp p k L) (E5 p D L) (E6 p u B A G k D L) Q O (s.put m.o.dst (.bI [])):=by
   intro P hf h;obtain⟨H,F,z⟩:=ba s m.o.dst (.bI []);exact Ks a0 Q _ P O (by rw[H];exact a) (by rw[F];exact e2) (by rw[z];exact e3) h (br _ P H F z hf) al
  simp only[lN,V9] at h;cases ac:m.o.guard with
  |none=>
   rw[ac] at h;exact .inr ⟨by simp[gZ,ac],bb fx a3 h⟩
  |some q=>
   obtain⟨jj,ca⟩:=q;rw[ac] at h;simp only at h;split at h;rename_i d t;split at h;rename_i b M;cases ca;simp only[iZ,jE] at h;obtain⟨ce,aa,ab,N⟩:=aet a3 h;cases j:b.ai O;exact .inr ⟨by simp[gZ,ac,t,M,ce,j],bb aa ab (by simpa[j] using N)⟩;exact .inl ⟨by simp[gZ,ac,t,M,ce,j],bk aa ab (by simpa[j] using N)⟩;simp only[dP] at h;obtain⟨ce,aa,ab,N⟩:=aet a3 h;cases j:b.ai O;exact .inl ⟨by simp[gZ,ac,t,M,ce,j],bk aa ab (by simpa[j] using N)⟩;exact .inr ⟨by simp[gZ,ac,t,M,ce,j],bb aa ab (by simpa[j] using N)⟩;rename_i M;exact .inl ⟨by simp[gZ,ac,t,M],bk fx a3 h⟩;exact h.elim;exact h.elim
end
section
variable{p:Sp}{cf:bv}{ops:dG}{A:vL}
structure lW(cf:bv)(ops:dG)(o:Oper)(s:S)(O:aj)(s':S)(O':aj):Prop where
 tm:∀t∈ld ops o,s'.tmps[t]?=s.tmps[t]?
 kd:looks o.op=J->CE o.op=E->CY cf.ty s s'
 kl:∀t x r w i off,o.op=.load t x->s.ev cf.gl x=.el r w i off->∀e,e≠ .bz->r.kind cf.ty s=e->r.kind cf.ty s'=e
 li:s.ni<=s'.ni
 lb:s.nb<=s'.nb
 lr:Y s.rs<=Y s'.rs
 ag:jg O O' s.ni s.nb (Y s.rs)
def lW.Ba{o:Oper}{s X:S}{O:aj}(V:∀t∈ld ops o,X.tmps[t]?=s.tmps[t]?)(W:X.rs=s.rs)(R:X.ni=s.ni)(Q:X.nb=s.nb):lW cf ops o s O X O:=
 ⟨V,λ_ _=>CY.Ba W,λt x r w i P _ _=>CY.Ba W r,GK R.symm,GK Q.symm,GK (by rw[W]),jg.refl _ _ _ _⟩
theorem lW.ev{o:Oper}{s X:S}{O V:aj}(h:lW cf ops o s O X V)(W:oa):∀x∈o.op.operands.toList,X.ev W x=s.ev W x:=by
 intro x R;cases x with
 |tmp t=>
  grind [S.ev,zf,h.tm,ld]
 |const v=>rfl|global g=>rfl|func f=>rfl
def lW.guard{m:OM}{s W:S}{O Q:aj}(h:lW cf ops m.o s O W Q){b:Bool}(X:gZ ops m s O=U b):gZ ops m W Q=U b:=by
 unfold gZ at X⊢;cases V:m.o.guard with
 |none=>rw[V] at X;exact X
 |some q=>
  obtain⟨j,M⟩:=q;rw[V] at X;simp only at X⊢;cases R:(ops[j]?).bind (·.dst) with
  |none=>rw[R] at X;cases X
  |some d=>
   rw[R] at X;simp only at X⊢;have N:W.tmps[d]?=s.tmps[d]?:=h.tm d (by unfold ld;rw[V];exact ak1 _ (by simp[R]));rw[N];split at X;rename_i e L;split at X;rename_i P;rw[aH (BE.eA h.li h.lb h.lr _ P),BE.eh h.ag _ P];exact X;cases X;exact X;cases X
def anN{Q:S}{N:aj}(h:lW cf ops l R x Q N)(M:∀i,Ct cf.gl R l.op=U i->bP Q.au i=bP R.au i)
  (W:(cw cf.ty cf.gl R l.op).Bb R x r):(cw cf.ty cf.gl Q l.op).Bb Q N r:=by
 have H:cw cf.ty cf.gl Q l.op=cw cf.ty cf.gl R l.op:=by
  cases V:cw cf.ty cf.gl R l.op with|ok X=>exact Xf (ty:=cf.ty) (h.ev cf.gl) h.kd h.kl M V (λw P=>by cases P)|aS b X=>exact Xf (ty:=cf.ty) (h.ev cf.gl) h.kd h.kl M V (λw P=>by cases P)|no w=>rw[V] at W;exact W.elim
 rw[H];cases V:cw cf.ty cf.gl R l.op with
 |ok X=>rw[V] at W;exact W
 |aS b X=>
  rw[V] at W;obtain⟨G,L,F⟩:=W;exact⟨by rw[BE.eh h.ag _ L];exact G,BE.eA h.li h.lb h.lr _ L,F⟩
 |no w=>rw[V] at W;exact W.elim
def aew{P:S}{G:aj}(h:lW cf ops b.o R x P G)(F:∀i,Ct cf.gl R b.o.op=U i->bP P.au i=bP R.au i)(z:QV cf ops x b R r X):QV cf ops G b P r X:=by
 rcases z with⟨N,M,V⟩|⟨N,M,V⟩;exact .inl ⟨h.guard N,M,V⟩;refine .inr ⟨h.guard N,λW D=>by rw[h.ev cf.gl W D];exact M W D, ?_⟩;have Q:=h.ev cf.gl;cases B:b.o.op with
 |pick c W y=>
  rw[B] at V Q;obtain⟨e,w,A,u,q⟩:=V;refine⟨e,by rw[Q c cq];exact w,BE.eA h.li h.lb h.lr _ A, ?_,q⟩;rw[BE.eh h.ag _ A,Q W cq,Q y cq];exact u
 |load t W=>
  have L:=λ(H:(cw cf.ty cf.gl R b.o.op).Bb R x r)=>anN (cf:=cf) h F H
  rw[B] at V Q L;exact⟨L V.1,by rw[Q W cq];exact V.2⟩
 |_=>
  have L:=λ(H:(cw cf.ty cf.gl R b.o.op).Bb R x r)=>anN (cf:=cf) h F H
  grind
def ayk(h:o8 l.op=J):eu cf R l=.op:=by
 unfold eu;cases W:l.op<;>rw[W] at h<;>simp[o8] at h<;>try rfl
 rename_i c;cases X:c.callee with
 |builtin b=>cases b<;>simp[X] at h<;>simp[X]
 |value f=>simp[X] at h|invoke r m=>simp[X] at h
theorem NC(s:S)(d:cH)(v:C):s.dI d v 0=s.put d v:=by simp[S.dI]
def ND{Q:S}(F:o8 b.o.op=J)(P:gZ ops b R x=U J):ja cf b R x Q<->∃v l,QV cf ops x b R v l/\Q=R.dI b.o.dst v l:=by
 unfold ja gJ QV;by_cases N:(b.o.op.operands.toList.any λX=>(R.ev cf.gl X).fg)=J;simp only[N,dP];constructor;exact λh=>h.elim
 rintro⟨v,l,h|h,-⟩;rw[P] at h;cases h.1;obtain⟨X,H,D⟩:=nF.1 N;have:=h.2.1 X H;rw[this] at D;cases D
 ·have B:∀X∈b.o.op.operands.toList,(R.ev cf.gl X).fg=false:=by
   intro X H;cases t:(R.ev cf.gl X).fg;rfl;exact bB (nF.2 ⟨X,H,t⟩) N
  have G:¬gZ ops b R x=U false:=by rw[P];simp
  have A:∀(M:Nat),(xu R b.o.dst M (cw cf.ty cf.gl R b.o.op)).Kr R x Q<->∃v l,((gZ ops b R x=U E/\v=.bI []/\l=0)\/(gZ ops b R x=U J/\(∀X∈b.o.op.operands.toList,(R.ev cf.gl X).fg=E)/\(cw cf.ty cf.gl R b.o.op).Bb R x v/\l=M))/\Q=R.dI b.o.dst v l:=by
   intro M;rw[anG];constructor;rintro⟨v,W,V⟩;exact⟨v,M,.inr ⟨P,B,W,rfl⟩,V⟩;rintro⟨v,l,h|⟨-,-,W,rfl⟩,L⟩;exact bB h.1 G;exact⟨v,W,L⟩
  rw[aJ N];cases z:b.o.op<;>rw[z] at F A<;>simp only[o8,iZ] at F
  case pick c X y=>
   simp only;cases q:R.ev cf.gl c with
   |bool e=>
    constructor;rintro⟨W,V⟩;refine⟨if e.ai x then R.ev cf.gl X else R.ev cf.gl y,0,.inr ⟨P,by rw[<-z];exact B,e,rfl,W,rfl,rfl⟩, ?_⟩;rw[NC,V];split<;>rfl;rintro⟨v,l,h|⟨-,-,r,W,V,w,u⟩,L⟩;exact bB h.1 G;cases W;subst u;refine⟨V, ?_⟩;rw[L,NC,w];split<;>rfl
   |_=>
    constructor;exact λh=>h.elim
    rintro⟨v,l,h|⟨-,-,r,W,V,w,u⟩,L⟩;exact bB h.1 G;cases W
  all_goals exact A _
variable{a:aj->S->Prop}{k:aj->C->S->Prop}{n:OM->cQ->aj->S->Nat->aq->Prop}
def anO{bM:Bool}(X:o8 l.op=J):eY cf l bM J R=none:=by
 unfold eY;cases V:l.op<;>rw[V] at X<;>simp only[o8,iZ] at X<;>try rfl
 rename_i c;cases W:c.callee with
 |builtin b=>cases b<;>simp[W] at X<;>simp[W]
 |value f=>simp[W] at X|invoke r m=>simp[W] at X
def anP{P:cQ}(N:b.dr=J)(Q:o8 b.o.op=J):eE p cf ops A a k n (b::P) x R<->∃v l,QV cf ops x b R v l/\eE p cf ops A a k n P x (R.dI b.o.dst v l):=by
 simp only[eE,ayk Q,N,anO Q,uH];constructor;rintro(⟨X,W⟩|⟨X,M,W,V⟩);exact⟨.bI [],0,.inl ⟨X,rfl,rfl⟩,by rw[NC];exact W⟩;obtain⟨v,l,L,rfl⟩:=(ND (ops:=ops) Q X).1 W
 grind
 rintro⟨v,l,X,W⟩;rcases X with⟨V,rfl,rfl⟩|V
 grind [NC]
 exact .inr ⟨V.1,_,(ND (ops:=ops) Q V.1).2 ⟨v,l,.inr V,rfl⟩,W⟩
end
section
variable{p:Sp}{A:bv}{B:dG}{D:vL}
theorem nR{d:cH}(h:d≠U X):(R.put d r).tmps[X]?=R.tmps[X]?:=by
 cases d with|none=>rfl|some d=>simp only[S.put,Cp];rw[AJ (λe=>h (by rw[e]))]
def NE{d:cH}{t:Nat}(h:d≠U t):(R.dI d r X).tmps[t]?=R.tmps[t]?:=by
 unfold S.dI;rw[nR h]
theorem m6(s:S)(d:cH)(v:C):(s.put d v).au=s.au:=by cases d<;>rfl
def E7(s:S)(d:cH)(v:C)(l:Nat):(s.dI d v l).au=s.au:=by unfold S.dI;rw[m6]
def Xh(s:S)(d:cH)(v:C):(s.put d v).lk=s.lk:=by cases d<;>rfl
def aex{d e:cH}{w:C}(h:∀x,d=U x->e≠U x):(R.put d r).put e w=(R.put e w).put d r:=by
 cases d with
 |none=>cases e<;>rfl
 |some d=>
  cases e with
  |none=>rfl
  |some e=>
   grind [S.put,Cp,List.set_comm]
def Sx{s:S}{d e:cH}{v w:C}{l:Nat}(h:∀x,d=U x->e≠U x):(s.dI d v l).put e w=(s.put e w).dI d v l:=by
 unfold S.dI;rw[aex h];cases e<;>rfl
def ayl{d e:cH}{w:C}{W:Nat}(h:∀x,d=U x->e≠U x):(R.dI d r X).dI e w W=(R.dI e w W).dI d r X:=by
 have V:(R.dI d r X).dI e w W={(R.dI d r X).put e w with lk:=R.lk|||X|||W}:=by
  unfold S.dI;cases e<;>cases d<;>rfl
 have Q:(R.dI e w W).dI d r X={(R.dI e w W).put d r with lk:=R.lk|||W|||X}:=by
  unfold S.dI;cases e<;>cases d<;>rfl
 rw[V,Q,Nat.or_assoc,Nat.or_comm X W,<-Nat.or_assoc];have P:(R.dI d r X).put e w={(R.put d r).put e w with lk:=R.lk|||X}:=by unfold S.dI;cases e<;>cases d<;>rfl
 have O:(R.dI e w W).put d r={(R.put e w).put d r with lk:=R.lk|||W}:=by unfold S.dI;cases e<;>cases d<;>rfl
 rw[P,O,aex h]
def aym(s:S)(d:cH)(v:C)(l n:Nat)(t:TypeId)(X:aq):(s.dI d v l).cY n t X=(s.cY n t X).dI d v l:=by
 unfold S.dI S.cY;cases d<;>rfl
structure aey(B:dG)(x y:OM)(dx:Nat):Prop where
 xd:x.dr=J
 yd:y.dr=J
 qx:o8 x.o.op=J
 np:MJ y.o.op=E
 dst:x.o.dst=U dx
 ry:dx∉ld B y.o
 dy:y.o.dst≠U dx
 rx:dx∉ld B x.o
 yx:∀d,y.o.dst=U d->d∉ld B x.o
 rc:AV y.o.op=J->CE x.o.op=J->x.bM=J/\y.bM=J
 rb:EJ y.o.op=J->looks x.o.op=J->CE x.o.op=J/\x.bM=J/\y.bM=J
def anQ{y:OM}(h:We B b y=J):∃W,aey B b y W:=by
 unfold We at h;simp only[aC,jT] at h;obtain⟨⟨⟨⟨⟨⟨⟨R,Q⟩,P⟩,O⟩,X⟩,M⟩,L⟩,H⟩:=h;cases V:b.o.dst with
 |none=>rw[V] at X;cases X
 |some W=>
  rw[V] at X;simp only[aC,jT,bne_iff_ne] at X;obtain⟨⟨G,N⟩,F⟩:=X;refine⟨W,R,Q,P,O,V, ?_,N, ?_, ?_, ?_, ?_⟩
  grind
  grind
  grind
  grind
  grind
def Hq{X:S}(h:∀x∈l.op.operands.toList,X.ev A.gl x=R.ev A.gl x):eu A X l=eu A R l:=by
 unfold eu;cases W:l.op<;>rw[W] at h<;>try rfl
 case panic x=>simp only;rw[h x cq]
 case call c=>
  simp only;cases V:c.callee with
  |value f=>
   have N:=h f (by simp[io,Cl,V]);have M:c.args.toList.map (X.ev A.gl)=c.args.toList.map (R.ev A.gl):=ky λx Q=>h x (by simp[io,Cl];exact .inr (by simpa using Q))
   have L:(c.args.toList.any λx=>(X.ev A.gl x).fg)=c.args.toList.any λx=>(R.ev A.gl x).fg:=by
    have H:=awv (f:=X.ev A.gl) (p:=C.fg) (l:=c.args.toList)
    grind
   grind
  |invoke r m=>rfl
  |builtin b=>
   cases b<;>try rfl
   cases P:c.args.toList with
   |nil=>rfl
   |cons x r=>
    cases r with|nil=>simp only;rw[h x (by simp[io,Cl];exact .inr (by have O:x∈c.args.toList:=(by rw[P];simp);simpa using O))]|cons y r=>rfl
def aez(h:eu A R l=.bp r):MJ l.op=true:=by
 unfold eu at h;split at h;rename_i X;rw[X];rfl;rename_i c X;split at h;split at h;split at h;cases h;exact(alF h).elim
 grind
 cases h;cases h
 grind [MJ]
 cases h;cases h
def zB(s:S)(d:Nat):Prop:=s.tmps[d]?=Z\/∃w,s.tmps[d]?=U w/\w.bd s.ni s.nb (Y s.rs) (aL s.au)=J
def aeA{X W V:Nat}{R:Nat->Bool}:∀{l:aq}{d:Nat}{v:C},C.dQ X W V R (l.set d v)=J->(l[d]?=Z\/∃w,l[d]?=U w/\w.bd X W V R=J)->C.dQ X W V R l=J
 |[],d,v,h,_=>rfl
 |x::P,0,v,h,Q=>by
  simp only[aJh,C.i8,aC] at h⊢
  grind
 |x::P,d+1,v,h,Q=>by
  simp only[List.set_cons_succ,C.i8,aC] at h⊢;exact⟨h.1,aeA h.2 (by simpa using Q)⟩
def NF{s:S}{dx:Nat}{v:C}{l:Nat}{cs:aq}(h:(s.dI (U dx) v l).eX cs=J)(X:zB s dx):s.eX cs=true:=by
 simp only[S.eX,S.bd,S.dI,S.put,Cp,aC] at h⊢;exact⟨⟨aeA h.1.1 X,h.1.2⟩,h.2⟩
def ayn{Q:Ty}{P:oa}{V:Op}(h:(cw Q P R V).gives x r):o8 V=true:=by
 cases V with
 |call c=>
  cases W:c.callee with
  |builtin b=>cases b<;>simp only[cw,W,PR.gives] at h<;>simp[o8,W]
  |value f=>simp only[cw,W,PR.gives] at h|invoke X m=>simp only[cw,W,PR.gives] at h
 |_=>first|rfl|(simp only[cw,PR.gives] at h)
def ayo{y:OM}(hc:aey B b y X){a:S}{l:Nat}(ha:zB R X)(hg:gZ B y R x=U J)
  (h:ja A y (R.dI (U X) r l) x a):∃V,ja A y R x V/\a=V.dI (U X) r l/\(∀t,y.o.dst≠U t->V.tmps[t]?=R.tmps[t]?)/\V.ni=R.ni/\V.nb=R.nb/\V.rs=R.rs/\
   ∀i,aL R.au i=J->bP V.au i=bP R.au i\/(AV y.o.op=J/\(y.bM=J->(R.lk|||l).testBit (2*i)=E)/\(mU R.au i).isSome=J):=by
 have an:lW A B y.o (R.dI (U X) r l) x R x:=lW.Ba (λt Q=>(NE (λe=>hc.ry (by cases e;exact Q))).symm) rfl rfl rfl;have ac:lW A B y.o R x (R.dI (U X) r l) x:=lW.Ba (λt Q=>NE (λe=>hc.ry (by cases e;exact Q))) rfl rfl rfl;have m:=ac.ev A.gl;have af:∀z,(U X:cH)=U z->y.o.dst≠U z:=λz G=>by cases G;exact hc.dy
 by_cases k:o8 y.o.op=J;have a0:=ac.guard hg;obtain⟨w,l',hw,rfl⟩:=(ND (ops:=B) k a0).1 h;have a1:=aew (cf:=A) an (λi _=>by rw[E7]) hw;refine⟨R.dI y.o.dst w l',(ND (ops:=B) k hg).2 ⟨w,l',a1,rfl⟩,ayl af,λt Q=>NE Q,(gg _ _ _).1,(gg _ _ _).2.1,(gg _ _ _).2.2,λi _=>.inl (by rw[E7])⟩;unfold ja gJ at h;split at h;exact h.elim;rename_i hk;have aa:¬(y.o.op.operands.toList.any λz=>(R.ev A.gl z).fg)=true:=by
  intro hh;obtain⟨z,ag,a3⟩:=nF.1 hh;exact hk (nF.2 ⟨z,ag,by rw[m z ag];exact a3⟩)
 have ab:∀(n:Nat)(t:TypeId)(F:aq)(w:C),n<Y R.au->ja A y R x ((R.cY n t F).put y.o.dst w)->a=((R.dI (U X) r l).cY n t F).put y.o.dst w->
   (∀i,aL R.au i=J->i=n->AV y.o.op=J/\(y.bM=J->(R.lk|||l).testBit (2*i)=E)/\(mU R.au i).isSome=J)->
   ∃V,ja A y R x V/\a=V.dI (U X) r l/\(∀t,y.o.dst≠U t->V.tmps[t]?=R.tmps[t]?)/\V.ni=R.ni/\V.nb=R.nb/\V.rs=R.rs/\
    ∀i,aL R.au i=J->bP V.au i=bP R.au i\/(AV y.o.op=J/\(y.bM=J->(R.lk|||l).testBit (2*i)=E)/\(mU R.au i).isSome=J):=by
  intro n t F w hn h1 h2 h3;refine⟨_,h1, ?_,λt Q=>nR Q,(gg _ _ _).1,(gg _ _ _).2.1,(gg _ _ _).2.2,λi P=> ?_⟩;rw[h2,aym,Sx af];by_cases al:i=n;exact .inr (h3 i P al);left;rw[m6,S.cY,xG al]
 split at h;rename_i t W;split at h;rename_i ti Q;split at h;rename_i N;simp only[aC] at N;have M:=NF N.1 ha;have L:rf R.au y.ix t=true:=N.2;have H:gt R.au y.ix=true:=uC L;refine ab y.ix t (et ti) _ (pn H).2 ?_ h (λi P e=>by subst e;rw[(pn H).1] at P;cases P);unfold ja gJ;rw[aJ aa];simp only[W,Q,M,L,Cm,dP];rfl;exact h.elim;exact h.elim;rename_i t z W;have G:=m z (by rw[W];simp[io]);split at h;rename_i ti Q;rw[G] at h;split at h;rename_i N;simp only[aC] at N;obtain⟨⟨⟨g,f⟩,d⟩,c4⟩:=N;have M:=NF f ha;have L:rf R.au y.ix t=true:=c4;have H:gt R.au y.ix=true:=uC L;refine ab y.ix t _ _ (pn H).2 ?_ h (λi P e=>by subst e;rw[(pn H).1] at P;cases P);unfold ja gJ;rw[aJ aa];simp only[W,Q,g,M,d,L,Cm,dP];rfl;exact h.elim;exact h.elim;rename_i t bb parts W;have G:(parts.toList.map λp=>(p.1,(R.dI (U X) r l).ev A.gl p.2))=parts.toList.map λp=>(p.1,R.ev A.gl p.2):=ky λp hp=>by rw[m p.2 (by rw[W];simp[io];exact⟨p.1,by simpa using hp⟩)]
 split at h;rename_i e am q Q;split at h;rename_i te a4;rw[G] at h;split at h;rename_i F hf;split at h;rename_i N;simp only[aC] at N;obtain⟨⟨g,f⟩,d⟩:=N;have M:=NF g ha;have L:rf R.au y.ix e=true:=d;have H:gt R.au y.ix=true:=uC L;refine ab y.ix e F _ (pn H).2 ?_ h (λi P e=>by subst e;rw[(pn H).1] at P;cases P);unfold ja gJ;rw[aJ aa];simp only[W,Q,a4,hf,M,f,L,Cm,dP];rfl;exact h.elim;exact h.elim;exact h.elim;exact h.elim;rename_i t z u W;have G:=m z (by rw[W];simp[io]);have hu:=m u (by rw[W];simp[io]);rw[G,hu] at h;split at h;rename_i ti i bc Q P;rw[E7] at h;split at h;rename_i bt F M;split at h;rename_i N;simp only[aC,jT] at N;obtain⟨⟨⟨⟨g,f⟩,d⟩,c4⟩,D⟩:=N;have a9:(R.dI (U X) r l).lk=R.lk|||l:=Xh _ _ _;rw[a9] at D;have ba:(y.bM&&R.lk.testBit (2*i))=false:=by
  cases hr:y.bM;rfl;rw[hr,Mu,JD] at D;simp only[yT] at D;simp[D.1]
 refine ab i bt _ _ (du.1 (kC.1 (AZ M).1)).1 ?_ h (λj hj e=> ?_);unfold ja gJ;rw[aJ aa];simp only[W,Q,P,M,g,f,d,c4,ba,Cm,Bool.not_false,dP];rfl;subst e;refine⟨by rw[W];rfl,λhr=> ?_,by rw[M];rfl⟩;rw[hr,Mu] at D;exact D;exact h.elim;exact h.elim;exact h.elim;rename_i c z u W;exact bB (by rw[W];rfl) k;rename_i t z W;exact bB (by rw[W];rfl) k;rename_i o1 o2 o3 o4 o5 o6;exfalso;obtain⟨w,hw,-⟩:=anG.1 h;refine k ?_;exact ayn (Xg hw)
def ayp{X:Ty}{W:S}(h:R.rs=W.rs)(k:RK)(r:RE):r.fits X R k=r.fits X W k:=by
 unfold RE.fits;cases k<;>simp only[zA h r]
def anR{X:Ty}{s W:S}(h:s.rs=W.rs):∀(am:eN)(V:aq),nN X s am V=nN X W am V
 |[],[]=>rfl|[],_::_=>rfl|_::_,[]=>rfl
 |c::R,v::Q=>by
  simp only[nN,anR h R Q];congr 1;cases c<;>cases v<;>simp only[uu,ayp h]
theorem Ht{X:Ty}{s s':S}(h:s.rs=s'.rs){am:eN}:∀{l:yZ},oG X s am l=oG X s' am l
 |[]=>rfl|r::W=>by simp only[oG,anR h am r,Ht h (l:=W)]
def ayq{l:Nat}{V:Ty}{Q:TI}{y:C}{W:LE×BE×ar}(h:ta V (R.dI (U X) r l) v Q y=U W):ta V R v Q y=U W:=by
 unfold ta at h⊢;split at h;simp only[zA (s:=R) (s':=R.dI (U X) r l) rfl];exact h;rw[E7] at h;split at h;rename_i P;simp only[Ht (s:=R) (s':=R.dI (U X) r l) rfl];exact h;cases h;cases h
def ayr{l:Nat}{bM:Bool}{y:C}{W:LE}{n:BE}(h:xt A.ty (R.dI (U X) r l) v bM y=U (W,n,t)):xt A.ty R v bM y=U (W,n,t)/\∀k∈t,bM=J->(R.lk|||l).testBit (2*k+1)=false:=by
 have Q:(R.dI (U X) r l).lk=R.lk|||l:=Xh _ _ _;unfold xt at h⊢;split at h;rename_i k;split at h;rename_i V;cases h;have P:R.rs[k]?=U (.own v):=V.1
 grind
 cases h
 grind
 grind
 simp only[zA (s:=R) (s':=R.dI (U X) r l) rfl]
 grind
 cases h
variable{F:aj->S->Prop}{G:aj->C->S->Prop}{H:OM->cQ->aj->S->Nat->aq->Prop}
def ays(X:aN)(s:S)(d:cH)(v:C)(l:Nat):((s.dI d v l).bW X).1=(s.bW X).1/\((s.dI d v l).bW X).2=(s.bW X).2.dI d v l:=by
 induction X generalizing s with
 |nil=>exact⟨rfl,rfl⟩
 |cons k X W=>
  simp only[S.bW];have V:((s.dI d v l).fresh k).1=(s.fresh k).1/\((s.dI d v l).fresh k).2=(s.fresh k).2.dI d v l:=by
   cases k<;>cases d<;>exact⟨rfl,rfl⟩
  grind
def ayt(h:QV A B x b R r X)(D:gZ B b R x=U J){W:Operand}{i L:Nat}(H:b.o.op=.load v W)(P:R.ev A.gl W=.loc i L):aL R.au i=J/\(b.bM=J->X=1<<<(2*i)):=by
 rcases h with h|⟨-,-,h⟩
 grind
 rw[H] at h;obtain⟨Q,G⟩:=h;refine⟨?_,λF=>by rw[G,P,F];rfl⟩;have Q:=Xg Q;simp only[cw,P] at Q;cases N:A.ty v with
 |none=>rw[N] at Q;exact Q.elim
 |some z=>
  rw[N] at Q;simp only at Q;cases M:bP R.au i with|none=>rw[show mU R.au i=Z by simp[mU,M]] at Q;exact Q.elim|some V=>simp[aL,M]
def ayu{m:OM}{s:S}{O:aj}{v:C}{l:Nat}(h:QV A B O m s v l)(G:gZ B m s O=U J){t:TypeId}{x:Operand}{i:Nat}{e:K}{N:bA}{W:aq}(M:m.o.op=.load t x)(V:s.ev A.gl x=.gq e N W)(R:AO W=U i):aL s.au i=J/\(m.bM=J->l=1<<<(2*i)):=by
 rcases h with h|⟨-,-,h⟩
 grind
 rw[M] at h;obtain⟨X,L⟩:=h;refine⟨?_,λH=>by rw[L,V,H];simp[Rk,R]⟩;have X:=Xg X;simp only[cw,V] at X;cases Q:A.ty t with
 |none=>rw[Q] at X;exact X.elim
 |some F=>
  rw[Q] at X;simp only[R,ak6] at X;cases P:bP s.au i with|none=>rw[show mU s.au i=Z by simp[mU,P]] at X;exact X.elim|some b=>simp[aL,P]
def anS(h:QV A B x b R r X)(G:gZ B b R x=U J){i:Nat}(P:Ct A.gl R b.o.op=U i):aL R.au i=J/\((CE b.o.op=J/\(b.bM=J->X=1<<<(2*i)))\/mU R.au i=Z):=by
 unfold Ct at P;split at P;rename_i t W N;split at P;rename_i j y M;cases P;obtain⟨Q,H⟩:=ayt h G N M;exact⟨Q,.inl ⟨by rw[N];rfl,H⟩⟩;rename_i e w u M;obtain⟨Q,H⟩:=ayu h G N M P;exact⟨Q,.inl ⟨by rw[N];rfl,H⟩⟩;cases P;rename_i t W g f N;split at P;rename_i j M;cases P;rcases h with h|⟨-,-,h⟩
 grind
 rw[N] at h;have Q:=Xg h.1;simp only[cw,M] at Q;split at Q;rename_i k e n d am q i' aa D;cases D;unfold VT at Q;split at Q;rename_i te a V c z cs g1 g2 F;refine⟨by simp[aL,F],.inr ?_⟩;have:mT z=true:=by
  split at Q;exact Q.elim;split at Q;rename_i L;simp at L;rw[L];decide;split at Q;rename_i L;simp at L;rw[L];decide;exact Q.elim
 simp[mU,F,this];exact Q.elim;exact Q.elim;cases P;cases P
def NG{bM:Bool}{b:BI}(h:eY A l bM J R=U b):vH l.op=true:=by
 unfold eY at h;cases X:l.op<;>rw[X] at h<;>simp only[dP] at h<;>try cases h
 rfl
 grind [vH]
def aeB{V:S}(h:vH b.o.op=J)(X:ja A b R x V):False:=by
 unfold ja gJ at X;split at X;exact X;cases Q:b.o.op<;>rw[Q] at h X<;>simp[vH] at h;simp[cw,xu,OR.Kr] at X;rename_i c;cases W:c.callee with
 |builtin P=>cases P<;>simp[W] at h<;>simp[cw,W,xu,OR.Kr] at X
 |_=>simp[W] at h
def anT{l:Nat}{d:cH}{aS:BE}{k:RK}{x:LE}{dl:ar}{V:BI}(P:zB R X)(O:d≠U X)
  (h:kZ (R.dI (U X) r l) d aS v k x t dl=U V):
  ∃b,kZ R d aS v k x t dl=U b/\V={b with s:=b.s.dI (U X) r l}/\(∀W,d≠U W->b.s.tmps[W]?=R.tmps[W]?)/\b.s.ni=R.ni/\b.s.nb=R.nb/\b.s.rs=kY dl 0 (jG t 0 R.rs)++[k]/\b.s.au=R.au:=by
 unfold kZ at h⊢;split at h;rename_i Q;cases h;simp only[aC] at Q;obtain⟨⟨⟨N,M⟩,L⟩,H⟩:=Q;have G:R.bd=true:=by
  have:R.eX []=true:=NF (dx:=X) (v:=r) (l:=l) (cs:=[]) (by simp[S.eX,N,C.i8]) P;simp only[S.eX,aC] at this;exact this.1
 rw[aH (by simp only[aC];exact⟨⟨⟨G,M⟩,L⟩,H⟩)];refine⟨_,rfl, ?_,λW F=>nR F,(gg _ _ _).1,(gg _ _ _).2.1,(gg _ _ _).2.2,m6 _ _ _⟩;congr 1;exact Sx (s:={R with rs:=kY dl 0 (jG t 0 R.rs)++[k]}) (d:=U X) (e:=d) (v:=r) (w:=.ak (.v (Y R.rs))) (l:=l) (λz D=>by cases D;exact O);cases h
def ayv{y:OM}(N:aey B b y X){l:Nat}(H:zB R X)(Q:∀z∈y.o.op.operands.toList,R.ev A.gl z=(R.dI (U X) r l).ev A.gl z){G:BI}
  (h:eY A y.o y.bM y.dr (R.dI (U X) r l)=U G):
  ∃W V dl D,eY A y.o y.bM y.dr R=U W/\G={W with s:=W.s.dI (U X) r l}/\(∀t,y.o.dst≠U t->W.s.tmps[t]?=R.tmps[t]?)/\W.s.ni=R.ni/\W.s.nb=R.nb/\W.s.rs=kY dl 0 (jG V 0 R.rs)++[D]/\W.s.au=R.au/\
   (∀k∈V,y.bM=J->(R.lk|||l).testBit (2*k+1)=E)/\(EJ y.o.op=E->V=[]):=by
 have P:=NG (by rw[N.yd] at h;exact h);unfold eY at h⊢;cases w:y.o.op<;>rw[w] at P h Q<;>simp[vH] at P;rename_i t n m;simp only at h⊢;rw[Q n cq,Q m cq];split at h;rename_i e am q u j i g f;split at h;rename_i O d;split at h;rename_i a;obtain⟨W,M,L,g3,g4,g5,g6,g7⟩:=anT H N.dy h;have aa:(u.aR j&&oG A.ty R O.am [et O]&&Y O.am !=0)=true:=by
  rw[<-Ht (s:=R.dI (U X) r l) (s':=R) rfl];exact a
 rw[aH aa];exact⟨W,[],[],_,M,L,g3,g4,g5,g6,g7,aw,λ_=>rfl⟩;cases h;cases h;cases h;rename_i c;cases bq:c.callee with
 |builtin bb=>
  cases bb<;>simp[bq] at P;simp only[bq] at h⊢;have ab:c.args.toList.map (R.ev A.gl)=c.args.toList.map ((R.dI (U X) r l).ev A.gl):=ky λz hz=>Q z (by simp[io,Cl];exact .inr (by simpa using hz))
  rw[ab];split at h;rename_i t t2 x0 y0 g f;split at h;rename_i e am q e2 ag F i al;split at h;rename_i O d;split at h;cases h;rename_i ac;rw[aJ ac];split at h;rename_i la n1 V lb n2 dl M L;obtain⟨q1,F⟩:=ayr M;have q3:=ayq L;rw[q1,q3];split at h;cases h;rename_i af;simp only[aJ af];obtain⟨W,k1,k2,k3,k4,k5,k6,k7⟩:=anT H N.dy h;exact⟨W,V,dl,_,k1,k2,k3,k4,k5,k6,k7,F,λh=>by simp[EJ,bq] at h⟩;cases h;cases h;cases h;cases h
 |_=>simp[bq] at P
def ayw(bk:C0 B D){y:OM}{af:cQ}(bl:y.so=E)(br:We B b y=J)(ha:∀d,b.o.dst=U d->zB R d)
  (e1:Y x.i=R.ni)(e2:Y x.b=R.nb)(e3:Y x.r=Y R.rs)
  (h:eE p A B D F G H (b::y::af) x R):eE p A B D F G H (y::b::af) x R:=by
 obtain⟨a,N⟩:=anQ br;obtain⟨v,l,M,h⟩:=(anP N.xd N.qx).1 h;rw[N.dst] at h;have an:=ha a N.dst;have a1:∀z,(U a:cH)=U z->y.o.dst≠U z:=λz hz=>by cases hz;exact N.dy
 have ag:lW A B y.o (R.dI (U a) v l) x R x:=lW.Ba (λt f=>(NE (λe=>N.ry (by cases e;exact f))).symm) rfl rfl rfl;have al:∀(s':S)(O':aj),(gZ B b R x=U E->gZ B b s' O'=U E)->(gZ B b R x=U J->lW A B b.o R x s' O')->(gZ B b R x=U J->∀i,Ct A.gl R b.o.op=U i->bP s'.au i=bP R.au i)->eE p A B D F G H af O' (s'.dI (U a) v l)->eE p A B D F G H (b::af) O' s':=by
  intro s' O' bs hs hb hr;refine(anP N.xd N.qx).2 ⟨v,l, ?_,by rw[N.dst];exact hr⟩;cases ab:gZ B b R x with
  |none=>rcases M with M|M<;>(rw[ab] at M;cases M.1)
  |some X=>
   cases X;rcases M with M|M;exact .inl ⟨bs M.1,M.2⟩;rw[ab] at M;cases M.1;exact aew (hs ab) (hb ab) M
 simp only[eE] at h;rcases h with⟨h1,P⟩|⟨h1,P⟩;refine .inl ⟨ag.guard h1, ?_⟩;rw[Sx a1] at P;have aa:lW A B b.o R x (R.put y.o.dst (.bI [])) x:=lW.Ba (λt f=>nR (λe=>N.yx t e f)) (gg _ _ _).2.2 (gg _ _ _).1 (gg _ _ _).2.1;refine al _ _ aa.guard (λ_=>aa) (λ_ i _=>by rw[m6]) P
 ·refine .inr ⟨ag.guard h1, ?_⟩;have hg:gZ B y R x=U true:=ag.guard h1;have bt:eu A R y.o=eu A (R.dI (U a) v l) y.o:=Hq (ag.ev A.gl);rw[bt];cases a0:eu A (R.dI (U a) v l) y.o with
  |call g0 c=>
   rw[a0] at P;rcases g0 with g|n
   rotate_left
   have h3:=P.1;rw[bl] at h3;cases h3;have bx:D g c (R.dI (U a) v l)=D g c R:=bk.q _ _ _ _ _ _;show rm _ _ _;have P:rm _ _ _:=P;rw[bx] at P;cases ba:D g c R with
   |some ve=>
    obtain⟨pv,ex⟩:=ve;rw[ba] at P;obtain⟨b0,P⟩:=P;have b5:R.bd=true:=by
     have:=NF (s:=R) (dx:=a) (v:=v) (l:=l) (cs:=[]) (by simp only[S.eX,b0,C.i8,Cm]) an;simp only[S.eX,aC] at this;exact this.1
    have b6:(((R.dI (U a) v l).plus ex).put y.o.dst pv)=(((R.plus ex).put y.o.dst pv).dI (U a) v l):=by
     rw[<-Sx a1];rfl
    rw[b6] at P;have aa:lW A B b.o R x ((R.plus ex).put y.o.dst pv) x:=lW.Ba (λt f=>nR (λe=>N.yx t e f)) (gg _ _ _).2.2 (gg _ _ _).1 (gg _ _ _).2.1;refine⟨b5,al _ _ aa.guard (λ_=>aa) (λab i hi=> ?_) P⟩;rw[m6];exact anK (anS M ab hi).1
   |none=>
   rw[ba] at P;simp only[rm] at P⊢;obtain⟨ts,L,r,c1,c2,c3,c4,c5⟩:=P;obtain⟨f1,f2⟩:=ays L (R.cut c L) (U a) v l;have b7:(R.eX c&&mW L)=true:=by
    simp only[aC] at c4⊢;exact⟨NF c4.1 an,c4.2⟩
   refine⟨ts,L,r,c1,c2,by rw[<-f1];exact c3,b7,λV W Q=> ?_⟩;refine(c5 V W (by rw[E7];exact Q)).mono ?_;intro e W' he;cases e with
   |returned u=>
    obtain⟨xs,q1,q2,q3,q4,q5⟩:=he;refine⟨xs,q1,q2,q3,q4, ?_⟩;have q5:eE p A B D F G H af (x.ext xs) ((((R.cut c L).dI (U a) v l).bW L).2.put y.o.dst (one r)):=q5;rw[f2,Sx a1] at q5;obtain⟨b1,b2,b3,b4⟩:=uF L (R.cut c L);obtain⟨l1,l2,l3⟩:=xH L xs (R.cut c L) x q1 e1 e2 (e3.trans (CX c L R.rs).len.symm);have a3:=WE xs x;have bb:CY A.ty R ((((R.cut c L).bW L).2).put y.o.dst (one r)):=by
     intro q e he j;refine Xe (λk e _ j=> ?_) he j;rw[(gg _ _ _).2.2];obtain⟨e',g1,g2⟩:∃e',(EI c L R.rs)[k]?=U e'/\e'.rd=e.rd:=by
      unfold EI;split;refine⟨AP ((Rq c (Y R.rs)).contains k) e,by rw[Nh,j];simp, ?_⟩;cases e<;>simp only[AP]<;>try rfl
      split<;>rfl;exact⟨e,j,rfl⟩
     exact⟨e',ane L (R.cut c L) k e' g1,g2⟩
    have aa:lW A B b.o R x ((((R.cut c L).bW L).2).put y.o.dst (one r)) (x.ext xs):=by
     refine⟨λt f=> ?_,λ_ _=>bb,λt b r w i bc _ _=>bb r, ?_, ?_, ?_, ?_⟩;rw[nR (λe=>N.yx t e f),b2];rfl;rw[(gg _ _ _).1,<-l1,<-e1];exact a3.1;rw[(gg _ _ _).2.1,<-l2,<-e2];exact a3.2.1;rw[(gg _ _ _).2.2,<-l3,<-e3];exact a3.2.2;rw[<-e1,<-e2,<-e3];exact EU xs x
    exact al _ _ aa.guard (λ_=>aa) (λ_ i _=>by rw[m6,b1];rfl) q5
   |panicked ch=>exact he|outgrown=>exact he
  |bp w=>
   have:=aez a0;rw[N.np] at this;cases this
  |no=>rw[a0] at P;exact P
  |op=>
   rw[a0] at P;simp only at P⊢;cases a4:eY A y.o y.bM y.dr (R.dI (U a) v l) with
   |some b1=>
    rw[a4] at P;obtain⟨hn,P⟩:=P;obtain⟨X,b8,dl,kk,g1,g2,g3,g4,g5,g6,g7,g8,g9⟩:=ayv N an (ag.ev A.gl) a4;rw[g1];subst g2;refine⟨hn,λrv ca=>al _ _ ?_ ?_ ?_ (P rv ca)⟩;intro cc;have cl:lW A B {b.o with op:=.move (.const undef)} R x X.s (x.add (.r rv)):=⟨λt f=>g3 t (λe=>N.yx t e (by
     unfold ld at f⊢;refine(fc.1 f).elim (λh=> ?_) (λh=>ak1 _ h);simp[io] at h)),λh=>by simp[looks] at h,λt x0 r w i bc h=>by simp at h,GK g4.symm,GK g5.symm,by rw[g6];simp[CP,CO],by rw[<-e1,<-e2,<-e3];exact Ws x (.r rv)⟩
    exact cl.guard (m:={b with o:={b.o with op:=.move (.const undef)}}) cc;intro ab;have bf:∀(k:Nat)(e:RK),k∉b8->R.rs[k]?=U e->∃e',X.s.rs[k]?=U e'/\e'.rd=e.rd:=by
     intro k e cn j;have co:k<Y R.rs:=(du.1 j).1;refine⟨AP (dl.contains k) e, ?_, ?_⟩;rw[g6,fO (by simp[CP,CO];exact co),Nh,Ng,j];simp[cn];cases e<;>simp only[AP]<;>try rfl
     split<;>rfl
    refine⟨λt f=>g3 t (λe=>N.yx t e f),λcp ct=> ?_,λt x0 r w i bc ho hx e he j=> ?_,GK g4.symm,GK g5.symm,by rw[g6];simp[CP,CO],by rw[<-e1,<-e2,<-e3];exact Ws x (.r rv)⟩;cases ac:EJ y.o.op with
    |true=>
     have:=(N.rb ac cp).1;rw[ct] at this;cases this
    |false=>
     intro r e he j;exact Xe (λk e _ j=>bf k e (by rw[g9 ac];simp) j) he j
    refine Xe (λk e cu j=>bf k e ?_ j) he j;intro a9;have ac:EJ y.o.op=true:=by
     cases ac:EJ y.o.op with|true=>rfl|false=>rw[g9 ac] at a9;cases a9
    obtain⟨-,r1,r2⟩:=N.rb ac (by rw[ho];rfl);have bg:=g8 k a9 r2;rcases M with M|⟨-,-,M⟩;rw[ab] at M;cases M.1;rw[ho] at M;have:=M.2;rw[hx,r1] at this;simp only[Rk,cu,dP] at this;rw[this,JD] at bg;simp[avY] at bg;intro _ i _;rw[g7]
   |none=>
   rw[a4] at P;have cv:eY A y.o y.bM y.dr R=none:=by
    cases hb:eY A y.o y.bM y.dr R with
    |none=>rfl
    |some X=>
     exfalso;have cx:=NG (by rw[N.yd] at hb;exact hb);obtain⟨s2,h3,-⟩:=P;exact aeB cx h3
   rw[cv];simp only[uH] at P⊢;obtain⟨s2,h3,h4⟩:=P;obtain⟨s',g1,g2,g3,g4,g5,g6,g7⟩:=ayo N an hg h3;subst g2;have aa:lW A B b.o R x s' x:=lW.Ba (λt f=>g3 t (λe=>N.yx t e f)) g6 g4 g5;refine⟨s',g1,al s' x aa.guard (λ_=>aa) ?_ h4⟩;intro ab i hi;obtain⟨k1,k2⟩:=anS M ab hi;rcases g7 i k1 with k3|⟨k3,k4,k5⟩;exact k3;rcases k2 with⟨k2,k6⟩|k2;obtain⟨r1,r2⟩:=N.rc k3 k2;have:=k4 r2;rw[k6 r1,JD] at this;simp[avY] at this;rw[k2] at k5;cases k5
end
section
variable{p:Sp}{cf:bv}{B:dG}{A:vL}{F:aj->S->Prop}{G:aj->C->S->Prop}{H:OM->cQ->aj->S->Nat->aq->Prop}
def anU{W:S}(h:(gJ cf b R).gives x W):∀t,b.o.dst≠U t->W.tmps[t]?=R.tmps[t]?:=by
 intro q X;unfold gJ at h;split at h;exact h.elim;split at h;split at h;split at h;cases h;rw[nR X];rfl;exact h.elim;exact h.elim;split at h;split at h;cases h;rw[nR X];rfl;exact h.elim;exact h.elim;split at h;split at h;split at h;split at h;cases h;rw[nR X];rfl;exact h.elim;exact h.elim;exact h.elim;exact h.elim;split at h;split at h;split at h;cases h;rw[nR X];rfl;exact h.elim;exact h.elim;exact h.elim
 grind [OR.gives,nR]
 obtain⟨v,-,rfl⟩:=CU h;rw[NE X];obtain⟨v,-,rfl⟩:=CU h;rw[NE X]
def aeC{bM:Bool}{b:BI}(h:eY cf l bM J R=U b):∀t,l.dst≠U t->b.s.tmps[t]?=R.tmps[t]?:=by
 intro q Q;have N:∀{aS:BE}{e:TypeId}{k:RK}{x:LE}{V dl:ar},kZ R l.dst aS e k x V dl=U b->b.s.tmps[q]?=R.tmps[q]?:=by
  intro aS e k x V dl h;obtain⟨-,-,rfl⟩:=A5 h;simp only;rw[nR Q]
 have X:=NG h;unfold eY at h;cases P:l.op<;>rw[P] at X h<;>simp[vH] at X
 grind
 rename_i c;cases W:c.callee with
 |builtin O=>
  cases O<;>simp[W] at X;simp only[W] at h;split at h
  grind
  cases h
 |_=>simp[W] at X
theorem Sy{X W V:Nat}{R:Nat->Bool}:∀{l m:aq},C.dQ X W V R (l++m)=J<->C.dQ X W V R l=J/\C.dQ X W V R m=J
 |[],m=>by simp[C.i8]|x::Q,m=>by simp[C.i8,Sy (l:=Q),and_assoc]
theorem xI{X W V:Nat}{R:Nat->Bool}:∀{l:aq},C.dQ X W V R l=J<->∀v∈l,v.bd X W V R=J
 |[]=>by simp[C.i8]|x::Q=>by simp[C.i8,xI (l:=Q)]
def ayx{W V:Nat}{R:Nat->Bool}(v:Value):(Re v).bd X W V R=true:=by
 have Q:∀w,(Rc w).bd X W V R=true:=λw=>by cases w<;>simp[Rc,C.bj,K.bj,BE.bj,RE.bj]
 cases v<;>try simp[Re,C.bj,K.bj,BE.bj,RE.bj]
 rw[xI];intro x P;obtain⟨w,-,rfl⟩:=fo.1 P;exact Q w
def C1(X:R.bd=J){x:Operand}(W:zn x=J):(R.ev cf.gl x).bd R.ni R.nb (Y R.rs) (aL R.au)=true:=by
 simp only[S.bd,aC] at X;cases x with
 |tmp t=>
  simp only[S.ev,zf,di];cases V:R.tmps[t]? with|none=>simp[C.bj]|some v=>exact xD X.1 V
 |const v=>exact ayx v|global g=>cases W|func f=>simp[S.ev,C.bj,C.i8]
def aeD{W V:Nat}{R:Nat->Bool}(h:r.bd X W V R=J):C.dQ X W V R r.cells=true:=by
 cases r<;>simp only[C.cells,C.i8,VN]<;>first|exact h|(simp only[C.bj] at h;exact h)
def aeE{X W V:Nat}{R:Nat->Bool}:∀{vs l:aq}{Q:Nat},C.dQ X W V R l=J->C.dQ X W V R vs=J->C.dQ X W V R (mj l Q vs)=J
 |[],l,Q,h,_=>h
 |v::vs,l,Q,h,P=>by
  simp only[C.i8,aC] at P;rw[mj];refine aeE (vs:=vs) ?_ P.2
  grind [xI]
def anV{V R Q:Nat}{P:Nat->Bool}{place:Nat->Option (Nat×Nat)}:∀{O:List (Nat×C)}{W l:aq},C.dQ V R Q P W=J->(∀q∈O,q.2.bd V R Q P=J)->AN place W O=U l->C.dQ V R Q P l=J
 |[],W,l,h,_,X=>by simp[AN] at X;subst X;exact h
 |(i,v)::r,W,l,h,N,X=>by
  simp only[AN] at X;split at X;cases X;split at X;cases X;exact anV (aeE h (aeD (N (i,v) VD))) (λq M=>N q (AI _ M)) X
def Xi{W V:Nat}{R:Nat->Bool}(Q:TI):C.dQ X W V R (et Q)=true:=by
 rw[xI];intro x P;obtain⟨c,-,rfl⟩:=fo.1 P;cases c<;>simp[Ey,C.bj,K.bj,BE.bj,RE.bj]
def anW{X W V:Nat}{R:Nat->Bool}{l:aq}(h:C.dQ X W V R l=J):∀n,C.dQ X W V R (zi n l)=J
 |0=>rfl|n+1=>by rw[zi,Sy];exact⟨h,anW h n⟩
mutual
def C.Sz{W V R:Nat}{Q P:Nat->Bool}(h:∀i,Q i=J->P i=J):∀(v:C),v.bd W V R Q=J->v.bd W V R P=J
 |.int _ _,X=>by simp only[C.bj] at X⊢;exact X|.bool _,X=>by simp only[C.bj] at X⊢;exact X|.ak _,X=>by simp only[C.bj] at X⊢;exact X|.loc i _,X=>by simp only[C.bj] at X⊢;exact h i X|.iP i _ _ _,X=>by simp only[C.bj] at X⊢;exact h i X|.el _ _ _ _,X=>by simp only[C.bj] at X⊢;exact X|.agg l,X=>by simp only[C.bj] at X⊢;exact C.Hu h l X|.bI l,X=>by simp only[C.bj] at X⊢;exact C.Hu h l X|.fn _ l,X=>by simp only[C.bj] at X⊢;exact C.Hu h l X|.gI _ x,X=>by simp only[C.bj] at X⊢;exact C.Sz h x X|.yl _,_=>by simp only[C.bj]|.any,_=>by simp only[C.bj]|.mp i,X=>by simp only[C.bj] at X⊢;exact h i X|.gq _ _ O,X=>by simp only[C.bj,aC] at X⊢;exact⟨X.1,C.Hu h O X.2⟩
def C.Hu{W V R:Nat}{Q P:Nat->Bool}(h:∀i,Q i=J->P i=J):∀(l:aq),C.dQ W V R Q l=J->C.dQ W V R P l=J
 |[],_=>rfl|x::O,X=>by simp only[C.i8,aC] at X⊢;exact⟨C.Sz h x X.1,C.Hu h O X.2⟩
end
def E8{V R Q:Nat}{P:Nat->Bool}:∀{l:bm},C.rU V R Q P l=J<->∀(i:Nat)(b:TypeId×aq),bP l i=U b->C.dQ V R Q P b.2=J
 |[]=>by simp[C.rU,bT]
 |Z::W=>by
  simp only[C.rU,E8 (l:=W)];exact⟨λh i b X=>by cases i with|zero=>simp[bT] at X|succ i=>exact h i b (by simpa[bT] using X),λh i b X=>h (i+1) b (by simpa[bT] using X)⟩
 |some x::W=>by
  simp only[C.rU,aC,E8 (l:=W)];exact⟨λh i b X=>by cases i with|zero=>simp[bT] at X;subst X;exact h.1|succ i=>exact h.2 i b (by simpa[bT] using X),λh=>⟨h 0 x (by simp[bT]),λi b X=>h (i+1) b (by simpa[bT] using X)⟩⟩
def S.more(s:S)(n:Nat)(t:TypeId)(X:aq)(d:cH)(w:C):S:=(s.cY n t X).put d w
def anX{d:cH}(Q:R.bd=J)(G:gt R.au X=J)(H:R.eX h=J)(F:r.bd R.ni R.nb (Y R.rs) (λi=>i==X)=J):(R.more X v h d r).bd=true:=by
 have N:=(pn G).2;have P:∀i,aL R.au i=J->aL (R.au.set X (U (v,h))) i=true:=λi V=>(qD N).2 (.inr V)
 simp only[S.eX,S.bd,aC] at Q H;simp only[S.more,S.bd,aC];obtain⟨D,B,A⟩:=gg (R.cY X v h) d r;rw[D,B,A,m6];simp only[S.cY];refine⟨?_, ?_⟩;rw[xI];intro W M;cases d with
 |none=>exact C.Sz P W (xI.1 Q.1 W M)
 |some d=>
  simp only[S.put,Cp] at M;rcases Mo M with L|L;exact C.Sz P W (xI.1 Q.1 W L);rw[L];exact C.Sz (λi V=>by simp at V;subst V;exact(qD N).2 (.inl rfl)) r F
 rw[E8];intro i b O;by_cases V:i=X;subst V;rw[E2 N] at O;cases O;exact C.Hu P h H.2;rw[xG V] at O;exact C.Hu P _ (E8.1 Q.2 i b O)
def aeF{m:S}(hy:gR b.o.op=J)(aa:b.o.op.operands.toList.all zn=J)(h:ja cf b R x m):
  ∃t L w,m=R.more b.ix t L b.o.dst w/\gt R.au b.ix=J/\(∀ni nb nr,w.bd ni nb nr (λi=>i==b.ix)=J)/\
   ∀(W:S)(B:aj),(∀X∈b.o.op.operands.toList,W.ev cf.gl X=R.ev cf.gl X)->W.bd=J->gt W.au b.ix=J->W.eX L=J/\ja cf b W B (W.more b.ix t L b.o.dst w):=by
 unfold ja gJ at h;split at h;exact h.elim;rename_i hk;have l:∀X∈b.o.op.operands.toList,zn X=true:=gC.1 aa;have u:∀W:S,(∀X∈b.o.op.operands.toList,W.ev cf.gl X=R.ev cf.gl X)->¬(b.o.op.operands.toList.any λz=>(W.ev cf.gl z).fg)=true:=by
  intro W Q hh;obtain⟨z,k,ab⟩:=nF.1 hh;exact hk (nF.2 ⟨z,k,by rw[<-Q z k];exact ab⟩)
 split at h;rename_i t V;split at h;rename_i A H;split at h;rename_i P;simp only[aC] at P;refine⟨t,et A,.loc b.ix 0,h,uC P.2,λ_ _ _=>by simp[C.bj],λW B Q M G=> ?_⟩;have N:W.eX (et A)=true:=by simp only[S.eX,M,Mu];exact Xi A
 refine⟨N, ?_⟩;unfold ja gJ;rw[aJ (u W Q)];have F:rf W.au b.ix t=true:=by simp[rf,G,Nf P.2]
 simp only[V,H,N,F,Cm,dP];rfl;exact h.elim;exact h.elim;rename_i t z V;split at h;rename_i A H;split at h;rename_i P;simp only[aC] at P;obtain⟨⟨⟨j,g⟩,v⟩,f⟩:=P;refine⟨t,(R.ev cf.gl z).cells,.loc b.ix 0,h,uC f,λ_ _ _=>by simp[C.bj],λW B Q M G=> ?_⟩;have D:=Q z (by rw[V];simp[io]);have N:W.eX (R.ev cf.gl z).cells=true:=by
  simp only[S.eX,M,Mu];rw[<-D];exact aeD (C1 M (l z (by rw[V];simp[io])))
 refine⟨N, ?_⟩;unfold ja gJ;rw[aJ (u W Q)];have F:rf W.au b.ix t=true:=by simp[rf,G,Nf f]
 simp only[V,H,D,j,N,v,F,Cm,dP];rfl;exact h.elim;exact h.elim;rename_i t r parts V;split at h;rename_i e am q H;split at h;rename_i te ac;split at h;rename_i L d;split at h;rename_i P;simp only[aC] at P;obtain⟨⟨j,g⟩,v⟩:=P;refine⟨e,L,.iP b.ix 0 r r,h,uC v,λ_ _ _=>by simp[C.bj],λW B Q M G=> ?_⟩;have D:(parts.toList.map λp=>(p.1,W.ev cf.gl p.2))=parts.toList.map λp=>(p.1,R.ev cf.gl p.2):=ky λp n=>by rw[Q p.2 (by rw[V];simp[io];exact⟨p.1,by simpa using n⟩)]
 have N:W.eX L=true:=by
  simp only[S.eX,M,Mu];refine anV (anW (Xi te) r) (λq c=> ?_) d;rw[<-D] at c;obtain⟨a,n,rfl⟩:=fo.1 c;exact C1 M (l a.2 (by rw[V];simp[io];exact⟨a.1,by simpa using n⟩))
 refine⟨N, ?_⟩;unfold ja gJ;rw[aJ (u W Q)];have F:rf W.au b.ix e=true:=by simp[rf,G,Nf v]
 simp only[V,H,ac,D,d,N,g,F,Cm,dP];rfl;exact h.elim;exact h.elim;exact h.elim;exact h.elim
 all_goals(rename_i V;simp[gR,V] at hy)<;>skip
def SA(h:gR l.op=J):eu cf R l=.op:=by
 grind [gR,eu]
def NH{bM X:Bool}(h:gR l.op=J)(W:X=J):eY cf l bM X R=none:=by
 grind [gR,eY]
def Bc(s:S)(n:Nat)(t:TypeId)(X:aq)(d:cH)(w:C):(s.more n t X d w).ni=s.ni/\(s.more n t X d w).nb=s.nb/\(s.more n t X d w).rs=s.rs:=gg _ _ _
def NI{s:S}{n:Nat}{t:TypeId}{X:aq}{d:cH}{w:C}{q:Nat}(h:d≠U q):(s.more n t X d w).tmps[q]?=s.tmps[q]?:=nR h
def E9(s:S)(n:Nat)(t:TypeId)(X:aq)(d:cH)(w:C):(s.more n t X d w).au=s.au.set n (U (t,X)):=m6 _ _ _
def Fa{s:S}{n:Nat}{t:TypeId}{X:aq}{d e:cH}{v w:C}(h:∀x,d=U x->e≠U x):(s.put d v).more n t X e w=(s.more n t X e w).put d v:=by
 unfold S.more;have:(s.put d v).cY n t X=(s.cY n t X).put d v:=by cases d<;>rfl
 rw[this,aex h]
def aeG{s:S}{n n':Nat}{t X:TypeId}{W V:aq}{d e:cH}{v w:C}(h:∀x,d=U x->e≠U x)(R:n≠n'):(s.more n t W d v).more n' X V e w=(s.more n' X V e w).more n t W d v:=by
 show((s.cY n t W).put d v).more n' X V e w=_;rw[Fa h];unfold S.more;have:((s.cY n t W).cY n' X V).put e w=((s.cY n' X V).put e w).cY n t W:=by
  have Q:(s.cY n t W).cY n' X V=(s.cY n' X V).cY n t W:=by simp only[S.cY];rw[List.set_comm _ _ R]
  rw[Q];cases e<;>rfl
 rw[this]
def anY:∀{l:aq}{P O N:Nat}{V:Nat->Bool}{i:Nat},C.dQ P O N V l=J->i∈C.qm l->V i=true:=by
 have L:∀(n:Nat)(l:aq),SizeOf.sizeOf l<n->∀{P O N:Nat}{V:Nat->Bool}{i:Nat},C.dQ P O N V l=J->i∈C.qm l->V i=true:=by
  intro n;induction n with
  |zero=>intro l h;omega
  |succ n R=>
   intro l Q P O N V i W X;cases l with
   |nil=>simp[C.qm] at X
   |cons x M=>
    simp only[C.i8,aC] at W;simp only[C.qm,fc] at X;simp only[List.cons.sizeOf_spec] at Q;rcases X with X|X;cases x with
    |loc j o=>simp[C.JS] at X;subst X;simpa only[C.bj] using W.1|iP j a b c=>simp[C.JS] at X;subst X;simpa only[C.bj] using W.1|agg m=>exact R m (by simp at Q;omega) (by simpa only[C.bj] using W.1) X|bI m=>exact R m (by simp at Q;omega) (by simpa only[C.bj] using W.1) X|fn f m=>exact R m (by simp at Q;omega) (by simpa only[C.bj] using W.1) X
    |gI t y=>exact R [y] (by
     have H:0<SizeOf.sizeOf M:=by cases M<;>simp<;>omega
     simp at Q⊢;omega) (by simpa[C.i8,C.bj] using W.1) (by simpa[C.qm,C.JS] using X)
    |mp j=>simp[C.JS] at X;subst X;simpa only[C.bj] using W.1|gq e G m=>exact R m (by simp at Q;omega) (by have:=W.1;simp only[C.bj,aC] at this;exact this.2) X|_=>simp[C.JS] at X
    exact R M ae W.2 X
 intro l P O N V i;exact L _ l (VF _)
def anZ{l:bm}{x:TypeId×aq}(h:X∉t)(W:gt l X=J):sZ t 0 (l.set X (U x))=sZ t 0 l:=by
 apply kX;intro i;rw[WX,WX,jp]
 grind
def an1(X:aN)(s:S)(n:Nat)(t:TypeId)(W:aq)(d:cH)(w:C):((s.more n t W d w).bW X).1=(s.bW X).1/\((s.more n t W d w).bW X).2=(s.bW X).2.more n t W d w:=by
 induction X generalizing s with
 |nil=>exact⟨rfl,rfl⟩
 |cons k X V=>
  simp only[S.bW];have R:((s.more n t W d w).fresh k).1=(s.fresh k).1/\((s.more n t W d w).fresh k).2=(s.fresh k).2.more n t W d w:=by
   cases k<;>cases d<;>exact⟨rfl,rfl⟩
  grind
theorem Xj(s:S)(X:aq)(W:aN)(n:Nat)(t:TypeId)(V:aq)(d:cH)(w:C):(s.more n t V d w).cut X W=(s.cut X W).more n t V d w:=by cases d<;>rfl
def ayy{d:cH}(h:(R.put d r).bd=J)(X:∀e,d=U e->zB R e):R.bd=true:=by
 cases d with
 |none=>exact h
 |some d=>
  simp only[S.bd,S.put,Cp,aC] at h⊢;exact⟨aeA h.1 (X d rfl),h.2⟩
def an2{s:S}{n:Nat}{t:TypeId}{W:aq}{X:cH}{w:C}{d:cH}{aS:BE}{e:TypeId}{k:RK}{x:LE}{V dl:ar}{b:BI}(P:(s.more n t W X w).bd=J)(O:∀q,X=U q->d≠U q)
  (h:kZ s d aS e k x V dl=U b):kZ (s.more n t W X w) d aS e k x V dl=U {b with s:=b.s.more n t W X w}:=by
 unfold kZ at h⊢;split at h;rename_i R;cases h;simp only[aC] at R;obtain⟨⟨⟨B,N⟩,M⟩,L⟩:=R;obtain⟨H,G,Q⟩:=Bc s n t W X w;rw[aH (by simp only[aC];rw[H,G,Q];exact⟨⟨⟨P,N⟩,M⟩,L⟩)];congr 2;rw[Q,Fa (λq F D=>O q D F)];cases X<;>rfl;cases h
def ayz{s:S}{n:Nat}{t:TypeId}{X:aq}{W:cH}{w:C}{V:Ty}{e:TypeId}{R:TI}{y:C}{r:LE×BE×ar}(P:gt s.au n=J)(h:ta V s e R y=U r):ta V (s.more n t X W w) e R y=U r:=by
 have bZ:(s.more n t X W w).rs=s.rs:=(Bc _ _ _ _ _ _).2.2;unfold ta at h⊢;split at h;simp only[zA bZ];exact h;rename_i i N M L;rw[E9];split at h;rename_i Q;have O:i≠n:=λe=>by subst e;have:=(pn P).1;simp[aL,(AZ Q).1] at this
 rw[RQ (xG O)];simp only[Q,Ht bZ];exact h;cases h;cases h
def an3{W:cH}{e:TypeId}{bM:Bool}{y:C}:xt cf.ty (R.more X v h W r) e bM y=xt cf.ty R e bM y:=by
 have bZ:(R.more X v h W r).rs=R.rs:=(Bc _ _ _ _ _ _).2.2;have V:(R.more X v h W r).lk=R.lk:=Xh _ _ _;unfold xt;simp only[bZ,V,zA bZ]
def ayA{o:Oper}{bM:Bool}{s:S}{n:Nat}{t:TypeId}{W:aq}{X:cH}{w:C}{b:BI}(O:gt s.au n=J)(Q:(s.more n t W X w).bd=J)(P:∀q,X=U q->o.dst≠U q)
  (V:∀z∈o.op.operands.toList,(s.more n t W X w).ev cf.gl z=s.ev cf.gl z)(h:eY cf o bM J s=U b):eY cf o bM J (s.more n t W X w)=U {b with s:=b.s.more n t W X w}:=by
 have bZ:(s.more n t W X w).rs=s.rs:=(Bc _ _ _ _ _ _).2.2;have R:=NG h;unfold eY at h⊢;cases N:o.op<;>rw[N] at R h V<;>simp[vH] at R;rename_i j M L;simp only at h⊢;rw[V M cq,V L cq];split at h;rename_i e am q H i G F D;split at h;rename_i B A;split at h;rename_i y;rw[Ht bZ,aH y];exact an2 Q P h;cases h;cases h;cases h;rename_i c;cases bq:c.callee with
 |builtin x=>
  cases x<;>simp[bq] at R;simp only[bq] at h⊢;have v:c.args.toList.map ((s.more n t W X w).ev cf.gl)=c.args.toList.map (s.ev cf.gl):=ky λz u=>V z (by simp[io,Cl];exact .inr (by simpa using u))
  rw[v];split at h;rename_i g f d a F D;split at h;rename_i e am q e2 aa q2 G ab;split at h;rename_i B A;split at h;cases h;rename_i r;rw[aJ r,an3];split at h;rename_i la n1 ac lb H dl m l;rw[m,ayz O l];split at h;cases h;rename_i k;simp only[aJ k];exact an2 Q P h;cases h;cases h;cases h;cases h
 |_=>simp[bq] at R
mutual
def C.eA{Q P O N M L:Nat}{H G:Nat->Bool}(W:Q<=N)(V:P<=M)(R:O<=L)(h:∀i,H i=J->G i=J):∀(v:C),v.bd Q P O H=J->v.bd N M L G=J
 |.int _ e,X=>by simp only[C.bj] at X⊢;exact K.eA W V R e X|.bool e,X=>by simp only[C.bj] at X⊢;exact BE.eA W V R e X|.ak e,X=>by simp only[C.bj] at X⊢;exact RE.eA W V R e X|.loc i _,X=>by simp only[C.bj] at X⊢;exact h i X|.iP i _ _ _,X=>by simp only[C.bj] at X⊢;exact h i X|.el r _ i _,X=>by simp only[C.bj,aC] at X⊢;exact⟨RE.eA W V R r X.1,K.eA W V R i X.2⟩|.agg l,X=>by simp only[C.bj] at X⊢;exact C.NJ W V R h l X|.bI l,X=>by simp only[C.bj] at X⊢;exact C.NJ W V R h l X|.fn _ l,X=>by simp only[C.bj] at X⊢;exact C.NJ W V R h l X|.gI _ x,X=>by simp only[C.bj] at X⊢;exact C.eA W V R h x X|.yl _,_=>by simp only[C.bj]|.any,_=>by simp only[C.bj]|.mp i,X=>by simp only[C.bj] at X⊢;exact h i X|.gq e _ F,X=>by simp only[C.bj,aC] at X⊢;exact⟨K.eA W V R e X.1,C.NJ W V R h F X.2⟩
def C.NJ{W V R Q P O:Nat}{N M:Nat->Bool}(L:W<=Q)(H:V<=P)(G:R<=O)(h:∀i,N i=J->M i=J):∀(l:aq),C.dQ W V R N l=J->C.dQ Q P O M l=J
 |[],_=>rfl|x::F,X=>by simp only[C.i8,aC] at X⊢;exact⟨C.eA L H G h x X.1,C.NJ L H G h F X.2⟩
end
def SB{s':S}{d:cH}(X:R.bd=J)(V:R.ni<=s'.ni)(Q:R.nb<=s'.nb)(P:Y R.rs<=Y s'.rs)(O:s'.tmps=R.tmps)(N:s'.au=R.au)(L:r.bd s'.ni s'.nb (Y s'.rs) (aL s'.au)=J):(s'.put d r).bd=true:=by
 simp only[S.bd,aC] at X⊢;obtain⟨H,G,F⟩:=gg s' d r;rw[H,G,F,m6,N];rw[N] at L;refine⟨?_, ?_⟩;rw[xI];intro u W;cases d with
 |none=>
  simp only[S.put,O] at W;exact C.eA V Q P (λ_ h=>h) u (xI.1 X.1 u W)
 |some d=>
  simp only[S.put,Cp,O] at W;rcases Mo W with M|M;exact C.eA V Q P (λ_ h=>h) u (xI.1 X.1 u M)
  grind
 rw[E8];exact λi b D=>C.NJ V Q P (λ_ h=>h) _ (E8.1 X.2 i b D)
def aeH:∀(X:aN)(s:S),s.ni<=(s.bW X).2.ni/\s.nb<=(s.bW X).2.nb/\Y s.rs<=(s.bW X).2.rs.length
 |[],s=>⟨cd _,cd _,cd _⟩
 |k::X,s=>by
  have:=aeH X (s.fresh k).2;simp only[S.bW];cases k<;>simp[S.fresh] at this⊢<;>omega
def an4{pr:Nat->Bool}:∀(X:aN)(s:S),C.dQ (s.bW X).2.ni (s.bW X).2.nb (s.bW X).2.rs.length pr (s.bW X).1=J
 |[],s=>rfl
 |k::X,s=>by
  have W:=an4 (pr:=pr) X (s.fresh k).2;have V:=aeH X (s.fresh k).2;simp only[S.bW,C.i8,aC];refine⟨?_,W⟩;cases k<;>simp only[S.fresh,C.bj,K.bj,BE.bj,RE.bj,dq]<;>simp[S.fresh] at V<;>omega
def an5{N:Ty}{W V R:Nat}{Q:Nat->Bool}:∀{O:i7}{l r:aq},C.dQ W V R Q l=J->zk N O l=U r->C.dQ W V R Q r=J
 |[],l,r,_,h=>by simp[zk] at h;subst h;rfl
 |t::O,l,r,X,h=>by
  simp only[zk] at h;split at h;rename_i M F;split at h;rename_i D L;cases h;have H:C.dQ W V R Q (l.drop (Y M.am))=true:=by rw[xI] at X⊢;exact λv P=>X v (En P)
  simp only[C.i8,aC];refine⟨?_,an5 H L⟩;split;simp only[C.bj];rw[xI] at X⊢;exact λv P=>X v (GH P)
  rw[di];cases G:l[0]? with|none=>simp[C.bj]|some v=>exact xD X G
  cases h;cases h
def ayB{X W V:Nat}{R:Nat->Bool}{l:aq}(h:C.dQ X W V R l=J):(one l).bd X W V R=true:=by
 unfold one;split;simp only[C.i8,VN] at h;exact h;simp only[C.bj];exact h
def ayC{s:S}(V:s.bd=J){W:aq}{X:aN}{R:i7}{r:aq}{d:cH}(h:zk cf.ty R ((s.cut W X).bW X).1=U r):((((s.cut W X).bW X).2).put d (one r)).bd=true:=by
 obtain⟨Q,P,L,H⟩:=uF X (s.cut W X);obtain⟨O,N,M⟩:=aeH X (s.cut W X);refine SB V O N ?_ P Q (ayB (an5 (an4 X _) h));have:=(CX W X s.rs).len;simp only[S.cut] at M⊢;omega
def SC{bM:Bool}{b:BI}(h:eY cf l bM J R=U b):R.bd=J/\b.s.bd=J/\b.s.au=R.au:=by
 have N:∀{aS:BE}{e:TypeId}{k:RK}{x:LE}{W dl:ar},kZ R l.dst aS e k x W dl=U b->R.bd=J/\b.s.bd=J/\b.s.au=R.au:=by
  intro aS e k x W dl h;obtain⟨Q,-,rfl⟩:=A5 h;refine⟨Q, ?_,m6 _ _ _⟩;exact SB (s':={R with rs:=kY dl 0 (jG W 0 R.rs)++[k]}) Q (cd _) (cd _) (by simp[CP,CO]) rfl rfl (by simp[C.bj,RE.bj,CP,CO])
 have X:=NG h;unfold eY at h;cases P:l.op<;>rw[P] at X h<;>simp[vH] at X
 grind
 rename_i c;cases V:c.callee with
 |builtin O=>
  cases O<;>simp[V] at X;simp only[V] at h;split at h
  grind
  cases h
 |_=>simp[V] at X
def aeI{Q:S}(V:gR b.o.op=J)(X:ja cf b R x Q):R.bd=true:=by
 unfold ja gJ at X;split at X;exact X.elim
 ·cases P:b.o.op<;>rw[P] at V X<;>simp[gR] at V<;>simp only at X
  all_goals
   (repeat' split at X)
   all_goals first
    |exact X.elim
    |(rename_i W;simp only[aC,S.eX] at W;first|exact W.1.1|exact W.1.1.2.1|exact W.1.1.1)
def ayD{X:TI}(W:b.o.op=.alloc v)(V:cf.ty v=U X)(Q:mT v=E)(P:R.bd=J)(N:gt R.au b.ix=J):ja cf b R x (R.more b.ix v (et X) b.o.dst (.loc b.ix 0)):=by
 have M:R.eX (et X)=true:=by simp only[S.eX,P,Mu];exact Xi X
 unfold ja gJ;rw[aJ (by rw[W];simp[io])];have L:rf R.au b.ix v=true:=by simp[rf,N,Q]
 simp only[W,V,M,L,Cm,dP];rfl
def ayE{X:S}{W:TI}(V:b.o.op=.alloc v)(Q:cf.ty v=U W)(h:ja cf b R x X):X=R.more b.ix v (et W) b.o.dst (.loc b.ix 0):=by
 unfold ja gJ at h;rw[aJ (by rw[V];simp[io])] at h;simp only[V,Q] at h;split at h;exact h;exact h.elim
structure ayF(B:dG)(x y:OM):Prop where
 xy:∀q,x.o.dst=U q->y.o.dst≠U q
 yx:∀q,y.o.dst=U q->x.o.dst≠U q
 ry:∀q,x.o.dst=U q->q∉ld B y.o
 rx:∀q,y.o.dst=U q->q∉ld B x.o
def an6{y:OM}(h:Wf B b y=J):ayF B b y:=by
 unfold Wf at h;simp only[aC] at h;obtain⟨W,V⟩:=h;have R:∀q,b.o.dst=U q->y.o.dst≠U q:=λq X=>by rw[X] at W;simp at W;exact W.2
 exact⟨R,λq X Q=>R q Q X,λq X=>by rw[X] at W;simp at W;exact W.1,λq X=>by rw[X] at V;simpa using V⟩
def aeJ{X:S}(W:∀t∈ld B l,R.tmps[t]?=X.tmps[t]?):∀z∈l.op.operands.toList,R.ev cf.gl z=X.ev cf.gl z:=by
 intro z V;cases z with
 |tmp t=>
  grind [S.ev,zf,ld]
 |_=>rfl
def an7{X:S}(W:∀t∈ld B b.o,R.tmps[t]?=X.tmps[t]?)(V:R.ni=X.ni)(Q:R.nb=X.nb)(P:R.rs=X.rs):gZ B b R x=gZ B b X x:=by
 unfold gZ;cases N:b.o.guard with
 |none=>rfl
 |some q=>
  obtain⟨j,M⟩:=q;simp only;cases L:(B[j]?).bind (·.dst) with
  |none=>rfl
  |some d=>
   grind [ld]
def an8{s:S}{o:Oper}{g:FuncId}{X:aq}(h:eu cf s o=.call (.fn g) X)(W:s.bd=J)(P:o.op.operands.toList.all zn=J):C.dQ s.ni s.nb (Y s.rs) (aL s.au) X=true:=by
 have V:∀x∈o.op.operands.toList,zn x=true:=gC.1 P;unfold eu at h;split at h
 grind
 rename_i c R;split at h;rename_i f O;split at h;rename_i Q bE N;split at h;cases h;have M:C.dQ s.ni s.nb (Y s.rs) (aL s.au) (c.args.toList.map (s.ev cf.gl))=true:=by
  rw[xI];intro v L;obtain⟨z,H,rfl⟩:=fo.1 L;exact C1 W (V z (by rw[R];simp[io,Cl];exact .inr (by simpa using H)))
 have G:C.dQ s.ni s.nb (Y s.rs) (aL s.au) bE=true:=by
  have:=C1 (cf:=cf) W (V f (by rw[R];simp[io,Cl,O]));rw[N] at this;simpa only[C.bj] using this
 unfold AR at h;cases bE with
 |nil=>cases h;exact M
 |cons v r=>
  cases F:kz Q 1000000;cases D:kz Q 2000000
  grind
  simp only[F,D,cond_false,cond_true,CK.call.injEq,Cv.fn.injEq] at h;obtain⟨-,rfl⟩:=h;have B:C.dQ s.ni s.nb (Y s.rs) (aL s.au) ([v]++r)=true:=G;rw[Sy] at B;show C.dQ s.ni s.nb (Y s.rs) (aL s.au) ([v]++(c.args.toList.map (s.ev cf.gl)++r))=J
  grind [Sy]
  grind [Sy]
 grind
 cases h;cases h
 grind
 cases h;cases h
def ayG{s:S}{O:aj}{g:FuncId}{Q:aq}{X H:aj->C->S->Prop}{n:Nat}{t:TypeId}{N:aq}{d:cH}{w:C}(M:gt s.au n=J)(G:C.dQ s.ni s.nb (Y s.rs) (aL s.au) Q=J)(z:(s.more n t N d w).bd=J)
  (h:NB p cf s O g Q X)(b:∀F (L:i7)(P:aN)(r:aq),zk cf.ty L ((s.cut Q P).bW P).1=U r->X F (one r) ((s.cut Q P).bW P).2->H F (one r) (((s.cut Q P).bW P).2.more n t N d w)):NB p cf (s.more n t N d w) O g Q H:=by
 obtain⟨L,P,r,y,x,v,D,q⟩:=h;obtain⟨o,m,B⟩:=Bc s n t N d w;obtain⟨l,a⟩:=an1 P (s.cut Q P) n t N d w;have k:n∉C.qm Q:=λj=>by have:=anY G j;rw[(pn M).1] at this;cases this
 have f:sZ (C.qm Q) 0 (s.more n t N d w).au=sZ (C.qm Q) 0 s.au:=by rw[E9];exact anZ k M
 simp only[aC,S.eX] at D;refine⟨L,P,r,y,x,by rw[Xj,l];exact v, ?_,λV W R=> ?_⟩;simp only[aC,S.eX];refine⟨⟨z, ?_⟩,D.2⟩;rw[o,m,B,E9];exact C.Hu (λi c=>(qD (pn M).2).2 (.inr c)) Q G;rw[f,B] at R;refine(q V W R).mono ?_;intro e W' A;cases e with
 |returned u=>
  grind [Xj]
 |panicked ch=>exact A|outgrown=>exact A
def ayH{s:S}{O:aj}{g:FuncId}{Q:aq}{X L:aj->C->S->Prop}{n:Nat}{t:TypeId}{N:aq}{d:cH}{w:C}(H:gt s.au n=J)(G:C.dQ s.ni s.nb (Y s.rs) (aL s.au) Q=J)(z:s.bd=J)
  (h:NB p cf (s.more n t N d w) O g Q X)(j:∀F (M:i7)(P:aN)(r:aq),zk cf.ty M ((s.cut Q P).bW P).1=U r->X F (one r) (((s.cut Q P).bW P).2.more n t N d w)->L F (one r) ((s.cut Q P).bW P).2):NB p cf s O g Q L:=by
 obtain⟨M,P,r,y,x,D,B,v⟩:=h;obtain⟨i,f,q⟩:=Bc s n t N d w;obtain⟨o,c⟩:=an1 P (s.cut Q P) n t N d w;have m:n∉C.qm Q:=λl=>by have:=anY G l;rw[(pn H).1] at this;cases this
 have k:sZ (C.qm Q) 0 (s.more n t N d w).au=sZ (C.qm Q) 0 s.au:=by rw[E9];exact anZ m H
 simp only[aC,S.eX] at B;rw[Xj,o] at D;refine⟨M,P,r,y,x,D, ?_,λV W R=> ?_⟩;simp only[aC,S.eX];exact⟨⟨z,G⟩,B.2⟩;refine(v V W (by rw[k,q];exact R)).mono ?_;intro e b A;cases e with
 |returned u=>
  grind [Xj]
 |panicked a=>exact A|outgrown=>exact A
def ayI(al:C0 B A){y:OM}{l:cQ}(b0:b.so=E)(a3:ML B b y=J)(b1:∀d,b.o.dst=U d->zB R d)(L:gt R.au y.ix=J)(hz:∀t,y.o.op=.alloc t->J6 cf t=J)
  (h:eE p cf B A F G H (b::y::l) x R):eE p cf B A F G H (y::b::l) x R:=by
 unfold ML at a3;simp only[aC] at a3;obtain⟨⟨⟨⟨⟨⟨⟨⟨a4,bg⟩,hy⟩,a9⟩,k⟩,b2⟩,bk⟩,b3⟩,bl⟩:=a3;have a9:y.o.guard=none:=by simpa using a9
 have D:=an6 b3;obtain⟨t,j⟩:∃t,y.o.op=.alloc t:=by cases j:y.o.op<;>rw[j] at hy<;>simp[J5] at hy;exact⟨_,rfl⟩
 have an:=hz t j;simp only[J6,aC,jT] at an;obtain⟨an,b4⟩:=an;obtain⟨P,ht⟩:=jC.1 an;have i:gR y.o.op=true:=by rw[j];rfl
 have br:∀(s':S)(w:aj),gZ B y s' w=U true:=λs' w=>by simp[gZ,a9]
 have a:∀{w:aj}{aa:S},eE p cf B A F G H (y::l) w aa->aa.bd=J/\eE p cf B A F G H l w (aa.more y.ix t (et P) y.o.dst (.loc y.ix 0)):=by
  intro w aa hr;simp only[eE,br,SA i,NH i bg,uH] at hr;rcases hr with⟨N,_⟩|⟨_,s3,W,M⟩;cases N;have:=ayE j ht W;subst this;exact⟨aeI i W,M⟩
 have done:R.bd=J->eE p cf B A F G H (b::l) x (R.more y.ix t (et P) y.o.dst (.loc y.ix 0))->eE p cf B A F G H (y::b::l) x R:=by
  intro V W;rw[eE];refine .inr ⟨br R x, ?_⟩;rw[SA i];simp only[NH i bg,uH];exact⟨_,ayD j ht b4 V L,W⟩
 have a0:R.bd=J->(R.more y.ix t (et P) y.o.dst (.loc y.ix 0)).bd=true:=λV=>anX V L (by simp only[S.eX,V,Mu];exact Xi P) (by simp[C.bj])
 obtain⟨p1,p2,p3⟩:=Bc R y.ix t (et P) y.o.dst (.loc y.ix 0);have ab:gZ B b (R.more y.ix t (et P) y.o.dst (.loc y.ix 0)) x=gZ B b R x:=an7 (λq hq=>NI (λe=>D.rx q e hq)) p1 p2 p3;have ac:∀z∈b.o.op.operands.toList,(R.more y.ix t (et P) y.o.dst (.loc y.ix 0)).ev cf.gl z=R.ev cf.gl z:=aeJ (λq hq=>NI (λe=>D.rx q e hq));rw[eE] at h;rcases h with⟨N,W⟩|⟨N,W⟩
 ·obtain⟨g1,g2⟩:=a W;refine done (ayy g1 b1) ?_;rw[eE];refine .inl ⟨by rw[ab];exact N, ?_⟩;rw[<-Fa D.xy];exact g2
 ·cases Q:eu cf R b.o with
  |call g0 ba=>
   rw[Q] at W;rcases g0 with g|n
   rotate_left
   have M:=W.1;rw[b0] at M;cases M;have u:rm _ _ _:=W;clear W;cases af:A g ba R with
   |some ve=>
    obtain⟨pv,ex⟩:=ve;rw[af] at u;obtain⟨V,u⟩:=u;have hR:=al.reg _ _ _ _ af;have bc:MK b.o.op=true:=by simpa[hR,aev Q] using bl
    have bf:=anM bc Q;subst bf;refine done V ?_;rw[eE];refine .inr ⟨by rw[ab];exact N, ?_⟩;rw[Hq ac,Q];show rm _ _ _;rw[show A g [] (R.more y.ix t (et P) y.o.dst (.loc y.ix 0))=U (pv,ex) from(al.z _ _ _ _ _ _ _ L).trans af];refine⟨a0 V, ?_⟩;have b5:=(pn L).2;have b6:(R.more y.ix t (et P) y.o.dst (.loc y.ix 0)).plus ex=(R.plus ex).more y.ix t (et P) y.o.dst (.loc y.ix 0):=by
     have:(R.cY y.ix t (et P)).plus ex=(R.plus ex).cY y.ix t (et P):=by
      simp only[S.cY,S.plus,List.set_append_left _ _ b5]
     unfold S.more;rw[<-this];cases y.o.dst<;>rfl
    rw[b6,<-Fa D.xy];exact(a u).2
   |none=>
   rw[af] at u;simp only[rm] at u;have W:=u;have V:R.bd=true:=by obtain⟨ts,ks,r,c1,c2,c3,c4,c5⟩:=W;simp only[aC,S.eX] at c4;exact c4.1.1
   refine done V ?_;rw[eE];refine .inr ⟨by rw[ab];exact N, ?_⟩;rw[Hq ac,Q];show rm _ _ _;have b7:A g ba (R.more y.ix t (et P) y.o.dst (.loc y.ix 0))=none:=by
    cases hh:A g ba (R.more y.ix t (et P) y.o.dst (.loc y.ix 0)) with
    |none=>rfl
    |some r=>
     exfalso;have hR:=al.reg _ _ _ _ hh;have bc:MK b.o.op=true:=by simpa[hR,aev Q] using bl
     have bf:=anM bc Q;subst bf;have:=(al.z g R y.ix t (et P) y.o.dst (.loc y.ix 0) L).symm.trans hh;rw[af] at this;cases this
   rw[b7];simp only[rm];refine ayG L (an8 Q V bk) (a0 V) W (λw ts ks r _ hr=> ?_);rw[<-Fa D.xy];exact(a hr).2
  |bp v=>
   exfalso;have hp:=aez Q;cases a1:b.o.op<;>rw[a1] at k hp<;>simp[MJ,gR,vH,AW] at hp k;rename_i c;cases bq:c.callee<;>simp[bq] at hp k;rename_i bb;cases bb<;>simp at hp k
  |no=>rw[Q] at W;exact W.elim
  |op=>
   rw[Q] at W;simp only at W;cases V:eY cf b.o b.bM b.dr R with
   |some X=>
    rw[V] at W;obtain⟨hn,W⟩:=W;rw[a4] at V;obtain⟨q1,q2,q3⟩:=SC V;refine done q1 ?_;rw[eE];refine .inr ⟨by rw[ab];exact N, ?_⟩;rw[Hq ac,Q];simp only;rw[a4,ayA L (a0 q1) D.yx ac V];refine⟨hn,λrv bs=> ?_⟩;rw[p3] at bs;exact(a (W rv bs)).2
   |none=>
    rw[V] at W;obtain⟨aa,M,h4⟩:=W;have ag:gR b.o.op=true:=by
     simp only[lq] at k;rcases k with(m|m)|m;exact m;exact(aeB m M).elim
     ·exfalso;cases a1:b.o.op<;>rw[a1] at m<;>simp[AW] at m;rename_i c;cases bq:c.callee<;>simp[bq] at m;rename_i f;simp only[eu,a1,bq] at Q
      (repeat' split at Q)<;>first|exact(alE Q).elim|cases Q
    have bt:b.ix≠y.ix:=by simpa[ag] using b2
    have bx:=aeI ag M;obtain⟨tx,cx,wx,rfl,g2,g3,g4⟩:=aeF ag bk M;refine done bx ?_;rw[eE];refine .inr ⟨by rw[ab];exact N, ?_⟩;rw[SA ag];simp only[NH ag a4,uH];refine⟨_,(g4 _ x ac (a0 bx) ?_).2, ?_⟩;unfold gt at g2⊢;rw[E9,AJ (λe=>bt e.symm)];exact g2;rw[aeG D.yx (λe=>bt e.symm)];exact(a h4).2
def an9{s:S}{n:Nat}{t:TypeId}{W:aq}{X:cH}{w:C}{d:cH}{aS:BE}{e:TypeId}{k:RK}{x:LE}{R dl:ar}{Q:BI}(O:s.bd=J)(N:∀q,X=U q->d≠U q)
  (h:kZ (s.more n t W X w) d aS e k x R dl=U Q):∃b,kZ s d aS e k x R dl=U b/\Q={b with s:=b.s.more n t W X w}:=by
 obtain⟨M,L,P⟩:=Bc s n t W X w;unfold kZ at h⊢;split at h;rename_i V;cases h;simp only[aC] at V;rw[M,L,P] at V;obtain⟨⟨⟨A,H⟩,G⟩,F⟩:=V;rw[aH (by simp only[aC];exact⟨⟨⟨O,H⟩,G⟩,F⟩)];refine⟨_,rfl, ?_⟩;congr 1;rw[P,Fa (λq D B=>N q B D)];cases X<;>rfl;cases h
def ayJ{s:S}{n:Nat}{t:TypeId}{W:aq}{V:cH}{w:C}{R:Ty}{e:TypeId}{Q:TI}{y:C}{r:LE×BE×ar}(P:gt s.au n=J)(X:y.bd s.ni s.nb (Y s.rs) (aL s.au)=J)(h:ta R (s.more n t W V w) e Q y=U r):ta R s e Q y=U r:=by
 have bZ:(s.more n t W V w).rs=s.rs:=(Bc _ _ _ _ _ _).2.2;unfold ta at h⊢;split at h;simp only[zA bZ] at h;exact h;rename_i i N M L;rw[E9] at h;have O:i≠n:=λe=>by subst e;simp only[C.bj] at X;rw[(pn P).1] at X;cases X
 rw[RQ (xG O)] at h
 grind [Ht]
 cases h
def ayK{o:Oper}{bM:Bool}{s:S}{n:Nat}{t:TypeId}{W:aq}{X:cH}{w:C}{O:BI}(F:gt s.au n=J)(Q:s.bd=J)(N:∀q,X=U q->o.dst≠U q)(D:o.op.operands.toList.all zn=J)
  (V:∀z∈o.op.operands.toList,(s.more n t W X w).ev cf.gl z=s.ev cf.gl z)(h:eY cf o bM J (s.more n t W X w)=U O):∃b,eY cf o bM J s=U b/\O={b with s:=b.s.more n t W X w}:=by
 have bZ:(s.more n t W X w).rs=s.rs:=(Bc _ _ _ _ _ _).2.2;have M:∀x∈o.op.operands.toList,zn x=true:=gC.1 D;have R:=NG h;unfold eY at h⊢;cases B:o.op<;>rw[B] at R h V M<;>simp[vH] at R;rename_i t' A y;simp only at h⊢;rw[V A cq,V y cq] at h;split at h;rename_i e am q v m2 u r L;split at h;rename_i m l;split at h;rename_i H;rw[Ht bZ] at H;rw[aH H];exact an9 Q N h;cases h;cases h;cases h;rename_i c;cases bq:c.callee with
 |builtin k=>
  cases k<;>simp[bq] at R;simp only[bq] at h⊢;have j:c.args.toList.map ((s.more n t W X w).ev cf.gl)=c.args.toList.map (s.ev cf.gl):=ky λz P=>V z (by simp[io,Cl];exact .inr (by simpa using P))
  rw[j] at h;split at h;rename_i t1 t2 x0 G r L;have i:G.bd s.ni s.nb (Y s.rs) (aL s.au)=true:=by
   have:G∈c.args.toList.map (s.ev cf.gl):=by rw[L];simp
   obtain⟨z,P,rfl⟩:=fo.1 this;exact C1 Q (M z (by simp[io,Cl];exact .inr (by simpa using P)))
  split at h;rename_i e am q e2 aa q2 u ab;split at h;rename_i m l;split at h;cases h;rename_i g;rw[aJ g];rw[an3] at h;split at h;rename_i la n1 ac lb v dl f d;rw[f,ayJ F i d];split at h;cases h;rename_i a;simp only[aJ a];exact an9 Q N h;cases h;cases h;cases h;cases h
 |_=>simp[bq] at R
def ayL(cv:C0 B A){y:OM}{a9:cQ}(cx:y.so=E)(bk:Ru B b y=J)
  (h:eE p cf B A F G H (b::y::a9) x R):eE p cf B A F G H (y::b::a9) x R:=by
 unfold Ru at bk;simp only[aC] at bk;obtain⟨⟨⟨⟨⟨⟨⟨⟨⟨⟨ca,ba⟩,al⟩,dk⟩,bl⟩,cA⟩,a4⟩,an⟩,cB⟩,cC⟩,cD⟩:=bk;have bl:b.o.guard=none:=by simpa using bl
 have D:=an6 cC;have cc:∀(L:S)(O':aj),gZ B b L O'=U true:=λL O'=>by simp[gZ,bl]
 rw[eE] at h;rcases h with⟨h1,_⟩|⟨_,h2⟩;rw[cc] at h1;cases h1;rw[SA al] at h2;simp only[NH al ca,uH] at h2;obtain⟨s1,h3,h4⟩:=h2;have N:=aeI al h3;obtain⟨t,a,w,rfl,k,hw,tr⟩:=aeF al cA h3;have dn:R.eX a=true:=(tr R x (λ_ _=>rfl) N k).1;obtain⟨p1,p2,p3⟩:=Bc R b.ix t a b.o.dst w;have br:gZ B y (R.more b.ix t a b.o.dst w) x=gZ B y R x:=an7 (λq W=>NI (λe=>D.ry q e W)) p1 p2 p3;have a0:∀z∈y.o.op.operands.toList,(R.more b.ix t a b.o.dst w).ev cf.gl z=R.ev cf.gl z:=aeJ (λq W=>NI (λe=>D.ry q e W));have a1:∀{O':aj}{L:S},(∀q,y.o.dst≠U q->L.tmps[q]?=R.tmps[q]?)->L.bd=J->gt L.au b.ix=J->eE p cf B A F G H a9 O' (L.more b.ix t a b.o.dst w)->eE p cf B A F G H (b::a9) O' L:=by
  intro O' L ht a3 cO hr;rw[eE];refine .inr ⟨cc _ _, ?_⟩;rw[SA al];simp only[NH al ca,uH];exact⟨_,(tr L O' (aeJ (λq W=>ht q (λe=>D.rx q e W))) a3 cO).2,hr⟩
 rw[eE] at h4;rcases h4 with⟨h5,V⟩|⟨h5,V⟩;rw[eE];refine .inl ⟨by rw[<-br];exact h5, ?_⟩;refine a1 (λq W=>nR W) (SB (s':=R) N (cd _) (cd _) (cd _) rfl rfl (by simp[C.bj,C.i8])) (by rw[m6];exact k) ?_;rw[Fa D.yx];exact V
 ·rw[eE];refine .inr ⟨by rw[<-br];exact h5, ?_⟩;rw[Hq a0] at V;cases hc:eu cf R y.o with
  |call g0 bs=>
   rw[hc] at V;rcases g0 with g|n
   rotate_left
   have h3:=V.1;rw[cx] at h3;cases h3;have ch:∀L,A g bs L=none:=λL=>by
    cases hh:A g bs L with
    |none=>rfl
    |some r=>
     exfalso;have hR:=cv.reg _ _ _ _ hh;simp[hR,aev hc] at cD
   have hP:rm _ _ _:=V;clear V;rw[ch] at hP;simp only[rm] at hP;have V:=hP;show rm _ _ _;rw[ch];simp only[rm];refine ayH k (an8 hc N a4) N V (λO' ts ks r hm hr=> ?_);obtain⟨b1,b2,b3,b4⟩:=uF ks (R.cut bs ks);refine a1 (λq W=>by rw[nR W,b2];rfl) (ayC N hm) (by rw[m6,b1];exact k) ?_;rw[Fa D.yx];exact hr
  |bp v=>
   exfalso;have hp:=aez hc;cases bc:y.o.op<;>rw[bc] at an hp<;>simp[MJ,gR,vH,AW,GX,AV] at hp an;rename_i c;cases bq:c.callee<;>simp[bq] at hp an;rename_i bb;cases bb<;>simp at hp an
  |no=>rw[hc] at V;exact V.elim
  |op=>
   rw[hc] at V;show uH _ _ _;have V:uH _ _ _:=V;cases bf:eY cf y.o y.bM y.dr (R.more b.ix t a b.o.dst w) with
   |some b1=>
    rw[bf] at V;obtain⟨hn,V⟩:=V;rw[ba] at bf⊢;obtain⟨X,g1,rfl⟩:=ayK k N D.xy a4 a0 bf;rw[g1];obtain⟨q1,q2,q3⟩:=SC g1;refine⟨hn,λrv cW=> ?_⟩;refine a1 (aeC g1) q2 (by rw[q3];exact k) (V rv (by rw[p3];exact cW))
   |none=>
    rw[bf] at V;obtain⟨c0,M,h8⟩:=V;by_cases aa:GX y.o.op=J
    
    have W:o8 y.o.op=true:=by cases Q:y.o.op<;>rw[Q] at aa<;>simp[GX] at aa<;>rfl
    have ds:CE y.o.op=false:=by cases Q:y.o.op<;>rw[Q] at aa<;>simp[GX] at aa<;>rfl
    rw[ba,anO W];simp only[uH];obtain⟨v,l,hv,rfl⟩:=(ND (ops:=B) W h5).1 M;have c1:lW cf B y.o (R.more b.ix t a b.o.dst w) x R x:=lW.Ba (λq W=>(NI (λe=>D.ry q e W)).symm) p3.symm p1.symm p2.symm;have P:=aew c1 (λi hi=>by
     unfold Ct at hi;cases Q:y.o.op<;>rw[Q] at aa hi<;>simp[GX] at aa<;>cases hi) hv
    have cl:gZ B y R x=U true:=by rw[<-br];exact h5
    refine⟨_,(ND (ops:=B) W cl).2 ⟨v,l,P,rfl⟩, ?_⟩;have c2:v.bd R.ni R.nb (Y R.rs) (aL R.au)=true:=by
     have ag:∀z∈y.o.op.operands.toList,zn z=true:=gC.1 a4;rcases P with P|⟨-,-,P⟩;rw[cl] at P;cases P.1;cases Q:y.o.op<;>rw[Q] at aa P ag<;>simp[GX] at aa;rename_i z;have:=P.1;simp only[cw,PR.Bb] at this;rw[this];exact C1 N (ag z cq);rename_i z;have:=P.1;simp only[cw,PR.Bb] at this;rw[this];exact C1 N (ag z cq);rename_i st z f;have ab:=C1 (cf:=cf) N (ag z cq);have:=P.1;simp only[cw] at this;split at this;rename_i hz;rw[hz] at ab;split at this;split at this;split at this;exact this.elim;rw[this];exact ab;exact this.elim;exact this.elim;rename_i hz;rw[hz] at ab;split at this;split at this;split at this;exact this.elim;rw[this];exact ab;exact this.elim;exact this.elim;exact this.elim
    have c3:l=0:=by
     rcases P with P|⟨-,-,P⟩;exact P.2.2;cases Q:y.o.op<;>rw[Q] at aa P<;>simp[GX] at aa<;>exact P.2
    subst c3;rw[NC] at h8⊢;refine a1 (λq W=>nR W) (SB (s':=R) N (cd _) (cd _) (cd _) rfl rfl c2) (by rw[m6];exact k) ?_;rw[Fa D.yx];exact h8;by_cases bx:AV y.o.op=J;obtain⟨t',z,u,Q⟩:∃t z u,y.o.op=.store t z u:=by cases Q:y.o.op<;>rw[Q] at bx<;>simp[AV] at bx;exact⟨_,_,_,rfl⟩
    have ag:∀z∈y.o.op.operands.toList,zn z=true:=gC.1 a4;have b0:eY cf y.o y.bM y.dr R=none:=by rw[ba];simp[eY,Q]
    rw[b0];simp only[uH];have hz:=a0 z (by rw[Q];simp[io]);have hu:=a0 u (by rw[Q];simp[io]);have ab:=C1 (cf:=cf) N (ag z (by rw[Q];simp[io]));have c4:=C1 (cf:=cf) N (ag u (by rw[Q];simp[io]));unfold ja gJ at M;split at M;exact M.elim;rename_i m;have c5:¬(y.o.op.operands.toList.any λz=>(R.ev cf.gl z).fg)=true:=by
     intro hh;obtain⟨zz,cn,c6⟩:=nF.1 hh;exact m (nF.2 ⟨zz,cn,by rw[a0 zz cn];exact c6⟩)
    simp only[Q,hz,hu] at M;split at M;rename_i ti i ac c7 hi;have b5:i≠b.ix:=λe=>by subst e;rw[hi] at ab;simp only[C.bj] at ab;rw[(pn k).1] at ab;cases ab
    rw[E9,RQ (xG b5)] at M;split at M;rename_i bt af co;obtain⟨b6,-⟩:=AZ co;split at M;rename_i bg;have c8:(R.more b.ix t a b.o.dst w).lk=R.lk:=Xh _ _ _;rw[c8] at bg;have dx:((R.ev cf.gl u).cells.length==Y ti.am)=true:=by simp only[aC] at bg;exact bg.1.1.1.1
    refine⟨(R.cY i bt (mj af ac (R.ev cf.gl u).cells)).put y.o.dst (.bI []), ?_, ?_⟩;unfold ja gJ;rw[aJ c5];simp only[Q,c7,hi,co];rw[aH bg];rfl;have c9:((R.cY i bt (mj af ac (R.ev cf.gl u).cells)).put y.o.dst (.bI [])).bd=true:=by
     have cp:i<Y R.au:=(du.1 (kC.1 b6)).1;have dc:∀j,aL (R.au.set i (U (bt,mj af ac (R.ev cf.gl u).cells))) j=aL R.au j:=λj=>by
      by_cases hj:j=i;subst hj;simp[aL,E2 cp,b6];simp[aL,xG hj]
     have dd:aL (R.au.set i (U (bt,mj af ac (R.ev cf.gl u).cells)))=aL R.au:=funext dc;have a3:=N;simp only[S.bd,aC] at a3;have b0:(R.cY i bt (mj af ac (R.ev cf.gl u).cells)).bd=true:=by
      simp only[S.bd,S.cY,dd,aC];refine⟨a3.1, ?_⟩;rw[E8];intro j X hj;by_cases ct:j=i;subst ct;rw[E2 cp] at hj;cases hj;exact aeE (E8.1 a3.2 j _ b6) (aeD c4);rw[xG ct] at hj;exact E8.1 a3.2 j X hj
     exact SB (s':=R.cY i bt (mj af ac (R.ev cf.gl u).cells)) b0 (cd _) (cd _) (cd _) rfl rfl (by simp[C.bj,C.i8])
    refine a1 (λq W=>by rw[nR W];rfl) c9 ?_ ?_;rw[m6];unfold gt at k⊢;simp only[S.cY];rw[AJ b5];exact k;have df:c0=((R.more b.ix t a b.o.dst w).cY i bt (mj af ac (R.ev cf.gl u).cells)).put y.o.dst (.bI []):=M;subst df;have:((R.cY i bt (mj af ac (R.ev cf.gl u).cells)).put y.o.dst (.bI [])).more b.ix t a b.o.dst w=((R.more b.ix t a b.o.dst w).cY i bt (mj af ac (R.ev cf.gl u).cells)).put y.o.dst (.bI []):=
     aeG (s:=R) (n:=i) (n':=b.ix) (d:=y.o.dst) (e:=b.o.dst) D.yx b5
    rw[this];exact h8;exact M.elim;exact M.elim;exact M.elim;have b7:gR y.o.op=true:=by
     simp only[lq] at an;rcases an with(((m|m)|m)|m)|m;exact m;exact(aeB m M).elim
     ·exfalso;cases bc:y.o.op<;>rw[bc] at m<;>simp[AW] at m;rename_i c;cases bq:c.callee<;>simp[bq] at m;rename_i f;simp only[eu,bc,bq] at hc
      (repeat' split at hc)<;>first|exact(alE hc).elim|cases hc
     exact bB m aa;exact bB m bx
    have b8:b.ix≠y.ix:=by simpa[b7] using cB
    rw[NH b7 ba];simp only[uH];obtain⟨dy,cy,wy,rfl,k2,k3,k4⟩:=aeF b7 a4 M;have cu:gt R.au y.ix=true:=by
     unfold gt at k2⊢;rw[E9,AJ b8] at k2;exact k2
    obtain⟨m1,m2⟩:=k4 R x (λz hz=>(a0 z hz).symm) N cu;refine⟨_,m2,a1 (λq W=>NI W) (anX N cu m1 (k3 _ _ _)) ?_ ?_⟩;unfold gt at k⊢;rw[E9,AJ (λe=>b8 e.symm)];exact k;rw[aeG D.yx (λe=>b8 e.symm)];exact h8
def ayM(V:C0 B A){y:OM}{Q:cQ}(W:vJ B b y=J)(P:∀d,b.o.dst=U d->zB R d)(M:gR y.o.op=J->gt R.au y.ix=J)(L:∀t,y.o.op=.alloc t->J6 cf t=J)
  (D:Y x.i=R.ni)(z:Y x.b=R.nb)(w:Y x.r=Y R.rs)
  (h:eE p cf B A F G H (b::y::Q) x R):eE p cf B A F G H (y::b::Q) x R:=by
 unfold vJ at W;simp at W;obtain⟨⟨v,N⟩,W⟩:=W;rcases W with(X|X)|X;exact ayw V N X P D z w h;have u:gR y.o.op=true:=by
  unfold ML at X;simp only[aC] at X;have:=X.1.1.1.1.1.1.2;cases q:y.o.op<;>rw[q] at this<;>simp[J5] at this;rfl
 exact ayI V v X P (M u) L h;exact ayL V N X h
def aoa{N:S}(h:(gJ cf b R).gives x N):∀n,gt R.au n=J->(gR b.o.op=J->n≠b.ix)->gt N.au n=true:=by
 intro q Q P;have V:∀{t:TypeId}{M:aq}{d:cH}{w:C}{i:Nat},q≠i->gt ((R.cY i t M).put d w).au q=true:=by
  grind [m6,S.cY,gt]
 unfold gJ at h;split at h;exact h.elim;split at h;rename_i t W;split at h;split at h;cases h;exact V (P (by rw[W];rfl));exact h.elim;exact h.elim;rename_i t X W;split at h;split at h;cases h;exact V (P (by rw[W];rfl));exact h.elim;exact h.elim;rename_i t l H W;split at h;split at h;split at h;split at h;cases h;exact V (P (by rw[W];rfl));exact h.elim;exact h.elim;exact h.elim;exact h.elim;split at h;split at h;rename_i G M L;split at h;cases h;refine V (λe=> ?_);subst e;have:=(pn Q).1;simp[aL,(AZ L).1] at this;exact h.elim;exact h.elim;exact h.elim
 grind [OR.gives,m6]
 obtain⟨v,-,rfl⟩:=CU h;rw[E7];exact Q;obtain⟨v,-,rfl⟩:=CU h;rw[E7];exact Q
def ayN{V:S}(h:(gJ cf b R).gives x V):∀i,aL R.au i=J->aL V.au i=true:=by
 intro q Q;have W:∀{t:TypeId}{P:aq}{d:cH}{w:C}{i:Nat},aL ((R.cY i t P).put d w).au q=true:=by
  grind [m6,bT,S.cY,aL]
 unfold gJ at h;split at h;exact h.elim;split at h;rename_i t N;split at h;split at h;cases h;exact W;exact h.elim;exact h.elim;rename_i t X N;split at h;split at h;cases h;exact W;exact h.elim;exact h.elim;rename_i t l M N;split at h;split at h;split at h;split at h;cases h;exact W;exact h.elim;exact h.elim;exact h.elim;exact h.elim;split at h;split at h;rename_i L P H;split at h;cases h;exact W;exact h.elim;exact h.elim;exact h.elim
 grind [OR.gives,m6]
 obtain⟨v,-,rfl⟩:=CU h;rw[E7];exact Q;obtain⟨v,-,rfl⟩:=CU h;rw[E7];exact Q
structure xJ(s s':S):Prop where
 i:s.ni<=s'.ni
 b:s.nb<=s'.nb
 r:Y s.rs<=Y s'.rs
 bx:∀i,aL s.au i=J->aL s'.au i=J
theorem xJ.put(s:S)(d:cH)(v:C):xJ s (s.put d v):=
 ⟨GK (gg _ _ _).1.symm,GK (gg _ _ _).2.1.symm,GK (j7 Y (gg s d v).2.2).symm,λi h=>by rw[m6];exact h⟩
def xJ.trans{b c:S}(h:xJ R b)(k:xJ b c):xJ R c:=⟨mg h.i k.i,mg h.b k.b,mg h.r k.r,λi X=>k.bx i (h.bx i X)⟩
def ayO{l1 j:cQ}(aa:b.dr=J)(af:b.so=E)(q:Y x.i=R.ni)(m:Y x.b=R.nb)(l:Y x.r=Y R.rs)(h:eE p cf B A F G H (b::l1) x R)
  (f:∀d N,Y d.i=N.ni->Y d.b=N.nb->Y d.r=Y N.rs->(∀t,b.o.dst≠U t->N.tmps[t]?=R.tmps[t]?)->(∀n,gt R.au n=J->(gR b.o.op=J->n≠b.ix)->gt N.au n=J)->xJ R N->eE p cf B A F G H l1 d N->eE p cf B A F G H j d N):eE p cf B A F G H (b::j) x R:=by
 simp only[eE] at h⊢;rcases h with⟨h1,P⟩|⟨h1,P⟩;exact .inl ⟨h1,f _ _ (by rw[(gg _ _ _).1];exact q) (by rw[(gg _ _ _).2.1];exact m) (by rw[(gg _ _ _).2.2];exact l) (λt c=>nR c) (λn z _=>by rw[m6];exact z) (xJ.put _ _ _) P⟩
 ·refine .inr ⟨h1, ?_⟩;cases hc:eu cf R b.o with
  |call g0 a=>
   rw[hc] at P;rcases g0 with g|n
   rotate_left
   grind
   have P:rm _ _ _:=P;show rm _ _ _;cases ab:A g a R with
   |some ve=>
    obtain⟨pv,ex⟩:=ve;rw[ab] at P;exact⟨P.1,f _ _ (by rw[(gg _ _ _).1];exact q) (by rw[(gg _ _ _).2.1];exact m) (by rw[(gg _ _ _).2.2];exact l) (λt c=>nR c) (λn z _=>by rw[m6];exact anL z) (xJ.trans (b:=R.plus ex) ⟨cd _,cd _,cd _,λi k=>by unfold aL;rw[anK k];exact k⟩ (xJ.put _ _ _)) P.2⟩
   |none=>
   rw[ab] at P;obtain⟨ts,L,r,c1,c2,c3,c4,c5⟩:=P;refine⟨ts,L,r,c1,c2,c3,c4,λV W X=>(c5 V W X).mono ?_⟩;intro e W' he;cases e with
   |returned u=>
    obtain⟨xs,D,y,w,q4,q5⟩:=he;obtain⟨b1,b2,b3,b4⟩:=uF L (R.cut a L);obtain⟨l1,j,l3⟩:=xH L xs (R.cut a L) x D q m (l.trans (CX a L R.rs).len.symm);refine⟨xs,D,y,w,q4,f _ _ (by rw[(gg _ _ _).1];exact l1) (by rw[(gg _ _ _).2.1];exact j) (by rw[(gg _ _ _).2.2];exact l3) (λt c=>by rw[nR c,b2];rfl) (λn z _=>by rw[m6,b1];exact z) (xJ.trans (b:=((R.cut a L).bW L).2) ⟨by rw[<-q,<-l1];exact(CN [] _ _ []).li,by rw[<-m,<-j];exact(CN [] _ _ []).lb,by rw[<-l,<-l3];exact(CN [] _ _ []).lr,λi k=>by rw[b1];exact k⟩ (xJ.put _ _ _)) q5⟩
   |panicked ch=>exact he|outgrown=>exact he
  |bp v=>rw[hc] at P;exact P|no=>rw[hc] at P;exact P
  |op=>
   rw[hc] at P;simp only at P⊢;cases M:eY cf b.o b.bM b.dr R with
   |some Q=>
    rw[M] at P;obtain⟨D,y,w⟩:=anI M;exact⟨P.1,λrv ac=>f _ _ (by rw[D];exact q) (by rw[y];exact m) (by simp[aj.add,w,l]) (aeC (by rw[aa] at M;exact M)) (λn z _=>by rw[(SC (by rw[aa] at M;exact M)).2.2];exact z) ⟨by rw[D];exact cd _,by rw[y];exact cd _,by rw[w];omega,λi k=>by rw[(SC (by rw[aa] at M;exact M)).2.2];exact k⟩ (P.2 rv ac)⟩
   |none=>
    rw[M] at P;obtain⟨N,h3,h4⟩:=P;obtain⟨D,y,w⟩:=anH (NA h3);exact⟨N,h3,f _ _ (by rw[D];exact q) (by rw[y];exact m) (by rw[w];exact l) (anU (NA h3)) (aoa (NA h3)) ⟨by rw[D];exact cd _,by rw[y];exact cd _,by rw[w];exact cd _,ayN (NA h3)⟩ h4⟩
def aob{y:OM}(h:vJ B b y=J):b.so=E/\y.so=false:=by
 unfold vJ at h
 grind
def ayP{y:OM}(h:vJ B b y=J):b.dr=true:=by
 unfold vJ at h;simp only[aC,lq] at h;replace h:=h.2;rcases h with(h|h)|h;exact(anQ h).elim λ_ c=>c.xd
 unfold ML at h
 grind
 unfold Ru at h
 grind
end
section
variable{p:Sp}{k:bv}{B:dG}{A:vL}{Kn:aj->S->Prop}{Kp:aj->C->S->Prop}{Yp:OM->cQ->aj->S->Nat->aq->Prop}
def aeK(s:S)(m:OM):Prop:=∀d,m.o.dst=U d->zB s d
def aoc{V:S}(W:xJ R V)(Q:V.tmps[X]?=R.tmps[X]?)(h:zB R X):zB V X:=by
 rcases h with h|⟨w,h,P⟩;exact .inl (Q.trans h);exact .inr ⟨w,Q.trans h,C.eA W.i W.b W.r W.bx _ P⟩
def aeL(s:S)(m:OM):Prop:=gR m.o.op=J->gt s.au m.ix=J
def aod(Q:C0 B A){m:OM}{V:cQ}:∀(X:cQ)(s:S)(O:aj),(∀x∈X,vJ B x m=J)->(∀x∈X,aeK s x)->aeL s m->(X.Pairwise λa b=>∀d,a.o.dst=U d->b.o.dst≠U d)->(∀x∈X,gR x.o.op=J->gR m.o.op=J->m.ix≠x.ix)->(∀t,m.o.op=.alloc t->J6 k t=J)->
  Y O.i=s.ni->Y O.b=s.nb->Y O.r=Y s.rs->eE p k B A Kn Kp Yp (X++m::V) O s->eE p k B A Kn Kp Yp (m::(X++V)) O s
 |[],s,O,_,_,_,_,_,_,_,_,_,h=>h
 |x::X,s,O,P,N,M,u,L,H,G,F,D,h=>by
  have R:=P x aw;have q:x.dr=true:=ayP R;have n:=(aob R).1;have z:=jS.1 u;have:eE p k B A Kn Kp Yp (x::m::(X++V)) O s:=ayO (l1:=X++m::V) q n G F D h (λl j g f c ht aa ab hr=>
   aod Q X j l (λy W=>P y (by simp[W])) (λy W e w=>aoc ab (ht e (λhx=>z.1 y W e hx w)) (N y (by simp[W]) e w))
    (λv=>aa m.ix (M v) (λac=>L x aw ac v)) z.2 (λy W=>L y (by simp[W])) H g f c hr)
  exact ayM Q R (N x aw) M H G F D this
def aeM{D:bU}{a:Act}(X:aA p.S0 p.w0 D k.ty t x R a e){Q:Bool}(h:gZ B b R x=U Q):lM b.o (yielded B a.tmps)=Q:=by
 unfold gZ at h;cases P:b.o.guard with
 |none=>rw[P] at h;cases h;simp[lM,P]
 |some q=>
  obtain⟨j,L⟩:=q;rw[P] at h;simp only at h;split at h;rename_i d N;have M:=am9 X N
  grind [lM,M.2]
  cases h
def NK(p:Sp)(k:bv)(A:vL):Prop:=∀(g:FuncId)(X:aq)(s:S)(v:C)(R:bm),A g X s=U (v,R)->
 ∀(D:bU)(O:aj)(V:ar)(a:Act)(W:World),s.bd=J->aA p.S0 p.w0 D k.ty V O s a W->eD k.gl O->(∀X W,(callFunc g X).run p.P W=.ok (.enter g X) W)/\
  Calls p.P g (C.az O V X).toArray W λe N=>∃Q,e=.returned (v.ai O Q)/\aA p.S0 p.w0 D k.ty Q O (s.plus R) a N/\bC s O V (s.plus R) O Q
structure SD(B:dG)(bs:ar)(listed:Array Bool)(rem:cQ):Prop where
 mem:∀m∈rem,B[m.j]?=U m.o
 un:∀i,i<B.size->(listed.getD i J=E<->∃m∈rem,m.j=i)
 sz:listed.size=B.size
 dn:∀(j:Nat)(o:Oper),B[j]?=U o->listed.getD j E=J->∀e∈ju o,listed.getD e E=J
 pr:rem.Pairwise λx y=>(bs.getD y.j 0).testBit x.j=J\/vJ B x y=J
 tp:∀xs m ys,rem=xs++m::ys->∀e∈ju m.o,listed.getD e E=J\/∃x∈xs,x.j=e
 nd:rem.Pairwise λx y=>x.j≠y.j
 ds:rem.Pairwise λa b=>∀d,a.o.dst=U d->b.o.dst≠U d
 so:∀xs m ys,rem=xs++m::ys->m.so=J->ys.Pairwise λx y=>(bs.getD y.j 0).testBit x.j=J
def SE{e:Edge}(h:e∈l.after)(X:awu .any e=J):e.on∈ju l:=fo.2 ⟨e,qj.2 ⟨by simpa using h,X⟩,rfl⟩
def Xk(h:X∈ju l):∃e∈l.after,awu .any e=J/\e.on=X:=by
 obtain⟨e,W,rfl⟩:=fo.1 h
 grind
structure NL(B:dG)(bs:ar):Prop where
 lt:∀(j:Nat)(o:Oper),B[j]?=U o->∀e∈ju o,e<j
 cl:∀(j:Nat)(o:Oper),B[j]?=U o->∀i,i<B.size->(bs.getD j 0).testBit i=J->i∈ju o\/∃e∈ju o,(bs.getD e 0).testBit i=J
def ayQ{listed:Array Bool}{P:cQ}(W:NL B t)(O:SD B t listed P):∀(j:Nat)(o:Oper),B[j]?=U o->(∀e∈ju o,listed.getD e E=J)->∀i,i<B.size->(t.getD j 0).testBit i=J->listed.getD i E=true:=by
 intro j;induction j using QZ with
 |_ j N=>
  intro o X M i V L;rcases W.cl j o X i V L with h|⟨e,R,h⟩
  grind
  have H:=W.lt j o X e R;have G:j<B.size:=(lL.1 X).1;have Q:B[e]?=U B[e]:=Mn ae;exact N e H B[e] Q (O.dn e _ Q (M e R)) i V h
def Fb(a:Array Bool)(i j:Nat)(b:Bool)(X:i<a.size):(a.setIfInBounds i J).getD j b=if j=i then J else a.getD j b:=by
 by_cases h:j=i;subst h;simp[X];simp[aIP (Ne.symm h),h]
def ayR{listed:Array Bool}{P O:cQ}(X:SD B t listed (P++b::O))(l:∀e∈ju b.o,listed.getD e E=J):SD B t (listed.setIfInBounds b.j J) (P++O):=by
 have q:=X.mem b aw;have k:b.j<B.size:=(lL.1 q).1;have D:b.j<listed.size:=by rw[X.sz];exact k
 have L:aww (P++O) (P++b::O):=ak2 (ak4 _) (akZ _ _);have g:∀x∈P++O,x.j≠b.j:=by
  intro x W;have y:=X.nd;rw[oD] at y;rcases fc.1 W with h|h;exact y.2.2 x h b aw;exact Ne.symm ((jS.1 y.2.1).1 x h)
 refine⟨λx W=>X.mem x (L.subset W),λi f=> ?_,by simp[X.sz],λj o w H e M=> ?_,X.pr.sublist L, ?_,X.nd.sublist L,X.ds.sublist L, ?_⟩;rw[Fb _ _ _ _ D];by_cases v:i=b.j;subst v;simp only[dP,aJi,false_iff];rintro⟨x,W,H⟩;exact g x W H;rw[aJ v,X.un i f];constructor;rintro⟨x,W,rfl⟩;refine⟨x, ?_,rfl⟩;simp only[fc,ey] at W⊢;rcases W with h|h|h;exact .inl h;subst h;exact bB rfl v;exact .inr h;rintro⟨x,W,rfl⟩;exact⟨x,L.subset W,rfl⟩;rw[Fb _ _ _ _ D];rw[Fb _ _ _ _ D] at H;split;rfl;by_cases n:j=b.j;subst n;rw[q] at w;cases w;exact l e M;rw[aJ n] at H;exact X.dn j o w H e M;intro u N G s e M;rw[Fb _ _ _ _ D];by_cases A:e=b.j;left;rw[aH A];rw[aJ A];rcases aIW.1 s with⟨R,Q,V⟩|⟨R,Q,V⟩
 
 have:=X.tp (P++b::R) N G (by rw[V];simp) e M;rcases this with h|⟨x,W,F⟩;exact .inl h;right;refine⟨x, ?_,F⟩;rw[Q];simp only[fc,ey] at W⊢;rcases W with h|h|h;exact .inl h;subst h;exact bB F.symm A;exact .inr h
 
 cases R with
 |nil=>
  simp at Q V;subst Q;have:=X.tp (P++[b]) N G (by rw[<-V];simp) e M;rcases this with h|⟨x,W,F⟩;exact .inl h;right;refine⟨x, ?_,F⟩;simp only[fc,VC] at W;rcases W with h|h;exact h;subst h;exact bB F.symm A
 |cons z R=>
  simp only[cG,Et] at V;obtain⟨rfl,V⟩:=V;have:=X.tp u N (R++b::O) (by rw[Q];simp) e M;exact this
 intro u N G s r;rcases aIW.1 s with⟨R,Q,V⟩|⟨R,Q,V⟩;exact X.so (P++b::R) N G (by rw[V];simp) r;cases R with
 |nil=>
  simp at Q V;subst Q;exact X.so (P++[b]) N G (by rw[<-V];simp) r
 |cons z R=>
  simp only[cG,Et] at V;obtain⟨rfl,V⟩:=V;have:=X.so u N (R++b::O) (by rw[Q];simp) r;rw[V];exact this.sublist (ak2 (ak4 _) (akZ _ _))
def ayS{F:Fence}(u:qE F)(ok:ji p k)(a3:NK p k A){D:bU}{Q:Exit->Act->World->Prop}(HP:∀ch a' w pd y,ef p.w0 D pd y a'.defers w->p.R (.panicked ch) w->Q (.panic ch) a' w)
   {af:cQ}{a:Act}(h:eE p k B A Kn Kp Yp (b::af) x R)(N:aA p.S0 p.w0 D k.ty t x R a e)(hg:eD k.gl x)(hm:B[b.j]?=U b.o)(a1:b.dr=J)
  {M:Act->World->Prop}(hK:∀s' O' V' a' w,bC R x t s' O' V'->(∀L,b.o.dst≠U L->s'.tmps[L]?=R.tmps[L]?)->(∀X,gt R.au X=J->(gR b.o.op=J->X≠b.ix)->gt s'.au X=J)->aA p.S0 p.w0 D k.ty V' O' s' a' w->eE p k B A Kn Kp Yp af O' s'->M a' w)
  (a4:∀v,Kp x v R->Q (.panic [{v:=v.ai x t,recovered:=E}]) a e)
  (hY:∀yn q,eu k R b.o=.call (.yl yn) q->b.so=J->Yp b af x R yn q->b.o.wpIn F X p.P a e M Q):wpOpIn F X p.P B Q b.j M a e:=by
 unfold wpOpIn;rw[hm];simp only;simp only[eE] at h;rcases h with⟨h1,z⟩|⟨h1,z⟩;rw[aeM N h1];exact⟨λf _=>u.fn f,hK _ x t _ e ((bC.refl _ _ _).put _ _) (λL ht=>nR ht) (λX i _=>by rw[m6];exact i) (N.put b.o.dst (.bI [])) z⟩
 ·rw[aeM N h1];simp;cases r:eu k R b.o with
  |call g0 q=>
   rw[r] at z;rcases g0 with g|yn
   rotate_left
   grind
   have z:rm _ _ _:=z;cases ag:A g q R with
   |some ve=>
    obtain⟨pv,ex⟩:=ve;rw[ag] at z;obtain⟨al,an⟩:=a3 g q R pv ex ag D x t a e z.1 N hg;refine⟨λf _=>u.fn f, ?_⟩;have aa:∀c,b.o.op≠ .defer c:=λc ab=>by simp[eu,ab] at r
    rw[AK _ _ _ aa,WW N hg r al,VE];refine⟨λhd=>by rw[u.zx] at hd;simp at hd,CallsIn.mono (u.calls an) (λH w he=> ?_)⟩;obtain⟨V',rfl,R',hl⟩:=he;exact hK _ x V' _ w (hl.put _ _) (λL ht=>nR ht) (λX i _=>by rw[m6];exact anL i) (R'.put b.o.dst pv) z.2
   |none=>
   rw[ag] at z;obtain⟨ts,ks,l,c1,c2,c3,c4,c5⟩:=z;simp only[S.eX,aC] at c4;obtain⟨⟨hb,-⟩,a9⟩:=c4;have al:=ok.zy g (.inl (by rw[c1];rfl));have an:=c5 t e (by rw[ok.pt];exact(N.mem.adn _).lR (adK _ _));refine⟨λf _=>u.fn f, ?_⟩;have aa:∀c,b.o.op≠ .defer c:=λc ab=>by simp[eu,ab] at r
   rw[AK _ _ _ aa,WW N hg r al,VE];refine⟨λhd=>by rw[u.zx] at hd;simp at hd,CallsIn.mono (u.calls an) (λH w he=> ?_)⟩;cases H with
   |returned v=>
    obtain⟨xs,q1,q2,q3,q4,q5⟩:=he;rw[ok.pt] at q4;obtain⟨e1,e2,e3,e4⟩:=uF ks (R.cut q ks);subst q2;have R1:aA p.S0 p.w0 D k.ty t x (R.cut q ks) a e:=N.lR (CX q ks R.rs);have R':=(R1.called (Nl hb (CX q ks R.rs).len) a9 q1 q3 (λG hb=>aek N hb) q4).put b.o.dst (one l);refine hK _ (x.ext xs) t _ w (bC.put (s:=R) ⟨CN _ _ _ _,by rw[e1];exact λ_ h=>h,by rw[e1];exact cd _,by rw[e3];exact cd _⟩ _ _) (λL ht=>by rw[nR ht,e2];rfl) (λX i _=>by rw[m6,e1];exact i) R' q5
   |panicked ch=>exact HP ch a w _ _ (N.dm.below he.1) he.2|outgrown=>exact he.elim
  |bp v=>
   rw[r] at z;refine⟨λf _=>u.fn f, ?_⟩;have aa:∀c,b.o.op≠ .defer c:=λc ab=>by simp[eu,ab] at r
   rw[AK _ _ _ aa,ana N hg r];exact a4 v z
  |no=>rw[r] at z;exact z.elim
  |op=>
   rw[r] at z;simp only at z;cases d:eY k b.o b.bM b.dr R with
   |some G=>
    rw[d] at z;obtain⟨i,z⟩:=z;obtain⟨v,w,rv,a0,ba,R',hl⟩:=adZ N ok.kM hg d i;exact A8 u a0 (aeh d) (hK G.s _ t _ w hl (aeC (by rw[a1] at d;exact d)) (λX i _=>by rw[(SC (by rw[a1] at d;exact d)).2.2];exact i) R' (z rv (by rw[ok.pt];exact ba)))
   |none=>
   rw[d] at z;obtain⟨s',h3,h4⟩:=z;have ac:=NA h3;obtain⟨v,w,V',a0,R',hl⟩:=Sc N ok.kM hg b ac;exact A8 u a0 (Sq ac) (hK s' x V' _ w hl (anU ac) (aoa ac) R' h4)
def ayT{W:Type}{V X:List W}{m x:W}(h:x∈(V++X).dropLast):x∈(V++m::X).dropLast:=by
 rw[aIQ aw];cases X with
 |nil=>
  rw[JC] at h;exact Eo _ ((aI5 _).subset h)
 |cons y X=>
  grind
def ayU(b0:C0 B A)(b1:NK p k A){Kn:dt->aj->S->Prop}{Kp:dt->aj->C->S->Prop}{Yp:dt->OM->cQ->aj->S->Nat->aq->Prop}{F:Fence}(hF:qE F)(ok:ji p k){D:bU}{Q:Exit->Act->World->Prop}(HP:∀ch g M pd y,ef p.w0 D pd y g.defers M->p.R (.panicked ch) M->Q (.panic ch) g M)(hC:NL B t)
  {s0:S}{O0:aj}{V0:ar}{L0:dt}
  (hk:∀G H z g M w,bC s0 O0 V0 G H z->cU s0.ax L0 w->aA p.S0 p.w0 D k.ty z H G g M->Kn w H G->Q .normal g M)
  (bf:∀v G H z g M w,bC s0 O0 V0 G H z->cU s0.ax L0 w->aA p.S0 p.w0 D k.ty z H G g M->Kp w H v G->Q (.panic [{v:=v.ai H z,recovered:=E}]) g M)
  (hy:∀(L:dt)(m:OM)(bg:cQ)(s:S)(O:aj)(V:ar)(a:Act)(W:World)(yn:Nat)(a1:aq)(R':Ending->World->Prop),bC s0 O0 V0 s O V->cU s0.ax L0 L->aA p.S0 p.w0 D k.ty V O s a W->eD k.gl O->Yp L m bg O s yn a1->
   (∀v G H z M w,bC s O V G H z->cU s.ax L w->aA p.S0 p.w0 D k.ty z H G a M->eE p k B A (Kn w) (Kp w) (Yp w) bg H (G.put m.o.dst v)->R' (.returned (v.ai H z)) M)->
   (∀v G H z M w,bC s O V G H z->cU s.ax L w->aA p.S0 p.w0 D k.ty z H G a M->Kp w H v G->R' (.panicked [{v:=v.ai H z,recovered:=E}]) M)->
   (∀ch M pd y,ef p.w0 D pd y a.defers M->p.R (.panicked ch) M->R' (.panicked ch) M)->
   ∀(m:Nat),YieldAt F m p.P (O.y.getD yn 0) (C.az O V a1).toArray W R'):
  ∀(ac:Nat)(listed:Array Bool)(aa:cQ)(s:S)(O:aj)(V:ar)(a:Act)(W:World)(L:dt),Y aa=ac->SD B t listed aa->(∀m∈aa,m.dr=J)->(∀m∈aa,∀N,m.o.op=.alloc N->J6 k N=J)->(aa.Pairwise λa b=>gR a.o.op=J->gR b.o.op=J->a.ix≠b.ix)->(((∀m∈aa,aeL s m)/\(∀m∈aa.dropLast,aeK s m))\/(aa.Pairwise λx y=>(t.getD y.j 0).testBit x.j=J))->bC s0 O0 V0 s O V->cU s0.ax L0 L->aA p.S0 p.w0 D k.ty V O s a W->eD k.gl O->eE p k B A (Kn L) (Kp L) (Yp L) aa O s->
   wpAnyIn F X p.P .any B Q ac listed a W:=by
 intro ac;induction ac with
 |zero=>
  intro listed aa s O V a W L a3 hW a9 hZ bk hA hl hL R hg h;have b2:aa=[]:=yS.1 a3;subst b2;refine⟨?_,hk s O V a W L hl hL R h⟩;cases hr:ul .any B listed with
  |nil=>rfl
  |cons i r=>
   obtain⟨h1,o,ho,-⟩:=mem_ready.1 (show i∈ul .any B listed by rw[hr];simp);have:=(hW.un i (lL.1 ho).1).1 h1;obtain⟨m,hm,-⟩:=this;cases hm
 |succ ac ih=>
  intro listed aa s O V a W L a3 hW a9 hZ bk hA hl hL R hg h;refine⟨λhr=> ?_,λi hi=> ?_⟩
  
  exfalso;cases aa with
  |nil=>simp at a3
  |cons m ys=>
   have af:=hW.mem m aw;have:m.j∈ul .any B listed:=by
    refine mem_ready.2 ⟨(hW.un m.j (lL.1 af).1).2 ⟨m,aw,rfl⟩,m.o,af,λe he hb=> ?_⟩;rcases hW.tp [] m ys rfl e.on (SE he hb) with h1|⟨x,u,-⟩;exact h1;cases u
   rw[hr] at this;cases this
  obtain⟨h1,o,ho,b3⟩:=mem_ready.1 hi;obtain⟨m,hm,rfl⟩:=(hW.un i (lL.1 ho).1).1 h1;obtain⟨q,ys,rfl⟩:=aJj hm;have af:=hW.mem m hm;rw[af] at ho;cases ho;have hd:∀e∈ju m.o,listed.getD e E=true:=λe he=>by
   obtain⟨ed,h2,h3,rfl⟩:=Xk he;exact b3 ed h2 h3
  have bl:∀x∈q,¬(t.getD m.j 0).testBit x.j=true:=by
   intro x u h2;have b4:=hW.mem x (by simp[u]);have ba:x.j<B.size:=(lL.1 b4).1;have h3:=ayQ hC hW m.j m.o af hd x.j ba h2;have h4:=(hW.un x.j ba).2 ⟨x,by simp[u],rfl⟩;have b5:x.j<listed.size:=by rw[hW.sz];exact ba
   simp[b5] at h3 h4;rw[h3] at h4;cases h4
  have br:∀x∈q,vJ B x m=true:=by
   intro x u;have b6:=(oD.1 hW.pr).2.2 x u m aw;rcases b6 with h2|h2;exact bB h2 (bl x u);exact h2
  have bb:=oD.1 hW.ds;have ag:=oD.1 bk;have hb:eE p k B A (Kn L) (Kp L) (Yp L) (m::(q++ys)) O s:=by
   rcases hA with⟨bc,hA⟩|hA;exact aod b0 q s O br (λx u=>hA x (by rw[aIQ aw];exact Eo _ u)) (bc m hm) bb.1 (λx u al a4 e=>ag.2.2 x u m aw al a4 e.symm) (hZ m hm) R.ei R.eb R.er h;cases q with|nil=>exact h|cons x q=>exact bB ((oD.1 hA).2.2 x aw m aw) (bl x aw)
  have bt:∀(G:S)(H:aj)(z:ar)(g:Act)(M:World)(w:dt),(((∀m∈q++ys,aeL G m)/\(∀m∈(q++ys).dropLast,aeK G m))\/((q++ys).Pairwise λx y=>(t.getD y.j 0).testBit x.j=J))->bC s0 O0 V0 G H z->cU s0.ax L0 w->aA p.S0 p.w0 D k.ty z H G g M->eD k.gl H->eE p k B A (Kn w) (Kp w) (Yp w) (q++ys) H G->wpAnyIn F X p.P .any B Q ac (listed.setIfInBounds m.j J) g M:=
   λG H z g M w b7 ab an R' b8 a0=>ih _ (q++ys) G H z g M w (by simp at a3⊢;omega) (ayR hW hd) (λx u=>a9 x (by rcases fc.1 u with l|l<;>simp[l])) (λx u=>hZ x (by rcases fc.1 u with l|l<;>simp[l]))
    (oD.2 ⟨ag.1,(jS.1 ag.2.1).2,λa ha b hb=>ag.2.2 a ha b (by simp[hb])⟩) b7 ab an R' b8 a0
  have ca:aww (q++ys) (q++m::ys):=ak2 (ak4 _) (akZ _ _);refine ayS hF ok b1 HP hb R hg af (a9 m hm) (λG H z g M ab cc cl R' a0=> ?_) (λv hv=>bf v s O V a W L hl hL R hv) (λyn a1 hc bx cn=> ?_);refine bt G H z g M L ?_ (hl.trans ab) hL R' (hg.ext ab.ext) a0;rcases hA with⟨bc,hA⟩|hA;left;refine⟨λx u al=>cl x.ix (bc x (by rcases fc.1 u with l|l<;>simp[l]) al) (λa4=>by
   rcases fc.1 u with l|l;exact ag.2.2 x l m aw al a4;exact λe=>(jS.1 ag.2.1).1 x l a4 al e.symm),λx u=> ?_⟩
  intro d bd;have co:m.o.dst≠U d:=by
   rcases fc.1 ((aI5 _).subset u) with l|l;exact bb.2.2 x l m aw d bd;intro he;exact(jS.1 bb.2.1).1 x l d he bd
  exact aoc ⟨by rw[<-R.ei,<-R'.ei];exact ab.ext.li,by rw[<-R.eb,<-R'.eb];exact ab.ext.lb,by rw[<-R.er,<-R'.er];exact ab.ext.lr,ab.mono⟩ (cc d co) (hA x (ayT u) d bd);exact .inr (hA.sublist ca);have cp:q=[]:=by
   cases q with
   |nil=>rfl
   |cons x q=>
    have:=(aob (br x aw)).2;rw[bx] at this;cases this
  subst cp;have cs:ys.Pairwise λx y=>(t.getD y.j 0).testBit x.j=true:=hW.so [] m ys rfl bx
  have hY:=hy L m ys s O V a W yn a1 (λe M=>match e with|.returned v=>wpAnyIn F X p.P .any B Q ac (listed.setIfInBounds m.j J) (a.put m.o.dst v) M|.panicked ch=>Q (.panic ch) a M|.outgrown=>LetsOut Q) hl hL R hg cn
   (λv G H z M w ab an R' a0=>bt (G.put m.o.dst v) H z _ M w (.inr cs) (hl.trans (ab.put _ _)) (hL.trans an hl.ax) (R'.put m.o.dst v) (hg.ext ab.ext) a0)
   (λv G H z M w ab an R' hs=>bf v G H z a M w (hl.trans ab) (hL.trans an hl.ax) R' hs)
   (λch M pd y hA hR=>HP ch a M pd y hA hR) (X-1)
  obtain⟨fn,cy,assign,body,ct,cu⟩:=hY;refine⟨λf _=>hF.fn f, ?_⟩;have cv:∀c,m.o.op≠ .defer c:=λc cx=>by simp[eu,cx] at hc
  rw[AK _ _ _ cv,aef R hg hc,ct];rw[awb];refine⟨λhd=>by rw[hF.zx] at hd;simp at hd,RoundIn.mono cu (λe M he=> ?_)⟩;cases e<;>exact he
end
def SF:cH->Fence
 |none=>Fence.wide|U l=>Fence.wide.inRound l
def zC:∀i,qE (SF i)
 |none=>ax6|U l=>am8 l
def ayV:∀i,(SF i).round=i
 |none=>rfl|U _=>rfl
theorem qE.room{F:Fence}(W:qE F)(n:Nat):F.room n:=λd X=>by rw[W.zx] at X;cases X
def jU(i:cH)(o:FuncId)(P:Program)(c:Code)(Q:Exit->Act->World->Prop)(a:Act)(w:World):Prop:=
 ∀(b:Frame)(k:List Item)(X:List Frame),b.roundOf=i->b.fn=o->
  ∃e W V,Q e W V/\ArrivesIn (Machine.fenced P Fence.wide) P (lone (b.atR a (.code c::k)) X w) b k X e W V
section
variable{i:cH}{o:FuncId}{P:Program}{Q:Exit->Act->World->Prop}{a:Act}{w:World}
def vV{c:Code}{n:Nat}(h:c.wpIn (SF i) n P Q a w):jU i o P c Q a w:=by
 intro b k X W _;obtain⟨e,R,O,N,V⟩:=h b k X (W.trans (ayV i).symm) ((zC i).fn _) ((zC i).room _);rw[(zC i).eq] at V
 grind
def ayW{c:Code}{X:Exit->Act->World->Prop}(h:jU i o P c Q a w)(W:∀e a w,Q e a w->X e a w):jU i o P c X a w:=
 λb k V R O=>let⟨e,N,M,q,r⟩:=h b k V R O;⟨e,N,M,W _ _ _ q,r⟩
def Kt{x y:Code}(h:jU i o P x (Exit.then (jU i o P y Q) Q) a w):jU i o P (Code.seq x y) Q a w:=by
 intro b k N M L;have X:(lone (b.atR a (.code (.seq x y)::k)) N w).fenced P Fence.wide:=fenced_wide _ _;obtain⟨e,R,O,W,V⟩:=h b (.code y::k) N M L;cases e with
 |normal=>
  obtain⟨H,G,F,D,B⟩:=W b k N M L;exact⟨H,G,F,D,.of_steps (.head X stepR_seq V) B⟩
 |exit id=>exact⟨_,R,O,W,.of_steps (.one X stepR_seq) (.pass (x:=.code y) rfl (λ_ _=>.inl aw) V)⟩|goto l=>exact⟨_,R,O,W,.of_steps (.one X stepR_seq) (.pass (x:=.code y) rfl (λ_ _=>.inl aw) V)⟩|ret=>exact⟨_,R,O,W,.of_steps (.one X stepR_seq) (.pass (x:=.code y) rfl (λ_ _=>.inl aw) V)⟩|panic A=>exact⟨_,R,O,W,.of_steps (.one X stepR_seq) (.pass (x:=.code y) rfl (λ_ _=>.inl aw) V)⟩|outgrown=>exact⟨_,R,O,W,.of_steps (.one X stepR_seq) (.pass (x:=.code y) rfl (λ_ _=>.inl aw) V)⟩
def ayX{c:Code}(h:jU i o P c (Exit.inBlock X Q) a w):jU i o P (Code.block X c) Q a w:=by
 intro b k z y x;have W:(lone (b.atR a (.code (.block X c)::k)) z w).fenced P Fence.wide:=fenced_wide _ _;obtain⟨e,O,N,V,R⟩:=h b (.inBlock X::k) z y x;cases e with
 |normal=>exact⟨.normal,O,N,V,.head W stepR_block (StepsIn.trans R (.one (fenced_wide _ _) stepR_inBlock))⟩
 |exit L=>
  by_cases hid:L=X;simp only[Exit.inBlock,hid,dP] at V;exact⟨.normal,O,N,V,.head W stepR_block (R.1 k (by simp[exitTo,hid]))⟩;simp only[Exit.inBlock,hid,jE] at V;have this:(X==L)=false:=by simp;exact λh=>hid h.symm
  have H:exitTo L (.inBlock X::k)=exitTo L k:=by simp[exitTo,this]
  exact⟨.exit L,O,N,V,λG M=>.head W stepR_block (R.1 G (by rw[H];exact M)),
   λF M=>let⟨D,B,A⟩:=R.2 F (by rw[H];exact M);⟨D,B,.head W stepR_block A⟩⟩
 |goto l=>
  have H:gotoIn l (.inBlock X::k)=gotoIn l k:=by simp[gotoIn]
  exact⟨_,O,N,V,λG M=>.head W stepR_block (R.1 G (by rw[H];exact M)),
   λF M=>let⟨D,B,A⟩:=R.2 F (by rw[H];exact M);⟨D,B,.head W stepR_block A⟩⟩
 |ret=>exact⟨_,O,N,V,.of_steps (.one W stepR_block) R⟩|panic v=>exact⟨_,O,N,V,.of_steps (.one W stepR_block) R⟩|outgrown=>exact⟨_,O,N,V,.of_steps (.one W stepR_block) R⟩
def ayY{c:Code}(h:jU i o P c (λe a w=>(∀l,e≠ .goto l)/\Q e a w) a w):jU i o P (Code.scope c) Q a w:=by
 intro b k X G F;have W:(lone (b.atR a (.code (.scope c)::k)) X w).fenced P Fence.wide:=fenced_wide _ _;have V:step P (lone (b.atR a (.code (.scope c)::k)) X w)=.next (lone (b.atR a (.code c::.inScope c::k)) X w):=step_lone_go (by simp[stepG,stepG.exec,Frame.atR])
 have D:∀a w,step P (lone (b.atR a (.inScope c::k)) X w)=.next (lone (b.atR a k) X w):=λa w=>step_lone_go (by simp[stepG,stepG.exec,Frame.atR])
 obtain⟨e,O,N,⟨B,M⟩,R⟩:=h b (.inScope c::k) X G F;cases e with
 |normal=>exact⟨.normal,O,N,M,.head W V (StepsIn.trans R (.one (fenced_wide _ _) (D _ _)))⟩
 |exit id=>
  have H:exitTo id (.inScope c::k)=exitTo id k:=by simp[exitTo]
  exact⟨.exit id,O,N,M,λA L=>.head W V (R.1 A (by rw[H];exact L)),λz L=>let⟨y,x,v⟩:=R.2 z (by rw[H];exact L);⟨y,x,.head W V v⟩⟩
 |goto l=>exact bB rfl (B l)|ret=>exact⟨_,O,N,M,.of_steps (.one W V) R⟩|panic u=>exact⟨_,O,N,M,.of_steps (.one W V) R⟩|outgrown=>exact⟨_,O,N,M,.of_steps (.one W V) R⟩
def NM{c:Operand}{x y:Code}{t:Bool}(X:a.eval c=.bool t)(h:jU i o P (if t then x else y) Q a w):jU i o P (Code.cond c x y) Q a w:=by
 intro b k W V R;obtain⟨e,O,N,M,L⟩:=h b k W V R;exact⟨e,O,N,M,.of_steps (.one (fenced_wide _ _) (stepR_cond X)) L⟩
def SH(i:cH)(o:FuncId)(P:Program)(c:Code)(Q:Exit->Act->World->Prop):Nat->Act->World->Prop
 |0,_,_=>False|m+1,a,w=>jU i o P c (Exit.then (SH i o P c Q m) Q) a w
def aoe{c:Code}(m:Nat)(h:SH i o P c Q m a w):jU i o P (Code.loop c) Q a w:=by
 intro b k O H G;have F:∀m a w,SH i o P c Q m a w->
   ∃e M L,Q e M L/\ArrivesIn (Machine.fenced P Fence.wide) P (lone (b.atR a (.code c::.inLoop c::k)) O w) b k O e M L:=by
  intro m;induction m with
  |zero=>intro a w h;exact h.elim
  |succ m D=>
   intro a w h;obtain⟨e,X,W,V,R⟩:=h b (.inLoop c::k) O H G;have N:∀{e:Exit},e≠ .normal->ArrivesIn (Machine.fenced P Fence.wide) P (lone (b.atR a (.code c::.inLoop c::k)) O w) b (.inLoop c::k) O e X W->ArrivesIn (Machine.fenced P Fence.wide) P (lone (b.atR a (.code c::.inLoop c::k)) O w) b k O e X W:=
    λB A=>.pass (x:=.inLoop c) rfl (λ_ _=>.inl B) A
   cases e with
   |normal=>
    obtain⟨z,y,v,u,t⟩:=D X W V;exact⟨z,y,v,u,.of_steps (StepsIn.trans R (.one (fenced_wide _ _) stepR_inLoop)) t⟩
   |exit id=>exact⟨_,X,W,V,N aw R⟩|goto l=>exact⟨_,X,W,V,N aw R⟩|ret=>exact⟨_,X,W,V,N aw R⟩|panic s=>exact⟨_,X,W,V,N aw R⟩|outgrown=>exact⟨_,X,W,V,N aw R⟩
 obtain⟨e,M,L,V,R⟩:=F m a w h;exact⟨e,M,L,V,.of_steps (.one (fenced_wide _ _) stepR_loop) R⟩
def ayZ{c:Code}(X:Nat->Act->World->Prop)(M:Nat)(F:X M a w)
  (round:∀n a w,X n a w->jU i o P c (Exit.then (λR O=>∃V,V<n/\X V R O) Q) a w):jU i o P (Code.loop c) Q a w:=by
 refine aoe (M+1) ?_;have D:∀N n a w,n<N->X n a w->SH i o P c Q N a w:=by
  intro N;induction N with
  |zero=>intro n a w h;omega
  |succ N L=>
   intro n a w B H;refine ayW (round n a w H) ?_;intro e R O W;cases e with
   |normal=>
    obtain⟨V,A,G⟩:=W;exact L V R O ae G
   |exit id=>exact W|goto l=>exact W|ret=>exact W|panic z=>exact W|outgrown=>exact W
 grind
def aeN(i:cH)(o:FuncId)(P:Program)(l:Nat)(Q:Exit->Act->World->Prop)(X:Act):Ending->World->Prop
 |.returned _,W=>∃R V,(Instr.endLoop l).run P W=.ok R V/\
   (match R with|none=>Q .normal X V|U c=>jU i o P c Q X V)
 |.panicked chain,W=>Q (.panic chain) X W|.outgrown,_=>False
def ay0{g:Operand}{W:Array Tmp}{assign body:Code}
  (h:∃(l:Nat)(mark:CJ)(V:World)(d:Deferred)(R:World)(f:FuncId)(O:mR)(N:World),
   (Instr.enterLoop o a.tmps W assign body i).run P w=.ok (l,mark) V/\
   (resolve a.eval (rangeCall g l) 0).run P V=.ok d R/\
   (invoke d.target d.args).run P R=.ok (.enter f O) N/\
   Calls P f O N (aeN i o P l Q {a with defers:=mark++a.defers})):
  jU i o P (Code.rangeFunc g W assign body) Q a w:=by
 intro b k X H G;obtain⟨l,mark,V,d,R,f,O,N,F,s,r,M⟩:=h;obtain⟨hF,M⟩:=(callsIn_wide (n:=0)).2 M;rw[<-H,<-G] at F;have D:(lone (b.atR a (.code (.rangeFunc g W assign body)::k)) X w).fenced P Fence.wide:=fenced_wide _ _;have B:=stepR_rangeFunc (P:=P) (b:=b) (a:=a) (k:=k) (cs:=X) (w:=w) F s r;obtain⟨e,q,fr,L,A,ac,z⟩:=M (b.atR {a with defers:=mark++a.defers} (.inRangeFunc l::k)::X) (room_wide _);cases e with
 |outgrown=>exact L.elim
 |returned v=>
  obtain⟨y,x,p,u⟩:=L;have t:StepsIn (Machine.fenced P Fence.wide) P (lone (b.atR a (.code (.rangeFunc g W assign body)::k)) X w) (lone (b.atR {a with defers:=mark++a.defers} ((y.map Item.code).toList++k)) X x):=by
   refine .head D B (StepsIn.trans A (.head (fenced_wide _ _) ?_ (.one (fenced_wide _ _) (stepR_endRangeFunc p))));rw[<-finish_atR_inRangeFunc l v];exact step_leave_returned z
  cases y with
  |none=>exact⟨.normal,_,x,u,t⟩
  |some c=>
   obtain⟨m,j,aa,hq,ab⟩:=u b k X H G;exact⟨m,j,aa,hq,.of_steps t ab⟩
 |panicked chain=>
  refine⟨.panic chain,_,q,L,.inRangeFunc l::k,.head D B (StepsIn.trans A (.one (fenced_wide _ _) ?_))⟩;rw[<-Frame.raise_atR];exact step_leave_panicked z
end
def Ku{P:Program}{f:FuncId}{N:Func}{c:Code}{W:mR}{R:Ending->World->Prop}
  (z:P.funcs[f]?=U N)(s:N.body=U c)
  (h:jU Z f P c (bodyPostM Fence.wide 0 P N R) {tmps:=W++Q0 (N.ntmps-W.size) undef,defers:=[]} e):Calls P f W e R:=by
 refine(callsIn_wide (n:=0)).1 ⟨trivial,λy v=> ?_⟩;let b:Frame:={(default:Frame) with fn:=f,kind:=.normal,roundOf:=Z};have r:Frame.enter P f W .normal=
   b.atR {tmps:=W++Q0 (N.ntmps-W.size) undef,defers:=[]} [.code c]:=by
  simp[Frame.enter,Frame.atR,z,s,b]
 obtain⟨X,V,x,O,M⟩:=h b [] y rfl rfl;rw[<-r] at M;cases X with
 |normal=>
  obtain⟨L,H,G,F,D,B,A⟩:=leaves_stepsInM V.defers .returning x {b.atR V [] with mode:=.returning} y rfl rfl rfl z rfl trivial v O;exact⟨L,H,G,F,ComesIn.of_steps (StepsIn.trans M (.one (fenced_wide _ _) (stepR_end rfl))) D,B,A⟩
 |ret=>
  obtain⟨u,t⟩:=M.1 rfl;obtain⟨L,H,G,F,D,B,A⟩:=leaves_stepsInM V.defers .returning x {b.atR V u with mode:=.returning} y rfl rfl rfl z rfl trivial v O;exact⟨L,H,G,F,ComesIn.of_steps t D,B,A⟩
 |panic chain=>
  obtain⟨u,t⟩:=M;obtain⟨L,H,G,F,D,B,A⟩:=leaves_stepsInM V.defers (.panicking chain) x {b.atR V u with mode:=.panicking chain} y rfl rfl rfl z rfl trivial v O;exact⟨L,H,G,F,ComesIn.of_steps t D,B,A⟩
 |exit id=>exact O.elim|goto l=>exact O.elim|outgrown=>exact⟨.outgrown,x,b,O,M.resolve_left aw,rfl,trivial⟩
def ay1(P:Program)(l:Nat)(R:Ending->World->Prop):Exit->Act->World->Prop
 |.normal,_,w=>∃v X,(Instr.endRound l Z).run P w=.ok v X/\R (.returned v) X|.ret,_,w=>∃v X,(Instr.endRound l (U .ret)).run P w=.ok v X/\R (.returned v) X|.exit id,_,w=>∃v X,(Instr.endRound l (U (.exit id))).run P w=.ok v X/\R (.returned v) X|.panic W,a,w=>a.defers=[]/\R (.panicked W) w|_,_,_=>False
def ay2{F:Fence}(o:qE F){P:Program}{l:Nat}{f:FuncId}{k:Func}{s:mR}{assign body:Code}{R:Ending->World->Prop}(j:P.funcs[f]?=U k)
  (h:jU (U l) f P assign (λW H G=>(W=.normal/\∃r,(Instr.beginRound l).run P G=.ok () r/\jU (U l) f P body (ay1 P l R) H r)\/∃z,W=.panic z/\H.defers=[]/\R (.panicked z) G)
   {tmps:=s,defers:=[]} e):
  RoundIn F X P l f s assign body e R:=by
 refine⟨o.fn f,λc N hr=> ?_⟩;let b:Frame:={(default:Frame) with fn:=f,kind:=.normal,roundOf:=U l};have i:Frame.round l f s assign body .normal=b.atR {tmps:=s,defers:=[]} [.code assign,.beginRound,.code body]:=by
  simp[Frame.round,Frame.atR,b]
 have ag:(Fence.wide.inRound l).room ((c::N).length+1+X):=(am8 l).room _;obtain⟨W,H,G,g,D⟩:=h b [.beginRound,.code body] (c::N) rfl rfl;rw[<-i] at D;rw[o.eq];have NN:∀(m:Machine)(B:Act)(M:World)(chain:List PanicEntry)(L:List Item),B.defers=[]->StepsIn (Machine.fenced P Fence.wide) P m (lone {b.atR B L with mode:=.panicking chain} (c::N) M)->StepsIn (Machine.fenced P Fence.wide) P m (lone (c.raise chain) N M):=by
  intro m B M chain L y V;have d:({b.atR B L with mode:=.panicking chain}:Frame).leaving P M (.panicked chain):=⟨rfl,y,k,j⟩;exact StepsIn.trans V (.one (fenced_wide _ _) (step_leave_panicked d))
 rcases g with⟨rfl,r,aa,ab⟩|⟨z,rfl,y,O⟩;have q:StepsIn (Machine.fenced P Fence.wide) P (lone (b.atR H [.beginRound,.code body]) (c::N) G) (lone (b.atR H [.code body]) (c::N) r):=
  .one (fenced_wide _ _) (stepR_beginRound rfl aa)
 obtain⟨ac,B,M,A,p⟩:=ab b [] (c::N) rfl rfl;cases ac with
 |normal=>
  obtain⟨v,x,u,O⟩:=A;exact⟨.returned v,x,O,(StepsIn.trans D q).trans (StepsIn.trans p (.one (fenced_wide _ _) (stepR_round_end rfl rfl u)))⟩
 |ret=>
  obtain⟨v,x,u,O⟩:=A;obtain⟨af,V⟩:=p.2 rfl;exact⟨.returned v,x,O,(StepsIn.trans D q).trans (StepsIn.trans V (.one (fenced_wide _ _) (stepR_round_ret rfl rfl u)))⟩
 |exit id=>
  obtain⟨v,x,u,O⟩:=A;obtain⟨af,hk,V⟩:=p.2 rfl rfl;exact⟨.returned v,x,O,(StepsIn.trans D q).trans (StepsIn.trans V (.one (fenced_wide _ _) (stepR_round_exit rfl rfl hk u)))⟩
 |goto t=>exact A.elim
 |panic chain=>
  obtain⟨y,O⟩:=A;obtain⟨L,V⟩:=p;exact⟨.panicked chain,M,O,NN _ B M chain L y ((StepsIn.trans D q).trans V)⟩
 |outgrown=>exact A.elim
 obtain⟨L,V⟩:=D;exact⟨.panicked z,G,O,NN _ H G z L y V⟩
mutual
def K.fj(O:aj)(y:ar):∀(e:K),e.ai (O.at y)=e.ai O
 |.c n=>by simp[K.ai]|.v k=>by simp[K.ai,aj.at]|.bin o k a b=>by simp only[K.ai];rw[K.fj O y a,K.fj O y b]|.conv k a=>by simp only[K.ai];rw[K.fj O y a]|.len r=>by simp only[K.ai];rw[RE.nS O y r]|.mm m a b=>by simp only[K.ai];rw[K.fj O y a,K.fj O y b]|.dw b x z=>by simp only[K.ai];rw[BE.fj O y b,K.fj O y x,K.fj O y z]|.cell r i j=>by simp only[K.ai];rw[RE.nS O y r,K.fj O y i]|.oZ r i=>by simp only[K.ai];rw[RE.nS O y r,K.fj O y i]|.look r n a b c j=>by simp only[K.ai];rw[RE.nS O y r,K.fj O y a,K.fj O y b,K.fj O y c]
def BE.fj(O:aj)(y:ar):∀(e:BE),e.ai (O.at y)=e.ai O
 |.c b=>by simp[BE.ai]|.v k=>by simp[BE.ai,aj.at]|.cmp o a b=>by simp only[BE.ai];rw[K.fj O y a,K.fj O y b]|.not a=>by simp only[BE.ai];rw[BE.fj O y a]|.and a b=>by simp only[BE.ai];rw[BE.fj O y a,BE.fj O y b]|.beq a b=>by simp only[BE.ai];rw[BE.fj O y a,BE.fj O y b]|.dw b x z=>by simp only[BE.ai];rw[BE.fj O y b,BE.fj O y x,BE.fj O y z]|.cell r i j=>by simp only[BE.ai];rw[RE.nS O y r,K.fj O y i]|.seq a b=>by simp only[BE.ai];rw[RE.nS O y a,RE.nS O y b]|.look r n a b c j=>by simp only[BE.ai];rw[RE.nS O y r,K.fj O y a,K.fj O y b,K.fj O y c]|.has r n a b c=>by simp only[BE.ai];rw[RE.nS O y r,K.fj O y a,K.fj O y b,K.fj O y c]
def RE.nS(O:aj)(y:ar):∀(e:RE),e.rv (O.at y)=e.rv O
 |.v k=>by simp[RE.rv,aj.rv,aj.at]|.cell r i j k=>by simp only[RE.rv];rw[RE.nS O y r,K.fj O y i]|.k v=>by simp[RE.rv]
end
def C.Xl(O:aj)(y:ar)(v:C):v.xv (O.at y)=v.xv O:=by
 cases v<;>simp[C.xv,K.fj,BE.fj,RE.nS]
def C.ay3(O:aj)(y:ar)(v:C):v.cj (O.at y)=v.cj O:=by
 cases v<;>simp[C.cj,K.fj,BE.fj,RE.nS]
def C.Xm(O:aj)(y:ar):C.cj (O.at y)=C.cj O:=funext (C.ay3 O y)
def LE.Kv(O:aj)(y:ar):∀(e:LE),e.ah (O.at y)=e.ah O
 |.ak r=>by simp only[LE.ah,RE.nS]|.lit l=>by simp only[LE.ah,C.Xm]|.iC a b=>by simp only[LE.ah];rw[LE.Kv O y a,LE.Kv O y b]|.xo n R=>by simp only[LE.ah,C.Xm,K.fj]|.set a i Q X=>by simp only[LE.ah,C.Xm,K.fj];rw[LE.Kv O y a]|.sub a P N=>by simp only[LE.ah,K.fj];rw[LE.Kv O y a]|.ins a n X=>by simp only[LE.ah,C.Xm];rw[LE.Kv O y a]
def Hv:∀(X:aZ)(O:aj)(y:ar),(O.at y).ext X=(O.ext X).at y
 |[],O,y=>rfl
 |x::X,O,y=>by
  simp only[aj.ext];rw[<-Hv X (O.add x) y];cases x<;>rfl
def ay4{G:Ty}{X:LE}{R:bo}{y:ar}{Q:RV}(h:Kc G t e v X R (x.at y) Q):Kc G t e v X R x Q:=by
 obtain⟨P,N,M⟩:=h;rw[LE.Kv] at P;exact⟨P,N,M⟩
def tB(p:Sp):∀(t:T)(O:aj)(L:dt)(y:ar),t.aP p O L->t.aP p (O.at y) L
 |.out e s,O,L,y,h=>h|.ret v c F,O,L,y,h=>h|.bp v,O,L,y,h=>h
 |.aK b t f,O,L,y,h=>by
  simp only[T.aP,BE.fj] at h⊢;exact⟨λQ=>tB p t O L y (h.1 Q),λQ=>tB p f O L y (h.2 Q)⟩
 |.aS b t,O,L,y,h=>by
  simp only[T.aP,BE.fj] at h⊢;exact⟨h.1,tB p t O L y h.2⟩
 |.call f ab c F ks fA t,O,L,y,h=>by
  simp only[T.aP] at h⊢;cases u:zm fA with
  |some Vq=>
   simp only[u] at h⊢;intro A V W R;refine(h A V W R).mono ?_;intro e W' M;cases e with
   |returned v=>
    obtain⟨H,N,P,G,z,w,h6⟩:=M;exact⟨H,N,P,G,by rw[Hv];exact z,w,by rw[Hv];exact tB p t _ L y h6⟩
   |panicked ch=>exact M|outgrown=>exact M
  |none=>
  simp only[u] at h⊢;intro A V W R;refine(h A V W R).mono ?_;intro e W' M;cases e with
  |returned v=>
   obtain⟨H,N,P,G,z,w⟩:=M;refine⟨H,N, ?_,G,z, ?_⟩;rw[Hv];exact P;rw[Hv];exact tB p t _ L y w
  |panicked ch=>exact M|outgrown=>exact M
 |.loop ax ks x0 t,O,L,y,h=>by
  simp only[T.aP] at h⊢;obtain⟨X,μ,N,P⟩:=h;refine⟨X,μ, ?_,λH hf hI=> ?_⟩;have:C.xv (O.at y)=C.xv O:=funext (C.Xl O y)
  grind
  rw[Hv];exact tB p t _ _ y (P H hf hI)
 |.back ax x,O,L,y,h=>by
  have:C.xv (O.at y)=C.xv O:=funext (C.Xl O y)
  grind [T.aP]
 |.new e x F ac t,O,L,y,h=>by
  simp only[T.aP] at h⊢;intro q aa;exact tB p t (O.add (.r q)) L y (h q (ay4 aa))
 |.ah k x F t,O,L,y,h=>by
  simp only[T.aP] at h⊢;have:gu x (O.at y)=gu x O:=by simp only[gu,LE.Kv]
  rw[this];exact tB p t (O.add (.r (gu x O))) L y h
 |.gr g h' t f,O,L,y,h=>by
  simp only[T.aP,BE.fj] at h⊢;exact⟨λQ=>tB p t O L y (h.1 Q),λQ=>tB p f O L y (h.2 Q)⟩
 |.pick n g h' t f,O,L,y,h=>by
  simp only[T.aP,K.fj,BE.fj] at h⊢;refine⟨λj N P G=>tB p t (O.add (.i j)) L y (h.1 j N P ?_),λQ=>tB p f O L y (h.2 Q)⟩;have:=BE.fj (O.add (.i j)) y g;rw[<-this];exact G
 |.eG f g e sp st r F t,O,L,y,h=>by
  simp only[T.aP,RE.nS] at h⊢;obtain⟨m,N,P⟩:=h;refine⟨m, ?_,tB p t (O.add (.r (.mk (r.rv O).val m))) L y P⟩;rw[<-N];cases sp with
  |dE k o B=>
   have l:K.ai (O.at y)=K.ai O:=funext λe=>K.fj O y e
   cases st with
   |false=>simp only[ly,l]
   |true=>
    cases B with
    |nil=>rfl
    |cons i B=>
     cases B with|nil=>simp only[ly,l]|cons j B=>rfl
  |lex cs d=>rfl|ratio n d=>rfl
 |.stuck _,_,_,_,h=>h
mutual
def C.NO{O:aj}{y:ar}{n:Nat}(X:∀m,m<n->y.getD m 0=O.y.getD m 0)(V:ar):∀(v:C),v.zp n=E->v.ai (O.at y) V=v.ai O V
 |.int _ e,_=>by simp only[C.ai,K.fj]|.bool e,_=>by simp only[C.ai,BE.fj]|.ak e,_=>by simp only[C.ai,RE.ai,RE.nS]|.loc i _,_=>rfl|.el r _ i _,_=>by simp only[C.ai,RE.ai,RE.nS,K.fj]|.iP _ _ _ _,_=>rfl|.agg l,h=>by simp only[C.ai];rw[C.NP X V l h]|.bI l,h=>by simp only[C.ai];rw[C.NP X V l h]|.fn _ l,h=>by simp only[C.ai];rw[C.NP X V l h]|.gI _ x,h=>by simp only[C.ai];rw[C.NO X V x h]
 |.yl m,h=>by
  grind [C.zp,Nat.not_le,C.ai,aj.at]
 |.any,_=>rfl|.mp _,_=>rfl|.gq e Q R,h=>by simp only[C.ai,K.fj];rw[C.NP X V R h]
def C.NP{O:aj}{y:ar}{n:Nat}(X:∀m,m<n->y.getD m 0=O.y.getD m 0)(V:ar):∀(l:aq),C.qy n l=E->C.az (O.at y) V l=C.az O V l
 |[],_=>rfl
 |x::R,h=>by
  simp only[C.qy,yT] at h;simp only[C.az];rw[C.NO X V x h.1,C.NP X V R h.2]
end
theorem C.ay5(R:∀m,m<X->t.getD m 0=x.y.getD m 0)(V:ar)(v:C)(h:v.zp X=E):v.gf (x.at t) V=v.gf x V:=by
 have Q:=C.NO R V v h;cases v<;>simp only[C.gf]<;>try rw[Q]
 exact RE.nS x t _
def C.aof{O:aj}{y:ar}{n:Nat}(X:∀m,m<n->y.getD m 0=O.y.getD m 0)(V:ar):∀(l:aq),C.qy n l=E->C.bL (O.at y) V l=C.bL O V l
 |[],_=>rfl
 |x::R,h=>by
  simp only[C.qy,yT] at h;have:=C.aof X V R h.2
  grind [C.bL,C.ay5]
def aeO{n:Nat}:∀{l:aq},C.qy n l=E->∀v∈l,v.zp n=E
 |[],_,v,h=>by cases h
 |x::R,h,v,X=>by
  simp only[C.qy,yT] at h;rcases ey.1 X with rfl|X;exact h.1;exact aeO h.2 v X
def aeP{n:Nat}:∀{bx:bm},zq n bx=E->∀(i:Nat)(t:TypeId)(X:aq),bP bx i=U (t,X)->C.qy n X=E
 |[],_,i,t,X,h=>by simp[bT] at h|Z::Q,R,0,t,X,h=>by simp[bT] at h
 |U x::Q,R,0,t,X,h=>by
  grind [zq,yT,bT]
 |Z::Q,R,i+1,t,X,h=>aeP (bx:=Q) R i t X (by simpa[bT] using h)
 |U x::Q,R,i+1,t,X,h=>by
  simp only[zq,yT] at R;exact aeP (bx:=Q) R.2 i t X (by simpa[bT] using h)
section
variable{H:ar}{F:World}{D:bU}{G:Ty}{V:ar}{O:aj}{s:S}{a:Act}{W:World}
def SI(n:Nat):∀(k:Nat)(R:bm),(oH n k R).length=Y R
 |0,[]=>rfl|_+1,[]=>rfl|k+1,x::X=>by simp[oH,SI n k X]|0,Z::X=>by simp[oH,SI n 0 X]|0,U x::X=>by simp[oH,SI n 0 X]
def SJ(n:Nat):∀(k:Nat)(R:bm)(i:Nat)(x:TypeId×aq),bP (oH n k R) i=U x->bP R i=U x
 |0,[],_,_,h=>h|_+1,[],_,_,h=>h|k+1,x::X,0,_,h=>by simpa[oH,bT] using h
 |k+1,x::X,i+1,z,h=>by
  have:=SJ n k X i z (by simpa[oH,bT] using h);simpa[bT] using this
 |0,Z::X,0,_,h=>by simp[oH,bT] at h
 |0,Z::X,i+1,z,h=>by
  have:=SJ n 0 X i z (by simpa[oH,bT] using h);simpa[bT] using this
 |0,U x::X,0,z,h=>by
  grind [oH,bT]
 |0,U x::X,i+1,z,h=>by
  have:=SJ n 0 X i z (by simpa[oH,bT] using h);simpa[bT] using this
def ay6:∀{X:bm}{i:Nat},aL X i=J->i<Y X
 |[],i,h=>by simp[aL,bT] at h|x::R,0,_=>aw
 |x::R,i+1,h=>by
  grind [aL,bT,n9]
def aog{R:bm}:aL R X=J<->∃x,bP R X=U x:=by
 cases h:bP R X<;>simp[aL,h]
def SK{k:Nat}{R:bm}{i:Nat}(h:aL (oH X k R) i=J):aL R i=true:=by
 obtain⟨x,Q⟩:=aog.1 h;exact aog.2 ⟨x,SJ X k R i x Q⟩
def aoh(n:Nat):∀(k:Nat)(X:bm)(i:Nat),i<k->aL X i=J->aL (oH n k X) i=J
 |0,_,_,h,_=>ae|_+1,[],_,_,h=>h|k+1,x::R,0,_,h=>by simpa[oH,aL,bT] using h
 |k+1,x::R,i+1,Q,h=>by
  have:=aoh n k R i ae (by simpa[aL,bT] using h);simpa[oH,aL,bT] using this
def jJ.ay7{X:bm}{Q:bo}(R:jJ H F V O X G Q W)(n k:Nat):jJ H F V O (oH n k X) G Q W:=
 ⟨R.base,λi h=>R.own i (SK h),λi j h L=>R.inj i j (SK h) (SK L),λi t B h=>R.box i t B (SJ n k X i _ h),λq e P N M=>⟨(R.ak q e P N M).1,λb A i z=>(R.ak q e P N M).2 b A i (SK z)⟩⟩
theorem jJ.at{P:bm}{M:bo}(R:jJ H F V O P G M W)(L:∀m,m<X->t.getD m 0=O.y.getD m 0)(B:zq X P=E):jJ H F V (O.at t) P G M W:=
 ⟨R.base,R.own,R.inj,λi Q N h=>by rw[C.aof L V N (aeP B i Q N h)];exact R.box i Q N h,R.ak⟩
def ay8{w:World}(h:fq t e w)(P:e.heap.size<=X)(o:Obj):fq t e (w.putObj X o):=
 ⟨h.os,h.tape,h.output,by have:=h.size;simpa[Mv] using this,λk R Q=>(uj ae).trans (h.block k R Q)⟩
theorem bG.cells{k:RK}{Q:RV}(h:bG W G k Q)(R:dW G k Q X):∃M t L,W.heap[X]?=U (.cells M t L):=by
 induction h generalizing X with
 |sl e A H F P q p o n m l N=>
  cases R with
  |here e a H F P=>
   have g:P[0]?=U P[0]:=dv ae
   grind
  |deep e v P i j B c z k X x w u r=>exact N i j B c z k x w u r
 |str s=>cases R|bz v h=>cases R
 |own e Q h f N=>
  cases R with|own e Q X R=>exact N R
 |aT Q h=>cases R|mr d P=>cases R
def jJ.obj{M:bm}{L:bo}(R:jJ H F V O M G L W){o:Obj}(B:W.heap[X]?=U o)(A:Nd o=J)(w:F.heap.size<=X)(z:Obj):jJ H F V O M G L (W.putObj X z):=by
 have v:∀P Q t N,W.heap[P]?=U (.cells Q t N)->P≠X:=λP Q t N h e=>by subst e;rw[B] at h;cases h;exact amf A _ _ _ rfl
 refine⟨ay8 R.base w z,R.own,R.inj,λi t Q h=> ?_,λk e u r q=> ?_⟩;have:=R.box i t Q h;rw[uj (λe=>by subst e;rw[B] at this;cases this;exact amg A _ _ rfl)];exact this;obtain⟨x,p⟩:=R.ak k e u r q;refine⟨x.Kf (λP n=> ?_) aw,p⟩;obtain⟨Q,t,N,m⟩:=x.cells n;exact uj (v _ _ _ _ m)
def AY.obj{R:bm}{Q:bo}{P:RV}{N:Nat}(h:AY H F V O R G Q W X v P N){b:Nat}{o:Obj}(L:W.heap[b]?=U o)(B:Nd o=J)(A:Obj):AY H F V O R G Q (W.putObj b A) X v P N:=by
 refine h.world (uj ?_);obtain⟨z,x,db,-,M,-⟩:=h.mem;intro v;subst v;rw[L] at M;cases M;exact amf B _ _ _ rfl
def aA.obj(R:aA H F D G V O s a W){b:Nat}{o:Obj}(Q:W.heap[b]?=U o)(P:Nd o=J)(M:F.heap.size<=b)(X:Obj){D':bU}{pd:vz}{a':Act}(N:a'.tmps=a.tmps)
  (L:ef F D' pd O.y a'.defers (W.putObj b X)):aA H F D' G V O {s with pd:=pd} a' (W.putObj b X):=
 ⟨R.mem.obj Q P M X,R.gE,R.ei,R.eb,R.er,L,by rw[N];exact R.size,λt B h=>by rw[N];exact R.tmps t B h,λk e A z x w v=>(R.eP k e A z x w v).obj Q P X⟩
def rp:ar->World->World
 |[],W=>W|d::ms,W=>rp ms (W.putObj d (.deferred Z))
def aA.rp:∀{ms:ar}{a:Act}{W:World},aA H F D G V O s a W->a.defers=ms.map mY++D.base->aA H F D G V O s {a with defers:=D.base} (rp ms W)
 |[],a,W,R,h=>by
  have:({a with defers:=D.base}:Act)=a:=by cases a;simp at h;subst h;rfl
  rw[this];exact R
 |d::ms,a,W,R,h=>by
  obtain⟨A,Q,w,M,L⟩:=R.dm.mz;have v:A=d::ms:=by
   rw[h] at Q;have Q:=aIX Q;have g:∀(l X:ar),l.map mY=X.map mY->l=X:=by
    intro l;induction l with
    |nil=>intro X h;cases X<;>simp at h;rfl
    |cons x f c=>
     intro X h;cases X with
     |nil=>simp at h
     |cons z b=>
      grind [Et,mY,Deferred.mk.injEq,Target.collected.injEq]
   grind
  subst v;have P:=L d aw;have u:ef F D s.pd O.y (ms.map mY++D.base) (W.putObj d (.deferred Z)):=by
   refine⟨R.dm.len,R.dm.rY,λn l r t q p=> ?_,R.dm.inj,ms,rfl,λo=>(by have:=w o;cases this),(Eu.1 M).2,λm B=> ?_⟩;obtain⟨k,N,j⟩:=R.dm.dK n l r t q p;exact⟨k,(uj (λe=>by subst e;rw[P.1] at N;cases N)).trans N,j⟩;have:=L m (by simp only[cG,ey];exact .inr B);refine⟨(uj (λe=>by subst e;exact(Eu.1 M).1 B)).trans this.1,this.2⟩
  have i:=R.obj P.1 rfl P.2 (.deferred Z) (D':=D) (pd:=s.pd) (a':={a with defers:=ms.map mY++D.base}) rfl u;exact aA.rp (a:={a with defers:=ms.map mY++D.base}) (W:=W.putObj d (.deferred Z)) i rfl
def ef.rp:∀{ms:ar}{pd:vz}{y:ar}{W:World},ef F D pd y (ms.map mY++D.base) W->ef F D pd y D.base (rp ms W)
 |[],pd,y,W,h=>h
 |d::ms,pd,y,W,h=>by
  obtain⟨L,Q,H,P,N⟩:=h.mz;have G:L=d::ms:=by
   have Q:=aIX Q;have o:∀(l X:ar),l.map mY=X.map mY->l=X:=by
    intro l;induction l with
    |nil=>intro X h;cases X<;>simp at h;rfl
    |cons x m k=>
     intro X h;cases X with
     |nil=>simp at h
     |cons z j=>
      grind [Et,mY,Deferred.mk.injEq,Target.collected.injEq]
   grind
  subst G;have B:=N d aw;refine ef.rp (ms:=ms) (W:=W.putObj d (.deferred Z)) ⟨h.len,h.rY,λn l r A w v=> ?_,h.inj,ms,rfl,λu=>(by have:=H u;cases this),(Eu.1 P).2,λt M=> ?_⟩;obtain⟨q,R,p⟩:=h.dK n l r A w v;exact⟨q,(uj (λe=>by subst e;rw[B.1] at R;cases R)).trans R,p⟩;have:=N t (by simp only[cG,ey];exact .inr M);exact⟨(uj (λe=>by subst e;exact(Eu.1 P).1 M)).trans this.1,this.2⟩
end
def SL{P:World->Prop}{B:Nat}(h:∀W b o,B<=b->P W->P (W.putObj b o)):∀{X:ar}{W:World},(∀d∈X,B<=d)->P W->P (rp X W)
 |[],W,_,R=>R|d::X,W,Q,R=>SL (W:=W.putObj d (.deferred Z)) h (λx N=>Q x (by simp[N])) (h W d _ (Q d aw) R)
def sd{P:Program}{Q:Func}{N:mR}{R:Ending->World->Prop}{u:FrameMode}{M:CJ}(L:u≠ .run):∀{X:ar}{W:World},X.Nodup->(∀d∈X,W.heap[d]?=U (.deferred (U [])))->
  LeavesInM Fence.wide 0 P Q N R M u (rp X W)->LeavesInM Fence.wide 0 P Q N R (X.map mY++M) u W
 |[],W,_,_,h=>h
 |d::X,W,F,H,h=>by
  obtain⟨B,A⟩:=Eu.1 F;refine⟨L,.inl ⟨d,_,rfl,run_takeDeferred (H d aw),sd L A (λz G=> ?_) h⟩⟩;exact(uj (λe=>by subst e;exact B G)).trans (H z (by simp[G]))
section
variable{H:ar}{F:World}{D N:bU}{G:Ty}{V:ar}{O:aj}{s:S}{a:Act}{W:World}{pd:vz}{y:ar}{M:CJ}
def ef.enter(h:ef F D pd y M W)(X:(t++D.out).Nodup)(R:∀d∈t++D.out,W.heap[d]?=U (.deferred (U []))/\F.heap.size<=d)(Q:Bool):ef F ⟨t++D.out,D.dK,Q,[]⟩ pd y [] W:=
 ⟨h.len,h.rY,h.dK,h.inj,[],rfl,λ_=>rfl,X,R⟩
def ef.NN{R:Bool}(h:ef F ⟨t++D.out,D.dK,R,[]⟩ pd y [] W)(Q:D.rd=J->t=[]):ef F D pd y (t.map mY++D.base) W:=by
 obtain⟨X,P,L,N,M⟩:=h.mz;have:X=[]:=by cases X<;>simp at P;rfl
 subst this;exact⟨h.len,h.rY,h.dK,h.inj,t,rfl,Q,N,M⟩
def ef.push{l:Nat}{r:Loop}(h:ef F D pd y M W)(G:(t++D.out).Nodup)(v:∀X∈t++D.out,W.heap[X]?=U (.deferred (U []))/\F.heap.size<=X)
  (u:W.heap[X]?=U (.deferred (U [])))(B:X∉t++D.out)(q:F.heap.size<=X)(p:W.heap[l]?=U (.loop (th r .ready)))(o:∀(n:Nat)(R:Nat)(L:Loop),D.dK[n]?=U (R,L)->R≠l)(m:F.heap.size<=l):
  ef F ⟨X::(t++D.out),D.dK++[(l,r)],E,[]⟩ (pd++[.ready]) (y++[l]) [] W:=by
 refine⟨by simp[h.len],by simp[h.rY],λn R L A Q P=> ?_,λn H R z x Q P=> ?_,[],rfl,λ_=>rfl,by simpa using⟨by simpa using B,G⟩,λk j=> ?_⟩;by_cases N:n<Y D.dK;rw[fO N] at Q;rw[fO (by rw[<-h.len];exact N)] at P;obtain⟨i,g,f⟩:=h.dK n R L A Q P
 grind
 grind [h.len,h.rY]
 by_cases N:n<Y D.dK;rw[fO N] at Q;by_cases w:H<Y D.dK;rw[fO w] at P;exact h.inj n H R z x Q P
 grind
 grind
 grind
def ef.pop{l:Nat}{r:Loop}(h:ef F ⟨X::(t++D.out),D.dK++[(l,r)],E,[]⟩ pd y [] W)(H:D.rd=E):ef F D (pd.take (Y D.dK)) (y.take (Y D.dK)) ((X::t).map mY++D.base) W:=by
 obtain⟨M,G,o,B,A⟩:=h.mz;have:M=[]:=by cases M<;>simp at G;rfl
 subst this;have z:=h.len;have m:=h.rY;simp at z;refine⟨bS,bS,λn N x w R Q=> ?_,λn v N u q R Q=> ?_,X::t,rfl,λL=>(by rw[H] at L;cases L),B,A⟩;have P:=(du.1 R).1;rw[pJ,aH P] at Q⊢;exact h.dK n N x w (by rw[fO P];exact R) Q;have P:=(du.1 R).1;have p:=(du.1 Q).1;exact h.inj n v N u q (by rw[fO P];exact R) (by rw[fO p];exact Q)
theorem ef.put{r:Loop}(h:ef F D pd y M W)(H:W.heap[X]?=U (.loop r))(G:∀(n R:Nat)(Q:Loop),D.dK[n]?=U (R,Q)->R≠X)(o:Obj):ef F D pd y M (W.putObj X o):=by
 obtain⟨B,A,z,x,P⟩:=h.mz;refine⟨h.len,h.rY,λn R Q w L v=> ?_,h.inj,B,A,z,x,λd N=>⟨?_,(P d N).2⟩⟩;obtain⟨u,t,q⟩:=h.dK n R Q w L v;exact⟨u,(uj (G n R Q L)).trans t,q⟩;exact(uj (λe=>by subst e;have:=(P d N).1;rw[H] at this;cases this)).trans (P d N).1
def ef.aeQ{l:Nat}{r:Loop}(h:ef F D pd y M W)(R:D.dK[X]?=U (l,r))(z:JH):ef F D (pd.set X z) y M (W.putObj l (.loop (th r z))):=by
 obtain⟨u,t,q,p,L⟩:=h.mz;have x:X<Y pd:=by rw[<-h.len];exact(du.1 R).1
 have P:∃H,W.heap[l]?=U (.loop H):=⟨_,(h.dK X l r pd[X] R (dv x)).2.1⟩;obtain⟨j,P⟩:=P;refine⟨by simp[h.len],by simp[h.rY],λw o H m N Q=> ?_,h.inj,u,t,q,p,λd G=>⟨?_,(L d G).2⟩⟩;rw[yU] at Q;split at Q;rename_i e;subst e;rw[R] at N;cases N;simp at Q;subst Q;obtain⟨B,v,A⟩:=h.dK X l r pd[X] R (dv x);exact⟨B,avW (EZ P),A⟩;rename_i e;obtain⟨B,v,A⟩:=h.dK w o H m N Q;exact⟨B,(uj (λk=>by subst k;exact e (h.inj X w _ _ _ R N))).trans v,A⟩;exact(uj (λe=>by subst e;have:=(L d G).1;rw[P] at this;cases this)).trans (L d G).1
def aoi{O:aj}{V:ar}:∀(R:ar)(Q l:aq)(A:mR),A.size=Y l->(∀(t:Nat)(X:C),l[t]?=U X->X=.any\/A[t]?=U (X.ai O V))->
  ((R.zip (C.az O V Q)).foldl (λ(N:mR)(x:Nat×Value)=>N.setIfInBounds x.1 x.2) A).size=(J8 R Q l).length/\
  ∀(t:Nat)(X:C),(J8 R Q l)[t]?=U X->X=.any\/((R.zip (C.az O V Q)).foldl (λ(N:mR)(x:Nat×Value)=>N.setIfInBounds x.1 x.2) A)[t]?=U (X.ai O V)
 |[],Q,l,A,P,h=>by simp only[List.zip_nil_left,List.foldl_nil,J8];exact⟨P,h⟩|p::R,[],l,A,P,h=>by simp only[C.az,List.zip_nil_right,List.foldl_nil,J8];exact⟨P,h⟩
 |p::R,v::M,l,A,P,h=>by
  simp only[C.az,Es,acr,J8];refine aoi R M (l.set p v) (A.setIfInBounds p (v.ai O V)) (by simp[P]) (λt X L=> ?_)
  grind
end
section
variable{p:Sp}{cf:bv}
def Kw(bM:Nat->Bool)(X W:Bool):∀(l:ql)(j n i:Nat)(m:OM),(fU bM X W j n l)[i]?=U m->l[i]?=U m.o
 |[],j,n,i,m,h=>by simp[fU] at h|o::r,j,n,0,m,h=>by simp[fU] at h;simp[<-h]|o::r,j,n,i+1,m,h=>by simp[fU] at h;simpa using Kw bM X W r _ _ i m h
def SM(bM:Nat->Bool)(X W:Bool):∀(l:ql)(j n:Nat),(fU bM X W j n l).length=Y l
 |[],j,n=>rfl|o::r,j,n=>by simp[fU,SM bM X W r]
def aeR(bM:Nat->Bool)(X W:Bool):∀(l:ql)(j n i:Nat)(m:OM),(fU bM X W j n l)[i]?=U m->m.j=j+i
 |[],j,n,i,m,h=>by simp[fU] at h|o::r,j,n,0,m,h=>by simp[fU] at h;simp[<-h]|o::r,j,n,i+1,m,h=>by simp[fU] at h;have:=aeR bM X W r _ _ i m h;omega
def aeS(bM:Nat->Bool)(W X:Bool):∀(l:ql)(j n i:Nat)(m:OM),(fU bM W X j n l)[i]?=U m->m.dr=X
 |[],j,n,i,m,h=>by simp[fU] at h|o::r,j,n,0,m,h=>by simp[fU] at h;simp[<-h]|o::r,j,n,i+1,m,h=>by simp[fU] at h;exact aeS bM W X r _ _ i m h
structure aoj(m m':OM):Prop where
 o:m.o=m'.o
 ix:m.ix=m'.ix
 j:m.j=m'.j
 dr:m.dr=m'.dr
def aeT{V:ar}:∀{l X:cQ}{m:OM},m∈vK V X l->∃W∈l,aoj m W
 |[],X,m,h=>by simp[vK] at h
 |x::l,X,m,h=>by
  simp only[vK,ey] at h;rcases h with rfl|h;exact⟨x,aw,rfl,rfl,rfl,rfl⟩;obtain⟨W,R,Q⟩:=aeT h
  grind
def aok{X:ar}:∀{l:cQ},CF X l=J->l.Pairwise λx y=>(X.getD y.j 0).testBit x.j=J
 |[],_=>vx
 |x::r,h=>by
  simp only[CF,aC] at h;exact jS.2 ⟨λy W=>gC.1 h.1 y W,aok h.2⟩
def aol{X:ar}:∀{l W:cQ},(l.Pairwise λx y=>(X.getD y.j 0).testBit x.j=J)->(vK X W l).Pairwise λx y=>(X.getD y.j 0).testBit x.j=J
 |[],W,_=>vx
 |x::r,W,h=>by
  obtain⟨V,R⟩:=jS.1 h;refine jS.2 ⟨λy Q=> ?_,aol R⟩;obtain⟨P,O,N⟩:=aeT Q;rw[N.j];exact V P O
def aom{Q:ar}:∀{l W:cQ}(R:cQ)(m:OM)(X:cQ),vK Q W l=R++m::X->m.so=J->X.Pairwise λx y=>(Q.getD y.j 0).testBit x.j=J
 |[],W,R,m,X,h,_=>by cases R<;>simp[vK] at h
 |x::r,W,[],m,X,h,V=>by
  simp only[vK,cX,Et] at h;obtain⟨P,rfl⟩:=h;subst P;simp only[aC] at V;exact aol (jS.1 (aok V.1.2)).2
 |x::r,W,z::O,m,X,h,V=>by
  simp only[vK,cG,Et] at h;exact aom O m X h.2 V
def aeU:∀{l:ar},oh l=J->l.Pairwise (·≠·)
 |[],_=>vx
 |x::X,h=>by
  simp only[oh,aC,jT] at h;refine jS.2 ⟨λy W e=> ?_,aeU h.2⟩
  grind
def Xn:∀{l:cQ},oh (l.filterMap (·.o.dst))=J->l.Pairwise λa b=>∀d,a.o.dst=U d->b.o.dst≠U d
 |[],_=>vx
 |x::V,h=>by
  cases X:x.o.dst with
  |none=>
   simp only[av3,X] at h;exact jS.2 ⟨λy _ d W=>(by rw[X] at W;cases W),Xn h⟩
  |some d=>
   simp only[av3,X,oh,aC,jT] at h;refine jS.2 ⟨λy R e W Q=> ?_,Xn h.2⟩
   grind
def aon{X:dG}{W:ar}:∀{l:cQ},GY X W l=J->l.Pairwise λx y=>(W.getD y.j 0).testBit x.j=J\/vJ X x y=J
 |[],_=>vx
 |x::V,h=>by
  simp only[GY,aC] at h;refine jS.2 ⟨λy R=> ?_,aon h.2⟩
  grind
def aoo{V:dG}:∀{l:cQ}{done:ar},G2 V done l=J->(∀m∈l,V[m.j]?=U m.o)->∀X m W,l=X++m::W->∀e∈ju m.o,e∈done\/∃x∈X,x.j=e
 |[],done,_,_,X,m,W,h=>by cases X<;>simp at h
 |x::l,done,R,Q,X,m,W,h=>by
  simp only[G2,aC] at R;intro e P;cases X with
  |nil=>
   grind
  |cons z O=>
   simp at h;obtain⟨rfl,h⟩:=h;rcases aoo R.2 (λm N=>Q m (by simp[N])) O m W h e P with M|⟨y,L,M⟩
   grind
   grind
def aop{X:dG}(h:Wh X.toList t=J):NL X t:=by
 have V:∀(j:Nat)(o:Oper),X[j]?=U o->(∀e∈ju o,e<j)/\∀i,i<X.size->(t.getD j 0).testBit i=J->i∈ju o\/∃e∈ju o,(t.getD e 0).testBit i=true:=by
  intro j o W;have R:j<X.size:=(lL.1 W).1;have Q:=gC.1 h j (by simpa using R)
  grind
 exact⟨λj o W=>(V j o W).1,λj o W=>(V j o W).2⟩
theorem xK(X:ar):∀(l:aq)(n i:Nat),(uy X n l)[i]?=(l[i]?).map λx=>if X.contains (n+i) then .any else x
 |[],n,i=>by simp[uy]|x::W,n,0=>by simp[uy]
 |x::W,n,i+1=>by
  simp only[uy,vw];rw[xK X W (n+1) i,show n+1+i=n+(i+1) from ae]
def NQ(X:ar):∀(l:aq)(n:Nat),(uy X n l).length=Y l
 |[],n=>rfl|x::W,n=>by simp[uy,NQ X W]
def aoq:∀{l:ql}{o:Oper}{t:TypeId},CG cf l=J->o∈l->o.op=.alloc t->J6 cf t=J
 |[],o,t,_,h,_=>by simp at h
 |x::V,o,t,h,X,W=>by
  simp only[CG,aC] at h;rcases ey.1 X with rfl|X
  grind
  exact aoq h.2 X W
def aeV:∀{l:cQ},oh ((l.filter λm=>gR m.o.op).map (·.ix))=J->l.Pairwise λa b=>gR a.o.op=J->gR b.o.op=J->a.ix≠b.ix
 |[],_=>vx
 |x::R,h=>by
  by_cases X:gR x.o.op=J;rw[List.filter_cons_of_pos (by simpa using X),dH,oh,aC] at h;refine jS.2 ⟨λy W _ Q e=> ?_,aeV h.2⟩
  grind
  rw[List.filter_cons_of_neg (by simpa using X)] at h;exact jS.2 ⟨λy W V=>bB V X,aeV h⟩
def ay9(bM:Nat->Bool)(X W:Bool)(V:bm):∀(l:ql){i:Nat}{m:OM},gR m.o.op=J->(fU bM X W 0 (Y V) l)[i]?=U m->gt (V++ew (mV l) Z) m.ix=true:=by
 have R:∀(l:ql)(j n i:Nat)(m:OM),gR m.o.op=J->(fU bM X W j n l)[i]?=U m->n<=m.ix/\m.ix<n+mV l:=by
  intro l;induction l with
  |nil=>intro j n i m _ h;simp[fU] at h
  |cons o r Q=>
   intro j n i m P h;have O:mV (o::r)=(if gR o.op then 1 else 0)+mV r:=by
    grind [mV]
   cases i with
   |zero=>
    grind [fU,JA]
   |succ i=>
    grind [fU]
 grind [gt]
abbrev aor(p:Sp)(cf:bv)(D:bU)(x:YH)(L:dt)(n:Nat)(B:aq)(s:S)(k A:C->S->T)(O:aj)(V:ar)(a:Act)(W:World)(G:Ending->World->Prop):Prop:=
  (x n B s k A).aP p O L->aA p.S0 p.w0 D cf.ty V O s a W->eD cf.gl O->
  (∀v N X M Q H,bC s O V N X M->cU s.ax L H->aA p.S0 p.w0 D cf.ty M X N a Q->(k v N).aP p X H->G (.returned (v.ai X M)) Q)->
  (∀v N X M Q H,bC s O V N X M->cU s.ax L H->aA p.S0 p.w0 D cf.ty M X N a Q->(A v N).aP p X H->G (.panicked [{v:=v.ai X M,recovered:=E}]) Q)->
  (∀z Q w y,ef p.w0 D w y a.defers Q->p.R (.panicked z) Q->G (.panicked z) Q)->
  ∀(F:Fence)(_:qE F)(m:Nat),YieldAt F m p.P (O.y.getD n 0) (C.az O V B).toArray W G
def qF(p:Sp)(cf:bv)(X:List (Nat×Loop))(B:jK)(R:YH):Prop:=
 ∀(D:bU)(_:X<+:D.dK)(L:dt)(n:Nat)(Q:aq)(s:S)(k P:C->S->T)(O:aj)(V:ar)(a:Act)(W:World)(N:Ending->World->Prop),B.lT s (O.at (O.y.take (Y X))) V L->aor p cf D R L n Q s k P O V a W N
def aza{D:bU}{Q:Ty}{V:ar}{a:Act}{W:World}(X:aA t e D Q V x R a W):x.at (x.y.take (Y D.dK))=x:=by
 rw[Jv (by rw[X.dm.rY,<-X.dm.len];exact cd _)];cases x;rfl
def qF.use{D:bU}{B:jK}{X:YH}(M:qF p cf D.dK B X){L:dt}{n:Nat}{Q:aq}{s:S}{k P:C->S->T}{O:aj}{V:ar}{a:Act}{W:World}{N:Ending->World->Prop}(H:B.lT s O V L):aor p cf D X L n Q s k P O V a W N:=
 λh R=>M D (List.prefix_refl _) L n Q s k P O V a W N (by rw[aza R];exact H) h R
def Fc(X:List (Nat×Loop))(B:jK):qF p cf X B iD:=λ_ _ _ _ _ _ _ _ _ _ _ _ _ _ h=>h.elim
def aot{F:Fence}(hF:qE F)(ok:ji p cf){n:Nat}{pc:vL}(a0:NK p cf pc){D:bU}{B:jK}{yh:YH}(hY:qF p cf D.dK B yh){Q:Exit->Act->World->Prop}(HP:∀ch l A pd y,ef p.w0 D pd y l.defers A->p.R (.panicked ch) A->Q (.panic ch) l A){G:dG}{u:cQ}{a:Act}{L:dt}{k:XE->S->T}(hB:B.lT R x t L)
  (aa:EK G (Y R.au)=U u)(a1:CG cf G.toList=J)(a3:C0 G pc)(h:(lN cf (uz cf pc yh) G (k .normal) (λv=>k (.bp v)) u (R.vM G u) []).aP p x L)(X:aA p.S0 p.w0 D cf.ty t x R a e)(hg:eD cf.gl x)
  (hk:∀r z g l A f,bC R x t r z g->cU R.ax L f->aA p.S0 p.w0 D cf.ty g z r l A->(k .normal r).aP p z f->Q .normal l A)
  (a4:∀v r z g l A f,bC R x t r z g->cU R.ax L f->aA p.S0 p.w0 D cf.ty g z r l A->(k (.bp v) r).aP p z f->Q (.panic [{v:=v.ai z g,recovered:=E}]) l A):
  wpAnyIn F n p.P .any G Q G.size (Q0 G.size E) a {e with drawn:=e.drawn+1}:=by
 unfold EK at aa;simp only at aa;split at aa;rename_i hc;simp only[aC,gc] at hc;obtain⟨⟨⟨⟨⟨⟨⟨c1,c2⟩,c3⟩,c4⟩,c5⟩,c8⟩,c6⟩,c7⟩:=hc;simp at aa;rw[aa] at c2 c3 c4 c5 c6 c7 c8;have af:∀m∈u,∃(i:Nat)(m':OM),(fU (Rw G.toList (qu G.toList)) E J 0 (Y R.au) G.toList)[i]?=U m'/\aoj m m':=by
  intro m q;rw[<-aa] at q;obtain⟨m',h1,h2⟩:=aeT q
  grind [MM]
 have ag:∀m∈u,G[m.j]?=U m.o:=by
  intro m q;obtain⟨i,m',c,w⟩:=af m q;have h1:=Kw _ _ _ _ _ _ _ _ c;have h2:=aeR _ _ _ _ _ _ _ _ c;rw[w.j,w.o,h2,jp];simpa using h1
 have hW:SD G (qu G.toList) (Q0 G.size E) u:=by
  refine⟨ag,λi c=> ?_,aw,λj o ho hj=> ?_,aon c3,λxs m ys he N hd=> ?_, ?_,Xn c4,λxs m ys he a9=>aom xs m ys (aa.trans he) a9⟩;constructor;intro _;have:=gC.1 c7 i (by simpa using c)
  grind
  intro _;simp[c];exfalso;have ba:j<G.size:=(lL.1 ho).1;simp[ba] at hj;rcases aoo c2 ag xs m ys he N hd with h1|h1;cases h1
  grind
  have:=aeU c5
  grind
 obtain⟨Rr,ac⟩:=X.room (mV G.toList);have Rb:aA p.S0 p.w0 D cf.ty (t++ew (mV G.toList) 0) x (R.vM G u) a {e with drawn:=e.drawn+1}:=by
  have Rd:=Rr.drew;refine⟨Rd.mem,Rd.gE,Rd.ei,Rd.eb,Rd.er,Rd.dm,by simp only[S.vM,NQ];exact Rr.size,λM sv b=> ?_,Rd.eP⟩;simp only[S.vM] at b;rw[xK,jp] at b;cases hx:R.tmps[M]? with
  |none=>rw[hx] at b;cases b
  |some H=>
   rw[hx] at b;simp only[ga,dX] at b;split at b
   grind
   subst b;exact Rd.tmps M H hx
 have al:bC R x t (R.vM G u) x (t++ew (mV G.toList) 0):=⟨ac.ext,ac.mono,ac.len,ac.ax⟩;refine ayU a3 a0 hF ok HP (aop c1) (Kn:=Hp p (k .normal)) (Kp:=E5 p (λv=>k (.bp v))) (Yp:=E6 p cf G pc yh (k .normal) (λv=>k (.bp v))) (s0:=R.vM G u) (O0:=x) (V0:=t++ew (mV G.toList) 0) (L0:=L)
  (λr z g l A f hl hL R' w=>hk r z g l A f (al.trans hl) hL R' w) (λv r z g l A f hl hL R' w=>a4 v r z g l A f (al.trans hl) hL R' w)
  ?_
  G.size _ u (R.vM G u) x _ a _ L c6 hW (λm q=>by
   obtain⟨i,m',c,w⟩:=af m q;rw[w.dr];exact aeS _ _ _ _ _ _ _ _ c) (λm q M b=> ?_) (aeV c8) (.inl ⟨λm q bb=> ?_, ?_⟩) (bC.refl _ _ _) (cU.refl _ _) Rb hg ?_
 intro L2 m bc s2 O2 V2 a2 W2 yn b3 R' hl hL R2 bf bg bk bl br mm;obtain⟨bs,fx,bt,bx⟩:=bg;refine hY.use (hB.go (al.trans hl) hL) bx R2 bf (λv r z g A f an b0 Rn w=> ?_) bl br F hF mm;refine bk v r z g A f an b0 Rn ?_;have ab:=gg r m.o.dst v;refine Ks ok.pt bc _ _ z (by rw[ab.1];exact Rn.ei) (by rw[ab.2.1];exact Rn.eb) (by rw[ab.2.2];exact Rn.er) w ?_ bs;intro H hx;obtain⟨b1,b4⟩:=qj.1 hx;obtain⟨hd,ce⟩:=bt H b1;have hE:=an.ext;refine⟨by rw[BE.eh hE.agree _ (by rw[R2.ei,R2.eb,R2.er];exact ce)];exact hd, ?_⟩;rw[ab.1,ab.2.1,ab.2.2,<-Rn.ei,<-Rn.eb,<-Rn.er];exact BE.eA (by rw[<-R2.ei];exact hE.li) (by rw[<-R2.eb];exact hE.lb) (by rw[<-R2.er];exact hE.lr) _ ce;have h1:=ag m q;exact aoq a1 (jD (show G.toList[m.j]?=U m.o by simpa using h1)) b;obtain⟨i,m',c,w⟩:=af m q;rw[w.ix];exact ay9 _ _ _ R.au _ (by rw[<-w.o];exact bb) c;intro m q d hd;have b2:d∈G3 (u.dropLast.map (·.o)):=QX.2 ⟨m.o,fo.2 ⟨m,q,rfl⟩,hd⟩;unfold zB;simp only[S.vM];rw[xK,jp];cases hx:R.tmps[d]? with
 |none=>exact .inl rfl
 |some H=>
  right;by_cases hb:(alx R (G3 (u.dropLast.map (·.o)))).contains d=J
  grind [C.bj]
  refine⟨H,by simp only[ga,hb];rfl, ?_⟩;have ce:H.bd R.ni R.nb (Y R.rs) (aL R.au)=true:=by
   cases hh:H.bd R.ni R.nb (Y R.rs) (aL R.au);exfalso;apply hb;exact Jw.2 (qj.2 ⟨b2,by simp[hx,hh]⟩);rfl
  exact C.eA (cd _) (cd _) (cd _) ac.mono _ ce
 refine Ks ok.pt u _ [] x Rb.ei Rb.eb Rb.er h (λH hx=>by cases hx) (λm q=> ?_);obtain⟨i,m',c,w⟩:=af m q;rw[w.dr];exact aeS _ _ _ _ _ _ _ _ c;cases aa
def Be(p:Sp)(cf:bv)(n:Nat):Prop:=
 ∀(D:bU)(B:jK)(z:YH)(H:cH)(G:FuncId)(c:Code)(s:S)(k:XE->S->T)(L:dt)(O:aj)(V:ar)(a:Act)(W:World)(Q:Exit->Act->World->Prop),
  qF p cf D.dK B z->B.lT s O V L->D.rd=H.isSome->(H.isSome=J->kK c=E)->(∃v,p.P.funcs[G]?=U v)->
  (fP cf n G c s z k).aP p O L->aA p.S0 p.w0 D cf.ty V O s a W->eD cf.gl O->
  (∀x N X u y,ef p.w0 D u y N.defers X->p.R (.panicked x) X->Q (.panic x) N X)->
  (∀e F M A N X w,bC s O V F M A->cU s.ax L w->aA p.S0 p.w0 D cf.ty A M F N X->(k e F).aP p M w->Q (e.to M A) N X)->
  jU H G p.P c Q a W
def Xo(p:Sp)(cf:bv)(n:Nat):Prop:=
 ∀(D:bU)(B:jK)(z:YH)(G:cH)(M:FuncId)(x:Code)(s:S)(k:XE->S->T)(L:dt)(O:aj)(V:ar)(a:Act)(W:World)(Q:Exit->Act->World->Prop),
  qF p cf D.dK B z->B.lT s O V L->D.rd=G.isSome->(G.isSome=J->kK x=E)->(∃u,p.P.funcs[M]?=U u)->
  (∀t,(Code.first x).map (cf.loop M)≠U (.inv t))->
  (fP cf n M (.loop x) s z k).aP p O L->aA p.S0 p.w0 D cf.ty V O s a W->eD cf.gl O->
  (∀w N X r y,ef p.w0 D r y N.defers X->p.R (.panicked w) X->Q (.panic w) N X)->
  (∀e F H A N X v,bC s O V F H A->cU s.ax L v->aA p.S0 p.w0 D cf.ty A H F N X->(k e F).aP p H v->Q (e.to H A) N X)->
  SH G M p.P x Q n a W
def azb{F:Fence}(j:qE F)(o:ji p cf){r:vL}(i:NK p cf r){D:bU}{B:jK}{m:YH}(g:qF p cf D.dK B m){Q:Exit->Act->World->Prop}(HP:∀l H M f y,ef p.w0 D f y H.defers M->p.R (.panicked l) M->Q (.panic l) H M){z:dG}{id:Nat}{q:cQ}{a:Act}{L:dt}{k:XE->S->T}(d:B.lT R x t L)
  (c:EK z (Y R.au)=U q)(b:CG cf z.toList=J)(aa:C0 z r)(h:(lN cf (uz cf r m) z (k .normal) (λv=>k (.bp v)) q (R.vM z q) []).aP p x L)(N:aA p.S0 p.w0 D cf.ty t x R a e)(hg:eD cf.gl x)
  (hk:∀A G w H M u,bC R x t A G w->cU R.ax L u->aA p.S0 p.w0 D cf.ty w G A H M->(k .normal A).aP p G u->Q .normal H M)
  (ab:∀v A G w H M u,bC R x t A G w->cU R.ax L u->aA p.S0 p.w0 D cf.ty w G A H M->(k (.bp v) A).aP p G u->Q (.panic [{v:=v.ai G w,recovered:=E}]) H M):
  (Code.region id z J).wpIn F X p.P Q a e:=
 wpIn_region_any o.Xc (aot j o i g HP d c b aa h N hg hk ab)
def azc(c:Be p cf X)(b:Xo p cf X):Xo p cf (X+1):=by
 intro D B m q o x s k L O V a W Q l j i g f aa h R d HP F;unfold fP at h;simp only at h;show jU q o p.P x _ a W;refine c D B m q o x s _ L O V a W _ l j i g f h R d (λch M H pd y hd hR=>HP ch M H pd y hd hR) ?_;intro e A z w M H u N G t r;cases e with|normal=>exact b D B m q o x A k u z w M H Q l (j.go N G) i g f aa r t (d.ext N.ext) HP (λe2 s2 O2 V2 a2 W2 L2 ab ac R2 af=>F e2 s2 O2 V2 a2 W2 L2 (N.trans ab) (G.trans ac N.ax) R2 af)|ret=>exact F .ret A z w M H u N G t r|exit id=>exact F (.exit id) A z w M H u N G t r|bp v=>exact F (.bp v) A z w M H u N G t r
def aA.back{D w:bU}{V M:ar}{N:aj}{G L:S}{a v:Act}{W H:World}(X:aA t e D cf.ty V x R a W)(u:R.bd=J)
  (r:bC G x V L N M)(q:G.au=R.au)(P:aA t e w cf.ty M N L v H){D2:bU}{a2:Act}{F:vz}(B:a2.tmps=a.tmps)(o:ef e D2 F N.y a2.defers H):aA t e D2 cf.ty M N {L with tmps:=R.tmps,pd:=F} a2 H:=by
 obtain⟨n,-⟩:=X.zv u;refine⟨P.mem,P.gE,P.ei,P.eb,P.er,o,by rw[B];exact X.size,λQ m h=> ?_,P.eP⟩;rw[B];rcases X.tmps Q m h with A|A
 grind
 right;have z:=r.ext;rw[q] at z;rw[z.ai (xD n h)];exact A
def aA.enter{D N:bU}{V:ar}{a:Act}{W:World}(X:aA t e D cf.ty V x R a W)(P:aq)(n:Nat)(L:ef e N R.pd x.y [] W):
  aA t e N cf.ty V x {R with tmps:=P++ew (n-Y P) (.bI [])} {tmps:=(C.az x V P).toArray++Q0 (n-(C.az x V P).toArray.size) undef,defers:=[]} W:=by
 refine⟨X.mem,X.gE,X.ei,X.eb,X.er,L,aw,λQ G h=> ?_,X.eP⟩;right;simp;by_cases M:Q<Y P;rw[fO M] at h;rw[aIT (by simpa using M)];simp[uB,h];rw[jo ae,Vv] at h;split at h;rename_i H;cases h;rw[Array.getElem?_append_right bS];simp only[Mq,M1,aIY];rw[aH H];rfl;cases h
def Kx(N:ji p cf)(hC:Be p cf X){D:bU}{B:jK}{yh:YH}(hY:qF p cf D.dK B yh):Sn p cf D B (kA cf (λf c s k=>fP cf X f c s yh k) yh):=by
 intro L g0 x s k kp O V a W w G h R A i ab b;cases g0 with
 |yl yn=>exact λF hF m=>hY.use G h R A i ab b F hF m
 |fn g=>
 unfold kA at h;simp only at h;split at h;rename_i c nt rs aa;refine⟨N.zy g (.inr (by rw[aa];rfl)), ?_⟩;split at h;rename_i hb;simp only[S.eX,aC] at hb;obtain⟨fn,hf,af,ag,bZ⟩:=N.inl g c nt rs aa;refine Ku hf af ?_;obtain⟨ms,m1,m0,m2,m3⟩:=R.dm.mz;have RE:=R.enter x nt (R.dm.enter m2 m3 E);rw[<-ag] at RE h;have al:B.lT {s with tmps:=x++ew (fn.ntmps-Y x) (.bI [])} O V L:=⟨⟨G.later.ext,G.later.mono,G.later.len,G.later.ax⟩,G.Ko⟩;refine hC ⟨ms++D.out,D.dK,E,[]⟩ B yh Z g c _ _ L O V _ W _ hY al rfl (λhh=>by cases hh) ⟨fn,hf⟩ h RE A ?_ ?_;intro ch M o pd y hA hR;obtain⟨an,z,q0,j,u⟩:=hA.mz;rw[z] at hA;have t:=(hA.rp).NN m0;rw[<-m1] at t;show LeavesInM Fence.wide 0 p.P fn M.tmps w M.defers (.panicking ch) o;rw[z];exact sd aw (xk.1 j).1 (λd H=>(u d (by simp[H])).1) (b ch _ pd y t (SL (N.Xd ch) (λd H=>(u d (by simp[H])).2) hR));intro e s' O' V' M o L' r hL RR Q;have a0:bC s O V {s' with tmps:=s.tmps} O' V':=⟨r.ext,r.mono,r.len,r.ax⟩;obtain⟨an,z,q0,j,u⟩:=RR.dm.mz;have R2:=RR.rp z;have t:=R2.dm.NN m0;rw[<-m1] at t;have RB:=R.back hb.1 r rfl R2 (D2:=D) (a2:=a) rfl t;have ac:∀l,uv cf s' rs=U l->(k (one l) {s' with tmps:=s.tmps}).aP p O' L'->LeavesInM Fence.wide 0 p.P fn M.tmps w M.defers .returning o:=by
  intro l q Q;rw[z];refine sd aw (xk.1 j).1 (λd H=>(u d (by simp[H])).1) ⟨_,Kq R2 N.kM (by rw[bZ];exact q), ?_⟩
  grind
 cases e with
 |normal=>
  simp only[MN] at Q;split at Q;rename_i l q;exact ac l q Q;exact Q.elim
 |ret=>
  simp only[MN] at Q;split at Q;rename_i l q;exact ac l q Q;exact Q.elim
 |bp v=>
  show LeavesInM Fence.wide 0 p.P fn M.tmps w M.defers (.panicking _) o;rw[z];exact sd aw (xk.1 j).1 (λd H=>(u d (by simp[H])).1) (ab v _ O' V' _ L' a0 hL RB Q)
 |exit id=>exact Q.elim
 exact h.elim;rename_i aa;split at h;exact aye N.pt (λg A=>N.zy g (.inl A)) D L g _ x s k O V a W w h R i;exact ang N.pt (λg A=>N.zy g (.inl A)) D L g x s k O V a W w h R i b
def azd(b:Bool)(H:ji p cf){D:bU}{B:jK}{G:qn}(F:Sn p cf D B G):Sn p cf D B (ac2 b cf G):=by
 intro L x Q s k A O V a W P z h R X N y M;cases x with
 |yl w=>exact F L (.yl w) Q s k A O V a W P z h R X N y M
 |fn g=>
  cases b with|false=>exact F L (.fn g) Q s k A O V a W P z h R X N y M|true=>exact ang H.pt (λg X=>H.zy g (.inl X)) D L g Q s k O V a W P h R N M
end
