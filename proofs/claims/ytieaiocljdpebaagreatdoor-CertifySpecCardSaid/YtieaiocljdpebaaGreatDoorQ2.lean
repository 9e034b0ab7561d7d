/- Part 2 of the proof; the last part says what is shown. -/
import Derived.Test.YtieaiocljdpebaaGreatDoorQ1
import Derived.Maps.RangeRun
import Derived.RangeFuncSeq
import Derived.StillTailTactics
import Derived.RangeFuncIn
import Derived.RangeFuncLeaves
import Derived.LoopNIn
import Derived.LoopIn
set_option linter.all false
open Bool renaming and_eq_true->aIy,not_eq_true'->aIR,false_eq_true->aIU,or_eq_true->aIZ,or_eq_false_iff->aJh,eq_iff_iff->aJv,and_self->aJI,not_eq_false->aJY,true_and->aJ3,and_true->aKw,not_true->aKx,or_eq_true_iff->aLm,not_false->aLp,and_eq_false_iff->aLT,false_or->aL3,true_or->aL6,true_eq_false->aMb,true->J,false->E
open List renaming getElem?_eq_some_iff->aIz,getElem?_eq_getElem->aIA,getElem?_append_left->aIB,getD_eq_getElem?_getD->aIC,getElem?_map->aIE,cons_append->aIF,getElem?_append_right->aIH,nil_append->aIJ,mem_cons->aIK,replicate->aIL,mem_append->aIM,all_eq_true->aIN,length_append->aIO,map_cons->aIP,getElem?_eq_none->aIT,pairwise_cons->aIV,mem_of_getElem?->aIW,map_congr_left->aIY,ext_getElem?->aI0,eq_nil_of_length_eq_zero->aI1,length_eq_one_iff->aI2,mem_map->aI3,pairwise_append->aI4,range->aI5,getElem?_take->aI6,any_eq_true->aI7,contains_iff_mem->aI9,getElem?_cons_succ->aJa,length_eq_zero_iff->aJe,getElem?_set_ne->aJf,getElem?_of_mem->aJg,getElem?_drop->aJi,mem_filter->aJj,getElem?_eq_none_iff->aJk,getElem_mem->aJl,length_cons->aJm,length_map->aJn,map_map->aJo,mem_append_left->aJp,getElem?_cons_zero->aJr,getElem?_set->aJs,drop_eq_getElem_cons->aJw,mem_or_eq_of_mem_set->aJx,nodup_append->aJz,mem_of_mem_drop->aJA,getElem?_replicate->aJD,mem_cons_of_mem->aJF,mem_of_mem_take->aJG,mem_filterMap->aJN,mem_range->aJQ,length_take->aJS,length_drop->aJT,range'->aJV,take_of_length_le->aJW,getElem?_set_self->aJX,size_toArray->aJZ,getElem?_range->aJ1,foldl_cons->aJ2,map_nil->aJ7,mem_append_right->aKa,mem_cons_self->aKb,mem_of_find?_eq_some->aKc,append_nil->aKf,nodup_cons->aKn,range_eq_range'->aKq,all_cons->aKv,zip_cons_cons->aKz,mem_singleton->aKB,replicate_one->aKC,map_append->aKD,dropLast_append_of_ne_nil->aKE,sublist_cons_self->aKH,take_append_of_le_length->aKI,range'_succ->aKP,filterMap_cons->aKU,find?_some->aKW,getElem?_zip_eq_some->aKY,length_erase_of_mem->aK2,drop_eq_nil_of_le->aK6,mem_erase_of_ne->aLi,drop_append_of_le_length->aLl,append_toArray->aLn,pairwise_map->aLx,append_eq_append_iff->aLA,map_set->aLC,any_map->aLD,append_cancel_right->aLE,drop_of_length_le->aLM,length_pos_of_mem->aLN,drop_zero->aLR,mapM_cons->aLS,dropLast_sublist->aLU,getElem?_append->aL1,set_cons_zero->aL9,Sublist->aMa,append_of_mem->aMc,length->Y
open Option.some renaming injEq->aID
open Nat renaming le_refl->aIG,zero_add->aI8,le_trans->aJL,add_zero->aJU,testBit_or->aJ4,le_of_eq->aKe,lt_of_lt_of_le->aKy,zero_le->aKG,strongRecOn->aKZ,testBit_shiftLeft->aLb
open Option renaming map_some->aII,isSome_iff_exists->aIS,getD_some->aJd,bind_some->aKQ,getD_none->aK8,isNone_iff_eq_none->aLz,some->U,none->Z
open Array renaming getElem?_eq_some_iff->aIX,ext'->aJu,toList_map->aJy,getElem?_setIfInBounds_ne->aKd,getElem?_setIfInBounds_self_of_lt->aKS,getElem?_eq_getElem->aKX,replicate->aLj,getElem?_append_left->aLu,mapM_eq_mapM_toList->aLy,mem_filter->aMh
open List.Pairwise renaming nil->aJt
open List.cons renaming injEq->aJH
open Int renaming toNat_natCast->aJ0
open Prod.mk renaming injEq->aKj
open List.Sublist renaming append->aKT,refl->aK5
open Go.IntKind renaming i64->I
namespace Go.Proofs.YtieaiocljdpebaaGreatDoor.Y
open Go.RowKit
noncomputable section
variable{X:Nat}{x:TypeId}{e:ah}{h:Bool}{t:ai}{b:World}{R:S}{N:aa}{r:OM}{v:SV}{l:Oper}
section
variable{c:ai}{d:World}{D:bQ}{P:Program}{f:bz}{V:ai}{O:aa}{s:S}{a:Act}{W:World}
def ajN{X:Type}(l:List X)(x y:X):(l++[x]).set (Y l) y=l++[y]:=by
 induction l with
 |nil=>rfl
 |cons z Q R=>simp[R]
def av.xG(R:av c d D f.ty V O s a W)(N:s.bd=J){t:TypeId}{X:ah}(C:SV.da s.ni s.nb (Y s.rs) (aL s.boxes) X=J):
  av c d D f.ty (V++[W.heap.size]) O (s.xG (t,X)) a (W.alloc (kA t (SV.cL O V X)))/\bF s O V (s.xG (t,X)) O (V++[W.heap.size]):=by
 obtain⟨B,m⟩:=R.room 1;have j:(s.room 1).boxes.length=Y s.boxes+1:=by simp[S.room]
 have A:fj (s.room 1).boxes (Y s.boxes)=true:=by simp[fj,S.room]
 have z:(s.room 1).dZ X=true:=by
  simp only[S.dZ,S.bd,aIy] at N⊢;have M:aL (s.room 1).boxes=aL s.boxes:=by
   funext i;simp only[aL,cw,S.room,aKC];by_cases Q:i<Y s.boxes;rw[aIB Q];rw[aIH (by omega),aIT (l:=s.boxes) (by omega)];cases y:i-Y s.boxes with
   |zero=>rfl
   |succ n=>rfl
  have w:∀L,SV.o9 s.ni s.nb (Y s.rs) L (s.boxes++[Z])=SV.o9 s.ni s.nb (Y s.rs) L s.boxes:=by
   intro L;generalize s.boxes=l;induction l with
   |nil=>rfl
   |cons x g v=>cases x<;>simp[SV.o9,v]
  refine⟨⟨?_, ?_⟩,by rw[M];exact C⟩;rw[M];exact N.1;rw[M];simp only[S.room,aKC];rw[w];exact N.2
 have G:=B.alloc A t X z;have u:(V++aIL 1 0).set (Y s.boxes) W.heap.size=V++[W.heap.size]:=by
  rw[<-R.fH,aKC];exact ajN _ _ _
 have r:SV.cL O (V++aIL 1 0) X=SV.cL O V X:=by
  apply ai1;funext k;simp only[ad,aIC,aKC];by_cases h:k<Y V;rw[aIB h];rw[aIH (by omega),aIT (l:=V) (by omega)];cases y:k-Y V with
  |zero=>rfl
  |succ n=>rfl
 rw[u,r] at G;have q:({((s.room 1).ck (Y s.boxes) t X) with lk:=s.lk}:S)=s.xG (t,X):=by
  simp only[S.ck,S.room,S.xG,aKC,ajN]
 have F:=G.lk s.lk;rw[q] at F;refine⟨F,⟨⟨gT.refl _ _ _ _,aIG _,aIG _,aIG _,λk p=> ?_⟩,λi Q=> ?_,by simp[S.xG],aIG _⟩⟩;have:k<Y V:=by
  obtain⟨b,H⟩:=aIS.1 p;rw[R.fH];exact(aIz.1 (i8.1 H)).1
 simp[ad,aIB this];obtain⟨b,H⟩:=aIS.1 Q;have o:=(aIz.1 (i8.1 H)).1;simp only[aL,cw,S.xG,aIB o] at Q⊢;exact Q
def av.ajO(R:av c d D f.ty V O s a W){cs':ah}(M:bU s.boxes X=U (x,e)):
  av c d D f.ty V O (s.ck X x cs') a (W.putObj (ad V X) (kA x (SV.cL O V cs'))):=by
 have y:=R.mem.box X x e M;have r:ad V X<W.heap.size:=zK y;have w:X<Y s.boxes:=(aIz.1 (i8.1 M)).1;have H:aL s.boxes X=true:=by simp[aL,M]
 have G:∀j,aL (s.boxes.set X (U (x,cs'))) j=J->aL s.boxes j=true:=λj N=>by
  rcases(nT w).1 N with rfl|h;exact H;exact h
 have F:∀b,b≠ad V X->(W.putObj (ad V X) (kA x (SV.cL O V cs'))).heap[b]?=W.heap[b]?:=λb h=>World.putObj_heap_other h
 refine⟨⟨⟨R.mem.base.os,R.mem.base.tape,R.mem.base.output,by simpa[World.putObj] using R.mem.base.size,λk C v=> ?_⟩,λj N=>R.mem.own j (G j N),λj k N C=>R.mem.inj j k (G j N) (G k C),λj L q N=> ?_,λk Q B p n=> ?_⟩,by simpa[S.ck] using R.fH,R.ei,R.eb,R.er,R.cM.awo (λb o A m=> ?_),R.size,R.tmps,λk Q B b l g q3=> ?_⟩;have af:k≠ad V X:=by
  rintro rfl;rcases R.mem.own X H with h|h;omega;exact v h
 rw[F k af];exact R.mem.base.block k C v;by_cases z:j=X;subst z;rw[S.ck,Ga w] at N;simp only[aID,aKj] at N;obtain⟨rfl,rfl⟩:=N;exact World.putObj_heap_same r;rw[S.ck,xR z] at N;rw[F _ (λh=>z (R.mem.inj j X (by simp[aL,N]) H h))];exact R.mem.box j L q N;obtain⟨ag,u⟩:=R.mem.ref k Q B p n;exact⟨ag.Jg (λb M=>F b (λh=>u b M X H h.symm)) (by simp[World.putObj]),λb M j N=>u b M j (G j N)⟩;rw[F b (λQ=>by subst Q;rw[y] at A;cases A;exact ajt m _ _ rfl)];exact A;have t:=R.fl k Q B b l g q3;have L:=t.world (W':=W.putObj (ad V X) (kA x (SV.cL O V cs'))) (F b (λh=>t.box X H h.symm));exact⟨L.own,L.mem,λj N=>L.box j (G j N),L.alone,L.inner⟩
def av.aaC(R:av c d D f.ty V O s a W){i:Nat}{cs':ah}(X:bU s.boxes i=U (x,e))(_:∀Q N M,kA x (SV.cL O V e)≠ .cells Q N M):
  av c d D f.ty V O (s.ck i x cs') a (W.putObj (ad V i) (kA x (SV.cL O V cs'))):=R.ajO X
def xV(L:bi)(X:Value×Value):qU->qU
 |[]=>[X]
 |p::r=>if wa p.1=L then X::r else p::xV L X r
def ajP:∀{l:qU}{m:Nat}{p:Value×Value},fy m (l++[p])=fy m l++[⟨p.1,p.2,m+Y l⟩]
 |[],m,p=>by simp[fy]
 |x::r,m,p=>by
  simp only[aIF,fy,ajP (l:=r) (m:=m+1) (p:=p)];simp;omega
def ajQ{L:bi}{kv:Value×Value}:∀{l:qU}{m i:Nat},
  (mD L (fy m l) i=Z/\xV L kv l=l++[kv])\/∃j v p,mD L (fy m l) i=U (i+j,v)/\(fy m l)[j]?=U ⟨p.1,p.2,m+j⟩/\p∈l/\wa p.1=L/\(xV L kv l).length=Y l/\fy m (xV L kv l)=(fy m l).modify j λe=>{e with key:=kv.1,val:=kv.2}
 |[],m,i=>.inl ⟨rfl,rfl⟩
 |p::r,m,i=>by
  simp only[fy,mD,xV];by_cases h:wa p.1=L;right;rw[if_pos h,if_pos h];exact⟨0,p.2,p,rfl,rfl,by simp,h,by simp,by simp[fy]⟩;rw[if_neg h,if_neg h];rcases ajQ (l:=r) (m:=m+1) (i:=i+1) with⟨X,R⟩|⟨j,v,Q,X,R,N,M,H,G⟩;exact .inl ⟨X,by rw[R];rfl⟩;refine .inr ⟨j+1,v,Q,by rw[X];congr 2;omega,by simp only[aJa,R];congr 2;omega,by simp[N],M,by simp[H], ?_⟩;simp only[fy,G,List.modify_succ_cons]
def awI(Q:Bool)(l:bi):Instr.sameBits 10000 (fW Q l) (fW Q l)=true:=by
 cases Q;simp[fW,Instr.sameBits];show Instr.sameBits (9999+1) (.agg _) (.agg _)=J;simp only[Instr.sameBits,beq_self_eq_true,aJ3,aIN];intro p L;have:p.1=p.2/\∃x,p.1=.int I x:=by
  have H:∀(m:fe)(q:Value×Value),q∈m.zip m->q.1=q.2/\q.1∈m:=by
   intro m;induction m with
   |nil=>intro q X;cases X
   |cons y F M=>
    intro q X;simp only[aKz,aIK] at X;rcases X with rfl|X;exact⟨rfl,by simp⟩;exact⟨(M q X).1,by simp[(M q X).2]⟩
  obtain⟨N,R⟩:=H _ p L;simp only[aI3] at R;obtain⟨x,-,G⟩:=R;exact⟨N,x,G.symm⟩
 obtain⟨N,x,R⟩:=this;rw[<-N,R];simp[Instr.sameBits]
def ajR{k e:TypeId}(r:P.underlying x=U (.map k e))(F:s5 P k X h){b:Nat}{l:qU}(C:W.heap[b]?=U (ow l)){L:bi}(q:Y L=X)
  (B:∀p∈l,∃Q:bi,Y Q=X/\p.1=fW h Q)(v:Value):
  (Instr.mapUpdate x (.map (U b)) (fW h L) v).run P W=.ok () (W.putObj b (ow (xV L (fW h L,v) l))):=by
 have g:∀R∈fy 0 l,∃Q:bi,Y Q=X/\R.key=fW h Q:=λR f=>by
  obtain⟨p,N,M⟩:=aag f;obtain⟨Q,G,H⟩:=B p N;exact⟨Q,G,M.trans H⟩
 obtain⟨d,c⟩:=F.2 L (fy 0 l) W q g;have hg:=MapKept.run_getObj_map (P:=P) (w:=W) C;have A:=λo=>MapKept.run_setObj_map (P:=P) (w:=W) o C
 simp only[Instr.mapUpdate,Sem.run_bind,dV.gt r,Result.andThen_ok,hg,d,c];rcases ajQ (L:=L) (kv:=(fW h L,v)) (l:=l) (m:=0) (i:=0) with⟨N,M⟩|⟨j,u,p,N,M,G,H,h5,h6⟩;rw[N,M];simp only[A,World.putObj,ow,ajP];simp;rw[N];obtain⟨Q,q1,z⟩:=B p G;have hl:Q=L:=by
  rw[z,aae (λe=>q1.trans (F.1 e))] at H;exact H
 subst hl;have y:(((fy 0 l).toArray[0+j]?).map (·.key)).getD (fW h Q)=fW h Q:=by
  simp[M,z]
 simp only[aI8] at y⊢;simp only[y,Instr.keyThatStays,awI,if_true,Sem.run_pure,Result.andThen_ok,Sem.run_bind,A,World.putObj,ow,h6,h5];simp
end
def s7(O:aa)(X:Fx):Prop:=∀x∈X,x.1.den O=x.2
def SM{O:aa}{Q:Fx}(h:s7 O Q){b:BE}{v:Bool}(X:MX Q b=U v):b.den O=v:=by
 unfold MX at X;split at X;cases X;simp[BE.den];cases R:Q.find? (λx=>x.1.same b) with
 |none=>rw[R] at X;cases X
 |some x=>
  rw[R] at X;cases X;have N:=aKW R;rw[<-BE.bI _ _ N];exact h x (aKc R)
def ajS{O:aa}{R:Fx}(h:s7 O R){b:BE}{v:Bool}(Q:b.den O=v):s7 O ((b,v)::R):=by
 intro x X;rcases aIK.1 X with rfl|X;exact Q;exact h x X
def Gg{D:bQ}{H:Ty}{a:Act}{W:World}{Q:aa}{V:ai}{M:Fx}(X:av t b D H V N R a W)(G:gT N Q (Y N.i) (Y N.b) (Y N.r))(h:s7 N M):s7 Q (nN R M):=by
 intro x F;obtain⟨C,L⟩:=aJj.1 F;rw[<-X.ei,<-X.eb,<-X.er] at L;rw[BE.dg G _ L];exact h x C
section
variable{f:bz}
def av.drew{g:ai}{w:World}{D:bQ}{V:ai}{O:aa}{s:S}{a:Act}{W:World}(R:av g w D f.ty V O s a W):av g w D f.ty V O s a {W with drawn:=W.drawn+1}:=
 ⟨⟨R.mem.base.drew,R.mem.own,R.mem.inj,R.mem.box,λk e X Q N=>⟨(R.mem.ref k e X Q N).1.Jg (λ_ _=>rfl) (aIG _),(R.mem.ref k e X Q N).2⟩⟩,R.fH,R.ei,R.eb,R.er,R.cM.world (λ_ _ h _=>h),R.size,R.tmps,λk e X b Q N M=>(R.fl k e X b Q N M).world rfl⟩
end
section
variable{g:ai}{w:World}{D:bQ}{P:Program}{f:bz}{V:ai}{O:aa}{s:S}{a:Act}{W:World}
def av.ajT(R:av g w D f.ty V O s a W)(N:s.bd=J)(j:Int):av g w D f.ty V (O.add (.i j)) {s with ni:=s.ni+1} a W:=by
 obtain⟨M,L⟩:=R.xQ N;have Q:=pW s.boxes O (.i j) V;refine⟨⟨R.mem.base,R.mem.own,R.mem.inj,λi t H h=> ?_,R.mem.ref⟩,R.fH,by simp[aa.add,R.ei],R.eb,R.er,R.cM,R.size,λt G h=> ?_,λk e F b X C B=> ?_⟩;rw[Q.cL (rp L h)];exact R.mem.box i t H h;rcases R.tmps t G h with X|X;exact .inl X;right;rw[Q.den (ux M h)];exact X;have t:=R.fl k e F b X C B;exact⟨t.own,t.mem,t.box,t.alone,t.inner⟩
def av.ajU(R:av g w D f.ty V O s a W)(M:s.bd=J){Q:Sh}{N:RV}(L:bu W f.ty (.mr Q) N):av g w D f.ty V (O.add (.r N)) {s with rs:=s.rs++[.mr Q]} a W:=
 R.add M L (λb X=>by cases X) (λk e F b _ _ _ X=>by
  rcases X with X|⟨⟨t,H⟩,_⟩;cases X;cases H) (λe b G=>by cases G)
def ajV{M:Sh}{Q:am}(h:∀X∈Q,F8 f.ty M X)(H:∀c∈bq f.ty (.mr M),lw c=J):bu W f.ty (.mr M) (.mk (.slice Z (Y Q) (Y Q)) Q):=by
 refine bu.mr M Q (λi X R=>(h X (aIW R)).len) (λi j X c k R L N=>(h X (aIW R)).int j c k L N) (λi j X c R L N=>(h X (aIW R)).bool j c L N) (λi j X c z k R L N=> ?_);have:=H _ (aIW N);simp[lw] at this
def aaD{n:Nat}{X x:aH}:∀{R:am},x∈j8 n X R->x=X\/x∈R
 |[],h=>by simp[j8] at h;exact .inl h
 |r::Q,h=>by
  simp only[j8] at h;split at h;rcases aIK.1 h with h|h;exact .inl h;exact .inr (by simp[h]);rcases aIK.1 h with h|h;exact .inr (by simp[h]);rcases aaD h with h|h;exact .inl h;exact .inr (by simp[h])
def ajW{n:Nat}{X:aH}:∀{rows:am},(∀r∈rows,mU n ((X.take n).map λc=>bB c.val) r=E)->j8 n X rows=rows++[X]
 |[],_=>rfl
 |r::R,h=>by
  simp only[j8];rw[if_neg (by rw[h r (by simp)];simp),ajW (rows:=R) (λx Q=>h x (aJF _ Q))];rfl
def ajX{n:Nat}{X va:Bool}(Q:X=E->n=1){R:aH}(H:Dr n R){L:bi}(N:(R.take n).map (λc=>bB c.val)=L):∀{M:am},(∀r∈M,Dr n r)->
  xV L (uw n X va R) (M.map (uw n X va))=(j8 n R M).map (uw n X va)
 |[],_=>rfl
 |r::u,h=>by
  obtain⟨l,F,C,B⟩:=Nq (ag:=X) Q (h r (by simp));have t:Y L=n:=by
   obtain⟨q,A,z⟩:=H;rw[<-N,z];simpa using A
  have y:mU n L r=decide (l=L):=by
   simp only[mU,B];rw[aJW (by omega)]
  simp only[aIP,xV,j8,N,y];have w:wa (uw n X va r).1=l:=by
   simp only[uw,C];exact aae (λe=>F.trans (Q e))
  rw[w];by_cases G:l=L;simp[G];simp only[G,if_false,decide_false,aIU,aIP];rw[ajX Q H N λx v=>h x (by simp[v])]
def awJ(t:TypeId):(Instr.makeMap t Z).run P W=.ok (.map (U W.heap.size)) (W.alloc (.map #[] 0)):=by
 simp[Instr.makeMap]
def awK(X:av g w D f.ty V O s a W)(F:r.o.op=.makeMap x Z)(h:RL f r.o.dst s x=U R):
  ∃v M L,rz P r.o a W v M/\av g w D f.ty L O R (a.put r.o.dst v) M/\bF s O V R O L:=by
 unfold RL at h;split at h;rename_i k e n Q ae q y;split at h;rename_i N u;split at h;rename_i H;simp only[aIy] at H;cases h;have C:SV.da s.ni s.nb (Y s.rs) (aL s.boxes) (FM N n Q).2=true:=by
  unfold FM;split<;>simp[SV.gI,SV.aS,RE.aS,IE.aS,BE.aS]
 obtain⟨G,B⟩:=X.xG H.1 (t:=(FM N n Q).1) C;have A:kA (FM N n Q).1 (SV.cL O V (FM N n Q).2)=.map #[] 0:=by
  unfold FM;split;rw[Ds];simp[RE.rv,ow,fy];rw[Dt];simp[SV.aA,BD,ow,fy]
 rw[A] at G;refine⟨.map (U W.heap.size),W.alloc (.map #[] 0),V++[W.heap.size],.inl ?_, ?_,B.put _ _⟩;simp[execOp,F,awJ];have:=G.put r.o.dst (.mp (Y s.boxes));have z:ad (V++[W.heap.size]) (Y s.boxes)=W.heap.size:=by simp[ad,<-X.fH]
 rw[SV.den,z] at this;exact this;cases h;cases h;cases h
def SN{k e:TypeId}{n:Nat}{R:Bool}{X:TI}{Q:ah}{r:RE}(h:FN f s k e n R X Q=U r):
  Q=[.ref r,.int I (.c (n:Int)),.bool (.c R),.bool (.c X.d.isAgg)]/\r.oZ f.ty s ⟨k,e,n,R,X.d.isAgg⟩=J/\X.ae.all lw=true:=by
 unfold FN at h;split at h;split at h;rename_i N;simp only[aIy,beq_iff_eq] at N;cases h;obtain⟨⟨⟨⟨M,rfl⟩,rfl⟩,rfl⟩,L⟩:=N;exact⟨rfl,M,L⟩;cases h;cases h
def ajY{n:Nat}{Q:Bool}{X:SV}{x y z:IE}(h:FE n Q X=U (x,y,z)):X.cells.map (SV.bN O)=([x.den O,y.den O,z.den O].take n).map λu=>.mk (.int I u) []:=by
 unfold FE at h;split at h<;>first|(cases h;done)|(split at h<;>first|(cases h;done)|skip)
 all_goals
  rename_i R;cases h;simp only[aIy,beq_iff_eq] at R;obtain⟨rfl,-⟩:=R;simp[SV.cells,SV.bN]
def aaE:∀{ae:dS}{l:ah},kR f.ty s ae l=J->ae.all lw=J->Y l=Y ae/\(∀(j:Nat)(k:IntKind),ae[j]?=U (.int k)->∃x,(l.map (SV.bN O))[j]?=U (.mk (.int k x) []))/\(∀(j:Nat),ae[j]?=U .bool->∃x,(l.map (SV.bN O))[j]?=U (.mk (.bool x) []))/\(l.map (SV.bN O)).map RV.val=SV.aA O V l
 |[],[],_,_=>⟨rfl,λj k h=>by simp at h,λj h=>by simp at h,rfl⟩
 |[],_::_,h,_=>by simp[kR] at h
 |_::_,[],h,_=>by simp[kR] at h
 |c::ae,v::l,h,Q=>by
  simp only[kR,aIy] at h;simp only[aKv,aIy] at Q;obtain⟨M,L,q3,H⟩:=aaE (ae:=ae) (l:=l) h.2 Q.2;have R:=h.1;unfold qX at R;split at R;rename_i k G e;have:k=G:=of_decide_eq_true R;subst this;refine⟨by simp[M],λj N X=> ?_,λj X=> ?_,by simp[SV.aA,SV.bN,SV.den,H]⟩;cases j with
  |zero=>simp at X;subst X;exact⟨e.den O,rfl⟩
  |succ j=>simpa using L j N (by simpa using X)
  cases j with
  |zero=>simp at X
  |succ j=>simpa using q3 j (by simpa using X)
  rename_i b;refine⟨by simp[M],λj N X=> ?_,λj X=> ?_,by simp[SV.aA,SV.bN,SV.den,H]⟩;cases j with
  |zero=>simp at X
  |succ j=>simpa using L j N (by simpa using X)
  cases j with
  |zero=>exact⟨b.den O,rfl⟩
  |succ j=>simpa using q3 j (by simpa using X)
  simp[lw] at Q;cases R
def awL{e:TypeId}{L:TI}(o:qW f.ty x X h=J)(m:f.ty e=U L)(l:L.ae.all lw=J){R:SV}{Q y z:IE}(F:FE X h v=U (Q,y,z))(i:kR f.ty s L.ae R.cells=J):
  F8 f.ty ⟨x,e,X,h,L.d.isAgg⟩ ((v.cells++R.cells).map (SV.bN O)):=by
 obtain⟨g,C,B,A⟩:=Jc (va:=L.d.isAgg) o m;obtain⟨b,q2,q3,-⟩:=aaE (O:=O) (V:=[]) i l;have af:=(aaf (O:=O) (V:=[]) F).2;have w:=ajY (O:=O) F;have t:(v.cells.map (SV.bN O)).length=X:=by rw[w];simpa using af
 have r:∀(j:Nat),((v.cells++R.cells).map (SV.bN O))[j]?=if j<X then(v.cells.map (SV.bN O))[j]? else(R.cells.map (SV.bN O))[j-X]?:=by
  intro j;rw[aKD,aL1,t]
 have q:∀(j:Nat),(bq f.ty (.mr ⟨x,e,X,h,L.d.isAgg⟩))[j]?=if j<X then g[j]? else L.ae[j-X]?:=by
  intro j;rw[C,aL1,B]
 refine⟨?_,λj c kk N M=> ?_,λj c N M=> ?_⟩;rw[C,aJn,aIO,aIO,B,b];simp at t;omega;rw[r] at N;rw[q] at M;split at N;rename_i H;rw[if_pos H] at M;have:=A _ (aIW M);cases this;rw[w,aIE] at N;cases p:([Q.den O,y.den O,z.den O].take X)[j]? with
 |none=>rw[p] at N;cases N
 |some u=>rw[p] at N;cases N;exact⟨u,rfl⟩
 rename_i H;rw[if_neg H] at M;obtain⟨u,G⟩:=q2 _ kk M;rw[G] at N;cases N;exact⟨u,rfl⟩;rw[r] at N;rw[q] at M;split at N;rename_i H;rw[if_pos H] at M;have:=A _ (aIW M);cases this;rename_i H;rw[if_neg H] at M;obtain⟨u,G⟩:=q3 _ M;rw[G] at N;cases N;exact⟨u,rfl⟩
def awM{k e:TypeId}{n:Nat}{X R:Bool}{Q:TI}(M:qW f.ty k n X=J)(L:f.ty e=U Q)(H:Q.ae.all lw=J):∀c∈bq f.ty (.mr ⟨k,e,n,X,R⟩),lw c=true:=by
 obtain⟨C,G,B,F⟩:=Jc (va:=R) M L;intro c N;rw[G] at N;rcases aIM.1 N with h|h;rw[F c h];rfl;exact aIN.1 H c h
def awN(W:World)(b:Nat)(o:Obj):ChangeMaps.setBlock W b o=W.putObj b o:=rfl
def MR.awO(g:ai)(w:World)(D:bQ)(R:Ty)(V:ai)(O:aa)(s:S)(a:Act)(Q:World):MR->Prop
 |.ok X=>av g w D R V O X a Q/\bF s O V X O V
 |.rows _ x X=>av g w D R V (O.add (.r (gz x O))) X a Q/\bF s O V X (O.add (.r (gz x O))) V
def SO(R:av g w D f.ty V O s a W)(a1:iu P f.ty){d:bR}{M X:SV}{r:MR}(h:RJ f d s x v M X=U r):
  ∃W',(Instr.mapUpdate x (v.den O V) (M.den O V) (X.den O V)).run P W=.ok () W'/\r.awO g w D f.ty V O s (a.put d undef) W':=by
 unfold RJ at h;split at h;rename_i k e n L ae q i ht;have hd:P.underlying x=U (.map k e):=(a1 _ _ ht).desc;have m:s5 P k n L:=(a1 _ _ ht).key k e n L rfl;split at h;rename_i H xa xb xc bt B A g2 b;have b1:=a1 _ _ A;split at h;cases h;rename_i bf;simp only[aIZ,aIR,not_or,aJY] at bf;obtain⟨⟨af,a3⟩,b2⟩:=bf;simp only[S.dZ,aIy] at a3;obtain⟨hb,a3⟩:=a3;obtain⟨bg,a4⟩:=aaf (O:=O) (V:=V) g2;have al:=R.mem.box i bt B b;have b3:=Su (O:=O) (V:=V) (uy R) b2;split at h;rename_i an;simp only[beq_iff_eq] at an;subst an;split at h;rename_i G b4;split at h;rename_i bk;cases h;obtain⟨rfl,c1,c5⟩:=SN b4;rw[Ds] at al;have bl:=F9 R c1;have br:∀F∈(G.rv O).rows,Dr n F:=λF z=>Jd af A (bl F z)
 have a9:=ajR (P:=P) hd m al a4 (λp hp=>by
  obtain⟨F,z,rfl⟩:=aI3.1 hp;obtain⟨l,q1,q2,-⟩:=Nq m.1 (br F z);exact⟨l,q1,q2⟩) (X.den O V)
 have bb:=awL (O:=O) (s:=s) af A c5 g2 bk;have bs:=ajY (O:=O) g2;have cy:(M.cells.map (SV.bN O)).length=n:=by rw[bs];simpa using a4
 have b5:((M.cells++X.cells).map (SV.bN O)).take n=M.cells.map (SV.bN O):=by
  rw[aKD,aKI (by omega),aJW (by omega)]
 have b6:((M.cells++X.cells).map (SV.bN O)).drop n=X.cells.map (SV.bN O):=by
  rw[aKD,aLl (by omega),aLM (by omega)];rfl
 have hL:(((M.cells++X.cells).map (SV.bN O)).take n).map (λc=>bB c.val)=[xa.den O,xb.den O,xc.den O].take n:=by
  rw[b5,bs];simp[bB]
 obtain⟨f1,-,-,f4⟩:=aaE (O:=O) (V:=V) bk c5;have b7:uw n L H.d.isAgg ((M.cells++X.cells).map (SV.bN O))=(fW L ([xa.den O,xb.den O,xc.den O].take n),X.den O V):=by
  obtain⟨l,q1,q2,q3⟩:=Nq (ag:=L) m.1 (Jd af A bb);have hl:l=[xa.den O,xb.den O,xc.den O].take n:=by rw[<-q3,hL]
  have b8:pg H.d.isAgg (X.cells.map (SV.bN O))=X.den O V:=by
   rw[b3,pg,f4];cases ha:H.d.isAgg;have ca:Y X.cells=1:=by rw[f1];exact zJ b1 ha
   obtain⟨u,hu⟩:=aI2.1 ca;simp only[aIU,if_false];rw[<-f4,hu];rfl;rfl
  simp only[uw,q2,hl,b6,b8]
 have a0:=ajX (va:=H.d.isAgg) m.1 (Jd af A bb) hL br;rw[b7] at a0;have hh:bu W f.ty (.mr ⟨k,e,n,L,H.d.isAgg⟩) (gz (.ins (.ref G) n (M.cells++X.cells)) O):=by
  refine ajV (λF bx=> ?_) (awM af A c5);simp only[LE.rows] at bx;rcases aaD bx with rfl|h;exact bb;exact bl F h
 have R1:=R.ajU hb hh;have bd:∀cc tt ff,kA ul (SV.cL (O.add (.r (gz (.ins (.ref G) n (M.cells++X.cells)) O))) V [.ref G,.int I (.c (n:Int)),.bool (.c L),.bool (.c H.d.isAgg)])≠ .cells cc tt ff:=by
  intro cc tt ff hx;rw[Ds] at hx;cases hx
 have R2:=R1.aaC (cs':=[.ref (.v (Y s.rs)),.int I (.c (n:Int)),.bool (.c L),.bool (.c H.d.isAgg)]) (i:=i) b bd;have ch:(RE.v (Y s.rs)).rv (O.add (.r (gz (.ins (.ref G) n (M.cells++X.cells)) O)))=gz (.ins (.ref G) n (M.cells++X.cells)) O:=by
  simp[RE.rv,aa.rv,aa.add,<-R.er]
 rw[Ds,ch] at R2;refine⟨W.putObj (ad V i) (ow ((gz (.ins (.ref G) n (M.cells++X.cells)) O).rows.map (uw n L H.d.isAgg))), ?_, ?_, ?_⟩;simp only[SV.den,bg];rw[a9,a0];rfl;have:=R2.put d (.bH []);exact this;exact bF.put (s:=s) (s':={s with rs:=s.rs++[RK.mr ⟨k,e,n,L,H.d.isAgg⟩],boxes:=s.boxes.set i (U (ul,[.ref (.v (Y s.rs)),.int I (.c n),.bool (.c L),.bool (.c H.d.isAgg)]))}) ⟨pW _ _ _ _,λj hj=>(nT (aIz.1 (i8.1 b)).1).2 (.inr hj),by simp,aIG _⟩ d _;cases h;cases h;split at h;rename_i an;simp only[aIy,beq_iff_eq,aIR] at an;obtain⟨⟨rfl,rfl⟩,rfl⟩:=an;split at h;rename_i Q N b0;split at h;cases h;rename_i cl;cases h;rw[Dt] at al;obtain⟨p1,p2⟩:=Je (O:=O) (V:=V) b0;rw[p1] at al;have a9:=ajR (P:=P) hd m al a4 (λp hp=>by
  obtain⟨u,hu,rfl⟩:=aI3.1 hp;exact⟨[u.1],rfl,rfl⟩) (X.den O V)
 have a0:∀(N:bi)(o:ah),¬N.contains Q=J->Y N=Y o->xV [Q] (fW E [Q],X.den O V) ((N.zip o).map λp=>(.int I p.1,p.2.den O V))=((N.zip o).map λp=>(.int I p.1,p.2.den O V))++[(.int I Q,X.den O V)]:=by
  intro N;induction N with
  |nil=>intro o _ _;simp[xV,fW]
  |cons y ys ih=>
   intro o hc hl;cases o with
   |nil=>simp at hl
   |cons u us=>
    have cp:¬y=Q:=by
     intro e;subst e;simp at hc
    have ct:¬ys.contains Q=true:=by
     intro e;simp at e hc;exact hc.2 e
    have:=ih us ct (by simpa using hl);simp only[aKz,aIP,xV,wa,aJH,and_true,cp,if_false,this,aIF]
 have bd:∀cc tt ff,kA sL (SV.cL O V B)≠ .cells cc tt ff:=by
  intro cc tt ff hx;rw[Dt] at hx;cases hx
 have R2:=R.aaC (cs':=B++[.int I (.c Q),X]) b bd;have cv:∀(l:ah)(N:bi),o7 l=U N->BD (SV.aA O V (l++[.int I (.c Q),X]))=BD (SV.aA O V l)++[(.int I Q,X.den O V)]:=by
  intro l;induction l using o7.induct with
  |case1=>intro N _;rfl
  |case2 k u r ih=>
   intro N C;simp only[o7] at C;cases z:o7 r with
   |none=>rw[z] at C;cases C
   |some cx=>
    have:=ih cx z;simp only[aIF,SV.aA,BD] at this⊢;rw[this]
  |case3 l h1 h2=>intro N C;unfold o7 at C;split at C<;>first|(exact absurd rfl h1)|(exact absurd rfl (h2 _ _ _))|cases C
 rw[Dt,cv B N b0,p1] at R2;refine⟨W.putObj (ad V i) (ow ((N.zip (kO B)).map (λp=>(Value.int I p.1,p.2.den O V))++[(Value.int I Q,X.den O V)])), ?_,R2.put d (.bH []), ?_⟩;simp only[SV.den,bg];rw[a9];have:[(IE.c Q).den O,xb.den O,xc.den O].take 1=[Q]:=rfl;rw[this,a0 N _ cl p2];exact bF.put (s:=s) (s':=s.ck i sL (B++[.int I (.c Q),X])) ⟨mb.refl _ _ _,λj hj=>(nT (aIz.1 (i8.1 b)).1).2 (.inr hj),by simp[S.ck],aIG _⟩ d _;cases h;cases h;cases h;cases h
end
section
variable{g:ai}{B:World}{D:bQ}{P:Program}{f:bz}{V:ai}{O:aa}{s:S}{a:Act}{W:World}
def aaF{X:Ty}{s:S}{n:Nat}:∀r:RE,r.kind X {s with ni:=n}=r.kind X s
 |.v k=>rfl
 |.cell r i j k=>by simp only[RE.kind,aaF r]
 |.k v=>by cases v<;>rfl
def Js(R:av g B D f.ty V O s a W){Q:Sh}{r:RE}(h:r.oZ f.ty s Q=J):lenOf (r.rv O).val=(r.rv O).rows.length:=by
 unfold RE.oZ at h;rcases aLm.1 h with h|h;have X:=pV R (by simp) (of_decide_eq_true h);generalize r.rv O=N at X;cases X;rfl;unfold RE.nil at h;split at h;simp[RE.rv,lenOf];cases h
def awP(R:av g B D f.ty V O s a W){k e:TypeId}{n:Nat}{H:Bool}{G:TI}{i:Nat}{c:IE}(h:ZF f s k e n H G i=U c):∃l,W.heap[ad V i]?=U (ow l)/\(Y l:Int)=c.den O:=by
 unfold ZF at h;split at h;rename_i F N C;have X:=R.mem.box i F N C;split at h;rename_i Q;simp only[beq_iff_eq] at Q;subst Q;cases M:FN f s k e n H G N with
 |none=>rw[M] at h;cases h
 |some r=>
  rw[M] at h;cases h;obtain⟨rfl,A,x⟩:=SN M;rw[Ds] at X;exact⟨_,X,by simp[IE.den,Js R A]⟩
 split at h;rename_i Q;simp only[aIy,beq_iff_eq,aIR] at Q;obtain⟨⟨rfl,rfl⟩,rfl⟩:=Q;cases L:o7 N with
 |none=>rw[L] at h;cases h
 |some w=>
  rw[L] at h;cases h;rw[Dt] at X;obtain⟨z,y⟩:=Je (O:=O) (V:=V) L;rw[z] at X;exact⟨_,X,by simp[IE.den,y]⟩
 cases h;cases h
def NC{t:Int}{c:IE}{R:RE}:kA vL (SV.cL O V [.mp X,.int I (.c t),.int I c,.ref R])=.mapIter (U (ad V X)) (c.den O).toNat ((R.rv O).rows.map nR).toArray (c.den O).toNat:=by
 simp[kA,vL,ul,sL,SV.cL,SV.gr,SV.den,aiX]
def awQ(X:av g B D f.ty V O s a W)(G:iu P f.ty){Q:Operand}(F:r.o.op=.range x Q)(C:a.eval Q=(s.ev f.gl Q).den O V)(h:RN f r.o.dst s x (s.ev f.gl Q)=U R):
  ∃v N M,rz P r.o a W v N/\av g B D f.ty M O R (a.put r.o.dst v) N/\bF s O V R O M:=by
 unfold RN at h;split at h;rename_i k e n ag ae q i A z;have y:P.underlying x=U (.map k e):=(G _ _ A).desc;split at h;rename_i te an;split at h;rename_i c w;split at h;rename_i L;simp only[aIy] at L;obtain⟨⟨u,p⟩,j⟩:=L;cases h;obtain⟨l,d,b⟩:=awP X w;have af:SV.da s.ni s.nb (Y s.rs) (aL s.boxes) [.mp i,.int I (.c (x:Int)),.int I c,.ref (.k (.slice Z 0 0))]=true:=by
  simp[SV.gI,SV.aS,RE.aS,IE.aS,j,p]
 obtain⟨H,L1⟩:=X.xG u (t:=vL) af;rw[NC,<-b] at H;have al:=run_range_map (P:=P) W x k e (ad V i) _ _ y d;refine⟨.pointer (U ⟨W.heap.size,0,Z⟩),W.alloc (.mapIter (U (ad V i)) (Y l) #[] (Y l)),V++[W.heap.size],.inl ?_, ?_,L1.put _ _⟩;simp only[execOp,F,C,z,SV.den,Sem.run_bind,al,Result.andThen_ok,Sem.run_pure];have:=H.put r.o.dst (.loc (Y s.boxes) 0);have ha:ad (V++[W.heap.size]) (Y s.boxes)=W.heap.size:=by simp[ad,<-X.fH]
 rw[SV.den,ha] at this;simpa[RE.rv] using this;cases h;cases h;cases h;cases h
def aaG:∀{l:qU}{m:Nat}{e:MapEntry},e∈fy m l->∃(j:Nat)(p:Value×Value),l[j]?=U p/\e=⟨p.1,p.2,m+j⟩
 |[],m,e,h=>by simp[fy] at h
 |x::r,m,e,h=>by
  simp only[fy,aIK] at h;rcases h with rfl|h;exact⟨0,x,rfl,rfl⟩;obtain⟨j,p,X,R⟩:=aaG h;exact⟨j+1,p,by simpa using X,by rw[R];congr 1;omega⟩
def aaH:∀{l:qU}{m j:Nat}{p:Value×Value},l[j]?=U p->(⟨p.1,p.2,m+j⟩:MapEntry)∈fy m l
 |[],m,j,p,h=>by simp at h
 |x::r,m,0,p,h=>by simp at h;subst h;simp[fy]
 |x::r,m,j+1,p,h=>by
  have:=aaH (m:=m+1) (l:=r) (j:=j) (p:=p) (by simpa using h);simp only[fy,aIK];right
  rwa [show m+(j+1)=m+1+j by omega]
def ajZ:∀(n:Nat)(l:ai),(∀j,j<n->j∈l)->n<=Y l
 |0,_,_=>aKG _
 |n+1,l,h=>by
  have X:=h n (by omega);have:=ajZ n (l.erase n) (λj R=>(aLi (by omega)).2 (h j (by omega)));rw[aK2 X] at this;have:0<Y l:=aLN X;omega
def Jt(R:FO f=J):bq f.ty (.mr (vR f))=[.int I]:=by
 simp only[FO,aIy,aLz] at R;obtain⟨X,N⟩:=R;unfold qW at X;split at X;rename_i tk M;simp only[aIy,beq_iff_eq] at X;obtain⟨c,Q⟩:=aI2.1 X.1.1;have:=X.1.2;rw[Q] at this;simp only[aKv,List.all_nil,aKw] at this;unfold Zz at this;split at this;simp[bq,vR,M,N,Q];cases this;cases X
def aaI(X:FO f=J){R:aH}(h:F8 f.ty (vR f) R):∃x,R=[.mk (.int I x) []]:=by
 have Q:=h.len;rw[Jt X] at Q;obtain⟨c,rfl⟩:=aI2.1 Q;obtain⟨x,N⟩:=h.int 0 c I rfl (by rw[Jt X];rfl);exact⟨x,by rw[N]⟩
def awR(Q:FO f=J)(x:Int):F8 f.ty (vR f) [.mk (.int I x) []]:=by
 refine⟨by rw[Jt Q];rfl,λj c k R X=> ?_,λj c R X=> ?_⟩;rw[Jt Q] at X;cases j with
 |zero=>simp at R X;subst R X;exact⟨x,rfl⟩
 |succ j=>simp at R
 rw[Jt Q] at X;cases j with
 |zero=>simp at X
 |succ j=>simp at R
def SP{r:RE}{B:IE}{R:aH}(L:(r.rv O).rows[(B.den O).toNat]?=U R):∀{ae:dS}{j:Nat},ae.all lw=J->Y R=j+Y ae->
  (∀(i:Nat)(k:IntKind),ae[i]?=U (.int k)->∃m,R[j+i]?=U (.mk (.int k m) []))->(∀(i:Nat),ae[i]?=U .bool->∃m,R[j+i]?=U (.mk (.bool m) []))->
  SV.aA O V (sP r B j ae)=(R.drop j).map RV.val
 |[],j,_,Q,_,_=>by rw[aK6 (by simp at Q;omega)];rfl
 |.int k::ae,j,N,Q,H,G=>by
  obtain⟨m,X⟩:=H 0 k rfl;have F:=SP L (ae:=ae) (j:=j+1) (by simpa[lw] using N) (by simp at Q⊢;omega) (λi k h=>by have:=H (i+1) k (by simpa using h);rwa [show j+(i+1)=j+1+i by omega] at this) (λi h=>by have:=G (i+1) (by simpa using h);rwa [show j+(i+1)=j+1+i by omega] at this);have C:R.drop j=.mk (.int k m) []::R.drop (j+1):=by
   rw[aJU] at X;have M:=(aIz.1 X).1;rw[aJw M];congr 1;rw[aIA M] at X;simpa using X
  rw[aJU] at X;simp only[sP,Dc,SV.aA,SV.den,IE.den,cellAt,F,C,aIP,RV.lZ,aIC,L,X,aJd,bB]
 |.bool::ae,j,N,Q,H,G=>by
  obtain⟨m,X⟩:=G 0 rfl;have F:=SP L (ae:=ae) (j:=j+1) (by simpa[lw] using N) (by simp at Q⊢;omega) (λi k h=>by have:=H (i+1) k (by simpa using h);rwa [show j+(i+1)=j+1+i by omega] at this) (λi h=>by have:=G (i+1) (by simpa using h);rwa [show j+(i+1)=j+1+i by omega] at this);have C:R.drop j=.mk (.bool m) []::R.drop (j+1):=by
   rw[aJU] at X;have M:=(aIz.1 X).1;rw[aJw M];congr 1;rw[aIA M] at X;simpa using X
  rw[aJU] at X;simp only[sP,Dc,SV.aA,SV.den,BE.den,cellAt,F,C,aIP,RV.lZ,aIC,L,X,aJd,fG]
 |.aI _ _::ae,j,N,_,_,_=>by simp[lw] at N
def aaJ{r:RE}{X:IE}:∀{ae:dS}{j:Nat},(sP r X j ae).length=Y ae
 |[],j=>rfl
 |c::ae,j=>by simp[sP,aaJ (ae:=ae)]
def aj0{r:RE}{N:IE}{R:aH}(G:(r.rv O).rows[(N.den O).toNat]?=U R)(M:h=E->X=1)(F:Dr X R):(II r N X h).den O V=pg h (R.take X):=by
 obtain⟨l,C,L⟩:=F;have B:(R.take X).length=X:=by rw[L];simpa using C
 have A:SV.aA O V ((aI5 X).map λj=>.int I (.cell r N j))=(R.take X).map RV.val:=by
  rw[nQ,aJo];apply aI0;intro j;rw[aIE,aIE];by_cases H:j<X;rw[aJ1 H];have z:j<Y l:=by omega
  have Q:(R.take X)[j]?=U (.mk (.int I l[j]) []):=by rw[L,aIE,aIA z];rfl
  have y:R[j]?=U (.mk (.int I l[j]) []):=by rw[aI6,if_pos H] at Q;exact Q
  simp[Q,SV.den,IE.den,cellAt,G,y,bB];rw[aIT (by simp;omega),aIT (by omega)];rfl
 rw[II,BJ (λx=>by simpa using M x),A,pg];cases h;obtain⟨c,Q⟩:=aI2.1 (B.trans (M rfl));rw[Q];rfl;rfl
def awS{rs:RE}{je:IE}{j:Int}(N:je.den O=j)(h:∀R∈(rs.rv O).rows,∀x,R=[.mk (.int I x) []]->x≠j)(Q:∀R∈(rs.rv O).rows,∃x,R=[RV.mk (.int I x) []]):(RO rs je).den O=J/\∀r∈(rs.rv O).rows,mU 1 [j] r=false:=by
 have M:∀r∈(rs.rv O).rows,∀b c,mU 1 [j,b,c] r=false:=by
  intro r X b c;obtain⟨x,rfl⟩:=Q r X;have:=h _ X x rfl;simp[mU,bB,this]
 constructor;simp only[RO,BE.den,N,IE.den,aIR,mV];rw[List.find?_eq_none.2 (λr X=>by simp[M r X])];rfl;intro r X;obtain⟨x,rfl⟩:=Q r X;have:=h _ X x rfl;simp[mU,bB,this]
def aj1(G:FO f=J)(R:av g B D f.ty V O s a W)(A:s.bd=J){d:bR}{i t:Nat}{c:IE}{Q:RE}(z:bU s.boxes X=U (vL,[.mp i,.int I (.c (t:Int)),.int I c,.ref Q]))(k:Q.oZ f.ty s (vR f)=J)
  {N:IE}{j:Nat}(y:N.den O=j)(b:¬((Q.rv O).rows.map nR).contains j=J){kv v:SV}{key val:Value}
  (af:∀F,kv.den (O.add (.r F)) V=key)(hv:∀F,v.den (O.add (.r F)) V=val):
  (RO Q N).den O=J/\av g B D f.ty V (O.add (.r (gz (.ins (.ref Q) 1 [.int I N]) O))) (ZG f d s X s.ni i t c kv v) (a.put d (.tuple #[.bool J,key,val])) (W.putObj (ad V X) (.mapIter (U (ad V i)) (c.den O).toNat (((Q.rv O).rows.map nR).toArray.push j) (c.den O).toNat)):=by
 have w:=F9 R k;have ht:∀L∈(Q.rv O).rows,∃x,L=[RV.mk (.int I x) []]:=λL H=>aaI G (w L H)
 obtain⟨u1,u2⟩:=awS (O:=O) (rs:=Q) (je:=N) y (λL H x M=>by
  intro e;apply b;simp only[aI9,aI3];refine⟨L,H, ?_⟩;subst M;simp[nR,bB,e]) ht
 refine⟨u1, ?_⟩;have hh:bu W f.ty (.mr (vR f)) (gz (.ins (.ref Q) 1 [.int I N]) O):=by
  refine ajV (λL u=> ?_) (λx M=>by rw[Jt G] at M;simp at M;subst M;rfl);simp only[LE.rows,aIP,aJ7,SV.bN] at u;rcases aaD u with rfl|h;exact awR G _;exact w L h
 have ag:(gz (.ins (.ref Q) 1 [.int I N]) O).rows=(Q.rv O).rows++[[.mk (.int I j) []]]:=by
  simp only[gz,RV.lA,LE.rows,aIP,aJ7,SV.bN,y];refine ajW λr H=> ?_
  simpa[bB] using u2 r H
 have R1:=R.ajU A hh;have al:∀p o n,kA vL (SV.cL (O.add (.r (gz (.ins (.ref Q) 1 [.int I N]) O))) V [.mp i,.int I (.c (t:Int)),.int I c,.ref Q])≠ .cells p o n:=by
  intro p o n M;rw[NC] at M;cases M
 have C:=R1.aaC (cs':=[.mp i,.int I (.c (t:Int)),.int I c,.ref (.v (Y s.rs))]) (i:=X) z al;have an:(RE.v (Y s.rs)).rv (O.add (.r (gz (.ins (.ref Q) 1 [.int I N]) O)))=gz (.ins (.ref Q) 1 [.int I N]) O:=by
  simp[RE.rv,aa.rv,aa.add,<-R.er]
 obtain⟨bb,a0⟩:=R.xQ A;have m:=rp a0 z;simp only[SV.gI,SV.aS,aIy] at m;have a1:c.den (O.add (.r (gz (.ins (.ref Q) 1 [.int I N]) O)))=c.den O:=IE.dg (pW s.boxes O (.r (gz (.ins (.ref Q) 1 [.int I N]) O)) V).agree _ m.2.2.1;rw[NC,an,ag,a1] at C;have a3:((Q.rv O).rows++[[RV.mk (.int I (j:Int)) []]]).map nR=(Q.rv O).rows.map nR++[j]:=by simp[nR,bB]
 rw[a3] at C;have l:=C.put d (.bH [.bool (.c J),kv,v]);have a4:(SV.bH [.bool (.c J),kv,v]).den (O.add (.r (gz (.ins (.ref Q) 1 [.int I N]) O))) V=.tuple #[.bool J,key,val]:=by
  simp only[SV.den,SV.aA,af,hv,BE.den]
 rw[a4] at l;have a9:((Q.rv O).rows.map nR).toArray.push j=((Q.rv O).rows.map nR++[j]).toArray:=by simp
 rw[a9];exact l
def aj2{X:Type}:∀{l:List X}{m j:Nat},dL ((m+j:Nat):Int) ((aJV m (Y l)).map λ(i:Nat)=>(i:Int)) l=l[j]?
 |[],m,j=>by simp[dL]
 |x::l,m,j=>by
  simp only[aJm,aKP,aIP,dL];cases j with
  |zero=>simp
  |succ j=>
   rw[if_neg (by omega),show m+(j+1)=m+1+j by omega,aj2];simp
def aj3{R:Type}{l:List R}{j:Nat}(h:X=Y l):dL (j:Int) (Bm X) l=l[j]?:=by
 have:=aj2 (l:=l) (m:=0) (j:=j);rw[aI8] at this;rw[Bm,h,aKq];exact this
def awT(h:v.den N V=v.den O V):SV.aA N V v.cells=SV.aA O V v.cells:=by
 cases v
 case agg l=>simp only[SV.den,Value.agg.injEq] at h;simpa[SV.cells] using h
 all_goals simp only[SV.cells,SV.aA,h]
def aj4(R:av g B D f.ty V O s a W){N:TI}(F:dV P x N){X:IE}{M:bi}{Q:SV}(h:RP N X M e=U (v,Q))(C:Y M=Y e){O':aa}{j:Nat}(L:X.den O'=j){k:Int}{u:SV}(A:M[j]?=U k)(H:e[j]?=U u)(t:u.den O' V=u.den O V):
  v.den O' V=.int I k/\Q.den O' V=u.den O V:=by
 unfold RP at h;split at h;rename_i r;split at h;rename_i y l q p;cases h;constructor;obtain⟨w,o,n,-⟩:=Z9 (O:=O') q;obtain⟨k',z,m,rfl⟩:=n (.int I (.c k)) (by rw[L,aj3 (by simp),aIE,A];rfl);cases m;simp only[SV.den,o,IE.den];obtain⟨i,b,s2⟩:=Ss (O:=O') (V:=V) p;have G:=aIN.1 r u (aIW H);have af:Y u.cells=0+Y N.ae:=by
  simp only[zp,aIy,beq_iff_eq] at G;omega
 have ag:N.d.isAgg=E->Y l=1:=λha=>by rw[i];exact zJ F ha
 rw[BJ ag,b u.cells (by rw[L,aj3 (by simp[C]),aIE,H];rfl) af,aLR,awT t,Su (uy R) G];cases h;cases h
def aj5:∀{l:qU}{m:Nat},(fy m l).map (·.born)=aJV m (Y l)
 |[],m=>rfl
 |x::r,m=>by simp[fy,aj5 (l:=r),aKP]
def awU{p:Sp}{L:cV}(hP:p.P=P)(R:av g B D f.ty V O s a W)(an:iu P f.ty){x:Operand}(ho:r.o.op=.next x E)(he:a.eval x=(s.ev f.gl x).den O V){b0 bg:S->T}{t:T}(h:ZH f r.o.dst s (s.ev f.gl x) b0 bg=U t)(hs:t.aQ p O L):
  ∃v W' z w,rz P r.o a W v W'/\av g B D f.ty V z w (a.put r.o.dst v) W'/\bF s O V w z V/\((z=O/\(bg w).aQ p O L)\/(b0 w).aQ p z L):=by
 unfold ZH at h;split at h;rename_i q hx;split at h;rename_i bt i tz c C hq;split at h;cases h;rename_i cl;simp only[aIR,aJY,aIy,beq_iff_eq,decide_eq_true_eq] at cl;obtain⟨⟨⟨⟨⟨rfl,b1⟩,bk⟩,hb⟩,cp⟩,d1⟩:=cl;obtain⟨tn,rfl⟩:∃tn:Nat,tz=(tn:Int):=⟨tz.toNat,by omega⟩;simp only[aJ0] at h;have b2:=R.mem.box _ _ _ hq;rw[NC] at b2;have c2:=F9 R bk;have d2:∀G∈(C.rv O).rows,∃x,G=[RV.mk (.int I x) []]:=λG hr=>aaI b1 (c2 G hr)
 obtain⟨d3,b3⟩:=R.xQ hb;split at h;rename_i k e n ag ae qq d4 c3 cs cv;have hd:P.underlying tn=U (.map k e):=(an _ _ cs).desc;have hK:s5 P k n ag:=(an _ _ cs).key k e n ag rfl;split at h;rename_i H a0;split at h;cases h;rename_i bl;have bl:qW f.ty k n ag=true:=by simpa using bl
 have a3:=R.mem.box _ _ _ cv;have br:=rp b3 cv;have model:∀(l:qU),W.heap[ad V i]?=U (ow l)->(Y l:Int)=c.den O->
   (c.den O<=lenOf (C.rv O).val/\rz P r.o a W (.tuple #[.bool E]) W)\/
   ∃(j:Nat)(kv:Value×Value)(F:World),l[j]?=U kv/\¬((C.rv O).rows.map nR).contains j=J/\(F=W\/F=W.drew)/\rz P r.o a W (.tuple #[.bool J,kv.1,kv.2]) (F.putObj (ad V q) (.mapIter (U (ad V i)) (c.den O).toNat (((C.rv O).rows.map nR).toArray.push j) (c.den O).toNat)):=by
  intro l hl b4;have hN:(c.den O).toNat=Y l:=by omega
  rw[hN] at b2⊢;rcases run_next_at (P:=P) W r.o.type (ad V q) (ad V i) (Y l) (Y l) _ _ _ b2 hl (λy hy=>by
   obtain⟨j,p,h1,h2⟩:=aaG (by simpa using hy);rw[h2];have:=(aIz.1 h1).1;simpa using this) (aIG _) with⟨h0,hr⟩|⟨en,b5,F,c4,hr⟩
  left;refine⟨?_,.inl ?_⟩;rw[Js R bk,<-b4];have:=ajZ (Y l) ((C.rv O).rows.map nR) (λj hj=>by
   cases A:((C.rv O).rows.map nR).contains j with
   |true=>exact aI9.1 A
   |false=>
    exfalso;have c6:=aaH (m:=0) (aIA hj);have:(⟨(l[j]).1,(l[j]).2,0+j⟩:MapEntry)∈(leftOf (fy 0 l).toArray ((C.rv O).rows.map nR).toArray):=by
     unfold leftOf;rw[aMh];refine⟨by simpa using c6, ?_⟩;simp only[aI8,aIR];rw[<-A];simp
    have d5:=Array.size_pos_of_mem this;omega)
  simpa using this;simp only[execOp,ho,he,hx,SV.den,Sem.run_bind,hr,Result.andThen_ok,Sem.run_pure];right;unfold leftOf at b5;rw[Array.mem_toList_iff,aMh] at b5;obtain⟨c7,cx⟩:=b5;obtain⟨j,kv,hj,rfl⟩:=aaG (by simpa using c7);simp only[aI8] at cx hr;refine⟨j,kv,F,hj, ?_,c4,.inl ?_⟩;simpa using cx;simp only[execOp,ho,he,hx,SV.den,Sem.run_bind,hr,Result.andThen_ok,Sem.run_pure,awN]
 have cy:(W=W)->(c.den O<=lenOf (C.rv O).val)->rz P r.o a W (.tuple #[.bool E]) W->(bg (s.put r.o.dst (.bH [.bool (.c E)]))).aQ p O L->∃v W' z w,rz P r.o a W v W'/\av g B D f.ty V z w (a.put r.o.dst v) W'/\bF s O V w z V/\((z=O/\(bg w).aQ p O L)\/(b0 w).aQ p z L):=by
  intro _ _ c8 c9;have:=R.put r.o.dst (.bH [.bool (.c E)]);exact⟨_,W,O,_,c8,this,(bF.refl _ _ _).put _ _,.inl ⟨rfl,c9⟩⟩
 have cA:∀F,(F=W\/F=W.drew)->av g B D f.ty V O s a F:=by
  rintro F (rfl|rfl);exact R;exact R.drew
 split at h
 
 rename_i a4;simp only[beq_iff_eq] at a4;subst a4;split at h;rename_i X hr;split at h;rename_i bs;simp only[aIy] at bs;cases h;obtain⟨rfl,c1,c5⟩:=SN hr;rw[Ds] at a3;have b6:c.den O=((X.rv O).rows.length:Int):=by
  have:=IE.bI _ _ bs.1;rw[this,IE.den,Js R c1]
 have cB:=F9 R c1;simp only[RQ,T.aQ] at hs;rcases model _ a3 (by rw[b6];simp) with⟨N,g2⟩|⟨j,kv,F,N,g2,g3,g4⟩;exact cy rfl N g2 (hs.2 (decide_eq_true N))
 ·rw[aIE] at N;cases a9:(X.rv O).rows[j]? with
  |none=>rw[a9] at N;cases N
  |some G=>
  rw[a9] at N;simp only[aII,aID] at N;have dc:=(aIz.1 a9).1;have cC:=aIW a9;have dd:=Jd bl a0 (cB G cC);have b7:=hs.1 (j:Int) (by omega) (by omega);have R1:=(cA F g3).ajT hb (j:Int);have af:=(pW s.boxes O (.i (j:Int)) V).agree;simp only[SV.gI,SV.aS,aIy] at br;have al:=rp b3 hq;simp only[SV.gI,SV.aS,aIy] at al;have bb:C.rv (O.add (.i (j:Int)))=C.rv O:=RE.pU af _ al.2.2.2.1;have b8:c.den (O.add (.i (j:Int)))=c.den O:=IE.dg af _ al.2.2.1;have bf:(IE.v s.ni).den (O.add (.i (j:Int)))=(j:Int):=by simp[IE.den,aa.add,<-R.ei]
  have df:∀Q,(IE.v s.ni).den ((O.add (.i (j:Int))).add (.r Q))=(j:Int):=λQ=>bf
  have dk:∀Q,X.rv ((O.add (.i (j:Int))).add (.r Q))=X.rv O:=λQ=>by
   have a1:=RE.pU af _ br.1;have ca:=(pW s.boxes (O.add (.i (j:Int))) (.r Q) V).agree;have a2:=RE.pU (ca.mono (by simp[aa.add]) (aIG _) (aIG _)) X br.1;rw[a2,a1]
  have cD:∀Q,(X.rv ((O.add (.i (j:Int))).add (.r Q))).rows[((IE.v s.ni).den ((O.add (.i (j:Int))).add (.r Q))).toNat]?=U G:=λQ=>by
   rw[dk,df];simpa using a9
  obtain⟨kc,r1,r2,r3⟩:=Jc (va:=H.d.isAgg) bl a0;have cc:=cB G cC;have b4:Y G=n+Y H.ae:=by rw[cc.len,r1,aIO,r2]
  have cI:∀(M:Nat)(ct:CT),H.ae[M]?=U ct->(bq f.ty (.mr ⟨k,e,n,ag,H.d.isAgg⟩))[n+M]?=U ct:=λM ct hm=>by
   rw[r1,aIH (by omega),r2,show n+M-n=M by omega];exact hm
  have cO:∀(M:Nat)(ct:CT),H.ae[M]?=U ct->∃c,G[n+M]?=U c:=λM ct hm=>by
   have:M<Y H.ae:=(aIz.1 hm).1;exact⟨G[n+M]'(by omega),aIA _⟩
  have dn:H.d.isAgg=E->(sP X (.v s.ni) n H.ae).length=1:=λha=>by rw[aaJ];exact zJ (an _ _ a0) ha
  have dr:∀Q,(qV H.d.isAgg (sP X (.v s.ni) n H.ae)).den ((O.add (.i (j:Int))).add (.r Q)) V=pg H.d.isAgg (G.drop n):=λQ=>by
   rw[BJ dn,SP (cD Q) c5 b4 (λM kk hm=>by
    obtain⟨c,A⟩:=cO M _ hm;obtain⟨x',ch⟩:=cc.int (n+M) c kk A (cI M _ hm);exact⟨x',by rw[A,ch]⟩) (λM hm=>by
    obtain⟨c,A⟩:=cO M _ hm;obtain⟨x',ch⟩:=cc.bool (n+M) c A (cI M _ hm);exact⟨x',by rw[A,ch]⟩),pg]
   cases ds:H.d.isAgg;have h1:=zJ (an _ _ a0) ds;obtain⟨c,A⟩:=aI2.1 (show(G.drop n).length=1 by simp;omega);rw[A];rfl;rfl
  obtain⟨u1,u2⟩:=aj1 (d:=r.o.dst) (s:={s with ni:=s.ni+1}) (kv:=II X (.v s.ni) n ag) (v:=qV H.d.isAgg (sP X (.v s.ni) n H.ae)) (key:=pg ag (G.take n)) (val:=pg H.d.isAgg (G.drop n)) b1 R1 cp hq (by simpa only[RE.oZ,aaF] using bk) bf (by rw[bb];exact g2) (λQ=>aj0 (cD Q) hK.1 dd) dr;rw[bb,b8] at u2;subst N;refine⟨_,_,_,_,g4,u2, ?_,.inr ?_⟩;refine bF.put (s:=s) (s':={s with ni:=s.ni+1,rs:=s.rs++[RK.mr (vR f)],boxes:=s.boxes.set q _}) ⟨(pW s.boxes O (.i (j:Int)) V).trans (pW s.boxes _ _ V) (λ_ h=>h),λj hj=>(nT (aIz.1 (i8.1 hq)).1).2 (.inr hj),by simp,aIG _⟩ _ _;exact b7 u1
 cases h;cases h;split at h
 
 rename_i a4;simp only[aIy,beq_iff_eq,aIR] at a4;obtain⟨⟨rfl,rfl⟩,rfl⟩:=a4;split at h;rename_i ks dx;split at h;rename_i bs;split at h;rename_i dy v0 dz;cases h;rw[Dt] at a3;obtain⟨p1,p2⟩:=Je (O:=O) (V:=V) dx;rw[p1] at a3;have b6:c.den O=(Y ks:Int):=by
  have:=IE.bI _ _ bs;rw[this,IE.den]
 simp only[RQ,T.aQ] at hs;rcases model _ a3 (by rw[b6];simp[p2]) with⟨N,g2⟩|⟨j,kv,F,N,g2,g3,g4⟩;exact cy rfl N g2 (hs.2 (decide_eq_true N))
 ·rw[aIE] at N;cases hz:(ks.zip (kO c3))[j]? with
  |none=>rw[hz] at N;cases N
  |some kp=>
  rw[hz] at N;simp only[aII,aID] at N;obtain⟨z1,z2⟩:=aKY.1 hz;have dT:∀{l:ah}{jj:Nat}{u:SV},SV.da (Y O.i) (Y O.b) (Y O.r) (aL s.boxes) l=J->(kO l)[jj]?=U u->u.bd (Y O.i) (Y O.b) (Y O.r) (aL s.boxes)=true:=by
   intro l;induction l using kO.induct with
   |case1 k v X ih=>
    intro jj u bx hu;simp only[SV.gI,aIy] at bx;simp only[kO] at hu;cases jj with
    |zero=>simp at hu;subst hu;exact bx.2.1
    |succ jj=>exact ih bx.2.2 (by simpa using hu)
   |case2 l h1=>
    intro jj u bx hu;unfold kO at hu;split at hu;exact absurd rfl (h1 _ _ _);simp at hu
  have dc:j<Y ks:=(aIz.1 z1).1;have b7:=hs.1 (j:Int) (by omega) (by omega);have R1:=(cA F g3).ajT hb (j:Int);have af:=(pW s.boxes O (.i (j:Int)) V).agree;have al:=rp b3 hq;simp only[SV.gI,SV.aS,aIy] at al;have bb:C.rv (O.add (.i (j:Int)))=C.rv O:=RE.pU af _ al.2.2.2.1;have b8:c.den (O.add (.i (j:Int)))=c.den O:=IE.dg af _ al.2.2.1;have bf:(IE.v s.ni).den (O.add (.i (j:Int)))=(j:Int):=by simp[IE.den,aa.add,<-R.ei]
  have cW:=dT br z2;have d0:∀Q,kp.2.den ((O.add (.i (j:Int))).add (.r Q)) V=kp.2.den O V:=λQ=>by
   have ca:=(pW s.boxes (O.add (.i (j:Int))) (.r Q) V).agree;rw[SV.dg (ca.mono (by simp[aa.add]) (aIG _) (aIG _)) (λ_ _=>rfl) _ cW,SV.dg af (λ_ _=>rfl) _ cW]
  have c0:=λQ=>aj4 R (an _ _ a0) dz p2 (O':=(O.add (.i (j:Int))).add (.r Q)) (j:=j) bf z1 z2 (d0 Q)
  obtain⟨u1,u2⟩:=aj1 (d:=r.o.dst) (s:={s with ni:=s.ni+1}) (kv:=dy) (v:=v0) (key:=.int I kp.1) (val:=kp.2.den O V) b1 R1 cp hq (by simpa only[RE.oZ,aaF] using bk) bf (by rw[bb];exact g2) (λQ=>(c0 Q).1) (λQ=>(c0 Q).2);rw[bb,b8] at u2;subst N;refine⟨_,_,_,_,g4,u2, ?_,.inr ?_⟩;refine bF.put (s:=s) (s':={s with ni:=s.ni+1,rs:=s.rs++[RK.mr (vR f)],boxes:=s.boxes.set q _}) ⟨(pW s.boxes O (.i (j:Int)) V).trans (pW s.boxes _ _ V) (λ_ h=>h),λj hj=>(nT (aIz.1 (i8.1 hq)).1).2 (.inr hj),by simp,aIG _⟩ _ _;exact b7 u1
 cases h;cases h;cases h;cases h;cases h;cases h;cases h;cases h
def awV{p:Sp}{L:cV}(R:av g B D f.ty V O s a W)(u:iu P f.ty){x:Operand}(ho:r.o.op=.entry x)(he:a.eval x=(s.ev f.gl x).den O V){bs:S->T}{t:T}(h:ZJ f r.o.dst s (s.ev f.gl x) bs=U t)(A:t.aQ p O L):
  ∃v s',rz P r.o a W v W/\av g B D f.ty V O s' (a.put r.o.dst v) W/\bF s O V s' O V/\(bs s').aQ p O L:=by
 unfold ZJ at h;split at h;rename_i q hx;split at h;rename_i bt i tz c N hq;split at h;cases h;rename_i bx;simp only[aIR,aJY,aIy,beq_iff_eq,decide_eq_true_eq] at bx;obtain⟨⟨⟨⟨rfl,cc⟩,bb⟩,hb⟩,c3⟩:=bx;obtain⟨tn,rfl⟩:∃tn:Nat,tz=(tn:Int):=⟨tz.toNat,by omega⟩;simp only[aJ0] at h;have a1:=R.mem.box _ _ _ hq;rw[NC] at a1;have ch:=F9 R bb;have model:∀(l:qU),W.heap[ad V i]?=U (ow l)->(Y l:Int)=c.den O->(ZI c N).den O=J->
   ∃(j:Nat)(b:Value×Value),l[j]?=U b/\(ut N).den O=j/\rz P r.o a W (.tuple #[b.1,b.2]) W:=by
  intro l hl b0 cl;obtain⟨bd,cp⟩:=zP cl;obtain⟨bd,cs⟩:=zP bd;have h1:=xU bd;have h2:=SF cs;obtain⟨h3,h4⟩:=zP cp;have h3:=xU h3;rw[BH] at h4;have h4:(ut N).den O<c.den O:=by simpa[gg] using h4
  simp only[IE.den] at h1 h2 h3;rw[Js R bb] at h1 h2;have hN:(c.den O).toNat=Y l:=by omega
  rw[hN] at a1;obtain⟨af,bf,a3⟩:∃af bf,(N.rv O).rows=af++[bf]:=⟨_,_,(List.dropLast_concat_getLast (by intro e;rw[e] at h1;simp at h1)).symm⟩;obtain⟨z,y⟩:=aaI cc (ch bf (by rw[a3];simp));have cv:IntKind.i64.wrap (((N.rv O).rows.length:Int)-1)=((N.rv O).rows.length:Int)-1:=by
   simp[IntKind.wrap,IntKind.bits,IntKind.signed];omega
  have b1:(ut N).den O=z:=by
   simp only[ut,IE.den,au,Js R bb,cv,cellAt];have:(((N.rv O).rows.length:Int)-1).toNat=Y af:=by rw[a3];simp
   rw[this,a3,y];simp[aIC,bB]
  rw[b1] at h3 h4;obtain⟨j,rfl⟩:∃j:Nat,z=(j:Int):=⟨z.toNat,by omega⟩;have b2:j<Y l:=by omega
  refine⟨j,l[j],aIA b2,b1,.inl ?_⟩;have cx:((N.rv O).rows.map nR).toArray=((af.map nR).toArray).push j:=by
   rw[a3,y];simp[nR,bB]
  rw[cx] at a1;have b3:=aaH (m:=0) (aIA b2);rw[aI8] at b3;have hr:=run_entry_at (P:=P) W (ad V q) (ad V i) (Y l) ((af.map nR).toArray) (fy 0 l).toArray (Y l) ⟨(l[j]).1,(l[j]).2,j⟩ a1 hl (by simpa using b3) (by
   simp only[aj5];exact List.nodup_range' ..)
  simp only[execOp,ho,he,hx,SV.den,Sem.run_bind,hr,Result.andThen_ok,Sem.run_pure]
 split at h;rename_i k e n ag ae qq c4 cy b4 cA;have hd:P.underlying tn=U (.map k e):=(u _ _ b4).desc;have hK:s5 P k n ag:=(u _ _ b4).key k e n ag rfl;split at h;rename_i M al;split at h;cases h;rename_i a4;have a4:qW f.ty k n ag=true:=by simpa using a4
 have an:=R.mem.box _ _ _ cA;split at h;rename_i a0;simp only[beq_iff_eq] at a0;subst a0;split at h;rename_i X hr;split at h
 ·rename_i bg;cases h;obtain⟨rfl,c1,c5⟩:=SN hr;rw[Ds] at an;have bk:c.den O=((X.rv O).rows.length:Int):=by
   have:=IE.bI _ _ bg;rw[this,IE.den,Js R c1]
  have b5:=F9 R c1;obtain⟨hn,A⟩:=A;obtain⟨j,b,H,g2,g3⟩:=model _ an (by rw[bk];simp) hn;rw[aIE] at H;cases a9:(X.rv O).rows[j]? with
  |none=>rw[a9] at H;cases H
  |some F=>
  rw[a9] at H;simp only[aII,aID] at H;have b6:=aIW a9;have cB:=Jd a4 al (b5 F b6);have b7:(X.rv O).rows[((ut N).den O).toNat]?=U F:=by rw[g2];simpa using a9
  obtain⟨kc,r1,r2,r3⟩:=Jc (va:=M.d.isAgg) a4 al;have bl:=b5 F b6;have b0:Y F=n+Y M.ae:=by rw[bl.len,r1,aIO,r2]
  have b8:∀(Q:Nat)(w:CT),M.ae[Q]?=U w->(bq f.ty (.mr ⟨k,e,n,ag,M.d.isAgg⟩))[n+Q]?=U w:=λQ w G=>by
   rw[r1,aIH (by omega),r2,show n+Q-n=Q by omega];exact G
  have ca:∀(Q:Nat)(w:CT),M.ae[Q]?=U w->∃c,F[n+Q]?=U c:=λQ w G=>by
   have:Q<Y M.ae:=(aIz.1 G).1;exact⟨F[n+Q]'(by omega),aIA _⟩
  have cC:M.d.isAgg=E->(sP X (ut N) n M.ae).length=1:=λha=>by rw[aaJ];exact zJ (u _ _ al) ha
  have cD:(qV M.d.isAgg (sP X (ut N) n M.ae)).den O V=pg M.d.isAgg (F.drop n):=by
   rw[BJ cC,SP b7 c5 b0 (λQ kk G=>by
    obtain⟨c,C⟩:=ca Q _ G;obtain⟨x',br⟩:=bl.int (n+Q) c kk C (b8 Q _ G);exact⟨x',by rw[C,br]⟩) (λQ G=>by
    obtain⟨c,C⟩:=ca Q _ G;obtain⟨x',br⟩:=bl.bool (n+Q) c C (b8 Q _ G);exact⟨x',by rw[C,br]⟩),pg]
   cases cI:M.d.isAgg;have h1:=zJ (u _ _ al) cI;obtain⟨c,C⟩:=aI2.1 (show(F.drop n).length=1 by simp;omega);rw[C];rfl;rfl
  have cO:=aj0 (V:=V) b7 hK.1 cB;have R2:=R.put r.o.dst (.bH [II X (ut N) n ag,qV M.d.isAgg (sP X (ut N) n M.ae)]);simp only[SV.den,SV.aA,cO,cD] at R2;subst H;exact⟨_,_,g3,R2,(bF.refl _ _ _).put _ _,A⟩
 cases h;cases h;split at h;rename_i a0;simp only[aIy,beq_iff_eq,aIR] at a0;obtain⟨⟨rfl,rfl⟩,rfl⟩:=a0;split at h;rename_i ks cW;split at h;rename_i bg;split at h
 ·rename_i c0 v0 c2;cases h;rw[Dt] at an;obtain⟨p1,p2⟩:=Je (O:=O) (V:=V) cW;rw[p1] at an;have bk:c.den O=(Y ks:Int):=by
   have:=IE.bI _ _ bg;rw[this,IE.den]
  obtain⟨hn,A⟩:=A;obtain⟨j,b,H,g2,g3⟩:=model _ an (by rw[bk];simp[p2]) hn;rw[aIE] at H;cases y:(ks.zip (kO cy))[j]? with
  |none=>rw[y] at H;cases H
  |some kp=>
  rw[y] at H;simp only[aII,aID] at H;obtain⟨z1,z2⟩:=aKY.1 y;obtain⟨e1,e2⟩:=aj4 R (u _ _ al) c2 p2 (O':=O) g2 z1 z2 rfl;have R2:=R.put r.o.dst (.bH [c0,v0]);simp only[SV.den,SV.aA,e1,e2] at R2;subst H;exact⟨_,_,g3,R2,(bF.refl _ _ _).put _ _,A⟩
 cases h;cases h;cases h;cases h;cases h;cases h;cases h;cases h
def aj6{p:Sp}{L:cV}(R:av g B D f.ty V O s a W)(af:iu P f.ty){m:OM}{t t2:TypeId}{G:BinOp}{X:Bool}{x y:Operand}(w:m.o.op=.binOp G t x y t2)(ag:(G=.eql/\X=E)\/(G=.neq/\X=J))(he:a.eval x=(s.ev f.gl x).den O V)(al:a.eval y=(s.ev f.gl y).den O V){u:S->T}{l:T}(h:RT f m.o.dst s t X (s.ev f.gl x) (s.ev f.gl y) u=U l)(F:l.aQ p O L):
  ∃v C,rz P m.o a W v W/\av g B D f.ty V O C (a.put m.o.dst v) W/\bF s O V C O V/\(u C).aQ p O L:=by
 unfold RT at h;split at h;rename_i e ae q r ht hx hy;split at h;rename_i hk;cases h;have hd:P.underlying t=U (.slice e):=(af _ _ ht).desc;have N:=pV R (by simp) hk;simp only[T.aQ] at F;obtain⟨A,n,c,Q⟩:∃A n c,r.den O=.slice A n c:=by
  have:∃A n c,(r.rv O).val=.slice A n c:=by
   generalize r.rv O=H at N;cases N;exact⟨_,_,_,rfl⟩
  exact this
 have an:(IE.len r).den O=n:=by simp only[IE.den];unfold RE.den at Q;rw[Q];rfl
 have j:(Op.equal t (.slice A n c) (.slice Z 0 0)).run P W=.ok A.isNone W:=by
  have z:Op.equal t (.slice A n c) (.slice Z 0 0)=Op.equalIn (9999+1) t (.slice A n c) (.slice Z 0 0):=rfl;rw[z,Op.equalIn,Sem.run_bind,dV.gt hd,Result.andThen_ok];cases A<;>rfl
 have i:(execOp a.eval m.o).run P W=.ok (.value (.bool (if X then !A.isNone else A.isNone))) W:=by
  simp only[execOp,w,he,al,hx,hy,SV.den,Q];have a0:RE.den O (.k (.slice Z 0 0))=.slice Z 0 0:=rfl;rw[a0];rcases ag with⟨rfl,rfl⟩|⟨rfl,rfl⟩;simp[eqGuard,binOp,j];simp[eqGuard,binOp,j]
 cases M:A with
 |none=>
  have hn:n=0:=by
   unfold RE.den at Q;have z:∀{H:RV},bu W f.ty (.sl e) H->H.val=.slice A n c->A=Z->n=0:=by
    intro H N Q M;cases N with
    |sl e A' a4 a9 d h1 h2 h3 hi hb w=>
     simp only[RV.lZ,Value.slice.injEq] at Q;obtain⟨rfl,rfl,rfl⟩:=Q;subst M;cases d with
     |nil=>simp at h1;omega
     |cons a1 d=>
      obtain⟨-,b,bb,a3,-⟩:=h3 0 a1 rfl;cases a3
   exact z N Q M
  have:=F.2 (by show decide ((IE.len r).den O<=(IE.c 0).den O)=J;rw[an,hn];rfl);refine⟨_,_,.inl i, ?_,(bF.refl _ _ _).put _ (.bool (.c (!X))),this⟩;have Q:(if X then !A.isNone else A.isNone)= !X:=by rw[M];cases X<;>rfl
  rw[Q];exact R.put m.o.dst (.bool (.c (!X)))
 |some A0=>
  have:=F.1 (by simp[BE.den]);refine⟨_,_,.inl i, ?_,(bF.refl _ _ _).put _ (.bool (.c X)),this⟩;have Q:(if X then !A.isNone else A.isNone)=X:=by rw[M];cases X<;>rfl
  rw[Q];exact R.put m.o.dst (.bool (.c X))
 cases h;cases h
def av.cells{y:Ty}{H:ah}(R:av g B D y V O (s.ck X x e) a W)(F:X<Y s.boxes)(h:SV.cL O V e=SV.cL O V H):av g B D y V O (s.ck X x H) a W:=by
 have G:∀j,aL (s.boxes.set X (U (x,H))) j=aL (s.boxes.set X (U (x,e))) j:=λj=>by
  rw[aJv,nT F,nT F]
 have w:(s.ck X x H).boxes=s.boxes.set X (U (x,H)):=rfl;have M:(s.ck X x e).boxes=s.boxes.set X (U (x,e)):=rfl;refine⟨⟨R.mem.base,λj N=>R.mem.own j (by rw[M,<-G];exact N),λj k N v=>R.mem.inj j k (by rw[M,<-G];exact N) (by rw[M,<-G];exact v),λj t u L=> ?_,λk Q C A z=>⟨(R.mem.ref k Q C A z).1,λb L j N=>(R.mem.ref k Q C A z).2 b L j (by rw[M,<-G];exact N)⟩⟩,by simpa[S.ck] using R.fH,R.ei,R.eb,R.er,R.cM,R.size,R.tmps,λk Q C b r q q3=> ?_⟩;rw[i8,w] at L;by_cases N:j=X;subst N;rw[aJX (by simpa using F)] at L;cases L;rw[<-h];exact R.mem.box j x e (by rw[i8,M,aJX (by simpa using F)]);rw[aJf (λQ=>N Q.symm)] at L;exact R.mem.box j t u (by rw[i8,M,aJf (λQ=>N Q.symm)];exact L);obtain⟨A,z,p,o,n⟩:=R.fl k Q C b r q q3;exact⟨A,z,λj N=>p j (by rw[M,<-G];exact N),o,n⟩
def awW{b:BE}{y z:SV}(h:ZK b v y=U z):z.gr O V=if b.den O then v.gr O V else y.gr O V:=by
 unfold ZK at h;split at h;split at h;rename_i X;subst X;cases h;simp only[SV.gr,SV.den,IE.den];split<;>rfl;cases h;cases h;simp only[SV.gr,SV.den,BE.den];split<;>rfl;cases h
def ND:∀(R l:ah)(X:Nat),SV.cL O V (j5 l X R)=gF (SV.cL O V l) X (SV.cL O V R)
 |[],l,X=>rfl
 |v::R,l,X=>by
  rw[j5,ND R (l.set X v) (X+1)];simp only[SV.cL,aIP,gF,aLC]
def aj7{b:BE}:∀{M:ah}{R:Nat}{X Q:ah},MY b M R X=U Q->
  Y Q=Y X/\(M=[]\/R+Y M<=Y X)/\(b.den O=J->SV.cL O V Q=SV.cL O V (j5 X R M))/\(b.den O=E->SV.cL O V Q=SV.cL O V X)
 |[],R,X,Q,h=>by simp only[MY,aID] at h;subst h;exact⟨rfl,.inl rfl,λ_=>rfl,λ_=>rfl⟩
 |x::t,R,X,Q,h=>by
  simp only[MY] at h;split at h;rename_i B H;split at h;rename_i c A;obtain⟨G,L,z,y⟩:=aj7 h;have w:R<Y X:=(aIz.1 H).1;have F:=awW (O:=O) (V:=V) A;have C:SV.cL O V (X.set R c)=(SV.cL O V X).set R (c.gr O V):=by simp[SV.cL,aLC]
  have v:SV.cL O V X=(SV.cL O V X).set R (B.gr O V):=by
   apply aI0;intro j;rw[aJs];split;rename_i u;subst u;simp[SV.cL,w];have:=aIz.1 H;rw[this.2];rfl
  rw[List.length_set] at G L;refine⟨G,.inr ?_,λN=> ?_,λN=> ?_⟩;rcases L with rfl|L;simp;omega;simp only[aJm];omega;rw[z N,ND,C,F,if_pos N,ND];simp only[SV.cL,aIP,gF];rw[y N,C,F,if_neg (by simp[N]),<-v];cases h;cases h
def aj8{e:IE}{G:ah}(z:G≠[]):∀{M:bi}{L X R:ah},FP e G M L X=U R->RU M=J->
  Y R=Y X/\(∀v,dL (e.den O) M L=U v->∃i H,v=.loc i H/\H+Y G<=Y X/\SV.cL O V R=SV.cL O V (j5 X H G))/\(¬(e.den O∈M)->SV.cL O V R=SV.cL O V X)
 |[],[],X,R,h,_=>by simp only[FP,aID] at h;subst h;exact⟨rfl,λv Q=>by simp[dL] at Q,λ_=>rfl⟩
 |[],_::_,X,R,h,_=>by simp[FP] at h
 |k::M,L,X,R,h,C=>by
  simp only[RU,aIy,aIR] at C;cases L with
  |nil=>simp[FP] at h
  |cons u L=>
   cases u<;>simp only[FP] at h<;>try cases h
   rename_i i H;split at h;rename_i g r;obtain⟨q,p,y⟩:=aj8 z h C.2;obtain⟨x,B,w,A⟩:=aj7 (O:=O) (V:=V) r;have B:=B.resolve_left z;simp only[BE.den,IE.den,gg,beq_iff_eq,beq_eq_false_iff_ne,ne_eq] at w A;refine⟨by rw[q,x],λv Q=> ?_,λt=> ?_⟩;simp only[dL] at Q;split at Q;rename_i N;cases Q;refine⟨i,H,rfl,B, ?_⟩;rw[y (λF=>by
    rw[N] at F;have:=C.1;rw[aI9.2 F] at this;cases this),w N]
   rename_i N;obtain⟨o,n,rfl,m,l⟩:=p v Q;refine⟨o,n,rfl,by rw[<-x];exact m, ?_⟩;rw[l,ND,A N,<-ND];have N:¬e.den O=k:=λj=>t (by simp[j])
   rw[y (λF=>t (by simp[F])),A N];cases h
def aj9(h:MZ v=J):v.single=true:=by cases v<;>simp only[MZ,aIU] at h<;>rfl
def aka:∀{l:ah},IJ l=J->l≠[]/\Dd l=J
 |[],h=>by cases h
 |[x],h=>⟨by simp,by rw[Ry.2,aj9 h,Ry.1];rfl⟩
 |x::y::r,h=>by
  simp only[IJ,aIy] at h;exact⟨by simp,by rw[Ry.2,aj9 h.1,(aka (l:=y::r) h.2).2];rfl⟩
def awX(h:IJ v.cells=J):(v.den O V).cells.toList=SV.aA O V v.cells:=by
 cases v
 case agg l=>simp[SV.cells,SV.den,Value.cells]
 all_goals(simp only[SV.cells,IJ,MZ,aIU] at h)
 all_goals rfl
def awY{P:Program}{p:Sp}{L:cV}(R:av g B D f.ty V O s a W)(m:iu P f.ty){X y:Operand}{A:TI}{Q:IE}{H:bi}(j:f.ty x=U A)(d:l.op=.store x X y)(c:a.eval X=(SV.eR Q H e).den O V)(b:a.eval y=(s.ev f.gl y).den O V){k:S->T}{z:T}
  (h:ZL l.dst s A Q H e (s.ev f.gl y) k=U z)(M:z.aQ p O L):∃v N G,rz P l a W v N/\av g B D f.ty V O G (a.put l.dst v) N/\bF s O V G O V/\(k G).aQ p O L:=by
 unfold ZL at h;split at h;rename_i i af;split at h;rename_i bt cs hb;split at h;rename_i ag al;split at h;rename_i w;simp only[aIy,beq_iff_eq] at w;obtain⟨⟨⟨h1,h2⟩,h3⟩,r⟩:=w;cases h;simp only[T.aQ] at M;obtain⟨q,M⟩:=M;rw[St h2] at q;obtain⟨u,F⟩:=aIS.1 q;obtain⟨an,a0⟩:=aka r;obtain⟨g1,g2,-⟩:=aj8 (O:=O) (V:=V) an al h3;obtain⟨i',n,rfl,a1,a3⟩:=g2 u F;obtain⟨bd,hq⟩:=ai8 af (I9 F);cases hq;obtain⟨C,a4⟩:=xP hb;have hi:i<Y s.boxes:=(aIz.1 (i8.1 C)).1;have a9:((s.ev f.gl y).den O V).cells.toList=SV.aA O V (s.ev f.gl y).cells:=awX r;obtain⟨N,hr,R'⟩:=R.store (P:=P) (v:=s.ev f.gl y) (off:=n) (m _ _ j) C a4 h1.symm a1 a0 a9;have R2:av g B D f.ty V O (s.ck i bt ag) a N:=R'.cells hi a3.symm;refine⟨undef,N,_,.inr ⟨?_,rfl⟩,R2.put l.dst (.bH []),ajG C _ _,M⟩;have bb:(SV.eR Q H e).den O V=.pointer (U ⟨ad V i,n,Z⟩):=by
  simp only[SV.den];rw[Sv F rfl];rfl
 simp only[execOp,d,c,b,bb,Sem.run_bind,hr,Result.andThen_ok,Sem.run_pure];cases h;cases h;cases h;cases h
def awZ{p:Sp}{L:cV}(R:av p.S0 p.w0 D f.ty V O s a W)(l:iu p.P f.ty)(A:ek f.gl O){af:S->Fx->T}{q:Fx}(u:s7 O q){t:T}(h:zw f r s af q=U t)(n:t.aQ p O L):
  ∃v F j b X ag,rz p.P r.o a W v F/\av p.S0 p.w0 D f.ty b j X (a.put r.o.dst v) F/\bF s O V X j b/\s7 j ag/\(af X ag).aQ p j L:=by
 unfold zw at h;split at h;cases h;rename_i M;have M:∀x∈r.o.op.operands.toList,(s.ev f.gl x).dP=false:=by
  intro x hx;cases hh:(s.ev f.gl x).dP;rfl;exact absurd (by simp only[aIZ];right;exact aI7.2 ⟨x,hx,hh⟩) M
 split at h
 
 rename_i i Q;cases d:RL f r.o.dst s i with
 |none=>rw[d] at h;cases h
 |some X=>
  rw[d] at h;cases h;obtain⟨v,F,b,H,G,N⟩:=awK (P:=p.P) R Q d;exact⟨v,F,O,b,X,q,H,G,N,u,n⟩
 rename_i i x y z Q;rw[Q] at M;have C:=cu R A x (M x (by simp[Op.operands]));have k:=cu R A y (M y (by simp[Op.operands]));have e3:=cu R A z (M z (by simp[Op.operands]));split at h;rename_i X c;cases h;obtain⟨F,H,G,N⟩:=SO (P:=p.P) R l c;exact⟨undef,F,O,V,X,q,.inr ⟨by simp only[execOp,Q,C,k,e3,Sem.run_bind,H,Result.andThen_ok,Sem.run_pure],rfl⟩,G,N,u,n⟩;rename_i k' x' X c;cases h;obtain⟨F,H,G,N⟩:=SO (P:=p.P) R l c;exact⟨undef,F,_,V,X,_,.inr ⟨by simp only[execOp,Q,C,k,e3,Sem.run_bind,H,Result.andThen_ok,Sem.run_pure],rfl⟩,G,N,Gg R N.ext.agree u,n⟩;cases h;rename_i i x y z Q;rw[Q] at M;have C:=cu R A x (M x (by simp[Op.operands]));have k:=cu R A y (M y (by simp[Op.operands]));have e3:=cu R A z (M z (by simp[Op.operands]));split at h;rename_i X c;cases h;obtain⟨F,H,G,N⟩:=SO (P:=p.P) R l c;exact⟨undef,F,O,V,X,q,.inr ⟨by simp only[execOp,Q,C,k,e3,Sem.run_bind,H,Result.andThen_ok,Sem.run_pure],rfl⟩,G,N,u,n⟩;rename_i k' x' X c;cases h;obtain⟨F,H,G,N⟩:=SO (P:=p.P) R l c;exact⟨undef,F,_,V,X,_,.inr ⟨by simp only[execOp,Q,C,k,e3,Sem.run_bind,H,Result.andThen_ok,Sem.run_pure],rfl⟩,G,N,Gg R N.ext.agree u,n⟩;cases h;rename_i i x Q;rw[Q] at M;have C:=cu R A x (M x (by simp[Op.operands]));cases d:RN f r.o.dst s i (s.ev f.gl x) with
 |none=>rw[d] at h;cases h
 |some X=>
  rw[d] at h;cases h;obtain⟨v,F,b,H,G,N⟩:=awQ (P:=p.P) R l Q C d;exact⟨v,F,O,b,X,q,H,G,N,u,n⟩
 rename_i x Q;rw[Q] at M;have C:=cu R A x (M x (by simp[Op.operands]));obtain⟨v,F,j,X,H,G,N,w⟩:=awU (P:=p.P) rfl R l Q C h n;rcases w with⟨rfl,w⟩|w;exact⟨v,F,j,V,X,q,H,G,N,u,w⟩;exact⟨v,F,j,V,X,_,H,G,N,Gg R N.ext.agree u,w⟩;rename_i x Q;rw[Q] at M;have C:=cu R A x (M x (by simp[Op.operands]));obtain⟨v,X,H,G,N,w⟩:=awV (P:=p.P) R l Q C h n;exact⟨v,W,O,V,X,q,H,G,N,u,w⟩;rename_i i x y Q;rw[Q] at M;have C:=cu R A x (M x (by simp[Op.operands]));have k:=cu R A y (M y (by simp[Op.operands]));split at h;rename_i ti e ks vs ht hx;rw[hx] at C;obtain⟨v,F,X,H,G,N,w⟩:=awY (P:=p.P) R l ht Q C k h n;exact⟨v,F,O,V,X,q,H,G,N,u,w⟩;cases h;rename_i op i x y t2 Q;rw[Q] at M;have C:=cu R A x (M x (by simp[Op.operands]));have k:=cu R A y (M y (by simp[Op.operands]));split at h;obtain⟨v,X,H,G,N,w⟩:=aj6 (P:=p.P) R l Q (.inl ⟨rfl,rfl⟩) C k h n;exact⟨v,W,O,V,X,q,H,G,N,u,w⟩;obtain⟨v,X,H,G,N,w⟩:=aj6 (P:=p.P) R l Q (.inr ⟨rfl,rfl⟩) C k h n;exact⟨v,W,O,V,X,q,H,G,N,u,w⟩;cases h;cases h
end
def NE(v:Value)(X:bi)(g:FuncId):kN:=(v::(X.map (Value.int I)++[.func (.func g) #[] #[]])).toArray
def oB(P:Program)(R:Ty)(f g:FuncId)(e:TypeId)(G:aW)(F:Bool):Prop:=
 (∀Q W,(callFunc f Q).run P W=.ok (.enter f Q) W)/\∀(W:World)(A:mu)(n X:Nat)(N ay:am)(O:aa)(M:List IE)(L:aW),G.fill M=U L->bu W R (.sl e) (.mk (.slice A n X) N)->Jo W e (bq R (.sl e)).length A X->jC O L F N=U ay->
  Calls P f (NE (.slice A n X) (M.map (IE.den O)) g) W λC H=>C=.returned (.tuple #[])/\W.grownBy H (jT A X)/\Dv W H e (bq R (.sl e)).length (jT A X) ay A X
def akb(P:Program)(N:Ty)(f:FuncId)(e:TypeId):Prop:=
 (∀M W,(callFunc f M).run P W=.ok (.enter f M) W)/\∀(W:World)(b n X:Nat)(L ay:am)(i:Int)(R Q:Nat)(G F:TypeId),W.heap[R]?=U (.cells #[.slice (U ⟨b,0,Z⟩) n X] G (0,0))->W.heap[Q]?=U (.cells #[.func (.func f) #[] #[.pointer (U ⟨R,0,Z⟩),.pointer (U ⟨Q,0,Z⟩)]] F (0,0))->R≠b->Q≠b->
  bu W N (.sl e) (.mk (.slice (U ⟨b,0,Z⟩) n X) L)->Jo W e (bq N (.sl e)).length (U ⟨b,0,Z⟩) X->BC i L=U ay->
  Calls P f #[.int I i,.pointer (U ⟨R,0,Z⟩),.pointer (U ⟨Q,0,Z⟩)] W λC H=>C=.returned (.int I (aT 0 (ay.getD i.toNat [])))/\W.grownBy H (U b)/\Dv W H e (bq N (.sl e)).length (U b) ay (U ⟨b,0,Z⟩) X
def kU(P:Program)(X:Ty)(f g:FuncId)(e:TypeId)(R:aW)(Q:Bool):Prop:=if f=g then akb P X f e else oB P X f g e R Q
def kU.of{P:Program}{X:Ty}{f g:FuncId}{e:TypeId}{R:aW}{Q:Bool}(h:oB P X f g e R Q)(N:f≠g):kU P X f g e R Q:=by
 unfold kU;rw[if_neg N];exact h
def Ju(P:Program)(p:bz):Prop:=∀f g e X R,p.zu f g=U (e,X,R)->kU P p.ty f g e X R
def SQ{lt:aH->aH->Bool}{x y:aH}:∀{l:am},y∈dj lt x l<->y=x\/y∈l
 |[]=>by simp[dj]
 |z::r=>by
  simp only[dj];split;simp;simp only[aIK,SQ (l:=r)];constructor;rintro(h|h|h);exact .inr (.inl h);exact .inl h;exact .inr (.inr h);rintro(h|h|h);exact .inr (.inl h);exact .inl h;exact .inr (.inr h)
def akc{lt:aH->aH->Bool}{x:aH}:∀{l:am},(dj lt x l).length=Y l+1
 |[]=>rfl
 |z::r=>by
  simp only[dj];split;simp;simp[akc (l:=r)]
def aaK{lt:aH->aH->Bool}:∀(l acc:am),(∀x,x∈l.foldl (λacc x=>dj lt x acc) acc<->x∈acc\/x∈l)/\(l.foldl (λacc x=>dj lt x acc) acc).length=Y acc+Y l
 |[],acc=>by simp
 |y::l,acc=>by
  obtain⟨X,R⟩:=aaK (lt:=lt) l (dj lt y acc);refine⟨λx=> ?_, ?_⟩;simp only[aJ2,X,SQ,aIK];constructor;rintro((h|h)|h);exact .inr (.inl h);exact .inl h;exact .inr (.inr h);rintro(h|h|h);exact .inl (.inr h);exact .inl (.inl h);exact .inr h;simp only[aJ2,R,akc,aJm];omega
def akd{lt:aH->aH->Bool}{l:am}{x:aH}:x∈bE lt l<->x∈l:=by
 rw[bE,(aaK l []).1];simp
def j9{lt:aH->aH->Bool}{l:am}:(bE lt l).length=Y l:=by
 rw[bE,(aaK l []).2];simp
def ake{sp:aW}{R:Bool}{X ay:am}(h:gR sp R X=U ay):∀x∈ay,x∈X:=by
 cases sp with
 |cn k o N=>simp[gR] at h
 |_=>
  simp only[gR] at h;split at h;cases h;intro x Q;exact akd.1 Q;cases h
def akf{sp:aW}{R:Bool}{X ay:am}(h:gR sp R X=U ay):Y ay=Y X:=by
 cases sp with
 |cn k o Q=>simp[gR] at h
 |_=>
  simp only[gR] at h;split at h;cases h;exact j9;cases h
def s8{R:am}{b:Nat}{x:aH}(h:x∈aU R X b):x∈R:=aJA (aJG h)
def aw0(X:am)(a b:Nat):(aU X a b).length=min (b-a) (Y X-a):=by simp[aU]
def aaL{X:am}:∀(n:Nat)(i:Int),(s4 n i X).length=Y X
 |0,_=>rfl
 |n+1,i=>by
  simp only[s4];split;rfl;simp[aaL n]
def aaM{X:am}(h:BB X=J){k:Nat}(R:k<Y X):0<=aT 0 (X.getD k [])/\aT 0 (X.getD k [])<=k:=by
 have:=aIN.1 h k (aJQ.2 R);simpa only[aIy,decide_eq_true_eq] using this
def akg{X:am}(h:BB X=J){i:Int}(R:0<=i)(Q:i<Y X):0<=aT 0 (X.getD i.toNat [])/\aT 0 (X.getD i.toNat [])<=i/\aT 0 (X.getD i.toNat [])<Y X:=by
 have:=aaM h (k:=i.toNat) (by omega);omega
def aw1{R:Type}{l:List R}(h:X<Y l)(d:R):l.getD X d∈l:=by
 rw[aIC,aIA h];exact aJl _
def akh{R:am}(h:BB R=J):∀(n:Nat)(i:Int),0<=i->i<Y R->∀x∈s4 n i R,x∈R
 |0,_,_,_,x,X=>X
 |n+1,i,N,M,x,X=>by
  simp only[s4] at X;split at X;exact X;obtain⟨L,-,H⟩:=akg h N M;have Q:=akh h n _ L H;rcases aJx X with X|X;exact Q x X;refine Q x ?_;have G:(aT 0 (R.getD i.toNat [])).toNat<(s4 n (aT 0 (R.getD i.toNat [])) R).length:=by rw[aaL];omega
  rw[X];exact aw1 G _
def SR{i:Int}{X ay:am}(h:BC i X=U ay):Y X<=1099511627776/\0<=i/\i<Y X/\BB X=J/\ay=s4 (Y X) i X:=by
 unfold BC at h;split at h;rename_i R;simp only[aIy,decide_eq_true_eq] at R;cases h;exact⟨R.1.1.1,R.1.1.2,R.1.2,R.2,rfl⟩;cases h
def aki{i:Int}{X ay:am}(h:BC i X=U ay):∀x∈ay,x∈X:=by
 obtain⟨-,R,Q,N,rfl⟩:=SR h;exact akh N _ _ R Q
def akj{i:Int}{X ay:am}(h:BC i X=U ay):Y ay=Y X:=by
 obtain⟨-,-,-,-,rfl⟩:=SR h;exact aaL _ _
def aw2{o:aW}{N:bi}{Q ay:am}(h:lB X o N Q=U ay):∀x∈ay,x∈Q:=by
 unfold lB at h;split at h
 all_goals first|(split at h<;>first|(cases h;done)|skip)|skip
 all_goals first|(cases h;done)|skip
 all_goals
  cases h;intro x R;simp only[aIM,akd] at R;rcases R with R|R;exact aJG R
 all_goals
  rcases R with R|R;exact s8 R
  first|exact aJA R|(rcases R with R|R<;>first|exact s8 R|exact aJA R|(rcases R with R|R<;>first|exact s8 R|exact aJA R))
def aw3{o:aW}{Q:bi}{R ay:am}(h:lB X o Q R=U ay):Y ay=Y R:=by
 unfold lB at h;split at h
 all_goals first|(split at h<;>first|(cases h;done)|skip)|skip
 all_goals first|(cases h;done)|skip
 all_goals
  rename_i N;simp only[aIy,decide_eq_true_eq] at N;cases h;simp only[aIO,aJS,aJT,aw0,j9];omega
def zQ{o:aW}{Q:bi}{R ay:am}(h:nS X o Q R=U ay):Y R<=1099511627776/\lB X o Q R=U ay:=by
 unfold nS at h;split at h;rename_i N;exact⟨N,h⟩;cases h
def aw4{o:aW}{Q:bi}{R ay:am}(h:nS X o Q R=U ay):∀x∈ay,x∈R:=aw2 (zQ h).2
def aw5{o:aW}{Q:bi}{R ay:am}(h:nS X o Q R=U ay):Y ay=Y R:=aw3 (zQ h).2
def aaN{X:aW}{N:Bool}{R ay:am}(h:gR X N R=U ay):Y R<=1099511627776:=by
 cases X with
 |cn k o M=>simp[gR] at h
 |_=>
  simp only[gR] at h;split at h;rename_i Q;simp only[aIy,decide_eq_true_eq] at Q;exact Q.1;cases h
def aaO{O:aa}{X:aW}{R:Bool}{Q ay:am}(h:jC O X R Q=U ay):∀x∈ay,x∈Q:=by
 cases X with
 |cn k o N=>
  cases R with
  |false=>exact aw4 h
  |true=>
   cases N with
   |nil=>simp[jC] at h
   |cons i l=>
    cases l with
    |nil=>exact aki h
    |cons j l=>simp[jC] at h
 |lex M d=>exact ake (sp:=.lex M d) h
 |ratio n d=>exact ake (sp:=.ratio n d) h
def aaP{O:aa}{X:aW}{R:Bool}{Q ay:am}(h:jC O X R Q=U ay):Y ay=Y Q:=by
 cases X with
 |cn k o N=>
  cases R with
  |false=>exact aw5 h
  |true=>
   cases N with
   |nil=>simp[jC] at h
   |cons i l=>
    cases l with
    |nil=>exact akj h
    |cons j l=>simp[jC] at h
 |lex M d=>exact akf (sp:=.lex M d) h
 |ratio n d=>exact akf (sp:=.ratio n d) h
section
variable{q:ai}{w:World}{D:bQ}{P:Program}{p:bz}{V:ai}{O:aa}{s:S}{a:Act}{W:World}
def aw6{F ay:am}(h:eG W p.ty x F)(C:∀X∈ay,X∈F):eG W p.ty x ay:=by
 have G:∀{i:Nat}{R:aH},ay[i]?=U R->∃Q,F[Q]?=U R:=λh=>aJg (C _ (aIW h))
 refine⟨λi R N=> ?_,λi j R c k N L H=> ?_,λi j R c N L H=> ?_,λi j R c z k N L H=> ?_⟩;obtain⟨Q,M⟩:=G N;exact h.len Q R M;obtain⟨Q,M⟩:=G N;exact h.int Q j R c k M L H;obtain⟨Q,M⟩:=G N;exact h.bool Q j R c M L H;obtain⟨Q,M⟩:=G N;exact h.aI Q j R c z k M L H
def aw7{Q ay:am}(N:∀R∈ay,R∈Q)(h:l8 p.ty x ay X):l8 p.ty x Q X:=by
 obtain⟨i,j,M,c,z,k,L,H,G,F⟩:=h;obtain⟨C,B⟩:=aJg (N _ (aIW L));exact⟨C,j,M,c,z,k,B,H,G,F⟩
def akk{a:Act}(X:av q w D p.ty t N R a b)(Q:ek p.gl N){g:FuncId}(h:dA p R l=.call (.fn g) e)
  (H:∀e b,(callFunc g e).run P b=.ok (.enter g e) b):(execOp a.eval l).run P b=.ok (.enter g (SV.aA N t e).toArray) b:=by
 unfold dA at h;split at h;split at h<;>cases h;rename_i c G;split at h;rename_i f F;split at h;rename_i y v M;split at h;cases h;rename_i C;cases h;have L:=cu X Q f (by rw[M];rfl);rw[M,SV.den] at L;have B:c.args.map a.eval=(SV.aA N t (c.args.toList.map (R.ev p.gl))).toArray:=by
  apply aJu;simp only[aJy,nQ,aJo];exact aIY λx A=>cu X Q x (by
   cases z:(R.ev p.gl x).dP;rfl;exact absurd (aI7.2 ⟨x,A,z⟩) C)
 simp only[execOp,G,resolve,F,Sem.run_bind,L,Deferred.ofValue,Sem.run_pure,Result.andThen_ok,invoke,B,Sj];simp only[aLn,H,aIJ];split at h<;>cases h;cases h;cases h;split at h;split at h<;>cases h;cases h;cases h;cases h
def akl{g:FL}(h:dA p R l=.call g e)(c:Call):l.op≠ .defer c:=by
 intro X;simp[dA,X] at h
def akm{O:aa}{V:ai}:∀{l:ah}{as:List IE}{g:FuncId},M0 l=U (as,g)->SV.aA O V l=(as.map (IE.den O)).map (Value.int I)++[.func (.func g) #[] #[]]
 |[],as,g,h=>by simp[M0] at h
 |v::r,as,g,h=>by
  unfold M0 at h;split at h;rename_i M X;cases h;injection X with R Q;subst R;subst Q;simp[SV.aA,SV.den];rename_i e L X;injection X with R Q;subst R;subst Q;split at h;rename_i x N;cases h;have:=akm (O:=O) (V:=V) (as:=x.1) (g:=x.2) N;simp[SV.aA,SV.den,this];cases h;cases h
def aaQ(R:av q w D p.ty V O s a W)(u:s.bd=J){A:mu}{n M:Nat}{ay:am}(L:s.rs[X]?=U (.own x))(G:O.rv X=.mk (.slice A n M) (O.rv X).rows)(F:bu W p.ty (.sl x) (.mk (.slice A n M) (O.rv X).rows))
  (C:∀Q∈ay,Q∈(O.rv X).rows)(o:Y ay=(O.rv X).rows.length)(m:W.grownBy b (jT A M))(l:Dv W b x (bq p.ty (.sl x)).length (jT A M) ay A M)(d:bR)(H:SV):
  av q w D p.ty V (O.add (.r (.mk (O.rv X).val ay))) ((({s with rs:=jw [] 0 (ip [X] 0 s.rs)++[.own x]}:S).gq X (Y s.rs)).put d H) (a.put d (H.den (O.add (.r (.mk (O.rv X).val ay))) V)) b/\
   bF s O V ((({s with rs:=jw [] 0 (ip [X] 0 s.rs)++[.own x]}:S).gq X (Y s.rs)).put d H) (O.add (.r (.mk (O.rv X).val ay))) V:=by
 obtain⟨j,an⟩:=ru F;have h:BO p.ty V O s x ay []:=λN g=>by
  have B:=aw7 C g;have z:=Jl (O:=O) (e0:=.own x) rfl (by simpa[RE.rv] using B);exact⟨⟨X,_,L,z⟩,(R.mem.ref X _ _ L (s6 R L)).2 N z,λk' t rv f c g3=>(Nv R f c g3 L rfl (by simpa[RE.rv] using B)).elim⟩
 obtain⟨y,-⟩:=R.bind u (old:=jT A M) (kill:=[X]) (frz:=[]) (A:=A) (cap:=M) (W':=b) (.inr ⟨X,x,O.rv X,rfl,L,s6 R L,by rw[G,Jn]⟩) (by simp) m (aw6 (eG.wc F) C) h l;rw[o,j] at y;have v:(O.rv X).val=.slice A n M:=by rw[G];rfl
 rw[v];have af:X<Y O.r:=by rw[R.er];exact(aIz.1 L).1
 have ag:(O.add (.r (.mk (.slice A n M) ay))).rv X=O.rv X:=by simp[aa.rv,aa.add,aIB af]
 have al:(O.add (.r (.mk (.slice A n M) ay))).rv (Y s.rs)=.mk (.slice A n M) ay:=by simp[aa.rv,aa.add,<-R.er]
 have R2:=(y.gq (k:=X) (n:=Y s.rs) (by rw[ag,al,v];rfl)).put d H;refine⟨R2, ?_⟩;refine bF.put (s:=s) (s':=({s with rs:=jw [] 0 (ip [X] 0 s.rs)++[.own x]}:S).gq X (Y s.rs)) ⟨pW _ _ _ _,λi hi=> ?_, ?_,aIG _⟩ _ _;simp only[S.gq];rw[Gf];exact hi;simp[S.gq,NB]
def aw8(hs:Ju P p)(R:av q w D p.ty V O s a W)(hg:ek p.gl O)(x:s.bd=J){f:FuncId}(al:dA p s l=.call (.fn f) e){u:zy}(h:ZM p f e s l.dst=U u){ay:am}(Q:jC O u.sp u.st (u.r.rv O).rows=U ay):
  ∃e v,(execOp a.eval l).run P W=.ok (.enter u.f e) W/\Calls P u.f e W λL N=>L=.returned v/\av q w D p.ty V (O.add (.r (.mk (u.r.rv O).val ay))) u.s (a.put l.dst v) N/\bF s O V u.s (O.add (.r (.mk (u.r.rv O).val ay))) V:=by
 unfold ZM at h;split at h;rename_i r a9;split at h;rename_i H g an;split at h;rename_i X t m G;have j:p.zu f g=U (X,t,m)/\f≠g:=by
  split at G;cases G;rename_i a0;exact⟨G,λh=>a0 (by simp[h])⟩
 have F:=hs f g X t m j.1;unfold kU at F;rw[if_neg j.2] at F;obtain⟨a1,i⟩:=F;have d:(execOp a.eval l).run P W=.ok (.enter f (NE (r.den O) (H.map (IE.den O)) g)) W:=by
  rw[akk R hg al a1];simp only[SV.aA,SV.den,akm an,NE]
 split at h;rename_i c af;split at h;rename_i k;split at h;rename_i hk;cases h;obtain⟨A,n,ag,h1,h2,h3⟩:=Ny R hk;have M:(RE.v k).rv O=O.rv k:=rfl;simp only[M] at Q⊢;have bb:=Q;have a3:=aaO Q;have C:=aaP Q;refine⟨_,.tuple #[],d, ?_⟩;have B:(RE.v k).den O=.slice A n ag:=by rw[RE.den,M,h1];rfl
 rw[B];refine(i W A n ag _ ay O H c af h2 h3 Q).mono ?_;rintro L N ⟨rfl,z,y⟩;exact⟨rfl,aaQ R x hk h1 h2 a3 C z y l.dst (.bH [])⟩;cases h;cases h;have M:(RE.k (.slice Z 0 0)).rv O=.mk (.slice Z 0 0) []:=rfl;simp only[M,RV.lA,RV.lZ] at Q⊢;have C:=aaP Q;have h0:ay=[]:=aI1 (by simpa using C);subst h0;refine⟨_,.tuple #[],d, ?_⟩;have B:(RE.k (.slice Z 0 0)).den O=.slice Z 0 0:=rfl;rw[B];refine(i W Z 0 0 [] [] O H c af (BN _ _) ⟨λ_=>rfl,.inl rfl⟩ Q).mono ?_;rintro L N ⟨rfl,z,y⟩;obtain⟨R1,-⟩:=R.bind x (old:=Z) (kill:=[]) (frz:=[]) (A:=Z) (cap:=0) (rows:=[]) (W':=N) (.inl ⟨rfl,rfl⟩) (by simp) z (eG.wc (BN (e:=X) Z 0)) (λb a4=>(Nu a4).elim) y;refine⟨rfl,R1.put l.dst (.bH []), ?_⟩;exact bF.put (s:=s) (s':={s with rs:=jw [] 0 (ip [] 0 s.rs)++[.own X]}) ⟨pW _ _ _ _,λ_ h=>h,aIG _,aIG _⟩ _ _;cases h;cases h;cases h;cases h;cases h
def akn(hs:Ju P p)(R:av q w D p.ty V O s a W)(hg:ek p.gl O)(hb:s.bd=J){f:FuncId}(a1:dA p s l=.call (.fn f) e){u:zy}(h:FQ p f e s l.dst=U u){ay:am}(L:jC O u.sp u.st (u.r.rv O).rows=U ay):
  ∃e v,(execOp a.eval l).run P W=.ok (.enter u.f e) W/\Calls P u.f e W λt m=>t=.returned v/\av q w D p.ty V (O.add (.r (.mk (u.r.rv O).val ay))) u.s (a.put l.dst v) m/\bF s O V u.s (O.add (.r (.mk (u.r.rv O).val ay))) V:=by
 unfold FQ at h;split at h;rename_i i N M;split at h;rename_i X o' b3 a3;have C:=hs f f X _ J a3;unfold kU at C;rw[if_pos rfl] at C;obtain⟨a4,a9⟩:=C;split at h;rename_i H k G f' b4 b5 j B;split at h;rename_i g;simp only[aIy,beq_iff_eq,aIR,decide_eq_true_eq] at g;obtain⟨⟨⟨⟨⟨⟨hi,e1⟩,e2⟩,e3⟩,bb⟩,bf⟩,F⟩:=g;rw[e1,e2,e3] at B;cases h;obtain⟨A,n,Q,z,y,d⟩:=Ny R F;have bg:(RE.v k).rv O=O.rv k:=rfl;simp only[bg] at L⊢;have bk:=aaO L;have bl:=aaP L;have af:BC (i.den O) (O.rv k).rows=U ay:=L;obtain⟨-,b6,b7,-,-⟩:=SR af;obtain⟨hn,b8⟩:=ru y;have x:Q≠0:=by omega
 rcases d.mem with h0|⟨b,ca,hA,cc,-⟩;exact(x h0).elim;subst hA;have br:(O.rv k).jR=U b:=by
  rw[z,Jn];cases Q with
  |zero=>exact(x rfl).elim
  |succ c=>rfl
 have hT:=R.fl k X _ b F (s6 R F) br;have ag:=R.mem.box N H _ j;have al:=R.mem.box M G _ B;have bs:kA H (SV.cL O V [.ref (.v k)])=.cells #[.slice (U ⟨b,0,Z⟩) n Q] H (0,0):=by
  rw[rq bb];simp only[SV.aA,SV.den,RE.den,RE.rv];rw[z];rfl
 have bt:kA G (SV.cL O V [.fn f [.loc N 0,.loc M 0]])=.cells #[.func (.func f) #[] #[.pointer (U ⟨ad V N,0,Z⟩),.pointer (U ⟨ad V M,0,Z⟩)]] G (0,0):=by
  rw[rq bf];simp[SV.den,SV.aA]
 rw[bs] at ag;rw[bt] at al;have bx:(execOp a.eval l).run P W=.ok (.enter f #[.int I (i.den O),.pointer (U ⟨ad V N,0,Z⟩),.pointer (U ⟨ad V M,0,Z⟩)]) W:=by
  rw[akk R hg a1 a4];simp only[SV.aA,SV.den]
 refine⟨_,.int I (aT 0 (ay.getD (i.den O).toNat [])),bx, ?_⟩;have b0:jT (U ⟨b,0,Z⟩) Q=U b:=by
  cases Q with
  |zero=>exact(x rfl).elim
  |succ c=>rfl
 refine(a9 W b n Q _ ay (i.den O) _ _ H G ag al (hT.box N (by simp only[aL,j];rfl)) (hT.box M (by simp only[aL,B];rfl)) y d af).mono ?_;rintro t m ⟨rfl,an,a0⟩;rw[<-b0] at an a0;have:=aaQ R hb F z y bk bl an a0 l.dst (.int I (.cell (.v (Y s.rs)) i 0));have b1:(O.add (.r (.mk (O.rv k).val ay))).rv (Y s.rs)=.mk (O.rv k).val ay:=by simp[aa.rv,aa.add,<-R.er]
 have b2:i.den (O.add (.r (.mk (O.rv k).val ay)))=i.den O:=IE.dg (pW s.boxes O _ V).agree i (by rw[R.ei,R.eb,R.er];exact hi);have hd:SV.den (O.add (.r (.mk (O.rv k).val ay))) V (.int I (.cell (.v (Y s.rs)) i 0))=.int I (aT 0 (ay.getD (i.den O).toNat [])):=by
  simp only[SV.den,IE.den,RE.rv,b1,b2];rfl
 rw[hd] at this;exact⟨rfl,this⟩;cases h;cases h;cases h;cases h
def aw9(H:Ju P p)(R:av q w D p.ty V O s a W)(G:ek p.gl O){u:zy}(h:Bp p r s=U u){ay:am}(F:jC O u.sp u.st (u.r.rv O).rows=U ay):
  ∃X v,(execOp a.eval r.o).run P W=.ok (.enter u.f X) W/\(∀c,r.o.op≠ .defer c)/\Calls P u.f X W λB A=>B=.returned v/\av q w D p.ty V (O.add (.r (.mk (u.r.rv O).val ay))) u.s (a.put r.o.dst v) A/\bF s O V u.s (O.add (.r (.mk (u.r.rv O).val ay))) V:=by
 unfold Bp at h;split at h;cases h;rename_i Q;simp only[aIZ,aIR,not_or,aJY] at Q;split at h;rename_i f X N;have C:=λc=>akl N c
 split at h;rename_i y z;cases h;obtain⟨x,v,M,L⟩:=aw8 H R G Q.2 N z F;exact⟨x,v,M,C,L⟩;obtain⟨x,v,M,L⟩:=akn H R G Q.2 N h F;exact⟨x,v,M,C,L⟩;cases h
def axa(N:Ju P p)(R:av q w D p.ty V O s a W)(M:ek p.gl O){u:zy}(h:FR p l s=U u){ay:am}(L:jC O u.sp u.st (u.r.rv O).rows=U ay):
  ∃X v,(execOp a.eval l).run P W=.ok (.enter u.f X) W/\(∀c,l.op≠ .defer c)/\Calls P u.f X W λH G=>H=.returned v/\av q w D p.ty V (O.add (.r (.mk (u.r.rv O).val ay))) u.s (a.put l.dst v) G/\bF s O V u.s (O.add (.r (.mk (u.r.rv O).val ay))) V:=by
 unfold FR at h;split at h;cases h;rename_i F;split at h;rename_i f X Q;obtain⟨x,v,C,B⟩:=akn N R M (by simpa using F) Q h L;exact⟨x,v,C,λc=>akl Q c,B⟩;cases h
end
structure pj(F:Fence):Prop where
 fn:∀f,F.fn f
 xW:F.depth=Z
 eq:∀P,Machine.fenced P F=Machine.fenced P Fence.wide
def axb:pj Fence.wide:=⟨λ_=>trivial,rfl,λ_=>rfl⟩
def ako(l:Nat):pj (Fence.wide.inRound l):=⟨λ_=>trivial,rfl,λ_=>rfl⟩
def pj.calls{F:Fence}(W:pj F){P:Program}{f:FuncId}{V:kN}{R:Ending->World->Prop}(h:Calls P f V b R):CallsIn F X P f V b R:=by
 have Q:=(callsIn_wide (n:=X)).2 h;refine⟨W.fn f,λO _=> ?_⟩;obtain⟨e,N,M,r,c,x⟩:=Q.2 O (room_wide _);exact⟨e,N,M,r,by rw[W.eq];exact c,x⟩
def aaR{p:Sp}{L:cV}{V:Fx}{b:BE}{t f:Fx->T}(X:s7 N V)(h:(Bo R V b t f).aQ p N L):
  ∃Q,s7 N Q/\(if b.den N then(t Q).aQ p N L else(f Q).aQ p N L):=by
 unfold Bo at h;split at h;rename_i P;exact⟨V,X,by rw[SM X P];exact h⟩;rename_i P;exact⟨V,X,by rw[SM X P];exact h⟩;split at h;simp only[T.aQ] at h;cases W:b.den N;exact⟨_,ajS X W,by simpa[W] using h.2 W⟩;exact⟨_,ajS X W,by simpa[W] using h.1 W⟩;exact h.elim
def cJ(n:Nat)(L X:cV):Prop:=∀l,l<n->mB l X=mB l L
def cJ.refl(n:Nat)(L:cV):cJ n L L:=λ_ _=>rfl
def cJ.trans{n m:Nat}{L X W:cV}(h:cJ n L X)(k:cJ m X W)(R:n<=m):cJ n L W:=λl V=>(k l (by omega)).trans (h l V)
def axc(p:Sp)(O:aa):FL->kN->World->(Ending->World->Prop)->Prop
 |.fn g,X,W,V=>(∀X W,(callFunc g X).run p.P W=.ok (.enter g X) W)/\Calls p.P g X W V
 |.yl n,X,W,V=>∀(F:Fence)(_:pj F)(m:Nat),YieldAt F m p.P (O.y.getD n 0) X W V
structure kC where
 s:S
 O:aa
 V:ai
 L:cV
structure kC.pZ(B:kC)(s:S)(O:aa)(V:ai)(L:cV):Prop where
 later:bF B.s B.O B.V s O V
 SS:cJ B.s.aq B.L L
def kC.pZ.go{B:kC}{X:S}{W:aa}{Q:ai}{L P:cV}(h:B.pZ R N t L)(M:bF R N t X W Q)(H:cJ R.aq L P):B.pZ X W Q P:=⟨h.later.trans M,h.SS.trans H h.later.aq⟩
def SU(p:Sp)(z:bz)(D:bQ)(B:kC)(A:ot):Prop:=
 ∀(L:cV)(g:FL)(G:ah)(s:S)(k C:SV->S->T)(O:aa)(V:ai)(a:Act)(W:World)(H:Ending->World->Prop),B.pZ s O V L->
  (A g G s k C).aQ p O L->av p.S0 p.w0 D z.ty V O s a W->ek z.gl O->
  (∀v P X N Q M,bF s O V P X N->cJ s.aq L M->av p.S0 p.w0 D z.ty N X P a Q->(k v P).aQ p X M->H (.returned (v.den X N)) Q)->
  (∀v P X N Q M,bF s O V P X N->cJ s.aq L M->av p.S0 p.w0 D z.ty N X P a Q->(C v P).aQ p X M->H (.panicked [{v:=v.den X N,recovered:=E}]) Q)->
  (∀x Q w y,dG p.w0 D w y a.defers Q->p.R (.panicked x) Q->H (.panicked x) Q)->
  axc p O g (SV.aA O V G).toArray W H
section
variable{p:Sp}{z:bz}{A:ot}{F:Fence}{D:bQ}{ops:cT}
def akp{a:Act}(Q:av p.S0 p.w0 D z.ty t N R a b){d:Nat}(L:(ops[X]?).bind (·.dst)=U d):
  (∀P,R.tmps[d]?=U (.bool P)->yielded ops a.tmps X=U (P.den N))/\(R.tmps[d]?=U (.bH [])->yielded ops a.tmps X=Z):=by
 constructor;intro P M;rcases Q.tmps d _ M with h|h;cases h;simp[yielded,L,h,SV.den];intro M;rcases Q.tmps d _ M with h|h;cases h;simp[yielded,L,h,SV.den]
def SX{a:Act}(X:av p.S0 p.w0 D z.ty t N R a b)(Q:ek z.gl N){g:FuncId}(h:dA z R l=.call (.fn g) e)
  (H:∀e b,(callFunc g e).run p.P b=.ok (.enter g e) b):(execOp a.eval l).run p.P b=.ok (.enter g (SV.aA N t e).toArray) b:=by
 unfold dA at h;split at h;split at h<;>cases h;rename_i c G;split at h;rename_i f C;split at h;rename_i v u M;split at h;cases h;rename_i B;cases h;have L:=cu X Q f (by rw[M];rfl);rw[M,SV.den] at L;have A:c.args.map a.eval=(SV.aA N t (c.args.toList.map (R.ev z.gl))).toArray:=by
  apply aJu;simp only[aJy,nQ,aJo];exact aIY λx y=>cu X Q x (by
   cases w:(R.ev z.gl x).dP;rfl;exact absurd (aI7.2 ⟨x,y,w⟩) B)
 simp only[execOp,G,resolve,C,Sem.run_bind,L,Deferred.ofValue,Sem.run_pure,Result.andThen_ok,invoke,A,Sj];simp only[aLn,H,aIJ];split at h<;>cases h;cases h;cases h;split at h;split at h<;>cases h;cases h;cases h;cases h
def akq{a:Act}(Q:av p.S0 p.w0 D z.ty t N R a b)(M:ek z.gl N)(h:dA z R l=.call (.yl X) e):
  (execOp a.eval l).run p.P b=(Instr.yield (N.y.getD X 0) (SV.aA N t e).toArray).run p.P b:=by
 unfold dA at h;split at h;split at h<;>cases h;rename_i c G;split at h;rename_i f C;split at h;split at h<;>cases h;rename_i u L;split at h;cases h;rename_i B;cases h;have H:=cu Q M f (by rw[L];rfl);rw[L,SV.den] at H;have A:c.args.map a.eval=(SV.aA N t (c.args.toList.map (R.ev z.gl))).toArray:=by
  apply aJu;simp only[aJy,nQ,aJo];exact aIY λx w=>cu Q M x (by
   cases v:(R.ev z.gl x).dP;rfl;exact absurd (aI7.2 ⟨x,w,v⟩) B)
 simp[execOp,G,resolve,C,H,Deferred.ofValue,invoke,A];cases h;cases h;split at h;split at h<;>cases h;cases h;cases h;cases h
def aaS{s:S}{O:aa}{V:ai}{L:cV}{e:IE}{B:FuncId->ah->T}:∀{Q:bi}{P:ah},(Dg e B Q P).aQ p O L->∃g N,jA (e.den O) Q (SV.aA O V P)=.func (.func g) #[] (SV.aA O V N).toArray/\(B g N).aQ p O L
 |[],P,h=>by simp only[Dg] at h;exact h.elim
 |k::Q,[],h=>by simp only[Dg] at h;exact h.elim
 |k::Q,v::P,h=>by
  unfold Dg at h;split at h;rename_i A z g N y W R;simp only[aJH] at W R;obtain⟨rfl,rfl⟩:=W;obtain⟨rfl,rfl⟩:=R;simp only[T.aQ,BE.den,gg,IE.den] at h;by_cases X:e.den O=k;exact⟨g,N,by simp[SV.aA,SV.den,jA,X,io],h.1 (by simp[X])⟩;obtain⟨M,H,G,C⟩:=aaS (s:=s) (V:=V) (h.2 (by simp[X]));exact⟨M,H,by simp only[SV.aA,jA,X,if_false];exact G,C⟩;rename_i A z y W R;simp only[aJH] at W R;obtain⟨rfl,rfl⟩:=W;obtain⟨rfl,rfl⟩:=R;simp only[T.aQ,BE.den,gg,IE.den] at h;by_cases X:e.den O=k;exact(h.1 (by simp[X])).elim;obtain⟨M,H,G,C⟩:=aaS (s:=s) (V:=V) (h.2 (by simp[X]));exact⟨M,H,by simp only[SV.aA,jA,X,if_false];exact G,C⟩;exact h.elim
def axd{a:Act}(X:av p.S0 p.w0 D z.ty t N R a b)(L:ek z.gl N){Q:IE}{H:bi}{M G:ah}{g:FuncId}(h:zx z r R=U (Q,H,e,M))
  (v:jA (Q.den N) H (SV.aA N t e)=.func (.func g) #[] (SV.aA N t G).toArray)(u:∀M b,(callFunc g M).run p.P b=.ok (.enter g M) b):
  (execOp a.eval r.o).run p.P b=.ok (.enter g (SV.aA N t (M++G)).toArray) b/\∀c,r.o.op≠ .defer c:=by
 unfold zx at h;split at h;cases h;split at h;rename_i c C;split at h;rename_i f q;split at h;rename_i j i d B;split at h;cases h;rename_i A;simp only[aIZ,not_or] at A;cases h;have y:=cu X L f (by rw[B];rfl);rw[B,SV.den,v] at y;have n:c.args.map a.eval=(SV.aA N t (c.args.toList.map (R.ev z.gl))).toArray:=by
  apply aJu;simp only[aJy,nQ,aJo];exact aIY λx l=>cu X L x (by
   cases k:(R.ev z.gl x).dP;rfl;exact absurd (aI7.2 ⟨x,l,k⟩) A.1)
 refine⟨?_,λc' w=>by rw[C] at w;cases w⟩;simp only[execOp,C,resolve,q,Sem.run_bind,y,Deferred.ofValue,Sem.run_pure,Result.andThen_ok,invoke,n,Sj];simp only[aLn,u,aIJ];cases h;cases h;cases h
def akr{a:Act}(X:av p.S0 p.w0 D z.ty t N R a b)(G:ek z.gl N)(h:dA z R l=.bn v):
  (execOp a.eval l).run p.P b=.halt (.panic (v.den N t)) b:=by
 unfold dA at h;split at h;rename_i x H;split at h;rename_i Q y L;cases h;have M:=cu X G x (by rw[L];rfl);rw[L] at M;simp[execOp,H,M,SV.den,Instr.panic];cases h;rename_i c H;split at h;split at h;split at h<;>cases h;split at h<;>cases h;cases h;cases h;rename_i B;split at h;rename_i x L;split at h;rename_i Q y C;cases h;have M:=cu X G x (by rw[C];rfl);rw[C] at M;have:c.args.map a.eval= #[a.eval x]:=by apply aJu;simp[L]
 simp[execOp,H,resolve,B,invoke,builtin,this,M,SV.den,Instr.panic];cases h;cases h;cases h;cases h
def BP{a:Act}{V:World}{v:Value}{K:Act->World->Prop}{Q:Exit->Act->World->Prop}(O:pj F)(h:rz p.P l a b v V)(N:∀c,l.op≠ .defer c)(R:K (a.put l.dst v) V):l.wpIn F X p.P a b K Q:=by
 refine⟨λf _=>O.fn f, ?_⟩;rw[Oper.semAt_eq _ _ _ N];rcases h with h|⟨h,rfl⟩;rw[h];exact R;rw[h];exact R
def aaT{o:Oper}{bC X:Bool}{s:S}{b:BI}(h:dM z o bC X s=U b):∀c,o.op≠ .defer c:=by
 intro c A;simp[dM,A] at h
def axe{X:S->Fx->T}{W:Fx}{t:T}(h:zw z r R X W=U t):∀c,r.o.op≠ .defer c:=by
 intro c A;simp[zw,A] at h
def NF{X:S}(h:(fw z r R).gives N X):∀c,r.o.op≠ .defer c:=by
 intro c A;unfold fw at h;split at h;exact h.elim;rw[A] at h;simp[bO,qY,OR.gives] at h
def BQ(bf:p.ty=z.ty)(bg:Ju p.P z)(hF:pj F)(a1:iu p.P z.ty){B:kC}(hH:SU p z D B A){n:Nat}{k:S->T}{kp:SV->S->T}{Q:Exit->Act->World->Prop}(HP:∀ch a' N pd y,dG p.w0 D pd y a'.defers N->p.R (.panicked ch) N->Q (.panic ch) a' N):
  ∀(l:bY)(j:Nat)(s:S)(fx:Fx)(L:cV)(O:aa)(V:ai)(a:Act)(W:World),
   (∀i m,l[i]?=U m->ops[j+i]?=U m.o)->B.pZ s O V L->
   (mw z A ops k kp l s fx).aQ p O L->s7 O fx->av p.S0 p.w0 D z.ty V O s a W->ek z.gl O->
   (∀H O' V' a' N L',bF s O V H O' V'->cJ s.aq L L'->av p.S0 p.w0 D z.ty V' O' H a' N->(k H).aQ p O' L'->Q .normal a' N)->
   (∀v H O' V' a' N L',bF s O V H O' V'->cJ s.aq L L'->av p.S0 p.w0 D z.ty V' O' H a' N->(kp v H).aQ p O' L'->Q (.panic [{v:=v.den O' V',recovered:=E}]) a' N)->
   wpOpsIn F n p.P ops Q (aJV j (Y l)) a W
 |[],j,s,fx,L,O,V,a,W,_,_,h,_,R,_,hk,_=>hk s O V a W L (bF.refl _ _ _) (cJ.refl _ _) R h
 |m::al,j,s,fx,L,O,V,a,W,cc,hB,h,b3,R,hg,hk,a3=>by
  have ho:ops[j]?=U m.o:=by simpa using cc 0 m rfl
  have bl:∀i m',al[i]?=U m'->ops[j+1+i]?=U m'.o:=λi m' hi=>by
   have:=cc (i+1) m' (by simpa using hi)
   rwa [show j+(i+1)=j+1+i by omega] at this
  simp only[aJm,aKP,wpOpsIn,ho];have b6:∀an,s7 O an->
    (zA z A m s (mw z A ops k kp al) kp an).aQ p O L->
    m.o.wpIn F n p.P a W (wpOpsIn F n p.P ops Q (aJV (j+1) (Y al))) Q:=by
   intro an a4 h;unfold zA at h;have cl:∀g a0,(A (.fn g) a0 s (λv H=>mw z A ops k kp al (H.put m.o.dst v) (nN s an)) kp).aQ p O L->((∀a0 W,(callFunc g a0).run p.P W=.ok (.enter g a0) W)->(execOp a.eval m.o).run p.P W=.ok (.enter g (SV.aA O V a0).toArray) W)->(∀c,m.o.op≠ .defer c)->
     m.o.wpIn F n p.P a W (wpOpsIn F n p.P ops Q (aJV (j+1) (Y al))) Q:=by
    intro g a0 h b7 br;have hC:=hH L (.fn g) a0 s _ _ O V a W (λe N=>match e with
      |.returned v=>wpOpsIn F n p.P ops Q (aJV (j+1) (Y al)) (a.put m.o.dst v) N
      |.panicked ch=>Q (.panic ch) a N
      |.outgrown=>LetsOut Q) hB h R hg
     (λv H O' V' N L' X hL R' hs=>BQ bf bg hF a1 hH HP al (j+1) (H.put m.o.dst v) (nN s an) L' O' V' _ N bl (hB.go (X.put _ _) hL) hs
      (Gg R X.ext.agree a4) (R'.put m.o.dst v) (hg.ext X.ext)
      (λM G C a2 x w r af R2 ag=>hk M G C a2 x w ((X.put _ _).trans r) (hL.trans af (X.put _ _).aq) R2 ag)
      (λv2 M G C a2 x w r af R2 ag=>a3 v2 M G C a2 x w ((X.put _ _).trans r) (hL.trans af (X.put _ _).aq) R2 ag))
     (λv H O' V' N L' X hL R' hs=>a3 v H O' V' a N L' X hL R' hs)
     (λch N pd y hA hR=>HP ch a N pd y hA hR)
    obtain⟨b0,b8⟩:=hC;refine⟨λf _=>hF.fn f, ?_⟩;rw[Oper.semAt_eq _ _ _ br,b7 b0];rw[Oper.uponIn_enter];refine⟨λhd=>by rw[hF.xW] at hd;simp at hd,CallsIn.mono (hF.calls b8) (λe N he=> ?_)⟩;cases e<;>exact he
   split at h;rename_i e ks vs a0 cp;obtain⟨g,cv,q1,q2⟩:=aaS (s:=s) (V:=V) h;refine cl g (a0++cv) q2 (λb0=>(axd R hg cp q1 b0).1) ?_;intro c bs;simp[zx,bs] at cp;split at h;rename_i u hu;obtain⟨ay,hr,h⟩:=h;obtain⟨a0,tv,b7,br,b8⟩:=aw9 bg R hg hu hr;refine⟨λf _=>hF.fn f, ?_⟩;rw[Oper.semAt_eq _ _ _ br,b7];rw[Oper.uponIn_enter];refine⟨λhd=>by rw[hF.xW] at hd;simp at hd,CallsIn.mono (hF.calls b8) (λe N he=> ?_)⟩;obtain⟨rfl,R',X⟩:=he;exact BQ bf bg hF a1 hH HP al (j+1) u.s (nN s an) L _ V _ N bl (hB.go X (cJ.refl _ _)) h (Gg R X.ext.agree a4) R' (hg.ext X.ext)
    (λM G C a2 x w r af R2 ag=>hk M G C a2 x w (X.trans r) ((cJ.refl _ _).trans af X.aq) R2 ag)
    (λv2 M G C a2 x w r af R2 ag=>a3 v2 M G C a2 x w (X.trans r) ((cJ.refl _ _).trans af X.aq) R2 ag)
   split at h;rename_i g a0 b1;exact cl g a0 h (λb0=>SX R hg b1 b0) (λc bs=>by simp[dA,bs] at b1);rename_i yn a0 b1;split at h;have hC:=hH L (.yl yn) a0 s _ _ O V a W (λe N=>match e with
    |.returned v=>wpOpsIn F n p.P ops Q (aJV (j+1) (Y al)) (a.put m.o.dst v) N
    |.panicked ch=>Q (.panic ch) a N
    |.outgrown=>LetsOut Q) hB h R hg
    (λv H O' V' N L' X hL R' hs=>BQ bf bg hF a1 hH HP al (j+1) (H.put m.o.dst v) (nN s an) L' O' V' _ N bl (hB.go (X.put _ _) hL) hs
     (Gg R X.ext.agree a4) (R'.put m.o.dst v) (hg.ext X.ext)
     (λM G C a2 x w r af R2 ag=>hk M G C a2 x w ((X.put _ _).trans r) (hL.trans af (X.put _ _).aq) R2 ag)
     (λv2 M G C a2 x w r af R2 ag=>a3 v2 M G C a2 x w ((X.put _ _).trans r) (hL.trans af (X.put _ _).aq) R2 ag))
    (λv H O' V' N L' X hL R' hs=>a3 v H O' V' a N L' X hL R' hs)
    (λch N pd y hA hR=>HP ch a N pd y hA hR)
   obtain⟨fn,cC,assign,body,hy,cx⟩:=hC F hF (n-1);refine⟨λf _=>hF.fn f, ?_⟩;have br:∀c,m.o.op≠ .defer c:=λc bs=>by simp[dA,bs] at b1
   rw[Oper.semAt_eq _ _ _ br,akq R hg b1,hy];rw[Oper.uponIn_round];refine⟨λhd=>by rw[hF.xW] at hd;simp at hd,RoundIn.mono cx (λe N he=> ?_)⟩;cases e<;>exact he;exact h.elim;rename_i v cs;refine⟨λf _=>hF.fn f, ?_⟩;have br:∀c,m.o.op≠ .defer c:=λc bs=>by simp[dA,bs] at cs
   rw[Oper.semAt_eq _ _ _ br,akr R hg cs];exact a3 v s O V a W L (bF.refl _ _ _) (cJ.refl _ _) R h;exact h.elim;have b4:∀H b5,s7 O b5->(fw z m s).gives O H->(mw z A ops k kp al H b5).aQ p O L->m.o.wpIn F n p.P a W (wpOpsIn F n p.P ops Q (aJV (j+1) (Y al))) Q:=by
    intro H b5 cy ct hs;obtain⟨v,N,V',b2,R',X⟩:=Nx R a1 hg m ct;exact BP hF b2 (NF ct) (BQ bf bg hF a1 hH HP al (j+1) H b5 L O V' _ N bl (hB.go X (cJ.refl _ _)) hs cy R' hg
     (λM G C a2 x w r af R2 ag=>hk M G C a2 x w (X.trans r) ((cJ.refl _ _).trans af X.aq) R2 ag)
     (λv2 M G C a2 x w r af R2 ag=>a3 v2 M G C a2 x w (X.trans r) ((cJ.refl _ _).trans af X.aq) R2 ag))
   split at h;rename_i t ht;obtain⟨v,N,O',V',H,a9,b2,R',X,bb,h2⟩:=awZ R a1 hg a4 ht h;exact BP hF b2 (axe ht) (BQ bf bg hF a1 hH HP al (j+1) H a9 L O' V' _ N bl (hB.go X (cJ.refl _ _)) h2 bb R' (hg.ext X.ext)
    (λM G C a2 x w r af R2 ag=>hk M G C a2 x w (X.trans r) ((cJ.refl _ _).trans af X.aq) R2 ag)
    (λv2 M G C a2 x w r af R2 ag=>a3 v2 M G C a2 x w (X.trans r) ((cJ.refl _ _).trans af X.aq) R2 ag))
   split at h;rename_i b hb;obtain⟨hn,h⟩:=h;obtain⟨v,N,rv,b2,cA,R',X⟩:=aaB R a1 hg hb hn;exact BP hF b2 (aaT hb) (BQ bf bg hF a1 hH HP al (j+1) b.s (nN s an) L _ V _ N bl (hB.go X (cJ.refl _ _)) (h rv (by rw[bf];exact cA)) (Gg R X.ext.agree a4) R' (hg.ext X.ext)
    (λM G C a2 x w r af R2 ag=>hk M G C a2 x w (X.trans r) ((cJ.refl _ _).trans af X.aq) R2 ag)
    (λv2 M G C a2 x w r af R2 ag=>a3 v2 M G C a2 x w (X.trans r) ((cJ.refl _ _).trans af X.aq) R2 ag))
   split at h;rename_i H bt;exact b4 H an a4 (by rw[bt];rfl) h;rename_i b H bt;exact b4 H an a4 (by rw[bt];exact⟨h.1,rfl⟩) h.2;rename_i b s1 M bt;obtain⟨a9,bb,h2⟩:=aaR a4 h;cases hb:b.den O;exact b4 M a9 bb (by rw[bt];simp[OR.gives,hb]) (by simpa[hb] using h2);exact b4 s1 a9 bb (by rw[bt];simp[OR.gives,hb]) (by simpa[hb] using h2);exact h.elim
  have ca:∀an,s7 O an->(mw z A ops k kp al (s.put m.o.dst (.bH [])) an).aQ p O L->wpOpsIn F n p.P ops Q (aJV (j+1) (Y al)) (a.put m.o.dst undef) W:=
   λan a4 h=>BQ bf bg hF a1 hH HP al (j+1) _ an L O V _ W bl (hB.go ((bF.refl _ _ _).put _ _) (cJ.refl _ _)) h a4 (R.put m.o.dst (.bH [])) hg
    (λM G C a2 x w r af R2 ag=>hk M G C a2 x w (((bF.refl _ _ _).put _ _).trans r) ((cJ.refl _ _).trans af ((bF.refl s O V).put _ _).aq) R2 ag)
    (λv2 M G C a2 x w r af R2 ag=>a3 v2 M G C a2 x w (((bF.refl _ _ _).put _ _).trans r) ((cJ.refl _ _).trans af ((bF.refl s O V).put _ _).aq) R2 ag)
  simp only[mw,RW] at h;cases bk:m.o.guard with
  |none=>
   rw[bk] at h;have:Region.wanted m.o (yielded ops a.tmps)=true:=by simp[Region.wanted,bk]
   rw[if_pos this];exact b6 fx b3 h
  |some q=>
   obtain⟨jj,cB⟩:=q;rw[bk] at h;simp only at h;split at h;rename_i d hd;have hy:=akp R hd;split at h;rename_i b hb;have bx:=hy.1 b hb;cases cB;simp only[aIU,if_false] at h;obtain⟨a9,bb,h2⟩:=aaR b3 h;cases bd:b.den O;have:Region.wanted m.o (yielded ops a.tmps)=true:=by simp[Region.wanted,bk,bx,bd]
   rw[if_pos this];exact b6 a9 bb (by simpa[bd] using h2);have:¬Region.wanted m.o (yielded ops a.tmps)=true:=by simp[Region.wanted,bk,bx,bd]
   rw[if_neg this];exact⟨λf _=>hF.fn f,ca a9 bb (by simpa[bd] using h2)⟩;simp only[if_true] at h;obtain⟨a9,bb,h2⟩:=aaR b3 h;cases bd:b.den O;have:¬Region.wanted m.o (yielded ops a.tmps)=true:=by simp[Region.wanted,bk,bx,bd]
   rw[if_neg this];exact⟨λf _=>hF.fn f,ca a9 bb (by simpa[bd] using h2)⟩;have:Region.wanted m.o (yielded ops a.tmps)=true:=by simp[Region.wanted,bk,bx,bd]
   rw[if_pos this];exact b6 a9 bb (by simpa[bd] using h2);rename_i hb;have bx:=hy.2 hb;have:¬Region.wanted m.o (yielded ops a.tmps)=true:=by simp[Region.wanted,bk,bx]
   rw[if_neg this];exact⟨λf _=>hF.fn f,ca fx b3 h⟩;exact h.elim;exact h.elim
end
section
variable{d:ai}{m:World}{D:bQ}{o:Ty}{V:ai}{O:aa}{s:S}{a:Act}{W:World}
def SY(X:ai):∀(l:bw)(n i:Nat),(pQ X n l)[i]?=(l[i]?).map λx=>if X.contains (n+i) then x else Z
 |[],n,i=>by simp[pQ]
 |x::R,n,0=>by simp[pQ]
 |x::R,n,i+1=>by
  simp only[pQ,aJa];rw[SY X R (n+1) i,show n+1+i=n+(i+1) by omega]
def aaU:∀(l:bw)(i:Nat),bU (ur l) i=bU l i
 |[],i=>rfl
 |x::R,i=>by
  have X:=aaU R;simp only[ur];split;rename_i Q;cases i with
  |zero=>simp[cw]
  |succ i=>
   have:=X i;rw[Q] at this;simpa[cw] using this
  cases i with
  |zero=>simp[cw]
  |succ i=>simpa[cw] using X i
def aks{l:bw}{b:TypeId×ah}(h:bU (ur (pQ t 0 l)) X=U b):bU l X=U b:=by
 rw[aaU,i8,SY] at h;rw[i8];cases R:l[X]? with
 |none=>rw[R] at h;cases h
 |some x=>
  rw[R] at h;simp only[aII,aID] at h;split at h;rw[h];cases h
def SZ{l:bw}(h:aL (ur (pQ t 0 l)) X=J):aL l X=true:=by
 obtain⟨b,R⟩:=aIS.1 h;simp[aL,aks R]
def jB.Z2{P:bw}{N:bc}(R:jB d m V O P o N W)(L:ai):jB d m V O (ur (pQ L 0 P)) o N W:=
 ⟨R.base,λi h=>R.own i (SZ h),λi j X Q=>R.inj i j (SZ X) (SZ Q),λi t H h=>R.box i t H (aks h),
  λk e M X Q=>⟨(R.ref k e M X Q).1,λb G i F=>(R.ref k e M X Q).2 b G i (SZ F)⟩⟩
def akt{l:bw}{i:Nat}{b:TypeId×ah}(h:bU (ur (l.take X)) i=U b):bU l i=U b:=by
 rw[aaU,i8,aI6] at h;rw[i8];split at h;exact h;cases h
def S2{l:bw}{i:Nat}(h:aL (ur (l.take X)) i=J):aL l i=true:=by
 obtain⟨b,R⟩:=aIS.1 h;simp[aL,akt R]
def jB.take{P:bw}{N:bc}(R:jB d m V O P o N W)(n:Nat):jB d m V O (ur (P.take n)) o N W:=
 ⟨R.base,λi h=>R.own i (S2 h),λi j X Q=>R.inj i j (S2 X) (S2 Q),λi t L h=>R.box i t L (akt h),
  λk e M X Q=>⟨(R.ref k e M X Q).1,λb H i G=>(R.ref k e M X Q).2 b H i (S2 G)⟩⟩
def we:∀(X:aP)(s:S),(s.bS X).2.boxes=s.boxes/\(s.bS X).2.tmps=s.tmps/\(s.bS X).2.aq=s.aq/\(s.bS X).2.lk=s.lk
 |[],s=>⟨rfl,rfl,rfl,rfl⟩
 |k::X,s=>by
  simp only[S.bS];obtain⟨R,Q,P,N⟩:=we X (s.fresh k).2;cases k<;>exact⟨R,Q,P,N⟩
def aaV:∀(X:aP)(s:S),(s.bS X).2.pd=s.pd
 |[],s=>rfl
 |k::X,s=>by
  simp only[S.bS];rw[aaV X (s.fresh k).2];cases k<;>rfl
def Jv:∀(X:aV)(O:aa),(O.ext X).y=O.y
 |[],O=>rfl
 |x::X,O=>by
  simp only[aa.ext];rw[Jv X (O.add x)];cases x<;>rfl
def aku:∀(X:aP)(s:S)(k:Nat)(e:RK),s.rs[k]?=U e->(s.bS X).2.rs[k]?=U e
 |[],s,k,e,h=>h
 |q::X,s,k,e,h=>by
  simp only[S.bS];refine aku X _ k e ?_;cases q;exact h;exact h;simp only[S.fresh];rw[aIB (aIz.1 h).1];exact h
def xX:∀(X:aP)(R:aV)(s:S)(O:aa),dU X R->Y O.i=s.ni->Y O.b=s.nb->Y O.r=Y s.rs->
  (O.ext R).i.length=(s.bS X).2.ni/\(O.ext R).b.length=(s.bS X).2.nb/\(O.ext R).r.length=(s.bS X).2.rs.length
 |[],[],s,O,_,Q,P,N=>⟨Q,P,N⟩
 |[],_::_,_,_,h,_,_,_=>by simp[dU] at h
 |_::_,[],_,_,h,_,_,_=>by simp[dU] at h
 |k::X,x::R,s,O,h,Q,P,N=>by
  obtain⟨L,M⟩:=h;simp only[S.bS,aa.ext];cases k<;>cases x<;>simp[pT] at L;exact xX X R _ _ M (by simp[S.fresh,aa.add,Q]) (by simp[S.fresh,aa.add,P]) (by simp[S.fresh,aa.add,N]);exact xX X R _ _ M (by simp[S.fresh,aa.add,Q]) (by simp[S.fresh,aa.add,P]) (by simp[S.fresh,aa.add,N]);exact xX X R _ _ M (by simp[S.fresh,aa.add,Q]) (by simp[S.fresh,aa.add,P]) (by simp[S.fresh,aa.add,N])
def Gh{PP:RK->RV->Prop}:∀(R:aP)(Q:aV)(s:S)(O:aa),dU R Q->Y O.r=Y s.rs->
  (∀(q:Nat)(e:RK)(X:RV),R[q]?=U (.ref e)->Q[q]?=U (.r X)->PP e X)->(∀(k:Nat)(e:RK)(X:RV),s.rs[k]?=U e->O.r[k]?=U X->PP e X)->
  ∀(k:Nat)(e:RK)(X:RV),(s.bS R).2.rs[k]?=U e->(O.ext Q).r[k]?=U X->PP e X
 |[],[],s,O,_,_,_,M=>M
 |[],_::_,_,_,h,_,_,_=>by simp[dU] at h
 |_::_,[],_,_,h,_,_,_=>by simp[dU] at h
 |k::R,x::Q,s,O,h,L,C,M=>by
  obtain⟨H,G⟩:=h;have F:∀(q:Nat)(e:RK)(X:RV),R[q]?=U (.ref e)->Q[q]?=U (.r X)->PP e X:=λq e X P N=>C (q+1) e X (by simpa using P) (by simpa using N)
  simp only[S.bS,aa.ext];cases k<;>cases x<;>simp[pT] at H;exact Gh R Q _ _ G (by simp[S.fresh,aa.add,L]) F (by simpa[S.fresh,aa.add] using M);exact Gh R Q _ _ G (by simp[S.fresh,aa.add,L]) F (by simpa[S.fresh,aa.add] using M);rename_i B A;refine Gh R Q _ _ G (by simp[S.fresh,aa.add,L]) F ?_;intro k e X P N;simp only[S.fresh,aa.add] at P N;by_cases H:k<Y s.rs;rw[aIB H] at P;rw[aIB (by omega)] at N;exact M k e X P N;have z:k=Y s.rs:=by
   have:=(aIz.1 P).1;simp at this;omega
  subst z;simp at P;rw[<-L] at N;simp at N;subst P N;exact C 0 B A rfl rfl
def Dx:aP->Nat
 |[]=>0
 |.ref _::X=>Dx X+1
 |_::X=>Dx X
def Jw:∀(R:aP)(P:aV)(s:S)(O:aa),dU R P->Y O.r=Y s.rs->
  ∀(k:Nat)(e:RK)(Q:RV),(s.bS R).2.rs[k]?=U e->(O.ext P).r[k]?=U Q->(s.rs[k]?=U e/\O.r[k]?=U Q)\/∃q:Nat,R[q]?=U (.ref e)/\P[q]?=U (.r Q)/\k=Y s.rs+Dx (R.take q)
 |[],[],s,O,_,_,k,e,Q,N,M=>.inl ⟨N,M⟩
 |[],_::_,_,_,h,_,_,_,_,_,_=>by simp[dU] at h
 |_::_,[],_,_,h,_,_,_,_,_,_=>by simp[dU] at h
 |C::R,x::P,s,O,h,G,k,e,Q,N,M=>by
  obtain⟨B,F⟩:=h;simp only[S.bS,aa.ext] at N M;cases C<;>cases x<;>simp[pT] at B;rcases Jw R P _ _ F (by simp[S.fresh,aa.add,G]) k e Q N M with X|⟨q,X⟩;exact .inl (by simpa[S.fresh,aa.add] using X);exact .inr ⟨q+1,by simpa[S.fresh,Dx] using X⟩;rcases Jw R P _ _ F (by simp[S.fresh,aa.add,G]) k e Q N M with X|⟨q,X⟩;exact .inl (by simpa[S.fresh,aa.add] using X);exact .inr ⟨q+1,by simpa[S.fresh,Dx] using X⟩;rename_i y w;rcases Jw R P _ _ F (by simp[S.fresh,aa.add,G]) k e Q N M with⟨L,H⟩|⟨q,X⟩;simp only[S.fresh,aa.add] at L H;by_cases A:k<Y s.rs;rw[aIB A] at L;rw[aIB (by omega)] at H;exact .inl ⟨L,H⟩;have z:k=Y s.rs:=by
   have:=(aIz.1 L).1;simp at this;omega
  subst z;simp at L;rw[<-G] at H;simp at H;subst L H;exact .inr ⟨0,rfl,rfl,by simp[Dx]⟩;refine .inr ⟨q+1,by simpa using X.1,by simpa using X.2.1, ?_⟩;have:=X.2.2;simp[S.fresh] at this;simp[Dx];omega
def akv:∀{ks:aP}{q:Nat}{e:RK},ks[q]?=U (.ref e)->M1 ks=J
 |[],q,e,h=>by simp at h
 |k::ks,0,e,h=>by simp at h;subst h;rfl
 |k::ks,q+1,e,h=>by
  have:=akv (ks:=ks) (q:=q) (by simpa using h);cases k<;>first|exact this|rfl
def S3:∀{R:aP}{q:Nat}{k:LK},ov R=J->R[q]?=U k->FX k=J
 |[],q,k,_,h=>by simp at h
 |Q::R,0,k,X,h=>by simp only[ov,aIy] at X;simp at h;subst h;exact X.1
 |Q::R,q+1,k,X,h=>by simp only[ov,aIy] at X;exact S3 X.2 (by simpa using h)
def aaW{B:Nat}{M:Nat->Prop}:∀{N:aP}{P:aV},I5 o W B M N P->∀(q:Nat)(e:RK)(X:RV),N[q]?=U (.ref e)->P[q]?=U (.r X)->bu W o e X/\∀b,db o e X b->B<=b\/M b
 |[],P,_,q,e,X,R,_=>by simp at R
 |_::_,[],_,q,e,X,_,Q=>by simp at Q
 |k::N,x::P,h,0,e,X,R,Q=>by simp at R Q;subst R Q;exact h.1
 |k::N,x::P,h,q+1,e,X,R,Q=>aaW h.2 q e X (by simpa using R) (by simpa using Q)
def av.called(R:av d m D o V O s a W)(v:s.bd=J){P:aP}(g:ov P=J){M:aV}(B:dU P M)(u:Below W.heap.size W b){f:Nat->Prop}(c:∀X,f X->O.oz o s.rs X/\∀(k:Nat)(e:TypeId)(Q:RV),s.rs[k]?=U (.own e)->O.r[k]?=U Q->Q.jR=U X->M1 P=E)
  (hh:I5 o b W.heap.size f P M):
  av d m D o V (O.ext M) (s.bS P).2 a b:=by
 obtain⟨L,e2,e3,e4⟩:=we P s;obtain⟨l1,l2,l3⟩:=xX P M s O B R.ei R.eb R.er;obtain⟨af,ag⟩:=R.xQ v;have hE:=BK s.boxes O M V;have H:=R.mem.below u;refine⟨⟨H.base,by rw[L];exact H.own,by rw[L];exact H.inj, ?_, ?_⟩,by rw[L];exact R.fH,l1,l2,l3,by rw[Jv,aaV];exact R.cM.below u,by rw[e2];exact R.size, ?_, ?_⟩;rw[L];intro i t cs h;rw[hE.cL (rp ag h)];exact H.box i t cs h;rw[L];refine Gh (PP:=λe Q=>bu b o e Q/\∀X,db o e Q X->∀i,aL s.boxes i=J->ad V i≠X) P M s O B R.er ?_ (λk e Q N G=>H.ref k e Q N G);intro q e Q N G;obtain⟨A,h4⟩:=aaW hh q e Q N G;refine⟨A,λX v i hi=> ?_⟩;rcases h4 X v with F|F;have:=R.mem.lt hi;omega;obtain⟨⟨k,z,hk,hx⟩,-⟩:=c X F;exact(R.mem.ref k _ _ hk (s6 R hk)).2 X hx i hi;rw[e2];intro t sv h;rcases R.tmps t sv h with N|N;exact .inl N;right;rw[hE.den (ux af h)];exact N;rw[L];intro k e Q X N G A;rcases Jw P M s O B R.er k _ Q N G with⟨y,n⟩|⟨q,y,n,-⟩;have t:=R.fl k e Q X y n A;have x:=t.world (u.block X t.lt);refine⟨x.own,x.mem,x.box,λk' z l q1 q2 q3 w=> ?_,x.inner⟩;rcases Jw P M s O B R.er k' z l q2 q3 with⟨C,j⟩|⟨q,C,j,-⟩;exact t.alone k' z l q1 C j w;have hr:=akv C;obtain⟨p3,p4⟩:=aaW hh q z l C j;rcases w with w|⟨⟨t0,rfl⟩,_⟩;rcases p4 X w with F|F;have:=t.lt;omega;have:=(c X F).2 k e Q y n A;rw[hr] at this;cases this;have:=S3 g C;simp[FX] at this;have:=S3 g y;simp[FX] at this
def akw(R:av d m D o V O s a W){G:aP}(h:O.oz o (M3 e s.rs) X):
  O.oz o (Bs e G s.rs) X/\∀(k:Nat)(Q:TypeId)(H:RV),(Bs e G s.rs)[k]?=U (.own Q)->O.r[k]?=U H->H.jR=U X->M1 G=false:=by
 obtain⟨N,u,P,B⟩:=h;unfold M3 at P;rw[aam] at P;cases M:s.rs[N]? with
 |none=>rw[M] at P;cases P
 |some x=>
  rw[M] at P;simp only[aI8,aII,aID] at P;have A:=ajz ((M2 e (Y s.rs)).contains N) x;rw[P] at A;have L:db o x (O.rv N) X:=B.mc A;refine⟨?_,λk Q H F w q3=> ?_⟩;unfold Bs;split;refine⟨N,xF ((M2 e (Y s.rs)).contains N) x,by rw[Jj,M];simp, ?_⟩;cases x<;>simp only[xF]<;>try exact L
  split;cases L with
  |own Q H X L=>exact L
  exact L;exact⟨N,x,M,L⟩;unfold Bs at F;split at F;rename_i z;exfalso;obtain⟨C,v⟩:=aas F;by_cases y:N=k;subst y;rw[M] at C;cases C;simp only[MV] at P;rw[if_neg (by simpa using v)] at P;subst P;cases B;exact(R.fl k Q H X C w q3).alone N x (O.rv N) y M (s6 R M) (.inl L);rename_i z;simpa using z
def Dy(R:ah)(Q:aP)(X:bc):oA X (Bs R Q X):=by
 unfold Bs;split;exact Sz _ _;exact oA.refl _
end
section
variable{p:Sp}{c:bz}
def akx(x:p.ty=c.ty)(q:∀g,(c.sig g).isSome=J->∀X W,(callFunc g X).run p.P W=.ok (.enter g X) W)
  (D:bQ)(L:cV)(g:FuncId)(X:ah)(s:S)(k:SV->S->T)(O:aa)(V:ai)(a:Act)(W:World)(C:Ending->World->Prop)
  (h:(xJ c g X s k).aQ p O L)(R:av p.S0 p.w0 D c.ty V O s a W)
  (n:∀v B H A Q w,bF s O V B H A->cJ s.aq L w->av p.S0 p.w0 D c.ty A H B a Q->(k v B).aQ p H w->C (.returned (v.den H A)) Q)
  (j:∀G Q i y,dG p.w0 D i y a.defers Q->p.R (.panicked G) Q->C (.panicked G) Q):
  (∀X W,(callFunc g X).run p.P W=.ok (.enter g X) W)/\Calls p.P g (SV.aA O V X).toArray W C:=by
 unfold xJ at h;split at h;rename_i ts f;refine⟨q g (by rw[f];rfl), ?_⟩;split at h;rename_i M ag;split at h;rename_i l hl;split at h;rename_i N;simp only[S.dZ,aIy] at N;obtain⟨N,af⟩:=N;simp only[T.aQ] at h;have:=h O.y V W (by rw[x];exact(R.mem.Z2 _).mc (ajA _ _));refine this.mono ?_;intro e Q F;cases e with
 |returned v=>
  obtain⟨z,h1,u,h3,t,h5⟩:=F;rw[x] at t;obtain⟨r,e2,e3,e4⟩:=we M (s.cut X M);have hy:(O.ext z).at O.y=O.ext z:=by have:=Jv z O;unfold aa.at;rw[<-this]
  rw[hy] at u;subst u;have R1:av p.S0 p.w0 D c.ty V O (s.cut X M) a W:=R.mc (Dy X M s.rs);exact n _ _ _ V Q L ⟨BK _ _ _ _,by rw[r];exact λ_ h=>h,by rw[r];exact aIG _,by rw[e3];exact aIG _⟩ (cJ.refl _ _) (R1.called (Nw N.1 (Dy X M s.rs).len) af h1 h3 (λb N=>akw R N) t) h5
 |panicked G=>exact j G Q _ _ (R.cM.below F.1) F.2
 |outgrown=>exact F.elim
 exact h.elim;exact h.elim;exact h.elim;exact h.elim
def aaX{d:ai}{m:World}{D:bQ}{V:ai}{O:aa}{s:S}{a:Act}{W:World}(R:av d m D c.ty V O s a W)(M:iu p.P c.ty)(f:ResultVar->Sem Value)(L:∀t,f (.tmp t)=pure (a.tmps.getD t undef))(H:∀x t,f (.cell x t)=(asAddr (a.tmps.getD x undef)>>=λy=>loadVar t y)):
  ∀(X:pO)(l:ah),sQ c s X=U l->(X.mapM f).run p.P W=.ok (SV.aA O V l) W
 |[],l,h=>by simp[sQ] at h;subst h;rfl
 |.tmp t::X,l,h=>by
  simp only[sQ] at h;split at h;rename_i G F;split at h;cases h;rename_i A;cases h;have N:=cu (gl:=[]) R (λ_ Q=>by cases Q) (.tmp t) (by simpa[S.ev,vM] using A);simp only[Act.eval,S.ev,vM] at N;simp only[aLS,Sem.run_bind,L,Sem.run_pure,Result.andThen_ok,aaX R M f L H X G F,SV.aA,N];cases h
 |.cell x t::X,l,h=>by
  simp only[sQ] at h;split at h;rename_i G i k g F Q z;split at h;rename_i w u C;split at h;rename_i v r;cases h;have N:=cu (gl:=[]) R (λ_ Q=>by cases Q) (.tmp x) (by simp only[S.ev,vM,Q];rfl);simp only[Act.eval,S.ev,vM,Q,SV.den] at N;have B:=Sq (P:=p.P) (W:=W) (M _ _ z) (O:=O) (V:=V) (b:=ad V i) (base:=0) r (λj y q=>by
   obtain⟨C,n⟩:=xP C;have:=R.mem.box i w u C;rw[rq n] at this;simp[World.cell?,this,rk,q])
  simp only[Instr.loadAt,Instr.sureAddr,aI8,Sem.run_bind,Sem.run_pure,Result.andThen_ok] at B;simp only[aLS,Sem.run_bind,H,N,asAddr,Sem.run_pure,Result.andThen_ok,B,aaX R M f L H X G F,SV.aA];cases h;cases h;cases h
def NG{D:bQ}{V:ai}{a:Act}{W:World}(X:av t b D c.ty V N R a W)(M:iu p.P c.ty){Q:Func}{l:ah}(h:sQ c R Q.results.toList=U l):
  (results Q a.tmps).run p.P W=.ok ((one l).den N V) W:=by
 unfold results;rw[aLy];simp only[Sem.run_bind,Sem.run_map];rw[aaX X M _ (λ_=>rfl) (λ_ _=>rfl) Q.results.toList l h];simp only[Result.andThen_ok,Sem.run_pure];congr 1
 match l with
 |[]=>rfl
 |[v]=>rfl
 |v::w::r=>rfl
end
section
variable{d:ai}{m:World}{D:bQ}{ty:Ty}{V:ai}{O:aa}{s:S}{a:Act}{W:World}
def XV.at(k:LK):XV->Value
 |.i n=>match k with
  |.int k=>.int k n
  |_=>undef
 |.b x=>.bool x
 |.r v=>v.val
def XV.NH(k:LK)(x:XV):RV:=match x with
 |.r v=>v
 |x=>.mk (x.at k) []
def axf{k:LK}(h:Br R k v=J):(v.xv N).NH k=v.gr N t:=by
 unfold Br at h;split at h;simp at h;subst h;rfl;rfl;rfl;rfl;rfl;rfl;cases h
def aky{V1:ai}{k:LK}(h:Br R k v=J):(v.xv N).at k=v.den N V1/\pT k (v.xv N):=by
 unfold Br at h;split at h;simp at h;subst h;exact⟨rfl,trivial⟩;exact⟨rfl,trivial⟩;exact⟨rfl,trivial⟩;exact⟨rfl,trivial⟩;exact⟨rfl,trivial⟩;exact⟨rfl,trivial⟩;cases h
def akz{N:S}:∀{X:aP}{R:ah},rf N X R=J->Y X=Y R/\∀(q:Nat)(k:LK)(v:SV),X[q]?=U k->R[q]?=U v->Br N k v=J
 |[],[],_=>⟨rfl,λq k v h _=>by simp at h⟩
 |[],_::_,h=>by simp[rf] at h
 |_::_,[],h=>by simp[rf] at h
 |k::X,v::R,h=>by
  simp only[rf,aIy] at h;obtain⟨M,L⟩:=akz h.2;refine⟨by simp[M],λq H G Q P=> ?_⟩;cases q with
  |zero=>simp at Q P;subst Q P;exact h.1
  |succ q=>exact L q H G (by simpa using Q) (by simpa using P)
def aaY{Q:S}{O1:aa}:∀{X:aP}{R:ah},rf Q X R=J->dU X (R.map (SV.xv O1))
 |[],[],_=>trivial
 |[],_::_,h=>by simp[rf] at h
 |_::_,[],h=>by simp[rf] at h
 |k::X,v::R,h=>by
  simp only[rf,aIy] at h;exact⟨(aky (V1:=[]) h.1).2,aaY h.2⟩
def S4:∀(R:aP)(X:aV)(s:S)(O:aa),dU R X->Y O.i=s.ni->Y O.b=s.nb->Y O.r=Y s.rs->
  ∀(q:Nat)(k:LK)(x:XV)(v:SV),R[q]?=U k->X[q]?=U x->(s.bS R).1[q]?=U v->v.den (O.ext X) V=x.at k/\v≠ .any
 |[],_,_,_,_,_,_,_,q,k,x,v,h,_,_=>by simp at h
 |_::_,[],_,_,h,_,_,_,q,k,x,v,_,_,_=>by simp[dU] at h
 |C::R,G::X,s,O,B,M,L,H,0,k,x,v,Q,P,N=>by
  obtain⟨A,F⟩:=B;simp only[S.bS,aJr,aID] at Q P N;subst Q P N;have z:=Dp X (O.add G);simp only[aa.ext];cases C<;>cases G<;>simp[pT] at A;refine⟨?_,by simp[S.fresh]⟩;simp only[S.fresh,SV.den,IE.den,XV.at];rw[z.i _ (by simp[aa.add,M])];simp[aa.add,<-M];refine⟨?_,by simp[S.fresh]⟩;simp only[S.fresh,SV.den,BE.den,XV.at];rw[z.b _ (by simp[aa.add,L])];simp[aa.add,<-L];refine⟨?_,by simp[S.fresh]⟩;simp only[S.fresh,SV.den,RE.den,RE.rv,XV.at];rw[z.r _ (by simp[aa.add,H])];simp[aa.add,aa.rv,<-H]
 |C::R,G::X,s,O,B,M,L,H,q+1,k,x,v,Q,P,N=>by
  obtain⟨A,F⟩:=B;simp only[S.bS,aJa] at Q P N;simp only[aa.ext];cases C<;>cases G<;>simp[pT] at A;exact S4 R X _ _ F (by simp[S.fresh,aa.add,M]) (by simp[S.fresh,aa.add,L]) (by simp[S.fresh,aa.add,H]) q k x v Q P N;exact S4 R X _ _ F (by simp[S.fresh,aa.add,M]) (by simp[S.fresh,aa.add,L]) (by simp[S.fresh,aa.add,H]) q k x v Q P N;exact S4 R X _ _ F (by simp[S.fresh,aa.add,M]) (by simp[S.fresh,aa.add,L]) (by simp[S.fresh,aa.add,H]) q k x v Q P N
def S5:∀(R:aP)(X:aV)(s:S)(O:aa),dU R X->Y O.i=s.ni->Y O.b=s.nb->Y O.r=Y s.rs->
  ∀(q:Nat)(k:LK)(x:XV)(v:SV),R[q]?=U k->X[q]?=U x->(s.bS R).1[q]?=U v->v.gr (O.ext X) V=x.NH k
 |[],_,_,_,_,_,_,_,q,k,x,v,h,_,_=>by simp at h
 |_::_,[],_,_,h,_,_,_,q,k,x,v,_,_,_=>by simp[dU] at h
 |C::R,G::X,s,O,B,M,L,H,0,k,x,v,Q,P,N=>by
  obtain⟨A,F⟩:=B;simp only[S.bS,aJr,aID] at Q P N;subst Q P N;have z:=Dp X (O.add G);simp only[aa.ext];cases C<;>cases G<;>simp[pT] at A
  skip
  simp only[S.fresh,SV.gr,SV.den,IE.den,XV.NH,XV.at];rw[z.i _ (by simp[aa.add,M])];simp[aa.add,<-M]
  skip
  simp only[S.fresh,SV.gr,SV.den,BE.den,XV.NH,XV.at];rw[z.b _ (by simp[aa.add,L])];simp[aa.add,<-L]
  skip
  simp only[S.fresh,SV.gr,RE.rv,XV.NH];rw[z.r _ (by simp[aa.add,H])];simp[aa.add,aa.rv,<-H]
 |C::R,G::X,s,O,B,M,L,H,q+1,k,x,v,Q,P,N=>by
  obtain⟨A,F⟩:=B;simp only[S.bS,aJa] at Q P N;simp only[aa.ext];cases C<;>cases G<;>simp[pT] at A;exact S5 R X _ _ F (by simp[S.fresh,aa.add,M]) (by simp[S.fresh,aa.add,L]) (by simp[S.fresh,aa.add,H]) q k x v Q P N;exact S5 R X _ _ F (by simp[S.fresh,aa.add,M]) (by simp[S.fresh,aa.add,L]) (by simp[S.fresh,aa.add,H]) q k x v Q P N;exact S5 R X _ _ F (by simp[S.fresh,aa.add,M]) (by simp[S.fresh,aa.add,L]) (by simp[S.fresh,aa.add,H]) q k x v Q P N
def akA:∀(X:aP)(s:S),(s.bS X).1.length=Y X
 |[],_=>rfl
 |k::X,s=>by simp[S.bS,akA X]
def akB{n:Nat}:∀{R:List (Nat×LK)}{X:ah}{v:SV},uu n R X=U v->∃(q:Nat)(k:LK),R[q]?=U (n,k)/\X[q]?=U v
 |[],X,v,h=>by simp[uu] at h
 |_::_,[],v,h=>by simp[uu] at h
 |(t,k)::r,x::L,v,h=>by
  simp only[uu] at h;split at h;rename_i Q;cases h;simp at Q;subst Q;exact⟨0,k,rfl,rfl⟩;obtain⟨q,P,N,M⟩:=akB h;exact⟨q+1,P,by simpa using N,by simpa using M⟩
def akC{n:Nat}:∀{X:List (Nat×LK)}{R:ah},Y X<=Y R->uu n X R=Z->X.any (·.1==n)=E
 |[],R,_,h=>rfl
 |_::_,[],Q,h=>by simp at Q
 |(t,k)::r,x::N,Q,h=>by
  simp only[uu] at h;split at h;cases h;rename_i P;simp only[List.any_cons,aJh];exact⟨by simpa using P,akC (by simpa using Q) h⟩
def akD{b n:Nat}:∀{R:List (Nat×Nat×LK)}{X:ah}{v:SV},zB b n R X=U v->∃(q:Nat)(k:LK),R[q]?=U (b,n,k)/\X[q]?=U v
 |[],X,v,h=>by simp[zB] at h
 |_::_,[],v,h=>by simp[zB] at h
 |(L,t,k)::r,x::H,v,h=>by
  simp only[zB] at h;split at h;rename_i Q;cases h;simp at Q;obtain⟨rfl,rfl⟩:=Q;exact⟨0,k,rfl,rfl⟩;obtain⟨q,P,N,M⟩:=akD h;exact⟨q+1,P,by simpa using N,by simpa using M⟩
def akE{b n:Nat}:∀{X:List (Nat×Nat×LK)}{R:ah},Y X<=Y R->zB b n X R=Z->X.any (λc=>c.1==b&&c.2.1==n)=E
 |[],R,_,h=>rfl
 |_::_,[],Q,h=>by simp at Q
 |(N,t,k)::r,x::M,Q,h=>by
  simp only[zB] at h;split at h;cases h;rename_i P;simp only[List.any_cons,aJh];exact⟨by simpa using P,akE (by simpa using Q) h⟩
def akF(X:eF)(R:ai)(Q:ah):∀(l:ah)(n i:Nat),(zC X R Q n l)[i]?=(l[i]?).map λx=>(uu (n+i) X.tm Q).getD (if R.contains (n+i) then .any else x)
 |[],n,i=>by simp[zC]
 |x::P,n,0=>by simp[zC]
 |x::P,n,i+1=>by
  simp only[zC,aJa];rw[akF X R Q P (n+1) i,show n+1+i=n+(i+1) by omega]
def akG(X:eF)(R:ah)(b:Nat):∀(l:ah)(n i:Nat),(FV X R b n l)[i]?=(l[i]?).map λx=>(zB b (n+i) X.cl R).getD x
 |[],n,i=>by simp[FV]
 |x::Q,n,0=>by simp[FV]
 |x::Q,n,i+1=>by
  simp only[FV,aJa];rw[akG X R b Q (n+1) i,show n+1+i=n+(i+1) by omega]
def NI(R:eF)(Q:ah):∀(l:bw)(n i:Nat),bU (sS R Q n l) i=(bU l i).map λx=>(x.1,FV R Q (n+i) 0 x.2)
 |[],n,i=>by simp[sS,cw]
 |Z::X,n,0=>by simp[sS,cw]
 |U (t,P)::X,n,0=>by simp[sS,cw]
 |Z::X,n,i+1=>by
  have:=NI R Q X (n+1) i;rw[show n+1+i=n+(i+1) by omega] at this;simpa[sS,cw] using this
 |U (t,P)::X,n,i+1=>by
  have:=NI R Q X (n+1) i;rw[show n+1+i=n+(i+1) by omega] at this;simpa[sS,cw] using this
def S7(X:eF)(R:ah):∀(l:bw)(n:Nat),(sS X R n l).length=Y l
 |[],n=>rfl
 |Z::Q,n=>by simp[sS,S7 X R Q]
 |U (t,P)::Q,n=>by simp[sS,S7 X R Q]
def akH(X:eF)(R:ai)(Q:ah):∀(l:ah)(n:Nat),(zC X R Q n l).length=Y l
 |[],n=>rfl
 |x::P,n=>by simp[zC,akH X R Q P]
def aaZ{N:eF}{M:ai}:∀{l R:ah}{n:Nat},xI N M n l R=J->Y l=Y R/\∀(i:Nat)(x y:SV),l[i]?=U x->R[i]?=U y->N.tm.any (·.1==n+i)=J\/M.contains (n+i)=J\/x=y
 |[],[],n,_=>⟨rfl,λi x y h _=>by simp at h⟩
 |[],_::_,n,h=>by simp[xI] at h
 |_::_,[],n,h=>by simp[xI] at h
 |x::C,y::B,n,h=>by
  simp only[xI,aIy,aIZ] at h;obtain⟨L,H⟩:=aaZ h.2;refine⟨by simp[L],λi G F Q P=> ?_⟩;cases i with
  |zero=>
   simp only[aJr,aID] at Q P;subst Q P;rcases h.1 with(X|X)|X;exact .inl X;exact .inr (.inl X);exact .inr (.inr (SV.bI _ _ X))
  |succ i=>
   have:=H i G F (by simpa using Q) (by simpa using P);rw[show n+(i+1)=n+1+i by omega];exact this
def akI{N:eF}{b:Nat}:∀{l X:ah}{n:Nat},FW N b n l X=J->Y l=Y X/\∀(i:Nat)(x y:SV),l[i]?=U x->X[i]?=U y->N.cl.any (λc=>c.1==b&&c.2.1==n+i)=J\/x=y
 |[],[],n,_=>⟨rfl,λi x y h _=>by simp at h⟩
 |[],_::_,n,h=>by simp[FW] at h
 |_::_,[],n,h=>by simp[FW] at h
 |x::F,y::C,n,h=>by
  simp only[FW,aIy,aIZ] at h;obtain⟨M,L⟩:=akI h.2;refine⟨by simp[M],λi H G R Q=> ?_⟩;cases i with
  |zero=>
   simp only[aJr,aID] at R Q;subst R Q;rcases h.1 with P|P;exact .inl P;exact .inr (SV.bI _ _ P)
  |succ i=>
   have:=L i H G (by simpa using R) (by simpa using Q);rw[show n+(i+1)=n+1+i by omega];exact this
def aa0{G:eF}:∀{l M:bw}{n:Nat},qZ G n l M=J->∀(i:Nat)(t:TypeId)(R:ah),bU l i=U (t,R)->∃Q,bU M i=U (t,Q)/\FW G (n+i) 0 R Q=J
 |[],M,n,_,i,t,R,h=>by simp[cw] at h
 |Z::P,[],n,X,i,t,R,h=>by simp[qZ] at X
 |Z::P,y::N,n,X,0,t,R,h=>by simp[cw] at h
 |Z::P,y::N,n,X,i+1,t,R,h=>by
  simp only[qZ] at X;obtain⟨Q,L,H⟩:=aa0 X i t R (by simpa[cw] using h);exact⟨Q,by simpa[cw] using L,by rw[show n+(i+1)=n+1+i by omega];exact H⟩
 |U x::P,[],n,X,i,t,R,h=>by simp[qZ] at X
 |U x::P,Z::N,n,X,i,t,R,h=>by simp[qZ] at X
 |U x::P,U y::N,n,X,0,t,R,h=>by
  simp only[qZ,aIy,beq_iff_eq] at X;simp only[cw,aJr,aID] at h⊢;subst h;exact⟨y.2,by rw[show(t:TypeId)=y.1 from X.1.1],X.1.2⟩
 |U x::P,U y::N,n,X,i+1,t,R,h=>by
  simp only[qZ,aIy] at X;obtain⟨Q,L,H⟩:=aa0 X.2 i t R (by simpa[cw] using h);exact⟨Q,by simpa[cw] using L,by rw[show n+(i+1)=n+1+i by omega];exact H⟩
def akJ{R:eF}{n:Nat}{k:LK}(Q:R.tm[X]?=U (n,k)):R.ks[X]?=U k:=by
 have P:X<Y R.tm:=(aIz.1 Q).1;unfold eF.ks;rw[aIB (by simpa using P),aIE,Q];rfl
def akK{Q:eF}{n:Nat}{k:LK}(P:Q.tm[X]?=U (n,k))(N:R.tmps[n]?=U v):(jx Q R)[X]?=U v:=by
 have M:X<Y Q.tm:=(aIz.1 P).1;unfold jx;rw[aIB (by simpa using M),aIE,P];simp[N]
def BR{k:Nat}(h:k<X):ad (t.take X) k=ad t k:=by simp[ad,h]
def axg(X:eF)(s:S):(iq X s).length=Y s.rs:=zL _ _ _
def akL:∀{l R:bc},xH l R=J->∀(k:Nat)(e:RK),l[k]?=U e->∃Q,R[k]?=U Q/\(e=.dead\/Q=e)
 |[],R,_,k,e,h=>by simp at h
 |x::P,[],h,_,_,_=>by simp[xH] at h
 |x::P,y::N,h,0,e,X=>by
  simp only[xH,aIy,aIZ,decide_eq_true_eq] at h;simp at X;subst X;exact⟨y,rfl,h.1.imp id Eq.symm⟩
 |x::P,y::N,h,k+1,e,X=>by
  simp only[xH,aIy] at h;exact akL h.2 k e (by simpa using X)
def S8:∀{R:aP}{X:ah}{q:Nat}{e:TypeId}{k:Nat},R[q]?=U (.ref (.own e))->X[q]?=U (.ref (.v k))->k∈Bq R X
 |[],X,q,e,k,h,_=>by simp at h
 |_::_,[],q,e,k,_,h=>by simp at h
 |N::R,v::X,0,e,k,Q,P=>by simp at Q P;subst Q P;simp[Bq,RX]
 |N::R,v::X,q+1,e,k,Q,P=>by
  simp only[Bq,aIM];right;exact S8 (q:=q) (by simpa using Q) (by simpa using P)
def S9:∀{a b:ai},ly (a++b)=J->ly b=J/\∀x∈a,x∉b
 |[],b,h=>⟨h,by simp⟩
 |x::a,b,h=>by
  simp only[aIF,ly,aIy] at h;obtain⟨R,Q⟩:=S9 h.2;refine⟨R,λy X=> ?_⟩;rcases aIK.1 X with rfl|X;intro P;have:=h.1;simp[P] at this;exact Q y X
def akM:∀{N:aP}{R:ah}{q Q:Nat}{e M:TypeId}{k X:Nat},ly (Bq N R)=J->N[q]?=U (.ref (.own e))->R[q]?=U (.ref (.v k))->N[Q]?=U (.ref (.own M))->R[Q]?=U (.ref (.v X))->q≠Q->k≠X
 |[],R,q,Q,e,M,k,X,_,h,_,_,_,_=>by simp at h
 |_::_,[],q,Q,e,M,k,X,_,_,h,_,_,_=>by simp at h
 |C::N,v::R,0,0,e,M,k,X,_,_,_,_,_,h=>absurd rfl h
 |C::N,v::R,0,Q+1,e,M,k,X,P,L,H,G,F,_=>by
  simp at L H;subst L H;simp only[Bq] at P;have:=(S9 P).2 k (by simp[RX]);intro B;subst B;exact this (S8 (q:=Q) (by simpa using G) (by simpa using F))
 |C::N,v::R,q+1,0,e,M,k,X,P,L,H,G,F,_=>by
  simp at G F;subst G F;simp only[Bq] at P;have:=(S9 P).2 X (by simp[RX]);intro B;subst B;exact this (S8 (q:=q) (by simpa using L) (by simpa using H))
 |C::N,v::R,q+1,Q+1,e,M,k,X,P,L,H,G,F,A=>by
  simp only[Bq] at P;exact akM (S9 P).1 (by simpa using L) (by simpa using H) (by simpa using G) (by simpa using F) (by omega)
def av.head{ty:Ty}{P:eF}{n:ai}{a1:Act}(bt:s.bd=J)(ei:Y O.i=s.ni)(eb:Y O.b=s.nb)(er:Y O.r=Y s.rs)
  (f:bF s O V R N n)(R1:av d m D ty n N R a1 b)(hT:xI P t 0 s.tmps R.tmps=J)(hB:qZ P 0 s.boxes R.boxes=J)(hf:rf R P.ks (jx P R)=J)
  (hR:xH (iq P s) R.rs=J)(hO:FU (iq P s) (FT P R)=J)(cc:R.pd=s.pd):
  av d m D ty (n.take (Y s.boxes)) (O.ext ((jx P R).map (SV.xv N))) (pe P t s) a1 b:=by
 obtain⟨ch,cp⟩:SV.da (Y O.i) (Y O.b) (Y O.r) (aL s.boxes) s.tmps=J/\SV.o9 (Y O.i) (Y O.b) (Y O.r) (aL s.boxes) s.boxes=true:=by
  simp only[S.bd,aIy] at bt;rw[ei,eb,er];exact bt
 have a0:=aaY (O1:=N) hf;have a3:Y O.r=(iq P s).length:=by rw[axg];exact er
 obtain⟨c0,bf⟩:=akz hf;generalize bl:(jx P R).map (SV.xv N)=o at*;obtain⟨e1,e2,e3,e4⟩:=we P.ks {s with aq:=s.aq+1,rs:=iq P s};obtain⟨l1,l2,l3⟩:=xX P.ks o {s with aq:=s.aq+1,rs:=iq P s} O a0 ei eb a3;have bx:=BK s.boxes O o V;have ct:=S4 (V:=n.take (Y s.boxes)) P.ks o {s with aq:=s.aq+1,rs:=iq P s} O a0 ei eb a3;have b0:=akA P.ks {s with aq:=s.aq+1,rs:=iq P s};have b1:Y P.ks=Y P.tm+Y P.cl:=by simp[eF.ks]
 have a4:∀i,aL (sS P (((({s with aq:=s.aq+1,rs:=iq P s}:S).bS P.ks).1).drop (Y P.tm)) 0 s.boxes) i=J->aL s.boxes i=J/\i<Y s.boxes:=by
  intro i hi;unfold aL at hi;rw[NI] at hi;have:(bU s.boxes i).isSome=true:=by simpa using hi
  obtain⟨X,G⟩:=aIS.1 this;exact⟨this,(aIz.1 (i8.1 G)).1⟩
 have cv:∀v:SV,v.bd (Y O.i) (Y O.b) (Y O.r) (aL s.boxes)=J->v.den (O.ext o) (n.take (Y s.boxes))=v.den N n:=by
  intro v hv;rw[f.ext.den hv];refine SV.dg bx.agree (λk hk=> ?_) v hv;have a9:k<Y s.boxes:=by
   obtain⟨X,G⟩:=aIS.1 hk;exact(aIz.1 (i8.1 G)).1
  rw[BR a9];exact f.ext.ad k hk
 have cx:∀(q:Nat)(k:LK)(v w:SV),P.ks[q]?=U k->(jx P R)[q]?=U w->(({s with aq:=s.aq+1,rs:=iq P s}:S).bS P.ks).1[q]?=U v->v.den (O.ext o) (n.take (Y s.boxes))=w.den N n/\v≠ .any:=by
  intro q k v w hk hw hv;have hx:o[q]?=U (w.xv N):=by rw[<-bl];simp[hw]
  obtain⟨M,L⟩:=ct q k _ v hk hx hv;exact⟨M.trans (aky (V1:=n) (bf q k w hk hw)).1,L⟩
 have cy:∀v:SV,v.bd (Y O.i) (Y O.b) (Y O.r) (aL s.boxes)=J->v.gr (O.ext o) (n.take (Y s.boxes))=v.gr N n:=by
  intro v hv;rw[Z3 f.ext.agree f.ext.ad v hv];refine Z3 bx.agree (λk hk=> ?_) v hv;have a9:k<Y s.boxes:=by
   obtain⟨X,G⟩:=aIS.1 hk;exact(aIz.1 (i8.1 G)).1
  rw[BR a9];exact f.ext.ad k hk
 have cA:∀(q:Nat)(k:LK)(v w:SV),P.ks[q]?=U k->(jx P R)[q]?=U w->(({s with aq:=s.aq+1,rs:=iq P s}:S).bS P.ks).1[q]?=U v->v.gr (O.ext o) (n.take (Y s.boxes))=w.gr N n:=by
  intro q k v w hk hw hv;have hx:o[q]?=U (w.xv N):=by rw[<-bl];simp[hw]
  rw[S5 (V:=n.take (Y s.boxes)) P.ks o {s with aq:=s.aq+1,rs:=iq P s} O a0 ei eb a3 q k _ v hk hx hv];exact axf (bf q k w hk hw)
 have b2:∀(k:Nat)(e:RK)(F:RV),(iq P s)[k]?=U e->O.r[k]?=U F->∃e1,R.rs[k]?=U e1/\N.r[k]?=U F/\(e=.dead\/e1=e):=by
  intro k e F M L;have hk:k<Y O.r:=(aIz.1 L).1;have cB:k<Y N.r:=aKy hk f.ext.lr;have cC:N.r[k]?=U F:=by
   have:=f.ext.agree.r k hk;simp only[aa.rv,aIC,L,aJd] at this;rw[aIA cB] at this⊢;simpa using this
  obtain⟨H,h3,h4⟩:=akL hR k e M;exact⟨H,h3,cC,h4⟩
 have b3:∀(q:Nat)(e:RK)(F:RV),P.ks[q]?=U (.ref e)->o[q]?=U (.r F)->(∃A:Nat,(jx P R)[q]?=U (.ref (.v A))/\R.rs[A]?=U e/\N.r[A]?=U F)\/(F=.mk (.slice Z 0 0) []/\∃Q sh,e=.sl Q\/e=.own Q\/e=.mr sh):=by
  intro q e F M L;rw[<-bl,aIE] at L;cases hw:(jx P R)[q]? with
  |none=>rw[hw] at L;cases L
  |some w=>
   rw[hw] at L;simp only[aII,aID] at L;have bg:=bf q _ w M hw;unfold Br at bg;split at bg;rename_i ag;cases ag;rename_i ag;cases ag;rename_i H k ag;cases ag;simp only[SV.xv,XV.r.injEq] at L;have b4:R.rs[k]?=U e:=by simpa using bg
   refine .inl ⟨k,rfl,b4, ?_⟩;rw[<-L];exact s6 R1 b4;rename_i H ag;cases ag;simp only[SV.xv,XV.r.injEq,RE.rv] at L;exact .inr ⟨L.symm,_,⟨0,0,0,E,E⟩,.inl rfl⟩;rename_i H ag;cases ag;simp only[SV.xv,XV.r.injEq,RE.rv] at L;exact .inr ⟨L.symm,_,⟨0,0,0,E,E⟩,.inr (.inl rfl)⟩;rename_i H ag;cases ag;simp only[SV.xv,XV.r.injEq,RE.rv] at L;exact .inr ⟨L.symm,0,_,.inr (.inr rfl)⟩;cases bg
 simp only[FU,aIy] at hO;obtain⟨cD,cI⟩:=hO;have b5:∀(q:Nat)(e:TypeId)(A:Nat),P.ks[q]?=U (.ref (.own e))->(jx P R)[q]?=U (.ref (.v A))->∀H,(iq P s)[A]?=U H->H=.dead:=by
  intro q e A M L H h3;have:=aIN.1 cI A (S8 M L);simp only[aIZ,decide_eq_true_eq] at this;rcases this with h4|h4;have:=(aIz.1 h3).1;omega;rw[h4] at h3;cases h3;rfl
 refine⟨⟨R1.mem.base, ?_, ?_, ?_, ?_⟩, ?_,l1,l2,l3, ?_, ?_, ?_, ?_⟩;intro i hi;obtain⟨M,L⟩:=a4 i hi;rw[BR L];exact R1.mem.own i (f.mono i M);intro i j hi hj;obtain⟨M,L⟩:=a4 i hi;obtain⟨h3,h4⟩:=a4 j hj;rw[BR L,BR h4];exact R1.mem.inj i j (f.mono i M) (f.mono j h3);intro i Q cs h;simp only[pe] at h;rw[NI,aI8] at h;cases G:bU s.boxes i with
 |none=>rw[G] at h;cases h
 |some x=>
  obtain⟨t0,jD⟩:=x;rw[G] at h;simp only[aII,aID,aKj] at h;obtain⟨rfl,rfl⟩:=h;obtain⟨bk,b6,b7⟩:=aa0 hB i t0 jD G;rw[aI8] at b7;obtain⟨cO,br⟩:=akI b7;have a9:i<Y s.boxes:=(aIz.1 (i8.1 G)).1;rw[BR a9,R1.mem.box i t0 bk b6];congr 2;apply aI0;intro j;rw[SV.cL,SV.cL,aIE,aIE,akG,aI8];cases hx:jD[j]? with
  |none=>
   have:bk[j]?=none:=by
    rw[aJk] at hx⊢;omega
   simp[this]
  |some x=>
   obtain⟨y,hy⟩:∃y,bk[j]?=U y:=by
    have:j<Y jD:=(aIz.1 hx).1;exact⟨bk[j],aIA (by omega)⟩
   rw[hy];simp only[aII,aID];cases hp:zB i j P.cl ((({s with aq:=s.aq+1,rs:=iq P s}:S).bS P.ks).1.drop (Y P.tm)) with
   |some v=>
    obtain⟨q,k,hq,hv⟩:=akD hp;rw[aJi] at hv;simp only[aJd];refine(cA (Y P.tm+q) k v y ?_ ?_ hv).symm;simp[eF.ks,aIH,hq];simp[jx,aIH,hq,aiP,b6,hy]
   |none=>
    have hn:=akE (by rw[aJT,b0,b1];omega) hp;rcases br j x y hx hy with M|M;rw[aI8] at M;rw[hn] at M;cases M;subst M;simp only[aK8];exact(cy x (ux (rp cp G) hx)).symm
 have bs:=Gh (PP:=λe F=>bu b ty e F/\∀X,db ty e F X->∀i,aL s.boxes i=J->ad n i≠X) P.ks o {s with aq:=s.aq+1,rs:=iq P s} O a0 a3 ?_ ?_;intro k e F M L;obtain⟨h3,h4⟩:=bs k e F M L;refine⟨h3,λX G i hi=> ?_⟩;obtain⟨h5,h6⟩:=a4 i hi;rw[BR h6];exact h4 X G i h5
 
 intro q e F M L;rcases b3 q e F M L with⟨A,_,g2,C⟩|⟨rfl,Q,sh,g⟩;have:=R1.mem.ref A e F g2 C;exact⟨this.1,λX G i hi=>this.2 X G i (f.mono i hi)⟩;have hn:∀X,¬db ty (.sl Q) (.mk (.slice Z 0 0) []) X:=λX G=>by
  cases G with
  |deep e v b8 i j al c z k X g1=>simp at g1
 rcases g with rfl|rfl|rfl;exact⟨BN Z 0,λX G=>(hn X G).elim⟩;refine⟨bu.own Q _ (BN Z 0) (λl c h=>by cases h;rfl),λX G=> ?_⟩;cases G with
 |own e F X G=>exact(hn X G).elim
 exact⟨bu.mr sh [] (λi al h=>by simp at h) (λi j al c k h=>by simp at h) (λi j al c h=>by simp at h) (λi j al c z k h=>by simp at h),λX G=>by cases G⟩;intro k e F M L;obtain⟨e1,g1,g2,C⟩:=b2 k e F M L;have:=R1.mem.ref k e1 F g1 g2;rcases C with rfl|rfl;exact⟨bu.dead _ (Ja this.1),λX G=>by cases G⟩;exact⟨this.1,λX G i hi=>this.2 X G i (f.mono i hi)⟩;simp[pe,S7];have:=f.len;rw[R1.fH];omega;have M:=R1.cM;rw[cc,f.ext.agree.y,<-Jv o O] at M;simp only[pe];rw[aaV];exact M;simp only[pe,akH];rw[R1.size,(aaZ hT).1];intro Q sv h;simp only[pe] at h;rw[akF,aI8] at h;cases hx:s.tmps[Q]? with
 |none=>rw[hx] at h;cases h
 |some x=>
  rw[hx] at h;simp only[aII,aID] at h;obtain⟨cO,br⟩:=aaZ hT;obtain⟨y,hy⟩:∃y,R.tmps[Q]?=U y:=by
   have:Q<Y s.tmps:=(aIz.1 hx).1;exact⟨R.tmps[Q],aIA (by omega)⟩
  cases hp:uu Q P.tm ((({s with aq:=s.aq+1,rs:=iq P s}:S).bS P.ks).1) with
  |some v=>
   rw[hp] at h;simp only[aJd] at h;subst h;obtain⟨q,k,hq,hv⟩:=akB hp;have hc:=(cx q k v y (akJ hq) (akK hq hy) hv);rcases R1.tmps Q y hy with M|M;subst M;have:=bf q k .any (akJ hq) (akK hq hy);rcases k with _|_|(_|_|_|_|_)<;>simp[Br] at this;right;rw[hc.1];exact M
  |none=>
   rw[hp] at h;simp only[aK8] at h;split at h;exact .inl h.symm;rename_i cW;subst h;have hn:=akC (by rw[b0,b1];omega) hp;rcases br Q x y hx hy with M|M|M;rw[aI8] at M;rw[hn] at M;cases M;rw[aI8] at M;exact absurd M cW;subst M;rcases R1.tmps Q x hy with L|L;exact .inl L;right;rw[cv x (ux ch hx)];exact L
 intro k e F X M L h3;simp only[pe] at M;have bs:∃A:Nat,R.rs[A]?=U (RK.own e)/\N.r[A]?=U F/\∀(B:Nat)(H:RK)(u:RV),B≠k->(pe P t s).rs[B]?=U H->(O.ext o).r[B]?=U u->xN ty H u X->∃af:Nat,af≠A/\R.rs[af]?=U H/\N.r[af]?=U u:=by
  have other:∀(B:Nat)(H:RK)(u:RV),(pe P t s).rs[B]?=U H->(O.ext o).r[B]?=U u->xN ty H u X->
    ((iq P s)[B]?=U H/\R.rs[B]?=U H/\N.r[B]?=U u)\/∃q af:Nat,P.ks[q]?=U (.ref H)/\(jx P R)[q]?=U (.ref (.v af))/\R.rs[af]?=U H/\N.r[af]?=U u/\B=(iq P s).length+Dx (P.ks.take q):=by
   intro B H u g1 g2 C;rcases Jw P.ks o {s with aq:=s.aq+1,rs:=iq P s} O a0 a3 B H u g1 g2 with⟨p1,p2⟩|⟨q,p1,p2,p3⟩;obtain⟨e1,q1,q2,q3⟩:=b2 B H u p1 p2;rcases q3 with rfl|rfl;rcases C with C|⟨⟨Q,ht⟩,_⟩;cases C;cases ht;exact .inl ⟨p1,q1,q2⟩;rcases b3 q H u p1 p2 with⟨A,q1,q2,q3⟩|⟨rfl,Q,sh,q⟩;exact .inr ⟨q,A,p1,q1,q2,q3,p3⟩;exfalso;rcases C with C|⟨_,C⟩;rcases q with rfl|rfl|rfl;cases C with
   |deep e v b8 i j al c z k X g1=>simp at g1
   cases C with
   |own e F X C=>cases C with
    |deep e v b8 i j al c z k X g1=>simp at g1
   cases C;simp[RV.jR] at C
  rcases other k (.own e) F M L (.inr ⟨⟨e,rfl⟩,h3⟩) with⟨p1,p2,p3⟩|⟨q,A,p1,p2,p3,p4,p5⟩;refine⟨k,p2,p3,λB H u g0 g1 g2 C=> ?_⟩;rcases other B H u g1 g2 C with⟨r1,r2,r3⟩|⟨q',af,r1,r2,r3,r4,r5⟩;exact⟨B,g0,r2,r3⟩;refine⟨af,λbb=> ?_,r3,r4⟩;subst bb;rw[p2] at r3;cases r3;have:=b5 q' e af r1 r2 _ p1;cases this;refine⟨A,p3,p4,λB H u g0 g1 g2 C=> ?_⟩;rcases other B H u g1 g2 C with⟨r1,r2,r3⟩|⟨q',af,r1,r2,r3,r4,r5⟩;refine⟨B,λbb=> ?_,r2,r3⟩;subst bb;rw[p3] at r2;cases r2;have:=b5 q e B p1 p2 _ r1;cases this;refine⟨af,λbb=> ?_,r3,r4⟩;subst bb;rw[p3] at r3;cases r3;by_cases ca:q=q';subst ca;exact g0 (by rw[r5,p5]);exact akM cD p1 p2 r1 r2 ca rfl
 obtain⟨A,g1,g2,C⟩:=bs;have Q:=R1.fl A e F X g1 g2 h3;refine⟨Q.own,Q.mem,λi hi=> ?_,λB H u q1 q2 q3 q4=> ?_,Q.inner⟩;obtain⟨h5,h6⟩:=a4 i hi;rw[BR h6];exact Q.box i (f.mono i h5);obtain⟨af,r1,r2,r3⟩:=C B H u q1 q2 q3 q4;exact Q.alone af H u r1 r2 r3 q4
end
structure kD(p:Sp)(f:bz):Prop where
 pt:p.ty=f.ty
 mix:p.P.follows .mixedOrders=J
 kV:iu p.P f.ty
 zu:Ju p.P f
 BS:∀g,(f.sig g).isSome=J\/(f.inl g).isSome=J->∀args W,(callFunc g args).run p.P W=.ok (.enter g args) W
 Ta:∀ch W b o,p.w0.heap.size<=b->p.R (.panicked ch) W->p.R (.panicked ch) (W.putObj b o)
 inl:∀g c nt rs,f.inl g=U (c,nt,rs)->∃fn,p.P.funcs[g]?=U fn/\fn.body=U c/\fn.ntmps=nt/\fn.results.toList=rs
section
variable{p:Sp}{f:bz}
def av.akN{d:ai}{m:World}{D:bQ}{V:ai}{O:aa}{s:S}{a:Act}{W:World}(R:av d m D f.ty V O s a W){t:Nat}{b:BE}{v:Bool}(Q:s.tmps.getD t .any=.bool b)(N:b.den O=v):
  av d m D f.ty V O {s with tmps:=s.tmps.set t (.bool (.c v))} a W:=by
 refine⟨R.mem,R.fH,R.ei,R.eb,R.er,R.cM,by simpa using R.size,λi M h=> ?_,R.fl⟩;simp only[aJs] at h;split at h;rename_i L;subst L;split at h;rename_i P;cases h;have H:s.tmps[t]?=U (.bool b):=by
  rw[aIC,aIA P] at Q;rw[aIA P];simpa using Q
 rcases R.tmps t _ H with X|X;cases X;right;rw[X];simp[SV.den,BE.den,N];cases h;exact R.tmps i M h
end
mutual
def IE.du{R Q P N M H:Nat}(X:R<=N)(W:Q<=M)(V:P<=H):∀(e:IE),e.bd R Q P=J->e.bd N M H=J
 |.c n,_=>IE.aS.1 _
 |.v k,h=>by simp[IE.aS] at h⊢;omega
 |.bin o k a b,h=>by simp[IE.aS] at h⊢;exact⟨IE.du X W V a h.1,IE.du X W V b h.2⟩
 |.conv k a,h=>by simp[IE.aS] at h⊢;exact IE.du X W V a h
 |.len r,h=>by simp[IE.aS] at h⊢;exact RE.du X W V r h
 |.mm m a b,h=>by simp[IE.aS] at h⊢;exact⟨IE.du X W V a h.1,IE.du X W V b h.2⟩
 |.cF b x y,h=>by simp[IE.aS] at h⊢;exact⟨⟨BE.du X W V b h.1.1,IE.du X W V x h.1.2⟩,IE.du X W V y h.2⟩
 |.cell r i j,h=>by simp[IE.aS] at h⊢;exact⟨RE.du X W V r h.1,IE.du X W V i h.2⟩
 |.lT r i,h=>by simp[IE.aS] at h⊢;exact⟨RE.du X W V r h.1,IE.du X W V i h.2⟩
 |.look r n a b c j,h=>by simp[IE.aS] at h⊢;exact⟨⟨⟨RE.du X W V r h.1.1.1,IE.du X W V a h.1.1.2⟩,IE.du X W V b h.1.2⟩,IE.du X W V c h.2⟩
def BE.du{R Q P N M H:Nat}(X:R<=N)(W:Q<=M)(V:P<=H):∀(e:BE),e.bd R Q P=J->e.bd N M H=J
 |.c n,_=>BE.aS.1 _
 |.v k,h=>by simp[BE.aS] at h⊢;omega
 |.cmp o a b,h=>by simp[BE.aS] at h⊢;exact⟨IE.du X W V a h.1,IE.du X W V b h.2⟩
 |.not a,h=>by simp[BE.aS] at h⊢;exact BE.du X W V a h
 |.and a b,h=>by simp[BE.aS] at h⊢;exact⟨BE.du X W V a h.1,BE.du X W V b h.2⟩
 |.beq a b,h=>by simp[BE.aS] at h⊢;exact⟨BE.du X W V a h.1,BE.du X W V b h.2⟩
 |.cF b x y,h=>by simp[BE.aS] at h⊢;exact⟨⟨BE.du X W V b h.1.1,BE.du X W V x h.1.2⟩,BE.du X W V y h.2⟩
 |.cell r i j,h=>by simp[BE.aS] at h⊢;exact⟨RE.du X W V r h.1,IE.du X W V i h.2⟩
 |.seq a b,h=>by simp[BE.aS] at h⊢;exact⟨RE.du X W V a h.1,RE.du X W V b h.2⟩
 |.look r n a b c j,h=>by simp[BE.aS] at h⊢;exact⟨⟨⟨RE.du X W V r h.1.1.1,IE.du X W V a h.1.1.2⟩,IE.du X W V b h.1.2⟩,IE.du X W V c h.2⟩
 |.has r n a b c,h=>by simp[BE.aS] at h⊢;exact⟨⟨⟨RE.du X W V r h.1.1.1,IE.du X W V a h.1.1.2⟩,IE.du X W V b h.1.2⟩,IE.du X W V c h.2⟩
def RE.du{X W V R Q P:Nat}(N:X<=R)(M:W<=Q)(H:V<=P):∀(e:RE),e.bd X W V=J->e.bd R Q P=J
 |.v k,h=>by simp[RE.aS] at h⊢;omega
 |.cell r i j k,h=>by simp[RE.aS] at h⊢;exact⟨RE.du N M H r h.1,IE.du N M H i h.2⟩
 |.k v,_=>RE.aS.2.2 _
end
def Tb{ty:Ty}{s Q:S}:∀{r:RE}{e:RK},(∀(k:Nat)(e:RK),r.root=U k->s.rs[k]?=U e->∃X,Q.rs[k]?=U X/\X.rd=e.rd)->e≠ .aI->r.kind ty s=e->r.kind ty Q=e
 |.v k,e,W,V,h=>by
  simp only[RE.kind,aIC] at h⊢;cases R:s.rs[k]? with
  |none=>rw[R] at h;exact absurd (show e=.aI from h.symm) V
  |some q=>
   rw[R] at h;obtain⟨X,P,N⟩:=W k q rfl R;rw[P];simp only[aJd] at h⊢;rw[N];exact h
 |.cell r i j H,e,W,V,h=>by
  simp only[RE.kind] at h⊢;split at h;rename_i X M;rw[Tb (r:=r) W (by simp) M];exact h;exact absurd h.symm V
 |.k v,e,W,V,h=>by cases v<;>exact h
def BT{ty:Ty}{s s':S}(h:s.rs=s'.rs):∀r:RE,r.kind ty s=r.kind ty s'
 |.v k=>by simp only[RE.kind,h]
 |.cell r i j k=>by simp only[RE.kind,BT h r]
 |.k v=>by cases v<;>rfl
def zR(ty:Ty)(s X:S):Prop:=∀(r:RE)(e:RK),e≠ .aI->r.kind ty s=e->r.kind ty X=e
def zR.xY{ty:Ty}{X:S}(h:X.rs=R.rs):zR ty R X:=λr e _ W=>by rw[BT h];exact W
def axh{ty:Ty}{X:S}(W:zR ty R X){c:CT}{y:SV}{e:BE}(h:Ix ty R c v y=U e):Ix ty X c v y=U e:=by
 unfold Ix at h⊢;split at h;exact h;exact h;split at h;rename_i V;rw[if_pos ⟨W _ _ (by simp) V.1,W _ _ (by simp) V.2⟩];exact h;cases h;cases h
def akO{ty:Ty}{s W:S}(V:zR ty s W):∀{X:dS}{x y:ah}{e:BE},pP ty s X x y=U e->pP ty W X x y=U e
 |[],[],[],e,h=>h
 |c::X,x::P,y::N,e,h=>by
  simp only[pP] at h⊢;split at h;rename_i a b R Q;rw[axh V R,akO V Q];exact h;cases h
 |[],[],_::_,e,h=>by simp[pP] at h
 |[],_::_,_,e,h=>by simp[pP] at h
 |_::_,[],_,e,h=>by simp[pP] at h
 |_::_,_::_,[],e,h=>by simp[pP] at h
def akP{ty:Ty}{W:S}(Q:zR ty R W){V:fD}{y:ah}{X:BE}(h:Iy ty R V e y=U X):Iy ty W V e y=U X:=by
 unfold Iy at h⊢;split at h;exact akO Q h;cases h
section
variable{ty:Ty}{D:lu}{O:aa}
def Td{P:S}{G:Op}{r:PR}(W:∀x∈G.operands.toList,P.ev D x=R.ev D x)(N:looks G=J->zD G=E->zR ty R P)
  (al:∀t x r w i A,G=.load t x->R.ev D x=.el r w i A->∀e,e≠ .aI->r.kind ty R=e->r.kind ty P=e)
  (u:∀i,zq D R G=U i->bU P.boxes i=bU R.boxes i)(h:bO ty D R G=r)(V:∀w,r≠ .no w):bO ty D P G=r:=by
 cases G with
 |move x=>have X:=W x (by simp[Op.operands]);simp only[bO] at h⊢;rw[X];exact h
 |assign x=>have X:=W x (by simp[Op.operands]);simp only[bO] at h⊢;rw[X];exact h
 |pick c x y=>
  have X:=W c (by simp[Op.operands]);have M:=W x (by simp[Op.operands]);have o:=W y (by simp[Op.operands]);simp only[bO] at h⊢;rw[X,M,o];exact h
 |load t x=>
  have X:=W x (by simp[Op.operands]);simp only[bO] at h⊢;rw[X];split at h;rename_i ti i A F H;rw[Nj (u i (by simp only[zq,H]))];exact h;rename_i ti r w i A F H;split at h;rename_i e Q;rw[al t x r w i A rfl H _ (by simp) Q];exact h;exact absurd h.symm (V _);rename_i ti e ks l F H;have C:((xE l).bind λi=>ky P.boxes i)=(xE l).bind λi=>ky R.boxes i:=by
   cases hl:xE l with
   |none=>rfl
   |some i=>exact Nj (u i (by simp only[zq,H];exact hl))
  rw[C];exact h;exact absurd h.symm (V _)
 |fieldAddr t x f=>have X:=W x (by simp[Op.operands]);simp only[bO] at h⊢;rw[X];exact h
 |field t x f=>have X:=W x (by simp[Op.operands]);simp only[bO] at h⊢;rw[X];exact h
 |indexAddr t x y=>
  have X:=W x (by simp[Op.operands]);have M:=W y (by simp[Op.operands]);simp only[bO] at h⊢;rw[X,M];split at h;exact h;exact h;exact h;split at h;rename_i F Q;rw[(N rfl rfl) _ _ (by simp) Q,F];exact h;exact absurd h.symm (V _);exact h;exact h;exact absurd h.symm (V _)
 |index t x y=>
  have X:=W x (by simp[Op.operands]);have M:=W y (by simp[Op.operands]);simp only[bO] at h⊢;rw[X,M];split at h;exact h;exact h;split at h;rename_i Q;rw[(N rfl rfl) _ _ (by simp) Q];exact h;exact absurd h.symm (V _);exact absurd h.symm (V _)
 |binOp G t x y t2=>
  have X:=W x (by simp[Op.operands]);have M:=W y (by simp[Op.operands]);simp only[bO] at h⊢;rw[X,M];split at h;exact h;exact h;exact h;split at h;rename_i z B;simp only[(N rfl rfl) _ _ (by simp) z,(N rfl rfl) _ _ (by simp) B];exact h;rename_i z B;simp only[(N rfl rfl) _ _ (by simp) z,(N rfl rfl) _ _ (by simp) B];exact h;exact absurd h.symm (V _);exact h;exact h;split at h;rename_i e Q;rw[akP (N rfl rfl) Q];exact h;rename_i e Q;rw[akP (N rfl rfl) Q];exact h;exact absurd h.symm (V _);exact absurd h.symm (V _)
 |unOp G t x=>have X:=W x (by simp[Op.operands]);simp only[bO] at h⊢;rw[X];exact h
 |convert t1 t2 x=>have X:=W x (by simp[Op.operands]);simp only[bO] at h⊢;rw[X];exact h
 |makeInterface t x=>have X:=W x (by simp[Op.operands]);simp only[bO] at h⊢;rw[X];exact h
 |makeFunc fn first af=>
  have X:af.toList.map (P.ev D)=af.toList.map (R.ev D):=aIY λx H=>W x (by simp[Op.operands];exact .inr (by simpa using H))
  simp only[bO] at h⊢;rw[X];exact h
 |extract x i=>have X:=W x (by simp[Op.operands]);simp only[bO] at h⊢;rw[X];exact h
 |nilCheck x=>have X:=W x (by simp[Op.operands]);simp only[bO] at h⊢;rw[X];exact h
 |slice t x j g mx=>
  have X:=W x (by simp[Op.operands]);have M:j.map (P.ev D)=j.map (R.ev D):=by
   cases j with
   |none=>rfl
   |some y=>simp only[aII];rw[W y (by simp[Op.operands])]
  have o:g.map (P.ev D)=g.map (R.ev D):=by
   cases g with
   |none=>rfl
   |some y=>simp only[aII];rw[W y (by simp[Op.operands])]
  simp only[bO] at h⊢;rw[X,M,o];exact h
 |build t parts=>
  have X:(parts.toList.map λp=>(p.1,P.ev D p.2))=parts.toList.map λp=>(p.1,R.ev D p.2):=aIY λp hp=>by rw[W p.2 (by simp[Op.operands];exact⟨p.1,by simpa using hp⟩)]
  simp only[bO] at h⊢;rw[X];exact h
 |lookup t x ix ok=>
  have X:=W x (by simp[Op.operands]);have M:=W ix (by simp[Op.operands]);simp only[bO] at h⊢;rw[X,M];split at h;rename_i k e n ag ae q i F H;have B:=u i (by simp only[zq,H]);unfold RD at h⊢;rw[B];split at h;rename_i te a b c bt cs g1 g2 g3;split at h;exact absurd h.symm (V _);rename_i an;rw[if_neg an];split at h;rename_i hd;rw[if_pos hd];split at h;rename_i r nk ka va;split at h;rename_i v;have:r.oZ ty P ⟨k,e,n,ag,te.d.isAgg⟩=true:=by
   simp only[aIy] at v;have h6:=v.1.1.1.1.1;unfold RE.oZ at h6⊢;rcases aLm.1 h6 with h7|h7;rw[decide_eq_true ((N rfl rfl) r _ (by simp) (of_decide_eq_true h7))];rfl;rw[h7];simp
  simp only[aIy] at v;simp only[this,v,aJI,if_true];exact h;exact absurd h.symm (V _);exact absurd h.symm (V _);rename_i hd;rw[if_neg hd];exact h;exact absurd h.symm (V _);exact absurd h.symm (V _)
 |call c=>
  have X:c.args.toList.map (P.ev D)=c.args.toList.map (R.ev D):=aIY λx H=>W x (by simp[Op.operands,Call.operands];exact .inr (by simpa using H))
  cases C:c.callee with
  |builtin b=>
   cases b with
   |len=>
    simp only[bO,C] at h⊢;rw[X];split at h;exact h;rename_i t r a0 z B;split at h;rename_i F Q;simp only[(N rfl rfl) _ _ (by simp) Q,F];exact h;rename_i F Q;simp only[(N rfl rfl) _ _ (by simp) Q,F];exact h;exact absurd h.symm (V _);exact h;exact absurd h.symm (V _)
   |min=>simp only[bO,C] at h⊢;rw[X];exact h
   |max=>simp only[bO,C] at h⊢;rw[X];exact h
   |_=>simp only[bO,C] at h;exact absurd h.symm (V _)
  |value f=>simp only[bO,C] at h;exact absurd h.symm (V _)
  |invoke r m=>simp only[bO,C] at h;exact absurd h.symm (V _)
 |_=>simp only[bO] at h;exact absurd h.symm (V _)
end
def PR.xZ(s:S)(O:aa)(v:SV):PR->Prop
 |.ok x=>v=x
 |.bj b x=>b.den O=J/\b.bd s.ni s.nb (Y s.rs)=J/\v=x
 |_=>False
def Te{r:PR}(h:r.xZ R N v):r.gives N v:=by
 cases r with
 |ok x=>exact h
 |bj b x=>exact⟨h.1,h.2.2⟩
 |no w=>exact h
def ga(B:cT)(m:OM)(s:S)(O:aa):Option Bool:=match m.o.guard with
 |none=>U J
 |U (j,X)=>match(B[j]?).bind (·.dst) with
  |U d=>match s.tmps[d]? with
   |U (.bool b)=>if b.bd s.ni s.nb (Y s.rs) then U (b.den O==X) else Z
   |U (.bH [])=>U E
   |_=>Z
  |none=>Z
def QV(u:bz)(B:cT)(O:aa)(m:OM)(s:S)(v:SV)(l:Nat):Prop:=
 (ga B m s O=U E/\v=.bH []/\l=0)\/
 (ga B m s O=U J/\(∀x∈m.o.op.operands.toList,(s.ev u.gl x).dP=E)/\match m.o.op with
  |.pick c x y=>∃e:BE,s.ev u.gl c=.bool e/\e.bd s.ni s.nb (Y s.rs)=J/\v=(if e.den O then s.ev u.gl x else s.ev u.gl y)/\l=0
  |.load t x=>(bO u.ty u.gl s (.load t x)).xZ s O v/\l=MW m.bC (s.ev u.gl x)
  |op=>(bO u.ty u.gl s op).xZ s O v/\l=0)
def OR.Gi(s:S)(O:aa)(X:S):OR->Prop
 |.ok x=>X=x
 |.bj b x=>b.den O=J/\b.bd s.ni s.nb (Y s.rs)=J/\X=x
 |.split b W V=>b.bd s.ni s.nb (Y s.rs)=J/\X=if b.den O then W else V
 |.no _=>False
def gK(u:bz)(m:OM)(s:S)(O:aa)(X:S):Prop:=(fw u m s).Gi s O X
def Jx{u:bz}{X:S}(h:gK u r R N X):(fw u r R).gives N X:=by
 unfold gK at h;cases W:fw u r R<;>rw[W] at h;exact h;exact⟨h.1,h.2.2⟩;exact h.2;exact h
def akQ{Q:S}{d:bR}{r:PR}:(qY R d X r).Gi R N Q<->∃v,r.xZ R N v/\Q=R.cq d v X:=by
 cases r with
 |ok v=>exact⟨λh=>⟨v,rfl,h⟩,λ⟨w,W,V⟩=>by cases W;exact V⟩
 |bj b v=>
  simp only[qY];split;rename_i P;exact⟨λh=>⟨v,⟨h.1,h.2.1,rfl⟩,h.2.2⟩,λ⟨w,⟨W,V,M⟩,H⟩=>⟨W,V,by rw[H,M]⟩⟩;rename_i P;exact⟨λh=>h.elim,λ⟨w,⟨W,V,M⟩,H⟩=>absurd V P⟩
 |no w=>exact⟨λh=>h.elim,λ⟨w,W,V⟩=>W.elim⟩
def Jy(p:Sp)(u:bz)(s:S)(O:aa)(g:FuncId)(Q:ah)(K:aa->SV->S->Prop):Prop:=
 ∃H X l,u.sig g=U H/\gJ u.ty H=U X/\zv u.ty H ((s.cut Q X).bS X).1=U l/\(s.dZ Q&&ov X)=J/\
  ∀V W,jB p.S0 p.w0 V O (ur (pQ (SV.nK Q) 0 s.boxes)) p.ty (M3 Q s.rs) W->Calls p.P g (SV.aA O V Q).toArray W λ
   |.returned v,N=>∃M,dU X M/\v=(one l).den (O.ext M) V/\Below W.heap.size W N/\I5 p.ty N W.heap.size (O.oz p.ty (M3 Q s.rs)) X M/\K (O.ext M) (one l) ((s.cut Q X).bS X).2
   |.panicked G,N=>Below W.heap.size W N/\p.R (.panicked G) N
   |.outgrown,_=>False
def rA(o:Option BI)(f:BI->Prop)(g:Prop):Prop:=match o with
 |U b=>f b
 |none=>g
def oC(o:Option (SV×bw))(f:SV->bw->Prop)(g:Prop):Prop:=match o with
 |U (v,X)=>f v X
 |none=>g
def dC(p:Sp)(u:bz)(B:cT)(A:vT)(X:aa->S->Prop)(W:aa->SV->S->Prop)(V:OM->bY->aa->S->Nat->ah->Prop):bY->aa->S->Prop
 |[],O,s=>X O s
 |m::R,O,s=>
  (ga B m s O=U E/\dC p u B A X W V R O (s.put m.o.dst (.bH [])))\/
  (ga B m s O=U J/\match dA u s m.o with
   |.call (.fn g) Q=>oC (A g Q s) (λv M=>s.bd=J/\dC p u B A X W V R O ((s.plus M).put m.o.dst v)) (Jy p u s O g Q λH v P=>dC p u B A X W V R H (P.put m.o.dst v))
   |.call (.yl n) Q=>m.so=J/\V m R O s n Q
   |.bn v=>W O v s
   |.no=>False
   |.op=>rA (dM u m.o m.bC m.dr s) (λb=>b.bj.den O=J/\∀N,F7 p.ty p.S0 p.w0 b.e b.x s.rs O N->dC p u B A X W V R (O.add (.r N)) b.s) (∃P,gK u m s O P/\dC p u B A X W V R O P))
def zS(s:S)(O:aa)(X:Fx):Prop:=∀x∈X,x.1.den O=x.2/\x.1.bd s.ni s.nb (Y s.rs)=J
def aa2{p:Sp}{L:cV}{W:Fx}{b:BE}{t f:Fx->T}(Q:zS R N W)(h:(Bo R W b t f).aQ p N L):
  b.bd R.ni R.nb (Y R.rs)=J/\∃M,zS R N M/\(if b.den N then(t M).aQ p N L else(f M).aQ p N L):=by
 have G:s7 N W:=λx P=>(Q x P).1
 have F:∀v,MX W b=U v->b.bd R.ni R.nb (Y R.rs)=true:=by
  intro v X;unfold MX at X;split at X;exact BE.aS.1 _;cases H:W.find? (λx=>x.1.same b) with
  |none=>rw[H] at X;cases X
  |some x=>
   have B:=aKW H;rw[<-BE.bI _ _ B];exact(Q x (aKc H)).2
 unfold Bo at h;split at h;rename_i X;exact⟨F _ X,W,Q,by rw[SM G X];exact h⟩;rename_i X;exact⟨F _ X,W,Q,by rw[SM G X];exact h⟩;split at h;rename_i D;simp only[T.aQ] at h;refine⟨D, ?_⟩;have C:∀v,b.den N=v->zS R N ((b,v)::W):=λv V x P=>by
  rcases aIK.1 P with rfl|P;exact⟨V,D⟩;exact Q x P
 cases V:b.den N;exact⟨_,C _ V,by simpa using h.2 V⟩;exact⟨_,C _ V,by simpa using h.1 V⟩;exact h.elim
section
variable{p:Sp}{u:bz}{B:cT}{A:vT}{L:cV}{F:YH}{k:S->T}{C:SV->S->T}
def eM(s:S)(d:bR)(v:SV):(s.put d v).ni=s.ni/\(s.put d v).nb=s.nb/\(s.put d v).rs=s.rs:=by cases d<;>exact⟨rfl,rfl,rfl⟩
def akR{X:S}(h:(fw u r R).gives N X):X.ni=R.ni/\X.nb=R.nb/\X.rs=R.rs:=by
 unfold fw at h;split at h;exact h.elim;split at h;split at h;split at h;cases h;exact eM _ _ _;exact h.elim;exact h.elim;split at h;split at h;cases h;exact eM _ _ _;exact h.elim;exact h.elim;split at h;split at h;split at h;split at h;cases h;exact eM _ _ _;exact h.elim;exact h.elim;exact h.elim;exact h.elim;split at h;split at h;split at h;cases h;exact eM _ _ _;exact h.elim;exact h.elim;exact h.elim;split at h;simp only[OR.gives] at h;split at h<;>(subst h;exact eM _ _ _);exact h.elim;obtain⟨v,-,rfl⟩:=zO h;exact eM _ _ _;obtain⟨v,-,rfl⟩:=zO h;exact eM _ _ _
def NJ{d:bR}{bj:BE}{k:RK}{X:LE}{W:ai}{b:BI}(h:jm R d bj x k X t W=U b):b.s.ni=R.ni/\b.s.nb=R.nb/\Y b.s.rs=Y R.rs+1:=by
 obtain⟨-,-,rfl⟩:=xT h;refine⟨(eM _ _ _).1,(eM _ _ _).2.1, ?_⟩;simp only;rw[(eM _ _ _).2.2];simp[zM,zL]
def akS{o:Oper}{bC W:Bool}{s:S}{b:BI}(h:dM u o bC W s=U b):b.s.ni=s.ni/\b.s.nb=s.nb/\Y b.s.rs=Y s.rs+1:=by
 unfold dM at h;split at h;split at h;split at h;split at h;split at h;split at h;cases h;split at h;exact NJ h;cases h;cases h;cases h;cases h;cases h;split at h;split at h;split at h;exact NJ h;cases h;cases h;cases h;split at h;cases h;split at h;split at h;split at h;split at h;exact NJ h;cases h;cases h;cases h;cases h;split at h;cases h
 ·split at h
  all_goals first
   |cases h
   |(split at h
     split at h;exact NJ h;cases h;cases h)
 split at h;cases h;split at h;split at h;split at h;split at h;cases X:jm s Z (uq _ (.len (.v _))) _ (.own _) _ [_] _ with
 |none=>rw[X] at h;cases h
 |some Q=>
  rw[X] at h;simp only[aII,aID] at h;subst h;obtain⟨V,R,q3⟩:=NJ X;refine⟨?_, ?_, ?_⟩;simp only;rw[(eM _ _ _).1];exact V;simp only;rw[(eM _ _ _).2.1];exact R;simp only;rw[(eM _ _ _).2.2];exact q3
 cases h;cases h;cases h;cases h;cases h
def akT{W:S}{d:bR}{r:PR}{b:BE}(h:qY R d X r=.bj b W):b.bd R.ni R.nb (Y R.rs)=true:=by
 cases r with
 |ok v=>cases h
 |bj Q v=>
  simp only[qY] at h;split at h;rename_i V;cases h;exact V;cases h
 |no w=>cases h
def axi{X:S}{b:BE}(h:fw u r R=.bj b X):b.bd R.ni R.nb (Y R.rs)=true:=by
 unfold fw at h;split at h;cases h;split at h
 ·(repeat' split at h)<;>cases h
 ·(repeat' split at h)<;>cases h
 ·(repeat' split at h)<;>cases h
 ·(repeat' split at h)<;>cases h
 ·(repeat' split at h)<;>cases h
 exact akT h;exact akT h
structure Dz(B:cT)(A:vT):Prop where
 q:∀(g:FuncId)(args:ah)(s:S)(d:bR)(v:SV)(l:Nat),A g args (s.cq d v l)=A g args s
 z:∀(g:FuncId)(s:S)(n:Nat)(t:TypeId)(cs:ah)(d:bR)(w:SV),fj s.boxes n=J->A g [] ((s.ck n t cs).put d w)=A g [] s
 reg:∀(g:FuncId)(args:ah)(s:S)(r:SV×bw),A g args s=U r->R6 B=J
def akU{W:bw}(h:aL R.boxes X=J):bU (R.plus W).boxes X=bU R.boxes X:=by
 obtain⟨b,V⟩:=aIS.1 h;have Q:=(aIz.1 (i8.1 V)).1;simp only[cw,S.plus,aIB Q]
def akV{W:bw}(h:fj R.boxes X=J):fj (R.plus W).boxes X=true:=by
 have V:=(lC h).2;simp only[fj,S.plus,aIB V] at h⊢;exact h
def aa4{g:FL}(h:dA u R l=.call g e):xL l.op=true:=by
 unfold dA at h;split at h;split at h<;>cases h
 ·rename_i c W;rw[W];cases X:c.callee with
  |value f=>simp[xL,X]
  |invoke r m=>rw[X] at h;cases h
  |builtin b=>
   rw[X] at h;exfalso;revert h;cases b<;>simp only
   all_goals first
    |(intro h;cases h;done)
    |(split<;>intro h<;>first|(cases h;done)|(split at h<;>cases h))
 cases h
def akW{g:FuncId}(X:IL l.op=J)(h:dA u R l=.call (.fn g) e):e=[]:=by
 unfold IL at X;split at X;rename_i c W;split at X;rename_i f V;have Q:c.args.toList=[]:=by simpa using X
 simp only[dA,W,V,S.ev,vM,Q,List.any_nil,aIU,if_false,aJ7,aIJ,CK.call.injEq,FL.fn.injEq] at h;exact h.2.symm;cases X;cases X
def DA(p:Sp)(k:S->T)(L:cV)(O:aa)(s:S):Prop:=(k s).aQ p O L
def BU(p:Sp)(C:SV->S->T)(L:cV)(O:aa)(v:SV)(s:S):Prop:=(C v s).aQ p O L
def BV(p:Sp)(u:bz)(B:cT)(A:vT)(F:YH)(k:S->T)(C:SV->S->T)(L:cV)(m:OM)(X:bY)(O:aa)(s:S)(n:Nat)(V:ah):Prop:=
 (∀R∈X,R.dr=J)/\∃W,zS s O W/\(xM u A F (.yl n) V s (λv Q=>mw u (xM u A F) B k C X (Q.put m.o.dst v) (nN s W)) C).aQ p O L
def Gj(a4:p.ty=u.ty):∀(l:bY)(s:S)(fx:Fx)(O:aa),Y O.i=s.ni->Y O.b=s.nb->Y O.r=Y s.rs->(mw u (xM u A F) B k C l s fx).aQ p O L->zS s O fx->
  (∀m∈l,m.dr=J)->dC p u B A (DA p k L) (BU p C L) (BV p u B A F k C L) l O s
 |[],s,fx,O,_,_,_,h,_,_=>h
 |m::Q,s,fx,O,j,a,e3,h,bb,b0=>by
  have bg:m.dr=true:=b0 m (by simp);have a1:∀m∈Q,m.dr=true:=λm' b3=>b0 m' (by simp[b3])
  have b4:zx u m s=none:=by simp[zx,bg]
  have b5:Bp u m s=none:=by simp[Bp,bg]
  have b6:∀c f,zw u m s c f=none:=λc f=>by simp[zw,bg]
  have bk:∀(s:S)(d:bR)(v:SV),(s.put d v).ni=s.ni/\(s.put d v).nb=s.nb/\(s.put d v).rs=s.rs:=λs d v=>by cases d<;>exact⟨rfl,rfl,rfl⟩
  have b1:∀(X:S)(P:Fx),X.ni=s.ni->X.nb=s.nb->X.rs=s.rs->zS s O P->zS X O P:=λX P h1 M h3 hf x hx=>by rw[h1,M,h3];exact hf x hx
  have bl:∀P,zS s O P->(zA u (xM u A F) m s (mw u (xM u A F) B k C Q) C P).aQ p O L->
    (match dA u s m.o with
     |.call (.fn g) z=>oC (A g z s) (λv ex=>s.bd=J/\dC p u B A (DA p k L) (BU p C L) (BV p u B A F k C L) Q O ((s.plus ex).put m.o.dst v)) (Jy p u s O g z λO' v X=>dC p u B A (DA p k L) (BU p C L) (BV p u B A F k C L) Q O' (X.put m.o.dst v))
     |.call (.yl n) z=>m.so=J/\BV p u B A F k C L m Q O s n z
     |.bn v=>BU p C L O v s
     |.no=>False
     |.op=>rA (dM u m.o m.bC m.dr s) (λb=>b.bj.den O=J/\∀rv,F7 p.ty p.S0 p.w0 b.e b.x s.rs O rv->dC p u B A (DA p k L) (BU p C L) (BV p u B A F k C L) Q (O.add (.r rv)) b.s)
      (∃X,gK u m s O X/\dC p u B A (DA p k L) (BU p C L) (BV p u B A F k C L) Q O X):Prop):=by
   intro P an h;unfold zA at h;rw[b4] at h;simp only[b5,b6] at h;cases hc:dA u s m.o with
   |call g0 z=>
    rw[hc] at h;cases g0 with
    |yl n=>
     simp only at h⊢;split at h;rename_i b7;exact⟨b7,a1,P,an,h⟩;exact h.elim
    |fn g=>
    simp only[xM] at h;simp only;cases b2:A g z s with
    |some ve=>
     obtain⟨v,ex⟩:=ve;rw[b2] at h;simp only at h;split at h;rename_i H;refine⟨H, ?_⟩;obtain⟨G,D,q3⟩:=bk (s.plus ex) m.o.dst v;refine Gj a4 Q _ _ O (by rw[G];exact j) (by rw[D];exact a) (by rw[q3];exact e3) h (λx hx=> ?_) a1;rw[G,D,q3];exact an x (aJj.1 hx).1;exact h.elim
    |none=>
    rw[b2] at h;simp only[xJ] at h;simp only[oC];split at h;rename_i ts b8;split at h;rename_i ks ca;split at h;rename_i l hl;split at h;rename_i H;refine⟨ts,ks,l,b8,ca,hl,H,λV W R=> ?_⟩;simp only[T.aQ] at h;refine(h O.y V W R).mono ?_;intro e W' he;cases e with
    |returned v=>
     obtain⟨xs,h1,M,h3,h4,h5⟩:=he;have hy:(O.ext xs).at O.y=O.ext xs:=by have:=Jv xs O;unfold aa.at;rw[<-this]
     rw[hy] at M;refine⟨xs,h1,M,h3,h4, ?_⟩;obtain⟨l1,l2,l3⟩:=xX ks xs (s.cut z ks) O h1 j a (e3.trans (Dy z ks s.rs).len.symm);have a3:=bk ((s.cut z ks).bS ks).2 m.o.dst (one l);refine Gj a4 Q _ _ _ (by rw[a3.1];exact l1) (by rw[a3.2.1];exact l2) (by rw[a3.2.2];exact l3) h5 ?_ a1;intro x hx;obtain⟨br,cc⟩:=aJj.1 hx;obtain⟨w,N⟩:=an x br;have cl:=Dp xs O;have bs:=Sy xs O;refine⟨by rw[BE.dg cl _ (by rw[j,a,e3];exact N)];exact w, ?_⟩;rw[a3.1,a3.2.1,a3.2.2,<-l1,<-l2,<-l3];exact BE.du (by rw[<-j];exact bs.1) (by rw[<-a];exact bs.2.1) (by rw[<-e3];exact bs.2.2) _ N
    |panicked ch=>exact he
    |outgrown=>exact he
    exact h.elim;exact h.elim;exact h.elim;exact h.elim
   |bn v=>rw[hc] at h;exact h
   |no=>rw[hc] at h;exact h
   |op=>
    rw[hc] at h;simp only at h⊢;cases bt:dM u m.o m.bC m.dr s with
    |some b=>
     rw[bt] at h;obtain⟨hn,h⟩:=h;refine⟨hn,λrv cp=> ?_⟩;obtain⟨G,D,q3⟩:=akS bt;have cs:(O.add (.r rv)).r.length=Y b.s.rs:=by simp[aa.add,q3,e3]
     refine Gj a4 Q b.s _ _ (by rw[G];exact j) (by rw[D];exact a) cs (h rv cp) ?_ a1;intro x hx;obtain⟨br,cc⟩:=aJj.1 hx;obtain⟨w,N⟩:=an x br;refine⟨by rw[BE.dg (Sk O (.r rv)) _ (by rw[j,a,e3];exact N)];exact w, ?_⟩;exact BE.du (by omega) (by omega) (by omega) _ N
    |none=>
    rw[bt] at h;simp only[rA] at h⊢;have bf:∀X a9,zS s O a9->gK u m s O X->(mw u (xM u A F) B k C Q X a9).aQ p O L->∃X,gK u m s O X/\dC p u B A (DA p k L) (BU p C L) (BV p u B A F k C L) Q O X:=by
     intro X a9 hf hG hs;obtain⟨G,D,q3⟩:=akR (Jx hG);exact⟨X,hG,Gj a4 Q X a9 O (by rw[G];exact j) (by rw[D];exact a) (by rw[q3];exact e3) hs (b1 X a9 G D q3 hf) a1⟩
    split at h;rename_i X a0;exact bf X P an (by unfold gK;rw[a0];rfl) h;rename_i b X a0;refine bf X P an ?_ h.2;unfold gK;rw[a0];exact⟨h.1,axi a0,rfl⟩;rename_i b s1 s2 a0;obtain⟨N,af,ag,M⟩:=aa2 an h;cases hv:b.den O;exact bf s2 af ag (by unfold gK;rw[a0];simp[OR.Gi,hv,N]) (by simpa[hv] using M);exact bf s1 af ag (by unfold gK;rw[a0];simp[OR.Gi,hv,N]) (by simpa[hv] using M);exact h.elim
  have bx:∀P,zS s O P->(mw u (xM u A F) B k C Q (s.put m.o.dst (.bH [])) P).aQ p O L->dC p u B A (DA p k L) (BU p C L) (BV p u B A F k C L) Q O (s.put m.o.dst (.bH [])):=by
   intro P hf h;obtain⟨G,D,q3⟩:=bk s m.o.dst (.bH []);exact Gj a4 Q _ P O (by rw[G];exact j) (by rw[D];exact a) (by rw[q3];exact e3) h (b1 _ P G D q3 hf) a1
  simp only[mw,RW] at h;cases al:m.o.guard with
  |none=>
   rw[al] at h;exact .inr ⟨by simp[ga,al],bl fx bb h⟩
  |some q=>
   obtain⟨jj,ct⟩:=q;rw[al] at h;simp only at h;split at h;rename_i d w;split at h;rename_i b H;cases ct;simp only[aIU,if_false] at h;obtain⟨N,af,ag,M⟩:=aa2 bb h;cases t:b.den O;exact .inr ⟨by simp[ga,al,w,H,N,t],bl af ag (by simpa[t] using M)⟩;exact .inl ⟨by simp[ga,al,w,H,N,t],bx af ag (by simpa[t] using M)⟩;simp only[if_true] at h;obtain⟨N,af,ag,M⟩:=aa2 bb h;cases t:b.den O;exact .inl ⟨by simp[ga,al,w,H,N,t],bx af ag (by simpa[t] using M)⟩;exact .inr ⟨by simp[ga,al,w,H,N,t],bl af ag (by simpa[t] using M)⟩;rename_i H;exact .inl ⟨by simp[ga,al,w,H],bx fx bb h⟩;exact h.elim;exact h.elim
end
section
variable{p:Sp}{cf:bz}{ops:cT}{A:vT}
structure jU(cf:bz)(ops:cT)(o:Oper)(s:S)(O:aa)(s':S)(O':aa):Prop where
 tm:∀t∈i6 ops o,s'.tmps[t]?=s.tmps[t]?
 kd:looks o.op=J->zD o.op=E->zR cf.ty s s'
 kl:∀t x r w i off,o.op=.load t x->s.ev cf.gl x=.el r w i off->∀e,e≠ .aI->r.kind cf.ty s=e->r.kind cf.ty s'=e
 li:s.ni<=s'.ni
 lb:s.nb<=s'.nb
 lr:Y s.rs<=Y s'.rs
 ag:gT O O' s.ni s.nb (Y s.rs)
def jU.xY{o:Oper}{s X:S}{O:aa}(V:∀t∈i6 ops o,X.tmps[t]?=s.tmps[t]?)(W:X.rs=s.rs)(R:X.ni=s.ni)(Q:X.nb=s.nb):jU cf ops o s O X O:=
 ⟨V,λ_ _=>zR.xY W,λt x r w i P _ _=>zR.xY W r,aKe R.symm,aKe Q.symm,aKe (by rw[W]),gT.refl _ _ _ _⟩
def jU.ev{o:Oper}{s X:S}{O V:aa}(h:jU cf ops o s O X V)(W:lu):∀x∈o.op.operands.toList,X.ev W x=s.ev W x:=by
 intro x R;cases x with
 |tmp t=>
  have:t∈i6 ops o:=by
   unfold i6;exact aJp _ (aJN.2 ⟨.tmp t,R,rfl⟩)
  simp only[S.ev,vM,aIC,h.tm t this]
 |const v=>rfl
 |global g=>rfl
 |func f=>rfl
def jU.guard{m:OM}{s W:S}{O Q:aa}(h:jU cf ops m.o s O W Q){b:Bool}(X:ga ops m s O=U b):ga ops m W Q=U b:=by
 unfold ga at X⊢;cases V:m.o.guard with
 |none=>rw[V] at X;exact X
 |some q=>
  obtain⟨j,M⟩:=q;rw[V] at X;simp only at X⊢;cases R:(ops[j]?).bind (·.dst) with
  |none=>rw[R] at X;cases X
  |some d=>
   rw[R] at X;simp only at X⊢;have N:W.tmps[d]?=s.tmps[d]?:=h.tm d (by unfold i6;rw[V];exact aKa _ (by simp[R]));rw[N];split at X;rename_i e L;split at X;rename_i P;rw[if_pos (BE.du h.li h.lb h.lr _ P),BE.dg h.ag _ P];exact X;cases X;exact X;cases X
def akX{V:S}{P:aa}(h:jU cf ops l R N V P)(M:∀i,zq cf.gl R l.op=U i->bU V.boxes i=bU R.boxes i)
  (X:(bO cf.ty cf.gl R l.op).xZ R N v):(bO cf.ty cf.gl V l.op).xZ V P v:=by
 have H:bO cf.ty cf.gl V l.op=bO cf.ty cf.gl R l.op:=by
  cases W:bO cf.ty cf.gl R l.op with
  |ok x=>exact Td (ty:=cf.ty) (h.ev cf.gl) h.kd h.kl M W (λw Q=>by cases Q)
  |bj b x=>exact Td (ty:=cf.ty) (h.ev cf.gl) h.kd h.kl M W (λw Q=>by cases Q)
  |no w=>rw[W] at X;exact X.elim
 rw[H];cases W:bO cf.ty cf.gl R l.op with
 |ok x=>rw[W] at X;exact X
 |bj b x=>
  rw[W] at X;obtain⟨G,L,F⟩:=X;exact⟨by rw[BE.dg h.ag _ L];exact G,BE.du h.li h.lb h.lr _ L,F⟩
 |no w=>rw[W] at X;exact X.elim
def aa5{P:S}{F:aa}(h:jU cf ops r.o R N P F)(D:∀i,zq cf.gl R r.o.op=U i->bU P.boxes i=bU R.boxes i)(A:QV cf ops N r R v X):QV cf ops F r P v X:=by
 rcases A with⟨M,L,W⟩|⟨M,L,W⟩;exact .inl ⟨h.guard M,L,W⟩;refine .inr ⟨h.guard M,λx C=>by rw[h.ev cf.gl x C];exact L x C, ?_⟩;have V:=h.ev cf.gl;cases H:r.o.op with
 |pick c x y=>
  rw[H] at W V;obtain⟨e,z,B,w,u⟩:=W;refine⟨e,by rw[V c (by simp[Op.operands])];exact z,BE.du h.li h.lb h.lr _ B, ?_,u⟩;rw[BE.dg h.ag _ B,V x (by simp[Op.operands]),V y (by simp[Op.operands])];exact w
 |load t x=>
  have Q:=λ(G:(bO cf.ty cf.gl R r.o.op).xZ R N v)=>akX (cf:=cf) h D G
  rw[H] at W V Q;exact⟨Q W.1,by rw[V x (by simp[Op.operands])];exact W.2⟩
 |_=>
  have Q:=λ(G:(bO cf.ty cf.gl R r.o.op).xZ R N v)=>akX (cf:=cf) h D G
  rw[H] at W Q;exact⟨Q W.1,W.2⟩
def axj(h:lY l.op=J):dA cf R l=.op:=by
 unfold dA;cases W:l.op<;>rw[W] at h<;>simp[lY] at h<;>try rfl
 rename_i c;cases X:c.callee with
 |builtin b=>cases b<;>simp[X] at h<;>simp[X]
 |value f=>simp[X] at h
 |invoke r m=>simp[X] at h
def Gk(s:S)(d:bR)(v:SV):s.cq d v 0=s.put d v:=by simp[S.cq]
def Jz{V:S}(F:lY r.o.op=J)(Q:ga ops r R N=U J):gK cf r R N V<->∃v l,QV cf ops N r R v l/\V=R.cq r.o.dst v l:=by
 unfold gK fw QV;by_cases P:(r.o.op.operands.toList.any λx=>(R.ev cf.gl x).dP)=J;simp only[P,if_true];constructor;exact λh=>h.elim
 rintro⟨v,l,h|h,-⟩;rw[Q] at h;cases h.1;obtain⟨x,H,D⟩:=aI7.1 P;have:=h.2.1 x H;rw[this] at D;cases D
 ·have C:∀x∈r.o.op.operands.toList,(R.ev cf.gl x).dP=false:=by
   intro x H;cases u:(R.ev cf.gl x).dP;rfl;exact absurd (aI7.2 ⟨x,H,u⟩) P
  have G:¬ga ops r R N=U false:=by rw[Q];simp
  have B:∀(M:Nat),(qY R r.o.dst M (bO cf.ty cf.gl R r.o.op)).Gi R N V<->∃v l,((ga ops r R N=U E/\v=.bH []/\l=0)\/(ga ops r R N=U J/\(∀x∈r.o.op.operands.toList,(R.ev cf.gl x).dP=E)/\(bO cf.ty cf.gl R r.o.op).xZ R N v/\l=M))/\V=R.cq r.o.dst v l:=by
   intro M;rw[akQ];constructor;rintro⟨v,X,W⟩;exact⟨v,M,.inr ⟨Q,C,X,rfl⟩,W⟩;rintro⟨v,l,h|⟨-,-,X,rfl⟩,L⟩;exact absurd h.1 G;exact⟨v,X,L⟩
  rw[if_neg P];cases A:r.o.op<;>rw[A] at F B<;>simp only[lY,aIU] at F
  case pick c x y=>
   simp only;cases q:R.ev cf.gl c with
   |bool e=>
    constructor;rintro⟨X,W⟩;refine⟨if e.den N then R.ev cf.gl x else R.ev cf.gl y,0,.inr ⟨Q,by rw[<-A];exact C,e,rfl,X,rfl,rfl⟩, ?_⟩;rw[Gk,W];split<;>rfl;rintro⟨v,l,h|⟨-,-,t,X,W,z,w⟩,L⟩;exact absurd h.1 G;cases X;subst w;refine⟨W, ?_⟩;rw[L,Gk,z];split<;>rfl
   |_=>
    constructor;exact λh=>h.elim
    rintro⟨v,l,h|⟨-,-,t,X,W,z,w⟩,L⟩;exact absurd h.1 G;cases X
  all_goals exact B _
variable{a:aa->S->Prop}{k:aa->SV->S->Prop}{n:OM->bY->aa->S->Nat->ah->Prop}
def akY(X:lY l.op=J):dM cf l h J R=none:=by
 unfold dM;cases V:l.op<;>rw[V] at X<;>simp only[lY,aIU] at X<;>try rfl
 rename_i c;cases W:c.callee with
 |builtin b=>cases b<;>simp[W] at X<;>simp[W]
 |value f=>simp[W] at X
 |invoke r m=>simp[W] at X
def akZ{P:bY}(M:r.dr=J)(Q:lY r.o.op=J):dC p cf ops A a k n (r::P) N R<->∃v l,QV cf ops N r R v l/\dC p cf ops A a k n P N (R.cq r.o.dst v l):=by
 simp only[dC,axj Q,M,akY Q,rA];constructor;rintro(⟨V,X⟩|⟨V,H,X,W⟩);exact⟨.bH [],0,.inl ⟨V,rfl,rfl⟩,by rw[Gk];exact X⟩;obtain⟨v,l,L,rfl⟩:=(Jz (ops:=ops) Q V).1 X;exact⟨v,l,L,W⟩;rintro⟨v,l,V,X⟩;rcases V with⟨W,rfl,rfl⟩|W;rw[Gk] at X;exact .inl ⟨W,X⟩;exact .inr ⟨W.1,_,(Jz (ops:=ops) Q W.1).2 ⟨v,l,.inr W,rfl⟩,X⟩
end
section
variable{p:Sp}{A:bz}{B:cT}{C:vT}
def kE{d:bR}(h:d≠U X):(R.put d v).tmps[X]?=R.tmps[X]?:=by
 cases d with
 |none=>rfl
 |some d=>simp only[S.put,um];rw[aJf (λe=>h (by rw[e]))]
def JA{d:bR}{t:Nat}(h:d≠U t):(R.cq d v X).tmps[t]?=R.tmps[t]?:=by
 unfold S.cq;rw[kE h]
def kF(s:S)(d:bR)(v:SV):(s.put d v).boxes=s.boxes:=by cases d<;>rfl
def BW(s:S)(d:bR)(v:SV)(l:Nat):(s.cq d v l).boxes=s.boxes:=by unfold S.cq;rw[kF]
def Tf(s:S)(d:bR)(v:SV):(s.put d v).lk=s.lk:=by cases d<;>rfl
def aa6{d e:bR}{w:SV}(h:∀x,d=U x->e≠U x):(R.put d v).put e w=(R.put e w).put d v:=by
 cases d with
 |none=>cases e<;>rfl
 |some d=>
  cases e with
  |none=>rfl
  |some e=>
   have X:d≠e:=λW=>h d rfl (by rw[W])
   simp only[S.put,um];rw[List.set_comm _ _ X]
def NK{s:S}{d e:bR}{v w:SV}{l:Nat}(h:∀x,d=U x->e≠U x):(s.cq d v l).put e w=(s.put e w).cq d v l:=by
 unfold S.cq;rw[aa6 h];cases e<;>rfl
def axk{d e:bR}{w:SV}{W:Nat}(h:∀x,d=U x->e≠U x):(R.cq d v X).cq e w W=(R.cq e w W).cq d v X:=by
 have V:(R.cq d v X).cq e w W={(R.cq d v X).put e w with lk:=R.lk|||X|||W}:=by
  unfold S.cq;cases e<;>cases d<;>rfl
 have Q:(R.cq e w W).cq d v X={(R.cq e w W).put d v with lk:=R.lk|||W|||X}:=by
  unfold S.cq;cases e<;>cases d<;>rfl
 rw[V,Q,Nat.or_assoc,Nat.or_comm X W,<-Nat.or_assoc];have P:(R.cq d v X).put e w={(R.put d v).put e w with lk:=R.lk|||X}:=by unfold S.cq;cases e<;>cases d<;>rfl
 have O:(R.cq e w W).put d v={(R.put e w).put d v with lk:=R.lk|||W}:=by unfold S.cq;cases e<;>cases d<;>rfl
 rw[P,O,aa6 h]
def axl(s:S)(d:bR)(v:SV)(l n:Nat)(t:TypeId)(X:ah):(s.cq d v l).ck n t X=(s.ck n t X).cq d v l:=by
 unfold S.cq S.ck;cases d<;>rfl
structure aa7(B:cT)(x y:OM)(dx:Nat):Prop where
 xd:x.dr=J
 yd:y.dr=J
 qx:lY x.o.op=J
 np:IK y.o.op=E
 dst:x.o.dst=U dx
 ry:dx∉i6 B y.o
 dy:y.o.dst≠U dx
 rx:dx∉i6 B x.o
 yx:∀d,y.o.dst=U d->d∉i6 B x.o
 rc:xK y.o.op=J->zD x.o.op=J->x.bC=J/\y.bC=J
 rb:Bt y.o.op=J->looks x.o.op=J->zD x.o.op=J/\x.bC=J/\y.bC=J
def ak0{y:OM}(h:RY B r y=J):∃Q,aa7 B r y Q:=by
 unfold RY at h;simp only[aIy,aIR] at h;obtain⟨⟨⟨⟨⟨⟨⟨L,H⟩,G⟩,F⟩,X⟩,V⟩,O⟩,R⟩:=h;cases P:r.o.dst with
 |none=>rw[P] at X;cases X
 |some Q=>
  rw[P] at X;simp only[aIy,aIR,bne_iff_ne] at X;obtain⟨⟨N,D⟩,M⟩:=X;refine⟨Q,L,H,G,F,P, ?_,D, ?_, ?_, ?_, ?_⟩;intro W;rw[aI9.2 W] at N;cases N;intro W;rw[aI9.2 W] at M;cases M;intro d C W;rw[C] at V;simp only[aIR] at V;rw[aI9.2 W] at V;cases V;intro a b;simp only[a,b,aKx,aL3,aIy] at O;exact O;intro a b;simp only[a,b,aKx,aL3,aIy] at R;exact⟨R.1.1,R.1.2,R.2⟩
def Gl{X:S}(h:∀x∈l.op.operands.toList,X.ev A.gl x=R.ev A.gl x):dA A X l=dA A R l:=by
 unfold dA;cases V:l.op<;>rw[V] at h<;>try rfl
 case panic x=>simp only;rw[h x (by simp[Op.operands])]
 case call c=>
  simp only;cases Q:c.callee with
  |value f=>
   have P:=h f (by simp[Op.operands,Call.operands,Q]);have W:c.args.toList.map (X.ev A.gl)=c.args.toList.map (R.ev A.gl):=aIY λx O=>h x (by simp[Op.operands,Call.operands];exact .inr (by simpa using O))
   have N:(c.args.toList.any λx=>(X.ev A.gl x).dP)=c.args.toList.any λx=>(R.ev A.gl x).dP:=by
    have M:=aLD (f:=X.ev A.gl) (p:=SV.dP) (l:=c.args.toList);have L:=aLD (f:=R.ev A.gl) (p:=SV.dP) (l:=c.args.toList);rw[show(c.args.toList.any λx=>(X.ev A.gl x).dP)=(c.args.toList.map (X.ev A.gl)).any SV.dP from M.symm,W,L];rfl
   simp only[P,W,N]
  |invoke r m=>rfl
  |builtin b=>
   cases b<;>try rfl
   cases H:c.args.toList with
   |nil=>rfl
   |cons x r=>
    cases r with
    |nil=>simp only;rw[h x (by simp[Op.operands,Call.operands];exact .inr (by have G:x∈c.args.toList:=(by rw[H];simp);simpa using G))]
    |cons y r=>rfl
def aa8(h:dA A R l=.bn v):IK l.op=true:=by
 unfold dA at h;split at h;rename_i X;rw[X];rfl;rename_i c X;split at h;split at h;split at h<;>cases h;split at h<;>cases h;cases h;cases h;rename_i W;rw[X];simp[IK,W];cases h;cases h
def wh(s:S)(d:Nat):Prop:=s.tmps[d]?=Z\/∃w,s.tmps[d]?=U w/\w.bd s.ni s.nb (Y s.rs) (aL s.boxes)=J
def aa9{W V R:Nat}{Q:Nat->Bool}:∀{l:ah}{d:Nat}{v:SV},SV.da W V R Q (l.set d v)=J->(l[d]?=Z\/∃w,l[d]?=U w/\w.bd W V R Q=J)->SV.da W V R Q l=J
 |[],d,v,h,_=>rfl
 |x::P,0,v,h,X=>by
  simp only[aL9,SV.gI,aIy] at h⊢;refine⟨?_,h.2⟩;rcases X with X|X;simp at X;simpa using X
 |x::P,d+1,v,h,X=>by
  simp only[List.set_cons_succ,SV.gI,aIy] at h⊢;exact⟨h.1,aa9 h.2 (by simpa using X)⟩
def JB{s:S}{dx:Nat}{v:SV}{l:Nat}{cs:ah}(h:(s.cq (U dx) v l).dZ cs=J)(X:wh s dx):s.dZ cs=true:=by
 simp only[S.dZ,S.bd,S.cq,S.put,um,aIy] at h⊢;exact⟨⟨aa9 h.1.1 X,h.1.2⟩,h.2⟩
def axm{V:Ty}{Q:lu}{W:Op}(h:(bO V Q R W).gives N v):lY W=true:=by
 cases W with
 |call c=>
  cases X:c.callee with
  |builtin b=>cases b<;>simp only[bO,X,PR.gives] at h<;>simp[lY,X]
  |value f=>simp only[bO,X,PR.gives] at h
  |invoke r m=>simp only[bO,X,PR.gives] at h
 |_=>first|rfl|(simp only[bO,PR.gives] at h)
def axn{y:OM}(hc:aa7 B r y X){b:S}{l:Nat}(ha:wh R X)(hg:ga B y R N=U J)
  (h:gK A y (R.cq (U X) v l) N b):∃V,gK A y R N V/\b=V.cq (U X) v l/\(∀t,y.o.dst≠U t->V.tmps[t]?=R.tmps[t]?)/\V.ni=R.ni/\V.nb=R.nb/\V.rs=R.rs/\
   ∀i,aL R.boxes i=J->bU V.boxes i=bU R.boxes i\/(xK y.o.op=J/\(y.bC=J->(R.lk|||l).testBit (2*i)=E)/\(ky R.boxes i).isSome=J):=by
 have a1:jU A B y.o (R.cq (U X) v l) N R N:=jU.xY (λt Q=>(JA (λe=>hc.ry (by cases e;exact Q))).symm) rfl rfl rfl;have ag:jU A B y.o R N (R.cq (U X) v l) N:=jU.xY (λt Q=>JA (λe=>hc.ry (by cases e;exact Q))) rfl rfl rfl;have m:=ag.ev A.gl;have al:∀z,(U X:bR)=U z->y.o.dst≠U z:=λz F=>by cases F;exact hc.dy
 by_cases k:lY y.o.op=J;have a3:=ag.guard hg;obtain⟨w,l',hw,rfl⟩:=(Jz (ops:=B) k a3).1 h;have a4:=aa5 (cf:=A) a1 (λi _=>by rw[BW]) hw;refine⟨R.cq y.o.dst w l',(Jz (ops:=B) k hg).2 ⟨w,l',a4,rfl⟩,axk al,λt Q=>JA Q,(eM _ _ _).1,(eM _ _ _).2.1,(eM _ _ _).2.2,λi _=>.inl (by rw[BW])⟩;unfold gK fw at h;split at h;exact h.elim;rename_i hk;have a:¬(y.o.op.operands.toList.any λz=>(R.ev A.gl z).dP)=true:=by
  intro hh;obtain⟨z,an,a9⟩:=aI7.1 hh;exact hk (aI7.2 ⟨z,an,by rw[m z an];exact a9⟩)
 have af:∀(n:Nat)(t:TypeId)(D:ah)(w:SV),n<Y R.boxes->gK A y R N ((R.ck n t D).put y.o.dst w)->b=((R.cq (U X) v l).ck n t D).put y.o.dst w->
   (∀i,aL R.boxes i=J->i=n->xK y.o.op=J/\(y.bC=J->(R.lk|||l).testBit (2*i)=E)/\(ky R.boxes i).isSome=J)->
   ∃V,gK A y R N V/\b=V.cq (U X) v l/\(∀t,y.o.dst≠U t->V.tmps[t]?=R.tmps[t]?)/\V.ni=R.ni/\V.nb=R.nb/\V.rs=R.rs/\
    ∀i,aL R.boxes i=J->bU V.boxes i=bU R.boxes i\/(xK y.o.op=J/\(y.bC=J->(R.lk|||l).testBit (2*i)=E)/\(ky R.boxes i).isSome=J):=by
  intro n t D w hn h1 h2 h3;refine⟨_,h1, ?_,λt Q=>kE Q,(eM _ _ _).1,(eM _ _ _).2.1,(eM _ _ _).2.2,λi P=> ?_⟩;rw[h2,axl,NK al];by_cases a0:i=n;exact .inr (h3 i P a0);left;rw[kF,S.ck,xR a0]
 split at h;rename_i t W;split at h;rename_i ti Q;split at h;rename_i M;simp only[aIy] at M;have L:=JB M.1 ha;have H:ou R.boxes y.ix t=true:=M.2;have G:fj R.boxes y.ix=true:=rr H;refine af y.ix t (di ti) _ (lC G).2 ?_ h (λi P e=>by subst e;rw[(lC G).1] at P;cases P);unfold gK fw;rw[if_neg a];simp only[W,Q,L,H,aJI,if_true];rfl;exact h.elim;exact h.elim;rename_i t z W;have F:=m z (by rw[W];simp[Op.operands]);split at h;rename_i ti Q;rw[F] at h;split at h;rename_i M;simp only[aIy] at M;obtain⟨⟨⟨g,f⟩,d⟩,c4⟩:=M;have L:=JB f ha;have H:ou R.boxes y.ix t=true:=c4;have G:fj R.boxes y.ix=true:=rr H;refine af y.ix t _ _ (lC G).2 ?_ h (λi P e=>by subst e;rw[(lC G).1] at P;cases P);unfold gK fw;rw[if_neg a];simp only[W,Q,g,L,d,H,aJI,if_true];rfl;exact h.elim;exact h.elim;rename_i t bg parts W;have F:(parts.toList.map λp=>(p.1,(R.cq (U X) v l).ev A.gl p.2))=parts.toList.map λp=>(p.1,R.ev A.gl p.2):=aIY λp hp=>by rw[m p.2 (by rw[W];simp[Op.operands];exact⟨p.1,by simpa using hp⟩)]
 split at h;rename_i e ae q Q;split at h;rename_i te bb;rw[F] at h;split at h;rename_i D hf;split at h;rename_i M;simp only[aIy] at M;obtain⟨⟨g,f⟩,d⟩:=M;have L:=JB g ha;have H:ou R.boxes y.ix e=true:=d;have G:fj R.boxes y.ix=true:=rr H;refine af y.ix e D _ (lC G).2 ?_ h (λi P e=>by subst e;rw[(lC G).1] at P;cases P);unfold gK fw;rw[if_neg a];simp only[W,Q,bb,hf,L,f,H,aJI,if_true];rfl;exact h.elim;exact h.elim;exact h.elim;exact h.elim;rename_i t z u W;have F:=m z (by rw[W];simp[Op.operands]);have hu:=m u (by rw[W];simp[Op.operands]);rw[F,hu] at h;split at h;rename_i ti i bk Q P;rw[BW] at h;split at h;rename_i bt D L;split at h;rename_i M;simp only[aIy,aIR] at M;obtain⟨⟨⟨⟨g,f⟩,d⟩,c4⟩,C⟩:=M;have bd:(R.cq (U X) v l).lk=R.lk|||l:=Tf _ _ _;rw[bd] at C;have bf:(y.bC&&R.lk.testBit (2*i))=false:=by
  cases hr:y.bC;rfl;rw[hr,aJ3,aJ4] at C;simp only[aJh] at C;simp[C.1]
 refine af i bt _ _ (aIz.1 (i8.1 (xP L).1)).1 ?_ h (λj hj e=> ?_);unfold gK fw;rw[if_neg a];simp only[W,Q,P,L,g,f,d,c4,bf,aJI,aLp,if_true];rfl;subst e;refine⟨by rw[W];rfl,λhr=> ?_,by rw[L];rfl⟩;rw[hr,aJ3] at C;exact C;exact h.elim;exact h.elim;exact h.elim;rename_i c z u W;exact absurd (by rw[W];rfl) k;rename_i t z W;exact absurd (by rw[W];rfl) k;rename_i o1 o2 o3 o4 o5 o6;exfalso;obtain⟨w,hw,-⟩:=akQ.1 h;refine k ?_;exact axm (Te hw)
def axo{X:Ty}{W:S}(h:R.rs=W.rs)(k:RK)(r:RE):r.fits X R k=r.fits X W k:=by
 unfold RE.fits;cases k<;>simp only[BT h r]
def ak1{X:Ty}{s W:S}(h:s.rs=W.rs):∀(ae:dS)(V:ah),kR X s ae V=kR X W ae V
 |[],[]=>rfl
 |[],_::_=>rfl
 |_::_,[]=>rfl
 |c::R,v::Q=>by
  simp only[kR,ak1 h R Q];congr 1;cases c<;>cases v<;>simp only[qX,axo h]
def DB{X:Ty}{s s':S}(h:s.rs=s'.rs){ae:dS}:∀{l:vK},lX X s ae l=lX X s' ae l
 |[]=>rfl
 |r::W=>by simp only[lX,ak1 h ae r,DB h (l:=W)]
def axp{l:Nat}{W:Ty}{V:TI}{y:SV}{r:LE×BE×ai}(h:pR W (R.cq (U X) v l) x V y=U r):pR W R x V y=U r:=by
 unfold pR at h⊢;split at h;simp only[BT (s:=R) (s':=R.cq (U X) v l) rfl];exact h;rw[BW] at h;split at h;rename_i Q;simp only[DB (s:=R) (s':=R.cq (U X) v l) rfl];exact h;cases h;cases h
def axq{s:S}{V:Nat}{v:SV}{l:Nat}{e:TypeId}{bC:Bool}{y:SV}{R:LE}{n:BE}{W:ai}(h:vQ (s.cq (U V) v l) e bC y=U (R,n,W)):vQ s e bC y=U (R,n,W)/\∀k∈W,bC=J->(s.lk|||l).testBit (2*k+1)=false:=by
 have O:(s.cq (U V) v l).lk=s.lk|||l:=Tf _ _ _;unfold vQ at h⊢;split at h;rename_i k;split at h;rename_i Q;cases h;have N:s.rs[k]?=U (.own e):=Q.1;have X:=Q.2;rw[O] at X;simp only[aIR,aLT] at X;refine⟨?_,λH P M=> ?_⟩;rw[if_pos];refine⟨N, ?_⟩;simp only[aIR,aLT];rcases X with X|X;exact .inl X;rw[aJ4,aJh] at X;exact .inr X.1;simp at P;subst P;rcases X with X|X;rw[M] at X;cases X;exact X;cases h;rename_i r G;split at h;rename_i L;cases h;simp[L];cases h;cases h;exact⟨rfl,by simp⟩;cases h
variable{D:aa->S->Prop}{F:aa->SV->S->Prop}{H:OM->bY->aa->S->Nat->ah->Prop}
def axr(X:aP)(s:S)(d:bR)(v:SV)(l:Nat):((s.cq d v l).bS X).1=(s.bS X).1/\((s.cq d v l).bS X).2=(s.bS X).2.cq d v l:=by
 induction X generalizing s with
 |nil=>exact⟨rfl,rfl⟩
 |cons k X W=>
  simp only[S.bS];have V:((s.cq d v l).fresh k).1=(s.fresh k).1/\((s.cq d v l).fresh k).2=(s.fresh k).2.cq d v l:=by
   cases k<;>cases d<;>exact⟨rfl,rfl⟩
  rw[V.1,V.2];exact⟨by rw[(W _).1],(W _).2⟩
def axs(h:QV A B N r R v X)(L:ga B r R N=U J){W:Operand}{i H:Nat}(G:r.o.op=.load x W)(Q:R.ev A.gl W=.loc i H):aL R.boxes i=J/\(r.bC=J->X=1<<<(2*i)):=by
 rcases h with h|⟨-,-,h⟩;rw[L] at h;cases h.1;rw[G] at h;obtain⟨V,F⟩:=h;refine⟨?_,λD=>by rw[F,Q,D];rfl⟩;have V:=Te V;simp only[bO,Q] at V;cases P:A.ty x with
 |none=>rw[P] at V;exact V.elim
 |some C=>
  rw[P] at V;simp only at V;cases M:bU R.boxes i with
  |none=>rw[show ky R.boxes i=Z by simp[ky,M]] at V;exact V.elim
  |some b=>simp[aL,M]
def axt(h:QV A B N r R v X)(G:ga B r R N=U J){W:Operand}{i:Nat}{V:IE}{F:bi}(D:r.o.op=.load x W)(P:R.ev A.gl W=.eR V F e)(M:xE e=U i):aL R.boxes i=J/\(r.bC=J->X=1<<<(2*i)):=by
 rcases h with h|⟨-,-,h⟩;rw[G] at h;cases h.1;rw[D] at h;obtain⟨Q,C⟩:=h;refine⟨?_,λz=>by rw[C,P,z];simp[MW,M]⟩;have Q:=Te Q;simp only[bO,P] at Q;cases L:A.ty x with
 |none=>rw[L] at Q;exact Q.elim
 |some y=>
  rw[L] at Q;simp only[M,aKQ] at Q;cases H:bU R.boxes i with
  |none=>rw[show ky R.boxes i=Z by simp[ky,H]] at Q;exact Q.elim
  |some b=>simp[aL,H]
def ak2(h:QV A B N r R v X)(L:ga B r R N=U J){i:Nat}(V:zq A.gl R r.o.op=U i):aL R.boxes i=J/\((zD r.o.op=J/\(r.bC=J->X=1<<<(2*i)))\/ky R.boxes i=Z):=by
 unfold zq at V;split at V;rename_i t x Q;split at V;rename_i j C P;cases V;obtain⟨W,H⟩:=axs h L Q P;exact⟨W,.inl ⟨by rw[Q];rfl,H⟩⟩;rename_i e z y P;obtain⟨W,H⟩:=axt h L Q P V;exact⟨W,.inl ⟨by rw[Q];rfl,H⟩⟩;cases V;rename_i t x w u Q;split at V;rename_i j P;cases V;rcases h with h|⟨-,-,h⟩;rw[L] at h;cases h.1;rw[Q] at h;have W:=Te h.1;simp only[bO,P] at W;split at W;rename_i k e n g ae q f d F;cases F;unfold RD at W;split at W;rename_i te a b c D cs g1 g2 G;refine⟨by simp[aL,G],.inr ?_⟩;have:oY D=true:=by
  split at W;exact W.elim;split at W;rename_i M;simp at M;rw[M];decide;split at W;rename_i M;simp at M;rw[M];decide;exact W.elim
 simp[ky,G,this];exact W.elim;exact W.elim;cases V;cases V
def JC{o:Oper}{bC:Bool}{s:S}{b:BI}(h:dM A o bC J s=U b):sT o.op=true:=by
 unfold dM at h;cases W:o.op<;>rw[W] at h<;>simp only[if_true,aL6] at h<;>try cases h
 rfl;rename_i c;cases X:c.callee with
 |builtin V=>cases V<;>simp[X] at h<;>simp[sT,X]
 |_=>simp[X] at h
def aba{V:S}(h:sT r.o.op=J)(X:gK A r R N V):False:=by
 unfold gK fw at X;split at X;exact X;cases Q:r.o.op<;>rw[Q] at h X<;>simp[sT] at h;simp[bO,qY,OR.Gi] at X;rename_i c;cases W:c.callee with
 |builtin P=>cases P<;>simp[W] at h<;>simp[bO,W,qY,OR.Gi] at X
 |_=>simp[W] at h
def ak3{l:Nat}{d:bR}{bj:BE}{k:RK}{W:LE}{Q:ai}{P:BI}(N:wh R X)(M:d≠U X)
  (h:jm (R.cq (U X) v l) d bj x k W t Q=U P):
  ∃b,jm R d bj x k W t Q=U b/\P={b with s:=b.s.cq (U X) v l}/\(∀V,d≠U V->b.s.tmps[V]?=R.tmps[V]?)/\b.s.ni=R.ni/\b.s.nb=R.nb/\b.s.rs=jw Q 0 (ip t 0 R.rs)++[k]/\b.s.boxes=R.boxes:=by
 unfold jm at h⊢;split at h;rename_i O;cases h;simp only[aIy] at O;obtain⟨⟨⟨L,H⟩,G⟩,F⟩:=O;have D:R.bd=true:=by
  have:R.dZ []=true:=JB (dx:=X) (v:=v) (l:=l) (cs:=[]) (by simp[S.dZ,L,SV.gI]) N;simp only[S.dZ,aIy] at this;exact this.1
 rw[if_pos (by simp only[aIy];exact⟨⟨⟨D,H⟩,G⟩,F⟩)];refine⟨_,rfl, ?_,λV C=>kE C,(eM _ _ _).1,(eM _ _ _).2.1,(eM _ _ _).2.2,kF _ _ _⟩;congr 1;exact NK (s:={R with rs:=jw Q 0 (ip t 0 R.rs)++[k]}) (d:=U X) (e:=d) (v:=v) (w:=.ref (.v (Y R.rs))) (l:=l) (λz B=>by cases B;exact M);cases h
def axu{y:OM}(N:aa7 B r y X){l:Nat}(G:wh R X)(V:∀z∈y.o.op.operands.toList,R.ev A.gl z=(R.cq (U X) v l).ev A.gl z){F:BI}
  (h:dM A y.o y.bC y.dr (R.cq (U X) v l)=U F):
  ∃b W M C,dM A y.o y.bC y.dr R=U b/\F={b with s:=b.s.cq (U X) v l}/\(∀t,y.o.dst≠U t->b.s.tmps[t]?=R.tmps[t]?)/\b.s.ni=R.ni/\b.s.nb=R.nb/\b.s.rs=jw M 0 (ip W 0 R.rs)++[C]/\b.s.boxes=R.boxes/\
   (∀k∈W,y.bC=J->(R.lk|||l).testBit (2*k+1)=E)/\(Bt y.o.op=E->W=[]):=by
 have Q:=JC (by rw[N.yd] at h;exact h);unfold dM at h⊢;cases w:y.o.op<;>rw[w] at Q h V<;>simp[sT] at Q;rename_i t n m;simp only at h⊢;rw[V n (by simp[Op.operands]),V m (by simp[Op.operands])];split at h;rename_i e ae q u j i g f;split at h;rename_i P d;split at h;rename_i a;obtain⟨b,L,H,g3,g4,g5,g6,g7⟩:=ak3 G N.dy h;have af:(u.same j&&lX A.ty R P.ae [di P]&&Y P.ae !=0)=true:=by
  rw[<-DB (s:=R.cq (U X) v l) (s':=R) rfl];exact a
 rw[if_pos af];exact⟨b,[],[],_,L,H,g3,g4,g5,g6,g7,by simp,λ_=>rfl⟩;cases h;cases h;cases h;rename_i c;cases O:c.callee with
 |builtin bb=>
  cases bb<;>simp[O] at Q;simp only[O] at h⊢;have ag:c.args.toList.map (R.ev A.gl)=c.args.toList.map ((R.cq (U X) v l).ev A.gl):=aIY λz hz=>V z (by simp[Op.operands,Call.operands];exact .inr (by simpa using hz))
  rw[ag];split at h;rename_i t t2 x0 y0 g f;split at h;rename_i e ae q e2 an D i a0;split at h;rename_i P d;split at h;cases h;rename_i al;rw[if_neg al];split at h;rename_i la n1 W lb n2 M L H;obtain⟨q1,D⟩:=axq L;have q3:=axp H;rw[q1,q3];obtain⟨b,k1,k2,k3,k4,k5,k6,k7⟩:=ak3 G N.dy h;exact⟨b,W,M,_,k1,k2,k3,k4,k5,k6,k7,D,λh=>by simp[Bt,O] at h⟩;cases h;cases h;cases h;cases h
 |_=>simp[O] at Q
def axv(bx:Dz B C){y:OM}{an:bY}(b0:y.so=E)(b5:RY B r y=J)(ha:∀d,r.o.dst=U d->wh R d)
  (e1:Y N.i=R.ni)(e2:Y N.b=R.nb)(e3:Y N.r=Y R.rs)
  (h:dC p A B C D F H (r::y::an) N R):dC p A B C D F H (y::r::an) N R:=by
 obtain⟨a,M⟩:=ak0 b5;obtain⟨v,l,L,h⟩:=(akZ M.xd M.qx).1 h;rw[M.dst] at h;have a3:=ha a M.dst;have a9:∀z,(U a:bR)=U z->y.o.dst≠U z:=λz hz=>by cases hz;exact M.dy
 have a0:jU A B y.o (R.cq (U a) v l) N R N:=jU.xY (λt f=>(JA (λe=>M.ry (by cases e;exact f))).symm) rfl rfl rfl;have a1:∀(s':S)(O':aa),(ga B r R N=U E->ga B r s' O'=U E)->(ga B r R N=U J->jU A B r.o R N s' O')->(ga B r R N=U J->∀i,zq A.gl R r.o.op=U i->bU s'.boxes i=bU R.boxes i)->dC p A B C D F H an O' (s'.cq (U a) v l)->dC p A B C D F H (r::an) O' s':=by
  intro s' O' b6 hs hb hr;refine(akZ M.xd M.qx).2 ⟨v,l, ?_,by rw[M.dst];exact hr⟩;cases ag:ga B r R N with
  |none=>rcases L with L|L<;>(rw[ag] at L;cases L.1)
  |some b=>
   cases b;rcases L with L|L;exact .inl ⟨b6 L.1,L.2⟩;rw[ag] at L;cases L.1;exact aa5 (hs ag) (hb ag) L
 simp only[dC] at h;rcases h with⟨h1,P⟩|⟨h1,P⟩;refine .inl ⟨a0.guard h1, ?_⟩;rw[NK a9] at P;have af:jU A B r.o R N (R.put y.o.dst (.bH [])) N:=jU.xY (λt f=>kE (λe=>M.yx t e f)) (eM _ _ _).2.2 (eM _ _ _).1 (eM _ _ _).2.1;refine a1 _ _ af.guard (λ_=>af) (λ_ i _=>by rw[kF]) P
 ·refine .inr ⟨a0.guard h1, ?_⟩;have hg:ga B y R N=U true:=a0.guard h1;have b7:dA A R y.o=dA A (R.cq (U a) v l) y.o:=Gl (a0.ev A.gl);rw[b7];cases a4:dA A (R.cq (U a) v l) y.o with
  |call g0 c=>
   rw[a4] at P;rcases g0 with g|n
   rotate_left
   have h3:=P.1;rw[b0] at h3;cases h3;have b8:C g c (R.cq (U a) v l)=C g c R:=bx.q _ _ _ _ _ _;show oC _ _ _;have P:oC _ _ _:=P;rw[b8] at P;cases bk:C g c R with
   |some ve=>
    obtain⟨pv,ex⟩:=ve;rw[bk] at P;obtain⟨ca,P⟩:=P;have cc:R.bd=true:=by
     have:=JB (s:=R) (dx:=a) (v:=v) (l:=l) (cs:=[]) (by simp only[S.dZ,ca,SV.gI,aJI]) a3;simp only[S.dZ,aIy] at this;exact this.1
    have cl:(((R.cq (U a) v l).plus ex).put y.o.dst pv)=(((R.plus ex).put y.o.dst pv).cq (U a) v l):=by
     rw[<-NK a9];rfl
    rw[cl] at P;have af:jU A B r.o R N ((R.plus ex).put y.o.dst pv) N:=jU.xY (λt f=>kE (λe=>M.yx t e f)) (eM _ _ _).2.2 (eM _ _ _).1 (eM _ _ _).2.1;refine⟨cc,a1 _ _ af.guard (λ_=>af) (λag i hi=> ?_) P⟩;rw[kF];exact akU (ak2 L ag hi).1
   |none=>
   rw[bk] at P;simp only[oC] at P⊢;obtain⟨ts,G,X,c1,c2,c3,c4,c5⟩:=P;obtain⟨f1,f2⟩:=axr G (R.cut c G) (U a) v l;have cp:(R.dZ c&&ov G)=true:=by
    simp only[aIy] at c4⊢;exact⟨JB c4.1 a3,c4.2⟩
   refine⟨ts,G,X,c1,c2,by rw[<-f1];exact c3,cp,λV W Q=> ?_⟩;refine(c5 V W (by rw[BW];exact Q)).mono ?_;intro e W' he;cases e with
   |returned u=>
    obtain⟨xs,q1,q2,q3,q4,q5⟩:=he;refine⟨xs,q1,q2,q3,q4, ?_⟩;have q5:dC p A B C D F H an (N.ext xs) ((((R.cut c G).cq (U a) v l).bS G).2.put y.o.dst (one X)):=q5;rw[f2,NK a9] at q5;obtain⟨b1,b2,b3,b4⟩:=we G (R.cut c G);obtain⟨l1,l2,l3⟩:=xX G xs (R.cut c G) N q1 e1 e2 (e3.trans (Dy c G R.rs).len.symm);have bb:=Sy xs N;have bl:zR A.ty R ((((R.cut c G).bS G).2).put y.o.dst (one X)):=by
     intro q e he j;refine Tb (λk e _ j=> ?_) he j;rw[(eM _ _ _).2.2];obtain⟨e',g1,g2⟩:∃e',(Bs c G R.rs)[k]?=U e'/\e'.rd=e.rd:=by
      unfold Bs;split;refine⟨xF ((M2 c (Y R.rs)).contains k) e,by rw[Jj,j];simp, ?_⟩;cases e<;>simp only[xF]<;>try rfl
      split<;>rfl;exact⟨e,j,rfl⟩
     exact⟨e',aku G (R.cut c G) k e' g1,g2⟩
    have af:jU A B r.o R N ((((R.cut c G).bS G).2).put y.o.dst (one X)) (N.ext xs):=by
     refine⟨λt f=> ?_,λ_ _=>bl,λt r X w i br _ _=>bl X, ?_, ?_, ?_, ?_⟩;rw[kE (λe=>M.yx t e f),b2];rfl;rw[(eM _ _ _).1,<-l1,<-e1];exact bb.1;rw[(eM _ _ _).2.1,<-l2,<-e2];exact bb.2.1;rw[(eM _ _ _).2.2,<-l3,<-e3];exact bb.2.2;rw[<-e1,<-e2,<-e3];exact Dp xs N
    exact a1 _ _ af.guard (λ_=>af) (λ_ i _=>by rw[kF,b1];rfl) q5
   |panicked ch=>exact he
   |outgrown=>exact he
  |bn w=>
   have:=aa8 a4;rw[M.np] at this;cases this
  |no=>rw[a4] at P;exact P
  |op=>
   rw[a4] at P;simp only at P⊢;cases bf:dM A y.o y.bC y.dr (R.cq (U a) v l) with
   |some b1=>
    rw[bf] at P;obtain⟨hn,P⟩:=P;obtain⟨b,ct,cv,kk,g1,g2,g3,g4,g5,g6,g7,g8,g9⟩:=axu M a3 (a0.ev A.gl) bf;rw[g1];subst g2;refine⟨hn,λrv cx=>a1 _ _ ?_ ?_ ?_ (P rv cx)⟩;intro cy;have cA:jU A B {r.o with op:=.move (.const undef)} R N b.s (N.add (.r rv)):=⟨λt f=>g3 t (λe=>M.yx t e (by
     unfold i6 at f⊢;refine(aIM.1 f).elim (λh=> ?_) (λh=>aKa _ h);simp[Op.operands] at h)),λh=>by simp[looks] at h,λt x0 X w i br h=>by simp at h,aKe g4.symm,aKe g5.symm,by rw[g6];simp[zM,zL],by rw[<-e1,<-e2,<-e3];exact Sk N (.r rv)⟩
    exact cA.guard (m:={r with o:={r.o with op:=.move (.const undef)}}) cy;intro ag;have bs:∀(k:Nat)(e:RK),k∉ct->R.rs[k]?=U e->∃e',b.s.rs[k]?=U e'/\e'.rd=e.rd:=by
     intro k e cB j;have cC:k<Y R.rs:=(aIz.1 j).1;refine⟨xF (cv.contains k) e, ?_, ?_⟩;rw[g6,aIB (by simp[zM,zL];exact cC),Jj,Ji,j];simp[cB];cases e<;>simp only[xF]<;>try rfl
     split<;>rfl
    refine⟨λt f=>g3 t (λe=>M.yx t e f),λcD cI=> ?_,λt x0 X w i br ho hx e he j=> ?_,aKe g4.symm,aKe g5.symm,by rw[g6];simp[zM,zL],by rw[<-e1,<-e2,<-e3];exact Sk N (.r rv)⟩;cases al:Bt y.o.op with
    |true=>
     have:=(M.rb al cD).1;rw[cI] at this;cases this
    |false=>
     intro X e he j;exact Tb (λk e _ j=>bs k e (by rw[g9 al];simp) j) he j
    refine Tb (λk e cO j=>bs k e ?_ j) he j;intro bg;have al:Bt y.o.op=true:=by
     cases al:Bt y.o.op with
     |true=>rfl
     |false=>rw[g9 al] at bg;cases bg
    obtain⟨-,r1,r2⟩:=M.rb al (by rw[ho];rfl);have bt:=g8 k bg r2;rcases L with L|⟨-,-,L⟩;rw[ag] at L;cases L.1;rw[ho] at L;have:=L.2;rw[hx,r1] at this;simp only[MW,cO,if_true] at this;rw[this,aJ4] at bt;simp[aLb] at bt;intro _ i _;rw[g7]
   |none=>
   rw[bf] at P;have cW:dM A y.o y.bC y.dr R=none:=by
    cases hb:dM A y.o y.bC y.dr R with
    |none=>rfl
    |some b=>
     exfalso;have c0:=JC (by rw[M.yd] at hb;exact hb);obtain⟨s2,h3,-⟩:=P;exact aba c0 h3
   rw[cW];simp only[rA] at P⊢;obtain⟨s2,h3,h4⟩:=P;obtain⟨s',g1,g2,g3,g4,g5,g6,g7⟩:=axn M a3 hg h3;subst g2;have af:jU A B r.o R N s' N:=jU.xY (λt f=>g3 t (λe=>M.yx t e f)) g6 g4 g5;refine⟨s',g1,a1 s' N af.guard (λ_=>af) ?_ h4⟩;intro ag i hi;obtain⟨k1,k2⟩:=ak2 L ag hi;rcases g7 i k1 with k3|⟨k3,k4,k5⟩;exact k3;rcases k2 with⟨k2,k6⟩|k2;obtain⟨r1,r2⟩:=M.rc k3 k2;have:=k4 r2;rw[k6 r1,aJ4] at this;simp[aLb] at this;rw[k2] at k5;cases k5
end
section
variable{p:Sp}{cf:bz}{B:cT}{A:vT}{C:aa->S->Prop}{F:aa->SV->S->Prop}{H:OM->bY->aa->S->Nat->ah->Prop}
def ak4{W:S}(h:(fw cf r R).gives N W):∀t,r.o.dst≠U t->W.tmps[t]?=R.tmps[t]?:=by
 intro q X;unfold fw at h;split at h;exact h.elim;split at h;split at h;split at h;cases h;rw[kE X];rfl;exact h.elim;exact h.elim;split at h;split at h;cases h;rw[kE X];rfl;exact h.elim;exact h.elim;split at h;split at h;split at h;split at h;cases h;rw[kE X];rfl;exact h.elim;exact h.elim;exact h.elim;exact h.elim;split at h;split at h;split at h;cases h;rw[kE X];rfl;exact h.elim;exact h.elim;exact h.elim;split at h;simp only[OR.gives] at h;split at h<;>(subst h;rw[kE X]);exact h.elim;obtain⟨v,-,rfl⟩:=zO h;rw[JA X];obtain⟨v,-,rfl⟩:=zO h;rw[JA X]
def abb{o:Oper}{bC:Bool}{s:S}{b:BI}(h:dM cf o bC J s=U b):∀t,o.dst≠U t->b.s.tmps[t]?=s.tmps[t]?:=by
 intro q P;have V:∀{bj:BE}{e:TypeId}{k:RK}{x:LE}{R Q:ai},jm s o.dst bj e k x R Q=U b->b.s.tmps[q]?=s.tmps[q]?:=by
  intro bj e k x R Q h;obtain⟨-,-,rfl⟩:=xT h;simp only;rw[kE P]
 have X:=JC h;unfold dM at h;cases O:o.op<;>rw[O] at X h<;>simp[sT] at X;simp only at h;split at h;split at h;split at h;exact V h;cases h;cases h;cases h;rename_i c;cases W:c.callee with
 |builtin N=>
  cases N<;>simp[W] at X;simp only[W] at h;split at h;split at h;split at h;split at h;cases h;split at h;exact V h;cases h;cases h;cases h;cases h
 |_=>simp[W] at X
def abc{X W V:Nat}{R:Nat->Bool}:∀{l m:ah},SV.da X W V R (l++m)=J<->SV.da X W V R l=J/\SV.da X W V R m=J
 |[],m=>by simp[SV.gI]
 |x::Q,m=>by simp[SV.gI,abc (l:=Q),and_assoc]
def uz{X W V:Nat}{R:Nat->Bool}:∀{l:ah},SV.da X W V R l=J<->∀v∈l,v.bd X W V R=J
 |[]=>by simp[SV.gI]
 |x::Q=>by simp[SV.gI,uz (l:=Q)]
def axw{W V:Nat}{R:Nat->Bool}(v:Value):(MO v).bd X W V R=true:=by
 have Q:∀w,(Iw w).bd X W V R=true:=λw=>by cases w<;>simp[Iw,SV.aS,IE.aS,BE.aS,RE.aS]
 cases v<;>try simp[MO,SV.aS,IE.aS,BE.aS,RE.aS]
 rw[uz];intro x P;obtain⟨w,-,rfl⟩:=aI3.1 P;exact Q w
def zT(X:R.bd=J){x:Operand}(W:vS x=J):(R.ev cf.gl x).bd R.ni R.nb (Y R.rs) (aL R.boxes)=true:=by
 simp only[S.bd,aIy] at X;cases x with
 |tmp t=>
  simp only[S.ev,vM,aIC];cases V:R.tmps[t]? with
  |none=>simp[SV.aS]
  |some v=>exact ux X.1 V
 |const v=>exact axw v
 |global g=>cases W
 |func f=>simp[S.ev,SV.aS,SV.gI]
def abd{W V:Nat}{R:Nat->Bool}(h:v.bd X W V R=J):SV.da X W V R v.cells=true:=by
 cases v<;>simp only[SV.cells,SV.gI,aKw]<;>first|exact h|(simp only[SV.aS] at h;exact h)
def abe{X W V:Nat}{R:Nat->Bool}:∀{vs l:ah}{Q:Nat},SV.da X W V R l=J->SV.da X W V R vs=J->SV.da X W V R (j5 l Q vs)=J
 |[],l,Q,h,_=>h
 |v::vs,l,Q,h,P=>by
  simp only[SV.gI,aIy] at P;rw[j5];refine abe (vs:=vs) ?_ P.2;rw[uz] at h⊢;intro x N;rcases aJx N with O|O;exact h x O;rw[O];exact P.1
def ak5{V R Q:Nat}{P:Nat->Bool}{place:Nat->Option (Nat×Nat)}:∀{O:List (Nat×SV)}{W l:ah},SV.da V R Q P W=J->(∀q∈O,q.2.bd V R Q P=J)->xD place W O=U l->SV.da V R Q P l=J
 |[],W,l,h,_,X=>by simp[xD] at X;subst X;exact h
 |(i,v)::r,W,l,h,N,X=>by
  simp only[xD] at X;split at X;cases X;split at X;cases X;exact ak5 (abe h (abd (N (i,v) aKb))) (λq M=>N q (aJF _ M)) X
def Tg{W V:Nat}{R:Nat->Bool}(Q:TI):SV.da X W V R (di Q)=true:=by
 rw[uz];intro x P;obtain⟨c,-,rfl⟩:=aI3.1 P;cases c<;>simp[Bi,SV.aS,IE.aS,BE.aS,RE.aS]
def ak6{X W V:Nat}{R:Nat->Bool}{l:ah}(h:SV.da X W V R l=J):∀n,SV.da X W V R (vP n l)=J
 |0=>rfl
 |n+1=>by rw[vP,abc];exact⟨h,ak6 h n⟩
mutual
def SV.NL{W V R:Nat}{Q P:Nat->Bool}(h:∀i,Q i=J->P i=J):∀(v:SV),v.bd W V R Q=J->v.bd W V R P=J
 |.int _ _,X=>by simp only[SV.aS] at X⊢;exact X
 |.bool _,X=>by simp only[SV.aS] at X⊢;exact X
 |.ref _,X=>by simp only[SV.aS] at X⊢;exact X
 |.loc i _,X=>by simp only[SV.aS] at X⊢;exact h i X
 |.gY i _ _ _,X=>by simp only[SV.aS] at X⊢;exact h i X
 |.el _ _ _ _,X=>by simp only[SV.aS] at X⊢;exact X
 |.agg l,X=>by simp only[SV.aS] at X⊢;exact SV.DC h l X
 |.bH l,X=>by simp only[SV.aS] at X⊢;exact SV.DC h l X
 |.fn _ l,X=>by simp only[SV.aS] at X⊢;exact SV.DC h l X
 |.fh _ x,X=>by simp only[SV.aS] at X⊢;exact SV.NL h x X
 |.yl _,_=>by simp only[SV.aS]
 |.any,_=>by simp only[SV.aS]
 |.mp i,X=>by simp only[SV.aS] at X⊢;exact h i X
 |.eR _ _ O,X=>by simp only[SV.aS,aIy] at X⊢;exact⟨X.1,SV.DC h O X.2⟩
def SV.DC{W V R:Nat}{Q P:Nat->Bool}(h:∀i,Q i=J->P i=J):∀(l:ah),SV.da W V R Q l=J->SV.da W V R P l=J
 |[],_=>rfl
 |x::O,X=>by simp only[SV.gI,aIy] at X⊢;exact⟨SV.NL h x X.1,SV.DC h O X.2⟩
end
def BX{V R Q:Nat}{P:Nat->Bool}:∀{l:bw},SV.o9 V R Q P l=J<->∀(i:Nat)(b:TypeId×ah),bU l i=U b->SV.da V R Q P b.2=J
 |[]=>by simp[SV.o9,cw]
 |Z::W=>by
  simp only[SV.o9,BX (l:=W)];exact⟨λh i b X=>by cases i with
   |zero=>simp[cw] at X
   |succ i=>exact h i b (by simpa[cw] using X),λh i b X=>h (i+1) b (by simpa[cw] using X)⟩
 |some x::W=>by
  simp only[SV.o9,aIy,BX (l:=W)];exact⟨λh i b X=>by cases i with
   |zero=>simp[cw] at X;subst X;exact h.1
   |succ i=>exact h.2 i b (by simpa[cw] using X),λh=>⟨h 0 x (by simp[cw]),λi b X=>h (i+1) b (by simpa[cw] using X)⟩⟩
def S.more(s:S)(n:Nat)(t:TypeId)(X:ah)(d:bR)(w:SV):S:=(s.ck n t X).put d w
def ak7{d:bR}(Q:R.bd=J)(G:fj R.boxes X=J)(H:R.dZ e=J)(F:v.bd R.ni R.nb (Y R.rs) (λi=>i==X)=J):(R.more X x e d v).bd=true:=by
 have N:=(lC G).2;have P:∀i,aL R.boxes i=J->aL (R.boxes.set X (U (x,e))) i=true:=λi V=>(nT N).2 (.inr V)
 simp only[S.dZ,S.bd,aIy] at Q H;simp only[S.more,S.bd,aIy];obtain⟨D,C,B⟩:=eM (R.ck X x e) d v;rw[D,C,B,kF];simp only[S.ck];refine⟨?_, ?_⟩;rw[uz];intro W M;cases d with
 |none=>exact SV.NL P W (uz.1 Q.1 W M)
 |some d=>
  simp only[S.put,um] at M;rcases aJx M with L|L;exact SV.NL P W (uz.1 Q.1 W L);rw[L];exact SV.NL (λi V=>by simp at V;subst V;exact(nT N).2 (.inl rfl)) v F
 rw[BX];intro i b O;by_cases V:i=X;subst V;rw[Ga N] at O;cases O;exact SV.DC P e H.2;rw[xR V] at O;exact SV.DC P _ (BX.1 Q.2 i b O)
def abf{m:S}(a:fF r.o.op=J)(af:r.o.op.operands.toList.all vS=J)(h:gK cf r R N m):
  ∃t L w,m=R.more r.ix t L r.o.dst w/\fj R.boxes r.ix=J/\(∀ni nb nr,w.bd ni nb nr (λi=>i==r.ix)=J)/\
   ∀(X:S)(C:aa),(∀x∈r.o.op.operands.toList,X.ev cf.gl x=R.ev cf.gl x)->X.bd=J->fj X.boxes r.ix=J->X.dZ L=J/\gK cf r X C (X.more r.ix t L r.o.dst w):=by
 unfold gK fw at h;split at h;exact h.elim;rename_i hk;have l:∀x∈r.o.op.operands.toList,vS x=true:=aIN.1 af;have v:∀X:S,(∀x∈r.o.op.operands.toList,X.ev cf.gl x=R.ev cf.gl x)->¬(r.o.op.operands.toList.any λz=>(X.ev cf.gl z).dP)=true:=by
  intro X V hh;obtain⟨z,k,ag⟩:=aI7.1 hh;exact hk (aI7.2 ⟨z,k,by rw[<-V z k];exact ag⟩)
 split at h;rename_i t W;split at h;rename_i B H;split at h;rename_i Q;simp only[aIy] at Q;refine⟨t,di B,.loc r.ix 0,h,rr Q.2,λ_ _ _=>by simp[SV.aS],λX C V M G=> ?_⟩;have P:X.dZ (di B)=true:=by simp only[S.dZ,M,aJ3];exact Tg B
 refine⟨P, ?_⟩;unfold gK fw;rw[if_neg (v X V)];have F:ou X.boxes r.ix t=true:=by simp[ou,G,Jh Q.2]
 simp only[W,H,P,F,aJI,if_true];rfl;exact h.elim;exact h.elim;rename_i t z W;split at h;rename_i B H;split at h;rename_i Q;simp only[aIy] at Q;obtain⟨⟨⟨j,g⟩,A⟩,f⟩:=Q;refine⟨t,(R.ev cf.gl z).cells,.loc r.ix 0,h,rr f,λ_ _ _=>by simp[SV.aS],λX C V M G=> ?_⟩;have D:=V z (by rw[W];simp[Op.operands]);have P:X.dZ (R.ev cf.gl z).cells=true:=by
  simp only[S.dZ,M,aJ3];rw[<-D];exact abd (zT M (l z (by rw[W];simp[Op.operands])))
 refine⟨P, ?_⟩;unfold gK fw;rw[if_neg (v X V)];have F:ou X.boxes r.ix t=true:=by simp[ou,G,Jh f]
 simp only[W,H,D,j,P,A,F,aJI,if_true];rfl;exact h.elim;exact h.elim;rename_i t u parts W;split at h;rename_i e ae q H;split at h;rename_i te al;split at h;rename_i L d;split at h;rename_i Q;simp only[aIy] at Q;obtain⟨⟨j,g⟩,A⟩:=Q;refine⟨e,L,.gY r.ix 0 u u,h,rr A,λ_ _ _=>by simp[SV.aS],λX C V M G=> ?_⟩;have D:(parts.toList.map λp=>(p.1,X.ev cf.gl p.2))=parts.toList.map λp=>(p.1,R.ev cf.gl p.2):=aIY λp n=>by rw[V p.2 (by rw[W];simp[Op.operands];exact⟨p.1,by simpa using n⟩)]
 have P:X.dZ L=true:=by
  simp only[S.dZ,M,aJ3];refine ak5 (ak6 (Tg te) u) (λq c=> ?_) d;rw[<-D] at c;obtain⟨b,n,rfl⟩:=aI3.1 c;exact zT M (l b.2 (by rw[W];simp[Op.operands];exact⟨b.1,by simpa using n⟩))
 refine⟨P, ?_⟩;unfold gK fw;rw[if_neg (v X V)];have F:ou X.boxes r.ix e=true:=by simp[ou,G,Jh A]
 simp only[W,H,al,D,d,P,g,F,aJI,if_true];rfl;exact h.elim;exact h.elim;exact h.elim;exact h.elim
 all_goals(rename_i W;simp[fF,W] at a)<;>skip
def NM(h:fF l.op=J):dA cf R l=.op:=by
 unfold dA;cases X:l.op<;>rw[X] at h<;>simp[fF] at h<;>rfl
def JD{s:S}{o:Oper}{bC X:Bool}(h:fF o.op=J)(W:X=J):dM cf o bC X s=none:=by
 subst W;unfold dM;cases V:o.op<;>rw[V] at h<;>simp[fF] at h<;>first|rfl|simp
def ya(s:S)(n:Nat)(t:TypeId)(X:ah)(d:bR)(w:SV):(s.more n t X d w).ni=s.ni/\(s.more n t X d w).nb=s.nb/\(s.more n t X d w).rs=s.rs:=eM _ _ _
def JE{d:bR}{q:Nat}(h:d≠U q):(R.more X x e d v).tmps[q]?=R.tmps[q]?:=kE h
def BY(s:S)(n:Nat)(t:TypeId)(X:ah)(d:bR)(w:SV):(s.more n t X d w).boxes=s.boxes.set n (U (t,X)):=kF _ _ _
def BZ{d W:bR}{w:SV}(h:∀V,d=U V->W≠U V):(R.put d v).more X x e W w=(R.more X x e W w).put d v:=by
 unfold S.more;have:(R.put d v).ck X x e=(R.ck X x e).put d v:=by cases d<;>rfl
 rw[this,aa6 h]
def abg{s:S}{n n':Nat}{W:TypeId}{V R:ah}{d e:bR}{w:SV}(h:∀X,d=U X->e≠U X)(Q:n≠n'):(s.more n x V d v).more n' W R e w=(s.more n' W R e w).more n x V d v:=by
 show((s.ck n x V).put d v).more n' W R e w=_;rw[BZ h];unfold S.more;have:((s.ck n x V).ck n' W R).put e w=((s.ck n' W R).put e w).ck n x V:=by
  have P:(s.ck n x V).ck n' W R=(s.ck n' W R).ck n x V:=by simp only[S.ck];rw[List.set_comm _ _ Q]
  rw[P];cases e<;>rfl
 rw[this]
def ak8:∀{l:ah}{P O N:Nat}{V:Nat->Bool}{i:Nat},SV.da P O N V l=J->i∈SV.nK l->V i=true:=by
 have L:∀(n:Nat)(l:ah),SizeOf.sizeOf l<n->∀{P O N:Nat}{V:Nat->Bool}{i:Nat},SV.da P O N V l=J->i∈SV.nK l->V i=true:=by
  intro n;induction n with
  |zero=>intro l h;omega
  |succ n R=>
   intro l Q P O N V i W X;cases l with
   |nil=>simp[SV.nK] at X
   |cons x M=>
    simp only[SV.gI,aIy] at W;simp only[SV.nK,aIM] at X;simp only[List.cons.sizeOf_spec] at Q;rcases X with X|X;cases x with
    |loc j o=>simp[SV.FJ] at X;subst X;simpa only[SV.aS] using W.1
    |gY j a b c=>simp[SV.FJ] at X;subst X;simpa only[SV.aS] using W.1
    |agg m=>exact R m (by simp at Q;omega) (by simpa only[SV.aS] using W.1) X
    |bH m=>exact R m (by simp at Q;omega) (by simpa only[SV.aS] using W.1) X
    |fn f m=>exact R m (by simp at Q;omega) (by simpa only[SV.aS] using W.1) X
    |fh t y=>exact R [y] (by
     have H:0<SizeOf.sizeOf M:=by cases M<;>simp<;>omega
     simp at Q⊢;omega) (by simpa[SV.gI,SV.aS] using W.1) (by simpa[SV.nK,SV.FJ] using X)
    |mp j=>simp[SV.FJ] at X;subst X;simpa only[SV.aS] using W.1
    |eR e G m=>exact R m (by simp at Q;omega) (by have:=W.1;simp only[SV.aS,aIy] at this;exact this.2) X
    |_=>simp[SV.FJ] at X
    exact R M (by omega) W.2 X
 intro l P O N V i;exact L _ l (Nat.lt_succ_self _)
def ak9{l:bw}{x:TypeId×ah}(h:X∉t)(R:fj l X=J):pQ t 0 (l.set X (U x))=pQ t 0 l:=by
 apply aI0;intro i;rw[SY,SY,aI8];by_cases W:i=X;subst W;have V:=(lC R).2;rw[aJX V,aIA V];simp[h];rw[aJf (λe=>W e.symm)]
def ala(X:aP)(s:S)(n:Nat)(t:TypeId)(W:ah)(d:bR)(w:SV):((s.more n t W d w).bS X).1=(s.bS X).1/\((s.more n t W d w).bS X).2=(s.bS X).2.more n t W d w:=by
 induction X generalizing s with
 |nil=>exact⟨rfl,rfl⟩
 |cons k X V=>
  simp only[S.bS];have R:((s.more n t W d w).fresh k).1=(s.fresh k).1/\((s.more n t W d w).fresh k).2=(s.fresh k).2.more n t W d w:=by
   cases k<;>cases d<;>exact⟨rfl,rfl⟩
  rw[R.1,R.2];exact⟨by rw[(V _).1],(V _).2⟩
def Th(s:S)(X:ah)(W:aP)(n:Nat)(t:TypeId)(V:ah)(d:bR)(w:SV):(s.more n t V d w).cut X W=(s.cut X W).more n t V d w:=by cases d<;>rfl
def axx{d:bR}(h:(R.put d v).bd=J)(X:∀e,d=U e->wh R e):R.bd=true:=by
 cases d with
 |none=>exact h
 |some d=>
  simp only[S.bd,S.put,um,aIy] at h⊢;exact⟨aa9 h.1 (X d rfl),h.2⟩
def alb{Q:bR}{d:bR}{bj:BE}{W:TypeId}{k:RK}{V:LE}{P:ai}{b:BI}(M:(R.more X x e Q v).bd=J)(L:∀q,Q=U q->d≠U q)
  (h:jm R d bj W k V t P=U b):jm (R.more X x e Q v) d bj W k V t P=U {b with s:=b.s.more X x e Q v}:=by
 unfold jm at h⊢;split at h;rename_i O;cases h;simp only[aIy] at O;obtain⟨⟨⟨z,H⟩,G⟩,F⟩:=O;obtain⟨D,C,N⟩:=ya R X x e Q v;rw[if_pos (by simp only[aIy];rw[D,C,N];exact⟨⟨⟨M,H⟩,G⟩,F⟩)];congr 2;rw[N,BZ (λq B A=>L q A B)];cases Q<;>rfl;cases h
def axy{V:bR}{Q:Ty}{W:TypeId}{P:TI}{y:SV}{r:LE×BE×ai}(M:fj R.boxes X=J)(h:pR Q R W P y=U r):pR Q (R.more X x e V v) W P y=U r:=by
 have O:(R.more X x e V v).rs=R.rs:=(ya _ _ _ _ _ _).2.2;unfold pR at h⊢;split at h;simp only[BT O];exact h;rename_i i H G F;rw[BY];split at h;rename_i N;have L:i≠X:=λW=>by subst W;have:=(lC M).1;simp[aL,(xP N).1] at this
 rw[Nj (xR L)];simp only[N,DB O];exact h;cases h;cases h
def alc{V:bR}{W:TypeId}{y:SV}:vQ (R.more X x e V v) W h y=vQ R W h y:=by
 have Q:(R.more X x e V v).rs=R.rs:=(ya _ _ _ _ _ _).2.2;have P:(R.more X x e V v).lk=R.lk:=Tf _ _ _;unfold vQ;simp only[Q,P]
def axz{o:Oper}{bC:Bool}{s:S}{n:Nat}{t:TypeId}{W:ah}{X:bR}{w:SV}{b:BI}(N:fj s.boxes n=J)(P:(s.more n t W X w).bd=J)(O:∀q,X=U q->o.dst≠U q)
  (V:∀z∈o.op.operands.toList,(s.more n t W X w).ev cf.gl z=s.ev cf.gl z)(h:dM cf o bC J s=U b):dM cf o bC J (s.more n t W X w)=U {b with s:=b.s.more n t W X w}:=by
 have M:(s.more n t W X w).rs=s.rs:=(ya _ _ _ _ _ _).2.2;have R:=JC h;unfold dM at h⊢;cases L:o.op<;>rw[L] at R h V<;>simp[sT] at R;rename_i j H G;simp only at h⊢;rw[V H (by simp[Op.operands]),V G (by simp[Op.operands])];split at h;rename_i e ae q F i D C B;split at h;rename_i A y;split at h;rename_i x;rw[DB M,if_pos x];exact alb P O h;cases h;cases h;cases h;rename_i c;cases Q:c.callee with
 |builtin v=>
  cases v<;>simp[Q] at R;simp only[Q] at h⊢;have u:c.args.toList.map ((s.more n t W X w).ev cf.gl)=c.args.toList.map (s.ev cf.gl):=aIY λz r=>V z (by simp[Op.operands,Call.operands];exact .inr (by simpa using r))
  rw[u];split at h;rename_i g f d a C B;split at h;rename_i e ae q e2 af q2 D ag;split at h;rename_i A y;split at h;cases h;rename_i m;rw[if_neg m,alc];split at h;rename_i la n1 al lb F an l k;rw[l,axy N k];exact alb P O h;cases h;cases h;cases h;cases h
 |_=>simp[Q] at R
mutual
def SV.du{Q P O N M L:Nat}{H G:Nat->Bool}(W:Q<=N)(V:P<=M)(R:O<=L)(h:∀i,H i=J->G i=J):∀(v:SV),v.bd Q P O H=J->v.bd N M L G=J
 |.int _ e,X=>by simp only[SV.aS] at X⊢;exact IE.du W V R e X
 |.bool e,X=>by simp only[SV.aS] at X⊢;exact BE.du W V R e X
 |.ref e,X=>by simp only[SV.aS] at X⊢;exact RE.du W V R e X
 |.loc i _,X=>by simp only[SV.aS] at X⊢;exact h i X
 |.gY i _ _ _,X=>by simp only[SV.aS] at X⊢;exact h i X
 |.el r _ i _,X=>by simp only[SV.aS,aIy] at X⊢;exact⟨RE.du W V R r X.1,IE.du W V R i X.2⟩
 |.agg l,X=>by simp only[SV.aS] at X⊢;exact SV.JF W V R h l X
 |.bH l,X=>by simp only[SV.aS] at X⊢;exact SV.JF W V R h l X
 |.fn _ l,X=>by simp only[SV.aS] at X⊢;exact SV.JF W V R h l X
 |.fh _ x,X=>by simp only[SV.aS] at X⊢;exact SV.du W V R h x X
 |.yl _,_=>by simp only[SV.aS]
 |.any,_=>by simp only[SV.aS]
 |.mp i,X=>by simp only[SV.aS] at X⊢;exact h i X
 |.eR e _ F,X=>by simp only[SV.aS,aIy] at X⊢;exact⟨IE.du W V R e X.1,SV.JF W V R h F X.2⟩
def SV.JF{W V R Q P O:Nat}{N M:Nat->Bool}(L:W<=Q)(H:V<=P)(G:R<=O)(h:∀i,N i=J->M i=J):∀(l:ah),SV.da W V R N l=J->SV.da Q P O M l=J
 |[],_=>rfl
 |x::F,X=>by simp only[SV.gI,aIy] at X⊢;exact⟨SV.du L H G h x X.1,SV.JF L H G h F X.2⟩
end
def NN{s':S}{d:bR}(X:R.bd=J)(V:R.ni<=s'.ni)(Q:R.nb<=s'.nb)(P:Y R.rs<=Y s'.rs)(N:s'.tmps=R.tmps)(M:s'.boxes=R.boxes)(L:v.bd s'.ni s'.nb (Y s'.rs) (aL s'.boxes)=J):(s'.put d v).bd=true:=by
 simp only[S.bd,aIy] at X⊢;obtain⟨H,G,F⟩:=eM s' d v;rw[H,G,F,kF,M];rw[M] at L;refine⟨?_, ?_⟩;rw[uz];intro u W;cases d with
 |none=>
  simp only[S.put,N] at W;exact SV.du V Q P (λ_ h=>h) u (uz.1 X.1 u W)
 |some d=>
  simp only[S.put,um,N] at W;rcases aJx W with O|O;exact SV.du V Q P (λ_ h=>h) u (uz.1 X.1 u O);rw[O];exact L
 rw[BX];exact λi b D=>SV.JF V Q P (λ_ h=>h) _ (BX.1 X.2 i b D)
def abh:∀(X:aP)(s:S),s.ni<=(s.bS X).2.ni/\s.nb<=(s.bS X).2.nb/\Y s.rs<=(s.bS X).2.rs.length
 |[],s=>⟨aIG _,aIG _,aIG _⟩
 |k::X,s=>by
  have:=abh X (s.fresh k).2;simp only[S.bS];cases k<;>simp[S.fresh] at this⊢<;>omega
def ald{pr:Nat->Bool}:∀(X:aP)(s:S),SV.da (s.bS X).2.ni (s.bS X).2.nb (s.bS X).2.rs.length pr (s.bS X).1=J
 |[],s=>rfl
 |k::X,s=>by
  have W:=ald (pr:=pr) X (s.fresh k).2;have V:=abh X (s.fresh k).2;simp only[S.bS,SV.gI,aIy];refine⟨?_,W⟩;cases k<;>simp only[S.fresh,SV.aS,IE.aS,BE.aS,RE.aS,decide_eq_true_eq]<;>simp[S.fresh] at V<;>omega
def ale{N:Ty}{W V R:Nat}{Q:Nat->Bool}:∀{O:i5}{l r:ah},SV.da W V R Q l=J->zv N O l=U r->SV.da W V R Q r=J
 |[],l,r,_,h=>by simp[zv] at h;subst h;rfl
 |t::O,l,r,X,h=>by
  simp only[zv] at h;split at h;rename_i M F;split at h;rename_i D L;cases h;have H:SV.da W V R Q (l.drop (Y M.ae))=true:=by rw[uz] at X⊢;exact λv P=>X v (aJA P)
  simp only[SV.gI,aIy];refine⟨?_,ale H L⟩;split;simp only[SV.aS];rw[uz] at X⊢;exact λv P=>X v (aJG P)
  rw[aIC];cases G:l[0]? with
  |none=>simp[SV.aS]
  |some v=>exact ux X G
  cases h;cases h
def axA{W V:Nat}{R:Nat->Bool}(h:SV.da X W V R e=J):(one e).bd X W V R=true:=by
 unfold one;split;simp only[SV.gI,aKw] at h;exact h;simp only[SV.aS];exact h
def axB(W:R.bd=J){X:aP}{V:i5}{r:ah}{d:bR}(h:zv cf.ty V ((R.cut e X).bS X).1=U r):((((R.cut e X).bS X).2).put d (one r)).bd=true:=by
 obtain⟨Q,P,L,H⟩:=we X (R.cut e X);obtain⟨O,N,M⟩:=abh X (R.cut e X);refine NN W O N ?_ P Q (axA (ale (ald X _) h));have:=(Dy e X R.rs).len;simp only[S.cut] at M⊢;omega
def NO{o:Oper}{bC:Bool}{s:S}{b:BI}(h:dM cf o bC J s=U b):s.bd=J/\b.s.bd=J/\b.s.boxes=s.boxes:=by
 have Q:∀{bj:BE}{e:TypeId}{k:RK}{x:LE}{W V:ai},jm s o.dst bj e k x W V=U b->s.bd=J/\b.s.bd=J/\b.s.boxes=s.boxes:=by
  intro bj e k x W V h;obtain⟨P,-,rfl⟩:=xT h;refine⟨P, ?_,kF _ _ _⟩;exact NN (s':={s with rs:=jw V 0 (ip W 0 s.rs)++[k]}) P (aIG _) (aIG _) (by simp[zM,zL]) rfl rfl (by simp[SV.aS,RE.aS,zM,zL])
 have X:=JC h;unfold dM at h;cases O:o.op<;>rw[O] at X h<;>simp[sT] at X;simp only at h;split at h;split at h;split at h;exact Q h;cases h;cases h;cases h;rename_i c;cases R:c.callee with
 |builtin N=>
  cases N<;>simp[R] at X;simp only[R] at h;split at h;split at h;split at h;split at h;cases h;split at h;exact Q h;cases h;cases h;cases h;cases h
 |_=>simp[R] at X
def abi{Q:S}(V:fF r.o.op=J)(X:gK cf r R N Q):R.bd=true:=by
 unfold gK fw at X;split at X;exact X.elim
 ·cases P:r.o.op<;>rw[P] at V X<;>simp[fF] at V<;>simp only at X
  all_goals
   (repeat' split at X)
   all_goals first
    |exact X.elim
    |(rename_i W;simp only[aIy,S.dZ] at W;first|exact W.1.1|exact W.1.1.2.1|exact W.1.1.1)
def axC{X:TI}(W:r.o.op=.alloc x)(V:cf.ty x=U X)(Q:oY x=E)(P:R.bd=J)(M:fj R.boxes r.ix=J):gK cf r R N (R.more r.ix x (di X) r.o.dst (.loc r.ix 0)):=by
 have L:R.dZ (di X)=true:=by simp only[S.dZ,P,aJ3];exact Tg X
 unfold gK fw;rw[if_neg (by rw[W];simp[Op.operands])];have H:ou R.boxes r.ix x=true:=by simp[ou,M,Q]
 simp only[W,V,L,H,aJI,if_true];rfl
def axD{X:S}{W:TI}(V:r.o.op=.alloc x)(Q:cf.ty x=U W)(h:gK cf r R N X):X=R.more r.ix x (di W) r.o.dst (.loc r.ix 0):=by
 unfold gK fw at h;rw[if_neg (by rw[V];simp[Op.operands])] at h;simp only[V,Q] at h;split at h;exact h;exact h.elim
structure axE(B:cT)(x y:OM):Prop where
 xy:∀q,x.o.dst=U q->y.o.dst≠U q
 yx:∀q,y.o.dst=U q->x.o.dst≠U q
 ry:∀q,x.o.dst=U q->q∉i6 B y.o
 rx:∀q,y.o.dst=U q->q∉i6 B x.o
def alf{y:OM}(h:RZ B r y=J):axE B r y:=by
 unfold RZ at h;simp only[aIy] at h;obtain⟨W,V⟩:=h;have R:∀q,r.o.dst=U q->y.o.dst≠U q:=λq X=>by rw[X] at W;simp at W;exact W.2
 exact⟨R,λq X Q=>R q Q X,λq X=>by rw[X] at W;simp at W;exact W.1,λq X=>by rw[X] at V;simpa using V⟩
def abj{X:S}(W:∀t∈i6 B l,R.tmps[t]?=X.tmps[t]?):∀z∈l.op.operands.toList,R.ev cf.gl z=X.ev cf.gl z:=by
 intro z V;cases z with
 |tmp t=>
  have:t∈i6 B l:=by unfold i6;exact aJp _ (aJN.2 ⟨.tmp t,V,rfl⟩)
  simp only[S.ev,vM,aIC,W t this]
 |_=>rfl
def alg{X:S}(W:∀t∈i6 B r.o,R.tmps[t]?=X.tmps[t]?)(V:R.ni=X.ni)(Q:R.nb=X.nb)(P:R.rs=X.rs):ga B r R N=ga B r X N:=by
 unfold ga;cases M:r.o.guard with
 |none=>rfl
 |some q=>
  obtain⟨j,H⟩:=q;simp only;cases L:(B[j]?).bind (·.dst) with
  |none=>rfl
  |some d=>
   simp only;rw[W d (by unfold i6;rw[M];exact aKa _ (by simp[L])),V,Q,P]
def alh{g:FuncId}(h:dA cf R l=.call (.fn g) e)(X:R.bd=J)(Q:l.op.operands.toList.all vS=J):SV.da R.ni R.nb (Y R.rs) (aL R.boxes) e=true:=by
 have W:∀x∈l.op.operands.toList,vS x=true:=aIN.1 Q;unfold dA at h;split at h;split at h<;>cases h;rename_i c V;split at h;rename_i f P;split at h;rename_i L H O;split at h;cases h;cases h;rw[abc];refine⟨?_, ?_⟩;rw[uz];intro v N;obtain⟨z,M,rfl⟩:=aI3.1 N;exact zT X (W z (by rw[V];simp[Op.operands,Call.operands];exact .inr (by simpa using M)));have:=zT (cf:=cf) X (W f (by rw[V];simp[Op.operands,Call.operands,P]));rw[O] at this;simpa only[SV.aS] using this;split at h<;>cases h;cases h;cases h;split at h;split at h<;>cases h;cases h;cases h;cases h
def axF{g:FuncId}{K C:aa->SV->S->Prop}{L:ah}{d:bR}(G:fj R.boxes X=J)(B:SV.da R.ni R.nb (Y R.rs) (aL R.boxes) e=J)(q:(R.more X x L d v).bd=J)
  (h:Jy p cf R N g e K)(o:∀A (H:i5)(M:aP)(r:ah),zv cf.ty H ((R.cut e M).bS M).1=U r->K A (one r) ((R.cut e M).bS M).2->C A (one r) (((R.cut e M).bS M).2.more X x L d v)):Jy p cf (R.more X x L d v) N g e C:=by
 obtain⟨H,M,r,m,l,z,y,k⟩:=h;obtain⟨j,f,F⟩:=ya R X x L d v;obtain⟨c,b⟩:=ala M (R.cut e M) X x L d v;have a:X∉SV.nK e:=λhm=>by have:=ak8 B hm;rw[(lC G).1] at this;cases this
 have af:pQ (SV.nK e) 0 (R.more X x L d v).boxes=pQ (SV.nK e) 0 R.boxes:=by rw[BY];exact ak9 a G
 simp only[aIy,S.dZ] at y;refine⟨H,M,r,m,l,by rw[Th,c];exact z, ?_,λV W Q=> ?_⟩;simp only[aIy,S.dZ];refine⟨⟨q, ?_⟩,y.2⟩;rw[j,f,F,BY];exact SV.DC (λi hi=>(nT (lC G).2).2 (.inr hi)) e B;rw[af,F] at Q;refine(k V W Q).mono ?_;intro P W' D;cases P with
 |returned u=>
  obtain⟨xs,q1,q2,q3,q4,q5⟩:=D;refine⟨xs,q1,q2,q3,by rw[F];exact q4, ?_⟩;rw[Th,b];exact o _ H M r z q5
 |panicked ch=>exact D
 |outgrown=>exact D
def axG{g:FuncId}{K D:aa->SV->S->Prop}{L:ah}{d:bR}(C:fj R.boxes X=J)(B:SV.da R.ni R.nb (Y R.rs) (aL R.boxes) e=J)(m:R.bd=J)
  (h:Jy p cf (R.more X x L d v) N g e K)(l:∀A (H:i5)(M:aP)(r:ah),zv cf.ty H ((R.cut e M).bS M).1=U r->K A (one r) (((R.cut e M).bS M).2.more X x L d v)->D A (one r) ((R.cut e M).bS M).2):Jy p cf R N g e D:=by
 obtain⟨H,M,r,k,j,G,z,i⟩:=h;obtain⟨p1,p2,y⟩:=ya R X x L d v;obtain⟨f,c⟩:=ala M (R.cut e M) X x L d v;have b:X∉SV.nK e:=λa=>by have:=ak8 B a;rw[(lC C).1] at this;cases this
 have af:pQ (SV.nK e) 0 (R.more X x L d v).boxes=pQ (SV.nK e) 0 R.boxes:=by rw[BY];exact ak9 b C
 simp only[aIy,S.dZ] at z;rw[Th,f] at G;refine⟨H,M,r,k,j,G, ?_,λV W Q=> ?_⟩;simp only[aIy,S.dZ];exact⟨⟨m,B⟩,z.2⟩;refine(i V W (by rw[af,y];exact Q)).mono ?_;intro P W' F;cases P with
 |returned u=>
  obtain⟨xs,q1,q2,q3,q,o⟩:=F;rw[y] at q;rw[Th,c] at o;exact⟨xs,q1,q2,q3,q,l _ H M r G o⟩
 |panicked ch=>exact F
 |outgrown=>exact F
def axH(a1:Dz B A){y:OM}{l:bY}(b6:r.so=E)(bg:IM B r y=J)(b7:∀d,r.o.dst=U d->wh R d)(G:fj R.boxes y.ix=J)(hz:∀t,y.o.op=.alloc t->FZ cf t=J)
  (h:dC p cf B A C F H (r::y::l) N R):dC p cf B A C F H (y::r::l) N R:=by
 unfold IM at bg;simp only[aIy] at bg;obtain⟨⟨⟨⟨⟨⟨⟨⟨bk,bx⟩,hy⟩,bl⟩,k⟩,b8⟩,b0⟩,ca⟩,b1⟩:=bg;have bl:y.o.guard=none:=by simpa using bl
 have D:=alf ca;obtain⟨t,j⟩:∃t,y.o.op=.alloc t:=by cases j:y.o.op<;>rw[j] at hy<;>simp[FY] at hy;exact⟨_,rfl⟩
 have a3:=hz t j;simp only[FZ,aIy,aIR] at a3;obtain⟨a3,cc⟩:=a3;obtain⟨Q,ht⟩:=aIS.1 a3;have i:fF y.o.op=true:=by rw[j];rfl
 have b2:∀(s':S)(w:aa),ga B y s' w=U true:=λs' w=>by simp[ga,bl]
 have a:∀{w:aa}{af:S},dC p cf B A C F H (y::l) w af->af.bd=J/\dC p cf B A C F H l w (af.more y.ix t (di Q) y.o.dst (.loc y.ix 0)):=by
  intro w af hr;simp only[dC,b2,NM i,JD i bx,rA] at hr;rcases hr with⟨M,_⟩|⟨_,s3,W,L⟩;cases M;have:=axD j ht W;subst this;exact⟨abi i W,L⟩
 have done:R.bd=J->dC p cf B A C F H (r::l) N (R.more y.ix t (di Q) y.o.dst (.loc y.ix 0))->dC p cf B A C F H (y::r::l) N R:=by
  intro V W;rw[dC];refine .inr ⟨b2 R N, ?_⟩;rw[NM i];simp only[JD i bx,rA];exact⟨_,axC j ht cc V G,W⟩
 have a4:R.bd=J->(R.more y.ix t (di Q) y.o.dst (.loc y.ix 0)).bd=true:=λV=>ak7 V G (by simp only[S.dZ,V,aJ3];exact Tg Q) (by simp[SV.aS])
 obtain⟨p1,p2,p3⟩:=ya R y.ix t (di Q) y.o.dst (.loc y.ix 0);have ag:ga B r (R.more y.ix t (di Q) y.o.dst (.loc y.ix 0)) N=ga B r R N:=alg (λq hq=>JE (λe=>D.rx q e hq)) p1 p2 p3;have al:∀z∈r.o.op.operands.toList,(R.more y.ix t (di Q) y.o.dst (.loc y.ix 0)).ev cf.gl z=R.ev cf.gl z:=abj (λq hq=>JE (λe=>D.rx q e hq));rw[dC] at h;rcases h with⟨M,W⟩|⟨M,W⟩
 ·obtain⟨g1,g2⟩:=a W;refine done (axx g1 b7) ?_;rw[dC];refine .inl ⟨by rw[ag];exact M, ?_⟩;rw[<-BZ D.xy];exact g2
 ·cases P:dA cf R r.o with
  |call g0 br=>
   rw[P] at W;rcases g0 with g|n
   rotate_left
   have L:=W.1;rw[b6] at L;cases L;have u:oC _ _ _:=W;clear W;cases an:A g br R with
   |some ve=>
    obtain⟨pv,ex⟩:=ve;rw[an] at u;obtain⟨V,u⟩:=u;have hR:=a1.reg _ _ _ _ an;have bs:IL r.o.op=true:=by simpa[hR,aa4 P] using b1
    have bt:=akW bs P;subst bt;refine done V ?_;rw[dC];refine .inr ⟨by rw[ag];exact M, ?_⟩;rw[Gl al,P];show oC _ _ _;rw[show A g [] (R.more y.ix t (di Q) y.o.dst (.loc y.ix 0))=U (pv,ex) from(a1.z _ _ _ _ _ _ _ G).trans an];refine⟨a4 V, ?_⟩;have ch:=(lC G).2;have cl:(R.more y.ix t (di Q) y.o.dst (.loc y.ix 0)).plus ex=(R.plus ex).more y.ix t (di Q) y.o.dst (.loc y.ix 0):=by
     have:(R.ck y.ix t (di Q)).plus ex=(R.plus ex).ck y.ix t (di Q):=by
      simp only[S.ck,S.plus,List.set_append_left _ _ ch]
     unfold S.more;rw[<-this];cases y.o.dst<;>rfl
    rw[cl,<-BZ D.xy];exact(a u).2
   |none=>
   rw[an] at u;simp only[oC] at u;have W:=u;have V:R.bd=true:=by obtain⟨ts,ks,X,c1,c2,c3,c4,c5⟩:=W;simp only[aIy,S.dZ] at c4;exact c4.1.1
   refine done V ?_;rw[dC];refine .inr ⟨by rw[ag];exact M, ?_⟩;rw[Gl al,P];show oC _ _ _;have cp:A g br (R.more y.ix t (di Q) y.o.dst (.loc y.ix 0))=none:=by
    cases hh:A g br (R.more y.ix t (di Q) y.o.dst (.loc y.ix 0)) with
    |none=>rfl
    |some X=>
     exfalso;have hR:=a1.reg _ _ _ _ hh;have bs:IL r.o.op=true:=by simpa[hR,aa4 P] using b1
     have bt:=akW bs P;subst bt;have:=(a1.z g R y.ix t (di Q) y.o.dst (.loc y.ix 0) G).symm.trans hh;rw[an] at this;cases this
   rw[cp];simp only[oC];refine axF G (alh P V b0) (a4 V) W (λw ts ks X _ hr=> ?_);rw[<-BZ D.xy];exact(a hr).2
  |bn v=>
   exfalso;have hp:=aa8 P;cases a9:r.o.op<;>rw[a9] at k hp<;>simp[IK,fF,sT,xL] at hp k;rename_i c;cases bf:c.callee<;>simp[bf] at hp k;rename_i bb;cases bb<;>simp at hp k
  |no=>rw[P] at W;exact W.elim
  |op=>
   rw[P] at W;simp only at W;cases V:dM cf r.o r.bC r.dr R with
   |some b=>
    rw[V] at W;obtain⟨hn,W⟩:=W;rw[bk] at V;obtain⟨q1,q2,q3⟩:=NO V;refine done q1 ?_;rw[dC];refine .inr ⟨by rw[ag];exact M, ?_⟩;rw[Gl al,P];simp only;rw[bk,axz G (a4 q1) D.yx al V];refine⟨hn,λrv b3=> ?_⟩;rw[p3] at b3;exact(a (W rv b3)).2
   |none=>
    rw[V] at W;obtain⟨af,L,h4⟩:=W;have a0:fF r.o.op=true:=by
     simp only[aIZ] at k;rcases k with(m|m)|m;exact m;exact(aba m L).elim
     ·exfalso;cases a9:r.o.op<;>rw[a9] at m<;>simp[xL] at m;rename_i c;cases bf:c.callee<;>simp[bf] at m;rename_i f;simp only[dA,a9,bf] at P
      (repeat' split at P)<;>cases P
    have b4:r.ix≠y.ix:=by simpa[a0] using b8
    have b5:=abi a0 L;obtain⟨tx,cx,wx,rfl,g2,g3,g4⟩:=abf a0 b0 L;refine done b5 ?_;rw[dC];refine .inr ⟨by rw[ag];exact M, ?_⟩;rw[NM a0];simp only[JD a0 bk,rA];refine⟨_,(g4 _ N al (a4 b5) ?_).2, ?_⟩;unfold fj at g2⊢;rw[BY,aJf (λe=>b4 e.symm)];exact g2;rw[abg D.yx (λe=>b4 e.symm)];exact(a h4).2
def ali{Q:bR}{d:bR}{bj:BE}{W:TypeId}{k:RK}{V:LE}{O:ai}{N:BI}(L:R.bd=J)(H:∀q,Q=U q->d≠U q)
  (h:jm (R.more X x e Q v) d bj W k V t O=U N):∃b,jm R d bj W k V t O=U b/\N={b with s:=b.s.more X x e Q v}:=by
 obtain⟨G,F,M⟩:=ya R X x e Q v;unfold jm at h⊢;split at h;rename_i P;cases h;simp only[aIy] at P;rw[G,F,M] at P;obtain⟨⟨⟨y,D⟩,C⟩,B⟩:=P;rw[if_pos (by simp only[aIy];exact⟨⟨⟨L,D⟩,C⟩,B⟩)];refine⟨_,rfl, ?_⟩;congr 1;rw[M,BZ (λq A z=>H q z A)];cases Q<;>rfl;cases h
def axI{Q:bR}{P:Ty}{W:TypeId}{O:TI}{y:SV}{r:LE×BE×ai}(M:fj R.boxes X=J)(V:y.bd R.ni R.nb (Y R.rs) (aL R.boxes)=J)(h:pR P (R.more X x e Q v) W O y=U r):pR P R W O y=U r:=by
 have N:(R.more X x e Q v).rs=R.rs:=(ya _ _ _ _ _ _).2.2;unfold pR at h⊢;split at h;simp only[BT N] at h;exact h;rename_i i G F D;rw[BY] at h;have L:i≠X:=λW=>by subst W;simp only[SV.aS] at V;rw[(lC M).1] at V;cases V
 rw[Nj (xR L)] at h;split at h;rename_i H;simp only[DB N] at h
 first|exact h|(rw[H];exact h)
 cases h;cases h
def axJ{o:Oper}{bC:Bool}{s:S}{n:Nat}{t:TypeId}{W:ah}{X:bR}{w:SV}{N:BI}(D:fj s.boxes n=J)(Q:s.bd=J)(M:∀q,X=U q->o.dst≠U q)(C:o.op.operands.toList.all vS=J)
  (V:∀z∈o.op.operands.toList,(s.more n t W X w).ev cf.gl z=s.ev cf.gl z)(h:dM cf o bC J (s.more n t W X w)=U N):∃b,dM cf o bC J s=U b/\N={b with s:=b.s.more n t W X w}:=by
 have B:(s.more n t W X w).rs=s.rs:=(ya _ _ _ _ _ _).2.2;have L:∀x∈o.op.operands.toList,vS x=true:=aIN.1 C;have R:=JC h;unfold dM at h⊢;cases A:o.op<;>rw[A] at R h V L<;>simp[sT] at R;rename_i t' y v;simp only at h⊢;rw[V y (by simp[Op.operands]),V v (by simp[Op.operands])] at h;split at h;rename_i e ae q u m2 r m H;split at h;rename_i l k;split at h;rename_i G;rw[DB B] at G;rw[if_pos G];exact ali Q M h;cases h;cases h;cases h;rename_i c;cases P:c.callee with
 |builtin j=>
  cases j<;>simp[P] at R;simp only[P] at h⊢;have i:c.args.toList.map ((s.more n t W X w).ev cf.gl)=c.args.toList.map (s.ev cf.gl):=aIY λz O=>V z (by simp[Op.operands,Call.operands];exact .inr (by simpa using O))
  rw[i] at h;split at h;rename_i t1 t2 x0 F m H;have g:F.bd s.ni s.nb (Y s.rs) (aL s.boxes)=true:=by
   have:F∈c.args.toList.map (s.ev cf.gl):=by rw[H];simp
   obtain⟨z,O,rfl⟩:=aI3.1 this;exact zT Q (L z (by simp[Op.operands,Call.operands];exact .inr (by simpa using O)))
  split at h;rename_i e ae q e2 af q2 r ag;split at h;rename_i l k;split at h;cases h;rename_i f;rw[if_neg f];rw[alc] at h;split at h;rename_i la n1 al lb u an d a;rw[d,axI D g a];exact ali Q M h;cases h;cases h;cases h;cases h
 |_=>simp[P] at R
def axK(c0:Dz B A){y:OM}{bk:bY}(c1:y.so=E)(b5:M4 B r y=J)
  (h:dC p cf B A C F H (r::y::bk) N R):dC p cf B A C F H (y::r::bk) N R:=by
 unfold M4 at b5;simp only[aIy] at b5;obtain⟨⟨⟨⟨⟨⟨⟨⟨⟨⟨cv,bl⟩,a1⟩,d1⟩,b6⟩,c2⟩,bg⟩,a3⟩,c3⟩,c4⟩,c5⟩:=b5;have b6:r.o.guard=none:=by simpa using b6
 have D:=alf c4;have cx:∀(G:S)(O':aa),ga B r G O'=U true:=λG O'=>by simp[ga,b6]
 rw[dC] at h;rcases h with⟨h1,_⟩|⟨_,h2⟩;rw[cx] at h1;cases h1;rw[NM a1] at h2;simp only[JD a1 cv,rA] at h2;obtain⟨s1,h3,h4⟩:=h2;have M:=abi a1 h3;obtain⟨t,a,w,rfl,k,hw,tr⟩:=abf a1 c2 h3;have d2:R.dZ a=true:=(tr R N (λ_ _=>rfl) M k).1;obtain⟨p1,p2,p3⟩:=ya R r.ix t a r.o.dst w;have b7:ga B y (R.more r.ix t a r.o.dst w) N=ga B y R N:=alg (λq W=>JE (λe=>D.ry q e W)) p1 p2 p3;have a4:∀z∈y.o.op.operands.toList,(R.more r.ix t a r.o.dst w).ev cf.gl z=R.ev cf.gl z:=abj (λq W=>JE (λe=>D.ry q e W));have a9:∀{O':aa}{G:S},(∀q,y.o.dst≠U q->G.tmps[q]?=R.tmps[q]?)->G.bd=J->fj G.boxes r.ix=J->dC p cf B A C F H bk O' (G.more r.ix t a r.o.dst w)->dC p cf B A C F H (r::bk) O' G:=by
  intro O' G ht bf c6 hr;rw[dC];refine .inr ⟨cx _ _, ?_⟩;rw[NM a1];simp only[JD a1 cv,rA];exact⟨_,(tr G O' (abj (λq W=>ht q (λe=>D.rx q e W))) bf c6).2,hr⟩
 rw[dC] at h4;rcases h4 with⟨h5,V⟩|⟨h5,V⟩;rw[dC];refine .inl ⟨by rw[<-b7];exact h5, ?_⟩;refine a9 (λq W=>kE W) (NN (s':=R) M (aIG _) (aIG _) (aIG _) rfl rfl (by simp[SV.aS,SV.gI])) (by rw[kF];exact k) ?_;rw[BZ D.yx];exact V
 ·rw[dC];refine .inr ⟨by rw[<-b7];exact h5, ?_⟩;rw[Gl a4] at V;cases hc:dA cf R y.o with
  |call g0 b8=>
   rw[hc] at V;rcases g0 with g|n
   rotate_left
   have h3:=V.1;rw[c1] at h3;cases h3;have cA:∀G,A g b8 G=none:=λG=>by
    cases hh:A g b8 G with
    |none=>rfl
    |some X=>
     exfalso;have hR:=c0.reg _ _ _ _ hh;simp[hR,aa4 hc] at c5
   have hP:oC _ _ _:=V;clear V;rw[cA] at hP;simp only[oC] at hP;have V:=hP;show oC _ _ _;rw[cA];simp only[oC];refine axG k (alh hc M bg) M V (λO' ts ks X hm hr=> ?_);obtain⟨b1,b2,b3,b4⟩:=we ks (R.cut b8 ks);refine a9 (λq W=>by rw[kE W,b2];rfl) (axB M hm) (by rw[kF,b1];exact k) ?_;rw[BZ D.yx];exact hr
  |bn v=>
   exfalso;have hp:=aa8 hc;cases br:y.o.op<;>rw[br] at a3 hp<;>simp[IK,fF,sT,xL,Dh,xK] at hp a3;rename_i c;cases bs:c.callee<;>simp[bs] at hp a3;rename_i bb;cases bb<;>simp at hp a3
  |no=>rw[hc] at V;exact V.elim
  |op=>
   rw[hc] at V;show rA _ _ _;have V:rA _ _ _:=V;cases bx:dM cf y.o y.bC y.dr (R.more r.ix t a r.o.dst w) with
   |some b1=>
    rw[bx] at V;obtain⟨hn,V⟩:=V;rw[bl] at bx⊢;obtain⟨b,g1,rfl⟩:=axJ k M D.xy bg a4 bx;rw[g1];obtain⟨q1,q2,q3⟩:=NO g1;refine⟨hn,λrv c7=> ?_⟩;refine a9 (abb g1) q2 (by rw[q3];exact k) (V rv (by rw[p3];exact c7))
   |none=>
    rw[bx] at V;obtain⟨c8,L,h8⟩:=V;by_cases af:Dh y.o.op=J
    
    have W:lY y.o.op=true:=by cases Q:y.o.op<;>rw[Q] at af<;>simp[Dh] at af<;>rfl
    have d3:zD y.o.op=false:=by cases Q:y.o.op<;>rw[Q] at af<;>simp[Dh] at af<;>rfl
    rw[bl,akY W];simp only[rA];obtain⟨v,l,hv,rfl⟩:=(Jz (ops:=B) W h5).1 L;have c9:jU cf B y.o (R.more r.ix t a r.o.dst w) N R N:=jU.xY (λq W=>(JE (λe=>D.ry q e W)).symm) p3.symm p1.symm p2.symm;have P:=aa5 c9 (λi hi=>by
     unfold zq at hi;cases Q:y.o.op<;>rw[Q] at af hi<;>simp[Dh] at af<;>cases hi) hv
    have cB:ga B y R N=U true:=by rw[<-b7];exact h5
    refine⟨_,(Jz (ops:=B) W cB).2 ⟨v,l,P,rfl⟩, ?_⟩;have dc:v.bd R.ni R.nb (Y R.rs) (aL R.boxes)=true:=by
     have a0:∀z∈y.o.op.operands.toList,vS z=true:=aIN.1 bg;rcases P with P|⟨-,-,P⟩;rw[cB] at P;cases P.1;cases Q:y.o.op<;>rw[Q] at af P a0<;>simp[Dh] at af;rename_i z;have:=P.1;simp only[bO,PR.xZ] at this;rw[this];exact zT M (a0 z (by simp[Op.operands]));rename_i z;have:=P.1;simp only[bO,PR.xZ] at this;rw[this];exact zT M (a0 z (by simp[Op.operands]));rename_i st z f;have ag:=zT (cf:=cf) M (a0 z (by simp[Op.operands]));have:=P.1;simp only[bO] at this;split at this;rename_i hz;rw[hz] at ag;split at this;split at this;split at this;exact this.elim;rw[this];exact ag;exact this.elim;exact this.elim;rename_i hz;rw[hz] at ag;split at this;split at this;split at this;exact this.elim;rw[this];exact ag;exact this.elim;exact this.elim;exact this.elim
    have dd:l=0:=by
     rcases P with P|⟨-,-,P⟩;exact P.2.2;cases Q:y.o.op<;>rw[Q] at af P<;>simp[Dh] at af<;>exact P.2
    subst dd;rw[Gk] at h8⊢;refine a9 (λq W=>kE W) (NN (s':=R) M (aIG _) (aIG _) (aIG _) rfl rfl dc) (by rw[kF];exact k) ?_;rw[BZ D.yx];exact h8;by_cases ca:xK y.o.op=J;obtain⟨t',z,u,Q⟩:∃t z u,y.o.op=.store t z u:=by cases Q:y.o.op<;>rw[Q] at ca<;>simp[xK] at ca;exact⟨_,_,_,rfl⟩
    have a0:∀z∈y.o.op.operands.toList,vS z=true:=aIN.1 bg;have cc:dM cf y.o y.bC y.dr R=none:=by rw[bl];simp[dM,Q]
    rw[cc];simp only[rA];have hz:=a4 z (by rw[Q];simp[Op.operands]);have hu:=a4 u (by rw[Q];simp[Op.operands]);have ag:=zT (cf:=cf) M (a0 z (by rw[Q];simp[Op.operands]));have df:=zT (cf:=cf) M (a0 u (by rw[Q];simp[Op.operands]));unfold gK fw at L;split at L;exact L.elim;rename_i m;have dk:¬(y.o.op.operands.toList.any λz=>(R.ev cf.gl z).dP)=true:=by
     intro hh;obtain⟨zz,cC,dn⟩:=aI7.1 hh;exact m (aI7.2 ⟨zz,cC,by rw[a4 zz cC];exact dn⟩)
    simp only[Q,hz,hu] at L;split at L;rename_i ti i al ds hi;have ch:i≠r.ix:=λe=>by subst e;rw[hi] at ag;simp only[SV.aS] at ag;rw[(lC k).1] at ag;cases ag
    rw[BY,Nj (xR ch)] at L;split at L;rename_i bt an cD;obtain⟨cl,-⟩:=xP cD;split at L;rename_i b0;have dx:(R.more r.ix t a r.o.dst w).lk=R.lk:=Tf _ _ _;rw[dx] at b0;have d4:((R.ev cf.gl u).cells.length==Y ti.ae)=true:=by simp only[aIy] at b0;exact b0.1.1.1.1
    refine⟨(R.ck i bt (j5 an al (R.ev cf.gl u).cells)).put y.o.dst (.bH []), ?_, ?_⟩;unfold gK fw;rw[if_neg dk];simp only[Q,ds,hi,cD];rw[if_pos b0];rfl;have dy:((R.ck i bt (j5 an al (R.ev cf.gl u).cells)).put y.o.dst (.bH [])).bd=true:=by
     have cI:i<Y R.boxes:=(aIz.1 (i8.1 cl)).1;have dz:∀j,aL (R.boxes.set i (U (bt,j5 an al (R.ev cf.gl u).cells))) j=aL R.boxes j:=λj=>by
      by_cases hj:j=i;subst hj;simp[aL,Ga cI,cl];simp[aL,xR hj]
     have dT:aL (R.boxes.set i (U (bt,j5 an al (R.ev cf.gl u).cells)))=aL R.boxes:=funext dz;have bf:=M;simp only[S.bd,aIy] at bf;have cc:(R.ck i bt (j5 an al (R.ev cf.gl u).cells)).bd=true:=by
      simp only[S.bd,S.ck,dT,aIy];refine⟨bf.1, ?_⟩;rw[BX];intro j b hj;by_cases cO:j=i;subst cO;rw[Ga cI] at hj;cases hj;exact abe (BX.1 bf.2 j _ cl) (abd df);rw[xR cO] at hj;exact BX.1 bf.2 j b hj
     exact NN (s':=R.ck i bt (j5 an al (R.ev cf.gl u).cells)) cc (aIG _) (aIG _) (aIG _) rfl rfl (by simp[SV.aS,SV.gI])
    refine a9 (λq W=>by rw[kE W];rfl) dy ?_ ?_;rw[kF];unfold fj at k⊢;simp only[S.ck];rw[aJf ch];exact k;have d0:c8=((R.more r.ix t a r.o.dst w).ck i bt (j5 an al (R.ev cf.gl u).cells)).put y.o.dst (.bH []):=L;subst d0;have:((R.ck i bt (j5 an al (R.ev cf.gl u).cells)).put y.o.dst (.bH [])).more r.ix t a r.o.dst w=((R.more r.ix t a r.o.dst w).ck i bt (j5 an al (R.ev cf.gl u).cells)).put y.o.dst (.bH []):=
     abg (s:=R) (n:=i) (n':=r.ix) (d:=y.o.dst) (e:=r.o.dst) D.yx ch
    rw[this];exact h8;exact L.elim;exact L.elim;exact L.elim;have cp:fF y.o.op=true:=by
     simp only[aIZ] at a3;rcases a3 with(((m|m)|m)|m)|m;exact m;exact(aba m L).elim
     ·exfalso;cases br:y.o.op<;>rw[br] at m<;>simp[xL] at m;rename_i c;cases bs:c.callee<;>simp[bs] at m;rename_i f;simp only[dA,br,bs] at hc
      (repeat' split at hc)<;>cases hc
     exact absurd m af;exact absurd m ca
    have ct:r.ix≠y.ix:=by simpa[cp] using c3
    rw[JD cp bl];simp only[rA];obtain⟨d5,cy,wy,rfl,k2,k3,k4⟩:=abf cp bg L;have cW:fj R.boxes y.ix=true:=by
     unfold fj at k2⊢;rw[BY,aJf ct] at k2;exact k2
    obtain⟨m1,m2⟩:=k4 R N (λz hz=>(a4 z hz).symm) M cW;refine⟨_,m2,a9 (λq W=>JE W) (ak7 M cW m1 (k3 _ _ _)) ?_ ?_⟩;unfold fj at k⊢;rw[BY,aJf (λe=>ct e.symm)];exact k;rw[abg D.yx (λe=>ct e.symm)];exact h8
def axL(V:Dz B A){y:OM}{Q:bY}(W:sU B r y=J)(P:∀d,r.o.dst=U d->wh R d)(L:fF y.o.op=J->fj R.boxes y.ix=J)(G:∀t,y.o.op=.alloc t->FZ cf t=J)
  (D:Y N.i=R.ni)(z:Y N.b=R.nb)(w:Y N.r=Y R.rs)
  (h:dC p cf B A C F H (r::y::Q) N R):dC p cf B A C F H (y::r::Q) N R:=by
 unfold sU at W;simp only[aIy,aIR,aIZ] at W;obtain⟨⟨v,M⟩,W⟩:=W;rcases W with(X|X)|X;exact axv V M X P D z w h;have u:fF y.o.op=true:=by
  unfold IM at X;simp only[aIy] at X;have:=X.1.1.1.1.1.1.2;cases q:y.o.op<;>rw[q] at this<;>simp[FY] at this;rfl
 exact axH V v X P (L u) G h;exact axK V M X h
def alj{M:S}(h:(fw cf r R).gives N M):∀n,fj R.boxes n=J->(fF r.o.op=J->n≠r.ix)->fj M.boxes n=true:=by
 intro q X Q;have V:∀{t:TypeId}{P:ah}{d:bR}{w:SV}{i:Nat},q≠i->fj ((R.ck i t P).put d w).boxes q=true:=by
  intro t P d w i L;rw[kF];unfold fj at X⊢;simp only[S.ck];rw[aJf (λe=>L e.symm)];exact X
 unfold fw at h;split at h;exact h.elim;split at h;rename_i t W;split at h;split at h;cases h;exact V (Q (by rw[W];rfl));exact h.elim;exact h.elim;rename_i t x W;split at h;split at h;cases h;exact V (Q (by rw[W];rfl));exact h.elim;exact h.elim;rename_i t l G W;split at h;split at h;split at h;split at h;cases h;exact V (Q (by rw[W];rfl));exact h.elim;exact h.elim;exact h.elim;exact h.elim;split at h;split at h;rename_i F P H;split at h;cases h;refine V (λe=> ?_);subst e;have:=(lC X).1;simp[aL,(xP H).1] at this;exact h.elim;exact h.elim;exact h.elim;split at h;simp only[OR.gives] at h;split at h<;>(subst h;rw[kF];exact X);exact h.elim;obtain⟨v,-,rfl⟩:=zO h;rw[BW];exact X;obtain⟨v,-,rfl⟩:=zO h;rw[BW];exact X
def axM{Q:S}(h:(fw cf r R).gives N Q):∀i,aL R.boxes i=J->aL Q.boxes i=true:=by
 intro q X;have W:∀{t:TypeId}{V:ah}{d:bR}{w:SV}{i:Nat},aL ((R.ck i t V).put d w).boxes q=true:=by
  intro t V d w i;rw[kF];unfold aL at X⊢;simp only[cw] at X⊢;simp only[S.ck];by_cases P:i=q;subst P;have H:i<Y R.boxes:=by
   cases M:R.boxes[i]? with
   |none=>rw[M] at X;cases X
   |some b=>exact(aIz.1 M).1
  rw[aJX H];rfl;rw[aJf P];exact X
 unfold fw at h;split at h;exact h.elim;split at h;rename_i t L;split at h;split at h;cases h;exact W;exact h.elim;exact h.elim;rename_i t x L;split at h;split at h;cases h;exact W;exact h.elim;exact h.elim;rename_i t l G L;split at h;split at h;split at h;split at h;cases h;exact W;exact h.elim;exact h.elim;exact h.elim;exact h.elim;split at h;split at h;rename_i F V D;split at h;cases h;exact W;exact h.elim;exact h.elim;exact h.elim;split at h;simp only[OR.gives] at h;split at h<;>(subst h;rw[kF];exact X);exact h.elim;obtain⟨v,-,rfl⟩:=zO h;rw[BW];exact X;obtain⟨v,-,rfl⟩:=zO h;rw[BW];exact X
structure s9(s s':S):Prop where
 i:s.ni<=s'.ni
 b:s.nb<=s'.nb
 r:Y s.rs<=Y s'.rs
 bx:∀i,aL s.boxes i=J->aL s'.boxes i=J
def s9.put(s:S)(d:bR)(v:SV):s9 s (s.put d v):=
 ⟨aKe (eM _ _ _).1.symm,aKe (eM _ _ _).2.1.symm,aKe (congrArg Y (eM s d v).2.2).symm,λi h=>by rw[kF];exact h⟩
def s9.trans{b c:S}(h:s9 R b)(k:s9 b c):s9 R c:=⟨aJL h.i k.i,aJL h.b k.b,aJL h.r k.r,λi X=>k.bx i (h.bx i X)⟩
def axN{l1 j:bY}(af:r.dr=J)(al:r.so=E)(q:Y N.i=R.ni)(m:Y N.b=R.nb)(l:Y N.r=Y R.rs)(h:dC p cf B A C F H (r::l1) N R)
  (f:∀d M,Y d.i=M.ni->Y d.b=M.nb->Y d.r=Y M.rs->(∀t,r.o.dst≠U t->M.tmps[t]?=R.tmps[t]?)->(∀n,fj R.boxes n=J->(fF r.o.op=J->n≠r.ix)->fj M.boxes n=J)->s9 R M->dC p cf B A C F H l1 d M->dC p cf B A C F H j d M):dC p cf B A C F H (r::j) N R:=by
 simp only[dC] at h⊢;rcases h with⟨h1,P⟩|⟨h1,P⟩;exact .inl ⟨h1,f _ _ (by rw[(eM _ _ _).1];exact q) (by rw[(eM _ _ _).2.1];exact m) (by rw[(eM _ _ _).2.2];exact l) (λt c=>kE c) (λn y _=>by rw[kF];exact y) (s9.put _ _ _) P⟩
 ·refine .inr ⟨h1, ?_⟩;cases hc:dA cf R r.o with
  |call g0 a=>
   rw[hc] at P;rcases g0 with g|n
   rotate_left
   have G:=P.1;rw[al] at G;cases G;have P:oC _ _ _:=P;show oC _ _ _;cases ag:A g a R with
   |some ve=>
    obtain⟨pv,ex⟩:=ve;rw[ag] at P;exact⟨P.1,f _ _ (by rw[(eM _ _ _).1];exact q) (by rw[(eM _ _ _).2.1];exact m) (by rw[(eM _ _ _).2.2];exact l) (λt c=>kE c) (λn y _=>by rw[kF];exact akV y) (s9.trans (b:=R.plus ex) ⟨aIG _,aIG _,aIG _,λi k=>by unfold aL;rw[akU k];exact k⟩ (s9.put _ _ _)) P.2⟩
   |none=>
   rw[ag] at P;obtain⟨ts,D,X,c1,c2,c3,c4,c5⟩:=P;refine⟨ts,D,X,c1,c2,c3,c4,λV W Q=>(c5 V W Q).mono ?_⟩;intro e W' he;cases e with
   |returned u=>
    obtain⟨xs,z,w,q3,q4,q5⟩:=he;obtain⟨b1,b2,b3,b4⟩:=we D (R.cut a D);obtain⟨l1,j,l3⟩:=xX D xs (R.cut a D) N z q m (l.trans (Dy a D R.rs).len.symm);refine⟨xs,z,w,q3,q4,f _ _ (by rw[(eM _ _ _).1];exact l1) (by rw[(eM _ _ _).2.1];exact j) (by rw[(eM _ _ _).2.2];exact l3) (λt c=>by rw[kE c,b2];rfl) (λn y _=>by rw[kF,b1];exact y) (s9.trans (b:=((R.cut a D).bS D).2) ⟨by rw[<-q,<-l1];exact(BK [] _ _ []).li,by rw[<-m,<-j];exact(BK [] _ _ []).lb,by rw[<-l,<-l3];exact(BK [] _ _ []).lr,λi k=>by rw[b1];exact k⟩ (s9.put _ _ _)) q5⟩
   |panicked ch=>exact he
   |outgrown=>exact he
  |bn v=>rw[hc] at P;exact P
  |no=>rw[hc] at P;exact P
  |op=>
   rw[hc] at P;simp only at P⊢;cases L:dM cf r.o r.bC r.dr R with
   |some b=>
    rw[L] at P;obtain⟨z,w,q3⟩:=akS L;exact⟨P.1,λrv an=>f _ _ (by rw[z];exact q) (by rw[w];exact m) (by simp[aa.add,q3,l]) (abb (by rw[af] at L;exact L)) (λn y _=>by rw[(NO (by rw[af] at L;exact L)).2.2];exact y) ⟨by rw[z];exact aIG _,by rw[w];exact aIG _,by rw[q3];omega,λi k=>by rw[(NO (by rw[af] at L;exact L)).2.2];exact k⟩ (P.2 rv an)⟩
   |none=>
    rw[L] at P;obtain⟨M,G,h4⟩:=P;obtain⟨z,w,q3⟩:=akR (Jx G);exact⟨M,G,f _ _ (by rw[z];exact q) (by rw[w];exact m) (by rw[q3];exact l) (ak4 (Jx G)) (alj (Jx G)) ⟨by rw[z];exact aIG _,by rw[w];exact aIG _,by rw[q3];exact aIG _,axM (Jx G)⟩ h4⟩
def alk{y:OM}(h:sU B r y=J):r.so=E/\y.so=false:=by
 unfold sU at h;simp only[aIy,aIR] at h;exact h.1
def axO{y:OM}(h:sU B r y=J):r.dr=true:=by
 unfold sU at h;simp only[aIy,aIZ] at h;replace h:=h.2;rcases h with(h|h)|h;exact(ak0 h).elim λ_ c=>c.xd
 unfold IM at h;simp only[aIy] at h;exact h.1.1.1.1.1.1.1.1;unfold M4 at h;simp only[aIy] at h;exact h.1.1.1.1.1.1.1.1.1.1
end
section
variable{p:Sp}{k:bz}{B:cT}{A:vT}{Kn:aa->S->Prop}{Kp:aa->SV->S->Prop}{Yp:OM->bY->aa->S->Nat->ah->Prop}
def JG(s:S)(m:OM):Prop:=∀d,m.o.dst=U d->wh s d
def abk{V:S}(W:s9 R V)(Q:V.tmps[X]?=R.tmps[X]?)(h:wh R X):wh V X:=by
 rcases h with h|⟨w,h,P⟩;exact .inl (Q.trans h);exact .inr ⟨w,Q.trans h,SV.du W.i W.b W.r W.bx _ P⟩
def JG.other{d:bR}(h:JG R r)(W:∀e,d=U e->r.o.dst≠U e):JG (R.put d v) r:=by
 intro e X;have:=(s9.put R d v);exact abk this (kE (λV=>W e V X)) (h e X)
def abl(s:S)(m:OM):Prop:=fF m.o.op=J->fj s.boxes m.ix=J
def alm(Q:Dz B A){m:OM}{V:bY}:∀(X:bY)(s:S)(O:aa),(∀x∈X,sU B x m=J)->(∀x∈X,JG s x)->abl s m->(X.Pairwise λa b=>∀d,a.o.dst=U d->b.o.dst≠U d)->(∀x∈X,fF x.o.op=J->fF m.o.op=J->m.ix≠x.ix)->(∀t,m.o.op=.alloc t->FZ k t=J)->
  Y O.i=s.ni->Y O.b=s.nb->Y O.r=Y s.rs->dC p k B A Kn Kp Yp (X++m::V) O s->dC p k B A Kn Kp Yp (m::(X++V)) O s
 |[],s,O,_,_,_,_,_,_,_,_,_,h=>h
 |x::X,s,O,P,N,M,v,L,H,G,F,D,h=>by
  have R:=P x (by simp);have u:x.dr=true:=axO R;have q:=(alk R).1;have C:=aIV.1 v;have:dC p k B A Kn Kp Yp (x::m::(X++V)) O s:=axN (l1:=X++m::V) u q G F D h (λn l j g q3 f c af hr=>
   alm Q X l n (λy W=>P y (by simp[W])) (λy W e z=>abk af (f e (λhx=>C.1 y W e hx z)) (N y (by simp[W]) e z))
    (λw=>c m.ix (M w) (λag=>L x (by simp) ag w)) C.2 (λy W=>L y (by simp[W])) H j g q3 hr)
  exact axL Q R (N x (by simp)) M H G F D this
def abm{D:bQ}{s:S}{a:Act}{W:World}{O:aa}{V:ai}(R:av p.S0 p.w0 D k.ty V O s a W){m:OM}{b:Bool}(h:ga B m s O=U b):Region.wanted m.o (yielded B a.tmps)=b:=by
 unfold ga at h;cases X:m.o.guard with
 |none=>rw[X] at h;cases h;simp[Region.wanted,X]
 |some q=>
  obtain⟨j,N⟩:=q;rw[X] at h;simp only at h;split at h;rename_i d M;have P:=akp R M;split at h;rename_i e Q;split at h;cases h;have:=P.1 e Q;simp only[Region.wanted,X,this];cases e.den O<;>cases N<;>rfl;cases h;rename_i Q;cases h;simp[Region.wanted,X,P.2 Q];cases h;cases h
def Ti(p:Sp)(k:bz)(A:vT):Prop:=∀(g:FuncId)(X:ah)(s:S)(v:SV)(R:bw),A g X s=U (v,R)->
 ∀(D:bQ)(O:aa)(V:ai)(a:Act)(W:World),s.bd=J->av p.S0 p.w0 D k.ty V O s a W->ek k.gl O->(∀X W,(callFunc g X).run p.P W=.ok (.enter g X) W)/\
  Calls p.P g (SV.aA O V X).toArray W λe N=>∃Q,e=.returned (v.den O Q)/\av p.S0 p.w0 D k.ty Q O (s.plus R) a N/\bF s O V (s.plus R) O Q
structure NP(B:cT)(bs:ai)(listed:Array Bool)(rem:bY):Prop where
 mem:∀m∈rem,B[m.j]?=U m.o
 un:∀i,i<B.size->(listed.getD i J=E<->∃m∈rem,m.j=i)
 sz:listed.size=B.size
 dn:∀(j:Nat)(o:Oper),B[j]?=U o->listed.getD j E=J->∀e∈j7 o,listed.getD e E=J
 pr:rem.Pairwise λx y=>(bs.getD y.j 0).testBit x.j=J\/sU B x y=J
 tp:∀xs m ys,rem=xs++m::ys->∀e∈j7 m.o,listed.getD e E=J\/∃x∈xs,x.j=e
 nd:rem.Pairwise λx y=>x.j≠y.j
 ds:rem.Pairwise λa b=>∀d,a.o.dst=U d->b.o.dst≠U d
 so:∀xs m ys,rem=xs++m::ys->m.so=J->ys.Pairwise λx y=>(bs.getD y.j 0).testBit x.j=J
def aln{e:Edge}(h:e∈l.after)(X:Region.binds .any e=J):e.on∈j7 l:=aI3.2 ⟨e,aJj.2 ⟨by simpa using h,X⟩,rfl⟩
def alo(h:X∈j7 l):∃e∈l.after,Region.binds .any e=J/\e.on=X:=by
 obtain⟨e,W,rfl⟩:=aI3.1 h;obtain⟨V,R⟩:=aJj.1 W;exact⟨e,by simpa using V,R,rfl⟩
structure JH(B:cT)(bs:ai):Prop where
 lt:∀(j:Nat)(o:Oper),B[j]?=U o->∀e∈j7 o,e<j
 cl:∀(j:Nat)(o:Oper),B[j]?=U o->∀i,i<B.size->(bs.getD j 0).testBit i=J->i∈j7 o\/∃e∈j7 o,(bs.getD e 0).testBit i=J
def axP{listed:Array Bool}{O:bY}(W:JH B t)(N:NP B t listed O):∀(j:Nat)(o:Oper),B[j]?=U o->(∀e∈j7 o,listed.getD e E=J)->∀i,i<B.size->(t.getD j 0).testBit i=J->listed.getD i E=true:=by
 intro j;induction j using aKZ with
 |_ j M=>
  intro o X V i R L;rcases W.cl j o X i R L with h|⟨e,Q,h⟩;exact V i h;have H:=W.lt j o X e Q;have G:j<B.size:=(aIX.1 X).1;have P:B[e]?=U B[e]:=aKX (by omega);exact M e H B[e] P (N.dn e _ P (V e Q)) i R h
def Gm(a:Array Bool)(i j:Nat)(b:Bool)(X:i<a.size):(a.setIfInBounds i J).getD j b=if j=i then J else a.getD j b:=by
 by_cases h:j=i;subst h;simp[X];simp[aKd (Ne.symm h),h]
def axQ{listed:Array Bool}{P O:bY}(X:NP B t listed (P++r::O))(l:∀e∈j7 r.o,listed.getD e E=J):NP B t (listed.setIfInBounds r.j J) (P++O):=by
 have q:=X.mem r (by simp);have k:r.j<B.size:=(aIX.1 q).1;have D:r.j<listed.size:=by rw[X.sz];exact k
 have L:aMa (P++O) (P++r::O):=aKT (aK5 _) (aKH _ _);have g:∀x∈P++O,x.j≠r.j:=by
  intro x W;have A:=X.nd;rw[aI4] at A;rcases aIM.1 W with h|h;exact A.2.2 x h r (by simp);exact Ne.symm ((aIV.1 A.2.1).1 x h)
 refine⟨λx W=>X.mem x (L.subset W),λi f=> ?_,by simp[X.sz],λj o y H e M=> ?_,X.pr.sublist L, ?_,X.nd.sublist L,X.ds.sublist L, ?_⟩;rw[Gm _ _ _ _ D];by_cases w:i=r.j;subst w;simp only[if_true,aMb,false_iff];rintro⟨x,W,H⟩;exact g x W H;rw[if_neg w,X.un i f];constructor;rintro⟨x,W,rfl⟩;refine⟨x, ?_,rfl⟩;simp only[aIM,aIK] at W⊢;rcases W with h|h|h;exact .inl h;subst h;exact absurd rfl w;exact .inr h;rintro⟨x,W,rfl⟩;exact⟨x,L.subset W,rfl⟩;rw[Gm _ _ _ _ D];rw[Gm _ _ _ _ D] at H;split;rfl;by_cases n:j=r.j;subst n;rw[q] at y;cases y;exact l e M;rw[if_neg n] at H;exact X.dn j o y H e M;intro v N G u e M;rw[Gm _ _ _ _ D];by_cases C:e=r.j;left;rw[if_pos C];rw[if_neg C];rcases aLA.1 u with⟨R,Q,V⟩|⟨R,Q,V⟩
 
 have:=X.tp (P++r::R) N G (by rw[V];simp) e M;rcases this with h|⟨x,W,F⟩;exact .inl h;right;refine⟨x, ?_,F⟩;rw[Q];simp only[aIM,aIK] at W⊢;rcases W with h|h|h;exact .inl h;subst h;exact absurd F.symm C;exact .inr h
 
 cases R with
 |nil=>
  simp at Q V;subst Q;have:=X.tp (P++[r]) N G (by rw[<-V];simp) e M;rcases this with h|⟨x,W,F⟩;exact .inl h;right;refine⟨x, ?_,F⟩;simp only[aIM,aKB] at W;rcases W with h|h;exact h;subst h;exact absurd F.symm C
 |cons z R=>
  simp only[aIF,aJH] at V;obtain⟨rfl,V⟩:=V;have:=X.tp v N (R++r::O) (by rw[Q];simp) e M;exact this
 intro v N G u s;rcases aLA.1 u with⟨R,Q,V⟩|⟨R,Q,V⟩;exact X.so (P++r::R) N G (by rw[V];simp) s;cases R with
 |nil=>
  simp at Q V;subst Q;exact X.so (P++[r]) N G (by rw[<-V];simp) s
 |cons z R=>
  simp only[aIF,aJH] at V;obtain⟨rfl,V⟩:=V;have:=X.so v N (R++r::O) (by rw[Q];simp) s;rw[V];exact this.sublist (aKT (aK5 _) (aKH _ _))
def axR{F:Fence}(x:pj F)(ok:kD p k)(bb:Ti p k A){D:bQ}{Q:Exit->Act->World->Prop}(HP:∀ch a' C pd y,dG p.w0 D pd y a'.defers C->p.R (.panicked ch) C->Q (.panic ch) a' C)
   {an:bY}{a:Act}(h:dC p k B A Kn Kp Yp (r::an) N R)(M:av p.S0 p.w0 D k.ty t N R a b)(hg:ek k.gl N)(hm:B[r.j]?=U r.o)(a9:r.dr=J)
  {K:Act->World->Prop}(hK:∀i O' V' a' C,bF R N t i O' V'->(∀L,r.o.dst≠U L->i.tmps[L]?=R.tmps[L]?)->(∀X,fj R.boxes X=J->(fF r.o.op=J->X≠r.ix)->fj i.boxes X=J)->av p.S0 p.w0 D k.ty V' O' i a' C->dC p k B A Kn Kp Yp an O' i->K a' C)
  (bd:∀v,Kp N v R->Q (.panic [{v:=v.den N t,recovered:=E}]) a b)
  (hY:∀yn w,dA k R r.o=.call (.yl yn) w->r.so=J->Yp r an N R yn w->r.o.wpIn F X p.P a b K Q):wpOpIn F X p.P B Q r.j K a b:=by
 unfold wpOpIn;rw[hm];simp only;simp only[dC] at h;rcases h with⟨h1,G⟩|⟨h1,G⟩;rw[abm M h1];exact⟨λf _=>x.fn f,hK _ N t _ b ((bF.refl _ _ _).put _ _) (λL ht=>kE ht) (λX u _=>by rw[kF];exact u) (M.put r.o.dst (.bH [])) G⟩
 ·rw[abm M h1];simp only[if_true];cases z:dA k R r.o with
  |call g0 w=>
   rw[z] at G;rcases g0 with g|yn
   rotate_left
   exact hY yn w z G.1 G.2;have G:oC _ _ _:=G;cases a0:A g w R with
   |some ve=>
    obtain⟨pv,ex⟩:=ve;rw[a0] at G;obtain⟨a1,a3⟩:=bb g w R pv ex a0 D N t a b G.1 M hg;refine⟨λf _=>x.fn f, ?_⟩;have af:∀c,r.o.op≠ .defer c:=λc ag=>by simp[dA,ag] at z
    rw[Oper.semAt_eq _ _ _ af,SX M hg z a1,Oper.uponIn_enter];refine⟨λhd=>by rw[x.xW] at hd;simp at hd,CallsIn.mono (x.calls a3) (λe C he=> ?_)⟩;obtain⟨V',rfl,d,hl⟩:=he;exact hK _ N V' _ C (hl.put _ _) (λL ht=>kE ht) (λX u _=>by rw[kF];exact akV u) (d.put r.o.dst pv) G.2
   |none=>
   rw[a0] at G;obtain⟨ts,ks,l,c1,c2,c3,c4,c5⟩:=G;simp only[S.dZ,aIy] at c4;obtain⟨⟨hb,-⟩,bf⟩:=c4;have a1:=ok.BS g (.inl (by rw[c1];rfl));have a3:=c5 t b (by rw[ok.pt];exact(M.mem.Z2 _).mc (ajA _ _));refine⟨λf _=>x.fn f, ?_⟩;have af:∀c,r.o.op≠ .defer c:=λc ag=>by simp[dA,ag] at z
   rw[Oper.semAt_eq _ _ _ af,SX M hg z a1,Oper.uponIn_enter];refine⟨λhd=>by rw[x.xW] at hd;simp at hd,CallsIn.mono (x.calls a3) (λe C he=> ?_)⟩;cases e with
   |returned v=>
    obtain⟨xs,q1,q2,q3,q4,q5⟩:=he;rw[ok.pt] at q4;obtain⟨e1,e2,e3,e4⟩:=we ks (R.cut w ks);subst q2;have R1:av p.S0 p.w0 D k.ty t N (R.cut w ks) a b:=M.mc (Dy w ks R.rs);have d:=(R1.called (Nw hb (Dy w ks R.rs).len) bf q1 q3 (λH hb=>akw M hb) q4).put r.o.dst (one l);refine hK _ (N.ext xs) t _ C (bF.put (s:=R) ⟨BK _ _ _ _,by rw[e1];exact λ_ h=>h,by rw[e1];exact aIG _,by rw[e3];exact aIG _⟩ _ _) (λL ht=>by rw[kE ht,e2];rfl) (λX u _=>by rw[kF,e1];exact u) d q5
   |panicked ch=>exact HP ch a C _ _ (M.cM.below he.1) he.2
   |outgrown=>exact he.elim
  |bn v=>
   rw[z] at G;refine⟨λf _=>x.fn f, ?_⟩;have af:∀c,r.o.op≠ .defer c:=λc ag=>by simp[dA,ag] at z
   rw[Oper.semAt_eq _ _ _ af,akr M hg z];exact bd v G
  |no=>rw[z] at G;exact G.elim
  |op=>
   rw[z] at G;simp only at G;cases q:dM k r.o r.bC r.dr R with
   |some H=>
    rw[q] at G;obtain⟨u,G⟩:=G;obtain⟨v,C,rv,a4,bg,d,hl⟩:=aaB M ok.kV hg q u;exact BP x a4 (aaT q) (hK H.s _ t _ C hl (abb (by rw[a9] at q;exact q)) (λX u _=>by rw[(NO (by rw[a9] at q;exact q)).2.2];exact u) d (G rv (by rw[ok.pt];exact bg)))
   |none=>
   rw[q] at G;obtain⟨i,h3,h4⟩:=G;have al:=Jx h3;obtain⟨v,C,V',a4,d,hl⟩:=Nx M ok.kV hg r al;exact BP x a4 (NF al) (hK i N V' _ C hl (ak4 al) (alj al) d h4)
def axS{W:Type}{V X:List W}{m x:W}(h:x∈(V++X).dropLast):x∈(V++m::X).dropLast:=by
 rw[aKE (by simp)];cases X with
 |nil=>
  rw[aKf] at h;exact aJp _ ((aLU _).subset h)
 |cons y X=>
  rw[aKE (by simp)] at h;rcases aIM.1 h with h|h;exact aJp _ h;rw[List.dropLast_cons_cons];exact aKa _ (aJF _ h)
def axT(b5:Dz B A)(b6:Ti p k A){Kn:cV->aa->S->Prop}{Kp:cV->aa->SV->S->Prop}{Yp:cV->OM->bY->aa->S->Nat->ah->Prop}{F:Fence}(hF:pj F)(ok:kD p k){D:bQ}{Q:Exit->Act->World->Prop}(HP:∀ch l M pd y,dG p.w0 D pd y l.defers M->p.R (.panicked ch) M->Q (.panic ch) l M)(hC:JH B t)
  {s0:S}{O0:aa}{V0:ai}{L0:cV}
  (hk:∀G H C l M z,bF s0 O0 V0 G H C->cJ s0.aq L0 z->av p.S0 p.w0 D k.ty C H G l M->Kn z H G->Q .normal l M)
  (bt:∀v G H C l M z,bF s0 O0 V0 G H C->cJ s0.aq L0 z->av p.S0 p.w0 D k.ty C H G l M->Kp z H v G->Q (.panic [{v:=v.den H C,recovered:=E}]) l M)
  (hy:∀(L:cV)(m:OM)(bx:bY)(s:S)(O:aa)(V:ai)(a:Act)(W:World)(yn:Nat)(a9:ah)(g:Ending->World->Prop),bF s0 O0 V0 s O V->cJ s0.aq L0 L->av p.S0 p.w0 D k.ty V O s a W->ek k.gl O->Yp L m bx O s yn a9->
   (∀v G H C M z,bF s O V G H C->cJ s.aq L z->av p.S0 p.w0 D k.ty C H G a M->dC p k B A (Kn z) (Kp z) (Yp z) bx H (G.put m.o.dst v)->g (.returned (v.den H C)) M)->
   (∀v G H C M z,bF s O V G H C->cJ s.aq L z->av p.S0 p.w0 D k.ty C H G a M->Kp z H v G->g (.panicked [{v:=v.den H C,recovered:=E}]) M)->
   (∀ch M pd y,dG p.w0 D pd y a.defers M->p.R (.panicked ch) M->g (.panicked ch) M)->
   ∀(m:Nat),YieldAt F m p.P (O.y.getD yn 0) (SV.aA O V a9).toArray W g):
  ∀(al:Nat)(listed:Array Bool)(af:bY)(s:S)(O:aa)(V:ai)(a:Act)(W:World)(L:cV),Y af=al->NP B t listed af->(∀m∈af,m.dr=J)->(∀m∈af,∀N,m.o.op=.alloc N->FZ k N=J)->(af.Pairwise λa b=>fF a.o.op=J->fF b.o.op=J->a.ix≠b.ix)->(((∀m∈af,abl s m)/\(∀m∈af.dropLast,JG s m))\/(af.Pairwise λx y=>(t.getD y.j 0).testBit x.j=J))->bF s0 O0 V0 s O V->cJ s0.aq L0 L->av p.S0 p.w0 D k.ty V O s a W->ek k.gl O->dC p k B A (Kn L) (Kp L) (Yp L) af O s->
   wpAnyIn F X p.P .any B Q al listed a W:=by
 intro al;induction al with
 |zero=>
  intro listed af s O V a W L bb hW bf hZ b0 hA hl hL R hg h;have b7:af=[]:=aJe.1 bb;subst b7;refine⟨?_,hk s O V a W L hl hL R h⟩;cases hr:Region.ready .any B listed with
  |nil=>rfl
  |cons i r=>
   obtain⟨h1,o,ho,-⟩:=mem_ready.1 (show i∈Region.ready .any B listed by rw[hr];simp);have:=(hW.un i (aIX.1 ho).1).1 h1;obtain⟨m,hm,-⟩:=this;cases hm
 |succ al ih=>
  intro listed af s O V a W L bb hW bf hZ b0 hA hl hL R hg h;refine⟨λhr=> ?_,λi hi=> ?_⟩
  
  exfalso;cases af with
  |nil=>simp at bb
  |cons m ys=>
   have an:=hW.mem m (by simp);have:m.j∈Region.ready .any B listed:=by
    refine mem_ready.2 ⟨(hW.un m.j (aIX.1 an).1).2 ⟨m,by simp,rfl⟩,m.o,an,λe he hb=> ?_⟩;rcases hW.tp [] m ys rfl e.on (aln he hb) with h1|⟨x,w,-⟩;exact h1;cases w
   rw[hr] at this;cases this
  obtain⟨h1,o,ho,b8⟩:=mem_ready.1 hi;obtain⟨m,hm,rfl⟩:=(hW.un i (aIX.1 ho).1).1 h1;obtain⟨u,ys,rfl⟩:=aMc hm;have an:=hW.mem m hm;rw[an] at ho;cases ho;have hd:∀e∈j7 m.o,listed.getD e E=true:=λe he=>by
   obtain⟨ed,h2,h3,rfl⟩:=alo he;exact b8 ed h2 h3
  have b1:∀x∈u,¬(t.getD m.j 0).testBit x.j=true:=by
   intro x w h2;have ca:=hW.mem x (by simp[w]);have bg:x.j<B.size:=(aIX.1 ca).1;have h3:=axP hC hW m.j m.o an hd x.j bg h2;have h4:=(hW.un x.j bg).2 ⟨x,by simp[w],rfl⟩;have cc:x.j<listed.size:=by rw[hW.sz];exact bg
   simp[cc] at h3 h4;rw[h3] at h4;cases h4
  have b2:∀x∈u,sU B x m=true:=by
   intro x w;have cl:=(aI4.1 hW.pr).2.2 x w m (by simp);rcases cl with h2|h2;exact absurd h2 (b1 x w);exact h2
  have bk:=aI4.1 hW.ds;have a0:=aI4.1 b0;have hb:dC p k B A (Kn L) (Kp L) (Yp L) (m::(u++ys)) O s:=by
   rcases hA with⟨bl,hA⟩|hA;exact alm b5 u s O b2 (λx w=>hA x (by rw[aKE (by simp)];exact aJp _ w)) (bl m hm) bk.1 (λx w a1 bd e=>a0.2.2 x w m (by simp) a1 bd e.symm) (hZ m hm) R.ei R.eb R.er h;cases u with
   |nil=>exact h
   |cons x u=>exact absurd ((aI4.1 hA).2.2 x (by simp) m (by simp)) (b1 x (by simp))
  have b3:∀(G:S)(H:aa)(C:ai)(l:Act)(M:World)(z:cV),(((∀m∈u++ys,abl G m)/\(∀m∈(u++ys).dropLast,JG G m))\/((u++ys).Pairwise λx y=>(t.getD y.j 0).testBit x.j=J))->bF s0 O0 V0 G H C->cJ s0.aq L0 z->av p.S0 p.w0 D k.ty C H G l M->ek k.gl H->dC p k B A (Kn z) (Kp z) (Yp z) (u++ys) H G->wpAnyIn F X p.P .any B Q al (listed.setIfInBounds m.j J) l M:=
   λG H C l M z cp ag a3 g cs a4=>ih _ (u++ys) G H C l M z (by simp at bb⊢;omega) (axQ hW hd) (λx w=>bf x (by rcases aIM.1 w with q|q<;>simp[q])) (λx w=>hZ x (by rcases aIM.1 w with q|q<;>simp[q]))
    (aI4.2 ⟨a0.1,(aIV.1 a0.2.1).2,λa ha b hb=>a0.2.2 a ha b (by simp[hb])⟩) cp ag a3 g cs a4
  have ct:aMa (u++ys) (u++m::ys):=aKT (aK5 _) (aKH _ _);refine axR hF ok b6 HP hb R hg an (bf m hm) (λG H C l M ag cv cx g a4=> ?_) (λv hv=>bt v s O V a W L hl hL R hv) (λyn a9 hc b4 cy=> ?_);refine b3 G H C l M L ?_ (hl.trans ag) hL g (hg.ext ag.ext) a4;rcases hA with⟨bl,hA⟩|hA;left;refine⟨λx w a1=>cx x.ix (bl x (by rcases aIM.1 w with q|q<;>simp[q]) a1) (λbd=>by
   rcases aIM.1 w with q|q;exact a0.2.2 x q m (by simp) a1 bd;exact λe=>(aIV.1 a0.2.1).1 x q bd a1 e.symm),λx w=> ?_⟩
  intro d br;have cA:m.o.dst≠U d:=by
   rcases aIM.1 ((aLU _).subset w) with q|q;exact bk.2.2 x q m (by simp) d br;intro he;exact(aIV.1 bk.2.1).1 x q d he br
  exact abk ⟨by rw[<-R.ei,<-g.ei];exact ag.ext.li,by rw[<-R.eb,<-g.eb];exact ag.ext.lb,by rw[<-R.er,<-g.er];exact ag.ext.lr,ag.mono⟩ (cv d cA) (hA x (axS w) d br);exact .inr (hA.sublist ct);have cB:u=[]:=by
   cases u with
   |nil=>rfl
   |cons x u=>
    have:=(alk (b2 x (by simp))).2;rw[b4] at this;cases this
  subst cB;have cC:ys.Pairwise λx y=>(t.getD y.j 0).testBit x.j=true:=hW.so [] m ys rfl b4
  have hY:=hy L m ys s O V a W yn a9 (λe M=>match e with
    |.returned v=>wpAnyIn F X p.P .any B Q al (listed.setIfInBounds m.j J) (a.put m.o.dst v) M
    |.panicked ch=>Q (.panic ch) a M
    |.outgrown=>LetsOut Q) hl hL R hg cy
   (λv G H C M z ag a3 g a4=>b3 (G.put m.o.dst v) H C _ M z (.inr cC) (hl.trans (ag.put _ _)) (hL.trans a3 hl.aq) (g.put m.o.dst v) (hg.ext ag.ext) a4)
   (λv G H C M z ag a3 g hs=>bt v G H C a M z (hl.trans ag) (hL.trans a3 hl.aq) g hs)
   (λch M pd y hA hR=>HP ch a M pd y hA hR) (X-1)
  obtain⟨fn,c0,assign,body,cD,cI⟩:=hY;refine⟨λf _=>hF.fn f, ?_⟩;have cO:∀c,m.o.op≠ .defer c:=λc cW=>by simp[dA,cW] at hc
  rw[Oper.semAt_eq _ _ _ cO,akq R hg hc,cD];rw[Oper.uponIn_round];refine⟨λhd=>by rw[hF.xW] at hd;simp at hd,RoundIn.mono cI (λe M he=> ?_)⟩;cases e<;>exact he
end
def Tj:bR->Fence
 |none=>Fence.wide
 |U l=>Fence.wide.inRound l
def B3:∀i,pj (Tj i)
 |none=>axb
 |U l=>ako l
def axU:∀i,(Tj i).round=i
 |none=>rfl
 |U _=>rfl
def pj.room{F:Fence}(W:pj F)(n:Nat):F.room n:=λd X=>by rw[W.xW] at X;cases X
def jE(i:bR)(j:FuncId)(P:Program)(c:Code)(Q:Exit->Act->World->Prop)(a:Act)(w:World):Prop:=
 ∀(b:Frame)(k:List Item)(X:List Frame),b.roundOf=i->b.fn=j->
  ∃e W V,Q e W V/\ArrivesIn (Machine.fenced P Fence.wide) P (lone (b.atR a (.code c::k)) X w) b k X e W V
section
variable{i:bR}{j:FuncId}{P:Program}{Q:Exit->Act->World->Prop}{a:Act}{w:World}
def B4{c:Code}{n:Nat}(h:c.wpIn (Tj i) n P Q a w):jE i j P c Q a w:=by
 intro b k W V _;obtain⟨e,R,O,N,X⟩:=h b k W (V.trans (axU i).symm) ((B3 i).fn _) ((B3 i).room _);rw[(B3 i).eq] at X;exact⟨e,R,O,N,X⟩
def axV{c:Code}{X:Exit->Act->World->Prop}(h:jE i j P c Q a w)(W:∀e a w,Q e a w->X e a w):jE i j P c X a w:=
 λb k V R O=>let⟨e,N,M,q,r⟩:=h b k V R O;⟨e,N,M,W _ _ _ q,r⟩
def abn{x y:Code}(h:jE i j P x (Exit.then (jE i j P y Q) Q) a w):jE i j P (Code.seq x y) Q a w:=by
 intro b k N M L;have X:(lone (b.atR a (.code (.seq x y)::k)) N w).fenced P Fence.wide:=fenced_wide _ _;obtain⟨e,R,O,W,V⟩:=h b (.code y::k) N M L;cases e with
 |normal=>
  obtain⟨H,G,F,D,C⟩:=W b k N M L;exact⟨H,G,F,D,.of_steps (.head X stepR_seq V) C⟩
 |exit id=>exact⟨_,R,O,W,.of_steps (.one X stepR_seq) (.pass (x:=.code y) rfl (λ_ _=>.inl (by simp)) V)⟩
 |goto l=>exact⟨_,R,O,W,.of_steps (.one X stepR_seq) (.pass (x:=.code y) rfl (λ_ _=>.inl (by simp)) V)⟩
 |ret=>exact⟨_,R,O,W,.of_steps (.one X stepR_seq) (.pass (x:=.code y) rfl (λ_ _=>.inl (by simp)) V)⟩
 |panic B=>exact⟨_,R,O,W,.of_steps (.one X stepR_seq) (.pass (x:=.code y) rfl (λ_ _=>.inl (by simp)) V)⟩
 |outgrown=>exact⟨_,R,O,W,.of_steps (.one X stepR_seq) (.pass (x:=.code y) rfl (λ_ _=>.inl (by simp)) V)⟩
def axW{c:Code}(h:jE i j P c (Exit.inBlock X Q) a w):jE i j P (Code.block X c) Q a w:=by
 intro b k A z y;have W:(lone (b.atR a (.code (.block X c)::k)) A w).fenced P Fence.wide:=fenced_wide _ _;obtain⟨e,O,N,V,R⟩:=h b (.inBlock X::k) A z y;cases e with
 |normal=>exact⟨.normal,O,N,V,.head W stepR_block (StepsIn.trans R (.one (fenced_wide _ _) stepR_inBlock))⟩
 |exit L=>
  by_cases hid:L=X;simp only[Exit.inBlock,hid,if_true] at V;exact⟨.normal,O,N,V,.head W stepR_block (R.1 k (by simp[exitTo,hid]))⟩;simp only[Exit.inBlock,hid,if_false] at V;have this:(X==L)=false:=by simp;exact λh=>hid h.symm
  have H:exitTo L (.inBlock X::k)=exitTo L k:=by simp[exitTo,this]
  exact⟨.exit L,O,N,V,λG M=>.head W stepR_block (R.1 G (by rw[H];exact M)),
   λF M=>let⟨D,C,B⟩:=R.2 F (by rw[H];exact M);⟨D,C,.head W stepR_block B⟩⟩
 |goto l=>
  have H:gotoIn l (.inBlock X::k)=gotoIn l k:=by simp[gotoIn]
  exact⟨_,O,N,V,λG M=>.head W stepR_block (R.1 G (by rw[H];exact M)),
   λF M=>let⟨D,C,B⟩:=R.2 F (by rw[H];exact M);⟨D,C,.head W stepR_block B⟩⟩
 |ret=>exact⟨_,O,N,V,.of_steps (.one W stepR_block) R⟩
 |panic x=>exact⟨_,O,N,V,.of_steps (.one W stepR_block) R⟩
 |outgrown=>exact⟨_,O,N,V,.of_steps (.one W stepR_block) R⟩
def axX{c:Code}(h:jE i j P c (λe a w=>(∀l,e≠ .goto l)/\Q e a w) a w):jE i j P (Code.scope c) Q a w:=by
 intro b k X G F;have W:(lone (b.atR a (.code (.scope c)::k)) X w).fenced P Fence.wide:=fenced_wide _ _;have V:step P (lone (b.atR a (.code (.scope c)::k)) X w)=.next (lone (b.atR a (.code c::.inScope c::k)) X w):=step_lone_go (by simp[stepG,stepG.exec,Frame.atR])
 have D:∀a w,step P (lone (b.atR a (.inScope c::k)) X w)=.next (lone (b.atR a k) X w):=λa w=>step_lone_go (by simp[stepG,stepG.exec,Frame.atR])
 obtain⟨e,O,N,⟨C,M⟩,R⟩:=h b (.inScope c::k) X G F;cases e with
 |normal=>exact⟨.normal,O,N,M,.head W V (StepsIn.trans R (.one (fenced_wide _ _) (D _ _)))⟩
 |exit id=>
  have H:exitTo id (.inScope c::k)=exitTo id k:=by simp[exitTo]
  exact⟨.exit id,O,N,M,λB L=>.head W V (R.1 B (by rw[H];exact L)),λA L=>let⟨z,y,x⟩:=R.2 A (by rw[H];exact L);⟨z,y,.head W V x⟩⟩
 |goto l=>exact absurd rfl (C l)
 |ret=>exact⟨_,O,N,M,.of_steps (.one W V) R⟩
 |panic v=>exact⟨_,O,N,M,.of_steps (.one W V) R⟩
 |outgrown=>exact⟨_,O,N,M,.of_steps (.one W V) R⟩
def Tk{c:Operand}{x y:Code}{t:Bool}(X:a.eval c=.bool t)(h:jE i j P (if t then x else y) Q a w):jE i j P (Code.cond c x y) Q a w:=by
 intro b k W V R;obtain⟨e,O,N,M,L⟩:=h b k W V R;exact⟨e,O,N,M,.of_steps (.one (fenced_wide _ _) (stepR_cond X)) L⟩
def NQ(i:bR)(j:FuncId)(P:Program)(c:Code)(Q:Exit->Act->World->Prop):Nat->Act->World->Prop
 |0,_,_=>False
 |m+1,a,w=>jE i j P c (Exit.then (NQ i j P c Q m) Q) a w
def alp{c:Code}(m:Nat)(h:NQ i j P c Q m a w):jE i j P (Code.loop c) Q a w:=by
 intro b k O H G;have F:∀m a w,NQ i j P c Q m a w->
   ∃e M L,Q e M L/\ArrivesIn (Machine.fenced P Fence.wide) P (lone (b.atR a (.code c::.inLoop c::k)) O w) b k O e M L:=by
  intro m;induction m with
  |zero=>intro a w h;exact h.elim
  |succ m D=>
   intro a w h;obtain⟨e,X,W,V,R⟩:=h b (.inLoop c::k) O H G;have N:∀{e:Exit},e≠ .normal->ArrivesIn (Machine.fenced P Fence.wide) P (lone (b.atR a (.code c::.inLoop c::k)) O w) b (.inLoop c::k) O e X W->ArrivesIn (Machine.fenced P Fence.wide) P (lone (b.atR a (.code c::.inLoop c::k)) O w) b k O e X W:=
    λC B=>.pass (x:=.inLoop c) rfl (λ_ _=>.inl C) B
   cases e with
   |normal=>
    obtain⟨A,z,y,v,u⟩:=D X W V;exact⟨A,z,y,v,.of_steps (StepsIn.trans R (.one (fenced_wide _ _) stepR_inLoop)) u⟩
   |exit id=>exact⟨_,X,W,V,N (by simp) R⟩
   |goto l=>exact⟨_,X,W,V,N (by simp) R⟩
   |ret=>exact⟨_,X,W,V,N (by simp) R⟩
   |panic t=>exact⟨_,X,W,V,N (by simp) R⟩
   |outgrown=>exact⟨_,X,W,V,N (by simp) R⟩
 obtain⟨e,M,L,V,R⟩:=F m a w h;exact⟨e,M,L,V,.of_steps (.one (fenced_wide _ _) stepR_loop) R⟩
def axY{c:Code}(X:Nat->Act->World->Prop)(V:Nat)(L:X V a w)
  (round:∀n a w,X n a w->jE i j P c (Exit.then (λO M=>∃R,R<n/\X R O M) Q) a w):jE i j P (Code.loop c) Q a w:=by
 refine alp (V+1) ?_;have H:∀N n a w,n<N->X n a w->NQ i j P c Q N a w:=by
  intro N;induction N with
  |zero=>intro n a w h;omega
  |succ N G=>
   intro n a w C F;refine axV (round n a w F) ?_;intro e O M W;cases e with
   |normal=>
    obtain⟨R,B,D⟩:=W;exact G R O M (by omega) D
   |exit id=>exact W
   |goto l=>exact W
   |ret=>exact W
   |panic A=>exact W
   |outgrown=>exact W
 exact H (V+1) V a w (by omega) L
def abo(i:bR)(j:FuncId)(P:Program)(l:Nat)(Q:Exit->Act->World->Prop)(X:Act):Ending->World->Prop
 |.returned _,W=>∃R V,(Instr.endLoop l).run P W=.ok R V/\
   (match R with
    |none=>Q .normal X V
    |U c=>jE i j P c Q X V)
 |.panicked chain,W=>Q (.panic chain) X W
 |.outgrown,_=>False
def axZ{g:Operand}{W:Array Tmp}{assign body:Code}
  (h:∃(l:Nat)(mark:zI)(V:World)(d:Deferred)(R:World)(f:FuncId)(O:kN)(N:World),
   (Instr.enterLoop j a.tmps W assign body i).run P w=.ok (l,mark) V/\
   (resolve a.eval (rangeCall g l) 0).run P V=.ok d R/\
   (invoke d.target d.args).run P R=.ok (.enter f O) N/\
   Calls P f O N (abo i j P l Q {a with defers:=mark++a.defers})):
  jE i j P (Code.rangeFunc g W assign body) Q a w:=by
 intro b k X H G;obtain⟨l,mark,V,d,R,f,O,N,F,t,s,M⟩:=h;obtain⟨hF,M⟩:=(callsIn_wide (n:=0)).2 M;rw[<-H,<-G] at F;have D:(lone (b.atR a (.code (.rangeFunc g W assign body)::k)) X w).fenced P Fence.wide:=fenced_wide _ _;have C:=stepR_rangeFunc (P:=P) (b:=b) (a:=a) (k:=k) (cs:=X) (w:=w) F t s;obtain⟨e,r,fr,L,B,ag,A⟩:=M (b.atR {a with defers:=mark++a.defers} (.inRangeFunc l::k)::X) (room_wide _);cases e with
 |outgrown=>exact L.elim
 |returned v=>
  obtain⟨z,y,q,x⟩:=L;have u:StepsIn (Machine.fenced P Fence.wide) P (lone (b.atR a (.code (.rangeFunc g W assign body)::k)) X w) (lone (b.atR {a with defers:=mark++a.defers} ((z.map Item.code).toList++k)) X y):=by
   refine .head D C (StepsIn.trans B (.head (fenced_wide _ _) ?_ (.one (fenced_wide _ _) (stepR_endRangeFunc q))));rw[<-finish_atR_inRangeFunc l v];exact step_leave_returned A
  cases z with
  |none=>exact⟨.normal,_,y,x,u⟩
  |some c=>
   obtain⟨p,o,m,hq,af⟩:=x b k X H G;exact⟨p,o,m,hq,.of_steps u af⟩
 |panicked chain=>
  refine⟨.panic chain,_,r,L,.inRangeFunc l::k,.head D C (StepsIn.trans B (.one (fenced_wide _ _) ?_))⟩;rw[<-Frame.raise_atR];exact step_leave_panicked A
end
def NR{P:Program}{f:FuncId}{N:Func}{c:Code}{W:kN}{R:Ending->World->Prop}
  (A:P.funcs[f]?=U N)(t:N.body=U c)
  (h:jE Z f P c (bodyPostM Fence.wide 0 P N R) {tmps:=W++aLj (N.ntmps-W.size) undef,defers:=[]} b):Calls P f W b R:=by
 refine(callsIn_wide (n:=0)).1 ⟨trivial,λz x=> ?_⟩;let X:Frame:={(default:Frame) with fn:=f,kind:=.normal,roundOf:=Z};have s:Frame.enter P f W .normal=
   X.atR {tmps:=W++aLj (N.ntmps-W.size) undef,defers:=[]} [.code c]:=by
  simp[Frame.enter,Frame.atR,A,t,X]
 obtain⟨e,V,y,O,M⟩:=h X [] z rfl rfl;rw[<-s] at M;cases e with
 |normal=>
  obtain⟨L,H,G,F,D,C,B⟩:=leaves_stepsInM V.defers .returning y {X.atR V [] with mode:=.returning} z rfl rfl rfl A rfl trivial x O;exact⟨L,H,G,F,ComesIn.of_steps (StepsIn.trans M (.one (fenced_wide _ _) (stepR_end rfl))) D,C,B⟩
 |ret=>
  obtain⟨v,u⟩:=M.1 rfl;obtain⟨L,H,G,F,D,C,B⟩:=leaves_stepsInM V.defers .returning y {X.atR V v with mode:=.returning} z rfl rfl rfl A rfl trivial x O;exact⟨L,H,G,F,ComesIn.of_steps u D,C,B⟩
 |panic chain=>
  obtain⟨v,u⟩:=M;obtain⟨L,H,G,F,D,C,B⟩:=leaves_stepsInM V.defers (.panicking chain) y {X.atR V v with mode:=.panicking chain} z rfl rfl rfl A rfl trivial x O;exact⟨L,H,G,F,ComesIn.of_steps u D,C,B⟩
 |exit id=>exact O.elim
 |goto l=>exact O.elim
 |outgrown=>exact⟨.outgrown,y,X,O,M.resolve_left (by simp[X]),rfl,trivial⟩
def ax0(P:Program)(l:Nat)(R:Ending->World->Prop):Exit->Act->World->Prop
 |.normal,_,w=>∃v X,(Instr.endRound l Z).run P w=.ok v X/\R (.returned v) X
 |.ret,_,w=>∃v X,(Instr.endRound l (U .ret)).run P w=.ok v X/\R (.returned v) X
 |.exit id,_,w=>∃v X,(Instr.endRound l (U (.exit id))).run P w=.ok v X/\R (.returned v) X
 |.panic W,a,w=>a.defers=[]/\R (.panicked W) w
 |_,_,_=>False
def ax1{F:Fence}(p:pj F){P:Program}{l:Nat}{f:FuncId}{o:Func}{u:kN}{assign body:Code}{R:Ending->World->Prop}(k:P.funcs[f]?=U o)
  (h:jE (U l) f P assign (λe H G=>(e=.normal/\∃s,(Instr.beginRound l).run P G=.ok () s/\jE (U l) f P body (ax0 P l R) H s)\/∃A,e=.panic A/\H.defers=[]/\R (.panicked A) G)
   {tmps:=u,defers:=[]} b):
  RoundIn F X P l f u assign body b R:=by
 refine⟨p.fn f,λc N hr=> ?_⟩;let W:Frame:={(default:Frame) with fn:=f,kind:=.normal,roundOf:=U l};have j:Frame.round l f u assign body .normal=W.atR {tmps:=u,defers:=[]} [.code assign,.beginRound,.code body]:=by
  simp[Frame.round,Frame.atR,W]
 have an:(Fence.wide.inRound l).room ((c::N).length+1+X):=(ako l).room _;obtain⟨e,H,G,i,D⟩:=h W [.beginRound,.code body] (c::N) rfl rfl;rw[<-j] at D;rw[p.eq];have JI:∀(m:Machine)(C:Act)(M:World)(chain:List PanicEntry)(L:List Item),C.defers=[]->StepsIn (Machine.fenced P Fence.wide) P m (lone {W.atR C L with mode:=.panicking chain} (c::N) M)->StepsIn (Machine.fenced P Fence.wide) P m (lone (c.raise chain) N M):=by
  intro m C M chain L z V;have g:({W.atR C L with mode:=.panicking chain}:Frame).leaving P M (.panicked chain):=⟨rfl,z,o,k⟩;exact StepsIn.trans V (.one (fenced_wide _ _) (step_leave_panicked g))
 rcases i with⟨rfl,s,d,af⟩|⟨A,rfl,z,O⟩;have r:StepsIn (Machine.fenced P Fence.wide) P (lone (W.atR H [.beginRound,.code body]) (c::N) G) (lone (W.atR H [.code body]) (c::N) s):=
  .one (fenced_wide _ _) (stepR_beginRound rfl d)
 obtain⟨ag,C,M,B,q⟩:=af W [] (c::N) rfl rfl;cases ag with
 |normal=>
  obtain⟨v,y,x,O⟩:=B;exact⟨.returned v,y,O,(StepsIn.trans D r).trans (StepsIn.trans q (.one (fenced_wide _ _) (stepR_round_end rfl rfl x)))⟩
 |ret=>
  obtain⟨v,y,x,O⟩:=B;obtain⟨al,V⟩:=q.2 rfl;exact⟨.returned v,y,O,(StepsIn.trans D r).trans (StepsIn.trans V (.one (fenced_wide _ _) (stepR_round_ret rfl rfl x)))⟩
 |exit id=>
  obtain⟨v,y,x,O⟩:=B;obtain⟨al,hk,V⟩:=q.2 rfl rfl;exact⟨.returned v,y,O,(StepsIn.trans D r).trans (StepsIn.trans V (.one (fenced_wide _ _) (stepR_round_exit rfl rfl hk x)))⟩
 |goto t=>exact B.elim
 |panic chain=>
  obtain⟨z,O⟩:=B;obtain⟨L,V⟩:=q;exact⟨.panicked chain,M,O,JI _ C M chain L z ((StepsIn.trans D r).trans V)⟩
 |outgrown=>exact B.elim
 obtain⟨L,V⟩:=D;exact⟨.panicked A,G,O,JI _ H G A L z V⟩
mutual
def IE.dQ(O:aa)(y:ai):∀(e:IE),e.den (O.at y)=e.den O
 |.c n=>by simp[IE.den]
 |.v k=>by simp[IE.den,aa.at]
 |.bin o k a b=>by simp only[IE.den];rw[IE.dQ O y a,IE.dQ O y b]
 |.conv k a=>by simp only[IE.den];rw[IE.dQ O y a]
 |.len r=>by simp only[IE.den];rw[RE.kW O y r]
 |.mm m a b=>by simp only[IE.den];rw[IE.dQ O y a,IE.dQ O y b]
 |.cF b x z=>by simp only[IE.den];rw[BE.dQ O y b,IE.dQ O y x,IE.dQ O y z]
 |.cell r i j=>by simp only[IE.den];rw[RE.kW O y r,IE.dQ O y i]
 |.lT r i=>by simp only[IE.den];rw[RE.kW O y r,IE.dQ O y i]
 |.look r n a b c j=>by simp only[IE.den];rw[RE.kW O y r,IE.dQ O y a,IE.dQ O y b,IE.dQ O y c]
def BE.dQ(O:aa)(y:ai):∀(e:BE),e.den (O.at y)=e.den O
 |.c b=>by simp[BE.den]
 |.v k=>by simp[BE.den,aa.at]
 |.cmp o a b=>by simp only[BE.den];rw[IE.dQ O y a,IE.dQ O y b]
 |.not a=>by simp only[BE.den];rw[BE.dQ O y a]
 |.and a b=>by simp only[BE.den];rw[BE.dQ O y a,BE.dQ O y b]
 |.beq a b=>by simp only[BE.den];rw[BE.dQ O y a,BE.dQ O y b]
 |.cF b x z=>by simp only[BE.den];rw[BE.dQ O y b,BE.dQ O y x,BE.dQ O y z]
 |.cell r i j=>by simp only[BE.den];rw[RE.kW O y r,IE.dQ O y i]
 |.seq a b=>by simp only[BE.den];rw[RE.kW O y a,RE.kW O y b]
 |.look r n a b c j=>by simp only[BE.den];rw[RE.kW O y r,IE.dQ O y a,IE.dQ O y b,IE.dQ O y c]
 |.has r n a b c=>by simp only[BE.den];rw[RE.kW O y r,IE.dQ O y a,IE.dQ O y b,IE.dQ O y c]
def RE.kW(O:aa)(y:ai):∀(e:RE),e.rv (O.at y)=e.rv O
 |.v k=>by simp[RE.rv,aa.rv,aa.at]
 |.cell r i j k=>by simp only[RE.rv];rw[RE.kW O y r,IE.dQ O y i]
 |.k v=>by simp[RE.rv]
end
def SV.abp(O:aa)(y:ai)(v:SV):v.xv (O.at y)=v.xv O:=by
 cases v<;>simp[SV.xv,IE.dQ,BE.dQ,RE.kW]
def SV.ax2(O:aa)(y:ai)(v:SV):v.bN (O.at y)=v.bN O:=by
 cases v<;>simp[SV.bN,IE.dQ,BE.dQ,RE.kW]
def SV.Tl(O:aa)(y:ai):SV.bN (O.at y)=SV.bN O:=funext (SV.ax2 O y)
def LE.Gn(O:aa)(y:ai):∀(e:LE),e.rows (O.at y)=e.rows O
 |.ref r=>by simp only[LE.rows,RE.kW]
 |.lit l=>by simp only[LE.rows,SV.Tl]
 |.kz a b=>by simp only[LE.rows];rw[LE.Gn O y a,LE.Gn O y b]
 |.sM n R=>by simp only[LE.rows,SV.Tl,IE.dQ]
 |.set a i Q X=>by simp only[LE.rows,SV.Tl,IE.dQ];rw[LE.Gn O y a]
 |.sub a P N=>by simp only[LE.rows,IE.dQ];rw[LE.Gn O y a]
 |.ins a n X=>by simp only[LE.rows,SV.Tl];rw[LE.Gn O y a]
def NS:∀(X:aV)(O:aa)(y:ai),(O.at y).ext X=(O.ext X).at y
 |[],O,y=>rfl
 |x::X,O,y=>by
  simp only[aa.ext];rw[<-NS X (O.add x) y];cases x<;>rfl
def ax3{C:Ty}{X:LE}{R:bc}{y:ai}{Q:RV}(h:F7 C t b x X R (N.at y) Q):F7 C t b x X R N Q:=by
 obtain⟨P,M,L⟩:=h;rw[LE.Gn] at P;exact⟨P,M,L⟩
def rB(p:Sp):∀(t:T)(O:aa)(L:cV)(y:ai),t.aQ p O L->t.aQ p (O.at y) L
 |.out e s,O,L,y,h=>h
 |.ret v w M,O,L,y,h=>h
 |.bn v,O,L,y,h=>h
 |.node b t f,O,L,y,h=>by
  simp only[T.aQ,BE.dQ] at h⊢;exact⟨λQ=>rB p t O L y (h.1 Q),λQ=>rB p f O L y (h.2 Q)⟩
 |.bj b t,O,L,y,h=>by
  simp only[T.aQ,BE.dQ] at h⊢;exact⟨h.1,rB p t O L y h.2⟩
 |.call f ag w M u im t,O,L,y,h=>by
  simp only[T.aQ] at h⊢;intro q V W R;refine(h q V W R).mono ?_;intro e W' G;cases e with
  |returned v=>
   obtain⟨F,P,N,C,m,l⟩:=G;refine⟨F,P, ?_,C,m, ?_⟩;rw[NS];exact N;rw[NS];exact rB p t _ L y l
  |panicked ch=>exact G
  |outgrown=>exact G
 |.loop aq u x0 t,O,L,y,h=>by
  simp only[T.aQ] at h⊢;obtain⟨X,c,P,N⟩:=h;refine⟨X,c, ?_,λF hf hI=> ?_⟩;have:SV.xv (O.at y)=SV.xv O:=funext (SV.abp O y);rw[this];exact P;rw[NS];exact rB p t _ _ y (N F hf hI)
 |.back aq x,O,L,y,h=>by
  have:SV.xv (O.at y)=SV.xv O:=funext (SV.abp O y);simp only[T.aQ] at h⊢;rw[this];exact h
 |.new e x M al t,O,L,y,h=>by
  simp only[T.aQ] at h⊢;intro B af;exact rB p t (O.add (.r B)) L y (h B (ax3 af))
 |.rows k x M t,O,L,y,h=>by
  simp only[T.aQ] at h⊢;have:gz x (O.at y)=gz x O:=by simp only[gz,LE.Gn]
  rw[this];exact rB p t (O.add (.r (gz x O))) L y h
 |.gp g h' t f,O,L,y,h=>by
  simp only[T.aQ,BE.dQ] at h⊢;exact⟨λQ=>rB p t O L y (h.1 Q),λQ=>rB p f O L y (h.2 Q)⟩
 |.pick n g h' t f,O,L,y,h=>by
  simp only[T.aQ,IE.dQ,BE.dQ] at h⊢;refine⟨λj P N C=>rB p t (O.add (.i j)) L y (h.1 j P N ?_),λQ=>rB p f O L y (h.2 Q)⟩;have:=BE.dQ (O.add (.i j)) y g;rw[<-this];exact C
 |.dO f g e sp st r M t,O,L,y,h=>by
  simp only[T.aQ,RE.kW] at h⊢;obtain⟨A,P,N⟩:=h;refine⟨A, ?_,rB p t (O.add (.r (.mk (r.rv O).val A))) L y N⟩;rw[<-P];cases sp with
  |cn k o H=>
   have z:IE.den (O.at y)=IE.den O:=funext λe=>IE.dQ O y e
   cases st with
   |false=>simp only[jC,z]
   |true=>
    cases H with
    |nil=>rfl
    |cons i H=>
     cases H with
     |nil=>simp only[jC,z]
     |cons j H=>rfl
  |lex cs d=>rfl
  |ratio n d=>rfl
 |.stuck _,_,_,_,h=>h
mutual
def SV.NT{O:aa}{y:ai}{n:Nat}(X:∀m,m≠n->y.getD m 0=O.y.getD m 0)(V:ai):∀(v:SV),v.vV n=E->v.den (O.at y) V=v.den O V
 |.int _ e,_=>by simp only[SV.den,IE.dQ]
 |.bool e,_=>by simp only[SV.den,BE.dQ]
 |.ref e,_=>by simp only[SV.den,RE.den,RE.kW]
 |.loc i _,_=>rfl
 |.el r _ i _,_=>by simp only[SV.den,RE.den,RE.kW,IE.dQ]
 |.gY _ _ _ _,_=>rfl
 |.agg l,h=>by simp only[SV.den];rw[SV.JJ X V l h]
 |.bH l,h=>by simp only[SV.den];rw[SV.JJ X V l h]
 |.fn _ l,h=>by simp only[SV.den];rw[SV.JJ X V l h]
 |.fh _ x,h=>by simp only[SV.den];rw[SV.NT X V x h]
 |.yl m,h=>by
  simp only[SV.vV,beq_eq_false_iff_ne] at h;simp only[SV.den,aa.at];rw[X m h]
 |.any,_=>rfl
 |.mp _,_=>rfl
 |.eR e Q R,h=>by simp only[SV.den,IE.dQ];rw[SV.JJ X V R h]
def SV.JJ{O:aa}{y:ai}{n:Nat}(X:∀m,m≠n->y.getD m 0=O.y.getD m 0)(V:ai):∀(l:ah),SV.pf n l=E->SV.aA (O.at y) V l=SV.aA O V l
 |[],_=>rfl
 |x::R,h=>by
  simp only[SV.pf,aJh] at h;simp only[SV.aA];rw[SV.NT X V x h.1,SV.JJ X V R h.2]
end
def SV.ax4(R:∀m,m≠X->t.getD m 0=N.y.getD m 0)(V:ai)(v:SV)(h:v.vV X=E):v.gr (N.at t) V=v.gr N V:=by
 have Q:=SV.NT R V v h;cases v<;>simp only[SV.gr]<;>try rw[Q]
 exact RE.kW N t _
def SV.alq{O:aa}{y:ai}{n:Nat}(X:∀m,m≠n->y.getD m 0=O.y.getD m 0)(V:ai):∀(l:ah),SV.pf n l=E->SV.cL (O.at y) V l=SV.cL O V l
 |[],_=>rfl
 |x::R,h=>by
  simp only[SV.pf,aJh] at h;have:=SV.alq X V R h.2;simp only[SV.cL,aIP] at this⊢;rw[SV.ax4 X V x h.1,this]
def alr{n:Nat}:∀{l:ah},SV.pf n l=E->∀v∈l,v.vV n=E
 |[],_,v,h=>by cases h
 |x::R,h,v,X=>by
  simp only[SV.pf,aJh] at h;rcases aIK.1 X with rfl|X;exact h.1;exact alr h.2 v X
def abq{n:Nat}:∀{bx:bw},vW n bx=E->∀(i:Nat)(t:TypeId)(X:ah),bU bx i=U (t,X)->SV.pf n X=E
 |[],_,i,t,X,h=>by simp[cw] at h
 |Z::Q,R,0,t,X,h=>by simp[cw] at h
 |U x::Q,R,0,t,X,h=>by
  simp only[vW,aJh] at R;simp[cw] at h;rw[h] at R;exact R.1
 |Z::Q,R,i+1,t,X,h=>abq (bx:=Q) R i t X (by simpa[cw] using h)
 |U x::Q,R,i+1,t,X,h=>by
  simp only[vW,aJh] at R;exact abq (bx:=Q) R.2 i t X (by simpa[cw] using h)
section
variable{F:ai}{q:World}{D:bQ}{C:Ty}{V:ai}{O:aa}{s:S}{a:Act}{W:World}
def jB.at{P:bw}{M:bc}(R:jB F q V O P C M W)(L:∀m,m≠X->t.getD m 0=O.y.getD m 0)(H:vW X P=E):jB F q V (O.at t) P C M W:=
 ⟨R.base,R.own,R.inj,λi Q N h=>by rw[SV.alq L V N (abq H i Q N h)];exact R.box i Q N h,R.ref⟩
def ax5{w:World}(h:fk t b w)(P:b.heap.size<=X)(o:Obj):fk t b (w.putObj X o):=
 ⟨h.os,h.tape,h.output,by have:=h.size;simpa[World.putObj] using this,λk R Q=>(World.putObj_heap_other (by omega)).trans (h.block k R Q)⟩
def bu.cells{k:RK}{Q:RV}(h:bu W C k Q)(R:db C k Q X):∃M t L,W.heap[X]?=U (.cells M t L):=by
 induction h generalizing X with
 |sl e A H G P o n F m l g N=>
  cases R with
  |here e a H G P=>
   have B:P[0]?=U P[0]:=aIA (by omega);obtain⟨f,X,d,x,q3,-⟩:=F 0 _ B;cases x;exact q3
  |deep e v P i j w c z k X u r q p=>exact N i j w c z k u r q p
 |str s=>cases R
 |aI v h=>cases R
 |own e Q h hn N=>
  cases R with
  |own e Q X R=>exact N R
 |dead Q h=>cases R
 |mr sh P=>cases R
def jB.obj{M:bw}{L:bc}(R:jB F q V O M C L W){o:Obj}(H:W.heap[X]?=U o)(G:Jf o=J)(z:q.heap.size<=X)(B:Obj):jB F q V O M C L (W.putObj X B):=by
 have x:∀P Q t N,W.heap[P]?=U (.cells Q t N)->P≠X:=λP Q t N h e=>by subst e;rw[H] at h;cases h;exact ajs G _ _ _ rfl
 refine⟨ax5 R.base z B,R.own,R.inj,λi t Q h=> ?_,λk e w v u=> ?_⟩;have:=R.box i t Q h;rw[World.putObj_heap_other (λe=>by subst e;rw[H] at this;cases this;exact ajt G _ _ rfl)];exact this;obtain⟨A,r⟩:=R.ref k e w v u;refine⟨A.Jg (λP p=> ?_) (by simp[World.putObj]),r⟩;obtain⟨Q,t,N,n⟩:=A.cells p;exact World.putObj_heap_other (x _ _ _ _ n)
def xO.obj{R:bw}{Q:bc}{P:RV}{N:Nat}(h:xO F q V O R C Q W X x P N){b:Nat}{o:Obj}(L:W.heap[b]?=U o)(H:Jf o=J)(G:Obj):xO F q V O R C Q (W.putObj b G) X x P N:=by
 refine h.world (World.putObj_heap_other ?_);obtain⟨B,A,z,-,M,-⟩:=h.mem;intro x;subst x;rw[L] at M;cases M;exact ajs H _ _ _ rfl
def av.obj(R:av F q D C V O s a W){b:Nat}{o:Obj}(Q:W.heap[b]?=U o)(P:Jf o=J)(M:q.heap.size<=b)(X:Obj){D':bQ}{pd:sK}{a':Act}(N:a'.tmps=a.tmps)
  (L:dG q D' pd O.y a'.defers (W.putObj b X)):av F q D' C V O {s with pd:=pd} a' (W.putObj b X):=
 ⟨R.mem.obj Q P M X,R.fH,R.ei,R.eb,R.er,L,by rw[N];exact R.size,λt H h=>by rw[N];exact R.tmps t H h,λk e G B A z x=>(R.fl k e G B A z x).obj Q P X⟩
def p8:ai->World->World
 |[],W=>W
 |d::ms,W=>p8 ms (W.putObj d (.deferred Z))
def av.p8:∀{ms:ai}{a:Act}{W:World},av F q D C V O s a W->a.defers=ms.map kB++D.base->av F q D C V O s {a with defers:=D.base} (p8 ms W)
 |[],a,W,R,h=>by
  have:({a with defers:=D.base}:Act)=a:=by cases a;simp at h;subst h;rfl
  rw[this];exact R
 |d::ms,a,W,R,h=>by
  obtain⟨G,Q,B,M,L⟩:=R.cM.l9;have A:G=d::ms:=by
   rw[h] at Q;have Q:=aLE Q;have w:∀(l X:ai),l.map kB=X.map kB->l=X:=by
    intro l;induction l with
    |nil=>intro X h;cases X<;>simp at h;rfl
    |cons x f v=>
     intro X h;cases X with
     |nil=>simp at h
     |cons z u=>
      simp only[aIP,aJH,kB,Deferred.mk.injEq,Target.collected.injEq] at h;obtain⟨⟨rfl,-⟩,h⟩:=h;rw[v u h]
   exact(w _ _ Q).symm
  subst A;have P:=L d (by simp);have t:dG q D s.pd O.y (ms.map kB++D.base) (W.putObj d (.deferred Z)):=by
   refine⟨R.cM.len,R.cM.rm,λn l r p o m=> ?_,R.cM.inj,ms,rfl,λk=>(by have:=B k;cases this),(aKn.1 M).2,λj H=> ?_⟩;obtain⟨i,N,q3⟩:=R.cM.dB n l r p o m;exact⟨i,(World.putObj_heap_other (λe=>by subst e;rw[P.1] at N;cases N)).trans N,q3⟩;have:=L j (by simp only[aIF,aIK];exact .inr H);refine⟨(World.putObj_heap_other (λe=>by subst e;exact(aKn.1 M).1 H)).trans this.1,this.2⟩
  have g:=R.obj P.1 rfl P.2 (.deferred Z) (D':=D) (pd:=s.pd) (a':={a with defers:=ms.map kB++D.base}) rfl t;exact av.p8 (a:={a with defers:=ms.map kB++D.base}) (W:=W.putObj d (.deferred Z)) g rfl
def dG.p8:∀{ms:ai}{pd:sK}{y:ai}{W:World},dG q D pd y (ms.map kB++D.base) W->dG q D pd y D.base (p8 ms W)
 |[],pd,y,W,h=>h
 |d::ms,pd,y,W,h=>by
  obtain⟨L,R,H,P,N⟩:=h.l9;have G:L=d::ms:=by
   have R:=aLE R;have F:∀(l X:ai),l.map kB=X.map kB->l=X:=by
    intro l;induction l with
    |nil=>intro X h;cases X<;>simp at h;rfl
    |cons x m C=>
     intro X h;cases X with
     |nil=>simp at h
     |cons z B=>
      simp only[aIP,aJH,kB,Deferred.mk.injEq,Target.collected.injEq] at h;obtain⟨⟨rfl,-⟩,h⟩:=h;rw[C B h]
   exact(F _ _ R).symm
  subst G;have A:=N d (by simp);refine dG.p8 (ms:=ms) (W:=W.putObj d (.deferred Z)) ⟨h.len,h.rm,λn l r w v u=> ?_,h.inj,ms,rfl,λt=>(by have:=H t;cases this),(aKn.1 P).2,λp M=> ?_⟩;obtain⟨o,Q,q3⟩:=h.dB n l r w v u;exact⟨o,(World.putObj_heap_other (λe=>by subst e;rw[A.1] at Q;cases Q)).trans Q,q3⟩;have:=N p (by simp only[aIF,aIK];exact .inr M);exact⟨(World.putObj_heap_other (λe=>by subst e;exact(aKn.1 P).1 M)).trans this.1,this.2⟩
end
def NU{P:World->Prop}{B:Nat}(h:∀W b o,B<=b->P W->P (W.putObj b o)):∀{X:ai}{W:World},(∀d∈X,B<=d)->P W->P (p8 X W)
 |[],W,_,R=>R
 |d::X,W,Q,R=>NU (W:=W.putObj d (.deferred Z)) h (λx N=>Q x (by simp[N])) (h W d _ (Q d (by simp)) R)
def ta{P:Program}{Q:Func}{N:kN}{R:Ending->World->Prop}{u:FrameMode}{M:zI}(L:u≠ .run):∀{X:ai}{W:World},X.Nodup->(∀d∈X,W.heap[d]?=U (.deferred (U [])))->
  LeavesInM Fence.wide 0 P Q N R M u (p8 X W)->LeavesInM Fence.wide 0 P Q N R (X.map kB++M) u W
 |[],W,_,_,h=>h
 |d::X,W,F,H,h=>by
  obtain⟨C,B⟩:=aKn.1 F;refine⟨L,.inl ⟨d,_,rfl,run_takeDeferred (H d (by simp)),ta L B (λA G=> ?_) h⟩⟩;exact(World.putObj_heap_other (λe=>by subst e;exact C G)).trans (H A (by simp[G]))
section
variable{F:ai}{q:World}{D M:bQ}{C:Ty}{V:ai}{O:aa}{s:S}{a:Act}{W:World}{pd:sK}{y:ai}{H:zI}
def dG.enter(h:dG q D pd y H W)(X:(t++D.out).Nodup)(R:∀d∈t++D.out,W.heap[d]?=U (.deferred (U []))/\q.heap.size<=d)(Q:Bool):dG q ⟨t++D.out,D.dB,Q,[]⟩ pd y [] W:=
 ⟨h.len,h.rm,h.dB,h.inj,[],rfl,λ_=>rfl,X,R⟩
def dG.JI{X:ai}{Q:Bool}(h:dG q ⟨X++D.out,D.dB,Q,[]⟩ pd y [] W)(P:D.rd=J->X=[]):dG q D pd y (X.map kB++D.base) W:=by
 obtain⟨R,N,H,M,L⟩:=h.l9;have:R=[]:=by cases R<;>simp at N;rfl
 subst this;exact⟨h.len,h.rm,h.dB,h.inj,X,rfl,P,M,L⟩
def dG.push{l:Nat}{r:Loop}(h:dG q D pd y H W)(x:(t++D.out).Nodup)(w:∀X∈t++D.out,W.heap[X]?=U (.deferred (U []))/\q.heap.size<=X)
  (v:W.heap[X]?=U (.deferred (U [])))(u:X∉t++D.out)(p:q.heap.size<=X)(o:W.heap[l]?=U (.loop (pS r .ready)))(B:∀(n:Nat)(P:Nat)(G:Loop),D.dB[n]?=U (P,G)->P≠l)(m:q.heap.size<=l):
  dG q ⟨X::(t++D.out),D.dB++[(l,r)],E,[]⟩ (pd++[.ready]) (y++[l]) [] W:=by
 refine⟨by simp[h.len],by simp[h.rm],λn P G k Q R=> ?_,λn N P A z Q R=> ?_,[],rfl,λ_=>rfl,by simpa using⟨by simpa using u,x⟩,λj L=> ?_⟩;by_cases M:n<Y D.dB;rw[aIB M] at Q;rw[aIB (by rw[<-h.len];exact M)] at R;obtain⟨i,g,q3⟩:=h.dB n P G k Q R;exact⟨by rw[aIB (by rw[h.rm,<-h.len];exact M)];exact i,g,q3⟩;have F:n=Y D.dB:=by
  have:=(aIz.1 Q).1;simp at this;omega
 subst F;simp at Q;obtain⟨rfl,rfl⟩:=Q;rw[h.len] at R;simp at R;subst R;refine⟨?_,o,m⟩;rw[h.len,<-h.rm];simp;by_cases M:n<Y D.dB;rw[aIB M] at Q;by_cases C:N<Y D.dB;rw[aIB C] at R;exact h.inj n N P A z Q R;have F:N=Y D.dB:=by
  have:=(aIz.1 R).1;simp at this;omega
 subst F;simp at R;obtain⟨rfl,rfl⟩:=R;exact absurd rfl (B n _ A Q);have f:n=Y D.dB:=by
  have:=(aIz.1 Q).1;simp at this;omega
 subst f;simp at Q;obtain⟨rfl,rfl⟩:=Q;by_cases C:N<Y D.dB;rw[aIB C] at R;exact absurd rfl (B N _ z R);have:=(aIz.1 R).1;simp at this;omega;simp only[aIJ,aIK] at L;rcases L with rfl|L;exact⟨v,p⟩;exact w j L
def dG.pop{l:Nat}{r:Loop}(h:dG q ⟨X::(t++D.out),D.dB++[(l,r)],E,[]⟩ pd y [] W)(H:D.rd=E):dG q D (pd.take (Y D.dB)) (y.take (Y D.dB)) ((X::t).map kB++D.base) W:=by
 obtain⟨M,G,p,F,C⟩:=h.l9;have:M=[]:=by cases M<;>simp at G;rfl
 subst this;have B:=h.len;have o:=h.rm;simp at B;refine⟨by simp;omega,by simp;omega,λn N A z R Q=> ?_,λn x N w v R Q=> ?_,X::t,rfl,λL=>(by rw[H] at L;cases L),F,C⟩;have P:=(aIz.1 R).1;rw[aI6,if_pos P] at Q⊢;exact h.dB n N A z (by rw[aIB P];exact R) Q;have P:=(aIz.1 R).1;have u:=(aIz.1 Q).1;exact h.inj n x N w v (by rw[aIB P];exact R) (by rw[aIB u];exact Q)
def dG.put{r:Loop}(h:dG q D pd y H W)(L:W.heap[X]?=U (.loop r))(G:∀(n R:Nat)(Q:Loop),D.dB[n]?=U (R,Q)->R≠X)(o:Obj):dG q D pd y H (W.putObj X o):=by
 obtain⟨F,C,B,A,P⟩:=h.l9;refine⟨h.len,h.rm,λn R Q z M x=> ?_,h.inj,F,C,B,A,λd N=>⟨?_,(P d N).2⟩⟩;obtain⟨w,v,q3⟩:=h.dB n R Q z M x;exact⟨w,(World.putObj_heap_other (G n R Q M)).trans v,q3⟩;exact(World.putObj_heap_other (λe=>by subst e;have:=(P d N).1;rw[L] at this;cases this)).trans (P d N).1
def dG.abr{l:Nat}{r:Loop}(h:dG q D pd y H W)(R:D.dB[X]?=U (l,r))(C:Fy):dG q D (pd.set X C) y H (W.putObj l (.loop (pS r C))):=by
 obtain⟨x,w,v,u,M⟩:=h.l9;have B:X<Y pd:=by rw[<-h.len];exact(aIz.1 R).1
 have P:∃L,W.heap[l]?=U (.loop L):=⟨_,(h.dB X l r pd[X] R (aIA B)).2.1⟩;obtain⟨m,P⟩:=P;refine⟨by simp[h.len],by simp[h.rm],λA t L p N Q=> ?_,h.inj,x,w,v,u,λd G=>⟨?_,(M d G).2⟩⟩;rw[aJs] at Q;split at Q;rename_i e;subst e;rw[R] at N;cases N;simp only[aID] at Q;subst Q;obtain⟨F,z,q3⟩:=h.dB X l r pd[X] R (aIA B);exact⟨F,World.putObj_heap_same (zK P),q3⟩;rename_i e;obtain⟨F,z,q3⟩:=h.dB A t L p N Q;exact⟨F,(World.putObj_heap_other (λo=>by subst o;exact e (h.inj X A _ _ _ R N))).trans z,q3⟩;exact(World.putObj_heap_other (λe=>by subst e;have:=(M d G).1;rw[P] at this;cases this)).trans (M d G).1
def als{O:aa}{V:ai}:∀(R:ai)(N l:ah)(A:kN),A.size=Y l->(∀(t:Nat)(X:SV),l[t]?=U X->X=.any\/A[t]?=U (X.den O V))->
  ((R.zip (SV.aA O V N)).foldl (λ(M:kN)(x:Nat×Value)=>M.setIfInBounds x.1 x.2) A).size=(F1 R N l).length/\
  ∀(t:Nat)(X:SV),(F1 R N l)[t]?=U X->X=.any\/((R.zip (SV.aA O V N)).foldl (λ(M:kN)(x:Nat×Value)=>M.setIfInBounds x.1 x.2) A)[t]?=U (X.den O V)
 |[],N,l,A,Q,h=>by simp only[List.zip_nil_left,List.foldl_nil,F1];exact⟨Q,h⟩
 |p::R,[],l,A,Q,h=>by simp only[SV.aA,List.zip_nil_right,List.foldl_nil,F1];exact⟨Q,h⟩
 |p::R,v::L,l,A,Q,h=>by
  simp only[SV.aA,aKz,aJ2,F1];refine als R L (l.set p v) (A.setIfInBounds p (v.den O V)) (by simp[Q]) (λt X P=> ?_);rw[aJs] at P;split at P;rename_i e;subst e;split at P;rename_i H;cases P;right;rw[aKS (by rw[Q];exact H)];cases P;rename_i e;rw[aKd e];exact h t X P
end
section
variable{p:Sp}{cf:bz}
def NV(bC:Nat->Bool)(X W:Bool):∀(l:oo)(j n i:Nat)(m:OM),(f9 bC X W j n l)[i]?=U m->l[i]?=U m.o
 |[],j,n,i,m,h=>by simp[f9] at h
 |o::r,j,n,0,m,h=>by simp[f9] at h;simp[<-h]
 |o::r,j,n,i+1,m,h=>by simp[f9] at h;simpa using NV bC X W r _ _ i m h
def abs(bC:Nat->Bool)(X W:Bool):∀(l:oo)(j n:Nat),(f9 bC X W j n l).length=Y l
 |[],j,n=>rfl
 |o::r,j,n=>by simp[f9,abs bC X W r]
def abt(bC:Nat->Bool)(X W:Bool):∀(l:oo)(j n i:Nat)(m:OM),(f9 bC X W j n l)[i]?=U m->m.j=j+i
 |[],j,n,i,m,h=>by simp[f9] at h
 |o::r,j,n,0,m,h=>by simp[f9] at h;simp[<-h]
 |o::r,j,n,i+1,m,h=>by simp[f9] at h;have:=abt bC X W r _ _ i m h;omega
def abu(bC:Nat->Bool)(W X:Bool):∀(l:oo)(j n i:Nat)(m:OM),(f9 bC W X j n l)[i]?=U m->m.dr=X
 |[],j,n,i,m,h=>by simp[f9] at h
 |o::r,j,n,0,m,h=>by simp[f9] at h;simp[<-h]
 |o::r,j,n,i+1,m,h=>by simp[f9] at h;exact abu bC W X r _ _ i m h
structure alu(m m':OM):Prop where
 o:m.o=m'.o
 ix:m.ix=m'.ix
 j:m.j=m'.j
 dr:m.dr=m'.dr
def abv{V:ai}:∀{l X:bY}{m:OM},m∈sW V X l->∃W∈l,alu m W
 |[],X,m,h=>by simp[sW] at h
 |x::l,X,m,h=>by
  simp only[sW,aIK] at h;rcases h with rfl|h;exact⟨x,by simp,rfl,rfl,rfl,rfl⟩;obtain⟨W,R,Q⟩:=abv h;exact⟨W,by simp[R],Q⟩
def alv{X:ai}:∀{l:bY},zE X l=J->l.Pairwise λx y=>(X.getD y.j 0).testBit x.j=J
 |[],_=>aJt
 |x::r,h=>by
  simp only[zE,aIy] at h;exact aIV.2 ⟨λy W=>aIN.1 h.1 y W,alv h.2⟩
def alw{X:ai}:∀{l W:bY},(l.Pairwise λx y=>(X.getD y.j 0).testBit x.j=J)->(sW X W l).Pairwise λx y=>(X.getD y.j 0).testBit x.j=J
 |[],W,_=>aJt
 |x::r,W,h=>by
  obtain⟨V,R⟩:=aIV.1 h;refine aIV.2 ⟨λy Q=> ?_,alw R⟩;obtain⟨P,O,N⟩:=abv Q;rw[N.j];exact V P O
def alx{Q:ai}:∀{l W:bY}(R:bY)(m:OM)(X:bY),sW Q W l=R++m::X->m.so=J->X.Pairwise λx y=>(Q.getD y.j 0).testBit x.j=J
 |[],W,R,m,X,h,_=>by cases R<;>simp[sW] at h
 |x::r,W,[],m,X,h,V=>by
  simp only[sW,aIJ,aJH] at h;obtain⟨P,rfl⟩:=h;subst P;simp only[aIy] at V;exact alw (aIV.1 (alv V.1.2)).2
 |x::r,W,z::O,m,X,h,V=>by
  simp only[sW,aIF,aJH] at h;exact alx O m X h.2 V
def abw:∀{l:ai},ly l=J->l.Pairwise (·≠·)
 |[],_=>aJt
 |x::W,h=>by
  simp only[ly,aIy,aIR] at h;refine aIV.2 ⟨λy X e=> ?_,abw h.2⟩;subst e;rw[aI9.2 X] at h;cases h.1
def Tm:∀{l:bY},ly (l.filterMap (·.o.dst))=J->l.Pairwise λa b=>∀d,a.o.dst=U d->b.o.dst≠U d
 |[],_=>aJt
 |x::V,h=>by
  cases W:x.o.dst with
  |none=>
   simp only[aKU,W] at h;exact aIV.2 ⟨λy _ d X=>(by rw[W] at X;cases X),Tm h⟩
  |some d=>
   simp only[aKU,W,ly,aIy,aIR] at h;refine aIV.2 ⟨λy R e X Q=> ?_,Tm h.2⟩;rw[W] at X;cases X;have:d∈V.filterMap (·.o.dst):=aJN.2 ⟨y,R,Q⟩;rw[aI9.2 this] at h;cases h.1
def aly{X:cT}{W:ai}:∀{l:bY},Di X W l=J->l.Pairwise λx y=>(W.getD y.j 0).testBit x.j=J\/sU X x y=J
 |[],_=>aJt
 |x::R,h=>by
  simp only[Di,aIy] at h;refine aIV.2 ⟨λy V=> ?_,aly h.2⟩;have:=aIN.1 h.1 y V;simpa using this
def alz{Q:cT}:∀{l:bY}{done:ai},Dj Q done l=J->(∀m∈l,Q[m.j]?=U m.o)->∀X m V,l=X++m::V->∀e∈j7 m.o,e∈done\/∃x∈X,x.j=e
 |[],done,_,_,X,m,V,h=>by cases X<;>simp at h
 |x::l,done,R,P,X,m,V,h=>by
  simp only[Dj,aIy] at R;intro e O;cases X with
  |nil=>
   simp only[aIJ,aJH] at h;obtain⟨rfl,-⟩:=h;rw[P x (by simp)] at R;exact .inl (aI9.1 (aIN.1 R.1 e O))
  |cons z N=>
   simp only[aIF,aJH] at h;obtain⟨rfl,h⟩:=h;rcases alz R.2 (λm M=>P m (by simp[M])) N m V h e O with W|⟨y,L,W⟩;rcases aIK.1 W with rfl|W;exact .inr ⟨x,by simp,rfl⟩;exact .inl W;exact .inr ⟨y,by simp[L],W⟩
def alA{X:cT}(h:R7 X.toList t=J):JH X t:=by
 have P:∀(j:Nat)(o:Oper),X[j]?=U o->(∀e∈j7 o,e<j)/\∀i,i<X.size->(t.getD j 0).testBit i=J->i∈j7 o\/∃e∈j7 o,(t.getD e 0).testBit i=true:=by
  intro j o W;have O:j<X.size:=(aIX.1 W).1;have R:=aIN.1 h j (by simpa using O);have N:X.toList[j]?=U o:=by simpa using W
  rw[N] at R;simp only[aIy] at R;refine⟨λe Q=>by simpa using aIN.1 R.1 e Q,λi M L=> ?_⟩;have V:=aIN.1 R.2 i (by simpa using M);simp only[L,aKx,aL3,aIZ] at V;rcases V with V|V;exact .inl (aI9.1 V);obtain⟨e,Q,H⟩:=aI7.1 V;exact .inr ⟨e,Q,H⟩
 exact⟨λj o W=>(P j o W).1,λj o W=>(P j o W).2⟩
def uA(X:ai):∀(l:ah)(n i:Nat),(rg X n l)[i]?=(l[i]?).map λx=>if X.contains (n+i) then .any else x
 |[],n,i=>by simp[rg]
 |x::W,n,0=>by simp[rg]
 |x::W,n,i+1=>by
  simp only[rg,aJa];rw[uA X W (n+1) i,show n+1+i=n+(i+1) by omega]
def JK(X:ai):∀(l:ah)(n:Nat),(rg X n l).length=Y l
 |[],n=>rfl
 |x::W,n=>by simp[rg,JK X W]
def alB:∀{l:oo}{o:Oper}{t:TypeId},IQ cf l=J->o∈l->o.op=.alloc t->FZ cf t=J
 |[],o,t,_,h,_=>by simp at h
 |x::V,o,t,h,X,W=>by
  simp only[IQ,aIy] at h;rcases aIK.1 X with rfl|X;have:=h.1;rw[W] at this;exact this;exact alB h.2 X W
def abx:∀{l:bY},ly ((l.filter λm=>fF m.o.op).map (·.ix))=J->l.Pairwise λa b=>fF a.o.op=J->fF b.o.op=J->a.ix≠b.ix
 |[],_=>aJt
 |x::R,h=>by
  by_cases X:fF x.o.op=J;rw[List.filter_cons_of_pos (by simpa using X),aIP,ly,aIy] at h;refine aIV.2 ⟨λy W _ Q e=> ?_,abx h.2⟩;have:x.ix∈(R.filter λm=>fF m.o.op).map (·.ix):=aI3.2 ⟨y,aJj.2 ⟨W,by simpa using Q⟩,e.symm⟩;have V:=h.1;rw[aI9.2 this] at V;cases V;rw[List.filter_cons_of_neg (by simpa using X)] at h;exact aIV.2 ⟨λy W P=>absurd P X,abx h⟩
def ax6(bC:Nat->Bool)(W V:Bool)(R:bw):∀(l:oo){i:Nat}{m:OM},fF m.o.op=J->(f9 bC W V 0 (Y R) l)[i]?=U m->fj (R++aIL (lx l) Z) m.ix=true:=by
 have P:∀(l:oo)(j n i:Nat)(m:OM),fF m.o.op=J->(f9 bC W V j n l)[i]?=U m->n<=m.ix/\m.ix<n+lx l:=by
  intro l;induction l with
  |nil=>intro j n i m _ h;simp[f9] at h
  |cons o r O=>
   intro j n i m X h;have Q:lx (o::r)=(if fF o.op then 1 else 0)+lx r:=by
    unfold lx;rw[List.filter_cons];split<;>simp<;>omega
   cases i with
   |zero=>
    simp only[f9,aJr,aID] at h;subst h;simp only at X⊢;rw[Q,if_pos X];omega
   |succ i=>
    simp only[f9,aJa] at h;have:=O _ _ i m X h;rw[Q];split at this<;>simp_all<;>omega
 intro l i m X h;obtain⟨N,M⟩:=P l 0 _ i m X h;unfold fj;rw[aIH N,aJD,if_pos (by omega)]
def DD(p:Sp)(cf:bz)(x:List (Nat×Loop))(B:kC)(w:YH):Prop:=
 ∀(D:bQ)(_:D.dB=x)(L:cV)(n:Nat)(C:ah)(s:S)(k A:SV->S->T)(O:aa)(V:ai)(a:Act)(W:World)(G:Ending->World->Prop),B.pZ s O V L->
  (w n C s k A).aQ p O L->av p.S0 p.w0 D cf.ty V O s a W->ek cf.gl O->
  (∀v N X M Q H,bF s O V N X M->cJ s.aq L H->av p.S0 p.w0 D cf.ty M X N a Q->(k v N).aQ p X H->G (.returned (v.den X M)) Q)->
  (∀v N X M Q H,bF s O V N X M->cJ s.aq L H->av p.S0 p.w0 D cf.ty M X N a Q->(A v N).aQ p X H->G (.panicked [{v:=v.den X M,recovered:=E}]) Q)->
  (∀z Q u y,dG p.w0 D u y a.defers Q->p.R (.panicked z) Q->G (.panicked z) Q)->
  ∀(F:Fence)(_:pj F)(m:Nat),YieldAt F m p.P (O.y.getD n 0) (SV.aA O V C).toArray W G
def Gp(X:List (Nat×Loop))(B:kC):DD p cf X B iF:=λ_ _ _ _ _ _ _ _ _ _ _ _ _ _ h=>h.elim
def ax7{F:Fence}(hF:pj F)(ok:kD p cf){pc:vT}(a9:Ti p cf pc){D:bQ}{B:kC}{yh:YH}(hY:DD p cf D.dB B yh){Q:Exit->Act->World->Prop}(HP:∀ch l A pd y,dG p.w0 D pd y l.defers A->p.R (.panicked ch) A->Q (.panic ch) l A){G:cT}{id:Nat}{u:bY}{a:Act}{L:cV}{k:XE->S->T}(hB:B.pZ R N t L)
  (af:IP G (Y R.boxes)=U u)(bb:IQ cf G.toList=J)(bf:Dz G pc)(h:(mw cf (xM cf pc yh) G (k .normal) (λv=>k (.bn v)) u (R.zF G u) []).aQ p N L)(M:av p.S0 p.w0 D cf.ty t N R a b)(hg:ek cf.gl N)
  (hk:∀r z g l A f,bF R N t r z g->cJ R.aq L f->av p.S0 p.w0 D cf.ty g z r l A->(k .normal r).aQ p z f->Q .normal l A)
  (bg:∀v r z g l A f,bF R N t r z g->cJ R.aq L f->av p.S0 p.w0 D cf.ty g z r l A->(k (.bn v) r).aQ p z f->Q (.panic [{v:=v.den z g,recovered:=E}]) l A):
  (Code.region id G J).wpIn F X p.P Q a b:=by
 unfold IP at af;simp only at af;split at af;rename_i hc;simp only[aIy,beq_iff_eq] at hc;obtain⟨⟨⟨⟨⟨⟨⟨c1,c2⟩,c3⟩,c4⟩,c5⟩,c8⟩,c6⟩,c7⟩:=hc;simp only[aID] at af;rw[af] at c2 c3 c4 c5 c6 c7 c8;have an:∀m∈u,∃(i:Nat)(m':OM),(f9 (M6 G.toList (nO G.toList)) E J 0 (Y R.boxes) G.toList)[i]?=U m'/\alu m m':=by
  intro m C;rw[<-af] at C;obtain⟨m',h1,h2⟩:=abv C;rw[IN] at h1;obtain⟨i,-,q⟩:=aJN.1 h1;exact⟨i,m',q,h2⟩
 have a1:∀m∈u,G[m.j]?=U m.o:=by
  intro m C;obtain⟨i,m',q,w⟩:=an m C;have h1:=NV _ _ _ _ _ _ _ _ q;have h2:=abt _ _ _ _ _ _ _ _ q;rw[w.j,w.o,h2,aI8];simpa using h1
 have hW:NP G (nO G.toList) (aLj G.size E) u:=by
  refine⟨a1,λi q=> ?_,by simp,λj o ho hj=> ?_,aly c3,λxs m ys he e hd=> ?_, ?_,Tm c4,λxs m ys he bk=>alx xs m ys (af.trans he) bk⟩;constructor;intro _;have:=aIN.1 c7 i (by simpa using q);obtain⟨m,C,hj⟩:=aI7.1 this;exact⟨m,C,by simpa using hj⟩;intro _;simp[q];exfalso;have bl:j<G.size:=(aIX.1 ho).1;simp[bl] at hj;rcases alz c2 a1 xs m ys he e hd with h1|h1;cases h1;exact .inr h1;have:=abw c5;rw[aLx] at this;exact this
 obtain⟨Rr,al⟩:=M.room (lx G.toList);have Rb:av p.S0 p.w0 D cf.ty (t++aIL (lx G.toList) 0) N (R.zF G u) a {b with drawn:=b.drawn+1}:=by
  have Rd:=Rr.drew;refine⟨Rd.mem,Rd.fH,Rd.ei,Rd.eb,Rd.er,Rd.cM,by simp only[S.zF,JK];exact Rr.size,λH sv c=> ?_,Rd.fl⟩;simp only[S.zF] at c;rw[uA,aI8] at c;cases hx:R.tmps[H]? with
  |none=>rw[hx] at c;cases c
  |some x=>
   rw[hx] at c;simp only[aII,aID] at c;split at c;exact .inl c.symm;subst c;exact Rd.tmps H x hx
 have a3:bF R N t (R.zF G u) N (t++aIL (lx G.toList) 0):=⟨al.ext,al.mono,al.len,al.aq⟩;refine wpIn_region_any ok.mix ?_;refine axT bf a9 hF ok HP (alA c1) (Kn:=DA p (k .normal)) (Kp:=BU p (λv=>k (.bn v))) (Yp:=BV p cf G pc yh (k .normal) (λv=>k (.bn v))) (s0:=R.zF G u) (O0:=N) (V0:=t++aIL (lx G.toList) 0) (L0:=L)
  (λr z g l A f hl hL R' w=>hk r z g l A f (a3.trans hl) hL R' w) (λv r z g l A f hl hL R' w=>bg v r z g l A f (a3.trans hl) hL R' w)
  ?_
  G.size _ u (R.zF G u) N _ a _ L c6 hW (λm C=>by
   obtain⟨i,m',q,w⟩:=an m C;rw[w.dr];exact abu _ _ _ _ _ _ _ _ q) (λm C H c=> ?_) (abx c8) (.inl ⟨λm C br=> ?_, ?_⟩) (bF.refl _ _ _) (cJ.refl _ _) Rb hg ?_
 intro L2 m bs s2 O2 V2 a2 W2 yn bt R' hl hL R2 bx b0 b1 b2 b3 mm;obtain⟨b4,fx,b5,b6⟩:=b0;refine hY D rfl L2 yn bt s2 _ _ O2 V2 a2 W2 R' (hB.go (a3.trans hl) hL) b6 R2 bx (λv r z g A f a4 b7 Rn w=> ?_) b2 b3 F hF mm;refine b1 v r z g A f a4 b7 Rn ?_;have ag:=eM r m.o.dst v;refine Gj ok.pt bs _ _ z (by rw[ag.1];exact Rn.ei) (by rw[ag.2.1];exact Rn.eb) (by rw[ag.2.2];exact Rn.er) w ?_ b4;intro x hx;obtain⟨b8,cc⟩:=aJj.1 hx;obtain⟨hd,a0⟩:=b5 x b8;have hE:=a4.ext;refine⟨by rw[BE.dg hE.agree _ (by rw[R2.ei,R2.eb,R2.er];exact a0)];exact hd, ?_⟩;rw[ag.1,ag.2.1,ag.2.2,<-Rn.ei,<-Rn.eb,<-Rn.er];exact BE.du (by rw[<-R2.ei];exact hE.li) (by rw[<-R2.eb];exact hE.lb) (by rw[<-R2.er];exact hE.lr) _ a0;have h1:=a1 m C;exact alB bb (aIW (show G.toList[m.j]?=U m.o by simpa using h1)) c;obtain⟨i,m',q,w⟩:=an m C;rw[w.ix];exact ax6 _ _ _ R.boxes _ (by rw[<-w.o];exact br) q;intro m C d hd;have ca:d∈Dk (u.dropLast.map (·.o)):=aJN.2 ⟨m.o,aI3.2 ⟨m,C,rfl⟩,hd⟩;unfold wh;simp only[S.zF];rw[uA,aI8];cases hx:R.tmps[d]? with
 |none=>exact .inl rfl
 |some x=>
  right;by_cases hb:(aiQ R (Dk (u.dropLast.map (·.o)))).contains d=J;exact⟨.any,by simp only[aII,hb,if_true],by simp[SV.aS]⟩;refine⟨x,by simp only[aII,hb];rfl, ?_⟩;have a0:x.bd R.ni R.nb (Y R.rs) (aL R.boxes)=true:=by
   cases hh:x.bd R.ni R.nb (Y R.rs) (aL R.boxes);exfalso;apply hb;exact aI9.2 (aJj.2 ⟨ca,by simp[hx,hh]⟩);rfl
  exact SV.du (aIG _) (aIG _) (aIG _) al.mono _ a0
 refine Gj ok.pt u _ [] N Rb.ei Rb.eb Rb.er h (λx hx=>by cases hx) (λm C=> ?_);obtain⟨i,m',q,w⟩:=an m C;rw[w.dr];exact abu _ _ _ _ _ _ _ _ q;cases af
def yb(p:Sp)(cf:bz)(n:Nat):Prop:=
 ∀(D:bQ)(B:kC)(A:YH)(H:bR)(G:FuncId)(c:Code)(s:S)(k:XE->S->T)(L:cV)(O:aa)(V:ai)(a:Act)(W:World)(Q:Exit->Act->World->Prop),
  DD p cf D.dB B A->B.pZ s O V L->D.rd=H.isSome->(H.isSome=J->i7 c=E)->(∃w,p.P.funcs[G]?=U w)->
  (eS cf n G c s A k).aQ p O L->av p.S0 p.w0 D cf.ty V O s a W->ek cf.gl O->
  (∀z N X v y,dG p.w0 D v y N.defers X->p.R (.panicked z) X->Q (.panic z) N X)->
  (∀e F M C N X x,bF s O V F M C->cJ s.aq L x->av p.S0 p.w0 D cf.ty C M F N X->(k e F).aQ p M x->Q (e.to M C) N X)->
  jE H G p.P c Q a W
def Tn(p:Sp)(cf:bz)(n:Nat):Prop:=
 ∀(D:bQ)(B:kC)(A:YH)(G:bR)(M:FuncId)(x:Code)(s:S)(k:XE->S->T)(L:cV)(O:aa)(V:ai)(a:Act)(W:World)(Q:Exit->Act->World->Prop),
  DD p cf D.dB B A->B.pZ s O V L->D.rd=G.isSome->(G.isSome=J->i7 x=E)->(∃v,p.P.funcs[M]?=U v)->
  (∀u,(Code.first x).map (cf.loop M)≠U (.inv u))->
  (eS cf n M (.loop x) s A k).aQ p O L->av p.S0 p.w0 D cf.ty V O s a W->ek cf.gl O->
  (∀z N X t y,dG p.w0 D t y N.defers X->p.R (.panicked z) X->Q (.panic z) N X)->
  (∀e F H C N X w,bF s O V F H C->cJ s.aq L w->av p.S0 p.w0 D cf.ty C H F N X->(k e F).aQ p H w->Q (e.to H C) N X)->
  NQ G M p.P x Q n a W
def ax8(d:yb p cf X)(c:Tn p cf X):Tn p cf (X+1):=by
 intro D B o r q x s k L O V a W Q m l j i g b h R f HP F;unfold eS at h;simp only at h;show jE r q p.P x _ a W;refine d D B o r q x s _ L O V a W _ m l j i g h R f (λch M H pd y hd hR=>HP ch M H pd y hd hR) ?_;intro e C A z M H w N G u t;cases e with
 |normal=>exact c D B o r q x C k w A z M H Q m (l.go N G) j i g b t u (f.ext N.ext) HP (λe2 s2 O2 V2 a2 W2 L2 af ag R2 al=>F e2 s2 O2 V2 a2 W2 L2 (N.trans af) (G.trans ag N.aq) R2 al)
 |ret=>exact F .ret C A z M H w N G u t
 |exit id=>exact F (.exit id) C A z M H w N G u t
 |bn v=>exact F (.bn v) C A z M H w N G u t
def av.back{D x:bQ}{V L:ai}{M:aa}{C H:S}{a w:Act}{W G:World}(X:av t b D cf.ty V N R a W)(v:R.bd=J)
  (u:bF C N V H M L)(r:C.boxes=R.boxes)(P:av t b x cf.ty L M H w G){D2:bQ}{a2:Act}{B:sK}(A:a2.tmps=a.tmps)(q:dG b D2 B M.y a2.defers G):av t b D2 cf.ty L M {H with tmps:=R.tmps,pd:=B} a2 G:=by
 obtain⟨o,-⟩:=X.xQ v;refine⟨P.mem,P.fH,P.ei,P.eb,P.er,q,by rw[A];exact X.size,λQ n h=> ?_,P.fl⟩;rw[A];rcases X.tmps Q n h with F|F;exact .inl F;right;have z:=u.ext;rw[r] at z;rw[z.den (ux o h)];exact F
def av.enter{D M:bQ}{V:ai}{a:Act}{W:World}(X:av t b D cf.ty V N R a W)(P:ah)(n:Nat)(H:dG b M R.pd N.y [] W):
  av t b M cf.ty V N {R with tmps:=P++aIL (n-Y P) (.bH [])} {tmps:=(SV.aA N V P).toArray++aLj (n-(SV.aA N V P).toArray.size) undef,defers:=[]} W:=by
 refine⟨X.mem,X.fH,X.ei,X.eb,X.er,H,by simp,λQ F h=> ?_,X.fl⟩;right;simp only[aJZ,F6];by_cases L:Q<Y P;rw[aIB L] at h;rw[aLu (by simpa using L)];simp[rk,h];rw[aIH (by omega),aJD] at h;split at h;rename_i G;cases h;rw[Array.getElem?_append_right (by simp;omega)];simp only[aJZ,F6,Array.getElem?_replicate];rw[if_pos G];rfl;cases h
def To(H:kD p cf)(hC:yb p cf X){D:bQ}{B:kC}{yh:YH}(hY:DD p cf D.dB B yh):SU p cf D B (jy cf (λf c s k=>eS cf X f c s yh k) yh):=by
 intro L g0 A s k kp O V a W z G h R t j af i;cases g0 with
 |yl yn=>exact λF hF m=>hY D rfl L yn A s k kp O V a W z G h R t j af i F hF m
 |fn g=>
 unfold jy at h;simp only at h;split at h;rename_i c nt rs b;refine⟨H.BS g (.inr (by rw[b];rfl)), ?_⟩;split at h;rename_i hb;simp only[S.dZ,aIy] at hb;obtain⟨fn,hf,an,a0,a1⟩:=H.inl g c nt rs b;refine NR hf an ?_;obtain⟨ms,m1,m0,m2,m3⟩:=R.cM.l9;have RE:=R.enter A nt (R.cM.enter m2 m3 E);rw[<-a0] at RE h;have a3:B.pZ {s with tmps:=A++aIL (fn.ntmps-Y A) (.bH [])} O V L:=⟨⟨G.later.ext,G.later.mono,G.later.len,G.later.aq⟩,G.SS⟩;refine hC ⟨ms++D.out,D.dB,E,[]⟩ B yh Z g c _ _ L O V _ W _ hY a3 rfl (λhh=>by cases hh) ⟨fn,hf⟩ h RE t ?_ ?_;intro ch N r pd y hA hR;obtain⟨a4,C,q0,q,q3⟩:=hA.l9;rw[C] at hA;have x:=(hA.p8).JI m0;rw[<-m1] at x;show LeavesInM Fence.wide 0 p.P fn N.tmps z N.defers (.panicking ch) r;rw[C];exact ta (by simp) (aJz.1 q).1 (λd M=>(q3 d (by simp[M])).1) (i ch _ pd y x (NU (H.Ta ch) (λd M=>(q3 d (by simp[M])).2) hR));intro e s' o V' N r L' w hL RR Q;have ag:bF s O V {s' with tmps:=s.tmps} o V':=⟨w.ext,w.mono,w.len,w.aq⟩;obtain⟨a4,C,q0,q,q3⟩:=RR.cM.l9;have R2:=RR.p8 C;have x:=R2.cM.JI m0;rw[<-m1] at x;have RB:=R.back hb.1 w rfl R2 (D2:=D) (a2:=a) rfl x;have al:∀l,sQ cf s' rs=U l->(k (one l) {s' with tmps:=s.tmps}).aQ p o L'->LeavesInM Fence.wide 0 p.P fn N.tmps z N.defers .returning r:=by
  intro l u Q;rw[C];refine ta (by simp) (aJz.1 q).1 (λd M=>(q3 d (by simp[M])).1) ⟨_,NG R2 H.kV (by rw[a1];exact u), ?_⟩;exact j _ _ o V' _ L' ag hL RB Q
 cases e with
 |normal=>
  simp only[IR] at Q;split at Q;rename_i l u;exact al l u Q;exact Q.elim
 |ret=>
  simp only[IR] at Q;split at Q;rename_i l u;exact al l u Q;exact Q.elim
 |bn v=>
  show LeavesInM Fence.wide 0 p.P fn N.tmps z N.defers (.panicking _) r;rw[C];exact ta (by simp) (aJz.1 q).1 (λd M=>(q3 d (by simp[M])).1) (af v _ o V' _ L' ag hL RB Q)
 |exit id=>exact Q.elim
 exact h.elim;rename_i b;exact akx H.pt (λg t=>H.BS g (.inl t)) D L g A s k O V a W z h R j i
def ax9(b:Bool)(H:kD p cf){D:bQ}{B:kC}{G:ot}(F:SU p cf D B G):SU p cf D B (ZO b cf G):=by
 intro L y Q s k C O V a W P A h R X N z M;cases y with
 |yl x=>exact F L (.yl x) Q s k C O V a W P A h R X N z M
 |fn g=>
  cases b with
  |false=>exact F L (.fn g) Q s k C O V a W P A h R X N z M
  |true=>exact akx H.pt (λg X=>H.BS g (.inl X)) D L g Q s k O V a W P h R N M
end
