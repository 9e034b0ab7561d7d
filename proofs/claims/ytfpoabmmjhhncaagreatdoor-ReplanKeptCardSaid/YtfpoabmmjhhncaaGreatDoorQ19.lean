/- Part 19 of the proof. -/
import Derived.Test.YtfpoabmmjhhncaaGreatDoorQ9
import Derived.RecoverIn
set_option linter.all false
set_option maxRecDepth 100000
set_option maxHeartbeats 100000000
open Bool renaming true->J,false->E
open Option renaming some->U,none->Z
open Array renaming getElem?_eq_some_iff->jg,getElem?_setIfInBounds->JA,getElem?_modify->JB,ext_getElem?->axv
open Go.World renaming cell?->mC,putObj->BJ,size_alloc->NL,setCell->NQ,frozen?->NR,putObj_size->alv
open Go.IntKind renaming i64->I
namespace Go.Proofs.YtfpoabmmjhhncaaGreatDoor.Y
open Go.RowKit
noncomputable section
variable{X:World}{W:Nat}
theorem auH:cq 12 E E FL:=tk Tryz.func12 (loops:=[(12,8,⟨[(3,.int I)],[]⟩),(12,13,⟨[(4,.int I)],[]⟩)])
theorem auI:cq 27 E E MO:=tk Tryz.func27 (loops:=[(27,4,⟨[(3,.int I)],[]⟩),(27,9,⟨[(4,.int I)],[]⟩)])
theorem auJ:cq 28 E E Y9:=tk Tryz.func28
theorem auK:cq 42 E E aiv:=tk Tryz.func42 (ct:=J)
theorem auL:cq 37 E E R6:=tk Tryz.func37 (loops:=[(37,3,⟨[(11,.int I)],[(0,0,.ah (.mr ⟨3,4,1,E,E⟩))]⟩)])
theorem auM:cq 46 E E aiw:=tk Tryz.func46 (ct:=J) (inl:=[65,42,95]) (ku:=J)
theorem auN:cq 9 E E aix:=tk Tryz.func9 (ct:=J) (loops:=[(9,5,⟨[(18,.int I)],[(1,2,.ah (.own 96))]⟩)]) (ku:=J)
theorem auO:cq 44 E E aiy:=tk Tryz.func44 (ct:=J)
theorem auP:cq 21 E E aiz:=tk Tryz.func21 (ct:=J)
theorem auQ(X:AQ Tryz.prog 34 153):cq 22 E J R7:=tk Tryz.func22 (ct:=J) (loops:=[(22,8,⟨[(60,.int I)],[]⟩),(22,13,⟨[(82,.int I)],[]⟩),(22,17,⟨[(115,.int I)],[]⟩)]) (inl:=[35]) (chs:=[(22,2000015)]) (dT:=U 153) (hdc:=aj5 aL aL X)
theorem auR(X:AQ Tryz.prog 34 153):cq 20 E J R8:=tk Tryz.func20 (ct:=J) (loops:=[(20,8,⟨[(72,.int I)],[]⟩),(20,13,⟨[(84,.int I)],[]⟩),(20,21,⟨[(109,.int I)],[]⟩),(20,26,⟨[(129,.int I)],[]⟩),(20,29,⟨[(138,.int I)],[]⟩),(20,36,⟨[(161,.int I)],[]⟩),(20,40,⟨[(181,.int I)],[]⟩),(20,49,⟨[(233,.int I)],[(2,0,.ah (.mr ⟨3,4,1,E,E⟩))]⟩),(20,54,⟨[(247,.int I)],[]⟩)]) (inl:=[35]) (chs:=[(20,2000042),(20,2000043)]) (dT:=U 153) (hdc:=aj5 aL aL X)
theorem auS:cq 45 E E aiA:=tk Tryz.func45 (ct:=J) (loops:=[(45,19,⟨[(75,.int I),(7,.ah (.own 140))],[(2,2,.ah (.own 96)),(2,3,.ah (.own 3))]⟩)]) (inl:=[65,42,95]) (ku:=J)
theorem auT:cq 7 E E R9:=tk Tryz.func7 (loops:=[(7,5,⟨[(22,.int I),(6,.ah (.own 3))],[]⟩)])
theorem auU:cq 63 E E aiN:=tk Tryz.func63 (ct:=J) (loops:=[(63,6,⟨[(29,.int I),(8,.int I)],[]⟩),(63,16,⟨[(52,.int I)],[(6,0,.ah (.own 58))]⟩),(107,4,⟨[(15,.int I)],[(2,0,.ah (.own 182)),(6,0,.ah (.sl 58))]⟩)]) (inl:=[89,107]) (ku:=J) (chs:=[(63,19)])
theorem auV:cq 91 E E aiB:=tk Tryz.func91 (ct:=J) (loops:=[(91,2,⟨[(13,.int I),(4,.ah (.own 81))],[]⟩)])
theorem auW:cq 64 E E aiC:=tk Tryz.func64 (ct:=J) (loops:=[(113,2,⟨[(8,.int I)],[]⟩)]) (inl:=[92,93,113])
theorem auX:cq 16 E E Sa:=tk Tryz.func16
theorem auY:cq 17 E E Za:=tk Tryz.func17 (loops:=[(17,6,⟨[(29,.int I)],[(4,0,.ah (.mr ⟨3,3,1,E,E⟩))]⟩),(17,11,⟨[(38,.int I),(6,.ah (.own 4))],[]⟩)]) (inl:=[32]) (chs:=[(32,1)])
theorem auZ:cq 3 E E Sb:=tk Tryz.func3 (loops:=[(3,13,⟨[(53,.int I)],[(2,0,.ah (.mr ⟨3,4,1,E,E⟩))]⟩),(3,19,⟨[(64,.int I)],[(2,0,.ah (.mr ⟨3,4,1,E,E⟩))]⟩),(3,25,⟨[(86,.int I),(14,.int I)],[]⟩),(3,30,⟨[(135,.int I),(14,.int I)],[]⟩)])
theorem au0:cq 5 E E Zb:=tk Tryz.func5
theorem au1:cq 6 E E Sc:=tk Tryz.func6 (loops:=[(6,6,⟨[(34,.int I)],[(2,0,.ah (.mr ⟨3,4,1,E,E⟩))]⟩),(6,13,⟨[(69,.int I),(6,.int I)],[]⟩),(6,16,⟨[(79,.int I),(6,.int I)],[]⟩)])
theorem au2:cq 13 E E Zc:=tk Tryz.func13 (loops:=[(13,4,⟨[(3,.int I)],[]⟩)])
theorem au3:cq 14 E E Zd:=tk Tryz.func14 (loops:=[(14,3,⟨[(6,.int I),(5,.int I)],[]⟩)])
theorem au4:cq 15 E E Ze:=tk Tryz.func15 (loops:=[(15,3,⟨[(7,.int I),(8,.int I)],[]⟩)]) (inl:=[29,30,47])
theorem au5:cq 4 E E aiD:=tk Tryz.func4 (ct:=J) (ku:=J)
theorem au6:cq 8 E E aiE:=tk Tryz.func8 (ct:=J) (inl:=[18]) (ku:=J)
theorem au7:cq 19 E E aiF:=tk Tryz.func19 (ct:=J) (ku:=J)
theorem au8:cq 11 E E aiG:=tk Tryz.func11 (ct:=J) (loops:=[(11,4,⟨[(5,.int I)],[]⟩)])
theorem au9:cq 26 E E aiH:=tk Tryz.func26 (ct:=J) (loops:=[(26,3,⟨[(22,.int I)],[(3,0,.ah (.sl 3)),(3,1,.int I),(3,2,.ah (.sl 96)),(3,3,.ah (.sl 3)),(3,4,.bool)]⟩)])
theorem ava:cq 10 E E aiI:=tk Tryz.func10 (ct:=J) (loops:=[(10,8,⟨[(35,.int I),(10,.int I)],[]⟩),(43,1,⟨[(6,.int I)],[(3,0,.int I),(4,0,.ah (.sl 3)),(4,1,.int I)]⟩)]) (inl:=[24,25,43,23]) (ku:=J) (chs:=[(24,2000006)])
def avb(W:World)(b:Nat):CallsDIn Fence.wide 0 Tryz.prog 34 #[.pointer (U ⟨b,0,Z⟩)] .returning W λR u Q=>(∃v,R=.returned v)/\u=.returning/\Q=W:=by
 refine callsDIn_of_wpSIn Tryz.func34 rfl (by simp[Fence.wide]) λV P X=> ?_
 have O:V={V with mode:=.returning}:=by rw[<-X]
 rw[Tryz.ntmps34];apply wpSIn_seq;apply wpSIn_region;simp[wpOpsSIn,go_sem,recoverD,X,Exit.thenS];refine wpSIn_of_wpIn rfl (wpIn_wide.2 ?_);go_wp2;refine⟨rfl,.returning,by rw[<-X],.tuple #[], ?_,⟨_,rfl⟩,rfl,rfl⟩;simp[results,Tryz.results34]
def avc{v u:Value}{e:TypeId}(h:X.heap[W]?=U (.cells #[u] e (0,0))):X.setCell ⟨W,0,Z⟩ v=X.putObj W (.cells #[v] e (0,0)):=by
 unfold NQ BJ;congr 1;apply axv;intro i;rw[JB,JA];by_cases V:W=i;subst V;have R:W<X.heap.size:=(jg.1 h).1;rw[aE rfl,aE rfl,h,aE R];rfl;rw[aJ V,aJ V]
@[local go_sem] def ays (v:Value) (w:World):(Instr.typeAssert (.iface 153 v) 20 153 J).run Tryz.prog w=.ok (.tuple #[v,.bool J]) w:=aL
def avd{o x:Obj}(h:X.heap[W]?=U x):(X.alloc o).heap[W]?=U x:=
 (Below.heap_alloc _ _ _ (jg.1 h).1).trans h
def ave{o x y:Obj}(h:X.heap[W]?=U x):Below X.heap.size (X.putObj W y) ((X.alloc o).putObj W y):=by
 have R:W<X.heap.size:=(jg.1 h).1;refine⟨rfl,rfl,rfl,by rw[alv,alv,NL];omega,λk Q=> ?_⟩;show((X.alloc o).heap.setIfInBounds W y)[k]?=(X.heap.setIfInBounds W y)[k]?
 rw[JA,JA,Below.heap_alloc _ _ _ Q,NL];by_cases V:W=k;rw[aE V,aE V,aE R,aE aa];rw[aJ V,aJ V]
def avf(W:World)(b:Nat)(t:TypeId)(X k:Int)(R:W.heap[b]?=U (.cells #[.int I X] t (0,0))):CallsDIn Fence.wide 0 Tryz.prog 34 #[.pointer (U ⟨b,0,Z⟩)] (.panicking [{v:=.iface 153 (.agg #[.int I k]),recovered:=E}]) W λQ u P=>(∃v,Q=.returned v)/\u=.panicking [{v:=.iface 153 (.agg #[.int I k]),recovered:=J}]/\Below W.heap.size (W.putObj b (.cells #[.int I k] t (0,0))) P:=by
 have V:(W.alloc (.cells #[.int I k] 153 (0,0))).heap[b]?=U (.cells #[.int I X] t (0,0)):=avd R;have N:(W.alloc (.cells #[.int I k] 153 (0,0))).cell? ⟨b,0,Z⟩=U (.int I X):=by simp[mC,V]
 have M:(W.alloc (.cells #[.int I k] 153 (0,0))).frozen? ⟨b,0,Z⟩=false:=by simp[NR,V]
 refine callsDIn_of_wpSIn Tryz.func34 rfl (by simp[Fence.wide]) λL H O=> ?_
 rw[Tryz.ntmps34];apply wpSIn_seq;apply wpSIn_region;simp[wpOpsSIn,go_sem,recoverD,O,Exit.thenS];refine wpSIn_of_wpIn rfl (wpIn_wide.2 ?_);go_wp2;refine⟨rfl,_,rfl,.tuple #[], ?_,⟨_,rfl⟩,rfl, ?_⟩;simp[results,Tryz.results34];rw[avc V];exact ave R
def akV:AQ Tryz.prog 34 153:=⟨tQ aL,avb,λ_ W b t X k h=>avf W b t X k h⟩
