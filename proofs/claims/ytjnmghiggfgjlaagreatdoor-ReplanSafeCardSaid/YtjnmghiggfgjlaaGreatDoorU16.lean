/- Part 16. -/
import Derived.Test.YtjnmghiggfgjlaaGreatDoorU7
import Derived.RecoverIn
set_option linter.all false
set_option maxRecDepth 100000
set_option maxHeartbeats 100000000
open Bool renaming true->J,false->E
open List renaming map_cons->dH,map_nil->oE
open Option renaming some->U,none->Z
open Array renaming getElem?_eq_some_iff->lL,getElem?_setIfInBounds->QS,getElem?_modify->QT,ext_getElem?->aJm
open Go.World renaming cell?->oF,putObj->Mv,size_alloc->VG,frozen?->VM,setCell->acv,putObj_size->awc
open Go.IntKind renaming i64->I
namespace Go.Proofs.YtjnmghiggfgjlaaGreatDoor.Y
open Go.RowKit
noncomputable section
variable{X:World}{W:Nat}
theorem aGy:cg 30 E E I1:=tk Tryz.func30 (loops:=[(30,8,⟨[(3,.int I)],[]⟩),(30,13,⟨[(4,.int I)],[]⟩)])
theorem aGz:cg 51 E E UF:=tk Tryz.func51 (loops:=[(51,4,⟨[(3,.int I)],[]⟩),(51,9,⟨[(4,.int I)],[]⟩)])
theorem aGA:cg 52 E E ajb:=tk Tryz.func52
theorem aGB:cg 35 E E ajc:=tk Tryz.func35
theorem aGC:cg 42 E E ajd:=tk Tryz.func42 (loops:=[(42,3,⟨[(11,.int I)],[(0,0,.ak (.mr ⟨3,4,1,E,E⟩))]⟩)])
theorem aGD:cg 23 E E aje:=tk Tryz.func23 (inl:=[39,35,59]) (jF:=J)
theorem aGE:cg 11 E E asT:=tk Tryz.func11 (ct:=J) (loops:=[(11,5,⟨[(18,.int I)],[(1,2,.ak (.own 111))]⟩)]) (jF:=J)
theorem aGF:cg 21 E E aa6:=tk Tryz.func21 (ct:=J)
theorem aGG:cg 27 E E asU:=tk Tryz.func27 (ct:=J)
theorem aGH(X:Fl Tryz.prog 32 154):cg 15 E J aaZ:=tk Tryz.func15 (ct:=J) (loops:=[(15,8,⟨[(60,.int I)],[]⟩),(15,13,⟨[(82,.int I)],[]⟩),(15,17,⟨[(115,.int I)],[]⟩)]) (inl:=[33]) (chs:=[(15,2000015)]) (dT:=U 154) (hdc:=auH aV aV X)
theorem aGI(X:Fl Tryz.prog 32 154):cg 26 E J ajf:=tk Tryz.func26 (ct:=J) (loops:=[(26,8,⟨[(72,.int I)],[]⟩),(26,13,⟨[(84,.int I)],[]⟩),(26,21,⟨[(109,.int I)],[]⟩),(26,26,⟨[(129,.int I)],[]⟩),(26,29,⟨[(138,.int I)],[]⟩),(26,36,⟨[(161,.int I)],[]⟩),(26,40,⟨[(181,.int I)],[]⟩),(26,49,⟨[(233,.int I)],[(2,0,.ak (.mr ⟨3,4,1,E,E⟩))]⟩),(26,54,⟨[(247,.int I)],[]⟩)]) (inl:=[33]) (chs:=[(26,2000042),(26,2000043)]) (dT:=U 154) (hdc:=auH aV aV X)
theorem aGJ:cg 22 E E UG:=tk Tryz.func22 (loops:=[(22,19,⟨[(75,.int I),(7,.ak (.own 79))],[(2,2,.ak (.own 111)),(2,3,.ak (.own 3))]⟩)]) (inl:=[39,35,59]) (jF:=J)
theorem aGK:cg 28 E E aa0:=tk Tryz.func28 (loops:=[(28,5,⟨[(22,.int I),(6,.ak (.own 3))],[]⟩)])
theorem aGL:cg 37 E E ajr:=tk Tryz.func37 (ct:=J) (loops:=[(37,6,⟨[(29,.int I),(8,.int I)],[]⟩),(37,16,⟨[(52,.int I)],[(6,0,.ak (.own 101))]⟩),(77,4,⟨[(15,.int I)],[(2,0,.ak (.own 132)),(6,0,.ak (.sl 101))]⟩)]) (inl:=[53,77]) (jF:=J) (chs:=[(37,19)])
theorem aGM:cg 55 E E ajg:=tk Tryz.func55 (loops:=[(55,2,⟨[(13,.int I),(4,.ak (.own 85))],[]⟩)])
theorem aGN:cg 38 E E ajh:=tk Tryz.func38 (loops:=[(83,2,⟨[(8,.int I)],[]⟩)]) (inl:=[56,57,83])
theorem aGO:cg 47 E E aa1:=tk Tryz.func47
theorem aGP:cg 48 E E aji:=tk Tryz.func48 (loops:=[(48,6,⟨[(29,.int I)],[(4,0,.ak (.mr ⟨3,3,1,E,E⟩))]⟩),(48,11,⟨[(38,.int I),(6,.ak (.own 4))],[]⟩)]) (inl:=[75]) (chs:=[(75,1)])
theorem aGQ:cg 14 E E aa2:=tk Tryz.func14
theorem aGR:cg 12 E E aa3:=tk Tryz.func12 (loops:=[(12,6,⟨[(34,.int I)],[(2,0,.ak (.mr ⟨3,4,1,E,E⟩))]⟩),(12,13,⟨[(69,.int I),(6,.int I)],[]⟩),(12,16,⟨[(79,.int I),(6,.int I)],[]⟩)])
theorem aGS:cg 31 E E ajj:=tk Tryz.func31 (loops:=[(31,4,⟨[(3,.int I)],[]⟩)])
theorem aGT:cg 16 E E aa4:=tk Tryz.func16 (loops:=[(16,3,⟨[(6,.int I),(5,.int I)],[]⟩)])
theorem aGU:cg 29 E E ajk:=tk Tryz.func29 (loops:=[(29,3,⟨[(7,.int I),(8,.int I)],[]⟩)]) (inl:=[49,50,76])
theorem aGV:cg 6 E E asV:=tk Tryz.func6 (ct:=J) (jF:=J)
theorem aGW:cg 10 E E asW:=tk Tryz.func10 (ct:=J) (inl:=[24]) (jF:=J)
theorem aGX:cg 25 E E asX:=tk Tryz.func25 (ct:=J) (jF:=J)
theorem aGY:cg 13 E E asY:=tk Tryz.func13 (ct:=J) (loops:=[(13,4,⟨[(5,.int I)],[]⟩)])
theorem aGZ:cg 20 E E ajl:=tk Tryz.func20 (loops:=[(20,3,⟨[(22,.int I)],[(3,0,.ak (.sl 3)),(3,1,.int I),(3,2,.ak (.sl 111)),(3,3,.ak (.sl 3)),(3,4,.bool)]⟩)])
theorem aG0:∀(O W:aj)(V X:ar),(∀i,i<(j5 308).bx.length->ad V i=ad X i)->C.az O V (j5 308).bE=C.az W X (j5 308).bE/\∀t R,LB.st t R∈(j5 308).bx->C.bL O V R=C.bL W X R:=by
 intro O W V X h;have Q:C.az O V St=C.az W X St:=by
  simp only[St,C.az,C.ai,h 0 ez,h 5 ez,h 2 ez,h 3 ez,h 6 ez]
 refine⟨Q,λt R P=> ?_⟩;simp[j5,oM,aep] at P;rcases P with⟨-,rfl⟩|⟨-,rfl⟩;simp only[C.bL,dH,oE,C.gf,C.ai,C.az,h 4 ez];simp only[C.bL,dH,oE,C.gf,C.ai,Q]
theorem aG1:cg 308 E J aa5:=tkV Tryz.func18 rfl (bq:=aG0) (loops:=[(36,1,⟨[(6,.int I)],[(3,0,.int I),(4,0,.ak (.sl 3)),(4,1,.int I)]⟩)]) (inl:=[19,36,17]) (jF:=J) (chs:=[(18,2000006)])
theorem aG2:cg 8 E E ajm:=tk Tryz.func8 (loops:=[(8,8,⟨[(35,.int I),(10,.int I)],[]⟩)]) (jF:=J)
theorem aG3:cg 9 E E ajn:=tk Tryz.func9 (loops:=[(9,2,⟨[(21,.int I),(6,.int I)],[(1,0,.ak (.sl 3)),(1,1,.int I),(1,2,.ak (.sl 111)),(1,3,.ak (.sl 3)),(1,4,.bool)]⟩),(9,14,⟨[(70,.int I),(6,.int I)],[(2,0,.ak (.sl 3)),(2,1,.int I),(2,2,.ak (.sl 111)),(2,3,.ak (.sl 3)),(2,4,.bool)]⟩)])
theorem aG4:cg 7 E E ajo:=tk Tryz.func7
theorem aG5:cg 3 E E ajp:=tk Tryz.func3
def aG6(W:World)(b:Nat):CallsDIn Fence.wide 0 Tryz.prog 32 #[.pointer (U ⟨b,0,Z⟩)] .returning W λR u Q=>(∃v,R=.returned v)/\u=.returning/\Q=W:=by
 refine callsDIn_of_wpSIn Tryz.func32 rfl (by simp[Fence.wide]) λV P X=> ?_
 have O:V={V with mode:=.returning}:=by rw[<-X]
 rw[Tryz.ntmps32];apply wpSIn_seq;apply wpSIn_region;simp[wpOpsSIn,go_sem,recoverD,X,Exit.thenS];refine wpSIn_of_wpIn rfl (wpIn_wide.2 ?_);go_wp2;refine⟨rfl,.returning,by rw[<-X],.tuple #[], ?_,⟨_,rfl⟩,rfl,rfl⟩;simp[results,Tryz.results32]
def aG7{v u:Value}{e:TypeId}(h:X.heap[W]?=U (.cells #[u] e (0,0))):X.setCell ⟨W,0,Z⟩ v=X.putObj W (.cells #[v] e (0,0)):=by
 unfold acv Mv;congr 1;apply aJm;intro i;rw[QT,QS];by_cases V:W=i;subst V;have R:W<X.heap.size:=(lL.1 h).1;rw[aH rfl,aH rfl,h,aH R];rfl;rw[aJ V,aJ V]
@[local go_sem] def aJ4 (v:Value) (w:World):(Instr.typeAssert (.iface 154 v) 20 154 J).run Tryz.prog w=.ok (.tuple #[v,.bool J]) w:=aV
def aG8{o x:Obj}(h:X.heap[W]?=U x):(X.alloc o).heap[W]?=U x:=
 (Below.heap_alloc _ _ _ (lL.1 h).1).trans h
def aG9{o x y:Obj}(h:X.heap[W]?=U x):Below X.heap.size (X.putObj W y) ((X.alloc o).putObj W y):=by
 have R:W<X.heap.size:=(lL.1 h).1;refine⟨rfl,rfl,rfl,by rw[awc,awc,VG];omega,λk Q=> ?_⟩;show((X.alloc o).heap.setIfInBounds W y)[k]?=(X.heap.setIfInBounds W y)[k]?
 rw[QS,QS,Below.heap_alloc _ _ _ Q,VG];by_cases V:W=k;rw[aH V,aH V,aH R,aH ae];rw[aJ V,aJ V]
def aHa(W:World)(b:Nat)(t:TypeId)(X k:Int)(R:W.heap[b]?=U (.cells #[.int I X] t (0,0))):CallsDIn Fence.wide 0 Tryz.prog 32 #[.pointer (U ⟨b,0,Z⟩)] (.panicking [{v:=.iface 154 (.agg #[.int I k]),recovered:=E}]) W λQ u P=>(∃v,Q=.returned v)/\u=.panicking [{v:=.iface 154 (.agg #[.int I k]),recovered:=J}]/\Below W.heap.size (W.putObj b (.cells #[.int I k] t (0,0))) P:=by
 have V:(W.alloc (.cells #[.int I k] 154 (0,0))).heap[b]?=U (.cells #[.int I X] t (0,0)):=aG8 R;have bq:(W.alloc (.cells #[.int I k] 154 (0,0))).cell? ⟨b,0,Z⟩=U (.int I X):=by simp[oF,V]
 have N:(W.alloc (.cells #[.int I k] 154 (0,0))).frozen? ⟨b,0,Z⟩=false:=by simp[VM,V]
 refine callsDIn_of_wpSIn Tryz.func32 rfl (by simp[Fence.wide]) λM L O=> ?_
 rw[Tryz.ntmps32];apply wpSIn_seq;apply wpSIn_region;simp[wpOpsSIn,go_sem,recoverD,O,Exit.thenS];refine wpSIn_of_wpIn rfl (wpIn_wide.2 ?_);go_wp2;refine⟨rfl,_,rfl,.tuple #[], ?_,⟨_,rfl⟩,rfl, ?_⟩;simp[results,Tryz.results32];rw[aG7 V];exact aG9 R
def avx:Fl Tryz.prog 32 154:=⟨xL aV,aG6,λ_ W b t X k h=>aHa W b t X k h⟩
