/- Part 16. -/
import Derived.Test.YtjnmghiggfgjlaaGreatDoorW7
import Derived.RecoverIn
set_option linter.all false
set_option maxRecDepth 100000
set_option maxHeartbeats 100000000
open Bool renaming true->J,false->E
open List renaming map_cons->dG,map_nil->oD
open Option renaming some->U,none->Z
open Array renaming getElem?_eq_some_iff->lH,getElem?_setIfInBounds->QM,getElem?_modify->QN,ext_getElem?->aI4
open Go.World renaming cell?->oE,putObj->Mj,size_alloc->Vr,frozen?->Vw,setCell->aca,putObj_size->avY
open Go.IntKind renaming i64->I
namespace Go.Proofs.YtjnmghiggfgjlaaGreatDoor.Y
open Go.RowKit
noncomputable section
variable{X:World}{W:Nat}
theorem aGi:cj 30 E E IY:=tk Tryz.func30 (loops:=[(30,8,⟨[(3,.int I)],[]⟩),(30,13,⟨[(4,.int I)],[]⟩)])
theorem aGj:cj 51 E E Uu:=tk Tryz.func51 (loops:=[(51,4,⟨[(3,.int I)],[]⟩),(51,9,⟨[(4,.int I)],[]⟩)])
theorem aGk:cj 52 E E aiS:=tk Tryz.func52
theorem aGl:cj 35 E E aiT:=tk Tryz.func35
theorem aGm:cj 42 E E aiU:=tk Tryz.func42 (loops:=[(42,3,⟨[(11,.int I)],[(0,0,.ak (.mr ⟨3,4,1,E,E⟩))]⟩)])
theorem aGn:cj 23 E E aiV:=tk Tryz.func23 (inl:=[39,35,59]) (jC:=J)
theorem aGo:cj 11 E E asF:=tk Tryz.func11 (ct:=J) (loops:=[(11,5,⟨[(18,.int I)],[(1,2,.ak (.own 111))]⟩)]) (jC:=J)
theorem aGp:cj 21 E E aaR:=tk Tryz.func21 (ct:=J)
theorem aGq:cj 27 E E asG:=tk Tryz.func27 (ct:=J)
theorem aGr(X:Fh Tryz.prog 32 154):cj 15 E J aaK:=tk Tryz.func15 (ct:=J) (loops:=[(15,8,⟨[(60,.int I)],[]⟩),(15,13,⟨[(82,.int I)],[]⟩),(15,17,⟨[(115,.int I)],[]⟩)]) (inl:=[33]) (chs:=[(15,2000015)]) (dT:=U 154) (hdc:=auu aU aU X)
theorem aGs(X:Fh Tryz.prog 32 154):cj 26 E J aiW:=tk Tryz.func26 (ct:=J) (loops:=[(26,8,⟨[(72,.int I)],[]⟩),(26,13,⟨[(84,.int I)],[]⟩),(26,21,⟨[(109,.int I)],[]⟩),(26,26,⟨[(129,.int I)],[]⟩),(26,29,⟨[(138,.int I)],[]⟩),(26,36,⟨[(161,.int I)],[]⟩),(26,40,⟨[(181,.int I)],[]⟩),(26,49,⟨[(233,.int I)],[(2,0,.ak (.mr ⟨3,4,1,E,E⟩))]⟩),(26,54,⟨[(247,.int I)],[]⟩)]) (inl:=[33]) (chs:=[(26,2000042),(26,2000043)]) (dT:=U 154) (hdc:=auu aU aU X)
theorem aGt:cj 22 E E Uv:=tk Tryz.func22 (loops:=[(22,19,⟨[(75,.int I),(7,.ak (.own 79))],[(2,2,.ak (.own 111)),(2,3,.ak (.own 3))]⟩)]) (inl:=[39,35,59]) (jC:=J)
theorem aGu:cj 28 E E aaL:=tk Tryz.func28 (loops:=[(28,5,⟨[(22,.int I),(6,.ak (.own 3))],[]⟩)])
theorem aGv:cj 37 E E ai7:=tk Tryz.func37 (ct:=J) (loops:=[(37,6,⟨[(29,.int I),(8,.int I)],[]⟩),(37,16,⟨[(52,.int I)],[(6,0,.ak (.own 101))]⟩),(77,4,⟨[(15,.int I)],[(2,0,.ak (.own 132)),(6,0,.ak (.sl 101))]⟩)]) (inl:=[53,77]) (jC:=J) (chs:=[(37,19)])
theorem aGw:cj 55 E E aiX:=tk Tryz.func55 (loops:=[(55,2,⟨[(13,.int I),(4,.ak (.own 85))],[]⟩)])
theorem aGx:cj 38 E E aiY:=tk Tryz.func38 (loops:=[(83,2,⟨[(8,.int I)],[]⟩)]) (inl:=[56,57,83])
theorem aGy:cj 47 E E aaM:=tk Tryz.func47
theorem aGz:cj 48 E E aiZ:=tk Tryz.func48 (loops:=[(48,6,⟨[(29,.int I)],[(4,0,.ak (.mr ⟨3,3,1,E,E⟩))]⟩),(48,11,⟨[(38,.int I),(6,.ak (.own 4))],[]⟩)]) (inl:=[75]) (chs:=[(75,1)])
theorem aGA:cj 14 E E aaN:=tk Tryz.func14
theorem aGB:cj 12 E E aaO:=tk Tryz.func12 (loops:=[(12,6,⟨[(34,.int I)],[(2,0,.ak (.mr ⟨3,4,1,E,E⟩))]⟩),(12,13,⟨[(69,.int I),(6,.int I)],[]⟩),(12,16,⟨[(79,.int I),(6,.int I)],[]⟩)])
theorem aGC:cj 31 E E ai0:=tk Tryz.func31 (loops:=[(31,4,⟨[(3,.int I)],[]⟩)])
theorem aGD:cj 16 E E aaP:=tk Tryz.func16 (loops:=[(16,3,⟨[(6,.int I),(5,.int I)],[]⟩)])
theorem aGE:cj 29 E E ai1:=tk Tryz.func29 (loops:=[(29,3,⟨[(7,.int I),(8,.int I)],[]⟩)]) (inl:=[49,50,76])
theorem aGF:cj 6 E E asH:=tk Tryz.func6 (ct:=J) (jC:=J)
theorem aGG:cj 10 E E asI:=tk Tryz.func10 (ct:=J) (inl:=[24]) (jC:=J)
theorem aGH:cj 25 E E asJ:=tk Tryz.func25 (ct:=J) (jC:=J)
theorem aGI:cj 13 E E asK:=tk Tryz.func13 (ct:=J) (loops:=[(13,4,⟨[(5,.int I)],[]⟩)])
theorem aGJ:cj 20 E E ai2:=tk Tryz.func20 (loops:=[(20,3,⟨[(22,.int I)],[(3,0,.ak (.sl 3)),(3,1,.int I),(3,2,.ak (.sl 111)),(3,3,.ak (.sl 3)),(3,4,.bool)]⟩)])
theorem aGK:∀(O W:aj)(V X:ar),(∀i,i<(jW 308).bx.length->ad V i=ad X i)->C.az O V (jW 308).bC=C.az W X (jW 308).bC/\∀t R,LB.st t R∈(jW 308).bx->C.bK O V R=C.bK W X R:=by
 intro O W V X h;have Q:C.az O V Sj=C.az W X Sj:=by
  simp only[Sj,C.az,C.ai,h 0 ew,h 5 ew,h 2 ew,h 3 ew,h 6 ew]
 refine⟨Q,λt R P=> ?_⟩;simp[jW,oL,ad6] at P;rcases P with⟨-,rfl⟩|⟨-,rfl⟩;simp only[C.bK,dG,oD,C.gg,C.ai,C.az,h 4 ew];simp only[C.bK,dG,oD,C.gg,C.ai,Q]
theorem aGL:cj 308 E J aaQ:=tkV Tryz.func18 rfl (bq:=aGK) (loops:=[(36,1,⟨[(6,.int I)],[(3,0,.int I),(4,0,.ak (.sl 3)),(4,1,.int I)]⟩)]) (inl:=[19,36,17]) (jC:=J) (chs:=[(18,2000006)])
theorem aGM:cj 8 E E ai3:=tk Tryz.func8 (loops:=[(8,8,⟨[(35,.int I),(10,.int I)],[]⟩)]) (jC:=J)
theorem aGN:cj 7 E E ai4:=tk Tryz.func7
theorem aGO:cj 5 E E ai5:=tk Tryz.func5 (loops:=[(5,17,⟨[(112,.int I)],[]⟩),(5,23,⟨[(121,.int I)],[]⟩)])
def aGP(W:World)(b:Nat):CallsDIn Fence.wide 0 Tryz.prog 32 #[.pointer (U ⟨b,0,Z⟩)] .returning W λR u Q=>(∃v,R=.returned v)/\u=.returning/\Q=W:=by
 refine callsDIn_of_wpSIn Tryz.func32 rfl (by simp[Fence.wide]) λV P X=> ?_
 have O:V={V with mode:=.returning}:=by rw[<-X]
 rw[Tryz.ntmps32];apply wpSIn_seq;apply wpSIn_region;simp[wpOpsSIn,go_sem,recoverD,X,Exit.thenS];refine wpSIn_of_wpIn rfl (wpIn_wide.2 ?_);go_wp2;refine⟨rfl,.returning,by rw[<-X],.tuple #[], ?_,⟨_,rfl⟩,rfl,rfl⟩;simp[results,Tryz.results32]
def aGQ{v u:Value}{e:TypeId}(h:X.heap[W]?=U (.cells #[u] e (0,0))):X.setCell ⟨W,0,Z⟩ v=X.putObj W (.cells #[v] e (0,0)):=by
 unfold aca Mj;congr 1;apply aI4;intro i;rw[QN,QM];by_cases V:W=i;subst V;have R:W<X.heap.size:=(lH.1 h).1;rw[aH rfl,aH rfl,h,aH R];rfl;rw[aP V,aP V]
@[local go_sem] def aJM (v:Value) (w:World):(Instr.typeAssert (.iface 154 v) 20 154 J).run Tryz.prog w=.ok (.tuple #[v,.bool J]) w:=aU
def aGR{o x:Obj}(h:X.heap[W]?=U x):(X.alloc o).heap[W]?=U x:=
 (Below.heap_alloc _ _ _ (lH.1 h).1).trans h
def aGS{o x y:Obj}(h:X.heap[W]?=U x):Below X.heap.size (X.putObj W y) ((X.alloc o).putObj W y):=by
 have R:W<X.heap.size:=(lH.1 h).1;refine⟨rfl,rfl,rfl,by rw[avY,avY,Vr];omega,λk Q=> ?_⟩;show((X.alloc o).heap.setIfInBounds W y)[k]?=(X.heap.setIfInBounds W y)[k]?
 rw[QM,QM,Below.heap_alloc _ _ _ Q,Vr];by_cases V:W=k;rw[aH V,aH V,aH R,aH ae];rw[aP V,aP V]
def aGT(W:World)(b:Nat)(t:TypeId)(X k:Int)(R:W.heap[b]?=U (.cells #[.int I X] t (0,0))):CallsDIn Fence.wide 0 Tryz.prog 32 #[.pointer (U ⟨b,0,Z⟩)] (.panicking [{v:=.iface 154 (.agg #[.int I k]),recovered:=E}]) W λQ u P=>(∃v,Q=.returned v)/\u=.panicking [{v:=.iface 154 (.agg #[.int I k]),recovered:=J}]/\Below W.heap.size (W.putObj b (.cells #[.int I k] t (0,0))) P:=by
 have V:(W.alloc (.cells #[.int I k] 154 (0,0))).heap[b]?=U (.cells #[.int I X] t (0,0)):=aGR R;have bq:(W.alloc (.cells #[.int I k] 154 (0,0))).cell? ⟨b,0,Z⟩=U (.int I X):=by simp[oE,V]
 have N:(W.alloc (.cells #[.int I k] 154 (0,0))).frozen? ⟨b,0,Z⟩=false:=by simp[Vw,V]
 refine callsDIn_of_wpSIn Tryz.func32 rfl (by simp[Fence.wide]) λM L O=> ?_
 rw[Tryz.ntmps32];apply wpSIn_seq;apply wpSIn_region;simp[wpOpsSIn,go_sem,recoverD,O,Exit.thenS];refine wpSIn_of_wpIn rfl (wpIn_wide.2 ?_);go_wp2;refine⟨rfl,_,rfl,.tuple #[], ?_,⟨_,rfl⟩,rfl, ?_⟩;simp[results,Tryz.results32];rw[aGQ V];exact aGS R
def avk:Fh Tryz.prog 32 154:=⟨xM aU,aGP,λ_ W b t X k h=>aGT W b t X k h⟩
