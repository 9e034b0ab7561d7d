/- Part 16. -/
import Derived.Test.YtjnmghiggfgjlaaGreatDoorV7
import Derived.RecoverIn
set_option linter.all false
set_option maxRecDepth 100000
set_option maxHeartbeats 100000000
open Bool renaming true->J,false->E
open List renaming map_cons->dH,map_nil->oC
open Option renaming some->U,none->Z
open Array renaming getElem?_eq_some_iff->lF,getElem?_setIfInBounds->QO,getElem?_modify->QP,ext_getElem?->aJb
open Go.World renaming cell?->oD,putObj->Mt,size_alloc->VE,frozen?->VK,setCell->acm,putObj_size->av4
open Go.IntKind renaming i64->I
namespace Go.Proofs.YtjnmghiggfgjlaaGreatDoor.Y
open Go.RowKit
noncomputable section
variable{X:World}{W:Nat}
theorem aGr:cg 30 E E I0:=tk Tryz.func30 (loops:=[(30,8,⟨[(3,.int I)],[]⟩),(30,13,⟨[(4,.int I)],[]⟩)])
theorem aGs:cg 51 E E UC:=tk Tryz.func51 (loops:=[(51,4,⟨[(3,.int I)],[]⟩),(51,9,⟨[(4,.int I)],[]⟩)])
theorem aGt:cg 52 E E ai4:=tk Tryz.func52
theorem aGu:cg 35 E E ai5:=tk Tryz.func35
theorem aGv:cg 42 E E ai6:=tk Tryz.func42 (loops:=[(42,3,⟨[(11,.int I)],[(0,0,.ak (.mr ⟨3,4,1,E,E⟩))]⟩)])
theorem aGw:cg 23 E E ai7:=tk Tryz.func23 (inl:=[39,35,59]) (jA:=J)
theorem aGx:cg 11 E E asO:=tk Tryz.func11 (ct:=J) (loops:=[(11,5,⟨[(18,.int I)],[(1,2,.ak (.own 111))]⟩)]) (jA:=J)
theorem aGy:cg 21 E E aa4:=tk Tryz.func21 (ct:=J)
theorem aGz:cg 27 E E asP:=tk Tryz.func27 (ct:=J)
theorem aGA(X:Fk Tryz.prog 32 154):cg 15 E J aaX:=tk Tryz.func15 (ct:=J) (loops:=[(15,8,⟨[(60,.int I)],[]⟩),(15,13,⟨[(82,.int I)],[]⟩),(15,17,⟨[(115,.int I)],[]⟩)]) (inl:=[33]) (chs:=[(15,2000015)]) (dT:=U 154) (hdc:=auA aT aT X)
theorem aGB(X:Fk Tryz.prog 32 154):cg 26 E J ai8:=tk Tryz.func26 (ct:=J) (loops:=[(26,8,⟨[(72,.int I)],[]⟩),(26,13,⟨[(84,.int I)],[]⟩),(26,21,⟨[(109,.int I)],[]⟩),(26,26,⟨[(129,.int I)],[]⟩),(26,29,⟨[(138,.int I)],[]⟩),(26,36,⟨[(161,.int I)],[]⟩),(26,40,⟨[(181,.int I)],[]⟩),(26,49,⟨[(233,.int I)],[(2,0,.ak (.mr ⟨3,4,1,E,E⟩))]⟩),(26,54,⟨[(247,.int I)],[]⟩)]) (inl:=[33]) (chs:=[(26,2000042),(26,2000043)]) (dT:=U 154) (hdc:=auA aT aT X)
theorem aGC:cg 22 E E UD:=tk Tryz.func22 (loops:=[(22,19,⟨[(75,.int I),(7,.ak (.own 79))],[(2,2,.ak (.own 111)),(2,3,.ak (.own 3))]⟩)]) (inl:=[39,35,59]) (jA:=J)
theorem aGD:cg 28 E E aaY:=tk Tryz.func28 (loops:=[(28,5,⟨[(22,.int I),(6,.ak (.own 3))],[]⟩)])
theorem aGE:cg 37 E E ajk:=tk Tryz.func37 (ct:=J) (loops:=[(37,6,⟨[(29,.int I),(8,.int I)],[]⟩),(37,16,⟨[(52,.int I)],[(6,0,.ak (.own 101))]⟩),(77,4,⟨[(15,.int I)],[(2,0,.ak (.own 132)),(6,0,.ak (.sl 101))]⟩)]) (inl:=[53,77]) (jA:=J) (chs:=[(37,19)])
theorem aGF:cg 55 E E ai9:=tk Tryz.func55 (loops:=[(55,2,⟨[(13,.int I),(4,.ak (.own 85))],[]⟩)])
theorem aGG:cg 38 E E aja:=tk Tryz.func38 (loops:=[(83,2,⟨[(8,.int I)],[]⟩)]) (inl:=[56,57,83])
theorem aGH:cg 47 E E aaZ:=tk Tryz.func47
theorem aGI:cg 48 E E ajb:=tk Tryz.func48 (loops:=[(48,6,⟨[(29,.int I)],[(4,0,.ak (.mr ⟨3,3,1,E,E⟩))]⟩),(48,11,⟨[(38,.int I),(6,.ak (.own 4))],[]⟩)]) (inl:=[75]) (chs:=[(75,1)])
theorem aGJ:cg 14 E E aa0:=tk Tryz.func14
theorem aGK:cg 12 E E aa1:=tk Tryz.func12 (loops:=[(12,6,⟨[(34,.int I)],[(2,0,.ak (.mr ⟨3,4,1,E,E⟩))]⟩),(12,13,⟨[(69,.int I),(6,.int I)],[]⟩),(12,16,⟨[(79,.int I),(6,.int I)],[]⟩)])
theorem aGL:cg 31 E E ajc:=tk Tryz.func31 (loops:=[(31,4,⟨[(3,.int I)],[]⟩)])
theorem aGM:cg 16 E E aa2:=tk Tryz.func16 (loops:=[(16,3,⟨[(6,.int I),(5,.int I)],[]⟩)])
theorem aGN:cg 29 E E ajd:=tk Tryz.func29 (loops:=[(29,3,⟨[(7,.int I),(8,.int I)],[]⟩)]) (inl:=[49,50,76])
theorem aGO:cg 6 E E asQ:=tk Tryz.func6 (ct:=J) (jA:=J)
theorem aGP:cg 10 E E asR:=tk Tryz.func10 (ct:=J) (inl:=[24]) (jA:=J)
theorem aGQ:cg 25 E E asS:=tk Tryz.func25 (ct:=J) (jA:=J)
theorem aGR:cg 13 E E asT:=tk Tryz.func13 (ct:=J) (loops:=[(13,4,⟨[(5,.int I)],[]⟩)])
theorem aGS:cg 20 E E aje:=tk Tryz.func20 (loops:=[(20,3,⟨[(22,.int I)],[(3,0,.ak (.sl 3)),(3,1,.int I),(3,2,.ak (.sl 111)),(3,3,.ak (.sl 3)),(3,4,.bool)]⟩)])
theorem aGT:∀(O W:aj)(V X:ar),(∀i,i<(jV 308).bx.length->ad V i=ad X i)->C.az O V (jV 308).bD=C.az W X (jV 308).bD/\∀t R,LB.st t R∈(jV 308).bx->C.bL O V R=C.bL W X R:=by
 intro O W V X h;have Q:C.az O V Sm=C.az W X Sm:=by
  simp only[Sm,C.az,C.ai,h 0 ew,h 5 ew,h 2 ew,h 3 ew,h 6 ew]
 refine⟨Q,λt R P=> ?_⟩;simp[jV,oK,aeh] at P;rcases P with⟨-,rfl⟩|⟨-,rfl⟩;simp only[C.bL,dH,oC,C.gf,C.ai,C.az,h 4 ew];simp only[C.bL,dH,oC,C.gf,C.ai,Q]
theorem aGU:cg 308 E J aa3:=tkV Tryz.func18 rfl (bq:=aGT) (loops:=[(36,1,⟨[(6,.int I)],[(3,0,.int I),(4,0,.ak (.sl 3)),(4,1,.int I)]⟩)]) (inl:=[19,36,17]) (jA:=J) (chs:=[(18,2000006)])
theorem aGV:cg 8 E E ajf:=tk Tryz.func8 (loops:=[(8,8,⟨[(35,.int I),(10,.int I)],[]⟩)]) (jA:=J)
theorem aGW:cg 9 E E ajg:=tk Tryz.func9 (loops:=[(9,2,⟨[(21,.int I),(6,.int I)],[(1,0,.ak (.sl 3)),(1,1,.int I),(1,2,.ak (.sl 111)),(1,3,.ak (.sl 3)),(1,4,.bool)]⟩),(9,14,⟨[(70,.int I),(6,.int I)],[(2,0,.ak (.sl 3)),(2,1,.int I),(2,2,.ak (.sl 111)),(2,3,.ak (.sl 3)),(2,4,.bool)]⟩)])
theorem aGX:cg 7 E E ajh:=tk Tryz.func7
theorem aGY:cg 4 E E aji:=tk Tryz.func4
def aGZ(W:World)(b:Nat):CallsDIn Fence.wide 0 Tryz.prog 32 #[.pointer (U ⟨b,0,Z⟩)] .returning W λR u Q=>(∃v,R=.returned v)/\u=.returning/\Q=W:=by
 refine callsDIn_of_wpSIn Tryz.func32 rfl (by simp[Fence.wide]) λV P X=> ?_
 have O:V={V with mode:=.returning}:=by rw[<-X]
 rw[Tryz.ntmps32];apply wpSIn_seq;apply wpSIn_region;simp[wpOpsSIn,go_sem,recoverD,X,Exit.thenS];refine wpSIn_of_wpIn rfl (wpIn_wide.2 ?_);go_wp2;refine⟨rfl,.returning,by rw[<-X],.tuple #[], ?_,⟨_,rfl⟩,rfl,rfl⟩;simp[results,Tryz.results32]
def aG0{v u:Value}{e:TypeId}(h:X.heap[W]?=U (.cells #[u] e (0,0))):X.setCell ⟨W,0,Z⟩ v=X.putObj W (.cells #[v] e (0,0)):=by
 unfold acm Mt;congr 1;apply aJb;intro i;rw[QP,QO];by_cases V:W=i;subst V;have R:W<X.heap.size:=(lF.1 h).1;rw[aH rfl,aH rfl,h,aH R];rfl;rw[aS V,aS V]
@[local go_sem] def aJT (v:Value) (w:World):(Instr.typeAssert (.iface 154 v) 20 154 J).run Tryz.prog w=.ok (.tuple #[v,.bool J]) w:=aT
def aG1{o x:Obj}(h:X.heap[W]?=U x):(X.alloc o).heap[W]?=U x:=
 (Below.heap_alloc _ _ _ (lF.1 h).1).trans h
def aG2{o x y:Obj}(h:X.heap[W]?=U x):Below X.heap.size (X.putObj W y) ((X.alloc o).putObj W y):=by
 have R:W<X.heap.size:=(lF.1 h).1;refine⟨rfl,rfl,rfl,by rw[av4,av4,VE];omega,λk Q=> ?_⟩;show((X.alloc o).heap.setIfInBounds W y)[k]?=(X.heap.setIfInBounds W y)[k]?
 rw[QO,QO,Below.heap_alloc _ _ _ Q,VE];by_cases V:W=k;rw[aH V,aH V,aH R,aH ae];rw[aS V,aS V]
def aG3(W:World)(b:Nat)(t:TypeId)(X k:Int)(R:W.heap[b]?=U (.cells #[.int I X] t (0,0))):CallsDIn Fence.wide 0 Tryz.prog 32 #[.pointer (U ⟨b,0,Z⟩)] (.panicking [{v:=.iface 154 (.agg #[.int I k]),recovered:=E}]) W λQ u P=>(∃v,Q=.returned v)/\u=.panicking [{v:=.iface 154 (.agg #[.int I k]),recovered:=J}]/\Below W.heap.size (W.putObj b (.cells #[.int I k] t (0,0))) P:=by
 have V:(W.alloc (.cells #[.int I k] 154 (0,0))).heap[b]?=U (.cells #[.int I X] t (0,0)):=aG1 R;have bq:(W.alloc (.cells #[.int I k] 154 (0,0))).cell? ⟨b,0,Z⟩=U (.int I X):=by simp[oD,V]
 have N:(W.alloc (.cells #[.int I k] 154 (0,0))).frozen? ⟨b,0,Z⟩=false:=by simp[VK,V]
 refine callsDIn_of_wpSIn Tryz.func32 rfl (by simp[Fence.wide]) λM L O=> ?_
 rw[Tryz.ntmps32];apply wpSIn_seq;apply wpSIn_region;simp[wpOpsSIn,go_sem,recoverD,O,Exit.thenS];refine wpSIn_of_wpIn rfl (wpIn_wide.2 ?_);go_wp2;refine⟨rfl,_,rfl,.tuple #[], ?_,⟨_,rfl⟩,rfl, ?_⟩;simp[results,Tryz.results32];rw[aG0 V];exact aG2 R
def avq:Fk Tryz.prog 32 154:=⟨xO aT,aGZ,λ_ W b t X k h=>aG3 W b t X k h⟩
