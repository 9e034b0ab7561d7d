/- Part 19 of the proof; the last part says what is shown. -/
import Derived.Test.YtieaiocljdpebaaGreatDoorQ13
import Derived.Test.YtieaiocljdpebaaGreatDoorQ5
set_option linter.all false
namespace Go.Proofs.YtieaiocljdpebaaGreatDoor.Y
open Go.RowKit
noncomputable section
section
set_option maxRecDepth 100000
theorem avM(bZ:nC Tryz.prog 151 45):bL 81 false true T81:=tk Tryz.func81 (loops:=[(152,5,⟨[(46,.int .i64),(2,.int .i64)],[]⟩),(152,11,⟨[(74,.int .i64)],[]⟩),(152,17,⟨[(86,.int .i64),(2,.int .i64)],[]⟩),(152,23,⟨[(122,.int .i64)],[]⟩)]) (inl:=[152,218,219]) (dT:=some 45) (hdc:=(λ_ h=>by cases h;exact Tf (by kernel_rfl) bZ))
theorem avN(bZ:nC Tryz.prog 34 45):bL 13 false true T13:=tk Tryz.func13 (loops:=[(99,1,⟨[(10,.int .i64)],[(13,3,.ref (.own 71)),(13,4,.ref (.own 82)),(13,5,.ref (.own 65))]⟩)]) (inl:=[36,38,62,39,48,99]) (dT:=some 45) (hdc:=(λ_ h=>by cases h;exact Tf (by kernel_rfl) bZ))
theorem avO(Z:qn n7)(bZ:nC Tryz.prog 46 45):bL 16 false true T16:=tk Tryz.func16 (loops:=[(16,17,⟨[(15,.ref (.own 118))],[(33,3,.ref (.mr ⟨3,1099511627778,1,false,false⟩))]⟩),(16,22,⟨[(104,.int .i64),(8,.ref (.own 98))],[]⟩),(47,8,⟨[(66,.int .i64)],[]⟩),(47,14,⟨[(99,.int .i64)],[]⟩),(99,1,⟨[(10,.int .i64)],[(25019,3,.ref (.own 71)),(25019,4,.ref (.own 82)),(25019,5,.ref (.own 65)),(25,0,.ref (.mr ⟨118,4,3,true,false⟩))]⟩),(49,4,⟨[(33,.int .i64)],[(25,0,.ref (.mr ⟨118,4,3,true,false⟩))]⟩),(49,17,⟨[(117,.int .i64)],[(25,0,.ref (.mr ⟨118,4,3,true,false⟩))]⟩),(50,7,⟨[(55,.int .i64)],[(25,0,.ref (.mr ⟨118,4,3,true,false⟩))]⟩),(50,14,⟨[(73,.int .i64)],[(25,0,.ref (.mr ⟨118,4,3,true,false⟩))]⟩),(105,2,⟨[(11,.int .i64),(4,.ref (.own 65))],[]⟩),(100,2,⟨[(8,.int .i64)],[]⟩)]) (inl:=[47,36,38,62,39,48,99,49,50,105,100,101]) (srts:=n7) (dT:=some 45) (hsr:=Z) (hdc:=(λ_ h=>by cases h;exact Tf (by kernel_rfl) bZ))
end
end
end Go.Proofs.YtieaiocljdpebaaGreatDoor.Y
