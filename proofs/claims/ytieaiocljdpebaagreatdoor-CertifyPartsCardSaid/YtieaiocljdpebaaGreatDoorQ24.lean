/- Part 24 of the proof; the last part says what is shown. -/
import Derived.Test.YtieaiocljdpebaaGreatDoorQ13
import Derived.Test.YtieaiocljdpebaaGreatDoorQ5
set_option linter.all false
namespace Go.Proofs.YtieaiocljdpebaaGreatDoor.Y
open Go.RowKit
noncomputable section
section
set_option maxRecDepth 100000
theorem avU:bL 32 false false T32:=tk Tryz.func32 (kX:=true)
theorem avV(Z:qn n7):bL 63 false false T63:=tk Tryz.func63 (loops:=[(63,5,⟨[(26,.int .i64)],[(1,0,.ref (.own 3))]⟩),(63,12,⟨[(37,.int .i64)],[(1,0,.ref (.own 3))]⟩),(63,18,⟨[(60,.int .i64)],[(1,0,.ref (.own 3))]⟩)]) (srts:=n7) (hsr:=Z)
theorem avW:bL 39 false false T39:=tk Tryz.func39 (loops:=[(99,1,⟨[(10,.int .i64)],[(3,3,.ref (.own 71)),(3,4,.ref (.own 82)),(3,5,.ref (.own 65))]⟩)]) (inl:=[48,99,36])
theorem avX(bZ:nC Tryz.prog 61 45):bL 21 false true LB:=tk Tryz.func21 (loops:=[(21,8,⟨[(45,.int .i64)],[(23,0,.ref (.mr ⟨3,4,1,false,false⟩))]⟩),(21,15,⟨[(74,.int .i64),(16,.ref (.own 4)),(17,.ref (.own 82))],[]⟩),(99,1,⟨[(10,.int .i64)],[(24018,3,.ref (.own 71)),(24018,4,.ref (.own 82)),(24018,5,.ref (.own 65))]⟩),(47,8,⟨[(66,.int .i64)],[]⟩),(47,14,⟨[(99,.int .i64)],[]⟩)]) (inl:=[36,38,62,48,99,47,39]) (chs:=[(21,13),(21,1000020)]) (dT:=some 45) (hdc:=(λ_ h=>by cases h;exact Tf (by kernel_rfl) bZ))
theorem avY:bL 11 false false T11:=tk Tryz.func11 (kX:=true) (chs:=[(11,13),(11,17)])
end
section
set_option maxRecDepth 100000
end
section
set_option maxRecDepth 100000
def avZ:bL 15 false false Su:=tk Tryz.func15 (loops:=[(15,4,⟨[(5,.int .i64)],[]⟩)])
def av0:bL 43 false false Sv:=tk Tryz.func43 (loops:=[(43,4,⟨[(5,.int .i64)],[]⟩)])
def av1:bL 44 false false Sw:=tk Tryz.func44 (loops:=[(44,4,⟨[(5,.int .i64)],[]⟩)])
def av2:bL 45 false false Sx:=tk Tryz.func45 (loops:=[(45,4,⟨[(5,.int .i64)],[]⟩)])
def av3:bL 98 false false T98:=tk Tryz.func98 (loops:=[(98,4,⟨[(5,.int .i64)],[]⟩)])
end
section
set_option maxRecDepth 100000
def ok7:bL 7 false false T7:=tk Tryz.func7 (loops:=[(7,10,⟨[(67,.int .i64),(15,.ref (.own 4))],[]⟩)])
end
end
end Go.Proofs.YtieaiocljdpebaaGreatDoor.Y
