/- Part 23 of the proof; the last part says what is shown. -/
import Derived.Test.YtieaiocljdpebaaGreatDoorQ12
import Derived.Test.YtieaiocljdpebaaGreatDoorQ5
set_option linter.all false
namespace Go.Proofs.YtieaiocljdpebaaGreatDoor.Y
open Go.RowKit
noncomputable section
section
set_option maxRecDepth 100000
theorem avg:bL 32 false false T32:=tk Tryz.func32 (ml:=true)
theorem avh:bL 63 false false T63:=tk Tryz.func63 (loops:=[(63,5,⟨[(26,.int .i64)],[(1,0,.ref (.own 3))]⟩),(63,12,⟨[(37,.int .i64)],[(1,0,.ref (.own 3))]⟩),(63,18,⟨[(60,.int .i64)],[(1,0,.ref (.own 3))]⟩)]) (inl:=[130]) (n:=22)
theorem avi:bL 39 false false T39:=tk Tryz.func39 (loops:=[(99,1,⟨[(10,.int .i64)],[(3,3,.ref (.own 71)),(3,4,.ref (.own 82)),(3,5,.ref (.own 65))]⟩)]) (inl:=[48,99,36])
theorem avj(bi:oa Tryz.prog 61 45):bL 21 false true T21:=tk Tryz.func21 (loops:=[(21,8,⟨[(45,.int .i64)],[(15,0,.ref (.mr ⟨3,4,1,false,false⟩))]⟩),(21,15,⟨[(74,.int .i64),(16,.ref (.own 4)),(17,.ref (.own 82))],[]⟩),(99,1,⟨[(10,.int .i64)],[]⟩),(47,8,⟨[(66,.int .i64)],[]⟩),(47,14,⟨[(99,.int .i64)],[]⟩)]) (inl:=[36,38,62,48,99,47]) (chs:=[(21,13)]) (dT:=some 45) (hdc:=(λ_ h=>by cases h;exact Ti (by kernel_rfl) bi))
theorem avk:bL 11 false false T11:=tk Tryz.func11 (ml:=true) (chs:=[(11,13),(11,17)])
end
section
set_option maxRecDepth 100000
def ok9:bL 9 false false T9:=tk Tryz.func9 (loops:=[(9,12,⟨[(97,.int .i64)],[]⟩)]) (chs:=[(9,20)])
def aCV:bL 15 false false T15:=tk Tryz.func15 (loops:=[(15,4,⟨[(5,.int .i64)],[]⟩)])
def aCW:bL 30 false false T30:=tk Tryz.func30 (loops:=[(30,2,⟨[(11,.int .i64)],[]⟩)])
def aCX:bL 43 false false T43:=tk Tryz.func43 (loops:=[(43,4,⟨[(5,.int .i64)],[]⟩)])
def aCY:bL 44 false false T44:=tk Tryz.func44 (loops:=[(44,4,⟨[(5,.int .i64)],[]⟩)])
def aCZ:bL 45 false false T45:=tk Tryz.func45 (loops:=[(45,4,⟨[(5,.int .i64)],[]⟩)])
def aC0:bL 98 false false T98:=tk Tryz.func98 (loops:=[(98,4,⟨[(5,.int .i64)],[]⟩)])
end
end
end Go.Proofs.YtieaiocljdpebaaGreatDoor.Y
