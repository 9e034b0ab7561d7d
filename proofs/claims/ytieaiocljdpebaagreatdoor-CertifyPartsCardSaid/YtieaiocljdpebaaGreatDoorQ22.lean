/- Part 22 of the proof; the last part says what is shown. -/
import Derived.Test.YtieaiocljdpebaaGreatDoorQ13
import Derived.Test.YtieaiocljdpebaaGreatDoorQ5
set_option linter.all false
namespace Go.Proofs.YtieaiocljdpebaaGreatDoor.Y
open Go.RowKit
noncomputable section
section
set_option maxRecDepth 100000
end
section
set_option maxRecDepth 100000
def avR:bL 143 false false aj7:=tk Tryz.func143 (loops:=[(211,3,⟨[(9,.int .i64),(10,.int .i64)],[]⟩)]) (inl:=[211,212])
end
end
end Go.Proofs.YtieaiocljdpebaaGreatDoor.Y
