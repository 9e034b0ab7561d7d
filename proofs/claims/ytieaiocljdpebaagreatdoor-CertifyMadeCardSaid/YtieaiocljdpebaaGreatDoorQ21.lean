/- Part 21 of the proof; the last part says what is shown. -/
import Derived.Test.YtieaiocljdpebaaGreatDoorQ12
import Derived.Test.YtieaiocljdpebaaGreatDoorQ5
set_option linter.all false
namespace Go.Proofs.YtieaiocljdpebaaGreatDoor.Y
open Go.RowKit
noncomputable section
section
set_option maxRecDepth 100000
end
section
set_option maxRecDepth 100000
def avb:bL 143 false false Sq:=tk Tryz.func143 (loops:=[(211,3,⟨[(9,.int .i64),(10,.int .i64)],[]⟩)]) (inl:=[211,212])
end
end
end Go.Proofs.YtieaiocljdpebaaGreatDoor.Y
