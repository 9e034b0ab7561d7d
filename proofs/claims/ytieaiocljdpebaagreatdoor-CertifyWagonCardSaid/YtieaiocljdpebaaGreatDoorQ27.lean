/- Part 27 of the proof; the last part says what is shown. -/
import Derived.Test.YtieaiocljdpebaaGreatDoorQ5
import Derived.Test.YtieaiocljdpebaaGreatDoorQ4
set_option linter.defProp false
set_option linter.unusedVariables false
set_option linter.unusedSimpArgs false
set_option linter.unnecessarySimpa false
namespace Go.Proofs.YtieaiocljdpebaaGreatDoor.Y
open Go.RowKit
noncomputable section
theorem avL:Og TB 3000 11 []=some (.ret [.b true]):=by kernel_rfl
theorem avM:TB.Ev 11 [] (.ret [.b true]):=aps avL
end
end Go.Proofs.YtieaiocljdpebaaGreatDoor.Y
