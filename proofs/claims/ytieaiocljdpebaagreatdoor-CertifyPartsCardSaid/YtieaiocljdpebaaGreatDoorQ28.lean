/- Part 28 of the proof; the last part says what is shown. -/
import Derived.Test.YtieaiocljdpebaaGreatDoorQ5
import Derived.Test.YtieaiocljdpebaaGreatDoorQ4
set_option linter.all false
namespace Go.Proofs.YtieaiocljdpebaaGreatDoor.Y
open Go.RowKit
noncomputable section
theorem axs:OF TB 3000 11 []=some (.ret [.b true]):=by kernel_rfl
theorem axt:TB.Ev 11 [] (.ret [.b true]):=aqW axs
end
end Go.Proofs.YtieaiocljdpebaaGreatDoor.Y
