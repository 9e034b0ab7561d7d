/- Part 17 of the proof. -/
import Derived.Test.YtieaiocljdpebaaGreatDoorQ6
set_option linter.all false
open Bool renaming true->J
open Option renaming some->U
namespace Go.Proofs.YtieaiocljdpebaaGreatDoor.Y
open Go.RowKit
noncomputable section
theorem aCh:R6 TB 3000 11 []=U (.ret [.b J]):=by kernel_rfl
theorem aCi:TB.Ev 11 [] (.ret [.b J]):=avf aCh
