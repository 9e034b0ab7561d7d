/- Part 21 of the proof. -/
import Derived.Test.YtieaiocljdpebaaGreatDoorQ4
set_option linter.all false
set_option maxRecDepth 100000
set_option maxHeartbeats 100000000
open Bool renaming true->J
open Option renaming some->U
namespace Go.Proofs.YtieaiocljdpebaaGreatDoor.Y
open Go.RowKit
noncomputable section
theorem aJ3:Wr TB 3000 11 []=U (.ret [.b J]):=by kernel_rfl
theorem aJ4:TB.Ev 11 [] (.ret [.b J]):=aBk aJ3
