/- Part 22 of the proof. -/
import Derived.Test.YtpmkfikkemaopaaGreatDoorQ4
set_option linter.all false
set_option maxRecDepth 100000
set_option maxHeartbeats 100000000
open Bool renaming true->J
open Option renaming some->U
namespace Go.Proofs.YtpmkfikkemaopaaGreatDoor.Y
open Go.RowKit
noncomputable section
theorem aCT:SH TB 3000 4 []=U (.ret [.b J]):=by kernel_rfl
theorem aCU:TB.Ev 4 [] (.ret [.b J]):=auU aCT
