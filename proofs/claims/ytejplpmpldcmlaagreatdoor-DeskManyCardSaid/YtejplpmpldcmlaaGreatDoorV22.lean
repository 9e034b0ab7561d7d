/- Part 22 of the proof. -/
import Derived.Test.YtejplpmpldcmlaaGreatDoorV4
set_option linter.all false
set_option maxRecDepth 100000
set_option maxHeartbeats 100000000
open Bool renaming true->J
open Option renaming some->U
namespace Go.Proofs.YtejplpmpldcmlaaGreatDoor.Y
open Go.RowKit
noncomputable section
theorem aIC:Vf TB 3000 5 []=U (.ret [.b J]):=by kernel_rfl
theorem aID:TB.Ev 5 [] (.ret [.b J]):=azW aIC
