/- Part 22 of the proof. -/
import Derived.Test.YtfpoabmmjhhncaaGreatDoorQ4
set_option linter.all false
set_option maxRecDepth 100000
set_option maxHeartbeats 100000000
open Bool renaming true->J
open Option renaming some->U
namespace Go.Proofs.YtfpoabmmjhhncaaGreatDoor.Y
open Go.RowKit
noncomputable section
theorem awG:Qb TB 3000 4 []=U (.ret [.b J]):=by kernel_rfl
theorem awH:TB.Ev 4 [] (.ret [.b J]):=ap2 awG
