/- Part 19. -/
import Derived.Test.YtjnmghiggfgjlaaGreatDoorV4
set_option linter.all false
set_option maxRecDepth 100000
set_option maxHeartbeats 100000000
open Bool renaming true->J
open Option renaming some->U
namespace Go.Proofs.YtjnmghiggfgjlaaGreatDoor.Y
open Go.RowKit
noncomputable section
theorem aIu:X6 TB 3000 6 []=U (.ret [.b J]):=by kernel_rfl
theorem aIv:TB.Ev 6 [] (.ret [.b J]):=aAR aIu
