/- Part 15. -/
import Derived.Test.YtjnmghiggfgjlaaGreatDoorV7
set_option linter.all false
set_option maxRecDepth 100000
set_option maxHeartbeats 100000000
open Bool renaming false->E
open Go.IntKind renaming i64->I
namespace Go.Proofs.YtjnmghiggfgjlaaGreatDoor.Y
open Go.RowKit
noncomputable section
theorem aGq(X:ue ug):cg 44 E E T63:=tk Tryz.func44 (loops:=[(44,5,⟨[(26,.int I)],[(1,0,.ak (.own 3))]⟩),(44,12,⟨[(37,.int I)],[(1,0,.ak (.own 3))]⟩),(44,18,⟨[(60,.int I)],[(1,0,.ak (.own 3))]⟩)]) (srts:=ug) (hsr:=X)




