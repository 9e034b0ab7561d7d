/- Part 17 of the proof. -/
import Derived.Test.YtfpoabmmjhhncaaGreatDoorQ9
set_option linter.all false
set_option maxRecDepth 100000
set_option maxHeartbeats 100000000
open Bool renaming false->E
open Go.IntKind renaming i64->I
namespace Go.Proofs.YtfpoabmmjhhncaaGreatDoor.Y
open Go.RowKit
noncomputable section
theorem auG(X:s9 qE):cq 31 E E Y8:=tk Tryz.func31 (loops:=[(31,5,⟨[(26,.int I)],[(1,0,.ah (.own 3))]⟩),(31,12,⟨[(37,.int I)],[(1,0,.ah (.own 3))]⟩),(31,18,⟨[(60,.int I)],[(1,0,.ah (.own 3))]⟩)]) (srts:=qE) (hsr:=X)

