/- Part 17 of the proof. -/
import Derived.Test.YtpmkfikkemaopaaGreatDoorQ9
set_option linter.all false
set_option maxRecDepth 100000
set_option maxHeartbeats 100000000
open Bool renaming false->E
open Go.IntKind renaming i64->I
namespace Go.Proofs.YtpmkfikkemaopaaGreatDoor.Y
open Go.RowKit
noncomputable section
theorem aAg(X:uI rX):bG 41 E E T63:=tk Tryz.func41 (loops:=[(41,5,⟨[(26,.int I)],[(1,0,.am (.own 3))]⟩),(41,12,⟨[(37,.int I)],[(1,0,.am (.own 3))]⟩),(41,18,⟨[(60,.int I)],[(1,0,.am (.own 3))]⟩)]) (srts:=rX) (hsr:=X)
theorem aAh:bG 26 E E T44:=tk Tryz.func26 (loops:=[(26,4,⟨[(5,.int I)],[]⟩)])
