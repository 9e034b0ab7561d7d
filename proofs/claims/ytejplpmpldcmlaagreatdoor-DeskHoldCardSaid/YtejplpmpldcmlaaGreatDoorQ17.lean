/- Part 17 of the proof. -/
import Derived.Test.YtejplpmpldcmlaaGreatDoorQ9
set_option linter.all false
set_option maxRecDepth 100000
set_option maxHeartbeats 100000000
open Bool renaming false->E
open Go.IntKind renaming i64->I
namespace Go.Proofs.YtejplpmpldcmlaaGreatDoor.Y
open Go.RowKit
noncomputable section
theorem aFi(X:vV tj):bF 52 E E T63:=tk Tryz.func52 (loops:=[(52,5,⟨[(26,.int I)],[(1,0,.ah (.own 3))]⟩),(52,12,⟨[(37,.int I)],[(1,0,.ah (.own 3))]⟩),(52,18,⟨[(60,.int I)],[(1,0,.ah (.own 3))]⟩)]) (srts:=tj) (hsr:=X)
theorem aFj:bF 32 E E T44:=tk Tryz.func32 (loops:=[(32,4,⟨[(5,.int I)],[]⟩)])
