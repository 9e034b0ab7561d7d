/- Part 17 of the proof. -/
import Derived.Test.YtejplpmpldcmlaaGreatDoorV9
set_option linter.all false
set_option maxRecDepth 100000
set_option maxHeartbeats 100000000
open Bool renaming false->E
open Go.IntKind renaming i64->I
namespace Go.Proofs.YtejplpmpldcmlaaGreatDoor.Y
open Go.RowKit
noncomputable section
theorem aFU(X:v8 tK):bC 52 E E T63:=tk Tryz.func52 (loops:=[(52,5,⟨[(26,.int I)],[(1,0,.ah (.own 3))]⟩),(52,12,⟨[(37,.int I)],[(1,0,.ah (.own 3))]⟩),(52,18,⟨[(60,.int I)],[(1,0,.ah (.own 3))]⟩)]) (srts:=tK) (hsr:=X)
theorem aFV:bC 18 E E T15:=tk Tryz.func18 (loops:=[(18,4,⟨[(5,.int I)],[]⟩)])
theorem aFW:bC 45 E E T43:=tk Tryz.func45 (loops:=[(45,4,⟨[(5,.int I)],[]⟩)])
theorem aFX:bC 32 E E T44:=tk Tryz.func32 (loops:=[(32,4,⟨[(5,.int I)],[]⟩)])
theorem aFY:bC 46 E E T45:=tk Tryz.func46 (loops:=[(46,4,⟨[(5,.int I)],[]⟩)])
theorem aFZ:bC 82 E E T98:=tk Tryz.func82 (loops:=[(82,4,⟨[(5,.int I)],[]⟩)])
