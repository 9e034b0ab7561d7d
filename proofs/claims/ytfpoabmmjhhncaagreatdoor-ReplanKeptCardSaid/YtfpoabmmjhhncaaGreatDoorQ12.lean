/- Part 12 of the proof. -/
import Derived.Test.YtfpoabmmjhhncaaGreatDoorQ9
set_option linter.all false
set_option maxRecDepth 100000
set_option maxHeartbeats 100000000
open Bool renaming true->J,false->E
open Go.IntKind renaming i64->I
namespace Go.Proofs.YtfpoabmmjhhncaaGreatDoor.Y
open Go.RowKit
noncomputable section
theorem auq:cq 138 E E T27:=tk Tryz.func138 (ct:=J) (inl:=[160,180])
theorem aur:cq 41 E E Y2:=tk Tryz.func41
theorem aus:cq 69 E E Y3:=tk Tryz.func69 (loops:=[(99,4,⟨[(4,.int I),(2,.int I)],[]⟩)]) (inl:=[99])
theorem aut:cq 52 E E Y4:=tk Tryz.func52 (loops:=[(99,4,⟨[(4,.int I),(2,.int I)],[]⟩)]) (inl:=[69,99])
theorem auu:cq 36 E E Y5:=tk Tryz.func36 (inl:=[56,55,73,74,75,76,77,78])
theorem auv:cq 48 E E Y6:=tk Tryz.func48 (loops:=[(48,6,⟨[(22,.int I)],[(1,0,.ah (.mr ⟨148,4,2,J,E⟩))]⟩),(48,12,⟨[(61,.int I),(4,.ah (.own 148))],[]⟩),(48,15,⟨[(67,.int I),(4,.ah (.own 148))],[]⟩)])
theorem auw(X:s9 qE):cq 39 E E RZ:=tk Tryz.func39 (loops:=[(62,6,⟨[(22,.int I),(4,.ah (.own 205))],[]⟩),(62,9,⟨[(28,.int I),(4,.ah (.own 205))],[]⟩)]) (inl:=[62,84]) (srts:=qE) (hsr:=X)
theorem aux:cq 136 E E T89:=tk Tryz.func136 (ct:=J) (loops:=[(177,2,⟨[(14,.int I)],[(2,0,.int I),(2,1,.int I),(2,2,.int I),(2,3,.int I),(2,4,.int I),(2,5,.int I),(2,6,.int I),(2,7,.int I),(2,8,.int I),(2,9,.int I),(2,10,.int I),(2,11,.int I),(2,12,.int I),(4,0,.int I),(4,1,.int I),(4,2,.int I),(4,3,.int I),(4,4,.int I),(4,5,.int I),(4,6,.int I),(4,7,.int I),(4,8,.int I),(4,9,.int I),(4,10,.int I),(4,11,.int I),(4,12,.int I)]⟩)]) (inl:=[155,177])
theorem auy:cq 178 E E ain:=tk Tryz.func178 (ct:=J) (inl:=[201,202,226,227,228,229,230,231,232,233,234,253,254,255]) (chs:=[(255,3000)])
