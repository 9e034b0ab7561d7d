/- Part 14 of the proof. -/
import Derived.Test.YtpmkfikkemaopaaGreatDoorQ9
set_option linter.all false
set_option maxRecDepth 100000
set_option maxHeartbeats 100000000
open Bool renaming true->J,false->E
open Go.IntKind renaming i64->I
namespace Go.Proofs.YtpmkfikkemaopaaGreatDoor.Y
open Go.RowKit
noncomputable section
theorem aAc:bG 190 E E ank:=tk Tryz.func190 (ct:=J) (loops:=[(190,14,⟨[(80,.int I),(12,.am (.own 301))],[(2,0,.am (.mr ⟨177,4,2,J,E⟩)),(3,0,.am (.mr ⟨177,4,2,J,E⟩)),(4,0,.am (.mr ⟨177,4,2,J,E⟩))]⟩),(190,22,⟨[(106,.int I),(19,.am (.own 129)),(12,.am (.own 301))],[]⟩),(190,34,⟨[(145,.int I),(12,.am (.own 301))],[]⟩),(190,37,⟨[(28,.int I),(12,.am (.own 301))],[]⟩),(190,44,⟨[(184,.int I),(12,.am (.own 301))],[]⟩),(190,47,⟨[(189,.int I),(12,.am (.own 301))],[]⟩),(190,55,⟨[(226,.int I),(12,.am (.own 301))],[]⟩),(273,2,⟨[(8,.int I)],[]⟩)]) (inl:=[228,229,273])
