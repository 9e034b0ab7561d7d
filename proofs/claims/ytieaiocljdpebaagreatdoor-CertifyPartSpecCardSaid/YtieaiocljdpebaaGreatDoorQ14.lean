/- Part 14 of the proof. -/
import Derived.Test.YtieaiocljdpebaaGreatDoorQ4
import Derived.Test.YtieaiocljdpebaaGreatDoorQ6
set_option linter.all false
set_option maxRecDepth 100000
set_option maxHeartbeats 100000000
open Bool renaming true->J,false->E
open Go.IntKind renaming i64->I
namespace Go.Proofs.YtieaiocljdpebaaGreatDoor.Y
open Go.RowKit
noncomputable section
theorem aHy:bB 106 E E as7:=tk Tryz.func106 (ct:=J) (loops:=[(106,14,⟨[(80,.int I),(12,.aj (.own 202))],[(2,0,.aj (.mr ⟨142,4,2,J,E⟩)),(3,0,.aj (.mr ⟨142,4,2,J,E⟩)),(4,0,.aj (.mr ⟨142,4,2,J,E⟩))]⟩),(106,22,⟨[(106,.int I),(19,.aj (.own 65)),(12,.aj (.own 202))],[]⟩),(106,34,⟨[(145,.int I),(12,.aj (.own 202))],[]⟩),(106,37,⟨[(28,.int I),(12,.aj (.own 202))],[]⟩),(106,44,⟨[(184,.int I),(12,.aj (.own 202))],[]⟩),(106,47,⟨[(189,.int I),(12,.aj (.own 202))],[]⟩),(106,55,⟨[(226,.int I),(12,.aj (.own 202))],[]⟩),(252,2,⟨[(8,.int I)],[]⟩)]) (inl:=[179,180,252])
