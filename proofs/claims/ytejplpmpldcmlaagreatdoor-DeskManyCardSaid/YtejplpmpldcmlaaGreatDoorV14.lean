/- Part 14 of the proof. -/
import Derived.Test.YtejplpmpldcmlaaGreatDoorV9
set_option linter.all false
set_option maxRecDepth 100000
set_option maxHeartbeats 100000000
open Bool renaming true->J,false->E
open Go.IntKind renaming i64->I
namespace Go.Proofs.YtejplpmpldcmlaaGreatDoor.Y
open Go.RowKit
noncomputable section
theorem aFQ:bC 201 E E arU:=tk Tryz.func201 (ct:=J) (loops:=[(201,14,⟨[(80,.int I),(12,.ah (.own 312))],[(2,0,.ah (.mr ⟨197,4,2,J,E⟩)),(3,0,.ah (.mr ⟨197,4,2,J,E⟩)),(4,0,.ah (.mr ⟨197,4,2,J,E⟩))]⟩),(201,22,⟨[(106,.int I),(19,.ah (.own 124)),(12,.ah (.own 312))],[]⟩),(201,34,⟨[(145,.int I),(12,.ah (.own 312))],[]⟩),(201,37,⟨[(28,.int I),(12,.ah (.own 312))],[]⟩),(201,44,⟨[(184,.int I),(12,.ah (.own 312))],[]⟩),(201,47,⟨[(189,.int I),(12,.ah (.own 312))],[]⟩),(201,55,⟨[(226,.int I),(12,.ah (.own 312))],[]⟩),(289,2,⟨[(8,.int I)],[]⟩)]) (inl:=[237,238,289])
