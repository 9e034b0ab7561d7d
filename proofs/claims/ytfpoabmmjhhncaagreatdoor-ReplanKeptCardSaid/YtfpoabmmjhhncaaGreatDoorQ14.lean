/- Part 14 of the proof. -/
import Derived.Test.YtfpoabmmjhhncaaGreatDoorQ9
set_option linter.all false
set_option maxRecDepth 100000
set_option maxHeartbeats 100000000
open Bool renaming true->J,false->E
open Go.IntKind renaming i64->I
namespace Go.Proofs.YtfpoabmmjhhncaaGreatDoor.Y
open Go.RowKit
noncomputable section
theorem auC:cq 170 E E aiq:=tk Tryz.func170 (ct:=J) (loops:=[(170,14,⟨[(80,.int I),(12,.ah (.own 316))],[(2,0,.ah (.mr ⟨148,4,2,J,E⟩)),(3,0,.ah (.mr ⟨148,4,2,J,E⟩)),(4,0,.ah (.mr ⟨148,4,2,J,E⟩))]⟩),(170,22,⟨[(106,.int I),(19,.ah (.own 124)),(12,.ah (.own 316))],[]⟩),(170,34,⟨[(145,.int I),(12,.ah (.own 316))],[]⟩),(170,37,⟨[(28,.int I),(12,.ah (.own 316))],[]⟩),(170,44,⟨[(184,.int I),(12,.ah (.own 316))],[]⟩),(170,47,⟨[(189,.int I),(12,.ah (.own 316))],[]⟩),(170,55,⟨[(226,.int I),(12,.ah (.own 316))],[]⟩),(222,2,⟨[(8,.int I)],[]⟩)]) (inl:=[189,190,222])
