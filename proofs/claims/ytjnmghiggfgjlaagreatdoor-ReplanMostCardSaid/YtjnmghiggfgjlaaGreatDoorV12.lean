/- Part 12. -/
import Derived.Test.YtjnmghiggfgjlaaGreatDoorV7
set_option linter.all false
set_option maxRecDepth 100000
set_option maxHeartbeats 100000000
open Bool renaming true->J,false->E
open Go.IntKind renaming i64->I
namespace Go.Proofs.YtjnmghiggfgjlaaGreatDoor.Y
open Go.RowKit
noncomputable section
theorem aGm:cg 150 E E ai0:=tk Tryz.func150 (loops:=[(150,14,⟨[(80,.int I),(12,.ak (.own 298))],[(2,0,.ak (.mr ⟨188,4,2,J,E⟩)),(3,0,.ak (.mr ⟨188,4,2,J,E⟩)),(4,0,.ak (.mr ⟨188,4,2,J,E⟩))]⟩),(150,22,⟨[(106,.int I),(19,.ak (.own 139)),(12,.ak (.own 298))],[]⟩),(150,34,⟨[(145,.int I),(12,.ak (.own 298))],[]⟩),(150,37,⟨[(28,.int I),(12,.ak (.own 298))],[]⟩),(150,44,⟨[(184,.int I),(12,.ak (.own 298))],[]⟩),(150,47,⟨[(189,.int I),(12,.ak (.own 298))],[]⟩),(150,55,⟨[(226,.int I),(12,.ak (.own 298))],[]⟩),(223,2,⟨[(8,.int I)],[]⟩)]) (inl:=[182,183,223])
