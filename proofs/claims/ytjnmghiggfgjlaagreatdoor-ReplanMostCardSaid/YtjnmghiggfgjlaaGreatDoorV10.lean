/- Part 10. -/
import Derived.Test.YtjnmghiggfgjlaaGreatDoorV7
set_option linter.all false
set_option maxRecDepth 100000
set_option maxHeartbeats 100000000
open Bool renaming true->J,false->E
open Go.IntKind renaming i64->I
namespace Go.Proofs.YtjnmghiggfgjlaaGreatDoor.Y
open Go.RowKit
noncomputable section
theorem aGa:cg 115 E E T27:=tk Tryz.func115 (inl:=[140,173])
theorem aGb:cg 34 E E T74:=tk Tryz.func34
theorem aGc:cg 87 E E aiV:=tk Tryz.func87 (loops:=[(126,4,⟨[(4,.int I),(2,.int I)],[]⟩)]) (inl:=[126])
theorem aGd:cg 62 E E T83:=tk Tryz.func62 (loops:=[(126,4,⟨[(4,.int I),(2,.int I)],[]⟩)]) (inl:=[87,126])
theorem aGe:cg 41 E E T75:=tk Tryz.func41 (inl:=[66,65,91,92,93,94,95,96])
theorem aGf:cg 71 E E T23:=tk Tryz.func71 (loops:=[(71,6,⟨[(22,.int I)],[(1,0,.ak (.mr ⟨188,4,2,J,E⟩))]⟩),(71,12,⟨[(61,.int I),(4,.ak (.own 188))],[]⟩),(71,15,⟨[(67,.int I),(4,.ak (.own 188))],[]⟩)])
theorem aGg(X:ue ug):cg 45 E E UB:=tk Tryz.func45 (loops:=[(74,6,⟨[(22,.int I),(4,.ak (.own 227))],[]⟩),(74,9,⟨[(28,.int I),(4,.ak (.own 227))],[]⟩)]) (inl:=[74,103]) (srts:=ug) (hsr:=X)
theorem aGh:cg 113 E E T89:=tk Tryz.func113 (loops:=[(170,2,⟨[(14,.int I)],[(2,0,.int I),(2,1,.int I),(2,2,.int I),(2,3,.int I),(2,4,.int I),(2,5,.int I),(2,6,.int I),(2,7,.int I),(2,8,.int I),(2,9,.int I),(2,10,.int I),(2,11,.int I),(2,12,.int I),(4,0,.int I),(4,1,.int I),(4,2,.int I),(4,3,.int I),(4,4,.int I),(4,5,.int I),(4,6,.int I),(4,7,.int I),(4,8,.int I),(4,9,.int I),(4,10,.int I),(4,11,.int I),(4,12,.int I)]⟩)]) (inl:=[135,170])
theorem aGi:cg 171 E E aaW:=tk Tryz.func171 (inl:=[202,203,230,231,232,233,234,235,236,237,238,257,258,259]) (chs:=[(259,3000)])
