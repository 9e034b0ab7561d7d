/- Part 10. -/
import Derived.Test.YtjnmghiggfgjlaaGreatDoorW7
set_option linter.all false
set_option maxRecDepth 100000
set_option maxHeartbeats 100000000
open Bool renaming true->J,false->E
open Go.IntKind renaming i64->I
namespace Go.Proofs.YtjnmghiggfgjlaaGreatDoor.Y
open Go.RowKit
noncomputable section
theorem aF1:cj 115 E E T27:=tk Tryz.func115 (inl:=[140,173])
theorem aF2:cj 34 E E T74:=tk Tryz.func34
theorem aF3:cj 87 E E aiJ:=tk Tryz.func87 (loops:=[(126,4,⟨[(4,.int I),(2,.int I)],[]⟩)]) (inl:=[126])
theorem aF4:cj 62 E E T83:=tk Tryz.func62 (loops:=[(126,4,⟨[(4,.int I),(2,.int I)],[]⟩)]) (inl:=[87,126])
theorem aF5:cj 41 E E T75:=tk Tryz.func41 (inl:=[66,65,91,92,93,94,95,96])
theorem aF6:cj 71 E E T23:=tk Tryz.func71 (loops:=[(71,6,⟨[(22,.int I)],[(1,0,.ak (.mr ⟨188,4,2,J,E⟩))]⟩),(71,12,⟨[(61,.int I),(4,.ak (.own 188))],[]⟩),(71,15,⟨[(67,.int I),(4,.ak (.own 188))],[]⟩)])
theorem aF7(X:uf uh):cj 45 E E Ut:=tk Tryz.func45 (loops:=[(74,6,⟨[(22,.int I),(4,.ak (.own 227))],[]⟩),(74,9,⟨[(28,.int I),(4,.ak (.own 227))],[]⟩)]) (inl:=[74,103]) (srts:=uh) (hsr:=X)
theorem aF8:cj 113 E E T89:=tk Tryz.func113 (loops:=[(170,2,⟨[(14,.int I)],[(2,0,.int I),(2,1,.int I),(2,2,.int I),(2,3,.int I),(2,4,.int I),(2,5,.int I),(2,6,.int I),(2,7,.int I),(2,8,.int I),(2,9,.int I),(2,10,.int I),(2,11,.int I),(2,12,.int I),(4,0,.int I),(4,1,.int I),(4,2,.int I),(4,3,.int I),(4,4,.int I),(4,5,.int I),(4,6,.int I),(4,7,.int I),(4,8,.int I),(4,9,.int I),(4,10,.int I),(4,11,.int I),(4,12,.int I)]⟩)]) (inl:=[135,170])
theorem aF9:cj 171 E E aaJ:=tk Tryz.func171 (inl:=[202,203,230,231,232,233,234,235,236,237,238,257,258,259]) (chs:=[(259,3000)])
