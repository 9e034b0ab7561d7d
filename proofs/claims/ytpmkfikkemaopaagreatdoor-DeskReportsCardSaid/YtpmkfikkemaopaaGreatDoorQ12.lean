/- Part 12 of the proof. -/
import Derived.Test.YtpmkfikkemaopaaGreatDoorQ9
set_option linter.all false
set_option maxRecDepth 100000
set_option maxHeartbeats 100000000
open Bool renaming true->J,false->E
open Go.IntKind renaming i64->I
namespace Go.Proofs.YtpmkfikkemaopaaGreatDoor.Y
open Go.RowKit
noncomputable section
theorem az0:bG 102 E E T27:=tk Tryz.func102 (ct:=J) (inl:=[156,197])
theorem az1:bG 29 E E O8:=tk Tryz.func29
theorem az2:bG 81 E E U6:=tk Tryz.func81 (loops:=[(124,4,⟨[(4,.int I),(2,.int I)],[]⟩)]) (inl:=[124])
theorem az3:bG 45 E E U7:=tk Tryz.func45 (loops:=[(124,4,⟨[(4,.int I),(2,.int I)],[]⟩)]) (inl:=[81,124])
theorem az4:bG 38 E E U8:=tk Tryz.func38 (inl:=[70,69,104,105,106,107,108,109])
theorem az5:bG 75 E E T23:=tk Tryz.func75 (loops:=[(75,6,⟨[(22,.int I)],[(1,0,.am (.mr ⟨177,4,2,J,E⟩))]⟩),(75,12,⟨[(61,.int I),(4,.am (.own 177))],[]⟩),(75,15,⟨[(67,.int I),(4,.am (.own 177))],[]⟩)])
theorem az6(X:uI rX):bG 42 E E U9:=tk Tryz.func42 (loops:=[(78,6,⟨[(22,.int I),(4,.am (.own 226))],[]⟩),(78,9,⟨[(28,.int I),(4,.am (.own 226))],[]⟩)]) (inl:=[78,116]) (srts:=rX) (hsr:=X)
theorem az7:bG 100 E E T89:=tk Tryz.func100 (ct:=J) (loops:=[(194,2,⟨[(14,.int I)],[(2,0,.int I),(2,1,.int I),(2,2,.int I),(2,3,.int I),(2,4,.int I),(2,5,.int I),(2,6,.int I),(2,7,.int I),(2,8,.int I),(2,9,.int I),(2,10,.int I),(2,11,.int I),(2,12,.int I),(4,0,.int I),(4,1,.int I),(4,2,.int I),(4,3,.int I),(4,4,.int I),(4,5,.int I),(4,6,.int I),(4,7,.int I),(4,8,.int I),(4,9,.int I),(4,10,.int I),(4,11,.int I),(4,12,.int I)]⟩)]) (inl:=[151,194])
theorem az8:bG 195 E E anh:=tk Tryz.func195 (ct:=J) (inl:=[240,241,277,278,279,280,281,282,283,284,285,307,308,309]) (chs:=[(309,3000)])
