/- Part 13 of the proof. -/
import Derived.Test.YtpmkfikkemaopaaGreatDoorQ9
set_option linter.all false
set_option maxRecDepth 100000
set_option maxHeartbeats 100000000
open Bool renaming true->J,false->E
open Option renaming some->U
open Go.IntKind renaming i64->I
namespace Go.Proofs.YtpmkfikkemaopaaGreatDoor.Y
open Go.RowKit
noncomputable section
theorem az9(X:wO Tryz.prog 79 50):bG 43 E J Va:=tk Tryz.func43 (loops:=[(80,5,⟨[(46,.int I),(2,.int I)],[]⟩),(80,11,⟨[(74,.int I)],[]⟩),(80,17,⟨[(86,.int I),(2,.int I)],[]⟩),(80,23,⟨[(122,.int I)],[]⟩)]) (inl:=[80,121,122]) (dT:=U 50) (hdc:=aee aT X)
theorem aAa(X:wO Tryz.prog 63 50):bG 37 E J T13:=tk Tryz.func37 (ct:=J) (loops:=[(150,1,⟨[(10,.int I)],[(13,3,.am (.own 74)),(13,4,.am (.own 105)),(13,5,.am (.own 129))]⟩)]) (inl:=[65,66,95,67,96,150]) (dT:=U 50) (hdc:=aee aT X)
theorem aAb(X:uI rX)(W:wO Tryz.prog 143 50):bG 94 E J T16:=tk Tryz.func94 (ct:=J) (loops:=[(94,17,⟨[(15,.am (.own 243))],[(33,3,.am (.mr ⟨3,1099511627778,1,E,E⟩))]⟩),(94,22,⟨[(104,.int I),(8,.am (.own 251))],[]⟩),(144,8,⟨[(66,.int I)],[]⟩),(144,14,⟨[(99,.int I)],[]⟩),(150,1,⟨[(10,.int I)],[(25019,3,.am (.own 74)),(25019,4,.am (.own 105)),(25019,5,.am (.own 129)),(25,0,.am (.mr ⟨243,4,3,J,E⟩))]⟩),(146,4,⟨[(33,.int I)],[(25,0,.am (.mr ⟨243,4,3,J,E⟩))]⟩),(146,17,⟨[(117,.int I)],[(25,0,.am (.mr ⟨243,4,3,J,E⟩))]⟩),(147,7,⟨[(55,.int I)],[(25,0,.am (.mr ⟨243,4,3,J,E⟩))]⟩),(147,14,⟨[(73,.int I)],[(25,0,.am (.mr ⟨243,4,3,J,E⟩))]⟩),(189,2,⟨[(11,.int I),(4,.am (.own 129))],[]⟩),(183,2,⟨[(8,.int I)],[]⟩)]) (inl:=[144,65,66,95,67,96,150,146,147,189,183,184]) (srts:=rX) (dT:=U 50) (hsr:=X) (hdc:=aee aT W)
