/- Part 13 of the proof. -/
import Derived.Test.YtieaiocljdpebaaGreatDoorQ4
import Derived.Test.YtieaiocljdpebaaGreatDoorQ6
set_option linter.all false
set_option maxRecDepth 100000
set_option maxHeartbeats 100000000
open Bool renaming true->J,false->E
open Option renaming some->U
open Go.IntKind renaming i64->I
namespace Go.Proofs.YtieaiocljdpebaaGreatDoor.Y
open Go.RowKit
noncomputable section
theorem aHv(dH:s4 Tryz.prog 151 45):bB 81 E J Zz:=tk Tryz.func81 (loops:=[(152,5,⟨[(46,.int I),(2,.int I)],[]⟩),(152,11,⟨[(74,.int I)],[]⟩),(152,17,⟨[(86,.int I),(2,.int I)],[]⟩),(152,23,⟨[(122,.int I)],[]⟩)]) (inl:=[152,218,219]) (dT:=U 45) (hdc:=(λ_ h=>by cases h;exact aaa bh dH))
theorem aHw(dH:s4 Tryz.prog 34 45):bB 13 E J T13:=tk Tryz.func13 (loops:=[(99,1,⟨[(10,.int I)],[(13,3,.aj (.own 71)),(13,4,.aj (.own 82)),(13,5,.aj (.own 65))]⟩)]) (inl:=[36,38,62,39,48,99]) (dT:=U 45) (hdc:=(λ_ h=>by cases h;exact aaa bh dH))
theorem aHx(X:wK t7)(dH:s4 Tryz.prog 46 45):bB 16 E J T16:=tk Tryz.func16 (ct:=J) (loops:=[(16,17,⟨[(15,.aj (.own 118))],[(33,3,.aj (.mr ⟨3,1099511627778,1,E,E⟩))]⟩),(16,22,⟨[(104,.int I),(8,.aj (.own 98))],[]⟩),(47,8,⟨[(66,.int I)],[]⟩),(47,14,⟨[(99,.int I)],[]⟩),(99,1,⟨[(10,.int I)],[(25019,3,.aj (.own 71)),(25019,4,.aj (.own 82)),(25019,5,.aj (.own 65)),(25,0,.aj (.mr ⟨118,4,3,J,E⟩))]⟩),(49,4,⟨[(33,.int I)],[(25,0,.aj (.mr ⟨118,4,3,J,E⟩))]⟩),(49,17,⟨[(117,.int I)],[(25,0,.aj (.mr ⟨118,4,3,J,E⟩))]⟩),(50,7,⟨[(55,.int I)],[(25,0,.aj (.mr ⟨118,4,3,J,E⟩))]⟩),(50,14,⟨[(73,.int I)],[(25,0,.aj (.mr ⟨118,4,3,J,E⟩))]⟩),(105,2,⟨[(11,.int I),(4,.aj (.own 65))],[]⟩),(100,2,⟨[(8,.int I)],[]⟩)]) (inl:=[47,36,38,62,39,48,99,49,50,105,100,101]) (srts:=t7) (dT:=U 45) (hsr:=X) (hdc:=(λ_ h=>by cases h;exact aaa bh dH))
