/- Part 17 of the proof. -/
import Derived.Test.YtieaiocljdpebaaGreatDoorQ4
import Derived.Test.YtieaiocljdpebaaGreatDoorQ6
set_option linter.all false
set_option maxRecDepth 100000
set_option maxHeartbeats 100000000
open Bool renaming true->J,false->E
open Option renaming some->U
open Go.IntKind renaming i64->I
namespace Go.Proofs.YtieaiocljdpebaaGreatDoor.Y
open Go.RowKit
noncomputable section
theorem aHC:bB 32 E E T32:=tk Tryz.func32 (ct:=J) (nZ:=J)
theorem aHD(X:wK t7):bB 63 E E T63:=tk Tryz.func63 (loops:=[(63,5,⟨[(26,.int I)],[(1,0,.aj (.own 3))]⟩),(63,12,⟨[(37,.int I)],[(1,0,.aj (.own 3))]⟩),(63,18,⟨[(60,.int I)],[(1,0,.aj (.own 3))]⟩)]) (srts:=t7) (hsr:=X)
theorem aHE:bB 39 E E T39:=tk Tryz.func39 (loops:=[(99,1,⟨[(10,.int I)],[(3,3,.aj (.own 71)),(3,4,.aj (.own 82)),(3,5,.aj (.own 65))]⟩)]) (inl:=[48,99,36])
theorem aHF(dH:s4 Tryz.prog 61 45):bB 21 E J SI:=tk Tryz.func21 (loops:=[(21,8,⟨[(45,.int I)],[(23,0,.aj (.mr ⟨3,4,1,E,E⟩))]⟩),(21,15,⟨[(74,.int I),(16,.aj (.own 4)),(17,.aj (.own 82))],[]⟩),(99,1,⟨[(10,.int I)],[(24018,3,.aj (.own 71)),(24018,4,.aj (.own 82)),(24018,5,.aj (.own 65))]⟩),(47,8,⟨[(66,.int I)],[]⟩),(47,14,⟨[(99,.int I)],[]⟩)]) (inl:=[36,38,62,48,99,47,39]) (chs:=[(21,13),(21,1000020)]) (dT:=U 45) (hdc:=(λ_ h=>by cases h;exact aaa bh dH))
theorem aHG:bB 11 E E T11:=tk Tryz.func11 (ct:=J) (nZ:=J) (chs:=[(11,13),(11,17)])
def aHH:bB 15 E E ZA:=tk Tryz.func15 (loops:=[(15,4,⟨[(5,.int I)],[]⟩)])
def aHI:bB 43 E E ZB:=tk Tryz.func43 (loops:=[(43,4,⟨[(5,.int I)],[]⟩)])
def aHJ:bB 44 E E ZC:=tk Tryz.func44 (loops:=[(44,4,⟨[(5,.int I)],[]⟩)])
def aHK:bB 45 E E ZD:=tk Tryz.func45 (loops:=[(45,4,⟨[(5,.int I)],[]⟩)])
def aHL:bB 98 E E T98:=tk Tryz.func98 (loops:=[(98,4,⟨[(5,.int I)],[]⟩)])
