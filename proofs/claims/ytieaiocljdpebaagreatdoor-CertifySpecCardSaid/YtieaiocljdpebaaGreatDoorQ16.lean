/- Part 16 of the proof. -/
import Derived.Test.YtieaiocljdpebaaGreatDoorQ4
import Derived.Test.YtieaiocljdpebaaGreatDoorQ6
set_option linter.all false
open Bool renaming true->J,false->E
open Option renaming some->U
open Go.IntKind renaming i64->I
namespace Go.Proofs.YtieaiocljdpebaaGreatDoor.Y
open Go.RowKit
noncomputable section
section
set_option maxRecDepth 100000
theorem aFa:bp 32 E E T32:=tk Tryz.func32 (lW:=J)
theorem aFb(X:ug qS):bp 63 E E T63:=tk Tryz.func63 (loops:=[(63,5,⟨[(26,.int I)],[(1,0,.ref (.own 3))]⟩),(63,12,⟨[(37,.int I)],[(1,0,.ref (.own 3))]⟩),(63,18,⟨[(60,.int I)],[(1,0,.ref (.own 3))]⟩)]) (srts:=qS) (hsr:=X)
theorem aFc:bp 39 E E T39:=tk Tryz.func39 (loops:=[(99,1,⟨[(10,.int I)],[(3,3,.ref (.own 71)),(3,4,.ref (.own 82)),(3,5,.ref (.own 65))]⟩)]) (inl:=[48,99,36])
theorem aFd(X:p9 Tryz.prog 61 45):bp 21 E J T21:=tk Tryz.func21 (loops:=[(21,8,⟨[(45,.int I)],[(23,0,.ref (.mr ⟨3,4,1,E,E⟩))]⟩),(21,15,⟨[(74,.int I),(16,.ref (.own 4)),(17,.ref (.own 82))],[]⟩),(99,1,⟨[(10,.int I)],[(24018,3,.ref (.own 71)),(24018,4,.ref (.own 82)),(24018,5,.ref (.own 65))]⟩),(47,8,⟨[(66,.int I)],[]⟩),(47,14,⟨[(99,.int I)],[]⟩)]) (inl:=[36,38,62,48,99,47,39]) (chs:=[(21,13),(21,1000020)]) (dT:=U 45) (hdc:=(λ_ h=>by cases h;exact YS (by kernel_rfl) X))
theorem aFe:bp 11 E E T11:=tk Tryz.func11 (lW:=J) (chs:=[(11,13),(11,17)])


def aFf:bp 15 E E Yi:=tk Tryz.func15 (loops:=[(15,4,⟨[(5,.int I)],[]⟩)])
def aFg:bp 43 E E Yj:=tk Tryz.func43 (loops:=[(43,4,⟨[(5,.int I)],[]⟩)])
def aFh:bp 44 E E Yk:=tk Tryz.func44 (loops:=[(44,4,⟨[(5,.int I)],[]⟩)])
def aFi:bp 45 E E Yl:=tk Tryz.func45 (loops:=[(45,4,⟨[(5,.int I)],[]⟩)])
def aFj:bp 98 E E T98:=tk Tryz.func98 (loops:=[(98,4,⟨[(5,.int I)],[]⟩)])

end
