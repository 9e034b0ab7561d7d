/- Part 12 of the proof. -/
import Derived.Test.YtieaiocljdpebaaGreatDoorQ4
import Derived.Test.YtieaiocljdpebaaGreatDoorQ6
set_option linter.all false
set_option maxRecDepth 100000
set_option maxHeartbeats 100000000
open Bool renaming true->J,false->E
open Go.IntKind renaming i64->I
namespace Go.Proofs.YtieaiocljdpebaaGreatDoor.Y
open Go.RowKit
noncomputable section
def aHm:bB 27 E E Fb:=tk Tryz.func27 (inl:=[76,137])
def aHn:bB 74 E E SE:=tk Tryz.func74
def aHo:bB 153 E E Zx:=tk Tryz.func153 (loops:=[(221,4,⟨[(4,.int I),(2,.int I)],[]⟩)]) (inl:=[221])
def aHp:bB 83 E E Zy:=tk Tryz.func83 (loops:=[(221,4,⟨[(4,.int I),(2,.int I)],[]⟩)]) (inl:=[153,221])
def aHq:bB 75 E E SF:=tk Tryz.func75 (inl:=[80,136,145,146,147,148,149,150])
def aHr:bB 23 E E T23:=tk Tryz.func23 (loops:=[(23,6,⟨[(22,.int I)],[(1,0,.aj (.mr ⟨142,4,2,J,E⟩))]⟩),(23,12,⟨[(61,.int I),(4,.aj (.own 142))],[]⟩),(23,15,⟨[(67,.int I),(4,.aj (.own 142))],[]⟩)])
def aHs(X:wK t7):bB 85 E E SH:=tk Tryz.func85 (loops:=[(155,6,⟨[(22,.int I),(4,.aj (.own 258))],[]⟩),(155,9,⟨[(28,.int I),(4,.aj (.own 258))],[]⟩)]) (inl:=[155,222]) (srts:=t7) (hsr:=X)
def aHt:bB 89 E E T89:=tk Tryz.func89 (loops:=[(226,2,⟨[(14,.int I)],[(2,0,.int I),(2,1,.int I),(2,2,.int I),(2,3,.int I),(2,4,.int I),(2,5,.int I),(2,6,.int I),(2,7,.int I),(2,8,.int I),(2,9,.int I),(2,10,.int I),(2,11,.int I),(2,12,.int I),(4,0,.int I),(4,1,.int I),(4,2,.int I),(4,3,.int I),(4,4,.int I),(4,5,.int I),(4,6,.int I),(4,7,.int I),(4,8,.int I),(4,9,.int I),(4,10,.int I),(4,11,.int I),(4,12,.int I)]⟩)]) (inl:=[156,226])
def aHu:bB 227 E E rz:=tk Tryz.func227 (inl:=[285,286,333,334,335,336,337,338,339,340,341,365,366,367]) (chs:=[(367,3000)])
