/- Part 18 of the proof; the last part says what is shown. -/
import Derived.Test.YtieaiocljdpebaaGreatDoorQ13
import Derived.Test.YtieaiocljdpebaaGreatDoorQ5
set_option linter.all false
namespace Go.Proofs.YtieaiocljdpebaaGreatDoor.Y
open Go.RowKit
noncomputable section
section
set_option maxRecDepth 100000
def avD:bL 27 false false H4:=tk Tryz.func27 (inl:=[76,137])
def avE:bL 74 false false Sn:=tk Tryz.func74
def avF:bL 153 false false aaT:=tk Tryz.func153 (loops:=[(221,4,⟨[(4,.int .i64),(2,.int .i64)],[]⟩)]) (inl:=[221])
def avG:bL 83 false false T83:=tk Tryz.func83 (loops:=[(221,4,⟨[(4,.int .i64),(2,.int .i64)],[]⟩)]) (inl:=[153,221])
def avH:bL 75 false false Sq:=tk Tryz.func75 (inl:=[80,136,145,146,147,148,149,150])
def avI:bL 23 false false T23:=tk Tryz.func23 (loops:=[(23,6,⟨[(22,.int .i64)],[(1,0,.ref (.mr ⟨142,4,2,true,false⟩))]⟩),(23,12,⟨[(61,.int .i64),(4,.ref (.own 142))],[]⟩),(23,15,⟨[(67,.int .i64),(4,.ref (.own 142))],[]⟩)])
def avJ(Z:qn n7):bL 85 false false Sr:=tk Tryz.func85 (loops:=[(155,6,⟨[(22,.int .i64),(4,.ref (.own 258))],[]⟩),(155,9,⟨[(28,.int .i64),(4,.ref (.own 258))],[]⟩)]) (inl:=[155,222]) (srts:=n7) (hsr:=Z)
def avK:bL 89 false false Ss:=tk Tryz.func89 (loops:=[(226,2,⟨[(14,.int .i64)],[(2,0,.int .i64),(2,1,.int .i64),(2,2,.int .i64),(2,3,.int .i64),(2,4,.int .i64),(2,5,.int .i64),(2,6,.int .i64),(2,7,.int .i64),(2,8,.int .i64),(2,9,.int .i64),(2,10,.int .i64),(2,11,.int .i64),(2,12,.int .i64),(4,0,.int .i64),(4,1,.int .i64),(4,2,.int .i64),(4,3,.int .i64),(4,4,.int .i64),(4,5,.int .i64),(4,6,.int .i64),(4,7,.int .i64),(4,8,.int .i64),(4,9,.int .i64),(4,10,.int .i64),(4,11,.int .i64),(4,12,.int .i64)]⟩)]) (inl:=[156,226])
def avL:bL 227 false false H5:=tk Tryz.func227 (inl:=[285,286,333,334,335,336,337,338,339,340,341,365,366,367]) (chs:=[(367,3000)])
end
end
end Go.Proofs.YtieaiocljdpebaaGreatDoor.Y
