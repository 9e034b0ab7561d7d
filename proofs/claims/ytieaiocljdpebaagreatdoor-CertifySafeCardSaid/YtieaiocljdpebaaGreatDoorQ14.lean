/- Part 14 of the proof. -/
import Derived.Test.YtieaiocljdpebaaGreatDoorQ6
set_option linter.all false
open Bool renaming true->J,false->E
open Option renaming some->U
open Go.IntKind renaming i64->I
namespace Go.Proofs.YtieaiocljdpebaaGreatDoor.Y
open Go.RowKit
noncomputable section
section
set_option maxRecDepth 100000
theorem aAM:cG 32 E E T32:=tk Tryz.func32 (nA:=J)
theorem aAN(X:tT qH):cG 63 E E T63:=tk Tryz.func63 (loops:=[(63,5,⟨[(26,.int I)],[(1,0,.ref (.own 3))]⟩),(63,12,⟨[(37,.int I)],[(1,0,.ref (.own 3))]⟩),(63,18,⟨[(60,.int I)],[(1,0,.ref (.own 3))]⟩)]) (srts:=qH) (hsr:=X)
theorem aAO:cG 39 E E T39:=tk Tryz.func39 (loops:=[(99,1,⟨[(10,.int I)],[(3,3,.ref (.own 71)),(3,4,.ref (.own 82)),(3,5,.ref (.own 65))]⟩)]) (inl:=[48,99,36])
theorem aAP(bq:pZ Tryz.prog 61 45):cG 21 E J OK:=tk Tryz.func21 (loops:=[(21,8,⟨[(45,.int I)],[(23,0,.ref (.mr ⟨3,4,1,E,E⟩))]⟩),(21,15,⟨[(74,.int I),(16,.ref (.own 4)),(17,.ref (.own 82))],[]⟩),(99,1,⟨[(10,.int I)],[(24018,3,.ref (.own 71)),(24018,4,.ref (.own 82)),(24018,5,.ref (.own 65))]⟩),(47,8,⟨[(66,.int I)],[]⟩),(47,14,⟨[(99,.int I)],[]⟩)]) (inl:=[36,38,62,48,99,47,39]) (chs:=[(21,13),(21,1000020)]) (dT:=U 45) (hdc:=(λ_ h=>by cases h;exact W7 (by kernel_rfl) bq))
theorem aAQ:cG 11 E E T11:=tk Tryz.func11 (nA:=J) (chs:=[(11,13),(11,17)])



theorem ok6:cG 6 E E T6:=tk Tryz.func6 (loops:=[(6,16,⟨[(168,.int I)],[]⟩),(6,22,⟨[(225,.int I)],[]⟩),(6,33,⟨[(273,.int I)],[]⟩)])
theorem aAS:cG 28 E E T28:=tk Tryz.func28 (loops:=[(28,2,⟨[(11,.int I)],[]⟩)])
theorem aAT:cG 29 E E T29:=tk Tryz.func29 (loops:=[(29,5,⟨[(33,.int I)],[]⟩),(29,11,⟨[(50,.int I),(17,.bool)],[]⟩),(29,14,⟨[(56,.int I),(17,.bool)],[]⟩)])
end
