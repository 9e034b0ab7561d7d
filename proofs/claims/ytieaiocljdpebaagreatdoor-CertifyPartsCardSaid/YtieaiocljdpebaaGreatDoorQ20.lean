/- Part 20 of the proof; the last part says what is shown. -/
import Derived.Test.YtieaiocljdpebaaGreatDoorQ13
import Derived.Test.YtieaiocljdpebaaGreatDoorQ5
set_option linter.all false
namespace Go.Proofs.YtieaiocljdpebaaGreatDoor.Y
open Go.RowKit
noncomputable section
section
set_option maxRecDepth 100000
theorem avP:bL 106 false false aj3:=tk Tryz.func106 (loops:=[(106,14,⟨[(80,.int .i64),(12,.ref (.own 202))],[(2,0,.ref (.mr ⟨142,4,2,true,false⟩)),(3,0,.ref (.mr ⟨142,4,2,true,false⟩)),(4,0,.ref (.mr ⟨142,4,2,true,false⟩))]⟩),(106,22,⟨[(106,.int .i64),(19,.ref (.own 65)),(12,.ref (.own 202))],[]⟩),(106,34,⟨[(145,.int .i64),(12,.ref (.own 202))],[]⟩),(106,37,⟨[(28,.int .i64),(12,.ref (.own 202))],[]⟩),(106,44,⟨[(184,.int .i64),(12,.ref (.own 202))],[]⟩),(106,47,⟨[(189,.int .i64),(12,.ref (.own 202))],[]⟩),(106,55,⟨[(226,.int .i64),(12,.ref (.own 202))],[]⟩),(252,2,⟨[(8,.int .i64)],[]⟩)]) (inl:=[179,180,252])
end
end
end Go.Proofs.YtieaiocljdpebaaGreatDoor.Y
