/- Part 14 of the proof. -/
import Derived.Test.YtieaiocljdpebaaGreatDoorQ4
import Derived.Test.YtieaiocljdpebaaGreatDoorQ6
set_option linter.all false
open Bool renaming true->J,false->E
open Go.IntKind renaming i64->I
namespace Go.Proofs.YtieaiocljdpebaaGreatDoor.Y
open Go.RowKit
noncomputable section
section
set_option maxRecDepth 100000
def aE7(X:ug qS):bp 78 E E T78:=tk Tryz.func78 (loops:=[(279,9,⟨[(22,.int I),(6,.ref (.own 96))],[]⟩),(324,1,⟨[(5,.int I)],[(0,0,.ref (.own 393)),(1,0,.ref (.own 393)),(2,0,.ref (.own 393)),(3,0,.ref (.own 393)),(4,0,.ref (.own 393)),(5,0,.ref (.own 393)),(6,0,.ref (.own 393)),(7,0,.ref (.own 393)),(8,0,.ref (.own 393)),(9,0,.ref (.own 393)),(10,0,.ref (.own 393)),(11,0,.ref (.own 393)),(12,0,.ref (.own 393)),(13,0,.ref (.own 393)),(14,0,.ref (.own 393)),(15,0,.ref (.own 393)),(16,0,.ref (.own 393)),(17,0,.ref (.own 393)),(18,0,.ref (.own 393)),(19,0,.ref (.own 393)),(20,0,.ref (.own 393)),(21,0,.ref (.own 393)),(22,0,.ref (.own 393)),(23,0,.ref (.own 393)),(24,0,.ref (.own 393)),(25,0,.ref (.own 393)),(26,0,.ref (.own 393)),(27,0,.ref (.own 393)),(28,0,.ref (.own 393)),(29,0,.ref (.own 393)),(30,0,.ref (.own 393)),(31,0,.ref (.own 393)),(32,0,.ref (.own 393)),(33,0,.ref (.own 393)),(34,0,.ref (.own 393)),(35,0,.ref (.own 393)),(36,0,.ref (.own 393)),(37,0,.ref (.own 393)),(38,0,.ref (.own 393)),(39,0,.ref (.own 393))]⟩),(324,4,⟨[(6,.int I)],[(0,0,.ref (.own 393)),(1,0,.ref (.own 393)),(2,0,.ref (.own 393)),(3,0,.ref (.own 393)),(4,0,.ref (.own 393)),(5,0,.ref (.own 393)),(6,0,.ref (.own 393)),(7,0,.ref (.own 393)),(8,0,.ref (.own 393)),(9,0,.ref (.own 393)),(10,0,.ref (.own 393)),(11,0,.ref (.own 393)),(12,0,.ref (.own 393)),(13,0,.ref (.own 393)),(14,0,.ref (.own 393)),(15,0,.ref (.own 393)),(16,0,.ref (.own 393)),(17,0,.ref (.own 393)),(18,0,.ref (.own 393)),(19,0,.ref (.own 393)),(20,0,.ref (.own 393)),(21,0,.ref (.own 393)),(22,0,.ref (.own 393)),(23,0,.ref (.own 393)),(24,0,.ref (.own 393)),(25,0,.ref (.own 393)),(26,0,.ref (.own 393)),(27,0,.ref (.own 393)),(28,0,.ref (.own 393)),(29,0,.ref (.own 393)),(30,0,.ref (.own 393)),(31,0,.ref (.own 393)),(32,0,.ref (.own 393)),(33,0,.ref (.own 393)),(34,0,.ref (.own 393)),(35,0,.ref (.own 393)),(36,0,.ref (.own 393)),(37,0,.ref (.own 393)),(38,0,.ref (.own 393)),(39,0,.ref (.own 393))]⟩)]) (inl:=[144,213,214,215,216,217,277,278,279,280,324,325]) (srts:=qS) (lW:=J) (hsr:=X)
end
