/- Part 15 of the proof. -/
import Derived.Test.YtieaiocljdpebaaGreatDoorQ4
import Derived.Test.YtieaiocljdpebaaGreatDoorQ6
set_option linter.all false
set_option maxRecDepth 100000
set_option maxHeartbeats 100000000
open Bool renaming true->J,false->E
open Go.IntKind renaming i64->I
namespace Go.Proofs.YtieaiocljdpebaaGreatDoor.Y
open Go.RowKit
noncomputable section
def aHz(X:wK t7):bB 78 E E T78:=tk Tryz.func78 (ct:=J) (loops:=[(279,9,⟨[(22,.int I),(6,.aj (.own 96))],[]⟩),(324,1,⟨[(5,.int I)],[(0,0,.aj (.own 393)),(1,0,.aj (.own 393)),(2,0,.aj (.own 393)),(3,0,.aj (.own 393)),(4,0,.aj (.own 393)),(5,0,.aj (.own 393)),(6,0,.aj (.own 393)),(7,0,.aj (.own 393)),(8,0,.aj (.own 393)),(9,0,.aj (.own 393)),(10,0,.aj (.own 393)),(11,0,.aj (.own 393)),(12,0,.aj (.own 393)),(13,0,.aj (.own 393)),(14,0,.aj (.own 393)),(15,0,.aj (.own 393)),(16,0,.aj (.own 393)),(17,0,.aj (.own 393)),(18,0,.aj (.own 393)),(19,0,.aj (.own 393)),(20,0,.aj (.own 393)),(21,0,.aj (.own 393)),(22,0,.aj (.own 393)),(23,0,.aj (.own 393)),(24,0,.aj (.own 393)),(25,0,.aj (.own 393)),(26,0,.aj (.own 393)),(27,0,.aj (.own 393)),(28,0,.aj (.own 393)),(29,0,.aj (.own 393)),(30,0,.aj (.own 393)),(31,0,.aj (.own 393)),(32,0,.aj (.own 393)),(33,0,.aj (.own 393)),(34,0,.aj (.own 393)),(35,0,.aj (.own 393)),(36,0,.aj (.own 393)),(37,0,.aj (.own 393)),(38,0,.aj (.own 393)),(39,0,.aj (.own 393))]⟩),(324,4,⟨[(6,.int I)],[(0,0,.aj (.own 393)),(1,0,.aj (.own 393)),(2,0,.aj (.own 393)),(3,0,.aj (.own 393)),(4,0,.aj (.own 393)),(5,0,.aj (.own 393)),(6,0,.aj (.own 393)),(7,0,.aj (.own 393)),(8,0,.aj (.own 393)),(9,0,.aj (.own 393)),(10,0,.aj (.own 393)),(11,0,.aj (.own 393)),(12,0,.aj (.own 393)),(13,0,.aj (.own 393)),(14,0,.aj (.own 393)),(15,0,.aj (.own 393)),(16,0,.aj (.own 393)),(17,0,.aj (.own 393)),(18,0,.aj (.own 393)),(19,0,.aj (.own 393)),(20,0,.aj (.own 393)),(21,0,.aj (.own 393)),(22,0,.aj (.own 393)),(23,0,.aj (.own 393)),(24,0,.aj (.own 393)),(25,0,.aj (.own 393)),(26,0,.aj (.own 393)),(27,0,.aj (.own 393)),(28,0,.aj (.own 393)),(29,0,.aj (.own 393)),(30,0,.aj (.own 393)),(31,0,.aj (.own 393)),(32,0,.aj (.own 393)),(33,0,.aj (.own 393)),(34,0,.aj (.own 393)),(35,0,.aj (.own 393)),(36,0,.aj (.own 393)),(37,0,.aj (.own 393)),(38,0,.aj (.own 393)),(39,0,.aj (.own 393))]⟩)]) (inl:=[144,213,214,215,216,217,277,278,279,280,324,325]) (srts:=t7) (nZ:=J) (hsr:=X)
