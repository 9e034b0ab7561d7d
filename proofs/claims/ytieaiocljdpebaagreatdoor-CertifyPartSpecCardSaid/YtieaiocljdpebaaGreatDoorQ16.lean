/- Part 16 of the proof. -/
import Derived.Test.YtieaiocljdpebaaGreatDoorQ4
import Derived.Test.YtieaiocljdpebaaGreatDoorQ6
set_option linter.all false
set_option maxRecDepth 100000
set_option maxHeartbeats 100000000
open Bool renaming true->J,false->E
open Go.IntKind renaming i64->I
namespace Go.Proofs.YtieaiocljdpebaaGreatDoor.Y
open Go.RowKit
noncomputable section
theorem aHA:bB 90 J E T90:=tk Tryz.func90 (loops:=[(90,16,⟨[(74,.int I),(20,.bool)],[(5,0,.bool),(5,1,.bool),(5,2,.bool),(5,3,.bool),(5,4,.bool)]⟩),(90,21,⟨[(95,.int I)],[(5,0,.bool),(5,1,.bool),(5,2,.bool),(5,3,.bool),(5,4,.bool)]⟩),(90,26,⟨[(114,.int I)],[(5,0,.bool),(5,1,.bool),(5,2,.bool),(5,3,.bool),(5,4,.bool)]⟩),(90,33,⟨[(128,.int I)],[(6,0,.int I),(6,1,.int I),(6,2,.int I),(6,3,.int I)]⟩),(226,2,⟨[(14,.int I)],[(3,0,.int I),(3,1,.int I),(3,2,.int I),(3,3,.int I),(9,0,.int I),(9,1,.int I),(9,2,.int I),(9,3,.int I),(9,4,.int I),(9,5,.int I),(9,6,.int I),(9,7,.int I),(9,8,.int I),(9,9,.int I),(9,10,.int I),(9,11,.int I),(9,12,.int I),(4,0,.bool),(8,0,.bool)]⟩)]) (inl:=[156,226,157,158]) (g:=J)
theorem aHB(X:wK t7):bB 104 E E as9:=tk Tryz.func104 (ct:=J) (loops:=[(298,2,⟨[(8,.int I)],[]⟩),(177,3,⟨[(9,.int I)],[(0,0,.aj (.mr ⟨3,96,1,E,J⟩)),(1,0,.aj (.mr ⟨3,96,1,E,J⟩)),(2,0,.aj (.mr ⟨3,96,1,E,J⟩)),(3,0,.aj (.mr ⟨3,96,1,E,J⟩)),(4,0,.aj (.mr ⟨3,96,1,E,J⟩)),(5,0,.aj (.mr ⟨3,96,1,E,J⟩)),(6,0,.aj (.mr ⟨3,96,1,E,J⟩)),(7,0,.aj (.mr ⟨3,96,1,E,J⟩)),(8,0,.aj (.mr ⟨3,96,1,E,J⟩)),(9,0,.aj (.mr ⟨3,96,1,E,J⟩)),(10,0,.aj (.mr ⟨3,96,1,E,J⟩)),(11,0,.aj (.mr ⟨3,96,1,E,J⟩))]⟩),(244,3,⟨[(33,.int I)],[(7,0,.int I),(7,1,.int I),(7,2,.int I),(7,3,.int I),(7,4,.int I),(7,5,.int I),(7,6,.int I),(7,7,.int I),(7,8,.int I),(7,9,.int I),(7,10,.int I),(7,11,.int I),(7,12,.int I),(8,0,.int I),(8,1,.int I),(8,2,.int I),(8,3,.int I),(8,4,.int I),(8,5,.int I),(8,6,.int I),(8,7,.int I),(8,8,.int I),(8,9,.int I),(8,10,.int I),(8,11,.int I),(8,12,.int I),(10,0,.aj (.own 200)),(11,0,.aj (.own 200))]⟩),(244,10,⟨[],[(7,0,.int I),(7,1,.int I),(7,2,.int I),(7,3,.int I),(7,4,.int I),(7,5,.int I),(7,6,.int I),(7,7,.int I),(7,8,.int I),(7,9,.int I),(7,10,.int I),(7,11,.int I),(7,12,.int I),(8,0,.int I),(8,1,.int I),(8,2,.int I),(8,3,.int I),(8,4,.int I),(8,5,.int I),(8,6,.int I),(8,7,.int I),(8,8,.int I),(8,9,.int I),(8,10,.int I),(8,11,.int I),(8,12,.int I),(10,0,.aj (.own 200)),(11,0,.aj (.own 200)),(18,3,.aj (.mr ⟨3,1099511627778,1,E,E⟩)),(19,3,.aj (.mr ⟨3,1099511627778,1,E,E⟩))]⟩)]) (inl:=[174,240,298,241,177,175,242,299,176,244,245,246,247,250,251,301,302,303,304,305,306,307,308,309]) (srts:=t7) (chs:=[(244,1009)]) (hsr:=X)
