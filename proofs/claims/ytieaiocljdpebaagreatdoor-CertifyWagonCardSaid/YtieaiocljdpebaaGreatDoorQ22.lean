/- Part 22 of the proof; the last part says what is shown. -/
import Derived.Test.YtieaiocljdpebaaGreatDoorQ11
import Derived.Test.YtieaiocljdpebaaGreatDoorQ5
set_option linter.defProp false
set_option linter.unusedVariables false
set_option linter.unusedSimpArgs false
set_option linter.unnecessarySimpa false
namespace Go.Proofs.YtieaiocljdpebaaGreatDoor.Y
open Go.RowKit
noncomputable section
section
set_option maxRecDepth 100000
theorem auh:bG 90 true false ZR:=tk Tryz.func90 (loops:=[(90,16,⟨[(74,.int .i64),(20,.bool)],[(5,0,.bool),(5,1,.bool),(5,2,.bool),(5,3,.bool),(5,4,.bool)]⟩),(90,21,⟨[(95,.int .i64)],[(5,0,.bool),(5,1,.bool),(5,2,.bool),(5,3,.bool),(5,4,.bool)]⟩),(90,26,⟨[(114,.int .i64)],[(5,0,.bool),(5,1,.bool),(5,2,.bool),(5,3,.bool),(5,4,.bool)]⟩),(90,33,⟨[(128,.int .i64)],[(6,0,.int .i64),(6,1,.int .i64),(6,2,.int .i64),(6,3,.int .i64)]⟩),(226,2,⟨[(14,.int .i64)],[(3,0,.int .i64),(3,1,.int .i64),(3,2,.int .i64),(3,3,.int .i64),(9,0,.int .i64),(9,1,.int .i64),(9,2,.int .i64),(9,3,.int .i64),(9,4,.int .i64),(9,5,.int .i64),(9,6,.int .i64),(9,7,.int .i64),(9,8,.int .i64),(9,9,.int .i64),(9,10,.int .i64),(9,11,.int .i64),(9,12,.int .i64),(4,0,.bool),(8,0,.bool)]⟩)]) (inl:=[156,226,157,158]) (g:=true)
theorem aui(hsr:rE qa):bG 104 false false cY:=tk Tryz.func104 (loops:=[(298,2,⟨[(8,.int .i64)],[]⟩),(177,3,⟨[(9,.int .i64)],[(0,0,.ref (.mr ⟨3,96,1,false,true⟩)),(1,0,.ref (.mr ⟨3,96,1,false,true⟩)),(2,0,.ref (.mr ⟨3,96,1,false,true⟩)),(3,0,.ref (.mr ⟨3,96,1,false,true⟩)),(4,0,.ref (.mr ⟨3,96,1,false,true⟩)),(5,0,.ref (.mr ⟨3,96,1,false,true⟩)),(6,0,.ref (.mr ⟨3,96,1,false,true⟩)),(7,0,.ref (.mr ⟨3,96,1,false,true⟩)),(8,0,.ref (.mr ⟨3,96,1,false,true⟩)),(9,0,.ref (.mr ⟨3,96,1,false,true⟩)),(10,0,.ref (.mr ⟨3,96,1,false,true⟩)),(11,0,.ref (.mr ⟨3,96,1,false,true⟩))]⟩),(244,3,⟨[(33,.int .i64)],[(7,0,.int .i64),(7,1,.int .i64),(7,2,.int .i64),(7,3,.int .i64),(7,4,.int .i64),(7,5,.int .i64),(7,6,.int .i64),(7,7,.int .i64),(7,8,.int .i64),(7,9,.int .i64),(7,10,.int .i64),(7,11,.int .i64),(7,12,.int .i64),(8,0,.int .i64),(8,1,.int .i64),(8,2,.int .i64),(8,3,.int .i64),(8,4,.int .i64),(8,5,.int .i64),(8,6,.int .i64),(8,7,.int .i64),(8,8,.int .i64),(8,9,.int .i64),(8,10,.int .i64),(8,11,.int .i64),(8,12,.int .i64),(10,0,.ref (.own 200)),(11,0,.ref (.own 200))]⟩),(244,10,⟨[],[(7,0,.int .i64),(7,1,.int .i64),(7,2,.int .i64),(7,3,.int .i64),(7,4,.int .i64),(7,5,.int .i64),(7,6,.int .i64),(7,7,.int .i64),(7,8,.int .i64),(7,9,.int .i64),(7,10,.int .i64),(7,11,.int .i64),(7,12,.int .i64),(8,0,.int .i64),(8,1,.int .i64),(8,2,.int .i64),(8,3,.int .i64),(8,4,.int .i64),(8,5,.int .i64),(8,6,.int .i64),(8,7,.int .i64),(8,8,.int .i64),(8,9,.int .i64),(8,10,.int .i64),(8,11,.int .i64),(8,12,.int .i64),(10,0,.ref (.own 200)),(11,0,.ref (.own 200)),(18,3,.ref (.mr ⟨3,1099511627778,1,false,false⟩)),(19,3,.ref (.mr ⟨3,1099511627778,1,false,false⟩))]⟩)]) (inl:=[174,240,298,241,177,175,242,299,176,244,245,246,247,250,251,301,302,303,304,305,306,307,308,309]) (srts:=qa) (chs:=[(244,1009)]) (hsr:=hsr)
end
end
end Go.Proofs.YtieaiocljdpebaaGreatDoor.Y
