/- Part 12 of the proof. -/
import Derived.Test.YtejplpmpldcmlaaGreatDoorV9
set_option linter.all false
set_option maxRecDepth 100000
set_option maxHeartbeats 100000000
open Bool renaming true->J,false->E
open Go.IntKind renaming i64->I
namespace Go.Proofs.YtejplpmpldcmlaaGreatDoor.Y
open Go.RowKit
noncomputable section
theorem aFE:bC 81 E E T27:=tk Tryz.func81 (inl:=[117,168])
theorem aFF:bC 35 E E Rv:=tk Tryz.func35
theorem aFG:bC 96 E E Yq:=tk Tryz.func96 (loops:=[(138,4,⟨[(4,.int I),(2,.int I)],[]⟩)]) (inl:=[138])
theorem aFH:bC 56 E E Yr:=tk Tryz.func56 (loops:=[(138,4,⟨[(4,.int I),(2,.int I)],[]⟩)]) (inl:=[96,138])
theorem aFI:bC 49 E E Rw:=tk Tryz.func49 (inl:=[85,84,119,120,121,122,123,124])
theorem aFJ:bC 90 E E T23:=tk Tryz.func90 (loops:=[(90,6,⟨[(22,.int I)],[(1,0,.ah (.mr ⟨197,4,2,J,E⟩))]⟩),(90,12,⟨[(61,.int I),(4,.ah (.own 197))],[]⟩),(90,15,⟨[(67,.int I),(4,.ah (.own 197))],[]⟩)])
theorem aFK(X:v8 tK):bC 53 E E Rx:=tk Tryz.func53 (loops:=[(93,6,⟨[(22,.int I),(4,.ah (.own 226))],[]⟩),(93,9,⟨[(28,.int I),(4,.ah (.own 226))],[]⟩)]) (inl:=[93,130]) (srts:=tK) (hsr:=X)
theorem aFL:bC 79 E E T89:=tk Tryz.func79 (loops:=[(164,2,⟨[(14,.int I)],[(2,0,.int I),(2,1,.int I),(2,2,.int I),(2,3,.int I),(2,4,.int I),(2,5,.int I),(2,6,.int I),(2,7,.int I),(2,8,.int I),(2,9,.int I),(2,10,.int I),(2,11,.int I),(2,12,.int I),(4,0,.int I),(4,1,.int I),(4,2,.int I),(4,3,.int I),(4,4,.int I),(4,5,.int I),(4,6,.int I),(4,7,.int I),(4,8,.int I),(4,9,.int I),(4,10,.int I),(4,11,.int I),(4,12,.int I)]⟩)]) (inl:=[111,164])
theorem aFM:bC 165 E E Ys:=tk Tryz.func165 (inl:=[205,206,249,250,251,252,253,254,255,256,257,293,294,295]) (chs:=[(295,3000)])
