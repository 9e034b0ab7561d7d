/- Part 13 of the proof. -/
import Derived.Test.YtejplpmpldcmlaaGreatDoorV9
set_option linter.all false
set_option maxRecDepth 100000
set_option maxHeartbeats 100000000
open Bool renaming true->J,false->E
open Option renaming some->U
open Go.IntKind renaming i64->I
namespace Go.Proofs.YtejplpmpldcmlaaGreatDoor.Y
open Go.RowKit
noncomputable section
theorem aFN(X:yA Tryz.prog 94 48):bC 54 E J Yt:=tk Tryz.func54 (loops:=[(95,5,⟨[(46,.int I),(2,.int I)],[]⟩),(95,11,⟨[(74,.int I)],[]⟩),(95,17,⟨[(86,.int I),(2,.int I)],[]⟩),(95,23,⟨[(122,.int I)],[]⟩)]) (inl:=[95,135,136]) (dT:=U 48) (hdc:=aiw aX X)
theorem aFO(X:yA Tryz.prog 40 48):bC 17 E J T13:=tk Tryz.func17 (loops:=[(110,1,⟨[(10,.int I)],[(13,3,.ah (.own 76)),(13,4,.ah (.own 67)),(13,5,.ah (.own 124))]⟩)]) (inl:=[42,43,74,44,75,110]) (dT:=U 48) (hdc:=aiw aX X)
theorem aFP(X:v8 tK)(W:yA Tryz.prog 157 48):bC 109 E J T16:=tk Tryz.func109 (ct:=J) (loops:=[(109,17,⟨[(15,.ah (.own 267))],[(33,3,.ah (.mr ⟨3,1099511627778,1,E,E⟩))]⟩),(109,22,⟨[(104,.int I),(8,.ah (.own 275))],[]⟩),(158,8,⟨[(66,.int I)],[]⟩),(158,14,⟨[(99,.int I)],[]⟩),(110,1,⟨[(10,.int I)],[(25019,3,.ah (.own 76)),(25019,4,.ah (.own 67)),(25019,5,.ah (.own 124)),(25,0,.ah (.mr ⟨267,4,3,J,E⟩))]⟩),(160,4,⟨[(33,.int I)],[(25,0,.ah (.mr ⟨267,4,3,J,E⟩))]⟩),(160,17,⟨[(117,.int I)],[(25,0,.ah (.mr ⟨267,4,3,J,E⟩))]⟩),(161,7,⟨[(55,.int I)],[(25,0,.ah (.mr ⟨267,4,3,J,E⟩))]⟩),(161,14,⟨[(73,.int I)],[(25,0,.ah (.mr ⟨267,4,3,J,E⟩))]⟩),(200,2,⟨[(11,.int I),(4,.ah (.own 124))],[]⟩),(194,2,⟨[(8,.int I)],[]⟩)]) (inl:=[158,42,43,74,44,75,110,160,161,200,194,195]) (srts:=tK) (dT:=U 48) (hsr:=X) (hdc:=aiw aX W)
