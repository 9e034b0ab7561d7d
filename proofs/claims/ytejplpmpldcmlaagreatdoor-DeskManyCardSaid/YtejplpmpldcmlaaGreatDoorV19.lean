/- Part 19 of the proof. -/
import Derived.Test.YtejplpmpldcmlaaGreatDoorV9
import Derived.RecoverIn
set_option linter.all false
set_option maxRecDepth 100000
set_option maxHeartbeats 100000000
open Bool renaming true->J,false->E
open Option renaming some->U,none->Z
open Go.IntKind renaming i64->I
namespace Go.Proofs.YtejplpmpldcmlaaGreatDoor.Y
open Go.RowKit
noncomputable section
theorem aGx:bC 6 E E GQ:=tk Tryz.func6 (loops:=[(6,8,⟨[(3,.int I)],[]⟩),(6,13,⟨[(4,.int I)],[]⟩)])
theorem aGy:bC 7 E E agL:=tk Tryz.func7 (loops:=[(7,2,⟨[(8,.int I)],[]⟩)])
theorem aGz:bC 11 E E arY:=tk Tryz.func11 (ct:=J) (loops:=[(11,4,⟨[(5,.int I)],[]⟩)])
theorem aGA:bC 25 E E RA:=tk Tryz.func25 (loops:=[(25,4,⟨[(3,.int I)],[]⟩),(25,9,⟨[(4,.int I)],[]⟩)])
theorem aGB:bC 26 E E agM:=tk Tryz.func26
theorem aGC:bC 27 E E agN:=tk Tryz.func27 (loops:=[(27,7,⟨[(4,.int I)],[]⟩)])
theorem aGD:bC 28 E E agO:=tk Tryz.func28 (loops:=[(28,4,⟨[(5,.int I)],[]⟩),(28,9,⟨[(6,.int I)],[]⟩)])
theorem aGE:bC 31 E E arZ:=tk Tryz.func31 (ct:=J) (loops:=[(31,4,⟨[(5,.int I)],[]⟩)])
theorem aGF:bC 59 E E agP:=tk Tryz.func59 (loops:=[(59,4,⟨[(3,.int I)],[]⟩)])
theorem aGG:bC 61 E E agQ:=tk Tryz.func61 (loops:=[(61,2,⟨[(3,.int I)],[]⟩),(61,5,⟨[(4,.int I)],[]⟩)])
theorem aGH:bC 62 E E agR:=tk Tryz.func62 (loops:=[(62,2,⟨[(3,.int I)],[]⟩),(62,8,⟨[(5,.int I)],[]⟩),(62,13,⟨[(6,.int I)],[]⟩)])
theorem aGI:bC 63 E E agS:=tk Tryz.func63 (loops:=[(63,4,⟨[(3,.int I)],[]⟩),(63,7,⟨[(4,.int I)],[]⟩)])
theorem aGJ:bC 64 E E agT:=tk Tryz.func64 (loops:=[(64,2,⟨[(3,.int I)],[]⟩)])
theorem aGK:bC 65 E E NG:=tk Tryz.func65 (loops:=[(65,5,⟨[(6,.int I)],[]⟩)])
theorem aGL:bC 105 E E agU:=tk Tryz.func105 (loops:=[(105,5,⟨[(8,.int I)],[]⟩)])
theorem aGM:bC 106 E E agV:=tk Tryz.func106 (loops:=[(106,2,⟨[(5,.int I)],[]⟩)])
theorem aGN:bC 154 E E agW:=tk Tryz.func154
theorem aGO:bC 8 E E agX:=tk Tryz.func8
theorem aGP:bC 50 E E agY:=tk Tryz.func50 (loops:=[(50,3,⟨[(11,.int I)],[(0,0,.ah (.mr ⟨3,4,1,E,E⟩))]⟩)])
theorem aGQ:bC 21 E E ar0:=tk Tryz.func21 (ct:=J) (inl:=[29,66,67]) (ma:=J)
theorem aGR:bC 34 E E agZ:=tk Tryz.func34 (ct:=J)
theorem aGS:bC 5 E E ar1:=tk Tryz.func5 (ct:=J) (ma:=J)
theorem aGT:bC 19 E E ar2:=tk Tryz.func19 (ct:=J) (ma:=J)
theorem aGU:bC 20 E E ar3:=tk Tryz.func20 (ct:=J) (loops:=[(20,5,⟨[(18,.int I)],[(1,2,.ah (.own 70))]⟩)]) (ma:=J)
theorem aGV:bC 22 E E ar4:=tk Tryz.func22 (ct:=J)
theorem aGW:bC 47 E E ar5:=tk Tryz.func47 (ct:=J)
theorem aGX:bC 48 E E ar6:=tk Tryz.func48 (ct:=J)
theorem aGY(X:D7 Tryz.prog 33):bC 12 E J ag0:=tk Tryz.func12 (ct:=J) (loops:=[(12,8,⟨[(60,.int I)],[]⟩),(12,13,⟨[(82,.int I)],[]⟩),(12,17,⟨[(115,.int I)],[]⟩)]) (inl:=[34]) (dT:=U 0) (hdc:=at9 aX X)
theorem aGZ(X:D7 Tryz.prog 33):bC 23 E J ag1:=tk Tryz.func23 (ct:=J) (loops:=[(23,8,⟨[(72,.int I)],[]⟩),(23,13,⟨[(84,.int I)],[]⟩),(23,21,⟨[(109,.int I)],[]⟩),(23,26,⟨[(129,.int I)],[]⟩),(23,29,⟨[(138,.int I)],[]⟩),(23,36,⟨[(161,.int I)],[]⟩),(23,40,⟨[(181,.int I)],[]⟩),(23,49,⟨[(233,.int I)],[(2,0,.ah (.mr ⟨3,4,1,E,E⟩))]⟩),(23,54,⟨[(247,.int I)],[]⟩)]) (inl:=[34]) (dT:=U 0) (hdc:=at9 aX X)
theorem aG0:bC 15 E E ag2:=tk Tryz.func15
theorem aG1:bC 9 E E ar7:=tk Tryz.func9 (ct:=J) (loops:=[(9,19,⟨[(75,.int I),(7,.ah (.own 96))],[(2,2,.ah (.own 70)),(2,3,.ah (.own 3))]⟩)]) (inl:=[29,66,67]) (ma:=J)
theorem aG2:bC 14 E E ag3:=tk Tryz.func14 (loops:=[(14,5,⟨[(22,.int I),(6,.ah (.own 3))],[]⟩)])
theorem aG3:bC 13 E E aha:=tk Tryz.func13 (ct:=J) (loops:=[(13,6,⟨[(29,.int I),(8,.int I)],[]⟩),(13,16,⟨[(52,.int I)],[(6,0,.ah (.own 67))]⟩),(73,4,⟨[(15,.int I)],[(2,0,.ah (.own 79)),(6,0,.ah (.sl 67))]⟩)]) (inl:=[38,73]) (ma:=J) (chs:=[(13,19)])
theorem aG4:bC 39 E E ag4:=tk Tryz.func39 (loops:=[(39,2,⟨[(13,.int I),(4,.ah (.own 94))],[]⟩)])
theorem aG5:bC 30 E E ar8:=tk Tryz.func30 (ct:=J) (loops:=[(108,2,⟨[(8,.int I)],[]⟩)]) (inl:=[68,69,108])
theorem aG6:bC 36 E E ag5:=tk Tryz.func36
theorem aG7:bC 37 E E ag6:=tk Tryz.func37 (loops:=[(37,6,⟨[(29,.int I)],[(4,0,.ah (.mr ⟨3,3,1,E,E⟩))]⟩),(37,11,⟨[(38,.int I),(6,.ah (.own 4))],[]⟩)]) (inl:=[72]) (chs:=[(72,1)])
theorem aG8:bC 4 E E ag7:=tk Tryz.func4 (loops:=[(4,18,⟨[(104,.int I),(15,.ah (.own 4)),(16,.ah (.own 67))],[]⟩),(4,27,⟨[(142,.int I),(20,.int I),(21,.int I)],[]⟩)])
theorem aG9:bC 16 E E ag8:=tk Tryz.func16 (loops:=[(16,2,⟨[(10,.int I),(4,.ah (.own 76))],[]⟩)])
def aHa(W:World)(b:Nat):CallsDIn Fence.wide 0 Tryz.prog 33 #[.pointer (U ⟨b,0,Z⟩)] .returning W λR u Q=>(∃v,R=.returned v)/\u=.returning/\Q=W:=by
 refine callsDIn_of_wpSIn Tryz.func33 rfl (by simp[Fence.wide]) λV P X=> ?_
 have O:V={V with mode:=.returning}:=by rw[<-X]
 rw[Tryz.ntmps33];apply wpSIn_seq;apply wpSIn_region;simp[wpOpsSIn,go_sem,recoverD,X,Exit.thenS];refine wpSIn_of_wpIn rfl (wpIn_wide.2 ?_);go_wp2;refine⟨rfl,.returning,by rw[<-X],.tuple #[], ?_,⟨_,rfl⟩,rfl,rfl⟩;simp[results,Tryz.results33]
def auZ:D7 Tryz.prog 33:=⟨wG aX,aHa⟩
