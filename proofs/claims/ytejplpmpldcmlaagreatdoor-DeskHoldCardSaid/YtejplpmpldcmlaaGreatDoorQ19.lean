/- Part 19 of the proof. -/
import Derived.Test.YtejplpmpldcmlaaGreatDoorQ9
import Derived.RecoverIn
set_option linter.all false
set_option maxRecDepth 100000
set_option maxHeartbeats 100000000
open Bool renaming true->J,false->E
open Option renaming some->U,none->Z
open Go.IntKind renaming i64->I
namespace Go.Proofs.YtejplpmpldcmlaaGreatDoor.Y
open Go.RowKit
noncomputable section
theorem aFR:bF 6 E E GD:=tk Tryz.func6 (loops:=[(6,8,⟨[(3,.int I)],[]⟩),(6,13,⟨[(4,.int I)],[]⟩)])
theorem aFS:bF 7 E E agp:=tk Tryz.func7 (loops:=[(7,2,⟨[(8,.int I)],[]⟩)])
theorem aFT:bF 11 E E agq:=tk Tryz.func11 (loops:=[(11,4,⟨[(5,.int I)],[]⟩)])
theorem aFU:bF 25 E E Rx:=tk Tryz.func25 (loops:=[(25,4,⟨[(3,.int I)],[]⟩),(25,9,⟨[(4,.int I)],[]⟩)])
theorem aFV:bF 26 E E agr:=tk Tryz.func26
theorem aFW:bF 27 E E ags:=tk Tryz.func27 (loops:=[(27,7,⟨[(4,.int I)],[]⟩)])
theorem aFX:bF 28 E E agt:=tk Tryz.func28 (loops:=[(28,4,⟨[(5,.int I)],[]⟩),(28,9,⟨[(6,.int I)],[]⟩)])
theorem aFY:bF 31 E E agu:=tk Tryz.func31 (loops:=[(31,4,⟨[(5,.int I)],[]⟩)])
theorem aFZ:bF 59 E E agv:=tk Tryz.func59 (loops:=[(59,4,⟨[(3,.int I)],[]⟩)])
theorem aF0:bF 61 E E agw:=tk Tryz.func61 (loops:=[(61,2,⟨[(3,.int I)],[]⟩),(61,5,⟨[(4,.int I)],[]⟩)])
theorem aF1:bF 62 E E agx:=tk Tryz.func62 (loops:=[(62,2,⟨[(3,.int I)],[]⟩),(62,8,⟨[(5,.int I)],[]⟩),(62,13,⟨[(6,.int I)],[]⟩)])
theorem aF2:bF 63 E E agy:=tk Tryz.func63 (loops:=[(63,4,⟨[(3,.int I)],[]⟩),(63,7,⟨[(4,.int I)],[]⟩)])
theorem aF3:bF 64 E E agz:=tk Tryz.func64 (loops:=[(64,2,⟨[(3,.int I)],[]⟩)])
theorem aF4:bF 65 E E Nv:=tk Tryz.func65 (loops:=[(65,5,⟨[(6,.int I)],[]⟩)])
theorem aF5:bF 105 E E agA:=tk Tryz.func105 (loops:=[(105,5,⟨[(8,.int I)],[]⟩)])
theorem aF6:bF 106 E E agB:=tk Tryz.func106 (loops:=[(106,2,⟨[(5,.int I)],[]⟩)])
theorem aF7:bF 154 E E agC:=tk Tryz.func154
theorem aF8:bF 8 E E agD:=tk Tryz.func8
theorem aF9:bF 50 E E agE:=tk Tryz.func50 (loops:=[(50,3,⟨[(11,.int I)],[(0,0,.ah (.mr ⟨3,4,1,E,E⟩))]⟩)])
theorem aGa:bF 21 E E arF:=tk Tryz.func21 (ct:=J) (inl:=[29,66,67]) (lK:=J)
theorem aGb:bF 34 E E agF:=tk Tryz.func34 (ct:=J)
theorem aGc:bF 5 E E arG:=tk Tryz.func5 (ct:=J) (lK:=J)
theorem aGd:bF 19 E E arH:=tk Tryz.func19 (ct:=J) (lK:=J)
theorem aGe:bF 20 E E arI:=tk Tryz.func20 (ct:=J) (loops:=[(20,5,⟨[(18,.int I)],[(1,2,.ah (.own 70))]⟩)]) (lK:=J)
theorem aGf:bF 22 E E arJ:=tk Tryz.func22 (ct:=J)
theorem aGg:bF 47 E E arK:=tk Tryz.func47 (ct:=J)
theorem aGh:bF 48 E E arL:=tk Tryz.func48 (ct:=J)
theorem aGi(X:DP Tryz.prog 33):bF 12 E J agG:=tk Tryz.func12 (ct:=J) (loops:=[(12,8,⟨[(60,.int I)],[]⟩),(12,13,⟨[(82,.int I)],[]⟩),(12,17,⟨[(115,.int I)],[]⟩)]) (inl:=[34]) (dT:=U 0) (hdc:=atF aY X)
theorem aGj(X:DP Tryz.prog 33):bF 23 E J agH:=tk Tryz.func23 (ct:=J) (loops:=[(23,8,⟨[(72,.int I)],[]⟩),(23,13,⟨[(84,.int I)],[]⟩),(23,21,⟨[(109,.int I)],[]⟩),(23,26,⟨[(129,.int I)],[]⟩),(23,29,⟨[(138,.int I)],[]⟩),(23,36,⟨[(161,.int I)],[]⟩),(23,40,⟨[(181,.int I)],[]⟩),(23,49,⟨[(233,.int I)],[(2,0,.ah (.mr ⟨3,4,1,E,E⟩))]⟩),(23,54,⟨[(247,.int I)],[]⟩)]) (inl:=[34]) (dT:=U 0) (hdc:=atF aY X)
theorem aGk:bF 15 E E arM:=tk Tryz.func15 (ct:=J)
theorem aGl:bF 9 E E Ry:=tk Tryz.func9 (loops:=[(9,19,⟨[(75,.int I),(7,.ah (.own 96))],[(2,2,.ah (.own 70)),(2,3,.ah (.own 3))]⟩)]) (inl:=[29,66,67]) (lK:=J)
theorem aGm:bF 14 E E arN:=tk Tryz.func14 (ct:=J) (loops:=[(14,5,⟨[(22,.int I),(6,.ah (.own 3))],[]⟩)])
theorem aGn:bF 13 E E agN:=tk Tryz.func13 (ct:=J) (loops:=[(13,6,⟨[(29,.int I),(8,.int I)],[]⟩),(13,16,⟨[(52,.int I)],[(6,0,.ah (.own 67))]⟩),(73,4,⟨[(15,.int I)],[(2,0,.ah (.own 79)),(6,0,.ah (.sl 67))]⟩)]) (inl:=[38,73]) (lK:=J) (chs:=[(13,19)])
theorem aGo:bF 39 E E agI:=tk Tryz.func39 (loops:=[(39,2,⟨[(13,.int I),(4,.ah (.own 94))],[]⟩)])
theorem aGp:bF 30 E E arO:=tk Tryz.func30 (ct:=J) (loops:=[(108,2,⟨[(8,.int I)],[]⟩)]) (inl:=[68,69,108])
theorem aGq:bF 36 E E agJ:=tk Tryz.func36
theorem aGr:bF 37 E E agK:=tk Tryz.func37 (loops:=[(37,6,⟨[(29,.int I)],[(4,0,.ah (.mr ⟨3,3,1,E,E⟩))]⟩),(37,11,⟨[(38,.int I),(6,.ah (.own 4))],[]⟩)]) (inl:=[72]) (chs:=[(72,1)])
theorem aGs:bF 3 E E agL:=tk Tryz.func3 (inl:=[10])
def aGt(W:World)(b:Nat):CallsDIn Fence.wide 0 Tryz.prog 33 #[.pointer (U ⟨b,0,Z⟩)] .returning W λR u Q=>(∃v,R=.returned v)/\u=.returning/\Q=W:=by
 refine callsDIn_of_wpSIn Tryz.func33 rfl (by simp[Fence.wide]) λV P X=> ?_
 have O:V={V with mode:=.returning}:=by rw[<-X]
 rw[Tryz.ntmps33];apply wpSIn_seq;apply wpSIn_region;simp[wpOpsSIn,go_sem,recoverD,X,Exit.thenS];refine wpSIn_of_wpIn rfl (wpIn_wide.2 ?_);go_wp2;refine⟨rfl,.returning,by rw[<-X],.tuple #[], ?_,⟨_,rfl⟩,rfl,rfl⟩;simp[results,Tryz.results33]
def auw:DP Tryz.prog 33:=⟨wC aY,aGt⟩
