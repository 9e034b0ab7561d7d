/- Part 19 of the proof. -/
import Derived.Test.YtpmkfikkemaopaaGreatDoorQ9
import Derived.RecoverIn
set_option linter.all false
set_option maxRecDepth 100000
set_option maxHeartbeats 100000000
open Bool renaming true->J,false->E
open Option renaming some->U,none->Z
open Go.IntKind renaming i64->I
namespace Go.Proofs.YtpmkfikkemaopaaGreatDoor.Y
open Go.RowKit
noncomputable section
theorem aAP:bG 5 E E HF:=tk Tryz.func5 (loops:=[(5,8,⟨[(3,.int I)],[]⟩),(5,13,⟨[(4,.int I)],[]⟩)])
theorem aAQ:bG 6 E E acQ:=tk Tryz.func6 (loops:=[(6,2,⟨[(8,.int I)],[]⟩)])
theorem aAR:bG 9 E E acR:=tk Tryz.func9 (loops:=[(9,4,⟨[(5,.int I)],[]⟩)])
theorem aAS:bG 20 E E Pb:=tk Tryz.func20 (loops:=[(20,4,⟨[(3,.int I)],[]⟩),(20,9,⟨[(4,.int I)],[]⟩)])
theorem aAT:bG 21 E E acS:=tk Tryz.func21
theorem aAU:bG 22 E E acT:=tk Tryz.func22 (loops:=[(22,7,⟨[(4,.int I)],[]⟩)])
theorem aAV:bG 23 E E acU:=tk Tryz.func23 (loops:=[(23,4,⟨[(5,.int I)],[]⟩),(23,9,⟨[(6,.int I)],[]⟩)])
theorem aAW:bG 25 E E acV:=tk Tryz.func25 (loops:=[(25,4,⟨[(5,.int I)],[]⟩)])
theorem aAX:bG 48 E E acW:=tk Tryz.func48 (loops:=[(48,4,⟨[(3,.int I)],[]⟩)])
theorem aAY:bG 50 E E acX:=tk Tryz.func50 (loops:=[(50,2,⟨[(3,.int I)],[]⟩),(50,5,⟨[(4,.int I)],[]⟩)])
theorem aAZ:bG 51 E E acY:=tk Tryz.func51 (loops:=[(51,2,⟨[(3,.int I)],[]⟩),(51,8,⟨[(5,.int I)],[]⟩),(51,13,⟨[(6,.int I)],[]⟩)])
theorem aA0:bG 52 E E acZ:=tk Tryz.func52 (loops:=[(52,4,⟨[(3,.int I)],[]⟩),(52,7,⟨[(4,.int I)],[]⟩)])
theorem aA1:bG 53 E E ac0:=tk Tryz.func53 (loops:=[(53,2,⟨[(3,.int I)],[]⟩)])
theorem aA2:bG 54 E E Lj:=tk Tryz.func54 (loops:=[(54,5,⟨[(6,.int I)],[]⟩)])
theorem aA3:bG 90 E E ac1:=tk Tryz.func90 (loops:=[(90,5,⟨[(8,.int I)],[]⟩)])
theorem aA4:bG 91 E E ac2:=tk Tryz.func91 (loops:=[(91,2,⟨[(5,.int I)],[]⟩)])
theorem aA5:bG 140 E E ac3:=tk Tryz.func140
theorem aA6:bG 7 E E ac4:=tk Tryz.func7
theorem aA7:bG 39 E E ac5:=tk Tryz.func39 (loops:=[(39,3,⟨[(11,.int I)],[(0,0,.am (.mr ⟨3,4,1,E,E⟩))]⟩)])
theorem aA8:bG 8 E E Vd:=tk Tryz.func8 (inl:=[24,55,56]) (kW:=J)
theorem aA9:bG 28 E E ac6:=tk Tryz.func28 (ct:=J)
theorem aBa:bG 3 E E ac7:=tk Tryz.func3
theorem aBb:bG 4 E E anp:=tk Tryz.func4 (ct:=J) (kW:=J)
theorem aBc:bG 11 E E anq:=tk Tryz.func11 (ct:=J) (kW:=J)
theorem aBd:bG 12 E E anr:=tk Tryz.func12 (ct:=J) (loops:=[(12,5,⟨[(18,.int I)],[(1,2,.am (.own 75))]⟩)]) (kW:=J)
theorem aBe:bG 13 E E ans:=tk Tryz.func13 (ct:=J)
theorem aBf:bG 14 E E ant:=tk Tryz.func14 (ct:=J) (loops:=[(14,19,⟨[(75,.int I),(7,.am (.own 80))],[(2,2,.am (.own 75)),(2,3,.am (.own 3))]⟩)]) (inl:=[24,55,56]) (kW:=J)
theorem aBg:bG 15 E E anu:=tk Tryz.func15 (ct:=J)
theorem aBh:bG 16 E E anv:=tk Tryz.func16 (ct:=J) (loops:=[(16,5,⟨[(22,.int I),(6,.am (.own 3))],[]⟩)])
theorem aBi:bG 17 E E anw:=tk Tryz.func17 (ct:=J) (loops:=[(17,6,⟨[(29,.int I),(8,.int I)],[]⟩),(17,16,⟨[(52,.int I)],[(6,0,.am (.own 105))]⟩),(62,4,⟨[(15,.int I)],[(2,0,.am (.own 116)),(6,0,.am (.sl 105))]⟩)]) (inl:=[36,62]) (kW:=J) (chs:=[(17,19)])
theorem aBj:bG 30 E E anx:=tk Tryz.func30 (ct:=J)
theorem aBk:bG 31 E E anz:=tk Tryz.func31 (ct:=J)
theorem aBl:bG 32 E E anA:=tk Tryz.func32 (ct:=J) (loops:=[(32,2,⟨[(13,.int I),(4,.am (.own 78))],[]⟩)])
theorem aBm:bG 33 E E anB:=tk Tryz.func33 (ct:=J) (loops:=[(93,2,⟨[(8,.int I)],[]⟩)]) (inl:=[58,59,93])
theorem aBn:bG 34 E E anC:=tk Tryz.func34 (ct:=J)
theorem aBo:bG 35 E E anD:=tk Tryz.func35 (ct:=J) (loops:=[(35,6,⟨[(29,.int I)],[]⟩),(35,11,⟨[(38,.int I),(6,.am (.own 4))],[]⟩)]) (inl:=[61])
theorem aBp(X:Cc Tryz.prog 27):bG 10 E J ac8:=tk Tryz.func10 (ct:=J) (loops:=[(10,8,⟨[(60,.int I)],[]⟩),(10,13,⟨[(82,.int I)],[]⟩),(10,17,⟨[(115,.int I)],[]⟩)]) (inl:=[28]) (dT:=U 0) (hdc:=ao4 aT X)
theorem aBq(X:Cc Tryz.prog 27):bG 18 E J ac9:=tk Tryz.func18 (ct:=J) (loops:=[(18,8,⟨[(72,.int I)],[]⟩),(18,13,⟨[(84,.int I)],[]⟩),(18,21,⟨[(109,.int I)],[]⟩),(18,26,⟨[(129,.int I)],[]⟩),(18,29,⟨[(138,.int I)],[]⟩),(18,36,⟨[(161,.int I)],[]⟩),(18,40,⟨[(181,.int I)],[]⟩),(18,49,⟨[(233,.int I)],[(2,0,.am (.mr ⟨3,4,1,E,E⟩))]⟩),(18,54,⟨[(247,.int I)],[]⟩)]) (inl:=[28]) (dT:=U 0) (hdc:=ao4 aT X)
def aBr(W:World)(b:Nat):CallsDIn Fence.wide 0 Tryz.prog 27 #[.pointer (U ⟨b,0,Z⟩)] .returning W λR u Q=>(∃v,R=.returned v)/\u=.returning/\Q=W:=by
 refine callsDIn_of_wpSIn Tryz.func27 rfl (by simp[Fence.wide]) λV P X=> ?_
 have O:V={V with mode:=.returning}:=by rw[<-X]
 rw[Tryz.ntmps27];apply wpSIn_seq;apply wpSIn_region;simp[wpOpsSIn,go_sem,recoverD,X,Exit.thenS];refine wpSIn_of_wpIn rfl (wpIn_wide.2 ?_);go_wp2;refine⟨rfl,.returning,by rw[<-X],.tuple #[], ?_,⟨_,rfl⟩,rfl,rfl⟩;simp[results,Tryz.results27]
def apW:Cc Tryz.prog 27:=⟨u7 aT,aBr⟩
