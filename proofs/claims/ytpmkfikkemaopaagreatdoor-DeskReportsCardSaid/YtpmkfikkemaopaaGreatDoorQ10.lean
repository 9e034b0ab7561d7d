/- Part 10 of the proof. -/
import Derived.Test.YtpmkfikkemaopaaGreatDoorQ9
set_option linter.all false
set_option maxRecDepth 100000
set_option maxHeartbeats 100000000
open Bool renaming true->J,false->E
open Go.IntKind renaming i64->I
namespace Go.Proofs.YtpmkfikkemaopaaGreatDoor.Y
open Go.RowKit
noncomputable section
theorem ayY:bG 44 E E T82:=tk Tryz.func44
theorem ayZ:bG 46 J E O7:=tk Tryz.func46 (g:=J)
theorem ay0:bG 57 E E ab8:=tk Tryz.func57
theorem ay1:bG 154 E E am4:=tk Tryz.func154 (ct:=J)
theorem ay2:bG 324 J E am5:=tk Tryz.func324 (ct:=J) (g:=J)
theorem apx:bG 83 E E UT:=tk Tryz.func83
theorem apy:bG 125 E E UU:=tk Tryz.func125
theorem apz:bG 167 E E UV:=tk Tryz.func167
theorem apA:bG 166 E E UW:=tk Tryz.func166 (loops:=[(249,0,⟨[],[(0,0,.int .u64),(1,0,.int .u64),(2,0,.int .u64)]⟩)]) (inl:=[210,249])
theorem apB:bG 119 E E UX:=tk Tryz.func119
theorem apC:bG 162 E E UY:=tk Tryz.func162
theorem ay3:bG 112 E E T66:=tk Tryz.func112 (inl:=[158])
theorem ay4:bG 74 E E T72:=tk Tryz.func74
theorem ay5:bG 71 E E T69:=tk Tryz.func71
theorem ay6:bG 111 E E acd:=tk Tryz.func111 (inl:=[158])
theorem ay7:bG 145 E E T24:=tk Tryz.func145 (ct:=J) (inl:=[181,182])
theorem ay8:bG 82 E E ace:=tk Tryz.func82
theorem ay9:bG 123 E E UZ:=tk Tryz.func123 (loops:=[(164,2,⟨[(5,.int I),(6,.int I)],[]⟩)]) (inl:=[164,165]) (chs:=[(123,1)])
theorem aza:bG 72 E E T70:=tk Tryz.func72
theorem azb:bG 113 E E T65:=tk Tryz.func113
