/- Part 10 of the proof. -/
import Derived.Test.YtfpoabmmjhhncaaGreatDoorQ9
set_option linter.all false
set_option maxRecDepth 100000
set_option maxHeartbeats 100000000
open Bool renaming true->J,false->E
open Go.IntKind renaming i64->I
namespace Go.Proofs.YtfpoabmmjhhncaaGreatDoor.Y
open Go.RowKit
noncomputable section
theorem atn:cq 51 E E YK:=tk Tryz.func51
theorem ato:cq 53 J E YL:=tk Tryz.func53 (g:=J)
theorem atp:cq 40 E E YM:=tk Tryz.func40
theorem atq:cq 158 E E aib:=tk Tryz.func158 (ct:=J)
theorem atr:cq 270 J E aic:=tk Tryz.func270 (ct:=J) (g:=J)
theorem akw:cq 71 E E RQ:=tk Tryz.func71
theorem akx:cq 100 E E RT:=tk Tryz.func100
theorem aky:cq 118 E E RU:=tk Tryz.func118
theorem akz:cq 117 E E RW:=tk Tryz.func117 (loops:=[(174,0,⟨[],[(0,0,.int .u64),(1,0,.int .u64),(2,0,.int .u64)]⟩)]) (inl:=[146,174])
theorem akA:cq 87 E E RX:=tk Tryz.func87
theorem akB:cq 47 E E RY:=tk Tryz.func47
theorem ats:cq 81 E E YN:=tk Tryz.func81 (inl:=[102])
theorem att:cq 60 E E YO:=tk Tryz.func60
theorem atu:cq 57 E E YP:=tk Tryz.func57
theorem atv:cq 80 E E YQ:=tk Tryz.func80 (inl:=[102])
theorem atw:cq 141 E E T24:=tk Tryz.func141 (ct:=J) (inl:=[161,162])
theorem atx:cq 70 E E YR:=tk Tryz.func70
theorem aty:cq 98 E E YS:=tk Tryz.func98 (loops:=[(115,2,⟨[(5,.int I),(6,.int I)],[]⟩)]) (inl:=[115,116]) (chs:=[(98,1)])
theorem atz:cq 58 E E YT:=tk Tryz.func58
theorem atA:cq 66 E E YU:=tk Tryz.func66
