/- Part 8. -/
import Derived.Test.YtjnmghiggfgjlaaGreatDoorU7
set_option linter.all false
set_option maxRecDepth 100000
set_option maxHeartbeats 100000000
open Bool renaming true->J,false->E
open Go.IntKind renaming i64->I
namespace Go.Proofs.YtjnmghiggfgjlaaGreatDoor.Y
open Go.RowKit
noncomputable section
theorem aE5:cg 61 E E T82:=tk Tryz.func61
theorem aE6:cg 63 J E T84:=tk Tryz.func63 (g:=J)
theorem aE7:cg 46 E E aiu:=tk Tryz.func46
theorem aE8:cg 138 E E aiv:=tk Tryz.func138
theorem aE9:cg 139 J E aiw:=tk Tryz.func139 (inl:=[172]) (g:=J)
theorem aFa:cg 274 J E aix:=tk Tryz.func274 (g:=J)
theorem au8:cg 89 E E aaO:=tk Tryz.func89
theorem au9:cg 127 E E aaP:=tk Tryz.func127
theorem ava:cg 157 E E aaQ:=tk Tryz.func157
theorem aFb:cg 280 E E aiy:=tk Tryz.func280
theorem aFc:cg 273 E E aaR:=tk Tryz.func273
theorem avb:cg 156 E E aaS:=tk Tryz.func156 (loops:=[(227,0,⟨[],[(0,0,.int .u64),(1,0,.int .u64),(2,0,.int .u64)]⟩)]) (inl:=[194,227])
theorem avc:cg 106 E E aaT:=tk Tryz.func106
theorem avd:cg 76 E E aaU:=tk Tryz.func76
theorem aFd:cg 99 E E T66:=tk Tryz.func99 (inl:=[129])
theorem aFe:cg 70 E E T72:=tk Tryz.func70
theorem aFf:cg 67 E E T69:=tk Tryz.func67
theorem aFg:cg 98 E E aiC:=tk Tryz.func98 (inl:=[129])
theorem aFh:cg 118 E E T24:=tk Tryz.func118 (inl:=[141,142])
theorem aFi:cg 276 E E aiE:=tk Tryz.func276 (inl:=[129])
theorem aFj:cg 219 E E aiF:=tk Tryz.func219
theorem aFk:cg 88 E E aiG:=tk Tryz.func88
theorem aFl:cg 124 E E aiH:=tk Tryz.func124
theorem aFm:cg 125 E E aiI:=tk Tryz.func125 (loops:=[(154,2,⟨[(5,.int I),(6,.int I)],[]⟩)]) (inl:=[154,155]) (chs:=[(125,1)])
theorem aFn:cg 272 E E aiJ:=tk Tryz.func272
theorem aFo:cg 255 E E aiK:=tk Tryz.func255
theorem aFp:cg 220 E E aiL:=tk Tryz.func220
theorem aFq:cg 68 E E T70:=tk Tryz.func68
theorem aFr:cg 100 E E T65:=tk Tryz.func100
