/- Part 8. -/
import Derived.Test.YtjnmghiggfgjlaaGreatDoorV7
set_option linter.all false
set_option maxRecDepth 100000
set_option maxHeartbeats 100000000
open Bool renaming true->J,false->E
open Go.IntKind renaming i64->I
namespace Go.Proofs.YtjnmghiggfgjlaaGreatDoor.Y
open Go.RowKit
noncomputable section
theorem aEY:cg 61 E E T82:=tk Tryz.func61
theorem aEZ:cg 63 J E T84:=tk Tryz.func63 (g:=J)
theorem aE0:cg 46 E E ain:=tk Tryz.func46
theorem aE1:cg 138 E E aio:=tk Tryz.func138
theorem aE2:cg 139 J E aip:=tk Tryz.func139 (inl:=[172]) (g:=J)
theorem aE3:cg 274 J E aiq:=tk Tryz.func274 (g:=J)
theorem au1:cg 89 E E aaM:=tk Tryz.func89
theorem au2:cg 127 E E aaN:=tk Tryz.func127
theorem au3:cg 157 E E aaO:=tk Tryz.func157
theorem aE4:cg 280 E E air:=tk Tryz.func280
theorem aE5:cg 273 E E aaP:=tk Tryz.func273
theorem au4:cg 156 E E aaQ:=tk Tryz.func156 (loops:=[(227,0,⟨[],[(0,0,.int .u64),(1,0,.int .u64),(2,0,.int .u64)]⟩)]) (inl:=[194,227])
theorem au5:cg 106 E E aaR:=tk Tryz.func106
theorem au6:cg 76 E E aaS:=tk Tryz.func76
theorem aE6:cg 99 E E T66:=tk Tryz.func99 (inl:=[129])
theorem aE7:cg 70 E E T72:=tk Tryz.func70
theorem aE8:cg 67 E E T69:=tk Tryz.func67
theorem aE9:cg 98 E E aiv:=tk Tryz.func98 (inl:=[129])
theorem aFa:cg 118 E E T24:=tk Tryz.func118 (inl:=[141,142])
theorem aFb:cg 276 E E aix:=tk Tryz.func276 (inl:=[129])
theorem aFc:cg 219 E E aiy:=tk Tryz.func219
theorem aFd:cg 88 E E aiz:=tk Tryz.func88
theorem aFe:cg 124 E E aiA:=tk Tryz.func124
theorem aFf:cg 125 E E aiB:=tk Tryz.func125 (loops:=[(154,2,⟨[(5,.int I),(6,.int I)],[]⟩)]) (inl:=[154,155]) (chs:=[(125,1)])
theorem aFg:cg 272 E E aiC:=tk Tryz.func272
theorem aFh:cg 255 E E aiD:=tk Tryz.func255
theorem aFi:cg 220 E E aiE:=tk Tryz.func220
theorem aFj:cg 68 E E T70:=tk Tryz.func68
theorem aFk:cg 100 E E T65:=tk Tryz.func100
