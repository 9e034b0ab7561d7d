/- Part 8. -/
import Derived.Test.YtjnmghiggfgjlaaGreatDoorW7
set_option linter.all false
set_option maxRecDepth 100000
set_option maxHeartbeats 100000000
open Bool renaming true->J,false->E
open Go.IntKind renaming i64->I
namespace Go.Proofs.YtjnmghiggfgjlaaGreatDoor.Y
open Go.RowKit
noncomputable section
theorem aEP:cj 61 E E T82:=tk Tryz.func61
theorem aEQ:cj 63 J E T84:=tk Tryz.func63 (g:=J)
theorem aER:cj 46 E E aib:=tk Tryz.func46
theorem aES:cj 138 E E aic:=tk Tryz.func138
theorem aET:cj 139 J E aid:=tk Tryz.func139 (inl:=[172]) (g:=J)
theorem aEU:cj 274 J E aie:=tk Tryz.func274 (g:=J)
theorem auV:cj 89 E E aaz:=tk Tryz.func89
theorem auW:cj 127 E E aaA:=tk Tryz.func127
theorem auX:cj 157 E E aaB:=tk Tryz.func157
theorem aEV:cj 280 E E aif:=tk Tryz.func280
theorem aEW:cj 273 E E aaC:=tk Tryz.func273
theorem auY:cj 156 E E aaD:=tk Tryz.func156 (loops:=[(227,0,⟨[],[(0,0,.int .u64),(1,0,.int .u64),(2,0,.int .u64)]⟩)]) (inl:=[194,227])
theorem auZ:cj 106 E E aaE:=tk Tryz.func106
theorem au0:cj 76 E E aaF:=tk Tryz.func76
theorem aEX:cj 99 E E T66:=tk Tryz.func99 (inl:=[129])
theorem aEY:cj 70 E E T72:=tk Tryz.func70
theorem aEZ:cj 67 E E T69:=tk Tryz.func67
theorem aE0:cj 98 E E aij:=tk Tryz.func98 (inl:=[129])
theorem aE1:cj 118 E E T24:=tk Tryz.func118 (inl:=[141,142])
theorem aE2:cj 276 E E ail:=tk Tryz.func276 (inl:=[129])
theorem aE3:cj 219 E E aim:=tk Tryz.func219
theorem aE4:cj 88 E E ain:=tk Tryz.func88
theorem aE5:cj 124 E E aio:=tk Tryz.func124
theorem aE6:cj 125 E E aip:=tk Tryz.func125 (loops:=[(154,2,⟨[(5,.int I),(6,.int I)],[]⟩)]) (inl:=[154,155]) (chs:=[(125,1)])
theorem aE7:cj 272 E E aiq:=tk Tryz.func272
theorem aE8:cj 255 E E air:=tk Tryz.func255
theorem aE9:cj 220 E E ais:=tk Tryz.func220
theorem aFa:cj 68 E E T70:=tk Tryz.func68
theorem aFb:cj 100 E E T65:=tk Tryz.func100
