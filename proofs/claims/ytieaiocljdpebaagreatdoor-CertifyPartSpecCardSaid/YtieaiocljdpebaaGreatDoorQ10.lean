/- Part 10 of the proof. -/
import Derived.Test.YtieaiocljdpebaaGreatDoorQ4
import Derived.Test.YtieaiocljdpebaaGreatDoorQ6
set_option linter.all false
set_option maxRecDepth 100000
set_option maxHeartbeats 100000000
open Bool renaming true->J,false->E
open Go.IntKind renaming i64->I
namespace Go.Proofs.YtieaiocljdpebaaGreatDoor.Y
open Go.RowKit
noncomputable section
def aF8:bB 82 E E T82:=tk Tryz.func82
def aF9:bB 84 J E SC:=tk Tryz.func84 (g:=J)
def aGa:bB 134 E E agH:=tk Tryz.func134
def aGb:bB 138 E E NO:=tk Tryz.func138
def aGc:bB 139 J E NP:=tk Tryz.func139 (inl:=[208]) (g:=J)
def aGd:bB 376 J E Zj:=tk Tryz.func376 (g:=J)
def awe:bB 142 E E Zk:=tk Tryz.func142
def awf:bB 210 E E Zl:=tk Tryz.func210
def awg:bB 276 E E Zm:=tk Tryz.func276
def aGe:bB 371 E E agI:=tk Tryz.func371
def aGf:bB 354 E E Zn:=tk Tryz.func354
def awh:bB 275 E E Zo:=tk Tryz.func275 (loops:=[(359,0,⟨[],[(0,0,.int .u64),(1,0,.int .u64),(2,0,.int .u64)]⟩)]) (inl:=[321,359])
def awi:bB 110 E E Zp:=tk Tryz.func110
def awj:bB 192 E E Zq:=tk Tryz.func192
def aGg:bB 66 E E T66:=tk Tryz.func66 (inl:=[131])
def aGh:bB 72 E E T72:=tk Tryz.func72
def aGi:bB 69 E E T69:=tk Tryz.func69
def aGj:bB 133 E E agM:=tk Tryz.func133 (inl:=[131])
def aGk:bB 24 E E T24:=tk Tryz.func24 (inl:=[67,68])
def aGl:bB 361 E E agO:=tk Tryz.func361 (inl:=[131])
def aGm:bB 248 E E agP:=tk Tryz.func248
def aGn:bB 154 E E agQ:=tk Tryz.func154
def aGo:bB 219 E E agR:=tk Tryz.func219
def aGp:bB 220 E E Zr:=tk Tryz.func220 (loops:=[(281,2,⟨[(5,.int I),(6,.int I)],[]⟩)]) (inl:=[281,282]) (chs:=[(220,1)])
def aGq:bB 353 E E asV:=tk Tryz.func353 (ct:=J)
def aGr:bB 310 E E asW:=tk Tryz.func310 (ct:=J)
def aGs:bB 249 E E asX:=tk Tryz.func249 (ct:=J)
def aGt:bB 70 E E T70:=tk Tryz.func70
def aGu:bB 65 E E T65:=tk Tryz.func65
