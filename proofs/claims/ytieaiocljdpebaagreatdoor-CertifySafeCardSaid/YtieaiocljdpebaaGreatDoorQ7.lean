/- Part 7 of the proof. -/
import Derived.Test.YtieaiocljdpebaaGreatDoorQ6
set_option linter.all false
open Bool renaming true->J,false->E
open Go.IntKind renaming i64->I
namespace Go.Proofs.YtieaiocljdpebaaGreatDoor.Y
open Go.RowKit
noncomputable section
section
set_option maxRecDepth 100000
def ayD:cG 82 E E T82:=tk Tryz.func82
def ayE:cG 84 J E T84:=tk Tryz.func84 (g:=J)
def ayF:cG 134 E E adX:=tk Tryz.func134
def ayG:cG 138 E E adY:=tk Tryz.func138
def ayH:cG 139 J E VK:=tk Tryz.func139 (inl:=[208]) (g:=J)
def ayI:cG 376 J E adZ:=tk Tryz.func376 (g:=J)
def aqa:cG 142 E E VL:=tk Tryz.func142
def aqb:cG 210 E E VM:=tk Tryz.func210
def aqc:cG 276 E E VN:=tk Tryz.func276
def ayJ:cG 371 E E ad0:=tk Tryz.func371
def ayK:cG 354 E E VO:=tk Tryz.func354
def aqd:cG 275 E E VP:=tk Tryz.func275 (loops:=[(359,0,⟨[],[(0,0,.int .u64),(1,0,.int .u64),(2,0,.int .u64)]⟩)]) (inl:=[321,359])
def aqe:cG 110 E E VQ:=tk Tryz.func110
def aqf:cG 192 E E VR:=tk Tryz.func192
def ayL:cG 66 E E T66:=tk Tryz.func66 (inl:=[131])
def ayM:cG 72 E E T72:=tk Tryz.func72
def ayN:cG 69 E E T69:=tk Tryz.func69
def ayO:cG 133 E E ad4:=tk Tryz.func133 (inl:=[131])
def ayP:cG 24 E E T24:=tk Tryz.func24 (inl:=[67,68])
def ayQ:cG 361 E E ad6:=tk Tryz.func361 (inl:=[131])
def ayR:cG 248 E E ad7:=tk Tryz.func248
def ayS:cG 154 E E ad8:=tk Tryz.func154
def ayT:cG 219 E E ad9:=tk Tryz.func219
def ayU:cG 220 E E aea:=tk Tryz.func220 (loops:=[(281,2,⟨[(5,.int I),(6,.int I)],[]⟩)]) (inl:=[281,282]) (chs:=[(220,1)])
def ayV:cG 353 E E aeb:=tk Tryz.func353
def ayW:cG 310 E E aec:=tk Tryz.func310
def ayX:cG 249 E E aed:=tk Tryz.func249
def ayY:cG 70 E E T70:=tk Tryz.func70
def ayZ:cG 65 E E T65:=tk Tryz.func65
end
