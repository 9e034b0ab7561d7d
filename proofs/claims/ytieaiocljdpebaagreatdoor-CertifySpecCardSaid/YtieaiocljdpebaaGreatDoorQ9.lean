/- Part 9 of the proof. -/
import Derived.Test.YtieaiocljdpebaaGreatDoorQ4
import Derived.Test.YtieaiocljdpebaaGreatDoorQ6
set_option linter.all false
open Bool renaming true->J,false->E
open Go.IntKind renaming i64->I
namespace Go.Proofs.YtieaiocljdpebaaGreatDoor.Y
open Go.RowKit
noncomputable section
section
set_option maxRecDepth 100000
def aDF:bp 82 E E T82:=tk Tryz.func82
def aDG:bp 84 J E Qy:=tk Tryz.func84 (g:=J)
def aDH:bp 134 E E agj:=tk Tryz.func134
def aDI:bp 138 E E Mg:=tk Tryz.func138
def aDJ:bp 139 J E Mh:=tk Tryz.func139 (inl:=[208]) (g:=J)
def aDK:bp 376 J E X2:=tk Tryz.func376 (g:=J)
def au3:bp 142 E E X3:=tk Tryz.func142
def au4:bp 210 E E X4:=tk Tryz.func210
def au5:bp 276 E E X5:=tk Tryz.func276
def aDL:bp 371 E E ar4:=tk Tryz.func371
def aDM:bp 354 E E ar5:=tk Tryz.func354
def au6:bp 275 E E X6:=tk Tryz.func275 (loops:=[(359,0,⟨[],[(0,0,.int .u64),(1,0,.int .u64),(2,0,.int .u64)]⟩)]) (inl:=[321,359])
def au7:bp 110 E E X7:=tk Tryz.func110
def au8:bp 192 E E X8:=tk Tryz.func192
def aDN:bp 66 E E T66:=tk Tryz.func66 (inl:=[131])
def aDO:bp 72 E E T72:=tk Tryz.func72
def aDP:bp 69 E E T69:=tk Tryz.func69
def aDQ:bp 133 E E agn:=tk Tryz.func133 (inl:=[131])
def aDR:bp 24 E E T24:=tk Tryz.func24 (inl:=[67,68])
def aDS:bp 361 E E agp:=tk Tryz.func361 (inl:=[131])
def aDT:bp 248 E E agq:=tk Tryz.func248
def aDU:bp 154 E E agr:=tk Tryz.func154
def aDV:bp 219 E E ags:=tk Tryz.func219
def aDW:bp 220 E E X9:=tk Tryz.func220 (loops:=[(281,2,⟨[(5,.int I),(6,.int I)],[]⟩)]) (inl:=[281,282]) (chs:=[(220,1)])
def aDX:bp 353 E E ar6:=tk Tryz.func353
def aDY:bp 310 E E ar7:=tk Tryz.func310
def aDZ:bp 249 E E ar8:=tk Tryz.func249
def aD0:bp 70 E E T70:=tk Tryz.func70
def aD1:bp 65 E E T65:=tk Tryz.func65
end
