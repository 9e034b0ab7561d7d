/- Part 14 of the proof; the last part says what is shown. -/
import Derived.Test.YtieaiocljdpebaaGreatDoorQ13
import Derived.Test.YtieaiocljdpebaaGreatDoorQ5
set_option linter.all false
namespace Go.Proofs.YtieaiocljdpebaaGreatDoor.Y
open Go.RowKit
noncomputable section
section
set_option maxRecDepth 100000
def atK:bL 82 false false T82:=tk Tryz.func82
def atL:bL 84 true false T84:=tk Tryz.func84 (g:=true)
def atM:bL 134 false false aau:=tk Tryz.func134
def atN:bL 138 false false aav:=tk Tryz.func138
def atO:bL 139 true false Sb:=tk Tryz.func139 (inl:=[208]) (g:=true)
def atP:bL 376 true false aaw:=tk Tryz.func376 (g:=true)
def alP:bL 142 false false Sc:=tk Tryz.func142
def alQ:bL 210 false false Sd:=tk Tryz.func210
def alR:bL 276 false false Se:=tk Tryz.func276
def atQ:bL 371 false false aax:=tk Tryz.func371
def atS:bL 354 false false Sf:=tk Tryz.func354
def alS:bL 275 false false Sg:=tk Tryz.func275 (loops:=[(359,0,⟨[],[(0,0,.int .u64),(1,0,.int .u64),(2,0,.int .u64)]⟩)]) (inl:=[321,359])
def alT:bL 110 false false Si:=tk Tryz.func110
def alU:bL 192 false false Sj:=tk Tryz.func192
def atT:bL 66 false false T66:=tk Tryz.func66 (inl:=[131])
def atU:bL 72 false false T72:=tk Tryz.func72
def atV:bL 69 false false T69:=tk Tryz.func69
def atW:bL 133 false false aaB:=tk Tryz.func133 (inl:=[131])
def atX:bL 24 false false T24:=tk Tryz.func24 (inl:=[67,68])
def atY:bL 361 false false aaD:=tk Tryz.func361 (inl:=[131])
def atZ:bL 248 false false aaE:=tk Tryz.func248
def at0:bL 154 false false aaF:=tk Tryz.func154
def at1:bL 219 false false aaG:=tk Tryz.func219
def at2:bL 220 false false aaH:=tk Tryz.func220 (loops:=[(281,2,⟨[(5,.int .i64),(6,.int .i64)],[]⟩)]) (inl:=[281,282]) (chs:=[(220,1)])
def at3:bL 353 false false ajQ:=tk Tryz.func353
def at4:bL 310 false false ajR:=tk Tryz.func310
def at5:bL 249 false false ajS:=tk Tryz.func249
def at6:bL 70 false false T70:=tk Tryz.func70
def at7:bL 65 false false T65:=tk Tryz.func65
end
end
end Go.Proofs.YtieaiocljdpebaaGreatDoor.Y
