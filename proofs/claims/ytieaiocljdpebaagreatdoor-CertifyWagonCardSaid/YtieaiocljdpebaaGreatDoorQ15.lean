/- Part 15 of the proof; the last part says what is shown. -/
import Derived.Test.YtieaiocljdpebaaGreatDoorQ11
import Derived.Test.YtieaiocljdpebaaGreatDoorQ5
set_option linter.defProp false
set_option linter.unusedVariables false
set_option linter.unusedSimpArgs false
set_option linter.unnecessarySimpa false
namespace Go.Proofs.YtieaiocljdpebaaGreatDoor.Y
open Go.RowKit
noncomputable section
section
set_option maxRecDepth 100000
def as9:bG 82 false false Y4:=tk Tryz.func82
def ata:bG 84 true false Y5:=tk Tryz.func84 (g:=true)
def atb:bG 131 false false aiA:=tk Tryz.func131 (loops:=[(131,2,⟨[(9,.int .i64)],[]⟩)])
def atc:bG 134 false false Y6:=tk Tryz.func134
def atd:bG 138 false false Y7:=tk Tryz.func138
def ate:bG 139 true false Y8:=tk Tryz.func139 (inl:=[208]) (g:=true)
def atf:bG 376 true false Y9:=tk Tryz.func376 (g:=true)
def atg:bG 142 false false Za:=tk Tryz.func142
def ath:bG 210 false false Zb:=tk Tryz.func210
def ati:bG 276 false false Zc:=tk Tryz.func276
def atj:bG 371 false false Zd:=tk Tryz.func371
def atk:bG 354 false false Q9:=tk Tryz.func354
def atl:bG 275 false false Ze:=tk Tryz.func275 (loops:=[(359,0,⟨[],[(0,0,.int .u64),(1,0,.int .u64),(2,0,.int .u64)]⟩)]) (inl:=[321,359])
def atm:bG 110 false false Zf:=tk Tryz.func110
def atn:bG 192 false false Zg:=tk Tryz.func192
def ato:bG 66 false false Zh:=tk Tryz.func66 (inl:=[131])
def atp:bG 72 false false Zi:=tk Tryz.func72
def atq:bG 69 false false Zj:=tk Tryz.func69
def atr:bG 133 false false Zk:=tk Tryz.func133 (inl:=[131])
def ats:bG 24 false false Zl:=tk Tryz.func24 (inl:=[67,68])
def att:bG 361 false false Zm:=tk Tryz.func361 (inl:=[131])
def atu:bG 325 false false aiB:=tk Tryz.func325
def atv:bG 248 false false Zn:=tk Tryz.func248
def atw:bG 154 false false Zo:=tk Tryz.func154
def atx:bG 219 false false Zp:=tk Tryz.func219
def aty:bG 218 false false aiC:=tk Tryz.func218
def atz:bG 220 false false Zq:=tk Tryz.func220 (loops:=[(281,2,⟨[(5,.int .i64),(6,.int .i64)],[]⟩)]) (inl:=[281,282]) (chs:=[(220,1)])
def atA:bG 353 false false Zr:=tk Tryz.func353
def atB:bG 310 false false Zs:=tk Tryz.func310
def atC:bG 249 false false Zt:=tk Tryz.func249
def atD:bG 70 false false Zu:=tk Tryz.func70
def atE:bG 65 false false Zv:=tk Tryz.func65
end
end
end Go.Proofs.YtieaiocljdpebaaGreatDoor.Y
