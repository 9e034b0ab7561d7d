/- Part 13 of the proof; the last part says what is shown. -/
import Derived.Test.YtieaiocljdpebaaGreatDoorQ12
import Derived.Test.YtieaiocljdpebaaGreatDoorQ5
set_option linter.all false
namespace Go.Proofs.YtieaiocljdpebaaGreatDoor.Y
open Go.RowKit
noncomputable section
section
set_option maxRecDepth 100000
def as1:bL 82 false false Z4:=tk Tryz.func82
def as2:bL 84 true false Z5:=tk Tryz.func84 (g:=true)
def as3:bL 131 false false aja:=tk Tryz.func131 (loops:=[(131,2,⟨[(9,.int .i64)],[]⟩)])
def as4:bL 134 false false Z6:=tk Tryz.func134
def as5:bL 138 false false Z7:=tk Tryz.func138
def as6:bL 139 true false Z8:=tk Tryz.func139 (inl:=[208]) (g:=true)
def as7:bL 376 true false Z9:=tk Tryz.func376 (g:=true)
def aln:bL 142 false false RX:=tk Tryz.func142
def alo:bL 210 false false RY:=tk Tryz.func210
def alp:bL 276 false false RZ:=tk Tryz.func276
def as8:bL 371 false false R6:=tk Tryz.func371
def as9:bL 354 false false Im:=tk Tryz.func354
def alq:bL 275 false false R7:=tk Tryz.func275 (loops:=[(359,0,⟨[],[(0,0,.int .u64),(1,0,.int .u64),(2,0,.int .u64)]⟩)]) (inl:=[321,359])
def alr:bL 110 false false R8:=tk Tryz.func110
def als:bL 192 false false R9:=tk Tryz.func192
def ata:bL 66 false false T66:=tk Tryz.func66 (inl:=[131])
def atb:bL 72 false false T72:=tk Tryz.func72
def atc:bL 69 false false T69:=tk Tryz.func69
def atd:bL 133 false false aad:=tk Tryz.func133 (inl:=[131])
def ate:bL 24 false false T24:=tk Tryz.func24 (inl:=[67,68])
def atf:bL 361 false false aaf:=tk Tryz.func361 (inl:=[131])
def atg:bL 325 false false ajb:=tk Tryz.func325
def ath:bL 248 false false aag:=tk Tryz.func248
def ati:bL 154 false false aah:=tk Tryz.func154
def atj:bL 219 false false aai:=tk Tryz.func219
def atk:bL 218 false false ajc:=tk Tryz.func218
def atl:bL 220 false false aaj:=tk Tryz.func220 (loops:=[(281,2,⟨[(5,.int .i64),(6,.int .i64)],[]⟩)]) (inl:=[281,282]) (chs:=[(220,1)])
def atm:bL 353 false false aak:=tk Tryz.func353
def atn:bL 310 false false Sa:=tk Tryz.func310
def ato:bL 249 false false Sb:=tk Tryz.func249
def atp:bL 70 false false T70:=tk Tryz.func70
def atq:bL 65 false false T65:=tk Tryz.func65
end
end
end Go.Proofs.YtieaiocljdpebaaGreatDoor.Y
