/- Part 18 of the proof. -/
import Derived.Test.YtieaiocljdpebaaGreatDoorQ4
import Derived.Test.YtieaiocljdpebaaGreatDoorQ6
set_option linter.all false
set_option maxRecDepth 100000
set_option maxHeartbeats 100000000
open Bool renaming true->J,false->E
open Go.IntKind renaming i64->I
namespace Go.Proofs.YtieaiocljdpebaaGreatDoor.Y
open Go.RowKit
noncomputable section
def aHM:bB 159 E E ag5:=tk Tryz.func159
def aHN:bB 163 E E ag6:=tk Tryz.func163
def aHO:bB 228 E E ag7:=tk Tryz.func228 (loops:=[(228,2,⟨[(5,.int I)],[]⟩)])
def aHP:bB 91 E E T91:=tk Tryz.func91 (loops:=[(160,4,⟨[(3,.int I)],[]⟩),(160,12,⟨[(5,.int I)],[]⟩),(161,2,⟨[(3,.int I)],[]⟩),(162,2,⟨[(3,.int I)],[]⟩)]) (inl:=[159,160,161,162])
def aHQ:bB 229 E E ag9:=tk Tryz.func229 (loops:=[(229,1,⟨[(1,.int I),(0,.int I)],[]⟩)])
def aHR:bB 164 E E aha:=tk Tryz.func164 (loops:=[(229,1,⟨[(1,.int I),(0,.int I)],[]⟩)]) (inl:=[229,230])
def aHS:bB 342 E E ahb:=tk Tryz.func342 (loops:=[(342,1,⟨[(1,.int I),(0,.int I)],[]⟩)])
def aHT:bB 343 E E ahc:=tk Tryz.func343
def aHU:bB 231 E E ZE:=tk Tryz.func231 (loops:=[(342,1,⟨[(1,.int I),(0,.int I)],[]⟩)]) (inl:=[287,342,343])
def aHV:bB 232 E E SJ:=tk Tryz.func232 (loops:=[(342,1,⟨[(1,.int I),(0,.int I)],[]⟩)]) (inl:=[287,288,289,342,343])
def aHW:bB 165 E E ZF:=tk Tryz.func165 (inl:=[163])
def aHX:bB 166 E E ahd:=tk Tryz.func166
def aHY:bB 92 E E T92:=tk Tryz.func92 (loops:=[(92,4,⟨[(3,.int I)],[]⟩),(92,10,⟨[(5,.int I)],[]⟩)]) (inl:=[163])
def aHZ:bB 40 E E T40:=tk Tryz.func40
def aH0:bB 312 E E ahg:=tk Tryz.func312
def aH1:bB 233 E E ahh:=tk Tryz.func233 (loops:=[(233,4,⟨[(3,.int I)],[]⟩)]) (inl:=[290,291,344])
def aH2:bB 167 E E ahi:=tk Tryz.func167 (inl:=[234,235])
def aH3:bB 94 E E T94:=tk Tryz.func94 (loops:=[(94,4,⟨[(3,.int I)],[]⟩)]) (inl:=[168])
def aH4:bB 197 E E ahk:=tk Tryz.func197 (loops:=[(197,3,⟨[(8,.int I),(7,.aj (.own 90))],[]⟩),(259,2,⟨[(5,.int I)],[]⟩)]) (inl:=[259,312]) (nZ:=J)
def aH5:bB 169 E E ahl:=tk Tryz.func169 (inl:=[163])
def aH6:bB 170 E E ahm:=tk Tryz.func170 (loops:=[(170,5,⟨[(6,.int I)],[]⟩),(196,3,⟨[(4,.int I),(3,.aj (.own 90))],[]⟩),(196,6,⟨[(5,.int I)],[]⟩)]) (inl:=[196,236,292]) (nZ:=J)
def aH7:bB 95 E E T95:=tk Tryz.func95
def aH8:bB 115 E E aho:=tk Tryz.func115 (loops:=[(115,2,⟨[(5,.int I)],[]⟩)])
def aH9:bB 265 E E ahp:=tk Tryz.func265 (inl:=[316])
def aIa:bB 266 E E ahq:=tk Tryz.func266 (inl:=[168])
def aIb:bB 269 E E ZG:=tk Tryz.func269
def aIc:bB 261 E E ZH:=tk Tryz.func261 (inl:=[313])
def aId:bB 195 E E ahr:=tk Tryz.func195 (inl:=[119,202,258])
def aIe:bB 239 E E NR:=tk Tryz.func239 (inl:=[119,202,297])
def aIf:bB 294 E E ahs:=tk Tryz.func294
def aIg:bB 296 E E aht:=tk Tryz.func296 (inl:=[295])
def aIh:bB 267 E E ahu:=tk Tryz.func267 (inl:=[269,313])
def aIi:bB 200 E E tT:=tk Tryz.func200
def aIj:bB 237 E E ahv:=tk Tryz.func237 (loops:=[(237,3,⟨[(9,.int I),(8,.aj (.own 71))],[]⟩)]) (nZ:=J)
def aIk:bB 171 E E ahw:=tk Tryz.func171
def aIl:bB 238 E E ahx:=tk Tryz.func238 (loops:=[(238,5,⟨[(12,.int I),(10,.bool)],[(5,0,.bool),(5,1,.bool),(5,2,.bool),(5,3,.bool),(5,4,.bool)]⟩),(238,11,⟨[(14,.int I)],[(5,0,.bool),(5,1,.bool),(5,2,.bool),(5,3,.bool),(5,4,.bool)]⟩),(238,15,⟨[(15,.int I)],[(3,0,.int I),(3,1,.int I),(3,2,.int I),(3,3,.int I)]⟩)]) (inl:=[293,295,296]) (chs:=[(238,117017)])
def aIm:bB 172 E E ahy:=tk Tryz.func172 (loops:=[(172,19,⟨[(22,.int I)],[(5,0,.int I),(5,1,.int I),(5,2,.int I),(5,3,.int I)]⟩)])
def aIn:bB 93 E E T93:=tk Tryz.func93 (loops:=[(93,4,⟨[(5,.int I)],[]⟩)])
def aIo:bB 41 E E T41:=tk Tryz.func41 (loops:=[(41,6,⟨[(15,.int I)],[]⟩)])
def aIp:bB 122 E E SK:=tk Tryz.func122 (inl:=[203,204,270])
def aIq:bB 96 E E ZI:=tk Tryz.func96
def aIr:bB 42 E E T42:=tk Tryz.func42 (loops:=[(42,3,⟨[(15,.int I)],[(5,3,.aj (.own 71)),(5,5,.aj (.own 65))]⟩)]) (inl:=[96,97])
def aIs:bB 119 E E ahC:=tk Tryz.func119
def aIt:bB 202 E E ahD:=tk Tryz.func202
def aIu:bB 121 E E ahE:=tk Tryz.func121 (loops:=[(121,2,⟨[(9,.int I)],[]⟩)])
def aIv:bB 123 E E ahF:=tk Tryz.func123
def aIw:bB 193 E E ahG:=tk Tryz.func193
def aIx:bB 194 E E ahH:=tk Tryz.func194
def aIy:bB 112 E E SL:=tk Tryz.func112
def aIz:bB 111 E E ahI:=tk Tryz.func111 (loops:=[(111,8,⟨[(9,.int I)],[]⟩)])
def aIA:bB 53 E E T53:=tk Tryz.func53 (loops:=[(53,10,⟨[(11,.int I)],[]⟩)])
def aIB:bB 56 E E T56:=tk Tryz.func56 (loops:=[(56,3,⟨[(6,.int I),(5,.aj (.own 142))],[]⟩),(56,6,⟨[(7,.int I),(5,.aj (.own 142))],[]⟩)])
def aIC:bB 64 E E T64:=tk Tryz.func64 (loops:=[(64,3,⟨[(6,.int I),(5,.aj (.own 3))],[]⟩),(64,7,⟨[(7,.int I),(5,.aj (.own 3))],[]⟩),(64,10,⟨[(8,.int I),(5,.aj (.own 3))],[]⟩)])
def aID:bB 22 E E SM:=tk Tryz.func22 (loops:=[(22,10,⟨[(16,.int I),(13,.aj (.own 4)),(15,.aj (.own 82))],[]⟩),(22,13,⟨[(17,.int I),(13,.aj (.own 4)),(15,.aj (.own 82))],[]⟩)])
def ok5:bB 5 E E T5:=tk Tryz.func5

