/- Part 17 of the proof. -/
import Derived.Test.YtieaiocljdpebaaGreatDoorQ4
import Derived.Test.YtieaiocljdpebaaGreatDoorQ6
set_option linter.all false
open Bool renaming true->J,false->E
open Go.IntKind renaming i64->I
namespace Go.Proofs.YtieaiocljdpebaaGreatDoor.Y
open Go.RowKit
noncomputable section
section
set_option maxRecDepth 100000
def aFk:bp 159 E E agD:=tk Tryz.func159
def aFl:bp 163 E E agE:=tk Tryz.func163
def aFm:bp 228 E E agF:=tk Tryz.func228 (loops:=[(228,2,⟨[(5,.int I)],[]⟩)])
def aFn:bp 91 E E T91:=tk Tryz.func91 (loops:=[(160,4,⟨[(3,.int I)],[]⟩),(160,12,⟨[(5,.int I)],[]⟩),(161,2,⟨[(3,.int I)],[]⟩),(162,2,⟨[(3,.int I)],[]⟩)]) (inl:=[159,160,161,162])
def aFo:bp 229 E E agH:=tk Tryz.func229 (loops:=[(229,1,⟨[(1,.int I),(0,.int I)],[]⟩)])
def aFp:bp 164 E E agI:=tk Tryz.func164 (loops:=[(229,1,⟨[(1,.int I),(0,.int I)],[]⟩)]) (inl:=[229,230])
def aFq:bp 342 E E agJ:=tk Tryz.func342 (loops:=[(342,1,⟨[(1,.int I),(0,.int I)],[]⟩)])
def aFr:bp 343 E E agK:=tk Tryz.func343
def aFs:bp 231 E E Ym:=tk Tryz.func231 (loops:=[(342,1,⟨[(1,.int I),(0,.int I)],[]⟩)]) (inl:=[287,342,343])
def aFt:bp 232 E E QD:=tk Tryz.func232 (loops:=[(342,1,⟨[(1,.int I),(0,.int I)],[]⟩)]) (inl:=[287,288,289,342,343])
def aFu:bp 165 E E Yn:=tk Tryz.func165 (inl:=[163])
def aFv:bp 166 E E agL:=tk Tryz.func166
def aFw:bp 92 E E T92:=tk Tryz.func92 (loops:=[(92,4,⟨[(3,.int I)],[]⟩),(92,10,⟨[(5,.int I)],[]⟩)]) (inl:=[163])
def aFx:bp 40 E E T40:=tk Tryz.func40
def aFy:bp 312 E E agO:=tk Tryz.func312

def aFz:bp 233 E E agP:=tk Tryz.func233 (loops:=[(233,4,⟨[(3,.int I)],[]⟩)]) (inl:=[290,291,344])
def aFA:bp 167 E E agQ:=tk Tryz.func167 (inl:=[234,235])
def aFB:bp 94 E E T94:=tk Tryz.func94 (loops:=[(94,4,⟨[(3,.int I)],[]⟩)]) (inl:=[168])
def aFC:bp 197 E E agS:=tk Tryz.func197 (loops:=[(197,3,⟨[(8,.int I),(7,.ref (.own 90))],[]⟩),(259,2,⟨[(5,.int I)],[]⟩)]) (inl:=[259,312]) (lW:=J)
def aFD:bp 169 E E agT:=tk Tryz.func169 (inl:=[163])
def aFE:bp 170 E E agU:=tk Tryz.func170 (loops:=[(170,5,⟨[(6,.int I)],[]⟩),(196,3,⟨[(4,.int I),(3,.ref (.own 90))],[]⟩),(196,6,⟨[(5,.int I)],[]⟩)]) (inl:=[196,236,292]) (lW:=J)
def aFF:bp 95 E E T95:=tk Tryz.func95
def aFG:bp 115 E E agW:=tk Tryz.func115 (loops:=[(115,2,⟨[(5,.int I)],[]⟩)])
def aFH:bp 265 E E agX:=tk Tryz.func265 (inl:=[316])
def aFI:bp 266 E E agY:=tk Tryz.func266 (inl:=[168])
def aFJ:bp 269 E E Yo:=tk Tryz.func269
def aFK:bp 261 E E Yq:=tk Tryz.func261 (inl:=[313])
def aFL:bp 195 E E agZ:=tk Tryz.func195 (inl:=[119,202,258])
def aFM:bp 239 E E Mi:=tk Tryz.func239 (inl:=[119,202,297])
def aFN:bp 294 E E ag0:=tk Tryz.func294
def aFO:bp 296 E E ag1:=tk Tryz.func296 (inl:=[295])

def aFP:bp 267 E E ag2:=tk Tryz.func267 (inl:=[269,313])
def aFQ:bp 200 E E qL:=tk Tryz.func200
def aFR:bp 237 E E ag3:=tk Tryz.func237 (loops:=[(237,3,⟨[(9,.int I),(8,.ref (.own 71))],[]⟩)]) (lW:=J)
def aFS:bp 171 E E ag4:=tk Tryz.func171
def aFT:bp 238 E E ag5:=tk Tryz.func238 (loops:=[(238,5,⟨[(12,.int I),(10,.bool)],[(5,0,.bool),(5,1,.bool),(5,2,.bool),(5,3,.bool),(5,4,.bool)]⟩),(238,11,⟨[(14,.int I)],[(5,0,.bool),(5,1,.bool),(5,2,.bool),(5,3,.bool),(5,4,.bool)]⟩),(238,15,⟨[(15,.int I)],[(3,0,.int I),(3,1,.int I),(3,2,.int I),(3,3,.int I)]⟩)]) (inl:=[293,295,296]) (chs:=[(238,117017)])
def aFU:bp 172 E E ag6:=tk Tryz.func172 (loops:=[(172,19,⟨[(22,.int I)],[(5,0,.int I),(5,1,.int I),(5,2,.int I),(5,3,.int I)]⟩)])
def aFV:bp 93 E E T93:=tk Tryz.func93 (loops:=[(93,4,⟨[(5,.int I)],[]⟩)])
def aFW:bp 41 E E T41:=tk Tryz.func41 (loops:=[(41,6,⟨[(15,.int I)],[]⟩)])
def aFX:bp 122 E E QE:=tk Tryz.func122 (inl:=[203,204,270])
def aFY:bp 96 E E Yr:=tk Tryz.func96
def aFZ:bp 42 E E T42:=tk Tryz.func42 (loops:=[(42,3,⟨[(15,.int I)],[(5,3,.ref (.own 71)),(5,5,.ref (.own 65))]⟩)]) (inl:=[96,97])
def aF0:bp 14 E E T14:=tk Tryz.func14
def ok3:bp 3 E E T3:=tk Tryz.func3
end
