/- Part 18 of the proof. -/
import Derived.Test.YtpmkfikkemaopaaGreatDoorQ9
set_option linter.all false
set_option maxRecDepth 100000
set_option maxHeartbeats 100000000
open Bool renaming true->J,false->E
open Go.IntKind renaming i64->I
namespace Go.Proofs.YtpmkfikkemaopaaGreatDoor.Y
open Go.RowKit
noncomputable section
theorem aAi:bG 126 E E acn:=tk Tryz.func126
theorem aAj:bG 130 E E aco:=tk Tryz.func130
theorem aAk:bG 168 E E acp:=tk Tryz.func168 (loops:=[(168,2,⟨[(5,.int I)],[]⟩)])
theorem aAl:bG 84 E E T91:=tk Tryz.func84 (loops:=[(127,4,⟨[(3,.int I)],[]⟩),(127,12,⟨[(5,.int I)],[]⟩),(128,2,⟨[(3,.int I)],[]⟩),(129,2,⟨[(3,.int I)],[]⟩)]) (inl:=[126,127,128,129])
theorem aAm:bG 169 E E acr:=tk Tryz.func169 (loops:=[(169,1,⟨[(1,.int I),(0,.int I)],[]⟩)])
theorem aAn:bG 131 E E acs:=tk Tryz.func131 (loops:=[(169,1,⟨[(1,.int I),(0,.int I)],[]⟩)]) (inl:=[169,170])
theorem aAo:bG 250 E E acu:=tk Tryz.func250 (loops:=[(250,1,⟨[(1,.int I),(0,.int I)],[]⟩)])
theorem aAp:bG 251 E E acv:=tk Tryz.func251
theorem aAq:bG 171 E E Vb:=tk Tryz.func171 (loops:=[(250,1,⟨[(1,.int I),(0,.int I)],[]⟩)]) (inl:=[211,250,251])
theorem aAr:bG 172 E E O9:=tk Tryz.func172 (loops:=[(250,1,⟨[(1,.int I),(0,.int I)],[]⟩)]) (inl:=[211,212,213,250,251])
theorem aAs:bG 132 E E Vc:=tk Tryz.func132 (inl:=[130])
theorem aAt:bG 133 E E acw:=tk Tryz.func133
theorem aAu:bG 85 E E T92:=tk Tryz.func85 (loops:=[(85,4,⟨[(3,.int I)],[]⟩),(85,10,⟨[(5,.int I)],[]⟩)]) (inl:=[130])
theorem aAv:bG 47 E E T40:=tk Tryz.func47
theorem aAw:bG 288 E E acz:=tk Tryz.func288
theorem aAx:bG 86 E E acA:=tk Tryz.func86 (loops:=[(86,4,⟨[(3,.int I)],[]⟩)]) (inl:=[134,135,173])
theorem aAy:bG 49 E E acB:=tk Tryz.func49 (inl:=[87,88])
theorem aAz:bG 92 E E T94:=tk Tryz.func92 (loops:=[(92,4,⟨[(3,.int I)],[]⟩)]) (inl:=[142])
theorem aAA:bG 217 E E acD:=tk Tryz.func217 (loops:=[(217,3,⟨[(8,.int I),(7,.am (.own 97))],[]⟩),(252,2,⟨[(5,.int I)],[]⟩)]) (inl:=[252,288]) (kW:=J)
theorem aAB:bG 179 E E acE:=tk Tryz.func179 (inl:=[130])
theorem aAC:bG 180 E E acF:=tk Tryz.func180 (loops:=[(180,5,⟨[(6,.int I)],[]⟩),(218,3,⟨[(4,.int I),(3,.am (.own 97))],[]⟩),(218,6,⟨[(5,.int I)],[]⟩)]) (inl:=[218,219,253]) (kW:=J)
theorem aAD:bG 141 E E T95:=tk Tryz.func141
theorem aAE:bG 139 E E acH:=tk Tryz.func139 (inl:=[174,214,176])
theorem aAF:bG 175 E E Li:=tk Tryz.func175 (inl:=[174,214,215])
theorem aAG:bG 174 E E acI:=tk Tryz.func174
theorem aAH:bG 214 E E acJ:=tk Tryz.func214
theorem aAI:bG 216 E E acK:=tk Tryz.func216 (loops:=[(216,2,⟨[(9,.int I)],[]⟩)])
theorem aAJ:bG 137 E E acL:=tk Tryz.func137
theorem aAK:bG 136 E E acM:=tk Tryz.func136
theorem aAL:bG 138 E E acN:=tk Tryz.func138
theorem aAM:bG 89 E E Pa:=tk Tryz.func89
theorem aAN:bG 178 E E T56:=tk Tryz.func178 (loops:=[(178,3,⟨[(6,.int I),(5,.am (.own 177))],[]⟩),(178,6,⟨[(7,.int I),(5,.am (.own 177))],[]⟩)])
theorem aAO:bG 177 E E T64:=tk Tryz.func177 (loops:=[(177,3,⟨[(6,.int I),(5,.am (.own 3))],[]⟩),(177,7,⟨[(7,.int I),(5,.am (.own 3))],[]⟩),(177,10,⟨[(8,.int I),(5,.am (.own 3))],[]⟩)])

