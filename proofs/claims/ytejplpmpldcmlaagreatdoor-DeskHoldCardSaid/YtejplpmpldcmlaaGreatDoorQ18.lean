/- Part 18 of the proof. -/
import Derived.Test.YtejplpmpldcmlaaGreatDoorQ9
set_option linter.all false
set_option maxRecDepth 100000
set_option maxHeartbeats 100000000
open Bool renaming true->J,false->E
open Go.IntKind renaming i64->I
namespace Go.Proofs.YtejplpmpldcmlaaGreatDoor.Y
open Go.RowKit
noncomputable section
theorem aFk:bF 140 E E afU:=tk Tryz.func140
theorem aFl:bF 144 E E afV:=tk Tryz.func144
theorem aFm:bF 179 E E afW:=tk Tryz.func179 (loops:=[(179,2,⟨[(5,.int I)],[]⟩)])
theorem aFn:bF 99 E E T91:=tk Tryz.func99 (loops:=[(141,4,⟨[(3,.int I)],[]⟩),(141,12,⟨[(5,.int I)],[]⟩),(142,2,⟨[(3,.int I)],[]⟩),(143,2,⟨[(3,.int I)],[]⟩)]) (inl:=[140,141,142,143])
theorem aFo:bF 180 E E afY:=tk Tryz.func180 (loops:=[(180,1,⟨[(1,.int I),(0,.int I)],[]⟩)])
theorem aFp:bF 145 E E afZ:=tk Tryz.func145 (loops:=[(180,1,⟨[(1,.int I),(0,.int I)],[]⟩)]) (inl:=[180,181])
theorem aFq:bF 266 E E af0:=tk Tryz.func266 (loops:=[(266,1,⟨[(1,.int I),(0,.int I)],[]⟩)])
theorem aFr:bF 267 E E af3:=tk Tryz.func267
theorem aFs:bF 182 E E Ye:=tk Tryz.func182 (loops:=[(266,1,⟨[(1,.int I),(0,.int I)],[]⟩)]) (inl:=[220,266,267])
theorem aFt:bF 183 E E Rv:=tk Tryz.func183 (loops:=[(266,1,⟨[(1,.int I),(0,.int I)],[]⟩)]) (inl:=[220,221,222,266,267])
theorem aFu:bF 146 E E Yf:=tk Tryz.func146 (inl:=[144])
theorem aFv:bF 147 E E af4:=tk Tryz.func147
theorem aFw:bF 100 E E T92:=tk Tryz.func100 (loops:=[(100,4,⟨[(3,.int I)],[]⟩),(100,10,⟨[(5,.int I)],[]⟩)]) (inl:=[144])
theorem aFx:bF 58 E E T40:=tk Tryz.func58
theorem aFy:bF 298 E E af7:=tk Tryz.func298
theorem aFz:bF 101 E E af8:=tk Tryz.func101 (loops:=[(101,4,⟨[(3,.int I)],[]⟩)]) (inl:=[148,149,184])
theorem aFA:bF 60 E E af9:=tk Tryz.func60 (inl:=[102,103])
theorem aFB:bF 107 E E T94:=tk Tryz.func107 (loops:=[(107,4,⟨[(3,.int I)],[]⟩)]) (inl:=[156])
theorem aFC:bF 226 E E agb:=tk Tryz.func226 (loops:=[(226,3,⟨[(8,.int I),(7,.ah (.own 128))],[]⟩),(268,2,⟨[(5,.int I)],[]⟩)]) (inl:=[268,298]) (lK:=J)
theorem aFD:bF 190 E E agc:=tk Tryz.func190 (inl:=[144])
theorem aFE:bF 191 E E agd:=tk Tryz.func191 (loops:=[(191,5,⟨[(6,.int I)],[]⟩),(227,3,⟨[(4,.int I),(3,.ah (.own 128))],[]⟩),(227,6,⟨[(5,.int I)],[]⟩)]) (inl:=[227,228,269]) (lK:=J)
theorem aFF:bF 155 E E T95:=tk Tryz.func155
theorem aFG:bF 153 E E agf:=tk Tryz.func153 (inl:=[185,223,187])
theorem aFH:bF 186 E E Nu:=tk Tryz.func186 (inl:=[185,223,224])
theorem aFI:bF 185 E E agh:=tk Tryz.func185
theorem aFJ:bF 223 E E agi:=tk Tryz.func223
theorem aFK:bF 225 E E agj:=tk Tryz.func225 (loops:=[(225,2,⟨[(9,.int I)],[]⟩)])
theorem aFL:bF 151 E E agk:=tk Tryz.func151
theorem aFM:bF 150 E E agl:=tk Tryz.func150
theorem aFN:bF 152 E E agm:=tk Tryz.func152
theorem aFO:bF 104 E E Rw:=tk Tryz.func104
theorem aFP:bF 189 E E T56:=tk Tryz.func189 (loops:=[(189,3,⟨[(6,.int I),(5,.ah (.own 197))],[]⟩),(189,6,⟨[(7,.int I),(5,.ah (.own 197))],[]⟩)])
theorem aFQ:bF 188 E E T64:=tk Tryz.func188 (loops:=[(188,3,⟨[(6,.int I),(5,.ah (.own 3))],[]⟩),(188,7,⟨[(7,.int I),(5,.ah (.own 3))],[]⟩),(188,10,⟨[(8,.int I),(5,.ah (.own 3))],[]⟩)])

