/- Part 18 of the proof. -/
import Derived.Test.YtejplpmpldcmlaaGreatDoorV9
set_option linter.all false
set_option maxRecDepth 100000
set_option maxHeartbeats 100000000
open Bool renaming true->J,false->E
open Go.IntKind renaming i64->I
namespace Go.Proofs.YtejplpmpldcmlaaGreatDoor.Y
open Go.RowKit
noncomputable section
theorem aF0:bC 140 E E agj:=tk Tryz.func140
theorem aF1:bC 144 E E agk:=tk Tryz.func144
theorem aF2:bC 179 E E agl:=tk Tryz.func179 (loops:=[(179,2,⟨[(5,.int I)],[]⟩)])
theorem aF3:bC 99 E E T91:=tk Tryz.func99 (loops:=[(141,4,⟨[(3,.int I)],[]⟩),(141,12,⟨[(5,.int I)],[]⟩),(142,2,⟨[(3,.int I)],[]⟩),(143,2,⟨[(3,.int I)],[]⟩)]) (inl:=[140,141,142,143])
theorem aF4:bC 180 E E agn:=tk Tryz.func180 (loops:=[(180,1,⟨[(1,.int I),(0,.int I)],[]⟩)])
theorem aF5:bC 145 E E ago:=tk Tryz.func145 (loops:=[(180,1,⟨[(1,.int I),(0,.int I)],[]⟩)]) (inl:=[180,181])
theorem aF6:bC 266 E E agp:=tk Tryz.func266 (loops:=[(266,1,⟨[(1,.int I),(0,.int I)],[]⟩)])
theorem aF7:bC 267 E E agq:=tk Tryz.func267
theorem aF8:bC 182 E E Yu:=tk Tryz.func182 (loops:=[(266,1,⟨[(1,.int I),(0,.int I)],[]⟩)]) (inl:=[220,266,267])
theorem aF9:bC 183 E E Ry:=tk Tryz.func183 (loops:=[(266,1,⟨[(1,.int I),(0,.int I)],[]⟩)]) (inl:=[220,221,222,266,267])
theorem aGa:bC 146 E E Yv:=tk Tryz.func146 (inl:=[144])
theorem aGb:bC 147 E E agr:=tk Tryz.func147
theorem aGc:bC 100 E E T92:=tk Tryz.func100 (loops:=[(100,4,⟨[(3,.int I)],[]⟩),(100,10,⟨[(5,.int I)],[]⟩)]) (inl:=[144])
theorem aGd:bC 58 E E T40:=tk Tryz.func58
theorem aGe:bC 298 E E agu:=tk Tryz.func298
theorem aGf:bC 101 E E agv:=tk Tryz.func101 (loops:=[(101,4,⟨[(3,.int I)],[]⟩)]) (inl:=[148,149,184])
theorem aGg:bC 60 E E agw:=tk Tryz.func60 (inl:=[102,103])
theorem aGh:bC 107 E E T94:=tk Tryz.func107 (loops:=[(107,4,⟨[(3,.int I)],[]⟩)]) (inl:=[156])
theorem aGi:bC 226 E E agy:=tk Tryz.func226 (loops:=[(226,3,⟨[(8,.int I),(7,.ah (.own 128))],[]⟩),(268,2,⟨[(5,.int I)],[]⟩)]) (inl:=[268,298]) (ma:=J)
theorem aGj:bC 190 E E agz:=tk Tryz.func190 (inl:=[144])
theorem aGk:bC 191 E E agA:=tk Tryz.func191 (loops:=[(191,5,⟨[(6,.int I)],[]⟩),(227,3,⟨[(4,.int I),(3,.ah (.own 128))],[]⟩),(227,6,⟨[(5,.int I)],[]⟩)]) (inl:=[227,228,269]) (ma:=J)
theorem aGl:bC 155 E E T95:=tk Tryz.func155
theorem aGm:bC 153 E E agC:=tk Tryz.func153 (inl:=[185,223,187])
theorem aGn:bC 186 E E NF:=tk Tryz.func186 (inl:=[185,223,224])
theorem aGo:bC 185 E E agD:=tk Tryz.func185
theorem aGp:bC 223 E E agE:=tk Tryz.func223
theorem aGq:bC 225 E E agF:=tk Tryz.func225 (loops:=[(225,2,⟨[(9,.int I)],[]⟩)])
theorem aGr:bC 151 E E agG:=tk Tryz.func151
theorem aGs:bC 150 E E agH:=tk Tryz.func150
theorem aGt:bC 152 E E agI:=tk Tryz.func152
theorem aGu:bC 104 E E Rz:=tk Tryz.func104
theorem aGv:bC 189 E E T56:=tk Tryz.func189 (loops:=[(189,3,⟨[(6,.int I),(5,.ah (.own 197))],[]⟩),(189,6,⟨[(7,.int I),(5,.ah (.own 197))],[]⟩)])
theorem aGw:bC 188 E E T64:=tk Tryz.func188 (loops:=[(188,3,⟨[(6,.int I),(5,.ah (.own 3))],[]⟩),(188,7,⟨[(7,.int I),(5,.ah (.own 3))],[]⟩),(188,10,⟨[(8,.int I),(5,.ah (.own 3))],[]⟩)])

