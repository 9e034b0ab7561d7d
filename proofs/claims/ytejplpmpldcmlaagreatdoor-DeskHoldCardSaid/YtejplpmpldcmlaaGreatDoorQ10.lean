/- Part 10 of the proof. -/
import Derived.Test.YtejplpmpldcmlaaGreatDoorQ9
set_option linter.all false
set_option maxRecDepth 100000
set_option maxHeartbeats 100000000
open Bool renaming true->J,false->E
open Go.IntKind renaming i64->I
namespace Go.Proofs.YtejplpmpldcmlaaGreatDoor.Y
open Go.RowKit
noncomputable section
theorem aDZ:bF 55 E E T82:=tk Tryz.func55
theorem aD0:bF 57 J E Ro:=tk Tryz.func57 (g:=J)
theorem aD1:bF 71 E E afB:=tk Tryz.func71
theorem aD2:bF 114 E E afC:=tk Tryz.func114
theorem aD3:bF 115 J E XX:=tk Tryz.func115 (inl:=[166]) (g:=J)
theorem aD4:bF 317 J E afD:=tk Tryz.func317 (g:=J)
theorem at7:bF 98 E E XY:=tk Tryz.func98
theorem at8:bF 139 E E XZ:=tk Tryz.func139
theorem at9:bF 178 E E X0:=tk Tryz.func178
theorem aua:bF 177 E E X1:=tk Tryz.func177 (loops:=[(265,0,⟨[],[(0,0,.int .u64),(1,0,.int .u64),(2,0,.int .u64)]⟩)]) (inl:=[219,265])
theorem aub:bF 133 E E X2:=tk Tryz.func133
theorem auc:bF 173 E E X3:=tk Tryz.func173
theorem aD5:bF 126 E E T66:=tk Tryz.func126 (inl:=[167])
theorem aD6:bF 89 E E T72:=tk Tryz.func89
theorem aD7:bF 86 E E T69:=tk Tryz.func86
theorem aD8:bF 116 E E afH:=tk Tryz.func116 (inl:=[167])
theorem aD9:bF 159 E E T24:=tk Tryz.func159 (ct:=J) (inl:=[192,193])
theorem aEa:bF 97 E E afI:=tk Tryz.func97
theorem aEb:bF 137 E E X4:=tk Tryz.func137 (loops:=[(175,2,⟨[(5,.int I),(6,.int I)],[]⟩)]) (inl:=[175,176]) (chs:=[(137,1)])
theorem aEc:bF 87 E E T70:=tk Tryz.func87
theorem aEd:bF 127 E E T65:=tk Tryz.func127
