/- Part 10 of the proof. -/
import Derived.Test.YtejplpmpldcmlaaGreatDoorV9
set_option linter.all false
set_option maxRecDepth 100000
set_option maxHeartbeats 100000000
open Bool renaming true->J,false->E
open Go.IntKind renaming i64->I
namespace Go.Proofs.YtejplpmpldcmlaaGreatDoor.Y
open Go.RowKit
noncomputable section
theorem aEB:bC 55 E E T82:=tk Tryz.func55
theorem aEC:bC 57 J E Ru:=tk Tryz.func57 (g:=J)
theorem aED:bC 71 E E afT:=tk Tryz.func71
theorem aEE:bC 114 E E afU:=tk Tryz.func114
theorem aEF:bC 115 J E Yc:=tk Tryz.func115 (inl:=[166]) (g:=J)
theorem aEG:bC 317 J E afV:=tk Tryz.func317 (g:=J)
theorem auA:bC 98 E E Yd:=tk Tryz.func98
theorem auB:bC 139 E E Ye:=tk Tryz.func139
theorem auC:bC 178 E E Yf:=tk Tryz.func178
theorem auD:bC 177 E E Yg:=tk Tryz.func177 (loops:=[(265,0,⟨[],[(0,0,.int .u64),(1,0,.int .u64),(2,0,.int .u64)]⟩)]) (inl:=[219,265])
theorem auE:bC 133 E E Yh:=tk Tryz.func133
theorem auF:bC 173 E E Yi:=tk Tryz.func173
theorem aEH:bC 126 E E T66:=tk Tryz.func126 (inl:=[167])
theorem aEI:bC 89 E E T72:=tk Tryz.func89
theorem aEJ:bC 86 E E T69:=tk Tryz.func86
theorem aEK:bC 116 E E afZ:=tk Tryz.func116 (inl:=[167])
theorem aEL:bC 159 E E T24:=tk Tryz.func159 (ct:=J) (inl:=[192,193])
theorem aEM:bC 97 E E af0:=tk Tryz.func97
theorem aEN:bC 137 E E Yj:=tk Tryz.func137 (loops:=[(175,2,⟨[(5,.int I),(6,.int I)],[]⟩)]) (inl:=[175,176]) (chs:=[(137,1)])
theorem aEO:bC 87 E E T70:=tk Tryz.func87
theorem aEP:bC 127 E E T65:=tk Tryz.func127
