/- Part 11. -/
import Derived.Test.YtjnmghiggfgjlaaGreatDoorV7
set_option linter.all false
set_option maxRecDepth 100000
set_option maxHeartbeats 100000000
open Bool renaming true->J,false->E
open Option renaming some->U
open Go.IntKind renaming i64->I
namespace Go.Proofs.YtjnmghiggfgjlaaGreatDoor.Y
open Go.RowKit
noncomputable section
theorem aGj(bq:zF Tryz.prog 85 47):cg 60 E J T81:=tk Tryz.func60 (loops:=[(86,5,⟨[(46,.int I),(2,.int I)],[]⟩),(86,11,⟨[(74,.int I)],[]⟩),(86,17,⟨[(86,.int I),(2,.int I)],[]⟩),(86,23,⟨[(122,.int I)],[]⟩)]) (inl:=[86,123,124]) (dT:=U 47) (hdc:=aki aT bq)
theorem aGk(bq:zF Tryz.prog 78 47):cg 54 E J T13:=tk Tryz.func54 (loops:=[(134,1,⟨[(10,.int I)],[(13,3,.ak (.own 108)),(13,4,.ak (.own 101)),(13,5,.ak (.own 139))]⟩)]) (inl:=[80,81,108,82,109,134]) (dT:=U 47) (hdc:=aki aT bq)
theorem aGl(X:ue ug)(bq:zF Tryz.prog 116 47):cg 84 E J qb:=tk Tryz.func84 (loops:=[(84,17,⟨[(15,.ak (.own 244))],[(33,3,.ak (.mr ⟨3,1099511627778,1,E,E⟩))]⟩),(84,22,⟨[(104,.int I),(8,.ak (.own 252))],[]⟩),(117,8,⟨[(66,.int I)],[]⟩),(117,14,⟨[(99,.int I)],[]⟩),(134,1,⟨[(10,.int I)],[(25019,3,.ak (.own 108)),(25019,4,.ak (.own 101)),(25019,5,.ak (.own 139)),(25,0,.ak (.mr ⟨244,4,3,J,E⟩))]⟩),(119,4,⟨[(33,.int I)],[(25,0,.ak (.mr ⟨244,4,3,J,E⟩))]⟩),(119,17,⟨[(117,.int I)],[(25,0,.ak (.mr ⟨244,4,3,J,E⟩))]⟩),(120,7,⟨[(55,.int I)],[(25,0,.ak (.mr ⟨244,4,3,J,E⟩))]⟩),(120,14,⟨[(73,.int I)],[(25,0,.ak (.mr ⟨244,4,3,J,E⟩))]⟩),(149,2,⟨[(11,.int I),(4,.ak (.own 139))],[]⟩),(143,2,⟨[(8,.int I)],[]⟩)]) (inl:=[117,80,81,108,82,109,134,119,120,149,143,144]) (srts:=ug) (dT:=U 47) (hsr:=X) (hdc:=aki aT bq)
