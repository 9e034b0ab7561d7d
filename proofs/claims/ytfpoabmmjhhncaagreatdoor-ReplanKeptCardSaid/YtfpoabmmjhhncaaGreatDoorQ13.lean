/- Part 13 of the proof. -/
import Derived.Test.YtfpoabmmjhhncaaGreatDoorQ9
set_option linter.all false
set_option maxRecDepth 100000
set_option maxHeartbeats 100000000
open Bool renaming true->J,false->E
open Option renaming some->U
open Go.IntKind renaming i64->I
namespace Go.Proofs.YtfpoabmmjhhncaaGreatDoor.Y
open Go.RowKit
noncomputable section
theorem auz(X:vd Tryz.prog 67 47):cq 50 E J Y7:=tk Tryz.func50 (loops:=[(68,5,⟨[(46,.int I),(2,.int I)],[]⟩),(68,11,⟨[(74,.int I)],[]⟩),(68,17,⟨[(86,.int I),(2,.int I)],[]⟩),(68,23,⟨[(122,.int I)],[]⟩)]) (inl:=[68,96,97]) (dT:=U 47) (hdc:=ZX aL X)
theorem auA(X:vd Tryz.prog 108 47):cq 90 E J T13:=tk Tryz.func90 (ct:=J) (loops:=[(154,1,⟨[(10,.int I)],[(13,3,.ah (.own 93)),(13,4,.ah (.own 58)),(13,5,.ah (.own 124))]⟩)]) (inl:=[110,111,131,112,132,154]) (dT:=U 47) (hdc:=ZX aL X)
theorem auB(X:s9 qE)(W:vd Tryz.prog 139 47):cq 114 E J T16:=tk Tryz.func114 (ct:=J) (loops:=[(114,17,⟨[(15,.ah (.own 267))],[(33,3,.ah (.mr ⟨3,1099511627778,1,E,E⟩))]⟩),(114,22,⟨[(104,.int I),(8,.ah (.own 275))],[]⟩),(140,8,⟨[(66,.int I)],[]⟩),(140,14,⟨[(99,.int I)],[]⟩),(154,1,⟨[(10,.int I)],[(25019,3,.ah (.own 93)),(25019,4,.ah (.own 58)),(25019,5,.ah (.own 124)),(25,0,.ah (.mr ⟨267,4,3,J,E⟩))]⟩),(142,4,⟨[(33,.int I)],[(25,0,.ah (.mr ⟨267,4,3,J,E⟩))]⟩),(142,17,⟨[(117,.int I)],[(25,0,.ah (.mr ⟨267,4,3,J,E⟩))]⟩),(143,7,⟨[(55,.int I)],[(25,0,.ah (.mr ⟨267,4,3,J,E⟩))]⟩),(143,14,⟨[(73,.int I)],[(25,0,.ah (.mr ⟨267,4,3,J,E⟩))]⟩),(169,2,⟨[(11,.int I),(4,.ah (.own 124))],[]⟩),(163,2,⟨[(8,.int I)],[]⟩)]) (inl:=[140,110,111,131,112,132,154,142,143,169,163,164]) (srts:=qE) (dT:=U 47) (hsr:=X) (hdc:=ZX aL W)
