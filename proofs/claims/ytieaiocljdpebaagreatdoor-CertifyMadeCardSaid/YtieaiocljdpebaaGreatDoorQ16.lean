/- Part 16 of the proof; the last part says what is shown. -/
import Derived.Test.YtieaiocljdpebaaGreatDoorQ12
import Derived.Test.YtieaiocljdpebaaGreatDoorQ5
set_option linter.all false
namespace Go.Proofs.YtieaiocljdpebaaGreatDoor.Y
open Go.RowKit
noncomputable section
section
set_option maxRecDepth 100000
def auB:bL 12 false false T12:=tk Tryz.func12 (loops:=[(12,5,⟨[(12,.int .i64)],[]⟩)])
def auC:bL 33 false false Sc:=tk Tryz.func33
def auD:bL 18 false false T18:=tk Tryz.func18
def auE:bL 20 false false T20:=tk Tryz.func20 (loops:=[(20,4,⟨[(5,.int .i64)],[]⟩)])
def auF:bL 37 false false T37:=tk Tryz.func37 (loops:=[(37,9,⟨[(62,.int .i64)],[]⟩),(37,16,⟨[(90,.int .i64),(6,.int .i64)],[]⟩)])
def auG:bL 86 false false T86:=tk Tryz.func86
def auH:bL 87 false false T87:=tk Tryz.func87
def auI:bL 88 false false T88:=tk Tryz.func88
def auJ:bL 102 false false Sd:=tk Tryz.func102
def auK:bL 173 false false Se:=tk Tryz.func173 (loops:=[(173,2,⟨[(8,.int .i64)],[]⟩)])
def auL:bL 103 false false aaq:=tk Tryz.func103 (loops:=[(103,3,⟨[(16,.int .i64)],[]⟩)])
def auM:bL 105 false false ajh:=tk Tryz.func105 (loops:=[(105,2,⟨[(11,.int .i64),(4,.ref (.own 65))],[]⟩)])
def auN:bL 181 false false aar:=tk Tryz.func181
def auO:bL 135 false false aas:=tk Tryz.func135 (loops:=[(135,4,⟨[(20,.int .i64)],[]⟩)])
def auP(Z:se qH):bL 77 false false T77:=tk Tryz.func77 (loops:=[(77,7,⟨[(35,.int .i64),(6,.ref (.own 90))],[]⟩)]) (srts:=qH) (hsr:=Z)
def auQ:bL 222 false false aji:=tk Tryz.func222
def auR:bL 225 false false aau:=tk Tryz.func225
def auS:bL 284 false false aav:=tk Tryz.func284
def auT:bL 207 false false aaw:=tk Tryz.func207
def auU:bL 25 false false T25:=tk Tryz.func25 (inl:=[71,132,70])
def auV(Z:se qH):bL 155 false false Sf:=tk Tryz.func155 (loops:=[(155,6,⟨[(22,.int .i64),(4,.ref (.own 258))],[]⟩),(155,9,⟨[(28,.int .i64),(4,.ref (.own 258))],[]⟩)]) (inl:=[222]) (srts:=qH) (hsr:=Z)
end
end
end Go.Proofs.YtieaiocljdpebaaGreatDoor.Y
