/- Part 17 of the proof; the last part says what is shown. -/
import Derived.Test.YtieaiocljdpebaaGreatDoorQ13
import Derived.Test.YtieaiocljdpebaaGreatDoorQ5
set_option linter.all false
namespace Go.Proofs.YtieaiocljdpebaaGreatDoor.Y
open Go.RowKit
noncomputable section
section
set_option maxRecDepth 100000
def avk:bL 12 false false T12:=tk Tryz.func12 (loops:=[(12,5,⟨[(12,.int .i64)],[]⟩)])
def avl:bL 33 false false Sk:=tk Tryz.func33
def avm:bL 18 false false T18:=tk Tryz.func18
def avn:bL 20 false false T20:=tk Tryz.func20 (loops:=[(20,4,⟨[(5,.int .i64)],[]⟩)])
def avo:bL 37 false false T37:=tk Tryz.func37 (loops:=[(37,9,⟨[(62,.int .i64)],[]⟩),(37,16,⟨[(90,.int .i64),(6,.int .i64)],[]⟩)])
def avp:bL 86 false false T86:=tk Tryz.func86
def avq:bL 87 false false T87:=tk Tryz.func87
def avr:bL 88 false false T88:=tk Tryz.func88
def avs:bL 102 false false ajY:=tk Tryz.func102
def avt:bL 173 false false ajZ:=tk Tryz.func173 (loops:=[(173,2,⟨[(8,.int .i64)],[]⟩)])
def avu:bL 103 false false aj0:=tk Tryz.func103 (loops:=[(103,3,⟨[(16,.int .i64)],[]⟩)])
def avv:bL 181 false false aaM:=tk Tryz.func181
def avw:bL 135 false false aaN:=tk Tryz.func135 (loops:=[(135,4,⟨[(20,.int .i64)],[]⟩)])
def avx(Z:qn n7):bL 77 false false T77:=tk Tryz.func77 (loops:=[(77,7,⟨[(35,.int .i64),(6,.ref (.own 90))],[]⟩)]) (srts:=n7) (hsr:=Z)
def avy:bL 225 false false aaP:=tk Tryz.func225
def avz:bL 284 false false aaQ:=tk Tryz.func284
def avA:bL 207 false false aaR:=tk Tryz.func207
def avB:bL 25 false false T25:=tk Tryz.func25 (inl:=[71,132,70])
def avC(Z:qn n7):bL 155 false false Sm:=tk Tryz.func155 (loops:=[(155,6,⟨[(22,.int .i64),(4,.ref (.own 258))],[]⟩),(155,9,⟨[(28,.int .i64),(4,.ref (.own 258))],[]⟩)]) (inl:=[222]) (srts:=n7) (hsr:=Z)
end
end
end Go.Proofs.YtieaiocljdpebaaGreatDoor.Y
