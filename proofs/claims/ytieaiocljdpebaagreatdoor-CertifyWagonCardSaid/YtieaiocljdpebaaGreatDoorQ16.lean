/- Part 16 of the proof; the last part says what is shown. -/
import Derived.Test.YtieaiocljdpebaaGreatDoorQ11
import Derived.Test.YtieaiocljdpebaaGreatDoorQ5
set_option linter.defProp false
set_option linter.unusedVariables false
set_option linter.unusedSimpArgs false
set_option linter.unnecessarySimpa false
namespace Go.Proofs.YtieaiocljdpebaaGreatDoor.Y
open Go.RowKit
noncomputable section
section
set_option maxRecDepth 100000
def atF:bG 12 false false Zw:=tk Tryz.func12 (loops:=[(12,5,⟨[(12,.int .i64)],[]⟩)])
def atG:bG 33 false false Ra:=tk Tryz.func33
def atH:bG 18 false false Zx:=tk Tryz.func18
def atI:bG 20 false false T20:=tk Tryz.func20 (loops:=[(20,4,⟨[(5,.int .i64)],[]⟩)])
def atJ:bG 37 false false Zy:=tk Tryz.func37 (loops:=[(37,9,⟨[(62,.int .i64)],[]⟩),(37,16,⟨[(90,.int .i64),(6,.int .i64)],[]⟩)])
def atK:bG 86 false false T86:=tk Tryz.func86
def atL:bG 87 false false T87:=tk Tryz.func87
def atM:bG 88 false false T88:=tk Tryz.func88
def atN:bG 102 false false Zz:=tk Tryz.func102
def atO:bG 173 false false ZA:=tk Tryz.func173 (loops:=[(173,2,⟨[(8,.int .i64)],[]⟩)])
def atP:bG 103 false false ZB:=tk Tryz.func103 (loops:=[(103,3,⟨[(16,.int .i64)],[]⟩)])
def atQ:bG 105 false false aiH:=tk Tryz.func105 (loops:=[(105,2,⟨[(11,.int .i64),(4,.ref (.own 65))],[]⟩)])
def atS:bG 181 false false ZC:=tk Tryz.func181
def atT:bG 135 false false ZD:=tk Tryz.func135 (loops:=[(135,4,⟨[(20,.int .i64)],[]⟩)])
def atU(hsr:rE qa):bG 77 false false ZE:=tk Tryz.func77 (loops:=[(77,7,⟨[(35,.int .i64),(6,.ref (.own 90))],[]⟩)]) (srts:=qa) (hsr:=hsr)
def atV:bG 222 false false aiI:=tk Tryz.func222
def atW:bG 225 false false ZF:=tk Tryz.func225
def atX:bG 284 false false ZG:=tk Tryz.func284
def atY:bG 207 false false ZH:=tk Tryz.func207
def atZ:bG 25 false false ZI:=tk Tryz.func25 (inl:=[71,132,70])
def at0(hsr:rE qa):bG 155 false false Rc:=tk Tryz.func155 (loops:=[(155,6,⟨[(22,.int .i64),(4,.ref (.own 258))],[]⟩),(155,9,⟨[(28,.int .i64),(4,.ref (.own 258))],[]⟩)]) (inl:=[222]) (srts:=qa) (hsr:=hsr)
end
end
end Go.Proofs.YtieaiocljdpebaaGreatDoor.Y
