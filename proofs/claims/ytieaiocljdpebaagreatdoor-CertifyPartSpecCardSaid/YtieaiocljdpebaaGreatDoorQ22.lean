/- Law CertifyPartSpec holds at this seat, as its tied card says: for all works, halls, bodies, acts and roles, right or not, Part matches the specification. No condition beyond the card's own. -/
import Derived.Test.YtieaiocljdpebaaGreatDoorQ19
import Derived.Test.YtieaiocljdpebaaGreatDoorQ20
import Derived.Test.YtieaiocljdpebaaGreatDoorQ21
import Derived.Test.YtieaiocljdpebaaGreatDoorTie
import Derived.Test.YtieaiocljdpebaaGreatDoorCards
import Derived.SevenTiedAt
set_option linter.all false
set_option maxRecDepth 100000
set_option maxHeartbeats 100000000
open Bool renaming true->J,false->E
open List renaming all_eq_true->f9
open Option renaming some->U
namespace Go.Proofs.YtieaiocljdpebaaGreatDoor.Y
open Go.RowKit
noncomputable section
def inst5:Tryz.f5.isInstance Tryz.pinned.checked.prog Rows.certifyPartSpecRow.origin Rows.certifyPartSpecRow.targs:=wX bh
def aJ5:Tryz.f5.isWrapper Tryz.pinned.checked.prog Rows.certifyPartSpecRow.wrapper Rows.certifyPartSpecRow.mainSum:=by
 unfold Func.isWrapper;first|(rw[aL (by decide+kernel)];kernel_rfl)|(rw[aP (by decide+kernel)];exact⟨rfl,rfl⟩)
def fn5:Tryz.pinned.checked.prog.funcNamed Rows.certifyPartSpecRow.func=U 5:=bh
def aJ7:Rows.certifyPartSpecRow.sum=Tryz.pinned.sum:=bh
def nm5:Rows.certifyPartSpecRow.program=Tryz.pinned.name:=bh
def aJ9(X:TB.Ev 11 [] (.ret [.b J]))(V:∀W,laidMetH Tryz.prog L3 W->GW W):Rows.CertifyPartSpecSaid:=
 OpenClaim.holds_of_wide 5 Tryz.f5 nm5 aJ7 rfl rfl rfl rfl rfl ⟨rfl,rfl,rfl,rfl,rfl⟩ rfl rfl rfl rfl rfl fn5 Tryz.func5 aJ2 inst5 aJ5
  (λR started H Q _=>aJo X V R started H Q)
def aKa:(Tryz.f5.params.toList.all λu=> !Tryz.prog.wantsStandIn u)=true:=bh
def aKb:Tryz.prog.funcNamed Rows.certifyPartSpecRow.func=U 5:=bh
def aKc:J=Tryz.pinned.checked.prog.looks []:=bh
def aKd:Rows.certifyPartSpecRow.wfByText (OpenSpec.ofChange Rows.certifyPartSpecSpec)=true:=bh
def aKe:Tryz.pinned.checked.prog.mainIs=U (J,"57593e251adffd7189ca25ecb687f2763f394fbebdb6f59057952cb2f0c25e9a".toList):=bh
def aKf:E=Rows.certifyPartSpecRow.goesBy Tryz.pinned.checked.prog:=bh
def aLQ:Rows.CertifyPartSpecCardSaid:=
 Claim7.holds_tied_plain_at .later [] [.data,.data,.data] J (J,"57593e251adffd7189ca25ecb687f2763f394fbebdb6f59057952cb2f0c25e9a") J
  (aJ9 aJ4 (λW h=>aJv h)) (λ_ h=>by cases h) aKd (λ_ h=>by cases h) Go.Proofs.YtieaiocljdpebaaGreatDoor.certifyPartSpec_row_tie rfl ⟨rfl,rfl⟩ aKe rfl
  (λf X V R=>by
   obtain rfl:f=5:=me (aKb.symm.trans V)|>.symm;obtain rfl:X=Tryz.f5:=(me (Tryz.func5.symm.trans R)).symm;exact⟨aKc,λj t Q=>by
    have P:t∈Tryz.f5.params.toList:=by have:=Array.mem_of_getElem? Q;simpa using this
    exact(show Tryz.prog.wantsStandIn t=E by simpa using f9.1 aKa t P)⟩)
  aKf
end
end Go.Proofs.YtieaiocljdpebaaGreatDoor.Y
namespace Go.Proofs.YtieaiocljdpebaaGreatDoor
set_option maxRecDepth 100000 in
theorem certifyPartSpec_holds : Rows.CertifyPartSpecCardSaid := Y.aLQ
end Go.Proofs.YtieaiocljdpebaaGreatDoor
