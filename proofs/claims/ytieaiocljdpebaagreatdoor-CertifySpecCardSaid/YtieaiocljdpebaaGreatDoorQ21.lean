/- Law CertifySpec holds at this seat, as its tied card says: for all works, bodies, bars and parts, right or not, Make matches the specification. No condition beyond the card's own. -/
import Derived.Test.YtieaiocljdpebaaGreatDoorQ18
import Derived.Test.YtieaiocljdpebaaGreatDoorQ19
import Derived.Test.YtieaiocljdpebaaGreatDoorQ20
import Derived.Test.YtieaiocljdpebaaGreatDoorTie
import Derived.Test.YtieaiocljdpebaaGreatDoorCards
import Derived.SevenTiedAt
set_option linter.all false
open Bool renaming true->J,false->E
open List renaming all_eq_true->aIN
open Option.some renaming inj->aJb
open Option renaming some->U
namespace Go.Proofs.YtieaiocljdpebaaGreatDoor.Y
open Go.RowKit
noncomputable section
set_option maxRecDepth 100000 in
def inst3:Tryz.f3.isInstance Tryz.pinned.checked.prog Go.Proofs.YtieaiocljdpebaaGreatDoor.Rows.certifySpecRow.origin Go.Proofs.YtieaiocljdpebaaGreatDoor.Rows.certifySpecRow.targs:=of_decide_eq_true (by kernel_rfl)
set_option maxRecDepth 100000 in
def aHr:Tryz.f3.isWrapper Tryz.pinned.checked.prog Go.Proofs.YtieaiocljdpebaaGreatDoor.Rows.certifySpecRow.wrapper Go.Proofs.YtieaiocljdpebaaGreatDoor.Rows.certifySpecRow.mainSum:=by
 unfold Func.isWrapper;first|(rw[if_pos (by decide+kernel)];kernel_rfl)|(rw[if_neg (by decide+kernel)];exact⟨rfl,rfl⟩)
def fn3:Tryz.pinned.checked.prog.funcNamed Go.Proofs.YtieaiocljdpebaaGreatDoor.Rows.certifySpecRow.func=U 3:=by kernel_rfl
def aHt:Go.Proofs.YtieaiocljdpebaaGreatDoor.Rows.certifySpecRow.sum=Tryz.pinned.sum:=by kernel_rfl
def nm3:Go.Proofs.YtieaiocljdpebaaGreatDoor.Rows.certifySpecRow.program=Tryz.pinned.name:=by kernel_rfl
set_option maxRecDepth 100000 in
def aHv (X:TB.Ev 11 [] (.ret [.b J])) (V:∀W,laidMetH Tryz.prog L3 W->GW W):Go.Proofs.YtieaiocljdpebaaGreatDoor.Rows.CertifySpecSaid:=
 OpenClaim.holds_of_wide 3 Tryz.f3 nm3 aHt rfl rfl rfl rfl rfl ⟨rfl,rfl,rfl,rfl,rfl⟩ rfl rfl rfl rfl rfl fn3 Tryz.func3 aHo inst3 aHr
  (λR started H Q _=>aGK X V R started H Q)
set_option maxRecDepth 100000 in
def aHw:(Tryz.f3.params.toList.all λu=> !Tryz.prog.wantsStandIn u)=true:=by kernel_rfl
def aHx:Tryz.prog.funcNamed Go.Proofs.YtieaiocljdpebaaGreatDoor.Rows.certifySpecRow.func=U 3:=by kernel_rfl
def aHy:J=Tryz.pinned.checked.prog.looks []:=by kernel_rfl
def aHz:Go.Proofs.YtieaiocljdpebaaGreatDoor.Rows.certifySpecRow.wfByText (OpenSpec.ofChange Go.Proofs.YtieaiocljdpebaaGreatDoor.Rows.certifySpecSpec)=true:=by kernel_rfl
def aHA:Tryz.pinned.checked.prog.mainIs=U (J,"57593e251adffd7189ca25ecb687f2763f394fbebdb6f59057952cb2f0c25e9a".toList):=by kernel_rfl
def aHB:E=Go.Proofs.YtieaiocljdpebaaGreatDoor.Rows.certifySpecRow.goesBy Tryz.pinned.checked.prog:=by kernel_rfl
set_option maxRecDepth 100000 in
def aIx:Go.Proofs.YtieaiocljdpebaaGreatDoor.Rows.CertifySpecCardSaid:=
 Claim7.holds_tied_plain_at .later [] [.data,.data,.data] J (J,"57593e251adffd7189ca25ecb687f2763f394fbebdb6f59057952cb2f0c25e9a") J
  (aHv aHq (λW h=>aGR h)) (λ_ h=>by cases h) aHz (λ_ h=>by cases h) Go.Proofs.YtieaiocljdpebaaGreatDoor.certifySpec_row_tie rfl ⟨rfl,rfl⟩ aHA rfl
  (λf X V R=>by
   obtain rfl:f=3:=aJb (aHx.symm.trans V)|>.symm;obtain rfl:X=Tryz.f3:=(aJb (Tryz.func3.symm.trans R)).symm;exact⟨aHy,λj t Q=>by
    have P:t∈Tryz.f3.params.toList:=by have:=Array.mem_of_getElem? Q;simpa using this
    exact(show Tryz.prog.wantsStandIn t=E by simpa using aIN.1 aHw t P)⟩)
  aHB
end
end Go.Proofs.YtieaiocljdpebaaGreatDoor.Y
namespace Go.Proofs.YtieaiocljdpebaaGreatDoor
set_option maxRecDepth 100000 in
theorem certifySpec_holds : Rows.CertifySpecCardSaid := Y.aIx
end Go.Proofs.YtieaiocljdpebaaGreatDoor
