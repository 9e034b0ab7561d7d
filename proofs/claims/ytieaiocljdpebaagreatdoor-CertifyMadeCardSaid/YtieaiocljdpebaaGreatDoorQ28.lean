/- Law CertifyMade holds at this seat, as its tied card says: what Make returns has no objections of the kinds AfterO and BoxO; another After has the first one, and a box that is smaller than its least one the second one. No condition beyond the card's own. -/
import Derived.Test.YtieaiocljdpebaaGreatDoorQ25
import Derived.Test.YtieaiocljdpebaaGreatDoorQ26
import Derived.Test.YtieaiocljdpebaaGreatDoorQ27
import Derived.Test.YtieaiocljdpebaaGreatDoorTie
import Derived.Test.YtieaiocljdpebaaGreatDoorCards
import Derived.SevenTiedAt
set_option linter.all false
open List renaming all_eq_true->axU
open Option.some renaming inj->aym
namespace Go.Proofs.YtieaiocljdpebaaGreatDoor.Y
open Go.RowKit
noncomputable section
section
set_option maxRecDepth 100000 in
def inst9:Tryz.f9.isInstance Tryz.pinned.checked.prog Go.Proofs.YtieaiocljdpebaaGreatDoor.Rows.certifyMadeRow.origin Go.Proofs.YtieaiocljdpebaaGreatDoor.Rows.certifyMadeRow.targs:=of_decide_eq_true (by kernel_rfl)
set_option maxRecDepth 100000 in
def aDn:Tryz.f9.isWrapper Tryz.pinned.checked.prog Go.Proofs.YtieaiocljdpebaaGreatDoor.Rows.certifyMadeRow.wrapper Go.Proofs.YtieaiocljdpebaaGreatDoor.Rows.certifyMadeRow.mainSum:=by
 unfold Func.isWrapper;first|(rw[if_pos (by decide+kernel)];kernel_rfl)|(rw[if_neg (by decide+kernel)];exact⟨rfl,rfl⟩)
def fn9:Tryz.pinned.checked.prog.funcNamed Go.Proofs.YtieaiocljdpebaaGreatDoor.Rows.certifyMadeRow.func=some 9:=by kernel_rfl
def aDp:Go.Proofs.YtieaiocljdpebaaGreatDoor.Rows.certifyMadeRow.sum=Tryz.pinned.sum:=by kernel_rfl
def nm9:Go.Proofs.YtieaiocljdpebaaGreatDoor.Rows.certifyMadeRow.program=Tryz.pinned.name:=by kernel_rfl
set_option maxRecDepth 100000 in
def aDr (Z:TB.Ev 11 [] (.ret [.b true])) (X:∀W,laidMetH Tryz.prog L3 W->GW W):Go.Proofs.YtieaiocljdpebaaGreatDoor.Rows.CertifyMadeSaid:=
 OpenClaim.holds_of_wide 9 Tryz.f9 nm9 aDp rfl rfl rfl rfl rfl ⟨rfl,rfl,rfl,rfl,rfl⟩ rfl rfl rfl rfl rfl fn9 Tryz.func9 awM inst9 aDn
  (λV started H U _=>aDc Z X V started H U)
end
section
set_option maxRecDepth 100000 in
def aDs:(Tryz.f9.params.toList.all λu=> !Tryz.prog.wantsStandIn u)=true:=by kernel_rfl
def aDt:Tryz.prog.funcNamed Go.Proofs.YtieaiocljdpebaaGreatDoor.Rows.certifyMadeRow.func=some 9:=by kernel_rfl
def aDu:true=Tryz.pinned.checked.prog.looks []:=by kernel_rfl
def aDv:Go.Proofs.YtieaiocljdpebaaGreatDoor.Rows.certifyMadeRow.wfByText (OpenSpec.ofChange Go.Proofs.YtieaiocljdpebaaGreatDoor.Rows.certifyMadeSpec)=true:=by kernel_rfl
def aDw:Tryz.pinned.checked.prog.mainIs=some (true,"57593e251adffd7189ca25ecb687f2763f394fbebdb6f59057952cb2f0c25e9a".toList):=by kernel_rfl
def aDx:false=Go.Proofs.YtieaiocljdpebaaGreatDoor.Rows.certifyMadeRow.goesBy Tryz.pinned.checked.prog:=by kernel_rfl
set_option maxRecDepth 100000 in
def aDK:Go.Proofs.YtieaiocljdpebaaGreatDoor.Rows.CertifyMadeCardSaid:=
 Claim7.holds_tied_plain_at .later [] [.data,.data,.data] true (true,"57593e251adffd7189ca25ecb687f2763f394fbebdb6f59057952cb2f0c25e9a") true
  (aDr awO (λW h=>awf h)) (λ_ h=>by cases h) aDv (λ_ h=>by cases h) Go.Proofs.YtieaiocljdpebaaGreatDoor.certifyMade_row_tie rfl ⟨rfl,rfl⟩ aDw rfl
  (λf Z X V=>by
   obtain rfl:f=9:=aym (aDt.symm.trans X)|>.symm;obtain rfl:Z=Tryz.f9:=(aym (Tryz.func9.symm.trans V)).symm;exact⟨aDu,λj t U=>by
    have R:t∈Tryz.f9.params.toList:=by have:=Array.mem_of_getElem? U;simpa using this
    exact(show Tryz.prog.wantsStandIn t=false by simpa using axU.1 aDs t R)⟩)
  aDx
end
end
end Go.Proofs.YtieaiocljdpebaaGreatDoor.Y
namespace Go.Proofs.YtieaiocljdpebaaGreatDoor
set_option maxRecDepth 100000 in
theorem certifyMade_holds : Rows.CertifyMadeCardSaid := Y.aDK
end Go.Proofs.YtieaiocljdpebaaGreatDoor
