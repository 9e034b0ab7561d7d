/- Law CertifySafe holds at this seat, as its tied card says: if an act is accepted, so is Part of it, whoever is in it; no two roles that are no partners have a common place, no role leaves the floor or meets a wagon, all stand apart after the bar, and each essential sign of a role that moves is realised. No condition beyond the card's own. -/
import Derived.Test.YtieaiocljdpebaaGreatDoorQ15
import Derived.Test.YtieaiocljdpebaaGreatDoorQ16
import Derived.Test.YtieaiocljdpebaaGreatDoorQ17
import Derived.Test.YtieaiocljdpebaaGreatDoorTie
import Derived.Test.YtieaiocljdpebaaGreatDoorCards
import Derived.SevenTiedAt
set_option linter.all false
open Bool renaming true->J,false->E
open List renaming all_eq_true->aDr
open Option.some renaming inj->aDQ
open Option renaming some->U
namespace Go.Proofs.YtieaiocljdpebaaGreatDoor.Y
open Go.RowKit
noncomputable section
set_option maxRecDepth 100000 in
def inst6:Tryz.f6.isInstance Tryz.pinned.checked.prog Go.Proofs.YtieaiocljdpebaaGreatDoor.Rows.certifySafeRow.origin Go.Proofs.YtieaiocljdpebaaGreatDoor.Rows.certifySafeRow.targs:=of_decide_eq_true (by kernel_rfl)
set_option maxRecDepth 100000 in
def aCj:Tryz.f6.isWrapper Tryz.pinned.checked.prog Go.Proofs.YtieaiocljdpebaaGreatDoor.Rows.certifySafeRow.wrapper Go.Proofs.YtieaiocljdpebaaGreatDoor.Rows.certifySafeRow.mainSum:=by
 unfold Func.isWrapper;first|(rw[if_pos (by decide+kernel)];kernel_rfl)|(rw[if_neg (by decide+kernel)];exact⟨rfl,rfl⟩)
def fn6:Tryz.pinned.checked.prog.funcNamed Go.Proofs.YtieaiocljdpebaaGreatDoor.Rows.certifySafeRow.func=U 6:=by kernel_rfl
def aCl:Go.Proofs.YtieaiocljdpebaaGreatDoor.Rows.certifySafeRow.sum=Tryz.pinned.sum:=by kernel_rfl
def nm6:Go.Proofs.YtieaiocljdpebaaGreatDoor.Rows.certifySafeRow.program=Tryz.pinned.name:=by kernel_rfl
set_option maxRecDepth 100000 in
def aCn (X:TB.Ev 11 [] (.ret [.b J])) (V:∀W,laidMetH Tryz.prog L3 W->GW W):Go.Proofs.YtieaiocljdpebaaGreatDoor.Rows.CertifySafeSaid:=
 OpenClaim.holds_of_wide 6 Tryz.f6 nm6 aCl rfl rfl rfl rfl rfl ⟨rfl,rfl,rfl,rfl,rfl⟩ rfl rfl rfl rfl rfl fn6 Tryz.func6 aCg inst6 aCj
  (λR started H Q _=>aBC X V R started H Q)
set_option maxRecDepth 100000 in
def aCo:(Tryz.f6.params.toList.all λu=> !Tryz.prog.wantsStandIn u)=true:=by kernel_rfl
def aCp:Tryz.prog.funcNamed Go.Proofs.YtieaiocljdpebaaGreatDoor.Rows.certifySafeRow.func=U 6:=by kernel_rfl
def aCq:J=Tryz.pinned.checked.prog.looks []:=by kernel_rfl
def aCr:Go.Proofs.YtieaiocljdpebaaGreatDoor.Rows.certifySafeRow.wfByText (OpenSpec.ofChange Go.Proofs.YtieaiocljdpebaaGreatDoor.Rows.certifySafeSpec)=true:=by kernel_rfl
def aCs:Tryz.pinned.checked.prog.mainIs=U (J,"57593e251adffd7189ca25ecb687f2763f394fbebdb6f59057952cb2f0c25e9a".toList):=by kernel_rfl
def aCt:E=Go.Proofs.YtieaiocljdpebaaGreatDoor.Rows.certifySafeRow.goesBy Tryz.pinned.checked.prog:=by kernel_rfl
set_option maxRecDepth 100000 in
def aDb:Go.Proofs.YtieaiocljdpebaaGreatDoor.Rows.CertifySafeCardSaid:=
 Claim7.holds_tied_plain_at .later [] [.data,.data,.data] J (J,"57593e251adffd7189ca25ecb687f2763f394fbebdb6f59057952cb2f0c25e9a") J
  (aCn aCi (λW h=>aBJ h)) (λ_ h=>by cases h) aCr (λ_ h=>by cases h) Go.Proofs.YtieaiocljdpebaaGreatDoor.certifySafe_row_tie rfl ⟨rfl,rfl⟩ aCs rfl
  (λf X V R=>by
   obtain rfl:f=6:=aDQ (aCp.symm.trans V)|>.symm;obtain rfl:X=Tryz.f6:=(aDQ (Tryz.func6.symm.trans R)).symm;exact⟨aCq,λj t Q=>by
    have P:t∈Tryz.f6.params.toList:=by have:=Array.mem_of_getElem? Q;simpa using this
    exact(show Tryz.prog.wantsStandIn t=E by simpa using aDr.1 aCo t P)⟩)
  aCt
end
end Go.Proofs.YtieaiocljdpebaaGreatDoor.Y
namespace Go.Proofs.YtieaiocljdpebaaGreatDoor
set_option maxRecDepth 100000 in
theorem certifySafe_holds : Rows.CertifySafeCardSaid := Y.aDb
end Go.Proofs.YtieaiocljdpebaaGreatDoor
