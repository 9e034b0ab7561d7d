/- Law CertifyStronger holds at this seat, as its tied card says: an act that is accepted is accepted for bodies of which the ones before are weaker, if no arm is improvised in the bar. No condition beyond the card's own. -/
import Derived.Test.YtieaiocljdpebaaGreatDoorQ25
import Derived.Test.YtieaiocljdpebaaGreatDoorQ26
import Derived.Test.YtieaiocljdpebaaGreatDoorQ27
import Derived.Test.YtieaiocljdpebaaGreatDoorTie
import Derived.Test.YtieaiocljdpebaaGreatDoorCards
import Derived.SevenTiedAt
set_option linter.all false
open List renaming all_eq_true->axU
open Option.some renaming inj->aym
namespace Go.Proofs.YtieaiocljdpebaaGreatDoor.Y
open Go.RowKit
noncomputable section
section
set_option maxRecDepth 100000 in
def inst10:Tryz.f10.isInstance Tryz.pinned.checked.prog Go.Proofs.YtieaiocljdpebaaGreatDoor.Rows.certifyStrongerRow.origin Go.Proofs.YtieaiocljdpebaaGreatDoor.Rows.certifyStrongerRow.targs:=of_decide_eq_true (by kernel_rfl)
set_option maxRecDepth 100000 in
def awP:Tryz.f10.isWrapper Tryz.pinned.checked.prog Go.Proofs.YtieaiocljdpebaaGreatDoor.Rows.certifyStrongerRow.wrapper Go.Proofs.YtieaiocljdpebaaGreatDoor.Rows.certifyStrongerRow.mainSum:=by
 unfold Func.isWrapper;first|(rw[if_pos (by decide+kernel)];kernel_rfl)|(rw[if_neg (by decide+kernel)];exact⟨rfl,rfl⟩)
def awQ:Tryz.pinned.checked.prog.funcNamed Go.Proofs.YtieaiocljdpebaaGreatDoor.Rows.certifyStrongerRow.func=some 10:=by kernel_rfl
def awR:Go.Proofs.YtieaiocljdpebaaGreatDoor.Rows.certifyStrongerRow.sum=Tryz.pinned.sum:=by kernel_rfl
def awS:Go.Proofs.YtieaiocljdpebaaGreatDoor.Rows.certifyStrongerRow.program=Tryz.pinned.name:=by kernel_rfl
set_option maxRecDepth 100000 in
def awT (Z:TB.Ev 11 [] (.ret [.b true])) (X:∀W,laidMetH Tryz.prog L3 W->GW W):Go.Proofs.YtieaiocljdpebaaGreatDoor.Rows.CertifyStrongerSaid:=
 OpenClaim.holds_of_wide 10 Tryz.f10 awS awR rfl rfl rfl rfl rfl ⟨rfl,rfl,rfl,rfl,rfl⟩ rfl rfl rfl rfl rfl awQ Tryz.func10 awM inst10 awP
  (λV started H U _=>av8 Z X V started H U)
end
section
set_option maxRecDepth 100000 in
def awU:(Tryz.f10.params.toList.all λu=> !Tryz.prog.wantsStandIn u)=true:=by kernel_rfl
def awV:Tryz.prog.funcNamed Go.Proofs.YtieaiocljdpebaaGreatDoor.Rows.certifyStrongerRow.func=some 10:=by kernel_rfl
def awW:true=Tryz.pinned.checked.prog.looks []:=by kernel_rfl
def awX:Go.Proofs.YtieaiocljdpebaaGreatDoor.Rows.certifyStrongerRow.wfByText (OpenSpec.ofChange Go.Proofs.YtieaiocljdpebaaGreatDoor.Rows.certifyStrongerSpec)=true:=by kernel_rfl
def awY:Tryz.pinned.checked.prog.mainIs=some (true,"57593e251adffd7189ca25ecb687f2763f394fbebdb6f59057952cb2f0c25e9a".toList):=by kernel_rfl
def awZ:false=Go.Proofs.YtieaiocljdpebaaGreatDoor.Rows.certifyStrongerRow.goesBy Tryz.pinned.checked.prog:=by kernel_rfl
set_option maxRecDepth 100000 in
def axH:Go.Proofs.YtieaiocljdpebaaGreatDoor.Rows.CertifyStrongerCardSaid:=
 Claim7.holds_tied_plain_at .later [] [.data,.data,.data] true (true,"57593e251adffd7189ca25ecb687f2763f394fbebdb6f59057952cb2f0c25e9a") true
  (awT awO (λW h=>awf h)) (λ_ h=>by cases h) awX (λ_ h=>by cases h) Go.Proofs.YtieaiocljdpebaaGreatDoor.certifyStronger_row_tie rfl ⟨rfl,rfl⟩ awY rfl
  (λf Z X V=>by
   obtain rfl:f=10:=aym (awV.symm.trans X)|>.symm;obtain rfl:Z=Tryz.f10:=(aym (Tryz.func10.symm.trans V)).symm;exact⟨awW,λj t U=>by
    have R:t∈Tryz.f10.params.toList:=by have:=Array.mem_of_getElem? U;simpa using this
    exact(show Tryz.prog.wantsStandIn t=false by simpa using axU.1 awU t R)⟩)
  awZ
end
end
end Go.Proofs.YtieaiocljdpebaaGreatDoor.Y
namespace Go.Proofs.YtieaiocljdpebaaGreatDoor
set_option maxRecDepth 100000 in
theorem certifyStronger_holds : Rows.CertifyStrongerCardSaid := Y.axH
end Go.Proofs.YtieaiocljdpebaaGreatDoor
