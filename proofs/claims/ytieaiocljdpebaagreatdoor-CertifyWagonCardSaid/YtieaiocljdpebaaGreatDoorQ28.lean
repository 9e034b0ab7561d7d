/- Law CertifyWagon holds at this seat, as its tied card says: an act that is accepted in a hall is accepted in the hall with one wagon less. No condition beyond the card's own. -/
import Derived.Test.YtieaiocljdpebaaGreatDoorQ25
import Derived.Test.YtieaiocljdpebaaGreatDoorQ26
import Derived.Test.YtieaiocljdpebaaGreatDoorQ27
import Derived.Test.YtieaiocljdpebaaGreatDoorTie
import Derived.Test.YtieaiocljdpebaaGreatDoorCards
import Derived.SevenTiedAt
set_option linter.defProp false
set_option linter.unusedVariables false
set_option linter.unusedSimpArgs false
set_option linter.unnecessarySimpa false
open List renaming all_eq_true→awU
open Option.some renaming inj→axj
namespace Go.Proofs.YtieaiocljdpebaaGreatDoor.Y
open Go.RowKit
noncomputable section
section
set_option maxRecDepth 100000 in
theorem inst8:Tryz.f8.isInstance Tryz.pinned.checked.prog Go.Proofs.YtieaiocljdpebaaGreatDoor.Rows.certifyWagonRow.origin Go.Proofs.YtieaiocljdpebaaGreatDoor.Rows.certifyWagonRow.targs:=of_decide_eq_true (by kernel_rfl)
set_option maxRecDepth 100000 in
theorem avN:Tryz.f8.isWrapper Tryz.pinned.checked.prog Go.Proofs.YtieaiocljdpebaaGreatDoor.Rows.certifyWagonRow.wrapper Go.Proofs.YtieaiocljdpebaaGreatDoor.Rows.certifyWagonRow.mainSum:=by
 unfold Func.isWrapper;first|(rw[if_pos (by decide+kernel)];kernel_rfl)|(rw[if_neg (by decide+kernel)];exact⟨rfl,rfl⟩)
theorem fn8:Tryz.pinned.checked.prog.funcNamed Go.Proofs.YtieaiocljdpebaaGreatDoor.Rows.certifyWagonRow.func=some 8:=by kernel_rfl
theorem avP:Go.Proofs.YtieaiocljdpebaaGreatDoor.Rows.certifyWagonRow.sum=Tryz.pinned.sum:=by kernel_rfl
theorem nm8:Go.Proofs.YtieaiocljdpebaaGreatDoor.Rows.certifyWagonRow.program=Tryz.pinned.name:=by kernel_rfl
set_option maxRecDepth 100000 in
theorem avR (Z:TB.Ev 11 [] (.ret [.b true])) (X:∀W,laidMetH Tryz.prog L3 W->GW W):Go.Proofs.YtieaiocljdpebaaGreatDoor.Rows.CertifyWagonSaid:=
 OpenClaim.holds_of_wide 8 Tryz.f8 nm8 avP rfl rfl rfl rfl rfl ⟨rfl,rfl,rfl,rfl,rfl⟩ rfl rfl rfl rfl rfl fn8 Tryz.func8 avK inst8 avN
  (λos started H enc _=>au6 Z X os started H enc)
end
section
set_option maxRecDepth 100000 in
theorem avS:(Tryz.f8.params.toList.all λu=> !Tryz.prog.wantsStandIn u)=true:=by kernel_rfl
theorem avT:Tryz.prog.funcNamed Go.Proofs.YtieaiocljdpebaaGreatDoor.Rows.certifyWagonRow.func=some 8:=by kernel_rfl
theorem avU:true=Tryz.pinned.checked.prog.looks []:=by kernel_rfl
theorem avV:Go.Proofs.YtieaiocljdpebaaGreatDoor.Rows.certifyWagonRow.wfByText (OpenSpec.ofChange Go.Proofs.YtieaiocljdpebaaGreatDoor.Rows.certifyWagonSpec)=true:=by kernel_rfl
theorem avW:Tryz.pinned.checked.prog.mainIs=some (true,"57593e251adffd7189ca25ecb687f2763f394fbebdb6f59057952cb2f0c25e9a".toList):=by kernel_rfl
theorem avX:false=Go.Proofs.YtieaiocljdpebaaGreatDoor.Rows.certifyWagonRow.goesBy Tryz.pinned.checked.prog:=by kernel_rfl
set_option maxRecDepth 100000 in
theorem awE:Go.Proofs.YtieaiocljdpebaaGreatDoor.Rows.CertifyWagonCardSaid:=
 Claim7.holds_tied_plain_at .later [] [.data,.data,.data] true (true,"57593e251adffd7189ca25ecb687f2763f394fbebdb6f59057952cb2f0c25e9a") true
  (avR avM (λW h=>avd h)) (λ_ h=>by cases h) avV (λ_ h=>by cases h) Go.Proofs.YtieaiocljdpebaaGreatDoor.certifyWagon_row_tie rfl ⟨rfl,rfl⟩ avW rfl
  (λf fn Z X=>by
   obtain rfl:f=8:=axj (avT.symm.trans Z)|>.symm;obtain rfl:fn=Tryz.f8:=(axj (Tryz.func8.symm.trans X)).symm;exact⟨avU,λj t V=>by
    have U:t∈Tryz.f8.params.toList:=by have:=Array.mem_of_getElem? V;simpa using this
    exact(show Tryz.prog.wantsStandIn t=false by simpa using awU.1 avS t U)⟩)
  avX
end
end
end Go.Proofs.YtieaiocljdpebaaGreatDoor.Y
namespace Go.Proofs.YtieaiocljdpebaaGreatDoor
set_option maxRecDepth 100000 in
theorem certifyWagon_holds : Rows.CertifyWagonCardSaid := Y.awE
end Go.Proofs.YtieaiocljdpebaaGreatDoor
