/- Law CertifyParts holds at this seat, as its tied card says: Part of Part is Part for those who are in both. No condition beyond the card's own. -/
import Derived.Test.YtieaiocljdpebaaGreatDoorQ26
import Derived.Test.YtieaiocljdpebaaGreatDoorQ27
import Derived.Test.YtieaiocljdpebaaGreatDoorQ28
import Derived.Test.YtieaiocljdpebaaGreatDoorTie
import Derived.Test.YtieaiocljdpebaaGreatDoorCards
import Derived.SevenTiedAt
set_option linter.all false
open List renaming all_eq_true->ayM
open Option.some renaming inj->azd
namespace Go.Proofs.YtieaiocljdpebaaGreatDoor.Y
open Go.RowKit
noncomputable section
section
set_option maxRecDepth 100000 in
def inst7:Tryz.f7.isInstance Tryz.pinned.checked.prog Go.Proofs.YtieaiocljdpebaaGreatDoor.Rows.certifyPartsRow.origin Go.Proofs.YtieaiocljdpebaaGreatDoor.Rows.certifyPartsRow.targs:=of_decide_eq_true (by kernel_rfl)
set_option maxRecDepth 100000 in
def axu:Tryz.f7.isWrapper Tryz.pinned.checked.prog Go.Proofs.YtieaiocljdpebaaGreatDoor.Rows.certifyPartsRow.wrapper Go.Proofs.YtieaiocljdpebaaGreatDoor.Rows.certifyPartsRow.mainSum:=by
 unfold Func.isWrapper;first|(rw[if_pos (by decide+kernel)];kernel_rfl)|(rw[if_neg (by decide+kernel)];exact⟨rfl,rfl⟩)
def fn7:Tryz.pinned.checked.prog.funcNamed Go.Proofs.YtieaiocljdpebaaGreatDoor.Rows.certifyPartsRow.func=some 7:=by kernel_rfl
def axw:Go.Proofs.YtieaiocljdpebaaGreatDoor.Rows.certifyPartsRow.sum=Tryz.pinned.sum:=by kernel_rfl
def nm7:Go.Proofs.YtieaiocljdpebaaGreatDoor.Rows.certifyPartsRow.program=Tryz.pinned.name:=by kernel_rfl
set_option maxRecDepth 100000 in
def axy (Z:TB.Ev 11 [] (.ret [.b true])) (X:∀W,laidMetH Tryz.prog L3 W->GW W):Go.Proofs.YtieaiocljdpebaaGreatDoor.Rows.CertifyPartsSaid:=
 OpenClaim.holds_of_wide 7 Tryz.f7 nm7 axw rfl rfl rfl rfl rfl ⟨rfl,rfl,rfl,rfl,rfl⟩ rfl rfl rfl rfl rfl fn7 Tryz.func7 axr inst7 axu
  (λV started H U _=>awN Z X V started H U)
end
section
set_option maxRecDepth 100000 in
def axz:(Tryz.f7.params.toList.all λu=> !Tryz.prog.wantsStandIn u)=true:=by kernel_rfl
def axA:Tryz.prog.funcNamed Go.Proofs.YtieaiocljdpebaaGreatDoor.Rows.certifyPartsRow.func=some 7:=by kernel_rfl
def axB:true=Tryz.pinned.checked.prog.looks []:=by kernel_rfl
def axC:Go.Proofs.YtieaiocljdpebaaGreatDoor.Rows.certifyPartsRow.wfByText (OpenSpec.ofChange Go.Proofs.YtieaiocljdpebaaGreatDoor.Rows.certifyPartsSpec)=true:=by kernel_rfl
def axD:Tryz.pinned.checked.prog.mainIs=some (true,"57593e251adffd7189ca25ecb687f2763f394fbebdb6f59057952cb2f0c25e9a".toList):=by kernel_rfl
def axE:false=Go.Proofs.YtieaiocljdpebaaGreatDoor.Rows.certifyPartsRow.goesBy Tryz.pinned.checked.prog:=by kernel_rfl
set_option maxRecDepth 100000 in
def ayy:Go.Proofs.YtieaiocljdpebaaGreatDoor.Rows.CertifyPartsCardSaid:=
 Claim7.holds_tied_plain_at .later [] [.data,.data,.data] true (true,"57593e251adffd7189ca25ecb687f2763f394fbebdb6f59057952cb2f0c25e9a") true
  (axy axt (λW h=>awU h)) (λ_ h=>by cases h) axC (λ_ h=>by cases h) Go.Proofs.YtieaiocljdpebaaGreatDoor.certifyParts_row_tie rfl ⟨rfl,rfl⟩ axD rfl
  (λf Z X V=>by
   obtain rfl:f=7:=azd (axA.symm.trans X)|>.symm;obtain rfl:Z=Tryz.f7:=(azd (Tryz.func7.symm.trans V)).symm;exact⟨axB,λj t U=>by
    have R:t∈Tryz.f7.params.toList:=by have:=Array.mem_of_getElem? U;simpa using this
    exact(show Tryz.prog.wantsStandIn t=false by simpa using ayM.1 axz t R)⟩)
  axE
end
end
end Go.Proofs.YtieaiocljdpebaaGreatDoor.Y
namespace Go.Proofs.YtieaiocljdpebaaGreatDoor
set_option maxRecDepth 100000 in
theorem certifyParts_holds : Rows.CertifyPartsCardSaid := Y.ayy
end Go.Proofs.YtieaiocljdpebaaGreatDoor
