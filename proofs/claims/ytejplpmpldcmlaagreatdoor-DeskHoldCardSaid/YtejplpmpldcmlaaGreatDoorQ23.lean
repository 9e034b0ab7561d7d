/- Law DeskHold holds at this seat, as its tied card says: for all shows, desks and numbers, right or not: holding is always possible, and changes nothing that is known; a closed desk calls nothing else. No condition beyond the card's own. -/
import Derived.Test.YtejplpmpldcmlaaGreatDoorQ20
import Derived.Test.YtejplpmpldcmlaaGreatDoorQ21
import Derived.Test.YtejplpmpldcmlaaGreatDoorQ22
import Derived.Test.YtejplpmpldcmlaaGreatDoorTie
import Derived.Test.YtejplpmpldcmlaaGreatDoorCards
import Derived.SevenTiedAt
set_option linter.all false
set_option maxRecDepth 100000
set_option maxHeartbeats 100000000
open Bool renaming true->J,false->E
open List renaming all_eq_true->fO
open Option renaming some->U
namespace Go.Proofs.YtejplpmpldcmlaaGreatDoor.Y
open Go.RowKit
noncomputable section
theorem instH:Tryz.f3.isInstance Tryz.pinned.checked.prog Rows.deskHoldRow.origin Rows.deskHoldRow.targs:=uE aY
theorem aHX:Tryz.f3.isWrapper Tryz.pinned.checked.prog Rows.deskHoldRow.wrapper Rows.deskHoldRow.mainSum:=by
 unfold Func.isWrapper;first|(rw[aJ (by decide+kernel)];kernel_rfl)|(rw[aQ (by decide+kernel)];exact⟨rfl,rfl⟩)
theorem fnH:Tryz.pinned.checked.prog.funcNamed Rows.deskHoldRow.func=U 3:=aY
theorem aHZ:Rows.deskHoldRow.sum=Tryz.pinned.sum:=aY
theorem nmH:Rows.deskHoldRow.program=Tryz.pinned.name:=aY
theorem aH1(X:TB.Ev 5 [] (.ret [.b J]))(V:∀W,laidMetH Tryz.prog L3 W->GW W):Rows.DeskHoldSaid:=
 OpenClaim.holds_of_wide 3 Tryz.f3 nmH aHZ rfl rfl rfl rfl rfl ⟨rfl,rfl,rfl,rfl,rfl⟩ rfl rfl rfl rfl rfl fnH Tryz.func3 aHU instH aHX
  (λR started H Q _=>aHg X V R started H Q)
theorem aH2:(Tryz.f3.params.toList.all λu=> !Tryz.prog.wantsStandIn u)=true:=aY
theorem aH3:Tryz.prog.funcNamed Rows.deskHoldRow.func=U 3:=aY
theorem aH4:J=Tryz.pinned.checked.prog.looks []:=aY
theorem aH5:Rows.deskHoldRow.wfByText (OpenSpec.ofChange Rows.deskHoldSpec)=true:=aY
theorem aH6:Tryz.pinned.checked.prog.mainIs=U (J,"b2dd6e578d185d9ef4dfa7e2dd372e763c7eefa952090418838d60e4924011fd".toList):=aY
theorem aH7:E=Rows.deskHoldRow.goesBy Tryz.pinned.checked.prog:=aY
theorem aJz:Rows.DeskHoldCardSaid:=
 Claim7.holds_tied_plain_at .later [] [.data,.data,.data] J (J,"b2dd6e578d185d9ef4dfa7e2dd372e763c7eefa952090418838d60e4924011fd") J
  (aH1 aHW (λW h=>aHn h)) (λ_ h=>by cases h) aH5 (λ_ h=>by cases h) Go.Proofs.YtejplpmpldcmlaaGreatDoor.deskHold_row_tie rfl ⟨rfl,rfl⟩ aH6 rfl
  (λf X V R=>by
   obtain rfl:f=3:=mH (aH3.symm.trans V)|>.symm;obtain rfl:X=Tryz.f3:=(mH (Tryz.func3.symm.trans R)).symm;exact⟨aH4,λj t Q=>by
    have P:t∈Tryz.f3.params.toList:=by have:=Array.mem_of_getElem? Q;simpa using this
    exact(show Tryz.prog.wantsStandIn t=E by simpa using fO.1 aH2 t P)⟩)
  aH7
end
end Go.Proofs.YtejplpmpldcmlaaGreatDoor.Y
namespace Go.Proofs.YtejplpmpldcmlaaGreatDoor
set_option maxRecDepth 100000 in
theorem deskHold_holds : Rows.DeskHoldCardSaid := Y.aJz
end Go.Proofs.YtejplpmpldcmlaaGreatDoor
