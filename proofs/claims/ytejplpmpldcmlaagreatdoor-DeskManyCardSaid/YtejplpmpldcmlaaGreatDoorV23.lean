/- Law DeskMany holds at this seat, as its tied card says: for all shows, desks, programs and choices, right or not: there is one act for each choice of known states, and it is what certify makes of these states. No condition beyond the card's own. -/
import Derived.Test.YtejplpmpldcmlaaGreatDoorV20
import Derived.Test.YtejplpmpldcmlaaGreatDoorV21
import Derived.Test.YtejplpmpldcmlaaGreatDoorV22
import Derived.Test.YtejplpmpldcmlaaGreatDoorTie
import Derived.Test.YtejplpmpldcmlaaGreatDoorCards
import Derived.SevenTiedAt
set_option linter.all false
set_option maxRecDepth 100000
set_option maxHeartbeats 100000000
open Bool renaming true->J,false->E
open List renaming all_eq_true->fZ
open Option renaming some->U
namespace Go.Proofs.YtejplpmpldcmlaaGreatDoor.Y
open Go.RowKit
noncomputable section
theorem instN:Tryz.f4.isInstance Tryz.pinned.checked.prog Rows.deskManyRow.origin Rows.deskManyRow.targs:=tP aX
theorem aIE:Tryz.f4.isWrapper Tryz.pinned.checked.prog Rows.deskManyRow.wrapper Rows.deskManyRow.mainSum:=by
 unfold Func.isWrapper;first|(rw[aL (by decide+kernel)];kernel_rfl)|(rw[aT (by decide+kernel)];exact⟨rfl,rfl⟩)
theorem fnN:Tryz.pinned.checked.prog.funcNamed Rows.deskManyRow.func=U 4:=aX
theorem aIG:Rows.deskManyRow.sum=Tryz.pinned.sum:=aX
theorem nmN:Rows.deskManyRow.program=Tryz.pinned.name:=aX
theorem aII(X:TB.Ev 5 [] (.ret [.b J]))(V:∀W,laidMetH Tryz.prog L3 W->GW W):Rows.DeskManySaid:=
 OpenClaim.holds_of_wide 4 Tryz.f4 nmN aIG rfl rfl rfl rfl rfl ⟨rfl,rfl,rfl,rfl,rfl⟩ rfl rfl rfl rfl rfl fnN Tryz.func4 aIB instN aIE
  (λR started H Q _=>aHX X V R started H Q)
theorem aIJ:(Tryz.f4.params.toList.all λu=> !Tryz.prog.wantsStandIn u)=true:=aX
theorem aIK:Tryz.prog.funcNamed Rows.deskManyRow.func=U 4:=aX
theorem aIL:J=Tryz.pinned.checked.prog.looks []:=aX
theorem aIM:Rows.deskManyRow.wfByText (OpenSpec.ofChange Rows.deskManySpec)=true:=aX
theorem aIN:Tryz.pinned.checked.prog.mainIs=U (J,"b2dd6e578d185d9ef4dfa7e2dd372e763c7eefa952090418838d60e4924011fd".toList):=aX
theorem aIO:E=Rows.deskManyRow.goesBy Tryz.pinned.checked.prog:=aX
theorem aKi:Rows.DeskManyCardSaid:=
 Claim7.holds_tied_plain_at .later [] [.data,.data,.data] J (J,"b2dd6e578d185d9ef4dfa7e2dd372e763c7eefa952090418838d60e4924011fd") J
  (aII aID (λW h=>aH4 h)) (λ_ h=>by cases h) aIM (λ_ h=>by cases h) Go.Proofs.YtejplpmpldcmlaaGreatDoor.deskMany_row_tie rfl ⟨rfl,rfl⟩ aIN rfl
  (λf X V R=>by
   obtain rfl:f=4:=mQ (aIK.symm.trans V)|>.symm;obtain rfl:X=Tryz.f4:=(mQ (Tryz.func4.symm.trans R)).symm;exact⟨aIL,λj t Q=>by
    have P:t∈Tryz.f4.params.toList:=by have:=Array.mem_of_getElem? Q;simpa using this
    exact(show Tryz.prog.wantsStandIn t=E by simpa using fZ.1 aIJ t P)⟩)
  aIO
end
end Go.Proofs.YtejplpmpldcmlaaGreatDoor.Y
namespace Go.Proofs.YtejplpmpldcmlaaGreatDoor
set_option maxRecDepth 100000 in
theorem deskMany_holds : Rows.DeskManyCardSaid := Y.aKi
end Go.Proofs.YtejplpmpldcmlaaGreatDoor
