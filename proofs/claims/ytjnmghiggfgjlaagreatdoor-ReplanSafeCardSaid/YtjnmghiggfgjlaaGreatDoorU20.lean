/- Law ReplanSafe holds at this seat, as its tied card says: for all shows, desks and budgets that are right: the plan that is found is possible call by call when all follow, keeps what is said, and takes no more steps than the budget. No condition beyond the card's own. -/
import Derived.Test.YtjnmghiggfgjlaaGreatDoorU17
import Derived.Test.YtjnmghiggfgjlaaGreatDoorU18
import Derived.Test.YtjnmghiggfgjlaaGreatDoorU19
import Derived.Test.YtjnmghiggfgjlaaGreatDoorTie
import Derived.Test.YtjnmghiggfgjlaaGreatDoorCards
import Derived.SevenTiedAt
set_option linter.all false
set_option maxRecDepth 100000
set_option maxHeartbeats 100000000
open Bool renaming true->J,false->E
open List renaming all_eq_true->gC
open Option renaming some->U
namespace Go.Proofs.YtjnmghiggfgjlaaGreatDoor.Y
open Go.RowKit
noncomputable section
theorem instU:Tryz.f3.isInstance Tryz.pinned.checked.prog Rows.replanSafeRow.origin Rows.replanSafeRow.targs:=GN aV
theorem aIE:Tryz.f3.isWrapper Tryz.pinned.checked.prog Rows.replanSafeRow.wrapper Rows.replanSafeRow.mainSum:=by
 unfold Func.isWrapper;first|(rw[aH (by decide+kernel)];kernel_rfl)|(rw[aJ (by decide+kernel)];exact⟨rfl,rfl⟩)
theorem fnU:Tryz.pinned.checked.prog.funcNamed Rows.replanSafeRow.func=U 3:=aV
theorem aIG:Rows.replanSafeRow.sum=Tryz.pinned.sum:=aV
theorem nmU:Rows.replanSafeRow.program=Tryz.pinned.name:=aV
theorem aII(X:TB.Ev 6 [] (.ret [.b J]))(V:∀W,laidMetH Tryz.prog L3 W->GW W):Rows.ReplanSafeSaid:=
 OpenClaim.holds_of_wide 3 Tryz.f3 nmU aIG rfl rfl rfl rfl rfl ⟨rfl,rfl,rfl,rfl,rfl⟩ rfl rfl rfl rfl rfl fnU Tryz.func3 aIB instU aIE
  (λR started H Q _=>aHX X V R started H Q)
theorem aIJ:(Tryz.f3.params.toList.all λu=> !Tryz.prog.wantsStandIn u)=true:=aV
theorem aIK:Tryz.prog.funcNamed Rows.replanSafeRow.func=U 3:=aV
theorem aIL:J=Tryz.pinned.checked.prog.looks []:=aV
theorem aIM:Rows.replanSafeRow.wfByText (OpenSpec.ofChange Rows.replanSafeSpec)=true:=aV
theorem aIN:Tryz.pinned.checked.prog.mainIs=U (J,"6d79e29c8f3ba62df5421549e41872dbde15744b90f45bb077eb1af07a9b7e8c".toList):=aV
theorem aIO:E=Rows.replanSafeRow.goesBy Tryz.pinned.checked.prog:=aV
theorem aJ6:Rows.ReplanSafeCardSaid:=
 Claim7.holds_tied_plain_at .later [] [.data,.data,.data] J (J,"6d79e29c8f3ba62df5421549e41872dbde15744b90f45bb077eb1af07a9b7e8c") J
  (aII aID (λW h=>aH4 h)) (λ_ h=>by cases h) aIM (λ_ h=>by cases h) Go.Proofs.YtjnmghiggfgjlaaGreatDoor.replanSafe_row_tie rfl ⟨rfl,rfl⟩ aIN rfl
  (λf X V R=>by
   obtain rfl:f=3:=nJ (aIK.symm.trans V)|>.symm;obtain rfl:X=Tryz.f3:=(nJ (Tryz.func3.symm.trans R)).symm;exact⟨aIL,λj t Q=>by
    have P:t∈Tryz.f3.params.toList:=by have:=Array.mem_of_getElem? Q;simpa using this
    exact(show Tryz.prog.wantsStandIn t=E by simpa using gC.1 aIJ t P)⟩)
  aIO
end
end Go.Proofs.YtjnmghiggfgjlaaGreatDoor.Y
namespace Go.Proofs.YtjnmghiggfgjlaaGreatDoor
set_option maxRecDepth 100000 in
theorem replanSafe_holds : Rows.ReplanSafeCardSaid := Y.aJ6
end Go.Proofs.YtjnmghiggfgjlaaGreatDoor
