/- Law ReplanBudget holds at this seat, as its tied card says: for all right shows and desks and two budgets: the greater keeps no less and takes no fewer steps; with the budget 0, and for a closed desk, nothing is called. No condition beyond the card's own. -/
import Derived.Test.YtjnmghiggfgjlaaGreatDoorW17
import Derived.Test.YtjnmghiggfgjlaaGreatDoorW18
import Derived.Test.YtjnmghiggfgjlaaGreatDoorW19
import Derived.Test.YtjnmghiggfgjlaaGreatDoorTie
import Derived.Test.YtjnmghiggfgjlaaGreatDoorCards
import Derived.SevenTiedAt
set_option linter.all false
set_option maxRecDepth 100000
set_option maxHeartbeats 100000000
open Bool renaming true->J,false->E
open List renaming all_eq_true->gC
open Option renaming some->U
namespace Go.Proofs.YtjnmghiggfgjlaaGreatDoor.Y
open Go.RowKit
noncomputable section
theorem instW:Tryz.f5.isInstance Tryz.pinned.checked.prog Rows.replanBudgetRow.origin Rows.replanBudgetRow.targs:=GI aU
theorem aIn:Tryz.f5.isWrapper Tryz.pinned.checked.prog Rows.replanBudgetRow.wrapper Rows.replanBudgetRow.mainSum:=by
 unfold Func.isWrapper;first|(rw[aH (by decide+kernel)];kernel_rfl)|(rw[aP (by decide+kernel)];exact⟨rfl,rfl⟩)
theorem fnW:Tryz.pinned.checked.prog.funcNamed Rows.replanBudgetRow.func=U 5:=aU
theorem aIp:Rows.replanBudgetRow.sum=Tryz.pinned.sum:=aU
theorem nmW:Rows.replanBudgetRow.program=Tryz.pinned.name:=aU
theorem aIr(X:TB.Ev 6 [] (.ret [.b J]))(V:∀W,laidMetH Tryz.prog L3 W->GW W):Rows.ReplanBudgetSaid:=
 OpenClaim.holds_of_wide 5 Tryz.f5 nmW aIp rfl rfl rfl rfl rfl ⟨rfl,rfl,rfl,rfl,rfl⟩ rfl rfl rfl rfl rfl fnW Tryz.func5 aIk instW aIn
  (λR started H Q _=>aHG X V R started H Q)
theorem aIs:(Tryz.f5.params.toList.all λu=> !Tryz.prog.wantsStandIn u)=true:=aU
theorem aIt:Tryz.prog.funcNamed Rows.replanBudgetRow.func=U 5:=aU
theorem aIu:J=Tryz.pinned.checked.prog.looks []:=aU
theorem aIv:Rows.replanBudgetRow.wfByText (OpenSpec.ofChange Rows.replanBudgetSpec)=true:=aU
theorem aIw:Tryz.pinned.checked.prog.mainIs=U (J,"6d79e29c8f3ba62df5421549e41872dbde15744b90f45bb077eb1af07a9b7e8c".toList):=aU
theorem aIx:E=Rows.replanBudgetRow.goesBy Tryz.pinned.checked.prog:=aU
theorem aJO:Rows.ReplanBudgetCardSaid:=
 Claim7.holds_tied_plain_at .later [] [.data,.data,.data] J (J,"6d79e29c8f3ba62df5421549e41872dbde15744b90f45bb077eb1af07a9b7e8c") J
  (aIr aIm (λW h=>aHN h)) (λ_ h=>by cases h) aIv (λ_ h=>by cases h) Go.Proofs.YtjnmghiggfgjlaaGreatDoor.replanBudget_row_tie rfl ⟨rfl,rfl⟩ aIw rfl
  (λf X V R=>by
   obtain rfl:f=5:=nC (aIt.symm.trans V)|>.symm;obtain rfl:X=Tryz.f5:=(nC (Tryz.func5.symm.trans R)).symm;exact⟨aIu,λj t Q=>by
    have P:t∈Tryz.f5.params.toList:=by have:=Array.mem_of_getElem? Q;simpa using this
    exact(show Tryz.prog.wantsStandIn t=E by simpa using gC.1 aIs t P)⟩)
  aIx
end
end Go.Proofs.YtjnmghiggfgjlaaGreatDoor.Y
namespace Go.Proofs.YtjnmghiggfgjlaaGreatDoor
set_option maxRecDepth 100000 in
theorem replanBudget_holds : Rows.ReplanBudgetCardSaid := Y.aJO
end Go.Proofs.YtjnmghiggfgjlaaGreatDoor
