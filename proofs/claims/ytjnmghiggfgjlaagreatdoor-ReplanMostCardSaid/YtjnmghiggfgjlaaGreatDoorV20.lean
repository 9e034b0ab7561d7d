/- Law ReplanMost holds at this seat, as its tied card says: for all right shows, desks and budgets, and any other plan: if steps are left, no possible plan keeps more. No condition beyond the card's own. -/
import Derived.Test.YtjnmghiggfgjlaaGreatDoorV17
import Derived.Test.YtjnmghiggfgjlaaGreatDoorV18
import Derived.Test.YtjnmghiggfgjlaaGreatDoorV19
import Derived.Test.YtjnmghiggfgjlaaGreatDoorTie
import Derived.Test.YtjnmghiggfgjlaaGreatDoorCards
import Derived.SevenTiedAt
set_option linter.all false
set_option maxRecDepth 100000
set_option maxHeartbeats 100000000
open Bool renaming true->J,false->E
open List renaming all_eq_true->gz
open Option renaming some->U
namespace Go.Proofs.YtjnmghiggfgjlaaGreatDoor.Y
open Go.RowKit
noncomputable section
theorem instV:Tryz.f4.isInstance Tryz.pinned.checked.prog Rows.replanMostRow.origin Rows.replanMostRow.targs:=GK aT
theorem aIw:Tryz.f4.isWrapper Tryz.pinned.checked.prog Rows.replanMostRow.wrapper Rows.replanMostRow.mainSum:=by
 unfold Func.isWrapper;first|(rw[aH (by decide+kernel)];kernel_rfl)|(rw[aS (by decide+kernel)];exact⟨rfl,rfl⟩)
theorem vVq:Tryz.pinned.checked.prog.funcNamed Rows.replanMostRow.func=U 4:=aT
theorem aIx:Rows.replanMostRow.sum=Tryz.pinned.sum:=aT
theorem nmV:Rows.replanMostRow.program=Tryz.pinned.name:=aT
theorem aIz(X:TB.Ev 6 [] (.ret [.b J]))(V:∀W,laidMetH Tryz.prog L3 W->GW W):Rows.ReplanMostSaid:=
 OpenClaim.holds_of_wide 4 Tryz.f4 nmV aIx rfl rfl rfl rfl rfl ⟨rfl,rfl,rfl,rfl,rfl⟩ rfl rfl rfl rfl rfl vVq Tryz.func4 aIt instV aIw
  (λR started H Q _=>aHP X V R started H Q)
theorem aIA:(Tryz.f4.params.toList.all λu=> !Tryz.prog.wantsStandIn u)=true:=aT
theorem aIB:Tryz.prog.funcNamed Rows.replanMostRow.func=U 4:=aT
theorem aIC:J=Tryz.pinned.checked.prog.looks []:=aT
theorem aID:Rows.replanMostRow.wfByText (OpenSpec.ofChange Rows.replanMostSpec)=true:=aT
theorem aIE:Tryz.pinned.checked.prog.mainIs=U (J,"6d79e29c8f3ba62df5421549e41872dbde15744b90f45bb077eb1af07a9b7e8c".toList):=aT
theorem aIF:E=Rows.replanMostRow.goesBy Tryz.pinned.checked.prog:=aT
theorem aJV:Rows.ReplanMostCardSaid:=
 Claim7.holds_tied_plain_at .later [] [.data,.data,.data] J (J,"6d79e29c8f3ba62df5421549e41872dbde15744b90f45bb077eb1af07a9b7e8c") J
  (aIz aIv (λW h=>aHW h)) (λ_ h=>by cases h) aID (λ_ h=>by cases h) Go.Proofs.YtjnmghiggfgjlaaGreatDoor.replanMost_row_tie rfl ⟨rfl,rfl⟩ aIE rfl
  (λf X V R=>by
   obtain rfl:f=4:=nE (aIB.symm.trans V)|>.symm;obtain rfl:X=Tryz.f4:=(nE (Tryz.func4.symm.trans R)).symm;exact⟨aIC,λj t Q=>by
    have P:t∈Tryz.f4.params.toList:=by have:=Array.mem_of_getElem? Q;simpa using this
    exact(show Tryz.prog.wantsStandIn t=E by simpa using gz.1 aIA t P)⟩)
  aIF
end
end Go.Proofs.YtjnmghiggfgjlaaGreatDoor.Y
namespace Go.Proofs.YtjnmghiggfgjlaaGreatDoor
set_option maxRecDepth 100000 in
theorem replanMost_holds : Rows.ReplanMostCardSaid := Y.aJV
end Go.Proofs.YtjnmghiggfgjlaaGreatDoor
