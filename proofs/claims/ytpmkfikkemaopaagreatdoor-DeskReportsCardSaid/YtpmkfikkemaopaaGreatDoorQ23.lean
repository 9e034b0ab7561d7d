/- Law DeskReports holds at this seat, as its tied card says: for all shows, desks and reports, right or not: reports of different roles can be heard in any order, and a report that is heard again changes nothing. No condition beyond the card's own. -/
import Derived.Test.YtpmkfikkemaopaaGreatDoorQ20
import Derived.Test.YtpmkfikkemaopaaGreatDoorQ21
import Derived.Test.YtpmkfikkemaopaaGreatDoorQ22
import Derived.Test.YtpmkfikkemaopaaGreatDoorTie
import Derived.Test.YtpmkfikkemaopaaGreatDoorCards
import Derived.SevenTiedAt
set_option linter.all false
set_option maxRecDepth 100000
set_option maxHeartbeats 100000000
open Bool renaming true->J,false->E
open List renaming all_eq_true->fp
open Option renaming some->U
namespace Go.Proofs.YtpmkfikkemaopaaGreatDoor.Y
open Go.RowKit
noncomputable section
theorem instD:Tryz.f3.isInstance Tryz.pinned.checked.prog Rows.deskReportsRow.origin Rows.deskReportsRow.targs:=tH aT
theorem aCV:Tryz.f3.isWrapper Tryz.pinned.checked.prog Rows.deskReportsRow.wrapper Rows.deskReportsRow.mainSum:=by
 unfold Func.isWrapper;first|(rw[aI (by decide+kernel)];kernel_rfl)|(rw[aK (by decide+kernel)];exact⟨rfl,rfl⟩)
theorem fnD:Tryz.pinned.checked.prog.funcNamed Rows.deskReportsRow.func=U 3:=aT
theorem aCX:Rows.deskReportsRow.sum=Tryz.pinned.sum:=aT
theorem nmD:Rows.deskReportsRow.program=Tryz.pinned.name:=aT
theorem aCZ(X:TB.Ev 4 [] (.ret [.b J]))(V:∀W,laidMetH Tryz.prog L3 W->GW W):Rows.DeskReportsSaid:=
 OpenClaim.holds_of_wide 3 Tryz.f3 nmD aCX rfl rfl rfl rfl rfl ⟨rfl,rfl,rfl,rfl,rfl⟩ rfl rfl rfl rfl rfl fnD Tryz.func3 aCS instD aCV
  (λR started H Q _=>aCe X V R started H Q)
theorem aC0:(Tryz.f3.params.toList.all λu=> !Tryz.prog.wantsStandIn u)=true:=aT
theorem aC1:Tryz.prog.funcNamed Rows.deskReportsRow.func=U 3:=aT
theorem aC2:J=Tryz.pinned.checked.prog.looks []:=aT
theorem aC3:Rows.deskReportsRow.wfByText (OpenSpec.ofChange Rows.deskReportsSpec)=true:=aT
theorem aC4:Tryz.pinned.checked.prog.mainIs=U (J,"18bb2aa88daf24f3462d07b354fe7485b8a3cecb1fd8dc11673503fbd398e8be".toList):=aT
theorem aC5:E=Rows.deskReportsRow.goesBy Tryz.pinned.checked.prog:=aT
theorem aEE:Rows.DeskReportsCardSaid:=
 Claim7.holds_tied_plain_at .later [] [.data,.data,.data] J (J,"18bb2aa88daf24f3462d07b354fe7485b8a3cecb1fd8dc11673503fbd398e8be") J
  (aCZ aCU (λW h=>aCl h)) (λ_ h=>by cases h) aC3 (λ_ h=>by cases h) Go.Proofs.YtpmkfikkemaopaaGreatDoor.deskReports_row_tie rfl ⟨rfl,rfl⟩ aC4 rfl
  (λf X V R=>by
   obtain rfl:f=3:=lT (aC1.symm.trans V)|>.symm;obtain rfl:X=Tryz.f3:=(lT (Tryz.func3.symm.trans R)).symm;exact⟨aC2,λj t Q=>by
    have P:t∈Tryz.f3.params.toList:=by have:=Array.mem_of_getElem? Q;simpa using this
    exact(show Tryz.prog.wantsStandIn t=E by simpa using fp.1 aC0 t P)⟩)
  aC5
end
end Go.Proofs.YtpmkfikkemaopaaGreatDoor.Y
namespace Go.Proofs.YtpmkfikkemaopaaGreatDoor
set_option maxRecDepth 100000 in
theorem deskReports_holds : Rows.DeskReportsCardSaid := Y.aEE
end Go.Proofs.YtpmkfikkemaopaaGreatDoor
