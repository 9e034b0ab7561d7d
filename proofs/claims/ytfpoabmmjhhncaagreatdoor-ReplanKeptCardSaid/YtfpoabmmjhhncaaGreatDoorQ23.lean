/- Law ReplanKept holds at this seat, as its tied card says: for all shows, desks and calls, right or not: what replan counts that a call keeps is what is counted role by role. No condition beyond the card's own. -/
import Derived.Test.YtfpoabmmjhhncaaGreatDoorQ20
import Derived.Test.YtfpoabmmjhhncaaGreatDoorQ21
import Derived.Test.YtfpoabmmjhhncaaGreatDoorQ22
import Derived.Test.YtfpoabmmjhhncaaGreatDoorTie
import Derived.Test.YtfpoabmmjhhncaaGreatDoorCards
import Derived.SevenTiedAt
set_option linter.all false
set_option maxRecDepth 100000
set_option maxHeartbeats 100000000
open Bool renaming true->J,false->E
open List renaming all_eq_true->eO
open Option renaming some->U
namespace Go.Proofs.YtfpoabmmjhhncaaGreatDoor.Y
open Go.RowKit
noncomputable section
theorem instK:Tryz.f3.isInstance Tryz.pinned.checked.prog Rows.replanKeptRow.origin Rows.replanKeptRow.targs:=uJ aL
theorem ax2:Tryz.f3.isWrapper Tryz.pinned.checked.prog Rows.replanKeptRow.wrapper Rows.replanKeptRow.mainSum:=by
 unfold Func.isWrapper;first|(rw[aE (by decide+kernel)];kernel_rfl)|(rw[aJ (by decide+kernel)];exact⟨rfl,rfl⟩)
theorem fnK:Tryz.pinned.checked.prog.funcNamed Rows.replanKeptRow.func=U 3:=aL
theorem ax7:Rows.replanKeptRow.sum=Tryz.pinned.sum:=aL
theorem nmK:Rows.replanKeptRow.program=Tryz.pinned.name:=aL
theorem aya(X:TB.Ev 4 [] (.ret [.b J]))(V:∀W,laidMetH Tryz.prog L3 W->GW W):Rows.ReplanKeptSaid:=
 OpenClaim.holds_of_wide 3 Tryz.f3 nmK ax7 rfl rfl rfl rfl rfl ⟨rfl,rfl,rfl,rfl,rfl⟩ rfl rfl rfl rfl rfl fnK Tryz.func3 awF instK ax2
  (λR started H Q _=>awh X V R started H Q)
theorem ayb:(Tryz.f3.params.toList.all λu=> !Tryz.prog.wantsStandIn u)=true:=aL
theorem ayd:Tryz.prog.funcNamed Rows.replanKeptRow.func=U 3:=aL
theorem aye:J=Tryz.pinned.checked.prog.looks []:=aL
theorem ayh:Rows.replanKeptRow.wfByText (OpenSpec.ofChange Rows.replanKeptSpec)=true:=aL
theorem ayi:Tryz.pinned.checked.prog.mainIs=U (J,"49c493963b1ca916793ecc0a9039632e081ce4c2527966040faf5026e0493388".toList):=aL
theorem ayj:E=Rows.replanKeptRow.goesBy Tryz.pinned.checked.prog:=aL
theorem ayN:Rows.ReplanKeptCardSaid:=
 Claim7.holds_tied_plain_at .later [] [.data,.data,.data] J (J,"49c493963b1ca916793ecc0a9039632e081ce4c2527966040faf5026e0493388") J
  (aya awH (λW h=>av8 h)) (λ_ h=>by cases h) ayh (λ_ h=>by cases h) Go.Proofs.YtfpoabmmjhhncaaGreatDoor.replanKept_row_tie rfl ⟨rfl,rfl⟩ ayi rfl
  (λf X V R=>by
   obtain rfl:f=3:=lf (ayd.symm.trans V)|>.symm;obtain rfl:X=Tryz.f3:=(lf (Tryz.func3.symm.trans R)).symm;exact⟨aye,λj t Q=>by
    have P:t∈Tryz.f3.params.toList:=by have:=Array.mem_of_getElem? Q;simpa using this
    exact(show Tryz.prog.wantsStandIn t=E by simpa using eO.1 ayb t P)⟩)
  ayj
end
end Go.Proofs.YtfpoabmmjhhncaaGreatDoor.Y
namespace Go.Proofs.YtfpoabmmjhhncaaGreatDoor
set_option maxRecDepth 100000 in
theorem replanKept_holds : Rows.ReplanKeptCardSaid := Y.ayN
end Go.Proofs.YtfpoabmmjhhncaaGreatDoor
