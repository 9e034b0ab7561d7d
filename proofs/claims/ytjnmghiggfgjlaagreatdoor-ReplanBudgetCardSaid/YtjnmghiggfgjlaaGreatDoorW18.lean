/- Part 18. -/
import Derived.Test.YtjnmghiggfgjlaaGreatDoorW3
import Derived.Test.YtjnmghiggfgjlaaGreatDoorRows
import Derived.JoinedOf
import Derived.KernelRfl
import Derived.ProofKit
set_option linter.all false
set_option maxRecDepth 100000
set_option maxHeartbeats 100000000
open Bool renaming true->J
open Option renaming some->U,none->Z
namespace Go.Proofs.YtjnmghiggfgjlaaGreatDoor.Y
open Go.RowKit
noncomputable section
theorem aB{a b:Bool}(h:a=J)(k:b=J):(a&&b)=true:=by rw[h,k];rfl
theorem jf0:(Rows.replanBudgetRow.wf (OpenSpec.ofChange Rows.replanBudgetSpec))=true:=by kernel_rfl
theorem jf1:(laidOutB Tryz.prog)=true:=by kernel_rfl
theorem jf2:(mapsRowed Tryz.prog)=true:=by kernel_rfl
theorem jf3:(Tryz.f5.params.all (Tryz.prog.readableRec ·))=true:=by kernel_rfl
theorem jf4:(namedTie Tryz.prog Rows.replanBudgetRow.named Rows.replanBudgetSpec.vars)=true:=by kernel_rfl
theorem jf5:(Rows.replanBudgetRow.stops==[])=true:=by kernel_rfl
theorem jf6:(Tryz.prog.stops==[])=true:=by kernel_rfl
theorem jf7:(Rows.replanBudgetRow.knobs==[])=true:=by kernel_rfl
theorem jf8:(Tryz.prog.stopKnobs==[])=true:=by kernel_rfl
theorem jf9:(Rows.replanBudgetRow.inPlace==Tryz.prog.inPlace 5)=true:=by kernel_rfl
theorem aHY:(Rows.replanBudgetRow.unfollowed==Tryz.prog.unfollowed 5)=true:=by kernel_rfl
theorem aHZ:(Rows.replanBudgetRow.recurses==Tryz.prog.recurses 5)=true:=by kernel_rfl
theorem aH0:(Rows.replanBudgetRow.named==Tryz.prog.varsNamed 5)=true:=by kernel_rfl
theorem aH1:(Rows.replanBudgetRow.maps==(Tryz.f5.params.toList++Rows.replanBudgetSpec.plain.varTypes Tryz.prog).any (Tryz.prog.mapsRec ·))=true:=by kernel_rfl
theorem aH2:(Rows.replanBudgetRow.ifaces==(Tryz.f5.params.toList++Rows.replanBudgetSpec.plain.varTypes Tryz.prog).any (Tryz.prog.ifacesRec ·))=true:=by kernel_rfl
theorem aH3:(Rows.replanBudgetRow.mapsOut==Tryz.prog.mapsAmong Tryz.f5.resultTypes.toList)=true:=by kernel_rfl
theorem aH4:(Rows.replanBudgetRow.loops==(Tryz.f5.params.toList++Rows.replanBudgetSpec.plain.varTypes Tryz.prog).any (Tryz.prog.loopsFrom ·))=true:=by kernel_rfl
theorem aH5:(Rows.replanBudgetRow.wideKeys==(Tryz.f5.params.toList++Rows.replanBudgetSpec.plain.varTypes Tryz.prog++Tryz.f5.resultTypes.toList).any (Tryz.prog.wideKeysFrom ·))=true:=by kernel_rfl
theorem aH6:(Rows.replanBudgetSpec.vars.all (Tryz.prog.varReadable ·))=true:=by kernel_rfl
theorem aH7:(Tryz.f5.resultTypes.all (λt=>Tryz.prog.readableRec t&&decide (t<Tryz.prog.types.size)))=true:=by kernel_rfl
theorem aH8:(Rows.replanBudgetRow.ifacesOut==Tryz.f5.resultTypes.toList.any (Tryz.prog.ifacesRec ·))=true:=by kernel_rfl
theorem aH9:(Rows.replanBudgetRow.loopsOut==Tryz.f5.resultTypes.toList.any (Tryz.prog.loopsFrom ·))=true:=by kernel_rfl
theorem aIa:(Rows.replanBudgetRow.plainKeys==Tryz.prog.plainKeys)=true:=by kernel_rfl
theorem aIb:(Rows.replanBudgetRow.shortTexts.isNone)=true:=by kernel_rfl
theorem aIc:(Tryz.prog.stopsHeard)=true:=by kernel_rfl
theorem aId:(Tryz.prog.mayEnter)=true:=by kernel_rfl
theorem aIe:(Rows.replanBudgetRow.lifted==Tryz.prog.liftsFinal)=true:=by kernel_rfl
theorem aIf:(Tryz.prog.make==U Rows.replanBudgetRow.make)=true:=by kernel_rfl
theorem aIg:(Rows.replanBudgetRow.kinds==(if Rows.replanBudgetRow.domain.isEmpty then[] else Tryz.f5.params.toList.map λt=>match Tryz.prog.underlying t with|U (.int k)=>U k|_=>Z))=true:=by kernel_rfl
theorem aIh:(Rows.replanBudgetRow.pinned==Rows.replanBudgetRow.pinnedBy)=true:=by kernel_rfl
theorem aIi:(Rows.replanBudgetRow.veiled==(Tryz.f5.params.toList++Rows.replanBudgetSpec.plain.varTypes Tryz.prog++Tryz.f5.resultTypes.toList).any (Tryz.prog.veiledRec ·))=true:=by kernel_rfl
theorem aIj:(Rows.replanBudgetRow.veiledFits Tryz.prog Tryz.f5.params.toList (Tryz.f5.params.toList++Rows.replanBudgetSpec.plain.varTypes Tryz.prog++Tryz.f5.resultTypes.toList))=true:=by kernel_rfl
theorem aIk:joinedFacts Tryz.pinned.checked.prog 5 Tryz.f5 Rows.replanBudgetSpec Rows.replanBudgetRow=true:=(aB (aB (aB (aB (aB (aB (aB (aB (aB (aB (aB (aB (aB (aB (aB (aB (aB (aB (aB (aB (aB (aB (aB (aB (aB (aB (aB (aB (aB (aB (aB jf0 jf1) jf2) jf3) jf4) jf5) jf6) jf7) jf8) jf9) aHY) aHZ) aH0) aH1) aH2) aH3) aH4) aH5) aH6) aH7) aH8) aH9) aIa) aIb) aIc) aId) aIe) aIf) aIg) aIh) aIi) aIj)
