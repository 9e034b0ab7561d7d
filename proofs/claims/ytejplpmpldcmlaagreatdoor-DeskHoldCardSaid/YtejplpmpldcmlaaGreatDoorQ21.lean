/- Part 21 of the proof. -/
import Derived.Test.YtejplpmpldcmlaaGreatDoorQ3
import Derived.Test.YtejplpmpldcmlaaGreatDoorRows
import Derived.JoinedOf
import Derived.KernelRfl
import Derived.ProofKit
set_option linter.all false
set_option maxRecDepth 100000
set_option maxHeartbeats 100000000
open Bool renaming true->J
open Option renaming some->U,none->Z
namespace Go.Proofs.YtejplpmpldcmlaaGreatDoor.Y
open Go.RowKit
noncomputable section
theorem aB{a b:Bool}(h:a=J)(k:b=J):(a&&b)=true:=by rw[h,k];rfl
theorem jf0:(Rows.deskHoldRow.wf (OpenSpec.ofChange Rows.deskHoldSpec))=true:=by kernel_rfl
theorem jf1:(laidOutB Tryz.prog)=true:=by kernel_rfl
theorem jf2:(mapsRowed Tryz.prog)=true:=by kernel_rfl
theorem jf3:(Tryz.f3.params.all (Tryz.prog.readableRec ·))=true:=by kernel_rfl
theorem jf4:(namedTie Tryz.prog Rows.deskHoldRow.named Rows.deskHoldSpec.vars)=true:=by kernel_rfl
theorem jf5:(Rows.deskHoldRow.stops==[])=true:=by kernel_rfl
theorem jf6:(Tryz.prog.stops==[])=true:=by kernel_rfl
theorem jf7:(Rows.deskHoldRow.knobs==[])=true:=by kernel_rfl
theorem jf8:(Tryz.prog.stopKnobs==[])=true:=by kernel_rfl
theorem jf9:(Rows.deskHoldRow.inPlace==Tryz.prog.inPlace 3)=true:=by kernel_rfl
theorem aHy:(Rows.deskHoldRow.unfollowed==Tryz.prog.unfollowed 3)=true:=by kernel_rfl
theorem aHz:(Rows.deskHoldRow.recurses==Tryz.prog.recurses 3)=true:=by kernel_rfl
theorem aHA:(Rows.deskHoldRow.named==Tryz.prog.varsNamed 3)=true:=by kernel_rfl
theorem aHB:(Rows.deskHoldRow.maps==(Tryz.f3.params.toList++Rows.deskHoldSpec.plain.varTypes Tryz.prog).any (Tryz.prog.mapsRec ·))=true:=by kernel_rfl
theorem aHC:(Rows.deskHoldRow.ifaces==(Tryz.f3.params.toList++Rows.deskHoldSpec.plain.varTypes Tryz.prog).any (Tryz.prog.ifacesRec ·))=true:=by kernel_rfl
theorem aHD:(Rows.deskHoldRow.mapsOut==Tryz.prog.mapsAmong Tryz.f3.resultTypes.toList)=true:=by kernel_rfl
theorem aHE:(Rows.deskHoldRow.loops==(Tryz.f3.params.toList++Rows.deskHoldSpec.plain.varTypes Tryz.prog).any (Tryz.prog.loopsFrom ·))=true:=by kernel_rfl
theorem aHF:(Rows.deskHoldRow.wideKeys==(Tryz.f3.params.toList++Rows.deskHoldSpec.plain.varTypes Tryz.prog++Tryz.f3.resultTypes.toList).any (Tryz.prog.wideKeysFrom ·))=true:=by kernel_rfl
theorem aHG:(Rows.deskHoldSpec.vars.all (Tryz.prog.varReadable ·))=true:=by kernel_rfl
theorem aHH:(Tryz.f3.resultTypes.all (λt=>Tryz.prog.readableRec t&&decide (t<Tryz.prog.types.size)))=true:=by kernel_rfl
theorem aHI:(Rows.deskHoldRow.ifacesOut==Tryz.f3.resultTypes.toList.any (Tryz.prog.ifacesRec ·))=true:=by kernel_rfl
theorem aHJ:(Rows.deskHoldRow.loopsOut==Tryz.f3.resultTypes.toList.any (Tryz.prog.loopsFrom ·))=true:=by kernel_rfl
theorem aHK:(Rows.deskHoldRow.plainKeys==Tryz.prog.plainKeys)=true:=by kernel_rfl
theorem aHL:(Rows.deskHoldRow.shortTexts.isNone)=true:=by kernel_rfl
theorem aHM:(Tryz.prog.stopsHeard)=true:=by kernel_rfl
theorem aHN:(Tryz.prog.mayEnter)=true:=by kernel_rfl
theorem aHO:(Rows.deskHoldRow.lifted==Tryz.prog.liftsFinal)=true:=by kernel_rfl
theorem aHP:(Tryz.prog.make==U Rows.deskHoldRow.make)=true:=by kernel_rfl
theorem aHQ:(Rows.deskHoldRow.kinds==(if Rows.deskHoldRow.domain.isEmpty then[] else Tryz.f3.params.toList.map λt=>match Tryz.prog.underlying t with|U (.int k)=>U k|_=>Z))=true:=by kernel_rfl
theorem aHR:(Rows.deskHoldRow.pinned==Rows.deskHoldRow.pinnedBy)=true:=by kernel_rfl
theorem aHS:(Rows.deskHoldRow.veiled==(Tryz.f3.params.toList++Rows.deskHoldSpec.plain.varTypes Tryz.prog++Tryz.f3.resultTypes.toList).any (Tryz.prog.veiledRec ·))=true:=by kernel_rfl
theorem aHT:(Rows.deskHoldRow.veiledFits Tryz.prog Tryz.f3.params.toList (Tryz.f3.params.toList++Rows.deskHoldSpec.plain.varTypes Tryz.prog++Tryz.f3.resultTypes.toList))=true:=by kernel_rfl
theorem aHU:joinedFacts Tryz.pinned.checked.prog 3 Tryz.f3 Rows.deskHoldSpec Rows.deskHoldRow=true:=(aB (aB (aB (aB (aB (aB (aB (aB (aB (aB (aB (aB (aB (aB (aB (aB (aB (aB (aB (aB (aB (aB (aB (aB (aB (aB (aB (aB (aB (aB (aB jf0 jf1) jf2) jf3) jf4) jf5) jf6) jf7) jf8) jf9) aHy) aHz) aHA) aHB) aHC) aHD) aHE) aHF) aHG) aHH) aHI) aHJ) aHK) aHL) aHM) aHN) aHO) aHP) aHQ) aHR) aHS) aHT)
