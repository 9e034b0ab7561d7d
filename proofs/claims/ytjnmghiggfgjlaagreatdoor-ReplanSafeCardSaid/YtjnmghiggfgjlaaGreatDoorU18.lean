/- Part 18. -/
import Derived.Test.YtjnmghiggfgjlaaGreatDoorU3
import Derived.Test.YtjnmghiggfgjlaaGreatDoorRows
import Derived.JoinedOf
import Derived.KernelRfl
import Derived.ProofKit
set_option linter.all false
set_option maxRecDepth 100000
set_option maxHeartbeats 100000000
open Bool renaming true->J
open Option renaming some->U,none->Z
namespace Go.Proofs.YtjnmghiggfgjlaaGreatDoor.Y
open Go.RowKit
noncomputable section
theorem aB{a b:Bool}(h:a=J)(k:b=J):(a&&b)=true:=by rw[h,k];rfl
theorem jf0:(Rows.replanSafeRow.wf (OpenSpec.ofChange Rows.replanSafeSpec))=true:=by kernel_rfl
theorem jf1:(laidOutB Tryz.prog)=true:=by kernel_rfl
theorem jf2:(mapsRowed Tryz.prog)=true:=by kernel_rfl
theorem jf3:(Tryz.f3.params.all (Tryz.prog.readableRec ·))=true:=by kernel_rfl
theorem jf4:(namedTie Tryz.prog Rows.replanSafeRow.named Rows.replanSafeSpec.vars)=true:=by kernel_rfl
theorem jf5:(Rows.replanSafeRow.stops==[])=true:=by kernel_rfl
theorem jf6:(Tryz.prog.stops==[])=true:=by kernel_rfl
theorem jf7:(Rows.replanSafeRow.knobs==[])=true:=by kernel_rfl
theorem jf8:(Tryz.prog.stopKnobs==[])=true:=by kernel_rfl
theorem jf9:(Rows.replanSafeRow.inPlace==Tryz.prog.inPlace 3)=true:=by kernel_rfl
theorem aIf:(Rows.replanSafeRow.unfollowed==Tryz.prog.unfollowed 3)=true:=by kernel_rfl
theorem aIg:(Rows.replanSafeRow.recurses==Tryz.prog.recurses 3)=true:=by kernel_rfl
theorem aIh:(Rows.replanSafeRow.named==Tryz.prog.varsNamed 3)=true:=by kernel_rfl
theorem aIi:(Rows.replanSafeRow.maps==(Tryz.f3.params.toList++Rows.replanSafeSpec.plain.varTypes Tryz.prog).any (Tryz.prog.mapsRec ·))=true:=by kernel_rfl
theorem aIj:(Rows.replanSafeRow.ifaces==(Tryz.f3.params.toList++Rows.replanSafeSpec.plain.varTypes Tryz.prog).any (Tryz.prog.ifacesRec ·))=true:=by kernel_rfl
theorem aIk:(Rows.replanSafeRow.mapsOut==Tryz.prog.mapsAmong Tryz.f3.resultTypes.toList)=true:=by kernel_rfl
theorem aIl:(Rows.replanSafeRow.loops==(Tryz.f3.params.toList++Rows.replanSafeSpec.plain.varTypes Tryz.prog).any (Tryz.prog.loopsFrom ·))=true:=by kernel_rfl
theorem aIm:(Rows.replanSafeRow.wideKeys==(Tryz.f3.params.toList++Rows.replanSafeSpec.plain.varTypes Tryz.prog++Tryz.f3.resultTypes.toList).any (Tryz.prog.wideKeysFrom ·))=true:=by kernel_rfl
theorem aIn:(Rows.replanSafeSpec.vars.all (Tryz.prog.varReadable ·))=true:=by kernel_rfl
theorem aIo:(Tryz.f3.resultTypes.all (λt=>Tryz.prog.readableRec t&&decide (t<Tryz.prog.types.size)))=true:=by kernel_rfl
theorem aIp:(Rows.replanSafeRow.ifacesOut==Tryz.f3.resultTypes.toList.any (Tryz.prog.ifacesRec ·))=true:=by kernel_rfl
theorem aIq:(Rows.replanSafeRow.loopsOut==Tryz.f3.resultTypes.toList.any (Tryz.prog.loopsFrom ·))=true:=by kernel_rfl
theorem aIr:(Rows.replanSafeRow.plainKeys==Tryz.prog.plainKeys)=true:=by kernel_rfl
theorem aIs:(Rows.replanSafeRow.shortTexts.isNone)=true:=by kernel_rfl
theorem aIt:(Tryz.prog.stopsHeard)=true:=by kernel_rfl
theorem aIu:(Tryz.prog.mayEnter)=true:=by kernel_rfl
theorem aIv:(Rows.replanSafeRow.lifted==Tryz.prog.liftsFinal)=true:=by kernel_rfl
theorem aIw:(Tryz.prog.make==U Rows.replanSafeRow.make)=true:=by kernel_rfl
theorem aIx:(Rows.replanSafeRow.kinds==(if Rows.replanSafeRow.domain.isEmpty then[] else Tryz.f3.params.toList.map λt=>match Tryz.prog.underlying t with|U (.int k)=>U k|_=>Z))=true:=by kernel_rfl
theorem aIy:(Rows.replanSafeRow.pinned==Rows.replanSafeRow.pinnedBy)=true:=by kernel_rfl
theorem aIz:(Rows.replanSafeRow.veiled==(Tryz.f3.params.toList++Rows.replanSafeSpec.plain.varTypes Tryz.prog++Tryz.f3.resultTypes.toList).any (Tryz.prog.veiledRec ·))=true:=by kernel_rfl
theorem aIA:(Rows.replanSafeRow.veiledFits Tryz.prog Tryz.f3.params.toList (Tryz.f3.params.toList++Rows.replanSafeSpec.plain.varTypes Tryz.prog++Tryz.f3.resultTypes.toList))=true:=by kernel_rfl
theorem aIB:joinedFacts Tryz.pinned.checked.prog 3 Tryz.f3 Rows.replanSafeSpec Rows.replanSafeRow=true:=(aB (aB (aB (aB (aB (aB (aB (aB (aB (aB (aB (aB (aB (aB (aB (aB (aB (aB (aB (aB (aB (aB (aB (aB (aB (aB (aB (aB (aB (aB (aB jf0 jf1) jf2) jf3) jf4) jf5) jf6) jf7) jf8) jf9) aIf) aIg) aIh) aIi) aIj) aIk) aIl) aIm) aIn) aIo) aIp) aIq) aIr) aIs) aIt) aIu) aIv) aIw) aIx) aIy) aIz) aIA)
