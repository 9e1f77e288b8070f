/- The closed facts of the row -/
import Derived.Test.YtogdlhmjdmhbbaaGreatDoorRows
import Derived.ProofKit
set_option linter.unusedVariables false
set_option linter.unusedSimpArgs false
set_option maxRecDepth 100000
namespace Go.Proofs.YtogdlhmjdmhbbaaGreatDoor.fnExactTrimPool
open Go.ChangeShapes Go.WideShapes Go.ChangeAt Go.RowKit
theorem and2 {a b:Bool} (h:a=true) (k:b=true):(a&&b)=true:=by rw[h,k];rfl
theorem k0:Rows.fnExactTrimPoolRow.wf (OpenSpec.ofChange Rows.fnExactTrimPoolSpec)=true:=by kernel_rfl
theorem k1:laidOutB Tryz.prog=true:=by kernel_rfl
theorem k2:mapsRowed Tryz.prog=true:=by kernel_rfl
theorem k3:Tryz.f5.params.all (Tryz.prog.readableRec ·)=true:=by kernel_rfl
theorem k4:namedTie Tryz.prog Rows.fnExactTrimPoolRow.named Rows.fnExactTrimPoolSpec.vars=true:=by kernel_rfl
theorem k5:(Rows.fnExactTrimPoolRow.stops == [])=true:=by kernel_rfl
theorem k6:(Tryz.prog.stops == [])=true:=by kernel_rfl
theorem k7:(Rows.fnExactTrimPoolRow.knobs == [])=true:=by kernel_rfl
theorem k8:(Tryz.prog.stopKnobs == [])=true:=by kernel_rfl
theorem k9:(Rows.fnExactTrimPoolRow.inPlace == Tryz.prog.inPlace 5)=true:=by kernel_rfl
theorem k10:(Rows.fnExactTrimPoolRow.unfollowed == Tryz.prog.unfollowed 5)=true:=by kernel_rfl
theorem k11:(Rows.fnExactTrimPoolRow.recurses == Tryz.prog.recurses 5)=true:=by kernel_rfl
theorem k12:(Rows.fnExactTrimPoolRow.named == Tryz.prog.varsNamed 5)=true:=by kernel_rfl
theorem k13:(Rows.fnExactTrimPoolRow.maps == (Tryz.f5.params.toList++Rows.fnExactTrimPoolSpec.plain.varTypes Tryz.prog).any (Tryz.prog.mapsRec ·))=true:=by kernel_rfl
theorem k14:(Rows.fnExactTrimPoolRow.ifaces == (Tryz.f5.params.toList++Rows.fnExactTrimPoolSpec.plain.varTypes Tryz.prog).any (Tryz.prog.ifacesRec ·))=true:=by kernel_rfl
theorem k15:(Rows.fnExactTrimPoolRow.mapsOut == Tryz.prog.mapsAmong Tryz.f5.resultTypes.toList)=true:=by kernel_rfl
theorem k16:(Rows.fnExactTrimPoolRow.loops == (Tryz.f5.params.toList++Rows.fnExactTrimPoolSpec.plain.varTypes Tryz.prog).any (Tryz.prog.loopsFrom ·))=true:=by kernel_rfl
theorem k17:(Rows.fnExactTrimPoolRow.wideKeys == (Tryz.f5.params.toList++Rows.fnExactTrimPoolSpec.plain.varTypes Tryz.prog++Tryz.f5.resultTypes.toList).any (Tryz.prog.wideKeysFrom ·))=true:=by kernel_rfl
theorem k18:Rows.fnExactTrimPoolSpec.vars.all (Tryz.prog.varReadable ·)=true:=by kernel_rfl
theorem k19:Tryz.f5.resultTypes.all (fun t=>Tryz.prog.readableRec t&&decide (t<Tryz.prog.types.size))=true:=by kernel_rfl
theorem k20:(Rows.fnExactTrimPoolRow.ifacesOut == Tryz.f5.resultTypes.toList.any (Tryz.prog.ifacesRec ·))=true:=by kernel_rfl
theorem k21:(Rows.fnExactTrimPoolRow.loopsOut == Tryz.f5.resultTypes.toList.any (Tryz.prog.loopsFrom ·))=true:=by kernel_rfl
theorem k22:(Rows.fnExactTrimPoolRow.plainKeys == Tryz.prog.plainKeys)=true:=by kernel_rfl
theorem k23:Rows.fnExactTrimPoolRow.shortTexts.isNone=true:=by kernel_rfl
theorem k24:Tryz.prog.stopsHeard=true:=by kernel_rfl
theorem k25:Tryz.prog.mayEnter=true:=by kernel_rfl
theorem k26:(Rows.fnExactTrimPoolRow.lifted == Tryz.prog.liftsFinal)=true:=by kernel_rfl
theorem k27:(Tryz.prog.make == some Rows.fnExactTrimPoolRow.make)=true:=by kernel_rfl
theorem k28:(Rows.fnExactTrimPoolRow.kinds == (if Rows.fnExactTrimPoolRow.domain.isEmpty then [] else Tryz.f5.params.toList.map fun t=>match Tryz.prog.underlying t with | some (.int k)=>some k | _=>none))=true:=by kernel_rfl
theorem k29:(Rows.fnExactTrimPoolRow.pinned == Rows.fnExactTrimPoolRow.pinnedBy)=true:=by kernel_rfl
theorem k30:(Rows.fnExactTrimPoolRow.veiled == (Tryz.f5.params.toList++Rows.fnExactTrimPoolSpec.plain.varTypes Tryz.prog++Tryz.f5.resultTypes.toList).any (Tryz.prog.veiledRec ·))=true:=by kernel_rfl
theorem k31:Rows.fnExactTrimPoolRow.veiledFits Tryz.prog Tryz.f5.params.toList (Tryz.f5.params.toList++Rows.fnExactTrimPoolSpec.plain.varTypes Tryz.prog++Tryz.f5.resultTypes.toList)=true:=by kernel_rfl
theorem closed:joinedFacts Tryz.prog 5 Tryz.f5 Rows.fnExactTrimPoolSpec Rows.fnExactTrimPoolRow=true:=(and2 (and2 (and2 (and2 (and2 (and2 (and2 (and2 (and2 (and2 (and2 (and2 (and2 (and2 (and2 (and2 (and2 (and2 (and2 (and2 (and2 (and2 (and2 (and2 (and2 (and2 (and2 (and2 (and2 (and2 (and2 k0 k1) k2) k3) k4) k5) k6) k7) k8) k9) k10) k11) k12) k13) k14) k15) k16) k17) k18) k19) k20) k21) k22) k23) k24) k25) k26) k27) k28) k29) k30) k31)
end Go.Proofs.YtogdlhmjdmhbbaaGreatDoor.fnExactTrimPool
