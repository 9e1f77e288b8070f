/- The closed facts of the row -/
import Derived.Test.YtogdlhmjdmhbbaaGreatDoorRows
import Derived.ProofKit
set_option linter.unusedVariables false
set_option linter.unusedSimpArgs false
set_option maxRecDepth 100000
namespace Go.Proofs.YtogdlhmjdmhbbaaGreatDoor.fnExactAddPool
open Go.ChangeShapes Go.WideShapes Go.ChangeAt Go.RowKit
theorem and2 {a b:Bool} (h:a=true) (k:b=true):(a&&b)=true:=by rw[h,k];rfl
theorem k0:Rows.fnExactAddPoolRow.wf (OpenSpec.ofChange Rows.fnExactAddPoolSpec)=true:=by kernel_rfl
theorem k1:laidOutB Tryz.prog=true:=by kernel_rfl
theorem k2:mapsRowed Tryz.prog=true:=by kernel_rfl
theorem k3:Tryz.f6.params.all (Tryz.prog.readableRec ·)=true:=by kernel_rfl
theorem k4:namedTie Tryz.prog Rows.fnExactAddPoolRow.named Rows.fnExactAddPoolSpec.vars=true:=by kernel_rfl
theorem k5:(Rows.fnExactAddPoolRow.stops == [])=true:=by kernel_rfl
theorem k6:(Tryz.prog.stops == [])=true:=by kernel_rfl
theorem k7:(Rows.fnExactAddPoolRow.knobs == [])=true:=by kernel_rfl
theorem k8:(Tryz.prog.stopKnobs == [])=true:=by kernel_rfl
theorem k9:(Rows.fnExactAddPoolRow.inPlace == Tryz.prog.inPlace 6)=true:=by kernel_rfl
theorem k10:(Rows.fnExactAddPoolRow.unfollowed == Tryz.prog.unfollowed 6)=true:=by kernel_rfl
theorem k11:(Rows.fnExactAddPoolRow.recurses == Tryz.prog.recurses 6)=true:=by kernel_rfl
theorem k12:(Rows.fnExactAddPoolRow.named == Tryz.prog.varsNamed 6)=true:=by kernel_rfl
theorem k13:(Rows.fnExactAddPoolRow.maps == (Tryz.f6.params.toList++Rows.fnExactAddPoolSpec.plain.varTypes Tryz.prog).any (Tryz.prog.mapsRec ·))=true:=by kernel_rfl
theorem k14:(Rows.fnExactAddPoolRow.ifaces == (Tryz.f6.params.toList++Rows.fnExactAddPoolSpec.plain.varTypes Tryz.prog).any (Tryz.prog.ifacesRec ·))=true:=by kernel_rfl
theorem k15:(Rows.fnExactAddPoolRow.mapsOut == Tryz.prog.mapsAmong Tryz.f6.resultTypes.toList)=true:=by kernel_rfl
theorem k16:(Rows.fnExactAddPoolRow.loops == (Tryz.f6.params.toList++Rows.fnExactAddPoolSpec.plain.varTypes Tryz.prog).any (Tryz.prog.loopsFrom ·))=true:=by kernel_rfl
theorem k17:(Rows.fnExactAddPoolRow.wideKeys == (Tryz.f6.params.toList++Rows.fnExactAddPoolSpec.plain.varTypes Tryz.prog++Tryz.f6.resultTypes.toList).any (Tryz.prog.wideKeysFrom ·))=true:=by kernel_rfl
theorem k18:Rows.fnExactAddPoolSpec.vars.all (Tryz.prog.varReadable ·)=true:=by kernel_rfl
theorem k19:Tryz.f6.resultTypes.all (fun t=>Tryz.prog.readableRec t&&decide (t<Tryz.prog.types.size))=true:=by kernel_rfl
theorem k20:(Rows.fnExactAddPoolRow.ifacesOut == Tryz.f6.resultTypes.toList.any (Tryz.prog.ifacesRec ·))=true:=by kernel_rfl
theorem k21:(Rows.fnExactAddPoolRow.loopsOut == Tryz.f6.resultTypes.toList.any (Tryz.prog.loopsFrom ·))=true:=by kernel_rfl
theorem k22:(Rows.fnExactAddPoolRow.plainKeys == Tryz.prog.plainKeys)=true:=by kernel_rfl
theorem k23:Rows.fnExactAddPoolRow.shortTexts.isNone=true:=by kernel_rfl
theorem k24:Tryz.prog.stopsHeard=true:=by kernel_rfl
theorem k25:Tryz.prog.mayEnter=true:=by kernel_rfl
theorem k26:(Rows.fnExactAddPoolRow.lifted == Tryz.prog.liftsFinal)=true:=by kernel_rfl
theorem k27:(Tryz.prog.make == some Rows.fnExactAddPoolRow.make)=true:=by kernel_rfl
theorem k28:(Rows.fnExactAddPoolRow.kinds == (if Rows.fnExactAddPoolRow.domain.isEmpty then [] else Tryz.f6.params.toList.map fun t=>match Tryz.prog.underlying t with | some (.int k)=>some k | _=>none))=true:=by kernel_rfl
theorem k29:(Rows.fnExactAddPoolRow.pinned == Rows.fnExactAddPoolRow.pinnedBy)=true:=by kernel_rfl
theorem k30:(Rows.fnExactAddPoolRow.veiled == (Tryz.f6.params.toList++Rows.fnExactAddPoolSpec.plain.varTypes Tryz.prog++Tryz.f6.resultTypes.toList).any (Tryz.prog.veiledRec ·))=true:=by kernel_rfl
theorem k31:Rows.fnExactAddPoolRow.veiledFits Tryz.prog Tryz.f6.params.toList (Tryz.f6.params.toList++Rows.fnExactAddPoolSpec.plain.varTypes Tryz.prog++Tryz.f6.resultTypes.toList)=true:=by kernel_rfl
theorem closed:joinedFacts Tryz.prog 6 Tryz.f6 Rows.fnExactAddPoolSpec Rows.fnExactAddPoolRow=true:=(and2 (and2 (and2 (and2 (and2 (and2 (and2 (and2 (and2 (and2 (and2 (and2 (and2 (and2 (and2 (and2 (and2 (and2 (and2 (and2 (and2 (and2 (and2 (and2 (and2 (and2 (and2 (and2 (and2 (and2 (and2 k0 k1) k2) k3) k4) k5) k6) k7) k8) k9) k10) k11) k12) k13) k14) k15) k16) k17) k18) k19) k20) k21) k22) k23) k24) k25) k26) k27) k28) k29) k30) k31)
end Go.Proofs.YtogdlhmjdmhbbaaGreatDoor.fnExactAddPool
