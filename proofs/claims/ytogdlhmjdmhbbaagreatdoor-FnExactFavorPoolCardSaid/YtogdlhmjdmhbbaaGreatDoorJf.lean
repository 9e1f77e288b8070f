/- The closed facts of the row -/
import Derived.Test.YtogdlhmjdmhbbaaGreatDoorRows
import Derived.ProofKit
set_option linter.unusedVariables false
set_option linter.unusedSimpArgs false
set_option maxRecDepth 100000
namespace Go.Proofs.YtogdlhmjdmhbbaaGreatDoor.fnExactFavorPool
open Go.ChangeShapes Go.WideShapes Go.ChangeAt Go.RowKit
theorem and2 {a b:Bool} (h:a=true) (k:b=true):(a&&b)=true:=by rw[h,k];rfl
theorem k0:Rows.fnExactFavorPoolRow.wf (OpenSpec.ofChange Rows.fnExactFavorPoolSpec)=true:=by kernel_rfl
theorem k1:laidOutB Tryz.prog=true:=by kernel_rfl
theorem k2:mapsRowed Tryz.prog=true:=by kernel_rfl
theorem k3:Tryz.f8.params.all (Tryz.prog.readableRec ·)=true:=by kernel_rfl
theorem k4:namedTie Tryz.prog Rows.fnExactFavorPoolRow.named Rows.fnExactFavorPoolSpec.vars=true:=by kernel_rfl
theorem k5:(Rows.fnExactFavorPoolRow.stops == [])=true:=by kernel_rfl
theorem k6:(Tryz.prog.stops == [])=true:=by kernel_rfl
theorem k7:(Rows.fnExactFavorPoolRow.knobs == [])=true:=by kernel_rfl
theorem k8:(Tryz.prog.stopKnobs == [])=true:=by kernel_rfl
theorem k9:(Rows.fnExactFavorPoolRow.inPlace == Tryz.prog.inPlace 8)=true:=by kernel_rfl
theorem k10:(Rows.fnExactFavorPoolRow.unfollowed == Tryz.prog.unfollowed 8)=true:=by kernel_rfl
theorem k11:(Rows.fnExactFavorPoolRow.recurses == Tryz.prog.recurses 8)=true:=by kernel_rfl
theorem k12:(Rows.fnExactFavorPoolRow.named == Tryz.prog.varsNamed 8)=true:=by kernel_rfl
theorem k13:(Rows.fnExactFavorPoolRow.maps == (Tryz.f8.params.toList++Rows.fnExactFavorPoolSpec.plain.varTypes Tryz.prog).any (Tryz.prog.mapsRec ·))=true:=by kernel_rfl
theorem k14:(Rows.fnExactFavorPoolRow.ifaces == (Tryz.f8.params.toList++Rows.fnExactFavorPoolSpec.plain.varTypes Tryz.prog).any (Tryz.prog.ifacesRec ·))=true:=by kernel_rfl
theorem k15:(Rows.fnExactFavorPoolRow.mapsOut == Tryz.prog.mapsAmong Tryz.f8.resultTypes.toList)=true:=by kernel_rfl
theorem k16:(Rows.fnExactFavorPoolRow.loops == (Tryz.f8.params.toList++Rows.fnExactFavorPoolSpec.plain.varTypes Tryz.prog).any (Tryz.prog.loopsFrom ·))=true:=by kernel_rfl
theorem k17:(Rows.fnExactFavorPoolRow.wideKeys == (Tryz.f8.params.toList++Rows.fnExactFavorPoolSpec.plain.varTypes Tryz.prog++Tryz.f8.resultTypes.toList).any (Tryz.prog.wideKeysFrom ·))=true:=by kernel_rfl
theorem k18:Rows.fnExactFavorPoolSpec.vars.all (Tryz.prog.varReadable ·)=true:=by kernel_rfl
theorem k19:Tryz.f8.resultTypes.all (fun t=>Tryz.prog.readableRec t&&decide (t<Tryz.prog.types.size))=true:=by kernel_rfl
theorem k20:(Rows.fnExactFavorPoolRow.ifacesOut == Tryz.f8.resultTypes.toList.any (Tryz.prog.ifacesRec ·))=true:=by kernel_rfl
theorem k21:(Rows.fnExactFavorPoolRow.loopsOut == Tryz.f8.resultTypes.toList.any (Tryz.prog.loopsFrom ·))=true:=by kernel_rfl
theorem k22:(Rows.fnExactFavorPoolRow.plainKeys == Tryz.prog.plainKeys)=true:=by kernel_rfl
theorem k23:Rows.fnExactFavorPoolRow.shortTexts.isNone=true:=by kernel_rfl
theorem k24:Tryz.prog.stopsHeard=true:=by kernel_rfl
theorem k25:Tryz.prog.mayEnter=true:=by kernel_rfl
theorem k26:(Rows.fnExactFavorPoolRow.lifted == Tryz.prog.liftsFinal)=true:=by kernel_rfl
theorem k27:(Tryz.prog.make == some Rows.fnExactFavorPoolRow.make)=true:=by kernel_rfl
theorem k28:(Rows.fnExactFavorPoolRow.kinds == (if Rows.fnExactFavorPoolRow.domain.isEmpty then [] else Tryz.f8.params.toList.map fun t=>match Tryz.prog.underlying t with | some (.int k)=>some k | _=>none))=true:=by kernel_rfl
theorem k29:(Rows.fnExactFavorPoolRow.pinned == Rows.fnExactFavorPoolRow.pinnedBy)=true:=by kernel_rfl
theorem k30:(Rows.fnExactFavorPoolRow.veiled == (Tryz.f8.params.toList++Rows.fnExactFavorPoolSpec.plain.varTypes Tryz.prog++Tryz.f8.resultTypes.toList).any (Tryz.prog.veiledRec ·))=true:=by kernel_rfl
theorem k31:Rows.fnExactFavorPoolRow.veiledFits Tryz.prog Tryz.f8.params.toList (Tryz.f8.params.toList++Rows.fnExactFavorPoolSpec.plain.varTypes Tryz.prog++Tryz.f8.resultTypes.toList)=true:=by kernel_rfl
theorem closed:joinedFacts Tryz.prog 8 Tryz.f8 Rows.fnExactFavorPoolSpec Rows.fnExactFavorPoolRow=true:=(and2 (and2 (and2 (and2 (and2 (and2 (and2 (and2 (and2 (and2 (and2 (and2 (and2 (and2 (and2 (and2 (and2 (and2 (and2 (and2 (and2 (and2 (and2 (and2 (and2 (and2 (and2 (and2 (and2 (and2 (and2 k0 k1) k2) k3) k4) k5) k6) k7) k8) k9) k10) k11) k12) k13) k14) k15) k16) k17) k18) k19) k20) k21) k22) k23) k24) k25) k26) k27) k28) k29) k30) k31)
end Go.Proofs.YtogdlhmjdmhbbaaGreatDoor.fnExactFavorPool
