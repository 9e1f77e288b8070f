/- The closed facts of the row -/
import Derived.Test.YtoopijohnkgagaaDoorRows
import Derived.ProofKit
set_option linter.unusedVariables false
set_option linter.unusedSimpArgs false
set_option maxRecDepth 100000
namespace Go.Proofs.YtoopijohnkgagaaDoor.fnExactCoinsText
open Go.ChangeShapes Go.WideShapes Go.ChangeAt Go.RowKit
theorem and2 {a b:Bool} (h:a=true) (k:b=true):(a&&b)=true:=by rw[h,k];rfl
theorem k0:Rows.fnExactCoinsTextRow.wf (OpenSpec.ofChange Rows.fnExactCoinsTextSpec)=true:=by kernel_rfl
theorem k1:laidOutB Tryd.prog=true:=by kernel_rfl
theorem k2:mapsRowed Tryd.prog=true:=by kernel_rfl
theorem k3:Tryd.f4.params.all (Tryd.prog.readableRec ·)=true:=by kernel_rfl
theorem k4:namedTie Tryd.prog Rows.fnExactCoinsTextRow.named Rows.fnExactCoinsTextSpec.vars=true:=by kernel_rfl
theorem k5:(Rows.fnExactCoinsTextRow.stops == [])=true:=by kernel_rfl
theorem k6:(Tryd.prog.stops == [])=true:=by kernel_rfl
theorem k7:(Rows.fnExactCoinsTextRow.knobs == [])=true:=by kernel_rfl
theorem k8:(Tryd.prog.stopKnobs == [])=true:=by kernel_rfl
theorem k9:(Rows.fnExactCoinsTextRow.inPlace == Tryd.prog.inPlace 4)=true:=by kernel_rfl
theorem k10:(Rows.fnExactCoinsTextRow.unfollowed == Tryd.prog.unfollowed 4)=true:=by kernel_rfl
theorem k11:(Rows.fnExactCoinsTextRow.recurses == Tryd.prog.recurses 4)=true:=by kernel_rfl
theorem k12:(Rows.fnExactCoinsTextRow.named == Tryd.prog.varsNamed 4)=true:=by kernel_rfl
theorem k13:(Rows.fnExactCoinsTextRow.maps == (Tryd.f4.params.toList++Rows.fnExactCoinsTextSpec.plain.varTypes Tryd.prog).any (Tryd.prog.mapsRec ·))=true:=by kernel_rfl
theorem k14:(Rows.fnExactCoinsTextRow.ifaces == (Tryd.f4.params.toList++Rows.fnExactCoinsTextSpec.plain.varTypes Tryd.prog).any (Tryd.prog.ifacesRec ·))=true:=by kernel_rfl
theorem k15:(Rows.fnExactCoinsTextRow.mapsOut == Tryd.prog.mapsAmong Tryd.f4.resultTypes.toList)=true:=by kernel_rfl
theorem k16:(Rows.fnExactCoinsTextRow.loops == (Tryd.f4.params.toList++Rows.fnExactCoinsTextSpec.plain.varTypes Tryd.prog).any (Tryd.prog.loopsFrom ·))=true:=by kernel_rfl
theorem k17:(Rows.fnExactCoinsTextRow.wideKeys == (Tryd.f4.params.toList++Rows.fnExactCoinsTextSpec.plain.varTypes Tryd.prog++Tryd.f4.resultTypes.toList).any (Tryd.prog.wideKeysFrom ·))=true:=by kernel_rfl
theorem k18:Rows.fnExactCoinsTextSpec.vars.all (Tryd.prog.varReadable ·)=true:=by kernel_rfl
theorem k19:Tryd.f4.resultTypes.all (fun t=>Tryd.prog.readableRec t&&decide (t<Tryd.prog.types.size))=true:=by kernel_rfl
theorem k20:(Rows.fnExactCoinsTextRow.ifacesOut == Tryd.f4.resultTypes.toList.any (Tryd.prog.ifacesRec ·))=true:=by kernel_rfl
theorem k21:(Rows.fnExactCoinsTextRow.loopsOut == Tryd.f4.resultTypes.toList.any (Tryd.prog.loopsFrom ·))=true:=by kernel_rfl
theorem k22:(Rows.fnExactCoinsTextRow.plainKeys == Tryd.prog.plainKeys)=true:=by kernel_rfl
theorem k23:Rows.fnExactCoinsTextRow.shortTexts.isNone=true:=by kernel_rfl
theorem k24:Tryd.prog.stopsHeard=true:=by kernel_rfl
theorem k25:Tryd.prog.mayEnter=true:=by kernel_rfl
theorem k26:(Rows.fnExactCoinsTextRow.lifted == Tryd.prog.liftsFinal)=true:=by kernel_rfl
theorem k27:(Tryd.prog.make == some Rows.fnExactCoinsTextRow.make)=true:=by kernel_rfl
theorem k28:(Rows.fnExactCoinsTextRow.kinds == (if Rows.fnExactCoinsTextRow.domain.isEmpty then [] else Tryd.f4.params.toList.map fun t=>match Tryd.prog.underlying t with | some (.int k)=>some k | _=>none))=true:=by kernel_rfl
theorem k29:(Rows.fnExactCoinsTextRow.pinned == Rows.fnExactCoinsTextRow.pinnedBy)=true:=by kernel_rfl
theorem k30:(Rows.fnExactCoinsTextRow.veiled == (Tryd.f4.params.toList++Rows.fnExactCoinsTextSpec.plain.varTypes Tryd.prog++Tryd.f4.resultTypes.toList).any (Tryd.prog.veiledRec ·))=true:=by kernel_rfl
theorem k31:Rows.fnExactCoinsTextRow.veiledFits Tryd.prog Tryd.f4.params.toList (Tryd.f4.params.toList++Rows.fnExactCoinsTextSpec.plain.varTypes Tryd.prog++Tryd.f4.resultTypes.toList)=true:=by kernel_rfl
theorem closed:joinedFacts Tryd.prog 4 Tryd.f4 Rows.fnExactCoinsTextSpec Rows.fnExactCoinsTextRow=true:=(and2 (and2 (and2 (and2 (and2 (and2 (and2 (and2 (and2 (and2 (and2 (and2 (and2 (and2 (and2 (and2 (and2 (and2 (and2 (and2 (and2 (and2 (and2 (and2 (and2 (and2 (and2 (and2 (and2 (and2 (and2 k0 k1) k2) k3) k4) k5) k6) k7) k8) k9) k10) k11) k12) k13) k14) k15) k16) k17) k18) k19) k20) k21) k22) k23) k24) k25) k26) k27) k28) k29) k30) k31)
end Go.Proofs.YtoopijohnkgagaaDoor.fnExactCoinsText
