/- The closed facts of the row -/
import Derived.Test.YtoopijohnkgagaaDoorRows
import Derived.ProofKit
set_option linter.unusedVariables false
set_option linter.unusedSimpArgs false
set_option maxRecDepth 100000
namespace Go.Proofs.YtoopijohnkgagaaDoor.fnExactWordsOf
open Go.ChangeShapes Go.WideShapes Go.ChangeAt Go.RowKit
theorem and2 {a b:Bool} (h:a=true) (k:b=true):(a&&b)=true:=by rw[h,k];rfl
theorem k0:Rows.fnExactWordsOfRow.wf (OpenSpec.ofChange Rows.fnExactWordsOfSpec)=true:=by kernel_rfl
theorem k1:laidOutB Tryd.prog=true:=by kernel_rfl
theorem k2:mapsRowed Tryd.prog=true:=by kernel_rfl
theorem k3:Tryd.f3.params.all (Tryd.prog.readableRec ·)=true:=by kernel_rfl
theorem k4:namedTie Tryd.prog Rows.fnExactWordsOfRow.named Rows.fnExactWordsOfSpec.vars=true:=by kernel_rfl
theorem k5:(Rows.fnExactWordsOfRow.stops == [])=true:=by kernel_rfl
theorem k6:(Tryd.prog.stops == [])=true:=by kernel_rfl
theorem k7:(Rows.fnExactWordsOfRow.knobs == [])=true:=by kernel_rfl
theorem k8:(Tryd.prog.stopKnobs == [])=true:=by kernel_rfl
theorem k9:(Rows.fnExactWordsOfRow.inPlace == Tryd.prog.inPlace 3)=true:=by kernel_rfl
theorem k10:(Rows.fnExactWordsOfRow.unfollowed == Tryd.prog.unfollowed 3)=true:=by kernel_rfl
theorem k11:(Rows.fnExactWordsOfRow.recurses == Tryd.prog.recurses 3)=true:=by kernel_rfl
theorem k12:(Rows.fnExactWordsOfRow.named == Tryd.prog.varsNamed 3)=true:=by kernel_rfl
theorem k13:(Rows.fnExactWordsOfRow.maps == (Tryd.f3.params.toList++Rows.fnExactWordsOfSpec.plain.varTypes Tryd.prog).any (Tryd.prog.mapsRec ·))=true:=by kernel_rfl
theorem k14:(Rows.fnExactWordsOfRow.ifaces == (Tryd.f3.params.toList++Rows.fnExactWordsOfSpec.plain.varTypes Tryd.prog).any (Tryd.prog.ifacesRec ·))=true:=by kernel_rfl
theorem k15:(Rows.fnExactWordsOfRow.mapsOut == Tryd.prog.mapsAmong Tryd.f3.resultTypes.toList)=true:=by kernel_rfl
theorem k16:(Rows.fnExactWordsOfRow.loops == (Tryd.f3.params.toList++Rows.fnExactWordsOfSpec.plain.varTypes Tryd.prog).any (Tryd.prog.loopsFrom ·))=true:=by kernel_rfl
theorem k17:(Rows.fnExactWordsOfRow.wideKeys == (Tryd.f3.params.toList++Rows.fnExactWordsOfSpec.plain.varTypes Tryd.prog++Tryd.f3.resultTypes.toList).any (Tryd.prog.wideKeysFrom ·))=true:=by kernel_rfl
theorem k18:Rows.fnExactWordsOfSpec.vars.all (Tryd.prog.varReadable ·)=true:=by kernel_rfl
theorem k19:Tryd.f3.resultTypes.all (fun t=>Tryd.prog.readableRec t&&decide (t<Tryd.prog.types.size))=true:=by kernel_rfl
theorem k20:(Rows.fnExactWordsOfRow.ifacesOut == Tryd.f3.resultTypes.toList.any (Tryd.prog.ifacesRec ·))=true:=by kernel_rfl
theorem k21:(Rows.fnExactWordsOfRow.loopsOut == Tryd.f3.resultTypes.toList.any (Tryd.prog.loopsFrom ·))=true:=by kernel_rfl
theorem k22:(Rows.fnExactWordsOfRow.plainKeys == Tryd.prog.plainKeys)=true:=by kernel_rfl
theorem k23:Rows.fnExactWordsOfRow.shortTexts.isNone=true:=by kernel_rfl
theorem k24:Tryd.prog.stopsHeard=true:=by kernel_rfl
theorem k25:Tryd.prog.mayEnter=true:=by kernel_rfl
theorem k26:(Rows.fnExactWordsOfRow.lifted == Tryd.prog.liftsFinal)=true:=by kernel_rfl
theorem k27:(Tryd.prog.make == some Rows.fnExactWordsOfRow.make)=true:=by kernel_rfl
theorem k28:(Rows.fnExactWordsOfRow.kinds == (if Rows.fnExactWordsOfRow.domain.isEmpty then [] else Tryd.f3.params.toList.map fun t=>match Tryd.prog.underlying t with | some (.int k)=>some k | _=>none))=true:=by kernel_rfl
theorem k29:(Rows.fnExactWordsOfRow.pinned == Rows.fnExactWordsOfRow.pinnedBy)=true:=by kernel_rfl
theorem k30:(Rows.fnExactWordsOfRow.veiled == (Tryd.f3.params.toList++Rows.fnExactWordsOfSpec.plain.varTypes Tryd.prog++Tryd.f3.resultTypes.toList).any (Tryd.prog.veiledRec ·))=true:=by kernel_rfl
theorem k31:Rows.fnExactWordsOfRow.veiledFits Tryd.prog Tryd.f3.params.toList (Tryd.f3.params.toList++Rows.fnExactWordsOfSpec.plain.varTypes Tryd.prog++Tryd.f3.resultTypes.toList)=true:=by kernel_rfl
theorem closed:joinedFacts Tryd.prog 3 Tryd.f3 Rows.fnExactWordsOfSpec Rows.fnExactWordsOfRow=true:=(and2 (and2 (and2 (and2 (and2 (and2 (and2 (and2 (and2 (and2 (and2 (and2 (and2 (and2 (and2 (and2 (and2 (and2 (and2 (and2 (and2 (and2 (and2 (and2 (and2 (and2 (and2 (and2 (and2 (and2 (and2 k0 k1) k2) k3) k4) k5) k6) k7) k8) k9) k10) k11) k12) k13) k14) k15) k16) k17) k18) k19) k20) k21) k22) k23) k24) k25) k26) k27) k28) k29) k30) k31)
end Go.Proofs.YtoopijohnkgagaaDoor.fnExactWordsOf
