/- The closed facts of the row -/
import Derived.Test.YtchhjadkiimhgaaRows
import Derived.ProofKit
set_option linter.unusedVariables false
set_option linter.unusedSimpArgs false
set_option maxRecDepth 100000
namespace Go.Proofs.Ytchhjadkiimhgaa.fnNewClusters
open Go.ChangeShapes Go.WideShapes Go.ChangeAt Go.RowKit
theorem and2 {a b:Bool} (h:a=true) (k:b=true):(a&&b)=true:=by rw[h,k];rfl
theorem k0:Rows.fnNewClustersRow.wf (OpenSpec.ofChange Rows.fnNewClustersSpec)=true:=by kernel_rfl
theorem k1:laidOutB Try.prog=true:=by kernel_rfl
theorem k2:mapsRowed Try.prog=true:=by kernel_rfl
theorem k3:Try.f3.params.all (Try.prog.readableRec ·)=true:=by kernel_rfl
theorem k4:namedTie Try.prog Rows.fnNewClustersRow.named Rows.fnNewClustersSpec.vars=true:=by kernel_rfl
theorem k5:(Rows.fnNewClustersRow.stops == [])=true:=by kernel_rfl
theorem k6:(Try.prog.stops == [])=true:=by kernel_rfl
theorem k7:(Rows.fnNewClustersRow.knobs == [])=true:=by kernel_rfl
theorem k8:(Try.prog.stopKnobs == [])=true:=by kernel_rfl
theorem k9:(Rows.fnNewClustersRow.inPlace == Try.prog.inPlace 3)=true:=by kernel_rfl
theorem k10:(Rows.fnNewClustersRow.unfollowed == Try.prog.unfollowed 3)=true:=by kernel_rfl
theorem k11:(Rows.fnNewClustersRow.recurses == Try.prog.recurses 3)=true:=by kernel_rfl
theorem k12:(Rows.fnNewClustersRow.named == Try.prog.varsNamed 3)=true:=by kernel_rfl
theorem k13:(Rows.fnNewClustersRow.maps == (Try.f3.params.toList++Rows.fnNewClustersSpec.plain.varTypes Try.prog).any (Try.prog.mapsRec ·))=true:=by kernel_rfl
theorem k14:(Rows.fnNewClustersRow.ifaces == (Try.f3.params.toList++Rows.fnNewClustersSpec.plain.varTypes Try.prog).any (Try.prog.ifacesRec ·))=true:=by kernel_rfl
theorem k15:(Rows.fnNewClustersRow.mapsOut == Try.prog.mapsAmong Try.f3.resultTypes.toList)=true:=by kernel_rfl
theorem k16:(Rows.fnNewClustersRow.loops == (Try.f3.params.toList++Rows.fnNewClustersSpec.plain.varTypes Try.prog).any (Try.prog.loopsFrom ·))=true:=by kernel_rfl
theorem k17:(Rows.fnNewClustersRow.wideKeys == (Try.f3.params.toList++Rows.fnNewClustersSpec.plain.varTypes Try.prog++Try.f3.resultTypes.toList).any (Try.prog.wideKeysFrom ·))=true:=by kernel_rfl
theorem k18:Rows.fnNewClustersSpec.vars.all (Try.prog.varReadable ·)=true:=by kernel_rfl
theorem k19:Try.f3.resultTypes.all (fun t=>Try.prog.readableRec t&&decide (t<Try.prog.types.size))=true:=by kernel_rfl
theorem k20:(Rows.fnNewClustersRow.ifacesOut == Try.f3.resultTypes.toList.any (Try.prog.ifacesRec ·))=true:=by kernel_rfl
theorem k21:(Rows.fnNewClustersRow.loopsOut == Try.f3.resultTypes.toList.any (Try.prog.loopsFrom ·))=true:=by kernel_rfl
theorem k22:(Rows.fnNewClustersRow.plainKeys == Try.prog.plainKeys)=true:=by kernel_rfl
theorem k23:Rows.fnNewClustersRow.shortTexts.isNone=true:=by kernel_rfl
theorem k24:Try.prog.stopsHeard=true:=by kernel_rfl
theorem k25:Try.prog.mayEnter=true:=by kernel_rfl
theorem k26:(Rows.fnNewClustersRow.lifted == Try.prog.liftsFinal)=true:=by kernel_rfl
theorem k27:(Try.prog.make == some Rows.fnNewClustersRow.make)=true:=by kernel_rfl
theorem k28:(Rows.fnNewClustersRow.kinds == (if Rows.fnNewClustersRow.domain.isEmpty then [] else Try.f3.params.toList.map fun t=>match Try.prog.underlying t with | some (.int k)=>some k | _=>none))=true:=by kernel_rfl
theorem k29:(Rows.fnNewClustersRow.pinned == Rows.fnNewClustersRow.pinnedBy)=true:=by kernel_rfl
theorem k30:(Rows.fnNewClustersRow.veiled == (Try.f3.params.toList++Rows.fnNewClustersSpec.plain.varTypes Try.prog++Try.f3.resultTypes.toList).any (Try.prog.veiledRec ·))=true:=by kernel_rfl
theorem k31:Rows.fnNewClustersRow.veiledFits Try.prog Try.f3.params.toList (Try.f3.params.toList++Rows.fnNewClustersSpec.plain.varTypes Try.prog++Try.f3.resultTypes.toList)=true:=by kernel_rfl
theorem closed:joinedFacts Try.prog 3 Try.f3 Rows.fnNewClustersSpec Rows.fnNewClustersRow=true:=(and2 (and2 (and2 (and2 (and2 (and2 (and2 (and2 (and2 (and2 (and2 (and2 (and2 (and2 (and2 (and2 (and2 (and2 (and2 (and2 (and2 (and2 (and2 (and2 (and2 (and2 (and2 (and2 (and2 (and2 (and2 k0 k1) k2) k3) k4) k5) k6) k7) k8) k9) k10) k11) k12) k13) k14) k15) k16) k17) k18) k19) k20) k21) k22) k23) k24) k25) k26) k27) k28) k29) k30) k31)
end Go.Proofs.Ytchhjadkiimhgaa.fnNewClusters
