/- The closed facts of the row -/
import Derived.Test.YtmhbfgbadiikfaaGreatRows
import Derived.ProofKit
set_option linter.unusedVariables false
set_option linter.unusedSimpArgs false
set_option maxRecDepth 100000
namespace Go.Proofs.YtmhbfgbadiikfaaGreat.fnExactHearAt
open Go.ChangeShapes Go.WideShapes Go.ChangeAt Go.RowKit
theorem and2 {a b : Bool} (h : a = true) (k : b = true) : (a && b) = true := by rw [h, k]; rfl
theorem k0 : Rows.fnExactHearAtRow.wf (OpenSpec.ofChange Rows.fnExactHearAtSpec) = true := by kernel_rfl
theorem k1 : laidOutB Tryz.prog = true := by kernel_rfl
theorem k2 : mapsRowed Tryz.prog = true := by kernel_rfl
theorem k3 : Tryz.f11.params.all (Tryz.prog.readableRec ·) = true := by kernel_rfl
theorem k4 : namedTie Tryz.prog Rows.fnExactHearAtRow.named Rows.fnExactHearAtSpec.vars = true := by kernel_rfl
theorem k5 : (Rows.fnExactHearAtRow.stops == []) = true := by kernel_rfl
theorem k6 : (Tryz.prog.stops == []) = true := by kernel_rfl
theorem k7 : (Rows.fnExactHearAtRow.knobs == []) = true := by kernel_rfl
theorem k8 : (Tryz.prog.stopKnobs == []) = true := by kernel_rfl
theorem k9 : (Rows.fnExactHearAtRow.inPlace == Tryz.prog.inPlace 11) = true := by kernel_rfl
theorem k10 : (Rows.fnExactHearAtRow.unfollowed == Tryz.prog.unfollowed 11) = true := by kernel_rfl
theorem k11 : (Rows.fnExactHearAtRow.recurses == Tryz.prog.recurses 11) = true := by kernel_rfl
theorem k12 : (Rows.fnExactHearAtRow.named == Tryz.prog.varsNamed 11) = true := by kernel_rfl
theorem k13 : (Rows.fnExactHearAtRow.maps == (Tryz.f11.params.toList ++ Rows.fnExactHearAtSpec.plain.varTypes Tryz.prog).any (Tryz.prog.mapsRec ·)) = true := by kernel_rfl
theorem k14 : (Rows.fnExactHearAtRow.ifaces == (Tryz.f11.params.toList ++ Rows.fnExactHearAtSpec.plain.varTypes Tryz.prog).any (Tryz.prog.ifacesRec ·)) = true := by kernel_rfl
theorem k15 : (Rows.fnExactHearAtRow.mapsOut == Tryz.prog.mapsAmong Tryz.f11.resultTypes.toList) = true := by kernel_rfl
theorem k16 : (Rows.fnExactHearAtRow.loops == (Tryz.f11.params.toList ++ Rows.fnExactHearAtSpec.plain.varTypes Tryz.prog).any (Tryz.prog.loopsFrom ·)) = true := by kernel_rfl
theorem k17 : (Rows.fnExactHearAtRow.wideKeys == (Tryz.f11.params.toList ++ Rows.fnExactHearAtSpec.plain.varTypes Tryz.prog ++ Tryz.f11.resultTypes.toList).any (Tryz.prog.wideKeysFrom ·)) = true := by kernel_rfl
theorem k18 : Rows.fnExactHearAtSpec.vars.all (Tryz.prog.varReadable ·) = true := by kernel_rfl
theorem k19 : Tryz.f11.resultTypes.all (fun t => Tryz.prog.readableRec t && decide (t < Tryz.prog.types.size)) = true := by kernel_rfl
theorem k20 : (Rows.fnExactHearAtRow.ifacesOut == Tryz.f11.resultTypes.toList.any (Tryz.prog.ifacesRec ·)) = true := by kernel_rfl
theorem k21 : (Rows.fnExactHearAtRow.loopsOut == Tryz.f11.resultTypes.toList.any (Tryz.prog.loopsFrom ·)) = true := by kernel_rfl
theorem k22 : (Rows.fnExactHearAtRow.plainKeys == Tryz.prog.plainKeys) = true := by kernel_rfl
theorem k23 : Rows.fnExactHearAtRow.shortTexts.isNone = true := by kernel_rfl
theorem k24 : Tryz.prog.stopsHeard = true := by kernel_rfl
theorem k25 : Tryz.prog.mayEnter = true := by kernel_rfl
theorem k26 : (Rows.fnExactHearAtRow.lifted == Tryz.prog.liftsFinal) = true := by kernel_rfl
theorem k27 : (Tryz.prog.make == some Rows.fnExactHearAtRow.make) = true := by kernel_rfl
theorem k28 : (Rows.fnExactHearAtRow.kinds == (if Rows.fnExactHearAtRow.domain.isEmpty then [] else Tryz.f11.params.toList.map fun t => match Tryz.prog.underlying t with | some (.int k) => some k | _ => none)) = true := by kernel_rfl
theorem k29 : (Rows.fnExactHearAtRow.pinned == Rows.fnExactHearAtRow.pinnedBy) = true := by kernel_rfl
theorem k30 : (Rows.fnExactHearAtRow.veiled == (Tryz.f11.params.toList ++ Rows.fnExactHearAtSpec.plain.varTypes Tryz.prog ++ Tryz.f11.resultTypes.toList).any (Tryz.prog.veiledRec ·)) = true := by kernel_rfl
theorem k31 : Rows.fnExactHearAtRow.veiledFits Tryz.prog Tryz.f11.params.toList (Tryz.f11.params.toList ++ Rows.fnExactHearAtSpec.plain.varTypes Tryz.prog ++ Tryz.f11.resultTypes.toList) = true := by kernel_rfl
theorem closed : joinedFacts Tryz.prog 11 Tryz.f11 Rows.fnExactHearAtSpec Rows.fnExactHearAtRow = true := (and2 (and2 (and2 (and2 (and2 (and2 (and2 (and2 (and2 (and2 (and2 (and2 (and2 (and2 (and2 (and2 (and2 (and2 (and2 (and2 (and2 (and2 (and2 (and2 (and2 (and2 (and2 (and2 (and2 (and2 (and2 k0 k1) k2) k3) k4) k5) k6) k7) k8) k9) k10) k11) k12) k13) k14) k15) k16) k17) k18) k19) k20) k21) k22) k23) k24) k25) k26) k27) k28) k29) k30) k31)
end Go.Proofs.YtmhbfgbadiikfaaGreat.fnExactHearAt
