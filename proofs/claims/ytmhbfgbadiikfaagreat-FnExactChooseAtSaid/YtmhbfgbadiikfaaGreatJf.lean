/- The closed facts of the row -/
import Derived.Test.YtmhbfgbadiikfaaGreatRows
import Derived.ProofKit
set_option linter.unusedVariables false
set_option linter.unusedSimpArgs false
set_option maxRecDepth 100000
namespace Go.Proofs.YtmhbfgbadiikfaaGreat.fnExactChooseAt
open Go.ChangeShapes Go.WideShapes Go.ChangeAt Go.RowKit
theorem and2 {a b : Bool} (h : a = true) (k : b = true) : (a && b) = true := by rw [h, k]; rfl
theorem k0 : Rows.fnExactChooseAtRow.wf (OpenSpec.ofChange Rows.fnExactChooseAtSpec) = true := by kernel_rfl
theorem k1 : laidOutB Tryz.prog = true := by kernel_rfl
theorem k2 : mapsRowed Tryz.prog = true := by kernel_rfl
theorem k3 : Tryz.f15.params.all (Tryz.prog.readableRec ·) = true := by kernel_rfl
theorem k4 : namedTie Tryz.prog Rows.fnExactChooseAtRow.named Rows.fnExactChooseAtSpec.vars = true := by kernel_rfl
theorem k5 : (Rows.fnExactChooseAtRow.stops == []) = true := by kernel_rfl
theorem k6 : (Tryz.prog.stops == []) = true := by kernel_rfl
theorem k7 : (Rows.fnExactChooseAtRow.knobs == []) = true := by kernel_rfl
theorem k8 : (Tryz.prog.stopKnobs == []) = true := by kernel_rfl
theorem k9 : (Rows.fnExactChooseAtRow.inPlace == Tryz.prog.inPlace 15) = true := by kernel_rfl
theorem k10 : (Rows.fnExactChooseAtRow.unfollowed == Tryz.prog.unfollowed 15) = true := by kernel_rfl
theorem k11 : (Rows.fnExactChooseAtRow.recurses == Tryz.prog.recurses 15) = true := by kernel_rfl
theorem k12 : (Rows.fnExactChooseAtRow.named == Tryz.prog.varsNamed 15) = true := by kernel_rfl
theorem k13 : (Rows.fnExactChooseAtRow.maps == (Tryz.f15.params.toList ++ Rows.fnExactChooseAtSpec.plain.varTypes Tryz.prog).any (Tryz.prog.mapsRec ·)) = true := by kernel_rfl
theorem k14 : (Rows.fnExactChooseAtRow.ifaces == (Tryz.f15.params.toList ++ Rows.fnExactChooseAtSpec.plain.varTypes Tryz.prog).any (Tryz.prog.ifacesRec ·)) = true := by kernel_rfl
theorem k15 : (Rows.fnExactChooseAtRow.mapsOut == Tryz.prog.mapsAmong Tryz.f15.resultTypes.toList) = true := by kernel_rfl
theorem k16 : (Rows.fnExactChooseAtRow.loops == (Tryz.f15.params.toList ++ Rows.fnExactChooseAtSpec.plain.varTypes Tryz.prog).any (Tryz.prog.loopsFrom ·)) = true := by kernel_rfl
theorem k17 : (Rows.fnExactChooseAtRow.wideKeys == (Tryz.f15.params.toList ++ Rows.fnExactChooseAtSpec.plain.varTypes Tryz.prog ++ Tryz.f15.resultTypes.toList).any (Tryz.prog.wideKeysFrom ·)) = true := by kernel_rfl
theorem k18 : Rows.fnExactChooseAtSpec.vars.all (Tryz.prog.varReadable ·) = true := by kernel_rfl
theorem k19 : Tryz.f15.resultTypes.all (fun t => Tryz.prog.readableRec t && decide (t < Tryz.prog.types.size)) = true := by kernel_rfl
theorem k20 : (Rows.fnExactChooseAtRow.ifacesOut == Tryz.f15.resultTypes.toList.any (Tryz.prog.ifacesRec ·)) = true := by kernel_rfl
theorem k21 : (Rows.fnExactChooseAtRow.loopsOut == Tryz.f15.resultTypes.toList.any (Tryz.prog.loopsFrom ·)) = true := by kernel_rfl
theorem k22 : (Rows.fnExactChooseAtRow.plainKeys == Tryz.prog.plainKeys) = true := by kernel_rfl
theorem k23 : Rows.fnExactChooseAtRow.shortTexts.isNone = true := by kernel_rfl
theorem k24 : Tryz.prog.stopsHeard = true := by kernel_rfl
theorem k25 : Tryz.prog.mayEnter = true := by kernel_rfl
theorem k26 : (Rows.fnExactChooseAtRow.lifted == Tryz.prog.liftsFinal) = true := by kernel_rfl
theorem k27 : (Tryz.prog.make == some Rows.fnExactChooseAtRow.make) = true := by kernel_rfl
theorem k28 : (Rows.fnExactChooseAtRow.kinds == (if Rows.fnExactChooseAtRow.domain.isEmpty then [] else Tryz.f15.params.toList.map fun t => match Tryz.prog.underlying t with | some (.int k) => some k | _ => none)) = true := by kernel_rfl
theorem k29 : (Rows.fnExactChooseAtRow.pinned == Rows.fnExactChooseAtRow.pinnedBy) = true := by kernel_rfl
theorem k30 : (Rows.fnExactChooseAtRow.veiled == (Tryz.f15.params.toList ++ Rows.fnExactChooseAtSpec.plain.varTypes Tryz.prog ++ Tryz.f15.resultTypes.toList).any (Tryz.prog.veiledRec ·)) = true := by kernel_rfl
theorem k31 : Rows.fnExactChooseAtRow.veiledFits Tryz.prog Tryz.f15.params.toList (Tryz.f15.params.toList ++ Rows.fnExactChooseAtSpec.plain.varTypes Tryz.prog ++ Tryz.f15.resultTypes.toList) = true := by kernel_rfl
theorem closed : joinedFacts Tryz.prog 15 Tryz.f15 Rows.fnExactChooseAtSpec Rows.fnExactChooseAtRow = true := (and2 (and2 (and2 (and2 (and2 (and2 (and2 (and2 (and2 (and2 (and2 (and2 (and2 (and2 (and2 (and2 (and2 (and2 (and2 (and2 (and2 (and2 (and2 (and2 (and2 (and2 (and2 (and2 (and2 (and2 (and2 k0 k1) k2) k3) k4) k5) k6) k7) k8) k9) k10) k11) k12) k13) k14) k15) k16) k17) k18) k19) k20) k21) k22) k23) k24) k25) k26) k27) k28) k29) k30) k31)
end Go.Proofs.YtmhbfgbadiikfaaGreat.fnExactChooseAt
