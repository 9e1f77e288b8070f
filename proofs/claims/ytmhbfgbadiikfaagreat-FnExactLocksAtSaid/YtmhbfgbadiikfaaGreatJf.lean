/- The closed facts of the row -/
import Derived.Test.YtmhbfgbadiikfaaGreatRows
import Derived.ProofKit
set_option linter.unusedVariables false
set_option linter.unusedSimpArgs false
set_option maxRecDepth 100000
namespace Go.Proofs.YtmhbfgbadiikfaaGreat.fnExactLocksAt
open Go.ChangeShapes Go.WideShapes Go.ChangeAt Go.RowKit
theorem and2 {a b : Bool} (h : a = true) (k : b = true) : (a && b) = true := by rw [h, k]; rfl
theorem k0 : Rows.fnExactLocksAtRow.wf (OpenSpec.ofChange Rows.fnExactLocksAtSpec) = true := by kernel_rfl
theorem k1 : laidOutB Tryz.prog = true := by kernel_rfl
theorem k2 : mapsRowed Tryz.prog = true := by kernel_rfl
theorem k3 : Tryz.f10.params.all (Tryz.prog.readableRec ·) = true := by kernel_rfl
theorem k4 : namedTie Tryz.prog Rows.fnExactLocksAtRow.named Rows.fnExactLocksAtSpec.vars = true := by kernel_rfl
theorem k5 : (Rows.fnExactLocksAtRow.stops == []) = true := by kernel_rfl
theorem k6 : (Tryz.prog.stops == []) = true := by kernel_rfl
theorem k7 : (Rows.fnExactLocksAtRow.knobs == []) = true := by kernel_rfl
theorem k8 : (Tryz.prog.stopKnobs == []) = true := by kernel_rfl
theorem k9 : (Rows.fnExactLocksAtRow.inPlace == Tryz.prog.inPlace 10) = true := by kernel_rfl
theorem k10 : (Rows.fnExactLocksAtRow.unfollowed == Tryz.prog.unfollowed 10) = true := by kernel_rfl
theorem k11 : (Rows.fnExactLocksAtRow.recurses == Tryz.prog.recurses 10) = true := by kernel_rfl
theorem k12 : (Rows.fnExactLocksAtRow.named == Tryz.prog.varsNamed 10) = true := by kernel_rfl
theorem k13 : (Rows.fnExactLocksAtRow.maps == (Tryz.f10.params.toList ++ Rows.fnExactLocksAtSpec.plain.varTypes Tryz.prog).any (Tryz.prog.mapsRec ·)) = true := by kernel_rfl
theorem k14 : (Rows.fnExactLocksAtRow.ifaces == (Tryz.f10.params.toList ++ Rows.fnExactLocksAtSpec.plain.varTypes Tryz.prog).any (Tryz.prog.ifacesRec ·)) = true := by kernel_rfl
theorem k15 : (Rows.fnExactLocksAtRow.mapsOut == Tryz.prog.mapsAmong Tryz.f10.resultTypes.toList) = true := by kernel_rfl
theorem k16 : (Rows.fnExactLocksAtRow.loops == (Tryz.f10.params.toList ++ Rows.fnExactLocksAtSpec.plain.varTypes Tryz.prog).any (Tryz.prog.loopsFrom ·)) = true := by kernel_rfl
theorem k17 : (Rows.fnExactLocksAtRow.wideKeys == (Tryz.f10.params.toList ++ Rows.fnExactLocksAtSpec.plain.varTypes Tryz.prog ++ Tryz.f10.resultTypes.toList).any (Tryz.prog.wideKeysFrom ·)) = true := by kernel_rfl
theorem k18 : Rows.fnExactLocksAtSpec.vars.all (Tryz.prog.varReadable ·) = true := by kernel_rfl
theorem k19 : Tryz.f10.resultTypes.all (fun t => Tryz.prog.readableRec t && decide (t < Tryz.prog.types.size)) = true := by kernel_rfl
theorem k20 : (Rows.fnExactLocksAtRow.ifacesOut == Tryz.f10.resultTypes.toList.any (Tryz.prog.ifacesRec ·)) = true := by kernel_rfl
theorem k21 : (Rows.fnExactLocksAtRow.loopsOut == Tryz.f10.resultTypes.toList.any (Tryz.prog.loopsFrom ·)) = true := by kernel_rfl
theorem k22 : (Rows.fnExactLocksAtRow.plainKeys == Tryz.prog.plainKeys) = true := by kernel_rfl
theorem k23 : Rows.fnExactLocksAtRow.shortTexts.isNone = true := by kernel_rfl
theorem k24 : Tryz.prog.stopsHeard = true := by kernel_rfl
theorem k25 : Tryz.prog.mayEnter = true := by kernel_rfl
theorem k26 : (Rows.fnExactLocksAtRow.lifted == Tryz.prog.liftsFinal) = true := by kernel_rfl
theorem k27 : (Tryz.prog.make == some Rows.fnExactLocksAtRow.make) = true := by kernel_rfl
theorem k28 : (Rows.fnExactLocksAtRow.kinds == (if Rows.fnExactLocksAtRow.domain.isEmpty then [] else Tryz.f10.params.toList.map fun t => match Tryz.prog.underlying t with | some (.int k) => some k | _ => none)) = true := by kernel_rfl
theorem k29 : (Rows.fnExactLocksAtRow.pinned == Rows.fnExactLocksAtRow.pinnedBy) = true := by kernel_rfl
theorem k30 : (Rows.fnExactLocksAtRow.veiled == (Tryz.f10.params.toList ++ Rows.fnExactLocksAtSpec.plain.varTypes Tryz.prog ++ Tryz.f10.resultTypes.toList).any (Tryz.prog.veiledRec ·)) = true := by kernel_rfl
theorem k31 : Rows.fnExactLocksAtRow.veiledFits Tryz.prog Tryz.f10.params.toList (Tryz.f10.params.toList ++ Rows.fnExactLocksAtSpec.plain.varTypes Tryz.prog ++ Tryz.f10.resultTypes.toList) = true := by kernel_rfl
theorem closed : joinedFacts Tryz.prog 10 Tryz.f10 Rows.fnExactLocksAtSpec Rows.fnExactLocksAtRow = true := (and2 (and2 (and2 (and2 (and2 (and2 (and2 (and2 (and2 (and2 (and2 (and2 (and2 (and2 (and2 (and2 (and2 (and2 (and2 (and2 (and2 (and2 (and2 (and2 (and2 (and2 (and2 (and2 (and2 (and2 (and2 k0 k1) k2) k3) k4) k5) k6) k7) k8) k9) k10) k11) k12) k13) k14) k15) k16) k17) k18) k19) k20) k21) k22) k23) k24) k25) k26) k27) k28) k29) k30) k31)
end Go.Proofs.YtmhbfgbadiikfaaGreat.fnExactLocksAt
