/- The closed facts of the row -/
import Derived.Test.YtdlnpjjdenahoaaRows
import Derived.ProofKit
set_option linter.unusedVariables false
set_option linter.unusedSimpArgs false
set_option maxRecDepth 100000
namespace Go.Proofs.Ytdlnpjjdenahoaa.fnExactNewChain
open Go.ChangeShapes Go.WideShapes Go.ChangeAt Go.RowKit
theorem and2 {a b : Bool} (h : a = true) (k : b = true) : (a && b) = true := by rw [h, k]; rfl
theorem k0 : Rows.fnExactNewChainRow.wf (OpenSpec.ofChange Rows.fnExactNewChainSpec) = true := by kernel_rfl
theorem k1 : laidOutB Try.prog = true := by kernel_rfl
theorem k2 : mapsRowed Try.prog = true := by kernel_rfl
theorem k3 : Try.f4.params.all (Try.prog.readableRec ·) = true := by kernel_rfl
theorem k4 : namedTie Try.prog Rows.fnExactNewChainRow.named Rows.fnExactNewChainSpec.vars = true := by kernel_rfl
theorem k5 : (Rows.fnExactNewChainRow.stops == []) = true := by kernel_rfl
theorem k6 : (Try.prog.stops == []) = true := by kernel_rfl
theorem k7 : (Rows.fnExactNewChainRow.knobs == []) = true := by kernel_rfl
theorem k8 : (Try.prog.stopKnobs == []) = true := by kernel_rfl
theorem k9 : (Rows.fnExactNewChainRow.inPlace == Try.prog.inPlace 4) = true := by kernel_rfl
theorem k10 : (Rows.fnExactNewChainRow.unfollowed == Try.prog.unfollowed 4) = true := by kernel_rfl
theorem k11 : (Rows.fnExactNewChainRow.recurses == Try.prog.recurses 4) = true := by kernel_rfl
theorem k12 : (Rows.fnExactNewChainRow.named == Try.prog.varsNamed 4) = true := by kernel_rfl
theorem k13 : (Rows.fnExactNewChainRow.maps == (Try.f4.params.toList ++ Rows.fnExactNewChainSpec.plain.varTypes Try.prog).any (Try.prog.mapsRec ·)) = true := by kernel_rfl
theorem k14 : (Rows.fnExactNewChainRow.ifaces == (Try.f4.params.toList ++ Rows.fnExactNewChainSpec.plain.varTypes Try.prog).any (Try.prog.ifacesRec ·)) = true := by kernel_rfl
theorem k15 : (Rows.fnExactNewChainRow.mapsOut == Try.prog.mapsAmong Try.f4.resultTypes.toList) = true := by kernel_rfl
theorem k16 : (Rows.fnExactNewChainRow.loops == (Try.f4.params.toList ++ Rows.fnExactNewChainSpec.plain.varTypes Try.prog).any (Try.prog.loopsFrom ·)) = true := by kernel_rfl
theorem k17 : (Rows.fnExactNewChainRow.wideKeys == (Try.f4.params.toList ++ Rows.fnExactNewChainSpec.plain.varTypes Try.prog ++ Try.f4.resultTypes.toList).any (Try.prog.wideKeysFrom ·)) = true := by kernel_rfl
theorem k18 : Rows.fnExactNewChainSpec.vars.all (Try.prog.varReadable ·) = true := by kernel_rfl
theorem k19 : Try.f4.resultTypes.all (fun t => Try.prog.readableRec t && decide (t < Try.prog.types.size)) = true := by kernel_rfl
theorem k20 : (Rows.fnExactNewChainRow.ifacesOut == Try.f4.resultTypes.toList.any (Try.prog.ifacesRec ·)) = true := by kernel_rfl
theorem k21 : (Rows.fnExactNewChainRow.loopsOut == Try.f4.resultTypes.toList.any (Try.prog.loopsFrom ·)) = true := by kernel_rfl
theorem k22 : (Rows.fnExactNewChainRow.plainKeys == Try.prog.plainKeys) = true := by kernel_rfl
theorem k23 : Rows.fnExactNewChainRow.shortTexts.isNone = true := by kernel_rfl
theorem k24 : Try.prog.stopsHeard = true := by kernel_rfl
theorem k25 : Try.prog.mayEnter = true := by kernel_rfl
theorem k26 : (Rows.fnExactNewChainRow.lifted == Try.prog.liftsFinal) = true := by kernel_rfl
theorem k27 : (Try.prog.make == some Rows.fnExactNewChainRow.make) = true := by kernel_rfl
theorem k28 : (Rows.fnExactNewChainRow.kinds == (if Rows.fnExactNewChainRow.domain.isEmpty then [] else Try.f4.params.toList.map fun t => match Try.prog.underlying t with | some (.int k) => some k | _ => none)) = true := by kernel_rfl
theorem k29 : (Rows.fnExactNewChainRow.pinned == Rows.fnExactNewChainRow.pinnedBy) = true := by kernel_rfl
theorem k30 : (Rows.fnExactNewChainRow.veiled == (Try.f4.params.toList ++ Rows.fnExactNewChainSpec.plain.varTypes Try.prog ++ Try.f4.resultTypes.toList).any (Try.prog.veiledRec ·)) = true := by kernel_rfl
theorem k31 : Rows.fnExactNewChainRow.veiledFits Try.prog Try.f4.params.toList (Try.f4.params.toList ++ Rows.fnExactNewChainSpec.plain.varTypes Try.prog ++ Try.f4.resultTypes.toList) = true := by kernel_rfl
theorem closed : joinedFacts Try.prog 4 Try.f4 Rows.fnExactNewChainSpec Rows.fnExactNewChainRow = true := (and2 (and2 (and2 (and2 (and2 (and2 (and2 (and2 (and2 (and2 (and2 (and2 (and2 (and2 (and2 (and2 (and2 (and2 (and2 (and2 (and2 (and2 (and2 (and2 (and2 (and2 (and2 (and2 (and2 (and2 (and2 k0 k1) k2) k3) k4) k5) k6) k7) k8) k9) k10) k11) k12) k13) k14) k15) k16) k17) k18) k19) k20) k21) k22) k23) k24) k25) k26) k27) k28) k29) k30) k31)
end Go.Proofs.Ytdlnpjjdenahoaa.fnExactNewChain
