/- FnExactNewChain returns true whatever its arguments are, and they read behind the call as before. Conditions: none beyond the row's own -/
import Derived.Test.YtdlnpjjdenahoaaRows
import Derived.Test.YtdlnpjjdenahoaaJf
import Derived.Test.YtdlnpjjdenahoaaSct
import Derived.Test.YtdlnpjjdenahoaaPla
import Derived.ProofKit
set_option linter.unusedVariables false
set_option linter.unusedSimpArgs false
namespace Go.Proofs.Ytdlnpjjdenahoaa.fnExactNewChain
open Go.ChangeShapes Go.WideShapes Go.ChangeAt Go.RowKit Go.Dx
theorem own : ownKnob Try.prog.godebug = none := by kernel_rfl
theorem laidOut : laidOutB Try.prog = true := by kernel_rfl
set_option maxRecDepth 100000 in
theorem contract (H : Type) (enc : TypeId × Value → H) (W : World) (base : Nat) (args : Array Value) (ds gs : List (DataW H)) (before : List MemPlace)
    (hval : ∀ (j : Nat) t v, Try.f4.params[j]? = some t → args[j]? = some v → Value.okWide Try.prog W .any base t v)
    (hW : DataW.Whole enc Try.prog Try.f4.params.toList Rows.fnExactNewChainSpec.vars false W args.toList ds gs before) :
    Calls Try.prog 4 args W fun e W' => ∃ v, e = .returned v ∧ Rows.fnExactNewChainSpec.post enc Try.prog Try.f4 false true false false W args v W' := by
  refine law_calls (C := NC.X0) (K := NC.K_laws_FnExactNewChain) NC.tysOk NC.c_laws_FnExactNewChain ?_ (by kernel_rfl) Try.underlying4 rfl laidOut ?_ ?_ hval hW ?_
  · rw [Try.params4]
    exact ⟨⟨_, rfl, rfl, rfl⟩, rfl, trivial⟩
  · rw [Try.params4]
    intro t ht
    have ht : t ∈ ([25] : List Nat) := ht
    simp only [List.mem_cons, List.not_mem_nil, or_false] at ht
    rcases ht with rfl <;> exact ⟨by kernel_rfl, of_decide_eq_true (by kernel_rfl)⟩
  · rw [Try.params4]
    intro ds hds
    match ds, hds with
    | [d0], _ => rfl
  · intro xs hb
    exact ⟨true, NC.law_FnExactNewChain xs.1 (NC.bLedger_of _ hb.1), rfl, rfl⟩
set_option maxRecDepth 100000 in
theorem lifted (os : Os) (started : os.Started) (H : Type) (enc : TypeId × Value → H) :
    ReturnsInHanded {} Try.checked os 4 .any (Rows.fnExactNewChainSpec.pre6 enc Try.prog Try.f4 Rows.fnExactNewChainRow.domain false) (Rows.fnExactNewChainSpec.post enc Try.prog Try.f4 false true false false) := by
  refine returnsInHanded_of_change (C := Try.checked) own started (by kernel_rfl) Try.func4
    (ChangeSpec.witness6 (enc := enc) (C := Try.checked) false ⟨#[], #[zeroV (.prod (.list .str) (.list (.prod (.int .i64) (.int .i64))))], []⟩ 8 (by kernel_rfl) (by kernel_rfl) (by kernel_rfl) (by kernel_rfl)) ?_
  intro W base args ds gs before hval hW _ _
  exact contract H enc W base args ds gs before hval hW
theorem proved : Rows.FnExactNewChainSaid :=
  OpenClaim.holds_of_wide 4 Try.f4 rfl rfl rfl rfl rfl rfl rfl ⟨rfl, rfl, rfl, rfl, rfl⟩ rfl rfl rfl rfl rfl (by kernel_rfl) Try.func4 closed
    (of_decide_eq_true (by kernel_rfl)) (by unfold Func.isWrapper; first | (rw [if_pos (by decide +kernel)]; kernel_rfl) | (rw [if_neg (by decide +kernel)]; exact ⟨rfl, rfl⟩))
    (fun os started H enc _ => lifted os started H enc)
#print axioms proved
end Go.Proofs.Ytdlnpjjdenahoaa.fnExactNewChain
