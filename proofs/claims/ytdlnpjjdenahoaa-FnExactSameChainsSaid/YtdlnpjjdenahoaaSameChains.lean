/- FnExactSameChains returns true whatever its two chains are, and they read behind the call as before. Conditions: none beyond the row's own -/
import Derived.Test.YtdlnpjjdenahoaaRows
import Derived.Test.YtdlnpjjdenahoaaSce
import Derived.Test.YtdlnpjjdenahoaaScf
import Derived.ProofKit
set_option linter.unusedVariables false
set_option linter.unusedSimpArgs false
namespace Go.Proofs.Ytdlnpjjdenahoaa.fnExactSameChains
open Go.ChangeShapes Go.WideShapes Go.ChangeAt Go.RowKit Go.Dx

theorem own : ownKnob Try.prog.godebug = none := by kernel_rfl
theorem laidOut : laidOutB Try.prog = true := by kernel_rfl

set_option maxRecDepth 100000 in
theorem contract (H : Type) (enc : TypeId × Value → H) (W : World) (base : Nat) (args : Array Value) (ds gs : List (DataW H)) (before : List MemPlace)
    (hval : ∀ (j : Nat) t v, Try.f3.params[j]? = some t → args[j]? = some v → Value.okWide Try.prog W .any base t v)
    (hW : DataW.Whole enc Try.prog Try.f3.params.toList Rows.fnExactSameChainsSpec.vars false W args.toList ds gs before) :
    Calls Try.prog 3 args W fun e W' => ∃ v, e = .returned v ∧ Rows.fnExactSameChainsSpec.post enc Try.prog Try.f3 false true false false W args v W' := by
  refine law_calls (P := Try.prog) (fn := Try.f3) (s := Rows.fnExactSameChainsSpec) (C := SC.X0) (K := SC.K_laws_FnExactSameChains) SC.tysOk SC.c_laws_FnExactSameChains ?_ (by kernel_rfl) Try.underlying4 rfl laidOut ?_ ?_ hval hW ?_
  · rw [Try.params3]
    exact ⟨⟨_, rfl, rfl, rfl⟩, rfl, ⟨_, rfl, rfl, rfl⟩, rfl, trivial⟩
  · rw [Try.params3]
    intro t ht
    have : t = 34 := by simpa using ht
    subst this
    exact ⟨by kernel_rfl, of_decide_eq_true (by kernel_rfl)⟩
  · rw [Try.params3]
    intro ds hds
    match ds, hds with
    | [d1, d2], _ => rfl
  · intro xs hb
    exact ⟨true, SC.law_FnExactSameChains xs.1 xs.2.1 (SC.bChain_of _ hb.1) (SC.bChain_of _ hb.2.1), rfl, rfl⟩

set_option maxRecDepth 100000 in
theorem lifted (os : Os) (started : os.Started) (H : Type) (enc : TypeId × Value → H) :
    ReturnsInHanded {} Try.checked os 3 .any (Rows.fnExactSameChainsSpec.pre6 enc Try.prog Try.f3 Rows.fnExactSameChainsRow.domain false) (Rows.fnExactSameChainsSpec.post enc Try.prog Try.f3 false true false false) := by
  refine returnsInHanded_of_change (C := Try.checked) own started (by kernel_rfl) Try.func3
    (ChangeSpec.witness6 (enc := enc) (C := Try.checked) false ⟨#[], #[zeroV SC.s16, zeroV SC.s16], []⟩ 8 (by kernel_rfl) (by kernel_rfl) (by kernel_rfl) (by kernel_rfl)) ?_
  intro W base args ds gs before hval hW _ _
  exact contract H enc W base args ds gs before hval hW

theorem proved : Rows.FnExactSameChainsSaid :=
  OpenClaim.holds_of_wide 3 Try.f3 rfl rfl rfl rfl rfl rfl rfl ⟨rfl, rfl, rfl, rfl, rfl⟩ rfl rfl rfl rfl rfl (by kernel_rfl) Try.func3 (by kernel_rfl)
    (of_decide_eq_true (by kernel_rfl)) (by unfold Func.isWrapper; first | (rw [if_pos (by decide +kernel)]; kernel_rfl) | (rw [if_neg (by decide +kernel)]; exact ⟨rfl, rfl⟩))
    (fun os started H enc _ => lifted os started H enc)
#print axioms proved
end Go.Proofs.Ytdlnpjjdenahoaa.fnExactSameChains
