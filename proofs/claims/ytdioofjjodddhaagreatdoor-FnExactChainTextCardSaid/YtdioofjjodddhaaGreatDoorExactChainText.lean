/- FnExactChainText returns true whatever its arguments are, and they read behind the call as before. Conditions: none beyond the row's own -/
import Derived.Test.YtdioofjjodddhaaGreatDoorTie
import Derived.Test.YtdioofjjodddhaaGreatDoorCards
import Derived.Test.YtdioofjjodddhaaGreatDoorRows
import Derived.Test.YtdioofjjodddhaaGreatDoorFa
import Derived.ProofKit
set_option linter.unusedVariables false
set_option linter.unusedSimpArgs false
namespace Go.Proofs.YtdioofjjodddhaaGreatDoor.fnExactChainText
open Go.ChangeShapes Go.WideShapes Go.ChangeAt Go.RowKit Go.Dx
theorem no_goes {P : Program} (h : P.funcs.any Func.goes = false) (f : FuncId) : P.goes f = false := by
  have h1 : ∀ (g : Nat), (P.funcs[g]?).any Func.goes = false := fun g => by
    cases hg : P.funcs[g]? with
    | none => rfl
    | some fn =>
      rw [Array.any_eq_false'] at h
      have := h fn (Array.mem_of_getElem? hg)
      simpa using this
  unfold Program.goes
  simp [h1, h]
theorem no_goesAt {P : Program} (h : P.funcs.any Func.goes = false) (s : Start) (n : String) : false = P.goesAt s n := by
  have h1 := no_goes h
  unfold Program.goesAt Program.goesFrom
  cases P.funcNamed n <;> cases s <;> simp [h1]
theorem proved:Rows.FnExactChainTextCardSaid:=
 Claim7.holds_tied_plain_at .later [] [.data,.data,.data,.data,.sentinel,.sentinel,.pinned] true (true,"557e8af944734ec00744a29eb6a29ec98663b5d18853cbb1e697e29505623951") true
  Qql (fun _ h=>by cases h) (by kernel_rfl) (fun _ h=>by cases h) fnExactChainText_row_tie rfl ⟨rfl,rfl⟩ (by kernel_rfl) rfl
  (fun f fn hf J=>by
   obtain rfl:f=3:=Option.some.inj ((show Tryz.prog.funcNamed "loop.example/g00304/laws.FnExactChainText" = some 3 by kernel_rfl).symm.trans hf) |>.symm
   obtain rfl:fn=Tryz.f3:=(Option.some.inj (Tryz.func3.symm.trans J)).symm;exact⟨by kernel_rfl,fun j t U=>by
    rw[Tryz.params3] at U;have hm:t ∈ [34]:=by simpa using Array.mem_of_getElem? U
    have I:([34].all fun u=>!Tryz.prog.wantsStandIn u)=true:=by kernel_rfl
    exact (show Tryz.prog.wantsStandIn t=false by simpa using List.all_eq_true.1 I t hm)⟩)
  (no_goesAt (by kernel_rfl) _ _)
#print axioms proved
end Go.Proofs.YtdioofjjodddhaaGreatDoor.fnExactChainText
