/- FnExactMoveTo returns true whatever its arguments are, and they read behind the call as before. Conditions: none beyond the row's own -/
import Derived.Test.YtamhnaplipcapaaGreatDoorTie
import Derived.Test.YtamhnaplipcapaaGreatDoorCards
import Derived.Test.YtamhnaplipcapaaGreatDoorRows
import Derived.Test.YtamhnaplipcapaaGreatDoorFa
import Derived.ProofKit
set_option linter.unusedVariables false
set_option linter.unusedSimpArgs false
namespace Go.Proofs.YtamhnaplipcapaaGreatDoor.fnExactMoveTo
open Go.ChangeShapes Go.WideShapes Go.ChangeAt Go.RowKit Go.Dx
theorem proved:Rows.FnExactMoveToCardSaid:=
 Claim7.holds_tied_plain_at .later [] [.data,.data,.data,.data,.sentinel,.sentinel,.pinned] true (true,"17d53d4b1e046af283a01aec506c21d4dbd09d28e4ca4d62ecad64ca2d552152") true
  Qti (fun _ h=>by cases h) (by kernel_rfl) (fun _ h=>by cases h) fnExactMoveTo_row_tie rfl ⟨rfl,rfl⟩ (by kernel_rfl) rfl
  (fun f fn hf J=>by
   obtain rfl:f=3:=Option.some.inj ((show Tryz.prog.funcNamed "loop.example/g00304/laws.FnExactMoveTo" = some 3 by kernel_rfl).symm.trans hf) |>.symm
   obtain rfl:fn=Tryz.f3:=(Option.some.inj (Tryz.func3.symm.trans J)).symm;exact⟨by kernel_rfl,fun j t U=>by
    rw[Tryz.params3] at U;have hm:t ∈ [34,2]:=by simpa using Array.mem_of_getElem? U
    have I:([34,2].all fun u=>!Tryz.prog.wantsStandIn u)=true:=by kernel_rfl
    exact (show Tryz.prog.wantsStandIn t=false by simpa using List.all_eq_true.1 I t hm)⟩)
  (Go.Dx.Qt2 (by kernel_rfl) _ _)
#print axioms proved
end Go.Proofs.YtamhnaplipcapaaGreatDoor.fnExactMoveTo
