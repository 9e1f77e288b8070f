/- FnExactLockBlock returns true whatever its arguments are, and they read behind the call as before. Conditions: none beyond the row's own -/
import Derived.Test.YtmklfdnhndakcaaGreatDoorTie
import Derived.Test.YtmklfdnhndakcaaGreatDoorCards
import Derived.Test.YtmklfdnhndakcaaGreatDoorRows
import Derived.Test.YtmklfdnhndakcaaGreatDoorFa
import Derived.ProofKit
set_option linter.unusedVariables false
set_option linter.unusedSimpArgs false
namespace Go.Proofs.YtmklfdnhndakcaaGreatDoor.fnExactLockBlock
open Go.ChangeShapes Go.WideShapes Go.ChangeAt Go.RowKit Go.Dx
theorem proved:Rows.FnExactLockBlockCardSaid:=
 Claim7.holds_tied_plain_at .later [] [.data,.data,.data,.data,.sentinel,.sentinel,.pinned] true (true,"5bf6251738c656300bbe7563301b3d1aff06bf88853c8b8bce638fda322f28d0") true
  Qt0 (fun _ h=>by cases h) (by kernel_rfl) (fun _ h=>by cases h) fnExactLockBlock_row_tie rfl ⟨rfl,rfl⟩ (by kernel_rfl) rfl
  (fun f fn hf J=>by
   obtain rfl:f=3:=Option.some.inj ((show Tryz.prog.funcNamed "loop.example/g00304/laws.FnExactLockBlock" = some 3 by kernel_rfl).symm.trans hf) |>.symm
   obtain rfl:fn=Tryz.f3:=(Option.some.inj (Tryz.func3.symm.trans J)).symm;exact⟨by kernel_rfl,fun j t U=>by
    rw[Tryz.params3] at U;have hm:t ∈ [34,2]:=by simpa using Array.mem_of_getElem? U
    have I:([34,2].all fun u=>!Tryz.prog.wantsStandIn u)=true:=by kernel_rfl
    exact (show Tryz.prog.wantsStandIn t=false by simpa using List.all_eq_true.1 I t hm)⟩)
  (Go.Dx.Qtz (by kernel_rfl) _ _)
#print axioms proved
end Go.Proofs.YtmklfdnhndakcaaGreatDoor.fnExactLockBlock
