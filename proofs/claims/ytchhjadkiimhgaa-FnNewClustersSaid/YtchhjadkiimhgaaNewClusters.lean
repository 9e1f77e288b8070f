/- FnNewClusters returns true whatever its arguments are, and they read behind the call as before. Conditions: none beyond the row's own -/
import Derived.Test.YtchhjadkiimhgaaRows
import Derived.Test.YtchhjadkiimhgaaJf
import Derived.Test.YtchhjadkiimhgaaSct
import Derived.Test.YtchhjadkiimhgaaPla
import Derived.ProofKit
set_option linter.unusedVariables false
set_option linter.unusedSimpArgs false
namespace Go.Proofs.Ytchhjadkiimhgaa.fnNewClusters
open Go.ChangeShapes Go.WideShapes Go.ChangeAt Go.RowKit Go.Dx
theorem own:ownKnob Try.prog.godebug=none:=by kernel_rfl
theorem laidOut:laidOutB Try.prog=true:=by kernel_rfl
set_option maxRecDepth 100000 in
theorem contract (H:Type) (enc:TypeId×Value→H) (W:World) (base:Nat) (args:Array Value) (ds gs:List (DataW H)) (before:List MemPlace)
  (hval:∀(j:Nat) t v,Try.f3.params[j]? = some t→args[j]? = some v→Value.okWide Try.prog W .any base t v)
  (hW:DataW.Whole enc Try.prog Try.f3.params.toList Rows.fnNewClustersSpec.vars false W args.toList ds gs before) :
  Calls Try.prog 3 args W fun e W'=>∃v,e=.returned v∧Rows.fnNewClustersSpec.post enc Try.prog Try.f3 false true false false W args v W':=by
 refine law_calls (C:=CL.X0) (K:=CL.K_laws_FnNewClusters) CL.tysOk CL.c_laws_FnNewClusters ?_ (by kernel_rfl) Try.underlying4 rfl laidOut ?_ ?_ hval hW ?_
 ·rw[Try.params3]
  exact⟨⟨_,rfl,rfl,rfl⟩,rfl,trivial⟩
 ·rw[Try.params3]
  intro t ht
  have ht:t ∈ ([22]:List Nat):=ht
  simp only[List.mem_cons,List.not_mem_nil,or_false] at ht
  rcases ht with rfl<;>exact⟨by kernel_rfl,of_decide_eq_true (by kernel_rfl)⟩
 ·rw[Try.params3]
  intro ds hds
  match ds,hds with
  | [d0],_=>rfl
 ·intro xs hb
  exact⟨true,CL.law_FnNewClusters xs.1 hb.1,rfl,rfl⟩
set_option maxRecDepth 100000 in
theorem lifted (os:Os) (started:os.Started) (H:Type) (enc:TypeId×Value→H) :
  ReturnsInHanded {} Try.checked os 3 .any (Rows.fnNewClustersSpec.pre6 enc Try.prog Try.f3 Rows.fnNewClustersRow.domain false) (Rows.fnNewClustersSpec.post enc Try.prog Try.f3 false true false false):=by
 refine returnsInHanded_of_change (C:=Try.checked) own started (by kernel_rfl) Try.func3
  (ChangeSpec.witness6 (enc:=enc) (C:=Try.checked) false ⟨#[],#[zeroV (.list (.int .u8))],[]⟩ 8 (by kernel_rfl) (by kernel_rfl) (by kernel_rfl) (by kernel_rfl)) ?_
 intro W base args ds gs before hval hW _ _
 exact contract H enc W base args ds gs before hval hW
theorem proved:Rows.FnNewClustersSaid:=
 OpenClaim.holds_of_wide 3 Try.f3 rfl rfl rfl rfl rfl rfl rfl ⟨rfl,rfl,rfl,rfl,rfl⟩ rfl rfl rfl rfl rfl (by kernel_rfl) Try.func3 closed
  (of_decide_eq_true (by kernel_rfl)) (by unfold Func.isWrapper;first | (rw[if_pos (by decide +kernel)];kernel_rfl) | (rw[if_neg (by decide +kernel)];exact⟨rfl,rfl⟩))
  (fun os started H enc _=>lifted os started H enc)
#print axioms proved
end Go.Proofs.Ytchhjadkiimhgaa.fnNewClusters
