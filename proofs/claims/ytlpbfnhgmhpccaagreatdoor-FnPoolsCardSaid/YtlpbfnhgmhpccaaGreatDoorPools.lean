/- FnPools returns true whatever its arguments are, and they read behind the call as before. Conditions: none beyond the row's own -/
import Derived.Test.YtlpbfnhgmhpccaaGreatDoorTie
import Derived.Test.YtlpbfnhgmhpccaaGreatDoorCards
import Derived.Test.YtlpbfnhgmhpccaaGreatDoorRows
import Derived.Test.YtlpbfnhgmhpccaaGreatDoorJf
import Derived.Test.YtlpbfnhgmhpccaaGreatDoorSct
import Derived.Test.YtlpbfnhgmhpccaaGreatDoorPlb
import Derived.ProofKit
set_option linter.unusedVariables false
set_option linter.unusedSimpArgs false
namespace Go.Proofs.YtlpbfnhgmhpccaaGreatDoor.fnPools
open Go.ChangeShapes Go.WideShapes Go.ChangeAt Go.RowKit Go.Dx
theorem own:ownKnob Tryz.prog.godebug=none:=by kernel_rfl
theorem laidOut:laidOutB Tryz.prog=true:=by kernel_rfl
set_option maxRecDepth 100000 in
theorem contract (H:Type) (enc:TypeId×Value->H) (W:World) (hT:Lib.TabIs Tryz.prog W "internal/strconv.uint64pow10" .u64 Lib.pow10Tab) (hM:∃m,W.cell? ⟨0,0,none⟩=some (.int .i64 m)) (hS:Go.Dx.ZT Tryz.prog W) (base:Nat) (args:Array Value) (J gs:List (DataW H)) (before:List MemPlace)
  (I:∀(j:Nat) t v,Tryz.f3.params[j]? = some t->args[j]? = some v->Value.okWide Tryz.prog W .any base t v)
  (hW:DataW.Whole enc Tryz.prog Tryz.f3.params.toList Rows.fnPoolsSpec.vars false W args.toList J gs before) :
  Calls Tryz.prog 3 args W fun e W'=>∃v,e=.returned v/\Rows.fnPoolsSpec.post enc Tryz.prog Tryz.f3 false true false false W args v W':=by
 refine Qji (C:=GL.X0) (K:=GL.QhY) GL.QAO (GL.Qsc hT hM hS) ?_ (by kernel_rfl) Tryz.underlying4 rfl laidOut ?_ ?_ I hW ?_
 ·rw[Tryz.params3]
  exact⟨⟨_,rfl,rfl,rfl⟩,rfl,trivial⟩
 ·rw[Tryz.params3]
  intro t ht;have ht:t ∈ ([22]:List Nat):=ht
  simp only[List.mem_cons,List.not_mem_nil,or_false] at ht;rcases ht with rfl<;>exact⟨by kernel_rfl,of_decide_eq_true (by kernel_rfl)⟩
 ·rw[Tryz.params3]
  intro J U
  match J,U with
  | [d0],_=>rfl
 ·intro xs hb
  exact⟨true,GL.Qy0 xs.1 hb.1,rfl,rfl⟩
theorem tab {W:World} (h:laidMetH Tryz.prog Rows.fnPoolsRow.laid W):Lib.TabIs Tryz.prog W "internal/strconv.uint64pow10" .u64 Lib.pow10Tab:=by
 rw[MakeChecks.laidMetH_plain _ _ _ (by kernel_rfl)] at h
 refine Go.Dx.QyJ (g:=3) (t:=327) (e:=292) (n:=20) (by kernel_rfl) (by kernel_rfl) Tryz.underlying327 Tryz.underlying292 (by kernel_rfl) (by kernel_rfl) h ?_
 have e:(Lib.tabData .u64 Lib.pow10Tab:DataW Unit)=Rows.laid_internal_strconv_uint64pow10:=by kernel_rfl
 rw[e];unfold Rows.fnPoolsRow;simp
theorem errs {W:World} (h:laidMetH Tryz.prog Rows.fnPoolsRow.laid W):Go.Dx.ZT Tryz.prog W:=by
 rw[MakeChecks.laidMetH_plain _ _ _ (by kernel_rfl)] at h
 refine Go.Dx.Qy8 (g1:=1) (g2:=2) (ti:=222) (x1:=Rows.laid_strconv_ErrSyntax) (x2:=Rows.laid_strconv_ErrRange) (by kernel_rfl) (by kernel_rfl) (by kernel_rfl) (by kernel_rfl) Tryz.underlying222 h rfl rfl ?_ ?_
 ·unfold Rows.fnPoolsRow
  simp
 ·unfold Rows.fnPoolsRow
  simp
set_option maxRecDepth 100000 in
theorem lifted (os:Os) (started:os.Started) (H:Type) (enc:TypeId×Value->H) :
  ReturnsInHanded {} Tryz.checked os 3 .any (fun w args=>(Rows.fnPoolsSpec.pre enc Tryz.prog Tryz.f3 Rows.fnPoolsRow.domain false w args/\laidMetH Tryz.prog Rows.fnPoolsRow.laid w)/\sizedMet enc Tryz.prog Tryz.f3 (OpenSpec.ofChange Rows.fnPoolsSpec) false w args) (Rows.fnPoolsSpec.post enc Tryz.prog Tryz.f3 false true false false):=by
 refine QvR (C:=Tryz.checked) (X:=fun w _=>laidMetH Tryz.prog Rows.fnPoolsRow.laid w) (fun _ _ _ hh h=>h.of_heap hh) own started (by kernel_rfl) Tryz.func3
  (ChangeSpec.witness_shaped (enc:=enc) (C:=Tryz.checked) (os:=os) (X:=fun w _=>laidMetH Tryz.prog Rows.fnPoolsRow.laid w) false (World.laidAll Tryz.prog os Rows.fnPoolsRow.laid) #[zeroV (.list (.int .u8))] 8 (World.laidAll_os _ _ _)
   (World.shaped_of_ZipB (by kernel_rfl) (by kernel_rfl)) (by kernel_rfl) (by kernel_rfl) (by kernel_rfl)
   (by rw[MakeChecks.laidMetH_plain _ _ _ (by kernel_rfl)];exact laidMet_laidAll _ (by kernel_rfl) (by kernel_rfl))) ?_
 intro W base args ds gs before J U I hW;exact contract H enc W (tab U) (Tryz.laySplit.s1_3 W J) (errs U) base args ds gs before I hW
theorem QB3:Rows.FnPoolsSaid:=
 OpenClaim.holds_of_wide 3 Tryz.f3 rfl rfl rfl rfl rfl rfl rfl ⟨rfl,rfl,rfl,rfl,rfl⟩ rfl rfl rfl rfl rfl (by kernel_rfl) Tryz.func3 closed
  (of_decide_eq_true (by kernel_rfl)) (by unfold Func.isWrapper;first | (rw[if_pos (by decide +kernel)];kernel_rfl) | (rw[if_neg (by decide +kernel)];exact⟨rfl,rfl⟩))
  (fun os started H enc _=>lifted os started H enc)
theorem proved:Rows.FnPoolsCardSaid:=
 Claim7.holds_tied_plain_at .later [] [.data,.data,.data,.data,.sentinel,.sentinel,.pinned] true (true,"895fab8a7f85488edaee7941cd1d96de0179baf8ae8cd374e18eb0551a73bc19") true
  QB3 (fun _ h=>by cases h) (by kernel_rfl) (fun _ h=>by cases h) fnPools_row_tie rfl ⟨rfl,rfl⟩ (by kernel_rfl) rfl
  (fun f fn U J=>by
   obtain rfl:f=3:=Option.some.inj ((show Tryz.prog.funcNamed "loop.example/g00304/laws.FnPools" = some 3 by kernel_rfl).symm.trans U) |>.symm
   obtain rfl:fn=Tryz.f3:=(Option.some.inj (Tryz.func3.symm.trans J)).symm;exact⟨by kernel_rfl,fun j t ht=>by
    rw[Tryz.params3] at ht;have hm:t ∈ [22]:=by simpa using Array.mem_of_getElem? ht
    have I:([22].all fun u=>!Tryz.prog.wantsStandIn u)=true:=by kernel_rfl
    exact (show Tryz.prog.wantsStandIn t=false by simpa using List.all_eq_true.1 I t hm)⟩)
  (by kernel_rfl)
#print axioms proved
end Go.Proofs.YtlpbfnhgmhpccaaGreatDoor.fnPools
