/- The row of FnExactLockBlock holds. Conditions: none beyond the row's own -/
import Derived.Test.YtmklfdnhndakcaaGreatDoorTie
import Derived.Test.YtmklfdnhndakcaaGreatDoorCards
import Derived.Test.YtmklfdnhndakcaaGreatDoorRows
import Derived.Test.YtmklfdnhndakcaaGreatDoorJf
import Derived.Test.YtmklfdnhndakcaaGreatDoorSct
import Derived.Test.YtmklfdnhndakcaaGreatDoorPlb
import Derived.ProofKit
set_option linter.unusedVariables false
set_option linter.unusedSimpArgs false
namespace Go.Proofs.YtmklfdnhndakcaaGreatDoor.fnExactLockBlock
open Go.ChangeShapes Go.WideShapes Go.ChangeAt Go.RowKit Go.Dx
theorem own:ownKnob Tryz.prog.godebug=none:=by kernel_rfl
theorem laidOut:laidOutB Tryz.prog=true:=by kernel_rfl
set_option maxRecDepth 100000 in
theorem contract (H:Type) (enc:TypeId×Value->H) (W:World) (hT:Lib.TabIs Tryz.prog W "internal/strconv.uint64pow10" .u64 Lib.pow10Tab) (hM:∃m,W.cell? ⟨0,0,none⟩=some (.int .i64 m)) (hS:Go.Dx.Qg8 Tryz.prog W) (base:Nat) (args:Array Value) (U gs:List (DataW H)) (before:List MemPlace)
  (I:∀(j:Nat) t v,Tryz.f3.params[j]? = some t->args[j]? = some v->Value.okWide Tryz.prog W .any base t v)
  (hW:DataW.Whole enc Tryz.prog Tryz.f3.params.toList Rows.fnExactLockBlockSpec.vars false W args.toList U gs before) :
  Calls Tryz.prog 3 args W fun e W'=>∃v,e=.returned v/\Rows.fnExactLockBlockSpec.post enc Tryz.prog Tryz.f3 false true false false W args v W':=by
 refine QgH (C:=GL.X0) (K:=GL.Qem) GL.QsL (GL.QhP hT hM hS) ?_ (by kernel_rfl) Tryz.underlying4 rfl laidOut ?_ ?_ I hW ?_
 ·rw[Tryz.params3]
  exact⟨⟨_,rfl,rfl,rfl⟩,rfl,⟨_,rfl,rfl,rfl⟩,rfl,trivial⟩
 ·rw[Tryz.params3]
  intro t J;have J:t ∈ ([34,2]:List Nat):=J
  simp only[List.mem_cons,List.not_mem_nil,or_false] at J;rcases J with rfl | rfl<;>exact⟨by kernel_rfl,of_decide_eq_true (by kernel_rfl)⟩
 ·rw[Tryz.params3]
  intro U hds
  match U,hds with
  | [d0,d1],_=>rfl
 ·intro xs hb
  exact⟨true,GL.Qje xs.1 xs.2.1 (GL.Qtv xs.1 hb.1),rfl,rfl⟩
theorem tab {W:World} (h:laidMetH Tryz.prog Rows.fnExactLockBlockRow.laid W):Lib.TabIs Tryz.prog W "internal/strconv.uint64pow10" .u64 Lib.pow10Tab:=by
 rw[MakeChecks.laidMetH_plain _ _ _ (by kernel_rfl)] at h
 refine Go.Dx.QqT (g:=5) (t:=417) (e:=348) (n:=20) (by kernel_rfl) (by kernel_rfl) Tryz.underlying417 Tryz.underlying348 (by kernel_rfl) (by kernel_rfl) h ?_
 have e:(Lib.tabData .u64 Lib.pow10Tab:DataW Unit)=Rows.laid_internal_strconv_uint64pow10:=by kernel_rfl
 rw[e];unfold Rows.fnExactLockBlockRow;simp
theorem errs {W:World} (h:laidMetH Tryz.prog Rows.fnExactLockBlockRow.laid W):Go.Dx.Qg8 Tryz.prog W:=by
 rw[MakeChecks.laidMetH_plain _ _ _ (by kernel_rfl)] at h
 refine Go.Dx.QqU (g1:=1) (g2:=2) (ti:=296) (x1:=Rows.laid_strconv_ErrSyntax) (x2:=Rows.laid_strconv_ErrRange) (by kernel_rfl) (by kernel_rfl) (by kernel_rfl) (by kernel_rfl) Tryz.underlying296 h rfl rfl ?_ ?_
 ·unfold Rows.fnExactLockBlockRow
  simp
 ·unfold Rows.fnExactLockBlockRow
  simp
set_option maxRecDepth 100000 in
theorem lifted (os:Os) (started:os.Started) (H:Type) (enc:TypeId×Value->H) :
  ReturnsInHanded {} Tryz.checked os 3 .any (fun w args=>(Rows.fnExactLockBlockSpec.pre enc Tryz.prog Tryz.f3 Rows.fnExactLockBlockRow.domain false w args/\laidMetH Tryz.prog Rows.fnExactLockBlockRow.laid w)/\sizedMet enc Tryz.prog Tryz.f3 (OpenSpec.ofChange Rows.fnExactLockBlockSpec) false w args) (Rows.fnExactLockBlockSpec.post enc Tryz.prog Tryz.f3 false true false false):=by
 refine QoW (C:=Tryz.checked) (X:=fun w _=>laidMetH Tryz.prog Rows.fnExactLockBlockRow.laid w) (fun _ _ _ hh h=>h.of_heap hh) own started (by kernel_rfl) Tryz.func3
  (ChangeSpec.witness_shaped (enc:=enc) (C:=Tryz.checked) (os:=os) (X:=fun w _=>laidMetH Tryz.prog Rows.fnExactLockBlockRow.laid w) false (World.laidAll Tryz.prog os Rows.fnExactLockBlockRow.laid) #[zeroV (.prod (.prod (.list .str) (.list (.prod (.int .i64) (.int .i64)))) (.prod (.list (.prod (.int .i64) (.prod (.int .i64) (.int .i64)))) (.prod (.list (.int .i64)) (.prod (.prod (.int .i64) (.prod (.int .i64) (.prod (.list (.prod (.prod (.int .i64) (.int .i64)) (.prod (.prod (.int .i64) (.prod (.list (.int .i64)) (.prod (.int .i64) (.int .i64)))) (.prod (.int .i64) .bool)))) (.list (.prod (.int .i64) (.prod (.int .i64) (.int .i64))))))) (.list (.prod (.int .i64) (.prod (.list (.list (.prod (.prod (.int .i64) (.int .i64)) (.prod (.prod (.int .i64) (.prod (.list (.int .i64)) (.prod (.int .i64) (.int .i64)))) (.prod (.int .i64) .bool))))) (.list (.prod (.int .i64) (.prod (.int .i64) (.int .i64))))))))))),zeroV (.int .i64)] 8 (World.laidAll_os _ _ _)
   (World.shaped_of_ZipB (by kernel_rfl) (by kernel_rfl)) (by kernel_rfl) (by kernel_rfl) (by kernel_rfl)
   (by rw[MakeChecks.laidMetH_plain _ _ _ (by kernel_rfl)];exact laidMet_laidAll _ (by kernel_rfl) (by kernel_rfl))) ?_
 intro W base args ds gs before J U I hW;exact contract H enc W (tab U) (Tryz.laySplit.s1_3 W J) (errs U) base args ds gs before I hW
theorem Qt0:Rows.FnExactLockBlockSaid:=
 OpenClaim.holds_of_wide 3 Tryz.f3 rfl rfl rfl rfl rfl rfl rfl ⟨rfl,rfl,rfl,rfl,rfl⟩ rfl rfl rfl rfl rfl (by kernel_rfl) Tryz.func3 closed
  (of_decide_eq_true (by kernel_rfl)) (by unfold Func.isWrapper;first | (rw[if_pos (by decide +kernel)];kernel_rfl) | (rw[if_neg (by decide +kernel)];exact⟨rfl,rfl⟩))
  (fun os started H enc _=>lifted os started H enc)
end Go.Proofs.YtmklfdnhndakcaaGreatDoor.fnExactLockBlock
