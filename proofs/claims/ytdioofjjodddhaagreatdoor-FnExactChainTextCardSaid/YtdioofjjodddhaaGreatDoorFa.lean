/- The row of FnExactChainText holds. Conditions: none beyond the row's own -/
import Derived.Test.YtdioofjjodddhaaGreatDoorTie
import Derived.Test.YtdioofjjodddhaaGreatDoorCards
import Derived.Test.YtdioofjjodddhaaGreatDoorRows
import Derived.Test.YtdioofjjodddhaaGreatDoorJf
import Derived.Test.YtdioofjjodddhaaGreatDoorSct
import Derived.Test.YtdioofjjodddhaaGreatDoorPlb
import Derived.ProofKit
set_option linter.unusedVariables false
set_option linter.unusedSimpArgs false
namespace Go.Proofs.YtdioofjjodddhaaGreatDoor.fnExactChainText
open Go.ChangeShapes Go.WideShapes Go.ChangeAt Go.RowKit Go.Dx
theorem own:ownKnob Tryz.prog.godebug=none:=by kernel_rfl
theorem laidOut:laidOutB Tryz.prog=true:=by kernel_rfl
set_option maxRecDepth 100000 in
theorem contract (H:Type) (enc:TypeId×Value->H) (W:World) (hT:Lib.TabIs Tryz.prog W "internal/strconv.uint64pow10" .u64 Lib.pow10Tab) (hM:∃m,W.cell? ⟨1,0,none⟩=some (.int .i64 m)) (hS:Go.Dx.QfF Tryz.prog W) (base:Nat) (args:Array Value) (U gs:List (DataW H)) (before:List MemPlace)
  (I:∀(j:Nat) t v,Tryz.f3.params[j]? = some t->args[j]? = some v->Value.okWide Tryz.prog W .any base t v)
  (hW:DataW.Whole enc Tryz.prog Tryz.f3.params.toList Rows.fnExactChainTextSpec.vars false W args.toList U gs before) :
  Calls Tryz.prog 3 args W fun e W'=>∃v,e=.returned v/\Rows.fnExactChainTextSpec.post enc Tryz.prog Tryz.f3 false true false false W args v W':=by
 refine Qfc (C:=GL.X0) (K:=GL.J6) GL.QpO (GL.Qgc hT hM hS) ?_ (by kernel_rfl) Tryz.underlying4 rfl laidOut ?_ ?_ I hW ?_
 ·rw[Tryz.params3]
  exact⟨⟨_,rfl,rfl,rfl⟩,rfl,trivial⟩
 ·rw[Tryz.params3]
  intro t J;have J:t ∈ ([34]:List Nat):=J
  simp only[List.mem_cons,List.not_mem_nil,or_false] at J;rcases J with rfl<;>exact⟨by kernel_rfl,of_decide_eq_true (by kernel_rfl)⟩
 ·rw[Tryz.params3]
  intro U hds
  match U,hds with
  | [d0],_=>rfl
 ·intro xs hb
  exact⟨true,GL.QhO xs.1 (GL.Qq4 xs.1 hb.1),rfl,rfl⟩
theorem tab {W:World} (h:laidMetH Tryz.prog Rows.fnExactChainTextRow.laid W):Lib.TabIs Tryz.prog W "internal/strconv.uint64pow10" .u64 Lib.pow10Tab:=by
 rw[MakeChecks.laidMetH_plain _ _ _ (by kernel_rfl)] at h
 refine Go.Dx.Qot (g:=0) (t:=328) (e:=284) (n:=20) (by kernel_rfl) (by kernel_rfl) Tryz.underlying328 Tryz.underlying284 (by kernel_rfl) (by kernel_rfl) h ?_
 have e:(Lib.tabData .u64 Lib.pow10Tab:DataW Unit)=Rows.laid_internal_strconv_uint64pow10:=by kernel_rfl
 rw[e];unfold Rows.fnExactChainTextRow;simp
theorem errs {W:World} (h:laidMetH Tryz.prog Rows.fnExactChainTextRow.laid W):Go.Dx.QfF Tryz.prog W:=by
 rw[MakeChecks.laidMetH_plain _ _ _ (by kernel_rfl)] at h
 refine Go.Dx.QoM (g1:=2) (g2:=3) (ti:=270) (x1:=Rows.laid_strconv_ErrSyntax) (x2:=Rows.laid_strconv_ErrRange) (by kernel_rfl) (by kernel_rfl) (by kernel_rfl) (by kernel_rfl) Tryz.underlying270 h rfl rfl ?_ ?_
 ·unfold Rows.fnExactChainTextRow
  simp
 ·unfold Rows.fnExactChainTextRow
  simp
set_option maxRecDepth 100000 in
theorem lifted (os:Os) (started:os.Started) (H:Type) (enc:TypeId×Value->H) :
  ReturnsInHanded {} Tryz.checked os 3 .any (fun w args=>(Rows.fnExactChainTextSpec.pre enc Tryz.prog Tryz.f3 Rows.fnExactChainTextRow.domain false w args/\laidMetH Tryz.prog Rows.fnExactChainTextRow.laid w)/\sizedMet enc Tryz.prog Tryz.f3 (OpenSpec.ofChange Rows.fnExactChainTextSpec) false w args) (Rows.fnExactChainTextSpec.post enc Tryz.prog Tryz.f3 false true false false):=by
 refine Qmo (C:=Tryz.checked) (X:=fun w _=>laidMetH Tryz.prog Rows.fnExactChainTextRow.laid w) (fun _ _ _ hh h=>h.of_heap hh) own started (by kernel_rfl) Tryz.func3
  (ChangeSpec.witness_shaped (enc:=enc) (C:=Tryz.checked) (os:=os) (X:=fun w _=>laidMetH Tryz.prog Rows.fnExactChainTextRow.laid w) false (World.laidAll Tryz.prog os Rows.fnExactChainTextRow.laid) #[zeroV (.prod (.prod (.list .str) (.list (.prod (.int .i64) (.int .i64)))) (.prod (.list (.prod (.int .i64) (.prod (.int .i64) (.int .i64)))) (.prod (.list (.int .i64)) (.prod (.prod (.int .i64) (.prod (.int .i64) (.prod (.list (.prod (.prod (.int .i64) (.int .i64)) (.prod (.prod (.int .i64) (.prod (.list (.int .i64)) (.prod (.int .i64) (.int .i64)))) (.prod (.int .i64) .bool)))) (.list (.prod (.int .i64) (.prod (.int .i64) (.int .i64))))))) (.list (.prod (.int .i64) (.prod (.list (.list (.prod (.prod (.int .i64) (.int .i64)) (.prod (.prod (.int .i64) (.prod (.list (.int .i64)) (.prod (.int .i64) (.int .i64)))) (.prod (.int .i64) .bool))))) (.list (.prod (.int .i64) (.prod (.int .i64) (.int .i64)))))))))))] 8 (World.laidAll_os _ _ _)
   (World.shaped_of_ZipB (by kernel_rfl) (by kernel_rfl)) (by kernel_rfl) (by kernel_rfl) (by kernel_rfl)
   (by rw[MakeChecks.laidMetH_plain _ _ _ (by kernel_rfl)];exact laidMet_laidAll _ (by kernel_rfl) (by kernel_rfl))) ?_
 intro W base args ds gs before J U I hW;exact contract H enc W (tab U) (Tryz.laySplit.s1_3 W J) (errs U) base args ds gs before I hW
theorem Qql:Rows.FnExactChainTextSaid:=
 OpenClaim.holds_of_wide 3 Tryz.f3 rfl rfl rfl rfl rfl rfl rfl ⟨rfl,rfl,rfl,rfl,rfl⟩ rfl rfl rfl rfl rfl (by kernel_rfl) Tryz.func3 closed
  (of_decide_eq_true (by kernel_rfl)) (by unfold Func.isWrapper;first | (rw[if_pos (by decide +kernel)];kernel_rfl) | (rw[if_neg (by decide +kernel)];exact⟨rfl,rfl⟩))
  (fun os started H enc _=>lifted os started H enc)
end Go.Proofs.YtdioofjjodddhaaGreatDoor.fnExactChainText
