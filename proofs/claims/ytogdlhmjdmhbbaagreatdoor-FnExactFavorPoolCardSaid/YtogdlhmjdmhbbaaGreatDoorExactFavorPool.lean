/- FnExactFavorPool returns true whatever its arguments are, and they read behind the call as before. Conditions: none beyond the row's own -/
import Derived.Test.YtogdlhmjdmhbbaaGreatDoorTie
import Derived.Test.YtogdlhmjdmhbbaaGreatDoorCards
import Derived.Test.YtogdlhmjdmhbbaaGreatDoorRows
import Derived.Test.YtogdlhmjdmhbbaaGreatDoorJf
import Derived.Test.YtogdlhmjdmhbbaaGreatDoorSct
import Derived.Test.YtogdlhmjdmhbbaaGreatDoorPla
import Derived.ProofKit
set_option linter.unusedVariables false
set_option linter.unusedSimpArgs false
namespace Go.Proofs.YtogdlhmjdmhbbaaGreatDoor.fnExactFavorPool
open Go.ChangeShapes Go.WideShapes Go.ChangeAt Go.RowKit Go.Dx
theorem own:ownKnob Tryz.prog.godebug=none:=by kernel_rfl
theorem laidOut:laidOutB Tryz.prog=true:=by kernel_rfl
set_option maxRecDepth 100000 in
theorem contract (H:Type) (enc:TypeId×Value->H) (W:World) (hT:Lib.TabIs Tryz.prog W "internal/strconv.uint64pow10" .u64 Lib.pow10Tab) (hM:∃m,W.cell? ⟨0,0,none⟩=some (.int .i64 m)) (hS:Go.Dx.JV Tryz.prog W) (base:Nat) (args:Array Value) (ds gs:List (DataW H)) (before:List MemPlace)
  (hval:∀(j:Nat) t v,Tryz.f8.params[j]? = some t->args[j]? = some v->Value.okWide Tryz.prog W .any base t v)
  (hW:DataW.Whole enc Tryz.prog Tryz.f8.params.toList Rows.fnExactFavorPoolSpec.vars false W args.toList ds gs before) :
  Calls Tryz.prog 8 args W fun e W'=>∃v,e=.returned v/\Rows.fnExactFavorPoolSpec.post enc Tryz.prog Tryz.f8 false true false false W args v W':=by
 refine Qij (C:=GL.X0) (K:=GL.QLT) GL.Qe (GL.QMc hT hM hS) ?_ (by kernel_rfl) Tryz.underlying4 rfl laidOut ?_ ?_ hval hW ?_
 ·rw[Tryz.params8]
  exact⟨⟨_,rfl,rfl,rfl⟩,rfl,⟨_,rfl,rfl,rfl⟩,rfl,⟨_,rfl,rfl,rfl⟩,rfl,⟨_,rfl,rfl,rfl⟩,rfl,trivial⟩
 ·rw[Tryz.params8]
  intro t ht
  have ht:t ∈ ([25,29,30,2]:List Nat):=ht
  simp only[List.mem_cons,List.not_mem_nil,or_false] at ht
  rcases ht with rfl | rfl | rfl | rfl<;>exact⟨by kernel_rfl,of_decide_eq_true (by kernel_rfl)⟩
 ·rw[Tryz.params8]
  intro ds hds
  match ds,hds with
  | [d0,d1,d2,d3],_=>rfl
 ·intro xs hb
  exact⟨true,GL.QMf xs.1 xs.2.1 xs.2.2.1 xs.2.2.2.1 (GL.QC0 _ hb.1) (GL.QEh _ hb.2.1) (GL.QEP _ hb.2.2.1),rfl,rfl⟩
theorem tab {W:World} (h:laidMetH Tryz.prog Rows.fnExactFavorPoolRow.laid W):Lib.TabIs Tryz.prog W "internal/strconv.uint64pow10" .u64 Lib.pow10Tab:=by
 rw[MakeChecks.laidMetH_plain _ _ _ (by kernel_rfl)] at h
 refine Go.Dx.QB5 (g:=1) (t:=320) (e:=289) (n:=20) (by kernel_rfl) (by kernel_rfl) Tryz.underlying320 Tryz.underlying289 (by kernel_rfl) (by kernel_rfl) h ?_
 have e:(Lib.tabData .u64 Lib.pow10Tab:DataW Unit)=Rows.laid_internal_strconv_uint64pow10:=by kernel_rfl
 rw[e]
 unfold Rows.fnExactFavorPoolRow
 simp
theorem errs {W:World} (h:laidMetH Tryz.prog Rows.fnExactFavorPoolRow.laid W):Go.Dx.JV Tryz.prog W:=by
 rw[MakeChecks.laidMetH_plain _ _ _ (by kernel_rfl)] at h
 refine Go.Dx.QBO (g1:=2) (g2:=3) (ti:=250) (x1:=Rows.laid_strconv_ErrSyntax) (x2:=Rows.laid_strconv_ErrRange) (by kernel_rfl) (by kernel_rfl) (by kernel_rfl) (by kernel_rfl) Tryz.underlying250 h rfl rfl ?_ ?_
 ·unfold Rows.fnExactFavorPoolRow
  simp
 ·unfold Rows.fnExactFavorPoolRow
  simp
set_option maxRecDepth 100000 in
theorem lifted (os:Os) (started:os.Started) (H:Type) (enc:TypeId×Value->H) :
  ReturnsInHanded {} Tryz.checked os 8 .any (fun w args=>(Rows.fnExactFavorPoolSpec.pre enc Tryz.prog Tryz.f8 Rows.fnExactFavorPoolRow.domain false w args/\laidMetH Tryz.prog Rows.fnExactFavorPoolRow.laid w)/\sizedMet enc Tryz.prog Tryz.f8 (OpenSpec.ofChange Rows.fnExactFavorPoolSpec) false w args) (Rows.fnExactFavorPoolSpec.post enc Tryz.prog Tryz.f8 false true false false):=by
 refine QxH (C:=Tryz.checked) (X:=fun w _=>laidMetH Tryz.prog Rows.fnExactFavorPoolRow.laid w) (fun _ _ _ hh h=>h.of_heap hh) own started (by kernel_rfl) Tryz.func8
  (ChangeSpec.witness_shaped (enc:=enc) (C:=Tryz.checked) (os:=os) (X:=fun w _=>laidMetH Tryz.prog Rows.fnExactFavorPoolRow.laid w) false (World.laidAll Tryz.prog os Rows.fnExactFavorPoolRow.laid) #[zeroV (.prod (.list .str) (.list (.prod (.int .i64) (.int .i64)))),zeroV (.prod (.int .i64) (.prod (.int .i64) (.prod (.list (.prod (.prod (.int .i64) (.int .i64)) (.prod (.prod (.int .i64) (.prod (.list (.int .i64)) (.prod (.int .i64) (.int .i64)))) (.prod (.int .i64) .bool)))) (.list (.prod (.int .i64) (.prod (.int .i64) (.int .i64))))))),zeroV (.list (.int .i64)),zeroV (.int .i64)] 8 (World.laidAll_os _ _ _)
   (World.shaped_of_ZipB (by kernel_rfl) (by kernel_rfl)) (by kernel_rfl) (by kernel_rfl) (by kernel_rfl)
   (by rw[MakeChecks.laidMetH_plain _ _ _ (by kernel_rfl)];exact laidMet_laidAll _ (by kernel_rfl) (by kernel_rfl))) ?_
 intro W base args ds gs before hsh hL hval hW
 exact contract H enc W (tab hL) (Tryz.laySplit.s1_3 W hsh) (errs hL) base args ds gs before hval hW
theorem QD5:Rows.FnExactFavorPoolSaid:=
 OpenClaim.holds_of_wide 8 Tryz.f8 rfl rfl rfl rfl rfl rfl rfl ⟨rfl,rfl,rfl,rfl,rfl⟩ rfl rfl rfl rfl rfl (by kernel_rfl) Tryz.func8 closed
  (of_decide_eq_true (by kernel_rfl)) (by unfold Func.isWrapper;first | (rw[if_pos (by decide +kernel)];kernel_rfl) | (rw[if_neg (by decide +kernel)];exact⟨rfl,rfl⟩))
  (fun os started H enc _=>lifted os started H enc)
theorem proved:Rows.FnExactFavorPoolCardSaid:=
 Claim7.holds_tied_plain_at .later [] [.data,.data,.data,.data,.sentinel,.sentinel,.pinned] true (true,"26724d398817e55ba3ce333b1c71e8f350a30f28eb5fa72e381c9f25494c260a") true
  QD5 (fun _ h=>by cases h) (by kernel_rfl) (fun _ h=>by cases h) fnExactFavorPool_row_tie rfl ⟨rfl,rfl⟩ (by kernel_rfl) rfl
  (fun f fn hf hfn=>by
   obtain rfl:f=8:=Option.some.inj ((show Tryz.prog.funcNamed "loop.example/g00304/laws.FnExactFavorPool" = some 8 by kernel_rfl).symm.trans hf) |>.symm
   obtain rfl:fn=Tryz.f8:=(Option.some.inj (Tryz.func8.symm.trans hfn)).symm
   exact⟨by kernel_rfl,fun j t ht=>by
    rw[Tryz.params8] at ht
    have hm:t ∈ [25,29,30,2]:=by simpa using Array.mem_of_getElem? ht
    have hall:([25,29,30,2].all fun u=>!Tryz.prog.wantsStandIn u)=true:=by kernel_rfl
    exact (show Tryz.prog.wantsStandIn t=false by simpa using List.all_eq_true.1 hall t hm)⟩)
  (by kernel_rfl)
#print axioms proved
end Go.Proofs.YtogdlhmjdmhbbaaGreatDoor.fnExactFavorPool
