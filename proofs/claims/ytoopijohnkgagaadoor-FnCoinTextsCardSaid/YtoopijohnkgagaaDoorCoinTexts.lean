/- FnCoinTexts returns true whatever its arguments are, and they read behind the call as before. Conditions: none beyond the row's own -/
import Derived.Test.YtoopijohnkgagaaDoorTie
import Derived.Test.YtoopijohnkgagaaDoorCards
import Derived.Test.YtoopijohnkgagaaDoorRows
import Derived.Test.YtoopijohnkgagaaDoorJf
import Derived.Test.YtoopijohnkgagaaDoorSct
import Derived.Test.YtoopijohnkgagaaDoorPla
import Derived.ProofKit
set_option linter.unusedVariables false
set_option linter.unusedSimpArgs false
namespace Go.Proofs.YtoopijohnkgagaaDoor.fnCoinTexts
open Go.ChangeShapes Go.WideShapes Go.ChangeAt Go.RowKit Go.Dx
theorem own:ownKnob Tryd.prog.godebug=none:=by kernel_rfl
theorem laidOut:laidOutB Tryd.prog=true:=by kernel_rfl
set_option maxRecDepth 100000 in
theorem contract (H:Type) (enc:TypeId×Value→H) (W:World) (hT:Lib.TabIs Tryd.prog W "internal/strconv.uint64pow10" .u64 Lib.pow10Tab) (hM:∃m,W.cell? ⟨0,0,none⟩=some (.int .i64 m)) (base:Nat) (args:Array Value) (ds gs:List (DataW H)) (before:List MemPlace)
  (hval:∀(j:Nat) t v,Tryd.f5.params[j]? = some t→args[j]? = some v→Value.okWide Tryd.prog W .any base t v)
  (hW:DataW.Whole enc Tryd.prog Tryd.f5.params.toList Rows.fnCoinTextsSpec.vars false W args.toList ds gs before) :
  Calls Tryd.prog 5 args W fun e W'=>∃v,e=.returned v∧Rows.fnCoinTextsSpec.post enc Tryd.prog Tryd.f5 false true false false W args v W':=by
 refine law_calls (C:=DL.X0) (K:=DL.K_laws_FnCoinTexts) DL.tysOk (DL.c_laws_FnCoinTexts hT hM) ?_ (by kernel_rfl) Tryd.underlying4 rfl laidOut ?_ ?_ hval hW ?_
 ·rw[Tryd.params5]
  exact⟨⟨_,rfl,rfl,rfl⟩,rfl,trivial⟩
 ·rw[Tryd.params5]
  intro t ht
  have ht:t ∈ ([39]:List Nat):=ht
  simp only[List.mem_cons,List.not_mem_nil,or_false] at ht
  rcases ht with rfl<;>exact⟨by kernel_rfl,of_decide_eq_true (by kernel_rfl)⟩
 ·rw[Tryd.params5]
  intro ds hds
  match ds,hds with
  | [d0],_=>rfl
 ·intro xs hb
  exact⟨true,DL.law_FnCoinTexts xs.1 hb.1,rfl,rfl⟩
theorem tab {W:World} (h:laidMetH Tryd.prog Rows.fnCoinTextsRow.laid W):Lib.TabIs Tryd.prog W "internal/strconv.uint64pow10" .u64 Lib.pow10Tab:=by
 rw[MakeChecks.laidMetH_plain _ _ _ (by kernel_rfl)] at h
 refine Go.Dx.tab_of_laid (g:=1) (t:=147) (e:=127) (n:=20) (by kernel_rfl) (by kernel_rfl) Tryd.underlying147 Tryd.underlying127 (by kernel_rfl) (by kernel_rfl) h ?_
 have e:(Lib.tabData .u64 Lib.pow10Tab:DataW Unit)=Rows.laid_internal_strconv_uint64pow10:=by kernel_rfl
 rw[e]
 unfold Rows.fnCoinTextsRow
 simp
set_option maxRecDepth 100000 in
theorem lifted (os:Os) (started:os.Started) (H:Type) (enc:TypeId×Value→H) :
  ReturnsInHanded {} Tryd.checked os 5 .any (fun w args=>(Rows.fnCoinTextsSpec.pre enc Tryd.prog Tryd.f5 Rows.fnCoinTextsRow.domain false w args∧laidMetH Tryd.prog Rows.fnCoinTextsRow.laid w)∧sizedMet enc Tryd.prog Tryd.f5 (OpenSpec.ofChange Rows.fnCoinTextsSpec) false w args) (Rows.fnCoinTextsSpec.post enc Tryd.prog Tryd.f5 false true false false):=by
 refine handed_shaped (C:=Tryd.checked) (X:=fun w _=>laidMetH Tryd.prog Rows.fnCoinTextsRow.laid w) (fun _ _ _ hh h=>h.of_heap hh) own started (by kernel_rfl) Tryd.func5
  (ChangeSpec.witness_shaped (enc:=enc) (C:=Tryd.checked) (os:=os) (X:=fun w _=>laidMetH Tryd.prog Rows.fnCoinTextsRow.laid w) false (World.laidAll Tryd.prog os Rows.fnCoinTextsRow.laid) #[zeroV (.list (.int .u8))] 8 (World.laidAll_os _ _ _)
   (World.shaped_of_ZipB (by kernel_rfl) (by kernel_rfl)) (by kernel_rfl) (by kernel_rfl) (by kernel_rfl)
   (by rw[MakeChecks.laidMetH_plain _ _ _ (by kernel_rfl)];exact laidMet_laidAll _ (by kernel_rfl) (by kernel_rfl))) ?_
 intro W base args ds gs before hsh hL hval hW
 exact contract H enc W (tab hL) (Tryd.laySplit.s1_3 W hsh) base args ds gs before hval hW
theorem row_holds:Rows.FnCoinTextsSaid:=
 OpenClaim.holds_of_wide 5 Tryd.f5 rfl rfl rfl rfl rfl rfl rfl ⟨rfl,rfl,rfl,rfl,rfl⟩ rfl rfl rfl rfl rfl (by kernel_rfl) Tryd.func5 closed
  (of_decide_eq_true (by kernel_rfl)) (by unfold Func.isWrapper;first | (rw[if_pos (by decide +kernel)];kernel_rfl) | (rw[if_neg (by decide +kernel)];exact⟨rfl,rfl⟩))
  (fun os started H enc _=>lifted os started H enc)
theorem proved:Rows.FnCoinTextsCardSaid:=
 Claim7.holds_tied_plain_at .later [] [.data,.data,.data,.data,.pinned] true (true,"9fb128e309fa70bde0e0b1492383e2a09a64231e1331fa74ddc583599a499733") false
  row_holds (fun _ h=>by cases h) (by kernel_rfl) (fun _ h=>by cases h) fnCoinTexts_row_tie rfl ⟨rfl,rfl⟩ (by kernel_rfl) rfl
  (fun f fn hf hfn=>by
   obtain rfl:f=5:=Option.some.inj ((show Tryd.prog.funcNamed "loop.example/g00304/laws.FnCoinTexts" = some 5 by kernel_rfl).symm.trans hf) |>.symm
   obtain rfl:fn=Tryd.f5:=(Option.some.inj (Tryd.func5.symm.trans hfn)).symm
   exact⟨by kernel_rfl,fun j t ht=>by
    rw[Tryd.params5] at ht
    have hm:t ∈ [39]:=by simpa using Array.mem_of_getElem? ht
    have hall:([39].all fun u=>!Tryd.prog.wantsStandIn u)=true:=by kernel_rfl
    exact (show Tryd.prog.wantsStandIn t=false by simpa using List.all_eq_true.1 hall t hm)⟩)
  (by kernel_rfl)
#print axioms proved
end Go.Proofs.YtoopijohnkgagaaDoor.fnCoinTexts
