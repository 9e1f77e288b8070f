/- FnExactWordsOf returns true whatever its arguments are, and they read behind the call as before. Conditions: none beyond the row's own -/
import Derived.Test.YtoopijohnkgagaaDoorTie
import Derived.Test.YtoopijohnkgagaaDoorCards
import Derived.Test.YtoopijohnkgagaaDoorRows
import Derived.Test.YtoopijohnkgagaaDoorJf
import Derived.Test.YtoopijohnkgagaaDoorSct
import Derived.Test.YtoopijohnkgagaaDoorPla
import Derived.ProofKit
set_option linter.unusedVariables false
set_option linter.unusedSimpArgs false
namespace Go.Proofs.YtoopijohnkgagaaDoor.fnExactWordsOf
open Go.ChangeShapes Go.WideShapes Go.ChangeAt Go.RowKit Go.Dx
theorem own:ownKnob Tryd.prog.godebug=none:=by kernel_rfl
theorem laidOut:laidOutB Tryd.prog=true:=by kernel_rfl
set_option maxRecDepth 100000 in
theorem contract (H:Type) (enc:TypeId×Value→H) (W:World) (hM:∃m,W.cell? ⟨0,0,none⟩=some (.int .i64 m)) (base:Nat) (args:Array Value) (ds gs:List (DataW H)) (before:List MemPlace)
  (hval:∀(j:Nat) t v,Tryd.f3.params[j]? = some t→args[j]? = some v→Value.okWide Tryd.prog W .any base t v)
  (hW:DataW.Whole enc Tryd.prog Tryd.f3.params.toList Rows.fnExactWordsOfSpec.vars false W args.toList ds gs before) :
  Calls Tryd.prog 3 args W fun e W'=>∃v,e=.returned v∧Rows.fnExactWordsOfSpec.post enc Tryd.prog Tryd.f3 false true false false W args v W':=by
 refine law_calls (C:=DL.X0) (K:=DL.K_laws_FnExactWordsOf) DL.tysOk (DL.c_laws_FnExactWordsOf hM) ?_ (by kernel_rfl) Tryd.underlying4 rfl laidOut ?_ ?_ hval hW ?_
 ·rw[Tryd.params3]
  exact⟨⟨_,rfl,rfl,rfl⟩,rfl,trivial⟩
 ·rw[Tryd.params3]
  intro t ht
  have ht:t ∈ ([9]:List Nat):=ht
  simp only[List.mem_cons,List.not_mem_nil,or_false] at ht
  rcases ht with rfl<;>exact⟨by kernel_rfl,of_decide_eq_true (by kernel_rfl)⟩
 ·rw[Tryd.params3]
  intro ds hds
  match ds,hds with
  | [d0],_=>rfl
 ·intro xs hb
  exact⟨true,DL.law_FnExactWordsOf xs.1,rfl,rfl⟩
set_option maxRecDepth 100000 in
theorem lifted (os:Os) (started:os.Started) (H:Type) (enc:TypeId×Value→H) :
  ReturnsInHanded {} Tryd.checked os 3 .any (fun w args=>(Rows.fnExactWordsOfSpec.pre enc Tryd.prog Tryd.f3 Rows.fnExactWordsOfRow.domain false w args∧laidMetH Tryd.prog Rows.fnExactWordsOfRow.laid w)∧sizedMet enc Tryd.prog Tryd.f3 (OpenSpec.ofChange Rows.fnExactWordsOfSpec) false w args) (Rows.fnExactWordsOfSpec.post enc Tryd.prog Tryd.f3 false true false false):=by
 refine handed_shaped (C:=Tryd.checked) (X:=fun w _=>laidMetH Tryd.prog Rows.fnExactWordsOfRow.laid w) (fun _ _ _ hh h=>h.of_heap hh) own started (by kernel_rfl) Tryd.func3
  (ChangeSpec.witness_shaped (enc:=enc) (C:=Tryd.checked) (os:=os) (X:=fun w _=>laidMetH Tryd.prog Rows.fnExactWordsOfRow.laid w) false (World.laidAll Tryd.prog os Rows.fnExactWordsOfRow.laid) #[zeroV .str] 8 (World.laidAll_os _ _ _)
   (World.shaped_of_ZipB (by kernel_rfl) (by kernel_rfl)) (by kernel_rfl) (by kernel_rfl) (by kernel_rfl)
   (by rw[MakeChecks.laidMetH_plain _ _ _ (by kernel_rfl)];exact laidMet_laidAll _ (by kernel_rfl) (by kernel_rfl))) ?_
 intro W base args ds gs before hsh hL hval hW
 exact contract H enc W (Tryd.laySplit.s1_3 W hsh) base args ds gs before hval hW
theorem row_holds:Rows.FnExactWordsOfSaid:=
 OpenClaim.holds_of_wide 3 Tryd.f3 rfl rfl rfl rfl rfl rfl rfl ⟨rfl,rfl,rfl,rfl,rfl⟩ rfl rfl rfl rfl rfl (by kernel_rfl) Tryd.func3 closed
  (of_decide_eq_true (by kernel_rfl)) (by unfold Func.isWrapper;first | (rw[if_pos (by decide +kernel)];kernel_rfl) | (rw[if_neg (by decide +kernel)];exact⟨rfl,rfl⟩))
  (fun os started H enc _=>lifted os started H enc)
theorem proved:Rows.FnExactWordsOfCardSaid:=
 Claim7.holds_tied_plain_at .later [] [.data,.pinned] true (true,"9fb128e309fa70bde0e0b1492383e2a09a64231e1331fa74ddc583599a499733") false
  row_holds (fun _ h=>by cases h) (by kernel_rfl) (fun _ h=>by cases h) fnExactWordsOf_row_tie rfl ⟨rfl,rfl⟩ (by kernel_rfl) rfl
  (fun f fn hf hfn=>by
   obtain rfl:f=3:=Option.some.inj ((show Tryd.prog.funcNamed "loop.example/g00304/laws.FnExactWordsOf" = some 3 by kernel_rfl).symm.trans hf) |>.symm
   obtain rfl:fn=Tryd.f3:=(Option.some.inj (Tryd.func3.symm.trans hfn)).symm
   exact⟨by kernel_rfl,fun j t ht=>by
    rw[Tryd.params3] at ht
    have hm:t ∈ [9]:=by simpa using Array.mem_of_getElem? ht
    have hall:([9].all fun u=>!Tryd.prog.wantsStandIn u)=true:=by kernel_rfl
    exact (show Tryd.prog.wantsStandIn t=false by simpa using List.all_eq_true.1 hall t hm)⟩)
  (by kernel_rfl)
#print axioms proved
end Go.Proofs.YtoopijohnkgagaaDoor.fnExactWordsOf
