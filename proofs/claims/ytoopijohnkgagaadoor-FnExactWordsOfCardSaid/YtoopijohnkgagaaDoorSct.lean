/- The contracts of the functions -/
import Derived.Test.YtoopijohnkgagaaDoorSea
import Derived.Test.YtoopijohnkgagaaDoorSeb
import Derived.Test.YtoopijohnkgagaaDoorSec
import Derived.Test.YtoopijohnkgagaaDoorSed
import Derived.Test.YtoopijohnkgagaaDoorSee
import Derived.Test.YtoopijohnkgagaaDoorSef
import Derived.Test.YtoopijohnkgagaaDoorHdSplitW35
set_option linter.unusedVariables false
set_option linter.unusedSimpArgs false
set_option maxRecDepth 100000
set_option maxHeartbeats 0
namespace Go.Dx
open Go.Proofs
namespace DL

theorem b_spec_l2Cut:Tryd.f33.body.isSome=true:=by kernel_rfl
theorem n_spec_l2Cut:(Tryd.f33.name == "runtime.NumGoroutine")=false:=by kernel_rfl
theorem c_spec_l2Cut {W0:World}:Contract Tryd.prog W0 33 K_spec_l2Cut:=contract_of (C:=X_spec_l2Cut) (fn:=Tryd.f33) (tysOk_at (C:=X0) rfl tysOk) (ctxOk_of (P:=Tryd.prog) trivial) follows Tryd.func33 b_spec_l2Cut n_spec_l2Cut (fun t ys h=>(e_spec_l2Cut t).trans h)
theorem b_spec_l16Words:Tryd.f19.body.isSome=true:=by kernel_rfl
theorem n_spec_l16Words:(Tryd.f19.name == "runtime.NumGoroutine")=false:=by kernel_rfl
theorem c_spec_l16Words {W0:World}:Contract Tryd.prog W0 19 K_spec_l16Words:=contract_of (C:=X_spec_l16Words) (fn:=Tryd.f19) (tysOk_at (C:=X0) rfl tysOk) (ctxOk_of (P:=Tryd.prog) ⟨c_spec_l2Cut,trivial⟩) follows Tryd.func19 b_spec_l16Words n_spec_l16Words (fun t ys h=>(e_spec_l16Words t).trans h)
theorem b_spec_WordsOf:Tryd.f6.body.isSome=true:=by kernel_rfl
theorem n_spec_WordsOf:(Tryd.f6.name == "runtime.NumGoroutine")=false:=by kernel_rfl
theorem c_spec_WordsOf {W0:World}:Contract Tryd.prog W0 6 K_spec_WordsOf:=contract_of (C:=X_spec_WordsOf) (fn:=Tryd.f6) (tysOk_at (C:=X0) rfl tysOk) (ctxOk_of (P:=Tryd.prog) ⟨c_spec_l16Words,trivial⟩) follows Tryd.func6 b_spec_WordsOf n_spec_WordsOf (fun t ys h=>(e_spec_WordsOf t).trans h)
theorem b_slices_IndexFunc_Lstring_string:Tryd.f60.body.isSome=true:=by kernel_rfl
theorem n_slices_IndexFunc_Lstring_string:(Tryd.f60.name == "runtime.NumGoroutine")=false:=by kernel_rfl
theorem c_slices_IndexFunc_Lstring_string {W0:World}:Contract Tryd.prog W0 60 K_slices_IndexFunc_Lstring_string:=contract_of (C:=X_slices_IndexFunc_Lstring_string) (fn:=Tryd.f60) (tysOk_at (C:=X0) rfl tysOk) (ctxOk_of (P:=Tryd.prog) trivial) follows Tryd.func60 b_slices_IndexFunc_Lstring_string n_slices_IndexFunc_Lstring_string (fun t ys h=>(e_slices_IndexFunc_Lstring_string t).trans h)
theorem b_slices_DeleteFunc_Lstring_string:Tryd.f34.body.isSome=true:=by kernel_rfl
theorem n_slices_DeleteFunc_Lstring_string:(Tryd.f34.name == "runtime.NumGoroutine")=false:=by kernel_rfl
theorem c_slices_DeleteFunc_Lstring_string {W0:World}:Contract Tryd.prog W0 34 K_slices_DeleteFunc_Lstring_string:=contract_of (C:=X_slices_DeleteFunc_Lstring_string) (fn:=Tryd.f34) (tysOk_at (C:=X0) rfl tysOk) (ctxOk_of (P:=Tryd.prog) ⟨c_slices_IndexFunc_Lstring_string,trivial⟩) follows Tryd.func34 b_slices_DeleteFunc_Lstring_string n_slices_DeleteFunc_Lstring_string (fun t ys h=>(e_slices_DeleteFunc_Lstring_string t).trans h)
theorem b_strings_Split:Tryd.f35.body.isSome=true:=by kernel_rfl
theorem n_strings_Split:(Tryd.f35.name == "runtime.NumGoroutine")=false:=by kernel_rfl
theorem c_strings_Split {W0:World} (hM:∃m,W0.cell? ⟨0,0,none⟩=some (.int .i64 m)):Contract Tryd.prog W0 35 K_strings_Split:=splitok35 ⟨Tryd.f35,Tryd.func35,b_strings_Split,n_strings_Split⟩ hM
theorem b_impl_wordsOf_c1:Tryd.f36.body.isSome=true:=by kernel_rfl
theorem n_impl_wordsOf_c1:(Tryd.f36.name == "runtime.NumGoroutine")=false:=by kernel_rfl
theorem c_impl_wordsOf_c1 {W0:World}:Contract Tryd.prog W0 36 K_impl_wordsOf_c1:=contract_of (C:=X_impl_wordsOf_c1) (fn:=Tryd.f36) (tysOk_at (C:=X0) rfl tysOk) (ctxOk_of (P:=Tryd.prog) trivial) follows Tryd.func36 b_impl_wordsOf_c1 n_impl_wordsOf_c1 (fun t ys h=>(e_impl_wordsOf_c1 t).trans h)
theorem b_impl_wordsOf:Tryd.f20.body.isSome=true:=by kernel_rfl
theorem n_impl_wordsOf:(Tryd.f20.name == "runtime.NumGoroutine")=false:=by kernel_rfl
theorem c_impl_wordsOf {W0:World} (hM:∃m,W0.cell? ⟨0,0,none⟩=some (.int .i64 m)):Contract Tryd.prog W0 20 K_impl_wordsOf:=contract_of (C:=X_impl_wordsOf) (fn:=Tryd.f20) (tysOk_at (C:=X0) rfl tysOk) (ctxOk_of (P:=Tryd.prog) ⟨c_slices_DeleteFunc_Lstring_string,c_strings_Split hM,c_impl_wordsOf_c1,trivial⟩) follows Tryd.func20 b_impl_wordsOf n_impl_wordsOf (fun t ys h=>(e_impl_wordsOf t).trans h)
theorem b_impl_WordsOf:Tryd.f7.body.isSome=true:=by kernel_rfl
theorem n_impl_WordsOf:(Tryd.f7.name == "runtime.NumGoroutine")=false:=by kernel_rfl
theorem c_impl_WordsOf {W0:World} (hM:∃m,W0.cell? ⟨0,0,none⟩=some (.int .i64 m)):Contract Tryd.prog W0 7 K_impl_WordsOf:=contract_of (C:=X_impl_WordsOf) (fn:=Tryd.f7) (tysOk_at (C:=X0) rfl tysOk) (ctxOk_of (P:=Tryd.prog) ⟨c_impl_wordsOf hM,trivial⟩) follows Tryd.func7 b_impl_WordsOf n_impl_WordsOf (fun t ys h=>(e_impl_WordsOf t).trans h)
theorem b_laws_eqStringS:Tryd.f21.body.isSome=true:=by kernel_rfl
theorem n_laws_eqStringS:(Tryd.f21.name == "runtime.NumGoroutine")=false:=by kernel_rfl
theorem c_laws_eqStringS {W0:World}:Contract Tryd.prog W0 21 K_laws_eqStringS:=contract_of (C:=X_laws_eqStringS) (fn:=Tryd.f21) (tysOk_at (C:=X0) rfl tysOk) (ctxOk_of (P:=Tryd.prog) trivial) follows Tryd.func21 b_laws_eqStringS n_laws_eqStringS (fun t ys h=>(e_laws_eqStringS t).trans h)
theorem b_laws_eqWordsResult:Tryd.f8.body.isSome=true:=by kernel_rfl
theorem n_laws_eqWordsResult:(Tryd.f8.name == "runtime.NumGoroutine")=false:=by kernel_rfl
theorem c_laws_eqWordsResult {W0:World}:Contract Tryd.prog W0 8 K_laws_eqWordsResult:=contract_of (C:=X_laws_eqWordsResult) (fn:=Tryd.f8) (tysOk_at (C:=X0) rfl tysOk) (ctxOk_of (P:=Tryd.prog) ⟨c_laws_eqStringS,trivial⟩) follows Tryd.func8 b_laws_eqWordsResult n_laws_eqWordsResult (fun t ys h=>(e_laws_eqWordsResult t).trans h)
theorem b_laws_markText:Tryd.f37.body.isSome=true:=by kernel_rfl
theorem n_laws_markText:(Tryd.f37.name == "runtime.NumGoroutine")=false:=by kernel_rfl
theorem c_laws_markText {W0:World}:Contract Tryd.prog W0 37 K_laws_markText:=contract_of (C:=X_laws_markText) (fn:=Tryd.f37) (tysOk_at (C:=X0) rfl tysOk) (ctxOk_of (P:=Tryd.prog) trivial) follows Tryd.func37 b_laws_markText n_laws_markText (fun t ys h=>(e_laws_markText t).trans h)
theorem b_laws_markStringS:Tryd.f22.body.isSome=true:=by kernel_rfl
theorem n_laws_markStringS:(Tryd.f22.name == "runtime.NumGoroutine")=false:=by kernel_rfl
theorem c_laws_markStringS {W0:World}:Contract Tryd.prog W0 22 K_laws_markStringS:=contract_of (C:=X_laws_markStringS) (fn:=Tryd.f22) (tysOk_at (C:=X0) rfl tysOk) (ctxOk_of (P:=Tryd.prog) ⟨c_laws_markText,trivial⟩) follows Tryd.func22 b_laws_markStringS n_laws_markStringS (fun t ys h=>(e_laws_markStringS t).trans h)
theorem b_laws_markWordsResult:Tryd.f9.body.isSome=true:=by kernel_rfl
theorem n_laws_markWordsResult:(Tryd.f9.name == "runtime.NumGoroutine")=false:=by kernel_rfl
theorem c_laws_markWordsResult {W0:World}:Contract Tryd.prog W0 9 K_laws_markWordsResult:=contract_of (C:=X_laws_markWordsResult) (fn:=Tryd.f9) (tysOk_at (C:=X0) rfl tysOk) (ctxOk_of (P:=Tryd.prog) ⟨c_laws_markStringS,trivial⟩) follows Tryd.func9 b_laws_markWordsResult n_laws_markWordsResult (fun t ys h=>(e_laws_markWordsResult t).trans h)
theorem b_laws_heldStringS:Tryd.f23.body.isSome=true:=by kernel_rfl
theorem n_laws_heldStringS:(Tryd.f23.name == "runtime.NumGoroutine")=false:=by kernel_rfl
theorem c_laws_heldStringS {W0:World}:Contract Tryd.prog W0 23 K_laws_heldStringS:=contract_of (C:=X_laws_heldStringS) (fn:=Tryd.f23) (tysOk_at (C:=X0) rfl tysOk) (ctxOk_of (P:=Tryd.prog) ⟨c_laws_markText,trivial⟩) follows Tryd.func23 b_laws_heldStringS n_laws_heldStringS (fun t ys h=>(e_laws_heldStringS t).trans h)
theorem b_laws_heldWordsResult:Tryd.f10.body.isSome=true:=by kernel_rfl
theorem n_laws_heldWordsResult:(Tryd.f10.name == "runtime.NumGoroutine")=false:=by kernel_rfl
theorem c_laws_heldWordsResult {W0:World}:Contract Tryd.prog W0 10 K_laws_heldWordsResult:=contract_of (C:=X_laws_heldWordsResult) (fn:=Tryd.f10) (tysOk_at (C:=X0) rfl tysOk) (ctxOk_of (P:=Tryd.prog) ⟨c_laws_heldStringS,trivial⟩) follows Tryd.func10 b_laws_heldWordsResult n_laws_heldWordsResult (fun t ys h=>(e_laws_heldWordsResult t).trans h)
theorem b_laws_FnExactWordsOf:Tryd.f3.body.isSome=true:=by kernel_rfl
theorem n_laws_FnExactWordsOf:(Tryd.f3.name == "runtime.NumGoroutine")=false:=by kernel_rfl
theorem c_laws_FnExactWordsOf {W0:World} (hM:∃m,W0.cell? ⟨0,0,none⟩=some (.int .i64 m)):Contract Tryd.prog W0 3 K_laws_FnExactWordsOf:=contract_of (C:=X_laws_FnExactWordsOf) (fn:=Tryd.f3) (tysOk_at (C:=X0) rfl tysOk) (ctxOk_of (P:=Tryd.prog) ⟨c_spec_WordsOf,c_impl_WordsOf hM,c_laws_eqWordsResult,c_laws_markWordsResult,c_laws_heldWordsResult,trivial⟩) follows Tryd.func3 b_laws_FnExactWordsOf n_laws_FnExactWordsOf (fun t ys h=>(e_laws_FnExactWordsOf t).trans h)
end DL
end Go.Dx

