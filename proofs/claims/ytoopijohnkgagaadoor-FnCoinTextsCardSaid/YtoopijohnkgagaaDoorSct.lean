/- The contracts of the functions -/
import Derived.Test.YtoopijohnkgagaaDoorSea
import Derived.Test.YtoopijohnkgagaaDoorSeb
import Derived.Test.YtoopijohnkgagaaDoorSec
import Derived.Test.YtoopijohnkgagaaDoorSed
import Derived.Test.YtoopijohnkgagaaDoorSee
import Derived.Test.YtoopijohnkgagaaDoorSef
import Derived.Test.YtoopijohnkgagaaDoorHdSplitW35
import Derived.Test.YtoopijohnkgagaaDoorHdDigW43
import Derived.Test.YtoopijohnkgagaaDoorHdFmtW71
import Derived.Test.YtoopijohnkgagaaDoorHdJoinW87
import Derived.Test.YtoopijohnkgagaaDoorHdSrcW
set_option linter.unusedVariables false
set_option linter.unusedSimpArgs false
set_option maxRecDepth 100000
set_option maxHeartbeats 0
namespace Go.Dx
open Go.Proofs
namespace DL

theorem b_slices_IndexFunc_Lstring_string:Tryd.f60.body.isSome=true:=by kernel_rfl
theorem n_slices_IndexFunc_Lstring_string:(Tryd.f60.name == "runtime.NumGoroutine")=false:=by kernel_rfl
theorem c_slices_IndexFunc_Lstring_string {W0:World}:Contract Tryd.prog W0 60 K_slices_IndexFunc_Lstring_string:=contract_of (C:=X_slices_IndexFunc_Lstring_string) (fn:=Tryd.f60) (tysOk_at (C:=X0) rfl tysOk) (ctxOk_of (P:=Tryd.prog) trivial) follows Tryd.func60 b_slices_IndexFunc_Lstring_string n_slices_IndexFunc_Lstring_string (fun t ys h=>(e_slices_IndexFunc_Lstring_string t).trans h)
theorem b_slices_DeleteFunc_Lstring_string:Tryd.f34.body.isSome=true:=by kernel_rfl
theorem n_slices_DeleteFunc_Lstring_string:(Tryd.f34.name == "runtime.NumGoroutine")=false:=by kernel_rfl
theorem c_slices_DeleteFunc_Lstring_string {W0:World}:Contract Tryd.prog W0 34 K_slices_DeleteFunc_Lstring_string:=contract_of (C:=X_slices_DeleteFunc_Lstring_string) (fn:=Tryd.f34) (tysOk_at (C:=X0) rfl tysOk) (ctxOk_of (P:=Tryd.prog) ⟨c_slices_IndexFunc_Lstring_string,trivial⟩) follows Tryd.func34 b_slices_DeleteFunc_Lstring_string n_slices_DeleteFunc_Lstring_string (fun t ys h=>(e_slices_DeleteFunc_Lstring_string t).trans h)
theorem b_strings_Split:Tryd.f35.body.isSome=true:=by kernel_rfl
theorem n_strings_Split:(Tryd.f35.name == "runtime.NumGoroutine")=false:=by kernel_rfl
theorem c_strings_Split {W0:World} (hM:∃m,W0.cell? ⟨0,0,none⟩=some (.int .i64 m)):Contract Tryd.prog W0 35 K_strings_Split:=splitok35 ⟨Tryd.f35,Tryd.func35,b_strings_Split,n_strings_Split⟩ hM
theorem b_impl_wordsOf_c1:Tryd.f36.body.isSome=true:=by kernel_rfl
theorem n_impl_wordsOf_c1:(Tryd.f36.name == "runtime.NumGoroutine")=false:=by kernel_rfl
theorem c_impl_wordsOf_c1 {W0:World}:Contract Tryd.prog W0 36 K_impl_wordsOf_c1:=contract_of (C:=X_impl_wordsOf_c1) (fn:=Tryd.f36) (tysOk_at (C:=X0) rfl tysOk) (ctxOk_of (P:=Tryd.prog) trivial) follows Tryd.func36 b_impl_wordsOf_c1 n_impl_wordsOf_c1 (fun t ys h=>(e_impl_wordsOf_c1 t).trans h)
theorem b_impl_wordsOf:Tryd.f20.body.isSome=true:=by kernel_rfl
theorem n_impl_wordsOf:(Tryd.f20.name == "runtime.NumGoroutine")=false:=by kernel_rfl
theorem c_impl_wordsOf {W0:World} (hM:∃m,W0.cell? ⟨0,0,none⟩=some (.int .i64 m)):Contract Tryd.prog W0 20 K_impl_wordsOf:=contract_of (C:=X_impl_wordsOf) (fn:=Tryd.f20) (tysOk_at (C:=X0) rfl tysOk) (ctxOk_of (P:=Tryd.prog) ⟨c_slices_DeleteFunc_Lstring_string,c_strings_Split hM,c_impl_wordsOf_c1,trivial⟩) follows Tryd.func20 b_impl_wordsOf n_impl_wordsOf (fun t ys h=>(e_impl_wordsOf t).trans h)
theorem b_impl_WordsOf:Tryd.f7.body.isSome=true:=by kernel_rfl
theorem n_impl_WordsOf:(Tryd.f7.name == "runtime.NumGoroutine")=false:=by kernel_rfl
theorem c_impl_WordsOf {W0:World} (hM:∃m,W0.cell? ⟨0,0,none⟩=some (.int .i64 m)):Contract Tryd.prog W0 7 K_impl_WordsOf:=contract_of (C:=X_impl_WordsOf) (fn:=Tryd.f7) (tysOk_at (C:=X0) rfl tysOk) (ctxOk_of (P:=Tryd.prog) ⟨c_impl_wordsOf hM,trivial⟩) follows Tryd.func7 b_impl_WordsOf n_impl_WordsOf (fun t ys h=>(e_impl_WordsOf t).trans h)
theorem b_spec_l1In:Tryd.f63.body.isSome=true:=by kernel_rfl
theorem n_spec_l1In:(Tryd.f63.name == "runtime.NumGoroutine")=false:=by kernel_rfl
theorem c_spec_l1In {W0:World}:Contract Tryd.prog W0 63 K_spec_l1In:=contract_of (C:=X_spec_l1In) (fn:=Tryd.f63) (tysOk_at (C:=X0) rfl tysOk) (ctxOk_of (P:=Tryd.prog) trivial) follows Tryd.func63 b_spec_l1In n_spec_l1In (fun t ys h=>(e_spec_l1In t).trans h)
theorem b_spec_l3Ref:Tryd.f39.body.isSome=true:=by kernel_rfl
theorem n_spec_l3Ref:(Tryd.f39.name == "runtime.NumGoroutine")=false:=by kernel_rfl
theorem c_spec_l3Ref {W0:World}:Contract Tryd.prog W0 39 K_spec_l3Ref:=contract_of (C:=X_spec_l3Ref) (fn:=Tryd.f39) (tysOk_at (C:=X0) rfl tysOk) (ctxOk_of (P:=Tryd.prog) ⟨c_spec_l1In,trivial⟩) follows Tryd.func39 b_spec_l3Ref n_spec_l3Ref (fun t ys h=>(e_spec_l3Ref t).trans h)
theorem b_spec_l2Height:Tryd.f40.body.isSome=true:=by kernel_rfl
theorem n_spec_l2Height:(Tryd.f40.name == "runtime.NumGoroutine")=false:=by kernel_rfl
theorem c_spec_l2Height {W0:World}:Contract Tryd.prog W0 40 K_spec_l2Height:=contract_of (C:=X_spec_l2Height) (fn:=Tryd.f40) (tysOk_at (C:=X0) rfl tysOk) (ctxOk_of (P:=Tryd.prog) ⟨c_spec_l1In,trivial⟩) follows Tryd.func40 b_spec_l2Height n_spec_l2Height (fun t ys h=>(e_spec_l2Height t).trans h)
theorem b_spec_l1Key:Tryd.f80.body.isSome=true:=by kernel_rfl
theorem n_spec_l1Key:(Tryd.f80.name == "runtime.NumGoroutine")=false:=by kernel_rfl
theorem c_spec_l1Key {W0:World}:Contract Tryd.prog W0 80 K_spec_l1Key:=contract_of (C:=X_spec_l1Key) (fn:=Tryd.f80) (tysOk_at (C:=X0) rfl tysOk) (ctxOk_of (P:=Tryd.prog) ⟨c_spec_l1In,trivial⟩) follows Tryd.func80 b_spec_l1Key n_spec_l1Key (fun t ys h=>(e_spec_l1Key t).trans h)
theorem b_spec_l2Fault:Tryd.f64.body.isSome=true:=by kernel_rfl
theorem n_spec_l2Fault:(Tryd.f64.name == "runtime.NumGoroutine")=false:=by kernel_rfl
theorem c_spec_l2Fault {W0:World}:Contract Tryd.prog W0 64 K_spec_l2Fault:=contract_of (C:=X_spec_l2Fault) (fn:=Tryd.f64) (tysOk_at (C:=X0) rfl tysOk) (ctxOk_of (P:=Tryd.prog) ⟨c_spec_l2Height,c_spec_l1In,c_spec_l1Key,trivial⟩) follows Tryd.func64 b_spec_l2Fault n_spec_l2Fault (fun t ys h=>(e_spec_l2Fault t).trans h)
theorem b_spec_l4Out:Tryd.f41.body.isSome=true:=by kernel_rfl
theorem n_spec_l4Out:(Tryd.f41.name == "runtime.NumGoroutine")=false:=by kernel_rfl
theorem c_spec_l4Out {W0:World}:Contract Tryd.prog W0 41 K_spec_l4Out:=contract_of (C:=X_spec_l4Out) (fn:=Tryd.f41) (tysOk_at (C:=X0) rfl tysOk) (ctxOk_of (P:=Tryd.prog) ⟨c_spec_l1In,c_spec_l2Fault,trivial⟩) follows Tryd.func41 b_spec_l4Out n_spec_l4Out (fun t ys h=>(e_spec_l4Out t).trans h)
theorem b_spec_l4Ahead:Tryd.f42.body.isSome=true:=by kernel_rfl
theorem n_spec_l4Ahead:(Tryd.f42.name == "runtime.NumGoroutine")=false:=by kernel_rfl
theorem c_spec_l4Ahead {W0:World}:Contract Tryd.prog W0 42 K_spec_l4Ahead:=contract_of (C:=X_spec_l4Ahead) (fn:=Tryd.f42) (tysOk_at (C:=X0) rfl tysOk) (ctxOk_of (P:=Tryd.prog) trivial) follows Tryd.func42 b_spec_l4Ahead n_spec_l4Ahead (fun t ys h=>(e_spec_l4Ahead t).trans h)
theorem b_spec_l4Fault:Tryd.f25.body.isSome=true:=by kernel_rfl
theorem n_spec_l4Fault:(Tryd.f25.name == "runtime.NumGoroutine")=false:=by kernel_rfl
theorem c_spec_l4Fault {W0:World}:Contract Tryd.prog W0 25 K_spec_l4Fault:=contract_of (C:=X_spec_l4Fault) (fn:=Tryd.f25) (tysOk_at (C:=X0) rfl tysOk) (ctxOk_of (P:=Tryd.prog) ⟨c_spec_l3Ref,c_spec_l2Height,c_spec_l4Out,c_spec_l4Ahead,trivial⟩) follows Tryd.func25 b_spec_l4Fault n_spec_l4Fault (fun t ys h=>(e_spec_l4Fault t).trans h)
theorem b_spec_l2Digits:Tryd.f43.body.isSome=true:=by kernel_rfl
theorem n_spec_l2Digits:(Tryd.f43.name == "runtime.NumGoroutine")=false:=by kernel_rfl
theorem c_spec_l2Digits {W0:World}:Contract Tryd.prog W0 43 K_spec_l2Digits:=c_dig 19
theorem b_spec_l2Text:Tryd.f44.body.isSome=true:=by kernel_rfl
theorem n_spec_l2Text:(Tryd.f44.name == "runtime.NumGoroutine")=false:=by kernel_rfl
theorem c_spec_l2Text {W0:World}:Contract Tryd.prog W0 44 K_spec_l2Text:=contract_of (C:=X_spec_l2Text) (fn:=Tryd.f44) (tysOk_at (C:=X0) rfl tysOk) (ctxOk_of (P:=Tryd.prog) ⟨c_spec_l2Digits,trivial⟩) follows Tryd.func44 b_spec_l2Text n_spec_l2Text (fun t ys h=>(e_spec_l2Text t).trans h)
theorem b_spec_l16Coins:Tryd.f26.body.isSome=true:=by kernel_rfl
theorem n_spec_l16Coins:(Tryd.f26.name == "runtime.NumGoroutine")=false:=by kernel_rfl
theorem c_spec_l16Coins {W0:World}:Contract Tryd.prog W0 26 K_spec_l16Coins:=contract_of (C:=X_spec_l16Coins) (fn:=Tryd.f26) (tysOk_at (C:=X0) rfl tysOk) (ctxOk_of (P:=Tryd.prog) ⟨c_spec_l2Digits,c_spec_l2Text,trivial⟩) follows Tryd.func26 b_spec_l16Coins n_spec_l16Coins (fun t ys h=>(e_spec_l16Coins t).trans h)
theorem b_spec_CoinsText:Tryd.f12.body.isSome=true:=by kernel_rfl
theorem n_spec_CoinsText:(Tryd.f12.name == "runtime.NumGoroutine")=false:=by kernel_rfl
theorem c_spec_CoinsText {W0:World}:Contract Tryd.prog W0 12 K_spec_CoinsText:=contract_of (C:=X_spec_CoinsText) (fn:=Tryd.f12) (tysOk_at (C:=X0) rfl tysOk) (ctxOk_of (P:=Tryd.prog) ⟨c_spec_l4Fault,c_spec_l16Coins,trivial⟩) follows Tryd.func12 b_spec_CoinsText n_spec_CoinsText (fun t ys h=>(e_spec_CoinsText t).trans h)
theorem b_impl_within:Tryd.f49.body.isSome=true:=by kernel_rfl
theorem n_impl_within:(Tryd.f49.name == "runtime.NumGoroutine")=false:=by kernel_rfl
theorem c_impl_within {W0:World}:Contract Tryd.prog W0 49 K_impl_within:=contract_of (C:=X_impl_within) (fn:=Tryd.f49) (tysOk_at (C:=X0) rfl tysOk) (ctxOk_of (P:=Tryd.prog) trivial) follows Tryd.func49 b_impl_within n_impl_within (fun t ys h=>(e_impl_within t).trans h)
theorem b_impl_isId:Tryd.f66.body.isSome=true:=by kernel_rfl
theorem n_impl_isId:(Tryd.f66.name == "runtime.NumGoroutine")=false:=by kernel_rfl
theorem c_impl_isId {W0:World}:Contract Tryd.prog W0 66 K_impl_isId:=contract_of (C:=X_impl_isId) (fn:=Tryd.f66) (tysOk_at (C:=X0) rfl tysOk) (ctxOk_of (P:=Tryd.prog) ⟨c_impl_within,trivial⟩) follows Tryd.func66 b_impl_isId n_impl_isId (fun t ys h=>(e_impl_isId t).trans h)
theorem b_impl_isRef:Tryd.f47.body.isSome=true:=by kernel_rfl
theorem n_impl_isRef:(Tryd.f47.name == "runtime.NumGoroutine")=false:=by kernel_rfl
theorem c_impl_isRef {W0:World}:Contract Tryd.prog W0 47 K_impl_isRef:=contract_of (C:=X_impl_isRef) (fn:=Tryd.f47) (tysOk_at (C:=X0) rfl tysOk) (ctxOk_of (P:=Tryd.prog) ⟨c_impl_within,c_impl_isId,trivial⟩) follows Tryd.func47 b_impl_isRef n_impl_isRef (fun t ys h=>(e_impl_isRef t).trans h)
theorem b_impl_isHeight:Tryd.f48.body.isSome=true:=by kernel_rfl
theorem n_impl_isHeight:(Tryd.f48.name == "runtime.NumGoroutine")=false:=by kernel_rfl
theorem c_impl_isHeight {W0:World}:Contract Tryd.prog W0 48 K_impl_isHeight:=contract_of (C:=X_impl_isHeight) (fn:=Tryd.f48) (tysOk_at (C:=X0) rfl tysOk) (ctxOk_of (P:=Tryd.prog) ⟨c_impl_within,trivial⟩) follows Tryd.func48 b_impl_isHeight n_impl_isHeight (fun t ys h=>(e_impl_isHeight t).trans h)
theorem b_slices_IndexFunc_Lint64_int64:Tryd.f96.body.isSome=true:=by kernel_rfl
theorem n_slices_IndexFunc_Lint64_int64:(Tryd.f96.name == "runtime.NumGoroutine")=false:=by kernel_rfl
theorem c_slices_IndexFunc_Lint64_int64 {W0:World}:Contract Tryd.prog W0 96 K_slices_IndexFunc_Lint64_int64:=contract_of (C:=X_slices_IndexFunc_Lint64_int64) (fn:=Tryd.f96) (tysOk_at (C:=X0) rfl tysOk) (ctxOk_of (P:=Tryd.prog) trivial) follows Tryd.func96 b_slices_IndexFunc_Lint64_int64 n_slices_IndexFunc_Lint64_int64 (fun t ys h=>(e_slices_IndexFunc_Lint64_int64 t).trans h)
theorem b_slices_ContainsFunc_Lint64_int64:Tryd.f82.body.isSome=true:=by kernel_rfl
theorem n_slices_ContainsFunc_Lint64_int64:(Tryd.f82.name == "runtime.NumGoroutine")=false:=by kernel_rfl
theorem c_slices_ContainsFunc_Lint64_int64 {W0:World}:Contract Tryd.prog W0 82 K_slices_ContainsFunc_Lint64_int64:=contract_of (C:=X_slices_ContainsFunc_Lint64_int64) (fn:=Tryd.f82) (tysOk_at (C:=X0) rfl tysOk) (ctxOk_of (P:=Tryd.prog) ⟨c_slices_IndexFunc_Lint64_int64,trivial⟩) follows Tryd.func82 b_slices_ContainsFunc_Lint64_int64 n_slices_ContainsFunc_Lint64_int64 (fun t ys h=>(e_slices_ContainsFunc_Lint64_int64 t).trans h)
theorem b_impl_isKey:Tryd.f84.body.isSome=true:=by kernel_rfl
theorem n_impl_isKey:(Tryd.f84.name == "runtime.NumGoroutine")=false:=by kernel_rfl
theorem c_impl_isKey {W0:World}:Contract Tryd.prog W0 84 K_impl_isKey:=contract_of (C:=X_impl_isKey) (fn:=Tryd.f84) (tysOk_at (C:=X0) rfl tysOk) (ctxOk_of (P:=Tryd.prog) ⟨c_impl_within,trivial⟩) follows Tryd.func84 b_impl_isKey n_impl_isKey (fun t ys h=>(e_impl_isKey t).trans h)
theorem b_impl_areKeys_c1:Tryd.f83.body.isSome=true:=by kernel_rfl
theorem n_impl_areKeys_c1:(Tryd.f83.name == "runtime.NumGoroutine")=false:=by kernel_rfl
theorem c_impl_areKeys_c1 {W0:World}:Contract Tryd.prog W0 83 K_impl_areKeys_c1:=contract_of (C:=X_impl_areKeys_c1) (fn:=Tryd.f83) (tysOk_at (C:=X0) rfl tysOk) (ctxOk_of (P:=Tryd.prog) ⟨c_impl_isKey,trivial⟩) follows Tryd.func83 b_impl_areKeys_c1 n_impl_areKeys_c1 (fun t ys h=>(e_impl_areKeys_c1 t).trans h)
theorem b_impl_areKeys:Tryd.f67.body.isSome=true:=by kernel_rfl
theorem n_impl_areKeys:(Tryd.f67.name == "runtime.NumGoroutine")=false:=by kernel_rfl
theorem c_impl_areKeys {W0:World}:Contract Tryd.prog W0 67 K_impl_areKeys:=contract_of (C:=X_impl_areKeys) (fn:=Tryd.f67) (tysOk_at (C:=X0) rfl tysOk) (ctxOk_of (P:=Tryd.prog) ⟨c_slices_ContainsFunc_Lint64_int64,c_impl_areKeys_c1,trivial⟩) follows Tryd.func67 b_impl_areKeys n_impl_areKeys (fun t ys h=>(e_impl_areKeys t).trans h)
theorem b_impl_isRising:Tryd.f68.body.isSome=true:=by kernel_rfl
theorem n_impl_isRising:(Tryd.f68.name == "runtime.NumGoroutine")=false:=by kernel_rfl
theorem c_impl_isRising {W0:World}:Contract Tryd.prog W0 68 K_impl_isRising:=contract_of (C:=X_impl_isRising) (fn:=Tryd.f68) (tysOk_at (C:=X0) rfl tysOk) (ctxOk_of (P:=Tryd.prog) trivial) follows Tryd.func68 b_impl_isRising n_impl_isRising (fun t ys h=>(e_impl_isRising t).trans h)
theorem b_impl_RuleFault:Tryd.f50.body.isSome=true:=by kernel_rfl
theorem n_impl_RuleFault:(Tryd.f50.name == "runtime.NumGoroutine")=false:=by kernel_rfl
theorem c_impl_RuleFault {W0:World}:Contract Tryd.prog W0 50 K_impl_RuleFault:=contract_of (C:=X_impl_RuleFault) (fn:=Tryd.f50) (tysOk_at (C:=X0) rfl tysOk) (ctxOk_of (P:=Tryd.prog) ⟨c_impl_isHeight,c_impl_within,c_impl_areKeys,c_impl_isRising,trivial⟩) follows Tryd.func50 b_impl_RuleFault n_impl_RuleFault (fun t ys h=>(e_impl_RuleFault t).trans h)
theorem b_cmp_Or_int:Tryd.f69.body.isSome=true:=by kernel_rfl
theorem n_cmp_Or_int:(Tryd.f69.name == "runtime.NumGoroutine")=false:=by kernel_rfl
theorem c_cmp_Or_int {W0:World}:Contract Tryd.prog W0 69 K_cmp_Or_int:=contract_of (C:=X_cmp_Or_int) (fn:=Tryd.f69) (tysOk_at (C:=X0) rfl tysOk) (ctxOk_of (P:=Tryd.prog) trivial) follows Tryd.func69 b_cmp_Or_int n_cmp_Or_int (fun t ys h=>(e_cmp_Or_int t).trans h)
theorem b_cmp_isNaN_int64:Tryd.f85.body.isSome=true:=by kernel_rfl
theorem n_cmp_isNaN_int64:(Tryd.f85.name == "runtime.NumGoroutine")=false:=by kernel_rfl
theorem c_cmp_isNaN_int64 {W0:World}:Contract Tryd.prog W0 85 K_cmp_isNaN_int64:=contract_of (C:=X_cmp_isNaN_int64) (fn:=Tryd.f85) (tysOk_at (C:=X0) rfl tysOk) (ctxOk_of (P:=Tryd.prog) trivial) follows Tryd.func85 b_cmp_isNaN_int64 n_cmp_isNaN_int64 (fun t ys h=>(e_cmp_isNaN_int64 t).trans h)
theorem b_cmp_Compare_int64:Tryd.f70.body.isSome=true:=by kernel_rfl
theorem n_cmp_Compare_int64:(Tryd.f70.name == "runtime.NumGoroutine")=false:=by kernel_rfl
theorem c_cmp_Compare_int64 {W0:World}:Contract Tryd.prog W0 70 K_cmp_Compare_int64:=contract_of (C:=X_cmp_Compare_int64) (fn:=Tryd.f70) (tysOk_at (C:=X0) rfl tysOk) (ctxOk_of (P:=Tryd.prog) ⟨c_cmp_isNaN_int64,trivial⟩) follows Tryd.func70 b_cmp_Compare_int64 n_cmp_Compare_int64 (fun t ys h=>(e_cmp_Compare_int64 t).trans h)
theorem b_impl_compareRefs:Tryd.f51.body.isSome=true:=by kernel_rfl
theorem n_impl_compareRefs:(Tryd.f51.name == "runtime.NumGoroutine")=false:=by kernel_rfl
theorem c_impl_compareRefs {W0:World}:Contract Tryd.prog W0 51 K_impl_compareRefs:=contract_of (C:=X_impl_compareRefs) (fn:=Tryd.f51) (tysOk_at (C:=X0) rfl tysOk) (ctxOk_of (P:=Tryd.prog) ⟨c_cmp_Or_int,c_cmp_Compare_int64,trivial⟩) follows Tryd.func51 b_impl_compareRefs n_impl_compareRefs (fun t ys h=>(e_impl_compareRefs t).trans h)
theorem b_impl_CoinsFault:Tryd.f28.body.isSome=true:=by kernel_rfl
theorem n_impl_CoinsFault:(Tryd.f28.name == "runtime.NumGoroutine")=false:=by kernel_rfl
theorem c_impl_CoinsFault {W0:World}:Contract Tryd.prog W0 28 K_impl_CoinsFault:=contract_of (C:=X_impl_CoinsFault) (fn:=Tryd.f28) (tysOk_at (C:=X0) rfl tysOk) (ctxOk_of (P:=Tryd.prog) ⟨c_impl_isRef,c_impl_isHeight,c_impl_within,c_impl_RuleFault,c_impl_compareRefs,trivial⟩) follows Tryd.func28 b_impl_CoinsFault n_impl_CoinsFault (fun t ys h=>(e_impl_CoinsFault t).trans h)
theorem b_strconv_FormatInt:Tryd.f71.body.isSome=true:=by kernel_rfl
theorem n_strconv_FormatInt:(Tryd.f71.name == "runtime.NumGoroutine")=false:=by kernel_rfl
theorem c_strconv_FormatInt {W0:World} (hT:Lib.TabIs Tryd.prog W0 "internal/strconv.uint64pow10" .u64 Lib.pow10Tab):Contract Tryd.prog W0 71 K_strconv_FormatInt:=fmtok71 ⟨Tryd.f71,Tryd.func71,b_strconv_FormatInt,n_strconv_FormatInt⟩ hT
theorem b_impl_dec:Tryd.f52.body.isSome=true:=by kernel_rfl
theorem n_impl_dec:(Tryd.f52.name == "runtime.NumGoroutine")=false:=by kernel_rfl
theorem c_impl_dec {W0:World} (hT:Lib.TabIs Tryd.prog W0 "internal/strconv.uint64pow10" .u64 Lib.pow10Tab):Contract Tryd.prog W0 52 K_impl_dec:=contract_of (C:=X_impl_dec) (fn:=Tryd.f52) (tysOk_at (C:=X0) rfl tysOk) (ctxOk_of (P:=Tryd.prog) ⟨c_strconv_FormatInt hT,trivial⟩) follows Tryd.func52 b_impl_dec n_impl_dec (fun t ys h=>(e_impl_dec t).trans h)
theorem b_strings_Join:Tryd.f87.body.isSome=true:=by kernel_rfl
theorem n_strings_Join:(Tryd.f87.name == "runtime.NumGoroutine")=false:=by kernel_rfl
theorem c_strings_Join {W0:World}:Contract Tryd.prog W0 87 K_strings_Join:=joinok87 ⟨Tryd.f87,Tryd.func87,b_strings_Join,n_strings_Join⟩
theorem b_impl_joined:Tryd.f72.body.isSome=true:=by kernel_rfl
theorem n_impl_joined:(Tryd.f72.name == "runtime.NumGoroutine")=false:=by kernel_rfl
theorem c_impl_joined {W0:World} (hT:Lib.TabIs Tryd.prog W0 "internal/strconv.uint64pow10" .u64 Lib.pow10Tab):Contract Tryd.prog W0 72 K_impl_joined:=contract_of (C:=X_impl_joined) (fn:=Tryd.f72) (tysOk_at (C:=X0) rfl tysOk) (ctxOk_of (P:=Tryd.prog) ⟨c_impl_dec hT,c_strings_Join,trivial⟩) follows Tryd.func72 b_impl_joined n_impl_joined (fun t ys h=>(e_impl_joined t).trans h)
theorem b_impl_ruleText:Tryd.f53.body.isSome=true:=by kernel_rfl
theorem n_impl_ruleText:(Tryd.f53.name == "runtime.NumGoroutine")=false:=by kernel_rfl
theorem c_impl_ruleText {W0:World} (hT:Lib.TabIs Tryd.prog W0 "internal/strconv.uint64pow10" .u64 Lib.pow10Tab):Contract Tryd.prog W0 53 K_impl_ruleText:=contract_of (C:=X_impl_ruleText) (fn:=Tryd.f53) (tysOk_at (C:=X0) rfl tysOk) (ctxOk_of (P:=Tryd.prog) ⟨c_impl_dec hT,c_impl_joined hT,trivial⟩) follows Tryd.func53 b_impl_ruleText n_impl_ruleText (fun t ys h=>(e_impl_ruleText t).trans h)
theorem b_impl_coinsText:Tryd.f29.body.isSome=true:=by kernel_rfl
theorem n_impl_coinsText:(Tryd.f29.name == "runtime.NumGoroutine")=false:=by kernel_rfl
theorem c_impl_coinsText {W0:World} (hT:Lib.TabIs Tryd.prog W0 "internal/strconv.uint64pow10" .u64 Lib.pow10Tab):Contract Tryd.prog W0 29 K_impl_coinsText:=contract_of (C:=X_impl_coinsText) (fn:=Tryd.f29) (tysOk_at (C:=X0) rfl tysOk) (ctxOk_of (P:=Tryd.prog) ⟨c_impl_dec hT,c_impl_ruleText hT,trivial⟩) follows Tryd.func29 b_impl_coinsText n_impl_coinsText (fun t ys h=>(e_impl_coinsText t).trans h)
theorem b_impl_CoinsText:Tryd.f14.body.isSome=true:=by kernel_rfl
theorem n_impl_CoinsText:(Tryd.f14.name == "runtime.NumGoroutine")=false:=by kernel_rfl
theorem c_impl_CoinsText {W0:World} (hT:Lib.TabIs Tryd.prog W0 "internal/strconv.uint64pow10" .u64 Lib.pow10Tab):Contract Tryd.prog W0 14 K_impl_CoinsText:=contract_of (C:=X_impl_CoinsText) (fn:=Tryd.f14) (tysOk_at (C:=X0) rfl tysOk) (ctxOk_of (P:=Tryd.prog) ⟨c_impl_CoinsFault,c_impl_coinsText hT,trivial⟩) follows Tryd.func14 b_impl_CoinsText n_impl_CoinsText (fun t ys h=>(e_impl_CoinsText t).trans h)
theorem b_laws_lwBig:Tryd.f17.body.isSome=true:=by kernel_rfl
theorem n_laws_lwBig:(Tryd.f17.name == "runtime.NumGoroutine")=false:=by kernel_rfl
theorem c_laws_lwBig {W0:World}:Contract Tryd.prog W0 17 K_laws_lwBig:=contract_of (C:=X_laws_lwBig) (fn:=Tryd.f17) (tysOk_at (C:=X0) rfl tysOk) (ctxOk_of (P:=Tryd.prog) trivial) follows Tryd.func17 b_laws_lwBig n_laws_lwBig (fun t ys h=>(e_laws_lwBig t).trans h)
theorem b_spec_l1Next:Tryd.f57.body.isSome=true:=by kernel_rfl
theorem n_spec_l1Next:(Tryd.f57.name == "runtime.NumGoroutine")=false:=by kernel_rfl
theorem c_spec_l1Next {W0:World}:Contract Tryd.prog W0 57 K_spec_l1Next:=contract_of (C:=X_spec_l1Next) (fn:=Tryd.f57) (tysOk_at (C:=X0) rfl tysOk) (ctxOk_of (P:=Tryd.prog) trivial) follows Tryd.func57 b_spec_l1Next n_spec_l1Next (fun t ys h=>(e_spec_l1Next t).trans h)
theorem b_spec_l1Chance:Tryd.f59.body.isSome=true:=by kernel_rfl
theorem n_spec_l1Chance:(Tryd.f59.name == "runtime.NumGoroutine")=false:=by kernel_rfl
theorem c_spec_l1Chance {W0:World}:Contract Tryd.prog W0 59 K_spec_l1Chance:=contract_of (C:=X_spec_l1Chance) (fn:=Tryd.f59) (tysOk_at (C:=X0) rfl tysOk) (ctxOk_of (P:=Tryd.prog) ⟨c_spec_l1Next,trivial⟩) follows Tryd.func59 b_spec_l1Chance n_spec_l1Chance (fun t ys h=>(e_spec_l1Chance t).trans h)
theorem b_spec_l4Of:Tryd.f89.body.isSome=true:=by kernel_rfl
theorem n_spec_l4Of:(Tryd.f89.name == "runtime.NumGoroutine")=false:=by kernel_rfl
theorem c_spec_l4Of {W0:World}:Contract Tryd.prog W0 89 K_spec_l4Of:=contract_of (C:=X_spec_l4Of) (fn:=Tryd.f89) (tysOk_at (C:=X0) rfl tysOk) (ctxOk_of (P:=Tryd.prog) trivial) follows Tryd.func89 b_spec_l4Of n_spec_l4Of (fun t ys h=>(e_spec_l4Of t).trans h)
theorem b_spec_l2Copy:Tryd.f105.body.isSome=true:=by kernel_rfl
theorem n_spec_l2Copy:(Tryd.f105.name == "runtime.NumGoroutine")=false:=by kernel_rfl
theorem c_spec_l2Copy {W0:World}:Contract Tryd.prog W0 105 K_spec_l2Copy:=contract_of (C:=X_spec_l2Copy) (fn:=Tryd.f105) (tysOk_at (C:=X0) rfl tysOk) (ctxOk_of (P:=Tryd.prog) trivial) follows Tryd.func105 b_spec_l2Copy n_spec_l2Copy (fun t ys h=>(e_spec_l2Copy t).trans h)
theorem b_spec_l4Copy:Tryd.f104.body.isSome=true:=by kernel_rfl
theorem n_spec_l4Copy:(Tryd.f104.name == "runtime.NumGoroutine")=false:=by kernel_rfl
theorem c_spec_l4Copy {W0:World}:Contract Tryd.prog W0 104 K_spec_l4Copy:=contract_of (C:=X_spec_l4Copy) (fn:=Tryd.f104) (tysOk_at (C:=X0) rfl tysOk) (ctxOk_of (P:=Tryd.prog) ⟨c_spec_l2Copy,trivial⟩) follows Tryd.func104 b_spec_l4Copy n_spec_l4Copy (fun t ys h=>(e_spec_l4Copy t).trans h)
theorem b_spec_l4Add:Tryd.f106.body.isSome=true:=by kernel_rfl
theorem n_spec_l4Add:(Tryd.f106.name == "runtime.NumGoroutine")=false:=by kernel_rfl
theorem c_spec_l4Add {W0:World}:Contract Tryd.prog W0 106 K_spec_l4Add:=contract_of (C:=X_spec_l4Add) (fn:=Tryd.f106) (tysOk_at (C:=X0) rfl tysOk) (ctxOk_of (P:=Tryd.prog) ⟨c_spec_l4Ahead,trivial⟩) follows Tryd.func106 b_spec_l4Add n_spec_l4Add (fun t ys h=>(e_spec_l4Add t).trans h)
theorem b_spec_l4Put:Tryd.f90.body.isSome=true:=by kernel_rfl
theorem n_spec_l4Put:(Tryd.f90.name == "runtime.NumGoroutine")=false:=by kernel_rfl
theorem c_spec_l4Put {W0:World}:Contract Tryd.prog W0 90 K_spec_l4Put:=contract_of (C:=X_spec_l4Put) (fn:=Tryd.f90) (tysOk_at (C:=X0) rfl tysOk) (ctxOk_of (P:=Tryd.prog) ⟨c_spec_l4Copy,c_spec_l2Copy,c_spec_l4Add,trivial⟩) follows Tryd.func90 b_spec_l4Put n_spec_l4Put (fun t ys h=>(e_spec_l4Put t).trans h)
theorem b_spec_PutCoins:Tryd.f74.body.isSome=true:=by kernel_rfl
theorem n_spec_PutCoins:(Tryd.f74.name == "runtime.NumGoroutine")=false:=by kernel_rfl
theorem c_spec_PutCoins {W0:World}:Contract Tryd.prog W0 74 K_spec_PutCoins:=contract_of (C:=X_spec_PutCoins) (fn:=Tryd.f74) (tysOk_at (C:=X0) rfl tysOk) (ctxOk_of (P:=Tryd.prog) ⟨c_spec_l4Fault,c_spec_l2Height,c_spec_l4Out,c_spec_l1In,c_spec_l4Of,c_spec_l4Put,trivial⟩) follows Tryd.func74 b_spec_PutCoins n_spec_PutCoins (fun t ys h=>(e_spec_PutCoins t).trans h)
theorem b_spec_l1Pick:Tryd.f58.body.isSome=true:=by kernel_rfl
theorem n_spec_l1Pick:(Tryd.f58.name == "runtime.NumGoroutine")=false:=by kernel_rfl
theorem c_spec_l1Pick {W0:World}:Contract Tryd.prog W0 58 K_spec_l1Pick:=contract_of (C:=X_spec_l1Pick) (fn:=Tryd.f58) (tysOk_at (C:=X0) rfl tysOk) (ctxOk_of (P:=Tryd.prog) ⟨c_spec_l1Next,trivial⟩) follows Tryd.func58 b_spec_l1Pick n_spec_l1Pick (fun t ys h=>(e_spec_l1Pick t).trans h)
theorem b_spec_l2Draw:Tryd.f91.body.isSome=true:=by kernel_rfl
theorem n_spec_l2Draw:(Tryd.f91.name == "runtime.NumGoroutine")=false:=by kernel_rfl
theorem c_spec_l2Draw {W0:World}:Contract Tryd.prog W0 91 K_spec_l2Draw:=contract_of (C:=X_spec_l2Draw) (fn:=Tryd.f91) (tysOk_at (C:=X0) rfl tysOk) (ctxOk_of (P:=Tryd.prog) ⟨c_spec_l1Next,c_spec_l1Pick,trivial⟩) follows Tryd.func91 b_spec_l2Draw n_spec_l2Draw (fun t ys h=>(e_spec_l2Draw t).trans h)
theorem b_spec_l4DrawOuts:Tryd.f75.body.isSome=true:=by kernel_rfl
theorem n_spec_l4DrawOuts:(Tryd.f75.name == "runtime.NumGoroutine")=false:=by kernel_rfl
theorem c_spec_l4DrawOuts {W0:World}:Contract Tryd.prog W0 75 K_spec_l4DrawOuts:=contract_of (C:=X_spec_l4DrawOuts) (fn:=Tryd.f75) (tysOk_at (C:=X0) rfl tysOk) (ctxOk_of (P:=Tryd.prog) ⟨c_spec_l1Next,c_spec_l2Draw,trivial⟩) follows Tryd.func75 b_spec_l4DrawOuts n_spec_l4DrawOuts (fun t ys h=>(e_spec_l4DrawOuts t).trans h)
theorem b_spec_l4Right:Tryd.f56.body.isSome=true:=by kernel_rfl
theorem n_spec_l4Right:(Tryd.f56.name == "runtime.NumGoroutine")=false:=by kernel_rfl
theorem c_spec_l4Right {W0:World}:Contract Tryd.prog W0 56 K_spec_l4Right:=contract_of (C:=X_spec_l4Right) (fn:=Tryd.f56) (tysOk_at (C:=X0) rfl tysOk) (ctxOk_of (P:=Tryd.prog) ⟨c_spec_l1Next,c_spec_l1Chance,c_spec_PutCoins,c_spec_l4DrawOuts,trivial⟩) follows Tryd.func56 b_spec_l4Right n_spec_l4Right (fun t ys h=>(e_spec_l4Right t).trans h)
theorem b_spec_l4Bent:Tryd.f31.body.isSome=true:=by kernel_rfl
theorem n_spec_l4Bent:(Tryd.f31.name == "runtime.NumGoroutine")=false:=by kernel_rfl
theorem c_spec_l4Bent {W0:World}:Contract Tryd.prog W0 31 K_spec_l4Bent:=contract_of (C:=X_spec_l4Bent) (fn:=Tryd.f31) (tysOk_at (C:=X0) rfl tysOk) (ctxOk_of (P:=Tryd.prog) ⟨c_spec_l4Right,c_spec_l1Next,c_spec_l1Pick,c_spec_l1Chance,trivial⟩) follows Tryd.func31 b_spec_l4Bent n_spec_l4Bent (fun t ys h=>(e_spec_l4Bent t).trans h)
theorem b_spec_l1Source:Tryd.f32.body.isSome=true:=by kernel_rfl
theorem n_spec_l1Source:(Tryd.f32.name == "runtime.NumGoroutine")=false:=by kernel_rfl
theorem c_spec_l1Source {W0:World}:NewOk Tryd.prog W0 32 N_spec_l1Source:=src_ok
theorem b_spec_DrawCoinsText:Tryd.f18.body.isSome=true:=by kernel_rfl
theorem n_spec_DrawCoinsText:(Tryd.f18.name == "runtime.NumGoroutine")=false:=by kernel_rfl
theorem c_spec_DrawCoinsText {W0:World}:Contract Tryd.prog W0 18 K_spec_DrawCoinsText:=contract_of (C:=X_spec_DrawCoinsText) (fn:=Tryd.f18) (tysOk_at (C:=X0) rfl tysOk) (ctxOk_np (P:=Tryd.prog) ⟨c_spec_l4Bent,trivial⟩ ⟨c_spec_l1Source,trivial⟩) follows Tryd.func18 b_spec_DrawCoinsText n_spec_DrawCoinsText (fun t ys h=>(e_spec_DrawCoinsText t).trans h)
theorem b_laws_FnCoinTexts:Tryd.f5.body.isSome=true:=by kernel_rfl
theorem n_laws_FnCoinTexts:(Tryd.f5.name == "runtime.NumGoroutine")=false:=by kernel_rfl
theorem c_laws_FnCoinTexts {W0:World} (hT:Lib.TabIs Tryd.prog W0 "internal/strconv.uint64pow10" .u64 Lib.pow10Tab) (hM:∃m,W0.cell? ⟨0,0,none⟩=some (.int .i64 m)):Contract Tryd.prog W0 5 K_laws_FnCoinTexts:=contract_of (C:=X_laws_FnCoinTexts) (fn:=Tryd.f5) (tysOk_at (C:=X0) rfl tysOk) (ctxOk_of (P:=Tryd.prog) ⟨c_impl_WordsOf hM,c_spec_CoinsText,c_impl_CoinsText hT,c_laws_lwBig,c_spec_DrawCoinsText,trivial⟩) follows Tryd.func5 b_laws_FnCoinTexts n_laws_FnCoinTexts (fun t ys h=>(e_laws_FnCoinTexts t).trans h)
end DL
end Go.Dx

