/- The contracts of the functions -/
import Derived.Test.YtoopijohnkgagaaDoorSea
import Derived.Test.YtoopijohnkgagaaDoorSeb
import Derived.Test.YtoopijohnkgagaaDoorSec
import Derived.Test.YtoopijohnkgagaaDoorSed
import Derived.Test.YtoopijohnkgagaaDoorSee
import Derived.Test.YtoopijohnkgagaaDoorSef
import Derived.Test.YtoopijohnkgagaaDoorHdDigW43
import Derived.Test.YtoopijohnkgagaaDoorHdFmtW71
import Derived.Test.YtoopijohnkgagaaDoorHdJoinW87
set_option linter.unusedVariables false
set_option linter.unusedSimpArgs false
set_option maxRecDepth 100000
set_option maxHeartbeats 0
namespace Go.Dx
open Go.Proofs
namespace DL

theorem b_laws_szInt64S:Tryd.f79.body.isSome=true:=by kernel_rfl
theorem n_laws_szInt64S:(Tryd.f79.name == "runtime.NumGoroutine")=false:=by kernel_rfl
theorem c_laws_szInt64S {W0:World}:Contract Tryd.prog W0 79 K_laws_szInt64S:=contract_of (C:=X_laws_szInt64S) (fn:=Tryd.f79) (tysOk_at (C:=X0) rfl tysOk) (ctxOk_of (P:=Tryd.prog) trivial) follows Tryd.func79 b_laws_szInt64S n_laws_szInt64S (fun t ys h=>(e_laws_szInt64S t).trans h)
theorem b_laws_szRule:Tryd.f62.body.isSome=true:=by kernel_rfl
theorem n_laws_szRule:(Tryd.f62.name == "runtime.NumGoroutine")=false:=by kernel_rfl
theorem c_laws_szRule {W0:World}:Contract Tryd.prog W0 62 K_laws_szRule:=contract_of (C:=X_laws_szRule) (fn:=Tryd.f62) (tysOk_at (C:=X0) rfl tysOk) (ctxOk_of (P:=Tryd.prog) ⟨c_laws_szInt64S,trivial⟩) follows Tryd.func62 b_laws_szRule n_laws_szRule (fun t ys h=>(e_laws_szRule t).trans h)
theorem b_laws_szOut:Tryd.f38.body.isSome=true:=by kernel_rfl
theorem n_laws_szOut:(Tryd.f38.name == "runtime.NumGoroutine")=false:=by kernel_rfl
theorem c_laws_szOut {W0:World}:Contract Tryd.prog W0 38 K_laws_szOut:=contract_of (C:=X_laws_szOut) (fn:=Tryd.f38) (tysOk_at (C:=X0) rfl tysOk) (ctxOk_of (P:=Tryd.prog) ⟨c_laws_szRule,trivial⟩) follows Tryd.func38 b_laws_szOut n_laws_szOut (fun t ys h=>(e_laws_szOut t).trans h)
theorem b_laws_szCoin:Tryd.f24.body.isSome=true:=by kernel_rfl
theorem n_laws_szCoin:(Tryd.f24.name == "runtime.NumGoroutine")=false:=by kernel_rfl
theorem c_laws_szCoin {W0:World}:Contract Tryd.prog W0 24 K_laws_szCoin:=contract_of (C:=X_laws_szCoin) (fn:=Tryd.f24) (tysOk_at (C:=X0) rfl tysOk) (ctxOk_of (P:=Tryd.prog) ⟨c_laws_szOut,trivial⟩) follows Tryd.func24 b_laws_szCoin n_laws_szCoin (fun t ys h=>(e_laws_szCoin t).trans h)
theorem b_laws_szCoinS:Tryd.f11.body.isSome=true:=by kernel_rfl
theorem n_laws_szCoinS:(Tryd.f11.name == "runtime.NumGoroutine")=false:=by kernel_rfl
theorem c_laws_szCoinS {W0:World}:Contract Tryd.prog W0 11 K_laws_szCoinS:=contract_of (C:=X_laws_szCoinS) (fn:=Tryd.f11) (tysOk_at (C:=X0) rfl tysOk) (ctxOk_of (P:=Tryd.prog) ⟨c_laws_szCoin,trivial⟩) follows Tryd.func11 b_laws_szCoinS n_laws_szCoinS (fun t ys h=>(e_laws_szCoinS t).trans h)
theorem b_spec_l1In:Tryd.f63.body.isSome=true:=by kernel_rfl
theorem n_spec_l1In:(Tryd.f63.name == "runtime.NumGoroutine")=false:=by kernel_rfl
theorem c_spec_l1In {W0:World}:Contract Tryd.prog W0 63 K_spec_l1In:=contract_of (C:=X_spec_l1In) (fn:=Tryd.f63) (tysOk_at (C:=X0) rfl tysOk) (ctxOk_of (P:=Tryd.prog) trivial) follows Tryd.func63 b_spec_l1In n_spec_l1In (fun t ys h=>(e_spec_l1In t).trans h)
theorem b_spec_l3Ref:Tryd.f39.body.isSome=true:=by kernel_rfl
theorem n_spec_l3Ref:(Tryd.f39.name == "runtime.NumGoroutine")=false:=by kernel_rfl
theorem c_spec_l3Ref {W0:World}:Contract Tryd.prog W0 39 K_spec_l3Ref:=contract_of (C:=X_spec_l3Ref) (fn:=Tryd.f39) (tysOk_at (C:=X0) rfl tysOk) (ctxOk_of (P:=Tryd.prog) ⟨c_spec_l1In,trivial⟩) follows Tryd.func39 b_spec_l3Ref n_spec_l3Ref (fun t ys h=>(e_spec_l3Ref t).trans h)
theorem b_spec_l2Height:Tryd.f40.body.isSome=true:=by kernel_rfl
theorem n_spec_l2Height:(Tryd.f40.name == "runtime.NumGoroutine")=false:=by kernel_rfl
theorem c_spec_l2Height {W0:World}:Contract Tryd.prog W0 40 K_spec_l2Height:=contract_of (C:=X_spec_l2Height) (fn:=Tryd.f40) (tysOk_at (C:=X0) rfl tysOk) (ctxOk_of (P:=Tryd.prog) ⟨c_spec_l1In,trivial⟩) follows Tryd.func40 b_spec_l2Height n_spec_l2Height (fun t ys h=>(e_spec_l2Height t).trans h)
theorem b_spec_l1Key:Tryd.f80.body.isSome=true:=by kernel_rfl
theorem n_spec_l1Key:(Tryd.f80.name == "runtime.NumGoroutine")=false:=by kernel_rfl
theorem c_spec_l1Key {W0:World}:Contract Tryd.prog W0 80 K_spec_l1Key:=contract_of (C:=X_spec_l1Key) (fn:=Tryd.f80) (tysOk_at (C:=X0) rfl tysOk) (ctxOk_of (P:=Tryd.prog) ⟨c_spec_l1In,trivial⟩) follows Tryd.func80 b_spec_l1Key n_spec_l1Key (fun t ys h=>(e_spec_l1Key t).trans h)
theorem b_spec_l2Fault:Tryd.f64.body.isSome=true:=by kernel_rfl
theorem n_spec_l2Fault:(Tryd.f64.name == "runtime.NumGoroutine")=false:=by kernel_rfl
theorem c_spec_l2Fault {W0:World}:Contract Tryd.prog W0 64 K_spec_l2Fault:=contract_of (C:=X_spec_l2Fault) (fn:=Tryd.f64) (tysOk_at (C:=X0) rfl tysOk) (ctxOk_of (P:=Tryd.prog) ⟨c_spec_l2Height,c_spec_l1In,c_spec_l1Key,trivial⟩) follows Tryd.func64 b_spec_l2Fault n_spec_l2Fault (fun t ys h=>(e_spec_l2Fault t).trans h)
theorem b_spec_l4Out:Tryd.f41.body.isSome=true:=by kernel_rfl
theorem n_spec_l4Out:(Tryd.f41.name == "runtime.NumGoroutine")=false:=by kernel_rfl
theorem c_spec_l4Out {W0:World}:Contract Tryd.prog W0 41 K_spec_l4Out:=contract_of (C:=X_spec_l4Out) (fn:=Tryd.f41) (tysOk_at (C:=X0) rfl tysOk) (ctxOk_of (P:=Tryd.prog) ⟨c_spec_l1In,c_spec_l2Fault,trivial⟩) follows Tryd.func41 b_spec_l4Out n_spec_l4Out (fun t ys h=>(e_spec_l4Out t).trans h)
theorem b_spec_l4Ahead:Tryd.f42.body.isSome=true:=by kernel_rfl
theorem n_spec_l4Ahead:(Tryd.f42.name == "runtime.NumGoroutine")=false:=by kernel_rfl
theorem c_spec_l4Ahead {W0:World}:Contract Tryd.prog W0 42 K_spec_l4Ahead:=contract_of (C:=X_spec_l4Ahead) (fn:=Tryd.f42) (tysOk_at (C:=X0) rfl tysOk) (ctxOk_of (P:=Tryd.prog) trivial) follows Tryd.func42 b_spec_l4Ahead n_spec_l4Ahead (fun t ys h=>(e_spec_l4Ahead t).trans h)
theorem b_spec_l4Fault:Tryd.f25.body.isSome=true:=by kernel_rfl
theorem n_spec_l4Fault:(Tryd.f25.name == "runtime.NumGoroutine")=false:=by kernel_rfl
theorem c_spec_l4Fault {W0:World}:Contract Tryd.prog W0 25 K_spec_l4Fault:=contract_of (C:=X_spec_l4Fault) (fn:=Tryd.f25) (tysOk_at (C:=X0) rfl tysOk) (ctxOk_of (P:=Tryd.prog) ⟨c_spec_l3Ref,c_spec_l2Height,c_spec_l4Out,c_spec_l4Ahead,trivial⟩) follows Tryd.func25 b_spec_l4Fault n_spec_l4Fault (fun t ys h=>(e_spec_l4Fault t).trans h)
theorem b_spec_l2Digits:Tryd.f43.body.isSome=true:=by kernel_rfl
theorem n_spec_l2Digits:(Tryd.f43.name == "runtime.NumGoroutine")=false:=by kernel_rfl
theorem c_spec_l2Digits {W0:World}:Contract Tryd.prog W0 43 K_spec_l2Digits:=c_dig 19
theorem b_spec_l2Text:Tryd.f44.body.isSome=true:=by kernel_rfl
theorem n_spec_l2Text:(Tryd.f44.name == "runtime.NumGoroutine")=false:=by kernel_rfl
theorem c_spec_l2Text {W0:World}:Contract Tryd.prog W0 44 K_spec_l2Text:=contract_of (C:=X_spec_l2Text) (fn:=Tryd.f44) (tysOk_at (C:=X0) rfl tysOk) (ctxOk_of (P:=Tryd.prog) ⟨c_spec_l2Digits,trivial⟩) follows Tryd.func44 b_spec_l2Text n_spec_l2Text (fun t ys h=>(e_spec_l2Text t).trans h)
theorem b_spec_l16Coins:Tryd.f26.body.isSome=true:=by kernel_rfl
theorem n_spec_l16Coins:(Tryd.f26.name == "runtime.NumGoroutine")=false:=by kernel_rfl
theorem c_spec_l16Coins {W0:World}:Contract Tryd.prog W0 26 K_spec_l16Coins:=contract_of (C:=X_spec_l16Coins) (fn:=Tryd.f26) (tysOk_at (C:=X0) rfl tysOk) (ctxOk_of (P:=Tryd.prog) ⟨c_spec_l2Digits,c_spec_l2Text,trivial⟩) follows Tryd.func26 b_spec_l16Coins n_spec_l16Coins (fun t ys h=>(e_spec_l16Coins t).trans h)
theorem b_spec_CoinsText:Tryd.f12.body.isSome=true:=by kernel_rfl
theorem n_spec_CoinsText:(Tryd.f12.name == "runtime.NumGoroutine")=false:=by kernel_rfl
theorem c_spec_CoinsText {W0:World}:Contract Tryd.prog W0 12 K_spec_CoinsText:=contract_of (C:=X_spec_CoinsText) (fn:=Tryd.f12) (tysOk_at (C:=X0) rfl tysOk) (ctxOk_of (P:=Tryd.prog) ⟨c_spec_l4Fault,c_spec_l16Coins,trivial⟩) follows Tryd.func12 b_spec_CoinsText n_spec_CoinsText (fun t ys h=>(e_spec_CoinsText t).trans h)
theorem b_laws_toRef:Tryd.f45.body.isSome=true:=by kernel_rfl
theorem n_laws_toRef:(Tryd.f45.name == "runtime.NumGoroutine")=false:=by kernel_rfl
theorem c_laws_toRef {W0:World}:Contract Tryd.prog W0 45 K_laws_toRef:=contract_of (C:=X_laws_toRef) (fn:=Tryd.f45) (tysOk_at (C:=X0) rfl tysOk) (ctxOk_of (P:=Tryd.prog) trivial) follows Tryd.func45 b_laws_toRef n_laws_toRef (fun t ys h=>(e_laws_toRef t).trans h)
theorem b_laws_toInt64S:Tryd.f81.body.isSome=true:=by kernel_rfl
theorem n_laws_toInt64S:(Tryd.f81.name == "runtime.NumGoroutine")=false:=by kernel_rfl
theorem c_laws_toInt64S {W0:World}:Contract Tryd.prog W0 81 K_laws_toInt64S:=contract_of (C:=X_laws_toInt64S) (fn:=Tryd.f81) (tysOk_at (C:=X0) rfl tysOk) (ctxOk_of (P:=Tryd.prog) trivial) follows Tryd.func81 b_laws_toInt64S n_laws_toInt64S (fun t ys h=>(e_laws_toInt64S t).trans h)
theorem b_laws_toRule:Tryd.f65.body.isSome=true:=by kernel_rfl
theorem n_laws_toRule:(Tryd.f65.name == "runtime.NumGoroutine")=false:=by kernel_rfl
theorem c_laws_toRule {W0:World}:Contract Tryd.prog W0 65 K_laws_toRule:=contract_of (C:=X_laws_toRule) (fn:=Tryd.f65) (tysOk_at (C:=X0) rfl tysOk) (ctxOk_of (P:=Tryd.prog) ⟨c_laws_toInt64S,trivial⟩) follows Tryd.func65 b_laws_toRule n_laws_toRule (fun t ys h=>(e_laws_toRule t).trans h)
theorem b_laws_toOut:Tryd.f46.body.isSome=true:=by kernel_rfl
theorem n_laws_toOut:(Tryd.f46.name == "runtime.NumGoroutine")=false:=by kernel_rfl
theorem c_laws_toOut {W0:World}:Contract Tryd.prog W0 46 K_laws_toOut:=contract_of (C:=X_laws_toOut) (fn:=Tryd.f46) (tysOk_at (C:=X0) rfl tysOk) (ctxOk_of (P:=Tryd.prog) ⟨c_laws_toRule,trivial⟩) follows Tryd.func46 b_laws_toOut n_laws_toOut (fun t ys h=>(e_laws_toOut t).trans h)
theorem b_laws_toCoin:Tryd.f27.body.isSome=true:=by kernel_rfl
theorem n_laws_toCoin:(Tryd.f27.name == "runtime.NumGoroutine")=false:=by kernel_rfl
theorem c_laws_toCoin {W0:World}:Contract Tryd.prog W0 27 K_laws_toCoin:=contract_of (C:=X_laws_toCoin) (fn:=Tryd.f27) (tysOk_at (C:=X0) rfl tysOk) (ctxOk_of (P:=Tryd.prog) ⟨c_laws_toRef,c_laws_toOut,trivial⟩) follows Tryd.func27 b_laws_toCoin n_laws_toCoin (fun t ys h=>(e_laws_toCoin t).trans h)
theorem b_laws_toCoinS:Tryd.f13.body.isSome=true:=by kernel_rfl
theorem n_laws_toCoinS:(Tryd.f13.name == "runtime.NumGoroutine")=false:=by kernel_rfl
theorem c_laws_toCoinS {W0:World}:Contract Tryd.prog W0 13 K_laws_toCoinS:=contract_of (C:=X_laws_toCoinS) (fn:=Tryd.f13) (tysOk_at (C:=X0) rfl tysOk) (ctxOk_of (P:=Tryd.prog) ⟨c_laws_toCoin,trivial⟩) follows Tryd.func13 b_laws_toCoinS n_laws_toCoinS (fun t ys h=>(e_laws_toCoinS t).trans h)
theorem b_impl_within:Tryd.f49.body.isSome=true:=by kernel_rfl
theorem n_impl_within:(Tryd.f49.name == "runtime.NumGoroutine")=false:=by kernel_rfl
theorem c_impl_within {W0:World}:Contract Tryd.prog W0 49 K_impl_within:=contract_of (C:=X_impl_within) (fn:=Tryd.f49) (tysOk_at (C:=X0) rfl tysOk) (ctxOk_of (P:=Tryd.prog) trivial) follows Tryd.func49 b_impl_within n_impl_within (fun t ys h=>(e_impl_within t).trans h)
theorem b_impl_isId:Tryd.f66.body.isSome=true:=by kernel_rfl
theorem n_impl_isId:(Tryd.f66.name == "runtime.NumGoroutine")=false:=by kernel_rfl
theorem c_impl_isId {W0:World}:Contract Tryd.prog W0 66 K_impl_isId:=contract_of (C:=X_impl_isId) (fn:=Tryd.f66) (tysOk_at (C:=X0) rfl tysOk) (ctxOk_of (P:=Tryd.prog) ⟨c_impl_within,trivial⟩) follows Tryd.func66 b_impl_isId n_impl_isId (fun t ys h=>(e_impl_isId t).trans h)
theorem b_impl_isRef:Tryd.f47.body.isSome=true:=by kernel_rfl
theorem n_impl_isRef:(Tryd.f47.name == "runtime.NumGoroutine")=false:=by kernel_rfl
theorem c_impl_isRef {W0:World}:Contract Tryd.prog W0 47 K_impl_isRef:=contract_of (C:=X_impl_isRef) (fn:=Tryd.f47) (tysOk_at (C:=X0) rfl tysOk) (ctxOk_of (P:=Tryd.prog) ⟨c_impl_within,c_impl_isId,trivial⟩) follows Tryd.func47 b_impl_isRef n_impl_isRef (fun t ys h=>(e_impl_isRef t).trans h)
theorem b_impl_isHeight:Tryd.f48.body.isSome=true:=by kernel_rfl
theorem n_impl_isHeight:(Tryd.f48.name == "runtime.NumGoroutine")=false:=by kernel_rfl
theorem c_impl_isHeight {W0:World}:Contract Tryd.prog W0 48 K_impl_isHeight:=contract_of (C:=X_impl_isHeight) (fn:=Tryd.f48) (tysOk_at (C:=X0) rfl tysOk) (ctxOk_of (P:=Tryd.prog) ⟨c_impl_within,trivial⟩) follows Tryd.func48 b_impl_isHeight n_impl_isHeight (fun t ys h=>(e_impl_isHeight t).trans h)
theorem b_slices_IndexFunc_Lint64_int64:Tryd.f96.body.isSome=true:=by kernel_rfl
theorem n_slices_IndexFunc_Lint64_int64:(Tryd.f96.name == "runtime.NumGoroutine")=false:=by kernel_rfl
theorem c_slices_IndexFunc_Lint64_int64 {W0:World}:Contract Tryd.prog W0 96 K_slices_IndexFunc_Lint64_int64:=contract_of (C:=X_slices_IndexFunc_Lint64_int64) (fn:=Tryd.f96) (tysOk_at (C:=X0) rfl tysOk) (ctxOk_of (P:=Tryd.prog) trivial) follows Tryd.func96 b_slices_IndexFunc_Lint64_int64 n_slices_IndexFunc_Lint64_int64 (fun t ys h=>(e_slices_IndexFunc_Lint64_int64 t).trans h)
theorem b_slices_ContainsFunc_Lint64_int64:Tryd.f82.body.isSome=true:=by kernel_rfl
theorem n_slices_ContainsFunc_Lint64_int64:(Tryd.f82.name == "runtime.NumGoroutine")=false:=by kernel_rfl
theorem c_slices_ContainsFunc_Lint64_int64 {W0:World}:Contract Tryd.prog W0 82 K_slices_ContainsFunc_Lint64_int64:=contract_of (C:=X_slices_ContainsFunc_Lint64_int64) (fn:=Tryd.f82) (tysOk_at (C:=X0) rfl tysOk) (ctxOk_of (P:=Tryd.prog) ⟨c_slices_IndexFunc_Lint64_int64,trivial⟩) follows Tryd.func82 b_slices_ContainsFunc_Lint64_int64 n_slices_ContainsFunc_Lint64_int64 (fun t ys h=>(e_slices_ContainsFunc_Lint64_int64 t).trans h)
theorem b_impl_isKey:Tryd.f84.body.isSome=true:=by kernel_rfl
theorem n_impl_isKey:(Tryd.f84.name == "runtime.NumGoroutine")=false:=by kernel_rfl
theorem c_impl_isKey {W0:World}:Contract Tryd.prog W0 84 K_impl_isKey:=contract_of (C:=X_impl_isKey) (fn:=Tryd.f84) (tysOk_at (C:=X0) rfl tysOk) (ctxOk_of (P:=Tryd.prog) ⟨c_impl_within,trivial⟩) follows Tryd.func84 b_impl_isKey n_impl_isKey (fun t ys h=>(e_impl_isKey t).trans h)
theorem b_impl_areKeys_c1:Tryd.f83.body.isSome=true:=by kernel_rfl
theorem n_impl_areKeys_c1:(Tryd.f83.name == "runtime.NumGoroutine")=false:=by kernel_rfl
theorem c_impl_areKeys_c1 {W0:World}:Contract Tryd.prog W0 83 K_impl_areKeys_c1:=contract_of (C:=X_impl_areKeys_c1) (fn:=Tryd.f83) (tysOk_at (C:=X0) rfl tysOk) (ctxOk_of (P:=Tryd.prog) ⟨c_impl_isKey,trivial⟩) follows Tryd.func83 b_impl_areKeys_c1 n_impl_areKeys_c1 (fun t ys h=>(e_impl_areKeys_c1 t).trans h)
theorem b_impl_areKeys:Tryd.f67.body.isSome=true:=by kernel_rfl
theorem n_impl_areKeys:(Tryd.f67.name == "runtime.NumGoroutine")=false:=by kernel_rfl
theorem c_impl_areKeys {W0:World}:Contract Tryd.prog W0 67 K_impl_areKeys:=contract_of (C:=X_impl_areKeys) (fn:=Tryd.f67) (tysOk_at (C:=X0) rfl tysOk) (ctxOk_of (P:=Tryd.prog) ⟨c_slices_ContainsFunc_Lint64_int64,c_impl_areKeys_c1,trivial⟩) follows Tryd.func67 b_impl_areKeys n_impl_areKeys (fun t ys h=>(e_impl_areKeys t).trans h)
theorem b_impl_isRising:Tryd.f68.body.isSome=true:=by kernel_rfl
theorem n_impl_isRising:(Tryd.f68.name == "runtime.NumGoroutine")=false:=by kernel_rfl
theorem c_impl_isRising {W0:World}:Contract Tryd.prog W0 68 K_impl_isRising:=contract_of (C:=X_impl_isRising) (fn:=Tryd.f68) (tysOk_at (C:=X0) rfl tysOk) (ctxOk_of (P:=Tryd.prog) trivial) follows Tryd.func68 b_impl_isRising n_impl_isRising (fun t ys h=>(e_impl_isRising t).trans h)
theorem b_impl_RuleFault:Tryd.f50.body.isSome=true:=by kernel_rfl
theorem n_impl_RuleFault:(Tryd.f50.name == "runtime.NumGoroutine")=false:=by kernel_rfl
theorem c_impl_RuleFault {W0:World}:Contract Tryd.prog W0 50 K_impl_RuleFault:=contract_of (C:=X_impl_RuleFault) (fn:=Tryd.f50) (tysOk_at (C:=X0) rfl tysOk) (ctxOk_of (P:=Tryd.prog) ⟨c_impl_isHeight,c_impl_within,c_impl_areKeys,c_impl_isRising,trivial⟩) follows Tryd.func50 b_impl_RuleFault n_impl_RuleFault (fun t ys h=>(e_impl_RuleFault t).trans h)
theorem b_cmp_Or_int:Tryd.f69.body.isSome=true:=by kernel_rfl
theorem n_cmp_Or_int:(Tryd.f69.name == "runtime.NumGoroutine")=false:=by kernel_rfl
theorem c_cmp_Or_int {W0:World}:Contract Tryd.prog W0 69 K_cmp_Or_int:=contract_of (C:=X_cmp_Or_int) (fn:=Tryd.f69) (tysOk_at (C:=X0) rfl tysOk) (ctxOk_of (P:=Tryd.prog) trivial) follows Tryd.func69 b_cmp_Or_int n_cmp_Or_int (fun t ys h=>(e_cmp_Or_int t).trans h)
theorem b_cmp_isNaN_int64:Tryd.f85.body.isSome=true:=by kernel_rfl
theorem n_cmp_isNaN_int64:(Tryd.f85.name == "runtime.NumGoroutine")=false:=by kernel_rfl
theorem c_cmp_isNaN_int64 {W0:World}:Contract Tryd.prog W0 85 K_cmp_isNaN_int64:=contract_of (C:=X_cmp_isNaN_int64) (fn:=Tryd.f85) (tysOk_at (C:=X0) rfl tysOk) (ctxOk_of (P:=Tryd.prog) trivial) follows Tryd.func85 b_cmp_isNaN_int64 n_cmp_isNaN_int64 (fun t ys h=>(e_cmp_isNaN_int64 t).trans h)
theorem b_cmp_Compare_int64:Tryd.f70.body.isSome=true:=by kernel_rfl
theorem n_cmp_Compare_int64:(Tryd.f70.name == "runtime.NumGoroutine")=false:=by kernel_rfl
theorem c_cmp_Compare_int64 {W0:World}:Contract Tryd.prog W0 70 K_cmp_Compare_int64:=contract_of (C:=X_cmp_Compare_int64) (fn:=Tryd.f70) (tysOk_at (C:=X0) rfl tysOk) (ctxOk_of (P:=Tryd.prog) ⟨c_cmp_isNaN_int64,trivial⟩) follows Tryd.func70 b_cmp_Compare_int64 n_cmp_Compare_int64 (fun t ys h=>(e_cmp_Compare_int64 t).trans h)
theorem b_impl_compareRefs:Tryd.f51.body.isSome=true:=by kernel_rfl
theorem n_impl_compareRefs:(Tryd.f51.name == "runtime.NumGoroutine")=false:=by kernel_rfl
theorem c_impl_compareRefs {W0:World}:Contract Tryd.prog W0 51 K_impl_compareRefs:=contract_of (C:=X_impl_compareRefs) (fn:=Tryd.f51) (tysOk_at (C:=X0) rfl tysOk) (ctxOk_of (P:=Tryd.prog) ⟨c_cmp_Or_int,c_cmp_Compare_int64,trivial⟩) follows Tryd.func51 b_impl_compareRefs n_impl_compareRefs (fun t ys h=>(e_impl_compareRefs t).trans h)
theorem b_impl_CoinsFault:Tryd.f28.body.isSome=true:=by kernel_rfl
theorem n_impl_CoinsFault:(Tryd.f28.name == "runtime.NumGoroutine")=false:=by kernel_rfl
theorem c_impl_CoinsFault {W0:World}:Contract Tryd.prog W0 28 K_impl_CoinsFault:=contract_of (C:=X_impl_CoinsFault) (fn:=Tryd.f28) (tysOk_at (C:=X0) rfl tysOk) (ctxOk_of (P:=Tryd.prog) ⟨c_impl_isRef,c_impl_isHeight,c_impl_within,c_impl_RuleFault,c_impl_compareRefs,trivial⟩) follows Tryd.func28 b_impl_CoinsFault n_impl_CoinsFault (fun t ys h=>(e_impl_CoinsFault t).trans h)
theorem b_strconv_FormatInt:Tryd.f71.body.isSome=true:=by kernel_rfl
theorem n_strconv_FormatInt:(Tryd.f71.name == "runtime.NumGoroutine")=false:=by kernel_rfl
theorem c_strconv_FormatInt {W0:World} (hT:Lib.TabIs Tryd.prog W0 "internal/strconv.uint64pow10" .u64 Lib.pow10Tab):Contract Tryd.prog W0 71 K_strconv_FormatInt:=fmtok71 ⟨Tryd.f71,Tryd.func71,b_strconv_FormatInt,n_strconv_FormatInt⟩ hT
theorem b_impl_dec:Tryd.f52.body.isSome=true:=by kernel_rfl
theorem n_impl_dec:(Tryd.f52.name == "runtime.NumGoroutine")=false:=by kernel_rfl
theorem c_impl_dec {W0:World} (hT:Lib.TabIs Tryd.prog W0 "internal/strconv.uint64pow10" .u64 Lib.pow10Tab):Contract Tryd.prog W0 52 K_impl_dec:=contract_of (C:=X_impl_dec) (fn:=Tryd.f52) (tysOk_at (C:=X0) rfl tysOk) (ctxOk_of (P:=Tryd.prog) ⟨c_strconv_FormatInt hT,trivial⟩) follows Tryd.func52 b_impl_dec n_impl_dec (fun t ys h=>(e_impl_dec t).trans h)
theorem b_strings_Join:Tryd.f87.body.isSome=true:=by kernel_rfl
theorem n_strings_Join:(Tryd.f87.name == "runtime.NumGoroutine")=false:=by kernel_rfl
theorem c_strings_Join {W0:World}:Contract Tryd.prog W0 87 K_strings_Join:=joinok87 ⟨Tryd.f87,Tryd.func87,b_strings_Join,n_strings_Join⟩
theorem b_impl_joined:Tryd.f72.body.isSome=true:=by kernel_rfl
theorem n_impl_joined:(Tryd.f72.name == "runtime.NumGoroutine")=false:=by kernel_rfl
theorem c_impl_joined {W0:World} (hT:Lib.TabIs Tryd.prog W0 "internal/strconv.uint64pow10" .u64 Lib.pow10Tab):Contract Tryd.prog W0 72 K_impl_joined:=contract_of (C:=X_impl_joined) (fn:=Tryd.f72) (tysOk_at (C:=X0) rfl tysOk) (ctxOk_of (P:=Tryd.prog) ⟨c_impl_dec hT,c_strings_Join,trivial⟩) follows Tryd.func72 b_impl_joined n_impl_joined (fun t ys h=>(e_impl_joined t).trans h)
theorem b_impl_ruleText:Tryd.f53.body.isSome=true:=by kernel_rfl
theorem n_impl_ruleText:(Tryd.f53.name == "runtime.NumGoroutine")=false:=by kernel_rfl
theorem c_impl_ruleText {W0:World} (hT:Lib.TabIs Tryd.prog W0 "internal/strconv.uint64pow10" .u64 Lib.pow10Tab):Contract Tryd.prog W0 53 K_impl_ruleText:=contract_of (C:=X_impl_ruleText) (fn:=Tryd.f53) (tysOk_at (C:=X0) rfl tysOk) (ctxOk_of (P:=Tryd.prog) ⟨c_impl_dec hT,c_impl_joined hT,trivial⟩) follows Tryd.func53 b_impl_ruleText n_impl_ruleText (fun t ys h=>(e_impl_ruleText t).trans h)
theorem b_impl_coinsText:Tryd.f29.body.isSome=true:=by kernel_rfl
theorem n_impl_coinsText:(Tryd.f29.name == "runtime.NumGoroutine")=false:=by kernel_rfl
theorem c_impl_coinsText {W0:World} (hT:Lib.TabIs Tryd.prog W0 "internal/strconv.uint64pow10" .u64 Lib.pow10Tab):Contract Tryd.prog W0 29 K_impl_coinsText:=contract_of (C:=X_impl_coinsText) (fn:=Tryd.f29) (tysOk_at (C:=X0) rfl tysOk) (ctxOk_of (P:=Tryd.prog) ⟨c_impl_dec hT,c_impl_ruleText hT,trivial⟩) follows Tryd.func29 b_impl_coinsText n_impl_coinsText (fun t ys h=>(e_impl_coinsText t).trans h)
theorem b_impl_CoinsText:Tryd.f14.body.isSome=true:=by kernel_rfl
theorem n_impl_CoinsText:(Tryd.f14.name == "runtime.NumGoroutine")=false:=by kernel_rfl
theorem c_impl_CoinsText {W0:World} (hT:Lib.TabIs Tryd.prog W0 "internal/strconv.uint64pow10" .u64 Lib.pow10Tab):Contract Tryd.prog W0 14 K_impl_CoinsText:=contract_of (C:=X_impl_CoinsText) (fn:=Tryd.f14) (tysOk_at (C:=X0) rfl tysOk) (ctxOk_of (P:=Tryd.prog) ⟨c_impl_CoinsFault,c_impl_coinsText hT,trivial⟩) follows Tryd.func14 b_impl_CoinsText n_impl_CoinsText (fun t ys h=>(e_impl_CoinsText t).trans h)
theorem b_laws_eqTextResult:Tryd.f15.body.isSome=true:=by kernel_rfl
theorem n_laws_eqTextResult:(Tryd.f15.name == "runtime.NumGoroutine")=false:=by kernel_rfl
theorem c_laws_eqTextResult {W0:World}:Contract Tryd.prog W0 15 K_laws_eqTextResult:=contract_of (C:=X_laws_eqTextResult) (fn:=Tryd.f15) (tysOk_at (C:=X0) rfl tysOk) (ctxOk_of (P:=Tryd.prog) trivial) follows Tryd.func15 b_laws_eqTextResult n_laws_eqTextResult (fun t ys h=>(e_laws_eqTextResult t).trans h)
theorem b_laws_eqRef:Tryd.f54.body.isSome=true:=by kernel_rfl
theorem n_laws_eqRef:(Tryd.f54.name == "runtime.NumGoroutine")=false:=by kernel_rfl
theorem c_laws_eqRef {W0:World}:Contract Tryd.prog W0 54 K_laws_eqRef:=contract_of (C:=X_laws_eqRef) (fn:=Tryd.f54) (tysOk_at (C:=X0) rfl tysOk) (ctxOk_of (P:=Tryd.prog) trivial) follows Tryd.func54 b_laws_eqRef n_laws_eqRef (fun t ys h=>(e_laws_eqRef t).trans h)
theorem b_laws_eqInt64S:Tryd.f88.body.isSome=true:=by kernel_rfl
theorem n_laws_eqInt64S:(Tryd.f88.name == "runtime.NumGoroutine")=false:=by kernel_rfl
theorem c_laws_eqInt64S {W0:World}:Contract Tryd.prog W0 88 K_laws_eqInt64S:=contract_of (C:=X_laws_eqInt64S) (fn:=Tryd.f88) (tysOk_at (C:=X0) rfl tysOk) (ctxOk_of (P:=Tryd.prog) trivial) follows Tryd.func88 b_laws_eqInt64S n_laws_eqInt64S (fun t ys h=>(e_laws_eqInt64S t).trans h)
theorem b_laws_eqRule:Tryd.f73.body.isSome=true:=by kernel_rfl
theorem n_laws_eqRule:(Tryd.f73.name == "runtime.NumGoroutine")=false:=by kernel_rfl
theorem c_laws_eqRule {W0:World}:Contract Tryd.prog W0 73 K_laws_eqRule:=contract_of (C:=X_laws_eqRule) (fn:=Tryd.f73) (tysOk_at (C:=X0) rfl tysOk) (ctxOk_of (P:=Tryd.prog) ⟨c_laws_eqInt64S,trivial⟩) follows Tryd.func73 b_laws_eqRule n_laws_eqRule (fun t ys h=>(e_laws_eqRule t).trans h)
theorem b_laws_eqOut:Tryd.f55.body.isSome=true:=by kernel_rfl
theorem n_laws_eqOut:(Tryd.f55.name == "runtime.NumGoroutine")=false:=by kernel_rfl
theorem c_laws_eqOut {W0:World}:Contract Tryd.prog W0 55 K_laws_eqOut:=contract_of (C:=X_laws_eqOut) (fn:=Tryd.f55) (tysOk_at (C:=X0) rfl tysOk) (ctxOk_of (P:=Tryd.prog) ⟨c_laws_eqRule,trivial⟩) follows Tryd.func55 b_laws_eqOut n_laws_eqOut (fun t ys h=>(e_laws_eqOut t).trans h)
theorem b_laws_eqCoin:Tryd.f30.body.isSome=true:=by kernel_rfl
theorem n_laws_eqCoin:(Tryd.f30.name == "runtime.NumGoroutine")=false:=by kernel_rfl
theorem c_laws_eqCoin {W0:World}:Contract Tryd.prog W0 30 K_laws_eqCoin:=contract_of (C:=X_laws_eqCoin) (fn:=Tryd.f30) (tysOk_at (C:=X0) rfl tysOk) (ctxOk_of (P:=Tryd.prog) ⟨c_laws_eqRef,c_laws_eqOut,trivial⟩) follows Tryd.func30 b_laws_eqCoin n_laws_eqCoin (fun t ys h=>(e_laws_eqCoin t).trans h)
theorem b_laws_eqCoinS:Tryd.f16.body.isSome=true:=by kernel_rfl
theorem n_laws_eqCoinS:(Tryd.f16.name == "runtime.NumGoroutine")=false:=by kernel_rfl
theorem c_laws_eqCoinS {W0:World}:Contract Tryd.prog W0 16 K_laws_eqCoinS:=contract_of (C:=X_laws_eqCoinS) (fn:=Tryd.f16) (tysOk_at (C:=X0) rfl tysOk) (ctxOk_of (P:=Tryd.prog) ⟨c_laws_eqCoin,trivial⟩) follows Tryd.func16 b_laws_eqCoinS n_laws_eqCoinS (fun t ys h=>(e_laws_eqCoinS t).trans h)
theorem b_laws_FnExactCoinsText:Tryd.f4.body.isSome=true:=by kernel_rfl
theorem n_laws_FnExactCoinsText:(Tryd.f4.name == "runtime.NumGoroutine")=false:=by kernel_rfl
theorem c_laws_FnExactCoinsText {W0:World} (hT:Lib.TabIs Tryd.prog W0 "internal/strconv.uint64pow10" .u64 Lib.pow10Tab):Contract Tryd.prog W0 4 K_laws_FnExactCoinsText:=contract_of (C:=X_laws_FnExactCoinsText) (fn:=Tryd.f4) (tysOk_at (C:=X0) rfl tysOk) (ctxOk_of (P:=Tryd.prog) ⟨c_laws_szCoinS,c_spec_CoinsText,c_laws_toCoinS,c_impl_CoinsText hT,c_laws_eqTextResult,c_laws_eqCoinS,trivial⟩) follows Tryd.func4 b_laws_FnExactCoinsText n_laws_FnExactCoinsText (fun t ys h=>(e_laws_FnExactCoinsText t).trans h)
end DL
end Go.Dx

