/- The executor finds what each function computes: by computation -/
import Derived.Test.YtoopijohnkgagaaDoorSca
set_option linter.unusedVariables false
set_option linter.unusedSimpArgs false
set_option maxRecDepth 100000
set_option maxHeartbeats 0
namespace Go.Dx
open Go.Proofs
namespace DL

theorem e_spec_l2Text (t:TupI (K_spec_l2Text.ins.map PS.sh)):runF X_spec_l2Text Tryd.f44 K_spec_l2Text t=K_spec_l2Text.F t:=by kernel_rfl
theorem e_impl_ruleText (t:TupI (K_impl_ruleText.ins.map PS.sh)):runF X_impl_ruleText Tryd.f53 K_impl_ruleText t=K_impl_ruleText.F t:=by kernel_rfl
theorem e_laws_eqCoinS (t:TupI (K_laws_eqCoinS.ins.map PS.sh)):runF X_laws_eqCoinS Tryd.f16 K_laws_eqCoinS t=K_laws_eqCoinS.F t:=by kernel_rfl
theorem e_laws_toRule (t:TupI (K_laws_toRule.ins.map PS.sh)):runF X_laws_toRule Tryd.f65 K_laws_toRule t=K_laws_toRule.F t:=by kernel_rfl
theorem e_laws_eqTextResult (t:TupI (K_laws_eqTextResult.ins.map PS.sh)):runF X_laws_eqTextResult Tryd.f15 K_laws_eqTextResult t=K_laws_eqTextResult.F t:=by kernel_rfl
theorem e_laws_toOut (t:TupI (K_laws_toOut.ins.map PS.sh)):runF X_laws_toOut Tryd.f46 K_laws_toOut t=K_laws_toOut.F t:=by kernel_rfl
theorem e_spec_l1Key (t:TupI (K_spec_l1Key.ins.map PS.sh)):runF X_spec_l1Key Tryd.f80 K_spec_l1Key t=K_spec_l1Key.F t:=by kernel_rfl
theorem e_impl_isKey (t:TupI (K_impl_isKey.ins.map PS.sh)):runF X_impl_isKey Tryd.f84 K_impl_isKey t=K_impl_isKey.F t:=by kernel_rfl
theorem e_slices_ContainsFunc_Lint64_int64 (t:TupI (K_slices_ContainsFunc_Lint64_int64.ins.map PS.sh)):runF X_slices_ContainsFunc_Lint64_int64 Tryd.f82 K_slices_ContainsFunc_Lint64_int64 t=K_slices_ContainsFunc_Lint64_int64.F t:=by kernel_rfl
theorem e_laws_eqRef (t:TupI (K_laws_eqRef.ins.map PS.sh)):runF X_laws_eqRef Tryd.f54 K_laws_eqRef t=K_laws_eqRef.F t:=by kernel_rfl
theorem e_cmp_isNaN_int64 (t:TupI (K_cmp_isNaN_int64.ins.map PS.sh)):runF X_cmp_isNaN_int64 Tryd.f85 K_cmp_isNaN_int64 t=K_cmp_isNaN_int64.F t:=by kernel_rfl
end DL
end Go.Dx

