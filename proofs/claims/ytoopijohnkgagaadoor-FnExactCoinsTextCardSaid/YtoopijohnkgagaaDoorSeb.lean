/- The executor finds what each function computes: by computation -/
import Derived.Test.YtoopijohnkgagaaDoorSca
set_option linter.unusedVariables false
set_option linter.unusedSimpArgs false
set_option maxRecDepth 100000
set_option maxHeartbeats 0
namespace Go.Dx
open Go.Proofs
namespace DL

theorem e_spec_l16Coins (t:TupI (K_spec_l16Coins.ins.map PS.sh)):runF X_spec_l16Coins Tryd.f26 K_spec_l16Coins t=K_spec_l16Coins.F t:=by kernel_rfl
theorem e_laws_eqRule (t:TupI (K_laws_eqRule.ins.map PS.sh)):runF X_laws_eqRule Tryd.f73 K_laws_eqRule t=K_laws_eqRule.F t:=by kernel_rfl
theorem e_laws_toInt64S (t:TupI (K_laws_toInt64S.ins.map PS.sh)):runF X_laws_toInt64S Tryd.f81 K_laws_toInt64S t=K_laws_toInt64S.F t:=by kernel_rfl
theorem e_spec_l2Height (t:TupI (K_spec_l2Height.ins.map PS.sh)):runF X_spec_l2Height Tryd.f40 K_spec_l2Height t=K_spec_l2Height.F t:=by kernel_rfl
theorem e_impl_areKeys_c1 (t:TupI (K_impl_areKeys_c1.ins.map PS.sh)):runF X_impl_areKeys_c1 Tryd.f83 K_impl_areKeys_c1 t=K_impl_areKeys_c1.F t:=by kernel_rfl
theorem e_spec_CoinsText (t:TupI (K_spec_CoinsText.ins.map PS.sh)):runF X_spec_CoinsText Tryd.f12 K_spec_CoinsText t=K_spec_CoinsText.F t:=by kernel_rfl
theorem e_impl_isRef (t:TupI (K_impl_isRef.ins.map PS.sh)):runF X_impl_isRef Tryd.f47 K_impl_isRef t=K_impl_isRef.F t:=by kernel_rfl
theorem e_cmp_Or_int (t:TupI (K_cmp_Or_int.ins.map PS.sh)):runF X_cmp_Or_int Tryd.f69 K_cmp_Or_int t=K_cmp_Or_int.F t:=by kernel_rfl
end DL
end Go.Dx

