/- The executor finds what each function computes: by computation -/
import Derived.Test.YtoopijohnkgagaaDoorSca
set_option linter.unusedVariables false
set_option linter.unusedSimpArgs false
set_option maxRecDepth 100000
set_option maxHeartbeats 0
namespace Go.Dx
open Go.Proofs
namespace DL

theorem e_spec_l16Coins (t:TupI (K_spec_l16Coins.ins.map PS.sh)):runF X_spec_l16Coins Tryd.f26 K_spec_l16Coins t=K_spec_l16Coins.F t:=by kernel_rfl
theorem e_spec_l2Text (t:TupI (K_spec_l2Text.ins.map PS.sh)):runF X_spec_l2Text Tryd.f44 K_spec_l2Text t=K_spec_l2Text.F t:=by kernel_rfl
theorem e_impl_compareRefs (t:TupI (K_impl_compareRefs.ins.map PS.sh)):runF X_impl_compareRefs Tryd.f51 K_impl_compareRefs t=K_impl_compareRefs.F t:=by kernel_rfl
theorem e_impl_RuleFault (t:TupI (K_impl_RuleFault.ins.map PS.sh)):runF X_impl_RuleFault Tryd.f50 K_impl_RuleFault t=K_impl_RuleFault.F t:=by kernel_rfl
theorem e_spec_l4Of (t:TupI (K_spec_l4Of.ins.map PS.sh)):runF X_spec_l4Of Tryd.f89 K_spec_l4Of t=K_spec_l4Of.F t:=by kernel_rfl
theorem e_cmp_Or_int (t:TupI (K_cmp_Or_int.ins.map PS.sh)):runF X_cmp_Or_int Tryd.f69 K_cmp_Or_int t=K_cmp_Or_int.F t:=by kernel_rfl
theorem e_cmp_isNaN_int64 (t:TupI (K_cmp_isNaN_int64.ins.map PS.sh)):runF X_cmp_isNaN_int64 Tryd.f85 K_cmp_isNaN_int64 t=K_cmp_isNaN_int64.F t:=by kernel_rfl
theorem e_spec_l1Pick (t:TupI (K_spec_l1Pick.ins.map PS.sh)):runF X_spec_l1Pick Tryd.f58 K_spec_l1Pick t=K_spec_l1Pick.F t:=by kernel_rfl
theorem e_impl_isRef (t:TupI (K_impl_isRef.ins.map PS.sh)):runF X_impl_isRef Tryd.f47 K_impl_isRef t=K_impl_isRef.F t:=by kernel_rfl
end DL
end Go.Dx

