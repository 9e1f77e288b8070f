/- The executor finds what each function computes: by computation -/
import Derived.Test.YtoopijohnkgagaaDoorSca
set_option linter.unusedVariables false
set_option linter.unusedSimpArgs false
set_option maxRecDepth 100000
set_option maxHeartbeats 0
namespace Go.Dx
open Go.Proofs
namespace DL

theorem e_spec_l2Fault (t:TupI (K_spec_l2Fault.ins.map PS.sh)):runF X_spec_l2Fault Tryd.f64 K_spec_l2Fault t=K_spec_l2Fault.F t:=by kernel_rfl
theorem e_impl_compareRefs (t:TupI (K_impl_compareRefs.ins.map PS.sh)):runF X_impl_compareRefs Tryd.f51 K_impl_compareRefs t=K_impl_compareRefs.F t:=by kernel_rfl
theorem e_impl_isRising (t:TupI (K_impl_isRising.ins.map PS.sh)):runF X_impl_isRising Tryd.f68 K_impl_isRising t=K_impl_isRising.F t:=by kernel_rfl
theorem e_impl_RuleFault (t:TupI (K_impl_RuleFault.ins.map PS.sh)):runF X_impl_RuleFault Tryd.f50 K_impl_RuleFault t=K_impl_RuleFault.F t:=by kernel_rfl
theorem e_spec_l1In (t:TupI (K_spec_l1In.ins.map PS.sh)):runF X_spec_l1In Tryd.f63 K_spec_l1In t=K_spec_l1In.F t:=by kernel_rfl
theorem e_laws_toCoinS (t:TupI (K_laws_toCoinS.ins.map PS.sh)):runF X_laws_toCoinS Tryd.f13 K_laws_toCoinS t=K_laws_toCoinS.F t:=by kernel_rfl
theorem e_laws_szRule (t:TupI (K_laws_szRule.ins.map PS.sh)):runF X_laws_szRule Tryd.f62 K_laws_szRule t=K_laws_szRule.F t:=by kernel_rfl
theorem e_impl_isHeight (t:TupI (K_impl_isHeight.ins.map PS.sh)):runF X_impl_isHeight Tryd.f48 K_impl_isHeight t=K_impl_isHeight.F t:=by kernel_rfl
end DL
end Go.Dx

