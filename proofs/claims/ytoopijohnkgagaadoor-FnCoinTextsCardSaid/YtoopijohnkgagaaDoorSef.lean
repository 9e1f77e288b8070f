/- The executor finds what each function computes: by computation -/
import Derived.Test.YtoopijohnkgagaaDoorSca
set_option linter.unusedVariables false
set_option linter.unusedSimpArgs false
set_option maxRecDepth 100000
set_option maxHeartbeats 0
namespace Go.Dx
open Go.Proofs
namespace DL

theorem e_spec_l2Fault (t:TupI (K_spec_l2Fault.ins.map PS.sh)):runF X_spec_l2Fault Tryd.f64 K_spec_l2Fault t=K_spec_l2Fault.F t:=by kernel_rfl
theorem e_spec_l4Add (t:TupI (K_spec_l4Add.ins.map PS.sh)):runF X_spec_l4Add Tryd.f106 K_spec_l4Add t=K_spec_l4Add.F t:=by kernel_rfl
theorem e_spec_PutCoins (t:TupI (K_spec_PutCoins.ins.map PS.sh)):runF X_spec_PutCoins Tryd.f74 K_spec_PutCoins t=K_spec_PutCoins.F t:=by kernel_rfl
theorem e_impl_isRising (t:TupI (K_impl_isRising.ins.map PS.sh)):runF X_impl_isRising Tryd.f68 K_impl_isRising t=K_impl_isRising.F t:=by kernel_rfl
theorem e_spec_l4Copy (t:TupI (K_spec_l4Copy.ins.map PS.sh)):runF X_spec_l4Copy Tryd.f104 K_spec_l4Copy t=K_spec_l4Copy.F t:=by kernel_rfl
theorem e_impl_isKey (t:TupI (K_impl_isKey.ins.map PS.sh)):runF X_impl_isKey Tryd.f84 K_impl_isKey t=K_impl_isKey.F t:=by kernel_rfl
theorem e_impl_within (t:TupI (K_impl_within.ins.map PS.sh)):runF X_impl_within Tryd.f49 K_impl_within t=K_impl_within.F t:=by kernel_rfl
theorem e_spec_l4Ahead (t:TupI (K_spec_l4Ahead.ins.map PS.sh)):runF X_spec_l4Ahead Tryd.f42 K_spec_l4Ahead t=K_spec_l4Ahead.F t:=by kernel_rfl
theorem e_spec_l2Copy (t:TupI (K_spec_l2Copy.ins.map PS.sh)):runF X_spec_l2Copy Tryd.f105 K_spec_l2Copy t=K_spec_l2Copy.F t:=by kernel_rfl
end DL
end Go.Dx

