/- The executor finds what each function computes: by computation -/
import Derived.Test.YtoopijohnkgagaaDoorSca
set_option linter.unusedVariables false
set_option linter.unusedSimpArgs false
set_option maxRecDepth 100000
set_option maxHeartbeats 0
namespace Go.Dx
open Go.Proofs
namespace DL

theorem e_spec_l4Fault (t:TupI (K_spec_l4Fault.ins.map PS.sh)):runF X_spec_l4Fault Tryd.f25 K_spec_l4Fault t=K_spec_l4Fault.F t:=by kernel_rfl
theorem e_laws_szInt64S (t:TupI (K_laws_szInt64S.ins.map PS.sh)):runF X_laws_szInt64S Tryd.f79 K_laws_szInt64S t=K_laws_szInt64S.F t:=by kernel_rfl
theorem e_slices_IndexFunc_Lint64_int64 (t:TupI (K_slices_IndexFunc_Lint64_int64.ins.map PS.sh)):runF X_slices_IndexFunc_Lint64_int64 Tryd.f96 K_slices_IndexFunc_Lint64_int64 t=K_slices_IndexFunc_Lint64_int64.F t:=by kernel_rfl
theorem e_cmp_Compare_int64 (t:TupI (K_cmp_Compare_int64.ins.map PS.sh)):runF X_cmp_Compare_int64 Tryd.f70 K_cmp_Compare_int64 t=K_cmp_Compare_int64.F t:=by kernel_rfl
theorem e_laws_szCoin (t:TupI (K_laws_szCoin.ins.map PS.sh)):runF X_laws_szCoin Tryd.f24 K_laws_szCoin t=K_laws_szCoin.F t:=by kernel_rfl
theorem e_impl_isId (t:TupI (K_impl_isId.ins.map PS.sh)):runF X_impl_isId Tryd.f66 K_impl_isId t=K_impl_isId.F t:=by kernel_rfl
end DL
end Go.Dx

