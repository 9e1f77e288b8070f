/- The executor finds what each function computes: by computation -/
import Derived.Test.YtoopijohnkgagaaDoorSca
set_option linter.unusedVariables false
set_option linter.unusedSimpArgs false
set_option maxRecDepth 100000
set_option maxHeartbeats 0
namespace Go.Dx
open Go.Proofs
namespace DL

theorem e_laws_FnCoinTexts (t:TupI (K_laws_FnCoinTexts.ins.map PS.sh)):runF X_laws_FnCoinTexts Tryd.f5 K_laws_FnCoinTexts t=K_laws_FnCoinTexts.F t:=by kernel_rfl
theorem e_spec_l4Right (t:TupI (K_spec_l4Right.ins.map PS.sh)):runF X_spec_l4Right Tryd.f56 K_spec_l4Right t=K_spec_l4Right.F t:=by kernel_rfl
theorem e_laws_lwBig (t:TupI (K_laws_lwBig.ins.map PS.sh)):runF X_laws_lwBig Tryd.f17 K_laws_lwBig t=K_laws_lwBig.F t:=by kernel_rfl
theorem e_slices_IndexFunc_Lint64_int64 (t:TupI (K_slices_IndexFunc_Lint64_int64.ins.map PS.sh)):runF X_slices_IndexFunc_Lint64_int64 Tryd.f96 K_slices_IndexFunc_Lint64_int64 t=K_slices_IndexFunc_Lint64_int64.F t:=by kernel_rfl
theorem e_spec_CoinsText (t:TupI (K_spec_CoinsText.ins.map PS.sh)):runF X_spec_CoinsText Tryd.f12 K_spec_CoinsText t=K_spec_CoinsText.F t:=by kernel_rfl
theorem e_spec_l4Out (t:TupI (K_spec_l4Out.ins.map PS.sh)):runF X_spec_l4Out Tryd.f41 K_spec_l4Out t=K_spec_l4Out.F t:=by kernel_rfl
theorem e_impl_CoinsText (t:TupI (K_impl_CoinsText.ins.map PS.sh)):runF X_impl_CoinsText Tryd.f14 K_impl_CoinsText t=K_impl_CoinsText.F t:=by kernel_rfl
end DL
end Go.Dx

