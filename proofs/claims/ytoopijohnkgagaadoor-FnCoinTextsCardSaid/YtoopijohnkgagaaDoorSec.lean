/- The executor finds what each function computes: by computation -/
import Derived.Test.YtoopijohnkgagaaDoorSca
set_option linter.unusedVariables false
set_option linter.unusedSimpArgs false
set_option maxRecDepth 100000
set_option maxHeartbeats 0
namespace Go.Dx
open Go.Proofs
namespace DL

theorem e_spec_l4Fault (t:TupI (K_spec_l4Fault.ins.map PS.sh)):runF X_spec_l4Fault Tryd.f25 K_spec_l4Fault t=K_spec_l4Fault.F t:=by kernel_rfl
theorem e_spec_l2Draw (t:TupI (K_spec_l2Draw.ins.map PS.sh)):runF X_spec_l2Draw Tryd.f91 K_spec_l2Draw t=K_spec_l2Draw.F t:=by kernel_rfl
theorem e_slices_DeleteFunc_Lstring_string (t:TupI (K_slices_DeleteFunc_Lstring_string.ins.map PS.sh)):runF X_slices_DeleteFunc_Lstring_string Tryd.f34 K_slices_DeleteFunc_Lstring_string t=K_slices_DeleteFunc_Lstring_string.F t:=by kernel_rfl
theorem e_impl_joined (t:TupI (K_impl_joined.ins.map PS.sh)):runF X_impl_joined Tryd.f72 K_impl_joined t=K_impl_joined.F t:=by kernel_rfl
theorem e_spec_l1In (t:TupI (K_spec_l1In.ins.map PS.sh)):runF X_spec_l1In Tryd.f63 K_spec_l1In t=K_spec_l1In.F t:=by kernel_rfl
theorem e_impl_areKeys (t:TupI (K_impl_areKeys.ins.map PS.sh)):runF X_impl_areKeys Tryd.f67 K_impl_areKeys t=K_impl_areKeys.F t:=by kernel_rfl
theorem e_spec_DrawCoinsText (t:TupI (K_spec_DrawCoinsText.ins.map PS.sh)):runF X_spec_DrawCoinsText Tryd.f18 K_spec_DrawCoinsText t=K_spec_DrawCoinsText.F t:=by kernel_rfl
theorem e_impl_isId (t:TupI (K_impl_isId.ins.map PS.sh)):runF X_impl_isId Tryd.f66 K_impl_isId t=K_impl_isId.F t:=by kernel_rfl
theorem e_impl_isHeight (t:TupI (K_impl_isHeight.ins.map PS.sh)):runF X_impl_isHeight Tryd.f48 K_impl_isHeight t=K_impl_isHeight.F t:=by kernel_rfl
theorem e_impl_areKeys_c1 (t:TupI (K_impl_areKeys_c1.ins.map PS.sh)):runF X_impl_areKeys_c1 Tryd.f83 K_impl_areKeys_c1 t=K_impl_areKeys_c1.F t:=by kernel_rfl
end DL
end Go.Dx

