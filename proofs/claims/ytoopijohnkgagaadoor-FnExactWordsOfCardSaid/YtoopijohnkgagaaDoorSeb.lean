/- The executor finds what each function computes: by computation -/
import Derived.Test.YtoopijohnkgagaaDoorSca
set_option linter.unusedVariables false
set_option linter.unusedSimpArgs false
set_option maxRecDepth 100000
set_option maxHeartbeats 0
namespace Go.Dx
open Go.Proofs
namespace DL

theorem e_laws_heldStringS (t:TupI (K_laws_heldStringS.ins.map PS.sh)):runF X_laws_heldStringS Tryd.f23 K_laws_heldStringS t=K_laws_heldStringS.F t:=by kernel_rfl
theorem e_slices_IndexFunc_Lstring_string (t:TupI (K_slices_IndexFunc_Lstring_string.ins.map PS.sh)):runF X_slices_IndexFunc_Lstring_string Tryd.f60 K_slices_IndexFunc_Lstring_string t=K_slices_IndexFunc_Lstring_string.F t:=by kernel_rfl
end DL
end Go.Dx

