/- The executor finds what each function computes: by computation -/
import Derived.Test.YtoopijohnkgagaaDoorSca
set_option linter.unusedVariables false
set_option linter.unusedSimpArgs false
set_option maxRecDepth 100000
set_option maxHeartbeats 0
namespace Go.Dx
open Go.Proofs
namespace DL

theorem e_slices_DeleteFunc_Lstring_string (t:TupI (K_slices_DeleteFunc_Lstring_string.ins.map PS.sh)):runF X_slices_DeleteFunc_Lstring_string Tryd.f34 K_slices_DeleteFunc_Lstring_string t=K_slices_DeleteFunc_Lstring_string.F t:=by kernel_rfl
theorem e_impl_wordsOf (t:TupI (K_impl_wordsOf.ins.map PS.sh)):runF X_impl_wordsOf Tryd.f20 K_impl_wordsOf t=K_impl_wordsOf.F t:=by kernel_rfl
theorem e_laws_heldWordsResult (t:TupI (K_laws_heldWordsResult.ins.map PS.sh)):runF X_laws_heldWordsResult Tryd.f10 K_laws_heldWordsResult t=K_laws_heldWordsResult.F t:=by kernel_rfl
end DL
end Go.Dx

