/- The executor finds what each function computes: by computation -/
import Derived.Test.YtoopijohnkgagaaDoorSca
set_option linter.unusedVariables false
set_option linter.unusedSimpArgs false
set_option maxRecDepth 100000
set_option maxHeartbeats 0
namespace Go.Dx
open Go.Proofs
namespace DL

theorem e_spec_l1Next (t:TupI (K_spec_l1Next.ins.map PS.sh)):runF X_spec_l1Next Tryd.f57 K_spec_l1Next t=K_spec_l1Next.F t:=by kernel_rfl
theorem e_spec_l4Put (t:TupI (K_spec_l4Put.ins.map PS.sh)):runF X_spec_l4Put Tryd.f90 K_spec_l4Put t=K_spec_l4Put.F t:=by kernel_rfl
theorem e_slices_IndexFunc_Lstring_string (t:TupI (K_slices_IndexFunc_Lstring_string.ins.map PS.sh)):runF X_slices_IndexFunc_Lstring_string Tryd.f60 K_slices_IndexFunc_Lstring_string t=K_slices_IndexFunc_Lstring_string.F t:=by kernel_rfl
theorem e_impl_wordsOf (t:TupI (K_impl_wordsOf.ins.map PS.sh)):runF X_impl_wordsOf Tryd.f20 K_impl_wordsOf t=K_impl_wordsOf.F t:=by kernel_rfl
theorem e_impl_WordsOf (t:TupI (K_impl_WordsOf.ins.map PS.sh)):runF X_impl_WordsOf Tryd.f7 K_impl_WordsOf t=K_impl_WordsOf.F t:=by kernel_rfl
theorem e_spec_l4DrawOuts (t:TupI (K_spec_l4DrawOuts.ins.map PS.sh)):runF X_spec_l4DrawOuts Tryd.f75 K_spec_l4DrawOuts t=K_spec_l4DrawOuts.F t:=by kernel_rfl
theorem e_spec_l1Chance (t:TupI (K_spec_l1Chance.ins.map PS.sh)):runF X_spec_l1Chance Tryd.f59 K_spec_l1Chance t=K_spec_l1Chance.F t:=by kernel_rfl
theorem e_slices_ContainsFunc_Lint64_int64 (t:TupI (K_slices_ContainsFunc_Lint64_int64.ins.map PS.sh)):runF X_slices_ContainsFunc_Lint64_int64 Tryd.f82 K_slices_ContainsFunc_Lint64_int64 t=K_slices_ContainsFunc_Lint64_int64.F t:=by kernel_rfl
end DL
end Go.Dx

