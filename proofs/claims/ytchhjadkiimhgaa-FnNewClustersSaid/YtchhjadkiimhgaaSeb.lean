/- The executor finds what each function computes: by computation -/
import Derived.Test.YtchhjadkiimhgaaSca
set_option linter.unusedVariables false
set_option linter.unusedSimpArgs false
set_option maxRecDepth 100000
set_option maxHeartbeats 0
namespace Go.Dx
open Go.Proofs
namespace CL

theorem e_impl_LockedCoins (t:TupI (K_impl_LockedCoins.ins.map PS.sh)):runF X_impl_LockedCoins Try.f39 K_impl_LockedCoins t=K_impl_LockedCoins.F t:=by kernel_rfl
theorem e_impl_nodeFault (t:TupI (K_impl_nodeFault.ins.map PS.sh)):runF X_impl_nodeFault Try.f54 K_impl_nodeFault t=K_impl_nodeFault.F t:=by kernel_rfl
theorem e_impl_badFault (t:TupI (K_impl_badFault.ins.map PS.sh)):runF X_impl_badFault Try.f20 K_impl_badFault t=K_impl_badFault.F t:=by kernel_rfl
theorem e_slices_ContainsFunc_Lint64_int64 (t:TupI (K_slices_ContainsFunc_Lint64_int64.ins.map PS.sh)):runF X_slices_ContainsFunc_Lint64_int64 Try.f36 K_slices_ContainsFunc_Lint64_int64 t=K_slices_ContainsFunc_Lint64_int64.F t:=by kernel_rfl
theorem e_slices_Contains_Lint64_int64 (t:TupI (K_slices_Contains_Lint64_int64.ins.map PS.sh)):runF X_slices_Contains_Lint64_int64 Try.f47 K_slices_Contains_Lint64_int64 t=K_slices_Contains_Lint64_int64.F t:=by kernel_rfl
theorem e_impl_LockedBlocks (t:TupI (K_impl_LockedBlocks.ins.map PS.sh)):runF X_impl_LockedBlocks Try.f9 K_impl_LockedBlocks t=K_impl_LockedBlocks.F t:=by kernel_rfl
theorem e_impl_goodKeys (t:TupI (K_impl_goodKeys.ins.map PS.sh)):runF X_impl_goodKeys Try.f22 K_impl_goodKeys t=K_impl_goodKeys.F t:=by kernel_rfl
theorem e_spec_l12Err (t:TupI (K_spec_l12Err.ins.map PS.sh)):runF X_spec_l12Err Try.f27 K_spec_l12Err t=K_spec_l12Err.F t:=by kernel_rfl
theorem e_impl_NoFork (t:TupI (K_impl_NoFork.ins.map PS.sh)):runF X_impl_NoFork Try.f11 K_impl_NoFork t=K_impl_NoFork.F t:=by kernel_rfl
theorem e_slices_IndexFunc_Limpl_Choice_impl_Choice (t:TupI (K_slices_IndexFunc_Limpl_Choice_impl_Choice.ins.map PS.sh)):runF X_slices_IndexFunc_Limpl_Choice_impl_Choice Try.f65 K_slices_IndexFunc_Limpl_Choice_impl_Choice t=K_slices_IndexFunc_Limpl_Choice_impl_Choice.F t:=by kernel_rfl
theorem e_slices_Clone_Lint64_int64 (t:TupI (K_slices_Clone_Lint64_int64.ins.map PS.sh)):runF X_slices_Clone_Lint64_int64 Try.f21 K_slices_Clone_Lint64_int64 t=K_slices_Clone_Lint64_int64.F t:=by kernel_rfl
theorem e_impl_NoFork_c1 (t:TupI (K_impl_NoFork_c1.ins.map PS.sh)):runF X_impl_NoFork_c1 Try.f37 K_impl_NoFork_c1 t=K_impl_NoFork_c1.F t:=by kernel_rfl
theorem e_impl_NoDouble_c1 (t:TupI (K_impl_NoDouble_c1.ins.map PS.sh)):runF X_impl_NoDouble_c1 Try.f41 K_impl_NoDouble_c1 t=K_impl_NoDouble_c1.F t:=by kernel_rfl
end CL
end Go.Dx

