/- The executor finds what each function computes: by computation -/
import Derived.Test.YtchhjadkiimhgaaSca
set_option linter.unusedVariables false
set_option linter.unusedSimpArgs false
set_option maxRecDepth 100000
set_option maxHeartbeats 0
namespace Go.Dx
open Go.Proofs
namespace CL

theorem e_spec_l1Next (t:TupI (K_spec_l1Next.ins.map PS.sh)):runF X_spec_l1Next Try.f16 K_spec_l1Next t=K_spec_l1Next.F t:=by kernel_rfl
theorem e_spec_l10Draw (t:TupI (K_spec_l10Draw.ins.map PS.sh)):runF X_spec_l10Draw Try.f42 K_spec_l10Draw t=K_spec_l10Draw.F t:=by kernel_rfl
theorem e_slices_DeleteFunc_Lint64_int64 (t:TupI (K_slices_DeleteFunc_Lint64_int64.ins.map PS.sh)):runF X_slices_DeleteFunc_Lint64_int64 Try.f45 K_slices_DeleteFunc_Lint64_int64 t=K_slices_DeleteFunc_Lint64_int64.F t:=by kernel_rfl
theorem e_impl_TreeFault (t:TupI (K_impl_TreeFault.ins.map PS.sh)):runF X_impl_TreeFault Try.f32 K_impl_TreeFault t=K_impl_TreeFault.F t:=by kernel_rfl
theorem e_slices_Index_Limpl_Choice_impl_Choice (t:TupI (K_slices_Index_Limpl_Choice_impl_Choice.ins.map PS.sh)):runF X_slices_Index_Limpl_Choice_impl_Choice Try.f87 K_slices_Index_Limpl_Choice_impl_Choice t=K_slices_Index_Limpl_Choice_impl_Choice.F t:=by kernel_rfl
theorem e_impl_goodKeys_c1 (t:TupI (K_impl_goodKeys_c1.ins.map PS.sh)):runF X_impl_goodKeys_c1 Try.f46 K_impl_goodKeys_c1 t=K_impl_goodKeys_c1.F t:=by kernel_rfl
theorem e_slices_Contains_Limpl_Vote_impl_Vote (t:TupI (K_slices_Contains_Limpl_Vote_impl_Vote.ins.map PS.sh)):runF X_slices_Contains_Limpl_Vote_impl_Vote Try.f59 K_slices_Contains_Limpl_Vote_impl_Vote t=K_slices_Contains_Limpl_Vote_impl_Vote.F t:=by kernel_rfl
theorem e_cmp_isNaN_int64 (t:TupI (K_cmp_isNaN_int64.ins.map PS.sh)):runF X_cmp_isNaN_int64 Try.f50 K_cmp_isNaN_int64 t=K_cmp_isNaN_int64.F t:=by kernel_rfl
theorem e_laws_lwBig (t:TupI (K_laws_lwBig.ins.map PS.sh)):runF X_laws_lwBig Try.f4 K_laws_lwBig t=K_laws_lwBig.F t:=by kernel_rfl
theorem e_spec_l1Key (t:TupI (K_spec_l1Key.ins.map PS.sh)):runF X_spec_l1Key Try.f51 K_spec_l1Key t=K_spec_l1Key.F t:=by kernel_rfl
theorem e_impl_isRef (t:TupI (K_impl_isRef.ins.map PS.sh)):runF X_impl_isRef Try.f81 K_impl_isRef t=K_impl_isRef.F t:=by kernel_rfl
theorem e_slices_IndexFunc_Limpl_Voter_impl_Voter (t:TupI (K_slices_IndexFunc_Limpl_Voter_impl_Voter.ins.map PS.sh)):runF X_slices_IndexFunc_Limpl_Voter_impl_Voter Try.f95 K_slices_IndexFunc_Limpl_Voter_impl_Voter t=K_slices_IndexFunc_Limpl_Voter_impl_Voter.F t:=by kernel_rfl
theorem e_impl_Cluster_findVoter (t:TupI (K_impl_Cluster_findVoter.ins.map PS.sh)):runF X_impl_Cluster_findVoter Try.f84 K_impl_Cluster_findVoter t=K_impl_Cluster_findVoter.F t:=by kernel_rfl
theorem e_impl_Cluster_heardFault_c1 (t:TupI (K_impl_Cluster_heardFault_c1.ins.map PS.sh)):runF X_impl_Cluster_heardFault_c1 Try.f61 K_impl_Cluster_heardFault_c1 t=K_impl_Cluster_heardFault_c1.F t:=by kernel_rfl
end CL
end Go.Dx

