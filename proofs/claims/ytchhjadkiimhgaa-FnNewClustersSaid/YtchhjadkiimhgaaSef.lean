/- The executor finds what each function computes: by computation -/
import Derived.Test.YtchhjadkiimhgaaSca
set_option linter.unusedVariables false
set_option linter.unusedSimpArgs false
set_option maxRecDepth 100000
set_option maxHeartbeats 0
namespace Go.Dx
open Go.Proofs
namespace CL

theorem e_spec_l10Fault (t:TupI (K_spec_l10Fault.ins.map PS.sh)):runF X_spec_l10Fault Try.f26 K_spec_l10Fault t=K_spec_l10Fault.F t:=by kernel_rfl
theorem e_impl_NewCluster (t:TupI (K_impl_NewCluster.ins.map PS.sh)):runF X_impl_NewCluster Try.f6 K_impl_NewCluster t=K_impl_NewCluster.F t:=by kernel_rfl
theorem e_spec_l12Bad (t:TupI (K_spec_l12Bad.ins.map PS.sh)):runF X_spec_l12Bad Try.f29 K_spec_l12Bad t=K_spec_l12Bad.F t:=by kernel_rfl
theorem e_impl_Cluster_votersFault (t:TupI (K_impl_Cluster_votersFault.ins.map PS.sh)):runF X_impl_Cluster_votersFault Try.f33 K_impl_Cluster_votersFault t=K_impl_Cluster_votersFault.F t:=by kernel_rfl
theorem e_impl_VoterFault (t:TupI (K_impl_VoterFault.ins.map PS.sh)):runF X_impl_VoterFault Try.f57 K_impl_VoterFault t=K_impl_VoterFault.F t:=by kernel_rfl
theorem e_impl_ClusterFault (t:TupI (K_impl_ClusterFault.ins.map PS.sh)):runF X_impl_ClusterFault Try.f10 K_impl_ClusterFault t=K_impl_ClusterFault.F t:=by kernel_rfl
theorem e_impl_within (t:TupI (K_impl_within.ins.map PS.sh)):runF X_impl_within Try.f19 K_impl_within t=K_impl_within.F t:=by kernel_rfl
theorem e_slices_IndexFunc_Lint64_int64 (t:TupI (K_slices_IndexFunc_Lint64_int64.ins.map PS.sh)):runF X_slices_IndexFunc_Lint64_int64 Try.f62 K_slices_IndexFunc_Lint64_int64 t=K_slices_IndexFunc_Lint64_int64.F t:=by kernel_rfl
theorem e_cmp_Compare_int64 (t:TupI (K_cmp_Compare_int64.ins.map PS.sh)):runF X_cmp_Compare_int64 Try.f25 K_cmp_Compare_int64 t=K_cmp_Compare_int64.F t:=by kernel_rfl
theorem e_impl_pathTo (t:TupI (K_impl_pathTo.ins.map PS.sh)):runF X_impl_pathTo Try.f86 K_impl_pathTo t=K_impl_pathTo.F t:=by kernel_rfl
theorem e_slices_EqualFunc_Limpl_Voter_Lint64_impl_Voter_int64 (t:TupI (K_slices_EqualFunc_Limpl_Voter_Lint64_impl_Voter_int64.ins.map PS.sh)):runF X_slices_EqualFunc_Limpl_Voter_Lint64_impl_Voter_int64 Try.f55 K_slices_EqualFunc_Limpl_Voter_Lint64_impl_Voter_int64 t=K_slices_EqualFunc_Limpl_Voter_Lint64_impl_Voter_int64.F t:=by kernel_rfl
theorem e_impl_NoDouble (t:TupI (K_impl_NoDouble.ins.map PS.sh)):runF X_impl_NoDouble Try.f12 K_impl_NoDouble t=K_impl_NoDouble.F t:=by kernel_rfl
theorem e_spec_l1In (t:TupI (K_spec_l1In.ins.map PS.sh)):runF X_spec_l1In Try.f28 K_spec_l1In t=K_spec_l1In.F t:=by kernel_rfl
theorem e_impl_VoterFault_c1 (t:TupI (K_impl_VoterFault_c1.ins.map PS.sh)):runF X_impl_VoterFault_c1 Try.f82 K_impl_VoterFault_c1 t=K_impl_VoterFault_c1.F t:=by kernel_rfl
theorem e_impl_isId (t:TupI (K_impl_isId.ins.map PS.sh)):runF X_impl_isId Try.f80 K_impl_isId t=K_impl_isId.F t:=by kernel_rfl
theorem e_impl_Voter_chosen (t:TupI (K_impl_Voter_chosen.ins.map PS.sh)):runF X_impl_Voter_chosen Try.f85 K_impl_Voter_chosen t=K_impl_Voter_chosen.F t:=by kernel_rfl
theorem e_slices_ContainsFunc_Limpl_Choice_impl_Choice (t:TupI (K_slices_ContainsFunc_Limpl_Choice_impl_Choice.ins.map PS.sh)):runF X_slices_ContainsFunc_Limpl_Choice_impl_Choice Try.f40 K_slices_ContainsFunc_Limpl_Choice_impl_Choice t=K_slices_ContainsFunc_Limpl_Choice_impl_Choice.F t:=by kernel_rfl
end CL
end Go.Dx

