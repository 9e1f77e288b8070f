/- The executor finds what each function computes: by computation -/
import Derived.Test.YtchhjadkiimhgaaSca
set_option linter.unusedVariables false
set_option linter.unusedSimpArgs false
set_option maxRecDepth 100000
set_option maxHeartbeats 0
namespace Go.Dx
open Go.Proofs
namespace CL

theorem e_spec_NewCluster (t:TupI (K_spec_NewCluster.ins.map PS.sh)):runF X_spec_NewCluster Try.f7 K_spec_NewCluster t=K_spec_NewCluster.F t:=by kernel_rfl
theorem e_impl_Cluster_isVoted (t:TupI (K_impl_Cluster_isVoted.ins.map PS.sh)):runF X_impl_Cluster_isVoted Try.f60 K_impl_Cluster_isVoted t=K_impl_Cluster_isVoted.F t:=by kernel_rfl
theorem e_spec_l10Bent (t:TupI (K_spec_l10Bent.ins.map PS.sh)):runF X_spec_l10Bent Try.f14 K_spec_l10Bent t=K_spec_l10Bent.F t:=by kernel_rfl
theorem e_spec_l4Among (t:TupI (K_spec_l4Among.ins.map PS.sh)):runF X_spec_l4Among Try.f52 K_spec_l4Among t=K_spec_l4Among.F t:=by kernel_rfl
theorem e_impl_VoteFault (t:TupI (K_impl_VoteFault.ins.map PS.sh)):runF X_impl_VoteFault Try.f58 K_impl_VoteFault t=K_impl_VoteFault.F t:=by kernel_rfl
theorem e_impl_QuorumFault (t:TupI (K_impl_QuorumFault.ins.map PS.sh)):runF X_impl_QuorumFault Try.f18 K_impl_QuorumFault t=K_impl_QuorumFault.F t:=by kernel_rfl
theorem e_spec_l12Good (t:TupI (K_spec_l12Good.ins.map PS.sh)):runF X_spec_l12Good Try.f30 K_spec_l12Good t=K_spec_l12Good.F t:=by kernel_rfl
theorem e_impl_NewCluster_c1 (t:TupI (K_impl_NewCluster_c1.ins.map PS.sh)):runF X_impl_NewCluster_c1 Try.f24 K_impl_NewCluster_c1 t=K_impl_NewCluster_c1.F t:=by kernel_rfl
theorem e_impl_findNode_c1 (t:TupI (K_impl_findNode_c1.ins.map PS.sh)):runF X_impl_findNode_c1 Try.f94 K_impl_findNode_c1 t=K_impl_findNode_c1.F t:=by kernel_rfl
theorem e_impl_related (t:TupI (K_impl_related.ins.map PS.sh)):runF X_impl_related Try.f38 K_impl_related t=K_impl_related.F t:=by kernel_rfl
theorem e_impl_areKeys_c1 (t:TupI (K_impl_areKeys_c1.ins.map PS.sh)):runF X_impl_areKeys_c1 Try.f66 K_impl_areKeys_c1 t=K_impl_areKeys_c1.F t:=by kernel_rfl
theorem e_impl_Cluster_votersFault_c1 (t:TupI (K_impl_Cluster_votersFault_c1.ins.map PS.sh)):runF X_impl_Cluster_votersFault_c1 Try.f56 K_impl_Cluster_votersFault_c1 t=K_impl_Cluster_votersFault_c1.F t:=by kernel_rfl
theorem e_impl_areKeys (t:TupI (K_impl_areKeys.ins.map PS.sh)):runF X_impl_areKeys Try.f43 K_impl_areKeys t=K_impl_areKeys.F t:=by kernel_rfl
theorem e_impl_Voter_chosen_c1 (t:TupI (K_impl_Voter_chosen_c1.ins.map PS.sh)):runF X_impl_Voter_chosen_c1 Try.f97 K_impl_Voter_chosen_c1 t=K_impl_Voter_chosen_c1.F t:=by kernel_rfl
theorem e_slices_Contains_Limpl_Choice_impl_Choice (t:TupI (K_slices_Contains_Limpl_Choice_impl_Choice.ins.map PS.sh)):runF X_slices_Contains_Limpl_Choice_impl_Choice Try.f64 K_slices_Contains_Limpl_Choice_impl_Choice t=K_slices_Contains_Limpl_Choice_impl_Choice.F t:=by kernel_rfl
end CL
end Go.Dx

