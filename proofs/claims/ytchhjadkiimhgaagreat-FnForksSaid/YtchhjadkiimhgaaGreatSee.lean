/- The executor finds what each function computes: by computation -/
import Derived.Test.YtchhjadkiimhgaaGreatSca
set_option linter.unusedVariables false
set_option linter.unusedSimpArgs false
set_option maxRecDepth 100000
set_option maxHeartbeats 0
namespace Go.Dx
open Go.Proofs
namespace CL

theorem e_spec_l12Stands (t:TupI (K_spec_l12Stands.ins.map PS.sh)):runF X_spec_l12Stands Tryz.f165 K_spec_l12Stands t=K_spec_l12Stands.F t:=by kernel_rfl
theorem e_impl_ownCluster (t:TupI (K_impl_ownCluster.ins.map PS.sh)):runF X_impl_ownCluster Tryz.f50 K_impl_ownCluster t=K_impl_ownCluster.F t:=by kernel_rfl
theorem e_impl_Cluster_votesFault (t:TupI (K_impl_Cluster_votesFault.ins.map PS.sh)):runF X_impl_Cluster_votesFault Tryz.f63 K_impl_Cluster_votesFault t=K_impl_Cluster_votesFault.F t:=by kernel_rfl
theorem e_impl_Cluster_isVoted (t:TupI (K_impl_Cluster_isVoted.ins.map PS.sh)):runF X_impl_Cluster_isVoted Tryz.f131 K_impl_Cluster_isVoted t=K_impl_Cluster_isVoted.F t:=by kernel_rfl
theorem e_impl_IsSafe (t:TupI (K_impl_IsSafe.ins.map PS.sh)):runF X_impl_IsSafe Tryz.f80 K_impl_IsSafe t=K_impl_IsSafe.F t:=by kernel_rfl
theorem e_impl_Cluster_put (t:TupI (K_impl_Cluster_put.ins.map PS.sh)):runF X_impl_Cluster_put Tryz.f51 K_impl_Cluster_put t=K_impl_Cluster_put.F t:=by kernel_rfl
theorem e_spec_l11Fault (t:TupI (K_spec_l11Fault.ins.map PS.sh)):runF X_spec_l11Fault Tryz.f164 K_spec_l11Fault t=K_spec_l11Fault.F t:=by kernel_rfl
theorem e_spec_l11At (t:TupI (K_spec_l11At.ins.map PS.sh)):runF X_spec_l11At Tryz.f186 K_spec_l11At t=K_spec_l11At.F t:=by kernel_rfl
theorem e_impl_addNode (t:TupI (K_impl_addNode.ins.map PS.sh)):runF X_impl_addNode Tryz.f79 K_impl_addNode t=K_impl_addNode.F t:=by kernel_rfl
theorem e_slices_Index_Limpl_Choice_impl_Choice (t:TupI (K_slices_Index_Limpl_Choice_impl_Choice.ins.map PS.sh)):runF X_slices_Index_Limpl_Choice_impl_Choice Tryz.f150 K_slices_Index_Limpl_Choice_impl_Choice t=K_slices_Index_Limpl_Choice_impl_Choice.F t:=by kernel_rfl
theorem e_spec_l9Fault (t:TupI (K_spec_l9Fault.ins.map PS.sh)):runF X_spec_l9Fault Tryz.f114 K_spec_l9Fault t=K_spec_l9Fault.F t:=by kernel_rfl
theorem e_impl_ClusterFault (t:TupI (K_impl_ClusterFault.ins.map PS.sh)):runF X_impl_ClusterFault Tryz.f15 K_impl_ClusterFault t=K_impl_ClusterFault.F t:=by kernel_rfl
theorem e_impl_isRising (t:TupI (K_impl_isRising.ins.map PS.sh)):runF X_impl_isRising Tryz.f125 K_impl_isRising t=K_impl_isRising.F t:=by kernel_rfl
theorem e_impl_PremiseOf (t:TupI (K_impl_PremiseOf.ins.map PS.sh)):runF X_impl_PremiseOf Tryz.f28 K_impl_PremiseOf t=K_impl_PremiseOf.F t:=by kernel_rfl
theorem e_impl_NoDouble_c1 (t:TupI (K_impl_NoDouble_c1.ins.map PS.sh)):runF X_impl_NoDouble_c1 Tryz.f84 K_impl_NoDouble_c1 t=K_impl_NoDouble_c1.F t:=by kernel_rfl
theorem e_impl_Quorum_badIn (t:TupI (K_impl_Quorum_badIn.ins.map PS.sh)):runF X_impl_Quorum_badIn Tryz.f141 K_impl_Quorum_badIn t=K_impl_Quorum_badIn.F t:=by kernel_rfl
theorem e_impl_LockedBlocks (t:TupI (K_impl_LockedBlocks.ins.map PS.sh)):runF X_impl_LockedBlocks Tryz.f36 K_impl_LockedBlocks t=K_impl_LockedBlocks.F t:=by kernel_rfl
theorem e_impl_meetOf (t:TupI (K_impl_meetOf.ins.map PS.sh)):runF X_impl_meetOf Tryz.f175 K_impl_meetOf t=K_impl_meetOf.F t:=by kernel_rfl
theorem e_cmp_Compare_int64 (t:TupI (K_cmp_Compare_int64.ins.map PS.sh)):runF X_cmp_Compare_int64 Tryz.f149 K_cmp_Compare_int64 t=K_cmp_Compare_int64.F t:=by kernel_rfl
theorem e_spec_l12Good (t:TupI (K_spec_l12Good.ins.map PS.sh)):runF X_spec_l12Good Tryz.f163 K_spec_l12Good t=K_spec_l12Good.F t:=by kernel_rfl
theorem e_impl_QuorumFault (t:TupI (K_impl_QuorumFault.ins.map PS.sh)):runF X_impl_QuorumFault Tryz.f58 K_impl_QuorumFault t=K_impl_QuorumFault.F t:=by kernel_rfl
theorem e_slices_EqualFunc_Limpl_Voter_Lint64_impl_Voter_int64 (t:TupI (K_slices_EqualFunc_Limpl_Voter_Lint64_impl_Voter_int64.ins.map PS.sh)):runF X_slices_EqualFunc_Limpl_Voter_Lint64_impl_Voter_int64 Tryz.f128 K_slices_EqualFunc_Limpl_Voter_Lint64_impl_Voter_int64 t=K_slices_EqualFunc_Limpl_Voter_Lint64_impl_Voter_int64.F t:=by kernel_rfl
theorem e_impl_isIn (t:TupI (K_impl_isIn.ins.map PS.sh)):runF X_impl_isIn Tryz.f137 K_impl_isIn t=K_impl_isIn.F t:=by kernel_rfl
theorem e_impl_CastAt (t:TupI (K_impl_CastAt.ins.map PS.sh)):runF X_impl_CastAt Tryz.f21 K_impl_CastAt t=K_impl_CastAt.F t:=by kernel_rfl
theorem e_impl_badFault (t:TupI (K_impl_badFault.ins.map PS.sh)):runF X_impl_badFault Tryz.f60 K_impl_badFault t=K_impl_badFault.F t:=by kernel_rfl
theorem e_slices_IndexFunc_Limpl_Node_impl_Node (t:TupI (K_slices_IndexFunc_Limpl_Node_impl_Node.ins.map PS.sh)):runF X_slices_IndexFunc_Limpl_Node_impl_Node Tryz.f187 K_slices_IndexFunc_Limpl_Node_impl_Node t=K_slices_IndexFunc_Limpl_Node_impl_Node.F t:=by kernel_rfl
theorem e_spec_l11Tx (t:TupI (K_spec_l11Tx.ins.map PS.sh)):runF X_spec_l11Tx Tryz.f120 K_spec_l11Tx t=K_spec_l11Tx.F t:=by kernel_rfl
theorem e_slices_Index_Lint64_int64 (t:TupI (K_slices_Index_Lint64_int64.ins.map PS.sh)):runF X_slices_Index_Lint64_int64 Tryz.f106 K_slices_Index_Lint64_int64 t=K_slices_Index_Lint64_int64.F t:=by kernel_rfl
theorem e_impl_Cluster_heardFault_c1 (t:TupI (K_impl_Cluster_heardFault_c1.ins.map PS.sh)):runF X_impl_Cluster_heardFault_c1 Tryz.f132 K_impl_Cluster_heardFault_c1 t=K_impl_Cluster_heardFault_c1.F t:=by kernel_rfl
theorem e_impl_goodKeys (t:TupI (K_impl_goodKeys.ins.map PS.sh)):runF X_impl_goodKeys Tryz.f127 K_impl_goodKeys t=K_impl_goodKeys.F t:=by kernel_rfl
theorem e_slices_Contains_Limpl_Vote_impl_Vote (t:TupI (K_slices_Contains_Limpl_Vote_impl_Vote.ins.map PS.sh)):runF X_slices_Contains_Limpl_Vote_impl_Vote Tryz.f111 K_slices_Contains_Limpl_Vote_impl_Vote t=K_slices_Contains_Limpl_Vote_impl_Vote.F t:=by kernel_rfl
theorem e_slices_IndexFunc_Limpl_Voter_impl_Voter (t:TupI (K_slices_IndexFunc_Limpl_Voter_impl_Voter.ins.map PS.sh)):runF X_slices_IndexFunc_Limpl_Voter_impl_Voter Tryz.f172 K_slices_IndexFunc_Limpl_Voter_impl_Voter t=K_slices_IndexFunc_Limpl_Voter_impl_Voter.F t:=by kernel_rfl
theorem e_impl_goodKeys_c1 (t:TupI (K_impl_goodKeys_c1.ins.map PS.sh)):runF X_impl_goodKeys_c1 Tryz.f169 K_impl_goodKeys_c1 t=K_impl_goodKeys_c1.F t:=by kernel_rfl
theorem e_impl_VoterFault_c1 (t:TupI (K_impl_VoterFault_c1.ins.map PS.sh)):runF X_impl_VoterFault_c1 Tryz.f170 K_impl_VoterFault_c1 t=K_impl_VoterFault_c1.F t:=by kernel_rfl
theorem e_impl_isId (t:TupI (K_impl_isId.ins.map PS.sh)):runF X_impl_isId Tryz.f103 K_impl_isId t=K_impl_isId.F t:=by kernel_rfl
theorem e_impl_areKeys (t:TupI (K_impl_areKeys.ins.map PS.sh)):runF X_impl_areKeys Tryz.f124 K_impl_areKeys t=K_impl_areKeys.F t:=by kernel_rfl
theorem e_slices_Contains_Lint64_int64 (t:TupI (K_slices_Contains_Lint64_int64.ins.map PS.sh)):runF X_slices_Contains_Lint64_int64 Tryz.f49 K_slices_Contains_Lint64_int64 t=K_slices_Contains_Lint64_int64.F t:=by kernel_rfl
theorem e_slices_ContainsFunc_Limpl_Choice_impl_Choice (t:TupI (K_slices_ContainsFunc_Limpl_Choice_impl_Choice.ins.map PS.sh)):runF X_slices_ContainsFunc_Limpl_Choice_impl_Choice Tryz.f83 K_slices_ContainsFunc_Limpl_Choice_impl_Choice t=K_slices_ContainsFunc_Limpl_Choice_impl_Choice.F t:=by kernel_rfl
end CL
end Go.Dx

