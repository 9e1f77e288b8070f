/- The executor finds what each function computes: by computation -/
import Derived.Test.YtchhjadkiimhgaaGreatSca
set_option linter.unusedVariables false
set_option linter.unusedSimpArgs false
set_option maxRecDepth 100000
set_option maxHeartbeats 0
namespace Go.Dx
open Go.Proofs
namespace CL

theorem e_spec_l12Heard (t:TupI (K_spec_l12Heard.ins.map PS.sh)):runF X_spec_l12Heard Tryz.f117 K_spec_l12Heard t=K_spec_l12Heard.F t:=by kernel_rfl
theorem e_spec_l12Votes (t:TupI (K_spec_l12Votes.ins.map PS.sh)):runF X_spec_l12Votes Tryz.f116 K_spec_l12Votes t=K_spec_l12Votes.F t:=by kernel_rfl
theorem e_spec_l12Voters (t:TupI (K_spec_l12Voters.ins.map PS.sh)):runF X_spec_l12Voters Tryz.f115 K_spec_l12Voters t=K_spec_l12Voters.F t:=by kernel_rfl
theorem e_impl_NewCluster (t:TupI (K_impl_NewCluster.ins.map PS.sh)):runF X_impl_NewCluster Tryz.f89 K_impl_NewCluster t=K_impl_NewCluster.F t:=by kernel_rfl
theorem e_laws_lwAt (t:TupI (K_laws_lwAt.ins.map PS.sh)):runF X_laws_lwAt Tryz.f24 K_laws_lwAt t=K_laws_lwAt.F t:=by kernel_rfl
theorem e_impl_IsSafe (t:TupI (K_impl_IsSafe.ins.map PS.sh)):runF X_impl_IsSafe Tryz.f80 K_impl_IsSafe t=K_impl_IsSafe.F t:=by kernel_rfl
theorem e_spec_l12Fault (t:TupI (K_spec_l12Fault.ins.map PS.sh)):runF X_spec_l12Fault Tryz.f52 K_spec_l12Fault t=K_spec_l12Fault.F t:=by kernel_rfl
theorem e_impl_Cluster_votersFault (t:TupI (K_impl_Cluster_votersFault.ins.map PS.sh)):runF X_impl_Cluster_votersFault Tryz.f62 K_impl_Cluster_votersFault t=K_impl_Cluster_votersFault.F t:=by kernel_rfl
theorem e_spec_l11At (t:TupI (K_spec_l11At.ins.map PS.sh)):runF X_spec_l11At Tryz.f186 K_spec_l11At t=K_spec_l11At.F t:=by kernel_rfl
theorem e_spec_LocksAt (t:TupI (K_spec_LocksAt.ins.map PS.sh)):runF X_spec_LocksAt Tryz.f95 K_spec_LocksAt t=K_spec_LocksAt.F t:=by kernel_rfl
theorem e_impl_voted (t:TupI (K_impl_voted.ins.map PS.sh)):runF X_impl_voted Tryz.f70 K_impl_voted t=K_impl_voted.F t:=by kernel_rfl
theorem e_impl_ClusterFault (t:TupI (K_impl_ClusterFault.ins.map PS.sh)):runF X_impl_ClusterFault Tryz.f15 K_impl_ClusterFault t=K_impl_ClusterFault.F t:=by kernel_rfl
theorem e_slices_ContainsFunc_Lint64_int64 (t:TupI (K_slices_ContainsFunc_Lint64_int64.ins.map PS.sh)):runF X_slices_ContainsFunc_Lint64_int64 Tryz.f81 K_slices_ContainsFunc_Lint64_int64 t=K_slices_ContainsFunc_Lint64_int64.F t:=by kernel_rfl
theorem e_impl_PremiseOf (t:TupI (K_impl_PremiseOf.ins.map PS.sh)):runF X_impl_PremiseOf Tryz.f28 K_impl_PremiseOf t=K_impl_PremiseOf.F t:=by kernel_rfl
theorem e_impl_CastAt_c1 (t:TupI (K_impl_CastAt_c1.ins.map PS.sh)):runF X_impl_CastAt_c1 Tryz.f71 K_impl_CastAt_c1 t=K_impl_CastAt_c1.F t:=by kernel_rfl
theorem e_impl_Quorum_badIn (t:TupI (K_impl_Quorum_badIn.ins.map PS.sh)):runF X_impl_Quorum_badIn Tryz.f141 K_impl_Quorum_badIn t=K_impl_Quorum_badIn.F t:=by kernel_rfl
theorem e_impl_VoteFault (t:TupI (K_impl_VoteFault.ins.map PS.sh)):runF X_impl_VoteFault Tryz.f48 K_impl_VoteFault t=K_impl_VoteFault.F t:=by kernel_rfl
theorem e_impl_meetOf (t:TupI (K_impl_meetOf.ins.map PS.sh)):runF X_impl_meetOf Tryz.f175 K_impl_meetOf t=K_impl_meetOf.F t:=by kernel_rfl
theorem e_impl_LocksAt (t:TupI (K_impl_LocksAt.ins.map PS.sh)):runF X_impl_LocksAt Tryz.f40 K_impl_LocksAt t=K_impl_LocksAt.F t:=by kernel_rfl
theorem e_spec_l1Key (t:TupI (K_spec_l1Key.ins.map PS.sh)):runF X_spec_l1Key Tryz.f119 K_spec_l1Key t=K_spec_l1Key.F t:=by kernel_rfl
theorem e_spec_l12Good (t:TupI (K_spec_l12Good.ins.map PS.sh)):runF X_spec_l12Good Tryz.f163 K_spec_l12Good t=K_spec_l12Good.F t:=by kernel_rfl
theorem e_impl_QuorumFault (t:TupI (K_impl_QuorumFault.ins.map PS.sh)):runF X_impl_QuorumFault Tryz.f58 K_impl_QuorumFault t=K_impl_QuorumFault.F t:=by kernel_rfl
theorem e_impl_bestOf (t:TupI (K_impl_bestOf.ins.map PS.sh)):runF X_impl_bestOf Tryz.f152 K_impl_bestOf t=K_impl_bestOf.F t:=by kernel_rfl
theorem e_laws_lwBig (t:TupI (K_laws_lwBig.ins.map PS.sh)):runF X_laws_lwBig Tryz.f9 K_laws_lwBig t=K_laws_lwBig.F t:=by kernel_rfl
theorem e_spec_l1In (t:TupI (K_spec_l1In.ins.map PS.sh)):runF X_spec_l1In Tryz.f118 K_spec_l1In t=K_spec_l1In.F t:=by kernel_rfl
theorem e_spec_l9Above (t:TupI (K_spec_l9Above.ins.map PS.sh)):runF X_spec_l9Above Tryz.f139 K_spec_l9Above t=K_spec_l9Above.F t:=by kernel_rfl
theorem e_laws_lwHas (t:TupI (K_laws_lwHas.ins.map PS.sh)):runF X_laws_lwHas Tryz.f18 K_laws_lwHas t=K_laws_lwHas.F t:=by kernel_rfl
theorem e_impl_BestOf (t:TupI (K_impl_BestOf.ins.map PS.sh)):runF X_impl_BestOf Tryz.f94 K_impl_BestOf t=K_impl_BestOf.F t:=by kernel_rfl
theorem e_impl_isRef (t:TupI (K_impl_isRef.ins.map PS.sh)):runF X_impl_isRef Tryz.f104 K_impl_isRef t=K_impl_isRef.F t:=by kernel_rfl
theorem e_slices_IndexFunc_Limpl_Choice_impl_Choice (t:TupI (K_slices_IndexFunc_Limpl_Choice_impl_Choice.ins.map PS.sh)):runF X_slices_IndexFunc_Limpl_Choice_impl_Choice Tryz.f143 K_slices_IndexFunc_Limpl_Choice_impl_Choice t=K_slices_IndexFunc_Limpl_Choice_impl_Choice.F t:=by kernel_rfl
theorem e_impl_goodKeys (t:TupI (K_impl_goodKeys.ins.map PS.sh)):runF X_impl_goodKeys Tryz.f127 K_impl_goodKeys t=K_impl_goodKeys.F t:=by kernel_rfl
theorem e_slices_Contains_Limpl_Vote_impl_Vote (t:TupI (K_slices_Contains_Limpl_Vote_impl_Vote.ins.map PS.sh)):runF X_slices_Contains_Limpl_Vote_impl_Vote Tryz.f111 K_slices_Contains_Limpl_Vote_impl_Vote t=K_slices_Contains_Limpl_Vote_impl_Vote.F t:=by kernel_rfl
theorem e_slices_IndexFunc_Limpl_Voter_impl_Voter (t:TupI (K_slices_IndexFunc_Limpl_Voter_impl_Voter.ins.map PS.sh)):runF X_slices_IndexFunc_Limpl_Voter_impl_Voter Tryz.f172 K_slices_IndexFunc_Limpl_Voter_impl_Voter t=K_slices_IndexFunc_Limpl_Voter_impl_Voter.F t:=by kernel_rfl
theorem e_spec_l9Related (t:TupI (K_spec_l9Related.ins.map PS.sh)):runF X_spec_l9Related Tryz.f87 K_spec_l9Related t=K_spec_l9Related.F t:=by kernel_rfl
theorem e_impl_findNode_c1 (t:TupI (K_impl_findNode_c1.ins.map PS.sh)):runF X_impl_findNode_c1 Tryz.f188 K_impl_findNode_c1 t=K_impl_findNode_c1.F t:=by kernel_rfl
theorem e_impl_findNode (t:TupI (K_impl_findNode.ins.map PS.sh)):runF X_impl_findNode Tryz.f167 K_impl_findNode t=K_impl_findNode.F t:=by kernel_rfl
theorem e_impl_areKeys (t:TupI (K_impl_areKeys.ins.map PS.sh)):runF X_impl_areKeys Tryz.f124 K_impl_areKeys t=K_impl_areKeys.F t:=by kernel_rfl
theorem e_slices_Contains_Lint64_int64 (t:TupI (K_slices_Contains_Lint64_int64.ins.map PS.sh)):runF X_slices_Contains_Lint64_int64 Tryz.f49 K_slices_Contains_Lint64_int64 t=K_slices_Contains_Lint64_int64.F t:=by kernel_rfl
theorem e_impl_isAbove (t:TupI (K_impl_isAbove.ins.map PS.sh)):runF X_impl_isAbove Tryz.f97 K_impl_isAbove t=K_impl_isAbove.F t:=by kernel_rfl
end CL
end Go.Dx

