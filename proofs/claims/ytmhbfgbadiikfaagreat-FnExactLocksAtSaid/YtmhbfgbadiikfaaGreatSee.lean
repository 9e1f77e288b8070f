/- The executor finds what each function computes: by computation -/
import Derived.Test.YtmhbfgbadiikfaaGreatSca
set_option linter.unusedVariables false
set_option linter.unusedSimpArgs false
set_option maxRecDepth 100000
set_option maxHeartbeats 0
namespace Go.Dx
open Go.Proofs
namespace CL

theorem e_impl_Cluster_votesFault (t : TupI (K_impl_Cluster_votesFault.ins.map PS.sh)) : runF X_impl_Cluster_votesFault Tryz.f143 K_impl_Cluster_votesFault t = K_impl_Cluster_votesFault.F t := by kernel_rfl
theorem e_spec_l12Voters (t : TupI (K_spec_l12Voters.ins.map PS.sh)) : runF X_spec_l12Voters Tryz.f134 K_spec_l12Voters t = K_spec_l12Voters.F t := by kernel_rfl
theorem e_spec_l12Known (t : TupI (K_spec_l12Known.ins.map PS.sh)) : runF X_spec_l12Known Tryz.f108 K_spec_l12Known t = K_spec_l12Known.F t := by kernel_rfl
theorem e_impl_Cluster_votersFault (t : TupI (K_impl_Cluster_votersFault.ins.map PS.sh)) : runF X_impl_Cluster_votersFault Tryz.f142 K_impl_Cluster_votersFault t = K_impl_Cluster_votersFault.F t := by kernel_rfl
theorem e_spec_l12Bad (t : TupI (K_spec_l12Bad.ins.map PS.sh)) : runF X_spec_l12Bad Tryz.f132 K_spec_l12Bad t = K_spec_l12Bad.F t := by kernel_rfl
theorem e_impl_VoterFault (t : TupI (K_impl_VoterFault.ins.map PS.sh)) : runF X_impl_VoterFault Tryz.f185 K_impl_VoterFault t = K_impl_VoterFault.F t := by kernel_rfl
theorem e_laws_eqVoteS (t : TupI (K_laws_eqVoteS.ins.map PS.sh)) : runF X_laws_eqVoteS Tryz.f79 K_laws_eqVoteS t = K_laws_eqVoteS.F t := by kernel_rfl
theorem e_impl_VoteFault (t : TupI (K_impl_VoteFault.ins.map PS.sh)) : runF X_impl_VoteFault Tryz.f119 K_impl_VoteFault t = K_impl_VoteFault.F t := by kernel_rfl
theorem e_impl_ClusterFault (t : TupI (K_impl_ClusterFault.ins.map PS.sh)) : runF X_impl_ClusterFault Tryz.f73 K_impl_ClusterFault t = K_impl_ClusterFault.F t := by kernel_rfl
theorem e_laws_eqInt64S (t : TupI (K_laws_eqInt64S.ins.map PS.sh)) : runF X_laws_eqInt64S Tryz.f76 K_laws_eqInt64S t = K_laws_eqInt64S.F t := by kernel_rfl
theorem e_impl_findNode (t : TupI (K_impl_findNode.ins.map PS.sh)) : runF X_impl_findNode Tryz.f202 K_impl_findNode t = K_impl_findNode.F t := by kernel_rfl
theorem e_slices_IndexFunc_Lint64_int64 (t : TupI (K_slices_IndexFunc_Lint64_int64.ins.map PS.sh)) : runF X_slices_IndexFunc_Lint64_int64 Tryz.f150 K_slices_IndexFunc_Lint64_int64 t = K_slices_IndexFunc_Lint64_int64.F t := by kernel_rfl
theorem e_spec_l12Has (t : TupI (K_spec_l12Has.ins.map PS.sh)) : runF X_spec_l12Has Tryz.f178 K_spec_l12Has t = K_spec_l12Has.F t := by kernel_rfl
theorem e_impl_QuorumFault (t : TupI (K_impl_QuorumFault.ins.map PS.sh)) : runF X_impl_QuorumFault Tryz.f139 K_impl_QuorumFault t = K_impl_QuorumFault.F t := by kernel_rfl
theorem e_laws_markVoterS (t : TupI (K_laws_markVoterS.ins.map PS.sh)) : runF X_laws_markVoterS Tryz.f94 K_laws_markVoterS t = K_laws_markVoterS.F t := by kernel_rfl
theorem e_slices_DeleteFunc_Lint64_int64 (t : TupI (K_slices_DeleteFunc_Lint64_int64.ins.map PS.sh)) : runF X_slices_DeleteFunc_Lint64_int64 Tryz.f213 K_slices_DeleteFunc_Lint64_int64 t = K_slices_DeleteFunc_Lint64_int64.F t := by kernel_rfl
theorem e_slices_Clone_Lint64_int64 (t : TupI (K_slices_Clone_Lint64_int64.ins.map PS.sh)) : runF X_slices_Clone_Lint64_int64 Tryz.f164 K_slices_Clone_Lint64_int64 t = K_slices_Clone_Lint64_int64.F t := by kernel_rfl
theorem e_laws_markCluster (t : TupI (K_laws_markCluster.ins.map PS.sh)) : runF X_laws_markCluster Tryz.f28 K_laws_markCluster t = K_laws_markCluster.F t := by kernel_rfl
theorem e_spec_l12Good (t : TupI (K_spec_l12Good.ins.map PS.sh)) : runF X_spec_l12Good Tryz.f188 K_spec_l12Good t = K_spec_l12Good.F t := by kernel_rfl
theorem e_spec_l9At (t : TupI (K_spec_l9At.ins.map PS.sh)) : runF X_spec_l9At Tryz.f155 K_spec_l9At t = K_spec_l9At.F t := by kernel_rfl
theorem e_impl_areKeys_c1 (t : TupI (K_impl_areKeys_c1.ins.map PS.sh)) : runF X_impl_areKeys_c1 Tryz.f212 K_impl_areKeys_c1 t = K_impl_areKeys_c1.F t := by kernel_rfl
theorem e_impl_badFault (t : TupI (K_impl_badFault.ins.map PS.sh)) : runF X_impl_badFault Tryz.f140 K_impl_badFault t = K_impl_badFault.F t := by kernel_rfl
theorem e_laws_markInt64S (t : TupI (K_laws_markInt64S.ins.map PS.sh)) : runF X_laws_markInt64S Tryz.f92 K_laws_markInt64S t = K_laws_markInt64S.F t := by kernel_rfl
theorem e_laws_eqChoice (t : TupI (K_laws_eqChoice.ins.map PS.sh)) : runF X_laws_eqChoice Tryz.f162 K_laws_eqChoice t = K_laws_eqChoice.F t := by kernel_rfl
theorem e_laws_toRef (t : TupI (K_laws_toRef.ins.map PS.sh)) : runF X_laws_toRef Tryz.f57 K_laws_toRef t = K_laws_toRef.F t := by kernel_rfl
theorem e_slices_IndexFunc_Limpl_Node_impl_Node (t : TupI (K_slices_IndexFunc_Limpl_Node_impl_Node.ins.map PS.sh)) : runF X_slices_IndexFunc_Limpl_Node_impl_Node Tryz.f217 K_slices_IndexFunc_Limpl_Node_impl_Node t = K_slices_IndexFunc_Limpl_Node_impl_Node.F t := by kernel_rfl
theorem e_laws_toQuorum (t : TupI (K_laws_toQuorum.ins.map PS.sh)) : runF X_laws_toQuorum Tryz.f67 K_laws_toQuorum t = K_laws_toQuorum.F t := by kernel_rfl
theorem e_laws_eqQuorum (t : TupI (K_laws_eqQuorum.ins.map PS.sh)) : runF X_laws_eqQuorum Tryz.f75 K_laws_eqQuorum t = K_laws_eqQuorum.F t := by kernel_rfl
theorem e_impl_isId (t : TupI (K_impl_isId.ins.map PS.sh)) : runF X_impl_isId Tryz.f179 K_impl_isId t = K_impl_isId.F t := by kernel_rfl
theorem e_laws_szVoteS (t : TupI (K_laws_szVoteS.ins.map PS.sh)) : runF X_laws_szVoteS Tryz.f63 K_laws_szVoteS t = K_laws_szVoteS.F t := by kernel_rfl
theorem e_slices_ContainsFunc_Lint64_int64 (t : TupI (K_slices_ContainsFunc_Lint64_int64.ins.map PS.sh)) : runF X_slices_ContainsFunc_Lint64_int64 Tryz.f83 K_slices_ContainsFunc_Lint64_int64 t = K_slices_ContainsFunc_Lint64_int64.F t := by kernel_rfl
end CL
end Go.Dx
