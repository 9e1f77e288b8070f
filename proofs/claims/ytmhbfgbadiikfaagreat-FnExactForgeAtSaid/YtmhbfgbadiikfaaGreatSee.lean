/- The executor finds what each function computes: by computation -/
import Derived.Test.YtmhbfgbadiikfaaGreatSca
set_option linter.unusedVariables false
set_option linter.unusedSimpArgs false
set_option maxRecDepth 100000
set_option maxHeartbeats 0
namespace Go.Dx
open Go.Proofs
namespace CL

theorem e_spec_l12Votes (t : TupI (K_spec_l12Votes.ins.map PS.sh)) : runF X_spec_l12Votes Tryz.f135 K_spec_l12Votes t = K_spec_l12Votes.F t := by kernel_rfl
theorem e_impl_Cluster_votesFault (t : TupI (K_impl_Cluster_votesFault.ins.map PS.sh)) : runF X_impl_Cluster_votesFault Tryz.f143 K_impl_Cluster_votesFault t = K_impl_Cluster_votesFault.F t := by kernel_rfl
theorem e_impl_Cluster_isVoted (t : TupI (K_impl_Cluster_isVoted.ins.map PS.sh)) : runF X_impl_Cluster_isVoted Tryz.f196 K_impl_Cluster_isVoted t = K_impl_Cluster_isVoted.F t := by kernel_rfl
theorem e_spec_l12Bad (t : TupI (K_spec_l12Bad.ins.map PS.sh)) : runF X_spec_l12Bad Tryz.f132 K_spec_l12Bad t = K_spec_l12Bad.F t := by kernel_rfl
theorem e_impl_ForgeAt (t : TupI (K_impl_ForgeAt.ins.map PS.sh)) : runF X_impl_ForgeAt Tryz.f53 K_impl_ForgeAt t = K_impl_ForgeAt.F t := by kernel_rfl
theorem e_impl_nodeFault (t : TupI (K_impl_nodeFault.ins.map PS.sh)) : runF X_impl_nodeFault Tryz.f174 K_impl_nodeFault t = K_impl_nodeFault.F t := by kernel_rfl
theorem e_laws_eqNodeS (t : TupI (K_laws_eqNodeS.ins.map PS.sh)) : runF X_laws_eqNodeS Tryz.f77 K_laws_eqNodeS t = K_laws_eqNodeS.F t := by kernel_rfl
theorem e_impl_VoteFault (t : TupI (K_impl_VoteFault.ins.map PS.sh)) : runF X_impl_VoteFault Tryz.f119 K_impl_VoteFault t = K_impl_VoteFault.F t := by kernel_rfl
theorem e_impl_ClusterFault (t : TupI (K_impl_ClusterFault.ins.map PS.sh)) : runF X_impl_ClusterFault Tryz.f73 K_impl_ClusterFault t = K_impl_ClusterFault.F t := by kernel_rfl
theorem e_laws_eqInt64SS (t : TupI (K_laws_eqInt64SS.ins.map PS.sh)) : runF X_laws_eqInt64SS Tryz.f80 K_laws_eqInt64SS t = K_laws_eqInt64SS.F t := by kernel_rfl
theorem e_impl_areKeys (t : TupI (K_impl_areKeys.ins.map PS.sh)) : runF X_impl_areKeys Tryz.f191 K_impl_areKeys t = K_impl_areKeys.F t := by kernel_rfl
theorem e_impl_TreeFault (t : TupI (K_impl_TreeFault.ins.map PS.sh)) : runF X_impl_TreeFault Tryz.f141 K_impl_TreeFault t = K_impl_TreeFault.F t := by kernel_rfl
theorem e_impl_VoterFault_c1 (t : TupI (K_impl_VoterFault_c1.ins.map PS.sh)) : runF X_impl_VoterFault_c1 Tryz.f209 K_impl_VoterFault_c1 t = K_impl_VoterFault_c1.F t := by kernel_rfl
theorem e_slices_EqualFunc_Limpl_Voter_Lint64_impl_Voter_int64 (t : TupI (K_slices_EqualFunc_Limpl_Voter_Lint64_impl_Voter_int64.ins.map PS.sh)) : runF X_slices_EqualFunc_Limpl_Voter_Lint64_impl_Voter_int64 Tryz.f194 K_slices_EqualFunc_Limpl_Voter_Lint64_impl_Voter_int64 t = K_slices_EqualFunc_Limpl_Voter_Lint64_impl_Voter_int64.F t := by kernel_rfl
theorem e_laws_toVoterS (t : TupI (K_laws_toVoterS.ins.map PS.sh)) : runF X_laws_toVoterS Tryz.f70 K_laws_toVoterS t = K_laws_toVoterS.F t := by kernel_rfl
theorem e_slices_Clone_Lint64_int64 (t : TupI (K_slices_Clone_Lint64_int64.ins.map PS.sh)) : runF X_slices_Clone_Lint64_int64 Tryz.f164 K_slices_Clone_Lint64_int64 t = K_slices_Clone_Lint64_int64.F t := by kernel_rfl
theorem e_laws_eqClusterResult (t : TupI (K_laws_eqClusterResult.ins.map PS.sh)) : runF X_laws_eqClusterResult Tryz.f45 K_laws_eqClusterResult t = K_laws_eqClusterResult.F t := by kernel_rfl
theorem e_laws_markCluster (t : TupI (K_laws_markCluster.ins.map PS.sh)) : runF X_laws_markCluster Tryz.f28 K_laws_markCluster t = K_laws_markCluster.F t := by kernel_rfl
theorem e_spec_l11Tx (t : TupI (K_spec_l11Tx.ins.map PS.sh)) : runF X_spec_l11Tx Tryz.f176 K_spec_l11Tx t = K_spec_l11Tx.F t := by kernel_rfl
theorem e_laws_szInt64SS (t : TupI (K_laws_szInt64SS.ins.map PS.sh)) : runF X_laws_szInt64SS Tryz.f64 K_laws_szInt64SS t = K_laws_szInt64SS.F t := by kernel_rfl
theorem e_slices_Index_Lint64_int64 (t : TupI (K_slices_Index_Lint64_int64.ins.map PS.sh)) : runF X_slices_Index_Lint64_int64 Tryz.f154 K_slices_Index_Lint64_int64 t = K_slices_Index_Lint64_int64.F t := by kernel_rfl
theorem e_laws_szVoterS (t : TupI (K_laws_szVoterS.ins.map PS.sh)) : runF X_laws_szVoterS Tryz.f62 K_laws_szVoterS t = K_laws_szVoterS.F t := by kernel_rfl
theorem e_slices_IndexFunc_Limpl_Choice_impl_Choice (t : TupI (K_slices_IndexFunc_Limpl_Choice_impl_Choice.ins.map PS.sh)) : runF X_slices_IndexFunc_Limpl_Choice_impl_Choice Tryz.f153 K_slices_IndexFunc_Limpl_Choice_impl_Choice t = K_slices_IndexFunc_Limpl_Choice_impl_Choice.F t := by kernel_rfl
theorem e_laws_markChoiceS (t : TupI (K_laws_markChoiceS.ins.map PS.sh)) : runF X_laws_markChoiceS Tryz.f104 K_laws_markChoiceS t = K_laws_markChoiceS.F t := by kernel_rfl
theorem e_spec_l1In (t : TupI (K_spec_l1In.ins.map PS.sh)) : runF X_spec_l1In Tryz.f106 K_spec_l1In t = K_spec_l1In.F t := by kernel_rfl
theorem e_laws_toChoice (t : TupI (K_laws_toChoice.ins.map PS.sh)) : runF X_laws_toChoice Tryz.f211 K_laws_toChoice t = K_laws_toChoice.F t := by kernel_rfl
theorem e_laws_toQuorum (t : TupI (K_laws_toQuorum.ins.map PS.sh)) : runF X_laws_toQuorum Tryz.f67 K_laws_toQuorum t = K_laws_toQuorum.F t := by kernel_rfl
theorem e_laws_eqQuorum (t : TupI (K_laws_eqQuorum.ins.map PS.sh)) : runF X_laws_eqQuorum Tryz.f75 K_laws_eqQuorum t = K_laws_eqQuorum.F t := by kernel_rfl
theorem e_impl_isId (t : TupI (K_impl_isId.ins.map PS.sh)) : runF X_impl_isId Tryz.f179 K_impl_isId t = K_impl_isId.F t := by kernel_rfl
theorem e_slices_Clone_Limpl_Vote_impl_Vote (t : TupI (K_slices_Clone_Limpl_Vote_impl_Vote.ins.map PS.sh)) : runF X_slices_Clone_Limpl_Vote_impl_Vote Tryz.f166 K_slices_Clone_Limpl_Vote_impl_Vote t = K_slices_Clone_Limpl_Vote_impl_Vote.F t := by kernel_rfl
theorem e_impl_Cluster_findVoter_c1 (t : TupI (K_impl_Cluster_findVoter_c1.ins.map PS.sh)) : runF X_impl_Cluster_findVoter_c1 Tryz.f207 K_impl_Cluster_findVoter_c1 t = K_impl_Cluster_findVoter_c1.F t := by kernel_rfl
theorem e_impl_ownVoter (t : TupI (K_impl_ownVoter.ins.map PS.sh)) : runF X_impl_ownVoter Tryz.f167 K_impl_ownVoter t = K_impl_ownVoter.F t := by kernel_rfl
theorem e_impl_isKey (t : TupI (K_impl_isKey.ins.map PS.sh)) : runF X_impl_isKey Tryz.f181 K_impl_isKey t = K_impl_isKey.F t := by kernel_rfl
end CL
end Go.Dx
