/- The executor finds what each function computes: by computation -/
import Derived.Test.YtmhbfgbadiikfaaGreatSca
set_option linter.unusedVariables false
set_option linter.unusedSimpArgs false
set_option maxRecDepth 100000
set_option maxHeartbeats 0
namespace Go.Dx
open Go.Proofs
namespace CL

theorem e_spec_l12Votes (t : TupI (K_spec_l12Votes.ins.map PS.sh)) : runF X_spec_l12Votes Tryz.f135 K_spec_l12Votes t = K_spec_l12Votes.F t := by kernel_rfl
theorem e_impl_Cluster_votesFault (t : TupI (K_impl_Cluster_votesFault.ins.map PS.sh)) : runF X_impl_Cluster_votesFault Tryz.f143 K_impl_Cluster_votesFault t = K_impl_Cluster_votesFault.F t := by kernel_rfl
theorem e_laws_FnExactCastAt (t : TupI (K_laws_FnExactCastAt.ins.map PS.sh)) : runF X_laws_FnExactCastAt Tryz.f14 K_laws_FnExactCastAt t = K_laws_FnExactCastAt.F t := by kernel_rfl
theorem e_spec_CastAt (t : TupI (K_spec_CastAt.ins.map PS.sh)) : runF X_spec_CastAt Tryz.f54 K_spec_CastAt t = K_spec_CastAt.F t := by kernel_rfl
theorem e_spec_l11Fault (t : TupI (K_spec_l11Fault.ins.map PS.sh)) : runF X_spec_l11Fault Tryz.f183 K_spec_l11Fault t = K_spec_l11Fault.F t := by kernel_rfl
theorem e_laws_eqChoiceS (t : TupI (K_laws_eqChoiceS.ins.map PS.sh)) : runF X_laws_eqChoiceS Tryz.f103 K_laws_eqChoiceS t = K_laws_eqChoiceS.F t := by kernel_rfl
theorem e_laws_eqNodeS (t : TupI (K_laws_eqNodeS.ins.map PS.sh)) : runF X_laws_eqNodeS Tryz.f77 K_laws_eqNodeS t = K_laws_eqNodeS.F t := by kernel_rfl
theorem e_impl_VoteFault (t : TupI (K_impl_VoteFault.ins.map PS.sh)) : runF X_impl_VoteFault Tryz.f119 K_impl_VoteFault t = K_impl_VoteFault.F t := by kernel_rfl
theorem e_impl_ClusterFault (t : TupI (K_impl_ClusterFault.ins.map PS.sh)) : runF X_impl_ClusterFault Tryz.f73 K_impl_ClusterFault t = K_impl_ClusterFault.F t := by kernel_rfl
theorem e_laws_eqInt64SS (t : TupI (K_laws_eqInt64SS.ins.map PS.sh)) : runF X_laws_eqInt64SS Tryz.f80 K_laws_eqInt64SS t = K_laws_eqInt64SS.F t := by kernel_rfl
theorem e_impl_findNode_c1 (t : TupI (K_impl_findNode_c1.ins.map PS.sh)) : runF X_impl_findNode_c1 Tryz.f218 K_impl_findNode_c1 t = K_impl_findNode_c1.F t := by kernel_rfl
theorem e_laws_heldVoteS (t : TupI (K_laws_heldVoteS.ins.map PS.sh)) : runF X_laws_heldVoteS Tryz.f171 K_laws_heldVoteS t = K_laws_heldVoteS.F t := by kernel_rfl
theorem e_spec_l12Has (t : TupI (K_spec_l12Has.ins.map PS.sh)) : runF X_spec_l12Has Tryz.f178 K_spec_l12Has t = K_spec_l12Has.F t := by kernel_rfl
theorem e_slices_EqualFunc_Limpl_Voter_Lint64_impl_Voter_int64 (t : TupI (K_slices_EqualFunc_Limpl_Voter_Lint64_impl_Voter_int64.ins.map PS.sh)) : runF X_slices_EqualFunc_Limpl_Voter_Lint64_impl_Voter_int64 Tryz.f194 K_slices_EqualFunc_Limpl_Voter_Lint64_impl_Voter_int64 t = K_slices_EqualFunc_Limpl_Voter_Lint64_impl_Voter_int64.F t := by kernel_rfl
theorem e_impl_QuorumFault (t : TupI (K_impl_QuorumFault.ins.map PS.sh)) : runF X_impl_QuorumFault Tryz.f139 K_impl_QuorumFault t = K_impl_QuorumFault.F t := by kernel_rfl
theorem e_spec_l12Voted (t : TupI (K_spec_l12Voted.ins.map PS.sh)) : runF X_spec_l12Voted Tryz.f122 K_spec_l12Voted t = K_spec_l12Voted.F t := by kernel_rfl
theorem e_laws_heldVoterS (t : TupI (K_laws_heldVoterS.ins.map PS.sh)) : runF X_laws_heldVoterS Tryz.f170 K_laws_heldVoterS t = K_laws_heldVoterS.F t := by kernel_rfl
theorem e_laws_heldNodeS (t : TupI (K_laws_heldNodeS.ins.map PS.sh)) : runF X_laws_heldNodeS Tryz.f169 K_laws_heldNodeS t = K_laws_heldNodeS.F t := by kernel_rfl
theorem e_laws_markClusterResult (t : TupI (K_laws_markClusterResult.ins.map PS.sh)) : runF X_laws_markClusterResult Tryz.f46 K_laws_markClusterResult t = K_laws_markClusterResult.F t := by kernel_rfl
theorem e_laws_toVoter (t : TupI (K_laws_toVoter.ins.map PS.sh)) : runF X_laws_toVoter Tryz.f138 K_laws_toVoter t = K_laws_toVoter.F t := by kernel_rfl
theorem e_laws_toInt64SS (t : TupI (K_laws_toInt64SS.ins.map PS.sh)) : runF X_laws_toInt64SS Tryz.f72 K_laws_toInt64SS t = K_laws_toInt64SS.F t := by kernel_rfl
theorem e_laws_eqVote (t : TupI (K_laws_eqVote.ins.map PS.sh)) : runF X_laws_eqVote Tryz.f148 K_laws_eqVote t = K_laws_eqVote.F t := by kernel_rfl
theorem e_impl_Voter_chosen (t : TupI (K_impl_Voter_chosen.ins.map PS.sh)) : runF X_impl_Voter_chosen Tryz.f186 K_impl_Voter_chosen t = K_impl_Voter_chosen.F t := by kernel_rfl
theorem e_laws_heldInt64S (t : TupI (K_laws_heldInt64S.ins.map PS.sh)) : runF X_laws_heldInt64S Tryz.f97 K_laws_heldInt64S t = K_laws_heldInt64S.F t := by kernel_rfl
theorem e_laws_eqNode (t : TupI (K_laws_eqNode.ins.map PS.sh)) : runF X_laws_eqNode Tryz.f146 K_laws_eqNode t = K_laws_eqNode.F t := by kernel_rfl
theorem e_spec_l12At (t : TupI (K_spec_l12At.ins.map PS.sh)) : runF X_spec_l12At Tryz.f121 K_spec_l12At t = K_spec_l12At.F t := by kernel_rfl
theorem e_laws_toChoice (t : TupI (K_laws_toChoice.ins.map PS.sh)) : runF X_laws_toChoice Tryz.f211 K_laws_toChoice t = K_laws_toChoice.F t := by kernel_rfl
theorem e_laws_toQuorum (t : TupI (K_laws_toQuorum.ins.map PS.sh)) : runF X_laws_toQuorum Tryz.f67 K_laws_toQuorum t = K_laws_toQuorum.F t := by kernel_rfl
theorem e_laws_eqQuorum (t : TupI (K_laws_eqQuorum.ins.map PS.sh)) : runF X_laws_eqQuorum Tryz.f75 K_laws_eqQuorum t = K_laws_eqQuorum.F t := by kernel_rfl
theorem e_impl_isId (t : TupI (K_impl_isId.ins.map PS.sh)) : runF X_impl_isId Tryz.f179 K_impl_isId t = K_impl_isId.F t := by kernel_rfl
theorem e_slices_Clone_Limpl_Vote_impl_Vote (t : TupI (K_slices_Clone_Limpl_Vote_impl_Vote.ins.map PS.sh)) : runF X_slices_Clone_Limpl_Vote_impl_Vote Tryz.f166 K_slices_Clone_Limpl_Vote_impl_Vote t = K_slices_Clone_Limpl_Vote_impl_Vote.F t := by kernel_rfl
theorem e_laws_heldClusterResult (t : TupI (K_laws_heldClusterResult.ins.map PS.sh)) : runF X_laws_heldClusterResult Tryz.f47 K_laws_heldClusterResult t = K_laws_heldClusterResult.F t := by kernel_rfl
theorem e_impl_Cluster_findVoter (t : TupI (K_impl_Cluster_findVoter.ins.map PS.sh)) : runF X_impl_Cluster_findVoter Tryz.f182 K_impl_Cluster_findVoter t = K_impl_Cluster_findVoter.F t := by kernel_rfl
theorem e_slices_Clone_Limpl_Choice_impl_Choice (t : TupI (K_slices_Clone_Limpl_Choice_impl_Choice.ins.map PS.sh)) : runF X_slices_Clone_Limpl_Choice_impl_Choice Tryz.f205 K_slices_Clone_Limpl_Choice_impl_Choice t = K_slices_Clone_Limpl_Choice_impl_Choice.F t := by kernel_rfl
end CL
end Go.Dx
