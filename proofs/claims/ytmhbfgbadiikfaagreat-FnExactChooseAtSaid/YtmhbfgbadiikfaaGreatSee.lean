/- The executor finds what each function computes: by computation -/
import Derived.Test.YtmhbfgbadiikfaaGreatSca
set_option linter.unusedVariables false
set_option linter.unusedSimpArgs false
set_option maxRecDepth 100000
set_option maxHeartbeats 0
namespace Go.Dx
open Go.Proofs
namespace CL

theorem e_laws_FnExactChooseAt (t : TupI (K_laws_FnExactChooseAt.ins.map PS.sh)) : runF X_laws_FnExactChooseAt Tryz.f15 K_laws_FnExactChooseAt t = K_laws_FnExactChooseAt.F t := by kernel_rfl
theorem e_spec_l12Votes (t : TupI (K_spec_l12Votes.ins.map PS.sh)) : runF X_spec_l12Votes Tryz.f135 K_spec_l12Votes t = K_spec_l12Votes.F t := by kernel_rfl
theorem e_impl_Cluster_isVoted (t : TupI (K_impl_Cluster_isVoted.ins.map PS.sh)) : runF X_impl_Cluster_isVoted Tryz.f196 K_impl_Cluster_isVoted t = K_impl_Cluster_isVoted.F t := by kernel_rfl
theorem e_spec_l11Fault (t : TupI (K_spec_l11Fault.ins.map PS.sh)) : runF X_spec_l11Fault Tryz.f183 K_spec_l11Fault t = K_spec_l11Fault.F t := by kernel_rfl
theorem e_laws_eqChoiceS (t : TupI (K_laws_eqChoiceS.ins.map PS.sh)) : runF X_laws_eqChoiceS Tryz.f103 K_laws_eqChoiceS t = K_laws_eqChoiceS.F t := by kernel_rfl
theorem e_laws_eqVoteS (t : TupI (K_laws_eqVoteS.ins.map PS.sh)) : runF X_laws_eqVoteS Tryz.f79 K_laws_eqVoteS t = K_laws_eqVoteS.F t := by kernel_rfl
theorem e_impl_VoteFault (t : TupI (K_impl_VoteFault.ins.map PS.sh)) : runF X_impl_VoteFault Tryz.f119 K_impl_VoteFault t = K_impl_VoteFault.F t := by kernel_rfl
theorem e_laws_szQuorum (t : TupI (K_laws_szQuorum.ins.map PS.sh)) : runF X_laws_szQuorum Tryz.f59 K_laws_szQuorum t = K_laws_szQuorum.F t := by kernel_rfl
theorem e_laws_eqInt64S (t : TupI (K_laws_eqInt64S.ins.map PS.sh)) : runF X_laws_eqInt64S Tryz.f76 K_laws_eqInt64S t = K_laws_eqInt64S.F t := by kernel_rfl
theorem e_impl_findNode (t : TupI (K_impl_findNode.ins.map PS.sh)) : runF X_impl_findNode Tryz.f202 K_impl_findNode t = K_impl_findNode.F t := by kernel_rfl
theorem e_laws_heldVoteS (t : TupI (K_laws_heldVoteS.ins.map PS.sh)) : runF X_laws_heldVoteS Tryz.f171 K_laws_heldVoteS t = K_laws_heldVoteS.F t := by kernel_rfl
theorem e_impl_TreeFault (t : TupI (K_impl_TreeFault.ins.map PS.sh)) : runF X_impl_TreeFault Tryz.f141 K_impl_TreeFault t = K_impl_TreeFault.F t := by kernel_rfl
theorem e_slices_EqualFunc_Limpl_Voter_Lint64_impl_Voter_int64 (t : TupI (K_slices_EqualFunc_Limpl_Voter_Lint64_impl_Voter_int64.ins.map PS.sh)) : runF X_slices_EqualFunc_Limpl_Voter_Lint64_impl_Voter_int64 Tryz.f194 K_slices_EqualFunc_Limpl_Voter_Lint64_impl_Voter_int64 t = K_slices_EqualFunc_Limpl_Voter_Lint64_impl_Voter_int64.F t := by kernel_rfl
theorem e_impl_voted (t : TupI (K_impl_voted.ins.map PS.sh)) : runF X_impl_voted Tryz.f124 K_impl_voted t = K_impl_voted.F t := by kernel_rfl
theorem e_slices_DeleteFunc_Lint64_int64 (t : TupI (K_slices_DeleteFunc_Lint64_int64.ins.map PS.sh)) : runF X_slices_DeleteFunc_Lint64_int64 Tryz.f213 K_slices_DeleteFunc_Lint64_int64 t = K_slices_DeleteFunc_Lint64_int64.F t := by kernel_rfl
theorem e_spec_l12Voted (t : TupI (K_spec_l12Voted.ins.map PS.sh)) : runF X_spec_l12Voted Tryz.f122 K_spec_l12Voted t = K_spec_l12Voted.F t := by kernel_rfl
theorem e_laws_heldVoterS (t : TupI (K_laws_heldVoterS.ins.map PS.sh)) : runF X_laws_heldVoterS Tryz.f170 K_laws_heldVoterS t = K_laws_heldVoterS.F t := by kernel_rfl
theorem e_laws_heldNodeS (t : TupI (K_laws_heldNodeS.ins.map PS.sh)) : runF X_laws_heldNodeS Tryz.f169 K_laws_heldNodeS t = K_laws_heldNodeS.F t := by kernel_rfl
theorem e_laws_markCluster (t : TupI (K_laws_markCluster.ins.map PS.sh)) : runF X_laws_markCluster Tryz.f28 K_laws_markCluster t = K_laws_markCluster.F t := by kernel_rfl
theorem e_spec_l11Tx (t : TupI (K_spec_l11Tx.ins.map PS.sh)) : runF X_spec_l11Tx Tryz.f176 K_spec_l11Tx t = K_spec_l11Tx.F t := by kernel_rfl
theorem e_laws_szInt64SS (t : TupI (K_laws_szInt64SS.ins.map PS.sh)) : runF X_laws_szInt64SS Tryz.f64 K_laws_szInt64SS t = K_laws_szInt64SS.F t := by kernel_rfl
theorem e_slices_Index_Lint64_int64 (t : TupI (K_slices_Index_Lint64_int64.ins.map PS.sh)) : runF X_slices_Index_Lint64_int64 Tryz.f154 K_slices_Index_Lint64_int64 t = K_slices_Index_Lint64_int64.F t := by kernel_rfl
theorem e_laws_szVoterS (t : TupI (K_laws_szVoterS.ins.map PS.sh)) : runF X_laws_szVoterS Tryz.f62 K_laws_szVoterS t = K_laws_szVoterS.F t := by kernel_rfl
theorem e_slices_IndexFunc_Limpl_Choice_impl_Choice (t : TupI (K_slices_IndexFunc_Limpl_Choice_impl_Choice.ins.map PS.sh)) : runF X_slices_IndexFunc_Limpl_Choice_impl_Choice Tryz.f153 K_slices_IndexFunc_Limpl_Choice_impl_Choice t = K_slices_IndexFunc_Limpl_Choice_impl_Choice.F t := by kernel_rfl
theorem e_laws_markChoiceS (t : TupI (K_laws_markChoiceS.ins.map PS.sh)) : runF X_laws_markChoiceS Tryz.f104 K_laws_markChoiceS t = K_laws_markChoiceS.F t := by kernel_rfl
theorem e_spec_l1In (t : TupI (K_spec_l1In.ins.map PS.sh)) : runF X_spec_l1In Tryz.f106 K_spec_l1In t = K_spec_l1In.F t := by kernel_rfl
theorem e_impl_ChooseAt (t : TupI (K_impl_ChooseAt.ins.map PS.sh)) : runF X_impl_ChooseAt Tryz.f58 K_impl_ChooseAt t = K_impl_ChooseAt.F t := by kernel_rfl
theorem e_spec_l1Key (t : TupI (K_spec_l1Key.ins.map PS.sh)) : runF X_spec_l1Key Tryz.f175 K_spec_l1Key t = K_spec_l1Key.F t := by kernel_rfl
theorem e_slices_Contains_Limpl_Vote_impl_Vote (t : TupI (K_slices_Contains_Limpl_Vote_impl_Vote.ins.map PS.sh)) : runF X_slices_Contains_Limpl_Vote_impl_Vote Tryz.f161 K_slices_Contains_Limpl_Vote_impl_Vote t = K_slices_Contains_Limpl_Vote_impl_Vote.F t := by kernel_rfl
theorem e_impl_Cluster_votersFault_c1 (t : TupI (K_impl_Cluster_votersFault_c1.ins.map PS.sh)) : runF X_impl_Cluster_votersFault_c1 Tryz.f195 K_impl_Cluster_votersFault_c1 t = K_impl_Cluster_votersFault_c1.F t := by kernel_rfl
theorem e_laws_heldInt64SS (t : TupI (K_laws_heldInt64SS.ins.map PS.sh)) : runF X_laws_heldInt64SS Tryz.f172 K_laws_heldInt64SS t = K_laws_heldInt64SS.F t := by kernel_rfl
theorem e_laws_heldClusterResult (t : TupI (K_laws_heldClusterResult.ins.map PS.sh)) : runF X_laws_heldClusterResult Tryz.f47 K_laws_heldClusterResult t = K_laws_heldClusterResult.F t := by kernel_rfl
theorem e_slices_ContainsFunc_Lint64_int64 (t : TupI (K_slices_ContainsFunc_Lint64_int64.ins.map PS.sh)) : runF X_slices_ContainsFunc_Lint64_int64 Tryz.f83 K_slices_ContainsFunc_Lint64_int64 t = K_slices_ContainsFunc_Lint64_int64.F t := by kernel_rfl
theorem e_slices_Clone_Limpl_Choice_impl_Choice (t : TupI (K_slices_Clone_Limpl_Choice_impl_Choice.ins.map PS.sh)) : runF X_slices_Clone_Limpl_Choice_impl_Choice Tryz.f205 K_slices_Clone_Limpl_Choice_impl_Choice t = K_slices_Clone_Limpl_Choice_impl_Choice.F t := by kernel_rfl
end CL
end Go.Dx
