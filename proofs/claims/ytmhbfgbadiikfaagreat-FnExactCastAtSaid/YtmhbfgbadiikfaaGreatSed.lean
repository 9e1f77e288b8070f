/- The executor finds what each function computes: by computation -/
import Derived.Test.YtmhbfgbadiikfaaGreatSca
set_option linter.unusedVariables false
set_option linter.unusedSimpArgs false
set_option maxRecDepth 100000
set_option maxHeartbeats 0
namespace Go.Dx
open Go.Proofs
namespace CL

theorem e_impl_ownCluster (t : TupI (K_impl_ownCluster.ins.map PS.sh)) : runF X_impl_ownCluster Tryz.f113 K_impl_ownCluster t = K_impl_ownCluster.F t := by kernel_rfl
theorem e_spec_l12Voters (t : TupI (K_spec_l12Voters.ins.map PS.sh)) : runF X_spec_l12Voters Tryz.f134 K_spec_l12Voters t = K_spec_l12Voters.F t := by kernel_rfl
theorem e_impl_Cluster_put (t : TupI (K_impl_Cluster_put.ins.map PS.sh)) : runF X_impl_Cluster_put Tryz.f120 K_impl_Cluster_put t = K_impl_Cluster_put.F t := by kernel_rfl
theorem e_spec_l12Bad (t : TupI (K_spec_l12Bad.ins.map PS.sh)) : runF X_spec_l12Bad Tryz.f132 K_spec_l12Bad t = K_spec_l12Bad.F t := by kernel_rfl
theorem e_spec_l9Fault (t : TupI (K_spec_l9Fault.ins.map PS.sh)) : runF X_spec_l9Fault Tryz.f133 K_spec_l9Fault t = K_spec_l9Fault.F t := by kernel_rfl
theorem e_slices_Index_Limpl_Vote_impl_Vote (t : TupI (K_slices_Index_Limpl_Vote_impl_Vote.ins.map PS.sh)) : runF X_slices_Index_Limpl_Vote_impl_Vote Tryz.f204 K_slices_Index_Limpl_Vote_impl_Vote t = K_slices_Index_Limpl_Vote_impl_Vote.F t := by kernel_rfl
theorem e_laws_toCluster (t : TupI (K_laws_toCluster.ins.map PS.sh)) : runF X_laws_toCluster Tryz.f18 K_laws_toCluster t = K_laws_toCluster.F t := by kernel_rfl
theorem e_spec_l9Node (t : TupI (K_spec_l9Node.ins.map PS.sh)) : runF X_spec_l9Node Tryz.f173 K_spec_l9Node t = K_spec_l9Node.F t := by kernel_rfl
theorem e_laws_szChoiceS (t : TupI (K_laws_szChoiceS.ins.map PS.sh)) : runF X_laws_szChoiceS Tryz.f187 K_laws_szChoiceS t = K_laws_szChoiceS.F t := by kernel_rfl
theorem e_spec_l9Above (t : TupI (K_spec_l9Above.ins.map PS.sh)) : runF X_spec_l9Above Tryz.f149 K_spec_l9Above t = K_spec_l9Above.F t := by kernel_rfl
theorem e_impl_findNode (t : TupI (K_impl_findNode.ins.map PS.sh)) : runF X_impl_findNode Tryz.f202 K_impl_findNode t = K_impl_findNode.F t := by kernel_rfl
theorem e_impl_within (t : TupI (K_impl_within.ins.map PS.sh)) : runF X_impl_within Tryz.f112 K_impl_within t = K_impl_within.F t := by kernel_rfl
theorem e_slices_ContainsFunc_Limpl_Choice_impl_Choice (t : TupI (K_slices_ContainsFunc_Limpl_Choice_impl_Choice.ins.map PS.sh)) : runF X_slices_ContainsFunc_Limpl_Choice_impl_Choice Tryz.f87 K_slices_ContainsFunc_Limpl_Choice_impl_Choice t = K_slices_ContainsFunc_Limpl_Choice_impl_Choice.F t := by kernel_rfl
theorem e_impl_VoterFault_c1 (t : TupI (K_impl_VoterFault_c1.ins.map PS.sh)) : runF X_impl_VoterFault_c1 Tryz.f209 K_impl_VoterFault_c1 t = K_impl_VoterFault_c1.F t := by kernel_rfl
theorem e_impl_Voter_chosen_c1 (t : TupI (K_impl_Voter_chosen_c1.ins.map PS.sh)) : runF X_impl_Voter_chosen_c1 Tryz.f210 K_impl_Voter_chosen_c1 t = K_impl_Voter_chosen_c1.F t := by kernel_rfl
theorem e_laws_heldChoiceS (t : TupI (K_laws_heldChoiceS.ins.map PS.sh)) : runF X_laws_heldChoiceS Tryz.f105 K_laws_heldChoiceS t = K_laws_heldChoiceS.F t := by kernel_rfl
theorem e_slices_Clone_Lint64_int64 (t : TupI (K_slices_Clone_Lint64_int64.ins.map PS.sh)) : runF X_slices_Clone_Lint64_int64 Tryz.f164 K_slices_Clone_Lint64_int64 t = K_slices_Clone_Lint64_int64.F t := by kernel_rfl
theorem e_laws_eqClusterResult (t : TupI (K_laws_eqClusterResult.ins.map PS.sh)) : runF X_laws_eqClusterResult Tryz.f45 K_laws_eqClusterResult t = K_laws_eqClusterResult.F t := by kernel_rfl
theorem e_laws_markCluster (t : TupI (K_laws_markCluster.ins.map PS.sh)) : runF X_laws_markCluster Tryz.f28 K_laws_markCluster t = K_laws_markCluster.F t := by kernel_rfl
theorem e_spec_l11Tx (t : TupI (K_spec_l11Tx.ins.map PS.sh)) : runF X_spec_l11Tx Tryz.f176 K_spec_l11Tx t = K_spec_l11Tx.F t := by kernel_rfl
theorem e_laws_szInt64SS (t : TupI (K_laws_szInt64SS.ins.map PS.sh)) : runF X_laws_szInt64SS Tryz.f64 K_laws_szInt64SS t = K_laws_szInt64SS.F t := by kernel_rfl
theorem e_slices_Index_Lint64_int64 (t : TupI (K_slices_Index_Lint64_int64.ins.map PS.sh)) : runF X_slices_Index_Lint64_int64 Tryz.f154 K_slices_Index_Lint64_int64 t = K_slices_Index_Lint64_int64.F t := by kernel_rfl
theorem e_laws_szVoterS (t : TupI (K_laws_szVoterS.ins.map PS.sh)) : runF X_laws_szVoterS Tryz.f62 K_laws_szVoterS t = K_laws_szVoterS.F t := by kernel_rfl
theorem e_slices_IndexFunc_Limpl_Choice_impl_Choice (t : TupI (K_slices_IndexFunc_Limpl_Choice_impl_Choice.ins.map PS.sh)) : runF X_slices_IndexFunc_Limpl_Choice_impl_Choice Tryz.f153 K_slices_IndexFunc_Limpl_Choice_impl_Choice t = K_slices_IndexFunc_Limpl_Choice_impl_Choice.F t := by kernel_rfl
theorem e_laws_markChoiceS (t : TupI (K_laws_markChoiceS.ins.map PS.sh)) : runF X_laws_markChoiceS Tryz.f104 K_laws_markChoiceS t = K_laws_markChoiceS.F t := by kernel_rfl
theorem e_spec_l1In (t : TupI (K_spec_l1In.ins.map PS.sh)) : runF X_spec_l1In Tryz.f106 K_spec_l1In t = K_spec_l1In.F t := by kernel_rfl
theorem e_impl_Cluster_heardFault_c1 (t : TupI (K_impl_Cluster_heardFault_c1.ins.map PS.sh)) : runF X_impl_Cluster_heardFault_c1 Tryz.f197 K_impl_Cluster_heardFault_c1 t = K_impl_Cluster_heardFault_c1.F t := by kernel_rfl
theorem e_spec_l1Key (t : TupI (K_spec_l1Key.ins.map PS.sh)) : runF X_spec_l1Key Tryz.f175 K_spec_l1Key t = K_spec_l1Key.F t := by kernel_rfl
theorem e_slices_Contains_Limpl_Vote_impl_Vote (t : TupI (K_slices_Contains_Limpl_Vote_impl_Vote.ins.map PS.sh)) : runF X_slices_Contains_Limpl_Vote_impl_Vote Tryz.f161 K_slices_Contains_Limpl_Vote_impl_Vote t = K_slices_Contains_Limpl_Vote_impl_Vote.F t := by kernel_rfl
theorem e_impl_Cluster_votersFault_c1 (t : TupI (K_impl_Cluster_votersFault_c1.ins.map PS.sh)) : runF X_impl_Cluster_votersFault_c1 Tryz.f195 K_impl_Cluster_votersFault_c1 t = K_impl_Cluster_votersFault_c1.F t := by kernel_rfl
theorem e_laws_heldInt64SS (t : TupI (K_laws_heldInt64SS.ins.map PS.sh)) : runF X_laws_heldInt64SS Tryz.f172 K_laws_heldInt64SS t = K_laws_heldInt64SS.F t := by kernel_rfl
theorem e_laws_szVoteS (t : TupI (K_laws_szVoteS.ins.map PS.sh)) : runF X_laws_szVoteS Tryz.f63 K_laws_szVoteS t = K_laws_szVoteS.F t := by kernel_rfl
theorem e_impl_goodKeys_c1 (t : TupI (K_impl_goodKeys_c1.ins.map PS.sh)) : runF X_impl_goodKeys_c1 Tryz.f214 K_impl_goodKeys_c1 t = K_impl_goodKeys_c1.F t := by kernel_rfl
theorem e_spec_l12Err (t : TupI (K_spec_l12Err.ins.map PS.sh)) : runF X_spec_l12Err Tryz.f110 K_spec_l12Err t = K_spec_l12Err.F t := by kernel_rfl
end CL
end Go.Dx
