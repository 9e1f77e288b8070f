/- The executor finds what each function computes: by computation -/
import Derived.Test.YtmhbfgbadiikfaaGreatSca
set_option linter.unusedVariables false
set_option linter.unusedSimpArgs false
set_option maxRecDepth 100000
set_option maxHeartbeats 0
namespace Go.Dx
open Go.Proofs
namespace CL

theorem e_spec_l12Stands (t : TupI (K_spec_l12Stands.ins.map PS.sh)) : runF X_spec_l12Stands Tryz.f189 K_spec_l12Stands t = K_spec_l12Stands.F t := by kernel_rfl
theorem e_impl_HearAt (t : TupI (K_impl_HearAt.ins.map PS.sh)) : runF X_impl_HearAt Tryz.f44 K_impl_HearAt t = K_impl_HearAt.F t := by kernel_rfl
theorem e_spec_l12Fault (t : TupI (K_spec_l12Fault.ins.map PS.sh)) : runF X_spec_l12Fault Tryz.f65 K_spec_l12Fault t = K_spec_l12Fault.F t := by kernel_rfl
theorem e_impl_Cluster_votersFault (t : TupI (K_impl_Cluster_votersFault.ins.map PS.sh)) : runF X_impl_Cluster_votersFault Tryz.f142 K_impl_Cluster_votersFault t = K_impl_Cluster_votersFault.F t := by kernel_rfl
theorem e_laws_eqInt64S (t : TupI (K_laws_eqInt64S.ins.map PS.sh)) : runF X_laws_eqInt64S Tryz.f76 K_laws_eqInt64S t = K_laws_eqInt64S.F t := by kernel_rfl
theorem e_impl_Voter_chosen_c1 (t : TupI (K_impl_Voter_chosen_c1.ins.map PS.sh)) : runF X_impl_Voter_chosen_c1 Tryz.f210 K_impl_Voter_chosen_c1 t = K_impl_Voter_chosen_c1.F t := by kernel_rfl
theorem e_spec_l12Copy (t : TupI (K_spec_l12Copy.ins.map PS.sh)) : runF X_spec_l12Copy Tryz.f111 K_spec_l12Copy t = K_spec_l12Copy.F t := by kernel_rfl
theorem e_laws_heldVoteS (t : TupI (K_laws_heldVoteS.ins.map PS.sh)) : runF X_laws_heldVoteS Tryz.f171 K_laws_heldVoteS t = K_laws_heldVoteS.F t := by kernel_rfl
theorem e_impl_QuorumFault (t : TupI (K_impl_QuorumFault.ins.map PS.sh)) : runF X_impl_QuorumFault Tryz.f139 K_impl_QuorumFault t = K_impl_QuorumFault.F t := by kernel_rfl
theorem e_laws_szInt64SS (t : TupI (K_laws_szInt64SS.ins.map PS.sh)) : runF X_laws_szInt64SS Tryz.f64 K_laws_szInt64SS t = K_laws_szInt64SS.F t := by kernel_rfl
theorem e_laws_heldQuorum (t : TupI (K_laws_heldQuorum.ins.map PS.sh)) : runF X_laws_heldQuorum Tryz.f168 K_laws_heldQuorum t = K_laws_heldQuorum.F t := by kernel_rfl
theorem e_impl_Cluster_isHearer (t : TupI (K_impl_Cluster_isHearer.ins.map PS.sh)) : runF X_impl_Cluster_isHearer Tryz.f109 K_impl_Cluster_isHearer t = K_impl_Cluster_isHearer.F t := by kernel_rfl
theorem e_laws_toCluster (t : TupI (K_laws_toCluster.ins.map PS.sh)) : runF X_laws_toCluster Tryz.f18 K_laws_toCluster t = K_laws_toCluster.F t := by kernel_rfl
theorem e_laws_heldInt64SS (t : TupI (K_laws_heldInt64SS.ins.map PS.sh)) : runF X_laws_heldInt64SS Tryz.f172 K_laws_heldInt64SS t = K_laws_heldInt64SS.F t := by kernel_rfl
theorem e_spec_l3Ref (t : TupI (K_spec_l3Ref.ins.map PS.sh)) : runF X_spec_l3Ref Tryz.f177 K_spec_l3Ref t = K_spec_l3Ref.F t := by kernel_rfl
theorem e_slices_IndexFunc_Limpl_Voter_impl_Voter (t : TupI (K_slices_IndexFunc_Limpl_Voter_impl_Voter.ins.map PS.sh)) : runF X_slices_IndexFunc_Limpl_Voter_impl_Voter Tryz.f206 K_slices_IndexFunc_Limpl_Voter_impl_Voter t = K_slices_IndexFunc_Limpl_Voter_impl_Voter.F t := by kernel_rfl
theorem e_laws_toVote (t : TupI (K_laws_toVote.ins.map PS.sh)) : runF X_laws_toVote Tryz.f52 K_laws_toVote t = K_laws_toVote.F t := by kernel_rfl
theorem e_laws_szNodeS (t : TupI (K_laws_szNodeS.ins.map PS.sh)) : runF X_laws_szNodeS Tryz.f61 K_laws_szNodeS t = K_laws_szNodeS.F t := by kernel_rfl
theorem e_spec_l9Node (t : TupI (K_spec_l9Node.ins.map PS.sh)) : runF X_spec_l9Node Tryz.f173 K_spec_l9Node t = K_spec_l9Node.F t := by kernel_rfl
theorem e_laws_toNode (t : TupI (K_laws_toNode.ins.map PS.sh)) : runF X_laws_toNode Tryz.f49 K_laws_toNode t = K_laws_toNode.F t := by kernel_rfl
theorem e_slices_Index_Limpl_Vote_impl_Vote (t : TupI (K_slices_Index_Limpl_Vote_impl_Vote.ins.map PS.sh)) : runF X_slices_Index_Limpl_Vote_impl_Vote Tryz.f204 K_slices_Index_Limpl_Vote_impl_Vote t = K_slices_Index_Limpl_Vote_impl_Vote.F t := by kernel_rfl
theorem e_laws_szVoteS (t : TupI (K_laws_szVoteS.ins.map PS.sh)) : runF X_laws_szVoteS Tryz.f63 K_laws_szVoteS t = K_laws_szVoteS.F t := by kernel_rfl
theorem e_laws_heldInt64S (t : TupI (K_laws_heldInt64S.ins.map PS.sh)) : runF X_laws_heldInt64S Tryz.f97 K_laws_heldInt64S t = K_laws_heldInt64S.F t := by kernel_rfl
theorem e_impl_goodKeys_c1 (t : TupI (K_impl_goodKeys_c1.ins.map PS.sh)) : runF X_impl_goodKeys_c1 Tryz.f214 K_impl_goodKeys_c1 t = K_impl_goodKeys_c1.F t := by kernel_rfl
theorem e_laws_markClusterResult (t : TupI (K_laws_markClusterResult.ins.map PS.sh)) : runF X_laws_markClusterResult Tryz.f46 K_laws_markClusterResult t = K_laws_markClusterResult.F t := by kernel_rfl
theorem e_impl_isAbove (t : TupI (K_impl_isAbove.ins.map PS.sh)) : runF X_impl_isAbove Tryz.f151 K_impl_isAbove t = K_impl_isAbove.F t := by kernel_rfl
theorem e_impl_Cluster_findVoter (t : TupI (K_impl_Cluster_findVoter.ins.map PS.sh)) : runF X_impl_Cluster_findVoter Tryz.f182 K_impl_Cluster_findVoter t = K_impl_Cluster_findVoter.F t := by kernel_rfl
theorem e_impl_findNode (t : TupI (K_impl_findNode.ins.map PS.sh)) : runF X_impl_findNode Tryz.f202 K_impl_findNode t = K_impl_findNode.F t := by kernel_rfl
theorem e_impl_goodKeys (t : TupI (K_impl_goodKeys.ins.map PS.sh)) : runF X_impl_goodKeys Tryz.f193 K_impl_goodKeys t = K_impl_goodKeys.F t := by kernel_rfl
theorem e_laws_eqClusterResult (t : TupI (K_laws_eqClusterResult.ins.map PS.sh)) : runF X_laws_eqClusterResult Tryz.f45 K_laws_eqClusterResult t = K_laws_eqClusterResult.F t := by kernel_rfl
theorem e_slices_ContainsFunc_Limpl_Choice_impl_Choice (t : TupI (K_slices_ContainsFunc_Limpl_Choice_impl_Choice.ins.map PS.sh)) : runF X_slices_ContainsFunc_Limpl_Choice_impl_Choice Tryz.f87 K_slices_ContainsFunc_Limpl_Choice_impl_Choice t = K_slices_ContainsFunc_Limpl_Choice_impl_Choice.F t := by kernel_rfl
theorem e_spec_l11Copy (t : TupI (K_spec_l11Copy.ins.map PS.sh)) : runF X_spec_l11Copy Tryz.f163 K_spec_l11Copy t = K_spec_l11Copy.F t := by kernel_rfl
theorem e_laws_heldClusterResult (t : TupI (K_laws_heldClusterResult.ins.map PS.sh)) : runF X_laws_heldClusterResult Tryz.f47 K_laws_heldClusterResult t = K_laws_heldClusterResult.F t := by kernel_rfl
end CL
end Go.Dx
