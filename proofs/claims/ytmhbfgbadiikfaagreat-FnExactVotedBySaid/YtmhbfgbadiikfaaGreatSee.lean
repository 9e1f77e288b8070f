/- The executor finds what each function computes: by computation -/
import Derived.Test.YtmhbfgbadiikfaaGreatSca
set_option linter.unusedVariables false
set_option linter.unusedSimpArgs false
set_option maxRecDepth 100000
set_option maxHeartbeats 0
namespace Go.Dx
open Go.Proofs
namespace CL

theorem e_impl_Cluster_votesFault (t : TupI (K_impl_Cluster_votesFault.ins.map PS.sh)) : runF X_impl_Cluster_votesFault Tryz.f143 K_impl_Cluster_votesFault t = K_impl_Cluster_votesFault.F t := by kernel_rfl
theorem e_spec_l12Voters (t : TupI (K_spec_l12Voters.ins.map PS.sh)) : runF X_spec_l12Voters Tryz.f134 K_spec_l12Voters t = K_spec_l12Voters.F t := by kernel_rfl
theorem e_spec_l12Fault (t : TupI (K_spec_l12Fault.ins.map PS.sh)) : runF X_spec_l12Fault Tryz.f65 K_spec_l12Fault t = K_spec_l12Fault.F t := by kernel_rfl
theorem e_impl_Cluster_votersFault (t : TupI (K_impl_Cluster_votersFault.ins.map PS.sh)) : runF X_impl_Cluster_votersFault Tryz.f142 K_impl_Cluster_votersFault t = K_impl_Cluster_votersFault.F t := by kernel_rfl
theorem e_spec_l9Fault (t : TupI (K_spec_l9Fault.ins.map PS.sh)) : runF X_spec_l9Fault Tryz.f133 K_spec_l9Fault t = K_spec_l9Fault.F t := by kernel_rfl
theorem e_laws_eqChoiceS (t : TupI (K_laws_eqChoiceS.ins.map PS.sh)) : runF X_laws_eqChoiceS Tryz.f103 K_laws_eqChoiceS t = K_laws_eqChoiceS.F t := by kernel_rfl
theorem e_laws_eqNodeS (t : TupI (K_laws_eqNodeS.ins.map PS.sh)) : runF X_laws_eqNodeS Tryz.f77 K_laws_eqNodeS t = K_laws_eqNodeS.F t := by kernel_rfl
theorem e_impl_VoteFault (t : TupI (K_impl_VoteFault.ins.map PS.sh)) : runF X_impl_VoteFault Tryz.f119 K_impl_VoteFault t = K_impl_VoteFault.F t := by kernel_rfl
theorem e_impl_ClusterFault (t : TupI (K_impl_ClusterFault.ins.map PS.sh)) : runF X_impl_ClusterFault Tryz.f73 K_impl_ClusterFault t = K_impl_ClusterFault.F t := by kernel_rfl
theorem e_laws_eqInt64SS (t : TupI (K_laws_eqInt64SS.ins.map PS.sh)) : runF X_laws_eqInt64SS Tryz.f80 K_laws_eqInt64SS t = K_laws_eqInt64SS.F t := by kernel_rfl
theorem e_impl_findNode_c1 (t : TupI (K_impl_findNode_c1.ins.map PS.sh)) : runF X_impl_findNode_c1 Tryz.f218 K_impl_findNode_c1 t = K_impl_findNode_c1.F t := by kernel_rfl
theorem e_laws_markVoteS (t : TupI (K_laws_markVoteS.ins.map PS.sh)) : runF X_laws_markVoteS Tryz.f95 K_laws_markVoteS t = K_laws_markVoteS.F t := by kernel_rfl
theorem e_laws_markNodeS (t : TupI (K_laws_markNodeS.ins.map PS.sh)) : runF X_laws_markNodeS Tryz.f93 K_laws_markNodeS t = K_laws_markNodeS.F t := by kernel_rfl
theorem e_impl_Voter_chosen_c1 (t : TupI (K_impl_Voter_chosen_c1.ins.map PS.sh)) : runF X_impl_Voter_chosen_c1 Tryz.f210 K_impl_Voter_chosen_c1 t = K_impl_Voter_chosen_c1.F t := by kernel_rfl
theorem e_slices_DeleteFunc_Lint64_int64 (t : TupI (K_slices_DeleteFunc_Lint64_int64.ins.map PS.sh)) : runF X_slices_DeleteFunc_Lint64_int64 Tryz.f213 K_slices_DeleteFunc_Lint64_int64 t = K_slices_DeleteFunc_Lint64_int64.F t := by kernel_rfl
theorem e_laws_toNode (t : TupI (K_laws_toNode.ins.map PS.sh)) : runF X_laws_toNode Tryz.f49 K_laws_toNode t = K_laws_toNode.F t := by kernel_rfl
theorem e_laws_eqCluster (t : TupI (K_laws_eqCluster.ins.map PS.sh)) : runF X_laws_eqCluster Tryz.f20 K_laws_eqCluster t = K_laws_eqCluster.F t := by kernel_rfl
theorem e_laws_toVoter (t : TupI (K_laws_toVoter.ins.map PS.sh)) : runF X_laws_toVoter Tryz.f138 K_laws_toVoter t = K_laws_toVoter.F t := by kernel_rfl
theorem e_impl_pathTo (t : TupI (K_impl_pathTo.ins.map PS.sh)) : runF X_impl_pathTo Tryz.f200 K_impl_pathTo t = K_impl_pathTo.F t := by kernel_rfl
theorem e_laws_toInt64S (t : TupI (K_laws_toInt64S.ins.map PS.sh)) : runF X_laws_toInt64S Tryz.f68 K_laws_toInt64S t = K_laws_toInt64S.F t := by kernel_rfl
theorem e_laws_toNodeS (t : TupI (K_laws_toNodeS.ins.map PS.sh)) : runF X_laws_toNodeS Tryz.f69 K_laws_toNodeS t = K_laws_toNodeS.F t := by kernel_rfl
theorem e_spec_l3Ref (t : TupI (K_spec_l3Ref.ins.map PS.sh)) : runF X_spec_l3Ref Tryz.f177 K_spec_l3Ref t = K_spec_l3Ref.F t := by kernel_rfl
theorem e_laws_eqChoice (t : TupI (K_laws_eqChoice.ins.map PS.sh)) : runF X_laws_eqChoice Tryz.f162 K_laws_eqChoice t = K_laws_eqChoice.F t := by kernel_rfl
theorem e_laws_toRef (t : TupI (K_laws_toRef.ins.map PS.sh)) : runF X_laws_toRef Tryz.f57 K_laws_toRef t = K_laws_toRef.F t := by kernel_rfl
theorem e_spec_l1Key (t : TupI (K_spec_l1Key.ins.map PS.sh)) : runF X_spec_l1Key Tryz.f175 K_spec_l1Key t = K_spec_l1Key.F t := by kernel_rfl
theorem e_laws_szVoter (t : TupI (K_laws_szVoter.ins.map PS.sh)) : runF X_laws_szVoter Tryz.f130 K_laws_szVoter t = K_laws_szVoter.F t := by kernel_rfl
theorem e_impl_isAbove (t : TupI (K_impl_isAbove.ins.map PS.sh)) : runF X_impl_isAbove Tryz.f151 K_impl_isAbove t = K_impl_isAbove.F t := by kernel_rfl
theorem e_laws_eqVoter (t : TupI (K_laws_eqVoter.ins.map PS.sh)) : runF X_laws_eqVoter Tryz.f147 K_laws_eqVoter t = K_laws_eqVoter.F t := by kernel_rfl
theorem e_impl_goodKeys_c1 (t : TupI (K_impl_goodKeys_c1.ins.map PS.sh)) : runF X_impl_goodKeys_c1 Tryz.f214 K_impl_goodKeys_c1 t = K_impl_goodKeys_c1.F t := by kernel_rfl
theorem e_impl_isKey (t : TupI (K_impl_isKey.ins.map PS.sh)) : runF X_impl_isKey Tryz.f181 K_impl_isKey t = K_impl_isKey.F t := by kernel_rfl
end CL
end Go.Dx
