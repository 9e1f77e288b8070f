/- The executor finds what each function computes: by computation -/
import Derived.Test.YtmhbfgbadiikfaaGreatSca
set_option linter.unusedVariables false
set_option linter.unusedSimpArgs false
set_option maxRecDepth 100000
set_option maxHeartbeats 0
namespace Go.Dx
open Go.Proofs
namespace CL

theorem e_spec_l12Heard (t : TupI (K_spec_l12Heard.ins.map PS.sh)) : runF X_spec_l12Heard Tryz.f136 K_spec_l12Heard t = K_spec_l12Heard.F t := by kernel_rfl
theorem e_impl_Cluster_votesFault (t : TupI (K_impl_Cluster_votesFault.ins.map PS.sh)) : runF X_impl_Cluster_votesFault Tryz.f143 K_impl_Cluster_votesFault t = K_impl_Cluster_votesFault.F t := by kernel_rfl
theorem e_spec_l12Fault (t : TupI (K_spec_l12Fault.ins.map PS.sh)) : runF X_spec_l12Fault Tryz.f65 K_spec_l12Fault t = K_spec_l12Fault.F t := by kernel_rfl
theorem e_spec_l12Bad (t : TupI (K_spec_l12Bad.ins.map PS.sh)) : runF X_spec_l12Bad Tryz.f132 K_spec_l12Bad t = K_spec_l12Bad.F t := by kernel_rfl
theorem e_impl_nodeFault (t : TupI (K_impl_nodeFault.ins.map PS.sh)) : runF X_impl_nodeFault Tryz.f174 K_impl_nodeFault t = K_impl_nodeFault.F t := by kernel_rfl
theorem e_laws_eqVoteS (t : TupI (K_laws_eqVoteS.ins.map PS.sh)) : runF X_laws_eqVoteS Tryz.f79 K_laws_eqVoteS t = K_laws_eqVoteS.F t := by kernel_rfl
theorem e_impl_VoteFault (t : TupI (K_impl_VoteFault.ins.map PS.sh)) : runF X_impl_VoteFault Tryz.f119 K_impl_VoteFault t = K_impl_VoteFault.F t := by kernel_rfl
theorem e_impl_ClusterFault (t : TupI (K_impl_ClusterFault.ins.map PS.sh)) : runF X_impl_ClusterFault Tryz.f73 K_impl_ClusterFault t = K_impl_ClusterFault.F t := by kernel_rfl
theorem e_laws_eqInt64SS (t : TupI (K_laws_eqInt64SS.ins.map PS.sh)) : runF X_laws_eqInt64SS Tryz.f80 K_laws_eqInt64SS t = K_laws_eqInt64SS.F t := by kernel_rfl
theorem e_laws_toVote (t : TupI (K_laws_toVote.ins.map PS.sh)) : runF X_laws_toVote Tryz.f52 K_laws_toVote t = K_laws_toVote.F t := by kernel_rfl
theorem e_laws_markVoteS (t : TupI (K_laws_markVoteS.ins.map PS.sh)) : runF X_laws_markVoteS Tryz.f95 K_laws_markVoteS t = K_laws_markVoteS.F t := by kernel_rfl
theorem e_laws_markNodeS (t : TupI (K_laws_markNodeS.ins.map PS.sh)) : runF X_laws_markNodeS Tryz.f93 K_laws_markNodeS t = K_laws_markNodeS.F t := by kernel_rfl
theorem e_impl_isRef (t : TupI (K_impl_isRef.ins.map PS.sh)) : runF X_impl_isRef Tryz.f180 K_impl_isRef t = K_impl_isRef.F t := by kernel_rfl
theorem e_laws_markVoterS (t : TupI (K_laws_markVoterS.ins.map PS.sh)) : runF X_laws_markVoterS Tryz.f94 K_laws_markVoterS t = K_laws_markVoterS.F t := by kernel_rfl
theorem e_laws_toChoiceS (t : TupI (K_laws_toChoiceS.ins.map PS.sh)) : runF X_laws_toChoiceS Tryz.f190 K_laws_toChoiceS t = K_laws_toChoiceS.F t := by kernel_rfl
theorem e_laws_toNode (t : TupI (K_laws_toNode.ins.map PS.sh)) : runF X_laws_toNode Tryz.f49 K_laws_toNode t = K_laws_toNode.F t := by kernel_rfl
theorem e_impl_goodKeys (t : TupI (K_impl_goodKeys.ins.map PS.sh)) : runF X_impl_goodKeys Tryz.f193 K_impl_goodKeys t = K_impl_goodKeys.F t := by kernel_rfl
theorem e_spec_l11Tx (t : TupI (K_spec_l11Tx.ins.map PS.sh)) : runF X_spec_l11Tx Tryz.f176 K_spec_l11Tx t = K_spec_l11Tx.F t := by kernel_rfl
theorem e_laws_toInt64SS (t : TupI (K_laws_toInt64SS.ins.map PS.sh)) : runF X_laws_toInt64SS Tryz.f72 K_laws_toInt64SS t = K_laws_toInt64SS.F t := by kernel_rfl
theorem e_laws_eqVote (t : TupI (K_laws_eqVote.ins.map PS.sh)) : runF X_laws_eqVote Tryz.f148 K_laws_eqVote t = K_laws_eqVote.F t := by kernel_rfl
theorem e_impl_Voter_chosen (t : TupI (K_impl_Voter_chosen.ins.map PS.sh)) : runF X_impl_Voter_chosen Tryz.f186 K_impl_Voter_chosen t = K_impl_Voter_chosen.F t := by kernel_rfl
theorem e_spec_l3Ref (t : TupI (K_spec_l3Ref.ins.map PS.sh)) : runF X_spec_l3Ref Tryz.f177 K_spec_l3Ref t = K_spec_l3Ref.F t := by kernel_rfl
theorem e_laws_eqNode (t : TupI (K_laws_eqNode.ins.map PS.sh)) : runF X_laws_eqNode Tryz.f146 K_laws_eqNode t = K_laws_eqNode.F t := by kernel_rfl
theorem e_spec_l12At (t : TupI (K_spec_l12At.ins.map PS.sh)) : runF X_spec_l12At Tryz.f121 K_spec_l12At t = K_spec_l12At.F t := by kernel_rfl
theorem e_slices_IndexFunc_Limpl_Node_impl_Node (t : TupI (K_slices_IndexFunc_Limpl_Node_impl_Node.ins.map PS.sh)) : runF X_slices_IndexFunc_Limpl_Node_impl_Node Tryz.f217 K_slices_IndexFunc_Limpl_Node_impl_Node t = K_slices_IndexFunc_Limpl_Node_impl_Node.F t := by kernel_rfl
theorem e_slices_IndexFunc_Limpl_Voter_impl_Voter (t : TupI (K_slices_IndexFunc_Limpl_Voter_impl_Voter.ins.map PS.sh)) : runF X_slices_IndexFunc_Limpl_Voter_impl_Voter Tryz.f206 K_slices_IndexFunc_Limpl_Voter_impl_Voter t = K_slices_IndexFunc_Limpl_Voter_impl_Voter.F t := by kernel_rfl
theorem e_laws_markQuorum (t : TupI (K_laws_markQuorum.ins.map PS.sh)) : runF X_laws_markQuorum Tryz.f91 K_laws_markQuorum t = K_laws_markQuorum.F t := by kernel_rfl
theorem e_slices_Contains_Lint64_int64 (t : TupI (K_slices_Contains_Lint64_int64.ins.map PS.sh)) : runF X_slices_Contains_Lint64_int64 Tryz.f90 K_slices_Contains_Lint64_int64 t = K_slices_Contains_Lint64_int64.F t := by kernel_rfl
theorem e_impl_Cluster_findVoter_c1 (t : TupI (K_impl_Cluster_findVoter_c1.ins.map PS.sh)) : runF X_impl_Cluster_findVoter_c1 Tryz.f207 K_impl_Cluster_findVoter_c1 t = K_impl_Cluster_findVoter_c1.F t := by kernel_rfl
theorem e_impl_isKey (t : TupI (K_impl_isKey.ins.map PS.sh)) : runF X_impl_isKey Tryz.f181 K_impl_isKey t = K_impl_isKey.F t := by kernel_rfl
end CL
end Go.Dx
