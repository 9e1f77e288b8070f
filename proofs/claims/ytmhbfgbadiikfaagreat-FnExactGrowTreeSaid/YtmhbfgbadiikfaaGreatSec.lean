/- The executor finds what each function computes: by computation -/
import Derived.Test.YtmhbfgbadiikfaaGreatSca
set_option linter.unusedVariables false
set_option linter.unusedSimpArgs false
set_option maxRecDepth 100000
set_option maxHeartbeats 0
namespace Go.Dx
open Go.Proofs
namespace CL

theorem e_spec_l12Heard (t : TupI (K_spec_l12Heard.ins.map PS.sh)) : runF X_spec_l12Heard Tryz.f136 K_spec_l12Heard t = K_spec_l12Heard.F t := by kernel_rfl
theorem e_spec_l12Voters (t : TupI (K_spec_l12Voters.ins.map PS.sh)) : runF X_spec_l12Voters Tryz.f134 K_spec_l12Voters t = K_spec_l12Voters.F t := by kernel_rfl
theorem e_impl_Cluster_votersFault (t : TupI (K_impl_Cluster_votersFault.ins.map PS.sh)) : runF X_impl_Cluster_votersFault Tryz.f142 K_impl_Cluster_votersFault t = K_impl_Cluster_votersFault.F t := by kernel_rfl
theorem e_spec_l12Copy (t : TupI (K_spec_l12Copy.ins.map PS.sh)) : runF X_spec_l12Copy Tryz.f111 K_spec_l12Copy t = K_spec_l12Copy.F t := by kernel_rfl
theorem e_impl_nodeFault (t : TupI (K_impl_nodeFault.ins.map PS.sh)) : runF X_impl_nodeFault Tryz.f174 K_impl_nodeFault t = K_impl_nodeFault.F t := by kernel_rfl
theorem e_laws_eqChoiceS (t : TupI (K_laws_eqChoiceS.ins.map PS.sh)) : runF X_laws_eqChoiceS Tryz.f103 K_laws_eqChoiceS t = K_laws_eqChoiceS.F t := by kernel_rfl
theorem e_laws_szNodeS (t : TupI (K_laws_szNodeS.ins.map PS.sh)) : runF X_laws_szNodeS Tryz.f61 K_laws_szNodeS t = K_laws_szNodeS.F t := by kernel_rfl
theorem e_spec_l9Node (t : TupI (K_spec_l9Node.ins.map PS.sh)) : runF X_spec_l9Node Tryz.f173 K_spec_l9Node t = K_spec_l9Node.F t := by kernel_rfl
theorem e_laws_szChoiceS (t : TupI (K_laws_szChoiceS.ins.map PS.sh)) : runF X_laws_szChoiceS Tryz.f187 K_laws_szChoiceS t = K_laws_szChoiceS.F t := by kernel_rfl
theorem e_laws_toVote (t : TupI (K_laws_toVote.ins.map PS.sh)) : runF X_laws_toVote Tryz.f52 K_laws_toVote t = K_laws_toVote.F t := by kernel_rfl
theorem e_impl_areKeys (t : TupI (K_impl_areKeys.ins.map PS.sh)) : runF X_impl_areKeys Tryz.f191 K_impl_areKeys t = K_impl_areKeys.F t := by kernel_rfl
theorem e_impl_within (t : TupI (K_impl_within.ins.map PS.sh)) : runF X_impl_within Tryz.f112 K_impl_within t = K_impl_within.F t := by kernel_rfl
theorem e_laws_markNodeS (t : TupI (K_laws_markNodeS.ins.map PS.sh)) : runF X_laws_markNodeS Tryz.f93 K_laws_markNodeS t = K_laws_markNodeS.F t := by kernel_rfl
theorem e_impl_VoterFault_c1 (t : TupI (K_impl_VoterFault_c1.ins.map PS.sh)) : runF X_impl_VoterFault_c1 Tryz.f209 K_impl_VoterFault_c1 t = K_impl_VoterFault_c1.F t := by kernel_rfl
theorem e_laws_toVoterS (t : TupI (K_laws_toVoterS.ins.map PS.sh)) : runF X_laws_toVoterS Tryz.f70 K_laws_toVoterS t = K_laws_toVoterS.F t := by kernel_rfl
theorem e_spec_GrowTree (t : TupI (K_spec_GrowTree.ins.map PS.sh)) : runF X_spec_GrowTree Tryz.f48 K_spec_GrowTree t = K_spec_GrowTree.F t := by kernel_rfl
theorem e_slices_Clone_Lint64_int64 (t : TupI (K_slices_Clone_Lint64_int64.ins.map PS.sh)) : runF X_slices_Clone_Lint64_int64 Tryz.f164 K_slices_Clone_Lint64_int64 t = K_slices_Clone_Lint64_int64.F t := by kernel_rfl
theorem e_laws_eqClusterResult (t : TupI (K_laws_eqClusterResult.ins.map PS.sh)) : runF X_laws_eqClusterResult Tryz.f45 K_laws_eqClusterResult t = K_laws_eqClusterResult.F t := by kernel_rfl
theorem e_laws_markCluster (t : TupI (K_laws_markCluster.ins.map PS.sh)) : runF X_laws_markCluster Tryz.f28 K_laws_markCluster t = K_laws_markCluster.F t := by kernel_rfl
theorem e_spec_l11Tx (t : TupI (K_spec_l11Tx.ins.map PS.sh)) : runF X_spec_l11Tx Tryz.f176 K_spec_l11Tx t = K_spec_l11Tx.F t := by kernel_rfl
theorem e_laws_toInt64SS (t : TupI (K_laws_toInt64SS.ins.map PS.sh)) : runF X_laws_toInt64SS Tryz.f72 K_laws_toInt64SS t = K_laws_toInt64SS.F t := by kernel_rfl
theorem e_laws_eqVote (t : TupI (K_laws_eqVote.ins.map PS.sh)) : runF X_laws_eqVote Tryz.f148 K_laws_eqVote t = K_laws_eqVote.F t := by kernel_rfl
theorem e_impl_Voter_chosen (t : TupI (K_impl_Voter_chosen.ins.map PS.sh)) : runF X_impl_Voter_chosen Tryz.f186 K_impl_Voter_chosen t = K_impl_Voter_chosen.F t := by kernel_rfl
theorem e_laws_heldInt64S (t : TupI (K_laws_heldInt64S.ins.map PS.sh)) : runF X_laws_heldInt64S Tryz.f97 K_laws_heldInt64S t = K_laws_heldInt64S.F t := by kernel_rfl
theorem e_laws_eqNode (t : TupI (K_laws_eqNode.ins.map PS.sh)) : runF X_laws_eqNode Tryz.f146 K_laws_eqNode t = K_laws_eqNode.F t := by kernel_rfl
theorem e_spec_l12At (t : TupI (K_spec_l12At.ins.map PS.sh)) : runF X_spec_l12At Tryz.f121 K_spec_l12At t = K_spec_l12At.F t := by kernel_rfl
theorem e_slices_IndexFunc_Limpl_Node_impl_Node (t : TupI (K_slices_IndexFunc_Limpl_Node_impl_Node.ins.map PS.sh)) : runF X_slices_IndexFunc_Limpl_Node_impl_Node Tryz.f217 K_slices_IndexFunc_Limpl_Node_impl_Node t = K_slices_IndexFunc_Limpl_Node_impl_Node.F t := by kernel_rfl
theorem e_slices_IndexFunc_Limpl_Voter_impl_Voter (t : TupI (K_slices_IndexFunc_Limpl_Voter_impl_Voter.ins.map PS.sh)) : runF X_slices_IndexFunc_Limpl_Voter_impl_Voter Tryz.f206 K_slices_IndexFunc_Limpl_Voter_impl_Voter t = K_slices_IndexFunc_Limpl_Voter_impl_Voter.F t := by kernel_rfl
theorem e_laws_markQuorum (t : TupI (K_laws_markQuorum.ins.map PS.sh)) : runF X_laws_markQuorum Tryz.f91 K_laws_markQuorum t = K_laws_markQuorum.F t := by kernel_rfl
theorem e_slices_Contains_Lint64_int64 (t : TupI (K_slices_Contains_Lint64_int64.ins.map PS.sh)) : runF X_slices_Contains_Lint64_int64 Tryz.f90 K_slices_Contains_Lint64_int64 t = K_slices_Contains_Lint64_int64.F t := by kernel_rfl
theorem e_laws_eqRef (t : TupI (K_laws_eqRef.ins.map PS.sh)) : runF X_laws_eqRef Tryz.f199 K_laws_eqRef t = K_laws_eqRef.F t := by kernel_rfl
theorem e_impl_goodKeys_c1 (t : TupI (K_impl_goodKeys_c1.ins.map PS.sh)) : runF X_impl_goodKeys_c1 Tryz.f214 K_impl_goodKeys_c1 t = K_impl_goodKeys_c1.F t := by kernel_rfl
theorem e_spec_l12Err (t : TupI (K_spec_l12Err.ins.map PS.sh)) : runF X_spec_l12Err Tryz.f110 K_spec_l12Err t = K_spec_l12Err.F t := by kernel_rfl
end CL
end Go.Dx
