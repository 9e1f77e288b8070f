/- The executor finds what each function computes: by computation -/
import Derived.Test.YtmhbfgbadiikfaaGreatSca
set_option linter.unusedVariables false
set_option linter.unusedSimpArgs false
set_option maxRecDepth 100000
set_option maxHeartbeats 0
namespace Go.Dx
open Go.Proofs
namespace CL

theorem e_spec_l12Heard (t : TupI (K_spec_l12Heard.ins.map PS.sh)) : runF X_spec_l12Heard Tryz.f136 K_spec_l12Heard t = K_spec_l12Heard.F t := by kernel_rfl
theorem e_spec_l12Voters (t : TupI (K_spec_l12Voters.ins.map PS.sh)) : runF X_spec_l12Voters Tryz.f134 K_spec_l12Voters t = K_spec_l12Voters.F t := by kernel_rfl
theorem e_spec_l12Fault (t : TupI (K_spec_l12Fault.ins.map PS.sh)) : runF X_spec_l12Fault Tryz.f65 K_spec_l12Fault t = K_spec_l12Fault.F t := by kernel_rfl
theorem e_spec_ChooseAt (t : TupI (K_spec_ChooseAt.ins.map PS.sh)) : runF X_spec_ChooseAt Tryz.f56 K_spec_ChooseAt t = K_spec_ChooseAt.F t := by kernel_rfl
theorem e_spec_l9Fault (t : TupI (K_spec_l9Fault.ins.map PS.sh)) : runF X_spec_l9Fault Tryz.f133 K_spec_l9Fault t = K_spec_l9Fault.F t := by kernel_rfl
theorem e_slices_Index_Limpl_Vote_impl_Vote (t : TupI (K_slices_Index_Limpl_Vote_impl_Vote.ins.map PS.sh)) : runF X_slices_Index_Limpl_Vote_impl_Vote Tryz.f204 K_slices_Index_Limpl_Vote_impl_Vote t = K_slices_Index_Limpl_Vote_impl_Vote.F t := by kernel_rfl
theorem e_laws_eqNodeS (t : TupI (K_laws_eqNodeS.ins.map PS.sh)) : runF X_laws_eqNodeS Tryz.f77 K_laws_eqNodeS t = K_laws_eqNodeS.F t := by kernel_rfl
theorem e_laws_szInt64S (t : TupI (K_laws_szInt64S.ins.map PS.sh)) : runF X_laws_szInt64S Tryz.f60 K_laws_szInt64S t = K_laws_szInt64S.F t := by kernel_rfl
theorem e_laws_toVoteS (t : TupI (K_laws_toVoteS.ins.map PS.sh)) : runF X_laws_toVoteS Tryz.f71 K_laws_toVoteS t = K_laws_toVoteS.F t := by kernel_rfl
theorem e_laws_eqInt64SS (t : TupI (K_laws_eqInt64SS.ins.map PS.sh)) : runF X_laws_eqInt64SS Tryz.f80 K_laws_eqInt64SS t = K_laws_eqInt64SS.F t := by kernel_rfl
theorem e_laws_toVote (t : TupI (K_laws_toVote.ins.map PS.sh)) : runF X_laws_toVote Tryz.f52 K_laws_toVote t = K_laws_toVote.F t := by kernel_rfl
theorem e_spec_l11Choose (t : TupI (K_spec_l11Choose.ins.map PS.sh)) : runF X_spec_l11Choose Tryz.f184 K_spec_l11Choose t = K_spec_l11Choose.F t := by kernel_rfl
theorem e_slices_ContainsFunc_Limpl_Choice_impl_Choice (t : TupI (K_slices_ContainsFunc_Limpl_Choice_impl_Choice.ins.map PS.sh)) : runF X_slices_ContainsFunc_Limpl_Choice_impl_Choice Tryz.f87 K_slices_ContainsFunc_Limpl_Choice_impl_Choice t = K_slices_ContainsFunc_Limpl_Choice_impl_Choice.F t := by kernel_rfl
theorem e_impl_isRef (t : TupI (K_impl_isRef.ins.map PS.sh)) : runF X_impl_isRef Tryz.f180 K_impl_isRef t = K_impl_isRef.F t := by kernel_rfl
theorem e_impl_Voter_chosen_c1 (t : TupI (K_impl_Voter_chosen_c1.ins.map PS.sh)) : runF X_impl_Voter_chosen_c1 Tryz.f210 K_impl_Voter_chosen_c1 t = K_impl_Voter_chosen_c1.F t := by kernel_rfl
theorem e_laws_toVoterS (t : TupI (K_laws_toVoterS.ins.map PS.sh)) : runF X_laws_toVoterS Tryz.f70 K_laws_toVoterS t = K_laws_toVoterS.F t := by kernel_rfl
theorem e_laws_toNode (t : TupI (K_laws_toNode.ins.map PS.sh)) : runF X_laws_toNode Tryz.f49 K_laws_toNode t = K_laws_toNode.F t := by kernel_rfl
theorem e_laws_heldCluster (t : TupI (K_laws_heldCluster.ins.map PS.sh)) : runF X_laws_heldCluster Tryz.f114 K_laws_heldCluster t = K_laws_heldCluster.F t := by kernel_rfl
theorem e_laws_eqCluster (t : TupI (K_laws_eqCluster.ins.map PS.sh)) : runF X_laws_eqCluster Tryz.f20 K_laws_eqCluster t = K_laws_eqCluster.F t := by kernel_rfl
theorem e_laws_markInt64SS (t : TupI (K_laws_markInt64SS.ins.map PS.sh)) : runF X_laws_markInt64SS Tryz.f96 K_laws_markInt64SS t = K_laws_markInt64SS.F t := by kernel_rfl
theorem e_spec_l12Good (t : TupI (K_spec_l12Good.ins.map PS.sh)) : runF X_spec_l12Good Tryz.f188 K_spec_l12Good t = K_spec_l12Good.F t := by kernel_rfl
theorem e_impl_pathTo (t : TupI (K_impl_pathTo.ins.map PS.sh)) : runF X_impl_pathTo Tryz.f200 K_impl_pathTo t = K_impl_pathTo.F t := by kernel_rfl
theorem e_laws_toInt64S (t : TupI (K_laws_toInt64S.ins.map PS.sh)) : runF X_laws_toInt64S Tryz.f68 K_laws_toInt64S t = K_laws_toInt64S.F t := by kernel_rfl
theorem e_laws_toNodeS (t : TupI (K_laws_toNodeS.ins.map PS.sh)) : runF X_laws_toNodeS Tryz.f69 K_laws_toNodeS t = K_laws_toNodeS.F t := by kernel_rfl
theorem e_spec_l3Ref (t : TupI (K_spec_l3Ref.ins.map PS.sh)) : runF X_spec_l3Ref Tryz.f177 K_spec_l3Ref t = K_spec_l3Ref.F t := by kernel_rfl
theorem e_laws_eqChoice (t : TupI (K_laws_eqChoice.ins.map PS.sh)) : runF X_laws_eqChoice Tryz.f162 K_laws_eqChoice t = K_laws_eqChoice.F t := by kernel_rfl
theorem e_laws_toRef (t : TupI (K_laws_toRef.ins.map PS.sh)) : runF X_laws_toRef Tryz.f57 K_laws_toRef t = K_laws_toRef.F t := by kernel_rfl
theorem e_slices_IndexFunc_Limpl_Node_impl_Node (t : TupI (K_slices_IndexFunc_Limpl_Node_impl_Node.ins.map PS.sh)) : runF X_slices_IndexFunc_Limpl_Node_impl_Node Tryz.f217 K_slices_IndexFunc_Limpl_Node_impl_Node t = K_slices_IndexFunc_Limpl_Node_impl_Node.F t := by kernel_rfl
theorem e_slices_IndexFunc_Limpl_Voter_impl_Voter (t : TupI (K_slices_IndexFunc_Limpl_Voter_impl_Voter.ins.map PS.sh)) : runF X_slices_IndexFunc_Limpl_Voter_impl_Voter Tryz.f206 K_slices_IndexFunc_Limpl_Voter_impl_Voter t = K_slices_IndexFunc_Limpl_Voter_impl_Voter.F t := by kernel_rfl
theorem e_laws_markQuorum (t : TupI (K_laws_markQuorum.ins.map PS.sh)) : runF X_laws_markQuorum Tryz.f91 K_laws_markQuorum t = K_laws_markQuorum.F t := by kernel_rfl
theorem e_slices_Contains_Lint64_int64 (t : TupI (K_slices_Contains_Lint64_int64.ins.map PS.sh)) : runF X_slices_Contains_Lint64_int64 Tryz.f90 K_slices_Contains_Lint64_int64 t = K_slices_Contains_Lint64_int64.F t := by kernel_rfl
theorem e_laws_eqRef (t : TupI (K_laws_eqRef.ins.map PS.sh)) : runF X_laws_eqRef Tryz.f199 K_laws_eqRef t = K_laws_eqRef.F t := by kernel_rfl
theorem e_impl_goodKeys_c1 (t : TupI (K_impl_goodKeys_c1.ins.map PS.sh)) : runF X_impl_goodKeys_c1 Tryz.f214 K_impl_goodKeys_c1 t = K_impl_goodKeys_c1.F t := by kernel_rfl
theorem e_impl_ownVoter (t : TupI (K_impl_ownVoter.ins.map PS.sh)) : runF X_impl_ownVoter Tryz.f167 K_impl_ownVoter t = K_impl_ownVoter.F t := by kernel_rfl
theorem e_impl_isKey (t : TupI (K_impl_isKey.ins.map PS.sh)) : runF X_impl_isKey Tryz.f181 K_impl_isKey t = K_impl_isKey.F t := by kernel_rfl
end CL
end Go.Dx
