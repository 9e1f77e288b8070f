/- The executor finds what each function computes: by computation -/
import Derived.Test.YtmhbfgbadiikfaaGreatSca
set_option linter.unusedVariables false
set_option linter.unusedSimpArgs false
set_option maxRecDepth 100000
set_option maxHeartbeats 0
namespace Go.Dx
open Go.Proofs
namespace CL

theorem e_impl_ownCluster (t : TupI (K_impl_ownCluster.ins.map PS.sh)) : runF X_impl_ownCluster Tryz.f113 K_impl_ownCluster t = K_impl_ownCluster.F t := by kernel_rfl
theorem e_spec_l12Voters (t : TupI (K_spec_l12Voters.ins.map PS.sh)) : runF X_spec_l12Voters Tryz.f134 K_spec_l12Voters t = K_spec_l12Voters.F t := by kernel_rfl
theorem e_spec_HearAt (t : TupI (K_spec_HearAt.ins.map PS.sh)) : runF X_spec_HearAt Tryz.f43 K_spec_HearAt t = K_spec_HearAt.F t := by kernel_rfl
theorem e_laws_eqChoiceS (t : TupI (K_laws_eqChoiceS.ins.map PS.sh)) : runF X_laws_eqChoiceS Tryz.f103 K_laws_eqChoiceS t = K_laws_eqChoiceS.F t := by kernel_rfl
theorem e_laws_eqNodeS (t : TupI (K_laws_eqNodeS.ins.map PS.sh)) : runF X_laws_eqNodeS Tryz.f77 K_laws_eqNodeS t = K_laws_eqNodeS.F t := by kernel_rfl
theorem e_impl_Voter_chosen (t : TupI (K_impl_Voter_chosen.ins.map PS.sh)) : runF X_impl_Voter_chosen Tryz.f186 K_impl_Voter_chosen t = K_impl_Voter_chosen.F t := by kernel_rfl
theorem e_impl_VoteFault (t : TupI (K_impl_VoteFault.ins.map PS.sh)) : runF X_impl_VoteFault Tryz.f119 K_impl_VoteFault t = K_impl_VoteFault.F t := by kernel_rfl
theorem e_spec_l11At (t : TupI (K_spec_l11At.ins.map PS.sh)) : runF X_spec_l11At Tryz.f208 K_spec_l11At t = K_spec_l11At.F t := by kernel_rfl
theorem e_impl_VoterFault (t : TupI (K_impl_VoterFault.ins.map PS.sh)) : runF X_impl_VoterFault Tryz.f185 K_impl_VoterFault t = K_impl_VoterFault.F t := by kernel_rfl
theorem e_laws_markCluster (t : TupI (K_laws_markCluster.ins.map PS.sh)) : runF X_laws_markCluster Tryz.f28 K_laws_markCluster t = K_laws_markCluster.F t := by kernel_rfl
theorem e_slices_Clone_Limpl_Node_impl_Node (t : TupI (K_slices_Clone_Limpl_Node_impl_Node.ins.map PS.sh)) : runF X_slices_Clone_Limpl_Node_impl_Node Tryz.f165 K_slices_Clone_Limpl_Node_impl_Node t = K_slices_Clone_Limpl_Node_impl_Node.F t := by kernel_rfl
theorem e_laws_heldVoterS (t : TupI (K_laws_heldVoterS.ins.map PS.sh)) : runF X_laws_heldVoterS Tryz.f170 K_laws_heldVoterS t = K_laws_heldVoterS.F t := by kernel_rfl
theorem e_spec_l12Good (t : TupI (K_spec_l12Good.ins.map PS.sh)) : runF X_spec_l12Good Tryz.f188 K_spec_l12Good t = K_spec_l12Good.F t := by kernel_rfl
theorem e_laws_heldCluster (t : TupI (K_laws_heldCluster.ins.map PS.sh)) : runF X_laws_heldCluster Tryz.f114 K_laws_heldCluster t = K_laws_heldCluster.F t := by kernel_rfl
theorem e_spec_l4Among (t : TupI (K_spec_l4Among.ins.map PS.sh)) : runF X_spec_l4Among Tryz.f89 K_spec_l4Among t = K_spec_l4Among.F t := by kernel_rfl
theorem e_impl_areKeys (t : TupI (K_impl_areKeys.ins.map PS.sh)) : runF X_impl_areKeys Tryz.f191 K_impl_areKeys t = K_impl_areKeys.F t := by kernel_rfl
theorem e_impl_findNode_c1 (t : TupI (K_impl_findNode_c1.ins.map PS.sh)) : runF X_impl_findNode_c1 Tryz.f218 K_impl_findNode_c1 t = K_impl_findNode_c1.F t := by kernel_rfl
theorem e_laws_toVoter (t : TupI (K_laws_toVoter.ins.map PS.sh)) : runF X_laws_toVoter Tryz.f138 K_laws_toVoter t = K_laws_toVoter.F t := by kernel_rfl
theorem e_laws_markNodeS (t : TupI (K_laws_markNodeS.ins.map PS.sh)) : runF X_laws_markNodeS Tryz.f93 K_laws_markNodeS t = K_laws_markNodeS.F t := by kernel_rfl
theorem e_laws_szVoter (t : TupI (K_laws_szVoter.ins.map PS.sh)) : runF X_laws_szVoter Tryz.f130 K_laws_szVoter t = K_laws_szVoter.F t := by kernel_rfl
theorem e_slices_EqualFunc_Limpl_Voter_Lint64_impl_Voter_int64 (t : TupI (K_slices_EqualFunc_Limpl_Voter_Lint64_impl_Voter_int64.ins.map PS.sh)) : runF X_slices_EqualFunc_Limpl_Voter_Lint64_impl_Voter_int64 Tryz.f194 K_slices_EqualFunc_Limpl_Voter_Lint64_impl_Voter_int64 t = K_slices_EqualFunc_Limpl_Voter_Lint64_impl_Voter_int64.F t := by kernel_rfl
theorem e_impl_Cluster_heardFault_c1 (t : TupI (K_impl_Cluster_heardFault_c1.ins.map PS.sh)) : runF X_impl_Cluster_heardFault_c1 Tryz.f197 K_impl_Cluster_heardFault_c1 t = K_impl_Cluster_heardFault_c1.F t := by kernel_rfl
theorem e_laws_toChoiceS (t : TupI (K_laws_toChoiceS.ins.map PS.sh)) : runF X_laws_toChoiceS Tryz.f190 K_laws_toChoiceS t = K_laws_toChoiceS.F t := by kernel_rfl
theorem e_laws_szChoiceS (t : TupI (K_laws_szChoiceS.ins.map PS.sh)) : runF X_laws_szChoiceS Tryz.f187 K_laws_szChoiceS t = K_laws_szChoiceS.F t := by kernel_rfl
theorem e_laws_eqVote (t : TupI (K_laws_eqVote.ins.map PS.sh)) : runF X_laws_eqVote Tryz.f148 K_laws_eqVote t = K_laws_eqVote.F t := by kernel_rfl
theorem e_impl_badFault (t : TupI (K_impl_badFault.ins.map PS.sh)) : runF X_impl_badFault Tryz.f140 K_impl_badFault t = K_impl_badFault.F t := by kernel_rfl
theorem e_laws_eqRef (t : TupI (K_laws_eqRef.ins.map PS.sh)) : runF X_laws_eqRef Tryz.f199 K_laws_eqRef t = K_laws_eqRef.F t := by kernel_rfl
theorem e_slices_Index_Lint64_int64 (t : TupI (K_slices_Index_Lint64_int64.ins.map PS.sh)) : runF X_slices_Index_Lint64_int64 Tryz.f154 K_slices_Index_Lint64_int64 t = K_slices_Index_Lint64_int64.F t := by kernel_rfl
theorem e_slices_IndexFunc_Lint64_int64 (t : TupI (K_slices_IndexFunc_Lint64_int64.ins.map PS.sh)) : runF X_slices_IndexFunc_Lint64_int64 Tryz.f150 K_slices_IndexFunc_Lint64_int64 t = K_slices_IndexFunc_Lint64_int64.F t := by kernel_rfl
theorem e_laws_szQuorum (t : TupI (K_laws_szQuorum.ins.map PS.sh)) : runF X_laws_szQuorum Tryz.f59 K_laws_szQuorum t = K_laws_szQuorum.F t := by kernel_rfl
theorem e_impl_within (t : TupI (K_impl_within.ins.map PS.sh)) : runF X_impl_within Tryz.f112 K_impl_within t = K_impl_within.F t := by kernel_rfl
theorem e_spec_l11Tx (t : TupI (K_spec_l11Tx.ins.map PS.sh)) : runF X_spec_l11Tx Tryz.f176 K_spec_l11Tx t = K_spec_l11Tx.F t := by kernel_rfl
theorem e_slices_Contains_Lint64_int64 (t : TupI (K_slices_Contains_Lint64_int64.ins.map PS.sh)) : runF X_slices_Contains_Lint64_int64 Tryz.f90 K_slices_Contains_Lint64_int64 t = K_slices_Contains_Lint64_int64.F t := by kernel_rfl
end CL
end Go.Dx
