/- The executor finds what each function computes: by computation -/
import Derived.Test.YtmhbfgbadiikfaaGreatSca
set_option linter.unusedVariables false
set_option linter.unusedSimpArgs false
set_option maxRecDepth 100000
set_option maxHeartbeats 0
namespace Go.Dx
open Go.Proofs
namespace CL

theorem e_spec_l12Heard (t : TupI (K_spec_l12Heard.ins.map PS.sh)) : runF X_spec_l12Heard Tryz.f136 K_spec_l12Heard t = K_spec_l12Heard.F t := by kernel_rfl
theorem e_spec_l9Fits (t : TupI (K_spec_l9Fits.ins.map PS.sh)) : runF X_spec_l9Fits Tryz.f201 K_spec_l9Fits t = K_spec_l9Fits.F t := by kernel_rfl
theorem e_spec_l12Locks (t : TupI (K_spec_l12Locks.ins.map PS.sh)) : runF X_spec_l12Locks Tryz.f107 K_spec_l12Locks t = K_spec_l12Locks.F t := by kernel_rfl
theorem e_spec_l11Count (t : TupI (K_spec_l11Count.ins.map PS.sh)) : runF X_spec_l11Count Tryz.f152 K_spec_l11Count t = K_spec_l11Count.F t := by kernel_rfl
theorem e_impl_isRising (t : TupI (K_impl_isRising.ins.map PS.sh)) : runF X_impl_isRising Tryz.f192 K_impl_isRising t = K_impl_isRising.F t := by kernel_rfl
theorem e_laws_eqChoiceS (t : TupI (K_laws_eqChoiceS.ins.map PS.sh)) : runF X_laws_eqChoiceS Tryz.f103 K_laws_eqChoiceS t = K_laws_eqChoiceS.F t := by kernel_rfl
theorem e_laws_eqVoteS (t : TupI (K_laws_eqVoteS.ins.map PS.sh)) : runF X_laws_eqVoteS Tryz.f79 K_laws_eqVoteS t = K_laws_eqVoteS.F t := by kernel_rfl
theorem e_laws_toVoteS (t : TupI (K_laws_toVoteS.ins.map PS.sh)) : runF X_laws_toVoteS Tryz.f71 K_laws_toVoteS t = K_laws_toVoteS.F t := by kernel_rfl
theorem e_laws_szChoiceS (t : TupI (K_laws_szChoiceS.ins.map PS.sh)) : runF X_laws_szChoiceS Tryz.f187 K_laws_szChoiceS t = K_laws_szChoiceS.F t := by kernel_rfl
theorem e_laws_eqInt64SS (t : TupI (K_laws_eqInt64SS.ins.map PS.sh)) : runF X_laws_eqInt64SS Tryz.f80 K_laws_eqInt64SS t = K_laws_eqInt64SS.F t := by kernel_rfl
theorem e_spec_l9Above (t : TupI (K_spec_l9Above.ins.map PS.sh)) : runF X_spec_l9Above Tryz.f149 K_spec_l9Above t = K_spec_l9Above.F t := by kernel_rfl
theorem e_impl_TreeFault (t : TupI (K_impl_TreeFault.ins.map PS.sh)) : runF X_impl_TreeFault Tryz.f141 K_impl_TreeFault t = K_impl_TreeFault.F t := by kernel_rfl
theorem e_impl_VoterFault_c1 (t : TupI (K_impl_VoterFault_c1.ins.map PS.sh)) : runF X_impl_VoterFault_c1 Tryz.f209 K_impl_VoterFault_c1 t = K_impl_VoterFault_c1.F t := by kernel_rfl
theorem e_slices_EqualFunc_Limpl_Voter_Lint64_impl_Voter_int64 (t : TupI (K_slices_EqualFunc_Limpl_Voter_Lint64_impl_Voter_int64.ins.map PS.sh)) : runF X_slices_EqualFunc_Limpl_Voter_Lint64_impl_Voter_int64 Tryz.f194 K_slices_EqualFunc_Limpl_Voter_Lint64_impl_Voter_int64 t = K_slices_EqualFunc_Limpl_Voter_Lint64_impl_Voter_int64.F t := by kernel_rfl
theorem e_impl_LocksAt (t : TupI (K_impl_LocksAt.ins.map PS.sh)) : runF X_impl_LocksAt Tryz.f42 K_impl_LocksAt t = K_impl_LocksAt.F t := by kernel_rfl
theorem e_laws_toNode (t : TupI (K_laws_toNode.ins.map PS.sh)) : runF X_laws_toNode Tryz.f49 K_laws_toNode t = K_laws_toNode.F t := by kernel_rfl
theorem e_impl_related (t : TupI (K_impl_related.ins.map PS.sh)) : runF X_impl_related Tryz.f85 K_impl_related t = K_impl_related.F t := by kernel_rfl
theorem e_laws_toVoter (t : TupI (K_laws_toVoter.ins.map PS.sh)) : runF X_laws_toVoter Tryz.f138 K_laws_toVoter t = K_laws_toVoter.F t := by kernel_rfl
theorem e_laws_toInt64SS (t : TupI (K_laws_toInt64SS.ins.map PS.sh)) : runF X_laws_toInt64SS Tryz.f72 K_laws_toInt64SS t = K_laws_toInt64SS.F t := by kernel_rfl
theorem e_laws_eqVote (t : TupI (K_laws_eqVote.ins.map PS.sh)) : runF X_laws_eqVote Tryz.f148 K_laws_eqVote t = K_laws_eqVote.F t := by kernel_rfl
theorem e_impl_Voter_chosen (t : TupI (K_impl_Voter_chosen.ins.map PS.sh)) : runF X_impl_Voter_chosen Tryz.f186 K_impl_Voter_chosen t = K_impl_Voter_chosen.F t := by kernel_rfl
theorem e_slices_IndexFunc_Limpl_Choice_impl_Choice (t : TupI (K_slices_IndexFunc_Limpl_Choice_impl_Choice.ins.map PS.sh)) : runF X_slices_IndexFunc_Limpl_Choice_impl_Choice Tryz.f153 K_slices_IndexFunc_Limpl_Choice_impl_Choice t = K_slices_IndexFunc_Limpl_Choice_impl_Choice.F t := by kernel_rfl
theorem e_laws_eqChoice (t : TupI (K_laws_eqChoice.ins.map PS.sh)) : runF X_laws_eqChoice Tryz.f162 K_laws_eqChoice t = K_laws_eqChoice.F t := by kernel_rfl
theorem e_laws_toRef (t : TupI (K_laws_toRef.ins.map PS.sh)) : runF X_laws_toRef Tryz.f57 K_laws_toRef t = K_laws_toRef.F t := by kernel_rfl
theorem e_slices_IndexFunc_Limpl_Node_impl_Node (t : TupI (K_slices_IndexFunc_Limpl_Node_impl_Node.ins.map PS.sh)) : runF X_slices_IndexFunc_Limpl_Node_impl_Node Tryz.f217 K_slices_IndexFunc_Limpl_Node_impl_Node t = K_slices_IndexFunc_Limpl_Node_impl_Node.F t := by kernel_rfl
theorem e_laws_toQuorum (t : TupI (K_laws_toQuorum.ins.map PS.sh)) : runF X_laws_toQuorum Tryz.f67 K_laws_toQuorum t = K_laws_toQuorum.F t := by kernel_rfl
theorem e_laws_eqQuorum (t : TupI (K_laws_eqQuorum.ins.map PS.sh)) : runF X_laws_eqQuorum Tryz.f75 K_laws_eqQuorum t = K_laws_eqQuorum.F t := by kernel_rfl
theorem e_slices_Contains_Lint64_int64 (t : TupI (K_slices_Contains_Lint64_int64.ins.map PS.sh)) : runF X_slices_Contains_Lint64_int64 Tryz.f90 K_slices_Contains_Lint64_int64 t = K_slices_Contains_Lint64_int64.F t := by kernel_rfl
theorem e_impl_Cluster_findVoter_c1 (t : TupI (K_impl_Cluster_findVoter_c1.ins.map PS.sh)) : runF X_impl_Cluster_findVoter_c1 Tryz.f207 K_impl_Cluster_findVoter_c1 t = K_impl_Cluster_findVoter_c1.F t := by kernel_rfl
theorem e_slices_ContainsFunc_Lint64_int64 (t : TupI (K_slices_ContainsFunc_Lint64_int64.ins.map PS.sh)) : runF X_slices_ContainsFunc_Lint64_int64 Tryz.f83 K_slices_ContainsFunc_Lint64_int64 t = K_slices_ContainsFunc_Lint64_int64.F t := by kernel_rfl
end CL
end Go.Dx
