/- The executor finds what each function computes: by computation -/
import Derived.Test.YtmhbfgbadiikfaaGreatSca
set_option linter.unusedVariables false
set_option linter.unusedSimpArgs false
set_option maxRecDepth 100000
set_option maxHeartbeats 0
namespace Go.Dx
open Go.Proofs
namespace CL

theorem e_spec_l12Heard (t : TupI (K_spec_l12Heard.ins.map PS.sh)) : runF X_spec_l12Heard Tryz.f136 K_spec_l12Heard t = K_spec_l12Heard.F t := by kernel_rfl
theorem e_impl_Cluster_isVoted (t : TupI (K_impl_Cluster_isVoted.ins.map PS.sh)) : runF X_impl_Cluster_isVoted Tryz.f196 K_impl_Cluster_isVoted t = K_impl_Cluster_isVoted.F t := by kernel_rfl
theorem e_spec_l11At (t : TupI (K_spec_l11At.ins.map PS.sh)) : runF X_spec_l11At Tryz.f208 K_spec_l11At t = K_spec_l11At.F t := by kernel_rfl
theorem e_spec_l9Fault (t : TupI (K_spec_l9Fault.ins.map PS.sh)) : runF X_spec_l9Fault Tryz.f133 K_spec_l9Fault t = K_spec_l9Fault.F t := by kernel_rfl
theorem e_slices_Index_Limpl_Vote_impl_Vote (t : TupI (K_slices_Index_Limpl_Vote_impl_Vote.ins.map PS.sh)) : runF X_slices_Index_Limpl_Vote_impl_Vote Tryz.f204 K_slices_Index_Limpl_Vote_impl_Vote t = K_slices_Index_Limpl_Vote_impl_Vote.F t := by kernel_rfl
theorem e_laws_eqNodeS (t : TupI (K_laws_eqNodeS.ins.map PS.sh)) : runF X_laws_eqNodeS Tryz.f77 K_laws_eqNodeS t = K_laws_eqNodeS.F t := by kernel_rfl
theorem e_laws_szInt64S (t : TupI (K_laws_szInt64S.ins.map PS.sh)) : runF X_laws_szInt64S Tryz.f60 K_laws_szInt64S t = K_laws_szInt64S.F t := by kernel_rfl
theorem e_laws_szQuorum (t : TupI (K_laws_szQuorum.ins.map PS.sh)) : runF X_laws_szQuorum Tryz.f59 K_laws_szQuorum t = K_laws_szQuorum.F t := by kernel_rfl
theorem e_laws_eqInt64S (t : TupI (K_laws_eqInt64S.ins.map PS.sh)) : runF X_laws_eqInt64S Tryz.f76 K_laws_eqInt64S t = K_laws_eqInt64S.F t := by kernel_rfl
theorem e_impl_findNode (t : TupI (K_impl_findNode.ins.map PS.sh)) : runF X_impl_findNode Tryz.f202 K_impl_findNode t = K_impl_findNode.F t := by kernel_rfl
theorem e_impl_findNode_c1 (t : TupI (K_impl_findNode_c1.ins.map PS.sh)) : runF X_impl_findNode_c1 Tryz.f218 K_impl_findNode_c1 t = K_impl_findNode_c1.F t := by kernel_rfl
theorem e_impl_VoterFault_c1 (t : TupI (K_impl_VoterFault_c1.ins.map PS.sh)) : runF X_impl_VoterFault_c1 Tryz.f209 K_impl_VoterFault_c1 t = K_impl_VoterFault_c1.F t := by kernel_rfl
theorem e_impl_QuorumFault (t : TupI (K_impl_QuorumFault.ins.map PS.sh)) : runF X_impl_QuorumFault Tryz.f139 K_impl_QuorumFault t = K_impl_QuorumFault.F t := by kernel_rfl
theorem e_laws_toChoiceS (t : TupI (K_laws_toChoiceS.ins.map PS.sh)) : runF X_laws_toChoiceS Tryz.f190 K_laws_toChoiceS t = K_laws_toChoiceS.F t := by kernel_rfl
theorem e_slices_Clone_Lint64_int64 (t : TupI (K_slices_Clone_Lint64_int64.ins.map PS.sh)) : runF X_slices_Clone_Lint64_int64 Tryz.f164 K_slices_Clone_Lint64_int64 t = K_slices_Clone_Lint64_int64.F t := by kernel_rfl
theorem e_laws_eqCluster (t : TupI (K_laws_eqCluster.ins.map PS.sh)) : runF X_laws_eqCluster Tryz.f20 K_laws_eqCluster t = K_laws_eqCluster.F t := by kernel_rfl
theorem e_laws_szInt64SS (t : TupI (K_laws_szInt64SS.ins.map PS.sh)) : runF X_laws_szInt64SS Tryz.f64 K_laws_szInt64SS t = K_laws_szInt64SS.F t := by kernel_rfl
theorem e_slices_Index_Lint64_int64 (t : TupI (K_slices_Index_Lint64_int64.ins.map PS.sh)) : runF X_slices_Index_Lint64_int64 Tryz.f154 K_slices_Index_Lint64_int64 t = K_slices_Index_Lint64_int64.F t := by kernel_rfl
theorem e_laws_szVoterS (t : TupI (K_laws_szVoterS.ins.map PS.sh)) : runF X_laws_szVoterS Tryz.f62 K_laws_szVoterS t = K_laws_szVoterS.F t := by kernel_rfl
theorem e_slices_IndexFunc_Limpl_Choice_impl_Choice (t : TupI (K_slices_IndexFunc_Limpl_Choice_impl_Choice.ins.map PS.sh)) : runF X_slices_IndexFunc_Limpl_Choice_impl_Choice Tryz.f153 K_slices_IndexFunc_Limpl_Choice_impl_Choice t = K_slices_IndexFunc_Limpl_Choice_impl_Choice.F t := by kernel_rfl
theorem e_laws_eqChoice (t : TupI (K_laws_eqChoice.ins.map PS.sh)) : runF X_laws_eqChoice Tryz.f162 K_laws_eqChoice t = K_laws_eqChoice.F t := by kernel_rfl
theorem e_laws_toRef (t : TupI (K_laws_toRef.ins.map PS.sh)) : runF X_laws_toRef Tryz.f57 K_laws_toRef t = K_laws_toRef.F t := by kernel_rfl
theorem e_spec_l1Key (t : TupI (K_spec_l1Key.ins.map PS.sh)) : runF X_spec_l1Key Tryz.f175 K_spec_l1Key t = K_spec_l1Key.F t := by kernel_rfl
theorem e_laws_szVoter (t : TupI (K_laws_szVoter.ins.map PS.sh)) : runF X_laws_szVoter Tryz.f130 K_laws_szVoter t = K_laws_szVoter.F t := by kernel_rfl
theorem e_impl_NoFork_c1 (t : TupI (K_impl_NoFork_c1.ins.map PS.sh)) : runF X_impl_NoFork_c1 Tryz.f84 K_impl_NoFork_c1 t = K_impl_NoFork_c1.F t := by kernel_rfl
theorem e_laws_eqVoter (t : TupI (K_laws_eqVoter.ins.map PS.sh)) : runF X_laws_eqVoter Tryz.f147 K_laws_eqVoter t = K_laws_eqVoter.F t := by kernel_rfl
theorem e_impl_goodKeys_c1 (t : TupI (K_impl_goodKeys_c1.ins.map PS.sh)) : runF X_impl_goodKeys_c1 Tryz.f214 K_impl_goodKeys_c1 t = K_impl_goodKeys_c1.F t := by kernel_rfl
end CL
end Go.Dx
