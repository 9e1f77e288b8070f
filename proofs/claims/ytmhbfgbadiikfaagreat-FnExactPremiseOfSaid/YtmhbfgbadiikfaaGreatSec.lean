/- The executor finds what each function computes: by computation -/
import Derived.Test.YtmhbfgbadiikfaaGreatSca
set_option linter.unusedVariables false
set_option linter.unusedSimpArgs false
set_option maxRecDepth 100000
set_option maxHeartbeats 0
namespace Go.Dx
open Go.Proofs
namespace CL

theorem e_spec_l12Heard (t : TupI (K_spec_l12Heard.ins.map PS.sh)) : runF X_spec_l12Heard Tryz.f136 K_spec_l12Heard t = K_spec_l12Heard.F t := by kernel_rfl
theorem e_impl_Cluster_isVoted (t : TupI (K_impl_Cluster_isVoted.ins.map PS.sh)) : runF X_impl_Cluster_isVoted Tryz.f196 K_impl_Cluster_isVoted t = K_impl_Cluster_isVoted.F t := by kernel_rfl
theorem e_spec_l11Fault (t : TupI (K_spec_l11Fault.ins.map PS.sh)) : runF X_spec_l11Fault Tryz.f183 K_spec_l11Fault t = K_spec_l11Fault.F t := by kernel_rfl
theorem e_impl_VoterFault (t : TupI (K_impl_VoterFault.ins.map PS.sh)) : runF X_impl_VoterFault Tryz.f185 K_impl_VoterFault t = K_impl_VoterFault.F t := by kernel_rfl
theorem e_laws_eqNodeS (t : TupI (K_laws_eqNodeS.ins.map PS.sh)) : runF X_laws_eqNodeS Tryz.f77 K_laws_eqNodeS t = K_laws_eqNodeS.F t := by kernel_rfl
theorem e_impl_VoteFault (t : TupI (K_impl_VoteFault.ins.map PS.sh)) : runF X_impl_VoteFault Tryz.f119 K_impl_VoteFault t = K_impl_VoteFault.F t := by kernel_rfl
theorem e_impl_ClusterFault (t : TupI (K_impl_ClusterFault.ins.map PS.sh)) : runF X_impl_ClusterFault Tryz.f73 K_impl_ClusterFault t = K_impl_ClusterFault.F t := by kernel_rfl
theorem e_laws_eqInt64SS (t : TupI (K_laws_eqInt64SS.ins.map PS.sh)) : runF X_laws_eqInt64SS Tryz.f80 K_laws_eqInt64SS t = K_laws_eqInt64SS.F t := by kernel_rfl
theorem e_impl_findNode (t : TupI (K_impl_findNode.ins.map PS.sh)) : runF X_impl_findNode Tryz.f202 K_impl_findNode t = K_impl_findNode.F t := by kernel_rfl
theorem e_impl_TreeFault (t : TupI (K_impl_TreeFault.ins.map PS.sh)) : runF X_impl_TreeFault Tryz.f141 K_impl_TreeFault t = K_impl_TreeFault.F t := by kernel_rfl
theorem e_slices_EqualFunc_Limpl_Voter_Lint64_impl_Voter_int64 (t : TupI (K_slices_EqualFunc_Limpl_Voter_Lint64_impl_Voter_int64.ins.map PS.sh)) : runF X_slices_EqualFunc_Limpl_Voter_Lint64_impl_Voter_int64 Tryz.f194 K_slices_EqualFunc_Limpl_Voter_Lint64_impl_Voter_int64 t = K_slices_EqualFunc_Limpl_Voter_Lint64_impl_Voter_int64.F t := by kernel_rfl
theorem e_impl_Voter_chosen_c1 (t : TupI (K_impl_Voter_chosen_c1.ins.map PS.sh)) : runF X_impl_Voter_chosen_c1 Tryz.f210 K_impl_Voter_chosen_c1 t = K_impl_Voter_chosen_c1.F t := by kernel_rfl
theorem e_laws_szCluster (t : TupI (K_laws_szCluster.ins.map PS.sh)) : runF X_laws_szCluster Tryz.f16 K_laws_szCluster t = K_laws_szCluster.F t := by kernel_rfl
theorem e_impl_goodKeys (t : TupI (K_impl_goodKeys.ins.map PS.sh)) : runF X_impl_goodKeys Tryz.f193 K_impl_goodKeys t = K_impl_goodKeys.F t := by kernel_rfl
theorem e_laws_toVoter (t : TupI (K_laws_toVoter.ins.map PS.sh)) : runF X_laws_toVoter Tryz.f138 K_laws_toVoter t = K_laws_toVoter.F t := by kernel_rfl
theorem e_laws_szInt64SS (t : TupI (K_laws_szInt64SS.ins.map PS.sh)) : runF X_laws_szInt64SS Tryz.f64 K_laws_szInt64SS t = K_laws_szInt64SS.F t := by kernel_rfl
theorem e_slices_Index_Lint64_int64 (t : TupI (K_slices_Index_Lint64_int64.ins.map PS.sh)) : runF X_slices_Index_Lint64_int64 Tryz.f154 K_slices_Index_Lint64_int64 t = K_slices_Index_Lint64_int64.F t := by kernel_rfl
theorem e_laws_szVoterS (t : TupI (K_laws_szVoterS.ins.map PS.sh)) : runF X_laws_szVoterS Tryz.f62 K_laws_szVoterS t = K_laws_szVoterS.F t := by kernel_rfl
theorem e_slices_IndexFunc_Limpl_Choice_impl_Choice (t : TupI (K_slices_IndexFunc_Limpl_Choice_impl_Choice.ins.map PS.sh)) : runF X_slices_IndexFunc_Limpl_Choice_impl_Choice Tryz.f153 K_slices_IndexFunc_Limpl_Choice_impl_Choice t = K_slices_IndexFunc_Limpl_Choice_impl_Choice.F t := by kernel_rfl
theorem e_spec_l4Among (t : TupI (K_spec_l4Among.ins.map PS.sh)) : runF X_spec_l4Among Tryz.f89 K_spec_l4Among t = K_spec_l4Among.F t := by kernel_rfl
theorem e_impl_Cluster_heardFault_c1 (t : TupI (K_impl_Cluster_heardFault_c1.ins.map PS.sh)) : runF X_impl_Cluster_heardFault_c1 Tryz.f197 K_impl_Cluster_heardFault_c1 t = K_impl_Cluster_heardFault_c1.F t := by kernel_rfl
theorem e_laws_toQuorum (t : TupI (K_laws_toQuorum.ins.map PS.sh)) : runF X_laws_toQuorum Tryz.f67 K_laws_toQuorum t = K_laws_toQuorum.F t := by kernel_rfl
theorem e_laws_eqQuorum (t : TupI (K_laws_eqQuorum.ins.map PS.sh)) : runF X_laws_eqQuorum Tryz.f75 K_laws_eqQuorum t = K_laws_eqQuorum.F t := by kernel_rfl
theorem e_slices_Contains_Lint64_int64 (t : TupI (K_slices_Contains_Lint64_int64.ins.map PS.sh)) : runF X_slices_Contains_Lint64_int64 Tryz.f90 K_slices_Contains_Lint64_int64 t = K_slices_Contains_Lint64_int64.F t := by kernel_rfl
theorem e_impl_meetOf_c1 (t : TupI (K_impl_meetOf_c1.ins.map PS.sh)) : runF X_impl_meetOf_c1 Tryz.f215 K_impl_meetOf_c1 t = K_impl_meetOf_c1.F t := by kernel_rfl
theorem e_impl_meetOf (t : TupI (K_impl_meetOf.ins.map PS.sh)) : runF X_impl_meetOf Tryz.f198 K_impl_meetOf t = K_impl_meetOf.F t := by kernel_rfl
end CL
end Go.Dx
