/- The executor finds what each function computes: by computation -/
import Derived.Test.YtmhbfgbadiikfaaGreatSca
set_option linter.unusedVariables false
set_option linter.unusedSimpArgs false
set_option maxRecDepth 100000
set_option maxHeartbeats 0
namespace Go.Dx
open Go.Proofs
namespace CL

theorem e_spec_l12Votes (t : TupI (K_spec_l12Votes.ins.map PS.sh)) : runF X_spec_l12Votes Tryz.f135 K_spec_l12Votes t = K_spec_l12Votes.F t := by kernel_rfl
theorem e_impl_Cluster_votesFault (t : TupI (K_impl_Cluster_votesFault.ins.map PS.sh)) : runF X_impl_Cluster_votesFault Tryz.f143 K_impl_Cluster_votesFault t = K_impl_Cluster_votesFault.F t := by kernel_rfl
theorem e_impl_bestOf_c1 (t : TupI (K_impl_bestOf_c1.ins.map PS.sh)) : runF X_impl_bestOf_c1 Tryz.f203 K_impl_bestOf_c1 t = K_impl_bestOf_c1.F t := by kernel_rfl
theorem e_spec_l12Fault (t : TupI (K_spec_l12Fault.ins.map PS.sh)) : runF X_spec_l12Fault Tryz.f65 K_spec_l12Fault t = K_spec_l12Fault.F t := by kernel_rfl
theorem e_spec_l11At (t : TupI (K_spec_l11At.ins.map PS.sh)) : runF X_spec_l11At Tryz.f208 K_spec_l11At t = K_spec_l11At.F t := by kernel_rfl
theorem e_impl_nodeFault (t : TupI (K_impl_nodeFault.ins.map PS.sh)) : runF X_impl_nodeFault Tryz.f174 K_impl_nodeFault t = K_impl_nodeFault.F t := by kernel_rfl
theorem e_slices_Index_Limpl_Vote_impl_Vote (t : TupI (K_slices_Index_Limpl_Vote_impl_Vote.ins.map PS.sh)) : runF X_slices_Index_Limpl_Vote_impl_Vote Tryz.f204 K_slices_Index_Limpl_Vote_impl_Vote t = K_slices_Index_Limpl_Vote_impl_Vote.F t := by kernel_rfl
theorem e_laws_eqNodeS (t : TupI (K_laws_eqNodeS.ins.map PS.sh)) : runF X_laws_eqNodeS Tryz.f77 K_laws_eqNodeS t = K_laws_eqNodeS.F t := by kernel_rfl
theorem e_impl_VoteFault (t : TupI (K_impl_VoteFault.ins.map PS.sh)) : runF X_impl_VoteFault Tryz.f119 K_impl_VoteFault t = K_impl_VoteFault.F t := by kernel_rfl
theorem e_impl_ClusterFault (t : TupI (K_impl_ClusterFault.ins.map PS.sh)) : runF X_impl_ClusterFault Tryz.f73 K_impl_ClusterFault t = K_impl_ClusterFault.F t := by kernel_rfl
theorem e_laws_eqVoterS (t : TupI (K_laws_eqVoterS.ins.map PS.sh)) : runF X_laws_eqVoterS Tryz.f78 K_laws_eqVoterS t = K_laws_eqVoterS.F t := by kernel_rfl
theorem e_impl_areKeys (t : TupI (K_impl_areKeys.ins.map PS.sh)) : runF X_impl_areKeys Tryz.f191 K_impl_areKeys t = K_impl_areKeys.F t := by kernel_rfl
theorem e_slices_IndexFunc_Lint64_int64 (t : TupI (K_slices_IndexFunc_Lint64_int64.ins.map PS.sh)) : runF X_slices_IndexFunc_Lint64_int64 Tryz.f150 K_slices_IndexFunc_Lint64_int64 t = K_slices_IndexFunc_Lint64_int64.F t := by kernel_rfl
theorem e_slices_ContainsFunc_Limpl_Choice_impl_Choice (t : TupI (K_slices_ContainsFunc_Limpl_Choice_impl_Choice.ins.map PS.sh)) : runF X_slices_ContainsFunc_Limpl_Choice_impl_Choice Tryz.f87 K_slices_ContainsFunc_Limpl_Choice_impl_Choice t = K_slices_ContainsFunc_Limpl_Choice_impl_Choice.F t := by kernel_rfl
theorem e_spec_BestOf (t : TupI (K_spec_BestOf.ins.map PS.sh)) : runF X_spec_BestOf Tryz.f98 K_spec_BestOf t = K_spec_BestOf.F t := by kernel_rfl
theorem e_laws_toVoterS (t : TupI (K_laws_toVoterS.ins.map PS.sh)) : runF X_laws_toVoterS Tryz.f70 K_laws_toVoterS t = K_laws_toVoterS.F t := by kernel_rfl
theorem e_slices_DeleteFunc_Lint64_int64 (t : TupI (K_slices_DeleteFunc_Lint64_int64.ins.map PS.sh)) : runF X_slices_DeleteFunc_Lint64_int64 Tryz.f213 K_slices_DeleteFunc_Lint64_int64 t = K_slices_DeleteFunc_Lint64_int64.F t := by kernel_rfl
theorem e_slices_Clone_Lint64_int64 (t : TupI (K_slices_Clone_Lint64_int64.ins.map PS.sh)) : runF X_slices_Clone_Lint64_int64 Tryz.f164 K_slices_Clone_Lint64_int64 t = K_slices_Clone_Lint64_int64.F t := by kernel_rfl
theorem e_laws_eqCluster (t : TupI (K_laws_eqCluster.ins.map PS.sh)) : runF X_laws_eqCluster Tryz.f20 K_laws_eqCluster t = K_laws_eqCluster.F t := by kernel_rfl
theorem e_impl_BestFor (t : TupI (K_impl_BestFor.ins.map PS.sh)) : runF X_impl_BestFor Tryz.f32 K_impl_BestFor t = K_impl_BestFor.F t := by kernel_rfl
theorem e_spec_l9At (t : TupI (K_spec_l9At.ins.map PS.sh)) : runF X_spec_l9At Tryz.f155 K_spec_l9At t = K_spec_l9At.F t := by kernel_rfl
theorem e_impl_areKeys_c1 (t : TupI (K_impl_areKeys_c1.ins.map PS.sh)) : runF X_impl_areKeys_c1 Tryz.f212 K_impl_areKeys_c1 t = K_impl_areKeys_c1.F t := by kernel_rfl
theorem e_laws_toNodeS (t : TupI (K_laws_toNodeS.ins.map PS.sh)) : runF X_laws_toNodeS Tryz.f69 K_laws_toNodeS t = K_laws_toNodeS.F t := by kernel_rfl
theorem e_impl_countFor (t : TupI (K_impl_countFor.ins.map PS.sh)) : runF X_impl_countFor Tryz.f102 K_impl_countFor t = K_impl_countFor.F t := by kernel_rfl
theorem e_spec_l1In (t : TupI (K_spec_l1In.ins.map PS.sh)) : runF X_spec_l1In Tryz.f106 K_spec_l1In t = K_spec_l1In.F t := by kernel_rfl
theorem e_impl_Cluster_heardFault_c1 (t : TupI (K_impl_Cluster_heardFault_c1.ins.map PS.sh)) : runF X_impl_Cluster_heardFault_c1 Tryz.f197 K_impl_Cluster_heardFault_c1 t = K_impl_Cluster_heardFault_c1.F t := by kernel_rfl
theorem e_laws_eqIntResult (t : TupI (K_laws_eqIntResult.ins.map PS.sh)) : runF X_laws_eqIntResult Tryz.f33 K_laws_eqIntResult t = K_laws_eqIntResult.F t := by kernel_rfl
theorem e_laws_szVoter (t : TupI (K_laws_szVoter.ins.map PS.sh)) : runF X_laws_szVoter Tryz.f130 K_laws_szVoter t = K_laws_szVoter.F t := by kernel_rfl
theorem e_impl_Cluster_votersFault_c1 (t : TupI (K_impl_Cluster_votersFault_c1.ins.map PS.sh)) : runF X_impl_Cluster_votersFault_c1 Tryz.f195 K_impl_Cluster_votersFault_c1 t = K_impl_Cluster_votersFault_c1.F t := by kernel_rfl
theorem e_laws_eqRef (t : TupI (K_laws_eqRef.ins.map PS.sh)) : runF X_laws_eqRef Tryz.f199 K_laws_eqRef t = K_laws_eqRef.F t := by kernel_rfl
theorem e_impl_goodKeys_c1 (t : TupI (K_impl_goodKeys_c1.ins.map PS.sh)) : runF X_impl_goodKeys_c1 Tryz.f214 K_impl_goodKeys_c1 t = K_impl_goodKeys_c1.F t := by kernel_rfl
end CL
end Go.Dx
