/- The executor finds what each function computes: by computation -/
import Derived.Test.YtmhbfgbadiikfaaGreatSca
set_option linter.unusedVariables false
set_option linter.unusedSimpArgs false
set_option maxRecDepth 100000
set_option maxHeartbeats 0
namespace Go.Dx
open Go.Proofs
namespace CL

theorem e_spec_l12Stands (t : TupI (K_spec_l12Stands.ins.map PS.sh)) : runF X_spec_l12Stands Tryz.f189 K_spec_l12Stands t = K_spec_l12Stands.F t := by kernel_rfl
theorem e_laws_FnExactVotedBy (t : TupI (K_laws_FnExactVotedBy.ins.map PS.sh)) : runF X_laws_FnExactVotedBy Tryz.f6 K_laws_FnExactVotedBy t = K_laws_FnExactVotedBy.F t := by kernel_rfl
theorem e_spec_l12Bad (t : TupI (K_spec_l12Bad.ins.map PS.sh)) : runF X_spec_l12Bad Tryz.f132 K_spec_l12Bad t = K_spec_l12Bad.F t := by kernel_rfl
theorem e_impl_isRising (t : TupI (K_impl_isRising.ins.map PS.sh)) : runF X_impl_isRising Tryz.f192 K_impl_isRising t = K_impl_isRising.F t := by kernel_rfl
theorem e_impl_VoterFault (t : TupI (K_impl_VoterFault.ins.map PS.sh)) : runF X_impl_VoterFault Tryz.f185 K_impl_VoterFault t = K_impl_VoterFault.F t := by kernel_rfl
theorem e_laws_szNodeS (t : TupI (K_laws_szNodeS.ins.map PS.sh)) : runF X_laws_szNodeS Tryz.f61 K_laws_szNodeS t = K_laws_szNodeS.F t := by kernel_rfl
theorem e_spec_l9Node (t : TupI (K_spec_l9Node.ins.map PS.sh)) : runF X_spec_l9Node Tryz.f173 K_spec_l9Node t = K_spec_l9Node.F t := by kernel_rfl
theorem e_laws_szChoiceS (t : TupI (K_laws_szChoiceS.ins.map PS.sh)) : runF X_laws_szChoiceS Tryz.f187 K_laws_szChoiceS t = K_laws_szChoiceS.F t := by kernel_rfl
theorem e_spec_l9Above (t : TupI (K_spec_l9Above.ins.map PS.sh)) : runF X_spec_l9Above Tryz.f149 K_spec_l9Above t = K_spec_l9Above.F t := by kernel_rfl
theorem e_impl_findNode (t : TupI (K_impl_findNode.ins.map PS.sh)) : runF X_impl_findNode Tryz.f202 K_impl_findNode t = K_impl_findNode.F t := by kernel_rfl
theorem e_impl_TreeFault (t : TupI (K_impl_TreeFault.ins.map PS.sh)) : runF X_impl_TreeFault Tryz.f141 K_impl_TreeFault t = K_impl_TreeFault.F t := by kernel_rfl
theorem e_impl_VoterFault_c1 (t : TupI (K_impl_VoterFault_c1.ins.map PS.sh)) : runF X_impl_VoterFault_c1 Tryz.f209 K_impl_VoterFault_c1 t = K_impl_VoterFault_c1.F t := by kernel_rfl
theorem e_impl_QuorumFault (t : TupI (K_impl_QuorumFault.ins.map PS.sh)) : runF X_impl_QuorumFault Tryz.f139 K_impl_QuorumFault t = K_impl_QuorumFault.F t := by kernel_rfl
theorem e_laws_toVoterS (t : TupI (K_laws_toVoterS.ins.map PS.sh)) : runF X_laws_toVoterS Tryz.f70 K_laws_toVoterS t = K_laws_toVoterS.F t := by kernel_rfl
theorem e_slices_Clone_Lint64_int64 (t : TupI (K_slices_Clone_Lint64_int64.ins.map PS.sh)) : runF X_slices_Clone_Lint64_int64 Tryz.f164 K_slices_Clone_Lint64_int64 t = K_slices_Clone_Lint64_int64.F t := by kernel_rfl
theorem e_laws_markCluster (t : TupI (K_laws_markCluster.ins.map PS.sh)) : runF X_laws_markCluster Tryz.f28 K_laws_markCluster t = K_laws_markCluster.F t := by kernel_rfl
theorem e_spec_l12Good (t : TupI (K_spec_l12Good.ins.map PS.sh)) : runF X_spec_l12Good Tryz.f188 K_spec_l12Good t = K_spec_l12Good.F t := by kernel_rfl
theorem e_spec_l9At (t : TupI (K_spec_l9At.ins.map PS.sh)) : runF X_spec_l9At Tryz.f155 K_spec_l9At t = K_spec_l9At.F t := by kernel_rfl
theorem e_impl_areKeys_c1 (t : TupI (K_impl_areKeys_c1.ins.map PS.sh)) : runF X_impl_areKeys_c1 Tryz.f212 K_impl_areKeys_c1 t = K_impl_areKeys_c1.F t := by kernel_rfl
theorem e_impl_badFault (t : TupI (K_impl_badFault.ins.map PS.sh)) : runF X_impl_badFault Tryz.f140 K_impl_badFault t = K_impl_badFault.F t := by kernel_rfl
theorem e_laws_markInt64S (t : TupI (K_laws_markInt64S.ins.map PS.sh)) : runF X_laws_markInt64S Tryz.f92 K_laws_markInt64S t = K_laws_markInt64S.F t := by kernel_rfl
theorem e_spec_l4Among (t : TupI (K_spec_l4Among.ins.map PS.sh)) : runF X_spec_l4Among Tryz.f89 K_spec_l4Among t = K_spec_l4Among.F t := by kernel_rfl
theorem e_impl_Cluster_heardFault_c1 (t : TupI (K_impl_Cluster_heardFault_c1.ins.map PS.sh)) : runF X_impl_Cluster_heardFault_c1 Tryz.f197 K_impl_Cluster_heardFault_c1 t = K_impl_Cluster_heardFault_c1.F t := by kernel_rfl
theorem e_laws_heldIntsResult (t : TupI (K_laws_heldIntsResult.ins.map PS.sh)) : runF X_laws_heldIntsResult Tryz.f30 K_laws_heldIntsResult t = K_laws_heldIntsResult.F t := by kernel_rfl
theorem e_slices_Contains_Limpl_Vote_impl_Vote (t : TupI (K_slices_Contains_Limpl_Vote_impl_Vote.ins.map PS.sh)) : runF X_slices_Contains_Limpl_Vote_impl_Vote Tryz.f161 K_slices_Contains_Limpl_Vote_impl_Vote t = K_slices_Contains_Limpl_Vote_impl_Vote.F t := by kernel_rfl
theorem e_impl_Cluster_votersFault_c1 (t : TupI (K_impl_Cluster_votersFault_c1.ins.map PS.sh)) : runF X_impl_Cluster_votersFault_c1 Tryz.f195 K_impl_Cluster_votersFault_c1 t = K_impl_Cluster_votersFault_c1.F t := by kernel_rfl
theorem e_laws_eqRef (t : TupI (K_laws_eqRef.ins.map PS.sh)) : runF X_laws_eqRef Tryz.f199 K_laws_eqRef t = K_laws_eqRef.F t := by kernel_rfl
theorem e_impl_Cluster_findVoter (t : TupI (K_impl_Cluster_findVoter.ins.map PS.sh)) : runF X_impl_Cluster_findVoter Tryz.f182 K_impl_Cluster_findVoter t = K_impl_Cluster_findVoter.F t := by kernel_rfl
end CL
end Go.Dx
