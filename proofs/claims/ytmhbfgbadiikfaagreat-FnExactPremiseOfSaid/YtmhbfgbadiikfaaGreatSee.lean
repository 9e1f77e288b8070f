/- The executor finds what each function computes: by computation -/
import Derived.Test.YtmhbfgbadiikfaaGreatSca
set_option linter.unusedVariables false
set_option linter.unusedSimpArgs false
set_option maxRecDepth 100000
set_option maxHeartbeats 0
namespace Go.Dx
open Go.Proofs
namespace CL

theorem e_impl_Cluster_votesFault (t : TupI (K_impl_Cluster_votesFault.ins.map PS.sh)) : runF X_impl_Cluster_votesFault Tryz.f143 K_impl_Cluster_votesFault t = K_impl_Cluster_votesFault.F t := by kernel_rfl
theorem e_spec_l12Voters (t : TupI (K_spec_l12Voters.ins.map PS.sh)) : runF X_spec_l12Voters Tryz.f134 K_spec_l12Voters t = K_spec_l12Voters.F t := by kernel_rfl
theorem e_spec_l10Safe (t : TupI (K_spec_l10Safe.ins.map PS.sh)) : runF X_spec_l10Safe Tryz.f66 K_spec_l10Safe t = K_spec_l10Safe.F t := by kernel_rfl
theorem e_spec_l12Bad (t : TupI (K_spec_l12Bad.ins.map PS.sh)) : runF X_spec_l12Bad Tryz.f132 K_spec_l12Bad t = K_spec_l12Bad.F t := by kernel_rfl
theorem e_spec_l9Fault (t : TupI (K_spec_l9Fault.ins.map PS.sh)) : runF X_spec_l9Fault Tryz.f133 K_spec_l9Fault t = K_spec_l9Fault.F t := by kernel_rfl
theorem e_slices_Index_Limpl_Vote_impl_Vote (t : TupI (K_slices_Index_Limpl_Vote_impl_Vote.ins.map PS.sh)) : runF X_slices_Index_Limpl_Vote_impl_Vote Tryz.f204 K_slices_Index_Limpl_Vote_impl_Vote t = K_slices_Index_Limpl_Vote_impl_Vote.F t := by kernel_rfl
theorem e_laws_szNodeS (t : TupI (K_laws_szNodeS.ins.map PS.sh)) : runF X_laws_szNodeS Tryz.f61 K_laws_szNodeS t = K_laws_szNodeS.F t := by kernel_rfl
theorem e_spec_l9Node (t : TupI (K_spec_l9Node.ins.map PS.sh)) : runF X_spec_l9Node Tryz.f173 K_spec_l9Node t = K_spec_l9Node.F t := by kernel_rfl
theorem e_laws_szChoiceS (t : TupI (K_laws_szChoiceS.ins.map PS.sh)) : runF X_laws_szChoiceS Tryz.f187 K_laws_szChoiceS t = K_laws_szChoiceS.F t := by kernel_rfl
theorem e_laws_toVote (t : TupI (K_laws_toVote.ins.map PS.sh)) : runF X_laws_toVote Tryz.f52 K_laws_toVote t = K_laws_toVote.F t := by kernel_rfl
theorem e_slices_IndexFunc_Lint64_int64 (t : TupI (K_slices_IndexFunc_Lint64_int64.ins.map PS.sh)) : runF X_slices_IndexFunc_Lint64_int64 Tryz.f150 K_slices_IndexFunc_Lint64_int64 t = K_slices_IndexFunc_Lint64_int64.F t := by kernel_rfl
theorem e_spec_l12Has (t : TupI (K_spec_l12Has.ins.map PS.sh)) : runF X_spec_l12Has Tryz.f178 K_spec_l12Has t = K_spec_l12Has.F t := by kernel_rfl
theorem e_impl_QuorumFault (t : TupI (K_impl_QuorumFault.ins.map PS.sh)) : runF X_impl_QuorumFault Tryz.f139 K_impl_QuorumFault t = K_impl_QuorumFault.F t := by kernel_rfl
theorem e_laws_toChoiceS (t : TupI (K_laws_toChoiceS.ins.map PS.sh)) : runF X_laws_toChoiceS Tryz.f190 K_laws_toChoiceS t = K_laws_toChoiceS.F t := by kernel_rfl
theorem e_impl_Cluster_heardFault (t : TupI (K_impl_Cluster_heardFault.ins.map PS.sh)) : runF X_impl_Cluster_heardFault Tryz.f144 K_impl_Cluster_heardFault t = K_impl_Cluster_heardFault.F t := by kernel_rfl
theorem e_impl_PremiseOf (t : TupI (K_impl_PremiseOf.ins.map PS.sh)) : runF X_impl_PremiseOf Tryz.f19 K_impl_PremiseOf t = K_impl_PremiseOf.F t := by kernel_rfl
theorem e_spec_PremiseOf (t : TupI (K_spec_PremiseOf.ins.map PS.sh)) : runF X_spec_PremiseOf Tryz.f17 K_spec_PremiseOf t = K_spec_PremiseOf.F t := by kernel_rfl
theorem e_spec_l9At (t : TupI (K_spec_l9At.ins.map PS.sh)) : runF X_spec_l9At Tryz.f155 K_spec_l9At t = K_spec_l9At.F t := by kernel_rfl
theorem e_impl_areKeys_c1 (t : TupI (K_impl_areKeys_c1.ins.map PS.sh)) : runF X_impl_areKeys_c1 Tryz.f212 K_impl_areKeys_c1 t = K_impl_areKeys_c1.F t := by kernel_rfl
theorem e_impl_badFault (t : TupI (K_impl_badFault.ins.map PS.sh)) : runF X_impl_badFault Tryz.f140 K_impl_badFault t = K_impl_badFault.F t := by kernel_rfl
theorem e_laws_eqChoice (t : TupI (K_laws_eqChoice.ins.map PS.sh)) : runF X_laws_eqChoice Tryz.f162 K_laws_eqChoice t = K_laws_eqChoice.F t := by kernel_rfl
theorem e_laws_toRef (t : TupI (K_laws_toRef.ins.map PS.sh)) : runF X_laws_toRef Tryz.f57 K_laws_toRef t = K_laws_toRef.F t := by kernel_rfl
theorem e_spec_l1Key (t : TupI (K_spec_l1Key.ins.map PS.sh)) : runF X_spec_l1Key Tryz.f175 K_spec_l1Key t = K_spec_l1Key.F t := by kernel_rfl
theorem e_slices_Contains_Limpl_Vote_impl_Vote (t : TupI (K_slices_Contains_Limpl_Vote_impl_Vote.ins.map PS.sh)) : runF X_slices_Contains_Limpl_Vote_impl_Vote Tryz.f161 K_slices_Contains_Limpl_Vote_impl_Vote t = K_slices_Contains_Limpl_Vote_impl_Vote.F t := by kernel_rfl
theorem e_impl_isId (t : TupI (K_impl_isId.ins.map PS.sh)) : runF X_impl_isId Tryz.f179 K_impl_isId t = K_impl_isId.F t := by kernel_rfl
theorem e_laws_szVoteS (t : TupI (K_laws_szVoteS.ins.map PS.sh)) : runF X_laws_szVoteS Tryz.f63 K_laws_szVoteS t = K_laws_szVoteS.F t := by kernel_rfl
theorem e_impl_Cluster_findVoter (t : TupI (K_impl_Cluster_findVoter.ins.map PS.sh)) : runF X_impl_Cluster_findVoter Tryz.f182 K_impl_Cluster_findVoter t = K_impl_Cluster_findVoter.F t := by kernel_rfl
theorem e_impl_isKey (t : TupI (K_impl_isKey.ins.map PS.sh)) : runF X_impl_isKey Tryz.f181 K_impl_isKey t = K_impl_isKey.F t := by kernel_rfl
end CL
end Go.Dx
