/- The executor finds what each function computes: by computation -/
import Derived.Test.YtmhbfgbadiikfaaGreatSca
set_option linter.unusedVariables false
set_option linter.unusedSimpArgs false
set_option maxRecDepth 100000
set_option maxHeartbeats 0
namespace Go.Dx
open Go.Proofs
namespace CL

theorem e_impl_Cluster_votesFault (t : TupI (K_impl_Cluster_votesFault.ins.map PS.sh)) : runF X_impl_Cluster_votesFault Tryz.f143 K_impl_Cluster_votesFault t = K_impl_Cluster_votesFault.F t := by kernel_rfl
theorem e_spec_l12Votes (t : TupI (K_spec_l12Votes.ins.map PS.sh)) : runF X_spec_l12Votes Tryz.f135 K_spec_l12Votes t = K_spec_l12Votes.F t := by kernel_rfl
theorem e_spec_l10Fault (t : TupI (K_spec_l10Fault.ins.map PS.sh)) : runF X_spec_l10Fault Tryz.f131 K_spec_l10Fault t = K_spec_l10Fault.F t := by kernel_rfl
theorem e_impl_TreeFault (t : TupI (K_impl_TreeFault.ins.map PS.sh)) : runF X_impl_TreeFault Tryz.f141 K_impl_TreeFault t = K_impl_TreeFault.F t := by kernel_rfl
theorem e_laws_markVoteS (t : TupI (K_laws_markVoteS.ins.map PS.sh)) : runF X_laws_markVoteS Tryz.f95 K_laws_markVoteS t = K_laws_markVoteS.F t := by kernel_rfl
theorem e_impl_nodeFault (t : TupI (K_impl_nodeFault.ins.map PS.sh)) : runF X_impl_nodeFault Tryz.f174 K_impl_nodeFault t = K_impl_nodeFault.F t := by kernel_rfl
theorem e_impl_ClusterFault (t : TupI (K_impl_ClusterFault.ins.map PS.sh)) : runF X_impl_ClusterFault Tryz.f73 K_impl_ClusterFault t = K_impl_ClusterFault.F t := by kernel_rfl
theorem e_impl_isRising (t : TupI (K_impl_isRising.ins.map PS.sh)) : runF X_impl_isRising Tryz.f192 K_impl_isRising t = K_impl_isRising.F t := by kernel_rfl
theorem e_impl_Cluster_heardFault (t : TupI (K_impl_Cluster_heardFault.ins.map PS.sh)) : runF X_impl_Cluster_heardFault Tryz.f144 K_impl_Cluster_heardFault t = K_impl_Cluster_heardFault.F t := by kernel_rfl
theorem e_impl_pathTo (t : TupI (K_impl_pathTo.ins.map PS.sh)) : runF X_impl_pathTo Tryz.f200 K_impl_pathTo t = K_impl_pathTo.F t := by kernel_rfl
theorem e_laws_szInt64S (t : TupI (K_laws_szInt64S.ins.map PS.sh)) : runF X_laws_szInt64S Tryz.f60 K_laws_szInt64S t = K_laws_szInt64S.F t := by kernel_rfl
theorem e_spec_l9Fault (t : TupI (K_spec_l9Fault.ins.map PS.sh)) : runF X_spec_l9Fault Tryz.f133 K_spec_l9Fault t = K_spec_l9Fault.F t := by kernel_rfl
theorem e_laws_toQuorum (t : TupI (K_laws_toQuorum.ins.map PS.sh)) : runF X_laws_toQuorum Tryz.f67 K_laws_toQuorum t = K_laws_toQuorum.F t := by kernel_rfl
theorem e_laws_markVoterS (t : TupI (K_laws_markVoterS.ins.map PS.sh)) : runF X_laws_markVoterS Tryz.f94 K_laws_markVoterS t = K_laws_markVoterS.F t := by kernel_rfl
theorem e_laws_toChoice (t : TupI (K_laws_toChoice.ins.map PS.sh)) : runF X_laws_toChoice Tryz.f211 K_laws_toChoice t = K_laws_toChoice.F t := by kernel_rfl
theorem e_spec_l1Key (t : TupI (K_spec_l1Key.ins.map PS.sh)) : runF X_spec_l1Key Tryz.f175 K_spec_l1Key t = K_spec_l1Key.F t := by kernel_rfl
theorem e_spec_l9Above (t : TupI (K_spec_l9Above.ins.map PS.sh)) : runF X_spec_l9Above Tryz.f149 K_spec_l9Above t = K_spec_l9Above.F t := by kernel_rfl
theorem e_slices_Clone_Limpl_Choice_impl_Choice (t : TupI (K_slices_Clone_Limpl_Choice_impl_Choice.ins.map PS.sh)) : runF X_slices_Clone_Limpl_Choice_impl_Choice Tryz.f205 K_slices_Clone_Limpl_Choice_impl_Choice t = K_slices_Clone_Limpl_Choice_impl_Choice.F t := by kernel_rfl
theorem e_laws_toVoterS (t : TupI (K_laws_toVoterS.ins.map PS.sh)) : runF X_laws_toVoterS Tryz.f70 K_laws_toVoterS t = K_laws_toVoterS.F t := by kernel_rfl
theorem e_laws_heldChoiceS (t : TupI (K_laws_heldChoiceS.ins.map PS.sh)) : runF X_laws_heldChoiceS Tryz.f105 K_laws_heldChoiceS t = K_laws_heldChoiceS.F t := by kernel_rfl
theorem e_laws_eqChoice (t : TupI (K_laws_eqChoice.ins.map PS.sh)) : runF X_laws_eqChoice Tryz.f162 K_laws_eqChoice t = K_laws_eqChoice.F t := by kernel_rfl
theorem e_laws_markInt64S (t : TupI (K_laws_markInt64S.ins.map PS.sh)) : runF X_laws_markInt64S Tryz.f92 K_laws_markInt64S t = K_laws_markInt64S.F t := by kernel_rfl
theorem e_slices_DeleteFunc_Lint64_int64 (t : TupI (K_slices_DeleteFunc_Lint64_int64.ins.map PS.sh)) : runF X_slices_DeleteFunc_Lint64_int64 Tryz.f213 K_slices_DeleteFunc_Lint64_int64 t = K_slices_DeleteFunc_Lint64_int64.F t := by kernel_rfl
theorem e_laws_toRef (t : TupI (K_laws_toRef.ins.map PS.sh)) : runF X_laws_toRef Tryz.f57 K_laws_toRef t = K_laws_toRef.F t := by kernel_rfl
theorem e_laws_toInt64S (t : TupI (K_laws_toInt64S.ins.map PS.sh)) : runF X_laws_toInt64S Tryz.f68 K_laws_toInt64S t = K_laws_toInt64S.F t := by kernel_rfl
theorem e_impl_isKey (t : TupI (K_impl_isKey.ins.map PS.sh)) : runF X_impl_isKey Tryz.f181 K_impl_isKey t = K_impl_isKey.F t := by kernel_rfl
theorem e_slices_IndexFunc_Limpl_Choice_impl_Choice (t : TupI (K_slices_IndexFunc_Limpl_Choice_impl_Choice.ins.map PS.sh)) : runF X_slices_IndexFunc_Limpl_Choice_impl_Choice Tryz.f153 K_slices_IndexFunc_Limpl_Choice_impl_Choice t = K_slices_IndexFunc_Limpl_Choice_impl_Choice.F t := by kernel_rfl
theorem e_slices_Clone_Lint64_int64 (t : TupI (K_slices_Clone_Lint64_int64.ins.map PS.sh)) : runF X_slices_Clone_Lint64_int64 Tryz.f164 K_slices_Clone_Lint64_int64 t = K_slices_Clone_Lint64_int64.F t := by kernel_rfl
theorem e_slices_ContainsFunc_Lint64_int64 (t : TupI (K_slices_ContainsFunc_Lint64_int64.ins.map PS.sh)) : runF X_slices_ContainsFunc_Lint64_int64 Tryz.f83 K_slices_ContainsFunc_Lint64_int64 t = K_slices_ContainsFunc_Lint64_int64.F t := by kernel_rfl
theorem e_spec_l12Err (t : TupI (K_spec_l12Err.ins.map PS.sh)) : runF X_spec_l12Err Tryz.f110 K_spec_l12Err t = K_spec_l12Err.F t := by kernel_rfl
theorem e_laws_eqVoter (t : TupI (K_laws_eqVoter.ins.map PS.sh)) : runF X_laws_eqVoter Tryz.f147 K_laws_eqVoter t = K_laws_eqVoter.F t := by kernel_rfl
theorem e_spec_l9At (t : TupI (K_spec_l9At.ins.map PS.sh)) : runF X_spec_l9At Tryz.f155 K_spec_l9At t = K_spec_l9At.F t := by kernel_rfl
end CL
end Go.Dx
