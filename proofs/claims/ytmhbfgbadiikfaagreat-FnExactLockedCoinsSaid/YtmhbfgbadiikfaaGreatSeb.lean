/- The executor finds what each function computes: by computation -/
import Derived.Test.YtmhbfgbadiikfaaGreatSca
set_option linter.unusedVariables false
set_option linter.unusedSimpArgs false
set_option maxRecDepth 100000
set_option maxHeartbeats 0
namespace Go.Dx
open Go.Proofs
namespace CL

theorem e_spec_l13Coins (t : TupI (K_spec_l13Coins.ins.map PS.sh)) : runF X_spec_l13Coins Tryz.f86 K_spec_l13Coins t = K_spec_l13Coins.F t := by kernel_rfl
theorem e_spec_l10Fault (t : TupI (K_spec_l10Fault.ins.map PS.sh)) : runF X_spec_l10Fault Tryz.f131 K_spec_l10Fault t = K_spec_l10Fault.F t := by kernel_rfl
theorem e_spec_l11Count (t : TupI (K_spec_l11Count.ins.map PS.sh)) : runF X_spec_l11Count Tryz.f152 K_spec_l11Count t = K_spec_l11Count.F t := by kernel_rfl
theorem e_spec_l11Fault (t : TupI (K_spec_l11Fault.ins.map PS.sh)) : runF X_spec_l11Fault Tryz.f183 K_spec_l11Fault t = K_spec_l11Fault.F t := by kernel_rfl
theorem e_impl_VoterFault (t : TupI (K_impl_VoterFault.ins.map PS.sh)) : runF X_impl_VoterFault Tryz.f185 K_impl_VoterFault t = K_impl_VoterFault.F t := by kernel_rfl
theorem e_slices_Index_Limpl_Vote_impl_Vote (t : TupI (K_slices_Index_Limpl_Vote_impl_Vote.ins.map PS.sh)) : runF X_slices_Index_Limpl_Vote_impl_Vote Tryz.f204 K_slices_Index_Limpl_Vote_impl_Vote t = K_slices_Index_Limpl_Vote_impl_Vote.F t := by kernel_rfl
theorem e_laws_toCluster (t : TupI (K_laws_toCluster.ins.map PS.sh)) : runF X_laws_toCluster Tryz.f18 K_laws_toCluster t = K_laws_toCluster.F t := by kernel_rfl
theorem e_laws_toVoteS (t : TupI (K_laws_toVoteS.ins.map PS.sh)) : runF X_laws_toVoteS Tryz.f71 K_laws_toVoteS t = K_laws_toVoteS.F t := by kernel_rfl
theorem e_laws_eqInt64S (t : TupI (K_laws_eqInt64S.ins.map PS.sh)) : runF X_laws_eqInt64S Tryz.f76 K_laws_eqInt64S t = K_laws_eqInt64S.F t := by kernel_rfl
theorem e_impl_findNode (t : TupI (K_impl_findNode.ins.map PS.sh)) : runF X_impl_findNode Tryz.f202 K_impl_findNode t = K_impl_findNode.F t := by kernel_rfl
theorem e_slices_IndexFunc_Lint64_int64 (t : TupI (K_slices_IndexFunc_Lint64_int64.ins.map PS.sh)) : runF X_slices_IndexFunc_Lint64_int64 Tryz.f150 K_slices_IndexFunc_Lint64_int64 t = K_slices_IndexFunc_Lint64_int64.F t := by kernel_rfl
theorem e_spec_l12Has (t : TupI (K_spec_l12Has.ins.map PS.sh)) : runF X_spec_l12Has Tryz.f178 K_spec_l12Has t = K_spec_l12Has.F t := by kernel_rfl
theorem e_spec_LockedCoins (t : TupI (K_spec_LockedCoins.ins.map PS.sh)) : runF X_spec_LockedCoins Tryz.f36 K_spec_LockedCoins t = K_spec_LockedCoins.F t := by kernel_rfl
theorem e_laws_markChoicesResult (t : TupI (K_laws_markChoicesResult.ins.map PS.sh)) : runF X_laws_markChoicesResult Tryz.f39 K_laws_markChoicesResult t = K_laws_markChoicesResult.F t := by kernel_rfl
theorem e_laws_heldChoiceS (t : TupI (K_laws_heldChoiceS.ins.map PS.sh)) : runF X_laws_heldChoiceS Tryz.f105 K_laws_heldChoiceS t = K_laws_heldChoiceS.F t := by kernel_rfl
theorem e_laws_eqChoicesResult (t : TupI (K_laws_eqChoicesResult.ins.map PS.sh)) : runF X_laws_eqChoicesResult Tryz.f38 K_laws_eqChoicesResult t = K_laws_eqChoicesResult.F t := by kernel_rfl
theorem e_slices_Index_Limpl_Choice_impl_Choice (t : TupI (K_slices_Index_Limpl_Choice_impl_Choice.ins.map PS.sh)) : runF X_slices_Index_Limpl_Choice_impl_Choice Tryz.f160 K_slices_Index_Limpl_Choice_impl_Choice t = K_slices_Index_Limpl_Choice_impl_Choice.F t := by kernel_rfl
theorem e_laws_markInt64SS (t : TupI (K_laws_markInt64SS.ins.map PS.sh)) : runF X_laws_markInt64SS Tryz.f96 K_laws_markInt64SS t = K_laws_markInt64SS.F t := by kernel_rfl
theorem e_laws_szInt64SS (t : TupI (K_laws_szInt64SS.ins.map PS.sh)) : runF X_laws_szInt64SS Tryz.f64 K_laws_szInt64SS t = K_laws_szInt64SS.F t := by kernel_rfl
theorem e_slices_Index_Lint64_int64 (t : TupI (K_slices_Index_Lint64_int64.ins.map PS.sh)) : runF X_slices_Index_Lint64_int64 Tryz.f154 K_slices_Index_Lint64_int64 t = K_slices_Index_Lint64_int64.F t := by kernel_rfl
theorem e_laws_szVoterS (t : TupI (K_laws_szVoterS.ins.map PS.sh)) : runF X_laws_szVoterS Tryz.f62 K_laws_szVoterS t = K_laws_szVoterS.F t := by kernel_rfl
theorem e_slices_IndexFunc_Limpl_Choice_impl_Choice (t : TupI (K_slices_IndexFunc_Limpl_Choice_impl_Choice.ins.map PS.sh)) : runF X_slices_IndexFunc_Limpl_Choice_impl_Choice Tryz.f153 K_slices_IndexFunc_Limpl_Choice_impl_Choice t = K_slices_IndexFunc_Limpl_Choice_impl_Choice.F t := by kernel_rfl
theorem e_impl_countFor (t : TupI (K_impl_countFor.ins.map PS.sh)) : runF X_impl_countFor Tryz.f102 K_impl_countFor t = K_impl_countFor.F t := by kernel_rfl
theorem e_spec_l1In (t : TupI (K_spec_l1In.ins.map PS.sh)) : runF X_spec_l1In Tryz.f106 K_spec_l1In t = K_spec_l1In.F t := by kernel_rfl
theorem e_laws_toChoice (t : TupI (K_laws_toChoice.ins.map PS.sh)) : runF X_laws_toChoice Tryz.f211 K_laws_toChoice t = K_laws_toChoice.F t := by kernel_rfl
theorem e_laws_heldChoicesResult (t : TupI (K_laws_heldChoicesResult.ins.map PS.sh)) : runF X_laws_heldChoicesResult Tryz.f40 K_laws_heldChoicesResult t = K_laws_heldChoicesResult.F t := by kernel_rfl
theorem e_laws_eqQuorum (t : TupI (K_laws_eqQuorum.ins.map PS.sh)) : runF X_laws_eqQuorum Tryz.f75 K_laws_eqQuorum t = K_laws_eqQuorum.F t := by kernel_rfl
theorem e_impl_isId (t : TupI (K_impl_isId.ins.map PS.sh)) : runF X_impl_isId Tryz.f179 K_impl_isId t = K_impl_isId.F t := by kernel_rfl
theorem e_laws_szVoteS (t : TupI (K_laws_szVoteS.ins.map PS.sh)) : runF X_laws_szVoteS Tryz.f63 K_laws_szVoteS t = K_laws_szVoteS.F t := by kernel_rfl
theorem e_slices_ContainsFunc_Lint64_int64 (t : TupI (K_slices_ContainsFunc_Lint64_int64.ins.map PS.sh)) : runF X_slices_ContainsFunc_Lint64_int64 Tryz.f83 K_slices_ContainsFunc_Lint64_int64 t = K_slices_ContainsFunc_Lint64_int64.F t := by kernel_rfl
end CL
end Go.Dx
