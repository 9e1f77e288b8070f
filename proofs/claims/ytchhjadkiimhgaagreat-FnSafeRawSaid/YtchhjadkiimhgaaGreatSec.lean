/- The executor finds what each function computes: by computation -/
import Derived.Test.YtchhjadkiimhgaaGreatSca
set_option linter.unusedVariables false
set_option linter.unusedSimpArgs false
set_option maxRecDepth 100000
set_option maxHeartbeats 0
namespace Go.Dx
open Go.Proofs
namespace CL

theorem e_laws_FnSafeRaw (t:TupI (K_laws_FnSafeRaw.ins.map PS.sh)):runF X_laws_FnSafeRaw Tryz.f6 K_laws_FnSafeRaw t=K_laws_FnSafeRaw.F t:=by kernel_rfl
theorem e_spec_NewCluster (t:TupI (K_spec_NewCluster.ins.map PS.sh)):runF X_spec_NewCluster Tryz.f157 K_spec_NewCluster t=K_spec_NewCluster.F t:=by kernel_rfl
theorem e_spec_l12Right (t:TupI (K_spec_l12Right.ins.map PS.sh)):runF X_spec_l12Right Tryz.f98 K_spec_l12Right t=K_spec_l12Right.F t:=by kernel_rfl
theorem e_spec_ChooseAt (t:TupI (K_spec_ChooseAt.ins.map PS.sh)):runF X_spec_ChooseAt Tryz.f134 K_spec_ChooseAt t=K_spec_ChooseAt.F t:=by kernel_rfl
theorem e_spec_l12Locks (t:TupI (K_spec_l12Locks.ins.map PS.sh)):runF X_spec_l12Locks Tryz.f145 K_spec_l12Locks t=K_spec_l12Locks.F t:=by kernel_rfl
theorem e_spec_l11Choose (t:TupI (K_spec_l11Choose.ins.map PS.sh)):runF X_spec_l11Choose Tryz.f189 K_spec_l11Choose t=K_spec_l11Choose.F t:=by kernel_rfl
theorem e_spec_ForgeAt (t:TupI (K_spec_ForgeAt.ins.map PS.sh)):runF X_spec_ForgeAt Tryz.f12 K_spec_ForgeAt t=K_spec_ForgeAt.F t:=by kernel_rfl
theorem e_spec_l11At (t:TupI (K_spec_l11At.ins.map PS.sh)):runF X_spec_l11At Tryz.f186 K_spec_l11At t=K_spec_l11At.F t:=by kernel_rfl
theorem e_slices_IndexFunc_Lint64_int64 (t:TupI (K_slices_IndexFunc_Lint64_int64.ins.map PS.sh)):runF X_slices_IndexFunc_Lint64_int64 Tryz.f142 K_slices_IndexFunc_Lint64_int64 t=K_slices_IndexFunc_Lint64_int64.F t:=by kernel_rfl
theorem e_slices_ContainsFunc_Lint64_int64 (t:TupI (K_slices_ContainsFunc_Lint64_int64.ins.map PS.sh)):runF X_slices_ContainsFunc_Lint64_int64 Tryz.f81 K_slices_ContainsFunc_Lint64_int64 t=K_slices_ContainsFunc_Lint64_int64.F t:=by kernel_rfl
theorem e_impl_countFor (t:TupI (K_impl_countFor.ins.map PS.sh)):runF X_impl_countFor Tryz.f93 K_impl_countFor t=K_impl_countFor.F t:=by kernel_rfl
theorem e_spec_GrowTree (t:TupI (K_spec_GrowTree.ins.map PS.sh)):runF X_spec_GrowTree Tryz.f184 K_spec_GrowTree t=K_spec_GrowTree.F t:=by kernel_rfl
theorem e_slices_Index_Limpl_Vote_impl_Vote (t:TupI (K_slices_Index_Limpl_Vote_impl_Vote.ins.map PS.sh)):runF X_slices_Index_Limpl_Vote_impl_Vote Tryz.f161 K_slices_Index_Limpl_Vote_impl_Vote t=K_slices_Index_Limpl_Vote_impl_Vote.F t:=by kernel_rfl
theorem e_spec_l10DrawKeys (t:TupI (K_spec_l10DrawKeys.ins.map PS.sh)):runF X_spec_l10DrawKeys Tryz.f182 K_spec_l10DrawKeys t=K_spec_l10DrawKeys.F t:=by kernel_rfl
theorem e_impl_related (t:TupI (K_impl_related.ins.map PS.sh)):runF X_impl_related Tryz.f67 K_impl_related t=K_impl_related.F t:=by kernel_rfl
theorem e_impl_isKey (t:TupI (K_impl_isKey.ins.map PS.sh)):runF X_impl_isKey Tryz.f105 K_impl_isKey t=K_impl_isKey.F t:=by kernel_rfl
theorem e_spec_l9Above (t:TupI (K_spec_l9Above.ins.map PS.sh)):runF X_spec_l9Above Tryz.f139 K_spec_l9Above t=K_spec_l9Above.F t:=by kernel_rfl
theorem e_spec_l12Voted (t:TupI (K_spec_l12Voted.ins.map PS.sh)):runF X_spec_l12Voted Tryz.f74 K_spec_l12Voted t=K_spec_l12Voted.F t:=by kernel_rfl
theorem e_slices_IndexFunc_Limpl_Node_impl_Node (t:TupI (K_slices_IndexFunc_Limpl_Node_impl_Node.ins.map PS.sh)):runF X_slices_IndexFunc_Limpl_Node_impl_Node Tryz.f187 K_slices_IndexFunc_Limpl_Node_impl_Node t=K_slices_IndexFunc_Limpl_Node_impl_Node.F t:=by kernel_rfl
theorem e_impl_isRef (t:TupI (K_impl_isRef.ins.map PS.sh)):runF X_impl_isRef Tryz.f104 K_impl_isRef t=K_impl_isRef.F t:=by kernel_rfl
theorem e_slices_Clone_Lint64_int64 (t:TupI (K_slices_Clone_Lint64_int64.ins.map PS.sh)):runF X_slices_Clone_Lint64_int64 Tryz.f107 K_slices_Clone_Lint64_int64 t=K_slices_Clone_Lint64_int64.F t:=by kernel_rfl
theorem e_impl_goodKeys_c1 (t:TupI (K_impl_goodKeys_c1.ins.map PS.sh)):runF X_impl_goodKeys_c1 Tryz.f169 K_impl_goodKeys_c1 t=K_impl_goodKeys_c1.F t:=by kernel_rfl
theorem e_impl_isId (t:TupI (K_impl_isId.ins.map PS.sh)):runF X_impl_isId Tryz.f103 K_impl_isId t=K_impl_isId.F t:=by kernel_rfl
theorem e_impl_Cluster_findVoter (t:TupI (K_impl_Cluster_findVoter.ins.map PS.sh)):runF X_impl_Cluster_findVoter Tryz.f136 K_impl_Cluster_findVoter t=K_impl_Cluster_findVoter.F t:=by kernel_rfl
theorem e_impl_Cluster_votersFault_c1 (t:TupI (K_impl_Cluster_votersFault_c1.ins.map PS.sh)):runF X_impl_Cluster_votersFault_c1 Tryz.f129 K_impl_Cluster_votersFault_c1 t=K_impl_Cluster_votersFault_c1.F t:=by kernel_rfl
end CL
end Go.Dx

