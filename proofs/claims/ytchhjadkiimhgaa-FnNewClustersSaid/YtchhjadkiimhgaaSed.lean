/- The executor finds what each function computes: by computation -/
import Derived.Test.YtchhjadkiimhgaaSca
set_option linter.unusedVariables false
set_option linter.unusedSimpArgs false
set_option maxRecDepth 100000
set_option maxHeartbeats 0
namespace Go.Dx
open Go.Proofs
namespace CL

theorem e_impl_Cluster_votesFault (t:TupI (K_impl_Cluster_votesFault.ins.map PS.sh)):runF X_impl_Cluster_votesFault Try.f34 K_impl_Cluster_votesFault t=K_impl_Cluster_votesFault.F t:=by kernel_rfl
theorem e_impl_Cluster_lockedBy (t:TupI (K_impl_Cluster_lockedBy.ins.map PS.sh)):runF X_impl_Cluster_lockedBy Try.f31 K_impl_Cluster_lockedBy t=K_impl_Cluster_lockedBy.F t:=by kernel_rfl
theorem e_spec_DrawNewCluster (t:TupI (K_spec_DrawNewCluster.ins.map PS.sh)):runF X_spec_DrawNewCluster Try.f5 K_spec_DrawNewCluster t=K_spec_DrawNewCluster.F t:=by kernel_rfl
theorem e_impl_isRising (t:TupI (K_impl_isRising.ins.map PS.sh)):runF X_impl_isRising Try.f44 K_impl_isRising t=K_impl_isRising.F t:=by kernel_rfl
theorem e_slices_Index_Limpl_Vote_impl_Vote (t:TupI (K_slices_Index_Limpl_Vote_impl_Vote.ins.map PS.sh)):runF X_slices_Index_Limpl_Vote_impl_Vote Try.f83 K_slices_Index_Limpl_Vote_impl_Vote t=K_slices_Index_Limpl_Vote_impl_Vote.F t:=by kernel_rfl
theorem e_spec_l10DrawKeys (t:TupI (K_spec_l10DrawKeys.ins.map PS.sh)):runF X_spec_l10DrawKeys Try.f15 K_spec_l10DrawKeys t=K_spec_l10DrawKeys.F t:=by kernel_rfl
theorem e_spec_l1Pick (t:TupI (K_spec_l1Pick.ins.map PS.sh)):runF X_spec_l1Pick Try.f17 K_spec_l1Pick t=K_spec_l1Pick.F t:=by kernel_rfl
theorem e_slices_IndexFunc_Limpl_Node_impl_Node (t:TupI (K_slices_IndexFunc_Limpl_Node_impl_Node.ins.map PS.sh)):runF X_slices_IndexFunc_Limpl_Node_impl_Node Try.f93 K_slices_IndexFunc_Limpl_Node_impl_Node t=K_slices_IndexFunc_Limpl_Node_impl_Node.F t:=by kernel_rfl
theorem e_slices_Index_Lint64_int64 (t:TupI (K_slices_Index_Lint64_int64.ins.map PS.sh)):runF X_slices_Index_Lint64_int64 Try.f68 K_slices_Index_Lint64_int64 t=K_slices_Index_Lint64_int64.F t:=by kernel_rfl
theorem e_impl_Cluster_heardFault (t:TupI (K_impl_Cluster_heardFault.ins.map PS.sh)):runF X_impl_Cluster_heardFault Try.f35 K_impl_Cluster_heardFault t=K_impl_Cluster_heardFault.F t:=by kernel_rfl
theorem e_impl_countFor (t:TupI (K_impl_countFor.ins.map PS.sh)):runF X_impl_countFor Try.f53 K_impl_countFor t=K_impl_countFor.F t:=by kernel_rfl
theorem e_laws_lwHas (t:TupI (K_laws_lwHas.ins.map PS.sh)):runF X_laws_lwHas Try.f8 K_laws_lwHas t=K_laws_lwHas.F t:=by kernel_rfl
theorem e_impl_findNode (t:TupI (K_impl_findNode.ins.map PS.sh)):runF X_impl_findNode Try.f79 K_impl_findNode t=K_impl_findNode.F t:=by kernel_rfl
theorem e_impl_isKey (t:TupI (K_impl_isKey.ins.map PS.sh)):runF X_impl_isKey Try.f67 K_impl_isKey t=K_impl_isKey.F t:=by kernel_rfl
theorem e_impl_isAbove (t:TupI (K_impl_isAbove.ins.map PS.sh)):runF X_impl_isAbove Try.f63 K_impl_isAbove t=K_impl_isAbove.F t:=by kernel_rfl
theorem e_impl_Cluster_findVoter_c1 (t:TupI (K_impl_Cluster_findVoter_c1.ins.map PS.sh)):runF X_impl_Cluster_findVoter_c1 Try.f96 K_impl_Cluster_findVoter_c1 t=K_impl_Cluster_findVoter_c1.F t:=by kernel_rfl
end CL
end Go.Dx

