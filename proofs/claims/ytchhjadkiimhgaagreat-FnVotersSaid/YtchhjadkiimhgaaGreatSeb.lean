/- The executor finds what each function computes: by computation -/
import Derived.Test.YtchhjadkiimhgaaGreatSca
set_option linter.unusedVariables false
set_option linter.unusedSimpArgs false
set_option maxRecDepth 100000
set_option maxHeartbeats 0
namespace Go.Dx
open Go.Proofs
namespace CL

theorem e_spec_l12Some (t:TupI (K_spec_l12Some.ins.map PS.sh)):runF X_spec_l12Some Tryz.f158 K_spec_l12Some t=K_spec_l12Some.F t:=by kernel_rfl
theorem e_laws_lwNums (t:TupI (K_laws_lwNums.ins.map PS.sh)):runF X_laws_lwNums Tryz.f14 K_laws_lwNums t=K_laws_lwNums.F t:=by kernel_rfl
theorem e_slices_IndexFunc_Lint64_int64 (t:TupI (K_slices_IndexFunc_Lint64_int64.ins.map PS.sh)):runF X_slices_IndexFunc_Lint64_int64 Tryz.f142 K_slices_IndexFunc_Lint64_int64 t=K_slices_IndexFunc_Lint64_int64.F t:=by kernel_rfl
theorem e_slices_ContainsFunc_Lint64_int64 (t:TupI (K_slices_ContainsFunc_Lint64_int64.ins.map PS.sh)):runF X_slices_ContainsFunc_Lint64_int64 Tryz.f81 K_slices_ContainsFunc_Lint64_int64 t=K_slices_ContainsFunc_Lint64_int64.F t:=by kernel_rfl
theorem e_spec_l1Min (t:TupI (K_spec_l1Min.ins.map PS.sh)):runF X_spec_l1Min Tryz.f183 K_spec_l1Min t=K_spec_l1Min.F t:=by kernel_rfl
theorem e_spec_l12Err (t:TupI (K_spec_l12Err.ins.map PS.sh)):runF X_spec_l12Err Tryz.f53 K_spec_l12Err t=K_spec_l12Err.F t:=by kernel_rfl
theorem e_impl_related (t:TupI (K_impl_related.ins.map PS.sh)):runF X_impl_related Tryz.f67 K_impl_related t=K_impl_related.F t:=by kernel_rfl
theorem e_impl_Related (t:TupI (K_impl_Related.ins.map PS.sh)):runF X_impl_Related Tryz.f19 K_impl_Related t=K_impl_Related.F t:=by kernel_rfl
theorem e_laws_lwBig (t:TupI (K_laws_lwBig.ins.map PS.sh)):runF X_laws_lwBig Tryz.f9 K_laws_lwBig t=K_laws_lwBig.F t:=by kernel_rfl
theorem e_impl_badFault (t:TupI (K_impl_badFault.ins.map PS.sh)):runF X_impl_badFault Tryz.f60 K_impl_badFault t=K_impl_badFault.F t:=by kernel_rfl
theorem e_slices_IndexFunc_Limpl_Node_impl_Node (t:TupI (K_slices_IndexFunc_Limpl_Node_impl_Node.ins.map PS.sh)):runF X_slices_IndexFunc_Limpl_Node_impl_Node Tryz.f187 K_slices_IndexFunc_Limpl_Node_impl_Node t=K_slices_IndexFunc_Limpl_Node_impl_Node.F t:=by kernel_rfl
theorem e_slices_Index_Lint64_int64 (t:TupI (K_slices_Index_Lint64_int64.ins.map PS.sh)):runF X_slices_Index_Lint64_int64 Tryz.f106 K_slices_Index_Lint64_int64 t=K_slices_Index_Lint64_int64.F t:=by kernel_rfl
theorem e_slices_Contains_Limpl_Vote_impl_Vote (t:TupI (K_slices_Contains_Limpl_Vote_impl_Vote.ins.map PS.sh)):runF X_slices_Contains_Limpl_Vote_impl_Vote Tryz.f111 K_slices_Contains_Limpl_Vote_impl_Vote t=K_slices_Contains_Limpl_Vote_impl_Vote.F t:=by kernel_rfl
theorem e_impl_findNode_c1 (t:TupI (K_impl_findNode_c1.ins.map PS.sh)):runF X_impl_findNode_c1 Tryz.f188 K_impl_findNode_c1 t=K_impl_findNode_c1.F t:=by kernel_rfl
theorem e_impl_areKeys (t:TupI (K_impl_areKeys.ins.map PS.sh)):runF X_impl_areKeys Tryz.f124 K_impl_areKeys t=K_impl_areKeys.F t:=by kernel_rfl
theorem e_impl_Cluster_votersFault_c1 (t:TupI (K_impl_Cluster_votersFault_c1.ins.map PS.sh)):runF X_impl_Cluster_votersFault_c1 Tryz.f129 K_impl_Cluster_votersFault_c1 t=K_impl_Cluster_votersFault_c1.F t:=by kernel_rfl
end CL
end Go.Dx

