/- The executor finds what each function computes: by computation -/
import Derived.Test.YtchhjadkiimhgaaGreatSca
set_option linter.unusedVariables false
set_option linter.unusedSimpArgs false
set_option maxRecDepth 100000
set_option maxHeartbeats 0
namespace Go.Dx
open Go.Proofs
namespace CL

theorem e_spec_l12Some (t:TupI (K_spec_l12Some.ins.map PS.sh)):runF X_spec_l12Some Tryz.f158 K_spec_l12Some t=K_spec_l12Some.F t:=by kernel_rfl
theorem e_spec_l12Bad (t:TupI (K_spec_l12Bad.ins.map PS.sh)):runF X_spec_l12Bad Tryz.f113 K_spec_l12Bad t=K_spec_l12Bad.F t:=by kernel_rfl
theorem e_spec_l11DrawVote (t:TupI (K_spec_l11DrawVote.ins.map PS.sh)):runF X_spec_l11DrawVote Tryz.f102 K_spec_l11DrawVote t=K_spec_l11DrawVote.F t:=by kernel_rfl
theorem e_spec_AddNode (t:TupI (K_spec_AddNode.ins.map PS.sh)):runF X_spec_AddNode Tryz.f185 K_spec_AddNode t=K_spec_AddNode.F t:=by kernel_rfl
theorem e_spec_l11At (t:TupI (K_spec_l11At.ins.map PS.sh)):runF X_spec_l11At Tryz.f186 K_spec_l11At t=K_spec_l11At.F t:=by kernel_rfl
theorem e_impl_voted (t:TupI (K_impl_voted.ins.map PS.sh)):runF X_impl_voted Tryz.f70 K_impl_voted t=K_impl_voted.F t:=by kernel_rfl
theorem e_spec_l9Fault (t:TupI (K_spec_l9Fault.ins.map PS.sh)):runF X_spec_l9Fault Tryz.f114 K_spec_l9Fault t=K_spec_l9Fault.F t:=by kernel_rfl
theorem e_spec_l12Has (t:TupI (K_spec_l12Has.ins.map PS.sh)):runF X_spec_l12Has Tryz.f122 K_spec_l12Has t=K_spec_l12Has.F t:=by kernel_rfl
theorem e_impl_CastAt_c1 (t:TupI (K_impl_CastAt_c1.ins.map PS.sh)):runF X_impl_CastAt_c1 Tryz.f71 K_impl_CastAt_c1 t=K_impl_CastAt_c1.F t:=by kernel_rfl
theorem e_impl_VoteFault (t:TupI (K_impl_VoteFault.ins.map PS.sh)):runF X_impl_VoteFault Tryz.f48 K_impl_VoteFault t=K_impl_VoteFault.F t:=by kernel_rfl
theorem e_spec_l9Node (t:TupI (K_spec_l9Node.ins.map PS.sh)):runF X_spec_l9Node Tryz.f162 K_spec_l9Node t=K_spec_l9Node.F t:=by kernel_rfl
theorem e_spec_l12Good (t:TupI (K_spec_l12Good.ins.map PS.sh)):runF X_spec_l12Good Tryz.f163 K_spec_l12Good t=K_spec_l12Good.F t:=by kernel_rfl
theorem e_slices_DeleteFunc_Lint64_int64 (t:TupI (K_slices_DeleteFunc_Lint64_int64.ins.map PS.sh)):runF X_slices_DeleteFunc_Lint64_int64 Tryz.f168 K_slices_DeleteFunc_Lint64_int64 t=K_slices_DeleteFunc_Lint64_int64.F t:=by kernel_rfl
theorem e_impl_isIn (t:TupI (K_impl_isIn.ins.map PS.sh)):runF X_impl_isIn Tryz.f137 K_impl_isIn t=K_impl_isIn.F t:=by kernel_rfl
theorem e_spec_l1In (t:TupI (K_spec_l1In.ins.map PS.sh)):runF X_spec_l1In Tryz.f118 K_spec_l1In t=K_spec_l1In.F t:=by kernel_rfl
theorem e_spec_l1Max (t:TupI (K_spec_l1Max.ins.map PS.sh)):runF X_spec_l1Max Tryz.f133 K_spec_l1Max t=K_spec_l1Max.F t:=by kernel_rfl
theorem e_slices_IndexFunc_Limpl_Node_impl_Node (t:TupI (K_slices_IndexFunc_Limpl_Node_impl_Node.ins.map PS.sh)):runF X_slices_IndexFunc_Limpl_Node_impl_Node Tryz.f187 K_slices_IndexFunc_Limpl_Node_impl_Node t=K_slices_IndexFunc_Limpl_Node_impl_Node.F t:=by kernel_rfl
theorem e_slices_Index_Lint64_int64 (t:TupI (K_slices_Index_Lint64_int64.ins.map PS.sh)):runF X_slices_Index_Lint64_int64 Tryz.f106 K_slices_Index_Lint64_int64 t=K_slices_Index_Lint64_int64.F t:=by kernel_rfl
theorem e_slices_Clone_Lint64_int64 (t:TupI (K_slices_Clone_Lint64_int64.ins.map PS.sh)):runF X_slices_Clone_Lint64_int64 Tryz.f107 K_slices_Clone_Lint64_int64 t=K_slices_Clone_Lint64_int64.F t:=by kernel_rfl
theorem e_slices_Clone_Limpl_Node_impl_Node (t:TupI (K_slices_Clone_Limpl_Node_impl_Node.ins.map PS.sh)):runF X_slices_Clone_Limpl_Node_impl_Node Tryz.f108 K_slices_Clone_Limpl_Node_impl_Node t=K_slices_Clone_Limpl_Node_impl_Node.F t:=by kernel_rfl
theorem e_slices_Clone_Limpl_Vote_impl_Vote (t:TupI (K_slices_Clone_Limpl_Vote_impl_Vote.ins.map PS.sh)):runF X_slices_Clone_Limpl_Vote_impl_Vote Tryz.f109 K_slices_Clone_Limpl_Vote_impl_Vote t=K_slices_Clone_Limpl_Vote_impl_Vote.F t:=by kernel_rfl
theorem e_spec_l1Chance (t:TupI (K_spec_l1Chance.ins.map PS.sh)):runF X_spec_l1Chance Tryz.f47 K_spec_l1Chance t=K_spec_l1Chance.F t:=by kernel_rfl
theorem e_impl_isAbove (t:TupI (K_impl_isAbove.ins.map PS.sh)):runF X_impl_isAbove Tryz.f97 K_impl_isAbove t=K_impl_isAbove.F t:=by kernel_rfl
end CL
end Go.Dx

