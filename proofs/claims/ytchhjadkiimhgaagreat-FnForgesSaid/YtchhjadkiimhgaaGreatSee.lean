/- The executor finds what each function computes: by computation -/
import Derived.Test.YtchhjadkiimhgaaGreatSca
set_option linter.unusedVariables false
set_option linter.unusedSimpArgs false
set_option maxRecDepth 100000
set_option maxHeartbeats 0
namespace Go.Dx
open Go.Proofs
namespace CL

theorem e_spec_l12Heard (t:TupI (K_spec_l12Heard.ins.map PS.sh)):runF X_spec_l12Heard Tryz.f117 K_spec_l12Heard t=K_spec_l12Heard.F t:=by kernel_rfl
theorem e_impl_ownCluster (t:TupI (K_impl_ownCluster.ins.map PS.sh)):runF X_impl_ownCluster Tryz.f50 K_impl_ownCluster t=K_impl_ownCluster.F t:=by kernel_rfl
theorem e_spec_l12Voters (t:TupI (K_spec_l12Voters.ins.map PS.sh)):runF X_spec_l12Voters Tryz.f115 K_spec_l12Voters t=K_spec_l12Voters.F t:=by kernel_rfl
theorem e_spec_l10Fault (t:TupI (K_spec_l10Fault.ins.map PS.sh)):runF X_spec_l10Fault Tryz.f112 K_spec_l10Fault t=K_spec_l10Fault.F t:=by kernel_rfl
theorem e_spec_l12Bad (t:TupI (K_spec_l12Bad.ins.map PS.sh)):runF X_spec_l12Bad Tryz.f113 K_spec_l12Bad t=K_spec_l12Bad.F t:=by kernel_rfl
theorem e_spec_CastAt (t:TupI (K_spec_CastAt.ins.map PS.sh)):runF X_spec_CastAt Tryz.f22 K_spec_CastAt t=K_spec_CastAt.F t:=by kernel_rfl
theorem e_spec_l11Choose (t:TupI (K_spec_l11Choose.ins.map PS.sh)):runF X_spec_l11Choose Tryz.f189 K_spec_l11Choose t=K_spec_l11Choose.F t:=by kernel_rfl
theorem e_spec_DrawForgeAt (t:TupI (K_spec_DrawForgeAt.ins.map PS.sh)):runF X_spec_DrawForgeAt Tryz.f10 K_spec_DrawForgeAt t=K_spec_DrawForgeAt.F t:=by kernel_rfl
theorem e_spec_l11At (t:TupI (K_spec_l11At.ins.map PS.sh)):runF X_spec_l11At Tryz.f186 K_spec_l11At t=K_spec_l11At.F t:=by kernel_rfl
theorem e_spec_ChooseFor (t:TupI (K_spec_ChooseFor.ins.map PS.sh)):runF X_spec_ChooseFor Tryz.f171 K_spec_ChooseFor t=K_spec_ChooseFor.F t:=by kernel_rfl
theorem e_spec_l11BentVote (t:TupI (K_spec_l11BentVote.ins.map PS.sh)):runF X_spec_l11BentVote Tryz.f46 K_spec_l11BentVote t=K_spec_l11BentVote.F t:=by kernel_rfl
theorem e_slices_ContainsFunc_Lint64_int64 (t:TupI (K_slices_ContainsFunc_Lint64_int64.ins.map PS.sh)):runF X_slices_ContainsFunc_Lint64_int64 Tryz.f81 K_slices_ContainsFunc_Lint64_int64 t=K_slices_ContainsFunc_Lint64_int64.F t:=by kernel_rfl
theorem e_impl_within (t:TupI (K_impl_within.ins.map PS.sh)):runF X_impl_within Tryz.f59 K_impl_within t=K_impl_within.F t:=by kernel_rfl
theorem e_spec_l4Among (t:TupI (K_spec_l4Among.ins.map PS.sh)):runF X_spec_l4Among Tryz.f55 K_spec_l4Among t=K_spec_l4Among.F t:=by kernel_rfl
theorem e_slices_Index_Limpl_Vote_impl_Vote (t:TupI (K_slices_Index_Limpl_Vote_impl_Vote.ins.map PS.sh)):runF X_slices_Index_Limpl_Vote_impl_Vote Tryz.f161 K_slices_Index_Limpl_Vote_impl_Vote t=K_slices_Index_Limpl_Vote_impl_Vote.F t:=by kernel_rfl
theorem e_spec_l12At (t:TupI (K_spec_l12At.ins.map PS.sh)):runF X_spec_l12At Tryz.f73 K_spec_l12At t=K_spec_l12At.F t:=by kernel_rfl
theorem e_slices_DeleteFunc_Lint64_int64 (t:TupI (K_slices_DeleteFunc_Lint64_int64.ins.map PS.sh)):runF X_slices_DeleteFunc_Lint64_int64 Tryz.f168 K_slices_DeleteFunc_Lint64_int64 t=K_slices_DeleteFunc_Lint64_int64.F t:=by kernel_rfl
theorem e_spec_l1In (t:TupI (K_spec_l1In.ins.map PS.sh)):runF X_spec_l1In Tryz.f118 K_spec_l1In t=K_spec_l1In.F t:=by kernel_rfl
theorem e_spec_l9Above (t:TupI (K_spec_l9Above.ins.map PS.sh)):runF X_spec_l9Above Tryz.f139 K_spec_l9Above t=K_spec_l9Above.F t:=by kernel_rfl
theorem e_spec_l9At (t:TupI (K_spec_l9At.ins.map PS.sh)):runF X_spec_l9At Tryz.f138 K_spec_l9At t=K_spec_l9At.F t:=by kernel_rfl
theorem e_spec_l11Tx (t:TupI (K_spec_l11Tx.ins.map PS.sh)):runF X_spec_l11Tx Tryz.f120 K_spec_l11Tx t=K_spec_l11Tx.F t:=by kernel_rfl
theorem e_impl_Cluster_heardFault_c1 (t:TupI (K_impl_Cluster_heardFault_c1.ins.map PS.sh)):runF X_impl_Cluster_heardFault_c1 Tryz.f132 K_impl_Cluster_heardFault_c1 t=K_impl_Cluster_heardFault_c1.F t:=by kernel_rfl
theorem e_slices_Contains_Limpl_Vote_impl_Vote (t:TupI (K_slices_Contains_Limpl_Vote_impl_Vote.ins.map PS.sh)):runF X_slices_Contains_Limpl_Vote_impl_Vote Tryz.f111 K_slices_Contains_Limpl_Vote_impl_Vote t=K_slices_Contains_Limpl_Vote_impl_Vote.F t:=by kernel_rfl
theorem e_slices_Clone_Limpl_Node_impl_Node (t:TupI (K_slices_Clone_Limpl_Node_impl_Node.ins.map PS.sh)):runF X_slices_Clone_Limpl_Node_impl_Node Tryz.f108 K_slices_Clone_Limpl_Node_impl_Node t=K_slices_Clone_Limpl_Node_impl_Node.F t:=by kernel_rfl
theorem e_impl_VoterFault_c1 (t:TupI (K_impl_VoterFault_c1.ins.map PS.sh)):runF X_impl_VoterFault_c1 Tryz.f170 K_impl_VoterFault_c1 t=K_impl_VoterFault_c1.F t:=by kernel_rfl
theorem e_impl_Cluster_findVoter_c1 (t:TupI (K_impl_Cluster_findVoter_c1.ins.map PS.sh)):runF X_impl_Cluster_findVoter_c1 Tryz.f173 K_impl_Cluster_findVoter_c1 t=K_impl_Cluster_findVoter_c1.F t:=by kernel_rfl
theorem e_slices_Contains_Lint64_int64 (t:TupI (K_slices_Contains_Lint64_int64.ins.map PS.sh)):runF X_slices_Contains_Lint64_int64 Tryz.f49 K_slices_Contains_Lint64_int64 t=K_slices_Contains_Lint64_int64.F t:=by kernel_rfl
theorem e_slices_ContainsFunc_Limpl_Choice_impl_Choice (t:TupI (K_slices_ContainsFunc_Limpl_Choice_impl_Choice.ins.map PS.sh)):runF X_slices_ContainsFunc_Limpl_Choice_impl_Choice Tryz.f83 K_slices_ContainsFunc_Limpl_Choice_impl_Choice t=K_slices_ContainsFunc_Limpl_Choice_impl_Choice.F t:=by kernel_rfl
end CL
end Go.Dx

