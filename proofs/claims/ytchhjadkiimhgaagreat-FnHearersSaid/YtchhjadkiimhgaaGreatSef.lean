/- The executor finds what each function computes: by computation -/
import Derived.Test.YtchhjadkiimhgaaGreatSca
set_option linter.unusedVariables false
set_option linter.unusedSimpArgs false
set_option maxRecDepth 100000
set_option maxHeartbeats 0
namespace Go.Dx
open Go.Proofs
namespace CL

theorem e_spec_l9Best (t:TupI (K_spec_l9Best.ins.map PS.sh)):runF X_spec_l9Best Tryz.f154 K_spec_l9Best t=K_spec_l9Best.F t:=by kernel_rfl
theorem e_impl_ownCluster (t:TupI (K_impl_ownCluster.ins.map PS.sh)):runF X_impl_ownCluster Tryz.f50 K_impl_ownCluster t=K_impl_ownCluster.F t:=by kernel_rfl
theorem e_spec_l9Fits (t:TupI (K_spec_l9Fits.ins.map PS.sh)):runF X_spec_l9Fits Tryz.f180 K_spec_l9Fits t=K_spec_l9Fits.F t:=by kernel_rfl
theorem e_impl_HearAt (t:TupI (K_impl_HearAt.ins.map PS.sh)):runF X_impl_HearAt Tryz.f25 K_impl_HearAt t=K_impl_HearAt.F t:=by kernel_rfl
theorem e_impl_bestOf_c1 (t:TupI (K_impl_bestOf_c1.ins.map PS.sh)):runF X_impl_bestOf_c1 Tryz.f179 K_impl_bestOf_c1 t=K_impl_bestOf_c1.F t:=by kernel_rfl
theorem e_spec_l12Bad (t:TupI (K_spec_l12Bad.ins.map PS.sh)):runF X_spec_l12Bad Tryz.f113 K_spec_l12Bad t=K_spec_l12Bad.F t:=by kernel_rfl
theorem e_impl_Cluster_put (t:TupI (K_impl_Cluster_put.ins.map PS.sh)):runF X_impl_Cluster_put Tryz.f51 K_impl_Cluster_put t=K_impl_Cluster_put.F t:=by kernel_rfl
theorem e_impl_castFor (t:TupI (K_impl_castFor.ins.map PS.sh)):runF X_impl_castFor Tryz.f72 K_impl_castFor t=K_impl_castFor.F t:=by kernel_rfl
theorem e_impl_addNode (t:TupI (K_impl_addNode.ins.map PS.sh)):runF X_impl_addNode Tryz.f79 K_impl_addNode t=K_impl_addNode.F t:=by kernel_rfl
theorem e_impl_ForgeAt (t:TupI (K_impl_ForgeAt.ins.map PS.sh)):runF X_impl_ForgeAt Tryz.f11 K_impl_ForgeAt t=K_impl_ForgeAt.F t:=by kernel_rfl
theorem e_impl_nodeFault (t:TupI (K_impl_nodeFault.ins.map PS.sh)):runF X_impl_nodeFault Tryz.f126 K_impl_nodeFault t=K_impl_nodeFault.F t:=by kernel_rfl
theorem e_impl_VoterFault (t:TupI (K_impl_VoterFault.ins.map PS.sh)):runF X_impl_VoterFault Tryz.f130 K_impl_VoterFault t=K_impl_VoterFault.F t:=by kernel_rfl
theorem e_impl_isRising (t:TupI (K_impl_isRising.ins.map PS.sh)):runF X_impl_isRising Tryz.f125 K_impl_isRising t=K_impl_isRising.F t:=by kernel_rfl
theorem e_impl_Cluster_isHearer (t:TupI (K_impl_Cluster_isHearer.ins.map PS.sh)):runF X_impl_Cluster_isHearer Tryz.f78 K_impl_Cluster_isHearer t=K_impl_Cluster_isHearer.F t:=by kernel_rfl
theorem e_impl_countFor (t:TupI (K_impl_countFor.ins.map PS.sh)):runF X_impl_countFor Tryz.f93 K_impl_countFor t=K_impl_countFor.F t:=by kernel_rfl
theorem e_spec_BestFor (t:TupI (K_spec_BestFor.ins.map PS.sh)):runF X_spec_BestFor Tryz.f42 K_spec_BestFor t=K_spec_BestFor.F t:=by kernel_rfl
theorem e_impl_LockedBlocks (t:TupI (K_impl_LockedBlocks.ins.map PS.sh)):runF X_impl_LockedBlocks Tryz.f36 K_impl_LockedBlocks t=K_impl_LockedBlocks.F t:=by kernel_rfl
theorem e_slices_Index_Limpl_Vote_impl_Vote (t:TupI (K_slices_Index_Limpl_Vote_impl_Vote.ins.map PS.sh)):runF X_slices_Index_Limpl_Vote_impl_Vote Tryz.f161 K_slices_Index_Limpl_Vote_impl_Vote t=K_slices_Index_Limpl_Vote_impl_Vote.F t:=by kernel_rfl
theorem e_cmp_Compare_int64 (t:TupI (K_cmp_Compare_int64.ins.map PS.sh)):runF X_cmp_Compare_int64 Tryz.f149 K_cmp_Compare_int64 t=K_cmp_Compare_int64.F t:=by kernel_rfl
theorem e_impl_ChooseAt (t:TupI (K_impl_ChooseAt.ins.map PS.sh)):runF X_impl_ChooseAt Tryz.f23 K_impl_ChooseAt t=K_impl_ChooseAt.F t:=by kernel_rfl
theorem e_impl_related (t:TupI (K_impl_related.ins.map PS.sh)):runF X_impl_related Tryz.f67 K_impl_related t=K_impl_related.F t:=by kernel_rfl
theorem e_slices_DeleteFunc_Lint64_int64 (t:TupI (K_slices_DeleteFunc_Lint64_int64.ins.map PS.sh)):runF X_slices_DeleteFunc_Lint64_int64 Tryz.f168 K_slices_DeleteFunc_Lint64_int64 t=K_slices_DeleteFunc_Lint64_int64.F t:=by kernel_rfl
theorem e_impl_Related (t:TupI (K_impl_Related.ins.map PS.sh)):runF X_impl_Related Tryz.f19 K_impl_Related t=K_impl_Related.F t:=by kernel_rfl
theorem e_impl_isKey (t:TupI (K_impl_isKey.ins.map PS.sh)):runF X_impl_isKey Tryz.f105 K_impl_isKey t=K_impl_isKey.F t:=by kernel_rfl
theorem e_impl_BestFor (t:TupI (K_impl_BestFor.ins.map PS.sh)):runF X_impl_BestFor Tryz.f41 K_impl_BestFor t=K_impl_BestFor.F t:=by kernel_rfl
theorem e_impl_badFault (t:TupI (K_impl_badFault.ins.map PS.sh)):runF X_impl_badFault Tryz.f60 K_impl_badFault t=K_impl_badFault.F t:=by kernel_rfl
theorem e_spec_l3Ref (t:TupI (K_spec_l3Ref.ins.map PS.sh)):runF X_spec_l3Ref Tryz.f121 K_spec_l3Ref t=K_spec_l3Ref.F t:=by kernel_rfl
theorem e_slices_IndexFunc_Limpl_Node_impl_Node (t:TupI (K_slices_IndexFunc_Limpl_Node_impl_Node.ins.map PS.sh)):runF X_slices_IndexFunc_Limpl_Node_impl_Node Tryz.f187 K_slices_IndexFunc_Limpl_Node_impl_Node t=K_slices_IndexFunc_Limpl_Node_impl_Node.F t:=by kernel_rfl
theorem e_impl_pathTo (t:TupI (K_impl_pathTo.ins.map PS.sh)):runF X_impl_pathTo Tryz.f155 K_impl_pathTo t=K_impl_pathTo.F t:=by kernel_rfl
theorem e_cmp_isNaN_int64 (t:TupI (K_cmp_isNaN_int64.ins.map PS.sh)):runF X_cmp_isNaN_int64 Tryz.f178 K_cmp_isNaN_int64 t=K_cmp_isNaN_int64.F t:=by kernel_rfl
theorem e_impl_Cluster_heardFault_c1 (t:TupI (K_impl_Cluster_heardFault_c1.ins.map PS.sh)):runF X_impl_Cluster_heardFault_c1 Tryz.f132 K_impl_Cluster_heardFault_c1 t=K_impl_Cluster_heardFault_c1.F t:=by kernel_rfl
theorem e_impl_NewCluster_c1 (t:TupI (K_impl_NewCluster_c1.ins.map PS.sh)):runF X_impl_NewCluster_c1 Tryz.f148 K_impl_NewCluster_c1 t=K_impl_NewCluster_c1.F t:=by kernel_rfl
theorem e_impl_Voter_chosen (t:TupI (K_impl_Voter_chosen.ins.map PS.sh)):runF X_impl_Voter_chosen Tryz.f140 K_impl_Voter_chosen t=K_impl_Voter_chosen.F t:=by kernel_rfl
theorem e_slices_Clone_Limpl_Node_impl_Node (t:TupI (K_slices_Clone_Limpl_Node_impl_Node.ins.map PS.sh)):runF X_slices_Clone_Limpl_Node_impl_Node Tryz.f108 K_slices_Clone_Limpl_Node_impl_Node t=K_slices_Clone_Limpl_Node_impl_Node.F t:=by kernel_rfl
theorem e_impl_goodKeys_c1 (t:TupI (K_impl_goodKeys_c1.ins.map PS.sh)):runF X_impl_goodKeys_c1 Tryz.f169 K_impl_goodKeys_c1 t=K_impl_goodKeys_c1.F t:=by kernel_rfl
theorem e_impl_VoterFault_c1 (t:TupI (K_impl_VoterFault_c1.ins.map PS.sh)):runF X_impl_VoterFault_c1 Tryz.f170 K_impl_VoterFault_c1 t=K_impl_VoterFault_c1.F t:=by kernel_rfl
theorem e_impl_isId (t:TupI (K_impl_isId.ins.map PS.sh)):runF X_impl_isId Tryz.f103 K_impl_isId t=K_impl_isId.F t:=by kernel_rfl
theorem e_impl_IsAbove (t:TupI (K_impl_IsAbove.ins.map PS.sh)):runF X_impl_IsAbove Tryz.f43 K_impl_IsAbove t=K_impl_IsAbove.F t:=by kernel_rfl
theorem e_impl_areKeys_c1 (t:TupI (K_impl_areKeys_c1.ins.map PS.sh)):runF X_impl_areKeys_c1 Tryz.f166 K_impl_areKeys_c1 t=K_impl_areKeys_c1.F t:=by kernel_rfl
theorem e_slices_ContainsFunc_Limpl_Choice_impl_Choice (t:TupI (K_slices_ContainsFunc_Limpl_Choice_impl_Choice.ins.map PS.sh)):runF X_slices_ContainsFunc_Limpl_Choice_impl_Choice Tryz.f83 K_slices_ContainsFunc_Limpl_Choice_impl_Choice t=K_slices_ContainsFunc_Limpl_Choice_impl_Choice.F t:=by kernel_rfl
end CL
end Go.Dx

