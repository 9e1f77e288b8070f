/- The executor finds what each function computes: by computation -/
import Derived.Test.YtchhjadkiimhgaaGreatSca
set_option linter.unusedVariables false
set_option linter.unusedSimpArgs false
set_option maxRecDepth 100000
set_option maxHeartbeats 0
namespace Go.Dx
open Go.Proofs
namespace CL

theorem e_spec_l13Coins (t:TupI (K_spec_l13Coins.ins.map PS.sh)):runF X_spec_l13Coins Tryz.f88 K_spec_l13Coins t=K_spec_l13Coins.F t:=by kernel_rfl
theorem e_spec_l12Votes (t:TupI (K_spec_l12Votes.ins.map PS.sh)):runF X_spec_l12Votes Tryz.f116 K_spec_l12Votes t=K_spec_l12Votes.F t:=by kernel_rfl
theorem e_spec_l12Voters (t:TupI (K_spec_l12Voters.ins.map PS.sh)):runF X_spec_l12Voters Tryz.f115 K_spec_l12Voters t=K_spec_l12Voters.F t:=by kernel_rfl
theorem e_impl_NewCluster (t:TupI (K_impl_NewCluster.ins.map PS.sh)):runF X_impl_NewCluster Tryz.f89 K_impl_NewCluster t=K_impl_NewCluster.F t:=by kernel_rfl
theorem e_laws_lwAt (t:TupI (K_laws_lwAt.ins.map PS.sh)):runF X_laws_lwAt Tryz.f24 K_laws_lwAt t=K_laws_lwAt.F t:=by kernel_rfl
theorem e_spec_l12Bad (t:TupI (K_spec_l12Bad.ins.map PS.sh)):runF X_spec_l12Bad Tryz.f113 K_spec_l12Bad t=K_spec_l12Bad.F t:=by kernel_rfl
theorem e_spec_l12Fault (t:TupI (K_spec_l12Fault.ins.map PS.sh)):runF X_spec_l12Fault Tryz.f52 K_spec_l12Fault t=K_spec_l12Fault.F t:=by kernel_rfl
theorem e_spec_l11Count (t:TupI (K_spec_l11Count.ins.map PS.sh)):runF X_spec_l11Count Tryz.f146 K_spec_l11Count t=K_spec_l11Count.F t:=by kernel_rfl
theorem e_impl_ForgeAt (t:TupI (K_impl_ForgeAt.ins.map PS.sh)):runF X_impl_ForgeAt Tryz.f11 K_impl_ForgeAt t=K_impl_ForgeAt.F t:=by kernel_rfl
theorem e_impl_nodeFault (t:TupI (K_impl_nodeFault.ins.map PS.sh)):runF X_impl_nodeFault Tryz.f126 K_impl_nodeFault t=K_impl_nodeFault.F t:=by kernel_rfl
theorem e_impl_VoterFault (t:TupI (K_impl_VoterFault.ins.map PS.sh)):runF X_impl_VoterFault Tryz.f130 K_impl_VoterFault t=K_impl_VoterFault.F t:=by kernel_rfl
theorem e_slices_ContainsFunc_Lint64_int64 (t:TupI (K_slices_ContainsFunc_Lint64_int64.ins.map PS.sh)):runF X_slices_ContainsFunc_Lint64_int64 Tryz.f81 K_slices_ContainsFunc_Lint64_int64 t=K_slices_ContainsFunc_Lint64_int64.F t:=by kernel_rfl
theorem e_impl_NoDouble (t:TupI (K_impl_NoDouble.ins.map PS.sh)):runF X_impl_NoDouble Tryz.f30 K_impl_NoDouble t=K_impl_NoDouble.F t:=by kernel_rfl
theorem e_impl_countFor (t:TupI (K_impl_countFor.ins.map PS.sh)):runF X_impl_countFor Tryz.f93 K_impl_countFor t=K_impl_countFor.F t:=by kernel_rfl
theorem e_impl_TreeFault (t:TupI (K_impl_TreeFault.ins.map PS.sh)):runF X_impl_TreeFault Tryz.f61 K_impl_TreeFault t=K_impl_TreeFault.F t:=by kernel_rfl
theorem e_spec_l4Among (t:TupI (K_spec_l4Among.ins.map PS.sh)):runF X_spec_l4Among Tryz.f55 K_spec_l4Among t=K_spec_l4Among.F t:=by kernel_rfl
theorem e_slices_Index_Limpl_Vote_impl_Vote (t:TupI (K_slices_Index_Limpl_Vote_impl_Vote.ins.map PS.sh)):runF X_slices_Index_Limpl_Vote_impl_Vote Tryz.f161 K_slices_Index_Limpl_Vote_impl_Vote t=K_slices_Index_Limpl_Vote_impl_Vote.F t:=by kernel_rfl
theorem e_spec_l9Node (t:TupI (K_spec_l9Node.ins.map PS.sh)):runF X_spec_l9Node Tryz.f162 K_spec_l9Node t=K_spec_l9Node.F t:=by kernel_rfl
theorem e_spec_l1Key (t:TupI (K_spec_l1Key.ins.map PS.sh)):runF X_spec_l1Key Tryz.f119 K_spec_l1Key t=K_spec_l1Key.F t:=by kernel_rfl
theorem e_impl_ChooseAt_c1 (t:TupI (K_impl_ChooseAt_c1.ins.map PS.sh)):runF X_impl_ChooseAt_c1 Tryz.f76 K_impl_ChooseAt_c1 t=K_impl_ChooseAt_c1.F t:=by kernel_rfl
theorem e_slices_DeleteFunc_Lint64_int64 (t:TupI (K_slices_DeleteFunc_Lint64_int64.ins.map PS.sh)):runF X_slices_DeleteFunc_Lint64_int64 Tryz.f168 K_slices_DeleteFunc_Lint64_int64 t=K_slices_DeleteFunc_Lint64_int64.F t:=by kernel_rfl
theorem e_impl_isKey (t:TupI (K_impl_isKey.ins.map PS.sh)):runF X_impl_isKey Tryz.f105 K_impl_isKey t=K_impl_isKey.F t:=by kernel_rfl
theorem e_spec_l1In (t:TupI (K_spec_l1In.ins.map PS.sh)):runF X_spec_l1In Tryz.f118 K_spec_l1In t=K_spec_l1In.F t:=by kernel_rfl
theorem e_spec_l9Above (t:TupI (K_spec_l9Above.ins.map PS.sh)):runF X_spec_l9Above Tryz.f139 K_spec_l9Above t=K_spec_l9Above.F t:=by kernel_rfl
theorem e_spec_l3Ref (t:TupI (K_spec_l3Ref.ins.map PS.sh)):runF X_spec_l3Ref Tryz.f121 K_spec_l3Ref t=K_spec_l3Ref.F t:=by kernel_rfl
theorem e_impl_pathTo (t:TupI (K_impl_pathTo.ins.map PS.sh)):runF X_impl_pathTo Tryz.f155 K_impl_pathTo t=K_impl_pathTo.F t:=by kernel_rfl
theorem e_impl_isRef (t:TupI (K_impl_isRef.ins.map PS.sh)):runF X_impl_isRef Tryz.f104 K_impl_isRef t=K_impl_isRef.F t:=by kernel_rfl
theorem e_spec_LockedBlocks (t:TupI (K_spec_LockedBlocks.ins.map PS.sh)):runF X_spec_LockedBlocks Tryz.f38 K_spec_LockedBlocks t=K_spec_LockedBlocks.F t:=by kernel_rfl
theorem e_impl_ownVoter (t:TupI (K_impl_ownVoter.ins.map PS.sh)):runF X_impl_ownVoter Tryz.f110 K_impl_ownVoter t=K_impl_ownVoter.F t:=by kernel_rfl
theorem e_impl_NewCluster_c1 (t:TupI (K_impl_NewCluster_c1.ins.map PS.sh)):runF X_impl_NewCluster_c1 Tryz.f148 K_impl_NewCluster_c1 t=K_impl_NewCluster_c1.F t:=by kernel_rfl
theorem e_impl_Voter_chosen (t:TupI (K_impl_Voter_chosen.ins.map PS.sh)):runF X_impl_Voter_chosen Tryz.f140 K_impl_Voter_chosen t=K_impl_Voter_chosen.F t:=by kernel_rfl
theorem e_slices_Clone_Limpl_Node_impl_Node (t:TupI (K_slices_Clone_Limpl_Node_impl_Node.ins.map PS.sh)):runF X_slices_Clone_Limpl_Node_impl_Node Tryz.f108 K_slices_Clone_Limpl_Node_impl_Node t=K_slices_Clone_Limpl_Node_impl_Node.F t:=by kernel_rfl
theorem e_impl_Voter_chosen_c1 (t:TupI (K_impl_Voter_chosen_c1.ins.map PS.sh)):runF X_impl_Voter_chosen_c1 Tryz.f174 K_impl_Voter_chosen_c1 t=K_impl_Voter_chosen_c1.F t:=by kernel_rfl
theorem e_slices_Clone_Limpl_Vote_impl_Vote (t:TupI (K_slices_Clone_Limpl_Vote_impl_Vote.ins.map PS.sh)):runF X_slices_Clone_Limpl_Vote_impl_Vote Tryz.f109 K_slices_Clone_Limpl_Vote_impl_Vote t=K_slices_Clone_Limpl_Vote_impl_Vote.F t:=by kernel_rfl
theorem e_impl_Cluster_findVoter_c1 (t:TupI (K_impl_Cluster_findVoter_c1.ins.map PS.sh)):runF X_impl_Cluster_findVoter_c1 Tryz.f173 K_impl_Cluster_findVoter_c1 t=K_impl_Cluster_findVoter_c1.F t:=by kernel_rfl
theorem e_impl_Cluster_findVoter (t:TupI (K_impl_Cluster_findVoter.ins.map PS.sh)):runF X_impl_Cluster_findVoter Tryz.f136 K_impl_Cluster_findVoter t=K_impl_Cluster_findVoter.F t:=by kernel_rfl
theorem e_impl_areKeys_c1 (t:TupI (K_impl_areKeys_c1.ins.map PS.sh)):runF X_impl_areKeys_c1 Tryz.f166 K_impl_areKeys_c1 t=K_impl_areKeys_c1.F t:=by kernel_rfl
end CL
end Go.Dx

