/- The executor finds what each function computes: by computation -/
import Derived.Test.YtchhjadkiimhgaaGreatSca
set_option linter.unusedVariables false
set_option linter.unusedSimpArgs false
set_option maxRecDepth 100000
set_option maxHeartbeats 0
namespace Go.Dx
open Go.Proofs
namespace CL

theorem e_spec_l12Stands (t:TupI (K_spec_l12Stands.ins.map PS.sh)):runF X_spec_l12Stands Tryz.f165 K_spec_l12Stands t=K_spec_l12Stands.F t:=by kernel_rfl
theorem e_spec_l12Votes (t:TupI (K_spec_l12Votes.ins.map PS.sh)):runF X_spec_l12Votes Tryz.f116 K_spec_l12Votes t=K_spec_l12Votes.F t:=by kernel_rfl
theorem e_spec_NewCluster (t:TupI (K_spec_NewCluster.ins.map PS.sh)):runF X_spec_NewCluster Tryz.f157 K_spec_NewCluster t=K_spec_NewCluster.F t:=by kernel_rfl
theorem e_spec_HearAt (t:TupI (K_spec_HearAt.ins.map PS.sh)):runF X_spec_HearAt Tryz.f135 K_spec_HearAt t=K_spec_HearAt.F t:=by kernel_rfl
theorem e_spec_ChooseAt (t:TupI (K_spec_ChooseAt.ins.map PS.sh)):runF X_spec_ChooseAt Tryz.f134 K_spec_ChooseAt t=K_spec_ChooseAt.F t:=by kernel_rfl
theorem e_spec_l9Right (t:TupI (K_spec_l9Right.ins.map PS.sh)):runF X_spec_l9Right Tryz.f159 K_spec_l9Right t=K_spec_l9Right.F t:=by kernel_rfl
theorem e_spec_l10Bent (t:TupI (K_spec_l10Bent.ins.map PS.sh)):runF X_spec_l10Bent Tryz.f99 K_spec_l10Bent t=K_spec_l10Bent.F t:=by kernel_rfl
theorem e_spec_ForgeAt (t:TupI (K_spec_ForgeAt.ins.map PS.sh)):runF X_spec_ForgeAt Tryz.f12 K_spec_ForgeAt t=K_spec_ForgeAt.F t:=by kernel_rfl
theorem e_spec_l9Bent (t:TupI (K_spec_l9Bent.ins.map PS.sh)):runF X_spec_l9Bent Tryz.f101 K_spec_l9Bent t=K_spec_l9Bent.F t:=by kernel_rfl
theorem e_impl_nodeFault (t:TupI (K_impl_nodeFault.ins.map PS.sh)):runF X_impl_nodeFault Tryz.f126 K_impl_nodeFault t=K_impl_nodeFault.F t:=by kernel_rfl
theorem e_slices_IndexFunc_Lint64_int64 (t:TupI (K_slices_IndexFunc_Lint64_int64.ins.map PS.sh)):runF X_slices_IndexFunc_Lint64_int64 Tryz.f142 K_slices_IndexFunc_Lint64_int64 t=K_slices_IndexFunc_Lint64_int64.F t:=by kernel_rfl
theorem e_spec_l12Has (t:TupI (K_spec_l12Has.ins.map PS.sh)):runF X_spec_l12Has Tryz.f122 K_spec_l12Has t=K_spec_l12Has.F t:=by kernel_rfl
theorem e_impl_TreeFault (t:TupI (K_impl_TreeFault.ins.map PS.sh)):runF X_impl_TreeFault Tryz.f61 K_impl_TreeFault t=K_impl_TreeFault.F t:=by kernel_rfl
theorem e_impl_VoteFault (t:TupI (K_impl_VoteFault.ins.map PS.sh)):runF X_impl_VoteFault Tryz.f48 K_impl_VoteFault t=K_impl_VoteFault.F t:=by kernel_rfl
theorem e_spec_l9Node (t:TupI (K_spec_l9Node.ins.map PS.sh)):runF X_spec_l9Node Tryz.f162 K_spec_l9Node t=K_spec_l9Node.F t:=by kernel_rfl
theorem e_spec_l12Good (t:TupI (K_spec_l12Good.ins.map PS.sh)):runF X_spec_l12Good Tryz.f163 K_spec_l12Good t=K_spec_l12Good.F t:=by kernel_rfl
theorem e_slices_EqualFunc_Limpl_Voter_Lint64_impl_Voter_int64 (t:TupI (K_slices_EqualFunc_Limpl_Voter_Lint64_impl_Voter_int64.ins.map PS.sh)):runF X_slices_EqualFunc_Limpl_Voter_Lint64_impl_Voter_int64 Tryz.f128 K_slices_EqualFunc_Limpl_Voter_Lint64_impl_Voter_int64 t=K_slices_EqualFunc_Limpl_Voter_Lint64_impl_Voter_int64.F t:=by kernel_rfl
theorem e_laws_lwBig (t:TupI (K_laws_lwBig.ins.map PS.sh)):runF X_laws_lwBig Tryz.f9 K_laws_lwBig t=K_laws_lwBig.F t:=by kernel_rfl
theorem e_impl_Cluster_heardFault (t:TupI (K_impl_Cluster_heardFault.ins.map PS.sh)):runF X_impl_Cluster_heardFault Tryz.f64 K_impl_Cluster_heardFault t=K_impl_Cluster_heardFault.F t:=by kernel_rfl
theorem e_slices_IndexFunc_Limpl_Node_impl_Node (t:TupI (K_slices_IndexFunc_Limpl_Node_impl_Node.ins.map PS.sh)):runF X_slices_IndexFunc_Limpl_Node_impl_Node Tryz.f187 K_slices_IndexFunc_Limpl_Node_impl_Node t=K_slices_IndexFunc_Limpl_Node_impl_Node.F t:=by kernel_rfl
theorem e_impl_pathTo (t:TupI (K_impl_pathTo.ins.map PS.sh)):runF X_impl_pathTo Tryz.f155 K_impl_pathTo t=K_impl_pathTo.F t:=by kernel_rfl
theorem e_slices_Index_Lint64_int64 (t:TupI (K_slices_Index_Lint64_int64.ins.map PS.sh)):runF X_slices_Index_Lint64_int64 Tryz.f106 K_slices_Index_Lint64_int64 t=K_slices_Index_Lint64_int64.F t:=by kernel_rfl
theorem e_impl_goodKeys (t:TupI (K_impl_goodKeys.ins.map PS.sh)):runF X_impl_goodKeys Tryz.f127 K_impl_goodKeys t=K_impl_goodKeys.F t:=by kernel_rfl
theorem e_slices_Clone_Limpl_Choice_impl_Choice (t:TupI (K_slices_Clone_Limpl_Choice_impl_Choice.ins.map PS.sh)):runF X_slices_Clone_Limpl_Choice_impl_Choice Tryz.f160 K_slices_Clone_Limpl_Choice_impl_Choice t=K_slices_Clone_Limpl_Choice_impl_Choice.F t:=by kernel_rfl
theorem e_impl_Voter_chosen_c1 (t:TupI (K_impl_Voter_chosen_c1.ins.map PS.sh)):runF X_impl_Voter_chosen_c1 Tryz.f174 K_impl_Voter_chosen_c1 t=K_impl_Voter_chosen_c1.F t:=by kernel_rfl
theorem e_impl_findNode (t:TupI (K_impl_findNode.ins.map PS.sh)):runF X_impl_findNode Tryz.f167 K_impl_findNode t=K_impl_findNode.F t:=by kernel_rfl
theorem e_spec_l1Chance (t:TupI (K_spec_l1Chance.ins.map PS.sh)):runF X_spec_l1Chance Tryz.f47 K_spec_l1Chance t=K_spec_l1Chance.F t:=by kernel_rfl
theorem e_impl_Cluster_votersFault_c1 (t:TupI (K_impl_Cluster_votersFault_c1.ins.map PS.sh)):runF X_impl_Cluster_votersFault_c1 Tryz.f129 K_impl_Cluster_votersFault_c1 t=K_impl_Cluster_votersFault_c1.F t:=by kernel_rfl
end CL
end Go.Dx

