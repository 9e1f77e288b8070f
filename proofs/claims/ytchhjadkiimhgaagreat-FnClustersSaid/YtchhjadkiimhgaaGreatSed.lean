/- The executor finds what each function computes: by computation -/
import Derived.Test.YtchhjadkiimhgaaGreatSca
set_option linter.unusedVariables false
set_option linter.unusedSimpArgs false
set_option maxRecDepth 100000
set_option maxHeartbeats 0
namespace Go.Dx
open Go.Proofs
namespace CL

theorem e_spec_l12Stands (t:TupI (K_spec_l12Stands.ins.map PS.sh)):runF X_spec_l12Stands Tryz.f165 K_spec_l12Stands t=K_spec_l12Stands.F t:=by kernel_rfl
theorem e_spec_l12Votes (t:TupI (K_spec_l12Votes.ins.map PS.sh)):runF X_spec_l12Votes Tryz.f116 K_spec_l12Votes t=K_spec_l12Votes.F t:=by kernel_rfl
theorem e_spec_NewCluster (t:TupI (K_spec_NewCluster.ins.map PS.sh)):runF X_spec_NewCluster Tryz.f157 K_spec_NewCluster t=K_spec_NewCluster.F t:=by kernel_rfl
theorem e_impl_Cluster_isVoted (t:TupI (K_impl_Cluster_isVoted.ins.map PS.sh)):runF X_impl_Cluster_isVoted Tryz.f131 K_impl_Cluster_isVoted t=K_impl_Cluster_isVoted.F t:=by kernel_rfl
theorem e_laws_lwAt (t:TupI (K_laws_lwAt.ins.map PS.sh)):runF X_laws_lwAt Tryz.f24 K_laws_lwAt t=K_laws_lwAt.F t:=by kernel_rfl
theorem e_spec_l12Fault (t:TupI (K_spec_l12Fault.ins.map PS.sh)):runF X_spec_l12Fault Tryz.f52 K_spec_l12Fault t=K_spec_l12Fault.F t:=by kernel_rfl
theorem e_impl_Cluster_votersFault (t:TupI (K_impl_Cluster_votersFault.ins.map PS.sh)):runF X_impl_Cluster_votersFault Tryz.f62 K_impl_Cluster_votersFault t=K_impl_Cluster_votersFault.F t:=by kernel_rfl
theorem e_impl_castFor (t:TupI (K_impl_castFor.ins.map PS.sh)):runF X_impl_castFor Tryz.f72 K_impl_castFor t=K_impl_castFor.F t:=by kernel_rfl
theorem e_impl_addNode (t:TupI (K_impl_addNode.ins.map PS.sh)):runF X_impl_addNode Tryz.f79 K_impl_addNode t=K_impl_addNode.F t:=by kernel_rfl
theorem e_spec_ChooseFor (t:TupI (K_spec_ChooseFor.ins.map PS.sh)):runF X_spec_ChooseFor Tryz.f171 K_spec_ChooseFor t=K_spec_ChooseFor.F t:=by kernel_rfl
theorem e_impl_VoterFault (t:TupI (K_impl_VoterFault.ins.map PS.sh)):runF X_impl_VoterFault Tryz.f130 K_impl_VoterFault t=K_impl_VoterFault.F t:=by kernel_rfl
theorem e_slices_ContainsFunc_Lint64_int64 (t:TupI (K_slices_ContainsFunc_Lint64_int64.ins.map PS.sh)):runF X_slices_ContainsFunc_Lint64_int64 Tryz.f81 K_slices_ContainsFunc_Lint64_int64 t=K_slices_ContainsFunc_Lint64_int64.F t:=by kernel_rfl
theorem e_spec_GrowTree (t:TupI (K_spec_GrowTree.ins.map PS.sh)):runF X_spec_GrowTree Tryz.f184 K_spec_GrowTree t=K_spec_GrowTree.F t:=by kernel_rfl
theorem e_spec_l12Err (t:TupI (K_spec_l12Err.ins.map PS.sh)):runF X_spec_l12Err Tryz.f53 K_spec_l12Err t=K_spec_l12Err.F t:=by kernel_rfl
theorem e_spec_l10DrawKeys (t:TupI (K_spec_l10DrawKeys.ins.map PS.sh)):runF X_spec_l10DrawKeys Tryz.f182 K_spec_l10DrawKeys t=K_spec_l10DrawKeys.F t:=by kernel_rfl
theorem e_impl_ChooseAt_c1 (t:TupI (K_impl_ChooseAt_c1.ins.map PS.sh)):runF X_impl_ChooseAt_c1 Tryz.f76 K_impl_ChooseAt_c1 t=K_impl_ChooseAt_c1.F t:=by kernel_rfl
theorem e_impl_isKey (t:TupI (K_impl_isKey.ins.map PS.sh)):runF X_impl_isKey Tryz.f105 K_impl_isKey t=K_impl_isKey.F t:=by kernel_rfl
theorem e_impl_CastAt (t:TupI (K_impl_CastAt.ins.map PS.sh)):runF X_impl_CastAt Tryz.f21 K_impl_CastAt t=K_impl_CastAt.F t:=by kernel_rfl
theorem e_laws_lwHas (t:TupI (K_laws_lwHas.ins.map PS.sh)):runF X_laws_lwHas Tryz.f18 K_laws_lwHas t=K_laws_lwHas.F t:=by kernel_rfl
theorem e_impl_pathTo (t:TupI (K_impl_pathTo.ins.map PS.sh)):runF X_impl_pathTo Tryz.f155 K_impl_pathTo t=K_impl_pathTo.F t:=by kernel_rfl
theorem e_slices_IndexFunc_Limpl_Choice_impl_Choice (t:TupI (K_slices_IndexFunc_Limpl_Choice_impl_Choice.ins.map PS.sh)):runF X_slices_IndexFunc_Limpl_Choice_impl_Choice Tryz.f143 K_slices_IndexFunc_Limpl_Choice_impl_Choice t=K_slices_IndexFunc_Limpl_Choice_impl_Choice.F t:=by kernel_rfl
theorem e_slices_Contains_Limpl_Vote_impl_Vote (t:TupI (K_slices_Contains_Limpl_Vote_impl_Vote.ins.map PS.sh)):runF X_slices_Contains_Limpl_Vote_impl_Vote Tryz.f111 K_slices_Contains_Limpl_Vote_impl_Vote t=K_slices_Contains_Limpl_Vote_impl_Vote.F t:=by kernel_rfl
theorem e_impl_goodKeys_c1 (t:TupI (K_impl_goodKeys_c1.ins.map PS.sh)):runF X_impl_goodKeys_c1 Tryz.f169 K_impl_goodKeys_c1 t=K_impl_goodKeys_c1.F t:=by kernel_rfl
theorem e_impl_findNode (t:TupI (K_impl_findNode.ins.map PS.sh)):runF X_impl_findNode Tryz.f167 K_impl_findNode t=K_impl_findNode.F t:=by kernel_rfl
theorem e_impl_Cluster_findVoter (t:TupI (K_impl_Cluster_findVoter.ins.map PS.sh)):runF X_impl_Cluster_findVoter Tryz.f136 K_impl_Cluster_findVoter t=K_impl_Cluster_findVoter.F t:=by kernel_rfl
theorem e_slices_ContainsFunc_Limpl_Choice_impl_Choice (t:TupI (K_slices_ContainsFunc_Limpl_Choice_impl_Choice.ins.map PS.sh)):runF X_slices_ContainsFunc_Limpl_Choice_impl_Choice Tryz.f83 K_slices_ContainsFunc_Limpl_Choice_impl_Choice t=K_slices_ContainsFunc_Limpl_Choice_impl_Choice.F t:=by kernel_rfl
end CL
end Go.Dx

