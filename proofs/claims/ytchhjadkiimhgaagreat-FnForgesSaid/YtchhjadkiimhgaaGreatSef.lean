/- The executor finds what each function computes: by computation -/
import Derived.Test.YtchhjadkiimhgaaGreatSca
set_option linter.unusedVariables false
set_option linter.unusedSimpArgs false
set_option maxRecDepth 100000
set_option maxHeartbeats 0
namespace Go.Dx
open Go.Proofs
namespace CL

theorem e_spec_l12Cluster (t:TupI (K_spec_l12Cluster.ins.map PS.sh)):runF X_spec_l12Cluster Tryz.f45 K_spec_l12Cluster t=K_spec_l12Cluster.F t:=by kernel_rfl
theorem e_spec_l1Next (t:TupI (K_spec_l1Next.ins.map PS.sh)):runF X_spec_l1Next Tryz.f66 K_spec_l1Next t=K_spec_l1Next.F t:=by kernel_rfl
theorem e_impl_Cluster_votesFault (t:TupI (K_impl_Cluster_votesFault.ins.map PS.sh)):runF X_impl_Cluster_votesFault Tryz.f63 K_impl_Cluster_votesFault t=K_impl_Cluster_votesFault.F t:=by kernel_rfl
theorem e_impl_Cluster_isVoted (t:TupI (K_impl_Cluster_isVoted.ins.map PS.sh)):runF X_impl_Cluster_isVoted Tryz.f131 K_impl_Cluster_isVoted t=K_impl_Cluster_isVoted.F t:=by kernel_rfl
theorem e_spec_l12Right (t:TupI (K_spec_l12Right.ins.map PS.sh)):runF X_spec_l12Right Tryz.f98 K_spec_l12Right t=K_spec_l12Right.F t:=by kernel_rfl
theorem e_spec_l12Fault (t:TupI (K_spec_l12Fault.ins.map PS.sh)):runF X_spec_l12Fault Tryz.f52 K_spec_l12Fault t=K_spec_l12Fault.F t:=by kernel_rfl
theorem e_impl_Cluster_votersFault (t:TupI (K_impl_Cluster_votersFault.ins.map PS.sh)):runF X_impl_Cluster_votersFault Tryz.f62 K_impl_Cluster_votersFault t=K_impl_Cluster_votersFault.F t:=by kernel_rfl
theorem e_spec_AddNode (t:TupI (K_spec_AddNode.ins.map PS.sh)):runF X_spec_AddNode Tryz.f185 K_spec_AddNode t=K_spec_AddNode.F t:=by kernel_rfl
theorem e_impl_ForgeAt (t:TupI (K_impl_ForgeAt.ins.map PS.sh)):runF X_impl_ForgeAt Tryz.f11 K_impl_ForgeAt t=K_impl_ForgeAt.F t:=by kernel_rfl
theorem e_laws_lwNums (t:TupI (K_laws_lwNums.ins.map PS.sh)):runF X_laws_lwNums Tryz.f14 K_laws_lwNums t=K_laws_lwNums.F t:=by kernel_rfl
theorem e_spec_l9Fault (t:TupI (K_spec_l9Fault.ins.map PS.sh)):runF X_spec_l9Fault Tryz.f114 K_spec_l9Fault t=K_spec_l9Fault.F t:=by kernel_rfl
theorem e_impl_ClusterFault (t:TupI (K_impl_ClusterFault.ins.map PS.sh)):runF X_impl_ClusterFault Tryz.f15 K_impl_ClusterFault t=K_impl_ClusterFault.F t:=by kernel_rfl
theorem e_spec_l10Draw (t:TupI (K_spec_l10Draw.ins.map PS.sh)):runF X_spec_l10Draw Tryz.f156 K_spec_l10Draw t=K_spec_l10Draw.F t:=by kernel_rfl
theorem e_spec_GrowTree (t:TupI (K_spec_GrowTree.ins.map PS.sh)):runF X_spec_GrowTree Tryz.f184 K_spec_GrowTree t=K_spec_GrowTree.F t:=by kernel_rfl
theorem e_spec_l10DrawKeys (t:TupI (K_spec_l10DrawKeys.ins.map PS.sh)):runF X_spec_l10DrawKeys Tryz.f182 K_spec_l10DrawKeys t=K_spec_l10DrawKeys.F t:=by kernel_rfl
theorem e_spec_l1Key (t:TupI (K_spec_l1Key.ins.map PS.sh)):runF X_spec_l1Key Tryz.f119 K_spec_l1Key t=K_spec_l1Key.F t:=by kernel_rfl
theorem e_impl_QuorumFault (t:TupI (K_impl_QuorumFault.ins.map PS.sh)):runF X_impl_QuorumFault Tryz.f58 K_impl_QuorumFault t=K_impl_QuorumFault.F t:=by kernel_rfl
theorem e_spec_l12Put (t:TupI (K_spec_l12Put.ins.map PS.sh)):runF X_spec_l12Put Tryz.f56 K_spec_l12Put t=K_spec_l12Put.F t:=by kernel_rfl
theorem e_impl_badFault (t:TupI (K_impl_badFault.ins.map PS.sh)):runF X_impl_badFault Tryz.f60 K_impl_badFault t=K_impl_badFault.F t:=by kernel_rfl
theorem e_spec_l3Ref (t:TupI (K_spec_l3Ref.ins.map PS.sh)):runF X_spec_l3Ref Tryz.f121 K_spec_l3Ref t=K_spec_l3Ref.F t:=by kernel_rfl
theorem e_impl_isRef (t:TupI (K_impl_isRef.ins.map PS.sh)):runF X_impl_isRef Tryz.f104 K_impl_isRef t=K_impl_isRef.F t:=by kernel_rfl
theorem e_impl_ownVoter (t:TupI (K_impl_ownVoter.ins.map PS.sh)):runF X_impl_ownVoter Tryz.f110 K_impl_ownVoter t=K_impl_ownVoter.F t:=by kernel_rfl
theorem e_impl_Voter_chosen (t:TupI (K_impl_Voter_chosen.ins.map PS.sh)):runF X_impl_Voter_chosen Tryz.f140 K_impl_Voter_chosen t=K_impl_Voter_chosen.F t:=by kernel_rfl
theorem e_impl_goodKeys_c1 (t:TupI (K_impl_goodKeys_c1.ins.map PS.sh)):runF X_impl_goodKeys_c1 Tryz.f169 K_impl_goodKeys_c1 t=K_impl_goodKeys_c1.F t:=by kernel_rfl
theorem e_slices_Clone_Limpl_Vote_impl_Vote (t:TupI (K_slices_Clone_Limpl_Vote_impl_Vote.ins.map PS.sh)):runF X_slices_Clone_Limpl_Vote_impl_Vote Tryz.f109 K_slices_Clone_Limpl_Vote_impl_Vote t=K_slices_Clone_Limpl_Vote_impl_Vote.F t:=by kernel_rfl
theorem e_impl_areKeys (t:TupI (K_impl_areKeys.ins.map PS.sh)):runF X_impl_areKeys Tryz.f124 K_impl_areKeys t=K_impl_areKeys.F t:=by kernel_rfl
theorem e_impl_areKeys_c1 (t:TupI (K_impl_areKeys_c1.ins.map PS.sh)):runF X_impl_areKeys_c1 Tryz.f166 K_impl_areKeys_c1 t=K_impl_areKeys_c1.F t:=by kernel_rfl
end CL
end Go.Dx

