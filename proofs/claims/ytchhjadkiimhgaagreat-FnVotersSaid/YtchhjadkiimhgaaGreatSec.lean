/- The executor finds what each function computes: by computation -/
import Derived.Test.YtchhjadkiimhgaaGreatSca
set_option linter.unusedVariables false
set_option linter.unusedSimpArgs false
set_option maxRecDepth 100000
set_option maxHeartbeats 0
namespace Go.Dx
open Go.Proofs
namespace CL

theorem e_spec_l12Stands (t:TupI (K_spec_l12Stands.ins.map PS.sh)):runF X_spec_l12Stands Tryz.f165 K_spec_l12Stands t=K_spec_l12Stands.F t:=by kernel_rfl
theorem e_spec_l13Cluster (t:TupI (K_spec_l13Cluster.ins.map PS.sh)):runF X_spec_l13Cluster Tryz.f65 K_spec_l13Cluster t=K_spec_l13Cluster.F t:=by kernel_rfl
theorem e_spec_VotedBy (t:TupI (K_spec_VotedBy.ins.map PS.sh)):runF X_spec_VotedBy Tryz.f17 K_spec_VotedBy t=K_spec_VotedBy.F t:=by kernel_rfl
theorem e_impl_Cluster_isVoted (t:TupI (K_impl_Cluster_isVoted.ins.map PS.sh)):runF X_impl_Cluster_isVoted Tryz.f131 K_impl_Cluster_isVoted t=K_impl_Cluster_isVoted.F t:=by kernel_rfl
theorem e_spec_DrawVotedBy (t:TupI (K_spec_DrawVotedBy.ins.map PS.sh)):runF X_spec_DrawVotedBy Tryz.f16 K_spec_DrawVotedBy t=K_spec_DrawVotedBy.F t:=by kernel_rfl
theorem e_spec_l11Choose (t:TupI (K_spec_l11Choose.ins.map PS.sh)):runF X_spec_l11Choose Tryz.f189 K_spec_l11Choose t=K_spec_l11Choose.F t:=by kernel_rfl
theorem e_spec_l11Fault (t:TupI (K_spec_l11Fault.ins.map PS.sh)):runF X_spec_l11Fault Tryz.f164 K_spec_l11Fault t=K_spec_l11Fault.F t:=by kernel_rfl
theorem e_spec_l11At (t:TupI (K_spec_l11At.ins.map PS.sh)):runF X_spec_l11At Tryz.f186 K_spec_l11At t=K_spec_l11At.F t:=by kernel_rfl
theorem e_impl_nodeFault (t:TupI (K_impl_nodeFault.ins.map PS.sh)):runF X_impl_nodeFault Tryz.f126 K_impl_nodeFault t=K_impl_nodeFault.F t:=by kernel_rfl
theorem e_impl_ClusterFault (t:TupI (K_impl_ClusterFault.ins.map PS.sh)):runF X_impl_ClusterFault Tryz.f15 K_impl_ClusterFault t=K_impl_ClusterFault.F t:=by kernel_rfl
theorem e_impl_within (t:TupI (K_impl_within.ins.map PS.sh)):runF X_impl_within Tryz.f59 K_impl_within t=K_impl_within.F t:=by kernel_rfl
theorem e_spec_l4Among (t:TupI (K_spec_l4Among.ins.map PS.sh)):runF X_spec_l4Among Tryz.f55 K_spec_l4Among t=K_spec_l4Among.F t:=by kernel_rfl
theorem e_spec_l10DrawKeys (t:TupI (K_spec_l10DrawKeys.ins.map PS.sh)):runF X_spec_l10DrawKeys Tryz.f182 K_spec_l10DrawKeys t=K_spec_l10DrawKeys.F t:=by kernel_rfl
theorem e_spec_l12At (t:TupI (K_spec_l12At.ins.map PS.sh)):runF X_spec_l12At Tryz.f73 K_spec_l12At t=K_spec_l12At.F t:=by kernel_rfl
theorem e_spec_l9DrawId (t:TupI (K_spec_l9DrawId.ins.map PS.sh)):runF X_spec_l9DrawId Tryz.f69 K_spec_l9DrawId t=K_spec_l9DrawId.F t:=by kernel_rfl
theorem e_spec_l1In (t:TupI (K_spec_l1In.ins.map PS.sh)):runF X_spec_l1In Tryz.f118 K_spec_l1In t=K_spec_l1In.F t:=by kernel_rfl
theorem e_spec_l1Max (t:TupI (K_spec_l1Max.ins.map PS.sh)):runF X_spec_l1Max Tryz.f133 K_spec_l1Max t=K_spec_l1Max.F t:=by kernel_rfl
theorem e_impl_pathTo (t:TupI (K_impl_pathTo.ins.map PS.sh)):runF X_impl_pathTo Tryz.f155 K_impl_pathTo t=K_impl_pathTo.F t:=by kernel_rfl
theorem e_slices_IndexFunc_Limpl_Choice_impl_Choice (t:TupI (K_slices_IndexFunc_Limpl_Choice_impl_Choice.ins.map PS.sh)):runF X_slices_IndexFunc_Limpl_Choice_impl_Choice Tryz.f143 K_slices_IndexFunc_Limpl_Choice_impl_Choice t=K_slices_IndexFunc_Limpl_Choice_impl_Choice.F t:=by kernel_rfl
theorem e_impl_Voter_chosen (t:TupI (K_impl_Voter_chosen.ins.map PS.sh)):runF X_impl_Voter_chosen Tryz.f140 K_impl_Voter_chosen t=K_impl_Voter_chosen.F t:=by kernel_rfl
theorem e_impl_VoterFault_c1 (t:TupI (K_impl_VoterFault_c1.ins.map PS.sh)):runF X_impl_VoterFault_c1 Tryz.f170 K_impl_VoterFault_c1 t=K_impl_VoterFault_c1.F t:=by kernel_rfl
theorem e_spec_l1Chance (t:TupI (K_spec_l1Chance.ins.map PS.sh)):runF X_spec_l1Chance Tryz.f47 K_spec_l1Chance t=K_spec_l1Chance.F t:=by kernel_rfl
theorem e_impl_isAbove (t:TupI (K_impl_isAbove.ins.map PS.sh)):runF X_impl_isAbove Tryz.f97 K_impl_isAbove t=K_impl_isAbove.F t:=by kernel_rfl
end CL
end Go.Dx

