/- The executor finds what each function computes: by computation -/
import Derived.Test.YtmhbfgbadiikfaaGreatSca
set_option linter.unusedVariables false
set_option linter.unusedSimpArgs false
set_option maxRecDepth 100000
set_option maxHeartbeats 0
namespace Go.Dx
open Go.Proofs
namespace CL

theorem e_impl_ownCluster (t : TupI (K_impl_ownCluster.ins.map PS.sh)) : runF X_impl_ownCluster Tryz.f113 K_impl_ownCluster t = K_impl_ownCluster.F t := by kernel_rfl
theorem e_impl_Cluster_votesFault (t : TupI (K_impl_Cluster_votesFault.ins.map PS.sh)) : runF X_impl_Cluster_votesFault Tryz.f143 K_impl_Cluster_votesFault t = K_impl_Cluster_votesFault.F t := by kernel_rfl
theorem e_spec_l12Bad (t : TupI (K_spec_l12Bad.ins.map PS.sh)) : runF X_spec_l12Bad Tryz.f132 K_spec_l12Bad t = K_spec_l12Bad.F t := by kernel_rfl
theorem e_spec_l11At (t : TupI (K_spec_l11At.ins.map PS.sh)) : runF X_spec_l11At Tryz.f208 K_spec_l11At t = K_spec_l11At.F t := by kernel_rfl
theorem e_spec_AddNode (t : TupI (K_spec_AddNode.ins.map PS.sh)) : runF X_spec_AddNode Tryz.f115 K_spec_AddNode t = K_spec_AddNode.F t := by kernel_rfl
theorem e_impl_VoterFault (t : TupI (K_impl_VoterFault.ins.map PS.sh)) : runF X_impl_VoterFault Tryz.f185 K_impl_VoterFault t = K_impl_VoterFault.F t := by kernel_rfl
theorem e_laws_toCluster (t : TupI (K_laws_toCluster.ins.map PS.sh)) : runF X_laws_toCluster Tryz.f18 K_laws_toCluster t = K_laws_toCluster.F t := by kernel_rfl
theorem e_laws_toVoteS (t : TupI (K_laws_toVoteS.ins.map PS.sh)) : runF X_laws_toVoteS Tryz.f71 K_laws_toVoteS t = K_laws_toVoteS.F t := by kernel_rfl
theorem e_laws_eqVoterS (t : TupI (K_laws_eqVoterS.ins.map PS.sh)) : runF X_laws_eqVoterS Tryz.f78 K_laws_eqVoterS t = K_laws_eqVoterS.F t := by kernel_rfl
theorem e_laws_eqInt64S (t : TupI (K_laws_eqInt64S.ins.map PS.sh)) : runF X_laws_eqInt64S Tryz.f76 K_laws_eqInt64S t = K_laws_eqInt64S.F t := by kernel_rfl
theorem e_impl_GrowTree (t : TupI (K_impl_GrowTree.ins.map PS.sh)) : runF X_impl_GrowTree Tryz.f50 K_impl_GrowTree t = K_impl_GrowTree.F t := by kernel_rfl
theorem e_laws_markVoteS (t : TupI (K_laws_markVoteS.ins.map PS.sh)) : runF X_laws_markVoteS Tryz.f95 K_laws_markVoteS t = K_laws_markVoteS.F t := by kernel_rfl
theorem e_spec_l12Has (t : TupI (K_spec_l12Has.ins.map PS.sh)) : runF X_spec_l12Has Tryz.f178 K_spec_l12Has t = K_spec_l12Has.F t := by kernel_rfl
theorem e_impl_isRef (t : TupI (K_impl_isRef.ins.map PS.sh)) : runF X_impl_isRef Tryz.f180 K_impl_isRef t = K_impl_isRef.F t := by kernel_rfl
theorem e_laws_markVoterS (t : TupI (K_laws_markVoterS.ins.map PS.sh)) : runF X_laws_markVoterS Tryz.f94 K_laws_markVoterS t = K_laws_markVoterS.F t := by kernel_rfl
theorem e_laws_heldChoiceS (t : TupI (K_laws_heldChoiceS.ins.map PS.sh)) : runF X_laws_heldChoiceS Tryz.f105 K_laws_heldChoiceS t = K_laws_heldChoiceS.F t := by kernel_rfl
theorem e_laws_heldVoterS (t : TupI (K_laws_heldVoterS.ins.map PS.sh)) : runF X_laws_heldVoterS Tryz.f170 K_laws_heldVoterS t = K_laws_heldVoterS.F t := by kernel_rfl
theorem e_laws_heldNodeS (t : TupI (K_laws_heldNodeS.ins.map PS.sh)) : runF X_laws_heldNodeS Tryz.f169 K_laws_heldNodeS t = K_laws_heldNodeS.F t := by kernel_rfl
theorem e_laws_markClusterResult (t : TupI (K_laws_markClusterResult.ins.map PS.sh)) : runF X_laws_markClusterResult Tryz.f46 K_laws_markClusterResult t = K_laws_markClusterResult.F t := by kernel_rfl
theorem e_laws_toVoter (t : TupI (K_laws_toVoter.ins.map PS.sh)) : runF X_laws_toVoter Tryz.f138 K_laws_toVoter t = K_laws_toVoter.F t := by kernel_rfl
theorem e_impl_pathTo (t : TupI (K_impl_pathTo.ins.map PS.sh)) : runF X_impl_pathTo Tryz.f200 K_impl_pathTo t = K_impl_pathTo.F t := by kernel_rfl
theorem e_laws_toInt64S (t : TupI (K_laws_toInt64S.ins.map PS.sh)) : runF X_laws_toInt64S Tryz.f68 K_laws_toInt64S t = K_laws_toInt64S.F t := by kernel_rfl
theorem e_laws_toNodeS (t : TupI (K_laws_toNodeS.ins.map PS.sh)) : runF X_laws_toNodeS Tryz.f69 K_laws_toNodeS t = K_laws_toNodeS.F t := by kernel_rfl
theorem e_spec_l3Ref (t : TupI (K_spec_l3Ref.ins.map PS.sh)) : runF X_spec_l3Ref Tryz.f177 K_spec_l3Ref t = K_spec_l3Ref.F t := by kernel_rfl
theorem e_laws_eqChoice (t : TupI (K_laws_eqChoice.ins.map PS.sh)) : runF X_laws_eqChoice Tryz.f162 K_laws_eqChoice t = K_laws_eqChoice.F t := by kernel_rfl
theorem e_laws_toRef (t : TupI (K_laws_toRef.ins.map PS.sh)) : runF X_laws_toRef Tryz.f57 K_laws_toRef t = K_laws_toRef.F t := by kernel_rfl
theorem e_laws_heldQuorum (t : TupI (K_laws_heldQuorum.ins.map PS.sh)) : runF X_laws_heldQuorum Tryz.f168 K_laws_heldQuorum t = K_laws_heldQuorum.F t := by kernel_rfl
theorem e_laws_szVoter (t : TupI (K_laws_szVoter.ins.map PS.sh)) : runF X_laws_szVoter Tryz.f130 K_laws_szVoter t = K_laws_szVoter.F t := by kernel_rfl
theorem e_impl_isAbove (t : TupI (K_impl_isAbove.ins.map PS.sh)) : runF X_impl_isAbove Tryz.f151 K_impl_isAbove t = K_impl_isAbove.F t := by kernel_rfl
theorem e_laws_eqVoter (t : TupI (K_laws_eqVoter.ins.map PS.sh)) : runF X_laws_eqVoter Tryz.f147 K_laws_eqVoter t = K_laws_eqVoter.F t := by kernel_rfl
theorem e_laws_szVoteS (t : TupI (K_laws_szVoteS.ins.map PS.sh)) : runF X_laws_szVoteS Tryz.f63 K_laws_szVoteS t = K_laws_szVoteS.F t := by kernel_rfl
theorem e_impl_Cluster_findVoter (t : TupI (K_impl_Cluster_findVoter.ins.map PS.sh)) : runF X_impl_Cluster_findVoter Tryz.f182 K_impl_Cluster_findVoter t = K_impl_Cluster_findVoter.F t := by kernel_rfl
theorem e_slices_Clone_Limpl_Choice_impl_Choice (t : TupI (K_slices_Clone_Limpl_Choice_impl_Choice.ins.map PS.sh)) : runF X_slices_Clone_Limpl_Choice_impl_Choice Tryz.f205 K_slices_Clone_Limpl_Choice_impl_Choice t = K_slices_Clone_Limpl_Choice_impl_Choice.F t := by kernel_rfl
end CL
end Go.Dx
