/- The executor finds what each function computes: by computation -/
import Derived.Test.YtmhbfgbadiikfaaGreatSca
set_option linter.unusedVariables false
set_option linter.unusedSimpArgs false
set_option maxRecDepth 100000
set_option maxHeartbeats 0
namespace Go.Dx
open Go.Proofs
namespace CL

theorem e_spec_l12Heard (t : TupI (K_spec_l12Heard.ins.map PS.sh)) : runF X_spec_l12Heard Tryz.f136 K_spec_l12Heard t = K_spec_l12Heard.F t := by kernel_rfl
theorem e_spec_l12Voters (t : TupI (K_spec_l12Voters.ins.map PS.sh)) : runF X_spec_l12Voters Tryz.f134 K_spec_l12Voters t = K_spec_l12Voters.F t := by kernel_rfl
theorem e_impl_Cluster_votersFault (t : TupI (K_impl_Cluster_votersFault.ins.map PS.sh)) : runF X_impl_Cluster_votersFault Tryz.f142 K_impl_Cluster_votersFault t = K_impl_Cluster_votersFault.F t := by kernel_rfl
theorem e_spec_l12Copy (t : TupI (K_spec_l12Copy.ins.map PS.sh)) : runF X_spec_l12Copy Tryz.f111 K_spec_l12Copy t = K_spec_l12Copy.F t := by kernel_rfl
theorem e_spec_l9Fault (t : TupI (K_spec_l9Fault.ins.map PS.sh)) : runF X_spec_l9Fault Tryz.f133 K_spec_l9Fault t = K_spec_l9Fault.F t := by kernel_rfl
theorem e_laws_eqChoiceS (t : TupI (K_laws_eqChoiceS.ins.map PS.sh)) : runF X_laws_eqChoiceS Tryz.f103 K_laws_eqChoiceS t = K_laws_eqChoiceS.F t := by kernel_rfl
theorem e_laws_toCluster (t : TupI (K_laws_toCluster.ins.map PS.sh)) : runF X_laws_toCluster Tryz.f18 K_laws_toCluster t = K_laws_toCluster.F t := by kernel_rfl
theorem e_laws_toVoteS (t : TupI (K_laws_toVoteS.ins.map PS.sh)) : runF X_laws_toVoteS Tryz.f71 K_laws_toVoteS t = K_laws_toVoteS.F t := by kernel_rfl
theorem e_laws_eqVoterS (t : TupI (K_laws_eqVoterS.ins.map PS.sh)) : runF X_laws_eqVoterS Tryz.f78 K_laws_eqVoterS t = K_laws_eqVoterS.F t := by kernel_rfl
theorem e_spec_l9Above (t : TupI (K_spec_l9Above.ins.map PS.sh)) : runF X_spec_l9Above Tryz.f149 K_spec_l9Above t = K_spec_l9Above.F t := by kernel_rfl
theorem e_impl_findNode_c1 (t : TupI (K_impl_findNode_c1.ins.map PS.sh)) : runF X_impl_findNode_c1 Tryz.f218 K_impl_findNode_c1 t = K_impl_findNode_c1.F t := by kernel_rfl
theorem e_laws_markVoteS (t : TupI (K_laws_markVoteS.ins.map PS.sh)) : runF X_laws_markVoteS Tryz.f95 K_laws_markVoteS t = K_laws_markVoteS.F t := by kernel_rfl
theorem e_slices_ContainsFunc_Limpl_Choice_impl_Choice (t : TupI (K_slices_ContainsFunc_Limpl_Choice_impl_Choice.ins.map PS.sh)) : runF X_slices_ContainsFunc_Limpl_Choice_impl_Choice Tryz.f87 K_slices_ContainsFunc_Limpl_Choice_impl_Choice t = K_slices_ContainsFunc_Limpl_Choice_impl_Choice.F t := by kernel_rfl
theorem e_impl_QuorumFault (t : TupI (K_impl_QuorumFault.ins.map PS.sh)) : runF X_impl_QuorumFault Tryz.f139 K_impl_QuorumFault t = K_impl_QuorumFault.F t := by kernel_rfl
theorem e_laws_toChoiceS (t : TupI (K_laws_toChoiceS.ins.map PS.sh)) : runF X_laws_toChoiceS Tryz.f190 K_laws_toChoiceS t = K_laws_toChoiceS.F t := by kernel_rfl
theorem e_laws_szCluster (t : TupI (K_laws_szCluster.ins.map PS.sh)) : runF X_laws_szCluster Tryz.f16 K_laws_szCluster t = K_laws_szCluster.F t := by kernel_rfl
theorem e_impl_Cluster_heardFault (t : TupI (K_impl_Cluster_heardFault.ins.map PS.sh)) : runF X_impl_Cluster_heardFault Tryz.f144 K_impl_Cluster_heardFault t = K_impl_Cluster_heardFault.F t := by kernel_rfl
theorem e_impl_goodKeys (t : TupI (K_impl_goodKeys.ins.map PS.sh)) : runF X_impl_goodKeys Tryz.f193 K_impl_goodKeys t = K_impl_goodKeys.F t := by kernel_rfl
theorem e_laws_markInt64SS (t : TupI (K_laws_markInt64SS.ins.map PS.sh)) : runF X_laws_markInt64SS Tryz.f96 K_laws_markInt64SS t = K_laws_markInt64SS.F t := by kernel_rfl
theorem e_spec_l12Good (t : TupI (K_spec_l12Good.ins.map PS.sh)) : runF X_spec_l12Good Tryz.f188 K_spec_l12Good t = K_spec_l12Good.F t := by kernel_rfl
theorem e_impl_pathTo (t : TupI (K_impl_pathTo.ins.map PS.sh)) : runF X_impl_pathTo Tryz.f200 K_impl_pathTo t = K_impl_pathTo.F t := by kernel_rfl
theorem e_laws_toInt64S (t : TupI (K_laws_toInt64S.ins.map PS.sh)) : runF X_laws_toInt64S Tryz.f68 K_laws_toInt64S t = K_laws_toInt64S.F t := by kernel_rfl
theorem e_laws_toNodeS (t : TupI (K_laws_toNodeS.ins.map PS.sh)) : runF X_laws_toNodeS Tryz.f69 K_laws_toNodeS t = K_laws_toNodeS.F t := by kernel_rfl
theorem e_spec_l3Ref (t : TupI (K_spec_l3Ref.ins.map PS.sh)) : runF X_spec_l3Ref Tryz.f177 K_spec_l3Ref t = K_spec_l3Ref.F t := by kernel_rfl
theorem e_laws_eqChoice (t : TupI (K_laws_eqChoice.ins.map PS.sh)) : runF X_laws_eqChoice Tryz.f162 K_laws_eqChoice t = K_laws_eqChoice.F t := by kernel_rfl
theorem e_laws_toRef (t : TupI (K_laws_toRef.ins.map PS.sh)) : runF X_laws_toRef Tryz.f57 K_laws_toRef t = K_laws_toRef.F t := by kernel_rfl
theorem e_laws_heldQuorum (t : TupI (K_laws_heldQuorum.ins.map PS.sh)) : runF X_laws_heldQuorum Tryz.f168 K_laws_heldQuorum t = K_laws_heldQuorum.F t := by kernel_rfl
theorem e_laws_szVoter (t : TupI (K_laws_szVoter.ins.map PS.sh)) : runF X_laws_szVoter Tryz.f130 K_laws_szVoter t = K_laws_szVoter.F t := by kernel_rfl
theorem e_impl_isAbove (t : TupI (K_impl_isAbove.ins.map PS.sh)) : runF X_impl_isAbove Tryz.f151 K_impl_isAbove t = K_impl_isAbove.F t := by kernel_rfl
theorem e_laws_eqVoter (t : TupI (K_laws_eqVoter.ins.map PS.sh)) : runF X_laws_eqVoter Tryz.f147 K_laws_eqVoter t = K_laws_eqVoter.F t := by kernel_rfl
theorem e_laws_szVoteS (t : TupI (K_laws_szVoteS.ins.map PS.sh)) : runF X_laws_szVoteS Tryz.f63 K_laws_szVoteS t = K_laws_szVoteS.F t := by kernel_rfl
theorem e_impl_Cluster_findVoter (t : TupI (K_impl_Cluster_findVoter.ins.map PS.sh)) : runF X_impl_Cluster_findVoter Tryz.f182 K_impl_Cluster_findVoter t = K_impl_Cluster_findVoter.F t := by kernel_rfl
theorem e_slices_Clone_Limpl_Choice_impl_Choice (t : TupI (K_slices_Clone_Limpl_Choice_impl_Choice.ins.map PS.sh)) : runF X_slices_Clone_Limpl_Choice_impl_Choice Tryz.f205 K_slices_Clone_Limpl_Choice_impl_Choice t = K_slices_Clone_Limpl_Choice_impl_Choice.F t := by kernel_rfl
end CL
end Go.Dx
