/- The executor finds what each function computes: by computation -/
import Derived.Test.YtmhbfgbadiikfaaGreatSca
set_option linter.unusedVariables false
set_option linter.unusedSimpArgs false
set_option maxRecDepth 100000
set_option maxHeartbeats 0
namespace Go.Dx
open Go.Proofs
namespace CL

theorem e_spec_l12Heard (t : TupI (K_spec_l12Heard.ins.map PS.sh)) : runF X_spec_l12Heard Tryz.f136 K_spec_l12Heard t = K_spec_l12Heard.F t := by kernel_rfl
theorem e_impl_Cluster_isVoted (t : TupI (K_impl_Cluster_isVoted.ins.map PS.sh)) : runF X_impl_Cluster_isVoted Tryz.f196 K_impl_Cluster_isVoted t = K_impl_Cluster_isVoted.F t := by kernel_rfl
theorem e_spec_l12Bad (t : TupI (K_spec_l12Bad.ins.map PS.sh)) : runF X_spec_l12Bad Tryz.f132 K_spec_l12Bad t = K_spec_l12Bad.F t := by kernel_rfl
theorem e_spec_l11Fault (t : TupI (K_spec_l11Fault.ins.map PS.sh)) : runF X_spec_l11Fault Tryz.f183 K_spec_l11Fault t = K_spec_l11Fault.F t := by kernel_rfl
theorem e_laws_eqChoiceS (t : TupI (K_laws_eqChoiceS.ins.map PS.sh)) : runF X_laws_eqChoiceS Tryz.f103 K_laws_eqChoiceS t = K_laws_eqChoiceS.F t := by kernel_rfl
theorem e_laws_eqNodeS (t : TupI (K_laws_eqNodeS.ins.map PS.sh)) : runF X_laws_eqNodeS Tryz.f77 K_laws_eqNodeS t = K_laws_eqNodeS.F t := by kernel_rfl
theorem e_impl_VoteFault (t : TupI (K_impl_VoteFault.ins.map PS.sh)) : runF X_impl_VoteFault Tryz.f119 K_impl_VoteFault t = K_impl_VoteFault.F t := by kernel_rfl
theorem e_laws_szChoiceS (t : TupI (K_laws_szChoiceS.ins.map PS.sh)) : runF X_laws_szChoiceS Tryz.f187 K_laws_szChoiceS t = K_laws_szChoiceS.F t := by kernel_rfl
theorem e_laws_eqInt64SS (t : TupI (K_laws_eqInt64SS.ins.map PS.sh)) : runF X_laws_eqInt64SS Tryz.f80 K_laws_eqInt64SS t = K_laws_eqInt64SS.F t := by kernel_rfl
theorem e_impl_findNode (t : TupI (K_impl_findNode.ins.map PS.sh)) : runF X_impl_findNode Tryz.f202 K_impl_findNode t = K_impl_findNode.F t := by kernel_rfl
theorem e_slices_IndexFunc_Lint64_int64 (t : TupI (K_slices_IndexFunc_Lint64_int64.ins.map PS.sh)) : runF X_slices_IndexFunc_Lint64_int64 Tryz.f150 K_slices_IndexFunc_Lint64_int64 t = K_slices_IndexFunc_Lint64_int64.F t := by kernel_rfl
theorem e_impl_VoterFault_c1 (t : TupI (K_impl_VoterFault_c1.ins.map PS.sh)) : runF X_impl_VoterFault_c1 Tryz.f209 K_impl_VoterFault_c1 t = K_impl_VoterFault_c1.F t := by kernel_rfl
theorem e_slices_EqualFunc_Limpl_Voter_Lint64_impl_Voter_int64 (t : TupI (K_slices_EqualFunc_Limpl_Voter_Lint64_impl_Voter_int64.ins.map PS.sh)) : runF X_slices_EqualFunc_Limpl_Voter_Lint64_impl_Voter_int64 Tryz.f194 K_slices_EqualFunc_Limpl_Voter_Lint64_impl_Voter_int64 t = K_slices_EqualFunc_Limpl_Voter_Lint64_impl_Voter_int64.F t := by kernel_rfl
theorem e_laws_toVoterS (t : TupI (K_laws_toVoterS.ins.map PS.sh)) : runF X_laws_toVoterS Tryz.f70 K_laws_toVoterS t = K_laws_toVoterS.F t := by kernel_rfl
theorem e_laws_szCluster (t : TupI (K_laws_szCluster.ins.map PS.sh)) : runF X_laws_szCluster Tryz.f16 K_laws_szCluster t = K_laws_szCluster.F t := by kernel_rfl
theorem e_impl_Cluster_heardFault (t : TupI (K_impl_Cluster_heardFault.ins.map PS.sh)) : runF X_impl_Cluster_heardFault Tryz.f144 K_impl_Cluster_heardFault t = K_impl_Cluster_heardFault.F t := by kernel_rfl
theorem e_laws_markInt64SS (t : TupI (K_laws_markInt64SS.ins.map PS.sh)) : runF X_laws_markInt64SS Tryz.f96 K_laws_markInt64SS t = K_laws_markInt64SS.F t := by kernel_rfl
theorem e_laws_szInt64SS (t : TupI (K_laws_szInt64SS.ins.map PS.sh)) : runF X_laws_szInt64SS Tryz.f64 K_laws_szInt64SS t = K_laws_szInt64SS.F t := by kernel_rfl
theorem e_slices_Index_Lint64_int64 (t : TupI (K_slices_Index_Lint64_int64.ins.map PS.sh)) : runF X_slices_Index_Lint64_int64 Tryz.f154 K_slices_Index_Lint64_int64 t = K_slices_Index_Lint64_int64.F t := by kernel_rfl
theorem e_laws_szVoterS (t : TupI (K_laws_szVoterS.ins.map PS.sh)) : runF X_laws_szVoterS Tryz.f62 K_laws_szVoterS t = K_laws_szVoterS.F t := by kernel_rfl
theorem e_slices_IndexFunc_Limpl_Choice_impl_Choice (t : TupI (K_slices_IndexFunc_Limpl_Choice_impl_Choice.ins.map PS.sh)) : runF X_slices_IndexFunc_Limpl_Choice_impl_Choice Tryz.f153 K_slices_IndexFunc_Limpl_Choice_impl_Choice t = K_slices_IndexFunc_Limpl_Choice_impl_Choice.F t := by kernel_rfl
theorem e_laws_markChoiceS (t : TupI (K_laws_markChoiceS.ins.map PS.sh)) : runF X_laws_markChoiceS Tryz.f104 K_laws_markChoiceS t = K_laws_markChoiceS.F t := by kernel_rfl
theorem e_spec_l4Among (t : TupI (K_spec_l4Among.ins.map PS.sh)) : runF X_spec_l4Among Tryz.f89 K_spec_l4Among t = K_spec_l4Among.F t := by kernel_rfl
theorem e_impl_Cluster_heardFault_c1 (t : TupI (K_impl_Cluster_heardFault_c1.ins.map PS.sh)) : runF X_impl_Cluster_heardFault_c1 Tryz.f197 K_impl_Cluster_heardFault_c1 t = K_impl_Cluster_heardFault_c1.F t := by kernel_rfl
theorem e_laws_heldIntsResult (t : TupI (K_laws_heldIntsResult.ins.map PS.sh)) : runF X_laws_heldIntsResult Tryz.f30 K_laws_heldIntsResult t = K_laws_heldIntsResult.F t := by kernel_rfl
theorem e_laws_szVoter (t : TupI (K_laws_szVoter.ins.map PS.sh)) : runF X_laws_szVoter Tryz.f130 K_laws_szVoter t = K_laws_szVoter.F t := by kernel_rfl
theorem e_impl_isAbove (t : TupI (K_impl_isAbove.ins.map PS.sh)) : runF X_impl_isAbove Tryz.f151 K_impl_isAbove t = K_impl_isAbove.F t := by kernel_rfl
theorem e_laws_eqVoter (t : TupI (K_laws_eqVoter.ins.map PS.sh)) : runF X_laws_eqVoter Tryz.f147 K_laws_eqVoter t = K_laws_eqVoter.F t := by kernel_rfl
theorem e_impl_goodKeys_c1 (t : TupI (K_impl_goodKeys_c1.ins.map PS.sh)) : runF X_impl_goodKeys_c1 Tryz.f214 K_impl_goodKeys_c1 t = K_impl_goodKeys_c1.F t := by kernel_rfl
theorem e_laws_markIntsResult (t : TupI (K_laws_markIntsResult.ins.map PS.sh)) : runF X_laws_markIntsResult Tryz.f29 K_laws_markIntsResult t = K_laws_markIntsResult.F t := by kernel_rfl
end CL
end Go.Dx
