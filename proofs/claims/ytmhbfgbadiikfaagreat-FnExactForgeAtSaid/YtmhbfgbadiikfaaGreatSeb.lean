/- The executor finds what each function computes: by computation -/
import Derived.Test.YtmhbfgbadiikfaaGreatSca
set_option linter.unusedVariables false
set_option linter.unusedSimpArgs false
set_option maxRecDepth 100000
set_option maxHeartbeats 0
namespace Go.Dx
open Go.Proofs
namespace CL

theorem e_spec_l12Stands (t : TupI (K_spec_l12Stands.ins.map PS.sh)) : runF X_spec_l12Stands Tryz.f189 K_spec_l12Stands t = K_spec_l12Stands.F t := by kernel_rfl
theorem e_spec_l10Fault (t : TupI (K_spec_l10Fault.ins.map PS.sh)) : runF X_spec_l10Fault Tryz.f131 K_spec_l10Fault t = K_spec_l10Fault.F t := by kernel_rfl
theorem e_spec_l12Fault (t : TupI (K_spec_l12Fault.ins.map PS.sh)) : runF X_spec_l12Fault Tryz.f65 K_spec_l12Fault t = K_spec_l12Fault.F t := by kernel_rfl
theorem e_spec_l11Fault (t : TupI (K_spec_l11Fault.ins.map PS.sh)) : runF X_spec_l11Fault Tryz.f183 K_spec_l11Fault t = K_spec_l11Fault.F t := by kernel_rfl
theorem e_impl_isRising (t : TupI (K_impl_isRising.ins.map PS.sh)) : runF X_impl_isRising Tryz.f192 K_impl_isRising t = K_impl_isRising.F t := by kernel_rfl
theorem e_slices_Index_Limpl_Vote_impl_Vote (t : TupI (K_slices_Index_Limpl_Vote_impl_Vote.ins.map PS.sh)) : runF X_slices_Index_Limpl_Vote_impl_Vote Tryz.f204 K_slices_Index_Limpl_Vote_impl_Vote t = K_slices_Index_Limpl_Vote_impl_Vote.F t := by kernel_rfl
theorem e_laws_szNodeS (t : TupI (K_laws_szNodeS.ins.map PS.sh)) : runF X_laws_szNodeS Tryz.f61 K_laws_szNodeS t = K_laws_szNodeS.F t := by kernel_rfl
theorem e_spec_l9Node (t : TupI (K_spec_l9Node.ins.map PS.sh)) : runF X_spec_l9Node Tryz.f173 K_spec_l9Node t = K_spec_l9Node.F t := by kernel_rfl
theorem e_laws_szChoiceS (t : TupI (K_laws_szChoiceS.ins.map PS.sh)) : runF X_laws_szChoiceS Tryz.f187 K_laws_szChoiceS t = K_laws_szChoiceS.F t := by kernel_rfl
theorem e_laws_toVote (t : TupI (K_laws_toVote.ins.map PS.sh)) : runF X_laws_toVote Tryz.f52 K_laws_toVote t = K_laws_toVote.F t := by kernel_rfl
theorem e_impl_findNode (t : TupI (K_impl_findNode.ins.map PS.sh)) : runF X_impl_findNode Tryz.f202 K_impl_findNode t = K_impl_findNode.F t := by kernel_rfl
theorem e_impl_within (t : TupI (K_impl_within.ins.map PS.sh)) : runF X_impl_within Tryz.f112 K_impl_within t = K_impl_within.F t := by kernel_rfl
theorem e_laws_markNodeS (t : TupI (K_laws_markNodeS.ins.map PS.sh)) : runF X_laws_markNodeS Tryz.f93 K_laws_markNodeS t = K_laws_markNodeS.F t := by kernel_rfl
theorem e_impl_isRef (t : TupI (K_impl_isRef.ins.map PS.sh)) : runF X_impl_isRef Tryz.f180 K_impl_isRef t = K_impl_isRef.F t := by kernel_rfl
theorem e_slices_DeleteFunc_Lint64_int64 (t : TupI (K_slices_DeleteFunc_Lint64_int64.ins.map PS.sh)) : runF X_slices_DeleteFunc_Lint64_int64 Tryz.f213 K_slices_DeleteFunc_Lint64_int64 t = K_slices_DeleteFunc_Lint64_int64.F t := by kernel_rfl
theorem e_laws_heldChoiceS (t : TupI (K_laws_heldChoiceS.ins.map PS.sh)) : runF X_laws_heldChoiceS Tryz.f105 K_laws_heldChoiceS t = K_laws_heldChoiceS.F t := by kernel_rfl
theorem e_laws_heldVoterS (t : TupI (K_laws_heldVoterS.ins.map PS.sh)) : runF X_laws_heldVoterS Tryz.f170 K_laws_heldVoterS t = K_laws_heldVoterS.F t := by kernel_rfl
theorem e_laws_heldNodeS (t : TupI (K_laws_heldNodeS.ins.map PS.sh)) : runF X_laws_heldNodeS Tryz.f169 K_laws_heldNodeS t = K_laws_heldNodeS.F t := by kernel_rfl
theorem e_laws_markClusterResult (t : TupI (K_laws_markClusterResult.ins.map PS.sh)) : runF X_laws_markClusterResult Tryz.f46 K_laws_markClusterResult t = K_laws_markClusterResult.F t := by kernel_rfl
theorem e_laws_toVoter (t : TupI (K_laws_toVoter.ins.map PS.sh)) : runF X_laws_toVoter Tryz.f138 K_laws_toVoter t = K_laws_toVoter.F t := by kernel_rfl
theorem e_laws_toInt64SS (t : TupI (K_laws_toInt64SS.ins.map PS.sh)) : runF X_laws_toInt64SS Tryz.f72 K_laws_toInt64SS t = K_laws_toInt64SS.F t := by kernel_rfl
theorem e_laws_eqVote (t : TupI (K_laws_eqVote.ins.map PS.sh)) : runF X_laws_eqVote Tryz.f148 K_laws_eqVote t = K_laws_eqVote.F t := by kernel_rfl
theorem e_impl_Voter_chosen (t : TupI (K_impl_Voter_chosen.ins.map PS.sh)) : runF X_impl_Voter_chosen Tryz.f186 K_impl_Voter_chosen t = K_impl_Voter_chosen.F t := by kernel_rfl
theorem e_laws_heldInt64S (t : TupI (K_laws_heldInt64S.ins.map PS.sh)) : runF X_laws_heldInt64S Tryz.f97 K_laws_heldInt64S t = K_laws_heldInt64S.F t := by kernel_rfl
theorem e_laws_eqNode (t : TupI (K_laws_eqNode.ins.map PS.sh)) : runF X_laws_eqNode Tryz.f146 K_laws_eqNode t = K_laws_eqNode.F t := by kernel_rfl
theorem e_spec_l12At (t : TupI (K_spec_l12At.ins.map PS.sh)) : runF X_spec_l12At Tryz.f121 K_spec_l12At t = K_spec_l12At.F t := by kernel_rfl
theorem e_slices_IndexFunc_Limpl_Node_impl_Node (t : TupI (K_slices_IndexFunc_Limpl_Node_impl_Node.ins.map PS.sh)) : runF X_slices_IndexFunc_Limpl_Node_impl_Node Tryz.f217 K_slices_IndexFunc_Limpl_Node_impl_Node t = K_slices_IndexFunc_Limpl_Node_impl_Node.F t := by kernel_rfl
theorem e_slices_IndexFunc_Limpl_Voter_impl_Voter (t : TupI (K_slices_IndexFunc_Limpl_Voter_impl_Voter.ins.map PS.sh)) : runF X_slices_IndexFunc_Limpl_Voter_impl_Voter Tryz.f206 K_slices_IndexFunc_Limpl_Voter_impl_Voter t = K_slices_IndexFunc_Limpl_Voter_impl_Voter.F t := by kernel_rfl
theorem e_laws_markQuorum (t : TupI (K_laws_markQuorum.ins.map PS.sh)) : runF X_laws_markQuorum Tryz.f91 K_laws_markQuorum t = K_laws_markQuorum.F t := by kernel_rfl
theorem e_slices_Contains_Lint64_int64 (t : TupI (K_slices_Contains_Lint64_int64.ins.map PS.sh)) : runF X_slices_Contains_Lint64_int64 Tryz.f90 K_slices_Contains_Lint64_int64 t = K_slices_Contains_Lint64_int64.F t := by kernel_rfl
theorem e_laws_eqRef (t : TupI (K_laws_eqRef.ins.map PS.sh)) : runF X_laws_eqRef Tryz.f199 K_laws_eqRef t = K_laws_eqRef.F t := by kernel_rfl
theorem e_impl_goodKeys_c1 (t : TupI (K_impl_goodKeys_c1.ins.map PS.sh)) : runF X_impl_goodKeys_c1 Tryz.f214 K_impl_goodKeys_c1 t = K_impl_goodKeys_c1.F t := by kernel_rfl
theorem e_spec_l12Err (t : TupI (K_spec_l12Err.ins.map PS.sh)) : runF X_spec_l12Err Tryz.f110 K_spec_l12Err t = K_spec_l12Err.F t := by kernel_rfl
end CL
end Go.Dx
