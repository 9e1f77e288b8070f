/- The executor finds what each function computes: by computation -/
import Derived.Test.YtmhbfgbadiikfaaGreatSca
set_option linter.unusedVariables false
set_option linter.unusedSimpArgs false
set_option maxRecDepth 100000
set_option maxHeartbeats 0
namespace Go.Dx
open Go.Proofs
namespace CL

theorem e_spec_l12Heard (t : TupI (K_spec_l12Heard.ins.map PS.sh)) : runF X_spec_l12Heard Tryz.f136 K_spec_l12Heard t = K_spec_l12Heard.F t := by kernel_rfl
theorem e_spec_VotedBy (t : TupI (K_spec_VotedBy.ins.map PS.sh)) : runF X_spec_VotedBy Tryz.f25 K_spec_VotedBy t = K_spec_VotedBy.F t := by kernel_rfl
theorem e_spec_l11At (t : TupI (K_spec_l11At.ins.map PS.sh)) : runF X_spec_l11At Tryz.f208 K_spec_l11At t = K_spec_l11At.F t := by kernel_rfl
theorem e_impl_nodeFault (t : TupI (K_impl_nodeFault.ins.map PS.sh)) : runF X_impl_nodeFault Tryz.f174 K_impl_nodeFault t = K_impl_nodeFault.F t := by kernel_rfl
theorem e_laws_eqVoteS (t : TupI (K_laws_eqVoteS.ins.map PS.sh)) : runF X_laws_eqVoteS Tryz.f79 K_laws_eqVoteS t = K_laws_eqVoteS.F t := by kernel_rfl
theorem e_laws_szInt64S (t : TupI (K_laws_szInt64S.ins.map PS.sh)) : runF X_laws_szInt64S Tryz.f60 K_laws_szInt64S t = K_laws_szInt64S.F t := by kernel_rfl
theorem e_laws_szQuorum (t : TupI (K_laws_szQuorum.ins.map PS.sh)) : runF X_laws_szQuorum Tryz.f59 K_laws_szQuorum t = K_laws_szQuorum.F t := by kernel_rfl
theorem e_laws_eqVoterS (t : TupI (K_laws_eqVoterS.ins.map PS.sh)) : runF X_laws_eqVoterS Tryz.f78 K_laws_eqVoterS t = K_laws_eqVoterS.F t := by kernel_rfl
theorem e_laws_toVote (t : TupI (K_laws_toVote.ins.map PS.sh)) : runF X_laws_toVote Tryz.f52 K_laws_toVote t = K_laws_toVote.F t := by kernel_rfl
theorem e_impl_within (t : TupI (K_impl_within.ins.map PS.sh)) : runF X_impl_within Tryz.f112 K_impl_within t = K_impl_within.F t := by kernel_rfl
theorem e_slices_ContainsFunc_Limpl_Choice_impl_Choice (t : TupI (K_slices_ContainsFunc_Limpl_Choice_impl_Choice.ins.map PS.sh)) : runF X_slices_ContainsFunc_Limpl_Choice_impl_Choice Tryz.f87 K_slices_ContainsFunc_Limpl_Choice_impl_Choice t = K_slices_ContainsFunc_Limpl_Choice_impl_Choice.F t := by kernel_rfl
theorem e_impl_isRef (t : TupI (K_impl_isRef.ins.map PS.sh)) : runF X_impl_isRef Tryz.f180 K_impl_isRef t = K_impl_isRef.F t := by kernel_rfl
theorem e_laws_toChoiceS (t : TupI (K_laws_toChoiceS.ins.map PS.sh)) : runF X_laws_toChoiceS Tryz.f190 K_laws_toChoiceS t = K_laws_toChoiceS.F t := by kernel_rfl
theorem e_laws_szCluster (t : TupI (K_laws_szCluster.ins.map PS.sh)) : runF X_laws_szCluster Tryz.f16 K_laws_szCluster t = K_laws_szCluster.F t := by kernel_rfl
theorem e_impl_Cluster_heardFault (t : TupI (K_impl_Cluster_heardFault.ins.map PS.sh)) : runF X_impl_Cluster_heardFault Tryz.f144 K_impl_Cluster_heardFault t = K_impl_Cluster_heardFault.F t := by kernel_rfl
theorem e_laws_markInt64SS (t : TupI (K_laws_markInt64SS.ins.map PS.sh)) : runF X_laws_markInt64SS Tryz.f96 K_laws_markInt64SS t = K_laws_markInt64SS.F t := by kernel_rfl
theorem e_laws_szInt64SS (t : TupI (K_laws_szInt64SS.ins.map PS.sh)) : runF X_laws_szInt64SS Tryz.f64 K_laws_szInt64SS t = K_laws_szInt64SS.F t := by kernel_rfl
theorem e_slices_Index_Lint64_int64 (t : TupI (K_slices_Index_Lint64_int64.ins.map PS.sh)) : runF X_slices_Index_Lint64_int64 Tryz.f154 K_slices_Index_Lint64_int64 t = K_slices_Index_Lint64_int64.F t := by kernel_rfl
theorem e_laws_szVoterS (t : TupI (K_laws_szVoterS.ins.map PS.sh)) : runF X_laws_szVoterS Tryz.f62 K_laws_szVoterS t = K_laws_szVoterS.F t := by kernel_rfl
theorem e_slices_IndexFunc_Limpl_Choice_impl_Choice (t : TupI (K_slices_IndexFunc_Limpl_Choice_impl_Choice.ins.map PS.sh)) : runF X_slices_IndexFunc_Limpl_Choice_impl_Choice Tryz.f153 K_slices_IndexFunc_Limpl_Choice_impl_Choice t = K_slices_IndexFunc_Limpl_Choice_impl_Choice.F t := by kernel_rfl
theorem e_laws_markChoiceS (t : TupI (K_laws_markChoiceS.ins.map PS.sh)) : runF X_laws_markChoiceS Tryz.f104 K_laws_markChoiceS t = K_laws_markChoiceS.F t := by kernel_rfl
theorem e_spec_l1In (t : TupI (K_spec_l1In.ins.map PS.sh)) : runF X_spec_l1In Tryz.f106 K_spec_l1In t = K_spec_l1In.F t := by kernel_rfl
theorem e_laws_toChoice (t : TupI (K_laws_toChoice.ins.map PS.sh)) : runF X_laws_toChoice Tryz.f211 K_laws_toChoice t = K_laws_toChoice.F t := by kernel_rfl
theorem e_laws_toQuorum (t : TupI (K_laws_toQuorum.ins.map PS.sh)) : runF X_laws_toQuorum Tryz.f67 K_laws_toQuorum t = K_laws_toQuorum.F t := by kernel_rfl
theorem e_laws_eqQuorum (t : TupI (K_laws_eqQuorum.ins.map PS.sh)) : runF X_laws_eqQuorum Tryz.f75 K_laws_eqQuorum t = K_laws_eqQuorum.F t := by kernel_rfl
theorem e_impl_isId (t : TupI (K_impl_isId.ins.map PS.sh)) : runF X_impl_isId Tryz.f179 K_impl_isId t = K_impl_isId.F t := by kernel_rfl
theorem e_laws_szVoteS (t : TupI (K_laws_szVoteS.ins.map PS.sh)) : runF X_laws_szVoteS Tryz.f63 K_laws_szVoteS t = K_laws_szVoteS.F t := by kernel_rfl
theorem e_slices_ContainsFunc_Lint64_int64 (t : TupI (K_slices_ContainsFunc_Lint64_int64.ins.map PS.sh)) : runF X_slices_ContainsFunc_Lint64_int64 Tryz.f83 K_slices_ContainsFunc_Lint64_int64 t = K_slices_ContainsFunc_Lint64_int64.F t := by kernel_rfl
end CL
end Go.Dx
