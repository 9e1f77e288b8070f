/- The executor finds what each function computes: by computation -/
import Derived.Test.YtchhjadkiimhgaaGreatSca
set_option linter.unusedVariables false
set_option linter.unusedSimpArgs false
set_option maxRecDepth 100000
set_option maxHeartbeats 0
namespace Go.Dx
open Go.Proofs
namespace CL

theorem e_spec_l12Stands (t:TupI (K_spec_l12Stands.ins.map PS.sh)):runF X_spec_l12Stands Tryz.f165 K_spec_l12Stands t=K_spec_l12Stands.F t:=by kernel_rfl
theorem e_impl_Cluster_votesFault (t:TupI (K_impl_Cluster_votesFault.ins.map PS.sh)):runF X_impl_Cluster_votesFault Tryz.f63 K_impl_Cluster_votesFault t=K_impl_Cluster_votesFault.F t:=by kernel_rfl
theorem e_spec_l10Fault (t:TupI (K_spec_l10Fault.ins.map PS.sh)):runF X_spec_l10Fault Tryz.f112 K_spec_l10Fault t=K_spec_l10Fault.F t:=by kernel_rfl
theorem e_spec_l12Known (t:TupI (K_spec_l12Known.ins.map PS.sh)):runF X_spec_l12Known Tryz.f153 K_spec_l12Known t=K_spec_l12Known.F t:=by kernel_rfl
theorem e_impl_Cluster_isVoted (t:TupI (K_impl_Cluster_isVoted.ins.map PS.sh)):runF X_impl_Cluster_isVoted Tryz.f131 K_impl_Cluster_isVoted t=K_impl_Cluster_isVoted.F t:=by kernel_rfl
theorem e_impl_Cluster_lockedBy (t:TupI (K_impl_Cluster_lockedBy.ins.map PS.sh)):runF X_impl_Cluster_lockedBy Tryz.f91 K_impl_Cluster_lockedBy t=K_impl_Cluster_lockedBy.F t:=by kernel_rfl
theorem e_spec_l12Locks (t:TupI (K_spec_l12Locks.ins.map PS.sh)):runF X_spec_l12Locks Tryz.f145 K_spec_l12Locks t=K_spec_l12Locks.F t:=by kernel_rfl
theorem e_spec_l11Fault (t:TupI (K_spec_l11Fault.ins.map PS.sh)):runF X_spec_l11Fault Tryz.f164 K_spec_l11Fault t=K_spec_l11Fault.F t:=by kernel_rfl
theorem e_spec_l11Count (t:TupI (K_spec_l11Count.ins.map PS.sh)):runF X_spec_l11Count Tryz.f146 K_spec_l11Count t=K_spec_l11Count.F t:=by kernel_rfl
theorem e_impl_ChooseFor (t:TupI (K_impl_ChooseFor.ins.map PS.sh)):runF X_impl_ChooseFor Tryz.f77 K_impl_ChooseFor t=K_impl_ChooseFor.F t:=by kernel_rfl
theorem e_spec_l9Fault (t:TupI (K_spec_l9Fault.ins.map PS.sh)):runF X_spec_l9Fault Tryz.f114 K_spec_l9Fault t=K_spec_l9Fault.F t:=by kernel_rfl
theorem e_slices_IndexFunc_Lint64_int64 (t:TupI (K_slices_IndexFunc_Lint64_int64.ins.map PS.sh)):runF X_slices_IndexFunc_Lint64_int64 Tryz.f142 K_slices_IndexFunc_Lint64_int64 t=K_slices_IndexFunc_Lint64_int64.F t:=by kernel_rfl
theorem e_spec_l12Has (t:TupI (K_spec_l12Has.ins.map PS.sh)):runF X_spec_l12Has Tryz.f122 K_spec_l12Has t=K_spec_l12Has.F t:=by kernel_rfl
theorem e_spec_BestOf (t:TupI (K_spec_BestOf.ins.map PS.sh)):runF X_spec_BestOf Tryz.f96 K_spec_BestOf t=K_spec_BestOf.F t:=by kernel_rfl
theorem e_impl_within (t:TupI (K_impl_within.ins.map PS.sh)):runF X_impl_within Tryz.f59 K_impl_within t=K_impl_within.F t:=by kernel_rfl
theorem e_impl_TreeFault (t:TupI (K_impl_TreeFault.ins.map PS.sh)):runF X_impl_TreeFault Tryz.f61 K_impl_TreeFault t=K_impl_TreeFault.F t:=by kernel_rfl
theorem e_spec_l4Among (t:TupI (K_spec_l4Among.ins.map PS.sh)):runF X_spec_l4Among Tryz.f55 K_spec_l4Among t=K_spec_l4Among.F t:=by kernel_rfl
theorem e_impl_GrowTree (t:TupI (K_impl_GrowTree.ins.map PS.sh)):runF X_impl_GrowTree Tryz.f26 K_impl_GrowTree t=K_impl_GrowTree.F t:=by kernel_rfl
theorem e_spec_l9Node (t:TupI (K_spec_l9Node.ins.map PS.sh)):runF X_spec_l9Node Tryz.f162 K_spec_l9Node t=K_spec_l9Node.F t:=by kernel_rfl
theorem e_impl_BestOf_c1 (t:TupI (K_impl_BestOf_c1.ins.map PS.sh)):runF X_impl_BestOf_c1 Tryz.f151 K_impl_BestOf_c1 t=K_impl_BestOf_c1.F t:=by kernel_rfl
theorem e_impl_ChooseAt_c1 (t:TupI (K_impl_ChooseAt_c1.ins.map PS.sh)):runF X_impl_ChooseAt_c1 Tryz.f76 K_impl_ChooseAt_c1 t=K_impl_ChooseAt_c1.F t:=by kernel_rfl
theorem e_spec_l12At (t:TupI (K_spec_l12At.ins.map PS.sh)):runF X_spec_l12At Tryz.f73 K_spec_l12At t=K_spec_l12At.F t:=by kernel_rfl
theorem e_slices_EqualFunc_Limpl_Voter_Lint64_impl_Voter_int64 (t:TupI (K_slices_EqualFunc_Limpl_Voter_Lint64_impl_Voter_int64.ins.map PS.sh)):runF X_slices_EqualFunc_Limpl_Voter_Lint64_impl_Voter_int64 Tryz.f128 K_slices_EqualFunc_Limpl_Voter_Lint64_impl_Voter_int64 t=K_slices_EqualFunc_Limpl_Voter_Lint64_impl_Voter_int64.F t:=by kernel_rfl
theorem e_impl_isIn (t:TupI (K_impl_isIn.ins.map PS.sh)):runF X_impl_isIn Tryz.f137 K_impl_isIn t=K_impl_isIn.F t:=by kernel_rfl
theorem e_impl_Cluster_heardFault (t:TupI (K_impl_Cluster_heardFault.ins.map PS.sh)):runF X_impl_Cluster_heardFault Tryz.f64 K_impl_Cluster_heardFault t=K_impl_Cluster_heardFault.F t:=by kernel_rfl
theorem e_impl_CastAt (t:TupI (K_impl_CastAt.ins.map PS.sh)):runF X_impl_CastAt Tryz.f21 K_impl_CastAt t=K_impl_CastAt.F t:=by kernel_rfl
theorem e_spec_l9At (t:TupI (K_spec_l9At.ins.map PS.sh)):runF X_spec_l9At Tryz.f138 K_spec_l9At t=K_spec_l9At.F t:=by kernel_rfl
theorem e_impl_meetOf_c1 (t:TupI (K_impl_meetOf_c1.ins.map PS.sh)):runF X_impl_meetOf_c1 Tryz.f190 K_impl_meetOf_c1 t=K_impl_meetOf_c1.F t:=by kernel_rfl
theorem e_spec_l11Tx (t:TupI (K_spec_l11Tx.ins.map PS.sh)):runF X_spec_l11Tx Tryz.f120 K_spec_l11Tx t=K_spec_l11Tx.F t:=by kernel_rfl
theorem e_slices_Index_Lint64_int64 (t:TupI (K_slices_Index_Lint64_int64.ins.map PS.sh)):runF X_slices_Index_Lint64_int64 Tryz.f106 K_slices_Index_Lint64_int64 t=K_slices_Index_Lint64_int64.F t:=by kernel_rfl
theorem e_impl_ownVoter (t:TupI (K_impl_ownVoter.ins.map PS.sh)):runF X_impl_ownVoter Tryz.f110 K_impl_ownVoter t=K_impl_ownVoter.F t:=by kernel_rfl
theorem e_slices_Clone_Lint64_int64 (t:TupI (K_slices_Clone_Lint64_int64.ins.map PS.sh)):runF X_slices_Clone_Lint64_int64 Tryz.f107 K_slices_Clone_Lint64_int64 t=K_slices_Clone_Lint64_int64.F t:=by kernel_rfl
theorem e_slices_Clone_Limpl_Choice_impl_Choice (t:TupI (K_slices_Clone_Limpl_Choice_impl_Choice.ins.map PS.sh)):runF X_slices_Clone_Limpl_Choice_impl_Choice Tryz.f160 K_slices_Clone_Limpl_Choice_impl_Choice t=K_slices_Clone_Limpl_Choice_impl_Choice.F t:=by kernel_rfl
theorem e_impl_NeedOf (t:TupI (K_impl_NeedOf.ins.map PS.sh)):runF X_impl_NeedOf Tryz.f90 K_impl_NeedOf t=K_impl_NeedOf.F t:=by kernel_rfl
theorem e_impl_Voter_chosen_c1 (t:TupI (K_impl_Voter_chosen_c1.ins.map PS.sh)):runF X_impl_Voter_chosen_c1 Tryz.f174 K_impl_Voter_chosen_c1 t=K_impl_Voter_chosen_c1.F t:=by kernel_rfl
theorem e_slices_Clone_Limpl_Vote_impl_Vote (t:TupI (K_slices_Clone_Limpl_Vote_impl_Vote.ins.map PS.sh)):runF X_slices_Clone_Limpl_Vote_impl_Vote Tryz.f109 K_slices_Clone_Limpl_Vote_impl_Vote t=K_slices_Clone_Limpl_Vote_impl_Vote.F t:=by kernel_rfl
theorem e_impl_Cluster_findVoter_c1 (t:TupI (K_impl_Cluster_findVoter_c1.ins.map PS.sh)):runF X_impl_Cluster_findVoter_c1 Tryz.f173 K_impl_Cluster_findVoter_c1 t=K_impl_Cluster_findVoter_c1.F t:=by kernel_rfl
theorem e_impl_Cluster_findVoter (t:TupI (K_impl_Cluster_findVoter.ins.map PS.sh)):runF X_impl_Cluster_findVoter Tryz.f136 K_impl_Cluster_findVoter t=K_impl_Cluster_findVoter.F t:=by kernel_rfl
theorem e_impl_Cluster_votersFault_c1 (t:TupI (K_impl_Cluster_votersFault_c1.ins.map PS.sh)):runF X_impl_Cluster_votersFault_c1 Tryz.f129 K_impl_Cluster_votersFault_c1 t=K_impl_Cluster_votersFault_c1.F t:=by kernel_rfl
end CL
end Go.Dx

