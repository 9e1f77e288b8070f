/- The executor finds what each function computes: by computation -/
import Derived.Test.YtchhjadkiimhgaaGreatSca
set_option linter.unusedVariables false
set_option linter.unusedSimpArgs false
set_option maxRecDepth 100000
set_option maxHeartbeats 0
namespace Go.Dx
open Go.Proofs
namespace CL

theorem e_impl_LockedCoins (t:TupI (K_impl_LockedCoins.ins.map PS.sh)):runF X_impl_LockedCoins Tryz.f37 K_impl_LockedCoins t=K_impl_LockedCoins.F t:=by kernel_rfl
theorem e_spec_l12Heard (t:TupI (K_spec_l12Heard.ins.map PS.sh)):runF X_spec_l12Heard Tryz.f117 K_spec_l12Heard t=K_spec_l12Heard.F t:=by kernel_rfl
theorem e_spec_l10Fault (t:TupI (K_spec_l10Fault.ins.map PS.sh)):runF X_spec_l10Fault Tryz.f112 K_spec_l10Fault t=K_spec_l10Fault.F t:=by kernel_rfl
theorem e_impl_HearAt (t:TupI (K_impl_HearAt.ins.map PS.sh)):runF X_impl_HearAt Tryz.f25 K_impl_HearAt t=K_impl_HearAt.F t:=by kernel_rfl
theorem e_impl_Cluster_lockedBy (t:TupI (K_impl_Cluster_lockedBy.ins.map PS.sh)):runF X_impl_Cluster_lockedBy Tryz.f91 K_impl_Cluster_lockedBy t=K_impl_Cluster_lockedBy.F t:=by kernel_rfl
theorem e_spec_l12Locks (t:TupI (K_spec_l12Locks.ins.map PS.sh)):runF X_spec_l12Locks Tryz.f145 K_spec_l12Locks t=K_spec_l12Locks.F t:=by kernel_rfl
theorem e_impl_Cluster_votersFault (t:TupI (K_impl_Cluster_votersFault.ins.map PS.sh)):runF X_impl_Cluster_votersFault Tryz.f62 K_impl_Cluster_votersFault t=K_impl_Cluster_votersFault.F t:=by kernel_rfl
theorem e_impl_castFor (t:TupI (K_impl_castFor.ins.map PS.sh)):runF X_impl_castFor Tryz.f72 K_impl_castFor t=K_impl_castFor.F t:=by kernel_rfl
theorem e_impl_ChooseFor (t:TupI (K_impl_ChooseFor.ins.map PS.sh)):runF X_impl_ChooseFor Tryz.f77 K_impl_ChooseFor t=K_impl_ChooseFor.F t:=by kernel_rfl
theorem e_impl_voted (t:TupI (K_impl_voted.ins.map PS.sh)):runF X_impl_voted Tryz.f70 K_impl_voted t=K_impl_voted.F t:=by kernel_rfl
theorem e_slices_IndexFunc_Lint64_int64 (t:TupI (K_slices_IndexFunc_Lint64_int64.ins.map PS.sh)):runF X_slices_IndexFunc_Lint64_int64 Tryz.f142 K_slices_IndexFunc_Lint64_int64 t=K_slices_IndexFunc_Lint64_int64.F t:=by kernel_rfl
theorem e_spec_l12Has (t:TupI (K_spec_l12Has.ins.map PS.sh)):runF X_spec_l12Has Tryz.f122 K_spec_l12Has t=K_spec_l12Has.F t:=by kernel_rfl
theorem e_impl_Cluster_isHearer (t:TupI (K_impl_Cluster_isHearer.ins.map PS.sh)):runF X_impl_Cluster_isHearer Tryz.f78 K_impl_Cluster_isHearer t=K_impl_Cluster_isHearer.F t:=by kernel_rfl
theorem e_impl_CastAt_c1 (t:TupI (K_impl_CastAt_c1.ins.map PS.sh)):runF X_impl_CastAt_c1 Tryz.f71 K_impl_CastAt_c1 t=K_impl_CastAt_c1.F t:=by kernel_rfl
theorem e_impl_within (t:TupI (K_impl_within.ins.map PS.sh)):runF X_impl_within Tryz.f59 K_impl_within t=K_impl_within.F t:=by kernel_rfl
theorem e_impl_VoteFault (t:TupI (K_impl_VoteFault.ins.map PS.sh)):runF X_impl_VoteFault Tryz.f48 K_impl_VoteFault t=K_impl_VoteFault.F t:=by kernel_rfl
theorem e_impl_NoFork_c1 (t:TupI (K_impl_NoFork_c1.ins.map PS.sh)):runF X_impl_NoFork_c1 Tryz.f82 K_impl_NoFork_c1 t=K_impl_NoFork_c1.F t:=by kernel_rfl
theorem e_impl_GrowTree (t:TupI (K_impl_GrowTree.ins.map PS.sh)):runF X_impl_GrowTree Tryz.f26 K_impl_GrowTree t=K_impl_GrowTree.F t:=by kernel_rfl
theorem e_impl_ChooseAt (t:TupI (K_impl_ChooseAt.ins.map PS.sh)):runF X_impl_ChooseAt Tryz.f23 K_impl_ChooseAt t=K_impl_ChooseAt.F t:=by kernel_rfl
theorem e_impl_related (t:TupI (K_impl_related.ins.map PS.sh)):runF X_impl_related Tryz.f67 K_impl_related t=K_impl_related.F t:=by kernel_rfl
theorem e_spec_l12At (t:TupI (K_spec_l12At.ins.map PS.sh)):runF X_spec_l12At Tryz.f73 K_spec_l12At t=K_spec_l12At.F t:=by kernel_rfl
theorem e_impl_NoFork (t:TupI (K_impl_NoFork.ins.map PS.sh)):runF X_impl_NoFork Tryz.f29 K_impl_NoFork t=K_impl_NoFork.F t:=by kernel_rfl
theorem e_laws_lwBig (t:TupI (K_laws_lwBig.ins.map PS.sh)):runF X_laws_lwBig Tryz.f9 K_laws_lwBig t=K_laws_lwBig.F t:=by kernel_rfl
theorem e_impl_Cluster_heardFault (t:TupI (K_impl_Cluster_heardFault.ins.map PS.sh)):runF X_impl_Cluster_heardFault Tryz.f64 K_impl_Cluster_heardFault t=K_impl_Cluster_heardFault.F t:=by kernel_rfl
theorem e_spec_l9At (t:TupI (K_spec_l9At.ins.map PS.sh)):runF X_spec_l9At Tryz.f138 K_spec_l9At t=K_spec_l9At.F t:=by kernel_rfl
theorem e_impl_meetOf_c1 (t:TupI (K_impl_meetOf_c1.ins.map PS.sh)):runF X_impl_meetOf_c1 Tryz.f190 K_impl_meetOf_c1 t=K_impl_meetOf_c1.F t:=by kernel_rfl
theorem e_cmp_isNaN_int64 (t:TupI (K_cmp_isNaN_int64.ins.map PS.sh)):runF X_cmp_isNaN_int64 Tryz.f178 K_cmp_isNaN_int64 t=K_cmp_isNaN_int64.F t:=by kernel_rfl
theorem e_slices_IndexFunc_Limpl_Choice_impl_Choice (t:TupI (K_slices_IndexFunc_Limpl_Choice_impl_Choice.ins.map PS.sh)):runF X_slices_IndexFunc_Limpl_Choice_impl_Choice Tryz.f143 K_slices_IndexFunc_Limpl_Choice_impl_Choice t=K_slices_IndexFunc_Limpl_Choice_impl_Choice.F t:=by kernel_rfl
theorem e_spec_LockedCoins (t:TupI (K_spec_LockedCoins.ins.map PS.sh)):runF X_spec_LockedCoins Tryz.f39 K_spec_LockedCoins t=K_spec_LockedCoins.F t:=by kernel_rfl
theorem e_slices_Clone_Lint64_int64 (t:TupI (K_slices_Clone_Lint64_int64.ins.map PS.sh)):runF X_slices_Clone_Lint64_int64 Tryz.f107 K_slices_Clone_Lint64_int64 t=K_slices_Clone_Lint64_int64.F t:=by kernel_rfl
theorem e_slices_Clone_Limpl_Choice_impl_Choice (t:TupI (K_slices_Clone_Limpl_Choice_impl_Choice.ins.map PS.sh)):runF X_slices_Clone_Limpl_Choice_impl_Choice Tryz.f160 K_slices_Clone_Limpl_Choice_impl_Choice t=K_slices_Clone_Limpl_Choice_impl_Choice.F t:=by kernel_rfl
theorem e_impl_NeedOf (t:TupI (K_impl_NeedOf.ins.map PS.sh)):runF X_impl_NeedOf Tryz.f90 K_impl_NeedOf t=K_impl_NeedOf.F t:=by kernel_rfl
theorem e_impl_findNode_c1 (t:TupI (K_impl_findNode_c1.ins.map PS.sh)):runF X_impl_findNode_c1 Tryz.f188 K_impl_findNode_c1 t=K_impl_findNode_c1.F t:=by kernel_rfl
theorem e_impl_findNode (t:TupI (K_impl_findNode.ins.map PS.sh)):runF X_impl_findNode Tryz.f167 K_impl_findNode t=K_impl_findNode.F t:=by kernel_rfl
theorem e_spec_l13Blocks (t:TupI (K_spec_l13Blocks.ins.map PS.sh)):runF X_spec_l13Blocks Tryz.f86 K_spec_l13Blocks t=K_spec_l13Blocks.F t:=by kernel_rfl
theorem e_slices_Contains_Limpl_Choice_impl_Choice (t:TupI (K_slices_Contains_Limpl_Choice_impl_Choice.ins.map PS.sh)):runF X_slices_Contains_Limpl_Choice_impl_Choice Tryz.f92 K_slices_Contains_Limpl_Choice_impl_Choice t=K_slices_Contains_Limpl_Choice_impl_Choice.F t:=by kernel_rfl
theorem e_impl_Cluster_votersFault_c1 (t:TupI (K_impl_Cluster_votersFault_c1.ins.map PS.sh)):runF X_impl_Cluster_votersFault_c1 Tryz.f129 K_impl_Cluster_votersFault_c1 t=K_impl_Cluster_votersFault_c1.F t:=by kernel_rfl
end CL
end Go.Dx

