/- The executor finds what each function computes: by computation -/
import Derived.Test.YtchhjadkiimhgaaGreatSca
set_option linter.unusedVariables false
set_option linter.unusedSimpArgs false
set_option maxRecDepth 100000
set_option maxHeartbeats 0
namespace Go.Dx
open Go.Proofs
namespace CL

theorem e_impl_LockedCoins (t:TupI (K_impl_LockedCoins.ins.map PS.sh)):runF X_impl_LockedCoins Tryz.f37 K_impl_LockedCoins t=K_impl_LockedCoins.F t:=by kernel_rfl
theorem e_spec_l12Heard (t:TupI (K_spec_l12Heard.ins.map PS.sh)):runF X_spec_l12Heard Tryz.f117 K_spec_l12Heard t=K_spec_l12Heard.F t:=by kernel_rfl
theorem e_spec_l13Cluster (t:TupI (K_spec_l13Cluster.ins.map PS.sh)):runF X_spec_l13Cluster Tryz.f65 K_spec_l13Cluster t=K_spec_l13Cluster.F t:=by kernel_rfl
theorem e_spec_l12Voters (t:TupI (K_spec_l12Voters.ins.map PS.sh)):runF X_spec_l12Voters Tryz.f115 K_spec_l12Voters t=K_spec_l12Voters.F t:=by kernel_rfl
theorem e_impl_Cluster_lockedBy (t:TupI (K_impl_Cluster_lockedBy.ins.map PS.sh)):runF X_impl_Cluster_lockedBy Tryz.f91 K_impl_Cluster_lockedBy t=K_impl_Cluster_lockedBy.F t:=by kernel_rfl
theorem e_spec_l11DrawVote (t:TupI (K_spec_l11DrawVote.ins.map PS.sh)):runF X_spec_l11DrawVote Tryz.f102 K_spec_l11DrawVote t=K_spec_l11DrawVote.F t:=by kernel_rfl
theorem e_spec_l11Fault (t:TupI (K_spec_l11Fault.ins.map PS.sh)):runF X_spec_l11Fault Tryz.f164 K_spec_l11Fault t=K_spec_l11Fault.F t:=by kernel_rfl
theorem e_spec_l9Bent (t:TupI (K_spec_l9Bent.ins.map PS.sh)):runF X_spec_l9Bent Tryz.f101 K_spec_l9Bent t=K_spec_l9Bent.F t:=by kernel_rfl
theorem e_slices_Index_Limpl_Choice_impl_Choice (t:TupI (K_slices_Index_Limpl_Choice_impl_Choice.ins.map PS.sh)):runF X_slices_Index_Limpl_Choice_impl_Choice Tryz.f150 K_slices_Index_Limpl_Choice_impl_Choice t=K_slices_Index_Limpl_Choice_impl_Choice.F t:=by kernel_rfl
theorem e_spec_l11BentVote (t:TupI (K_spec_l11BentVote.ins.map PS.sh)):runF X_spec_l11BentVote Tryz.f46 K_spec_l11BentVote t=K_spec_l11BentVote.F t:=by kernel_rfl
theorem e_impl_NoDouble (t:TupI (K_impl_NoDouble.ins.map PS.sh)):runF X_impl_NoDouble Tryz.f30 K_impl_NoDouble t=K_impl_NoDouble.F t:=by kernel_rfl
theorem e_impl_NoDouble_c1 (t:TupI (K_impl_NoDouble_c1.ins.map PS.sh)):runF X_impl_NoDouble_c1 Tryz.f84 K_impl_NoDouble_c1 t=K_impl_NoDouble_c1.F t:=by kernel_rfl
theorem e_impl_VoteFault (t:TupI (K_impl_VoteFault.ins.map PS.sh)):runF X_impl_VoteFault Tryz.f48 K_impl_VoteFault t=K_impl_VoteFault.F t:=by kernel_rfl
theorem e_impl_LockedBlocks (t:TupI (K_impl_LockedBlocks.ins.map PS.sh)):runF X_impl_LockedBlocks Tryz.f36 K_impl_LockedBlocks t=K_impl_LockedBlocks.F t:=by kernel_rfl
theorem e_spec_l11Copy (t:TupI (K_spec_l11Copy.ins.map PS.sh)):runF X_spec_l11Copy Tryz.f123 K_spec_l11Copy t=K_spec_l11Copy.F t:=by kernel_rfl
theorem e_spec_l1Key (t:TupI (K_spec_l1Key.ins.map PS.sh)):runF X_spec_l1Key Tryz.f119 K_spec_l1Key t=K_spec_l1Key.F t:=by kernel_rfl
theorem e_impl_NoFork (t:TupI (K_impl_NoFork.ins.map PS.sh)):runF X_impl_NoFork Tryz.f29 K_impl_NoFork t=K_impl_NoFork.F t:=by kernel_rfl
theorem e_impl_Cluster_heardFault (t:TupI (K_impl_Cluster_heardFault.ins.map PS.sh)):runF X_impl_Cluster_heardFault Tryz.f64 K_impl_Cluster_heardFault t=K_impl_Cluster_heardFault.F t:=by kernel_rfl
theorem e_spec_l9At (t:TupI (K_spec_l9At.ins.map PS.sh)):runF X_spec_l9At Tryz.f138 K_spec_l9At t=K_spec_l9At.F t:=by kernel_rfl
theorem e_spec_DrawNoFork (t:TupI (K_spec_DrawNoFork.ins.map PS.sh)):runF X_spec_DrawNoFork Tryz.f27 K_spec_DrawNoFork t=K_spec_DrawNoFork.F t:=by kernel_rfl
theorem e_spec_l11Tx (t:TupI (K_spec_l11Tx.ins.map PS.sh)):runF X_spec_l11Tx Tryz.f120 K_spec_l11Tx t=K_spec_l11Tx.F t:=by kernel_rfl
theorem e_impl_goodKeys (t:TupI (K_impl_goodKeys.ins.map PS.sh)):runF X_impl_goodKeys Tryz.f127 K_impl_goodKeys t=K_impl_goodKeys.F t:=by kernel_rfl
theorem e_spec_l9Related (t:TupI (K_spec_l9Related.ins.map PS.sh)):runF X_spec_l9Related Tryz.f87 K_spec_l9Related t=K_spec_l9Related.F t:=by kernel_rfl
theorem e_impl_findNode (t:TupI (K_impl_findNode.ins.map PS.sh)):runF X_impl_findNode Tryz.f167 K_impl_findNode t=K_impl_findNode.F t:=by kernel_rfl
theorem e_spec_l1Chance (t:TupI (K_spec_l1Chance.ins.map PS.sh)):runF X_spec_l1Chance Tryz.f47 K_spec_l1Chance t=K_spec_l1Chance.F t:=by kernel_rfl
theorem e_impl_areKeys_c1 (t:TupI (K_impl_areKeys_c1.ins.map PS.sh)):runF X_impl_areKeys_c1 Tryz.f166 K_impl_areKeys_c1 t=K_impl_areKeys_c1.F t:=by kernel_rfl
end CL
end Go.Dx

