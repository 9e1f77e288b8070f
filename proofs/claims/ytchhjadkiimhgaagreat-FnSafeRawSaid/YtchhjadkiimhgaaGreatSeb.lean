/- The executor finds what each function computes: by computation -/
import Derived.Test.YtchhjadkiimhgaaGreatSca
set_option linter.unusedVariables false
set_option linter.unusedSimpArgs false
set_option maxRecDepth 100000
set_option maxHeartbeats 0
namespace Go.Dx
open Go.Proofs
namespace CL

theorem e_spec_l12Some (t:TupI (K_spec_l12Some.ins.map PS.sh)):runF X_spec_l12Some Tryz.f158 K_spec_l12Some t=K_spec_l12Some.F t:=by kernel_rfl
theorem e_impl_Cluster_isVoted (t:TupI (K_impl_Cluster_isVoted.ins.map PS.sh)):runF X_impl_Cluster_isVoted Tryz.f131 K_impl_Cluster_isVoted t=K_impl_Cluster_isVoted.F t:=by kernel_rfl
theorem e_impl_IsSafe (t:TupI (K_impl_IsSafe.ins.map PS.sh)):runF X_impl_IsSafe Tryz.f80 K_impl_IsSafe t=K_impl_IsSafe.F t:=by kernel_rfl
theorem e_spec_l12Fault (t:TupI (K_spec_l12Fault.ins.map PS.sh)):runF X_spec_l12Fault Tryz.f52 K_spec_l12Fault t=K_spec_l12Fault.F t:=by kernel_rfl
theorem e_spec_l10Bent (t:TupI (K_spec_l10Bent.ins.map PS.sh)):runF X_spec_l10Bent Tryz.f99 K_spec_l10Bent t=K_spec_l10Bent.F t:=by kernel_rfl
theorem e_spec_NoDouble (t:TupI (K_spec_NoDouble.ins.map PS.sh)):runF X_spec_NoDouble Tryz.f33 K_spec_NoDouble t=K_spec_NoDouble.F t:=by kernel_rfl
theorem e_spec_l11Count (t:TupI (K_spec_l11Count.ins.map PS.sh)):runF X_spec_l11Count Tryz.f146 K_spec_l11Count t=K_spec_l11Count.F t:=by kernel_rfl
theorem e_spec_l9Fault (t:TupI (K_spec_l9Fault.ins.map PS.sh)):runF X_spec_l9Fault Tryz.f114 K_spec_l9Fault t=K_spec_l9Fault.F t:=by kernel_rfl
theorem e_spec_l12Has (t:TupI (K_spec_l12Has.ins.map PS.sh)):runF X_spec_l12Has Tryz.f122 K_spec_l12Has t=K_spec_l12Has.F t:=by kernel_rfl
theorem e_spec_l10Draw (t:TupI (K_spec_l10Draw.ins.map PS.sh)):runF X_spec_l10Draw Tryz.f156 K_spec_l10Draw t=K_spec_l10Draw.F t:=by kernel_rfl
theorem e_impl_Quorum_badIn (t:TupI (K_impl_Quorum_badIn.ins.map PS.sh)):runF X_impl_Quorum_badIn Tryz.f141 K_impl_Quorum_badIn t=K_impl_Quorum_badIn.F t:=by kernel_rfl
theorem e_impl_NoFork_c1 (t:TupI (K_impl_NoFork_c1.ins.map PS.sh)):runF X_impl_NoFork_c1 Tryz.f82 K_impl_NoFork_c1 t=K_impl_NoFork_c1.F t:=by kernel_rfl
theorem e_spec_l9Node (t:TupI (K_spec_l9Node.ins.map PS.sh)):runF X_spec_l9Node Tryz.f162 K_spec_l9Node t=K_spec_l9Node.F t:=by kernel_rfl
theorem e_impl_QuorumFault (t:TupI (K_impl_QuorumFault.ins.map PS.sh)):runF X_impl_QuorumFault Tryz.f58 K_impl_QuorumFault t=K_impl_QuorumFault.F t:=by kernel_rfl
theorem e_spec_l9DrawId (t:TupI (K_spec_l9DrawId.ins.map PS.sh)):runF X_spec_l9DrawId Tryz.f69 K_spec_l9DrawId t=K_spec_l9DrawId.F t:=by kernel_rfl
theorem e_spec_l12Put (t:TupI (K_spec_l12Put.ins.map PS.sh)):runF X_spec_l12Put Tryz.f56 K_spec_l12Put t=K_spec_l12Put.F t:=by kernel_rfl
theorem e_spec_l1Max (t:TupI (K_spec_l1Max.ins.map PS.sh)):runF X_spec_l1Max Tryz.f133 K_spec_l1Max t=K_spec_l1Max.F t:=by kernel_rfl
theorem e_impl_meetOf_c1 (t:TupI (K_impl_meetOf_c1.ins.map PS.sh)):runF X_impl_meetOf_c1 Tryz.f190 K_impl_meetOf_c1 t=K_impl_meetOf_c1.F t:=by kernel_rfl
theorem e_spec_l1Pick (t:TupI (K_spec_l1Pick.ins.map PS.sh)):runF X_spec_l1Pick Tryz.f100 K_spec_l1Pick t=K_spec_l1Pick.F t:=by kernel_rfl
theorem e_impl_Cluster_heardFault_c1 (t:TupI (K_impl_Cluster_heardFault_c1.ins.map PS.sh)):runF X_impl_Cluster_heardFault_c1 Tryz.f132 K_impl_Cluster_heardFault_c1 t=K_impl_Cluster_heardFault_c1.F t:=by kernel_rfl
theorem e_slices_IndexFunc_Limpl_Voter_impl_Voter (t:TupI (K_slices_IndexFunc_Limpl_Voter_impl_Voter.ins.map PS.sh)):runF X_slices_IndexFunc_Limpl_Voter_impl_Voter Tryz.f172 K_slices_IndexFunc_Limpl_Voter_impl_Voter t=K_slices_IndexFunc_Limpl_Voter_impl_Voter.F t:=by kernel_rfl
theorem e_impl_VoterFault_c1 (t:TupI (K_impl_VoterFault_c1.ins.map PS.sh)):runF X_impl_VoterFault_c1 Tryz.f170 K_impl_VoterFault_c1 t=K_impl_VoterFault_c1.F t:=by kernel_rfl
theorem e_impl_areKeys (t:TupI (K_impl_areKeys.ins.map PS.sh)):runF X_impl_areKeys Tryz.f124 K_impl_areKeys t=K_impl_areKeys.F t:=by kernel_rfl
theorem e_slices_Contains_Lint64_int64 (t:TupI (K_slices_Contains_Lint64_int64.ins.map PS.sh)):runF X_slices_Contains_Lint64_int64 Tryz.f49 K_slices_Contains_Lint64_int64 t=K_slices_Contains_Lint64_int64.F t:=by kernel_rfl
end CL
end Go.Dx

