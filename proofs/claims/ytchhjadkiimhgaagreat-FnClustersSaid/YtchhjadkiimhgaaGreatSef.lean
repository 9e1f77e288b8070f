/- The executor finds what each function computes: by computation -/
import Derived.Test.YtchhjadkiimhgaaGreatSca
set_option linter.unusedVariables false
set_option linter.unusedSimpArgs false
set_option maxRecDepth 100000
set_option maxHeartbeats 0
namespace Go.Dx
open Go.Proofs
namespace CL

theorem e_spec_l12Cluster (t:TupI (K_spec_l12Cluster.ins.map PS.sh)):runF X_spec_l12Cluster Tryz.f45 K_spec_l12Cluster t=K_spec_l12Cluster.F t:=by kernel_rfl
theorem e_spec_l1Next (t:TupI (K_spec_l1Next.ins.map PS.sh)):runF X_spec_l1Next Tryz.f66 K_spec_l1Next t=K_spec_l1Next.F t:=by kernel_rfl
theorem e_impl_Cluster_votesFault (t:TupI (K_impl_Cluster_votesFault.ins.map PS.sh)):runF X_impl_Cluster_votesFault Tryz.f63 K_impl_Cluster_votesFault t=K_impl_Cluster_votesFault.F t:=by kernel_rfl
theorem e_impl_HearAt (t:TupI (K_impl_HearAt.ins.map PS.sh)):runF X_impl_HearAt Tryz.f25 K_impl_HearAt t=K_impl_HearAt.F t:=by kernel_rfl
theorem e_spec_l12Right (t:TupI (K_spec_l12Right.ins.map PS.sh)):runF X_spec_l12Right Tryz.f98 K_spec_l12Right t=K_spec_l12Right.F t:=by kernel_rfl
theorem e_spec_CastAt (t:TupI (K_spec_CastAt.ins.map PS.sh)):runF X_spec_CastAt Tryz.f22 K_spec_CastAt t=K_spec_CastAt.F t:=by kernel_rfl
theorem e_spec_l11Choose (t:TupI (K_spec_l11Choose.ins.map PS.sh)):runF X_spec_l11Choose Tryz.f189 K_spec_l11Choose t=K_spec_l11Choose.F t:=by kernel_rfl
theorem e_spec_ForgeAt (t:TupI (K_spec_ForgeAt.ins.map PS.sh)):runF X_spec_ForgeAt Tryz.f12 K_spec_ForgeAt t=K_spec_ForgeAt.F t:=by kernel_rfl
theorem e_spec_l12Key (t:TupI (K_spec_l12Key.ins.map PS.sh)):runF X_spec_l12Key Tryz.f68 K_spec_l12Key t=K_spec_l12Key.F t:=by kernel_rfl
theorem e_impl_nodeFault (t:TupI (K_impl_nodeFault.ins.map PS.sh)):runF X_impl_nodeFault Tryz.f126 K_impl_nodeFault t=K_impl_nodeFault.F t:=by kernel_rfl
theorem e_slices_IndexFunc_Lint64_int64 (t:TupI (K_slices_IndexFunc_Lint64_int64.ins.map PS.sh)):runF X_slices_IndexFunc_Lint64_int64 Tryz.f142 K_slices_IndexFunc_Lint64_int64 t=K_slices_IndexFunc_Lint64_int64.F t:=by kernel_rfl
theorem e_spec_l10Draw (t:TupI (K_spec_l10Draw.ins.map PS.sh)):runF X_spec_l10Draw Tryz.f156 K_spec_l10Draw t=K_spec_l10Draw.F t:=by kernel_rfl
theorem e_impl_within (t:TupI (K_impl_within.ins.map PS.sh)):runF X_impl_within Tryz.f59 K_impl_within t=K_impl_within.F t:=by kernel_rfl
theorem e_spec_l4Among (t:TupI (K_spec_l4Among.ins.map PS.sh)):runF X_spec_l4Among Tryz.f55 K_spec_l4Among t=K_spec_l4Among.F t:=by kernel_rfl
theorem e_spec_l1Key (t:TupI (K_spec_l1Key.ins.map PS.sh)):runF X_spec_l1Key Tryz.f119 K_spec_l1Key t=K_spec_l1Key.F t:=by kernel_rfl
theorem e_impl_QuorumFault (t:TupI (K_impl_QuorumFault.ins.map PS.sh)):runF X_impl_QuorumFault Tryz.f58 K_impl_QuorumFault t=K_impl_QuorumFault.F t:=by kernel_rfl
theorem e_spec_l12Put (t:TupI (K_spec_l12Put.ins.map PS.sh)):runF X_spec_l12Put Tryz.f56 K_spec_l12Put t=K_spec_l12Put.F t:=by kernel_rfl
theorem e_spec_l12Voted (t:TupI (K_spec_l12Voted.ins.map PS.sh)):runF X_spec_l12Voted Tryz.f74 K_spec_l12Voted t=K_spec_l12Voted.F t:=by kernel_rfl
theorem e_impl_badFault (t:TupI (K_impl_badFault.ins.map PS.sh)):runF X_impl_badFault Tryz.f60 K_impl_badFault t=K_impl_badFault.F t:=by kernel_rfl
theorem e_impl_isRef (t:TupI (K_impl_isRef.ins.map PS.sh)):runF X_impl_isRef Tryz.f104 K_impl_isRef t=K_impl_isRef.F t:=by kernel_rfl
theorem e_impl_goodKeys (t:TupI (K_impl_goodKeys.ins.map PS.sh)):runF X_impl_goodKeys Tryz.f127 K_impl_goodKeys t=K_impl_goodKeys.F t:=by kernel_rfl
theorem e_slices_IndexFunc_Limpl_Voter_impl_Voter (t:TupI (K_slices_IndexFunc_Limpl_Voter_impl_Voter.ins.map PS.sh)):runF X_slices_IndexFunc_Limpl_Voter_impl_Voter Tryz.f172 K_slices_IndexFunc_Limpl_Voter_impl_Voter t=K_slices_IndexFunc_Limpl_Voter_impl_Voter.F t:=by kernel_rfl
theorem e_impl_VoterFault_c1 (t:TupI (K_impl_VoterFault_c1.ins.map PS.sh)):runF X_impl_VoterFault_c1 Tryz.f170 K_impl_VoterFault_c1 t=K_impl_VoterFault_c1.F t:=by kernel_rfl
theorem e_impl_areKeys (t:TupI (K_impl_areKeys.ins.map PS.sh)):runF X_impl_areKeys Tryz.f124 K_impl_areKeys t=K_impl_areKeys.F t:=by kernel_rfl
theorem e_impl_Cluster_votersFault_c1 (t:TupI (K_impl_Cluster_votersFault_c1.ins.map PS.sh)):runF X_impl_Cluster_votersFault_c1 Tryz.f129 K_impl_Cluster_votersFault_c1 t=K_impl_Cluster_votersFault_c1.F t:=by kernel_rfl
end CL
end Go.Dx

