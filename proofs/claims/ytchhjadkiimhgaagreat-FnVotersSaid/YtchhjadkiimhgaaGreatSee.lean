/- The executor finds what each function computes: by computation -/
import Derived.Test.YtchhjadkiimhgaaGreatSca
set_option linter.unusedVariables false
set_option linter.unusedSimpArgs false
set_option maxRecDepth 100000
set_option maxHeartbeats 0
namespace Go.Dx
open Go.Proofs
namespace CL

theorem e_spec_l12Cluster (t:TupI (K_spec_l12Cluster.ins.map PS.sh)):runF X_spec_l12Cluster Tryz.f45 K_spec_l12Cluster t=K_spec_l12Cluster.F t:=by kernel_rfl
theorem e_spec_l12Votes (t:TupI (K_spec_l12Votes.ins.map PS.sh)):runF X_spec_l12Votes Tryz.f116 K_spec_l12Votes t=K_spec_l12Votes.F t:=by kernel_rfl
theorem e_spec_l12Voters (t:TupI (K_spec_l12Voters.ins.map PS.sh)):runF X_spec_l12Voters Tryz.f115 K_spec_l12Voters t=K_spec_l12Voters.F t:=by kernel_rfl
theorem e_spec_HearAt (t:TupI (K_spec_HearAt.ins.map PS.sh)):runF X_spec_HearAt Tryz.f135 K_spec_HearAt t=K_spec_HearAt.F t:=by kernel_rfl
theorem e_spec_CastAt (t:TupI (K_spec_CastAt.ins.map PS.sh)):runF X_spec_CastAt Tryz.f22 K_spec_CastAt t=K_spec_CastAt.F t:=by kernel_rfl
theorem e_spec_l11DrawVote (t:TupI (K_spec_l11DrawVote.ins.map PS.sh)):runF X_spec_l11DrawVote Tryz.f102 K_spec_l11DrawVote t=K_spec_l11DrawVote.F t:=by kernel_rfl
theorem e_spec_ForgeAt (t:TupI (K_spec_ForgeAt.ins.map PS.sh)):runF X_spec_ForgeAt Tryz.f12 K_spec_ForgeAt t=K_spec_ForgeAt.F t:=by kernel_rfl
theorem e_spec_l12Copy (t:TupI (K_spec_l12Copy.ins.map PS.sh)):runF X_spec_l12Copy Tryz.f57 K_spec_l12Copy t=K_spec_l12Copy.F t:=by kernel_rfl
theorem e_spec_l9Fault (t:TupI (K_spec_l9Fault.ins.map PS.sh)):runF X_spec_l9Fault Tryz.f114 K_spec_l9Fault t=K_spec_l9Fault.F t:=by kernel_rfl
theorem e_impl_VoterFault (t:TupI (K_impl_VoterFault.ins.map PS.sh)):runF X_impl_VoterFault Tryz.f130 K_impl_VoterFault t=K_impl_VoterFault.F t:=by kernel_rfl
theorem e_spec_l10Draw (t:TupI (K_spec_l10Draw.ins.map PS.sh)):runF X_spec_l10Draw Tryz.f156 K_spec_l10Draw t=K_spec_l10Draw.F t:=by kernel_rfl
theorem e_impl_VoteFault (t:TupI (K_impl_VoteFault.ins.map PS.sh)):runF X_impl_VoteFault Tryz.f48 K_impl_VoteFault t=K_impl_VoteFault.F t:=by kernel_rfl
theorem e_spec_l11Copy (t:TupI (K_spec_l11Copy.ins.map PS.sh)):runF X_spec_l11Copy Tryz.f123 K_spec_l11Copy t=K_spec_l11Copy.F t:=by kernel_rfl
theorem e_impl_QuorumFault (t:TupI (K_impl_QuorumFault.ins.map PS.sh)):runF X_impl_QuorumFault Tryz.f58 K_impl_QuorumFault t=K_impl_QuorumFault.F t:=by kernel_rfl
theorem e_impl_isKey (t:TupI (K_impl_isKey.ins.map PS.sh)):runF X_impl_isKey Tryz.f105 K_impl_isKey t=K_impl_isKey.F t:=by kernel_rfl
theorem e_spec_l9Above (t:TupI (K_spec_l9Above.ins.map PS.sh)):runF X_spec_l9Above Tryz.f139 K_spec_l9Above t=K_spec_l9Above.F t:=by kernel_rfl
theorem e_spec_l9At (t:TupI (K_spec_l9At.ins.map PS.sh)):runF X_spec_l9At Tryz.f138 K_spec_l9At t=K_spec_l9At.F t:=by kernel_rfl
theorem e_spec_l11Tx (t:TupI (K_spec_l11Tx.ins.map PS.sh)):runF X_spec_l11Tx Tryz.f120 K_spec_l11Tx t=K_spec_l11Tx.F t:=by kernel_rfl
theorem e_impl_goodKeys (t:TupI (K_impl_goodKeys.ins.map PS.sh)):runF X_impl_goodKeys Tryz.f127 K_impl_goodKeys t=K_impl_goodKeys.F t:=by kernel_rfl
theorem e_impl_goodKeys_c1 (t:TupI (K_impl_goodKeys_c1.ins.map PS.sh)):runF X_impl_goodKeys_c1 Tryz.f169 K_impl_goodKeys_c1 t=K_impl_goodKeys_c1.F t:=by kernel_rfl
theorem e_impl_isId (t:TupI (K_impl_isId.ins.map PS.sh)):runF X_impl_isId Tryz.f103 K_impl_isId t=K_impl_isId.F t:=by kernel_rfl
theorem e_slices_Contains_Lint64_int64 (t:TupI (K_slices_Contains_Lint64_int64.ins.map PS.sh)):runF X_slices_Contains_Lint64_int64 Tryz.f49 K_slices_Contains_Lint64_int64 t=K_slices_Contains_Lint64_int64.F t:=by kernel_rfl
end CL
end Go.Dx

