/- The executor finds what each function computes: by computation -/
import Derived.Test.YtchhjadkiimhgaaGreatSca
set_option linter.unusedVariables false
set_option linter.unusedSimpArgs false
set_option maxRecDepth 100000
set_option maxHeartbeats 0
namespace Go.Dx
open Go.Proofs
namespace CL

theorem e_spec_l12Some (t:TupI (K_spec_l12Some.ins.map PS.sh)):runF X_spec_l12Some Tryz.f158 K_spec_l12Some t=K_spec_l12Some.F t:=by kernel_rfl
theorem e_impl_Cluster_put (t:TupI (K_impl_Cluster_put.ins.map PS.sh)):runF X_impl_Cluster_put Tryz.f51 K_impl_Cluster_put t=K_impl_Cluster_put.F t:=by kernel_rfl
theorem e_spec_l11DrawVote (t:TupI (K_spec_l11DrawVote.ins.map PS.sh)):runF X_spec_l11DrawVote Tryz.f102 K_spec_l11DrawVote t=K_spec_l11DrawVote.F t:=by kernel_rfl
theorem e_spec_l11Fault (t:TupI (K_spec_l11Fault.ins.map PS.sh)):runF X_spec_l11Fault Tryz.f164 K_spec_l11Fault t=K_spec_l11Fault.F t:=by kernel_rfl
theorem e_spec_l12Copy (t:TupI (K_spec_l12Copy.ins.map PS.sh)):runF X_spec_l12Copy Tryz.f57 K_spec_l12Copy t=K_spec_l12Copy.F t:=by kernel_rfl
theorem e_impl_VotedBy (t:TupI (K_impl_VotedBy.ins.map PS.sh)):runF X_impl_VotedBy Tryz.f13 K_impl_VotedBy t=K_impl_VotedBy.F t:=by kernel_rfl
theorem e_spec_l11Cast (t:TupI (K_spec_l11Cast.ins.map PS.sh)):runF X_spec_l11Cast Tryz.f75 K_spec_l11Cast t=K_spec_l11Cast.F t:=by kernel_rfl
theorem e_impl_VoterFault (t:TupI (K_impl_VoterFault.ins.map PS.sh)):runF X_impl_VoterFault Tryz.f130 K_impl_VoterFault t=K_impl_VoterFault.F t:=by kernel_rfl
theorem e_impl_isRising (t:TupI (K_impl_isRising.ins.map PS.sh)):runF X_impl_isRising Tryz.f125 K_impl_isRising t=K_impl_isRising.F t:=by kernel_rfl
theorem e_spec_l1Min (t:TupI (K_spec_l1Min.ins.map PS.sh)):runF X_spec_l1Min Tryz.f183 K_spec_l1Min t=K_spec_l1Min.F t:=by kernel_rfl
theorem e_spec_l12Err (t:TupI (K_spec_l12Err.ins.map PS.sh)):runF X_spec_l12Err Tryz.f53 K_spec_l12Err t=K_spec_l12Err.F t:=by kernel_rfl
theorem e_spec_l11Copy (t:TupI (K_spec_l11Copy.ins.map PS.sh)):runF X_spec_l11Copy Tryz.f123 K_spec_l11Copy t=K_spec_l11Copy.F t:=by kernel_rfl
theorem e_spec_l9DrawId (t:TupI (K_spec_l9DrawId.ins.map PS.sh)):runF X_spec_l9DrawId Tryz.f69 K_spec_l9DrawId t=K_spec_l9DrawId.F t:=by kernel_rfl
theorem e_impl_isKey (t:TupI (K_impl_isKey.ins.map PS.sh)):runF X_impl_isKey Tryz.f105 K_impl_isKey t=K_impl_isKey.F t:=by kernel_rfl
theorem e_spec_l12Voted (t:TupI (K_spec_l12Voted.ins.map PS.sh)):runF X_spec_l12Voted Tryz.f74 K_spec_l12Voted t=K_spec_l12Voted.F t:=by kernel_rfl
theorem e_spec_l1Max (t:TupI (K_spec_l1Max.ins.map PS.sh)):runF X_spec_l1Max Tryz.f133 K_spec_l1Max t=K_spec_l1Max.F t:=by kernel_rfl
theorem e_spec_l1Pick (t:TupI (K_spec_l1Pick.ins.map PS.sh)):runF X_spec_l1Pick Tryz.f100 K_spec_l1Pick t=K_spec_l1Pick.F t:=by kernel_rfl
theorem e_slices_IndexFunc_Limpl_Choice_impl_Choice (t:TupI (K_slices_IndexFunc_Limpl_Choice_impl_Choice.ins.map PS.sh)):runF X_slices_IndexFunc_Limpl_Choice_impl_Choice Tryz.f143 K_slices_IndexFunc_Limpl_Choice_impl_Choice t=K_slices_IndexFunc_Limpl_Choice_impl_Choice.F t:=by kernel_rfl
theorem e_slices_Clone_Lint64_int64 (t:TupI (K_slices_Clone_Lint64_int64.ins.map PS.sh)):runF X_slices_Clone_Lint64_int64 Tryz.f107 K_slices_Clone_Lint64_int64 t=K_slices_Clone_Lint64_int64.F t:=by kernel_rfl
theorem e_slices_IndexFunc_Limpl_Voter_impl_Voter (t:TupI (K_slices_IndexFunc_Limpl_Voter_impl_Voter.ins.map PS.sh)):runF X_slices_IndexFunc_Limpl_Voter_impl_Voter Tryz.f172 K_slices_IndexFunc_Limpl_Voter_impl_Voter t=K_slices_IndexFunc_Limpl_Voter_impl_Voter.F t:=by kernel_rfl
theorem e_impl_findNode_c1 (t:TupI (K_impl_findNode_c1.ins.map PS.sh)):runF X_impl_findNode_c1 Tryz.f188 K_impl_findNode_c1 t=K_impl_findNode_c1.F t:=by kernel_rfl
theorem e_impl_isId (t:TupI (K_impl_isId.ins.map PS.sh)):runF X_impl_isId Tryz.f103 K_impl_isId t=K_impl_isId.F t:=by kernel_rfl
theorem e_impl_Cluster_findVoter (t:TupI (K_impl_Cluster_findVoter.ins.map PS.sh)):runF X_impl_Cluster_findVoter Tryz.f136 K_impl_Cluster_findVoter t=K_impl_Cluster_findVoter.F t:=by kernel_rfl
theorem e_impl_isAbove (t:TupI (K_impl_isAbove.ins.map PS.sh)):runF X_impl_isAbove Tryz.f97 K_impl_isAbove t=K_impl_isAbove.F t:=by kernel_rfl
end CL
end Go.Dx

