/- The executor finds what each function computes: by computation -/
import Derived.Test.YtmhbfgbadiikfaaGreatSca
set_option linter.unusedVariables false
set_option linter.unusedSimpArgs false
set_option maxRecDepth 100000
set_option maxHeartbeats 0
namespace Go.Dx
open Go.Proofs
namespace CL

theorem e_spec_l12Votes (t : TupI (K_spec_l12Votes.ins.map PS.sh)) : runF X_spec_l12Votes Tryz.f135 K_spec_l12Votes t = K_spec_l12Votes.F t := by kernel_rfl
theorem e_spec_l10Fault (t : TupI (K_spec_l10Fault.ins.map PS.sh)) : runF X_spec_l10Fault Tryz.f131 K_spec_l10Fault t = K_spec_l10Fault.F t := by kernel_rfl
theorem e_spec_l12Locks (t : TupI (K_spec_l12Locks.ins.map PS.sh)) : runF X_spec_l12Locks Tryz.f107 K_spec_l12Locks t = K_spec_l12Locks.F t := by kernel_rfl
theorem e_spec_l12Bad (t : TupI (K_spec_l12Bad.ins.map PS.sh)) : runF X_spec_l12Bad Tryz.f132 K_spec_l12Bad t = K_spec_l12Bad.F t := by kernel_rfl
theorem e_spec_NoFork (t : TupI (K_spec_NoFork.ins.map PS.sh)) : runF X_spec_NoFork Tryz.f21 K_spec_NoFork t = K_spec_NoFork.F t := by kernel_rfl
theorem e_impl_VoterFault (t : TupI (K_impl_VoterFault.ins.map PS.sh)) : runF X_impl_VoterFault Tryz.f185 K_impl_VoterFault t = K_impl_VoterFault.F t := by kernel_rfl
theorem e_laws_szNodeS (t : TupI (K_laws_szNodeS.ins.map PS.sh)) : runF X_laws_szNodeS Tryz.f61 K_laws_szNodeS t = K_laws_szNodeS.F t := by kernel_rfl
theorem e_impl_VoteFault (t : TupI (K_impl_VoteFault.ins.map PS.sh)) : runF X_impl_VoteFault Tryz.f119 K_impl_VoteFault t = K_impl_VoteFault.F t := by kernel_rfl
theorem e_spec_l9Related (t : TupI (K_spec_l9Related.ins.map PS.sh)) : runF X_spec_l9Related Tryz.f82 K_spec_l9Related t = K_spec_l9Related.F t := by kernel_rfl
theorem e_laws_eqVoterS (t : TupI (K_laws_eqVoterS.ins.map PS.sh)) : runF X_laws_eqVoterS Tryz.f78 K_laws_eqVoterS t = K_laws_eqVoterS.F t := by kernel_rfl
theorem e_spec_l13Blocks (t : TupI (K_spec_l13Blocks.ins.map PS.sh)) : runF X_spec_l13Blocks Tryz.f81 K_spec_l13Blocks t = K_spec_l13Blocks.F t := by kernel_rfl
theorem e_impl_within (t : TupI (K_impl_within.ins.map PS.sh)) : runF X_impl_within Tryz.f112 K_impl_within t = K_impl_within.F t := by kernel_rfl
theorem e_spec_l12Has (t : TupI (K_spec_l12Has.ins.map PS.sh)) : runF X_spec_l12Has Tryz.f178 K_spec_l12Has t = K_spec_l12Has.F t := by kernel_rfl
theorem e_impl_Voter_chosen_c1 (t : TupI (K_impl_Voter_chosen_c1.ins.map PS.sh)) : runF X_impl_Voter_chosen_c1 Tryz.f210 K_impl_Voter_chosen_c1 t = K_impl_Voter_chosen_c1.F t := by kernel_rfl
theorem e_laws_toVoterS (t : TupI (K_laws_toVoterS.ins.map PS.sh)) : runF X_laws_toVoterS Tryz.f70 K_laws_toVoterS t = K_laws_toVoterS.F t := by kernel_rfl
theorem e_laws_szCluster (t : TupI (K_laws_szCluster.ins.map PS.sh)) : runF X_laws_szCluster Tryz.f16 K_laws_szCluster t = K_laws_szCluster.F t := by kernel_rfl
theorem e_impl_related (t : TupI (K_impl_related.ins.map PS.sh)) : runF X_impl_related Tryz.f85 K_impl_related t = K_impl_related.F t := by kernel_rfl
theorem e_laws_toVoter (t : TupI (K_laws_toVoter.ins.map PS.sh)) : runF X_laws_toVoter Tryz.f138 K_laws_toVoter t = K_laws_toVoter.F t := by kernel_rfl
theorem e_impl_pathTo (t : TupI (K_impl_pathTo.ins.map PS.sh)) : runF X_impl_pathTo Tryz.f200 K_impl_pathTo t = K_impl_pathTo.F t := by kernel_rfl
theorem e_laws_toInt64S (t : TupI (K_laws_toInt64S.ins.map PS.sh)) : runF X_laws_toInt64S Tryz.f68 K_laws_toInt64S t = K_laws_toInt64S.F t := by kernel_rfl
theorem e_laws_toNodeS (t : TupI (K_laws_toNodeS.ins.map PS.sh)) : runF X_laws_toNodeS Tryz.f69 K_laws_toNodeS t = K_laws_toNodeS.F t := by kernel_rfl
theorem e_impl_countFor (t : TupI (K_impl_countFor.ins.map PS.sh)) : runF X_impl_countFor Tryz.f102 K_impl_countFor t = K_impl_countFor.F t := by kernel_rfl
theorem e_spec_l1In (t : TupI (K_spec_l1In.ins.map PS.sh)) : runF X_spec_l1In Tryz.f106 K_spec_l1In t = K_spec_l1In.F t := by kernel_rfl
theorem e_laws_toChoice (t : TupI (K_laws_toChoice.ins.map PS.sh)) : runF X_laws_toChoice Tryz.f211 K_laws_toChoice t = K_laws_toChoice.F t := by kernel_rfl
theorem e_impl_LockedBlocks (t : TupI (K_impl_LockedBlocks.ins.map PS.sh)) : runF X_impl_LockedBlocks Tryz.f35 K_impl_LockedBlocks t = K_impl_LockedBlocks.F t := by kernel_rfl
theorem e_laws_eqQuorum (t : TupI (K_laws_eqQuorum.ins.map PS.sh)) : runF X_laws_eqQuorum Tryz.f75 K_laws_eqQuorum t = K_laws_eqQuorum.F t := by kernel_rfl
theorem e_impl_isId (t : TupI (K_impl_isId.ins.map PS.sh)) : runF X_impl_isId Tryz.f179 K_impl_isId t = K_impl_isId.F t := by kernel_rfl
theorem e_laws_szVoteS (t : TupI (K_laws_szVoteS.ins.map PS.sh)) : runF X_laws_szVoteS Tryz.f63 K_laws_szVoteS t = K_laws_szVoteS.F t := by kernel_rfl
theorem e_slices_ContainsFunc_Lint64_int64 (t : TupI (K_slices_ContainsFunc_Lint64_int64.ins.map PS.sh)) : runF X_slices_ContainsFunc_Lint64_int64 Tryz.f83 K_slices_ContainsFunc_Lint64_int64 t = K_slices_ContainsFunc_Lint64_int64.F t := by kernel_rfl
end CL
end Go.Dx
