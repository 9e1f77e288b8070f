/- The executor finds what each function computes: by computation -/
import Derived.Test.YtmhbfgbadiikfaaGreatSca
set_option linter.unusedVariables false
set_option linter.unusedSimpArgs false
set_option maxRecDepth 100000
set_option maxHeartbeats 0
namespace Go.Dx
open Go.Proofs
namespace CL

theorem e_spec_l12Stands (t : TupI (K_spec_l12Stands.ins.map PS.sh)) : runF X_spec_l12Stands Tryz.f189 K_spec_l12Stands t = K_spec_l12Stands.F t := by kernel_rfl
theorem e_spec_l10Fault (t : TupI (K_spec_l10Fault.ins.map PS.sh)) : runF X_spec_l10Fault Tryz.f131 K_spec_l10Fault t = K_spec_l10Fault.F t := by kernel_rfl
theorem e_impl_Cluster_lockedBy (t : TupI (K_impl_Cluster_lockedBy.ins.map PS.sh)) : runF X_impl_Cluster_lockedBy Tryz.f100 K_impl_Cluster_lockedBy t = K_impl_Cluster_lockedBy.F t := by kernel_rfl
theorem e_impl_Cluster_votersFault (t : TupI (K_impl_Cluster_votersFault.ins.map PS.sh)) : runF X_impl_Cluster_votersFault Tryz.f142 K_impl_Cluster_votersFault t = K_impl_Cluster_votersFault.F t := by kernel_rfl
theorem e_spec_l11Fault (t : TupI (K_spec_l11Fault.ins.map PS.sh)) : runF X_spec_l11Fault Tryz.f183 K_spec_l11Fault t = K_spec_l11Fault.F t := by kernel_rfl
theorem e_impl_VoterFault (t : TupI (K_impl_VoterFault.ins.map PS.sh)) : runF X_impl_VoterFault Tryz.f185 K_impl_VoterFault t = K_impl_VoterFault.F t := by kernel_rfl
theorem e_laws_szNodeS (t : TupI (K_laws_szNodeS.ins.map PS.sh)) : runF X_laws_szNodeS Tryz.f61 K_laws_szNodeS t = K_laws_szNodeS.F t := by kernel_rfl
theorem e_spec_l9Node (t : TupI (K_spec_l9Node.ins.map PS.sh)) : runF X_spec_l9Node Tryz.f173 K_spec_l9Node t = K_spec_l9Node.F t := by kernel_rfl
theorem e_laws_szQuorum (t : TupI (K_laws_szQuorum.ins.map PS.sh)) : runF X_laws_szQuorum Tryz.f59 K_laws_szQuorum t = K_laws_szQuorum.F t := by kernel_rfl
theorem e_laws_FnExactBestFor (t : TupI (K_laws_FnExactBestFor.ins.map PS.sh)) : runF X_laws_FnExactBestFor Tryz.f7 K_laws_FnExactBestFor t = K_laws_FnExactBestFor.F t := by kernel_rfl
theorem e_laws_toVote (t : TupI (K_laws_toVote.ins.map PS.sh)) : runF X_laws_toVote Tryz.f52 K_laws_toVote t = K_laws_toVote.F t := by kernel_rfl
theorem e_impl_within (t : TupI (K_impl_within.ins.map PS.sh)) : runF X_impl_within Tryz.f112 K_impl_within t = K_impl_within.F t := by kernel_rfl
theorem e_impl_BestOf_c1 (t : TupI (K_impl_BestOf_c1.ins.map PS.sh)) : runF X_impl_BestOf_c1 Tryz.f157 K_impl_BestOf_c1 t = K_impl_BestOf_c1.F t := by kernel_rfl
theorem e_impl_QuorumFault (t : TupI (K_impl_QuorumFault.ins.map PS.sh)) : runF X_impl_QuorumFault Tryz.f139 K_impl_QuorumFault t = K_impl_QuorumFault.F t := by kernel_rfl
theorem e_impl_Voter_chosen_c1 (t : TupI (K_impl_Voter_chosen_c1.ins.map PS.sh)) : runF X_impl_Voter_chosen_c1 Tryz.f210 K_impl_Voter_chosen_c1 t = K_impl_Voter_chosen_c1.F t := by kernel_rfl
theorem e_impl_BestOf (t : TupI (K_impl_BestOf.ins.map PS.sh)) : runF X_impl_BestOf Tryz.f99 K_impl_BestOf t = K_impl_BestOf.F t := by kernel_rfl
theorem e_impl_goodKeys (t : TupI (K_impl_goodKeys.ins.map PS.sh)) : runF X_impl_goodKeys Tryz.f193 K_impl_goodKeys t = K_impl_goodKeys.F t := by kernel_rfl
theorem e_spec_l12Good (t : TupI (K_spec_l12Good.ins.map PS.sh)) : runF X_spec_l12Good Tryz.f188 K_spec_l12Good t = K_spec_l12Good.F t := by kernel_rfl
theorem e_impl_pathTo (t : TupI (K_impl_pathTo.ins.map PS.sh)) : runF X_impl_pathTo Tryz.f200 K_impl_pathTo t = K_impl_pathTo.F t := by kernel_rfl
theorem e_laws_toInt64S (t : TupI (K_laws_toInt64S.ins.map PS.sh)) : runF X_laws_toInt64S Tryz.f68 K_laws_toInt64S t = K_laws_toInt64S.F t := by kernel_rfl
theorem e_spec_BestFor (t : TupI (K_spec_BestFor.ins.map PS.sh)) : runF X_spec_BestFor Tryz.f31 K_spec_BestFor t = K_spec_BestFor.F t := by kernel_rfl
theorem e_spec_l3Ref (t : TupI (K_spec_l3Ref.ins.map PS.sh)) : runF X_spec_l3Ref Tryz.f177 K_spec_l3Ref t = K_spec_l3Ref.F t := by kernel_rfl
theorem e_spec_l4Among (t : TupI (K_spec_l4Among.ins.map PS.sh)) : runF X_spec_l4Among Tryz.f89 K_spec_l4Among t = K_spec_l4Among.F t := by kernel_rfl
theorem e_impl_Cluster_isHearer (t : TupI (K_impl_Cluster_isHearer.ins.map PS.sh)) : runF X_impl_Cluster_isHearer Tryz.f109 K_impl_Cluster_isHearer t = K_impl_Cluster_isHearer.F t := by kernel_rfl
theorem e_spec_LocksAt (t : TupI (K_spec_LocksAt.ins.map PS.sh)) : runF X_spec_LocksAt Tryz.f41 K_spec_LocksAt t = K_spec_LocksAt.F t := by kernel_rfl
theorem e_slices_IndexFunc_Limpl_Voter_impl_Voter (t : TupI (K_slices_IndexFunc_Limpl_Voter_impl_Voter.ins.map PS.sh)) : runF X_slices_IndexFunc_Limpl_Voter_impl_Voter Tryz.f206 K_slices_IndexFunc_Limpl_Voter_impl_Voter t = K_slices_IndexFunc_Limpl_Voter_impl_Voter.F t := by kernel_rfl
theorem e_impl_isAbove (t : TupI (K_impl_isAbove.ins.map PS.sh)) : runF X_impl_isAbove Tryz.f151 K_impl_isAbove t = K_impl_isAbove.F t := by kernel_rfl
theorem e_laws_eqVoter (t : TupI (K_laws_eqVoter.ins.map PS.sh)) : runF X_laws_eqVoter Tryz.f147 K_laws_eqVoter t = K_laws_eqVoter.F t := by kernel_rfl
theorem e_impl_isIn (t : TupI (K_impl_isIn.ins.map PS.sh)) : runF X_impl_isIn Tryz.f158 K_impl_isIn t = K_impl_isIn.F t := by kernel_rfl
theorem e_impl_isKey (t : TupI (K_impl_isKey.ins.map PS.sh)) : runF X_impl_isKey Tryz.f181 K_impl_isKey t = K_impl_isKey.F t := by kernel_rfl
end CL
end Go.Dx
