/- The executor finds what each function computes: by computation -/
import Derived.Test.YtchhjadkiimhgaaGreatSca
set_option linter.unusedVariables false
set_option linter.unusedSimpArgs false
set_option maxRecDepth 100000
set_option maxHeartbeats 0
namespace Go.Dx
open Go.Proofs
namespace CL

theorem e_spec_l12Heard (t:TupI (K_spec_l12Heard.ins.map PS.sh)):runF X_spec_l12Heard Tryz.f117 K_spec_l12Heard t=K_spec_l12Heard.F t:=by kernel_rfl
theorem e_impl_ownCluster (t:TupI (K_impl_ownCluster.ins.map PS.sh)):runF X_impl_ownCluster Tryz.f50 K_impl_ownCluster t=K_impl_ownCluster.F t:=by kernel_rfl
theorem e_spec_l12Voters (t:TupI (K_spec_l12Voters.ins.map PS.sh)):runF X_spec_l12Voters Tryz.f115 K_spec_l12Voters t=K_spec_l12Voters.F t:=by kernel_rfl
theorem e_spec_l10Fault (t:TupI (K_spec_l10Fault.ins.map PS.sh)):runF X_spec_l10Fault Tryz.f112 K_spec_l10Fault t=K_spec_l10Fault.F t:=by kernel_rfl
theorem e_spec_ChooseAt (t:TupI (K_spec_ChooseAt.ins.map PS.sh)):runF X_spec_ChooseAt Tryz.f134 K_spec_ChooseAt t=K_spec_ChooseAt.F t:=by kernel_rfl
theorem e_impl_Cluster_put (t:TupI (K_impl_Cluster_put.ins.map PS.sh)):runF X_impl_Cluster_put Tryz.f51 K_impl_Cluster_put t=K_impl_Cluster_put.F t:=by kernel_rfl
theorem e_spec_l11Fault (t:TupI (K_spec_l11Fault.ins.map PS.sh)):runF X_spec_l11Fault Tryz.f164 K_spec_l11Fault t=K_spec_l11Fault.F t:=by kernel_rfl
theorem e_spec_l9Bent (t:TupI (K_spec_l9Bent.ins.map PS.sh)):runF X_spec_l9Bent Tryz.f101 K_spec_l9Bent t=K_spec_l9Bent.F t:=by kernel_rfl
theorem e_impl_VotedBy (t:TupI (K_impl_VotedBy.ins.map PS.sh)):runF X_impl_VotedBy Tryz.f13 K_impl_VotedBy t=K_impl_VotedBy.F t:=by kernel_rfl
theorem e_spec_l11Cast (t:TupI (K_spec_l11Cast.ins.map PS.sh)):runF X_spec_l11Cast Tryz.f75 K_spec_l11Cast t=K_spec_l11Cast.F t:=by kernel_rfl
theorem e_impl_ClusterFault (t:TupI (K_impl_ClusterFault.ins.map PS.sh)):runF X_impl_ClusterFault Tryz.f15 K_impl_ClusterFault t=K_impl_ClusterFault.F t:=by kernel_rfl
theorem e_impl_isRising (t:TupI (K_impl_isRising.ins.map PS.sh)):runF X_impl_isRising Tryz.f125 K_impl_isRising t=K_impl_isRising.F t:=by kernel_rfl
theorem e_spec_l1Min (t:TupI (K_spec_l1Min.ins.map PS.sh)):runF X_spec_l1Min Tryz.f183 K_spec_l1Min t=K_spec_l1Min.F t:=by kernel_rfl
theorem e_impl_GrowTree (t:TupI (K_impl_GrowTree.ins.map PS.sh)):runF X_impl_GrowTree Tryz.f26 K_impl_GrowTree t=K_impl_GrowTree.F t:=by kernel_rfl
theorem e_impl_ChooseAt (t:TupI (K_impl_ChooseAt.ins.map PS.sh)):runF X_impl_ChooseAt Tryz.f23 K_impl_ChooseAt t=K_impl_ChooseAt.F t:=by kernel_rfl
theorem e_spec_l9DrawId (t:TupI (K_spec_l9DrawId.ins.map PS.sh)):runF X_spec_l9DrawId Tryz.f69 K_spec_l9DrawId t=K_spec_l9DrawId.F t:=by kernel_rfl
theorem e_slices_EqualFunc_Limpl_Voter_Lint64_impl_Voter_int64 (t:TupI (K_slices_EqualFunc_Limpl_Voter_Lint64_impl_Voter_int64.ins.map PS.sh)):runF X_slices_EqualFunc_Limpl_Voter_Lint64_impl_Voter_int64 Tryz.f128 K_slices_EqualFunc_Limpl_Voter_Lint64_impl_Voter_int64 t=K_slices_EqualFunc_Limpl_Voter_Lint64_impl_Voter_int64.F t:=by kernel_rfl
theorem e_spec_l9Above (t:TupI (K_spec_l9Above.ins.map PS.sh)):runF X_spec_l9Above Tryz.f139 K_spec_l9Above t=K_spec_l9Above.F t:=by kernel_rfl
theorem e_spec_l9At (t:TupI (K_spec_l9At.ins.map PS.sh)):runF X_spec_l9At Tryz.f138 K_spec_l9At t=K_spec_l9At.F t:=by kernel_rfl
theorem e_spec_l1Pick (t:TupI (K_spec_l1Pick.ins.map PS.sh)):runF X_spec_l1Pick Tryz.f100 K_spec_l1Pick t=K_spec_l1Pick.F t:=by kernel_rfl
theorem e_impl_Cluster_heardFault_c1 (t:TupI (K_impl_Cluster_heardFault_c1.ins.map PS.sh)):runF X_impl_Cluster_heardFault_c1 Tryz.f132 K_impl_Cluster_heardFault_c1 t=K_impl_Cluster_heardFault_c1.F t:=by kernel_rfl
theorem e_impl_Voter_chosen (t:TupI (K_impl_Voter_chosen.ins.map PS.sh)):runF X_impl_Voter_chosen Tryz.f140 K_impl_Voter_chosen t=K_impl_Voter_chosen.F t:=by kernel_rfl
theorem e_impl_Voter_chosen_c1 (t:TupI (K_impl_Voter_chosen_c1.ins.map PS.sh)):runF X_impl_Voter_chosen_c1 Tryz.f174 K_impl_Voter_chosen_c1 t=K_impl_Voter_chosen_c1.F t:=by kernel_rfl
theorem e_impl_isId (t:TupI (K_impl_isId.ins.map PS.sh)):runF X_impl_isId Tryz.f103 K_impl_isId t=K_impl_isId.F t:=by kernel_rfl
theorem e_slices_Contains_Lint64_int64 (t:TupI (K_slices_Contains_Lint64_int64.ins.map PS.sh)):runF X_slices_Contains_Lint64_int64 Tryz.f49 K_slices_Contains_Lint64_int64 t=K_slices_Contains_Lint64_int64.F t:=by kernel_rfl
end CL
end Go.Dx

