/- The executor finds what each function computes: by computation -/
import Derived.Test.YtchhjadkiimhgaaGreatSca
set_option linter.unusedVariables false
set_option linter.unusedSimpArgs false
set_option maxRecDepth 100000
set_option maxHeartbeats 0
namespace Go.Dx
open Go.Proofs
namespace CL

theorem e_spec_l12Stands (t:TupI (K_spec_l12Stands.ins.map PS.sh)):runF X_spec_l12Stands Tryz.f165 K_spec_l12Stands t=K_spec_l12Stands.F t:=by kernel_rfl
theorem e_spec_l12Cluster (t:TupI (K_spec_l12Cluster.ins.map PS.sh)):runF X_spec_l12Cluster Tryz.f45 K_spec_l12Cluster t=K_spec_l12Cluster.F t:=by kernel_rfl
theorem e_spec_l12Votes (t:TupI (K_spec_l12Votes.ins.map PS.sh)):runF X_spec_l12Votes Tryz.f116 K_spec_l12Votes t=K_spec_l12Votes.F t:=by kernel_rfl
theorem e_spec_HearAt (t:TupI (K_spec_HearAt.ins.map PS.sh)):runF X_spec_HearAt Tryz.f135 K_spec_HearAt t=K_spec_HearAt.F t:=by kernel_rfl
theorem e_spec_l10Safe (t:TupI (K_spec_l10Safe.ins.map PS.sh)):runF X_spec_l10Safe Tryz.f85 K_spec_l10Safe t=K_spec_l10Safe.F t:=by kernel_rfl
theorem e_spec_CastAt (t:TupI (K_spec_CastAt.ins.map PS.sh)):runF X_spec_CastAt Tryz.f22 K_spec_CastAt t=K_spec_CastAt.F t:=by kernel_rfl
theorem e_spec_NoFork (t:TupI (K_spec_NoFork.ins.map PS.sh)):runF X_spec_NoFork Tryz.f32 K_spec_NoFork t=K_spec_NoFork.F t:=by kernel_rfl
theorem e_spec_AddNode (t:TupI (K_spec_AddNode.ins.map PS.sh)):runF X_spec_AddNode Tryz.f185 K_spec_AddNode t=K_spec_AddNode.F t:=by kernel_rfl
theorem e_spec_ChooseFor (t:TupI (K_spec_ChooseFor.ins.map PS.sh)):runF X_spec_ChooseFor Tryz.f171 K_spec_ChooseFor t=K_spec_ChooseFor.F t:=by kernel_rfl
theorem e_spec_l11Cast (t:TupI (K_spec_l11Cast.ins.map PS.sh)):runF X_spec_l11Cast Tryz.f75 K_spec_l11Cast t=K_spec_l11Cast.F t:=by kernel_rfl
theorem e_impl_ClusterFault (t:TupI (K_impl_ClusterFault.ins.map PS.sh)):runF X_impl_ClusterFault Tryz.f15 K_impl_ClusterFault t=K_impl_ClusterFault.F t:=by kernel_rfl
theorem e_impl_PremiseOf (t:TupI (K_impl_PremiseOf.ins.map PS.sh)):runF X_impl_PremiseOf Tryz.f28 K_impl_PremiseOf t=K_impl_PremiseOf.F t:=by kernel_rfl
theorem e_impl_TreeFault (t:TupI (K_impl_TreeFault.ins.map PS.sh)):runF X_impl_TreeFault Tryz.f61 K_impl_TreeFault t=K_impl_TreeFault.F t:=by kernel_rfl
theorem e_spec_l4Among (t:TupI (K_spec_l4Among.ins.map PS.sh)):runF X_spec_l4Among Tryz.f55 K_spec_l4Among t=K_spec_l4Among.F t:=by kernel_rfl
theorem e_spec_l10Bad (t:TupI (K_spec_l10Bad.ins.map PS.sh)):runF X_spec_l10Bad Tryz.f144 K_spec_l10Bad t=K_spec_l10Bad.F t:=by kernel_rfl
theorem e_spec_l12At (t:TupI (K_spec_l12At.ins.map PS.sh)):runF X_spec_l12At Tryz.f73 K_spec_l12At t=K_spec_l12At.F t:=by kernel_rfl
theorem e_slices_DeleteFunc_Lint64_int64 (t:TupI (K_slices_DeleteFunc_Lint64_int64.ins.map PS.sh)):runF X_slices_DeleteFunc_Lint64_int64 Tryz.f168 K_slices_DeleteFunc_Lint64_int64 t=K_slices_DeleteFunc_Lint64_int64.F t:=by kernel_rfl
theorem e_laws_lwBig (t:TupI (K_laws_lwBig.ins.map PS.sh)):runF X_laws_lwBig Tryz.f9 K_laws_lwBig t=K_laws_lwBig.F t:=by kernel_rfl
theorem e_impl_badFault (t:TupI (K_impl_badFault.ins.map PS.sh)):runF X_impl_badFault Tryz.f60 K_impl_badFault t=K_impl_badFault.F t:=by kernel_rfl
theorem e_spec_PremiseOf (t:TupI (K_spec_PremiseOf.ins.map PS.sh)):runF X_spec_PremiseOf Tryz.f31 K_spec_PremiseOf t=K_spec_PremiseOf.F t:=by kernel_rfl
theorem e_slices_IndexFunc_Limpl_Choice_impl_Choice (t:TupI (K_slices_IndexFunc_Limpl_Choice_impl_Choice.ins.map PS.sh)):runF X_slices_IndexFunc_Limpl_Choice_impl_Choice Tryz.f143 K_slices_IndexFunc_Limpl_Choice_impl_Choice t=K_slices_IndexFunc_Limpl_Choice_impl_Choice.F t:=by kernel_rfl
theorem e_impl_Voter_chosen (t:TupI (K_impl_Voter_chosen.ins.map PS.sh)):runF X_impl_Voter_chosen Tryz.f140 K_impl_Voter_chosen t=K_impl_Voter_chosen.F t:=by kernel_rfl
theorem e_impl_findNode_c1 (t:TupI (K_impl_findNode_c1.ins.map PS.sh)):runF X_impl_findNode_c1 Tryz.f188 K_impl_findNode_c1 t=K_impl_findNode_c1.F t:=by kernel_rfl
theorem e_spec_l13Blocks (t:TupI (K_spec_l13Blocks.ins.map PS.sh)):runF X_spec_l13Blocks Tryz.f86 K_spec_l13Blocks t=K_spec_l13Blocks.F t:=by kernel_rfl
theorem e_slices_Contains_Limpl_Choice_impl_Choice (t:TupI (K_slices_Contains_Limpl_Choice_impl_Choice.ins.map PS.sh)):runF X_slices_Contains_Limpl_Choice_impl_Choice Tryz.f92 K_slices_Contains_Limpl_Choice_impl_Choice t=K_slices_Contains_Limpl_Choice_impl_Choice.F t:=by kernel_rfl
theorem e_slices_ContainsFunc_Limpl_Choice_impl_Choice (t:TupI (K_slices_ContainsFunc_Limpl_Choice_impl_Choice.ins.map PS.sh)):runF X_slices_ContainsFunc_Limpl_Choice_impl_Choice Tryz.f83 K_slices_ContainsFunc_Limpl_Choice_impl_Choice t=K_slices_ContainsFunc_Limpl_Choice_impl_Choice.F t:=by kernel_rfl
end CL
end Go.Dx

