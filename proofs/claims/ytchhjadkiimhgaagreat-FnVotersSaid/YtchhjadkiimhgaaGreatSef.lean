/- The executor finds what each function computes: by computation -/
import Derived.Test.YtchhjadkiimhgaaGreatSca
set_option linter.unusedVariables false
set_option linter.unusedSimpArgs false
set_option maxRecDepth 100000
set_option maxHeartbeats 0
namespace Go.Dx
open Go.Proofs
namespace CL

theorem e_spec_l1Next (t:TupI (K_spec_l1Next.ins.map PS.sh)):runF X_spec_l1Next Tryz.f66 K_spec_l1Next t=K_spec_l1Next.F t:=by kernel_rfl
theorem e_laws_FnVoters (t:TupI (K_laws_FnVoters.ins.map PS.sh)):runF X_laws_FnVoters Tryz.f4 K_laws_FnVoters t=K_laws_FnVoters.F t:=by kernel_rfl
theorem e_spec_NewCluster (t:TupI (K_spec_NewCluster.ins.map PS.sh)):runF X_spec_NewCluster Tryz.f157 K_spec_NewCluster t=K_spec_NewCluster.F t:=by kernel_rfl
theorem e_spec_ChooseAt (t:TupI (K_spec_ChooseAt.ins.map PS.sh)):runF X_spec_ChooseAt Tryz.f134 K_spec_ChooseAt t=K_spec_ChooseAt.F t:=by kernel_rfl
theorem e_spec_l12Fault (t:TupI (K_spec_l12Fault.ins.map PS.sh)):runF X_spec_l12Fault Tryz.f52 K_spec_l12Fault t=K_spec_l12Fault.F t:=by kernel_rfl
theorem e_spec_l9Right (t:TupI (K_spec_l9Right.ins.map PS.sh)):runF X_spec_l9Right Tryz.f159 K_spec_l9Right t=K_spec_l9Right.F t:=by kernel_rfl
theorem e_impl_Cluster_votersFault (t:TupI (K_impl_Cluster_votersFault.ins.map PS.sh)):runF X_impl_Cluster_votersFault Tryz.f62 K_impl_Cluster_votersFault t=K_impl_Cluster_votersFault.F t:=by kernel_rfl
theorem e_spec_l9Bent (t:TupI (K_spec_l9Bent.ins.map PS.sh)):runF X_spec_l9Bent Tryz.f101 K_spec_l9Bent t=K_spec_l9Bent.F t:=by kernel_rfl
theorem e_spec_l11Cast (t:TupI (K_spec_l11Cast.ins.map PS.sh)):runF X_spec_l11Cast Tryz.f75 K_spec_l11Cast t=K_spec_l11Cast.F t:=by kernel_rfl
theorem e_spec_l12Has (t:TupI (K_spec_l12Has.ins.map PS.sh)):runF X_spec_l12Has Tryz.f122 K_spec_l12Has t=K_spec_l12Has.F t:=by kernel_rfl
theorem e_impl_TreeFault (t:TupI (K_impl_TreeFault.ins.map PS.sh)):runF X_impl_TreeFault Tryz.f61 K_impl_TreeFault t=K_impl_TreeFault.F t:=by kernel_rfl
theorem e_spec_GrowTree (t:TupI (K_spec_GrowTree.ins.map PS.sh)):runF X_spec_GrowTree Tryz.f184 K_spec_GrowTree t=K_spec_GrowTree.F t:=by kernel_rfl
theorem e_spec_l1Key (t:TupI (K_spec_l1Key.ins.map PS.sh)):runF X_spec_l1Key Tryz.f119 K_spec_l1Key t=K_spec_l1Key.F t:=by kernel_rfl
theorem e_slices_DeleteFunc_Lint64_int64 (t:TupI (K_slices_DeleteFunc_Lint64_int64.ins.map PS.sh)):runF X_slices_DeleteFunc_Lint64_int64 Tryz.f168 K_slices_DeleteFunc_Lint64_int64 t=K_slices_DeleteFunc_Lint64_int64.F t:=by kernel_rfl
theorem e_spec_l12Put (t:TupI (K_spec_l12Put.ins.map PS.sh)):runF X_spec_l12Put Tryz.f56 K_spec_l12Put t=K_spec_l12Put.F t:=by kernel_rfl
theorem e_spec_l12Voted (t:TupI (K_spec_l12Voted.ins.map PS.sh)):runF X_spec_l12Voted Tryz.f74 K_spec_l12Voted t=K_spec_l12Voted.F t:=by kernel_rfl
theorem e_laws_lwHas (t:TupI (K_laws_lwHas.ins.map PS.sh)):runF X_laws_lwHas Tryz.f18 K_laws_lwHas t=K_laws_lwHas.F t:=by kernel_rfl
theorem e_spec_l1Pick (t:TupI (K_spec_l1Pick.ins.map PS.sh)):runF X_spec_l1Pick Tryz.f100 K_spec_l1Pick t=K_spec_l1Pick.F t:=by kernel_rfl
theorem e_impl_Cluster_heardFault_c1 (t:TupI (K_impl_Cluster_heardFault_c1.ins.map PS.sh)):runF X_impl_Cluster_heardFault_c1 Tryz.f132 K_impl_Cluster_heardFault_c1 t=K_impl_Cluster_heardFault_c1.F t:=by kernel_rfl
theorem e_slices_IndexFunc_Limpl_Voter_impl_Voter (t:TupI (K_slices_IndexFunc_Limpl_Voter_impl_Voter.ins.map PS.sh)):runF X_slices_IndexFunc_Limpl_Voter_impl_Voter Tryz.f172 K_slices_IndexFunc_Limpl_Voter_impl_Voter t=K_slices_IndexFunc_Limpl_Voter_impl_Voter.F t:=by kernel_rfl
theorem e_impl_findNode (t:TupI (K_impl_findNode.ins.map PS.sh)):runF X_impl_findNode Tryz.f167 K_impl_findNode t=K_impl_findNode.F t:=by kernel_rfl
theorem e_impl_Cluster_findVoter (t:TupI (K_impl_Cluster_findVoter.ins.map PS.sh)):runF X_impl_Cluster_findVoter Tryz.f136 K_impl_Cluster_findVoter t=K_impl_Cluster_findVoter.F t:=by kernel_rfl
theorem e_slices_ContainsFunc_Limpl_Choice_impl_Choice (t:TupI (K_slices_ContainsFunc_Limpl_Choice_impl_Choice.ins.map PS.sh)):runF X_slices_ContainsFunc_Limpl_Choice_impl_Choice Tryz.f83 K_slices_ContainsFunc_Limpl_Choice_impl_Choice t=K_slices_ContainsFunc_Limpl_Choice_impl_Choice.F t:=by kernel_rfl
end CL
end Go.Dx

