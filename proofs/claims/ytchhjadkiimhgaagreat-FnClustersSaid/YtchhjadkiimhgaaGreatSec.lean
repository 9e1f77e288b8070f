/- The executor finds what each function computes: by computation -/
import Derived.Test.YtchhjadkiimhgaaGreatSca
set_option linter.unusedVariables false
set_option linter.unusedSimpArgs false
set_option maxRecDepth 100000
set_option maxHeartbeats 0
namespace Go.Dx
open Go.Proofs
namespace CL

theorem e_laws_FnClusters (t:TupI (K_laws_FnClusters.ins.map PS.sh)):runF X_laws_FnClusters Tryz.f5 K_laws_FnClusters t=K_laws_FnClusters.F t:=by kernel_rfl
theorem e_spec_HearAt (t:TupI (K_spec_HearAt.ins.map PS.sh)):runF X_spec_HearAt Tryz.f135 K_spec_HearAt t=K_spec_HearAt.F t:=by kernel_rfl
theorem e_spec_l9Right (t:TupI (K_spec_l9Right.ins.map PS.sh)):runF X_spec_l9Right Tryz.f159 K_spec_l9Right t=K_spec_l9Right.F t:=by kernel_rfl
theorem e_spec_l10Bent (t:TupI (K_spec_l10Bent.ins.map PS.sh)):runF X_spec_l10Bent Tryz.f99 K_spec_l10Bent t=K_spec_l10Bent.F t:=by kernel_rfl
theorem e_spec_l12Copy (t:TupI (K_spec_l12Copy.ins.map PS.sh)):runF X_spec_l12Copy Tryz.f57 K_spec_l12Copy t=K_spec_l12Copy.F t:=by kernel_rfl
theorem e_impl_ChooseFor (t:TupI (K_impl_ChooseFor.ins.map PS.sh)):runF X_impl_ChooseFor Tryz.f77 K_impl_ChooseFor t=K_impl_ChooseFor.F t:=by kernel_rfl
theorem e_spec_DrawCastAt (t:TupI (K_spec_DrawCastAt.ins.map PS.sh)):runF X_spec_DrawCastAt Tryz.f20 K_spec_DrawCastAt t=K_spec_DrawCastAt.F t:=by kernel_rfl
theorem e_spec_l11BentVote (t:TupI (K_spec_l11BentVote.ins.map PS.sh)):runF X_spec_l11BentVote Tryz.f46 K_spec_l11BentVote t=K_spec_l11BentVote.F t:=by kernel_rfl
theorem e_impl_Cluster_isHearer (t:TupI (K_impl_Cluster_isHearer.ins.map PS.sh)):runF X_impl_Cluster_isHearer Tryz.f78 K_impl_Cluster_isHearer t=K_impl_Cluster_isHearer.F t:=by kernel_rfl
theorem e_impl_TreeFault (t:TupI (K_impl_TreeFault.ins.map PS.sh)):runF X_impl_TreeFault Tryz.f61 K_impl_TreeFault t=K_impl_TreeFault.F t:=by kernel_rfl
theorem e_slices_Index_Limpl_Vote_impl_Vote (t:TupI (K_slices_Index_Limpl_Vote_impl_Vote.ins.map PS.sh)):runF X_slices_Index_Limpl_Vote_impl_Vote Tryz.f161 K_slices_Index_Limpl_Vote_impl_Vote t=K_slices_Index_Limpl_Vote_impl_Vote.F t:=by kernel_rfl
theorem e_spec_l11Copy (t:TupI (K_spec_l11Copy.ins.map PS.sh)):runF X_spec_l11Copy Tryz.f123 K_spec_l11Copy t=K_spec_l11Copy.F t:=by kernel_rfl
theorem e_spec_l12At (t:TupI (K_spec_l12At.ins.map PS.sh)):runF X_spec_l12At Tryz.f73 K_spec_l12At t=K_spec_l12At.F t:=by kernel_rfl
theorem e_laws_lwBig (t:TupI (K_laws_lwBig.ins.map PS.sh)):runF X_laws_lwBig Tryz.f9 K_laws_lwBig t=K_laws_lwBig.F t:=by kernel_rfl
theorem e_impl_Cluster_heardFault (t:TupI (K_impl_Cluster_heardFault.ins.map PS.sh)):runF X_impl_Cluster_heardFault Tryz.f64 K_impl_Cluster_heardFault t=K_impl_Cluster_heardFault.F t:=by kernel_rfl
theorem e_spec_l3Ref (t:TupI (K_spec_l3Ref.ins.map PS.sh)):runF X_spec_l3Ref Tryz.f121 K_spec_l3Ref t=K_spec_l3Ref.F t:=by kernel_rfl
theorem e_spec_l11Tx (t:TupI (K_spec_l11Tx.ins.map PS.sh)):runF X_spec_l11Tx Tryz.f120 K_spec_l11Tx t=K_spec_l11Tx.F t:=by kernel_rfl
theorem e_impl_ownVoter (t:TupI (K_impl_ownVoter.ins.map PS.sh)):runF X_impl_ownVoter Tryz.f110 K_impl_ownVoter t=K_impl_ownVoter.F t:=by kernel_rfl
theorem e_slices_Clone_Limpl_Choice_impl_Choice (t:TupI (K_slices_Clone_Limpl_Choice_impl_Choice.ins.map PS.sh)):runF X_slices_Clone_Limpl_Choice_impl_Choice Tryz.f160 K_slices_Clone_Limpl_Choice_impl_Choice t=K_slices_Clone_Limpl_Choice_impl_Choice.F t:=by kernel_rfl
theorem e_impl_findNode_c1 (t:TupI (K_impl_findNode_c1.ins.map PS.sh)):runF X_impl_findNode_c1 Tryz.f188 K_impl_findNode_c1 t=K_impl_findNode_c1.F t:=by kernel_rfl
theorem e_impl_Cluster_findVoter_c1 (t:TupI (K_impl_Cluster_findVoter_c1.ins.map PS.sh)):runF X_impl_Cluster_findVoter_c1 Tryz.f173 K_impl_Cluster_findVoter_c1 t=K_impl_Cluster_findVoter_c1.F t:=by kernel_rfl
theorem e_impl_areKeys_c1 (t:TupI (K_impl_areKeys_c1.ins.map PS.sh)):runF X_impl_areKeys_c1 Tryz.f166 K_impl_areKeys_c1 t=K_impl_areKeys_c1.F t:=by kernel_rfl
end CL
end Go.Dx

