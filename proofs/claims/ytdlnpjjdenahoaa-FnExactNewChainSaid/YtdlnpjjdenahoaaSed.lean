/- The executor finds what each function computes: by computation -/
import Derived.Test.YtdlnpjjdenahoaaSca
set_option linter.unusedVariables false
set_option linter.unusedSimpArgs false
set_option maxRecDepth 100000
set_option maxHeartbeats 0
namespace Go.Dx
open Go.Proofs
namespace NC

theorem e_laws_heldCoinS (t : TupI (K_laws_heldCoinS.ins.map PS.sh)) : runF X_laws_heldCoinS Try.f168 K_laws_heldCoinS t = K_laws_heldCoinS.F t := by kernel_rfl
theorem e_laws_heldUndoS (t : TupI (K_laws_heldUndoS.ins.map PS.sh)) : runF X_laws_heldUndoS Try.f125 K_laws_heldUndoS t = K_laws_heldUndoS.F t := by kernel_rfl
theorem e_laws_markStringS (t : TupI (K_laws_markStringS.ins.map PS.sh)) : runF X_laws_markStringS Try.f57 K_laws_markStringS t = K_laws_markStringS.F t := by kernel_rfl
theorem e_laws_eqSignS (t : TupI (K_laws_eqSignS.ins.map PS.sh)) : runF X_laws_eqSignS Try.f56 K_laws_eqSignS t = K_laws_eqSignS.F t := by kernel_rfl
theorem e_laws_markUndoS (t : TupI (K_laws_markUndoS.ins.map PS.sh)) : runF X_laws_markUndoS Try.f120 K_laws_markUndoS t = K_laws_markUndoS.F t := by kernel_rfl
theorem e_laws_markMemberS (t : TupI (K_laws_markMemberS.ins.map PS.sh)) : runF X_laws_markMemberS Try.f164 K_laws_markMemberS t = K_laws_markMemberS.F t := by kernel_rfl
theorem e_laws_heldNodeS (t : TupI (K_laws_heldNodeS.ins.map PS.sh)) : runF X_laws_heldNodeS Try.f122 K_laws_heldNodeS t = K_laws_heldNodeS.F t := by kernel_rfl
theorem e_impl_NewChain (t : TupI (K_impl_NewChain.ins.map PS.sh)) : runF X_impl_NewChain Try.f14 K_impl_NewChain t = K_impl_NewChain.F t := by kernel_rfl
theorem e_spec_l1Copy (t : TupI (K_spec_l1Copy.ins.map PS.sh)) : runF X_spec_l1Copy Try.f50 K_spec_l1Copy t = K_spec_l1Copy.F t := by kernel_rfl
theorem e_laws_eqInt64S (t : TupI (K_laws_eqInt64S.ins.map PS.sh)) : runF X_laws_eqInt64S Try.f43 K_laws_eqInt64S t = K_laws_eqInt64S.F t := by kernel_rfl
theorem e_slices_Index_Limpl_Sign_impl_Sign (t : TupI (K_slices_Index_Limpl_Sign_impl_Sign.ins.map PS.sh)) : runF X_slices_Index_Limpl_Sign_impl_Sign Try.f162 K_slices_Index_Limpl_Sign_impl_Sign t = K_slices_Index_Limpl_Sign_impl_Sign.F t := by kernel_rfl
theorem e_laws_toSignS (t : TupI (K_laws_toSignS.ins.map PS.sh)) : runF X_laws_toSignS Try.f52 K_laws_toSignS t = K_laws_toSignS.F t := by kernel_rfl
theorem e_spec_NewChain (t : TupI (K_spec_NewChain.ins.map PS.sh)) : runF X_spec_NewChain Try.f12 K_spec_NewChain t = K_spec_NewChain.F t := by kernel_rfl
theorem e_impl_within (t : TupI (K_impl_within.ins.map PS.sh)) : runF X_impl_within Try.f67 K_impl_within t = K_impl_within.F t := by kernel_rfl
theorem e_laws_eqState (t : TupI (K_laws_eqState.ins.map PS.sh)) : runF X_laws_eqState Try.f44 K_laws_eqState t = K_laws_eqState.F t := by kernel_rfl
theorem e_laws_eqNode (t : TupI (K_laws_eqNode.ins.map PS.sh)) : runF X_laws_eqNode Try.f101 K_laws_eqNode t = K_laws_eqNode.F t := by kernel_rfl
theorem e_laws_eqSign (t : TupI (K_laws_eqSign.ins.map PS.sh)) : runF X_laws_eqSign Try.f115 K_laws_eqSign t = K_laws_eqSign.F t := by kernel_rfl
theorem e_laws_eqLedger (t : TupI (K_laws_eqLedger.ins.map PS.sh)) : runF X_laws_eqLedger Try.f16 K_laws_eqLedger t = K_laws_eqLedger.F t := by kernel_rfl
end NC
end Go.Dx
