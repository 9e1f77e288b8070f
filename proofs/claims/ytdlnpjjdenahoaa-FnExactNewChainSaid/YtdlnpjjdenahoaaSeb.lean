/- The executor finds what each function computes: by computation -/
import Derived.Test.YtdlnpjjdenahoaaSca
set_option linter.unusedVariables false
set_option linter.unusedSimpArgs false
set_option maxRecDepth 100000
set_option maxHeartbeats 0
namespace Go.Dx
open Go.Proofs
namespace NC

theorem e_laws_FnExactNewChain (t : TupI (K_laws_FnExactNewChain.ins.map PS.sh)) : runF X_laws_FnExactNewChain Try.f4 K_laws_FnExactNewChain t = K_laws_FnExactNewChain.F t := by kernel_rfl
theorem e_laws_eqCoinS (t : TupI (K_laws_eqCoinS.ins.map PS.sh)) : runF X_laws_eqCoinS Try.f102 K_laws_eqCoinS t = K_laws_eqCoinS.F t := by kernel_rfl
theorem e_laws_szSignS (t : TupI (K_laws_szSignS.ins.map PS.sh)) : runF X_laws_szSignS Try.f47 K_laws_szSignS t = K_laws_szSignS.F t := by kernel_rfl
theorem e_laws_eqUndoS (t : TupI (K_laws_eqUndoS.ins.map PS.sh)) : runF X_laws_eqUndoS Try.f45 K_laws_eqUndoS t = K_laws_eqUndoS.F t := by kernel_rfl
theorem e_laws_eqMemberS (t : TupI (K_laws_eqMemberS.ins.map PS.sh)) : runF X_laws_eqMemberS Try.f103 K_laws_eqMemberS t = K_laws_eqMemberS.F t := by kernel_rfl
theorem e_laws_markSignS (t : TupI (K_laws_markSignS.ins.map PS.sh)) : runF X_laws_markSignS Try.f58 K_laws_markSignS t = K_laws_markSignS.F t := by kernel_rfl
theorem e_laws_heldLedger (t : TupI (K_laws_heldLedger.ins.map PS.sh)) : runF X_laws_heldLedger Try.f121 K_laws_heldLedger t = K_laws_heldLedger.F t := by kernel_rfl
theorem e_laws_eqCoin (t : TupI (K_laws_eqCoin.ins.map PS.sh)) : runF X_laws_eqCoin Try.f158 K_laws_eqCoin t = K_laws_eqCoin.F t := by kernel_rfl
theorem e_laws_eqStringS (t : TupI (K_laws_eqStringS.ins.map PS.sh)) : runF X_laws_eqStringS Try.f55 K_laws_eqStringS t = K_laws_eqStringS.F t := by kernel_rfl
theorem e_laws_markLedger (t : TupI (K_laws_markLedger.ins.map PS.sh)) : runF X_laws_markLedger Try.f17 K_laws_markLedger t = K_laws_markLedger.F t := by kernel_rfl
theorem e_laws_markInt64S (t : TupI (K_laws_markInt64S.ins.map PS.sh)) : runF X_laws_markInt64S Try.f118 K_laws_markInt64S t = K_laws_markInt64S.F t := by kernel_rfl
theorem e_laws_heldState (t : TupI (K_laws_heldState.ins.map PS.sh)) : runF X_laws_heldState Try.f124 K_laws_heldState t = K_laws_heldState.F t := by kernel_rfl
theorem e_laws_eqChain (t : TupI (K_laws_eqChain.ins.map PS.sh)) : runF X_laws_eqChain Try.f10 K_laws_eqChain t = K_laws_eqChain.F t := by kernel_rfl
theorem e_slices_Contains_Limpl_Sign_impl_Sign (t : TupI (K_slices_Contains_Limpl_Sign_impl_Sign.ins.map PS.sh)) : runF X_slices_Contains_Limpl_Sign_impl_Sign Try.f112 K_slices_Contains_Limpl_Sign_impl_Sign t = K_slices_Contains_Limpl_Sign_impl_Sign.F t := by kernel_rfl
theorem e_slices_Clone_Lstring_string (t : TupI (K_slices_Clone_Lstring_string.ins.map PS.sh)) : runF X_slices_Clone_Lstring_string Try.f113 K_slices_Clone_Lstring_string t = K_slices_Clone_Lstring_string.F t := by kernel_rfl
theorem e_laws_heldChainResult (t : TupI (K_laws_heldChainResult.ins.map PS.sh)) : runF X_laws_heldChainResult Try.f19 K_laws_heldChainResult t = K_laws_heldChainResult.F t := by kernel_rfl
theorem e_slices_Contains_Lstring_string (t : TupI (K_slices_Contains_Lstring_string.ins.map PS.sh)) : runF X_slices_Contains_Lstring_string Try.f110 K_slices_Contains_Lstring_string t = K_slices_Contains_Lstring_string.F t := by kernel_rfl
end NC
end Go.Dx
