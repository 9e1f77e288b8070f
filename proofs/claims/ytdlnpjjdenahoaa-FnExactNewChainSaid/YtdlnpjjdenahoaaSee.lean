/- The executor finds what each function computes: by computation -/
import Derived.Test.YtdlnpjjdenahoaaSca
set_option linter.unusedVariables false
set_option linter.unusedSimpArgs false
set_option maxRecDepth 100000
set_option maxHeartbeats 0
namespace Go.Dx
open Go.Proofs
namespace NC

theorem e_laws_markCoinS (t : TupI (K_laws_markCoinS.ins.map PS.sh)) : runF X_laws_markCoinS Try.f163 K_laws_markCoinS t = K_laws_markCoinS.F t := by kernel_rfl
theorem e_laws_markText (t : TupI (K_laws_markText.ins.map PS.sh)) : runF X_laws_markText Try.f116 K_laws_markText t = K_laws_markText.F t := by kernel_rfl
theorem e_laws_heldStringS (t : TupI (K_laws_heldStringS.ins.map PS.sh)) : runF X_laws_heldStringS Try.f166 K_laws_heldStringS t = K_laws_heldStringS.F t := by kernel_rfl
theorem e_laws_markChain (t : TupI (K_laws_markChain.ins.map PS.sh)) : runF X_laws_markChain Try.f59 K_laws_markChain t = K_laws_markChain.F t := by kernel_rfl
theorem e_laws_markNodeS (t : TupI (K_laws_markNodeS.ins.map PS.sh)) : runF X_laws_markNodeS Try.f117 K_laws_markNodeS t = K_laws_markNodeS.F t := by kernel_rfl
theorem e_laws_szLedger (t : TupI (K_laws_szLedger.ins.map PS.sh)) : runF X_laws_szLedger Try.f11 K_laws_szLedger t = K_laws_szLedger.F t := by kernel_rfl
theorem e_laws_eqOut (t : TupI (K_laws_eqOut.ins.map PS.sh)) : runF X_laws_eqOut Try.f197 K_laws_eqOut t = K_laws_eqOut.F t := by kernel_rfl
theorem e_spec_l1At (t : TupI (K_spec_l1At.ins.map PS.sh)) : runF X_spec_l1At Try.f105 K_spec_l1At t = K_spec_l1At.F t := by kernel_rfl
theorem e_impl_isText (t : TupI (K_impl_isText.ins.map PS.sh)) : runF X_impl_isText Try.f109 K_impl_isText t = K_impl_isText.F t := by kernel_rfl
theorem e_laws_heldChain (t : TupI (K_laws_heldChain.ins.map PS.sh)) : runF X_laws_heldChain Try.f60 K_laws_heldChain t = K_laws_heldChain.F t := by kernel_rfl
theorem e_spec_l1Signed (t : TupI (K_spec_l1Signed.ins.map PS.sh)) : runF X_spec_l1Signed Try.f107 K_spec_l1Signed t = K_spec_l1Signed.F t := by kernel_rfl
theorem e_laws_toStringS (t : TupI (K_laws_toStringS.ins.map PS.sh)) : runF X_laws_toStringS Try.f51 K_laws_toStringS t = K_laws_toStringS.F t := by kernel_rfl
theorem e_impl_isKey (t : TupI (K_impl_isKey.ins.map PS.sh)) : runF X_impl_isKey Try.f111 K_impl_isKey t = K_impl_isKey.F t := by kernel_rfl
theorem e_laws_markChainResult (t : TupI (K_laws_markChainResult.ins.map PS.sh)) : runF X_laws_markChainResult Try.f18 K_laws_markChainResult t = K_laws_markChainResult.F t := by kernel_rfl
theorem e_slices_Index_Lstring_string (t : TupI (K_slices_Index_Lstring_string.ins.map PS.sh)) : runF X_slices_Index_Lstring_string Try.f161 K_slices_Index_Lstring_string t = K_slices_Index_Lstring_string.F t := by kernel_rfl
theorem e_slices_Clone_Limpl_Sign_impl_Sign (t : TupI (K_slices_Clone_Limpl_Sign_impl_Sign.ins.map PS.sh)) : runF X_slices_Clone_Limpl_Sign_impl_Sign Try.f114 K_slices_Clone_Limpl_Sign_impl_Sign t = K_slices_Clone_Limpl_Sign_impl_Sign.F t := by kernel_rfl
theorem e_laws_eqMember (t : TupI (K_laws_eqMember.ins.map PS.sh)) : runF X_laws_eqMember Try.f159 K_laws_eqMember t = K_laws_eqMember.F t := by kernel_rfl
theorem e_laws_eqUndo (t : TupI (K_laws_eqUndo.ins.map PS.sh)) : runF X_laws_eqUndo Try.f104 K_laws_eqUndo t = K_laws_eqUndo.F t := by kernel_rfl
theorem e_spec_l1Key (t : TupI (K_spec_l1Key.ins.map PS.sh)) : runF X_spec_l1Key Try.f106 K_spec_l1Key t = K_spec_l1Key.F t := by kernel_rfl
end NC
end Go.Dx
