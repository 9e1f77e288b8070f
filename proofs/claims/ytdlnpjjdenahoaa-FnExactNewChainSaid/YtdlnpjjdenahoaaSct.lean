/- The contracts of the functions -/
import Derived.Test.YtdlnpjjdenahoaaSea
import Derived.Test.YtdlnpjjdenahoaaSeb
import Derived.Test.YtdlnpjjdenahoaaSec
import Derived.Test.YtdlnpjjdenahoaaSed
import Derived.Test.YtdlnpjjdenahoaaSee
set_option linter.unusedVariables false
set_option linter.unusedSimpArgs false
set_option maxRecDepth 100000
set_option maxHeartbeats 0
namespace Go.Dx
open Go.Proofs
namespace NC

theorem b_laws_szStringS : Try.f46.body.isSome = true := by kernel_rfl
theorem n_laws_szStringS : (Try.f46.name == "runtime.NumGoroutine") = false := by kernel_rfl
theorem c_laws_szStringS : Contract Try.prog 46 K_laws_szStringS := contract_of (C := X_laws_szStringS) (fn := Try.f46) (tysOk_at (C := X0) rfl tysOk) (ctxOk_of (P := Try.prog) trivial) follows Try.func46 b_laws_szStringS n_laws_szStringS (fun t ys h => (e_laws_szStringS t).trans h)
theorem b_laws_szSignS : Try.f47.body.isSome = true := by kernel_rfl
theorem n_laws_szSignS : (Try.f47.name == "runtime.NumGoroutine") = false := by kernel_rfl
theorem c_laws_szSignS : Contract Try.prog 47 K_laws_szSignS := contract_of (C := X_laws_szSignS) (fn := Try.f47) (tysOk_at (C := X0) rfl tysOk) (ctxOk_of (P := Try.prog) trivial) follows Try.func47 b_laws_szSignS n_laws_szSignS (fun t ys h => (e_laws_szSignS t).trans h)
theorem b_laws_szLedger : Try.f11.body.isSome = true := by kernel_rfl
theorem n_laws_szLedger : (Try.f11.name == "runtime.NumGoroutine") = false := by kernel_rfl
theorem c_laws_szLedger : Contract Try.prog 11 K_laws_szLedger := contract_of (C := X_laws_szLedger) (fn := Try.f11) (tysOk_at (C := X0) rfl tysOk) (ctxOk_of (P := Try.prog) ⟨c_laws_szStringS, c_laws_szSignS, trivial⟩) follows Try.func11 b_laws_szLedger n_laws_szLedger (fun t ys h => (e_laws_szLedger t).trans h)
theorem b_spec_l1In : Try.f76.body.isSome = true := by kernel_rfl
theorem n_spec_l1In : (Try.f76.name == "runtime.NumGoroutine") = false := by kernel_rfl
theorem c_spec_l1In : Contract Try.prog 76 K_spec_l1In := contract_of (C := X_spec_l1In) (fn := Try.f76) (tysOk_at (C := X0) rfl tysOk) (ctxOk_of (P := Try.prog) trivial) follows Try.func76 b_spec_l1In n_spec_l1In (fun t ys h => (e_spec_l1In t).trans h)
theorem b_spec_l1At : Try.f105.body.isSome = true := by kernel_rfl
theorem n_spec_l1At : (Try.f105.name == "runtime.NumGoroutine") = false := by kernel_rfl
theorem c_spec_l1At : Contract Try.prog 105 K_spec_l1At := contract_of (C := X_spec_l1At) (fn := Try.f105) (tysOk_at (C := X0) rfl tysOk) (ctxOk_of (P := Try.prog) trivial) follows Try.func105 b_spec_l1At n_spec_l1At (fun t ys h => (e_spec_l1At t).trans h)
theorem b_spec_l1Key : Try.f106.body.isSome = true := by kernel_rfl
theorem n_spec_l1Key : (Try.f106.name == "runtime.NumGoroutine") = false := by kernel_rfl
theorem c_spec_l1Key : Contract Try.prog 106 K_spec_l1Key := contract_of (C := X_spec_l1Key) (fn := Try.f106) (tysOk_at (C := X0) rfl tysOk) (ctxOk_of (P := Try.prog) ⟨c_spec_l1In, trivial⟩) follows Try.func106 b_spec_l1Key n_spec_l1Key (fun t ys h => (e_spec_l1Key t).trans h)
theorem b_spec_l1Signed : Try.f107.body.isSome = true := by kernel_rfl
theorem n_spec_l1Signed : (Try.f107.name == "runtime.NumGoroutine") = false := by kernel_rfl
theorem c_spec_l1Signed : Contract Try.prog 107 K_spec_l1Signed := contract_of (C := X_spec_l1Signed) (fn := Try.f107) (tysOk_at (C := X0) rfl tysOk) (ctxOk_of (P := Try.prog) trivial) follows Try.func107 b_spec_l1Signed n_spec_l1Signed (fun t ys h => (e_spec_l1Signed t).trans h)
theorem b_spec_l1Fault : Try.f48.body.isSome = true := by kernel_rfl
theorem n_spec_l1Fault : (Try.f48.name == "runtime.NumGoroutine") = false := by kernel_rfl
theorem c_spec_l1Fault : Contract Try.prog 48 K_spec_l1Fault := contract_of (C := X_spec_l1Fault) (fn := Try.f48) (tysOk_at (C := X0) rfl tysOk) (ctxOk_of (P := Try.prog) ⟨c_spec_l1In, c_spec_l1At, c_spec_l1Key, c_spec_l1Signed, trivial⟩) follows Try.func48 b_spec_l1Fault n_spec_l1Fault (fun t ys h => (e_spec_l1Fault t).trans h)
theorem b_spec_l15Bad : Try.f49.body.isSome = true := by kernel_rfl
theorem n_spec_l15Bad : (Try.f49.name == "runtime.NumGoroutine") = false := by kernel_rfl
theorem c_spec_l15Bad : Contract Try.prog 49 K_spec_l15Bad := contract_of (C := X_spec_l15Bad) (fn := Try.f49) (tysOk_at (C := X0) rfl tysOk) (ctxOk_of (P := Try.prog) trivial) follows Try.func49 b_spec_l15Bad n_spec_l15Bad (fun t ys h => (e_spec_l15Bad t).trans h)
theorem b_spec_l1Copy : Try.f50.body.isSome = true := by kernel_rfl
theorem n_spec_l1Copy : (Try.f50.name == "runtime.NumGoroutine") = false := by kernel_rfl
theorem c_spec_l1Copy : Contract Try.prog 50 K_spec_l1Copy := contract_of (C := X_spec_l1Copy) (fn := Try.f50) (tysOk_at (C := X0) rfl tysOk) (ctxOk_of (P := Try.prog) trivial) follows Try.func50 b_spec_l1Copy n_spec_l1Copy (fun t ys h => (e_spec_l1Copy t).trans h)
theorem b_spec_NewChain : Try.f12.body.isSome = true := by kernel_rfl
theorem n_spec_NewChain : (Try.f12.name == "runtime.NumGoroutine") = false := by kernel_rfl
theorem c_spec_NewChain : Contract Try.prog 12 K_spec_NewChain := contract_of (C := X_spec_NewChain) (fn := Try.f12) (tysOk_at (C := X0) rfl tysOk) (ctxOk_of (P := Try.prog) ⟨c_spec_l1Fault, c_spec_l15Bad, c_spec_l1Copy, trivial⟩) follows Try.func12 b_spec_NewChain n_spec_NewChain (fun t ys h => (e_spec_NewChain t).trans h)
theorem b_laws_toStringS : Try.f51.body.isSome = true := by kernel_rfl
theorem n_laws_toStringS : (Try.f51.name == "runtime.NumGoroutine") = false := by kernel_rfl
theorem c_laws_toStringS : Contract Try.prog 51 K_laws_toStringS := contract_of (C := X_laws_toStringS) (fn := Try.f51) (tysOk_at (C := X0) rfl tysOk) (ctxOk_of (P := Try.prog) trivial) follows Try.func51 b_laws_toStringS n_laws_toStringS (fun t ys h => (e_laws_toStringS t).trans h)
theorem b_laws_toSign : Try.f108.body.isSome = true := by kernel_rfl
theorem n_laws_toSign : (Try.f108.name == "runtime.NumGoroutine") = false := by kernel_rfl
theorem c_laws_toSign : Contract Try.prog 108 K_laws_toSign := contract_of (C := X_laws_toSign) (fn := Try.f108) (tysOk_at (C := X0) rfl tysOk) (ctxOk_of (P := Try.prog) trivial) follows Try.func108 b_laws_toSign n_laws_toSign (fun t ys h => (e_laws_toSign t).trans h)
theorem b_laws_toSignS : Try.f52.body.isSome = true := by kernel_rfl
theorem n_laws_toSignS : (Try.f52.name == "runtime.NumGoroutine") = false := by kernel_rfl
theorem c_laws_toSignS : Contract Try.prog 52 K_laws_toSignS := contract_of (C := X_laws_toSignS) (fn := Try.f52) (tysOk_at (C := X0) rfl tysOk) (ctxOk_of (P := Try.prog) ⟨c_laws_toSign, trivial⟩) follows Try.func52 b_laws_toSignS n_laws_toSignS (fun t ys h => (e_laws_toSignS t).trans h)
theorem b_laws_toLedger : Try.f13.body.isSome = true := by kernel_rfl
theorem n_laws_toLedger : (Try.f13.name == "runtime.NumGoroutine") = false := by kernel_rfl
theorem c_laws_toLedger : Contract Try.prog 13 K_laws_toLedger := contract_of (C := X_laws_toLedger) (fn := Try.f13) (tysOk_at (C := X0) rfl tysOk) (ctxOk_of (P := Try.prog) ⟨c_laws_toStringS, c_laws_toSignS, trivial⟩) follows Try.func13 b_laws_toLedger n_laws_toLedger (fun t ys h => (e_laws_toLedger t).trans h)
theorem b_impl_within : Try.f67.body.isSome = true := by kernel_rfl
theorem n_impl_within : (Try.f67.name == "runtime.NumGoroutine") = false := by kernel_rfl
theorem c_impl_within : Contract Try.prog 67 K_impl_within := contract_of (C := X_impl_within) (fn := Try.f67) (tysOk_at (C := X0) rfl tysOk) (ctxOk_of (P := Try.prog) trivial) follows Try.func67 b_impl_within n_impl_within (fun t ys h => (e_impl_within t).trans h)
theorem b_impl_isText : Try.f109.body.isSome = true := by kernel_rfl
theorem n_impl_isText : (Try.f109.name == "runtime.NumGoroutine") = false := by kernel_rfl
theorem c_impl_isText : Contract Try.prog 109 K_impl_isText := contract_of (C := X_impl_isText) (fn := Try.f109) (tysOk_at (C := X0) rfl tysOk) (ctxOk_of (P := Try.prog) ⟨c_impl_within, trivial⟩) follows Try.func109 b_impl_isText n_impl_isText (fun t ys h => (e_impl_isText t).trans h)
theorem b_slices_Index_Lstring_string : Try.f161.body.isSome = true := by kernel_rfl
theorem n_slices_Index_Lstring_string : (Try.f161.name == "runtime.NumGoroutine") = false := by kernel_rfl
theorem c_slices_Index_Lstring_string : Contract Try.prog 161 K_slices_Index_Lstring_string := contract_of (C := X_slices_Index_Lstring_string) (fn := Try.f161) (tysOk_at (C := X0) rfl tysOk) (ctxOk_of (P := Try.prog) trivial) follows Try.func161 b_slices_Index_Lstring_string n_slices_Index_Lstring_string (fun t ys h => (e_slices_Index_Lstring_string t).trans h)
theorem b_slices_Contains_Lstring_string : Try.f110.body.isSome = true := by kernel_rfl
theorem n_slices_Contains_Lstring_string : (Try.f110.name == "runtime.NumGoroutine") = false := by kernel_rfl
theorem c_slices_Contains_Lstring_string : Contract Try.prog 110 K_slices_Contains_Lstring_string := contract_of (C := X_slices_Contains_Lstring_string) (fn := Try.f110) (tysOk_at (C := X0) rfl tysOk) (ctxOk_of (P := Try.prog) ⟨c_slices_Index_Lstring_string, trivial⟩) follows Try.func110 b_slices_Contains_Lstring_string n_slices_Contains_Lstring_string (fun t ys h => (e_slices_Contains_Lstring_string t).trans h)
theorem b_impl_isKey : Try.f111.body.isSome = true := by kernel_rfl
theorem n_impl_isKey : (Try.f111.name == "runtime.NumGoroutine") = false := by kernel_rfl
theorem c_impl_isKey : Contract Try.prog 111 K_impl_isKey := contract_of (C := X_impl_isKey) (fn := Try.f111) (tysOk_at (C := X0) rfl tysOk) (ctxOk_of (P := Try.prog) ⟨c_impl_within, trivial⟩) follows Try.func111 b_impl_isKey n_impl_isKey (fun t ys h => (e_impl_isKey t).trans h)
theorem b_slices_Index_Limpl_Sign_impl_Sign : Try.f162.body.isSome = true := by kernel_rfl
theorem n_slices_Index_Limpl_Sign_impl_Sign : (Try.f162.name == "runtime.NumGoroutine") = false := by kernel_rfl
theorem c_slices_Index_Limpl_Sign_impl_Sign : Contract Try.prog 162 K_slices_Index_Limpl_Sign_impl_Sign := contract_of (C := X_slices_Index_Limpl_Sign_impl_Sign) (fn := Try.f162) (tysOk_at (C := X0) rfl tysOk) (ctxOk_of (P := Try.prog) trivial) follows Try.func162 b_slices_Index_Limpl_Sign_impl_Sign n_slices_Index_Limpl_Sign_impl_Sign (fun t ys h => (e_slices_Index_Limpl_Sign_impl_Sign t).trans h)
theorem b_slices_Contains_Limpl_Sign_impl_Sign : Try.f112.body.isSome = true := by kernel_rfl
theorem n_slices_Contains_Limpl_Sign_impl_Sign : (Try.f112.name == "runtime.NumGoroutine") = false := by kernel_rfl
theorem c_slices_Contains_Limpl_Sign_impl_Sign : Contract Try.prog 112 K_slices_Contains_Limpl_Sign_impl_Sign := contract_of (C := X_slices_Contains_Limpl_Sign_impl_Sign) (fn := Try.f112) (tysOk_at (C := X0) rfl tysOk) (ctxOk_of (P := Try.prog) ⟨c_slices_Index_Limpl_Sign_impl_Sign, trivial⟩) follows Try.func112 b_slices_Contains_Limpl_Sign_impl_Sign n_slices_Contains_Limpl_Sign_impl_Sign (fun t ys h => (e_slices_Contains_Limpl_Sign_impl_Sign t).trans h)
theorem b_impl_LedgerFault : Try.f53.body.isSome = true := by kernel_rfl
theorem n_impl_LedgerFault : (Try.f53.name == "runtime.NumGoroutine") = false := by kernel_rfl
theorem c_impl_LedgerFault : Contract Try.prog 53 K_impl_LedgerFault := contract_of (C := X_impl_LedgerFault) (fn := Try.f53) (tysOk_at (C := X0) rfl tysOk) (ctxOk_of (P := Try.prog) ⟨c_impl_within, c_impl_isText, c_slices_Contains_Lstring_string, c_impl_isKey, c_slices_Contains_Limpl_Sign_impl_Sign, trivial⟩) follows Try.func53 b_impl_LedgerFault n_impl_LedgerFault (fun t ys h => (e_impl_LedgerFault t).trans h)
theorem b_slices_Clone_Lstring_string : Try.f113.body.isSome = true := by kernel_rfl
theorem n_slices_Clone_Lstring_string : (Try.f113.name == "runtime.NumGoroutine") = false := by kernel_rfl
theorem c_slices_Clone_Lstring_string : Contract Try.prog 113 K_slices_Clone_Lstring_string := contract_of (C := X_slices_Clone_Lstring_string) (fn := Try.f113) (tysOk_at (C := X0) rfl tysOk) (ctxOk_of (P := Try.prog) trivial) follows Try.func113 b_slices_Clone_Lstring_string n_slices_Clone_Lstring_string (fun t ys h => (e_slices_Clone_Lstring_string t).trans h)
theorem b_slices_Clone_Limpl_Sign_impl_Sign : Try.f114.body.isSome = true := by kernel_rfl
theorem n_slices_Clone_Limpl_Sign_impl_Sign : (Try.f114.name == "runtime.NumGoroutine") = false := by kernel_rfl
theorem c_slices_Clone_Limpl_Sign_impl_Sign : Contract Try.prog 114 K_slices_Clone_Limpl_Sign_impl_Sign := contract_of (C := X_slices_Clone_Limpl_Sign_impl_Sign) (fn := Try.f114) (tysOk_at (C := X0) rfl tysOk) (ctxOk_of (P := Try.prog) trivial) follows Try.func114 b_slices_Clone_Limpl_Sign_impl_Sign n_slices_Clone_Limpl_Sign_impl_Sign (fun t ys h => (e_slices_Clone_Limpl_Sign_impl_Sign t).trans h)
theorem b_impl_ownLedger : Try.f54.body.isSome = true := by kernel_rfl
theorem n_impl_ownLedger : (Try.f54.name == "runtime.NumGoroutine") = false := by kernel_rfl
theorem c_impl_ownLedger : Contract Try.prog 54 K_impl_ownLedger := contract_of (C := X_impl_ownLedger) (fn := Try.f54) (tysOk_at (C := X0) rfl tysOk) (ctxOk_of (P := Try.prog) ⟨c_slices_Clone_Lstring_string, c_slices_Clone_Limpl_Sign_impl_Sign, trivial⟩) follows Try.func54 b_impl_ownLedger n_impl_ownLedger (fun t ys h => (e_impl_ownLedger t).trans h)
theorem b_impl_NewChain : Try.f14.body.isSome = true := by kernel_rfl
theorem n_impl_NewChain : (Try.f14.name == "runtime.NumGoroutine") = false := by kernel_rfl
theorem c_impl_NewChain : Contract Try.prog 14 K_impl_NewChain := contract_of (C := X_impl_NewChain) (fn := Try.f14) (tysOk_at (C := X0) rfl tysOk) (ctxOk_of (P := Try.prog) ⟨c_impl_LedgerFault, c_impl_ownLedger, trivial⟩) follows Try.func14 b_impl_NewChain n_impl_NewChain (fun t ys h => (e_impl_NewChain t).trans h)
theorem b_laws_eqStringS : Try.f55.body.isSome = true := by kernel_rfl
theorem n_laws_eqStringS : (Try.f55.name == "runtime.NumGoroutine") = false := by kernel_rfl
theorem c_laws_eqStringS : Contract Try.prog 55 K_laws_eqStringS := contract_of (C := X_laws_eqStringS) (fn := Try.f55) (tysOk_at (C := X0) rfl tysOk) (ctxOk_of (P := Try.prog) trivial) follows Try.func55 b_laws_eqStringS n_laws_eqStringS (fun t ys h => (e_laws_eqStringS t).trans h)
theorem b_laws_eqSign : Try.f115.body.isSome = true := by kernel_rfl
theorem n_laws_eqSign : (Try.f115.name == "runtime.NumGoroutine") = false := by kernel_rfl
theorem c_laws_eqSign : Contract Try.prog 115 K_laws_eqSign := contract_of (C := X_laws_eqSign) (fn := Try.f115) (tysOk_at (C := X0) rfl tysOk) (ctxOk_of (P := Try.prog) trivial) follows Try.func115 b_laws_eqSign n_laws_eqSign (fun t ys h => (e_laws_eqSign t).trans h)
theorem b_laws_eqSignS : Try.f56.body.isSome = true := by kernel_rfl
theorem n_laws_eqSignS : (Try.f56.name == "runtime.NumGoroutine") = false := by kernel_rfl
theorem c_laws_eqSignS : Contract Try.prog 56 K_laws_eqSignS := contract_of (C := X_laws_eqSignS) (fn := Try.f56) (tysOk_at (C := X0) rfl tysOk) (ctxOk_of (P := Try.prog) ⟨c_laws_eqSign, trivial⟩) follows Try.func56 b_laws_eqSignS n_laws_eqSignS (fun t ys h => (e_laws_eqSignS t).trans h)
theorem b_laws_eqLedger : Try.f16.body.isSome = true := by kernel_rfl
theorem n_laws_eqLedger : (Try.f16.name == "runtime.NumGoroutine") = false := by kernel_rfl
theorem c_laws_eqLedger : Contract Try.prog 16 K_laws_eqLedger := contract_of (C := X_laws_eqLedger) (fn := Try.f16) (tysOk_at (C := X0) rfl tysOk) (ctxOk_of (P := Try.prog) ⟨c_laws_eqStringS, c_laws_eqSignS, trivial⟩) follows Try.func16 b_laws_eqLedger n_laws_eqLedger (fun t ys h => (e_laws_eqLedger t).trans h)
theorem b_laws_eqNode : Try.f101.body.isSome = true := by kernel_rfl
theorem n_laws_eqNode : (Try.f101.name == "runtime.NumGoroutine") = false := by kernel_rfl
theorem c_laws_eqNode : Contract Try.prog 101 K_laws_eqNode := contract_of (C := X_laws_eqNode) (fn := Try.f101) (tysOk_at (C := X0) rfl tysOk) (ctxOk_of (P := Try.prog) trivial) follows Try.func101 b_laws_eqNode n_laws_eqNode (fun t ys h => (e_laws_eqNode t).trans h)
theorem b_laws_eqNodeS : Try.f42.body.isSome = true := by kernel_rfl
theorem n_laws_eqNodeS : (Try.f42.name == "runtime.NumGoroutine") = false := by kernel_rfl
theorem c_laws_eqNodeS : Contract Try.prog 42 K_laws_eqNodeS := contract_of (C := X_laws_eqNodeS) (fn := Try.f42) (tysOk_at (C := X0) rfl tysOk) (ctxOk_of (P := Try.prog) ⟨c_laws_eqNode, trivial⟩) follows Try.func42 b_laws_eqNodeS n_laws_eqNodeS (fun t ys h => (e_laws_eqNodeS t).trans h)
theorem b_laws_eqInt64S : Try.f43.body.isSome = true := by kernel_rfl
theorem n_laws_eqInt64S : (Try.f43.name == "runtime.NumGoroutine") = false := by kernel_rfl
theorem c_laws_eqInt64S : Contract Try.prog 43 K_laws_eqInt64S := contract_of (C := X_laws_eqInt64S) (fn := Try.f43) (tysOk_at (C := X0) rfl tysOk) (ctxOk_of (P := Try.prog) trivial) follows Try.func43 b_laws_eqInt64S n_laws_eqInt64S (fun t ys h => (e_laws_eqInt64S t).trans h)
theorem b_laws_eqRef : Try.f196.body.isSome = true := by kernel_rfl
theorem n_laws_eqRef : (Try.f196.name == "runtime.NumGoroutine") = false := by kernel_rfl
theorem c_laws_eqRef : Contract Try.prog 196 K_laws_eqRef := contract_of (C := X_laws_eqRef) (fn := Try.f196) (tysOk_at (C := X0) rfl tysOk) (ctxOk_of (P := Try.prog) trivial) follows Try.func196 b_laws_eqRef n_laws_eqRef (fun t ys h => (e_laws_eqRef t).trans h)
theorem b_laws_eqRule : Try.f212.body.isSome = true := by kernel_rfl
theorem n_laws_eqRule : (Try.f212.name == "runtime.NumGoroutine") = false := by kernel_rfl
theorem c_laws_eqRule : Contract Try.prog 212 K_laws_eqRule := contract_of (C := X_laws_eqRule) (fn := Try.f212) (tysOk_at (C := X0) rfl tysOk) (ctxOk_of (P := Try.prog) ⟨c_laws_eqInt64S, trivial⟩) follows Try.func212 b_laws_eqRule n_laws_eqRule (fun t ys h => (e_laws_eqRule t).trans h)
theorem b_laws_eqOut : Try.f197.body.isSome = true := by kernel_rfl
theorem n_laws_eqOut : (Try.f197.name == "runtime.NumGoroutine") = false := by kernel_rfl
theorem c_laws_eqOut : Contract Try.prog 197 K_laws_eqOut := contract_of (C := X_laws_eqOut) (fn := Try.f197) (tysOk_at (C := X0) rfl tysOk) (ctxOk_of (P := Try.prog) ⟨c_laws_eqRule, trivial⟩) follows Try.func197 b_laws_eqOut n_laws_eqOut (fun t ys h => (e_laws_eqOut t).trans h)
theorem b_laws_eqCoin : Try.f158.body.isSome = true := by kernel_rfl
theorem n_laws_eqCoin : (Try.f158.name == "runtime.NumGoroutine") = false := by kernel_rfl
theorem c_laws_eqCoin : Contract Try.prog 158 K_laws_eqCoin := contract_of (C := X_laws_eqCoin) (fn := Try.f158) (tysOk_at (C := X0) rfl tysOk) (ctxOk_of (P := Try.prog) ⟨c_laws_eqRef, c_laws_eqOut, trivial⟩) follows Try.func158 b_laws_eqCoin n_laws_eqCoin (fun t ys h => (e_laws_eqCoin t).trans h)
theorem b_laws_eqCoinS : Try.f102.body.isSome = true := by kernel_rfl
theorem n_laws_eqCoinS : (Try.f102.name == "runtime.NumGoroutine") = false := by kernel_rfl
theorem c_laws_eqCoinS : Contract Try.prog 102 K_laws_eqCoinS := contract_of (C := X_laws_eqCoinS) (fn := Try.f102) (tysOk_at (C := X0) rfl tysOk) (ctxOk_of (P := Try.prog) ⟨c_laws_eqCoin, trivial⟩) follows Try.func102 b_laws_eqCoinS n_laws_eqCoinS (fun t ys h => (e_laws_eqCoinS t).trans h)
theorem b_laws_eqMember : Try.f159.body.isSome = true := by kernel_rfl
theorem n_laws_eqMember : (Try.f159.name == "runtime.NumGoroutine") = false := by kernel_rfl
theorem c_laws_eqMember : Contract Try.prog 159 K_laws_eqMember := contract_of (C := X_laws_eqMember) (fn := Try.f159) (tysOk_at (C := X0) rfl tysOk) (ctxOk_of (P := Try.prog) ⟨c_laws_eqRef, trivial⟩) follows Try.func159 b_laws_eqMember n_laws_eqMember (fun t ys h => (e_laws_eqMember t).trans h)
theorem b_laws_eqMemberS : Try.f103.body.isSome = true := by kernel_rfl
theorem n_laws_eqMemberS : (Try.f103.name == "runtime.NumGoroutine") = false := by kernel_rfl
theorem c_laws_eqMemberS : Contract Try.prog 103 K_laws_eqMemberS := contract_of (C := X_laws_eqMemberS) (fn := Try.f103) (tysOk_at (C := X0) rfl tysOk) (ctxOk_of (P := Try.prog) ⟨c_laws_eqMember, trivial⟩) follows Try.func103 b_laws_eqMemberS n_laws_eqMemberS (fun t ys h => (e_laws_eqMemberS t).trans h)
theorem b_laws_eqState : Try.f44.body.isSome = true := by kernel_rfl
theorem n_laws_eqState : (Try.f44.name == "runtime.NumGoroutine") = false := by kernel_rfl
theorem c_laws_eqState : Contract Try.prog 44 K_laws_eqState := contract_of (C := X_laws_eqState) (fn := Try.f44) (tysOk_at (C := X0) rfl tysOk) (ctxOk_of (P := Try.prog) ⟨c_laws_eqCoinS, c_laws_eqMemberS, trivial⟩) follows Try.func44 b_laws_eqState n_laws_eqState (fun t ys h => (e_laws_eqState t).trans h)
theorem b_laws_eqCoinSS : Try.f160.body.isSome = true := by kernel_rfl
theorem n_laws_eqCoinSS : (Try.f160.name == "runtime.NumGoroutine") = false := by kernel_rfl
theorem c_laws_eqCoinSS : Contract Try.prog 160 K_laws_eqCoinSS := contract_of (C := X_laws_eqCoinSS) (fn := Try.f160) (tysOk_at (C := X0) rfl tysOk) (ctxOk_of (P := Try.prog) ⟨c_laws_eqCoinS, trivial⟩) follows Try.func160 b_laws_eqCoinSS n_laws_eqCoinSS (fun t ys h => (e_laws_eqCoinSS t).trans h)
theorem b_laws_eqUndo : Try.f104.body.isSome = true := by kernel_rfl
theorem n_laws_eqUndo : (Try.f104.name == "runtime.NumGoroutine") = false := by kernel_rfl
theorem c_laws_eqUndo : Contract Try.prog 104 K_laws_eqUndo := contract_of (C := X_laws_eqUndo) (fn := Try.f104) (tysOk_at (C := X0) rfl tysOk) (ctxOk_of (P := Try.prog) ⟨c_laws_eqMemberS, c_laws_eqCoinSS, trivial⟩) follows Try.func104 b_laws_eqUndo n_laws_eqUndo (fun t ys h => (e_laws_eqUndo t).trans h)
theorem b_laws_eqUndoS : Try.f45.body.isSome = true := by kernel_rfl
theorem n_laws_eqUndoS : (Try.f45.name == "runtime.NumGoroutine") = false := by kernel_rfl
theorem c_laws_eqUndoS : Contract Try.prog 45 K_laws_eqUndoS := contract_of (C := X_laws_eqUndoS) (fn := Try.f45) (tysOk_at (C := X0) rfl tysOk) (ctxOk_of (P := Try.prog) ⟨c_laws_eqUndo, trivial⟩) follows Try.func45 b_laws_eqUndoS n_laws_eqUndoS (fun t ys h => (e_laws_eqUndoS t).trans h)
theorem b_laws_eqChain : Try.f10.body.isSome = true := by kernel_rfl
theorem n_laws_eqChain : (Try.f10.name == "runtime.NumGoroutine") = false := by kernel_rfl
theorem c_laws_eqChain : Contract Try.prog 10 K_laws_eqChain := contract_of (C := X_laws_eqChain) (fn := Try.f10) (tysOk_at (C := X0) rfl tysOk) (ctxOk_of (P := Try.prog) ⟨c_laws_eqLedger, c_laws_eqNodeS, c_laws_eqInt64S, c_laws_eqState, c_laws_eqUndoS, trivial⟩) follows Try.func10 b_laws_eqChain n_laws_eqChain (fun t ys h => (e_laws_eqChain t).trans h)
theorem b_laws_eqChainResult : Try.f15.body.isSome = true := by kernel_rfl
theorem n_laws_eqChainResult : (Try.f15.name == "runtime.NumGoroutine") = false := by kernel_rfl
theorem c_laws_eqChainResult : Contract Try.prog 15 K_laws_eqChainResult := contract_of (C := X_laws_eqChainResult) (fn := Try.f15) (tysOk_at (C := X0) rfl tysOk) (ctxOk_of (P := Try.prog) ⟨c_laws_eqChain, trivial⟩) follows Try.func15 b_laws_eqChainResult n_laws_eqChainResult (fun t ys h => (e_laws_eqChainResult t).trans h)
theorem b_laws_markText : Try.f116.body.isSome = true := by kernel_rfl
theorem n_laws_markText : (Try.f116.name == "runtime.NumGoroutine") = false := by kernel_rfl
theorem c_laws_markText : Contract Try.prog 116 K_laws_markText := contract_of (C := X_laws_markText) (fn := Try.f116) (tysOk_at (C := X0) rfl tysOk) (ctxOk_of (P := Try.prog) trivial) follows Try.func116 b_laws_markText n_laws_markText (fun t ys h => (e_laws_markText t).trans h)
theorem b_laws_markStringS : Try.f57.body.isSome = true := by kernel_rfl
theorem n_laws_markStringS : (Try.f57.name == "runtime.NumGoroutine") = false := by kernel_rfl
theorem c_laws_markStringS : Contract Try.prog 57 K_laws_markStringS := contract_of (C := X_laws_markStringS) (fn := Try.f57) (tysOk_at (C := X0) rfl tysOk) (ctxOk_of (P := Try.prog) ⟨c_laws_markText, trivial⟩) follows Try.func57 b_laws_markStringS n_laws_markStringS (fun t ys h => (e_laws_markStringS t).trans h)
theorem b_laws_markSignS : Try.f58.body.isSome = true := by kernel_rfl
theorem n_laws_markSignS : (Try.f58.name == "runtime.NumGoroutine") = false := by kernel_rfl
theorem c_laws_markSignS : Contract Try.prog 58 K_laws_markSignS := contract_of (C := X_laws_markSignS) (fn := Try.f58) (tysOk_at (C := X0) rfl tysOk) (ctxOk_of (P := Try.prog) trivial) follows Try.func58 b_laws_markSignS n_laws_markSignS (fun t ys h => (e_laws_markSignS t).trans h)
theorem b_laws_markLedger : Try.f17.body.isSome = true := by kernel_rfl
theorem n_laws_markLedger : (Try.f17.name == "runtime.NumGoroutine") = false := by kernel_rfl
theorem c_laws_markLedger : Contract Try.prog 17 K_laws_markLedger := contract_of (C := X_laws_markLedger) (fn := Try.f17) (tysOk_at (C := X0) rfl tysOk) (ctxOk_of (P := Try.prog) ⟨c_laws_markStringS, c_laws_markSignS, trivial⟩) follows Try.func17 b_laws_markLedger n_laws_markLedger (fun t ys h => (e_laws_markLedger t).trans h)
theorem b_laws_markNodeS : Try.f117.body.isSome = true := by kernel_rfl
theorem n_laws_markNodeS : (Try.f117.name == "runtime.NumGoroutine") = false := by kernel_rfl
theorem c_laws_markNodeS : Contract Try.prog 117 K_laws_markNodeS := contract_of (C := X_laws_markNodeS) (fn := Try.f117) (tysOk_at (C := X0) rfl tysOk) (ctxOk_of (P := Try.prog) trivial) follows Try.func117 b_laws_markNodeS n_laws_markNodeS (fun t ys h => (e_laws_markNodeS t).trans h)
theorem b_laws_markInt64S : Try.f118.body.isSome = true := by kernel_rfl
theorem n_laws_markInt64S : (Try.f118.name == "runtime.NumGoroutine") = false := by kernel_rfl
theorem c_laws_markInt64S : Contract Try.prog 118 K_laws_markInt64S := contract_of (C := X_laws_markInt64S) (fn := Try.f118) (tysOk_at (C := X0) rfl tysOk) (ctxOk_of (P := Try.prog) trivial) follows Try.func118 b_laws_markInt64S n_laws_markInt64S (fun t ys h => (e_laws_markInt64S t).trans h)
theorem b_laws_markCoinS : Try.f163.body.isSome = true := by kernel_rfl
theorem n_laws_markCoinS : (Try.f163.name == "runtime.NumGoroutine") = false := by kernel_rfl
theorem c_laws_markCoinS : Contract Try.prog 163 K_laws_markCoinS := contract_of (C := X_laws_markCoinS) (fn := Try.f163) (tysOk_at (C := X0) rfl tysOk) (ctxOk_of (P := Try.prog) ⟨c_laws_markInt64S, trivial⟩) follows Try.func163 b_laws_markCoinS n_laws_markCoinS (fun t ys h => (e_laws_markCoinS t).trans h)
theorem b_laws_markMemberS : Try.f164.body.isSome = true := by kernel_rfl
theorem n_laws_markMemberS : (Try.f164.name == "runtime.NumGoroutine") = false := by kernel_rfl
theorem c_laws_markMemberS : Contract Try.prog 164 K_laws_markMemberS := contract_of (C := X_laws_markMemberS) (fn := Try.f164) (tysOk_at (C := X0) rfl tysOk) (ctxOk_of (P := Try.prog) trivial) follows Try.func164 b_laws_markMemberS n_laws_markMemberS (fun t ys h => (e_laws_markMemberS t).trans h)
theorem b_laws_markState : Try.f119.body.isSome = true := by kernel_rfl
theorem n_laws_markState : (Try.f119.name == "runtime.NumGoroutine") = false := by kernel_rfl
theorem c_laws_markState : Contract Try.prog 119 K_laws_markState := contract_of (C := X_laws_markState) (fn := Try.f119) (tysOk_at (C := X0) rfl tysOk) (ctxOk_of (P := Try.prog) ⟨c_laws_markCoinS, c_laws_markMemberS, trivial⟩) follows Try.func119 b_laws_markState n_laws_markState (fun t ys h => (e_laws_markState t).trans h)
theorem b_laws_markCoinSS : Try.f165.body.isSome = true := by kernel_rfl
theorem n_laws_markCoinSS : (Try.f165.name == "runtime.NumGoroutine") = false := by kernel_rfl
theorem c_laws_markCoinSS : Contract Try.prog 165 K_laws_markCoinSS := contract_of (C := X_laws_markCoinSS) (fn := Try.f165) (tysOk_at (C := X0) rfl tysOk) (ctxOk_of (P := Try.prog) ⟨c_laws_markCoinS, trivial⟩) follows Try.func165 b_laws_markCoinSS n_laws_markCoinSS (fun t ys h => (e_laws_markCoinSS t).trans h)
theorem b_laws_markUndoS : Try.f120.body.isSome = true := by kernel_rfl
theorem n_laws_markUndoS : (Try.f120.name == "runtime.NumGoroutine") = false := by kernel_rfl
theorem c_laws_markUndoS : Contract Try.prog 120 K_laws_markUndoS := contract_of (C := X_laws_markUndoS) (fn := Try.f120) (tysOk_at (C := X0) rfl tysOk) (ctxOk_of (P := Try.prog) ⟨c_laws_markMemberS, c_laws_markCoinSS, trivial⟩) follows Try.func120 b_laws_markUndoS n_laws_markUndoS (fun t ys h => (e_laws_markUndoS t).trans h)
theorem b_laws_markChain : Try.f59.body.isSome = true := by kernel_rfl
theorem n_laws_markChain : (Try.f59.name == "runtime.NumGoroutine") = false := by kernel_rfl
theorem c_laws_markChain : Contract Try.prog 59 K_laws_markChain := contract_of (C := X_laws_markChain) (fn := Try.f59) (tysOk_at (C := X0) rfl tysOk) (ctxOk_of (P := Try.prog) ⟨c_laws_markLedger, c_laws_markNodeS, c_laws_markInt64S, c_laws_markState, c_laws_markUndoS, trivial⟩) follows Try.func59 b_laws_markChain n_laws_markChain (fun t ys h => (e_laws_markChain t).trans h)
theorem b_laws_markChainResult : Try.f18.body.isSome = true := by kernel_rfl
theorem n_laws_markChainResult : (Try.f18.name == "runtime.NumGoroutine") = false := by kernel_rfl
theorem c_laws_markChainResult : Contract Try.prog 18 K_laws_markChainResult := contract_of (C := X_laws_markChainResult) (fn := Try.f18) (tysOk_at (C := X0) rfl tysOk) (ctxOk_of (P := Try.prog) ⟨c_laws_markChain, trivial⟩) follows Try.func18 b_laws_markChainResult n_laws_markChainResult (fun t ys h => (e_laws_markChainResult t).trans h)
theorem b_laws_heldStringS : Try.f166.body.isSome = true := by kernel_rfl
theorem n_laws_heldStringS : (Try.f166.name == "runtime.NumGoroutine") = false := by kernel_rfl
theorem c_laws_heldStringS : Contract Try.prog 166 K_laws_heldStringS := contract_of (C := X_laws_heldStringS) (fn := Try.f166) (tysOk_at (C := X0) rfl tysOk) (ctxOk_of (P := Try.prog) ⟨c_laws_markText, trivial⟩) follows Try.func166 b_laws_heldStringS n_laws_heldStringS (fun t ys h => (e_laws_heldStringS t).trans h)
theorem b_laws_heldSignS : Try.f167.body.isSome = true := by kernel_rfl
theorem n_laws_heldSignS : (Try.f167.name == "runtime.NumGoroutine") = false := by kernel_rfl
theorem c_laws_heldSignS : Contract Try.prog 167 K_laws_heldSignS := contract_of (C := X_laws_heldSignS) (fn := Try.f167) (tysOk_at (C := X0) rfl tysOk) (ctxOk_of (P := Try.prog) trivial) follows Try.func167 b_laws_heldSignS n_laws_heldSignS (fun t ys h => (e_laws_heldSignS t).trans h)
theorem b_laws_heldLedger : Try.f121.body.isSome = true := by kernel_rfl
theorem n_laws_heldLedger : (Try.f121.name == "runtime.NumGoroutine") = false := by kernel_rfl
theorem c_laws_heldLedger : Contract Try.prog 121 K_laws_heldLedger := contract_of (C := X_laws_heldLedger) (fn := Try.f121) (tysOk_at (C := X0) rfl tysOk) (ctxOk_of (P := Try.prog) ⟨c_laws_heldStringS, c_laws_heldSignS, trivial⟩) follows Try.func121 b_laws_heldLedger n_laws_heldLedger (fun t ys h => (e_laws_heldLedger t).trans h)
theorem b_laws_heldNodeS : Try.f122.body.isSome = true := by kernel_rfl
theorem n_laws_heldNodeS : (Try.f122.name == "runtime.NumGoroutine") = false := by kernel_rfl
theorem c_laws_heldNodeS : Contract Try.prog 122 K_laws_heldNodeS := contract_of (C := X_laws_heldNodeS) (fn := Try.f122) (tysOk_at (C := X0) rfl tysOk) (ctxOk_of (P := Try.prog) trivial) follows Try.func122 b_laws_heldNodeS n_laws_heldNodeS (fun t ys h => (e_laws_heldNodeS t).trans h)
theorem b_laws_heldInt64S : Try.f123.body.isSome = true := by kernel_rfl
theorem n_laws_heldInt64S : (Try.f123.name == "runtime.NumGoroutine") = false := by kernel_rfl
theorem c_laws_heldInt64S : Contract Try.prog 123 K_laws_heldInt64S := contract_of (C := X_laws_heldInt64S) (fn := Try.f123) (tysOk_at (C := X0) rfl tysOk) (ctxOk_of (P := Try.prog) trivial) follows Try.func123 b_laws_heldInt64S n_laws_heldInt64S (fun t ys h => (e_laws_heldInt64S t).trans h)
theorem b_laws_heldCoinS : Try.f168.body.isSome = true := by kernel_rfl
theorem n_laws_heldCoinS : (Try.f168.name == "runtime.NumGoroutine") = false := by kernel_rfl
theorem c_laws_heldCoinS : Contract Try.prog 168 K_laws_heldCoinS := contract_of (C := X_laws_heldCoinS) (fn := Try.f168) (tysOk_at (C := X0) rfl tysOk) (ctxOk_of (P := Try.prog) ⟨c_laws_heldInt64S, trivial⟩) follows Try.func168 b_laws_heldCoinS n_laws_heldCoinS (fun t ys h => (e_laws_heldCoinS t).trans h)
theorem b_laws_heldMemberS : Try.f169.body.isSome = true := by kernel_rfl
theorem n_laws_heldMemberS : (Try.f169.name == "runtime.NumGoroutine") = false := by kernel_rfl
theorem c_laws_heldMemberS : Contract Try.prog 169 K_laws_heldMemberS := contract_of (C := X_laws_heldMemberS) (fn := Try.f169) (tysOk_at (C := X0) rfl tysOk) (ctxOk_of (P := Try.prog) trivial) follows Try.func169 b_laws_heldMemberS n_laws_heldMemberS (fun t ys h => (e_laws_heldMemberS t).trans h)
theorem b_laws_heldState : Try.f124.body.isSome = true := by kernel_rfl
theorem n_laws_heldState : (Try.f124.name == "runtime.NumGoroutine") = false := by kernel_rfl
theorem c_laws_heldState : Contract Try.prog 124 K_laws_heldState := contract_of (C := X_laws_heldState) (fn := Try.f124) (tysOk_at (C := X0) rfl tysOk) (ctxOk_of (P := Try.prog) ⟨c_laws_heldCoinS, c_laws_heldMemberS, trivial⟩) follows Try.func124 b_laws_heldState n_laws_heldState (fun t ys h => (e_laws_heldState t).trans h)
theorem b_laws_heldCoinSS : Try.f170.body.isSome = true := by kernel_rfl
theorem n_laws_heldCoinSS : (Try.f170.name == "runtime.NumGoroutine") = false := by kernel_rfl
theorem c_laws_heldCoinSS : Contract Try.prog 170 K_laws_heldCoinSS := contract_of (C := X_laws_heldCoinSS) (fn := Try.f170) (tysOk_at (C := X0) rfl tysOk) (ctxOk_of (P := Try.prog) ⟨c_laws_heldCoinS, trivial⟩) follows Try.func170 b_laws_heldCoinSS n_laws_heldCoinSS (fun t ys h => (e_laws_heldCoinSS t).trans h)
theorem b_laws_heldUndoS : Try.f125.body.isSome = true := by kernel_rfl
theorem n_laws_heldUndoS : (Try.f125.name == "runtime.NumGoroutine") = false := by kernel_rfl
theorem c_laws_heldUndoS : Contract Try.prog 125 K_laws_heldUndoS := contract_of (C := X_laws_heldUndoS) (fn := Try.f125) (tysOk_at (C := X0) rfl tysOk) (ctxOk_of (P := Try.prog) ⟨c_laws_heldMemberS, c_laws_heldCoinSS, trivial⟩) follows Try.func125 b_laws_heldUndoS n_laws_heldUndoS (fun t ys h => (e_laws_heldUndoS t).trans h)
theorem b_laws_heldChain : Try.f60.body.isSome = true := by kernel_rfl
theorem n_laws_heldChain : (Try.f60.name == "runtime.NumGoroutine") = false := by kernel_rfl
theorem c_laws_heldChain : Contract Try.prog 60 K_laws_heldChain := contract_of (C := X_laws_heldChain) (fn := Try.f60) (tysOk_at (C := X0) rfl tysOk) (ctxOk_of (P := Try.prog) ⟨c_laws_heldLedger, c_laws_heldNodeS, c_laws_heldInt64S, c_laws_heldState, c_laws_heldUndoS, trivial⟩) follows Try.func60 b_laws_heldChain n_laws_heldChain (fun t ys h => (e_laws_heldChain t).trans h)
theorem b_laws_heldChainResult : Try.f19.body.isSome = true := by kernel_rfl
theorem n_laws_heldChainResult : (Try.f19.name == "runtime.NumGoroutine") = false := by kernel_rfl
theorem c_laws_heldChainResult : Contract Try.prog 19 K_laws_heldChainResult := contract_of (C := X_laws_heldChainResult) (fn := Try.f19) (tysOk_at (C := X0) rfl tysOk) (ctxOk_of (P := Try.prog) ⟨c_laws_heldChain, trivial⟩) follows Try.func19 b_laws_heldChainResult n_laws_heldChainResult (fun t ys h => (e_laws_heldChainResult t).trans h)
theorem b_laws_FnExactNewChain : Try.f4.body.isSome = true := by kernel_rfl
theorem n_laws_FnExactNewChain : (Try.f4.name == "runtime.NumGoroutine") = false := by kernel_rfl
theorem c_laws_FnExactNewChain : Contract Try.prog 4 K_laws_FnExactNewChain := contract_of (C := X_laws_FnExactNewChain) (fn := Try.f4) (tysOk_at (C := X0) rfl tysOk) (ctxOk_of (P := Try.prog) ⟨c_laws_szLedger, c_spec_NewChain, c_laws_toLedger, c_impl_NewChain, c_laws_eqChainResult, c_laws_eqLedger, c_laws_markLedger, c_laws_markChainResult, c_laws_heldChainResult, trivial⟩) follows Try.func4 b_laws_FnExactNewChain n_laws_FnExactNewChain (fun t ys h => (e_laws_FnExactNewChain t).trans h)
end NC
end Go.Dx
