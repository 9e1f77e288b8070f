/- The executor finds what each function computes: by computation -/
import Derived.Test.YtdlnpjjdenahoaaSca
set_option linter.unusedVariables false
set_option linter.unusedSimpArgs false
set_option maxRecDepth 100000
set_option maxHeartbeats 0
namespace Go.Dx
open Go.Proofs
namespace NC

theorem e_impl_LedgerFault (t : TupI (K_impl_LedgerFault.ins.map PS.sh)) : runF X_impl_LedgerFault Try.f53 K_impl_LedgerFault t = K_impl_LedgerFault.F t := by kernel_rfl
theorem e_laws_eqCoinSS (t : TupI (K_laws_eqCoinSS.ins.map PS.sh)) : runF X_laws_eqCoinSS Try.f160 K_laws_eqCoinSS t = K_laws_eqCoinSS.F t := by kernel_rfl
theorem e_laws_eqNodeS (t : TupI (K_laws_eqNodeS.ins.map PS.sh)) : runF X_laws_eqNodeS Try.f42 K_laws_eqNodeS t = K_laws_eqNodeS.F t := by kernel_rfl
theorem e_laws_heldMemberS (t : TupI (K_laws_heldMemberS.ins.map PS.sh)) : runF X_laws_heldMemberS Try.f169 K_laws_heldMemberS t = K_laws_heldMemberS.F t := by kernel_rfl
theorem e_laws_markState (t : TupI (K_laws_markState.ins.map PS.sh)) : runF X_laws_markState Try.f119 K_laws_markState t = K_laws_markState.F t := by kernel_rfl
theorem e_laws_heldSignS (t : TupI (K_laws_heldSignS.ins.map PS.sh)) : runF X_laws_heldSignS Try.f167 K_laws_heldSignS t = K_laws_heldSignS.F t := by kernel_rfl
theorem e_laws_szStringS (t : TupI (K_laws_szStringS.ins.map PS.sh)) : runF X_laws_szStringS Try.f46 K_laws_szStringS t = K_laws_szStringS.F t := by kernel_rfl
theorem e_impl_ownLedger (t : TupI (K_impl_ownLedger.ins.map PS.sh)) : runF X_impl_ownLedger Try.f54 K_impl_ownLedger t = K_impl_ownLedger.F t := by kernel_rfl
theorem e_laws_eqRef (t : TupI (K_laws_eqRef.ins.map PS.sh)) : runF X_laws_eqRef Try.f196 K_laws_eqRef t = K_laws_eqRef.F t := by kernel_rfl
theorem e_laws_markCoinSS (t : TupI (K_laws_markCoinSS.ins.map PS.sh)) : runF X_laws_markCoinSS Try.f165 K_laws_markCoinSS t = K_laws_markCoinSS.F t := by kernel_rfl
theorem e_laws_eqRule (t : TupI (K_laws_eqRule.ins.map PS.sh)) : runF X_laws_eqRule Try.f212 K_laws_eqRule t = K_laws_eqRule.F t := by kernel_rfl
theorem e_laws_eqChainResult (t : TupI (K_laws_eqChainResult.ins.map PS.sh)) : runF X_laws_eqChainResult Try.f15 K_laws_eqChainResult t = K_laws_eqChainResult.F t := by kernel_rfl
theorem e_laws_heldCoinSS (t : TupI (K_laws_heldCoinSS.ins.map PS.sh)) : runF X_laws_heldCoinSS Try.f170 K_laws_heldCoinSS t = K_laws_heldCoinSS.F t := by kernel_rfl
theorem e_laws_toLedger (t : TupI (K_laws_toLedger.ins.map PS.sh)) : runF X_laws_toLedger Try.f13 K_laws_toLedger t = K_laws_toLedger.F t := by kernel_rfl
theorem e_laws_toSign (t : TupI (K_laws_toSign.ins.map PS.sh)) : runF X_laws_toSign Try.f108 K_laws_toSign t = K_laws_toSign.F t := by kernel_rfl
theorem e_spec_l15Bad (t : TupI (K_spec_l15Bad.ins.map PS.sh)) : runF X_spec_l15Bad Try.f49 K_spec_l15Bad t = K_spec_l15Bad.F t := by kernel_rfl
theorem e_laws_heldInt64S (t : TupI (K_laws_heldInt64S.ins.map PS.sh)) : runF X_laws_heldInt64S Try.f123 K_laws_heldInt64S t = K_laws_heldInt64S.F t := by kernel_rfl
theorem e_spec_l1In (t : TupI (K_spec_l1In.ins.map PS.sh)) : runF X_spec_l1In Try.f76 K_spec_l1In t = K_spec_l1In.F t := by kernel_rfl
end NC
end Go.Dx
