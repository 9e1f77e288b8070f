/- The executor finds what each function computes: by computation -/
import Derived.Test.YtdlnpjjdenahoaaSca
set_option linter.unusedVariables false
set_option linter.unusedSimpArgs false
set_option maxRecDepth 100000
set_option maxHeartbeats 0
namespace Go.Dx
open Go.Proofs
namespace SC
theorem e_laws_szStringS (t : TupI (K_laws_szStringS.ins.map PS.sh)) : runF X_laws_szStringS Try.f46 K_laws_szStringS t = K_laws_szStringS.F t := by kernel_rfl
end SC
end Go.Dx

set_option maxRecDepth 100000
set_option maxHeartbeats 0
namespace Go.Dx
open Go.Proofs
namespace SC
theorem e_laws_szSignS (t : TupI (K_laws_szSignS.ins.map PS.sh)) : runF X_laws_szSignS Try.f47 K_laws_szSignS t = K_laws_szSignS.F t := by kernel_rfl
end SC
end Go.Dx

set_option maxRecDepth 100000
set_option maxHeartbeats 0
namespace Go.Dx
open Go.Proofs
namespace SC
theorem e_laws_szLedger (t : TupI (K_laws_szLedger.ins.map PS.sh)) : runF X_laws_szLedger Try.f11 K_laws_szLedger t = K_laws_szLedger.F t := by kernel_rfl
end SC
end Go.Dx

set_option maxRecDepth 100000
set_option maxHeartbeats 0
namespace Go.Dx
open Go.Proofs
namespace SC
theorem e_laws_szNodeS (t : TupI (K_laws_szNodeS.ins.map PS.sh)) : runF X_laws_szNodeS Try.f29 K_laws_szNodeS t = K_laws_szNodeS.F t := by kernel_rfl
end SC
end Go.Dx

set_option maxRecDepth 100000
set_option maxHeartbeats 0
namespace Go.Dx
open Go.Proofs
namespace SC
theorem e_laws_szInt64S (t : TupI (K_laws_szInt64S.ins.map PS.sh)) : runF X_laws_szInt64S Try.f30 K_laws_szInt64S t = K_laws_szInt64S.F t := by kernel_rfl
end SC
end Go.Dx

set_option maxRecDepth 100000
set_option maxHeartbeats 0
namespace Go.Dx
open Go.Proofs
namespace SC
theorem e_laws_szRule (t : TupI (K_laws_szRule.ins.map PS.sh)) : runF X_laws_szRule Try.f209 K_laws_szRule t = K_laws_szRule.F t := by kernel_rfl
end SC
end Go.Dx

set_option maxRecDepth 100000
set_option maxHeartbeats 0
namespace Go.Dx
open Go.Proofs
namespace SC
theorem e_laws_szOut (t : TupI (K_laws_szOut.ins.map PS.sh)) : runF X_laws_szOut Try.f192 K_laws_szOut t = K_laws_szOut.F t := by kernel_rfl
end SC
end Go.Dx

set_option maxRecDepth 100000
set_option maxHeartbeats 0
namespace Go.Dx
open Go.Proofs
namespace SC
theorem e_laws_szCoin (t : TupI (K_laws_szCoin.ins.map PS.sh)) : runF X_laws_szCoin Try.f149 K_laws_szCoin t = K_laws_szCoin.F t := by kernel_rfl
end SC
end Go.Dx

set_option maxRecDepth 100000
set_option maxHeartbeats 0
namespace Go.Dx
open Go.Proofs
namespace SC
theorem e_laws_szCoinS (t : TupI (K_laws_szCoinS.ins.map PS.sh)) : runF X_laws_szCoinS Try.f90 K_laws_szCoinS t = K_laws_szCoinS.F t := by kernel_rfl
end SC
end Go.Dx

set_option maxRecDepth 100000
set_option maxHeartbeats 0
namespace Go.Dx
open Go.Proofs
namespace SC
theorem e_laws_szMemberS (t : TupI (K_laws_szMemberS.ins.map PS.sh)) : runF X_laws_szMemberS Try.f91 K_laws_szMemberS t = K_laws_szMemberS.F t := by kernel_rfl
end SC
end Go.Dx

set_option maxRecDepth 100000
set_option maxHeartbeats 0
namespace Go.Dx
open Go.Proofs
namespace SC
theorem e_laws_szState (t : TupI (K_laws_szState.ins.map PS.sh)) : runF X_laws_szState Try.f31 K_laws_szState t = K_laws_szState.F t := by kernel_rfl
end SC
end Go.Dx

set_option maxRecDepth 100000
set_option maxHeartbeats 0
namespace Go.Dx
open Go.Proofs
namespace SC
theorem e_laws_szCoinSS (t : TupI (K_laws_szCoinSS.ins.map PS.sh)) : runF X_laws_szCoinSS Try.f150 K_laws_szCoinSS t = K_laws_szCoinSS.F t := by kernel_rfl
end SC
end Go.Dx

set_option maxRecDepth 100000
set_option maxHeartbeats 0
namespace Go.Dx
open Go.Proofs
namespace SC
theorem e_laws_szUndo (t : TupI (K_laws_szUndo.ins.map PS.sh)) : runF X_laws_szUndo Try.f92 K_laws_szUndo t = K_laws_szUndo.F t := by kernel_rfl
end SC
end Go.Dx

set_option maxRecDepth 100000
set_option maxHeartbeats 0
namespace Go.Dx
open Go.Proofs
namespace SC
theorem e_laws_szUndoS (t : TupI (K_laws_szUndoS.ins.map PS.sh)) : runF X_laws_szUndoS Try.f32 K_laws_szUndoS t = K_laws_szUndoS.F t := by kernel_rfl
end SC
end Go.Dx

set_option maxRecDepth 100000
set_option maxHeartbeats 0
namespace Go.Dx
open Go.Proofs
namespace SC
theorem e_laws_szChain (t : TupI (K_laws_szChain.ins.map PS.sh)) : runF X_laws_szChain Try.f6 K_laws_szChain t = K_laws_szChain.F t := by kernel_rfl
end SC
end Go.Dx

set_option maxRecDepth 100000
set_option maxHeartbeats 0
namespace Go.Dx
open Go.Proofs
namespace SC
theorem e_spec_l2Ints (t : TupI (K_spec_l2Ints.ins.map PS.sh)) : runF X_spec_l2Ints Try.f34 K_spec_l2Ints t = K_spec_l2Ints.F t := by kernel_rfl
end SC
end Go.Dx

set_option maxRecDepth 100000
set_option maxHeartbeats 0
namespace Go.Dx
open Go.Proofs
namespace SC
theorem e_spec_l2Same (t : TupI (K_spec_l2Same.ins.map PS.sh)) : runF X_spec_l2Same Try.f151 K_spec_l2Same t = K_spec_l2Same.F t := by kernel_rfl
end SC
end Go.Dx

set_option maxRecDepth 100000
set_option maxHeartbeats 0
namespace Go.Dx
open Go.Proofs
namespace SC
theorem e_spec_l6Same (t : TupI (K_spec_l6Same.ins.map PS.sh)) : runF X_spec_l6Same Try.f94 K_spec_l6Same t = K_spec_l6Same.F t := by kernel_rfl
end SC
end Go.Dx

set_option maxRecDepth 100000
set_option maxHeartbeats 0
namespace Go.Dx
open Go.Proofs
namespace SC
theorem e_spec_SameChains (t : TupI (K_spec_SameChains.ins.map PS.sh)) : runF X_spec_SameChains Try.f7 K_spec_SameChains t = K_spec_SameChains.F t := by kernel_rfl
end SC
end Go.Dx

set_option maxRecDepth 100000
set_option maxHeartbeats 0
namespace Go.Dx
open Go.Proofs
namespace SC
theorem e_laws_toStringS (t : TupI (K_laws_toStringS.ins.map PS.sh)) : runF X_laws_toStringS Try.f51 K_laws_toStringS t = K_laws_toStringS.F t := by kernel_rfl
end SC
end Go.Dx

set_option maxRecDepth 100000
set_option maxHeartbeats 0
namespace Go.Dx
open Go.Proofs
namespace SC
theorem e_laws_toSign (t : TupI (K_laws_toSign.ins.map PS.sh)) : runF X_laws_toSign Try.f108 K_laws_toSign t = K_laws_toSign.F t := by kernel_rfl
end SC
end Go.Dx

set_option maxRecDepth 100000
set_option maxHeartbeats 0
namespace Go.Dx
open Go.Proofs
namespace SC
theorem e_laws_toSignS (t : TupI (K_laws_toSignS.ins.map PS.sh)) : runF X_laws_toSignS Try.f52 K_laws_toSignS t = K_laws_toSignS.F t := by kernel_rfl
end SC
end Go.Dx

set_option maxRecDepth 100000
set_option maxHeartbeats 0
namespace Go.Dx
open Go.Proofs
namespace SC
theorem e_laws_toLedger (t : TupI (K_laws_toLedger.ins.map PS.sh)) : runF X_laws_toLedger Try.f13 K_laws_toLedger t = K_laws_toLedger.F t := by kernel_rfl
end SC
end Go.Dx

set_option maxRecDepth 100000
set_option maxHeartbeats 0
namespace Go.Dx
open Go.Proofs
namespace SC
theorem e_laws_toNode (t : TupI (K_laws_toNode.ins.map PS.sh)) : runF X_laws_toNode Try.f95 K_laws_toNode t = K_laws_toNode.F t := by kernel_rfl
end SC
end Go.Dx

set_option maxRecDepth 100000
set_option maxHeartbeats 0
namespace Go.Dx
open Go.Proofs
namespace SC
theorem e_laws_toNodeS (t : TupI (K_laws_toNodeS.ins.map PS.sh)) : runF X_laws_toNodeS Try.f35 K_laws_toNodeS t = K_laws_toNodeS.F t := by kernel_rfl
end SC
end Go.Dx

set_option maxRecDepth 100000
set_option maxHeartbeats 0
namespace Go.Dx
open Go.Proofs
namespace SC
theorem e_laws_toInt64S (t : TupI (K_laws_toInt64S.ins.map PS.sh)) : runF X_laws_toInt64S Try.f36 K_laws_toInt64S t = K_laws_toInt64S.F t := by kernel_rfl
end SC
end Go.Dx

set_option maxRecDepth 100000
set_option maxHeartbeats 0
namespace Go.Dx
open Go.Proofs
namespace SC
theorem e_laws_toRef (t : TupI (K_laws_toRef.ins.map PS.sh)) : runF X_laws_toRef Try.f193 K_laws_toRef t = K_laws_toRef.F t := by kernel_rfl
end SC
end Go.Dx

set_option maxRecDepth 100000
set_option maxHeartbeats 0
namespace Go.Dx
open Go.Proofs
namespace SC
theorem e_laws_toRule (t : TupI (K_laws_toRule.ins.map PS.sh)) : runF X_laws_toRule Try.f210 K_laws_toRule t = K_laws_toRule.F t := by kernel_rfl
end SC
end Go.Dx

set_option maxRecDepth 100000
set_option maxHeartbeats 0
namespace Go.Dx
open Go.Proofs
namespace SC
theorem e_laws_toOut (t : TupI (K_laws_toOut.ins.map PS.sh)) : runF X_laws_toOut Try.f194 K_laws_toOut t = K_laws_toOut.F t := by kernel_rfl
end SC
end Go.Dx

set_option maxRecDepth 100000
set_option maxHeartbeats 0
namespace Go.Dx
open Go.Proofs
namespace SC
theorem e_laws_toCoin (t : TupI (K_laws_toCoin.ins.map PS.sh)) : runF X_laws_toCoin Try.f152 K_laws_toCoin t = K_laws_toCoin.F t := by kernel_rfl
end SC
end Go.Dx

set_option maxRecDepth 100000
set_option maxHeartbeats 0
namespace Go.Dx
open Go.Proofs
namespace SC
theorem e_laws_toCoinS (t : TupI (K_laws_toCoinS.ins.map PS.sh)) : runF X_laws_toCoinS Try.f96 K_laws_toCoinS t = K_laws_toCoinS.F t := by kernel_rfl
end SC
end Go.Dx

set_option maxRecDepth 100000
set_option maxHeartbeats 0
namespace Go.Dx
open Go.Proofs
namespace SC
theorem e_laws_toMember (t : TupI (K_laws_toMember.ins.map PS.sh)) : runF X_laws_toMember Try.f153 K_laws_toMember t = K_laws_toMember.F t := by kernel_rfl
end SC
end Go.Dx

set_option maxRecDepth 100000
set_option maxHeartbeats 0
namespace Go.Dx
open Go.Proofs
namespace SC
theorem e_laws_toMemberS (t : TupI (K_laws_toMemberS.ins.map PS.sh)) : runF X_laws_toMemberS Try.f97 K_laws_toMemberS t = K_laws_toMemberS.F t := by kernel_rfl
end SC
end Go.Dx

set_option maxRecDepth 100000
set_option maxHeartbeats 0
namespace Go.Dx
open Go.Proofs
namespace SC
theorem e_laws_toState (t : TupI (K_laws_toState.ins.map PS.sh)) : runF X_laws_toState Try.f37 K_laws_toState t = K_laws_toState.F t := by kernel_rfl
end SC
end Go.Dx

set_option maxRecDepth 100000
set_option maxHeartbeats 0
namespace Go.Dx
open Go.Proofs
namespace SC
theorem e_laws_toCoinSS (t : TupI (K_laws_toCoinSS.ins.map PS.sh)) : runF X_laws_toCoinSS Try.f154 K_laws_toCoinSS t = K_laws_toCoinSS.F t := by kernel_rfl
end SC
end Go.Dx

set_option maxRecDepth 100000
set_option maxHeartbeats 0
namespace Go.Dx
open Go.Proofs
namespace SC
theorem e_laws_toUndo (t : TupI (K_laws_toUndo.ins.map PS.sh)) : runF X_laws_toUndo Try.f98 K_laws_toUndo t = K_laws_toUndo.F t := by kernel_rfl
end SC
end Go.Dx

set_option maxRecDepth 100000
set_option maxHeartbeats 0
namespace Go.Dx
open Go.Proofs
namespace SC
theorem e_laws_toUndoS (t : TupI (K_laws_toUndoS.ins.map PS.sh)) : runF X_laws_toUndoS Try.f38 K_laws_toUndoS t = K_laws_toUndoS.F t := by kernel_rfl
end SC
end Go.Dx

set_option maxRecDepth 100000
set_option maxHeartbeats 0
namespace Go.Dx
open Go.Proofs
namespace SC
theorem e_laws_toChain (t : TupI (K_laws_toChain.ins.map PS.sh)) : runF X_laws_toChain Try.f8 K_laws_toChain t = K_laws_toChain.F t := by kernel_rfl
end SC
end Go.Dx

set_option maxRecDepth 100000
set_option maxHeartbeats 0
namespace Go.Dx
open Go.Proofs
namespace SC
theorem e_slices_EqualFunc_Limpl_Coin_Limpl_Coin_impl_Coin_impl_Coin (t : TupI (K_slices_EqualFunc_Limpl_Coin_Limpl_Coin_impl_Coin_impl_Coin.ins.map PS.sh)) : runF X_slices_EqualFunc_Limpl_Coin_Limpl_Coin_impl_Coin_impl_Coin Try.f155 K_slices_EqualFunc_Limpl_Coin_Limpl_Coin_impl_Coin_impl_Coin t = K_slices_EqualFunc_Limpl_Coin_Limpl_Coin_impl_Coin_impl_Coin.F t := by kernel_rfl
end SC
end Go.Dx

set_option maxRecDepth 100000
set_option maxHeartbeats 0
namespace Go.Dx
open Go.Proofs
namespace SC
theorem e_slices_Equal_Lint64_int64 (t : TupI (K_slices_Equal_Lint64_int64.ins.map PS.sh)) : runF X_slices_Equal_Lint64_int64 Try.f41 K_slices_Equal_Lint64_int64 t = K_slices_Equal_Lint64_int64.F t := by kernel_rfl
end SC
end Go.Dx

set_option maxRecDepth 100000
set_option maxHeartbeats 0
namespace Go.Dx
open Go.Proofs
namespace SC
theorem e_impl_SameRules (t : TupI (K_impl_SameRules.ins.map PS.sh)) : runF X_impl_SameRules Try.f211 K_impl_SameRules t = K_impl_SameRules.F t := by kernel_rfl
end SC
end Go.Dx

set_option maxRecDepth 100000
set_option maxHeartbeats 0
namespace Go.Dx
open Go.Proofs
namespace SC
theorem e_impl_sameOuts (t : TupI (K_impl_sameOuts.ins.map PS.sh)) : runF X_impl_sameOuts Try.f195 K_impl_sameOuts t = K_impl_sameOuts.F t := by kernel_rfl
end SC
end Go.Dx

set_option maxRecDepth 100000
set_option maxHeartbeats 0
namespace Go.Dx
open Go.Proofs
namespace SC
theorem e_impl_sameCoin (t : TupI (K_impl_sameCoin.ins.map PS.sh)) : runF X_impl_sameCoin Try.f156 K_impl_sameCoin t = K_impl_sameCoin.F t := by kernel_rfl
end SC
end Go.Dx

set_option maxRecDepth 100000
set_option maxHeartbeats 0
namespace Go.Dx
open Go.Proofs
namespace SC
theorem e_impl_SameCoins (t : TupI (K_impl_SameCoins.ins.map PS.sh)) : runF X_impl_SameCoins Try.f99 K_impl_SameCoins t = K_impl_SameCoins.F t := by kernel_rfl
end SC
end Go.Dx

set_option maxRecDepth 100000
set_option maxHeartbeats 0
namespace Go.Dx
open Go.Proofs
namespace SC
theorem e_slices_Equal_Limpl_Member_impl_Member (t : TupI (K_slices_Equal_Limpl_Member_impl_Member.ins.map PS.sh)) : runF X_slices_Equal_Limpl_Member_impl_Member Try.f157 K_slices_Equal_Limpl_Member_impl_Member t = K_slices_Equal_Limpl_Member_impl_Member.F t := by kernel_rfl
end SC
end Go.Dx

set_option maxRecDepth 100000
set_option maxHeartbeats 0
namespace Go.Dx
open Go.Proofs
namespace SC
theorem e_impl_SameMembers (t : TupI (K_impl_SameMembers.ins.map PS.sh)) : runF X_impl_SameMembers Try.f100 K_impl_SameMembers t = K_impl_SameMembers.F t := by kernel_rfl
end SC
end Go.Dx

set_option maxRecDepth 100000
set_option maxHeartbeats 0
namespace Go.Dx
open Go.Proofs
namespace SC
theorem e_impl_SameStates (t : TupI (K_impl_SameStates.ins.map PS.sh)) : runF X_impl_SameStates Try.f39 K_impl_SameStates t = K_impl_SameStates.F t := by kernel_rfl
end SC
end Go.Dx

set_option maxRecDepth 100000
set_option maxHeartbeats 0
namespace Go.Dx
open Go.Proofs
namespace SC
theorem e_slices_Equal_Limpl_Node_impl_Node (t : TupI (K_slices_Equal_Limpl_Node_impl_Node.ins.map PS.sh)) : runF X_slices_Equal_Limpl_Node_impl_Node Try.f40 K_slices_Equal_Limpl_Node_impl_Node t = K_slices_Equal_Limpl_Node_impl_Node.F t := by kernel_rfl
end SC
end Go.Dx

set_option maxRecDepth 100000
set_option maxHeartbeats 0
namespace Go.Dx
open Go.Proofs
namespace SC
theorem e_impl_SameChains (t : TupI (K_impl_SameChains.ins.map PS.sh)) : runF X_impl_SameChains Try.f9 K_impl_SameChains t = K_impl_SameChains.F t := by kernel_rfl
end SC
end Go.Dx

set_option maxRecDepth 100000
set_option maxHeartbeats 0
namespace Go.Dx
open Go.Proofs
namespace SC
theorem e_laws_eqStringS (t : TupI (K_laws_eqStringS.ins.map PS.sh)) : runF X_laws_eqStringS Try.f55 K_laws_eqStringS t = K_laws_eqStringS.F t := by kernel_rfl
end SC
end Go.Dx

set_option maxRecDepth 100000
set_option maxHeartbeats 0
namespace Go.Dx
open Go.Proofs
namespace SC
theorem e_laws_eqSign (t : TupI (K_laws_eqSign.ins.map PS.sh)) : runF X_laws_eqSign Try.f115 K_laws_eqSign t = K_laws_eqSign.F t := by kernel_rfl
end SC
end Go.Dx

set_option maxRecDepth 100000
set_option maxHeartbeats 0
namespace Go.Dx
open Go.Proofs
namespace SC
theorem e_laws_eqSignS (t : TupI (K_laws_eqSignS.ins.map PS.sh)) : runF X_laws_eqSignS Try.f56 K_laws_eqSignS t = K_laws_eqSignS.F t := by kernel_rfl
end SC
end Go.Dx

set_option maxRecDepth 100000
set_option maxHeartbeats 0
namespace Go.Dx
open Go.Proofs
namespace SC
theorem e_laws_eqLedger (t : TupI (K_laws_eqLedger.ins.map PS.sh)) : runF X_laws_eqLedger Try.f16 K_laws_eqLedger t = K_laws_eqLedger.F t := by kernel_rfl
end SC
end Go.Dx

set_option maxRecDepth 100000
set_option maxHeartbeats 0
namespace Go.Dx
open Go.Proofs
namespace SC
theorem e_laws_eqNode (t : TupI (K_laws_eqNode.ins.map PS.sh)) : runF X_laws_eqNode Try.f101 K_laws_eqNode t = K_laws_eqNode.F t := by kernel_rfl
end SC
end Go.Dx

set_option maxRecDepth 100000
set_option maxHeartbeats 0
namespace Go.Dx
open Go.Proofs
namespace SC
theorem e_laws_eqNodeS (t : TupI (K_laws_eqNodeS.ins.map PS.sh)) : runF X_laws_eqNodeS Try.f42 K_laws_eqNodeS t = K_laws_eqNodeS.F t := by kernel_rfl
end SC
end Go.Dx

set_option maxRecDepth 100000
set_option maxHeartbeats 0
namespace Go.Dx
open Go.Proofs
namespace SC
theorem e_laws_eqInt64S (t : TupI (K_laws_eqInt64S.ins.map PS.sh)) : runF X_laws_eqInt64S Try.f43 K_laws_eqInt64S t = K_laws_eqInt64S.F t := by kernel_rfl
end SC
end Go.Dx

set_option maxRecDepth 100000
set_option maxHeartbeats 0
namespace Go.Dx
open Go.Proofs
namespace SC
theorem e_laws_eqRef (t : TupI (K_laws_eqRef.ins.map PS.sh)) : runF X_laws_eqRef Try.f196 K_laws_eqRef t = K_laws_eqRef.F t := by kernel_rfl
end SC
end Go.Dx

set_option maxRecDepth 100000
set_option maxHeartbeats 0
namespace Go.Dx
open Go.Proofs
namespace SC
theorem e_laws_eqRule (t : TupI (K_laws_eqRule.ins.map PS.sh)) : runF X_laws_eqRule Try.f212 K_laws_eqRule t = K_laws_eqRule.F t := by kernel_rfl
end SC
end Go.Dx

set_option maxRecDepth 100000
set_option maxHeartbeats 0
namespace Go.Dx
open Go.Proofs
namespace SC
theorem e_laws_eqOut (t : TupI (K_laws_eqOut.ins.map PS.sh)) : runF X_laws_eqOut Try.f197 K_laws_eqOut t = K_laws_eqOut.F t := by kernel_rfl
end SC
end Go.Dx

set_option maxRecDepth 100000
set_option maxHeartbeats 0
namespace Go.Dx
open Go.Proofs
namespace SC
theorem e_laws_eqCoin (t : TupI (K_laws_eqCoin.ins.map PS.sh)) : runF X_laws_eqCoin Try.f158 K_laws_eqCoin t = K_laws_eqCoin.F t := by kernel_rfl
end SC
end Go.Dx

set_option maxRecDepth 100000
set_option maxHeartbeats 0
namespace Go.Dx
open Go.Proofs
namespace SC
theorem e_laws_eqCoinS (t : TupI (K_laws_eqCoinS.ins.map PS.sh)) : runF X_laws_eqCoinS Try.f102 K_laws_eqCoinS t = K_laws_eqCoinS.F t := by kernel_rfl
end SC
end Go.Dx

set_option maxRecDepth 100000
set_option maxHeartbeats 0
namespace Go.Dx
open Go.Proofs
namespace SC
theorem e_laws_eqMember (t : TupI (K_laws_eqMember.ins.map PS.sh)) : runF X_laws_eqMember Try.f159 K_laws_eqMember t = K_laws_eqMember.F t := by kernel_rfl
end SC
end Go.Dx

set_option maxRecDepth 100000
set_option maxHeartbeats 0
namespace Go.Dx
open Go.Proofs
namespace SC
theorem e_laws_eqMemberS (t : TupI (K_laws_eqMemberS.ins.map PS.sh)) : runF X_laws_eqMemberS Try.f103 K_laws_eqMemberS t = K_laws_eqMemberS.F t := by kernel_rfl
end SC
end Go.Dx

set_option maxRecDepth 100000
set_option maxHeartbeats 0
namespace Go.Dx
open Go.Proofs
namespace SC
theorem e_laws_eqState (t : TupI (K_laws_eqState.ins.map PS.sh)) : runF X_laws_eqState Try.f44 K_laws_eqState t = K_laws_eqState.F t := by kernel_rfl
end SC
end Go.Dx

set_option maxRecDepth 100000
set_option maxHeartbeats 0
namespace Go.Dx
open Go.Proofs
namespace SC
theorem e_laws_eqCoinSS (t : TupI (K_laws_eqCoinSS.ins.map PS.sh)) : runF X_laws_eqCoinSS Try.f160 K_laws_eqCoinSS t = K_laws_eqCoinSS.F t := by kernel_rfl
end SC
end Go.Dx

set_option maxRecDepth 100000
set_option maxHeartbeats 0
namespace Go.Dx
open Go.Proofs
namespace SC
theorem e_laws_eqUndo (t : TupI (K_laws_eqUndo.ins.map PS.sh)) : runF X_laws_eqUndo Try.f104 K_laws_eqUndo t = K_laws_eqUndo.F t := by kernel_rfl
end SC
end Go.Dx

set_option maxRecDepth 100000
set_option maxHeartbeats 0
namespace Go.Dx
open Go.Proofs
namespace SC
theorem e_laws_eqUndoS (t : TupI (K_laws_eqUndoS.ins.map PS.sh)) : runF X_laws_eqUndoS Try.f45 K_laws_eqUndoS t = K_laws_eqUndoS.F t := by kernel_rfl
end SC
end Go.Dx

set_option maxRecDepth 100000
set_option maxHeartbeats 0
namespace Go.Dx
open Go.Proofs
namespace SC
theorem e_laws_eqChain (t : TupI (K_laws_eqChain.ins.map PS.sh)) : runF X_laws_eqChain Try.f10 K_laws_eqChain t = K_laws_eqChain.F t := by kernel_rfl
end SC
end Go.Dx

set_option maxRecDepth 100000
set_option maxHeartbeats 0
namespace Go.Dx
open Go.Proofs
namespace SC
theorem e_laws_FnExactSameChains (t : TupI (K_laws_FnExactSameChains.ins.map PS.sh)) : runF X_laws_FnExactSameChains Try.f3 K_laws_FnExactSameChains t = K_laws_FnExactSameChains.F t := by kernel_rfl
end SC
end Go.Dx
