/- The contracts of the functions -/
import Derived.Test.YtdlnpjjdenahoaaScb
import Derived.Test.YtdlnpjjdenahoaaScc
import Derived.Test.YtdlnpjjdenahoaaScd
set_option linter.unusedVariables false
set_option linter.unusedSimpArgs false
set_option maxRecDepth 100000
set_option maxHeartbeats 0
namespace Go.Dx
open Go.Proofs
namespace SC
theorem b_laws_szStringS : Try.f46.body.isSome = true := by kernel_rfl
theorem n_laws_szStringS : (Try.f46.name == "runtime.NumGoroutine") = false := by kernel_rfl
theorem c_laws_szStringS : Contract Try.prog 46 K_laws_szStringS := contract_of (C := X_laws_szStringS) (fn := Try.f46) (tysOk_at (C := X0) rfl tysOk) (ctxOk_of (P := Try.prog) trivial) follows Try.func46 b_laws_szStringS n_laws_szStringS (fun t ys h => (e_laws_szStringS t).trans h)
theorem b_laws_szSignS : Try.f47.body.isSome = true := by kernel_rfl
theorem n_laws_szSignS : (Try.f47.name == "runtime.NumGoroutine") = false := by kernel_rfl
theorem c_laws_szSignS : Contract Try.prog 47 K_laws_szSignS := contract_of (C := X_laws_szSignS) (fn := Try.f47) (tysOk_at (C := X0) rfl tysOk) (ctxOk_of (P := Try.prog) trivial) follows Try.func47 b_laws_szSignS n_laws_szSignS (fun t ys h => (e_laws_szSignS t).trans h)
theorem b_laws_szLedger : Try.f11.body.isSome = true := by kernel_rfl
theorem n_laws_szLedger : (Try.f11.name == "runtime.NumGoroutine") = false := by kernel_rfl
theorem c_laws_szLedger : Contract Try.prog 11 K_laws_szLedger := contract_of (C := X_laws_szLedger) (fn := Try.f11) (tysOk_at (C := X0) rfl tysOk) (ctxOk_of (P := Try.prog) ⟨c_laws_szStringS, c_laws_szSignS, trivial⟩) follows Try.func11 b_laws_szLedger n_laws_szLedger (fun t ys h => (e_laws_szLedger t).trans h)
theorem b_laws_szNodeS : Try.f29.body.isSome = true := by kernel_rfl
theorem n_laws_szNodeS : (Try.f29.name == "runtime.NumGoroutine") = false := by kernel_rfl
theorem c_laws_szNodeS : Contract Try.prog 29 K_laws_szNodeS := contract_of (C := X_laws_szNodeS) (fn := Try.f29) (tysOk_at (C := X0) rfl tysOk) (ctxOk_of (P := Try.prog) trivial) follows Try.func29 b_laws_szNodeS n_laws_szNodeS (fun t ys h => (e_laws_szNodeS t).trans h)
theorem b_laws_szInt64S : Try.f30.body.isSome = true := by kernel_rfl
theorem n_laws_szInt64S : (Try.f30.name == "runtime.NumGoroutine") = false := by kernel_rfl
theorem c_laws_szInt64S : Contract Try.prog 30 K_laws_szInt64S := contract_of (C := X_laws_szInt64S) (fn := Try.f30) (tysOk_at (C := X0) rfl tysOk) (ctxOk_of (P := Try.prog) trivial) follows Try.func30 b_laws_szInt64S n_laws_szInt64S (fun t ys h => (e_laws_szInt64S t).trans h)
theorem b_laws_szRule : Try.f209.body.isSome = true := by kernel_rfl
theorem n_laws_szRule : (Try.f209.name == "runtime.NumGoroutine") = false := by kernel_rfl
theorem c_laws_szRule : Contract Try.prog 209 K_laws_szRule := contract_of (C := X_laws_szRule) (fn := Try.f209) (tysOk_at (C := X0) rfl tysOk) (ctxOk_of (P := Try.prog) ⟨c_laws_szInt64S, trivial⟩) follows Try.func209 b_laws_szRule n_laws_szRule (fun t ys h => (e_laws_szRule t).trans h)
theorem b_laws_szOut : Try.f192.body.isSome = true := by kernel_rfl
theorem n_laws_szOut : (Try.f192.name == "runtime.NumGoroutine") = false := by kernel_rfl
theorem c_laws_szOut : Contract Try.prog 192 K_laws_szOut := contract_of (C := X_laws_szOut) (fn := Try.f192) (tysOk_at (C := X0) rfl tysOk) (ctxOk_of (P := Try.prog) ⟨c_laws_szRule, trivial⟩) follows Try.func192 b_laws_szOut n_laws_szOut (fun t ys h => (e_laws_szOut t).trans h)
theorem b_laws_szCoin : Try.f149.body.isSome = true := by kernel_rfl
theorem n_laws_szCoin : (Try.f149.name == "runtime.NumGoroutine") = false := by kernel_rfl
theorem c_laws_szCoin : Contract Try.prog 149 K_laws_szCoin := contract_of (C := X_laws_szCoin) (fn := Try.f149) (tysOk_at (C := X0) rfl tysOk) (ctxOk_of (P := Try.prog) ⟨c_laws_szOut, trivial⟩) follows Try.func149 b_laws_szCoin n_laws_szCoin (fun t ys h => (e_laws_szCoin t).trans h)
theorem b_laws_szCoinS : Try.f90.body.isSome = true := by kernel_rfl
theorem n_laws_szCoinS : (Try.f90.name == "runtime.NumGoroutine") = false := by kernel_rfl
theorem c_laws_szCoinS : Contract Try.prog 90 K_laws_szCoinS := contract_of (C := X_laws_szCoinS) (fn := Try.f90) (tysOk_at (C := X0) rfl tysOk) (ctxOk_of (P := Try.prog) ⟨c_laws_szCoin, trivial⟩) follows Try.func90 b_laws_szCoinS n_laws_szCoinS (fun t ys h => (e_laws_szCoinS t).trans h)
theorem b_laws_szMemberS : Try.f91.body.isSome = true := by kernel_rfl
theorem n_laws_szMemberS : (Try.f91.name == "runtime.NumGoroutine") = false := by kernel_rfl
theorem c_laws_szMemberS : Contract Try.prog 91 K_laws_szMemberS := contract_of (C := X_laws_szMemberS) (fn := Try.f91) (tysOk_at (C := X0) rfl tysOk) (ctxOk_of (P := Try.prog) trivial) follows Try.func91 b_laws_szMemberS n_laws_szMemberS (fun t ys h => (e_laws_szMemberS t).trans h)
theorem b_laws_szState : Try.f31.body.isSome = true := by kernel_rfl
theorem n_laws_szState : (Try.f31.name == "runtime.NumGoroutine") = false := by kernel_rfl
theorem c_laws_szState : Contract Try.prog 31 K_laws_szState := contract_of (C := X_laws_szState) (fn := Try.f31) (tysOk_at (C := X0) rfl tysOk) (ctxOk_of (P := Try.prog) ⟨c_laws_szCoinS, c_laws_szMemberS, trivial⟩) follows Try.func31 b_laws_szState n_laws_szState (fun t ys h => (e_laws_szState t).trans h)
theorem b_laws_szCoinSS : Try.f150.body.isSome = true := by kernel_rfl
theorem n_laws_szCoinSS : (Try.f150.name == "runtime.NumGoroutine") = false := by kernel_rfl
theorem c_laws_szCoinSS : Contract Try.prog 150 K_laws_szCoinSS := contract_of (C := X_laws_szCoinSS) (fn := Try.f150) (tysOk_at (C := X0) rfl tysOk) (ctxOk_of (P := Try.prog) ⟨c_laws_szCoinS, trivial⟩) follows Try.func150 b_laws_szCoinSS n_laws_szCoinSS (fun t ys h => (e_laws_szCoinSS t).trans h)
theorem b_laws_szUndo : Try.f92.body.isSome = true := by kernel_rfl
theorem n_laws_szUndo : (Try.f92.name == "runtime.NumGoroutine") = false := by kernel_rfl
theorem c_laws_szUndo : Contract Try.prog 92 K_laws_szUndo := contract_of (C := X_laws_szUndo) (fn := Try.f92) (tysOk_at (C := X0) rfl tysOk) (ctxOk_of (P := Try.prog) ⟨c_laws_szMemberS, c_laws_szCoinSS, trivial⟩) follows Try.func92 b_laws_szUndo n_laws_szUndo (fun t ys h => (e_laws_szUndo t).trans h)
theorem b_laws_szUndoS : Try.f32.body.isSome = true := by kernel_rfl
theorem n_laws_szUndoS : (Try.f32.name == "runtime.NumGoroutine") = false := by kernel_rfl
theorem c_laws_szUndoS : Contract Try.prog 32 K_laws_szUndoS := contract_of (C := X_laws_szUndoS) (fn := Try.f32) (tysOk_at (C := X0) rfl tysOk) (ctxOk_of (P := Try.prog) ⟨c_laws_szUndo, trivial⟩) follows Try.func32 b_laws_szUndoS n_laws_szUndoS (fun t ys h => (e_laws_szUndoS t).trans h)
theorem b_laws_szChain : Try.f6.body.isSome = true := by kernel_rfl
theorem n_laws_szChain : (Try.f6.name == "runtime.NumGoroutine") = false := by kernel_rfl
theorem c_laws_szChain : Contract Try.prog 6 K_laws_szChain := contract_of (C := X_laws_szChain) (fn := Try.f6) (tysOk_at (C := X0) rfl tysOk) (ctxOk_of (P := Try.prog) ⟨c_laws_szLedger, c_laws_szNodeS, c_laws_szInt64S, c_laws_szState, c_laws_szUndoS, trivial⟩) follows Try.func6 b_laws_szChain n_laws_szChain (fun t ys h => (e_laws_szChain t).trans h)
theorem b_spec_l2Ints : Try.f34.body.isSome = true := by kernel_rfl
theorem n_spec_l2Ints : (Try.f34.name == "runtime.NumGoroutine") = false := by kernel_rfl
theorem c_spec_l2Ints : Contract Try.prog 34 K_spec_l2Ints := contract_of (C := X_spec_l2Ints) (fn := Try.f34) (tysOk_at (C := X0) rfl tysOk) (ctxOk_of (P := Try.prog) trivial) follows Try.func34 b_spec_l2Ints n_spec_l2Ints (fun t ys h => (e_spec_l2Ints t).trans h)
theorem b_spec_l2Same : Try.f151.body.isSome = true := by kernel_rfl
theorem n_spec_l2Same : (Try.f151.name == "runtime.NumGoroutine") = false := by kernel_rfl
theorem c_spec_l2Same : Contract Try.prog 151 K_spec_l2Same := contract_of (C := X_spec_l2Same) (fn := Try.f151) (tysOk_at (C := X0) rfl tysOk) (ctxOk_of (P := Try.prog) ⟨c_spec_l2Ints, trivial⟩) follows Try.func151 b_spec_l2Same n_spec_l2Same (fun t ys h => (e_spec_l2Same t).trans h)
theorem b_spec_l4Same : Try.f93.body.isSome = true := by kernel_rfl
theorem n_spec_l4Same : (Try.f93.name == "runtime.NumGoroutine") = false := by kernel_rfl
theorem c_spec_l4Same : Contract Try.prog 93 K_spec_l4Same := contract_of (C := X_spec_l4Same) (fn := Try.f93) (tysOk_at (C := X0) rfl tysOk) (ctxOk_of (P := Try.prog) ⟨c_spec_l2Same, trivial⟩) follows Try.func93 b_spec_l4Same n_spec_l4Same (fun t ys h => (e_spec_l4Same t).trans h)
theorem b_spec_l6Same : Try.f94.body.isSome = true := by kernel_rfl
theorem n_spec_l6Same : (Try.f94.name == "runtime.NumGoroutine") = false := by kernel_rfl
theorem c_spec_l6Same : Contract Try.prog 94 K_spec_l6Same := contract_of (C := X_spec_l6Same) (fn := Try.f94) (tysOk_at (C := X0) rfl tysOk) (ctxOk_of (P := Try.prog) trivial) follows Try.func94 b_spec_l6Same n_spec_l6Same (fun t ys h => (e_spec_l6Same t).trans h)
theorem b_spec_l8Same : Try.f33.body.isSome = true := by kernel_rfl
theorem n_spec_l8Same : (Try.f33.name == "runtime.NumGoroutine") = false := by kernel_rfl
theorem c_spec_l8Same : Contract Try.prog 33 K_spec_l8Same := contract_of (C := X_spec_l8Same) (fn := Try.f33) (tysOk_at (C := X0) rfl tysOk) (ctxOk_of (P := Try.prog) ⟨c_spec_l4Same, c_spec_l6Same, trivial⟩) follows Try.func33 b_spec_l8Same n_spec_l8Same (fun t ys h => (e_spec_l8Same t).trans h)
theorem b_spec_SameChains : Try.f7.body.isSome = true := by kernel_rfl
theorem n_spec_SameChains : (Try.f7.name == "runtime.NumGoroutine") = false := by kernel_rfl
theorem c_spec_SameChains : Contract Try.prog 7 K_spec_SameChains := contract_of (C := X_spec_SameChains) (fn := Try.f7) (tysOk_at (C := X0) rfl tysOk) (ctxOk_of (P := Try.prog) ⟨c_spec_l8Same, c_spec_l2Ints, trivial⟩) follows Try.func7 b_spec_SameChains n_spec_SameChains (fun t ys h => (e_spec_SameChains t).trans h)
theorem b_laws_toStringS : Try.f51.body.isSome = true := by kernel_rfl
theorem n_laws_toStringS : (Try.f51.name == "runtime.NumGoroutine") = false := by kernel_rfl
theorem c_laws_toStringS : Contract Try.prog 51 K_laws_toStringS := contract_of (C := X_laws_toStringS) (fn := Try.f51) (tysOk_at (C := X0) rfl tysOk) (ctxOk_of (P := Try.prog) trivial) follows Try.func51 b_laws_toStringS n_laws_toStringS (fun t ys h => (e_laws_toStringS t).trans h)
theorem b_laws_toSign : Try.f108.body.isSome = true := by kernel_rfl
theorem n_laws_toSign : (Try.f108.name == "runtime.NumGoroutine") = false := by kernel_rfl
theorem c_laws_toSign : Contract Try.prog 108 K_laws_toSign := contract_of (C := X_laws_toSign) (fn := Try.f108) (tysOk_at (C := X0) rfl tysOk) (ctxOk_of (P := Try.prog) trivial) follows Try.func108 b_laws_toSign n_laws_toSign (fun t ys h => (e_laws_toSign t).trans h)
theorem b_laws_toSignS : Try.f52.body.isSome = true := by kernel_rfl
theorem n_laws_toSignS : (Try.f52.name == "runtime.NumGoroutine") = false := by kernel_rfl
theorem c_laws_toSignS : Contract Try.prog 52 K_laws_toSignS := contract_of (C := X_laws_toSignS) (fn := Try.f52) (tysOk_at (C := X0) rfl tysOk) (ctxOk_of (P := Try.prog) ⟨c_laws_toSign, trivial⟩) follows Try.func52 b_laws_toSignS n_laws_toSignS (fun t ys h => (e_laws_toSignS t).trans h)
theorem b_laws_toLedger : Try.f13.body.isSome = true := by kernel_rfl
theorem n_laws_toLedger : (Try.f13.name == "runtime.NumGoroutine") = false := by kernel_rfl
theorem c_laws_toLedger : Contract Try.prog 13 K_laws_toLedger := contract_of (C := X_laws_toLedger) (fn := Try.f13) (tysOk_at (C := X0) rfl tysOk) (ctxOk_of (P := Try.prog) ⟨c_laws_toStringS, c_laws_toSignS, trivial⟩) follows Try.func13 b_laws_toLedger n_laws_toLedger (fun t ys h => (e_laws_toLedger t).trans h)
theorem b_laws_toNode : Try.f95.body.isSome = true := by kernel_rfl
theorem n_laws_toNode : (Try.f95.name == "runtime.NumGoroutine") = false := by kernel_rfl
theorem c_laws_toNode : Contract Try.prog 95 K_laws_toNode := contract_of (C := X_laws_toNode) (fn := Try.f95) (tysOk_at (C := X0) rfl tysOk) (ctxOk_of (P := Try.prog) trivial) follows Try.func95 b_laws_toNode n_laws_toNode (fun t ys h => (e_laws_toNode t).trans h)
theorem b_laws_toNodeS : Try.f35.body.isSome = true := by kernel_rfl
theorem n_laws_toNodeS : (Try.f35.name == "runtime.NumGoroutine") = false := by kernel_rfl
theorem c_laws_toNodeS : Contract Try.prog 35 K_laws_toNodeS := contract_of (C := X_laws_toNodeS) (fn := Try.f35) (tysOk_at (C := X0) rfl tysOk) (ctxOk_of (P := Try.prog) ⟨c_laws_toNode, trivial⟩) follows Try.func35 b_laws_toNodeS n_laws_toNodeS (fun t ys h => (e_laws_toNodeS t).trans h)
theorem b_laws_toInt64S : Try.f36.body.isSome = true := by kernel_rfl
theorem n_laws_toInt64S : (Try.f36.name == "runtime.NumGoroutine") = false := by kernel_rfl
theorem c_laws_toInt64S : Contract Try.prog 36 K_laws_toInt64S := contract_of (C := X_laws_toInt64S) (fn := Try.f36) (tysOk_at (C := X0) rfl tysOk) (ctxOk_of (P := Try.prog) trivial) follows Try.func36 b_laws_toInt64S n_laws_toInt64S (fun t ys h => (e_laws_toInt64S t).trans h)
theorem b_laws_toRef : Try.f193.body.isSome = true := by kernel_rfl
theorem n_laws_toRef : (Try.f193.name == "runtime.NumGoroutine") = false := by kernel_rfl
theorem c_laws_toRef : Contract Try.prog 193 K_laws_toRef := contract_of (C := X_laws_toRef) (fn := Try.f193) (tysOk_at (C := X0) rfl tysOk) (ctxOk_of (P := Try.prog) trivial) follows Try.func193 b_laws_toRef n_laws_toRef (fun t ys h => (e_laws_toRef t).trans h)
theorem b_laws_toRule : Try.f210.body.isSome = true := by kernel_rfl
theorem n_laws_toRule : (Try.f210.name == "runtime.NumGoroutine") = false := by kernel_rfl
theorem c_laws_toRule : Contract Try.prog 210 K_laws_toRule := contract_of (C := X_laws_toRule) (fn := Try.f210) (tysOk_at (C := X0) rfl tysOk) (ctxOk_of (P := Try.prog) ⟨c_laws_toInt64S, trivial⟩) follows Try.func210 b_laws_toRule n_laws_toRule (fun t ys h => (e_laws_toRule t).trans h)
theorem b_laws_toOut : Try.f194.body.isSome = true := by kernel_rfl
theorem n_laws_toOut : (Try.f194.name == "runtime.NumGoroutine") = false := by kernel_rfl
theorem c_laws_toOut : Contract Try.prog 194 K_laws_toOut := contract_of (C := X_laws_toOut) (fn := Try.f194) (tysOk_at (C := X0) rfl tysOk) (ctxOk_of (P := Try.prog) ⟨c_laws_toRule, trivial⟩) follows Try.func194 b_laws_toOut n_laws_toOut (fun t ys h => (e_laws_toOut t).trans h)
theorem b_laws_toCoin : Try.f152.body.isSome = true := by kernel_rfl
theorem n_laws_toCoin : (Try.f152.name == "runtime.NumGoroutine") = false := by kernel_rfl
theorem c_laws_toCoin : Contract Try.prog 152 K_laws_toCoin := contract_of (C := X_laws_toCoin) (fn := Try.f152) (tysOk_at (C := X0) rfl tysOk) (ctxOk_of (P := Try.prog) ⟨c_laws_toRef, c_laws_toOut, trivial⟩) follows Try.func152 b_laws_toCoin n_laws_toCoin (fun t ys h => (e_laws_toCoin t).trans h)
theorem b_laws_toCoinS : Try.f96.body.isSome = true := by kernel_rfl
theorem n_laws_toCoinS : (Try.f96.name == "runtime.NumGoroutine") = false := by kernel_rfl
theorem c_laws_toCoinS : Contract Try.prog 96 K_laws_toCoinS := contract_of (C := X_laws_toCoinS) (fn := Try.f96) (tysOk_at (C := X0) rfl tysOk) (ctxOk_of (P := Try.prog) ⟨c_laws_toCoin, trivial⟩) follows Try.func96 b_laws_toCoinS n_laws_toCoinS (fun t ys h => (e_laws_toCoinS t).trans h)
theorem b_laws_toMember : Try.f153.body.isSome = true := by kernel_rfl
theorem n_laws_toMember : (Try.f153.name == "runtime.NumGoroutine") = false := by kernel_rfl
theorem c_laws_toMember : Contract Try.prog 153 K_laws_toMember := contract_of (C := X_laws_toMember) (fn := Try.f153) (tysOk_at (C := X0) rfl tysOk) (ctxOk_of (P := Try.prog) ⟨c_laws_toRef, trivial⟩) follows Try.func153 b_laws_toMember n_laws_toMember (fun t ys h => (e_laws_toMember t).trans h)
theorem b_laws_toMemberS : Try.f97.body.isSome = true := by kernel_rfl
theorem n_laws_toMemberS : (Try.f97.name == "runtime.NumGoroutine") = false := by kernel_rfl
theorem c_laws_toMemberS : Contract Try.prog 97 K_laws_toMemberS := contract_of (C := X_laws_toMemberS) (fn := Try.f97) (tysOk_at (C := X0) rfl tysOk) (ctxOk_of (P := Try.prog) ⟨c_laws_toMember, trivial⟩) follows Try.func97 b_laws_toMemberS n_laws_toMemberS (fun t ys h => (e_laws_toMemberS t).trans h)
theorem b_laws_toState : Try.f37.body.isSome = true := by kernel_rfl
theorem n_laws_toState : (Try.f37.name == "runtime.NumGoroutine") = false := by kernel_rfl
theorem c_laws_toState : Contract Try.prog 37 K_laws_toState := contract_of (C := X_laws_toState) (fn := Try.f37) (tysOk_at (C := X0) rfl tysOk) (ctxOk_of (P := Try.prog) ⟨c_laws_toCoinS, c_laws_toMemberS, trivial⟩) follows Try.func37 b_laws_toState n_laws_toState (fun t ys h => (e_laws_toState t).trans h)
theorem b_laws_toCoinSS : Try.f154.body.isSome = true := by kernel_rfl
theorem n_laws_toCoinSS : (Try.f154.name == "runtime.NumGoroutine") = false := by kernel_rfl
theorem c_laws_toCoinSS : Contract Try.prog 154 K_laws_toCoinSS := contract_of (C := X_laws_toCoinSS) (fn := Try.f154) (tysOk_at (C := X0) rfl tysOk) (ctxOk_of (P := Try.prog) ⟨c_laws_toCoinS, trivial⟩) follows Try.func154 b_laws_toCoinSS n_laws_toCoinSS (fun t ys h => (e_laws_toCoinSS t).trans h)
theorem b_laws_toUndo : Try.f98.body.isSome = true := by kernel_rfl
theorem n_laws_toUndo : (Try.f98.name == "runtime.NumGoroutine") = false := by kernel_rfl
theorem c_laws_toUndo : Contract Try.prog 98 K_laws_toUndo := contract_of (C := X_laws_toUndo) (fn := Try.f98) (tysOk_at (C := X0) rfl tysOk) (ctxOk_of (P := Try.prog) ⟨c_laws_toMemberS, c_laws_toCoinSS, trivial⟩) follows Try.func98 b_laws_toUndo n_laws_toUndo (fun t ys h => (e_laws_toUndo t).trans h)
theorem b_laws_toUndoS : Try.f38.body.isSome = true := by kernel_rfl
theorem n_laws_toUndoS : (Try.f38.name == "runtime.NumGoroutine") = false := by kernel_rfl
theorem c_laws_toUndoS : Contract Try.prog 38 K_laws_toUndoS := contract_of (C := X_laws_toUndoS) (fn := Try.f38) (tysOk_at (C := X0) rfl tysOk) (ctxOk_of (P := Try.prog) ⟨c_laws_toUndo, trivial⟩) follows Try.func38 b_laws_toUndoS n_laws_toUndoS (fun t ys h => (e_laws_toUndoS t).trans h)
theorem b_laws_toChain : Try.f8.body.isSome = true := by kernel_rfl
theorem n_laws_toChain : (Try.f8.name == "runtime.NumGoroutine") = false := by kernel_rfl
theorem c_laws_toChain : Contract Try.prog 8 K_laws_toChain := contract_of (C := X_laws_toChain) (fn := Try.f8) (tysOk_at (C := X0) rfl tysOk) (ctxOk_of (P := Try.prog) ⟨c_laws_toLedger, c_laws_toNodeS, c_laws_toInt64S, c_laws_toState, c_laws_toUndoS, trivial⟩) follows Try.func8 b_laws_toChain n_laws_toChain (fun t ys h => (e_laws_toChain t).trans h)
theorem b_slices_EqualFunc_Limpl_Coin_Limpl_Coin_impl_Coin_impl_Coin : Try.f155.body.isSome = true := by kernel_rfl
theorem n_slices_EqualFunc_Limpl_Coin_Limpl_Coin_impl_Coin_impl_Coin : (Try.f155.name == "runtime.NumGoroutine") = false := by kernel_rfl
theorem c_slices_EqualFunc_Limpl_Coin_Limpl_Coin_impl_Coin_impl_Coin : Contract Try.prog 155 K_slices_EqualFunc_Limpl_Coin_Limpl_Coin_impl_Coin_impl_Coin := contract_of (C := X_slices_EqualFunc_Limpl_Coin_Limpl_Coin_impl_Coin_impl_Coin) (fn := Try.f155) (tysOk_at (C := X0) rfl tysOk) (ctxOk_of (P := Try.prog) trivial) follows Try.func155 b_slices_EqualFunc_Limpl_Coin_Limpl_Coin_impl_Coin_impl_Coin n_slices_EqualFunc_Limpl_Coin_Limpl_Coin_impl_Coin_impl_Coin (fun t ys h => (e_slices_EqualFunc_Limpl_Coin_Limpl_Coin_impl_Coin_impl_Coin t).trans h)
theorem b_slices_Equal_Lint64_int64 : Try.f41.body.isSome = true := by kernel_rfl
theorem n_slices_Equal_Lint64_int64 : (Try.f41.name == "runtime.NumGoroutine") = false := by kernel_rfl
theorem c_slices_Equal_Lint64_int64 : Contract Try.prog 41 K_slices_Equal_Lint64_int64 := contract_of (C := X_slices_Equal_Lint64_int64) (fn := Try.f41) (tysOk_at (C := X0) rfl tysOk) (ctxOk_of (P := Try.prog) trivial) follows Try.func41 b_slices_Equal_Lint64_int64 n_slices_Equal_Lint64_int64 (fun t ys h => (e_slices_Equal_Lint64_int64 t).trans h)
theorem b_impl_SameRules : Try.f211.body.isSome = true := by kernel_rfl
theorem n_impl_SameRules : (Try.f211.name == "runtime.NumGoroutine") = false := by kernel_rfl
theorem c_impl_SameRules : Contract Try.prog 211 K_impl_SameRules := contract_of (C := X_impl_SameRules) (fn := Try.f211) (tysOk_at (C := X0) rfl tysOk) (ctxOk_of (P := Try.prog) ⟨c_slices_Equal_Lint64_int64, trivial⟩) follows Try.func211 b_impl_SameRules n_impl_SameRules (fun t ys h => (e_impl_SameRules t).trans h)
theorem b_impl_sameOuts : Try.f195.body.isSome = true := by kernel_rfl
theorem n_impl_sameOuts : (Try.f195.name == "runtime.NumGoroutine") = false := by kernel_rfl
theorem c_impl_sameOuts : Contract Try.prog 195 K_impl_sameOuts := contract_of (C := X_impl_sameOuts) (fn := Try.f195) (tysOk_at (C := X0) rfl tysOk) (ctxOk_of (P := Try.prog) ⟨c_impl_SameRules, trivial⟩) follows Try.func195 b_impl_sameOuts n_impl_sameOuts (fun t ys h => (e_impl_sameOuts t).trans h)
theorem b_impl_sameCoin : Try.f156.body.isSome = true := by kernel_rfl
theorem n_impl_sameCoin : (Try.f156.name == "runtime.NumGoroutine") = false := by kernel_rfl
theorem c_impl_sameCoin : Contract Try.prog 156 K_impl_sameCoin := contract_of (C := X_impl_sameCoin) (fn := Try.f156) (tysOk_at (C := X0) rfl tysOk) (ctxOk_of (P := Try.prog) ⟨c_impl_sameOuts, trivial⟩) follows Try.func156 b_impl_sameCoin n_impl_sameCoin (fun t ys h => (e_impl_sameCoin t).trans h)
theorem b_impl_SameCoins : Try.f99.body.isSome = true := by kernel_rfl
theorem n_impl_SameCoins : (Try.f99.name == "runtime.NumGoroutine") = false := by kernel_rfl
theorem c_impl_SameCoins : Contract Try.prog 99 K_impl_SameCoins := contract_of (C := X_impl_SameCoins) (fn := Try.f99) (tysOk_at (C := X0) rfl tysOk) (ctxOk_of (P := Try.prog) ⟨c_slices_EqualFunc_Limpl_Coin_Limpl_Coin_impl_Coin_impl_Coin, c_impl_sameCoin, trivial⟩) follows Try.func99 b_impl_SameCoins n_impl_SameCoins (fun t ys h => (e_impl_SameCoins t).trans h)
theorem b_slices_Equal_Limpl_Member_impl_Member : Try.f157.body.isSome = true := by kernel_rfl
theorem n_slices_Equal_Limpl_Member_impl_Member : (Try.f157.name == "runtime.NumGoroutine") = false := by kernel_rfl
theorem c_slices_Equal_Limpl_Member_impl_Member : Contract Try.prog 157 K_slices_Equal_Limpl_Member_impl_Member := contract_of (C := X_slices_Equal_Limpl_Member_impl_Member) (fn := Try.f157) (tysOk_at (C := X0) rfl tysOk) (ctxOk_of (P := Try.prog) trivial) follows Try.func157 b_slices_Equal_Limpl_Member_impl_Member n_slices_Equal_Limpl_Member_impl_Member (fun t ys h => (e_slices_Equal_Limpl_Member_impl_Member t).trans h)
theorem b_impl_SameMembers : Try.f100.body.isSome = true := by kernel_rfl
theorem n_impl_SameMembers : (Try.f100.name == "runtime.NumGoroutine") = false := by kernel_rfl
theorem c_impl_SameMembers : Contract Try.prog 100 K_impl_SameMembers := contract_of (C := X_impl_SameMembers) (fn := Try.f100) (tysOk_at (C := X0) rfl tysOk) (ctxOk_of (P := Try.prog) ⟨c_slices_Equal_Limpl_Member_impl_Member, trivial⟩) follows Try.func100 b_impl_SameMembers n_impl_SameMembers (fun t ys h => (e_impl_SameMembers t).trans h)
theorem b_impl_SameStates : Try.f39.body.isSome = true := by kernel_rfl
theorem n_impl_SameStates : (Try.f39.name == "runtime.NumGoroutine") = false := by kernel_rfl
theorem c_impl_SameStates : Contract Try.prog 39 K_impl_SameStates := contract_of (C := X_impl_SameStates) (fn := Try.f39) (tysOk_at (C := X0) rfl tysOk) (ctxOk_of (P := Try.prog) ⟨c_impl_SameCoins, c_impl_SameMembers, trivial⟩) follows Try.func39 b_impl_SameStates n_impl_SameStates (fun t ys h => (e_impl_SameStates t).trans h)
theorem b_slices_Equal_Limpl_Node_impl_Node : Try.f40.body.isSome = true := by kernel_rfl
theorem n_slices_Equal_Limpl_Node_impl_Node : (Try.f40.name == "runtime.NumGoroutine") = false := by kernel_rfl
theorem c_slices_Equal_Limpl_Node_impl_Node : Contract Try.prog 40 K_slices_Equal_Limpl_Node_impl_Node := contract_of (C := X_slices_Equal_Limpl_Node_impl_Node) (fn := Try.f40) (tysOk_at (C := X0) rfl tysOk) (ctxOk_of (P := Try.prog) trivial) follows Try.func40 b_slices_Equal_Limpl_Node_impl_Node n_slices_Equal_Limpl_Node_impl_Node (fun t ys h => (e_slices_Equal_Limpl_Node_impl_Node t).trans h)
theorem b_impl_SameChains : Try.f9.body.isSome = true := by kernel_rfl
theorem n_impl_SameChains : (Try.f9.name == "runtime.NumGoroutine") = false := by kernel_rfl
theorem c_impl_SameChains : Contract Try.prog 9 K_impl_SameChains := contract_of (C := X_impl_SameChains) (fn := Try.f9) (tysOk_at (C := X0) rfl tysOk) (ctxOk_of (P := Try.prog) ⟨c_impl_SameStates, c_slices_Equal_Limpl_Node_impl_Node, c_slices_Equal_Lint64_int64, trivial⟩) follows Try.func9 b_impl_SameChains n_impl_SameChains (fun t ys h => (e_impl_SameChains t).trans h)
theorem b_laws_eqStringS : Try.f55.body.isSome = true := by kernel_rfl
theorem n_laws_eqStringS : (Try.f55.name == "runtime.NumGoroutine") = false := by kernel_rfl
theorem c_laws_eqStringS : Contract Try.prog 55 K_laws_eqStringS := contract_of (C := X_laws_eqStringS) (fn := Try.f55) (tysOk_at (C := X0) rfl tysOk) (ctxOk_of (P := Try.prog) trivial) follows Try.func55 b_laws_eqStringS n_laws_eqStringS (fun t ys h => (e_laws_eqStringS t).trans h)
theorem b_laws_eqSign : Try.f115.body.isSome = true := by kernel_rfl
theorem n_laws_eqSign : (Try.f115.name == "runtime.NumGoroutine") = false := by kernel_rfl
theorem c_laws_eqSign : Contract Try.prog 115 K_laws_eqSign := contract_of (C := X_laws_eqSign) (fn := Try.f115) (tysOk_at (C := X0) rfl tysOk) (ctxOk_of (P := Try.prog) trivial) follows Try.func115 b_laws_eqSign n_laws_eqSign (fun t ys h => (e_laws_eqSign t).trans h)
theorem b_laws_eqSignS : Try.f56.body.isSome = true := by kernel_rfl
theorem n_laws_eqSignS : (Try.f56.name == "runtime.NumGoroutine") = false := by kernel_rfl
theorem c_laws_eqSignS : Contract Try.prog 56 K_laws_eqSignS := contract_of (C := X_laws_eqSignS) (fn := Try.f56) (tysOk_at (C := X0) rfl tysOk) (ctxOk_of (P := Try.prog) ⟨c_laws_eqSign, trivial⟩) follows Try.func56 b_laws_eqSignS n_laws_eqSignS (fun t ys h => (e_laws_eqSignS t).trans h)
theorem b_laws_eqLedger : Try.f16.body.isSome = true := by kernel_rfl
theorem n_laws_eqLedger : (Try.f16.name == "runtime.NumGoroutine") = false := by kernel_rfl
theorem c_laws_eqLedger : Contract Try.prog 16 K_laws_eqLedger := contract_of (C := X_laws_eqLedger) (fn := Try.f16) (tysOk_at (C := X0) rfl tysOk) (ctxOk_of (P := Try.prog) ⟨c_laws_eqStringS, c_laws_eqSignS, trivial⟩) follows Try.func16 b_laws_eqLedger n_laws_eqLedger (fun t ys h => (e_laws_eqLedger t).trans h)
theorem b_laws_eqNode : Try.f101.body.isSome = true := by kernel_rfl
theorem n_laws_eqNode : (Try.f101.name == "runtime.NumGoroutine") = false := by kernel_rfl
theorem c_laws_eqNode : Contract Try.prog 101 K_laws_eqNode := contract_of (C := X_laws_eqNode) (fn := Try.f101) (tysOk_at (C := X0) rfl tysOk) (ctxOk_of (P := Try.prog) trivial) follows Try.func101 b_laws_eqNode n_laws_eqNode (fun t ys h => (e_laws_eqNode t).trans h)
theorem b_laws_eqNodeS : Try.f42.body.isSome = true := by kernel_rfl
theorem n_laws_eqNodeS : (Try.f42.name == "runtime.NumGoroutine") = false := by kernel_rfl
theorem c_laws_eqNodeS : Contract Try.prog 42 K_laws_eqNodeS := contract_of (C := X_laws_eqNodeS) (fn := Try.f42) (tysOk_at (C := X0) rfl tysOk) (ctxOk_of (P := Try.prog) ⟨c_laws_eqNode, trivial⟩) follows Try.func42 b_laws_eqNodeS n_laws_eqNodeS (fun t ys h => (e_laws_eqNodeS t).trans h)
theorem b_laws_eqInt64S : Try.f43.body.isSome = true := by kernel_rfl
theorem n_laws_eqInt64S : (Try.f43.name == "runtime.NumGoroutine") = false := by kernel_rfl
theorem c_laws_eqInt64S : Contract Try.prog 43 K_laws_eqInt64S := contract_of (C := X_laws_eqInt64S) (fn := Try.f43) (tysOk_at (C := X0) rfl tysOk) (ctxOk_of (P := Try.prog) trivial) follows Try.func43 b_laws_eqInt64S n_laws_eqInt64S (fun t ys h => (e_laws_eqInt64S t).trans h)
theorem b_laws_eqRef : Try.f196.body.isSome = true := by kernel_rfl
theorem n_laws_eqRef : (Try.f196.name == "runtime.NumGoroutine") = false := by kernel_rfl
theorem c_laws_eqRef : Contract Try.prog 196 K_laws_eqRef := contract_of (C := X_laws_eqRef) (fn := Try.f196) (tysOk_at (C := X0) rfl tysOk) (ctxOk_of (P := Try.prog) trivial) follows Try.func196 b_laws_eqRef n_laws_eqRef (fun t ys h => (e_laws_eqRef t).trans h)
theorem b_laws_eqRule : Try.f212.body.isSome = true := by kernel_rfl
theorem n_laws_eqRule : (Try.f212.name == "runtime.NumGoroutine") = false := by kernel_rfl
theorem c_laws_eqRule : Contract Try.prog 212 K_laws_eqRule := contract_of (C := X_laws_eqRule) (fn := Try.f212) (tysOk_at (C := X0) rfl tysOk) (ctxOk_of (P := Try.prog) ⟨c_laws_eqInt64S, trivial⟩) follows Try.func212 b_laws_eqRule n_laws_eqRule (fun t ys h => (e_laws_eqRule t).trans h)
theorem b_laws_eqOut : Try.f197.body.isSome = true := by kernel_rfl
theorem n_laws_eqOut : (Try.f197.name == "runtime.NumGoroutine") = false := by kernel_rfl
theorem c_laws_eqOut : Contract Try.prog 197 K_laws_eqOut := contract_of (C := X_laws_eqOut) (fn := Try.f197) (tysOk_at (C := X0) rfl tysOk) (ctxOk_of (P := Try.prog) ⟨c_laws_eqRule, trivial⟩) follows Try.func197 b_laws_eqOut n_laws_eqOut (fun t ys h => (e_laws_eqOut t).trans h)
theorem b_laws_eqCoin : Try.f158.body.isSome = true := by kernel_rfl
theorem n_laws_eqCoin : (Try.f158.name == "runtime.NumGoroutine") = false := by kernel_rfl
theorem c_laws_eqCoin : Contract Try.prog 158 K_laws_eqCoin := contract_of (C := X_laws_eqCoin) (fn := Try.f158) (tysOk_at (C := X0) rfl tysOk) (ctxOk_of (P := Try.prog) ⟨c_laws_eqRef, c_laws_eqOut, trivial⟩) follows Try.func158 b_laws_eqCoin n_laws_eqCoin (fun t ys h => (e_laws_eqCoin t).trans h)
theorem b_laws_eqCoinS : Try.f102.body.isSome = true := by kernel_rfl
theorem n_laws_eqCoinS : (Try.f102.name == "runtime.NumGoroutine") = false := by kernel_rfl
theorem c_laws_eqCoinS : Contract Try.prog 102 K_laws_eqCoinS := contract_of (C := X_laws_eqCoinS) (fn := Try.f102) (tysOk_at (C := X0) rfl tysOk) (ctxOk_of (P := Try.prog) ⟨c_laws_eqCoin, trivial⟩) follows Try.func102 b_laws_eqCoinS n_laws_eqCoinS (fun t ys h => (e_laws_eqCoinS t).trans h)
theorem b_laws_eqMember : Try.f159.body.isSome = true := by kernel_rfl
theorem n_laws_eqMember : (Try.f159.name == "runtime.NumGoroutine") = false := by kernel_rfl
theorem c_laws_eqMember : Contract Try.prog 159 K_laws_eqMember := contract_of (C := X_laws_eqMember) (fn := Try.f159) (tysOk_at (C := X0) rfl tysOk) (ctxOk_of (P := Try.prog) ⟨c_laws_eqRef, trivial⟩) follows Try.func159 b_laws_eqMember n_laws_eqMember (fun t ys h => (e_laws_eqMember t).trans h)
theorem b_laws_eqMemberS : Try.f103.body.isSome = true := by kernel_rfl
theorem n_laws_eqMemberS : (Try.f103.name == "runtime.NumGoroutine") = false := by kernel_rfl
theorem c_laws_eqMemberS : Contract Try.prog 103 K_laws_eqMemberS := contract_of (C := X_laws_eqMemberS) (fn := Try.f103) (tysOk_at (C := X0) rfl tysOk) (ctxOk_of (P := Try.prog) ⟨c_laws_eqMember, trivial⟩) follows Try.func103 b_laws_eqMemberS n_laws_eqMemberS (fun t ys h => (e_laws_eqMemberS t).trans h)
theorem b_laws_eqState : Try.f44.body.isSome = true := by kernel_rfl
theorem n_laws_eqState : (Try.f44.name == "runtime.NumGoroutine") = false := by kernel_rfl
theorem c_laws_eqState : Contract Try.prog 44 K_laws_eqState := contract_of (C := X_laws_eqState) (fn := Try.f44) (tysOk_at (C := X0) rfl tysOk) (ctxOk_of (P := Try.prog) ⟨c_laws_eqCoinS, c_laws_eqMemberS, trivial⟩) follows Try.func44 b_laws_eqState n_laws_eqState (fun t ys h => (e_laws_eqState t).trans h)
theorem b_laws_eqCoinSS : Try.f160.body.isSome = true := by kernel_rfl
theorem n_laws_eqCoinSS : (Try.f160.name == "runtime.NumGoroutine") = false := by kernel_rfl
theorem c_laws_eqCoinSS : Contract Try.prog 160 K_laws_eqCoinSS := contract_of (C := X_laws_eqCoinSS) (fn := Try.f160) (tysOk_at (C := X0) rfl tysOk) (ctxOk_of (P := Try.prog) ⟨c_laws_eqCoinS, trivial⟩) follows Try.func160 b_laws_eqCoinSS n_laws_eqCoinSS (fun t ys h => (e_laws_eqCoinSS t).trans h)
theorem b_laws_eqUndo : Try.f104.body.isSome = true := by kernel_rfl
theorem n_laws_eqUndo : (Try.f104.name == "runtime.NumGoroutine") = false := by kernel_rfl
theorem c_laws_eqUndo : Contract Try.prog 104 K_laws_eqUndo := contract_of (C := X_laws_eqUndo) (fn := Try.f104) (tysOk_at (C := X0) rfl tysOk) (ctxOk_of (P := Try.prog) ⟨c_laws_eqMemberS, c_laws_eqCoinSS, trivial⟩) follows Try.func104 b_laws_eqUndo n_laws_eqUndo (fun t ys h => (e_laws_eqUndo t).trans h)
theorem b_laws_eqUndoS : Try.f45.body.isSome = true := by kernel_rfl
theorem n_laws_eqUndoS : (Try.f45.name == "runtime.NumGoroutine") = false := by kernel_rfl
theorem c_laws_eqUndoS : Contract Try.prog 45 K_laws_eqUndoS := contract_of (C := X_laws_eqUndoS) (fn := Try.f45) (tysOk_at (C := X0) rfl tysOk) (ctxOk_of (P := Try.prog) ⟨c_laws_eqUndo, trivial⟩) follows Try.func45 b_laws_eqUndoS n_laws_eqUndoS (fun t ys h => (e_laws_eqUndoS t).trans h)
theorem b_laws_eqChain : Try.f10.body.isSome = true := by kernel_rfl
theorem n_laws_eqChain : (Try.f10.name == "runtime.NumGoroutine") = false := by kernel_rfl
theorem c_laws_eqChain : Contract Try.prog 10 K_laws_eqChain := contract_of (C := X_laws_eqChain) (fn := Try.f10) (tysOk_at (C := X0) rfl tysOk) (ctxOk_of (P := Try.prog) ⟨c_laws_eqLedger, c_laws_eqNodeS, c_laws_eqInt64S, c_laws_eqState, c_laws_eqUndoS, trivial⟩) follows Try.func10 b_laws_eqChain n_laws_eqChain (fun t ys h => (e_laws_eqChain t).trans h)
theorem b_laws_FnExactSameChains : Try.f3.body.isSome = true := by kernel_rfl
theorem n_laws_FnExactSameChains : (Try.f3.name == "runtime.NumGoroutine") = false := by kernel_rfl
theorem c_laws_FnExactSameChains : Contract Try.prog 3 K_laws_FnExactSameChains := contract_of (C := X_laws_FnExactSameChains) (fn := Try.f3) (tysOk_at (C := X0) rfl tysOk) (ctxOk_of (P := Try.prog) ⟨c_laws_szChain, c_spec_SameChains, c_laws_toChain, c_impl_SameChains, c_laws_eqChain, trivial⟩) follows Try.func3 b_laws_FnExactSameChains n_laws_FnExactSameChains (fun t ys h => (e_laws_FnExactSameChains t).trans h)
end SC
end Go.Dx
