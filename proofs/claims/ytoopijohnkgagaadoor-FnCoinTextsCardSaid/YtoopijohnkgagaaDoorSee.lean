/- The executor finds what each function computes: by computation -/
import Derived.Test.YtoopijohnkgagaaDoorSca
set_option linter.unusedVariables false
set_option linter.unusedSimpArgs false
set_option maxRecDepth 100000
set_option maxHeartbeats 0
namespace Go.Dx
open Go.Proofs
namespace DL

theorem e_impl_CoinsFault (t:TupI (K_impl_CoinsFault.ins.map PS.sh)):runF X_impl_CoinsFault Tryd.f28 K_impl_CoinsFault t=K_impl_CoinsFault.F t:=by kernel_rfl
theorem e_impl_coinsText (t:TupI (K_impl_coinsText.ins.map PS.sh)):runF X_impl_coinsText Tryd.f29 K_impl_coinsText t=K_impl_coinsText.F t:=by kernel_rfl
theorem e_impl_ruleText (t:TupI (K_impl_ruleText.ins.map PS.sh)):runF X_impl_ruleText Tryd.f53 K_impl_ruleText t=K_impl_ruleText.F t:=by kernel_rfl
theorem e_spec_l4Bent (t:TupI (K_spec_l4Bent.ins.map PS.sh)):runF X_spec_l4Bent Tryd.f31 K_spec_l4Bent t=K_spec_l4Bent.F t:=by kernel_rfl
theorem e_impl_wordsOf_c1 (t:TupI (K_impl_wordsOf_c1.ins.map PS.sh)):runF X_impl_wordsOf_c1 Tryd.f36 K_impl_wordsOf_c1 t=K_impl_wordsOf_c1.F t:=by kernel_rfl
theorem e_cmp_Compare_int64 (t:TupI (K_cmp_Compare_int64.ins.map PS.sh)):runF X_cmp_Compare_int64 Tryd.f70 K_cmp_Compare_int64 t=K_cmp_Compare_int64.F t:=by kernel_rfl
theorem e_spec_l1Key (t:TupI (K_spec_l1Key.ins.map PS.sh)):runF X_spec_l1Key Tryd.f80 K_spec_l1Key t=K_spec_l1Key.F t:=by kernel_rfl
theorem e_spec_l3Ref (t:TupI (K_spec_l3Ref.ins.map PS.sh)):runF X_spec_l3Ref Tryd.f39 K_spec_l3Ref t=K_spec_l3Ref.F t:=by kernel_rfl
theorem e_spec_l2Height (t:TupI (K_spec_l2Height.ins.map PS.sh)):runF X_spec_l2Height Tryd.f40 K_spec_l2Height t=K_spec_l2Height.F t:=by kernel_rfl
theorem e_impl_dec (t:TupI (K_impl_dec.ins.map PS.sh)):runF X_impl_dec Tryd.f52 K_impl_dec t=K_impl_dec.F t:=by kernel_rfl
end DL
end Go.Dx

