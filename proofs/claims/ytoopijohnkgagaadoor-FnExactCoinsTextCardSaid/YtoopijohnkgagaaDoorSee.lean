/- The executor finds what each function computes: by computation -/
import Derived.Test.YtoopijohnkgagaaDoorSca
set_option linter.unusedVariables false
set_option linter.unusedSimpArgs false
set_option maxRecDepth 100000
set_option maxHeartbeats 0
namespace Go.Dx
open Go.Proofs
namespace DL

theorem e_impl_coinsText (t:TupI (K_impl_coinsText.ins.map PS.sh)):runF X_impl_coinsText Tryd.f29 K_impl_coinsText t=K_impl_coinsText.F t:=by kernel_rfl
theorem e_laws_eqInt64S (t:TupI (K_laws_eqInt64S.ins.map PS.sh)):runF X_laws_eqInt64S Tryd.f88 K_laws_eqInt64S t=K_laws_eqInt64S.F t:=by kernel_rfl
theorem e_laws_eqCoin (t:TupI (K_laws_eqCoin.ins.map PS.sh)):runF X_laws_eqCoin Tryd.f30 K_laws_eqCoin t=K_laws_eqCoin.F t:=by kernel_rfl
theorem e_spec_l4Out (t:TupI (K_spec_l4Out.ins.map PS.sh)):runF X_spec_l4Out Tryd.f41 K_spec_l4Out t=K_spec_l4Out.F t:=by kernel_rfl
theorem e_laws_szCoinS (t:TupI (K_laws_szCoinS.ins.map PS.sh)):runF X_laws_szCoinS Tryd.f11 K_laws_szCoinS t=K_laws_szCoinS.F t:=by kernel_rfl
theorem e_impl_dec (t:TupI (K_impl_dec.ins.map PS.sh)):runF X_impl_dec Tryd.f52 K_impl_dec t=K_impl_dec.F t:=by kernel_rfl
theorem e_laws_toCoin (t:TupI (K_laws_toCoin.ins.map PS.sh)):runF X_laws_toCoin Tryd.f27 K_laws_toCoin t=K_laws_toCoin.F t:=by kernel_rfl
theorem e_impl_within (t:TupI (K_impl_within.ins.map PS.sh)):runF X_impl_within Tryd.f49 K_impl_within t=K_impl_within.F t:=by kernel_rfl
theorem e_laws_toRef (t:TupI (K_laws_toRef.ins.map PS.sh)):runF X_laws_toRef Tryd.f45 K_laws_toRef t=K_laws_toRef.F t:=by kernel_rfl
theorem e_spec_l3Ref (t:TupI (K_spec_l3Ref.ins.map PS.sh)):runF X_spec_l3Ref Tryd.f39 K_spec_l3Ref t=K_spec_l3Ref.F t:=by kernel_rfl
end DL
end Go.Dx

