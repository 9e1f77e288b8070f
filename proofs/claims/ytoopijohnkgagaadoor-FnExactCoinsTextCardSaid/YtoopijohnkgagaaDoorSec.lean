/- The executor finds what each function computes: by computation -/
import Derived.Test.YtoopijohnkgagaaDoorSca
set_option linter.unusedVariables false
set_option linter.unusedSimpArgs false
set_option maxRecDepth 100000
set_option maxHeartbeats 0
namespace Go.Dx
open Go.Proofs
namespace DL

theorem e_impl_CoinsFault (t:TupI (K_impl_CoinsFault.ins.map PS.sh)):runF X_impl_CoinsFault Tryd.f28 K_impl_CoinsFault t=K_impl_CoinsFault.F t:=by kernel_rfl
theorem e_laws_eqOut (t:TupI (K_laws_eqOut.ins.map PS.sh)):runF X_laws_eqOut Tryd.f55 K_laws_eqOut t=K_laws_eqOut.F t:=by kernel_rfl
theorem e_impl_CoinsText (t:TupI (K_impl_CoinsText.ins.map PS.sh)):runF X_impl_CoinsText Tryd.f14 K_impl_CoinsText t=K_impl_CoinsText.F t:=by kernel_rfl
theorem e_laws_szOut (t:TupI (K_laws_szOut.ins.map PS.sh)):runF X_laws_szOut Tryd.f38 K_laws_szOut t=K_laws_szOut.F t:=by kernel_rfl
theorem e_laws_FnExactCoinsText (t:TupI (K_laws_FnExactCoinsText.ins.map PS.sh)):runF X_laws_FnExactCoinsText Tryd.f4 K_laws_FnExactCoinsText t=K_laws_FnExactCoinsText.F t:=by kernel_rfl
theorem e_impl_joined (t:TupI (K_impl_joined.ins.map PS.sh)):runF X_impl_joined Tryd.f72 K_impl_joined t=K_impl_joined.F t:=by kernel_rfl
theorem e_impl_areKeys (t:TupI (K_impl_areKeys.ins.map PS.sh)):runF X_impl_areKeys Tryd.f67 K_impl_areKeys t=K_impl_areKeys.F t:=by kernel_rfl
theorem e_spec_l4Ahead (t:TupI (K_spec_l4Ahead.ins.map PS.sh)):runF X_spec_l4Ahead Tryd.f42 K_spec_l4Ahead t=K_spec_l4Ahead.F t:=by kernel_rfl
end DL
end Go.Dx

