/- The executor finds what each function computes: by computation -/
import Derived.Test.YtoopijohnkgagaaDoorSca
set_option linter.unusedVariables false
set_option linter.unusedSimpArgs false
set_option maxRecDepth 100000
set_option maxHeartbeats 0
namespace Go.Dx
open Go.Proofs
namespace DL

theorem e_laws_eqStringS (t:TupI (K_laws_eqStringS.ins.map PS.sh)):runF X_laws_eqStringS Tryd.f21 K_laws_eqStringS t=K_laws_eqStringS.F t:=by kernel_rfl
theorem e_laws_eqWordsResult (t:TupI (K_laws_eqWordsResult.ins.map PS.sh)):runF X_laws_eqWordsResult Tryd.f8 K_laws_eqWordsResult t=K_laws_eqWordsResult.F t:=by kernel_rfl
end DL
end Go.Dx

