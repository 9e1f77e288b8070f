/- The executor finds what each function computes: by computation -/
import Derived.Test.YtchhjadkiimhgaaGreatSca
set_option linter.unusedVariables false
set_option linter.unusedSimpArgs false
set_option maxRecDepth 100000
set_option maxHeartbeats 0
namespace Go.Dx
open Go.Proofs
namespace CL

theorem e_laws_FnHearers (t:TupI (K_laws_FnHearers.ins.map PS.sh)):runF X_laws_FnHearers Tryz.f8 K_laws_FnHearers t=K_laws_FnHearers.F t:=by kernel_rfl
end CL
end Go.Dx

