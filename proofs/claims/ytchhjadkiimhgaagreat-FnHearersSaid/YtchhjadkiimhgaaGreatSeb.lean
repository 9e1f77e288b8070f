/- The executor finds what each function computes: by computation -/
import Derived.Test.YtchhjadkiimhgaaGreatSca
set_option linter.unusedVariables false
set_option linter.unusedSimpArgs false
set_option maxRecDepth 100000
set_option maxHeartbeats 0
namespace Go.Dx
open Go.Proofs
namespace CL

theorem e_spec_l11Vote (t:TupI (K_spec_l11Vote.ins.map PS.sh)):runF X_spec_l11Vote Tryz.f54 K_spec_l11Vote t=K_spec_l11Vote.F t:=by kernel_rfl
end CL
end Go.Dx

