/- The executor finds what each function computes: by computation -/
import Derived.Test.YtchhjadkiimhgaaSca
set_option linter.unusedVariables false
set_option linter.unusedSimpArgs false
set_option maxRecDepth 100000
set_option maxHeartbeats 0
namespace Go.Dx
open Go.Proofs
namespace CL

theorem e_laws_FnNewClusters (t:TupI (K_laws_FnNewClusters.ins.map PS.sh)):runF X_laws_FnNewClusters Try.f3 K_laws_FnNewClusters t=K_laws_FnNewClusters.F t:=by kernel_rfl
end CL
end Go.Dx

