/- The executor finds what each function computes: by computation -/
import Derived.Test.YtchhjadkiimhgaaGreatSca
set_option linter.unusedVariables false
set_option linter.unusedSimpArgs false
set_option maxRecDepth 100000
set_option maxHeartbeats 0
namespace Go.Dx
open Go.Proofs
namespace CL

theorem e_laws_lwCluster (t:TupI (K_laws_lwCluster.ins.map PS.sh)):runF X_laws_lwCluster Tryz.f35 K_laws_lwCluster t=K_laws_lwCluster.F t:=by kernel_rfl
end CL
end Go.Dx

