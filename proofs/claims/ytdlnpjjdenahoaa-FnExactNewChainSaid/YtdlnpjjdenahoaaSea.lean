/- The executor finds what each function computes: by computation -/
import Derived.Test.YtdlnpjjdenahoaaSca
set_option linter.unusedVariables false
set_option linter.unusedSimpArgs false
set_option maxRecDepth 100000
set_option maxHeartbeats 0
namespace Go.Dx
open Go.Proofs
namespace NC

theorem e_spec_l1Fault (t : TupI (K_spec_l1Fault.ins.map PS.sh)) : runF X_spec_l1Fault Try.f48 K_spec_l1Fault t = K_spec_l1Fault.F t := by kernel_rfl
end NC
end Go.Dx
