/- The executor finds what each function computes: by computation -/
import Derived.Test.YtdlnpjjdenahoaaSca
set_option linter.unusedVariables false
set_option linter.unusedSimpArgs false
set_option maxRecDepth 100000
set_option maxHeartbeats 0
namespace Go.Dx
open Go.Proofs
namespace SC
theorem e_spec_l8Same (t : TupI (K_spec_l8Same.ins.map PS.sh)) : runF X_spec_l8Same Try.f33 K_spec_l8Same t = K_spec_l8Same.F t := by kernel_rfl
end SC
end Go.Dx
