/- The executor finds what each function computes: by computation -/
import Derived.Test.YtlpbfnhgmhpccaaGreatDoorScb
set_option linter.unusedVariables false
set_option linter.unusedSimpArgs false
set_option maxRecDepth 100000
set_option maxHeartbeats 0
namespace Go.Dx
open Go.Proofs
namespace GL

theorem QtH:EQ Qsp Tryz.f3 QhY:=fun t=>by kernel_rfl
end GL
end Go.Dx

