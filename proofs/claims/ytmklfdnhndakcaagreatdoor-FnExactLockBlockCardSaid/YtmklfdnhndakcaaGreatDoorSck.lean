/- The functions in a table: parameters, results, what each computes -/
import Derived.Test.YtmklfdnhndakcaaGreatDoorSca
set_option linter.unusedVariables false
set_option linter.unusedSimpArgs false
set_option maxRecDepth 100000
set_option maxHeartbeats 0
namespace Go.Dx
open Go.Proofs
namespace GL
noncomputable def np:List (FuncId×NewP):=[]
noncomputable def Qem:Callee:=⟨[v0 s16,vI],[oB],u2 Ji,false⟩
end GL
end Go.Dx
