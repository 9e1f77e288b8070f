/- The executor finds what each function computes: by computation -/
import Derived.Test.YtoopijohnkgagaaDoorSca
set_option linter.unusedVariables false
set_option linter.unusedSimpArgs false
set_option maxRecDepth 100000
set_option maxHeartbeats 0
namespace Go.Dx
open Go.Proofs
namespace DL

theorem e_spec_l2Cut (t:TupI (K_spec_l2Cut.ins.map PS.sh)):runF X_spec_l2Cut Tryd.f33 K_spec_l2Cut t=K_spec_l2Cut.F t:=by kernel_rfl
theorem e_laws_markStringS (t:TupI (K_laws_markStringS.ins.map PS.sh)):runF X_laws_markStringS Tryd.f22 K_laws_markStringS t=K_laws_markStringS.F t:=by kernel_rfl
theorem e_impl_wordsOf_c1 (t:TupI (K_impl_wordsOf_c1.ins.map PS.sh)):runF X_impl_wordsOf_c1 Tryd.f36 K_impl_wordsOf_c1 t=K_impl_wordsOf_c1.F t:=by kernel_rfl
end DL
end Go.Dx

