/- The executor finds what each function computes: by computation -/
import Derived.Test.YtoopijohnkgagaaDoorSca
set_option linter.unusedVariables false
set_option linter.unusedSimpArgs false
set_option maxRecDepth 100000
set_option maxHeartbeats 0
namespace Go.Dx
open Go.Proofs
namespace DL

theorem e_spec_l16Words (t:TupI (K_spec_l16Words.ins.map PS.sh)):runF X_spec_l16Words Tryd.f19 K_spec_l16Words t=K_spec_l16Words.F t:=by kernel_rfl
theorem e_impl_WordsOf (t:TupI (K_impl_WordsOf.ins.map PS.sh)):runF X_impl_WordsOf Tryd.f7 K_impl_WordsOf t=K_impl_WordsOf.F t:=by kernel_rfl
theorem e_laws_markText (t:TupI (K_laws_markText.ins.map PS.sh)):runF X_laws_markText Tryd.f37 K_laws_markText t=K_laws_markText.F t:=by kernel_rfl
end DL
end Go.Dx

