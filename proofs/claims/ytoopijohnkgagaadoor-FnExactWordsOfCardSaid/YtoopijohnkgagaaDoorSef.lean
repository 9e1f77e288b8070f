/- The executor finds what each function computes: by computation -/
import Derived.Test.YtoopijohnkgagaaDoorSca
set_option linter.unusedVariables false
set_option linter.unusedSimpArgs false
set_option maxRecDepth 100000
set_option maxHeartbeats 0
namespace Go.Dx
open Go.Proofs
namespace DL

theorem e_laws_FnExactWordsOf (t:TupI (K_laws_FnExactWordsOf.ins.map PS.sh)):runF X_laws_FnExactWordsOf Tryd.f3 K_laws_FnExactWordsOf t=K_laws_FnExactWordsOf.F t:=by kernel_rfl
theorem e_spec_WordsOf (t:TupI (K_spec_WordsOf.ins.map PS.sh)):runF X_spec_WordsOf Tryd.f6 K_spec_WordsOf t=K_spec_WordsOf.F t:=by kernel_rfl
theorem e_laws_markWordsResult (t:TupI (K_laws_markWordsResult.ins.map PS.sh)):runF X_laws_markWordsResult Tryd.f9 K_laws_markWordsResult t=K_laws_markWordsResult.F t:=by kernel_rfl
end DL
end Go.Dx

