/- A function of the library, walked -/
import Derived.Test.YtdioofjjodddhaaGreatDoorSca
import Derived.KernelRfl
set_option linter.unusedVariables false
set_option linter.unusedSimpArgs false
set_option maxRecDepth 100000
namespace Go.Dx
open Go.Proofs
namespace GL
noncomputable def KDig (k:Nat):Callee:={ ins:=[.v (.int .i64) .z],outs:=[(.str,.z)],F:=fun t=>digS k t.1 }
noncomputable def XDig (k:Nat):Ctx:={ tys:=tys,fns:=[(82,KDig k)],frz:=[],lps:=[],jns:=[],rjs:=[] }
theorem Qt4 (k:Nat) (t:TupI ((KDig (k+1)).ins.map PS.sh)):runF (XDig k) Tryz.f82 (KDig (k+1)) t=digT k t.1:=by kernel_rfl
theorem QsT:Tryz.f82.body.isSome=true:=by kernel_rfl
theorem QsU:(Tryz.f82.name == "runtime.NumGoroutine")=false:=by kernel_rfl
theorem QsZ {W0:World}:∀k,Contract Tryz.prog W0 82 (KDig k)
 | 0=>⟨⟨_,Tryz.func82,QsT,QsU⟩,fun w ow vs xs ys _ _ _ hF=>by
  have hF:digS 0 xs.1=some ys:=hF
  rw[QrG] at hF;cases hF⟩
 | k+1=>QbF (K:=KDig (k+1)) (C:=XDig k) (fn:=Tryz.f82) (QnZ (C:=X0) rfl QpO) (QsJ (P:=Tryz.prog) ⟨QsZ k,trivial⟩) follows Tryz.func82 QsT QsU (fun t ys h=>(Qt4 k t).trans (QqI h))
end GL
end Go.Dx
