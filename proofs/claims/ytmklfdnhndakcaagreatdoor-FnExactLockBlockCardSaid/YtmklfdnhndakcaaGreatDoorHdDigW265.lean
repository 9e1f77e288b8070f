/- A function of the library, walked -/
import Derived.Test.YtmklfdnhndakcaaGreatDoorSca
import Derived.KernelRfl
set_option linter.unusedVariables false
set_option linter.unusedSimpArgs false
set_option maxRecDepth 100000
namespace Go.Dx
open Go.Proofs
namespace GL
noncomputable def KDig (k:Nat):Callee:={ ins:=[.v (.int .i64) .z],outs:=[(.str,.z)],F:=fun t=>digS k t.1 }
noncomputable def XDig (k:Nat):Ctx:={ tys:=tys,fns:=[(265,KDig k)],frz:=[],lps:=[],jns:=[],rjs:=[] }
theorem Qw9 (k:Nat) (t:TupI ((KDig (k+1)).ins.map PS.sh)):runF (XDig k) Tryz.f265 (KDig (k+1)) t=digT k t.1:=by kernel_rfl
theorem QvG:Tryz.f265.body.isSome=true:=by kernel_rfl
theorem QvE:(Tryz.f265.name == "runtime.NumGoroutine")=false:=by kernel_rfl
theorem QvF {W0:World}:∀k,Contract Tryz.prog W0 265 (KDig k)
 | 0=>⟨⟨_,Tryz.func265,QvG,QvE⟩,fun w ow vs xs ys _ _ _ hF=>by
  have hF:digS 0 xs.1=some ys:=hF
  rw[QtN] at hF;cases hF⟩
 | k+1=>QcZ (K:=KDig (k+1)) (C:=XDig k) (fn:=Tryz.f265) (Qqj (C:=X0) rfl QsL) (QuD (P:=Tryz.prog) ⟨QvF k,trivial⟩) follows Tryz.func265 QvG QvE (fun t ys h=>(Qw9 k t).trans (Qty h))
end GL
end Go.Dx
