/- A function of the library, walked -/
import Derived.Test.YtamhnaplipcapaaGreatDoorSca
import Derived.KernelRfl
set_option linter.unusedVariables false
set_option linter.unusedSimpArgs false
set_option maxRecDepth 100000
namespace Go.Dx
open Go.Proofs
namespace GL
noncomputable def KDig (k:Nat):Callee:={ ins:=[.v (.int .i64) .z],outs:=[(.str,.z)],F:=fun t=>digS k t.1 }
noncomputable def XDig (k:Nat):Ctx:={ tys:=tys,fns:=[(274,KDig k)],frz:=[],lps:=[],jns:=[],rjs:=[] }
theorem QwZ (k:Nat) (t:TupI ((KDig (k+1)).ins.map PS.sh)):runF (XDig k) Tryz.f274 (KDig (k+1)) t=digT k t.1:=by kernel_rfl
theorem Qvw:Tryz.f274.body.isSome=true:=by kernel_rfl
theorem QvA:(Tryz.f274.name == "runtime.NumGoroutine")=false:=by kernel_rfl
theorem QvB {W0:World}:∀k,Contract Tryz.prog W0 274 (KDig k)
 | 0=>⟨⟨_,Tryz.func274,Qvw,QvA⟩,fun w ow vs xs ys _ _ _ hF=>by
  have hF:digS 0 xs.1=some ys:=hF
  rw[Qtv] at hF;cases hF⟩
 | k+1=>QcQ (K:=KDig (k+1)) (C:=XDig k) (fn:=Tryz.f274) (Qp8 (C:=X0) rfl QrR) (QuE (P:=Tryz.prog) ⟨QvB k,trivial⟩) follows Tryz.func274 Qvw QvA (fun t ys h=>(QwZ k t).trans (Qs5 h))
end GL
end Go.Dx
