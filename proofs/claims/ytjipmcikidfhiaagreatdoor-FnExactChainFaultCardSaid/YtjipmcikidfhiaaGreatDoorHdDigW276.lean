/- A function of the library, walked -/
import Derived.Test.YtjipmcikidfhiaaGreatDoorSca
import Derived.KernelRfl
set_option linter.unusedVariables false
set_option linter.unusedSimpArgs false
set_option maxRecDepth 100000
namespace Go.Dx
open Go.Proofs
namespace GL
noncomputable def KDig (k:Nat):Callee:={ ins:=[.v (.int .i64) .z],outs:=[(.str,.z)],F:=fun t=>digS k t.1 }
noncomputable def XDig (k:Nat):Ctx:={ tys:=tys,fns:=[(276,KDig k)],frz:=[],lps:=[],jns:=[],rjs:=[] }
theorem Qtt (k:Nat) (t:TupI ((KDig (k+1)).ins.map PS.sh)):runF (XDig k) Tryz.f276 (KDig (k+1)) t=digT k t.1:=by kernel_rfl
theorem Qsl:Tryz.f276.body.isSome=true:=by kernel_rfl
theorem Qsh:(Tryz.f276.name == "runtime.NumGoroutine")=false:=by kernel_rfl
theorem Qsk {W0:World}:∀k,Contract Tryz.prog W0 276 (KDig k)
 | 0=>⟨⟨_,Tryz.func276,Qsl,Qsh⟩,fun w ow vs xs ys _ _ _ hF=>by
  have hF:digS 0 xs.1=some ys:=hF
  rw[Qqh] at hF;cases hF⟩
 | k+1=>QbC (K:=KDig (k+1)) (C:=XDig k) (fn:=Tryz.f276) (QnC (C:=X0) rfl Qpq) (Qr5 (P:=Tryz.prog) ⟨Qsk k,trivial⟩) follows Tryz.func276 Qsl Qsh (fun t ys h=>(Qtt k t).trans (Qq1 h))
end GL
end Go.Dx
