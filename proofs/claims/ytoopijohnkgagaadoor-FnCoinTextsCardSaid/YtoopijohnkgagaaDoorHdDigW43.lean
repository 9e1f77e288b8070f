/- A function of the library, walked -/
import Derived.Test.YtoopijohnkgagaaDoorSca
import Derived.KernelRfl
set_option linter.unusedVariables false
set_option linter.unusedSimpArgs false
set_option maxRecDepth 100000
namespace Go.Dx
open Go.Proofs
namespace DL
noncomputable def KDig (k:Nat):Callee:={ ins:=[.v (.int .i64) .z],outs:=[(.str,.z)],F:=fun t=>digS k t.1 }
noncomputable def XDig (k:Nat):Ctx:={ tys:=tys,fns:=[(43,KDig k)],frz:=[],lps:=[],jns:=[],rjs:=[] }
theorem e_dig (k:Nat) (t:TupI ((KDig (k+1)).ins.map PS.sh)):runF (XDig k) Tryd.f43 (KDig (k+1)) t=digT k t.1:=by kernel_rfl
theorem b_dig:Tryd.f43.body.isSome=true:=by kernel_rfl
theorem n_dig:(Tryd.f43.name == "runtime.NumGoroutine")=false:=by kernel_rfl
theorem c_dig {W0:World}:∀k,Contract Tryd.prog W0 43 (KDig k)
 | 0=>⟨⟨_,Tryd.func43,b_dig,n_dig⟩,fun w ow vs xs ys _ _ _ hF=>by
  have hF:digS 0 xs.1=some ys:=hF
  rw[digS_zero] at hF;cases hF⟩
 | k+1=>contract_of (K:=KDig (k+1)) (C:=XDig k) (fn:=Tryd.f43) (tysOk_at (C:=X0) rfl tysOk) (ctxOk_of (P:=Tryd.prog) ⟨c_dig k,trivial⟩) follows Tryd.func43 b_dig n_dig (fun t ys h=>(e_dig k t).trans (digS_step h))
end DL
end Go.Dx
