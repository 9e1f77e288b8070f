/- A function of the library, walked -/
import Derived.Test.YtlpbfnhgmhpccaaGreatDoorSca
import Derived.KernelRfl
set_option linter.unusedVariables false
set_option linter.unusedSimpArgs false
set_option maxRecDepth 100000
namespace Go.Dx
open Go.Proofs
namespace GL
noncomputable def KDig (k:Nat):Callee:={ ins:=[.v (.int .i64) .z],outs:=[(.str,.z)],F:=fun t=>digS k t.1 }
noncomputable def XDig (k:Nat):Ctx:={ tys:=tys,fns:=[(136,KDig k)],frz:=[],lps:=[],jns:=[],rjs:=[] }
theorem QFb (k:Nat) (t:TupI ((KDig (k+1)).ins.map PS.sh)):runF (XDig k) Tryz.f136 (KDig (k+1)) t=digT k t.1:=by kernel_rfl
theorem Qwn:entB Tryz.f136=true:=by kernel_rfl
theorem QDH {W0:World}:∀k,Contract Tryz.prog W0 136 (KDig k)
 | 0=>⟨⟨_,Tryz.func136,(ent1 Qwn),(ent2 Qwn)⟩,fun w ow vs xs ys _ _ _ hF=>by
  have hF:digS 0 xs.1=some ys:=hF
  rw[QCg] at hF;cases hF⟩
 | k+1=>QdH (K:=KDig (k+1)) (C:=XDig k) (fn:=Tryz.f136) (Qw0 (C:=X0) rfl QAO) (Qa (P:=Tryz.prog) ⟨QDH k,trivial⟩) follows Tryz.func136 (ent1 Qwn) (ent2 Qwn) (fun t ys h=>(QFb k t).trans (QA6 h))
end GL
end Go.Dx
