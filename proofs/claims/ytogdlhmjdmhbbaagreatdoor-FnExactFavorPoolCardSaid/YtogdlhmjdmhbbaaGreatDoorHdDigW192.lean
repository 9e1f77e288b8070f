/- A function of the library, walked -/
import Derived.Test.YtogdlhmjdmhbbaaGreatDoorSca
import Derived.KernelRfl
set_option linter.unusedVariables false
set_option linter.unusedSimpArgs false
set_option maxRecDepth 100000
namespace Go.Dx
open Go.Proofs
namespace GL
noncomputable def KDig (k:Nat):Callee:={ ins:=[.v (.int .i64) .z],outs:=[(.str,.z)],F:=fun t=>digS k t.1 }
noncomputable def XDig (k:Nat):Ctx:={ tys:=tys,fns:=[(192,KDig k)],frz:=[],lps:=[],jns:=[],rjs:=[] }
theorem QGQ (k:Nat) (t:TupI ((KDig (k+1)).ins.map PS.sh)):runF (XDig k) Tryz.f192 (KDig (k+1)) t=digT k t.1:=by kernel_rfl
theorem QFA:entB Tryz.f192=true:=by kernel_rfl
theorem QFD {W0:World}:∀k,Contract Tryz.prog W0 192 (KDig k)
 | 0=>⟨⟨_,Tryz.func192,(ent1 QFA),(ent2 QFA)⟩,fun w ow vs xs ys _ _ _ hF=>by
  have hF:digS 0 xs.1=some ys:=hF
  rw[QDN] at hF;cases hF⟩
 | k+1=>Qa (K:=KDig (k+1)) (C:=XDig k) (fn:=Tryz.f192) (Qc (C:=X0) rfl Qe) (Qb (P:=Tryz.prog) ⟨QFD k,trivial⟩) follows Tryz.func192 (ent1 QFA) (ent2 QFA) (fun t ys h=>(QGQ k t).trans (QD9 h))
end GL
end Go.Dx
