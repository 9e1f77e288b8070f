/- A function of the library, walked -/
import Derived.Test.YtafmdbgjajnnkaaGreatDoorSca
import Derived.KernelRfl
set_option linter.unusedVariables false
set_option linter.unusedSimpArgs false
set_option maxRecDepth 100000
namespace Go.Dx
open Go.Proofs
namespace GL
noncomputable def KDig (k:Nat):Callee:={ ins:=[.v (.int .i64) .z],outs:=[(.str,.z)],F:=fun t=>digS k t.1 }
noncomputable def XDig (k:Nat):Ctx:={ tys:=tys,fns:=[(167,KDig k)],frz:=[],lps:=[],jns:=[],rjs:=[] }
theorem QEY (k:Nat) (t:TupI ((KDig (k+1)).ins.map PS.sh)):runF (XDig k) Tryz.f167 (KDig (k+1)) t=digT k t.1:=by kernel_rfl
theorem Qxk:entB Tryz.f167=true:=by kernel_rfl
theorem QDp {W0:World}:∀k,Contract Tryz.prog W0 167 (KDig k)
 | 0=>⟨⟨_,Tryz.func167,(ent1 Qxk),(ent2 Qxk)⟩,fun w ow vs xs ys _ _ _ hF=>by
  have hF:digS 0 xs.1=some ys:=hF
  rw[QBI] at hF;cases hF⟩
 | k+1=>Qa (K:=KDig (k+1)) (C:=XDig k) (fn:=Tryz.f167) (Qb (C:=X0) rfl Qd) (Qc (P:=Tryz.prog) ⟨QDp k,trivial⟩) follows Tryz.func167 (ent1 Qxk) (ent2 Qxk) (fun t ys h=>(QEY k t).trans (QBN h))
end GL
end Go.Dx
