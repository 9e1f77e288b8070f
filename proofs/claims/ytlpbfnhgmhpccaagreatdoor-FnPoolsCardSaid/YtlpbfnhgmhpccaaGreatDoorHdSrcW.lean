/- A function of the library, walked -/
import Derived.Test.YtlpbfnhgmhpccaaGreatDoorProg
import Derived.WalkKit
import Derived.KernelRfl
import Derived.Test.YtlpbfnhgmhpccaaGreatDoorDxd
set_option linter.unusedVariables false
set_option linter.unusedSimpArgs false
namespace Go.Dx
open Go.Proofs
set_option maxHeartbeats 1600000 in
set_option maxRecDepth 1000000 in
theorem QEK {W0:World}:QrB Tryz.prog W0 15 ⟨[.list (.int .u8)],.prod (.list (.int .u8)) (.int .i64),fun t=>some (t.1,(0:Int))⟩:=by
 refine⟨⟨Tryz.f15,Tryz.func15,by kernel_rfl,by kernel_rfl⟩,?_⟩
 intro w Z vs xs y hZ hG ha hF
 match vs,ha with
 | [v],⟨hr,_⟩=>
  have h1:v.cells = #[v]:=hr.1
  obtain⟨A,n,cap,e1,e2,e3,e4⟩:=hr.2
  simp only[Qg,h1] at e1
  simp at e1
  subst e1
  go_enter Tryz.func15,Tryz.ntmps15
  go_wp2
  go_ret
  have hF:y=(xs.1,(0:Int)):=(Option.some.inj hF).symm
  subst hF
  have hN:(w.alloc (Obj.cells #[Value.slice A n cap,Value.int IntKind.i64 0] 104)).heap[w.heap.size]? = some (Obj.cells #[Value.slice A n cap,Value.int IntKind.i64 0] 104 (0,0)):=by rw[Yg,if_pos rfl]
  have hO:∀i,i<w.heap.size->(w.alloc (Obj.cells #[Value.slice A n cap,Value.int IntKind.i64 0] 104)).heap[i]? = w.heap[i]?:=fun i hi=>by rw[Yg,if_neg (by omega)]
  refine⟨w.heap.size,rfl,⟨rfl,rfl,rfl,by show w.heap.size<=(w.heap.push _).size;simp,Nat.le_refl _⟩,hO,Nat.le_refl _,_,⟨_,hN⟩,Nat.le_refl _,fun _=>true,⟨A,n,cap,?_,e2,e3,fun hn=>?_⟩,fun _=>?_⟩
  ·show World.cell? _ ⟨w.heap.size,0+0,none⟩=_
   unfold World.cell?
   simp only[hN]
   rfl
  ·obtain⟨b,off,f1,f2,f3⟩:=e4 hn
   refine⟨b,off,f1,f2,fun j hj=>?_⟩
   rw[Zc (hO b (hZ b f2))]
   exact (f3 j hj).frame (fun _ h=>h) (fun _ h=>h) (fun i hi=>hO i (hi.elim (fun h=>h.elim) (hZ i)))
  ·show World.cell? _ ⟨w.heap.size,0+(1+0),none⟩=_
   unfold World.cell?
   simp only[hN]
   rfl
end Go.Dx
