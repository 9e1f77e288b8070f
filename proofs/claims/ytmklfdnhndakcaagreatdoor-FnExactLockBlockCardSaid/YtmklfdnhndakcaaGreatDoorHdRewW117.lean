/- A function of the library, walked -/
import Derived.Test.YtmklfdnhndakcaaGreatDoorProg
import Derived.WalkKit
import Derived.KernelRfl
import Derived.Test.YtmklfdnhndakcaaGreatDoorDxd
set_option linter.unusedVariables false
set_option linter.unusedSimpArgs false
namespace Go.Dx
open Go.Proofs Go.RowKit
set_option maxHeartbeats 4000000 in
set_option maxRecDepth 1000000 in
theorem Qvk (h:Int) (w:World):Calls Tryz.prog 117 #[.int .i64 h] w fun e w'=>e=.returned (.int .i64 (1000 / 2 ^ min (IntKind.u64.wrap (RowKit.wrap64 ((RowKit.wrap64 (h - 1)).tdiv 8))).toNat 64))/\w'=w:=by
 go_enter Tryz.func117,Tryz.ntmps117
 go_wp2
 go_ret
 exact⟨rfl,rfl⟩
theorem QuU {W0:World} (hE:Enters Tryz.prog 117):Contract Tryz.prog W0 117 { ins:=[.v (.int .i64) .z],outs:=[(.int .i64,.z)],F:=fun t=>some ((1000:Int) / 2 ^ min (IntKind.u64.wrap (RowKit.wrap64 ((RowKit.wrap64 ((t.1:Int) - 1)).tdiv 8))).toNat 64) }:=by
 refine⟨hE,fun w ow vs xs ys hlt hG hp hF=>?_⟩
 match vs,hp with
 | [],hp=>exact hp.elim
 | _::_::_,hp=>cases hp.2
 | [v],hp=>
  obtain⟨h1,_⟩:=hp
  obtain⟨x,_⟩:=xs
  have h1:=Jm rfl h1
  subst h1
  have hF:some ((1000:Int) / 2 ^ min (IntKind.u64.wrap (RowKit.wrap64 ((RowKit.wrap64 (x - 1)).tdiv 8))).toNat 64)=some ys:=hF
  have hF:=Option.some.inj hF
  subst hF
  refine (Qvk x w).mono fun e w' hh=>?_
  obtain⟨rfl,rfl⟩:=hh
  refine⟨_,ow,rfl,⟨rfl,rfl,rfl,Nat.le_refl _,fun _=>Nat.le_refl _⟩,fun i hi _=>⟨rfl,rfl⟩,hlt,?_,⟨rfl,rfl⟩⟩
  exact⟨rfl,QbM _⟩
end Go.Dx
