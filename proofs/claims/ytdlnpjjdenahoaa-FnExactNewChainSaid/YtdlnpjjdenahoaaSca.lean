/- What each function computes, as a function of plain data (F), its parameters (K) and hints for the executor (X); the types -/
import Derived.Test.YtdlnpjjdenahoaaDxd
import Derived.Test.YtdlnpjjdenahoaaProg
import Derived.KernelRfl
set_option linter.unusedVariables false
set_option linter.unusedSimpArgs false
set_option maxRecDepth 100000
set_option maxHeartbeats 0
namespace Go.Dx
open Go.Proofs
namespace NC
def s0 : Sh := (.prod (.int .i64) (.int .i64))
def s1 : Sh := (.prod (.list .str) (.list s0))
def s2 : Sh := (.prod (.int .i64) s0)
def s3 : Sh := (.prod (.list (.int .i64)) s0)
def s4 : Sh := (.prod (.int .i64) s3)
def s5 : Sh := (.prod (.int .i64) .bool)
def s6 : Sh := (.prod s4 s5)
def s7 : Sh := (.prod s0 s6)
def s8 : Sh := (.prod (.list s7) (.list s2))
def s9 : Sh := (.prod (.int .i64) s8)
def s10 : Sh := (.prod (.int .i64) s9)
def s11 : Sh := (.prod (.list (.list s7)) (.list s2))
def s12 : Sh := (.prod (.int .i64) s11)
def s13 : Sh := (.prod s10 (.list s12))
def s14 : Sh := (.prod (.list (.int .i64)) s13)
def s15 : Sh := (.prod (.list s2) s14)
def s16 : Sh := (.prod s1 s15)
def s17 : Sh := (.prod (.int .i64) s16)
def s18 : Sh := (.prod (.int .i64) s17)
def tys : List (TypeId × TI) := [(2, ⟨(.int .i64), 8, .int .i64⟩),
  (3, ⟨(.int .i64), 8, .int .i64⟩),
  (4, ⟨.bool, 1, .bool⟩),
  (5, ⟨(.int .u8), 1, .int .u8⟩),
  (9, ⟨.str, 16, .str⟩),
  (22, ⟨(.list .str), 24, .slice 9⟩),
  (23, ⟨(.list s0), 24, .slice 167⟩),
  (25, ⟨s1, 48, .struct [(0, 22), (1, 23)]⟩),
  (27, ⟨(.list (.int .i64)), 24, .slice 2⟩),
  (37, ⟨(.list s0), 24, .slice 164⟩),
  (39, ⟨s1, 48, .struct [(0, 22), (1, 37)]⟩),
  (40, ⟨(.list s2), 24, .slice 91⟩),
  (41, ⟨(.list s7), 24, .slice 210⟩),
  (42, ⟨(.list s2), 24, .slice 214⟩),
  (44, ⟨s10, 64, .struct [(0, 2), (1, 2), (2, 41), (3, 42)]⟩),
  (45, ⟨(.list s12), 24, .slice 158⟩),
  (47, ⟨s16, 184, .struct [(0, 39), (2, 40), (3, 27), (4, 44), (8, 45)]⟩),
  (52, ⟨s18, 200, .struct [(0, 2), (1, 2), (2, 47)]⟩),
  (60, ⟨(.list (.int .u8)), 24, .slice 5⟩),
  (91, ⟨s2, 24, .struct [(0, 2), (1, 2), (2, 2)]⟩),
  (139, ⟨s0, 16, .struct [(0, 2), (1, 2)]⟩),
  (156, ⟨(.list (.list s7)), 24, .slice 41⟩),
  (158, ⟨s12, 56, .struct [(0, 2), (1, 156), (2, 42)]⟩),
  (164, ⟨s0, 16, .struct [(0, 2), (1, 2)]⟩),
  (167, ⟨s0, 16, .struct [(0, 2), (1, 2)]⟩),
  (206, ⟨s3, 40, .struct [(0, 27), (1, 2), (2, 2)]⟩),
  (208, ⟨s4, 48, .struct [(0, 2), (1, 206)]⟩),
  (210, ⟨s7, 80, .struct [(0, 139), (2, 208), (6, 2), (7, 4)]⟩),
  (214, ⟨s2, 24, .struct [(0, 2), (1, 139)]⟩)]
def X0 : Ctx := { tys := tys, fns := [], frz := [], lps := [], jns := [], rjs := [] }
theorem ty2 : TyOk Try.prog X0 2 ⟨(.int .i64), 8, .int .i64⟩ := ⟨⟨Try.t2, Try.type2, rfl, by decide, by decide, rfl⟩, ⟨Try.underlying2, rfl⟩⟩
theorem ty3 : TyOk Try.prog X0 3 ⟨(.int .i64), 8, .int .i64⟩ := ⟨⟨Try.t3, Try.type3, rfl, by decide, by decide, rfl⟩, ⟨Try.underlying3, rfl⟩⟩
theorem ty4 : TyOk Try.prog X0 4 ⟨.bool, 1, .bool⟩ := ⟨⟨Try.t4, Try.type4, rfl, by decide, by decide, rfl⟩, ⟨Try.underlying4, rfl⟩⟩
theorem ty5 : TyOk Try.prog X0 5 ⟨(.int .u8), 1, .int .u8⟩ := ⟨⟨Try.t5, Try.type5, rfl, by decide, by decide, rfl⟩, ⟨Try.underlying5, rfl⟩⟩
theorem ty9 : TyOk Try.prog X0 9 ⟨.str, 16, .str⟩ := ⟨⟨Try.t9, Try.type9, rfl, by decide, by decide, rfl⟩, ⟨Try.underlying9, rfl⟩⟩
theorem ty22 : TyOk Try.prog X0 22 ⟨(.list .str), 24, .slice 9⟩ := ⟨⟨Try.t22, Try.type22, rfl, by decide, by decide, rfl⟩, ⟨Try.underlying22, _, rfl, rfl⟩⟩
theorem ty23 : TyOk Try.prog X0 23 ⟨(.list s0), 24, .slice 167⟩ := ⟨⟨Try.t23, Try.type23, rfl, by decide, by decide, rfl⟩, ⟨Try.underlying23, _, rfl, rfl⟩⟩
theorem ty25 : TyOk Try.prog X0 25 ⟨s1, 48, .struct [(0, 22), (1, 23)]⟩ := ⟨⟨Try.t25, Try.type25, rfl, by decide, by decide, rfl⟩, ⟨⟨_, Try.underlying25, rfl, by simp⟩, ⟨_, _, rfl, rfl, ⟨_, rfl, rfl⟩, ⟨rfl, _, rfl, rfl⟩⟩, by decide, Try.eqGuardType25, Try.stoodInHeld25⟩⟩
theorem ty27 : TyOk Try.prog X0 27 ⟨(.list (.int .i64)), 24, .slice 2⟩ := ⟨⟨Try.t27, Try.type27, rfl, by decide, by decide, rfl⟩, ⟨Try.underlying27, _, rfl, rfl⟩⟩
theorem ty37 : TyOk Try.prog X0 37 ⟨(.list s0), 24, .slice 164⟩ := ⟨⟨Try.t37, Try.type37, rfl, by decide, by decide, rfl⟩, ⟨Try.underlying37, _, rfl, rfl⟩⟩
theorem ty39 : TyOk Try.prog X0 39 ⟨s1, 48, .struct [(0, 22), (1, 37)]⟩ := ⟨⟨Try.t39, Try.type39, rfl, by decide, by decide, rfl⟩, ⟨⟨_, Try.underlying39, rfl, by simp⟩, ⟨_, _, rfl, rfl, ⟨_, rfl, rfl⟩, ⟨rfl, _, rfl, rfl⟩⟩, by decide, Try.eqGuardType39, Try.stoodInHeld39⟩⟩
theorem ty40 : TyOk Try.prog X0 40 ⟨(.list s2), 24, .slice 91⟩ := ⟨⟨Try.t40, Try.type40, rfl, by decide, by decide, rfl⟩, ⟨Try.underlying40, _, rfl, rfl⟩⟩
theorem ty41 : TyOk Try.prog X0 41 ⟨(.list s7), 24, .slice 210⟩ := ⟨⟨Try.t41, Try.type41, rfl, by decide, by decide, rfl⟩, ⟨Try.underlying41, _, rfl, rfl⟩⟩
theorem ty42 : TyOk Try.prog X0 42 ⟨(.list s2), 24, .slice 214⟩ := ⟨⟨Try.t42, Try.type42, rfl, by decide, by decide, rfl⟩, ⟨Try.underlying42, _, rfl, rfl⟩⟩
theorem ty44 : TyOk Try.prog X0 44 ⟨s10, 64, .struct [(0, 2), (1, 2), (2, 41), (3, 42)]⟩ := ⟨⟨Try.t44, Try.type44, rfl, by decide, by decide, rfl⟩, ⟨⟨_, Try.underlying44, rfl, by simp⟩, ⟨_, _, rfl, rfl, ⟨_, rfl, rfl⟩, ⟨_, _, rfl, rfl, ⟨_, rfl, rfl⟩, ⟨_, _, rfl, rfl, ⟨_, rfl, rfl⟩, ⟨rfl, _, rfl, rfl⟩⟩⟩⟩, by decide, Try.eqGuardType44, Try.stoodInHeld44⟩⟩
theorem ty45 : TyOk Try.prog X0 45 ⟨(.list s12), 24, .slice 158⟩ := ⟨⟨Try.t45, Try.type45, rfl, by decide, by decide, rfl⟩, ⟨Try.underlying45, _, rfl, rfl⟩⟩
theorem ty47 : TyOk Try.prog X0 47 ⟨s16, 184, .struct [(0, 39), (2, 40), (3, 27), (4, 44), (8, 45)]⟩ := ⟨⟨Try.t47, Try.type47, rfl, by decide, by decide, rfl⟩, ⟨⟨_, Try.underlying47, rfl, by simp⟩, ⟨_, _, rfl, rfl, ⟨_, rfl, rfl⟩, ⟨_, _, rfl, rfl, ⟨_, rfl, rfl⟩, ⟨_, _, rfl, rfl, ⟨_, rfl, rfl⟩, ⟨_, _, rfl, rfl, ⟨_, rfl, rfl⟩, ⟨rfl, _, rfl, rfl⟩⟩⟩⟩⟩, by decide, Try.eqGuardType47, Try.stoodInHeld47⟩⟩
theorem ty52 : TyOk Try.prog X0 52 ⟨s18, 200, .struct [(0, 2), (1, 2), (2, 47)]⟩ := ⟨⟨Try.t52, Try.type52, rfl, by decide, by decide, rfl⟩, ⟨⟨_, Try.underlying52, rfl, by simp⟩, ⟨_, _, rfl, rfl, ⟨_, rfl, rfl⟩, ⟨_, _, rfl, rfl, ⟨_, rfl, rfl⟩, ⟨rfl, _, rfl, rfl⟩⟩⟩, by decide, Try.eqGuardType52, Try.stoodInHeld52⟩⟩
theorem ty60 : TyOk Try.prog X0 60 ⟨(.list (.int .u8)), 24, .slice 5⟩ := ⟨⟨Try.t60, Try.type60, rfl, by decide, by decide, rfl⟩, ⟨Try.underlying60, _, rfl, rfl⟩⟩
theorem ty91 : TyOk Try.prog X0 91 ⟨s2, 24, .struct [(0, 2), (1, 2), (2, 2)]⟩ := ⟨⟨Try.t91, Try.type91, rfl, by decide, by decide, rfl⟩, ⟨⟨_, Try.underlying91, rfl, by simp⟩, ⟨_, _, rfl, rfl, ⟨_, rfl, rfl⟩, ⟨_, _, rfl, rfl, ⟨_, rfl, rfl⟩, ⟨rfl, _, rfl, rfl⟩⟩⟩, by decide, Try.eqGuardType91, Try.stoodInHeld91⟩⟩
theorem ty139 : TyOk Try.prog X0 139 ⟨s0, 16, .struct [(0, 2), (1, 2)]⟩ := ⟨⟨Try.t139, Try.type139, rfl, by decide, by decide, rfl⟩, ⟨⟨_, Try.underlying139, rfl, by simp⟩, ⟨_, _, rfl, rfl, ⟨_, rfl, rfl⟩, ⟨rfl, _, rfl, rfl⟩⟩, by decide, Try.eqGuardType139, Try.stoodInHeld139⟩⟩
theorem ty156 : TyOk Try.prog X0 156 ⟨(.list (.list s7)), 24, .slice 41⟩ := ⟨⟨Try.t156, Try.type156, rfl, by decide, by decide, rfl⟩, ⟨Try.underlying156, _, rfl, rfl⟩⟩
theorem ty158 : TyOk Try.prog X0 158 ⟨s12, 56, .struct [(0, 2), (1, 156), (2, 42)]⟩ := ⟨⟨Try.t158, Try.type158, rfl, by decide, by decide, rfl⟩, ⟨⟨_, Try.underlying158, rfl, by simp⟩, ⟨_, _, rfl, rfl, ⟨_, rfl, rfl⟩, ⟨_, _, rfl, rfl, ⟨_, rfl, rfl⟩, ⟨rfl, _, rfl, rfl⟩⟩⟩, by decide, Try.eqGuardType158, Try.stoodInHeld158⟩⟩
theorem ty164 : TyOk Try.prog X0 164 ⟨s0, 16, .struct [(0, 2), (1, 2)]⟩ := ⟨⟨Try.t164, Try.type164, rfl, by decide, by decide, rfl⟩, ⟨⟨_, Try.underlying164, rfl, by simp⟩, ⟨_, _, rfl, rfl, ⟨_, rfl, rfl⟩, ⟨rfl, _, rfl, rfl⟩⟩, by decide, Try.eqGuardType164, Try.stoodInHeld164⟩⟩
theorem ty167 : TyOk Try.prog X0 167 ⟨s0, 16, .struct [(0, 2), (1, 2)]⟩ := ⟨⟨Try.t167, Try.type167, rfl, by decide, by decide, rfl⟩, ⟨⟨_, Try.underlying167, rfl, by simp⟩, ⟨_, _, rfl, rfl, ⟨_, rfl, rfl⟩, ⟨rfl, _, rfl, rfl⟩⟩, by decide, Try.eqGuardType167, Try.stoodInHeld167⟩⟩
theorem ty206 : TyOk Try.prog X0 206 ⟨s3, 40, .struct [(0, 27), (1, 2), (2, 2)]⟩ := ⟨⟨Try.t206, Try.type206, rfl, by decide, by decide, rfl⟩, ⟨⟨_, Try.underlying206, rfl, by simp⟩, ⟨_, _, rfl, rfl, ⟨_, rfl, rfl⟩, ⟨_, _, rfl, rfl, ⟨_, rfl, rfl⟩, ⟨rfl, _, rfl, rfl⟩⟩⟩, by decide, Try.eqGuardType206, Try.stoodInHeld206⟩⟩
theorem ty208 : TyOk Try.prog X0 208 ⟨s4, 48, .struct [(0, 2), (1, 206)]⟩ := ⟨⟨Try.t208, Try.type208, rfl, by decide, by decide, rfl⟩, ⟨⟨_, Try.underlying208, rfl, by simp⟩, ⟨_, _, rfl, rfl, ⟨_, rfl, rfl⟩, ⟨rfl, _, rfl, rfl⟩⟩, by decide, Try.eqGuardType208, Try.stoodInHeld208⟩⟩
theorem ty210 : TyOk Try.prog X0 210 ⟨s7, 80, .struct [(0, 139), (2, 208), (6, 2), (7, 4)]⟩ := ⟨⟨Try.t210, Try.type210, rfl, by decide, by decide, rfl⟩, ⟨⟨_, Try.underlying210, rfl, by simp⟩, ⟨_, _, rfl, rfl, ⟨_, rfl, rfl⟩, ⟨_, _, rfl, rfl, ⟨_, rfl, rfl⟩, ⟨_, _, rfl, rfl, ⟨_, rfl, rfl⟩, ⟨rfl, _, rfl, rfl⟩⟩⟩⟩, by decide, Try.eqGuardType210, Try.stoodInHeld210⟩⟩
theorem ty214 : TyOk Try.prog X0 214 ⟨s2, 24, .struct [(0, 2), (1, 139)]⟩ := ⟨⟨Try.t214, Try.type214, rfl, by decide, by decide, rfl⟩, ⟨⟨_, Try.underlying214, rfl, by simp⟩, ⟨_, _, rfl, rfl, ⟨_, rfl, rfl⟩, ⟨rfl, _, rfl, rfl⟩⟩, by decide, Try.eqGuardType214, Try.stoodInHeld214⟩⟩
theorem tysOk : TysOk Try.prog X0 := tysOk_of ⟨ty2, ty3, ty4, ty5, ty9, ty22, ty23, ty25, ty27, ty37, ty39, ty40, ty41, ty42, ty44, ty45, ty47, ty52, ty60, ty91, ty139, ty156, ty158, ty164, ty167, ty206, ty208, ty210, ty214, trivial⟩
theorem follows : Try.prog.follows .mixedOrders = true := by kernel_rfl
end NC
end Go.Dx

set_option maxRecDepth 100000
set_option maxHeartbeats 0
namespace Go.Dx
open Go.Proofs
namespace NC

noncomputable def F_laws_szStringS (x0 : List (List UInt8)) (x1 : Int) : Option (Int) :=
 bif (decide ((IntKind.wrap .i64 (x1 - (List.length x0 : Int)) : Int) < 0)) then
 some (-1)
 else
 (loopO (S := Int × Int) (X := (Int) ⊕ (Int)) (fun (s5 : Int × Int) =>
 bif (decide ((s5.2 : Int) < (List.length x0 : Int))) then
 bif (inB s5.2 x0) then
 bif (decide ((IntKind.wrap .i64 (s5.1 - (List.length (List.getD x0 (Int.toNat s5.2) []) : Int)) : Int) < 0)) then
 some (Sum.inr (Sum.inr (-1)))
 else
 some (Sum.inl (IntKind.wrap .i64 (s5.1 - (List.length (List.getD x0 (Int.toNat s5.2) []) : Int)), IntKind.wrap .i64 (s5.2 + 1)))
 else none
 else
 some (Sum.inr (Sum.inl s5.1))) (IntKind.wrap .i64 (x1 - (List.length x0 : Int)), 0)).bind fun (j6 : (Int) ⊕ (Int)) =>
 Sum.elim (fun (j7 : Int) =>
 some j7) (fun (j8 : Int) =>
 some j8) j6
noncomputable def K_laws_szStringS : Callee := { ins := [.v (.list .str) .z, .v (.int .i64) .z], outs := [((.int .i64), .z)], F := fun t => F_laws_szStringS t.1 t.2.1 }
noncomputable def X_laws_szStringS : Ctx := { tys := tys, fns := [], frz := [], lps := [(5, (⟨[(0, .keep), (1, .st (.int .i64) .z false), (5, .st (.int .i64) .z false)], []⟩, ⟨[((.exit 0), ⟨[(1, .st (.int .i64) .z false)], []⟩), (.ret, ⟨[(4, .st (.int .i64) .z false)], []⟩)]⟩))], jns := [], rjs := [] }

noncomputable def F_laws_szSignS (x0 : List (Int × Int)) (x1 : Int) : Option (Int) :=
 bif (decide ((IntKind.wrap .i64 (x1 - (List.length x0 : Int)) : Int) < 0)) then
 some (-1)
 else
 some (IntKind.wrap .i64 (x1 - (List.length x0 : Int)))
noncomputable def K_laws_szSignS : Callee := { ins := [.v (.list s0) .z, .v (.int .i64) .z], outs := [((.int .i64), .z)], F := fun t => F_laws_szSignS t.1 t.2.1 }
noncomputable def X_laws_szSignS : Ctx := { tys := tys, fns := [], frz := [], lps := [], jns := [], rjs := [] }

noncomputable def F_laws_szLedger (x0 : List (List UInt8) × List (Int × Int)) (x1 : Int) : Option (Int) :=
 (F_laws_szStringS x0.1 x1).bind fun (y3 : Int) =>
 bif (decide ((y3 : Int) < 0)) then
 some (-1)
 else
 (F_laws_szSignS x0.2 y3).bind fun (y4 : Int) =>
 bif (decide ((y4 : Int) < 0)) then
 some (-1)
 else
 some y4
noncomputable def K_laws_szLedger : Callee := { ins := [.v s1 .z, .v (.int .i64) .z], outs := [((.int .i64), .z)], F := fun t => F_laws_szLedger t.1 t.2.1 }
noncomputable def X_laws_szLedger : Ctx := { tys := tys, fns := [(46, K_laws_szStringS), (47, K_laws_szSignS)], frz := [], lps := [], jns := [], rjs := [] }

noncomputable def F_spec_l1In (x0 : Int) (x1 : Int) (x2 : Int) : Option (Bool) :=
 (bif (decide ((x1 : Int) ≤ x0)) then
 some (decide ((x0 : Int) ≤ x2))
 else
 some false : Option (Bool)).bind fun (j2 : Bool) =>
 some j2
noncomputable def K_spec_l1In : Callee := { ins := [.v (.int .i64) .z, .v (.int .i64) .z, .v (.int .i64) .z], outs := [(.bool, .z)], F := fun t => F_spec_l1In t.1 t.2.1 t.2.2.1 }
noncomputable def X_spec_l1In : Ctx := { tys := tys, fns := [], frz := [], lps := [], jns := [], rjs := [(1, ⟨[(6, .st .bool .z false)], []⟩)] }

noncomputable def F_spec_l1At (x0 : List (List UInt8)) (x1 : List UInt8) : Option (Int) :=
 (loopO (S := Int) (X := (Unit) ⊕ (Int)) (fun (s5 : Int) =>
 bif (decide ((s5 : Int) < (List.length x0 : Int))) then
 bif (inB s5 x0) then
 bif (decide ((List.getD x0 (Int.toNat s5) [] : List UInt8) = x1)) then
 some (Sum.inr (Sum.inr (IntKind.wrap .i64 (s5 + 1))))
 else
 some (Sum.inl (IntKind.wrap .i64 (s5 + 1)))
 else none
 else
 some (Sum.inr (Sum.inl ()))) 0).bind fun (j6 : (Unit) ⊕ (Int)) =>
 Sum.elim (fun (j7 : Unit) =>
 some 0) (fun (j8 : Int) =>
 some j8) j6
noncomputable def K_spec_l1At : Callee := { ins := [.v (.list .str) .z, .v .str .z], outs := [((.int .i64), .z)], F := fun t => F_spec_l1At t.1 t.2.1 }
noncomputable def X_spec_l1At : Ctx := { tys := tys, fns := [], frz := [], lps := [(2, (⟨[(0, .keep), (1, .keep), (5, .st (.int .i64) .z false)], []⟩, ⟨[((.exit 0), ⟨[], []⟩), (.ret, ⟨[(4, .st (.int .i64) .z false)], []⟩)]⟩))], jns := [], rjs := [] }

noncomputable def F_spec_l1Key (x0 : Int) : Option (Bool) :=
 (F_spec_l1In x0 1 999).bind fun (y2 : Bool) =>
 some y2
noncomputable def K_spec_l1Key : Callee := { ins := [.v (.int .i64) .z], outs := [(.bool, .z)], F := fun t => F_spec_l1Key t.1 }
noncomputable def X_spec_l1Key : Ctx := { tys := tys, fns := [(76, K_spec_l1In)], frz := [], lps := [], jns := [], rjs := [] }

noncomputable def F_spec_l1Signed (x0 : List (Int × Int)) (x1 : Int × Int) : Option (Bool) :=
 (loopO (S := Int) (X := (Unit) ⊕ (Bool)) (fun (s5 : Int) =>
 bif (decide ((s5 : Int) < (List.length x0 : Int))) then
 bif (inB s5 x0) then
 bif (Sh.beq (.prod (.int .i64) (.int .i64)) (List.getD x0 (Int.toNat s5) (0, 0)) x1) then
 some (Sum.inr (Sum.inr true))
 else
 some (Sum.inl (IntKind.wrap .i64 (s5 + 1)))
 else none
 else
 some (Sum.inr (Sum.inl ()))) 0).bind fun (j6 : (Unit) ⊕ (Bool)) =>
 Sum.elim (fun (j7 : Unit) =>
 some false) (fun (j8 : Bool) =>
 some j8) j6
noncomputable def K_spec_l1Signed : Callee := { ins := [.v (.list s0) .z, .v s0 .z], outs := [(.bool, .z)], F := fun t => F_spec_l1Signed t.1 t.2.1 }
noncomputable def X_spec_l1Signed : Ctx := { tys := tys, fns := [], frz := [], lps := [(2, (⟨[(0, .keep), (3, .keep), (5, .st (.int .i64) .z false)], [(3, .keep)]⟩, ⟨[((.exit 0), ⟨[], []⟩), (.ret, ⟨[(4, .st .bool .z false)], []⟩)]⟩))], jns := [], rjs := [] }

noncomputable def F_spec_l1Fault (x0 : List (List UInt8) × List (Int × Int)) : Option (Int) :=
 (bif (decide ((60 : Int) < (List.length x0.1 : Int))) then
 some true
 else
 some (decide ((120 : Int) < (List.length x0.2 : Int))) : Option (Bool)).bind fun (j34 : Bool) =>
 bif j34 then
 some 2
 else
 (loopO (S := Int) (X := (Unit) ⊕ (Int)) (fun (s39 : Int) =>
 bif (decide ((s39 : Int) < (List.length x0.1 : Int))) then
 (bif (inB s39 x0.1) then
 bif (decide (((List.length (List.getD x0.1 (Int.toNat s39) []) : Int) : Int) < 1)) then
 some true
 else
 bif (inB s39 x0.1) then
 some (decide ((300 : Int) < (List.length (List.getD x0.1 (Int.toNat s39) []) : Int)))
 else none
 else none : Option (Bool)).bind fun (j40 : Bool) =>
 bif j40 then
 some (Sum.inr (Sum.inr 2))
 else
 bif (cutOk 0 s39 x0.1) then
 bif (inB s39 x0.1) then
 (F_spec_l1At (cut 0 s39 x0.1) (List.getD x0.1 (Int.toNat s39) [])).bind fun (y41 : Int) =>
 bif (decide ((0 : Int) < y41)) then
 some (Sum.inr (Sum.inr 7))
 else
 some (Sum.inl (IntKind.wrap .i64 (s39 + 1)))
 else none
 else none
 else
 some (Sum.inr (Sum.inl ()))) 0).bind fun (j42 : (Unit) ⊕ (Int)) =>
 Sum.elim (fun (j43 : Unit) =>
 (loopO (S := Int) (X := (Unit) ⊕ (Int)) (fun (s57 : Int) =>
 bif (decide ((s57 : Int) < (List.length x0.2 : Int))) then
 (bif (inB s57 x0.2) then
 (F_spec_l1Key (List.getD x0.2 (Int.toNat s57) (0, 0)).1).bind fun (y60 : Bool) =>
 bif (!y60) then
 some true
 else
 bif (inB s57 x0.2) then
 (F_spec_l1In (List.getD x0.2 (Int.toNat s57) (0, 0)).2 1 (List.length x0.1 : Int)).bind fun (y61 : Bool) =>
 some (!y61)
 else none
 else none : Option (Bool)).bind fun (j62 : Bool) =>
 bif j62 then
 some (Sum.inr (Sum.inr 3))
 else
 bif (cutOk 0 s57 x0.2) then
 bif (inB s57 x0.2) then
 (F_spec_l1Signed (cut 0 s57 x0.2) (List.getD x0.2 (Int.toNat s57) (0, 0))).bind fun (y63 : Bool) =>
 bif y63 then
 some (Sum.inr (Sum.inr 7))
 else
 some (Sum.inl (IntKind.wrap .i64 (s57 + 1)))
 else none
 else none
 else
 some (Sum.inr (Sum.inl ()))) 0).bind fun (j64 : (Unit) ⊕ (Int)) =>
 Sum.elim (fun (j65 : Unit) =>
 some 0) (fun (j66 : Int) =>
 some j66) j64) (fun (j44 : Int) =>
 some j44) j42
noncomputable def K_spec_l1Fault : Callee := { ins := [.rp s1 false], outs := [((.int .i64), .z)], F := fun t => F_spec_l1Fault t.1 }
noncomputable def X_spec_l1Fault : Ctx := { tys := tys, fns := [(76, K_spec_l1In), (105, K_spec_l1At), (106, K_spec_l1Key), (107, K_spec_l1Signed)], frz := [], lps := [(4, (⟨[(0, .keep), (3, .st (.int .i64) .z false)], []⟩, ⟨[((.exit 0), ⟨[(0, .keep)], []⟩), (.ret, ⟨[(2, .st (.int .i64) .z false)], []⟩)]⟩)),
  (11, (⟨[(0, .keep), (4, .st (.int .i64) .z false)], []⟩, ⟨[((.exit 2), ⟨[], []⟩), (.ret, ⟨[(2, .st (.int .i64) .z false)], []⟩)]⟩))], jns := [], rjs := [(1, ⟨[(0, .keep), (18, .st .bool .z false)], []⟩),
  (6, ⟨[(0, .keep), (3, .keep), (47, .st .bool .z false)], []⟩),
  (13, ⟨[(0, .keep), (4, .keep), (98, .st .bool .z false)], []⟩)] }

noncomputable def F_spec_l15Bad (x0 : Int) : Option (Int × Int × (List (List UInt8) × List (Int × Int)) × List (Int × Int × Int) × List Int × (Int × Int × List ((Int × Int) × (Int × List Int × Int × Int) × Int × Bool) × List (Int × Int × Int)) × List (Int × List (List ((Int × Int) × (Int × List Int × Int × Int) × Int × Bool)) × List (Int × Int × Int))) :=
 some (x0, (0, (([], []), ([], ([], ((0, (0, ([], []))), []))))))
noncomputable def K_spec_l15Bad : Callee := { ins := [.v (.int .i64) .z], outs := [(s18, (.p .z (.p .z (.p (.p (.o .z) (.o .z)) (.p (.o .z) (.p (.o .z) (.p (.p .z (.p .z (.p (.o (.p .z (.p (.p .z (.p (.o .z) .z)) .z))) (.o .z)))) (.o (.p .z (.p (.o (.o (.p .z (.p (.p .z (.p (.o .z) .z)) .z)))) (.o .z)))))))))))], F := fun t => F_spec_l15Bad t.1 }
noncomputable def X_spec_l15Bad : Ctx := { tys := tys, fns := [], frz := [], lps := [], jns := [], rjs := [] }

noncomputable def F_spec_l1Copy (x0 : List (List UInt8) × List (Int × Int)) : Option (List (List UInt8) × List (Int × Int)) :=
 bif decide (List.length ([] : List (List UInt8)) + List.length x0.1 ≤ LIM) then
 bif decide (List.length ([] : List (Int × Int)) + List.length x0.2 ≤ LIM) then
 some (List.append ([] : List (List UInt8)) x0.1, List.append ([] : List (Int × Int)) x0.2)
 else none
 else none
noncomputable def K_spec_l1Copy : Callee := { ins := [.v s1 .z], outs := [(s1, (.p (.o .z) (.o .z)))], F := fun t => F_spec_l1Copy t.1 }
noncomputable def X_spec_l1Copy : Ctx := { tys := tys, fns := [], frz := [], lps := [], jns := [], rjs := [] }

noncomputable def F_spec_NewChain (x0 : List (List UInt8) × List (Int × Int)) : Option (Int × Int × (List (List UInt8) × List (Int × Int)) × List (Int × Int × Int) × List Int × (Int × Int × List ((Int × Int) × (Int × List Int × Int × Int) × Int × Bool) × List (Int × Int × Int)) × List (Int × List (List ((Int × Int) × (Int × List Int × Int × Int) × Int × Bool)) × List (Int × Int × Int))) :=
 (F_spec_l1Fault x0).bind fun (y4 : Int) =>
 bif (!decide ((y4 : Int) = 0)) then
 (F_spec_l15Bad y4).bind fun (y5 : Int × Int × (List (List UInt8) × List (Int × Int)) × List (Int × Int × Int) × List Int × (Int × Int × List ((Int × Int) × (Int × List Int × Int × Int) × Int × Bool) × List (Int × Int × Int)) × List (Int × List (List ((Int × Int) × (Int × List Int × Int × Int) × Int × Bool)) × List (Int × Int × Int))) =>
 some y5
 else
 (F_spec_l1Copy x0).bind fun (y6 : List (List UInt8) × List (Int × Int)) =>
 some (0, (0, (y6, ([], ([], ((0, (0, ([], []))), []))))))
noncomputable def K_spec_NewChain : Callee := { ins := [.v s1 .z], outs := [(s18, (.p .z (.p .z (.p (.p (.o .z) (.o .z)) (.p (.o .z) (.p (.o .z) (.p (.p .z (.p .z (.p (.o (.p .z (.p (.p .z (.p (.o .z) .z)) .z))) (.o .z)))) (.o (.p .z (.p (.o (.o (.p .z (.p (.p .z (.p (.o .z) .z)) .z)))) (.o .z)))))))))))], F := fun t => F_spec_NewChain t.1 }
noncomputable def X_spec_NewChain : Ctx := { tys := tys, fns := [(48, K_spec_l1Fault), (49, K_spec_l15Bad), (50, K_spec_l1Copy)], frz := [], lps := [], jns := [], rjs := [] }

noncomputable def F_laws_toStringS (x0 : List (List UInt8)) : Option (List (List UInt8)) :=
 bif (decide (0 ≤ (List.length x0 : Int)) && decide ((List.length x0 : Int) ≤ (LIM : Int))) then
 (loopO (S := List (List UInt8) × Int) (X := List (List UInt8)) (fun (s3 : List (List UInt8) × Int) =>
 bif (decide ((s3.2 : Int) < (List.length x0 : Int))) then
 bif (inB s3.2 x0) then
 bif (inB s3.2 s3.1) then
 some (Sum.inl (List.set s3.1 (Int.toNat s3.2) (List.getD x0 (Int.toNat s3.2) []), IntKind.wrap .i64 (s3.2 + 1)))
 else none
 else none
 else
 some (Sum.inr s3.1)) (List.replicate (Int.toNat (List.length x0 : Int)) [], 0)).bind fun (j4 : List (List UInt8)) =>
 some j4
 else none
noncomputable def K_laws_toStringS : Callee := { ins := [.v (.list .str) .z], outs := [((.list .str), (.o .z))], F := fun t => F_laws_toStringS t.1 }
noncomputable def X_laws_toStringS : Ctx := { tys := tys, fns := [], frz := [], lps := [(3, (⟨[(0, .keep), (3, .st (.list .str) (.o .z) false), (4, .st (.int .i64) .z false)], []⟩, ⟨[((.exit 0), ⟨[(3, .st (.list .str) (.o .z) false)], []⟩)]⟩))], jns := [], rjs := [] }

noncomputable def F_laws_toSign (x0 : Int × Int) : Option (Int × Int) :=
 some (x0.1, x0.2)
noncomputable def K_laws_toSign : Callee := { ins := [.v s0 .z], outs := [(s0, .z)], F := fun t => F_laws_toSign t.1 }
noncomputable def X_laws_toSign : Ctx := { tys := tys, fns := [], frz := [], lps := [], jns := [], rjs := [] }

noncomputable def F_laws_toSignS (x0 : List (Int × Int)) : Option (List (Int × Int)) :=
 bif (decide (0 ≤ (List.length x0 : Int)) && decide ((List.length x0 : Int) ≤ (LIM : Int))) then
 (loopO (S := List (Int × Int) × Int) (X := List (Int × Int)) (fun (s8 : List (Int × Int) × Int) =>
 bif (decide ((s8.2 : Int) < (List.length x0 : Int))) then
 bif (inB s8.2 x0) then
 (F_laws_toSign (List.getD x0 (Int.toNat s8.2) (0, 0))).bind fun (y9 : Int × Int) =>
 bif (inB s8.2 s8.1) then
 some (Sum.inl (List.set s8.1 (Int.toNat s8.2) y9, IntKind.wrap .i64 (s8.2 + 1)))
 else none
 else none
 else
 some (Sum.inr s8.1)) (List.replicate (Int.toNat (List.length x0 : Int)) (0, 0), 0)).bind fun (j10 : List (Int × Int)) =>
 some j10
 else none
noncomputable def K_laws_toSignS : Callee := { ins := [.v (.list s0) .z], outs := [((.list s0), (.o .z))], F := fun t => F_laws_toSignS t.1 }
noncomputable def X_laws_toSignS : Ctx := { tys := tys, fns := [(108, K_laws_toSign)], frz := [], lps := [(3, (⟨[(0, .keep), (3, .st (.list s0) (.o .z) false), (4, .st (.int .i64) .z false)], []⟩, ⟨[((.exit 0), ⟨[(3, .st (.list s0) (.o .z) false)], []⟩)]⟩))], jns := [], rjs := [] }

noncomputable def F_laws_toLedger (x0 : List (List UInt8) × List (Int × Int)) : Option (List (List UInt8) × List (Int × Int)) :=
 (F_laws_toStringS x0.1).bind fun (y3 : List (List UInt8)) =>
 (F_laws_toSignS x0.2).bind fun (y4 : List (Int × Int)) =>
 some (y3, y4)
noncomputable def K_laws_toLedger : Callee := { ins := [.v s1 .z], outs := [(s1, (.p (.o .z) (.o .z)))], F := fun t => F_laws_toLedger t.1 }
noncomputable def X_laws_toLedger : Ctx := { tys := tys, fns := [(51, K_laws_toStringS), (52, K_laws_toSignS)], frz := [], lps := [], jns := [], rjs := [] }

noncomputable def F_impl_within (x0 : Int) (x1 : Int) (x2 : Int) : Option (Bool) :=
 (bif (decide ((x1 : Int) ≤ x0)) then
 some (decide ((x0 : Int) ≤ x2))
 else
 some false : Option (Bool)).bind fun (j2 : Bool) =>
 some j2
noncomputable def K_impl_within : Callee := { ins := [.v (.int .i64) .z, .v (.int .i64) .z, .v (.int .i64) .z], outs := [(.bool, .z)], F := fun t => F_impl_within t.1 t.2.1 t.2.2.1 }
noncomputable def X_impl_within : Ctx := { tys := tys, fns := [], frz := [], lps := [], jns := [], rjs := [(1, ⟨[(6, .st .bool .z false)], []⟩)] }

noncomputable def F_impl_isText (x0 : List UInt8) : Option (Bool) :=
 (F_impl_within (List.length x0 : Int) 1 300).bind fun (y2 : Bool) =>
 some y2
noncomputable def K_impl_isText : Callee := { ins := [.v .str .z], outs := [(.bool, .z)], F := fun t => F_impl_isText t.1 }
noncomputable def X_impl_isText : Ctx := { tys := tys, fns := [(67, K_impl_within)], frz := [], lps := [], jns := [], rjs := [] }

noncomputable def F_slices_Index_Lstring_string (x0 : List (List UInt8)) (x1 : List UInt8) : Option (Int) :=
 (loopO (S := Int) (X := (Unit) ⊕ (Int)) (fun (s5 : Int) =>
 bif (decide ((s5 : Int) < (List.length x0 : Int))) then
 bif (inB s5 x0) then
 bif (decide ((x1 : List UInt8) = List.getD x0 (Int.toNat s5) [])) then
 some (Sum.inr (Sum.inr s5))
 else
 some (Sum.inl (IntKind.wrap .i64 (s5 + 1)))
 else none
 else
 some (Sum.inr (Sum.inl ()))) 0).bind fun (j6 : (Unit) ⊕ (Int)) =>
 Sum.elim (fun (j7 : Unit) =>
 some (-1)) (fun (j8 : Int) =>
 some j8) j6
noncomputable def K_slices_Index_Lstring_string : Callee := { ins := [.v (.list .str) .z, .v .str .z], outs := [((.int .i64), .z)], F := fun t => F_slices_Index_Lstring_string t.1 t.2.1 }
noncomputable def X_slices_Index_Lstring_string : Ctx := { tys := tys, fns := [], frz := [], lps := [(2, (⟨[(0, .keep), (1, .keep), (7, .keep), (8, .st (.int .i64) .z false)], []⟩, ⟨[((.exit 0), ⟨[], []⟩), (.ret, ⟨[(4, .st (.int .i64) .z false)], []⟩)]⟩))], jns := [], rjs := [] }

noncomputable def F_slices_Contains_Lstring_string (x0 : List (List UInt8)) (x1 : List UInt8) : Option (Bool) :=
 (F_slices_Index_Lstring_string x0 x1).bind fun (y2 : Int) =>
 some (decide ((0 : Int) ≤ y2))
noncomputable def K_slices_Contains_Lstring_string : Callee := { ins := [.v (.list .str) .z, .v .str .z], outs := [(.bool, .z)], F := fun t => F_slices_Contains_Lstring_string t.1 t.2.1 }
noncomputable def X_slices_Contains_Lstring_string : Ctx := { tys := tys, fns := [(161, K_slices_Index_Lstring_string)], frz := [], lps := [], jns := [], rjs := [] }

noncomputable def F_impl_isKey (x0 : Int) : Option (Bool) :=
 (F_impl_within x0 1 999).bind fun (y2 : Bool) =>
 some y2
noncomputable def K_impl_isKey : Callee := { ins := [.v (.int .i64) .z], outs := [(.bool, .z)], F := fun t => F_impl_isKey t.1 }
noncomputable def X_impl_isKey : Ctx := { tys := tys, fns := [(67, K_impl_within)], frz := [], lps := [], jns := [], rjs := [] }

noncomputable def F_slices_Index_Limpl_Sign_impl_Sign (x0 : List (Int × Int)) (x1 : Int × Int) : Option (Int) :=
 (loopO (S := Int) (X := (Unit) ⊕ (Int)) (fun (s5 : Int) =>
 bif (decide ((s5 : Int) < (List.length x0 : Int))) then
 bif (inB s5 x0) then
 bif (Sh.beq (.prod (.int .i64) (.int .i64)) x1 (List.getD x0 (Int.toNat s5) (0, 0))) then
 some (Sum.inr (Sum.inr s5))
 else
 some (Sum.inl (IntKind.wrap .i64 (s5 + 1)))
 else none
 else
 some (Sum.inr (Sum.inl ()))) 0).bind fun (j6 : (Unit) ⊕ (Int)) =>
 Sum.elim (fun (j7 : Unit) =>
 some (-1)) (fun (j8 : Int) =>
 some j8) j6
noncomputable def K_slices_Index_Limpl_Sign_impl_Sign : Callee := { ins := [.v (.list s0) .z, .v s0 .z], outs := [((.int .i64), .z)], F := fun t => F_slices_Index_Limpl_Sign_impl_Sign t.1 t.2.1 }
noncomputable def X_slices_Index_Limpl_Sign_impl_Sign : Ctx := { tys := tys, fns := [], frz := [], lps := [(2, (⟨[(0, .keep), (3, .keep), (7, .keep), (8, .st (.int .i64) .z false)], [(3, .keep)]⟩, ⟨[((.exit 0), ⟨[], []⟩), (.ret, ⟨[(4, .st (.int .i64) .z false)], []⟩)]⟩))], jns := [], rjs := [] }

noncomputable def F_slices_Contains_Limpl_Sign_impl_Sign (x0 : List (Int × Int)) (x1 : Int × Int) : Option (Bool) :=
 (F_slices_Index_Limpl_Sign_impl_Sign x0 x1).bind fun (y2 : Int) =>
 some (decide ((0 : Int) ≤ y2))
noncomputable def K_slices_Contains_Limpl_Sign_impl_Sign : Callee := { ins := [.v (.list s0) .z, .v s0 .z], outs := [(.bool, .z)], F := fun t => F_slices_Contains_Limpl_Sign_impl_Sign t.1 t.2.1 }
noncomputable def X_slices_Contains_Limpl_Sign_impl_Sign : Ctx := { tys := tys, fns := [(162, K_slices_Index_Limpl_Sign_impl_Sign)], frz := [], lps := [], jns := [], rjs := [] }

noncomputable def F_impl_LedgerFault (x0 : List (List UInt8) × List (Int × Int)) : Option (Int) :=
 (bif (decide ((60 : Int) < (List.length x0.1 : Int))) then
 some true
 else
 some (decide ((120 : Int) < (List.length x0.2 : Int))) : Option (Bool)).bind fun (j34 : Bool) =>
 bif j34 then
 some 2
 else
 (loopO (S := Int) (X := (Unit) ⊕ (Int)) (fun (s39 : Int) =>
 bif (decide ((s39 : Int) < (List.length x0.1 : Int))) then
 bif (inB s39 x0.1) then
 (F_impl_isText (List.getD x0.1 (Int.toNat s39) [])).bind fun (y40 : Bool) =>
 bif (!y40) then
 some (Sum.inr (Sum.inr 2))
 else
 bif (cutOk 0 s39 x0.1) then
 (F_slices_Contains_Lstring_string (cut 0 s39 x0.1) (List.getD x0.1 (Int.toNat s39) [])).bind fun (y41 : Bool) =>
 bif y41 then
 some (Sum.inr (Sum.inr 7))
 else
 some (Sum.inl (IntKind.wrap .i64 (s39 + 1)))
 else none
 else none
 else
 some (Sum.inr (Sum.inl ()))) 0).bind fun (j42 : (Unit) ⊕ (Int)) =>
 Sum.elim (fun (j43 : Unit) =>
 (loopO (S := Int) (X := (Unit) ⊕ (Int)) (fun (s57 : Int) =>
 bif (decide ((s57 : Int) < (List.length x0.2 : Int))) then
 bif (inB s57 x0.2) then
 ((F_impl_isKey (List.getD x0.2 (Int.toNat s57) (0, 0)).1).bind fun (y60 : Bool) =>
 bif (!y60) then
 some true
 else
 (F_impl_within (List.getD x0.2 (Int.toNat s57) (0, 0)).2 1 (List.length x0.1 : Int)).bind fun (y61 : Bool) =>
 some (!y61) : Option (Bool)).bind fun (j62 : Bool) =>
 bif j62 then
 some (Sum.inr (Sum.inr 3))
 else
 bif (cutOk 0 s57 x0.2) then
 (F_slices_Contains_Limpl_Sign_impl_Sign (cut 0 s57 x0.2) (List.getD x0.2 (Int.toNat s57) (0, 0))).bind fun (y63 : Bool) =>
 bif y63 then
 some (Sum.inr (Sum.inr 7))
 else
 some (Sum.inl (IntKind.wrap .i64 (s57 + 1)))
 else none
 else none
 else
 some (Sum.inr (Sum.inl ()))) 0).bind fun (j64 : (Unit) ⊕ (Int)) =>
 Sum.elim (fun (j65 : Unit) =>
 some 0) (fun (j66 : Int) =>
 some j66) j64) (fun (j44 : Int) =>
 some j44) j42
noncomputable def K_impl_LedgerFault : Callee := { ins := [.v s1 .z], outs := [((.int .i64), .z)], F := fun t => F_impl_LedgerFault t.1 }
noncomputable def X_impl_LedgerFault : Ctx := { tys := tys, fns := [(67, K_impl_within), (109, K_impl_isText), (110, K_slices_Contains_Lstring_string), (111, K_impl_isKey), (112, K_slices_Contains_Limpl_Sign_impl_Sign)], frz := [], lps := [(4, (⟨[(1, .keep), (18, .keep), (19, .keep), (20, .st (.int .i64) .z false)], [(1, .keep)]⟩, ⟨[((.exit 0), ⟨[(1, .keep)], [(1, .keep)]⟩), (.ret, ⟨[(2, .st (.int .i64) .z false)], []⟩)]⟩)),
  (12, (⟨[(1, .keep), (36, .keep), (37, .keep), (38, .st (.int .i64) .z false)], [(1, .keep)]⟩, ⟨[((.exit 2), ⟨[], []⟩), (.ret, ⟨[(2, .st (.int .i64) .z false)], []⟩)]⟩))], jns := [], rjs := [(1, ⟨[(1, .keep), (16, .st .bool .z false)], [(1, .keep)]⟩),
  (14, ⟨[(1, .keep), (5, .keep), (6, .keep), (36, .keep), (37, .keep), (38, .keep), (55, .st .bool .z false)], [(1, .keep), (6, .keep)]⟩)] }

noncomputable def F_slices_Clone_Lstring_string (x0 : List (List UInt8)) : Option (List (List UInt8)) :=
 bif List.isEmpty x0 then
 agree (some ([] : List (List UInt8))) (bif decide (List.length ([] : List (List UInt8)) + List.length x0 ≤ LIM) then
 some (List.append ([] : List (List UInt8)) x0)
 else none)
 else
 bif decide (List.length ([] : List (List UInt8)) + List.length x0 ≤ LIM) then
 some (List.append ([] : List (List UInt8)) x0)
 else none
noncomputable def K_slices_Clone_Lstring_string : Callee := { ins := [.v (.list .str) .z], outs := [((.list .str), (.o .z))], F := fun t => F_slices_Clone_Lstring_string t.1 }
noncomputable def X_slices_Clone_Lstring_string : Ctx := { tys := tys, fns := [], frz := [], lps := [], jns := [], rjs := [] }

noncomputable def F_slices_Clone_Limpl_Sign_impl_Sign (x0 : List (Int × Int)) : Option (List (Int × Int)) :=
 bif List.isEmpty x0 then
 agree (some ([] : List (Int × Int))) (bif decide (List.length ([] : List (Int × Int)) + List.length x0 ≤ LIM) then
 some (List.append ([] : List (Int × Int)) x0)
 else none)
 else
 bif decide (List.length ([] : List (Int × Int)) + List.length x0 ≤ LIM) then
 some (List.append ([] : List (Int × Int)) x0)
 else none
noncomputable def K_slices_Clone_Limpl_Sign_impl_Sign : Callee := { ins := [.v (.list s0) .z], outs := [((.list s0), (.o .z))], F := fun t => F_slices_Clone_Limpl_Sign_impl_Sign t.1 }
noncomputable def X_slices_Clone_Limpl_Sign_impl_Sign : Ctx := { tys := tys, fns := [], frz := [], lps := [], jns := [], rjs := [] }

noncomputable def F_impl_ownLedger (x0 : List (List UInt8) × List (Int × Int)) : Option (List (List UInt8) × List (Int × Int)) :=
 (F_slices_Clone_Lstring_string x0.1).bind fun (y3 : List (List UInt8)) =>
 (F_slices_Clone_Limpl_Sign_impl_Sign x0.2).bind fun (y4 : List (Int × Int)) =>
 some (y3, y4)
noncomputable def K_impl_ownLedger : Callee := { ins := [.v s1 .z], outs := [(s1, (.p (.o .z) (.o .z)))], F := fun t => F_impl_ownLedger t.1 }
noncomputable def X_impl_ownLedger : Ctx := { tys := tys, fns := [(113, K_slices_Clone_Lstring_string), (114, K_slices_Clone_Limpl_Sign_impl_Sign)], frz := [], lps := [], jns := [], rjs := [] }

noncomputable def F_impl_NewChain (x0 : List (List UInt8) × List (Int × Int)) : Option (Int × Int × (List (List UInt8) × List (Int × Int)) × List (Int × Int × Int) × List Int × (Int × Int × List ((Int × Int) × (Int × List Int × Int × Int) × Int × Bool) × List (Int × Int × Int)) × List (Int × List (List ((Int × Int) × (Int × List Int × Int × Int) × Int × Bool)) × List (Int × Int × Int))) :=
 (F_impl_LedgerFault x0).bind fun (y3 : Int) =>
 bif (!decide ((y3 : Int) = 0)) then
 some (y3, (0, (([], []), ([], ([], ((0, (0, ([], []))), []))))))
 else
 (F_impl_ownLedger x0).bind fun (y4 : List (List UInt8) × List (Int × Int)) =>
 some (0, (0, (y4, ([], ([], ((0, (0, ([], []))), []))))))
noncomputable def K_impl_NewChain : Callee := { ins := [.v s1 .z], outs := [(s18, (.p .z (.p .z (.p (.p (.o .z) (.o .z)) (.p (.o .z) (.p (.o .z) (.p (.p .z (.p .z (.p (.o (.p .z (.p (.p .z (.p (.o .z) .z)) .z))) (.o .z)))) (.o (.p .z (.p (.o (.o (.p .z (.p (.p .z (.p (.o .z) .z)) .z)))) (.o .z)))))))))))], F := fun t => F_impl_NewChain t.1 }
noncomputable def X_impl_NewChain : Ctx := { tys := tys, fns := [(53, K_impl_LedgerFault), (54, K_impl_ownLedger)], frz := [], lps := [], jns := [], rjs := [] }

noncomputable def F_laws_eqStringS (x0 : List (List UInt8)) (x1 : List (List UInt8)) : Option (Bool) :=
 bif (!decide (((List.length x0 : Int) : Int) = (List.length x1 : Int))) then
 some false
 else
 (loopO (S := Int) (X := (Unit) ⊕ (Bool)) (fun (s5 : Int) =>
 bif (decide ((s5 : Int) < (List.length x0 : Int))) then
 bif (inB s5 x0) then
 bif (inB s5 x1) then
 bif (!decide ((List.getD x0 (Int.toNat s5) [] : List UInt8) = List.getD x1 (Int.toNat s5) [])) then
 some (Sum.inr (Sum.inr false))
 else
 some (Sum.inl (IntKind.wrap .i64 (s5 + 1)))
 else none
 else none
 else
 some (Sum.inr (Sum.inl ()))) 0).bind fun (j6 : (Unit) ⊕ (Bool)) =>
 Sum.elim (fun (j7 : Unit) =>
 some true) (fun (j8 : Bool) =>
 some j8) j6
noncomputable def K_laws_eqStringS : Callee := { ins := [.v (.list .str) .z, .v (.list .str) .z], outs := [(.bool, .z)], F := fun t => F_laws_eqStringS t.1 t.2.1 }
noncomputable def X_laws_eqStringS : Ctx := { tys := tys, fns := [], frz := [], lps := [(4, (⟨[(0, .keep), (1, .keep), (5, .st (.int .i64) .z false)], []⟩, ⟨[((.exit 0), ⟨[], []⟩), (.ret, ⟨[(4, .st .bool .z false)], []⟩)]⟩))], jns := [], rjs := [] }

noncomputable def F_laws_eqSign (x0 : Int × Int) (x1 : Int × Int) : Option (Bool) :=
 bif (!decide ((x0.1 : Int) = x1.1)) then
 some false
 else
 bif (!decide ((x0.2 : Int) = x1.2)) then
 some false
 else
 some true
noncomputable def K_laws_eqSign : Callee := { ins := [.v s0 .z, .v s0 .z], outs := [(.bool, .z)], F := fun t => F_laws_eqSign t.1 t.2.1 }
noncomputable def X_laws_eqSign : Ctx := { tys := tys, fns := [], frz := [], lps := [], jns := [], rjs := [] }

noncomputable def F_laws_eqSignS (x0 : List (Int × Int)) (x1 : List (Int × Int)) : Option (Bool) :=
 bif (!decide (((List.length x0 : Int) : Int) = (List.length x1 : Int))) then
 some false
 else
 (loopO (S := Int) (X := (Unit) ⊕ (Bool)) (fun (s10 : Int) =>
 bif (decide ((s10 : Int) < (List.length x0 : Int))) then
 bif (inB s10 x0) then
 bif (inB s10 x1) then
 (F_laws_eqSign (List.getD x0 (Int.toNat s10) (0, 0)) (List.getD x1 (Int.toNat s10) (0, 0))).bind fun (y11 : Bool) =>
 bif (!y11) then
 some (Sum.inr (Sum.inr false))
 else
 some (Sum.inl (IntKind.wrap .i64 (s10 + 1)))
 else none
 else none
 else
 some (Sum.inr (Sum.inl ()))) 0).bind fun (j12 : (Unit) ⊕ (Bool)) =>
 Sum.elim (fun (j13 : Unit) =>
 some true) (fun (j14 : Bool) =>
 some j14) j12
noncomputable def K_laws_eqSignS : Callee := { ins := [.v (.list s0) .z, .v (.list s0) .z], outs := [(.bool, .z)], F := fun t => F_laws_eqSignS t.1 t.2.1 }
noncomputable def X_laws_eqSignS : Ctx := { tys := tys, fns := [(115, K_laws_eqSign)], frz := [], lps := [(4, (⟨[(0, .keep), (1, .keep), (5, .st (.int .i64) .z false)], []⟩, ⟨[((.exit 0), ⟨[], []⟩), (.ret, ⟨[(4, .st .bool .z false)], []⟩)]⟩))], jns := [], rjs := [] }

noncomputable def F_laws_eqLedger (x0 : List (List UInt8) × List (Int × Int)) (x1 : List (List UInt8) × List (Int × Int)) : Option (Bool) :=
 (F_laws_eqStringS x0.1 x1.1).bind fun (y3 : Bool) =>
 bif (!y3) then
 some false
 else
 (F_laws_eqSignS x0.2 x1.2).bind fun (y4 : Bool) =>
 bif (!y4) then
 some false
 else
 some true
noncomputable def K_laws_eqLedger : Callee := { ins := [.v s1 .z, .v s1 .z], outs := [(.bool, .z)], F := fun t => F_laws_eqLedger t.1 t.2.1 }
noncomputable def X_laws_eqLedger : Ctx := { tys := tys, fns := [(55, K_laws_eqStringS), (56, K_laws_eqSignS)], frz := [], lps := [], jns := [], rjs := [] }

noncomputable def F_laws_eqNode (x0 : Int × Int × Int) (x1 : Int × Int × Int) : Option (Bool) :=
 bif (!decide ((x0.1 : Int) = x1.1)) then
 some false
 else
 bif (!decide ((x0.2.1 : Int) = x1.2.1)) then
 some false
 else
 bif (!decide ((x0.2.2 : Int) = x1.2.2)) then
 some false
 else
 some true
noncomputable def K_laws_eqNode : Callee := { ins := [.v s2 .z, .v s2 .z], outs := [(.bool, .z)], F := fun t => F_laws_eqNode t.1 t.2.1 }
noncomputable def X_laws_eqNode : Ctx := { tys := tys, fns := [], frz := [], lps := [], jns := [], rjs := [] }

noncomputable def F_laws_eqNodeS (x0 : List (Int × Int × Int)) (x1 : List (Int × Int × Int)) : Option (Bool) :=
 bif (!decide (((List.length x0 : Int) : Int) = (List.length x1 : Int))) then
 some false
 else
 (loopO (S := Int) (X := (Unit) ⊕ (Bool)) (fun (s10 : Int) =>
 bif (decide ((s10 : Int) < (List.length x0 : Int))) then
 bif (inB s10 x0) then
 bif (inB s10 x1) then
 (F_laws_eqNode (List.getD x0 (Int.toNat s10) (0, (0, 0))) (List.getD x1 (Int.toNat s10) (0, (0, 0)))).bind fun (y11 : Bool) =>
 bif (!y11) then
 some (Sum.inr (Sum.inr false))
 else
 some (Sum.inl (IntKind.wrap .i64 (s10 + 1)))
 else none
 else none
 else
 some (Sum.inr (Sum.inl ()))) 0).bind fun (j12 : (Unit) ⊕ (Bool)) =>
 Sum.elim (fun (j13 : Unit) =>
 some true) (fun (j14 : Bool) =>
 some j14) j12
noncomputable def K_laws_eqNodeS : Callee := { ins := [.v (.list s2) .z, .v (.list s2) .z], outs := [(.bool, .z)], F := fun t => F_laws_eqNodeS t.1 t.2.1 }
noncomputable def X_laws_eqNodeS : Ctx := { tys := tys, fns := [(101, K_laws_eqNode)], frz := [], lps := [(4, (⟨[(0, .keep), (1, .keep), (5, .st (.int .i64) .z false)], []⟩, ⟨[((.exit 0), ⟨[], []⟩), (.ret, ⟨[(4, .st .bool .z false)], []⟩)]⟩))], jns := [], rjs := [] }

noncomputable def F_laws_eqInt64S (x0 : List Int) (x1 : List Int) : Option (Bool) :=
 bif (!decide (((List.length x0 : Int) : Int) = (List.length x1 : Int))) then
 some false
 else
 (loopO (S := Int) (X := (Unit) ⊕ (Bool)) (fun (s5 : Int) =>
 bif (decide ((s5 : Int) < (List.length x0 : Int))) then
 bif (inB s5 x0) then
 bif (inB s5 x1) then
 bif (!decide ((List.getD x0 (Int.toNat s5) 0 : Int) = List.getD x1 (Int.toNat s5) 0)) then
 some (Sum.inr (Sum.inr false))
 else
 some (Sum.inl (IntKind.wrap .i64 (s5 + 1)))
 else none
 else none
 else
 some (Sum.inr (Sum.inl ()))) 0).bind fun (j6 : (Unit) ⊕ (Bool)) =>
 Sum.elim (fun (j7 : Unit) =>
 some true) (fun (j8 : Bool) =>
 some j8) j6
noncomputable def K_laws_eqInt64S : Callee := { ins := [.v (.list (.int .i64)) .z, .v (.list (.int .i64)) .z], outs := [(.bool, .z)], F := fun t => F_laws_eqInt64S t.1 t.2.1 }
noncomputable def X_laws_eqInt64S : Ctx := { tys := tys, fns := [], frz := [], lps := [(4, (⟨[(0, .keep), (1, .keep), (5, .st (.int .i64) .z false)], []⟩, ⟨[((.exit 0), ⟨[], []⟩), (.ret, ⟨[(4, .st .bool .z false)], []⟩)]⟩))], jns := [], rjs := [] }

noncomputable def F_laws_eqRef (x0 : Int × Int) (x1 : Int × Int) : Option (Bool) :=
 bif (!decide ((x0.1 : Int) = x1.1)) then
 some false
 else
 bif (!decide ((x0.2 : Int) = x1.2)) then
 some false
 else
 some true
noncomputable def K_laws_eqRef : Callee := { ins := [.v s0 .z, .v s0 .z], outs := [(.bool, .z)], F := fun t => F_laws_eqRef t.1 t.2.1 }
noncomputable def X_laws_eqRef : Ctx := { tys := tys, fns := [], frz := [], lps := [], jns := [], rjs := [] }

noncomputable def F_laws_eqRule (x0 : List Int × Int × Int) (x1 : List Int × Int × Int) : Option (Bool) :=
 (F_laws_eqInt64S x0.1 x1.1).bind fun (y2 : Bool) =>
 bif (!y2) then
 some false
 else
 bif (!decide ((x0.2.1 : Int) = x1.2.1)) then
 some false
 else
 bif (!decide ((x0.2.2 : Int) = x1.2.2)) then
 some false
 else
 some true
noncomputable def K_laws_eqRule : Callee := { ins := [.v s3 .z, .v s3 .z], outs := [(.bool, .z)], F := fun t => F_laws_eqRule t.1 t.2.1 }
noncomputable def X_laws_eqRule : Ctx := { tys := tys, fns := [(43, K_laws_eqInt64S)], frz := [], lps := [], jns := [], rjs := [] }

noncomputable def F_laws_eqOut (x0 : Int × List Int × Int × Int) (x1 : Int × List Int × Int × Int) : Option (Bool) :=
 bif (!decide ((x0.1 : Int) = x1.1)) then
 some false
 else
 (F_laws_eqRule x0.2 x1.2).bind fun (y2 : Bool) =>
 bif (!y2) then
 some false
 else
 some true
noncomputable def K_laws_eqOut : Callee := { ins := [.v s4 .z, .v s4 .z], outs := [(.bool, .z)], F := fun t => F_laws_eqOut t.1 t.2.1 }
noncomputable def X_laws_eqOut : Ctx := { tys := tys, fns := [(212, K_laws_eqRule)], frz := [], lps := [], jns := [], rjs := [] }

noncomputable def F_laws_eqCoin (x0 : (Int × Int) × (Int × List Int × Int × Int) × Int × Bool) (x1 : (Int × Int) × (Int × List Int × Int × Int) × Int × Bool) : Option (Bool) :=
 (F_laws_eqRef x0.1 x1.1).bind fun (y3 : Bool) =>
 bif (!y3) then
 some false
 else
 (F_laws_eqOut x0.2.1 x1.2.1).bind fun (y4 : Bool) =>
 bif (!y4) then
 some false
 else
 bif (!decide ((x0.2.2.1 : Int) = x1.2.2.1)) then
 some false
 else
 bif (!(Sh.beq .bool x0.2.2.2 x1.2.2.2)) then
 some false
 else
 some true
noncomputable def K_laws_eqCoin : Callee := { ins := [.v s7 .z, .v s7 .z], outs := [(.bool, .z)], F := fun t => F_laws_eqCoin t.1 t.2.1 }
noncomputable def X_laws_eqCoin : Ctx := { tys := tys, fns := [(196, K_laws_eqRef), (197, K_laws_eqOut)], frz := [], lps := [], jns := [], rjs := [] }

noncomputable def F_laws_eqCoinS (x0 : List ((Int × Int) × (Int × List Int × Int × Int) × Int × Bool)) (x1 : List ((Int × Int) × (Int × List Int × Int × Int) × Int × Bool)) : Option (Bool) :=
 bif (!decide (((List.length x0 : Int) : Int) = (List.length x1 : Int))) then
 some false
 else
 (loopO (S := Int) (X := (Unit) ⊕ (Bool)) (fun (s10 : Int) =>
 bif (decide ((s10 : Int) < (List.length x0 : Int))) then
 bif (inB s10 x0) then
 bif (inB s10 x1) then
 (F_laws_eqCoin (List.getD x0 (Int.toNat s10) ((0, 0), ((0, ([], (0, 0))), (0, false)))) (List.getD x1 (Int.toNat s10) ((0, 0), ((0, ([], (0, 0))), (0, false))))).bind fun (y11 : Bool) =>
 bif (!y11) then
 some (Sum.inr (Sum.inr false))
 else
 some (Sum.inl (IntKind.wrap .i64 (s10 + 1)))
 else none
 else none
 else
 some (Sum.inr (Sum.inl ()))) 0).bind fun (j12 : (Unit) ⊕ (Bool)) =>
 Sum.elim (fun (j13 : Unit) =>
 some true) (fun (j14 : Bool) =>
 some j14) j12
noncomputable def K_laws_eqCoinS : Callee := { ins := [.v (.list s7) .z, .v (.list s7) .z], outs := [(.bool, .z)], F := fun t => F_laws_eqCoinS t.1 t.2.1 }
noncomputable def X_laws_eqCoinS : Ctx := { tys := tys, fns := [(158, K_laws_eqCoin)], frz := [], lps := [(4, (⟨[(0, .keep), (1, .keep), (5, .st (.int .i64) .z false)], []⟩, ⟨[((.exit 0), ⟨[], []⟩), (.ret, ⟨[(4, .st .bool .z false)], []⟩)]⟩))], jns := [], rjs := [] }

noncomputable def F_laws_eqMember (x0 : Int × Int × Int) (x1 : Int × Int × Int) : Option (Bool) :=
 bif (!decide ((x0.1 : Int) = x1.1)) then
 some false
 else
 (F_laws_eqRef x0.2 x1.2).bind fun (y2 : Bool) =>
 bif (!y2) then
 some false
 else
 some true
noncomputable def K_laws_eqMember : Callee := { ins := [.v s2 .z, .v s2 .z], outs := [(.bool, .z)], F := fun t => F_laws_eqMember t.1 t.2.1 }
noncomputable def X_laws_eqMember : Ctx := { tys := tys, fns := [(196, K_laws_eqRef)], frz := [], lps := [], jns := [], rjs := [] }

noncomputable def F_laws_eqMemberS (x0 : List (Int × Int × Int)) (x1 : List (Int × Int × Int)) : Option (Bool) :=
 bif (!decide (((List.length x0 : Int) : Int) = (List.length x1 : Int))) then
 some false
 else
 (loopO (S := Int) (X := (Unit) ⊕ (Bool)) (fun (s10 : Int) =>
 bif (decide ((s10 : Int) < (List.length x0 : Int))) then
 bif (inB s10 x0) then
 bif (inB s10 x1) then
 (F_laws_eqMember (List.getD x0 (Int.toNat s10) (0, (0, 0))) (List.getD x1 (Int.toNat s10) (0, (0, 0)))).bind fun (y11 : Bool) =>
 bif (!y11) then
 some (Sum.inr (Sum.inr false))
 else
 some (Sum.inl (IntKind.wrap .i64 (s10 + 1)))
 else none
 else none
 else
 some (Sum.inr (Sum.inl ()))) 0).bind fun (j12 : (Unit) ⊕ (Bool)) =>
 Sum.elim (fun (j13 : Unit) =>
 some true) (fun (j14 : Bool) =>
 some j14) j12
noncomputable def K_laws_eqMemberS : Callee := { ins := [.v (.list s2) .z, .v (.list s2) .z], outs := [(.bool, .z)], F := fun t => F_laws_eqMemberS t.1 t.2.1 }
noncomputable def X_laws_eqMemberS : Ctx := { tys := tys, fns := [(159, K_laws_eqMember)], frz := [], lps := [(4, (⟨[(0, .keep), (1, .keep), (5, .st (.int .i64) .z false)], []⟩, ⟨[((.exit 0), ⟨[], []⟩), (.ret, ⟨[(4, .st .bool .z false)], []⟩)]⟩))], jns := [], rjs := [] }

noncomputable def F_laws_eqState (x0 : Int × Int × List ((Int × Int) × (Int × List Int × Int × Int) × Int × Bool) × List (Int × Int × Int)) (x1 : Int × Int × List ((Int × Int) × (Int × List Int × Int × Int) × Int × Bool) × List (Int × Int × Int)) : Option (Bool) :=
 bif (!decide ((x0.1 : Int) = x1.1)) then
 some false
 else
 bif (!decide ((x0.2.1 : Int) = x1.2.1)) then
 some false
 else
 (F_laws_eqCoinS x0.2.2.1 x1.2.2.1).bind fun (y3 : Bool) =>
 bif (!y3) then
 some false
 else
 (F_laws_eqMemberS x0.2.2.2 x1.2.2.2).bind fun (y4 : Bool) =>
 bif (!y4) then
 some false
 else
 some true
noncomputable def K_laws_eqState : Callee := { ins := [.v s10 .z, .v s10 .z], outs := [(.bool, .z)], F := fun t => F_laws_eqState t.1 t.2.1 }
noncomputable def X_laws_eqState : Ctx := { tys := tys, fns := [(102, K_laws_eqCoinS), (103, K_laws_eqMemberS)], frz := [], lps := [], jns := [], rjs := [] }

noncomputable def F_laws_eqCoinSS (x0 : List (List ((Int × Int) × (Int × List Int × Int × Int) × Int × Bool))) (x1 : List (List ((Int × Int) × (Int × List Int × Int × Int) × Int × Bool))) : Option (Bool) :=
 bif (!decide (((List.length x0 : Int) : Int) = (List.length x1 : Int))) then
 some false
 else
 (loopO (S := Int) (X := (Unit) ⊕ (Bool)) (fun (s10 : Int) =>
 bif (decide ((s10 : Int) < (List.length x0 : Int))) then
 bif (inB s10 x0) then
 bif (inB s10 x1) then
 (F_laws_eqCoinS (List.getD x0 (Int.toNat s10) []) (List.getD x1 (Int.toNat s10) [])).bind fun (y11 : Bool) =>
 bif (!y11) then
 some (Sum.inr (Sum.inr false))
 else
 some (Sum.inl (IntKind.wrap .i64 (s10 + 1)))
 else none
 else none
 else
 some (Sum.inr (Sum.inl ()))) 0).bind fun (j12 : (Unit) ⊕ (Bool)) =>
 Sum.elim (fun (j13 : Unit) =>
 some true) (fun (j14 : Bool) =>
 some j14) j12
noncomputable def K_laws_eqCoinSS : Callee := { ins := [.v (.list (.list s7)) .z, .v (.list (.list s7)) .z], outs := [(.bool, .z)], F := fun t => F_laws_eqCoinSS t.1 t.2.1 }
noncomputable def X_laws_eqCoinSS : Ctx := { tys := tys, fns := [(102, K_laws_eqCoinS)], frz := [], lps := [(4, (⟨[(0, .keep), (1, .keep), (5, .st (.int .i64) .z false)], []⟩, ⟨[((.exit 0), ⟨[], []⟩), (.ret, ⟨[(4, .st .bool .z false)], []⟩)]⟩))], jns := [], rjs := [] }

noncomputable def F_laws_eqUndo (x0 : Int × List (List ((Int × Int) × (Int × List Int × Int × Int) × Int × Bool)) × List (Int × Int × Int)) (x1 : Int × List (List ((Int × Int) × (Int × List Int × Int × Int) × Int × Bool)) × List (Int × Int × Int)) : Option (Bool) :=
 bif (!decide ((x0.1 : Int) = x1.1)) then
 some false
 else
 (F_laws_eqCoinSS x0.2.1 x1.2.1).bind fun (y3 : Bool) =>
 bif (!y3) then
 some false
 else
 (F_laws_eqMemberS x0.2.2 x1.2.2).bind fun (y4 : Bool) =>
 bif (!y4) then
 some false
 else
 some true
noncomputable def K_laws_eqUndo : Callee := { ins := [.v s12 .z, .v s12 .z], outs := [(.bool, .z)], F := fun t => F_laws_eqUndo t.1 t.2.1 }
noncomputable def X_laws_eqUndo : Ctx := { tys := tys, fns := [(103, K_laws_eqMemberS), (160, K_laws_eqCoinSS)], frz := [], lps := [], jns := [], rjs := [] }

noncomputable def F_laws_eqUndoS (x0 : List (Int × List (List ((Int × Int) × (Int × List Int × Int × Int) × Int × Bool)) × List (Int × Int × Int))) (x1 : List (Int × List (List ((Int × Int) × (Int × List Int × Int × Int) × Int × Bool)) × List (Int × Int × Int))) : Option (Bool) :=
 bif (!decide (((List.length x0 : Int) : Int) = (List.length x1 : Int))) then
 some false
 else
 (loopO (S := Int) (X := (Unit) ⊕ (Bool)) (fun (s10 : Int) =>
 bif (decide ((s10 : Int) < (List.length x0 : Int))) then
 bif (inB s10 x0) then
 bif (inB s10 x1) then
 (F_laws_eqUndo (List.getD x0 (Int.toNat s10) (0, ([], []))) (List.getD x1 (Int.toNat s10) (0, ([], [])))).bind fun (y11 : Bool) =>
 bif (!y11) then
 some (Sum.inr (Sum.inr false))
 else
 some (Sum.inl (IntKind.wrap .i64 (s10 + 1)))
 else none
 else none
 else
 some (Sum.inr (Sum.inl ()))) 0).bind fun (j12 : (Unit) ⊕ (Bool)) =>
 Sum.elim (fun (j13 : Unit) =>
 some true) (fun (j14 : Bool) =>
 some j14) j12
noncomputable def K_laws_eqUndoS : Callee := { ins := [.v (.list s12) .z, .v (.list s12) .z], outs := [(.bool, .z)], F := fun t => F_laws_eqUndoS t.1 t.2.1 }
noncomputable def X_laws_eqUndoS : Ctx := { tys := tys, fns := [(104, K_laws_eqUndo)], frz := [], lps := [(4, (⟨[(0, .keep), (1, .keep), (5, .st (.int .i64) .z false)], []⟩, ⟨[((.exit 0), ⟨[], []⟩), (.ret, ⟨[(4, .st .bool .z false)], []⟩)]⟩))], jns := [], rjs := [] }

noncomputable def F_laws_eqChain (x0 : (List (List UInt8) × List (Int × Int)) × List (Int × Int × Int) × List Int × (Int × Int × List ((Int × Int) × (Int × List Int × Int × Int) × Int × Bool) × List (Int × Int × Int)) × List (Int × List (List ((Int × Int) × (Int × List Int × Int × Int) × Int × Bool)) × List (Int × Int × Int))) (x1 : (List (List UInt8) × List (Int × Int)) × List (Int × Int × Int) × List Int × (Int × Int × List ((Int × Int) × (Int × List Int × Int × Int) × Int × Bool) × List (Int × Int × Int)) × List (Int × List (List ((Int × Int) × (Int × List Int × Int × Int) × Int × Bool)) × List (Int × Int × Int))) : Option (Bool) :=
 (F_laws_eqLedger x0.1 x1.1).bind fun (y6 : Bool) =>
 bif (!y6) then
 some false
 else
 (F_laws_eqNodeS x0.2.1 x1.2.1).bind fun (y7 : Bool) =>
 bif (!y7) then
 some false
 else
 (F_laws_eqInt64S x0.2.2.1 x1.2.2.1).bind fun (y8 : Bool) =>
 bif (!y8) then
 some false
 else
 (F_laws_eqState x0.2.2.2.1 x1.2.2.2.1).bind fun (y9 : Bool) =>
 bif (!y9) then
 some false
 else
 (F_laws_eqUndoS x0.2.2.2.2 x1.2.2.2.2).bind fun (y10 : Bool) =>
 bif (!y10) then
 some false
 else
 some true
noncomputable def K_laws_eqChain : Callee := { ins := [.v s16 .z, .v s16 .z], outs := [(.bool, .z)], F := fun t => F_laws_eqChain t.1 t.2.1 }
noncomputable def X_laws_eqChain : Ctx := { tys := tys, fns := [(16, K_laws_eqLedger), (42, K_laws_eqNodeS), (43, K_laws_eqInt64S), (44, K_laws_eqState), (45, K_laws_eqUndoS)], frz := [], lps := [], jns := [], rjs := [] }

noncomputable def F_laws_eqChainResult (x0 : Int × Int × (List (List UInt8) × List (Int × Int)) × List (Int × Int × Int) × List Int × (Int × Int × List ((Int × Int) × (Int × List Int × Int × Int) × Int × Bool) × List (Int × Int × Int)) × List (Int × List (List ((Int × Int) × (Int × List Int × Int × Int) × Int × Bool)) × List (Int × Int × Int))) (x1 : Int × Int × (List (List UInt8) × List (Int × Int)) × List (Int × Int × Int) × List Int × (Int × Int × List ((Int × Int) × (Int × List Int × Int × Int) × Int × Bool) × List (Int × Int × Int)) × List (Int × List (List ((Int × Int) × (Int × List Int × Int × Int) × Int × Bool)) × List (Int × Int × Int))) : Option (Bool) :=
 bif (!decide ((x0.1 : Int) = x1.1)) then
 some false
 else
 bif (!decide ((x0.2.1 : Int) = x1.2.1)) then
 some false
 else
 (F_laws_eqChain x0.2.2 x1.2.2).bind fun (y2 : Bool) =>
 bif (!y2) then
 some false
 else
 some true
noncomputable def K_laws_eqChainResult : Callee := { ins := [.v s18 .z, .v s18 .z], outs := [(.bool, .z)], F := fun t => F_laws_eqChainResult t.1 t.2.1 }
noncomputable def X_laws_eqChainResult : Ctx := { tys := tys, fns := [(10, K_laws_eqChain)], frz := [], lps := [], jns := [], rjs := [] }

noncomputable def F_laws_markText (x0 : Int) : Option (List UInt8) :=
 bif (decide ((x0 : Int) ≤ 0)) then
 some [109, 48]
 else
 (loopO (S := Int × List UInt8) (X := List UInt8) (fun (s3 : Int × List UInt8) =>
 bif (decide ((0 : Int) < s3.1)) then
 bif decide (List.length (List.map (fun (b : Int) => UInt8.ofNat b.toNat) ([IntKind.wrap .u8 (IntKind.wrap .i64 (48 + (Int.tmod s3.1 10)))] : List Int)) + List.length s3.2 ≤ LIM) then
 some (Sum.inl (IntKind.wrap .i64 (Int.tdiv s3.1 10), List.append (List.map (fun (b : Int) => UInt8.ofNat b.toNat) ([IntKind.wrap .u8 (IntKind.wrap .i64 (48 + (Int.tmod s3.1 10)))] : List Int)) s3.2))
 else none
 else
 some (Sum.inr s3.2)) (x0, [])).bind fun (j4 : List UInt8) =>
 bif decide (List.length [109] + List.length j4 ≤ LIM) then
 some (List.append [109] j4)
 else none
noncomputable def K_laws_markText : Callee := { ins := [.v (.int .i64) .z], outs := [(.str, .z)], F := fun t => F_laws_markText t.1 }
noncomputable def X_laws_markText : Ctx := { tys := tys, fns := [], frz := [], lps := [(4, (⟨[(0, .st (.int .i64) .z false), (3, .st .str .z false)], []⟩, ⟨[((.exit 0), ⟨[(3, .st .str .z false)], []⟩)]⟩))], jns := [], rjs := [] }

noncomputable def F_laws_markStringS (x0 : List (List UInt8)) (x1 : Int) : Option (Int × List (List UInt8)) :=
 (loopO (S := List (List UInt8) × Int × Int) (X := List (List UInt8) × Int) (fun (s8 : List (List UInt8) × Int × Int) =>
 bif (decide ((s8.2.2 : Int) < (List.length s8.1 : Int))) then
 (F_laws_markText s8.2.1).bind fun (y9 : List UInt8) =>
 bif (inB s8.2.2 s8.1) then
 some (Sum.inl (List.set s8.1 (Int.toNat s8.2.2) y9, (IntKind.wrap .i64 (s8.2.1 + 1), IntKind.wrap .i64 (s8.2.2 + 1))))
 else none
 else
 some (Sum.inr (s8.1, s8.2.1))) (x0, (x1, 0))).bind fun (j10 : List (List UInt8) × Int) =>
 some (j10.2, j10.1)
noncomputable def K_laws_markStringS : Callee := { ins := [.mu (.list .str) (.o .z) (.o .z), .v (.int .i64) .z], outs := [((.int .i64), .z)], F := fun t => F_laws_markStringS t.1 t.2.1 }
noncomputable def X_laws_markStringS : Ctx := { tys := tys, fns := [(116, K_laws_markText)], frz := [], lps := [(2, (⟨[(0, .st (.list .str) (.o .z) false), (1, .st (.int .i64) .z false), (5, .st (.int .i64) .z false)], []⟩, ⟨[((.exit 0), ⟨[(0, .st (.list .str) (.o .z) false), (1, .st (.int .i64) .z false)], []⟩)]⟩))], jns := [], rjs := [] }

noncomputable def F_laws_markSignS (x0 : List (Int × Int)) (x1 : Int) : Option (Int × List (Int × Int)) :=
 (loopO (S := List (Int × Int) × Int × Int) (X := List (Int × Int) × Int) (fun (s4 : List (Int × Int) × Int × Int) =>
 bif (decide ((s4.2.2 : Int) < (List.length s4.1 : Int))) then
 bif (inB s4.2.2 s4.1) then
 bif (inB s4.2.2 (List.set s4.1 (Int.toNat s4.2.2) (s4.2.1, (List.getD s4.1 (Int.toNat s4.2.2) (0, 0)).2))) then
 let z5 : List (Int × Int) := List.set (List.set s4.1 (Int.toNat s4.2.2) (s4.2.1, (List.getD s4.1 (Int.toNat s4.2.2) (0, 0)).2)) (Int.toNat s4.2.2) ((List.getD (List.set s4.1 (Int.toNat s4.2.2) (s4.2.1, (List.getD s4.1 (Int.toNat s4.2.2) (0, 0)).2)) (Int.toNat s4.2.2) (0, 0)).1, IntKind.wrap .i64 (s4.2.1 + 1))
 some (Sum.inl (z5, (IntKind.wrap .i64 ((IntKind.wrap .i64 (s4.2.1 + 1)) + 1), IntKind.wrap .i64 (s4.2.2 + 1))))
 else none
 else none
 else
 some (Sum.inr (s4.1, s4.2.1))) (x0, (x1, 0))).bind fun (j6 : List (Int × Int) × Int) =>
 some (j6.2, j6.1)
noncomputable def K_laws_markSignS : Callee := { ins := [.mu (.list s0) (.o .z) (.o .z), .v (.int .i64) .z], outs := [((.int .i64), .z)], F := fun t => F_laws_markSignS t.1 t.2.1 }
noncomputable def X_laws_markSignS : Ctx := { tys := tys, fns := [], frz := [], lps := [(2, (⟨[(0, .st (.list s0) (.o .z) false), (1, .st (.int .i64) .z false), (5, .st (.int .i64) .z false)], []⟩, ⟨[((.exit 0), ⟨[(0, .st (.list s0) (.o .z) false), (1, .st (.int .i64) .z false)], []⟩)]⟩))], jns := [], rjs := [] }

noncomputable def F_laws_markLedger (x0 : List (List UInt8) × List (Int × Int)) (x1 : Int) : Option (Int × List (List UInt8) × List (Int × Int)) :=
 (F_laws_markStringS x0.1 x1).bind fun (y3 : Int × List (List UInt8)) =>
 (F_laws_markSignS x0.2 y3.1).bind fun (y4 : Int × List (Int × Int)) =>
 some (y4.1, (y3.2, y4.2))
noncomputable def K_laws_markLedger : Callee := { ins := [.mu s1 (.p (.o .z) (.o .z)) (.p (.o .z) (.o .z)), .v (.int .i64) .z], outs := [((.int .i64), .z)], F := fun t => F_laws_markLedger t.1 t.2.1 }
noncomputable def X_laws_markLedger : Ctx := { tys := tys, fns := [(57, K_laws_markStringS), (58, K_laws_markSignS)], frz := [], lps := [], jns := [], rjs := [] }

noncomputable def F_laws_markNodeS (x0 : List (Int × Int × Int)) (x1 : Int) : Option (Int × List (Int × Int × Int)) :=
 (loopO (S := List (Int × Int × Int) × Int × Int) (X := List (Int × Int × Int) × Int) (fun (s8 : List (Int × Int × Int) × Int × Int) =>
 bif (decide ((s8.2.2 : Int) < (List.length s8.1 : Int))) then
 bif (inB s8.2.2 s8.1) then
 bif (inB s8.2.2 (List.set s8.1 (Int.toNat s8.2.2) (s8.2.1, (List.getD s8.1 (Int.toNat s8.2.2) (0, (0, 0))).2))) then
 let z9 : List (Int × Int × Int) := List.set (List.set s8.1 (Int.toNat s8.2.2) (s8.2.1, (List.getD s8.1 (Int.toNat s8.2.2) (0, (0, 0))).2)) (Int.toNat s8.2.2) ((List.getD (List.set s8.1 (Int.toNat s8.2.2) (s8.2.1, (List.getD s8.1 (Int.toNat s8.2.2) (0, (0, 0))).2)) (Int.toNat s8.2.2) (0, (0, 0))).1, (IntKind.wrap .i64 (s8.2.1 + 1), (List.getD (List.set s8.1 (Int.toNat s8.2.2) (s8.2.1, (List.getD s8.1 (Int.toNat s8.2.2) (0, (0, 0))).2)) (Int.toNat s8.2.2) (0, (0, 0))).2.2))
 bif (inB s8.2.2 z9) then
 some (Sum.inl (List.set z9 (Int.toNat s8.2.2) ((List.getD z9 (Int.toNat s8.2.2) (0, (0, 0))).1, ((List.getD z9 (Int.toNat s8.2.2) (0, (0, 0))).2.1, IntKind.wrap .i64 ((IntKind.wrap .i64 (s8.2.1 + 1)) + 1))), (IntKind.wrap .i64 ((IntKind.wrap .i64 ((IntKind.wrap .i64 (s8.2.1 + 1)) + 1)) + 1), IntKind.wrap .i64 (s8.2.2 + 1))))
 else none
 else none
 else none
 else
 some (Sum.inr (s8.1, s8.2.1))) (x0, (x1, 0))).bind fun (j10 : List (Int × Int × Int) × Int) =>
 some (j10.2, j10.1)
noncomputable def K_laws_markNodeS : Callee := { ins := [.mu (.list s2) (.o .z) (.o .z), .v (.int .i64) .z], outs := [((.int .i64), .z)], F := fun t => F_laws_markNodeS t.1 t.2.1 }
noncomputable def X_laws_markNodeS : Ctx := { tys := tys, fns := [], frz := [], lps := [(2, (⟨[(0, .st (.list s2) (.o .z) false), (1, .st (.int .i64) .z false), (5, .st (.int .i64) .z false)], []⟩, ⟨[((.exit 0), ⟨[(0, .st (.list s2) (.o .z) false), (1, .st (.int .i64) .z false)], []⟩)]⟩))], jns := [], rjs := [] }

noncomputable def F_laws_markInt64S (x0 : List Int) (x1 : Int) : Option (Int × List Int) :=
 (loopO (S := List Int × Int × Int) (X := List Int × Int) (fun (s3 : List Int × Int × Int) =>
 bif (decide ((s3.2.2 : Int) < (List.length s3.1 : Int))) then
 bif (inB s3.2.2 s3.1) then
 some (Sum.inl (List.set s3.1 (Int.toNat s3.2.2) s3.2.1, (IntKind.wrap .i64 (s3.2.1 + 1), IntKind.wrap .i64 (s3.2.2 + 1))))
 else none
 else
 some (Sum.inr (s3.1, s3.2.1))) (x0, (x1, 0))).bind fun (j4 : List Int × Int) =>
 some (j4.2, j4.1)
noncomputable def K_laws_markInt64S : Callee := { ins := [.mu (.list (.int .i64)) (.o .z) (.o .z), .v (.int .i64) .z], outs := [((.int .i64), .z)], F := fun t => F_laws_markInt64S t.1 t.2.1 }
noncomputable def X_laws_markInt64S : Ctx := { tys := tys, fns := [], frz := [], lps := [(2, (⟨[(0, .st (.list (.int .i64)) (.o .z) false), (1, .st (.int .i64) .z false), (5, .st (.int .i64) .z false)], []⟩, ⟨[((.exit 0), ⟨[(0, .st (.list (.int .i64)) (.o .z) false), (1, .st (.int .i64) .z false)], []⟩)]⟩))], jns := [], rjs := [] }

noncomputable def F_laws_markCoinS (x0 : List ((Int × Int) × (Int × List Int × Int × Int) × Int × Bool)) (x1 : Int) : Option (Int × List ((Int × Int) × (Int × List Int × Int × Int) × Int × Bool)) :=
 (loopO (S := List ((Int × Int) × (Int × List Int × Int × Int) × Int × Bool) × Int × Int) (X := List ((Int × Int) × (Int × List Int × Int × Int) × Int × Bool) × Int) (fun (s38 : List ((Int × Int) × (Int × List Int × Int × Int) × Int × Bool) × Int × Int) =>
 bif (decide ((s38.2.2 : Int) < (List.length s38.1 : Int))) then
 bif (inB s38.2.2 s38.1) then
 bif (inB s38.2.2 (List.set s38.1 (Int.toNat s38.2.2) ((s38.2.1, (List.getD s38.1 (Int.toNat s38.2.2) ((0, 0), ((0, ([], (0, 0))), (0, false)))).1.2), (List.getD s38.1 (Int.toNat s38.2.2) ((0, 0), ((0, ([], (0, 0))), (0, false)))).2))) then
 let z39 : List ((Int × Int) × (Int × List Int × Int × Int) × Int × Bool) := List.set (List.set s38.1 (Int.toNat s38.2.2) ((s38.2.1, (List.getD s38.1 (Int.toNat s38.2.2) ((0, 0), ((0, ([], (0, 0))), (0, false)))).1.2), (List.getD s38.1 (Int.toNat s38.2.2) ((0, 0), ((0, ([], (0, 0))), (0, false)))).2)) (Int.toNat s38.2.2) (((List.getD (List.set s38.1 (Int.toNat s38.2.2) ((s38.2.1, (List.getD s38.1 (Int.toNat s38.2.2) ((0, 0), ((0, ([], (0, 0))), (0, false)))).1.2), (List.getD s38.1 (Int.toNat s38.2.2) ((0, 0), ((0, ([], (0, 0))), (0, false)))).2)) (Int.toNat s38.2.2) ((0, 0), ((0, ([], (0, 0))), (0, false)))).1.1, IntKind.wrap .i64 (s38.2.1 + 1)), (List.getD (List.set s38.1 (Int.toNat s38.2.2) ((s38.2.1, (List.getD s38.1 (Int.toNat s38.2.2) ((0, 0), ((0, ([], (0, 0))), (0, false)))).1.2), (List.getD s38.1 (Int.toNat s38.2.2) ((0, 0), ((0, ([], (0, 0))), (0, false)))).2)) (Int.toNat s38.2.2) ((0, 0), ((0, ([], (0, 0))), (0, false)))).2)
 bif (inB s38.2.2 z39) then
 let z40 : List ((Int × Int) × (Int × List Int × Int × Int) × Int × Bool) := List.set z39 (Int.toNat s38.2.2) ((List.getD z39 (Int.toNat s38.2.2) ((0, 0), ((0, ([], (0, 0))), (0, false)))).1, ((IntKind.wrap .i64 ((IntKind.wrap .i64 (s38.2.1 + 1)) + 1), (List.getD z39 (Int.toNat s38.2.2) ((0, 0), ((0, ([], (0, 0))), (0, false)))).2.1.2), (List.getD z39 (Int.toNat s38.2.2) ((0, 0), ((0, ([], (0, 0))), (0, false)))).2.2))
 bif (inB s38.2.2 z40) then
 (F_laws_markInt64S (List.getD z40 (Int.toNat s38.2.2) ((0, 0), ((0, ([], (0, 0))), (0, false)))).2.1.2.1 (IntKind.wrap .i64 ((IntKind.wrap .i64 ((IntKind.wrap .i64 (s38.2.1 + 1)) + 1)) + 1))).bind fun (y41 : Int × List Int) =>
 bif (inB s38.2.2 (List.set z40 (Int.toNat s38.2.2) ((List.getD z40 (Int.toNat s38.2.2) ((0, 0), ((0, ([], (0, 0))), (0, false)))).1, (((List.getD z40 (Int.toNat s38.2.2) ((0, 0), ((0, ([], (0, 0))), (0, false)))).2.1.1, (y41.2, (List.getD z40 (Int.toNat s38.2.2) ((0, 0), ((0, ([], (0, 0))), (0, false)))).2.1.2.2)), (List.getD z40 (Int.toNat s38.2.2) ((0, 0), ((0, ([], (0, 0))), (0, false)))).2.2)))) then
 let z42 : List ((Int × Int) × (Int × List Int × Int × Int) × Int × Bool) := List.set (List.set z40 (Int.toNat s38.2.2) ((List.getD z40 (Int.toNat s38.2.2) ((0, 0), ((0, ([], (0, 0))), (0, false)))).1, (((List.getD z40 (Int.toNat s38.2.2) ((0, 0), ((0, ([], (0, 0))), (0, false)))).2.1.1, (y41.2, (List.getD z40 (Int.toNat s38.2.2) ((0, 0), ((0, ([], (0, 0))), (0, false)))).2.1.2.2)), (List.getD z40 (Int.toNat s38.2.2) ((0, 0), ((0, ([], (0, 0))), (0, false)))).2.2))) (Int.toNat s38.2.2) ((List.getD (List.set z40 (Int.toNat s38.2.2) ((List.getD z40 (Int.toNat s38.2.2) ((0, 0), ((0, ([], (0, 0))), (0, false)))).1, (((List.getD z40 (Int.toNat s38.2.2) ((0, 0), ((0, ([], (0, 0))), (0, false)))).2.1.1, (y41.2, (List.getD z40 (Int.toNat s38.2.2) ((0, 0), ((0, ([], (0, 0))), (0, false)))).2.1.2.2)), (List.getD z40 (Int.toNat s38.2.2) ((0, 0), ((0, ([], (0, 0))), (0, false)))).2.2))) (Int.toNat s38.2.2) ((0, 0), ((0, ([], (0, 0))), (0, false)))).1, (((List.getD (List.set z40 (Int.toNat s38.2.2) ((List.getD z40 (Int.toNat s38.2.2) ((0, 0), ((0, ([], (0, 0))), (0, false)))).1, (((List.getD z40 (Int.toNat s38.2.2) ((0, 0), ((0, ([], (0, 0))), (0, false)))).2.1.1, (y41.2, (List.getD z40 (Int.toNat s38.2.2) ((0, 0), ((0, ([], (0, 0))), (0, false)))).2.1.2.2)), (List.getD z40 (Int.toNat s38.2.2) ((0, 0), ((0, ([], (0, 0))), (0, false)))).2.2))) (Int.toNat s38.2.2) ((0, 0), ((0, ([], (0, 0))), (0, false)))).2.1.1, ((List.getD (List.set z40 (Int.toNat s38.2.2) ((List.getD z40 (Int.toNat s38.2.2) ((0, 0), ((0, ([], (0, 0))), (0, false)))).1, (((List.getD z40 (Int.toNat s38.2.2) ((0, 0), ((0, ([], (0, 0))), (0, false)))).2.1.1, (y41.2, (List.getD z40 (Int.toNat s38.2.2) ((0, 0), ((0, ([], (0, 0))), (0, false)))).2.1.2.2)), (List.getD z40 (Int.toNat s38.2.2) ((0, 0), ((0, ([], (0, 0))), (0, false)))).2.2))) (Int.toNat s38.2.2) ((0, 0), ((0, ([], (0, 0))), (0, false)))).2.1.2.1, (y41.1, (List.getD (List.set z40 (Int.toNat s38.2.2) ((List.getD z40 (Int.toNat s38.2.2) ((0, 0), ((0, ([], (0, 0))), (0, false)))).1, (((List.getD z40 (Int.toNat s38.2.2) ((0, 0), ((0, ([], (0, 0))), (0, false)))).2.1.1, (y41.2, (List.getD z40 (Int.toNat s38.2.2) ((0, 0), ((0, ([], (0, 0))), (0, false)))).2.1.2.2)), (List.getD z40 (Int.toNat s38.2.2) ((0, 0), ((0, ([], (0, 0))), (0, false)))).2.2))) (Int.toNat s38.2.2) ((0, 0), ((0, ([], (0, 0))), (0, false)))).2.1.2.2.2))), (List.getD (List.set z40 (Int.toNat s38.2.2) ((List.getD z40 (Int.toNat s38.2.2) ((0, 0), ((0, ([], (0, 0))), (0, false)))).1, (((List.getD z40 (Int.toNat s38.2.2) ((0, 0), ((0, ([], (0, 0))), (0, false)))).2.1.1, (y41.2, (List.getD z40 (Int.toNat s38.2.2) ((0, 0), ((0, ([], (0, 0))), (0, false)))).2.1.2.2)), (List.getD z40 (Int.toNat s38.2.2) ((0, 0), ((0, ([], (0, 0))), (0, false)))).2.2))) (Int.toNat s38.2.2) ((0, 0), ((0, ([], (0, 0))), (0, false)))).2.2))
 bif (inB s38.2.2 z42) then
 let z43 : List ((Int × Int) × (Int × List Int × Int × Int) × Int × Bool) := List.set z42 (Int.toNat s38.2.2) ((List.getD z42 (Int.toNat s38.2.2) ((0, 0), ((0, ([], (0, 0))), (0, false)))).1, (((List.getD z42 (Int.toNat s38.2.2) ((0, 0), ((0, ([], (0, 0))), (0, false)))).2.1.1, ((List.getD z42 (Int.toNat s38.2.2) ((0, 0), ((0, ([], (0, 0))), (0, false)))).2.1.2.1, ((List.getD z42 (Int.toNat s38.2.2) ((0, 0), ((0, ([], (0, 0))), (0, false)))).2.1.2.2.1, IntKind.wrap .i64 (y41.1 + 1)))), (List.getD z42 (Int.toNat s38.2.2) ((0, 0), ((0, ([], (0, 0))), (0, false)))).2.2))
 bif (inB s38.2.2 z43) then
 let z44 : List ((Int × Int) × (Int × List Int × Int × Int) × Int × Bool) := List.set z43 (Int.toNat s38.2.2) ((List.getD z43 (Int.toNat s38.2.2) ((0, 0), ((0, ([], (0, 0))), (0, false)))).1, ((List.getD z43 (Int.toNat s38.2.2) ((0, 0), ((0, ([], (0, 0))), (0, false)))).2.1, (IntKind.wrap .i64 ((IntKind.wrap .i64 (y41.1 + 1)) + 1), (List.getD z43 (Int.toNat s38.2.2) ((0, 0), ((0, ([], (0, 0))), (0, false)))).2.2.2)))
 bif (inB s38.2.2 z44) then
 let z45 : List ((Int × Int) × (Int × List Int × Int × Int) × Int × Bool) := List.set z44 (Int.toNat s38.2.2) ((List.getD z44 (Int.toNat s38.2.2) ((0, 0), ((0, ([], (0, 0))), (0, false)))).1, ((List.getD z44 (Int.toNat s38.2.2) ((0, 0), ((0, ([], (0, 0))), (0, false)))).2.1, ((List.getD z44 (Int.toNat s38.2.2) ((0, 0), ((0, ([], (0, 0))), (0, false)))).2.2.1, decide ((Int.tmod (IntKind.wrap .i64 ((IntKind.wrap .i64 ((IntKind.wrap .i64 (y41.1 + 1)) + 1)) + 1)) 3 : Int) = 0))))
 some (Sum.inl (z45, (IntKind.wrap .i64 ((IntKind.wrap .i64 ((IntKind.wrap .i64 ((IntKind.wrap .i64 (y41.1 + 1)) + 1)) + 1)) + 1), IntKind.wrap .i64 (s38.2.2 + 1))))
 else none
 else none
 else none
 else none
 else none
 else none
 else none
 else none
 else
 some (Sum.inr (s38.1, s38.2.1))) (x0, (x1, 0))).bind fun (j46 : List ((Int × Int) × (Int × List Int × Int × Int) × Int × Bool) × Int) =>
 some (j46.2, j46.1)
noncomputable def K_laws_markCoinS : Callee := { ins := [.mu (.list s7) (.o (.p .z (.p (.p .z (.p (.o .z) .z)) .z))) (.o (.p .z (.p (.p .z (.p (.o .z) .z)) .z))), .v (.int .i64) .z], outs := [((.int .i64), .z)], F := fun t => F_laws_markCoinS t.1 t.2.1 }
noncomputable def X_laws_markCoinS : Ctx := { tys := tys, fns := [(118, K_laws_markInt64S)], frz := [], lps := [(2, (⟨[(0, .st (.list s7) (.o (.p .z (.p (.p .z (.p (.o .z) .z)) .z))) false), (1, .st (.int .i64) .z false), (5, .st (.int .i64) .z false)], []⟩, ⟨[((.exit 0), ⟨[(0, .st (.list s7) (.o (.p .z (.p (.p .z (.p (.o .z) .z)) .z))) false), (1, .st (.int .i64) .z false)], []⟩)]⟩))], jns := [], rjs := [] }

noncomputable def F_laws_markMemberS (x0 : List (Int × Int × Int)) (x1 : Int) : Option (Int × List (Int × Int × Int)) :=
 (loopO (S := List (Int × Int × Int) × Int × Int) (X := List (Int × Int × Int) × Int) (fun (s8 : List (Int × Int × Int) × Int × Int) =>
 bif (decide ((s8.2.2 : Int) < (List.length s8.1 : Int))) then
 bif (inB s8.2.2 s8.1) then
 bif (inB s8.2.2 (List.set s8.1 (Int.toNat s8.2.2) (s8.2.1, (List.getD s8.1 (Int.toNat s8.2.2) (0, (0, 0))).2))) then
 let z9 : List (Int × Int × Int) := List.set (List.set s8.1 (Int.toNat s8.2.2) (s8.2.1, (List.getD s8.1 (Int.toNat s8.2.2) (0, (0, 0))).2)) (Int.toNat s8.2.2) ((List.getD (List.set s8.1 (Int.toNat s8.2.2) (s8.2.1, (List.getD s8.1 (Int.toNat s8.2.2) (0, (0, 0))).2)) (Int.toNat s8.2.2) (0, (0, 0))).1, (IntKind.wrap .i64 (s8.2.1 + 1), (List.getD (List.set s8.1 (Int.toNat s8.2.2) (s8.2.1, (List.getD s8.1 (Int.toNat s8.2.2) (0, (0, 0))).2)) (Int.toNat s8.2.2) (0, (0, 0))).2.2))
 bif (inB s8.2.2 z9) then
 some (Sum.inl (List.set z9 (Int.toNat s8.2.2) ((List.getD z9 (Int.toNat s8.2.2) (0, (0, 0))).1, ((List.getD z9 (Int.toNat s8.2.2) (0, (0, 0))).2.1, IntKind.wrap .i64 ((IntKind.wrap .i64 (s8.2.1 + 1)) + 1))), (IntKind.wrap .i64 ((IntKind.wrap .i64 ((IntKind.wrap .i64 (s8.2.1 + 1)) + 1)) + 1), IntKind.wrap .i64 (s8.2.2 + 1))))
 else none
 else none
 else none
 else
 some (Sum.inr (s8.1, s8.2.1))) (x0, (x1, 0))).bind fun (j10 : List (Int × Int × Int) × Int) =>
 some (j10.2, j10.1)
noncomputable def K_laws_markMemberS : Callee := { ins := [.mu (.list s2) (.o .z) (.o .z), .v (.int .i64) .z], outs := [((.int .i64), .z)], F := fun t => F_laws_markMemberS t.1 t.2.1 }
noncomputable def X_laws_markMemberS : Ctx := { tys := tys, fns := [], frz := [], lps := [(2, (⟨[(0, .st (.list s2) (.o .z) false), (1, .st (.int .i64) .z false), (5, .st (.int .i64) .z false)], []⟩, ⟨[((.exit 0), ⟨[(0, .st (.list s2) (.o .z) false), (1, .st (.int .i64) .z false)], []⟩)]⟩))], jns := [], rjs := [] }

noncomputable def F_laws_markState (x0 : Int × Int × List ((Int × Int) × (Int × List Int × Int × Int) × Int × Bool) × List (Int × Int × Int)) (x1 : Int) : Option (Int × Int × Int × List ((Int × Int) × (Int × List Int × Int × Int) × Int × Bool) × List (Int × Int × Int)) :=
 (F_laws_markCoinS x0.2.2.1 x1).bind fun (y3 : Int × List ((Int × Int) × (Int × List Int × Int × Int) × Int × Bool)) =>
 (F_laws_markMemberS x0.2.2.2 y3.1).bind fun (y4 : Int × List (Int × Int × Int)) =>
 some (y4.1, (x0.1, (x0.2.1, (y3.2, y4.2))))
noncomputable def K_laws_markState : Callee := { ins := [.mu s10 (.p .z (.p .z (.p (.o (.p .z (.p (.p .z (.p (.o .z) .z)) .z))) (.o .z)))) (.p .z (.p .z (.p (.o (.p .z (.p (.p .z (.p (.o .z) .z)) .z))) (.o .z)))), .v (.int .i64) .z], outs := [((.int .i64), .z)], F := fun t => F_laws_markState t.1 t.2.1 }
noncomputable def X_laws_markState : Ctx := { tys := tys, fns := [(163, K_laws_markCoinS), (164, K_laws_markMemberS)], frz := [], lps := [], jns := [], rjs := [] }

noncomputable def F_laws_markCoinSS (x0 : List (List ((Int × Int) × (Int × List Int × Int × Int) × Int × Bool))) (x1 : Int) : Option (Int × List (List ((Int × Int) × (Int × List Int × Int × Int) × Int × Bool))) :=
 (loopO (S := List (List ((Int × Int) × (Int × List Int × Int × Int) × Int × Bool)) × Int × Int) (X := List (List ((Int × Int) × (Int × List Int × Int × Int) × Int × Bool)) × Int) (fun (s8 : List (List ((Int × Int) × (Int × List Int × Int × Int) × Int × Bool)) × Int × Int) =>
 bif (decide ((s8.2.2 : Int) < (List.length s8.1 : Int))) then
 bif (inB s8.2.2 s8.1) then
 (F_laws_markCoinS (List.getD s8.1 (Int.toNat s8.2.2) []) s8.2.1).bind fun (y9 : Int × List ((Int × Int) × (Int × List Int × Int × Int) × Int × Bool)) =>
 some (Sum.inl (List.set s8.1 (Int.toNat s8.2.2) y9.2, (y9.1, IntKind.wrap .i64 (s8.2.2 + 1))))
 else none
 else
 some (Sum.inr (s8.1, s8.2.1))) (x0, (x1, 0))).bind fun (j10 : List (List ((Int × Int) × (Int × List Int × Int × Int) × Int × Bool)) × Int) =>
 some (j10.2, j10.1)
noncomputable def K_laws_markCoinSS : Callee := { ins := [.mu (.list (.list s7)) (.o (.o (.p .z (.p (.p .z (.p (.o .z) .z)) .z)))) (.o (.o (.p .z (.p (.p .z (.p (.o .z) .z)) .z)))), .v (.int .i64) .z], outs := [((.int .i64), .z)], F := fun t => F_laws_markCoinSS t.1 t.2.1 }
noncomputable def X_laws_markCoinSS : Ctx := { tys := tys, fns := [(163, K_laws_markCoinS)], frz := [], lps := [(2, (⟨[(0, .st (.list (.list s7)) (.o (.o (.p .z (.p (.p .z (.p (.o .z) .z)) .z)))) false), (1, .st (.int .i64) .z false), (5, .st (.int .i64) .z false)], []⟩, ⟨[((.exit 0), ⟨[(0, .st (.list (.list s7)) (.o (.o (.p .z (.p (.p .z (.p (.o .z) .z)) .z)))) false), (1, .st (.int .i64) .z false)], []⟩)]⟩))], jns := [], rjs := [] }

noncomputable def F_laws_markUndoS (x0 : List (Int × List (List ((Int × Int) × (Int × List Int × Int × Int) × Int × Bool)) × List (Int × Int × Int))) (x1 : Int) : Option (Int × List (Int × List (List ((Int × Int) × (Int × List Int × Int × Int) × Int × Bool)) × List (Int × Int × Int))) :=
 (loopO (S := List (Int × List (List ((Int × Int) × (Int × List Int × Int × Int) × Int × Bool)) × List (Int × Int × Int)) × Int × Int) (X := List (Int × List (List ((Int × Int) × (Int × List Int × Int × Int) × Int × Bool)) × List (Int × Int × Int)) × Int) (fun (s13 : List (Int × List (List ((Int × Int) × (Int × List Int × Int × Int) × Int × Bool)) × List (Int × Int × Int)) × Int × Int) =>
 bif (decide ((s13.2.2 : Int) < (List.length s13.1 : Int))) then
 bif (inB s13.2.2 s13.1) then
 bif (inB s13.2.2 (List.set s13.1 (Int.toNat s13.2.2) (s13.2.1, (List.getD s13.1 (Int.toNat s13.2.2) (0, ([], []))).2))) then
 (F_laws_markCoinSS (List.getD (List.set s13.1 (Int.toNat s13.2.2) (s13.2.1, (List.getD s13.1 (Int.toNat s13.2.2) (0, ([], []))).2)) (Int.toNat s13.2.2) (0, ([], []))).2.1 (IntKind.wrap .i64 (s13.2.1 + 1))).bind fun (y14 : Int × List (List ((Int × Int) × (Int × List Int × Int × Int) × Int × Bool))) =>
 bif (inB s13.2.2 (List.set (List.set s13.1 (Int.toNat s13.2.2) (s13.2.1, (List.getD s13.1 (Int.toNat s13.2.2) (0, ([], []))).2)) (Int.toNat s13.2.2) ((List.getD (List.set s13.1 (Int.toNat s13.2.2) (s13.2.1, (List.getD s13.1 (Int.toNat s13.2.2) (0, ([], []))).2)) (Int.toNat s13.2.2) (0, ([], []))).1, (y14.2, (List.getD (List.set s13.1 (Int.toNat s13.2.2) (s13.2.1, (List.getD s13.1 (Int.toNat s13.2.2) (0, ([], []))).2)) (Int.toNat s13.2.2) (0, ([], []))).2.2)))) then
 (F_laws_markMemberS (List.getD (List.set (List.set s13.1 (Int.toNat s13.2.2) (s13.2.1, (List.getD s13.1 (Int.toNat s13.2.2) (0, ([], []))).2)) (Int.toNat s13.2.2) ((List.getD (List.set s13.1 (Int.toNat s13.2.2) (s13.2.1, (List.getD s13.1 (Int.toNat s13.2.2) (0, ([], []))).2)) (Int.toNat s13.2.2) (0, ([], []))).1, (y14.2, (List.getD (List.set s13.1 (Int.toNat s13.2.2) (s13.2.1, (List.getD s13.1 (Int.toNat s13.2.2) (0, ([], []))).2)) (Int.toNat s13.2.2) (0, ([], []))).2.2))) (Int.toNat s13.2.2) (0, ([], []))).2.2 y14.1).bind fun (y15 : Int × List (Int × Int × Int)) =>
 some (Sum.inl (List.set (List.set (List.set s13.1 (Int.toNat s13.2.2) (s13.2.1, (List.getD s13.1 (Int.toNat s13.2.2) (0, ([], []))).2)) (Int.toNat s13.2.2) ((List.getD (List.set s13.1 (Int.toNat s13.2.2) (s13.2.1, (List.getD s13.1 (Int.toNat s13.2.2) (0, ([], []))).2)) (Int.toNat s13.2.2) (0, ([], []))).1, (y14.2, (List.getD (List.set s13.1 (Int.toNat s13.2.2) (s13.2.1, (List.getD s13.1 (Int.toNat s13.2.2) (0, ([], []))).2)) (Int.toNat s13.2.2) (0, ([], []))).2.2))) (Int.toNat s13.2.2) ((List.getD (List.set (List.set s13.1 (Int.toNat s13.2.2) (s13.2.1, (List.getD s13.1 (Int.toNat s13.2.2) (0, ([], []))).2)) (Int.toNat s13.2.2) ((List.getD (List.set s13.1 (Int.toNat s13.2.2) (s13.2.1, (List.getD s13.1 (Int.toNat s13.2.2) (0, ([], []))).2)) (Int.toNat s13.2.2) (0, ([], []))).1, (y14.2, (List.getD (List.set s13.1 (Int.toNat s13.2.2) (s13.2.1, (List.getD s13.1 (Int.toNat s13.2.2) (0, ([], []))).2)) (Int.toNat s13.2.2) (0, ([], []))).2.2))) (Int.toNat s13.2.2) (0, ([], []))).1, ((List.getD (List.set (List.set s13.1 (Int.toNat s13.2.2) (s13.2.1, (List.getD s13.1 (Int.toNat s13.2.2) (0, ([], []))).2)) (Int.toNat s13.2.2) ((List.getD (List.set s13.1 (Int.toNat s13.2.2) (s13.2.1, (List.getD s13.1 (Int.toNat s13.2.2) (0, ([], []))).2)) (Int.toNat s13.2.2) (0, ([], []))).1, (y14.2, (List.getD (List.set s13.1 (Int.toNat s13.2.2) (s13.2.1, (List.getD s13.1 (Int.toNat s13.2.2) (0, ([], []))).2)) (Int.toNat s13.2.2) (0, ([], []))).2.2))) (Int.toNat s13.2.2) (0, ([], []))).2.1, y15.2)), (y15.1, IntKind.wrap .i64 (s13.2.2 + 1))))
 else none
 else none
 else none
 else
 some (Sum.inr (s13.1, s13.2.1))) (x0, (x1, 0))).bind fun (j16 : List (Int × List (List ((Int × Int) × (Int × List Int × Int × Int) × Int × Bool)) × List (Int × Int × Int)) × Int) =>
 some (j16.2, j16.1)
noncomputable def K_laws_markUndoS : Callee := { ins := [.mu (.list s12) (.o (.p .z (.p (.o (.o (.p .z (.p (.p .z (.p (.o .z) .z)) .z)))) (.o .z)))) (.o (.p .z (.p (.o (.o (.p .z (.p (.p .z (.p (.o .z) .z)) .z)))) (.o .z)))), .v (.int .i64) .z], outs := [((.int .i64), .z)], F := fun t => F_laws_markUndoS t.1 t.2.1 }
noncomputable def X_laws_markUndoS : Ctx := { tys := tys, fns := [(164, K_laws_markMemberS), (165, K_laws_markCoinSS)], frz := [], lps := [(2, (⟨[(0, .st (.list s12) (.o (.p .z (.p (.o (.o (.p .z (.p (.p .z (.p (.o .z) .z)) .z)))) (.o .z)))) false), (1, .st (.int .i64) .z false), (5, .st (.int .i64) .z false)], []⟩, ⟨[((.exit 0), ⟨[(0, .st (.list s12) (.o (.p .z (.p (.o (.o (.p .z (.p (.p .z (.p (.o .z) .z)) .z)))) (.o .z)))) false), (1, .st (.int .i64) .z false)], []⟩)]⟩))], jns := [], rjs := [] }

noncomputable def F_laws_markChain (x0 : (List (List UInt8) × List (Int × Int)) × List (Int × Int × Int) × List Int × (Int × Int × List ((Int × Int) × (Int × List Int × Int × Int) × Int × Bool) × List (Int × Int × Int)) × List (Int × List (List ((Int × Int) × (Int × List Int × Int × Int) × Int × Bool)) × List (Int × Int × Int))) (x1 : Int) : Option (Int × (List (List UInt8) × List (Int × Int)) × List (Int × Int × Int) × List Int × (Int × Int × List ((Int × Int) × (Int × List Int × Int × Int) × Int × Bool) × List (Int × Int × Int)) × List (Int × List (List ((Int × Int) × (Int × List Int × Int × Int) × Int × Bool)) × List (Int × Int × Int))) :=
 (F_laws_markLedger x0.1 x1).bind fun (y6 : Int × List (List UInt8) × List (Int × Int)) =>
 (F_laws_markNodeS x0.2.1 y6.1).bind fun (y7 : Int × List (Int × Int × Int)) =>
 (F_laws_markInt64S x0.2.2.1 y7.1).bind fun (y8 : Int × List Int) =>
 (F_laws_markState x0.2.2.2.1 y8.1).bind fun (y9 : Int × Int × Int × List ((Int × Int) × (Int × List Int × Int × Int) × Int × Bool) × List (Int × Int × Int)) =>
 (F_laws_markUndoS x0.2.2.2.2 y9.1).bind fun (y10 : Int × List (Int × List (List ((Int × Int) × (Int × List Int × Int × Int) × Int × Bool)) × List (Int × Int × Int))) =>
 some (y10.1, (y6.2, (y7.2, (y8.2, (y9.2, y10.2)))))
noncomputable def K_laws_markChain : Callee := { ins := [.mu s16 (.p (.p (.o .z) (.o .z)) (.p (.o .z) (.p (.o .z) (.p (.p .z (.p .z (.p (.o (.p .z (.p (.p .z (.p (.o .z) .z)) .z))) (.o .z)))) (.o (.p .z (.p (.o (.o (.p .z (.p (.p .z (.p (.o .z) .z)) .z)))) (.o .z)))))))) (.p (.p (.o .z) (.o .z)) (.p (.o .z) (.p (.o .z) (.p (.p .z (.p .z (.p (.o (.p .z (.p (.p .z (.p (.o .z) .z)) .z))) (.o .z)))) (.o (.p .z (.p (.o (.o (.p .z (.p (.p .z (.p (.o .z) .z)) .z)))) (.o .z)))))))), .v (.int .i64) .z], outs := [((.int .i64), .z)], F := fun t => F_laws_markChain t.1 t.2.1 }
noncomputable def X_laws_markChain : Ctx := { tys := tys, fns := [(17, K_laws_markLedger), (117, K_laws_markNodeS), (118, K_laws_markInt64S), (119, K_laws_markState), (120, K_laws_markUndoS)], frz := [], lps := [], jns := [], rjs := [] }

noncomputable def F_laws_markChainResult (x0 : Int × Int × (List (List UInt8) × List (Int × Int)) × List (Int × Int × Int) × List Int × (Int × Int × List ((Int × Int) × (Int × List Int × Int × Int) × Int × Bool) × List (Int × Int × Int)) × List (Int × List (List ((Int × Int) × (Int × List Int × Int × Int) × Int × Bool)) × List (Int × Int × Int))) (x1 : Int) : Option (Int × Int × Int × (List (List UInt8) × List (Int × Int)) × List (Int × Int × Int) × List Int × (Int × Int × List ((Int × Int) × (Int × List Int × Int × Int) × Int × Bool) × List (Int × Int × Int)) × List (Int × List (List ((Int × Int) × (Int × List Int × Int × Int) × Int × Bool)) × List (Int × Int × Int))) :=
 (F_laws_markChain x0.2.2 x1).bind fun (y2 : Int × (List (List UInt8) × List (Int × Int)) × List (Int × Int × Int) × List Int × (Int × Int × List ((Int × Int) × (Int × List Int × Int × Int) × Int × Bool) × List (Int × Int × Int)) × List (Int × List (List ((Int × Int) × (Int × List Int × Int × Int) × Int × Bool)) × List (Int × Int × Int))) =>
 some (y2.1, (x0.1, (x0.2.1, y2.2)))
noncomputable def K_laws_markChainResult : Callee := { ins := [.mu s18 (.p .z (.p .z (.p (.p (.o .z) (.o .z)) (.p (.o .z) (.p (.o .z) (.p (.p .z (.p .z (.p (.o (.p .z (.p (.p .z (.p (.o .z) .z)) .z))) (.o .z)))) (.o (.p .z (.p (.o (.o (.p .z (.p (.p .z (.p (.o .z) .z)) .z)))) (.o .z)))))))))) (.p .z (.p .z (.p (.p (.o .z) (.o .z)) (.p (.o .z) (.p (.o .z) (.p (.p .z (.p .z (.p (.o (.p .z (.p (.p .z (.p (.o .z) .z)) .z))) (.o .z)))) (.o (.p .z (.p (.o (.o (.p .z (.p (.p .z (.p (.o .z) .z)) .z)))) (.o .z)))))))))), .v (.int .i64) .z], outs := [((.int .i64), .z)], F := fun t => F_laws_markChainResult t.1 t.2.1 }
noncomputable def X_laws_markChainResult : Ctx := { tys := tys, fns := [(59, K_laws_markChain)], frz := [], lps := [], jns := [], rjs := [] }

noncomputable def F_laws_heldStringS (x0 : List (List UInt8)) (x1 : Int) : Option (Int) :=
 (loopO (S := Int × Int) (X := (Int) ⊕ (Int)) (fun (s10 : Int × Int) =>
 bif (decide ((s10.2 : Int) < (List.length x0 : Int))) then
 bif (inB s10.2 x0) then
 (F_laws_markText s10.1).bind fun (y11 : List UInt8) =>
 bif (!decide ((List.getD x0 (Int.toNat s10.2) [] : List UInt8) = y11)) then
 some (Sum.inr (Sum.inr (-1)))
 else
 some (Sum.inl (IntKind.wrap .i64 (s10.1 + 1), IntKind.wrap .i64 (s10.2 + 1)))
 else none
 else
 some (Sum.inr (Sum.inl s10.1))) (x1, 0)).bind fun (j12 : (Int) ⊕ (Int)) =>
 Sum.elim (fun (j13 : Int) =>
 some j13) (fun (j14 : Int) =>
 some j14) j12
noncomputable def K_laws_heldStringS : Callee := { ins := [.v (.list .str) .z, .v (.int .i64) .z], outs := [((.int .i64), .z)], F := fun t => F_laws_heldStringS t.1 t.2.1 }
noncomputable def X_laws_heldStringS : Ctx := { tys := tys, fns := [(116, K_laws_markText)], frz := [], lps := [(2, (⟨[(0, .keep), (1, .st (.int .i64) .z false), (5, .st (.int .i64) .z false)], []⟩, ⟨[((.exit 0), ⟨[(1, .st (.int .i64) .z false)], []⟩), (.ret, ⟨[(4, .st (.int .i64) .z false)], []⟩)]⟩))], jns := [], rjs := [] }

noncomputable def F_laws_heldSignS (x0 : List (Int × Int)) (x1 : Int) : Option (Int) :=
 (loopO (S := Int × Int) (X := (Int) ⊕ (Int)) (fun (s5 : Int × Int) =>
 bif (decide ((s5.2 : Int) < (List.length x0 : Int))) then
 bif (inB s5.2 x0) then
 bif (!decide (((List.getD x0 (Int.toNat s5.2) (0, 0)).1 : Int) = s5.1)) then
 some (Sum.inr (Sum.inr (-1)))
 else
 bif (inB s5.2 x0) then
 bif (!decide (((List.getD x0 (Int.toNat s5.2) (0, 0)).2 : Int) = IntKind.wrap .i64 (s5.1 + 1))) then
 some (Sum.inr (Sum.inr (-1)))
 else
 some (Sum.inl (IntKind.wrap .i64 ((IntKind.wrap .i64 (s5.1 + 1)) + 1), IntKind.wrap .i64 (s5.2 + 1)))
 else none
 else none
 else
 some (Sum.inr (Sum.inl s5.1))) (x1, 0)).bind fun (j6 : (Int) ⊕ (Int)) =>
 Sum.elim (fun (j7 : Int) =>
 some j7) (fun (j8 : Int) =>
 some j8) j6
noncomputable def K_laws_heldSignS : Callee := { ins := [.v (.list s0) .z, .v (.int .i64) .z], outs := [((.int .i64), .z)], F := fun t => F_laws_heldSignS t.1 t.2.1 }
noncomputable def X_laws_heldSignS : Ctx := { tys := tys, fns := [], frz := [], lps := [(2, (⟨[(0, .keep), (1, .st (.int .i64) .z false), (5, .st (.int .i64) .z false)], []⟩, ⟨[((.exit 0), ⟨[(1, .st (.int .i64) .z false)], []⟩), (.ret, ⟨[(4, .st (.int .i64) .z false)], []⟩)]⟩))], jns := [], rjs := [] }

noncomputable def F_laws_heldLedger (x0 : List (List UInt8) × List (Int × Int)) (x1 : Int) : Option (Int) :=
 (F_laws_heldStringS x0.1 x1).bind fun (y3 : Int) =>
 bif (decide ((y3 : Int) < 0)) then
 some (-1)
 else
 (F_laws_heldSignS x0.2 y3).bind fun (y4 : Int) =>
 bif (decide ((y4 : Int) < 0)) then
 some (-1)
 else
 some y4
noncomputable def K_laws_heldLedger : Callee := { ins := [.v s1 .z, .v (.int .i64) .z], outs := [((.int .i64), .z)], F := fun t => F_laws_heldLedger t.1 t.2.1 }
noncomputable def X_laws_heldLedger : Ctx := { tys := tys, fns := [(166, K_laws_heldStringS), (167, K_laws_heldSignS)], frz := [], lps := [], jns := [], rjs := [] }

noncomputable def F_laws_heldNodeS (x0 : List (Int × Int × Int)) (x1 : Int) : Option (Int) :=
 (loopO (S := Int × Int) (X := (Int) ⊕ (Int)) (fun (s5 : Int × Int) =>
 bif (decide ((s5.2 : Int) < (List.length x0 : Int))) then
 bif (inB s5.2 x0) then
 bif (!decide (((List.getD x0 (Int.toNat s5.2) (0, (0, 0))).1 : Int) = s5.1)) then
 some (Sum.inr (Sum.inr (-1)))
 else
 bif (inB s5.2 x0) then
 bif (!decide (((List.getD x0 (Int.toNat s5.2) (0, (0, 0))).2.1 : Int) = IntKind.wrap .i64 (s5.1 + 1))) then
 some (Sum.inr (Sum.inr (-1)))
 else
 bif (inB s5.2 x0) then
 bif (!decide (((List.getD x0 (Int.toNat s5.2) (0, (0, 0))).2.2 : Int) = IntKind.wrap .i64 ((IntKind.wrap .i64 (s5.1 + 1)) + 1))) then
 some (Sum.inr (Sum.inr (-1)))
 else
 some (Sum.inl (IntKind.wrap .i64 ((IntKind.wrap .i64 ((IntKind.wrap .i64 (s5.1 + 1)) + 1)) + 1), IntKind.wrap .i64 (s5.2 + 1)))
 else none
 else none
 else none
 else
 some (Sum.inr (Sum.inl s5.1))) (x1, 0)).bind fun (j6 : (Int) ⊕ (Int)) =>
 Sum.elim (fun (j7 : Int) =>
 some j7) (fun (j8 : Int) =>
 some j8) j6
noncomputable def K_laws_heldNodeS : Callee := { ins := [.v (.list s2) .z, .v (.int .i64) .z], outs := [((.int .i64), .z)], F := fun t => F_laws_heldNodeS t.1 t.2.1 }
noncomputable def X_laws_heldNodeS : Ctx := { tys := tys, fns := [], frz := [], lps := [(2, (⟨[(0, .keep), (1, .st (.int .i64) .z false), (5, .st (.int .i64) .z false)], []⟩, ⟨[((.exit 0), ⟨[(1, .st (.int .i64) .z false)], []⟩), (.ret, ⟨[(4, .st (.int .i64) .z false)], []⟩)]⟩))], jns := [], rjs := [] }

noncomputable def F_laws_heldInt64S (x0 : List Int) (x1 : Int) : Option (Int) :=
 (loopO (S := Int × Int) (X := (Int) ⊕ (Int)) (fun (s5 : Int × Int) =>
 bif (decide ((s5.2 : Int) < (List.length x0 : Int))) then
 bif (inB s5.2 x0) then
 bif (!decide ((List.getD x0 (Int.toNat s5.2) 0 : Int) = s5.1)) then
 some (Sum.inr (Sum.inr (-1)))
 else
 some (Sum.inl (IntKind.wrap .i64 (s5.1 + 1), IntKind.wrap .i64 (s5.2 + 1)))
 else none
 else
 some (Sum.inr (Sum.inl s5.1))) (x1, 0)).bind fun (j6 : (Int) ⊕ (Int)) =>
 Sum.elim (fun (j7 : Int) =>
 some j7) (fun (j8 : Int) =>
 some j8) j6
noncomputable def K_laws_heldInt64S : Callee := { ins := [.v (.list (.int .i64)) .z, .v (.int .i64) .z], outs := [((.int .i64), .z)], F := fun t => F_laws_heldInt64S t.1 t.2.1 }
noncomputable def X_laws_heldInt64S : Ctx := { tys := tys, fns := [], frz := [], lps := [(2, (⟨[(0, .keep), (1, .st (.int .i64) .z false), (5, .st (.int .i64) .z false)], []⟩, ⟨[((.exit 0), ⟨[(1, .st (.int .i64) .z false)], []⟩), (.ret, ⟨[(4, .st (.int .i64) .z false)], []⟩)]⟩))], jns := [], rjs := [] }

noncomputable def F_laws_heldCoinS (x0 : List ((Int × Int) × (Int × List Int × Int × Int) × Int × Bool)) (x1 : Int) : Option (Int) :=
 (loopO (S := Int × Int) (X := (Int) ⊕ (Int)) (fun (s10 : Int × Int) =>
 bif (decide ((s10.2 : Int) < (List.length x0 : Int))) then
 bif (inB s10.2 x0) then
 bif (!decide (((List.getD x0 (Int.toNat s10.2) ((0, 0), ((0, ([], (0, 0))), (0, false)))).1.1 : Int) = s10.1)) then
 some (Sum.inr (Sum.inr (-1)))
 else
 bif (inB s10.2 x0) then
 bif (!decide (((List.getD x0 (Int.toNat s10.2) ((0, 0), ((0, ([], (0, 0))), (0, false)))).1.2 : Int) = IntKind.wrap .i64 (s10.1 + 1))) then
 some (Sum.inr (Sum.inr (-1)))
 else
 bif (inB s10.2 x0) then
 bif (!decide (((List.getD x0 (Int.toNat s10.2) ((0, 0), ((0, ([], (0, 0))), (0, false)))).2.1.1 : Int) = IntKind.wrap .i64 ((IntKind.wrap .i64 (s10.1 + 1)) + 1))) then
 some (Sum.inr (Sum.inr (-1)))
 else
 bif (inB s10.2 x0) then
 (F_laws_heldInt64S (List.getD x0 (Int.toNat s10.2) ((0, 0), ((0, ([], (0, 0))), (0, false)))).2.1.2.1 (IntKind.wrap .i64 ((IntKind.wrap .i64 ((IntKind.wrap .i64 (s10.1 + 1)) + 1)) + 1))).bind fun (y11 : Int) =>
 bif (decide ((y11 : Int) < 0)) then
 some (Sum.inr (Sum.inr (-1)))
 else
 bif (inB s10.2 x0) then
 bif (!decide (((List.getD x0 (Int.toNat s10.2) ((0, 0), ((0, ([], (0, 0))), (0, false)))).2.1.2.2.1 : Int) = y11)) then
 some (Sum.inr (Sum.inr (-1)))
 else
 bif (inB s10.2 x0) then
 bif (!decide (((List.getD x0 (Int.toNat s10.2) ((0, 0), ((0, ([], (0, 0))), (0, false)))).2.1.2.2.2 : Int) = IntKind.wrap .i64 (y11 + 1))) then
 some (Sum.inr (Sum.inr (-1)))
 else
 bif (inB s10.2 x0) then
 bif (!decide (((List.getD x0 (Int.toNat s10.2) ((0, 0), ((0, ([], (0, 0))), (0, false)))).2.2.1 : Int) = IntKind.wrap .i64 ((IntKind.wrap .i64 (y11 + 1)) + 1))) then
 some (Sum.inr (Sum.inr (-1)))
 else
 bif (inB s10.2 x0) then
 bif (!(Sh.beq .bool (List.getD x0 (Int.toNat s10.2) ((0, 0), ((0, ([], (0, 0))), (0, false)))).2.2.2 (decide ((Int.tmod (IntKind.wrap .i64 ((IntKind.wrap .i64 ((IntKind.wrap .i64 (y11 + 1)) + 1)) + 1)) 3 : Int) = 0)))) then
 some (Sum.inr (Sum.inr (-1)))
 else
 some (Sum.inl (IntKind.wrap .i64 ((IntKind.wrap .i64 ((IntKind.wrap .i64 ((IntKind.wrap .i64 (y11 + 1)) + 1)) + 1)) + 1), IntKind.wrap .i64 (s10.2 + 1)))
 else none
 else none
 else none
 else none
 else none
 else none
 else none
 else none
 else
 some (Sum.inr (Sum.inl s10.1))) (x1, 0)).bind fun (j12 : (Int) ⊕ (Int)) =>
 Sum.elim (fun (j13 : Int) =>
 some j13) (fun (j14 : Int) =>
 some j14) j12
noncomputable def K_laws_heldCoinS : Callee := { ins := [.v (.list s7) .z, .v (.int .i64) .z], outs := [((.int .i64), .z)], F := fun t => F_laws_heldCoinS t.1 t.2.1 }
noncomputable def X_laws_heldCoinS : Ctx := { tys := tys, fns := [(123, K_laws_heldInt64S)], frz := [], lps := [(2, (⟨[(0, .keep), (1, .st (.int .i64) .z false), (5, .st (.int .i64) .z false)], []⟩, ⟨[((.exit 0), ⟨[(1, .st (.int .i64) .z false)], []⟩), (.ret, ⟨[(4, .st (.int .i64) .z false)], []⟩)]⟩))], jns := [], rjs := [] }

noncomputable def F_laws_heldMemberS (x0 : List (Int × Int × Int)) (x1 : Int) : Option (Int) :=
 (loopO (S := Int × Int) (X := (Int) ⊕ (Int)) (fun (s5 : Int × Int) =>
 bif (decide ((s5.2 : Int) < (List.length x0 : Int))) then
 bif (inB s5.2 x0) then
 bif (!decide (((List.getD x0 (Int.toNat s5.2) (0, (0, 0))).1 : Int) = s5.1)) then
 some (Sum.inr (Sum.inr (-1)))
 else
 bif (inB s5.2 x0) then
 bif (!decide (((List.getD x0 (Int.toNat s5.2) (0, (0, 0))).2.1 : Int) = IntKind.wrap .i64 (s5.1 + 1))) then
 some (Sum.inr (Sum.inr (-1)))
 else
 bif (inB s5.2 x0) then
 bif (!decide (((List.getD x0 (Int.toNat s5.2) (0, (0, 0))).2.2 : Int) = IntKind.wrap .i64 ((IntKind.wrap .i64 (s5.1 + 1)) + 1))) then
 some (Sum.inr (Sum.inr (-1)))
 else
 some (Sum.inl (IntKind.wrap .i64 ((IntKind.wrap .i64 ((IntKind.wrap .i64 (s5.1 + 1)) + 1)) + 1), IntKind.wrap .i64 (s5.2 + 1)))
 else none
 else none
 else none
 else
 some (Sum.inr (Sum.inl s5.1))) (x1, 0)).bind fun (j6 : (Int) ⊕ (Int)) =>
 Sum.elim (fun (j7 : Int) =>
 some j7) (fun (j8 : Int) =>
 some j8) j6
noncomputable def K_laws_heldMemberS : Callee := { ins := [.v (.list s2) .z, .v (.int .i64) .z], outs := [((.int .i64), .z)], F := fun t => F_laws_heldMemberS t.1 t.2.1 }
noncomputable def X_laws_heldMemberS : Ctx := { tys := tys, fns := [], frz := [], lps := [(2, (⟨[(0, .keep), (1, .st (.int .i64) .z false), (5, .st (.int .i64) .z false)], []⟩, ⟨[((.exit 0), ⟨[(1, .st (.int .i64) .z false)], []⟩), (.ret, ⟨[(4, .st (.int .i64) .z false)], []⟩)]⟩))], jns := [], rjs := [] }

noncomputable def F_laws_heldState (x0 : Int × Int × List ((Int × Int) × (Int × List Int × Int × Int) × Int × Bool) × List (Int × Int × Int)) (x1 : Int) : Option (Int) :=
 (F_laws_heldCoinS x0.2.2.1 x1).bind fun (y3 : Int) =>
 bif (decide ((y3 : Int) < 0)) then
 some (-1)
 else
 (F_laws_heldMemberS x0.2.2.2 y3).bind fun (y4 : Int) =>
 bif (decide ((y4 : Int) < 0)) then
 some (-1)
 else
 some y4
noncomputable def K_laws_heldState : Callee := { ins := [.v s10 .z, .v (.int .i64) .z], outs := [((.int .i64), .z)], F := fun t => F_laws_heldState t.1 t.2.1 }
noncomputable def X_laws_heldState : Ctx := { tys := tys, fns := [(168, K_laws_heldCoinS), (169, K_laws_heldMemberS)], frz := [], lps := [], jns := [], rjs := [] }

noncomputable def F_laws_heldCoinSS (x0 : List (List ((Int × Int) × (Int × List Int × Int × Int) × Int × Bool))) (x1 : Int) : Option (Int) :=
 (loopO (S := Int × Int) (X := (Int) ⊕ (Int)) (fun (s10 : Int × Int) =>
 bif (decide ((s10.2 : Int) < (List.length x0 : Int))) then
 bif (inB s10.2 x0) then
 (F_laws_heldCoinS (List.getD x0 (Int.toNat s10.2) []) s10.1).bind fun (y11 : Int) =>
 bif (decide ((y11 : Int) < 0)) then
 some (Sum.inr (Sum.inr (-1)))
 else
 some (Sum.inl (y11, IntKind.wrap .i64 (s10.2 + 1)))
 else none
 else
 some (Sum.inr (Sum.inl s10.1))) (x1, 0)).bind fun (j12 : (Int) ⊕ (Int)) =>
 Sum.elim (fun (j13 : Int) =>
 some j13) (fun (j14 : Int) =>
 some j14) j12
noncomputable def K_laws_heldCoinSS : Callee := { ins := [.v (.list (.list s7)) .z, .v (.int .i64) .z], outs := [((.int .i64), .z)], F := fun t => F_laws_heldCoinSS t.1 t.2.1 }
noncomputable def X_laws_heldCoinSS : Ctx := { tys := tys, fns := [(168, K_laws_heldCoinS)], frz := [], lps := [(2, (⟨[(0, .keep), (1, .st (.int .i64) .z false), (5, .st (.int .i64) .z false)], []⟩, ⟨[((.exit 0), ⟨[(1, .st (.int .i64) .z false)], []⟩), (.ret, ⟨[(4, .st (.int .i64) .z false)], []⟩)]⟩))], jns := [], rjs := [] }

noncomputable def F_laws_heldUndoS (x0 : List (Int × List (List ((Int × Int) × (Int × List Int × Int × Int) × Int × Bool)) × List (Int × Int × Int))) (x1 : Int) : Option (Int) :=
 (loopO (S := Int × Int) (X := (Int) ⊕ (Int)) (fun (s15 : Int × Int) =>
 bif (decide ((s15.2 : Int) < (List.length x0 : Int))) then
 bif (inB s15.2 x0) then
 bif (!decide (((List.getD x0 (Int.toNat s15.2) (0, ([], []))).1 : Int) = s15.1)) then
 some (Sum.inr (Sum.inr (-1)))
 else
 bif (inB s15.2 x0) then
 (F_laws_heldCoinSS (List.getD x0 (Int.toNat s15.2) (0, ([], []))).2.1 (IntKind.wrap .i64 (s15.1 + 1))).bind fun (y16 : Int) =>
 bif (decide ((y16 : Int) < 0)) then
 some (Sum.inr (Sum.inr (-1)))
 else
 bif (inB s15.2 x0) then
 (F_laws_heldMemberS (List.getD x0 (Int.toNat s15.2) (0, ([], []))).2.2 y16).bind fun (y17 : Int) =>
 bif (decide ((y17 : Int) < 0)) then
 some (Sum.inr (Sum.inr (-1)))
 else
 some (Sum.inl (y17, IntKind.wrap .i64 (s15.2 + 1)))
 else none
 else none
 else none
 else
 some (Sum.inr (Sum.inl s15.1))) (x1, 0)).bind fun (j18 : (Int) ⊕ (Int)) =>
 Sum.elim (fun (j19 : Int) =>
 some j19) (fun (j20 : Int) =>
 some j20) j18
noncomputable def K_laws_heldUndoS : Callee := { ins := [.v (.list s12) .z, .v (.int .i64) .z], outs := [((.int .i64), .z)], F := fun t => F_laws_heldUndoS t.1 t.2.1 }
noncomputable def X_laws_heldUndoS : Ctx := { tys := tys, fns := [(169, K_laws_heldMemberS), (170, K_laws_heldCoinSS)], frz := [], lps := [(2, (⟨[(0, .keep), (1, .st (.int .i64) .z false), (5, .st (.int .i64) .z false)], []⟩, ⟨[((.exit 0), ⟨[(1, .st (.int .i64) .z false)], []⟩), (.ret, ⟨[(4, .st (.int .i64) .z false)], []⟩)]⟩))], jns := [], rjs := [] }

noncomputable def F_laws_heldChain (x0 : (List (List UInt8) × List (Int × Int)) × List (Int × Int × Int) × List Int × (Int × Int × List ((Int × Int) × (Int × List Int × Int × Int) × Int × Bool) × List (Int × Int × Int)) × List (Int × List (List ((Int × Int) × (Int × List Int × Int × Int) × Int × Bool)) × List (Int × Int × Int))) (x1 : Int) : Option (Int) :=
 (F_laws_heldLedger x0.1 x1).bind fun (y6 : Int) =>
 bif (decide ((y6 : Int) < 0)) then
 some (-1)
 else
 (F_laws_heldNodeS x0.2.1 y6).bind fun (y7 : Int) =>
 bif (decide ((y7 : Int) < 0)) then
 some (-1)
 else
 (F_laws_heldInt64S x0.2.2.1 y7).bind fun (y8 : Int) =>
 bif (decide ((y8 : Int) < 0)) then
 some (-1)
 else
 (F_laws_heldState x0.2.2.2.1 y8).bind fun (y9 : Int) =>
 bif (decide ((y9 : Int) < 0)) then
 some (-1)
 else
 (F_laws_heldUndoS x0.2.2.2.2 y9).bind fun (y10 : Int) =>
 bif (decide ((y10 : Int) < 0)) then
 some (-1)
 else
 some y10
noncomputable def K_laws_heldChain : Callee := { ins := [.v s16 .z, .v (.int .i64) .z], outs := [((.int .i64), .z)], F := fun t => F_laws_heldChain t.1 t.2.1 }
noncomputable def X_laws_heldChain : Ctx := { tys := tys, fns := [(121, K_laws_heldLedger), (122, K_laws_heldNodeS), (123, K_laws_heldInt64S), (124, K_laws_heldState), (125, K_laws_heldUndoS)], frz := [], lps := [], jns := [], rjs := [] }

noncomputable def F_laws_heldChainResult (x0 : Int × Int × (List (List UInt8) × List (Int × Int)) × List (Int × Int × Int) × List Int × (Int × Int × List ((Int × Int) × (Int × List Int × Int × Int) × Int × Bool) × List (Int × Int × Int)) × List (Int × List (List ((Int × Int) × (Int × List Int × Int × Int) × Int × Bool)) × List (Int × Int × Int))) (x1 : Int) : Option (Int) :=
 (F_laws_heldChain x0.2.2 x1).bind fun (y2 : Int) =>
 bif (decide ((y2 : Int) < 0)) then
 some (-1)
 else
 some y2
noncomputable def K_laws_heldChainResult : Callee := { ins := [.v s18 .z, .v (.int .i64) .z], outs := [((.int .i64), .z)], F := fun t => F_laws_heldChainResult t.1 t.2.1 }
noncomputable def X_laws_heldChainResult : Ctx := { tys := tys, fns := [(60, K_laws_heldChain)], frz := [], lps := [], jns := [], rjs := [] }

noncomputable def F_laws_FnExactNewChain (x0 : List (List UInt8) × List (Int × Int)) : Option (Bool) :=
 (F_laws_szLedger x0 1048576).bind fun (y19 : Int) =>
 bif (decide ((y19 : Int) < 0)) then
 some true
 else
 (F_laws_toLedger x0).bind fun (y20 : List (List UInt8) × List (Int × Int)) =>
 (F_spec_NewChain y20).bind fun (y21 : Int × Int × (List (List UInt8) × List (Int × Int)) × List (Int × Int × Int) × List Int × (Int × Int × List ((Int × Int) × (Int × List Int × Int × Int) × Int × Bool) × List (Int × Int × Int)) × List (Int × List (List ((Int × Int) × (Int × List Int × Int × Int) × Int × Bool)) × List (Int × Int × Int))) =>
 (F_laws_toLedger x0).bind fun (y22 : List (List UInt8) × List (Int × Int)) =>
 (F_impl_NewChain y22).bind fun (y23 : Int × Int × (List (List UInt8) × List (Int × Int)) × List (Int × Int × Int) × List Int × (Int × Int × List ((Int × Int) × (Int × List Int × Int × Int) × Int × Bool) × List (Int × Int × Int)) × List (Int × List (List ((Int × Int) × (Int × List Int × Int × Int) × Int × Bool)) × List (Int × Int × Int))) =>
 (F_laws_eqChainResult y23 y21).bind fun (y24 : Bool) =>
 bif (!y24) then
 some false
 else
 (F_laws_toLedger x0).bind fun (y25 : List (List UInt8) × List (Int × Int)) =>
 (F_laws_eqLedger y22 y25).bind fun (y26 : Bool) =>
 bif (!y26) then
 some false
 else
 (F_laws_markLedger y22 1).bind fun (y27 : Int × List (List UInt8) × List (Int × Int)) =>
 (bif (decide ((y27.1 : Int) < 0)) then
 some true
 else
 (F_laws_eqChainResult y23 y21).bind fun (y29 : Bool) =>
 some (!y29) : Option (Bool)).bind fun (j30 : Bool) =>
 bif j30 then
 some false
 else
 (F_laws_markChainResult y23 1).bind fun (y31 : Int × Int × Int × (List (List UInt8) × List (Int × Int)) × List (Int × Int × Int) × List Int × (Int × Int × List ((Int × Int) × (Int × List Int × Int × Int) × Int × Bool) × List (Int × Int × Int)) × List (Int × List (List ((Int × Int) × (Int × List Int × Int × Int) × Int × Bool)) × List (Int × Int × Int))) =>
 (F_laws_heldChainResult y31.2 1).bind fun (y32 : Int) =>
 bif (decide ((y32 : Int) < 0)) then
 some false
 else
 bif (!decide ((y32 : Int) = y31.1)) then
 some false
 else
 (F_laws_toLedger x0).bind fun (y33 : List (List UInt8) × List (Int × Int)) =>
 (F_impl_NewChain y33).bind fun (y34 : Int × Int × (List (List UInt8) × List (Int × Int)) × List (Int × Int × Int) × List Int × (Int × Int × List ((Int × Int) × (Int × List Int × Int × Int) × Int × Bool) × List (Int × Int × Int)) × List (Int × List (List ((Int × Int) × (Int × List Int × Int × Int) × Int × Bool)) × List (Int × Int × Int))) =>
 (F_laws_eqChainResult y34 y21).bind fun (y35 : Bool) =>
 bif (!y35) then
 some false
 else
 (F_laws_heldChainResult y31.2 1).bind fun (y36 : Int) =>
 bif (decide ((y36 : Int) < 0)) then
 some false
 else
 bif (!decide ((y36 : Int) = y31.1)) then
 some false
 else
 some true
noncomputable def K_laws_FnExactNewChain : Callee := { ins := [.v s1 .z], outs := [(.bool, .z)], F := fun t => F_laws_FnExactNewChain t.1 }
noncomputable def X_laws_FnExactNewChain : Ctx := { tys := tys, fns := [(11, K_laws_szLedger), (12, K_spec_NewChain), (13, K_laws_toLedger), (14, K_impl_NewChain), (15, K_laws_eqChainResult), (16, K_laws_eqLedger), (17, K_laws_markLedger), (18, K_laws_markChainResult), (19, K_laws_heldChainResult)], frz := [], lps := [], jns := [], rjs := [(14, ⟨[(1, .keep), (4, .keep), (6, .keep), (42, .st .bool .z false)], [(1, .keep), (4, .keep), (6, .keep)]⟩)] }

end NC
end Go.Dx
