/- What each function of this law computes, as a function of plain data (F), its parameters (K) and hints for the executor (X); the types -/
import Derived.Test.YtdlnpjjdenahoaaDxc
import Derived.Test.YtdlnpjjdenahoaaProg
import Derived.KernelRfl
set_option linter.unusedVariables false
set_option linter.unusedSimpArgs false
set_option maxRecDepth 100000
set_option maxHeartbeats 0
namespace Go.Dx
open Go.Proofs
namespace SC
def s0 : Sh := (.prod (.int .i64) (.int .i64))
def s1 : Sh := (.prod (.list .str) (.list s0))
def s2 : Sh := (.prod (.int .i64) s0)
def s3 : Sh := (.prod (.list (.int .i64)) s0)
def s4 : Sh := (.prod (.int .i64) s3)
def s5 : Sh := (.prod (.int .i64) .bool)
def s6 : Sh := (.prod s4 s5)
def s7 : Sh := (.prod s0 s6)
def s8 : Sh := (.prod (.list s7) (.list s2))
def s9 : Sh := (.prod (.int .i64) s8)
def s10 : Sh := (.prod (.int .i64) s9)
def s11 : Sh := (.prod (.list (.list s7)) (.list s2))
def s12 : Sh := (.prod (.int .i64) s11)
def s13 : Sh := (.prod s10 (.list s12))
def s14 : Sh := (.prod (.list (.int .i64)) s13)
def s15 : Sh := (.prod (.list s2) s14)
def s16 : Sh := (.prod s1 s15)
def tys : List (TypeId × TI) := [(2, ⟨(.int .i64), 8, .int .i64⟩),
  (3, ⟨(.int .i64), 8, .int .i64⟩),
  (4, ⟨.bool, 1, .bool⟩),
  (9, ⟨.str, 16, .str⟩),
  (22, ⟨(.list .str), 24, .slice 9⟩),
  (23, ⟨(.list s0), 24, .slice 167⟩),
  (25, ⟨s1, 48, .struct [(0, 22), (1, 23)]⟩),
  (26, ⟨(.list s2), 24, .slice 153⟩),
  (27, ⟨(.list (.int .i64)), 24, .slice 2⟩),
  (28, ⟨(.list s7), 24, .slice 204⟩),
  (29, ⟨(.list s2), 24, .slice 218⟩),
  (31, ⟨s10, 64, .struct [(0, 2), (1, 2), (2, 28), (3, 29)]⟩),
  (32, ⟨(.list s12), 24, .slice 149⟩),
  (34, ⟨s16, 184, .struct [(0, 25), (2, 26), (3, 27), (4, 31), (8, 32)]⟩),
  (37, ⟨(.list s0), 24, .slice 164⟩),
  (39, ⟨s1, 48, .struct [(0, 22), (1, 37)]⟩),
  (40, ⟨(.list s2), 24, .slice 91⟩),
  (41, ⟨(.list s7), 24, .slice 210⟩),
  (42, ⟨(.list s2), 24, .slice 214⟩),
  (44, ⟨s10, 64, .struct [(0, 2), (1, 2), (2, 41), (3, 42)]⟩),
  (45, ⟨(.list s12), 24, .slice 158⟩),
  (47, ⟨s16, 184, .struct [(0, 39), (2, 40), (3, 27), (4, 44), (8, 45)]⟩),
  (91, ⟨s2, 24, .struct [(0, 2), (1, 2), (2, 2)]⟩),
  (139, ⟨s0, 16, .struct [(0, 2), (1, 2)]⟩),
  (147, ⟨(.list (.list s7)), 24, .slice 28⟩),
  (149, ⟨s12, 56, .struct [(0, 2), (1, 147), (2, 29)]⟩),
  (153, ⟨s2, 24, .struct [(0, 2), (1, 2), (2, 2)]⟩),
  (156, ⟨(.list (.list s7)), 24, .slice 41⟩),
  (158, ⟨s12, 56, .struct [(0, 2), (1, 156), (2, 42)]⟩),
  (164, ⟨s0, 16, .struct [(0, 2), (1, 2)]⟩),
  (167, ⟨s0, 16, .struct [(0, 2), (1, 2)]⟩),
  (198, ⟨s0, 16, .struct [(0, 2), (1, 2)]⟩),
  (200, ⟨s3, 40, .struct [(0, 27), (1, 2), (2, 2)]⟩),
  (202, ⟨s4, 48, .struct [(0, 2), (1, 200)]⟩),
  (204, ⟨s7, 80, .struct [(0, 198), (2, 202), (6, 2), (7, 4)]⟩),
  (206, ⟨s3, 40, .struct [(0, 27), (1, 2), (2, 2)]⟩),
  (208, ⟨s4, 48, .struct [(0, 2), (1, 206)]⟩),
  (210, ⟨s7, 80, .struct [(0, 139), (2, 208), (6, 2), (7, 4)]⟩),
  (214, ⟨s2, 24, .struct [(0, 2), (1, 139)]⟩),
  (218, ⟨s2, 24, .struct [(0, 2), (1, 198)]⟩),
  (221, ⟨(.fn2 s7 s7 .bool), 8, .func⟩)]
def X0 : Ctx := { tys := tys, fns := [], frz := [], lps := [], jns := [], rjs := [] }
theorem ty2 : TyOk Try.prog X0 2 ⟨(.int .i64), 8, .int .i64⟩ := ⟨⟨Try.t2, Try.type2, rfl, by decide, by decide, rfl⟩, ⟨Try.underlying2, rfl⟩⟩
theorem ty3 : TyOk Try.prog X0 3 ⟨(.int .i64), 8, .int .i64⟩ := ⟨⟨Try.t3, Try.type3, rfl, by decide, by decide, rfl⟩, ⟨Try.underlying3, rfl⟩⟩
theorem ty4 : TyOk Try.prog X0 4 ⟨.bool, 1, .bool⟩ := ⟨⟨Try.t4, Try.type4, rfl, by decide, by decide, rfl⟩, ⟨Try.underlying4, rfl⟩⟩
theorem ty9 : TyOk Try.prog X0 9 ⟨.str, 16, .str⟩ := ⟨⟨Try.t9, Try.type9, rfl, by decide, by decide, rfl⟩, ⟨Try.underlying9, rfl⟩⟩
theorem ty22 : TyOk Try.prog X0 22 ⟨(.list .str), 24, .slice 9⟩ := ⟨⟨Try.t22, Try.type22, rfl, by decide, by decide, rfl⟩, ⟨Try.underlying22, _, rfl, rfl⟩⟩
theorem ty23 : TyOk Try.prog X0 23 ⟨(.list s0), 24, .slice 167⟩ := ⟨⟨Try.t23, Try.type23, rfl, by decide, by decide, rfl⟩, ⟨Try.underlying23, _, rfl, rfl⟩⟩
theorem ty25 : TyOk Try.prog X0 25 ⟨s1, 48, .struct [(0, 22), (1, 23)]⟩ := ⟨⟨Try.t25, Try.type25, rfl, by decide, by decide, rfl⟩, ⟨⟨_, Try.underlying25, rfl, by simp⟩, ⟨_, _, rfl, rfl, ⟨_, rfl, rfl⟩, ⟨rfl, _, rfl, rfl⟩⟩, by decide, Try.eqGuardType25, Try.stoodInHeld25⟩⟩
theorem ty26 : TyOk Try.prog X0 26 ⟨(.list s2), 24, .slice 153⟩ := ⟨⟨Try.t26, Try.type26, rfl, by decide, by decide, rfl⟩, ⟨Try.underlying26, _, rfl, rfl⟩⟩
theorem ty27 : TyOk Try.prog X0 27 ⟨(.list (.int .i64)), 24, .slice 2⟩ := ⟨⟨Try.t27, Try.type27, rfl, by decide, by decide, rfl⟩, ⟨Try.underlying27, _, rfl, rfl⟩⟩
theorem ty28 : TyOk Try.prog X0 28 ⟨(.list s7), 24, .slice 204⟩ := ⟨⟨Try.t28, Try.type28, rfl, by decide, by decide, rfl⟩, ⟨Try.underlying28, _, rfl, rfl⟩⟩
theorem ty29 : TyOk Try.prog X0 29 ⟨(.list s2), 24, .slice 218⟩ := ⟨⟨Try.t29, Try.type29, rfl, by decide, by decide, rfl⟩, ⟨Try.underlying29, _, rfl, rfl⟩⟩
theorem ty31 : TyOk Try.prog X0 31 ⟨s10, 64, .struct [(0, 2), (1, 2), (2, 28), (3, 29)]⟩ := ⟨⟨Try.t31, Try.type31, rfl, by decide, by decide, rfl⟩, ⟨⟨_, Try.underlying31, rfl, by simp⟩, ⟨_, _, rfl, rfl, ⟨_, rfl, rfl⟩, ⟨_, _, rfl, rfl, ⟨_, rfl, rfl⟩, ⟨_, _, rfl, rfl, ⟨_, rfl, rfl⟩, ⟨rfl, _, rfl, rfl⟩⟩⟩⟩, by decide, Try.eqGuardType31, Try.stoodInHeld31⟩⟩
theorem ty32 : TyOk Try.prog X0 32 ⟨(.list s12), 24, .slice 149⟩ := ⟨⟨Try.t32, Try.type32, rfl, by decide, by decide, rfl⟩, ⟨Try.underlying32, _, rfl, rfl⟩⟩
theorem ty34 : TyOk Try.prog X0 34 ⟨s16, 184, .struct [(0, 25), (2, 26), (3, 27), (4, 31), (8, 32)]⟩ := ⟨⟨Try.t34, Try.type34, rfl, by decide, by decide, rfl⟩, ⟨⟨_, Try.underlying34, rfl, by simp⟩, ⟨_, _, rfl, rfl, ⟨_, rfl, rfl⟩, ⟨_, _, rfl, rfl, ⟨_, rfl, rfl⟩, ⟨_, _, rfl, rfl, ⟨_, rfl, rfl⟩, ⟨_, _, rfl, rfl, ⟨_, rfl, rfl⟩, ⟨rfl, _, rfl, rfl⟩⟩⟩⟩⟩, by decide, Try.eqGuardType34, Try.stoodInHeld34⟩⟩
theorem ty37 : TyOk Try.prog X0 37 ⟨(.list s0), 24, .slice 164⟩ := ⟨⟨Try.t37, Try.type37, rfl, by decide, by decide, rfl⟩, ⟨Try.underlying37, _, rfl, rfl⟩⟩
theorem ty39 : TyOk Try.prog X0 39 ⟨s1, 48, .struct [(0, 22), (1, 37)]⟩ := ⟨⟨Try.t39, Try.type39, rfl, by decide, by decide, rfl⟩, ⟨⟨_, Try.underlying39, rfl, by simp⟩, ⟨_, _, rfl, rfl, ⟨_, rfl, rfl⟩, ⟨rfl, _, rfl, rfl⟩⟩, by decide, Try.eqGuardType39, Try.stoodInHeld39⟩⟩
theorem ty40 : TyOk Try.prog X0 40 ⟨(.list s2), 24, .slice 91⟩ := ⟨⟨Try.t40, Try.type40, rfl, by decide, by decide, rfl⟩, ⟨Try.underlying40, _, rfl, rfl⟩⟩
theorem ty41 : TyOk Try.prog X0 41 ⟨(.list s7), 24, .slice 210⟩ := ⟨⟨Try.t41, Try.type41, rfl, by decide, by decide, rfl⟩, ⟨Try.underlying41, _, rfl, rfl⟩⟩
theorem ty42 : TyOk Try.prog X0 42 ⟨(.list s2), 24, .slice 214⟩ := ⟨⟨Try.t42, Try.type42, rfl, by decide, by decide, rfl⟩, ⟨Try.underlying42, _, rfl, rfl⟩⟩
theorem ty44 : TyOk Try.prog X0 44 ⟨s10, 64, .struct [(0, 2), (1, 2), (2, 41), (3, 42)]⟩ := ⟨⟨Try.t44, Try.type44, rfl, by decide, by decide, rfl⟩, ⟨⟨_, Try.underlying44, rfl, by simp⟩, ⟨_, _, rfl, rfl, ⟨_, rfl, rfl⟩, ⟨_, _, rfl, rfl, ⟨_, rfl, rfl⟩, ⟨_, _, rfl, rfl, ⟨_, rfl, rfl⟩, ⟨rfl, _, rfl, rfl⟩⟩⟩⟩, by decide, Try.eqGuardType44, Try.stoodInHeld44⟩⟩
theorem ty45 : TyOk Try.prog X0 45 ⟨(.list s12), 24, .slice 158⟩ := ⟨⟨Try.t45, Try.type45, rfl, by decide, by decide, rfl⟩, ⟨Try.underlying45, _, rfl, rfl⟩⟩
theorem ty47 : TyOk Try.prog X0 47 ⟨s16, 184, .struct [(0, 39), (2, 40), (3, 27), (4, 44), (8, 45)]⟩ := ⟨⟨Try.t47, Try.type47, rfl, by decide, by decide, rfl⟩, ⟨⟨_, Try.underlying47, rfl, by simp⟩, ⟨_, _, rfl, rfl, ⟨_, rfl, rfl⟩, ⟨_, _, rfl, rfl, ⟨_, rfl, rfl⟩, ⟨_, _, rfl, rfl, ⟨_, rfl, rfl⟩, ⟨_, _, rfl, rfl, ⟨_, rfl, rfl⟩, ⟨rfl, _, rfl, rfl⟩⟩⟩⟩⟩, by decide, Try.eqGuardType47, Try.stoodInHeld47⟩⟩
theorem ty91 : TyOk Try.prog X0 91 ⟨s2, 24, .struct [(0, 2), (1, 2), (2, 2)]⟩ := ⟨⟨Try.t91, Try.type91, rfl, by decide, by decide, rfl⟩, ⟨⟨_, Try.underlying91, rfl, by simp⟩, ⟨_, _, rfl, rfl, ⟨_, rfl, rfl⟩, ⟨_, _, rfl, rfl, ⟨_, rfl, rfl⟩, ⟨rfl, _, rfl, rfl⟩⟩⟩, by decide, Try.eqGuardType91, Try.stoodInHeld91⟩⟩
theorem ty139 : TyOk Try.prog X0 139 ⟨s0, 16, .struct [(0, 2), (1, 2)]⟩ := ⟨⟨Try.t139, Try.type139, rfl, by decide, by decide, rfl⟩, ⟨⟨_, Try.underlying139, rfl, by simp⟩, ⟨_, _, rfl, rfl, ⟨_, rfl, rfl⟩, ⟨rfl, _, rfl, rfl⟩⟩, by decide, Try.eqGuardType139, Try.stoodInHeld139⟩⟩
theorem ty147 : TyOk Try.prog X0 147 ⟨(.list (.list s7)), 24, .slice 28⟩ := ⟨⟨Try.t147, Try.type147, rfl, by decide, by decide, rfl⟩, ⟨Try.underlying147, _, rfl, rfl⟩⟩
theorem ty149 : TyOk Try.prog X0 149 ⟨s12, 56, .struct [(0, 2), (1, 147), (2, 29)]⟩ := ⟨⟨Try.t149, Try.type149, rfl, by decide, by decide, rfl⟩, ⟨⟨_, Try.underlying149, rfl, by simp⟩, ⟨_, _, rfl, rfl, ⟨_, rfl, rfl⟩, ⟨_, _, rfl, rfl, ⟨_, rfl, rfl⟩, ⟨rfl, _, rfl, rfl⟩⟩⟩, by decide, Try.eqGuardType149, Try.stoodInHeld149⟩⟩
theorem ty153 : TyOk Try.prog X0 153 ⟨s2, 24, .struct [(0, 2), (1, 2), (2, 2)]⟩ := ⟨⟨Try.t153, Try.type153, rfl, by decide, by decide, rfl⟩, ⟨⟨_, Try.underlying153, rfl, by simp⟩, ⟨_, _, rfl, rfl, ⟨_, rfl, rfl⟩, ⟨_, _, rfl, rfl, ⟨_, rfl, rfl⟩, ⟨rfl, _, rfl, rfl⟩⟩⟩, by decide, Try.eqGuardType153, Try.stoodInHeld153⟩⟩
theorem ty156 : TyOk Try.prog X0 156 ⟨(.list (.list s7)), 24, .slice 41⟩ := ⟨⟨Try.t156, Try.type156, rfl, by decide, by decide, rfl⟩, ⟨Try.underlying156, _, rfl, rfl⟩⟩
theorem ty158 : TyOk Try.prog X0 158 ⟨s12, 56, .struct [(0, 2), (1, 156), (2, 42)]⟩ := ⟨⟨Try.t158, Try.type158, rfl, by decide, by decide, rfl⟩, ⟨⟨_, Try.underlying158, rfl, by simp⟩, ⟨_, _, rfl, rfl, ⟨_, rfl, rfl⟩, ⟨_, _, rfl, rfl, ⟨_, rfl, rfl⟩, ⟨rfl, _, rfl, rfl⟩⟩⟩, by decide, Try.eqGuardType158, Try.stoodInHeld158⟩⟩
theorem ty164 : TyOk Try.prog X0 164 ⟨s0, 16, .struct [(0, 2), (1, 2)]⟩ := ⟨⟨Try.t164, Try.type164, rfl, by decide, by decide, rfl⟩, ⟨⟨_, Try.underlying164, rfl, by simp⟩, ⟨_, _, rfl, rfl, ⟨_, rfl, rfl⟩, ⟨rfl, _, rfl, rfl⟩⟩, by decide, Try.eqGuardType164, Try.stoodInHeld164⟩⟩
theorem ty167 : TyOk Try.prog X0 167 ⟨s0, 16, .struct [(0, 2), (1, 2)]⟩ := ⟨⟨Try.t167, Try.type167, rfl, by decide, by decide, rfl⟩, ⟨⟨_, Try.underlying167, rfl, by simp⟩, ⟨_, _, rfl, rfl, ⟨_, rfl, rfl⟩, ⟨rfl, _, rfl, rfl⟩⟩, by decide, Try.eqGuardType167, Try.stoodInHeld167⟩⟩
theorem ty198 : TyOk Try.prog X0 198 ⟨s0, 16, .struct [(0, 2), (1, 2)]⟩ := ⟨⟨Try.t198, Try.type198, rfl, by decide, by decide, rfl⟩, ⟨⟨_, Try.underlying198, rfl, by simp⟩, ⟨_, _, rfl, rfl, ⟨_, rfl, rfl⟩, ⟨rfl, _, rfl, rfl⟩⟩, by decide, Try.eqGuardType198, Try.stoodInHeld198⟩⟩
theorem ty200 : TyOk Try.prog X0 200 ⟨s3, 40, .struct [(0, 27), (1, 2), (2, 2)]⟩ := ⟨⟨Try.t200, Try.type200, rfl, by decide, by decide, rfl⟩, ⟨⟨_, Try.underlying200, rfl, by simp⟩, ⟨_, _, rfl, rfl, ⟨_, rfl, rfl⟩, ⟨_, _, rfl, rfl, ⟨_, rfl, rfl⟩, ⟨rfl, _, rfl, rfl⟩⟩⟩, by decide, Try.eqGuardType200, Try.stoodInHeld200⟩⟩
theorem ty202 : TyOk Try.prog X0 202 ⟨s4, 48, .struct [(0, 2), (1, 200)]⟩ := ⟨⟨Try.t202, Try.type202, rfl, by decide, by decide, rfl⟩, ⟨⟨_, Try.underlying202, rfl, by simp⟩, ⟨_, _, rfl, rfl, ⟨_, rfl, rfl⟩, ⟨rfl, _, rfl, rfl⟩⟩, by decide, Try.eqGuardType202, Try.stoodInHeld202⟩⟩
theorem ty204 : TyOk Try.prog X0 204 ⟨s7, 80, .struct [(0, 198), (2, 202), (6, 2), (7, 4)]⟩ := ⟨⟨Try.t204, Try.type204, rfl, by decide, by decide, rfl⟩, ⟨⟨_, Try.underlying204, rfl, by simp⟩, ⟨_, _, rfl, rfl, ⟨_, rfl, rfl⟩, ⟨_, _, rfl, rfl, ⟨_, rfl, rfl⟩, ⟨_, _, rfl, rfl, ⟨_, rfl, rfl⟩, ⟨rfl, _, rfl, rfl⟩⟩⟩⟩, by decide, Try.eqGuardType204, Try.stoodInHeld204⟩⟩
theorem ty206 : TyOk Try.prog X0 206 ⟨s3, 40, .struct [(0, 27), (1, 2), (2, 2)]⟩ := ⟨⟨Try.t206, Try.type206, rfl, by decide, by decide, rfl⟩, ⟨⟨_, Try.underlying206, rfl, by simp⟩, ⟨_, _, rfl, rfl, ⟨_, rfl, rfl⟩, ⟨_, _, rfl, rfl, ⟨_, rfl, rfl⟩, ⟨rfl, _, rfl, rfl⟩⟩⟩, by decide, Try.eqGuardType206, Try.stoodInHeld206⟩⟩
theorem ty208 : TyOk Try.prog X0 208 ⟨s4, 48, .struct [(0, 2), (1, 206)]⟩ := ⟨⟨Try.t208, Try.type208, rfl, by decide, by decide, rfl⟩, ⟨⟨_, Try.underlying208, rfl, by simp⟩, ⟨_, _, rfl, rfl, ⟨_, rfl, rfl⟩, ⟨rfl, _, rfl, rfl⟩⟩, by decide, Try.eqGuardType208, Try.stoodInHeld208⟩⟩
theorem ty210 : TyOk Try.prog X0 210 ⟨s7, 80, .struct [(0, 139), (2, 208), (6, 2), (7, 4)]⟩ := ⟨⟨Try.t210, Try.type210, rfl, by decide, by decide, rfl⟩, ⟨⟨_, Try.underlying210, rfl, by simp⟩, ⟨_, _, rfl, rfl, ⟨_, rfl, rfl⟩, ⟨_, _, rfl, rfl, ⟨_, rfl, rfl⟩, ⟨_, _, rfl, rfl, ⟨_, rfl, rfl⟩, ⟨rfl, _, rfl, rfl⟩⟩⟩⟩, by decide, Try.eqGuardType210, Try.stoodInHeld210⟩⟩
theorem ty214 : TyOk Try.prog X0 214 ⟨s2, 24, .struct [(0, 2), (1, 139)]⟩ := ⟨⟨Try.t214, Try.type214, rfl, by decide, by decide, rfl⟩, ⟨⟨_, Try.underlying214, rfl, by simp⟩, ⟨_, _, rfl, rfl, ⟨_, rfl, rfl⟩, ⟨rfl, _, rfl, rfl⟩⟩, by decide, Try.eqGuardType214, Try.stoodInHeld214⟩⟩
theorem ty218 : TyOk Try.prog X0 218 ⟨s2, 24, .struct [(0, 2), (1, 198)]⟩ := ⟨⟨Try.t218, Try.type218, rfl, by decide, by decide, rfl⟩, ⟨⟨_, Try.underlying218, rfl, by simp⟩, ⟨_, _, rfl, rfl, ⟨_, rfl, rfl⟩, ⟨rfl, _, rfl, rfl⟩⟩, by decide, Try.eqGuardType218, Try.stoodInHeld218⟩⟩
theorem ty221 : TyOk Try.prog X0 221 ⟨(.fn2 s7 s7 .bool), 8, .func⟩ := ⟨⟨Try.t221, Try.type221, rfl, by decide, by decide, trivial⟩, ⟨⟨_, _, _, Try.underlying221⟩, .inr ⟨_, _, _, rfl⟩⟩⟩
theorem tysOk : TysOk Try.prog X0 := tysOk_of ⟨ty2, ty3, ty4, ty9, ty22, ty23, ty25, ty26, ty27, ty28, ty29, ty31, ty32, ty34, ty37, ty39, ty40, ty41, ty42, ty44, ty45, ty47, ty91, ty139, ty147, ty149, ty153, ty156, ty158, ty164, ty167, ty198, ty200, ty202, ty204, ty206, ty208, ty210, ty214, ty218, ty221, trivial⟩
theorem follows : Try.prog.follows .mixedOrders = true := by kernel_rfl
end SC
end Go.Dx

set_option maxRecDepth 100000
set_option maxHeartbeats 0
namespace Go.Dx
open Go.Proofs
namespace SC
noncomputable def F_laws_szStringS (x0 : List (List UInt8)) (x1 : Int) : Option (Int) :=
 bif (decide ((IntKind.wrap .i64 (x1 - (List.length x0 : Int)) : Int) < 0)) then
 some (-1)
 else
 (loopO (S := Int × Int) (X := (Int) ⊕ (Int)) (fun (s5 : Int × Int) =>
 bif (decide ((s5.2 : Int) < (List.length x0 : Int))) then
 bif (inB s5.2 x0) then
 bif (decide ((IntKind.wrap .i64 (s5.1 - (List.length (List.getD x0 (Int.toNat s5.2) []) : Int)) : Int) < 0)) then
 some (Sum.inr (Sum.inr (-1)))
 else
 some (Sum.inl (IntKind.wrap .i64 (s5.1 - (List.length (List.getD x0 (Int.toNat s5.2) []) : Int)), IntKind.wrap .i64 (s5.2 + 1)))
 else none
 else
 some (Sum.inr (Sum.inl s5.1))) (IntKind.wrap .i64 (x1 - (List.length x0 : Int)), 0)).bind fun (j6 : (Int) ⊕ (Int)) =>
 Sum.elim (fun (j7 : Int) =>
 some j7) (fun (j8 : Int) =>
 some j8) j6
noncomputable def K_laws_szStringS : Callee := { ins := [.v (.list .str) .z, .v (.int .i64) .z], outs := [((.int .i64), .z)], F := fun t => F_laws_szStringS t.1 t.2.1 }
noncomputable def X_laws_szStringS : Ctx := { tys := tys, fns := [], frz := [], lps := [(5, (⟨[(0, .keep), (1, .st (.int .i64) .z false), (5, .st (.int .i64) .z false)], []⟩, ⟨[((.exit 0), ⟨[(1, .st (.int .i64) .z false)], []⟩), (.ret, ⟨[(4, .st (.int .i64) .z false)], []⟩)]⟩))], jns := [], rjs := [] }
noncomputable def F_laws_szSignS (x0 : List (Int × Int)) (x1 : Int) : Option (Int) :=
 bif (decide ((IntKind.wrap .i64 (x1 - (List.length x0 : Int)) : Int) < 0)) then
 some (-1)
 else
 some (IntKind.wrap .i64 (x1 - (List.length x0 : Int)))
noncomputable def K_laws_szSignS : Callee := { ins := [.v (.list s0) .z, .v (.int .i64) .z], outs := [((.int .i64), .z)], F := fun t => F_laws_szSignS t.1 t.2.1 }
noncomputable def X_laws_szSignS : Ctx := { tys := tys, fns := [], frz := [], lps := [], jns := [], rjs := [] }
noncomputable def F_laws_szLedger (x0 : List (List UInt8) × List (Int × Int)) (x1 : Int) : Option (Int) :=
 (F_laws_szStringS x0.1 x1).bind fun (y3 : Int) =>
 bif (decide ((y3 : Int) < 0)) then
 some (-1)
 else
 (F_laws_szSignS x0.2 y3).bind fun (y4 : Int) =>
 bif (decide ((y4 : Int) < 0)) then
 some (-1)
 else
 some y4
noncomputable def K_laws_szLedger : Callee := { ins := [.v s1 .z, .v (.int .i64) .z], outs := [((.int .i64), .z)], F := fun t => F_laws_szLedger t.1 t.2.1 }
noncomputable def X_laws_szLedger : Ctx := { tys := tys, fns := [(46, K_laws_szStringS), (47, K_laws_szSignS)], frz := [], lps := [], jns := [], rjs := [] }
noncomputable def F_laws_szNodeS (x0 : List (Int × Int × Int)) (x1 : Int) : Option (Int) :=
 bif (decide ((IntKind.wrap .i64 (x1 - (List.length x0 : Int)) : Int) < 0)) then
 some (-1)
 else
 some (IntKind.wrap .i64 (x1 - (List.length x0 : Int)))
noncomputable def K_laws_szNodeS : Callee := { ins := [.v (.list s2) .z, .v (.int .i64) .z], outs := [((.int .i64), .z)], F := fun t => F_laws_szNodeS t.1 t.2.1 }
noncomputable def X_laws_szNodeS : Ctx := { tys := tys, fns := [], frz := [], lps := [], jns := [], rjs := [] }
noncomputable def F_laws_szInt64S (x0 : List Int) (x1 : Int) : Option (Int) :=
 bif (decide ((IntKind.wrap .i64 (x1 - (List.length x0 : Int)) : Int) < 0)) then
 some (-1)
 else
 some (IntKind.wrap .i64 (x1 - (List.length x0 : Int)))
noncomputable def K_laws_szInt64S : Callee := { ins := [.v (.list (.int .i64)) .z, .v (.int .i64) .z], outs := [((.int .i64), .z)], F := fun t => F_laws_szInt64S t.1 t.2.1 }
noncomputable def X_laws_szInt64S : Ctx := { tys := tys, fns := [], frz := [], lps := [], jns := [], rjs := [] }
noncomputable def F_laws_szRule (x0 : List Int × Int × Int) (x1 : Int) : Option (Int) :=
 (F_laws_szInt64S x0.1 x1).bind fun (y2 : Int) =>
 bif (decide ((y2 : Int) < 0)) then
 some (-1)
 else
 some y2
noncomputable def K_laws_szRule : Callee := { ins := [.v s3 .z, .v (.int .i64) .z], outs := [((.int .i64), .z)], F := fun t => F_laws_szRule t.1 t.2.1 }
noncomputable def X_laws_szRule : Ctx := { tys := tys, fns := [(30, K_laws_szInt64S)], frz := [], lps := [], jns := [], rjs := [] }
noncomputable def F_laws_szOut (x0 : Int × List Int × Int × Int) (x1 : Int) : Option (Int) :=
 (F_laws_szRule x0.2 x1).bind fun (y2 : Int) =>
 bif (decide ((y2 : Int) < 0)) then
 some (-1)
 else
 some y2
noncomputable def K_laws_szOut : Callee := { ins := [.v s4 .z, .v (.int .i64) .z], outs := [((.int .i64), .z)], F := fun t => F_laws_szOut t.1 t.2.1 }
noncomputable def X_laws_szOut : Ctx := { tys := tys, fns := [(209, K_laws_szRule)], frz := [], lps := [], jns := [], rjs := [] }
noncomputable def F_laws_szCoin (x0 : (Int × Int) × (Int × List Int × Int × Int) × Int × Bool) (x1 : Int) : Option (Int) :=
 (F_laws_szOut x0.2.1 x1).bind fun (y2 : Int) =>
 bif (decide ((y2 : Int) < 0)) then
 some (-1)
 else
 some y2
noncomputable def K_laws_szCoin : Callee := { ins := [.v s7 .z, .v (.int .i64) .z], outs := [((.int .i64), .z)], F := fun t => F_laws_szCoin t.1 t.2.1 }
noncomputable def X_laws_szCoin : Ctx := { tys := tys, fns := [(192, K_laws_szOut)], frz := [], lps := [], jns := [], rjs := [] }
noncomputable def F_laws_szCoinS (x0 : List ((Int × Int) × (Int × List Int × Int × Int) × Int × Bool)) (x1 : Int) : Option (Int) :=
 bif (decide ((IntKind.wrap .i64 (x1 - (List.length x0 : Int)) : Int) < 0)) then
 some (-1)
 else
 (loopO (S := Int × Int) (X := (Int) ⊕ (Int)) (fun (s10 : Int × Int) =>
 bif (decide ((s10.2 : Int) < (List.length x0 : Int))) then
 bif (inB s10.2 x0) then
 (F_laws_szCoin (List.getD x0 (Int.toNat s10.2) ((0, 0), ((0, ([], (0, 0))), (0, false)))) s10.1).bind fun (y11 : Int) =>
 bif (decide ((y11 : Int) < 0)) then
 some (Sum.inr (Sum.inr (-1)))
 else
 some (Sum.inl (y11, IntKind.wrap .i64 (s10.2 + 1)))
 else none
 else
 some (Sum.inr (Sum.inl s10.1))) (IntKind.wrap .i64 (x1 - (List.length x0 : Int)), 0)).bind fun (j12 : (Int) ⊕ (Int)) =>
 Sum.elim (fun (j13 : Int) =>
 some j13) (fun (j14 : Int) =>
 some j14) j12
noncomputable def K_laws_szCoinS : Callee := { ins := [.v (.list s7) .z, .v (.int .i64) .z], outs := [((.int .i64), .z)], F := fun t => F_laws_szCoinS t.1 t.2.1 }
noncomputable def X_laws_szCoinS : Ctx := { tys := tys, fns := [(149, K_laws_szCoin)], frz := [], lps := [(5, (⟨[(0, .keep), (1, .st (.int .i64) .z false), (5, .st (.int .i64) .z false)], []⟩, ⟨[((.exit 0), ⟨[(1, .st (.int .i64) .z false)], []⟩), (.ret, ⟨[(4, .st (.int .i64) .z false)], []⟩)]⟩))], jns := [], rjs := [] }
noncomputable def F_laws_szMemberS (x0 : List (Int × Int × Int)) (x1 : Int) : Option (Int) :=
 bif (decide ((IntKind.wrap .i64 (x1 - (List.length x0 : Int)) : Int) < 0)) then
 some (-1)
 else
 some (IntKind.wrap .i64 (x1 - (List.length x0 : Int)))
noncomputable def K_laws_szMemberS : Callee := { ins := [.v (.list s2) .z, .v (.int .i64) .z], outs := [((.int .i64), .z)], F := fun t => F_laws_szMemberS t.1 t.2.1 }
noncomputable def X_laws_szMemberS : Ctx := { tys := tys, fns := [], frz := [], lps := [], jns := [], rjs := [] }
noncomputable def F_laws_szState (x0 : Int × Int × List ((Int × Int) × (Int × List Int × Int × Int) × Int × Bool) × List (Int × Int × Int)) (x1 : Int) : Option (Int) :=
 (F_laws_szCoinS x0.2.2.1 x1).bind fun (y3 : Int) =>
 bif (decide ((y3 : Int) < 0)) then
 some (-1)
 else
 (F_laws_szMemberS x0.2.2.2 y3).bind fun (y4 : Int) =>
 bif (decide ((y4 : Int) < 0)) then
 some (-1)
 else
 some y4
noncomputable def K_laws_szState : Callee := { ins := [.v s10 .z, .v (.int .i64) .z], outs := [((.int .i64), .z)], F := fun t => F_laws_szState t.1 t.2.1 }
noncomputable def X_laws_szState : Ctx := { tys := tys, fns := [(90, K_laws_szCoinS), (91, K_laws_szMemberS)], frz := [], lps := [], jns := [], rjs := [] }
noncomputable def F_laws_szCoinSS (x0 : List (List ((Int × Int) × (Int × List Int × Int × Int) × Int × Bool))) (x1 : Int) : Option (Int) :=
 bif (decide ((IntKind.wrap .i64 (x1 - (List.length x0 : Int)) : Int) < 0)) then
 some (-1)
 else
 (loopO (S := Int × Int) (X := (Int) ⊕ (Int)) (fun (s10 : Int × Int) =>
 bif (decide ((s10.2 : Int) < (List.length x0 : Int))) then
 bif (inB s10.2 x0) then
 (F_laws_szCoinS (List.getD x0 (Int.toNat s10.2) []) s10.1).bind fun (y11 : Int) =>
 bif (decide ((y11 : Int) < 0)) then
 some (Sum.inr (Sum.inr (-1)))
 else
 some (Sum.inl (y11, IntKind.wrap .i64 (s10.2 + 1)))
 else none
 else
 some (Sum.inr (Sum.inl s10.1))) (IntKind.wrap .i64 (x1 - (List.length x0 : Int)), 0)).bind fun (j12 : (Int) ⊕ (Int)) =>
 Sum.elim (fun (j13 : Int) =>
 some j13) (fun (j14 : Int) =>
 some j14) j12
noncomputable def K_laws_szCoinSS : Callee := { ins := [.v (.list (.list s7)) .z, .v (.int .i64) .z], outs := [((.int .i64), .z)], F := fun t => F_laws_szCoinSS t.1 t.2.1 }
noncomputable def X_laws_szCoinSS : Ctx := { tys := tys, fns := [(90, K_laws_szCoinS)], frz := [], lps := [(5, (⟨[(0, .keep), (1, .st (.int .i64) .z false), (5, .st (.int .i64) .z false)], []⟩, ⟨[((.exit 0), ⟨[(1, .st (.int .i64) .z false)], []⟩), (.ret, ⟨[(4, .st (.int .i64) .z false)], []⟩)]⟩))], jns := [], rjs := [] }
noncomputable def F_laws_szUndo (x0 : Int × List (List ((Int × Int) × (Int × List Int × Int × Int) × Int × Bool)) × List (Int × Int × Int)) (x1 : Int) : Option (Int) :=
 (F_laws_szCoinSS x0.2.1 x1).bind fun (y3 : Int) =>
 bif (decide ((y3 : Int) < 0)) then
 some (-1)
 else
 (F_laws_szMemberS x0.2.2 y3).bind fun (y4 : Int) =>
 bif (decide ((y4 : Int) < 0)) then
 some (-1)
 else
 some y4
noncomputable def K_laws_szUndo : Callee := { ins := [.v s12 .z, .v (.int .i64) .z], outs := [((.int .i64), .z)], F := fun t => F_laws_szUndo t.1 t.2.1 }
noncomputable def X_laws_szUndo : Ctx := { tys := tys, fns := [(91, K_laws_szMemberS), (150, K_laws_szCoinSS)], frz := [], lps := [], jns := [], rjs := [] }
noncomputable def F_laws_szUndoS (x0 : List (Int × List (List ((Int × Int) × (Int × List Int × Int × Int) × Int × Bool)) × List (Int × Int × Int))) (x1 : Int) : Option (Int) :=
 bif (decide ((IntKind.wrap .i64 (x1 - (List.length x0 : Int)) : Int) < 0)) then
 some (-1)
 else
 (loopO (S := Int × Int) (X := (Int) ⊕ (Int)) (fun (s10 : Int × Int) =>
 bif (decide ((s10.2 : Int) < (List.length x0 : Int))) then
 bif (inB s10.2 x0) then
 (F_laws_szUndo (List.getD x0 (Int.toNat s10.2) (0, ([], []))) s10.1).bind fun (y11 : Int) =>
 bif (decide ((y11 : Int) < 0)) then
 some (Sum.inr (Sum.inr (-1)))
 else
 some (Sum.inl (y11, IntKind.wrap .i64 (s10.2 + 1)))
 else none
 else
 some (Sum.inr (Sum.inl s10.1))) (IntKind.wrap .i64 (x1 - (List.length x0 : Int)), 0)).bind fun (j12 : (Int) ⊕ (Int)) =>
 Sum.elim (fun (j13 : Int) =>
 some j13) (fun (j14 : Int) =>
 some j14) j12
noncomputable def K_laws_szUndoS : Callee := { ins := [.v (.list s12) .z, .v (.int .i64) .z], outs := [((.int .i64), .z)], F := fun t => F_laws_szUndoS t.1 t.2.1 }
noncomputable def X_laws_szUndoS : Ctx := { tys := tys, fns := [(92, K_laws_szUndo)], frz := [], lps := [(5, (⟨[(0, .keep), (1, .st (.int .i64) .z false), (5, .st (.int .i64) .z false)], []⟩, ⟨[((.exit 0), ⟨[(1, .st (.int .i64) .z false)], []⟩), (.ret, ⟨[(4, .st (.int .i64) .z false)], []⟩)]⟩))], jns := [], rjs := [] }
noncomputable def F_laws_szChain (x0 : (List (List UInt8) × List (Int × Int)) × List (Int × Int × Int) × List Int × (Int × Int × List ((Int × Int) × (Int × List Int × Int × Int) × Int × Bool) × List (Int × Int × Int)) × List (Int × List (List ((Int × Int) × (Int × List Int × Int × Int) × Int × Bool)) × List (Int × Int × Int))) (x1 : Int) : Option (Int) :=
 (F_laws_szLedger x0.1 x1).bind fun (y6 : Int) =>
 bif (decide ((y6 : Int) < 0)) then
 some (-1)
 else
 (F_laws_szNodeS x0.2.1 y6).bind fun (y7 : Int) =>
 bif (decide ((y7 : Int) < 0)) then
 some (-1)
 else
 (F_laws_szInt64S x0.2.2.1 y7).bind fun (y8 : Int) =>
 bif (decide ((y8 : Int) < 0)) then
 some (-1)
 else
 (F_laws_szState x0.2.2.2.1 y8).bind fun (y9 : Int) =>
 bif (decide ((y9 : Int) < 0)) then
 some (-1)
 else
 (F_laws_szUndoS x0.2.2.2.2 y9).bind fun (y10 : Int) =>
 bif (decide ((y10 : Int) < 0)) then
 some (-1)
 else
 some y10
noncomputable def K_laws_szChain : Callee := { ins := [.v s16 .z, .v (.int .i64) .z], outs := [((.int .i64), .z)], F := fun t => F_laws_szChain t.1 t.2.1 }
noncomputable def X_laws_szChain : Ctx := { tys := tys, fns := [(11, K_laws_szLedger), (29, K_laws_szNodeS), (30, K_laws_szInt64S), (31, K_laws_szState), (32, K_laws_szUndoS)], frz := [], lps := [], jns := [], rjs := [] }
noncomputable def F_spec_l2Ints (x0 : List Int) (x1 : List Int) : Option (Bool) :=
 bif (!decide (((List.length x0 : Int) : Int) = (List.length x1 : Int))) then
 some false
 else
 (loopO (S := Int) (X := (Unit) ⊕ (Bool)) (fun (s5 : Int) =>
 bif (decide ((s5 : Int) < (List.length x0 : Int))) then
 bif (inB s5 x0) then
 bif (inB s5 x1) then
 bif (!decide ((List.getD x0 (Int.toNat s5) 0 : Int) = List.getD x1 (Int.toNat s5) 0)) then
 some (Sum.inr (Sum.inr false))
 else
 some (Sum.inl (IntKind.wrap .i64 (s5 + 1)))
 else none
 else none
 else
 some (Sum.inr (Sum.inl ()))) 0).bind fun (j6 : (Unit) ⊕ (Bool)) =>
 Sum.elim (fun (j7 : Unit) =>
 some true) (fun (j8 : Bool) =>
 some j8) j6
noncomputable def K_spec_l2Ints : Callee := { ins := [.v (.list (.int .i64)) .z, .v (.list (.int .i64)) .z], outs := [(.bool, .z)], F := fun t => F_spec_l2Ints t.1 t.2.1 }
noncomputable def X_spec_l2Ints : Ctx := { tys := tys, fns := [], frz := [], lps := [(4, (⟨[(0, .keep), (1, .keep), (5, .st (.int .i64) .z false)], []⟩, ⟨[((.exit 0), ⟨[], []⟩), (.ret, ⟨[(4, .st .bool .z false)], []⟩)]⟩))], jns := [], rjs := [] }
noncomputable def F_spec_l2Same (x0 : List Int × Int × Int) (x1 : List Int × Int × Int) : Option (Bool) :=
 (bif (decide ((x0.2.1 : Int) = x1.2.1)) then
 bif (decide ((x0.2.2 : Int) = x1.2.2)) then
 (F_spec_l2Ints x0.1 x1.1).bind fun (y5 : Bool) =>
 some y5
 else
 some false
 else
 some false : Option (Bool)).bind fun (j6 : Bool) =>
 some j6
noncomputable def K_spec_l2Same : Callee := { ins := [.rp s3, .rp s3], outs := [(.bool, .z)], F := fun t => F_spec_l2Same t.1 t.2.1 }
noncomputable def X_spec_l2Same : Ctx := { tys := tys, fns := [(34, K_spec_l2Ints)], frz := [], lps := [], jns := [], rjs := [(1, ⟨[(4, .st .bool .z false)], []⟩)] }
noncomputable def F_spec_l4Same (x0 : List ((Int × Int) × (Int × List Int × Int × Int) × Int × Bool)) (x1 : List ((Int × Int) × (Int × List Int × Int × Int) × Int × Bool)) : Option (Bool) :=
 bif (!decide (((List.length x0 : Int) : Int) = (List.length x1 : Int))) then
 some false
 else
 (loopO (S := Int) (X := (Unit) ⊕ (Bool)) (fun (s20 : Int) =>
 bif (decide ((s20 : Int) < (List.length x0 : Int))) then
 (bif (inB s20 x0) then
 bif (inB s20 x1) then
 bif (!(Sh.beq (.prod (.int .i64) (.int .i64)) (List.getD x0 (Int.toNat s20) ((0, 0), ((0, ([], (0, 0))), (0, false)))).1 (List.getD x1 (Int.toNat s20) ((0, 0), ((0, ([], (0, 0))), (0, false)))).1)) then
 some true
 else
 bif (inB s20 x0) then
 bif (inB s20 x1) then
 bif (!decide (((List.getD x0 (Int.toNat s20) ((0, 0), ((0, ([], (0, 0))), (0, false)))).2.2.1 : Int) = (List.getD x1 (Int.toNat s20) ((0, 0), ((0, ([], (0, 0))), (0, false)))).2.2.1)) then
 some true
 else
 bif (inB s20 x0) then
 bif (inB s20 x1) then
 bif (!(Sh.beq .bool (List.getD x0 (Int.toNat s20) ((0, 0), ((0, ([], (0, 0))), (0, false)))).2.2.2 (List.getD x1 (Int.toNat s20) ((0, 0), ((0, ([], (0, 0))), (0, false)))).2.2.2)) then
 some true
 else
 bif (inB s20 x0) then
 bif (inB s20 x1) then
 bif (!decide (((List.getD x0 (Int.toNat s20) ((0, 0), ((0, ([], (0, 0))), (0, false)))).2.1.1 : Int) = (List.getD x1 (Int.toNat s20) ((0, 0), ((0, ([], (0, 0))), (0, false)))).2.1.1)) then
 some true
 else
 bif (inB s20 x0) then
 bif (inB s20 x1) then
 (F_spec_l2Same (List.getD x0 (Int.toNat s20) ((0, 0), ((0, ([], (0, 0))), (0, false)))).2.1.2 (List.getD x1 (Int.toNat s20) ((0, 0), ((0, ([], (0, 0))), (0, false)))).2.1.2).bind fun (y22 : Bool) =>
 some (!y22)
 else none
 else none
 else none
 else none
 else none
 else none
 else none
 else none
 else none
 else none : Option (Bool)).bind fun (j23 : Bool) =>
 bif j23 then
 some (Sum.inr (Sum.inr false))
 else
 some (Sum.inl (IntKind.wrap .i64 (s20 + 1)))
 else
 some (Sum.inr (Sum.inl ()))) 0).bind fun (j24 : (Unit) ⊕ (Bool)) =>
 Sum.elim (fun (j25 : Unit) =>
 some true) (fun (j26 : Bool) =>
 some j26) j24
noncomputable def K_spec_l4Same : Callee := { ins := [.v (.list s7) .z, .v (.list s7) .z], outs := [(.bool, .z)], F := fun t => F_spec_l4Same t.1 t.2.1 }
noncomputable def X_spec_l4Same : Ctx := { tys := tys, fns := [(151, K_spec_l2Same)], frz := [], lps := [(4, (⟨[(0, .keep), (1, .keep), (5, .st (.int .i64) .z false)], []⟩, ⟨[((.exit 0), ⟨[], []⟩), (.ret, ⟨[(4, .st .bool .z false)], []⟩)]⟩))], jns := [], rjs := [(6, ⟨[(0, .keep), (1, .keep), (5, .keep), (82, .st .bool .z false)], []⟩)] }
noncomputable def F_spec_l6Same (x0 : List (Int × Int × Int)) (x1 : List (Int × Int × Int)) : Option (Bool) :=
 bif (!decide (((List.length x0 : Int) : Int) = (List.length x1 : Int))) then
 some false
 else
 (loopO (S := Int) (X := (Unit) ⊕ (Bool)) (fun (s5 : Int) =>
 bif (decide ((s5 : Int) < (List.length x0 : Int))) then
 bif (inB s5 x0) then
 bif (inB s5 x1) then
 bif (!(Sh.beq (.prod (.int .i64) (.prod (.int .i64) (.int .i64))) (List.getD x0 (Int.toNat s5) (0, (0, 0))) (List.getD x1 (Int.toNat s5) (0, (0, 0))))) then
 some (Sum.inr (Sum.inr false))
 else
 some (Sum.inl (IntKind.wrap .i64 (s5 + 1)))
 else none
 else none
 else
 some (Sum.inr (Sum.inl ()))) 0).bind fun (j6 : (Unit) ⊕ (Bool)) =>
 Sum.elim (fun (j7 : Unit) =>
 some true) (fun (j8 : Bool) =>
 some j8) j6
noncomputable def K_spec_l6Same : Callee := { ins := [.v (.list s2) .z, .v (.list s2) .z], outs := [(.bool, .z)], F := fun t => F_spec_l6Same t.1 t.2.1 }
noncomputable def X_spec_l6Same : Ctx := { tys := tys, fns := [], frz := [], lps := [(4, (⟨[(0, .keep), (1, .keep), (5, .st (.int .i64) .z false)], []⟩, ⟨[((.exit 0), ⟨[], []⟩), (.ret, ⟨[(4, .st .bool .z false)], []⟩)]⟩))], jns := [], rjs := [] }
noncomputable def F_spec_l8Same (x0 : Int × Int × List ((Int × Int) × (Int × List Int × Int × Int) × Int × Bool) × List (Int × Int × Int)) (x1 : Int × Int × List ((Int × Int) × (Int × List Int × Int × Int) × Int × Bool) × List (Int × Int × Int)) : Option (Bool) :=
 (bif (decide ((x0.1 : Int) = x1.1)) then
 bif (decide ((x0.2.1 : Int) = x1.2.1)) then
 (F_spec_l4Same x0.2.2.1 x1.2.2.1).bind fun (y8 : Bool) =>
 bif y8 then
 (F_spec_l6Same x0.2.2.2 x1.2.2.2).bind fun (y9 : Bool) =>
 some y9
 else
 some false
 else
 some false
 else
 some false : Option (Bool)).bind fun (j10 : Bool) =>
 some j10
noncomputable def K_spec_l8Same : Callee := { ins := [.rp s10, .rp s10], outs := [(.bool, .z)], F := fun t => F_spec_l8Same t.1 t.2.1 }
noncomputable def X_spec_l8Same : Ctx := { tys := tys, fns := [(93, K_spec_l4Same), (94, K_spec_l6Same)], frz := [], lps := [], jns := [], rjs := [(1, ⟨[(4, .st .bool .z false)], []⟩)] }
noncomputable def F_spec_SameChains (x0 : (List (List UInt8) × List (Int × Int)) × List (Int × Int × Int) × List Int × (Int × Int × List ((Int × Int) × (Int × List Int × Int × Int) × Int × Bool) × List (Int × Int × Int)) × List (Int × List (List ((Int × Int) × (Int × List Int × Int × Int) × Int × Bool)) × List (Int × Int × Int))) (x1 : (List (List UInt8) × List (Int × Int)) × List (Int × Int × Int) × List Int × (Int × Int × List ((Int × Int) × (Int × List Int × Int × Int) × Int × Bool) × List (Int × Int × Int)) × List (Int × List (List ((Int × Int) × (Int × List Int × Int × Int) × Int × Bool)) × List (Int × Int × Int))) : Option (Bool) :=
 ((F_spec_l8Same x0.2.2.2.1 x1.2.2.2.1).bind fun (y12 : Bool) =>
 bif (!y12) then
 some true
 else
 bif (!decide (((List.length x0.2.1 : Int) : Int) = (List.length x1.2.1 : Int))) then
 some true
 else
 (F_spec_l2Ints x0.2.2.1 x1.2.2.1).bind fun (y13 : Bool) =>
 some (!y13) : Option (Bool)).bind fun (j14 : Bool) =>
 bif j14 then
 some false
 else
 (loopO (S := Int) (X := (Unit) ⊕ (Bool)) (fun (s15 : Int) =>
 bif (decide ((s15 : Int) < (List.length x0.2.1 : Int))) then
 bif (inB s15 x0.2.1) then
 bif (inB s15 x1.2.1) then
 bif (!(Sh.beq (.prod (.int .i64) (.prod (.int .i64) (.int .i64))) (List.getD x0.2.1 (Int.toNat s15) (0, (0, 0))) (List.getD x1.2.1 (Int.toNat s15) (0, (0, 0))))) then
 some (Sum.inr (Sum.inr false))
 else
 some (Sum.inl (IntKind.wrap .i64 (s15 + 1)))
 else none
 else none
 else
 some (Sum.inr (Sum.inl ()))) 0).bind fun (j16 : (Unit) ⊕ (Bool)) =>
 Sum.elim (fun (j17 : Unit) =>
 some true) (fun (j18 : Bool) =>
 some j18) j16
noncomputable def K_spec_SameChains : Callee := { ins := [.v s16 .z, .v s16 .z], outs := [(.bool, .z)], F := fun t => F_spec_SameChains t.1 t.2.1 }
noncomputable def X_spec_SameChains : Ctx := { tys := tys, fns := [(33, K_spec_l8Same), (34, K_spec_l2Ints)], frz := [], lps := [(4, (⟨[(2, .keep), (3, .keep), (5, .st (.int .i64) .z false)], [(2, .keep), (3, .keep)]⟩, ⟨[((.exit 0), ⟨[], []⟩), (.ret, ⟨[(4, .st .bool .z false)], []⟩)]⟩))], jns := [], rjs := [(1, ⟨[(2, .keep), (3, .keep), (26, .st .bool .z false)], [(2, .keep), (3, .keep)]⟩)] }
noncomputable def F_laws_toStringS (x0 : List (List UInt8)) : Option (List (List UInt8)) :=
 bif (decide (0 ≤ (List.length x0 : Int)) && decide ((List.length x0 : Int) ≤ (LIM : Int))) then
 (loopO (S := List (List UInt8) × Int) (X := List (List UInt8)) (fun (s3 : List (List UInt8) × Int) =>
 bif (decide ((s3.2 : Int) < (List.length x0 : Int))) then
 bif (inB s3.2 x0) then
 bif (inB s3.2 s3.1) then
 some (Sum.inl (List.set s3.1 (Int.toNat s3.2) (List.getD x0 (Int.toNat s3.2) []), IntKind.wrap .i64 (s3.2 + 1)))
 else none
 else none
 else
 some (Sum.inr s3.1)) (List.replicate (Int.toNat (List.length x0 : Int)) [], 0)).bind fun (j4 : List (List UInt8)) =>
 some j4
 else none
noncomputable def K_laws_toStringS : Callee := { ins := [.v (.list .str) .z], outs := [((.list .str), (.o .z))], F := fun t => F_laws_toStringS t.1 }
noncomputable def X_laws_toStringS : Ctx := { tys := tys, fns := [], frz := [], lps := [(3, (⟨[(0, .keep), (3, .st (.list .str) (.o .z) false), (4, .st (.int .i64) .z false)], []⟩, ⟨[((.exit 0), ⟨[(3, .st (.list .str) (.o .z) false)], []⟩)]⟩))], jns := [], rjs := [] }
noncomputable def F_laws_toSign (x0 : Int × Int) : Option (Int × Int) :=
 some (x0.1, x0.2)
noncomputable def K_laws_toSign : Callee := { ins := [.v s0 .z], outs := [(s0, .z)], F := fun t => F_laws_toSign t.1 }
noncomputable def X_laws_toSign : Ctx := { tys := tys, fns := [], frz := [], lps := [], jns := [], rjs := [] }
noncomputable def F_laws_toSignS (x0 : List (Int × Int)) : Option (List (Int × Int)) :=
 bif (decide (0 ≤ (List.length x0 : Int)) && decide ((List.length x0 : Int) ≤ (LIM : Int))) then
 (loopO (S := List (Int × Int) × Int) (X := List (Int × Int)) (fun (s8 : List (Int × Int) × Int) =>
 bif (decide ((s8.2 : Int) < (List.length x0 : Int))) then
 bif (inB s8.2 x0) then
 (F_laws_toSign (List.getD x0 (Int.toNat s8.2) (0, 0))).bind fun (y9 : Int × Int) =>
 bif (inB s8.2 s8.1) then
 some (Sum.inl (List.set s8.1 (Int.toNat s8.2) y9, IntKind.wrap .i64 (s8.2 + 1)))
 else none
 else none
 else
 some (Sum.inr s8.1)) (List.replicate (Int.toNat (List.length x0 : Int)) (0, 0), 0)).bind fun (j10 : List (Int × Int)) =>
 some j10
 else none
noncomputable def K_laws_toSignS : Callee := { ins := [.v (.list s0) .z], outs := [((.list s0), (.o .z))], F := fun t => F_laws_toSignS t.1 }
noncomputable def X_laws_toSignS : Ctx := { tys := tys, fns := [(108, K_laws_toSign)], frz := [], lps := [(3, (⟨[(0, .keep), (3, .st (.list s0) (.o .z) false), (4, .st (.int .i64) .z false)], []⟩, ⟨[((.exit 0), ⟨[(3, .st (.list s0) (.o .z) false)], []⟩)]⟩))], jns := [], rjs := [] }
noncomputable def F_laws_toLedger (x0 : List (List UInt8) × List (Int × Int)) : Option (List (List UInt8) × List (Int × Int)) :=
 (F_laws_toStringS x0.1).bind fun (y3 : List (List UInt8)) =>
 (F_laws_toSignS x0.2).bind fun (y4 : List (Int × Int)) =>
 some (y3, y4)
noncomputable def K_laws_toLedger : Callee := { ins := [.v s1 .z], outs := [(s1, (.p (.o .z) (.o .z)))], F := fun t => F_laws_toLedger t.1 }
noncomputable def X_laws_toLedger : Ctx := { tys := tys, fns := [(51, K_laws_toStringS), (52, K_laws_toSignS)], frz := [], lps := [], jns := [], rjs := [] }
noncomputable def F_laws_toNode (x0 : Int × Int × Int) : Option (Int × Int × Int) :=
 some (x0.1, (x0.2.1, x0.2.2))
noncomputable def K_laws_toNode : Callee := { ins := [.v s2 .z], outs := [(s2, .z)], F := fun t => F_laws_toNode t.1 }
noncomputable def X_laws_toNode : Ctx := { tys := tys, fns := [], frz := [], lps := [], jns := [], rjs := [] }
noncomputable def F_laws_toNodeS (x0 : List (Int × Int × Int)) : Option (List (Int × Int × Int)) :=
 bif (decide (0 ≤ (List.length x0 : Int)) && decide ((List.length x0 : Int) ≤ (LIM : Int))) then
 (loopO (S := List (Int × Int × Int) × Int) (X := List (Int × Int × Int)) (fun (s8 : List (Int × Int × Int) × Int) =>
 bif (decide ((s8.2 : Int) < (List.length x0 : Int))) then
 bif (inB s8.2 x0) then
 (F_laws_toNode (List.getD x0 (Int.toNat s8.2) (0, (0, 0)))).bind fun (y9 : Int × Int × Int) =>
 bif (inB s8.2 s8.1) then
 some (Sum.inl (List.set s8.1 (Int.toNat s8.2) y9, IntKind.wrap .i64 (s8.2 + 1)))
 else none
 else none
 else
 some (Sum.inr s8.1)) (List.replicate (Int.toNat (List.length x0 : Int)) (0, (0, 0)), 0)).bind fun (j10 : List (Int × Int × Int)) =>
 some j10
 else none
noncomputable def K_laws_toNodeS : Callee := { ins := [.v (.list s2) .z], outs := [((.list s2), (.o .z))], F := fun t => F_laws_toNodeS t.1 }
noncomputable def X_laws_toNodeS : Ctx := { tys := tys, fns := [(95, K_laws_toNode)], frz := [], lps := [(3, (⟨[(0, .keep), (3, .st (.list s2) (.o .z) false), (4, .st (.int .i64) .z false)], []⟩, ⟨[((.exit 0), ⟨[(3, .st (.list s2) (.o .z) false)], []⟩)]⟩))], jns := [], rjs := [] }
noncomputable def F_laws_toInt64S (x0 : List Int) : Option (List Int) :=
 bif (decide (0 ≤ (List.length x0 : Int)) && decide ((List.length x0 : Int) ≤ (LIM : Int))) then
 (loopO (S := List Int × Int) (X := List Int) (fun (s3 : List Int × Int) =>
 bif (decide ((s3.2 : Int) < (List.length x0 : Int))) then
 bif (inB s3.2 x0) then
 bif (inB s3.2 s3.1) then
 some (Sum.inl (List.set s3.1 (Int.toNat s3.2) (List.getD x0 (Int.toNat s3.2) 0), IntKind.wrap .i64 (s3.2 + 1)))
 else none
 else none
 else
 some (Sum.inr s3.1)) (List.replicate (Int.toNat (List.length x0 : Int)) 0, 0)).bind fun (j4 : List Int) =>
 some j4
 else none
noncomputable def K_laws_toInt64S : Callee := { ins := [.v (.list (.int .i64)) .z], outs := [((.list (.int .i64)), (.o .z))], F := fun t => F_laws_toInt64S t.1 }
noncomputable def X_laws_toInt64S : Ctx := { tys := tys, fns := [], frz := [], lps := [(3, (⟨[(0, .keep), (3, .st (.list (.int .i64)) (.o .z) false), (4, .st (.int .i64) .z false)], []⟩, ⟨[((.exit 0), ⟨[(3, .st (.list (.int .i64)) (.o .z) false)], []⟩)]⟩))], jns := [], rjs := [] }
noncomputable def F_laws_toRef (x0 : Int × Int) : Option (Int × Int) :=
 some (x0.1, x0.2)
noncomputable def K_laws_toRef : Callee := { ins := [.v s0 .z], outs := [(s0, .z)], F := fun t => F_laws_toRef t.1 }
noncomputable def X_laws_toRef : Ctx := { tys := tys, fns := [], frz := [], lps := [], jns := [], rjs := [] }
noncomputable def F_laws_toRule (x0 : List Int × Int × Int) : Option (List Int × Int × Int) :=
 (F_laws_toInt64S x0.1).bind fun (y2 : List Int) =>
 some (y2, (x0.2.1, x0.2.2))
noncomputable def K_laws_toRule : Callee := { ins := [.v s3 .z], outs := [(s3, (.p (.o .z) .z))], F := fun t => F_laws_toRule t.1 }
noncomputable def X_laws_toRule : Ctx := { tys := tys, fns := [(36, K_laws_toInt64S)], frz := [], lps := [], jns := [], rjs := [] }
noncomputable def F_laws_toOut (x0 : Int × List Int × Int × Int) : Option (Int × List Int × Int × Int) :=
 (F_laws_toRule x0.2).bind fun (y2 : List Int × Int × Int) =>
 some (x0.1, y2)
noncomputable def K_laws_toOut : Callee := { ins := [.v s4 .z], outs := [(s4, (.p .z (.p (.o .z) .z)))], F := fun t => F_laws_toOut t.1 }
noncomputable def X_laws_toOut : Ctx := { tys := tys, fns := [(210, K_laws_toRule)], frz := [], lps := [], jns := [], rjs := [] }
noncomputable def F_laws_toCoin (x0 : (Int × Int) × (Int × List Int × Int × Int) × Int × Bool) : Option ((Int × Int) × (Int × List Int × Int × Int) × Int × Bool) :=
 (F_laws_toRef x0.1).bind fun (y3 : Int × Int) =>
 (F_laws_toOut x0.2.1).bind fun (y4 : Int × List Int × Int × Int) =>
 some (y3, (y4, (x0.2.2.1, x0.2.2.2)))
noncomputable def K_laws_toCoin : Callee := { ins := [.v s7 .z], outs := [(s7, (.p .z (.p (.p .z (.p (.o .z) .z)) .z)))], F := fun t => F_laws_toCoin t.1 }
noncomputable def X_laws_toCoin : Ctx := { tys := tys, fns := [(193, K_laws_toRef), (194, K_laws_toOut)], frz := [], lps := [], jns := [], rjs := [] }
noncomputable def F_laws_toCoinS (x0 : List ((Int × Int) × (Int × List Int × Int × Int) × Int × Bool)) : Option (List ((Int × Int) × (Int × List Int × Int × Int) × Int × Bool)) :=
 bif (decide (0 ≤ (List.length x0 : Int)) && decide ((List.length x0 : Int) ≤ (LIM : Int))) then
 (loopO (S := List ((Int × Int) × (Int × List Int × Int × Int) × Int × Bool) × Int) (X := List ((Int × Int) × (Int × List Int × Int × Int) × Int × Bool)) (fun (s8 : List ((Int × Int) × (Int × List Int × Int × Int) × Int × Bool) × Int) =>
 bif (decide ((s8.2 : Int) < (List.length x0 : Int))) then
 bif (inB s8.2 x0) then
 (F_laws_toCoin (List.getD x0 (Int.toNat s8.2) ((0, 0), ((0, ([], (0, 0))), (0, false))))).bind fun (y9 : (Int × Int) × (Int × List Int × Int × Int) × Int × Bool) =>
 bif (inB s8.2 s8.1) then
 some (Sum.inl (List.set s8.1 (Int.toNat s8.2) y9, IntKind.wrap .i64 (s8.2 + 1)))
 else none
 else none
 else
 some (Sum.inr s8.1)) (List.replicate (Int.toNat (List.length x0 : Int)) ((0, 0), ((0, ([], (0, 0))), (0, false))), 0)).bind fun (j10 : List ((Int × Int) × (Int × List Int × Int × Int) × Int × Bool)) =>
 some j10
 else none
noncomputable def K_laws_toCoinS : Callee := { ins := [.v (.list s7) .z], outs := [((.list s7), (.o (.p .z (.p (.p .z (.p (.o .z) .z)) .z))))], F := fun t => F_laws_toCoinS t.1 }
noncomputable def X_laws_toCoinS : Ctx := { tys := tys, fns := [(152, K_laws_toCoin)], frz := [], lps := [(3, (⟨[(0, .keep), (3, .st (.list s7) (.o (.p .z (.p (.p .z (.p (.o .z) .z)) .z))) false), (4, .st (.int .i64) .z false)], []⟩, ⟨[((.exit 0), ⟨[(3, .st (.list s7) (.o (.p .z (.p (.p .z (.p (.o .z) .z)) .z))) false)], []⟩)]⟩))], jns := [], rjs := [] }
noncomputable def F_laws_toMember (x0 : Int × Int × Int) : Option (Int × Int × Int) :=
 (F_laws_toRef x0.2).bind fun (y2 : Int × Int) =>
 some (x0.1, y2)
noncomputable def K_laws_toMember : Callee := { ins := [.v s2 .z], outs := [(s2, .z)], F := fun t => F_laws_toMember t.1 }
noncomputable def X_laws_toMember : Ctx := { tys := tys, fns := [(193, K_laws_toRef)], frz := [], lps := [], jns := [], rjs := [] }
noncomputable def F_laws_toMemberS (x0 : List (Int × Int × Int)) : Option (List (Int × Int × Int)) :=
 bif (decide (0 ≤ (List.length x0 : Int)) && decide ((List.length x0 : Int) ≤ (LIM : Int))) then
 (loopO (S := List (Int × Int × Int) × Int) (X := List (Int × Int × Int)) (fun (s8 : List (Int × Int × Int) × Int) =>
 bif (decide ((s8.2 : Int) < (List.length x0 : Int))) then
 bif (inB s8.2 x0) then
 (F_laws_toMember (List.getD x0 (Int.toNat s8.2) (0, (0, 0)))).bind fun (y9 : Int × Int × Int) =>
 bif (inB s8.2 s8.1) then
 some (Sum.inl (List.set s8.1 (Int.toNat s8.2) y9, IntKind.wrap .i64 (s8.2 + 1)))
 else none
 else none
 else
 some (Sum.inr s8.1)) (List.replicate (Int.toNat (List.length x0 : Int)) (0, (0, 0)), 0)).bind fun (j10 : List (Int × Int × Int)) =>
 some j10
 else none
noncomputable def K_laws_toMemberS : Callee := { ins := [.v (.list s2) .z], outs := [((.list s2), (.o .z))], F := fun t => F_laws_toMemberS t.1 }
noncomputable def X_laws_toMemberS : Ctx := { tys := tys, fns := [(153, K_laws_toMember)], frz := [], lps := [(3, (⟨[(0, .keep), (3, .st (.list s2) (.o .z) false), (4, .st (.int .i64) .z false)], []⟩, ⟨[((.exit 0), ⟨[(3, .st (.list s2) (.o .z) false)], []⟩)]⟩))], jns := [], rjs := [] }
noncomputable def F_laws_toState (x0 : Int × Int × List ((Int × Int) × (Int × List Int × Int × Int) × Int × Bool) × List (Int × Int × Int)) : Option (Int × Int × List ((Int × Int) × (Int × List Int × Int × Int) × Int × Bool) × List (Int × Int × Int)) :=
 (F_laws_toCoinS x0.2.2.1).bind fun (y3 : List ((Int × Int) × (Int × List Int × Int × Int) × Int × Bool)) =>
 (F_laws_toMemberS x0.2.2.2).bind fun (y4 : List (Int × Int × Int)) =>
 some (x0.1, (x0.2.1, (y3, y4)))
noncomputable def K_laws_toState : Callee := { ins := [.v s10 .z], outs := [(s10, (.p .z (.p .z (.p (.o (.p .z (.p (.p .z (.p (.o .z) .z)) .z))) (.o .z)))))], F := fun t => F_laws_toState t.1 }
noncomputable def X_laws_toState : Ctx := { tys := tys, fns := [(96, K_laws_toCoinS), (97, K_laws_toMemberS)], frz := [], lps := [], jns := [], rjs := [] }
noncomputable def F_laws_toCoinSS (x0 : List (List ((Int × Int) × (Int × List Int × Int × Int) × Int × Bool))) : Option (List (List ((Int × Int) × (Int × List Int × Int × Int) × Int × Bool))) :=
 bif (decide (0 ≤ (List.length x0 : Int)) && decide ((List.length x0 : Int) ≤ (LIM : Int))) then
 (loopO (S := List (List ((Int × Int) × (Int × List Int × Int × Int) × Int × Bool)) × Int) (X := List (List ((Int × Int) × (Int × List Int × Int × Int) × Int × Bool))) (fun (s8 : List (List ((Int × Int) × (Int × List Int × Int × Int) × Int × Bool)) × Int) =>
 bif (decide ((s8.2 : Int) < (List.length x0 : Int))) then
 bif (inB s8.2 x0) then
 (F_laws_toCoinS (List.getD x0 (Int.toNat s8.2) [])).bind fun (y9 : List ((Int × Int) × (Int × List Int × Int × Int) × Int × Bool)) =>
 bif (inB s8.2 s8.1) then
 some (Sum.inl (List.set s8.1 (Int.toNat s8.2) y9, IntKind.wrap .i64 (s8.2 + 1)))
 else none
 else none
 else
 some (Sum.inr s8.1)) (List.replicate (Int.toNat (List.length x0 : Int)) [], 0)).bind fun (j10 : List (List ((Int × Int) × (Int × List Int × Int × Int) × Int × Bool))) =>
 some j10
 else none
noncomputable def K_laws_toCoinSS : Callee := { ins := [.v (.list (.list s7)) .z], outs := [((.list (.list s7)), (.o (.o (.p .z (.p (.p .z (.p (.o .z) .z)) .z)))))], F := fun t => F_laws_toCoinSS t.1 }
noncomputable def X_laws_toCoinSS : Ctx := { tys := tys, fns := [(96, K_laws_toCoinS)], frz := [], lps := [(3, (⟨[(0, .keep), (3, .st (.list (.list s7)) (.o (.o (.p .z (.p (.p .z (.p (.o .z) .z)) .z)))) false), (4, .st (.int .i64) .z false)], []⟩, ⟨[((.exit 0), ⟨[(3, .st (.list (.list s7)) (.o (.o (.p .z (.p (.p .z (.p (.o .z) .z)) .z)))) false)], []⟩)]⟩))], jns := [], rjs := [] }
noncomputable def F_laws_toUndo (x0 : Int × List (List ((Int × Int) × (Int × List Int × Int × Int) × Int × Bool)) × List (Int × Int × Int)) : Option (Int × List (List ((Int × Int) × (Int × List Int × Int × Int) × Int × Bool)) × List (Int × Int × Int)) :=
 (F_laws_toCoinSS x0.2.1).bind fun (y3 : List (List ((Int × Int) × (Int × List Int × Int × Int) × Int × Bool))) =>
 (F_laws_toMemberS x0.2.2).bind fun (y4 : List (Int × Int × Int)) =>
 some (x0.1, (y3, y4))
noncomputable def K_laws_toUndo : Callee := { ins := [.v s12 .z], outs := [(s12, (.p .z (.p (.o (.o (.p .z (.p (.p .z (.p (.o .z) .z)) .z)))) (.o .z))))], F := fun t => F_laws_toUndo t.1 }
noncomputable def X_laws_toUndo : Ctx := { tys := tys, fns := [(97, K_laws_toMemberS), (154, K_laws_toCoinSS)], frz := [], lps := [], jns := [], rjs := [] }
noncomputable def F_laws_toUndoS (x0 : List (Int × List (List ((Int × Int) × (Int × List Int × Int × Int) × Int × Bool)) × List (Int × Int × Int))) : Option (List (Int × List (List ((Int × Int) × (Int × List Int × Int × Int) × Int × Bool)) × List (Int × Int × Int))) :=
 bif (decide (0 ≤ (List.length x0 : Int)) && decide ((List.length x0 : Int) ≤ (LIM : Int))) then
 (loopO (S := List (Int × List (List ((Int × Int) × (Int × List Int × Int × Int) × Int × Bool)) × List (Int × Int × Int)) × Int) (X := List (Int × List (List ((Int × Int) × (Int × List Int × Int × Int) × Int × Bool)) × List (Int × Int × Int))) (fun (s8 : List (Int × List (List ((Int × Int) × (Int × List Int × Int × Int) × Int × Bool)) × List (Int × Int × Int)) × Int) =>
 bif (decide ((s8.2 : Int) < (List.length x0 : Int))) then
 bif (inB s8.2 x0) then
 (F_laws_toUndo (List.getD x0 (Int.toNat s8.2) (0, ([], [])))).bind fun (y9 : Int × List (List ((Int × Int) × (Int × List Int × Int × Int) × Int × Bool)) × List (Int × Int × Int)) =>
 bif (inB s8.2 s8.1) then
 some (Sum.inl (List.set s8.1 (Int.toNat s8.2) y9, IntKind.wrap .i64 (s8.2 + 1)))
 else none
 else none
 else
 some (Sum.inr s8.1)) (List.replicate (Int.toNat (List.length x0 : Int)) (0, ([], [])), 0)).bind fun (j10 : List (Int × List (List ((Int × Int) × (Int × List Int × Int × Int) × Int × Bool)) × List (Int × Int × Int))) =>
 some j10
 else none
noncomputable def K_laws_toUndoS : Callee := { ins := [.v (.list s12) .z], outs := [((.list s12), (.o (.p .z (.p (.o (.o (.p .z (.p (.p .z (.p (.o .z) .z)) .z)))) (.o .z)))))], F := fun t => F_laws_toUndoS t.1 }
noncomputable def X_laws_toUndoS : Ctx := { tys := tys, fns := [(98, K_laws_toUndo)], frz := [], lps := [(3, (⟨[(0, .keep), (3, .st (.list s12) (.o (.p .z (.p (.o (.o (.p .z (.p (.p .z (.p (.o .z) .z)) .z)))) (.o .z)))) false), (4, .st (.int .i64) .z false)], []⟩, ⟨[((.exit 0), ⟨[(3, .st (.list s12) (.o (.p .z (.p (.o (.o (.p .z (.p (.p .z (.p (.o .z) .z)) .z)))) (.o .z)))) false)], []⟩)]⟩))], jns := [], rjs := [] }
noncomputable def F_laws_toChain (x0 : (List (List UInt8) × List (Int × Int)) × List (Int × Int × Int) × List Int × (Int × Int × List ((Int × Int) × (Int × List Int × Int × Int) × Int × Bool) × List (Int × Int × Int)) × List (Int × List (List ((Int × Int) × (Int × List Int × Int × Int) × Int × Bool)) × List (Int × Int × Int))) : Option ((List (List UInt8) × List (Int × Int)) × List (Int × Int × Int) × List Int × (Int × Int × List ((Int × Int) × (Int × List Int × Int × Int) × Int × Bool) × List (Int × Int × Int)) × List (Int × List (List ((Int × Int) × (Int × List Int × Int × Int) × Int × Bool)) × List (Int × Int × Int))) :=
 (F_laws_toLedger x0.1).bind fun (y6 : List (List UInt8) × List (Int × Int)) =>
 (F_laws_toNodeS x0.2.1).bind fun (y7 : List (Int × Int × Int)) =>
 (F_laws_toInt64S x0.2.2.1).bind fun (y8 : List Int) =>
 (F_laws_toState x0.2.2.2.1).bind fun (y9 : Int × Int × List ((Int × Int) × (Int × List Int × Int × Int) × Int × Bool) × List (Int × Int × Int)) =>
 (F_laws_toUndoS x0.2.2.2.2).bind fun (y10 : List (Int × List (List ((Int × Int) × (Int × List Int × Int × Int) × Int × Bool)) × List (Int × Int × Int))) =>
 some (y6, (y7, (y8, (y9, y10))))
noncomputable def K_laws_toChain : Callee := { ins := [.v s16 .z], outs := [(s16, (.p (.p (.o .z) (.o .z)) (.p (.o .z) (.p (.o .z) (.p (.p .z (.p .z (.p (.o (.p .z (.p (.p .z (.p (.o .z) .z)) .z))) (.o .z)))) (.o (.p .z (.p (.o (.o (.p .z (.p (.p .z (.p (.o .z) .z)) .z)))) (.o .z)))))))))], F := fun t => F_laws_toChain t.1 }
noncomputable def X_laws_toChain : Ctx := { tys := tys, fns := [(13, K_laws_toLedger), (35, K_laws_toNodeS), (36, K_laws_toInt64S), (37, K_laws_toState), (38, K_laws_toUndoS)], frz := [], lps := [], jns := [], rjs := [] }
noncomputable def F_slices_EqualFunc_Limpl_Coin_Limpl_Coin_impl_Coin_impl_Coin (x0 : List ((Int × Int) × (Int × List Int × Int × Int) × Int × Bool)) (x1 : List ((Int × Int) × (Int × List Int × Int × Int) × Int × Bool)) (x2 : ((Int × Int) × (Int × List Int × Int × Int) × Int × Bool) → ((Int × Int) × (Int × List Int × Int × Int) × Int × Bool) → Option Bool) : Option (Bool) :=
 bif (!decide (((List.length x0 : Int) : Int) = (List.length x1 : Int))) then
 some false
 else
 (loopO (S := Int) (X := (Unit) ⊕ (Bool)) (fun (s10 : Int) =>
 bif (decide ((s10 : Int) < (List.length x0 : Int))) then
 bif (inB s10 x0) then
 bif (inB s10 x1) then
 (x2 (List.getD x0 (Int.toNat s10) ((0, 0), ((0, ([], (0, 0))), (0, false)))) (List.getD x1 (Int.toNat s10) ((0, 0), ((0, ([], (0, 0))), (0, false))))).bind fun (y11 : Bool) =>
 bif (!y11) then
 some (Sum.inr (Sum.inr false))
 else
 some (Sum.inl (IntKind.wrap .i64 (s10 + 1)))
 else none
 else none
 else
 some (Sum.inr (Sum.inl ()))) 0).bind fun (j12 : (Unit) ⊕ (Bool)) =>
 Sum.elim (fun (j13 : Unit) =>
 some true) (fun (j14 : Bool) =>
 some j14) j12
noncomputable def K_slices_EqualFunc_Limpl_Coin_Limpl_Coin_impl_Coin_impl_Coin : Callee := { ins := [.v (.list s7) .z, .v (.list s7) .z, .v (.fn2 s7 s7 .bool) .z], outs := [(.bool, .z)], F := fun t => F_slices_EqualFunc_Limpl_Coin_Limpl_Coin_impl_Coin_impl_Coin t.1 t.2.1 t.2.2.1 }
noncomputable def X_slices_EqualFunc_Limpl_Coin_Limpl_Coin_impl_Coin_impl_Coin : Ctx := { tys := tys, fns := [], frz := [], lps := [(4, (⟨[(1, .keep), (2, .keep), (15, .keep), (16, .keep), (17, .st (.int .i64) .z false)], []⟩, ⟨[((.exit 0), ⟨[], []⟩), (.ret, ⟨[(6, .st .bool .z false)], []⟩)]⟩))], jns := [], rjs := [] }
noncomputable def F_slices_Equal_Lint64_int64 (x0 : List Int) (x1 : List Int) : Option (Bool) :=
 bif (!decide (((List.length x0 : Int) : Int) = (List.length x1 : Int))) then
 some false
 else
 (loopO (S := Int) (X := (Unit) ⊕ (Bool)) (fun (s5 : Int) =>
 bif (decide ((s5 : Int) < (List.length x0 : Int))) then
 bif (inB s5 x0) then
 bif (inB s5 x1) then
 bif (!decide ((List.getD x0 (Int.toNat s5) 0 : Int) = List.getD x1 (Int.toNat s5) 0)) then
 some (Sum.inr (Sum.inr false))
 else
 some (Sum.inl (IntKind.wrap .i64 (s5 + 1)))
 else none
 else none
 else
 some (Sum.inr (Sum.inl ()))) 0).bind fun (j6 : (Unit) ⊕ (Bool)) =>
 Sum.elim (fun (j7 : Unit) =>
 some true) (fun (j8 : Bool) =>
 some j8) j6
noncomputable def K_slices_Equal_Lint64_int64 : Callee := { ins := [.v (.list (.int .i64)) .z, .v (.list (.int .i64)) .z], outs := [(.bool, .z)], F := fun t => F_slices_Equal_Lint64_int64 t.1 t.2.1 }
noncomputable def X_slices_Equal_Lint64_int64 : Ctx := { tys := tys, fns := [], frz := [], lps := [(4, (⟨[(0, .keep), (1, .keep), (12, .keep), (13, .st (.int .i64) .z false)], []⟩, ⟨[((.exit 0), ⟨[], []⟩), (.ret, ⟨[(4, .st .bool .z false)], []⟩)]⟩))], jns := [], rjs := [] }
noncomputable def F_impl_SameRules (x0 : List Int × Int × Int) (x1 : List Int × Int × Int) : Option (Bool) :=
 ((F_slices_Equal_Lint64_int64 x0.1 x1.1).bind fun (y5 : Bool) =>
 bif y5 then
 bif (decide ((x0.2.1 : Int) = x1.2.1)) then
 some (decide ((x0.2.2 : Int) = x1.2.2))
 else
 some false
 else
 some false : Option (Bool)).bind fun (j6 : Bool) =>
 some j6
noncomputable def K_impl_SameRules : Callee := { ins := [.v s3 .z, .v s3 .z], outs := [(.bool, .z)], F := fun t => F_impl_SameRules t.1 t.2.1 }
noncomputable def X_impl_SameRules : Ctx := { tys := tys, fns := [(41, K_slices_Equal_Lint64_int64)], frz := [], lps := [], jns := [], rjs := [(1, ⟨[(4, .st .bool .z false)], []⟩)] }
noncomputable def F_impl_sameOuts (x0 : Int × List Int × Int × Int) (x1 : Int × List Int × Int × Int) : Option (Bool) :=
 (bif (decide ((x0.1 : Int) = x1.1)) then
 (F_impl_SameRules x0.2 x1.2).bind fun (y5 : Bool) =>
 some y5
 else
 some false : Option (Bool)).bind fun (j6 : Bool) =>
 some j6
noncomputable def K_impl_sameOuts : Callee := { ins := [.v s4 .z, .v s4 .z], outs := [(.bool, .z)], F := fun t => F_impl_sameOuts t.1 t.2.1 }
noncomputable def X_impl_sameOuts : Ctx := { tys := tys, fns := [(211, K_impl_SameRules)], frz := [], lps := [], jns := [], rjs := [(1, ⟨[(4, .st .bool .z false)], []⟩)] }
noncomputable def F_impl_sameCoin (x0 : (Int × Int) × (Int × List Int × Int × Int) × Int × Bool) (x1 : (Int × Int) × (Int × List Int × Int × Int) × Int × Bool) : Option (Bool) :=
 (bif (Sh.beq (.prod (.int .i64) (.int .i64)) x0.1 x1.1) then
 (F_impl_sameOuts x0.2.1 x1.2.1).bind fun (y5 : Bool) =>
 bif y5 then
 bif (decide ((x0.2.2.1 : Int) = x1.2.2.1)) then
 some (Sh.beq .bool x0.2.2.2 x1.2.2.2)
 else
 some false
 else
 some false
 else
 some false : Option (Bool)).bind fun (j6 : Bool) =>
 some j6
noncomputable def K_impl_sameCoin : Callee := { ins := [.v s7 .z, .v s7 .z], outs := [(.bool, .z)], F := fun t => F_impl_sameCoin t.1 t.2.1 }
noncomputable def X_impl_sameCoin : Ctx := { tys := tys, fns := [(195, K_impl_sameOuts)], frz := [], lps := [], jns := [], rjs := [(1, ⟨[(4, .st .bool .z false)], []⟩)] }
noncomputable def F_impl_SameCoins (x0 : List ((Int × Int) × (Int × List Int × Int × Int) × Int × Bool)) (x1 : List ((Int × Int) × (Int × List Int × Int × Int) × Int × Bool)) : Option (Bool) :=
 (F_slices_EqualFunc_Limpl_Coin_Limpl_Coin_impl_Coin_impl_Coin x0 x1 (fun (a5 : (Int × Int) × (Int × List Int × Int × Int) × Int × Bool) (a6 : (Int × Int) × (Int × List Int × Int × Int) × Int × Bool) => (F_impl_sameCoin a5 a6).bind fun r7 => some r7)).bind fun (y8 : Bool) =>
 some y8
noncomputable def K_impl_SameCoins : Callee := { ins := [.v (.list s7) .z, .v (.list s7) .z], outs := [(.bool, .z)], F := fun t => F_impl_SameCoins t.1 t.2.1 }
noncomputable def X_impl_SameCoins : Ctx := { tys := tys, fns := [(155, K_slices_EqualFunc_Limpl_Coin_Limpl_Coin_impl_Coin_impl_Coin), (156, K_impl_sameCoin)], frz := [], lps := [], jns := [], rjs := [] }
noncomputable def F_slices_Equal_Limpl_Member_impl_Member (x0 : List (Int × Int × Int)) (x1 : List (Int × Int × Int)) : Option (Bool) :=
 bif (!decide (((List.length x0 : Int) : Int) = (List.length x1 : Int))) then
 some false
 else
 (loopO (S := Int) (X := (Unit) ⊕ (Bool)) (fun (s5 : Int) =>
 bif (decide ((s5 : Int) < (List.length x0 : Int))) then
 bif (inB s5 x0) then
 bif (inB s5 x1) then
 bif (!(Sh.beq (.prod (.int .i64) (.prod (.int .i64) (.int .i64))) (List.getD x0 (Int.toNat s5) (0, (0, 0))) (List.getD x1 (Int.toNat s5) (0, (0, 0))))) then
 some (Sum.inr (Sum.inr false))
 else
 some (Sum.inl (IntKind.wrap .i64 (s5 + 1)))
 else none
 else none
 else
 some (Sum.inr (Sum.inl ()))) 0).bind fun (j6 : (Unit) ⊕ (Bool)) =>
 Sum.elim (fun (j7 : Unit) =>
 some true) (fun (j8 : Bool) =>
 some j8) j6
noncomputable def K_slices_Equal_Limpl_Member_impl_Member : Callee := { ins := [.v (.list s2) .z, .v (.list s2) .z], outs := [(.bool, .z)], F := fun t => F_slices_Equal_Limpl_Member_impl_Member t.1 t.2.1 }
noncomputable def X_slices_Equal_Limpl_Member_impl_Member : Ctx := { tys := tys, fns := [], frz := [], lps := [(4, (⟨[(0, .keep), (1, .keep), (12, .keep), (13, .st (.int .i64) .z false)], []⟩, ⟨[((.exit 0), ⟨[], []⟩), (.ret, ⟨[(4, .st .bool .z false)], []⟩)]⟩))], jns := [], rjs := [] }
noncomputable def F_impl_SameMembers (x0 : List (Int × Int × Int)) (x1 : List (Int × Int × Int)) : Option (Bool) :=
 (F_slices_Equal_Limpl_Member_impl_Member x0 x1).bind fun (y2 : Bool) =>
 some y2
noncomputable def K_impl_SameMembers : Callee := { ins := [.v (.list s2) .z, .v (.list s2) .z], outs := [(.bool, .z)], F := fun t => F_impl_SameMembers t.1 t.2.1 }
noncomputable def X_impl_SameMembers : Ctx := { tys := tys, fns := [(157, K_slices_Equal_Limpl_Member_impl_Member)], frz := [], lps := [], jns := [], rjs := [] }
noncomputable def F_impl_SameStates (x0 : Int × Int × List ((Int × Int) × (Int × List Int × Int × Int) × Int × Bool) × List (Int × Int × Int)) (x1 : Int × Int × List ((Int × Int) × (Int × List Int × Int × Int) × Int × Bool) × List (Int × Int × Int)) : Option (Bool) :=
 (bif (decide ((x0.1 : Int) = x1.1)) then
 bif (decide ((x0.2.1 : Int) = x1.2.1)) then
 (F_impl_SameCoins x0.2.2.1 x1.2.2.1).bind fun (y8 : Bool) =>
 bif y8 then
 (F_impl_SameMembers x0.2.2.2 x1.2.2.2).bind fun (y9 : Bool) =>
 some y9
 else
 some false
 else
 some false
 else
 some false : Option (Bool)).bind fun (j10 : Bool) =>
 some j10
noncomputable def K_impl_SameStates : Callee := { ins := [.v s10 .z, .v s10 .z], outs := [(.bool, .z)], F := fun t => F_impl_SameStates t.1 t.2.1 }
noncomputable def X_impl_SameStates : Ctx := { tys := tys, fns := [(99, K_impl_SameCoins), (100, K_impl_SameMembers)], frz := [], lps := [], jns := [], rjs := [(1, ⟨[(4, .st .bool .z false)], []⟩)] }
noncomputable def F_slices_Equal_Limpl_Node_impl_Node (x0 : List (Int × Int × Int)) (x1 : List (Int × Int × Int)) : Option (Bool) :=
 bif (!decide (((List.length x0 : Int) : Int) = (List.length x1 : Int))) then
 some false
 else
 (loopO (S := Int) (X := (Unit) ⊕ (Bool)) (fun (s5 : Int) =>
 bif (decide ((s5 : Int) < (List.length x0 : Int))) then
 bif (inB s5 x0) then
 bif (inB s5 x1) then
 bif (!(Sh.beq (.prod (.int .i64) (.prod (.int .i64) (.int .i64))) (List.getD x0 (Int.toNat s5) (0, (0, 0))) (List.getD x1 (Int.toNat s5) (0, (0, 0))))) then
 some (Sum.inr (Sum.inr false))
 else
 some (Sum.inl (IntKind.wrap .i64 (s5 + 1)))
 else none
 else none
 else
 some (Sum.inr (Sum.inl ()))) 0).bind fun (j6 : (Unit) ⊕ (Bool)) =>
 Sum.elim (fun (j7 : Unit) =>
 some true) (fun (j8 : Bool) =>
 some j8) j6
noncomputable def K_slices_Equal_Limpl_Node_impl_Node : Callee := { ins := [.v (.list s2) .z, .v (.list s2) .z], outs := [(.bool, .z)], F := fun t => F_slices_Equal_Limpl_Node_impl_Node t.1 t.2.1 }
noncomputable def X_slices_Equal_Limpl_Node_impl_Node : Ctx := { tys := tys, fns := [], frz := [], lps := [(4, (⟨[(0, .keep), (1, .keep), (12, .keep), (13, .st (.int .i64) .z false)], []⟩, ⟨[((.exit 0), ⟨[], []⟩), (.ret, ⟨[(4, .st .bool .z false)], []⟩)]⟩))], jns := [], rjs := [] }
noncomputable def F_impl_SameChains (x0 : (List (List UInt8) × List (Int × Int)) × List (Int × Int × Int) × List Int × (Int × Int × List ((Int × Int) × (Int × List Int × Int × Int) × Int × Bool) × List (Int × Int × Int)) × List (Int × List (List ((Int × Int) × (Int × List Int × Int × Int) × Int × Bool)) × List (Int × Int × Int))) (x1 : (List (List UInt8) × List (Int × Int)) × List (Int × Int × Int) × List Int × (Int × Int × List ((Int × Int) × (Int × List Int × Int × Int) × Int × Bool) × List (Int × Int × Int)) × List (Int × List (List ((Int × Int) × (Int × List Int × Int × Int) × Int × Bool)) × List (Int × Int × Int))) : Option (Bool) :=
 ((F_impl_SameStates x0.2.2.2.1 x1.2.2.2.1).bind fun (y11 : Bool) =>
 bif y11 then
 (F_slices_Equal_Limpl_Node_impl_Node x0.2.1 x1.2.1).bind fun (y12 : Bool) =>
 bif y12 then
 (F_slices_Equal_Lint64_int64 x0.2.2.1 x1.2.2.1).bind fun (y13 : Bool) =>
 some y13
 else
 some false
 else
 some false : Option (Bool)).bind fun (j14 : Bool) =>
 some j14
noncomputable def K_impl_SameChains : Callee := { ins := [.v s16 .z, .v s16 .z], outs := [(.bool, .z)], F := fun t => F_impl_SameChains t.1 t.2.1 }
noncomputable def X_impl_SameChains : Ctx := { tys := tys, fns := [(39, K_impl_SameStates), (40, K_slices_Equal_Limpl_Node_impl_Node), (41, K_slices_Equal_Lint64_int64)], frz := [], lps := [], jns := [], rjs := [(1, ⟨[(4, .st .bool .z false)], []⟩)] }
noncomputable def F_laws_eqStringS (x0 : List (List UInt8)) (x1 : List (List UInt8)) : Option (Bool) :=
 bif (!decide (((List.length x0 : Int) : Int) = (List.length x1 : Int))) then
 some false
 else
 (loopO (S := Int) (X := (Unit) ⊕ (Bool)) (fun (s5 : Int) =>
 bif (decide ((s5 : Int) < (List.length x0 : Int))) then
 bif (inB s5 x0) then
 bif (inB s5 x1) then
 bif (!decide ((List.getD x0 (Int.toNat s5) [] : List UInt8) = List.getD x1 (Int.toNat s5) [])) then
 some (Sum.inr (Sum.inr false))
 else
 some (Sum.inl (IntKind.wrap .i64 (s5 + 1)))
 else none
 else none
 else
 some (Sum.inr (Sum.inl ()))) 0).bind fun (j6 : (Unit) ⊕ (Bool)) =>
 Sum.elim (fun (j7 : Unit) =>
 some true) (fun (j8 : Bool) =>
 some j8) j6
noncomputable def K_laws_eqStringS : Callee := { ins := [.v (.list .str) .z, .v (.list .str) .z], outs := [(.bool, .z)], F := fun t => F_laws_eqStringS t.1 t.2.1 }
noncomputable def X_laws_eqStringS : Ctx := { tys := tys, fns := [], frz := [], lps := [(4, (⟨[(0, .keep), (1, .keep), (5, .st (.int .i64) .z false)], []⟩, ⟨[((.exit 0), ⟨[], []⟩), (.ret, ⟨[(4, .st .bool .z false)], []⟩)]⟩))], jns := [], rjs := [] }
noncomputable def F_laws_eqSign (x0 : Int × Int) (x1 : Int × Int) : Option (Bool) :=
 bif (!decide ((x0.1 : Int) = x1.1)) then
 some false
 else
 bif (!decide ((x0.2 : Int) = x1.2)) then
 some false
 else
 some true
noncomputable def K_laws_eqSign : Callee := { ins := [.v s0 .z, .v s0 .z], outs := [(.bool, .z)], F := fun t => F_laws_eqSign t.1 t.2.1 }
noncomputable def X_laws_eqSign : Ctx := { tys := tys, fns := [], frz := [], lps := [], jns := [], rjs := [] }
noncomputable def F_laws_eqSignS (x0 : List (Int × Int)) (x1 : List (Int × Int)) : Option (Bool) :=
 bif (!decide (((List.length x0 : Int) : Int) = (List.length x1 : Int))) then
 some false
 else
 (loopO (S := Int) (X := (Unit) ⊕ (Bool)) (fun (s10 : Int) =>
 bif (decide ((s10 : Int) < (List.length x0 : Int))) then
 bif (inB s10 x0) then
 bif (inB s10 x1) then
 (F_laws_eqSign (List.getD x0 (Int.toNat s10) (0, 0)) (List.getD x1 (Int.toNat s10) (0, 0))).bind fun (y11 : Bool) =>
 bif (!y11) then
 some (Sum.inr (Sum.inr false))
 else
 some (Sum.inl (IntKind.wrap .i64 (s10 + 1)))
 else none
 else none
 else
 some (Sum.inr (Sum.inl ()))) 0).bind fun (j12 : (Unit) ⊕ (Bool)) =>
 Sum.elim (fun (j13 : Unit) =>
 some true) (fun (j14 : Bool) =>
 some j14) j12
noncomputable def K_laws_eqSignS : Callee := { ins := [.v (.list s0) .z, .v (.list s0) .z], outs := [(.bool, .z)], F := fun t => F_laws_eqSignS t.1 t.2.1 }
noncomputable def X_laws_eqSignS : Ctx := { tys := tys, fns := [(115, K_laws_eqSign)], frz := [], lps := [(4, (⟨[(0, .keep), (1, .keep), (5, .st (.int .i64) .z false)], []⟩, ⟨[((.exit 0), ⟨[], []⟩), (.ret, ⟨[(4, .st .bool .z false)], []⟩)]⟩))], jns := [], rjs := [] }
noncomputable def F_laws_eqLedger (x0 : List (List UInt8) × List (Int × Int)) (x1 : List (List UInt8) × List (Int × Int)) : Option (Bool) :=
 (F_laws_eqStringS x0.1 x1.1).bind fun (y3 : Bool) =>
 bif (!y3) then
 some false
 else
 (F_laws_eqSignS x0.2 x1.2).bind fun (y4 : Bool) =>
 bif (!y4) then
 some false
 else
 some true
noncomputable def K_laws_eqLedger : Callee := { ins := [.v s1 .z, .v s1 .z], outs := [(.bool, .z)], F := fun t => F_laws_eqLedger t.1 t.2.1 }
noncomputable def X_laws_eqLedger : Ctx := { tys := tys, fns := [(55, K_laws_eqStringS), (56, K_laws_eqSignS)], frz := [], lps := [], jns := [], rjs := [] }
noncomputable def F_laws_eqNode (x0 : Int × Int × Int) (x1 : Int × Int × Int) : Option (Bool) :=
 bif (!decide ((x0.1 : Int) = x1.1)) then
 some false
 else
 bif (!decide ((x0.2.1 : Int) = x1.2.1)) then
 some false
 else
 bif (!decide ((x0.2.2 : Int) = x1.2.2)) then
 some false
 else
 some true
noncomputable def K_laws_eqNode : Callee := { ins := [.v s2 .z, .v s2 .z], outs := [(.bool, .z)], F := fun t => F_laws_eqNode t.1 t.2.1 }
noncomputable def X_laws_eqNode : Ctx := { tys := tys, fns := [], frz := [], lps := [], jns := [], rjs := [] }
noncomputable def F_laws_eqNodeS (x0 : List (Int × Int × Int)) (x1 : List (Int × Int × Int)) : Option (Bool) :=
 bif (!decide (((List.length x0 : Int) : Int) = (List.length x1 : Int))) then
 some false
 else
 (loopO (S := Int) (X := (Unit) ⊕ (Bool)) (fun (s10 : Int) =>
 bif (decide ((s10 : Int) < (List.length x0 : Int))) then
 bif (inB s10 x0) then
 bif (inB s10 x1) then
 (F_laws_eqNode (List.getD x0 (Int.toNat s10) (0, (0, 0))) (List.getD x1 (Int.toNat s10) (0, (0, 0)))).bind fun (y11 : Bool) =>
 bif (!y11) then
 some (Sum.inr (Sum.inr false))
 else
 some (Sum.inl (IntKind.wrap .i64 (s10 + 1)))
 else none
 else none
 else
 some (Sum.inr (Sum.inl ()))) 0).bind fun (j12 : (Unit) ⊕ (Bool)) =>
 Sum.elim (fun (j13 : Unit) =>
 some true) (fun (j14 : Bool) =>
 some j14) j12
noncomputable def K_laws_eqNodeS : Callee := { ins := [.v (.list s2) .z, .v (.list s2) .z], outs := [(.bool, .z)], F := fun t => F_laws_eqNodeS t.1 t.2.1 }
noncomputable def X_laws_eqNodeS : Ctx := { tys := tys, fns := [(101, K_laws_eqNode)], frz := [], lps := [(4, (⟨[(0, .keep), (1, .keep), (5, .st (.int .i64) .z false)], []⟩, ⟨[((.exit 0), ⟨[], []⟩), (.ret, ⟨[(4, .st .bool .z false)], []⟩)]⟩))], jns := [], rjs := [] }
noncomputable def F_laws_eqInt64S (x0 : List Int) (x1 : List Int) : Option (Bool) :=
 bif (!decide (((List.length x0 : Int) : Int) = (List.length x1 : Int))) then
 some false
 else
 (loopO (S := Int) (X := (Unit) ⊕ (Bool)) (fun (s5 : Int) =>
 bif (decide ((s5 : Int) < (List.length x0 : Int))) then
 bif (inB s5 x0) then
 bif (inB s5 x1) then
 bif (!decide ((List.getD x0 (Int.toNat s5) 0 : Int) = List.getD x1 (Int.toNat s5) 0)) then
 some (Sum.inr (Sum.inr false))
 else
 some (Sum.inl (IntKind.wrap .i64 (s5 + 1)))
 else none
 else none
 else
 some (Sum.inr (Sum.inl ()))) 0).bind fun (j6 : (Unit) ⊕ (Bool)) =>
 Sum.elim (fun (j7 : Unit) =>
 some true) (fun (j8 : Bool) =>
 some j8) j6
noncomputable def K_laws_eqInt64S : Callee := { ins := [.v (.list (.int .i64)) .z, .v (.list (.int .i64)) .z], outs := [(.bool, .z)], F := fun t => F_laws_eqInt64S t.1 t.2.1 }
noncomputable def X_laws_eqInt64S : Ctx := { tys := tys, fns := [], frz := [], lps := [(4, (⟨[(0, .keep), (1, .keep), (5, .st (.int .i64) .z false)], []⟩, ⟨[((.exit 0), ⟨[], []⟩), (.ret, ⟨[(4, .st .bool .z false)], []⟩)]⟩))], jns := [], rjs := [] }
noncomputable def F_laws_eqRef (x0 : Int × Int) (x1 : Int × Int) : Option (Bool) :=
 bif (!decide ((x0.1 : Int) = x1.1)) then
 some false
 else
 bif (!decide ((x0.2 : Int) = x1.2)) then
 some false
 else
 some true
noncomputable def K_laws_eqRef : Callee := { ins := [.v s0 .z, .v s0 .z], outs := [(.bool, .z)], F := fun t => F_laws_eqRef t.1 t.2.1 }
noncomputable def X_laws_eqRef : Ctx := { tys := tys, fns := [], frz := [], lps := [], jns := [], rjs := [] }
noncomputable def F_laws_eqRule (x0 : List Int × Int × Int) (x1 : List Int × Int × Int) : Option (Bool) :=
 (F_laws_eqInt64S x0.1 x1.1).bind fun (y2 : Bool) =>
 bif (!y2) then
 some false
 else
 bif (!decide ((x0.2.1 : Int) = x1.2.1)) then
 some false
 else
 bif (!decide ((x0.2.2 : Int) = x1.2.2)) then
 some false
 else
 some true
noncomputable def K_laws_eqRule : Callee := { ins := [.v s3 .z, .v s3 .z], outs := [(.bool, .z)], F := fun t => F_laws_eqRule t.1 t.2.1 }
noncomputable def X_laws_eqRule : Ctx := { tys := tys, fns := [(43, K_laws_eqInt64S)], frz := [], lps := [], jns := [], rjs := [] }
noncomputable def F_laws_eqOut (x0 : Int × List Int × Int × Int) (x1 : Int × List Int × Int × Int) : Option (Bool) :=
 bif (!decide ((x0.1 : Int) = x1.1)) then
 some false
 else
 (F_laws_eqRule x0.2 x1.2).bind fun (y2 : Bool) =>
 bif (!y2) then
 some false
 else
 some true
noncomputable def K_laws_eqOut : Callee := { ins := [.v s4 .z, .v s4 .z], outs := [(.bool, .z)], F := fun t => F_laws_eqOut t.1 t.2.1 }
noncomputable def X_laws_eqOut : Ctx := { tys := tys, fns := [(212, K_laws_eqRule)], frz := [], lps := [], jns := [], rjs := [] }
noncomputable def F_laws_eqCoin (x0 : (Int × Int) × (Int × List Int × Int × Int) × Int × Bool) (x1 : (Int × Int) × (Int × List Int × Int × Int) × Int × Bool) : Option (Bool) :=
 (F_laws_eqRef x0.1 x1.1).bind fun (y3 : Bool) =>
 bif (!y3) then
 some false
 else
 (F_laws_eqOut x0.2.1 x1.2.1).bind fun (y4 : Bool) =>
 bif (!y4) then
 some false
 else
 bif (!decide ((x0.2.2.1 : Int) = x1.2.2.1)) then
 some false
 else
 bif (!(Sh.beq .bool x0.2.2.2 x1.2.2.2)) then
 some false
 else
 some true
noncomputable def K_laws_eqCoin : Callee := { ins := [.v s7 .z, .v s7 .z], outs := [(.bool, .z)], F := fun t => F_laws_eqCoin t.1 t.2.1 }
noncomputable def X_laws_eqCoin : Ctx := { tys := tys, fns := [(196, K_laws_eqRef), (197, K_laws_eqOut)], frz := [], lps := [], jns := [], rjs := [] }
noncomputable def F_laws_eqCoinS (x0 : List ((Int × Int) × (Int × List Int × Int × Int) × Int × Bool)) (x1 : List ((Int × Int) × (Int × List Int × Int × Int) × Int × Bool)) : Option (Bool) :=
 bif (!decide (((List.length x0 : Int) : Int) = (List.length x1 : Int))) then
 some false
 else
 (loopO (S := Int) (X := (Unit) ⊕ (Bool)) (fun (s10 : Int) =>
 bif (decide ((s10 : Int) < (List.length x0 : Int))) then
 bif (inB s10 x0) then
 bif (inB s10 x1) then
 (F_laws_eqCoin (List.getD x0 (Int.toNat s10) ((0, 0), ((0, ([], (0, 0))), (0, false)))) (List.getD x1 (Int.toNat s10) ((0, 0), ((0, ([], (0, 0))), (0, false))))).bind fun (y11 : Bool) =>
 bif (!y11) then
 some (Sum.inr (Sum.inr false))
 else
 some (Sum.inl (IntKind.wrap .i64 (s10 + 1)))
 else none
 else none
 else
 some (Sum.inr (Sum.inl ()))) 0).bind fun (j12 : (Unit) ⊕ (Bool)) =>
 Sum.elim (fun (j13 : Unit) =>
 some true) (fun (j14 : Bool) =>
 some j14) j12
noncomputable def K_laws_eqCoinS : Callee := { ins := [.v (.list s7) .z, .v (.list s7) .z], outs := [(.bool, .z)], F := fun t => F_laws_eqCoinS t.1 t.2.1 }
noncomputable def X_laws_eqCoinS : Ctx := { tys := tys, fns := [(158, K_laws_eqCoin)], frz := [], lps := [(4, (⟨[(0, .keep), (1, .keep), (5, .st (.int .i64) .z false)], []⟩, ⟨[((.exit 0), ⟨[], []⟩), (.ret, ⟨[(4, .st .bool .z false)], []⟩)]⟩))], jns := [], rjs := [] }
noncomputable def F_laws_eqMember (x0 : Int × Int × Int) (x1 : Int × Int × Int) : Option (Bool) :=
 bif (!decide ((x0.1 : Int) = x1.1)) then
 some false
 else
 (F_laws_eqRef x0.2 x1.2).bind fun (y2 : Bool) =>
 bif (!y2) then
 some false
 else
 some true
noncomputable def K_laws_eqMember : Callee := { ins := [.v s2 .z, .v s2 .z], outs := [(.bool, .z)], F := fun t => F_laws_eqMember t.1 t.2.1 }
noncomputable def X_laws_eqMember : Ctx := { tys := tys, fns := [(196, K_laws_eqRef)], frz := [], lps := [], jns := [], rjs := [] }
noncomputable def F_laws_eqMemberS (x0 : List (Int × Int × Int)) (x1 : List (Int × Int × Int)) : Option (Bool) :=
 bif (!decide (((List.length x0 : Int) : Int) = (List.length x1 : Int))) then
 some false
 else
 (loopO (S := Int) (X := (Unit) ⊕ (Bool)) (fun (s10 : Int) =>
 bif (decide ((s10 : Int) < (List.length x0 : Int))) then
 bif (inB s10 x0) then
 bif (inB s10 x1) then
 (F_laws_eqMember (List.getD x0 (Int.toNat s10) (0, (0, 0))) (List.getD x1 (Int.toNat s10) (0, (0, 0)))).bind fun (y11 : Bool) =>
 bif (!y11) then
 some (Sum.inr (Sum.inr false))
 else
 some (Sum.inl (IntKind.wrap .i64 (s10 + 1)))
 else none
 else none
 else
 some (Sum.inr (Sum.inl ()))) 0).bind fun (j12 : (Unit) ⊕ (Bool)) =>
 Sum.elim (fun (j13 : Unit) =>
 some true) (fun (j14 : Bool) =>
 some j14) j12
noncomputable def K_laws_eqMemberS : Callee := { ins := [.v (.list s2) .z, .v (.list s2) .z], outs := [(.bool, .z)], F := fun t => F_laws_eqMemberS t.1 t.2.1 }
noncomputable def X_laws_eqMemberS : Ctx := { tys := tys, fns := [(159, K_laws_eqMember)], frz := [], lps := [(4, (⟨[(0, .keep), (1, .keep), (5, .st (.int .i64) .z false)], []⟩, ⟨[((.exit 0), ⟨[], []⟩), (.ret, ⟨[(4, .st .bool .z false)], []⟩)]⟩))], jns := [], rjs := [] }
noncomputable def F_laws_eqState (x0 : Int × Int × List ((Int × Int) × (Int × List Int × Int × Int) × Int × Bool) × List (Int × Int × Int)) (x1 : Int × Int × List ((Int × Int) × (Int × List Int × Int × Int) × Int × Bool) × List (Int × Int × Int)) : Option (Bool) :=
 bif (!decide ((x0.1 : Int) = x1.1)) then
 some false
 else
 bif (!decide ((x0.2.1 : Int) = x1.2.1)) then
 some false
 else
 (F_laws_eqCoinS x0.2.2.1 x1.2.2.1).bind fun (y3 : Bool) =>
 bif (!y3) then
 some false
 else
 (F_laws_eqMemberS x0.2.2.2 x1.2.2.2).bind fun (y4 : Bool) =>
 bif (!y4) then
 some false
 else
 some true
noncomputable def K_laws_eqState : Callee := { ins := [.v s10 .z, .v s10 .z], outs := [(.bool, .z)], F := fun t => F_laws_eqState t.1 t.2.1 }
noncomputable def X_laws_eqState : Ctx := { tys := tys, fns := [(102, K_laws_eqCoinS), (103, K_laws_eqMemberS)], frz := [], lps := [], jns := [], rjs := [] }
noncomputable def F_laws_eqCoinSS (x0 : List (List ((Int × Int) × (Int × List Int × Int × Int) × Int × Bool))) (x1 : List (List ((Int × Int) × (Int × List Int × Int × Int) × Int × Bool))) : Option (Bool) :=
 bif (!decide (((List.length x0 : Int) : Int) = (List.length x1 : Int))) then
 some false
 else
 (loopO (S := Int) (X := (Unit) ⊕ (Bool)) (fun (s10 : Int) =>
 bif (decide ((s10 : Int) < (List.length x0 : Int))) then
 bif (inB s10 x0) then
 bif (inB s10 x1) then
 (F_laws_eqCoinS (List.getD x0 (Int.toNat s10) []) (List.getD x1 (Int.toNat s10) [])).bind fun (y11 : Bool) =>
 bif (!y11) then
 some (Sum.inr (Sum.inr false))
 else
 some (Sum.inl (IntKind.wrap .i64 (s10 + 1)))
 else none
 else none
 else
 some (Sum.inr (Sum.inl ()))) 0).bind fun (j12 : (Unit) ⊕ (Bool)) =>
 Sum.elim (fun (j13 : Unit) =>
 some true) (fun (j14 : Bool) =>
 some j14) j12
noncomputable def K_laws_eqCoinSS : Callee := { ins := [.v (.list (.list s7)) .z, .v (.list (.list s7)) .z], outs := [(.bool, .z)], F := fun t => F_laws_eqCoinSS t.1 t.2.1 }
noncomputable def X_laws_eqCoinSS : Ctx := { tys := tys, fns := [(102, K_laws_eqCoinS)], frz := [], lps := [(4, (⟨[(0, .keep), (1, .keep), (5, .st (.int .i64) .z false)], []⟩, ⟨[((.exit 0), ⟨[], []⟩), (.ret, ⟨[(4, .st .bool .z false)], []⟩)]⟩))], jns := [], rjs := [] }
noncomputable def F_laws_eqUndo (x0 : Int × List (List ((Int × Int) × (Int × List Int × Int × Int) × Int × Bool)) × List (Int × Int × Int)) (x1 : Int × List (List ((Int × Int) × (Int × List Int × Int × Int) × Int × Bool)) × List (Int × Int × Int)) : Option (Bool) :=
 bif (!decide ((x0.1 : Int) = x1.1)) then
 some false
 else
 (F_laws_eqCoinSS x0.2.1 x1.2.1).bind fun (y3 : Bool) =>
 bif (!y3) then
 some false
 else
 (F_laws_eqMemberS x0.2.2 x1.2.2).bind fun (y4 : Bool) =>
 bif (!y4) then
 some false
 else
 some true
noncomputable def K_laws_eqUndo : Callee := { ins := [.v s12 .z, .v s12 .z], outs := [(.bool, .z)], F := fun t => F_laws_eqUndo t.1 t.2.1 }
noncomputable def X_laws_eqUndo : Ctx := { tys := tys, fns := [(103, K_laws_eqMemberS), (160, K_laws_eqCoinSS)], frz := [], lps := [], jns := [], rjs := [] }
noncomputable def F_laws_eqUndoS (x0 : List (Int × List (List ((Int × Int) × (Int × List Int × Int × Int) × Int × Bool)) × List (Int × Int × Int))) (x1 : List (Int × List (List ((Int × Int) × (Int × List Int × Int × Int) × Int × Bool)) × List (Int × Int × Int))) : Option (Bool) :=
 bif (!decide (((List.length x0 : Int) : Int) = (List.length x1 : Int))) then
 some false
 else
 (loopO (S := Int) (X := (Unit) ⊕ (Bool)) (fun (s10 : Int) =>
 bif (decide ((s10 : Int) < (List.length x0 : Int))) then
 bif (inB s10 x0) then
 bif (inB s10 x1) then
 (F_laws_eqUndo (List.getD x0 (Int.toNat s10) (0, ([], []))) (List.getD x1 (Int.toNat s10) (0, ([], [])))).bind fun (y11 : Bool) =>
 bif (!y11) then
 some (Sum.inr (Sum.inr false))
 else
 some (Sum.inl (IntKind.wrap .i64 (s10 + 1)))
 else none
 else none
 else
 some (Sum.inr (Sum.inl ()))) 0).bind fun (j12 : (Unit) ⊕ (Bool)) =>
 Sum.elim (fun (j13 : Unit) =>
 some true) (fun (j14 : Bool) =>
 some j14) j12
noncomputable def K_laws_eqUndoS : Callee := { ins := [.v (.list s12) .z, .v (.list s12) .z], outs := [(.bool, .z)], F := fun t => F_laws_eqUndoS t.1 t.2.1 }
noncomputable def X_laws_eqUndoS : Ctx := { tys := tys, fns := [(104, K_laws_eqUndo)], frz := [], lps := [(4, (⟨[(0, .keep), (1, .keep), (5, .st (.int .i64) .z false)], []⟩, ⟨[((.exit 0), ⟨[], []⟩), (.ret, ⟨[(4, .st .bool .z false)], []⟩)]⟩))], jns := [], rjs := [] }
noncomputable def F_laws_eqChain (x0 : (List (List UInt8) × List (Int × Int)) × List (Int × Int × Int) × List Int × (Int × Int × List ((Int × Int) × (Int × List Int × Int × Int) × Int × Bool) × List (Int × Int × Int)) × List (Int × List (List ((Int × Int) × (Int × List Int × Int × Int) × Int × Bool)) × List (Int × Int × Int))) (x1 : (List (List UInt8) × List (Int × Int)) × List (Int × Int × Int) × List Int × (Int × Int × List ((Int × Int) × (Int × List Int × Int × Int) × Int × Bool) × List (Int × Int × Int)) × List (Int × List (List ((Int × Int) × (Int × List Int × Int × Int) × Int × Bool)) × List (Int × Int × Int))) : Option (Bool) :=
 (F_laws_eqLedger x0.1 x1.1).bind fun (y6 : Bool) =>
 bif (!y6) then
 some false
 else
 (F_laws_eqNodeS x0.2.1 x1.2.1).bind fun (y7 : Bool) =>
 bif (!y7) then
 some false
 else
 (F_laws_eqInt64S x0.2.2.1 x1.2.2.1).bind fun (y8 : Bool) =>
 bif (!y8) then
 some false
 else
 (F_laws_eqState x0.2.2.2.1 x1.2.2.2.1).bind fun (y9 : Bool) =>
 bif (!y9) then
 some false
 else
 (F_laws_eqUndoS x0.2.2.2.2 x1.2.2.2.2).bind fun (y10 : Bool) =>
 bif (!y10) then
 some false
 else
 some true
noncomputable def K_laws_eqChain : Callee := { ins := [.v s16 .z, .v s16 .z], outs := [(.bool, .z)], F := fun t => F_laws_eqChain t.1 t.2.1 }
noncomputable def X_laws_eqChain : Ctx := { tys := tys, fns := [(16, K_laws_eqLedger), (42, K_laws_eqNodeS), (43, K_laws_eqInt64S), (44, K_laws_eqState), (45, K_laws_eqUndoS)], frz := [], lps := [], jns := [], rjs := [] }
noncomputable def F_laws_FnExactSameChains (x0 : (List (List UInt8) × List (Int × Int)) × List (Int × Int × Int) × List Int × (Int × Int × List ((Int × Int) × (Int × List Int × Int × Int) × Int × Bool) × List (Int × Int × Int)) × List (Int × List (List ((Int × Int) × (Int × List Int × Int × Int) × Int × Bool)) × List (Int × Int × Int))) (x1 : (List (List UInt8) × List (Int × Int)) × List (Int × Int × Int) × List Int × (Int × Int × List ((Int × Int) × (Int × List Int × Int × Int) × Int × Bool) × List (Int × Int × Int)) × List (Int × List (List ((Int × Int) × (Int × List Int × Int × Int) × Int × Bool)) × List (Int × Int × Int))) : Option (Bool) :=
 (F_laws_szChain x0 1048576).bind fun (y13 : Int) =>
 bif (decide ((y13 : Int) < 0)) then
 some true
 else
 (F_laws_szChain x1 y13).bind fun (y14 : Int) =>
 bif (decide ((y14 : Int) < 0)) then
 some true
 else
 (F_laws_toChain x0).bind fun (y15 : (List (List UInt8) × List (Int × Int)) × List (Int × Int × Int) × List Int × (Int × Int × List ((Int × Int) × (Int × List Int × Int × Int) × Int × Bool) × List (Int × Int × Int)) × List (Int × List (List ((Int × Int) × (Int × List Int × Int × Int) × Int × Bool)) × List (Int × Int × Int))) =>
 (F_laws_toChain x1).bind fun (y16 : (List (List UInt8) × List (Int × Int)) × List (Int × Int × Int) × List Int × (Int × Int × List ((Int × Int) × (Int × List Int × Int × Int) × Int × Bool) × List (Int × Int × Int)) × List (Int × List (List ((Int × Int) × (Int × List Int × Int × Int) × Int × Bool)) × List (Int × Int × Int))) =>
 (F_spec_SameChains y15 y16).bind fun (y17 : Bool) =>
 (F_laws_toChain x0).bind fun (y18 : (List (List UInt8) × List (Int × Int)) × List (Int × Int × Int) × List Int × (Int × Int × List ((Int × Int) × (Int × List Int × Int × Int) × Int × Bool) × List (Int × Int × Int)) × List (Int × List (List ((Int × Int) × (Int × List Int × Int × Int) × Int × Bool)) × List (Int × Int × Int))) =>
 (F_laws_toChain x1).bind fun (y19 : (List (List UInt8) × List (Int × Int)) × List (Int × Int × Int) × List Int × (Int × Int × List ((Int × Int) × (Int × List Int × Int × Int) × Int × Bool) × List (Int × Int × Int)) × List (Int × List (List ((Int × Int) × (Int × List Int × Int × Int) × Int × Bool)) × List (Int × Int × Int))) =>
 (F_impl_SameChains y18 y19).bind fun (y20 : Bool) =>
 bif (!(Sh.beq .bool y20 y17)) then
 some false
 else
 (F_laws_toChain x0).bind fun (y21 : (List (List UInt8) × List (Int × Int)) × List (Int × Int × Int) × List Int × (Int × Int × List ((Int × Int) × (Int × List Int × Int × Int) × Int × Bool) × List (Int × Int × Int)) × List (Int × List (List ((Int × Int) × (Int × List Int × Int × Int) × Int × Bool)) × List (Int × Int × Int))) =>
 (F_laws_eqChain y18 y21).bind fun (y22 : Bool) =>
 bif (!y22) then
 some false
 else
 (F_laws_toChain x1).bind fun (y23 : (List (List UInt8) × List (Int × Int)) × List (Int × Int × Int) × List Int × (Int × Int × List ((Int × Int) × (Int × List Int × Int × Int) × Int × Bool) × List (Int × Int × Int)) × List (Int × List (List ((Int × Int) × (Int × List Int × Int × Int) × Int × Bool)) × List (Int × Int × Int))) =>
 (F_laws_eqChain y19 y23).bind fun (y24 : Bool) =>
 bif (!y24) then
 some false
 else
 some true
noncomputable def K_laws_FnExactSameChains : Callee := { ins := [.v s16 .z, .v s16 .z], outs := [(.bool, .z)], F := fun t => F_laws_FnExactSameChains t.1 t.2.1 }
noncomputable def X_laws_FnExactSameChains : Ctx := { tys := tys, fns := [(6, K_laws_szChain), (7, K_spec_SameChains), (8, K_laws_toChain), (9, K_impl_SameChains), (10, K_laws_eqChain)], frz := [], lps := [], jns := [], rjs := [] }
end SC
end Go.Dx
