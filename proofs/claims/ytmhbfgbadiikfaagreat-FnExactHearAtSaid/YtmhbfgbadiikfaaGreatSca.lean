/- What each function computes, as a function of plain data (F), its parameters (K) and hints for the executor (X); the types -/
import Derived.Test.YtmhbfgbadiikfaaGreatDxd
import Derived.Test.YtmhbfgbadiikfaaGreatProg
import Derived.KernelRfl
set_option linter.unusedVariables false
set_option linter.unusedSimpArgs false
set_option maxRecDepth 100000
set_option maxHeartbeats 0
namespace Go.Dx
open Go.Proofs
namespace CL
def s0 : Sh := (.prod (.list (.int .i64)) (.int .i64))
def s1 : Sh := (.prod (.int .i64) (.int .i64))
def s2 : Sh := (.prod (.int .i64) s1)
def s3 : Sh := (.prod s1 (.int .i64))
def s4 : Sh := (.prod (.int .i64) (.list s3))
def s5 : Sh := (.prod (.int .i64) s4)
def s6 : Sh := (.prod (.int .i64) s3)
def s7 : Sh := (.prod (.int .i64) s6)
def s8 : Sh := (.prod (.int .i64) s7)
def s9 : Sh := (.prod (.list s8) (.list (.list (.int .i64))))
def s10 : Sh := (.prod (.list s5) s9)
def s11 : Sh := (.prod (.list s2) s10)
def s12 : Sh := (.prod (.list (.int .i64)) s11)
def s13 : Sh := (.prod s0 s12)
def s14 : Sh := (.prod (.int .i64) (.list (.int .i64)))
def s15 : Sh := (.prod (.int .i64) s13)
def s16 : Sh := (.prod (.int .i64) (.list s2))
def s17 : Sh := (.prod s8 s5)
def s18 : Sh := (.prod (.int .i64) s17)
def tys : List (TypeId × TI) := [(2, ⟨(.int .i64), 8, .int .i64⟩),
  (3, ⟨(.int .i64), 8, .int .i64⟩),
  (4, ⟨.bool, 1, .bool⟩),
  (22, ⟨(.list (.int .i64)), 24, .slice 2⟩),
  (24, ⟨s0, 32, .struct [(0, 22), (1, 2)]⟩),
  (25, ⟨(.list s2), 24, .slice 67⟩),
  (26, ⟨(.list s5), 24, .slice 155⟩),
  (27, ⟨(.list s8), 24, .slice 75⟩),
  (28, ⟨(.list (.list (.int .i64))), 24, .slice 22⟩),
  (30, ⟨s13, 152, .struct [(0, 24), (2, 22), (3, 25), (4, 26), (5, 27), (6, 28)]⟩),
  (33, ⟨s0, 32, .struct [(0, 22), (1, 2)]⟩),
  (34, ⟨(.list s2), 24, .slice 69⟩),
  (35, ⟨(.list s5), 24, .slice 145⟩),
  (36, ⟨(.list s8), 24, .slice 79⟩),
  (38, ⟨s13, 152, .struct [(0, 33), (2, 22), (3, 34), (4, 35), (5, 36), (6, 28)]⟩),
  (43, ⟨s14, 32, .struct [(0, 2), (1, 22)]⟩),
  (50, ⟨s1, 16, .struct [(0, 2), (1, 2)]⟩),
  (54, ⟨(.list s3), 24, .slice 115⟩),
  (56, ⟨s4, 32, .struct [(0, 2), (1, 54)]⟩),
  (61, ⟨s15, 160, .struct [(0, 2), (1, 38)]⟩),
  (67, ⟨s2, 24, .struct [(0, 2), (1, 2), (2, 2)]⟩),
  (69, ⟨s2, 24, .struct [(0, 2), (1, 2), (2, 2)]⟩),
  (73, ⟨s1, 16, .struct [(0, 2), (1, 2)]⟩),
  (75, ⟨s8, 48, .struct [(0, 2), (1, 2), (2, 2), (3, 73), (5, 2)]⟩),
  (77, ⟨s1, 16, .struct [(0, 2), (1, 2)]⟩),
  (79, ⟨s8, 48, .struct [(0, 2), (1, 2), (2, 2), (3, 77), (5, 2)]⟩),
  (92, ⟨(.fn2 .bool .bool .bool), 8, .ptr 38⟩),
  (112, ⟨(.fn1 (.int .i64) .bool .z), 8, .func⟩),
  (115, ⟨s3, 24, .struct [(0, 77), (2, 2)]⟩),
  (117, ⟨(.fn1 s3 .bool .z), 8, .func⟩),
  (135, ⟨s16, 32, .struct [(0, 2), (1, 34)]⟩),
  (145, ⟨s5, 40, .struct [(0, 2), (1, 2), (2, 54)]⟩),
  (147, ⟨s18, 96, .struct [(0, 2), (1, 79), (7, 145)]⟩),
  (150, ⟨(.fn1 s5 s18 (.p .z (.p .z (.p .z (.p .z (.o .z)))))), 8, .func⟩),
  (153, ⟨(.list s3), 24, .slice 206⟩),
  (155, ⟨s5, 40, .struct [(0, 2), (1, 2), (2, 153)]⟩),
  (193, ⟨(.fn2 s5 (.int .i64) .bool), 8, .func⟩),
  (202, ⟨(.fn1 s5 .bool .z), 8, .func⟩),
  (206, ⟨s3, 24, .struct [(0, 73), (2, 2)]⟩),
  (210, ⟨(.fn1 s2 .bool .z), 8, .func⟩)]
def X0 : Ctx := { tys := tys, fns := [], frz := [], lps := [], jns := [], rjs := [] }
theorem ty2 : TyOk Tryz.prog X0 2 ⟨(.int .i64), 8, .int .i64⟩ := ⟨⟨Tryz.t2, Tryz.type2, rfl, by decide, by decide, rfl⟩, ⟨Tryz.underlying2, rfl⟩⟩
theorem ty3 : TyOk Tryz.prog X0 3 ⟨(.int .i64), 8, .int .i64⟩ := ⟨⟨Tryz.t3, Tryz.type3, rfl, by decide, by decide, rfl⟩, ⟨Tryz.underlying3, rfl⟩⟩
theorem ty4 : TyOk Tryz.prog X0 4 ⟨.bool, 1, .bool⟩ := ⟨⟨Tryz.t4, Tryz.type4, rfl, by decide, by decide, rfl⟩, ⟨Tryz.underlying4, rfl⟩⟩
theorem ty22 : TyOk Tryz.prog X0 22 ⟨(.list (.int .i64)), 24, .slice 2⟩ := ⟨⟨Tryz.t22, Tryz.type22, rfl, by decide, by decide, rfl⟩, ⟨Tryz.underlying22, _, rfl, rfl⟩⟩
theorem ty24 : TyOk Tryz.prog X0 24 ⟨s0, 32, .struct [(0, 22), (1, 2)]⟩ := ⟨⟨Tryz.t24, Tryz.type24, rfl, by decide, by decide, rfl⟩, ⟨⟨_, Tryz.underlying24, rfl, by simp⟩, ⟨_, _, rfl, rfl, ⟨_, rfl, rfl⟩, ⟨rfl, _, rfl, rfl⟩⟩, by decide, Tryz.eqGuardType24, Tryz.stoodInHeld24⟩⟩
theorem ty25 : TyOk Tryz.prog X0 25 ⟨(.list s2), 24, .slice 67⟩ := ⟨⟨Tryz.t25, Tryz.type25, rfl, by decide, by decide, rfl⟩, ⟨Tryz.underlying25, _, rfl, rfl⟩⟩
theorem ty26 : TyOk Tryz.prog X0 26 ⟨(.list s5), 24, .slice 155⟩ := ⟨⟨Tryz.t26, Tryz.type26, rfl, by decide, by decide, rfl⟩, ⟨Tryz.underlying26, _, rfl, rfl⟩⟩
theorem ty27 : TyOk Tryz.prog X0 27 ⟨(.list s8), 24, .slice 75⟩ := ⟨⟨Tryz.t27, Tryz.type27, rfl, by decide, by decide, rfl⟩, ⟨Tryz.underlying27, _, rfl, rfl⟩⟩
theorem ty28 : TyOk Tryz.prog X0 28 ⟨(.list (.list (.int .i64))), 24, .slice 22⟩ := ⟨⟨Tryz.t28, Tryz.type28, rfl, by decide, by decide, rfl⟩, ⟨Tryz.underlying28, _, rfl, rfl⟩⟩
theorem ty30 : TyOk Tryz.prog X0 30 ⟨s13, 152, .struct [(0, 24), (2, 22), (3, 25), (4, 26), (5, 27), (6, 28)]⟩ := ⟨⟨Tryz.t30, Tryz.type30, rfl, by decide, by decide, rfl⟩, ⟨⟨_, Tryz.underlying30, rfl, by simp⟩, ⟨_, _, rfl, rfl, ⟨_, rfl, rfl⟩, ⟨_, _, rfl, rfl, ⟨_, rfl, rfl⟩, ⟨_, _, rfl, rfl, ⟨_, rfl, rfl⟩, ⟨_, _, rfl, rfl, ⟨_, rfl, rfl⟩, ⟨_, _, rfl, rfl, ⟨_, rfl, rfl⟩, ⟨rfl, _, rfl, rfl⟩⟩⟩⟩⟩⟩, by decide, Tryz.eqGuardType30, Tryz.stoodInHeld30⟩⟩
theorem ty33 : TyOk Tryz.prog X0 33 ⟨s0, 32, .struct [(0, 22), (1, 2)]⟩ := ⟨⟨Tryz.t33, Tryz.type33, rfl, by decide, by decide, rfl⟩, ⟨⟨_, Tryz.underlying33, rfl, by simp⟩, ⟨_, _, rfl, rfl, ⟨_, rfl, rfl⟩, ⟨rfl, _, rfl, rfl⟩⟩, by decide, Tryz.eqGuardType33, Tryz.stoodInHeld33⟩⟩
theorem ty34 : TyOk Tryz.prog X0 34 ⟨(.list s2), 24, .slice 69⟩ := ⟨⟨Tryz.t34, Tryz.type34, rfl, by decide, by decide, rfl⟩, ⟨Tryz.underlying34, _, rfl, rfl⟩⟩
theorem ty35 : TyOk Tryz.prog X0 35 ⟨(.list s5), 24, .slice 145⟩ := ⟨⟨Tryz.t35, Tryz.type35, rfl, by decide, by decide, rfl⟩, ⟨Tryz.underlying35, _, rfl, rfl⟩⟩
theorem ty36 : TyOk Tryz.prog X0 36 ⟨(.list s8), 24, .slice 79⟩ := ⟨⟨Tryz.t36, Tryz.type36, rfl, by decide, by decide, rfl⟩, ⟨Tryz.underlying36, _, rfl, rfl⟩⟩
theorem ty38 : TyOk Tryz.prog X0 38 ⟨s13, 152, .struct [(0, 33), (2, 22), (3, 34), (4, 35), (5, 36), (6, 28)]⟩ := ⟨⟨Tryz.t38, Tryz.type38, rfl, by decide, by decide, rfl⟩, ⟨⟨_, Tryz.underlying38, rfl, by simp⟩, ⟨_, _, rfl, rfl, ⟨_, rfl, rfl⟩, ⟨_, _, rfl, rfl, ⟨_, rfl, rfl⟩, ⟨_, _, rfl, rfl, ⟨_, rfl, rfl⟩, ⟨_, _, rfl, rfl, ⟨_, rfl, rfl⟩, ⟨_, _, rfl, rfl, ⟨_, rfl, rfl⟩, ⟨rfl, _, rfl, rfl⟩⟩⟩⟩⟩⟩, by decide, Tryz.eqGuardType38, Tryz.stoodInHeld38⟩⟩
theorem ty43 : TyOk Tryz.prog X0 43 ⟨s14, 32, .struct [(0, 2), (1, 22)]⟩ := ⟨⟨Tryz.t43, Tryz.type43, rfl, by decide, by decide, rfl⟩, ⟨⟨_, Tryz.underlying43, rfl, by simp⟩, ⟨_, _, rfl, rfl, ⟨_, rfl, rfl⟩, ⟨rfl, _, rfl, rfl⟩⟩, by decide, Tryz.eqGuardType43, Tryz.stoodInHeld43⟩⟩
theorem ty50 : TyOk Tryz.prog X0 50 ⟨s1, 16, .struct [(0, 2), (1, 2)]⟩ := ⟨⟨Tryz.t50, Tryz.type50, rfl, by decide, by decide, rfl⟩, ⟨⟨_, Tryz.underlying50, rfl, by simp⟩, ⟨_, _, rfl, rfl, ⟨_, rfl, rfl⟩, ⟨rfl, _, rfl, rfl⟩⟩, by decide, Tryz.eqGuardType50, Tryz.stoodInHeld50⟩⟩
theorem ty54 : TyOk Tryz.prog X0 54 ⟨(.list s3), 24, .slice 115⟩ := ⟨⟨Tryz.t54, Tryz.type54, rfl, by decide, by decide, rfl⟩, ⟨Tryz.underlying54, _, rfl, rfl⟩⟩
theorem ty56 : TyOk Tryz.prog X0 56 ⟨s4, 32, .struct [(0, 2), (1, 54)]⟩ := ⟨⟨Tryz.t56, Tryz.type56, rfl, by decide, by decide, rfl⟩, ⟨⟨_, Tryz.underlying56, rfl, by simp⟩, ⟨_, _, rfl, rfl, ⟨_, rfl, rfl⟩, ⟨rfl, _, rfl, rfl⟩⟩, by decide, Tryz.eqGuardType56, Tryz.stoodInHeld56⟩⟩
theorem ty61 : TyOk Tryz.prog X0 61 ⟨s15, 160, .struct [(0, 2), (1, 38)]⟩ := ⟨⟨Tryz.t61, Tryz.type61, rfl, by decide, by decide, rfl⟩, ⟨⟨_, Tryz.underlying61, rfl, by simp⟩, ⟨_, _, rfl, rfl, ⟨_, rfl, rfl⟩, ⟨rfl, _, rfl, rfl⟩⟩, by decide, Tryz.eqGuardType61, Tryz.stoodInHeld61⟩⟩
theorem ty67 : TyOk Tryz.prog X0 67 ⟨s2, 24, .struct [(0, 2), (1, 2), (2, 2)]⟩ := ⟨⟨Tryz.t67, Tryz.type67, rfl, by decide, by decide, rfl⟩, ⟨⟨_, Tryz.underlying67, rfl, by simp⟩, ⟨_, _, rfl, rfl, ⟨_, rfl, rfl⟩, ⟨_, _, rfl, rfl, ⟨_, rfl, rfl⟩, ⟨rfl, _, rfl, rfl⟩⟩⟩, by decide, Tryz.eqGuardType67, Tryz.stoodInHeld67⟩⟩
theorem ty69 : TyOk Tryz.prog X0 69 ⟨s2, 24, .struct [(0, 2), (1, 2), (2, 2)]⟩ := ⟨⟨Tryz.t69, Tryz.type69, rfl, by decide, by decide, rfl⟩, ⟨⟨_, Tryz.underlying69, rfl, by simp⟩, ⟨_, _, rfl, rfl, ⟨_, rfl, rfl⟩, ⟨_, _, rfl, rfl, ⟨_, rfl, rfl⟩, ⟨rfl, _, rfl, rfl⟩⟩⟩, by decide, Tryz.eqGuardType69, Tryz.stoodInHeld69⟩⟩
theorem ty73 : TyOk Tryz.prog X0 73 ⟨s1, 16, .struct [(0, 2), (1, 2)]⟩ := ⟨⟨Tryz.t73, Tryz.type73, rfl, by decide, by decide, rfl⟩, ⟨⟨_, Tryz.underlying73, rfl, by simp⟩, ⟨_, _, rfl, rfl, ⟨_, rfl, rfl⟩, ⟨rfl, _, rfl, rfl⟩⟩, by decide, Tryz.eqGuardType73, Tryz.stoodInHeld73⟩⟩
theorem ty75 : TyOk Tryz.prog X0 75 ⟨s8, 48, .struct [(0, 2), (1, 2), (2, 2), (3, 73), (5, 2)]⟩ := ⟨⟨Tryz.t75, Tryz.type75, rfl, by decide, by decide, rfl⟩, ⟨⟨_, Tryz.underlying75, rfl, by simp⟩, ⟨_, _, rfl, rfl, ⟨_, rfl, rfl⟩, ⟨_, _, rfl, rfl, ⟨_, rfl, rfl⟩, ⟨_, _, rfl, rfl, ⟨_, rfl, rfl⟩, ⟨_, _, rfl, rfl, ⟨_, rfl, rfl⟩, ⟨rfl, _, rfl, rfl⟩⟩⟩⟩⟩, by decide, Tryz.eqGuardType75, Tryz.stoodInHeld75⟩⟩
theorem ty77 : TyOk Tryz.prog X0 77 ⟨s1, 16, .struct [(0, 2), (1, 2)]⟩ := ⟨⟨Tryz.t77, Tryz.type77, rfl, by decide, by decide, rfl⟩, ⟨⟨_, Tryz.underlying77, rfl, by simp⟩, ⟨_, _, rfl, rfl, ⟨_, rfl, rfl⟩, ⟨rfl, _, rfl, rfl⟩⟩, by decide, Tryz.eqGuardType77, Tryz.stoodInHeld77⟩⟩
theorem ty79 : TyOk Tryz.prog X0 79 ⟨s8, 48, .struct [(0, 2), (1, 2), (2, 2), (3, 77), (5, 2)]⟩ := ⟨⟨Tryz.t79, Tryz.type79, rfl, by decide, by decide, rfl⟩, ⟨⟨_, Tryz.underlying79, rfl, by simp⟩, ⟨_, _, rfl, rfl, ⟨_, rfl, rfl⟩, ⟨_, _, rfl, rfl, ⟨_, rfl, rfl⟩, ⟨_, _, rfl, rfl, ⟨_, rfl, rfl⟩, ⟨_, _, rfl, rfl, ⟨_, rfl, rfl⟩, ⟨rfl, _, rfl, rfl⟩⟩⟩⟩⟩, by decide, Tryz.eqGuardType79, Tryz.stoodInHeld79⟩⟩
theorem ty92 : TyOk Tryz.prog X0 92 ⟨(.fn2 .bool .bool .bool), 8, .ptr 38⟩ := ⟨⟨Tryz.t92, Tryz.type92, rfl, by decide, by decide, trivial⟩, ⟨Tryz.underlying92, rfl⟩⟩
theorem ty112 : TyOk Tryz.prog X0 112 ⟨(.fn1 (.int .i64) .bool .z), 8, .func⟩ := ⟨⟨Tryz.t112, Tryz.type112, rfl, by decide, by decide, trivial⟩, ⟨⟨_, _, _, Tryz.underlying112⟩, .inl ⟨_, _, _, rfl⟩⟩⟩
theorem ty115 : TyOk Tryz.prog X0 115 ⟨s3, 24, .struct [(0, 77), (2, 2)]⟩ := ⟨⟨Tryz.t115, Tryz.type115, rfl, by decide, by decide, rfl⟩, ⟨⟨_, Tryz.underlying115, rfl, by simp⟩, ⟨_, _, rfl, rfl, ⟨_, rfl, rfl⟩, ⟨rfl, _, rfl, rfl⟩⟩, by decide, Tryz.eqGuardType115, Tryz.stoodInHeld115⟩⟩
theorem ty117 : TyOk Tryz.prog X0 117 ⟨(.fn1 s3 .bool .z), 8, .func⟩ := ⟨⟨Tryz.t117, Tryz.type117, rfl, by decide, by decide, trivial⟩, ⟨⟨_, _, _, Tryz.underlying117⟩, .inl ⟨_, _, _, rfl⟩⟩⟩
theorem ty135 : TyOk Tryz.prog X0 135 ⟨s16, 32, .struct [(0, 2), (1, 34)]⟩ := ⟨⟨Tryz.t135, Tryz.type135, rfl, by decide, by decide, rfl⟩, ⟨⟨_, Tryz.underlying135, rfl, by simp⟩, ⟨_, _, rfl, rfl, ⟨_, rfl, rfl⟩, ⟨rfl, _, rfl, rfl⟩⟩, by decide, Tryz.eqGuardType135, Tryz.stoodInHeld135⟩⟩
theorem ty145 : TyOk Tryz.prog X0 145 ⟨s5, 40, .struct [(0, 2), (1, 2), (2, 54)]⟩ := ⟨⟨Tryz.t145, Tryz.type145, rfl, by decide, by decide, rfl⟩, ⟨⟨_, Tryz.underlying145, rfl, by simp⟩, ⟨_, _, rfl, rfl, ⟨_, rfl, rfl⟩, ⟨_, _, rfl, rfl, ⟨_, rfl, rfl⟩, ⟨rfl, _, rfl, rfl⟩⟩⟩, by decide, Tryz.eqGuardType145, Tryz.stoodInHeld145⟩⟩
theorem ty147 : TyOk Tryz.prog X0 147 ⟨s18, 96, .struct [(0, 2), (1, 79), (7, 145)]⟩ := ⟨⟨Tryz.t147, Tryz.type147, rfl, by decide, by decide, rfl⟩, ⟨⟨_, Tryz.underlying147, rfl, by simp⟩, ⟨_, _, rfl, rfl, ⟨_, rfl, rfl⟩, ⟨_, _, rfl, rfl, ⟨_, rfl, rfl⟩, ⟨rfl, _, rfl, rfl⟩⟩⟩, by decide, Tryz.eqGuardType147, Tryz.stoodInHeld147⟩⟩
theorem ty150 : TyOk Tryz.prog X0 150 ⟨(.fn1 s5 s18 (.p .z (.p .z (.p .z (.p .z (.o .z)))))), 8, .func⟩ := ⟨⟨Tryz.t150, Tryz.type150, rfl, by decide, by decide, trivial⟩, ⟨⟨_, _, _, Tryz.underlying150⟩, .inl ⟨_, _, _, rfl⟩⟩⟩
theorem ty153 : TyOk Tryz.prog X0 153 ⟨(.list s3), 24, .slice 206⟩ := ⟨⟨Tryz.t153, Tryz.type153, rfl, by decide, by decide, rfl⟩, ⟨Tryz.underlying153, _, rfl, rfl⟩⟩
theorem ty155 : TyOk Tryz.prog X0 155 ⟨s5, 40, .struct [(0, 2), (1, 2), (2, 153)]⟩ := ⟨⟨Tryz.t155, Tryz.type155, rfl, by decide, by decide, rfl⟩, ⟨⟨_, Tryz.underlying155, rfl, by simp⟩, ⟨_, _, rfl, rfl, ⟨_, rfl, rfl⟩, ⟨_, _, rfl, rfl, ⟨_, rfl, rfl⟩, ⟨rfl, _, rfl, rfl⟩⟩⟩, by decide, Tryz.eqGuardType155, Tryz.stoodInHeld155⟩⟩
theorem ty193 : TyOk Tryz.prog X0 193 ⟨(.fn2 s5 (.int .i64) .bool), 8, .func⟩ := ⟨⟨Tryz.t193, Tryz.type193, rfl, by decide, by decide, trivial⟩, ⟨⟨_, _, _, Tryz.underlying193⟩, .inr ⟨_, _, _, rfl⟩⟩⟩
theorem ty202 : TyOk Tryz.prog X0 202 ⟨(.fn1 s5 .bool .z), 8, .func⟩ := ⟨⟨Tryz.t202, Tryz.type202, rfl, by decide, by decide, trivial⟩, ⟨⟨_, _, _, Tryz.underlying202⟩, .inl ⟨_, _, _, rfl⟩⟩⟩
theorem ty206 : TyOk Tryz.prog X0 206 ⟨s3, 24, .struct [(0, 73), (2, 2)]⟩ := ⟨⟨Tryz.t206, Tryz.type206, rfl, by decide, by decide, rfl⟩, ⟨⟨_, Tryz.underlying206, rfl, by simp⟩, ⟨_, _, rfl, rfl, ⟨_, rfl, rfl⟩, ⟨rfl, _, rfl, rfl⟩⟩, by decide, Tryz.eqGuardType206, Tryz.stoodInHeld206⟩⟩
theorem ty210 : TyOk Tryz.prog X0 210 ⟨(.fn1 s2 .bool .z), 8, .func⟩ := ⟨⟨Tryz.t210, Tryz.type210, rfl, by decide, by decide, trivial⟩, ⟨⟨_, _, _, Tryz.underlying210⟩, .inl ⟨_, _, _, rfl⟩⟩⟩
theorem tysOk : TysOk Tryz.prog X0 := tysOk_of ⟨ty2, ty3, ty4, ty22, ty24, ty25, ty26, ty27, ty28, ty30, ty33, ty34, ty35, ty36, ty38, ty43, ty50, ty54, ty56, ty61, ty67, ty69, ty73, ty75, ty77, ty79, ty92, ty112, ty115, ty117, ty135, ty145, ty147, ty150, ty153, ty155, ty193, ty202, ty206, ty210, trivial⟩
theorem follows : Tryz.prog.follows .mixedOrders = true := by kernel_rfl
end CL
end Go.Dx

set_option maxRecDepth 100000
set_option maxHeartbeats 0
namespace Go.Dx
open Go.Proofs
namespace CL

noncomputable def F_laws_szInt64S (x0 : List Int) (x1 : Int) : Option (Int) :=
 bif (decide ((IntKind.wrap .i64 (x1 - (List.length x0 : Int)) : Int) < 0)) then
 some (-1)
 else
 some (IntKind.wrap .i64 (x1 - (List.length x0 : Int)))
noncomputable def K_laws_szInt64S : Callee := { ins := [.v (.list (.int .i64)) .z, .v (.int .i64) .z], outs := [((.int .i64), .z)], F := fun t => F_laws_szInt64S t.1 t.2.1 }
noncomputable def X_laws_szInt64S : Ctx := { tys := tys, fns := [], frz := [], lps := [], jns := [], rjs := [] }

noncomputable def F_laws_szQuorum (x0 : List Int × Int) (x1 : Int) : Option (Int) :=
 (F_laws_szInt64S x0.1 x1).bind fun (y2 : Int) =>
 bif (decide ((y2 : Int) < 0)) then
 some (-1)
 else
 some y2
noncomputable def K_laws_szQuorum : Callee := { ins := [.v s0 .z, .v (.int .i64) .z], outs := [((.int .i64), .z)], F := fun t => F_laws_szQuorum t.1 t.2.1 }
noncomputable def X_laws_szQuorum : Ctx := { tys := tys, fns := [(60, K_laws_szInt64S)], frz := [], lps := [], jns := [], rjs := [] }

noncomputable def F_laws_szNodeS (x0 : List (Int × Int × Int)) (x1 : Int) : Option (Int) :=
 bif (decide ((IntKind.wrap .i64 (x1 - (List.length x0 : Int)) : Int) < 0)) then
 some (-1)
 else
 some (IntKind.wrap .i64 (x1 - (List.length x0 : Int)))
noncomputable def K_laws_szNodeS : Callee := { ins := [.v (.list s2) .z, .v (.int .i64) .z], outs := [((.int .i64), .z)], F := fun t => F_laws_szNodeS t.1 t.2.1 }
noncomputable def X_laws_szNodeS : Ctx := { tys := tys, fns := [], frz := [], lps := [], jns := [], rjs := [] }

noncomputable def F_laws_szChoiceS (x0 : List ((Int × Int) × Int)) (x1 : Int) : Option (Int) :=
 bif (decide ((IntKind.wrap .i64 (x1 - (List.length x0 : Int)) : Int) < 0)) then
 some (-1)
 else
 some (IntKind.wrap .i64 (x1 - (List.length x0 : Int)))
noncomputable def K_laws_szChoiceS : Callee := { ins := [.v (.list s3) .z, .v (.int .i64) .z], outs := [((.int .i64), .z)], F := fun t => F_laws_szChoiceS t.1 t.2.1 }
noncomputable def X_laws_szChoiceS : Ctx := { tys := tys, fns := [], frz := [], lps := [], jns := [], rjs := [] }

noncomputable def F_laws_szVoter (x0 : Int × Int × List ((Int × Int) × Int)) (x1 : Int) : Option (Int) :=
 (F_laws_szChoiceS x0.2.2 x1).bind fun (y2 : Int) =>
 bif (decide ((y2 : Int) < 0)) then
 some (-1)
 else
 some y2
noncomputable def K_laws_szVoter : Callee := { ins := [.v s5 .z, .v (.int .i64) .z], outs := [((.int .i64), .z)], F := fun t => F_laws_szVoter t.1 t.2.1 }
noncomputable def X_laws_szVoter : Ctx := { tys := tys, fns := [(187, K_laws_szChoiceS)], frz := [], lps := [], jns := [], rjs := [] }

noncomputable def F_laws_szVoterS (x0 : List (Int × Int × List ((Int × Int) × Int))) (x1 : Int) : Option (Int) :=
 bif (decide ((IntKind.wrap .i64 (x1 - (List.length x0 : Int)) : Int) < 0)) then
 some (-1)
 else
 (loopO (S := Int × Int) (X := (Int) ⊕ (Int)) (fun (s10 : Int × Int) =>
 bif (decide ((s10.2 : Int) < (List.length x0 : Int))) then
 bif (inB s10.2 x0) then
 (F_laws_szVoter (List.getD x0 (Int.toNat s10.2) (0, (0, []))) s10.1).bind fun (y11 : Int) =>
 bif (decide ((y11 : Int) < 0)) then
 some (Sum.inr (Sum.inr (-1)))
 else
 some (Sum.inl (y11, IntKind.wrap .i64 (s10.2 + 1)))
 else none
 else
 some (Sum.inr (Sum.inl s10.1))) (IntKind.wrap .i64 (x1 - (List.length x0 : Int)), 0)).bind fun (j12 : (Int) ⊕ (Int)) =>
 Sum.elim (fun (j13 : Int) =>
 some j13) (fun (j14 : Int) =>
 some j14) j12
noncomputable def K_laws_szVoterS : Callee := { ins := [.v (.list s5) .z, .v (.int .i64) .z], outs := [((.int .i64), .z)], F := fun t => F_laws_szVoterS t.1 t.2.1 }
noncomputable def X_laws_szVoterS : Ctx := { tys := tys, fns := [(130, K_laws_szVoter)], frz := [], lps := [(5, (⟨[(0, .keep), (1, .st (.int .i64) .z false), (5, .st (.int .i64) .z false)], []⟩, ⟨[((.exit 0), ⟨[(1, .st (.int .i64) .z false)], []⟩), (.ret, ⟨[(4, .st (.int .i64) .z false)], []⟩)]⟩))], jns := [], rjs := [] }

noncomputable def F_laws_szVoteS (x0 : List (Int × Int × Int × (Int × Int) × Int)) (x1 : Int) : Option (Int) :=
 bif (decide ((IntKind.wrap .i64 (x1 - (List.length x0 : Int)) : Int) < 0)) then
 some (-1)
 else
 some (IntKind.wrap .i64 (x1 - (List.length x0 : Int)))
noncomputable def K_laws_szVoteS : Callee := { ins := [.v (.list s8) .z, .v (.int .i64) .z], outs := [((.int .i64), .z)], F := fun t => F_laws_szVoteS t.1 t.2.1 }
noncomputable def X_laws_szVoteS : Ctx := { tys := tys, fns := [], frz := [], lps := [], jns := [], rjs := [] }

noncomputable def F_laws_szInt64SS (x0 : List (List Int)) (x1 : Int) : Option (Int) :=
 bif (decide ((IntKind.wrap .i64 (x1 - (List.length x0 : Int)) : Int) < 0)) then
 some (-1)
 else
 (loopO (S := Int × Int) (X := (Int) ⊕ (Int)) (fun (s10 : Int × Int) =>
 bif (decide ((s10.2 : Int) < (List.length x0 : Int))) then
 bif (inB s10.2 x0) then
 (F_laws_szInt64S (List.getD x0 (Int.toNat s10.2) []) s10.1).bind fun (y11 : Int) =>
 bif (decide ((y11 : Int) < 0)) then
 some (Sum.inr (Sum.inr (-1)))
 else
 some (Sum.inl (y11, IntKind.wrap .i64 (s10.2 + 1)))
 else none
 else
 some (Sum.inr (Sum.inl s10.1))) (IntKind.wrap .i64 (x1 - (List.length x0 : Int)), 0)).bind fun (j12 : (Int) ⊕ (Int)) =>
 Sum.elim (fun (j13 : Int) =>
 some j13) (fun (j14 : Int) =>
 some j14) j12
noncomputable def K_laws_szInt64SS : Callee := { ins := [.v (.list (.list (.int .i64))) .z, .v (.int .i64) .z], outs := [((.int .i64), .z)], F := fun t => F_laws_szInt64SS t.1 t.2.1 }
noncomputable def X_laws_szInt64SS : Ctx := { tys := tys, fns := [(60, K_laws_szInt64S)], frz := [], lps := [(5, (⟨[(0, .keep), (1, .st (.int .i64) .z false), (5, .st (.int .i64) .z false)], []⟩, ⟨[((.exit 0), ⟨[(1, .st (.int .i64) .z false)], []⟩), (.ret, ⟨[(4, .st (.int .i64) .z false)], []⟩)]⟩))], jns := [], rjs := [] }

noncomputable def F_laws_szCluster (x0 : (List Int × Int) × List Int × List (Int × Int × Int) × List (Int × Int × List ((Int × Int) × Int)) × List (Int × Int × Int × (Int × Int) × Int) × List (List Int)) (x1 : Int) : Option (Int) :=
 (F_laws_szQuorum x0.1 x1).bind fun (y7 : Int) =>
 bif (decide ((y7 : Int) < 0)) then
 some (-1)
 else
 (F_laws_szInt64S x0.2.1 y7).bind fun (y8 : Int) =>
 bif (decide ((y8 : Int) < 0)) then
 some (-1)
 else
 (F_laws_szNodeS x0.2.2.1 y8).bind fun (y9 : Int) =>
 bif (decide ((y9 : Int) < 0)) then
 some (-1)
 else
 (F_laws_szVoterS x0.2.2.2.1 y9).bind fun (y10 : Int) =>
 bif (decide ((y10 : Int) < 0)) then
 some (-1)
 else
 (F_laws_szVoteS x0.2.2.2.2.1 y10).bind fun (y11 : Int) =>
 bif (decide ((y11 : Int) < 0)) then
 some (-1)
 else
 (F_laws_szInt64SS x0.2.2.2.2.2 y11).bind fun (y12 : Int) =>
 bif (decide ((y12 : Int) < 0)) then
 some (-1)
 else
 some y12
noncomputable def K_laws_szCluster : Callee := { ins := [.v s13 .z, .v (.int .i64) .z], outs := [((.int .i64), .z)], F := fun t => F_laws_szCluster t.1 t.2.1 }
noncomputable def X_laws_szCluster : Ctx := { tys := tys, fns := [(59, K_laws_szQuorum), (60, K_laws_szInt64S), (61, K_laws_szNodeS), (62, K_laws_szVoterS), (63, K_laws_szVoteS), (64, K_laws_szInt64SS)], frz := [], lps := [], jns := [], rjs := [] }

noncomputable def F_spec_l1In (x0 : Int) (x1 : Int) (x2 : Int) : Option (Bool) :=
 (bif (decide ((x1 : Int) ≤ x0)) then
 some (decide ((x0 : Int) ≤ x2))
 else
 some false : Option (Bool)).bind fun (j2 : Bool) =>
 some j2
noncomputable def K_spec_l1In : Callee := { ins := [.v (.int .i64) .z, .v (.int .i64) .z, .v (.int .i64) .z], outs := [(.bool, .z)], F := fun t => F_spec_l1In t.1 t.2.1 t.2.2.1 }
noncomputable def X_spec_l1In : Ctx := { tys := tys, fns := [], frz := [], lps := [], jns := [], rjs := [(1, ⟨[(6, .st .bool .z false)], []⟩)] }

noncomputable def F_spec_l1Key (x0 : Int) : Option (Bool) :=
 (F_spec_l1In x0 1 999).bind fun (y2 : Bool) =>
 some y2
noncomputable def K_spec_l1Key : Callee := { ins := [.v (.int .i64) .z], outs := [(.bool, .z)], F := fun t => F_spec_l1Key t.1 }
noncomputable def X_spec_l1Key : Ctx := { tys := tys, fns := [(106, K_spec_l1In)], frz := [], lps := [], jns := [], rjs := [] }

noncomputable def F_spec_l10Fault (x0 : List Int × Int) : Option (Int) :=
 (F_spec_l1In (List.length x0.1 : Int) 1 8).bind fun (y14 : Bool) =>
 bif (!y14) then
 some 2
 else
 (loopO (S := Int) (X := (Unit) ⊕ (Int)) (fun (s17 : Int) =>
 bif (decide ((s17 : Int) < (List.length x0.1 : Int))) then
 bif (inB s17 x0.1) then
 (F_spec_l1Key (List.getD x0.1 (Int.toNat s17) 0)).bind fun (y18 : Bool) =>
 bif (!y18) then
 some (Sum.inr (Sum.inr 3))
 else
 some (Sum.inl (IntKind.wrap .i64 (s17 + 1)))
 else none
 else
 some (Sum.inr (Sum.inl ()))) 0).bind fun (j19 : (Unit) ⊕ (Int)) =>
 Sum.elim (fun (j20 : Unit) =>
 (F_spec_l1In x0.2 1 (List.length x0.1 : Int)).bind fun (y22 : Bool) =>
 bif (!y22) then
 some 3
 else
 (loopO (S := Int) (X := (Unit) ⊕ (Int)) (fun (s23 : Int) =>
 bif (decide ((s23 : Int) < (List.length x0.1 : Int))) then
 bif (inB s23 x0.1) then
 bif (inB (IntKind.wrap .i64 (s23 - 1)) x0.1) then
 bif (decide ((List.getD x0.1 (Int.toNat s23) 0 : Int) ≤ List.getD x0.1 (Int.toNat (IntKind.wrap .i64 (s23 - 1))) 0)) then
 some (Sum.inr (Sum.inr 1))
 else
 some (Sum.inl (IntKind.wrap .i64 (s23 + 1)))
 else none
 else none
 else
 some (Sum.inr (Sum.inl ()))) 1).bind fun (j24 : (Unit) ⊕ (Int)) =>
 Sum.elim (fun (j25 : Unit) =>
 some 0) (fun (j26 : Int) =>
 some j26) j24) (fun (j21 : Int) =>
 some j21) j19
noncomputable def K_spec_l10Fault : Callee := { ins := [.rp s0 false], outs := [((.int .i64), .z)], F := fun t => F_spec_l10Fault t.1 }
noncomputable def X_spec_l10Fault : Ctx := { tys := tys, fns := [(106, K_spec_l1In), (175, K_spec_l1Key)], frz := [], lps := [(5, (⟨[(0, .keep), (3, .keep), (4, .st (.int .i64) .z false)], []⟩, ⟨[((.exit 0), ⟨[(0, .keep), (3, .keep)], []⟩), (.ret, ⟨[(2, .st (.int .i64) .z false)], []⟩)]⟩)),
  (12, (⟨[(0, .keep), (5, .st (.int .i64) .z false)], []⟩, ⟨[((.exit 2), ⟨[], []⟩), (.ret, ⟨[(2, .st (.int .i64) .z false)], []⟩)]⟩))], jns := [], rjs := [] }

noncomputable def F_spec_l12Bad (x0 : List Int) : Option (Int) :=
 (loopO (S := Int) (X := (Unit) ⊕ (Int)) (fun (s14 : Int) =>
 bif (decide ((s14 : Int) < (List.length x0 : Int))) then
 bif (inB s14 x0) then
 (F_spec_l1Key (List.getD x0 (Int.toNat s14) 0)).bind fun (y15 : Bool) =>
 bif (!y15) then
 some (Sum.inr (Sum.inr 3))
 else
 some (Sum.inl (IntKind.wrap .i64 (s14 + 1)))
 else none
 else
 some (Sum.inr (Sum.inl ()))) 0).bind fun (j16 : (Unit) ⊕ (Int)) =>
 Sum.elim (fun (j17 : Unit) =>
 (loopO (S := Int) (X := (Unit) ⊕ (Int)) (fun (s19 : Int) =>
 bif (decide ((s19 : Int) < (List.length x0 : Int))) then
 bif (inB s19 x0) then
 bif (inB (IntKind.wrap .i64 (s19 - 1)) x0) then
 bif (decide ((List.getD x0 (Int.toNat s19) 0 : Int) ≤ List.getD x0 (Int.toNat (IntKind.wrap .i64 (s19 - 1))) 0)) then
 some (Sum.inr (Sum.inr 1))
 else
 some (Sum.inl (IntKind.wrap .i64 (s19 + 1)))
 else none
 else none
 else
 some (Sum.inr (Sum.inl ()))) 1).bind fun (j20 : (Unit) ⊕ (Int)) =>
 Sum.elim (fun (j21 : Unit) =>
 some 0) (fun (j22 : Int) =>
 some j22) j20) (fun (j18 : Int) =>
 some j18) j16
noncomputable def K_spec_l12Bad : Callee := { ins := [.v (.list (.int .i64)) .z], outs := [((.int .i64), .z)], F := fun t => F_spec_l12Bad t.1 }
noncomputable def X_spec_l12Bad : Ctx := { tys := tys, fns := [(175, K_spec_l1Key)], frz := [], lps := [(2, (⟨[(0, .keep), (3, .st (.int .i64) .z false)], []⟩, ⟨[((.exit 0), ⟨[(0, .keep)], []⟩), (.ret, ⟨[(2, .st (.int .i64) .z false)], []⟩)]⟩)),
  (7, (⟨[(0, .keep), (4, .st (.int .i64) .z false)], []⟩, ⟨[((.exit 2), ⟨[], []⟩), (.ret, ⟨[(2, .st (.int .i64) .z false)], []⟩)]⟩))], jns := [], rjs := [] }

noncomputable def F_spec_l9At (x0 : List (Int × Int × Int)) (x1 : Int) : Option (Int) :=
 (loopO (S := Int) (X := (Unit) ⊕ (Int)) (fun (s5 : Int) =>
 bif (decide ((s5 : Int) < (List.length x0 : Int))) then
 bif (inB s5 x0) then
 bif (decide (((List.getD x0 (Int.toNat s5) (0, (0, 0))).1 : Int) = x1)) then
 some (Sum.inr (Sum.inr s5))
 else
 some (Sum.inl (IntKind.wrap .i64 (s5 + 1)))
 else none
 else
 some (Sum.inr (Sum.inl ()))) 0).bind fun (j6 : (Unit) ⊕ (Int)) =>
 Sum.elim (fun (j7 : Unit) =>
 some (-1)) (fun (j8 : Int) =>
 some j8) j6
noncomputable def K_spec_l9At : Callee := { ins := [.v (.list s2) .z, .v (.int .i64) .z], outs := [((.int .i64), .z)], F := fun t => F_spec_l9At t.1 t.2.1 }
noncomputable def X_spec_l9At : Ctx := { tys := tys, fns := [], frz := [], lps := [(2, (⟨[(0, .keep), (1, .keep), (5, .st (.int .i64) .z false)], []⟩, ⟨[((.exit 0), ⟨[], []⟩), (.ret, ⟨[(4, .st (.int .i64) .z false)], []⟩)]⟩))], jns := [], rjs := [] }

noncomputable def F_spec_l9Node (x0 : List (Int × Int × Int)) (x1 : Int × Int × Int) : Option (Int) :=
 ((F_spec_l1In x1.1 1 60).bind fun (y14 : Bool) =>
 bif (!y14) then
 some true
 else
 (F_spec_l1In x1.2.2 1 40).bind fun (y15 : Bool) =>
 some (!y15) : Option (Bool)).bind fun (j16 : Bool) =>
 bif j16 then
 some 3
 else
 (F_spec_l9At x0 x1.1).bind fun (y17 : Int) =>
 bif (decide ((0 : Int) ≤ y17)) then
 some 7
 else
 (bif (!decide ((x1.2.1 : Int) = 0)) then
 (F_spec_l9At x0 x1.2.1).bind fun (y19 : Int) =>
 bif (decide ((y19 : Int) < 0)) then
 some (Sum.inr 4)
 else
 bif (inB y19 x0) then
 some (Sum.inl (List.getD x0 (Int.toNat y19) (0, (0, 0))).2.2)
 else none
 else
 some (Sum.inl 0) : Option ((Int) ⊕ (Int))).bind fun (j20 : (Int) ⊕ (Int)) =>
 Sum.elim (fun (j21 : Int) =>
 bif (!decide ((x1.2.2 : Int) = IntKind.wrap .i64 (j21 + 1))) then
 some 1
 else
 some 0) (fun (j22 : Int) =>
 some j22) j20
noncomputable def K_spec_l9Node : Callee := { ins := [.v (.list s2) .z, .v s2 .z], outs := [((.int .i64), .z)], F := fun t => F_spec_l9Node t.1 t.2.1 }
noncomputable def X_spec_l9Node : Ctx := { tys := tys, fns := [(106, K_spec_l1In), (155, K_spec_l9At)], frz := [], lps := [], jns := [(7, ⟨[(.normal, ⟨[(3, .keep), (5, .st (.int .i64) .z false)], [(3, .keep)]⟩), (.ret, ⟨[(4, .st (.int .i64) .z false)], []⟩)]⟩)], rjs := [(1, ⟨[(0, .keep), (3, .keep), (16, .st .bool .z false)], [(3, .keep)]⟩)] }

noncomputable def F_spec_l9Fault (x0 : List (Int × Int × Int)) : Option (Int) :=
 bif (decide ((60 : Int) < (List.length x0 : Int))) then
 some 2
 else
 (loopO (S := Int) (X := (Unit) ⊕ (Int)) (fun (s10 : Int) =>
 bif (decide ((s10 : Int) < (List.length x0 : Int))) then
 bif (cutOk 0 s10 x0) then
 bif (inB s10 x0) then
 (F_spec_l9Node (cut 0 s10 x0) (List.getD x0 (Int.toNat s10) (0, (0, 0)))).bind fun (y11 : Int) =>
 bif (!decide ((y11 : Int) = 0)) then
 some (Sum.inr (Sum.inr y11))
 else
 some (Sum.inl (IntKind.wrap .i64 (s10 + 1)))
 else none
 else none
 else
 some (Sum.inr (Sum.inl ()))) 0).bind fun (j12 : (Unit) ⊕ (Int)) =>
 Sum.elim (fun (j13 : Unit) =>
 some 0) (fun (j14 : Int) =>
 some j14) j12
noncomputable def K_spec_l9Fault : Callee := { ins := [.v (.list s2) .z], outs := [((.int .i64), .z)], F := fun t => F_spec_l9Fault t.1 }
noncomputable def X_spec_l9Fault : Ctx := { tys := tys, fns := [(173, K_spec_l9Node)], frz := [], lps := [(4, (⟨[(0, .keep), (3, .st (.int .i64) .z false)], []⟩, ⟨[((.exit 0), ⟨[], []⟩), (.ret, ⟨[(2, .st (.int .i64) .z false)], []⟩)]⟩))], jns := [], rjs := [] }

noncomputable def F_spec_l11Tx (x0 : Int) : Option (Bool) :=
 (F_spec_l1In x0 1 60).bind fun (y2 : Bool) =>
 some y2
noncomputable def K_spec_l11Tx : Callee := { ins := [.v (.int .i64) .z], outs := [(.bool, .z)], F := fun t => F_spec_l11Tx t.1 }
noncomputable def X_spec_l11Tx : Ctx := { tys := tys, fns := [(106, K_spec_l1In)], frz := [], lps := [], jns := [], rjs := [] }

noncomputable def F_spec_l3Ref (x0 : Int × Int) : Option (Bool) :=
 ((F_spec_l1In x0.1 1 60).bind fun (y8 : Bool) =>
 bif y8 then
 (F_spec_l1In x0.2 0 3).bind fun (y9 : Bool) =>
 some y9
 else
 some false : Option (Bool)).bind fun (j10 : Bool) =>
 some j10
noncomputable def K_spec_l3Ref : Callee := { ins := [.v s1 .z], outs := [(.bool, .z)], F := fun t => F_spec_l3Ref t.1 }
noncomputable def X_spec_l3Ref : Ctx := { tys := tys, fns := [(106, K_spec_l1In)], frz := [], lps := [], jns := [], rjs := [(1, ⟨[(2, .st .bool .z false)], []⟩)] }

noncomputable def F_spec_l11At (x0 : Int × Int × List ((Int × Int) × Int)) (x1 : Int × Int) : Option (Int) :=
 (loopO (S := Int) (X := (Unit) ⊕ (Int)) (fun (s5 : Int) =>
 bif (decide ((s5 : Int) < (List.length x0.2.2 : Int))) then
 bif (inB s5 x0.2.2) then
 bif (Sh.beq (.prod (.int .i64) (.int .i64)) (List.getD x0.2.2 (Int.toNat s5) ((0, 0), 0)).1 x1) then
 some (Sum.inr (Sum.inr s5))
 else
 some (Sum.inl (IntKind.wrap .i64 (s5 + 1)))
 else none
 else
 some (Sum.inr (Sum.inl ()))) 0).bind fun (j6 : (Unit) ⊕ (Int)) =>
 Sum.elim (fun (j7 : Unit) =>
 some (-1)) (fun (j8 : Int) =>
 some j8) j6
noncomputable def K_spec_l11At : Callee := { ins := [.rp s5 false, .v s1 .z], outs := [((.int .i64), .z)], F := fun t => F_spec_l11At t.1 t.2.1 }
noncomputable def X_spec_l11At : Ctx := { tys := tys, fns := [], frz := [], lps := [(2, (⟨[(0, .keep), (3, .keep), (5, .st (.int .i64) .z false)], [(3, .keep)]⟩, ⟨[((.exit 0), ⟨[], []⟩), (.ret, ⟨[(4, .st (.int .i64) .z false)], []⟩)]⟩))], jns := [], rjs := [] }

noncomputable def F_spec_l11Fault (x0 : Int × Int × List ((Int × Int) × Int)) : Option (Int) :=
 ((F_spec_l1Key x0.1).bind fun (y30 : Bool) =>
 bif (!y30) then
 some true
 else
 (F_spec_l1In x0.2.1 0 60).bind fun (y31 : Bool) =>
 some (!y31) : Option (Bool)).bind fun (j32 : Bool) =>
 bif j32 then
 some 3
 else
 bif (decide ((40 : Int) < (List.length x0.2.2 : Int))) then
 some 2
 else
 (loopO (S := Int) (X := (Unit) ⊕ (Int)) (fun (s45 : Int) =>
 bif (decide ((s45 : Int) < (List.length x0.2.2 : Int))) then
 (bif (inB s45 x0.2.2) then
 (F_spec_l3Ref (List.getD x0.2.2 (Int.toNat s45) ((0, 0), 0)).1).bind fun (y48 : Bool) =>
 bif (!y48) then
 some true
 else
 bif (inB s45 x0.2.2) then
 (F_spec_l11Tx (List.getD x0.2.2 (Int.toNat s45) ((0, 0), 0)).2).bind fun (y49 : Bool) =>
 some (!y49)
 else none
 else none : Option (Bool)).bind fun (j50 : Bool) =>
 bif j50 then
 some (Sum.inr (Sum.inr 3))
 else
 bif (inB s45 x0.2.2) then
 (F_spec_l11At x0 (List.getD x0.2.2 (Int.toNat s45) ((0, 0), 0)).1).bind fun (y51 : Int) =>
 bif (!decide ((y51 : Int) = s45)) then
 some (Sum.inr (Sum.inr 7))
 else
 some (Sum.inl (IntKind.wrap .i64 (s45 + 1)))
 else none
 else
 some (Sum.inr (Sum.inl ()))) 0).bind fun (j52 : (Unit) ⊕ (Int)) =>
 Sum.elim (fun (j53 : Unit) =>
 some 0) (fun (j54 : Int) =>
 some j54) j52
noncomputable def K_spec_l11Fault : Callee := { ins := [.rp s5 false], outs := [((.int .i64), .z)], F := fun t => F_spec_l11Fault t.1 }
noncomputable def X_spec_l11Fault : Ctx := { tys := tys, fns := [(106, K_spec_l1In), (175, K_spec_l1Key), (176, K_spec_l11Tx), (177, K_spec_l3Ref), (208, K_spec_l11At)], frz := [], lps := [(6, (⟨[(0, .keep), (3, .st (.int .i64) .z false)], []⟩, ⟨[((.exit 0), ⟨[], []⟩), (.ret, ⟨[(2, .st (.int .i64) .z false)], []⟩)]⟩))], jns := [], rjs := [(1, ⟨[(0, .keep), (17, .st .bool .z false)], []⟩),
  (8, ⟨[(0, .keep), (3, .keep), (54, .st .bool .z false)], []⟩)] }

noncomputable def F_spec_l4Among (x0 : List Int) (x1 : Int) : Option (Bool) :=
 (loopO (S := Int) (X := (Unit) ⊕ (Bool)) (fun (s5 : Int) =>
 bif (decide ((s5 : Int) < (List.length x0 : Int))) then
 bif (inB s5 x0) then
 bif (decide ((List.getD x0 (Int.toNat s5) 0 : Int) = x1)) then
 some (Sum.inr (Sum.inr true))
 else
 some (Sum.inl (IntKind.wrap .i64 (s5 + 1)))
 else none
 else
 some (Sum.inr (Sum.inl ()))) 0).bind fun (j6 : (Unit) ⊕ (Bool)) =>
 Sum.elim (fun (j7 : Unit) =>
 some false) (fun (j8 : Bool) =>
 some j8) j6
noncomputable def K_spec_l4Among : Callee := { ins := [.v (.list (.int .i64)) .z, .v (.int .i64) .z], outs := [(.bool, .z)], F := fun t => F_spec_l4Among t.1 t.2.1 }
noncomputable def X_spec_l4Among : Ctx := { tys := tys, fns := [], frz := [], lps := [(2, (⟨[(0, .keep), (1, .keep), (5, .st (.int .i64) .z false)], []⟩, ⟨[((.exit 0), ⟨[], []⟩), (.ret, ⟨[(4, .st .bool .z false)], []⟩)]⟩))], jns := [], rjs := [] }

noncomputable def F_spec_l12Good (x0 : List Int × Int) (x1 : List Int) : Option (List Int) :=
 (loopO (S := List Int × Int) (X := List Int) (fun (s13 : List Int × Int) =>
 bif (decide ((s13.2 : Int) < (List.length x0.1 : Int))) then
 bif (inB s13.2 x0.1) then
 (F_spec_l4Among x1 (List.getD x0.1 (Int.toNat s13.2) 0)).bind fun (y14 : Bool) =>
 (bif (!y14) then
 bif (inB s13.2 x0.1) then
 bif decide (List.length s13.1 + List.length ([List.getD x0.1 (Int.toNat s13.2) 0] : List Int) ≤ LIM) then
 some (List.append s13.1 ([List.getD x0.1 (Int.toNat s13.2) 0] : List Int))
 else none
 else none
 else
 some s13.1 : Option (List Int)).bind fun (j15 : List Int) =>
 some (Sum.inl (j15, IntKind.wrap .i64 (s13.2 + 1)))
 else none
 else
 some (Sum.inr s13.1)) (([] : List Int), 0)).bind fun (j16 : List Int) =>
 some j16
noncomputable def K_spec_l12Good : Callee := { ins := [.rp s0 false, .v (.list (.int .i64)) .z], outs := [((.list (.int .i64)), (.o .z))], F := fun t => F_spec_l12Good t.1 t.2.1 }
noncomputable def X_spec_l12Good : Ctx := { tys := tys, fns := [(89, K_spec_l4Among)], frz := [], lps := [(3, (⟨[(0, .keep), (1, .keep), (5, .st (.list (.int .i64)) (.o .z) false), (6, .st (.int .i64) .z false)], []⟩, ⟨[((.exit 0), ⟨[(5, .st (.list (.int .i64)) (.o .z) false)], []⟩)]⟩))], jns := [(6, ⟨[(.normal, ⟨[(0, .keep), (1, .keep), (5, .st (.list (.int .i64)) (.o .z) false), (6, .keep)], []⟩)]⟩)], rjs := [] }

noncomputable def F_spec_l12Voters (x0 : (List Int × Int) × List Int × List (Int × Int × Int) × List (Int × Int × List ((Int × Int) × Int)) × List (Int × Int × Int × (Int × Int) × Int) × List (List Int)) : Option (Int) :=
 (F_spec_l12Good x0.1 x0.2.1).bind fun (y13 : List Int) =>
 bif (!decide (((List.length y13 : Int) : Int) = (List.length x0.2.2.2.1 : Int))) then
 some 1
 else
 (loopO (S := Int) (X := (Unit) ⊕ (Int)) (fun (s14 : Int) =>
 bif (decide ((s14 : Int) < (List.length y13 : Int))) then
 bif (inB s14 x0.2.2.2.1) then
 bif (inB s14 y13) then
 bif (!decide (((List.getD x0.2.2.2.1 (Int.toNat s14) (0, (0, []))).1 : Int) = List.getD y13 (Int.toNat s14) 0)) then
 some (Sum.inr (Sum.inr 1))
 else
 some (Sum.inl (IntKind.wrap .i64 (s14 + 1)))
 else none
 else none
 else
 some (Sum.inr (Sum.inl ()))) 0).bind fun (j15 : (Unit) ⊕ (Int)) =>
 Sum.elim (fun (j16 : Unit) =>
 (loopO (S := Int) (X := (Unit) ⊕ (Int)) (fun (s20 : Int) =>
 bif (decide ((s20 : Int) < (List.length x0.2.2.2.1 : Int))) then
 bif (inB s20 x0.2.2.2.1) then
 (F_spec_l11Fault (List.getD x0.2.2.2.1 (Int.toNat s20) (0, (0, [])))).bind fun (y21 : Int) =>
 bif (!decide ((y21 : Int) = 0)) then
 some (Sum.inr (Sum.inr y21))
 else
 some (Sum.inl (IntKind.wrap .i64 (s20 + 1)))
 else none
 else
 some (Sum.inr (Sum.inl ()))) 0).bind fun (j22 : (Unit) ⊕ (Int)) =>
 Sum.elim (fun (j23 : Unit) =>
 some 0) (fun (j24 : Int) =>
 some j24) j22) (fun (j17 : Int) =>
 some j17) j15
noncomputable def K_spec_l12Voters : Callee := { ins := [.rp s13 false], outs := [((.int .i64), .z)], F := fun t => F_spec_l12Voters t.1 }
noncomputable def X_spec_l12Voters : Ctx := { tys := tys, fns := [(183, K_spec_l11Fault), (188, K_spec_l12Good)], frz := [], lps := [(5, (⟨[(0, .keep), (3, .keep), (4, .st (.int .i64) .z false)], []⟩, ⟨[((.exit 0), ⟨[(0, .keep)], []⟩), (.ret, ⟨[(2, .st (.int .i64) .z false)], []⟩)]⟩)),
  (10, (⟨[(0, .keep), (5, .st (.int .i64) .z false)], []⟩, ⟨[((.exit 2), ⟨[], []⟩), (.ret, ⟨[(2, .st (.int .i64) .z false)], []⟩)]⟩))], jns := [], rjs := [] }

noncomputable def F_spec_l11Vote (x0 : Int × Int × Int × (Int × Int) × Int) : Option (Int) :=
 ((F_spec_l1In x0.2.1 1 2).bind fun (y18 : Bool) =>
 bif (!y18) then
 some true
 else
 bif (decide ((x0.2.1 : Int) = 1)) then
 bif (!(Sh.beq (.prod (.int .i64) (.int .i64)) x0.2.2.2.1 (0, 0))) then
 some true
 else
 bif (!decide ((x0.2.2.2.2 : Int) = 0)) then
 some true
 else
 bif (decide ((x0.2.1 : Int) = 2)) then
 some (!decide ((x0.2.2.1 : Int) = 0))
 else
 some false
 else
 bif (decide ((x0.2.1 : Int) = 2)) then
 some (!decide ((x0.2.2.1 : Int) = 0))
 else
 some false : Option (Bool)).bind fun (j19 : Bool) =>
 bif j19 then
 some 1
 else
 ((F_spec_l1Key x0.1).bind fun (y26 : Bool) =>
 bif (!y26) then
 some true
 else
 bif (decide ((x0.2.1 : Int) = 1)) then
 (F_spec_l11Tx x0.2.2.1).bind fun (y27 : Bool) =>
 bif (!y27) then
 some true
 else
 bif (decide ((x0.2.1 : Int) = 2)) then
 (F_spec_l3Ref x0.2.2.2.1).bind fun (y28 : Bool) =>
 bif (!y28) then
 some true
 else
 (F_spec_l11Tx x0.2.2.2.2).bind fun (y29 : Bool) =>
 some (!y29)
 else
 some false
 else
 bif (decide ((x0.2.1 : Int) = 2)) then
 (F_spec_l3Ref x0.2.2.2.1).bind fun (y30 : Bool) =>
 bif (!y30) then
 some true
 else
 (F_spec_l11Tx x0.2.2.2.2).bind fun (y31 : Bool) =>
 some (!y31)
 else
 some false : Option (Bool)).bind fun (j32 : Bool) =>
 bif j32 then
 some 3
 else
 some 0
noncomputable def K_spec_l11Vote : Callee := { ins := [.rp s8 false], outs := [((.int .i64), .z)], F := fun t => F_spec_l11Vote t.1 }
noncomputable def X_spec_l11Vote : Ctx := { tys := tys, fns := [(106, K_spec_l1In), (175, K_spec_l1Key), (176, K_spec_l11Tx), (177, K_spec_l3Ref)], frz := [], lps := [], jns := [], rjs := [(2, ⟨[(0, .keep), (46, .st .bool .z false)], []⟩),
  (4, ⟨[(90, .st .bool .z false)], []⟩)] }

noncomputable def F_spec_l12Has (x0 : List (Int × Int × Int × (Int × Int) × Int)) (x1 : Int × Int × Int × (Int × Int) × Int) : Option (Bool) :=
 (loopO (S := Int) (X := (Unit) ⊕ (Bool)) (fun (s5 : Int) =>
 bif (decide ((s5 : Int) < (List.length x0 : Int))) then
 bif (inB s5 x0) then
 bif (Sh.beq (.prod (.int .i64) (.prod (.int .i64) (.prod (.int .i64) (.prod (.prod (.int .i64) (.int .i64)) (.int .i64))))) (List.getD x0 (Int.toNat s5) (0, (0, (0, ((0, 0), 0))))) x1) then
 some (Sum.inr (Sum.inr true))
 else
 some (Sum.inl (IntKind.wrap .i64 (s5 + 1)))
 else none
 else
 some (Sum.inr (Sum.inl ()))) 0).bind fun (j6 : (Unit) ⊕ (Bool)) =>
 Sum.elim (fun (j7 : Unit) =>
 some false) (fun (j8 : Bool) =>
 some j8) j6
noncomputable def K_spec_l12Has : Callee := { ins := [.v (.list s8) .z, .v s8 .z], outs := [(.bool, .z)], F := fun t => F_spec_l12Has t.1 t.2.1 }
noncomputable def X_spec_l12Has : Ctx := { tys := tys, fns := [], frz := [], lps := [(2, (⟨[(0, .keep), (3, .keep), (5, .st (.int .i64) .z false)], [(3, .keep)]⟩, ⟨[((.exit 0), ⟨[], []⟩), (.ret, ⟨[(4, .st .bool .z false)], []⟩)]⟩))], jns := [], rjs := [] }

noncomputable def F_spec_l12At (x0 : (List Int × Int) × List Int × List (Int × Int × Int) × List (Int × Int × List ((Int × Int) × Int)) × List (Int × Int × Int × (Int × Int) × Int) × List (List Int)) (x1 : Int) : Option (Int) :=
 (loopO (S := Int) (X := (Unit) ⊕ (Int)) (fun (s5 : Int) =>
 bif (decide ((s5 : Int) < (List.length x0.2.2.2.1 : Int))) then
 bif (inB s5 x0.2.2.2.1) then
 bif (decide (((List.getD x0.2.2.2.1 (Int.toNat s5) (0, (0, []))).1 : Int) = x1)) then
 some (Sum.inr (Sum.inr s5))
 else
 some (Sum.inl (IntKind.wrap .i64 (s5 + 1)))
 else none
 else
 some (Sum.inr (Sum.inl ()))) 0).bind fun (j6 : (Unit) ⊕ (Int)) =>
 Sum.elim (fun (j7 : Unit) =>
 some (-1)) (fun (j8 : Int) =>
 some j8) j6
noncomputable def K_spec_l12At : Callee := { ins := [.rp s13 false, .v (.int .i64) .z], outs := [((.int .i64), .z)], F := fun t => F_spec_l12At t.1 t.2.1 }
noncomputable def X_spec_l12At : Ctx := { tys := tys, fns := [], frz := [], lps := [(2, (⟨[(0, .keep), (1, .keep), (5, .st (.int .i64) .z false)], []⟩, ⟨[((.exit 0), ⟨[], []⟩), (.ret, ⟨[(4, .st (.int .i64) .z false)], []⟩)]⟩))], jns := [], rjs := [] }

noncomputable def F_spec_l9Above (x0 : List (Int × Int × Int)) (x1 : Int) (x2 : Int) : Option (Bool) :=
 (loopO (S := Int) (X := (Unit) ⊕ (Bool)) (fun (s10 : Int) =>
 bif (!decide ((s10 : Int) = 0)) then
 (F_spec_l9At x0 s10).bind fun (y11 : Int) =>
 bif (decide ((y11 : Int) < 0)) then
 some (Sum.inr (Sum.inr false))
 else
 bif (decide ((x1 : Int) = s10)) then
 some (Sum.inr (Sum.inr true))
 else
 bif (inB y11 x0) then
 some (Sum.inl (List.getD x0 (Int.toNat y11) (0, (0, 0))).2.1)
 else none
 else
 some (Sum.inr (Sum.inl ()))) x2).bind fun (j12 : (Unit) ⊕ (Bool)) =>
 Sum.elim (fun (j13 : Unit) =>
 some false) (fun (j14 : Bool) =>
 some j14) j12
noncomputable def K_spec_l9Above : Callee := { ins := [.v (.list s2) .z, .v (.int .i64) .z, .v (.int .i64) .z], outs := [(.bool, .z)], F := fun t => F_spec_l9Above t.1 t.2.1 t.2.2.1 }
noncomputable def X_spec_l9Above : Ctx := { tys := tys, fns := [(155, K_spec_l9At)], frz := [], lps := [(1, (⟨[(0, .keep), (1, .keep), (2, .st (.int .i64) .z false)], []⟩, ⟨[((.exit 0), ⟨[], []⟩), (.ret, ⟨[(6, .st .bool .z false)], []⟩)]⟩))], jns := [], rjs := [] }

noncomputable def F_spec_l12Stands (x0 : (List Int × Int) × List Int × List (Int × Int × Int) × List (Int × Int × List ((Int × Int) × Int)) × List (Int × Int × Int × (Int × Int) × Int) × List (List Int)) (x1 : Int × Int × Int × (Int × Int) × Int) : Option (Bool) :=
 (F_spec_l12At x0 x1.1).bind fun (y5 : Int) =>
 bif (decide ((y5 : Int) < 0)) then
 some true
 else
 bif (inB y5 x0.2.2.2.1) then
 bif (decide ((x1.2.1 : Int) = 1)) then
 (F_spec_l9Above x0.2.2.1 x1.2.2.1 (List.getD x0.2.2.2.1 (Int.toNat y5) (0, (0, []))).2.1).bind fun (y6 : Bool) =>
 some y6
 else
 (F_spec_l11At (List.getD x0.2.2.2.1 (Int.toNat y5) (0, (0, []))) x1.2.2.2.1).bind fun (y7 : Int) =>
 (bif (decide ((0 : Int) ≤ y7)) then
 bif (inB y7 (List.getD x0.2.2.2.1 (Int.toNat y5) (0, (0, []))).2.2) then
 some (decide (((List.getD (List.getD x0.2.2.2.1 (Int.toNat y5) (0, (0, []))).2.2 (Int.toNat y7) ((0, 0), 0)).2 : Int) = x1.2.2.2.2))
 else none
 else
 some false : Option (Bool)).bind fun (j8 : Bool) =>
 some j8
 else none
noncomputable def K_spec_l12Stands : Callee := { ins := [.rp s13 false, .rp s8 false], outs := [(.bool, .z)], F := fun t => F_spec_l12Stands t.1 t.2.1 }
noncomputable def X_spec_l12Stands : Ctx := { tys := tys, fns := [(121, K_spec_l12At), (149, K_spec_l9Above), (208, K_spec_l11At)], frz := [], lps := [], jns := [], rjs := [(8, ⟨[(4, .st .bool .z false)], []⟩)] }

noncomputable def F_spec_l12Votes (x0 : (List Int × Int) × List Int × List (Int × Int × Int) × List (Int × Int × List ((Int × Int) × Int)) × List (Int × Int × Int × (Int × Int) × Int) × List (List Int)) : Option (Int) :=
 (loopO (S := Int) (X := (Unit) ⊕ (Int)) (fun (s25 : Int) =>
 bif (decide ((s25 : Int) < (List.length x0.2.2.2.2.1 : Int))) then
 bif (inB s25 x0.2.2.2.2.1) then
 (F_spec_l11Vote (List.getD x0.2.2.2.2.1 (Int.toNat s25) (0, (0, (0, ((0, 0), 0)))))).bind fun (y26 : Int) =>
 bif (!decide ((y26 : Int) = 0)) then
 some (Sum.inr (Sum.inr y26))
 else
 bif (inB s25 x0.2.2.2.2.1) then
 (F_spec_l4Among x0.1.1 (List.getD x0.2.2.2.2.1 (Int.toNat s25) (0, (0, (0, ((0, 0), 0))))).1).bind fun (y27 : Bool) =>
 bif (!y27) then
 some (Sum.inr (Sum.inr 4))
 else
 bif (cutOk 0 s25 x0.2.2.2.2.1) then
 bif (inB s25 x0.2.2.2.2.1) then
 (F_spec_l12Has (cut 0 s25 x0.2.2.2.2.1) (List.getD x0.2.2.2.2.1 (Int.toNat s25) (0, (0, (0, ((0, 0), 0)))))).bind fun (y28 : Bool) =>
 bif y28 then
 some (Sum.inr (Sum.inr 7))
 else
 bif (inB s25 x0.2.2.2.2.1) then
 (F_spec_l12Stands x0 (List.getD x0.2.2.2.2.1 (Int.toNat s25) (0, (0, (0, ((0, 0), 0)))))).bind fun (y29 : Bool) =>
 bif (!y29) then
 some (Sum.inr (Sum.inr 6))
 else
 some (Sum.inl (IntKind.wrap .i64 (s25 + 1)))
 else none
 else none
 else none
 else none
 else none
 else
 some (Sum.inr (Sum.inl ()))) 0).bind fun (j30 : (Unit) ⊕ (Int)) =>
 Sum.elim (fun (j31 : Unit) =>
 some 0) (fun (j32 : Int) =>
 some j32) j30
noncomputable def K_spec_l12Votes : Callee := { ins := [.rp s13 false], outs := [((.int .i64), .z)], F := fun t => F_spec_l12Votes t.1 }
noncomputable def X_spec_l12Votes : Ctx := { tys := tys, fns := [(89, K_spec_l4Among), (117, K_spec_l11Vote), (178, K_spec_l12Has), (189, K_spec_l12Stands)], frz := [], lps := [(2, (⟨[(0, .keep), (3, .st (.int .i64) .z false)], []⟩, ⟨[((.exit 0), ⟨[], []⟩), (.ret, ⟨[(2, .st (.int .i64) .z false)], []⟩)]⟩))], jns := [], rjs := [] }

noncomputable def F_spec_l12Heard (x0 : (List Int × Int) × List Int × List (Int × Int × Int) × List (Int × Int × List ((Int × Int) × Int)) × List (Int × Int × Int × (Int × Int) × Int) × List (List Int)) : Option (Int) :=
 (loopO (S := Int) (X := (Unit) ⊕ (Int)) (fun (s75 : Int) =>
 bif (decide ((s75 : Int) < (List.length x0.2.2.2.2.2 : Int))) then
 (loopO (S := Int) (X := (Unit) ⊕ (Int)) (fun (s78 : Int) =>
 bif (inB s75 x0.2.2.2.2.2) then
 bif (decide ((s78 : Int) < (List.length (List.getD x0.2.2.2.2.2 (Int.toNat s75) []) : Int))) then
 bif (inB s75 x0.2.2.2.2.2) then
 bif (inB s78 (List.getD x0.2.2.2.2.2 (Int.toNat s75) [])) then
 (F_spec_l1In (List.getD (List.getD x0.2.2.2.2.2 (Int.toNat s75) []) (Int.toNat s78) 0) 0 (IntKind.wrap .i64 ((List.length x0.2.2.2.2.1 : Int) - 1))).bind fun (y79 : Bool) =>
 bif (!y79) then
 some (Sum.inr (Sum.inr 3))
 else
 some (Sum.inl (IntKind.wrap .i64 (s78 + 1)))
 else none
 else none
 else
 some (Sum.inr (Sum.inl ()))
 else none) 0).bind fun (j80 : (Unit) ⊕ (Int)) =>
 Sum.elim (fun (j81 : Unit) =>
 (loopO (S := Int) (X := (Unit) ⊕ (Int)) (fun (s85 : Int) =>
 bif (inB s75 x0.2.2.2.2.2) then
 bif (decide ((s85 : Int) < (List.length (List.getD x0.2.2.2.2.2 (Int.toNat s75) []) : Int))) then
 bif (inB s75 x0.2.2.2.2.2) then
 bif (cutOk 0 s85 (List.getD x0.2.2.2.2.2 (Int.toNat s75) [])) then
 bif (inB s75 x0.2.2.2.2.2) then
 bif (inB s85 (List.getD x0.2.2.2.2.2 (Int.toNat s75) [])) then
 (F_spec_l4Among (cut 0 s85 (List.getD x0.2.2.2.2.2 (Int.toNat s75) [])) (List.getD (List.getD x0.2.2.2.2.2 (Int.toNat s75) []) (Int.toNat s85) 0)).bind fun (y86 : Bool) =>
 bif y86 then
 some (Sum.inr (Sum.inr 7))
 else
 some (Sum.inl (IntKind.wrap .i64 (s85 + 1)))
 else none
 else none
 else none
 else none
 else
 some (Sum.inr (Sum.inl ()))
 else none) 0).bind fun (j87 : (Unit) ⊕ (Int)) =>
 Sum.elim (fun (j88 : Unit) =>
 some (Sum.inl (IntKind.wrap .i64 (s75 + 1)))) (fun (j89 : Int) =>
 some (Sum.inr (Sum.inr j89))) j87) (fun (j82 : Int) =>
 some (Sum.inr (Sum.inr j82))) j80
 else
 some (Sum.inr (Sum.inl ()))) 0).bind fun (j90 : (Unit) ⊕ (Int)) =>
 Sum.elim (fun (j91 : Unit) =>
 some 0) (fun (j92 : Int) =>
 some j92) j90
noncomputable def K_spec_l12Heard : Callee := { ins := [.rp s13 false], outs := [((.int .i64), .z)], F := fun t => F_spec_l12Heard t.1 }
noncomputable def X_spec_l12Heard : Ctx := { tys := tys, fns := [(89, K_spec_l4Among), (106, K_spec_l1In)], frz := [], lps := [(2, (⟨[(0, .keep), (3, .st (.int .i64) .z false)], []⟩, ⟨[((.exit 0), ⟨[], []⟩), (.ret, ⟨[(2, .st (.int .i64) .z false)], []⟩)]⟩)),
  (5, (⟨[(0, .keep), (3, .keep), (4, .st (.int .i64) .z false)], []⟩, ⟨[((.exit 2), ⟨[(0, .keep), (3, .keep)], []⟩), (.ret, ⟨[(2, .st (.int .i64) .z false)], []⟩)]⟩)),
  (10, (⟨[(0, .keep), (3, .keep), (5, .st (.int .i64) .z false)], []⟩, ⟨[((.exit 4), ⟨[(0, .keep), (3, .keep)], []⟩), (.ret, ⟨[(2, .st (.int .i64) .z false)], []⟩)]⟩))], jns := [], rjs := [] }

noncomputable def F_spec_l12Fault (x0 : (List Int × Int) × List Int × List (Int × Int × Int) × List (Int × Int × List ((Int × Int) × Int)) × List (Int × Int × Int × (Int × Int) × Int) × List (List Int)) : Option (Int) :=
 (F_spec_l10Fault x0.1).bind fun (y8 : Int) =>
 bif (!decide ((y8 : Int) = 0)) then
 some y8
 else
 (bif (decide ((20 : Int) < (List.length x0.2.1 : Int))) then
 some true
 else
 bif (decide ((100 : Int) < (List.length x0.2.2.2.2.1 : Int))) then
 some true
 else
 bif (decide (((List.length x0.2.2.2.2.2 : Int) : Int) < 1)) then
 some true
 else
 some (decide ((4 : Int) < (List.length x0.2.2.2.2.2 : Int))) : Option (Bool)).bind fun (j9 : Bool) =>
 bif j9 then
 some 2
 else
 (F_spec_l12Bad x0.2.1).bind fun (y10 : Int) =>
 bif (!decide ((y10 : Int) = 0)) then
 some y10
 else
 (F_spec_l9Fault x0.2.2.1).bind fun (y11 : Int) =>
 bif (!decide ((y11 : Int) = 0)) then
 some y11
 else
 (F_spec_l12Voters x0).bind fun (y12 : Int) =>
 bif (!decide ((y12 : Int) = 0)) then
 some y12
 else
 (F_spec_l12Votes x0).bind fun (y13 : Int) =>
 bif (!decide ((y13 : Int) = 0)) then
 some y13
 else
 (F_spec_l12Heard x0).bind fun (y14 : Int) =>
 some y14
noncomputable def K_spec_l12Fault : Callee := { ins := [.rp s13 false], outs := [((.int .i64), .z)], F := fun t => F_spec_l12Fault t.1 }
noncomputable def X_spec_l12Fault : Ctx := { tys := tys, fns := [(131, K_spec_l10Fault), (132, K_spec_l12Bad), (133, K_spec_l9Fault), (134, K_spec_l12Voters), (135, K_spec_l12Votes), (136, K_spec_l12Heard)], frz := [], lps := [], jns := [], rjs := [(4, ⟨[(0, .keep), (44, .st .bool .z false)], []⟩)] }

noncomputable def F_spec_l10Bad (x0 : List Int) (x1 : List Int) : Option (Int) :=
 (loopO (S := Int × Int) (X := Int) (fun (s13 : Int × Int) =>
 bif (decide ((s13.2 : Int) < (List.length x0 : Int))) then
 bif (inB s13.2 x0) then
 (F_spec_l4Among x1 (List.getD x0 (Int.toNat s13.2) 0)).bind fun (y14 : Bool) =>
 (bif y14 then
 some (IntKind.wrap .i64 (s13.1 + 1))
 else
 some s13.1 : Option (Int)).bind fun (j15 : Int) =>
 some (Sum.inl (j15, IntKind.wrap .i64 (s13.2 + 1)))
 else none
 else
 some (Sum.inr s13.1)) (0, 0)).bind fun (j16 : Int) =>
 some j16

noncomputable def F_spec_l10Safe (x0 : List Int × Int) (x1 : List Int) : Option (Bool) :=
 (F_spec_l10Bad x0.1 x1).bind fun (y2 : Int) =>
 some (decide ((y2 : Int) < IntKind.wrap .i64 ((IntKind.wrap .i64 (2 * x0.2)) - (List.length x0.1 : Int))))

noncomputable def F_spec_PremiseOf (x0 : (List Int × Int) × List Int × List (Int × Int × Int) × List (Int × Int × List ((Int × Int) × Int)) × List (Int × Int × Int × (Int × Int) × Int) × List (List Int)) : Option (Bool) :=
 ((F_spec_l12Fault x0).bind fun (y8 : Int) =>
 bif (decide ((y8 : Int) = 0)) then
 (F_spec_l10Safe x0.1 x0.2.1).bind fun (y9 : Bool) =>
 some y9
 else
 some false : Option (Bool)).bind fun (j10 : Bool) =>
 some j10

noncomputable def F_laws_toInt64S (x0 : List Int) : Option (List Int) :=
 bif (decide (0 ≤ (List.length x0 : Int)) && decide ((List.length x0 : Int) ≤ (LIM : Int))) then
 (loopO (S := List Int × Int) (X := List Int) (fun (s3 : List Int × Int) =>
 bif (decide ((s3.2 : Int) < (List.length x0 : Int))) then
 bif (inB s3.2 x0) then
 bif (inB s3.2 s3.1) then
 some (Sum.inl (List.set s3.1 (Int.toNat s3.2) (List.getD x0 (Int.toNat s3.2) 0), IntKind.wrap .i64 (s3.2 + 1)))
 else none
 else none
 else
 some (Sum.inr s3.1)) (List.replicate (Int.toNat (List.length x0 : Int)) 0, 0)).bind fun (j4 : List Int) =>
 some j4
 else none
noncomputable def K_laws_toInt64S : Callee := { ins := [.v (.list (.int .i64)) .z], outs := [((.list (.int .i64)), (.o .z))], F := fun t => F_laws_toInt64S t.1 }
noncomputable def X_laws_toInt64S : Ctx := { tys := tys, fns := [], frz := [], lps := [(3, (⟨[(0, .keep), (3, .st (.list (.int .i64)) (.o .z) false), (4, .st (.int .i64) .z false)], []⟩, ⟨[((.exit 0), ⟨[(3, .st (.list (.int .i64)) (.o .z) false)], []⟩)]⟩))], jns := [], rjs := [] }

noncomputable def F_laws_toQuorum (x0 : List Int × Int) : Option (List Int × Int) :=
 (F_laws_toInt64S x0.1).bind fun (y2 : List Int) =>
 some (y2, x0.2)
noncomputable def K_laws_toQuorum : Callee := { ins := [.v s0 .z], outs := [(s0, (.p (.o .z) .z))], F := fun t => F_laws_toQuorum t.1 }
noncomputable def X_laws_toQuorum : Ctx := { tys := tys, fns := [(68, K_laws_toInt64S)], frz := [], lps := [], jns := [], rjs := [] }

noncomputable def F_laws_toNode (x0 : Int × Int × Int) : Option (Int × Int × Int) :=
 some (x0.1, (x0.2.1, x0.2.2))
noncomputable def K_laws_toNode : Callee := { ins := [.v s2 .z], outs := [(s2, .z)], F := fun t => F_laws_toNode t.1 }
noncomputable def X_laws_toNode : Ctx := { tys := tys, fns := [], frz := [], lps := [], jns := [], rjs := [] }

noncomputable def F_laws_toNodeS (x0 : List (Int × Int × Int)) : Option (List (Int × Int × Int)) :=
 bif (decide (0 ≤ (List.length x0 : Int)) && decide ((List.length x0 : Int) ≤ (LIM : Int))) then
 (loopO (S := List (Int × Int × Int) × Int) (X := List (Int × Int × Int)) (fun (s8 : List (Int × Int × Int) × Int) =>
 bif (decide ((s8.2 : Int) < (List.length x0 : Int))) then
 bif (inB s8.2 x0) then
 (F_laws_toNode (List.getD x0 (Int.toNat s8.2) (0, (0, 0)))).bind fun (y9 : Int × Int × Int) =>
 bif (inB s8.2 s8.1) then
 some (Sum.inl (List.set s8.1 (Int.toNat s8.2) y9, IntKind.wrap .i64 (s8.2 + 1)))
 else none
 else none
 else
 some (Sum.inr s8.1)) (List.replicate (Int.toNat (List.length x0 : Int)) (0, (0, 0)), 0)).bind fun (j10 : List (Int × Int × Int)) =>
 some j10
 else none
noncomputable def K_laws_toNodeS : Callee := { ins := [.v (.list s2) .z], outs := [((.list s2), (.o .z))], F := fun t => F_laws_toNodeS t.1 }
noncomputable def X_laws_toNodeS : Ctx := { tys := tys, fns := [(49, K_laws_toNode)], frz := [], lps := [(3, (⟨[(0, .keep), (3, .st (.list s2) (.o .z) false), (4, .st (.int .i64) .z false)], []⟩, ⟨[((.exit 0), ⟨[(3, .st (.list s2) (.o .z) false)], []⟩)]⟩))], jns := [], rjs := [] }

noncomputable def F_laws_toRef (x0 : Int × Int) : Option (Int × Int) :=
 some (x0.1, x0.2)
noncomputable def K_laws_toRef : Callee := { ins := [.v s1 .z], outs := [(s1, .z)], F := fun t => F_laws_toRef t.1 }
noncomputable def X_laws_toRef : Ctx := { tys := tys, fns := [], frz := [], lps := [], jns := [], rjs := [] }

noncomputable def F_laws_toChoice (x0 : (Int × Int) × Int) : Option ((Int × Int) × Int) :=
 (F_laws_toRef x0.1).bind fun (y2 : Int × Int) =>
 some (y2, x0.2)
noncomputable def K_laws_toChoice : Callee := { ins := [.v s3 .z], outs := [(s3, .z)], F := fun t => F_laws_toChoice t.1 }
noncomputable def X_laws_toChoice : Ctx := { tys := tys, fns := [(57, K_laws_toRef)], frz := [], lps := [], jns := [], rjs := [] }

noncomputable def F_laws_toChoiceS (x0 : List ((Int × Int) × Int)) : Option (List ((Int × Int) × Int)) :=
 bif (decide (0 ≤ (List.length x0 : Int)) && decide ((List.length x0 : Int) ≤ (LIM : Int))) then
 (loopO (S := List ((Int × Int) × Int) × Int) (X := List ((Int × Int) × Int)) (fun (s8 : List ((Int × Int) × Int) × Int) =>
 bif (decide ((s8.2 : Int) < (List.length x0 : Int))) then
 bif (inB s8.2 x0) then
 (F_laws_toChoice (List.getD x0 (Int.toNat s8.2) ((0, 0), 0))).bind fun (y9 : (Int × Int) × Int) =>
 bif (inB s8.2 s8.1) then
 some (Sum.inl (List.set s8.1 (Int.toNat s8.2) y9, IntKind.wrap .i64 (s8.2 + 1)))
 else none
 else none
 else
 some (Sum.inr s8.1)) (List.replicate (Int.toNat (List.length x0 : Int)) ((0, 0), 0), 0)).bind fun (j10 : List ((Int × Int) × Int)) =>
 some j10
 else none
noncomputable def K_laws_toChoiceS : Callee := { ins := [.v (.list s3) .z], outs := [((.list s3), (.o .z))], F := fun t => F_laws_toChoiceS t.1 }
noncomputable def X_laws_toChoiceS : Ctx := { tys := tys, fns := [(211, K_laws_toChoice)], frz := [], lps := [(3, (⟨[(0, .keep), (3, .st (.list s3) (.o .z) false), (4, .st (.int .i64) .z false)], []⟩, ⟨[((.exit 0), ⟨[(3, .st (.list s3) (.o .z) false)], []⟩)]⟩))], jns := [], rjs := [] }

noncomputable def F_laws_toVoter (x0 : Int × Int × List ((Int × Int) × Int)) : Option (Int × Int × List ((Int × Int) × Int)) :=
 (F_laws_toChoiceS x0.2.2).bind fun (y2 : List ((Int × Int) × Int)) =>
 some (x0.1, (x0.2.1, y2))
noncomputable def K_laws_toVoter : Callee := { ins := [.v s5 .z], outs := [(s5, (.p .z (.p .z (.o .z))))], F := fun t => F_laws_toVoter t.1 }
noncomputable def X_laws_toVoter : Ctx := { tys := tys, fns := [(190, K_laws_toChoiceS)], frz := [], lps := [], jns := [], rjs := [] }

noncomputable def F_laws_toVoterS (x0 : List (Int × Int × List ((Int × Int) × Int))) : Option (List (Int × Int × List ((Int × Int) × Int))) :=
 bif (decide (0 ≤ (List.length x0 : Int)) && decide ((List.length x0 : Int) ≤ (LIM : Int))) then
 (loopO (S := List (Int × Int × List ((Int × Int) × Int)) × Int) (X := List (Int × Int × List ((Int × Int) × Int))) (fun (s8 : List (Int × Int × List ((Int × Int) × Int)) × Int) =>
 bif (decide ((s8.2 : Int) < (List.length x0 : Int))) then
 bif (inB s8.2 x0) then
 (F_laws_toVoter (List.getD x0 (Int.toNat s8.2) (0, (0, [])))).bind fun (y9 : Int × Int × List ((Int × Int) × Int)) =>
 bif (inB s8.2 s8.1) then
 some (Sum.inl (List.set s8.1 (Int.toNat s8.2) y9, IntKind.wrap .i64 (s8.2 + 1)))
 else none
 else none
 else
 some (Sum.inr s8.1)) (List.replicate (Int.toNat (List.length x0 : Int)) (0, (0, [])), 0)).bind fun (j10 : List (Int × Int × List ((Int × Int) × Int))) =>
 some j10
 else none
noncomputable def K_laws_toVoterS : Callee := { ins := [.v (.list s5) .z], outs := [((.list s5), (.o (.p .z (.p .z (.o .z)))))], F := fun t => F_laws_toVoterS t.1 }
noncomputable def X_laws_toVoterS : Ctx := { tys := tys, fns := [(138, K_laws_toVoter)], frz := [], lps := [(3, (⟨[(0, .keep), (3, .st (.list s5) (.o (.p .z (.p .z (.o .z)))) false), (4, .st (.int .i64) .z false)], []⟩, ⟨[((.exit 0), ⟨[(3, .st (.list s5) (.o (.p .z (.p .z (.o .z)))) false)], []⟩)]⟩))], jns := [], rjs := [] }

noncomputable def F_laws_toVote (x0 : Int × Int × Int × (Int × Int) × Int) : Option (Int × Int × Int × (Int × Int) × Int) :=
 (F_laws_toRef x0.2.2.2.1).bind fun (y2 : Int × Int) =>
 some (x0.1, (x0.2.1, (x0.2.2.1, (y2, x0.2.2.2.2))))
noncomputable def K_laws_toVote : Callee := { ins := [.v s8 .z], outs := [(s8, .z)], F := fun t => F_laws_toVote t.1 }
noncomputable def X_laws_toVote : Ctx := { tys := tys, fns := [(57, K_laws_toRef)], frz := [], lps := [], jns := [], rjs := [] }

noncomputable def F_laws_toVoteS (x0 : List (Int × Int × Int × (Int × Int) × Int)) : Option (List (Int × Int × Int × (Int × Int) × Int)) :=
 bif (decide (0 ≤ (List.length x0 : Int)) && decide ((List.length x0 : Int) ≤ (LIM : Int))) then
 (loopO (S := List (Int × Int × Int × (Int × Int) × Int) × Int) (X := List (Int × Int × Int × (Int × Int) × Int)) (fun (s8 : List (Int × Int × Int × (Int × Int) × Int) × Int) =>
 bif (decide ((s8.2 : Int) < (List.length x0 : Int))) then
 bif (inB s8.2 x0) then
 (F_laws_toVote (List.getD x0 (Int.toNat s8.2) (0, (0, (0, ((0, 0), 0)))))).bind fun (y9 : Int × Int × Int × (Int × Int) × Int) =>
 bif (inB s8.2 s8.1) then
 some (Sum.inl (List.set s8.1 (Int.toNat s8.2) y9, IntKind.wrap .i64 (s8.2 + 1)))
 else none
 else none
 else
 some (Sum.inr s8.1)) (List.replicate (Int.toNat (List.length x0 : Int)) (0, (0, (0, ((0, 0), 0)))), 0)).bind fun (j10 : List (Int × Int × Int × (Int × Int) × Int)) =>
 some j10
 else none
noncomputable def K_laws_toVoteS : Callee := { ins := [.v (.list s8) .z], outs := [((.list s8), (.o .z))], F := fun t => F_laws_toVoteS t.1 }
noncomputable def X_laws_toVoteS : Ctx := { tys := tys, fns := [(52, K_laws_toVote)], frz := [], lps := [(3, (⟨[(0, .keep), (3, .st (.list s8) (.o .z) false), (4, .st (.int .i64) .z false)], []⟩, ⟨[((.exit 0), ⟨[(3, .st (.list s8) (.o .z) false)], []⟩)]⟩))], jns := [], rjs := [] }

noncomputable def F_laws_toInt64SS (x0 : List (List Int)) : Option (List (List Int)) :=
 bif (decide (0 ≤ (List.length x0 : Int)) && decide ((List.length x0 : Int) ≤ (LIM : Int))) then
 (loopO (S := List (List Int) × Int) (X := List (List Int)) (fun (s8 : List (List Int) × Int) =>
 bif (decide ((s8.2 : Int) < (List.length x0 : Int))) then
 bif (inB s8.2 x0) then
 (F_laws_toInt64S (List.getD x0 (Int.toNat s8.2) [])).bind fun (y9 : List Int) =>
 bif (inB s8.2 s8.1) then
 some (Sum.inl (List.set s8.1 (Int.toNat s8.2) y9, IntKind.wrap .i64 (s8.2 + 1)))
 else none
 else none
 else
 some (Sum.inr s8.1)) (List.replicate (Int.toNat (List.length x0 : Int)) [], 0)).bind fun (j10 : List (List Int)) =>
 some j10
 else none
noncomputable def K_laws_toInt64SS : Callee := { ins := [.v (.list (.list (.int .i64))) .z], outs := [((.list (.list (.int .i64))), (.o (.o .z)))], F := fun t => F_laws_toInt64SS t.1 }
noncomputable def X_laws_toInt64SS : Ctx := { tys := tys, fns := [(68, K_laws_toInt64S)], frz := [], lps := [(3, (⟨[(0, .keep), (3, .st (.list (.list (.int .i64))) (.o (.o .z)) false), (4, .st (.int .i64) .z false)], []⟩, ⟨[((.exit 0), ⟨[(3, .st (.list (.list (.int .i64))) (.o (.o .z)) false)], []⟩)]⟩))], jns := [], rjs := [] }

noncomputable def F_laws_toCluster (x0 : (List Int × Int) × List Int × List (Int × Int × Int) × List (Int × Int × List ((Int × Int) × Int)) × List (Int × Int × Int × (Int × Int) × Int) × List (List Int)) : Option ((List Int × Int) × List Int × List (Int × Int × Int) × List (Int × Int × List ((Int × Int) × Int)) × List (Int × Int × Int × (Int × Int) × Int) × List (List Int)) :=
 (F_laws_toQuorum x0.1).bind fun (y7 : List Int × Int) =>
 (F_laws_toInt64S x0.2.1).bind fun (y8 : List Int) =>
 (F_laws_toNodeS x0.2.2.1).bind fun (y9 : List (Int × Int × Int)) =>
 (F_laws_toVoterS x0.2.2.2.1).bind fun (y10 : List (Int × Int × List ((Int × Int) × Int))) =>
 (F_laws_toVoteS x0.2.2.2.2.1).bind fun (y11 : List (Int × Int × Int × (Int × Int) × Int)) =>
 (F_laws_toInt64SS x0.2.2.2.2.2).bind fun (y12 : List (List Int)) =>
 some (y7, (y8, (y9, (y10, (y11, y12)))))
noncomputable def K_laws_toCluster : Callee := { ins := [.v s13 .z], outs := [(s13, (.p (.p (.o .z) .z) (.p (.o .z) (.p (.o .z) (.p (.o (.p .z (.p .z (.o .z)))) (.p (.o .z) (.o (.o .z))))))))], F := fun t => F_laws_toCluster t.1 }
noncomputable def X_laws_toCluster : Ctx := { tys := tys, fns := [(67, K_laws_toQuorum), (68, K_laws_toInt64S), (69, K_laws_toNodeS), (70, K_laws_toVoterS), (71, K_laws_toVoteS), (72, K_laws_toInt64SS)], frz := [], lps := [], jns := [], rjs := [] }

noncomputable def F_impl_within (x0 : Int) (x1 : Int) (x2 : Int) : Option (Bool) :=
 (bif (decide ((x1 : Int) ≤ x0)) then
 some (decide ((x0 : Int) ≤ x2))
 else
 some false : Option (Bool)).bind fun (j2 : Bool) =>
 some j2
noncomputable def K_impl_within : Callee := { ins := [.v (.int .i64) .z, .v (.int .i64) .z, .v (.int .i64) .z], outs := [(.bool, .z)], F := fun t => F_impl_within t.1 t.2.1 t.2.2.1 }
noncomputable def X_impl_within : Ctx := { tys := tys, fns := [], frz := [], lps := [], jns := [], rjs := [(1, ⟨[(6, .st .bool .z false)], []⟩)] }

noncomputable def F_slices_IndexFunc_Lint64_int64 (x0 : List Int) (x1 : Int → Option Bool) : Option (Int) :=
 (loopO (S := Int) (X := (Unit) ⊕ (Int)) (fun (s10 : Int) =>
 bif (decide ((s10 : Int) < (List.length x0 : Int))) then
 bif (inB s10 x0) then
 (x1 (List.getD x0 (Int.toNat s10) 0)).bind fun (y11 : Bool) =>
 bif y11 then
 some (Sum.inr (Sum.inr s10))
 else
 some (Sum.inl (IntKind.wrap .i64 (s10 + 1)))
 else none
 else
 some (Sum.inr (Sum.inl ()))) 0).bind fun (j12 : (Unit) ⊕ (Int)) =>
 Sum.elim (fun (j13 : Unit) =>
 some (-1)) (fun (j14 : Int) =>
 some j14) j12
noncomputable def K_slices_IndexFunc_Lint64_int64 : Callee := { ins := [.v (.list (.int .i64)) .z, .v (.fn1 (.int .i64) .bool .z) .z], outs := [((.int .i64), .z)], F := fun t => F_slices_IndexFunc_Lint64_int64 t.1 t.2.1 }
noncomputable def X_slices_IndexFunc_Lint64_int64 : Ctx := { tys := tys, fns := [], frz := [], lps := [(2, (⟨[(0, .keep), (1, .keep), (7, .keep), (8, .st (.int .i64) .z false)], []⟩, ⟨[((.exit 0), ⟨[], []⟩), (.ret, ⟨[(4, .st (.int .i64) .z false)], []⟩)]⟩))], jns := [], rjs := [] }

noncomputable def F_slices_ContainsFunc_Lint64_int64 (x0 : List Int) (x1 : Int → Option Bool) : Option (Bool) :=
 (F_slices_IndexFunc_Lint64_int64 x0 x1).bind fun (y2 : Int) =>
 some (decide ((0 : Int) ≤ y2))
noncomputable def K_slices_ContainsFunc_Lint64_int64 : Callee := { ins := [.v (.list (.int .i64)) .z, .v (.fn1 (.int .i64) .bool .z) .z], outs := [(.bool, .z)], F := fun t => F_slices_ContainsFunc_Lint64_int64 t.1 t.2.1 }
noncomputable def X_slices_ContainsFunc_Lint64_int64 : Ctx := { tys := tys, fns := [(150, K_slices_IndexFunc_Lint64_int64)], frz := [], lps := [], jns := [], rjs := [] }

noncomputable def F_impl_isKey (x0 : Int) : Option (Bool) :=
 (F_impl_within x0 1 999).bind fun (y2 : Bool) =>
 some y2
noncomputable def K_impl_isKey : Callee := { ins := [.v (.int .i64) .z], outs := [(.bool, .z)], F := fun t => F_impl_isKey t.1 }
noncomputable def X_impl_isKey : Ctx := { tys := tys, fns := [(112, K_impl_within)], frz := [], lps := [], jns := [], rjs := [] }

noncomputable def F_impl_areKeys_c1 (x0 : Int) : Option (Bool) :=
 (F_impl_isKey x0).bind fun (y2 : Bool) =>
 some (!y2)
noncomputable def K_impl_areKeys_c1 : Callee := { ins := [.v (.int .i64) .z], outs := [(.bool, .z)], F := fun t => F_impl_areKeys_c1 t.1 }
noncomputable def X_impl_areKeys_c1 : Ctx := { tys := tys, fns := [(181, K_impl_isKey)], frz := [], lps := [], jns := [], rjs := [] }

noncomputable def F_impl_areKeys (x0 : List Int) : Option (Bool) :=
 (F_slices_ContainsFunc_Lint64_int64 x0 (fun (a4 : Int) => (F_impl_areKeys_c1 a4).bind fun r5 => some r5)).bind fun (y6 : Bool) =>
 some (!y6)
noncomputable def K_impl_areKeys : Callee := { ins := [.v (.list (.int .i64)) .z], outs := [(.bool, .z)], F := fun t => F_impl_areKeys t.1 }
noncomputable def X_impl_areKeys : Ctx := { tys := tys, fns := [(83, K_slices_ContainsFunc_Lint64_int64), (212, K_impl_areKeys_c1)], frz := [], lps := [], jns := [], rjs := [] }

noncomputable def F_impl_isRising (x0 : List Int) : Option (Bool) :=
 (loopO (S := Int) (X := (Unit) ⊕ (Bool)) (fun (s5 : Int) =>
 bif (decide ((s5 : Int) < (List.length x0 : Int))) then
 bif (inB s5 x0) then
 bif (inB (IntKind.wrap .i64 (s5 - 1)) x0) then
 bif (decide ((List.getD x0 (Int.toNat s5) 0 : Int) ≤ List.getD x0 (Int.toNat (IntKind.wrap .i64 (s5 - 1))) 0)) then
 some (Sum.inr (Sum.inr false))
 else
 some (Sum.inl (IntKind.wrap .i64 (s5 + 1)))
 else none
 else none
 else
 some (Sum.inr (Sum.inl ()))) 1).bind fun (j6 : (Unit) ⊕ (Bool)) =>
 Sum.elim (fun (j7 : Unit) =>
 some true) (fun (j8 : Bool) =>
 some j8) j6
noncomputable def K_impl_isRising : Callee := { ins := [.v (.list (.int .i64)) .z], outs := [(.bool, .z)], F := fun t => F_impl_isRising t.1 }
noncomputable def X_impl_isRising : Ctx := { tys := tys, fns := [], frz := [], lps := [(2, (⟨[(0, .keep), (3, .st (.int .i64) .z false)], []⟩, ⟨[((.exit 0), ⟨[], []⟩), (.ret, ⟨[(2, .st .bool .z false)], []⟩)]⟩))], jns := [], rjs := [] }

noncomputable def F_impl_QuorumFault (x0 : List Int × Int) : Option (Int) :=
 (F_impl_within (List.length x0.1 : Int) 1 8).bind fun (y8 : Bool) =>
 bif (!y8) then
 some 2
 else
 ((F_impl_areKeys x0.1).bind fun (y11 : Bool) =>
 bif (!y11) then
 some true
 else
 (F_impl_within x0.2 1 (List.length x0.1 : Int)).bind fun (y12 : Bool) =>
 some (!y12) : Option (Bool)).bind fun (j13 : Bool) =>
 bif j13 then
 some 3
 else
 (F_impl_isRising x0.1).bind fun (y14 : Bool) =>
 bif (!y14) then
 some 1
 else
 some 0
noncomputable def K_impl_QuorumFault : Callee := { ins := [.v s0 .z], outs := [((.int .i64), .z)], F := fun t => F_impl_QuorumFault t.1 }
noncomputable def X_impl_QuorumFault : Ctx := { tys := tys, fns := [(112, K_impl_within), (191, K_impl_areKeys), (192, K_impl_isRising)], frz := [], lps := [], jns := [], rjs := [(4, ⟨[(1, .keep), (11, .st .bool .z false)], [(1, .keep)]⟩)] }

noncomputable def F_impl_badFault (x0 : List Int) : Option (Int) :=
 (F_impl_areKeys x0).bind fun (y3 : Bool) =>
 bif (!y3) then
 some 3
 else
 (F_impl_isRising x0).bind fun (y4 : Bool) =>
 bif (!y4) then
 some 1
 else
 some 0
noncomputable def K_impl_badFault : Callee := { ins := [.v (.list (.int .i64)) .z], outs := [((.int .i64), .z)], F := fun t => F_impl_badFault t.1 }
noncomputable def X_impl_badFault : Ctx := { tys := tys, fns := [(191, K_impl_areKeys), (192, K_impl_isRising)], frz := [], lps := [], jns := [], rjs := [] }

noncomputable def F_impl_isId (x0 : Int) : Option (Bool) :=
 (F_impl_within x0 1 60).bind fun (y2 : Bool) =>
 some y2
noncomputable def K_impl_isId : Callee := { ins := [.v (.int .i64) .z], outs := [(.bool, .z)], F := fun t => F_impl_isId t.1 }
noncomputable def X_impl_isId : Ctx := { tys := tys, fns := [(112, K_impl_within)], frz := [], lps := [], jns := [], rjs := [] }

noncomputable def F_slices_IndexFunc_Limpl_Node_impl_Node (x0 : List (Int × Int × Int)) (x1 : (Int × Int × Int) → Option Bool) : Option (Int) :=
 (loopO (S := Int) (X := (Unit) ⊕ (Int)) (fun (s10 : Int) =>
 bif (decide ((s10 : Int) < (List.length x0 : Int))) then
 bif (inB s10 x0) then
 (x1 (List.getD x0 (Int.toNat s10) (0, (0, 0)))).bind fun (y11 : Bool) =>
 bif y11 then
 some (Sum.inr (Sum.inr s10))
 else
 some (Sum.inl (IntKind.wrap .i64 (s10 + 1)))
 else none
 else
 some (Sum.inr (Sum.inl ()))) 0).bind fun (j12 : (Unit) ⊕ (Int)) =>
 Sum.elim (fun (j13 : Unit) =>
 some (-1)) (fun (j14 : Int) =>
 some j14) j12
noncomputable def K_slices_IndexFunc_Limpl_Node_impl_Node : Callee := { ins := [.v (.list s2) .z, .v (.fn1 s2 .bool .z) .z], outs := [((.int .i64), .z)], F := fun t => F_slices_IndexFunc_Limpl_Node_impl_Node t.1 t.2.1 }
noncomputable def X_slices_IndexFunc_Limpl_Node_impl_Node : Ctx := { tys := tys, fns := [], frz := [], lps := [(2, (⟨[(0, .keep), (1, .keep), (7, .keep), (8, .st (.int .i64) .z false)], []⟩, ⟨[((.exit 0), ⟨[], []⟩), (.ret, ⟨[(4, .st (.int .i64) .z false)], []⟩)]⟩))], jns := [], rjs := [] }

noncomputable def F_impl_findNode_c1 (x0 : Int × Int × Int) (x1 : Int) : Option (Bool) :=
 some (decide ((x0.1 : Int) = x1))
noncomputable def K_impl_findNode_c1 : Callee := { ins := [.v s2 .z, .rp (.int .i64) false], outs := [(.bool, .z)], F := fun t => F_impl_findNode_c1 t.1 t.2.1 }
noncomputable def X_impl_findNode_c1 : Ctx := { tys := tys, fns := [], frz := [], lps := [], jns := [], rjs := [] }

noncomputable def F_impl_findNode (x0 : List (Int × Int × Int)) (x1 : Int) : Option (Int) :=
 (F_slices_IndexFunc_Limpl_Node_impl_Node x0 (fun (a4 : Int × Int × Int) => (F_impl_findNode_c1 a4 x1).bind fun r5 => some r5)).bind fun (y6 : Int) =>
 some y6
noncomputable def K_impl_findNode : Callee := { ins := [.v (.list s2) .z, .v (.int .i64) .z], outs := [((.int .i64), .z)], F := fun t => F_impl_findNode t.1 t.2.1 }
noncomputable def X_impl_findNode : Ctx := { tys := tys, fns := [(217, K_slices_IndexFunc_Limpl_Node_impl_Node), (218, K_impl_findNode_c1)], frz := [], lps := [], jns := [], rjs := [] }

noncomputable def F_impl_nodeFault (x0 : List (Int × Int × Int)) (x1 : Int × Int × Int) : Option (Int) :=
 (F_impl_findNode x0 x1.2.1).bind fun (y11 : Int) =>
 (bif (!decide ((x1.2.1 : Int) = 0)) then
 some (decide ((0 : Int) ≤ y11))
 else
 some false : Option (Bool)).bind fun (j12 : Bool) =>
 (bif j12 then
 bif (inB y11 x0) then
 some (IntKind.wrap .i64 ((List.getD x0 (Int.toNat y11) (0, (0, 0))).2.2 + 1))
 else none
 else
 some 1 : Option (Int)).bind fun (j13 : Int) =>
 ((F_impl_isId x1.1).bind fun (y16 : Bool) =>
 bif (!y16) then
 some true
 else
 (F_impl_within x1.2.2 1 40).bind fun (y17 : Bool) =>
 some (!y17) : Option (Bool)).bind fun (j18 : Bool) =>
 bif j18 then
 some 3
 else
 (F_impl_findNode x0 x1.1).bind fun (y19 : Int) =>
 bif (decide ((0 : Int) ≤ y19)) then
 some 7
 else
 (bif (!decide ((x1.2.1 : Int) = 0)) then
 some (decide ((y11 : Int) < 0))
 else
 some false : Option (Bool)).bind fun (j20 : Bool) =>
 bif j20 then
 some 4
 else
 bif (!decide ((x1.2.2 : Int) = j13)) then
 some 1
 else
 some 0
noncomputable def K_impl_nodeFault : Callee := { ins := [.v (.list s2) .z, .v s2 .z], outs := [((.int .i64), .z)], F := fun t => F_impl_nodeFault t.1 t.2.1 }
noncomputable def X_impl_nodeFault : Ctx := { tys := tys, fns := [(112, K_impl_within), (179, K_impl_isId), (202, K_impl_findNode)], frz := [], lps := [], jns := [(4, ⟨[(.normal, ⟨[(0, .keep), (3, .keep), (5, .st (.int .i64) .z false), (6, .keep)], [(3, .keep)]⟩)]⟩)], rjs := [(3, ⟨[(0, .keep), (3, .keep), (5, .keep), (6, .keep), (17, .st .bool .z false)], [(3, .keep)]⟩),
  (5, ⟨[(0, .keep), (3, .keep), (5, .keep), (6, .keep), (24, .st .bool .z false)], [(3, .keep)]⟩),
  (9, ⟨[(3, .keep), (5, .keep), (41, .st .bool .z false)], [(3, .keep)]⟩)] }

noncomputable def F_impl_TreeFault (x0 : List (Int × Int × Int)) : Option (Int) :=
 bif (decide ((60 : Int) < (List.length x0 : Int))) then
 some 2
 else
 (loopO (S := Int) (X := (Unit) ⊕ (Int)) (fun (s10 : Int) =>
 bif (decide ((s10 : Int) < (List.length x0 : Int))) then
 bif (inB s10 x0) then
 bif (cutOk 0 s10 x0) then
 (F_impl_nodeFault (cut 0 s10 x0) (List.getD x0 (Int.toNat s10) (0, (0, 0)))).bind fun (y11 : Int) =>
 bif (!decide ((y11 : Int) = 0)) then
 some (Sum.inr (Sum.inr y11))
 else
 some (Sum.inl (IntKind.wrap .i64 (s10 + 1)))
 else none
 else none
 else
 some (Sum.inr (Sum.inl ()))) 0).bind fun (j12 : (Unit) ⊕ (Int)) =>
 Sum.elim (fun (j13 : Unit) =>
 some 0) (fun (j14 : Int) =>
 some j14) j12
noncomputable def K_impl_TreeFault : Callee := { ins := [.v (.list s2) .z], outs := [((.int .i64), .z)], F := fun t => F_impl_TreeFault t.1 }
noncomputable def X_impl_TreeFault : Ctx := { tys := tys, fns := [(174, K_impl_nodeFault)], frz := [], lps := [(4, (⟨[(0, .keep), (9, .keep), (10, .keep), (11, .st (.int .i64) .z false)], []⟩, ⟨[((.exit 0), ⟨[], []⟩), (.ret, ⟨[(2, .st (.int .i64) .z false)], []⟩)]⟩))], jns := [], rjs := [] }

noncomputable def F_slices_IndexFunc_Limpl_Choice_impl_Choice (x0 : List ((Int × Int) × Int)) (x1 : ((Int × Int) × Int) → Option Bool) : Option (Int) :=
 (loopO (S := Int) (X := (Unit) ⊕ (Int)) (fun (s10 : Int) =>
 bif (decide ((s10 : Int) < (List.length x0 : Int))) then
 bif (inB s10 x0) then
 (x1 (List.getD x0 (Int.toNat s10) ((0, 0), 0))).bind fun (y11 : Bool) =>
 bif y11 then
 some (Sum.inr (Sum.inr s10))
 else
 some (Sum.inl (IntKind.wrap .i64 (s10 + 1)))
 else none
 else
 some (Sum.inr (Sum.inl ()))) 0).bind fun (j12 : (Unit) ⊕ (Int)) =>
 Sum.elim (fun (j13 : Unit) =>
 some (-1)) (fun (j14 : Int) =>
 some j14) j12
noncomputable def K_slices_IndexFunc_Limpl_Choice_impl_Choice : Callee := { ins := [.v (.list s3) .z, .v (.fn1 s3 .bool .z) .z], outs := [((.int .i64), .z)], F := fun t => F_slices_IndexFunc_Limpl_Choice_impl_Choice t.1 t.2.1 }
noncomputable def X_slices_IndexFunc_Limpl_Choice_impl_Choice : Ctx := { tys := tys, fns := [], frz := [], lps := [(2, (⟨[(0, .keep), (1, .keep), (7, .keep), (8, .st (.int .i64) .z false)], []⟩, ⟨[((.exit 0), ⟨[], []⟩), (.ret, ⟨[(4, .st (.int .i64) .z false)], []⟩)]⟩))], jns := [], rjs := [] }

noncomputable def F_slices_ContainsFunc_Limpl_Choice_impl_Choice (x0 : List ((Int × Int) × Int)) (x1 : ((Int × Int) × Int) → Option Bool) : Option (Bool) :=
 (F_slices_IndexFunc_Limpl_Choice_impl_Choice x0 x1).bind fun (y2 : Int) =>
 some (decide ((0 : Int) ≤ y2))
noncomputable def K_slices_ContainsFunc_Limpl_Choice_impl_Choice : Callee := { ins := [.v (.list s3) .z, .v (.fn1 s3 .bool .z) .z], outs := [(.bool, .z)], F := fun t => F_slices_ContainsFunc_Limpl_Choice_impl_Choice t.1 t.2.1 }
noncomputable def X_slices_ContainsFunc_Limpl_Choice_impl_Choice : Ctx := { tys := tys, fns := [(153, K_slices_IndexFunc_Limpl_Choice_impl_Choice)], frz := [], lps := [], jns := [], rjs := [] }

noncomputable def F_impl_isRef (x0 : Int × Int) : Option (Bool) :=
 ((F_impl_isId x0.1).bind fun (y8 : Bool) =>
 bif y8 then
 (F_impl_within x0.2 0 3).bind fun (y9 : Bool) =>
 some y9
 else
 some false : Option (Bool)).bind fun (j10 : Bool) =>
 some j10
noncomputable def K_impl_isRef : Callee := { ins := [.v s1 .z], outs := [(.bool, .z)], F := fun t => F_impl_isRef t.1 }
noncomputable def X_impl_isRef : Ctx := { tys := tys, fns := [(112, K_impl_within), (179, K_impl_isId)], frz := [], lps := [], jns := [], rjs := [(1, ⟨[(2, .st .bool .z false)], []⟩)] }

noncomputable def F_impl_VoterFault_c1 (x0 : (Int × Int) × Int) (x1 : (Int × Int) × Int) : Option (Bool) :=
 some (Sh.beq (.prod (.int .i64) (.int .i64)) x0.1 x1.1)
noncomputable def K_impl_VoterFault_c1 : Callee := { ins := [.v s3 .z, .rp s3 false], outs := [(.bool, .z)], F := fun t => F_impl_VoterFault_c1 t.1 t.2.1 }
noncomputable def X_impl_VoterFault_c1 : Ctx := { tys := tys, fns := [], frz := [], lps := [], jns := [], rjs := [] }

noncomputable def F_impl_VoterFault (x0 : Int × Int × List ((Int × Int) × Int)) : Option (Int) :=
 ((F_impl_isKey x0.1).bind fun (y36 : Bool) =>
 bif (!y36) then
 some true
 else
 (F_impl_within x0.2.1 0 60).bind fun (y37 : Bool) =>
 some (!y37) : Option (Bool)).bind fun (j38 : Bool) =>
 bif j38 then
 some 3
 else
 bif (decide ((40 : Int) < (List.length x0.2.2 : Int))) then
 some 2
 else
 (loopO (S := Int) (X := (Unit) ⊕ (Int)) (fun (s55 : Int) =>
 bif (decide ((s55 : Int) < (List.length x0.2.2 : Int))) then
 bif (inB s55 x0.2.2) then
 ((F_impl_isRef (List.getD x0.2.2 (Int.toNat s55) ((0, 0), 0)).1).bind fun (y58 : Bool) =>
 bif (!y58) then
 some true
 else
 (F_impl_isId (List.getD x0.2.2 (Int.toNat s55) ((0, 0), 0)).2).bind fun (y59 : Bool) =>
 some (!y59) : Option (Bool)).bind fun (j60 : Bool) =>
 bif j60 then
 some (Sum.inr (Sum.inr 3))
 else
 bif (cutOk 0 s55 x0.2.2) then
 (F_slices_ContainsFunc_Limpl_Choice_impl_Choice (cut 0 s55 x0.2.2) (fun (a61 : (Int × Int) × Int) => (F_impl_VoterFault_c1 a61 (List.getD x0.2.2 (Int.toNat s55) ((0, 0), 0))).bind fun r62 => some r62)).bind fun (y63 : Bool) =>
 bif y63 then
 some (Sum.inr (Sum.inr 7))
 else
 some (Sum.inl (IntKind.wrap .i64 (s55 + 1)))
 else none
 else none
 else
 some (Sum.inr (Sum.inl ()))) 0).bind fun (j64 : (Unit) ⊕ (Int)) =>
 Sum.elim (fun (j65 : Unit) =>
 some 0) (fun (j66 : Int) =>
 some j66) j64
noncomputable def K_impl_VoterFault : Callee := { ins := [.v s5 .z], outs := [((.int .i64), .z)], F := fun t => F_impl_VoterFault t.1 }
noncomputable def X_impl_VoterFault : Ctx := { tys := tys, fns := [(87, K_slices_ContainsFunc_Limpl_Choice_impl_Choice), (112, K_impl_within), (179, K_impl_isId), (180, K_impl_isRef), (181, K_impl_isKey), (209, K_impl_VoterFault_c1)], frz := [], lps := [(6, (⟨[(1, .keep), (22, .keep), (23, .keep), (24, .st (.int .i64) .z false)], [(1, .keep)]⟩, ⟨[((.exit 1), ⟨[], []⟩), (.ret, ⟨[(2, .st (.int .i64) .z false)], []⟩)]⟩))], jns := [], rjs := [(1, ⟨[(1, .keep), (5, .st .bool .z false)], [(1, .keep)]⟩),
  (8, ⟨[(1, .keep), (3, .keep), (4, .keep), (22, .keep), (23, .keep), (24, .keep), (38, .st .bool .z false)], [(1, .keep), (4, .keep)]⟩)] }

noncomputable def F_slices_Clone_Lint64_int64 (x0 : List Int) : Option (List Int) :=
 bif List.isEmpty x0 then
 agree (some ([] : List Int)) (bif decide (List.length ([] : List Int) + List.length x0 ≤ LIM) then
 some (List.append ([] : List Int) x0)
 else none)
 else
 bif decide (List.length ([] : List Int) + List.length x0 ≤ LIM) then
 some (List.append ([] : List Int) x0)
 else none
noncomputable def K_slices_Clone_Lint64_int64 : Callee := { ins := [.v (.list (.int .i64)) .z], outs := [((.list (.int .i64)), (.o .z))], F := fun t => F_slices_Clone_Lint64_int64 t.1 }
noncomputable def X_slices_Clone_Lint64_int64 : Ctx := { tys := tys, fns := [], frz := [], lps := [], jns := [], rjs := [] }

noncomputable def F_slices_DeleteFunc_Lint64_int64 (x0 : List Int) (x1 : Int → Option Bool) : Option (List Int) :=
 (F_slices_IndexFunc_Lint64_int64 x0 x1).bind fun (y10 : Int) =>
 bif (decide ((y10 : Int) = (-1))) then
 some x0
 else
 (loopO (S := List Int × Int × Int) (X := List Int × Int) (fun (s15 : List Int × Int × Int) =>
 bif (decide ((s15.2.2 : Int) < (List.length s15.1 : Int))) then
 bif (inB s15.2.2 s15.1) then
 (x1 (List.getD s15.1 (Int.toNat s15.2.2) 0)).bind fun (y16 : Bool) =>
 (bif (!y16) then
 bif (inB s15.2.1 s15.1) then
 some (List.set s15.1 (Int.toNat s15.2.1) (List.getD s15.1 (Int.toNat s15.2.2) 0), IntKind.wrap .i64 (s15.2.1 + 1))
 else none
 else
 some (s15.1, s15.2.1) : Option (List Int × Int)).bind fun (j17 : List Int × Int) =>
 some (Sum.inl (j17.1, (j17.2, IntKind.wrap .i64 (s15.2.2 + 1))))
 else none
 else
 some (Sum.inr (s15.1, s15.2.1))) (x0, (y10, IntKind.wrap .i64 (y10 + 1)))).bind fun (j18 : List Int × Int) =>
 bif (cutOk j18.2 (List.length j18.1 : Int) j18.1) then
 bif (cutOk 0 j18.2 (clr (s := (.int .i64)) j18.2 (List.length j18.1 : Int) j18.1)) then
 some (List.take (Int.toNat (j18.2 - 0)) (List.drop (Int.toNat 0) (clr (s := (.int .i64)) j18.2 (List.length j18.1 : Int) j18.1)))
 else none
 else none
noncomputable def K_slices_DeleteFunc_Lint64_int64 : Callee := { ins := [.v (.list (.int .i64)) (.o .z), .v (.fn1 (.int .i64) .bool .z) .z], outs := [((.list (.int .i64)), (.o .z))], F := fun t => F_slices_DeleteFunc_Lint64_int64 t.1 t.2.1 }
noncomputable def X_slices_DeleteFunc_Lint64_int64 : Ctx := { tys := tys, fns := [(150, K_slices_IndexFunc_Lint64_int64)], frz := [], lps := [(5, (⟨[(0, .st (.list (.int .i64)) (.o .z) false), (1, .keep), (5, .st (.int .i64) .z false), (6, .st (.int .i64) .z false)], []⟩, ⟨[((.exit 0), ⟨[(0, .st (.list (.int .i64)) (.o .z) false), (5, .st (.int .i64) .z false)], []⟩)]⟩))], jns := [(9, ⟨[(.normal, ⟨[(0, .st (.list (.int .i64)) (.o .z) false), (1, .keep), (5, .st (.int .i64) .z false), (6, .keep)], []⟩)]⟩)], rjs := [] }

noncomputable def F_slices_Index_Lint64_int64 (x0 : List Int) (x1 : Int) : Option (Int) :=
 (loopO (S := Int) (X := (Unit) ⊕ (Int)) (fun (s5 : Int) =>
 bif (decide ((s5 : Int) < (List.length x0 : Int))) then
 bif (inB s5 x0) then
 bif (decide ((x1 : Int) = List.getD x0 (Int.toNat s5) 0)) then
 some (Sum.inr (Sum.inr s5))
 else
 some (Sum.inl (IntKind.wrap .i64 (s5 + 1)))
 else none
 else
 some (Sum.inr (Sum.inl ()))) 0).bind fun (j6 : (Unit) ⊕ (Int)) =>
 Sum.elim (fun (j7 : Unit) =>
 some (-1)) (fun (j8 : Int) =>
 some j8) j6
noncomputable def K_slices_Index_Lint64_int64 : Callee := { ins := [.v (.list (.int .i64)) .z, .v (.int .i64) .z], outs := [((.int .i64), .z)], F := fun t => F_slices_Index_Lint64_int64 t.1 t.2.1 }
noncomputable def X_slices_Index_Lint64_int64 : Ctx := { tys := tys, fns := [], frz := [], lps := [(2, (⟨[(0, .keep), (1, .keep), (7, .keep), (8, .st (.int .i64) .z false)], []⟩, ⟨[((.exit 0), ⟨[], []⟩), (.ret, ⟨[(4, .st (.int .i64) .z false)], []⟩)]⟩))], jns := [], rjs := [] }

noncomputable def F_slices_Contains_Lint64_int64 (x0 : List Int) (x1 : Int) : Option (Bool) :=
 (F_slices_Index_Lint64_int64 x0 x1).bind fun (y2 : Int) =>
 some (decide ((0 : Int) ≤ y2))
noncomputable def K_slices_Contains_Lint64_int64 : Callee := { ins := [.v (.list (.int .i64)) .z, .v (.int .i64) .z], outs := [(.bool, .z)], F := fun t => F_slices_Contains_Lint64_int64 t.1 t.2.1 }
noncomputable def X_slices_Contains_Lint64_int64 : Ctx := { tys := tys, fns := [(154, K_slices_Index_Lint64_int64)], frz := [], lps := [], jns := [], rjs := [] }

noncomputable def F_impl_goodKeys_c1 (x0 : Int) (x1 : List Int) : Option (Bool) :=
 (F_slices_Contains_Lint64_int64 x1 x0).bind fun (y2 : Bool) =>
 some y2
noncomputable def K_impl_goodKeys_c1 : Callee := { ins := [.v (.int .i64) .z, .rp (.list (.int .i64)) false], outs := [(.bool, .z)], F := fun t => F_impl_goodKeys_c1 t.1 t.2.1 }
noncomputable def X_impl_goodKeys_c1 : Ctx := { tys := tys, fns := [(90, K_slices_Contains_Lint64_int64)], frz := [], lps := [], jns := [], rjs := [] }

noncomputable def F_impl_goodKeys (x0 : List Int × Int) (x1 : List Int) : Option (List Int) :=
 (F_slices_Clone_Lint64_int64 x0.1).bind fun (y5 : List Int) =>
 (F_slices_DeleteFunc_Lint64_int64 y5 (fun (a6 : Int) => (F_impl_goodKeys_c1 a6 x1).bind fun r7 => some r7)).bind fun (y8 : List Int) =>
 some y8
noncomputable def K_impl_goodKeys : Callee := { ins := [.v s0 .z, .v (.list (.int .i64)) .z], outs := [((.list (.int .i64)), (.o .z))], F := fun t => F_impl_goodKeys t.1 t.2.1 }
noncomputable def X_impl_goodKeys : Ctx := { tys := tys, fns := [(164, K_slices_Clone_Lint64_int64), (213, K_slices_DeleteFunc_Lint64_int64), (214, K_impl_goodKeys_c1)], frz := [], lps := [], jns := [], rjs := [] }

noncomputable def F_slices_EqualFunc_Limpl_Voter_Lint64_impl_Voter_int64 (x0 : List (Int × Int × List ((Int × Int) × Int))) (x1 : List Int) (x2 : (Int × Int × List ((Int × Int) × Int)) → Int → Option Bool) : Option (Bool) :=
 bif (!decide (((List.length x0 : Int) : Int) = (List.length x1 : Int))) then
 some false
 else
 (loopO (S := Int) (X := (Unit) ⊕ (Bool)) (fun (s10 : Int) =>
 bif (decide ((s10 : Int) < (List.length x0 : Int))) then
 bif (inB s10 x0) then
 bif (inB s10 x1) then
 (x2 (List.getD x0 (Int.toNat s10) (0, (0, []))) (List.getD x1 (Int.toNat s10) 0)).bind fun (y11 : Bool) =>
 bif (!y11) then
 some (Sum.inr (Sum.inr false))
 else
 some (Sum.inl (IntKind.wrap .i64 (s10 + 1)))
 else none
 else none
 else
 some (Sum.inr (Sum.inl ()))) 0).bind fun (j12 : (Unit) ⊕ (Bool)) =>
 Sum.elim (fun (j13 : Unit) =>
 some true) (fun (j14 : Bool) =>
 some j14) j12
noncomputable def K_slices_EqualFunc_Limpl_Voter_Lint64_impl_Voter_int64 : Callee := { ins := [.v (.list s5) .z, .v (.list (.int .i64)) .z, .v (.fn2 s5 (.int .i64) .bool) .z], outs := [(.bool, .z)], F := fun t => F_slices_EqualFunc_Limpl_Voter_Lint64_impl_Voter_int64 t.1 t.2.1 t.2.2.1 }
noncomputable def X_slices_EqualFunc_Limpl_Voter_Lint64_impl_Voter_int64 : Ctx := { tys := tys, fns := [], frz := [], lps := [(4, (⟨[(1, .keep), (2, .keep), (15, .keep), (16, .keep), (17, .st (.int .i64) .z false)], []⟩, ⟨[((.exit 0), ⟨[], []⟩), (.ret, ⟨[(6, .st .bool .z false)], []⟩)]⟩))], jns := [], rjs := [] }

noncomputable def F_impl_Cluster_votersFault_c1 (x0 : Int × Int × List ((Int × Int) × Int)) (x1 : Int) : Option (Bool) :=
 some (decide ((x0.1 : Int) = x1))
noncomputable def K_impl_Cluster_votersFault_c1 : Callee := { ins := [.v s5 .z, .v (.int .i64) .z], outs := [(.bool, .z)], F := fun t => F_impl_Cluster_votersFault_c1 t.1 t.2.1 }
noncomputable def X_impl_Cluster_votersFault_c1 : Ctx := { tys := tys, fns := [], frz := [], lps := [], jns := [], rjs := [] }

noncomputable def F_impl_Cluster_votersFault (x0 : (List Int × Int) × List Int × List (Int × Int × Int) × List (Int × Int × List ((Int × Int) × Int)) × List (Int × Int × Int × (Int × Int) × Int) × List (List Int)) : Option (Int) :=
 (F_impl_goodKeys x0.1 x0.2.1).bind fun (y13 : List Int) =>
 (F_slices_EqualFunc_Limpl_Voter_Lint64_impl_Voter_int64 x0.2.2.2.1 y13 (fun (a14 : Int × Int × List ((Int × Int) × Int)) (a15 : Int) => (F_impl_Cluster_votersFault_c1 a14 a15).bind fun r16 => some r16)).bind fun (y17 : Bool) =>
 bif (!y17) then
 some 1
 else
 (loopO (S := Int) (X := (Unit) ⊕ (Int)) (fun (s20 : Int) =>
 bif (decide ((s20 : Int) < (List.length x0.2.2.2.1 : Int))) then
 bif (inB s20 x0.2.2.2.1) then
 (F_impl_VoterFault (List.getD x0.2.2.2.1 (Int.toNat s20) (0, (0, [])))).bind fun (y21 : Int) =>
 bif (!decide ((y21 : Int) = 0)) then
 some (Sum.inr (Sum.inr y21))
 else
 some (Sum.inl (IntKind.wrap .i64 (s20 + 1)))
 else none
 else
 some (Sum.inr (Sum.inl ()))) 0).bind fun (j22 : (Unit) ⊕ (Int)) =>
 Sum.elim (fun (j23 : Unit) =>
 some 0) (fun (j24 : Int) =>
 some j24) j22
noncomputable def K_impl_Cluster_votersFault : Callee := { ins := [.rp s13 false], outs := [((.int .i64), .z)], F := fun t => F_impl_Cluster_votersFault t.1 }
noncomputable def X_impl_Cluster_votersFault : Ctx := { tys := tys, fns := [(185, K_impl_VoterFault), (193, K_impl_goodKeys), (194, K_slices_EqualFunc_Limpl_Voter_Lint64_impl_Voter_int64), (195, K_impl_Cluster_votersFault_c1)], frz := [], lps := [(5, (⟨[(26, .keep), (27, .keep), (28, .st (.int .i64) .z false)], []⟩, ⟨[((.exit 0), ⟨[], []⟩), (.ret, ⟨[(2, .st (.int .i64) .z false)], []⟩)]⟩))], jns := [], rjs := [] }

noncomputable def F_impl_VoteFault (x0 : Int × Int × Int × (Int × Int) × Int) : Option (Int) :=
 (F_impl_isId x0.2.2.1).bind fun (y20 : Bool) =>
 (bif (decide ((x0.2.1 : Int) = 1)) then
 (bif (!(Sh.beq (.prod (.int .i64) (.int .i64)) x0.2.2.2.1 (0, 0))) then
 some true
 else
 some (!decide ((x0.2.2.2.2 : Int) = 0)) : Option (Bool)).bind fun (j27 : Bool) =>
 bif j27 then
 some (Sum.inr 1)
 else
 some (Sum.inl y20)
 else
 bif (decide ((x0.2.1 : Int) = 2)) then
 bif (!decide ((x0.2.2.1 : Int) = 0)) then
 some (Sum.inr 1)
 else
 ((F_impl_isRef x0.2.2.2.1).bind fun (y30 : Bool) =>
 bif y30 then
 (F_impl_isId x0.2.2.2.2).bind fun (y31 : Bool) =>
 some y31
 else
 some false : Option (Bool)).bind fun (j32 : Bool) =>
 some (Sum.inl j32)
 else
 some (Sum.inr 1) : Option ((Bool) ⊕ (Int))).bind fun (j33 : (Bool) ⊕ (Int)) =>
 Sum.elim (fun (j34 : Bool) =>
 ((F_impl_isKey x0.1).bind fun (y37 : Bool) =>
 bif (!y37) then
 some true
 else
 some (!j34) : Option (Bool)).bind fun (j38 : Bool) =>
 bif j38 then
 some 3
 else
 some 0) (fun (j35 : Int) =>
 some j35) j33
noncomputable def K_impl_VoteFault : Callee := { ins := [.v s8 .z], outs := [((.int .i64), .z)], F := fun t => F_impl_VoteFault t.1 }
noncomputable def X_impl_VoteFault : Ctx := { tys := tys, fns := [(179, K_impl_isId), (180, K_impl_isRef), (181, K_impl_isKey)], frz := [], lps := [], jns := [(5, ⟨[(.normal, ⟨[(1, .keep), (3, .st .bool .z false)], [(1, .keep)]⟩), (.ret, ⟨[(2, .st (.int .i64) .z false)], []⟩)]⟩)], rjs := [(5, ⟨[(1, .keep), (3, .keep), (19, .st .bool .z false)], [(1, .keep)]⟩),
  (10, ⟨[(1, .keep), (3, .st .bool .z false)], [(1, .keep)]⟩),
  (11, ⟨[(40, .st .bool .z false)], []⟩)] }

noncomputable def F_slices_Index_Limpl_Vote_impl_Vote (x0 : List (Int × Int × Int × (Int × Int) × Int)) (x1 : Int × Int × Int × (Int × Int) × Int) : Option (Int) :=
 (loopO (S := Int) (X := (Unit) ⊕ (Int)) (fun (s5 : Int) =>
 bif (decide ((s5 : Int) < (List.length x0 : Int))) then
 bif (inB s5 x0) then
 bif (Sh.beq (.prod (.int .i64) (.prod (.int .i64) (.prod (.int .i64) (.prod (.prod (.int .i64) (.int .i64)) (.int .i64))))) x1 (List.getD x0 (Int.toNat s5) (0, (0, (0, ((0, 0), 0)))))) then
 some (Sum.inr (Sum.inr s5))
 else
 some (Sum.inl (IntKind.wrap .i64 (s5 + 1)))
 else none
 else
 some (Sum.inr (Sum.inl ()))) 0).bind fun (j6 : (Unit) ⊕ (Int)) =>
 Sum.elim (fun (j7 : Unit) =>
 some (-1)) (fun (j8 : Int) =>
 some j8) j6
noncomputable def K_slices_Index_Limpl_Vote_impl_Vote : Callee := { ins := [.v (.list s8) .z, .v s8 .z], outs := [((.int .i64), .z)], F := fun t => F_slices_Index_Limpl_Vote_impl_Vote t.1 t.2.1 }
noncomputable def X_slices_Index_Limpl_Vote_impl_Vote : Ctx := { tys := tys, fns := [], frz := [], lps := [(2, (⟨[(0, .keep), (3, .keep), (7, .keep), (8, .st (.int .i64) .z false)], [(3, .keep)]⟩, ⟨[((.exit 0), ⟨[], []⟩), (.ret, ⟨[(4, .st (.int .i64) .z false)], []⟩)]⟩))], jns := [], rjs := [] }

noncomputable def F_slices_Contains_Limpl_Vote_impl_Vote (x0 : List (Int × Int × Int × (Int × Int) × Int)) (x1 : Int × Int × Int × (Int × Int) × Int) : Option (Bool) :=
 (F_slices_Index_Limpl_Vote_impl_Vote x0 x1).bind fun (y2 : Int) =>
 some (decide ((0 : Int) ≤ y2))
noncomputable def K_slices_Contains_Limpl_Vote_impl_Vote : Callee := { ins := [.v (.list s8) .z, .v s8 .z], outs := [(.bool, .z)], F := fun t => F_slices_Contains_Limpl_Vote_impl_Vote t.1 t.2.1 }
noncomputable def X_slices_Contains_Limpl_Vote_impl_Vote : Ctx := { tys := tys, fns := [(204, K_slices_Index_Limpl_Vote_impl_Vote)], frz := [], lps := [], jns := [], rjs := [] }

noncomputable def F_slices_Reverse_Lint64_int64 (x0 : List Int) : Option (List Int) :=
 bif Nat.ble (List.length x0) 9223372036854775807 then some (List.reverse x0) else none
noncomputable def K_slices_Reverse_Lint64_int64 : Callee := { ins := [.mu (.list (.int .i64)) (.o .z) (.o .z)], outs := [], F := fun t => F_slices_Reverse_Lint64_int64 t.1 }

noncomputable def F_impl_pathTo (x0 : List (Int × Int × Int)) (x1 : Int) : Option (List Int) :=
 (F_impl_findNode x0 x1).bind fun (y8 : Int) =>
 (loopO (S := List Int × Int) (X := List Int) (fun (s11 : List Int × Int) =>
 bif (decide ((0 : Int) ≤ s11.2)) then
 bif (inB s11.2 x0) then
 bif decide (List.length s11.1 + List.length ([(List.getD x0 (Int.toNat s11.2) (0, (0, 0))).1] : List Int) ≤ LIM) then
 bif (inB s11.2 x0) then
 (F_impl_findNode x0 (List.getD x0 (Int.toNat s11.2) (0, (0, 0))).2.1).bind fun (y12 : Int) =>
 some (Sum.inl (List.append s11.1 ([(List.getD x0 (Int.toNat s11.2) (0, (0, 0))).1] : List Int), y12))
 else none
 else none
 else none
 else
 some (Sum.inr s11.1)) (([] : List Int), y8)).bind fun (j13 : List Int) =>
 (F_slices_Reverse_Lint64_int64 j13).bind fun (y14 : List Int) =>
 some y14
noncomputable def K_impl_pathTo : Callee := { ins := [.v (.list s2) .z, .v (.int .i64) .z], outs := [((.list (.int .i64)), (.o .z))], F := fun t => F_impl_pathTo t.1 t.2.1 }
noncomputable def X_impl_pathTo : Ctx := { tys := tys, fns := [(202, K_impl_findNode), (216, K_slices_Reverse_Lint64_int64)], frz := [], lps := [(3, (⟨[(0, .keep), (5, .st (.list (.int .i64)) (.o .z) false), (6, .st (.int .i64) .z false)], []⟩, ⟨[((.exit 0), ⟨[(5, .st (.list (.int .i64)) (.o .z) false)], []⟩)]⟩))], jns := [], rjs := [] }

noncomputable def F_impl_isAbove (x0 : List (Int × Int × Int)) (x1 : Int) (x2 : Int) : Option (Bool) :=
 (F_impl_pathTo x0 x2).bind fun (y3 : List Int) =>
 (F_slices_Contains_Lint64_int64 y3 x1).bind fun (y4 : Bool) =>
 some y4
noncomputable def K_impl_isAbove : Callee := { ins := [.v (.list s2) .z, .v (.int .i64) .z, .v (.int .i64) .z], outs := [(.bool, .z)], F := fun t => F_impl_isAbove t.1 t.2.1 t.2.2.1 }
noncomputable def X_impl_isAbove : Ctx := { tys := tys, fns := [(90, K_slices_Contains_Lint64_int64), (200, K_impl_pathTo)], frz := [], lps := [], jns := [], rjs := [] }

noncomputable def F_slices_IndexFunc_Limpl_Voter_impl_Voter (x0 : List (Int × Int × List ((Int × Int) × Int))) (x1 : (Int × Int × List ((Int × Int) × Int)) → Option Bool) : Option (Int) :=
 (loopO (S := Int) (X := (Unit) ⊕ (Int)) (fun (s10 : Int) =>
 bif (decide ((s10 : Int) < (List.length x0 : Int))) then
 bif (inB s10 x0) then
 (x1 (List.getD x0 (Int.toNat s10) (0, (0, [])))).bind fun (y11 : Bool) =>
 bif y11 then
 some (Sum.inr (Sum.inr s10))
 else
 some (Sum.inl (IntKind.wrap .i64 (s10 + 1)))
 else none
 else
 some (Sum.inr (Sum.inl ()))) 0).bind fun (j12 : (Unit) ⊕ (Int)) =>
 Sum.elim (fun (j13 : Unit) =>
 some (-1)) (fun (j14 : Int) =>
 some j14) j12
noncomputable def K_slices_IndexFunc_Limpl_Voter_impl_Voter : Callee := { ins := [.v (.list s5) .z, .v (.fn1 s5 .bool .z) .z], outs := [((.int .i64), .z)], F := fun t => F_slices_IndexFunc_Limpl_Voter_impl_Voter t.1 t.2.1 }
noncomputable def X_slices_IndexFunc_Limpl_Voter_impl_Voter : Ctx := { tys := tys, fns := [], frz := [], lps := [(2, (⟨[(0, .keep), (1, .keep), (7, .keep), (8, .st (.int .i64) .z false)], []⟩, ⟨[((.exit 0), ⟨[], []⟩), (.ret, ⟨[(4, .st (.int .i64) .z false)], []⟩)]⟩))], jns := [], rjs := [] }

noncomputable def F_impl_Cluster_findVoter_c1 (x0 : Int × Int × List ((Int × Int) × Int)) (x1 : Int) : Option (Bool) :=
 some (decide ((x0.1 : Int) = x1))
noncomputable def K_impl_Cluster_findVoter_c1 : Callee := { ins := [.v s5 .z, .rp (.int .i64) false], outs := [(.bool, .z)], F := fun t => F_impl_Cluster_findVoter_c1 t.1 t.2.1 }
noncomputable def X_impl_Cluster_findVoter_c1 : Ctx := { tys := tys, fns := [], frz := [], lps := [], jns := [], rjs := [] }

noncomputable def F_impl_Cluster_findVoter (x0 : (List Int × Int) × List Int × List (Int × Int × Int) × List (Int × Int × List ((Int × Int) × Int)) × List (Int × Int × Int × (Int × Int) × Int) × List (List Int)) (x1 : Int) : Option (Int) :=
 (F_slices_IndexFunc_Limpl_Voter_impl_Voter x0.2.2.2.1 (fun (a4 : Int × Int × List ((Int × Int) × Int)) => (F_impl_Cluster_findVoter_c1 a4 x1).bind fun r5 => some r5)).bind fun (y6 : Int) =>
 some y6
noncomputable def K_impl_Cluster_findVoter : Callee := { ins := [.rp s13 false, .v (.int .i64) .z], outs := [((.int .i64), .z)], F := fun t => F_impl_Cluster_findVoter t.1 t.2.1 }
noncomputable def X_impl_Cluster_findVoter : Ctx := { tys := tys, fns := [(206, K_slices_IndexFunc_Limpl_Voter_impl_Voter), (207, K_impl_Cluster_findVoter_c1)], frz := [], lps := [], jns := [], rjs := [] }

noncomputable def F_impl_Voter_chosen_c1 (x0 : (Int × Int) × Int) (x1 : Int × Int) : Option (Bool) :=
 some (Sh.beq (.prod (.int .i64) (.int .i64)) x0.1 x1)
noncomputable def K_impl_Voter_chosen_c1 : Callee := { ins := [.v s3 .z, .rp s1 false], outs := [(.bool, .z)], F := fun t => F_impl_Voter_chosen_c1 t.1 t.2.1 }
noncomputable def X_impl_Voter_chosen_c1 : Ctx := { tys := tys, fns := [], frz := [], lps := [], jns := [], rjs := [] }

noncomputable def F_impl_Voter_chosen (x0 : Int × Int × List ((Int × Int) × Int)) (x1 : Int × Int) : Option (Int) :=
 (F_slices_IndexFunc_Limpl_Choice_impl_Choice x0.2.2 (fun (a4 : (Int × Int) × Int) => (F_impl_Voter_chosen_c1 a4 x1).bind fun r5 => some r5)).bind fun (y6 : Int) =>
 bif (decide ((y6 : Int) < 0)) then
 some 0
 else
 bif (inB y6 x0.2.2) then
 some (List.getD x0.2.2 (Int.toNat y6) ((0, 0), 0)).2
 else none
noncomputable def K_impl_Voter_chosen : Callee := { ins := [.v s5 .z, .v s1 .z], outs := [((.int .i64), .z)], F := fun t => F_impl_Voter_chosen t.1 t.2.1 }
noncomputable def X_impl_Voter_chosen : Ctx := { tys := tys, fns := [(153, K_slices_IndexFunc_Limpl_Choice_impl_Choice), (210, K_impl_Voter_chosen_c1)], frz := [], lps := [], jns := [], rjs := [] }

noncomputable def F_impl_Cluster_isVoted (x0 : (List Int × Int) × List Int × List (Int × Int × Int) × List (Int × Int × List ((Int × Int) × Int)) × List (Int × Int × Int × (Int × Int) × Int) × List (List Int)) (x1 : Int × Int × Int × (Int × Int) × Int) : Option (Bool) :=
 (F_impl_Cluster_findVoter x0 x1.1).bind fun (y4 : Int) =>
 bif (inB y4 x0.2.2.2.1) then
 bif (decide ((x1.2.1 : Int) = 1)) then
 (F_impl_isAbove x0.2.2.1 x1.2.2.1 (List.getD x0.2.2.2.1 (Int.toNat y4) (0, (0, []))).2.1).bind fun (y5 : Bool) =>
 some y5
 else
 (F_impl_Voter_chosen (List.getD x0.2.2.2.1 (Int.toNat y4) (0, (0, []))) x1.2.2.2.1).bind fun (y6 : Int) =>
 some (decide ((y6 : Int) = x1.2.2.2.2))
 else none
noncomputable def K_impl_Cluster_isVoted : Callee := { ins := [.rp s13 false, .v s8 .z], outs := [(.bool, .z)], F := fun t => F_impl_Cluster_isVoted t.1 t.2.1 }
noncomputable def X_impl_Cluster_isVoted : Ctx := { tys := tys, fns := [(151, K_impl_isAbove), (182, K_impl_Cluster_findVoter), (186, K_impl_Voter_chosen)], frz := [], lps := [], jns := [], rjs := [] }

noncomputable def F_impl_Cluster_votesFault (x0 : (List Int × Int) × List Int × List (Int × Int × Int) × List (Int × Int × List ((Int × Int) × Int)) × List (Int × Int × Int × (Int × Int) × Int) × List (List Int)) : Option (Int) :=
 (loopO (S := Int) (X := (Unit) ⊕ (Int)) (fun (s45 : Int) =>
 bif (decide ((s45 : Int) < (List.length x0.2.2.2.2.1 : Int))) then
 bif (inB s45 x0.2.2.2.2.1) then
 (F_impl_VoteFault (List.getD x0.2.2.2.2.1 (Int.toNat s45) (0, (0, (0, ((0, 0), 0)))))).bind fun (y46 : Int) =>
 bif (!decide ((y46 : Int) = 0)) then
 some (Sum.inr (Sum.inr y46))
 else
 (F_slices_Contains_Lint64_int64 x0.1.1 (List.getD x0.2.2.2.2.1 (Int.toNat s45) (0, (0, (0, ((0, 0), 0))))).1).bind fun (y47 : Bool) =>
 bif (!y47) then
 some (Sum.inr (Sum.inr 4))
 else
 bif (cutOk 0 s45 x0.2.2.2.2.1) then
 (F_slices_Contains_Limpl_Vote_impl_Vote (cut 0 s45 x0.2.2.2.2.1) (List.getD x0.2.2.2.2.1 (Int.toNat s45) (0, (0, (0, ((0, 0), 0)))))).bind fun (y48 : Bool) =>
 bif y48 then
 some (Sum.inr (Sum.inr 7))
 else
 ((F_slices_Contains_Lint64_int64 x0.2.1 (List.getD x0.2.2.2.2.1 (Int.toNat s45) (0, (0, (0, ((0, 0), 0))))).1).bind fun (y51 : Bool) =>
 bif (!y51) then
 (F_impl_Cluster_isVoted x0 (List.getD x0.2.2.2.2.1 (Int.toNat s45) (0, (0, (0, ((0, 0), 0)))))).bind fun (y52 : Bool) =>
 some (!y52)
 else
 some false : Option (Bool)).bind fun (j53 : Bool) =>
 bif j53 then
 some (Sum.inr (Sum.inr 6))
 else
 some (Sum.inl (IntKind.wrap .i64 (s45 + 1)))
 else none
 else none
 else
 some (Sum.inr (Sum.inl ()))) 0).bind fun (j54 : (Unit) ⊕ (Int)) =>
 Sum.elim (fun (j55 : Unit) =>
 some 0) (fun (j56 : Int) =>
 some j56) j54
noncomputable def K_impl_Cluster_votesFault : Callee := { ins := [.rp s13 false], outs := [((.int .i64), .z)], F := fun t => F_impl_Cluster_votesFault t.1 }
noncomputable def X_impl_Cluster_votesFault : Ctx := { tys := tys, fns := [(90, K_slices_Contains_Lint64_int64), (119, K_impl_VoteFault), (161, K_slices_Contains_Limpl_Vote_impl_Vote), (196, K_impl_Cluster_isVoted)], frz := [], lps := [(2, (⟨[(0, .keep), (9, .keep), (10, .keep), (11, .st (.int .i64) .z false)], []⟩, ⟨[((.exit 0), ⟨[], []⟩), (.ret, ⟨[(2, .st (.int .i64) .z false)], []⟩)]⟩))], jns := [], rjs := [(11, ⟨[(0, .keep), (9, .keep), (10, .keep), (11, .keep), (40, .st .bool .z false)], []⟩)] }

noncomputable def F_impl_Cluster_heardFault_c1 (x0 : Int) (x1 : (List Int × Int) × List Int × List (Int × Int × Int) × List (Int × Int × List ((Int × Int) × Int)) × List (Int × Int × Int × (Int × Int) × Int) × List (List Int)) : Option (Bool) :=
 (F_impl_within x0 0 (IntKind.wrap .i64 ((List.length x1.2.2.2.2.1 : Int) - 1))).bind fun (y2 : Bool) =>
 some (!y2)
noncomputable def K_impl_Cluster_heardFault_c1 : Callee := { ins := [.v (.int .i64) .z, .rp s13 true], outs := [(.bool, .z)], F := fun t => F_impl_Cluster_heardFault_c1 t.1 t.2.1 }
noncomputable def X_impl_Cluster_heardFault_c1 : Ctx := { tys := tys, fns := [(112, K_impl_within)], frz := [], lps := [], jns := [], rjs := [] }

noncomputable def F_impl_Cluster_heardFault (x0 : (List Int × Int) × List Int × List (Int × Int × Int) × List (Int × Int × List ((Int × Int) × Int)) × List (Int × Int × Int × (Int × Int) × Int) × List (List Int)) : Option (Int) :=
 (loopO (S := Int) (X := (Unit) ⊕ (Int)) (fun (s55 : Int) =>
 bif (decide ((s55 : Int) < (List.length x0.2.2.2.2.2 : Int))) then
 bif (inB s55 x0.2.2.2.2.2) then
 (F_slices_ContainsFunc_Lint64_int64 (List.getD x0.2.2.2.2.2 (Int.toNat s55) []) (fun (a56 : Int) => (F_impl_Cluster_heardFault_c1 a56 x0).bind fun r57 => some r57)).bind fun (y58 : Bool) =>
 bif y58 then
 some (Sum.inr (Sum.inr 3))
 else
 (loopO (S := Int) (X := (Unit) ⊕ (Int)) (fun (s61 : Int) =>
 bif (decide ((s61 : Int) < (List.length (List.getD x0.2.2.2.2.2 (Int.toNat s55) []) : Int))) then
 bif (inB s61 (List.getD x0.2.2.2.2.2 (Int.toNat s55) [])) then
 bif (cutOk 0 s61 (List.getD x0.2.2.2.2.2 (Int.toNat s55) [])) then
 (F_slices_Contains_Lint64_int64 (cut 0 s61 (List.getD x0.2.2.2.2.2 (Int.toNat s55) [])) (List.getD (List.getD x0.2.2.2.2.2 (Int.toNat s55) []) (Int.toNat s61) 0)).bind fun (y62 : Bool) =>
 bif y62 then
 some (Sum.inr (Sum.inr 7))
 else
 some (Sum.inl (IntKind.wrap .i64 (s61 + 1)))
 else none
 else none
 else
 some (Sum.inr (Sum.inl ()))) 0).bind fun (j63 : (Unit) ⊕ (Int)) =>
 Sum.elim (fun (j64 : Unit) =>
 some (Sum.inl (IntKind.wrap .i64 (s55 + 1)))) (fun (j65 : Int) =>
 some (Sum.inr (Sum.inr j65))) j63
 else none
 else
 some (Sum.inr (Sum.inl ()))) 0).bind fun (j66 : (Unit) ⊕ (Int)) =>
 Sum.elim (fun (j67 : Unit) =>
 some 0) (fun (j68 : Int) =>
 some j68) j66
noncomputable def K_impl_Cluster_heardFault : Callee := { ins := [.rp s13 false], outs := [((.int .i64), .z)], F := fun t => F_impl_Cluster_heardFault t.1 }
noncomputable def X_impl_Cluster_heardFault : Ctx := { tys := tys, fns := [(83, K_slices_ContainsFunc_Lint64_int64), (90, K_slices_Contains_Lint64_int64), (197, K_impl_Cluster_heardFault_c1)], frz := [], lps := [(2, (⟨[(1, .keep), (10, .keep), (11, .keep), (12, .st (.int .i64) .z false)], []⟩, ⟨[((.exit 0), ⟨[], []⟩), (.ret, ⟨[(2, .st (.int .i64) .z false)], []⟩)]⟩)),
  (7, (⟨[(1, .keep), (4, .keep), (10, .keep), (11, .keep), (12, .keep), (19, .keep), (20, .keep), (21, .st (.int .i64) .z false)], []⟩, ⟨[((.exit 2), ⟨[(1, .keep), (10, .keep), (11, .keep), (12, .keep)], []⟩), (.ret, ⟨[(2, .st (.int .i64) .z false)], []⟩)]⟩))], jns := [], rjs := [] }

noncomputable def F_impl_ClusterFault (x0 : (List Int × Int) × List Int × List (Int × Int × Int) × List (Int × Int × List ((Int × Int) × Int)) × List (Int × Int × Int × (Int × Int) × Int) × List (List Int)) : Option (Int) :=
 (F_impl_QuorumFault x0.1).bind fun (y10 : Int) =>
 bif (!decide ((y10 : Int) = 0)) then
 some y10
 else
 (bif (decide ((20 : Int) < (List.length x0.2.1 : Int))) then
 some true
 else
 bif (decide ((100 : Int) < (List.length x0.2.2.2.2.1 : Int))) then
 some true
 else
 (F_impl_within (List.length x0.2.2.2.2.2 : Int) 1 4).bind fun (y12 : Bool) =>
 some (!y12) : Option (Bool)).bind fun (j13 : Bool) =>
 bif j13 then
 some 2
 else
 (F_impl_badFault x0.2.1).bind fun (y14 : Int) =>
 bif (!decide ((y14 : Int) = 0)) then
 some y14
 else
 (F_impl_TreeFault x0.2.2.1).bind fun (y15 : Int) =>
 bif (!decide ((y15 : Int) = 0)) then
 some y15
 else
 (F_impl_Cluster_votersFault x0).bind fun (y16 : Int) =>
 bif (!decide ((y16 : Int) = 0)) then
 some y16
 else
 (F_impl_Cluster_votesFault x0).bind fun (y17 : Int) =>
 bif (!decide ((y17 : Int) = 0)) then
 some y17
 else
 (F_impl_Cluster_heardFault x0).bind fun (y18 : Int) =>
 some y18
noncomputable def K_impl_ClusterFault : Callee := { ins := [.v s13 .z], outs := [((.int .i64), .z)], F := fun t => F_impl_ClusterFault t.1 }
noncomputable def X_impl_ClusterFault : Ctx := { tys := tys, fns := [(112, K_impl_within), (139, K_impl_QuorumFault), (140, K_impl_badFault), (141, K_impl_TreeFault), (142, K_impl_Cluster_votersFault), (143, K_impl_Cluster_votesFault), (144, K_impl_Cluster_heardFault)], frz := [], lps := [], jns := [], rjs := [(4, ⟨[(1, .keep), (30, .st .bool .z false)], [(1, .keep)]⟩)] }

noncomputable def F_impl_meetOf_c1 (x0 : Int) (x1 : List Int) : Option (Bool) :=
 (F_slices_Contains_Lint64_int64 x1 x0).bind fun (y2 : Bool) =>
 some (!y2)

noncomputable def F_impl_meetOf (x0 : List Int) (x1 : List Int) : Option (List Int) :=
 (F_slices_Clone_Lint64_int64 x0).bind fun (y5 : List Int) =>
 (F_slices_DeleteFunc_Lint64_int64 y5 (fun (a6 : Int) => (F_impl_meetOf_c1 a6 x1).bind fun r7 => some r7)).bind fun (y8 : List Int) =>
 some y8

noncomputable def F_impl_Quorum_badIn (x0 : List Int × Int) (x1 : List Int) : Option (Int) :=
 (F_impl_meetOf x0.1 x1).bind fun (y2 : List Int) =>
 some (List.length y2 : Int)

noncomputable def F_impl_IsSafe (x0 : List Int × Int) (x1 : List Int) : Option (Bool) :=
 ((F_impl_QuorumFault x0).bind fun (y8 : Int) =>
 bif (decide ((y8 : Int) = 0)) then
 (F_impl_Quorum_badIn x0 x1).bind fun (y9 : Int) =>
 some (decide ((y9 : Int) < IntKind.wrap .i64 ((IntKind.wrap .i64 (2 * x0.2)) - (List.length x0.1 : Int))))
 else
 some false : Option (Bool)).bind fun (j10 : Bool) =>
 some j10

noncomputable def F_impl_PremiseOf (x0 : (List Int × Int) × List Int × List (Int × Int × Int) × List (Int × Int × List ((Int × Int) × Int)) × List (Int × Int × Int × (Int × Int) × Int) × List (List Int)) : Option (Bool) :=
 ((F_impl_ClusterFault x0).bind fun (y8 : Int) =>
 bif (decide ((y8 : Int) = 0)) then
 (F_impl_IsSafe x0.1 x0.2.1).bind fun (y9 : Bool) =>
 some y9
 else
 some false : Option (Bool)).bind fun (j10 : Bool) =>
 some j10

noncomputable def F_laws_eqInt64S (x0 : List Int) (x1 : List Int) : Option (Bool) :=
 bif (!decide (((List.length x0 : Int) : Int) = (List.length x1 : Int))) then
 some false
 else
 (loopO (S := Int) (X := (Unit) ⊕ (Bool)) (fun (s5 : Int) =>
 bif (decide ((s5 : Int) < (List.length x0 : Int))) then
 bif (inB s5 x0) then
 bif (inB s5 x1) then
 bif (!decide ((List.getD x0 (Int.toNat s5) 0 : Int) = List.getD x1 (Int.toNat s5) 0)) then
 some (Sum.inr (Sum.inr false))
 else
 some (Sum.inl (IntKind.wrap .i64 (s5 + 1)))
 else none
 else none
 else
 some (Sum.inr (Sum.inl ()))) 0).bind fun (j6 : (Unit) ⊕ (Bool)) =>
 Sum.elim (fun (j7 : Unit) =>
 some true) (fun (j8 : Bool) =>
 some j8) j6
noncomputable def K_laws_eqInt64S : Callee := { ins := [.v (.list (.int .i64)) .z, .v (.list (.int .i64)) .z], outs := [(.bool, .z)], F := fun t => F_laws_eqInt64S t.1 t.2.1 }
noncomputable def X_laws_eqInt64S : Ctx := { tys := tys, fns := [], frz := [], lps := [(4, (⟨[(0, .keep), (1, .keep), (5, .st (.int .i64) .z false)], []⟩, ⟨[((.exit 0), ⟨[], []⟩), (.ret, ⟨[(4, .st .bool .z false)], []⟩)]⟩))], jns := [], rjs := [] }

noncomputable def F_laws_eqQuorum (x0 : List Int × Int) (x1 : List Int × Int) : Option (Bool) :=
 (F_laws_eqInt64S x0.1 x1.1).bind fun (y2 : Bool) =>
 bif (!y2) then
 some false
 else
 bif (!decide ((x0.2 : Int) = x1.2)) then
 some false
 else
 some true
noncomputable def K_laws_eqQuorum : Callee := { ins := [.v s0 .z, .v s0 .z], outs := [(.bool, .z)], F := fun t => F_laws_eqQuorum t.1 t.2.1 }
noncomputable def X_laws_eqQuorum : Ctx := { tys := tys, fns := [(76, K_laws_eqInt64S)], frz := [], lps := [], jns := [], rjs := [] }

noncomputable def F_laws_eqNode (x0 : Int × Int × Int) (x1 : Int × Int × Int) : Option (Bool) :=
 bif (!decide ((x0.1 : Int) = x1.1)) then
 some false
 else
 bif (!decide ((x0.2.1 : Int) = x1.2.1)) then
 some false
 else
 bif (!decide ((x0.2.2 : Int) = x1.2.2)) then
 some false
 else
 some true
noncomputable def K_laws_eqNode : Callee := { ins := [.v s2 .z, .v s2 .z], outs := [(.bool, .z)], F := fun t => F_laws_eqNode t.1 t.2.1 }
noncomputable def X_laws_eqNode : Ctx := { tys := tys, fns := [], frz := [], lps := [], jns := [], rjs := [] }

noncomputable def F_laws_eqNodeS (x0 : List (Int × Int × Int)) (x1 : List (Int × Int × Int)) : Option (Bool) :=
 bif (!decide (((List.length x0 : Int) : Int) = (List.length x1 : Int))) then
 some false
 else
 (loopO (S := Int) (X := (Unit) ⊕ (Bool)) (fun (s10 : Int) =>
 bif (decide ((s10 : Int) < (List.length x0 : Int))) then
 bif (inB s10 x0) then
 bif (inB s10 x1) then
 (F_laws_eqNode (List.getD x0 (Int.toNat s10) (0, (0, 0))) (List.getD x1 (Int.toNat s10) (0, (0, 0)))).bind fun (y11 : Bool) =>
 bif (!y11) then
 some (Sum.inr (Sum.inr false))
 else
 some (Sum.inl (IntKind.wrap .i64 (s10 + 1)))
 else none
 else none
 else
 some (Sum.inr (Sum.inl ()))) 0).bind fun (j12 : (Unit) ⊕ (Bool)) =>
 Sum.elim (fun (j13 : Unit) =>
 some true) (fun (j14 : Bool) =>
 some j14) j12
noncomputable def K_laws_eqNodeS : Callee := { ins := [.v (.list s2) .z, .v (.list s2) .z], outs := [(.bool, .z)], F := fun t => F_laws_eqNodeS t.1 t.2.1 }
noncomputable def X_laws_eqNodeS : Ctx := { tys := tys, fns := [(146, K_laws_eqNode)], frz := [], lps := [(4, (⟨[(0, .keep), (1, .keep), (5, .st (.int .i64) .z false)], []⟩, ⟨[((.exit 0), ⟨[], []⟩), (.ret, ⟨[(4, .st .bool .z false)], []⟩)]⟩))], jns := [], rjs := [] }

noncomputable def F_laws_eqRef (x0 : Int × Int) (x1 : Int × Int) : Option (Bool) :=
 bif (!decide ((x0.1 : Int) = x1.1)) then
 some false
 else
 bif (!decide ((x0.2 : Int) = x1.2)) then
 some false
 else
 some true
noncomputable def K_laws_eqRef : Callee := { ins := [.v s1 .z, .v s1 .z], outs := [(.bool, .z)], F := fun t => F_laws_eqRef t.1 t.2.1 }
noncomputable def X_laws_eqRef : Ctx := { tys := tys, fns := [], frz := [], lps := [], jns := [], rjs := [] }

noncomputable def F_laws_eqChoice (x0 : (Int × Int) × Int) (x1 : (Int × Int) × Int) : Option (Bool) :=
 (F_laws_eqRef x0.1 x1.1).bind fun (y2 : Bool) =>
 bif (!y2) then
 some false
 else
 bif (!decide ((x0.2 : Int) = x1.2)) then
 some false
 else
 some true
noncomputable def K_laws_eqChoice : Callee := { ins := [.v s3 .z, .v s3 .z], outs := [(.bool, .z)], F := fun t => F_laws_eqChoice t.1 t.2.1 }
noncomputable def X_laws_eqChoice : Ctx := { tys := tys, fns := [(199, K_laws_eqRef)], frz := [], lps := [], jns := [], rjs := [] }

noncomputable def F_laws_eqChoiceS (x0 : List ((Int × Int) × Int)) (x1 : List ((Int × Int) × Int)) : Option (Bool) :=
 bif (!decide (((List.length x0 : Int) : Int) = (List.length x1 : Int))) then
 some false
 else
 (loopO (S := Int) (X := (Unit) ⊕ (Bool)) (fun (s10 : Int) =>
 bif (decide ((s10 : Int) < (List.length x0 : Int))) then
 bif (inB s10 x0) then
 bif (inB s10 x1) then
 (F_laws_eqChoice (List.getD x0 (Int.toNat s10) ((0, 0), 0)) (List.getD x1 (Int.toNat s10) ((0, 0), 0))).bind fun (y11 : Bool) =>
 bif (!y11) then
 some (Sum.inr (Sum.inr false))
 else
 some (Sum.inl (IntKind.wrap .i64 (s10 + 1)))
 else none
 else none
 else
 some (Sum.inr (Sum.inl ()))) 0).bind fun (j12 : (Unit) ⊕ (Bool)) =>
 Sum.elim (fun (j13 : Unit) =>
 some true) (fun (j14 : Bool) =>
 some j14) j12
noncomputable def K_laws_eqChoiceS : Callee := { ins := [.v (.list s3) .z, .v (.list s3) .z], outs := [(.bool, .z)], F := fun t => F_laws_eqChoiceS t.1 t.2.1 }
noncomputable def X_laws_eqChoiceS : Ctx := { tys := tys, fns := [(162, K_laws_eqChoice)], frz := [], lps := [(4, (⟨[(0, .keep), (1, .keep), (5, .st (.int .i64) .z false)], []⟩, ⟨[((.exit 0), ⟨[], []⟩), (.ret, ⟨[(4, .st .bool .z false)], []⟩)]⟩))], jns := [], rjs := [] }

noncomputable def F_laws_eqVoter (x0 : Int × Int × List ((Int × Int) × Int)) (x1 : Int × Int × List ((Int × Int) × Int)) : Option (Bool) :=
 bif (!decide ((x0.1 : Int) = x1.1)) then
 some false
 else
 bif (!decide ((x0.2.1 : Int) = x1.2.1)) then
 some false
 else
 (F_laws_eqChoiceS x0.2.2 x1.2.2).bind fun (y2 : Bool) =>
 bif (!y2) then
 some false
 else
 some true
noncomputable def K_laws_eqVoter : Callee := { ins := [.v s5 .z, .v s5 .z], outs := [(.bool, .z)], F := fun t => F_laws_eqVoter t.1 t.2.1 }
noncomputable def X_laws_eqVoter : Ctx := { tys := tys, fns := [(103, K_laws_eqChoiceS)], frz := [], lps := [], jns := [], rjs := [] }

noncomputable def F_laws_eqVoterS (x0 : List (Int × Int × List ((Int × Int) × Int))) (x1 : List (Int × Int × List ((Int × Int) × Int))) : Option (Bool) :=
 bif (!decide (((List.length x0 : Int) : Int) = (List.length x1 : Int))) then
 some false
 else
 (loopO (S := Int) (X := (Unit) ⊕ (Bool)) (fun (s10 : Int) =>
 bif (decide ((s10 : Int) < (List.length x0 : Int))) then
 bif (inB s10 x0) then
 bif (inB s10 x1) then
 (F_laws_eqVoter (List.getD x0 (Int.toNat s10) (0, (0, []))) (List.getD x1 (Int.toNat s10) (0, (0, [])))).bind fun (y11 : Bool) =>
 bif (!y11) then
 some (Sum.inr (Sum.inr false))
 else
 some (Sum.inl (IntKind.wrap .i64 (s10 + 1)))
 else none
 else none
 else
 some (Sum.inr (Sum.inl ()))) 0).bind fun (j12 : (Unit) ⊕ (Bool)) =>
 Sum.elim (fun (j13 : Unit) =>
 some true) (fun (j14 : Bool) =>
 some j14) j12
noncomputable def K_laws_eqVoterS : Callee := { ins := [.v (.list s5) .z, .v (.list s5) .z], outs := [(.bool, .z)], F := fun t => F_laws_eqVoterS t.1 t.2.1 }
noncomputable def X_laws_eqVoterS : Ctx := { tys := tys, fns := [(147, K_laws_eqVoter)], frz := [], lps := [(4, (⟨[(0, .keep), (1, .keep), (5, .st (.int .i64) .z false)], []⟩, ⟨[((.exit 0), ⟨[], []⟩), (.ret, ⟨[(4, .st .bool .z false)], []⟩)]⟩))], jns := [], rjs := [] }

noncomputable def F_laws_eqVote (x0 : Int × Int × Int × (Int × Int) × Int) (x1 : Int × Int × Int × (Int × Int) × Int) : Option (Bool) :=
 bif (!decide ((x0.1 : Int) = x1.1)) then
 some false
 else
 bif (!decide ((x0.2.1 : Int) = x1.2.1)) then
 some false
 else
 bif (!decide ((x0.2.2.1 : Int) = x1.2.2.1)) then
 some false
 else
 (F_laws_eqRef x0.2.2.2.1 x1.2.2.2.1).bind fun (y2 : Bool) =>
 bif (!y2) then
 some false
 else
 bif (!decide ((x0.2.2.2.2 : Int) = x1.2.2.2.2)) then
 some false
 else
 some true
noncomputable def K_laws_eqVote : Callee := { ins := [.v s8 .z, .v s8 .z], outs := [(.bool, .z)], F := fun t => F_laws_eqVote t.1 t.2.1 }
noncomputable def X_laws_eqVote : Ctx := { tys := tys, fns := [(199, K_laws_eqRef)], frz := [], lps := [], jns := [], rjs := [] }

noncomputable def F_laws_eqVoteS (x0 : List (Int × Int × Int × (Int × Int) × Int)) (x1 : List (Int × Int × Int × (Int × Int) × Int)) : Option (Bool) :=
 bif (!decide (((List.length x0 : Int) : Int) = (List.length x1 : Int))) then
 some false
 else
 (loopO (S := Int) (X := (Unit) ⊕ (Bool)) (fun (s10 : Int) =>
 bif (decide ((s10 : Int) < (List.length x0 : Int))) then
 bif (inB s10 x0) then
 bif (inB s10 x1) then
 (F_laws_eqVote (List.getD x0 (Int.toNat s10) (0, (0, (0, ((0, 0), 0))))) (List.getD x1 (Int.toNat s10) (0, (0, (0, ((0, 0), 0)))))).bind fun (y11 : Bool) =>
 bif (!y11) then
 some (Sum.inr (Sum.inr false))
 else
 some (Sum.inl (IntKind.wrap .i64 (s10 + 1)))
 else none
 else none
 else
 some (Sum.inr (Sum.inl ()))) 0).bind fun (j12 : (Unit) ⊕ (Bool)) =>
 Sum.elim (fun (j13 : Unit) =>
 some true) (fun (j14 : Bool) =>
 some j14) j12
noncomputable def K_laws_eqVoteS : Callee := { ins := [.v (.list s8) .z, .v (.list s8) .z], outs := [(.bool, .z)], F := fun t => F_laws_eqVoteS t.1 t.2.1 }
noncomputable def X_laws_eqVoteS : Ctx := { tys := tys, fns := [(148, K_laws_eqVote)], frz := [], lps := [(4, (⟨[(0, .keep), (1, .keep), (5, .st (.int .i64) .z false)], []⟩, ⟨[((.exit 0), ⟨[], []⟩), (.ret, ⟨[(4, .st .bool .z false)], []⟩)]⟩))], jns := [], rjs := [] }

noncomputable def F_laws_eqInt64SS (x0 : List (List Int)) (x1 : List (List Int)) : Option (Bool) :=
 bif (!decide (((List.length x0 : Int) : Int) = (List.length x1 : Int))) then
 some false
 else
 (loopO (S := Int) (X := (Unit) ⊕ (Bool)) (fun (s10 : Int) =>
 bif (decide ((s10 : Int) < (List.length x0 : Int))) then
 bif (inB s10 x0) then
 bif (inB s10 x1) then
 (F_laws_eqInt64S (List.getD x0 (Int.toNat s10) []) (List.getD x1 (Int.toNat s10) [])).bind fun (y11 : Bool) =>
 bif (!y11) then
 some (Sum.inr (Sum.inr false))
 else
 some (Sum.inl (IntKind.wrap .i64 (s10 + 1)))
 else none
 else none
 else
 some (Sum.inr (Sum.inl ()))) 0).bind fun (j12 : (Unit) ⊕ (Bool)) =>
 Sum.elim (fun (j13 : Unit) =>
 some true) (fun (j14 : Bool) =>
 some j14) j12
noncomputable def K_laws_eqInt64SS : Callee := { ins := [.v (.list (.list (.int .i64))) .z, .v (.list (.list (.int .i64))) .z], outs := [(.bool, .z)], F := fun t => F_laws_eqInt64SS t.1 t.2.1 }
noncomputable def X_laws_eqInt64SS : Ctx := { tys := tys, fns := [(76, K_laws_eqInt64S)], frz := [], lps := [(4, (⟨[(0, .keep), (1, .keep), (5, .st (.int .i64) .z false)], []⟩, ⟨[((.exit 0), ⟨[], []⟩), (.ret, ⟨[(4, .st .bool .z false)], []⟩)]⟩))], jns := [], rjs := [] }

noncomputable def F_laws_eqCluster (x0 : (List Int × Int) × List Int × List (Int × Int × Int) × List (Int × Int × List ((Int × Int) × Int)) × List (Int × Int × Int × (Int × Int) × Int) × List (List Int)) (x1 : (List Int × Int) × List Int × List (Int × Int × Int) × List (Int × Int × List ((Int × Int) × Int)) × List (Int × Int × Int × (Int × Int) × Int) × List (List Int)) : Option (Bool) :=
 (F_laws_eqQuorum x0.1 x1.1).bind fun (y7 : Bool) =>
 bif (!y7) then
 some false
 else
 (F_laws_eqInt64S x0.2.1 x1.2.1).bind fun (y8 : Bool) =>
 bif (!y8) then
 some false
 else
 (F_laws_eqNodeS x0.2.2.1 x1.2.2.1).bind fun (y9 : Bool) =>
 bif (!y9) then
 some false
 else
 (F_laws_eqVoterS x0.2.2.2.1 x1.2.2.2.1).bind fun (y10 : Bool) =>
 bif (!y10) then
 some false
 else
 (F_laws_eqVoteS x0.2.2.2.2.1 x1.2.2.2.2.1).bind fun (y11 : Bool) =>
 bif (!y11) then
 some false
 else
 (F_laws_eqInt64SS x0.2.2.2.2.2 x1.2.2.2.2.2).bind fun (y12 : Bool) =>
 bif (!y12) then
 some false
 else
 some true
noncomputable def K_laws_eqCluster : Callee := { ins := [.v s13 .z, .v s13 .z], outs := [(.bool, .z)], F := fun t => F_laws_eqCluster t.1 t.2.1 }
noncomputable def X_laws_eqCluster : Ctx := { tys := tys, fns := [(75, K_laws_eqQuorum), (76, K_laws_eqInt64S), (77, K_laws_eqNodeS), (78, K_laws_eqVoterS), (79, K_laws_eqVoteS), (80, K_laws_eqInt64SS)], frz := [], lps := [], jns := [], rjs := [] }

noncomputable def F_laws_FnExactPremiseOf (x0 : (List Int × Int) × List Int × List (Int × Int × Int) × List (Int × Int × List ((Int × Int) × Int)) × List (Int × Int × Int × (Int × Int) × Int) × List (List Int)) : Option (Bool) :=
 (F_laws_szCluster x0 1048576).bind fun (y8 : Int) =>
 bif (decide ((y8 : Int) < 0)) then
 some true
 else
 (F_laws_toCluster x0).bind fun (y9 : (List Int × Int) × List Int × List (Int × Int × Int) × List (Int × Int × List ((Int × Int) × Int)) × List (Int × Int × Int × (Int × Int) × Int) × List (List Int)) =>
 (F_spec_PremiseOf y9).bind fun (y10 : Bool) =>
 (F_laws_toCluster x0).bind fun (y11 : (List Int × Int) × List Int × List (Int × Int × Int) × List (Int × Int × List ((Int × Int) × Int)) × List (Int × Int × Int × (Int × Int) × Int) × List (List Int)) =>
 (F_impl_PremiseOf y11).bind fun (y12 : Bool) =>
 bif (!(Sh.beq .bool y12 y10)) then
 some false
 else
 (F_laws_toCluster x0).bind fun (y13 : (List Int × Int) × List Int × List (Int × Int × Int) × List (Int × Int × List ((Int × Int) × Int)) × List (Int × Int × Int × (Int × Int) × Int) × List (List Int)) =>
 (F_laws_eqCluster y11 y13).bind fun (y14 : Bool) =>
 bif (!y14) then
 some false
 else
 some true

noncomputable def F_spec_l11Count (x0 : List (Int × Int × Int × (Int × Int) × Int)) (x1 : List Int × Int) (x2 : Int × Int × Int × (Int × Int) × Int) : Option (Int) :=
 (loopO (S := Int × Int × Int × Int × Int × (Int × Int) × Int) (X := Int) (fun (s13 : Int × Int × Int × Int × Int × (Int × Int) × Int) =>
 bif (decide ((s13.2.1 : Int) < (List.length x1.1 : Int))) then
 bif (inB s13.2.1 x1.1) then
 (loopO (S := Int) (X := Int) (fun (s14 : Int) =>
 bif (decide ((s14 : Int) < (List.length x0 : Int))) then
 bif (inB s14 x0) then
 bif (Sh.beq (.prod (.int .i64) (.prod (.int .i64) (.prod (.int .i64) (.prod (.prod (.int .i64) (.int .i64)) (.int .i64))))) (List.getD x0 (Int.toNat s14) (0, (0, (0, ((0, 0), 0))))) (List.getD x1.1 (Int.toNat s13.2.1) 0, s13.2.2.2)) then
 some (Sum.inr (IntKind.wrap .i64 (s13.1 + 1)))
 else
 some (Sum.inl (IntKind.wrap .i64 (s14 + 1)))
 else none
 else
 some (Sum.inr s13.1)) 0).bind fun (j15 : Int) =>
 some (Sum.inl (j15, (IntKind.wrap .i64 (s13.2.1 + 1), (List.getD x1.1 (Int.toNat s13.2.1) 0, s13.2.2.2))))
 else none
 else
 some (Sum.inr s13.1)) (0, (0, x2))).bind fun (j16 : Int) =>
 some j16

noncomputable def F_spec_l12Locks (x0 : (List Int × Int) × List Int × List (Int × Int × Int) × List (Int × Int × List ((Int × Int) × Int)) × List (Int × Int × Int × (Int × Int) × Int) × List (List Int)) (x1 : List (Int × Int × Int × (Int × Int) × Int)) : Option (List Int) :=
 (loopO (S := List Int × Int) (X := List Int) (fun (s13 : List Int × Int) =>
 bif (decide ((s13.2 : Int) < (List.length x0.2.2.1 : Int))) then
 bif (inB s13.2 x0.2.2.1) then
 (F_spec_l11Count x1 x0.1 (0, (1, ((List.getD x0.2.2.1 (Int.toNat s13.2) (0, (0, 0))).1, ((0, 0), 0))))).bind fun (y14 : Int) =>
 (bif (decide ((x0.1.2 : Int) ≤ y14)) then
 bif (inB s13.2 x0.2.2.1) then
 bif decide (List.length s13.1 + List.length ([(List.getD x0.2.2.1 (Int.toNat s13.2) (0, (0, 0))).1] : List Int) ≤ LIM) then
 some (List.append s13.1 ([(List.getD x0.2.2.1 (Int.toNat s13.2) (0, (0, 0))).1] : List Int))
 else none
 else none
 else
 some s13.1 : Option (List Int)).bind fun (j15 : List Int) =>
 some (Sum.inl (j15, IntKind.wrap .i64 (s13.2 + 1)))
 else none
 else
 some (Sum.inr s13.1)) (([] : List Int), 0)).bind fun (j16 : List Int) =>
 some j16

noncomputable def F_spec_l13Blocks (x0 : (List Int × Int) × List Int × List (Int × Int × Int) × List (Int × Int × List ((Int × Int) × Int)) × List (Int × Int × Int × (Int × Int) × Int) × List (List Int)) : Option (List Int) :=
 (F_spec_l12Locks x0 x0.2.2.2.2.1).bind fun (y2 : List Int) =>
 some y2

noncomputable def F_spec_l9Related (x0 : List (Int × Int × Int)) (x1 : Int) (x2 : Int) : Option (Bool) :=
 ((F_spec_l9Above x0 x1 x2).bind fun (y8 : Bool) =>
 bif y8 then
 some true
 else
 (F_spec_l9Above x0 x2 x1).bind fun (y9 : Bool) =>
 some y9 : Option (Bool)).bind fun (j10 : Bool) =>
 some j10

noncomputable def F_spec_NoFork (x0 : (List Int × Int) × List Int × List (Int × Int × Int) × List (Int × Int × List ((Int × Int) × Int)) × List (Int × Int × Int × (Int × Int) × Int) × List (List Int)) : Option (Bool) :=
 (F_spec_l12Fault x0).bind fun (y23 : Int) =>
 bif (!decide ((y23 : Int) = 0)) then
 some false
 else
 (F_spec_l13Blocks x0).bind fun (y24 : List Int) =>
 (loopO (S := Int) (X := (Unit) ⊕ (Bool)) (fun (s34 : Int) =>
 bif (decide ((s34 : Int) < (List.length y24 : Int))) then
 (loopO (S := Int) (X := (Unit) ⊕ (Bool)) (fun (s37 : Int) =>
 bif (decide ((s37 : Int) < s34)) then
 bif (inB s37 y24) then
 bif (inB s34 y24) then
 (F_spec_l9Related x0.2.2.1 (List.getD y24 (Int.toNat s37) 0) (List.getD y24 (Int.toNat s34) 0)).bind fun (y38 : Bool) =>
 bif (!y38) then
 some (Sum.inr (Sum.inr false))
 else
 some (Sum.inl (IntKind.wrap .i64 (s37 + 1)))
 else none
 else none
 else
 some (Sum.inr (Sum.inl ()))) 0).bind fun (j39 : (Unit) ⊕ (Bool)) =>
 Sum.elim (fun (j40 : Unit) =>
 some (Sum.inl (IntKind.wrap .i64 (s34 + 1)))) (fun (j41 : Bool) =>
 some (Sum.inr (Sum.inr j41))) j39
 else
 some (Sum.inr (Sum.inl ()))) 0).bind fun (j42 : (Unit) ⊕ (Bool)) =>
 Sum.elim (fun (j43 : Unit) =>
 some true) (fun (j44 : Bool) =>
 some j44) j42

noncomputable def F_impl_countFor (x0 : List (Int × Int × Int × (Int × Int) × Int)) (x1 : List Int × Int) (x2 : Int × Int × Int × (Int × Int) × Int) : Option (Int) :=
 (loopO (S := Int × Int × Int × Int × Int × (Int × Int) × Int) (X := Int) (fun (s13 : Int × Int × Int × Int × Int × (Int × Int) × Int) =>
 bif (decide ((s13.2.1 : Int) < (List.length x1.1 : Int))) then
 bif (inB s13.2.1 x1.1) then
 (F_slices_Contains_Limpl_Vote_impl_Vote x0 (List.getD x1.1 (Int.toNat s13.2.1) 0, s13.2.2.2)).bind fun (y14 : Bool) =>
 (bif y14 then
 some (IntKind.wrap .i64 (s13.1 + 1))
 else
 some s13.1 : Option (Int)).bind fun (j15 : Int) =>
 some (Sum.inl (j15, (IntKind.wrap .i64 (s13.2.1 + 1), (List.getD x1.1 (Int.toNat s13.2.1) 0, s13.2.2.2))))
 else none
 else
 some (Sum.inr s13.1)) (0, (0, x2))).bind fun (j16 : Int) =>
 some j16

noncomputable def F_impl_Cluster_lockedBy (x0 : (List Int × Int) × List Int × List (Int × Int × Int) × List (Int × Int × List ((Int × Int) × Int)) × List (Int × Int × Int × (Int × Int) × Int) × List (List Int)) (x1 : List (Int × Int × Int × (Int × Int) × Int)) : Option (List Int) :=
 (loopO (S := List Int × Int) (X := List Int) (fun (s13 : List Int × Int) =>
 bif (decide ((s13.2 : Int) < (List.length x0.2.2.1 : Int))) then
 bif (inB s13.2 x0.2.2.1) then
 (F_impl_countFor x1 x0.1 (0, (1, ((List.getD x0.2.2.1 (Int.toNat s13.2) (0, (0, 0))).1, ((0, 0), 0))))).bind fun (y14 : Int) =>
 (bif (decide ((x0.1.2 : Int) ≤ y14)) then
 bif decide (List.length s13.1 + List.length ([(List.getD x0.2.2.1 (Int.toNat s13.2) (0, (0, 0))).1] : List Int) ≤ LIM) then
 some (List.append s13.1 ([(List.getD x0.2.2.1 (Int.toNat s13.2) (0, (0, 0))).1] : List Int))
 else none
 else
 some s13.1 : Option (List Int)).bind fun (j15 : List Int) =>
 some (Sum.inl (j15, IntKind.wrap .i64 (s13.2 + 1)))
 else none
 else
 some (Sum.inr s13.1)) (([] : List Int), 0)).bind fun (j16 : List Int) =>
 some j16

noncomputable def F_impl_LockedBlocks (x0 : (List Int × Int) × List Int × List (Int × Int × Int) × List (Int × Int × List ((Int × Int) × Int)) × List (Int × Int × Int × (Int × Int) × Int) × List (List Int)) : Option (Int × List Int) :=
 (F_impl_ClusterFault x0).bind fun (y3 : Int) =>
 bif (!decide ((y3 : Int) = 0)) then
 some (y3, [])
 else
 (F_impl_Cluster_lockedBy x0 x0.2.2.2.2.1).bind fun (y4 : List Int) =>
 some (0, y4)

noncomputable def F_impl_related (x0 : List (Int × Int × Int)) (x1 : Int) (x2 : Int) : Option (Bool) :=
 ((F_impl_isAbove x0 x1 x2).bind fun (y8 : Bool) =>
 bif y8 then
 some true
 else
 (F_impl_isAbove x0 x2 x1).bind fun (y9 : Bool) =>
 some y9 : Option (Bool)).bind fun (j10 : Bool) =>
 some j10

noncomputable def F_impl_NoFork_c1 (x0 : Int) (x1 : (List Int × Int) × List Int × List (Int × Int × Int) × List (Int × Int × List ((Int × Int) × Int)) × List (Int × Int × Int × (Int × Int) × Int) × List (List Int)) (x2 : Int) : Option (Bool) :=
 (F_impl_related x1.2.2.1 x2 x0).bind fun (y2 : Bool) =>
 some (!y2)

noncomputable def F_impl_NoFork (x0 : (List Int × Int) × List Int × List (Int × Int × Int) × List (Int × Int × List ((Int × Int) × Int)) × List (Int × Int × Int × (Int × Int) × Int) × List (List Int)) : Option (Bool) :=
 (F_impl_LockedBlocks x0).bind fun (y15 : Int × List Int) =>
 (loopO (S := Int) (X := (Unit) ⊕ (Bool)) (fun (s22 : Int) =>
 bif (decide ((s22 : Int) < (List.length y15.2 : Int))) then
 bif (inB s22 y15.2) then
 bif (cutOk 0 s22 y15.2) then
 (F_slices_ContainsFunc_Lint64_int64 (List.take (Int.toNat (s22 - 0)) (List.drop (Int.toNat 0) y15.2)) (fun (a23 : Int) => (F_impl_NoFork_c1 a23 x0 (List.getD y15.2 (Int.toNat s22) 0)).bind fun r24 => some r24)).bind fun (y25 : Bool) =>
 bif y25 then
 some (Sum.inr (Sum.inr false))
 else
 some (Sum.inl (IntKind.wrap .i64 (s22 + 1)))
 else none
 else none
 else
 some (Sum.inr (Sum.inl ()))) 0).bind fun (j26 : (Unit) ⊕ (Bool)) =>
 Sum.elim (fun (j27 : Unit) =>
 some (decide ((y15.1 : Int) = 0))) (fun (j28 : Bool) =>
 some j28) j26

noncomputable def F_laws_FnExactNoFork (x0 : (List Int × Int) × List Int × List (Int × Int × Int) × List (Int × Int × List ((Int × Int) × Int)) × List (Int × Int × Int × (Int × Int) × Int) × List (List Int)) : Option (Bool) :=
 (F_laws_szCluster x0 1048576).bind fun (y8 : Int) =>
 bif (decide ((y8 : Int) < 0)) then
 some true
 else
 (F_laws_toCluster x0).bind fun (y9 : (List Int × Int) × List Int × List (Int × Int × Int) × List (Int × Int × List ((Int × Int) × Int)) × List (Int × Int × Int × (Int × Int) × Int) × List (List Int)) =>
 (F_spec_NoFork y9).bind fun (y10 : Bool) =>
 (F_laws_toCluster x0).bind fun (y11 : (List Int × Int) × List Int × List (Int × Int × Int) × List (Int × Int × List ((Int × Int) × Int)) × List (Int × Int × Int × (Int × Int) × Int) × List (List Int)) =>
 (F_impl_NoFork y11).bind fun (y12 : Bool) =>
 bif (!(Sh.beq .bool y12 y10)) then
 some false
 else
 (F_laws_toCluster x0).bind fun (y13 : (List Int × Int) × List Int × List (Int × Int × Int) × List (Int × Int × List ((Int × Int) × Int)) × List (Int × Int × Int × (Int × Int) × Int) × List (List Int)) =>
 (F_laws_eqCluster y11 y13).bind fun (y14 : Bool) =>
 bif (!y14) then
 some false
 else
 some true

noncomputable def F_spec_l13Coins (x0 : (List Int × Int) × List Int × List (Int × Int × Int) × List (Int × Int × List ((Int × Int) × Int)) × List (Int × Int × Int × (Int × Int) × Int) × List (List Int)) : Option (List ((Int × Int) × Int)) :=
 (loopO (S := List ((Int × Int) × Int) × Int) (X := List ((Int × Int) × Int)) (fun (s43 : List ((Int × Int) × Int) × Int) =>
 bif (decide ((s43.2 : Int) < (List.length x0.2.2.2.2.1 : Int))) then
 bif (inB s43.2 x0.2.2.2.2.1) then
 (bif (!decide (((List.getD x0.2.2.2.2.1 (Int.toNat s43.2) (0, (0, (0, ((0, 0), 0))))).2.1 : Int) = 2)) then
 some true
 else
 (F_spec_l11Count x0.2.2.2.2.1 x0.1 (List.getD x0.2.2.2.2.1 (Int.toNat s43.2) (0, (0, (0, ((0, 0), 0)))))).bind fun (y45 : Int) =>
 some (decide ((y45 : Int) < x0.1.2)) : Option (Bool)).bind fun (j46 : Bool) =>
 bif j46 then
 some (Sum.inl (s43.1, IntKind.wrap .i64 (s43.2 + 1)))
 else
 (loopO (S := Bool × Int) (X := Bool) (fun (s48 : Bool × Int) =>
 bif (decide ((s48.2 : Int) < (List.length s43.1 : Int))) then
 (bif s48.1 then
 some true
 else
 bif (inB s48.2 s43.1) then
 some (Sh.beq (.prod (.prod (.int .i64) (.int .i64)) (.int .i64)) (List.getD s43.1 (Int.toNat s48.2) ((0, 0), 0)) ((List.getD x0.2.2.2.2.1 (Int.toNat s43.2) (0, (0, (0, ((0, 0), 0))))).2.2.2.1, (List.getD x0.2.2.2.2.1 (Int.toNat s43.2) (0, (0, (0, ((0, 0), 0))))).2.2.2.2))
 else none : Option (Bool)).bind fun (j49 : Bool) =>
 some (Sum.inl (j49, IntKind.wrap .i64 (s48.2 + 1)))
 else
 some (Sum.inr s48.1)) (false, 0)).bind fun (j50 : Bool) =>
 (bif (!j50) then
 bif decide (List.length s43.1 + List.length ([((List.getD x0.2.2.2.2.1 (Int.toNat s43.2) (0, (0, (0, ((0, 0), 0))))).2.2.2.1, (List.getD x0.2.2.2.2.1 (Int.toNat s43.2) (0, (0, (0, ((0, 0), 0))))).2.2.2.2)] : List ((Int × Int) × Int)) ≤ LIM) then
 some (List.append s43.1 ([((List.getD x0.2.2.2.2.1 (Int.toNat s43.2) (0, (0, (0, ((0, 0), 0))))).2.2.2.1, (List.getD x0.2.2.2.2.1 (Int.toNat s43.2) (0, (0, (0, ((0, 0), 0))))).2.2.2.2)] : List ((Int × Int) × Int)))
 else none
 else
 some s43.1 : Option (List ((Int × Int) × Int))).bind fun (j51 : List ((Int × Int) × Int)) =>
 some (Sum.inl (j51, IntKind.wrap .i64 (s43.2 + 1)))
 else none
 else
 some (Sum.inr s43.1)) (([] : List ((Int × Int) × Int)), 0)).bind fun (j52 : List ((Int × Int) × Int)) =>
 some j52

noncomputable def F_spec_NoDouble (x0 : (List Int × Int) × List Int × List (Int × Int × Int) × List (Int × Int × List ((Int × Int) × Int)) × List (Int × Int × Int × (Int × Int) × Int) × List (List Int)) : Option (Bool) :=
 (F_spec_l12Fault x0).bind fun (y17 : Int) =>
 bif (!decide ((y17 : Int) = 0)) then
 some false
 else
 (F_spec_l13Coins x0).bind fun (y18 : List ((Int × Int) × Int)) =>
 (loopO (S := Int) (X := (Unit) ⊕ (Bool)) (fun (s25 : Int) =>
 bif (decide ((s25 : Int) < (List.length y18 : Int))) then
 (loopO (S := Int) (X := (Unit) ⊕ (Bool)) (fun (s26 : Int) =>
 bif (decide ((s26 : Int) < s25)) then
 bif (inB s26 y18) then
 bif (inB s25 y18) then
 bif (Sh.beq (.prod (.int .i64) (.int .i64)) (List.getD y18 (Int.toNat s26) ((0, 0), 0)).1 (List.getD y18 (Int.toNat s25) ((0, 0), 0)).1) then
 some (Sum.inr (Sum.inr false))
 else
 some (Sum.inl (IntKind.wrap .i64 (s26 + 1)))
 else none
 else none
 else
 some (Sum.inr (Sum.inl ()))) 0).bind fun (j27 : (Unit) ⊕ (Bool)) =>
 Sum.elim (fun (j28 : Unit) =>
 some (Sum.inl (IntKind.wrap .i64 (s25 + 1)))) (fun (j29 : Bool) =>
 some (Sum.inr (Sum.inr j29))) j27
 else
 some (Sum.inr (Sum.inl ()))) 0).bind fun (j30 : (Unit) ⊕ (Bool)) =>
 Sum.elim (fun (j31 : Unit) =>
 some true) (fun (j32 : Bool) =>
 some j32) j30

noncomputable def F_slices_Index_Limpl_Choice_impl_Choice (x0 : List ((Int × Int) × Int)) (x1 : (Int × Int) × Int) : Option (Int) :=
 (loopO (S := Int) (X := (Unit) ⊕ (Int)) (fun (s5 : Int) =>
 bif (decide ((s5 : Int) < (List.length x0 : Int))) then
 bif (inB s5 x0) then
 bif (Sh.beq (.prod (.prod (.int .i64) (.int .i64)) (.int .i64)) x1 (List.getD x0 (Int.toNat s5) ((0, 0), 0))) then
 some (Sum.inr (Sum.inr s5))
 else
 some (Sum.inl (IntKind.wrap .i64 (s5 + 1)))
 else none
 else
 some (Sum.inr (Sum.inl ()))) 0).bind fun (j6 : (Unit) ⊕ (Int)) =>
 Sum.elim (fun (j7 : Unit) =>
 some (-1)) (fun (j8 : Int) =>
 some j8) j6

noncomputable def F_slices_Contains_Limpl_Choice_impl_Choice (x0 : List ((Int × Int) × Int)) (x1 : (Int × Int) × Int) : Option (Bool) :=
 (F_slices_Index_Limpl_Choice_impl_Choice x0 x1).bind fun (y2 : Int) =>
 some (decide ((0 : Int) ≤ y2))

noncomputable def F_impl_LockedCoins (x0 : (List Int × Int) × List Int × List (Int × Int × Int) × List (Int × Int × List ((Int × Int) × Int)) × List (Int × Int × Int × (Int × Int) × Int) × List (List Int)) : Option (Int × List ((Int × Int) × Int)) :=
 (F_impl_ClusterFault x0).bind fun (y22 : Int) =>
 bif (!decide ((y22 : Int) = 0)) then
 some (y22, [])
 else
 (loopO (S := List ((Int × Int) × Int) × Int) (X := List ((Int × Int) × Int)) (fun (s35 : List ((Int × Int) × Int) × Int) =>
 bif (decide ((s35.2 : Int) < (List.length x0.2.2.2.2.1 : Int))) then
 bif (inB s35.2 x0.2.2.2.2.1) then
 (bif (decide (((List.getD x0.2.2.2.2.1 (Int.toNat s35.2) (0, (0, (0, ((0, 0), 0))))).2.1 : Int) = 2)) then
 (F_slices_Contains_Limpl_Choice_impl_Choice s35.1 ((List.getD x0.2.2.2.2.1 (Int.toNat s35.2) (0, (0, (0, ((0, 0), 0))))).2.2.2.1, (List.getD x0.2.2.2.2.1 (Int.toNat s35.2) (0, (0, (0, ((0, 0), 0))))).2.2.2.2)).bind fun (y38 : Bool) =>
 bif (!y38) then
 (F_impl_countFor x0.2.2.2.2.1 x0.1 (List.getD x0.2.2.2.2.1 (Int.toNat s35.2) (0, (0, (0, ((0, 0), 0)))))).bind fun (y39 : Int) =>
 some (decide ((x0.1.2 : Int) ≤ y39))
 else
 some false
 else
 some false : Option (Bool)).bind fun (j40 : Bool) =>
 (bif j40 then
 bif decide (List.length s35.1 + List.length ([((List.getD x0.2.2.2.2.1 (Int.toNat s35.2) (0, (0, (0, ((0, 0), 0))))).2.2.2.1, (List.getD x0.2.2.2.2.1 (Int.toNat s35.2) (0, (0, (0, ((0, 0), 0))))).2.2.2.2)] : List ((Int × Int) × Int)) ≤ LIM) then
 some (List.append s35.1 ([((List.getD x0.2.2.2.2.1 (Int.toNat s35.2) (0, (0, (0, ((0, 0), 0))))).2.2.2.1, (List.getD x0.2.2.2.2.1 (Int.toNat s35.2) (0, (0, (0, ((0, 0), 0))))).2.2.2.2)] : List ((Int × Int) × Int)))
 else none
 else
 some s35.1 : Option (List ((Int × Int) × Int))).bind fun (j41 : List ((Int × Int) × Int)) =>
 some (Sum.inl (j41, IntKind.wrap .i64 (s35.2 + 1)))
 else none
 else
 some (Sum.inr s35.1)) (([] : List ((Int × Int) × Int)), 0)).bind fun (j42 : List ((Int × Int) × Int)) =>
 some (0, j42)

noncomputable def F_impl_NoDouble_c1 (x0 : (Int × Int) × Int) (x1 : (Int × Int) × Int) : Option (Bool) :=
 some (Sh.beq (.prod (.int .i64) (.int .i64)) x0.1 x1.1)

noncomputable def F_impl_NoDouble (x0 : (List Int × Int) × List Int × List (Int × Int × Int) × List (Int × Int × List ((Int × Int) × Int)) × List (Int × Int × Int × (Int × Int) × Int) × List (List Int)) : Option (Bool) :=
 (F_impl_LockedCoins x0).bind fun (y15 : Int × List ((Int × Int) × Int)) =>
 (loopO (S := Int) (X := (Unit) ⊕ (Bool)) (fun (s22 : Int) =>
 bif (decide ((s22 : Int) < (List.length y15.2 : Int))) then
 bif (inB s22 y15.2) then
 bif (cutOk 0 s22 y15.2) then
 (F_slices_ContainsFunc_Limpl_Choice_impl_Choice (List.take (Int.toNat (s22 - 0)) (List.drop (Int.toNat 0) y15.2)) (fun (a23 : (Int × Int) × Int) => (F_impl_NoDouble_c1 a23 (List.getD y15.2 (Int.toNat s22) ((0, 0), 0))).bind fun r24 => some r24)).bind fun (y25 : Bool) =>
 bif y25 then
 some (Sum.inr (Sum.inr false))
 else
 some (Sum.inl (IntKind.wrap .i64 (s22 + 1)))
 else none
 else none
 else
 some (Sum.inr (Sum.inl ()))) 0).bind fun (j26 : (Unit) ⊕ (Bool)) =>
 Sum.elim (fun (j27 : Unit) =>
 some (decide ((y15.1 : Int) = 0))) (fun (j28 : Bool) =>
 some j28) j26

noncomputable def F_laws_FnExactNoDouble (x0 : (List Int × Int) × List Int × List (Int × Int × Int) × List (Int × Int × List ((Int × Int) × Int)) × List (Int × Int × Int × (Int × Int) × Int) × List (List Int)) : Option (Bool) :=
 (F_laws_szCluster x0 1048576).bind fun (y8 : Int) =>
 bif (decide ((y8 : Int) < 0)) then
 some true
 else
 (F_laws_toCluster x0).bind fun (y9 : (List Int × Int) × List Int × List (Int × Int × Int) × List (Int × Int × List ((Int × Int) × Int)) × List (Int × Int × Int × (Int × Int) × Int) × List (List Int)) =>
 (F_spec_NoDouble y9).bind fun (y10 : Bool) =>
 (F_laws_toCluster x0).bind fun (y11 : (List Int × Int) × List Int × List (Int × Int × Int) × List (Int × Int × List ((Int × Int) × Int)) × List (Int × Int × Int × (Int × Int) × Int) × List (List Int)) =>
 (F_impl_NoDouble y11).bind fun (y12 : Bool) =>
 bif (!(Sh.beq .bool y12 y10)) then
 some false
 else
 (F_laws_toCluster x0).bind fun (y13 : (List Int × Int) × List Int × List (Int × Int × Int) × List (Int × Int × List ((Int × Int) × Int)) × List (Int × Int × Int × (Int × Int) × Int) × List (List Int)) =>
 (F_laws_eqCluster y11 y13).bind fun (y14 : Bool) =>
 bif (!y14) then
 some false
 else
 some true

noncomputable def F_spec_VotedBy (x0 : (List Int × Int) × List Int × List (Int × Int × Int) × List (Int × Int × List ((Int × Int) × Int)) × List (Int × Int × Int × (Int × Int) × Int) × List (List Int)) (x1 : Int) : Option (Int × List Int) :=
 (F_spec_l12Fault x0).bind fun (y11 : Int) =>
 bif (!decide ((y11 : Int) = 0)) then
 some (y11, [])
 else
 (F_spec_l4Among x0.1.1 x1).bind fun (y12 : Bool) =>
 bif (!y12) then
 some (4, [])
 else
 (loopO (S := Int × Int × List Int) (X := Int × List Int) (fun (s17 : Int × Int × List Int) =>
 bif (decide ((s17.1 : Int) < (List.length x0.2.2.2.2.1 : Int))) then
 (bif (inB s17.1 x0.2.2.2.2.1) then
 bif (decide (((List.getD x0.2.2.2.2.1 (Int.toNat s17.1) (0, (0, (0, ((0, 0), 0))))).1 : Int) = x1)) then
 bif (inB s17.1 x0.2.2.2.2.1) then
 some (decide (((List.getD x0.2.2.2.2.1 (Int.toNat s17.1) (0, (0, (0, ((0, 0), 0))))).2.1 : Int) = 1))
 else none
 else
 some false
 else none : Option (Bool)).bind fun (j18 : Bool) =>
 (bif j18 then
 bif (inB s17.1 x0.2.2.2.2.1) then
 bif decide (List.length s17.2.2 + List.length ([(List.getD x0.2.2.2.2.1 (Int.toNat s17.1) (0, (0, (0, ((0, 0), 0))))).2.2.1] : List Int) ≤ LIM) then
 some (s17.2.1, List.append s17.2.2 ([(List.getD x0.2.2.2.2.1 (Int.toNat s17.1) (0, (0, (0, ((0, 0), 0))))).2.2.1] : List Int))
 else none
 else none
 else
 some s17.2 : Option (Int × List Int)).bind fun (j19 : Int × List Int) =>
 some (Sum.inl (IntKind.wrap .i64 (s17.1 + 1), j19))
 else
 some (Sum.inr s17.2)) (0, (0, []))).bind fun (j20 : Int × List Int) =>
 some j20

noncomputable def F_impl_VotedBy (x0 : (List Int × Int) × List Int × List (Int × Int × Int) × List (Int × Int × List ((Int × Int) × Int)) × List (Int × Int × Int × (Int × Int) × Int) × List (List Int)) (x1 : Int) : Option (Int × List Int) :=
 (F_impl_ClusterFault x0).bind fun (y11 : Int) =>
 bif (!decide ((y11 : Int) = 0)) then
 some (y11, [])
 else
 (F_slices_Contains_Lint64_int64 x0.1.1 x1).bind fun (y12 : Bool) =>
 bif (!y12) then
 some (4, [])
 else
 (loopO (S := List Int × Int) (X := List Int) (fun (s17 : List Int × Int) =>
 bif (decide ((s17.2 : Int) < (List.length x0.2.2.2.2.1 : Int))) then
 bif (inB s17.2 x0.2.2.2.2.1) then
 (bif (decide (((List.getD x0.2.2.2.2.1 (Int.toNat s17.2) (0, (0, (0, ((0, 0), 0))))).1 : Int) = x1)) then
 some (decide (((List.getD x0.2.2.2.2.1 (Int.toNat s17.2) (0, (0, (0, ((0, 0), 0))))).2.1 : Int) = 1))
 else
 some false : Option (Bool)).bind fun (j18 : Bool) =>
 (bif j18 then
 bif decide (List.length s17.1 + List.length ([(List.getD x0.2.2.2.2.1 (Int.toNat s17.2) (0, (0, (0, ((0, 0), 0))))).2.2.1] : List Int) ≤ LIM) then
 some (List.append s17.1 ([(List.getD x0.2.2.2.2.1 (Int.toNat s17.2) (0, (0, (0, ((0, 0), 0))))).2.2.1] : List Int))
 else none
 else
 some s17.1 : Option (List Int)).bind fun (j19 : List Int) =>
 some (Sum.inl (j19, IntKind.wrap .i64 (s17.2 + 1)))
 else none
 else
 some (Sum.inr s17.1)) (([] : List Int), 0)).bind fun (j20 : List Int) =>
 some (0, j20)

noncomputable def F_laws_eqIntsResult (x0 : Int × List Int) (x1 : Int × List Int) : Option (Bool) :=
 bif (!decide ((x0.1 : Int) = x1.1)) then
 some false
 else
 (F_laws_eqInt64S x0.2 x1.2).bind fun (y2 : Bool) =>
 bif (!y2) then
 some false
 else
 some true

noncomputable def F_laws_markInt64S (x0 : List Int) (x1 : Int) : Option (Int × List Int) :=
 (loopO (S := List Int × Int × Int) (X := List Int × Int) (fun (s3 : List Int × Int × Int) =>
 bif (decide ((s3.2.2 : Int) < (List.length s3.1 : Int))) then
 bif (inB s3.2.2 s3.1) then
 some (Sum.inl (List.set s3.1 (Int.toNat s3.2.2) s3.2.1, (IntKind.wrap .i64 (s3.2.1 + 1), IntKind.wrap .i64 (s3.2.2 + 1))))
 else none
 else
 some (Sum.inr (s3.1, s3.2.1))) (x0, (x1, 0))).bind fun (j4 : List Int × Int) =>
 some (j4.2, j4.1)
noncomputable def K_laws_markInt64S : Callee := { ins := [.mu (.list (.int .i64)) (.o .z) (.o .z), .v (.int .i64) .z], outs := [((.int .i64), .z)], F := fun t => F_laws_markInt64S t.1 t.2.1 }
noncomputable def X_laws_markInt64S : Ctx := { tys := tys, fns := [], frz := [], lps := [(2, (⟨[(0, .st (.list (.int .i64)) (.o .z) false), (1, .st (.int .i64) .z false), (5, .st (.int .i64) .z false)], []⟩, ⟨[((.exit 0), ⟨[(0, .st (.list (.int .i64)) (.o .z) false), (1, .st (.int .i64) .z false)], []⟩)]⟩))], jns := [], rjs := [] }

noncomputable def F_laws_markQuorum (x0 : List Int × Int) (x1 : Int) : Option (Int × List Int × Int) :=
 (F_laws_markInt64S x0.1 x1).bind fun (y2 : Int × List Int) =>
 some (y2.1, (y2.2, x0.2))
noncomputable def K_laws_markQuorum : Callee := { ins := [.mu s0 (.p (.o .z) .z) (.p (.o .z) .z), .v (.int .i64) .z], outs := [((.int .i64), .z)], F := fun t => F_laws_markQuorum t.1 t.2.1 }
noncomputable def X_laws_markQuorum : Ctx := { tys := tys, fns := [(92, K_laws_markInt64S)], frz := [], lps := [], jns := [], rjs := [] }

noncomputable def F_laws_markNodeS (x0 : List (Int × Int × Int)) (x1 : Int) : Option (Int × List (Int × Int × Int)) :=
 (loopO (S := List (Int × Int × Int) × Int × Int) (X := List (Int × Int × Int) × Int) (fun (s8 : List (Int × Int × Int) × Int × Int) =>
 bif (decide ((s8.2.2 : Int) < (List.length s8.1 : Int))) then
 bif (inB s8.2.2 s8.1) then
 bif (inB s8.2.2 (List.set s8.1 (Int.toNat s8.2.2) (s8.2.1, (List.getD s8.1 (Int.toNat s8.2.2) (0, (0, 0))).2))) then
 let z9 : List (Int × Int × Int) := List.set (List.set s8.1 (Int.toNat s8.2.2) (s8.2.1, (List.getD s8.1 (Int.toNat s8.2.2) (0, (0, 0))).2)) (Int.toNat s8.2.2) ((List.getD (List.set s8.1 (Int.toNat s8.2.2) (s8.2.1, (List.getD s8.1 (Int.toNat s8.2.2) (0, (0, 0))).2)) (Int.toNat s8.2.2) (0, (0, 0))).1, (IntKind.wrap .i64 (s8.2.1 + 1), (List.getD (List.set s8.1 (Int.toNat s8.2.2) (s8.2.1, (List.getD s8.1 (Int.toNat s8.2.2) (0, (0, 0))).2)) (Int.toNat s8.2.2) (0, (0, 0))).2.2))
 bif (inB s8.2.2 z9) then
 some (Sum.inl (List.set z9 (Int.toNat s8.2.2) ((List.getD z9 (Int.toNat s8.2.2) (0, (0, 0))).1, ((List.getD z9 (Int.toNat s8.2.2) (0, (0, 0))).2.1, IntKind.wrap .i64 ((IntKind.wrap .i64 (s8.2.1 + 1)) + 1))), (IntKind.wrap .i64 ((IntKind.wrap .i64 ((IntKind.wrap .i64 (s8.2.1 + 1)) + 1)) + 1), IntKind.wrap .i64 (s8.2.2 + 1))))
 else none
 else none
 else none
 else
 some (Sum.inr (s8.1, s8.2.1))) (x0, (x1, 0))).bind fun (j10 : List (Int × Int × Int) × Int) =>
 some (j10.2, j10.1)
noncomputable def K_laws_markNodeS : Callee := { ins := [.mu (.list s2) (.o .z) (.o .z), .v (.int .i64) .z], outs := [((.int .i64), .z)], F := fun t => F_laws_markNodeS t.1 t.2.1 }
noncomputable def X_laws_markNodeS : Ctx := { tys := tys, fns := [], frz := [], lps := [(2, (⟨[(0, .st (.list s2) (.o .z) false), (1, .st (.int .i64) .z false), (5, .st (.int .i64) .z false)], []⟩, ⟨[((.exit 0), ⟨[(0, .st (.list s2) (.o .z) false), (1, .st (.int .i64) .z false)], []⟩)]⟩))], jns := [], rjs := [] }

noncomputable def F_laws_markChoiceS (x0 : List ((Int × Int) × Int)) (x1 : Int) : Option (Int × List ((Int × Int) × Int)) :=
 (loopO (S := List ((Int × Int) × Int) × Int × Int) (X := List ((Int × Int) × Int) × Int) (fun (s8 : List ((Int × Int) × Int) × Int × Int) =>
 bif (decide ((s8.2.2 : Int) < (List.length s8.1 : Int))) then
 bif (inB s8.2.2 s8.1) then
 bif (inB s8.2.2 (List.set s8.1 (Int.toNat s8.2.2) ((s8.2.1, (List.getD s8.1 (Int.toNat s8.2.2) ((0, 0), 0)).1.2), (List.getD s8.1 (Int.toNat s8.2.2) ((0, 0), 0)).2))) then
 let z9 : List ((Int × Int) × Int) := List.set (List.set s8.1 (Int.toNat s8.2.2) ((s8.2.1, (List.getD s8.1 (Int.toNat s8.2.2) ((0, 0), 0)).1.2), (List.getD s8.1 (Int.toNat s8.2.2) ((0, 0), 0)).2)) (Int.toNat s8.2.2) (((List.getD (List.set s8.1 (Int.toNat s8.2.2) ((s8.2.1, (List.getD s8.1 (Int.toNat s8.2.2) ((0, 0), 0)).1.2), (List.getD s8.1 (Int.toNat s8.2.2) ((0, 0), 0)).2)) (Int.toNat s8.2.2) ((0, 0), 0)).1.1, IntKind.wrap .i64 (s8.2.1 + 1)), (List.getD (List.set s8.1 (Int.toNat s8.2.2) ((s8.2.1, (List.getD s8.1 (Int.toNat s8.2.2) ((0, 0), 0)).1.2), (List.getD s8.1 (Int.toNat s8.2.2) ((0, 0), 0)).2)) (Int.toNat s8.2.2) ((0, 0), 0)).2)
 bif (inB s8.2.2 z9) then
 some (Sum.inl (List.set z9 (Int.toNat s8.2.2) ((List.getD z9 (Int.toNat s8.2.2) ((0, 0), 0)).1, IntKind.wrap .i64 ((IntKind.wrap .i64 (s8.2.1 + 1)) + 1)), (IntKind.wrap .i64 ((IntKind.wrap .i64 ((IntKind.wrap .i64 (s8.2.1 + 1)) + 1)) + 1), IntKind.wrap .i64 (s8.2.2 + 1))))
 else none
 else none
 else none
 else
 some (Sum.inr (s8.1, s8.2.1))) (x0, (x1, 0))).bind fun (j10 : List ((Int × Int) × Int) × Int) =>
 some (j10.2, j10.1)
noncomputable def K_laws_markChoiceS : Callee := { ins := [.mu (.list s3) (.o .z) (.o .z), .v (.int .i64) .z], outs := [((.int .i64), .z)], F := fun t => F_laws_markChoiceS t.1 t.2.1 }
noncomputable def X_laws_markChoiceS : Ctx := { tys := tys, fns := [], frz := [], lps := [(2, (⟨[(0, .st (.list s3) (.o .z) false), (1, .st (.int .i64) .z false), (5, .st (.int .i64) .z false)], []⟩, ⟨[((.exit 0), ⟨[(0, .st (.list s3) (.o .z) false), (1, .st (.int .i64) .z false)], []⟩)]⟩))], jns := [], rjs := [] }

noncomputable def F_laws_markVoterS (x0 : List (Int × Int × List ((Int × Int) × Int))) (x1 : Int) : Option (Int × List (Int × Int × List ((Int × Int) × Int))) :=
 (loopO (S := List (Int × Int × List ((Int × Int) × Int)) × Int × Int) (X := List (Int × Int × List ((Int × Int) × Int)) × Int) (fun (s13 : List (Int × Int × List ((Int × Int) × Int)) × Int × Int) =>
 bif (decide ((s13.2.2 : Int) < (List.length s13.1 : Int))) then
 bif (inB s13.2.2 s13.1) then
 bif (inB s13.2.2 (List.set s13.1 (Int.toNat s13.2.2) (s13.2.1, (List.getD s13.1 (Int.toNat s13.2.2) (0, (0, []))).2))) then
 let z14 : List (Int × Int × List ((Int × Int) × Int)) := List.set (List.set s13.1 (Int.toNat s13.2.2) (s13.2.1, (List.getD s13.1 (Int.toNat s13.2.2) (0, (0, []))).2)) (Int.toNat s13.2.2) ((List.getD (List.set s13.1 (Int.toNat s13.2.2) (s13.2.1, (List.getD s13.1 (Int.toNat s13.2.2) (0, (0, []))).2)) (Int.toNat s13.2.2) (0, (0, []))).1, (IntKind.wrap .i64 (s13.2.1 + 1), (List.getD (List.set s13.1 (Int.toNat s13.2.2) (s13.2.1, (List.getD s13.1 (Int.toNat s13.2.2) (0, (0, []))).2)) (Int.toNat s13.2.2) (0, (0, []))).2.2))
 bif (inB s13.2.2 z14) then
 (F_laws_markChoiceS (List.getD z14 (Int.toNat s13.2.2) (0, (0, []))).2.2 (IntKind.wrap .i64 ((IntKind.wrap .i64 (s13.2.1 + 1)) + 1))).bind fun (y15 : Int × List ((Int × Int) × Int)) =>
 some (Sum.inl (List.set z14 (Int.toNat s13.2.2) ((List.getD z14 (Int.toNat s13.2.2) (0, (0, []))).1, ((List.getD z14 (Int.toNat s13.2.2) (0, (0, []))).2.1, y15.2)), (y15.1, IntKind.wrap .i64 (s13.2.2 + 1))))
 else none
 else none
 else none
 else
 some (Sum.inr (s13.1, s13.2.1))) (x0, (x1, 0))).bind fun (j16 : List (Int × Int × List ((Int × Int) × Int)) × Int) =>
 some (j16.2, j16.1)
noncomputable def K_laws_markVoterS : Callee := { ins := [.mu (.list s5) (.o (.p .z (.p .z (.o .z)))) (.o (.p .z (.p .z (.o .z)))), .v (.int .i64) .z], outs := [((.int .i64), .z)], F := fun t => F_laws_markVoterS t.1 t.2.1 }
noncomputable def X_laws_markVoterS : Ctx := { tys := tys, fns := [(104, K_laws_markChoiceS)], frz := [], lps := [(2, (⟨[(0, .st (.list s5) (.o (.p .z (.p .z (.o .z)))) false), (1, .st (.int .i64) .z false), (5, .st (.int .i64) .z false)], []⟩, ⟨[((.exit 0), ⟨[(0, .st (.list s5) (.o (.p .z (.p .z (.o .z)))) false), (1, .st (.int .i64) .z false)], []⟩)]⟩))], jns := [], rjs := [] }

noncomputable def F_laws_markVoteS (x0 : List (Int × Int × Int × (Int × Int) × Int)) (x1 : Int) : Option (Int × List (Int × Int × Int × (Int × Int) × Int)) :=
 (loopO (S := List (Int × Int × Int × (Int × Int) × Int) × Int × Int) (X := List (Int × Int × Int × (Int × Int) × Int) × Int) (fun (s28 : List (Int × Int × Int × (Int × Int) × Int) × Int × Int) =>
 bif (decide ((s28.2.2 : Int) < (List.length s28.1 : Int))) then
 bif (inB s28.2.2 s28.1) then
 bif (inB s28.2.2 (List.set s28.1 (Int.toNat s28.2.2) (s28.2.1, (List.getD s28.1 (Int.toNat s28.2.2) (0, (0, (0, ((0, 0), 0))))).2))) then
 let z29 : List (Int × Int × Int × (Int × Int) × Int) := List.set (List.set s28.1 (Int.toNat s28.2.2) (s28.2.1, (List.getD s28.1 (Int.toNat s28.2.2) (0, (0, (0, ((0, 0), 0))))).2)) (Int.toNat s28.2.2) ((List.getD (List.set s28.1 (Int.toNat s28.2.2) (s28.2.1, (List.getD s28.1 (Int.toNat s28.2.2) (0, (0, (0, ((0, 0), 0))))).2)) (Int.toNat s28.2.2) (0, (0, (0, ((0, 0), 0))))).1, (IntKind.wrap .i64 (s28.2.1 + 1), (List.getD (List.set s28.1 (Int.toNat s28.2.2) (s28.2.1, (List.getD s28.1 (Int.toNat s28.2.2) (0, (0, (0, ((0, 0), 0))))).2)) (Int.toNat s28.2.2) (0, (0, (0, ((0, 0), 0))))).2.2))
 bif (inB s28.2.2 z29) then
 let z30 : List (Int × Int × Int × (Int × Int) × Int) := List.set z29 (Int.toNat s28.2.2) ((List.getD z29 (Int.toNat s28.2.2) (0, (0, (0, ((0, 0), 0))))).1, ((List.getD z29 (Int.toNat s28.2.2) (0, (0, (0, ((0, 0), 0))))).2.1, (IntKind.wrap .i64 ((IntKind.wrap .i64 (s28.2.1 + 1)) + 1), (List.getD z29 (Int.toNat s28.2.2) (0, (0, (0, ((0, 0), 0))))).2.2.2)))
 bif (inB s28.2.2 z30) then
 let z31 : List (Int × Int × Int × (Int × Int) × Int) := List.set z30 (Int.toNat s28.2.2) ((List.getD z30 (Int.toNat s28.2.2) (0, (0, (0, ((0, 0), 0))))).1, ((List.getD z30 (Int.toNat s28.2.2) (0, (0, (0, ((0, 0), 0))))).2.1, ((List.getD z30 (Int.toNat s28.2.2) (0, (0, (0, ((0, 0), 0))))).2.2.1, ((IntKind.wrap .i64 ((IntKind.wrap .i64 ((IntKind.wrap .i64 (s28.2.1 + 1)) + 1)) + 1), (List.getD z30 (Int.toNat s28.2.2) (0, (0, (0, ((0, 0), 0))))).2.2.2.1.2), (List.getD z30 (Int.toNat s28.2.2) (0, (0, (0, ((0, 0), 0))))).2.2.2.2))))
 bif (inB s28.2.2 z31) then
 let z32 : List (Int × Int × Int × (Int × Int) × Int) := List.set z31 (Int.toNat s28.2.2) ((List.getD z31 (Int.toNat s28.2.2) (0, (0, (0, ((0, 0), 0))))).1, ((List.getD z31 (Int.toNat s28.2.2) (0, (0, (0, ((0, 0), 0))))).2.1, ((List.getD z31 (Int.toNat s28.2.2) (0, (0, (0, ((0, 0), 0))))).2.2.1, (((List.getD z31 (Int.toNat s28.2.2) (0, (0, (0, ((0, 0), 0))))).2.2.2.1.1, IntKind.wrap .i64 ((IntKind.wrap .i64 ((IntKind.wrap .i64 ((IntKind.wrap .i64 (s28.2.1 + 1)) + 1)) + 1)) + 1)), (List.getD z31 (Int.toNat s28.2.2) (0, (0, (0, ((0, 0), 0))))).2.2.2.2))))
 bif (inB s28.2.2 z32) then
 let z33 : List (Int × Int × Int × (Int × Int) × Int) := List.set z32 (Int.toNat s28.2.2) ((List.getD z32 (Int.toNat s28.2.2) (0, (0, (0, ((0, 0), 0))))).1, ((List.getD z32 (Int.toNat s28.2.2) (0, (0, (0, ((0, 0), 0))))).2.1, ((List.getD z32 (Int.toNat s28.2.2) (0, (0, (0, ((0, 0), 0))))).2.2.1, ((List.getD z32 (Int.toNat s28.2.2) (0, (0, (0, ((0, 0), 0))))).2.2.2.1, IntKind.wrap .i64 ((IntKind.wrap .i64 ((IntKind.wrap .i64 ((IntKind.wrap .i64 ((IntKind.wrap .i64 (s28.2.1 + 1)) + 1)) + 1)) + 1)) + 1)))))
 some (Sum.inl (z33, (IntKind.wrap .i64 ((IntKind.wrap .i64 ((IntKind.wrap .i64 ((IntKind.wrap .i64 ((IntKind.wrap .i64 ((IntKind.wrap .i64 (s28.2.1 + 1)) + 1)) + 1)) + 1)) + 1)) + 1), IntKind.wrap .i64 (s28.2.2 + 1))))
 else none
 else none
 else none
 else none
 else none
 else none
 else
 some (Sum.inr (s28.1, s28.2.1))) (x0, (x1, 0))).bind fun (j34 : List (Int × Int × Int × (Int × Int) × Int) × Int) =>
 some (j34.2, j34.1)
noncomputable def K_laws_markVoteS : Callee := { ins := [.mu (.list s8) (.o .z) (.o .z), .v (.int .i64) .z], outs := [((.int .i64), .z)], F := fun t => F_laws_markVoteS t.1 t.2.1 }
noncomputable def X_laws_markVoteS : Ctx := { tys := tys, fns := [], frz := [], lps := [(2, (⟨[(0, .st (.list s8) (.o .z) false), (1, .st (.int .i64) .z false), (5, .st (.int .i64) .z false)], []⟩, ⟨[((.exit 0), ⟨[(0, .st (.list s8) (.o .z) false), (1, .st (.int .i64) .z false)], []⟩)]⟩))], jns := [], rjs := [] }

noncomputable def F_laws_markInt64SS (x0 : List (List Int)) (x1 : Int) : Option (Int × List (List Int)) :=
 (loopO (S := List (List Int) × Int × Int) (X := List (List Int) × Int) (fun (s8 : List (List Int) × Int × Int) =>
 bif (decide ((s8.2.2 : Int) < (List.length s8.1 : Int))) then
 bif (inB s8.2.2 s8.1) then
 (F_laws_markInt64S (List.getD s8.1 (Int.toNat s8.2.2) []) s8.2.1).bind fun (y9 : Int × List Int) =>
 some (Sum.inl (List.set s8.1 (Int.toNat s8.2.2) y9.2, (y9.1, IntKind.wrap .i64 (s8.2.2 + 1))))
 else none
 else
 some (Sum.inr (s8.1, s8.2.1))) (x0, (x1, 0))).bind fun (j10 : List (List Int) × Int) =>
 some (j10.2, j10.1)
noncomputable def K_laws_markInt64SS : Callee := { ins := [.mu (.list (.list (.int .i64))) (.o (.o .z)) (.o (.o .z)), .v (.int .i64) .z], outs := [((.int .i64), .z)], F := fun t => F_laws_markInt64SS t.1 t.2.1 }
noncomputable def X_laws_markInt64SS : Ctx := { tys := tys, fns := [(92, K_laws_markInt64S)], frz := [], lps := [(2, (⟨[(0, .st (.list (.list (.int .i64))) (.o (.o .z)) false), (1, .st (.int .i64) .z false), (5, .st (.int .i64) .z false)], []⟩, ⟨[((.exit 0), ⟨[(0, .st (.list (.list (.int .i64))) (.o (.o .z)) false), (1, .st (.int .i64) .z false)], []⟩)]⟩))], jns := [], rjs := [] }

noncomputable def F_laws_markCluster (x0 : (List Int × Int) × List Int × List (Int × Int × Int) × List (Int × Int × List ((Int × Int) × Int)) × List (Int × Int × Int × (Int × Int) × Int) × List (List Int)) (x1 : Int) : Option (Int × (List Int × Int) × List Int × List (Int × Int × Int) × List (Int × Int × List ((Int × Int) × Int)) × List (Int × Int × Int × (Int × Int) × Int) × List (List Int)) :=
 (F_laws_markQuorum x0.1 x1).bind fun (y7 : Int × List Int × Int) =>
 (F_laws_markInt64S x0.2.1 y7.1).bind fun (y8 : Int × List Int) =>
 (F_laws_markNodeS x0.2.2.1 y8.1).bind fun (y9 : Int × List (Int × Int × Int)) =>
 (F_laws_markVoterS x0.2.2.2.1 y9.1).bind fun (y10 : Int × List (Int × Int × List ((Int × Int) × Int))) =>
 (F_laws_markVoteS x0.2.2.2.2.1 y10.1).bind fun (y11 : Int × List (Int × Int × Int × (Int × Int) × Int)) =>
 (F_laws_markInt64SS x0.2.2.2.2.2 y11.1).bind fun (y12 : Int × List (List Int)) =>
 some (y12.1, (y7.2, (y8.2, (y9.2, (y10.2, (y11.2, y12.2))))))
noncomputable def K_laws_markCluster : Callee := { ins := [.mu s13 (.p (.p (.o .z) .z) (.p (.o .z) (.p (.o .z) (.p (.o (.p .z (.p .z (.o .z)))) (.p (.o .z) (.o (.o .z))))))) (.p (.p (.o .z) .z) (.p (.o .z) (.p (.o .z) (.p (.o (.p .z (.p .z (.o .z)))) (.p (.o .z) (.o (.o .z))))))), .v (.int .i64) .z], outs := [((.int .i64), .z)], F := fun t => F_laws_markCluster t.1 t.2.1 }
noncomputable def X_laws_markCluster : Ctx := { tys := tys, fns := [(91, K_laws_markQuorum), (92, K_laws_markInt64S), (93, K_laws_markNodeS), (94, K_laws_markVoterS), (95, K_laws_markVoteS), (96, K_laws_markInt64SS)], frz := [], lps := [], jns := [], rjs := [] }

noncomputable def F_laws_markIntsResult (x0 : Int × List Int) (x1 : Int) : Option (Int × Int × List Int) :=
 (F_laws_markInt64S x0.2 x1).bind fun (y2 : Int × List Int) =>
 some (y2.1, (x0.1, y2.2))

noncomputable def F_laws_heldInt64S (x0 : List Int) (x1 : Int) : Option (Int) :=
 (loopO (S := Int × Int) (X := (Int) ⊕ (Int)) (fun (s5 : Int × Int) =>
 bif (decide ((s5.2 : Int) < (List.length x0 : Int))) then
 bif (inB s5.2 x0) then
 bif (!decide ((List.getD x0 (Int.toNat s5.2) 0 : Int) = s5.1)) then
 some (Sum.inr (Sum.inr (-1)))
 else
 some (Sum.inl (IntKind.wrap .i64 (s5.1 + 1), IntKind.wrap .i64 (s5.2 + 1)))
 else none
 else
 some (Sum.inr (Sum.inl s5.1))) (x1, 0)).bind fun (j6 : (Int) ⊕ (Int)) =>
 Sum.elim (fun (j7 : Int) =>
 some j7) (fun (j8 : Int) =>
 some j8) j6
noncomputable def K_laws_heldInt64S : Callee := { ins := [.v (.list (.int .i64)) .z, .v (.int .i64) .z], outs := [((.int .i64), .z)], F := fun t => F_laws_heldInt64S t.1 t.2.1 }
noncomputable def X_laws_heldInt64S : Ctx := { tys := tys, fns := [], frz := [], lps := [(2, (⟨[(0, .keep), (1, .st (.int .i64) .z false), (5, .st (.int .i64) .z false)], []⟩, ⟨[((.exit 0), ⟨[(1, .st (.int .i64) .z false)], []⟩), (.ret, ⟨[(4, .st (.int .i64) .z false)], []⟩)]⟩))], jns := [], rjs := [] }

noncomputable def F_laws_heldIntsResult (x0 : Int × List Int) (x1 : Int) : Option (Int) :=
 (F_laws_heldInt64S x0.2 x1).bind fun (y2 : Int) =>
 bif (decide ((y2 : Int) < 0)) then
 some (-1)
 else
 some y2

noncomputable def F_laws_FnExactVotedBy (x0 : (List Int × Int) × List Int × List (Int × Int × Int) × List (Int × Int × List ((Int × Int) × Int)) × List (Int × Int × Int × (Int × Int) × Int) × List (List Int)) (x1 : Int) : Option (Bool) :=
 (F_laws_szCluster x0 1048576).bind fun (y19 : Int) =>
 bif (decide ((y19 : Int) < 0)) then
 some true
 else
 (F_laws_toCluster x0).bind fun (y20 : (List Int × Int) × List Int × List (Int × Int × Int) × List (Int × Int × List ((Int × Int) × Int)) × List (Int × Int × Int × (Int × Int) × Int) × List (List Int)) =>
 (F_spec_VotedBy y20 x1).bind fun (y21 : Int × List Int) =>
 (F_laws_toCluster x0).bind fun (y22 : (List Int × Int) × List Int × List (Int × Int × Int) × List (Int × Int × List ((Int × Int) × Int)) × List (Int × Int × Int × (Int × Int) × Int) × List (List Int)) =>
 (F_impl_VotedBy y22 x1).bind fun (y23 : Int × List Int) =>
 (F_laws_eqIntsResult y23 y21).bind fun (y24 : Bool) =>
 bif (!y24) then
 some false
 else
 (F_laws_toCluster x0).bind fun (y25 : (List Int × Int) × List Int × List (Int × Int × Int) × List (Int × Int × List ((Int × Int) × Int)) × List (Int × Int × Int × (Int × Int) × Int) × List (List Int)) =>
 (F_laws_eqCluster y22 y25).bind fun (y26 : Bool) =>
 bif (!y26) then
 some false
 else
 (F_laws_markCluster y22 1).bind fun (y27 : Int × (List Int × Int) × List Int × List (Int × Int × Int) × List (Int × Int × List ((Int × Int) × Int)) × List (Int × Int × Int × (Int × Int) × Int) × List (List Int)) =>
 (bif (decide ((y27.1 : Int) < 0)) then
 some true
 else
 (F_laws_eqIntsResult y23 y21).bind fun (y29 : Bool) =>
 some (!y29) : Option (Bool)).bind fun (j30 : Bool) =>
 bif j30 then
 some false
 else
 (F_laws_markIntsResult y23 1).bind fun (y31 : Int × Int × List Int) =>
 (F_laws_heldIntsResult y31.2 1).bind fun (y32 : Int) =>
 bif (decide ((y32 : Int) < 0)) then
 some false
 else
 bif (!decide ((y32 : Int) = y31.1)) then
 some false
 else
 (F_laws_toCluster x0).bind fun (y33 : (List Int × Int) × List Int × List (Int × Int × Int) × List (Int × Int × List ((Int × Int) × Int)) × List (Int × Int × Int × (Int × Int) × Int) × List (List Int)) =>
 (F_impl_VotedBy y33 x1).bind fun (y34 : Int × List Int) =>
 (F_laws_eqIntsResult y34 y21).bind fun (y35 : Bool) =>
 bif (!y35) then
 some false
 else
 (F_laws_heldIntsResult y31.2 1).bind fun (y36 : Int) =>
 bif (decide ((y36 : Int) < 0)) then
 some false
 else
 bif (!decide ((y36 : Int) = y31.1)) then
 some false
 else
 some true

noncomputable def F_spec_l12Known (x0 : (List Int × Int) × List Int × List (Int × Int × Int) × List (Int × Int × List ((Int × Int) × Int)) × List (Int × Int × Int × (Int × Int) × Int) × List (List Int)) (x1 : Int) : Option (List (Int × Int × Int × (Int × Int) × Int)) :=
 (loopO (S := List (Int × Int × Int × (Int × Int) × Int) × Int) (X := List (Int × Int × Int × (Int × Int) × Int)) (fun (s3 : List (Int × Int × Int × (Int × Int) × Int) × Int) =>
 bif (inB x1 x0.2.2.2.2.2) then
 bif (decide ((s3.2 : Int) < (List.length (List.getD x0.2.2.2.2.2 (Int.toNat x1) []) : Int))) then
 bif (inB x1 x0.2.2.2.2.2) then
 bif (inB s3.2 (List.getD x0.2.2.2.2.2 (Int.toNat x1) [])) then
 bif (inB (List.getD (List.getD x0.2.2.2.2.2 (Int.toNat x1) []) (Int.toNat s3.2) 0) x0.2.2.2.2.1) then
 bif decide (List.length s3.1 + List.length ([List.getD x0.2.2.2.2.1 (Int.toNat (List.getD (List.getD x0.2.2.2.2.2 (Int.toNat x1) []) (Int.toNat s3.2) 0)) (0, (0, (0, ((0, 0), 0))))] : List (Int × Int × Int × (Int × Int) × Int)) ≤ LIM) then
 some (Sum.inl (List.append s3.1 ([List.getD x0.2.2.2.2.1 (Int.toNat (List.getD (List.getD x0.2.2.2.2.2 (Int.toNat x1) []) (Int.toNat s3.2) 0)) (0, (0, (0, ((0, 0), 0))))] : List (Int × Int × Int × (Int × Int) × Int)), IntKind.wrap .i64 (s3.2 + 1)))
 else none
 else none
 else none
 else none
 else
 some (Sum.inr s3.1)
 else none) (([] : List (Int × Int × Int × (Int × Int) × Int)), 0)).bind fun (j4 : List (Int × Int × Int × (Int × Int) × Int)) =>
 some j4

noncomputable def F_spec_LocksAt (x0 : (List Int × Int) × List Int × List (Int × Int × Int) × List (Int × Int × List ((Int × Int) × Int)) × List (Int × Int × Int × (Int × Int) × Int) × List (List Int)) (x1 : Int) : Option (Int × List Int) :=
 (F_spec_l12Fault x0).bind fun (y5 : Int) =>
 bif (!decide ((y5 : Int) = 0)) then
 some (y5, [])
 else
 (F_spec_l1In x1 0 (IntKind.wrap .i64 ((List.length x0.2.2.2.2.2 : Int) - 1))).bind fun (y6 : Bool) =>
 bif (!y6) then
 some (3, [])
 else
 (F_spec_l12Known x0 x1).bind fun (y7 : List (Int × Int × Int × (Int × Int) × Int)) =>
 (F_spec_l12Locks x0 y7).bind fun (y8 : List Int) =>
 some (0, y8)

noncomputable def F_spec_l9Fits (x0 : List (Int × Int × Int)) (x1 : Int × Int × Int) (x2 : List Int) : Option (Bool) :=
 (loopO (S := Int) (X := (Unit) ⊕ (Bool)) (fun (s30 : Int) =>
 bif (decide ((s30 : Int) < (List.length x2 : Int))) then
 (bif (inB s30 x2) then
 (F_spec_l9Related x0 x1.1 (List.getD x2 (Int.toNat s30) 0)).bind fun (y33 : Bool) =>
 bif (!y33) then
 some true
 else
 bif (inB s30 x2) then
 (F_spec_l9At x0 (List.getD x2 (Int.toNat s30) 0)).bind fun (y34 : Int) =>
 bif (inB y34 x0) then
 some (decide ((x1.2.2 : Int) < (List.getD x0 (Int.toNat y34) (0, (0, 0))).2.2))
 else none
 else none
 else none : Option (Bool)).bind fun (j35 : Bool) =>
 bif j35 then
 some (Sum.inr (Sum.inr false))
 else
 some (Sum.inl (IntKind.wrap .i64 (s30 + 1)))
 else
 some (Sum.inr (Sum.inl ()))) 0).bind fun (j36 : (Unit) ⊕ (Bool)) =>
 Sum.elim (fun (j37 : Unit) =>
 some true) (fun (j38 : Bool) =>
 some j38) j36

noncomputable def F_spec_l9Best (x0 : List (Int × Int × Int)) (x1 : List Int) : Option (Int) :=
 (loopO (S := Int × Int) (X := Int) (fun (s23 : Int × Int) =>
 bif (decide ((s23.2 : Int) < (List.length x0 : Int))) then
 (bif (inB s23.2 x0) then
 (F_spec_l9Fits x0 (List.getD x0 (Int.toNat s23.2) (0, (0, 0))) x1).bind fun (y25 : Bool) =>
 bif y25 then
 bif (decide ((s23.1 : Int) < 0)) then
 some true
 else
 bif (inB s23.2 x0) then
 bif (inB s23.1 x0) then
 some (decide (((List.getD x0 (Int.toNat s23.1) (0, (0, 0))).2.2 : Int) < (List.getD x0 (Int.toNat s23.2) (0, (0, 0))).2.2))
 else none
 else none
 else
 some false
 else none : Option (Bool)).bind fun (j26 : Bool) =>
 (bif j26 then
 some s23.2
 else
 some s23.1 : Option (Int)).bind fun (j27 : Int) =>
 some (Sum.inl (j27, IntKind.wrap .i64 (s23.2 + 1)))
 else
 some (Sum.inr s23.1)) ((-1), 0)).bind fun (j28 : Int) =>
 bif (decide ((j28 : Int) < 0)) then
 some 0
 else
 bif (inB j28 x0) then
 some (List.getD x0 (Int.toNat j28) (0, (0, 0))).1
 else none

noncomputable def F_spec_BestOf (x0 : List (Int × Int × Int)) (x1 : List Int) : Option (Int × Int) :=
 (F_spec_l9Fault x0).bind fun (y10 : Int) =>
 bif (!decide ((y10 : Int) = 0)) then
 some (y10, 0)
 else
 bif (decide ((20 : Int) < (List.length x1 : Int))) then
 some (2, 0)
 else
 (loopO (S := Int) (X := (Unit) ⊕ (Int × Int)) (fun (s13 : Int) =>
 bif (decide ((s13 : Int) < (List.length x1 : Int))) then
 bif (inB s13 x1) then
 (F_spec_l9At x0 (List.getD x1 (Int.toNat s13) 0)).bind fun (y14 : Int) =>
 bif (decide ((y14 : Int) < 0)) then
 some (Sum.inr (Sum.inr (4, 0)))
 else
 some (Sum.inl (IntKind.wrap .i64 (s13 + 1)))
 else none
 else
 some (Sum.inr (Sum.inl ()))) 0).bind fun (j15 : (Unit) ⊕ (Int × Int)) =>
 Sum.elim (fun (j16 : Unit) =>
 (F_spec_l9Best x0 x1).bind fun (y18 : Int) =>
 some (0, y18)) (fun (j17 : Int × Int) =>
 some j17) j15

noncomputable def F_spec_BestFor (x0 : (List Int × Int) × List Int × List (Int × Int × Int) × List (Int × Int × List ((Int × Int) × Int)) × List (Int × Int × Int × (Int × Int) × Int) × List (List Int)) (x1 : Int) : Option (Int × Int) :=
 (F_spec_LocksAt x0 x1).bind fun (y3 : Int × List Int) =>
 bif (!decide ((y3.1 : Int) = 0)) then
 some (y3.1, 0)
 else
 (F_spec_BestOf x0.2.2.1 y3.2).bind fun (y4 : Int × Int) =>
 some y4

noncomputable def F_impl_Cluster_isHearer (x0 : (List Int × Int) × List Int × List (Int × Int × Int) × List (Int × Int × List ((Int × Int) × Int)) × List (Int × Int × Int × (Int × Int) × Int) × List (List Int)) (x1 : Int) : Option (Bool) :=
 (F_impl_within x1 0 (IntKind.wrap .i64 ((List.length x0.2.2.2.2.2 : Int) - 1))).bind fun (y2 : Bool) =>
 some y2
noncomputable def K_impl_Cluster_isHearer : Callee := { ins := [.rp s13 false, .v (.int .i64) .z], outs := [(.bool, .z)], F := fun t => F_impl_Cluster_isHearer t.1 t.2.1 }
noncomputable def X_impl_Cluster_isHearer : Ctx := { tys := tys, fns := [(112, K_impl_within)], frz := [], lps := [], jns := [], rjs := [] }

noncomputable def F_impl_LocksAt (x0 : (List Int × Int) × List Int × List (Int × Int × Int) × List (Int × Int × List ((Int × Int) × Int)) × List (Int × Int × Int × (Int × Int) × Int) × List (List Int)) (x1 : Int) : Option (Int × List Int) :=
 (F_impl_ClusterFault x0).bind fun (y6 : Int) =>
 bif (!decide ((y6 : Int) = 0)) then
 some (y6, [])
 else
 (F_impl_Cluster_isHearer x0 x1).bind fun (y7 : Bool) =>
 bif (!y7) then
 some (3, [])
 else
 bif (inB x1 x0.2.2.2.2.2) then
 (loopO (S := List (Int × Int × Int × (Int × Int) × Int) × Int) (X := List (Int × Int × Int × (Int × Int) × Int)) (fun (s8 : List (Int × Int × Int × (Int × Int) × Int) × Int) =>
 bif (decide ((s8.2 : Int) < (List.length (List.getD x0.2.2.2.2.2 (Int.toNat x1) []) : Int))) then
 bif (inB s8.2 (List.getD x0.2.2.2.2.2 (Int.toNat x1) [])) then
 bif (inB (List.getD (List.getD x0.2.2.2.2.2 (Int.toNat x1) []) (Int.toNat s8.2) 0) x0.2.2.2.2.1) then
 bif decide (List.length s8.1 + List.length ([List.getD x0.2.2.2.2.1 (Int.toNat (List.getD (List.getD x0.2.2.2.2.2 (Int.toNat x1) []) (Int.toNat s8.2) 0)) (0, (0, (0, ((0, 0), 0))))] : List (Int × Int × Int × (Int × Int) × Int)) ≤ LIM) then
 some (Sum.inl (List.append s8.1 ([List.getD x0.2.2.2.2.1 (Int.toNat (List.getD (List.getD x0.2.2.2.2.2 (Int.toNat x1) []) (Int.toNat s8.2) 0)) (0, (0, (0, ((0, 0), 0))))] : List (Int × Int × Int × (Int × Int) × Int)), IntKind.wrap .i64 (s8.2 + 1)))
 else none
 else none
 else none
 else
 some (Sum.inr s8.1)) (([] : List (Int × Int × Int × (Int × Int) × Int)), 0)).bind fun (j9 : List (Int × Int × Int × (Int × Int) × Int)) =>
 (F_impl_Cluster_lockedBy x0 j9).bind fun (y10 : List Int) =>
 some (0, y10)
 else none

noncomputable def F_impl_isIn (x0 : List (Int × Int × Int)) (x1 : Int) : Option (Bool) :=
 (F_impl_findNode x0 x1).bind fun (y2 : Int) =>
 some (decide ((0 : Int) ≤ y2))

noncomputable def F_impl_bestOf_c1 (x0 : Int) (x1 : List (Int × Int × Int)) (x2 : Int × Int × Int) : Option (Bool) :=
 ((F_impl_related x1 x0 x2.1).bind fun (y8 : Bool) =>
 bif (!y8) then
 some true
 else
 (F_impl_findNode x1 x0).bind fun (y9 : Int) =>
 bif (inB y9 x1) then
 some (decide ((x2.2.2 : Int) < (List.getD x1 (Int.toNat y9) (0, (0, 0))).2.2))
 else none : Option (Bool)).bind fun (j10 : Bool) =>
 some j10

noncomputable def F_impl_bestOf (x0 : List (Int × Int × Int)) (x1 : List Int) : Option (Int) :=
 (loopO (S := Int × Int × Int × Int) (X := Int × Int × Int) (fun (s28 : Int × Int × Int × Int) =>
 bif (decide ((s28.1 : Int) < (List.length x0 : Int))) then
 bif (inB s28.1 x0) then
 (F_slices_ContainsFunc_Lint64_int64 x1 (fun (a29 : Int) => (F_impl_bestOf_c1 a29 x0 (List.getD x0 (Int.toNat s28.1) (0, (0, 0)))).bind fun r30 => some r30)).bind fun (y31 : Bool) =>
 (bif (!y31) then
 some (decide ((s28.2.2.2 : Int) < (List.getD x0 (Int.toNat s28.1) (0, (0, 0))).2.2))
 else
 some false : Option (Bool)).bind fun (j32 : Bool) =>
 (bif j32 then
 some (List.getD x0 (Int.toNat s28.1) (0, (0, 0)))
 else
 some s28.2 : Option (Int × Int × Int)).bind fun (j33 : Int × Int × Int) =>
 some (Sum.inl (IntKind.wrap .i64 (s28.1 + 1), j33))
 else none
 else
 some (Sum.inr s28.2)) (0, (0, (0, 0)))).bind fun (j34 : Int × Int × Int) =>
 some j34.1

noncomputable def F_impl_BestOf_c1 (x0 : Int) (x1 : List (Int × Int × Int)) : Option (Bool) :=
 (F_impl_isIn x1 x0).bind fun (y2 : Bool) =>
 some (!y2)

noncomputable def F_impl_BestOf (x0 : List (Int × Int × Int)) (x1 : List Int) : Option (Int × Int) :=
 (F_impl_TreeFault x0).bind fun (y6 : Int) =>
 bif (!decide ((y6 : Int) = 0)) then
 some (y6, 0)
 else
 bif (decide ((20 : Int) < (List.length x1 : Int))) then
 some (2, 0)
 else
 (F_slices_ContainsFunc_Lint64_int64 x1 (fun (a7 : Int) => (F_impl_BestOf_c1 a7 x0).bind fun r8 => some r8)).bind fun (y9 : Bool) =>
 bif y9 then
 some (4, 0)
 else
 (F_impl_bestOf x0 x1).bind fun (y10 : Int) =>
 some (0, y10)

noncomputable def F_impl_BestFor (x0 : (List Int × Int) × List Int × List (Int × Int × Int) × List (Int × Int × List ((Int × Int) × Int)) × List (Int × Int × Int × (Int × Int) × Int) × List (List Int)) (x1 : Int) : Option (Int × Int) :=
 (F_impl_LocksAt x0 x1).bind fun (y3 : Int × List Int) =>
 bif (!decide ((y3.1 : Int) = 0)) then
 some (y3.1, 0)
 else
 (F_impl_BestOf x0.2.2.1 y3.2).bind fun (y4 : Int × Int) =>
 some y4

noncomputable def F_laws_eqIntResult (x0 : Int × Int) (x1 : Int × Int) : Option (Bool) :=
 bif (!decide ((x0.1 : Int) = x1.1)) then
 some false
 else
 bif (!decide ((x0.2 : Int) = x1.2)) then
 some false
 else
 some true

noncomputable def F_laws_FnExactBestFor (x0 : (List Int × Int) × List Int × List (Int × Int × Int) × List (Int × Int × List ((Int × Int) × Int)) × List (Int × Int × Int × (Int × Int) × Int) × List (List Int)) (x1 : Int) : Option (Bool) :=
 (F_laws_szCluster x0 1048576).bind fun (y9 : Int) =>
 bif (decide ((y9 : Int) < 0)) then
 some true
 else
 (F_laws_toCluster x0).bind fun (y10 : (List Int × Int) × List Int × List (Int × Int × Int) × List (Int × Int × List ((Int × Int) × Int)) × List (Int × Int × Int × (Int × Int) × Int) × List (List Int)) =>
 (F_spec_BestFor y10 x1).bind fun (y11 : Int × Int) =>
 (F_laws_toCluster x0).bind fun (y12 : (List Int × Int) × List Int × List (Int × Int × Int) × List (Int × Int × List ((Int × Int) × Int)) × List (Int × Int × Int × (Int × Int) × Int) × List (List Int)) =>
 (F_impl_BestFor y12 x1).bind fun (y13 : Int × Int) =>
 (F_laws_eqIntResult y13 y11).bind fun (y14 : Bool) =>
 bif (!y14) then
 some false
 else
 (F_laws_toCluster x0).bind fun (y15 : (List Int × Int) × List Int × List (Int × Int × Int) × List (Int × Int × List ((Int × Int) × Int)) × List (Int × Int × Int × (Int × Int) × Int) × List (List Int)) =>
 (F_laws_eqCluster y12 y15).bind fun (y16 : Bool) =>
 bif (!y16) then
 some false
 else
 some true

noncomputable def F_spec_LockedBlocks (x0 : (List Int × Int) × List Int × List (Int × Int × Int) × List (Int × Int × List ((Int × Int) × Int)) × List (Int × Int × Int × (Int × Int) × Int) × List (List Int)) : Option (Int × List Int) :=
 (F_spec_l12Fault x0).bind fun (y3 : Int) =>
 bif (!decide ((y3 : Int) = 0)) then
 some (y3, [])
 else
 (F_spec_l13Blocks x0).bind fun (y4 : List Int) =>
 some (0, y4)

noncomputable def F_laws_FnExactLockedBlocks (x0 : (List Int × Int) × List Int × List (Int × Int × Int) × List (Int × Int × List ((Int × Int) × Int)) × List (Int × Int × Int × (Int × Int) × Int) × List (List Int)) : Option (Bool) :=
 (F_laws_szCluster x0 1048576).bind fun (y19 : Int) =>
 bif (decide ((y19 : Int) < 0)) then
 some true
 else
 (F_laws_toCluster x0).bind fun (y20 : (List Int × Int) × List Int × List (Int × Int × Int) × List (Int × Int × List ((Int × Int) × Int)) × List (Int × Int × Int × (Int × Int) × Int) × List (List Int)) =>
 (F_spec_LockedBlocks y20).bind fun (y21 : Int × List Int) =>
 (F_laws_toCluster x0).bind fun (y22 : (List Int × Int) × List Int × List (Int × Int × Int) × List (Int × Int × List ((Int × Int) × Int)) × List (Int × Int × Int × (Int × Int) × Int) × List (List Int)) =>
 (F_impl_LockedBlocks y22).bind fun (y23 : Int × List Int) =>
 (F_laws_eqIntsResult y23 y21).bind fun (y24 : Bool) =>
 bif (!y24) then
 some false
 else
 (F_laws_toCluster x0).bind fun (y25 : (List Int × Int) × List Int × List (Int × Int × Int) × List (Int × Int × List ((Int × Int) × Int)) × List (Int × Int × Int × (Int × Int) × Int) × List (List Int)) =>
 (F_laws_eqCluster y22 y25).bind fun (y26 : Bool) =>
 bif (!y26) then
 some false
 else
 (F_laws_markCluster y22 1).bind fun (y27 : Int × (List Int × Int) × List Int × List (Int × Int × Int) × List (Int × Int × List ((Int × Int) × Int)) × List (Int × Int × Int × (Int × Int) × Int) × List (List Int)) =>
 (bif (decide ((y27.1 : Int) < 0)) then
 some true
 else
 (F_laws_eqIntsResult y23 y21).bind fun (y29 : Bool) =>
 some (!y29) : Option (Bool)).bind fun (j30 : Bool) =>
 bif j30 then
 some false
 else
 (F_laws_markIntsResult y23 1).bind fun (y31 : Int × Int × List Int) =>
 (F_laws_heldIntsResult y31.2 1).bind fun (y32 : Int) =>
 bif (decide ((y32 : Int) < 0)) then
 some false
 else
 bif (!decide ((y32 : Int) = y31.1)) then
 some false
 else
 (F_laws_toCluster x0).bind fun (y33 : (List Int × Int) × List Int × List (Int × Int × Int) × List (Int × Int × List ((Int × Int) × Int)) × List (Int × Int × Int × (Int × Int) × Int) × List (List Int)) =>
 (F_impl_LockedBlocks y33).bind fun (y34 : Int × List Int) =>
 (F_laws_eqIntsResult y34 y21).bind fun (y35 : Bool) =>
 bif (!y35) then
 some false
 else
 (F_laws_heldIntsResult y31.2 1).bind fun (y36 : Int) =>
 bif (decide ((y36 : Int) < 0)) then
 some false
 else
 bif (!decide ((y36 : Int) = y31.1)) then
 some false
 else
 some true

noncomputable def F_spec_LockedCoins (x0 : (List Int × Int) × List Int × List (Int × Int × Int) × List (Int × Int × List ((Int × Int) × Int)) × List (Int × Int × Int × (Int × Int) × Int) × List (List Int)) : Option (Int × List ((Int × Int) × Int)) :=
 (F_spec_l12Fault x0).bind fun (y3 : Int) =>
 bif (!decide ((y3 : Int) = 0)) then
 some (y3, [])
 else
 (F_spec_l13Coins x0).bind fun (y4 : List ((Int × Int) × Int)) =>
 some (0, y4)

noncomputable def F_laws_eqChoicesResult (x0 : Int × List ((Int × Int) × Int)) (x1 : Int × List ((Int × Int) × Int)) : Option (Bool) :=
 bif (!decide ((x0.1 : Int) = x1.1)) then
 some false
 else
 (F_laws_eqChoiceS x0.2 x1.2).bind fun (y2 : Bool) =>
 bif (!y2) then
 some false
 else
 some true

noncomputable def F_laws_markChoicesResult (x0 : Int × List ((Int × Int) × Int)) (x1 : Int) : Option (Int × Int × List ((Int × Int) × Int)) :=
 (F_laws_markChoiceS x0.2 x1).bind fun (y2 : Int × List ((Int × Int) × Int)) =>
 some (y2.1, (x0.1, y2.2))

noncomputable def F_laws_heldChoiceS (x0 : List ((Int × Int) × Int)) (x1 : Int) : Option (Int) :=
 (loopO (S := Int × Int) (X := (Int) ⊕ (Int)) (fun (s5 : Int × Int) =>
 bif (decide ((s5.2 : Int) < (List.length x0 : Int))) then
 bif (inB s5.2 x0) then
 bif (!decide (((List.getD x0 (Int.toNat s5.2) ((0, 0), 0)).1.1 : Int) = s5.1)) then
 some (Sum.inr (Sum.inr (-1)))
 else
 bif (inB s5.2 x0) then
 bif (!decide (((List.getD x0 (Int.toNat s5.2) ((0, 0), 0)).1.2 : Int) = IntKind.wrap .i64 (s5.1 + 1))) then
 some (Sum.inr (Sum.inr (-1)))
 else
 bif (inB s5.2 x0) then
 bif (!decide (((List.getD x0 (Int.toNat s5.2) ((0, 0), 0)).2 : Int) = IntKind.wrap .i64 ((IntKind.wrap .i64 (s5.1 + 1)) + 1))) then
 some (Sum.inr (Sum.inr (-1)))
 else
 some (Sum.inl (IntKind.wrap .i64 ((IntKind.wrap .i64 ((IntKind.wrap .i64 (s5.1 + 1)) + 1)) + 1), IntKind.wrap .i64 (s5.2 + 1)))
 else none
 else none
 else none
 else
 some (Sum.inr (Sum.inl s5.1))) (x1, 0)).bind fun (j6 : (Int) ⊕ (Int)) =>
 Sum.elim (fun (j7 : Int) =>
 some j7) (fun (j8 : Int) =>
 some j8) j6
noncomputable def K_laws_heldChoiceS : Callee := { ins := [.v (.list s3) .z, .v (.int .i64) .z], outs := [((.int .i64), .z)], F := fun t => F_laws_heldChoiceS t.1 t.2.1 }
noncomputable def X_laws_heldChoiceS : Ctx := { tys := tys, fns := [], frz := [], lps := [(2, (⟨[(0, .keep), (1, .st (.int .i64) .z false), (5, .st (.int .i64) .z false)], []⟩, ⟨[((.exit 0), ⟨[(1, .st (.int .i64) .z false)], []⟩), (.ret, ⟨[(4, .st (.int .i64) .z false)], []⟩)]⟩))], jns := [], rjs := [] }

noncomputable def F_laws_heldChoicesResult (x0 : Int × List ((Int × Int) × Int)) (x1 : Int) : Option (Int) :=
 (F_laws_heldChoiceS x0.2 x1).bind fun (y2 : Int) =>
 bif (decide ((y2 : Int) < 0)) then
 some (-1)
 else
 some y2

noncomputable def F_laws_FnExactLockedCoins (x0 : (List Int × Int) × List Int × List (Int × Int × Int) × List (Int × Int × List ((Int × Int) × Int)) × List (Int × Int × Int × (Int × Int) × Int) × List (List Int)) : Option (Bool) :=
 (F_laws_szCluster x0 1048576).bind fun (y19 : Int) =>
 bif (decide ((y19 : Int) < 0)) then
 some true
 else
 (F_laws_toCluster x0).bind fun (y20 : (List Int × Int) × List Int × List (Int × Int × Int) × List (Int × Int × List ((Int × Int) × Int)) × List (Int × Int × Int × (Int × Int) × Int) × List (List Int)) =>
 (F_spec_LockedCoins y20).bind fun (y21 : Int × List ((Int × Int) × Int)) =>
 (F_laws_toCluster x0).bind fun (y22 : (List Int × Int) × List Int × List (Int × Int × Int) × List (Int × Int × List ((Int × Int) × Int)) × List (Int × Int × Int × (Int × Int) × Int) × List (List Int)) =>
 (F_impl_LockedCoins y22).bind fun (y23 : Int × List ((Int × Int) × Int)) =>
 (F_laws_eqChoicesResult y23 y21).bind fun (y24 : Bool) =>
 bif (!y24) then
 some false
 else
 (F_laws_toCluster x0).bind fun (y25 : (List Int × Int) × List Int × List (Int × Int × Int) × List (Int × Int × List ((Int × Int) × Int)) × List (Int × Int × Int × (Int × Int) × Int) × List (List Int)) =>
 (F_laws_eqCluster y22 y25).bind fun (y26 : Bool) =>
 bif (!y26) then
 some false
 else
 (F_laws_markCluster y22 1).bind fun (y27 : Int × (List Int × Int) × List Int × List (Int × Int × Int) × List (Int × Int × List ((Int × Int) × Int)) × List (Int × Int × Int × (Int × Int) × Int) × List (List Int)) =>
 (bif (decide ((y27.1 : Int) < 0)) then
 some true
 else
 (F_laws_eqChoicesResult y23 y21).bind fun (y29 : Bool) =>
 some (!y29) : Option (Bool)).bind fun (j30 : Bool) =>
 bif j30 then
 some false
 else
 (F_laws_markChoicesResult y23 1).bind fun (y31 : Int × Int × List ((Int × Int) × Int)) =>
 (F_laws_heldChoicesResult y31.2 1).bind fun (y32 : Int) =>
 bif (decide ((y32 : Int) < 0)) then
 some false
 else
 bif (!decide ((y32 : Int) = y31.1)) then
 some false
 else
 (F_laws_toCluster x0).bind fun (y33 : (List Int × Int) × List Int × List (Int × Int × Int) × List (Int × Int × List ((Int × Int) × Int)) × List (Int × Int × Int × (Int × Int) × Int) × List (List Int)) =>
 (F_impl_LockedCoins y33).bind fun (y34 : Int × List ((Int × Int) × Int)) =>
 (F_laws_eqChoicesResult y34 y21).bind fun (y35 : Bool) =>
 bif (!y35) then
 some false
 else
 (F_laws_heldChoicesResult y31.2 1).bind fun (y36 : Int) =>
 bif (decide ((y36 : Int) < 0)) then
 some false
 else
 bif (!decide ((y36 : Int) = y31.1)) then
 some false
 else
 some true

noncomputable def F_laws_FnExactLocksAt (x0 : (List Int × Int) × List Int × List (Int × Int × Int) × List (Int × Int × List ((Int × Int) × Int)) × List (Int × Int × Int × (Int × Int) × Int) × List (List Int)) (x1 : Int) : Option (Bool) :=
 (F_laws_szCluster x0 1048576).bind fun (y19 : Int) =>
 bif (decide ((y19 : Int) < 0)) then
 some true
 else
 (F_laws_toCluster x0).bind fun (y20 : (List Int × Int) × List Int × List (Int × Int × Int) × List (Int × Int × List ((Int × Int) × Int)) × List (Int × Int × Int × (Int × Int) × Int) × List (List Int)) =>
 (F_spec_LocksAt y20 x1).bind fun (y21 : Int × List Int) =>
 (F_laws_toCluster x0).bind fun (y22 : (List Int × Int) × List Int × List (Int × Int × Int) × List (Int × Int × List ((Int × Int) × Int)) × List (Int × Int × Int × (Int × Int) × Int) × List (List Int)) =>
 (F_impl_LocksAt y22 x1).bind fun (y23 : Int × List Int) =>
 (F_laws_eqIntsResult y23 y21).bind fun (y24 : Bool) =>
 bif (!y24) then
 some false
 else
 (F_laws_toCluster x0).bind fun (y25 : (List Int × Int) × List Int × List (Int × Int × Int) × List (Int × Int × List ((Int × Int) × Int)) × List (Int × Int × Int × (Int × Int) × Int) × List (List Int)) =>
 (F_laws_eqCluster y22 y25).bind fun (y26 : Bool) =>
 bif (!y26) then
 some false
 else
 (F_laws_markCluster y22 1).bind fun (y27 : Int × (List Int × Int) × List Int × List (Int × Int × Int) × List (Int × Int × List ((Int × Int) × Int)) × List (Int × Int × Int × (Int × Int) × Int) × List (List Int)) =>
 (bif (decide ((y27.1 : Int) < 0)) then
 some true
 else
 (F_laws_eqIntsResult y23 y21).bind fun (y29 : Bool) =>
 some (!y29) : Option (Bool)).bind fun (j30 : Bool) =>
 bif j30 then
 some false
 else
 (F_laws_markIntsResult y23 1).bind fun (y31 : Int × Int × List Int) =>
 (F_laws_heldIntsResult y31.2 1).bind fun (y32 : Int) =>
 bif (decide ((y32 : Int) < 0)) then
 some false
 else
 bif (!decide ((y32 : Int) = y31.1)) then
 some false
 else
 (F_laws_toCluster x0).bind fun (y33 : (List Int × Int) × List Int × List (Int × Int × Int) × List (Int × Int × List ((Int × Int) × Int)) × List (Int × Int × Int × (Int × Int) × Int) × List (List Int)) =>
 (F_impl_LocksAt y33 x1).bind fun (y34 : Int × List Int) =>
 (F_laws_eqIntsResult y34 y21).bind fun (y35 : Bool) =>
 bif (!y35) then
 some false
 else
 (F_laws_heldIntsResult y31.2 1).bind fun (y36 : Int) =>
 bif (decide ((y36 : Int) < 0)) then
 some false
 else
 bif (!decide ((y36 : Int) = y31.1)) then
 some false
 else
 some true

noncomputable def F_spec_l12Err (x0 : Int) : Option (Int × (List Int × Int) × List Int × List (Int × Int × Int) × List (Int × Int × List ((Int × Int) × Int)) × List (Int × Int × Int × (Int × Int) × Int) × List (List Int)) :=
 some (x0, (([], 0), ([], ([], ([], ([], []))))))
noncomputable def K_spec_l12Err : Callee := { ins := [.v (.int .i64) .z], outs := [(s15, (.p .z (.p (.p (.o .z) .z) (.p (.o .z) (.p (.o .z) (.p (.o (.p .z (.p .z (.o .z)))) (.p (.o .z) (.o (.o .z)))))))))], F := fun t => F_spec_l12Err t.1 }
noncomputable def X_spec_l12Err : Ctx := { tys := tys, fns := [], frz := [], lps := [], jns := [], rjs := [] }

noncomputable def F_spec_l11Copy (x0 : Int × Int × List ((Int × Int) × Int)) : Option (Int × Int × List ((Int × Int) × Int)) :=
 bif decide (List.length ([] : List ((Int × Int) × Int)) + List.length x0.2.2 ≤ LIM) then
 some (x0.1, (x0.2.1, List.append ([] : List ((Int × Int) × Int)) x0.2.2))
 else none
noncomputable def K_spec_l11Copy : Callee := { ins := [.v s5 .z], outs := [(s5, (.p .z (.p .z (.o .z))))], F := fun t => F_spec_l11Copy t.1 }
noncomputable def X_spec_l11Copy : Ctx := { tys := tys, fns := [], frz := [], lps := [], jns := [], rjs := [] }

noncomputable def F_spec_l12Copy (x0 : (List Int × Int) × List Int × List (Int × Int × Int) × List (Int × Int × List ((Int × Int) × Int)) × List (Int × Int × Int × (Int × Int) × Int) × List (List Int)) : Option ((List Int × Int) × List Int × List (Int × Int × Int) × List (Int × Int × List ((Int × Int) × Int)) × List (Int × Int × Int × (Int × Int) × Int) × List (List Int)) :=
 bif decide (List.length ([] : List Int) + List.length x0.1.1 ≤ LIM) then
 bif decide (List.length ([] : List Int) + List.length x0.2.1 ≤ LIM) then
 bif decide (List.length ([] : List (Int × Int × Int)) + List.length x0.2.2.1 ≤ LIM) then
 bif decide (List.length ([] : List (Int × Int × Int × (Int × Int) × Int)) + List.length x0.2.2.2.2.1 ≤ LIM) then
 (loopO (S := List (Int × Int × List ((Int × Int) × Int)) × Int) (X := List (Int × Int × List ((Int × Int) × Int))) (fun (s10 : List (Int × Int × List ((Int × Int) × Int)) × Int) =>
 bif (decide ((s10.2 : Int) < (List.length x0.2.2.2.1 : Int))) then
 bif (inB s10.2 x0.2.2.2.1) then
 (F_spec_l11Copy (List.getD x0.2.2.2.1 (Int.toNat s10.2) (0, (0, [])))).bind fun (y11 : Int × Int × List ((Int × Int) × Int)) =>
 bif decide (List.length s10.1 + List.length ([y11] : List (Int × Int × List ((Int × Int) × Int))) ≤ LIM) then
 some (Sum.inl (List.append s10.1 ([y11] : List (Int × Int × List ((Int × Int) × Int))), IntKind.wrap .i64 (s10.2 + 1)))
 else none
 else none
 else
 some (Sum.inr s10.1)) (([] : List (Int × Int × List ((Int × Int) × Int))), 0)).bind fun (j12 : List (Int × Int × List ((Int × Int) × Int))) =>
 (loopO (S := List (List Int) × Int) (X := List (List Int)) (fun (s13 : List (List Int) × Int) =>
 bif (decide ((s13.2 : Int) < (List.length x0.2.2.2.2.2 : Int))) then
 bif (inB s13.2 x0.2.2.2.2.2) then
 bif decide (List.length ([] : List Int) + List.length (List.getD x0.2.2.2.2.2 (Int.toNat s13.2) []) ≤ LIM) then
 bif decide (List.length s13.1 + List.length ([List.append ([] : List Int) (List.getD x0.2.2.2.2.2 (Int.toNat s13.2) [])] : List (List Int)) ≤ LIM) then
 some (Sum.inl (List.append s13.1 ([List.append ([] : List Int) (List.getD x0.2.2.2.2.2 (Int.toNat s13.2) [])] : List (List Int)), IntKind.wrap .i64 (s13.2 + 1)))
 else none
 else none
 else none
 else
 some (Sum.inr s13.1)) (([] : List (List Int)), 0)).bind fun (j14 : List (List Int)) =>
 some ((List.append ([] : List Int) x0.1.1, x0.1.2), (List.append ([] : List Int) x0.2.1, (List.append ([] : List (Int × Int × Int)) x0.2.2.1, (j12, (List.append ([] : List (Int × Int × Int × (Int × Int) × Int)) x0.2.2.2.2.1, j14)))))
 else none
 else none
 else none
 else none
noncomputable def K_spec_l12Copy : Callee := { ins := [.v s13 .z], outs := [(s13, (.p (.p (.o .z) .z) (.p (.o .z) (.p (.o .z) (.p (.o (.p .z (.p .z (.o .z)))) (.p (.o .z) (.o (.o .z))))))))], F := fun t => F_spec_l12Copy t.1 }
noncomputable def X_spec_l12Copy : Ctx := { tys := tys, fns := [(163, K_spec_l11Copy)], frz := [], lps := [(7, (⟨[(1, .keep), (2, .keep), (3, .st (.list s5) (.o (.p .z (.p .z (.o .z)))) false), (4, .st (.int .i64) .z false)], [(1, .keep), (2, .keep)]⟩, ⟨[((.exit 0), ⟨[(1, .keep), (2, .keep), (3, .st (.list s5) (.o (.p .z (.p .z (.o .z)))) false)], [(1, .keep), (2, .keep)]⟩)]⟩)),
  (12, (⟨[(1, .keep), (2, .keep), (3, .keep), (5, .st (.list (.list (.int .i64))) (.o (.o .z)) false), (6, .st (.int .i64) .z false)], [(1, .keep), (2, .keep)]⟩, ⟨[((.exit 2), ⟨[(1, .keep), (2, .keep), (3, .keep), (5, .st (.list (.list (.int .i64))) (.o (.o .z)) false)], [(1, .keep), (2, .keep)]⟩)]⟩))], jns := [], rjs := [] }

noncomputable def F_spec_HearAt (x0 : (List Int × Int) × List Int × List (Int × Int × Int) × List (Int × Int × List ((Int × Int) × Int)) × List (Int × Int × Int × (Int × Int) × Int) × List (List Int)) (x1 : Int) (x2 : Int) : Option (Int × (List Int × Int) × List Int × List (Int × Int × Int) × List (Int × Int × List ((Int × Int) × Int)) × List (Int × Int × Int × (Int × Int) × Int) × List (List Int)) :=
 (F_spec_l12Fault x0).bind fun (y12 : Int) =>
 bif (!decide ((y12 : Int) = 0)) then
 (F_spec_l12Err y12).bind fun (y13 : Int × (List Int × Int) × List Int × List (Int × Int × Int) × List (Int × Int × List ((Int × Int) × Int)) × List (Int × Int × Int × (Int × Int) × Int) × List (List Int)) =>
 some y13
 else
 ((F_spec_l1In x1 0 (IntKind.wrap .i64 ((List.length x0.2.2.2.2.2 : Int) - 1))).bind fun (y16 : Bool) =>
 bif (!y16) then
 some true
 else
 (F_spec_l1In x2 0 (IntKind.wrap .i64 ((List.length x0.2.2.2.2.1 : Int) - 1))).bind fun (y17 : Bool) =>
 some (!y17) : Option (Bool)).bind fun (j18 : Bool) =>
 bif j18 then
 (F_spec_l12Err 3).bind fun (y19 : Int × (List Int × Int) × List Int × List (Int × Int × Int) × List (Int × Int × List ((Int × Int) × Int)) × List (Int × Int × Int × (Int × Int) × Int) × List (List Int)) =>
 some y19
 else
 (F_spec_l12Copy x0).bind fun (y20 : (List Int × Int) × List Int × List (Int × Int × Int) × List (Int × Int × List ((Int × Int) × Int)) × List (Int × Int × Int × (Int × Int) × Int) × List (List Int)) =>
 bif (inB x1 y20.2.2.2.2.2) then
 (F_spec_l4Among (List.getD y20.2.2.2.2.2 (Int.toNat x1) []) x2).bind fun (y21 : Bool) =>
 (bif (!y21) then
 bif (inB x1 y20.2.2.2.2.2) then
 bif decide (List.length (List.getD y20.2.2.2.2.2 (Int.toNat x1) []) + List.length ([x2] : List Int) ≤ LIM) then
 bif (inB x1 y20.2.2.2.2.2) then
 bif (decide (Int.toNat x1 = Int.toNat x1)) then
 some (y20.1, (y20.2.1, (y20.2.2.1, (y20.2.2.2.1, (y20.2.2.2.2.1, List.set y20.2.2.2.2.2 (Int.toNat x1) (List.append (List.getD y20.2.2.2.2.2 (Int.toNat x1) []) ([x2] : List Int)))))))
 else none
 else none
 else none
 else none
 else
 some y20 : Option ((List Int × Int) × List Int × List (Int × Int × Int) × List (Int × Int × List ((Int × Int) × Int)) × List (Int × Int × Int × (Int × Int) × Int) × List (List Int))).bind fun (j22 : (List Int × Int) × List Int × List (Int × Int × Int) × List (Int × Int × List ((Int × Int) × Int)) × List (Int × Int × Int × (Int × Int) × Int) × List (List Int)) =>
 some (0, j22)
 else none
noncomputable def K_spec_HearAt : Callee := { ins := [.v s13 .z, .v (.int .i64) .z, .v (.int .i64) .z], outs := [(s15, (.p .z (.p (.p (.o .z) .z) (.p (.o .z) (.p (.o .z) (.p (.o (.p .z (.p .z (.o .z)))) (.p (.o .z) (.o (.o .z)))))))))], F := fun t => F_spec_HearAt t.1 t.2.1 t.2.2.1 }
noncomputable def X_spec_HearAt : Ctx := { tys := tys, fns := [(65, K_spec_l12Fault), (89, K_spec_l4Among), (106, K_spec_l1In), (110, K_spec_l12Err), (111, K_spec_l12Copy)], frz := [], lps := [], jns := [(8, ⟨[(.normal, ⟨[(6, .keep), (8, .keep)], [(6, .keep), (8, .st s13 (.p (.p (.o .z) .z) (.p (.o .z) (.p (.o .z) (.p (.o (.p .z (.p .z (.o .z)))) (.p (.o .z) (.o (.o .z))))))) true)]⟩)]⟩)], rjs := [(4, ⟨[(1, .keep), (2, .keep), (3, .keep), (6, .keep), (29, .st .bool .z false)], [(3, .keep), (6, .keep)]⟩)], erl := [(8, [0, 1, 2])] }

noncomputable def F_slices_Clone_Limpl_Node_impl_Node (x0 : List (Int × Int × Int)) : Option (List (Int × Int × Int)) :=
 bif List.isEmpty x0 then
 agree (some ([] : List (Int × Int × Int))) (bif decide (List.length ([] : List (Int × Int × Int)) + List.length x0 ≤ LIM) then
 some (List.append ([] : List (Int × Int × Int)) x0)
 else none)
 else
 bif decide (List.length ([] : List (Int × Int × Int)) + List.length x0 ≤ LIM) then
 some (List.append ([] : List (Int × Int × Int)) x0)
 else none
noncomputable def K_slices_Clone_Limpl_Node_impl_Node : Callee := { ins := [.v (.list s2) .z], outs := [((.list s2), (.o .z))], F := fun t => F_slices_Clone_Limpl_Node_impl_Node t.1 }
noncomputable def X_slices_Clone_Limpl_Node_impl_Node : Ctx := { tys := tys, fns := [], frz := [], lps := [], jns := [], rjs := [] }

noncomputable def F_slices_Clone_Limpl_Vote_impl_Vote (x0 : List (Int × Int × Int × (Int × Int) × Int)) : Option (List (Int × Int × Int × (Int × Int) × Int)) :=
 bif List.isEmpty x0 then
 agree (some ([] : List (Int × Int × Int × (Int × Int) × Int))) (bif decide (List.length ([] : List (Int × Int × Int × (Int × Int) × Int)) + List.length x0 ≤ LIM) then
 some (List.append ([] : List (Int × Int × Int × (Int × Int) × Int)) x0)
 else none)
 else
 bif decide (List.length ([] : List (Int × Int × Int × (Int × Int) × Int)) + List.length x0 ≤ LIM) then
 some (List.append ([] : List (Int × Int × Int × (Int × Int) × Int)) x0)
 else none
noncomputable def K_slices_Clone_Limpl_Vote_impl_Vote : Callee := { ins := [.v (.list s8) .z], outs := [((.list s8), (.o .z))], F := fun t => F_slices_Clone_Limpl_Vote_impl_Vote t.1 }
noncomputable def X_slices_Clone_Limpl_Vote_impl_Vote : Ctx := { tys := tys, fns := [], frz := [], lps := [], jns := [], rjs := [] }

noncomputable def F_slices_Clone_Limpl_Choice_impl_Choice (x0 : List ((Int × Int) × Int)) : Option (List ((Int × Int) × Int)) :=
 bif List.isEmpty x0 then
 agree (some ([] : List ((Int × Int) × Int))) (bif decide (List.length ([] : List ((Int × Int) × Int)) + List.length x0 ≤ LIM) then
 some (List.append ([] : List ((Int × Int) × Int)) x0)
 else none)
 else
 bif decide (List.length ([] : List ((Int × Int) × Int)) + List.length x0 ≤ LIM) then
 some (List.append ([] : List ((Int × Int) × Int)) x0)
 else none
noncomputable def K_slices_Clone_Limpl_Choice_impl_Choice : Callee := { ins := [.v (.list s3) .z], outs := [((.list s3), (.o .z))], F := fun t => F_slices_Clone_Limpl_Choice_impl_Choice t.1 }
noncomputable def X_slices_Clone_Limpl_Choice_impl_Choice : Ctx := { tys := tys, fns := [], frz := [], lps := [], jns := [], rjs := [] }

noncomputable def F_impl_ownVoter (x0 : Int × Int × List ((Int × Int) × Int)) : Option (Int × Int × List ((Int × Int) × Int)) :=
 (F_slices_Clone_Limpl_Choice_impl_Choice x0.2.2).bind fun (y2 : List ((Int × Int) × Int)) =>
 some (x0.1, (x0.2.1, y2))
noncomputable def K_impl_ownVoter : Callee := { ins := [.v s5 .z], outs := [(s5, (.p .z (.p .z (.o .z))))], F := fun t => F_impl_ownVoter t.1 }
noncomputable def X_impl_ownVoter : Ctx := { tys := tys, fns := [(205, K_slices_Clone_Limpl_Choice_impl_Choice)], frz := [], lps := [], jns := [], rjs := [] }

noncomputable def F_impl_ownCluster (x0 : (List Int × Int) × List Int × List (Int × Int × Int) × List (Int × Int × List ((Int × Int) × Int)) × List (Int × Int × Int × (Int × Int) × Int) × List (List Int)) : Option ((List Int × Int) × List Int × List (Int × Int × Int) × List (Int × Int × List ((Int × Int) × Int)) × List (Int × Int × Int × (Int × Int) × Int) × List (List Int)) :=
 (F_slices_Clone_Lint64_int64 x0.1.1).bind fun (y15 : List Int) =>
 (F_slices_Clone_Lint64_int64 x0.2.1).bind fun (y16 : List Int) =>
 (F_slices_Clone_Limpl_Node_impl_Node x0.2.2.1).bind fun (y17 : List (Int × Int × Int)) =>
 (F_slices_Clone_Limpl_Vote_impl_Vote x0.2.2.2.2.1).bind fun (y18 : List (Int × Int × Int × (Int × Int) × Int)) =>
 (loopO (S := Int × (List Int × Int) × List Int × List (Int × Int × Int) × List (Int × Int × List ((Int × Int) × Int)) × List (Int × Int × Int × (Int × Int) × Int) × List (List Int)) (X := (List Int × Int) × List Int × List (Int × Int × Int) × List (Int × Int × List ((Int × Int) × Int)) × List (Int × Int × Int × (Int × Int) × Int) × List (List Int)) (fun (s21 : Int × (List Int × Int) × List Int × List (Int × Int × Int) × List (Int × Int × List ((Int × Int) × Int)) × List (Int × Int × Int × (Int × Int) × Int) × List (List Int)) =>
 bif (decide ((s21.1 : Int) < (List.length x0.2.2.2.1 : Int))) then
 bif (inB s21.1 x0.2.2.2.1) then
 (F_impl_ownVoter (List.getD x0.2.2.2.1 (Int.toNat s21.1) (0, (0, [])))).bind fun (y22 : Int × Int × List ((Int × Int) × Int)) =>
 bif decide (List.length s21.2.2.2.2.1 + List.length ([y22] : List (Int × Int × List ((Int × Int) × Int))) ≤ LIM) then
 some (Sum.inl (IntKind.wrap .i64 (s21.1 + 1), (s21.2.1, (s21.2.2.1, (s21.2.2.2.1, (List.append s21.2.2.2.2.1 ([y22] : List (Int × Int × List ((Int × Int) × Int))), s21.2.2.2.2.2))))))
 else none
 else none
 else
 some (Sum.inr s21.2)) (0, ((y15, x0.1.2), (y16, (y17, ([], (y18, []))))))).bind fun (j23 : (List Int × Int) × List Int × List (Int × Int × Int) × List (Int × Int × List ((Int × Int) × Int)) × List (Int × Int × Int × (Int × Int) × Int) × List (List Int)) =>
 (loopO (S := Int × (List Int × Int) × List Int × List (Int × Int × Int) × List (Int × Int × List ((Int × Int) × Int)) × List (Int × Int × Int × (Int × Int) × Int) × List (List Int)) (X := (List Int × Int) × List Int × List (Int × Int × Int) × List (Int × Int × List ((Int × Int) × Int)) × List (Int × Int × Int × (Int × Int) × Int) × List (List Int)) (fun (s26 : Int × (List Int × Int) × List Int × List (Int × Int × Int) × List (Int × Int × List ((Int × Int) × Int)) × List (Int × Int × Int × (Int × Int) × Int) × List (List Int)) =>
 bif (decide ((s26.1 : Int) < (List.length x0.2.2.2.2.2 : Int))) then
 bif (inB s26.1 x0.2.2.2.2.2) then
 (F_slices_Clone_Lint64_int64 (List.getD x0.2.2.2.2.2 (Int.toNat s26.1) [])).bind fun (y27 : List Int) =>
 bif decide (List.length s26.2.2.2.2.2.2 + List.length ([y27] : List (List Int)) ≤ LIM) then
 some (Sum.inl (IntKind.wrap .i64 (s26.1 + 1), (s26.2.1, (s26.2.2.1, (s26.2.2.2.1, (s26.2.2.2.2.1, (s26.2.2.2.2.2.1, List.append s26.2.2.2.2.2.2 ([y27] : List (List Int)))))))))
 else none
 else none
 else
 some (Sum.inr s26.2)) (0, j23)).bind fun (j28 : (List Int × Int) × List Int × List (Int × Int × Int) × List (Int × Int × List ((Int × Int) × Int)) × List (Int × Int × Int × (Int × Int) × Int) × List (List Int)) =>
 some j28
noncomputable def K_impl_ownCluster : Callee := { ins := [.v s13 .z], outs := [(s13, (.p (.p (.o .z) .z) (.p (.o .z) (.p (.o .z) (.p (.o (.p .z (.p .z (.o .z)))) (.p (.o .z) (.o (.o .z))))))))], F := fun t => F_impl_ownCluster t.1 }
noncomputable def X_impl_ownCluster : Ctx := { tys := tys, fns := [(164, K_slices_Clone_Lint64_int64), (165, K_slices_Clone_Limpl_Node_impl_Node), (166, K_slices_Clone_Limpl_Vote_impl_Vote), (167, K_impl_ownVoter)], frz := [], lps := [(4, (⟨[(1, .keep), (2, .keep), (3, .keep), (30, .keep), (31, .keep), (32, .st (.int .i64) .z false)], [(1, .keep), (2, .keep), (3, .st s13 (.p (.p (.o .z) .z) (.p (.o .z) (.p (.o .z) (.p (.o (.p .z (.p .z (.o .z)))) (.p (.o .z) (.o (.o .z))))))) false)]⟩, ⟨[((.exit 0), ⟨[(1, .keep), (2, .keep), (3, .keep)], [(1, .keep), (2, .keep), (3, .st s13 (.p (.p (.o .z) .z) (.p (.o .z) (.p (.o .z) (.p (.o (.p .z (.p .z (.o .z)))) (.p (.o .z) (.o (.o .z))))))) false)]⟩)]⟩)),
  (9, (⟨[(2, .keep), (3, .keep), (45, .keep), (46, .keep), (47, .st (.int .i64) .z false)], [(2, .keep), (3, .st s13 (.p (.p (.o .z) .z) (.p (.o .z) (.p (.o .z) (.p (.o (.p .z (.p .z (.o .z)))) (.p (.o .z) (.o (.o .z))))))) false)]⟩, ⟨[((.exit 2), ⟨[(2, .keep), (3, .keep)], [(2, .keep), (3, .st s13 (.p (.p (.o .z) .z) (.p (.o .z) (.p (.o .z) (.p (.o (.p .z (.p .z (.o .z)))) (.p (.o .z) (.o (.o .z))))))) false)]⟩)]⟩))], jns := [], rjs := [] }

noncomputable def F_impl_HearAt (x0 : (List Int × Int) × List Int × List (Int × Int × Int) × List (Int × Int × List ((Int × Int) × Int)) × List (Int × Int × Int × (Int × Int) × Int) × List (List Int)) (x1 : Int) (x2 : Int) : Option (Int × (List Int × Int) × List Int × List (Int × Int × Int) × List (Int × Int × List ((Int × Int) × Int)) × List (Int × Int × Int × (Int × Int) × Int) × List (List Int)) :=
 (F_impl_ClusterFault x0).bind fun (y10 : Int) =>
 bif (!decide ((y10 : Int) = 0)) then
 some (y10, (([], 0), ([], ([], ([], ([], []))))))
 else
 ((F_impl_Cluster_isHearer x0 x1).bind fun (y13 : Bool) =>
 bif (!y13) then
 some true
 else
 (F_impl_within x2 0 (IntKind.wrap .i64 ((List.length x0.2.2.2.2.1 : Int) - 1))).bind fun (y14 : Bool) =>
 some (!y14) : Option (Bool)).bind fun (j15 : Bool) =>
 bif j15 then
 some (3, (([], 0), ([], ([], ([], ([], []))))))
 else
 (F_impl_ownCluster x0).bind fun (y16 : (List Int × Int) × List Int × List (Int × Int × Int) × List (Int × Int × List ((Int × Int) × Int)) × List (Int × Int × Int × (Int × Int) × Int) × List (List Int)) =>
 bif (inB x1 y16.2.2.2.2.2) then
 (F_slices_Contains_Lint64_int64 (List.getD y16.2.2.2.2.2 (Int.toNat x1) []) x2).bind fun (y17 : Bool) =>
 (bif (!y17) then
 bif (inB x1 y16.2.2.2.2.2) then
 bif decide (List.length (List.getD y16.2.2.2.2.2 (Int.toNat x1) []) + List.length ([x2] : List Int) ≤ LIM) then
 bif (inB x1 y16.2.2.2.2.2) then
 bif (decide (Int.toNat x1 = Int.toNat x1)) then
 some (y16.1, (y16.2.1, (y16.2.2.1, (y16.2.2.2.1, (y16.2.2.2.2.1, List.set y16.2.2.2.2.2 (Int.toNat x1) (List.append (List.getD y16.2.2.2.2.2 (Int.toNat x1) []) ([x2] : List Int)))))))
 else none
 else none
 else none
 else none
 else
 some y16 : Option ((List Int × Int) × List Int × List (Int × Int × Int) × List (Int × Int × List ((Int × Int) × Int)) × List (Int × Int × Int × (Int × Int) × Int) × List (List Int))).bind fun (j18 : (List Int × Int) × List Int × List (Int × Int × Int) × List (Int × Int × List ((Int × Int) × Int)) × List (Int × Int × Int × (Int × Int) × Int) × List (List Int)) =>
 some (0, j18)
 else none
noncomputable def K_impl_HearAt : Callee := { ins := [.v s13 .z, .v (.int .i64) .z, .v (.int .i64) .z], outs := [(s15, (.p .z (.p (.p (.o .z) .z) (.p (.o .z) (.p (.o .z) (.p (.o (.p .z (.p .z (.o .z)))) (.p (.o .z) (.o (.o .z)))))))))], F := fun t => F_impl_HearAt t.1 t.2.1 t.2.2.1 }
noncomputable def X_impl_HearAt : Ctx := { tys := tys, fns := [(73, K_impl_ClusterFault), (90, K_slices_Contains_Lint64_int64), (109, K_impl_Cluster_isHearer), (112, K_impl_within), (113, K_impl_ownCluster)], frz := [], lps := [], jns := [(8, ⟨[(.normal, ⟨[(6, .keep), (8, .keep)], [(6, .keep), (8, .st s13 (.p (.p (.o .z) .z) (.p (.o .z) (.p (.o .z) (.p (.o (.p .z (.p .z (.o .z)))) (.p (.o .z) (.o (.o .z))))))) true)]⟩)]⟩)], rjs := [(4, ⟨[(1, .keep), (2, .keep), (3, .keep), (6, .keep), (26, .st .bool .z false)], [(3, .keep), (6, .keep)]⟩)], erl := [(8, [0, 1, 2])] }

noncomputable def F_laws_eqClusterResult (x0 : Int × (List Int × Int) × List Int × List (Int × Int × Int) × List (Int × Int × List ((Int × Int) × Int)) × List (Int × Int × Int × (Int × Int) × Int) × List (List Int)) (x1 : Int × (List Int × Int) × List Int × List (Int × Int × Int) × List (Int × Int × List ((Int × Int) × Int)) × List (Int × Int × Int × (Int × Int) × Int) × List (List Int)) : Option (Bool) :=
 bif (!decide ((x0.1 : Int) = x1.1)) then
 some false
 else
 (F_laws_eqCluster x0.2 x1.2).bind fun (y2 : Bool) =>
 bif (!y2) then
 some false
 else
 some true
noncomputable def K_laws_eqClusterResult : Callee := { ins := [.v s15 .z, .v s15 .z], outs := [(.bool, .z)], F := fun t => F_laws_eqClusterResult t.1 t.2.1 }
noncomputable def X_laws_eqClusterResult : Ctx := { tys := tys, fns := [(20, K_laws_eqCluster)], frz := [], lps := [], jns := [], rjs := [] }

noncomputable def F_laws_markClusterResult (x0 : Int × (List Int × Int) × List Int × List (Int × Int × Int) × List (Int × Int × List ((Int × Int) × Int)) × List (Int × Int × Int × (Int × Int) × Int) × List (List Int)) (x1 : Int) : Option (Int × Int × (List Int × Int) × List Int × List (Int × Int × Int) × List (Int × Int × List ((Int × Int) × Int)) × List (Int × Int × Int × (Int × Int) × Int) × List (List Int)) :=
 (F_laws_markCluster x0.2 x1).bind fun (y2 : Int × (List Int × Int) × List Int × List (Int × Int × Int) × List (Int × Int × List ((Int × Int) × Int)) × List (Int × Int × Int × (Int × Int) × Int) × List (List Int)) =>
 some (y2.1, (x0.1, y2.2))
noncomputable def K_laws_markClusterResult : Callee := { ins := [.mu s15 (.p .z (.p (.p (.o .z) .z) (.p (.o .z) (.p (.o .z) (.p (.o (.p .z (.p .z (.o .z)))) (.p (.o .z) (.o (.o .z)))))))) (.p .z (.p (.p (.o .z) .z) (.p (.o .z) (.p (.o .z) (.p (.o (.p .z (.p .z (.o .z)))) (.p (.o .z) (.o (.o .z)))))))), .v (.int .i64) .z], outs := [((.int .i64), .z)], F := fun t => F_laws_markClusterResult t.1 t.2.1 }
noncomputable def X_laws_markClusterResult : Ctx := { tys := tys, fns := [(28, K_laws_markCluster)], frz := [], lps := [], jns := [], rjs := [] }

noncomputable def F_laws_heldQuorum (x0 : List Int × Int) (x1 : Int) : Option (Int) :=
 (F_laws_heldInt64S x0.1 x1).bind fun (y2 : Int) =>
 bif (decide ((y2 : Int) < 0)) then
 some (-1)
 else
 some y2
noncomputable def K_laws_heldQuorum : Callee := { ins := [.v s0 .z, .v (.int .i64) .z], outs := [((.int .i64), .z)], F := fun t => F_laws_heldQuorum t.1 t.2.1 }
noncomputable def X_laws_heldQuorum : Ctx := { tys := tys, fns := [(97, K_laws_heldInt64S)], frz := [], lps := [], jns := [], rjs := [] }

noncomputable def F_laws_heldNodeS (x0 : List (Int × Int × Int)) (x1 : Int) : Option (Int) :=
 (loopO (S := Int × Int) (X := (Int) ⊕ (Int)) (fun (s5 : Int × Int) =>
 bif (decide ((s5.2 : Int) < (List.length x0 : Int))) then
 bif (inB s5.2 x0) then
 bif (!decide (((List.getD x0 (Int.toNat s5.2) (0, (0, 0))).1 : Int) = s5.1)) then
 some (Sum.inr (Sum.inr (-1)))
 else
 bif (inB s5.2 x0) then
 bif (!decide (((List.getD x0 (Int.toNat s5.2) (0, (0, 0))).2.1 : Int) = IntKind.wrap .i64 (s5.1 + 1))) then
 some (Sum.inr (Sum.inr (-1)))
 else
 bif (inB s5.2 x0) then
 bif (!decide (((List.getD x0 (Int.toNat s5.2) (0, (0, 0))).2.2 : Int) = IntKind.wrap .i64 ((IntKind.wrap .i64 (s5.1 + 1)) + 1))) then
 some (Sum.inr (Sum.inr (-1)))
 else
 some (Sum.inl (IntKind.wrap .i64 ((IntKind.wrap .i64 ((IntKind.wrap .i64 (s5.1 + 1)) + 1)) + 1), IntKind.wrap .i64 (s5.2 + 1)))
 else none
 else none
 else none
 else
 some (Sum.inr (Sum.inl s5.1))) (x1, 0)).bind fun (j6 : (Int) ⊕ (Int)) =>
 Sum.elim (fun (j7 : Int) =>
 some j7) (fun (j8 : Int) =>
 some j8) j6
noncomputable def K_laws_heldNodeS : Callee := { ins := [.v (.list s2) .z, .v (.int .i64) .z], outs := [((.int .i64), .z)], F := fun t => F_laws_heldNodeS t.1 t.2.1 }
noncomputable def X_laws_heldNodeS : Ctx := { tys := tys, fns := [], frz := [], lps := [(2, (⟨[(0, .keep), (1, .st (.int .i64) .z false), (5, .st (.int .i64) .z false)], []⟩, ⟨[((.exit 0), ⟨[(1, .st (.int .i64) .z false)], []⟩), (.ret, ⟨[(4, .st (.int .i64) .z false)], []⟩)]⟩))], jns := [], rjs := [] }

noncomputable def F_laws_heldVoterS (x0 : List (Int × Int × List ((Int × Int) × Int))) (x1 : Int) : Option (Int) :=
 (loopO (S := Int × Int) (X := (Int) ⊕ (Int)) (fun (s10 : Int × Int) =>
 bif (decide ((s10.2 : Int) < (List.length x0 : Int))) then
 bif (inB s10.2 x0) then
 bif (!decide (((List.getD x0 (Int.toNat s10.2) (0, (0, []))).1 : Int) = s10.1)) then
 some (Sum.inr (Sum.inr (-1)))
 else
 bif (inB s10.2 x0) then
 bif (!decide (((List.getD x0 (Int.toNat s10.2) (0, (0, []))).2.1 : Int) = IntKind.wrap .i64 (s10.1 + 1))) then
 some (Sum.inr (Sum.inr (-1)))
 else
 bif (inB s10.2 x0) then
 (F_laws_heldChoiceS (List.getD x0 (Int.toNat s10.2) (0, (0, []))).2.2 (IntKind.wrap .i64 ((IntKind.wrap .i64 (s10.1 + 1)) + 1))).bind fun (y11 : Int) =>
 bif (decide ((y11 : Int) < 0)) then
 some (Sum.inr (Sum.inr (-1)))
 else
 some (Sum.inl (y11, IntKind.wrap .i64 (s10.2 + 1)))
 else none
 else none
 else none
 else
 some (Sum.inr (Sum.inl s10.1))) (x1, 0)).bind fun (j12 : (Int) ⊕ (Int)) =>
 Sum.elim (fun (j13 : Int) =>
 some j13) (fun (j14 : Int) =>
 some j14) j12
noncomputable def K_laws_heldVoterS : Callee := { ins := [.v (.list s5) .z, .v (.int .i64) .z], outs := [((.int .i64), .z)], F := fun t => F_laws_heldVoterS t.1 t.2.1 }
noncomputable def X_laws_heldVoterS : Ctx := { tys := tys, fns := [(105, K_laws_heldChoiceS)], frz := [], lps := [(2, (⟨[(0, .keep), (1, .st (.int .i64) .z false), (5, .st (.int .i64) .z false)], []⟩, ⟨[((.exit 0), ⟨[(1, .st (.int .i64) .z false)], []⟩), (.ret, ⟨[(4, .st (.int .i64) .z false)], []⟩)]⟩))], jns := [], rjs := [] }

noncomputable def F_laws_heldVoteS (x0 : List (Int × Int × Int × (Int × Int) × Int)) (x1 : Int) : Option (Int) :=
 (loopO (S := Int × Int) (X := (Int) ⊕ (Int)) (fun (s5 : Int × Int) =>
 bif (decide ((s5.2 : Int) < (List.length x0 : Int))) then
 bif (inB s5.2 x0) then
 bif (!decide (((List.getD x0 (Int.toNat s5.2) (0, (0, (0, ((0, 0), 0))))).1 : Int) = s5.1)) then
 some (Sum.inr (Sum.inr (-1)))
 else
 bif (inB s5.2 x0) then
 bif (!decide (((List.getD x0 (Int.toNat s5.2) (0, (0, (0, ((0, 0), 0))))).2.1 : Int) = IntKind.wrap .i64 (s5.1 + 1))) then
 some (Sum.inr (Sum.inr (-1)))
 else
 bif (inB s5.2 x0) then
 bif (!decide (((List.getD x0 (Int.toNat s5.2) (0, (0, (0, ((0, 0), 0))))).2.2.1 : Int) = IntKind.wrap .i64 ((IntKind.wrap .i64 (s5.1 + 1)) + 1))) then
 some (Sum.inr (Sum.inr (-1)))
 else
 bif (inB s5.2 x0) then
 bif (!decide (((List.getD x0 (Int.toNat s5.2) (0, (0, (0, ((0, 0), 0))))).2.2.2.1.1 : Int) = IntKind.wrap .i64 ((IntKind.wrap .i64 ((IntKind.wrap .i64 (s5.1 + 1)) + 1)) + 1))) then
 some (Sum.inr (Sum.inr (-1)))
 else
 bif (inB s5.2 x0) then
 bif (!decide (((List.getD x0 (Int.toNat s5.2) (0, (0, (0, ((0, 0), 0))))).2.2.2.1.2 : Int) = IntKind.wrap .i64 ((IntKind.wrap .i64 ((IntKind.wrap .i64 ((IntKind.wrap .i64 (s5.1 + 1)) + 1)) + 1)) + 1))) then
 some (Sum.inr (Sum.inr (-1)))
 else
 bif (inB s5.2 x0) then
 bif (!decide (((List.getD x0 (Int.toNat s5.2) (0, (0, (0, ((0, 0), 0))))).2.2.2.2 : Int) = IntKind.wrap .i64 ((IntKind.wrap .i64 ((IntKind.wrap .i64 ((IntKind.wrap .i64 ((IntKind.wrap .i64 (s5.1 + 1)) + 1)) + 1)) + 1)) + 1))) then
 some (Sum.inr (Sum.inr (-1)))
 else
 some (Sum.inl (IntKind.wrap .i64 ((IntKind.wrap .i64 ((IntKind.wrap .i64 ((IntKind.wrap .i64 ((IntKind.wrap .i64 ((IntKind.wrap .i64 (s5.1 + 1)) + 1)) + 1)) + 1)) + 1)) + 1), IntKind.wrap .i64 (s5.2 + 1)))
 else none
 else none
 else none
 else none
 else none
 else none
 else
 some (Sum.inr (Sum.inl s5.1))) (x1, 0)).bind fun (j6 : (Int) ⊕ (Int)) =>
 Sum.elim (fun (j7 : Int) =>
 some j7) (fun (j8 : Int) =>
 some j8) j6
noncomputable def K_laws_heldVoteS : Callee := { ins := [.v (.list s8) .z, .v (.int .i64) .z], outs := [((.int .i64), .z)], F := fun t => F_laws_heldVoteS t.1 t.2.1 }
noncomputable def X_laws_heldVoteS : Ctx := { tys := tys, fns := [], frz := [], lps := [(2, (⟨[(0, .keep), (1, .st (.int .i64) .z false), (5, .st (.int .i64) .z false)], []⟩, ⟨[((.exit 0), ⟨[(1, .st (.int .i64) .z false)], []⟩), (.ret, ⟨[(4, .st (.int .i64) .z false)], []⟩)]⟩))], jns := [], rjs := [] }

noncomputable def F_laws_heldInt64SS (x0 : List (List Int)) (x1 : Int) : Option (Int) :=
 (loopO (S := Int × Int) (X := (Int) ⊕ (Int)) (fun (s10 : Int × Int) =>
 bif (decide ((s10.2 : Int) < (List.length x0 : Int))) then
 bif (inB s10.2 x0) then
 (F_laws_heldInt64S (List.getD x0 (Int.toNat s10.2) []) s10.1).bind fun (y11 : Int) =>
 bif (decide ((y11 : Int) < 0)) then
 some (Sum.inr (Sum.inr (-1)))
 else
 some (Sum.inl (y11, IntKind.wrap .i64 (s10.2 + 1)))
 else none
 else
 some (Sum.inr (Sum.inl s10.1))) (x1, 0)).bind fun (j12 : (Int) ⊕ (Int)) =>
 Sum.elim (fun (j13 : Int) =>
 some j13) (fun (j14 : Int) =>
 some j14) j12
noncomputable def K_laws_heldInt64SS : Callee := { ins := [.v (.list (.list (.int .i64))) .z, .v (.int .i64) .z], outs := [((.int .i64), .z)], F := fun t => F_laws_heldInt64SS t.1 t.2.1 }
noncomputable def X_laws_heldInt64SS : Ctx := { tys := tys, fns := [(97, K_laws_heldInt64S)], frz := [], lps := [(2, (⟨[(0, .keep), (1, .st (.int .i64) .z false), (5, .st (.int .i64) .z false)], []⟩, ⟨[((.exit 0), ⟨[(1, .st (.int .i64) .z false)], []⟩), (.ret, ⟨[(4, .st (.int .i64) .z false)], []⟩)]⟩))], jns := [], rjs := [] }

noncomputable def F_laws_heldCluster (x0 : (List Int × Int) × List Int × List (Int × Int × Int) × List (Int × Int × List ((Int × Int) × Int)) × List (Int × Int × Int × (Int × Int) × Int) × List (List Int)) (x1 : Int) : Option (Int) :=
 (F_laws_heldQuorum x0.1 x1).bind fun (y7 : Int) =>
 bif (decide ((y7 : Int) < 0)) then
 some (-1)
 else
 (F_laws_heldInt64S x0.2.1 y7).bind fun (y8 : Int) =>
 bif (decide ((y8 : Int) < 0)) then
 some (-1)
 else
 (F_laws_heldNodeS x0.2.2.1 y8).bind fun (y9 : Int) =>
 bif (decide ((y9 : Int) < 0)) then
 some (-1)
 else
 (F_laws_heldVoterS x0.2.2.2.1 y9).bind fun (y10 : Int) =>
 bif (decide ((y10 : Int) < 0)) then
 some (-1)
 else
 (F_laws_heldVoteS x0.2.2.2.2.1 y10).bind fun (y11 : Int) =>
 bif (decide ((y11 : Int) < 0)) then
 some (-1)
 else
 (F_laws_heldInt64SS x0.2.2.2.2.2 y11).bind fun (y12 : Int) =>
 bif (decide ((y12 : Int) < 0)) then
 some (-1)
 else
 some y12
noncomputable def K_laws_heldCluster : Callee := { ins := [.v s13 .z, .v (.int .i64) .z], outs := [((.int .i64), .z)], F := fun t => F_laws_heldCluster t.1 t.2.1 }
noncomputable def X_laws_heldCluster : Ctx := { tys := tys, fns := [(97, K_laws_heldInt64S), (168, K_laws_heldQuorum), (169, K_laws_heldNodeS), (170, K_laws_heldVoterS), (171, K_laws_heldVoteS), (172, K_laws_heldInt64SS)], frz := [], lps := [], jns := [], rjs := [] }

noncomputable def F_laws_heldClusterResult (x0 : Int × (List Int × Int) × List Int × List (Int × Int × Int) × List (Int × Int × List ((Int × Int) × Int)) × List (Int × Int × Int × (Int × Int) × Int) × List (List Int)) (x1 : Int) : Option (Int) :=
 (F_laws_heldCluster x0.2 x1).bind fun (y2 : Int) =>
 bif (decide ((y2 : Int) < 0)) then
 some (-1)
 else
 some y2
noncomputable def K_laws_heldClusterResult : Callee := { ins := [.v s15 .z, .v (.int .i64) .z], outs := [((.int .i64), .z)], F := fun t => F_laws_heldClusterResult t.1 t.2.1 }
noncomputable def X_laws_heldClusterResult : Ctx := { tys := tys, fns := [(114, K_laws_heldCluster)], frz := [], lps := [], jns := [], rjs := [] }

noncomputable def F_laws_FnExactHearAt (x0 : (List Int × Int) × List Int × List (Int × Int × Int) × List (Int × Int × List ((Int × Int) × Int)) × List (Int × Int × Int × (Int × Int) × Int) × List (List Int)) (x1 : Int) (x2 : Int) : Option (Bool) :=
 (F_laws_szCluster x0 1048576).bind fun (y19 : Int) =>
 bif (decide ((y19 : Int) < 0)) then
 some true
 else
 (F_laws_toCluster x0).bind fun (y20 : (List Int × Int) × List Int × List (Int × Int × Int) × List (Int × Int × List ((Int × Int) × Int)) × List (Int × Int × Int × (Int × Int) × Int) × List (List Int)) =>
 (F_spec_HearAt y20 x1 x2).bind fun (y21 : Int × (List Int × Int) × List Int × List (Int × Int × Int) × List (Int × Int × List ((Int × Int) × Int)) × List (Int × Int × Int × (Int × Int) × Int) × List (List Int)) =>
 (F_laws_toCluster x0).bind fun (y22 : (List Int × Int) × List Int × List (Int × Int × Int) × List (Int × Int × List ((Int × Int) × Int)) × List (Int × Int × Int × (Int × Int) × Int) × List (List Int)) =>
 (F_impl_HearAt y22 x1 x2).bind fun (y23 : Int × (List Int × Int) × List Int × List (Int × Int × Int) × List (Int × Int × List ((Int × Int) × Int)) × List (Int × Int × Int × (Int × Int) × Int) × List (List Int)) =>
 (F_laws_eqClusterResult y23 y21).bind fun (y24 : Bool) =>
 bif (!y24) then
 some false
 else
 (F_laws_toCluster x0).bind fun (y25 : (List Int × Int) × List Int × List (Int × Int × Int) × List (Int × Int × List ((Int × Int) × Int)) × List (Int × Int × Int × (Int × Int) × Int) × List (List Int)) =>
 (F_laws_eqCluster y22 y25).bind fun (y26 : Bool) =>
 bif (!y26) then
 some false
 else
 (F_laws_markCluster y22 1).bind fun (y27 : Int × (List Int × Int) × List Int × List (Int × Int × Int) × List (Int × Int × List ((Int × Int) × Int)) × List (Int × Int × Int × (Int × Int) × Int) × List (List Int)) =>
 (bif (decide ((y27.1 : Int) < 0)) then
 some true
 else
 (F_laws_eqClusterResult y23 y21).bind fun (y29 : Bool) =>
 some (!y29) : Option (Bool)).bind fun (j30 : Bool) =>
 bif j30 then
 some false
 else
 (F_laws_markClusterResult y23 1).bind fun (y31 : Int × Int × (List Int × Int) × List Int × List (Int × Int × Int) × List (Int × Int × List ((Int × Int) × Int)) × List (Int × Int × Int × (Int × Int) × Int) × List (List Int)) =>
 (F_laws_heldClusterResult y31.2 1).bind fun (y32 : Int) =>
 bif (decide ((y32 : Int) < 0)) then
 some false
 else
 bif (!decide ((y32 : Int) = y31.1)) then
 some false
 else
 (F_laws_toCluster x0).bind fun (y33 : (List Int × Int) × List Int × List (Int × Int × Int) × List (Int × Int × List ((Int × Int) × Int)) × List (Int × Int × Int × (Int × Int) × Int) × List (List Int)) =>
 (F_impl_HearAt y33 x1 x2).bind fun (y34 : Int × (List Int × Int) × List Int × List (Int × Int × Int) × List (Int × Int × List ((Int × Int) × Int)) × List (Int × Int × Int × (Int × Int) × Int) × List (List Int)) =>
 (F_laws_eqClusterResult y34 y21).bind fun (y35 : Bool) =>
 bif (!y35) then
 some false
 else
 (F_laws_heldClusterResult y31.2 1).bind fun (y36 : Int) =>
 bif (decide ((y36 : Int) < 0)) then
 some false
 else
 bif (!decide ((y36 : Int) = y31.1)) then
 some false
 else
 some true
noncomputable def K_laws_FnExactHearAt : Callee := { ins := [.v s13 .z, .v (.int .i64) .z, .v (.int .i64) .z], outs := [(.bool, .z)], F := fun t => F_laws_FnExactHearAt t.1 t.2.1 t.2.2.1 }
noncomputable def X_laws_FnExactHearAt : Ctx := { tys := tys, fns := [(16, K_laws_szCluster), (18, K_laws_toCluster), (20, K_laws_eqCluster), (28, K_laws_markCluster), (43, K_spec_HearAt), (44, K_impl_HearAt), (45, K_laws_eqClusterResult), (46, K_laws_markClusterResult), (47, K_laws_heldClusterResult)], frz := [], lps := [], jns := [], rjs := [(14, ⟨[(1, .keep), (2, .keep), (3, .keep), (8, .keep), (10, .keep), (50, .st .bool .z false)], [(3, .keep), (8, .keep), (10, .keep)]⟩)] }

noncomputable def F_spec_AddNode (x0 : List (Int × Int × Int)) (x1 : Int × Int × Int) : Option (Int × List (Int × Int × Int)) :=
 (F_spec_l9Fault x0).bind fun (y3 : Int) =>
 bif (!decide ((y3 : Int) = 0)) then
 some (y3, [])
 else
 (F_spec_l9Node x0 x1).bind fun (y4 : Int) =>
 bif (!decide ((y4 : Int) = 0)) then
 some (y4, [])
 else
 bif (decide ((60 : Int) ≤ (List.length x0 : Int))) then
 some (2, [])
 else
 bif decide (List.length ([] : List (Int × Int × Int)) + List.length x0 ≤ LIM) then
 bif decide (List.length (List.append ([] : List (Int × Int × Int)) x0) + List.length ([x1] : List (Int × Int × Int)) ≤ LIM) then
 some (0, List.append (List.append ([] : List (Int × Int × Int)) x0) ([x1] : List (Int × Int × Int)))
 else none
 else none

noncomputable def F_spec_GrowTree (x0 : (List Int × Int) × List Int × List (Int × Int × Int) × List (Int × Int × List ((Int × Int) × Int)) × List (Int × Int × Int × (Int × Int) × Int) × List (List Int)) (x1 : Int × Int × Int) : Option (Int × (List Int × Int) × List Int × List (Int × Int × Int) × List (Int × Int × List ((Int × Int) × Int)) × List (Int × Int × Int × (Int × Int) × Int) × List (List Int)) :=
 (F_spec_l12Fault x0).bind fun (y6 : Int) =>
 bif (!decide ((y6 : Int) = 0)) then
 (F_spec_l12Err y6).bind fun (y7 : Int × (List Int × Int) × List Int × List (Int × Int × Int) × List (Int × Int × List ((Int × Int) × Int)) × List (Int × Int × Int × (Int × Int) × Int) × List (List Int)) =>
 some y7
 else
 (F_spec_AddNode x0.2.2.1 x1).bind fun (y8 : Int × List (Int × Int × Int)) =>
 bif (!decide ((y8.1 : Int) = 0)) then
 (F_spec_l12Err y8.1).bind fun (y9 : Int × (List Int × Int) × List Int × List (Int × Int × Int) × List (Int × Int × List ((Int × Int) × Int)) × List (Int × Int × Int × (Int × Int) × Int) × List (List Int)) =>
 some y9
 else
 (F_spec_l12Copy x0).bind fun (y10 : (List Int × Int) × List Int × List (Int × Int × Int) × List (Int × Int × List ((Int × Int) × Int)) × List (Int × Int × Int × (Int × Int) × Int) × List (List Int)) =>
 some (0, (y10.1, (y10.2.1, (y8.2, y10.2.2.2))))

noncomputable def F_impl_addNode (x0 : List (Int × Int × Int)) (x1 : Int × Int × Int) : Option (List (Int × Int × Int) × Int) :=
 (F_impl_nodeFault x0 x1).bind fun (y3 : Int) =>
 bif (!decide ((y3 : Int) = 0)) then
 some (([] : List (Int × Int × Int)), y3)
 else
 bif (decide (((List.length x0 : Int) : Int) = 60)) then
 some (([] : List (Int × Int × Int)), 2)
 else
 (F_slices_Clone_Limpl_Node_impl_Node x0).bind fun (y4 : List (Int × Int × Int)) =>
 bif decide (List.length y4 + List.length ([x1] : List (Int × Int × Int)) ≤ LIM) then
 some (List.append y4 ([x1] : List (Int × Int × Int)), 0)
 else none

noncomputable def F_impl_GrowTree (x0 : (List Int × Int) × List Int × List (Int × Int × Int) × List (Int × Int × List ((Int × Int) × Int)) × List (Int × Int × Int × (Int × Int) × Int) × List (List Int)) (x1 : Int × Int × Int) : Option (Int × (List Int × Int) × List Int × List (Int × Int × Int) × List (Int × Int × List ((Int × Int) × Int)) × List (Int × Int × Int × (Int × Int) × Int) × List (List Int)) :=
 (F_impl_ClusterFault x0).bind fun (y4 : Int) =>
 bif (!decide ((y4 : Int) = 0)) then
 some (y4, (([], 0), ([], ([], ([], ([], []))))))
 else
 (F_impl_addNode x0.2.2.1 x1).bind fun (y5 : List (Int × Int × Int) × Int) =>
 bif (!decide ((y5.2 : Int) = 0)) then
 some (y5.2, (([], 0), ([], ([], ([], ([], []))))))
 else
 (F_impl_ownCluster x0).bind fun (y6 : (List Int × Int) × List Int × List (Int × Int × Int) × List (Int × Int × List ((Int × Int) × Int)) × List (Int × Int × Int × (Int × Int) × Int) × List (List Int)) =>
 some (0, (y6.1, (y6.2.1, (y5.1, y6.2.2.2))))

noncomputable def F_laws_FnExactGrowTree (x0 : (List Int × Int) × List Int × List (Int × Int × Int) × List (Int × Int × List ((Int × Int) × Int)) × List (Int × Int × Int × (Int × Int) × Int) × List (List Int)) (x1 : Int × Int × Int) : Option (Bool) :=
 (F_laws_szCluster x0 1048576).bind fun (y22 : Int) =>
 bif (decide ((y22 : Int) < 0)) then
 some true
 else
 (F_laws_toCluster x0).bind fun (y23 : (List Int × Int) × List Int × List (Int × Int × Int) × List (Int × Int × List ((Int × Int) × Int)) × List (Int × Int × Int × (Int × Int) × Int) × List (List Int)) =>
 (F_laws_toNode x1).bind fun (y24 : Int × Int × Int) =>
 (F_spec_GrowTree y23 y24).bind fun (y25 : Int × (List Int × Int) × List Int × List (Int × Int × Int) × List (Int × Int × List ((Int × Int) × Int)) × List (Int × Int × Int × (Int × Int) × Int) × List (List Int)) =>
 (F_laws_toCluster x0).bind fun (y26 : (List Int × Int) × List Int × List (Int × Int × Int) × List (Int × Int × List ((Int × Int) × Int)) × List (Int × Int × Int × (Int × Int) × Int) × List (List Int)) =>
 (F_laws_toNode x1).bind fun (y27 : Int × Int × Int) =>
 (F_impl_GrowTree y26 y27).bind fun (y28 : Int × (List Int × Int) × List Int × List (Int × Int × Int) × List (Int × Int × List ((Int × Int) × Int)) × List (Int × Int × Int × (Int × Int) × Int) × List (List Int)) =>
 (F_laws_eqClusterResult y28 y25).bind fun (y29 : Bool) =>
 bif (!y29) then
 some false
 else
 (F_laws_toCluster x0).bind fun (y30 : (List Int × Int) × List Int × List (Int × Int × Int) × List (Int × Int × List ((Int × Int) × Int)) × List (Int × Int × Int × (Int × Int) × Int) × List (List Int)) =>
 (F_laws_eqCluster y26 y30).bind fun (y31 : Bool) =>
 bif (!y31) then
 some false
 else
 (F_laws_markCluster y26 1).bind fun (y32 : Int × (List Int × Int) × List Int × List (Int × Int × Int) × List (Int × Int × List ((Int × Int) × Int)) × List (Int × Int × Int × (Int × Int) × Int) × List (List Int)) =>
 (bif (decide ((y32.1 : Int) < 0)) then
 some true
 else
 (F_laws_eqClusterResult y28 y25).bind fun (y34 : Bool) =>
 some (!y34) : Option (Bool)).bind fun (j35 : Bool) =>
 bif j35 then
 some false
 else
 (F_laws_markClusterResult y28 1).bind fun (y36 : Int × Int × (List Int × Int) × List Int × List (Int × Int × Int) × List (Int × Int × List ((Int × Int) × Int)) × List (Int × Int × Int × (Int × Int) × Int) × List (List Int)) =>
 (F_laws_heldClusterResult y36.2 1).bind fun (y37 : Int) =>
 bif (decide ((y37 : Int) < 0)) then
 some false
 else
 bif (!decide ((y37 : Int) = y36.1)) then
 some false
 else
 (F_laws_toCluster x0).bind fun (y38 : (List Int × Int) × List Int × List (Int × Int × Int) × List (Int × Int × List ((Int × Int) × Int)) × List (Int × Int × Int × (Int × Int) × Int) × List (List Int)) =>
 (F_laws_toNode x1).bind fun (y39 : Int × Int × Int) =>
 (F_impl_GrowTree y38 y39).bind fun (y40 : Int × (List Int × Int) × List Int × List (Int × Int × Int) × List (Int × Int × List ((Int × Int) × Int)) × List (Int × Int × Int × (Int × Int) × Int) × List (List Int)) =>
 (F_laws_eqClusterResult y40 y25).bind fun (y41 : Bool) =>
 bif (!y41) then
 some false
 else
 (F_laws_heldClusterResult y36.2 1).bind fun (y42 : Int) =>
 bif (decide ((y42 : Int) < 0)) then
 some false
 else
 bif (!decide ((y42 : Int) = y36.1)) then
 some false
 else
 some true

noncomputable def F_spec_l12Put (x0 : (List Int × Int) × List Int × List (Int × Int × Int) × List (Int × Int × List ((Int × Int) × Int)) × List (Int × Int × Int × (Int × Int) × Int) × List (List Int)) (x1 : Int × Int × Int × (Int × Int) × Int) : Option (Int × (List Int × Int) × List Int × List (Int × Int × Int) × List (Int × Int × List ((Int × Int) × Int)) × List (Int × Int × Int × (Int × Int) × Int) × List (List Int)) :=
 (F_spec_l12Has x0.2.2.2.2.1 x1).bind fun (y3 : Bool) =>
 bif y3 then
 some (0, x0)
 else
 bif (decide ((100 : Int) ≤ (List.length x0.2.2.2.2.1 : Int))) then
 (F_spec_l12Err 2).bind fun (y4 : Int × (List Int × Int) × List Int × List (Int × Int × Int) × List (Int × Int × List ((Int × Int) × Int)) × List (Int × Int × Int × (Int × Int) × Int) × List (List Int)) =>
 some y4
 else
 bif decide (List.length x0.2.2.2.2.1 + List.length ([x1] : List (Int × Int × Int × (Int × Int) × Int)) ≤ LIM) then
 some (0, (x0.1, (x0.2.1, (x0.2.2.1, (x0.2.2.2.1, (List.append x0.2.2.2.2.1 ([x1] : List (Int × Int × Int × (Int × Int) × Int)), x0.2.2.2.2.2))))))
 else none

noncomputable def F_spec_ForgeAt (x0 : (List Int × Int) × List Int × List (Int × Int × Int) × List (Int × Int × List ((Int × Int) × Int)) × List (Int × Int × Int × (Int × Int) × Int) × List (List Int)) (x1 : Int × Int × Int × (Int × Int) × Int) : Option (Int × (List Int × Int) × List Int × List (Int × Int × Int) × List (Int × Int × List ((Int × Int) × Int)) × List (Int × Int × Int × (Int × Int) × Int) × List (List Int)) :=
 (F_spec_l12Fault x0).bind fun (y13 : Int) =>
 bif (!decide ((y13 : Int) = 0)) then
 (F_spec_l12Err y13).bind fun (y14 : Int × (List Int × Int) × List Int × List (Int × Int × Int) × List (Int × Int × List ((Int × Int) × Int)) × List (Int × Int × Int × (Int × Int) × Int) × List (List Int)) =>
 some y14
 else
 (F_spec_l11Vote x1).bind fun (y15 : Int) =>
 bif (!decide ((y15 : Int) = 0)) then
 (F_spec_l12Err y15).bind fun (y16 : Int × (List Int × Int) × List Int × List (Int × Int × Int) × List (Int × Int × List ((Int × Int) × Int)) × List (Int × Int × Int × (Int × Int) × Int) × List (List Int)) =>
 some y16
 else
 ((F_spec_l4Among x0.2.1 x1.1).bind fun (y19 : Bool) =>
 bif (!y19) then
 some true
 else
 (F_spec_l4Among x0.1.1 x1.1).bind fun (y20 : Bool) =>
 some (!y20) : Option (Bool)).bind fun (j21 : Bool) =>
 bif j21 then
 (F_spec_l12Err 6).bind fun (y22 : Int × (List Int × Int) × List Int × List (Int × Int × Int) × List (Int × Int × List ((Int × Int) × Int)) × List (Int × Int × Int × (Int × Int) × Int) × List (List Int)) =>
 some y22
 else
 (F_spec_l12Copy x0).bind fun (y23 : (List Int × Int) × List Int × List (Int × Int × Int) × List (Int × Int × List ((Int × Int) × Int)) × List (Int × Int × Int × (Int × Int) × Int) × List (List Int)) =>
 (F_spec_l12Put y23 x1).bind fun (y24 : Int × (List Int × Int) × List Int × List (Int × Int × Int) × List (Int × Int × List ((Int × Int) × Int)) × List (Int × Int × Int × (Int × Int) × Int) × List (List Int)) =>
 some y24

noncomputable def F_impl_Cluster_put (x0 : (List Int × Int) × List Int × List (Int × Int × Int) × List (Int × Int × List ((Int × Int) × Int)) × List (Int × Int × Int × (Int × Int) × Int) × List (List Int)) (x1 : Int × Int × Int × (Int × Int) × Int) : Option (Int × (List Int × Int) × List Int × List (Int × Int × Int) × List (Int × Int × List ((Int × Int) × Int)) × List (Int × Int × Int × (Int × Int) × Int) × List (List Int)) :=
 (F_slices_Contains_Limpl_Vote_impl_Vote x0.2.2.2.2.1 x1).bind fun (y2 : Bool) =>
 bif y2 then
 some (0, x0)
 else
 bif (decide (((List.length x0.2.2.2.2.1 : Int) : Int) = 100)) then
 some (2, x0)
 else
 bif decide (List.length x0.2.2.2.2.1 + List.length ([x1] : List (Int × Int × Int × (Int × Int) × Int)) ≤ LIM) then
 some (0, (x0.1, (x0.2.1, (x0.2.2.1, (x0.2.2.2.1, (List.append x0.2.2.2.2.1 ([x1] : List (Int × Int × Int × (Int × Int) × Int)), x0.2.2.2.2.2))))))
 else none

noncomputable def F_impl_ForgeAt (x0 : (List Int × Int) × List Int × List (Int × Int × Int) × List (Int × Int × List ((Int × Int) × Int)) × List (Int × Int × Int × (Int × Int) × Int) × List (List Int)) (x1 : Int × Int × Int × (Int × Int) × Int) : Option (Int × (List Int × Int) × List Int × List (Int × Int × Int) × List (Int × Int × List ((Int × Int) × Int)) × List (Int × Int × Int × (Int × Int) × Int) × List (List Int)) :=
 (F_impl_ClusterFault x0).bind fun (y10 : Int) =>
 bif (!decide ((y10 : Int) = 0)) then
 some (y10, (([], 0), ([], ([], ([], ([], []))))))
 else
 (F_impl_VoteFault x1).bind fun (y11 : Int) =>
 bif (!decide ((y11 : Int) = 0)) then
 some (y11, (([], 0), ([], ([], ([], ([], []))))))
 else
 ((F_slices_Contains_Lint64_int64 x0.2.1 x1.1).bind fun (y14 : Bool) =>
 bif (!y14) then
 some true
 else
 (F_slices_Contains_Lint64_int64 x0.1.1 x1.1).bind fun (y15 : Bool) =>
 some (!y15) : Option (Bool)).bind fun (j16 : Bool) =>
 bif j16 then
 some (6, (([], 0), ([], ([], ([], ([], []))))))
 else
 (F_impl_ownCluster x0).bind fun (y17 : (List Int × Int) × List Int × List (Int × Int × Int) × List (Int × Int × List ((Int × Int) × Int)) × List (Int × Int × Int × (Int × Int) × Int) × List (List Int)) =>
 (F_impl_Cluster_put y17 x1).bind fun (y18 : Int × (List Int × Int) × List Int × List (Int × Int × Int) × List (Int × Int × List ((Int × Int) × Int)) × List (Int × Int × Int × (Int × Int) × Int) × List (List Int)) =>
 bif (!decide ((y18.1 : Int) = 0)) then
 some (y18.1, (([], 0), ([], ([], ([], ([], []))))))
 else
 some (0, y18.2)

noncomputable def F_laws_FnExactForgeAt (x0 : (List Int × Int) × List Int × List (Int × Int × Int) × List (Int × Int × List ((Int × Int) × Int)) × List (Int × Int × Int × (Int × Int) × Int) × List (List Int)) (x1 : Int × Int × Int × (Int × Int) × Int) : Option (Bool) :=
 (F_laws_szCluster x0 1048576).bind fun (y22 : Int) =>
 bif (decide ((y22 : Int) < 0)) then
 some true
 else
 (F_laws_toCluster x0).bind fun (y23 : (List Int × Int) × List Int × List (Int × Int × Int) × List (Int × Int × List ((Int × Int) × Int)) × List (Int × Int × Int × (Int × Int) × Int) × List (List Int)) =>
 (F_laws_toVote x1).bind fun (y24 : Int × Int × Int × (Int × Int) × Int) =>
 (F_spec_ForgeAt y23 y24).bind fun (y25 : Int × (List Int × Int) × List Int × List (Int × Int × Int) × List (Int × Int × List ((Int × Int) × Int)) × List (Int × Int × Int × (Int × Int) × Int) × List (List Int)) =>
 (F_laws_toCluster x0).bind fun (y26 : (List Int × Int) × List Int × List (Int × Int × Int) × List (Int × Int × List ((Int × Int) × Int)) × List (Int × Int × Int × (Int × Int) × Int) × List (List Int)) =>
 (F_laws_toVote x1).bind fun (y27 : Int × Int × Int × (Int × Int) × Int) =>
 (F_impl_ForgeAt y26 y27).bind fun (y28 : Int × (List Int × Int) × List Int × List (Int × Int × Int) × List (Int × Int × List ((Int × Int) × Int)) × List (Int × Int × Int × (Int × Int) × Int) × List (List Int)) =>
 (F_laws_eqClusterResult y28 y25).bind fun (y29 : Bool) =>
 bif (!y29) then
 some false
 else
 (F_laws_toCluster x0).bind fun (y30 : (List Int × Int) × List Int × List (Int × Int × Int) × List (Int × Int × List ((Int × Int) × Int)) × List (Int × Int × Int × (Int × Int) × Int) × List (List Int)) =>
 (F_laws_eqCluster y26 y30).bind fun (y31 : Bool) =>
 bif (!y31) then
 some false
 else
 (F_laws_markCluster y26 1).bind fun (y32 : Int × (List Int × Int) × List Int × List (Int × Int × Int) × List (Int × Int × List ((Int × Int) × Int)) × List (Int × Int × Int × (Int × Int) × Int) × List (List Int)) =>
 (bif (decide ((y32.1 : Int) < 0)) then
 some true
 else
 (F_laws_eqClusterResult y28 y25).bind fun (y34 : Bool) =>
 some (!y34) : Option (Bool)).bind fun (j35 : Bool) =>
 bif j35 then
 some false
 else
 (F_laws_markClusterResult y28 1).bind fun (y36 : Int × Int × (List Int × Int) × List Int × List (Int × Int × Int) × List (Int × Int × List ((Int × Int) × Int)) × List (Int × Int × Int × (Int × Int) × Int) × List (List Int)) =>
 (F_laws_heldClusterResult y36.2 1).bind fun (y37 : Int) =>
 bif (decide ((y37 : Int) < 0)) then
 some false
 else
 bif (!decide ((y37 : Int) = y36.1)) then
 some false
 else
 (F_laws_toCluster x0).bind fun (y38 : (List Int × Int) × List Int × List (Int × Int × Int) × List (Int × Int × List ((Int × Int) × Int)) × List (Int × Int × Int × (Int × Int) × Int) × List (List Int)) =>
 (F_laws_toVote x1).bind fun (y39 : Int × Int × Int × (Int × Int) × Int) =>
 (F_impl_ForgeAt y38 y39).bind fun (y40 : Int × (List Int × Int) × List Int × List (Int × Int × Int) × List (Int × Int × List ((Int × Int) × Int)) × List (Int × Int × Int × (Int × Int) × Int) × List (List Int)) =>
 (F_laws_eqClusterResult y40 y25).bind fun (y41 : Bool) =>
 bif (!y41) then
 some false
 else
 (F_laws_heldClusterResult y36.2 1).bind fun (y42 : Int) =>
 bif (decide ((y42 : Int) < 0)) then
 some false
 else
 bif (!decide ((y42 : Int) = y36.1)) then
 some false
 else
 some true

noncomputable def F_spec_l12Voted (x0 : (List Int × Int) × List Int × List (Int × Int × Int) × List (Int × Int × List ((Int × Int) × Int)) × List (Int × Int × Int × (Int × Int) × Int) × List (List Int)) (x1 : Int) (x2 : Int × (Int × Int × Int × (Int × Int) × Int) × Int × Int × List ((Int × Int) × Int)) : Option (Int × (List Int × Int) × List Int × List (Int × Int × Int) × List (Int × Int × List ((Int × Int) × Int)) × List (Int × Int × Int × (Int × Int) × Int) × List (List Int)) :=
 bif (!decide ((x2.1 : Int) = 0)) then
 (F_spec_l12Err x2.1).bind fun (y4 : Int × (List Int × Int) × List Int × List (Int × Int × Int) × List (Int × Int × List ((Int × Int) × Int)) × List (Int × Int × Int × (Int × Int) × Int) × List (List Int)) =>
 some y4
 else
 (F_spec_l12Copy x0).bind fun (y5 : (List Int × Int) × List Int × List (Int × Int × Int) × List (Int × Int × List ((Int × Int) × Int)) × List (Int × Int × Int × (Int × Int) × Int) × List (List Int)) =>
 bif (inB x1 y5.2.2.2.1) then
 (F_spec_l12Put (y5.1, (y5.2.1, (y5.2.2.1, (List.set y5.2.2.2.1 (Int.toNat x1) x2.2.2, y5.2.2.2.2)))) x2.2.1).bind fun (y6 : Int × (List Int × Int) × List Int × List (Int × Int × Int) × List (Int × Int × List ((Int × Int) × Int)) × List (Int × Int × Int × (Int × Int) × Int) × List (List Int)) =>
 some y6
 else none

noncomputable def F_spec_l11Cast (x0 : List (Int × Int × Int)) (x1 : Int × Int × List ((Int × Int) × Int)) (x2 : Int) : Option (Int × (Int × Int × Int × (Int × Int) × Int) × Int × Int × List ((Int × Int) × Int)) :=
 (F_spec_l9At x0 x2).bind fun (y6 : Int) =>
 bif (decide ((y6 : Int) < 0)) then
 some (4, ((0, (0, (0, ((0, 0), 0)))), (0, (0, []))))
 else
 (bif (decide ((x1.2.1 : Int) = x2)) then
 some true
 else
 bif (!decide ((x1.2.1 : Int) = 0)) then
 (F_spec_l9Above x0 x1.2.1 x2).bind fun (y8 : Bool) =>
 some (!y8)
 else
 some false : Option (Bool)).bind fun (j9 : Bool) =>
 bif j9 then
 some (10, ((0, (0, (0, ((0, 0), 0)))), (0, (0, []))))
 else
 (F_spec_l11Copy x1).bind fun (y10 : Int × Int × List ((Int × Int) × Int)) =>
 some (0, ((x1.1, (1, (x2, ((0, 0), 0)))), (y10.1, (x2, y10.2.2))))

noncomputable def F_spec_CastAt (x0 : (List Int × Int) × List Int × List (Int × Int × Int) × List (Int × Int × List ((Int × Int) × Int)) × List (Int × Int × Int × (Int × Int) × Int) × List (List Int)) (x1 : Int) (x2 : Int) : Option (Int × (List Int × Int) × List Int × List (Int × Int × Int) × List (Int × Int × List ((Int × Int) × Int)) × List (Int × Int × Int × (Int × Int) × Int) × List (List Int)) :=
 (F_spec_l12Fault x0).bind fun (y7 : Int) =>
 bif (!decide ((y7 : Int) = 0)) then
 (F_spec_l12Err y7).bind fun (y8 : Int × (List Int × Int) × List Int × List (Int × Int × Int) × List (Int × Int × List ((Int × Int) × Int)) × List (Int × Int × Int × (Int × Int) × Int) × List (List Int)) =>
 some y8
 else
 (F_spec_l12At x0 x1).bind fun (y9 : Int) =>
 bif (decide ((y9 : Int) < 0)) then
 (F_spec_l12Err 4).bind fun (y10 : Int × (List Int × Int) × List Int × List (Int × Int × Int) × List (Int × Int × List ((Int × Int) × Int)) × List (Int × Int × Int × (Int × Int) × Int) × List (List Int)) =>
 some y10
 else
 bif (inB y9 x0.2.2.2.1) then
 (F_spec_l11Cast x0.2.2.1 (List.getD x0.2.2.2.1 (Int.toNat y9) (0, (0, []))) x2).bind fun (y11 : Int × (Int × Int × Int × (Int × Int) × Int) × Int × Int × List ((Int × Int) × Int)) =>
 (F_spec_l12Voted x0 y9 y11).bind fun (y12 : Int × (List Int × Int) × List Int × List (Int × Int × Int) × List (Int × Int × List ((Int × Int) × Int)) × List (Int × Int × Int × (Int × Int) × Int) × List (List Int)) =>
 some y12
 else none

noncomputable def F_impl_voted (x0 : (List Int × Int) × List Int × List (Int × Int × Int) × List (Int × Int × List ((Int × Int) × Int)) × List (Int × Int × Int × (Int × Int) × Int) × List (List Int)) (x1 : Int) (x2 : (Int × Int × List ((Int × Int) × Int)) → Option (Int × (Int × Int × Int × (Int × Int) × Int) × Int × Int × List ((Int × Int) × Int))) : Option (Int × (List Int × Int) × List Int × List (Int × Int × Int) × List (Int × Int × List ((Int × Int) × Int)) × List (Int × Int × Int × (Int × Int) × Int) × List (List Int)) :=
 (F_impl_Cluster_findVoter x0 x1).bind fun (y5 : Int) =>
 bif (decide ((y5 : Int) < 0)) then
 some (4, (([], 0), ([], ([], ([], ([], []))))))
 else
 bif (inB y5 x0.2.2.2.1) then
 (x2 (List.getD x0.2.2.2.1 (Int.toNat y5) (0, (0, [])))).bind fun (y6 : Int × (Int × Int × Int × (Int × Int) × Int) × Int × Int × List ((Int × Int) × Int)) =>
 bif (!decide ((y6.1 : Int) = 0)) then
 some (y6.1, (([], 0), ([], ([], ([], ([], []))))))
 else
 (F_impl_ownCluster x0).bind fun (y7 : (List Int × Int) × List Int × List (Int × Int × Int) × List (Int × Int × List ((Int × Int) × Int)) × List (Int × Int × Int × (Int × Int) × Int) × List (List Int)) =>
 bif (inB y5 y7.2.2.2.1) then
 (F_impl_Cluster_put (y7.1, (y7.2.1, (y7.2.2.1, (List.set y7.2.2.2.1 (Int.toNat y5) y6.2.2, y7.2.2.2.2)))) y6.2.1).bind fun (y8 : Int × (List Int × Int) × List Int × List (Int × Int × Int) × List (Int × Int × List ((Int × Int) × Int)) × List (Int × Int × Int × (Int × Int) × Int) × List (List Int)) =>
 bif (!decide ((y8.1 : Int) = 0)) then
 some (y8.1, (([], 0), ([], ([], ([], ([], []))))))
 else
 some (0, y8.2)
 else none
 else none

noncomputable def F_impl_castFor (x0 : List (Int × Int × Int)) (x1 : Int × Int × List ((Int × Int) × Int)) (x2 : Int) : Option (Int × (Int × Int × Int × (Int × Int) × Int) × Int × Int × List ((Int × Int) × Int)) :=
 (F_impl_isIn x0 x2).bind fun (y6 : Bool) =>
 bif (!y6) then
 some (4, ((0, (0, (0, ((0, 0), 0)))), (0, (0, []))))
 else
 (bif (!decide ((x1.2.1 : Int) = 0)) then
 (F_impl_isAbove x0 x1.2.1 x2).bind fun (y8 : Bool) =>
 bif (!y8) then
 some true
 else
 some (decide ((x1.2.1 : Int) = x2))
 else
 some (decide ((x1.2.1 : Int) = x2)) : Option (Bool)).bind fun (j9 : Bool) =>
 bif j9 then
 some (10, ((0, (0, (0, ((0, 0), 0)))), (0, (0, []))))
 else
 (F_impl_ownVoter x1).bind fun (y10 : Int × Int × List ((Int × Int) × Int)) =>
 some (0, ((x1.1, (1, (x2, ((0, 0), 0)))), (y10.1, (x2, y10.2.2))))

noncomputable def F_impl_CastAt_c1 (x0 : Int × Int × List ((Int × Int) × Int)) (x1 : (List Int × Int) × List Int × List (Int × Int × Int) × List (Int × Int × List ((Int × Int) × Int)) × List (Int × Int × Int × (Int × Int) × Int) × List (List Int)) (x2 : Int) : Option (Int × (Int × Int × Int × (Int × Int) × Int) × Int × Int × List ((Int × Int) × Int)) :=
 (F_impl_castFor x1.2.2.1 x0 x2).bind fun (y2 : Int × (Int × Int × Int × (Int × Int) × Int) × Int × Int × List ((Int × Int) × Int)) =>
 some y2

noncomputable def F_impl_CastAt (x0 : (List Int × Int) × List Int × List (Int × Int × Int) × List (Int × Int × List ((Int × Int) × Int)) × List (Int × Int × Int × (Int × Int) × Int) × List (List Int)) (x1 : Int) (x2 : Int) : Option (Int × (List Int × Int) × List Int × List (Int × Int × Int) × List (Int × Int × List ((Int × Int) × Int)) × List (Int × Int × Int × (Int × Int) × Int) × List (List Int)) :=
 (F_impl_ClusterFault x0).bind fun (y5 : Int) =>
 bif (!decide ((y5 : Int) = 0)) then
 some (y5, (([], 0), ([], ([], ([], ([], []))))))
 else
 (F_impl_voted x0 x1 (fun (a6 : Int × Int × List ((Int × Int) × Int)) => (F_impl_CastAt_c1 a6 x0 x2).bind fun r7 => some r7)).bind fun (y8 : Int × (List Int × Int) × List Int × List (Int × Int × Int) × List (Int × Int × List ((Int × Int) × Int)) × List (Int × Int × Int × (Int × Int) × Int) × List (List Int)) =>
 some y8

noncomputable def F_laws_FnExactCastAt (x0 : (List Int × Int) × List Int × List (Int × Int × Int) × List (Int × Int × List ((Int × Int) × Int)) × List (Int × Int × Int × (Int × Int) × Int) × List (List Int)) (x1 : Int) (x2 : Int) : Option (Bool) :=
 (F_laws_szCluster x0 1048576).bind fun (y19 : Int) =>
 bif (decide ((y19 : Int) < 0)) then
 some true
 else
 (F_laws_toCluster x0).bind fun (y20 : (List Int × Int) × List Int × List (Int × Int × Int) × List (Int × Int × List ((Int × Int) × Int)) × List (Int × Int × Int × (Int × Int) × Int) × List (List Int)) =>
 (F_spec_CastAt y20 x1 x2).bind fun (y21 : Int × (List Int × Int) × List Int × List (Int × Int × Int) × List (Int × Int × List ((Int × Int) × Int)) × List (Int × Int × Int × (Int × Int) × Int) × List (List Int)) =>
 (F_laws_toCluster x0).bind fun (y22 : (List Int × Int) × List Int × List (Int × Int × Int) × List (Int × Int × List ((Int × Int) × Int)) × List (Int × Int × Int × (Int × Int) × Int) × List (List Int)) =>
 (F_impl_CastAt y22 x1 x2).bind fun (y23 : Int × (List Int × Int) × List Int × List (Int × Int × Int) × List (Int × Int × List ((Int × Int) × Int)) × List (Int × Int × Int × (Int × Int) × Int) × List (List Int)) =>
 (F_laws_eqClusterResult y23 y21).bind fun (y24 : Bool) =>
 bif (!y24) then
 some false
 else
 (F_laws_toCluster x0).bind fun (y25 : (List Int × Int) × List Int × List (Int × Int × Int) × List (Int × Int × List ((Int × Int) × Int)) × List (Int × Int × Int × (Int × Int) × Int) × List (List Int)) =>
 (F_laws_eqCluster y22 y25).bind fun (y26 : Bool) =>
 bif (!y26) then
 some false
 else
 (F_laws_markCluster y22 1).bind fun (y27 : Int × (List Int × Int) × List Int × List (Int × Int × Int) × List (Int × Int × List ((Int × Int) × Int)) × List (Int × Int × Int × (Int × Int) × Int) × List (List Int)) =>
 (bif (decide ((y27.1 : Int) < 0)) then
 some true
 else
 (F_laws_eqClusterResult y23 y21).bind fun (y29 : Bool) =>
 some (!y29) : Option (Bool)).bind fun (j30 : Bool) =>
 bif j30 then
 some false
 else
 (F_laws_markClusterResult y23 1).bind fun (y31 : Int × Int × (List Int × Int) × List Int × List (Int × Int × Int) × List (Int × Int × List ((Int × Int) × Int)) × List (Int × Int × Int × (Int × Int) × Int) × List (List Int)) =>
 (F_laws_heldClusterResult y31.2 1).bind fun (y32 : Int) =>
 bif (decide ((y32 : Int) < 0)) then
 some false
 else
 bif (!decide ((y32 : Int) = y31.1)) then
 some false
 else
 (F_laws_toCluster x0).bind fun (y33 : (List Int × Int) × List Int × List (Int × Int × Int) × List (Int × Int × List ((Int × Int) × Int)) × List (Int × Int × Int × (Int × Int) × Int) × List (List Int)) =>
 (F_impl_CastAt y33 x1 x2).bind fun (y34 : Int × (List Int × Int) × List Int × List (Int × Int × Int) × List (Int × Int × List ((Int × Int) × Int)) × List (Int × Int × Int × (Int × Int) × Int) × List (List Int)) =>
 (F_laws_eqClusterResult y34 y21).bind fun (y35 : Bool) =>
 bif (!y35) then
 some false
 else
 (F_laws_heldClusterResult y31.2 1).bind fun (y36 : Int) =>
 bif (decide ((y36 : Int) < 0)) then
 some false
 else
 bif (!decide ((y36 : Int) = y31.1)) then
 some false
 else
 some true

noncomputable def F_spec_l11Choose (x0 : Int × Int × List ((Int × Int) × Int)) (x1 : Int × Int) (x2 : Int) : Option (Int × (Int × Int × Int × (Int × Int) × Int) × Int × Int × List ((Int × Int) × Int)) :=
 (F_spec_l11At x0 x1).bind fun (y7 : Int) =>
 (bif (decide ((0 : Int) ≤ y7)) then
 bif (inB y7 x0.2.2) then
 some (!decide (((List.getD x0.2.2 (Int.toNat y7) ((0, 0), 0)).2 : Int) = x2))
 else none
 else
 some false : Option (Bool)).bind fun (j8 : Bool) =>
 bif j8 then
 some (7, ((0, (0, (0, ((0, 0), 0)))), (0, (0, []))))
 else
 (F_spec_l11Copy x0).bind fun (y9 : Int × Int × List ((Int × Int) × Int)) =>
 (bif (decide ((y7 : Int) < 0)) then
 bif (decide ((40 : Int) ≤ (List.length x0.2.2 : Int))) then
 some (Sum.inr (2, ((0, (0, (0, ((0, 0), 0)))), (0, (0, [])))))
 else
 bif decide (List.length y9.2.2 + List.length ([(x1, x2)] : List ((Int × Int) × Int)) ≤ LIM) then
 some (Sum.inl (y9.1, (y9.2.1, List.append y9.2.2 ([(x1, x2)] : List ((Int × Int) × Int)))))
 else none
 else
 some (Sum.inl y9) : Option ((Int × Int × List ((Int × Int) × Int)) ⊕ (Int × (Int × Int × Int × (Int × Int) × Int) × Int × Int × List ((Int × Int) × Int)))).bind fun (j10 : (Int × Int × List ((Int × Int) × Int)) ⊕ (Int × (Int × Int × Int × (Int × Int) × Int) × Int × Int × List ((Int × Int) × Int))) =>
 Sum.elim (fun (j11 : Int × Int × List ((Int × Int) × Int)) =>
 some (0, ((x0.1, (2, (0, (x1, x2)))), j11))) (fun (j12 : Int × (Int × Int × Int × (Int × Int) × Int) × Int × Int × List ((Int × Int) × Int)) =>
 some j12) j10

noncomputable def F_spec_ChooseFor (x0 : Int × Int × List ((Int × Int) × Int)) (x1 : Int × Int) (x2 : Int) : Option (Int × (Int × Int × Int × (Int × Int) × Int) × Int × Int × List ((Int × Int) × Int)) :=
 (F_spec_l11Fault x0).bind fun (y8 : Int) =>
 bif (!decide ((y8 : Int) = 0)) then
 some (y8, ((0, (0, (0, ((0, 0), 0)))), (0, (0, []))))
 else
 ((F_spec_l3Ref x1).bind fun (y11 : Bool) =>
 bif (!y11) then
 some true
 else
 (F_spec_l11Tx x2).bind fun (y12 : Bool) =>
 some (!y12) : Option (Bool)).bind fun (j13 : Bool) =>
 bif j13 then
 some (3, ((0, (0, (0, ((0, 0), 0)))), (0, (0, []))))
 else
 (F_spec_l11Choose x0 x1 x2).bind fun (y14 : Int × (Int × Int × Int × (Int × Int) × Int) × Int × Int × List ((Int × Int) × Int)) =>
 some y14

noncomputable def F_spec_ChooseAt (x0 : (List Int × Int) × List Int × List (Int × Int × Int) × List (Int × Int × List ((Int × Int) × Int)) × List (Int × Int × Int × (Int × Int) × Int) × List (List Int)) (x1 : Int) (x2 : Int × Int) (x3 : Int) : Option (Int × (List Int × Int) × List Int × List (Int × Int × Int) × List (Int × Int × List ((Int × Int) × Int)) × List (Int × Int × Int × (Int × Int) × Int) × List (List Int)) :=
 (F_spec_l12Fault x0).bind fun (y7 : Int) =>
 bif (!decide ((y7 : Int) = 0)) then
 (F_spec_l12Err y7).bind fun (y8 : Int × (List Int × Int) × List Int × List (Int × Int × Int) × List (Int × Int × List ((Int × Int) × Int)) × List (Int × Int × Int × (Int × Int) × Int) × List (List Int)) =>
 some y8
 else
 (F_spec_l12At x0 x1).bind fun (y9 : Int) =>
 bif (decide ((y9 : Int) < 0)) then
 (F_spec_l12Err 4).bind fun (y10 : Int × (List Int × Int) × List Int × List (Int × Int × Int) × List (Int × Int × List ((Int × Int) × Int)) × List (Int × Int × Int × (Int × Int) × Int) × List (List Int)) =>
 some y10
 else
 bif (inB y9 x0.2.2.2.1) then
 (F_spec_ChooseFor (List.getD x0.2.2.2.1 (Int.toNat y9) (0, (0, []))) x2 x3).bind fun (y11 : Int × (Int × Int × Int × (Int × Int) × Int) × Int × Int × List ((Int × Int) × Int)) =>
 (F_spec_l12Voted x0 y9 y11).bind fun (y12 : Int × (List Int × Int) × List Int × List (Int × Int × Int) × List (Int × Int × List ((Int × Int) × Int)) × List (Int × Int × Int × (Int × Int) × Int) × List (List Int)) =>
 some y12
 else none

noncomputable def F_impl_ChooseFor (x0 : Int × Int × List ((Int × Int) × Int)) (x1 : Int × Int) (x2 : Int) : Option (Int × (Int × Int × Int × (Int × Int) × Int) × Int × Int × List ((Int × Int) × Int)) :=
 (F_impl_VoterFault x0).bind fun (y12 : Int) =>
 bif (!decide ((y12 : Int) = 0)) then
 some (y12, ((0, (0, (0, ((0, 0), 0)))), (0, (0, []))))
 else
 ((F_impl_isRef x1).bind fun (y15 : Bool) =>
 bif (!y15) then
 some true
 else
 (F_impl_isId x2).bind fun (y16 : Bool) =>
 some (!y16) : Option (Bool)).bind fun (j17 : Bool) =>
 bif j17 then
 some (3, ((0, (0, (0, ((0, 0), 0)))), (0, (0, []))))
 else
 (F_impl_ownVoter x0).bind fun (y18 : Int × Int × List ((Int × Int) × Int)) =>
 (F_impl_Voter_chosen x0 x1).bind fun (y19 : Int) =>
 (bif (decide ((y19 : Int) = x2)) then
 some (Sum.inl y18)
 else
 bif (!decide ((y19 : Int) = 0)) then
 some (Sum.inr (7, ((0, (0, (0, ((0, 0), 0)))), (0, (0, [])))))
 else
 bif (decide (((List.length x0.2.2 : Int) : Int) = 40)) then
 some (Sum.inr (2, ((0, (0, (0, ((0, 0), 0)))), (0, (0, [])))))
 else
 bif decide (List.length y18.2.2 + List.length ([(x1, x2)] : List ((Int × Int) × Int)) ≤ LIM) then
 some (Sum.inl (y18.1, (y18.2.1, List.append y18.2.2 ([(x1, x2)] : List ((Int × Int) × Int)))))
 else none : Option ((Int × Int × List ((Int × Int) × Int)) ⊕ (Int × (Int × Int × Int × (Int × Int) × Int) × Int × Int × List ((Int × Int) × Int)))).bind fun (j20 : (Int × Int × List ((Int × Int) × Int)) ⊕ (Int × (Int × Int × Int × (Int × Int) × Int) × Int × Int × List ((Int × Int) × Int))) =>
 Sum.elim (fun (j21 : Int × Int × List ((Int × Int) × Int)) =>
 some (0, ((x0.1, (2, (0, (x1, x2)))), j21))) (fun (j22 : Int × (Int × Int × Int × (Int × Int) × Int) × Int × Int × List ((Int × Int) × Int)) =>
 some j22) j20

noncomputable def F_impl_ChooseAt_c1 (x0 : Int × Int × List ((Int × Int) × Int)) (x1 : Int × Int) (x2 : Int) : Option (Int × (Int × Int × Int × (Int × Int) × Int) × Int × Int × List ((Int × Int) × Int)) :=
 (F_impl_ChooseFor x0 x1 x2).bind fun (y2 : Int × (Int × Int × Int × (Int × Int) × Int) × Int × Int × List ((Int × Int) × Int)) =>
 some y2

noncomputable def F_impl_ChooseAt (x0 : (List Int × Int) × List Int × List (Int × Int × Int) × List (Int × Int × List ((Int × Int) × Int)) × List (Int × Int × Int × (Int × Int) × Int) × List (List Int)) (x1 : Int) (x2 : Int × Int) (x3 : Int) : Option (Int × (List Int × Int) × List Int × List (Int × Int × Int) × List (Int × Int × List ((Int × Int) × Int)) × List (Int × Int × Int × (Int × Int) × Int) × List (List Int)) :=
 (F_impl_ClusterFault x0).bind fun (y5 : Int) =>
 bif (!decide ((y5 : Int) = 0)) then
 some (y5, (([], 0), ([], ([], ([], ([], []))))))
 else
 (F_impl_voted x0 x1 (fun (a6 : Int × Int × List ((Int × Int) × Int)) => (F_impl_ChooseAt_c1 a6 x2 x3).bind fun r7 => some r7)).bind fun (y8 : Int × (List Int × Int) × List Int × List (Int × Int × Int) × List (Int × Int × List ((Int × Int) × Int)) × List (Int × Int × Int × (Int × Int) × Int) × List (List Int)) =>
 some y8

noncomputable def F_laws_FnExactChooseAt (x0 : (List Int × Int) × List Int × List (Int × Int × Int) × List (Int × Int × List ((Int × Int) × Int)) × List (Int × Int × Int × (Int × Int) × Int) × List (List Int)) (x1 : Int) (x2 : Int × Int) (x3 : Int) : Option (Bool) :=
 (F_laws_szCluster x0 1048576).bind fun (y22 : Int) =>
 bif (decide ((y22 : Int) < 0)) then
 some true
 else
 (F_laws_toCluster x0).bind fun (y23 : (List Int × Int) × List Int × List (Int × Int × Int) × List (Int × Int × List ((Int × Int) × Int)) × List (Int × Int × Int × (Int × Int) × Int) × List (List Int)) =>
 (F_laws_toRef x2).bind fun (y24 : Int × Int) =>
 (F_spec_ChooseAt y23 x1 y24 x3).bind fun (y25 : Int × (List Int × Int) × List Int × List (Int × Int × Int) × List (Int × Int × List ((Int × Int) × Int)) × List (Int × Int × Int × (Int × Int) × Int) × List (List Int)) =>
 (F_laws_toCluster x0).bind fun (y26 : (List Int × Int) × List Int × List (Int × Int × Int) × List (Int × Int × List ((Int × Int) × Int)) × List (Int × Int × Int × (Int × Int) × Int) × List (List Int)) =>
 (F_laws_toRef x2).bind fun (y27 : Int × Int) =>
 (F_impl_ChooseAt y26 x1 y27 x3).bind fun (y28 : Int × (List Int × Int) × List Int × List (Int × Int × Int) × List (Int × Int × List ((Int × Int) × Int)) × List (Int × Int × Int × (Int × Int) × Int) × List (List Int)) =>
 (F_laws_eqClusterResult y28 y25).bind fun (y29 : Bool) =>
 bif (!y29) then
 some false
 else
 (F_laws_toCluster x0).bind fun (y30 : (List Int × Int) × List Int × List (Int × Int × Int) × List (Int × Int × List ((Int × Int) × Int)) × List (Int × Int × Int × (Int × Int) × Int) × List (List Int)) =>
 (F_laws_eqCluster y26 y30).bind fun (y31 : Bool) =>
 bif (!y31) then
 some false
 else
 (F_laws_markCluster y26 1).bind fun (y32 : Int × (List Int × Int) × List Int × List (Int × Int × Int) × List (Int × Int × List ((Int × Int) × Int)) × List (Int × Int × Int × (Int × Int) × Int) × List (List Int)) =>
 (bif (decide ((y32.1 : Int) < 0)) then
 some true
 else
 (F_laws_eqClusterResult y28 y25).bind fun (y34 : Bool) =>
 some (!y34) : Option (Bool)).bind fun (j35 : Bool) =>
 bif j35 then
 some false
 else
 (F_laws_markClusterResult y28 1).bind fun (y36 : Int × Int × (List Int × Int) × List Int × List (Int × Int × Int) × List (Int × Int × List ((Int × Int) × Int)) × List (Int × Int × Int × (Int × Int) × Int) × List (List Int)) =>
 (F_laws_heldClusterResult y36.2 1).bind fun (y37 : Int) =>
 bif (decide ((y37 : Int) < 0)) then
 some false
 else
 bif (!decide ((y37 : Int) = y36.1)) then
 some false
 else
 (F_laws_toCluster x0).bind fun (y38 : (List Int × Int) × List Int × List (Int × Int × Int) × List (Int × Int × List ((Int × Int) × Int)) × List (Int × Int × Int × (Int × Int) × Int) × List (List Int)) =>
 (F_laws_toRef x2).bind fun (y39 : Int × Int) =>
 (F_impl_ChooseAt y38 x1 y39 x3).bind fun (y40 : Int × (List Int × Int) × List Int × List (Int × Int × Int) × List (Int × Int × List ((Int × Int) × Int)) × List (Int × Int × Int × (Int × Int) × Int) × List (List Int)) =>
 (F_laws_eqClusterResult y40 y25).bind fun (y41 : Bool) =>
 bif (!y41) then
 some false
 else
 (F_laws_heldClusterResult y36.2 1).bind fun (y42 : Int) =>
 bif (decide ((y42 : Int) < 0)) then
 some false
 else
 bif (!decide ((y42 : Int) = y36.1)) then
 some false
 else
 some true

end CL
end Go.Dx
