/- What each function computes, as a function of plain data (F), its parameters (K) and hints for the executor (X); the types -/
import Derived.Test.YtlpbfnhgmhpccaaGreatDoorDxd
import Derived.Test.YtlpbfnhgmhpccaaGreatDoorProg
import Derived.KernelRfl
set_option linter.unusedVariables false
set_option linter.unusedSimpArgs false
set_option maxRecDepth 100000
set_option maxHeartbeats 0
noncomputable section
namespace Go.Dx
open Go.Proofs
namespace GL
def s0:Sh:=(.prod (.int .i64) (.int .i64))
def s1:Sh:=(.prod (.list .str) (.list s0))
def s2:Sh:=(.prod (.list (.int .i64)) s0)
def s3:Sh:=(.prod (.int .i64) s2)
def s4:Sh:=(.prod (.int .i64) .bool)
def s5:Sh:=(.prod s3 s4)
def s6:Sh:=(.prod s0 s5)
def s7:Sh:=(.prod (.int .i64) s0)
def s8:Sh:=(.prod (.list s6) (.list s7))
def s9:Sh:=(.prod (.int .i64) s8)
def s10:Sh:=(.prod (.int .i64) s9)
def s11:Sh:=(.prod (.int .i64) (.list (.int .i64)))
def s12:Sh:=(.prod (.int .i64) s11)
def s13:Sh:=(.prod (.int .i64) s12)
def s14:Sh:=(.prod (.int .i64) s13)
def s15:Sh:=(.prod (.list s0) (.list s3))
def s16:Sh:=(.prod (.int .i64) s15)
def s17:Sh:=(.prod (.int .i64) s16)
def s18:Sh:=(.prod (.int .i64) s17)
def s19:Sh:=(.prod (.int .i64) .str)
def s20:Sh:=(.prod (.int .i64) s1)
def s21:Sh:=(.prod (.int .i64) s20)
def s22:Sh:=(.prod (.list (.list s6)) (.list s7))
def s23:Sh:=(.prod (.int .i64) s22)
def s24:Sh:=(.prod s23 s10)
def s25:Sh:=(.prod (.int .i64) s24)
def s26:Sh:=(.prod (.int .i64) s25)
def s27:Sh:=(.prod (.list (.int .u8)) (.int .i64))
def s28:Sh:=(.prod (.list (.int .i64)) (.list (.int .i64)))
def s29:Sh:=(.prod (.int .i64) s28)
def s30:Sh:=(.prod (.int .i64) (.list s6))
def tys:List (TypeId×TI):=[(2,⟨(.int .i64),8,.int .i64⟩),
 (3,⟨(.int .i64),8,.int .i64⟩),
 (4,⟨.bool,1,.bool⟩),
 (5,⟨(.int .u8),1,.int .u8⟩),
 (9,⟨.str,16,.str⟩),
 (22,⟨(.list (.int .u8)),24,.slice 5⟩),
 (24,⟨(.list .str),24,.slice 9⟩),
 (25,⟨(.list s0),24,.slice 120⟩),
 (27,⟨s1,48,.struct [(0,24),(1,25)]⟩),
 (28,⟨(.list s6),24,.slice 102⟩),
 (29,⟨(.list s7),24,.slice 136⟩),
 (31,⟨s10,64,.struct [(0,2),(1,2),(2,28),(3,29)]⟩),
 (32,⟨(.list (.int .i64)),24,.slice 2⟩),
 (36,⟨s13,48,.struct [(0,2),(1,2),(2,2),(3,32)]⟩),
 (38,⟨s14,56,.struct [(0,2),(1,36)]⟩),
 (41,⟨(.list s0),24,.slice 96⟩),
 (42,⟨(.list s3),24,.slice 100⟩),
 (44,⟨s17,64,.struct [(0,2),(1,2),(2,41),(3,42)]⟩),
 (46,⟨s18,72,.struct [(0,2),(1,44)]⟩),
 (49,⟨s19,24,.struct [(0,2),(1,9)]⟩),
 (52,⟨s21,64,.struct [(0,2),(1,2),(2,27)]⟩),
 (54,⟨(.list (.list s6)),24,.slice 28⟩),
 (56,⟨s23,56,.struct [(0,2),(1,54),(2,29)]⟩),
 (58,⟨s26,136,.struct [(0,2),(1,2),(2,56),(5,31)]⟩),
 (61,⟨s0,16,.struct [(0,2),(1,2)]⟩),
 (72,⟨(.list s17),24,.slice 44⟩),
 (77,⟨(.fn1 (.int .i64) .bool .z),8,.func⟩),
 (96,⟨s0,16,.struct [(0,2),(1,2)]⟩),
 (98,⟨s2,40,.struct [(0,32),(1,2),(2,2)]⟩),
 (100,⟨s3,48,.struct [(0,2),(1,98)]⟩),
 (102,⟨s6,80,.struct [(0,96),(2,100),(6,2),(7,4)]⟩),
 (104,⟨s27,32,.struct [(0,22),(1,2)]⟩),
 (114,⟨(.fn1 s0 .bool .z),8,.func⟩),
 (120,⟨s0,16,.struct [(0,2),(1,2)]⟩),
 (136,⟨s7,24,.struct [(0,2),(1,96)]⟩),
 (157,⟨s29,56,.struct [(0,2),(1,32),(2,32)]⟩),
 (160,⟨(.fn1 s17 .bool .z),8,.func⟩),
 (183,⟨(.fn1 s7 .bool .z),8,.func⟩),
 (204,⟨s30,32,.struct [(0,2),(1,28)]⟩),
 (244,⟨(.fn1 s6 .bool .z),8,.func⟩),
 (247,⟨(.fn2 s6 s6 (.int .i64)),8,.func⟩),
 (249,⟨(.fn2 s6 s0 (.int .i64)),8,.func⟩),
 (258,⟨(.fn2 s7 (.int .i64) (.int .i64)),8,.func⟩),
 (269,⟨(.list (.int .i64)),24,.slice 3⟩),
 (276,⟨(.int .u64),8,.int .u64⟩),
 (292,⟨(.int .u64),8,.int .u64⟩)]
abbrev EQ (X:Ctx) (f:Func) (K:Callee):Prop:=∀t:TupI (K.ins.map PS.sh),runF X f K t=K.F t
def X0:Ctx:={ tys:=tys,fns:=[],frz:=[],lps:=[],jns:=[],rjs:=[] }
theorem ty2:TyOk Tryz.prog X0 2 ⟨(.int .i64),8,.int .i64⟩:=⟨⟨Tryz.t2,Tryz.type2,rfl,by decide,by decide,rfl⟩,⟨Tryz.underlying2,rfl⟩⟩
theorem ty3:TyOk Tryz.prog X0 3 ⟨(.int .i64),8,.int .i64⟩:=⟨⟨Tryz.t3,Tryz.type3,rfl,by decide,by decide,rfl⟩,⟨Tryz.underlying3,rfl⟩⟩
theorem ty4:TyOk Tryz.prog X0 4 ⟨.bool,1,.bool⟩:=⟨⟨Tryz.t4,Tryz.type4,rfl,by decide,by decide,rfl⟩,⟨Tryz.underlying4,rfl⟩⟩
theorem ty5:TyOk Tryz.prog X0 5 ⟨(.int .u8),1,.int .u8⟩:=⟨⟨Tryz.t5,Tryz.type5,rfl,by decide,by decide,rfl⟩,⟨Tryz.underlying5,rfl⟩⟩
theorem ty9:TyOk Tryz.prog X0 9 ⟨.str,16,.str⟩:=⟨⟨Tryz.t9,Tryz.type9,rfl,by decide,by decide,rfl⟩,⟨Tryz.underlying9,rfl⟩⟩
theorem ty22:TyOk Tryz.prog X0 22 ⟨(.list (.int .u8)),24,.slice 5⟩:=⟨⟨Tryz.t22,Tryz.type22,rfl,by decide,by decide,rfl⟩,⟨Tryz.underlying22,_,rfl,rfl⟩⟩
theorem ty24:TyOk Tryz.prog X0 24 ⟨(.list .str),24,.slice 9⟩:=⟨⟨Tryz.t24,Tryz.type24,rfl,by decide,by decide,rfl⟩,⟨Tryz.underlying24,_,rfl,rfl⟩⟩
theorem ty25:TyOk Tryz.prog X0 25 ⟨(.list s0),24,.slice 120⟩:=⟨⟨Tryz.t25,Tryz.type25,rfl,by decide,by decide,rfl⟩,⟨Tryz.underlying25,_,rfl,rfl⟩⟩
theorem ty27:TyOk Tryz.prog X0 27 ⟨s1,48,.struct [(0,24),(1,25)]⟩:=⟨⟨Tryz.t27,Tryz.type27,rfl,by decide,by decide,rfl⟩,⟨⟨_,Tryz.underlying27,rfl,by simp⟩,⟨_,_,rfl,rfl,⟨_,rfl,rfl⟩,⟨rfl,_,rfl,rfl⟩⟩,by decide,Tryz.eqGuardType27,Tryz.stoodInHeld27⟩⟩
theorem ty28:TyOk Tryz.prog X0 28 ⟨(.list s6),24,.slice 102⟩:=⟨⟨Tryz.t28,Tryz.type28,rfl,by decide,by decide,rfl⟩,⟨Tryz.underlying28,_,rfl,rfl⟩⟩
theorem ty29:TyOk Tryz.prog X0 29 ⟨(.list s7),24,.slice 136⟩:=⟨⟨Tryz.t29,Tryz.type29,rfl,by decide,by decide,rfl⟩,⟨Tryz.underlying29,_,rfl,rfl⟩⟩
theorem ty31:TyOk Tryz.prog X0 31 ⟨s10,64,.struct [(0,2),(1,2),(2,28),(3,29)]⟩:=⟨⟨Tryz.t31,Tryz.type31,rfl,by decide,by decide,rfl⟩,⟨⟨_,Tryz.underlying31,rfl,by simp⟩,⟨_,_,rfl,rfl,⟨_,rfl,rfl⟩,⟨_,_,rfl,rfl,⟨_,rfl,rfl⟩,⟨_,_,rfl,rfl,⟨_,rfl,rfl⟩,⟨rfl,_,rfl,rfl⟩⟩⟩⟩,by decide,Tryz.eqGuardType31,Tryz.stoodInHeld31⟩⟩
theorem ty32:TyOk Tryz.prog X0 32 ⟨(.list (.int .i64)),24,.slice 2⟩:=⟨⟨Tryz.t32,Tryz.type32,rfl,by decide,by decide,rfl⟩,⟨Tryz.underlying32,_,rfl,rfl⟩⟩
theorem ty36:TyOk Tryz.prog X0 36 ⟨s13,48,.struct [(0,2),(1,2),(2,2),(3,32)]⟩:=⟨⟨Tryz.t36,Tryz.type36,rfl,by decide,by decide,rfl⟩,⟨⟨_,Tryz.underlying36,rfl,by simp⟩,⟨_,_,rfl,rfl,⟨_,rfl,rfl⟩,⟨_,_,rfl,rfl,⟨_,rfl,rfl⟩,⟨_,_,rfl,rfl,⟨_,rfl,rfl⟩,⟨rfl,_,rfl,rfl⟩⟩⟩⟩,by decide,Tryz.eqGuardType36,Tryz.stoodInHeld36⟩⟩
theorem ty38:TyOk Tryz.prog X0 38 ⟨s14,56,.struct [(0,2),(1,36)]⟩:=⟨⟨Tryz.t38,Tryz.type38,rfl,by decide,by decide,rfl⟩,⟨⟨_,Tryz.underlying38,rfl,by simp⟩,⟨_,_,rfl,rfl,⟨_,rfl,rfl⟩,⟨rfl,_,rfl,rfl⟩⟩,by decide,Tryz.eqGuardType38,Tryz.stoodInHeld38⟩⟩
theorem ty41:TyOk Tryz.prog X0 41 ⟨(.list s0),24,.slice 96⟩:=⟨⟨Tryz.t41,Tryz.type41,rfl,by decide,by decide,rfl⟩,⟨Tryz.underlying41,_,rfl,rfl⟩⟩
theorem ty42:TyOk Tryz.prog X0 42 ⟨(.list s3),24,.slice 100⟩:=⟨⟨Tryz.t42,Tryz.type42,rfl,by decide,by decide,rfl⟩,⟨Tryz.underlying42,_,rfl,rfl⟩⟩
theorem ty44:TyOk Tryz.prog X0 44 ⟨s17,64,.struct [(0,2),(1,2),(2,41),(3,42)]⟩:=⟨⟨Tryz.t44,Tryz.type44,rfl,by decide,by decide,rfl⟩,⟨⟨_,Tryz.underlying44,rfl,by simp⟩,⟨_,_,rfl,rfl,⟨_,rfl,rfl⟩,⟨_,_,rfl,rfl,⟨_,rfl,rfl⟩,⟨_,_,rfl,rfl,⟨_,rfl,rfl⟩,⟨rfl,_,rfl,rfl⟩⟩⟩⟩,by decide,Tryz.eqGuardType44,Tryz.stoodInHeld44⟩⟩
theorem ty46:TyOk Tryz.prog X0 46 ⟨s18,72,.struct [(0,2),(1,44)]⟩:=⟨⟨Tryz.t46,Tryz.type46,rfl,by decide,by decide,rfl⟩,⟨⟨_,Tryz.underlying46,rfl,by simp⟩,⟨_,_,rfl,rfl,⟨_,rfl,rfl⟩,⟨rfl,_,rfl,rfl⟩⟩,by decide,Tryz.eqGuardType46,Tryz.stoodInHeld46⟩⟩
theorem ty49:TyOk Tryz.prog X0 49 ⟨s19,24,.struct [(0,2),(1,9)]⟩:=⟨⟨Tryz.t49,Tryz.type49,rfl,by decide,by decide,rfl⟩,⟨⟨_,Tryz.underlying49,rfl,by simp⟩,⟨_,_,rfl,rfl,⟨_,rfl,rfl⟩,⟨rfl,_,rfl,rfl⟩⟩,by decide,Tryz.eqGuardType49,Tryz.stoodInHeld49⟩⟩
theorem ty52:TyOk Tryz.prog X0 52 ⟨s21,64,.struct [(0,2),(1,2),(2,27)]⟩:=⟨⟨Tryz.t52,Tryz.type52,rfl,by decide,by decide,rfl⟩,⟨⟨_,Tryz.underlying52,rfl,by simp⟩,⟨_,_,rfl,rfl,⟨_,rfl,rfl⟩,⟨_,_,rfl,rfl,⟨_,rfl,rfl⟩,⟨rfl,_,rfl,rfl⟩⟩⟩,by decide,Tryz.eqGuardType52,Tryz.stoodInHeld52⟩⟩
theorem ty54:TyOk Tryz.prog X0 54 ⟨(.list (.list s6)),24,.slice 28⟩:=⟨⟨Tryz.t54,Tryz.type54,rfl,by decide,by decide,rfl⟩,⟨Tryz.underlying54,_,rfl,rfl⟩⟩
theorem ty56:TyOk Tryz.prog X0 56 ⟨s23,56,.struct [(0,2),(1,54),(2,29)]⟩:=⟨⟨Tryz.t56,Tryz.type56,rfl,by decide,by decide,rfl⟩,⟨⟨_,Tryz.underlying56,rfl,by simp⟩,⟨_,_,rfl,rfl,⟨_,rfl,rfl⟩,⟨_,_,rfl,rfl,⟨_,rfl,rfl⟩,⟨rfl,_,rfl,rfl⟩⟩⟩,by decide,Tryz.eqGuardType56,Tryz.stoodInHeld56⟩⟩
theorem ty58:TyOk Tryz.prog X0 58 ⟨s26,136,.struct [(0,2),(1,2),(2,56),(5,31)]⟩:=⟨⟨Tryz.t58,Tryz.type58,rfl,by decide,by decide,rfl⟩,⟨⟨_,Tryz.underlying58,rfl,by simp⟩,⟨_,_,rfl,rfl,⟨_,rfl,rfl⟩,⟨_,_,rfl,rfl,⟨_,rfl,rfl⟩,⟨_,_,rfl,rfl,⟨_,rfl,rfl⟩,⟨rfl,_,rfl,rfl⟩⟩⟩⟩,by decide,Tryz.eqGuardType58,Tryz.stoodInHeld58⟩⟩
theorem ty61:TyOk Tryz.prog X0 61 ⟨s0,16,.struct [(0,2),(1,2)]⟩:=⟨⟨Tryz.t61,Tryz.type61,rfl,by decide,by decide,rfl⟩,⟨⟨_,Tryz.underlying61,rfl,by simp⟩,⟨_,_,rfl,rfl,⟨_,rfl,rfl⟩,⟨rfl,_,rfl,rfl⟩⟩,by decide,Tryz.eqGuardType61,Tryz.stoodInHeld61⟩⟩
theorem ty72:TyOk Tryz.prog X0 72 ⟨(.list s17),24,.slice 44⟩:=⟨⟨Tryz.t72,Tryz.type72,rfl,by decide,by decide,rfl⟩,⟨Tryz.underlying72,_,rfl,rfl⟩⟩
theorem ty77:TyOk Tryz.prog X0 77 ⟨(.fn1 (.int .i64) .bool .z),8,.func⟩:=⟨⟨Tryz.t77,Tryz.type77,rfl,by decide,by decide,trivial⟩,⟨⟨_,_,_,Tryz.underlying77⟩,.inl ⟨_,_,_,rfl⟩⟩⟩
theorem ty96:TyOk Tryz.prog X0 96 ⟨s0,16,.struct [(0,2),(1,2)]⟩:=⟨⟨Tryz.t96,Tryz.type96,rfl,by decide,by decide,rfl⟩,⟨⟨_,Tryz.underlying96,rfl,by simp⟩,⟨_,_,rfl,rfl,⟨_,rfl,rfl⟩,⟨rfl,_,rfl,rfl⟩⟩,by decide,Tryz.eqGuardType96,Tryz.stoodInHeld96⟩⟩
theorem ty98:TyOk Tryz.prog X0 98 ⟨s2,40,.struct [(0,32),(1,2),(2,2)]⟩:=⟨⟨Tryz.t98,Tryz.type98,rfl,by decide,by decide,rfl⟩,⟨⟨_,Tryz.underlying98,rfl,by simp⟩,⟨_,_,rfl,rfl,⟨_,rfl,rfl⟩,⟨_,_,rfl,rfl,⟨_,rfl,rfl⟩,⟨rfl,_,rfl,rfl⟩⟩⟩,by decide,Tryz.eqGuardType98,Tryz.stoodInHeld98⟩⟩
theorem QEU:TyOk Tryz.prog X0 100 ⟨s3,48,.struct [(0,2),(1,98)]⟩:=⟨⟨Tryz.t100,Tryz.type100,rfl,by decide,by decide,rfl⟩,⟨⟨_,Tryz.underlying100,rfl,by simp⟩,⟨_,_,rfl,rfl,⟨_,rfl,rfl⟩,⟨rfl,_,rfl,rfl⟩⟩,by decide,Tryz.eqGuardType100,Tryz.stoodInHeld100⟩⟩
theorem QEX:TyOk Tryz.prog X0 102 ⟨s6,80,.struct [(0,96),(2,100),(6,2),(7,4)]⟩:=⟨⟨Tryz.t102,Tryz.type102,rfl,by decide,by decide,rfl⟩,⟨⟨_,Tryz.underlying102,rfl,by simp⟩,⟨_,_,rfl,rfl,⟨_,rfl,rfl⟩,⟨_,_,rfl,rfl,⟨_,rfl,rfl⟩,⟨_,_,rfl,rfl,⟨_,rfl,rfl⟩,⟨rfl,_,rfl,rfl⟩⟩⟩⟩,by decide,Tryz.eqGuardType102,Tryz.stoodInHeld102⟩⟩
theorem QE5:TyOk Tryz.prog X0 104 ⟨s27,32,.struct [(0,22),(1,2)]⟩:=⟨⟨Tryz.t104,Tryz.type104,rfl,by decide,by decide,rfl⟩,⟨⟨_,Tryz.underlying104,rfl,by simp⟩,⟨_,_,rfl,rfl,⟨_,rfl,rfl⟩,⟨rfl,_,rfl,rfl⟩⟩,by decide,Tryz.eqGuardType104,Tryz.stoodInHeld104⟩⟩
theorem QFg:TyOk Tryz.prog X0 114 ⟨(.fn1 s0 .bool .z),8,.func⟩:=⟨⟨Tryz.t114,Tryz.type114,rfl,by decide,by decide,trivial⟩,⟨⟨_,_,_,Tryz.underlying114⟩,.inl ⟨_,_,_,rfl⟩⟩⟩
theorem QFd:TyOk Tryz.prog X0 120 ⟨s0,16,.struct [(0,2),(1,2)]⟩:=⟨⟨Tryz.t120,Tryz.type120,rfl,by decide,by decide,rfl⟩,⟨⟨_,Tryz.underlying120,rfl,by simp⟩,⟨_,_,rfl,rfl,⟨_,rfl,rfl⟩,⟨rfl,_,rfl,rfl⟩⟩,by decide,Tryz.eqGuardType120,Tryz.stoodInHeld120⟩⟩
theorem QE8:TyOk Tryz.prog X0 136 ⟨s7,24,.struct [(0,2),(1,96)]⟩:=⟨⟨Tryz.t136,Tryz.type136,rfl,by decide,by decide,rfl⟩,⟨⟨_,Tryz.underlying136,rfl,by simp⟩,⟨_,_,rfl,rfl,⟨_,rfl,rfl⟩,⟨rfl,_,rfl,rfl⟩⟩,by decide,Tryz.eqGuardType136,Tryz.stoodInHeld136⟩⟩
theorem QFc:TyOk Tryz.prog X0 157 ⟨s29,56,.struct [(0,2),(1,32),(2,32)]⟩:=⟨⟨Tryz.t157,Tryz.type157,rfl,by decide,by decide,rfl⟩,⟨⟨_,Tryz.underlying157,rfl,by simp⟩,⟨_,_,rfl,rfl,⟨_,rfl,rfl⟩,⟨_,_,rfl,rfl,⟨_,rfl,rfl⟩,⟨rfl,_,rfl,rfl⟩⟩⟩,by decide,Tryz.eqGuardType157,Tryz.stoodInHeld157⟩⟩
theorem QE1:TyOk Tryz.prog X0 160 ⟨(.fn1 s17 .bool .z),8,.func⟩:=⟨⟨Tryz.t160,Tryz.type160,rfl,by decide,by decide,trivial⟩,⟨⟨_,_,_,Tryz.underlying160⟩,.inl ⟨_,_,_,rfl⟩⟩⟩
theorem QFf:TyOk Tryz.prog X0 183 ⟨(.fn1 s7 .bool .z),8,.func⟩:=⟨⟨Tryz.t183,Tryz.type183,rfl,by decide,by decide,trivial⟩,⟨⟨_,_,_,Tryz.underlying183⟩,.inl ⟨_,_,_,rfl⟩⟩⟩
theorem QFa:TyOk Tryz.prog X0 204 ⟨s30,32,.struct [(0,2),(1,28)]⟩:=⟨⟨Tryz.t204,Tryz.type204,rfl,by decide,by decide,rfl⟩,⟨⟨_,Tryz.underlying204,rfl,by simp⟩,⟨_,_,rfl,rfl,⟨_,rfl,rfl⟩,⟨rfl,_,rfl,rfl⟩⟩,by decide,Tryz.eqGuardType204,Tryz.stoodInHeld204⟩⟩
theorem QET:TyOk Tryz.prog X0 244 ⟨(.fn1 s6 .bool .z),8,.func⟩:=⟨⟨Tryz.t244,Tryz.type244,rfl,by decide,by decide,trivial⟩,⟨⟨_,_,_,Tryz.underlying244⟩,.inl ⟨_,_,_,rfl⟩⟩⟩
theorem QE2:TyOk Tryz.prog X0 247 ⟨(.fn2 s6 s6 (.int .i64)),8,.func⟩:=⟨⟨Tryz.t247,Tryz.type247,rfl,by decide,by decide,trivial⟩,⟨⟨_,_,_,Tryz.underlying247⟩,.inr ⟨_,_,_,rfl⟩⟩⟩
theorem QE7:TyOk Tryz.prog X0 249 ⟨(.fn2 s6 s0 (.int .i64)),8,.func⟩:=⟨⟨Tryz.t249,Tryz.type249,rfl,by decide,by decide,trivial⟩,⟨⟨_,_,_,Tryz.underlying249⟩,.inr ⟨_,_,_,rfl⟩⟩⟩
theorem QER:TyOk Tryz.prog X0 258 ⟨(.fn2 s7 (.int .i64) (.int .i64)),8,.func⟩:=⟨⟨Tryz.t258,Tryz.type258,rfl,by decide,by decide,trivial⟩,⟨⟨_,_,_,Tryz.underlying258⟩,.inr ⟨_,_,_,rfl⟩⟩⟩
theorem QE0:TyOk Tryz.prog X0 269 ⟨(.list (.int .i64)),24,.slice 3⟩:=⟨⟨Tryz.t269,Tryz.type269,rfl,by decide,by decide,rfl⟩,⟨Tryz.underlying269,_,rfl,rfl⟩⟩
theorem QE6:TyOk Tryz.prog X0 276 ⟨(.int .u64),8,.int .u64⟩:=⟨⟨Tryz.t276,Tryz.type276,rfl,by decide,by decide,rfl⟩,⟨Tryz.underlying276,rfl⟩⟩
theorem QEZ:TyOk Tryz.prog X0 292 ⟨(.int .u64),8,.int .u64⟩:=⟨⟨Tryz.t292,Tryz.type292,rfl,by decide,by decide,rfl⟩,⟨Tryz.underlying292,rfl⟩⟩
theorem QAO:QR Tryz.prog X0:=QDo ⟨ty2,ty3,ty4,ty5,ty9,ty22,ty24,ty25,ty27,ty28,ty29,ty31,ty32,ty36,ty38,ty41,ty42,ty44,ty46,ty49,ty52,ty54,ty56,ty58,ty61,ty72,ty77,ty96,ty98,QEU,QEX,QE5,QFg,QFd,QE8,QFc,QE1,QFf,QFa,QET,QE2,QE7,QER,QE0,QE6,QEZ,trivial⟩
theorem follows:Tryz.prog.follows .mixedOrders=true:=by kernel_rfl
end GL
end Go.Dx
set_option maxRecDepth 100000
set_option maxHeartbeats 0
namespace Go.Dx
open Go.Proofs
namespace GL

def Qkc (I:List Int):Option (Bool):=
 some (decide ((1048576:Int)<(List.length I:Int)))
def Qkn:Callee:=⟨[.v (.list (.int .u8)) .z],[(.bool,.z)],fun t=>Qkc t.1,true⟩
def Qw9:Ctx:=⟨tys,[],[],[],[],[],[],[]⟩
def Qho (I:List Int):Option (List Int×Int):=
 some (I,0)
def QkV:NewP:={ ins:=[(.list (.int .u8))],out:=s27,F:=fun t=>Qho t.1 }
def Ql (I:List Int×Int) (x1:Int):Option (Int×List Int×Int):=
 bif (decide ((x1:Int)<1)) then
 some (0,(I.1,IntKind.wrap .i64 (I.2+1)))
 else
 bif (decide (((List.length I.1:Int):Int)=0)) then
 bif (!decide (x1=(0:Int))) then
 some (Int.tmod (IntKind.wrap .i64 ((IntKind.wrap .i64 ((IntKind.wrap .i64 (I.2+1)) - 1)) * 7)) x1,(I.1,IntKind.wrap .i64 (I.2+1)))
 else none
 else
 bif (!decide ((List.length I.1:Int)=(0:Int))) then
 bif (inB (Int.tmod (IntKind.wrap .i64 ((IntKind.wrap .i64 (I.2+1)) - 1)) (List.length I.1:Int)) I.1) then
 bif (!decide ((List.length I.1:Int)=(0:Int))) then
 (bif (decide ((200:Int)<x1)) then
 bif (!decide ((List.length I.1:Int)=(0:Int))) then
 bif (inB (Int.tmod (IntKind.wrap .i64 ((IntKind.wrap .i64 ((IntKind.wrap .i64 (I.2+1)) - 1))+1)) (List.length I.1:Int)) I.1) then
 some (IntKind.wrap .i64 ((IntKind.wrap .i64 ((IntKind.wrap .i64 ((IntKind.wrap .i64 ((IntKind.wrap .i64 (List.getD I.1 (Int.toNat (Int.tmod (IntKind.wrap .i64 ((IntKind.wrap .i64 (I.2+1)) - 1)) (List.length I.1:Int))) 0))+(IntKind.wrap .i64 ((IntKind.wrap .i64 (Int.tdiv (IntKind.wrap .i64 ((IntKind.wrap .i64 (I.2+1)) - 1)) (List.length I.1:Int))) * 37)))) * 251))+(IntKind.wrap .i64 ((IntKind.wrap .i64 (List.getD I.1 (Int.toNat (Int.tmod (IntKind.wrap .i64 ((IntKind.wrap .i64 ((IntKind.wrap .i64 (I.2+1)) - 1))+1)) (List.length I.1:Int))) 0)) * 13))))+(IntKind.wrap .i64 ((IntKind.wrap .i64 (I.2+1)) - 1))))
 else none
 else none
 else
 some (IntKind.wrap .i64 ((IntKind.wrap .i64 (List.getD I.1 (Int.toNat (Int.tmod (IntKind.wrap .i64 ((IntKind.wrap .i64 (I.2+1)) - 1)) (List.length I.1:Int))) 0))+(IntKind.wrap .i64 ((IntKind.wrap .i64 (Int.tdiv (IntKind.wrap .i64 ((IntKind.wrap .i64 (I.2+1)) - 1)) (List.length I.1:Int))) * 37)))):Option (Int)).bind fun J=>
 bif (!decide (x1=(0:Int))) then
 some (Int.tmod J x1,(I.1,IntKind.wrap .i64 (I.2+1)))
 else none
 else none
 else none
 else none
def Zs:Callee:=⟨[.io s27 .z .z,.v (.int .i64) .z],[((.int .i64),.z)],fun t=>Ql t.1 t.2.1,true⟩
def Qwd:Ctx:=⟨tys,[],[],[],[(10,⟨[(.normal,⟨[(1,.keep),(7,.st (.int .i64) .z false)],[(71,.keep)]⟩)]⟩)],[],[],[]⟩
def YT (J:List Int×Int) (x1:List Int):Option (Int×List Int×Int):=
 (Ql J (List.length x1:Int)).bind fun I=>
 bif (inB I.1 x1) then
 some (List.getD x1 (Int.toNat I.1) 0,I.2)
 else none
def Qav:Callee:=⟨[.io s27 .z .z,.v (.list (.int .i64)) .z],[((.int .i64),.z)],fun t=>YT t.1 t.2.1,true⟩
def QvG:Ctx:=⟨tys,[(39,Zs)],[],[],[],[],[],[]⟩
def Jv (I:(Int×Int)×(Int×List Int×Int×Int)×Int×Bool) (x1:Int):Option (Bool):=
 (bif (!I.2.2.2) then
 some true
 else
 some (decide ((IntKind.wrap .i64 (I.2.2.1+2):Int)<=x1)):Option (Bool)).bind fun J=>
 some J
def Qdq:Callee:=⟨[.rp s6 false,.v (.int .i64) .z],[(.bool,.z)],fun t=>Jv t.1 t.2.1,true⟩
def QvV:Ctx:=⟨tys,[],[],[],[],[(1,⟨[(4,.st .bool .z false)],[]⟩)],[],[]⟩
def QS (J:List Int×Int) (x1:Int):Option (Bool×List Int×Int):=
 (Ql J x1).bind fun I=>
 some (decide ((I.1:Int)=0),I.2)
def Jq:Callee:=⟨[.io s27 .z .z,.v (.int .i64) .z],[(.bool,.z)],fun t=>QS t.1 t.2.1,true⟩
def Qr4:Ctx:=⟨tys,[(39,Zs)],[],[],[],[],[],[]⟩
def Zt (I:List (Int×Int)) (x1:Int×Int):Option (Bool):=
 (Qd (S:=Int) (X:=(Unit)⊕(Bool)) (fun s5=>
 bif (decide ((s5:Int)<(List.length I:Int))) then
 bif (inB s5 I) then
 bif (Sh.beq (.prod (.int .i64) (.int .i64)) (List.getD I (Int.toNat s5) (0,0)) x1) then
 some (Sum.inr (Sum.inr true))
 else
 some (Sum.inl (IntKind.wrap .i64 (s5+1)))
 else none
 else
 some (Sum.inr (Sum.inl ()))) 0).bind fun J=>
 Sum.elim (fun (j7:Unit)=>
 some false) (fun (U:Bool)=>
 some U) J
def Z7:Callee:=⟨[.v (.list s0) .z,.v s0 .z],[(.bool,.z)],fun t=>Zt t.1 t.2.1,true⟩
def Qtk:Ctx:=⟨tys,[],[],[(2,(⟨[(0,.keep),(3,.keep),(5,.st (.int .i64) .z false)],[(3,.keep)]⟩,⟨[((.exit 0),⟨[],[]⟩),(.ret,⟨[(4,.st .bool .z false)],[]⟩)]⟩))],[],[],[],[]⟩
def Ju (x0:List Int×Int):Option ((List Int×Int×Int)×List Int×Int):=
 (Ql x0 3).bind fun U=>
 (Ql U.2 3).bind fun y12=>
 (Qd (S:=Int×(List Int×Int×Int)×List Int×Int) (X:=(List Int×Int×Int)×List Int×Int) (fun s15=>
 bif (decide ((0:Int)<s15.1)) then
 bif (inB (IntKind.wrap .i64 ((List.length s15.2.1.1:Int) - 1)) s15.2.1.1) then
 (Ql s15.2.2 2).bind fun I=>
 bif decide (List.length s15.2.1.1+List.length ([IntKind.wrap .i64 ((IntKind.wrap .i64 ((List.getD s15.2.1.1 (Int.toNat (IntKind.wrap .i64 ((List.length s15.2.1.1:Int) - 1))) 0)+1))+I.1)]:List Int)<=LIM) then
 some (Sum.inl (IntKind.wrap .i64 (s15.1 - 1),((List.append s15.2.1.1 ([IntKind.wrap .i64 ((IntKind.wrap .i64 ((List.getD s15.2.1.1 (Int.toNat (IntKind.wrap .i64 ((List.length s15.2.1.1:Int) - 1))) 0)+1))+I.1)]:List Int),s15.2.1.2),I.2)))
 else none
 else none
 else
 some (Sum.inr (s15.2.1,s15.2.2))) (y12.1,((([IntKind.wrap .i64 (1+U.1)]:List Int),(0,0)),y12.2))).bind fun J=>
 (Ql J.2 (List.length J.1.1:Int)).bind fun y18=>
 (Ql y18.2 9).bind fun y19=>
 (YT y19.2 ([0,0,0,y19.1]:List Int)).bind fun y20=>
 some ((J.1.1,(IntKind.wrap .i64 (1+y18.1),y20.1)),y20.2)
def Qds:Callee:=⟨[.io s27 .z .z],[(s2,(.p (.o .z) .z))],fun t=>Ju t.1,true⟩
def Qvq:Ctx:=⟨tys,[(17,Qav),(39,Zs)],[],[(3,(⟨[(0,.keep),(2,.keep),(3,.keep),(4,.st (.int .i64) .z false)],[(2,.keep),(3,.st s2 (.p (.o .z) .z) false),(47,.st s27 .z false)]⟩,⟨[((.exit 0),⟨[(0,.keep),(2,.keep),(3,.keep)],[(2,.keep),(3,.st s2 (.p (.o .z) .z) false),(47,.st s27 .z false)]⟩)]⟩))],[],[],[],[]⟩
def Qgo (x0:List Int×Int):Option ((Int×Int×List (Int×Int)×List (Int×List Int×Int×Int))×List Int×Int):=
 (YT x0 ([0,0,0,1,2]:List Int)).bind fun U=>
 (bif (!decide ((U.1:Int)=0)) then
 (Ql U.2 4).bind fun y31=>
 some ((U.1,(IntKind.wrap .i64 (1+y31.1),([],[]))),y31.2)
 else
 some ((U.1,(0,([],[]))),U.2):Option ((Int×Int×List (Int×Int)×List (Int×List Int×Int×Int))×List Int×Int)).bind fun j32=>
 (Ql j32.2 2).bind fun y33=>
 (Qd (S:=Int×(Int×Int×List (Int×Int)×List (Int×List Int×Int×Int))×List Int×Int) (X:=(Int×Int×List (Int×Int)×List (Int×List Int×Int×Int))×List Int×Int) (fun I=>
 bif (decide ((0:Int)<I.1)) then
 (Ql I.2.2 6).bind fun y43=>
 (Ql y43.2 2).bind fun y44=>
 (Zt I.2.1.2.2.1 (IntKind.wrap .i64 (1+y43.1),y44.1)).bind fun y45=>
 (bif (!y45) then
 bif decide (List.length I.2.1.2.2.1+List.length ([(IntKind.wrap .i64 (1+y43.1),y44.1)]:List (Int×Int))<=LIM) then
 some (I.2.1.1,(I.2.1.2.1,(List.append I.2.1.2.2.1 ([(IntKind.wrap .i64 (1+y43.1),y44.1)]:List (Int×Int)),I.2.1.2.2.2)))
 else none
 else
 some I.2.1:Option (Int×Int×List (Int×Int)×List (Int×List Int×Int×Int))).bind fun j46=>
 some (Sum.inl (IntKind.wrap .i64 (I.1 - 1),(j46,y44.2)))
 else
 some (Sum.inr (I.2.1,I.2.2))) (IntKind.wrap .i64 (1+y33.1),(j32.1,y33.2))).bind fun j47=>
 (Ql j47.2 2).bind fun y48=>
 (Qd (S:=Int×(Int×Int×List (Int×Int)×List (Int×List Int×Int×Int))×List Int×Int) (X:=(Int×Int×List (Int×Int)×List (Int×List Int×Int×Int))×List Int×Int) (fun J=>
 bif (decide ((0:Int)<J.1)) then
 (Ql J.2.2 99).bind fun y54=>
 (Ju y54.2).bind fun y55=>
 bif decide (List.length J.2.1.2.2.2+List.length ([(IntKind.wrap .i64 (100+y54.1),y55.1)]:List (Int×List Int×Int×Int))<=LIM) then
 some (Sum.inl (IntKind.wrap .i64 (J.1 - 1),((J.2.1.1,(J.2.1.2.1,(J.2.1.2.2.1,List.append J.2.1.2.2.2 ([(IntKind.wrap .i64 (100+y54.1),y55.1)]:List (Int×List Int×Int×Int))))),y55.2)))
 else none
 else
 some (Sum.inr (J.2.1,J.2.2))) (IntKind.wrap .i64 (1+y48.1),(j47.1,y48.2))).bind fun j56=>
 some (j56.1,j56.2)
def Qjx:Callee:=⟨[.io s27 .z .z],[(s17,(.p .z (.p .z (.p (.o .z) (.o (.p .z (.p (.o .z) .z)))))))],fun t=>Qgo t.1,true⟩
def Qva:Ctx:=⟨tys,[(17,Qav),(39,Zs),(132,Z7),(134,Qds)],[],[(5,(⟨[(0,.keep),(2,.keep),(3,.keep),(4,.st (.int .i64) .z false)],[(2,.keep),(3,.st s17 (.p .z (.p .z (.p (.o .z) (.o (.p .z (.p (.o .z) .z)))))) false),(61,.st s27 .z false)]⟩,⟨[((.exit 0),⟨[(0,.keep),(2,.keep),(3,.keep)],[(2,.keep),(3,.st s17 (.p .z (.p .z (.p (.o .z) (.o (.p .z (.p (.o .z) .z)))))) false),(61,.st s27 .z false)]⟩)]⟩)),
 (11,(⟨[(0,.keep),(2,.keep),(3,.keep),(6,.st (.int .i64) .z false)],[(2,.keep),(3,.st s17 (.p .z (.p .z (.p (.o .z) (.o (.p .z (.p (.o .z) .z)))))) false),(61,.st s27 .z false)]⟩,⟨[((.exit 2),⟨[(2,.keep),(3,.keep)],[(2,.keep),(3,.st s17 (.p .z (.p .z (.p (.o .z) (.o (.p .z (.p (.o .z) .z)))))) false),(61,.st s27 .z false)]⟩)]⟩))],[(3,⟨[(.normal,⟨[(0,.keep),(2,.keep),(3,.keep)],[(2,.keep),(3,.st s17 (.p .z (.p .z (.p (.o .z) (.o (.p .z (.p (.o .z) .z)))))) false),(61,.st s27 .z false)]⟩)]⟩),
 (9,⟨[(.normal,⟨[(0,.keep),(2,.keep),(3,.keep),(4,.keep)],[(2,.keep),(3,.st s17 (.p .z (.p .z (.p (.o .z) (.o (.p .z (.p (.o .z) .z)))))) false),(61,.keep)]⟩)]⟩)],[],[],[]⟩
def QkK (I:Int) (x1:Int):Option (Int):=
 bif (decide ((x1:Int)<I)) then
 some I
 else
 some x1
def Qkq:Callee:=⟨[.v (.int .i64) .z,.v (.int .i64) .z],[((.int .i64),.z)],fun t=>QkK t.1 t.2.1,true⟩
def QxF:Ctx:=⟨tys,[],[],[],[],[],[],[]⟩
def QfU (x0:List Int×Int) (x1:List ((Int×Int)×(Int×List Int×Int×Int)×Int×Bool)):Option ((Int×Int×List (Int×Int)×List (Int×List Int×Int×Int))×List Int×Int):=
 (Qgo x0).bind fun y58=>
 (bif (decide ((0:Int)<(List.length x1:Int))) then
 (QS y58.2 8).bind fun y60=>
 some (!y60.1,y60.2)
 else
 some (false,y58.2):Option (Bool×List Int×Int)).bind fun j61=>
 (bif j61.1 then
 (Ql j61.2 2).bind fun y88=>
 (Qd (S:=Int×Int×(Int×Int×List (Int×Int)×List (Int×List Int×Int×Int))×List Int×Int) (X:=Int×(Int×Int×List (Int×Int)×List (Int×List Int×Int×Int))×List Int×Int) (fun I=>
 bif (decide ((0:Int)<I.2.1)) then
 (Ql I.2.2.2 (List.length x1:Int)).bind fun y96=>
 bif (inB y96.1 x1) then
 (Zt I.2.2.1.2.2.1 (List.getD x1 (Int.toNat y96.1) ((0,0),((0,([],(0,0))),(0,false)))).1).bind fun y97=>
 (bif (!y97) then
 bif decide (List.length I.2.2.1.2.2.1+List.length ([(List.getD x1 (Int.toNat y96.1) ((0,0),((0,([],(0,0))),(0,false)))).1]:List (Int×Int))<=LIM) then
 some (IntKind.wrap .i64 (I.1+(List.getD x1 (Int.toNat y96.1) ((0,0),((0,([],(0,0))),(0,false)))).2.1.1),(I.2.2.1.1,(I.2.2.1.2.1,(List.append I.2.2.1.2.2.1 ([(List.getD x1 (Int.toNat y96.1) ((0,0),((0,([],(0,0))),(0,false)))).1]:List (Int×Int)),I.2.2.1.2.2.2))))
 else none
 else
 some (I.1,I.2.2.1):Option (Int×Int×Int×List (Int×Int)×List (Int×List Int×Int×Int))).bind fun j98=>
 some (Sum.inl (j98.1,(IntKind.wrap .i64 (I.2.1 - 1),(j98.2,y96.2))))
 else none
 else
 some (Sum.inr (I.1,(I.2.2.1,I.2.2.2)))) (0,(IntKind.wrap .i64 (1+y88.1),((y58.1.1,(y58.1.2.1,(([]:List (Int×Int)),y58.1.2.2.2))),y88.2)))).bind fun J=>
 ((QS J.2.2 4).bind fun y101=>
 bif (!y101.1) then
 some (decide ((0:Int)<J.1),y101.2)
 else
 some (false,y101.2):Option (Bool×List Int×Int)).bind fun j102=>
 (bif j102.1 then
 (Ql j102.2 5).bind fun y108=>
 (QkK 1 (IntKind.wrap .i64 (J.1 - y108.1))).bind fun y109=>
 (Ju y108.2).bind fun U=>
 (bif (decide ((J.2.1.1:Int)=1)) then
 bif (inB 0 ([(y109,U.1)]:List (Int×List Int×Int×Int))) then
 some (decide (((List.getD ([(y109,U.1)]:List (Int×List Int×Int×Int)) (Int.toNat 0) (0,([],(0,0)))).1:Int)<100))
 else none
 else
 some false:Option (Bool)).bind fun j111=>
 (bif j111 then
 some (0,(0,(J.2.1.2.2.1,([(y109,U.1)]:List (Int×List Int×Int×Int)))))
 else
 some (J.2.1.1,(J.2.1.2.1,(J.2.1.2.2.1,([(y109,U.1)]:List (Int×List Int×Int×Int))))):Option (Int×Int×List (Int×Int)×List (Int×List Int×Int×Int))).bind fun j112=>
 some (j112,U.2)
 else
 some (J.2.1,j102.2):Option ((Int×Int×List (Int×Int)×List (Int×List Int×Int×Int))×List Int×Int)).bind fun j113=>
 some (j113.1,j113.2)
 else
 some (y58.1,j61.2):Option ((Int×Int×List (Int×Int)×List (Int×List Int×Int×Int))×List Int×Int)).bind fun j114=>
 some (j114.1,j114.2)
def QiP:Callee:=⟨[.io s27 .z .z,.v (.list s6) .z],[(s17,(.p .z (.p .z (.p (.o .z) (.o (.p .z (.p (.o .z) .z)))))))],fun t=>QfU t.1 t.2.1,true⟩
def Qzb:Ctx:=⟨tys,[(39,Zs),(84,Jq),(131,Qjx),(132,Z7),(133,Qkq),(134,Qds)],[],[(6,(⟨[(0,.keep),(1,.keep),(4,.keep),(5,.keep),(6,.st (.int .i64) .z false),(7,.st (.int .i64) .z false)],[(4,.keep),(5,.st s17 (.p .z (.p .z (.p (.o .z) (.o (.p .z (.p (.o .z) .z)))))) false),(83,.st s27 .z false)]⟩,⟨[((.exit 0),⟨[(0,.keep),(4,.keep),(5,.keep),(6,.st (.int .i64) .z false)],[(4,.keep),(5,.st s17 (.p .z (.p .z (.p (.o .z) (.o (.p .z (.p (.o .z) .z)))))) false),(83,.st s27 .z false)]⟩)]⟩))],[(3,⟨[(.normal,⟨[(4,.keep),(5,.keep)],[(4,.keep),(5,.st s17 (.p .z (.p .z (.p (.o .z) (.o (.p .z (.p (.o .z) .z)))))) false),(83,.st s27 .z false)]⟩)]⟩),
 (10,⟨[(.normal,⟨[(0,.keep),(1,.keep),(4,.keep),(5,.keep),(6,.st (.int .i64) .z false),(7,.keep)],[(4,.keep),(5,.st s17 (.p .z (.p .z (.p (.o .z) (.o (.p .z (.p (.o .z) .z)))))) false),(83,.keep)]⟩)]⟩),
 (13,⟨[(.normal,⟨[(4,.keep),(5,.keep)],[(4,.keep),(5,.st s17 (.p .z (.p .z (.p (.o .z) (.o (.p .z (.p (.o .z) .z)))))) false),(83,.st s27 .z false)]⟩)]⟩),
 (15,⟨[(.normal,⟨[(4,.keep),(5,.keep)],[(4,.keep),(5,.st s17 (.p .z (.p .z (.p (.o .z) (.o (.p .z (.p (.o .z) .z)))))) false),(83,.keep)]⟩)]⟩)],[(2,⟨[(0,.keep),(1,.keep),(4,.keep),(5,.keep),(18,.st .bool .z false)],[(4,.keep),(5,.keep),(83,.st s27 .z false)]⟩),
 (12,⟨[(0,.keep),(4,.keep),(5,.keep),(6,.keep),(58,.st .bool .z false)],[(4,.keep),(5,.keep),(83,.st s27 .z false)]⟩),
 (14,⟨[(4,.keep),(5,.keep),(79,.st .bool .z false)],[(4,.keep),(5,.keep),(83,.keep)]⟩)],[],[]⟩
def QT (I:Int) (x1:Int) (x2:Int):Option (Bool):=
 (bif (decide ((x1:Int)<=I)) then
 some (decide ((I:Int)<=x2))
 else
 some false:Option (Bool)).bind fun J=>
 some J
def ZP:Callee:=⟨[.v (.int .i64) .z,.v (.int .i64) .z,.v (.int .i64) .z],[(.bool,.z)],fun t=>QT t.1 t.2.1 t.2.2.1,true⟩
def QyP:Ctx:=⟨tys,[],[],[],[],[(1,⟨[(6,.st .bool .z false)],[]⟩)],[],[]⟩
def YP (I:Int):Option (Bool):=
 (QT I 1 999).bind fun J=>
 some J
def Jj:Callee:=⟨[.v (.int .i64) .z],[(.bool,.z)],fun t=>YP t.1,true⟩
def QxE:Ctx:=⟨tys,[(48,ZP)],[],[],[],[],[],[]⟩
def QdO (I:List (List UInt8)) (x1:List UInt8):Option (Int):=
 (Qd (S:=Int) (X:=(Unit)⊕(Int)) (fun s5=>
 bif (decide ((s5:Int)<(List.length I:Int))) then
 bif (inB s5 I) then
 bif (decide ((List.getD I (Int.toNat s5) []:List UInt8)=x1)) then
 some (Sum.inr (Sum.inr (IntKind.wrap .i64 (s5+1))))
 else
 some (Sum.inl (IntKind.wrap .i64 (s5+1)))
 else none
 else
 some (Sum.inr (Sum.inl ()))) 0).bind fun J=>
 Sum.elim (fun (j7:Unit)=>
 some 0) (fun (U:Int)=>
 some U) J
def QfP:Callee:=⟨[.v (.list .str) .z,.v .str .z],[((.int .i64),.z)],fun t=>QdO t.1 t.2.1,true⟩
def QyU:Ctx:=⟨tys,[],[],[(2,(⟨[(0,.keep),(1,.keep),(5,.st (.int .i64) .z false)],[]⟩,⟨[((.exit 0),⟨[],[]⟩),(.ret,⟨[(4,.st (.int .i64) .z false)],[]⟩)]⟩))],[],[],[],[]⟩
def Qap (I:List (Int×Int)) (x1:Int×Int):Option (Bool):=
 (Qd (S:=Int) (X:=(Unit)⊕(Bool)) (fun s5=>
 bif (decide ((s5:Int)<(List.length I:Int))) then
 bif (inB s5 I) then
 bif (Sh.beq (.prod (.int .i64) (.int .i64)) (List.getD I (Int.toNat s5) (0,0)) x1) then
 some (Sum.inr (Sum.inr true))
 else
 some (Sum.inl (IntKind.wrap .i64 (s5+1)))
 else none
 else
 some (Sum.inr (Sum.inl ()))) 0).bind fun J=>
 Sum.elim (fun (j7:Unit)=>
 some false) (fun (U:Bool)=>
 some U) J
def QbH:Callee:=⟨[.v (.list s0) .z,.v s0 .z],[(.bool,.z)],fun t=>Qap t.1 t.2.1,true⟩
def QqO:Ctx:=⟨tys,[],[],[(2,(⟨[(0,.keep),(3,.keep),(5,.st (.int .i64) .z false)],[(3,.keep)]⟩,⟨[((.exit 0),⟨[],[]⟩),(.ret,⟨[(4,.st .bool .z false)],[]⟩)]⟩))],[],[],[],[]⟩
def Y2 (I:List (List UInt8)×List (Int×Int)):Option (Int):=
 (bif (decide ((60:Int)<(List.length I.1:Int))) then
 some true
 else
 some (decide ((120:Int)<(List.length I.2:Int))):Option (Bool)).bind fun j34=>
 bif j34 then
 some 2
 else
 (Qd (S:=Int) (X:=(Unit)⊕(Int)) (fun J=>
 bif (decide ((J:Int)<(List.length I.1:Int))) then
 (bif (inB J I.1) then
 bif (decide (((List.length (List.getD I.1 (Int.toNat J) []):Int):Int)<1)) then
 some true
 else
 bif (inB J I.1) then
 some (decide ((300:Int)<(List.length (List.getD I.1 (Int.toNat J) []):Int)))
 else none
 else none:Option (Bool)).bind fun j40=>
 bif j40 then
 some (Sum.inr (Sum.inr 2))
 else
 bif (QC 0 J I.1) then
 bif (inB J I.1) then
 (QdO (cut 0 J I.1) (List.getD I.1 (Int.toNat J) [])).bind fun y41=>
 bif (decide ((0:Int)<y41)) then
 some (Sum.inr (Sum.inr 7))
 else
 some (Sum.inl (IntKind.wrap .i64 (J+1)))
 else none
 else none
 else
 some (Sum.inr (Sum.inl ()))) 0).bind fun j42=>
 Sum.elim (fun (j43:Unit)=>
 (Qd (S:=Int) (X:=(Unit)⊕(Int)) (fun U=>
 bif (decide ((U:Int)<(List.length I.2:Int))) then
 (bif (inB U I.2) then
 (YP (List.getD I.2 (Int.toNat U) (0,0)).1).bind fun y60=>
 bif (!y60) then
 some true
 else
 bif (inB U I.2) then
 (QT (List.getD I.2 (Int.toNat U) (0,0)).2 1 (List.length I.1:Int)).bind fun y61=>
 some (!y61)
 else none
 else none:Option (Bool)).bind fun j62=>
 bif j62 then
 some (Sum.inr (Sum.inr 3))
 else
 bif (QC 0 U I.2) then
 bif (inB U I.2) then
 (Qap (cut 0 U I.2) (List.getD I.2 (Int.toNat U) (0,0))).bind fun y63=>
 bif y63 then
 some (Sum.inr (Sum.inr 7))
 else
 some (Sum.inl (IntKind.wrap .i64 (U+1)))
 else none
 else none
 else
 some (Sum.inr (Sum.inl ()))) 0).bind fun j64=>
 Sum.elim (fun (j65:Unit)=>
 some 0) (fun (j66:Int)=>
 some j66) j64) (fun (j44:Int)=>
 some j44) j42
def JO:Callee:=⟨[.rp s1 false],[((.int .i64),.z)],fun t=>Y2 t.1,true⟩
def Qs2:Ctx:=⟨tys,[(21,Jj),(48,ZP),(94,QfP),(95,QbH)],[],[(4,(⟨[(0,.keep),(3,.st (.int .i64) .z false)],[]⟩,⟨[((.exit 0),⟨[(0,.keep)],[]⟩),(.ret,⟨[(2,.st (.int .i64) .z false)],[]⟩)]⟩)),
 (11,(⟨[(0,.keep),(4,.st (.int .i64) .z false)],[]⟩,⟨[((.exit 2),⟨[],[]⟩),(.ret,⟨[(2,.st (.int .i64) .z false)],[]⟩)]⟩))],[],[(1,⟨[(0,.keep),(18,.st .bool .z false)],[]⟩),
 (6,⟨[(0,.keep),(3,.keep),(47,.st .bool .z false)],[]⟩),
 (13,⟨[(0,.keep),(4,.keep),(98,.st .bool .z false)],[]⟩)],[],[]⟩
def Qdz (I:List (List UInt8)×List (Int×Int)):Option (List (List UInt8)×List (Int×Int)):=
 bif decide (List.length ([]:List (List UInt8))+List.length I.1<=LIM) then
 bif decide (List.length ([]:List (Int×Int))+List.length I.2<=LIM) then
 some (List.append ([]:List (List UInt8)) I.1,List.append ([]:List (Int×Int)) I.2)
 else none
 else none
def Qf7:Callee:=⟨[.v s1 .z],[(s1,(.p (.o .z) (.o .z)))],fun t=>Qdz t.1,true⟩
def Qvi:Ctx:=⟨tys,[],[],[],[],[],[],[]⟩
def Qan (J:List (List UInt8)×List (Int×Int)) (x1:List UInt8):Option (Int×Int×List (List UInt8)×List (Int×Int)):=
 (Y2 J).bind fun U=>
 bif (!decide ((U:Int)=0)) then
 some (U,(0,([],[])))
 else
 (bif (decide (((List.length x1:Int):Int)<1)) then
 some true
 else
 some (decide ((300:Int)<(List.length x1:Int))):Option (Bool)).bind fun j6=>
 bif j6 then
 some (2,(0,([],[])))
 else
 (Qdz J).bind fun I=>
 (QdO J.1 x1).bind fun y8=>
 bif (decide ((0:Int)<y8)) then
 some (0,(y8,I))
 else
 bif (decide ((60:Int)<=(List.length J.1:Int))) then
 some (2,(0,([],[])))
 else
 bif decide (List.length I.1+List.length ([x1]:List (List UInt8))<=LIM) then
 some (0,((List.length (List.append I.1 ([x1]:List (List UInt8))):Int),(List.append I.1 ([x1]:List (List UInt8)),I.2)))
 else none
def Qd7:Callee:=⟨[.v s1 .z,.v .str .z],[(s21,(.p .z (.p .z (.p (.o .z) (.o .z)))))],fun t=>Qan t.1 t.2.1,true⟩
def Qr0:Ctx:=⟨tys,[(45,JO),(94,QfP),(135,Qf7)],[],[],[],[(4,⟨[(1,.keep),(2,.keep),(4,.keep),(20,.st .bool .z false)],[(2,.keep),(4,.keep)]⟩)],[],[]⟩
def QA (I:Int):Option (List UInt8):=
 digS 19 I
def Qee:Callee:=⟨[.v (.int .i64) .z],[(.str,.z)],fun t=>QA t.1,true⟩
def Qau (I:List UInt8) (x1:Int) (x2:Int):Option (List UInt8):=
 swpS I x1 x2
def QjE:Callee:=⟨[.v .str .z,.v (.int .u8) .z,.v (.int .u8) .z],[(.str,.z)],fun t=>Qau t.1 t.2.1 t.2.2.1,false⟩
def Qdp (J:List Int×Int×Int):Option (List UInt8):=
 (QA J.2.1).bind fun U=>
 bif decide (List.length U+List.length [32,111,102,32]<=LIM) then
 bif (inB 0 J.1) then
 (QA (List.getD J.1 (Int.toNat 0) 0)).bind fun y12=>
 bif decide (List.length (List.append U [32,111,102,32])+List.length y12<=LIM) then
 (Qd (S:=List UInt8×Int) (X:=List UInt8) (fun s15=>
 bif (decide ((s15.2:Int)<(List.length J.1:Int))) then
 bif decide (List.length s15.1+List.length [44]<=LIM) then
 bif (inB s15.2 J.1) then
 (QA (List.getD J.1 (Int.toNat s15.2) 0)).bind fun y16=>
 bif decide (List.length (List.append s15.1 [44])+List.length y16<=LIM) then
 some (Sum.inl (List.append (List.append s15.1 [44]) y16,IntKind.wrap .i64 (s15.2+1)))
 else none
 else none
 else none
 else
 some (Sum.inr s15.1)) (List.append (List.append U [32,111,102,32]) y12,1)).bind fun I=>
 (bif (!decide ((J.2.2:Int)=0)) then
 bif decide (List.length I+List.length [32,97,102,116,101,114,32]<=LIM) then
 (QA J.2.2).bind fun y19=>
 bif decide (List.length (List.append I [32,97,102,116,101,114,32])+List.length y19<=LIM) then
 some (List.append (List.append I [32,97,102,116,101,114,32]) y19)
 else none
 else none
 else
 some I:Option (List UInt8)).bind fun j20=>
 some j20
 else none
 else none
 else none
def Qjl:Callee:=⟨[.rp s2 false],[(.str,.z)],fun t=>Qdp t.1,true⟩
def QvT:Ctx:=⟨tys,[(136,Qee)],[],[(3,(⟨[(0,.keep),(3,.st .str .z false),(4,.st (.int .i64) .z false)],[]⟩,⟨[((.exit 0),⟨[(0,.keep),(3,.st .str .z false)],[]⟩)]⟩))],[(7,⟨[(.normal,⟨[(3,.st .str .z false)],[]⟩)]⟩)],[],[],[]⟩
def YS (U:Int×Int×List (Int×Int)×List (Int×List Int×Int×Int)):Option (List UInt8):=
 bif (inB U.1 ([[112,97,121],[106,111,105,110,32],[108,101,97,118,101,32]]:List (List UInt8))) then
 (bif (!decide ((U.1:Int)=0)) then
 (QA U.2.1).bind fun y26=>
 bif decide (List.length (List.getD ([[112,97,121],[106,111,105,110,32],[108,101,97,118,101,32]]:List (List UInt8)) (Int.toNat U.1) [])+List.length y26<=LIM) then
 some (List.append (List.getD ([[112,97,121],[106,111,105,110,32],[108,101,97,118,101,32]]:List (List UInt8)) (Int.toNat U.1) []) y26)
 else none
 else
 some (List.getD ([[112,97,121],[106,111,105,110,32],[108,101,97,118,101,32]]:List (List UInt8)) (Int.toNat U.1) []):Option (List UInt8)).bind fun j27=>
 (Qd (S:=List UInt8×Int) (X:=List UInt8) (fun I=>
 bif (decide ((I.2:Int)<(List.length U.2.2.1:Int))) then
 (bif (decide ((I.2:Int)=0)) then
 some [32]
 else
 some [43]:Option (List UInt8)).bind fun j34=>
 bif decide (List.length I.1+List.length j34<=LIM) then
 bif (inB I.2 U.2.2.1) then
 (QA (List.getD U.2.2.1 (Int.toNat I.2) (0,0)).1).bind fun y35=>
 bif decide (List.length (List.append I.1 j34)+List.length y35<=LIM) then
 bif decide (List.length (List.append (List.append I.1 j34) y35)+List.length [58]<=LIM) then
 bif (inB I.2 U.2.2.1) then
 (QA (List.getD U.2.2.1 (Int.toNat I.2) (0,0)).2).bind fun y36=>
 bif decide (List.length (List.append (List.append (List.append I.1 j34) y35) [58])+List.length y36<=LIM) then
 some (Sum.inl (List.append (List.append (List.append (List.append I.1 j34) y35) [58]) y36,IntKind.wrap .i64 (I.2+1)))
 else none
 else none
 else none
 else none
 else none
 else none
 else
 some (Sum.inr I.1)) (j27,0)).bind fun j37=>
 (Qd (S:=List UInt8×Int) (X:=List UInt8) (fun J=>
 bif (decide ((J.2:Int)<(List.length U.2.2.2:Int))) then
 bif decide (List.length J.1+List.length [32]<=LIM) then
 bif (inB J.2 U.2.2.2) then
 (QA (List.getD U.2.2.2 (Int.toNat J.2) (0,([],(0,0)))).1).bind fun y45=>
 bif decide (List.length (List.append J.1 [32])+List.length y45<=LIM) then
 bif decide (List.length (List.append (List.append J.1 [32]) y45)+List.length [61]<=LIM) then
 bif (inB J.2 U.2.2.2) then
 (Qdp (List.getD U.2.2.2 (Int.toNat J.2) (0,([],(0,0)))).2).bind fun y46=>
 (Qau y46 32 95).bind fun y47=>
 bif decide (List.length (List.append (List.append (List.append J.1 [32]) y45) [61])+List.length y47<=LIM) then
 some (Sum.inl (List.append (List.append (List.append (List.append J.1 [32]) y45) [61]) y47,IntKind.wrap .i64 (J.2+1)))
 else none
 else none
 else none
 else none
 else none
 else none
 else
 some (Sum.inr J.1)) (j37,0)).bind fun j48=>
 some j48
 else none
def Qbt:Callee:=⟨[.rp s17 false],[(.str,.z)],fun t=>YS t.1,false⟩
def QvY:Ctx:=⟨tys,[(136,Qee),(137,QjE),(138,Qjl)],[],[(5,(⟨[(0,.keep),(3,.st .str .z false),(4,.st (.int .i64) .z false)],[]⟩,⟨[((.exit 0),⟨[(0,.keep),(3,.st .str .z false)],[]⟩)]⟩)),
 (12,(⟨[(0,.keep),(3,.st .str .z false),(6,.st (.int .i64) .z false)],[]⟩,⟨[((.exit 2),⟨[(3,.st .str .z false)],[]⟩)]⟩))],[(3,⟨[(.normal,⟨[(0,.keep),(3,.st .str .z false)],[]⟩)]⟩),
 (9,⟨[(.normal,⟨[(0,.keep),(3,.keep),(4,.keep),(5,.st .str .z false)],[]⟩)]⟩)],[],[],[]⟩
def QdN (I:List (List UInt8)×List (Int×Int)) (x1:Int):Option (Bool):=
 (QT x1 1 (List.length I.1:Int)).bind fun J=>
 some J
def QiK:Callee:=⟨[.rp s1 false,.v (.int .i64) .z],[(.bool,.z)],fun t=>QdN t.1 t.2.1,true⟩
def Qy2:Ctx:=⟨tys,[(48,ZP)],[],[],[],[],[],[]⟩
def QdD (J:List (List UInt8)×List (Int×Int)) (x1:Int) (x2:Int):Option (Int×Int×List (List UInt8)×List (Int×Int)):=
 (Y2 J).bind fun y9=>
 bif (!decide ((y9:Int)=0)) then
 some (y9,(0,([],[])))
 else
 ((YP x1).bind fun U=>
 bif (!U) then
 some true
 else
 (QdN J x2).bind fun y13=>
 some (!y13):Option (Bool)).bind fun j14=>
 bif j14 then
 some (3,(0,([],[])))
 else
 (Qdz J).bind fun I=>
 (Qap J.2 (x1,x2)).bind fun y16=>
 bif y16 then
 some (0,(x2,I))
 else
 bif (decide ((120:Int)<=(List.length J.2:Int))) then
 some (2,(0,([],[])))
 else
 bif decide (List.length I.2+List.length ([(x1,x2)]:List (Int×Int))<=LIM) then
 some (0,(x2,(I.1,List.append I.2 ([(x1,x2)]:List (Int×Int)))))
 else none
def Qge:Callee:=⟨[.v s1 .z,.v (.int .i64) .z,.v (.int .i64) .z],[(s21,(.p .z (.p .z (.p (.o .z) (.o .z)))))],fun t=>QdD t.1 t.2.1 t.2.2.1,true⟩
def Qwc:Ctx:=⟨tys,[(21,Jj),(45,JO),(95,QbH),(135,Qf7),(139,QiK)],[],[],[],[(4,⟨[(1,.keep),(2,.keep),(3,.keep),(6,.keep),(22,.st .bool .z false)],[(3,.keep),(6,.keep)]⟩)],[],[]⟩
def QaS (I:List (Int×Int×Int)) (x1:Int):Option (Int):=
 (Qd (S:=Int) (X:=(Unit)⊕(Int)) (fun s5=>
 bif (decide ((s5:Int)<(List.length I:Int))) then
 bif (inB s5 I) then
 bif (decide (((List.getD I (Int.toNat s5) (0,(0,0))).1:Int)=x1)) then
 some (Sum.inr (Sum.inr s5))
 else
 some (Sum.inl (IntKind.wrap .i64 (s5+1)))
 else none
 else
 some (Sum.inr (Sum.inl ()))) 0).bind fun J=>
 Sum.elim (fun (j7:Unit)=>
 some (-1)) (fun (U:Int)=>
 some U) J
def QdJ:Callee:=⟨[.v (.list s7) .z,.v (.int .i64) .z],[((.int .i64),.z)],fun t=>QaS t.1 t.2.1,true⟩
def Qzn:Ctx:=⟨tys,[],[],[(2,(⟨[(0,.keep),(1,.keep),(5,.st (.int .i64) .z false)],[]⟩,⟨[((.exit 0),⟨[],[]⟩),(.ret,⟨[(4,.st (.int .i64) .z false)],[]⟩)]⟩))],[],[],[],[]⟩
def QcI (I:List Int) (x1:Int):Option (Bool):=
 (Qd (S:=Int) (X:=(Unit)⊕(Bool)) (fun s5=>
 bif (decide ((s5:Int)<(List.length I:Int))) then
 bif (inB s5 I) then
 bif (decide ((List.getD I (Int.toNat s5) 0:Int)=x1)) then
 some (Sum.inr (Sum.inr true))
 else
 some (Sum.inl (IntKind.wrap .i64 (s5+1)))
 else none
 else
 some (Sum.inr (Sum.inl ()))) 0).bind fun J=>
 Sum.elim (fun (j7:Unit)=>
 some false) (fun (U:Bool)=>
 some U) J
def Qfd:Callee:=⟨[.v (.list (.int .i64)) .z,.v (.int .i64) .z],[(.bool,.z)],fun t=>QcI t.1 t.2.1,true⟩
def Qtr:Ctx:=⟨tys,[],[],[(2,(⟨[(0,.keep),(1,.keep),(5,.st (.int .i64) .z false)],[]⟩,⟨[((.exit 0),⟨[],[]⟩),(.ret,⟨[(4,.st .bool .z false)],[]⟩)]⟩))],[],[],[],[]⟩
def QfY (x0:Int×Int×Int×List Int):Option (List UInt8):=
 (QA x0.1).bind fun I=>
 bif decide (List.length [98,108,111,99,107,32]+List.length I<=LIM) then
 bif decide (List.length (List.append [98,108,111,99,107,32] I)+List.length [32]<=LIM) then
 (QA x0.2.1).bind fun J=>
 bif decide (List.length (List.append (List.append [98,108,111,99,107,32] I) [32])+List.length J<=LIM) then
 bif decide (List.length (List.append (List.append (List.append [98,108,111,99,107,32] I) [32]) J)+List.length [32]<=LIM) then
 (QA x0.2.2.1).bind fun U=>
 bif decide (List.length (List.append (List.append (List.append (List.append [98,108,111,99,107,32] I) [32]) J) [32])+List.length U<=LIM) then
 bif (decide (((List.length x0.2.2.2:Int):Int)=0)) then
 bif decide (List.length (List.append (List.append (List.append (List.append (List.append [98,108,111,99,107,32] I) [32]) J) [32]) U)+List.length [32,45]<=LIM) then
 some (List.append (List.append (List.append (List.append (List.append (List.append [98,108,111,99,107,32] I) [32]) J) [32]) U) [32,45])
 else none
 else
 (Qd (S:=List UInt8×Int) (X:=List UInt8) (fun s17=>
 bif (decide ((s17.2:Int)<(List.length x0.2.2.2:Int))) then
 (bif (decide ((s17.2:Int)=0)) then
 some [32]
 else
 some [43]:Option (List UInt8)).bind fun j18=>
 bif decide (List.length s17.1+List.length j18<=LIM) then
 bif (inB s17.2 x0.2.2.2) then
 (QA (List.getD x0.2.2.2 (Int.toNat s17.2) 0)).bind fun y19=>
 bif decide (List.length (List.append s17.1 j18)+List.length y19<=LIM) then
 some (Sum.inl (List.append (List.append s17.1 j18) y19,IntKind.wrap .i64 (s17.2+1)))
 else none
 else none
 else none
 else
 some (Sum.inr s17.1)) (List.append (List.append (List.append (List.append (List.append [98,108,111,99,107,32] I) [32]) J) [32]) U,0)).bind fun j20=>
 some j20
 else none
 else none
 else none
 else none
 else none
def Qjq:Callee:=⟨[.rp s13 false],[(.str,.z)],fun t=>QfY t.1,true⟩
def Qu8:Ctx:=⟨tys,[(136,Qee)],[],[(5,(⟨[(0,.keep),(3,.st .str .z false),(4,.st (.int .i64) .z false)],[]⟩,⟨[((.exit 0),⟨[(3,.st .str .z false)],[]⟩)]⟩))],[(9,⟨[(.normal,⟨[(0,.keep),(3,.keep),(4,.keep),(5,.st .str .z false)],[]⟩)]⟩)],[],[],[]⟩
def Qga (x0:List Int×Int) (x1:List (List UInt8)×List (Int×Int)) (x2:Int×Int×List ((Int×Int)×(Int×List Int×Int×Int)×Int×Bool)×List (Int×Int×Int)):Option ((List (List UInt8)×List (Int×Int))×Int×List Int×Int):=
 (Ql x0 3).bind fun y177=>
 (Qd (S:=List ((Int×Int)×(Int×List Int×Int×Int)×Int×Bool)×Int×List Int×Int) (X:=List ((Int×Int)×(Int×List Int×Int×Int)×Int×Bool)×List Int×Int) (fun J=>
 bif (decide ((J.2.1:Int)<(List.length x2.2.2.1:Int))) then
 (bif (inB J.2.1 x2.2.2.1) then
 (Jv (List.getD x2.2.2.1 (Int.toNat J.2.1) ((0,0),((0,([],(0,0))),(0,false)))) (IntKind.wrap .i64 (x2.2.1+1))).bind fun y193=>
 bif y193 then
 some (true,J.2.2)
 else
 (QS J.2.2 9).bind fun y194=>
 some (y194.1,y194.2)
 else none:Option (Bool×List Int×Int)).bind fun j195=>
 (bif j195.1 then
 bif (inB J.2.1 x2.2.2.1) then
 bif decide (List.length J.1+List.length ([List.getD x2.2.2.1 (Int.toNat J.2.1) ((0,0),((0,([],(0,0))),(0,false)))]:List ((Int×Int)×(Int×List Int×Int×Int)×Int×Bool))<=LIM) then
 some (List.append J.1 ([List.getD x2.2.2.1 (Int.toNat J.2.1) ((0,0),((0,([],(0,0))),(0,false)))]:List ((Int×Int)×(Int×List Int×Int×Int)×Int×Bool)))
 else none
 else none
 else
 some J.1:Option (List ((Int×Int)×(Int×List Int×Int×Int)×Int×Bool))).bind fun j196=>
 some (Sum.inl (j196,(IntKind.wrap .i64 (J.2.1+1),j195.2)))
 else
 some (Sum.inr (J.1,J.2.2))) (([]:List ((Int×Int)×(Int×List Int×Int×Int)×Int×Bool)),(0,y177.2))).bind fun j197=>
 (Ql j197.2 3).bind fun y198=>
 (Qd (S:=List ((Int×Int)×(Int×List Int×Int×Int)×Int×Bool)×Int×(List (List UInt8)×List (Int×Int))×(Int×Int×Int×List Int)×List Int×Int) (X:=(List (List UInt8)×List (Int×Int))×(Int×Int×Int×List Int)×List Int×Int) (fun I=>
 (bif (decide ((0:Int)<I.2.1)) then
 some (decide ((0:Int)<(List.length I.1:Int)))
 else
 some false:Option (Bool)).bind fun j300=>
 bif j300 then
 (QfU I.2.2.2.2 I.1).bind fun y301=>
 (bif (decide ((y301.1.1:Int)=2)) then
 (QaS x2.2.2.2 y301.1.2.1).bind fun y303=>
 some (decide ((y303:Int)<0))
 else
 some false:Option (Bool)).bind fun j304=>
 (bif j304 then
 some (0,(0,y301.1.2.2))
 else
 some y301.1:Option (Int×Int×List (Int×Int)×List (Int×List Int×Int×Int))).bind fun j305=>
 (YS j305).bind fun y306=>
 (Qan I.2.2.1 y306).bind fun y307=>
 bif (!decide ((y307.1:Int)=0)) then
 some (Sum.inl (I.1,(IntKind.wrap .i64 (I.2.1 - 1),(I.2.2.1,(I.2.2.2.1,y301.2)))))
 else
 (Qd (S:=Int×(List (List UInt8)×List (Int×Int))×List Int×Int) (X:=(List (List UInt8)×List (Int×Int))×List Int×Int) (fun s320=>
 bif (decide ((s320.1:Int)<7)) then
 (QS s320.2.2 14).bind fun y321=>
 (bif (!y321.1) then
 (QdD s320.2.1 s320.1 y307.2.1).bind fun y324=>
 (bif (decide ((y324.1:Int)=0)) then
 some y324.2.2
 else
 some s320.2.1:Option (List (List UInt8)×List (Int×Int))).bind fun j325=>
 some j325
 else
 some s320.2.1:Option (List (List UInt8)×List (Int×Int))).bind fun j326=>
 some (Sum.inl (IntKind.wrap .i64 (s320.1+1),(j326,y321.2)))
 else
 some (Sum.inr (s320.2.1,s320.2.2))) (1,(y307.2.2,y301.2))).bind fun j327=>
 (QcI I.2.2.2.1.2.2.2 y307.2.1).bind fun y328=>
 (bif (!y328) then
 bif decide (List.length I.2.2.2.1.2.2.2+List.length ([y307.2.1]:List Int)<=LIM) then
 some (I.2.2.2.1.1,(I.2.2.2.1.2.1,(I.2.2.2.1.2.2.1,List.append I.2.2.2.1.2.2.2 ([y307.2.1]:List Int))))
 else none
 else
 some I.2.2.2.1:Option (Int×Int×Int×List Int)).bind fun j329=>
 (Qd (S:=List ((Int×Int)×(Int×List Int×Int×Int)×Int×Bool)×Int×List Int×Int) (X:=List ((Int×Int)×(Int×List Int×Int×Int)×Int×Bool)×List Int×Int) (fun U=>
 bif (decide ((U.2.1:Int)<(List.length I.1:Int))) then
 (bif (inB U.2.1 I.1) then
 (Zt j305.2.2.1 (List.getD I.1 (Int.toNat U.2.1) ((0,0),((0,([],(0,0))),(0,false)))).1).bind fun y345=>
 bif (!y345) then
 some (true,U.2.2)
 else
 (QS U.2.2 12).bind fun y346=>
 some (y346.1,y346.2)
 else none:Option (Bool×List Int×Int)).bind fun j347=>
 (bif j347.1 then
 bif (inB U.2.1 I.1) then
 bif decide (List.length U.1+List.length ([List.getD I.1 (Int.toNat U.2.1) ((0,0),((0,([],(0,0))),(0,false)))]:List ((Int×Int)×(Int×List Int×Int×Int)×Int×Bool))<=LIM) then
 some (List.append U.1 ([List.getD I.1 (Int.toNat U.2.1) ((0,0),((0,([],(0,0))),(0,false)))]:List ((Int×Int)×(Int×List Int×Int×Int)×Int×Bool)))
 else none
 else none
 else
 some U.1:Option (List ((Int×Int)×(Int×List Int×Int×Int)×Int×Bool))).bind fun j348=>
 some (Sum.inl (j348,(IntKind.wrap .i64 (U.2.1+1),j347.2)))
 else
 some (Sum.inr (U.1,U.2.2))) (([]:List ((Int×Int)×(Int×List Int×Int×Int)×Int×Bool)),(0,j327.2))).bind fun j349=>
 some (Sum.inl (j349.1,(IntKind.wrap .i64 (I.2.1 - 1),(j327.1,(j329,j349.2)))))
 else
 some (Sum.inr (I.2.2.1,(I.2.2.2.1,I.2.2.2.2)))) (j197.1,(y198.1,(x1,((x2.1,(IntKind.wrap .i64 (x2.2.1+1),(IntKind.wrap .i64 (1+y177.1),[]))),y198.2))))).bind fun j350=>
 (QfY j350.2.1).bind fun y351=>
 (Qan j350.1 y351).bind fun y352=>
 bif (!decide ((y352.1:Int)=0)) then
 some (j350.1,(0,j350.2.2))
 else
 some (y352.2.2,(y352.2.1,j350.2.2))
def QjA:Callee:=⟨[.io s27 .z .z,.v s1 .z,.v s10 .z],[(s1,.z),((.int .i64),.z)],fun t=>Qga t.1 t.2.1 t.2.2.1,false⟩
def Qu5:Ctx:=⟨tys,[(39,Zs),(82,Qdq),(84,Jq),(85,QiP),(86,Qd7),(87,Qbt),(88,Qge),(132,Z7),(155,QdJ),(184,Qfd),(185,Qjq)],[(11,1)],[(4,(⟨[(0,.keep),(4,.keep),(5,.keep),(6,.keep),(8,.keep),(9,.st (.list s6) (.o .z) false),(10,.st (.int .i64) .z false)],[(4,.keep),(5,.keep),(6,.keep),(8,.keep),(159,.st s27 .z false)]⟩,⟨[((.exit 0),⟨[(0,.keep),(4,.keep),(5,.keep),(6,.keep),(8,.keep),(9,.st (.list s6) (.o .z) false)],[(4,.keep),(5,.keep),(6,.keep),(8,.keep),(159,.st s27 .z false)]⟩)]⟩)),
 (9,(⟨[(0,.keep),(4,.keep),(5,.keep),(6,.keep),(8,.keep),(9,.st (.list s6) .z false),(11,.st (.int .i64) .z false)],[(4,.st s1 .z false),(5,.keep),(6,.keep),(8,.st s13 (.p .z (.p .z (.p .z (.o .z)))) false),(159,.st s27 .z false)]⟩,⟨[((.exit 2),⟨[(4,.keep),(6,.keep),(8,.keep)],[(4,.st s1 .z false),(6,.keep),(8,.st s13 (.p .z (.p .z (.p .z (.o .z)))) false),(159,.st s27 .z false)]⟩)]⟩)),
 (19,(⟨[(0,.keep),(4,.keep),(5,.keep),(6,.keep),(8,.keep),(9,.keep),(11,.keep),(12,.keep),(13,.keep),(14,.st (.int .i64) .z false)],[(4,.st s1 (.p (.o .z) (.o .z)) false),(5,.keep),(6,.keep),(8,.keep),(12,.keep),(13,.keep),(159,.st s27 .z false)]⟩,⟨[((.exit 4),⟨[(0,.keep),(4,.keep),(5,.keep),(6,.keep),(8,.keep),(9,.keep),(11,.keep),(12,.keep),(13,.keep)],[(4,.st s1 (.p (.o .z) (.o .z)) false),(5,.keep),(6,.keep),(8,.keep),(12,.keep),(13,.keep),(159,.st s27 .z false)]⟩)]⟩)),
 (29,(⟨[(0,.keep),(4,.keep),(5,.keep),(6,.keep),(8,.keep),(9,.keep),(11,.keep),(12,.keep),(16,.st (.list s6) (.o .z) false),(17,.st (.int .i64) .z false)],[(4,.keep),(5,.keep),(6,.keep),(8,.keep),(12,.keep),(159,.st s27 .z false)]⟩,⟨[((.exit 6),⟨[(0,.keep),(4,.keep),(5,.keep),(6,.keep),(8,.keep),(11,.keep),(16,.st (.list s6) (.o .z) false)],[(4,.keep),(5,.keep),(6,.keep),(8,.keep),(159,.st s27 .z false)]⟩)]⟩))],[(7,⟨[(.normal,⟨[(0,.keep),(4,.keep),(5,.keep),(6,.keep),(8,.keep),(9,.st (.list s6) (.o .z) false),(10,.keep)],[(4,.keep),(5,.keep),(6,.keep),(8,.keep),(159,.keep)]⟩)]⟩),
 (13,⟨[(.normal,⟨[(0,.keep),(4,.keep),(5,.keep),(6,.keep),(8,.keep),(9,.keep),(11,.keep),(12,.keep)],[(4,.keep),(5,.keep),(6,.keep),(8,.keep),(12,.st s17 (.p .z (.p .z (.p (.o .z) (.o (.p .z (.p (.o .z) .z)))))) false),(159,.keep)]⟩)]⟩),
 (22,⟨[(.normal,⟨[(0,.keep),(4,.keep),(5,.keep),(6,.keep),(8,.keep),(9,.keep),(11,.keep),(12,.keep),(13,.keep),(14,.keep)],[(4,.st s1 (.p (.o .z) (.o .z)) false),(5,.keep),(6,.keep),(8,.keep),(12,.keep),(13,.keep),(159,.keep)]⟩)]⟩),
 (24,⟨[(.normal,⟨[(0,.keep),(4,.keep),(5,.keep),(6,.keep),(8,.keep),(9,.keep),(11,.keep),(12,.keep),(13,.keep),(14,.keep)],[(4,.st s1 (.p (.o .z) (.o .z)) false),(5,.keep),(6,.keep),(8,.keep),(12,.keep),(13,.keep),(159,.keep)]⟩)]⟩),
 (26,⟨[(.normal,⟨[(0,.keep),(4,.keep),(5,.keep),(6,.keep),(8,.keep),(9,.keep),(11,.keep),(12,.keep)],[(4,.keep),(5,.keep),(6,.keep),(8,.st s13 (.p .z (.p .z (.p .z (.o .z)))) false),(12,.keep),(159,.keep)]⟩)]⟩),
 (32,⟨[(.normal,⟨[(0,.keep),(4,.keep),(5,.keep),(6,.keep),(8,.keep),(9,.keep),(11,.keep),(12,.keep),(16,.st (.list s6) (.o .z) false),(17,.keep)],[(4,.keep),(5,.keep),(6,.keep),(8,.keep),(12,.keep),(159,.keep)]⟩)]⟩)],[(6,⟨[(0,.keep),(4,.keep),(5,.keep),(6,.keep),(8,.keep),(9,.keep),(10,.keep),(46,.st .bool .z false)],[(4,.keep),(5,.keep),(6,.keep),(8,.keep),(159,.st s27 .z false)]⟩),
 (9,⟨[(0,.keep),(4,.keep),(5,.keep),(6,.keep),(8,.keep),(9,.keep),(11,.keep),(63,.st .bool .z false)],[(4,.keep),(5,.keep),(6,.keep),(8,.keep),(159,.keep)]⟩),
 (12,⟨[(0,.keep),(4,.keep),(5,.keep),(6,.keep),(8,.keep),(9,.keep),(11,.keep),(12,.keep),(79,.st .bool .z false)],[(4,.keep),(5,.keep),(6,.keep),(8,.keep),(12,.keep),(159,.keep)]⟩),
 (31,⟨[(0,.keep),(4,.keep),(5,.keep),(6,.keep),(8,.keep),(9,.keep),(11,.keep),(12,.keep),(16,.keep),(17,.keep),(139,.st .bool .z false)],[(4,.keep),(5,.keep),(6,.keep),(8,.keep),(12,.keep),(159,.st s27 .z false)]⟩)],[(37,[2,3])],[]⟩
def QcJ (J:Int×Int):Option (Bool):=
 ((QT J.1 1 60).bind fun U=>
 bif U then
 (QT J.2 0 3).bind fun y9=>
 some y9
 else
 some false:Option (Bool)).bind fun I=>
 some I
def QeF:Callee:=⟨[.v s0 .z],[(.bool,.z)],fun t=>QcJ t.1,true⟩
def Qyz:Ctx:=⟨tys,[(48,ZP)],[],[],[],[(1,⟨[(2,.st .bool .z false)],[]⟩)],[],[]⟩
def Jn (I:Int):Option (Bool):=
 (QT I 0 999).bind fun J=>
 some J
def Qai:Callee:=⟨[.v (.int .i64) .z],[(.bool,.z)],fun t=>Jn t.1,true⟩
def QrI:Ctx:=⟨tys,[(48,ZP)],[],[],[],[],[],[]⟩
def QaX (J:List Int×Int×Int):Option (Int):=
 (QT (List.length J.1:Int) 1 3).bind fun U=>
 bif (!U) then
 some 2
 else
 (Qd (S:=Int) (X:=(Unit)⊕(Int)) (fun s21=>
 bif (decide ((s21:Int)<(List.length J.1:Int))) then
 bif (inB s21 J.1) then
 (YP (List.getD J.1 (Int.toNat s21) 0)).bind fun y22=>
 bif (!y22) then
 some (Sum.inr (Sum.inr 3))
 else
 some (Sum.inl (IntKind.wrap .i64 (s21+1)))
 else none
 else
 some (Sum.inr (Sum.inl ()))) 0).bind fun j23=>
 Sum.elim (fun (j24:Unit)=>
 ((QT J.2.1 1 (List.length J.1:Int)).bind fun y28=>
 bif (!y28) then
 some true
 else
 (Jn J.2.2).bind fun y29=>
 some (!y29):Option (Bool)).bind fun j30=>
 bif j30 then
 some 3
 else
 (Qd (S:=Int) (X:=(Unit)⊕(Int)) (fun I=>
 bif (decide ((I:Int)<(List.length J.1:Int))) then
 bif (inB I J.1) then
 bif (inB (IntKind.wrap .i64 (I - 1)) J.1) then
 bif (decide ((List.getD J.1 (Int.toNat I) 0:Int)<=List.getD J.1 (Int.toNat (IntKind.wrap .i64 (I - 1))) 0)) then
 some (Sum.inr (Sum.inr 1))
 else
 some (Sum.inl (IntKind.wrap .i64 (I+1)))
 else none
 else none
 else
 some (Sum.inr (Sum.inl ()))) 1).bind fun j32=>
 Sum.elim (fun (j33:Unit)=>
 some 0) (fun (j34:Int)=>
 some j34) j32) (fun (j25:Int)=>
 some j25) j23
def Qct:Callee:=⟨[.rp s2 false],[((.int .i64),.z)],fun t=>QaX t.1,true⟩
def Qtp:Ctx:=⟨tys,[(21,Jj),(48,ZP),(147,Qai)],[],[(5,(⟨[(0,.keep),(3,.keep),(4,.st (.int .i64) .z false)],[]⟩,⟨[((.exit 0),⟨[(0,.keep),(3,.keep)],[]⟩),(.ret,⟨[(2,.st (.int .i64) .z false)],[]⟩)]⟩)),
 (12,(⟨[(0,.keep),(5,.st (.int .i64) .z false)],[]⟩,⟨[((.exit 2),⟨[],[]⟩),(.ret,⟨[(2,.st (.int .i64) .z false)],[]⟩)]⟩))],[],[(9,⟨[(0,.keep),(46,.st .bool .z false)],[]⟩)],[],[]⟩
def Qeq (I:Int×List Int×Int×Int):Option (Int):=
 (QT I.1 1 1000000).bind fun J=>
 bif (!J) then
 some 3
 else
 (QaX I.2).bind fun U=>
 some U
def QhJ:Callee:=⟨[.rp s3 false],[((.int .i64),.z)],fun t=>Qeq t.1,true⟩
def QyD:Ctx:=⟨tys,[(48,ZP),(195,Qct)],[],[],[],[],[],[]⟩
def Qco (I:Int×Int) (x1:Int×Int):Option (Bool):=
 bif (!decide ((I.1:Int)=x1.1)) then
 some (decide ((I.1:Int)<x1.1))
 else
 some (decide ((I.2:Int)<x1.2))
def QeV:Callee:=⟨[.v s0 .z,.v s0 .z],[(.bool,.z)],fun t=>Qco t.1 t.2.1,true⟩
def Qtc:Ctx:=⟨tys,[],[],[],[],[],[],[]⟩
def JP (J:List ((Int×Int)×(Int×List Int×Int×Int)×Int×Bool)):Option (Int):=
 bif (decide ((40:Int)<(List.length J:Int))) then
 some 2
 else
 (Qd (S:=Int) (X:=(Unit)⊕(Int)) (fun I=>
 bif (decide ((I:Int)<(List.length J:Int))) then
 (bif (inB I J) then
 (QcJ (List.getD J (Int.toNat I) ((0,0),((0,([],(0,0))),(0,false)))).1).bind fun y47=>
 bif (!y47) then
 some true
 else
 bif (inB I J) then
 (Jn (List.getD J (Int.toNat I) ((0,0),((0,([],(0,0))),(0,false)))).2.2.1).bind fun y48=>
 some (!y48)
 else none
 else none:Option (Bool)).bind fun j49=>
 bif j49 then
 some (Sum.inr (Sum.inr 3))
 else
 bif (inB I J) then
 (Qeq (List.getD J (Int.toNat I) ((0,0),((0,([],(0,0))),(0,false)))).2.1).bind fun U=>
 bif (!decide ((U:Int)=0)) then
 some (Sum.inr (Sum.inr U))
 else
 (bif (decide ((0:Int)<I)) then
 bif (inB (IntKind.wrap .i64 (I - 1)) J) then
 bif (inB I J) then
 (Qco (List.getD J (Int.toNat (IntKind.wrap .i64 (I - 1))) ((0,0),((0,([],(0,0))),(0,false)))).1 (List.getD J (Int.toNat I) ((0,0),((0,([],(0,0))),(0,false)))).1).bind fun y52=>
 some (!y52)
 else none
 else none
 else
 some false:Option (Bool)).bind fun j53=>
 bif j53 then
 some (Sum.inr (Sum.inr 1))
 else
 some (Sum.inl (IntKind.wrap .i64 (I+1)))
 else none
 else
 some (Sum.inr (Sum.inl ()))) 0).bind fun j54=>
 Sum.elim (fun (j55:Unit)=>
 some 0) (fun (j56:Int)=>
 some j56) j54
def QaV:Callee:=⟨[.v (.list s6) .z],[((.int .i64),.z)],fun t=>JP t.1,true⟩
def Qs3:Ctx:=⟨tys,[(146,QeF),(147,Qai),(148,QhJ),(149,QeV)],[],[(4,(⟨[(0,.keep),(3,.st (.int .i64) .z false)],[]⟩,⟨[((.exit 0),⟨[],[]⟩),(.ret,⟨[(2,.st (.int .i64) .z false)],[]⟩)]⟩))],[],[(6,⟨[(0,.keep),(3,.keep),(29,.st .bool .z false)],[]⟩),
 (11,⟨[(0,.keep),(3,.keep),(54,.st .bool .z false)],[]⟩)],[],[]⟩
def QbQ (I:List ((Int×Int)×(Int×List Int×Int×Int)×Int×Bool)) (x1:Int):Option (Bool):=
 (Qd (S:=Int) (X:=(Unit)⊕(Bool)) (fun s5=>
 bif (decide ((s5:Int)<(List.length I:Int))) then
 bif (inB s5 I) then
 bif (decide (((List.getD I (Int.toNat s5) ((0,0),((0,([],(0,0))),(0,false)))).1.1:Int)=x1)) then
 some (Sum.inr (Sum.inr true))
 else
 some (Sum.inl (IntKind.wrap .i64 (s5+1)))
 else none
 else
 some (Sum.inr (Sum.inl ()))) 0).bind fun J=>
 Sum.elim (fun (j7:Unit)=>
 some false) (fun (U:Bool)=>
 some U) J
def QiN:Callee:=⟨[.v (.list s6) .z,.v (.int .i64) .z],[(.bool,.z)],fun t=>QbQ t.1 t.2.1,true⟩
def QyF:Ctx:=⟨tys,[],[],[(2,(⟨[(0,.keep),(1,.keep),(5,.st (.int .i64) .z false)],[]⟩,⟨[((.exit 0),⟨[],[]⟩),(.ret,⟨[(4,.st .bool .z false)],[]⟩)]⟩))],[],[],[],[]⟩
def Qaz (I:List Int×Int×Int):Option (List Int×Int×Int):=
 bif decide (List.length ([]:List Int)+List.length I.1<=LIM) then
 some (List.append ([]:List Int) I.1,I.2)
 else none
def Qgj:Callee:=⟨[.v s2 .z],[(s2,(.p (.o .z) .z))],fun t=>Qaz t.1,true⟩
def Qv9:Ctx:=⟨tys,[],[],[],[],[],[],[]⟩
def Qaw (I:List ((Int×Int)×(Int×List Int×Int×Int)×Int×Bool)):Option (List ((Int×Int)×(Int×List Int×Int×Int)×Int×Bool)):=
 (Qd (S:=List ((Int×Int)×(Int×List Int×Int×Int)×Int×Bool)×Int) (X:=List ((Int×Int)×(Int×List Int×Int×Int)×Int×Bool)) (fun s8=>
 bif (decide ((s8.2:Int)<(List.length I:Int))) then
 bif (inB s8.2 I) then
 (Qaz (List.getD I (Int.toNat s8.2) ((0,0),((0,([],(0,0))),(0,false)))).2.1.2).bind fun U=>
 bif decide (List.length s8.1+List.length ([((List.getD I (Int.toNat s8.2) ((0,0),((0,([],(0,0))),(0,false)))).1,(((List.getD I (Int.toNat s8.2) ((0,0),((0,([],(0,0))),(0,false)))).2.1.1,U),(List.getD I (Int.toNat s8.2) ((0,0),((0,([],(0,0))),(0,false)))).2.2))]:List ((Int×Int)×(Int×List Int×Int×Int)×Int×Bool))<=LIM) then
 some (Sum.inl (List.append s8.1 ([((List.getD I (Int.toNat s8.2) ((0,0),((0,([],(0,0))),(0,false)))).1,(((List.getD I (Int.toNat s8.2) ((0,0),((0,([],(0,0))),(0,false)))).2.1.1,U),(List.getD I (Int.toNat s8.2) ((0,0),((0,([],(0,0))),(0,false)))).2.2))]:List ((Int×Int)×(Int×List Int×Int×Int)×Int×Bool)),IntKind.wrap .i64 (s8.2+1)))
 else none
 else none
 else
 some (Sum.inr s8.1)) (([]:List ((Int×Int)×(Int×List Int×Int×Int)×Int×Bool)),0)).bind fun J=>
 some J
def Qbp:Callee:=⟨[.v (.list s6) .z],[((.list s6),(.o (.p .z (.p (.p .z (.p (.o .z) .z)) .z))))],fun t=>Qaw t.1,true⟩
def QvJ:Ctx:=⟨tys,[(224,Qgj)],[],[(3,(⟨[(0,.keep),(3,.st (.list s6) (.o (.p .z (.p (.p .z (.p (.o .z) .z)) .z))) false),(4,.st (.int .i64) .z false)],[]⟩,⟨[((.exit 0),⟨[(3,.st (.list s6) (.o (.p .z (.p (.p .z (.p (.o .z) .z)) .z))) false)],[]⟩)]⟩))],[],[],[],[]⟩
def Qhd (J:List ((Int×Int)×(Int×List Int×Int×Int)×Int×Bool)) (x1:(Int×Int)×(Int×List Int×Int×Int)×Int×Bool):Option (List ((Int×Int)×(Int×List Int×Int×Int)×Int×Bool)):=
 (Qd (S:=Int) (X:=Int) (fun s18=>
 (bif (decide ((s18:Int)<(List.length J:Int))) then
 bif (inB s18 J) then
 (Qco (List.getD J (Int.toNat s18) ((0,0),((0,([],(0,0))),(0,false)))).1 x1.1).bind fun U=>
 some U
 else none
 else
 some false:Option (Bool)).bind fun j21=>
 bif j21 then
 some (Sum.inl (IntKind.wrap .i64 (s18+1)))
 else
 some (Sum.inr s18)) 0).bind fun I=>
 bif (QC 0 I J) then
 bif decide (List.length ([]:List ((Int×Int)×(Int×List Int×Int×Int)×Int×Bool))+List.length (cut 0 I J)<=LIM) then
 bif decide (List.length (List.append ([]:List ((Int×Int)×(Int×List Int×Int×Int)×Int×Bool)) (cut 0 I J))+List.length ([x1]:List ((Int×Int)×(Int×List Int×Int×Int)×Int×Bool))<=LIM) then
 bif (QC I (List.length J:Int) J) then
 bif decide (List.length (List.append (List.append ([]:List ((Int×Int)×(Int×List Int×Int×Int)×Int×Bool)) (cut 0 I J)) ([x1]:List ((Int×Int)×(Int×List Int×Int×Int)×Int×Bool)))+List.length (cut I (List.length J:Int) J)<=LIM) then
 some (List.append (List.append (List.append ([]:List ((Int×Int)×(Int×List Int×Int×Int)×Int×Bool)) (cut 0 I J)) ([x1]:List ((Int×Int)×(Int×List Int×Int×Int)×Int×Bool))) (cut I (List.length J:Int) J))
 else none
 else none
 else none
 else none
 else none
def QkG:Callee:=⟨[.v (.list s6) .z,.v s6 .z],[((.list s6),(.o .z))],fun t=>Qhd t.1 t.2.1,true⟩
def Qxq:Ctx:=⟨tys,[(149,QeV)],[],[(2,(⟨[(0,.keep),(3,.keep),(5,.st (.int .i64) .z false)],[(3,.keep)]⟩,⟨[((.exit 0),⟨[(0,.keep),(3,.keep),(5,.st (.int .i64) .z false)],[(3,.keep)]⟩)]⟩))],[],[(2,⟨[(0,.keep),(3,.keep),(5,.keep),(20,.st .bool .z false)],[(3,.keep)]⟩)],[],[]⟩
def QcD (x0:List ((Int×Int)×(Int×List Int×Int×Int)×Int×Bool)) (x1:Int) (x2:List (Int×List Int×Int×Int)) (x3:Int) (x4:Bool):Option (List ((Int×Int)×(Int×List Int×Int×Int)×Int×Bool)×List ((Int×Int)×(Int×List Int×Int×Int)×Int×Bool)):=
 (Qaw x0).bind fun I=>
 (Qd (S:=List ((Int×Int)×(Int×List Int×Int×Int)×Int×Bool)×Int) (X:=List ((Int×Int)×(Int×List Int×Int×Int)×Int×Bool)) (fun s15=>
 bif (decide ((s15.2:Int)<(List.length x2:Int))) then
 bif (inB s15.2 x2) then
 bif (inB s15.2 x2) then
 (Qaz (List.getD x2 (Int.toNat s15.2) (0,([],(0,0)))).2).bind fun J=>
 (Qhd s15.1 ((x1,s15.2),(((List.getD x2 (Int.toNat s15.2) (0,([],(0,0)))).1,J),(x3,x4)))).bind fun U=>
 some (Sum.inl (U,IntKind.wrap .i64 (s15.2+1)))
 else none
 else none
 else
 some (Sum.inr s15.1)) (I,0)).bind fun j18=>
 some (j18,x0)
def Qky:Callee:=⟨[.mu (.list s6) (.o .z) (.o .z),.v (.int .i64) .z,.v (.list s3) .z,.v (.int .i64) .z,.v .bool .z],[((.list s6),(.o .z))],fun t=>QcD t.1 t.2.1 t.2.2.1 t.2.2.2.1 t.2.2.2.2.1,true⟩
def Qxm:Ctx:=⟨tys,[(222,Qbp),(224,Qgj),(225,QkG)],[(6,0)],[(3,(⟨[(0,.keep),(1,.keep),(2,.keep),(3,.keep),(4,.keep),(11,.st (.list s6) (.o .z) false),(12,.st (.int .i64) .z false)],[]⟩,⟨[((.exit 0),⟨[(0,.keep),(11,.st (.list s6) (.o .z) false)],[]⟩)]⟩))],[],[],[],[]⟩
def YK (I:List ((Int×Int)×(Int×List Int×Int×Int)×Int×Bool)) (x1:Int) (x2:List (Int×List Int×Int×Int)) (x3:Int) (x4:Bool):Option ((Int×List ((Int×Int)×(Int×List Int×Int×Int)×Int×Bool))×List ((Int×Int)×(Int×List Int×Int×Int)×Int×Bool)):=
 (JP I).bind fun J=>
 bif (!decide ((J:Int)=0)) then
 some ((J,[]),I)
 else
 ((QT x1 1 60).bind fun y19=>
 bif (!y19) then
 some true
 else
 (Jn x3).bind fun y20=>
 some (!y20):Option (Bool)).bind fun j21=>
 bif j21 then
 some ((3,[]),I)
 else
 bif (decide ((4:Int)<(List.length x2:Int))) then
 some ((2,[]),I)
 else
 (Qd (S:=Int) (X:=(Unit)⊕(Int×List ((Int×Int)×(Int×List Int×Int×Int)×Int×Bool))) (fun s24=>
 bif (decide ((s24:Int)<(List.length x2:Int))) then
 bif (inB s24 x2) then
 (Qeq (List.getD x2 (Int.toNat s24) (0,([],(0,0))))).bind fun U=>
 bif (!decide ((U:Int)=0)) then
 some (Sum.inr (Sum.inr (U,[])))
 else
 some (Sum.inl (IntKind.wrap .i64 (s24+1)))
 else none
 else
 some (Sum.inr (Sum.inl ()))) 0).bind fun j26=>
 Sum.elim (fun (j27:Unit)=>
 (QbQ I x1).bind fun y29=>
 bif y29 then
 some ((7,[]),I)
 else
 bif (decide ((40:Int)<IntKind.wrap .i64 ((List.length I:Int)+(List.length x2:Int)))) then
 some ((2,[]),I)
 else
 (QcD I x1 x2 x3 x4).bind fun y30=>
 some ((0,y30.1),y30.2)) (fun (j28:Int×List ((Int×Int)×(Int×List Int×Int×Int)×Int×Bool))=>
 some (j28,I)) j26
def Qbx:Callee:=⟨[.mu (.list s6) (.o .z) (.o .z),.v (.int .i64) .z,.v (.list s3) .z,.v (.int .i64) .z,.v .bool .z],[(s30,(.p .z (.o .z)))],fun t=>YK t.1 t.2.1 t.2.2.1 t.2.2.2.1 t.2.2.2.2.1,true⟩
def Qrs:Ctx:=⟨tys,[(48,ZP),(96,QaV),(147,Qai),(148,QhJ),(191,QiN),(192,Qky)],[],[(9,(⟨[(0,.keep),(1,.keep),(2,.keep),(3,.keep),(4,.keep),(10,.keep),(12,.st (.int .i64) .z false)],[(10,.keep)]⟩,⟨[((.exit 0),⟨[(0,.keep),(1,.keep),(2,.keep),(3,.keep),(4,.keep),(10,.keep)],[(10,.keep)]⟩),(.ret,⟨[(0,.keep),(10,.keep)],[(10,.st s30 (.p .z (.o (.p .z (.p (.p .z (.p (.o .z) .z)) .z)))) false)]⟩)]⟩))],[],[(4,⟨[(0,.keep),(1,.keep),(2,.keep),(3,.keep),(4,.keep),(10,.keep),(27,.st .bool .z false)],[(10,.keep)]⟩)],[],[]⟩
def Qbv (I:List (List UInt8)×List (Int×Int)) (x1:Int):Option (Int×List UInt8):=
 (Y2 I).bind fun J=>
 bif (!decide ((J:Int)=0)) then
 some (J,[])
 else
 (QdN I x1).bind fun U=>
 bif (!U) then
 some (3,[])
 else
 bif (inB (IntKind.wrap .i64 (x1 - 1)) I.1) then
 some (0,List.getD I.1 (Int.toNat (IntKind.wrap .i64 (x1 - 1))) [])
 else none
def Qf1:Callee:=⟨[.v s1 .z,.v (.int .i64) .z],[(s19,.z)],fun t=>Qbv t.1 t.2.1,true⟩
def QuQ:Ctx:=⟨tys,[(45,JO),(139,QiK)],[],[],[],[],[],[]⟩
def Yq (I:List UInt8) (x1:Int):Option (List (List UInt8)):=
 (Qd (S:=List (List UInt8)×Int×Int) (X:=List (List UInt8)) (fun s13=>
 bif (decide ((s13.2.2:Int)<=(List.length I:Int))) then
 (bif (decide ((s13.2.2:Int)=(List.length I:Int))) then
 some true
 else
 bif (inB s13.2.2 I) then
 some (decide ((((List.getD I (Int.toNat s13.2.2) 0).toNat:Int):Int)=x1))
 else none:Option (Bool)).bind fun U=>
 (bif U then
 bif (QC s13.2.1 s13.2.2 I) then
 bif decide (List.length s13.1+List.length ([cut s13.2.1 s13.2.2 I]:List (List UInt8))<=LIM) then
 some (List.append s13.1 ([cut s13.2.1 s13.2.2 I]:List (List UInt8)),IntKind.wrap .i64 (s13.2.2+1))
 else none
 else none
 else
 some (s13.1,s13.2.1):Option (List (List UInt8)×Int)).bind fun J=>
 some (Sum.inl (J.1,(J.2,IntKind.wrap .i64 (s13.2.2+1))))
 else
 some (Sum.inr s13.1)) (([]:List (List UInt8)),(0,0))).bind fun j16=>
 some j16
def Qcy:Callee:=⟨[.v .str .z,.v (.int .u8) .z],[((.list .str),(.o .z))],fun t=>Yq t.1 t.2.1,true⟩
def Qxk:Ctx:=⟨tys,[],[],[(4,(⟨[(0,.keep),(1,.keep),(5,.st (.list .str) (.o .z) false),(6,.st (.int .i64) .z false),(7,.st (.int .i64) .z false)],[]⟩,⟨[((.exit 0),⟨[(5,.st (.list .str) (.o .z) false)],[]⟩)]⟩))],[(7,⟨[(.normal,⟨[(0,.keep),(1,.keep),(5,.st (.list .str) (.o .z) false),(6,.st (.int .i64) .z false),(7,.keep)],[]⟩)]⟩)],[(6,⟨[(0,.keep),(1,.keep),(5,.keep),(6,.keep),(7,.keep),(25,.st .bool .z false)],[]⟩)],[],[]⟩
def Qu (I:List UInt8) (x1:Int):Option (Int×Bool):=
 (bif (decide (((List.length I:Int):Int)<1)) then
 some true
 else
 bif (decide ((x1:Int)<(List.length I:Int))) then
 some true
 else
 bif (decide ((1:Int)<(List.length I:Int))) then
 bif (inB 0 I) then
 some (decide ((((List.getD I (Int.toNat 0) 0).toNat:Int):Int)=48))
 else none
 else
 some false:Option (Bool)).bind fun j9=>
 bif j9 then
 some (0,false)
 else
 (Qd (S:=Int×Int) (X:=(Int)⊕(Int×Bool)) (fun s12=>
 bif (decide ((s12.2:Int)<(List.length I:Int))) then
 (bif (inB s12.2 I) then
 bif (decide ((((List.getD I (Int.toNat s12.2) 0).toNat:Int):Int)<48)) then
 some true
 else
 bif (inB s12.2 I) then
 some (decide ((57:Int)<((List.getD I (Int.toNat s12.2) 0).toNat:Int)))
 else none
 else none:Option (Bool)).bind fun U=>
 bif U then
 some (Sum.inr (Sum.inr (0,false)))
 else
 bif (inB s12.2 I) then
 some (Sum.inl (IntKind.wrap .i64 ((IntKind.wrap .i64 (s12.1 * 10))+(IntKind.wrap .i64 (IntKind.wrap .u8 (((List.getD I (Int.toNat s12.2) 0).toNat:Int) - 48)))),IntKind.wrap .i64 (s12.2+1)))
 else none
 else
 some (Sum.inr (Sum.inl s12.1))) (0,0)).bind fun j14=>
 Sum.elim (fun (j15:Int)=>
 some (j15,true)) (fun (J:Int×Bool)=>
 some (J.1,J.2)) j14
def Qak:Callee:=⟨[.v .str .z,.v (.int .i64) .z],[((.int .i64),.z),(.bool,.z)],fun t=>Qu t.1 t.2.1,true⟩
def Qrm:Ctx:=⟨tys,[],[],[(5,(⟨[(0,.keep),(6,.st (.int .i64) .z false),(7,.st (.int .i64) .z false)],[]⟩,⟨[((.exit 0),⟨[(6,.st (.int .i64) .z false)],[]⟩),(.ret,⟨[(4,.st (.int .i64) .z false),(5,.st .bool .z false)],[]⟩)]⟩))],[],[(1,⟨[(0,.keep),(26,.st .bool .z false)],[]⟩),
 (7,⟨[(0,.keep),(6,.keep),(7,.keep),(42,.st .bool .z false)],[]⟩)],[],[]⟩
def Qfu (I:Int×Int×Int×List Int):Option (Int):=
 ((QT I.1 0 60).bind fun J=>
 bif (!J) then
 some true
 else
 (QT I.2.1 1 40).bind fun U=>
 bif (!U) then
 some true
 else
 (YP I.2.2.1).bind fun y23=>
 some (!y23):Option (Bool)).bind fun j24=>
 bif j24 then
 some 3
 else
 bif (!(Sh.beq .bool (decide ((I.1:Int)=0)) (decide ((I.2.1:Int)=1)))) then
 some 1
 else
 bif (decide ((6:Int)<(List.length I.2.2.2:Int))) then
 some 2
 else
 (Qd (S:=Int) (X:=(Unit)⊕(Int)) (fun s29=>
 bif (decide ((s29:Int)<(List.length I.2.2.2:Int))) then
 bif (inB s29 I.2.2.2) then
 (QT (List.getD I.2.2.2 (Int.toNat s29) 0) 1 60).bind fun y30=>
 bif (!y30) then
 some (Sum.inr (Sum.inr 3))
 else
 bif (QC 0 s29 I.2.2.2) then
 bif (inB s29 I.2.2.2) then
 (QcI (cut 0 s29 I.2.2.2) (List.getD I.2.2.2 (Int.toNat s29) 0)).bind fun y31=>
 bif y31 then
 some (Sum.inr (Sum.inr 7))
 else
 some (Sum.inl (IntKind.wrap .i64 (s29+1)))
 else none
 else none
 else none
 else
 some (Sum.inr (Sum.inl ()))) 0).bind fun j32=>
 Sum.elim (fun (j33:Unit)=>
 some 0) (fun (j34:Int)=>
 some j34) j32
def Qh4:Callee:=⟨[.rp s13 false],[((.int .i64),.z)],fun t=>Qfu t.1,true⟩
def Qsq:Ctx:=⟨tys,[(21,Jj),(48,ZP),(184,Qfd)],[],[(8,(⟨[(0,.keep),(3,.st (.int .i64) .z false)],[]⟩,⟨[((.exit 0),⟨[],[]⟩),(.ret,⟨[(2,.st (.int .i64) .z false)],[]⟩)]⟩))],[],[(1,⟨[(0,.keep),(25,.st .bool .z false)],[]⟩)],[],[]⟩
def Qfc (x0:List UInt8):Option ((Int×Int×Int×List Int)×Bool):=
 (Yq x0 32).bind fun I=>
 (bif (!decide (((List.length I:Int):Int)=5)) then
 some true
 else
 bif (inB 0 I) then
 some (!decide ((List.getD I (Int.toNat 0) []:List UInt8)=[98,108,111,99,107]))
 else none:Option (Bool)).bind fun j23=>
 bif j23 then
 some ((0,(0,(0,[]))),false)
 else
 bif (inB 1 I) then
 (Qu (List.getD I (Int.toNat 1) []) 2).bind fun y24=>
 bif (inB 2 I) then
 (Qu (List.getD I (Int.toNat 2) []) 2).bind fun y25=>
 bif (inB 3 I) then
 (Qu (List.getD I (Int.toNat 3) []) 3).bind fun y26=>
 (bif y24.2 then
 bif y25.2 then
 some y26.2
 else
 some false
 else
 some false:Option (Bool)).bind fun j27=>
 bif (inB 4 I) then
 (Yq (List.getD I (Int.toNat 4) []) 43).bind fun y28=>
 (Qd (S:=Bool×Int×Int×Int×Int×List Int) (X:=Bool×Int×Int×Int×List Int) (fun J=>
 (bif (decide ((J.2.1:Int)<(List.length y28:Int))) then
 bif (inB 4 I) then
 some (!decide ((List.getD I (Int.toNat 4) []:List UInt8)=[45]))
 else none
 else
 some false:Option (Bool)).bind fun j36=>
 bif j36 then
 bif (inB J.2.1 y28) then
 (Qu (List.getD y28 (Int.toNat J.2.1) []) 2).bind fun y37=>
 (bif J.1 then
 some y37.2
 else
 some false:Option (Bool)).bind fun j38=>
 bif decide (List.length J.2.2.2.2.2+List.length ([y37.1]:List Int)<=LIM) then
 some (Sum.inl (j38,(IntKind.wrap .i64 (J.2.1+1),(J.2.2.1,(J.2.2.2.1,(J.2.2.2.2.1,List.append J.2.2.2.2.2 ([y37.1]:List Int)))))))
 else none
 else none
 else
 some (Sum.inr (J.1,J.2.2))) (j27,(0,(y24.1,(y25.1,(y26.1,[])))))).bind fun U=>
 (bif U.1 then
 (Qfu U.2).bind fun y41=>
 some (decide ((y41:Int)=0),U.2)
 else
 some (false,U.2):Option (Bool×Int×Int×Int×List Int)).bind fun j42=>
 some (j42.2,j42.1)
 else none
 else none
 else none
 else none
def Qiq:Callee:=⟨[.v .str .z],[(s13,(.p .z (.p .z (.p .z (.o .z))))),(.bool,.z)],fun t=>Qfc t.1,true⟩
def Qso:Ctx:=⟨tys,[(226,Qcy),(227,Qak),(281,Qh4)],[],[(11,(⟨[(2,.keep),(4,.keep),(11,.keep),(12,.st .bool .z false),(13,.keep),(14,.st (.int .i64) .z false)],[(2,.keep),(11,.st s13 (.p .z (.p .z (.p .z (.o .z)))) false)]⟩,⟨[((.exit 0),⟨[(2,.keep),(11,.keep),(12,.st .bool .z false)],[(2,.keep),(11,.st s13 (.p .z (.p .z (.p .z (.o .z)))) false)]⟩)]⟩))],[],[(2,⟨[(2,.keep),(4,.keep),(27,.st .bool .z false)],[(2,.keep)]⟩),
 (8,⟨[(2,.keep),(4,.keep),(11,.keep),(12,.st .bool .z false)],[(2,.keep),(11,.keep)]⟩),
 (11,⟨[(2,.keep),(4,.keep),(11,.keep),(12,.keep),(13,.keep),(14,.keep),(74,.st .bool .z false)],[(2,.keep),(11,.keep)]⟩),
 (14,⟨[(2,.keep),(4,.keep),(11,.keep),(12,.st .bool .z false),(13,.keep),(14,.keep),(15,.keep)],[(2,.keep),(11,.keep)]⟩),
 (16,⟨[(2,.keep),(3,.st .bool .z false)],[(2,.st s13 (.p .z (.p .z (.p .z (.o .z)))) false)]⟩)],[],[]⟩
def QfA (J:List UInt8):Option (Int×Int×Int×Int×List Int):=
 (Qfc J).bind fun I=>
 bif (!I.2) then
 some (5,(0,(0,(0,[]))))
 else
 some (0,I.1)
def Qfy:Callee:=⟨[.v .str .z],[(s14,(.p .z (.p .z (.p .z (.p .z (.o .z))))))],fun t=>QfA t.1,true⟩
def QoR:Ctx:=⟨tys,[(260,Qiq)],[],[],[],[],[],[]⟩
def Qe4 (J:List (List UInt8)×List (Int×Int)) (x1:Int):Option (Int×Int×Int×Int×List Int):=
 (Qbv J x1).bind fun I=>
 bif (!decide ((I.1:Int)=0)) then
 some (I.1,(0,(0,(0,[]))))
 else
 (QfA I.2).bind fun U=>
 some U
def QhW:Callee:=⟨[.v s1 .z,.v (.int .i64) .z],[(s14,(.p .z (.p .z (.p .z (.p .z (.o .z))))))],fun t=>Qe4 t.1 t.2.1,true⟩
def Qto:Ctx:=⟨tys,[(150,Qf1),(221,Qfy)],[],[],[],[],[],[]⟩
def Qbd (I:Int):Option (Int×Int×(Int×List (List ((Int×Int)×(Int×List Int×Int×Int)×Int×Bool))×List (Int×Int×Int))×Int×Int×List ((Int×Int)×(Int×List Int×Int×Int)×Int×Bool)×List (Int×Int×Int)):=
 some (I,(0,((0,([],[])),(0,(0,([],[]))))))
def Qko:Callee:=⟨[.v (.int .i64) .z],[(s26,.z)],fun t=>Qbd t.1,true⟩
def Qyg:Ctx:=⟨tys,[],[],[],[],[],[],[]⟩
def Qjp (I:Int×Int×List ((Int×Int)×(Int×List Int×Int×Int)×Int×Bool)×List (Int×Int×Int)):Option (Int×Int×List ((Int×Int)×(Int×List Int×Int×Int)×Int×Bool)×List (Int×Int×Int)):=
 (Qaw I.2.2.1).bind fun J=>
 bif decide (List.length ([]:List (Int×Int×Int))+List.length I.2.2.2<=LIM) then
 some (I.1,(I.2.1,(J,List.append ([]:List (Int×Int×Int)) I.2.2.2)))
 else none
def Qjy:Callee:=⟨[.v s10 .z],[(s10,(.p .z (.p .z (.p (.o .z) .z))))],fun t=>Qjp t.1,true⟩
def Qwl:Ctx:=⟨tys,[(222,Qbp)],[],[],[],[],[],[]⟩
def Qf3 (I:Int×Int×List (Int×Int)×List (Int×List Int×Int×Int)):Option (Int):=
 (Qd (S:=Int) (X:=(Unit)⊕(Int)) (fun s16=>
 bif (decide ((s16:Int)<(List.length I.2.2.2:Int))) then
 bif (inB s16 I.2.2.2) then
 (QT (List.getD I.2.2.2 (Int.toNat s16) (0,([],(0,0)))).1 1 1000000).bind fun U=>
 bif (!U) then
 some (Sum.inr (Sum.inr 3))
 else
 bif (inB s16 I.2.2.2) then
 (QaX (List.getD I.2.2.2 (Int.toNat s16) (0,([],(0,0)))).2).bind fun J=>
 bif (!decide ((J:Int)=0)) then
 some (Sum.inr (Sum.inr J))
 else
 some (Sum.inl (IntKind.wrap .i64 (s16+1)))
 else none
 else none
 else
 some (Sum.inr (Sum.inl ()))) 0).bind fun j19=>
 Sum.elim (fun (j20:Unit)=>
 (bif (decide ((I.1:Int)=1)) then
 bif (inB 0 I.2.2.2) then
 some (decide (((List.getD I.2.2.2 (Int.toNat 0) (0,([],(0,0)))).1:Int)<100))
 else none
 else
 some false:Option (Bool)).bind fun j22=>
 bif j22 then
 some 8
 else
 some 0) (fun (j21:Int)=>
 some j21) j19
def Qjw:Callee:=⟨[.rp s17 false],[((.int .i64),.z)],fun t=>Qf3 t.1,true⟩
def QvH:Ctx:=⟨tys,[(48,ZP),(195,Qct)],[],[(2,(⟨[(0,.keep),(3,.st (.int .i64) .z false)],[]⟩,⟨[((.exit 0),⟨[(0,.keep)],[]⟩),(.ret,⟨[(2,.st (.int .i64) .z false)],[]⟩)]⟩))],[],[(9,⟨[(49,.st .bool .z false)],[]⟩)],[],[]⟩
def JG (J:Int×Int×List (Int×Int)×List (Int×List Int×Int×Int)):Option (Int):=
 ((QT J.1 0 2).bind fun U=>
 bif (!U) then
 some true
 else
 some (!(Sh.beq .bool (decide ((J.1:Int)=0)) (decide ((J.2.1:Int)=0)))):Option (Bool)).bind fun j25=>
 bif j25 then
 some 1
 else
 (bif (!decide ((J.1:Int)=0)) then
 (YP J.2.1).bind fun y27=>
 some (!y27)
 else
 some false:Option (Bool)).bind fun j28=>
 bif j28 then
 some 3
 else
 ((QT (List.length J.2.2.1:Int) 1 4).bind fun y31=>
 bif (!y31) then
 some true
 else
 (QT (List.length J.2.2.2:Int) 1 4).bind fun y32=>
 some (!y32):Option (Bool)).bind fun j33=>
 bif j33 then
 some 2
 else
 (Qd (S:=Int) (X:=(Unit)⊕(Int)) (fun I=>
 bif (decide ((I:Int)<(List.length J.2.2.1:Int))) then
 bif (inB I J.2.2.1) then
 (QcJ (List.getD J.2.2.1 (Int.toNat I) (0,0))).bind fun y39=>
 bif (!y39) then
 some (Sum.inr (Sum.inr 3))
 else
 bif (QC 0 I J.2.2.1) then
 bif (inB I J.2.2.1) then
 (Zt (cut 0 I J.2.2.1) (List.getD J.2.2.1 (Int.toNat I) (0,0))).bind fun y40=>
 bif y40 then
 some (Sum.inr (Sum.inr 7))
 else
 some (Sum.inl (IntKind.wrap .i64 (I+1)))
 else none
 else none
 else none
 else
 some (Sum.inr (Sum.inl ()))) 0).bind fun j41=>
 Sum.elim (fun (j42:Unit)=>
 (Qf3 J).bind fun y44=>
 some y44) (fun (j43:Int)=>
 some j43) j41
def Qa2:Callee:=⟨[.rp s17 false],[((.int .i64),.z)],fun t=>JG t.1,true⟩
def QtI:Ctx:=⟨tys,[(21,Jj),(48,ZP),(132,Z7),(146,QeF),(197,Qjw)],[],[(8,(⟨[(0,.keep),(3,.st (.int .i64) .z false)],[]⟩,⟨[((.exit 0),⟨[(0,.keep)],[]⟩),(.ret,⟨[(2,.st (.int .i64) .z false)],[]⟩)]⟩))],[],[(1,⟨[(0,.keep),(22,.st .bool .z false)],[]⟩),
 (3,⟨[(0,.keep),(35,.st .bool .z false)],[]⟩),
 (5,⟨[(0,.keep),(51,.st .bool .z false)],[]⟩)],[],[]⟩
def Qhb (x0:List UInt8):Option (List (Int×Int)×Bool):=
 (Yq x0 43).bind fun J=>
 (Qd (S:=List (Int×Int)×Int) (X:=(List (Int×Int))⊕(List (Int×Int)×Bool)) (fun s27=>
 bif (decide ((s27.2:Int)<(List.length J:Int))) then
 bif (inB s27.2 J) then
 (Yq (List.getD J (Int.toNat s27.2) []) 58).bind fun I=>
 bif (!decide (((List.length I:Int):Int)=2)) then
 some (Sum.inr (Sum.inr (([]:List (Int×Int)),false)))
 else
 bif (inB 0 I) then
 (Qu (List.getD I (Int.toNat 0) []) 2).bind fun U=>
 bif (inB 1 I) then
 (Qu (List.getD I (Int.toNat 1) []) 1).bind fun y30=>
 (bif (!U.2) then
 some true
 else
 some (!y30.2):Option (Bool)).bind fun j31=>
 bif j31 then
 some (Sum.inr (Sum.inr (([]:List (Int×Int)),false)))
 else
 bif decide (List.length s27.1+List.length ([(U.1,y30.1)]:List (Int×Int))<=LIM) then
 some (Sum.inl (List.append s27.1 ([(U.1,y30.1)]:List (Int×Int)),IntKind.wrap .i64 (s27.2+1)))
 else none
 else none
 else none
 else none
 else
 some (Sum.inr (Sum.inl s27.1))) (([]:List (Int×Int)),0)).bind fun j32=>
 Sum.elim (fun (j33:List (Int×Int))=>
 some (j33,true)) (fun (j34:List (Int×Int)×Bool)=>
 some (j34.1,j34.2)) j32
def Qks:Callee:=⟨[.v .str .z],[((.list s0),(.o .z)),(.bool,.z)],fun t=>Qhb t.1,true⟩
def QxI:Ctx:=⟨tys,[(226,Qcy),(227,Qak)],[],[(4,(⟨[(4,.st (.list s0) (.o .z) false),(5,.keep),(6,.st (.int .i64) .z false)],[]⟩,⟨[((.exit 0),⟨[(4,.st (.list s0) (.o .z) false)],[]⟩),(.ret,⟨[(2,.st (.list s0) (.o .z) false),(3,.st .bool .z false)],[]⟩)]⟩))],[],[(11,⟨[(4,.keep),(5,.keep),(6,.keep),(8,.keep),(10,.keep),(48,.st .bool .z false)],[]⟩)],[],[]⟩
def Qfv (x0:List UInt8):Option ((List Int×Int×Int)×Bool):=
 (Yq x0 32).bind fun I=>
 (bif (!decide (((List.length I:Int):Int)=3)) then
 bif (!decide (((List.length I:Int):Int)=5)) then
 some true
 else
 bif (inB 1 I) then
 some (!decide ((List.getD I (Int.toNat 1) []:List UInt8)=[111,102]))
 else none
 else
 bif (inB 1 I) then
 some (!decide ((List.getD I (Int.toNat 1) []:List UInt8)=[111,102]))
 else none:Option (Bool)).bind fun j22=>
 bif j22 then
 some (([],(0,0)),false)
 else
 bif (inB 0 I) then
 (Qu (List.getD I (Int.toNat 0) []) 1).bind fun y23=>
 bif (inB 2 I) then
 (Yq (List.getD I (Int.toNat 2) []) 44).bind fun y24=>
 (Qd (S:=Bool×Int×List Int×Int×Int) (X:=Bool×List Int×Int×Int) (fun s29=>
 bif (decide ((s29.2.1:Int)<(List.length y24:Int))) then
 bif (inB s29.2.1 y24) then
 (Qu (List.getD y24 (Int.toNat s29.2.1) []) 3).bind fun y30=>
 (bif s29.1 then
 some y30.2
 else
 some false:Option (Bool)).bind fun j31=>
 bif decide (List.length s29.2.2.1+List.length ([y30.1]:List Int)<=LIM) then
 some (Sum.inl (j31,(IntKind.wrap .i64 (s29.2.1+1),(List.append s29.2.2.1 ([y30.1]:List Int),s29.2.2.2))))
 else none
 else none
 else
 some (Sum.inr (s29.1,s29.2.2))) (y23.2,(0,([],(y23.1,0))))).bind fun J=>
 (bif (decide (((List.length I:Int):Int)=5)) then
 bif (inB 4 I) then
 (Qu (List.getD I (Int.toNat 4) []) 3).bind fun y35=>
 (bif J.1 then
 bif y35.2 then
 bif (inB 3 I) then
 bif (decide ((List.getD I (Int.toNat 3) []:List UInt8)=[97,102,116,101,114])) then
 some (decide ((0:Int)<y35.1))
 else
 some false
 else none
 else
 some false
 else
 some false:Option (Bool)).bind fun j36=>
 some (j36,(J.2.1,(J.2.2.1,y35.1)))
 else none
 else
 some (J.1,J.2):Option (Bool×List Int×Int×Int)).bind fun U=>
 (bif U.1 then
 (QaX U.2).bind fun y39=>
 some (decide ((y39:Int)=0),U.2)
 else
 some (false,U.2):Option (Bool×List Int×Int×Int)).bind fun j40=>
 some (j40.2,j40.1)
 else none
 else none
def Qid:Callee:=⟨[.v .str .z],[(s2,(.p (.o .z) .z)),(.bool,.z)],fun t=>Qfv t.1,true⟩
def QsP:Ctx:=⟨tys,[(195,Qct),(226,Qcy),(227,Qak)],[],[(8,(⟨[(2,.keep),(4,.keep),(6,.st .bool .z false),(7,.keep),(8,.keep),(9,.st (.int .i64) .z false)],[(2,.keep),(7,.st s2 (.p (.o .z) .z) false)]⟩,⟨[((.exit 0),⟨[(2,.keep),(4,.keep),(6,.st .bool .z false),(7,.keep)],[(2,.keep),(7,.st s2 (.p (.o .z) .z) false)]⟩)]⟩))],[(14,⟨[(.normal,⟨[(2,.keep),(6,.st .bool .z false),(7,.keep)],[(2,.keep),(7,.st s2 (.p (.o .z) .z) false)]⟩)]⟩)],[(2,⟨[(2,.keep),(4,.keep),(29,.st .bool .z false)],[(2,.keep)]⟩),
 (11,⟨[(2,.keep),(4,.keep),(6,.st .bool .z false),(7,.keep),(8,.keep),(9,.keep),(10,.keep)],[(2,.keep),(7,.keep)]⟩),
 (15,⟨[(2,.keep),(6,.st .bool .z false),(7,.keep),(12,.keep)],[(2,.keep),(7,.keep)]⟩),
 (17,⟨[(2,.keep),(3,.st .bool .z false)],[(2,.st s2 (.p (.o .z) .z) false)]⟩)],[],[]⟩
def Qfp (x0:List UInt8):Option ((Int×Int×List (Int×Int)×List (Int×List Int×Int×Int))×Bool):=
 (Yq x0 32).bind fun I=>
 (bif (inB 0 I) then
 bif (decide ((List.getD I (Int.toNat 0) []:List UInt8)=[106,111,105,110])) then
 some true
 else
 bif (inB 0 I) then
 some (decide ((List.getD I (Int.toNat 0) []:List UInt8)=[108,101,97,118,101]))
 else none
 else none:Option (Bool)).bind fun j39=>
 (bif j39 then
 bif (decide (((List.length I:Int):Int)<2)) then
 some (Sum.inr (false,(0,(0,([],[])))))
 else
 bif (inB 1 I) then
 (Qu (List.getD I (Int.toNat 1) []) 3).bind fun y42=>
 bif (!y42.2) then
 some (Sum.inr (false,(0,(0,([],[])))))
 else
 bif (inB 0 I) then
 (bif (decide ((List.getD I (Int.toNat 0) []:List UInt8)=[108,101,97,118,101])) then
 some (2,(0,([],[])))
 else
 some (1,(0,([],[]))):Option (Int×Int×List (Int×Int)×List (Int×List Int×Int×Int))).bind fun j43=>
 some (Sum.inl (2,(j43.1,(y42.1,j43.2.2))))
 else none
 else none
 else
 bif (inB 0 I) then
 bif (!decide ((List.getD I (Int.toNat 0) []:List UInt8)=[112,97,121])) then
 some (Sum.inr (false,(0,(0,([],[])))))
 else
 some (Sum.inl (1,(0,(0,([],[])))))
 else none:Option ((Int×Int×Int×List (Int×Int)×List (Int×List Int×Int×Int))⊕(Bool×Int×Int×List (Int×Int)×List (Int×List Int×Int×Int)))).bind fun j44=>
 Sum.elim (fun (U:Int×Int×Int×List (Int×Int)×List (Int×List Int×Int×Int))=>
 bif (decide (((List.length I:Int):Int)<IntKind.wrap .i64 (U.1+2))) then
 some (U.2,false)
 else
 bif (inB U.1 I) then
 (Qhb (List.getD I (Int.toNat U.1) [])).bind fun y47=>
 (Qd (S:=Bool×Int×Int×Int×List (Int×Int)×List (Int×List Int×Int×Int)) (X:=(Bool×Int×Int×List (Int×Int)×List (Int×List Int×Int×Int))⊕(Bool×Int×Int×List (Int×Int)×List (Int×List Int×Int×Int))) (fun J=>
 (bif (decide ((J.2.1:Int)<(List.length I:Int))) then
 some J.1
 else
 some false:Option (Bool)).bind fun j61=>
 bif j61 then
 bif (inB J.2.1 I) then
 (Yq (List.getD I (Int.toNat J.2.1) []) 61).bind fun y62=>
 bif (!decide (((List.length y62:Int):Int)=2)) then
 some (Sum.inr (Sum.inr (false,J.2.2)))
 else
 bif (inB 0 y62) then
 (Qu (List.getD y62 (Int.toNat 0) []) 7).bind fun y63=>
 bif (inB 1 y62) then
 (Qau (List.getD y62 (Int.toNat 1) []) 95 32).bind fun y64=>
 (Qfv y64).bind fun y65=>
 (bif y63.2 then
 some y65.2
 else
 some false:Option (Bool)).bind fun j66=>
 bif decide (List.length J.2.2.2.2.2+List.length ([(y63.1,y65.1)]:List (Int×List Int×Int×Int))<=LIM) then
 some (Sum.inl (j66,(IntKind.wrap .i64 (J.2.1+1),(J.2.2.1,(J.2.2.2.1,(J.2.2.2.2.1,List.append J.2.2.2.2.2 ([(y63.1,y65.1)]:List (Int×List Int×Int×Int))))))))
 else none
 else none
 else none
 else none
 else
 some (Sum.inr (Sum.inl (J.1,J.2.2)))) (y47.2,(IntKind.wrap .i64 (U.1+1),(U.2.1,(U.2.2.1,(y47.1,U.2.2.2.2)))))).bind fun j67=>
 Sum.elim (fun (j68:Bool×Int×Int×List (Int×Int)×List (Int×List Int×Int×Int))=>
 (bif j68.1 then
 (JG j68.2).bind fun y72=>
 bif (decide ((y72:Int)=0)) then
 (YS j68.2).bind fun y73=>
 bif (decide ((y73:List UInt8)=x0)) then
 some (decide (((List.length x0:Int):Int)<=300),j68.2)
 else
 some (false,j68.2)
 else
 some (false,j68.2)
 else
 some (false,j68.2):Option (Bool×Int×Int×List (Int×Int)×List (Int×List Int×Int×Int))).bind fun j74=>
 some (j74.2,j74.1)) (fun (j69:Bool×Int×Int×List (Int×Int)×List (Int×List Int×Int×Int))=>
 some (j69.2,j69.1)) j67
 else none) (fun (j46:Bool×Int×Int×List (Int×Int)×List (Int×List Int×Int×Int))=>
 some (j46.2,j46.1)) j44
def Qic:Callee:=⟨[.v .str .z],[(s17,(.p .z (.p .z (.p (.o .z) (.o (.p .z (.p (.o .z) .z))))))),(.bool,.z)],fun t=>Qfp t.1,false⟩
def QtS:Ctx:=⟨tys,[(87,Qbt),(137,QjE),(152,Qa2),(226,Qcy),(227,Qak),(228,Qks),(229,Qid)],[],[(22,(⟨[(0,.keep),(2,.keep),(4,.keep),(5,.keep),(10,.st .bool .z false),(11,.st (.int .i64) .z false)],[(2,.keep),(5,.st s17 (.p .z (.p .z (.p (.o .z) (.o (.p .z (.p (.o .z) .z)))))) false)]⟩,⟨[((.exit 0),⟨[(0,.keep),(2,.keep),(5,.keep),(10,.st .bool .z false)],[(2,.keep),(5,.st s17 (.p .z (.p .z (.p (.o .z) (.o (.p .z (.p (.o .z) .z)))))) false)]⟩),(.ret,⟨[(2,.keep),(3,.st .bool .z false)],[(2,.st s17 (.p .z (.p .z (.p (.o .z) (.o (.p .z (.p (.o .z) .z)))))) false)]⟩)]⟩))],[(5,⟨[(.normal,⟨[(0,.keep),(2,.keep),(4,.keep),(5,.keep),(6,.st (.int .i64) .z false)],[(2,.keep),(5,.st s17 (.p .z (.p .z (.p (.o .z) (.o (.p .z (.p (.o .z) .z)))))) false)]⟩),(.ret,⟨[(2,.keep),(3,.st .bool .z false)],[(2,.st s17 (.p .z (.p .z (.p (.o .z) (.o (.p .z (.p (.o .z) .z)))))) false)]⟩)]⟩),
 (12,⟨[(.normal,⟨[(0,.keep),(2,.keep),(4,.keep),(5,.keep),(7,.keep)],[(2,.keep),(5,.st s17 (.p .z (.p .z (.p (.o .z) (.o (.p .z (.p (.o .z) .z)))))) false)]⟩)]⟩)],[(4,⟨[(0,.keep),(2,.keep),(4,.keep),(5,.keep),(6,.keep),(29,.st .bool .z false)],[(2,.keep),(5,.keep)]⟩),
 (22,⟨[(0,.keep),(2,.keep),(4,.keep),(5,.keep),(10,.keep),(11,.keep),(81,.st .bool .z false)],[(2,.keep),(5,.keep)]⟩),
 (29,⟨[(0,.keep),(2,.keep),(4,.keep),(5,.keep),(10,.st .bool .z false),(11,.keep),(13,.keep),(15,.keep)],[(2,.keep),(5,.keep),(15,.keep)]⟩),
 (31,⟨[(2,.keep),(3,.st .bool .z false)],[(2,.st s17 (.p .z (.p .z (.p (.o .z) (.o (.p .z (.p (.o .z) .z)))))) false)]⟩)],[],[]⟩
def Qib (J:List UInt8):Option (Int×Int×Int×List (Int×Int)×List (Int×List Int×Int×Int)):=
 (Qfp J).bind fun I=>
 bif (!I.2) then
 some (5,(0,(0,([],[]))))
 else
 some (0,I.1)
def QiA:Callee:=⟨[.v .str .z],[(s18,(.p .z (.p .z (.p .z (.p (.o .z) (.o (.p .z (.p (.o .z) .z))))))))],fun t=>Qib t.1,false⟩
def QtE:Ctx:=⟨tys,[(196,Qic)],[],[],[],[],[],[]⟩
def QbX (J:List (List UInt8)×List (Int×Int)) (x1:Int):Option (Int×Int×Int×List (Int×Int)×List (Int×List Int×Int×Int)):=
 (Qbv J x1).bind fun I=>
 bif (!decide ((I.1:Int)=0)) then
 some (I.1,(0,(0,([],[]))))
 else
 (Qib I.2).bind fun U=>
 some U
def QiO:Callee:=⟨[.v s1 .z,.v (.int .i64) .z],[(s18,(.p .z (.p .z (.p .z (.p (.o .z) (.o (.p .z (.p (.o .z) .z))))))))],fun t=>QbX t.1 t.2.1,false⟩
def Qzv:Ctx:=⟨tys,[(150,Qf1),(151,QiA)],[],[],[],[],[],[]⟩
def Qf2 (I:Int×Int×List (Int×Int)×List (Int×List Int×Int×Int)):Option (Int×List UInt8):=
 (JG I).bind fun J=>
 bif (!decide ((J:Int)=0)) then
 some (J,[])
 else
 (YS I).bind fun U=>
 bif (decide ((300:Int)<(List.length U:Int))) then
 some (2,[])
 else
 some (0,U)
def Qjo:Callee:=⟨[.v s17 .z],[(s19,.z)],fun t=>Qf2 t.1,false⟩
def QuS:Ctx:=⟨tys,[(87,Qbt),(152,Qa2)],[],[],[],[],[],[]⟩
def QaU (I:List ((Int×Int)×(Int×List Int×Int×Int)×Int×Bool)) (x1:Int×Int×List (Int×Int)×List (Int×List Int×Int×Int)):Option (List ((Int×Int)×(Int×List Int×Int×Int)×Int×Bool)×Bool):=
 (Qd (S:=List ((Int×Int)×(Int×List Int×Int×Int)×Int×Bool)×Int) (X:=List ((Int×Int)×(Int×List Int×Int×Int)×Int×Bool)) (fun s14=>
 bif (decide ((s14.2:Int)<(List.length I:Int))) then
 bif (inB s14.2 I) then
 (Zt x1.2.2.1 (List.getD I (Int.toNat s14.2) ((0,0),((0,([],(0,0))),(0,false)))).1).bind fun U=>
 (bif U then
 bif (inB s14.2 I) then
 bif decide (List.length s14.1+List.length ([List.getD I (Int.toNat s14.2) ((0,0),((0,([],(0,0))),(0,false)))]:List ((Int×Int)×(Int×List Int×Int×Int)×Int×Bool))<=LIM) then
 some (List.append s14.1 ([List.getD I (Int.toNat s14.2) ((0,0),((0,([],(0,0))),(0,false)))]:List ((Int×Int)×(Int×List Int×Int×Int)×Int×Bool)))
 else none
 else none
 else
 some s14.1:Option (List ((Int×Int)×(Int×List Int×Int×Int)×Int×Bool))).bind fun j16=>
 some (Sum.inl (j16,IntKind.wrap .i64 (s14.2+1)))
 else none
 else
 some (Sum.inr s14.1)) (([]:List ((Int×Int)×(Int×List Int×Int×Int)×Int×Bool)),0)).bind fun J=>
 (Qaw J).bind fun y18=>
 some (y18,decide (((List.length J:Int):Int)=(List.length x1.2.2.1:Int)))
def QcM:Callee:=⟨[.v (.list s6) .z,.rp s17 false],[((.list s6),(.o (.p .z (.p (.p .z (.p (.o .z) .z)) .z)))),(.bool,.z)],fun t=>QaU t.1 t.2.1,true⟩
def Qs4:Ctx:=⟨tys,[(132,Z7),(222,Qbp)],[],[(3,(⟨[(0,.keep),(1,.keep),(6,.st (.list s6) (.o .z) false),(7,.st (.int .i64) .z false)],[]⟩,⟨[((.exit 0),⟨[(1,.keep),(6,.st (.list s6) (.o .z) false)],[]⟩)]⟩))],[(6,⟨[(.normal,⟨[(0,.keep),(1,.keep),(6,.st (.list s6) (.o .z) false),(7,.keep)],[]⟩)]⟩)],[],[],[]⟩
def Qcm (I:List (List UInt8)×List (Int×Int)) (x1:Int) (x2:Int):Option (Bool):=
 (Qap I.2 (x1,x2)).bind fun J=>
 some J
def Qg3:Callee:=⟨[.rp s1 false,.v (.int .i64) .z,.v (.int .i64) .z],[(.bool,.z)],fun t=>Qcm t.1 t.2.1 t.2.2.1,true⟩
def QxA:Ctx:=⟨tys,[(95,QbH)],[],[],[],[],[],[]⟩
def Qha (x0:List (List UInt8)×List (Int×Int)) (x1:List Int×Int×Int) (x2:Int) (x3:Int):Option (Int):=
 bif (decide ((x3:Int)<x1.2.2)) then
 some 9
 else
 (Qd (S:=Int×Int) (X:=Int) (fun s13=>
 bif (decide ((s13.2:Int)<(List.length x1.1:Int))) then
 bif (inB s13.2 x1.1) then
 (Qcm x0 (List.getD x1.1 (Int.toNat s13.2) 0) x2).bind fun I=>
 (bif I then
 some (IntKind.wrap .i64 (s13.1+1))
 else
 some s13.1:Option (Int)).bind fun J=>
 some (Sum.inl (J,IntKind.wrap .i64 (s13.2+1)))
 else none
 else
 some (Sum.inr s13.1)) (0,0)).bind fun U=>
 bif (decide ((U:Int)<x1.2.1)) then
 some 6
 else
 some 0
def QkJ:Callee:=⟨[.rp s1 false,.rp s2 false,.v (.int .i64) .z,.v (.int .i64) .z],[((.int .i64),.z)],fun t=>Qha t.1 t.2.1 t.2.2.1 t.2.2.2.1,true⟩
def Qxv:Ctx:=⟨tys,[(200,Qg3)],[],[(5,(⟨[(0,.keep),(1,.keep),(2,.keep),(9,.st (.int .i64) .z false),(10,.st (.int .i64) .z false)],[]⟩,⟨[((.exit 0),⟨[(1,.keep),(9,.st (.int .i64) .z false)],[]⟩)]⟩))],[(8,⟨[(.normal,⟨[(0,.keep),(1,.keep),(2,.keep),(9,.st (.int .i64) .z false),(10,.keep)],[]⟩)]⟩)],[],[],[]⟩
def QgZ (I:List ((Int×Int)×(Int×List Int×Int×Int)×Int×Bool)):Option (Int):=
 (Qd (S:=Int×Int) (X:=Int) (fun s3=>
 bif (decide ((s3.2:Int)<(List.length I:Int))) then
 bif (inB s3.2 I) then
 some (Sum.inl (IntKind.wrap .i64 (s3.1+(List.getD I (Int.toNat s3.2) ((0,0),((0,([],(0,0))),(0,false)))).2.1.1),IntKind.wrap .i64 (s3.2+1)))
 else none
 else
 some (Sum.inr s3.1)) (0,0)).bind fun J=>
 some J
def QkE:Callee:=⟨[.v (.list s6) .z],[((.int .i64),.z)],fun t=>QgZ t.1,true⟩
def QwW:Ctx:=⟨tys,[],[],[(3,(⟨[(0,.keep),(3,.st (.int .i64) .z false),(4,.st (.int .i64) .z false)],[]⟩,⟨[((.exit 0),⟨[(3,.st (.int .i64) .z false)],[]⟩)]⟩))],[],[],[],[]⟩
def QhK (I:Int×Int×List (Int×Int)×List (Int×List Int×Int×Int)):Option (Int):=
 (Qd (S:=Int×Int) (X:=Int) (fun s3=>
 bif (decide ((s3.2:Int)<(List.length I.2.2.2:Int))) then
 bif (inB s3.2 I.2.2.2) then
 some (Sum.inl (IntKind.wrap .i64 (s3.1+(List.getD I.2.2.2 (Int.toNat s3.2) (0,([],(0,0)))).1),IntKind.wrap .i64 (s3.2+1)))
 else none
 else
 some (Sum.inr s3.1)) (0,0)).bind fun J=>
 some J
def Qku:Callee:=⟨[.rp s17 false],[((.int .i64),.z)],fun t=>QhK t.1,true⟩
def Qya:Ctx:=⟨tys,[],[],[(3,(⟨[(0,.keep),(3,.st (.int .i64) .z false),(4,.st (.int .i64) .z false)],[]⟩,⟨[((.exit 0),⟨[(3,.st (.int .i64) .z false)],[]⟩)]⟩))],[],[],[],[]⟩
def Qcl (x0:List (List UInt8)×List (Int×Int)) (x1:List ((Int×Int)×(Int×List Int×Int×Int)×Int×Bool)) (x2:Int×Int×List (Int×Int)×List (Int×List Int×Int×Int)) (x3:Int) (x4:Int):Option (Int×Int):=
 (QaU x1 x2).bind fun I=>
 bif (!I.2) then
 some (0,4)
 else
 (Qd (S:=Int) (X:=(Unit)⊕(Int×Int)) (fun s22=>
 bif (decide ((s22:Int)<(List.length I.1:Int))) then
 bif (inB s22 I.1) then
 (Jv (List.getD I.1 (Int.toNat s22) ((0,0),((0,([],(0,0))),(0,false)))) x4).bind fun y23=>
 bif (!y23) then
 some (Sum.inr (Sum.inr (0,9)))
 else
 bif (inB s22 I.1) then
 (Qha x0 (List.getD I.1 (Int.toNat s22) ((0,0),((0,([],(0,0))),(0,false)))).2.1.2 x3 x4).bind fun J=>
 bif (!decide ((J:Int)=0)) then
 some (Sum.inr (Sum.inr (0,J)))
 else
 some (Sum.inl (IntKind.wrap .i64 (s22+1)))
 else none
 else none
 else
 some (Sum.inr (Sum.inl ()))) 0).bind fun j25=>
 Sum.elim (fun (j26:Unit)=>
 (bif (decide ((x2.1:Int)=2)) then
 (Qcm x0 x2.2.1 x3).bind fun y29=>
 some (!y29)
 else
 some false:Option (Bool)).bind fun j30=>
 bif j30 then
 some (0,6)
 else
 (QgZ I.1).bind fun U=>
 (QhK x2).bind fun y32=>
 bif (decide ((IntKind.wrap .i64 (U - y32):Int)<0)) then
 some (0,8)
 else
 some (IntKind.wrap .i64 (U - y32),0)) (fun (j27:Int×Int)=>
 some (j27.1,j27.2)) j25
def Qio:Callee:=⟨[.rp s1 false,.v (.list s6) .z,.rp s17 false,.v (.int .i64) .z,.v (.int .i64) .z],[((.int .i64),.z),((.int .i64),.z)],fun t=>Qcl t.1 t.2.1 t.2.2.1 t.2.2.2.1 t.2.2.2.2.1,true⟩
def QtK:Ctx:=⟨tys,[(82,Qdq),(198,QcM),(199,QkJ),(200,Qg3),(201,QkE),(202,Qku)],[],[(5,(⟨[(0,.keep),(2,.keep),(3,.keep),(4,.keep),(12,.keep),(14,.st (.int .i64) .z false)],[]⟩,⟨[((.exit 0),⟨[(0,.keep),(2,.keep),(3,.keep),(12,.keep)],[]⟩),(.ret,⟨[(10,.st (.int .i64) .z false),(11,.st (.int .i64) .z false)],[]⟩)]⟩))],[],[(12,⟨[(2,.keep),(12,.keep),(63,.st .bool .z false)],[]⟩)],[],[]⟩
def JK (x0:List (List UInt8)×List (Int×Int)) (x1:List ((Int×Int)×(Int×List Int×Int×Int)×Int×Bool)) (x2:Int×Int×List (Int×Int)×List (Int×List Int×Int×Int)) (x3:Int):Option (Int×Int):=
 (Y2 x0).bind fun y8=>
 bif (!decide ((y8:Int)=0)) then
 some (y8,0)
 else
 (JP x1).bind fun y9=>
 bif (!decide ((y9:Int)=0)) then
 some (y9,0)
 else
 (JG x2).bind fun U=>
 bif (!decide ((U:Int)=0)) then
 some (U,0)
 else
 (Jn x3).bind fun y11=>
 bif (!y11) then
 some (3,0)
 else
 (Qf2 x2).bind fun I=>
 bif (!decide ((I.1:Int)=0)) then
 some (I.1,0)
 else
 (QdO x0.1 I.2).bind fun y13=>
 bif (decide ((y13:Int)=0)) then
 some (4,0)
 else
 (Qcl x0 x1 x2 y13 x3).bind fun J=>
 bif (!decide ((J.2:Int)=0)) then
 some (J.2,0)
 else
 some (0,J.1)
def QeU:Callee:=⟨[.v s1 .z,.v (.list s6) .z,.v s17 .z,.v (.int .i64) .z],[(s0,.z)],fun t=>JK t.1 t.2.1 t.2.2.1 t.2.2.2.1,false⟩
def QsI:Ctx:=⟨tys,[(45,JO),(94,QfP),(96,QaV),(147,Qai),(152,Qa2),(153,Qjo),(154,Qio)],[],[],[],[],[],[]⟩
def Qdi (I:List (Int×Int×Int)) (x1:Int×Int×Int):Option (List (Int×Int×Int)×Int):=
 (QaS I x1.1).bind fun y9=>
 bif (decide ((0:Int)<=y9)) then
 some (([]:List (Int×Int×Int)),7)
 else
 (Qd (S:=Int×Int) (X:=(Int)⊕(List (Int×Int×Int)×Int)) (fun s12=>
 bif (decide ((s12.2:Int)<(List.length I:Int))) then
 bif (inB s12.2 I) then
 bif (Sh.beq (.prod (.int .i64) (.int .i64)) (List.getD I (Int.toNat s12.2) (0,(0,0))).2 x1.2) then
 some (Sum.inr (Sum.inr (([]:List (Int×Int×Int)),7)))
 else
 bif (inB s12.2 I) then
 (bif (decide (((List.getD I (Int.toNat s12.2) (0,(0,0))).1:Int)<x1.1)) then
 some (IntKind.wrap .i64 (s12.2+1))
 else
 some s12.1:Option (Int)).bind fun j13=>
 some (Sum.inl (j13,IntKind.wrap .i64 (s12.2+1)))
 else none
 else none
 else
 some (Sum.inr (Sum.inl s12.1))) (0,0)).bind fun j14=>
 Sum.elim (fun (J:Int)=>
 bif (decide ((8:Int)<=(List.length I:Int))) then
 some (([]:List (Int×Int×Int)),2)
 else
 bif (QC 0 J I) then
 bif decide (List.length ([]:List (Int×Int×Int))+List.length (cut 0 J I)<=LIM) then
 bif decide (List.length (List.append ([]:List (Int×Int×Int)) (cut 0 J I))+List.length ([x1]:List (Int×Int×Int))<=LIM) then
 bif (QC J (List.length I:Int) I) then
 bif decide (List.length (List.append (List.append ([]:List (Int×Int×Int)) (cut 0 J I)) ([x1]:List (Int×Int×Int)))+List.length (cut J (List.length I:Int) I)<=LIM) then
 some (List.append (List.append (List.append ([]:List (Int×Int×Int)) (cut 0 J I)) ([x1]:List (Int×Int×Int))) (cut J (List.length I:Int) I),0)
 else none
 else none
 else none
 else none
 else none) (fun (U:List (Int×Int×Int)×Int)=>
 some (U.1,U.2)) j14
def Qjv:Callee:=⟨[.v (.list s7) .z,.v s7 .z],[((.list s7),(.o .z)),((.int .i64),.z)],fun t=>Qdi t.1 t.2.1,true⟩
def Qvf:Ctx:=⟨tys,[(155,QdJ)],[],[(5,(⟨[(0,.keep),(3,.keep),(6,.st (.int .i64) .z false),(7,.st (.int .i64) .z false)],[(3,.keep)]⟩,⟨[((.exit 0),⟨[(0,.keep),(3,.keep),(6,.st (.int .i64) .z false)],[(3,.keep)]⟩),(.ret,⟨[(4,.st (.list s7) (.o .z) false),(5,.st (.int .i64) .z false)],[]⟩)]⟩))],[(10,⟨[(.normal,⟨[(0,.keep),(3,.keep),(6,.st (.int .i64) .z false),(7,.keep)],[(3,.keep)]⟩)]⟩)],[],[],[]⟩
def Qdx (J:List (Int×Int×Int)) (x1:Int×Int×List (Int×Int)×List (Int×List Int×Int×Int)) (x2:Int):Option (List (Int×Int×Int)×Int):=
 (bif (decide ((x1.1:Int)=2)) then
 (QaS J x1.2.1).bind fun y23=>
 some (decide ((y23:Int)<0))
 else
 some false:Option (Bool)).bind fun j24=>
 bif j24 then
 some (([]:List (Int×Int×Int)),4)
 else
 (Qd (S:=List (Int×Int×Int)×Int) (X:=List (Int×Int×Int)) (fun I=>
 bif (decide ((I.2:Int)<(List.length J:Int))) then
 (bif (decide ((x1.1:Int)=2)) then
 bif (inB I.2 J) then
 some (decide (((List.getD J (Int.toNat I.2) (0,(0,0))).1:Int)=x1.2.1))
 else none
 else
 some false:Option (Bool)).bind fun j36=>
 (bif (!j36) then
 bif (inB I.2 J) then
 (Zt x1.2.2.1 (List.getD J (Int.toNat I.2) (0,(0,0))).2).bind fun y38=>
 some (!y38)
 else none
 else
 some false:Option (Bool)).bind fun j39=>
 (bif j39 then
 bif (inB I.2 J) then
 bif decide (List.length I.1+List.length ([List.getD J (Int.toNat I.2) (0,(0,0))]:List (Int×Int×Int))<=LIM) then
 some (List.append I.1 ([List.getD J (Int.toNat I.2) (0,(0,0))]:List (Int×Int×Int)))
 else none
 else none
 else
 some I.1:Option (List (Int×Int×Int))).bind fun j40=>
 some (Sum.inl (j40,IntKind.wrap .i64 (I.2+1)))
 else
 some (Sum.inr I.1)) (([]:List (Int×Int×Int)),0)).bind fun U=>
 bif (!decide ((x1.1:Int)=1)) then
 some (U,0)
 else
 (Qdi U (x1.2.1,(x2,0))).bind fun y42=>
 some (y42.1,y42.2)
def Qf4:Callee:=⟨[.v (.list s7) .z,.rp s17 false,.v (.int .i64) .z],[((.list s7),(.o .z)),((.int .i64),.z)],fun t=>Qdx t.1 t.2.1 t.2.2.1,true⟩
def Qvr:Ctx:=⟨tys,[(132,Z7),(155,QdJ),(156,Qjv)],[],[(5,(⟨[(0,.keep),(1,.keep),(2,.keep),(8,.st (.list s7) (.o .z) false),(9,.st (.int .i64) .z false)],[]⟩,⟨[((.exit 0),⟨[(1,.keep),(2,.keep),(8,.st (.list s7) (.o .z) false)],[]⟩)]⟩))],[(9,⟨[(.normal,⟨[(0,.keep),(1,.keep),(2,.keep),(8,.st (.list s7) (.o .z) false),(9,.keep)],[]⟩)]⟩)],[(1,⟨[(0,.keep),(1,.keep),(2,.keep),(24,.st .bool .z false)],[]⟩),
 (7,⟨[(0,.keep),(1,.keep),(2,.keep),(8,.keep),(9,.keep),(10,.st .bool .z false)],[]⟩),
 (8,⟨[(0,.keep),(1,.keep),(2,.keep),(8,.keep),(9,.keep),(63,.st .bool .z false)],[]⟩)],[],[]⟩
def Qh7 (I:List ((Int×Int)×(Int×List Int×Int×Int)×Int×Bool)) (x1:Int×Int×List (Int×Int)×List (Int×List Int×Int×Int)):Option (Int×List ((Int×Int)×(Int×List Int×Int×Int)×Int×Bool)):=
 (JP I).bind fun J=>
 bif (!decide ((J:Int)=0)) then
 some (J,[])
 else
 (JG x1).bind fun U=>
 bif (!decide ((U:Int)=0)) then
 some (U,[])
 else
 (QaU I x1).bind fun y6=>
 bif (!y6.2) then
 some (4,[])
 else
 some (0,y6.1)
def QiD:Callee:=⟨[.v (.list s6) .z,.v s17 .z],[(s30,(.p .z (.o (.p .z (.p (.p .z (.p (.o .z) .z)) .z)))))],fun t=>Qh7 t.1 t.2.1,true⟩
def QtN:Ctx:=⟨tys,[(96,QaV),(152,Qa2),(198,QcM)],[],[],[],[],[],[]⟩
def QiL (I:List ((Int×Int)×(Int×List Int×Int×Int)×Int×Bool)) (x1:Int×Int):Option (Int):=
 (Qd (S:=Int) (X:=(Unit)⊕(Int)) (fun s5=>
 bif (decide ((s5:Int)<(List.length I:Int))) then
 bif (inB s5 I) then
 bif (Sh.beq (.prod (.int .i64) (.int .i64)) (List.getD I (Int.toNat s5) ((0,0),((0,([],(0,0))),(0,false)))).1 x1) then
 some (Sum.inr (Sum.inr s5))
 else
 some (Sum.inl (IntKind.wrap .i64 (s5+1)))
 else none
 else
 some (Sum.inr (Sum.inl ()))) 0).bind fun J=>
 Sum.elim (fun (j7:Unit)=>
 some (-1)) (fun (U:Int)=>
 some U) J
def Qlo:Callee:=⟨[.v (.list s6) .z,.v s0 .z],[((.int .i64),.z)],fun t=>QiL t.1 t.2.1,true⟩
def Qy7:Ctx:=⟨tys,[],[],[(2,(⟨[(0,.keep),(3,.keep),(5,.st (.int .i64) .z false)],[(3,.keep)]⟩,⟨[((.exit 0),⟨[],[]⟩),(.ret,⟨[(4,.st (.int .i64) .z false)],[]⟩)]⟩))],[],[],[],[]⟩
def Qf6 (U:List ((Int×Int)×(Int×List Int×Int×Int)×Int×Bool)) (x1:List (Int×Int)):Option (List ((Int×Int)×(Int×List Int×Int×Int)×Int×Bool)×Bool×List ((Int×Int)×(Int×List Int×Int×Int)×Int×Bool)):=
 (Qaw U).bind fun y9=>
 (Qd (S:=List ((Int×Int)×(Int×List Int×Int×Int)×Int×Bool)×Int) (X:=(List ((Int×Int)×(Int×List Int×Int×Int)×Int×Bool))⊕(List ((Int×Int)×(Int×List Int×Int×Int)×Int×Bool)×Bool)) (fun s12=>
 bif (decide ((s12.2:Int)<(List.length x1:Int))) then
 bif (inB s12.2 x1) then
 (QiL s12.1 (List.getD x1 (Int.toNat s12.2) (0,0))).bind fun I=>
 bif (decide ((I:Int)<0)) then
 some (Sum.inr (Sum.inr (([]:List ((Int×Int)×(Int×List Int×Int×Int)×Int×Bool)),false)))
 else
 bif (QC 0 I s12.1) then
 bif decide (List.length ([]:List ((Int×Int)×(Int×List Int×Int×Int)×Int×Bool))+List.length (List.take (Int.toNat (I - 0)) (List.drop (Int.toNat 0) s12.1))<=LIM) then
 bif (QC (IntKind.wrap .i64 (I+1)) (List.length s12.1:Int) s12.1) then
 bif decide (List.length (List.append ([]:List ((Int×Int)×(Int×List Int×Int×Int)×Int×Bool)) (List.take (Int.toNat (I - 0)) (List.drop (Int.toNat 0) s12.1)))+List.length (List.take (Int.toNat ((List.length s12.1:Int) - (IntKind.wrap .i64 (I+1)))) (List.drop (Int.toNat (IntKind.wrap .i64 (I+1))) s12.1))<=LIM) then
 some (Sum.inl (List.append (List.append ([]:List ((Int×Int)×(Int×List Int×Int×Int)×Int×Bool)) (List.take (Int.toNat (I - 0)) (List.drop (Int.toNat 0) s12.1))) (List.take (Int.toNat ((List.length s12.1:Int) - (IntKind.wrap .i64 (I+1)))) (List.drop (Int.toNat (IntKind.wrap .i64 (I+1))) s12.1)),IntKind.wrap .i64 (s12.2+1)))
 else none
 else none
 else none
 else none
 else none
 else
 some (Sum.inr (Sum.inl s12.1))) (y9,0)).bind fun j14=>
 Sum.elim (fun (j15:List ((Int×Int)×(Int×List Int×Int×Int)×Int×Bool))=>
 some (j15,(true,U))) (fun (J:List ((Int×Int)×(Int×List Int×Int×Int)×Int×Bool)×Bool)=>
 some (J.1,(J.2,U))) j14
def Qjs:Callee:=⟨[.mu (.list s6) (.o .z) (.o .z),.v (.list s0) .z],[((.list s6),(.o .z)),(.bool,.z)],fun t=>Qf6 t.1 t.2.1,true⟩
def Qwh:Ctx:=⟨tys,[(222,Qbp),(282,Qlo)],[],[(3,(⟨[(0,.keep),(1,.keep),(6,.st (.list s6) (.o .z) false),(7,.st (.int .i64) .z false)],[]⟩,⟨[((.exit 0),⟨[(0,.keep),(6,.st (.list s6) (.o .z) false)],[]⟩),(.ret,⟨[(0,.keep),(4,.st (.list s6) (.o (.p .z (.p (.p .z (.p (.o .z) .z)) .z))) false),(5,.st .bool .z false)],[]⟩)]⟩))],[],[],[],[]⟩
def Qe8 (I:List ((Int×Int)×(Int×List Int×Int×Int)×Int×Bool)) (x1:Int×Int×List (Int×Int)×List (Int×List Int×Int×Int)) (x2:Int) (x3:Int):Option ((Int×List ((Int×Int)×(Int×List Int×Int×Int)×Int×Bool))×List ((Int×Int)×(Int×List Int×Int×Int)×Int×Bool)):=
 (Qh7 I x1).bind fun J=>
 bif (!decide ((J.1:Int)=0)) then
 some (J,I)
 else
 (QbQ I x2).bind fun y6=>
 bif y6 then
 some ((7,[]),I)
 else
 (Qf6 I x1.2.2.1).bind fun U=>
 (YK U.1 x2 x1.2.2.2 x3 false).bind fun y8=>
 some (y8.1,U.2.2)
def Qir:Callee:=⟨[.mu (.list s6) (.o .z) (.o .z),.v s17 .z,.v (.int .i64) .z,.v (.int .i64) .z],[(s30,(.p .z (.o .z)))],fun t=>Qe8 t.1 t.2.1 t.2.2.1 t.2.2.2.1,true⟩
def Qsv:Ctx:=⟨tys,[(140,Qbx),(191,QiN),(261,QiD),(262,Qjs)],[],[],[],[],[],[]⟩
def QiT (J:List (List UInt8)×List (Int×Int)) (x1:Int×Int×List ((Int×Int)×(Int×List Int×Int×Int)×Int×Bool)×List (Int×Int×Int)) (x2:Int) (x3:Int):Option (List ((Int×Int)×(Int×List Int×Int×Int)×Int×Bool)×Int×Int×(List (List UInt8)×List (Int×Int))×Int×Int×List ((Int×Int)×(Int×List Int×Int×Int)×Int×Bool)×List (Int×Int×Int)):=
 (QbX J x2).bind fun U=>
 bif (!decide ((U.1:Int)=0)) then
 some (([]:List ((Int×Int)×(Int×List Int×Int×Int)×Int×Bool)),(0,(U.1,(J,x1))))
 else
 (JK J x1.2.2.1 U.2 x3).bind fun y7=>
 bif (!decide ((y7.1:Int)=0)) then
 some (([]:List ((Int×Int)×(Int×List Int×Int×Int)×Int×Bool)),(0,(y7.1,(J,x1))))
 else
 (Qdx x1.2.2.2 U.2 x2).bind fun y8=>
 bif (!decide ((y8.2:Int)=0)) then
 some (([]:List ((Int×Int)×(Int×List Int×Int×Int)×Int×Bool)),(0,(y8.2,(J,x1))))
 else
 (QaU x1.2.2.1 U.2).bind fun y9=>
 (Qe8 x1.2.2.1 U.2 x2 x3).bind fun I=>
 bif (!decide ((I.1.1:Int)=0)) then
 some (([]:List ((Int×Int)×(Int×List Int×Int×Int)×Int×Bool)),(0,(I.1.1,(J,(x1.1,(x1.2.1,(I.2,x1.2.2.2)))))))
 else
 some (y9.1,(y7.2,(0,(J,(x1.1,(x1.2.1,(I.1.2,y8.1)))))))
def Qlp:Callee:=⟨[.io s1 .z .z,.io s10 (.p .z (.p .z (.p (.o .z) .z))) (.p .z (.p .z (.p (.o .z) .z))),.v (.int .i64) .z,.v (.int .i64) .z],[((.list s6),.z),((.int .i64),.z),((.int .i64),.z)],fun t=>QiT t.1 t.2.1 t.2.2.1 t.2.2.2.1,false⟩
def Qy9:Ctx:=⟨tys,[(98,QiO),(99,QeU),(102,Qf4),(198,QcM),(223,Qir)],[(11,5),(15,1)],[],[],[],[],[]⟩
def Qg6 (I:Int):Option (Int):=
 some (1000 / 2 ^ min (IntKind.u64.wrap (RowKit.wrap64 ((RowKit.wrap64 (I - 1)).tdiv 8))).toNat 64)
def QkT:Callee:=⟨[.v (.int .i64) .z],[((.int .i64),.z)],fun t=>Qg6 t.1,true⟩
def Qc3 (x0:List (List UInt8)×List (Int×Int)) (x1:Int×Int×List ((Int×Int)×(Int×List Int×Int×Int)×Int×Bool)×List (Int×Int×Int)) (x2:Int):Option ((Int×Int×(Int×List (List ((Int×Int)×(Int×List Int×Int×Int)×Int×Bool))×List (Int×Int×Int))×Int×Int×List ((Int×Int)×(Int×List Int×Int×Int)×Int×Bool)×List (Int×Int×Int))×List (List UInt8)×List (Int×Int)):=
 (Qe4 x0 x2).bind fun I=>
 bif (!decide ((I.1:Int)=0)) then
 (Qbd I.1).bind fun y21=>
 some (y21,x0)
 else
 (bif (!decide ((I.2.1:Int)=x1.1)) then
 some true
 else
 some (!decide ((I.2.2.1:Int)=IntKind.wrap .i64 (x1.2.1+1))):Option (Bool)).bind fun j22=>
 bif j22 then
 (Qbd 10).bind fun y23=>
 some (y23,x0)
 else
 (Qjp x1).bind fun y24=>
 bif decide (List.length ([]:List (Int×Int×Int))+List.length x1.2.2.2<=LIM) then
 (Qd (S:=Int×(Int×Int×(Int×List (List ((Int×Int)×(Int×List Int×Int×Int)×Int×Bool))×List (Int×Int×Int))×Int×Int×List ((Int×Int)×(Int×List Int×Int×Int)×Int×Bool)×List (Int×Int×Int))×List (List UInt8)×List (Int×Int)) (X:=((Int×Int×(Int×List (List ((Int×Int)×(Int×List Int×Int×Int)×Int×Bool))×List (Int×Int×Int))×Int×Int×List ((Int×Int)×(Int×List Int×Int×Int)×Int×Bool)×List (Int×Int×Int))×List (List UInt8)×List (Int×Int))⊕((Int×Int×(Int×List (List ((Int×Int)×(Int×List Int×Int×Int)×Int×Bool))×List (Int×Int×Int))×Int×Int×List ((Int×Int)×(Int×List Int×Int×Int)×Int×Bool)×List (Int×Int×Int))×List (List UInt8)×List (Int×Int))) (fun s29=>
 bif (decide ((s29.1:Int)<(List.length I.2.2.2.2:Int))) then
 bif (inB s29.1 I.2.2.2.2) then
 (QiT s29.2.2 s29.2.1.2.2.2 (List.getD I.2.2.2.2 (Int.toNat s29.1) 0) I.2.2.1).bind fun U=>
 bif (!decide ((U.2.2.1:Int)=0)) then
 (Qbd U.2.2.1).bind fun y31=>
 some (Sum.inr (Sum.inr (y31,U.2.2.2.1)))
 else
 bif decide (List.length s29.2.1.2.2.1.2.1+List.length ([U.1]:List (List ((Int×Int)×(Int×List Int×Int×Int)×Int×Bool)))<=LIM) then
 some (Sum.inl (IntKind.wrap .i64 (s29.1+1),((s29.2.1.1,(IntKind.wrap .i64 (s29.2.1.2.1+U.2.1),((s29.2.1.2.2.1.1,(List.append s29.2.1.2.2.1.2.1 ([U.1]:List (List ((Int×Int)×(Int×List Int×Int×Int)×Int×Bool))),s29.2.1.2.2.1.2.2)),U.2.2.2.2))),U.2.2.2.1)))
 else none
 else none
 else
 some (Sum.inr (Sum.inl (s29.2.1,s29.2.2)))) (0,((0,(0,((x2,([],List.append ([]:List (Int×Int×Int)) x1.2.2.2)),y24))),x0))).bind fun j32=>
 Sum.elim (fun (J:(Int×Int×(Int×List (List ((Int×Int)×(Int×List Int×Int×Int)×Int×Bool))×List (Int×Int×Int))×Int×Int×List ((Int×Int)×(Int×List Int×Int×Int)×Int×Bool)×List (Int×Int×Int))×List (List UInt8)×List (Int×Int))=>
 (Qg6 I.2.2.1).bind fun y35=>
 bif (decide ((1000000:Int)<IntKind.wrap .i64 (y35+J.1.2.1))) then
 (Qbd 8).bind fun y36=>
 some (y36,J.2)
 else
 (YK J.1.2.2.2.2.2.1 x2 ([(IntKind.wrap .i64 (y35+J.1.2.1),(([I.2.2.2.1]:List Int),(1,0)))]:List (Int×List Int×Int×Int)) I.2.2.1 true).bind fun y37=>
 bif (!decide ((y37.1.1:Int)=0)) then
 (Qbd y37.1.1).bind fun y38=>
 some (y38,J.2)
 else
 some ((J.1.1,(J.1.2.1,(J.1.2.2.1,(x2,(I.2.2.1,(y37.1.2,J.1.2.2.2.2.2.2)))))),J.2)) (fun (j34:(Int×Int×(Int×List (List ((Int×Int)×(Int×List Int×Int×Int)×Int×Bool))×List (Int×Int×Int))×Int×Int×List ((Int×Int)×(Int×List Int×Int×Int)×Int×Bool)×List (Int×Int×Int))×List (List UInt8)×List (Int×Int))=>
 some (j34.1,j34.2)) j32
 else none
def Qgq:Callee:=⟨[.io s1 .z .z,.v s10 .z,.v (.int .i64) .z],[(s26,.z)],fun t=>Qc3 t.1 t.2.1 t.2.2.1,false⟩
def Qqp:Ctx:=⟨tys,[(140,Qbx),(186,QhW),(187,Qko),(188,Qjy),(189,Qlp),(190,QkT)],[],[(8,(⟨[(0,.keep),(2,.keep),(6,.keep),(7,.keep),(8,.keep),(9,.st (.int .i64) .z false)],[(6,.keep),(7,.keep),(8,.st s26 (.p .z (.p .z (.p (.p .z (.p (.o .z) (.o .z))) (.p .z (.p .z (.p (.o .z) .z)))))) false),(139,.st s1 .z false)]⟩,⟨[((.exit 0),⟨[(2,.keep),(6,.keep),(7,.keep),(8,.keep)],[(6,.keep),(7,.keep),(8,.st s26 (.p .z (.p .z (.p (.p .z (.p (.o .z) (.o .z))) (.p .z (.p .z (.p (.o .z) .z)))))) false),(139,.st s1 .z false)]⟩),(.ret,⟨[(6,.keep)],[(6,.st s26 .z false),(139,.st s1 .z false)]⟩)]⟩))],[],[(4,⟨[(0,.keep),(2,.keep),(4,.keep),(6,.keep),(7,.keep),(41,.st .bool .z false)],[(4,.keep),(6,.keep),(7,.keep),(139,.keep)]⟩)],[],[]⟩
def QeW (x0:List Int×Int) (x1:Int):Option ((List (List UInt8)×List (Int×Int))×(Int×Int×List ((Int×Int)×(Int×List Int×Int×Int)×Int×Bool)×List (Int×Int×Int))×List Int×List Int×Int):=
 (Qd (S:=Int×List Int×(List (List UInt8)×List (Int×Int))×(Int×Int×List ((Int×Int)×(Int×List Int×Int×Int)×Int×Bool)×List (Int×Int×Int))×List Int×Int) (X:=List Int×(List (List UInt8)×List (Int×Int))×(Int×Int×List ((Int×Int)×(Int×List Int×Int×Int)×Int×Bool)×List (Int×Int×Int))×List Int×Int) (fun s13=>
 bif (decide ((0:Int)<s13.1)) then
 (Qga s13.2.2.2.2 s13.2.2.1 s13.2.2.2.1).bind fun I=>
 (Qc3 I.1 s13.2.2.2.1 I.2.1).bind fun J=>
 bif (!decide ((J.1.1:Int)=0)) then
 some (Sum.inl (IntKind.wrap .i64 (s13.1 - 1),(s13.2.1,(J.2,(s13.2.2.2.1,I.2.2)))))
 else
 bif decide (List.length s13.2.1+List.length ([I.2.1]:List Int)<=LIM) then
 some (Sum.inl (IntKind.wrap .i64 (s13.1 - 1),(List.append s13.2.1 ([I.2.1]:List Int),(J.2,(J.1.2.2.2,I.2.2)))))
 else none
 else
 some (Sum.inr (s13.2.1,(s13.2.2.1,(s13.2.2.2.1,s13.2.2.2.2))))) (x1,(([]:List Int),(([],[]),((0,(0,([],[]))),x0))))).bind fun U=>
 some (U.2.1,(U.2.2.1,(U.1,U.2.2.2)))
def Qiy:Callee:=⟨[.io s27 .z .z,.v (.int .i64) .z],[(s1,.z),(s10,.z),((.list (.int .i64)),(.o .z))],fun t=>QeW t.1 t.2.1,false⟩
def Qss:Ctx:=⟨tys,[(129,QjA),(130,Qgq)],[(6,1),(6,2)],[(4,(⟨[(0,.keep),(1,.st (.int .i64) .z false),(4,.keep),(5,.keep),(7,.keep),(8,.keep),(9,.st (.list (.int .i64)) (.o .z) false)],[(4,.keep),(5,.keep),(7,.st s1 .z false),(8,.st s10 .z false),(43,.st s27 .z false)]⟩,⟨[((.exit 0),⟨[(4,.keep),(5,.keep),(7,.keep),(8,.keep),(9,.st (.list (.int .i64)) (.o .z) false)],[(4,.keep),(5,.keep),(7,.st s1 .z false),(8,.st s10 .z false),(43,.st s27 .z false)]⟩)]⟩))],[],[],[],[]⟩
def Qes (I:Int) (x1:Int):Option (Int):=
 bif (decide ((I:Int)<x1)) then
 some I
 else
 some x1
def QgY:Callee:=⟨[.v (.int .i64) .z,.v (.int .i64) .z],[((.int .i64),.z)],fun t=>Qes t.1 t.2.1,true⟩
def QyE:Ctx:=⟨tys,[],[],[],[],[],[],[]⟩
def Qa1 (I:Int×Int×List ((Int×Int)×(Int×List Int×Int×Int)×Int×Bool)×List (Int×Int×Int)):Option (Int):=
 (Qes (IntKind.wrap .i64 (I.2.1+1)) 40).bind fun J=>
 some J
def QeZ:Callee:=⟨[.rp s10 false],[((.int .i64),.z)],fun t=>Qa1 t.1,true⟩
def Qs5:Ctx:=⟨tys,[(22,QgY)],[],[],[],[],[],[]⟩
def Qfj (J:List (Int×Int×Int)):Option (Int):=
 bif (decide ((8:Int)<(List.length J:Int))) then
 some 2
 else
 (Qd (S:=Int) (X:=(Unit)⊕(Int)) (fun I=>
 bif (decide ((I:Int)<(List.length J:Int))) then
 (bif (inB I J) then
 (YP (List.getD J (Int.toNat I) (0,(0,0))).1).bind fun y50=>
 bif (!y50) then
 some true
 else
 bif (inB I J) then
 (QcJ (List.getD J (Int.toNat I) (0,(0,0))).2).bind fun y51=>
 some (!y51)
 else none
 else none:Option (Bool)).bind fun j52=>
 bif j52 then
 some (Sum.inr (Sum.inr 3))
 else
 (bif (decide ((0:Int)<I)) then
 bif (inB I J) then
 bif (inB (IntKind.wrap .i64 (I - 1)) J) then
 some (decide (((List.getD J (Int.toNat I) (0,(0,0))).1:Int)<=(List.getD J (Int.toNat (IntKind.wrap .i64 (I - 1))) (0,(0,0))).1))
 else none
 else none
 else
 some false:Option (Bool)).bind fun j53=>
 bif j53 then
 some (Sum.inr (Sum.inr 1))
 else
 some (Sum.inl (IntKind.wrap .i64 (I+1)))
 else
 some (Sum.inr (Sum.inl ()))) 0).bind fun j54=>
 Sum.elim (fun (j55:Unit)=>
 (Qd (S:=Int) (X:=(Unit)⊕(Int)) (fun U=>
 bif (decide ((U:Int)<(List.length J:Int))) then
 (Qd (S:=Int) (X:=(Unit)⊕(Int)) (fun s64=>
 bif (decide ((s64:Int)<U)) then
 bif (inB s64 J) then
 bif (inB U J) then
 bif (Sh.beq (.prod (.int .i64) (.int .i64)) (List.getD J (Int.toNat s64) (0,(0,0))).2 (List.getD J (Int.toNat U) (0,(0,0))).2) then
 some (Sum.inr (Sum.inr 7))
 else
 some (Sum.inl (IntKind.wrap .i64 (s64+1)))
 else none
 else none
 else
 some (Sum.inr (Sum.inl ()))) 0).bind fun j65=>
 Sum.elim (fun (j66:Unit)=>
 some (Sum.inl (IntKind.wrap .i64 (U+1)))) (fun (j67:Int)=>
 some (Sum.inr (Sum.inr j67))) j65
 else
 some (Sum.inr (Sum.inl ()))) 0).bind fun j68=>
 Sum.elim (fun (j69:Unit)=>
 some 0) (fun (j70:Int)=>
 some j70) j68) (fun (j56:Int)=>
 some j56) j54
def Qh2:Callee:=⟨[.v (.list s7) .z],[((.int .i64),.z)],fun t=>Qfj t.1,true⟩
def QsM:Ctx:=⟨tys,[(21,Jj),(146,QeF)],[],[(4,(⟨[(0,.keep),(3,.st (.int .i64) .z false)],[]⟩,⟨[((.exit 0),⟨[(0,.keep)],[]⟩),(.ret,⟨[(2,.st (.int .i64) .z false)],[]⟩)]⟩)),
 (11,(⟨[(0,.keep),(4,.st (.int .i64) .z false)],[]⟩,⟨[((.exit 2),⟨[],[]⟩),(.ret,⟨[(2,.st (.int .i64) .z false)],[]⟩)]⟩)),
 (14,(⟨[(0,.keep),(4,.keep),(5,.st (.int .i64) .z false)],[]⟩,⟨[((.exit 4),⟨[(0,.keep),(4,.keep)],[]⟩),(.ret,⟨[(2,.st (.int .i64) .z false)],[]⟩)]⟩))],[],[(6,⟨[(0,.keep),(3,.keep),(30,.st .bool .z false)],[]⟩),
 (8,⟨[(0,.keep),(3,.keep),(46,.st .bool .z false)],[]⟩)],[],[]⟩
def QeS (I:Int×Int×List ((Int×Int)×(Int×List Int×Int×Int)×Int×Bool)×List (Int×Int×Int)):Option (Int):=
 ((QT I.1 0 60).bind fun U=>
 bif (!U) then
 some true
 else
 (QT I.2.1 0 40).bind fun y11=>
 some (!y11):Option (Bool)).bind fun j12=>
 bif j12 then
 some 3
 else
 bif (!(Sh.beq .bool (decide ((I.1:Int)=0)) (decide ((I.2.1:Int)=0)))) then
 some 1
 else
 (JP I.2.2.1).bind fun J=>
 bif (!decide ((J:Int)=0)) then
 some J
 else
 (Qfj I.2.2.2).bind fun y14=>
 some y14
def QhU:Callee:=⟨[.rp s10 false],[((.int .i64),.z)],fun t=>QeS t.1,true⟩
def Qts:Ctx:=⟨tys,[(48,ZP),(96,QaV),(97,Qh2)],[],[],[],[(1,⟨[(0,.keep),(17,.st .bool .z false)],[]⟩)],[],[]⟩
def Qft (I:Int×Int×List (Int×Int)×List (Int×List Int×Int×Int)) (x1:Int×Int×List (Int×Int)×List (Int×List Int×Int×Int)):Option (Bool):=
 (Qd (S:=Int) (X:=(Unit)⊕(Bool)) (fun s10=>
 bif (decide ((s10:Int)<(List.length I.2.2.1:Int))) then
 bif (inB s10 I.2.2.1) then
 (Zt x1.2.2.1 (List.getD I.2.2.1 (Int.toNat s10) (0,0))).bind fun J=>
 bif J then
 some (Sum.inr (Sum.inr true))
 else
 some (Sum.inl (IntKind.wrap .i64 (s10+1)))
 else none
 else
 some (Sum.inr (Sum.inl ()))) 0).bind fun U=>
 Sum.elim (fun (j13:Unit)=>
 some false) (fun (j14:Bool)=>
 some j14) U
def Qh5:Callee:=⟨[.rp s17 false,.rp s17 false],[(.bool,.z)],fun t=>Qft t.1 t.2.1,true⟩
def QsE:Ctx:=⟨tys,[(132,Z7)],[],[(2,(⟨[(0,.keep),(1,.keep),(5,.st (.int .i64) .z false)],[]⟩,⟨[((.exit 0),⟨[],[]⟩),(.ret,⟨[(4,.st .bool .z false)],[]⟩)]⟩))],[],[],[],[]⟩
def Qd2 (I:Int×Int×List ((Int×Int)×(Int×List Int×Int×Int)×Int×Bool)×List (Int×Int×Int)) (x1:Int×Int×List (Int×Int)×List (Int×List Int×Int×Int)) (x2:Int×Int×List (Int×Int)×List (Int×List Int×Int×Int)):Option (Bool):=
 (QaS I.2.2.2 x2.2.1).bind fun J=>
 (bif (decide ((x2.1:Int)=2)) then
 bif (decide ((0:Int)<=J)) then
 bif (inB J I.2.2.2) then
 (Zt x1.2.2.1 (List.getD I.2.2.2 (Int.toNat J) (0,(0,0))).2).bind fun U=>
 some U
 else none
 else
 some false
 else
 some false:Option (Bool)).bind fun j8=>
 some j8
def QhG:Callee:=⟨[.rp s10 false,.rp s17 false,.rp s17 false],[(.bool,.z)],fun t=>Qd2 t.1 t.2.1 t.2.2.1,true⟩
def QqC:Ctx:=⟨tys,[(132,Z7),(155,QdJ)],[],[],[],[(2,⟨[(6,.st .bool .z false)],[]⟩)],[],[]⟩
def Qbr (x0:List (List UInt8)×List (Int×Int)) (x1:Int×Int×List ((Int×Int)×(Int×List Int×Int×Int)×Int×Bool)×List (Int×Int×Int)) (x2:List (Int×Int×List (Int×Int)×List (Int×List Int×Int×Int))) (x3:Int):Option ((Int×Int×List (Int×Int)×List (Int×List Int×Int×Int))×Int):=
 (QbX x0 x3).bind fun I=>
 bif (!decide ((I.1:Int)=0)) then
 some (I.2,I.1)
 else
 (Qa1 x1).bind fun y28=>
 (JK x0 x1.2.2.1 I.2 y28).bind fun U=>
 bif (!decide ((U.1:Int)=0)) then
 some (I.2,U.1)
 else
 (Qd (S:=Bool×Int) (X:=(Bool)⊕(Int×Int×Int×List (Int×Int)×List (Int×List Int×Int×Int))) (fun J=>
 bif (decide ((J.2:Int)<(List.length x2:Int))) then
 bif (inB J.2 x2) then
 (Qft (List.getD x2 (Int.toNat J.2) (0,(0,([],[])))) I.2).bind fun y39=>
 bif y39 then
 some (Sum.inr (Sum.inr (7,I.2)))
 else
 (bif J.1 then
 some true
 else
 bif (inB J.2 x2) then
 bif (!decide (((List.getD x2 (Int.toNat J.2) (0,(0,([],[])))).1:Int)=0)) then
 some true
 else
 bif (inB J.2 x2) then
 (Qd2 x1 (List.getD x2 (Int.toNat J.2) (0,(0,([],[])))) I.2).bind fun y41=>
 some y41
 else none
 else none:Option (Bool)).bind fun j42=>
 some (Sum.inl (j42,IntKind.wrap .i64 (J.2+1)))
 else none
 else
 some (Sum.inr (Sum.inl J.1))) (false,0)).bind fun j43=>
 Sum.elim (fun (j44:Bool)=>
 (bif (!decide ((I.2.1:Int)=0)) then
 (Qdx x1.2.2.2 I.2 x3).bind fun y48=>
 (bif (!decide ((y48.2:Int)=0)) then
 some true
 else
 some j44:Option (Bool)).bind fun j49=>
 bif j49 then
 some (Sum.inr (10,I.2))
 else
 some (Sum.inl ())
 else
 some (Sum.inl ()):Option ((Unit)⊕(Int×Int×Int×List (Int×Int)×List (Int×List Int×Int×Int)))).bind fun j50=>
 Sum.elim (fun (j51:Unit)=>
 some (I.2,0)) (fun (j52:Int×Int×Int×List (Int×Int)×List (Int×List Int×Int×Int))=>
 some (j52.2,j52.1)) j50) (fun (j45:Int×Int×Int×List (Int×Int)×List (Int×List Int×Int×Int))=>
 some (j45.2,j45.1)) j43
def Qgm:Callee:=⟨[.rp s1 false,.rp s10 false,.v (.list s17) .z,.v (.int .i64) .z],[(s17,(.p .z (.p .z (.p (.o .z) (.o (.p .z (.p (.o .z) .z))))))),((.int .i64),.z)],fun t=>Qbr t.1 t.2.1 t.2.2.1 t.2.2.2.1,false⟩
def Qv1:Ctx:=⟨tys,[(83,QeZ),(98,QiO),(99,QeU),(100,Qh5),(101,QhG),(102,Qf4)],[],[(9,(⟨[(1,.keep),(2,.keep),(3,.keep),(8,.keep),(10,.keep),(12,.st .bool .z false),(13,.st (.int .i64) .z false)],[(8,.keep),(10,.keep)]⟩,⟨[((.exit 0),⟨[(1,.keep),(3,.keep),(8,.keep),(10,.keep),(12,.st .bool .z false)],[(8,.keep),(10,.keep)]⟩),(.ret,⟨[(8,.keep),(9,.st (.int .i64) .z false)],[(8,.st s17 (.p .z (.p .z (.p (.o .z) (.o (.p .z (.p (.o .z) .z)))))) false)]⟩)]⟩))],[(15,⟨[(.normal,⟨[(8,.keep),(10,.keep)],[(8,.keep),(10,.keep)]⟩),(.ret,⟨[(8,.keep),(9,.st (.int .i64) .z false)],[(8,.st s17 (.p .z (.p .z (.p (.o .z) (.o (.p .z (.p (.o .z) .z)))))) false)]⟩)]⟩)],[(13,⟨[(1,.keep),(2,.keep),(3,.keep),(8,.keep),(10,.keep),(12,.st .bool .z false),(13,.keep)],[(8,.keep),(10,.keep)]⟩),
 (16,⟨[(8,.keep),(10,.keep),(95,.st .bool .z false)],[(8,.keep),(10,.keep)]⟩)],[(3,[2,3])],[]⟩
def Qbq (x0:List (List UInt8)×List (Int×Int)) (x1:Int×Int×List ((Int×Int)×(Int×List Int×Int×Int)×Int×Bool)×List (Int×Int×Int)) (x2:List Int):Option (List (Int×Int×List (Int×Int)×List (Int×List Int×Int×Int))×Int):=
 (Y2 x0).bind fun J=>
 bif (!decide ((J:Int)=0)) then
 some (([]:List (Int×Int×List (Int×Int)×List (Int×List Int×Int×Int))),J)
 else
 (QeS x1).bind fun U=>
 bif (!decide ((U:Int)=0)) then
 some (([]:List (Int×Int×List (Int×Int)×List (Int×List Int×Int×Int))),U)
 else
 bif (decide ((8:Int)<(List.length x2:Int))) then
 some (([]:List (Int×Int×List (Int×Int)×List (Int×List Int×Int×Int))),2)
 else
 (Qd (S:=List (Int×Int×List (Int×Int)×List (Int×List Int×Int×Int))×Int) (X:=(List (Int×Int×List (Int×Int)×List (Int×List Int×Int×Int)))⊕(List (Int×Int×List (Int×Int)×List (Int×List Int×Int×Int))×Int)) (fun s14=>
 bif (decide ((s14.2:Int)<(List.length x2:Int))) then
 bif (inB s14.2 x2) then
 (Qbr x0 x1 s14.1 (List.getD x2 (Int.toNat s14.2) 0)).bind fun I=>
 bif (!decide ((I.2:Int)=0)) then
 some (Sum.inr (Sum.inr (([]:List (Int×Int×List (Int×Int)×List (Int×List Int×Int×Int))),I.2)))
 else
 bif decide (List.length s14.1+List.length ([I.1]:List (Int×Int×List (Int×Int)×List (Int×List Int×Int×Int)))<=LIM) then
 some (Sum.inl (List.append s14.1 ([I.1]:List (Int×Int×List (Int×Int)×List (Int×List Int×Int×Int))),IntKind.wrap .i64 (s14.2+1)))
 else none
 else none
 else
 some (Sum.inr (Sum.inl s14.1))) (([]:List (Int×Int×List (Int×Int)×List (Int×List Int×Int×Int))),0)).bind fun j16=>
 Sum.elim (fun (j17:List (Int×Int×List (Int×Int)×List (Int×List Int×Int×Int)))=>
 some (j17,0)) (fun (j18:List (Int×Int×List (Int×Int)×List (Int×List Int×Int×Int))×Int)=>
 some (j18.1,j18.2)) j16
def Qf0:Callee:=⟨[.rp s1 false,.rp s10 false,.v (.list (.int .i64)) .z],[((.list s17),(.o (.p .z (.p .z (.p (.o .z) (.o (.p .z (.p (.o .z) .z)))))))),((.int .i64),.z)],fun t=>Qbq t.1 t.2.1 t.2.2.1,false⟩
def QuY:Ctx:=⟨tys,[(45,JO),(46,QhU),(47,Qgm)],[],[(11,(⟨[(0,.keep),(1,.keep),(2,.keep),(10,.st (.list s17) (.o (.p .z (.p .z (.p (.o .z) (.o (.p .z (.p (.o .z) .z))))))) false),(11,.st (.int .i64) .z false)],[]⟩,⟨[((.exit 0),⟨[(10,.st (.list s17) (.o (.p .z (.p .z (.p (.o .z) (.o (.p .z (.p (.o .z) .z))))))) false)],[]⟩),(.ret,⟨[(6,.st (.list s17) (.o (.p .z (.p .z (.p (.o .z) (.o (.p .z (.p (.o .z) .z))))))) false),(7,.st (.int .i64) .z false)],[]⟩)]⟩))],[],[],[],[]⟩
def Qfl (U:List (List UInt8)×List (Int×Int)) (x1:Int×Int×List ((Int×Int)×(Int×List Int×Int×Int)×Int×Bool)×List (Int×Int×Int)) (x2:List Int) (I:Int):Option (Int×List Int×List Int):=
 (Qbq U x1 x2).bind fun J=>
 bif (!decide ((J.2:Int)=0)) then
 some (J.2,([],[]))
 else
 (Qbr U x1 J.1 I).bind fun y4=>
 bif (!decide ((y4.2:Int)=0)) then
 some (y4.2,([],[]))
 else
 bif (decide ((8:Int)<=(List.length x2:Int))) then
 some (2,([],[]))
 else
 bif decide (List.length ([]:List Int)+List.length x2<=LIM) then
 bif decide (List.length (List.append ([]:List Int) x2)+List.length ([I]:List Int)<=LIM) then
 some (0,([],List.append (List.append ([]:List Int) x2) ([I]:List Int)))
 else none
 else none
def Qig:Callee:=⟨[.v s1 .z,.v s10 .z,.v (.list (.int .i64)) .z,.v (.int .i64) .z],[(s29,(.p .z (.p (.o .z) (.o .z))))],fun t=>Qfl t.1 t.2.1 t.2.2.1 t.2.2.2.1,false⟩
def QsW:Ctx:=⟨tys,[(20,Qf0),(47,Qgm)],[],[],[],[],[],[]⟩
def Qek (x0:List Int×Int):Option ((List (List UInt8)×List (Int×Int))×(Int×Int×List ((Int×Int)×(Int×List Int×Int×Int)×Int×Bool)×List (Int×Int×Int))×List Int×List Int×List Int×Int):=
 (Ql x0 6).bind fun y109=>
 (QeW y109.2 (IntKind.wrap .i64 (2+y109.1))).bind fun U=>
 (Qd (S:=List ((Int×Int)×(Int×List Int×Int×Int)×Int×Bool)×Int×List Int×Int) (X:=List ((Int×Int)×(Int×List Int×Int×Int)×Int×Bool)×List Int×Int) (fun J=>
 bif (decide ((J.2.1:Int)<(List.length U.2.1.2.2.1:Int))) then
 (bif (inB J.2.1 U.2.1.2.2.1) then
 (Qa1 U.2.1).bind fun y131=>
 (Jv (List.getD U.2.1.2.2.1 (Int.toNat J.2.1) ((0,0),((0,([],(0,0))),(0,false)))) y131).bind fun y132=>
 bif y132 then
 some (true,J.2.2)
 else
 (QS J.2.2 8).bind fun y133=>
 some (y133.1,y133.2)
 else none:Option (Bool×List Int×Int)).bind fun j134=>
 (bif j134.1 then
 bif (inB J.2.1 U.2.1.2.2.1) then
 bif decide (List.length J.1+List.length ([List.getD U.2.1.2.2.1 (Int.toNat J.2.1) ((0,0),((0,([],(0,0))),(0,false)))]:List ((Int×Int)×(Int×List Int×Int×Int)×Int×Bool))<=LIM) then
 some (List.append J.1 ([List.getD U.2.1.2.2.1 (Int.toNat J.2.1) ((0,0),((0,([],(0,0))),(0,false)))]:List ((Int×Int)×(Int×List Int×Int×Int)×Int×Bool)))
 else none
 else none
 else
 some J.1:Option (List ((Int×Int)×(Int×List Int×Int×Int)×Int×Bool))).bind fun j135=>
 some (Sum.inl (j135,(IntKind.wrap .i64 (J.2.1+1),j134.2)))
 else
 some (Sum.inr (J.1,J.2.2))) (([]:List ((Int×Int)×(Int×List Int×Int×Int)×Int×Bool)),(0,U.2.2.2))).bind fun j136=>
 (Ql j136.2 6).bind fun y137=>
 (Qd (S:=List ((Int×Int)×(Int×List Int×Int×Int)×Int×Bool)×List Int×Int×(List (List UInt8)×List (Int×Int))×List Int×Int) (X:=List Int×(List (List UInt8)×List (Int×Int))×List Int×Int) (fun I=>
 bif (decide ((0:Int)<I.2.2.1)) then
 (QfU I.2.2.2.2 I.1).bind fun y179=>
 (YS y179.1).bind fun y180=>
 (Qan I.2.2.2.1 y180).bind fun y181=>
 bif (!decide ((y181.1:Int)=0)) then
 some (Sum.inl (I.1,(I.2.1,(IntKind.wrap .i64 (I.2.2.1 - 1),(I.2.2.2.1,y179.2)))))
 else
 bif decide (List.length I.2.1+List.length ([y181.2.1]:List Int)<=LIM) then
 (Qd (S:=Int×(List (List UInt8)×List (Int×Int))×List Int×Int) (X:=(List (List UInt8)×List (Int×Int))×List Int×Int) (fun s192=>
 bif (decide ((s192.1:Int)<7)) then
 (QdD s192.2.1 s192.1 y181.2.1).bind fun y193=>
 (bif (decide ((y193.1:Int)=0)) then
 (QS s192.2.2 12).bind fun y195=>
 some (!y195.1,y195.2)
 else
 some (false,s192.2.2):Option (Bool×List Int×Int)).bind fun j196=>
 (bif j196.1 then
 some y193.2.2
 else
 some s192.2.1:Option (List (List UInt8)×List (Int×Int))).bind fun j197=>
 some (Sum.inl (IntKind.wrap .i64 (s192.1+1),(j197,j196.2)))
 else
 some (Sum.inr (s192.2.1,s192.2.2))) (1,(y181.2.2,y179.2))).bind fun j198=>
 some (Sum.inl (I.1,(List.append I.2.1 ([y181.2.1]:List Int),(IntKind.wrap .i64 (I.2.2.1 - 1),(j198.1,j198.2)))))
 else none
 else
 some (Sum.inr (I.2.1,(I.2.2.2.1,I.2.2.2.2)))) (j136.1,(([]:List Int),(y137.1,(U.1,y137.2))))).bind fun j199=>
 (Qd (S:=List Int×Int×List Int×Int) (X:=List Int×List Int×Int) (fun s210=>
 bif (decide ((s210.2.1:Int)<(List.length j199.1:Int))) then
 bif (inB s210.2.1 j199.1) then
 (Qfl j199.2.1 U.2.1 s210.1 (List.getD j199.1 (Int.toNat s210.2.1) 0)).bind fun y211=>
 (bif (decide ((y211.1:Int)=0)) then
 (QS s210.2.2 3).bind fun y213=>
 some (!y213.1,y213.2)
 else
 some (false,s210.2.2):Option (Bool×List Int×Int)).bind fun j214=>
 (bif j214.1 then
 some y211.2.2
 else
 some s210.1:Option (List Int)).bind fun j215=>
 some (Sum.inl (j215,(IntKind.wrap .i64 (s210.2.1+1),j214.2)))
 else none
 else
 some (Sum.inr (s210.1,s210.2.2))) (([]:List Int),(0,j199.2.2))).bind fun j216=>
 some (j199.2.1,(U.2.1,(j216.1,(j199.1,j216.2))))
def Qg7:Callee:=⟨[.io s27 .z .z],[(s1,.z),(s10,.z),((.list (.int .i64)),(.o .z)),((.list (.int .i64)),(.o .z))],fun t=>Qek t.1,false⟩
def Qrt:Ctx:=⟨tys,[(39,Zs),(81,Qiy),(82,Qdq),(83,QeZ),(84,Jq),(85,QiP),(86,Qd7),(87,Qbt),(88,Qge),(89,Qig)],[(12,1)],[(4,(⟨[(0,.keep),(2,.keep),(3,.keep),(6,.keep),(7,.keep),(9,.st (.list s6) (.o .z) false),(10,.st (.int .i64) .z false)],[(2,.keep),(3,.keep),(6,.keep),(7,.keep),(126,.st s27 .z false)]⟩,⟨[((.exit 0),⟨[(0,.keep),(2,.keep),(3,.keep),(6,.keep),(7,.keep),(9,.st (.list s6) (.o .z) false)],[(2,.keep),(3,.keep),(6,.keep),(7,.keep),(126,.st s27 .z false)]⟩)]⟩)),
 (10,(⟨[(0,.keep),(2,.keep),(3,.keep),(6,.keep),(7,.keep),(9,.st (.list s6) .z false),(11,.st (.list (.int .i64)) (.o .z) false),(12,.st (.int .i64) .z false)],[(2,.keep),(3,.keep),(6,.st s1 .z false),(7,.keep),(126,.st s27 .z false)]⟩,⟨[((.exit 2),⟨[(0,.keep),(2,.keep),(3,.keep),(6,.keep),(7,.keep),(11,.st (.list (.int .i64)) (.o .z) false)],[(2,.keep),(3,.keep),(6,.st s1 .z false),(7,.keep),(126,.st s27 .z false)]⟩)]⟩)),
 (18,(⟨[(0,.keep),(2,.keep),(3,.keep),(6,.keep),(7,.keep),(9,.keep),(11,.keep),(12,.keep),(14,.keep),(15,.st (.int .i64) .z false)],[(2,.keep),(3,.keep),(6,.st s1 (.p (.o .z) (.o .z)) false),(7,.keep),(14,.keep),(126,.st s27 .z false)]⟩,⟨[((.exit 4),⟨[(0,.keep),(2,.keep),(3,.keep),(6,.keep),(7,.keep),(9,.keep),(11,.keep),(12,.keep)],[(2,.keep),(3,.keep),(6,.st s1 (.p (.o .z) (.o .z)) false),(7,.keep),(126,.st s27 .z false)]⟩)]⟩)),
 (25,(⟨[(0,.keep),(2,.keep),(3,.keep),(6,.keep),(7,.keep),(11,.keep),(17,.st (.list (.int .i64)) (.o .z) false),(18,.st (.int .i64) .z false)],[(2,.keep),(3,.keep),(6,.keep),(7,.keep),(126,.st s27 .z false)]⟩,⟨[((.exit 6),⟨[(2,.keep),(3,.keep),(6,.keep),(7,.keep),(11,.keep),(17,.st (.list (.int .i64)) (.o .z) false)],[(2,.keep),(3,.keep),(6,.keep),(7,.keep),(126,.st s27 .z false)]⟩)]⟩))],[(7,⟨[(.normal,⟨[(0,.keep),(2,.keep),(3,.keep),(6,.keep),(7,.keep),(9,.st (.list s6) (.o .z) false),(10,.keep)],[(2,.keep),(3,.keep),(6,.keep),(7,.keep),(126,.keep)]⟩)]⟩),
 (22,⟨[(.normal,⟨[(0,.keep),(2,.keep),(3,.keep),(6,.keep),(7,.keep),(9,.keep),(11,.keep),(12,.keep),(14,.keep),(15,.keep)],[(2,.keep),(3,.keep),(6,.st s1 (.p (.o .z) (.o .z)) false),(7,.keep),(14,.keep),(126,.keep)]⟩)]⟩),
 (29,⟨[(.normal,⟨[(0,.keep),(2,.keep),(3,.keep),(6,.keep),(7,.keep),(11,.keep),(17,.st (.list (.int .i64)) (.o .z) false),(18,.keep)],[(2,.keep),(3,.keep),(6,.keep),(7,.keep),(126,.keep)]⟩)]⟩)],[(6,⟨[(0,.keep),(2,.keep),(3,.keep),(6,.keep),(7,.keep),(9,.keep),(10,.keep),(46,.st .bool .z false)],[(2,.keep),(3,.keep),(6,.keep),(7,.keep),(126,.st s27 .z false)]⟩),
 (21,⟨[(0,.keep),(2,.keep),(3,.keep),(6,.keep),(7,.keep),(9,.keep),(11,.keep),(12,.keep),(14,.keep),(15,.keep),(16,.keep),(94,.st .bool .z false)],[(2,.keep),(3,.keep),(6,.keep),(7,.keep),(14,.keep),(16,.keep),(126,.st s27 .z false)]⟩),
 (28,⟨[(0,.keep),(2,.keep),(3,.keep),(6,.keep),(7,.keep),(11,.keep),(17,.keep),(18,.keep),(19,.keep),(119,.st .bool .z false)],[(2,.keep),(3,.keep),(6,.keep),(7,.keep),(19,.keep),(126,.st s27 .z false)]⟩)],[],[]⟩
def Qcf (x0:List Int×Int):Option (List (Int×List Int×Int×Int)×List Int×Int):=
 (Ql x0 4).bind fun U=>
 (Qd (S:=List (Int×List Int×Int×Int)×Int×List Int×Int) (X:=List (Int×List Int×Int×Int)×List Int×Int) (fun s15=>
 bif (decide ((0:Int)<s15.2.1)) then
 (Ql s15.2.2 300).bind fun I=>
 (Ju I.2).bind fun J=>
 bif decide (List.length s15.1+List.length ([(IntKind.wrap .i64 (1+I.1),J.1)]:List (Int×List Int×Int×Int))<=LIM) then
 some (Sum.inl (List.append s15.1 ([(IntKind.wrap .i64 (1+I.1),J.1)]:List (Int×List Int×Int×Int)),(IntKind.wrap .i64 (s15.2.1 - 1),J.2)))
 else none
 else
 some (Sum.inr (s15.1,s15.2.2))) (([]:List (Int×List Int×Int×Int)),(U.1,U.2))).bind fun j18=>
 some (j18.1,j18.2)
def QfC:Callee:=⟨[.io s27 .z .z],[((.list s3),(.o (.p .z (.p (.o .z) .z))))],fun t=>Qcf t.1,true⟩
def Qo9:Ctx:=⟨tys,[(39,Zs),(134,Qds)],[],[(3,(⟨[(0,.keep),(3,.st (.list s3) (.o (.p .z (.p (.o .z) .z))) false),(4,.st (.int .i64) .z false)],[(22,.st s27 .z false)]⟩,⟨[((.exit 0),⟨[(3,.st (.list s3) (.o (.p .z (.p (.o .z) .z))) false)],[(22,.st s27 .z false)]⟩)]⟩))],[],[],[],[]⟩
def QeR (x0:List Int×Int):Option (List ((Int×Int)×(Int×List Int×Int×Int)×Int×Bool)×List Int×Int):=
 (Ql x0 6).bind fun U=>
 (Qd (S:=List ((Int×Int)×(Int×List Int×Int×Int)×Int×Bool)×Int×List Int×Int) (X:=List ((Int×Int)×(Int×List Int×Int×Int)×Int×Bool)×List Int×Int) (fun I=>
 bif (decide ((0:Int)<I.2.1)) then
 (Ql I.2.2 6).bind fun y36=>
 (Qcf y36.2).bind fun y37=>
 (Ql y37.2 6).bind fun y38=>
 (QS y38.2 3).bind fun y39=>
 (YK I.1 (IntKind.wrap .i64 (1+y36.1)) y37.1 y38.1 y39.1).bind fun J=>
 (bif (decide ((J.1.1:Int)=0)) then
 some J.1.2
 else
 some J.2:Option (List ((Int×Int)×(Int×List Int×Int×Int)×Int×Bool))).bind fun j41=>
 some (Sum.inl (j41,(IntKind.wrap .i64 (I.2.1 - 1),y39.2)))
 else
 some (Sum.inr (I.1,I.2.2))) (([]:List ((Int×Int)×(Int×List Int×Int×Int)×Int×Bool)),(U.1,U.2))).bind fun j42=>
 some (j42.1,j42.2)
def Qim:Callee:=⟨[.io s27 .z .z],[((.list s6),(.o .z))],fun t=>QeR t.1,true⟩
def QsN:Ctx:=⟨tys,[(39,Zs),(84,Jq),(140,Qbx),(141,QfC)],[],[(3,(⟨[(0,.keep),(3,.st (.list s6) (.o .z) false),(4,.st (.int .i64) .z false)],[(30,.st s27 .z false)]⟩,⟨[((.exit 0),⟨[(3,.st (.list s6) (.o .z) false)],[(30,.st s27 .z false)]⟩)]⟩))],[(7,⟨[(.normal,⟨[(0,.keep),(3,.st (.list s6) (.o .z) false),(4,.keep)],[(30,.keep)]⟩)]⟩)],[],[],[]⟩
def QfZ (x0:List Int×Int):Option (List ((Int×Int)×(Int×List Int×Int×Int)×Int×Bool)×List Int×Int):=
 (QeR x0).bind fun I=>
 (bif (decide ((0:Int)<(List.length I.1:Int))) then
 (Ql I.2 14).bind fun J=>
 (bif (decide ((J.1:Int)=0)) then
 (YT J.2 ([0,61,3]:List Int)).bind fun U=>
 bif (inB 0 I.1) then
 some (List.set I.1 (Int.toNat 0) ((U.1,(List.getD I.1 (Int.toNat 0) ((0,0),((0,([],(0,0))),(0,false)))).1.2),(List.getD I.1 (Int.toNat 0) ((0,0),((0,([],(0,0))),(0,false)))).2),U.2)
 else none
 else
 (bif (decide ((J.1:Int)=1)) then
 (YT J.2 ([(-1),1000]:List Int)).bind fun y133=>
 bif (inB 0 I.1) then
 let z134:List ((Int×Int)×(Int×List Int×Int×Int)×Int×Bool):=List.set I.1 (Int.toNat 0) ((List.getD I.1 (Int.toNat 0) ((0,0),((0,([],(0,0))),(0,false)))).1,((List.getD I.1 (Int.toNat 0) ((0,0),((0,([],(0,0))),(0,false)))).2.1,(y133.1,(List.getD I.1 (Int.toNat 0) ((0,0),((0,([],(0,0))),(0,false)))).2.2.2)))
 some (z134,y133.2)
 else none
 else
 (bif (decide ((J.1:Int)=2)) then
 bif (inB 0 I.1) then
 let z137:List ((Int×Int)×(Int×List Int×Int×Int)×Int×Bool):=List.set I.1 (Int.toNat 0) ((List.getD I.1 (Int.toNat 0) ((0,0),((0,([],(0,0))),(0,false)))).1,((0,(List.getD I.1 (Int.toNat 0) ((0,0),((0,([],(0,0))),(0,false)))).2.1.2),(List.getD I.1 (Int.toNat 0) ((0,0),((0,([],(0,0))),(0,false)))).2.2))
 some z137
 else none
 else
 (bif (decide ((J.1:Int)=3)) then
 bif (inB 0 I.1) then
 bif decide (List.length I.1+List.length ([List.getD I.1 (Int.toNat 0) ((0,0),((0,([],(0,0))),(0,false)))]:List ((Int×Int)×(Int×List Int×Int×Int)×Int×Bool))<=LIM) then
 some (List.append I.1 ([List.getD I.1 (Int.toNat 0) ((0,0),((0,([],(0,0))),(0,false)))]:List ((Int×Int)×(Int×List Int×Int×Int)×Int×Bool)))
 else none
 else none
 else
 some I.1:Option (List ((Int×Int)×(Int×List Int×Int×Int)×Int×Bool))).bind fun j138=>
 some j138:Option (List ((Int×Int)×(Int×List Int×Int×Int)×Int×Bool))).bind fun j139=>
 some (j139,J.2):Option (List ((Int×Int)×(Int×List Int×Int×Int)×Int×Bool)×List Int×Int)).bind fun j140=>
 some (j140.1,j140.2):Option (List ((Int×Int)×(Int×List Int×Int×Int)×Int×Bool)×List Int×Int)).bind fun j141=>
 some (j141.1,j141.2)
 else
 some (I.1,I.2):Option (List ((Int×Int)×(Int×List Int×Int×Int)×Int×Bool)×List Int×Int)).bind fun j142=>
 (QS j142.2 40).bind fun y143=>
 (bif y143.1 then
 bif (decide (0<=41)&&decide (41<=(LIM:Int))) then
 some (List.replicate (Int.toNat 41) ((0,0),((0,([],(0,0))),(0,false))))
 else none
 else
 some j142.1:Option (List ((Int×Int)×(Int×List Int×Int×Int)×Int×Bool))).bind fun j144=>
 some (j144,y143.2)
def Qjz:Callee:=⟨[.io s27 .z .z],[((.list s6),(.o .z))],fun t=>QfZ t.1,true⟩
def Qu3:Ctx:=⟨tys,[(17,Qav),(39,Zs),(84,Jq),(90,Qim)],[],[],[(3,⟨[(.normal,⟨[(0,.keep),(3,.st (.list s6) (.o .z) false)],[(46,.st s27 .z false)]⟩)]⟩),
 (5,⟨[(.normal,⟨[(0,.keep),(3,.st (.list s6) (.o .z) false)],[(46,.st s27 .z false)]⟩)]⟩),
 (7,⟨[(.normal,⟨[(0,.keep),(3,.st (.list s6) (.o .z) false)],[(46,.st s27 .z false)]⟩)]⟩),
 (9,⟨[(.normal,⟨[(0,.keep),(3,.st (.list s6) (.o .z) false)],[(46,.keep)]⟩)]⟩),
 (11,⟨[(.normal,⟨[(0,.keep),(3,.st (.list s6) (.o .z) false)],[(46,.keep)]⟩)]⟩),
 (13,⟨[(.normal,⟨[(3,.st (.list s6) (.o .z) false)],[(46,.keep)]⟩)]⟩)],[],[],[]⟩
def Qe6 (x0:List Int×Int):Option ((List (List UInt8)×List (Int×Int))×(Int×Int×List ((Int×Int)×(Int×List Int×Int×Int)×Int×Bool)×List (Int×Int×Int))×List Int×List Int×List Int×Int):=
 (Qek x0).bind fun I=>
 (Ql I.2.2.2.2 16).bind fun J=>
 (bif (decide ((J.1:Int)=0)) then
 (YT J.2 ([1,0,61]:List Int)).bind fun U=>
 bif decide (List.length I.2.2.1+List.length ([U.1]:List Int)<=LIM) then
 some (List.append I.2.2.1 ([U.1]:List Int),(I.2.1,U.2))
 else none
 else
 (bif (decide ((J.1:Int)=1)) then
 (QfZ J.2).bind fun y27=>
 some (I.2.2.1,((I.2.1.1,(I.2.1.2.1,(y27.1,I.2.1.2.2.2))),y27.2))
 else
 (bif (decide ((J.1:Int)=2)) then
 bif (decide (0<=9)&&decide (9<=(LIM:Int))) then
 some (List.replicate (Int.toNat 9) 0)
 else none
 else
 some I.2.2.1:Option (List Int)).bind fun j28=>
 some (j28,(I.2.1,J.2)):Option (List Int×(Int×Int×List ((Int×Int)×(Int×List Int×Int×Int)×Int×Bool)×List (Int×Int×Int))×List Int×Int)).bind fun j29=>
 some (j29.1,(j29.2.1,j29.2.2)):Option (List Int×(Int×Int×List ((Int×Int)×(Int×List Int×Int×Int)×Int×Bool)×List (Int×Int×Int))×List Int×Int)).bind fun j30=>
 some (I.1,(j30.2.1,(j30.1,(I.2.2.2.1,j30.2.2))))
def Qh1:Callee:=⟨[.io s27 .z .z],[(s1,.z),(s10,.z),((.list (.int .i64)),(.o .z)),((.list (.int .i64)),(.o .z))],fun t=>Qe6 t.1,false⟩
def Qt6:Ctx:=⟨tys,[(17,Qav),(38,Qg7),(39,Zs),(40,Qjz)],[],[],[(4,⟨[(.normal,⟨[(2,.keep),(3,.keep),(6,.keep),(7,.keep),(8,.st (.list (.int .i64)) (.o .z) false),(9,.keep)],[(2,.keep),(3,.keep),(6,.keep),(7,.st s10 .z false),(39,.st s27 .z false)]⟩)]⟩),
 (6,⟨[(.normal,⟨[(2,.keep),(3,.keep),(6,.keep),(7,.keep),(8,.st (.list (.int .i64)) (.o .z) false),(9,.keep)],[(2,.keep),(3,.keep),(6,.keep),(7,.st s10 .z false),(39,.st s27 .z false)]⟩)]⟩),
 (8,⟨[(.normal,⟨[(2,.keep),(3,.keep),(6,.keep),(7,.keep),(8,.st (.list (.int .i64)) (.o .z) false),(9,.keep)],[(2,.keep),(3,.keep),(6,.keep),(7,.keep),(39,.keep)]⟩)]⟩)],[],[],[]⟩
def QaL (J:List Int):Option ((List (List UInt8)×List (Int×Int))×(Int×Int×List ((Int×Int)×(Int×List Int×Int×Int)×Int×Bool)×List (Int×Int×Int))×List Int×Int):=
 (Qho J).bind fun U=>
 (Qe6 U).bind fun I=>
 (YT I.2.2.2.2 ([1,2,3,999,1000]:List Int)).bind fun y6=>
 some (I.1,(I.2.1,(I.2.2.1,y6.1)))
def Qc6:Callee:=⟨[.v (.list (.int .u8)) .z],[(s1,.z),(s10,.z),((.list (.int .i64)),.z),((.int .i64),.z)],fun t=>QaL t.1,false⟩
def Qm8:Ctx:=⟨tys,[(16,Qh1),(17,Qav)],[],[],[],[],[],[(15,QkV)]⟩
def QO (I:Int) (x1:Int) (x2:Int):Option (Bool):=
 (bif (decide ((x1:Int)<=I)) then
 some (decide ((I:Int)<=x2))
 else
 some false:Option (Bool)).bind fun J=>
 some J
def Zg:Callee:=⟨[.v (.int .i64) .z,.v (.int .i64) .z,.v (.int .i64) .z],[(.bool,.z)],fun t=>QO t.1 t.2.1 t.2.2.1,true⟩
def QvC:Ctx:=⟨tys,[],[],[],[],[(1,⟨[(6,.st .bool .z false)],[]⟩)],[],[]⟩
def QdC (I:List UInt8):Option (Bool):=
 (QO (List.length I:Int) 1 300).bind fun J=>
 some J
def Qgd:Callee:=⟨[.v .str .z],[(.bool,.z)],fun t=>QdC t.1,true⟩
def QuU:Ctx:=⟨tys,[(50,Zg)],[],[],[],[],[],[]⟩
def Jb (I:Int):Option (Bool):=
 (QO I 1 999).bind fun J=>
 some J
def J2:Callee:=⟨[.v (.int .i64) .z],[(.bool,.z)],fun t=>Jb t.1,true⟩
def Qw2:Ctx:=⟨tys,[(50,Zg)],[],[],[],[],[],[]⟩
def QL (I:List (List UInt8)) (x1:List UInt8):Option (Int):=
 (Qd (S:=Int) (X:=(Unit)⊕(Int)) (fun s5=>
 bif (decide ((s5:Int)<(List.length I:Int))) then
 bif (inB s5 I) then
 bif (decide ((x1:List UInt8)=List.getD I (Int.toNat s5) [])) then
 some (Sum.inr (Sum.inr s5))
 else
 some (Sum.inl (IntKind.wrap .i64 (s5+1)))
 else none
 else
 some (Sum.inr (Sum.inl ()))) 0).bind fun J=>
 Sum.elim (fun (j7:Unit)=>
 some (-1)) (fun (U:Int)=>
 some U) J
def ZF:Callee:=⟨[.v (.list .str) .z,.v .str .z],[((.int .i64),.z)],fun t=>QL t.1 t.2.1,true⟩
def QhQ:Ctx:=⟨tys,[],[],[(2,(⟨[(0,.keep),(1,.keep),(7,.keep),(8,.st (.int .i64) .z false)],[]⟩,⟨[((.exit 0),⟨[],[]⟩),(.ret,⟨[(4,.st (.int .i64) .z false)],[]⟩)]⟩))],[],[],[],[]⟩
def ZV (I:List (List UInt8)) (x1:List UInt8):Option (Bool):=
 (QL I x1).bind fun J=>
 some (decide ((0:Int)<=J))
def YW:Callee:=⟨[.v (.list .str) .z,.v .str .z],[(.bool,.z)],fun t=>ZV t.1 t.2.1,true⟩
def Qgz:Ctx:=⟨tys,[(63,ZF)],[],[],[],[],[],[]⟩
def YB (I:List (Int×Int)) (x1:Int×Int):Option (Int):=
 (Qd (S:=Int) (X:=(Unit)⊕(Int)) (fun s5=>
 bif (decide ((s5:Int)<(List.length I:Int))) then
 bif (inB s5 I) then
 bif (Sh.beq (.prod (.int .i64) (.int .i64)) x1 (List.getD I (Int.toNat s5) (0,0))) then
 some (Sum.inr (Sum.inr s5))
 else
 some (Sum.inl (IntKind.wrap .i64 (s5+1)))
 else none
 else
 some (Sum.inr (Sum.inl ()))) 0).bind fun J=>
 Sum.elim (fun (j7:Unit)=>
 some (-1)) (fun (U:Int)=>
 some U) J
def Yx:Callee:=⟨[.v (.list s0) .z,.v s0 .z],[((.int .i64),.z)],fun t=>YB t.1 t.2.1,true⟩
def Qfs:Ctx:=⟨tys,[],[],[(2,(⟨[(0,.keep),(3,.keep),(7,.keep),(8,.st (.int .i64) .z false)],[(3,.keep)]⟩,⟨[((.exit 0),⟨[],[]⟩),(.ret,⟨[(4,.st (.int .i64) .z false)],[]⟩)]⟩))],[],[],[],[]⟩
def Q0 (I:List (Int×Int)) (x1:Int×Int):Option (Bool):=
 (YB I x1).bind fun J=>
 some (decide ((0:Int)<=J))
def Zm:Callee:=⟨[.v (.list s0) .z,.v s0 .z],[(.bool,.z)],fun t=>Q0 t.1 t.2.1,true⟩
def QdV:Ctx:=⟨tys,[(106,Yx)],[],[],[],[],[],[]⟩
def Yp (J:List (List UInt8)×List (Int×Int)):Option (Int):=
 (bif (decide ((60:Int)<(List.length J.1:Int))) then
 some true
 else
 some (decide ((120:Int)<(List.length J.2:Int))):Option (Bool)).bind fun j34=>
 bif j34 then
 some 2
 else
 (Qd (S:=Int) (X:=(Unit)⊕(Int)) (fun U=>
 bif (decide ((U:Int)<(List.length J.1:Int))) then
 bif (inB U J.1) then
 (QdC (List.getD J.1 (Int.toNat U) [])).bind fun y40=>
 bif (!y40) then
 some (Sum.inr (Sum.inr 2))
 else
 bif (QC 0 U J.1) then
 (ZV (cut 0 U J.1) (List.getD J.1 (Int.toNat U) [])).bind fun y41=>
 bif y41 then
 some (Sum.inr (Sum.inr 7))
 else
 some (Sum.inl (IntKind.wrap .i64 (U+1)))
 else none
 else none
 else
 some (Sum.inr (Sum.inl ()))) 0).bind fun j42=>
 Sum.elim (fun (j43:Unit)=>
 (Qd (S:=Int) (X:=(Unit)⊕(Int)) (fun I=>
 bif (decide ((I:Int)<(List.length J.2:Int))) then
 bif (inB I J.2) then
 ((Jb (List.getD J.2 (Int.toNat I) (0,0)).1).bind fun y60=>
 bif (!y60) then
 some true
 else
 (QO (List.getD J.2 (Int.toNat I) (0,0)).2 1 (List.length J.1:Int)).bind fun y61=>
 some (!y61):Option (Bool)).bind fun j62=>
 bif j62 then
 some (Sum.inr (Sum.inr 3))
 else
 bif (QC 0 I J.2) then
 (Q0 (cut 0 I J.2) (List.getD J.2 (Int.toNat I) (0,0))).bind fun y63=>
 bif y63 then
 some (Sum.inr (Sum.inr 7))
 else
 some (Sum.inl (IntKind.wrap .i64 (I+1)))
 else none
 else none
 else
 some (Sum.inr (Sum.inl ()))) 0).bind fun j64=>
 Sum.elim (fun (j65:Unit)=>
 some 0) (fun (j66:Int)=>
 some j66) j64) (fun (j44:Int)=>
 some j44) j42
def Y3:Callee:=⟨[.v s1 .z],[((.int .i64),.z)],fun t=>Yp t.1,true⟩
def Qn0:Ctx:=⟨tys,[(31,Qgd),(43,J2),(50,Zg),(56,YW),(57,Zm)],[],[(4,(⟨[(1,.keep),(18,.keep),(19,.keep),(20,.st (.int .i64) .z false)],[(1,.keep)]⟩,⟨[((.exit 0),⟨[(1,.keep)],[(1,.keep)]⟩),(.ret,⟨[(2,.st (.int .i64) .z false)],[]⟩)]⟩)),
 (12,(⟨[(1,.keep),(36,.keep),(37,.keep),(38,.st (.int .i64) .z false)],[(1,.keep)]⟩,⟨[((.exit 2),⟨[],[]⟩),(.ret,⟨[(2,.st (.int .i64) .z false)],[]⟩)]⟩))],[],[(1,⟨[(1,.keep),(16,.st .bool .z false)],[(1,.keep)]⟩),
 (14,⟨[(1,.keep),(5,.keep),(6,.keep),(36,.keep),(37,.keep),(38,.keep),(55,.st .bool .z false)],[(1,.keep),(6,.keep)]⟩)],[],[]⟩
def QbS (I:Int):Option (Bool):=
 (QO I 1 60).bind fun J=>
 some J
def QdK:Callee:=⟨[.v (.int .i64) .z],[(.bool,.z)],fun t=>QbS t.1,true⟩
def Qzt:Ctx:=⟨tys,[(50,Zg)],[],[],[],[],[],[]⟩
def Qbe (J:Int×Int):Option (Bool):=
 ((QbS J.1).bind fun U=>
 bif U then
 (QO J.2 0 3).bind fun y9=>
 some y9
 else
 some false:Option (Bool)).bind fun I=>
 some I
def Qew:Callee:=⟨[.v s0 .z],[(.bool,.z)],fun t=>Qbe t.1,true⟩
def Qyk:Ctx:=⟨tys,[(50,Zg),(60,QdK)],[],[],[],[(1,⟨[(2,.st .bool .z false)],[]⟩)],[],[]⟩
def YJ (I:Int):Option (Bool):=
 (QO I 0 999).bind fun J=>
 some J
def Qah:Callee:=⟨[.v (.int .i64) .z],[(.bool,.z)],fun t=>YJ t.1,true⟩
def QqJ:Ctx:=⟨tys,[(50,Zg)],[],[],[],[],[],[]⟩
def Z6 (I:List Int) (x1:Int->Option Bool):Option (Int):=
 (Qd (S:=Int) (X:=(Unit)⊕(Int)) (fun s10=>
 bif (decide ((s10:Int)<(List.length I:Int))) then
 bif (inB s10 I) then
 (x1 (List.getD I (Int.toNat s10) 0)).bind fun J=>
 bif J then
 some (Sum.inr (Sum.inr s10))
 else
 some (Sum.inl (IntKind.wrap .i64 (s10+1)))
 else none
 else
 some (Sum.inr (Sum.inl ()))) 0).bind fun U=>
 Sum.elim (fun (j13:Unit)=>
 some (-1)) (fun (j14:Int)=>
 some j14) U
def Y7:Callee:=⟨[.v (.list (.int .i64)) .z,.v (.fn1 (.int .i64) .bool .z) .z],[((.int .i64),.z)],fun t=>Z6 t.1 t.2.1,true⟩
def QgX:Ctx:=⟨tys,[],[],[(2,(⟨[(0,.keep),(1,.keep),(7,.keep),(8,.st (.int .i64) .z false)],[]⟩,⟨[((.exit 0),⟨[],[]⟩),(.ret,⟨[(4,.st (.int .i64) .z false)],[]⟩)]⟩))],[],[],[],[]⟩
def ZH (I:List Int) (x1:Int->Option Bool):Option (Bool):=
 (Z6 I x1).bind fun J=>
 some (decide ((0:Int)<=J))
def YG:Callee:=⟨[.v (.list (.int .i64)) .z,.v (.fn1 (.int .i64) .bool .z) .z],[(.bool,.z)],fun t=>ZH t.1 t.2.1,true⟩
def Qfz:Ctx:=⟨tys,[(230,Y7)],[],[],[],[],[],[]⟩
def QfG (I:Int):Option (Bool):=
 (Jb I).bind fun J=>
 some (!J)
def Qfx:Callee:=⟨[.v (.int .i64) .z],[(.bool,.z)],fun t=>QfG t.1,true⟩
def QoZ:Ctx:=⟨tys,[(43,J2)],[],[],[],[],[],[]⟩
def QeO (I:List Int):Option (Bool):=
 (ZH I (fun (a4:Int)=>(QfG a4).bind fun J=>some J)).bind fun U=>
 some (!U)
def QiB:Callee:=⟨[.v (.list (.int .i64)) .z],[(.bool,.z)],fun t=>QeO t.1,true⟩
def Qs0:Ctx:=⟨tys,[(203,YG),(204,Qfx)],[],[],[],[],[],[]⟩
def Qd9 (I:List Int):Option (Bool):=
 (Qd (S:=Int) (X:=(Unit)⊕(Bool)) (fun s5=>
 bif (decide ((s5:Int)<(List.length I:Int))) then
 bif (inB s5 I) then
 bif (inB (IntKind.wrap .i64 (s5 - 1)) I) then
 bif (decide ((List.getD I (Int.toNat s5) 0:Int)<=List.getD I (Int.toNat (IntKind.wrap .i64 (s5 - 1))) 0)) then
 some (Sum.inr (Sum.inr false))
 else
 some (Sum.inl (IntKind.wrap .i64 (s5+1)))
 else none
 else none
 else
 some (Sum.inr (Sum.inl ()))) 1).bind fun J=>
 Sum.elim (fun (j7:Unit)=>
 some true) (fun (U:Bool)=>
 some U) J
def Qg1:Callee:=⟨[.v (.list (.int .i64)) .z],[(.bool,.z)],fun t=>Qd9 t.1,true⟩
def QqN:Ctx:=⟨tys,[],[],[(2,(⟨[(0,.keep),(3,.st (.int .i64) .z false)],[]⟩,⟨[((.exit 0),⟨[],[]⟩),(.ret,⟨[(2,.st .bool .z false)],[]⟩)]⟩))],[],[],[],[]⟩
def JQ (I:List Int×Int×Int):Option (Int):=
 (QO (List.length I.1:Int) 1 3).bind fun J=>
 bif (!J) then
 some 2
 else
 ((QeO I.1).bind fun U=>
 bif (!U) then
 some true
 else
 (QO I.2.1 1 (List.length I.1:Int)).bind fun y15=>
 bif (!y15) then
 some true
 else
 (YJ I.2.2).bind fun y16=>
 some (!y16):Option (Bool)).bind fun j17=>
 bif j17 then
 some 3
 else
 (Qd9 I.1).bind fun y18=>
 bif (!y18) then
 some 1
 else
 some 0
def Qbf:Callee:=⟨[.v s2 .z],[((.int .i64),.z)],fun t=>JQ t.1,true⟩
def Qp3:Ctx:=⟨tys,[(50,Zg),(116,Qah),(157,QiB),(158,Qg1)],[],[],[],[(4,⟨[(1,.keep),(11,.st .bool .z false)],[(1,.keep)]⟩)],[],[]⟩
def Qg8 (I:List Int):Option (Int):=
 (Qd (S:=Int) (X:=(Unit)⊕(Int)) (fun s5=>
 bif (decide ((s5:Int)<(List.length I:Int))) then
 bif (inB s5 I) then
 bif (!decide ((List.getD I (Int.toNat s5) 0:Int)=0)) then
 some (Sum.inr (Sum.inr (List.getD I (Int.toNat s5) 0)))
 else
 some (Sum.inl (IntKind.wrap .i64 (s5+1)))
 else none
 else
 some (Sum.inr (Sum.inl ()))) 0).bind fun J=>
 Sum.elim (fun (j7:Unit)=>
 some 0) (fun (U:Int)=>
 some U) J
def Qj8:Callee:=⟨[.v (.list (.int .i64)) .z],[((.int .i64),.z)],fun t=>Qg8 t.1,true⟩
def Qxt:Ctx:=⟨tys,[],[],[(3,(⟨[(3,.keep),(6,.keep),(7,.keep),(8,.st (.int .i64) .z false)],[]⟩,⟨[((.exit 0),⟨[(3,.keep)],[]⟩),(.ret,⟨[(2,.st (.int .i64) .z false)],[]⟩)]⟩))],[],[],[],[]⟩
def Qcb (I:Int):Option (Bool):=
 some (!decide ((I:Int)=I))
def QfI:Callee:=⟨[.v (.int .i64) .z],[(.bool,.z)],fun t=>Qcb t.1,true⟩
def QoY:Ctx:=⟨tys,[],[],[],[],[],[],[]⟩
def YM (I:Int) (x1:Int):Option (Int):=
 (Qcb I).bind fun U=>
 (Qcb x1).bind fun J=>
 bif U then
 bif J then
 some 0
 else
 some (-1)
 else
 bif J then
 some 1
 else
 bif (decide ((I:Int)<x1)) then
 some (-1)
 else
 bif (decide ((x1:Int)<I)) then
 some 1
 else
 some 0
def Qbk:Callee:=⟨[.v (.int .i64) .z,.v (.int .i64) .z],[((.int .i64),.z)],fun t=>YM t.1 t.2.1,true⟩
def QnL:Ctx:=⟨tys,[(214,QfI)],[],[],[],[],[],[]⟩
def Y4 (I:Int×Int) (x1:Int×Int):Option (Int):=
 (YM I.1 x1.1).bind fun J=>
 (YM I.2 x1.2).bind fun U=>
 (Qg8 ([J,U]:List Int)).bind fun y6=>
 some y6
def Qad:Callee:=⟨[.v s0 .z,.v s0 .z],[((.int .i64),.z)],fun t=>Y4 t.1 t.2.1,true⟩
def Qn6:Ctx:=⟨tys,[(167,Qj8),(168,Qbk)],[],[],[],[],[],[]⟩
def Qcc (J:List ((Int×Int)×(Int×List Int×Int×Int)×Int×Bool)):Option (Int):=
 bif (decide ((40:Int)<(List.length J:Int))) then
 some 2
 else
 (Qd (S:=Int) (X:=(Unit)⊕(Int)) (fun I=>
 bif (decide ((I:Int)<(List.length J:Int))) then
 bif (inB I J) then
 ((Qbe (List.getD J (Int.toNat I) ((0,0),((0,([],(0,0))),(0,false)))).1).bind fun y58=>
 bif (!y58) then
 some true
 else
 (YJ (List.getD J (Int.toNat I) ((0,0),((0,([],(0,0))),(0,false)))).2.2.1).bind fun y59=>
 bif (!y59) then
 some true
 else
 (QO (List.getD J (Int.toNat I) ((0,0),((0,([],(0,0))),(0,false)))).2.1.1 1 1000000).bind fun y60=>
 some (!y60):Option (Bool)).bind fun j61=>
 bif j61 then
 some (Sum.inr (Sum.inr 3))
 else
 (JQ (List.getD J (Int.toNat I) ((0,0),((0,([],(0,0))),(0,false)))).2.1.2).bind fun U=>
 bif (!decide ((U:Int)=0)) then
 some (Sum.inr (Sum.inr U))
 else
 (bif (decide ((0:Int)<I)) then
 bif (inB (IntKind.wrap .i64 (I - 1)) J) then
 (Y4 (List.getD J (Int.toNat (IntKind.wrap .i64 (I - 1))) ((0,0),((0,([],(0,0))),(0,false)))).1 (List.getD J (Int.toNat I) ((0,0),((0,([],(0,0))),(0,false)))).1).bind fun y64=>
 some (decide ((0:Int)<=y64))
 else none
 else
 some false:Option (Bool)).bind fun j65=>
 bif j65 then
 some (Sum.inr (Sum.inr 1))
 else
 some (Sum.inl (IntKind.wrap .i64 (I+1)))
 else none
 else
 some (Sum.inr (Sum.inl ()))) 0).bind fun j66=>
 Sum.elim (fun (j67:Unit)=>
 some 0) (fun (j68:Int)=>
 some j68) j66
def QfB:Callee:=⟨[.v (.list s6) .z],[((.int .i64),.z)],fun t=>Qcc t.1,true⟩
def QoT:Ctx:=⟨tys,[(50,Zg),(51,Qew),(104,Qbf),(116,Qah),(117,Qad)],[],[(4,(⟨[(0,.keep),(9,.keep),(10,.keep),(11,.st (.int .i64) .z false)],[]⟩,⟨[((.exit 0),⟨[],[]⟩),(.ret,⟨[(2,.st (.int .i64) .z false)],[]⟩)]⟩))],[],[(6,⟨[(0,.keep),(3,.keep),(4,.keep),(9,.keep),(10,.keep),(11,.keep),(32,.st .bool .z false)],[(4,.keep)]⟩),
 (11,⟨[(0,.keep),(9,.keep),(10,.keep),(11,.keep),(53,.st .bool .z false)],[(4,.keep)]⟩)],[],[]⟩
def QQ (I:List (Int×Int×Int)) (x1:(Int×Int×Int)->Option Bool):Option (Int):=
 (Qd (S:=Int) (X:=(Unit)⊕(Int)) (fun s10=>
 bif (decide ((s10:Int)<(List.length I:Int))) then
 bif (inB s10 I) then
 (x1 (List.getD I (Int.toNat s10) (0,(0,0)))).bind fun J=>
 bif J then
 some (Sum.inr (Sum.inr s10))
 else
 some (Sum.inl (IntKind.wrap .i64 (s10+1)))
 else none
 else
 some (Sum.inr (Sum.inl ()))) 0).bind fun U=>
 Sum.elim (fun (j13:Unit)=>
 some (-1)) (fun (j14:Int)=>
 some j14) U
def Za:Callee:=⟨[.v (.list s7) .z,.v (.fn1 s7 .bool .z) .z],[((.int .i64),.z)],fun t=>QQ t.1 t.2.1,true⟩
def Qb8:Ctx:=⟨tys,[],[],[(2,(⟨[(0,.keep),(1,.keep),(7,.keep),(8,.st (.int .i64) .z false)],[]⟩,⟨[((.exit 0),⟨[],[]⟩),(.ret,⟨[(4,.st (.int .i64) .z false)],[]⟩)]⟩))],[],[],[],[]⟩
def QE (I:List (Int×Int×Int)) (x1:(Int×Int×Int)->Option Bool):Option (Bool):=
 (QQ I x1).bind fun J=>
 some (decide ((0:Int)<=J))
def QZ:Callee:=⟨[.v (.list s7) .z,.v (.fn1 s7 .bool .z) .z],[(.bool,.z)],fun t=>QE t.1 t.2.1,true⟩
def Qbn:Ctx:=⟨tys,[(169,Za)],[],[],[],[],[],[]⟩
def JT (I:Int×Int×Int) (x1:Int×Int×Int):Option (Bool):=
 some (Sh.beq (.prod (.int .i64) (.int .i64)) I.2 x1.2)
def QbY:Callee:=⟨[.v s7 .z,.rp s7 false],[(.bool,.z)],fun t=>JT t.1 t.2.1,true⟩
def Qlw:Ctx:=⟨tys,[],[],[],[],[],[],[]⟩
def Qbl (J:List (Int×Int×Int)):Option (Int):=
 bif (decide ((8:Int)<(List.length J:Int))) then
 some 2
 else
 (Qd (S:=Int) (X:=(Unit)⊕(Int)) (fun I=>
 bif (decide ((I:Int)<(List.length J:Int))) then
 bif (inB I J) then
 ((Jb (List.getD J (Int.toNat I) (0,(0,0))).1).bind fun y49=>
 bif (!y49) then
 some true
 else
 (Qbe (List.getD J (Int.toNat I) (0,(0,0))).2).bind fun y50=>
 some (!y50):Option (Bool)).bind fun j51=>
 bif j51 then
 some (Sum.inr (Sum.inr 3))
 else
 (bif (decide ((0:Int)<I)) then
 bif (inB (IntKind.wrap .i64 (I - 1)) J) then
 some (decide (((List.getD J (Int.toNat I) (0,(0,0))).1:Int)<=(List.getD J (Int.toNat (IntKind.wrap .i64 (I - 1))) (0,(0,0))).1))
 else none
 else
 some false:Option (Bool)).bind fun j52=>
 bif j52 then
 some (Sum.inr (Sum.inr 1))
 else
 some (Sum.inl (IntKind.wrap .i64 (I+1)))
 else none
 else
 some (Sum.inr (Sum.inl ()))) 0).bind fun j53=>
 Sum.elim (fun (j54:Unit)=>
 (Qd (S:=Int) (X:=(Unit)⊕(Int)) (fun U=>
 bif (decide ((U:Int)<(List.length J:Int))) then
 bif (inB U J) then
 bif (QC 0 U J) then
 (QE (cut 0 U J) (fun (a63:Int×Int×Int)=>(JT a63 (List.getD J (Int.toNat U) (0,(0,0)))).bind fun r64=>some r64)).bind fun y65=>
 bif y65 then
 some (Sum.inr (Sum.inr 7))
 else
 some (Sum.inl (IntKind.wrap .i64 (U+1)))
 else none
 else none
 else
 some (Sum.inr (Sum.inl ()))) 0).bind fun j66=>
 Sum.elim (fun (j67:Unit)=>
 some 0) (fun (j68:Int)=>
 some j68) j66) (fun (j55:Int)=>
 some j55) j53
def QdR:Callee:=⟨[.v (.list s7) .z],[((.int .i64),.z)],fun t=>Qbl t.1,true⟩
def QnH:Ctx:=⟨tys,[(43,J2),(51,Qew),(118,QZ),(119,QbY)],[],[(4,(⟨[(0,.keep),(10,.keep),(11,.keep),(12,.st (.int .i64) .z false)],[]⟩,⟨[((.exit 0),⟨[(0,.keep)],[]⟩),(.ret,⟨[(2,.st (.int .i64) .z false)],[]⟩)]⟩)),
 (12,(⟨[(0,.keep),(41,.keep),(42,.keep),(43,.st (.int .i64) .z false)],[]⟩,⟨[((.exit 2),⟨[],[]⟩),(.ret,⟨[(2,.st (.int .i64) .z false)],[]⟩)]⟩))],[],[(6,⟨[(0,.keep),(3,.keep),(4,.keep),(10,.keep),(11,.keep),(12,.keep),(26,.st .bool .z false)],[(4,.keep)]⟩),
 (8,⟨[(0,.keep),(10,.keep),(11,.keep),(12,.keep),(39,.st .bool .z false)],[(4,.keep)]⟩)],[],[]⟩
def QaE (I:Int×Int×List ((Int×Int)×(Int×List Int×Int×Int)×Int×Bool)×List (Int×Int×Int)):Option (Int):=
 ((QO I.1 0 60).bind fun U=>
 bif (!U) then
 some true
 else
 (QO I.2.1 0 40).bind fun y11=>
 some (!y11):Option (Bool)).bind fun j12=>
 bif j12 then
 some 3
 else
 bif (!(Sh.beq .bool (decide ((I.1:Int)=0)) (decide ((I.2.1:Int)=0)))) then
 some 1
 else
 (Qcc I.2.2.1).bind fun J=>
 bif (!decide ((J:Int)=0)) then
 some J
 else
 (Qbl I.2.2.2).bind fun y14=>
 some y14
def Qcd:Callee:=⟨[.v s10 .z],[((.int .i64),.z)],fun t=>QaE t.1,true⟩
def Qo6:Ctx:=⟨tys,[(50,Zg),(66,QfB),(67,QdR)],[],[],[],[(1,⟨[(1,.keep),(4,.st .bool .z false)],[(1,.keep)]⟩)],[],[]⟩
def Qc5 (U:List (List UInt8)×List (Int×Int)) (x1:Int×Int×List ((Int×Int)×(Int×List Int×Int×Int)×Int×Bool)×List (Int×Int×Int)) (x2:List Int):Option (Int):=
 (Yp U).bind fun I=>
 bif (!decide ((I:Int)=0)) then
 some I
 else
 (QaE x1).bind fun J=>
 bif (!decide ((J:Int)=0)) then
 some J
 else
 bif (decide ((8:Int)<(List.length x2:Int))) then
 some 2
 else
 some 0
def Qgt:Callee:=⟨[.v s1 .z,.v s10 .z,.v (.list (.int .i64)) .z],[((.int .i64),.z)],fun t=>Qc5 t.1 t.2.1 t.2.2.1,true⟩
def QpE:Ctx:=⟨tys,[(25,Y3),(32,Qcd)],[],[],[],[],[],[]⟩
def QbJ (I:List (List UInt8)×List (Int×Int)) (x1:Int):Option (Bool):=
 (QO x1 1 (List.length I.1:Int)).bind fun J=>
 some J
def QeB:Callee:=⟨[.v s1 .z,.v (.int .i64) .z],[(.bool,.z)],fun t=>QbJ t.1 t.2.1,true⟩
def Qom:Ctx:=⟨tys,[(50,Zg)],[],[],[],[],[],[]⟩
def Jm (I:List (List UInt8)×List (Int×Int)) (x1:Int):Option (List UInt8×Int):=
 (QbJ I x1).bind fun J=>
 bif (!J) then
 some ([],3)
 else
 bif (inB (IntKind.wrap .i64 (x1 - 1)) I.1) then
 some (List.getD I.1 (Int.toNat (IntKind.wrap .i64 (x1 - 1))) [],0)
 else none
def QaP:Callee:=⟨[.v s1 .z,.v (.int .i64) .z],[(.str,.z),((.int .i64),.z)],fun t=>Jm t.1 t.2.1,true⟩
def Qm5:Ctx:=⟨tys,[(107,QeB)],[],[],[],[],[],[]⟩
def QaD (I:Int):Option (Bool):=
 (bif (decide ((I:Int)<1)) then
 some true
 else
 some (decide ((4:Int)<I)):Option (Bool)).bind fun J=>
 some J
def QfH:Callee:=⟨[.v (.int .i64) .z],[(.bool,.z)],fun t=>QaD t.1,true⟩
def Qo5:Ctx:=⟨tys,[],[],[],[],[(1,⟨[(2,.st .bool .z false)],[]⟩)],[],[]⟩
def YN (I:List (Int×Int)) (x1:Int×Int):Option (Int):=
 (Qd (S:=Int) (X:=(Unit)⊕(Int)) (fun s5=>
 bif (decide ((s5:Int)<(List.length I:Int))) then
 bif (inB s5 I) then
 bif (Sh.beq (.prod (.int .i64) (.int .i64)) x1 (List.getD I (Int.toNat s5) (0,0))) then
 some (Sum.inr (Sum.inr s5))
 else
 some (Sum.inl (IntKind.wrap .i64 (s5+1)))
 else none
 else
 some (Sum.inr (Sum.inl ()))) 0).bind fun J=>
 Sum.elim (fun (j7:Unit)=>
 some (-1)) (fun (U:Int)=>
 some U) J
def YQ:Callee:=⟨[.v (.list s0) .z,.v s0 .z],[((.int .i64),.z)],fun t=>YN t.1 t.2.1,true⟩
def QfM:Ctx:=⟨tys,[],[],[(2,(⟨[(0,.keep),(3,.keep),(7,.keep),(8,.st (.int .i64) .z false)],[(3,.keep)]⟩,⟨[((.exit 0),⟨[],[]⟩),(.ret,⟨[(4,.st (.int .i64) .z false)],[]⟩)]⟩))],[],[],[],[]⟩
def Qt (I:List (Int×Int)) (x1:Int×Int):Option (Bool):=
 (YN I x1).bind fun J=>
 some (decide ((0:Int)<=J))
def QU:Callee:=⟨[.v (.list s0) .z,.v s0 .z],[(.bool,.z)],fun t=>Qt t.1 t.2.1,true⟩
def QeC:Ctx:=⟨tys,[(103,YQ)],[],[],[],[],[],[]⟩
def Je (I:Int×List Int×Int×Int):Option (Int):=
 (QO I.1 1 1000000).bind fun J=>
 bif (!J) then
 some 3
 else
 (JQ I.2).bind fun U=>
 some U
def Qeh:Callee:=⟨[.v s3 .z],[((.int .i64),.z)],fun t=>Je t.1,true⟩
def QqY:Ctx:=⟨tys,[(50,Zg),(104,Qbf)],[],[],[],[],[],[]⟩
def QaZ (I:Int×Int×List (Int×Int)×List (Int×List Int×Int×Int)):Option (Int):=
 ((QO I.1 0 2).bind fun y31=>
 bif (!y31) then
 some true
 else
 some (!(Sh.beq .bool (decide ((I.1:Int)=0)) (decide ((I.2.1:Int)=0)))):Option (Bool)).bind fun j32=>
 bif j32 then
 some 1
 else
 (bif (!decide ((I.2.1:Int)=0)) then
 (Jb I.2.1).bind fun y34=>
 some (!y34)
 else
 some false:Option (Bool)).bind fun j35=>
 bif j35 then
 some 3
 else
 ((QaD (List.length I.2.2.1:Int)).bind fun y38=>
 bif y38 then
 some true
 else
 (QaD (List.length I.2.2.2:Int)).bind fun y39=>
 some y39:Option (Bool)).bind fun j40=>
 bif j40 then
 some 2
 else
 (Qd (S:=Int) (X:=(Unit)⊕(Int)) (fun J=>
 bif (decide ((J:Int)<(List.length I.2.2.1:Int))) then
 bif (inB J I.2.2.1) then
 (Qbe (List.getD I.2.2.1 (Int.toNat J) (0,0))).bind fun y46=>
 bif (!y46) then
 some (Sum.inr (Sum.inr 3))
 else
 bif (QC 0 J I.2.2.1) then
 (Qt (cut 0 J I.2.2.1) (List.getD I.2.2.1 (Int.toNat J) (0,0))).bind fun y47=>
 bif y47 then
 some (Sum.inr (Sum.inr 7))
 else
 some (Sum.inl (IntKind.wrap .i64 (J+1)))
 else none
 else none
 else
 some (Sum.inr (Sum.inl ()))) 0).bind fun j48=>
 Sum.elim (fun (j49:Unit)=>
 (Qd (S:=Int) (X:=(Unit)⊕(Int)) (fun U=>
 bif (decide ((U:Int)<(List.length I.2.2.2:Int))) then
 bif (inB U I.2.2.2) then
 (Je (List.getD I.2.2.2 (Int.toNat U) (0,([],(0,0))))).bind fun y54=>
 bif (!decide ((y54:Int)=0)) then
 some (Sum.inr (Sum.inr y54))
 else
 some (Sum.inl (IntKind.wrap .i64 (U+1)))
 else none
 else
 some (Sum.inr (Sum.inl ()))) 0).bind fun j55=>
 Sum.elim (fun (j56:Unit)=>
 (bif (decide ((I.1:Int)=1)) then
 bif (inB 0 I.2.2.2) then
 some (decide (((List.getD I.2.2.2 (Int.toNat 0) (0,([],(0,0)))).1:Int)<100))
 else none
 else
 some false:Option (Bool)).bind fun j58=>
 bif j58 then
 some 8
 else
 some 0) (fun (j57:Int)=>
 some j57) j55) (fun (j50:Int)=>
 some j50) j48
def QeP:Callee:=⟨[.v s17 .z],[((.int .i64),.z)],fun t=>QaZ t.1,true⟩
def QtC:Ctx:=⟨tys,[(43,J2),(49,QfH),(50,Zg),(51,Qew),(52,QU),(53,Qeh)],[],[(9,(⟨[(1,.keep),(47,.keep),(48,.keep),(49,.st (.int .i64) .z false)],[(1,.keep)]⟩,⟨[((.exit 1),⟨[(1,.keep)],[(1,.keep)]⟩),(.ret,⟨[(2,.st (.int .i64) .z false)],[]⟩)]⟩)),
 (17,(⟨[(1,.keep),(65,.keep),(66,.keep),(67,.st (.int .i64) .z false)],[(1,.keep)]⟩,⟨[((.exit 3),⟨[(1,.keep)],[(1,.keep)]⟩),(.ret,⟨[(2,.st (.int .i64) .z false)],[]⟩)]⟩))],[],[(2,⟨[(1,.keep),(3,.keep),(9,.st .bool .z false)],[(1,.keep)]⟩),
 (4,⟨[(1,.keep),(3,.keep),(23,.st .bool .z false)],[(1,.keep)]⟩),
 (6,⟨[(1,.keep),(33,.st .bool .z false)],[(1,.keep)]⟩),
 (23,⟨[(87,.st .bool .z false)],[]⟩)],[],[]⟩
def Qa9:Option (List (List UInt8)):=
 some ([[112,97,121],[106,111,105,110],[108,101,97,118,101]]:List (List UInt8))
def QcX:Callee:=⟨[],[((.list .str),(.o .z))],fun t=>Qa9,true⟩
def QqB:Ctx:=⟨tys,[],[],[],[],[],[],[]⟩
def QdU (I:Int) (x1:Int):Option (List UInt8):=
 fmtS I x1
def QhT:Callee:=⟨[.v (.int .i64) .z,.v (.int .i64) .z],[(.str,.z)],fun t=>QdU t.1 t.2.1,true⟩
def Jl (I:Int):Option (List UInt8):=
 (QdU I 10).bind fun J=>
 some J
def Qhc:Callee:=⟨[.v (.int .i64) .z],[(.str,.z)],fun t=>Jl t.1,true⟩
def QAb:Ctx:=⟨tys,[(163,QhT)],[],[],[],[],[],[]⟩
def Yu (I:List (List UInt8)) (x1:List UInt8):Option (List UInt8):=
 QkY I x1
def Qip:Callee:=⟨[.v (.list .str) .z,.v .str .z],[(.str,.z)],fun t=>Yu t.1 t.2.1,false⟩
def Qay (J:List Int) (x1:List UInt8):Option (List UInt8):=
 (Qd (S:=List (List UInt8)×Int) (X:=List (List UInt8)) (fun s9=>
 bif (decide ((s9.2:Int)<(List.length J:Int))) then
 bif (inB s9.2 J) then
 (Jl (List.getD J (Int.toNat s9.2) 0)).bind fun I=>
 bif decide (List.length s9.1+List.length ([I]:List (List UInt8))<=LIM) then
 some (Sum.inl (List.append s9.1 ([I]:List (List UInt8)),IntKind.wrap .i64 (s9.2+1)))
 else none
 else none
 else
 some (Sum.inr s9.1)) (([]:List (List UInt8)),0)).bind fun U=>
 (Yu U x1).bind fun y12=>
 some y12
def Qgh:Callee:=⟨[.v (.list (.int .i64)) .z,.v .str .z],[(.str,.z)],fun t=>Qay t.1 t.2.1,false⟩
def Qvg:Ctx:=⟨tys,[(114,Qhc),(115,Qip)],[],[(3,(⟨[(1,.keep),(5,.st (.list .str) (.o .z) false),(9,.keep),(10,.keep),(11,.st (.int .i64) .z false)],[]⟩,⟨[((.exit 0),⟨[(1,.keep),(5,.st (.list .str) (.o .z) false)],[]⟩)]⟩))],[],[],[],[]⟩
def QbN (J:List Int×Int×Int) (x1:List UInt8):Option (List UInt8):=
 (Jl J.2.1).bind fun I=>
 bif decide (List.length I+List.length x1<=LIM) then
 bif decide (List.length (List.append I x1)+List.length [111,102]<=LIM) then
 bif decide (List.length (List.append (List.append I x1) [111,102])+List.length x1<=LIM) then
 (Qay J.1 [44]).bind fun U=>
 bif decide (List.length (List.append (List.append (List.append I x1) [111,102]) x1)+List.length U<=LIM) then
 (bif (!decide ((J.2.2:Int)=0)) then
 bif decide (List.length x1+List.length [97,102,116,101,114]<=LIM) then
 bif decide (List.length (List.append x1 [97,102,116,101,114])+List.length x1<=LIM) then
 (Jl J.2.2).bind fun y9=>
 bif decide (List.length (List.append (List.append x1 [97,102,116,101,114]) x1)+List.length y9<=LIM) then
 bif decide (List.length (List.append (List.append (List.append (List.append I x1) [111,102]) x1) U)+List.length (List.append (List.append (List.append x1 [97,102,116,101,114]) x1) y9)<=LIM) then
 some (List.append (List.append (List.append (List.append (List.append I x1) [111,102]) x1) U) (List.append (List.append (List.append x1 [97,102,116,101,114]) x1) y9))
 else none
 else none
 else none
 else none
 else
 some (List.append (List.append (List.append (List.append I x1) [111,102]) x1) U):Option (List UInt8)).bind fun j10=>
 some j10
 else none
 else none
 else none
 else none
def Qeg:Callee:=⟨[.v s2 .z,.v .str .z],[(.str,.z)],fun t=>QbN t.1 t.2.1,false⟩
def QqE:Ctx:=⟨tys,[(62,Qgh),(114,Qhc)],[],[],[(3,⟨[(.normal,⟨[(5,.st .str .z false)],[]⟩)]⟩)],[],[],[]⟩
def Qdn (U:Int×Int×List (Int×Int)×List (Int×List Int×Int×Int)):Option (List UInt8×Int):=
 (Qa9).bind fun y23=>
 bif (inB U.1 y23) then
 (bif (!decide ((U.1:Int)=0)) then
 (Jl U.2.1).bind fun y25=>
 bif decide (List.length ([List.getD y23 (Int.toNat U.1) []]:List (List UInt8))+List.length ([y25]:List (List UInt8))<=LIM) then
 some (List.append ([List.getD y23 (Int.toNat U.1) []]:List (List UInt8)) ([y25]:List (List UInt8)))
 else none
 else
 some ([List.getD y23 (Int.toNat U.1) []]:List (List UInt8)):Option (List (List UInt8))).bind fun j26=>
 (Qd (S:=List (List UInt8)×Int) (X:=List (List UInt8)) (fun I=>
 bif (decide ((I.2:Int)<(List.length U.2.2.1:Int))) then
 bif (inB I.2 U.2.2.1) then
 (Jl (List.getD U.2.2.1 (Int.toNat I.2) (0,0)).1).bind fun y32=>
 bif decide (List.length y32+List.length [58]<=LIM) then
 (Jl (List.getD U.2.2.1 (Int.toNat I.2) (0,0)).2).bind fun y33=>
 bif decide (List.length (List.append y32 [58])+List.length y33<=LIM) then
 bif decide (List.length I.1+List.length ([List.append (List.append y32 [58]) y33]:List (List UInt8))<=LIM) then
 some (Sum.inl (List.append I.1 ([List.append (List.append y32 [58]) y33]:List (List UInt8)),IntKind.wrap .i64 (I.2+1)))
 else none
 else none
 else none
 else none
 else
 some (Sum.inr I.1)) (([]:List (List UInt8)),0)).bind fun j34=>
 (Yu j34 [43]).bind fun y35=>
 bif decide (List.length j26+List.length ([y35]:List (List UInt8))<=LIM) then
 (Qd (S:=List (List UInt8)×Int) (X:=List (List UInt8)) (fun J=>
 bif (decide ((J.2:Int)<(List.length U.2.2.2:Int))) then
 bif (inB J.2 U.2.2.2) then
 (Jl (List.getD U.2.2.2 (Int.toNat J.2) (0,([],(0,0)))).1).bind fun y41=>
 bif decide (List.length y41+List.length [61]<=LIM) then
 (QbN (List.getD U.2.2.2 (Int.toNat J.2) (0,([],(0,0)))).2 [95]).bind fun y42=>
 bif decide (List.length (List.append y41 [61])+List.length y42<=LIM) then
 bif decide (List.length J.1+List.length ([List.append (List.append y41 [61]) y42]:List (List UInt8))<=LIM) then
 some (Sum.inl (List.append J.1 ([List.append (List.append y41 [61]) y42]:List (List UInt8)),IntKind.wrap .i64 (J.2+1)))
 else none
 else none
 else none
 else none
 else
 some (Sum.inr J.1)) (List.append j26 ([y35]:List (List UInt8)),0)).bind fun j43=>
 (Yu j43 [32]).bind fun y44=>
 bif (decide ((300:Int)<(List.length y44:Int))) then
 some ([],2)
 else
 some (y44,0)
 else none
 else none
def Qgn:Callee:=⟨[.v s17 .z],[(.str,.z),((.int .i64),.z)],fun t=>Qdn t.1,false⟩
def Qu1:Ctx:=⟨tys,[(109,QcX),(114,Qhc),(115,Qip),(127,Qeg)],[],[(6,(⟨[(1,.keep),(4,.keep),(5,.st (.list .str) (.o .z) false),(28,.keep),(29,.keep),(30,.st (.int .i64) .z false)],[(1,.keep)]⟩,⟨[((.exit 0),⟨[(1,.keep),(4,.keep),(5,.st (.list .str) (.o .z) false)],[(1,.keep)]⟩)]⟩)),
 (12,(⟨[(4,.st (.list .str) (.o .z) false),(52,.keep),(53,.keep),(54,.st (.int .i64) .z false)],[]⟩,⟨[((.exit 2),⟨[(4,.st (.list .str) (.o .z) false)],[]⟩)]⟩))],[(3,⟨[(.normal,⟨[(1,.keep),(4,.st (.list .str) (.o .z) false)],[(1,.keep)]⟩)]⟩)],[],[],[]⟩
def YL (I:List UInt8) (x1:List UInt8):Option (List (List UInt8)):=
 QiZ I x1
def QbO:Callee:=⟨[.v .str .z,.v .str .z],[((.list .str),(.o .z))],fun t=>YL t.1 t.2.1,true⟩
def Zq (I:List UInt8):Option (Int):=
 numO I
def Qbu:Callee:=⟨[.v .str .z],[((.int .i64),.z)],fun t=>Zq t.1,false⟩
def Qdv (I:List UInt8) (x1:List UInt8):Option (List UInt8×List UInt8×Bool):=
 cutS I x1
def QjD:Callee:=⟨[.v .str .z,.v .str .z],[(.str,.z),(.str,.z),(.bool,.z)],fun t=>Qdv t.1 t.2.1,true⟩
def QaW (x0:List UInt8) (x1:List UInt8):Option (List Int):=
 (YL x0 x1).bind fun J=>
 (Qd (S:=List Int×Int) (X:=List Int) (fun s10=>
 bif (decide ((s10.2:Int)<(List.length J:Int))) then
 bif (inB s10.2 J) then
 (Zq (List.getD J (Int.toNat s10.2) [])).bind fun I=>
 bif decide (List.length s10.1+List.length ([I]:List Int)<=LIM) then
 some (Sum.inl (List.append s10.1 ([I]:List Int),IntKind.wrap .i64 (s10.2+1)))
 else none
 else none
 else
 some (Sum.inr s10.1)) (([]:List Int),0)).bind fun U=>
 some U
def Qe5:Callee:=⟨[.v .str .z,.v .str .z],[((.list (.int .i64)),(.o .z))],fun t=>QaW t.1 t.2.1,false⟩
def QtT:Ctx:=⟨tys,[(108,QbO),(110,Qbu)],[],[(3,(⟨[(5,.st (.list (.int .i64)) (.o .z) false),(11,.keep),(12,.keep),(13,.st (.int .i64) .z false)],[]⟩,⟨[((.exit 0),⟨[(5,.st (.list (.int .i64)) (.o .z) false)],[]⟩)]⟩))],[],[],[],[]⟩
def QdZ (x0:List UInt8) (x1:List UInt8):Option ((List Int×Int×Int)×Bool):=
 (YL x0 x1).bind fun I=>
 (bif (decide ((300:Int)<(List.length x0:Int))) then
 some true
 else
 bif (!decide (((List.length I:Int):Int)=3)) then
 some (!decide (((List.length I:Int):Int)=5))
 else
 some false:Option (Bool)).bind fun j14=>
 bif j14 then
 some (([],(0,0)),false)
 else
 bif (inB 0 I) then
 (Zq (List.getD I (Int.toNat 0) [])).bind fun U=>
 bif (inB 2 I) then
 (QaW (List.getD I (Int.toNat 2) []) [44]).bind fun y16=>
 (bif (decide (((List.length I:Int):Int)=5)) then
 bif (inB 4 I) then
 (Zq (List.getD I (Int.toNat 4) [])).bind fun y18=>
 some (y16,(U,y18))
 else none
 else
 some (y16,(U,0)):Option (List Int×Int×Int)).bind fun J=>
 ((JQ J).bind fun y22=>
 bif (!decide ((y22:Int)=0)) then
 some true
 else
 (QbN J x1).bind fun y23=>
 some (!decide ((y23:List UInt8)=x0)):Option (Bool)).bind fun j24=>
 bif j24 then
 some (([],(0,0)),false)
 else
 some (J,true)
 else none
 else none
def Qhs:Callee:=⟨[.v .str .z,.v .str .z],[(s2,(.p (.o .z) .z)),(.bool,.z)],fun t=>QdZ t.1 t.2.1,false⟩
def QrX:Ctx:=⟨tys,[(104,Qbf),(108,QbO),(110,Qbu),(127,Qeg),(170,Qe5)],[],[],[(6,⟨[(.normal,⟨[(0,.keep),(1,.keep),(4,.keep),(7,.keep)],[(4,.keep),(7,.st s2 (.p (.o .z) .z) false)]⟩)]⟩)],[(2,⟨[(0,.keep),(1,.keep),(4,.keep),(6,.keep),(23,.st .bool .z false)],[(4,.keep)]⟩),
 (7,⟨[(4,.keep),(7,.keep),(51,.st .bool .z false)],[(4,.keep),(7,.keep)]⟩)],[],[]⟩
def QeM (U:List UInt8):Option ((Int×List Int×Int×Int)×Bool):=
 (Qdv U [61]).bind fun I=>
 (QdZ I.2.1 [95]).bind fun J=>
 (Zq I.1).bind fun y6=>
 some ((y6,J.1),J.2)
def Qix:Callee:=⟨[.v .str .z],[(s3,(.p .z (.p (.o .z) .z))),(.bool,.z)],fun t=>QeM t.1,false⟩
def QsY:Ctx:=⟨tys,[(110,Qbu),(111,QjD),(162,Qhs)],[],[],[],[],[],[]⟩
def Qf8 (x0:List UInt8):Option ((Int×Int×List (Int×Int)×List (Int×List Int×Int×Int))×Bool):=
 (YL x0 [32]).bind fun I=>
 (Qa9).bind fun y33=>
 bif (inB 0 I) then
 (QL y33 (List.getD I (Int.toNat 0) [])).bind fun y34=>
 (bif (decide ((300:Int)<(List.length x0:Int))) then
 some true
 else
 some (decide ((y34:Int)<0)):Option (Bool)).bind fun j35=>
 bif j35 then
 some ((0,(0,([],[]))),false)
 else
 bif (QC 1 (List.length I:Int) I) then
 (bif (!decide ((y34:Int)=0)) then
 some (decide ((0:Int)<(List.length (List.take (Int.toNat ((List.length I:Int) - 1)) (List.drop (Int.toNat 1) I)):Int)))
 else
 some false:Option (Bool)).bind fun j36=>
 (bif j36 then
 bif (inB 0 (List.take (Int.toNat ((List.length I:Int) - 1)) (List.drop (Int.toNat 1) I))) then
 (Zq (List.getD (List.take (Int.toNat ((List.length I:Int) - 1)) (List.drop (Int.toNat 1) I)) (Int.toNat 0) [])).bind fun y38=>
 bif (QC 1 (List.length (List.take (Int.toNat ((List.length I:Int) - 1)) (List.drop (Int.toNat 1) I)):Int) (List.take (Int.toNat ((List.length I:Int) - 1)) (List.drop (Int.toNat 1) I))) then
 some (List.take (Int.toNat ((List.length (List.take (Int.toNat ((List.length I:Int) - 1)) (List.drop (Int.toNat 1) I)):Int) - 1)) (List.drop (Int.toNat 1) (List.take (Int.toNat ((List.length I:Int) - 1)) (List.drop (Int.toNat 1) I))),(y34,(y38,([],[]))))
 else none
 else none
 else
 some (List.take (Int.toNat ((List.length I:Int) - 1)) (List.drop (Int.toNat 1) I),(y34,(0,([],[])))):Option (List (List UInt8)×Int×Int×List (Int×Int)×List (Int×List Int×Int×Int))).bind fun J=>
 (bif (decide (((List.length J.1:Int):Int)<2)) then
 some true
 else
 some (decide ((5:Int)<(List.length J.1:Int))):Option (Bool)).bind fun j40=>
 bif j40 then
 some ((0,(0,([],[]))),false)
 else
 bif (inB 0 J.1) then
 (YL (List.getD J.1 (Int.toNat 0) []) [43]).bind fun y41=>
 (Qd (S:=Int×Int×Int×List (Int×Int)×List (Int×List Int×Int×Int)) (X:=Int×Int×List (Int×Int)×List (Int×List Int×Int×Int)) (fun U=>
 bif (decide ((U.1:Int)<(List.length y41:Int))) then
 bif (inB U.1 y41) then
 (Qdv (List.getD y41 (Int.toNat U.1) []) [58]).bind fun y49=>
 (Zq y49.1).bind fun y50=>
 (Zq y49.2.1).bind fun y51=>
 bif decide (List.length U.2.2.2.1+List.length ([(y50,y51)]:List (Int×Int))<=LIM) then
 some (Sum.inl (IntKind.wrap .i64 (U.1+1),(U.2.1,(U.2.2.1,(List.append U.2.2.2.1 ([(y50,y51)]:List (Int×Int)),U.2.2.2.2)))))
 else none
 else none
 else
 some (Sum.inr U.2)) (0,J.2)).bind fun j52=>
 bif (QC 1 (List.length J.1:Int) J.1) then
 (Qd (S:=Int×Int×Int×List (Int×Int)×List (Int×List Int×Int×Int)) (X:=(Int×Int×List (Int×Int)×List (Int×List Int×Int×Int))⊕(Bool×Int×Int×List (Int×Int)×List (Int×List Int×Int×Int))) (fun s55=>
 bif (decide ((s55.1:Int)<(List.length (List.take (Int.toNat ((List.length J.1:Int) - 1)) (List.drop (Int.toNat 1) J.1)):Int))) then
 bif (inB s55.1 (List.take (Int.toNat ((List.length J.1:Int) - 1)) (List.drop (Int.toNat 1) J.1))) then
 (QeM (List.getD (List.take (Int.toNat ((List.length J.1:Int) - 1)) (List.drop (Int.toNat 1) J.1)) (Int.toNat s55.1) [])).bind fun y56=>
 bif (!y56.2) then
 some (Sum.inr (Sum.inr (false,(0,(0,([],[]))))))
 else
 bif decide (List.length s55.2.2.2.2+List.length ([y56.1]:List (Int×List Int×Int×Int))<=LIM) then
 some (Sum.inl (IntKind.wrap .i64 (s55.1+1),(s55.2.1,(s55.2.2.1,(s55.2.2.2.1,List.append s55.2.2.2.2 ([y56.1]:List (Int×List Int×Int×Int)))))))
 else none
 else none
 else
 some (Sum.inr (Sum.inl s55.2))) (0,j52)).bind fun j57=>
 Sum.elim (fun (j58:Int×Int×List (Int×Int)×List (Int×List Int×Int×Int))=>
 (QaZ j58).bind fun y60=>
 bif (!decide ((y60:Int)=0)) then
 some ((0,(0,([],[]))),false)
 else
 (Qdn j58).bind fun y61=>
 (bif (decide ((y61.2:Int)=0)) then
 some (decide ((y61.1:List UInt8)=x0),j58)
 else
 some (false,j58):Option (Bool×Int×Int×List (Int×Int)×List (Int×List Int×Int×Int))).bind fun j62=>
 some (j62.2,j62.1)) (fun (j59:Bool×Int×Int×List (Int×Int)×List (Int×List Int×Int×Int))=>
 some (j59.2,j59.1)) j57
 else none
 else none
 else none
 else none
def Qjt:Callee:=⟨[.v .str .z],[(s17,(.p .z (.p .z (.p (.o .z) (.o (.p .z (.p (.o .z) .z))))))),(.bool,.z)],fun t=>Qf8 t.1,false⟩
def Qvy:Ctx:=⟨tys,[(23,QeP),(63,ZF),(74,Qgn),(108,QbO),(109,QcX),(110,Qbu),(111,QjD),(112,Qix)],[],[(12,(⟨[(0,.keep),(2,.keep),(4,.keep),(5,.keep),(63,.keep),(64,.keep),(65,.st (.int .i64) .z false)],[(2,.keep),(5,.st s17 (.p .z (.p .z (.p (.o .z) (.o (.p .z (.p (.o .z) .z)))))) false)]⟩,⟨[((.exit 0),⟨[(0,.keep),(2,.keep),(4,.keep),(5,.keep)],[(2,.keep),(5,.st s17 (.p .z (.p .z (.p (.o .z) (.o (.p .z (.p (.o .z) .z)))))) false)]⟩)]⟩)),
 (18,(⟨[(0,.keep),(2,.keep),(4,.keep),(5,.keep),(87,.keep),(88,.keep),(89,.st (.int .i64) .z false)],[(2,.keep),(5,.st s17 (.p .z (.p .z (.p (.o .z) (.o (.p .z (.p (.o .z) .z)))))) false)]⟩,⟨[((.exit 2),⟨[(0,.keep),(2,.keep),(5,.keep)],[(2,.keep),(5,.st s17 (.p .z (.p .z (.p (.o .z) (.o (.p .z (.p (.o .z) .z)))))) false)]⟩),(.ret,⟨[(2,.keep),(3,.st .bool .z false)],[(2,.st s17 (.p .z (.p .z (.p (.o .z) (.o (.p .z (.p (.o .z) .z)))))) false)]⟩)]⟩))],[(7,⟨[(.normal,⟨[(0,.keep),(2,.keep),(4,.st (.list .str) (.o .z) false),(5,.keep)],[(2,.keep),(5,.st s17 (.p .z (.p .z (.p (.o .z) (.o (.p .z (.p (.o .z) .z)))))) false)]⟩)]⟩)],[(3,⟨[(0,.keep),(2,.keep),(4,.keep),(5,.keep),(32,.st .bool .z false)],[(2,.keep),(5,.keep)]⟩),
 (6,⟨[(0,.keep),(2,.keep),(4,.keep),(5,.keep),(43,.st .bool .z false)],[(2,.keep),(5,.keep)]⟩),
 (9,⟨[(0,.keep),(2,.keep),(4,.keep),(5,.keep),(58,.st .bool .z false)],[(2,.keep),(5,.keep)]⟩),
 (28,⟨[(2,.keep),(3,.st .bool .z false)],[(2,.st s17 (.p .z (.p .z (.p (.o .z) (.o (.p .z (.p (.o .z) .z)))))) false)]⟩)],[],[]⟩
def Ys (U:List (List UInt8)×List (Int×Int)) (x1:Int):Option ((Int×Int×List (Int×Int)×List (Int×List Int×Int×Int))×Int):=
 (Jm U x1).bind fun I=>
 bif (!decide ((I.2:Int)=0)) then
 some ((0,(0,([],[]))),I.2)
 else
 (Qf8 I.1).bind fun J=>
 bif (!J.2) then
 some ((0,(0,([],[]))),5)
 else
 some (J.1,0)
def YY:Callee:=⟨[.v s1 .z,.v (.int .i64) .z],[(s17,(.p .z (.p .z (.p (.o .z) (.o (.p .z (.p (.o .z) .z))))))),((.int .i64),.z)],fun t=>Ys t.1 t.2.1,false⟩
def Qn3:Ctx:=⟨tys,[(58,QaP),(59,Qjt)],[],[],[],[],[],[]⟩
def Jd (U:List (List UInt8)×List (Int×Int)) (x1:List Int):Option (List (Int×Int×List (Int×Int)×List (Int×List Int×Int×Int))):=
 (Qd (S:=List (Int×Int×List (Int×Int)×List (Int×List Int×Int×Int))×Int) (X:=List (Int×Int×List (Int×Int)×List (Int×List Int×Int×Int))) (fun s8=>
 bif (decide ((s8.2:Int)<(List.length x1:Int))) then
 bif (inB s8.2 x1) then
 (Ys U (List.getD x1 (Int.toNat s8.2) 0)).bind fun J=>
 bif decide (List.length s8.1+List.length ([J.1]:List (Int×Int×List (Int×Int)×List (Int×List Int×Int×Int)))<=LIM) then
 some (Sum.inl (List.append s8.1 ([J.1]:List (Int×Int×List (Int×Int)×List (Int×List Int×Int×Int))),IntKind.wrap .i64 (s8.2+1)))
 else none
 else none
 else
 some (Sum.inr s8.1)) (([]:List (Int×Int×List (Int×Int)×List (Int×List Int×Int×Int))),0)).bind fun I=>
 some I
def QaJ:Callee:=⟨[.v s1 .z,.v (.list (.int .i64)) .z],[((.list s17),(.o (.p .z (.p .z (.p (.o .z) (.o (.p .z (.p (.o .z) .z))))))))],fun t=>Jd t.1 t.2.1,false⟩
def QmF:Ctx:=⟨tys,[(26,YY)],[],[(3,(⟨[(2,.keep),(5,.st (.list s17) (.o (.p .z (.p .z (.p (.o .z) (.o (.p .z (.p (.o .z) .z))))))) false),(11,.keep),(12,.keep),(13,.st (.int .i64) .z false)],[(2,.keep)]⟩,⟨[((.exit 0),⟨[(5,.st (.list s17) (.o (.p .z (.p .z (.p (.o .z) (.o (.p .z (.p (.o .z) .z))))))) false)],[]⟩)]⟩))],[],[],[],[]⟩
def JZ (I:List (List UInt8)×List (Int×Int)) (x1:List UInt8):Option (Int):=
 (QL I.1 x1).bind fun J=>
 some (IntKind.wrap .i64 (J+1))
def Qby:Callee:=⟨[.v s1 .z,.v .str .z],[((.int .i64),.z)],fun t=>JZ t.1 t.2.1,true⟩
def QnV:Ctx:=⟨tys,[(63,ZF)],[],[],[],[],[],[]⟩
def ZR (I:List Int):Option (List Int):=
 bif List.isEmpty I then
 agree (some ([]:List Int)) (bif decide (List.length ([]:List Int)+List.length I<=LIM) then
 some (List.append ([]:List Int) I)
 else none)
 else
 bif decide (List.length ([]:List Int)+List.length I<=LIM) then
 some (List.append ([]:List Int) I)
 else none
def YH:Callee:=⟨[.v (.list (.int .i64)) .z],[((.list (.int .i64)),(.o .z))],fun t=>ZR t.1,true⟩
def Qjg:Ctx:=⟨tys,[],[],[],[],[],[],[]⟩
def Qiu (I:List Int×Int×Int):Option (List Int×Int×Int):=
 (ZR I.1).bind fun J=>
 some (J,I.2)
def QiE:Callee:=⟨[.v s2 .z],[(s2,(.p (.o .z) .z))],fun t=>Qiu t.1,true⟩
def QtX:Ctx:=⟨tys,[(44,YH)],[],[],[],[],[],[]⟩
def Qdo (I:Int×List Int×Int×Int):Option (Int×List Int×Int×Int):=
 (Qiu I.2).bind fun J=>
 some (I.1,J)
def Qgf:Callee:=⟨[.v s3 .z],[(s3,(.p .z (.p (.o .z) .z)))],fun t=>Qdo t.1,true⟩
def Qvo:Ctx:=⟨tys,[(179,QiE)],[],[],[],[],[],[]⟩
def Jf (I:List ((Int×Int)×(Int×List Int×Int×Int)×Int×Bool)):Option (List ((Int×Int)×(Int×List Int×Int×Int)×Int×Bool)):=
 (Qd (S:=List ((Int×Int)×(Int×List Int×Int×Int)×Int×Bool)×Int) (X:=List ((Int×Int)×(Int×List Int×Int×Int)×Int×Bool)) (fun s8=>
 bif (decide ((s8.2:Int)<(List.length I:Int))) then
 bif (inB s8.2 I) then
 (Qdo (List.getD I (Int.toNat s8.2) ((0,0),((0,([],(0,0))),(0,false)))).2.1).bind fun U=>
 bif decide (List.length s8.1+List.length ([((List.getD I (Int.toNat s8.2) ((0,0),((0,([],(0,0))),(0,false)))).1,(U,(List.getD I (Int.toNat s8.2) ((0,0),((0,([],(0,0))),(0,false)))).2.2))]:List ((Int×Int)×(Int×List Int×Int×Int)×Int×Bool))<=LIM) then
 some (Sum.inl (List.append s8.1 ([((List.getD I (Int.toNat s8.2) ((0,0),((0,([],(0,0))),(0,false)))).1,(U,(List.getD I (Int.toNat s8.2) ((0,0),((0,([],(0,0))),(0,false)))).2.2))]:List ((Int×Int)×(Int×List Int×Int×Int)×Int×Bool)),IntKind.wrap .i64 (s8.2+1)))
 else none
 else none
 else
 some (Sum.inr s8.1)) (([]:List ((Int×Int)×(Int×List Int×Int×Int)×Int×Bool)),0)).bind fun J=>
 some J
def Qam:Callee:=⟨[.v (.list s6) .z],[((.list s6),(.o (.p .z (.p (.p .z (.p (.o .z) .z)) .z))))],fun t=>Jf t.1,true⟩
def Qq4:Ctx:=⟨tys,[(125,Qgf)],[],[(3,(⟨[(3,.st (.list s6) (.o (.p .z (.p (.p .z (.p (.o .z) .z)) .z))) false),(7,.keep),(8,.keep),(9,.st (.int .i64) .z false)],[]⟩,⟨[((.exit 0),⟨[(3,.st (.list s6) (.o (.p .z (.p (.p .z (.p (.o .z) .z)) .z))) false)],[]⟩)]⟩))],[],[],[],[]⟩
def Z8 (I:List ((Int×Int)×(Int×List Int×Int×Int)×Int×Bool)) (x1:((Int×Int)×(Int×List Int×Int×Int)×Int×Bool)->((Int×Int)×(Int×List Int×Int×Int)×Int×Bool)->Option Int):Option (List ((Int×Int)×(Int×List Int×Int×Int)×Int×Bool)):=
 Qle I x1
def JE:Callee:=⟨[.mu (.list s6) (.o (.p .z (.p (.p .z (.p (.o .z) .z)) .z))) (.o (.p .z (.p (.p .z (.p (.o .z) .z)) .z))),.v (.fn2 s6 s6 (.int .i64)) .z],[],fun t=>Z8 t.1 t.2.1,true⟩
def YX (I:(Int×Int)×(Int×List Int×Int×Int)×Int×Bool) (x1:(Int×Int)×(Int×List Int×Int×Int)×Int×Bool):Option (Int):=
 (Y4 I.1 x1.1).bind fun J=>
 some J
def Qgp:Callee:=⟨[.v s6 .z,.v s6 .z],[((.int .i64),.z)],fun t=>YX t.1 t.2.1,true⟩
def QpT:Ctx:=⟨tys,[(117,Qad)],[],[],[],[],[],[]⟩
def QdB (I:List ((Int×Int)×(Int×List Int×Int×Int)×Int×Bool)):Option (List ((Int×Int)×(Int×List Int×Int×Int)×Int×Bool)):=
 (Z8 I (fun (a5:(Int×Int)×(Int×List Int×Int×Int)×Int×Bool) (J:(Int×Int)×(Int×List Int×Int×Int)×Int×Bool)=>(YX a5 J).bind fun U=>some U)).bind fun y8=>
 some y8
def Qgc:Callee:=⟨[.v (.list s6) (.o (.p .z (.p (.p .z (.p (.o .z) .z)) .z)))],[((.list s6),(.o (.p .z (.p (.p .z (.p (.o .z) .z)) .z))))],fun t=>QdB t.1,true⟩
def Qvc:Ctx:=⟨tys,[(180,JE),(181,Qgp)],[],[],[],[],[],[]⟩
def Q7 (J:List ((Int×Int)×(Int×List Int×Int×Int)×Int×Bool)) (x1:Int×Int) (x2:((Int×Int)×(Int×List Int×Int×Int)×Int×Bool)->(Int×Int)->Option Int):Option (Int×Bool):=
 (Qd (S:=Int×Int) (X:=Int) (fun s16=>
 bif (decide ((s16.1:Int)<s16.2)) then
 bif (inB (IntKind.wrap .i64 (Int.fdiv (IntKind.wrap .u64 (IntKind.wrap .i64 (s16.1+s16.2))) (2 ^ 1))) J) then
 (x2 (List.getD J (Int.toNat (IntKind.wrap .i64 (Int.fdiv (IntKind.wrap .u64 (IntKind.wrap .i64 (s16.1+s16.2))) (2 ^ 1)))) ((0,0),((0,([],(0,0))),(0,false)))) x1).bind fun y17=>
 (bif (decide ((y17:Int)<0)) then
 some (IntKind.wrap .i64 ((IntKind.wrap .i64 (Int.fdiv (IntKind.wrap .u64 (IntKind.wrap .i64 (s16.1+s16.2))) (2 ^ 1)))+1),s16.2)
 else
 some (s16.1,IntKind.wrap .i64 (Int.fdiv (IntKind.wrap .u64 (IntKind.wrap .i64 (s16.1+s16.2))) (2 ^ 1))):Option (Int×Int)).bind fun U=>
 some (Sum.inl (U.1,U.2))
 else none
 else
 some (Sum.inr s16.1)) (0,(List.length J:Int))).bind fun I=>
 (bif (decide ((I:Int)<(List.length J:Int))) then
 bif (inB I J) then
 (x2 (List.getD J (Int.toNat I) ((0,0),((0,([],(0,0))),(0,false)))) x1).bind fun y21=>
 some (I,decide ((y21:Int)=0))
 else none
 else
 some (I,false):Option (Int×Bool)).bind fun j22=>
 some (j22.1,j22.2)
def Q5:Callee:=⟨[.v (.list s6) .z,.v s0 .z,.v (.fn2 s6 s0 (.int .i64)) .z],[((.int .i64),.z),(.bool,.z)],fun t=>Q7 t.1 t.2.1 t.2.2.1,true⟩
def JU:Ctx:=⟨tys,[],[],[(3,(⟨[(0,.keep),(2,.keep),(4,.keep),(8,.keep),(9,.st (.int .i64) .z false),(10,.st (.int .i64) .z false)],[(4,.keep)]⟩,⟨[((.exit 0),⟨[(0,.keep),(2,.keep),(4,.keep),(8,.keep),(9,.st (.int .i64) .z false)],[(4,.keep)]⟩)]⟩))],[(6,⟨[(.normal,⟨[(0,.keep),(2,.keep),(4,.keep),(8,.keep),(9,.st (.int .i64) .z false),(10,.st (.int .i64) .z false)],[(4,.keep)]⟩)]⟩)],[(8,⟨[(6,.st (.int .i64) .z false),(7,.st .bool .z false)],[]⟩)],[],[]⟩
def QbB (I:(Int×Int)×(Int×List Int×Int×Int)×Int×Bool) (x1:Int×Int):Option (Int):=
 (Y4 I.1 x1).bind fun J=>
 some J
def Qer:Callee:=⟨[.v s6 .z,.v s0 .z],[((.int .i64),.z)],fun t=>QbB t.1 t.2.1,true⟩
def QnQ:Ctx:=⟨tys,[(117,Qad)],[],[],[],[],[],[]⟩
def Qaj (J:List ((Int×Int)×(Int×List Int×Int×Int)×Int×Bool)) (x1:Int×Int):Option (Int×Bool):=
 (Q7 J x1 (fun (a5:(Int×Int)×(Int×List Int×Int×Int)×Int×Bool) (U:Int×Int)=>(QbB a5 U).bind fun r7=>some r7)).bind fun I=>
 some (I.1,I.2)
def Qeb:Callee:=⟨[.v (.list s6) .z,.v s0 .z],[((.int .i64),.z),(.bool,.z)],fun t=>Qaj t.1 t.2.1,true⟩
def Qq3:Ctx:=⟨tys,[(182,Q5),(183,Qer)],[],[],[],[],[],[]⟩
def QaY (U:List ((Int×Int)×(Int×List Int×Int×Int)×Int×Bool)) (x1:Int×Int×List (Int×Int)×List (Int×List Int×Int×Int)):Option (List ((Int×Int)×(Int×List Int×Int×Int)×Int×Bool)×Int):=
 (Qd (S:=List ((Int×Int)×(Int×List Int×Int×Int)×Int×Bool)×Int) (X:=(List ((Int×Int)×(Int×List Int×Int×Int)×Int×Bool))⊕(List ((Int×Int)×(Int×List Int×Int×Int)×Int×Bool)×Int)) (fun s12=>
 bif (decide ((s12.2:Int)<(List.length x1.2.2.1:Int))) then
 bif (inB s12.2 x1.2.2.1) then
 (Qaj U (List.getD x1.2.2.1 (Int.toNat s12.2) (0,0))).bind fun I=>
 bif (!I.2) then
 some (Sum.inr (Sum.inr (([]:List ((Int×Int)×(Int×List Int×Int×Int)×Int×Bool)),4)))
 else
 bif (inB I.1 U) then
 bif decide (List.length s12.1+List.length ([List.getD U (Int.toNat I.1) ((0,0),((0,([],(0,0))),(0,false)))]:List ((Int×Int)×(Int×List Int×Int×Int)×Int×Bool))<=LIM) then
 some (Sum.inl (List.append s12.1 ([List.getD U (Int.toNat I.1) ((0,0),((0,([],(0,0))),(0,false)))]:List ((Int×Int)×(Int×List Int×Int×Int)×Int×Bool)),IntKind.wrap .i64 (s12.2+1)))
 else none
 else none
 else none
 else
 some (Sum.inr (Sum.inl s12.1))) (([]:List ((Int×Int)×(Int×List Int×Int×Int)×Int×Bool)),0)).bind fun j14=>
 Sum.elim (fun (j15:List ((Int×Int)×(Int×List Int×Int×Int)×Int×Bool))=>
 (Jf j15).bind fun y17=>
 (QdB y17).bind fun y18=>
 some (y18,0)) (fun (J:List ((Int×Int)×(Int×List Int×Int×Int)×Int×Bool)×Int)=>
 some (J.1,J.2)) j14
def Qcq:Callee:=⟨[.v (.list s6) .z,.v s17 .z],[((.list s6),.z),((.int .i64),.z)],fun t=>QaY t.1 t.2.1,true⟩
def Qsz:Ctx:=⟨tys,[(121,Qam),(126,Qgc),(128,Qeb)],[],[(3,(⟨[(0,.keep),(6,.st (.list s6) (.o .z) false),(13,.keep),(14,.keep),(15,.st (.int .i64) .z false)],[]⟩,⟨[((.exit 0),⟨[(6,.st (.list s6) (.o .z) false)],[]⟩),(.ret,⟨[(4,.st (.list s6) (.o (.p .z (.p (.p .z (.p (.o .z) .z)) .z))) false),(5,.st (.int .i64) .z false)],[]⟩)]⟩))],[],[],[],[]⟩
def Qgi (I:(Int×Int)×(Int×List Int×Int×Int)×Int×Bool) (x1:Int):Option (Bool):=
 ((YJ I.2.2.1).bind fun U=>
 bif U then
 (YJ x1).bind fun y9=>
 bif y9 then
 bif (!I.2.2.2) then
 some true
 else
 some (decide ((IntKind.wrap .i64 (I.2.2.1+2):Int)<=x1))
 else
 some false
 else
 some false:Option (Bool)).bind fun J=>
 some J
def QjC:Callee:=⟨[.v s6 .z,.v (.int .i64) .z],[(.bool,.z)],fun t=>Qgi t.1 t.2.1,true⟩
def QvX:Ctx:=⟨tys,[(116,Qah)],[],[],[],[(1,⟨[(4,.st .bool .z false)],[]⟩)],[],[]⟩
def Yl (I:List (List UInt8)×List (Int×Int)) (x1:Int) (x2:Int):Option (Bool):=
 (Q0 I.2 (x1,x2)).bind fun J=>
 some J
def Qal:Callee:=⟨[.v s1 .z,.v (.int .i64) .z,.v (.int .i64) .z],[(.bool,.z)],fun t=>Yl t.1 t.2.1 t.2.2.1,true⟩
def Qmj:Ctx:=⟨tys,[(57,Zm)],[],[],[],[],[],[]⟩
def Qaq (x0:List (List UInt8)×List (Int×Int)) (x1:List Int×Int×Int) (x2:Int) (x3:Int):Option (Int):=
 bif (decide ((x3:Int)<x1.2.2)) then
 some 9
 else
 (Qd (S:=Int×Int) (X:=Int) (fun s13=>
 bif (decide ((s13.2:Int)<(List.length x1.1:Int))) then
 bif (inB s13.2 x1.1) then
 (Yl x0 (List.getD x1.1 (Int.toNat s13.2) 0) x2).bind fun I=>
 (bif I then
 some (IntKind.wrap .i64 (s13.1+1))
 else
 some s13.1:Option (Int)).bind fun J=>
 some (Sum.inl (J,IntKind.wrap .i64 (s13.2+1)))
 else none
 else
 some (Sum.inr s13.1)) (0,0)).bind fun U=>
 bif (decide ((U:Int)<x1.2.1)) then
 some 6
 else
 some 0
def QcL:Callee:=⟨[.v s1 .z,.v s2 .z,.v (.int .i64) .z,.v (.int .i64) .z],[((.int .i64),.z)],fun t=>Qaq t.1 t.2.1 t.2.2.1 t.2.2.2.1,true⟩
def Qml:Ctx:=⟨tys,[(80,Qal)],[],[(5,(⟨[(2,.keep),(4,.keep),(5,.keep),(9,.st (.int .i64) .z false),(17,.keep),(18,.keep),(19,.st (.int .i64) .z false)],[(4,.keep),(5,.keep)]⟩,⟨[((.exit 0),⟨[(5,.keep),(9,.st (.int .i64) .z false)],[(5,.keep)]⟩)]⟩))],[(8,⟨[(.normal,⟨[(2,.keep),(4,.keep),(5,.keep),(9,.st (.int .i64) .z false),(17,.keep),(18,.keep),(19,.keep)],[(4,.keep),(5,.keep)]⟩)]⟩)],[],[],[]⟩
def Qhy (I:List ((Int×Int)×(Int×List Int×Int×Int)×Int×Bool)):Option (Int):=
 (Qd (S:=Int×Int) (X:=Int) (fun s3=>
 bif (decide ((s3.2:Int)<(List.length I:Int))) then
 bif (inB s3.2 I) then
 some (Sum.inl (IntKind.wrap .i64 (s3.1+(List.getD I (Int.toNat s3.2) ((0,0),((0,([],(0,0))),(0,false)))).2.1.1),IntKind.wrap .i64 (s3.2+1)))
 else none
 else
 some (Sum.inr s3.1)) (0,0)).bind fun J=>
 some J
def QkI:Callee:=⟨[.v (.list s6) .z],[((.int .i64),.z)],fun t=>Qhy t.1,true⟩
def QxT:Ctx:=⟨tys,[],[],[(3,(⟨[(3,.st (.int .i64) .z false),(6,.keep),(7,.keep),(8,.st (.int .i64) .z false)],[]⟩,⟨[((.exit 0),⟨[(3,.st (.int .i64) .z false)],[]⟩)]⟩))],[],[],[],[]⟩
def Qf9 (I:Int×Int×List (Int×Int)×List (Int×List Int×Int×Int)):Option (Int):=
 (Qd (S:=Int×Int) (X:=Int) (fun s3=>
 bif (decide ((s3.2:Int)<(List.length I.2.2.2:Int))) then
 bif (inB s3.2 I.2.2.2) then
 some (Sum.inl (IntKind.wrap .i64 (s3.1+(List.getD I.2.2.2 (Int.toNat s3.2) (0,([],(0,0)))).1),IntKind.wrap .i64 (s3.2+1)))
 else none
 else
 some (Sum.inr s3.1)) (0,0)).bind fun J=>
 some J
def QjB:Callee:=⟨[.v s17 .z],[((.int .i64),.z)],fun t=>Qf9 t.1,true⟩
def Qv2:Ctx:=⟨tys,[],[],[(3,(⟨[(3,.st (.int .i64) .z false),(7,.keep),(8,.keep),(9,.st (.int .i64) .z false)],[]⟩,⟨[((.exit 0),⟨[(3,.st (.int .i64) .z false)],[]⟩)]⟩))],[],[],[],[]⟩
def Ym (x0:List (List UInt8)×List (Int×Int)) (x1:List ((Int×Int)×(Int×List Int×Int×Int)×Int×Bool)) (x2:Int×Int×List (Int×Int)×List (Int×List Int×Int×Int)) (x3:Int):Option (Int×Int):=
 (Qdn x2).bind fun J=>
 bif (!decide ((J.2:Int)=0)) then
 some (0,J.2)
 else
 (JZ x0 J.1).bind fun U=>
 bif (decide ((U:Int)=0)) then
 some (0,4)
 else
 (QaY x1 x2).bind fun I=>
 bif (!decide ((I.2:Int)=0)) then
 some (0,I.2)
 else
 (Qd (S:=Int) (X:=(Unit)⊕(Int×Int)) (fun s26=>
 bif (decide ((s26:Int)<(List.length I.1:Int))) then
 bif (inB s26 I.1) then
 (Qgi (List.getD I.1 (Int.toNat s26) ((0,0),((0,([],(0,0))),(0,false)))) x3).bind fun y27=>
 bif (!y27) then
 some (Sum.inr (Sum.inr (0,9)))
 else
 (Qaq x0 (List.getD I.1 (Int.toNat s26) ((0,0),((0,([],(0,0))),(0,false)))).2.1.2 U x3).bind fun y28=>
 bif (!decide ((y28:Int)=0)) then
 some (Sum.inr (Sum.inr (0,y28)))
 else
 some (Sum.inl (IntKind.wrap .i64 (s26+1)))
 else none
 else
 some (Sum.inr (Sum.inl ()))) 0).bind fun j29=>
 Sum.elim (fun (j30:Unit)=>
 (Qhy I.1).bind fun y32=>
 (Qf9 x2).bind fun y33=>
 (bif (decide ((x2.1:Int)=2)) then
 (Yl x0 x2.2.1 U).bind fun y35=>
 some (!y35)
 else
 some false:Option (Bool)).bind fun j36=>
 bif j36 then
 some (0,6)
 else
 bif (decide ((IntKind.wrap .i64 (y32 - y33):Int)<0)) then
 some (0,8)
 else
 some (IntKind.wrap .i64 (y32 - y33),0)) (fun (j31:Int×Int)=>
 some (j31.1,j31.2)) j29
def Y5:Callee:=⟨[.v s1 .z,.v (.list s6) .z,.v s17 .z,.v (.int .i64) .z],[((.int .i64),.z),((.int .i64),.z)],fun t=>Ym t.1 t.2.1 t.2.2.1 t.2.2.2.1,false⟩
def Qmk:Ctx:=⟨tys,[(29,Qby),(74,Qgn),(75,Qcq),(76,QjC),(77,QcL),(78,QkI),(79,QjB),(80,Qal)],[],[(11,(⟨[(3,.keep),(4,.keep),(6,.keep),(12,.keep),(13,.keep),(40,.keep),(41,.keep),(42,.st (.int .i64) .z false)],[(4,.keep),(6,.keep)]⟩,⟨[((.exit 0),⟨[(4,.keep),(6,.keep),(12,.keep),(13,.keep)],[(4,.keep),(6,.keep)]⟩),(.ret,⟨[(8,.st (.int .i64) .z false),(9,.st (.int .i64) .z false)],[]⟩)]⟩))],[],[(20,⟨[(17,.keep),(66,.st .bool .z false)],[]⟩)],[],[]⟩
def Jy (I:Int×Int×List ((Int×Int)×(Int×List Int×Int×Int)×Int×Bool)×List (Int×Int×Int)):Option (Int):=
 some (min 40 (IntKind.wrap .i64 (I.2.1+1)))
def Jz:Callee:=⟨[.v s10 .z],[((.int .i64),.z)],fun t=>Jy t.1,true⟩
def QkM:Ctx:=⟨tys,[],[],[],[],[],[],[]⟩
def J3 (I:List Int) (x1:Int):Option (Int):=
 (Qd (S:=Int) (X:=(Unit)⊕(Int)) (fun s5=>
 bif (decide ((s5:Int)<(List.length I:Int))) then
 bif (inB s5 I) then
 bif (decide ((x1:Int)=List.getD I (Int.toNat s5) 0)) then
 some (Sum.inr (Sum.inr s5))
 else
 some (Sum.inl (IntKind.wrap .i64 (s5+1)))
 else none
 else
 some (Sum.inr (Sum.inl ()))) 0).bind fun J=>
 Sum.elim (fun (j7:Unit)=>
 some (-1)) (fun (U:Int)=>
 some U) J
def J1:Callee:=⟨[.v (.list (.int .i64)) .z,.v (.int .i64) .z],[((.int .i64),.z)],fun t=>J3 t.1 t.2.1,true⟩
def QiY:Ctx:=⟨tys,[],[],[(2,(⟨[(0,.keep),(1,.keep),(7,.keep),(8,.st (.int .i64) .z false)],[]⟩,⟨[((.exit 0),⟨[],[]⟩),(.ret,⟨[(4,.st (.int .i64) .z false)],[]⟩)]⟩))],[],[],[],[]⟩
def Zu (I:List Int) (x1:Int):Option (Bool):=
 (J3 I x1).bind fun J=>
 some (decide ((0:Int)<=J))
def Yf:Callee:=⟨[.v (.list (.int .i64)) .z,.v (.int .i64) .z],[(.bool,.z)],fun t=>Zu t.1 t.2.1,true⟩
def Qhh:Ctx:=⟨tys,[(113,J1)],[],[],[],[],[],[]⟩
def YC (I:List (Int×Int×List (Int×Int)×List (Int×List Int×Int×Int))) (x1:(Int×Int×List (Int×Int)×List (Int×List Int×Int×Int))->Option Bool):Option (Int):=
 (Qd (S:=Int) (X:=(Unit)⊕(Int)) (fun s10=>
 bif (decide ((s10:Int)<(List.length I:Int))) then
 bif (inB s10 I) then
 (x1 (List.getD I (Int.toNat s10) (0,(0,([],[]))))).bind fun J=>
 bif J then
 some (Sum.inr (Sum.inr s10))
 else
 some (Sum.inl (IntKind.wrap .i64 (s10+1)))
 else none
 else
 some (Sum.inr (Sum.inl ()))) 0).bind fun U=>
 Sum.elim (fun (j13:Unit)=>
 some (-1)) (fun (j14:Int)=>
 some j14) U
def Yw:Callee:=⟨[.v (.list s17) .z,.v (.fn1 s17 .bool .z) .z],[((.int .i64),.z)],fun t=>YC t.1 t.2.1,true⟩
def QeN:Ctx:=⟨tys,[],[],[(2,(⟨[(0,.keep),(1,.keep),(7,.keep),(8,.st (.int .i64) .z false)],[]⟩,⟨[((.exit 0),⟨[],[]⟩),(.ret,⟨[(4,.st (.int .i64) .z false)],[]⟩)]⟩))],[],[],[],[]⟩
def QH (I:List (Int×Int×List (Int×Int)×List (Int×List Int×Int×Int))) (x1:(Int×Int×List (Int×Int)×List (Int×List Int×Int×Int))->Option Bool):Option (Bool):=
 (YC I x1).bind fun J=>
 some (decide ((0:Int)<=J))
def Zn:Callee:=⟨[.v (.list s17) .z,.v (.fn1 s17 .bool .z) .z],[(.bool,.z)],fun t=>QH t.1 t.2.1,true⟩
def QdW:Ctx:=⟨tys,[(142,Yw)],[],[],[],[],[],[]⟩
def Yi (I:List (Int×Int)) (x1:(Int×Int)->Option Bool):Option (Int):=
 (Qd (S:=Int) (X:=(Unit)⊕(Int)) (fun s10=>
 bif (decide ((s10:Int)<(List.length I:Int))) then
 bif (inB s10 I) then
 (x1 (List.getD I (Int.toNat s10) (0,0))).bind fun J=>
 bif J then
 some (Sum.inr (Sum.inr s10))
 else
 some (Sum.inl (IntKind.wrap .i64 (s10+1)))
 else none
 else
 some (Sum.inr (Sum.inl ()))) 0).bind fun U=>
 Sum.elim (fun (j13:Unit)=>
 some (-1)) (fun (j14:Int)=>
 some j14) U
def Yh:Callee:=⟨[.v (.list s0) .z,.v (.fn1 s0 .bool .z) .z],[((.int .i64),.z)],fun t=>Yi t.1 t.2.1,true⟩
def Qel:Ctx:=⟨tys,[],[],[(2,(⟨[(0,.keep),(1,.keep),(7,.keep),(8,.st (.int .i64) .z false)],[]⟩,⟨[((.exit 0),⟨[],[]⟩),(.ret,⟨[(4,.st (.int .i64) .z false)],[]⟩)]⟩))],[],[],[],[]⟩
def Zi (I:List (Int×Int)) (x1:(Int×Int)->Option Bool):Option (Bool):=
 (Yi I x1).bind fun J=>
 some (decide ((0:Int)<=J))
def ZW:Callee:=⟨[.v (.list s0) .z,.v (.fn1 s0 .bool .z) .z],[(.bool,.z)],fun t=>Zi t.1 t.2.1,true⟩
def Qc7:Ctx:=⟨tys,[(105,Yh)],[],[],[],[],[],[]⟩
def QhI (I:Int×Int) (x1:Int×Int×List (Int×Int)×List (Int×List Int×Int×Int)):Option (Bool):=
 (Qt x1.2.2.1 I).bind fun J=>
 some J
def Qg0:Callee:=⟨[.v s0 .z,.rp s17 false],[(.bool,.z)],fun t=>QhI t.1 t.2.1,true⟩
def Qrj:Ctx:=⟨tys,[(52,QU)],[],[],[],[],[],[]⟩
def Qep (I:Int×Int×List (Int×Int)×List (Int×List Int×Int×Int)) (x1:Int×Int×List (Int×Int)×List (Int×List Int×Int×Int)):Option (Bool):=
 (Zi I.2.2.1 (fun (a4:Int×Int)=>(QhI a4 x1).bind fun J=>some J)).bind fun U=>
 some U
def Qhn:Callee:=⟨[.v s17 .z,.v s17 .z],[(.bool,.z)],fun t=>Qep t.1 t.2.1,true⟩
def Qw8:Ctx:=⟨tys,[(54,ZW),(55,Qg0)],[],[],[],[],[],[]⟩
def QF (I:List (Int×Int×Int)):Option (List (Int×Int×Int)):=
 bif List.isEmpty I then
 agree (some ([]:List (Int×Int×Int))) (bif decide (List.length ([]:List (Int×Int×Int))+List.length I<=LIM) then
 some (List.append ([]:List (Int×Int×Int)) I)
 else none)
 else
 bif decide (List.length ([]:List (Int×Int×Int))+List.length I<=LIM) then
 some (List.append ([]:List (Int×Int×Int)) I)
 else none
def QX:Callee:=⟨[.v (.list s7) .z],[((.list s7),(.o .z))],fun t=>QF t.1,true⟩
def Qdw:Ctx:=⟨tys,[],[],[],[],[],[],[]⟩
def Q2 (J:List (Int×Int×Int)) (x1:Int) (x2:(Int×Int×Int)->Int->Option Int):Option (Int×Bool):=
 (Qd (S:=Int×Int) (X:=Int) (fun s16=>
 bif (decide ((s16.1:Int)<s16.2)) then
 bif (inB (IntKind.wrap .i64 (Int.fdiv (IntKind.wrap .u64 (IntKind.wrap .i64 (s16.1+s16.2))) (2 ^ 1))) J) then
 (x2 (List.getD J (Int.toNat (IntKind.wrap .i64 (Int.fdiv (IntKind.wrap .u64 (IntKind.wrap .i64 (s16.1+s16.2))) (2 ^ 1)))) (0,(0,0))) x1).bind fun y17=>
 (bif (decide ((y17:Int)<0)) then
 some (IntKind.wrap .i64 ((IntKind.wrap .i64 (Int.fdiv (IntKind.wrap .u64 (IntKind.wrap .i64 (s16.1+s16.2))) (2 ^ 1)))+1),s16.2)
 else
 some (s16.1,IntKind.wrap .i64 (Int.fdiv (IntKind.wrap .u64 (IntKind.wrap .i64 (s16.1+s16.2))) (2 ^ 1))):Option (Int×Int)).bind fun U=>
 some (Sum.inl (U.1,U.2))
 else none
 else
 some (Sum.inr s16.1)) (0,(List.length J:Int))).bind fun I=>
 (bif (decide ((I:Int)<(List.length J:Int))) then
 bif (inB I J) then
 (x2 (List.getD J (Int.toNat I) (0,(0,0))) x1).bind fun y21=>
 some (I,decide ((y21:Int)=0))
 else none
 else
 some (I,false):Option (Int×Bool)).bind fun j22=>
 some (j22.1,j22.2)
def Q1:Callee:=⟨[.v (.list s7) .z,.v (.int .i64) .z,.v (.fn2 s7 (.int .i64) (.int .i64)) .z],[((.int .i64),.z),(.bool,.z)],fun t=>Q2 t.1 t.2.1 t.2.2.1,true⟩
def JI:Ctx:=⟨tys,[],[],[(3,(⟨[(0,.keep),(1,.keep),(2,.keep),(8,.keep),(9,.st (.int .i64) .z false),(10,.st (.int .i64) .z false)],[]⟩,⟨[((.exit 0),⟨[(0,.keep),(1,.keep),(2,.keep),(8,.keep),(9,.st (.int .i64) .z false)],[]⟩)]⟩))],[(6,⟨[(.normal,⟨[(0,.keep),(1,.keep),(2,.keep),(8,.keep),(9,.st (.int .i64) .z false),(10,.st (.int .i64) .z false)],[]⟩)]⟩)],[(8,⟨[(6,.st (.int .i64) .z false),(7,.st .bool .z false)],[]⟩)],[],[]⟩
def QaQ (I:Int×Int×Int) (x1:Int):Option (Int):=
 (YM I.1 x1).bind fun J=>
 some J
def QcZ:Callee:=⟨[.v s7 .z,.v (.int .i64) .z],[((.int .i64),.z)],fun t=>QaQ t.1 t.2.1,true⟩
def QmK:Ctx:=⟨tys,[(168,Qbk)],[],[],[],[],[],[]⟩
def YF (J:List (Int×Int×Int)) (x1:Int):Option (Int×Bool):=
 (Q2 J x1 (fun (a5:Int×Int×Int) (U:Int)=>(QaQ a5 U).bind fun r7=>some r7)).bind fun I=>
 some (I.1,I.2)
def Qce:Callee:=⟨[.v (.list s7) .z,.v (.int .i64) .z],[((.int .i64),.z),(.bool,.z)],fun t=>YF t.1 t.2.1,true⟩
def Qpf:Ctx:=⟨tys,[(193,Q1),(194,QcZ)],[],[],[],[],[],[]⟩
def QD (I:List (Int×Int×Int)) (x1:Int) (x2:Int):Option (List (Int×Int×Int)):=
 delS I x1 x2
def Ja:Callee:=⟨[.v (.list s7) (.o .z),.v (.int .i64) .z,.v (.int .i64) .z],[((.list s7),(.o .z))],fun t=>QD t.1 t.2.1 t.2.2.1,true⟩
def Q6 (x0:List (Int×Int×Int)) (x1:(Int×Int×Int)->Option Bool):Option (List (Int×Int×Int)):=
 (QQ x0 x1).bind fun J=>
 bif (decide ((J:Int)=(-1))) then
 some x0
 else
 (Qd (S:=List (Int×Int×Int)×Int×Int) (X:=List (Int×Int×Int)×Int) (fun s15=>
 bif (decide ((s15.2.2:Int)<(List.length s15.1:Int))) then
 bif (inB s15.2.2 s15.1) then
 (x1 (List.getD s15.1 (Int.toNat s15.2.2) (0,(0,0)))).bind fun y16=>
 (bif (!y16) then
 bif (inB s15.2.1 s15.1) then
 some (List.set s15.1 (Int.toNat s15.2.1) (List.getD s15.1 (Int.toNat s15.2.2) (0,(0,0))),IntKind.wrap .i64 (s15.2.1+1))
 else none
 else
 some (s15.1,s15.2.1):Option (List (Int×Int×Int)×Int)).bind fun U=>
 some (Sum.inl (U.1,(U.2,IntKind.wrap .i64 (s15.2.2+1))))
 else none
 else
 some (Sum.inr (s15.1,s15.2.1))) (x0,(J,IntKind.wrap .i64 (J+1)))).bind fun I=>
 bif (QC I.2 (List.length I.1:Int) I.1) then
 bif (QC 0 I.2 (clr (s:=(.prod (.int .i64) (.prod (.int .i64) (.int .i64)))) I.2 (List.length I.1:Int) I.1)) then
 some (List.take (Int.toNat (I.2 - 0)) (List.drop (Int.toNat 0) (clr (s:=(.prod (.int .i64) (.prod (.int .i64) (.int .i64)))) I.2 (List.length I.1:Int) I.1)))
 else none
 else none
def Zy:Callee:=⟨[.v (.list s7) (.o .z),.v (.fn1 s7 .bool .z) .z],[((.list s7),(.o .z))],fun t=>Q6 t.1 t.2.1,true⟩
def QbW:Ctx:=⟨tys,[(169,Za)],[],[(5,(⟨[(0,.st (.list s7) (.o .z) false),(1,.keep),(5,.st (.int .i64) .z false),(6,.st (.int .i64) .z false)],[]⟩,⟨[((.exit 0),⟨[(0,.st (.list s7) (.o .z) false),(5,.st (.int .i64) .z false)],[]⟩)]⟩))],[(9,⟨[(.normal,⟨[(0,.st (.list s7) (.o .z) false),(1,.keep),(5,.st (.int .i64) .z false),(6,.keep)],[]⟩)]⟩)],[],[],[]⟩
def ZY (I:List (Int×Int×Int)) (x1:Int) (x2:List (Int×Int×Int)):Option (List (Int×Int×Int)):=
 insS I x1 x2
def Jo:Callee:=⟨[.v (.list s7) (.o .z),.v (.int .i64) .z,.v (.list s7) (.o .z)],[((.list s7),(.o .z))],fun t=>ZY t.1 t.2.1 t.2.2.1,true⟩
def Qcp (I:Int×Int×Int) (x1:Int×Int×List (Int×Int)×List (Int×List Int×Int×Int)):Option (Bool):=
 (Qt x1.2.2.1 I.2).bind fun J=>
 some J
def Qck:Callee:=⟨[.v s7 .z,.rp s17 false],[(.bool,.z)],fun t=>Qcp t.1 t.2.1,true⟩
def QlP:Ctx:=⟨tys,[(52,QU)],[],[],[],[],[],[]⟩
def Qcn (I:Int×Int×Int) (x1:Int×Int):Option (Bool):=
 some (Sh.beq (.prod (.int .i64) (.int .i64)) I.2 x1)
def QcB:Callee:=⟨[.v s7 .z,.rp s0 false],[(.bool,.z)],fun t=>Qcn t.1 t.2.1,true⟩
def Qma:Ctx:=⟨tys,[],[],[],[],[],[],[]⟩
def J8 (x0:List (Int×Int×Int)) (x1:Int×Int×List (Int×Int)×List (Int×List Int×Int×Int)) (x2:Int):Option (List (Int×Int×Int)×Int):=
 (QbS x2).bind fun y22=>
 bif (!y22) then
 some (([]:List (Int×Int×Int)),3)
 else
 (QF x0).bind fun J=>
 (bif (decide ((x1.1:Int)=2)) then
 (YF J x1.2.1).bind fun U=>
 bif (!U.2) then
 some (Sum.inr (([]:List (Int×Int×Int)),4))
 else
 (QD J U.1 (IntKind.wrap .i64 (U.1+1))).bind fun y27=>
 some (Sum.inl y27)
 else
 some (Sum.inl J):Option ((List (Int×Int×Int))⊕(List (Int×Int×Int)×Int))).bind fun j28=>
 Sum.elim (fun (j29:List (Int×Int×Int))=>
 (Q6 j29 (fun (a31:Int×Int×Int)=>(Qcp a31 x1).bind fun r32=>some r32)).bind fun I=>
 bif (!decide ((x1.1:Int)=1)) then
 some (I,0)
 else
 (YF I x1.2.1).bind fun y34=>
 (bif y34.2 then
 some true
 else
 (QE I (fun (a38:Int×Int×Int)=>(Qcn a38 (x2,0)).bind fun r39=>some r39)).bind fun y40=>
 some y40:Option (Bool)).bind fun j41=>
 bif j41 then
 some (([]:List (Int×Int×Int)),7)
 else
 bif (decide (((List.length I:Int):Int)=8)) then
 some (([]:List (Int×Int×Int)),2)
 else
 (ZY I y34.1 ([(x1.2.1,(x2,0))]:List (Int×Int×Int))).bind fun y42=>
 some (y42,0)) (fun (j30:List (Int×Int×Int)×Int)=>
 some (j30.1,j30.2)) j28
def QbL:Callee:=⟨[.v (.list s7) .z,.v s17 .z,.v (.int .i64) .z],[((.list s7),.z),((.int .i64),.z)],fun t=>J8 t.1 t.2.1 t.2.2.1,true⟩
def QoD:Ctx:=⟨tys,[(60,QdK),(70,QX),(118,QZ),(144,Qce),(171,Ja),(172,Zy),(173,Qck),(174,QcB),(175,Jo)],[],[],[(5,⟨[(.normal,⟨[(2,.keep),(4,.keep),(8,.st (.list s7) (.o .z) false)],[(4,.keep)]⟩),(.ret,⟨[(6,.st (.list s7) (.o .z) false),(7,.st (.int .i64) .z false)],[]⟩)]⟩)],[(14,⟨[(4,.keep),(8,.keep),(11,.keep),(12,.keep),(52,.st .bool .z false)],[(4,.keep),(11,.keep)]⟩)],[],[]⟩
def J5 (I:Int×Int×List (Int×Int)×List (Int×List Int×Int×Int)):Option (Bool):=
 some (!decide ((I.1:Int)=0))
def Qab:Callee:=⟨[.v s17 .z],[(.bool,.z)],fun t=>J5 t.1,true⟩
def Qi3:Ctx:=⟨tys,[],[],[],[],[],[],[]⟩
def JY (I:Int×Int×List (Int×Int)×List (Int×List Int×Int×Int)) (x1:Int×Int):Option (Bool):=
 (Qt I.2.2.1 x1).bind fun J=>
 some J
def Qac:Callee:=⟨[.v s17 .z,.rp s0 false],[(.bool,.z)],fun t=>JY t.1 t.2.1,true⟩
def Qi5:Ctx:=⟨tys,[(52,QU)],[],[],[],[],[],[]⟩
def Y9 (J:Int×Int×List ((Int×Int)×(Int×List Int×Int×Int)×Int×Bool)×List (Int×Int×Int)) (x1:Int×Int×List (Int×Int)×List (Int×List Int×Int×Int)) (x2:Int) (x3:List (Int×Int×List (Int×Int)×List (Int×List Int×Int×Int))):Option (Int):=
 bif (decide ((x1.1:Int)=0)) then
 some 0
 else
 (J8 J.2.2.2 x1 x2).bind fun U=>
 bif (!decide ((U.2:Int)=0)) then
 some 10
 else
 (QH x3 (fun (a17:Int×Int×List (Int×Int)×List (Int×List Int×Int×Int))=>(J5 a17).bind fun r18=>some r18)).bind fun y19=>
 bif y19 then
 some 10
 else
 (bif (decide ((x1.1:Int)=2)) then
 (YF J.2.2.2 x1.2.1).bind fun I=>
 bif (inB I.1 J.2.2.2) then
 (QH x3 (fun (a25:Int×Int×List (Int×Int)×List (Int×List Int×Int×Int))=>(JY a25 (List.getD J.2.2.2 (Int.toNat I.1) (0,(0,0))).2).bind fun r26=>some r26)).bind fun y27=>
 bif y27 then
 some (Sum.inr 10)
 else
 some (Sum.inl ())
 else none
 else
 some (Sum.inl ()):Option ((Unit)⊕(Int))).bind fun j28=>
 Sum.elim (fun (j29:Unit)=>
 some 0) (fun (j30:Int)=>
 some j30) j28
def Qa6:Callee:=⟨[.v s10 .z,.v s17 .z,.v (.int .i64) .z,.v (.list s17) .z],[((.int .i64),.z)],fun t=>Y9 t.1 t.2.1 t.2.2.1 t.2.2.2.1,true⟩
def QkA:Ctx:=⟨tys,[(91,Zn),(122,QbL),(143,Qab),(144,Qce),(145,Qac)],[],[],[(9,⟨[(.normal,⟨[],[]⟩),(.ret,⟨[(8,.st (.int .i64) .z false)],[]⟩)]⟩)],[],[],[]⟩
def JH (I:Int×Int×List (Int×Int)×List (Int×List Int×Int×Int)) (x1:Int×Int×List (Int×Int)×List (Int×List Int×Int×Int)):Option (Bool):=
 (Qep I x1).bind fun J=>
 some J
def JN:Callee:=⟨[.v s17 .z,.rp s17 false],[(.bool,.z)],fun t=>JH t.1 t.2.1,true⟩
def Qh8:Ctx:=⟨tys,[(24,Qhn)],[],[],[],[],[],[]⟩
def Yc (x0:List (List UInt8)×List (Int×Int)) (x1:Int×Int×List ((Int×Int)×(Int×List Int×Int×Int)×Int×Bool)×List (Int×Int×Int)) (x2:List Int) (x3:Int):Option (Int):=
 (Ys x0 x3).bind fun I=>
 bif (!decide ((I.2:Int)=0)) then
 some I.2
 else
 (Jy x1).bind fun y16=>
 (Ym x0 x1.2.2.1 I.1 y16).bind fun J=>
 bif (!decide ((J.2:Int)=0)) then
 some J.2
 else
 (Jd x0 x2).bind fun U=>
 ((Zu x2 x3).bind fun y23=>
 bif y23 then
 some true
 else
 (QH U (fun (a24:Int×Int×List (Int×Int)×List (Int×List Int×Int×Int))=>(JH a24 I.1).bind fun r25=>some r25)).bind fun y26=>
 some y26:Option (Bool)).bind fun j27=>
 bif j27 then
 some 7
 else
 (Y9 x1 I.1 x3 U).bind fun y28=>
 some y28
def QaM:Callee:=⟨[.v s1 .z,.v s10 .z,.v (.list (.int .i64)) .z,.v (.int .i64) .z],[((.int .i64),.z)],fun t=>Yc t.1 t.2.1 t.2.2.1 t.2.2.2.1,false⟩
def QjU:Ctx:=⟨tys,[(26,YY),(34,QaJ),(35,Y5),(36,Jz),(61,Yf),(91,Zn),(92,JN),(93,Qa6)],[],[],[],[(8,⟨[(3,.keep),(5,.keep),(9,.keep),(13,.keep),(46,.st .bool .z false)],[(5,.keep),(9,.keep)]⟩)],[],[]⟩
def Qbg (x0:List (List UInt8)×List (Int×Int)) (x1:Int×Int×List ((Int×Int)×(Int×List Int×Int×Int)×Int×Bool)×List (Int×Int×Int)) (x2:List Int):Option (Int):=
 (Qc5 x0 x1 x2).bind fun y9=>
 bif (!decide ((y9:Int)=0)) then
 some y9
 else
 (Qd (S:=Int) (X:=(Unit)⊕(Int)) (fun s12=>
 bif (decide ((s12:Int)<(List.length x2:Int))) then
 bif (inB s12 x2) then
 bif (QC 0 s12 x2) then
 (Yc x0 x1 (cut 0 s12 x2) (List.getD x2 (Int.toNat s12) 0)).bind fun I=>
 bif (!decide ((I:Int)=0)) then
 some (Sum.inr (Sum.inr I))
 else
 some (Sum.inl (IntKind.wrap .i64 (s12+1)))
 else none
 else none
 else
 some (Sum.inr (Sum.inl ()))) 0).bind fun J=>
 Sum.elim (fun (j15:Unit)=>
 some 0) (fun (U:Int)=>
 some U) J
def QcV:Callee:=⟨[.v s1 .z,.v s10 .z,.v (.list (.int .i64)) .z],[((.int .i64),.z)],fun t=>Qbg t.1 t.2.1 t.2.2.1,false⟩
def QpU:Ctx:=⟨tys,[(41,Qgt),(42,QaM)],[],[(5,(⟨[(2,.keep),(3,.keep),(4,.keep),(18,.keep),(19,.keep),(20,.st (.int .i64) .z false)],[(3,.keep),(4,.keep)]⟩,⟨[((.exit 0),⟨[],[]⟩),(.ret,⟨[(6,.st (.int .i64) .z false)],[]⟩)]⟩))],[],[],[],[]⟩
def Qb5 (I:Int×Int×List ((Int×Int)×(Int×List Int×Int×Int)×Int×Bool)×List (Int×Int×Int)) (x1:List Int) (x2:Int):Option ((Int×Int×Int×List Int)×Int):=
 (Jb x2).bind fun J=>
 bif (!J) then
 some ((0,(0,(0,[]))),3)
 else
 bif (decide ((I.2.1:Int)=40)) then
 some ((0,(0,(0,[]))),2)
 else
 bif (QC 0 (min 6 (List.length x1:Int)) x1) then
 (ZR (cut 0 (min 6 (List.length x1:Int)) x1)).bind fun U=>
 some ((I.1,(IntKind.wrap .i64 (I.2.1+1),(x2,U))),0)
 else none
def Qb3:Callee:=⟨[.v s10 .z,.v (.list (.int .i64)) .z,.v (.int .i64) .z],[(s13,(.p .z (.p .z (.p .z (.o .z))))),((.int .i64),.z)],fun t=>Qb5 t.1 t.2.1 t.2.2.1,true⟩
def Qlz:Ctx:=⟨tys,[(43,J2),(44,YH)],[],[],[],[],[],[]⟩
def QcY (U:List (List UInt8)×List (Int×Int)) (x1:Int×Int×List ((Int×Int)×(Int×List Int×Int×Int)×Int×Bool)×List (Int×Int×Int)) (x2:List Int) (x3:Int):Option (Int×Int×Int×Int×List Int):=
 (Qbg U x1 x2).bind fun I=>
 bif (!decide ((I:Int)=0)) then
 some (I,(0,(0,(0,[]))))
 else
 (Qb5 x1 x2 x3).bind fun J=>
 some (J.2,J.1)
def Qgu:Callee:=⟨[.v s1 .z,.v s10 .z,.v (.list (.int .i64)) .z,.v (.int .i64) .z],[(s14,.z)],fun t=>QcY t.1 t.2.1 t.2.2.1 t.2.2.2.1,false⟩
def QpK:Ctx:=⟨tys,[(18,QcV),(19,Qb3)],[],[],[],[],[],[]⟩
def QG (x0:List (List UInt8)×List (Int×Int)) (x1:Int×Int×List ((Int×Int)×(Int×List Int×Int×Int)×Int×Bool)×List (Int×Int×Int)) (x2:List Int) (J:Int):Option (Int×Int×Int×Int×List Int):=
 (Qbq x0 x1 x2).bind fun U=>
 bif (!decide ((U.2:Int)=0)) then
 some (U.2,(0,(0,(0,[]))))
 else
 (YP J).bind fun y5=>
 bif (!y5) then
 some (3,(0,(0,(0,[]))))
 else
 bif (decide ((40:Int)<=x1.2.1)) then
 some (2,(0,(0,(0,[]))))
 else
 (Qes (List.length x2:Int) 6).bind fun I=>
 bif (QC 0 I x2) then
 bif decide (List.length ([]:List Int)+List.length (cut 0 I x2)<=LIM) then
 some (0,(x1.1,(IntKind.wrap .i64 (x1.2.1+1),(J,List.append ([]:List Int) (cut 0 I x2)))))
 else none
 else none
def Qgr:Callee:=⟨[.v s1 .z,.v s10 .z,.v (.list (.int .i64)) .z,.v (.int .i64) .z],[(s14,.z)],fun t=>QG t.1 t.2.1 t.2.2.1 t.2.2.2.1,false⟩
def Qqn:Ctx:=⟨tys,[(20,Qf0),(21,Jj),(22,QgY)],[],[],[],[],[],[]⟩
def Qe0 (x0:Int×Int×List (Int×Int)×List (Int×List Int×Int×Int)) (x1:Int×Int×List (Int×Int)×List (Int×List Int×Int×Int)):Option (Bool):=
 ((QaZ x0).bind fun I=>
 bif (decide ((I:Int)=0)) then
 (QaZ x1).bind fun J=>
 bif (decide ((J:Int)=0)) then
 (Qep x0 x1).bind fun U=>
 some U
 else
 some false
 else
 some false:Option (Bool)).bind fun j14=>
 some j14
def QhZ:Callee:=⟨[.v s17 .z,.v s17 .z],[(.bool,.z)],fun t=>Qe0 t.1 t.2.1,true⟩
def QsO:Ctx:=⟨tys,[(23,QeP),(24,Qhn)],[],[],[],[(1,⟨[(4,.st .bool .z false)],[]⟩)],[],[]⟩
def QfJ (I:List (List UInt8)×List (Int×Int)) (x1:Int):Option (Int×Int×Int×List (Int×Int)×List (Int×List Int×Int×Int)):=
 (Yp I).bind fun J=>
 bif (!decide ((J:Int)=0)) then
 some (J,(0,(0,([],[]))))
 else
 (Ys I x1).bind fun U=>
 some (U.2,U.1)
def QlF:Callee:=⟨[.v s1 .z,.v (.int .i64) .z],[(s18,(.p .z (.p .z (.p .z (.p (.o .z) (.o (.p .z (.p (.o .z) .z))))))))],fun t=>QfJ t.1 t.2.1,false⟩
def Qy3:Ctx:=⟨tys,[(25,Y3),(26,YY)],[],[],[],[],[],[]⟩
def QaG (I:Int×Int×Int×List Int):Option (Int):=
 ((QO I.1 0 60).bind fun J=>
 bif (!J) then
 some true
 else
 (QO I.2.1 1 40).bind fun U=>
 bif (!U) then
 some true
 else
 (Jb I.2.2.1).bind fun y23=>
 some (!y23):Option (Bool)).bind fun j24=>
 bif j24 then
 some 3
 else
 bif (!(Sh.beq .bool (decide ((I.1:Int)=0)) (decide ((I.2.1:Int)=1)))) then
 some 1
 else
 bif (decide ((6:Int)<(List.length I.2.2.2:Int))) then
 some 2
 else
 (Qd (S:=Int) (X:=(Unit)⊕(Int)) (fun s29=>
 bif (decide ((s29:Int)<(List.length I.2.2.2:Int))) then
 bif (inB s29 I.2.2.2) then
 (QbS (List.getD I.2.2.2 (Int.toNat s29) 0)).bind fun y30=>
 bif (!y30) then
 some (Sum.inr (Sum.inr 3))
 else
 bif (QC 0 s29 I.2.2.2) then
 (Zu (cut 0 s29 I.2.2.2) (List.getD I.2.2.2 (Int.toNat s29) 0)).bind fun y31=>
 bif y31 then
 some (Sum.inr (Sum.inr 7))
 else
 some (Sum.inl (IntKind.wrap .i64 (s29+1)))
 else none
 else none
 else
 some (Sum.inr (Sum.inl ()))) 0).bind fun j32=>
 Sum.elim (fun (j33:Unit)=>
 some 0) (fun (j34:Int)=>
 some j34) j32
def Qcg:Callee:=⟨[.v s13 .z],[((.int .i64),.z)],fun t=>QaG t.1,true⟩
def Qo1:Ctx:=⟨tys,[(43,J2),(50,Zg),(60,QdK),(61,Yf)],[],[(8,(⟨[(1,.keep),(36,.keep),(37,.keep),(38,.st (.int .i64) .z false)],[(1,.keep)]⟩,⟨[((.exit 1),⟨[],[]⟩),(.ret,⟨[(2,.st (.int .i64) .z false)],[]⟩)]⟩))],[],[(1,⟨[(1,.keep),(5,.st .bool .z false)],[(1,.keep)]⟩)],[],[]⟩
def Qa5 (I:Int×Int×Int×List Int):Option (List UInt8):=
 (bif (decide ((0:Int)<(List.length I.2.2.2:Int))) then
 (Qay I.2.2.2 [43]).bind fun y6=>
 some y6
 else
 some [45]:Option (List UInt8)).bind fun U=>
 (Qay ([I.1,I.2.1,I.2.2.1]:List Int) [32]).bind fun J=>
 bif decide (List.length [98,108,111,99,107,32]+List.length J<=LIM) then
 bif decide (List.length (List.append [98,108,111,99,107,32] J)+List.length [32]<=LIM) then
 bif decide (List.length (List.append (List.append [98,108,111,99,107,32] J) [32])+List.length U<=LIM) then
 some (List.append (List.append (List.append [98,108,111,99,107,32] J) [32]) U)
 else none
 else none
 else none
def Qc1:Callee:=⟨[.v s13 .z],[(.str,.z)],fun t=>Qa5 t.1,false⟩
def QpX:Ctx:=⟨tys,[(62,Qgh)],[],[],[(3,⟨[(.normal,⟨[(1,.keep),(3,.st .str .z false)],[(1,.keep)]⟩)]⟩)],[],[],[]⟩
def Qc2 (I:Int×Int×Int×List Int):Option (Int×List UInt8):=
 (QaG I).bind fun J=>
 bif (!decide ((J:Int)=0)) then
 some (J,[])
 else
 (Qa5 I).bind fun U=>
 some (0,U)
def Qgy:Callee:=⟨[.v s13 .z],[(s19,.z)],fun t=>Qc2 t.1,false⟩
def Qqf:Ctx:=⟨tys,[(27,Qcg),(28,Qc1)],[],[],[],[],[],[]⟩
def Yn (I:List (List UInt8)):Option (List (List UInt8)):=
 bif List.isEmpty I then
 agree (some ([]:List (List UInt8))) (bif decide (List.length ([]:List (List UInt8))+List.length I<=LIM) then
 some (List.append ([]:List (List UInt8)) I)
 else none)
 else
 bif decide (List.length ([]:List (List UInt8))+List.length I<=LIM) then
 some (List.append ([]:List (List UInt8)) I)
 else none
def Jx:Callee:=⟨[.v (.list .str) .z],[((.list .str),(.o .z))],fun t=>Yn t.1,true⟩
def QhP:Ctx:=⟨tys,[],[],[],[],[],[],[]⟩
def ZE (I:List (Int×Int)):Option (List (Int×Int)):=
 bif List.isEmpty I then
 agree (some ([]:List (Int×Int))) (bif decide (List.length ([]:List (Int×Int))+List.length I<=LIM) then
 some (List.append ([]:List (Int×Int)) I)
 else none)
 else
 bif decide (List.length ([]:List (Int×Int))+List.length I<=LIM) then
 some (List.append ([]:List (Int×Int)) I)
 else none
def Yv:Callee:=⟨[.v (.list s0) .z],[((.list s0),(.o .z))],fun t=>ZE t.1,true⟩
def Qff:Ctx:=⟨tys,[],[],[],[],[],[],[]⟩
def Qgx (I:List (List UInt8)×List (Int×Int)):Option (List (List UInt8)×List (Int×Int)):=
 (Yn I.1).bind fun J=>
 (ZE I.2).bind fun U=>
 some (J,U)
def QgI:Callee:=⟨[.v s1 .z],[(s1,(.p (.o .z) (.o .z)))],fun t=>Qgx t.1,true⟩
def Qqd:Ctx:=⟨tys,[(64,Jx),(65,Yv)],[],[],[],[],[],[]⟩
def Qea (J:List (List UInt8)×List (Int×Int)) (x1:List UInt8):Option (Int×Int×List (List UInt8)×List (Int×Int)):=
 (Yp J).bind fun U=>
 bif (!decide ((U:Int)=0)) then
 some (U,(0,([],[])))
 else
 (JZ J x1).bind fun y6=>
 (Qgx J).bind fun I=>
 (QdC x1).bind fun y8=>
 bif (!y8) then
 some (2,(0,([],[])))
 else
 bif (decide ((0:Int)<y6)) then
 some (0,(y6,I))
 else
 bif (decide (((List.length J.1:Int):Int)=60)) then
 some (2,(0,([],[])))
 else
 bif decide (List.length I.1+List.length ([x1]:List (List UInt8))<=LIM) then
 some (0,((List.length (List.append I.1 ([x1]:List (List UInt8))):Int),(List.append I.1 ([x1]:List (List UInt8)),I.2)))
 else none
def Qhe:Callee:=⟨[.v s1 .z,.v .str .z],[(s21,.z)],fun t=>Qea t.1 t.2.1,true⟩
def Qq9:Ctx:=⟨tys,[(25,Y3),(29,Qby),(30,QgI),(31,Qgd)],[],[],[],[],[],[]⟩
def Qdb (x0:List UInt8):Option ((Int×Int×Int×List Int)×Bool):=
 (YL x0 [32]).bind fun I=>
 (bif (decide ((300:Int)<(List.length x0:Int))) then
 some true
 else
 some (!decide (((List.length I:Int):Int)=5)):Option (Bool)).bind fun j15=>
 bif j15 then
 some ((0,(0,(0,[]))),false)
 else
 bif (inB 1 I) then
 (Zq (List.getD I (Int.toNat 1) [])).bind fun U=>
 bif (inB 2 I) then
 (Zq (List.getD I (Int.toNat 2) [])).bind fun y17=>
 bif (inB 3 I) then
 (Zq (List.getD I (Int.toNat 3) [])).bind fun y18=>
 bif (inB 4 I) then
 (bif (!decide ((List.getD I (Int.toNat 4) []:List UInt8)=[45])) then
 bif (inB 4 I) then
 (QaW (List.getD I (Int.toNat 4) []) [43]).bind fun y20=>
 some (U,(y17,(y18,y20)))
 else none
 else
 some (U,(y17,(y18,[]))):Option (Int×Int×Int×List Int)).bind fun J=>
 ((QaG J).bind fun y24=>
 bif (!decide ((y24:Int)=0)) then
 some true
 else
 (Qa5 J).bind fun y25=>
 some (!decide ((y25:List UInt8)=x0)):Option (Bool)).bind fun j26=>
 bif j26 then
 some ((0,(0,(0,[]))),false)
 else
 some (J,true)
 else none
 else none
 else none
 else none
def Qgv:Callee:=⟨[.v .str .z],[(s13,(.p .z (.p .z (.p .z (.o .z))))),(.bool,.z)],fun t=>Qdb t.1,false⟩
def QpF:Ctx:=⟨tys,[(27,Qcg),(28,Qc1),(108,QbO),(110,Qbu),(170,Qe5)],[],[],[(6,⟨[(.normal,⟨[(0,.keep),(2,.keep),(5,.keep)],[(2,.keep),(5,.st s13 (.p .z (.p .z (.p .z (.o .z)))) false)]⟩)]⟩)],[(2,⟨[(0,.keep),(2,.keep),(4,.keep),(15,.st .bool .z false)],[(2,.keep)]⟩),
 (7,⟨[(2,.keep),(5,.keep),(47,.st .bool .z false)],[(2,.keep),(5,.keep)]⟩)],[],[]⟩
def Qag (U:List (List UInt8)×List (Int×Int)) (x1:Int):Option ((Int×Int×Int×List Int)×Int):=
 (Jm U x1).bind fun I=>
 bif (!decide ((I.2:Int)=0)) then
 some ((0,(0,(0,[]))),I.2)
 else
 (Qdb I.1).bind fun J=>
 bif (!J.2) then
 some ((0,(0,(0,[]))),5)
 else
 some (J.1,0)
def Qcx:Callee:=⟨[.v s1 .z,.v (.int .i64) .z],[(s13,(.p .z (.p .z (.p .z (.o .z))))),((.int .i64),.z)],fun t=>Qag t.1 t.2.1,false⟩
def Qme:Ctx:=⟨tys,[(58,QaP),(120,Qgv)],[],[],[],[],[],[]⟩
def Qd5 (I:Int×Int×List ((Int×Int)×(Int×List Int×Int×Int)×Int×Bool)×List (Int×Int×Int)):Option (Int×Int×List ((Int×Int)×(Int×List Int×Int×Int)×Int×Bool)×List (Int×Int×Int)):=
 (Jf I.2.2.1).bind fun J=>
 (QF I.2.2.2).bind fun U=>
 some (I.1,(I.2.1,(J,U)))
def Qhr:Callee:=⟨[.v s10 .z],[(s10,(.p .z (.p .z (.p (.o (.p .z (.p (.p .z (.p (.o .z) .z)) .z))) (.o .z)))))],fun t=>Qd5 t.1,true⟩
def Qrq:Ctx:=⟨tys,[(70,QX),(121,Qam)],[],[],[],[],[],[]⟩
def Z5 (I:List ((Int×Int)×(Int×List Int×Int×Int)×Int×Bool)) (x1:((Int×Int)×(Int×List Int×Int×Int)×Int×Bool)->Option Bool):Option (Int):=
 (Qd (S:=Int) (X:=(Unit)⊕(Int)) (fun s10=>
 bif (decide ((s10:Int)<(List.length I:Int))) then
 bif (inB s10 I) then
 (x1 (List.getD I (Int.toNat s10) ((0,0),((0,([],(0,0))),(0,false))))).bind fun J=>
 bif J then
 some (Sum.inr (Sum.inr s10))
 else
 some (Sum.inl (IntKind.wrap .i64 (s10+1)))
 else none
 else
 some (Sum.inr (Sum.inl ()))) 0).bind fun U=>
 Sum.elim (fun (j13:Unit)=>
 some (-1)) (fun (j14:Int)=>
 some j14) U
def Z0:Callee:=⟨[.v (.list s6) .z,.v (.fn1 s6 .bool .z) .z],[((.int .i64),.z)],fun t=>Z5 t.1 t.2.1,true⟩
def QdE:Ctx:=⟨tys,[],[],[(2,(⟨[(0,.keep),(1,.keep),(7,.keep),(8,.st (.int .i64) .z false)],[]⟩,⟨[((.exit 0),⟨[],[]⟩),(.ret,⟨[(4,.st (.int .i64) .z false)],[]⟩)]⟩))],[],[],[],[]⟩
def ZM (I:List ((Int×Int)×(Int×List Int×Int×Int)×Int×Bool)) (x1:((Int×Int)×(Int×List Int×Int×Int)×Int×Bool)->Option Bool):Option (Bool):=
 (Z5 I x1).bind fun J=>
 some (decide ((0:Int)<=J))
def ZK:Callee:=⟨[.v (.list s6) .z,.v (.fn1 s6 .bool .z) .z],[(.bool,.z)],fun t=>ZM t.1 t.2.1,true⟩
def Qcz:Ctx:=⟨tys,[(218,Z0)],[],[],[],[],[],[]⟩
def Qhg (I:(Int×Int)×(Int×List Int×Int×Int)×Int×Bool) (x1:Int):Option (Bool):=
 some (decide ((I.1.1:Int)=x1))
def QhA:Callee:=⟨[.v s6 .z,.rp (.int .i64) false],[(.bool,.z)],fun t=>Qhg t.1 t.2.1,true⟩
def QrR:Ctx:=⟨tys,[],[],[],[],[],[],[]⟩
def Qeu (I:List ((Int×Int)×(Int×List Int×Int×Int)×Int×Bool)) (x1:Int):Option (Bool):=
 (ZM I (fun (a4:(Int×Int)×(Int×List Int×Int×Int)×Int×Bool)=>(Qhg a4 x1).bind fun J=>some J)).bind fun U=>
 some U
def QhD:Callee:=⟨[.v (.list s6) .z,.v (.int .i64) .z],[(.bool,.z)],fun t=>Qeu t.1 t.2.1,true⟩
def Qx4:Ctx:=⟨tys,[(177,ZK),(178,QhA)],[],[],[],[],[],[]⟩
def Qae (x0:List ((Int×Int)×(Int×List Int×Int×Int)×Int×Bool)) (x1:Int) (x2:List (Int×List Int×Int×Int)) (x3:Int) (x4:Bool):Option (List ((Int×Int)×(Int×List Int×Int×Int)×Int×Bool)×Int):=
 ((QbS x1).bind fun y23=>
 bif (!y23) then
 some true
 else
 (YJ x3).bind fun y24=>
 some (!y24):Option (Bool)).bind fun j25=>
 bif j25 then
 some (([]:List ((Int×Int)×(Int×List Int×Int×Int)×Int×Bool)),3)
 else
 bif (decide ((4:Int)<(List.length x2:Int))) then
 some (([]:List ((Int×Int)×(Int×List Int×Int×Int)×Int×Bool)),2)
 else
 (Qd (S:=Int) (X:=(Unit)⊕(List ((Int×Int)×(Int×List Int×Int×Int)×Int×Bool)×Int)) (fun s28=>
 bif (decide ((s28:Int)<(List.length x2:Int))) then
 bif (inB s28 x2) then
 (Je (List.getD x2 (Int.toNat s28) (0,([],(0,0))))).bind fun J=>
 bif (!decide ((J:Int)=0)) then
 some (Sum.inr (Sum.inr (([]:List ((Int×Int)×(Int×List Int×Int×Int)×Int×Bool)),J)))
 else
 some (Sum.inl (IntKind.wrap .i64 (s28+1)))
 else none
 else
 some (Sum.inr (Sum.inl ()))) 0).bind fun j30=>
 Sum.elim (fun (j31:Unit)=>
 (Qeu x0 x1).bind fun y33=>
 bif y33 then
 some (([]:List ((Int×Int)×(Int×List Int×Int×Int)×Int×Bool)),7)
 else
 bif (decide ((40:Int)<IntKind.wrap .i64 ((List.length x0:Int)+(List.length x2:Int)))) then
 some (([]:List ((Int×Int)×(Int×List Int×Int×Int)×Int×Bool)),2)
 else
 (Jf x0).bind fun y34=>
 (Qd (S:=List ((Int×Int)×(Int×List Int×Int×Int)×Int×Bool)×Int) (X:=List ((Int×Int)×(Int×List Int×Int×Int)×Int×Bool)) (fun I=>
 bif (decide ((I.2:Int)<(List.length x2:Int))) then
 bif (inB I.2 x2) then
 (Qdo (List.getD x2 (Int.toNat I.2) (0,([],(0,0))))).bind fun U=>
 bif decide (List.length I.1+List.length ([((x1,I.2),(U,(x3,x4)))]:List ((Int×Int)×(Int×List Int×Int×Int)×Int×Bool))<=LIM) then
 some (Sum.inl (List.append I.1 ([((x1,I.2),(U,(x3,x4)))]:List ((Int×Int)×(Int×List Int×Int×Int)×Int×Bool)),IntKind.wrap .i64 (I.2+1)))
 else none
 else none
 else
 some (Sum.inr I.1)) (y34,0)).bind fun j39=>
 (QdB j39).bind fun y40=>
 some (y40,0)) (fun (j32:List ((Int×Int)×(Int×List Int×Int×Int)×Int×Bool)×Int)=>
 some (j32.1,j32.2)) j30
def Qd4:Callee:=⟨[.v (.list s6) .z,.v (.int .i64) .z,.v (.list s3) .z,.v (.int .i64) .z,.v .bool .z],[((.list s6),(.o (.p .z (.p (.p .z (.p (.o .z) .z)) .z)))),((.int .i64),.z)],fun t=>Qae t.1 t.2.1 t.2.2.1 t.2.2.2.1 t.2.2.2.2.1,true⟩
def Qru:Ctx:=⟨tys,[(53,Qeh),(60,QdK),(116,Qah),(121,Qam),(124,QhD),(125,Qgf),(126,Qgc)],[],[(6,(⟨[(0,.keep),(1,.keep),(2,.keep),(3,.keep),(4,.keep),(31,.keep),(32,.keep),(33,.st (.int .i64) .z false)],[]⟩,⟨[((.exit 1),⟨[(0,.keep),(1,.keep),(2,.keep),(3,.keep),(4,.keep)],[]⟩),(.ret,⟨[(10,.st (.list s6) (.o (.p .z (.p (.p .z (.p (.o .z) .z)) .z))) false),(11,.st (.int .i64) .z false)],[]⟩)]⟩)),
 (18,(⟨[(1,.keep),(3,.keep),(4,.keep),(15,.st (.list s6) (.o (.p .z (.p (.p .z (.p (.o .z) .z)) .z))) false),(56,.keep),(57,.keep),(58,.st (.int .i64) .z false)],[]⟩,⟨[((.exit 4),⟨[(15,.st (.list s6) (.o (.p .z (.p (.p .z (.p (.o .z) .z)) .z))) false)],[]⟩)]⟩))],[],[(1,⟨[(0,.keep),(1,.keep),(2,.keep),(3,.keep),(4,.keep),(18,.st .bool .z false)],[]⟩)],[],[]⟩
def Zv (I:List ((Int×Int)×(Int×List Int×Int×Int)×Int×Bool)) (x1:Int) (x2:Int):Option (List ((Int×Int)×(Int×List Int×Int×Int)×Int×Bool)):=
 delS I x1 x2
def Qaa:Callee:=⟨[.v (.list s6) (.o .z),.v (.int .i64) .z,.v (.int .i64) .z],[((.list s6),(.o .z))],fun t=>Zv t.1 t.2.1 t.2.2.1,true⟩
end GL
end Go.Dx
end
