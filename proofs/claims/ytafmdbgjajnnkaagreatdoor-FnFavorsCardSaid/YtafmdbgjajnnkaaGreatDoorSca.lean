/- What each function computes, as a function of plain data (F), its parameters (K) and hints for the executor (X); the types -/
import Derived.Test.YtafmdbgjajnnkaaGreatDoorDxd
import Derived.Test.YtafmdbgjajnnkaaGreatDoorProg
import Derived.KernelRfl
set_option linter.unusedVariables false
set_option linter.unusedSimpArgs false
set_option maxRecDepth 100000
set_option maxHeartbeats 0
noncomputable section
namespace Go.Dx
open Go.Proofs
namespace GL
def s0:Sh:=(.prod (.int .i64) (.int .i64))
def s1:Sh:=(.prod (.list .str) (.list s0))
def s2:Sh:=(.prod (.list (.int .i64)) s0)
def s3:Sh:=(.prod (.int .i64) s2)
def s4:Sh:=(.prod (.int .i64) .bool)
def s5:Sh:=(.prod s3 s4)
def s6:Sh:=(.prod s0 s5)
def s7:Sh:=(.prod (.int .i64) s0)
def s8:Sh:=(.prod (.list s6) (.list s7))
def s9:Sh:=(.prod (.int .i64) s8)
def s10:Sh:=(.prod (.int .i64) s9)
def s11:Sh:=(.prod (.list (.int .i64)) (.list (.int .i64)))
def s12:Sh:=(.prod (.int .i64) s11)
def s13:Sh:=(.prod (.list s0) (.list s3))
def s14:Sh:=(.prod (.int .i64) s13)
def s15:Sh:=(.prod (.int .i64) s14)
def s16:Sh:=(.prod (.int .i64) s15)
def s17:Sh:=(.prod (.int .i64) (.list (.int .i64)))
def s18:Sh:=(.prod (.int .i64) s17)
def s19:Sh:=(.prod (.int .i64) s18)
def s20:Sh:=(.prod (.int .i64) s19)
def s21:Sh:=(.prod (.int .i64) .str)
def s22:Sh:=(.prod (.int .i64) s1)
def s23:Sh:=(.prod (.int .i64) s22)
def s24:Sh:=(.prod (.list (.list s6)) (.list s7))
def s25:Sh:=(.prod (.int .i64) s24)
def s26:Sh:=(.prod s25 s10)
def s27:Sh:=(.prod (.int .i64) s26)
def s28:Sh:=(.prod (.int .i64) s27)
def s29:Sh:=(.prod (.list (.int .u8)) (.int .i64))
def s30:Sh:=(.prod (.int .i64) (.list s6))
def tys:List (TypeId×TI):=[(2,⟨(.int .i64),8,.int .i64⟩),
 (3,⟨(.int .i64),8,.int .i64⟩),
 (4,⟨.bool,1,.bool⟩),
 (5,⟨(.int .u8),1,.int .u8⟩),
 (9,⟨.str,16,.str⟩),
 (22,⟨(.list (.int .u8)),24,.slice 5⟩),
 (24,⟨(.list .str),24,.slice 9⟩),
 (25,⟨(.list s0),24,.slice 128⟩),
 (27,⟨s1,48,.struct [(0,24),(1,25)]⟩),
 (28,⟨(.list s6),24,.slice 121⟩),
 (29,⟨(.list s7),24,.slice 161⟩),
 (31,⟨s10,64,.struct [(0,2),(1,2),(2,28),(3,29)]⟩),
 (32,⟨(.list (.int .i64)),24,.slice 2⟩),
 (36,⟨s12,56,.struct [(0,2),(1,32),(2,32)]⟩),
 (44,⟨(.list s0),24,.slice 115⟩),
 (45,⟨(.list s3),24,.slice 119⟩),
 (47,⟨s15,64,.struct [(0,2),(1,2),(2,44),(3,45)]⟩),
 (49,⟨s16,72,.struct [(0,2),(1,47)]⟩),
 (53,⟨s19,48,.struct [(0,2),(1,2),(2,2),(3,32)]⟩),
 (55,⟨s20,56,.struct [(0,2),(1,53)]⟩),
 (58,⟨s21,24,.struct [(0,2),(1,9)]⟩),
 (61,⟨s23,64,.struct [(0,2),(1,2),(2,27)]⟩),
 (63,⟨(.list (.list s6)),24,.slice 28⟩),
 (65,⟨s25,56,.struct [(0,2),(1,63),(2,29)]⟩),
 (67,⟨s28,136,.struct [(0,2),(1,2),(2,65),(5,31)]⟩),
 (70,⟨s0,16,.struct [(0,2),(1,2)]⟩),
 (84,⟨(.list s15),24,.slice 47⟩),
 (101,⟨(.fn1 (.int .i64) .bool .z),8,.func⟩),
 (115,⟨s0,16,.struct [(0,2),(1,2)]⟩),
 (117,⟨s2,40,.struct [(0,32),(1,2),(2,2)]⟩),
 (119,⟨s3,48,.struct [(0,2),(1,117)]⟩),
 (121,⟨s6,80,.struct [(0,115),(2,119),(6,2),(7,4)]⟩),
 (123,⟨s29,32,.struct [(0,22),(1,2)]⟩),
 (128,⟨s0,16,.struct [(0,2),(1,2)]⟩),
 (138,⟨(.fn1 s15 .bool .z),8,.func⟩),
 (144,⟨(.fn1 s0 .bool .z),8,.func⟩),
 (161,⟨s7,24,.struct [(0,2),(1,115)]⟩),
 (206,⟨(.fn1 s7 .bool .z),8,.func⟩),
 (224,⟨s30,32,.struct [(0,2),(1,28)]⟩),
 (237,⟨(.fn2 s7 (.int .i64) (.int .i64)),8,.func⟩),
 (268,⟨(.fn2 s6 s6 (.int .i64)),8,.func⟩),
 (270,⟨(.fn2 s6 s0 (.int .i64)),8,.func⟩),
 (280,⟨(.int .u64),8,.int .u64⟩),
 (286,⟨(.list (.int .i64)),24,.slice 3⟩),
 (300,⟨(.int .u64),8,.int .u64⟩)]
abbrev EQ (X:Ctx) (f:Func) (K:Callee):Prop:=∀t:TupI (K.ins.map PS.sh),runF X f K t=K.F t
def X0:Ctx:={ tys:=tys,fns:=[],frz:=[],lps:=[],jns:=[],rjs:=[] }
theorem ty2:TyOk Tryz.prog X0 2 ⟨(.int .i64),8,.int .i64⟩:=⟨⟨Tryz.t2,Tryz.type2,rfl,by decide,by decide,rfl⟩,⟨Tryz.underlying2,rfl⟩⟩
theorem ty3:TyOk Tryz.prog X0 3 ⟨(.int .i64),8,.int .i64⟩:=⟨⟨Tryz.t3,Tryz.type3,rfl,by decide,by decide,rfl⟩,⟨Tryz.underlying3,rfl⟩⟩
theorem ty4:TyOk Tryz.prog X0 4 ⟨.bool,1,.bool⟩:=⟨⟨Tryz.t4,Tryz.type4,rfl,by decide,by decide,rfl⟩,⟨Tryz.underlying4,rfl⟩⟩
theorem ty5:TyOk Tryz.prog X0 5 ⟨(.int .u8),1,.int .u8⟩:=⟨⟨Tryz.t5,Tryz.type5,rfl,by decide,by decide,rfl⟩,⟨Tryz.underlying5,rfl⟩⟩
theorem ty9:TyOk Tryz.prog X0 9 ⟨.str,16,.str⟩:=⟨⟨Tryz.t9,Tryz.type9,rfl,by decide,by decide,rfl⟩,⟨Tryz.underlying9,rfl⟩⟩
theorem ty22:TyOk Tryz.prog X0 22 ⟨(.list (.int .u8)),24,.slice 5⟩:=⟨⟨Tryz.t22,Tryz.type22,rfl,by decide,by decide,rfl⟩,⟨Tryz.underlying22,_,rfl,rfl⟩⟩
theorem ty24:TyOk Tryz.prog X0 24 ⟨(.list .str),24,.slice 9⟩:=⟨⟨Tryz.t24,Tryz.type24,rfl,by decide,by decide,rfl⟩,⟨Tryz.underlying24,_,rfl,rfl⟩⟩
theorem ty25:TyOk Tryz.prog X0 25 ⟨(.list s0),24,.slice 128⟩:=⟨⟨Tryz.t25,Tryz.type25,rfl,by decide,by decide,rfl⟩,⟨Tryz.underlying25,_,rfl,rfl⟩⟩
theorem ty27:TyOk Tryz.prog X0 27 ⟨s1,48,.struct [(0,24),(1,25)]⟩:=⟨⟨Tryz.t27,Tryz.type27,rfl,by decide,by decide,rfl⟩,⟨⟨_,Tryz.underlying27,rfl,by simp⟩,⟨_,_,rfl,rfl,⟨_,rfl,rfl⟩,⟨rfl,_,rfl,rfl⟩⟩,by decide,Tryz.eqGuardType27,Tryz.stoodInHeld27⟩⟩
theorem ty28:TyOk Tryz.prog X0 28 ⟨(.list s6),24,.slice 121⟩:=⟨⟨Tryz.t28,Tryz.type28,rfl,by decide,by decide,rfl⟩,⟨Tryz.underlying28,_,rfl,rfl⟩⟩
theorem ty29:TyOk Tryz.prog X0 29 ⟨(.list s7),24,.slice 161⟩:=⟨⟨Tryz.t29,Tryz.type29,rfl,by decide,by decide,rfl⟩,⟨Tryz.underlying29,_,rfl,rfl⟩⟩
theorem ty31:TyOk Tryz.prog X0 31 ⟨s10,64,.struct [(0,2),(1,2),(2,28),(3,29)]⟩:=⟨⟨Tryz.t31,Tryz.type31,rfl,by decide,by decide,rfl⟩,⟨⟨_,Tryz.underlying31,rfl,by simp⟩,⟨_,_,rfl,rfl,⟨_,rfl,rfl⟩,⟨_,_,rfl,rfl,⟨_,rfl,rfl⟩,⟨_,_,rfl,rfl,⟨_,rfl,rfl⟩,⟨rfl,_,rfl,rfl⟩⟩⟩⟩,by decide,Tryz.eqGuardType31,Tryz.stoodInHeld31⟩⟩
theorem ty32:TyOk Tryz.prog X0 32 ⟨(.list (.int .i64)),24,.slice 2⟩:=⟨⟨Tryz.t32,Tryz.type32,rfl,by decide,by decide,rfl⟩,⟨Tryz.underlying32,_,rfl,rfl⟩⟩
theorem ty36:TyOk Tryz.prog X0 36 ⟨s12,56,.struct [(0,2),(1,32),(2,32)]⟩:=⟨⟨Tryz.t36,Tryz.type36,rfl,by decide,by decide,rfl⟩,⟨⟨_,Tryz.underlying36,rfl,by simp⟩,⟨_,_,rfl,rfl,⟨_,rfl,rfl⟩,⟨_,_,rfl,rfl,⟨_,rfl,rfl⟩,⟨rfl,_,rfl,rfl⟩⟩⟩,by decide,Tryz.eqGuardType36,Tryz.stoodInHeld36⟩⟩
theorem ty44:TyOk Tryz.prog X0 44 ⟨(.list s0),24,.slice 115⟩:=⟨⟨Tryz.t44,Tryz.type44,rfl,by decide,by decide,rfl⟩,⟨Tryz.underlying44,_,rfl,rfl⟩⟩
theorem ty45:TyOk Tryz.prog X0 45 ⟨(.list s3),24,.slice 119⟩:=⟨⟨Tryz.t45,Tryz.type45,rfl,by decide,by decide,rfl⟩,⟨Tryz.underlying45,_,rfl,rfl⟩⟩
theorem ty47:TyOk Tryz.prog X0 47 ⟨s15,64,.struct [(0,2),(1,2),(2,44),(3,45)]⟩:=⟨⟨Tryz.t47,Tryz.type47,rfl,by decide,by decide,rfl⟩,⟨⟨_,Tryz.underlying47,rfl,by simp⟩,⟨_,_,rfl,rfl,⟨_,rfl,rfl⟩,⟨_,_,rfl,rfl,⟨_,rfl,rfl⟩,⟨_,_,rfl,rfl,⟨_,rfl,rfl⟩,⟨rfl,_,rfl,rfl⟩⟩⟩⟩,by decide,Tryz.eqGuardType47,Tryz.stoodInHeld47⟩⟩
theorem ty49:TyOk Tryz.prog X0 49 ⟨s16,72,.struct [(0,2),(1,47)]⟩:=⟨⟨Tryz.t49,Tryz.type49,rfl,by decide,by decide,rfl⟩,⟨⟨_,Tryz.underlying49,rfl,by simp⟩,⟨_,_,rfl,rfl,⟨_,rfl,rfl⟩,⟨rfl,_,rfl,rfl⟩⟩,by decide,Tryz.eqGuardType49,Tryz.stoodInHeld49⟩⟩
theorem ty53:TyOk Tryz.prog X0 53 ⟨s19,48,.struct [(0,2),(1,2),(2,2),(3,32)]⟩:=⟨⟨Tryz.t53,Tryz.type53,rfl,by decide,by decide,rfl⟩,⟨⟨_,Tryz.underlying53,rfl,by simp⟩,⟨_,_,rfl,rfl,⟨_,rfl,rfl⟩,⟨_,_,rfl,rfl,⟨_,rfl,rfl⟩,⟨_,_,rfl,rfl,⟨_,rfl,rfl⟩,⟨rfl,_,rfl,rfl⟩⟩⟩⟩,by decide,Tryz.eqGuardType53,Tryz.stoodInHeld53⟩⟩
theorem ty55:TyOk Tryz.prog X0 55 ⟨s20,56,.struct [(0,2),(1,53)]⟩:=⟨⟨Tryz.t55,Tryz.type55,rfl,by decide,by decide,rfl⟩,⟨⟨_,Tryz.underlying55,rfl,by simp⟩,⟨_,_,rfl,rfl,⟨_,rfl,rfl⟩,⟨rfl,_,rfl,rfl⟩⟩,by decide,Tryz.eqGuardType55,Tryz.stoodInHeld55⟩⟩
theorem ty58:TyOk Tryz.prog X0 58 ⟨s21,24,.struct [(0,2),(1,9)]⟩:=⟨⟨Tryz.t58,Tryz.type58,rfl,by decide,by decide,rfl⟩,⟨⟨_,Tryz.underlying58,rfl,by simp⟩,⟨_,_,rfl,rfl,⟨_,rfl,rfl⟩,⟨rfl,_,rfl,rfl⟩⟩,by decide,Tryz.eqGuardType58,Tryz.stoodInHeld58⟩⟩
theorem ty61:TyOk Tryz.prog X0 61 ⟨s23,64,.struct [(0,2),(1,2),(2,27)]⟩:=⟨⟨Tryz.t61,Tryz.type61,rfl,by decide,by decide,rfl⟩,⟨⟨_,Tryz.underlying61,rfl,by simp⟩,⟨_,_,rfl,rfl,⟨_,rfl,rfl⟩,⟨_,_,rfl,rfl,⟨_,rfl,rfl⟩,⟨rfl,_,rfl,rfl⟩⟩⟩,by decide,Tryz.eqGuardType61,Tryz.stoodInHeld61⟩⟩
theorem ty63:TyOk Tryz.prog X0 63 ⟨(.list (.list s6)),24,.slice 28⟩:=⟨⟨Tryz.t63,Tryz.type63,rfl,by decide,by decide,rfl⟩,⟨Tryz.underlying63,_,rfl,rfl⟩⟩
theorem ty65:TyOk Tryz.prog X0 65 ⟨s25,56,.struct [(0,2),(1,63),(2,29)]⟩:=⟨⟨Tryz.t65,Tryz.type65,rfl,by decide,by decide,rfl⟩,⟨⟨_,Tryz.underlying65,rfl,by simp⟩,⟨_,_,rfl,rfl,⟨_,rfl,rfl⟩,⟨_,_,rfl,rfl,⟨_,rfl,rfl⟩,⟨rfl,_,rfl,rfl⟩⟩⟩,by decide,Tryz.eqGuardType65,Tryz.stoodInHeld65⟩⟩
theorem ty67:TyOk Tryz.prog X0 67 ⟨s28,136,.struct [(0,2),(1,2),(2,65),(5,31)]⟩:=⟨⟨Tryz.t67,Tryz.type67,rfl,by decide,by decide,rfl⟩,⟨⟨_,Tryz.underlying67,rfl,by simp⟩,⟨_,_,rfl,rfl,⟨_,rfl,rfl⟩,⟨_,_,rfl,rfl,⟨_,rfl,rfl⟩,⟨_,_,rfl,rfl,⟨_,rfl,rfl⟩,⟨rfl,_,rfl,rfl⟩⟩⟩⟩,by decide,Tryz.eqGuardType67,Tryz.stoodInHeld67⟩⟩
theorem ty70:TyOk Tryz.prog X0 70 ⟨s0,16,.struct [(0,2),(1,2)]⟩:=⟨⟨Tryz.t70,Tryz.type70,rfl,by decide,by decide,rfl⟩,⟨⟨_,Tryz.underlying70,rfl,by simp⟩,⟨_,_,rfl,rfl,⟨_,rfl,rfl⟩,⟨rfl,_,rfl,rfl⟩⟩,by decide,Tryz.eqGuardType70,Tryz.stoodInHeld70⟩⟩
theorem ty84:TyOk Tryz.prog X0 84 ⟨(.list s15),24,.slice 47⟩:=⟨⟨Tryz.t84,Tryz.type84,rfl,by decide,by decide,rfl⟩,⟨Tryz.underlying84,_,rfl,rfl⟩⟩
theorem QE0:TyOk Tryz.prog X0 101 ⟨(.fn1 (.int .i64) .bool .z),8,.func⟩:=⟨⟨Tryz.t101,Tryz.type101,rfl,by decide,by decide,trivial⟩,⟨⟨_,_,_,Tryz.underlying101⟩,.inl ⟨_,_,_,rfl⟩⟩⟩
theorem QEL:TyOk Tryz.prog X0 115 ⟨s0,16,.struct [(0,2),(1,2)]⟩:=⟨⟨Tryz.t115,Tryz.type115,rfl,by decide,by decide,rfl⟩,⟨⟨_,Tryz.underlying115,rfl,by simp⟩,⟨_,_,rfl,rfl,⟨_,rfl,rfl⟩,⟨rfl,_,rfl,rfl⟩⟩,by decide,Tryz.eqGuardType115,Tryz.stoodInHeld115⟩⟩
theorem QEN:TyOk Tryz.prog X0 117 ⟨s2,40,.struct [(0,32),(1,2),(2,2)]⟩:=⟨⟨Tryz.t117,Tryz.type117,rfl,by decide,by decide,rfl⟩,⟨⟨_,Tryz.underlying117,rfl,by simp⟩,⟨_,_,rfl,rfl,⟨_,rfl,rfl⟩,⟨_,_,rfl,rfl,⟨_,rfl,rfl⟩,⟨rfl,_,rfl,rfl⟩⟩⟩,by decide,Tryz.eqGuardType117,Tryz.stoodInHeld117⟩⟩
theorem QEP:TyOk Tryz.prog X0 119 ⟨s3,48,.struct [(0,2),(1,117)]⟩:=⟨⟨Tryz.t119,Tryz.type119,rfl,by decide,by decide,rfl⟩,⟨⟨_,Tryz.underlying119,rfl,by simp⟩,⟨_,_,rfl,rfl,⟨_,rfl,rfl⟩,⟨rfl,_,rfl,rfl⟩⟩,by decide,Tryz.eqGuardType119,Tryz.stoodInHeld119⟩⟩
theorem QE1:TyOk Tryz.prog X0 121 ⟨s6,80,.struct [(0,115),(2,119),(6,2),(7,4)]⟩:=⟨⟨Tryz.t121,Tryz.type121,rfl,by decide,by decide,rfl⟩,⟨⟨_,Tryz.underlying121,rfl,by simp⟩,⟨_,_,rfl,rfl,⟨_,rfl,rfl⟩,⟨_,_,rfl,rfl,⟨_,rfl,rfl⟩,⟨_,_,rfl,rfl,⟨_,rfl,rfl⟩,⟨rfl,_,rfl,rfl⟩⟩⟩⟩,by decide,Tryz.eqGuardType121,Tryz.stoodInHeld121⟩⟩
theorem QEW:TyOk Tryz.prog X0 123 ⟨s29,32,.struct [(0,22),(1,2)]⟩:=⟨⟨Tryz.t123,Tryz.type123,rfl,by decide,by decide,rfl⟩,⟨⟨_,Tryz.underlying123,rfl,by simp⟩,⟨_,_,rfl,rfl,⟨_,rfl,rfl⟩,⟨rfl,_,rfl,rfl⟩⟩,by decide,Tryz.eqGuardType123,Tryz.stoodInHeld123⟩⟩
theorem QE3:TyOk Tryz.prog X0 128 ⟨s0,16,.struct [(0,2),(1,2)]⟩:=⟨⟨Tryz.t128,Tryz.type128,rfl,by decide,by decide,rfl⟩,⟨⟨_,Tryz.underlying128,rfl,by simp⟩,⟨_,_,rfl,rfl,⟨_,rfl,rfl⟩,⟨rfl,_,rfl,rfl⟩⟩,by decide,Tryz.eqGuardType128,Tryz.stoodInHeld128⟩⟩
theorem QFd:TyOk Tryz.prog X0 138 ⟨(.fn1 s15 .bool .z),8,.func⟩:=⟨⟨Tryz.t138,Tryz.type138,rfl,by decide,by decide,trivial⟩,⟨⟨_,_,_,Tryz.underlying138⟩,.inl ⟨_,_,_,rfl⟩⟩⟩
theorem QEV:TyOk Tryz.prog X0 144 ⟨(.fn1 s0 .bool .z),8,.func⟩:=⟨⟨Tryz.t144,Tryz.type144,rfl,by decide,by decide,trivial⟩,⟨⟨_,_,_,Tryz.underlying144⟩,.inl ⟨_,_,_,rfl⟩⟩⟩
theorem QE6:TyOk Tryz.prog X0 161 ⟨s7,24,.struct [(0,2),(1,115)]⟩:=⟨⟨Tryz.t161,Tryz.type161,rfl,by decide,by decide,rfl⟩,⟨⟨_,Tryz.underlying161,rfl,by simp⟩,⟨_,_,rfl,rfl,⟨_,rfl,rfl⟩,⟨rfl,_,rfl,rfl⟩⟩,by decide,Tryz.eqGuardType161,Tryz.stoodInHeld161⟩⟩
theorem QEZ:TyOk Tryz.prog X0 206 ⟨(.fn1 s7 .bool .z),8,.func⟩:=⟨⟨Tryz.t206,Tryz.type206,rfl,by decide,by decide,trivial⟩,⟨⟨_,_,_,Tryz.underlying206⟩,.inl ⟨_,_,_,rfl⟩⟩⟩
theorem QFc:TyOk Tryz.prog X0 224 ⟨s30,32,.struct [(0,2),(1,28)]⟩:=⟨⟨Tryz.t224,Tryz.type224,rfl,by decide,by decide,rfl⟩,⟨⟨_,Tryz.underlying224,rfl,by simp⟩,⟨_,_,rfl,rfl,⟨_,rfl,rfl⟩,⟨rfl,_,rfl,rfl⟩⟩,by decide,Tryz.eqGuardType224,Tryz.stoodInHeld224⟩⟩
theorem QEK:TyOk Tryz.prog X0 237 ⟨(.fn2 s7 (.int .i64) (.int .i64)),8,.func⟩:=⟨⟨Tryz.t237,Tryz.type237,rfl,by decide,by decide,trivial⟩,⟨⟨_,_,_,Tryz.underlying237⟩,.inr ⟨_,_,_,rfl⟩⟩⟩
theorem QES:TyOk Tryz.prog X0 268 ⟨(.fn2 s6 s6 (.int .i64)),8,.func⟩:=⟨⟨Tryz.t268,Tryz.type268,rfl,by decide,by decide,trivial⟩,⟨⟨_,_,_,Tryz.underlying268⟩,.inr ⟨_,_,_,rfl⟩⟩⟩
theorem QE8:TyOk Tryz.prog X0 270 ⟨(.fn2 s6 s0 (.int .i64)),8,.func⟩:=⟨⟨Tryz.t270,Tryz.type270,rfl,by decide,by decide,trivial⟩,⟨⟨_,_,_,Tryz.underlying270⟩,.inr ⟨_,_,_,rfl⟩⟩⟩
theorem QE4:TyOk Tryz.prog X0 280 ⟨(.int .u64),8,.int .u64⟩:=⟨⟨Tryz.t280,Tryz.type280,rfl,by decide,by decide,rfl⟩,⟨Tryz.underlying280,rfl⟩⟩
theorem QER:TyOk Tryz.prog X0 286 ⟨(.list (.int .i64)),24,.slice 3⟩:=⟨⟨Tryz.t286,Tryz.type286,rfl,by decide,by decide,rfl⟩,⟨Tryz.underlying286,_,rfl,rfl⟩⟩
theorem QFe:TyOk Tryz.prog X0 300 ⟨(.int .u64),8,.int .u64⟩:=⟨⟨Tryz.t300,Tryz.type300,rfl,by decide,by decide,rfl⟩,⟨Tryz.underlying300,rfl⟩⟩
theorem Qd:Q0 Tryz.prog X0:=QCZ ⟨ty2,ty3,ty4,ty5,ty9,ty22,ty24,ty25,ty27,ty28,ty29,ty31,ty32,ty36,ty44,ty45,ty47,ty49,ty53,ty55,ty58,ty61,ty63,ty65,ty67,ty70,ty84,QE0,QEL,QEN,QEP,QE1,QEW,QE3,QFd,QEV,QE6,QEZ,QFc,QEK,QES,QE8,QE4,QER,QFe,trivial⟩
theorem follows:Tryz.prog.follows .mixedOrders=true:=by kernel_rfl
end GL
end Go.Dx
set_option maxRecDepth 100000
set_option maxHeartbeats 0
namespace Go.Dx
open Go.Proofs
namespace GL

def Qkg (x0:List Int):Option (Bool):=
 some (decide ((1048576:Int)<(List.length x0:Int)))
def QfB:Callee:=⟨[.v (.list (.int .u8)) .z],[(.bool,.z)],fun t=>Qkg t.1,true⟩
def Qq4:Ctx:=⟨tys,[],[],[],[],[],[],[]⟩
def Qh3 (x0:List Int):Option (List Int×Int):=
 some (x0,0)
def QlA:NewP:={ ins:=[(.list (.int .u8))],out:=s29,F:=fun t=>Qh3 t.1 }
def Qp (x0:List Int×Int) (x1:Int):Option (Int×List Int×Int):=
 bif (decide ((x1:Int)<1)) then
 some (0,(x0.1,IntKind.wrap .i64 (x0.2+1)))
 else
 bif (decide (((List.length x0.1:Int):Int)=0)) then
 bif (!decide (x1=(0:Int))) then
 some (Int.tmod (IntKind.wrap .i64 ((IntKind.wrap .i64 ((IntKind.wrap .i64 (x0.2+1)) - 1)) * 7)) x1,(x0.1,IntKind.wrap .i64 (x0.2+1)))
 else none
 else
 bif (!decide ((List.length x0.1:Int)=(0:Int))) then
 bif (inB (Int.tmod (IntKind.wrap .i64 ((IntKind.wrap .i64 (x0.2+1)) - 1)) (List.length x0.1:Int)) x0.1) then
 bif (!decide ((List.length x0.1:Int)=(0:Int))) then
 (bif (decide ((200:Int)<x1)) then
 bif (!decide ((List.length x0.1:Int)=(0:Int))) then
 bif (inB (Int.tmod (IntKind.wrap .i64 ((IntKind.wrap .i64 ((IntKind.wrap .i64 (x0.2+1)) - 1))+1)) (List.length x0.1:Int)) x0.1) then
 some (IntKind.wrap .i64 ((IntKind.wrap .i64 ((IntKind.wrap .i64 ((IntKind.wrap .i64 ((IntKind.wrap .i64 (List.getD x0.1 (Int.toNat (Int.tmod (IntKind.wrap .i64 ((IntKind.wrap .i64 (x0.2+1)) - 1)) (List.length x0.1:Int))) 0))+(IntKind.wrap .i64 ((IntKind.wrap .i64 (Int.tdiv (IntKind.wrap .i64 ((IntKind.wrap .i64 (x0.2+1)) - 1)) (List.length x0.1:Int))) * 37)))) * 251))+(IntKind.wrap .i64 ((IntKind.wrap .i64 (List.getD x0.1 (Int.toNat (Int.tmod (IntKind.wrap .i64 ((IntKind.wrap .i64 ((IntKind.wrap .i64 (x0.2+1)) - 1))+1)) (List.length x0.1:Int))) 0)) * 13))))+(IntKind.wrap .i64 ((IntKind.wrap .i64 (x0.2+1)) - 1))))
 else none
 else none
 else
 some (IntKind.wrap .i64 ((IntKind.wrap .i64 (List.getD x0.1 (Int.toNat (Int.tmod (IntKind.wrap .i64 ((IntKind.wrap .i64 (x0.2+1)) - 1)) (List.length x0.1:Int))) 0))+(IntKind.wrap .i64 ((IntKind.wrap .i64 (Int.tdiv (IntKind.wrap .i64 ((IntKind.wrap .i64 (x0.2+1)) - 1)) (List.length x0.1:Int))) * 37)))):Option (Int)).bind fun j2=>
 bif (!decide (x1=(0:Int))) then
 some (Int.tmod j2 x1,(x0.1,IntKind.wrap .i64 (x0.2+1)))
 else none
 else none
 else none
 else none
def Zq:Callee:=⟨[.io s29 .z .z,.v (.int .i64) .z],[((.int .i64),.z)],fun t=>Qp t.1 t.2.1,true⟩
def QoA:Ctx:=⟨tys,[],[],[],[(10,⟨[(.normal,⟨[(1,.keep),(7,.st (.int .i64) .z false)],[(71,.keep)]⟩)]⟩)],[],[],[]⟩
def JZ (x0:List Int×Int) (x1:List Int):Option (Int×List Int×Int):=
 (Qp x0 (List.length x1:Int)).bind fun y2=>
 bif (inB y2.1 x1) then
 some (List.getD x1 (Int.toNat y2.1) 0,y2.2)
 else none
def JT:Callee:=⟨[.io s29 .z .z,.v (.list (.int .i64)) .z],[((.int .i64),.z)],fun t=>JZ t.1 t.2.1,true⟩
def QpK:Ctx:=⟨tys,[(62,Zq)],[],[],[],[],[],[]⟩
def QO (x0:List Int×Int) (x1:Int):Option (Bool×List Int×Int):=
 (Qp x0 x1).bind fun y2=>
 some (decide ((y2.1:Int)=0),y2.2)
def Z3:Callee:=⟨[.io s29 .z .z,.v (.int .i64) .z],[(.bool,.z)],fun t=>QO t.1 t.2.1,true⟩
def Qk9:Ctx:=⟨tys,[(62,Zq)],[],[],[],[],[],[]⟩
def QZ (x0:Int) (x1:Int) (x2:Int):Option (Bool):=
 (bif (decide ((x1:Int)<=x0)) then
 some (decide ((x0:Int)<=x2))
 else
 some false:Option (Bool)).bind fun j2=>
 some j2
def ZD:Callee:=⟨[.v (.int .i64) .z,.v (.int .i64) .z,.v (.int .i64) .z],[(.bool,.z)],fun t=>QZ t.1 t.2.1 t.2.2.1,true⟩
def Qsc:Ctx:=⟨tys,[],[],[],[],[(1,⟨[(6,.st .bool .z false)],[]⟩)],[],[]⟩
def JN (x0:Int):Option (Bool):=
 (QZ x0 1 999).bind fun y2=>
 some y2
def YV:Callee:=⟨[.v (.int .i64) .z],[(.bool,.z)],fun t=>JN t.1,true⟩
def Qp3:Ctx:=⟨tys,[(65,ZD)],[],[],[],[],[],[]⟩
def QeN (x0:List (List UInt8)) (x1:List UInt8):Option (Int):=
 (Qf (S:=Int) (X:=(Unit)⊕(Int)) (fun s5=>
 bif (decide ((s5:Int)<(List.length x0:Int))) then
 bif (inB s5 x0) then
 bif (decide ((List.getD x0 (Int.toNat s5) []:List UInt8)=x1)) then
 some (Sum.inr (Sum.inr (IntKind.wrap .i64 (s5+1))))
 else
 some (Sum.inl (IntKind.wrap .i64 (s5+1)))
 else none
 else
 some (Sum.inr (Sum.inl ()))) 0).bind fun j6=>
 Sum.elim (fun (j7:Unit)=>
 some 0) (fun (j8:Int)=>
 some j8) j6
def QcQ:Callee:=⟨[.v (.list .str) .z,.v .str .z],[((.int .i64),.z)],fun t=>QeN t.1 t.2.1,true⟩
def Qsd:Ctx:=⟨tys,[],[],[(2,(⟨[(0,.keep),(1,.keep),(5,.st (.int .i64) .z false)],[]⟩,⟨[((.exit 0),⟨[],[]⟩),(.ret,⟨[(4,.st (.int .i64) .z false)],[]⟩)]⟩))],[],[],[],[]⟩
def QaT (x0:List (Int×Int)) (x1:Int×Int):Option (Bool):=
 (Qf (S:=Int) (X:=(Unit)⊕(Bool)) (fun s5=>
 bif (decide ((s5:Int)<(List.length x0:Int))) then
 bif (inB s5 x0) then
 bif (Sh.beq (.prod (.int .i64) (.int .i64)) (List.getD x0 (Int.toNat s5) (0,0)) x1) then
 some (Sum.inr (Sum.inr true))
 else
 some (Sum.inl (IntKind.wrap .i64 (s5+1)))
 else none
 else
 some (Sum.inr (Sum.inl ()))) 0).bind fun j6=>
 Sum.elim (fun (j7:Unit)=>
 some false) (fun (j8:Bool)=>
 some j8) j6
def JJ:Callee:=⟨[.v (.list s0) .z,.v s0 .z],[(.bool,.z)],fun t=>QaT t.1 t.2.1,true⟩
def Qle:Ctx:=⟨tys,[],[],[(2,(⟨[(0,.keep),(3,.keep),(5,.st (.int .i64) .z false)],[(3,.keep)]⟩,⟨[((.exit 0),⟨[],[]⟩),(.ret,⟨[(4,.st .bool .z false)],[]⟩)]⟩))],[],[],[],[]⟩
def YI (x0:List (List UInt8)×List (Int×Int)):Option (Int):=
 (bif (decide ((60:Int)<(List.length x0.1:Int))) then
 some true
 else
 some (decide ((120:Int)<(List.length x0.2:Int))):Option (Bool)).bind fun j34=>
 bif j34 then
 some 2
 else
 (Qf (S:=Int) (X:=(Unit)⊕(Int)) (fun s39=>
 bif (decide ((s39:Int)<(List.length x0.1:Int))) then
 (bif (inB s39 x0.1) then
 bif (decide (((List.length (List.getD x0.1 (Int.toNat s39) []):Int):Int)<1)) then
 some true
 else
 bif (inB s39 x0.1) then
 some (decide ((300:Int)<(List.length (List.getD x0.1 (Int.toNat s39) []):Int)))
 else none
 else none:Option (Bool)).bind fun j40=>
 bif j40 then
 some (Sum.inr (Sum.inr 2))
 else
 bif (QT 0 s39 x0.1) then
 bif (inB s39 x0.1) then
 (QeN (cut 0 s39 x0.1) (List.getD x0.1 (Int.toNat s39) [])).bind fun y41=>
 bif (decide ((0:Int)<y41)) then
 some (Sum.inr (Sum.inr 7))
 else
 some (Sum.inl (IntKind.wrap .i64 (s39+1)))
 else none
 else none
 else
 some (Sum.inr (Sum.inl ()))) 0).bind fun j42=>
 Sum.elim (fun (j43:Unit)=>
 (Qf (S:=Int) (X:=(Unit)⊕(Int)) (fun s57=>
 bif (decide ((s57:Int)<(List.length x0.2:Int))) then
 (bif (inB s57 x0.2) then
 (JN (List.getD x0.2 (Int.toNat s57) (0,0)).1).bind fun y60=>
 bif (!y60) then
 some true
 else
 bif (inB s57 x0.2) then
 (QZ (List.getD x0.2 (Int.toNat s57) (0,0)).2 1 (List.length x0.1:Int)).bind fun y61=>
 some (!y61)
 else none
 else none:Option (Bool)).bind fun j62=>
 bif j62 then
 some (Sum.inr (Sum.inr 3))
 else
 bif (QT 0 s57 x0.2) then
 bif (inB s57 x0.2) then
 (QaT (cut 0 s57 x0.2) (List.getD x0.2 (Int.toNat s57) (0,0))).bind fun y63=>
 bif y63 then
 some (Sum.inr (Sum.inr 7))
 else
 some (Sum.inl (IntKind.wrap .i64 (s57+1)))
 else none
 else none
 else
 some (Sum.inr (Sum.inl ()))) 0).bind fun j64=>
 Sum.elim (fun (j65:Unit)=>
 some 0) (fun (j66:Int)=>
 some j66) j64) (fun (j44:Int)=>
 some j44) j42
def Yg:Callee:=⟨[.rp s1 false],[((.int .i64),.z)],fun t=>YI t.1,true⟩
def QnD:Ctx:=⟨tys,[(49,YV),(64,QcQ),(65,ZD),(66,JJ)],[],[(4,(⟨[(0,.keep),(3,.st (.int .i64) .z false)],[]⟩,⟨[((.exit 0),⟨[(0,.keep)],[]⟩),(.ret,⟨[(2,.st (.int .i64) .z false)],[]⟩)]⟩)),
 (11,(⟨[(0,.keep),(4,.st (.int .i64) .z false)],[]⟩,⟨[((.exit 2),⟨[],[]⟩),(.ret,⟨[(2,.st (.int .i64) .z false)],[]⟩)]⟩))],[],[(1,⟨[(0,.keep),(18,.st .bool .z false)],[]⟩),
 (6,⟨[(0,.keep),(3,.keep),(47,.st .bool .z false)],[]⟩),
 (13,⟨[(0,.keep),(4,.keep),(98,.st .bool .z false)],[]⟩)],[],[]⟩
def QeR (x0:List (List UInt8)×List (Int×Int)) (x1:Int):Option (Bool):=
 (QZ x1 1 (List.length x0.1:Int)).bind fun y2=>
 some y2
def QeS:Callee:=⟨[.rp s1 false,.v (.int .i64) .z],[(.bool,.z)],fun t=>QeR t.1 t.2.1,true⟩
def QsC:Ctx:=⟨tys,[(65,ZD)],[],[],[],[],[],[]⟩
def Qcf (x0:List (List UInt8)×List (Int×Int)) (x1:Int):Option (Int×List UInt8):=
 (YI x0).bind fun y3=>
 bif (!decide ((y3:Int)=0)) then
 some (y3,[])
 else
 (QeR x0 x1).bind fun y4=>
 bif (!y4) then
 some (3,[])
 else
 bif (inB (IntKind.wrap .i64 (x1 - 1)) x0.1) then
 some (0,List.getD x0.1 (Int.toNat (IntKind.wrap .i64 (x1 - 1))) [])
 else none
def Qcc:Callee:=⟨[.v s1 .z,.v (.int .i64) .z],[(s21,.z)],fun t=>Qcf t.1 t.2.1,true⟩
def QpB:Ctx:=⟨tys,[(32,Yg),(135,QeS)],[],[],[],[],[],[]⟩
def QL (x0:Int):Option (List UInt8):=
 digS 19 x0
def Qe2:Callee:=⟨[.v (.int .i64) .z],[(.str,.z)],fun t=>QL t.1,true⟩
def Qa6 (x0:List UInt8) (x1:Int) (x2:Int):Option (List UInt8):=
 swpS x0 x1 x2
def Qjs:Callee:=⟨[.v .str .z,.v (.int .u8) .z,.v (.int .u8) .z],[(.str,.z)],fun t=>Qa6 t.1 t.2.1 t.2.2.1,false⟩
def Qei (x0:List Int×Int×Int):Option (List UInt8):=
 (QL x0.2.1).bind fun y11=>
 bif decide (List.length y11+List.length [32,111,102,32]<=LIM) then
 bif (inB 0 x0.1) then
 (QL (List.getD x0.1 (Int.toNat 0) 0)).bind fun y12=>
 bif decide (List.length (List.append y11 [32,111,102,32])+List.length y12<=LIM) then
 (Qf (S:=List UInt8×Int) (X:=List UInt8) (fun s15=>
 bif (decide ((s15.2:Int)<(List.length x0.1:Int))) then
 bif decide (List.length s15.1+List.length [44]<=LIM) then
 bif (inB s15.2 x0.1) then
 (QL (List.getD x0.1 (Int.toNat s15.2) 0)).bind fun y16=>
 bif decide (List.length (List.append s15.1 [44])+List.length y16<=LIM) then
 some (Sum.inl (List.append (List.append s15.1 [44]) y16,IntKind.wrap .i64 (s15.2+1)))
 else none
 else none
 else none
 else
 some (Sum.inr s15.1)) (List.append (List.append y11 [32,111,102,32]) y12,1)).bind fun j17=>
 (bif (!decide ((x0.2.2:Int)=0)) then
 bif decide (List.length j17+List.length [32,97,102,116,101,114,32]<=LIM) then
 (QL x0.2.2).bind fun y19=>
 bif decide (List.length (List.append j17 [32,97,102,116,101,114,32])+List.length y19<=LIM) then
 some (List.append (List.append j17 [32,97,102,116,101,114,32]) y19)
 else none
 else none
 else
 some j17:Option (List UInt8)).bind fun j20=>
 some j20
 else none
 else none
 else none
def QeH:Callee:=⟨[.rp s2 false],[(.str,.z)],fun t=>Qei t.1,true⟩
def Qpx:Ctx:=⟨tys,[(167,Qe2)],[],[(3,(⟨[(0,.keep),(3,.st .str .z false),(4,.st (.int .i64) .z false)],[]⟩,⟨[((.exit 0),⟨[(0,.keep),(3,.st .str .z false)],[]⟩)]⟩))],[(7,⟨[(.normal,⟨[(3,.st .str .z false)],[]⟩)]⟩)],[],[],[]⟩
def Y3 (x0:Int×Int×List (Int×Int)×List (Int×List Int×Int×Int)):Option (List UInt8):=
 bif (inB x0.1 ([[112,97,121],[106,111,105,110,32],[108,101,97,118,101,32]]:List (List UInt8))) then
 (bif (!decide ((x0.1:Int)=0)) then
 (QL x0.2.1).bind fun y26=>
 bif decide (List.length (List.getD ([[112,97,121],[106,111,105,110,32],[108,101,97,118,101,32]]:List (List UInt8)) (Int.toNat x0.1) [])+List.length y26<=LIM) then
 some (List.append (List.getD ([[112,97,121],[106,111,105,110,32],[108,101,97,118,101,32]]:List (List UInt8)) (Int.toNat x0.1) []) y26)
 else none
 else
 some (List.getD ([[112,97,121],[106,111,105,110,32],[108,101,97,118,101,32]]:List (List UInt8)) (Int.toNat x0.1) []):Option (List UInt8)).bind fun j27=>
 (Qf (S:=List UInt8×Int) (X:=List UInt8) (fun s33=>
 bif (decide ((s33.2:Int)<(List.length x0.2.2.1:Int))) then
 (bif (decide ((s33.2:Int)=0)) then
 some [32]
 else
 some [43]:Option (List UInt8)).bind fun j34=>
 bif decide (List.length s33.1+List.length j34<=LIM) then
 bif (inB s33.2 x0.2.2.1) then
 (QL (List.getD x0.2.2.1 (Int.toNat s33.2) (0,0)).1).bind fun y35=>
 bif decide (List.length (List.append s33.1 j34)+List.length y35<=LIM) then
 bif decide (List.length (List.append (List.append s33.1 j34) y35)+List.length [58]<=LIM) then
 bif (inB s33.2 x0.2.2.1) then
 (QL (List.getD x0.2.2.1 (Int.toNat s33.2) (0,0)).2).bind fun y36=>
 bif decide (List.length (List.append (List.append (List.append s33.1 j34) y35) [58])+List.length y36<=LIM) then
 some (Sum.inl (List.append (List.append (List.append (List.append s33.1 j34) y35) [58]) y36,IntKind.wrap .i64 (s33.2+1)))
 else none
 else none
 else none
 else none
 else none
 else none
 else
 some (Sum.inr s33.1)) (j27,0)).bind fun j37=>
 (Qf (S:=List UInt8×Int) (X:=List UInt8) (fun s44=>
 bif (decide ((s44.2:Int)<(List.length x0.2.2.2:Int))) then
 bif decide (List.length s44.1+List.length [32]<=LIM) then
 bif (inB s44.2 x0.2.2.2) then
 (QL (List.getD x0.2.2.2 (Int.toNat s44.2) (0,([],(0,0)))).1).bind fun y45=>
 bif decide (List.length (List.append s44.1 [32])+List.length y45<=LIM) then
 bif decide (List.length (List.append (List.append s44.1 [32]) y45)+List.length [61]<=LIM) then
 bif (inB s44.2 x0.2.2.2) then
 (Qei (List.getD x0.2.2.2 (Int.toNat s44.2) (0,([],(0,0)))).2).bind fun y46=>
 (Qa6 y46 32 95).bind fun y47=>
 bif decide (List.length (List.append (List.append (List.append s44.1 [32]) y45) [61])+List.length y47<=LIM) then
 some (Sum.inl (List.append (List.append (List.append (List.append s44.1 [32]) y45) [61]) y47,IntKind.wrap .i64 (s44.2+1)))
 else none
 else none
 else none
 else none
 else none
 else none
 else
 some (Sum.inr s44.1)) (j37,0)).bind fun j48=>
 some j48
 else none
def JU:Callee:=⟨[.rp s15 false],[(.str,.z)],fun t=>Y3 t.1,false⟩
def QoZ:Ctx:=⟨tys,[(167,Qe2),(168,Qjs),(169,QeH)],[],[(5,(⟨[(0,.keep),(3,.st .str .z false),(4,.st (.int .i64) .z false)],[]⟩,⟨[((.exit 0),⟨[(0,.keep),(3,.st .str .z false)],[]⟩)]⟩)),
 (12,(⟨[(0,.keep),(3,.st .str .z false),(6,.st (.int .i64) .z false)],[]⟩,⟨[((.exit 2),⟨[(3,.st .str .z false)],[]⟩)]⟩))],[(3,⟨[(.normal,⟨[(0,.keep),(3,.st .str .z false)],[]⟩)]⟩),
 (9,⟨[(.normal,⟨[(0,.keep),(3,.keep),(4,.keep),(5,.st .str .z false)],[]⟩)]⟩)],[],[],[]⟩
def ZH (x0:List (Int×Int)) (x1:Int×Int):Option (Bool):=
 (Qf (S:=Int) (X:=(Unit)⊕(Bool)) (fun s5=>
 bif (decide ((s5:Int)<(List.length x0:Int))) then
 bif (inB s5 x0) then
 bif (Sh.beq (.prod (.int .i64) (.int .i64)) (List.getD x0 (Int.toNat s5) (0,0)) x1) then
 some (Sum.inr (Sum.inr true))
 else
 some (Sum.inl (IntKind.wrap .i64 (s5+1)))
 else none
 else
 some (Sum.inr (Sum.inl ()))) 0).bind fun j6=>
 Sum.elim (fun (j7:Unit)=>
 some false) (fun (j8:Bool)=>
 some j8) j6
def ZG:Callee:=⟨[.v (.list s0) .z,.v s0 .z],[(.bool,.z)],fun t=>ZH t.1 t.2.1,true⟩
def Qmk:Ctx:=⟨tys,[],[],[(2,(⟨[(0,.keep),(3,.keep),(5,.st (.int .i64) .z false)],[(3,.keep)]⟩,⟨[((.exit 0),⟨[],[]⟩),(.ret,⟨[(4,.st .bool .z false)],[]⟩)]⟩))],[],[],[],[]⟩
def Qdv (x0:Int×Int):Option (Bool):=
 ((QZ x0.1 1 60).bind fun y8=>
 bif y8 then
 (QZ x0.2 0 3).bind fun y9=>
 some y9
 else
 some false:Option (Bool)).bind fun j10=>
 some j10
def QbM:Callee:=⟨[.v s0 .z],[(.bool,.z)],fun t=>Qdv t.1,true⟩
def Qqf:Ctx:=⟨tys,[(65,ZD)],[],[],[],[(1,⟨[(2,.st .bool .z false)],[]⟩)],[],[]⟩
def Jt (x0:Int):Option (Bool):=
 (QZ x0 0 999).bind fun y2=>
 some y2
def YS:Callee:=⟨[.v (.int .i64) .z],[(.bool,.z)],fun t=>Jt t.1,true⟩
def QlI:Ctx:=⟨tys,[(65,ZD)],[],[],[],[],[],[]⟩
def QbG (x0:List Int×Int×Int):Option (Int):=
 (QZ (List.length x0.1:Int) 1 3).bind fun y18=>
 bif (!y18) then
 some 2
 else
 (Qf (S:=Int) (X:=(Unit)⊕(Int)) (fun s21=>
 bif (decide ((s21:Int)<(List.length x0.1:Int))) then
 bif (inB s21 x0.1) then
 (JN (List.getD x0.1 (Int.toNat s21) 0)).bind fun y22=>
 bif (!y22) then
 some (Sum.inr (Sum.inr 3))
 else
 some (Sum.inl (IntKind.wrap .i64 (s21+1)))
 else none
 else
 some (Sum.inr (Sum.inl ()))) 0).bind fun j23=>
 Sum.elim (fun (j24:Unit)=>
 ((QZ x0.2.1 1 (List.length x0.1:Int)).bind fun y28=>
 bif (!y28) then
 some true
 else
 (Jt x0.2.2).bind fun y29=>
 some (!y29):Option (Bool)).bind fun j30=>
 bif j30 then
 some 3
 else
 (Qf (S:=Int) (X:=(Unit)⊕(Int)) (fun s31=>
 bif (decide ((s31:Int)<(List.length x0.1:Int))) then
 bif (inB s31 x0.1) then
 bif (inB (IntKind.wrap .i64 (s31 - 1)) x0.1) then
 bif (decide ((List.getD x0.1 (Int.toNat s31) 0:Int)<=List.getD x0.1 (Int.toNat (IntKind.wrap .i64 (s31 - 1))) 0)) then
 some (Sum.inr (Sum.inr 1))
 else
 some (Sum.inl (IntKind.wrap .i64 (s31+1)))
 else none
 else none
 else
 some (Sum.inr (Sum.inl ()))) 1).bind fun j32=>
 Sum.elim (fun (j33:Unit)=>
 some 0) (fun (j34:Int)=>
 some j34) j32) (fun (j25:Int)=>
 some j25) j23
def Qah:Callee:=⟨[.rp s2 false],[((.int .i64),.z)],fun t=>QbG t.1,true⟩
def Qnf:Ctx:=⟨tys,[(49,YV),(65,ZD),(121,YS)],[],[(5,(⟨[(0,.keep),(3,.keep),(4,.st (.int .i64) .z false)],[]⟩,⟨[((.exit 0),⟨[(0,.keep),(3,.keep)],[]⟩),(.ret,⟨[(2,.st (.int .i64) .z false)],[]⟩)]⟩)),
 (12,(⟨[(0,.keep),(5,.st (.int .i64) .z false)],[]⟩,⟨[((.exit 2),⟨[],[]⟩),(.ret,⟨[(2,.st (.int .i64) .z false)],[]⟩)]⟩))],[],[(9,⟨[(0,.keep),(46,.st .bool .z false)],[]⟩)],[],[]⟩
def QgQ (x0:Int×Int×List (Int×Int)×List (Int×List Int×Int×Int)):Option (Int):=
 (Qf (S:=Int) (X:=(Unit)⊕(Int)) (fun s16=>
 bif (decide ((s16:Int)<(List.length x0.2.2.2:Int))) then
 bif (inB s16 x0.2.2.2) then
 (QZ (List.getD x0.2.2.2 (Int.toNat s16) (0,([],(0,0)))).1 1 1000000).bind fun y17=>
 bif (!y17) then
 some (Sum.inr (Sum.inr 3))
 else
 bif (inB s16 x0.2.2.2) then
 (QbG (List.getD x0.2.2.2 (Int.toNat s16) (0,([],(0,0)))).2).bind fun y18=>
 bif (!decide ((y18:Int)=0)) then
 some (Sum.inr (Sum.inr y18))
 else
 some (Sum.inl (IntKind.wrap .i64 (s16+1)))
 else none
 else none
 else
 some (Sum.inr (Sum.inl ()))) 0).bind fun j19=>
 Sum.elim (fun (j20:Unit)=>
 (bif (decide ((x0.1:Int)=1)) then
 bif (inB 0 x0.2.2.2) then
 some (decide (((List.getD x0.2.2.2 (Int.toNat 0) (0,([],(0,0)))).1:Int)<100))
 else none
 else
 some false:Option (Bool)).bind fun j22=>
 bif j22 then
 some 8
 else
 some 0) (fun (j21:Int)=>
 some j21) j19
def Qew:Callee:=⟨[.rp s15 false],[((.int .i64),.z)],fun t=>QgQ t.1,true⟩
def Qoq:Ctx:=⟨tys,[(65,ZD),(172,Qah)],[],[(2,(⟨[(0,.keep),(3,.st (.int .i64) .z false)],[]⟩,⟨[((.exit 0),⟨[(0,.keep)],[]⟩),(.ret,⟨[(2,.st (.int .i64) .z false)],[]⟩)]⟩))],[],[(9,⟨[(49,.st .bool .z false)],[]⟩)],[],[]⟩
def Qaj (x0:Int×Int×List (Int×Int)×List (Int×List Int×Int×Int)):Option (Int):=
 ((QZ x0.1 0 2).bind fun y24=>
 bif (!y24) then
 some true
 else
 some (!(Sh.beq .bool (decide ((x0.1:Int)=0)) (decide ((x0.2.1:Int)=0)))):Option (Bool)).bind fun j25=>
 bif j25 then
 some 1
 else
 (bif (!decide ((x0.1:Int)=0)) then
 (JN x0.2.1).bind fun y27=>
 some (!y27)
 else
 some false:Option (Bool)).bind fun j28=>
 bif j28 then
 some 3
 else
 ((QZ (List.length x0.2.2.1:Int) 1 4).bind fun y31=>
 bif (!y31) then
 some true
 else
 (QZ (List.length x0.2.2.2:Int) 1 4).bind fun y32=>
 some (!y32):Option (Bool)).bind fun j33=>
 bif j33 then
 some 2
 else
 (Qf (S:=Int) (X:=(Unit)⊕(Int)) (fun s38=>
 bif (decide ((s38:Int)<(List.length x0.2.2.1:Int))) then
 bif (inB s38 x0.2.2.1) then
 (Qdv (List.getD x0.2.2.1 (Int.toNat s38) (0,0))).bind fun y39=>
 bif (!y39) then
 some (Sum.inr (Sum.inr 3))
 else
 bif (QT 0 s38 x0.2.2.1) then
 bif (inB s38 x0.2.2.1) then
 (ZH (cut 0 s38 x0.2.2.1) (List.getD x0.2.2.1 (Int.toNat s38) (0,0))).bind fun y40=>
 bif y40 then
 some (Sum.inr (Sum.inr 7))
 else
 some (Sum.inl (IntKind.wrap .i64 (s38+1)))
 else none
 else none
 else none
 else
 some (Sum.inr (Sum.inl ()))) 0).bind fun j41=>
 Sum.elim (fun (j42:Unit)=>
 (QgQ x0).bind fun y44=>
 some y44) (fun (j43:Int)=>
 some j43) j41
def Jg:Callee:=⟨[.rp s15 false],[((.int .i64),.z)],fun t=>Qaj t.1,true⟩
def QmQ:Ctx:=⟨tys,[(49,YV),(65,ZD),(79,ZG),(120,QbM),(173,Qew)],[],[(8,(⟨[(0,.keep),(3,.st (.int .i64) .z false)],[]⟩,⟨[((.exit 0),⟨[(0,.keep)],[]⟩),(.ret,⟨[(2,.st (.int .i64) .z false)],[]⟩)]⟩))],[],[(1,⟨[(0,.keep),(22,.st .bool .z false)],[]⟩),
 (3,⟨[(0,.keep),(35,.st .bool .z false)],[]⟩),
 (5,⟨[(0,.keep),(51,.st .bool .z false)],[]⟩)],[],[]⟩
def Yt (x0:List UInt8) (x1:Int):Option (List (List UInt8)):=
 (Qf (S:=List (List UInt8)×Int×Int) (X:=List (List UInt8)) (fun s13=>
 bif (decide ((s13.2.2:Int)<=(List.length x0:Int))) then
 (bif (decide ((s13.2.2:Int)=(List.length x0:Int))) then
 some true
 else
 bif (inB s13.2.2 x0) then
 some (decide ((((List.getD x0 (Int.toNat s13.2.2) 0).toNat:Int):Int)=x1))
 else none:Option (Bool)).bind fun j14=>
 (bif j14 then
 bif (QT s13.2.1 s13.2.2 x0) then
 bif decide (List.length s13.1+List.length ([cut s13.2.1 s13.2.2 x0]:List (List UInt8))<=LIM) then
 some (List.append s13.1 ([cut s13.2.1 s13.2.2 x0]:List (List UInt8)),IntKind.wrap .i64 (s13.2.2+1))
 else none
 else none
 else
 some (s13.1,s13.2.1):Option (List (List UInt8)×Int)).bind fun j15=>
 some (Sum.inl (j15.1,(j15.2,IntKind.wrap .i64 (s13.2.2+1))))
 else
 some (Sum.inr s13.1)) (([]:List (List UInt8)),(0,0))).bind fun j16=>
 some j16
def QaE:Callee:=⟨[.v .str .z,.v (.int .u8) .z],[((.list .str),(.o .z))],fun t=>Yt t.1 t.2.1,true⟩
def Qq2:Ctx:=⟨tys,[],[],[(4,(⟨[(0,.keep),(1,.keep),(5,.st (.list .str) (.o .z) false),(6,.st (.int .i64) .z false),(7,.st (.int .i64) .z false)],[]⟩,⟨[((.exit 0),⟨[(5,.st (.list .str) (.o .z) false)],[]⟩)]⟩))],[(7,⟨[(.normal,⟨[(0,.keep),(1,.keep),(5,.st (.list .str) (.o .z) false),(6,.st (.int .i64) .z false),(7,.keep)],[]⟩)]⟩)],[(6,⟨[(0,.keep),(1,.keep),(5,.keep),(6,.keep),(7,.keep),(25,.st .bool .z false)],[]⟩)],[],[]⟩
def QC (x0:List UInt8) (x1:Int):Option (Int×Bool):=
 (bif (decide (((List.length x0:Int):Int)<1)) then
 some true
 else
 bif (decide ((x1:Int)<(List.length x0:Int))) then
 some true
 else
 bif (decide ((1:Int)<(List.length x0:Int))) then
 bif (inB 0 x0) then
 some (decide ((((List.getD x0 (Int.toNat 0) 0).toNat:Int):Int)=48))
 else none
 else
 some false:Option (Bool)).bind fun j9=>
 bif j9 then
 some (0,false)
 else
 (Qf (S:=Int×Int) (X:=(Int)⊕(Int×Bool)) (fun s12=>
 bif (decide ((s12.2:Int)<(List.length x0:Int))) then
 (bif (inB s12.2 x0) then
 bif (decide ((((List.getD x0 (Int.toNat s12.2) 0).toNat:Int):Int)<48)) then
 some true
 else
 bif (inB s12.2 x0) then
 some (decide ((57:Int)<((List.getD x0 (Int.toNat s12.2) 0).toNat:Int)))
 else none
 else none:Option (Bool)).bind fun j13=>
 bif j13 then
 some (Sum.inr (Sum.inr (0,false)))
 else
 bif (inB s12.2 x0) then
 some (Sum.inl (IntKind.wrap .i64 ((IntKind.wrap .i64 (s12.1 * 10))+(IntKind.wrap .i64 (IntKind.wrap .u8 (((List.getD x0 (Int.toNat s12.2) 0).toNat:Int) - 48)))),IntKind.wrap .i64 (s12.2+1)))
 else none
 else
 some (Sum.inr (Sum.inl s12.1))) (0,0)).bind fun j14=>
 Sum.elim (fun (j15:Int)=>
 some (j15,true)) (fun (j16:Int×Bool)=>
 some (j16.1,j16.2)) j14
def YQ:Callee:=⟨[.v .str .z,.v (.int .i64) .z],[((.int .i64),.z),(.bool,.z)],fun t=>QC t.1 t.2.1,true⟩
def QlL:Ctx:=⟨tys,[],[],[(5,(⟨[(0,.keep),(6,.st (.int .i64) .z false),(7,.st (.int .i64) .z false)],[]⟩,⟨[((.exit 0),⟨[(6,.st (.int .i64) .z false)],[]⟩),(.ret,⟨[(4,.st (.int .i64) .z false),(5,.st .bool .z false)],[]⟩)]⟩))],[],[(1,⟨[(0,.keep),(26,.st .bool .z false)],[]⟩),
 (7,⟨[(0,.keep),(6,.keep),(7,.keep),(42,.st .bool .z false)],[]⟩)],[],[]⟩
def Qh5 (x0:List UInt8):Option (List (Int×Int)×Bool):=
 (Yt x0 43).bind fun y18=>
 (Qf (S:=List (Int×Int)×Int) (X:=(List (Int×Int))⊕(List (Int×Int)×Bool)) (fun s27=>
 bif (decide ((s27.2:Int)<(List.length y18:Int))) then
 bif (inB s27.2 y18) then
 (Yt (List.getD y18 (Int.toNat s27.2) []) 58).bind fun y28=>
 bif (!decide (((List.length y28:Int):Int)=2)) then
 some (Sum.inr (Sum.inr (([]:List (Int×Int)),false)))
 else
 bif (inB 0 y28) then
 (QC (List.getD y28 (Int.toNat 0) []) 2).bind fun y29=>
 bif (inB 1 y28) then
 (QC (List.getD y28 (Int.toNat 1) []) 1).bind fun y30=>
 (bif (!y29.2) then
 some true
 else
 some (!y30.2):Option (Bool)).bind fun j31=>
 bif j31 then
 some (Sum.inr (Sum.inr (([]:List (Int×Int)),false)))
 else
 bif decide (List.length s27.1+List.length ([(y29.1,y30.1)]:List (Int×Int))<=LIM) then
 some (Sum.inl (List.append s27.1 ([(y29.1,y30.1)]:List (Int×Int)),IntKind.wrap .i64 (s27.2+1)))
 else none
 else none
 else none
 else none
 else
 some (Sum.inr (Sum.inl s27.1))) (([]:List (Int×Int)),0)).bind fun j32=>
 Sum.elim (fun (j33:List (Int×Int))=>
 some (j33,true)) (fun (j34:List (Int×Int)×Bool)=>
 some (j34.1,j34.2)) j32
def Qfi:Callee:=⟨[.v .str .z],[((.list s0),(.o .z)),(.bool,.z)],fun t=>Qh5 t.1,true⟩
def Qre:Ctx:=⟨tys,[(187,QaE),(188,YQ)],[],[(4,(⟨[(4,.st (.list s0) (.o .z) false),(5,.keep),(6,.st (.int .i64) .z false)],[]⟩,⟨[((.exit 0),⟨[(4,.st (.list s0) (.o .z) false)],[]⟩),(.ret,⟨[(2,.st (.list s0) (.o .z) false),(3,.st .bool .z false)],[]⟩)]⟩))],[],[(11,⟨[(4,.keep),(5,.keep),(6,.keep),(8,.keep),(10,.keep),(48,.st .bool .z false)],[]⟩)],[],[]⟩
def QfR (x0:List UInt8):Option ((List Int×Int×Int)×Bool):=
 (Yt x0 32).bind fun y21=>
 (bif (!decide (((List.length y21:Int):Int)=3)) then
 bif (!decide (((List.length y21:Int):Int)=5)) then
 some true
 else
 bif (inB 1 y21) then
 some (!decide ((List.getD y21 (Int.toNat 1) []:List UInt8)=[111,102]))
 else none
 else
 bif (inB 1 y21) then
 some (!decide ((List.getD y21 (Int.toNat 1) []:List UInt8)=[111,102]))
 else none:Option (Bool)).bind fun j22=>
 bif j22 then
 some (([],(0,0)),false)
 else
 bif (inB 0 y21) then
 (QC (List.getD y21 (Int.toNat 0) []) 1).bind fun y23=>
 bif (inB 2 y21) then
 (Yt (List.getD y21 (Int.toNat 2) []) 44).bind fun y24=>
 (Qf (S:=Bool×Int×List Int×Int×Int) (X:=Bool×List Int×Int×Int) (fun s29=>
 bif (decide ((s29.2.1:Int)<(List.length y24:Int))) then
 bif (inB s29.2.1 y24) then
 (QC (List.getD y24 (Int.toNat s29.2.1) []) 3).bind fun y30=>
 (bif s29.1 then
 some y30.2
 else
 some false:Option (Bool)).bind fun j31=>
 bif decide (List.length s29.2.2.1+List.length ([y30.1]:List Int)<=LIM) then
 some (Sum.inl (j31,(IntKind.wrap .i64 (s29.2.1+1),(List.append s29.2.2.1 ([y30.1]:List Int),s29.2.2.2))))
 else none
 else none
 else
 some (Sum.inr (s29.1,s29.2.2))) (y23.2,(0,([],(y23.1,0))))).bind fun j32=>
 (bif (decide (((List.length y21:Int):Int)=5)) then
 bif (inB 4 y21) then
 (QC (List.getD y21 (Int.toNat 4) []) 3).bind fun y35=>
 (bif j32.1 then
 bif y35.2 then
 bif (inB 3 y21) then
 bif (decide ((List.getD y21 (Int.toNat 3) []:List UInt8)=[97,102,116,101,114])) then
 some (decide ((0:Int)<y35.1))
 else
 some false
 else none
 else
 some false
 else
 some false:Option (Bool)).bind fun j36=>
 some (j36,(j32.2.1,(j32.2.2.1,y35.1)))
 else none
 else
 some (j32.1,j32.2):Option (Bool×List Int×Int×Int)).bind fun j37=>
 (bif j37.1 then
 (QbG j37.2).bind fun y39=>
 some (decide ((y39:Int)=0),j37.2)
 else
 some (false,j37.2):Option (Bool×List Int×Int×Int)).bind fun j40=>
 some (j40.2,j40.1)
 else none
 else none
def Qdr:Callee:=⟨[.v .str .z],[(s2,(.p (.o .z) .z)),(.bool,.z)],fun t=>QfR t.1,true⟩
def Qmy:Ctx:=⟨tys,[(172,Qah),(187,QaE),(188,YQ)],[],[(8,(⟨[(2,.keep),(4,.keep),(6,.st .bool .z false),(7,.keep),(8,.keep),(9,.st (.int .i64) .z false)],[(2,.keep),(7,.st s2 (.p (.o .z) .z) false)]⟩,⟨[((.exit 0),⟨[(2,.keep),(4,.keep),(6,.st .bool .z false),(7,.keep)],[(2,.keep),(7,.st s2 (.p (.o .z) .z) false)]⟩)]⟩))],[(14,⟨[(.normal,⟨[(2,.keep),(6,.st .bool .z false),(7,.keep)],[(2,.keep),(7,.st s2 (.p (.o .z) .z) false)]⟩)]⟩)],[(2,⟨[(2,.keep),(4,.keep),(29,.st .bool .z false)],[(2,.keep)]⟩),
 (11,⟨[(2,.keep),(4,.keep),(6,.st .bool .z false),(7,.keep),(8,.keep),(9,.keep),(10,.keep)],[(2,.keep),(7,.keep)]⟩),
 (15,⟨[(2,.keep),(6,.st .bool .z false),(7,.keep),(12,.keep)],[(2,.keep),(7,.keep)]⟩),
 (17,⟨[(2,.keep),(3,.st .bool .z false)],[(2,.st s2 (.p (.o .z) .z) false)]⟩)],[],[]⟩
def QfT (x0:List UInt8):Option ((Int×Int×List (Int×Int)×List (Int×List Int×Int×Int))×Bool):=
 (Yt x0 32).bind fun y38=>
 (bif (inB 0 y38) then
 bif (decide ((List.getD y38 (Int.toNat 0) []:List UInt8)=[106,111,105,110])) then
 some true
 else
 bif (inB 0 y38) then
 some (decide ((List.getD y38 (Int.toNat 0) []:List UInt8)=[108,101,97,118,101]))
 else none
 else none:Option (Bool)).bind fun j39=>
 (bif j39 then
 bif (decide (((List.length y38:Int):Int)<2)) then
 some (Sum.inr (false,(0,(0,([],[])))))
 else
 bif (inB 1 y38) then
 (QC (List.getD y38 (Int.toNat 1) []) 3).bind fun y42=>
 bif (!y42.2) then
 some (Sum.inr (false,(0,(0,([],[])))))
 else
 bif (inB 0 y38) then
 (bif (decide ((List.getD y38 (Int.toNat 0) []:List UInt8)=[108,101,97,118,101])) then
 some (2,(0,([],[])))
 else
 some (1,(0,([],[]))):Option (Int×Int×List (Int×Int)×List (Int×List Int×Int×Int))).bind fun j43=>
 some (Sum.inl (2,(j43.1,(y42.1,j43.2.2))))
 else none
 else none
 else
 bif (inB 0 y38) then
 bif (!decide ((List.getD y38 (Int.toNat 0) []:List UInt8)=[112,97,121])) then
 some (Sum.inr (false,(0,(0,([],[])))))
 else
 some (Sum.inl (1,(0,(0,([],[])))))
 else none:Option ((Int×Int×Int×List (Int×Int)×List (Int×List Int×Int×Int))⊕(Bool×Int×Int×List (Int×Int)×List (Int×List Int×Int×Int)))).bind fun j44=>
 Sum.elim (fun (j45:Int×Int×Int×List (Int×Int)×List (Int×List Int×Int×Int))=>
 bif (decide (((List.length y38:Int):Int)<IntKind.wrap .i64 (j45.1+2))) then
 some (j45.2,false)
 else
 bif (inB j45.1 y38) then
 (Qh5 (List.getD y38 (Int.toNat j45.1) [])).bind fun y47=>
 (Qf (S:=Bool×Int×Int×Int×List (Int×Int)×List (Int×List Int×Int×Int)) (X:=(Bool×Int×Int×List (Int×Int)×List (Int×List Int×Int×Int))⊕(Bool×Int×Int×List (Int×Int)×List (Int×List Int×Int×Int))) (fun s60=>
 (bif (decide ((s60.2.1:Int)<(List.length y38:Int))) then
 some s60.1
 else
 some false:Option (Bool)).bind fun j61=>
 bif j61 then
 bif (inB s60.2.1 y38) then
 (Yt (List.getD y38 (Int.toNat s60.2.1) []) 61).bind fun y62=>
 bif (!decide (((List.length y62:Int):Int)=2)) then
 some (Sum.inr (Sum.inr (false,s60.2.2)))
 else
 bif (inB 0 y62) then
 (QC (List.getD y62 (Int.toNat 0) []) 7).bind fun y63=>
 bif (inB 1 y62) then
 (Qa6 (List.getD y62 (Int.toNat 1) []) 95 32).bind fun y64=>
 (QfR y64).bind fun y65=>
 (bif y63.2 then
 some y65.2
 else
 some false:Option (Bool)).bind fun j66=>
 bif decide (List.length s60.2.2.2.2.2+List.length ([(y63.1,y65.1)]:List (Int×List Int×Int×Int))<=LIM) then
 some (Sum.inl (j66,(IntKind.wrap .i64 (s60.2.1+1),(s60.2.2.1,(s60.2.2.2.1,(s60.2.2.2.2.1,List.append s60.2.2.2.2.2 ([(y63.1,y65.1)]:List (Int×List Int×Int×Int))))))))
 else none
 else none
 else none
 else none
 else
 some (Sum.inr (Sum.inl (s60.1,s60.2.2)))) (y47.2,(IntKind.wrap .i64 (j45.1+1),(j45.2.1,(j45.2.2.1,(y47.1,j45.2.2.2.2)))))).bind fun j67=>
 Sum.elim (fun (j68:Bool×Int×Int×List (Int×Int)×List (Int×List Int×Int×Int))=>
 (bif j68.1 then
 (Qaj j68.2).bind fun y72=>
 bif (decide ((y72:Int)=0)) then
 (Y3 j68.2).bind fun y73=>
 bif (decide ((y73:List UInt8)=x0)) then
 some (decide (((List.length x0:Int):Int)<=300),j68.2)
 else
 some (false,j68.2)
 else
 some (false,j68.2)
 else
 some (false,j68.2):Option (Bool×Int×Int×List (Int×Int)×List (Int×List Int×Int×Int))).bind fun j74=>
 some (j74.2,j74.1)) (fun (j69:Bool×Int×Int×List (Int×Int)×List (Int×List Int×Int×Int))=>
 some (j69.2,j69.1)) j67
 else none) (fun (j46:Bool×Int×Int×List (Int×Int)×List (Int×List Int×Int×Int))=>
 some (j46.2,j46.1)) j44
def Qc7:Callee:=⟨[.v .str .z],[(s15,(.p .z (.p .z (.p (.o .z) (.o (.p .z (.p (.o .z) .z))))))),(.bool,.z)],fun t=>QfT t.1,false⟩
def QmV:Ctx:=⟨tys,[(117,JU),(124,Jg),(168,Qjs),(187,QaE),(188,YQ),(189,Qfi),(190,Qdr)],[],[(22,(⟨[(0,.keep),(2,.keep),(4,.keep),(5,.keep),(10,.st .bool .z false),(11,.st (.int .i64) .z false)],[(2,.keep),(5,.st s15 (.p .z (.p .z (.p (.o .z) (.o (.p .z (.p (.o .z) .z)))))) false)]⟩,⟨[((.exit 0),⟨[(0,.keep),(2,.keep),(5,.keep),(10,.st .bool .z false)],[(2,.keep),(5,.st s15 (.p .z (.p .z (.p (.o .z) (.o (.p .z (.p (.o .z) .z)))))) false)]⟩),(.ret,⟨[(2,.keep),(3,.st .bool .z false)],[(2,.st s15 (.p .z (.p .z (.p (.o .z) (.o (.p .z (.p (.o .z) .z)))))) false)]⟩)]⟩))],[(5,⟨[(.normal,⟨[(0,.keep),(2,.keep),(4,.keep),(5,.keep),(6,.st (.int .i64) .z false)],[(2,.keep),(5,.st s15 (.p .z (.p .z (.p (.o .z) (.o (.p .z (.p (.o .z) .z)))))) false)]⟩),(.ret,⟨[(2,.keep),(3,.st .bool .z false)],[(2,.st s15 (.p .z (.p .z (.p (.o .z) (.o (.p .z (.p (.o .z) .z)))))) false)]⟩)]⟩),
 (12,⟨[(.normal,⟨[(0,.keep),(2,.keep),(4,.keep),(5,.keep),(7,.keep)],[(2,.keep),(5,.st s15 (.p .z (.p .z (.p (.o .z) (.o (.p .z (.p (.o .z) .z)))))) false)]⟩)]⟩)],[(4,⟨[(0,.keep),(2,.keep),(4,.keep),(5,.keep),(6,.keep),(29,.st .bool .z false)],[(2,.keep),(5,.keep)]⟩),
 (22,⟨[(0,.keep),(2,.keep),(4,.keep),(5,.keep),(10,.keep),(11,.keep),(81,.st .bool .z false)],[(2,.keep),(5,.keep)]⟩),
 (29,⟨[(0,.keep),(2,.keep),(4,.keep),(5,.keep),(10,.st .bool .z false),(11,.keep),(13,.keep),(15,.keep)],[(2,.keep),(5,.keep),(15,.keep)]⟩),
 (31,⟨[(2,.keep),(3,.st .bool .z false)],[(2,.st s15 (.p .z (.p .z (.p (.o .z) (.o (.p .z (.p (.o .z) .z)))))) false)]⟩)],[],[]⟩
def QiA (x0:List UInt8):Option (Int×Int×Int×List (Int×Int)×List (Int×List Int×Int×Int)):=
 (QfT x0).bind fun y2=>
 bif (!y2.2) then
 some (5,(0,(0,([],[]))))
 else
 some (0,y2.1)
def Qdy:Callee:=⟨[.v .str .z],[(s16,(.p .z (.p .z (.p .z (.p (.o .z) (.o (.p .z (.p (.o .z) .z))))))))],fun t=>QiA t.1,false⟩
def QmL:Ctx:=⟨tys,[(136,Qc7)],[],[],[],[],[],[]⟩
def QcN (x0:List (List UInt8)×List (Int×Int)) (x1:Int):Option (Int×Int×Int×List (Int×Int)×List (Int×List Int×Int×Int)):=
 (Qcf x0 x1).bind fun y3=>
 bif (!decide ((y3.1:Int)=0)) then
 some (y3.1,(0,(0,([],[]))))
 else
 (QiA y3.2).bind fun y4=>
 some y4
def QeO:Callee:=⟨[.v s1 .z,.v (.int .i64) .z],[(s16,(.p .z (.p .z (.p .z (.p (.o .z) (.o (.p .z (.p (.o .z) .z))))))))],fun t=>QcN t.1 t.2.1,false⟩
def Qsl:Ctx:=⟨tys,[(77,Qcc),(78,Qdy)],[],[],[],[],[],[]⟩
def Qgk (x0:Int×Int×List (Int×Int)×List (Int×List Int×Int×Int)) (x1:Int×Int×List (Int×Int)×List (Int×List Int×Int×Int)):Option (Bool):=
 (Qf (S:=Int) (X:=(Unit)⊕(Bool)) (fun s10=>
 bif (decide ((s10:Int)<(List.length x0.2.2.1:Int))) then
 bif (inB s10 x0.2.2.1) then
 (ZH x1.2.2.1 (List.getD x0.2.2.1 (Int.toNat s10) (0,0))).bind fun y11=>
 bif y11 then
 some (Sum.inr (Sum.inr true))
 else
 some (Sum.inl (IntKind.wrap .i64 (s10+1)))
 else none
 else
 some (Sum.inr (Sum.inl ()))) 0).bind fun j12=>
 Sum.elim (fun (j13:Unit)=>
 some false) (fun (j14:Bool)=>
 some j14) j12
def Qdh:Callee:=⟨[.rp s15 false,.rp s15 false],[(.bool,.z)],fun t=>Qgk t.1 t.2.1,true⟩
def Qm2:Ctx:=⟨tys,[(79,ZG)],[],[(2,(⟨[(0,.keep),(1,.keep),(5,.st (.int .i64) .z false)],[]⟩,⟨[((.exit 0),⟨[],[]⟩),(.ret,⟨[(4,.st .bool .z false)],[]⟩)]⟩))],[],[],[],[]⟩
def QfG (x0:Int×List Int×Int×Int):Option (Int):=
 (QZ x0.1 1 1000000).bind fun y3=>
 bif (!y3) then
 some 3
 else
 (QbG x0.2).bind fun y4=>
 some y4
def Qdi:Callee:=⟨[.rp s3 false],[((.int .i64),.z)],fun t=>QfG t.1,true⟩
def QqD:Ctx:=⟨tys,[(65,ZD),(172,Qah)],[],[],[],[],[],[]⟩
def QdG (x0:Int×Int) (x1:Int×Int):Option (Bool):=
 bif (!decide ((x0.1:Int)=x1.1)) then
 some (decide ((x0.1:Int)<x1.1))
 else
 some (decide ((x0.2:Int)<x1.2))
def Qby:Callee:=⟨[.v s0 .z,.v s0 .z],[(.bool,.z)],fun t=>QdG t.1 t.2.1,true⟩
def Qnh:Ctx:=⟨tys,[],[],[],[],[],[],[]⟩
def Qai (x0:List ((Int×Int)×(Int×List Int×Int×Int)×Int×Bool)):Option (Int):=
 bif (decide ((40:Int)<(List.length x0:Int))) then
 some 2
 else
 (Qf (S:=Int) (X:=(Unit)⊕(Int)) (fun s44=>
 bif (decide ((s44:Int)<(List.length x0:Int))) then
 (bif (inB s44 x0) then
 (Qdv (List.getD x0 (Int.toNat s44) ((0,0),((0,([],(0,0))),(0,false)))).1).bind fun y47=>
 bif (!y47) then
 some true
 else
 bif (inB s44 x0) then
 (Jt (List.getD x0 (Int.toNat s44) ((0,0),((0,([],(0,0))),(0,false)))).2.2.1).bind fun y48=>
 some (!y48)
 else none
 else none:Option (Bool)).bind fun j49=>
 bif j49 then
 some (Sum.inr (Sum.inr 3))
 else
 bif (inB s44 x0) then
 (QfG (List.getD x0 (Int.toNat s44) ((0,0),((0,([],(0,0))),(0,false)))).2.1).bind fun y50=>
 bif (!decide ((y50:Int)=0)) then
 some (Sum.inr (Sum.inr y50))
 else
 (bif (decide ((0:Int)<s44)) then
 bif (inB (IntKind.wrap .i64 (s44 - 1)) x0) then
 bif (inB s44 x0) then
 (QdG (List.getD x0 (Int.toNat (IntKind.wrap .i64 (s44 - 1))) ((0,0),((0,([],(0,0))),(0,false)))).1 (List.getD x0 (Int.toNat s44) ((0,0),((0,([],(0,0))),(0,false)))).1).bind fun y52=>
 some (!y52)
 else none
 else none
 else
 some false:Option (Bool)).bind fun j53=>
 bif j53 then
 some (Sum.inr (Sum.inr 1))
 else
 some (Sum.inl (IntKind.wrap .i64 (s44+1)))
 else none
 else
 some (Sum.inr (Sum.inl ()))) 0).bind fun j54=>
 Sum.elim (fun (j55:Unit)=>
 some 0) (fun (j56:Int)=>
 some j56) j54
def Jj:Callee:=⟨[.v (.list s6) .z],[((.int .i64),.z)],fun t=>Qai t.1,true⟩
def Qm5:Ctx:=⟨tys,[(120,QbM),(121,YS),(122,Qdi),(123,Qby)],[],[(4,(⟨[(0,.keep),(3,.st (.int .i64) .z false)],[]⟩,⟨[((.exit 0),⟨[],[]⟩),(.ret,⟨[(2,.st (.int .i64) .z false)],[]⟩)]⟩))],[],[(6,⟨[(0,.keep),(3,.keep),(29,.st .bool .z false)],[]⟩),
 (11,⟨[(0,.keep),(3,.keep),(54,.st .bool .z false)],[]⟩)],[],[]⟩
def QgY (x0:Int×Int×List (Int×Int)×List (Int×List Int×Int×Int)):Option (Int×List UInt8):=
 (Qaj x0).bind fun y3=>
 bif (!decide ((y3:Int)=0)) then
 some (y3,[])
 else
 (Y3 x0).bind fun y4=>
 bif (decide ((300:Int)<(List.length y4:Int))) then
 some (2,[])
 else
 some (0,y4)
def Qeu:Callee:=⟨[.v s15 .z],[(s21,.z)],fun t=>QgY t.1,false⟩
def QoT:Ctx:=⟨tys,[(117,JU),(124,Jg)],[],[],[],[],[],[]⟩
def JS (x0:(Int×Int)×(Int×List Int×Int×Int)×Int×Bool) (x1:Int):Option (Bool):=
 (bif (!x0.2.2.2) then
 some true
 else
 some (decide ((IntKind.wrap .i64 (x0.2.2.1+2):Int)<=x1)):Option (Bool)).bind fun j2=>
 some j2
def Qa9:Callee:=⟨[.rp s6 false,.v (.int .i64) .z],[(.bool,.z)],fun t=>JS t.1 t.2.1,true⟩
def Qpt:Ctx:=⟨tys,[],[],[],[],[(1,⟨[(4,.st .bool .z false)],[]⟩)],[],[]⟩
def Qbc (x0:List Int×Int×Int):Option (List Int×Int×Int):=
 bif decide (List.length ([]:List Int)+List.length x0.1<=LIM) then
 some (List.append ([]:List Int) x0.1,x0.2)
 else none
def Qcd:Callee:=⟨[.v s2 .z],[(s2,(.p (.o .z) .z))],fun t=>Qbc t.1,true⟩
def Qox:Ctx:=⟨tys,[],[],[],[],[],[],[]⟩
def Qa8 (x0:List ((Int×Int)×(Int×List Int×Int×Int)×Int×Bool)):Option (List ((Int×Int)×(Int×List Int×Int×Int)×Int×Bool)):=
 (Qf (S:=List ((Int×Int)×(Int×List Int×Int×Int)×Int×Bool)×Int) (X:=List ((Int×Int)×(Int×List Int×Int×Int)×Int×Bool)) (fun s8=>
 bif (decide ((s8.2:Int)<(List.length x0:Int))) then
 bif (inB s8.2 x0) then
 (Qbc (List.getD x0 (Int.toNat s8.2) ((0,0),((0,([],(0,0))),(0,false)))).2.1.2).bind fun y9=>
 bif decide (List.length s8.1+List.length ([((List.getD x0 (Int.toNat s8.2) ((0,0),((0,([],(0,0))),(0,false)))).1,(((List.getD x0 (Int.toNat s8.2) ((0,0),((0,([],(0,0))),(0,false)))).2.1.1,y9),(List.getD x0 (Int.toNat s8.2) ((0,0),((0,([],(0,0))),(0,false)))).2.2))]:List ((Int×Int)×(Int×List Int×Int×Int)×Int×Bool))<=LIM) then
 some (Sum.inl (List.append s8.1 ([((List.getD x0 (Int.toNat s8.2) ((0,0),((0,([],(0,0))),(0,false)))).1,(((List.getD x0 (Int.toNat s8.2) ((0,0),((0,([],(0,0))),(0,false)))).2.1.1,y9),(List.getD x0 (Int.toNat s8.2) ((0,0),((0,([],(0,0))),(0,false)))).2.2))]:List ((Int×Int)×(Int×List Int×Int×Int)×Int×Bool)),IntKind.wrap .i64 (s8.2+1)))
 else none
 else none
 else
 some (Sum.inr s8.1)) (([]:List ((Int×Int)×(Int×List Int×Int×Int)×Int×Bool)),0)).bind fun j10=>
 some j10
def JR:Callee:=⟨[.v (.list s6) .z],[((.list s6),(.o (.p .z (.p (.p .z (.p (.o .z) .z)) .z))))],fun t=>Qa8 t.1,true⟩
def Qpg:Ctx:=⟨tys,[(242,Qcd)],[],[(3,(⟨[(0,.keep),(3,.st (.list s6) (.o (.p .z (.p (.p .z (.p (.o .z) .z)) .z))) false),(4,.st (.int .i64) .z false)],[]⟩,⟨[((.exit 0),⟨[(3,.st (.list s6) (.o (.p .z (.p (.p .z (.p (.o .z) .z)) .z))) false)],[]⟩)]⟩))],[],[],[],[]⟩
def QbI (x0:List ((Int×Int)×(Int×List Int×Int×Int)×Int×Bool)) (x1:Int×Int×List (Int×Int)×List (Int×List Int×Int×Int)):Option (List ((Int×Int)×(Int×List Int×Int×Int)×Int×Bool)×Bool):=
 (Qf (S:=List ((Int×Int)×(Int×List Int×Int×Int)×Int×Bool)×Int) (X:=List ((Int×Int)×(Int×List Int×Int×Int)×Int×Bool)) (fun s14=>
 bif (decide ((s14.2:Int)<(List.length x0:Int))) then
 bif (inB s14.2 x0) then
 (ZH x1.2.2.1 (List.getD x0 (Int.toNat s14.2) ((0,0),((0,([],(0,0))),(0,false)))).1).bind fun y15=>
 (bif y15 then
 bif (inB s14.2 x0) then
 bif decide (List.length s14.1+List.length ([List.getD x0 (Int.toNat s14.2) ((0,0),((0,([],(0,0))),(0,false)))]:List ((Int×Int)×(Int×List Int×Int×Int)×Int×Bool))<=LIM) then
 some (List.append s14.1 ([List.getD x0 (Int.toNat s14.2) ((0,0),((0,([],(0,0))),(0,false)))]:List ((Int×Int)×(Int×List Int×Int×Int)×Int×Bool)))
 else none
 else none
 else
 some s14.1:Option (List ((Int×Int)×(Int×List Int×Int×Int)×Int×Bool))).bind fun j16=>
 some (Sum.inl (j16,IntKind.wrap .i64 (s14.2+1)))
 else none
 else
 some (Sum.inr s14.1)) (([]:List ((Int×Int)×(Int×List Int×Int×Int)×Int×Bool)),0)).bind fun j17=>
 (Qa8 j17).bind fun y18=>
 some (y18,decide (((List.length j17:Int):Int)=(List.length x1.2.2.1:Int)))
def Qal:Callee:=⟨[.v (.list s6) .z,.rp s15 false],[((.list s6),(.o (.p .z (.p (.p .z (.p (.o .z) .z)) .z)))),(.bool,.z)],fun t=>QbI t.1 t.2.1,true⟩
def Qnm:Ctx:=⟨tys,[(79,ZG),(221,JR)],[],[(3,(⟨[(0,.keep),(1,.keep),(6,.st (.list s6) (.o .z) false),(7,.st (.int .i64) .z false)],[]⟩,⟨[((.exit 0),⟨[(1,.keep),(6,.st (.list s6) (.o .z) false)],[]⟩)]⟩))],[(6,⟨[(.normal,⟨[(0,.keep),(1,.keep),(6,.st (.list s6) (.o .z) false),(7,.keep)],[]⟩)]⟩)],[],[],[]⟩
def QdC (x0:List (List UInt8)×List (Int×Int)) (x1:Int) (x2:Int):Option (Bool):=
 (QaT x0.2 (x1,x2)).bind fun y2=>
 some y2
def Qdn:Callee:=⟨[.rp s1 false,.v (.int .i64) .z,.v (.int .i64) .z],[(.bool,.z)],fun t=>QdC t.1 t.2.1 t.2.2.1,true⟩
def Qp4:Ctx:=⟨tys,[(66,JJ)],[],[],[],[],[],[]⟩
def Qh4 (x0:List (List UInt8)×List (Int×Int)) (x1:List Int×Int×Int) (x2:Int) (x3:Int):Option (Int):=
 bif (decide ((x3:Int)<x1.2.2)) then
 some 9
 else
 (Qf (S:=Int×Int) (X:=Int) (fun s13=>
 bif (decide ((s13.2:Int)<(List.length x1.1:Int))) then
 bif (inB s13.2 x1.1) then
 (QdC x0 (List.getD x1.1 (Int.toNat s13.2) 0) x2).bind fun y14=>
 (bif y14 then
 some (IntKind.wrap .i64 (s13.1+1))
 else
 some s13.1:Option (Int)).bind fun j15=>
 some (Sum.inl (j15,IntKind.wrap .i64 (s13.2+1)))
 else none
 else
 some (Sum.inr s13.1)) (0,0)).bind fun j16=>
 bif (decide ((j16:Int)<x1.2.1)) then
 some 6
 else
 some 0
def Qfl:Callee:=⟨[.rp s1 false,.rp s2 false,.v (.int .i64) .z,.v (.int .i64) .z],[((.int .i64),.z)],fun t=>Qh4 t.1 t.2.1 t.2.2.1 t.2.2.2.1,true⟩
def QqY:Ctx:=⟨tys,[(176,Qdn)],[],[(5,(⟨[(0,.keep),(1,.keep),(2,.keep),(9,.st (.int .i64) .z false),(10,.st (.int .i64) .z false)],[]⟩,⟨[((.exit 0),⟨[(1,.keep),(9,.st (.int .i64) .z false)],[]⟩)]⟩))],[(8,⟨[(.normal,⟨[(0,.keep),(1,.keep),(2,.keep),(9,.st (.int .i64) .z false),(10,.keep)],[]⟩)]⟩)],[],[],[]⟩
def Qie (x0:List ((Int×Int)×(Int×List Int×Int×Int)×Int×Bool)):Option (Int):=
 (Qf (S:=Int×Int) (X:=Int) (fun s3=>
 bif (decide ((s3.2:Int)<(List.length x0:Int))) then
 bif (inB s3.2 x0) then
 some (Sum.inl (IntKind.wrap .i64 (s3.1+(List.getD x0 (Int.toNat s3.2) ((0,0),((0,([],(0,0))),(0,false)))).2.1.1),IntKind.wrap .i64 (s3.2+1)))
 else none
 else
 some (Sum.inr s3.1)) (0,0)).bind fun j4=>
 some j4
def Qfv:Callee:=⟨[.v (.list s6) .z],[((.int .i64),.z)],fun t=>Qie t.1,true⟩
def Qqm:Ctx:=⟨tys,[],[],[(3,(⟨[(0,.keep),(3,.st (.int .i64) .z false),(4,.st (.int .i64) .z false)],[]⟩,⟨[((.exit 0),⟨[(3,.st (.int .i64) .z false)],[]⟩)]⟩))],[],[],[],[]⟩
def QhG (x0:Int×Int×List (Int×Int)×List (Int×List Int×Int×Int)):Option (Int):=
 (Qf (S:=Int×Int) (X:=Int) (fun s3=>
 bif (decide ((s3.2:Int)<(List.length x0.2.2.2:Int))) then
 bif (inB s3.2 x0.2.2.2) then
 some (Sum.inl (IntKind.wrap .i64 (s3.1+(List.getD x0.2.2.2 (Int.toNat s3.2) (0,([],(0,0)))).1),IntKind.wrap .i64 (s3.2+1)))
 else none
 else
 some (Sum.inr s3.1)) (0,0)).bind fun j4=>
 some j4
def Qfw:Callee:=⟨[.rp s15 false],[((.int .i64),.z)],fun t=>QhG t.1,true⟩
def QqX:Ctx:=⟨tys,[],[],[(3,(⟨[(0,.keep),(3,.st (.int .i64) .z false),(4,.st (.int .i64) .z false)],[]⟩,⟨[((.exit 0),⟨[(3,.st (.int .i64) .z false)],[]⟩)]⟩))],[],[],[],[]⟩
def Qdp (x0:List (List UInt8)×List (Int×Int)) (x1:List ((Int×Int)×(Int×List Int×Int×Int)×Int×Bool)) (x2:Int×Int×List (Int×Int)×List (Int×List Int×Int×Int)) (x3:Int) (x4:Int):Option (Int×Int):=
 (QbI x1 x2).bind fun y17=>
 bif (!y17.2) then
 some (0,4)
 else
 (Qf (S:=Int) (X:=(Unit)⊕(Int×Int)) (fun s22=>
 bif (decide ((s22:Int)<(List.length y17.1:Int))) then
 bif (inB s22 y17.1) then
 (JS (List.getD y17.1 (Int.toNat s22) ((0,0),((0,([],(0,0))),(0,false)))) x4).bind fun y23=>
 bif (!y23) then
 some (Sum.inr (Sum.inr (0,9)))
 else
 bif (inB s22 y17.1) then
 (Qh4 x0 (List.getD y17.1 (Int.toNat s22) ((0,0),((0,([],(0,0))),(0,false)))).2.1.2 x3 x4).bind fun y24=>
 bif (!decide ((y24:Int)=0)) then
 some (Sum.inr (Sum.inr (0,y24)))
 else
 some (Sum.inl (IntKind.wrap .i64 (s22+1)))
 else none
 else none
 else
 some (Sum.inr (Sum.inl ()))) 0).bind fun j25=>
 Sum.elim (fun (j26:Unit)=>
 (bif (decide ((x2.1:Int)=2)) then
 (QdC x0 x2.2.1 x3).bind fun y29=>
 some (!y29)
 else
 some false:Option (Bool)).bind fun j30=>
 bif j30 then
 some (0,6)
 else
 (Qie y17.1).bind fun y31=>
 (QhG x2).bind fun y32=>
 bif (decide ((IntKind.wrap .i64 (y31 - y32):Int)<0)) then
 some (0,8)
 else
 some (IntKind.wrap .i64 (y31 - y32),0)) (fun (j27:Int×Int)=>
 some (j27.1,j27.2)) j25
def Qdg:Callee:=⟨[.rp s1 false,.v (.list s6) .z,.rp s15 false,.v (.int .i64) .z,.v (.int .i64) .z],[((.int .i64),.z),((.int .i64),.z)],fun t=>Qdp t.1 t.2.1 t.2.2.1 t.2.2.2.1 t.2.2.2.2.1,true⟩
def Qnw:Ctx:=⟨tys,[(114,Qa9),(174,Qal),(175,Qfl),(176,Qdn),(177,Qfv),(178,Qfw)],[],[(5,(⟨[(0,.keep),(2,.keep),(3,.keep),(4,.keep),(12,.keep),(14,.st (.int .i64) .z false)],[]⟩,⟨[((.exit 0),⟨[(0,.keep),(2,.keep),(3,.keep),(12,.keep)],[]⟩),(.ret,⟨[(10,.st (.int .i64) .z false),(11,.st (.int .i64) .z false)],[]⟩)]⟩))],[],[(12,⟨[(2,.keep),(12,.keep),(63,.st .bool .z false)],[]⟩)],[],[]⟩
def Qan (x0:List (List UInt8)×List (Int×Int)) (x1:List ((Int×Int)×(Int×List Int×Int×Int)×Int×Bool)) (x2:Int×Int×List (Int×Int)×List (Int×List Int×Int×Int)) (x3:Int):Option (Int×Int):=
 (YI x0).bind fun y8=>
 bif (!decide ((y8:Int)=0)) then
 some (y8,0)
 else
 (Qai x1).bind fun y9=>
 bif (!decide ((y9:Int)=0)) then
 some (y9,0)
 else
 (Qaj x2).bind fun y10=>
 bif (!decide ((y10:Int)=0)) then
 some (y10,0)
 else
 (Jt x3).bind fun y11=>
 bif (!y11) then
 some (3,0)
 else
 (QgY x2).bind fun y12=>
 bif (!decide ((y12.1:Int)=0)) then
 some (y12.1,0)
 else
 (QeN x0.1 y12.2).bind fun y13=>
 bif (decide ((y13:Int)=0)) then
 some (4,0)
 else
 (Qdp x0 x1 x2 y13 x3).bind fun y14=>
 bif (!decide ((y14.2:Int)=0)) then
 some (y14.2,0)
 else
 some (0,y14.1)
def QbF:Callee:=⟨[.v s1 .z,.v (.list s6) .z,.v s15 .z,.v (.int .i64) .z],[(s0,.z)],fun t=>Qan t.1 t.2.1 t.2.2.1 t.2.2.2.1,false⟩
def QmX:Ctx:=⟨tys,[(32,Yg),(64,QcQ),(67,Jj),(121,YS),(124,Jg),(125,Qeu),(126,Qdg)],[],[],[],[],[],[]⟩
def Qkw (x0:Int) (x1:Int):Option (Int):=
 bif (decide ((x0:Int)<x1)) then
 some x0
 else
 some x1
def QfK:Callee:=⟨[.v (.int .i64) .z,.v (.int .i64) .z],[((.int .i64),.z)],fun t=>Qkw t.1 t.2.1,true⟩
def Qqz:Ctx:=⟨tys,[],[],[],[],[],[],[]⟩
def QbD (x0:Int×Int×List ((Int×Int)×(Int×List Int×Int×Int)×Int×Bool)×List (Int×Int×Int)):Option (Int):=
 (Qkw (IntKind.wrap .i64 (x0.2.1+1)) 40).bind fun y2=>
 some y2
def QbH:Callee:=⟨[.rp s10 false],[((.int .i64),.z)],fun t=>QbD t.1,true⟩
def Ql8:Ctx:=⟨tys,[(50,QfK)],[],[],[],[],[],[]⟩
def Qbx (x0:List (Int×Int×Int)) (x1:Int):Option (Int):=
 (Qf (S:=Int) (X:=(Unit)⊕(Int)) (fun s5=>
 bif (decide ((s5:Int)<(List.length x0:Int))) then
 bif (inB s5 x0) then
 bif (decide (((List.getD x0 (Int.toNat s5) (0,(0,0))).1:Int)=x1)) then
 some (Sum.inr (Sum.inr s5))
 else
 some (Sum.inl (IntKind.wrap .i64 (s5+1)))
 else none
 else
 some (Sum.inr (Sum.inl ()))) 0).bind fun j6=>
 Sum.elim (fun (j7:Unit)=>
 some (-1)) (fun (j8:Int)=>
 some j8) j6
def Qbw:Callee:=⟨[.v (.list s7) .z,.v (.int .i64) .z],[((.int .i64),.z)],fun t=>Qbx t.1 t.2.1,true⟩
def Qr5:Ctx:=⟨tys,[],[],[(2,(⟨[(0,.keep),(1,.keep),(5,.st (.int .i64) .z false)],[]⟩,⟨[((.exit 0),⟨[],[]⟩),(.ret,⟨[(4,.st (.int .i64) .z false)],[]⟩)]⟩))],[],[],[],[]⟩
def Qfc (x0:Int×Int×List ((Int×Int)×(Int×List Int×Int×Int)×Int×Bool)×List (Int×Int×Int)) (x1:Int×Int×List (Int×Int)×List (Int×List Int×Int×Int)) (x2:Int×Int×List (Int×Int)×List (Int×List Int×Int×Int)):Option (Bool):=
 (Qbx x0.2.2.2 x2.2.1).bind fun y5=>
 (bif (decide ((x2.1:Int)=2)) then
 bif (decide ((0:Int)<=y5)) then
 bif (inB y5 x0.2.2.2) then
 (ZH x1.2.2.1 (List.getD x0.2.2.2 (Int.toNat y5) (0,(0,0))).2).bind fun y7=>
 some y7
 else none
 else
 some false
 else
 some false:Option (Bool)).bind fun j8=>
 some j8
def Qck:Callee:=⟨[.rp s10 false,.rp s15 false,.rp s15 false],[(.bool,.z)],fun t=>Qfc t.1 t.2.1 t.2.2.1,true⟩
def QlP:Ctx:=⟨tys,[(79,ZG),(127,Qbw)],[],[],[],[(2,⟨[(6,.st .bool .z false)],[]⟩)],[],[]⟩
def QeJ (x0:List (Int×Int×Int)) (x1:Int×Int×Int):Option (List (Int×Int×Int)×Int):=
 (Qbx x0 x1.1).bind fun y9=>
 bif (decide ((0:Int)<=y9)) then
 some (([]:List (Int×Int×Int)),7)
 else
 (Qf (S:=Int×Int) (X:=(Int)⊕(List (Int×Int×Int)×Int)) (fun s12=>
 bif (decide ((s12.2:Int)<(List.length x0:Int))) then
 bif (inB s12.2 x0) then
 bif (Sh.beq (.prod (.int .i64) (.int .i64)) (List.getD x0 (Int.toNat s12.2) (0,(0,0))).2 x1.2) then
 some (Sum.inr (Sum.inr (([]:List (Int×Int×Int)),7)))
 else
 bif (inB s12.2 x0) then
 (bif (decide (((List.getD x0 (Int.toNat s12.2) (0,(0,0))).1:Int)<x1.1)) then
 some (IntKind.wrap .i64 (s12.2+1))
 else
 some s12.1:Option (Int)).bind fun j13=>
 some (Sum.inl (j13,IntKind.wrap .i64 (s12.2+1)))
 else none
 else none
 else
 some (Sum.inr (Sum.inl s12.1))) (0,0)).bind fun j14=>
 Sum.elim (fun (j15:Int)=>
 bif (decide ((8:Int)<=(List.length x0:Int))) then
 some (([]:List (Int×Int×Int)),2)
 else
 bif (QT 0 j15 x0) then
 bif decide (List.length ([]:List (Int×Int×Int))+List.length (cut 0 j15 x0)<=LIM) then
 bif decide (List.length (List.append ([]:List (Int×Int×Int)) (cut 0 j15 x0))+List.length ([x1]:List (Int×Int×Int))<=LIM) then
 bif (QT j15 (List.length x0:Int) x0) then
 bif decide (List.length (List.append (List.append ([]:List (Int×Int×Int)) (cut 0 j15 x0)) ([x1]:List (Int×Int×Int)))+List.length (cut j15 (List.length x0:Int) x0)<=LIM) then
 some (List.append (List.append (List.append ([]:List (Int×Int×Int)) (cut 0 j15 x0)) ([x1]:List (Int×Int×Int))) (cut j15 (List.length x0:Int) x0),0)
 else none
 else none
 else none
 else none
 else none) (fun (j16:List (Int×Int×Int)×Int)=>
 some (j16.1,j16.2)) j14
def QeK:Callee:=⟨[.v (.list s7) .z,.v s7 .z],[((.list s7),(.o .z)),((.int .i64),.z)],fun t=>QeJ t.1 t.2.1,true⟩
def QpG:Ctx:=⟨tys,[(127,Qbw)],[],[(5,(⟨[(0,.keep),(3,.keep),(6,.st (.int .i64) .z false),(7,.st (.int .i64) .z false)],[(3,.keep)]⟩,⟨[((.exit 0),⟨[(0,.keep),(3,.keep),(6,.st (.int .i64) .z false)],[(3,.keep)]⟩),(.ret,⟨[(4,.st (.list s7) (.o .z) false),(5,.st (.int .i64) .z false)],[]⟩)]⟩))],[(10,⟨[(.normal,⟨[(0,.keep),(3,.keep),(6,.st (.int .i64) .z false),(7,.keep)],[(3,.keep)]⟩)]⟩)],[],[],[]⟩
def QeA (x0:List (Int×Int×Int)) (x1:Int×Int×List (Int×Int)×List (Int×List Int×Int×Int)) (x2:Int):Option (List (Int×Int×Int)×Int):=
 (bif (decide ((x1.1:Int)=2)) then
 (Qbx x0 x1.2.1).bind fun y23=>
 some (decide ((y23:Int)<0))
 else
 some false:Option (Bool)).bind fun j24=>
 bif j24 then
 some (([]:List (Int×Int×Int)),4)
 else
 (Qf (S:=List (Int×Int×Int)×Int) (X:=List (Int×Int×Int)) (fun s35=>
 bif (decide ((s35.2:Int)<(List.length x0:Int))) then
 (bif (decide ((x1.1:Int)=2)) then
 bif (inB s35.2 x0) then
 some (decide (((List.getD x0 (Int.toNat s35.2) (0,(0,0))).1:Int)=x1.2.1))
 else none
 else
 some false:Option (Bool)).bind fun j36=>
 (bif (!j36) then
 bif (inB s35.2 x0) then
 (ZH x1.2.2.1 (List.getD x0 (Int.toNat s35.2) (0,(0,0))).2).bind fun y38=>
 some (!y38)
 else none
 else
 some false:Option (Bool)).bind fun j39=>
 (bif j39 then
 bif (inB s35.2 x0) then
 bif decide (List.length s35.1+List.length ([List.getD x0 (Int.toNat s35.2) (0,(0,0))]:List (Int×Int×Int))<=LIM) then
 some (List.append s35.1 ([List.getD x0 (Int.toNat s35.2) (0,(0,0))]:List (Int×Int×Int)))
 else none
 else none
 else
 some s35.1:Option (List (Int×Int×Int))).bind fun j40=>
 some (Sum.inl (j40,IntKind.wrap .i64 (s35.2+1)))
 else
 some (Sum.inr s35.1)) (([]:List (Int×Int×Int)),0)).bind fun j41=>
 bif (!decide ((x1.1:Int)=1)) then
 some (j41,0)
 else
 (QeJ j41 (x1.2.1,(x2,0))).bind fun y42=>
 some (y42.1,y42.2)
def Qca:Callee:=⟨[.v (.list s7) .z,.rp s15 false,.v (.int .i64) .z],[((.list s7),(.o .z)),((.int .i64),.z)],fun t=>QeA t.1 t.2.1 t.2.2.1,true⟩
def QoF:Ctx:=⟨tys,[(79,ZG),(127,Qbw),(128,QeK)],[],[(5,(⟨[(0,.keep),(1,.keep),(2,.keep),(8,.st (.list s7) (.o .z) false),(9,.st (.int .i64) .z false)],[]⟩,⟨[((.exit 0),⟨[(1,.keep),(2,.keep),(8,.st (.list s7) (.o .z) false)],[]⟩)]⟩))],[(9,⟨[(.normal,⟨[(0,.keep),(1,.keep),(2,.keep),(8,.st (.list s7) (.o .z) false),(9,.keep)],[]⟩)]⟩)],[(1,⟨[(0,.keep),(1,.keep),(2,.keep),(24,.st .bool .z false)],[]⟩),
 (7,⟨[(0,.keep),(1,.keep),(2,.keep),(8,.keep),(9,.keep),(10,.st .bool .z false)],[]⟩),
 (8,⟨[(0,.keep),(1,.keep),(2,.keep),(8,.keep),(9,.keep),(63,.st .bool .z false)],[]⟩)],[],[]⟩
def JW (x0:List (List UInt8)×List (Int×Int)) (x1:Int×Int×List ((Int×Int)×(Int×List Int×Int×Int)×Int×Bool)×List (Int×Int×Int)) (x2:List (Int×Int×List (Int×Int)×List (Int×List Int×Int×Int))) (x3:Int):Option ((Int×Int×List (Int×Int)×List (Int×List Int×Int×Int))×Int):=
 (QcN x0 x3).bind fun y27=>
 bif (!decide ((y27.1:Int)=0)) then
 some (y27.2,y27.1)
 else
 (QbD x1).bind fun y28=>
 (Qan x0 x1.2.2.1 y27.2 y28).bind fun y29=>
 bif (!decide ((y29.1:Int)=0)) then
 some (y27.2,y29.1)
 else
 (Qf (S:=Bool×Int) (X:=(Bool)⊕(Int×Int×Int×List (Int×Int)×List (Int×List Int×Int×Int))) (fun s38=>
 bif (decide ((s38.2:Int)<(List.length x2:Int))) then
 bif (inB s38.2 x2) then
 (Qgk (List.getD x2 (Int.toNat s38.2) (0,(0,([],[])))) y27.2).bind fun y39=>
 bif y39 then
 some (Sum.inr (Sum.inr (7,y27.2)))
 else
 (bif s38.1 then
 some true
 else
 bif (inB s38.2 x2) then
 bif (!decide (((List.getD x2 (Int.toNat s38.2) (0,(0,([],[])))).1:Int)=0)) then
 some true
 else
 bif (inB s38.2 x2) then
 (Qfc x1 (List.getD x2 (Int.toNat s38.2) (0,(0,([],[])))) y27.2).bind fun y41=>
 some y41
 else none
 else none:Option (Bool)).bind fun j42=>
 some (Sum.inl (j42,IntKind.wrap .i64 (s38.2+1)))
 else none
 else
 some (Sum.inr (Sum.inl s38.1))) (false,0)).bind fun j43=>
 Sum.elim (fun (j44:Bool)=>
 (bif (!decide ((y27.2.1:Int)=0)) then
 (QeA x1.2.2.2 y27.2 x3).bind fun y48=>
 (bif (!decide ((y48.2:Int)=0)) then
 some true
 else
 some j44:Option (Bool)).bind fun j49=>
 bif j49 then
 some (Sum.inr (10,y27.2))
 else
 some (Sum.inl ())
 else
 some (Sum.inl ()):Option ((Unit)⊕(Int×Int×Int×List (Int×Int)×List (Int×List Int×Int×Int)))).bind fun j50=>
 Sum.elim (fun (j51:Unit)=>
 some (y27.2,0)) (fun (j52:Int×Int×Int×List (Int×Int)×List (Int×List Int×Int×Int))=>
 some (j52.2,j52.1)) j50) (fun (j45:Int×Int×Int×List (Int×Int)×List (Int×List Int×Int×Int))=>
 some (j45.2,j45.1)) j43
def Qa5:Callee:=⟨[.rp s1 false,.rp s10 false,.v (.list s15) .z,.v (.int .i64) .z],[(s15,(.p .z (.p .z (.p (.o .z) (.o (.p .z (.p (.o .z) .z))))))),((.int .i64),.z)],fun t=>JW t.1 t.2.1 t.2.2.1 t.2.2.2.1,false⟩
def Qo1:Ctx:=⟨tys,[(39,QeO),(40,Qdh),(69,QbF),(70,QbH),(71,Qck),(72,Qca)],[],[(9,(⟨[(1,.keep),(2,.keep),(3,.keep),(8,.keep),(10,.keep),(12,.st .bool .z false),(13,.st (.int .i64) .z false)],[(8,.keep),(10,.keep)]⟩,⟨[((.exit 0),⟨[(1,.keep),(3,.keep),(8,.keep),(10,.keep),(12,.st .bool .z false)],[(8,.keep),(10,.keep)]⟩),(.ret,⟨[(8,.keep),(9,.st (.int .i64) .z false)],[(8,.st s15 (.p .z (.p .z (.p (.o .z) (.o (.p .z (.p (.o .z) .z)))))) false)]⟩)]⟩))],[(15,⟨[(.normal,⟨[(8,.keep),(10,.keep)],[(8,.keep),(10,.keep)]⟩),(.ret,⟨[(8,.keep),(9,.st (.int .i64) .z false)],[(8,.st s15 (.p .z (.p .z (.p (.o .z) (.o (.p .z (.p (.o .z) .z)))))) false)]⟩)]⟩)],[(13,⟨[(1,.keep),(2,.keep),(3,.keep),(8,.keep),(10,.keep),(12,.st .bool .z false),(13,.keep)],[(8,.keep),(10,.keep)]⟩),
 (16,⟨[(8,.keep),(10,.keep),(95,.st .bool .z false)],[(8,.keep),(10,.keep)]⟩)],[(3,[2,3])],[]⟩
def Qf3 (x0:List (Int×Int×Int)):Option (Int):=
 bif (decide ((8:Int)<(List.length x0:Int))) then
 some 2
 else
 (Qf (S:=Int) (X:=(Unit)⊕(Int)) (fun s47=>
 bif (decide ((s47:Int)<(List.length x0:Int))) then
 (bif (inB s47 x0) then
 (JN (List.getD x0 (Int.toNat s47) (0,(0,0))).1).bind fun y50=>
 bif (!y50) then
 some true
 else
 bif (inB s47 x0) then
 (Qdv (List.getD x0 (Int.toNat s47) (0,(0,0))).2).bind fun y51=>
 some (!y51)
 else none
 else none:Option (Bool)).bind fun j52=>
 bif j52 then
 some (Sum.inr (Sum.inr 3))
 else
 (bif (decide ((0:Int)<s47)) then
 bif (inB s47 x0) then
 bif (inB (IntKind.wrap .i64 (s47 - 1)) x0) then
 some (decide (((List.getD x0 (Int.toNat s47) (0,(0,0))).1:Int)<=(List.getD x0 (Int.toNat (IntKind.wrap .i64 (s47 - 1))) (0,(0,0))).1))
 else none
 else none
 else
 some false:Option (Bool)).bind fun j53=>
 bif j53 then
 some (Sum.inr (Sum.inr 1))
 else
 some (Sum.inl (IntKind.wrap .i64 (s47+1)))
 else
 some (Sum.inr (Sum.inl ()))) 0).bind fun j54=>
 Sum.elim (fun (j55:Unit)=>
 (Qf (S:=Int) (X:=(Unit)⊕(Int)) (fun s63=>
 bif (decide ((s63:Int)<(List.length x0:Int))) then
 (Qf (S:=Int) (X:=(Unit)⊕(Int)) (fun s64=>
 bif (decide ((s64:Int)<s63)) then
 bif (inB s64 x0) then
 bif (inB s63 x0) then
 bif (Sh.beq (.prod (.int .i64) (.int .i64)) (List.getD x0 (Int.toNat s64) (0,(0,0))).2 (List.getD x0 (Int.toNat s63) (0,(0,0))).2) then
 some (Sum.inr (Sum.inr 7))
 else
 some (Sum.inl (IntKind.wrap .i64 (s64+1)))
 else none
 else none
 else
 some (Sum.inr (Sum.inl ()))) 0).bind fun j65=>
 Sum.elim (fun (j66:Unit)=>
 some (Sum.inl (IntKind.wrap .i64 (s63+1)))) (fun (j67:Int)=>
 some (Sum.inr (Sum.inr j67))) j65
 else
 some (Sum.inr (Sum.inl ()))) 0).bind fun j68=>
 Sum.elim (fun (j69:Unit)=>
 some 0) (fun (j70:Int)=>
 some j70) j68) (fun (j56:Int)=>
 some j56) j54
def QdA:Callee:=⟨[.v (.list s7) .z],[((.int .i64),.z)],fun t=>Qf3 t.1,true⟩
def Qnn:Ctx:=⟨tys,[(49,YV),(120,QbM)],[],[(4,(⟨[(0,.keep),(3,.st (.int .i64) .z false)],[]⟩,⟨[((.exit 0),⟨[(0,.keep)],[]⟩),(.ret,⟨[(2,.st (.int .i64) .z false)],[]⟩)]⟩)),
 (11,(⟨[(0,.keep),(4,.st (.int .i64) .z false)],[]⟩,⟨[((.exit 2),⟨[],[]⟩),(.ret,⟨[(2,.st (.int .i64) .z false)],[]⟩)]⟩)),
 (14,(⟨[(0,.keep),(4,.keep),(5,.st (.int .i64) .z false)],[]⟩,⟨[((.exit 4),⟨[(0,.keep),(4,.keep)],[]⟩),(.ret,⟨[(2,.st (.int .i64) .z false)],[]⟩)]⟩))],[],[(6,⟨[(0,.keep),(3,.keep),(30,.st .bool .z false)],[]⟩),
 (8,⟨[(0,.keep),(3,.keep),(46,.st .bool .z false)],[]⟩)],[],[]⟩
def QdE (x0:Int×Int×List ((Int×Int)×(Int×List Int×Int×Int)×Int×Bool)×List (Int×Int×Int)):Option (Int):=
 ((QZ x0.1 0 60).bind fun y10=>
 bif (!y10) then
 some true
 else
 (QZ x0.2.1 0 40).bind fun y11=>
 some (!y11):Option (Bool)).bind fun j12=>
 bif j12 then
 some 3
 else
 bif (!(Sh.beq .bool (decide ((x0.1:Int)=0)) (decide ((x0.2.1:Int)=0)))) then
 some 1
 else
 (Qai x0.2.2.1).bind fun y13=>
 bif (!decide ((y13:Int)=0)) then
 some y13
 else
 (Qf3 x0.2.2.2).bind fun y14=>
 some y14
def Qbz:Callee:=⟨[.rp s10 false],[((.int .i64),.z)],fun t=>QdE t.1,true⟩
def QnF:Ctx:=⟨tys,[(65,ZD),(67,Jj),(68,QdA)],[],[],[],[(1,⟨[(0,.keep),(17,.st .bool .z false)],[]⟩)],[],[]⟩
def QeI (x0:List (List UInt8)×List (Int×Int)) (x1:Int×Int×List ((Int×Int)×(Int×List Int×Int×Int)×Int×Bool)×List (Int×Int×Int)) (x2:List Int):Option (List (Int×Int×List (Int×Int)×List (Int×List Int×Int×Int))×Int):=
 (YI x0).bind fun y10=>
 bif (!decide ((y10:Int)=0)) then
 some (([]:List (Int×Int×List (Int×Int)×List (Int×List Int×Int×Int))),y10)
 else
 (QdE x1).bind fun y11=>
 bif (!decide ((y11:Int)=0)) then
 some (([]:List (Int×Int×List (Int×Int)×List (Int×List Int×Int×Int))),y11)
 else
 bif (decide ((8:Int)<(List.length x2:Int))) then
 some (([]:List (Int×Int×List (Int×Int)×List (Int×List Int×Int×Int))),2)
 else
 (Qf (S:=List (Int×Int×List (Int×Int)×List (Int×List Int×Int×Int))×Int) (X:=(List (Int×Int×List (Int×Int)×List (Int×List Int×Int×Int)))⊕(List (Int×Int×List (Int×Int)×List (Int×List Int×Int×Int))×Int)) (fun s14=>
 bif (decide ((s14.2:Int)<(List.length x2:Int))) then
 bif (inB s14.2 x2) then
 (JW x0 x1 s14.1 (List.getD x2 (Int.toNat s14.2) 0)).bind fun y15=>
 bif (!decide ((y15.2:Int)=0)) then
 some (Sum.inr (Sum.inr (([]:List (Int×Int×List (Int×Int)×List (Int×List Int×Int×Int))),y15.2)))
 else
 bif decide (List.length s14.1+List.length ([y15.1]:List (Int×Int×List (Int×Int)×List (Int×List Int×Int×Int)))<=LIM) then
 some (Sum.inl (List.append s14.1 ([y15.1]:List (Int×Int×List (Int×Int)×List (Int×List Int×Int×Int))),IntKind.wrap .i64 (s14.2+1)))
 else none
 else none
 else
 some (Sum.inr (Sum.inl s14.1))) (([]:List (Int×Int×List (Int×Int)×List (Int×List Int×Int×Int))),0)).bind fun j16=>
 Sum.elim (fun (j17:List (Int×Int×List (Int×Int)×List (Int×List Int×Int×Int)))=>
 some (j17,0)) (fun (j18:List (Int×Int×List (Int×Int)×List (Int×List Int×Int×Int))×Int)=>
 some (j18.1,j18.2)) j16
def Qel:Callee:=⟨[.rp s1 false,.rp s10 false,.v (.list (.int .i64)) .z],[((.list s15),(.o (.p .z (.p .z (.p (.o .z) (.o (.p .z (.p (.o .z) .z)))))))),((.int .i64),.z)],fun t=>QeI t.1 t.2.1 t.2.2.1,false⟩
def Qpf:Ctx:=⟨tys,[(32,Yg),(33,Qbz),(34,Qa5)],[],[(11,(⟨[(0,.keep),(1,.keep),(2,.keep),(10,.st (.list s15) (.o (.p .z (.p .z (.p (.o .z) (.o (.p .z (.p (.o .z) .z))))))) false),(11,.st (.int .i64) .z false)],[]⟩,⟨[((.exit 0),⟨[(10,.st (.list s15) (.o (.p .z (.p .z (.p (.o .z) (.o (.p .z (.p (.o .z) .z))))))) false)],[]⟩),(.ret,⟨[(6,.st (.list s15) (.o (.p .z (.p .z (.p (.o .z) (.o (.p .z (.p (.o .z) .z))))))) false),(7,.st (.int .i64) .z false)],[]⟩)]⟩))],[],[],[],[]⟩
def Qgb (x0:List (List UInt8)×List (Int×Int)) (x1:Int×Int×List ((Int×Int)×(Int×List Int×Int×Int)×Int×Bool)×List (Int×Int×Int)) (x2:List Int) (x3:Int):Option (Int×List Int×List Int):=
 (QeI x0 x1 x2).bind fun y3=>
 bif (!decide ((y3.2:Int)=0)) then
 some (y3.2,([],[]))
 else
 (JW x0 x1 y3.1 x3).bind fun y4=>
 bif (!decide ((y4.2:Int)=0)) then
 some (y4.2,([],[]))
 else
 bif (decide ((8:Int)<=(List.length x2:Int))) then
 some (2,([],[]))
 else
 bif decide (List.length ([]:List Int)+List.length x2<=LIM) then
 bif decide (List.length (List.append ([]:List Int) x2)+List.length ([x3]:List Int)<=LIM) then
 some (0,([],List.append (List.append ([]:List Int) x2) ([x3]:List Int)))
 else none
 else none
def Qda:Callee:=⟨[.v s1 .z,.v s10 .z,.v (.list (.int .i64)) .z,.v (.int .i64) .z],[(s12,(.p .z (.p (.o .z) (.o .z))))],fun t=>Qgb t.1 t.2.1 t.2.2.1 t.2.2.2.1,false⟩
def QmJ:Ctx:=⟨tys,[(34,Qa5),(38,Qel)],[],[],[],[],[],[]⟩
def JY (x0:List Int×Int):Option ((List Int×Int×Int)×List Int×Int):=
 (Qp x0 3).bind fun y11=>
 (Qp y11.2 3).bind fun y12=>
 (Qf (S:=Int×(List Int×Int×Int)×List Int×Int) (X:=(List Int×Int×Int)×List Int×Int) (fun s15=>
 bif (decide ((0:Int)<s15.1)) then
 bif (inB (IntKind.wrap .i64 ((List.length s15.2.1.1:Int) - 1)) s15.2.1.1) then
 (Qp s15.2.2 2).bind fun y16=>
 bif decide (List.length s15.2.1.1+List.length ([IntKind.wrap .i64 ((IntKind.wrap .i64 ((List.getD s15.2.1.1 (Int.toNat (IntKind.wrap .i64 ((List.length s15.2.1.1:Int) - 1))) 0)+1))+y16.1)]:List Int)<=LIM) then
 some (Sum.inl (IntKind.wrap .i64 (s15.1 - 1),((List.append s15.2.1.1 ([IntKind.wrap .i64 ((IntKind.wrap .i64 ((List.getD s15.2.1.1 (Int.toNat (IntKind.wrap .i64 ((List.length s15.2.1.1:Int) - 1))) 0)+1))+y16.1)]:List Int),s15.2.1.2),y16.2)))
 else none
 else none
 else
 some (Sum.inr (s15.2.1,s15.2.2))) (y12.1,((([IntKind.wrap .i64 (1+y11.1)]:List Int),(0,0)),y12.2))).bind fun j17=>
 (Qp j17.2 (List.length j17.1.1:Int)).bind fun y18=>
 (Qp y18.2 9).bind fun y19=>
 (JZ y19.2 ([0,0,0,y19.1]:List Int)).bind fun y20=>
 some ((j17.1.1,(IntKind.wrap .i64 (1+y18.1),y20.1)),y20.2)
def Qbb:Callee:=⟨[.io s29 .z .z],[(s2,(.p (.o .z) .z))],fun t=>JY t.1,true⟩
def Qo0:Ctx:=⟨tys,[(47,JT),(62,Zq)],[],[(3,(⟨[(0,.keep),(2,.keep),(3,.keep),(4,.st (.int .i64) .z false)],[(2,.keep),(3,.st s2 (.p (.o .z) .z) false),(47,.st s29 .z false)]⟩,⟨[((.exit 0),⟨[(0,.keep),(2,.keep),(3,.keep)],[(2,.keep),(3,.st s2 (.p (.o .z) .z) false),(47,.st s29 .z false)]⟩)]⟩))],[],[],[],[]⟩
def Qg0 (x0:List Int×Int):Option ((Int×Int×List (Int×Int)×List (Int×List Int×Int×Int))×List Int×Int):=
 (JZ x0 ([0,0,0,1,2]:List Int)).bind fun y29=>
 (bif (!decide ((y29.1:Int)=0)) then
 (Qp y29.2 4).bind fun y31=>
 some ((y29.1,(IntKind.wrap .i64 (1+y31.1),([],[]))),y31.2)
 else
 some ((y29.1,(0,([],[]))),y29.2):Option ((Int×Int×List (Int×Int)×List (Int×List Int×Int×Int))×List Int×Int)).bind fun j32=>
 (Qp j32.2 2).bind fun y33=>
 (Qf (S:=Int×(Int×Int×List (Int×Int)×List (Int×List Int×Int×Int))×List Int×Int) (X:=(Int×Int×List (Int×Int)×List (Int×List Int×Int×Int))×List Int×Int) (fun s42=>
 bif (decide ((0:Int)<s42.1)) then
 (Qp s42.2.2 6).bind fun y43=>
 (Qp y43.2 2).bind fun y44=>
 (ZH s42.2.1.2.2.1 (IntKind.wrap .i64 (1+y43.1),y44.1)).bind fun y45=>
 (bif (!y45) then
 bif decide (List.length s42.2.1.2.2.1+List.length ([(IntKind.wrap .i64 (1+y43.1),y44.1)]:List (Int×Int))<=LIM) then
 some (s42.2.1.1,(s42.2.1.2.1,(List.append s42.2.1.2.2.1 ([(IntKind.wrap .i64 (1+y43.1),y44.1)]:List (Int×Int)),s42.2.1.2.2.2)))
 else none
 else
 some s42.2.1:Option (Int×Int×List (Int×Int)×List (Int×List Int×Int×Int))).bind fun j46=>
 some (Sum.inl (IntKind.wrap .i64 (s42.1 - 1),(j46,y44.2)))
 else
 some (Sum.inr (s42.2.1,s42.2.2))) (IntKind.wrap .i64 (1+y33.1),(j32.1,y33.2))).bind fun j47=>
 (Qp j47.2 2).bind fun y48=>
 (Qf (S:=Int×(Int×Int×List (Int×Int)×List (Int×List Int×Int×Int))×List Int×Int) (X:=(Int×Int×List (Int×Int)×List (Int×List Int×Int×Int))×List Int×Int) (fun s53=>
 bif (decide ((0:Int)<s53.1)) then
 (Qp s53.2.2 99).bind fun y54=>
 (JY y54.2).bind fun y55=>
 bif decide (List.length s53.2.1.2.2.2+List.length ([(IntKind.wrap .i64 (100+y54.1),y55.1)]:List (Int×List Int×Int×Int))<=LIM) then
 some (Sum.inl (IntKind.wrap .i64 (s53.1 - 1),((s53.2.1.1,(s53.2.1.2.1,(s53.2.1.2.2.1,List.append s53.2.1.2.2.2 ([(IntKind.wrap .i64 (100+y54.1),y55.1)]:List (Int×List Int×Int×Int))))),y55.2)))
 else none
 else
 some (Sum.inr (s53.2.1,s53.2.2))) (IntKind.wrap .i64 (1+y48.1),(j47.1,y48.2))).bind fun j56=>
 some (j56.1,j56.2)
def Qev:Callee:=⟨[.io s29 .z .z],[(s15,(.p .z (.p .z (.p (.o .z) (.o (.p .z (.p (.o .z) .z)))))))],fun t=>Qg0 t.1,true⟩
def Qow:Ctx:=⟨tys,[(47,JT),(62,Zq),(79,ZG),(165,Qbb)],[],[(5,(⟨[(0,.keep),(2,.keep),(3,.keep),(4,.st (.int .i64) .z false)],[(2,.keep),(3,.st s15 (.p .z (.p .z (.p (.o .z) (.o (.p .z (.p (.o .z) .z)))))) false),(61,.st s29 .z false)]⟩,⟨[((.exit 0),⟨[(0,.keep),(2,.keep),(3,.keep)],[(2,.keep),(3,.st s15 (.p .z (.p .z (.p (.o .z) (.o (.p .z (.p (.o .z) .z)))))) false),(61,.st s29 .z false)]⟩)]⟩)),
 (11,(⟨[(0,.keep),(2,.keep),(3,.keep),(6,.st (.int .i64) .z false)],[(2,.keep),(3,.st s15 (.p .z (.p .z (.p (.o .z) (.o (.p .z (.p (.o .z) .z)))))) false),(61,.st s29 .z false)]⟩,⟨[((.exit 2),⟨[(2,.keep),(3,.keep)],[(2,.keep),(3,.st s15 (.p .z (.p .z (.p (.o .z) (.o (.p .z (.p (.o .z) .z)))))) false),(61,.st s29 .z false)]⟩)]⟩))],[(3,⟨[(.normal,⟨[(0,.keep),(2,.keep),(3,.keep)],[(2,.keep),(3,.st s15 (.p .z (.p .z (.p (.o .z) (.o (.p .z (.p (.o .z) .z)))))) false),(61,.st s29 .z false)]⟩)]⟩),
 (9,⟨[(.normal,⟨[(0,.keep),(2,.keep),(3,.keep),(4,.keep)],[(2,.keep),(3,.st s15 (.p .z (.p .z (.p (.o .z) (.o (.p .z (.p (.o .z) .z)))))) false),(61,.keep)]⟩)]⟩)],[],[],[]⟩
def QkB (x0:Int) (x1:Int):Option (Int):=
 bif (decide ((x1:Int)<x0)) then
 some x0
 else
 some x1
def Qfq:Callee:=⟨[.v (.int .i64) .z,.v (.int .i64) .z],[((.int .i64),.z)],fun t=>QkB t.1 t.2.1,true⟩
def Qrh:Ctx:=⟨tys,[],[],[],[],[],[],[]⟩
def QgI (x0:List Int×Int) (x1:List ((Int×Int)×(Int×List Int×Int×Int)×Int×Bool)):Option ((Int×Int×List (Int×Int)×List (Int×List Int×Int×Int))×List Int×Int):=
 (Qg0 x0).bind fun y58=>
 (bif (decide ((0:Int)<(List.length x1:Int))) then
 (QO y58.2 8).bind fun y60=>
 some (!y60.1,y60.2)
 else
 some (false,y58.2):Option (Bool×List Int×Int)).bind fun j61=>
 (bif j61.1 then
 (Qp j61.2 2).bind fun y88=>
 (Qf (S:=Int×Int×(Int×Int×List (Int×Int)×List (Int×List Int×Int×Int))×List Int×Int) (X:=Int×(Int×Int×List (Int×Int)×List (Int×List Int×Int×Int))×List Int×Int) (fun s95=>
 bif (decide ((0:Int)<s95.2.1)) then
 (Qp s95.2.2.2 (List.length x1:Int)).bind fun y96=>
 bif (inB y96.1 x1) then
 (ZH s95.2.2.1.2.2.1 (List.getD x1 (Int.toNat y96.1) ((0,0),((0,([],(0,0))),(0,false)))).1).bind fun y97=>
 (bif (!y97) then
 bif decide (List.length s95.2.2.1.2.2.1+List.length ([(List.getD x1 (Int.toNat y96.1) ((0,0),((0,([],(0,0))),(0,false)))).1]:List (Int×Int))<=LIM) then
 some (IntKind.wrap .i64 (s95.1+(List.getD x1 (Int.toNat y96.1) ((0,0),((0,([],(0,0))),(0,false)))).2.1.1),(s95.2.2.1.1,(s95.2.2.1.2.1,(List.append s95.2.2.1.2.2.1 ([(List.getD x1 (Int.toNat y96.1) ((0,0),((0,([],(0,0))),(0,false)))).1]:List (Int×Int)),s95.2.2.1.2.2.2))))
 else none
 else
 some (s95.1,s95.2.2.1):Option (Int×Int×Int×List (Int×Int)×List (Int×List Int×Int×Int))).bind fun j98=>
 some (Sum.inl (j98.1,(IntKind.wrap .i64 (s95.2.1 - 1),(j98.2,y96.2))))
 else none
 else
 some (Sum.inr (s95.1,(s95.2.2.1,s95.2.2.2)))) (0,(IntKind.wrap .i64 (1+y88.1),((y58.1.1,(y58.1.2.1,(([]:List (Int×Int)),y58.1.2.2.2))),y88.2)))).bind fun j99=>
 ((QO j99.2.2 4).bind fun y101=>
 bif (!y101.1) then
 some (decide ((0:Int)<j99.1),y101.2)
 else
 some (false,y101.2):Option (Bool×List Int×Int)).bind fun j102=>
 (bif j102.1 then
 (Qp j102.2 5).bind fun y108=>
 (QkB 1 (IntKind.wrap .i64 (j99.1 - y108.1))).bind fun y109=>
 (JY y108.2).bind fun y110=>
 (bif (decide ((j99.2.1.1:Int)=1)) then
 bif (inB 0 ([(y109,y110.1)]:List (Int×List Int×Int×Int))) then
 some (decide (((List.getD ([(y109,y110.1)]:List (Int×List Int×Int×Int)) (Int.toNat 0) (0,([],(0,0)))).1:Int)<100))
 else none
 else
 some false:Option (Bool)).bind fun j111=>
 (bif j111 then
 some (0,(0,(j99.2.1.2.2.1,([(y109,y110.1)]:List (Int×List Int×Int×Int)))))
 else
 some (j99.2.1.1,(j99.2.1.2.1,(j99.2.1.2.2.1,([(y109,y110.1)]:List (Int×List Int×Int×Int))))):Option (Int×Int×List (Int×Int)×List (Int×List Int×Int×Int))).bind fun j112=>
 some (j112,y110.2)
 else
 some (j99.2.1,j102.2):Option ((Int×Int×List (Int×Int)×List (Int×List Int×Int×Int))×List Int×Int)).bind fun j113=>
 some (j113.1,j113.2)
 else
 some (y58.1,j61.2):Option ((Int×Int×List (Int×Int)×List (Int×List Int×Int×Int))×List Int×Int)).bind fun j114=>
 some (j114.1,j114.2)
def QeT:Callee:=⟨[.io s29 .z .z,.v (.list s6) .z],[(s15,(.p .z (.p .z (.p (.o .z) (.o (.p .z (.p (.o .z) .z)))))))],fun t=>QgI t.1 t.2.1,true⟩
def Qsw:Ctx:=⟨tys,[(29,Z3),(62,Zq),(79,ZG),(163,Qev),(164,Qfq),(165,Qbb)],[],[(6,(⟨[(0,.keep),(1,.keep),(4,.keep),(5,.keep),(6,.st (.int .i64) .z false),(7,.st (.int .i64) .z false)],[(4,.keep),(5,.st s15 (.p .z (.p .z (.p (.o .z) (.o (.p .z (.p (.o .z) .z)))))) false),(83,.st s29 .z false)]⟩,⟨[((.exit 0),⟨[(0,.keep),(4,.keep),(5,.keep),(6,.st (.int .i64) .z false)],[(4,.keep),(5,.st s15 (.p .z (.p .z (.p (.o .z) (.o (.p .z (.p (.o .z) .z)))))) false),(83,.st s29 .z false)]⟩)]⟩))],[(3,⟨[(.normal,⟨[(4,.keep),(5,.keep)],[(4,.keep),(5,.st s15 (.p .z (.p .z (.p (.o .z) (.o (.p .z (.p (.o .z) .z)))))) false),(83,.st s29 .z false)]⟩)]⟩),
 (10,⟨[(.normal,⟨[(0,.keep),(1,.keep),(4,.keep),(5,.keep),(6,.st (.int .i64) .z false),(7,.keep)],[(4,.keep),(5,.st s15 (.p .z (.p .z (.p (.o .z) (.o (.p .z (.p (.o .z) .z)))))) false),(83,.keep)]⟩)]⟩),
 (13,⟨[(.normal,⟨[(4,.keep),(5,.keep)],[(4,.keep),(5,.st s15 (.p .z (.p .z (.p (.o .z) (.o (.p .z (.p (.o .z) .z)))))) false),(83,.st s29 .z false)]⟩)]⟩),
 (15,⟨[(.normal,⟨[(4,.keep),(5,.keep)],[(4,.keep),(5,.st s15 (.p .z (.p .z (.p (.o .z) (.o (.p .z (.p (.o .z) .z)))))) false),(83,.keep)]⟩)]⟩)],[(2,⟨[(0,.keep),(1,.keep),(4,.keep),(5,.keep),(18,.st .bool .z false)],[(4,.keep),(5,.keep),(83,.st s29 .z false)]⟩),
 (12,⟨[(0,.keep),(4,.keep),(5,.keep),(6,.keep),(58,.st .bool .z false)],[(4,.keep),(5,.keep),(83,.st s29 .z false)]⟩),
 (14,⟨[(4,.keep),(5,.keep),(79,.st .bool .z false)],[(4,.keep),(5,.keep),(83,.keep)]⟩)],[],[]⟩
def Qet (x0:List (List UInt8)×List (Int×Int)):Option (List (List UInt8)×List (Int×Int)):=
 bif decide (List.length ([]:List (List UInt8))+List.length x0.1<=LIM) then
 bif decide (List.length ([]:List (Int×Int))+List.length x0.2<=LIM) then
 some (List.append ([]:List (List UInt8)) x0.1,List.append ([]:List (Int×Int)) x0.2)
 else none
 else none
def Qcj:Callee:=⟨[.v s1 .z],[(s1,(.p (.o .z) (.o .z)))],fun t=>Qet t.1,true⟩
def QoO:Ctx:=⟨tys,[],[],[],[],[],[],[]⟩
def QaO (x0:List (List UInt8)×List (Int×Int)) (x1:List UInt8):Option (Int×Int×List (List UInt8)×List (Int×Int)):=
 (YI x0).bind fun y5=>
 bif (!decide ((y5:Int)=0)) then
 some (y5,(0,([],[])))
 else
 (bif (decide (((List.length x1:Int):Int)<1)) then
 some true
 else
 some (decide ((300:Int)<(List.length x1:Int))):Option (Bool)).bind fun j6=>
 bif j6 then
 some (2,(0,([],[])))
 else
 (Qet x0).bind fun y7=>
 (QeN x0.1 x1).bind fun y8=>
 bif (decide ((0:Int)<y8)) then
 some (0,(y8,y7))
 else
 bif (decide ((60:Int)<=(List.length x0.1:Int))) then
 some (2,(0,([],[])))
 else
 bif decide (List.length y7.1+List.length ([x1]:List (List UInt8))<=LIM) then
 some (0,((List.length (List.append y7.1 ([x1]:List (List UInt8))):Int),(List.append y7.1 ([x1]:List (List UInt8)),y7.2)))
 else none
def QaP:Callee:=⟨[.v s1 .z,.v .str .z],[(s23,(.p .z (.p .z (.p (.o .z) (.o .z)))))],fun t=>QaO t.1 t.2.1,true⟩
def Qlq:Ctx:=⟨tys,[(32,Yg),(64,QcQ),(166,Qcj)],[],[],[],[(4,⟨[(1,.keep),(2,.keep),(4,.keep),(20,.st .bool .z false)],[(2,.keep),(4,.keep)]⟩)],[],[]⟩
def Qeg (x0:List (List UInt8)×List (Int×Int)) (x1:Int) (x2:Int):Option (Int×Int×List (List UInt8)×List (Int×Int)):=
 (YI x0).bind fun y9=>
 bif (!decide ((y9:Int)=0)) then
 some (y9,(0,([],[])))
 else
 ((JN x1).bind fun y12=>
 bif (!y12) then
 some true
 else
 (QeR x0 x2).bind fun y13=>
 some (!y13):Option (Bool)).bind fun j14=>
 bif j14 then
 some (3,(0,([],[])))
 else
 (Qet x0).bind fun y15=>
 (QaT x0.2 (x1,x2)).bind fun y16=>
 bif y16 then
 some (0,(x2,y15))
 else
 bif (decide ((120:Int)<=(List.length x0.2:Int))) then
 some (2,(0,([],[])))
 else
 bif decide (List.length y15.2+List.length ([(x1,x2)]:List (Int×Int))<=LIM) then
 some (0,(x2,(y15.1,List.append y15.2 ([(x1,x2)]:List (Int×Int)))))
 else none
def Qce:Callee:=⟨[.v s1 .z,.v (.int .i64) .z,.v (.int .i64) .z],[(s23,(.p .z (.p .z (.p (.o .z) (.o .z)))))],fun t=>Qeg t.1 t.2.1 t.2.2.1,true⟩
def Qpd:Ctx:=⟨tys,[(32,Yg),(49,YV),(66,JJ),(135,QeS),(166,Qcj)],[],[],[],[(4,⟨[(1,.keep),(2,.keep),(3,.keep),(6,.keep),(22,.st .bool .z false)],[(3,.keep),(6,.keep)]⟩)],[],[]⟩
def Qdm (x0:List Int) (x1:Int):Option (Bool):=
 (Qf (S:=Int) (X:=(Unit)⊕(Bool)) (fun s5=>
 bif (decide ((s5:Int)<(List.length x0:Int))) then
 bif (inB s5 x0) then
 bif (decide ((List.getD x0 (Int.toNat s5) 0:Int)=x1)) then
 some (Sum.inr (Sum.inr true))
 else
 some (Sum.inl (IntKind.wrap .i64 (s5+1)))
 else none
 else
 some (Sum.inr (Sum.inl ()))) 0).bind fun j6=>
 Sum.elim (fun (j7:Unit)=>
 some false) (fun (j8:Bool)=>
 some j8) j6
def QbB:Callee:=⟨[.v (.list (.int .i64)) .z,.v (.int .i64) .z],[(.bool,.z)],fun t=>Qdm t.1 t.2.1,true⟩
def Qmr:Ctx:=⟨tys,[],[],[(2,(⟨[(0,.keep),(1,.keep),(5,.st (.int .i64) .z false)],[]⟩,⟨[((.exit 0),⟨[],[]⟩),(.ret,⟨[(4,.st .bool .z false)],[]⟩)]⟩))],[],[],[],[]⟩
def QgZ (x0:Int×Int×Int×List Int):Option (List UInt8):=
 (QL x0.1).bind fun y11=>
 bif decide (List.length [98,108,111,99,107,32]+List.length y11<=LIM) then
 bif decide (List.length (List.append [98,108,111,99,107,32] y11)+List.length [32]<=LIM) then
 (QL x0.2.1).bind fun y12=>
 bif decide (List.length (List.append (List.append [98,108,111,99,107,32] y11) [32])+List.length y12<=LIM) then
 bif decide (List.length (List.append (List.append (List.append [98,108,111,99,107,32] y11) [32]) y12)+List.length [32]<=LIM) then
 (QL x0.2.2.1).bind fun y13=>
 bif decide (List.length (List.append (List.append (List.append (List.append [98,108,111,99,107,32] y11) [32]) y12) [32])+List.length y13<=LIM) then
 bif (decide (((List.length x0.2.2.2:Int):Int)=0)) then
 bif decide (List.length (List.append (List.append (List.append (List.append (List.append [98,108,111,99,107,32] y11) [32]) y12) [32]) y13)+List.length [32,45]<=LIM) then
 some (List.append (List.append (List.append (List.append (List.append (List.append [98,108,111,99,107,32] y11) [32]) y12) [32]) y13) [32,45])
 else none
 else
 (Qf (S:=List UInt8×Int) (X:=List UInt8) (fun s17=>
 bif (decide ((s17.2:Int)<(List.length x0.2.2.2:Int))) then
 (bif (decide ((s17.2:Int)=0)) then
 some [32]
 else
 some [43]:Option (List UInt8)).bind fun j18=>
 bif decide (List.length s17.1+List.length j18<=LIM) then
 bif (inB s17.2 x0.2.2.2) then
 (QL (List.getD x0.2.2.2 (Int.toNat s17.2) 0)).bind fun y19=>
 bif decide (List.length (List.append s17.1 j18)+List.length y19<=LIM) then
 some (Sum.inl (List.append (List.append s17.1 j18) y19,IntKind.wrap .i64 (s17.2+1)))
 else none
 else none
 else none
 else
 some (Sum.inr s17.1)) (List.append (List.append (List.append (List.append (List.append [98,108,111,99,107,32] y11) [32]) y12) [32]) y13,0)).bind fun j20=>
 some j20
 else none
 else none
 else none
 else none
 else none
def Qeo:Callee:=⟨[.rp s19 false],[(.str,.z)],fun t=>QgZ t.1,true⟩
def Qo6:Ctx:=⟨tys,[(167,Qe2)],[],[(5,(⟨[(0,.keep),(3,.st .str .z false),(4,.st (.int .i64) .z false)],[]⟩,⟨[((.exit 0),⟨[(3,.st .str .z false)],[]⟩)]⟩))],[(9,⟨[(.normal,⟨[(0,.keep),(3,.keep),(4,.keep),(5,.st .str .z false)],[]⟩)]⟩)],[],[],[]⟩
def QgU (x0:List Int×Int) (x1:List (List UInt8)×List (Int×Int)) (x2:Int×Int×List ((Int×Int)×(Int×List Int×Int×Int)×Int×Bool)×List (Int×Int×Int)):Option ((List (List UInt8)×List (Int×Int))×Int×List Int×Int):=
 (Qp x0 3).bind fun y177=>
 (Qf (S:=List ((Int×Int)×(Int×List Int×Int×Int)×Int×Bool)×Int×List Int×Int) (X:=List ((Int×Int)×(Int×List Int×Int×Int)×Int×Bool)×List Int×Int) (fun s190=>
 bif (decide ((s190.2.1:Int)<(List.length x2.2.2.1:Int))) then
 (bif (inB s190.2.1 x2.2.2.1) then
 (JS (List.getD x2.2.2.1 (Int.toNat s190.2.1) ((0,0),((0,([],(0,0))),(0,false)))) (IntKind.wrap .i64 (x2.2.1+1))).bind fun y193=>
 bif y193 then
 some (true,s190.2.2)
 else
 (QO s190.2.2 9).bind fun y194=>
 some (y194.1,y194.2)
 else none:Option (Bool×List Int×Int)).bind fun j195=>
 (bif j195.1 then
 bif (inB s190.2.1 x2.2.2.1) then
 bif decide (List.length s190.1+List.length ([List.getD x2.2.2.1 (Int.toNat s190.2.1) ((0,0),((0,([],(0,0))),(0,false)))]:List ((Int×Int)×(Int×List Int×Int×Int)×Int×Bool))<=LIM) then
 some (List.append s190.1 ([List.getD x2.2.2.1 (Int.toNat s190.2.1) ((0,0),((0,([],(0,0))),(0,false)))]:List ((Int×Int)×(Int×List Int×Int×Int)×Int×Bool)))
 else none
 else none
 else
 some s190.1:Option (List ((Int×Int)×(Int×List Int×Int×Int)×Int×Bool))).bind fun j196=>
 some (Sum.inl (j196,(IntKind.wrap .i64 (s190.2.1+1),j195.2)))
 else
 some (Sum.inr (s190.1,s190.2.2))) (([]:List ((Int×Int)×(Int×List Int×Int×Int)×Int×Bool)),(0,y177.2))).bind fun j197=>
 (Qp j197.2 3).bind fun y198=>
 (Qf (S:=List ((Int×Int)×(Int×List Int×Int×Int)×Int×Bool)×Int×(List (List UInt8)×List (Int×Int))×(Int×Int×Int×List Int)×List Int×Int) (X:=(List (List UInt8)×List (Int×Int))×(Int×Int×Int×List Int)×List Int×Int) (fun s299=>
 (bif (decide ((0:Int)<s299.2.1)) then
 some (decide ((0:Int)<(List.length s299.1:Int)))
 else
 some false:Option (Bool)).bind fun j300=>
 bif j300 then
 (QgI s299.2.2.2.2 s299.1).bind fun y301=>
 (bif (decide ((y301.1.1:Int)=2)) then
 (Qbx x2.2.2.2 y301.1.2.1).bind fun y303=>
 some (decide ((y303:Int)<0))
 else
 some false:Option (Bool)).bind fun j304=>
 (bif j304 then
 some (0,(0,y301.1.2.2))
 else
 some y301.1:Option (Int×Int×List (Int×Int)×List (Int×List Int×Int×Int))).bind fun j305=>
 (Y3 j305).bind fun y306=>
 (QaO s299.2.2.1 y306).bind fun y307=>
 bif (!decide ((y307.1:Int)=0)) then
 some (Sum.inl (s299.1,(IntKind.wrap .i64 (s299.2.1 - 1),(s299.2.2.1,(s299.2.2.2.1,y301.2)))))
 else
 (Qf (S:=Int×(List (List UInt8)×List (Int×Int))×List Int×Int) (X:=(List (List UInt8)×List (Int×Int))×List Int×Int) (fun s320=>
 bif (decide ((s320.1:Int)<7)) then
 (QO s320.2.2 14).bind fun y321=>
 (bif (!y321.1) then
 (Qeg s320.2.1 s320.1 y307.2.1).bind fun y324=>
 (bif (decide ((y324.1:Int)=0)) then
 some y324.2.2
 else
 some s320.2.1:Option (List (List UInt8)×List (Int×Int))).bind fun j325=>
 some j325
 else
 some s320.2.1:Option (List (List UInt8)×List (Int×Int))).bind fun j326=>
 some (Sum.inl (IntKind.wrap .i64 (s320.1+1),(j326,y321.2)))
 else
 some (Sum.inr (s320.2.1,s320.2.2))) (1,(y307.2.2,y301.2))).bind fun j327=>
 (Qdm s299.2.2.2.1.2.2.2 y307.2.1).bind fun y328=>
 (bif (!y328) then
 bif decide (List.length s299.2.2.2.1.2.2.2+List.length ([y307.2.1]:List Int)<=LIM) then
 some (s299.2.2.2.1.1,(s299.2.2.2.1.2.1,(s299.2.2.2.1.2.2.1,List.append s299.2.2.2.1.2.2.2 ([y307.2.1]:List Int))))
 else none
 else
 some s299.2.2.2.1:Option (Int×Int×Int×List Int)).bind fun j329=>
 (Qf (S:=List ((Int×Int)×(Int×List Int×Int×Int)×Int×Bool)×Int×List Int×Int) (X:=List ((Int×Int)×(Int×List Int×Int×Int)×Int×Bool)×List Int×Int) (fun s342=>
 bif (decide ((s342.2.1:Int)<(List.length s299.1:Int))) then
 (bif (inB s342.2.1 s299.1) then
 (ZH j305.2.2.1 (List.getD s299.1 (Int.toNat s342.2.1) ((0,0),((0,([],(0,0))),(0,false)))).1).bind fun y345=>
 bif (!y345) then
 some (true,s342.2.2)
 else
 (QO s342.2.2 12).bind fun y346=>
 some (y346.1,y346.2)
 else none:Option (Bool×List Int×Int)).bind fun j347=>
 (bif j347.1 then
 bif (inB s342.2.1 s299.1) then
 bif decide (List.length s342.1+List.length ([List.getD s299.1 (Int.toNat s342.2.1) ((0,0),((0,([],(0,0))),(0,false)))]:List ((Int×Int)×(Int×List Int×Int×Int)×Int×Bool))<=LIM) then
 some (List.append s342.1 ([List.getD s299.1 (Int.toNat s342.2.1) ((0,0),((0,([],(0,0))),(0,false)))]:List ((Int×Int)×(Int×List Int×Int×Int)×Int×Bool)))
 else none
 else none
 else
 some s342.1:Option (List ((Int×Int)×(Int×List Int×Int×Int)×Int×Bool))).bind fun j348=>
 some (Sum.inl (j348,(IntKind.wrap .i64 (s342.2.1+1),j347.2)))
 else
 some (Sum.inr (s342.1,s342.2.2))) (([]:List ((Int×Int)×(Int×List Int×Int×Int)×Int×Bool)),(0,j327.2))).bind fun j349=>
 some (Sum.inl (j349.1,(IntKind.wrap .i64 (s299.2.1 - 1),(j327.1,(j329,j349.2)))))
 else
 some (Sum.inr (s299.2.2.1,(s299.2.2.2.1,s299.2.2.2.2)))) (j197.1,(y198.1,(x1,((x2.1,(IntKind.wrap .i64 (x2.2.1+1),(IntKind.wrap .i64 (1+y177.1),[]))),y198.2))))).bind fun j350=>
 (QgZ j350.2.1).bind fun y351=>
 (QaO j350.1 y351).bind fun y352=>
 bif (!decide ((y352.1:Int)=0)) then
 some (j350.1,(0,j350.2.2))
 else
 some (y352.2.2,(y352.2.1,j350.2.2))
def Qex:Callee:=⟨[.io s29 .z .z,.v s1 .z,.v s10 .z],[(s1,.z),((.int .i64),.z)],fun t=>QgU t.1 t.2.1 t.2.2.1,false⟩
def Qpu:Ctx:=⟨tys,[(29,Z3),(62,Zq),(79,ZG),(114,Qa9),(115,QeT),(116,QaP),(117,JU),(118,Qce),(127,Qbw),(212,QbB),(213,Qeo)],[(11,1)],[(4,(⟨[(0,.keep),(4,.keep),(5,.keep),(6,.keep),(8,.keep),(9,.st (.list s6) (.o .z) false),(10,.st (.int .i64) .z false)],[(4,.keep),(5,.keep),(6,.keep),(8,.keep),(159,.st s29 .z false)]⟩,⟨[((.exit 0),⟨[(0,.keep),(4,.keep),(5,.keep),(6,.keep),(8,.keep),(9,.st (.list s6) (.o .z) false)],[(4,.keep),(5,.keep),(6,.keep),(8,.keep),(159,.st s29 .z false)]⟩)]⟩)),
 (9,(⟨[(0,.keep),(4,.keep),(5,.keep),(6,.keep),(8,.keep),(9,.st (.list s6) .z false),(11,.st (.int .i64) .z false)],[(4,.st s1 .z false),(5,.keep),(6,.keep),(8,.st s19 (.p .z (.p .z (.p .z (.o .z)))) false),(159,.st s29 .z false)]⟩,⟨[((.exit 2),⟨[(4,.keep),(6,.keep),(8,.keep)],[(4,.st s1 .z false),(6,.keep),(8,.st s19 (.p .z (.p .z (.p .z (.o .z)))) false),(159,.st s29 .z false)]⟩)]⟩)),
 (19,(⟨[(0,.keep),(4,.keep),(5,.keep),(6,.keep),(8,.keep),(9,.keep),(11,.keep),(12,.keep),(13,.keep),(14,.st (.int .i64) .z false)],[(4,.st s1 (.p (.o .z) (.o .z)) false),(5,.keep),(6,.keep),(8,.keep),(12,.keep),(13,.keep),(159,.st s29 .z false)]⟩,⟨[((.exit 4),⟨[(0,.keep),(4,.keep),(5,.keep),(6,.keep),(8,.keep),(9,.keep),(11,.keep),(12,.keep),(13,.keep)],[(4,.st s1 (.p (.o .z) (.o .z)) false),(5,.keep),(6,.keep),(8,.keep),(12,.keep),(13,.keep),(159,.st s29 .z false)]⟩)]⟩)),
 (29,(⟨[(0,.keep),(4,.keep),(5,.keep),(6,.keep),(8,.keep),(9,.keep),(11,.keep),(12,.keep),(16,.st (.list s6) (.o .z) false),(17,.st (.int .i64) .z false)],[(4,.keep),(5,.keep),(6,.keep),(8,.keep),(12,.keep),(159,.st s29 .z false)]⟩,⟨[((.exit 6),⟨[(0,.keep),(4,.keep),(5,.keep),(6,.keep),(8,.keep),(11,.keep),(16,.st (.list s6) (.o .z) false)],[(4,.keep),(5,.keep),(6,.keep),(8,.keep),(159,.st s29 .z false)]⟩)]⟩))],[(7,⟨[(.normal,⟨[(0,.keep),(4,.keep),(5,.keep),(6,.keep),(8,.keep),(9,.st (.list s6) (.o .z) false),(10,.keep)],[(4,.keep),(5,.keep),(6,.keep),(8,.keep),(159,.keep)]⟩)]⟩),
 (13,⟨[(.normal,⟨[(0,.keep),(4,.keep),(5,.keep),(6,.keep),(8,.keep),(9,.keep),(11,.keep),(12,.keep)],[(4,.keep),(5,.keep),(6,.keep),(8,.keep),(12,.st s15 (.p .z (.p .z (.p (.o .z) (.o (.p .z (.p (.o .z) .z)))))) false),(159,.keep)]⟩)]⟩),
 (22,⟨[(.normal,⟨[(0,.keep),(4,.keep),(5,.keep),(6,.keep),(8,.keep),(9,.keep),(11,.keep),(12,.keep),(13,.keep),(14,.keep)],[(4,.st s1 (.p (.o .z) (.o .z)) false),(5,.keep),(6,.keep),(8,.keep),(12,.keep),(13,.keep),(159,.keep)]⟩)]⟩),
 (24,⟨[(.normal,⟨[(0,.keep),(4,.keep),(5,.keep),(6,.keep),(8,.keep),(9,.keep),(11,.keep),(12,.keep),(13,.keep),(14,.keep)],[(4,.st s1 (.p (.o .z) (.o .z)) false),(5,.keep),(6,.keep),(8,.keep),(12,.keep),(13,.keep),(159,.keep)]⟩)]⟩),
 (26,⟨[(.normal,⟨[(0,.keep),(4,.keep),(5,.keep),(6,.keep),(8,.keep),(9,.keep),(11,.keep),(12,.keep)],[(4,.keep),(5,.keep),(6,.keep),(8,.st s19 (.p .z (.p .z (.p .z (.o .z)))) false),(12,.keep),(159,.keep)]⟩)]⟩),
 (32,⟨[(.normal,⟨[(0,.keep),(4,.keep),(5,.keep),(6,.keep),(8,.keep),(9,.keep),(11,.keep),(12,.keep),(16,.st (.list s6) (.o .z) false),(17,.keep)],[(4,.keep),(5,.keep),(6,.keep),(8,.keep),(12,.keep),(159,.keep)]⟩)]⟩)],[(6,⟨[(0,.keep),(4,.keep),(5,.keep),(6,.keep),(8,.keep),(9,.keep),(10,.keep),(46,.st .bool .z false)],[(4,.keep),(5,.keep),(6,.keep),(8,.keep),(159,.st s29 .z false)]⟩),
 (9,⟨[(0,.keep),(4,.keep),(5,.keep),(6,.keep),(8,.keep),(9,.keep),(11,.keep),(63,.st .bool .z false)],[(4,.keep),(5,.keep),(6,.keep),(8,.keep),(159,.keep)]⟩),
 (12,⟨[(0,.keep),(4,.keep),(5,.keep),(6,.keep),(8,.keep),(9,.keep),(11,.keep),(12,.keep),(79,.st .bool .z false)],[(4,.keep),(5,.keep),(6,.keep),(8,.keep),(12,.keep),(159,.keep)]⟩),
 (31,⟨[(0,.keep),(4,.keep),(5,.keep),(6,.keep),(8,.keep),(9,.keep),(11,.keep),(12,.keep),(16,.keep),(17,.keep),(139,.st .bool .z false)],[(4,.keep),(5,.keep),(6,.keep),(8,.keep),(12,.keep),(159,.st s29 .z false)]⟩)],[(37,[2,3])],[]⟩
def QcT (x0:List ((Int×Int)×(Int×List Int×Int×Int)×Int×Bool)) (x1:Int):Option (Bool):=
 (Qf (S:=Int) (X:=(Unit)⊕(Bool)) (fun s5=>
 bif (decide ((s5:Int)<(List.length x0:Int))) then
 bif (inB s5 x0) then
 bif (decide (((List.getD x0 (Int.toNat s5) ((0,0),((0,([],(0,0))),(0,false)))).1.1:Int)=x1)) then
 some (Sum.inr (Sum.inr true))
 else
 some (Sum.inl (IntKind.wrap .i64 (s5+1)))
 else none
 else
 some (Sum.inr (Sum.inl ()))) 0).bind fun j6=>
 Sum.elim (fun (j7:Unit)=>
 some false) (fun (j8:Bool)=>
 some j8) j6
def QeP:Callee:=⟨[.v (.list s6) .z,.v (.int .i64) .z],[(.bool,.z)],fun t=>QcT t.1 t.2.1,true⟩
def Qsq:Ctx:=⟨tys,[],[],[(2,(⟨[(0,.keep),(1,.keep),(5,.st (.int .i64) .z false)],[]⟩,⟨[((.exit 0),⟨[],[]⟩),(.ret,⟨[(4,.st .bool .z false)],[]⟩)]⟩))],[],[],[],[]⟩
def Qh2 (x0:List ((Int×Int)×(Int×List Int×Int×Int)×Int×Bool)) (x1:(Int×Int)×(Int×List Int×Int×Int)×Int×Bool):Option (List ((Int×Int)×(Int×List Int×Int×Int)×Int×Bool)):=
 (Qf (S:=Int) (X:=Int) (fun s18=>
 (bif (decide ((s18:Int)<(List.length x0:Int))) then
 bif (inB s18 x0) then
 (QdG (List.getD x0 (Int.toNat s18) ((0,0),((0,([],(0,0))),(0,false)))).1 x1.1).bind fun y20=>
 some y20
 else none
 else
 some false:Option (Bool)).bind fun j21=>
 bif j21 then
 some (Sum.inl (IntKind.wrap .i64 (s18+1)))
 else
 some (Sum.inr s18)) 0).bind fun j22=>
 bif (QT 0 j22 x0) then
 bif decide (List.length ([]:List ((Int×Int)×(Int×List Int×Int×Int)×Int×Bool))+List.length (cut 0 j22 x0)<=LIM) then
 bif decide (List.length (List.append ([]:List ((Int×Int)×(Int×List Int×Int×Int)×Int×Bool)) (cut 0 j22 x0))+List.length ([x1]:List ((Int×Int)×(Int×List Int×Int×Int)×Int×Bool))<=LIM) then
 bif (QT j22 (List.length x0:Int) x0) then
 bif decide (List.length (List.append (List.append ([]:List ((Int×Int)×(Int×List Int×Int×Int)×Int×Bool)) (cut 0 j22 x0)) ([x1]:List ((Int×Int)×(Int×List Int×Int×Int)×Int×Bool)))+List.length (cut j22 (List.length x0:Int) x0)<=LIM) then
 some (List.append (List.append (List.append ([]:List ((Int×Int)×(Int×List Int×Int×Int)×Int×Bool)) (cut 0 j22 x0)) ([x1]:List ((Int×Int)×(Int×List Int×Int×Int)×Int×Bool))) (cut j22 (List.length x0:Int) x0))
 else none
 else none
 else none
 else none
 else none
def QfC:Callee:=⟨[.v (.list s6) .z,.v s6 .z],[((.list s6),(.o .z))],fun t=>Qh2 t.1 t.2.1,true⟩
def Qqe:Ctx:=⟨tys,[(123,Qby)],[],[(2,(⟨[(0,.keep),(3,.keep),(5,.st (.int .i64) .z false)],[(3,.keep)]⟩,⟨[((.exit 0),⟨[(0,.keep),(3,.keep),(5,.st (.int .i64) .z false)],[(3,.keep)]⟩)]⟩))],[],[(2,⟨[(0,.keep),(3,.keep),(5,.keep),(20,.st .bool .z false)],[(3,.keep)]⟩)],[],[]⟩
def Qc6 (x0:List ((Int×Int)×(Int×List Int×Int×Int)×Int×Bool)) (x1:Int) (x2:List (Int×List Int×Int×Int)) (x3:Int) (x4:Bool):Option (List ((Int×Int)×(Int×List Int×Int×Int)×Int×Bool)×List ((Int×Int)×(Int×List Int×Int×Int)×Int×Bool)):=
 (Qa8 x0).bind fun y10=>
 (Qf (S:=List ((Int×Int)×(Int×List Int×Int×Int)×Int×Bool)×Int) (X:=List ((Int×Int)×(Int×List Int×Int×Int)×Int×Bool)) (fun s15=>
 bif (decide ((s15.2:Int)<(List.length x2:Int))) then
 bif (inB s15.2 x2) then
 bif (inB s15.2 x2) then
 (Qbc (List.getD x2 (Int.toNat s15.2) (0,([],(0,0)))).2).bind fun y16=>
 (Qh2 s15.1 ((x1,s15.2),(((List.getD x2 (Int.toNat s15.2) (0,([],(0,0)))).1,y16),(x3,x4)))).bind fun y17=>
 some (Sum.inl (y17,IntKind.wrap .i64 (s15.2+1)))
 else none
 else none
 else
 some (Sum.inr s15.1)) (y10,0)).bind fun j18=>
 some (j18,x0)
def QfD:Callee:=⟨[.mu (.list s6) (.o .z) (.o .z),.v (.int .i64) .z,.v (.list s3) .z,.v (.int .i64) .z,.v .bool .z],[((.list s6),(.o .z))],fun t=>Qc6 t.1 t.2.1 t.2.2.1 t.2.2.2.1 t.2.2.2.2.1,true⟩
def QqF:Ctx:=⟨tys,[(221,JR),(242,Qcd),(243,QfC)],[(6,0)],[(3,(⟨[(0,.keep),(1,.keep),(2,.keep),(3,.keep),(4,.keep),(11,.st (.list s6) (.o .z) false),(12,.st (.int .i64) .z false)],[]⟩,⟨[((.exit 0),⟨[(0,.keep),(11,.st (.list s6) (.o .z) false)],[]⟩)]⟩))],[],[],[],[]⟩
def YR (x0:List ((Int×Int)×(Int×List Int×Int×Int)×Int×Bool)) (x1:Int) (x2:List (Int×List Int×Int×Int)) (x3:Int) (x4:Bool):Option ((Int×List ((Int×Int)×(Int×List Int×Int×Int)×Int×Bool))×List ((Int×Int)×(Int×List Int×Int×Int)×Int×Bool)):=
 (Qai x0).bind fun y16=>
 bif (!decide ((y16:Int)=0)) then
 some ((y16,[]),x0)
 else
 ((QZ x1 1 60).bind fun y19=>
 bif (!y19) then
 some true
 else
 (Jt x3).bind fun y20=>
 some (!y20):Option (Bool)).bind fun j21=>
 bif j21 then
 some ((3,[]),x0)
 else
 bif (decide ((4:Int)<(List.length x2:Int))) then
 some ((2,[]),x0)
 else
 (Qf (S:=Int) (X:=(Unit)⊕(Int×List ((Int×Int)×(Int×List Int×Int×Int)×Int×Bool))) (fun s24=>
 bif (decide ((s24:Int)<(List.length x2:Int))) then
 bif (inB s24 x2) then
 (QfG (List.getD x2 (Int.toNat s24) (0,([],(0,0))))).bind fun y25=>
 bif (!decide ((y25:Int)=0)) then
 some (Sum.inr (Sum.inr (y25,[])))
 else
 some (Sum.inl (IntKind.wrap .i64 (s24+1)))
 else none
 else
 some (Sum.inr (Sum.inl ()))) 0).bind fun j26=>
 Sum.elim (fun (j27:Unit)=>
 (QcT x0 x1).bind fun y29=>
 bif y29 then
 some ((7,[]),x0)
 else
 bif (decide ((40:Int)<IntKind.wrap .i64 ((List.length x0:Int)+(List.length x2:Int)))) then
 some ((2,[]),x0)
 else
 (Qc6 x0 x1 x2 x3 x4).bind fun y30=>
 some ((0,y30.1),y30.2)) (fun (j28:Int×List ((Int×Int)×(Int×List Int×Int×Int)×Int×Bool))=>
 some (j28,x0)) j26
def Jx:Callee:=⟨[.mu (.list s6) (.o .z) (.o .z),.v (.int .i64) .z,.v (.list s3) .z,.v (.int .i64) .z,.v .bool .z],[(s30,(.p .z (.o .z)))],fun t=>YR t.1 t.2.1 t.2.2.1 t.2.2.2.1 t.2.2.2.2.1,true⟩
def Qk6:Ctx:=⟨tys,[(65,ZD),(67,Jj),(121,YS),(122,Qdi),(219,QeP),(220,QfD)],[],[(9,(⟨[(0,.keep),(1,.keep),(2,.keep),(3,.keep),(4,.keep),(10,.keep),(12,.st (.int .i64) .z false)],[(10,.keep)]⟩,⟨[((.exit 0),⟨[(0,.keep),(1,.keep),(2,.keep),(3,.keep),(4,.keep),(10,.keep)],[(10,.keep)]⟩),(.ret,⟨[(0,.keep),(10,.keep)],[(10,.st s30 (.p .z (.o (.p .z (.p (.p .z (.p (.o .z) .z)) .z)))) false)]⟩)]⟩))],[],[(4,⟨[(0,.keep),(1,.keep),(2,.keep),(3,.keep),(4,.keep),(10,.keep),(27,.st .bool .z false)],[(10,.keep)]⟩)],[],[]⟩
def Qgd (x0:Int×Int×Int×List Int):Option (Int):=
 ((QZ x0.1 0 60).bind fun y21=>
 bif (!y21) then
 some true
 else
 (QZ x0.2.1 1 40).bind fun y22=>
 bif (!y22) then
 some true
 else
 (JN x0.2.2.1).bind fun y23=>
 some (!y23):Option (Bool)).bind fun j24=>
 bif j24 then
 some 3
 else
 bif (!(Sh.beq .bool (decide ((x0.1:Int)=0)) (decide ((x0.2.1:Int)=1)))) then
 some 1
 else
 bif (decide ((6:Int)<(List.length x0.2.2.2:Int))) then
 some 2
 else
 (Qf (S:=Int) (X:=(Unit)⊕(Int)) (fun s29=>
 bif (decide ((s29:Int)<(List.length x0.2.2.2:Int))) then
 bif (inB s29 x0.2.2.2) then
 (QZ (List.getD x0.2.2.2 (Int.toNat s29) 0) 1 60).bind fun y30=>
 bif (!y30) then
 some (Sum.inr (Sum.inr 3))
 else
 bif (QT 0 s29 x0.2.2.2) then
 bif (inB s29 x0.2.2.2) then
 (Qdm (cut 0 s29 x0.2.2.2) (List.getD x0.2.2.2 (Int.toNat s29) 0)).bind fun y31=>
 bif y31 then
 some (Sum.inr (Sum.inr 7))
 else
 some (Sum.inl (IntKind.wrap .i64 (s29+1)))
 else none
 else none
 else none
 else
 some (Sum.inr (Sum.inl ()))) 0).bind fun j32=>
 Sum.elim (fun (j33:Unit)=>
 some 0) (fun (j34:Int)=>
 some j34) j32
def QdK:Callee:=⟨[.rp s19 false],[((.int .i64),.z)],fun t=>Qgd t.1,true⟩
def Qm4:Ctx:=⟨tys,[(49,YV),(65,ZD),(212,QbB)],[],[(8,(⟨[(0,.keep),(3,.st (.int .i64) .z false)],[]⟩,⟨[((.exit 0),⟨[],[]⟩),(.ret,⟨[(2,.st (.int .i64) .z false)],[]⟩)]⟩))],[],[(1,⟨[(0,.keep),(25,.st .bool .z false)],[]⟩)],[],[]⟩
def QfW (x0:List UInt8):Option ((Int×Int×Int×List Int)×Bool):=
 (Yt x0 32).bind fun y22=>
 (bif (!decide (((List.length y22:Int):Int)=5)) then
 some true
 else
 bif (inB 0 y22) then
 some (!decide ((List.getD y22 (Int.toNat 0) []:List UInt8)=[98,108,111,99,107]))
 else none:Option (Bool)).bind fun j23=>
 bif j23 then
 some ((0,(0,(0,[]))),false)
 else
 bif (inB 1 y22) then
 (QC (List.getD y22 (Int.toNat 1) []) 2).bind fun y24=>
 bif (inB 2 y22) then
 (QC (List.getD y22 (Int.toNat 2) []) 2).bind fun y25=>
 bif (inB 3 y22) then
 (QC (List.getD y22 (Int.toNat 3) []) 3).bind fun y26=>
 (bif y24.2 then
 bif y25.2 then
 some y26.2
 else
 some false
 else
 some false:Option (Bool)).bind fun j27=>
 bif (inB 4 y22) then
 (Yt (List.getD y22 (Int.toNat 4) []) 43).bind fun y28=>
 (Qf (S:=Bool×Int×Int×Int×Int×List Int) (X:=Bool×Int×Int×Int×List Int) (fun s35=>
 (bif (decide ((s35.2.1:Int)<(List.length y28:Int))) then
 bif (inB 4 y22) then
 some (!decide ((List.getD y22 (Int.toNat 4) []:List UInt8)=[45]))
 else none
 else
 some false:Option (Bool)).bind fun j36=>
 bif j36 then
 bif (inB s35.2.1 y28) then
 (QC (List.getD y28 (Int.toNat s35.2.1) []) 2).bind fun y37=>
 (bif s35.1 then
 some y37.2
 else
 some false:Option (Bool)).bind fun j38=>
 bif decide (List.length s35.2.2.2.2.2+List.length ([y37.1]:List Int)<=LIM) then
 some (Sum.inl (j38,(IntKind.wrap .i64 (s35.2.1+1),(s35.2.2.1,(s35.2.2.2.1,(s35.2.2.2.2.1,List.append s35.2.2.2.2.2 ([y37.1]:List Int)))))))
 else none
 else none
 else
 some (Sum.inr (s35.1,s35.2.2))) (j27,(0,(y24.1,(y25.1,(y26.1,[])))))).bind fun j39=>
 (bif j39.1 then
 (Qgd j39.2).bind fun y41=>
 some (decide ((y41:Int)=0),j39.2)
 else
 some (false,j39.2):Option (Bool×Int×Int×Int×List Int)).bind fun j42=>
 some (j42.2,j42.1)
 else none
 else none
 else none
 else none
def Qdl:Callee:=⟨[.v .str .z],[(s19,(.p .z (.p .z (.p .z (.o .z))))),(.bool,.z)],fun t=>QfW t.1,true⟩
def Qm1:Ctx:=⟨tys,[(187,QaE),(188,YQ),(295,QdK)],[],[(11,(⟨[(2,.keep),(4,.keep),(11,.keep),(12,.st .bool .z false),(13,.keep),(14,.st (.int .i64) .z false)],[(2,.keep),(11,.st s19 (.p .z (.p .z (.p .z (.o .z)))) false)]⟩,⟨[((.exit 0),⟨[(2,.keep),(11,.keep),(12,.st .bool .z false)],[(2,.keep),(11,.st s19 (.p .z (.p .z (.p .z (.o .z)))) false)]⟩)]⟩))],[],[(2,⟨[(2,.keep),(4,.keep),(27,.st .bool .z false)],[(2,.keep)]⟩),
 (8,⟨[(2,.keep),(4,.keep),(11,.keep),(12,.st .bool .z false)],[(2,.keep),(11,.keep)]⟩),
 (11,⟨[(2,.keep),(4,.keep),(11,.keep),(12,.keep),(13,.keep),(14,.keep),(74,.st .bool .z false)],[(2,.keep),(11,.keep)]⟩),
 (14,⟨[(2,.keep),(4,.keep),(11,.keep),(12,.st .bool .z false),(13,.keep),(14,.keep),(15,.keep)],[(2,.keep),(11,.keep)]⟩),
 (16,⟨[(2,.keep),(3,.st .bool .z false)],[(2,.st s19 (.p .z (.p .z (.p .z (.o .z)))) false)]⟩)],[],[]⟩
def Qgr (x0:List UInt8):Option (Int×Int×Int×Int×List Int):=
 (QfW x0).bind fun y2=>
 bif (!y2.2) then
 some (5,(0,(0,(0,[]))))
 else
 some (0,y2.1)
def Qbl:Callee:=⟨[.v .str .z],[(s20,(.p .z (.p .z (.p .z (.p .z (.o .z))))))],fun t=>Qgr t.1,true⟩
def QjG:Ctx:=⟨tys,[(274,Qdl)],[],[],[],[],[],[]⟩
def Qgi (x0:List (List UInt8)×List (Int×Int)) (x1:Int):Option (Int×Int×Int×Int×List Int):=
 (Qcf x0 x1).bind fun y3=>
 bif (!decide ((y3.1:Int)=0)) then
 some (y3.1,(0,(0,(0,[]))))
 else
 (Qgr y3.2).bind fun y4=>
 some y4
def Qdt:Callee:=⟨[.v s1 .z,.v (.int .i64) .z],[(s20,(.p .z (.p .z (.p .z (.p .z (.o .z))))))],fun t=>Qgi t.1 t.2.1,true⟩
def QnJ:Ctx:=⟨tys,[(77,Qcc),(240,Qbl)],[],[],[],[],[],[]⟩
def QbW (x0:Int):Option (Int×Int×(Int×List (List ((Int×Int)×(Int×List Int×Int×Int)×Int×Bool))×List (Int×Int×Int))×Int×Int×List ((Int×Int)×(Int×List Int×Int×Int)×Int×Bool)×List (Int×Int×Int)):=
 some (x0,(0,((0,([],[])),(0,(0,([],[]))))))
def Qfz:Callee:=⟨[.v (.int .i64) .z],[(s28,.z)],fun t=>QbW t.1,true⟩
def Qq7:Ctx:=⟨tys,[],[],[],[],[],[],[]⟩
def Qjr (x0:Int×Int×List ((Int×Int)×(Int×List Int×Int×Int)×Int×Bool)×List (Int×Int×Int)):Option (Int×Int×List ((Int×Int)×(Int×List Int×Int×Int)×Int×Bool)×List (Int×Int×Int)):=
 (Qa8 x0.2.2.1).bind fun y2=>
 bif decide (List.length ([]:List (Int×Int×Int))+List.length x0.2.2.2<=LIM) then
 some (x0.1,(x0.2.1,(y2,List.append ([]:List (Int×Int×Int)) x0.2.2.2)))
 else none
def QeF:Callee:=⟨[.v s10 .z],[(s10,(.p .z (.p .z (.p (.o .z) .z))))],fun t=>Qjr t.1,true⟩
def Qph:Ctx:=⟨tys,[(221,JR)],[],[],[],[],[],[]⟩
def QiF (x0:List ((Int×Int)×(Int×List Int×Int×Int)×Int×Bool)) (x1:Int×Int×List (Int×Int)×List (Int×List Int×Int×Int)):Option (Int×List ((Int×Int)×(Int×List Int×Int×Int)×Int×Bool)):=
 (Qai x0).bind fun y4=>
 bif (!decide ((y4:Int)=0)) then
 some (y4,[])
 else
 (Qaj x1).bind fun y5=>
 bif (!decide ((y5:Int)=0)) then
 some (y5,[])
 else
 (QbI x0 x1).bind fun y6=>
 bif (!y6.2) then
 some (4,[])
 else
 some (0,y6.1)
def Qdb:Callee:=⟨[.v (.list s6) .z,.v s15 .z],[(s30,(.p .z (.o (.p .z (.p (.p .z (.p (.o .z) .z)) .z)))))],fun t=>QiF t.1 t.2.1,true⟩
def Qmf:Ctx:=⟨tys,[(67,Jj),(124,Jg),(174,Qal)],[],[],[],[],[],[]⟩
def QiM (x0:List ((Int×Int)×(Int×List Int×Int×Int)×Int×Bool)) (x1:Int×Int):Option (Int):=
 (Qf (S:=Int) (X:=(Unit)⊕(Int)) (fun s5=>
 bif (decide ((s5:Int)<(List.length x0:Int))) then
 bif (inB s5 x0) then
 bif (Sh.beq (.prod (.int .i64) (.int .i64)) (List.getD x0 (Int.toNat s5) ((0,0),((0,([],(0,0))),(0,false)))).1 x1) then
 some (Sum.inr (Sum.inr s5))
 else
 some (Sum.inl (IntKind.wrap .i64 (s5+1)))
 else none
 else
 some (Sum.inr (Sum.inl ()))) 0).bind fun j6=>
 Sum.elim (fun (j7:Unit)=>
 some (-1)) (fun (j8:Int)=>
 some j8) j6
def QgD:Callee:=⟨[.v (.list s6) .z,.v s0 .z],[((.int .i64),.z)],fun t=>QiM t.1 t.2.1,true⟩
def Qsg:Ctx:=⟨tys,[],[],[(2,(⟨[(0,.keep),(3,.keep),(5,.st (.int .i64) .z false)],[(3,.keep)]⟩,⟨[((.exit 0),⟨[],[]⟩),(.ret,⟨[(4,.st (.int .i64) .z false)],[]⟩)]⟩))],[],[],[],[]⟩
def QgM (x0:List ((Int×Int)×(Int×List Int×Int×Int)×Int×Bool)) (x1:List (Int×Int)):Option (List ((Int×Int)×(Int×List Int×Int×Int)×Int×Bool)×Bool×List ((Int×Int)×(Int×List Int×Int×Int)×Int×Bool)):=
 (Qa8 x0).bind fun y9=>
 (Qf (S:=List ((Int×Int)×(Int×List Int×Int×Int)×Int×Bool)×Int) (X:=(List ((Int×Int)×(Int×List Int×Int×Int)×Int×Bool))⊕(List ((Int×Int)×(Int×List Int×Int×Int)×Int×Bool)×Bool)) (fun s12=>
 bif (decide ((s12.2:Int)<(List.length x1:Int))) then
 bif (inB s12.2 x1) then
 (QiM s12.1 (List.getD x1 (Int.toNat s12.2) (0,0))).bind fun y13=>
 bif (decide ((y13:Int)<0)) then
 some (Sum.inr (Sum.inr (([]:List ((Int×Int)×(Int×List Int×Int×Int)×Int×Bool)),false)))
 else
 bif (QT 0 y13 s12.1) then
 bif decide (List.length ([]:List ((Int×Int)×(Int×List Int×Int×Int)×Int×Bool))+List.length (List.take (Int.toNat (y13 - 0)) (List.drop (Int.toNat 0) s12.1))<=LIM) then
 bif (QT (IntKind.wrap .i64 (y13+1)) (List.length s12.1:Int) s12.1) then
 bif decide (List.length (List.append ([]:List ((Int×Int)×(Int×List Int×Int×Int)×Int×Bool)) (List.take (Int.toNat (y13 - 0)) (List.drop (Int.toNat 0) s12.1)))+List.length (List.take (Int.toNat ((List.length s12.1:Int) - (IntKind.wrap .i64 (y13+1)))) (List.drop (Int.toNat (IntKind.wrap .i64 (y13+1))) s12.1))<=LIM) then
 some (Sum.inl (List.append (List.append ([]:List ((Int×Int)×(Int×List Int×Int×Int)×Int×Bool)) (List.take (Int.toNat (y13 - 0)) (List.drop (Int.toNat 0) s12.1))) (List.take (Int.toNat ((List.length s12.1:Int) - (IntKind.wrap .i64 (y13+1)))) (List.drop (Int.toNat (IntKind.wrap .i64 (y13+1))) s12.1)),IntKind.wrap .i64 (s12.2+1)))
 else none
 else none
 else none
 else none
 else none
 else
 some (Sum.inr (Sum.inl s12.1))) (y9,0)).bind fun j14=>
 Sum.elim (fun (j15:List ((Int×Int)×(Int×List Int×Int×Int)×Int×Bool))=>
 some (j15,(true,x0))) (fun (j16:List ((Int×Int)×(Int×List Int×Int×Int)×Int×Bool)×Bool)=>
 some (j16.1,(j16.2,x0))) j14
def Qeh:Callee:=⟨[.mu (.list s6) (.o .z) (.o .z),.v (.list s0) .z],[((.list s6),(.o .z)),(.bool,.z)],fun t=>QgM t.1 t.2.1,true⟩
def Qpo:Ctx:=⟨tys,[(221,JR),(296,QgD)],[],[(3,(⟨[(0,.keep),(1,.keep),(6,.st (.list s6) (.o .z) false),(7,.st (.int .i64) .z false)],[]⟩,⟨[((.exit 0),⟨[(0,.keep),(6,.st (.list s6) (.o .z) false)],[]⟩),(.ret,⟨[(0,.keep),(4,.st (.list s6) (.o (.p .z (.p (.p .z (.p (.o .z) .z)) .z))) false),(5,.st .bool .z false)],[]⟩)]⟩))],[],[],[],[]⟩
def QfP (x0:List ((Int×Int)×(Int×List Int×Int×Int)×Int×Bool)) (x1:Int×Int×List (Int×Int)×List (Int×List Int×Int×Int)) (x2:Int) (x3:Int):Option ((Int×List ((Int×Int)×(Int×List Int×Int×Int)×Int×Bool))×List ((Int×Int)×(Int×List Int×Int×Int)×Int×Bool)):=
 (QiF x0 x1).bind fun y5=>
 bif (!decide ((y5.1:Int)=0)) then
 some (y5,x0)
 else
 (QcT x0 x2).bind fun y6=>
 bif y6 then
 some ((7,[]),x0)
 else
 (QgM x0 x1.2.2.1).bind fun y7=>
 (YR y7.1 x2 x1.2.2.2 x3 false).bind fun y8=>
 some (y8.1,y7.2.2)
def Qde:Callee:=⟨[.mu (.list s6) (.o .z) (.o .z),.v s15 .z,.v (.int .i64) .z,.v (.int .i64) .z],[(s30,(.p .z (.o .z)))],fun t=>QfP t.1 t.2.1 t.2.2.1 t.2.2.2.1,true⟩
def Qnq:Ctx:=⟨tys,[(170,Jx),(219,QeP),(275,Qdb),(276,Qeh)],[],[],[],[],[],[]⟩
def QiJ (x0:List (List UInt8)×List (Int×Int)) (x1:Int×Int×List ((Int×Int)×(Int×List Int×Int×Int)×Int×Bool)×List (Int×Int×Int)) (x2:Int) (x3:Int):Option (List ((Int×Int)×(Int×List Int×Int×Int)×Int×Bool)×Int×Int×(List (List UInt8)×List (Int×Int))×Int×Int×List ((Int×Int)×(Int×List Int×Int×Int)×Int×Bool)×List (Int×Int×Int)):=
 (QcN x0 x2).bind fun y6=>
 bif (!decide ((y6.1:Int)=0)) then
 some (([]:List ((Int×Int)×(Int×List Int×Int×Int)×Int×Bool)),(0,(y6.1,(x0,x1))))
 else
 (Qan x0 x1.2.2.1 y6.2 x3).bind fun y7=>
 bif (!decide ((y7.1:Int)=0)) then
 some (([]:List ((Int×Int)×(Int×List Int×Int×Int)×Int×Bool)),(0,(y7.1,(x0,x1))))
 else
 (QeA x1.2.2.2 y6.2 x2).bind fun y8=>
 bif (!decide ((y8.2:Int)=0)) then
 some (([]:List ((Int×Int)×(Int×List Int×Int×Int)×Int×Bool)),(0,(y8.2,(x0,x1))))
 else
 (QbI x1.2.2.1 y6.2).bind fun y9=>
 (QfP x1.2.2.1 y6.2 x2 x3).bind fun y10=>
 bif (!decide ((y10.1.1:Int)=0)) then
 some (([]:List ((Int×Int)×(Int×List Int×Int×Int)×Int×Bool)),(0,(y10.1.1,(x0,(x1.1,(x1.2.1,(y10.2,x1.2.2.2)))))))
 else
 some (y9.1,(y7.2,(0,(x0,(x1.1,(x1.2.1,(y10.1.2,y8.1)))))))
def Qgt:Callee:=⟨[.io s1 .z .z,.io s10 (.p .z (.p .z (.p (.o .z) .z))) (.p .z (.p .z (.p (.o .z) .z))),.v (.int .i64) .z,.v (.int .i64) .z],[((.list s6),.z),((.int .i64),.z),((.int .i64),.z)],fun t=>QiJ t.1 t.2.1 t.2.2.1 t.2.2.2.1,false⟩
def QrX:Ctx:=⟨tys,[(39,QeO),(69,QbF),(72,Qca),(174,Qal),(241,Qde)],[(11,5),(15,1)],[],[],[],[],[]⟩
def QhO (x0:Int):Option (Int):=
 some (1000 / 2 ^ min (IntKind.u64.wrap (RowKit.wrap64 ((RowKit.wrap64 (x0 - 1)).tdiv 8))).toNat 64)
def Qk0:Callee:=⟨[.v (.int .i64) .z],[((.int .i64),.z)],fun t=>QhO t.1,true⟩
def Qd6 (x0:List (List UInt8)×List (Int×Int)) (x1:Int×Int×List ((Int×Int)×(Int×List Int×Int×Int)×Int×Bool)×List (Int×Int×Int)) (x2:Int):Option ((Int×Int×(Int×List (List ((Int×Int)×(Int×List Int×Int×Int)×Int×Bool))×List (Int×Int×Int))×Int×Int×List ((Int×Int)×(Int×List Int×Int×Int)×Int×Bool)×List (Int×Int×Int))×List (List UInt8)×List (Int×Int)):=
 (Qgi x0 x2).bind fun y20=>
 bif (!decide ((y20.1:Int)=0)) then
 (QbW y20.1).bind fun y21=>
 some (y21,x0)
 else
 (bif (!decide ((y20.2.1:Int)=x1.1)) then
 some true
 else
 some (!decide ((y20.2.2.1:Int)=IntKind.wrap .i64 (x1.2.1+1))):Option (Bool)).bind fun j22=>
 bif j22 then
 (QbW 10).bind fun y23=>
 some (y23,x0)
 else
 (Qjr x1).bind fun y24=>
 bif decide (List.length ([]:List (Int×Int×Int))+List.length x1.2.2.2<=LIM) then
 (Qf (S:=Int×(Int×Int×(Int×List (List ((Int×Int)×(Int×List Int×Int×Int)×Int×Bool))×List (Int×Int×Int))×Int×Int×List ((Int×Int)×(Int×List Int×Int×Int)×Int×Bool)×List (Int×Int×Int))×List (List UInt8)×List (Int×Int)) (X:=((Int×Int×(Int×List (List ((Int×Int)×(Int×List Int×Int×Int)×Int×Bool))×List (Int×Int×Int))×Int×Int×List ((Int×Int)×(Int×List Int×Int×Int)×Int×Bool)×List (Int×Int×Int))×List (List UInt8)×List (Int×Int))⊕((Int×Int×(Int×List (List ((Int×Int)×(Int×List Int×Int×Int)×Int×Bool))×List (Int×Int×Int))×Int×Int×List ((Int×Int)×(Int×List Int×Int×Int)×Int×Bool)×List (Int×Int×Int))×List (List UInt8)×List (Int×Int))) (fun s29=>
 bif (decide ((s29.1:Int)<(List.length y20.2.2.2.2:Int))) then
 bif (inB s29.1 y20.2.2.2.2) then
 (QiJ s29.2.2 s29.2.1.2.2.2 (List.getD y20.2.2.2.2 (Int.toNat s29.1) 0) y20.2.2.1).bind fun y30=>
 bif (!decide ((y30.2.2.1:Int)=0)) then
 (QbW y30.2.2.1).bind fun y31=>
 some (Sum.inr (Sum.inr (y31,y30.2.2.2.1)))
 else
 bif decide (List.length s29.2.1.2.2.1.2.1+List.length ([y30.1]:List (List ((Int×Int)×(Int×List Int×Int×Int)×Int×Bool)))<=LIM) then
 some (Sum.inl (IntKind.wrap .i64 (s29.1+1),((s29.2.1.1,(IntKind.wrap .i64 (s29.2.1.2.1+y30.2.1),((s29.2.1.2.2.1.1,(List.append s29.2.1.2.2.1.2.1 ([y30.1]:List (List ((Int×Int)×(Int×List Int×Int×Int)×Int×Bool))),s29.2.1.2.2.1.2.2)),y30.2.2.2.2))),y30.2.2.2.1)))
 else none
 else none
 else
 some (Sum.inr (Sum.inl (s29.2.1,s29.2.2)))) (0,((0,(0,((x2,([],List.append ([]:List (Int×Int×Int)) x1.2.2.2)),y24))),x0))).bind fun j32=>
 Sum.elim (fun (j33:(Int×Int×(Int×List (List ((Int×Int)×(Int×List Int×Int×Int)×Int×Bool))×List (Int×Int×Int))×Int×Int×List ((Int×Int)×(Int×List Int×Int×Int)×Int×Bool)×List (Int×Int×Int))×List (List UInt8)×List (Int×Int))=>
 (QhO y20.2.2.1).bind fun y35=>
 bif (decide ((1000000:Int)<IntKind.wrap .i64 (y35+j33.1.2.1))) then
 (QbW 8).bind fun y36=>
 some (y36,j33.2)
 else
 (YR j33.1.2.2.2.2.2.1 x2 ([(IntKind.wrap .i64 (y35+j33.1.2.1),(([y20.2.2.2.1]:List Int),(1,0)))]:List (Int×List Int×Int×Int)) y20.2.2.1 true).bind fun y37=>
 bif (!decide ((y37.1.1:Int)=0)) then
 (QbW y37.1.1).bind fun y38=>
 some (y38,j33.2)
 else
 some ((j33.1.1,(j33.1.2.1,(j33.1.2.2.1,(x2,(y20.2.2.1,(y37.1.2,j33.1.2.2.2.2.2.2)))))),j33.2)) (fun (j34:(Int×Int×(Int×List (List ((Int×Int)×(Int×List Int×Int×Int)×Int×Bool))×List (Int×Int×Int))×Int×Int×List ((Int×Int)×(Int×List Int×Int×Int)×Int×Bool)×List (Int×Int×Int))×List (List UInt8)×List (Int×Int))=>
 some (j34.1,j34.2)) j32
 else none
def QbZ:Callee:=⟨[.io s1 .z .z,.v s10 .z,.v (.int .i64) .z],[(s28,.z)],fun t=>Qd6 t.1 t.2.1 t.2.2.1,false⟩
def Qkd:Ctx:=⟨tys,[(170,Jx),(214,Qdt),(215,Qfz),(216,QeF),(217,Qgt),(218,Qk0)],[],[(8,(⟨[(0,.keep),(2,.keep),(6,.keep),(7,.keep),(8,.keep),(9,.st (.int .i64) .z false)],[(6,.keep),(7,.keep),(8,.st s28 (.p .z (.p .z (.p (.p .z (.p (.o .z) (.o .z))) (.p .z (.p .z (.p (.o .z) .z)))))) false),(139,.st s1 .z false)]⟩,⟨[((.exit 0),⟨[(2,.keep),(6,.keep),(7,.keep),(8,.keep)],[(6,.keep),(7,.keep),(8,.st s28 (.p .z (.p .z (.p (.p .z (.p (.o .z) (.o .z))) (.p .z (.p .z (.p (.o .z) .z)))))) false),(139,.st s1 .z false)]⟩),(.ret,⟨[(6,.keep)],[(6,.st s28 .z false),(139,.st s1 .z false)]⟩)]⟩))],[],[(4,⟨[(0,.keep),(2,.keep),(4,.keep),(6,.keep),(7,.keep),(41,.st .bool .z false)],[(4,.keep),(6,.keep),(7,.keep),(139,.keep)]⟩)],[],[]⟩
def QfO (x0:List Int×Int) (x1:Int):Option ((List (List UInt8)×List (Int×Int))×(Int×Int×List ((Int×Int)×(Int×List Int×Int×Int)×Int×Bool)×List (Int×Int×Int))×List Int×List Int×Int):=
 (Qf (S:=Int×List Int×(List (List UInt8)×List (Int×Int))×(Int×Int×List ((Int×Int)×(Int×List Int×Int×Int)×Int×Bool)×List (Int×Int×Int))×List Int×Int) (X:=List Int×(List (List UInt8)×List (Int×Int))×(Int×Int×List ((Int×Int)×(Int×List Int×Int×Int)×Int×Bool)×List (Int×Int×Int))×List Int×Int) (fun s13=>
 bif (decide ((0:Int)<s13.1)) then
 (QgU s13.2.2.2.2 s13.2.2.1 s13.2.2.2.1).bind fun y14=>
 (Qd6 y14.1 s13.2.2.2.1 y14.2.1).bind fun y15=>
 bif (!decide ((y15.1.1:Int)=0)) then
 some (Sum.inl (IntKind.wrap .i64 (s13.1 - 1),(s13.2.1,(y15.2,(s13.2.2.2.1,y14.2.2)))))
 else
 bif decide (List.length s13.2.1+List.length ([y14.2.1]:List Int)<=LIM) then
 some (Sum.inl (IntKind.wrap .i64 (s13.1 - 1),(List.append s13.2.1 ([y14.2.1]:List Int),(y15.2,(y15.1.2.2.2,y14.2.2)))))
 else none
 else
 some (Sum.inr (s13.2.1,(s13.2.2.1,(s13.2.2.2.1,s13.2.2.2.2))))) (x1,(([]:List Int),(([],[]),((0,(0,([],[]))),x0))))).bind fun j16=>
 some (j16.2.1,(j16.2.2.1,(j16.1,j16.2.2.2)))
def QdD:Callee:=⟨[.io s29 .z .z,.v (.int .i64) .z],[(s1,.z),(s10,.z),((.list (.int .i64)),(.o .z))],fun t=>QfO t.1 t.2.1,false⟩
def QnI:Ctx:=⟨tys,[(161,Qex),(162,QbZ)],[(6,1),(6,2)],[(4,(⟨[(0,.keep),(1,.st (.int .i64) .z false),(4,.keep),(5,.keep),(7,.keep),(8,.keep),(9,.st (.list (.int .i64)) (.o .z) false)],[(4,.keep),(5,.keep),(7,.st s1 .z false),(8,.st s10 .z false),(43,.st s29 .z false)]⟩,⟨[((.exit 0),⟨[(4,.keep),(5,.keep),(7,.keep),(8,.keep),(9,.st (.list (.int .i64)) (.o .z) false)],[(4,.keep),(5,.keep),(7,.st s1 .z false),(8,.st s10 .z false),(43,.st s29 .z false)]⟩)]⟩))],[],[],[],[]⟩
def Qe8 (x0:List Int×Int):Option ((List (List UInt8)×List (Int×Int))×(Int×Int×List ((Int×Int)×(Int×List Int×Int×Int)×Int×Bool)×List (Int×Int×Int))×List Int×List Int×List Int×Int):=
 (Qp x0 6).bind fun y109=>
 (QfO y109.2 (IntKind.wrap .i64 (2+y109.1))).bind fun y110=>
 (Qf (S:=List ((Int×Int)×(Int×List Int×Int×Int)×Int×Bool)×Int×List Int×Int) (X:=List ((Int×Int)×(Int×List Int×Int×Int)×Int×Bool)×List Int×Int) (fun s127=>
 bif (decide ((s127.2.1:Int)<(List.length y110.2.1.2.2.1:Int))) then
 (bif (inB s127.2.1 y110.2.1.2.2.1) then
 (QbD y110.2.1).bind fun y131=>
 (JS (List.getD y110.2.1.2.2.1 (Int.toNat s127.2.1) ((0,0),((0,([],(0,0))),(0,false)))) y131).bind fun y132=>
 bif y132 then
 some (true,s127.2.2)
 else
 (QO s127.2.2 8).bind fun y133=>
 some (y133.1,y133.2)
 else none:Option (Bool×List Int×Int)).bind fun j134=>
 (bif j134.1 then
 bif (inB s127.2.1 y110.2.1.2.2.1) then
 bif decide (List.length s127.1+List.length ([List.getD y110.2.1.2.2.1 (Int.toNat s127.2.1) ((0,0),((0,([],(0,0))),(0,false)))]:List ((Int×Int)×(Int×List Int×Int×Int)×Int×Bool))<=LIM) then
 some (List.append s127.1 ([List.getD y110.2.1.2.2.1 (Int.toNat s127.2.1) ((0,0),((0,([],(0,0))),(0,false)))]:List ((Int×Int)×(Int×List Int×Int×Int)×Int×Bool)))
 else none
 else none
 else
 some s127.1:Option (List ((Int×Int)×(Int×List Int×Int×Int)×Int×Bool))).bind fun j135=>
 some (Sum.inl (j135,(IntKind.wrap .i64 (s127.2.1+1),j134.2)))
 else
 some (Sum.inr (s127.1,s127.2.2))) (([]:List ((Int×Int)×(Int×List Int×Int×Int)×Int×Bool)),(0,y110.2.2.2))).bind fun j136=>
 (Qp j136.2 6).bind fun y137=>
 (Qf (S:=List ((Int×Int)×(Int×List Int×Int×Int)×Int×Bool)×List Int×Int×(List (List UInt8)×List (Int×Int))×List Int×Int) (X:=List Int×(List (List UInt8)×List (Int×Int))×List Int×Int) (fun s178=>
 bif (decide ((0:Int)<s178.2.2.1)) then
 (QgI s178.2.2.2.2 s178.1).bind fun y179=>
 (Y3 y179.1).bind fun y180=>
 (QaO s178.2.2.2.1 y180).bind fun y181=>
 bif (!decide ((y181.1:Int)=0)) then
 some (Sum.inl (s178.1,(s178.2.1,(IntKind.wrap .i64 (s178.2.2.1 - 1),(s178.2.2.2.1,y179.2)))))
 else
 bif decide (List.length s178.2.1+List.length ([y181.2.1]:List Int)<=LIM) then
 (Qf (S:=Int×(List (List UInt8)×List (Int×Int))×List Int×Int) (X:=(List (List UInt8)×List (Int×Int))×List Int×Int) (fun s192=>
 bif (decide ((s192.1:Int)<7)) then
 (Qeg s192.2.1 s192.1 y181.2.1).bind fun y193=>
 (bif (decide ((y193.1:Int)=0)) then
 (QO s192.2.2 12).bind fun y195=>
 some (!y195.1,y195.2)
 else
 some (false,s192.2.2):Option (Bool×List Int×Int)).bind fun j196=>
 (bif j196.1 then
 some y193.2.2
 else
 some s192.2.1:Option (List (List UInt8)×List (Int×Int))).bind fun j197=>
 some (Sum.inl (IntKind.wrap .i64 (s192.1+1),(j197,j196.2)))
 else
 some (Sum.inr (s192.2.1,s192.2.2))) (1,(y181.2.2,y179.2))).bind fun j198=>
 some (Sum.inl (s178.1,(List.append s178.2.1 ([y181.2.1]:List Int),(IntKind.wrap .i64 (s178.2.2.1 - 1),(j198.1,j198.2)))))
 else none
 else
 some (Sum.inr (s178.2.1,(s178.2.2.2.1,s178.2.2.2.2)))) (j136.1,(([]:List Int),(y137.1,(y110.1,y137.2))))).bind fun j199=>
 (Qf (S:=List Int×Int×List Int×Int) (X:=List Int×List Int×Int) (fun s210=>
 bif (decide ((s210.2.1:Int)<(List.length j199.1:Int))) then
 bif (inB s210.2.1 j199.1) then
 (Qgb j199.2.1 y110.2.1 s210.1 (List.getD j199.1 (Int.toNat s210.2.1) 0)).bind fun y211=>
 (bif (decide ((y211.1:Int)=0)) then
 (QO s210.2.2 3).bind fun y213=>
 some (!y213.1,y213.2)
 else
 some (false,s210.2.2):Option (Bool×List Int×Int)).bind fun j214=>
 (bif j214.1 then
 some y211.2.2
 else
 some s210.1:Option (List Int)).bind fun j215=>
 some (Sum.inl (j215,(IntKind.wrap .i64 (s210.2.1+1),j214.2)))
 else none
 else
 some (Sum.inr (s210.1,s210.2.2))) (([]:List Int),(0,j199.2.2))).bind fun j216=>
 some (j199.2.1,(y110.2.1,(j216.1,(j199.1,j216.2))))
def Qcn:Callee:=⟨[.io s29 .z .z],[(s1,.z),(s10,.z),((.list (.int .i64)),(.o .z)),((.list (.int .i64)),(.o .z))],fun t=>Qe8 t.1,false⟩
def QkV:Ctx:=⟨tys,[(29,Z3),(41,Qda),(62,Zq),(70,QbH),(113,QdD),(114,Qa9),(115,QeT),(116,QaP),(117,JU),(118,Qce)],[(12,1)],[(4,(⟨[(0,.keep),(2,.keep),(3,.keep),(6,.keep),(7,.keep),(9,.st (.list s6) (.o .z) false),(10,.st (.int .i64) .z false)],[(2,.keep),(3,.keep),(6,.keep),(7,.keep),(126,.st s29 .z false)]⟩,⟨[((.exit 0),⟨[(0,.keep),(2,.keep),(3,.keep),(6,.keep),(7,.keep),(9,.st (.list s6) (.o .z) false)],[(2,.keep),(3,.keep),(6,.keep),(7,.keep),(126,.st s29 .z false)]⟩)]⟩)),
 (10,(⟨[(0,.keep),(2,.keep),(3,.keep),(6,.keep),(7,.keep),(9,.st (.list s6) .z false),(11,.st (.list (.int .i64)) (.o .z) false),(12,.st (.int .i64) .z false)],[(2,.keep),(3,.keep),(6,.st s1 .z false),(7,.keep),(126,.st s29 .z false)]⟩,⟨[((.exit 2),⟨[(0,.keep),(2,.keep),(3,.keep),(6,.keep),(7,.keep),(11,.st (.list (.int .i64)) (.o .z) false)],[(2,.keep),(3,.keep),(6,.st s1 .z false),(7,.keep),(126,.st s29 .z false)]⟩)]⟩)),
 (18,(⟨[(0,.keep),(2,.keep),(3,.keep),(6,.keep),(7,.keep),(9,.keep),(11,.keep),(12,.keep),(14,.keep),(15,.st (.int .i64) .z false)],[(2,.keep),(3,.keep),(6,.st s1 (.p (.o .z) (.o .z)) false),(7,.keep),(14,.keep),(126,.st s29 .z false)]⟩,⟨[((.exit 4),⟨[(0,.keep),(2,.keep),(3,.keep),(6,.keep),(7,.keep),(9,.keep),(11,.keep),(12,.keep)],[(2,.keep),(3,.keep),(6,.st s1 (.p (.o .z) (.o .z)) false),(7,.keep),(126,.st s29 .z false)]⟩)]⟩)),
 (25,(⟨[(0,.keep),(2,.keep),(3,.keep),(6,.keep),(7,.keep),(11,.keep),(17,.st (.list (.int .i64)) (.o .z) false),(18,.st (.int .i64) .z false)],[(2,.keep),(3,.keep),(6,.keep),(7,.keep),(126,.st s29 .z false)]⟩,⟨[((.exit 6),⟨[(2,.keep),(3,.keep),(6,.keep),(7,.keep),(11,.keep),(17,.st (.list (.int .i64)) (.o .z) false)],[(2,.keep),(3,.keep),(6,.keep),(7,.keep),(126,.st s29 .z false)]⟩)]⟩))],[(7,⟨[(.normal,⟨[(0,.keep),(2,.keep),(3,.keep),(6,.keep),(7,.keep),(9,.st (.list s6) (.o .z) false),(10,.keep)],[(2,.keep),(3,.keep),(6,.keep),(7,.keep),(126,.keep)]⟩)]⟩),
 (22,⟨[(.normal,⟨[(0,.keep),(2,.keep),(3,.keep),(6,.keep),(7,.keep),(9,.keep),(11,.keep),(12,.keep),(14,.keep),(15,.keep)],[(2,.keep),(3,.keep),(6,.st s1 (.p (.o .z) (.o .z)) false),(7,.keep),(14,.keep),(126,.keep)]⟩)]⟩),
 (29,⟨[(.normal,⟨[(0,.keep),(2,.keep),(3,.keep),(6,.keep),(7,.keep),(11,.keep),(17,.st (.list (.int .i64)) (.o .z) false),(18,.keep)],[(2,.keep),(3,.keep),(6,.keep),(7,.keep),(126,.keep)]⟩)]⟩)],[(6,⟨[(0,.keep),(2,.keep),(3,.keep),(6,.keep),(7,.keep),(9,.keep),(10,.keep),(46,.st .bool .z false)],[(2,.keep),(3,.keep),(6,.keep),(7,.keep),(126,.st s29 .z false)]⟩),
 (21,⟨[(0,.keep),(2,.keep),(3,.keep),(6,.keep),(7,.keep),(9,.keep),(11,.keep),(12,.keep),(14,.keep),(15,.keep),(16,.keep),(94,.st .bool .z false)],[(2,.keep),(3,.keep),(6,.keep),(7,.keep),(14,.keep),(16,.keep),(126,.st s29 .z false)]⟩),
 (28,⟨[(0,.keep),(2,.keep),(3,.keep),(6,.keep),(7,.keep),(11,.keep),(17,.keep),(18,.keep),(19,.keep),(119,.st .bool .z false)],[(2,.keep),(3,.keep),(6,.keep),(7,.keep),(19,.keep),(126,.st s29 .z false)]⟩)],[],[]⟩
def Qc2 (x0:List Int×Int):Option (List (Int×List Int×Int×Int)×List Int×Int):=
 (Qp x0 4).bind fun y10=>
 (Qf (S:=List (Int×List Int×Int×Int)×Int×List Int×Int) (X:=List (Int×List Int×Int×Int)×List Int×Int) (fun s15=>
 bif (decide ((0:Int)<s15.2.1)) then
 (Qp s15.2.2 300).bind fun y16=>
 (JY y16.2).bind fun y17=>
 bif decide (List.length s15.1+List.length ([(IntKind.wrap .i64 (1+y16.1),y17.1)]:List (Int×List Int×Int×Int))<=LIM) then
 some (Sum.inl (List.append s15.1 ([(IntKind.wrap .i64 (1+y16.1),y17.1)]:List (Int×List Int×Int×Int)),(IntKind.wrap .i64 (s15.2.1 - 1),y17.2)))
 else none
 else
 some (Sum.inr (s15.1,s15.2.2))) (([]:List (Int×List Int×Int×Int)),(y10.1,y10.2))).bind fun j18=>
 some (j18.1,j18.2)
def Qbk:Callee:=⟨[.io s29 .z .z],[((.list s3),(.o (.p .z (.p (.o .z) .z))))],fun t=>Qc2 t.1,true⟩
def QjD:Ctx:=⟨tys,[(62,Zq),(165,Qbb)],[],[(3,(⟨[(0,.keep),(3,.st (.list s3) (.o (.p .z (.p (.o .z) .z))) false),(4,.st (.int .i64) .z false)],[(22,.st s29 .z false)]⟩,⟨[((.exit 0),⟨[(3,.st (.list s3) (.o (.p .z (.p (.o .z) .z))) false)],[(22,.st s29 .z false)]⟩)]⟩))],[],[],[],[]⟩
def Qgh (x0:List Int×Int):Option (List ((Int×Int)×(Int×List Int×Int×Int)×Int×Bool)×List Int×Int):=
 (Qp x0 6).bind fun y22=>
 (Qf (S:=List ((Int×Int)×(Int×List Int×Int×Int)×Int×Bool)×Int×List Int×Int) (X:=List ((Int×Int)×(Int×List Int×Int×Int)×Int×Bool)×List Int×Int) (fun s35=>
 bif (decide ((0:Int)<s35.2.1)) then
 (Qp s35.2.2 6).bind fun y36=>
 (Qc2 y36.2).bind fun y37=>
 (Qp y37.2 6).bind fun y38=>
 (QO y38.2 3).bind fun y39=>
 (YR s35.1 (IntKind.wrap .i64 (1+y36.1)) y37.1 y38.1 y39.1).bind fun y40=>
 (bif (decide ((y40.1.1:Int)=0)) then
 some y40.1.2
 else
 some y40.2:Option (List ((Int×Int)×(Int×List Int×Int×Int)×Int×Bool))).bind fun j41=>
 some (Sum.inl (j41,(IntKind.wrap .i64 (s35.2.1 - 1),y39.2)))
 else
 some (Sum.inr (s35.1,s35.2.2))) (([]:List ((Int×Int)×(Int×List Int×Int×Int)×Int×Bool)),(y22.1,y22.2))).bind fun j42=>
 some (j42.1,j42.2)
def Qdc:Callee:=⟨[.io s29 .z .z],[((.list s6),(.o .z))],fun t=>Qgh t.1,true⟩
def QnG:Ctx:=⟨tys,[(29,Z3),(62,Zq),(170,Jx),(171,Qbk)],[],[(3,(⟨[(0,.keep),(3,.st (.list s6) (.o .z) false),(4,.st (.int .i64) .z false)],[(30,.st s29 .z false)]⟩,⟨[((.exit 0),⟨[(3,.st (.list s6) (.o .z) false)],[(30,.st s29 .z false)]⟩)]⟩))],[(7,⟨[(.normal,⟨[(0,.keep),(3,.st (.list s6) (.o .z) false),(4,.keep)],[(30,.keep)]⟩)]⟩)],[],[],[]⟩
def QgV (x0:List Int×Int):Option (List ((Int×Int)×(Int×List Int×Int×Int)×Int×Bool)×List Int×Int):=
 (Qgh x0).bind fun y73=>
 (bif (decide ((0:Int)<(List.length y73.1:Int))) then
 (Qp y73.2 14).bind fun y108=>
 (bif (decide ((y108.1:Int)=0)) then
 (JZ y108.2 ([0,61,3]:List Int)).bind fun y125=>
 bif (inB 0 y73.1) then
 some (List.set y73.1 (Int.toNat 0) ((y125.1,(List.getD y73.1 (Int.toNat 0) ((0,0),((0,([],(0,0))),(0,false)))).1.2),(List.getD y73.1 (Int.toNat 0) ((0,0),((0,([],(0,0))),(0,false)))).2),y125.2)
 else none
 else
 (bif (decide ((y108.1:Int)=1)) then
 (JZ y108.2 ([(-1),1000]:List Int)).bind fun y133=>
 bif (inB 0 y73.1) then
 let z134:List ((Int×Int)×(Int×List Int×Int×Int)×Int×Bool):=List.set y73.1 (Int.toNat 0) ((List.getD y73.1 (Int.toNat 0) ((0,0),((0,([],(0,0))),(0,false)))).1,((List.getD y73.1 (Int.toNat 0) ((0,0),((0,([],(0,0))),(0,false)))).2.1,(y133.1,(List.getD y73.1 (Int.toNat 0) ((0,0),((0,([],(0,0))),(0,false)))).2.2.2)))
 some (z134,y133.2)
 else none
 else
 (bif (decide ((y108.1:Int)=2)) then
 bif (inB 0 y73.1) then
 let z137:List ((Int×Int)×(Int×List Int×Int×Int)×Int×Bool):=List.set y73.1 (Int.toNat 0) ((List.getD y73.1 (Int.toNat 0) ((0,0),((0,([],(0,0))),(0,false)))).1,((0,(List.getD y73.1 (Int.toNat 0) ((0,0),((0,([],(0,0))),(0,false)))).2.1.2),(List.getD y73.1 (Int.toNat 0) ((0,0),((0,([],(0,0))),(0,false)))).2.2))
 some z137
 else none
 else
 (bif (decide ((y108.1:Int)=3)) then
 bif (inB 0 y73.1) then
 bif decide (List.length y73.1+List.length ([List.getD y73.1 (Int.toNat 0) ((0,0),((0,([],(0,0))),(0,false)))]:List ((Int×Int)×(Int×List Int×Int×Int)×Int×Bool))<=LIM) then
 some (List.append y73.1 ([List.getD y73.1 (Int.toNat 0) ((0,0),((0,([],(0,0))),(0,false)))]:List ((Int×Int)×(Int×List Int×Int×Int)×Int×Bool)))
 else none
 else none
 else
 some y73.1:Option (List ((Int×Int)×(Int×List Int×Int×Int)×Int×Bool))).bind fun j138=>
 some j138:Option (List ((Int×Int)×(Int×List Int×Int×Int)×Int×Bool))).bind fun j139=>
 some (j139,y108.2):Option (List ((Int×Int)×(Int×List Int×Int×Int)×Int×Bool)×List Int×Int)).bind fun j140=>
 some (j140.1,j140.2):Option (List ((Int×Int)×(Int×List Int×Int×Int)×Int×Bool)×List Int×Int)).bind fun j141=>
 some (j141.1,j141.2)
 else
 some (y73.1,y73.2):Option (List ((Int×Int)×(Int×List Int×Int×Int)×Int×Bool)×List Int×Int)).bind fun j142=>
 (QO j142.2 40).bind fun y143=>
 (bif y143.1 then
 bif (decide (0<=41)&&decide (41<=(LIM:Int))) then
 some (List.replicate (Int.toNat 41) ((0,0),((0,([],(0,0))),(0,false))))
 else none
 else
 some j142.1:Option (List ((Int×Int)×(Int×List Int×Int×Int)×Int×Bool))).bind fun j144=>
 some (j144,y143.2)
def Qer:Callee:=⟨[.io s29 .z .z],[((.list s6),(.o .z))],fun t=>QgV t.1,true⟩
def Qpy:Ctx:=⟨tys,[(29,Z3),(47,JT),(62,Zq),(119,Qdc)],[],[],[(3,⟨[(.normal,⟨[(0,.keep),(3,.st (.list s6) (.o .z) false)],[(46,.st s29 .z false)]⟩)]⟩),
 (5,⟨[(.normal,⟨[(0,.keep),(3,.st (.list s6) (.o .z) false)],[(46,.st s29 .z false)]⟩)]⟩),
 (7,⟨[(.normal,⟨[(0,.keep),(3,.st (.list s6) (.o .z) false)],[(46,.st s29 .z false)]⟩)]⟩),
 (9,⟨[(.normal,⟨[(0,.keep),(3,.st (.list s6) (.o .z) false)],[(46,.keep)]⟩)]⟩),
 (11,⟨[(.normal,⟨[(0,.keep),(3,.st (.list s6) (.o .z) false)],[(46,.keep)]⟩)]⟩),
 (13,⟨[(.normal,⟨[(3,.st (.list s6) (.o .z) false)],[(46,.keep)]⟩)]⟩)],[],[],[]⟩
def Qga (x0:List Int×Int):Option ((List (List UInt8)×List (Int×Int))×(Int×Int×List ((Int×Int)×(Int×List Int×Int×Int)×Int×Bool)×List (Int×Int×Int))×List Int×List Int×List Int×Int):=
 (Qe8 x0).bind fun y16=>
 (Qp y16.2.2.2.2 16).bind fun y17=>
 (bif (decide ((y17.1:Int)=0)) then
 (JZ y17.2 ([1,0,61]:List Int)).bind fun y24=>
 bif decide (List.length y16.2.2.1+List.length ([y24.1]:List Int)<=LIM) then
 some (List.append y16.2.2.1 ([y24.1]:List Int),(y16.2.1,y24.2))
 else none
 else
 (bif (decide ((y17.1:Int)=1)) then
 (QgV y17.2).bind fun y27=>
 some (y16.2.2.1,((y16.2.1.1,(y16.2.1.2.1,(y27.1,y16.2.1.2.2.2))),y27.2))
 else
 (bif (decide ((y17.1:Int)=2)) then
 bif (decide (0<=9)&&decide (9<=(LIM:Int))) then
 some (List.replicate (Int.toNat 9) 0)
 else none
 else
 some y16.2.2.1:Option (List Int)).bind fun j28=>
 some (j28,(y16.2.1,y17.2)):Option (List Int×(Int×Int×List ((Int×Int)×(Int×List Int×Int×Int)×Int×Bool)×List (Int×Int×Int))×List Int×Int)).bind fun j29=>
 some (j29.1,(j29.2.1,j29.2.2)):Option (List Int×(Int×Int×List ((Int×Int)×(Int×List Int×Int×Int)×Int×Bool)×List (Int×Int×Int))×List Int×Int)).bind fun j30=>
 some (y16.1,(j30.2.1,(j30.1,(y16.2.2.2.1,j30.2.2))))
def Qdj:Callee:=⟨[.io s29 .z .z],[(s1,.z),(s10,.z),((.list (.int .i64)),(.o .z)),((.list (.int .i64)),(.o .z))],fun t=>Qga t.1,false⟩
def Qmp:Ctx:=⟨tys,[(47,JT),(61,Qcn),(62,Zq),(63,Qer)],[],[],[(4,⟨[(.normal,⟨[(2,.keep),(3,.keep),(6,.keep),(7,.keep),(8,.st (.list (.int .i64)) (.o .z) false),(9,.keep)],[(2,.keep),(3,.keep),(6,.keep),(7,.st s10 .z false),(39,.st s29 .z false)]⟩)]⟩),
 (6,⟨[(.normal,⟨[(2,.keep),(3,.keep),(6,.keep),(7,.keep),(8,.st (.list (.int .i64)) (.o .z) false),(9,.keep)],[(2,.keep),(3,.keep),(6,.keep),(7,.st s10 .z false),(39,.st s29 .z false)]⟩)]⟩),
 (8,⟨[(.normal,⟨[(2,.keep),(3,.keep),(6,.keep),(7,.keep),(8,.st (.list (.int .i64)) (.o .z) false),(9,.keep)],[(2,.keep),(3,.keep),(6,.keep),(7,.keep),(39,.keep)]⟩)]⟩)],[],[],[]⟩
def Q4 (x0:Int) (x1:Int) (x2:Int):Option (Bool):=
 (bif (decide ((x1:Int)<=x0)) then
 some (decide ((x0:Int)<=x2))
 else
 some false:Option (Bool)).bind fun j2=>
 some j2
def Ze:Callee:=⟨[.v (.int .i64) .z,.v (.int .i64) .z,.v (.int .i64) .z],[(.bool,.z)],fun t=>Q4 t.1 t.2.1 t.2.2.1,true⟩
def QoY:Ctx:=⟨tys,[],[],[],[],[(1,⟨[(6,.st .bool .z false)],[]⟩)],[],[]⟩
def QgN (x0:List UInt8):Option (Bool):=
 (Q4 (List.length x0:Int) 1 300).bind fun y2=>
 some y2
def QeD:Callee:=⟨[.v .str .z],[(.bool,.z)],fun t=>QgN t.1,true⟩
def QoQ:Ctx:=⟨tys,[(81,Ze)],[],[],[],[],[],[]⟩
def QbY (x0:Int):Option (Bool):=
 (Q4 x0 1 999).bind fun y2=>
 some y2
def QaJ:Callee:=⟨[.v (.int .i64) .z],[(.bool,.z)],fun t=>QbY t.1,true⟩
def Qp8:Ctx:=⟨tys,[(81,Ze)],[],[],[],[],[],[]⟩
def QW (x0:List (List UInt8)) (x1:List UInt8):Option (Int):=
 (Qf (S:=Int) (X:=(Unit)⊕(Int)) (fun s5=>
 bif (decide ((s5:Int)<(List.length x0:Int))) then
 bif (inB s5 x0) then
 bif (decide ((x1:List UInt8)=List.getD x0 (Int.toNat s5) [])) then
 some (Sum.inr (Sum.inr s5))
 else
 some (Sum.inl (IntKind.wrap .i64 (s5+1)))
 else none
 else
 some (Sum.inr (Sum.inl ()))) 0).bind fun j6=>
 Sum.elim (fun (j7:Unit)=>
 some (-1)) (fun (j8:Int)=>
 some j8) j6
def Q7:Callee:=⟨[.v (.list .str) .z,.v .str .z],[((.int .i64),.z)],fun t=>QW t.1 t.2.1,true⟩
def QcW:Ctx:=⟨tys,[],[],[(2,(⟨[(0,.keep),(1,.keep),(7,.keep),(8,.st (.int .i64) .z false)],[]⟩,⟨[((.exit 0),⟨[],[]⟩),(.ret,⟨[(4,.st (.int .i64) .z false)],[]⟩)]⟩))],[],[],[],[]⟩
def Yc (x0:List (List UInt8)) (x1:List UInt8):Option (Bool):=
 (QW x0 x1).bind fun y2=>
 some (decide ((0:Int)<=y2))
def Zz:Callee:=⟨[.v (.list .str) .z,.v .str .z],[(.bool,.z)],fun t=>Yc t.1 t.2.1,true⟩
def QbV:Ctx:=⟨tys,[(95,Q7)],[],[],[],[],[],[]⟩
def YG (x0:List (Int×Int)) (x1:Int×Int):Option (Int):=
 (Qf (S:=Int) (X:=(Unit)⊕(Int)) (fun s5=>
 bif (decide ((s5:Int)<(List.length x0:Int))) then
 bif (inB s5 x0) then
 bif (Sh.beq (.prod (.int .i64) (.int .i64)) x1 (List.getD x0 (Int.toNat s5) (0,0))) then
 some (Sum.inr (Sum.inr s5))
 else
 some (Sum.inl (IntKind.wrap .i64 (s5+1)))
 else none
 else
 some (Sum.inr (Sum.inl ()))) 0).bind fun j6=>
 Sum.elim (fun (j7:Unit)=>
 some (-1)) (fun (j8:Int)=>
 some j8) j6
def Zn:Callee:=⟨[.v (.list s0) .z,.v s0 .z],[((.int .i64),.z)],fun t=>YG t.1 t.2.1,true⟩
def QaY:Ctx:=⟨tys,[],[],[(2,(⟨[(0,.keep),(3,.keep),(7,.keep),(8,.st (.int .i64) .z false)],[(3,.keep)]⟩,⟨[((.exit 0),⟨[],[]⟩),(.ret,⟨[(4,.st (.int .i64) .z false)],[]⟩)]⟩))],[],[],[],[]⟩
def Q9 (x0:List (Int×Int)) (x1:Int×Int):Option (Bool):=
 (YG x0 x1).bind fun y2=>
 some (decide ((0:Int)<=y2))
def QQ:Callee:=⟨[.v (.list s0) .z,.v s0 .z],[(.bool,.z)],fun t=>Q9 t.1 t.2.1,true⟩
def J3:Ctx:=⟨tys,[(140,Zn)],[],[],[],[],[],[]⟩
def QcH (x0:List (List UInt8)×List (Int×Int)):Option (Int):=
 (bif (decide ((60:Int)<(List.length x0.1:Int))) then
 some true
 else
 some (decide ((120:Int)<(List.length x0.2:Int))):Option (Bool)).bind fun j34=>
 bif j34 then
 some 2
 else
 (Qf (S:=Int) (X:=(Unit)⊕(Int)) (fun s39=>
 bif (decide ((s39:Int)<(List.length x0.1:Int))) then
 bif (inB s39 x0.1) then
 (QgN (List.getD x0.1 (Int.toNat s39) [])).bind fun y40=>
 bif (!y40) then
 some (Sum.inr (Sum.inr 2))
 else
 bif (QT 0 s39 x0.1) then
 (Yc (cut 0 s39 x0.1) (List.getD x0.1 (Int.toNat s39) [])).bind fun y41=>
 bif y41 then
 some (Sum.inr (Sum.inr 7))
 else
 some (Sum.inl (IntKind.wrap .i64 (s39+1)))
 else none
 else none
 else
 some (Sum.inr (Sum.inl ()))) 0).bind fun j42=>
 Sum.elim (fun (j43:Unit)=>
 (Qf (S:=Int) (X:=(Unit)⊕(Int)) (fun s57=>
 bif (decide ((s57:Int)<(List.length x0.2:Int))) then
 bif (inB s57 x0.2) then
 ((QbY (List.getD x0.2 (Int.toNat s57) (0,0)).1).bind fun y60=>
 bif (!y60) then
 some true
 else
 (Q4 (List.getD x0.2 (Int.toNat s57) (0,0)).2 1 (List.length x0.1:Int)).bind fun y61=>
 some (!y61):Option (Bool)).bind fun j62=>
 bif j62 then
 some (Sum.inr (Sum.inr 3))
 else
 bif (QT 0 s57 x0.2) then
 (Q9 (cut 0 s57 x0.2) (List.getD x0.2 (Int.toNat s57) (0,0))).bind fun y63=>
 bif y63 then
 some (Sum.inr (Sum.inr 7))
 else
 some (Sum.inl (IntKind.wrap .i64 (s57+1)))
 else none
 else none
 else
 some (Sum.inr (Sum.inl ()))) 0).bind fun j64=>
 Sum.elim (fun (j65:Unit)=>
 some 0) (fun (j66:Int)=>
 some j66) j64) (fun (j44:Int)=>
 some j44) j42
def QaK:Callee:=⟨[.v s1 .z],[((.int .i64),.z)],fun t=>QcH t.1,true⟩
def Qji:Ctx:=⟨tys,[(55,QeD),(81,Ze),(82,QaJ),(88,Zz),(89,QQ)],[],[(4,(⟨[(1,.keep),(18,.keep),(19,.keep),(20,.st (.int .i64) .z false)],[(1,.keep)]⟩,⟨[((.exit 0),⟨[(1,.keep)],[(1,.keep)]⟩),(.ret,⟨[(2,.st (.int .i64) .z false)],[]⟩)]⟩)),
 (12,(⟨[(1,.keep),(36,.keep),(37,.keep),(38,.st (.int .i64) .z false)],[(1,.keep)]⟩,⟨[((.exit 2),⟨[],[]⟩),(.ret,⟨[(2,.st (.int .i64) .z false)],[]⟩)]⟩))],[],[(1,⟨[(1,.keep),(16,.st .bool .z false)],[(1,.keep)]⟩),
 (14,⟨[(1,.keep),(5,.keep),(6,.keep),(36,.keep),(37,.keep),(38,.keep),(55,.st .bool .z false)],[(1,.keep),(6,.keep)]⟩)],[],[]⟩
def QgB (x0:Int):Option (Bool):=
 (Q4 x0 1 60).bind fun y2=>
 some y2
def QeM:Callee:=⟨[.v (.int .i64) .z],[(.bool,.z)],fun t=>QgB t.1,true⟩
def QsA:Ctx:=⟨tys,[(81,Ze)],[],[],[],[],[],[]⟩
def QbR (x0:Int×Int):Option (Bool):=
 ((QgB x0.1).bind fun y8=>
 bif y8 then
 (Q4 x0.2 0 3).bind fun y9=>
 some y9
 else
 some false:Option (Bool)).bind fun j10=>
 some j10
def QbS:Callee:=⟨[.v s0 .z],[(.bool,.z)],fun t=>QbR t.1,true⟩
def Qrc:Ctx:=⟨tys,[(81,Ze),(93,QeM)],[],[],[],[(1,⟨[(2,.st .bool .z false)],[]⟩)],[],[]⟩
def JE (x0:Int):Option (Bool):=
 (Q4 x0 0 999).bind fun y2=>
 some y2
def Jv:Callee:=⟨[.v (.int .i64) .z],[(.bool,.z)],fun t=>JE t.1,true⟩
def QlQ:Ctx:=⟨tys,[(81,Ze)],[],[],[],[],[],[]⟩
def Ye (x0:List Int) (x1:Int->Option Bool):Option (Int):=
 (Qf (S:=Int) (X:=(Unit)⊕(Int)) (fun s10=>
 bif (decide ((s10:Int)<(List.length x0:Int))) then
 bif (inB s10 x0) then
 (x1 (List.getD x0 (Int.toNat s10) 0)).bind fun y11=>
 bif y11 then
 some (Sum.inr (Sum.inr s10))
 else
 some (Sum.inl (IntKind.wrap .i64 (s10+1)))
 else none
 else
 some (Sum.inr (Sum.inl ()))) 0).bind fun j12=>
 Sum.elim (fun (j13:Unit)=>
 some (-1)) (fun (j14:Int)=>
 some j14) j12
def ZF:Callee:=⟨[.v (.list (.int .i64)) .z,.v (.fn1 (.int .i64) .bool .z) .z],[((.int .i64),.z)],fun t=>Ye t.1 t.2.1,true⟩
def Qb6:Ctx:=⟨tys,[],[],[(2,(⟨[(0,.keep),(1,.keep),(7,.keep),(8,.st (.int .i64) .z false)],[]⟩,⟨[((.exit 0),⟨[],[]⟩),(.ret,⟨[(4,.st (.int .i64) .z false)],[]⟩)]⟩))],[],[],[],[]⟩
def ZP (x0:List Int) (x1:Int->Option Bool):Option (Bool):=
 (Ye x0 x1).bind fun y2=>
 some (decide ((0:Int)<=y2))
def Zr:Callee:=⟨[.v (.list (.int .i64)) .z,.v (.fn1 (.int .i64) .bool .z) .z],[(.bool,.z)],fun t=>ZP t.1 t.2.1,true⟩
def Qbe:Ctx:=⟨tys,[(245,ZF)],[],[],[],[],[],[]⟩
def Qgo (x0:Int):Option (Bool):=
 (QbY x0).bind fun y2=>
 some (!y2)
def Qbi:Callee:=⟨[.v (.int .i64) .z],[(.bool,.z)],fun t=>Qgo t.1,true⟩
def Qjz:Ctx:=⟨tys,[(82,QaJ)],[],[],[],[],[],[]⟩
def Qgf (x0:List Int):Option (Bool):=
 (ZP x0 (fun (a4:Int)=>(Qgo a4).bind fun r5=>some r5)).bind fun y6=>
 some (!y6)
def Qc9:Callee:=⟨[.v (.list (.int .i64)) .z],[(.bool,.z)],fun t=>Qgf t.1,true⟩
def Qml:Ctx:=⟨tys,[(225,Zr),(226,Qbi)],[],[],[],[],[],[]⟩
def Qfb (x0:List Int):Option (Bool):=
 (Qf (S:=Int) (X:=(Unit)⊕(Bool)) (fun s5=>
 bif (decide ((s5:Int)<(List.length x0:Int))) then
 bif (inB s5 x0) then
 bif (inB (IntKind.wrap .i64 (s5 - 1)) x0) then
 bif (decide ((List.getD x0 (Int.toNat s5) 0:Int)<=List.getD x0 (Int.toNat (IntKind.wrap .i64 (s5 - 1))) 0)) then
 some (Sum.inr (Sum.inr false))
 else
 some (Sum.inl (IntKind.wrap .i64 (s5+1)))
 else none
 else none
 else
 some (Sum.inr (Sum.inl ()))) 1).bind fun j6=>
 Sum.elim (fun (j7:Unit)=>
 some true) (fun (j8:Bool)=>
 some j8) j6
def Qcz:Callee:=⟨[.v (.list (.int .i64)) .z],[(.bool,.z)],fun t=>Qfb t.1,true⟩
def QlM:Ctx:=⟨tys,[],[],[(2,(⟨[(0,.keep),(3,.st (.int .i64) .z false)],[]⟩,⟨[((.exit 0),⟨[],[]⟩),(.ret,⟨[(2,.st .bool .z false)],[]⟩)]⟩))],[],[],[],[]⟩
def Qak (x0:List Int×Int×Int):Option (Int):=
 (Q4 (List.length x0.1:Int) 1 3).bind fun y10=>
 bif (!y10) then
 some 2
 else
 ((Qgf x0.1).bind fun y14=>
 bif (!y14) then
 some true
 else
 (Q4 x0.2.1 1 (List.length x0.1:Int)).bind fun y15=>
 bif (!y15) then
 some true
 else
 (JE x0.2.2).bind fun y16=>
 some (!y16):Option (Bool)).bind fun j17=>
 bif j17 then
 some 3
 else
 (Qfb x0.1).bind fun y18=>
 bif (!y18) then
 some 1
 else
 some 0
def Ja:Callee:=⟨[.v s2 .z],[((.int .i64),.z)],fun t=>Qak t.1,true⟩
def QkH:Ctx:=⟨tys,[(81,Ze),(149,Jv),(191,Qc9),(192,Qcz)],[],[],[],[(4,⟨[(1,.keep),(11,.st .bool .z false)],[(1,.keep)]⟩)],[],[]⟩
def Qc0 (x0:Int):Option (Bool):=
 some (!decide ((x0:Int)=x0))
def Qbo:Callee:=⟨[.v (.int .i64) .z],[(.bool,.z)],fun t=>Qc0 t.1,true⟩
def QjE:Ctx:=⟨tys,[],[],[],[],[],[],[]⟩
def YT (x0:Int) (x1:Int):Option (Int):=
 (Qc0 x0).bind fun y3=>
 (Qc0 x1).bind fun y4=>
 bif y3 then
 bif y4 then
 some 0
 else
 some (-1)
 else
 bif y4 then
 some 1
 else
 bif (decide ((x0:Int)<x1)) then
 some (-1)
 else
 bif (decide ((x1:Int)<x0)) then
 some 1
 else
 some 0
def YU:Callee:=⟨[.v (.int .i64) .z,.v (.int .i64) .z],[((.int .i64),.z)],fun t=>YT t.1 t.2.1,true⟩
def Qio:Ctx:=⟨tys,[(224,Qbo)],[],[],[],[],[],[]⟩
def Qh8 (x0:List Int):Option (Int):=
 (Qf (S:=Int) (X:=(Unit)⊕(Int)) (fun s5=>
 bif (decide ((s5:Int)<(List.length x0:Int))) then
 bif (inB s5 x0) then
 bif (!decide ((List.getD x0 (Int.toNat s5) 0:Int)=0)) then
 some (Sum.inr (Sum.inr (List.getD x0 (Int.toNat s5) 0)))
 else
 some (Sum.inl (IntKind.wrap .i64 (s5+1)))
 else none
 else
 some (Sum.inr (Sum.inl ()))) 0).bind fun j6=>
 Sum.elim (fun (j7:Unit)=>
 some 0) (fun (j8:Int)=>
 some j8) j6
def QfI:Callee:=⟨[.v (.list (.int .i64)) .z],[((.int .i64),.z)],fun t=>Qh8 t.1,true⟩
def Qrf:Ctx:=⟨tys,[],[],[(3,(⟨[(3,.keep),(6,.keep),(7,.keep),(8,.st (.int .i64) .z false)],[]⟩,⟨[((.exit 0),⟨[(3,.keep)],[]⟩),(.ret,⟨[(2,.st (.int .i64) .z false)],[]⟩)]⟩))],[],[],[],[]⟩
def Jn (x0:Int×Int) (x1:Int×Int):Option (Int):=
 (YT x0.1 x1.1).bind fun y4=>
 (YT x0.2 x1.2).bind fun y5=>
 (Qh8 ([y4,y5]:List Int)).bind fun y6=>
 some y6
def Yx:Callee:=⟨[.v s0 .z,.v s0 .z],[((.int .i64),.z)],fun t=>Jn t.1 t.2.1,true⟩
def QiZ:Ctx:=⟨tys,[(186,YU),(201,QfI)],[],[],[],[],[],[]⟩
def Qc3 (x0:List ((Int×Int)×(Int×List Int×Int×Int)×Int×Bool)):Option (Int):=
 bif (decide ((40:Int)<(List.length x0:Int))) then
 some 2
 else
 (Qf (S:=Int) (X:=(Unit)⊕(Int)) (fun s54=>
 bif (decide ((s54:Int)<(List.length x0:Int))) then
 bif (inB s54 x0) then
 ((QbR (List.getD x0 (Int.toNat s54) ((0,0),((0,([],(0,0))),(0,false)))).1).bind fun y58=>
 bif (!y58) then
 some true
 else
 (JE (List.getD x0 (Int.toNat s54) ((0,0),((0,([],(0,0))),(0,false)))).2.2.1).bind fun y59=>
 bif (!y59) then
 some true
 else
 (Q4 (List.getD x0 (Int.toNat s54) ((0,0),((0,([],(0,0))),(0,false)))).2.1.1 1 1000000).bind fun y60=>
 some (!y60):Option (Bool)).bind fun j61=>
 bif j61 then
 some (Sum.inr (Sum.inr 3))
 else
 (Qak (List.getD x0 (Int.toNat s54) ((0,0),((0,([],(0,0))),(0,false)))).2.1.2).bind fun y62=>
 bif (!decide ((y62:Int)=0)) then
 some (Sum.inr (Sum.inr y62))
 else
 (bif (decide ((0:Int)<s54)) then
 bif (inB (IntKind.wrap .i64 (s54 - 1)) x0) then
 (Jn (List.getD x0 (Int.toNat (IntKind.wrap .i64 (s54 - 1))) ((0,0),((0,([],(0,0))),(0,false)))).1 (List.getD x0 (Int.toNat s54) ((0,0),((0,([],(0,0))),(0,false)))).1).bind fun y64=>
 some (decide ((0:Int)<=y64))
 else none
 else
 some false:Option (Bool)).bind fun j65=>
 bif j65 then
 some (Sum.inr (Sum.inr 1))
 else
 some (Sum.inl (IntKind.wrap .i64 (s54+1)))
 else none
 else
 some (Sum.inr (Sum.inl ()))) 0).bind fun j66=>
 Sum.elim (fun (j67:Unit)=>
 some 0) (fun (j68:Int)=>
 some j68) j66
def Qbd:Callee:=⟨[.v (.list s6) .z],[((.int .i64),.z)],fun t=>Qc3 t.1,true⟩
def Qjy:Ctx:=⟨tys,[(81,Ze),(83,QbS),(138,Ja),(149,Jv),(150,Yx)],[],[(4,(⟨[(0,.keep),(9,.keep),(10,.keep),(11,.st (.int .i64) .z false)],[]⟩,⟨[((.exit 0),⟨[],[]⟩),(.ret,⟨[(2,.st (.int .i64) .z false)],[]⟩)]⟩))],[],[(6,⟨[(0,.keep),(3,.keep),(4,.keep),(9,.keep),(10,.keep),(11,.keep),(32,.st .bool .z false)],[(4,.keep)]⟩),
 (11,⟨[(0,.keep),(9,.keep),(10,.keep),(11,.keep),(53,.st .bool .z false)],[(4,.keep)]⟩)],[],[]⟩
def QY (x0:List (Int×Int×Int)) (x1:(Int×Int×Int)->Option Bool):Option (Int):=
 (Qf (S:=Int) (X:=(Unit)⊕(Int)) (fun s10=>
 bif (decide ((s10:Int)<(List.length x0:Int))) then
 bif (inB s10 x0) then
 (x1 (List.getD x0 (Int.toNat s10) (0,(0,0)))).bind fun y11=>
 bif y11 then
 some (Sum.inr (Sum.inr s10))
 else
 some (Sum.inl (IntKind.wrap .i64 (s10+1)))
 else none
 else
 some (Sum.inr (Sum.inl ()))) 0).bind fun j12=>
 Sum.elim (fun (j13:Unit)=>
 some (-1)) (fun (j14:Int)=>
 some j14) j12
def QF:Callee:=⟨[.v (.list s7) .z,.v (.fn1 s7 .bool .z) .z],[((.int .i64),.z)],fun t=>QY t.1 t.2.1,true⟩
def Y8:Ctx:=⟨tys,[],[],[(2,(⟨[(0,.keep),(1,.keep),(7,.keep),(8,.st (.int .i64) .z false)],[]⟩,⟨[((.exit 0),⟨[],[]⟩),(.ret,⟨[(4,.st (.int .i64) .z false)],[]⟩)]⟩))],[],[],[],[]⟩
def QN (x0:List (Int×Int×Int)) (x1:(Int×Int×Int)->Option Bool):Option (Bool):=
 (QY x0 x1).bind fun y2=>
 some (decide ((0:Int)<=y2))
def QA:Callee:=⟨[.v (.list s7) .z,.v (.fn1 s7 .bool .z) .z],[(.bool,.z)],fun t=>QN t.1 t.2.1,true⟩
def YJ:Ctx:=⟨tys,[(202,QF)],[],[],[],[],[],[]⟩
def Qar (x0:Int×Int×Int) (x1:Int×Int×Int):Option (Bool):=
 some (Sh.beq (.prod (.int .i64) (.int .i64)) x0.2 x1.2)
def YW:Callee:=⟨[.v s7 .z,.rp s7 false],[(.bool,.z)],fun t=>Qar t.1 t.2.1,true⟩
def QgF:Ctx:=⟨tys,[],[],[],[],[],[],[]⟩
def Qb1 (x0:List (Int×Int×Int)):Option (Int):=
 bif (decide ((8:Int)<(List.length x0:Int))) then
 some 2
 else
 (Qf (S:=Int) (X:=(Unit)⊕(Int)) (fun s46=>
 bif (decide ((s46:Int)<(List.length x0:Int))) then
 bif (inB s46 x0) then
 ((QbY (List.getD x0 (Int.toNat s46) (0,(0,0))).1).bind fun y49=>
 bif (!y49) then
 some true
 else
 (QbR (List.getD x0 (Int.toNat s46) (0,(0,0))).2).bind fun y50=>
 some (!y50):Option (Bool)).bind fun j51=>
 bif j51 then
 some (Sum.inr (Sum.inr 3))
 else
 (bif (decide ((0:Int)<s46)) then
 bif (inB (IntKind.wrap .i64 (s46 - 1)) x0) then
 some (decide (((List.getD x0 (Int.toNat s46) (0,(0,0))).1:Int)<=(List.getD x0 (Int.toNat (IntKind.wrap .i64 (s46 - 1))) (0,(0,0))).1))
 else none
 else
 some false:Option (Bool)).bind fun j52=>
 bif j52 then
 some (Sum.inr (Sum.inr 1))
 else
 some (Sum.inl (IntKind.wrap .i64 (s46+1)))
 else none
 else
 some (Sum.inr (Sum.inl ()))) 0).bind fun j53=>
 Sum.elim (fun (j54:Unit)=>
 (Qf (S:=Int) (X:=(Unit)⊕(Int)) (fun s62=>
 bif (decide ((s62:Int)<(List.length x0:Int))) then
 bif (inB s62 x0) then
 bif (QT 0 s62 x0) then
 (QN (cut 0 s62 x0) (fun (a63:Int×Int×Int)=>(Qar a63 (List.getD x0 (Int.toNat s62) (0,(0,0)))).bind fun r64=>some r64)).bind fun y65=>
 bif y65 then
 some (Sum.inr (Sum.inr 7))
 else
 some (Sum.inl (IntKind.wrap .i64 (s62+1)))
 else none
 else none
 else
 some (Sum.inr (Sum.inl ()))) 0).bind fun j66=>
 Sum.elim (fun (j67:Unit)=>
 some 0) (fun (j68:Int)=>
 some j68) j66) (fun (j55:Int)=>
 some j55) j53
def Qaa:Callee:=⟨[.v (.list s7) .z],[((.int .i64),.z)],fun t=>Qb1 t.1,true⟩
def Qip:Ctx:=⟨tys,[(82,QaJ),(83,QbS),(151,QA),(152,YW)],[],[(4,(⟨[(0,.keep),(10,.keep),(11,.keep),(12,.st (.int .i64) .z false)],[]⟩,⟨[((.exit 0),⟨[(0,.keep)],[]⟩),(.ret,⟨[(2,.st (.int .i64) .z false)],[]⟩)]⟩)),
 (12,(⟨[(0,.keep),(41,.keep),(42,.keep),(43,.st (.int .i64) .z false)],[]⟩,⟨[((.exit 2),⟨[],[]⟩),(.ret,⟨[(2,.st (.int .i64) .z false)],[]⟩)]⟩))],[],[(6,⟨[(0,.keep),(3,.keep),(4,.keep),(10,.keep),(11,.keep),(12,.keep),(26,.st .bool .z false)],[(4,.keep)]⟩),
 (8,⟨[(0,.keep),(10,.keep),(11,.keep),(12,.keep),(39,.st .bool .z false)],[(4,.keep)]⟩)],[],[]⟩
def QcZ (x0:Int×Int×List ((Int×Int)×(Int×List Int×Int×Int)×Int×Bool)×List (Int×Int×Int)):Option (Int):=
 ((Q4 x0.1 0 60).bind fun y10=>
 bif (!y10) then
 some true
 else
 (Q4 x0.2.1 0 40).bind fun y11=>
 some (!y11):Option (Bool)).bind fun j12=>
 bif j12 then
 some 3
 else
 bif (!(Sh.beq .bool (decide ((x0.1:Int)=0)) (decide ((x0.2.1:Int)=0)))) then
 some 1
 else
 (Qc3 x0.2.2.1).bind fun y13=>
 bif (!decide ((y13:Int)=0)) then
 some y13
 else
 (Qb1 x0.2.2.2).bind fun y14=>
 some y14
def Qbf:Callee:=⟨[.v s10 .z],[((.int .i64),.z)],fun t=>QcZ t.1,true⟩
def QjH:Ctx:=⟨tys,[(81,Ze),(98,Qbd),(99,Qaa)],[],[],[],[(1,⟨[(1,.keep),(4,.st .bool .z false)],[(1,.keep)]⟩)],[],[]⟩
def QbU (x0:List (List UInt8)×List (Int×Int)) (x1:Int×Int×List ((Int×Int)×(Int×List Int×Int×Int)×Int×Bool)×List (Int×Int×Int)) (x2:List Int):Option (Int):=
 (QcH x0).bind fun y3=>
 bif (!decide ((y3:Int)=0)) then
 some y3
 else
 (QcZ x1).bind fun y4=>
 bif (!decide ((y4:Int)=0)) then
 some y4
 else
 bif (decide ((8:Int)<(List.length x2:Int))) then
 some 2
 else
 some 0
def Qam:Callee:=⟨[.v s1 .z,.v s10 .z,.v (.list (.int .i64)) .z],[((.int .i64),.z)],fun t=>QbU t.1 t.2.1 t.2.2.1,true⟩
def QkE:Ctx:=⟨tys,[(44,QaK),(56,Qbf)],[],[],[],[],[],[]⟩
def Qfs (x0:List (List UInt8)×List (Int×Int)) (x1:Int):Option (Bool):=
 (Q4 x1 1 (List.length x0.1:Int)).bind fun y2=>
 some y2
def QaM:Callee:=⟨[.v s1 .z,.v (.int .i64) .z],[(.bool,.z)],fun t=>Qfs t.1 t.2.1,true⟩
def Qi1:Ctx:=⟨tys,[(81,Ze)],[],[],[],[],[],[]⟩
def Qd8 (x0:List (List UInt8)×List (Int×Int)) (x1:Int):Option (List UInt8×Int):=
 (Qfs x0 x1).bind fun y2=>
 bif (!y2) then
 some ([],3)
 else
 bif (inB (IntKind.wrap .i64 (x1 - 1)) x0.1) then
 some (List.getD x0.1 (Int.toNat (IntKind.wrap .i64 (x1 - 1))) [],0)
 else none
def JG:Callee:=⟨[.v s1 .z,.v (.int .i64) .z],[(.str,.z),((.int .i64),.z)],fun t=>Qd8 t.1 t.2.1,true⟩
def QhL:Ctx:=⟨tys,[(141,QaM)],[],[],[],[],[],[]⟩
def Qbh (x0:Int):Option (Bool):=
 (bif (decide ((x0:Int)<1)) then
 some true
 else
 some (decide ((4:Int)<x0)):Option (Bool)).bind fun j2=>
 some j2
def Qbn:Callee:=⟨[.v (.int .i64) .z],[(.bool,.z)],fun t=>Qbh t.1,true⟩
def QjI:Ctx:=⟨tys,[],[],[],[],[(1,⟨[(2,.st .bool .z false)],[]⟩)],[],[]⟩
def Y0 (x0:List (Int×Int)) (x1:Int×Int):Option (Int):=
 (Qf (S:=Int) (X:=(Unit)⊕(Int)) (fun s5=>
 bif (decide ((s5:Int)<(List.length x0:Int))) then
 bif (inB s5 x0) then
 bif (Sh.beq (.prod (.int .i64) (.int .i64)) x1 (List.getD x0 (Int.toNat s5) (0,0))) then
 some (Sum.inr (Sum.inr s5))
 else
 some (Sum.inl (IntKind.wrap .i64 (s5+1)))
 else none
 else
 some (Sum.inr (Sum.inl ()))) 0).bind fun j6=>
 Sum.elim (fun (j7:Unit)=>
 some (-1)) (fun (j8:Int)=>
 some j8) j6
def Zx:Callee:=⟨[.v (.list s0) .z,.v s0 .z],[((.int .i64),.z)],fun t=>Y0 t.1 t.2.1,true⟩
def Qbu:Ctx:=⟨tys,[],[],[(2,(⟨[(0,.keep),(3,.keep),(7,.keep),(8,.st (.int .i64) .z false)],[(3,.keep)]⟩,⟨[((.exit 0),⟨[],[]⟩),(.ret,⟨[(4,.st (.int .i64) .z false)],[]⟩)]⟩))],[],[],[],[]⟩
def Qx (x0:List (Int×Int)) (x1:Int×Int):Option (Bool):=
 (Y0 x0 x1).bind fun y2=>
 some (decide ((0:Int)<=y2))
def Qy:Callee:=⟨[.v (.list s0) .z,.v s0 .z],[(.bool,.z)],fun t=>Qx t.1 t.2.1,true⟩
def QaD:Ctx:=⟨tys,[(137,Zx)],[],[],[],[],[],[]⟩
def QaZ (x0:Int×List Int×Int×Int):Option (Int):=
 (Q4 x0.1 1 1000000).bind fun y3=>
 bif (!y3) then
 some 3
 else
 (Qak x0.2).bind fun y4=>
 some y4
def Qcp:Callee:=⟨[.v s3 .z],[((.int .i64),.z)],fun t=>QaZ t.1,true⟩
def Qlx:Ctx:=⟨tys,[(81,Ze),(138,Ja)],[],[],[],[],[],[]⟩
def Qge (x0:Int×Int×List (Int×Int)×List (Int×List Int×Int×Int)):Option (Int):=
 ((Q4 x0.1 0 2).bind fun y31=>
 bif (!y31) then
 some true
 else
 some (!(Sh.beq .bool (decide ((x0.1:Int)=0)) (decide ((x0.2.1:Int)=0)))):Option (Bool)).bind fun j32=>
 bif j32 then
 some 1
 else
 (bif (!decide ((x0.2.1:Int)=0)) then
 (QbY x0.2.1).bind fun y34=>
 some (!y34)
 else
 some false:Option (Bool)).bind fun j35=>
 bif j35 then
 some 3
 else
 ((Qbh (List.length x0.2.2.1:Int)).bind fun y38=>
 bif y38 then
 some true
 else
 (Qbh (List.length x0.2.2.2:Int)).bind fun y39=>
 some y39:Option (Bool)).bind fun j40=>
 bif j40 then
 some 2
 else
 (Qf (S:=Int) (X:=(Unit)⊕(Int)) (fun s45=>
 bif (decide ((s45:Int)<(List.length x0.2.2.1:Int))) then
 bif (inB s45 x0.2.2.1) then
 (QbR (List.getD x0.2.2.1 (Int.toNat s45) (0,0))).bind fun y46=>
 bif (!y46) then
 some (Sum.inr (Sum.inr 3))
 else
 bif (QT 0 s45 x0.2.2.1) then
 (Qx (cut 0 s45 x0.2.2.1) (List.getD x0.2.2.1 (Int.toNat s45) (0,0))).bind fun y47=>
 bif y47 then
 some (Sum.inr (Sum.inr 7))
 else
 some (Sum.inl (IntKind.wrap .i64 (s45+1)))
 else none
 else none
 else
 some (Sum.inr (Sum.inl ()))) 0).bind fun j48=>
 Sum.elim (fun (j49:Unit)=>
 (Qf (S:=Int) (X:=(Unit)⊕(Int)) (fun s53=>
 bif (decide ((s53:Int)<(List.length x0.2.2.2:Int))) then
 bif (inB s53 x0.2.2.2) then
 (QaZ (List.getD x0.2.2.2 (Int.toNat s53) (0,([],(0,0))))).bind fun y54=>
 bif (!decide ((y54:Int)=0)) then
 some (Sum.inr (Sum.inr y54))
 else
 some (Sum.inl (IntKind.wrap .i64 (s53+1)))
 else none
 else
 some (Sum.inr (Sum.inl ()))) 0).bind fun j55=>
 Sum.elim (fun (j56:Unit)=>
 (bif (decide ((x0.1:Int)=1)) then
 bif (inB 0 x0.2.2.2) then
 some (decide (((List.getD x0.2.2.2 (Int.toNat 0) (0,([],(0,0)))).1:Int)<100))
 else none
 else
 some false:Option (Bool)).bind fun j58=>
 bif j58 then
 some 8
 else
 some 0) (fun (j57:Int)=>
 some j57) j55) (fun (j50:Int)=>
 some j50) j48
def Qdu:Callee:=⟨[.v s15 .z],[((.int .i64),.z)],fun t=>Qge t.1,true⟩
def QmB:Ctx:=⟨tys,[(80,Qbn),(81,Ze),(82,QaJ),(83,QbS),(84,Qy),(85,Qcp)],[],[(9,(⟨[(1,.keep),(47,.keep),(48,.keep),(49,.st (.int .i64) .z false)],[(1,.keep)]⟩,⟨[((.exit 1),⟨[(1,.keep)],[(1,.keep)]⟩),(.ret,⟨[(2,.st (.int .i64) .z false)],[]⟩)]⟩)),
 (17,(⟨[(1,.keep),(65,.keep),(66,.keep),(67,.st (.int .i64) .z false)],[(1,.keep)]⟩,⟨[((.exit 3),⟨[(1,.keep)],[(1,.keep)]⟩),(.ret,⟨[(2,.st (.int .i64) .z false)],[]⟩)]⟩))],[],[(2,⟨[(1,.keep),(3,.keep),(9,.st .bool .z false)],[(1,.keep)]⟩),
 (4,⟨[(1,.keep),(3,.keep),(23,.st .bool .z false)],[(1,.keep)]⟩),
 (6,⟨[(1,.keep),(33,.st .bool .z false)],[(1,.keep)]⟩),
 (23,⟨[(87,.st .bool .z false)],[]⟩)],[],[]⟩
def QbJ:Option (List (List UInt8)):=
 some ([[112,97,121],[106,111,105,110],[108,101,97,118,101]]:List (List UInt8))
def Qad:Callee:=⟨[],[((.list .str),(.o .z))],fun t=>QbJ,true⟩
def QkA:Ctx:=⟨tys,[],[],[],[],[],[],[]⟩
def QeW (x0:Int) (x1:Int):Option (List UInt8):=
 fmtS x0 x1
def Qil:Callee:=⟨[.v (.int .i64) .z,.v (.int .i64) .z],[(.str,.z)],fun t=>QeW t.1 t.2.1,true⟩
def JH (x0:Int):Option (List UInt8):=
 (QeW x0 10).bind fun y2=>
 some y2
def Qd4:Callee:=⟨[.v (.int .i64) .z],[(.str,.z)],fun t=>JH t.1,true⟩
def Qt2:Ctx:=⟨tys,[(197,Qil)],[],[],[],[],[],[]⟩
def YF (x0:List (List UInt8)) (x1:List UInt8):Option (List UInt8):=
 QkR x0 x1
def QiC:Callee:=⟨[.v (.list .str) .z,.v .str .z],[(.str,.z)],fun t=>YF t.1 t.2.1,false⟩
def QgR (x0:List Int) (x1:List UInt8):Option (List UInt8):=
 (Qf (S:=List (List UInt8)×Int) (X:=List (List UInt8)) (fun s9=>
 bif (decide ((s9.2:Int)<(List.length x0:Int))) then
 bif (inB s9.2 x0) then
 (JH (List.getD x0 (Int.toNat s9.2) 0)).bind fun y10=>
 bif decide (List.length s9.1+List.length ([y10]:List (List UInt8))<=LIM) then
 some (Sum.inl (List.append s9.1 ([y10]:List (List UInt8)),IntKind.wrap .i64 (s9.2+1)))
 else none
 else none
 else
 some (Sum.inr s9.1)) (([]:List (List UInt8)),0)).bind fun j11=>
 (YF j11 x1).bind fun y12=>
 some y12
def Qep:Callee:=⟨[.v (.list (.int .i64)) .z,.v .str .z],[(.str,.z)],fun t=>QgR t.1 t.2.1,false⟩
def Qot:Ctx:=⟨tys,[(147,Qd4),(148,QiC)],[],[(3,(⟨[(1,.keep),(5,.st (.list .str) (.o .z) false),(9,.keep),(10,.keep),(11,.st (.int .i64) .z false)],[]⟩,⟨[((.exit 0),⟨[(1,.keep),(5,.st (.list .str) (.o .z) false)],[]⟩)]⟩))],[],[],[],[]⟩
def Qcr (x0:List Int×Int×Int) (x1:List UInt8):Option (List UInt8):=
 (JH x0.2.1).bind fun y6=>
 bif decide (List.length y6+List.length x1<=LIM) then
 bif decide (List.length (List.append y6 x1)+List.length [111,102]<=LIM) then
 bif decide (List.length (List.append (List.append y6 x1) [111,102])+List.length x1<=LIM) then
 (QgR x0.1 [44]).bind fun y7=>
 bif decide (List.length (List.append (List.append (List.append y6 x1) [111,102]) x1)+List.length y7<=LIM) then
 (bif (!decide ((x0.2.2:Int)=0)) then
 bif decide (List.length x1+List.length [97,102,116,101,114]<=LIM) then
 bif decide (List.length (List.append x1 [97,102,116,101,114])+List.length x1<=LIM) then
 (JH x0.2.2).bind fun y9=>
 bif decide (List.length (List.append (List.append x1 [97,102,116,101,114]) x1)+List.length y9<=LIM) then
 bif decide (List.length (List.append (List.append (List.append (List.append y6 x1) [111,102]) x1) y7)+List.length (List.append (List.append (List.append x1 [97,102,116,101,114]) x1) y9)<=LIM) then
 some (List.append (List.append (List.append (List.append (List.append y6 x1) [111,102]) x1) y7) (List.append (List.append (List.append x1 [97,102,116,101,114]) x1) y9))
 else none
 else none
 else none
 else none
 else
 some (List.append (List.append (List.append (List.append y6 x1) [111,102]) x1) y7):Option (List UInt8)).bind fun j10=>
 some j10
 else none
 else none
 else none
 else none
def QaU:Callee:=⟨[.v s2 .z,.v .str .z],[(.str,.z)],fun t=>Qcr t.1 t.2.1,false⟩
def Qli:Ctx:=⟨tys,[(94,Qep),(147,Qd4)],[],[],[(3,⟨[(.normal,⟨[(5,.st .str .z false)],[]⟩)]⟩)],[],[],[]⟩
def Qek (x0:Int×Int×List (Int×Int)×List (Int×List Int×Int×Int)):Option (List UInt8×Int):=
 (QbJ).bind fun y23=>
 bif (inB x0.1 y23) then
 (bif (!decide ((x0.1:Int)=0)) then
 (JH x0.2.1).bind fun y25=>
 bif decide (List.length ([List.getD y23 (Int.toNat x0.1) []]:List (List UInt8))+List.length ([y25]:List (List UInt8))<=LIM) then
 some (List.append ([List.getD y23 (Int.toNat x0.1) []]:List (List UInt8)) ([y25]:List (List UInt8)))
 else none
 else
 some ([List.getD y23 (Int.toNat x0.1) []]:List (List UInt8)):Option (List (List UInt8))).bind fun j26=>
 (Qf (S:=List (List UInt8)×Int) (X:=List (List UInt8)) (fun s31=>
 bif (decide ((s31.2:Int)<(List.length x0.2.2.1:Int))) then
 bif (inB s31.2 x0.2.2.1) then
 (JH (List.getD x0.2.2.1 (Int.toNat s31.2) (0,0)).1).bind fun y32=>
 bif decide (List.length y32+List.length [58]<=LIM) then
 (JH (List.getD x0.2.2.1 (Int.toNat s31.2) (0,0)).2).bind fun y33=>
 bif decide (List.length (List.append y32 [58])+List.length y33<=LIM) then
 bif decide (List.length s31.1+List.length ([List.append (List.append y32 [58]) y33]:List (List UInt8))<=LIM) then
 some (Sum.inl (List.append s31.1 ([List.append (List.append y32 [58]) y33]:List (List UInt8)),IntKind.wrap .i64 (s31.2+1)))
 else none
 else none
 else none
 else none
 else
 some (Sum.inr s31.1)) (([]:List (List UInt8)),0)).bind fun j34=>
 (YF j34 [43]).bind fun y35=>
 bif decide (List.length j26+List.length ([y35]:List (List UInt8))<=LIM) then
 (Qf (S:=List (List UInt8)×Int) (X:=List (List UInt8)) (fun s40=>
 bif (decide ((s40.2:Int)<(List.length x0.2.2.2:Int))) then
 bif (inB s40.2 x0.2.2.2) then
 (JH (List.getD x0.2.2.2 (Int.toNat s40.2) (0,([],(0,0)))).1).bind fun y41=>
 bif decide (List.length y41+List.length [61]<=LIM) then
 (Qcr (List.getD x0.2.2.2 (Int.toNat s40.2) (0,([],(0,0)))).2 [95]).bind fun y42=>
 bif decide (List.length (List.append y41 [61])+List.length y42<=LIM) then
 bif decide (List.length s40.1+List.length ([List.append (List.append y41 [61]) y42]:List (List UInt8))<=LIM) then
 some (Sum.inl (List.append s40.1 ([List.append (List.append y41 [61]) y42]:List (List UInt8)),IntKind.wrap .i64 (s40.2+1)))
 else none
 else none
 else none
 else none
 else
 some (Sum.inr s40.1)) (List.append j26 ([y35]:List (List UInt8)),0)).bind fun j43=>
 (YF j43 [32]).bind fun y44=>
 bif (decide ((300:Int)<(List.length y44:Int))) then
 some ([],2)
 else
 some (y44,0)
 else none
 else none
def Qcg:Callee:=⟨[.v s15 .z],[(.str,.z),((.int .i64),.z)],fun t=>Qek t.1,false⟩
def QpJ:Ctx:=⟨tys,[(143,Qad),(147,Qd4),(148,QiC),(159,QaU)],[],[(6,(⟨[(1,.keep),(4,.keep),(5,.st (.list .str) (.o .z) false),(28,.keep),(29,.keep),(30,.st (.int .i64) .z false)],[(1,.keep)]⟩,⟨[((.exit 0),⟨[(1,.keep),(4,.keep),(5,.st (.list .str) (.o .z) false)],[(1,.keep)]⟩)]⟩)),
 (12,(⟨[(4,.st (.list .str) (.o .z) false),(52,.keep),(53,.keep),(54,.st (.int .i64) .z false)],[]⟩,⟨[((.exit 2),⟨[(4,.st (.list .str) (.o .z) false)],[]⟩)]⟩))],[(3,⟨[(.normal,⟨[(1,.keep),(4,.st (.list .str) (.o .z) false)],[(1,.keep)]⟩)]⟩)],[],[],[]⟩
def Jy (x0:List UInt8) (x1:List UInt8):Option (List (List UInt8)):=
 QiT x0 x1
def Qe3:Callee:=⟨[.v .str .z,.v .str .z],[((.list .str),(.o .z))],fun t=>Jy t.1 t.2.1,true⟩
def YA (x0:List UInt8):Option (Int):=
 numO x0
def Qey:Callee:=⟨[.v .str .z],[((.int .i64),.z)],fun t=>YA t.1,false⟩
def Qef (x0:List UInt8) (x1:List UInt8):Option (List UInt8×List UInt8×Bool):=
 cutS x0 x1
def Qjm:Callee:=⟨[.v .str .z,.v .str .z],[(.str,.z),(.str,.z),(.bool,.z)],fun t=>Qef t.1 t.2.1,true⟩
def QfZ (x0:List UInt8) (x1:List UInt8):Option (List Int):=
 (Jy x0 x1).bind fun y7=>
 (Qf (S:=List Int×Int) (X:=List Int) (fun s10=>
 bif (decide ((s10.2:Int)<(List.length y7:Int))) then
 bif (inB s10.2 y7) then
 (YA (List.getD y7 (Int.toNat s10.2) [])).bind fun y11=>
 bif decide (List.length s10.1+List.length ([y11]:List Int)<=LIM) then
 some (Sum.inl (List.append s10.1 ([y11]:List Int),IntKind.wrap .i64 (s10.2+1)))
 else none
 else none
 else
 some (Sum.inr s10.1)) (([]:List Int),0)).bind fun j12=>
 some j12
def QdH:Callee:=⟨[.v .str .z,.v .str .z],[((.list (.int .i64)),(.o .z))],fun t=>QfZ t.1 t.2.1,false⟩
def QmU:Ctx:=⟨tys,[(142,Qe3),(144,Qey)],[],[(3,(⟨[(5,.st (.list (.int .i64)) (.o .z) false),(11,.keep),(12,.keep),(13,.st (.int .i64) .z false)],[]⟩,⟨[((.exit 0),⟨[(5,.st (.list (.int .i64)) (.o .z) false)],[]⟩)]⟩))],[],[],[],[]⟩
def Qe5 (x0:List UInt8) (x1:List UInt8):Option ((List Int×Int×Int)×Bool):=
 (Jy x0 x1).bind fun y13=>
 (bif (decide ((300:Int)<(List.length x0:Int))) then
 some true
 else
 bif (!decide (((List.length y13:Int):Int)=3)) then
 some (!decide (((List.length y13:Int):Int)=5))
 else
 some false:Option (Bool)).bind fun j14=>
 bif j14 then
 some (([],(0,0)),false)
 else
 bif (inB 0 y13) then
 (YA (List.getD y13 (Int.toNat 0) [])).bind fun y15=>
 bif (inB 2 y13) then
 (QfZ (List.getD y13 (Int.toNat 2) []) [44]).bind fun y16=>
 (bif (decide (((List.length y13:Int):Int)=5)) then
 bif (inB 4 y13) then
 (YA (List.getD y13 (Int.toNat 4) [])).bind fun y18=>
 some (y16,(y15,y18))
 else none
 else
 some (y16,(y15,0)):Option (List Int×Int×Int)).bind fun j19=>
 ((Qak j19).bind fun y22=>
 bif (!decide ((y22:Int)=0)) then
 some true
 else
 (Qcr j19 x1).bind fun y23=>
 some (!decide ((y23:List UInt8)=x0)):Option (Bool)).bind fun j24=>
 bif j24 then
 some (([],(0,0)),false)
 else
 some (j19,true)
 else none
 else none
def Qcv:Callee:=⟨[.v .str .z,.v .str .z],[(s2,(.p (.o .z) .z)),(.bool,.z)],fun t=>Qe5 t.1 t.2.1,false⟩
def Qlr:Ctx:=⟨tys,[(138,Ja),(142,Qe3),(144,Qey),(159,QaU),(203,QdH)],[],[],[(6,⟨[(.normal,⟨[(0,.keep),(1,.keep),(4,.keep),(7,.keep)],[(4,.keep),(7,.st s2 (.p (.o .z) .z) false)]⟩)]⟩)],[(2,⟨[(0,.keep),(1,.keep),(4,.keep),(6,.keep),(23,.st .bool .z false)],[(4,.keep)]⟩),
 (7,⟨[(4,.keep),(7,.keep),(51,.st .bool .z false)],[(4,.keep),(7,.keep)]⟩)],[],[]⟩
def Qf8 (x0:List UInt8):Option ((Int×List Int×Int×Int)×Bool):=
 (Qef x0 [61]).bind fun y4=>
 (Qe5 y4.2.1 [95]).bind fun y5=>
 (YA y4.1).bind fun y6=>
 some ((y6,y5.1),y5.2)
def QdB:Callee:=⟨[.v .str .z],[(s3,(.p .z (.p (.o .z) .z))),(.bool,.z)],fun t=>Qf8 t.1,false⟩
def QmY:Ctx:=⟨tys,[(144,Qey),(145,Qjm),(196,Qcv)],[],[],[],[],[],[]⟩
def Qg4 (x0:List UInt8):Option ((Int×Int×List (Int×Int)×List (Int×List Int×Int×Int))×Bool):=
 (Jy x0 [32]).bind fun y32=>
 (QbJ).bind fun y33=>
 bif (inB 0 y32) then
 (QW y33 (List.getD y32 (Int.toNat 0) [])).bind fun y34=>
 (bif (decide ((300:Int)<(List.length x0:Int))) then
 some true
 else
 some (decide ((y34:Int)<0)):Option (Bool)).bind fun j35=>
 bif j35 then
 some ((0,(0,([],[]))),false)
 else
 bif (QT 1 (List.length y32:Int) y32) then
 (bif (!decide ((y34:Int)=0)) then
 some (decide ((0:Int)<(List.length (List.take (Int.toNat ((List.length y32:Int) - 1)) (List.drop (Int.toNat 1) y32)):Int)))
 else
 some false:Option (Bool)).bind fun j36=>
 (bif j36 then
 bif (inB 0 (List.take (Int.toNat ((List.length y32:Int) - 1)) (List.drop (Int.toNat 1) y32))) then
 (YA (List.getD (List.take (Int.toNat ((List.length y32:Int) - 1)) (List.drop (Int.toNat 1) y32)) (Int.toNat 0) [])).bind fun y38=>
 bif (QT 1 (List.length (List.take (Int.toNat ((List.length y32:Int) - 1)) (List.drop (Int.toNat 1) y32)):Int) (List.take (Int.toNat ((List.length y32:Int) - 1)) (List.drop (Int.toNat 1) y32))) then
 some (List.take (Int.toNat ((List.length (List.take (Int.toNat ((List.length y32:Int) - 1)) (List.drop (Int.toNat 1) y32)):Int) - 1)) (List.drop (Int.toNat 1) (List.take (Int.toNat ((List.length y32:Int) - 1)) (List.drop (Int.toNat 1) y32))),(y34,(y38,([],[]))))
 else none
 else none
 else
 some (List.take (Int.toNat ((List.length y32:Int) - 1)) (List.drop (Int.toNat 1) y32),(y34,(0,([],[])))):Option (List (List UInt8)×Int×Int×List (Int×Int)×List (Int×List Int×Int×Int))).bind fun j39=>
 (bif (decide (((List.length j39.1:Int):Int)<2)) then
 some true
 else
 some (decide ((5:Int)<(List.length j39.1:Int))):Option (Bool)).bind fun j40=>
 bif j40 then
 some ((0,(0,([],[]))),false)
 else
 bif (inB 0 j39.1) then
 (Jy (List.getD j39.1 (Int.toNat 0) []) [43]).bind fun y41=>
 (Qf (S:=Int×Int×Int×List (Int×Int)×List (Int×List Int×Int×Int)) (X:=Int×Int×List (Int×Int)×List (Int×List Int×Int×Int)) (fun s48=>
 bif (decide ((s48.1:Int)<(List.length y41:Int))) then
 bif (inB s48.1 y41) then
 (Qef (List.getD y41 (Int.toNat s48.1) []) [58]).bind fun y49=>
 (YA y49.1).bind fun y50=>
 (YA y49.2.1).bind fun y51=>
 bif decide (List.length s48.2.2.2.1+List.length ([(y50,y51)]:List (Int×Int))<=LIM) then
 some (Sum.inl (IntKind.wrap .i64 (s48.1+1),(s48.2.1,(s48.2.2.1,(List.append s48.2.2.2.1 ([(y50,y51)]:List (Int×Int)),s48.2.2.2.2)))))
 else none
 else none
 else
 some (Sum.inr s48.2)) (0,j39.2)).bind fun j52=>
 bif (QT 1 (List.length j39.1:Int) j39.1) then
 (Qf (S:=Int×Int×Int×List (Int×Int)×List (Int×List Int×Int×Int)) (X:=(Int×Int×List (Int×Int)×List (Int×List Int×Int×Int))⊕(Bool×Int×Int×List (Int×Int)×List (Int×List Int×Int×Int))) (fun s55=>
 bif (decide ((s55.1:Int)<(List.length (List.take (Int.toNat ((List.length j39.1:Int) - 1)) (List.drop (Int.toNat 1) j39.1)):Int))) then
 bif (inB s55.1 (List.take (Int.toNat ((List.length j39.1:Int) - 1)) (List.drop (Int.toNat 1) j39.1))) then
 (Qf8 (List.getD (List.take (Int.toNat ((List.length j39.1:Int) - 1)) (List.drop (Int.toNat 1) j39.1)) (Int.toNat s55.1) [])).bind fun y56=>
 bif (!y56.2) then
 some (Sum.inr (Sum.inr (false,(0,(0,([],[]))))))
 else
 bif decide (List.length s55.2.2.2.2+List.length ([y56.1]:List (Int×List Int×Int×Int))<=LIM) then
 some (Sum.inl (IntKind.wrap .i64 (s55.1+1),(s55.2.1,(s55.2.2.1,(s55.2.2.2.1,List.append s55.2.2.2.2 ([y56.1]:List (Int×List Int×Int×Int)))))))
 else none
 else none
 else
 some (Sum.inr (Sum.inl s55.2))) (0,j52)).bind fun j57=>
 Sum.elim (fun (j58:Int×Int×List (Int×Int)×List (Int×List Int×Int×Int))=>
 (Qge j58).bind fun y60=>
 bif (!decide ((y60:Int)=0)) then
 some ((0,(0,([],[]))),false)
 else
 (Qek j58).bind fun y61=>
 (bif (decide ((y61.2:Int)=0)) then
 some (decide ((y61.1:List UInt8)=x0),j58)
 else
 some (false,j58):Option (Bool×Int×Int×List (Int×Int)×List (Int×List Int×Int×Int))).bind fun j62=>
 some (j62.2,j62.1)) (fun (j59:Bool×Int×Int×List (Int×Int)×List (Int×List Int×Int×Int))=>
 some (j59.2,j59.1)) j57
 else none
 else none
 else none
 else none
def Qeq:Callee:=⟨[.v .str .z],[(s15,(.p .z (.p .z (.p (.o .z) (.o (.p .z (.p (.o .z) .z))))))),(.bool,.z)],fun t=>Qg4 t.1,false⟩
def QoP:Ctx:=⟨tys,[(42,Qdu),(95,Q7),(106,Qcg),(142,Qe3),(143,Qad),(144,Qey),(145,Qjm),(146,QdB)],[],[(12,(⟨[(0,.keep),(2,.keep),(4,.keep),(5,.keep),(63,.keep),(64,.keep),(65,.st (.int .i64) .z false)],[(2,.keep),(5,.st s15 (.p .z (.p .z (.p (.o .z) (.o (.p .z (.p (.o .z) .z)))))) false)]⟩,⟨[((.exit 0),⟨[(0,.keep),(2,.keep),(4,.keep),(5,.keep)],[(2,.keep),(5,.st s15 (.p .z (.p .z (.p (.o .z) (.o (.p .z (.p (.o .z) .z)))))) false)]⟩)]⟩)),
 (18,(⟨[(0,.keep),(2,.keep),(4,.keep),(5,.keep),(87,.keep),(88,.keep),(89,.st (.int .i64) .z false)],[(2,.keep),(5,.st s15 (.p .z (.p .z (.p (.o .z) (.o (.p .z (.p (.o .z) .z)))))) false)]⟩,⟨[((.exit 2),⟨[(0,.keep),(2,.keep),(5,.keep)],[(2,.keep),(5,.st s15 (.p .z (.p .z (.p (.o .z) (.o (.p .z (.p (.o .z) .z)))))) false)]⟩),(.ret,⟨[(2,.keep),(3,.st .bool .z false)],[(2,.st s15 (.p .z (.p .z (.p (.o .z) (.o (.p .z (.p (.o .z) .z)))))) false)]⟩)]⟩))],[(7,⟨[(.normal,⟨[(0,.keep),(2,.keep),(4,.st (.list .str) (.o .z) false),(5,.keep)],[(2,.keep),(5,.st s15 (.p .z (.p .z (.p (.o .z) (.o (.p .z (.p (.o .z) .z)))))) false)]⟩)]⟩)],[(3,⟨[(0,.keep),(2,.keep),(4,.keep),(5,.keep),(32,.st .bool .z false)],[(2,.keep),(5,.keep)]⟩),
 (6,⟨[(0,.keep),(2,.keep),(4,.keep),(5,.keep),(43,.st .bool .z false)],[(2,.keep),(5,.keep)]⟩),
 (9,⟨[(0,.keep),(2,.keep),(4,.keep),(5,.keep),(58,.st .bool .z false)],[(2,.keep),(5,.keep)]⟩),
 (28,⟨[(2,.keep),(3,.st .bool .z false)],[(2,.st s15 (.p .z (.p .z (.p (.o .z) (.o (.p .z (.p (.o .z) .z)))))) false)]⟩)],[],[]⟩
def QaB (x0:List (List UInt8)×List (Int×Int)) (x1:Int):Option ((Int×Int×List (Int×Int)×List (Int×List Int×Int×Int))×Int):=
 (Qd8 x0 x1).bind fun y3=>
 bif (!decide ((y3.2:Int)=0)) then
 some ((0,(0,([],[]))),y3.2)
 else
 (Qg4 y3.1).bind fun y4=>
 bif (!y4.2) then
 some ((0,(0,([],[]))),5)
 else
 some (y4.1,0)
def Jb:Callee:=⟨[.v s1 .z,.v (.int .i64) .z],[(s15,(.p .z (.p .z (.p (.o .z) (.o (.p .z (.p (.o .z) .z))))))),((.int .i64),.z)],fun t=>QaB t.1 t.2.1,false⟩
def Qjl:Ctx:=⟨tys,[(90,JG),(91,Qeq)],[],[],[],[],[],[]⟩
def Qbp (x0:List (List UInt8)×List (Int×Int)) (x1:List Int):Option (List (Int×Int×List (Int×Int)×List (Int×List Int×Int×Int))):=
 (Qf (S:=List (Int×Int×List (Int×Int)×List (Int×List Int×Int×Int))×Int) (X:=List (Int×Int×List (Int×Int)×List (Int×List Int×Int×Int))) (fun s8=>
 bif (decide ((s8.2:Int)<(List.length x1:Int))) then
 bif (inB s8.2 x1) then
 (QaB x0 (List.getD x1 (Int.toNat s8.2) 0)).bind fun y9=>
 bif decide (List.length s8.1+List.length ([y9.1]:List (Int×Int×List (Int×Int)×List (Int×List Int×Int×Int)))<=LIM) then
 some (Sum.inl (List.append s8.1 ([y9.1]:List (Int×Int×List (Int×Int)×List (Int×List Int×Int×Int))),IntKind.wrap .i64 (s8.2+1)))
 else none
 else none
 else
 some (Sum.inr s8.1)) (([]:List (Int×Int×List (Int×Int)×List (Int×List Int×Int×Int))),0)).bind fun j10=>
 some j10
def JI:Callee:=⟨[.v s1 .z,.v (.list (.int .i64)) .z],[((.list s15),(.o (.p .z (.p .z (.p (.o .z) (.o (.p .z (.p (.o .z) .z))))))))],fun t=>Qbp t.1 t.2.1,false⟩
def Qib:Ctx:=⟨tys,[(45,Jb)],[],[(3,(⟨[(2,.keep),(5,.st (.list s15) (.o (.p .z (.p .z (.p (.o .z) (.o (.p .z (.p (.o .z) .z))))))) false),(11,.keep),(12,.keep),(13,.st (.int .i64) .z false)],[(2,.keep)]⟩,⟨[((.exit 0),⟨[(5,.st (.list s15) (.o (.p .z (.p .z (.p (.o .z) (.o (.p .z (.p (.o .z) .z))))))) false)],[]⟩)]⟩))],[],[],[],[]⟩
def QcA (x0:List (List UInt8)×List (Int×Int)) (x1:List UInt8):Option (Int):=
 (QW x0.1 x1).bind fun y2=>
 some (IntKind.wrap .i64 (y2+1))
def QaN:Callee:=⟨[.v s1 .z,.v .str .z],[((.int .i64),.z)],fun t=>QcA t.1 t.2.1,true⟩
def Qjg:Ctx:=⟨tys,[(95,Q7)],[],[],[],[],[],[]⟩
def Z7 (x0:List Int):Option (List Int):=
 bif List.isEmpty x0 then
 agree (some ([]:List Int)) (bif decide (List.length ([]:List Int)+List.length x0<=LIM) then
 some (List.append ([]:List Int) x0)
 else none)
 else
 bif decide (List.length ([]:List Int)+List.length x0<=LIM) then
 some (List.append ([]:List Int) x0)
 else none
def ZB:Callee:=⟨[.v (.list (.int .i64)) .z],[((.list (.int .i64)),(.o .z))],fun t=>Z7 t.1,true⟩
def QdQ:Ctx:=⟨tys,[],[],[],[],[],[],[]⟩
def Qiz (x0:List Int×Int×Int):Option (List Int×Int×Int):=
 (Z7 x0.1).bind fun y2=>
 some (y2,x0.2)
def Qds:Callee:=⟨[.v s2 .z],[(s2,(.p (.o .z) .z))],fun t=>Qiz t.1,true⟩
def QnK:Ctx:=⟨tys,[(92,ZB)],[],[],[],[],[],[]⟩
def Qg2 (x0:Int×List Int×Int×Int):Option (Int×List Int×Int×Int):=
 (Qiz x0.2).bind fun y2=>
 some (x0.1,y2)
def Qee:Callee:=⟨[.v s3 .z],[(s3,(.p .z (.p (.o .z) .z)))],fun t=>Qg2 t.1,true⟩
def QpA:Ctx:=⟨tys,[(207,Qds)],[],[],[],[],[],[]⟩
def QeY (x0:List ((Int×Int)×(Int×List Int×Int×Int)×Int×Bool)):Option (List ((Int×Int)×(Int×List Int×Int×Int)×Int×Bool)):=
 (Qf (S:=List ((Int×Int)×(Int×List Int×Int×Int)×Int×Bool)×Int) (X:=List ((Int×Int)×(Int×List Int×Int×Int)×Int×Bool)) (fun s8=>
 bif (decide ((s8.2:Int)<(List.length x0:Int))) then
 bif (inB s8.2 x0) then
 (Qg2 (List.getD x0 (Int.toNat s8.2) ((0,0),((0,([],(0,0))),(0,false)))).2.1).bind fun y9=>
 bif decide (List.length s8.1+List.length ([((List.getD x0 (Int.toNat s8.2) ((0,0),((0,([],(0,0))),(0,false)))).1,(y9,(List.getD x0 (Int.toNat s8.2) ((0,0),((0,([],(0,0))),(0,false)))).2.2))]:List ((Int×Int)×(Int×List Int×Int×Int)×Int×Bool))<=LIM) then
 some (Sum.inl (List.append s8.1 ([((List.getD x0 (Int.toNat s8.2) ((0,0),((0,([],(0,0))),(0,false)))).1,(y9,(List.getD x0 (Int.toNat s8.2) ((0,0),((0,([],(0,0))),(0,false)))).2.2))]:List ((Int×Int)×(Int×List Int×Int×Int)×Int×Bool)),IntKind.wrap .i64 (s8.2+1)))
 else none
 else none
 else
 some (Sum.inr s8.1)) (([]:List ((Int×Int)×(Int×List Int×Int×Int)×Int×Bool)),0)).bind fun j10=>
 some j10
def QcB:Callee:=⟨[.v (.list s6) .z],[((.list s6),(.o (.p .z (.p (.p .z (.p (.o .z) .z)) .z))))],fun t=>QeY t.1,true⟩
def QkW:Ctx:=⟨tys,[(157,Qee)],[],[(3,(⟨[(3,.st (.list s6) (.o (.p .z (.p (.p .z (.p (.o .z) .z)) .z))) false),(7,.keep),(8,.keep),(9,.st (.int .i64) .z false)],[]⟩,⟨[((.exit 0),⟨[(3,.st (.list s6) (.o (.p .z (.p (.p .z (.p (.o .z) .z)) .z))) false)],[]⟩)]⟩))],[],[],[],[]⟩
def Yj (x0:List ((Int×Int)×(Int×List Int×Int×Int)×Int×Bool)) (x1:((Int×Int)×(Int×List Int×Int×Int)×Int×Bool)->((Int×Int)×(Int×List Int×Int×Int)×Int×Bool)->Option Int):Option (List ((Int×Int)×(Int×List Int×Int×Int)×Int×Bool)):=
 Qk8 x0 x1
def J7:Callee:=⟨[.mu (.list s6) (.o (.p .z (.p (.p .z (.p (.o .z) .z)) .z))) (.o (.p .z (.p (.p .z (.p (.o .z) .z)) .z))),.v (.fn2 s6 s6 (.int .i64)) .z],[],fun t=>Yj t.1 t.2.1,true⟩
def Y9 (x0:(Int×Int)×(Int×List Int×Int×Int)×Int×Bool) (x1:(Int×Int)×(Int×List Int×Int×Int)×Int×Bool):Option (Int):=
 (Jn x0.1 x1.1).bind fun y2=>
 some y2
def QbQ:Callee:=⟨[.v s6 .z,.v s6 .z],[((.int .i64),.z)],fun t=>Y9 t.1 t.2.1,true⟩
def Qkq:Ctx:=⟨tys,[(150,Yx)],[],[],[],[],[],[]⟩
def QgL (x0:List ((Int×Int)×(Int×List Int×Int×Int)×Int×Bool)):Option (List ((Int×Int)×(Int×List Int×Int×Int)×Int×Bool)):=
 (Yj x0 (fun (a5:(Int×Int)×(Int×List Int×Int×Int)×Int×Bool) (a6:(Int×Int)×(Int×List Int×Int×Int)×Int×Bool)=>(Y9 a5 a6).bind fun r7=>some r7)).bind fun y8=>
 some y8
def Qem:Callee:=⟨[.v (.list s6) (.o (.p .z (.p (.p .z (.p (.o .z) .z)) .z)))],[((.list s6),(.o (.p .z (.p (.p .z (.p (.o .z) .z)) .z))))],fun t=>QgL t.1,true⟩
def Qpm:Ctx:=⟨tys,[(208,J7),(209,QbQ)],[],[],[],[],[],[]⟩
def Zf (x0:List ((Int×Int)×(Int×List Int×Int×Int)×Int×Bool)) (x1:Int×Int) (x2:((Int×Int)×(Int×List Int×Int×Int)×Int×Bool)->(Int×Int)->Option Int):Option (Int×Bool):=
 (Qf (S:=Int×Int) (X:=Int) (fun s16=>
 bif (decide ((s16.1:Int)<s16.2)) then
 bif (inB (IntKind.wrap .i64 (Int.fdiv (IntKind.wrap .u64 (IntKind.wrap .i64 (s16.1+s16.2))) (2 ^ 1))) x0) then
 (x2 (List.getD x0 (Int.toNat (IntKind.wrap .i64 (Int.fdiv (IntKind.wrap .u64 (IntKind.wrap .i64 (s16.1+s16.2))) (2 ^ 1)))) ((0,0),((0,([],(0,0))),(0,false)))) x1).bind fun y17=>
 (bif (decide ((y17:Int)<0)) then
 some (IntKind.wrap .i64 ((IntKind.wrap .i64 (Int.fdiv (IntKind.wrap .u64 (IntKind.wrap .i64 (s16.1+s16.2))) (2 ^ 1)))+1),s16.2)
 else
 some (s16.1,IntKind.wrap .i64 (Int.fdiv (IntKind.wrap .u64 (IntKind.wrap .i64 (s16.1+s16.2))) (2 ^ 1))):Option (Int×Int)).bind fun j18=>
 some (Sum.inl (j18.1,j18.2))
 else none
 else
 some (Sum.inr s16.1)) (0,(List.length x0:Int))).bind fun j19=>
 (bif (decide ((j19:Int)<(List.length x0:Int))) then
 bif (inB j19 x0) then
 (x2 (List.getD x0 (Int.toNat j19) ((0,0),((0,([],(0,0))),(0,false)))) x1).bind fun y21=>
 some (j19,decide ((y21:Int)=0))
 else none
 else
 some (j19,false):Option (Int×Bool)).bind fun j22=>
 some (j22.1,j22.2)
def Qu:Callee:=⟨[.v (.list s6) .z,.v s0 .z,.v (.fn2 s6 s0 (.int .i64)) .z],[((.int .i64),.z),(.bool,.z)],fun t=>Zf t.1 t.2.1 t.2.2.1,true⟩
def Z4:Ctx:=⟨tys,[],[],[(3,(⟨[(0,.keep),(2,.keep),(4,.keep),(8,.keep),(9,.st (.int .i64) .z false),(10,.st (.int .i64) .z false)],[(4,.keep)]⟩,⟨[((.exit 0),⟨[(0,.keep),(2,.keep),(4,.keep),(8,.keep),(9,.st (.int .i64) .z false)],[(4,.keep)]⟩)]⟩))],[(6,⟨[(.normal,⟨[(0,.keep),(2,.keep),(4,.keep),(8,.keep),(9,.st (.int .i64) .z false),(10,.st (.int .i64) .z false)],[(4,.keep)]⟩)]⟩)],[(8,⟨[(6,.st (.int .i64) .z false),(7,.st .bool .z false)],[]⟩)],[],[]⟩
def Qcw (x0:(Int×Int)×(Int×List Int×Int×Int)×Int×Bool) (x1:Int×Int):Option (Int):=
 (Jn x0.1 x1).bind fun y2=>
 some y2
def Qaw:Callee:=⟨[.v s6 .z,.v s0 .z],[((.int .i64),.z)],fun t=>Qcw t.1 t.2.1,true⟩
def QiR:Ctx:=⟨tys,[(150,Yx)],[],[],[],[],[],[]⟩
def QcK (x0:List ((Int×Int)×(Int×List Int×Int×Int)×Int×Bool)) (x1:Int×Int):Option (Int×Bool):=
 (Zf x0 x1 (fun (a5:(Int×Int)×(Int×List Int×Int×Int)×Int×Bool) (a6:Int×Int)=>(Qcw a5 a6).bind fun r7=>some r7)).bind fun y8=>
 some (y8.1,y8.2)
def QcJ:Callee:=⟨[.v (.list s6) .z,.v s0 .z],[((.int .i64),.z),(.bool,.z)],fun t=>QcK t.1 t.2.1,true⟩
def Qlz:Ctx:=⟨tys,[(210,Qu),(211,Qaw)],[],[],[],[],[],[]⟩
def Qf4 (x0:List ((Int×Int)×(Int×List Int×Int×Int)×Int×Bool)) (x1:Int×Int×List (Int×Int)×List (Int×List Int×Int×Int)):Option (List ((Int×Int)×(Int×List Int×Int×Int)×Int×Bool)×Int):=
 (Qf (S:=List ((Int×Int)×(Int×List Int×Int×Int)×Int×Bool)×Int) (X:=(List ((Int×Int)×(Int×List Int×Int×Int)×Int×Bool))⊕(List ((Int×Int)×(Int×List Int×Int×Int)×Int×Bool)×Int)) (fun s12=>
 bif (decide ((s12.2:Int)<(List.length x1.2.2.1:Int))) then
 bif (inB s12.2 x1.2.2.1) then
 (QcK x0 (List.getD x1.2.2.1 (Int.toNat s12.2) (0,0))).bind fun y13=>
 bif (!y13.2) then
 some (Sum.inr (Sum.inr (([]:List ((Int×Int)×(Int×List Int×Int×Int)×Int×Bool)),4)))
 else
 bif (inB y13.1 x0) then
 bif decide (List.length s12.1+List.length ([List.getD x0 (Int.toNat y13.1) ((0,0),((0,([],(0,0))),(0,false)))]:List ((Int×Int)×(Int×List Int×Int×Int)×Int×Bool))<=LIM) then
 some (Sum.inl (List.append s12.1 ([List.getD x0 (Int.toNat y13.1) ((0,0),((0,([],(0,0))),(0,false)))]:List ((Int×Int)×(Int×List Int×Int×Int)×Int×Bool)),IntKind.wrap .i64 (s12.2+1)))
 else none
 else none
 else none
 else
 some (Sum.inr (Sum.inl s12.1))) (([]:List ((Int×Int)×(Int×List Int×Int×Int)×Int×Bool)),0)).bind fun j14=>
 Sum.elim (fun (j15:List ((Int×Int)×(Int×List Int×Int×Int)×Int×Bool))=>
 (QeY j15).bind fun y17=>
 (QgL y17).bind fun y18=>
 some (y18,0)) (fun (j16:List ((Int×Int)×(Int×List Int×Int×Int)×Int×Bool)×Int)=>
 some (j16.1,j16.2)) j14
def Qdf:Callee:=⟨[.v (.list s6) .z,.v s15 .z],[((.list s6),.z),((.int .i64),.z)],fun t=>Qf4 t.1 t.2.1,true⟩
def QmC:Ctx:=⟨tys,[(154,QcB),(158,Qem),(160,QcJ)],[],[(3,(⟨[(0,.keep),(6,.st (.list s6) (.o .z) false),(13,.keep),(14,.keep),(15,.st (.int .i64) .z false)],[]⟩,⟨[((.exit 0),⟨[(6,.st (.list s6) (.o .z) false)],[]⟩),(.ret,⟨[(4,.st (.list s6) (.o (.p .z (.p (.p .z (.p (.o .z) .z)) .z))) false),(5,.st (.int .i64) .z false)],[]⟩)]⟩))],[],[],[],[]⟩
def QgT (x0:(Int×Int)×(Int×List Int×Int×Int)×Int×Bool) (x1:Int):Option (Bool):=
 ((JE x0.2.2.1).bind fun y8=>
 bif y8 then
 (JE x1).bind fun y9=>
 bif y9 then
 bif (!x0.2.2.2) then
 some true
 else
 some (decide ((IntKind.wrap .i64 (x0.2.2.1+2):Int)<=x1))
 else
 some false
 else
 some false:Option (Bool)).bind fun j10=>
 some j10
def QeC:Callee:=⟨[.v s6 .z,.v (.int .i64) .z],[(.bool,.z)],fun t=>QgT t.1 t.2.1,true⟩
def Qo3:Ctx:=⟨tys,[(149,Jv)],[],[],[],[(1,⟨[(4,.st .bool .z false)],[]⟩)],[],[]⟩
def Ys (x0:List (List UInt8)×List (Int×Int)) (x1:Int) (x2:Int):Option (Bool):=
 (Q9 x0.2 (x1,x2)).bind fun y2=>
 some y2
def Yq:Callee:=⟨[.v s1 .z,.v (.int .i64) .z,.v (.int .i64) .z],[(.bool,.z)],fun t=>Ys t.1 t.2.1 t.2.2.1,true⟩
def Qhh:Ctx:=⟨tys,[(89,QQ)],[],[],[],[],[],[]⟩
def QaQ (x0:List (List UInt8)×List (Int×Int)) (x1:List Int×Int×Int) (x2:Int) (x3:Int):Option (Int):=
 bif (decide ((x3:Int)<x1.2.2)) then
 some 9
 else
 (Qf (S:=Int×Int) (X:=Int) (fun s13=>
 bif (decide ((s13.2:Int)<(List.length x1.1:Int))) then
 bif (inB s13.2 x1.1) then
 (Ys x0 (List.getD x1.1 (Int.toNat s13.2) 0) x2).bind fun y14=>
 (bif y14 then
 some (IntKind.wrap .i64 (s13.1+1))
 else
 some s13.1:Option (Int)).bind fun j15=>
 some (Sum.inl (j15,IntKind.wrap .i64 (s13.2+1)))
 else none
 else
 some (Sum.inr s13.1)) (0,0)).bind fun j16=>
 bif (decide ((j16:Int)<x1.2.1)) then
 some 6
 else
 some 0
def Je:Callee:=⟨[.v s1 .z,.v s2 .z,.v (.int .i64) .z,.v (.int .i64) .z],[((.int .i64),.z)],fun t=>QaQ t.1 t.2.1 t.2.2.1 t.2.2.2.1,true⟩
def Qhz:Ctx:=⟨tys,[(112,Yq)],[],[(5,(⟨[(2,.keep),(4,.keep),(5,.keep),(9,.st (.int .i64) .z false),(17,.keep),(18,.keep),(19,.st (.int .i64) .z false)],[(4,.keep),(5,.keep)]⟩,⟨[((.exit 0),⟨[(5,.keep),(9,.st (.int .i64) .z false)],[(5,.keep)]⟩)]⟩))],[(8,⟨[(.normal,⟨[(2,.keep),(4,.keep),(5,.keep),(9,.st (.int .i64) .z false),(17,.keep),(18,.keep),(19,.keep)],[(4,.keep),(5,.keep)]⟩)]⟩)],[],[],[]⟩
def QhT (x0:List ((Int×Int)×(Int×List Int×Int×Int)×Int×Bool)):Option (Int):=
 (Qf (S:=Int×Int) (X:=Int) (fun s3=>
 bif (decide ((s3.2:Int)<(List.length x0:Int))) then
 bif (inB s3.2 x0) then
 some (Sum.inl (IntKind.wrap .i64 (s3.1+(List.getD x0 (Int.toNat s3.2) ((0,0),((0,([],(0,0))),(0,false)))).2.1.1),IntKind.wrap .i64 (s3.2+1)))
 else none
 else
 some (Sum.inr s3.1)) (0,0)).bind fun j4=>
 some j4
def Qfx:Callee:=⟨[.v (.list s6) .z],[((.int .i64),.z)],fun t=>QhT t.1,true⟩
def Qqa:Ctx:=⟨tys,[],[],[(3,(⟨[(3,.st (.int .i64) .z false),(6,.keep),(7,.keep),(8,.st (.int .i64) .z false)],[]⟩,⟨[((.exit 0),⟨[(3,.st (.int .i64) .z false)],[]⟩)]⟩))],[],[],[],[]⟩
def QgW (x0:Int×Int×List (Int×Int)×List (Int×List Int×Int×Int)):Option (Int):=
 (Qf (S:=Int×Int) (X:=Int) (fun s3=>
 bif (decide ((s3.2:Int)<(List.length x0.2.2.2:Int))) then
 bif (inB s3.2 x0.2.2.2) then
 some (Sum.inl (IntKind.wrap .i64 (s3.1+(List.getD x0.2.2.2 (Int.toNat s3.2) (0,([],(0,0)))).1),IntKind.wrap .i64 (s3.2+1)))
 else none
 else
 some (Sum.inr s3.1)) (0,0)).bind fun j4=>
 some j4
def QeG:Callee:=⟨[.v s15 .z],[((.int .i64),.z)],fun t=>QgW t.1,true⟩
def Qpp:Ctx:=⟨tys,[],[],[(3,(⟨[(3,.st (.int .i64) .z false),(7,.keep),(8,.keep),(9,.st (.int .i64) .z false)],[]⟩,⟨[((.exit 0),⟨[(3,.st (.int .i64) .z false)],[]⟩)]⟩))],[],[],[],[]⟩
def QaS (x0:List (List UInt8)×List (Int×Int)) (x1:List ((Int×Int)×(Int×List Int×Int×Int)×Int×Bool)) (x2:Int×Int×List (Int×Int)×List (Int×List Int×Int×Int)) (x3:Int):Option (Int×Int):=
 (Qek x2).bind fun y19=>
 bif (!decide ((y19.2:Int)=0)) then
 some (0,y19.2)
 else
 (QcA x0 y19.1).bind fun y20=>
 bif (decide ((y20:Int)=0)) then
 some (0,4)
 else
 (Qf4 x1 x2).bind fun y21=>
 bif (!decide ((y21.2:Int)=0)) then
 some (0,y21.2)
 else
 (Qf (S:=Int) (X:=(Unit)⊕(Int×Int)) (fun s26=>
 bif (decide ((s26:Int)<(List.length y21.1:Int))) then
 bif (inB s26 y21.1) then
 (QgT (List.getD y21.1 (Int.toNat s26) ((0,0),((0,([],(0,0))),(0,false)))) x3).bind fun y27=>
 bif (!y27) then
 some (Sum.inr (Sum.inr (0,9)))
 else
 (QaQ x0 (List.getD y21.1 (Int.toNat s26) ((0,0),((0,([],(0,0))),(0,false)))).2.1.2 y20 x3).bind fun y28=>
 bif (!decide ((y28:Int)=0)) then
 some (Sum.inr (Sum.inr (0,y28)))
 else
 some (Sum.inl (IntKind.wrap .i64 (s26+1)))
 else none
 else
 some (Sum.inr (Sum.inl ()))) 0).bind fun j29=>
 Sum.elim (fun (j30:Unit)=>
 (QhT y21.1).bind fun y32=>
 (QgW x2).bind fun y33=>
 (bif (decide ((x2.1:Int)=2)) then
 (Ys x0 x2.2.1 y20).bind fun y35=>
 some (!y35)
 else
 some false:Option (Bool)).bind fun j36=>
 bif j36 then
 some (0,6)
 else
 bif (decide ((IntKind.wrap .i64 (y32 - y33):Int)<0)) then
 some (0,8)
 else
 some (IntKind.wrap .i64 (y32 - y33),0)) (fun (j31:Int×Int)=>
 some (j31.1,j31.2)) j29
def Jo:Callee:=⟨[.v s1 .z,.v (.list s6) .z,.v s15 .z,.v (.int .i64) .z],[((.int .i64),.z),((.int .i64),.z)],fun t=>QaS t.1 t.2.1 t.2.2.1 t.2.2.2.1,false⟩
def Qho:Ctx:=⟨tys,[(53,QaN),(106,Qcg),(107,Qdf),(108,QeC),(109,Je),(110,Qfx),(111,QeG),(112,Yq)],[],[(11,(⟨[(3,.keep),(4,.keep),(6,.keep),(12,.keep),(13,.keep),(40,.keep),(41,.keep),(42,.st (.int .i64) .z false)],[(4,.keep),(6,.keep)]⟩,⟨[((.exit 0),⟨[(4,.keep),(6,.keep),(12,.keep),(13,.keep)],[(4,.keep),(6,.keep)]⟩),(.ret,⟨[(8,.st (.int .i64) .z false),(9,.st (.int .i64) .z false)],[]⟩)]⟩))],[],[(20,⟨[(17,.keep),(66,.st .bool .z false)],[]⟩)],[],[]⟩
def Qb9 (x0:Int×Int×List ((Int×Int)×(Int×List Int×Int×Int)×Int×Bool)×List (Int×Int×Int)):Option (Int):=
 some (min 40 (IntKind.wrap .i64 (x0.2.1+1)))
def YK:Callee:=⟨[.v s10 .z],[((.int .i64),.z)],fun t=>Qb9 t.1,true⟩
def Qgn:Ctx:=⟨tys,[],[],[],[],[],[],[]⟩
def Qaz (x0:List Int) (x1:Int):Option (Int):=
 (Qf (S:=Int) (X:=(Unit)⊕(Int)) (fun s5=>
 bif (decide ((s5:Int)<(List.length x0:Int))) then
 bif (inB s5 x0) then
 bif (decide ((x1:Int)=List.getD x0 (Int.toNat s5) 0)) then
 some (Sum.inr (Sum.inr s5))
 else
 some (Sum.inl (IntKind.wrap .i64 (s5+1)))
 else none
 else
 some (Sum.inr (Sum.inl ()))) 0).bind fun j6=>
 Sum.elim (fun (j7:Unit)=>
 some (-1)) (fun (j8:Int)=>
 some j8) j6
def Z8:Callee:=⟨[.v (.list (.int .i64)) .z,.v (.int .i64) .z],[((.int .i64),.z)],fun t=>Qaz t.1 t.2.1,true⟩
def QdU:Ctx:=⟨tys,[],[],[(2,(⟨[(0,.keep),(1,.keep),(7,.keep),(8,.st (.int .i64) .z false)],[]⟩,⟨[((.exit 0),⟨[],[]⟩),(.ret,⟨[(4,.st (.int .i64) .z false)],[]⟩)]⟩))],[],[],[],[]⟩
def Yn (x0:List Int) (x1:Int):Option (Bool):=
 (Qaz x0 x1).bind fun y2=>
 some (decide ((0:Int)<=y2))
def ZK:Callee:=⟨[.v (.list (.int .i64)) .z,.v (.int .i64) .z],[(.bool,.z)],fun t=>Yn t.1 t.2.1,true⟩
def QcC:Ctx:=⟨tys,[(129,Z8)],[],[],[],[],[],[]⟩
def YC (x0:List (Int×Int×List (Int×Int)×List (Int×List Int×Int×Int))) (x1:(Int×Int×List (Int×Int)×List (Int×List Int×Int×Int))->Option Bool):Option (Int):=
 (Qf (S:=Int) (X:=(Unit)⊕(Int)) (fun s10=>
 bif (decide ((s10:Int)<(List.length x0:Int))) then
 bif (inB s10 x0) then
 (x1 (List.getD x0 (Int.toNat s10) (0,(0,([],[]))))).bind fun y11=>
 bif y11 then
 some (Sum.inr (Sum.inr s10))
 else
 some (Sum.inl (IntKind.wrap .i64 (s10+1)))
 else none
 else
 some (Sum.inr (Sum.inl ()))) 0).bind fun j12=>
 Sum.elim (fun (j13:Unit)=>
 some (-1)) (fun (j14:Int)=>
 some j14) j12
def Zk:Callee:=⟨[.v (.list s15) .z,.v (.fn1 s15 .bool .z) .z],[((.int .i64),.z)],fun t=>YC t.1 t.2.1,true⟩
def Qa0:Ctx:=⟨tys,[],[],[(2,(⟨[(0,.keep),(1,.keep),(7,.keep),(8,.st (.int .i64) .z false)],[]⟩,⟨[((.exit 0),⟨[],[]⟩),(.ret,⟨[(4,.st (.int .i64) .z false)],[]⟩)]⟩))],[],[],[],[]⟩
def QR (x0:List (Int×Int×List (Int×Int)×List (Int×List Int×Int×Int))) (x1:(Int×Int×List (Int×Int)×List (Int×List Int×Int×Int))->Option Bool):Option (Bool):=
 (YC x0 x1).bind fun y2=>
 some (decide ((0:Int)<=y2))
def QP:Callee:=⟨[.v (.list s15) .z,.v (.fn1 s15 .bool .z) .z],[(.bool,.z)],fun t=>QR t.1 t.2.1,true⟩
def Qab:Ctx:=⟨tys,[(130,Zk)],[],[],[],[],[],[]⟩
def Yo (x0:List (Int×Int)) (x1:(Int×Int)->Option Bool):Option (Int):=
 (Qf (S:=Int) (X:=(Unit)⊕(Int)) (fun s10=>
 bif (decide ((s10:Int)<(List.length x0:Int))) then
 bif (inB s10 x0) then
 (x1 (List.getD x0 (Int.toNat s10) (0,0))).bind fun y11=>
 bif y11 then
 some (Sum.inr (Sum.inr s10))
 else
 some (Sum.inl (IntKind.wrap .i64 (s10+1)))
 else none
 else
 some (Sum.inr (Sum.inl ()))) 0).bind fun j12=>
 Sum.elim (fun (j13:Unit)=>
 some (-1)) (fun (j14:Int)=>
 some j14) j12
def Zd:Callee:=⟨[.v (.list s0) .z,.v (.fn1 s0 .bool .z) .z],[((.int .i64),.z)],fun t=>Yo t.1 t.2.1,true⟩
def Qao:Ctx:=⟨tys,[],[],[(2,(⟨[(0,.keep),(1,.keep),(7,.keep),(8,.st (.int .i64) .z false)],[]⟩,⟨[((.exit 0),⟨[],[]⟩),(.ret,⟨[(4,.st (.int .i64) .z false)],[]⟩)]⟩))],[],[],[],[]⟩
def Zt (x0:List (Int×Int)) (x1:(Int×Int)->Option Bool):Option (Bool):=
 (Yo x0 x1).bind fun y2=>
 some (decide ((0:Int)<=y2))
def Q3:Callee:=⟨[.v (.list s0) .z,.v (.fn1 s0 .bool .z) .z],[(.bool,.z)],fun t=>Zt t.1 t.2.1,true⟩
def JF:Ctx:=⟨tys,[(139,Zd)],[],[],[],[],[],[]⟩
def QhU (x0:Int×Int) (x1:Int×Int×List (Int×Int)×List (Int×List Int×Int×Int)):Option (Bool):=
 (Qx x1.2.2.1 x0).bind fun y2=>
 some y2
def Qco:Callee:=⟨[.v s0 .z,.rp s15 false],[(.bool,.z)],fun t=>QhU t.1 t.2.1,true⟩
def Qlp:Ctx:=⟨tys,[(84,Qy)],[],[],[],[],[],[]⟩
def Qh0 (x0:Int×Int×List (Int×Int)×List (Int×List Int×Int×Int)) (x1:Int×Int×List (Int×Int)×List (Int×List Int×Int×Int)):Option (Bool):=
 (Zt x0.2.2.1 (fun (a4:Int×Int)=>(QhU a4 x1).bind fun r5=>some r5)).bind fun y6=>
 some y6
def QfF:Callee:=⟨[.v s15 .z,.v s15 .z],[(.bool,.z)],fun t=>Qh0 t.1 t.2.1,true⟩
def QqR:Ctx:=⟨tys,[(86,Q3),(87,Qco)],[],[],[],[],[],[]⟩
def Zy (x0:List (Int×Int×Int)):Option (List (Int×Int×Int)):=
 bif List.isEmpty x0 then
 agree (some ([]:List (Int×Int×Int))) (bif decide (List.length ([]:List (Int×Int×Int))+List.length x0<=LIM) then
 some (List.append ([]:List (Int×Int×Int)) x0)
 else none)
 else
 bif decide (List.length ([]:List (Int×Int×Int))+List.length x0<=LIM) then
 some (List.append ([]:List (Int×Int×Int)) x0)
 else none
def Q5:Callee:=⟨[.v (.list s7) .z],[((.list s7),(.o .z))],fun t=>Zy t.1,true⟩
def JX:Ctx:=⟨tys,[],[],[],[],[],[],[]⟩
def Zb (x0:List (Int×Int×Int)) (x1:Int) (x2:(Int×Int×Int)->Int->Option Int):Option (Int×Bool):=
 (Qf (S:=Int×Int) (X:=Int) (fun s16=>
 bif (decide ((s16.1:Int)<s16.2)) then
 bif (inB (IntKind.wrap .i64 (Int.fdiv (IntKind.wrap .u64 (IntKind.wrap .i64 (s16.1+s16.2))) (2 ^ 1))) x0) then
 (x2 (List.getD x0 (Int.toNat (IntKind.wrap .i64 (Int.fdiv (IntKind.wrap .u64 (IntKind.wrap .i64 (s16.1+s16.2))) (2 ^ 1)))) (0,(0,0))) x1).bind fun y17=>
 (bif (decide ((y17:Int)<0)) then
 some (IntKind.wrap .i64 ((IntKind.wrap .i64 (Int.fdiv (IntKind.wrap .u64 (IntKind.wrap .i64 (s16.1+s16.2))) (2 ^ 1)))+1),s16.2)
 else
 some (s16.1,IntKind.wrap .i64 (Int.fdiv (IntKind.wrap .u64 (IntKind.wrap .i64 (s16.1+s16.2))) (2 ^ 1))):Option (Int×Int)).bind fun j18=>
 some (Sum.inl (j18.1,j18.2))
 else none
 else
 some (Sum.inr s16.1)) (0,(List.length x0:Int))).bind fun j19=>
 (bif (decide ((j19:Int)<(List.length x0:Int))) then
 bif (inB j19 x0) then
 (x2 (List.getD x0 (Int.toNat j19) (0,(0,0))) x1).bind fun y21=>
 some (j19,decide ((y21:Int)=0))
 else none
 else
 some (j19,false):Option (Int×Bool)).bind fun j22=>
 some (j22.1,j22.2)
def Qt:Callee:=⟨[.v (.list s7) .z,.v (.int .i64) .z,.v (.fn2 s7 (.int .i64) (.int .i64)) .z],[((.int .i64),.z),(.bool,.z)],fun t=>Zb t.1 t.2.1 t.2.2.1,true⟩
def ZV:Ctx:=⟨tys,[],[],[(3,(⟨[(0,.keep),(1,.keep),(2,.keep),(8,.keep),(9,.st (.int .i64) .z false),(10,.st (.int .i64) .z false)],[]⟩,⟨[((.exit 0),⟨[(0,.keep),(1,.keep),(2,.keep),(8,.keep),(9,.st (.int .i64) .z false)],[]⟩)]⟩))],[(6,⟨[(.normal,⟨[(0,.keep),(1,.keep),(2,.keep),(8,.keep),(9,.st (.int .i64) .z false),(10,.st (.int .i64) .z false)],[]⟩)]⟩)],[(8,⟨[(6,.st (.int .i64) .z false),(7,.st .bool .z false)],[]⟩)],[],[]⟩
def Qbt (x0:Int×Int×Int) (x1:Int):Option (Int):=
 (YT x0.1 x1).bind fun y2=>
 some y2
def JM:Callee:=⟨[.v s7 .z,.v (.int .i64) .z],[((.int .i64),.z)],fun t=>Qbt t.1 t.2.1,true⟩
def QhR:Ctx:=⟨tys,[(186,YU)],[],[],[],[],[],[]⟩
def YO (x0:List (Int×Int×Int)) (x1:Int):Option (Int×Bool):=
 (Zb x0 x1 (fun (a5:Int×Int×Int) (a6:Int)=>(Qbt a5 a6).bind fun r7=>some r7)).bind fun y8=>
 some (y8.1,y8.2)
def JQ:Callee:=⟨[.v (.list s7) .z,.v (.int .i64) .z],[((.int .i64),.z),(.bool,.z)],fun t=>YO t.1 t.2.1,true⟩
def QjC:Ctx:=⟨tys,[(184,Qt),(185,JM)],[],[],[],[],[],[]⟩
def QM (x0:List (Int×Int×Int)) (x1:Int) (x2:Int):Option (List (Int×Int×Int)):=
 delS x0 x1 x2
def JC:Callee:=⟨[.v (.list s7) (.o .z),.v (.int .i64) .z,.v (.int .i64) .z],[((.list s7),(.o .z))],fun t=>QM t.1 t.2.1 t.2.2.1,true⟩
def Zg (x0:List (Int×Int×Int)) (x1:(Int×Int×Int)->Option Bool):Option (List (Int×Int×Int)):=
 (QY x0 x1).bind fun y10=>
 bif (decide ((y10:Int)=(-1))) then
 some x0
 else
 (Qf (S:=List (Int×Int×Int)×Int×Int) (X:=List (Int×Int×Int)×Int) (fun s15=>
 bif (decide ((s15.2.2:Int)<(List.length s15.1:Int))) then
 bif (inB s15.2.2 s15.1) then
 (x1 (List.getD s15.1 (Int.toNat s15.2.2) (0,(0,0)))).bind fun y16=>
 (bif (!y16) then
 bif (inB s15.2.1 s15.1) then
 some (List.set s15.1 (Int.toNat s15.2.1) (List.getD s15.1 (Int.toNat s15.2.2) (0,(0,0))),IntKind.wrap .i64 (s15.2.1+1))
 else none
 else
 some (s15.1,s15.2.1):Option (List (Int×Int×Int)×Int)).bind fun j17=>
 some (Sum.inl (j17.1,(j17.2,IntKind.wrap .i64 (s15.2.2+1))))
 else none
 else
 some (Sum.inr (s15.1,s15.2.1))) (x0,(y10,IntKind.wrap .i64 (y10+1)))).bind fun j18=>
 bif (QT j18.2 (List.length j18.1:Int) j18.1) then
 bif (QT 0 j18.2 (clr (s:=(.prod (.int .i64) (.prod (.int .i64) (.int .i64)))) j18.2 (List.length j18.1:Int) j18.1)) then
 some (List.take (Int.toNat (j18.2 - 0)) (List.drop (Int.toNat 0) (clr (s:=(.prod (.int .i64) (.prod (.int .i64) (.int .i64)))) j18.2 (List.length j18.1:Int) j18.1)))
 else none
 else none
def QU:Callee:=⟨[.v (.list s7) (.o .z),.v (.fn1 s7 .bool .z) .z],[((.list s7),(.o .z))],fun t=>Zg t.1 t.2.1,true⟩
def YZ:Ctx:=⟨tys,[(202,QF)],[],[(5,(⟨[(0,.st (.list s7) (.o .z) false),(1,.keep),(5,.st (.int .i64) .z false),(6,.st (.int .i64) .z false)],[]⟩,⟨[((.exit 0),⟨[(0,.st (.list s7) (.o .z) false),(5,.st (.int .i64) .z false)],[]⟩)]⟩))],[(9,⟨[(.normal,⟨[(0,.st (.list s7) (.o .z) false),(1,.keep),(5,.st (.int .i64) .z false),(6,.keep)],[]⟩)]⟩)],[],[],[]⟩
def Ya (x0:List (Int×Int×Int)) (x1:Int) (x2:List (Int×Int×Int)):Option (List (Int×Int×Int)):=
 insS x0 x1 x2
def Jw:Callee:=⟨[.v (.list s7) (.o .z),.v (.int .i64) .z,.v (.list s7) (.o .z)],[((.list s7),(.o .z))],fun t=>Ya t.1 t.2.1 t.2.2.1,true⟩
def Qdz (x0:Int×Int×Int) (x1:Int×Int×List (Int×Int)×List (Int×List Int×Int×Int)):Option (Bool):=
 (Qx x1.2.2.1 x0.2).bind fun y2=>
 some y2
def Jm:Callee:=⟨[.v s7 .z,.rp s15 false],[(.bool,.z)],fun t=>Qdz t.1 t.2.1,true⟩
def Qhy:Ctx:=⟨tys,[(84,Qy)],[],[],[],[],[],[]⟩
def Qdw (x0:Int×Int×Int) (x1:Int×Int):Option (Bool):=
 some (Sh.beq (.prod (.int .i64) (.int .i64)) x0.2 x1)
def Jc:Callee:=⟨[.v s7 .z,.rp s0 false],[(.bool,.z)],fun t=>Qdw t.1 t.2.1,true⟩
def Qhl:Ctx:=⟨tys,[],[],[],[],[],[],[]⟩
def Qcm (x0:List (Int×Int×Int)) (x1:Int×Int×List (Int×Int)×List (Int×List Int×Int×Int)) (x2:Int):Option (List (Int×Int×Int)×Int):=
 (QgB x2).bind fun y22=>
 bif (!y22) then
 some (([]:List (Int×Int×Int)),3)
 else
 (Zy x0).bind fun y23=>
 (bif (decide ((x1.1:Int)=2)) then
 (YO y23 x1.2.1).bind fun y26=>
 bif (!y26.2) then
 some (Sum.inr (([]:List (Int×Int×Int)),4))
 else
 (QM y23 y26.1 (IntKind.wrap .i64 (y26.1+1))).bind fun y27=>
 some (Sum.inl y27)
 else
 some (Sum.inl y23):Option ((List (Int×Int×Int))⊕(List (Int×Int×Int)×Int))).bind fun j28=>
 Sum.elim (fun (j29:List (Int×Int×Int))=>
 (Zg j29 (fun (a31:Int×Int×Int)=>(Qdz a31 x1).bind fun r32=>some r32)).bind fun y33=>
 bif (!decide ((x1.1:Int)=1)) then
 some (y33,0)
 else
 (YO y33 x1.2.1).bind fun y34=>
 (bif y34.2 then
 some true
 else
 (QN y33 (fun (a38:Int×Int×Int)=>(Qdw a38 (x2,0)).bind fun r39=>some r39)).bind fun y40=>
 some y40:Option (Bool)).bind fun j41=>
 bif j41 then
 some (([]:List (Int×Int×Int)),7)
 else
 bif (decide (((List.length y33:Int):Int)=8)) then
 some (([]:List (Int×Int×Int)),2)
 else
 (Ya y33 y34.1 ([(x1.2.1,(x2,0))]:List (Int×Int×Int))).bind fun y42=>
 some (y42,0)) (fun (j30:List (Int×Int×Int)×Int)=>
 some (j30.1,j30.2)) j28
def QaG:Callee:=⟨[.v (.list s7) .z,.v s15 .z,.v (.int .i64) .z],[((.list s7),(.o .z)),((.int .i64),.z)],fun t=>Qcm t.1 t.2.1 t.2.2.1,true⟩
def Qi5:Ctx:=⟨tys,[(93,QeM),(102,Q5),(133,JQ),(151,QA),(179,JC),(180,QU),(181,Jm),(182,Jc),(183,Jw)],[],[],[(5,⟨[(.normal,⟨[(2,.keep),(4,.keep),(8,.st (.list s7) (.o .z) false)],[(4,.keep)]⟩),(.ret,⟨[(6,.st (.list s7) (.o .z) false),(7,.st (.int .i64) .z false)],[]⟩)]⟩)],[(14,⟨[(4,.keep),(8,.keep),(11,.keep),(12,.keep),(52,.st .bool .z false)],[(4,.keep),(11,.keep)]⟩)],[],[]⟩
def QaH (x0:Int×Int×List (Int×Int)×List (Int×List Int×Int×Int)):Option (Bool):=
 some (!decide ((x0.1:Int)=0))
def Z5:Callee:=⟨[.v s15 .z],[(.bool,.z)],fun t=>QaH t.1,true⟩
def QdM:Ctx:=⟨tys,[],[],[],[],[],[],[]⟩
def Qax (x0:Int×Int×List (Int×Int)×List (Int×List Int×Int×Int)) (x1:Int×Int):Option (Bool):=
 (Qx x0.2.2.1 x1).bind fun y2=>
 some y2
def Z6:Callee:=⟨[.v s15 .z,.rp s0 false],[(.bool,.z)],fun t=>Qax t.1 t.2.1,true⟩
def QdZ:Ctx:=⟨tys,[(84,Qy)],[],[],[],[],[],[]⟩
def Js (x0:Int×Int×List ((Int×Int)×(Int×List Int×Int×Int)×Int×Bool)×List (Int×Int×Int)) (x1:Int×Int×List (Int×Int)×List (Int×List Int×Int×Int)) (x2:Int) (x3:List (Int×Int×List (Int×Int)×List (Int×List Int×Int×Int))):Option (Int):=
 bif (decide ((x1.1:Int)=0)) then
 some 0
 else
 (Qcm x0.2.2.2 x1 x2).bind fun y16=>
 bif (!decide ((y16.2:Int)=0)) then
 some 10
 else
 (QR x3 (fun (a17:Int×Int×List (Int×Int)×List (Int×List Int×Int×Int))=>(QaH a17).bind fun r18=>some r18)).bind fun y19=>
 bif y19 then
 some 10
 else
 (bif (decide ((x1.1:Int)=2)) then
 (YO x0.2.2.2 x1.2.1).bind fun y24=>
 bif (inB y24.1 x0.2.2.2) then
 (QR x3 (fun (a25:Int×Int×List (Int×Int)×List (Int×List Int×Int×Int))=>(Qax a25 (List.getD x0.2.2.2 (Int.toNat y24.1) (0,(0,0))).2).bind fun r26=>some r26)).bind fun y27=>
 bif y27 then
 some (Sum.inr 10)
 else
 some (Sum.inl ())
 else none
 else
 some (Sum.inl ()):Option ((Unit)⊕(Int))).bind fun j28=>
 Sum.elim (fun (j29:Unit)=>
 some 0) (fun (j30:Int)=>
 some j30) j28
def Yu:Callee:=⟨[.v s10 .z,.v s15 .z,.v (.int .i64) .z,.v (.list s15) .z],[((.int .i64),.z)],fun t=>Js t.1 t.2.1 t.2.2.1 t.2.2.2.1,true⟩
def QfH:Ctx:=⟨tys,[(74,QP),(131,QaG),(132,Z5),(133,JQ),(134,Z6)],[],[],[(9,⟨[(.normal,⟨[],[]⟩),(.ret,⟨[(8,.st (.int .i64) .z false)],[]⟩)]⟩)],[],[],[]⟩
def Qae (x0:Int×Int×List (Int×Int)×List (Int×List Int×Int×Int)) (x1:Int×Int×List (Int×Int)×List (Int×List Int×Int×Int)):Option (Bool):=
 (Qh0 x0 x1).bind fun y2=>
 some y2
def ZY:Callee:=⟨[.v s15 .z,.rp s15 false],[(.bool,.z)],fun t=>Qae t.1 t.2.1,true⟩
def QdI:Ctx:=⟨tys,[(43,QfF)],[],[],[],[],[],[]⟩
def ZN (x0:List (List UInt8)×List (Int×Int)) (x1:Int×Int×List ((Int×Int)×(Int×List Int×Int×Int)×Int×Bool)×List (Int×Int×Int)) (x2:List Int) (x3:Int):Option (Int):=
 (QaB x0 x3).bind fun y15=>
 bif (!decide ((y15.2:Int)=0)) then
 some y15.2
 else
 (Qb9 x1).bind fun y16=>
 (QaS x0 x1.2.2.1 y15.1 y16).bind fun y17=>
 bif (!decide ((y17.2:Int)=0)) then
 some y17.2
 else
 (Qbp x0 x2).bind fun y18=>
 ((Yn x2 x3).bind fun y23=>
 bif y23 then
 some true
 else
 (QR y18 (fun (a24:Int×Int×List (Int×Int)×List (Int×List Int×Int×Int))=>(Qae a24 y15.1).bind fun r25=>some r25)).bind fun y26=>
 some y26:Option (Bool)).bind fun j27=>
 bif j27 then
 some 7
 else
 (Js x1 y15.1 x3 y18).bind fun y28=>
 some y28
def ZO:Callee:=⟨[.v s1 .z,.v s10 .z,.v (.list (.int .i64)) .z,.v (.int .i64) .z],[((.int .i64),.z)],fun t=>ZN t.1 t.2.1 t.2.2.1 t.2.2.2.1,false⟩
def Qe6:Ctx:=⟨tys,[(45,Jb),(58,JI),(59,Jo),(60,YK),(73,ZK),(74,QP),(75,ZY),(76,Yu)],[],[],[],[(8,⟨[(3,.keep),(5,.keep),(9,.keep),(13,.keep),(46,.st .bool .z false)],[(5,.keep),(9,.keep)]⟩)],[],[]⟩
def Jl (x0:List (List UInt8)×List (Int×Int)) (x1:Int×Int×List ((Int×Int)×(Int×List Int×Int×Int)×Int×Bool)×List (Int×Int×Int)) (x2:List Int) (x3:Int):Option (List Int×Int):=
 (ZN x0 x1 x2 x3).bind fun y3=>
 bif (!decide ((y3:Int)=0)) then
 some (([]:List Int),y3)
 else
 bif (decide (((List.length x2:Int):Int)=8)) then
 some (([]:List Int),2)
 else
 (Z7 x2).bind fun y4=>
 bif decide (List.length y4+List.length ([x3]:List Int)<=LIM) then
 some (List.append y4 ([x3]:List Int),0)
 else none
def Jd:Callee:=⟨[.v s1 .z,.v s10 .z,.v (.list (.int .i64)) .z,.v (.int .i64) .z],[((.list (.int .i64)),(.o .z)),((.int .i64),.z)],fun t=>Jl t.1 t.2.1 t.2.2.1 t.2.2.2.1,false⟩
def Qhg:Ctx:=⟨tys,[(35,ZO),(92,ZB)],[],[],[],[],[],[]⟩
def QbX (x0:List (List UInt8)×List (Int×Int)) (x1:Int×Int×List ((Int×Int)×(Int×List Int×Int×Int)×Int×Bool)×List (Int×Int×Int)) (x2:List Int):Option (Int):=
 (QbU x0 x1 x2).bind fun y9=>
 bif (!decide ((y9:Int)=0)) then
 some y9
 else
 (Qf (S:=Int) (X:=(Unit)⊕(Int)) (fun s12=>
 bif (decide ((s12:Int)<(List.length x2:Int))) then
 bif (inB s12 x2) then
 bif (QT 0 s12 x2) then
 (ZN x0 x1 (cut 0 s12 x2) (List.getD x2 (Int.toNat s12) 0)).bind fun y13=>
 bif (!decide ((y13:Int)=0)) then
 some (Sum.inr (Sum.inr y13))
 else
 some (Sum.inl (IntKind.wrap .i64 (s12+1)))
 else none
 else none
 else
 some (Sum.inr (Sum.inl ()))) 0).bind fun j14=>
 Sum.elim (fun (j15:Unit)=>
 some 0) (fun (j16:Int)=>
 some j16) j14
def QbL:Callee:=⟨[.v s1 .z,.v s10 .z,.v (.list (.int .i64)) .z],[((.int .i64),.z)],fun t=>QbX t.1 t.2.1 t.2.2.1,false⟩
def QkI:Ctx:=⟨tys,[(30,Qam),(35,ZO)],[],[(5,(⟨[(2,.keep),(3,.keep),(4,.keep),(18,.keep),(19,.keep),(20,.st (.int .i64) .z false)],[(3,.keep),(4,.keep)]⟩,⟨[((.exit 0),⟨[],[]⟩),(.ret,⟨[(6,.st (.int .i64) .z false)],[]⟩)]⟩))],[],[],[],[]⟩
def QFD (x0:List Int):Option ((List (List UInt8)×List (Int×Int))×(Int×Int×List ((Int×Int)×(Int×List Int×Int×Int)×Int×Bool)×List (Int×Int×Int))×List Int×Int):=
 (Qh3 x0).bind fun y10=>
 (Qga y10).bind fun y11=>
 (JZ y11.2.2.2.2 ([1,61,2]:List Int)).bind fun y12=>
 (bif (decide ((0:Int)<(List.length y11.2.2.2.1:Int))) then
 (QO y12.2 8).bind fun y14=>
 some (!y14.1,y14.2)
 else
 some (false,y12.2):Option (Bool×List Int×Int)).bind fun j15=>
 (bif j15.1 then
 (Qp j15.2 (List.length y11.2.2.2.1:Int)).bind fun y17=>
 bif (inB y17.1 y11.2.2.2.1) then
 some (List.getD y11.2.2.2.1 (Int.toNat y17.1) 0)
 else none
 else
 some y12.1:Option (Int)).bind fun j18=>
 some (y11.1,(y11.2.1,(y11.2.2.1,j18)))
def QFK:Callee:=⟨[.v (.list (.int .u8)) .z],[(s1,.z),(s10,.z),((.list (.int .i64)),(.o .z)),((.int .i64),.z)],fun t=>QFD t.1,false⟩
def QGd:Ctx:=⟨tys,[(28,Qdj),(29,Z3),(47,JT),(62,Zq)],[],[],[(5,⟨[(.normal,⟨[(2,.keep),(3,.keep),(7,.keep),(8,.keep),(9,.keep),(11,.st (.int .i64) .z false)],[(2,.keep),(3,.keep),(7,.keep),(8,.keep)]⟩)]⟩)],[(4,⟨[(2,.keep),(3,.keep),(6,.keep),(7,.keep),(8,.keep),(9,.keep),(10,.keep),(11,.keep),(31,.st .bool .z false)],[(2,.keep),(3,.keep),(7,.keep),(8,.keep),(13,.st s29 .z false)]⟩)],[],[(27,QlA)]⟩
def QFv (x0:List Int):Option ((List (List UInt8)×List (Int×Int))×(Int×Int×List ((Int×Int)×(Int×List Int×Int×Int)×Int×Bool)×List (Int×Int×Int))×List Int×Int):=
 (QFD x0).bind fun y2=>
 some (y2.1,(y2.2.1,(y2.2.2.1,y2.2.2.2)))
def QFy:Callee:=⟨[.v (.list (.int .u8)) .z],[(s1,.z),(s10,.z),((.list (.int .i64)),(.o .z)),((.int .i64),.z)],fun t=>QFv t.1,false⟩
def QFV:Ctx:=⟨tys,[(36,QFK)],[],[],[],[],[],[]⟩
def QFx (x0:List (List UInt8)×List (Int×Int)) (x1:Int×Int×List ((Int×Int)×(Int×List Int×Int×Int)×Int×Bool)×List (Int×Int×Int)) (x2:List Int) (x3:Int):Option (Int×List Int×List Int):=
 (QaB x0 x3).bind fun y18=>
 bif (!decide ((y18.2:Int)=0)) then
 some (y18.2,([],[]))
 else
 (Qbp x0 x2).bind fun y19=>
 (Qf (S:=List Int×List Int×List (Int×Int×List (Int×Int)×List (Int×List Int×Int×Int))×Int) (X:=List Int×List Int) (fun s28=>
 bif (decide ((s28.2.2.2:Int)<(List.length y19:Int))) then
 bif (inB s28.2.2.2 s28.2.2.1) then
 (bif (inB s28.2.2.2 x2) then
 bif (decide ((List.getD x2 (Int.toNat s28.2.2.2) 0:Int)=x3)) then
 some true
 else
 (Qh0 (List.getD s28.2.2.1 (Int.toNat s28.2.2.2) (0,(0,([],[])))) y18.1).bind fun y30=>
 some y30
 else none:Option (Bool)).bind fun j31=>
 (bif j31 then
 bif (inB s28.2.2.2 x2) then
 bif decide (List.length s28.2.1+List.length ([List.getD x2 (Int.toNat s28.2.2.2) 0]:List Int)<=LIM) then
 some (s28.1,List.append s28.2.1 ([List.getD x2 (Int.toNat s28.2.2.2) 0]:List Int))
 else none
 else none
 else
 bif (inB s28.2.2.2 x2) then
 bif decide (List.length s28.1+List.length ([List.getD x2 (Int.toNat s28.2.2.2) 0]:List Int)<=LIM) then
 some (List.append s28.1 ([List.getD x2 (Int.toNat s28.2.2.2) 0]:List Int),s28.2.1)
 else none
 else none:Option (List Int×List Int)).bind fun j32=>
 some (Sum.inl (j32.1,(j32.2,(s28.2.2.1,IntKind.wrap .i64 (s28.2.2.2+1)))))
 else none
 else
 some (Sum.inr (s28.1,s28.2.1))) (([]:List Int),(([]:List Int),(y19,0)))).bind fun j33=>
 (Jl x0 x1 j33.1 x3).bind fun y34=>
 bif (!decide ((y34.2:Int)=0)) then
 some (y34.2,([],[]))
 else
 some (0,(j33.2,y34.1))
def QFw:Callee:=⟨[.v s1 .z,.v s10 .z,.v (.list (.int .i64)) .z,.v (.int .i64) .z],[(s12,(.p .z (.p (.o .z) (.o .z))))],fun t=>QFx t.1 t.2.1 t.2.2.1 t.2.2.2.1,false⟩
def QFR:Ctx:=⟨tys,[(43,QfF),(45,Jb),(46,Jd),(58,JI)],[],[(6,(⟨[(2,.keep),(3,.keep),(4,.keep),(5,.keep),(8,.keep),(9,.keep),(11,.st (.list (.int .i64)) (.o .z) false),(12,.st (.list (.int .i64)) (.o .z) false),(30,.st (.list s15) .z false),(31,.keep),(32,.st (.int .i64) .z false)],[(4,.keep),(5,.keep),(8,.keep),(9,.keep)]⟩,⟨[((.exit 0),⟨[(3,.keep),(4,.keep),(5,.keep),(8,.keep),(11,.st (.list (.int .i64)) (.o .z) false),(12,.st (.list (.int .i64)) (.o .z) false)],[(4,.keep),(5,.keep),(8,.keep)]⟩)]⟩))],[(9,⟨[(.normal,⟨[(2,.keep),(3,.keep),(4,.keep),(5,.keep),(8,.keep),(9,.keep),(11,.st (.list (.int .i64)) (.o .z) false),(12,.st (.list (.int .i64)) (.o .z) false),(30,.keep),(31,.keep),(32,.keep)],[(4,.keep),(5,.keep),(8,.keep),(9,.keep)]⟩)]⟩)],[(8,⟨[(2,.keep),(3,.keep),(4,.keep),(5,.keep),(8,.keep),(9,.keep),(11,.keep),(12,.keep),(13,.keep),(30,.keep),(31,.keep),(32,.keep),(47,.st .bool .z false)],[(4,.keep),(5,.keep),(8,.keep),(9,.keep)]⟩)],[],[]⟩
def QFA (x0:List (List UInt8)×List (Int×Int)) (x1:Int×Int×List ((Int×Int)×(Int×List Int×Int×Int)×Int×Bool)×List (Int×Int×Int)) (x2:List Int) (x3:Int):Option (Int×List Int×List Int):=
 (QbX x0 x1 x2).bind fun y3=>
 bif (!decide ((y3:Int)=0)) then
 some (y3,([],[]))
 else
 (QFx x0 x1 x2 x3).bind fun y4=>
 some y4
def QFH:Callee:=⟨[.v s1 .z,.v s10 .z,.v (.list (.int .i64)) .z,.v (.int .i64) .z],[(s12,(.p .z (.p (.o .z) (.o .z))))],fun t=>QFA t.1 t.2.1 t.2.2.1 t.2.2.2.1,false⟩
def QFY:Ctx:=⟨tys,[(10,QbL),(37,QFw)],[],[],[],[],[],[]⟩
def QFz (x0:List (List UInt8)×List (Int×Int)) (x1:Int×Int×List ((Int×Int)×(Int×List Int×Int×Int)×Int×Bool)×List (Int×Int×Int)) (x2:List Int) (x3:Int):Option (Int×List Int×List Int):=
 (QeI x0 x1 x2).bind fun y12=>
 bif (!decide ((y12.2:Int)=0)) then
 some (y12.2,([],[]))
 else
 (QcN x0 x3).bind fun y13=>
 bif (!decide ((y13.1:Int)=0)) then
 some (y13.1,([],[]))
 else
 (Qf (S:=List Int×List Int×Int) (X:=List Int×List Int) (fun s18=>
 bif (decide ((s18.2.2:Int)<(List.length y12.1:Int))) then
 bif (inB s18.2.2 y12.1) then
 (Qgk (List.getD y12.1 (Int.toNat s18.2.2) (0,(0,([],[])))) y13.2).bind fun y19=>
 (bif y19 then
 bif (inB s18.2.2 x2) then
 bif decide (List.length s18.2.1+List.length ([List.getD x2 (Int.toNat s18.2.2) 0]:List Int)<=LIM) then
 some (s18.1,List.append s18.2.1 ([List.getD x2 (Int.toNat s18.2.2) 0]:List Int))
 else none
 else none
 else
 bif (inB s18.2.2 x2) then
 bif decide (List.length s18.1+List.length ([List.getD x2 (Int.toNat s18.2.2) 0]:List Int)<=LIM) then
 some (List.append s18.1 ([List.getD x2 (Int.toNat s18.2.2) 0]:List Int),s18.2.1)
 else none
 else none:Option (List Int×List Int)).bind fun j20=>
 some (Sum.inl (j20.1,(j20.2,IntKind.wrap .i64 (s18.2.2+1))))
 else none
 else
 some (Sum.inr (s18.1,s18.2.1))) (([]:List Int),(([]:List Int),0))).bind fun j21=>
 (Qgb x0 x1 j21.1 x3).bind fun y22=>
 bif (!decide ((y22.1:Int)=0)) then
 some (y22.1,([],[]))
 else
 some (y22.1,(j21.2,y22.2.2))
def QFG:Callee:=⟨[.v s1 .z,.v s10 .z,.v (.list (.int .i64)) .z,.v (.int .i64) .z],[(s12,(.p .z (.p (.o .z) (.o .z))))],fun t=>QFz t.1 t.2.1 t.2.2.1 t.2.2.2.1,false⟩
def QF0:Ctx:=⟨tys,[(38,Qel),(39,QeO),(40,Qdh),(41,Qda)],[],[(10,(⟨[(2,.keep),(3,.keep),(4,.keep),(5,.keep),(8,.keep),(9,.keep),(11,.keep),(12,.st (.list (.int .i64)) (.o .z) false),(13,.st (.list (.int .i64)) (.o .z) false),(14,.st (.int .i64) .z false)],[(4,.keep),(5,.keep),(8,.keep),(11,.keep)]⟩,⟨[((.exit 0),⟨[(3,.keep),(4,.keep),(5,.keep),(8,.keep),(12,.st (.list (.int .i64)) (.o .z) false),(13,.st (.list (.int .i64)) (.o .z) false)],[(4,.keep),(5,.keep),(8,.keep)]⟩)]⟩))],[(13,⟨[(.normal,⟨[(2,.keep),(3,.keep),(4,.keep),(5,.keep),(8,.keep),(9,.keep),(11,.keep),(12,.st (.list (.int .i64)) (.o .z) false),(13,.st (.list (.int .i64)) (.o .z) false),(14,.keep)],[(4,.keep),(5,.keep),(8,.keep),(11,.keep)]⟩)]⟩)],[],[],[]⟩
def QFE (x0:Int×Int×List (Int×Int)×List (Int×List Int×Int×Int)) (x1:Int×Int×List (Int×Int)×List (Int×List Int×Int×Int)):Option (Bool):=
 ((Qge x0).bind fun y11=>
 bif (decide ((y11:Int)=0)) then
 (Qge x1).bind fun y12=>
 bif (decide ((y12:Int)=0)) then
 (Qh0 x0 x1).bind fun y13=>
 some y13
 else
 some false
 else
 some false:Option (Bool)).bind fun j14=>
 some j14
def QFL:Callee:=⟨[.v s15 .z,.v s15 .z],[(.bool,.z)],fun t=>QFE t.1 t.2.1,true⟩
def QGi:Ctx:=⟨tys,[(42,Qdu),(43,QfF)],[],[],[],[(1,⟨[(4,.st .bool .z false)],[]⟩)],[],[]⟩
def QFF (x0:List (List UInt8)×List (Int×Int)) (x1:Int):Option (Int×Int×Int×List (Int×Int)×List (Int×List Int×Int×Int)):=
 (QcH x0).bind fun y3=>
 bif (!decide ((y3:Int)=0)) then
 some (y3,(0,(0,([],[]))))
 else
 (QaB x0 x1).bind fun y4=>
 some (y4.2,y4.1)
def QFT:Callee:=⟨[.v s1 .z,.v (.int .i64) .z],[(s16,(.p .z (.p .z (.p .z (.p (.o .z) (.o (.p .z (.p (.o .z) .z))))))))],fun t=>QFF t.1 t.2.1,false⟩
def QGs:Ctx:=⟨tys,[(44,QaK),(45,Jb)],[],[],[],[],[],[]⟩
def QFB (x0:List Int) (x1:Int):Option (Bool):=
 (Qf (S:=Int) (X:=(Unit)⊕(Bool)) (fun s5=>
 bif (decide ((s5:Int)<(List.length x0:Int))) then
 bif (inB s5 x0) then
 bif (decide ((List.getD x0 (Int.toNat s5) 0:Int)=x1)) then
 some (Sum.inr (Sum.inr true))
 else
 some (Sum.inl (IntKind.wrap .i64 (s5+1)))
 else none
 else
 some (Sum.inr (Sum.inl ()))) 0).bind fun j6=>
 Sum.elim (fun (j7:Unit)=>
 some false) (fun (j8:Bool)=>
 some j8) j6
def QFO:Callee:=⟨[.v (.list (.int .i64)) .z,.v (.int .i64) .z],[(.bool,.z)],fun t=>QFB t.1 t.2.1,true⟩
def QGm:Ctx:=⟨tys,[],[],[(2,(⟨[(0,.keep),(1,.keep),(5,.st (.int .i64) .z false)],[]⟩,⟨[((.exit 0),⟨[],[]⟩),(.ret,⟨[(4,.st .bool .z false)],[]⟩)]⟩))],[],[],[],[]⟩
def QFC (x0:List (List UInt8)×List (Int×Int)) (x1:Int×Int×List ((Int×Int)×(Int×List Int×Int×Int)×Int×Bool)×List (Int×Int×Int)) (x2:List Int) (x3:Int):Option (Int×List Int×List Int):=
 (QbX x0 x1 x2).bind fun y3=>
 bif (!decide ((y3:Int)=0)) then
 some (y3,([],[]))
 else
 (Jl x0 x1 x2 x3).bind fun y4=>
 some (y4.2,([],y4.1))
def QFM:Callee:=⟨[.v s1 .z,.v s10 .z,.v (.list (.int .i64)) .z,.v (.int .i64) .z],[(s12,(.p .z (.p (.o .z) (.o .z))))],fun t=>QFC t.1 t.2.1 t.2.2.1 t.2.2.2.1,false⟩
def QGk:Ctx:=⟨tys,[(10,QbL),(46,Jd)],[],[],[],[],[],[]⟩
def QFJ (x0:List Int):Option (Bool):=
 (Qkg x0).bind fun y38=>
 bif y38 then
 some true
 else
 (QFv x0).bind fun y39=>
 (QFA y39.1 y39.2.1 y39.2.2.1 y39.2.2.2).bind fun y40=>
 bif (!decide ((y40.1:Int)=0)) then
 (QFz y39.1 y39.2.1 y39.2.2.1 y39.2.2.2).bind fun y41=>
 some (decide ((y41.1:Int)=y40.1))
 else
 (Qf (S:=Int) (X:=(Unit)⊕(Bool)) (fun s58=>
 bif (decide ((s58:Int)<(List.length y39.2.2.1:Int))) then
 bif (inB s58 y39.2.2.1) then
 (QFF y39.1 (List.getD y39.2.2.1 (Int.toNat s58) 0)).bind fun y59=>
 (QFF y39.1 y39.2.2.2).bind fun y60=>
 (QFE y59.2 y60.2).bind fun y61=>
 (bif (inB s58 y39.2.2.1) then
 (QFB y40.2.1 (List.getD y39.2.2.1 (Int.toNat s58) 0)).bind fun y64=>
 bif (!(Sh.beq .bool y64 y61)) then
 some true
 else
 bif (!y61) then
 bif (inB s58 y39.2.2.1) then
 (QFB y40.2.2 (List.getD y39.2.2.1 (Int.toNat s58) 0)).bind fun y65=>
 some (!y65)
 else none
 else
 some false
 else none:Option (Bool)).bind fun j66=>
 bif j66 then
 some (Sum.inr (Sum.inr false))
 else
 some (Sum.inl (IntKind.wrap .i64 (s58+1)))
 else none
 else
 some (Sum.inr (Sum.inl ()))) 0).bind fun j67=>
 Sum.elim (fun (j68:Unit)=>
 ((QbX y39.1 y39.2.1 y40.2.2).bind fun y72=>
 bif (decide ((y72:Int)=0)) then
 bif (decide ((0:Int)<(List.length y40.2.2:Int))) then
 bif (inB (IntKind.wrap .i64 ((List.length y40.2.2:Int) - 1)) y40.2.2) then
 bif (decide ((List.getD y40.2.2 (Int.toNat (IntKind.wrap .i64 ((List.length y40.2.2:Int) - 1))) 0:Int)=y39.2.2.2)) then
 (QFC y39.1 y39.2.1 y40.2.2 y39.2.2.2).bind fun y73=>
 some (!decide ((y73.1:Int)=0))
 else
 some false
 else none
 else
 some false
 else
 some false:Option (Bool)).bind fun j74=>
 some j74) (fun (j69:Bool)=>
 some j69) j67
def QFI:Callee:=⟨[.v (.list (.int .u8)) .z],[(.bool,.z)],fun t=>QFJ t.1,false⟩
def QF7:Ctx:=⟨tys,[(6,QfB),(10,QbL),(12,QFy),(13,QFH),(14,QFG),(15,QFL),(16,QFT),(17,QFO),(18,QFM)],[],[(8,(⟨[(3,.keep),(4,.keep),(5,.keep),(6,.keep),(7,.keep),(8,.st (.int .i64) .z false)],[(3,.keep),(4,.keep),(7,.keep)]⟩,⟨[((.exit 0),⟨[(3,.keep),(4,.keep),(6,.keep),(7,.keep)],[(3,.keep),(4,.keep),(7,.keep)]⟩),(.ret,⟨[(2,.st .bool .z false)],[]⟩)]⟩))],[],[(11,⟨[(3,.keep),(4,.keep),(5,.keep),(6,.keep),(7,.keep),(8,.keep),(76,.st .bool .z false)],[(3,.keep),(4,.keep),(7,.keep)]⟩),
 (13,⟨[(2,.st .bool .z false)],[]⟩)],[],[]⟩
end GL
end Go.Dx
end
