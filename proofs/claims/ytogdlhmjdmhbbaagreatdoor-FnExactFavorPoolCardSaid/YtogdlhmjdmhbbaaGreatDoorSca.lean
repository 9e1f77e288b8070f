/- What each function computes, as a function of plain data (F), its parameters (K) and hints for the executor (X); the types -/
import Derived.Test.YtogdlhmjdmhbbaaGreatDoorDxd
import Derived.Test.YtogdlhmjdmhbbaaGreatDoorProg
import Derived.KernelRfl
set_option linter.unusedVariables false
set_option linter.unusedSimpArgs false
set_option maxRecDepth 100000
set_option maxHeartbeats 0
namespace Go.Dx
open Go.Proofs
namespace GL
def s0:Sh:=(.prod (.int .i64) (.int .i64))
def s1:Sh:=(.prod (.list .str) (.list s0))
def s2:Sh:=(.prod (.list (.int .i64)) s0)
def s3:Sh:=(.prod (.int .i64) s2)
def s4:Sh:=(.prod (.int .i64) .bool)
def s5:Sh:=(.prod s3 s4)
def s6:Sh:=(.prod s0 s5)
def s7:Sh:=(.prod (.int .i64) s0)
def s8:Sh:=(.prod (.list s6) (.list s7))
def s9:Sh:=(.prod (.int .i64) s8)
def s10:Sh:=(.prod (.int .i64) s9)
def s11:Sh:=(.prod (.list (.int .i64)) (.list (.int .i64)))
def s12:Sh:=(.prod (.int .i64) s11)
def s13:Sh:=(.prod (.int .i64) (.list (.int .i64)))
def s14:Sh:=(.prod (.int .i64) s13)
def s15:Sh:=(.prod (.int .i64) s14)
def s16:Sh:=(.prod (.int .i64) s15)
def s17:Sh:=(.prod (.list s0) (.list s3))
def s18:Sh:=(.prod (.int .i64) s17)
def s19:Sh:=(.prod (.int .i64) s18)
def s20:Sh:=(.prod (.int .i64) s19)
def s21:Sh:=(.prod (.int .i64) .str)
def tys:List (TypeId×TI):=[(2,⟨(.int .i64),8,.int .i64⟩),
 (3,⟨(.int .i64),8,.int .i64⟩),
 (4,⟨.bool,1,.bool⟩),
 (5,⟨(.int .u8),1,.int .u8⟩),
 (9,⟨.str,16,.str⟩),
 (22,⟨(.list .str),24,.slice 9⟩),
 (23,⟨(.list s0),24,.slice 131⟩),
 (25,⟨s1,48,.struct [(0,22),(1,23)]⟩),
 (26,⟨(.list s6),24,.slice 127⟩),
 (27,⟨(.list s7),24,.slice 143⟩),
 (29,⟨s10,64,.struct [(0,2),(1,2),(2,26),(3,27)]⟩),
 (30,⟨(.list (.int .i64)),24,.slice 2⟩),
 (34,⟨(.list s0),24,.slice 129⟩),
 (36,⟨s1,48,.struct [(0,22),(1,34)]⟩),
 (38,⟨(.list s6),24,.slice 137⟩),
 (39,⟨(.list s7),24,.slice 140⟩),
 (41,⟨s10,64,.struct [(0,2),(1,2),(2,38),(3,39)]⟩),
 (49,⟨s0,16,.struct [(0,2),(1,2)]⟩),
 (53,⟨s12,56,.struct [(0,2),(1,30),(2,30)]⟩),
 (63,⟨s15,48,.struct [(0,2),(1,2),(2,2),(3,30)]⟩),
 (65,⟨s16,56,.struct [(0,2),(1,63)]⟩),
 (73,⟨(.list s19),24,.slice 91⟩),
 (88,⟨(.list s0),24,.slice 132⟩),
 (89,⟨(.list s3),24,.slice 135⟩),
 (91,⟨s19,64,.struct [(0,2),(1,2),(2,88),(3,89)]⟩),
 (107,⟨(.fn1 (.int .i64) .bool .z),8,.func⟩),
 (114,⟨s20,72,.struct [(0,2),(1,91)]⟩),
 (121,⟨s0,16,.struct [(0,2),(1,2)]⟩),
 (123,⟨s2,40,.struct [(0,30),(1,2),(2,2)]⟩),
 (125,⟨s3,48,.struct [(0,2),(1,123)]⟩),
 (127,⟨s6,80,.struct [(0,121),(2,125),(6,2),(7,4)]⟩),
 (129,⟨s0,16,.struct [(0,2),(1,2)]⟩),
 (131,⟨s0,16,.struct [(0,2),(1,2)]⟩),
 (132,⟨s0,16,.struct [(0,2),(1,2)]⟩),
 (133,⟨s2,40,.struct [(0,30),(1,2),(2,2)]⟩),
 (135,⟨s3,48,.struct [(0,2),(1,133)]⟩),
 (137,⟨s6,80,.struct [(0,132),(2,135),(6,2),(7,4)]⟩),
 (140,⟨s7,24,.struct [(0,2),(1,132)]⟩),
 (143,⟨s7,24,.struct [(0,2),(1,121)]⟩),
 (150,⟨(.fn1 s19 .bool .z),8,.func⟩),
 (158,⟨s21,24,.struct [(0,2),(1,9)]⟩),
 (192,⟨(.fn1 s0 .bool .z),8,.func⟩),
 (217,⟨(.list (.int .u8)),24,.slice 5⟩),
 (225,⟨(.fn1 s7 .bool .z),8,.func⟩),
 (239,⟨(.fn2 s7 (.int .i64) (.int .i64)),8,.func⟩),
 (256,⟨(.fn2 s6 s0 (.int .i64)),8,.func⟩),
 (258,⟨(.fn2 s6 s6 (.int .i64)),8,.func⟩),
 (277,⟨(.int .u64),8,.int .u64⟩),
 (283,⟨(.list (.int .i64)),24,.slice 3⟩),
 (289,⟨(.int .u64),8,.int .u64⟩)]
def X0:Ctx:={ tys:=tys,fns:=[],frz:=[],lps:=[],jns:=[],rjs:=[] }
theorem ty2:TyOk Tryz.prog X0 2 ⟨(.int .i64),8,.int .i64⟩:=⟨⟨Tryz.t2,Tryz.type2,rfl,by decide,by decide,rfl⟩,⟨Tryz.underlying2,rfl⟩⟩
theorem ty3:TyOk Tryz.prog X0 3 ⟨(.int .i64),8,.int .i64⟩:=⟨⟨Tryz.t3,Tryz.type3,rfl,by decide,by decide,rfl⟩,⟨Tryz.underlying3,rfl⟩⟩
theorem ty4:TyOk Tryz.prog X0 4 ⟨.bool,1,.bool⟩:=⟨⟨Tryz.t4,Tryz.type4,rfl,by decide,by decide,rfl⟩,⟨Tryz.underlying4,rfl⟩⟩
theorem ty5:TyOk Tryz.prog X0 5 ⟨(.int .u8),1,.int .u8⟩:=⟨⟨Tryz.t5,Tryz.type5,rfl,by decide,by decide,rfl⟩,⟨Tryz.underlying5,rfl⟩⟩
theorem ty9:TyOk Tryz.prog X0 9 ⟨.str,16,.str⟩:=⟨⟨Tryz.t9,Tryz.type9,rfl,by decide,by decide,rfl⟩,⟨Tryz.underlying9,rfl⟩⟩
theorem ty22:TyOk Tryz.prog X0 22 ⟨(.list .str),24,.slice 9⟩:=⟨⟨Tryz.t22,Tryz.type22,rfl,by decide,by decide,rfl⟩,⟨Tryz.underlying22,_,rfl,rfl⟩⟩
theorem ty23:TyOk Tryz.prog X0 23 ⟨(.list s0),24,.slice 131⟩:=⟨⟨Tryz.t23,Tryz.type23,rfl,by decide,by decide,rfl⟩,⟨Tryz.underlying23,_,rfl,rfl⟩⟩
theorem ty25:TyOk Tryz.prog X0 25 ⟨s1,48,.struct [(0,22),(1,23)]⟩:=⟨⟨Tryz.t25,Tryz.type25,rfl,by decide,by decide,rfl⟩,⟨⟨_,Tryz.underlying25,rfl,by simp⟩,⟨_,_,rfl,rfl,⟨_,rfl,rfl⟩,⟨rfl,_,rfl,rfl⟩⟩,by decide,Tryz.eqGuardType25,Tryz.stoodInHeld25⟩⟩
theorem ty26:TyOk Tryz.prog X0 26 ⟨(.list s6),24,.slice 127⟩:=⟨⟨Tryz.t26,Tryz.type26,rfl,by decide,by decide,rfl⟩,⟨Tryz.underlying26,_,rfl,rfl⟩⟩
theorem ty27:TyOk Tryz.prog X0 27 ⟨(.list s7),24,.slice 143⟩:=⟨⟨Tryz.t27,Tryz.type27,rfl,by decide,by decide,rfl⟩,⟨Tryz.underlying27,_,rfl,rfl⟩⟩
theorem ty29:TyOk Tryz.prog X0 29 ⟨s10,64,.struct [(0,2),(1,2),(2,26),(3,27)]⟩:=⟨⟨Tryz.t29,Tryz.type29,rfl,by decide,by decide,rfl⟩,⟨⟨_,Tryz.underlying29,rfl,by simp⟩,⟨_,_,rfl,rfl,⟨_,rfl,rfl⟩,⟨_,_,rfl,rfl,⟨_,rfl,rfl⟩,⟨_,_,rfl,rfl,⟨_,rfl,rfl⟩,⟨rfl,_,rfl,rfl⟩⟩⟩⟩,by decide,Tryz.eqGuardType29,Tryz.stoodInHeld29⟩⟩
theorem ty30:TyOk Tryz.prog X0 30 ⟨(.list (.int .i64)),24,.slice 2⟩:=⟨⟨Tryz.t30,Tryz.type30,rfl,by decide,by decide,rfl⟩,⟨Tryz.underlying30,_,rfl,rfl⟩⟩
theorem ty34:TyOk Tryz.prog X0 34 ⟨(.list s0),24,.slice 129⟩:=⟨⟨Tryz.t34,Tryz.type34,rfl,by decide,by decide,rfl⟩,⟨Tryz.underlying34,_,rfl,rfl⟩⟩
theorem ty36:TyOk Tryz.prog X0 36 ⟨s1,48,.struct [(0,22),(1,34)]⟩:=⟨⟨Tryz.t36,Tryz.type36,rfl,by decide,by decide,rfl⟩,⟨⟨_,Tryz.underlying36,rfl,by simp⟩,⟨_,_,rfl,rfl,⟨_,rfl,rfl⟩,⟨rfl,_,rfl,rfl⟩⟩,by decide,Tryz.eqGuardType36,Tryz.stoodInHeld36⟩⟩
theorem ty38:TyOk Tryz.prog X0 38 ⟨(.list s6),24,.slice 137⟩:=⟨⟨Tryz.t38,Tryz.type38,rfl,by decide,by decide,rfl⟩,⟨Tryz.underlying38,_,rfl,rfl⟩⟩
theorem ty39:TyOk Tryz.prog X0 39 ⟨(.list s7),24,.slice 140⟩:=⟨⟨Tryz.t39,Tryz.type39,rfl,by decide,by decide,rfl⟩,⟨Tryz.underlying39,_,rfl,rfl⟩⟩
theorem ty41:TyOk Tryz.prog X0 41 ⟨s10,64,.struct [(0,2),(1,2),(2,38),(3,39)]⟩:=⟨⟨Tryz.t41,Tryz.type41,rfl,by decide,by decide,rfl⟩,⟨⟨_,Tryz.underlying41,rfl,by simp⟩,⟨_,_,rfl,rfl,⟨_,rfl,rfl⟩,⟨_,_,rfl,rfl,⟨_,rfl,rfl⟩,⟨_,_,rfl,rfl,⟨_,rfl,rfl⟩,⟨rfl,_,rfl,rfl⟩⟩⟩⟩,by decide,Tryz.eqGuardType41,Tryz.stoodInHeld41⟩⟩
theorem ty49:TyOk Tryz.prog X0 49 ⟨s0,16,.struct [(0,2),(1,2)]⟩:=⟨⟨Tryz.t49,Tryz.type49,rfl,by decide,by decide,rfl⟩,⟨⟨_,Tryz.underlying49,rfl,by simp⟩,⟨_,_,rfl,rfl,⟨_,rfl,rfl⟩,⟨rfl,_,rfl,rfl⟩⟩,by decide,Tryz.eqGuardType49,Tryz.stoodInHeld49⟩⟩
theorem ty53:TyOk Tryz.prog X0 53 ⟨s12,56,.struct [(0,2),(1,30),(2,30)]⟩:=⟨⟨Tryz.t53,Tryz.type53,rfl,by decide,by decide,rfl⟩,⟨⟨_,Tryz.underlying53,rfl,by simp⟩,⟨_,_,rfl,rfl,⟨_,rfl,rfl⟩,⟨_,_,rfl,rfl,⟨_,rfl,rfl⟩,⟨rfl,_,rfl,rfl⟩⟩⟩,by decide,Tryz.eqGuardType53,Tryz.stoodInHeld53⟩⟩
theorem ty63:TyOk Tryz.prog X0 63 ⟨s15,48,.struct [(0,2),(1,2),(2,2),(3,30)]⟩:=⟨⟨Tryz.t63,Tryz.type63,rfl,by decide,by decide,rfl⟩,⟨⟨_,Tryz.underlying63,rfl,by simp⟩,⟨_,_,rfl,rfl,⟨_,rfl,rfl⟩,⟨_,_,rfl,rfl,⟨_,rfl,rfl⟩,⟨_,_,rfl,rfl,⟨_,rfl,rfl⟩,⟨rfl,_,rfl,rfl⟩⟩⟩⟩,by decide,Tryz.eqGuardType63,Tryz.stoodInHeld63⟩⟩
theorem ty65:TyOk Tryz.prog X0 65 ⟨s16,56,.struct [(0,2),(1,63)]⟩:=⟨⟨Tryz.t65,Tryz.type65,rfl,by decide,by decide,rfl⟩,⟨⟨_,Tryz.underlying65,rfl,by simp⟩,⟨_,_,rfl,rfl,⟨_,rfl,rfl⟩,⟨rfl,_,rfl,rfl⟩⟩,by decide,Tryz.eqGuardType65,Tryz.stoodInHeld65⟩⟩
theorem ty73:TyOk Tryz.prog X0 73 ⟨(.list s19),24,.slice 91⟩:=⟨⟨Tryz.t73,Tryz.type73,rfl,by decide,by decide,rfl⟩,⟨Tryz.underlying73,_,rfl,rfl⟩⟩
theorem ty88:TyOk Tryz.prog X0 88 ⟨(.list s0),24,.slice 132⟩:=⟨⟨Tryz.t88,Tryz.type88,rfl,by decide,by decide,rfl⟩,⟨Tryz.underlying88,_,rfl,rfl⟩⟩
theorem ty89:TyOk Tryz.prog X0 89 ⟨(.list s3),24,.slice 135⟩:=⟨⟨Tryz.t89,Tryz.type89,rfl,by decide,by decide,rfl⟩,⟨Tryz.underlying89,_,rfl,rfl⟩⟩
theorem ty91:TyOk Tryz.prog X0 91 ⟨s19,64,.struct [(0,2),(1,2),(2,88),(3,89)]⟩:=⟨⟨Tryz.t91,Tryz.type91,rfl,by decide,by decide,rfl⟩,⟨⟨_,Tryz.underlying91,rfl,by simp⟩,⟨_,_,rfl,rfl,⟨_,rfl,rfl⟩,⟨_,_,rfl,rfl,⟨_,rfl,rfl⟩,⟨_,_,rfl,rfl,⟨_,rfl,rfl⟩,⟨rfl,_,rfl,rfl⟩⟩⟩⟩,by decide,Tryz.eqGuardType91,Tryz.stoodInHeld91⟩⟩
theorem QGR:TyOk Tryz.prog X0 107 ⟨(.fn1 (.int .i64) .bool .z),8,.func⟩:=⟨⟨Tryz.t107,Tryz.type107,rfl,by decide,by decide,trivial⟩,⟨⟨_,_,_,Tryz.underlying107⟩,.inl ⟨_,_,_,rfl⟩⟩⟩
theorem QGU:TyOk Tryz.prog X0 114 ⟨s20,72,.struct [(0,2),(1,91)]⟩:=⟨⟨Tryz.t114,Tryz.type114,rfl,by decide,by decide,rfl⟩,⟨⟨_,Tryz.underlying114,rfl,by simp⟩,⟨_,_,rfl,rfl,⟨_,rfl,rfl⟩,⟨rfl,_,rfl,rfl⟩⟩,by decide,Tryz.eqGuardType114,Tryz.stoodInHeld114⟩⟩
theorem QG9:TyOk Tryz.prog X0 121 ⟨s0,16,.struct [(0,2),(1,2)]⟩:=⟨⟨Tryz.t121,Tryz.type121,rfl,by decide,by decide,rfl⟩,⟨⟨_,Tryz.underlying121,rfl,by simp⟩,⟨_,_,rfl,rfl,⟨_,rfl,rfl⟩,⟨rfl,_,rfl,rfl⟩⟩,by decide,Tryz.eqGuardType121,Tryz.stoodInHeld121⟩⟩
theorem QG6:TyOk Tryz.prog X0 123 ⟨s2,40,.struct [(0,30),(1,2),(2,2)]⟩:=⟨⟨Tryz.t123,Tryz.type123,rfl,by decide,by decide,rfl⟩,⟨⟨_,Tryz.underlying123,rfl,by simp⟩,⟨_,_,rfl,rfl,⟨_,rfl,rfl⟩,⟨_,_,rfl,rfl,⟨_,rfl,rfl⟩,⟨rfl,_,rfl,rfl⟩⟩⟩,by decide,Tryz.eqGuardType123,Tryz.stoodInHeld123⟩⟩
theorem QHe:TyOk Tryz.prog X0 125 ⟨s3,48,.struct [(0,2),(1,123)]⟩:=⟨⟨Tryz.t125,Tryz.type125,rfl,by decide,by decide,rfl⟩,⟨⟨_,Tryz.underlying125,rfl,by simp⟩,⟨_,_,rfl,rfl,⟨_,rfl,rfl⟩,⟨rfl,_,rfl,rfl⟩⟩,by decide,Tryz.eqGuardType125,Tryz.stoodInHeld125⟩⟩
theorem QG5:TyOk Tryz.prog X0 127 ⟨s6,80,.struct [(0,121),(2,125),(6,2),(7,4)]⟩:=⟨⟨Tryz.t127,Tryz.type127,rfl,by decide,by decide,rfl⟩,⟨⟨_,Tryz.underlying127,rfl,by simp⟩,⟨_,_,rfl,rfl,⟨_,rfl,rfl⟩,⟨_,_,rfl,rfl,⟨_,rfl,rfl⟩,⟨_,_,rfl,rfl,⟨_,rfl,rfl⟩,⟨rfl,_,rfl,rfl⟩⟩⟩⟩,by decide,Tryz.eqGuardType127,Tryz.stoodInHeld127⟩⟩
theorem QGV:TyOk Tryz.prog X0 129 ⟨s0,16,.struct [(0,2),(1,2)]⟩:=⟨⟨Tryz.t129,Tryz.type129,rfl,by decide,by decide,rfl⟩,⟨⟨_,Tryz.underlying129,rfl,by simp⟩,⟨_,_,rfl,rfl,⟨_,rfl,rfl⟩,⟨rfl,_,rfl,rfl⟩⟩,by decide,Tryz.eqGuardType129,Tryz.stoodInHeld129⟩⟩
theorem QGS:TyOk Tryz.prog X0 131 ⟨s0,16,.struct [(0,2),(1,2)]⟩:=⟨⟨Tryz.t131,Tryz.type131,rfl,by decide,by decide,rfl⟩,⟨⟨_,Tryz.underlying131,rfl,by simp⟩,⟨_,_,rfl,rfl,⟨_,rfl,rfl⟩,⟨rfl,_,rfl,rfl⟩⟩,by decide,Tryz.eqGuardType131,Tryz.stoodInHeld131⟩⟩
theorem QGW:TyOk Tryz.prog X0 132 ⟨s0,16,.struct [(0,2),(1,2)]⟩:=⟨⟨Tryz.t132,Tryz.type132,rfl,by decide,by decide,rfl⟩,⟨⟨_,Tryz.underlying132,rfl,by simp⟩,⟨_,_,rfl,rfl,⟨_,rfl,rfl⟩,⟨rfl,_,rfl,rfl⟩⟩,by decide,Tryz.eqGuardType132,Tryz.stoodInHeld132⟩⟩
theorem QG7:TyOk Tryz.prog X0 133 ⟨s2,40,.struct [(0,30),(1,2),(2,2)]⟩:=⟨⟨Tryz.t133,Tryz.type133,rfl,by decide,by decide,rfl⟩,⟨⟨_,Tryz.underlying133,rfl,by simp⟩,⟨_,_,rfl,rfl,⟨_,rfl,rfl⟩,⟨_,_,rfl,rfl,⟨_,rfl,rfl⟩,⟨rfl,_,rfl,rfl⟩⟩⟩,by decide,Tryz.eqGuardType133,Tryz.stoodInHeld133⟩⟩
theorem QG4:TyOk Tryz.prog X0 135 ⟨s3,48,.struct [(0,2),(1,133)]⟩:=⟨⟨Tryz.t135,Tryz.type135,rfl,by decide,by decide,rfl⟩,⟨⟨_,Tryz.underlying135,rfl,by simp⟩,⟨_,_,rfl,rfl,⟨_,rfl,rfl⟩,⟨rfl,_,rfl,rfl⟩⟩,by decide,Tryz.eqGuardType135,Tryz.stoodInHeld135⟩⟩
theorem QHi:TyOk Tryz.prog X0 137 ⟨s6,80,.struct [(0,132),(2,135),(6,2),(7,4)]⟩:=⟨⟨Tryz.t137,Tryz.type137,rfl,by decide,by decide,rfl⟩,⟨⟨_,Tryz.underlying137,rfl,by simp⟩,⟨_,_,rfl,rfl,⟨_,rfl,rfl⟩,⟨_,_,rfl,rfl,⟨_,rfl,rfl⟩,⟨_,_,rfl,rfl,⟨_,rfl,rfl⟩,⟨rfl,_,rfl,rfl⟩⟩⟩⟩,by decide,Tryz.eqGuardType137,Tryz.stoodInHeld137⟩⟩
theorem QG0:TyOk Tryz.prog X0 140 ⟨s7,24,.struct [(0,2),(1,132)]⟩:=⟨⟨Tryz.t140,Tryz.type140,rfl,by decide,by decide,rfl⟩,⟨⟨_,Tryz.underlying140,rfl,by simp⟩,⟨_,_,rfl,rfl,⟨_,rfl,rfl⟩,⟨rfl,_,rfl,rfl⟩⟩,by decide,Tryz.eqGuardType140,Tryz.stoodInHeld140⟩⟩
theorem QGK:TyOk Tryz.prog X0 143 ⟨s7,24,.struct [(0,2),(1,121)]⟩:=⟨⟨Tryz.t143,Tryz.type143,rfl,by decide,by decide,rfl⟩,⟨⟨_,Tryz.underlying143,rfl,by simp⟩,⟨_,_,rfl,rfl,⟨_,rfl,rfl⟩,⟨rfl,_,rfl,rfl⟩⟩,by decide,Tryz.eqGuardType143,Tryz.stoodInHeld143⟩⟩
theorem QGI:TyOk Tryz.prog X0 150 ⟨(.fn1 s19 .bool .z),8,.func⟩:=⟨⟨Tryz.t150,Tryz.type150,rfl,by decide,by decide,trivial⟩,⟨⟨_,_,_,Tryz.underlying150⟩,.inl ⟨_,_,_,rfl⟩⟩⟩
theorem QGL:TyOk Tryz.prog X0 158 ⟨s21,24,.struct [(0,2),(1,9)]⟩:=⟨⟨Tryz.t158,Tryz.type158,rfl,by decide,by decide,rfl⟩,⟨⟨_,Tryz.underlying158,rfl,by simp⟩,⟨_,_,rfl,rfl,⟨_,rfl,rfl⟩,⟨rfl,_,rfl,rfl⟩⟩,by decide,Tryz.eqGuardType158,Tryz.stoodInHeld158⟩⟩
theorem QHd:TyOk Tryz.prog X0 192 ⟨(.fn1 s0 .bool .z),8,.func⟩:=⟨⟨Tryz.t192,Tryz.type192,rfl,by decide,by decide,trivial⟩,⟨⟨_,_,_,Tryz.underlying192⟩,.inl ⟨_,_,_,rfl⟩⟩⟩
theorem QGJ:TyOk Tryz.prog X0 217 ⟨(.list (.int .u8)),24,.slice 5⟩:=⟨⟨Tryz.t217,Tryz.type217,rfl,by decide,by decide,rfl⟩,⟨Tryz.underlying217,_,rfl,rfl⟩⟩
theorem QGZ:TyOk Tryz.prog X0 225 ⟨(.fn1 s7 .bool .z),8,.func⟩:=⟨⟨Tryz.t225,Tryz.type225,rfl,by decide,by decide,trivial⟩,⟨⟨_,_,_,Tryz.underlying225⟩,.inl ⟨_,_,_,rfl⟩⟩⟩
theorem QGT:TyOk Tryz.prog X0 239 ⟨(.fn2 s7 (.int .i64) (.int .i64)),8,.func⟩:=⟨⟨Tryz.t239,Tryz.type239,rfl,by decide,by decide,trivial⟩,⟨⟨_,_,_,Tryz.underlying239⟩,.inr ⟨_,_,_,rfl⟩⟩⟩
theorem QHa:TyOk Tryz.prog X0 256 ⟨(.fn2 s6 s0 (.int .i64)),8,.func⟩:=⟨⟨Tryz.t256,Tryz.type256,rfl,by decide,by decide,trivial⟩,⟨⟨_,_,_,Tryz.underlying256⟩,.inr ⟨_,_,_,rfl⟩⟩⟩
theorem QG2:TyOk Tryz.prog X0 258 ⟨(.fn2 s6 s6 (.int .i64)),8,.func⟩:=⟨⟨Tryz.t258,Tryz.type258,rfl,by decide,by decide,trivial⟩,⟨⟨_,_,_,Tryz.underlying258⟩,.inr ⟨_,_,_,rfl⟩⟩⟩
theorem QG8:TyOk Tryz.prog X0 277 ⟨(.int .u64),8,.int .u64⟩:=⟨⟨Tryz.t277,Tryz.type277,rfl,by decide,by decide,rfl⟩,⟨Tryz.underlying277,rfl⟩⟩
theorem QHg:TyOk Tryz.prog X0 283 ⟨(.list (.int .i64)),24,.slice 3⟩:=⟨⟨Tryz.t283,Tryz.type283,rfl,by decide,by decide,rfl⟩,⟨Tryz.underlying283,_,rfl,rfl⟩⟩
theorem QHf:TyOk Tryz.prog X0 289 ⟨(.int .u64),8,.int .u64⟩:=⟨⟨Tryz.t289,Tryz.type289,rfl,by decide,by decide,rfl⟩,⟨Tryz.underlying289,rfl⟩⟩
theorem Qe:QS Tryz.prog X0:=QEN ⟨ty2,ty3,ty4,ty5,ty9,ty22,ty23,ty25,ty26,ty27,ty29,ty30,ty34,ty36,ty38,ty39,ty41,ty49,ty53,ty63,ty65,ty73,ty88,ty89,ty91,QGR,QGU,QG9,QG6,QHe,QG5,QGV,QGS,QGW,QG7,QG4,QHi,QG0,QGK,QGI,QGL,QHd,QGJ,QGZ,QGT,QHa,QG2,QG8,QHg,QHf,trivial⟩
theorem follows:Tryz.prog.follows .mixedOrders=true:=by kernel_rfl
end GL
end Go.Dx
set_option maxRecDepth 100000
set_option maxHeartbeats 0
namespace Go.Dx
open Go.Proofs
namespace GL

noncomputable def Qc0 (x0:List (List UInt8)) (x1:Int):Option (Int):=
 bif (decide ((IntKind.wrap .i64 (x1 - (List.length x0:Int)):Int)<0)) then
 some (-1)
 else
 (Qh (S:=Int×Int) (X:=(Int)⊕(Int)) (fun (s5:Int×Int)=>
 bif (decide ((s5.2:Int)<(List.length x0:Int))) then
 bif (inB s5.2 x0) then
 bif (decide ((IntKind.wrap .i64 (s5.1 - (List.length (List.getD x0 (Int.toNat s5.2) []):Int)):Int)<0)) then
 some (Sum.inr (Sum.inr (-1)))
 else
 some (Sum.inl (IntKind.wrap .i64 (s5.1 - (List.length (List.getD x0 (Int.toNat s5.2) []):Int)),IntKind.wrap .i64 (s5.2+1)))
 else none
 else
 some (Sum.inr (Sum.inl s5.1))) (IntKind.wrap .i64 (x1 - (List.length x0:Int)),0)).bind fun (j6:(Int)⊕(Int))=>
 Sum.elim (fun (j7:Int)=>
 some j7) (fun (j8:Int)=>
 some j8) j6
noncomputable def QaP:Callee:={ ins:=[.v (.list .str) .z,.v (.int .i64) .z],outs:=[((.int .i64),.z)],F:=fun t=>Qc0 t.1 t.2.1 }
noncomputable def Qjp:Ctx:={ tys:=tys,fns:=[],frz:=[],lps:=[(5,(⟨[(0,.keep),(1,.st (.int .i64) .z false),(5,.st (.int .i64) .z false)],[]⟩,⟨[((.exit 0),⟨[(1,.st (.int .i64) .z false)],[]⟩),(.ret,⟨[(4,.st (.int .i64) .z false)],[]⟩)]⟩))],jns:=[],rjs:=[] }
noncomputable def Qcv (x0:List (Int×Int)) (x1:Int):Option (Int):=
 bif (decide ((IntKind.wrap .i64 (x1 - (List.length x0:Int)):Int)<0)) then
 some (-1)
 else
 some (IntKind.wrap .i64 (x1 - (List.length x0:Int)))
noncomputable def QcA:Callee:={ ins:=[.v (.list s0) .z,.v (.int .i64) .z],outs:=[((.int .i64),.z)],F:=fun t=>Qcv t.1 t.2.1 }
noncomputable def QlB:Ctx:={ tys:=tys,fns:=[],frz:=[],lps:=[],jns:=[],rjs:=[] }
noncomputable def Qem (x0:List (List UInt8)×List (Int×Int)) (x1:Int):Option (Int):=
 (Qc0 x0.1 x1).bind fun (y3:Int)=>
 bif (decide ((y3:Int)<0)) then
 some (-1)
 else
 (Qcv x0.2 y3).bind fun (y4:Int)=>
 bif (decide ((y4:Int)<0)) then
 some (-1)
 else
 some y4
noncomputable def Qbi:Callee:={ ins:=[.v s1 .z,.v (.int .i64) .z],outs:=[((.int .i64),.z)],F:=fun t=>Qem t.1 t.2.1 }
noncomputable def Qku:Ctx:={ tys:=tys,fns:=[(39,QaP),(40,QcA)],frz:=[],lps:=[],jns:=[],rjs:=[] }
noncomputable def Qek (x0:List Int) (x1:Int):Option (Int):=
 bif (decide ((IntKind.wrap .i64 (x1 - (List.length x0:Int)):Int)<0)) then
 some (-1)
 else
 some (IntKind.wrap .i64 (x1 - (List.length x0:Int)))
noncomputable def Qbk:Callee:={ ins:=[.v (.list (.int .i64)) .z,.v (.int .i64) .z],outs:=[((.int .i64),.z)],F:=fun t=>Qek t.1 t.2.1 }
noncomputable def Qkv:Ctx:={ tys:=tys,fns:=[],frz:=[],lps:=[],jns:=[],rjs:=[] }
noncomputable def Qgc (x0:List Int×Int×Int) (x1:Int):Option (Int):=
 (Qek x0.1 x1).bind fun (y2:Int)=>
 bif (decide ((y2:Int)<0)) then
 some (-1)
 else
 some y2
noncomputable def QdI:Callee:={ ins:=[.v s2 .z,.v (.int .i64) .z],outs:=[((.int .i64),.z)],F:=fun t=>Qgc t.1 t.2.1 }
noncomputable def QnA:Ctx:={ tys:=tys,fns:=[(210,Qbk)],frz:=[],lps:=[],jns:=[],rjs:=[] }
noncomputable def Qg7 (x0:Int×List Int×Int×Int) (x1:Int):Option (Int):=
 (Qgc x0.2 x1).bind fun (y2:Int)=>
 bif (decide ((y2:Int)<0)) then
 some (-1)
 else
 some y2
noncomputable def QeB:Callee:={ ins:=[.v s3 .z,.v (.int .i64) .z],outs:=[((.int .i64),.z)],F:=fun t=>Qg7 t.1 t.2.1 }
noncomputable def QnW:Ctx:={ tys:=tys,fns:=[(164,QdI)],frz:=[],lps:=[],jns:=[],rjs:=[] }
noncomputable def Qgk (x0:(Int×Int)×(Int×List Int×Int×Int)×Int×Bool) (x1:Int):Option (Int):=
 (Qg7 x0.2.1 x1).bind fun (y2:Int)=>
 bif (decide ((y2:Int)<0)) then
 some (-1)
 else
 some y2
noncomputable def Qdt:Callee:={ ins:=[.v s6 .z,.v (.int .i64) .z],outs:=[((.int .i64),.z)],F:=fun t=>Qgk t.1 t.2.1 }
noncomputable def QnE:Ctx:={ tys:=tys,fns:=[(118,QeB)],frz:=[],lps:=[],jns:=[],rjs:=[] }
noncomputable def Qfe (x0:List ((Int×Int)×(Int×List Int×Int×Int)×Int×Bool)) (x1:Int):Option (Int):=
 bif (decide ((IntKind.wrap .i64 (x1 - (List.length x0:Int)):Int)<0)) then
 some (-1)
 else
 (Qh (S:=Int×Int) (X:=(Int)⊕(Int)) (fun (s10:Int×Int)=>
 bif (decide ((s10.2:Int)<(List.length x0:Int))) then
 bif (inB s10.2 x0) then
 (Qgk (List.getD x0 (Int.toNat s10.2) ((0,0),((0,([],(0,0))),(0,false)))) s10.1).bind fun (y11:Int)=>
 bif (decide ((y11:Int)<0)) then
 some (Sum.inr (Sum.inr (-1)))
 else
 some (Sum.inl (y11,IntKind.wrap .i64 (s10.2+1)))
 else none
 else
 some (Sum.inr (Sum.inl s10.1))) (IntKind.wrap .i64 (x1 - (List.length x0:Int)),0)).bind fun (j12:(Int)⊕(Int))=>
 Sum.elim (fun (j13:Int)=>
 some j13) (fun (j14:Int)=>
 some j14) j12
noncomputable def QcG:Callee:={ ins:=[.v (.list s6) .z,.v (.int .i64) .z],outs:=[((.int .i64),.z)],F:=fun t=>Qfe t.1 t.2.1 }
noncomputable def Qlq:Ctx:={ tys:=tys,fns:=[(78,Qdt)],frz:=[],lps:=[(5,(⟨[(0,.keep),(1,.st (.int .i64) .z false),(5,.st (.int .i64) .z false)],[]⟩,⟨[((.exit 0),⟨[(1,.st (.int .i64) .z false)],[]⟩),(.ret,⟨[(4,.st (.int .i64) .z false)],[]⟩)]⟩))],jns:=[],rjs:=[] }
noncomputable def QaG (x0:List (Int×Int×Int)) (x1:Int):Option (Int):=
 bif (decide ((IntKind.wrap .i64 (x1 - (List.length x0:Int)):Int)<0)) then
 some (-1)
 else
 some (IntKind.wrap .i64 (x1 - (List.length x0:Int)))
noncomputable def QaJ:Callee:={ ins:=[.v (.list s7) .z,.v (.int .i64) .z],outs:=[((.int .i64),.z)],F:=fun t=>QaG t.1 t.2.1 }
noncomputable def QjN:Ctx:={ tys:=tys,fns:=[],frz:=[],lps:=[],jns:=[],rjs:=[] }
noncomputable def Qfi (x0:Int×Int×List ((Int×Int)×(Int×List Int×Int×Int)×Int×Bool)×List (Int×Int×Int)) (x1:Int):Option (Int):=
 (Qfe x0.2.2.1 x1).bind fun (y3:Int)=>
 bif (decide ((y3:Int)<0)) then
 some (-1)
 else
 (QaG x0.2.2.2 y3).bind fun (y4:Int)=>
 bif (decide ((y4:Int)<0)) then
 some (-1)
 else
 some y4
noncomputable def Qcn:Callee:={ ins:=[.v s10 .z,.v (.int .i64) .z],outs:=[((.int .i64),.z)],F:=fun t=>Qfi t.1 t.2.1 }
noncomputable def Qmf:Ctx:={ tys:=tys,fns:=[(41,QcG),(42,QaJ)],frz:=[],lps:=[],jns:=[],rjs:=[] }
noncomputable def Zd (x0:Int) (x1:Int) (x2:Int):Option (Bool):=
 (bif (decide ((x1:Int)<=x0)) then
 some (decide ((x0:Int)<=x2))
 else
 some false:Option (Bool)).bind fun (j2:Bool)=>
 some j2
noncomputable def ZI:Callee:={ ins:=[.v (.int .i64) .z,.v (.int .i64) .z,.v (.int .i64) .z],outs:=[(.bool,.z)],F:=fun t=>Zd t.1 t.2.1 t.2.2.1 }
noncomputable def QpW:Ctx:={ tys:=tys,fns:=[],frz:=[],lps:=[],jns:=[],rjs:=[(1,⟨[(6,.st .bool .z false)],[]⟩)] }
noncomputable def QaK (x0:Int):Option (Bool):=
 (Zd x0 1 999).bind fun (y2:Bool)=>
 some y2
noncomputable def JL:Callee:={ ins:=[.v (.int .i64) .z],outs:=[(.bool,.z)],F:=fun t=>QaK t.1 }
noncomputable def Qo1:Ctx:={ tys:=tys,fns:=[(107,ZI)],frz:=[],lps:=[],jns:=[],rjs:=[] }
noncomputable def QfV (x0:List (List UInt8)) (x1:List UInt8):Option (Int):=
 (Qh (S:=Int) (X:=(Unit)⊕(Int)) (fun (s5:Int)=>
 bif (decide ((s5:Int)<(List.length x0:Int))) then
 bif (inB s5 x0) then
 bif (decide ((List.getD x0 (Int.toNat s5) []:List UInt8)=x1)) then
 some (Sum.inr (Sum.inr (IntKind.wrap .i64 (s5+1))))
 else
 some (Sum.inl (IntKind.wrap .i64 (s5+1)))
 else none
 else
 some (Sum.inr (Sum.inl ()))) 0).bind fun (j6:(Unit)⊕(Int))=>
 Sum.elim (fun (j7:Unit)=>
 some 0) (fun (j8:Int)=>
 some j8) j6
noncomputable def Qd2:Callee:={ ins:=[.v (.list .str) .z,.v .str .z],outs:=[((.int .i64),.z)],F:=fun t=>QfV t.1 t.2.1 }
noncomputable def Qqc:Ctx:={ tys:=tys,fns:=[],frz:=[],lps:=[(2,(⟨[(0,.keep),(1,.keep),(5,.st (.int .i64) .z false)],[]⟩,⟨[((.exit 0),⟨[],[]⟩),(.ret,⟨[(4,.st (.int .i64) .z false)],[]⟩)]⟩))],jns:=[],rjs:=[] }
noncomputable def QbB (x0:List (Int×Int)) (x1:Int×Int):Option (Bool):=
 (Qh (S:=Int) (X:=(Unit)⊕(Bool)) (fun (s5:Int)=>
 bif (decide ((s5:Int)<(List.length x0:Int))) then
 bif (inB s5 x0) then
 bif (Sh.beq (.prod (.int .i64) (.int .i64)) (List.getD x0 (Int.toNat s5) (0,0)) x1) then
 some (Sum.inr (Sum.inr true))
 else
 some (Sum.inl (IntKind.wrap .i64 (s5+1)))
 else none
 else
 some (Sum.inr (Sum.inl ()))) 0).bind fun (j6:(Unit)⊕(Bool))=>
 Sum.elim (fun (j7:Unit)=>
 some false) (fun (j8:Bool)=>
 some j8) j6
noncomputable def Qaa:Callee:={ ins:=[.v (.list s0) .z,.v s0 .z],outs:=[(.bool,.z)],F:=fun t=>QbB t.1 t.2.1 }
noncomputable def Qkc:Ctx:={ tys:=tys,fns:=[],frz:=[],lps:=[(2,(⟨[(0,.keep),(3,.keep),(5,.st (.int .i64) .z false)],[(3,.keep)]⟩,⟨[((.exit 0),⟨[],[]⟩),(.ret,⟨[(4,.st .bool .z false)],[]⟩)]⟩))],jns:=[],rjs:=[] }
noncomputable def Qax (x0:List (List UInt8)×List (Int×Int)):Option (Int):=
 (bif (decide ((60:Int)<(List.length x0.1:Int))) then
 some true
 else
 some (decide ((120:Int)<(List.length x0.2:Int))):Option (Bool)).bind fun (j34:Bool)=>
 bif j34 then
 some 2
 else
 (Qh (S:=Int) (X:=(Unit)⊕(Int)) (fun (s39:Int)=>
 bif (decide ((s39:Int)<(List.length x0.1:Int))) then
 (bif (inB s39 x0.1) then
 bif (decide (((List.length (List.getD x0.1 (Int.toNat s39) []):Int):Int)<1)) then
 some true
 else
 bif (inB s39 x0.1) then
 some (decide ((300:Int)<(List.length (List.getD x0.1 (Int.toNat s39) []):Int)))
 else none
 else none:Option (Bool)).bind fun (j40:Bool)=>
 bif j40 then
 some (Sum.inr (Sum.inr 2))
 else
 bif (Zp 0 s39 x0.1) then
 bif (inB s39 x0.1) then
 (QfV (cut 0 s39 x0.1) (List.getD x0.1 (Int.toNat s39) [])).bind fun (y41:Int)=>
 bif (decide ((0:Int)<y41)) then
 some (Sum.inr (Sum.inr 7))
 else
 some (Sum.inl (IntKind.wrap .i64 (s39+1)))
 else none
 else none
 else
 some (Sum.inr (Sum.inl ()))) 0).bind fun (j42:(Unit)⊕(Int))=>
 Sum.elim (fun (j43:Unit)=>
 (Qh (S:=Int) (X:=(Unit)⊕(Int)) (fun (s57:Int)=>
 bif (decide ((s57:Int)<(List.length x0.2:Int))) then
 (bif (inB s57 x0.2) then
 (QaK (List.getD x0.2 (Int.toNat s57) (0,0)).1).bind fun (y60:Bool)=>
 bif (!y60) then
 some true
 else
 bif (inB s57 x0.2) then
 (Zd (List.getD x0.2 (Int.toNat s57) (0,0)).2 1 (List.length x0.1:Int)).bind fun (y61:Bool)=>
 some (!y61)
 else none
 else none:Option (Bool)).bind fun (j62:Bool)=>
 bif j62 then
 some (Sum.inr (Sum.inr 3))
 else
 bif (Zp 0 s57 x0.2) then
 bif (inB s57 x0.2) then
 (QbB (cut 0 s57 x0.2) (List.getD x0.2 (Int.toNat s57) (0,0))).bind fun (y63:Bool)=>
 bif y63 then
 some (Sum.inr (Sum.inr 7))
 else
 some (Sum.inl (IntKind.wrap .i64 (s57+1)))
 else none
 else none
 else
 some (Sum.inr (Sum.inl ()))) 0).bind fun (j64:(Unit)⊕(Int))=>
 Sum.elim (fun (j65:Unit)=>
 some 0) (fun (j66:Int)=>
 some j66) j64) (fun (j44:Int)=>
 some j44) j42
noncomputable def Jp:Callee:={ ins:=[.rp s1 false],outs:=[((.int .i64),.z)],F:=fun t=>Qax t.1 }
noncomputable def QlL:Ctx:={ tys:=tys,fns:=[(69,JL),(97,Qd2),(107,ZI),(108,Qaa)],frz:=[],lps:=[(4,(⟨[(0,.keep),(3,.st (.int .i64) .z false)],[]⟩,⟨[((.exit 0),⟨[(0,.keep)],[]⟩),(.ret,⟨[(2,.st (.int .i64) .z false)],[]⟩)]⟩)),
 (11,(⟨[(0,.keep),(4,.st (.int .i64) .z false)],[]⟩,⟨[((.exit 2),⟨[],[]⟩),(.ret,⟨[(2,.st (.int .i64) .z false)],[]⟩)]⟩))],jns:=[],rjs:=[(1,⟨[(0,.keep),(18,.st .bool .z false)],[]⟩),
 (6,⟨[(0,.keep),(3,.keep),(47,.st .bool .z false)],[]⟩),
 (13,⟨[(0,.keep),(4,.keep),(98,.st .bool .z false)],[]⟩)] }
noncomputable def J8 (x0:Int):Option (Bool):=
 (Zd x0 0 999).bind fun (y2:Bool)=>
 some y2
noncomputable def Y8:Callee:={ ins:=[.v (.int .i64) .z],outs:=[(.bool,.z)],F:=fun t=>J8 t.1 }
noncomputable def Qkr:Ctx:={ tys:=tys,fns:=[(107,ZI)],frz:=[],lps:=[],jns:=[],rjs:=[] }
noncomputable def Qcf (x0:Int×Int):Option (Bool):=
 ((Zd x0.1 1 60).bind fun (y8:Bool)=>
 bif y8 then
 (Zd x0.2 0 3).bind fun (y9:Bool)=>
 some y9
 else
 some false:Option (Bool)).bind fun (j10:Bool)=>
 some j10
noncomputable def QaT:Callee:={ ins:=[.v s0 .z],outs:=[(.bool,.z)],F:=fun t=>Qcf t.1 }
noncomputable def Qof:Ctx:={ tys:=tys,fns:=[(107,ZI)],frz:=[],lps:=[],jns:=[],rjs:=[(1,⟨[(2,.st .bool .z false)],[]⟩)] }
noncomputable def Qaw (x0:List Int×Int×Int):Option (Int):=
 (Zd (List.length x0.1:Int) 1 3).bind fun (y18:Bool)=>
 bif (!y18) then
 some 2
 else
 (Qh (S:=Int) (X:=(Unit)⊕(Int)) (fun (s21:Int)=>
 bif (decide ((s21:Int)<(List.length x0.1:Int))) then
 bif (inB s21 x0.1) then
 (QaK (List.getD x0.1 (Int.toNat s21) 0)).bind fun (y22:Bool)=>
 bif (!y22) then
 some (Sum.inr (Sum.inr 3))
 else
 some (Sum.inl (IntKind.wrap .i64 (s21+1)))
 else none
 else
 some (Sum.inr (Sum.inl ()))) 0).bind fun (j23:(Unit)⊕(Int))=>
 Sum.elim (fun (j24:Unit)=>
 ((Zd x0.2.1 1 (List.length x0.1:Int)).bind fun (y28:Bool)=>
 bif (!y28) then
 some true
 else
 (J8 x0.2.2).bind fun (y29:Bool)=>
 some (!y29):Option (Bool)).bind fun (j30:Bool)=>
 bif j30 then
 some 3
 else
 (Qh (S:=Int) (X:=(Unit)⊕(Int)) (fun (s31:Int)=>
 bif (decide ((s31:Int)<(List.length x0.1:Int))) then
 bif (inB s31 x0.1) then
 bif (inB (IntKind.wrap .i64 (s31 - 1)) x0.1) then
 bif (decide ((List.getD x0.1 (Int.toNat s31) 0:Int)<=List.getD x0.1 (Int.toNat (IntKind.wrap .i64 (s31 - 1))) 0)) then
 some (Sum.inr (Sum.inr 1))
 else
 some (Sum.inl (IntKind.wrap .i64 (s31+1)))
 else none
 else none
 else
 some (Sum.inr (Sum.inl ()))) 1).bind fun (j32:(Unit)⊕(Int))=>
 Sum.elim (fun (j33:Unit)=>
 some 0) (fun (j34:Int)=>
 some j34) j32) (fun (j25:Int)=>
 some j25) j23
noncomputable def Jr:Callee:={ ins:=[.rp s2 false],outs:=[((.int .i64),.z)],F:=fun t=>Qaw t.1 }
noncomputable def Ql2:Ctx:={ tys:=tys,fns:=[(69,JL),(95,Y8),(107,ZI)],frz:=[],lps:=[(5,(⟨[(0,.keep),(3,.keep),(4,.st (.int .i64) .z false)],[]⟩,⟨[((.exit 0),⟨[(0,.keep),(3,.keep)],[]⟩),(.ret,⟨[(2,.st (.int .i64) .z false)],[]⟩)]⟩)),
 (12,(⟨[(0,.keep),(5,.st (.int .i64) .z false)],[]⟩,⟨[((.exit 2),⟨[],[]⟩),(.ret,⟨[(2,.st (.int .i64) .z false)],[]⟩)]⟩))],jns:=[],rjs:=[(9,⟨[(0,.keep),(46,.st .bool .z false)],[]⟩)] }
noncomputable def Qg0 (x0:Int×List Int×Int×Int):Option (Int):=
 (Zd x0.1 1 1000000).bind fun (y3:Bool)=>
 bif (!y3) then
 some 3
 else
 (Qaw x0.2).bind fun (y4:Int)=>
 some y4
noncomputable def QeR:Callee:={ ins:=[.rp s3 false],outs:=[((.int .i64),.z)],F:=fun t=>Qg0 t.1 }
noncomputable def Qoz:Ctx:={ tys:=tys,fns:=[(107,ZI),(191,Jr)],frz:=[],lps:=[],jns:=[],rjs:=[] }
noncomputable def Qfp (x0:Int×Int) (x1:Int×Int):Option (Bool):=
 bif (!decide ((x0.1:Int)=x1.1)) then
 some (decide ((x0.1:Int)<x1.1))
 else
 some (decide ((x0.2:Int)<x1.2))
noncomputable def Qck:Callee:={ ins:=[.v s0 .z,.v s0 .z],outs:=[(.bool,.z)],F:=fun t=>Qfp t.1 t.2.1 }
noncomputable def QlH:Ctx:={ tys:=tys,fns:=[],frz:=[],lps:=[],jns:=[],rjs:=[] }
noncomputable def Qb6 (x0:List ((Int×Int)×(Int×List Int×Int×Int)×Int×Bool)):Option (Int):=
 bif (decide ((40:Int)<(List.length x0:Int))) then
 some 2
 else
 (Qh (S:=Int) (X:=(Unit)⊕(Int)) (fun (s44:Int)=>
 bif (decide ((s44:Int)<(List.length x0:Int))) then
 (bif (inB s44 x0) then
 (Qcf (List.getD x0 (Int.toNat s44) ((0,0),((0,([],(0,0))),(0,false)))).1).bind fun (y47:Bool)=>
 bif (!y47) then
 some true
 else
 bif (inB s44 x0) then
 (J8 (List.getD x0 (Int.toNat s44) ((0,0),((0,([],(0,0))),(0,false)))).2.2.1).bind fun (y48:Bool)=>
 some (!y48)
 else none
 else none:Option (Bool)).bind fun (j49:Bool)=>
 bif j49 then
 some (Sum.inr (Sum.inr 3))
 else
 bif (inB s44 x0) then
 (Qg0 (List.getD x0 (Int.toNat s44) ((0,0),((0,([],(0,0))),(0,false)))).2.1).bind fun (y50:Int)=>
 bif (!decide ((y50:Int)=0)) then
 some (Sum.inr (Sum.inr y50))
 else
 (bif (decide ((0:Int)<s44)) then
 bif (inB (IntKind.wrap .i64 (s44 - 1)) x0) then
 bif (inB s44 x0) then
 (Qfp (List.getD x0 (Int.toNat (IntKind.wrap .i64 (s44 - 1))) ((0,0),((0,([],(0,0))),(0,false)))).1 (List.getD x0 (Int.toNat s44) ((0,0),((0,([],(0,0))),(0,false)))).1).bind fun (y52:Bool)=>
 some (!y52)
 else none
 else none
 else
 some false:Option (Bool)).bind fun (j53:Bool)=>
 bif j53 then
 some (Sum.inr (Sum.inr 1))
 else
 some (Sum.inl (IntKind.wrap .i64 (s44+1)))
 else none
 else
 some (Sum.inr (Sum.inl ()))) 0).bind fun (j54:(Unit)⊕(Int))=>
 Sum.elim (fun (j55:Unit)=>
 some 0) (fun (j56:Int)=>
 some j56) j54
noncomputable def Qav:Callee:={ ins:=[.v (.list s6) .z],outs:=[((.int .i64),.z)],F:=fun t=>Qb6 t.1 }
noncomputable def QlR:Ctx:={ tys:=tys,fns:=[(95,Y8),(140,QaT),(141,QeR),(142,Qck)],frz:=[],lps:=[(4,(⟨[(0,.keep),(3,.st (.int .i64) .z false)],[]⟩,⟨[((.exit 0),⟨[],[]⟩),(.ret,⟨[(2,.st (.int .i64) .z false)],[]⟩)]⟩))],jns:=[],rjs:=[(6,⟨[(0,.keep),(3,.keep),(29,.st .bool .z false)],[]⟩),
 (11,⟨[(0,.keep),(3,.keep),(54,.st .bool .z false)],[]⟩)] }
noncomputable def QfE (x0:List (Int×Int×Int)):Option (Int):=
 bif (decide ((8:Int)<(List.length x0:Int))) then
 some 2
 else
 (Qh (S:=Int) (X:=(Unit)⊕(Int)) (fun (s47:Int)=>
 bif (decide ((s47:Int)<(List.length x0:Int))) then
 (bif (inB s47 x0) then
 (QaK (List.getD x0 (Int.toNat s47) (0,(0,0))).1).bind fun (y50:Bool)=>
 bif (!y50) then
 some true
 else
 bif (inB s47 x0) then
 (Qcf (List.getD x0 (Int.toNat s47) (0,(0,0))).2).bind fun (y51:Bool)=>
 some (!y51)
 else none
 else none:Option (Bool)).bind fun (j52:Bool)=>
 bif j52 then
 some (Sum.inr (Sum.inr 3))
 else
 (bif (decide ((0:Int)<s47)) then
 bif (inB s47 x0) then
 bif (inB (IntKind.wrap .i64 (s47 - 1)) x0) then
 some (decide (((List.getD x0 (Int.toNat s47) (0,(0,0))).1:Int)<=(List.getD x0 (Int.toNat (IntKind.wrap .i64 (s47 - 1))) (0,(0,0))).1))
 else none
 else none
 else
 some false:Option (Bool)).bind fun (j53:Bool)=>
 bif j53 then
 some (Sum.inr (Sum.inr 1))
 else
 some (Sum.inl (IntKind.wrap .i64 (s47+1)))
 else
 some (Sum.inr (Sum.inl ()))) 0).bind fun (j54:(Unit)⊕(Int))=>
 Sum.elim (fun (j55:Unit)=>
 (Qh (S:=Int) (X:=(Unit)⊕(Int)) (fun (s63:Int)=>
 bif (decide ((s63:Int)<(List.length x0:Int))) then
 (Qh (S:=Int) (X:=(Unit)⊕(Int)) (fun (s64:Int)=>
 bif (decide ((s64:Int)<s63)) then
 bif (inB s64 x0) then
 bif (inB s63 x0) then
 bif (Sh.beq (.prod (.int .i64) (.int .i64)) (List.getD x0 (Int.toNat s64) (0,(0,0))).2 (List.getD x0 (Int.toNat s63) (0,(0,0))).2) then
 some (Sum.inr (Sum.inr 7))
 else
 some (Sum.inl (IntKind.wrap .i64 (s64+1)))
 else none
 else none
 else
 some (Sum.inr (Sum.inl ()))) 0).bind fun (j65:(Unit)⊕(Int))=>
 Sum.elim (fun (j66:Unit)=>
 some (Sum.inl (IntKind.wrap .i64 (s63+1)))) (fun (j67:Int)=>
 some (Sum.inr (Sum.inr j67))) j65
 else
 some (Sum.inr (Sum.inl ()))) 0).bind fun (j68:(Unit)⊕(Int))=>
 Sum.elim (fun (j69:Unit)=>
 some 0) (fun (j70:Int)=>
 some j70) j68) (fun (j56:Int)=>
 some j56) j54
noncomputable def Qch:Callee:={ ins:=[.v (.list s7) .z],outs:=[((.int .i64),.z)],F:=fun t=>QfE t.1 }
noncomputable def Qlf:Ctx:={ tys:=tys,fns:=[(69,JL),(140,QaT)],frz:=[],lps:=[(4,(⟨[(0,.keep),(3,.st (.int .i64) .z false)],[]⟩,⟨[((.exit 0),⟨[(0,.keep)],[]⟩),(.ret,⟨[(2,.st (.int .i64) .z false)],[]⟩)]⟩)),
 (11,(⟨[(0,.keep),(4,.st (.int .i64) .z false)],[]⟩,⟨[((.exit 2),⟨[],[]⟩),(.ret,⟨[(2,.st (.int .i64) .z false)],[]⟩)]⟩)),
 (14,(⟨[(0,.keep),(4,.keep),(5,.st (.int .i64) .z false)],[]⟩,⟨[((.exit 4),⟨[(0,.keep),(4,.keep)],[]⟩),(.ret,⟨[(2,.st (.int .i64) .z false)],[]⟩)]⟩))],jns:=[],rjs:=[(6,⟨[(0,.keep),(3,.keep),(30,.st .bool .z false)],[]⟩),
 (8,⟨[(0,.keep),(3,.keep),(46,.st .bool .z false)],[]⟩)] }
noncomputable def Qfy (x0:Int×Int×List ((Int×Int)×(Int×List Int×Int×Int)×Int×Bool)×List (Int×Int×Int)):Option (Int):=
 ((Zd x0.1 0 60).bind fun (y10:Bool)=>
 bif (!y10) then
 some true
 else
 (Zd x0.2.1 0 40).bind fun (y11:Bool)=>
 some (!y11):Option (Bool)).bind fun (j12:Bool)=>
 bif j12 then
 some 3
 else
 bif (!(Sh.beq .bool (decide ((x0.1:Int)=0)) (decide ((x0.2.1:Int)=0)))) then
 some 1
 else
 (Qb6 x0.2.2.1).bind fun (y13:Int)=>
 bif (!decide ((y13:Int)=0)) then
 some y13
 else
 (QfE x0.2.2.2).bind fun (y14:Int)=>
 some y14
noncomputable def QcH:Callee:={ ins:=[.rp s10 false],outs:=[((.int .i64),.z)],F:=fun t=>Qfy t.1 }
noncomputable def Ql9:Ctx:={ tys:=tys,fns:=[(93,Qav),(107,ZI),(109,Qch)],frz:=[],lps:=[],jns:=[],rjs:=[(1,⟨[(0,.keep),(17,.st .bool .z false)],[]⟩)] }
noncomputable def YG (x0:List (Int×Int)) (x1:Int×Int):Option (Bool):=
 (Qh (S:=Int) (X:=(Unit)⊕(Bool)) (fun (s5:Int)=>
 bif (decide ((s5:Int)<(List.length x0:Int))) then
 bif (inB s5 x0) then
 bif (Sh.beq (.prod (.int .i64) (.int .i64)) (List.getD x0 (Int.toNat s5) (0,0)) x1) then
 some (Sum.inr (Sum.inr true))
 else
 some (Sum.inl (IntKind.wrap .i64 (s5+1)))
 else none
 else
 some (Sum.inr (Sum.inl ()))) 0).bind fun (j6:(Unit)⊕(Bool))=>
 Sum.elim (fun (j7:Unit)=>
 some false) (fun (j8:Bool)=>
 some j8) j6
noncomputable def Yf:Callee:={ ins:=[.v (.list s0) .z,.v s0 .z],outs:=[(.bool,.z)],F:=fun t=>YG t.1 t.2.1 }
noncomputable def QlC:Ctx:={ tys:=tys,fns:=[],frz:=[],lps:=[(2,(⟨[(0,.keep),(3,.keep),(5,.st (.int .i64) .z false)],[(3,.keep)]⟩,⟨[((.exit 0),⟨[],[]⟩),(.ret,⟨[(4,.st .bool .z false)],[]⟩)]⟩))],jns:=[],rjs:=[] }
noncomputable def Qf8 (x0:Int×Int×List (Int×Int)×List (Int×List Int×Int×Int)):Option (Int):=
 (Qh (S:=Int) (X:=(Unit)⊕(Int)) (fun (s16:Int)=>
 bif (decide ((s16:Int)<(List.length x0.2.2.2:Int))) then
 bif (inB s16 x0.2.2.2) then
 (Zd (List.getD x0.2.2.2 (Int.toNat s16) (0,([],(0,0)))).1 1 1000000).bind fun (y17:Bool)=>
 bif (!y17) then
 some (Sum.inr (Sum.inr 3))
 else
 bif (inB s16 x0.2.2.2) then
 (Qaw (List.getD x0.2.2.2 (Int.toNat s16) (0,([],(0,0)))).2).bind fun (y18:Int)=>
 bif (!decide ((y18:Int)=0)) then
 some (Sum.inr (Sum.inr y18))
 else
 some (Sum.inl (IntKind.wrap .i64 (s16+1)))
 else none
 else none
 else
 some (Sum.inr (Sum.inl ()))) 0).bind fun (j19:(Unit)⊕(Int))=>
 Sum.elim (fun (j20:Unit)=>
 (bif (decide ((x0.1:Int)=1)) then
 bif (inB 0 x0.2.2.2) then
 some (decide (((List.getD x0.2.2.2 (Int.toNat 0) (0,([],(0,0)))).1:Int)<100))
 else none
 else
 some false:Option (Bool)).bind fun (j22:Bool)=>
 bif j22 then
 some 8
 else
 some 0) (fun (j21:Int)=>
 some j21) j19
noncomputable def QdW:Callee:={ ins:=[.rp s19 false],outs:=[((.int .i64),.z)],F:=fun t=>Qf8 t.1 }
noncomputable def QnB:Ctx:={ tys:=tys,fns:=[(107,ZI),(191,Jr)],frz:=[],lps:=[(2,(⟨[(0,.keep),(3,.st (.int .i64) .z false)],[]⟩,⟨[((.exit 0),⟨[(0,.keep)],[]⟩),(.ret,⟨[(2,.st (.int .i64) .z false)],[]⟩)]⟩))],jns:=[],rjs:=[(9,⟨[(49,.st .bool .z false)],[]⟩)] }
noncomputable def Qaz (x0:Int×Int×List (Int×Int)×List (Int×List Int×Int×Int)):Option (Int):=
 ((Zd x0.1 0 2).bind fun (y24:Bool)=>
 bif (!y24) then
 some true
 else
 some (!(Sh.beq .bool (decide ((x0.1:Int)=0)) (decide ((x0.2.1:Int)=0)))):Option (Bool)).bind fun (j25:Bool)=>
 bif j25 then
 some 1
 else
 (bif (!decide ((x0.1:Int)=0)) then
 (QaK x0.2.1).bind fun (y27:Bool)=>
 some (!y27)
 else
 some false:Option (Bool)).bind fun (j28:Bool)=>
 bif j28 then
 some 3
 else
 ((Zd (List.length x0.2.2.1:Int) 1 4).bind fun (y31:Bool)=>
 bif (!y31) then
 some true
 else
 (Zd (List.length x0.2.2.2:Int) 1 4).bind fun (y32:Bool)=>
 some (!y32):Option (Bool)).bind fun (j33:Bool)=>
 bif j33 then
 some 2
 else
 (Qh (S:=Int) (X:=(Unit)⊕(Int)) (fun (s38:Int)=>
 bif (decide ((s38:Int)<(List.length x0.2.2.1:Int))) then
 bif (inB s38 x0.2.2.1) then
 (Qcf (List.getD x0.2.2.1 (Int.toNat s38) (0,0))).bind fun (y39:Bool)=>
 bif (!y39) then
 some (Sum.inr (Sum.inr 3))
 else
 bif (Zp 0 s38 x0.2.2.1) then
 bif (inB s38 x0.2.2.1) then
 (YG (cut 0 s38 x0.2.2.1) (List.getD x0.2.2.1 (Int.toNat s38) (0,0))).bind fun (y40:Bool)=>
 bif y40 then
 some (Sum.inr (Sum.inr 7))
 else
 some (Sum.inl (IntKind.wrap .i64 (s38+1)))
 else none
 else none
 else none
 else
 some (Sum.inr (Sum.inl ()))) 0).bind fun (j41:(Unit)⊕(Int))=>
 Sum.elim (fun (j42:Unit)=>
 (Qf8 x0).bind fun (y44:Int)=>
 some y44) (fun (j43:Int)=>
 some j43) j41
noncomputable def Jx:Callee:={ ins:=[.rp s19 false],outs:=[((.int .i64),.z)],F:=fun t=>Qaz t.1 }
noncomputable def Ql1:Ctx:={ tys:=tys,fns:=[(69,JL),(107,ZI),(117,Yf),(140,QaT),(143,QdW)],frz:=[],lps:=[(8,(⟨[(0,.keep),(3,.st (.int .i64) .z false)],[]⟩,⟨[((.exit 0),⟨[(0,.keep)],[]⟩),(.ret,⟨[(2,.st (.int .i64) .z false)],[]⟩)]⟩))],jns:=[],rjs:=[(1,⟨[(0,.keep),(22,.st .bool .z false)],[]⟩),
 (3,⟨[(0,.keep),(35,.st .bool .z false)],[]⟩),
 (5,⟨[(0,.keep),(51,.st .bool .z false)],[]⟩)] }
noncomputable def Za (x0:Int):Option (List UInt8):=
 digS 19 x0
noncomputable def Qg6:Callee:={ ins:=[.v (.int .i64) .z],outs:=[(.str,.z)],F:=fun t=>Za t.1 }
noncomputable def Qae (x0:List UInt8) (x1:Int) (x2:Int):Option (List UInt8):=
 swpS x0 x1 x2
noncomputable def QiN:Callee:={ ins:=[.v .str .z,.v (.int .u8) .z,.v (.int .u8) .z],outs:=[(.str,.z)],F:=fun t=>Qae t.1 t.2.1 t.2.2.1,dm:=false }
noncomputable def QdJ (x0:List Int×Int×Int):Option (List UInt8):=
 (Za x0.2.1).bind fun (y11:List UInt8)=>
 bif decide (List.length y11+List.length [32,111,102,32]<=LIM) then
 bif (inB 0 x0.1) then
 (Za (List.getD x0.1 (Int.toNat 0) 0)).bind fun (y12:List UInt8)=>
 bif decide (List.length (List.append y11 [32,111,102,32])+List.length y12<=LIM) then
 (Qh (S:=List UInt8×Int) (X:=List UInt8) (fun (s15:List UInt8×Int)=>
 bif (decide ((s15.2:Int)<(List.length x0.1:Int))) then
 bif decide (List.length s15.1+List.length [44]<=LIM) then
 bif (inB s15.2 x0.1) then
 (Za (List.getD x0.1 (Int.toNat s15.2) 0)).bind fun (y16:List UInt8)=>
 bif decide (List.length (List.append s15.1 [44])+List.length y16<=LIM) then
 some (Sum.inl (List.append (List.append s15.1 [44]) y16,IntKind.wrap .i64 (s15.2+1)))
 else none
 else none
 else none
 else
 some (Sum.inr s15.1)) (List.append (List.append y11 [32,111,102,32]) y12,1)).bind fun (j17:List UInt8)=>
 (bif (!decide ((x0.2.2:Int)=0)) then
 bif decide (List.length j17+List.length [32,97,102,116,101,114,32]<=LIM) then
 (Za x0.2.2).bind fun (y19:List UInt8)=>
 bif decide (List.length (List.append j17 [32,97,102,116,101,114,32])+List.length y19<=LIM) then
 some (List.append (List.append j17 [32,97,102,116,101,114,32]) y19)
 else none
 else none
 else
 some j17:Option (List UInt8)).bind fun (j20:List UInt8)=>
 some j20
 else none
 else none
 else none
noncomputable def QdO:Callee:={ ins:=[.rp s2 false],outs:=[(.str,.z)],F:=fun t=>QdJ t.1 }
noncomputable def Qnh:Ctx:={ tys:=tys,fns:=[(192,Qg6)],frz:=[],lps:=[(3,(⟨[(0,.keep),(3,.st .str .z false),(4,.st (.int .i64) .z false)],[]⟩,⟨[((.exit 0),⟨[(0,.keep),(3,.st .str .z false)],[]⟩)]⟩))],jns:=[(7,⟨[(.normal,⟨[(3,.st .str .z false)],[]⟩)]⟩)],rjs:=[] }
noncomputable def Qd1 (x0:Int×Int×List (Int×Int)×List (Int×List Int×Int×Int)):Option (List UInt8):=
 bif (inB x0.1 ([[112,97,121],[106,111,105,110,32],[108,101,97,118,101,32]]:List (List UInt8))) then
 (bif (!decide ((x0.1:Int)=0)) then
 (Za x0.2.1).bind fun (y26:List UInt8)=>
 bif decide (List.length (List.getD ([[112,97,121],[106,111,105,110,32],[108,101,97,118,101,32]]:List (List UInt8)) (Int.toNat x0.1) [])+List.length y26<=LIM) then
 some (List.append (List.getD ([[112,97,121],[106,111,105,110,32],[108,101,97,118,101,32]]:List (List UInt8)) (Int.toNat x0.1) []) y26)
 else none
 else
 some (List.getD ([[112,97,121],[106,111,105,110,32],[108,101,97,118,101,32]]:List (List UInt8)) (Int.toNat x0.1) []):Option (List UInt8)).bind fun (j27:List UInt8)=>
 (Qh (S:=List UInt8×Int) (X:=List UInt8) (fun (s33:List UInt8×Int)=>
 bif (decide ((s33.2:Int)<(List.length x0.2.2.1:Int))) then
 (bif (decide ((s33.2:Int)=0)) then
 some [32]
 else
 some [43]:Option (List UInt8)).bind fun (j34:List UInt8)=>
 bif decide (List.length s33.1+List.length j34<=LIM) then
 bif (inB s33.2 x0.2.2.1) then
 (Za (List.getD x0.2.2.1 (Int.toNat s33.2) (0,0)).1).bind fun (y35:List UInt8)=>
 bif decide (List.length (List.append s33.1 j34)+List.length y35<=LIM) then
 bif decide (List.length (List.append (List.append s33.1 j34) y35)+List.length [58]<=LIM) then
 bif (inB s33.2 x0.2.2.1) then
 (Za (List.getD x0.2.2.1 (Int.toNat s33.2) (0,0)).2).bind fun (y36:List UInt8)=>
 bif decide (List.length (List.append (List.append (List.append s33.1 j34) y35) [58])+List.length y36<=LIM) then
 some (Sum.inl (List.append (List.append (List.append (List.append s33.1 j34) y35) [58]) y36,IntKind.wrap .i64 (s33.2+1)))
 else none
 else none
 else none
 else none
 else none
 else none
 else
 some (Sum.inr s33.1)) (j27,0)).bind fun (j37:List UInt8)=>
 (Qh (S:=List UInt8×Int) (X:=List UInt8) (fun (s44:List UInt8×Int)=>
 bif (decide ((s44.2:Int)<(List.length x0.2.2.2:Int))) then
 bif decide (List.length s44.1+List.length [32]<=LIM) then
 bif (inB s44.2 x0.2.2.2) then
 (Za (List.getD x0.2.2.2 (Int.toNat s44.2) (0,([],(0,0)))).1).bind fun (y45:List UInt8)=>
 bif decide (List.length (List.append s44.1 [32])+List.length y45<=LIM) then
 bif decide (List.length (List.append (List.append s44.1 [32]) y45)+List.length [61]<=LIM) then
 bif (inB s44.2 x0.2.2.2) then
 (QdJ (List.getD x0.2.2.2 (Int.toNat s44.2) (0,([],(0,0)))).2).bind fun (y46:List UInt8)=>
 (Qae y46 32 95).bind fun (y47:List UInt8)=>
 bif decide (List.length (List.append (List.append (List.append s44.1 [32]) y45) [61])+List.length y47<=LIM) then
 some (Sum.inl (List.append (List.append (List.append (List.append s44.1 [32]) y45) [61]) y47,IntKind.wrap .i64 (s44.2+1)))
 else none
 else none
 else none
 else none
 else none
 else none
 else
 some (Sum.inr s44.1)) (j37,0)).bind fun (j48:List UInt8)=>
 some j48
 else none
noncomputable def Qbb:Callee:={ ins:=[.rp s19 false],outs:=[(.str,.z)],F:=fun t=>Qd1 t.1,dm:=false }
noncomputable def Qm1:Ctx:={ tys:=tys,fns:=[(192,Qg6),(193,QiN),(194,QdO)],frz:=[],lps:=[(5,(⟨[(0,.keep),(3,.st .str .z false),(4,.st (.int .i64) .z false)],[]⟩,⟨[((.exit 0),⟨[(0,.keep),(3,.st .str .z false)],[]⟩)]⟩)),
 (12,(⟨[(0,.keep),(3,.st .str .z false),(6,.st (.int .i64) .z false)],[]⟩,⟨[((.exit 2),⟨[(3,.st .str .z false)],[]⟩)]⟩))],jns:=[(3,⟨[(.normal,⟨[(0,.keep),(3,.st .str .z false)],[]⟩)]⟩),
 (9,⟨[(.normal,⟨[(0,.keep),(3,.keep),(4,.keep),(5,.st .str .z false)],[]⟩)]⟩)],rjs:=[] }
noncomputable def Qf7 (x0:Int×Int×List (Int×Int)×List (Int×List Int×Int×Int)):Option (Int×List UInt8):=
 (Qaz x0).bind fun (y3:Int)=>
 bif (!decide ((y3:Int)=0)) then
 some (y3,[])
 else
 (Qd1 x0).bind fun (y4:List UInt8)=>
 bif (decide ((300:Int)<(List.length y4:Int))) then
 some (2,[])
 else
 some (0,y4)
noncomputable def Qdo:Callee:={ ins:=[.v s19 .z],outs:=[(s21,.z)],F:=fun t=>Qf7 t.1,dm:=false }
noncomputable def Qnj:Ctx:={ tys:=tys,fns:=[(94,Jx),(144,Qbb)],frz:=[],lps:=[],jns:=[],rjs:=[] }
noncomputable def Qgl (x0:List Int×Int×Int):Option (List Int×Int×Int):=
 bif decide (List.length ([]:List Int)+List.length x0.1<=LIM) then
 some (List.append ([]:List Int) x0.1,x0.2)
 else none
noncomputable def QdZ:Callee:={ ins:=[.v s2 .z],outs:=[(s2,(.p (.o .z) .z))],F:=fun t=>Qgl t.1 }
noncomputable def Qns:Ctx:={ tys:=tys,fns:=[],frz:=[],lps:=[],jns:=[],rjs:=[] }
noncomputable def Qgq (x0:List ((Int×Int)×(Int×List Int×Int×Int)×Int×Bool)):Option (List ((Int×Int)×(Int×List Int×Int×Int)×Int×Bool)):=
 (Qh (S:=List ((Int×Int)×(Int×List Int×Int×Int)×Int×Bool)×Int) (X:=List ((Int×Int)×(Int×List Int×Int×Int)×Int×Bool)) (fun (s8:List ((Int×Int)×(Int×List Int×Int×Int)×Int×Bool)×Int)=>
 bif (decide ((s8.2:Int)<(List.length x0:Int))) then
 bif (inB s8.2 x0) then
 (Qgl (List.getD x0 (Int.toNat s8.2) ((0,0),((0,([],(0,0))),(0,false)))).2.1.2).bind fun (y9:List Int×Int×Int)=>
 bif decide (List.length s8.1+List.length ([((List.getD x0 (Int.toNat s8.2) ((0,0),((0,([],(0,0))),(0,false)))).1,(((List.getD x0 (Int.toNat s8.2) ((0,0),((0,([],(0,0))),(0,false)))).2.1.1,y9),(List.getD x0 (Int.toNat s8.2) ((0,0),((0,([],(0,0))),(0,false)))).2.2))]:List ((Int×Int)×(Int×List Int×Int×Int)×Int×Bool))<=LIM) then
 some (Sum.inl (List.append s8.1 ([((List.getD x0 (Int.toNat s8.2) ((0,0),((0,([],(0,0))),(0,false)))).1,(((List.getD x0 (Int.toNat s8.2) ((0,0),((0,([],(0,0))),(0,false)))).2.1.1,y9),(List.getD x0 (Int.toNat s8.2) ((0,0),((0,([],(0,0))),(0,false)))).2.2))]:List ((Int×Int)×(Int×List Int×Int×Int)×Int×Bool)),IntKind.wrap .i64 (s8.2+1)))
 else none
 else none
 else
 some (Sum.inr s8.1)) (([]:List ((Int×Int)×(Int×List Int×Int×Int)×Int×Bool)),0)).bind fun (j10:List ((Int×Int)×(Int×List Int×Int×Int)×Int×Bool))=>
 some j10
noncomputable def QdU:Callee:={ ins:=[.v (.list s6) .z],outs:=[((.list s6),(.o (.p .z (.p (.p .z (.p (.o .z) .z)) .z))))],F:=fun t=>Qgq t.1 }
noncomputable def Qni:Ctx:={ tys:=tys,fns:=[(224,QdZ)],frz:=[],lps:=[(3,(⟨[(0,.keep),(3,.st (.list s6) (.o (.p .z (.p (.p .z (.p (.o .z) .z)) .z))) false),(4,.st (.int .i64) .z false)],[]⟩,⟨[((.exit 0),⟨[(3,.st (.list s6) (.o (.p .z (.p (.p .z (.p (.o .z) .z)) .z))) false)],[]⟩)]⟩))],jns:=[],rjs:=[] }
noncomputable def Qfl (x0:List ((Int×Int)×(Int×List Int×Int×Int)×Int×Bool)) (x1:Int×Int×List (Int×Int)×List (Int×List Int×Int×Int)):Option (List ((Int×Int)×(Int×List Int×Int×Int)×Int×Bool)×Bool):=
 (Qh (S:=List ((Int×Int)×(Int×List Int×Int×Int)×Int×Bool)×Int) (X:=List ((Int×Int)×(Int×List Int×Int×Int)×Int×Bool)) (fun (s14:List ((Int×Int)×(Int×List Int×Int×Int)×Int×Bool)×Int)=>
 bif (decide ((s14.2:Int)<(List.length x0:Int))) then
 bif (inB s14.2 x0) then
 (YG x1.2.2.1 (List.getD x0 (Int.toNat s14.2) ((0,0),((0,([],(0,0))),(0,false)))).1).bind fun (y15:Bool)=>
 (bif y15 then
 bif (inB s14.2 x0) then
 bif decide (List.length s14.1+List.length ([List.getD x0 (Int.toNat s14.2) ((0,0),((0,([],(0,0))),(0,false)))]:List ((Int×Int)×(Int×List Int×Int×Int)×Int×Bool))<=LIM) then
 some (List.append s14.1 ([List.getD x0 (Int.toNat s14.2) ((0,0),((0,([],(0,0))),(0,false)))]:List ((Int×Int)×(Int×List Int×Int×Int)×Int×Bool)))
 else none
 else none
 else
 some s14.1:Option (List ((Int×Int)×(Int×List Int×Int×Int)×Int×Bool))).bind fun (j16:List ((Int×Int)×(Int×List Int×Int×Int)×Int×Bool))=>
 some (Sum.inl (j16,IntKind.wrap .i64 (s14.2+1)))
 else none
 else
 some (Sum.inr s14.1)) (([]:List ((Int×Int)×(Int×List Int×Int×Int)×Int×Bool)),0)).bind fun (j17:List ((Int×Int)×(Int×List Int×Int×Int)×Int×Bool))=>
 (Qgq j17).bind fun (y18:List ((Int×Int)×(Int×List Int×Int×Int)×Int×Bool))=>
 some (y18,decide (((List.length j17:Int):Int)=(List.length x1.2.2.1:Int)))
noncomputable def Qcs:Callee:={ ins:=[.v (.list s6) .z,.rp s19 false],outs:=[((.list s6),(.o (.p .z (.p (.p .z (.p (.o .z) .z)) .z)))),(.bool,.z)],F:=fun t=>Qfl t.1 t.2.1 }
noncomputable def Qlh:Ctx:={ tys:=tys,fns:=[(117,Yf),(195,QdU)],frz:=[],lps:=[(3,(⟨[(0,.keep),(1,.keep),(6,.st (.list s6) (.o .z) false),(7,.st (.int .i64) .z false)],[]⟩,⟨[((.exit 0),⟨[(1,.keep),(6,.st (.list s6) (.o .z) false)],[]⟩)]⟩))],jns:=[(6,⟨[(.normal,⟨[(0,.keep),(1,.keep),(6,.st (.list s6) (.o .z) false),(7,.keep)],[]⟩)]⟩)],rjs:=[] }
noncomputable def Qgb (x0:(Int×Int)×(Int×List Int×Int×Int)×Int×Bool) (x1:Int):Option (Bool):=
 (bif (!x0.2.2.2) then
 some true
 else
 some (decide ((IntKind.wrap .i64 (x0.2.2.1+2):Int)<=x1)):Option (Bool)).bind fun (j2:Bool)=>
 some j2
noncomputable def Qds:Callee:={ ins:=[.rp s6 false,.v (.int .i64) .z],outs:=[(.bool,.z)],F:=fun t=>Qgb t.1 t.2.1 }
noncomputable def Qnu:Ctx:={ tys:=tys,fns:=[],frz:=[],lps:=[],jns:=[],rjs:=[(1,⟨[(4,.st .bool .z false)],[]⟩)] }
noncomputable def Qcb (x0:List (List UInt8)×List (Int×Int)) (x1:Int) (x2:Int):Option (Bool):=
 (QbB x0.2 (x1,x2)).bind fun (y2:Bool)=>
 some y2
noncomputable def Qb8:Callee:={ ins:=[.rp s1 false,.v (.int .i64) .z,.v (.int .i64) .z],outs:=[(.bool,.z)],F:=fun t=>Qcb t.1 t.2.1 t.2.2.1 }
noncomputable def QoM:Ctx:={ tys:=tys,fns:=[(108,Qaa)],frz:=[],lps:=[],jns:=[],rjs:=[] }
noncomputable def Qhp (x0:List (List UInt8)×List (Int×Int)) (x1:List Int×Int×Int) (x2:Int) (x3:Int):Option (Int):=
 bif (decide ((x3:Int)<x1.2.2)) then
 some 9
 else
 (Qh (S:=Int×Int) (X:=Int) (fun (s13:Int×Int)=>
 bif (decide ((s13.2:Int)<(List.length x1.1:Int))) then
 bif (inB s13.2 x1.1) then
 (Qcb x0 (List.getD x1.1 (Int.toNat s13.2) 0) x2).bind fun (y14:Bool)=>
 (bif y14 then
 some (IntKind.wrap .i64 (s13.1+1))
 else
 some s13.1:Option (Int)).bind fun (j15:Int)=>
 some (Sum.inl (j15,IntKind.wrap .i64 (s13.2+1)))
 else none
 else
 some (Sum.inr s13.1)) (0,0)).bind fun (j16:Int)=>
 bif (decide ((j16:Int)<x1.2.1)) then
 some 6
 else
 some 0
noncomputable def Qey:Callee:={ ins:=[.rp s1 false,.rp s2 false,.v (.int .i64) .z,.v (.int .i64) .z],outs:=[((.int .i64),.z)],F:=fun t=>Qhp t.1 t.2.1 t.2.2.1 t.2.2.2.1 }
noncomputable def QoG:Ctx:={ tys:=tys,fns:=[(148,Qb8)],frz:=[],lps:=[(5,(⟨[(0,.keep),(1,.keep),(2,.keep),(9,.st (.int .i64) .z false),(10,.st (.int .i64) .z false)],[]⟩,⟨[((.exit 0),⟨[(1,.keep),(9,.st (.int .i64) .z false)],[]⟩)]⟩))],jns:=[(8,⟨[(.normal,⟨[(0,.keep),(1,.keep),(2,.keep),(9,.st (.int .i64) .z false),(10,.keep)],[]⟩)]⟩)],rjs:=[] }
noncomputable def Qg4 (x0:List ((Int×Int)×(Int×List Int×Int×Int)×Int×Bool)):Option (Int):=
 (Qh (S:=Int×Int) (X:=Int) (fun (s3:Int×Int)=>
 bif (decide ((s3.2:Int)<(List.length x0:Int))) then
 bif (inB s3.2 x0) then
 some (Sum.inl (IntKind.wrap .i64 (s3.1+(List.getD x0 (Int.toNat s3.2) ((0,0),((0,([],(0,0))),(0,false)))).2.1.1),IntKind.wrap .i64 (s3.2+1)))
 else none
 else
 some (Sum.inr s3.1)) (0,0)).bind fun (j4:Int)=>
 some j4
noncomputable def QeM:Callee:={ ins:=[.v (.list s6) .z],outs:=[((.int .i64),.z)],F:=fun t=>Qg4 t.1 }
noncomputable def Qok:Ctx:={ tys:=tys,fns:=[],frz:=[],lps:=[(3,(⟨[(0,.keep),(3,.st (.int .i64) .z false),(4,.st (.int .i64) .z false)],[]⟩,⟨[((.exit 0),⟨[(3,.st (.int .i64) .z false)],[]⟩)]⟩))],jns:=[],rjs:=[] }
noncomputable def Qhw (x0:Int×Int×List (Int×Int)×List (Int×List Int×Int×Int)):Option (Int):=
 (Qh (S:=Int×Int) (X:=Int) (fun (s3:Int×Int)=>
 bif (decide ((s3.2:Int)<(List.length x0.2.2.2:Int))) then
 bif (inB s3.2 x0.2.2.2) then
 some (Sum.inl (IntKind.wrap .i64 (s3.1+(List.getD x0.2.2.2 (Int.toNat s3.2) (0,([],(0,0)))).1),IntKind.wrap .i64 (s3.2+1)))
 else none
 else
 some (Sum.inr s3.1)) (0,0)).bind fun (j4:Int)=>
 some j4
noncomputable def QeU:Callee:={ ins:=[.rp s19 false],outs:=[((.int .i64),.z)],F:=fun t=>Qhw t.1 }
noncomputable def QoH:Ctx:={ tys:=tys,fns:=[],frz:=[],lps:=[(3,(⟨[(0,.keep),(3,.st (.int .i64) .z false),(4,.st (.int .i64) .z false)],[]⟩,⟨[((.exit 0),⟨[(3,.st (.int .i64) .z false)],[]⟩)]⟩))],jns:=[],rjs:=[] }
noncomputable def Qcw (x0:List (List UInt8)×List (Int×Int)) (x1:List ((Int×Int)×(Int×List Int×Int×Int)×Int×Bool)) (x2:Int×Int×List (Int×Int)×List (Int×List Int×Int×Int)) (x3:Int) (x4:Int):Option (Int×Int):=
 (Qfl x1 x2).bind fun (y17:List ((Int×Int)×(Int×List Int×Int×Int)×Int×Bool)×Bool)=>
 bif (!y17.2) then
 some (0,4)
 else
 (Qh (S:=Int) (X:=(Unit)⊕(Int×Int)) (fun (s22:Int)=>
 bif (decide ((s22:Int)<(List.length y17.1:Int))) then
 bif (inB s22 y17.1) then
 (Qgb (List.getD y17.1 (Int.toNat s22) ((0,0),((0,([],(0,0))),(0,false)))) x4).bind fun (y23:Bool)=>
 bif (!y23) then
 some (Sum.inr (Sum.inr (0,9)))
 else
 bif (inB s22 y17.1) then
 (Qhp x0 (List.getD y17.1 (Int.toNat s22) ((0,0),((0,([],(0,0))),(0,false)))).2.1.2 x3 x4).bind fun (y24:Int)=>
 bif (!decide ((y24:Int)=0)) then
 some (Sum.inr (Sum.inr (0,y24)))
 else
 some (Sum.inl (IntKind.wrap .i64 (s22+1)))
 else none
 else none
 else
 some (Sum.inr (Sum.inl ()))) 0).bind fun (j25:(Unit)⊕(Int×Int))=>
 Sum.elim (fun (j26:Unit)=>
 (bif (decide ((x2.1:Int)=2)) then
 (Qcb x0 x2.2.1 x3).bind fun (y29:Bool)=>
 some (!y29)
 else
 some false:Option (Bool)).bind fun (j30:Bool)=>
 bif j30 then
 some (0,6)
 else
 (Qg4 y17.1).bind fun (y31:Int)=>
 (Qhw x2).bind fun (y32:Int)=>
 bif (decide ((IntKind.wrap .i64 (y31 - y32):Int)<0)) then
 some (0,8)
 else
 some (IntKind.wrap .i64 (y31 - y32),0)) (fun (j27:Int×Int)=>
 some (j27.1,j27.2)) j25
noncomputable def Qcm:Callee:={ ins:=[.rp s1 false,.v (.list s6) .z,.rp s19 false,.v (.int .i64) .z,.v (.int .i64) .z],outs:=[((.int .i64),.z),((.int .i64),.z)],F:=fun t=>Qcw t.1 t.2.1 t.2.2.1 t.2.2.2.1 t.2.2.2.2.1 }
noncomputable def QlI:Ctx:={ tys:=tys,fns:=[(145,Qcs),(146,Qds),(147,Qey),(148,Qb8),(149,QeM),(150,QeU)],frz:=[],lps:=[(5,(⟨[(0,.keep),(2,.keep),(3,.keep),(4,.keep),(12,.keep),(14,.st (.int .i64) .z false)],[]⟩,⟨[((.exit 0),⟨[(0,.keep),(2,.keep),(3,.keep),(12,.keep)],[]⟩),(.ret,⟨[(10,.st (.int .i64) .z false),(11,.st (.int .i64) .z false)],[]⟩)]⟩))],jns:=[],rjs:=[(12,⟨[(2,.keep),(12,.keep),(63,.st .bool .z false)],[]⟩)] }
noncomputable def Qe5 (x0:List (List UInt8)×List (Int×Int)) (x1:List ((Int×Int)×(Int×List Int×Int×Int)×Int×Bool)) (x2:Int×Int×List (Int×Int)×List (Int×List Int×Int×Int)) (x3:Int):Option (Int×Int):=
 (Qax x0).bind fun (y8:Int)=>
 bif (!decide ((y8:Int)=0)) then
 some (y8,0)
 else
 (Qb6 x1).bind fun (y9:Int)=>
 bif (!decide ((y9:Int)=0)) then
 some (y9,0)
 else
 (Qaz x2).bind fun (y10:Int)=>
 bif (!decide ((y10:Int)=0)) then
 some (y10,0)
 else
 (J8 x3).bind fun (y11:Bool)=>
 bif (!y11) then
 some (3,0)
 else
 (Qf7 x2).bind fun (y12:Int×List UInt8)=>
 bif (!decide ((y12.1:Int)=0)) then
 some (y12.1,0)
 else
 (QfV x0.1 y12.2).bind fun (y13:Int)=>
 bif (decide ((y13:Int)=0)) then
 some (4,0)
 else
 (Qcw x0 x1 x2 y13 x3).bind fun (y14:Int×Int)=>
 bif (!decide ((y14.2:Int)=0)) then
 some (y14.2,0)
 else
 some (0,y14.1)
noncomputable def QcF:Callee:={ ins:=[.v s1 .z,.v (.list s6) .z,.v s19 .z,.v (.int .i64) .z],outs:=[(s0,.z)],F:=fun t=>Qe5 t.1 t.2.1 t.2.2.1 t.2.2.2.1,dm:=false }
noncomputable def Qlk:Ctx:={ tys:=tys,fns:=[(59,Jp),(93,Qav),(94,Jx),(95,Y8),(96,Qdo),(97,Qd2),(98,Qcm)],frz:=[],lps:=[],jns:=[],rjs:=[] }
noncomputable def QjO (x0:Int) (x1:Int):Option (Int):=
 bif (decide ((x0:Int)<x1)) then
 some x0
 else
 some x1
noncomputable def Qe2:Callee:={ ins:=[.v (.int .i64) .z,.v (.int .i64) .z],outs:=[((.int .i64),.z)],F:=fun t=>QjO t.1 t.2.1 }
noncomputable def Qom:Ctx:={ tys:=tys,fns:=[],frz:=[],lps:=[],jns:=[],rjs:=[] }
noncomputable def Qfv (x0:Int×Int×List ((Int×Int)×(Int×List Int×Int×Int)×Int×Bool)×List (Int×Int×Int)):Option (Int):=
 (QjO (IntKind.wrap .i64 (x0.2.1+1)) 40).bind fun (y2:Int)=>
 some y2
noncomputable def Qcy:Callee:={ ins:=[.rp s10 false],outs:=[((.int .i64),.z)],F:=fun t=>Qfv t.1 }
noncomputable def Qmh:Ctx:={ tys:=tys,fns:=[(70,Qe2)],frz:=[],lps:=[],jns:=[],rjs:=[] }
noncomputable def Qk1 (x0:List (List UInt8)×List (Int×Int)) (x1:Int):Option (Bool):=
 (Zd x1 1 (List.length x0.1:Int)).bind fun (y2:Bool)=>
 some y2
noncomputable def QfO:Callee:={ ins:=[.rp s1 false,.v (.int .i64) .z],outs:=[(.bool,.z)],F:=fun t=>Qk1 t.1 t.2.1 }
noncomputable def Qqd:Ctx:={ tys:=tys,fns:=[(107,ZI)],frz:=[],lps:=[],jns:=[],rjs:=[] }
noncomputable def QiL (x0:List (List UInt8)×List (Int×Int)) (x1:Int):Option (Int×List UInt8):=
 (Qax x0).bind fun (y3:Int)=>
 bif (!decide ((y3:Int)=0)) then
 some (y3,[])
 else
 (Qk1 x0 x1).bind fun (y4:Bool)=>
 bif (!y4) then
 some (3,[])
 else
 bif (inB (IntKind.wrap .i64 (x1 - 1)) x0.1) then
 some (0,List.getD x0.1 (Int.toNat (IntKind.wrap .i64 (x1 - 1))) [])
 else none
noncomputable def QdL:Callee:={ ins:=[.v s1 .z,.v (.int .i64) .z],outs:=[(s21,.z)],F:=fun t=>QiL t.1 t.2.1 }
noncomputable def Qna:Ctx:={ tys:=tys,fns:=[(59,Jp),(162,QfO)],frz:=[],lps:=[],jns:=[],rjs:=[] }
noncomputable def Y1 (x0:List UInt8) (x1:Int):Option (List (List UInt8)):=
 (Qh (S:=List (List UInt8)×Int×Int) (X:=List (List UInt8)) (fun (s13:List (List UInt8)×Int×Int)=>
 bif (decide ((s13.2.2:Int)<=(List.length x0:Int))) then
 (bif (decide ((s13.2.2:Int)=(List.length x0:Int))) then
 some true
 else
 bif (inB s13.2.2 x0) then
 some (decide ((((List.getD x0 (Int.toNat s13.2.2) 0).toNat:Int):Int)=x1))
 else none:Option (Bool)).bind fun (j14:Bool)=>
 (bif j14 then
 bif (Zp s13.2.1 s13.2.2 x0) then
 bif decide (List.length s13.1+List.length ([cut s13.2.1 s13.2.2 x0]:List (List UInt8))<=LIM) then
 some (List.append s13.1 ([cut s13.2.1 s13.2.2 x0]:List (List UInt8)),IntKind.wrap .i64 (s13.2.2+1))
 else none
 else none
 else
 some (s13.1,s13.2.1):Option (List (List UInt8)×Int)).bind fun (j15:List (List UInt8)×Int)=>
 some (Sum.inl (j15.1,(j15.2,IntKind.wrap .i64 (s13.2.2+1))))
 else
 some (Sum.inr s13.1)) (([]:List (List UInt8)),(0,0))).bind fun (j16:List (List UInt8))=>
 some j16
noncomputable def QaU:Callee:={ ins:=[.v .str .z,.v (.int .u8) .z],outs:=[((.list .str),(.o .z))],F:=fun t=>Y1 t.1 t.2.1 }
noncomputable def Qn4:Ctx:={ tys:=tys,fns:=[],frz:=[],lps:=[(4,(⟨[(0,.keep),(1,.keep),(5,.st (.list .str) (.o .z) false),(6,.st (.int .i64) .z false),(7,.st (.int .i64) .z false)],[]⟩,⟨[((.exit 0),⟨[(5,.st (.list .str) (.o .z) false)],[]⟩)]⟩))],jns:=[(7,⟨[(.normal,⟨[(0,.keep),(1,.keep),(5,.st (.list .str) (.o .z) false),(6,.st (.int .i64) .z false),(7,.keep)],[]⟩)]⟩)],rjs:=[(6,⟨[(0,.keep),(1,.keep),(5,.keep),(6,.keep),(7,.keep),(25,.st .bool .z false)],[]⟩)] }
noncomputable def QR (x0:List UInt8) (x1:Int):Option (Int×Bool):=
 (bif (decide (((List.length x0:Int):Int)<1)) then
 some true
 else
 bif (decide ((x1:Int)<(List.length x0:Int))) then
 some true
 else
 bif (decide ((1:Int)<(List.length x0:Int))) then
 bif (inB 0 x0) then
 some (decide ((((List.getD x0 (Int.toNat 0) 0).toNat:Int):Int)=48))
 else none
 else
 some false:Option (Bool)).bind fun (j9:Bool)=>
 bif j9 then
 some (0,false)
 else
 (Qh (S:=Int×Int) (X:=(Int)⊕(Int×Bool)) (fun (s12:Int×Int)=>
 bif (decide ((s12.2:Int)<(List.length x0:Int))) then
 (bif (inB s12.2 x0) then
 bif (decide ((((List.getD x0 (Int.toNat s12.2) 0).toNat:Int):Int)<48)) then
 some true
 else
 bif (inB s12.2 x0) then
 some (decide ((57:Int)<((List.getD x0 (Int.toNat s12.2) 0).toNat:Int)))
 else none
 else none:Option (Bool)).bind fun (j13:Bool)=>
 bif j13 then
 some (Sum.inr (Sum.inr (0,false)))
 else
 bif (inB s12.2 x0) then
 some (Sum.inl (IntKind.wrap .i64 ((IntKind.wrap .i64 (s12.1 * 10))+(IntKind.wrap .i64 (IntKind.wrap .u8 (((List.getD x0 (Int.toNat s12.2) 0).toNat:Int) - 48)))),IntKind.wrap .i64 (s12.2+1)))
 else none
 else
 some (Sum.inr (Sum.inl s12.1))) (0,0)).bind fun (j14:(Int)⊕(Int×Bool))=>
 Sum.elim (fun (j15:Int)=>
 some (j15,true)) (fun (j16:Int×Bool)=>
 some (j16.1,j16.2)) j14
noncomputable def YV:Callee:={ ins:=[.v .str .z,.v (.int .i64) .z],outs:=[((.int .i64),.z),(.bool,.z)],F:=fun t=>QR t.1 t.2.1 }
noncomputable def QkN:Ctx:={ tys:=tys,fns:=[],frz:=[],lps:=[(5,(⟨[(0,.keep),(6,.st (.int .i64) .z false),(7,.st (.int .i64) .z false)],[]⟩,⟨[((.exit 0),⟨[(6,.st (.int .i64) .z false)],[]⟩),(.ret,⟨[(4,.st (.int .i64) .z false),(5,.st .bool .z false)],[]⟩)]⟩))],jns:=[],rjs:=[(1,⟨[(0,.keep),(26,.st .bool .z false)],[]⟩),
 (7,⟨[(0,.keep),(6,.keep),(7,.keep),(42,.st .bool .z false)],[]⟩)] }
noncomputable def QhE (x0:List UInt8):Option (List (Int×Int)×Bool):=
 (Y1 x0 43).bind fun (y18:List (List UInt8))=>
 (Qh (S:=List (Int×Int)×Int) (X:=(List (Int×Int))⊕(List (Int×Int)×Bool)) (fun (s27:List (Int×Int)×Int)=>
 bif (decide ((s27.2:Int)<(List.length y18:Int))) then
 bif (inB s27.2 y18) then
 (Y1 (List.getD y18 (Int.toNat s27.2) []) 58).bind fun (y28:List (List UInt8))=>
 bif (!decide (((List.length y28:Int):Int)=2)) then
 some (Sum.inr (Sum.inr (([]:List (Int×Int)),false)))
 else
 bif (inB 0 y28) then
 (QR (List.getD y28 (Int.toNat 0) []) 2).bind fun (y29:Int×Bool)=>
 bif (inB 1 y28) then
 (QR (List.getD y28 (Int.toNat 1) []) 1).bind fun (y30:Int×Bool)=>
 (bif (!y29.2) then
 some true
 else
 some (!y30.2):Option (Bool)).bind fun (j31:Bool)=>
 bif j31 then
 some (Sum.inr (Sum.inr (([]:List (Int×Int)),false)))
 else
 bif decide (List.length s27.1+List.length ([(y29.1,y30.1)]:List (Int×Int))<=LIM) then
 some (Sum.inl (List.append s27.1 ([(y29.1,y30.1)]:List (Int×Int)),IntKind.wrap .i64 (s27.2+1)))
 else none
 else none
 else none
 else none
 else
 some (Sum.inr (Sum.inl s27.1))) (([]:List (Int×Int)),0)).bind fun (j32:(List (Int×Int))⊕(List (Int×Int)×Bool))=>
 Sum.elim (fun (j33:List (Int×Int))=>
 some (j33,true)) (fun (j34:List (Int×Int)×Bool)=>
 some (j34.1,j34.2)) j32
noncomputable def Qez:Callee:={ ins:=[.v .str .z],outs:=[((.list s0),(.o .z)),(.bool,.z)],F:=fun t=>QhE t.1 }
noncomputable def Qn2:Ctx:={ tys:=tys,fns:=[(206,QaU),(207,YV)],frz:=[],lps:=[(4,(⟨[(4,.st (.list s0) (.o .z) false),(5,.keep),(6,.st (.int .i64) .z false)],[]⟩,⟨[((.exit 0),⟨[(4,.st (.list s0) (.o .z) false)],[]⟩),(.ret,⟨[(2,.st (.list s0) (.o .z) false),(3,.st .bool .z false)],[]⟩)]⟩))],jns:=[],rjs:=[(11,⟨[(4,.keep),(5,.keep),(6,.keep),(8,.keep),(10,.keep),(48,.st .bool .z false)],[]⟩)] }
noncomputable def Qe4 (x0:List UInt8):Option ((List Int×Int×Int)×Bool):=
 (Y1 x0 32).bind fun (y21:List (List UInt8))=>
 (bif (!decide (((List.length y21:Int):Int)=3)) then
 bif (!decide (((List.length y21:Int):Int)=5)) then
 some true
 else
 bif (inB 1 y21) then
 some (!decide ((List.getD y21 (Int.toNat 1) []:List UInt8)=[111,102]))
 else none
 else
 bif (inB 1 y21) then
 some (!decide ((List.getD y21 (Int.toNat 1) []:List UInt8)=[111,102]))
 else none:Option (Bool)).bind fun (j22:Bool)=>
 bif j22 then
 some (([],(0,0)),false)
 else
 bif (inB 0 y21) then
 (QR (List.getD y21 (Int.toNat 0) []) 1).bind fun (y23:Int×Bool)=>
 bif (inB 2 y21) then
 (Y1 (List.getD y21 (Int.toNat 2) []) 44).bind fun (y24:List (List UInt8))=>
 (Qh (S:=Bool×Int×List Int×Int×Int) (X:=Bool×List Int×Int×Int) (fun (s29:Bool×Int×List Int×Int×Int)=>
 bif (decide ((s29.2.1:Int)<(List.length y24:Int))) then
 bif (inB s29.2.1 y24) then
 (QR (List.getD y24 (Int.toNat s29.2.1) []) 3).bind fun (y30:Int×Bool)=>
 (bif s29.1 then
 some y30.2
 else
 some false:Option (Bool)).bind fun (j31:Bool)=>
 bif decide (List.length s29.2.2.1+List.length ([y30.1]:List Int)<=LIM) then
 some (Sum.inl (j31,(IntKind.wrap .i64 (s29.2.1+1),(List.append s29.2.2.1 ([y30.1]:List Int),s29.2.2.2))))
 else none
 else none
 else
 some (Sum.inr (s29.1,s29.2.2))) (y23.2,(0,([],(y23.1,0))))).bind fun (j32:Bool×List Int×Int×Int)=>
 (bif (decide (((List.length y21:Int):Int)=5)) then
 bif (inB 4 y21) then
 (QR (List.getD y21 (Int.toNat 4) []) 3).bind fun (y35:Int×Bool)=>
 (bif j32.1 then
 bif y35.2 then
 bif (inB 3 y21) then
 bif (decide ((List.getD y21 (Int.toNat 3) []:List UInt8)=[97,102,116,101,114])) then
 some (decide ((0:Int)<y35.1))
 else
 some false
 else none
 else
 some false
 else
 some false:Option (Bool)).bind fun (j36:Bool)=>
 some (j36,(j32.2.1,(j32.2.2.1,y35.1)))
 else none
 else
 some (j32.1,j32.2):Option (Bool×List Int×Int×Int)).bind fun (j37:Bool×List Int×Int×Int)=>
 (bif j37.1 then
 (Qaw j37.2).bind fun (y39:Int)=>
 some (decide ((y39:Int)=0),j37.2)
 else
 some (false,j37.2):Option (Bool×List Int×Int×Int)).bind fun (j40:Bool×List Int×Int×Int)=>
 some (j40.2,j40.1)
 else none
 else none
noncomputable def Qcd:Callee:={ ins:=[.v .str .z],outs:=[(s2,(.p (.o .z) .z)),(.bool,.z)],F:=fun t=>Qe4 t.1 }
noncomputable def QlU:Ctx:={ tys:=tys,fns:=[(191,Jr),(206,QaU),(207,YV)],frz:=[],lps:=[(8,(⟨[(2,.keep),(4,.keep),(6,.st .bool .z false),(7,.keep),(8,.keep),(9,.st (.int .i64) .z false)],[(2,.keep),(7,.st s2 (.p (.o .z) .z) false)]⟩,⟨[((.exit 0),⟨[(2,.keep),(4,.keep),(6,.st .bool .z false),(7,.keep)],[(2,.keep),(7,.st s2 (.p (.o .z) .z) false)]⟩)]⟩))],jns:=[(14,⟨[(.normal,⟨[(2,.keep),(6,.st .bool .z false),(7,.keep)],[(2,.keep),(7,.st s2 (.p (.o .z) .z) false)]⟩)]⟩)],rjs:=[(2,⟨[(2,.keep),(4,.keep),(29,.st .bool .z false)],[(2,.keep)]⟩),
 (11,⟨[(2,.keep),(4,.keep),(6,.st .bool .z false),(7,.keep),(8,.keep),(9,.keep),(10,.keep)],[(2,.keep),(7,.keep)]⟩),
 (15,⟨[(2,.keep),(6,.st .bool .z false),(7,.keep),(12,.keep)],[(2,.keep),(7,.keep)]⟩),
 (17,⟨[(2,.keep),(3,.st .bool .z false)],[(2,.st s2 (.p (.o .z) .z) false)]⟩)] }
noncomputable def Qfd (x0:List UInt8):Option ((Int×Int×List (Int×Int)×List (Int×List Int×Int×Int))×Bool):=
 (Y1 x0 32).bind fun (y38:List (List UInt8))=>
 (bif (inB 0 y38) then
 bif (decide ((List.getD y38 (Int.toNat 0) []:List UInt8)=[106,111,105,110])) then
 some true
 else
 bif (inB 0 y38) then
 some (decide ((List.getD y38 (Int.toNat 0) []:List UInt8)=[108,101,97,118,101]))
 else none
 else none:Option (Bool)).bind fun (j39:Bool)=>
 (bif j39 then
 bif (decide (((List.length y38:Int):Int)<2)) then
 some (Sum.inr (false,(0,(0,([],[])))))
 else
 bif (inB 1 y38) then
 (QR (List.getD y38 (Int.toNat 1) []) 3).bind fun (y42:Int×Bool)=>
 bif (!y42.2) then
 some (Sum.inr (false,(0,(0,([],[])))))
 else
 bif (inB 0 y38) then
 (bif (decide ((List.getD y38 (Int.toNat 0) []:List UInt8)=[108,101,97,118,101])) then
 some (2,(0,([],[])))
 else
 some (1,(0,([],[]))):Option (Int×Int×List (Int×Int)×List (Int×List Int×Int×Int))).bind fun (j43:Int×Int×List (Int×Int)×List (Int×List Int×Int×Int))=>
 some (Sum.inl (2,(j43.1,(y42.1,j43.2.2))))
 else none
 else none
 else
 bif (inB 0 y38) then
 bif (!decide ((List.getD y38 (Int.toNat 0) []:List UInt8)=[112,97,121])) then
 some (Sum.inr (false,(0,(0,([],[])))))
 else
 some (Sum.inl (1,(0,(0,([],[])))))
 else none:Option ((Int×Int×Int×List (Int×Int)×List (Int×List Int×Int×Int))⊕(Bool×Int×Int×List (Int×Int)×List (Int×List Int×Int×Int)))).bind fun (j44:(Int×Int×Int×List (Int×Int)×List (Int×List Int×Int×Int))⊕(Bool×Int×Int×List (Int×Int)×List (Int×List Int×Int×Int)))=>
 Sum.elim (fun (j45:Int×Int×Int×List (Int×Int)×List (Int×List Int×Int×Int))=>
 bif (decide (((List.length y38:Int):Int)<IntKind.wrap .i64 (j45.1+2))) then
 some (j45.2,false)
 else
 bif (inB j45.1 y38) then
 (QhE (List.getD y38 (Int.toNat j45.1) [])).bind fun (y47:List (Int×Int)×Bool)=>
 (Qh (S:=Bool×Int×Int×Int×List (Int×Int)×List (Int×List Int×Int×Int)) (X:=(Bool×Int×Int×List (Int×Int)×List (Int×List Int×Int×Int))⊕(Bool×Int×Int×List (Int×Int)×List (Int×List Int×Int×Int))) (fun (s60:Bool×Int×Int×Int×List (Int×Int)×List (Int×List Int×Int×Int))=>
 (bif (decide ((s60.2.1:Int)<(List.length y38:Int))) then
 some s60.1
 else
 some false:Option (Bool)).bind fun (j61:Bool)=>
 bif j61 then
 bif (inB s60.2.1 y38) then
 (Y1 (List.getD y38 (Int.toNat s60.2.1) []) 61).bind fun (y62:List (List UInt8))=>
 bif (!decide (((List.length y62:Int):Int)=2)) then
 some (Sum.inr (Sum.inr (false,s60.2.2)))
 else
 bif (inB 0 y62) then
 (QR (List.getD y62 (Int.toNat 0) []) 7).bind fun (y63:Int×Bool)=>
 bif (inB 1 y62) then
 (Qae (List.getD y62 (Int.toNat 1) []) 95 32).bind fun (y64:List UInt8)=>
 (Qe4 y64).bind fun (y65:(List Int×Int×Int)×Bool)=>
 (bif y63.2 then
 some y65.2
 else
 some false:Option (Bool)).bind fun (j66:Bool)=>
 bif decide (List.length s60.2.2.2.2.2+List.length ([(y63.1,y65.1)]:List (Int×List Int×Int×Int))<=LIM) then
 some (Sum.inl (j66,(IntKind.wrap .i64 (s60.2.1+1),(s60.2.2.1,(s60.2.2.2.1,(s60.2.2.2.2.1,List.append s60.2.2.2.2.2 ([(y63.1,y65.1)]:List (Int×List Int×Int×Int))))))))
 else none
 else none
 else none
 else none
 else
 some (Sum.inr (Sum.inl (s60.1,s60.2.2)))) (y47.2,(IntKind.wrap .i64 (j45.1+1),(j45.2.1,(j45.2.2.1,(y47.1,j45.2.2.2.2)))))).bind fun (j67:(Bool×Int×Int×List (Int×Int)×List (Int×List Int×Int×Int))⊕(Bool×Int×Int×List (Int×Int)×List (Int×List Int×Int×Int)))=>
 Sum.elim (fun (j68:Bool×Int×Int×List (Int×Int)×List (Int×List Int×Int×Int))=>
 (bif j68.1 then
 (Qaz j68.2).bind fun (y72:Int)=>
 bif (decide ((y72:Int)=0)) then
 (Qd1 j68.2).bind fun (y73:List UInt8)=>
 bif (decide ((y73:List UInt8)=x0)) then
 some (decide (((List.length x0:Int):Int)<=300),j68.2)
 else
 some (false,j68.2)
 else
 some (false,j68.2)
 else
 some (false,j68.2):Option (Bool×Int×Int×List (Int×Int)×List (Int×List Int×Int×Int))).bind fun (j74:Bool×Int×Int×List (Int×Int)×List (Int×List Int×Int×Int))=>
 some (j74.2,j74.1)) (fun (j69:Bool×Int×Int×List (Int×Int)×List (Int×List Int×Int×Int))=>
 some (j69.2,j69.1)) j67
 else none) (fun (j46:Bool×Int×Int×List (Int×Int)×List (Int×List Int×Int×Int))=>
 some (j46.2,j46.1)) j44
noncomputable def Qca:Callee:={ ins:=[.v .str .z],outs:=[(s19,(.p .z (.p .z (.p (.o .z) (.o (.p .z (.p (.o .z) .z))))))),(.bool,.z)],F:=fun t=>Qfd t.1,dm:=false }
noncomputable def Qmd:Ctx:={ tys:=tys,fns:=[(94,Jx),(144,Qbb),(193,QiN),(206,QaU),(207,YV),(208,Qez),(209,Qcd)],frz:=[],lps:=[(22,(⟨[(0,.keep),(2,.keep),(4,.keep),(5,.keep),(10,.st .bool .z false),(11,.st (.int .i64) .z false)],[(2,.keep),(5,.st s19 (.p .z (.p .z (.p (.o .z) (.o (.p .z (.p (.o .z) .z)))))) false)]⟩,⟨[((.exit 0),⟨[(0,.keep),(2,.keep),(5,.keep),(10,.st .bool .z false)],[(2,.keep),(5,.st s19 (.p .z (.p .z (.p (.o .z) (.o (.p .z (.p (.o .z) .z)))))) false)]⟩),(.ret,⟨[(2,.keep),(3,.st .bool .z false)],[(2,.st s19 (.p .z (.p .z (.p (.o .z) (.o (.p .z (.p (.o .z) .z)))))) false)]⟩)]⟩))],jns:=[(5,⟨[(.normal,⟨[(0,.keep),(2,.keep),(4,.keep),(5,.keep),(6,.st (.int .i64) .z false)],[(2,.keep),(5,.st s19 (.p .z (.p .z (.p (.o .z) (.o (.p .z (.p (.o .z) .z)))))) false)]⟩),(.ret,⟨[(2,.keep),(3,.st .bool .z false)],[(2,.st s19 (.p .z (.p .z (.p (.o .z) (.o (.p .z (.p (.o .z) .z)))))) false)]⟩)]⟩),
 (12,⟨[(.normal,⟨[(0,.keep),(2,.keep),(4,.keep),(5,.keep),(7,.keep)],[(2,.keep),(5,.st s19 (.p .z (.p .z (.p (.o .z) (.o (.p .z (.p (.o .z) .z)))))) false)]⟩)]⟩)],rjs:=[(4,⟨[(0,.keep),(2,.keep),(4,.keep),(5,.keep),(6,.keep),(29,.st .bool .z false)],[(2,.keep),(5,.keep)]⟩),
 (22,⟨[(0,.keep),(2,.keep),(4,.keep),(5,.keep),(10,.keep),(11,.keep),(81,.st .bool .z false)],[(2,.keep),(5,.keep)]⟩),
 (29,⟨[(0,.keep),(2,.keep),(4,.keep),(5,.keep),(10,.st .bool .z false),(11,.keep),(13,.keep),(15,.keep)],[(2,.keep),(5,.keep),(15,.keep)]⟩),
 (31,⟨[(2,.keep),(3,.st .bool .z false)],[(2,.st s19 (.p .z (.p .z (.p (.o .z) (.o (.p .z (.p (.o .z) .z)))))) false)]⟩)] }
noncomputable def QhZ (x0:List UInt8):Option (Int×Int×Int×List (Int×Int)×List (Int×List Int×Int×Int)):=
 (Qfd x0).bind fun (y2:(Int×Int×List (Int×Int)×List (Int×List Int×Int×Int))×Bool)=>
 bif (!y2.2) then
 some (5,(0,(0,([],[]))))
 else
 some (0,y2.1)
noncomputable def Qcz:Callee:={ ins:=[.v .str .z],outs:=[(s20,(.p .z (.p .z (.p .z (.p (.o .z) (.o (.p .z (.p (.o .z) .z))))))))],F:=fun t=>QhZ t.1,dm:=false }
noncomputable def Ql7:Ctx:={ tys:=tys,fns:=[(163,Qca)],frz:=[],lps:=[],jns:=[],rjs:=[] }
noncomputable def Qid (x0:List (List UInt8)×List (Int×Int)) (x1:Int):Option (Int×Int×Int×List (Int×Int)×List (Int×List Int×Int×Int)):=
 (QiL x0 x1).bind fun (y3:Int×List UInt8)=>
 bif (!decide ((y3.1:Int)=0)) then
 some (y3.1,(0,(0,([],[]))))
 else
 (QhZ y3.2).bind fun (y4:Int×Int×Int×List (Int×Int)×List (Int×List Int×Int×Int))=>
 some y4
noncomputable def QfS:Callee:={ ins:=[.v s1 .z,.v (.int .i64) .z],outs:=[(s20,(.p .z (.p .z (.p .z (.p (.o .z) (.o (.p .z (.p (.o .z) .z))))))))],F:=fun t=>Qid t.1 t.2.1,dm:=false }
noncomputable def Qp7:Ctx:={ tys:=tys,fns:=[(115,QdL),(116,Qcz)],frz:=[],lps:=[],jns:=[],rjs:=[] }
noncomputable def Qe3 (x0:Int×Int×List (Int×Int)×List (Int×List Int×Int×Int)) (x1:Int×Int×List (Int×Int)×List (Int×List Int×Int×Int)):Option (Bool):=
 (Qh (S:=Int) (X:=(Unit)⊕(Bool)) (fun (s10:Int)=>
 bif (decide ((s10:Int)<(List.length x0.2.2.1:Int))) then
 bif (inB s10 x0.2.2.1) then
 (YG x1.2.2.1 (List.getD x0.2.2.1 (Int.toNat s10) (0,0))).bind fun (y11:Bool)=>
 bif y11 then
 some (Sum.inr (Sum.inr true))
 else
 some (Sum.inl (IntKind.wrap .i64 (s10+1)))
 else none
 else
 some (Sum.inr (Sum.inl ()))) 0).bind fun (j12:(Unit)⊕(Bool))=>
 Sum.elim (fun (j13:Unit)=>
 some false) (fun (j14:Bool)=>
 some j14) j12
noncomputable def QcE:Callee:={ ins:=[.rp s19 false,.rp s19 false],outs:=[(.bool,.z)],F:=fun t=>Qe3 t.1 t.2.1 }
noncomputable def QlY:Ctx:={ tys:=tys,fns:=[(117,Yf)],frz:=[],lps:=[(2,(⟨[(0,.keep),(1,.keep),(5,.st (.int .i64) .z false)],[]⟩,⟨[((.exit 0),⟨[],[]⟩),(.ret,⟨[(4,.st .bool .z false)],[]⟩)]⟩))],jns:=[],rjs:=[] }
noncomputable def QbV (x0:List (Int×Int×Int)) (x1:Int):Option (Int):=
 (Qh (S:=Int) (X:=(Unit)⊕(Int)) (fun (s5:Int)=>
 bif (decide ((s5:Int)<(List.length x0:Int))) then
 bif (inB s5 x0) then
 bif (decide (((List.getD x0 (Int.toNat s5) (0,(0,0))).1:Int)=x1)) then
 some (Sum.inr (Sum.inr s5))
 else
 some (Sum.inl (IntKind.wrap .i64 (s5+1)))
 else none
 else
 some (Sum.inr (Sum.inl ()))) 0).bind fun (j6:(Unit)⊕(Int))=>
 Sum.elim (fun (j7:Unit)=>
 some (-1)) (fun (j8:Int)=>
 some j8) j6
noncomputable def QbP:Callee:={ ins:=[.v (.list s7) .z,.v (.int .i64) .z],outs:=[((.int .i64),.z)],F:=fun t=>QbV t.1 t.2.1 }
noncomputable def QpY:Ctx:={ tys:=tys,fns:=[],frz:=[],lps:=[(2,(⟨[(0,.keep),(1,.keep),(5,.st (.int .i64) .z false)],[]⟩,⟨[((.exit 0),⟨[],[]⟩),(.ret,⟨[(4,.st (.int .i64) .z false)],[]⟩)]⟩))],jns:=[],rjs:=[] }
noncomputable def Qep (x0:Int×Int×List ((Int×Int)×(Int×List Int×Int×Int)×Int×Bool)×List (Int×Int×Int)) (x1:Int×Int×List (Int×Int)×List (Int×List Int×Int×Int)) (x2:Int×Int×List (Int×Int)×List (Int×List Int×Int×Int)):Option (Bool):=
 (QbV x0.2.2.2 x2.2.1).bind fun (y5:Int)=>
 (bif (decide ((x2.1:Int)=2)) then
 bif (decide ((0:Int)<=y5)) then
 bif (inB y5 x0.2.2.2) then
 (YG x1.2.2.1 (List.getD x0.2.2.2 (Int.toNat y5) (0,(0,0))).2).bind fun (y7:Bool)=>
 some y7
 else none
 else
 some false
 else
 some false:Option (Bool)).bind fun (j8:Bool)=>
 some j8
noncomputable def Qby:Callee:={ ins:=[.rp s10 false,.rp s19 false,.rp s19 false],outs:=[(.bool,.z)],F:=fun t=>Qep t.1 t.2.1 t.2.2.1 }
noncomputable def Qkx:Ctx:={ tys:=tys,fns:=[(117,Yf),(160,QbP)],frz:=[],lps:=[],jns:=[],rjs:=[(2,⟨[(6,.st .bool .z false)],[]⟩)] }
noncomputable def Qdn (x0:List (Int×Int×Int)) (x1:Int×Int×Int):Option (List (Int×Int×Int)×Int):=
 (QbV x0 x1.1).bind fun (y9:Int)=>
 bif (decide ((0:Int)<=y9)) then
 some (([]:List (Int×Int×Int)),7)
 else
 (Qh (S:=Int×Int) (X:=(Int)⊕(List (Int×Int×Int)×Int)) (fun (s12:Int×Int)=>
 bif (decide ((s12.2:Int)<(List.length x0:Int))) then
 bif (inB s12.2 x0) then
 bif (Sh.beq (.prod (.int .i64) (.int .i64)) (List.getD x0 (Int.toNat s12.2) (0,(0,0))).2 x1.2) then
 some (Sum.inr (Sum.inr (([]:List (Int×Int×Int)),7)))
 else
 bif (inB s12.2 x0) then
 (bif (decide (((List.getD x0 (Int.toNat s12.2) (0,(0,0))).1:Int)<x1.1)) then
 some (IntKind.wrap .i64 (s12.2+1))
 else
 some s12.1:Option (Int)).bind fun (j13:Int)=>
 some (Sum.inl (j13,IntKind.wrap .i64 (s12.2+1)))
 else none
 else none
 else
 some (Sum.inr (Sum.inl s12.1))) (0,0)).bind fun (j14:(Int)⊕(List (Int×Int×Int)×Int))=>
 Sum.elim (fun (j15:Int)=>
 bif (decide ((8:Int)<=(List.length x0:Int))) then
 some (([]:List (Int×Int×Int)),2)
 else
 bif (Zp 0 j15 x0) then
 bif decide (List.length ([]:List (Int×Int×Int))+List.length (cut 0 j15 x0)<=LIM) then
 bif decide (List.length (List.append ([]:List (Int×Int×Int)) (cut 0 j15 x0))+List.length ([x1]:List (Int×Int×Int))<=LIM) then
 bif (Zp j15 (List.length x0:Int) x0) then
 bif decide (List.length (List.append (List.append ([]:List (Int×Int×Int)) (cut 0 j15 x0)) ([x1]:List (Int×Int×Int)))+List.length (cut j15 (List.length x0:Int) x0)<=LIM) then
 some (List.append (List.append (List.append ([]:List (Int×Int×Int)) (cut 0 j15 x0)) ([x1]:List (Int×Int×Int))) (cut j15 (List.length x0:Int) x0),0)
 else none
 else none
 else none
 else none
 else none) (fun (j16:List (Int×Int×Int)×Int)=>
 some (j16.1,j16.2)) j14
noncomputable def QdG:Callee:={ ins:=[.v (.list s7) .z,.v s7 .z],outs:=[((.list s7),(.o .z)),((.int .i64),.z)],F:=fun t=>Qdn t.1 t.2.1 }
noncomputable def Qm3:Ctx:={ tys:=tys,fns:=[(160,QbP)],frz:=[],lps:=[(5,(⟨[(0,.keep),(3,.keep),(6,.st (.int .i64) .z false),(7,.st (.int .i64) .z false)],[(3,.keep)]⟩,⟨[((.exit 0),⟨[(0,.keep),(3,.keep),(6,.st (.int .i64) .z false)],[(3,.keep)]⟩),(.ret,⟨[(4,.st (.list s7) (.o .z) false),(5,.st (.int .i64) .z false)],[]⟩)]⟩))],jns:=[(10,⟨[(.normal,⟨[(0,.keep),(3,.keep),(6,.st (.int .i64) .z false),(7,.keep)],[(3,.keep)]⟩)]⟩)],rjs:=[] }
noncomputable def Qgp (x0:List (Int×Int×Int)) (x1:Int×Int×List (Int×Int)×List (Int×List Int×Int×Int)) (x2:Int):Option (List (Int×Int×Int)×Int):=
 (bif (decide ((x1.1:Int)=2)) then
 (QbV x0 x1.2.1).bind fun (y23:Int)=>
 some (decide ((y23:Int)<0))
 else
 some false:Option (Bool)).bind fun (j24:Bool)=>
 bif j24 then
 some (([]:List (Int×Int×Int)),4)
 else
 (Qh (S:=List (Int×Int×Int)×Int) (X:=List (Int×Int×Int)) (fun (s35:List (Int×Int×Int)×Int)=>
 bif (decide ((s35.2:Int)<(List.length x0:Int))) then
 (bif (decide ((x1.1:Int)=2)) then
 bif (inB s35.2 x0) then
 some (decide (((List.getD x0 (Int.toNat s35.2) (0,(0,0))).1:Int)=x1.2.1))
 else none
 else
 some false:Option (Bool)).bind fun (j36:Bool)=>
 (bif (!j36) then
 bif (inB s35.2 x0) then
 (YG x1.2.2.1 (List.getD x0 (Int.toNat s35.2) (0,(0,0))).2).bind fun (y38:Bool)=>
 some (!y38)
 else none
 else
 some false:Option (Bool)).bind fun (j39:Bool)=>
 (bif j39 then
 bif (inB s35.2 x0) then
 bif decide (List.length s35.1+List.length ([List.getD x0 (Int.toNat s35.2) (0,(0,0))]:List (Int×Int×Int))<=LIM) then
 some (List.append s35.1 ([List.getD x0 (Int.toNat s35.2) (0,(0,0))]:List (Int×Int×Int)))
 else none
 else none
 else
 some s35.1:Option (List (Int×Int×Int))).bind fun (j40:List (Int×Int×Int))=>
 some (Sum.inl (j40,IntKind.wrap .i64 (s35.2+1)))
 else
 some (Sum.inr s35.1)) (([]:List (Int×Int×Int)),0)).bind fun (j41:List (Int×Int×Int))=>
 bif (!decide ((x1.1:Int)=1)) then
 some (j41,0)
 else
 (Qdn j41 (x1.2.1,(x2,0))).bind fun (y42:List (Int×Int×Int)×Int)=>
 some (y42.1,y42.2)
noncomputable def QdC:Callee:={ ins:=[.v (.list s7) .z,.rp s19 false,.v (.int .i64) .z],outs:=[((.list s7),(.o .z)),((.int .i64),.z)],F:=fun t=>Qgp t.1 t.2.1 t.2.2.1 }
noncomputable def Qno:Ctx:={ tys:=tys,fns:=[(117,Yf),(160,QbP),(161,QdG)],frz:=[],lps:=[(5,(⟨[(0,.keep),(1,.keep),(2,.keep),(8,.st (.list s7) (.o .z) false),(9,.st (.int .i64) .z false)],[]⟩,⟨[((.exit 0),⟨[(1,.keep),(2,.keep),(8,.st (.list s7) (.o .z) false)],[]⟩)]⟩))],jns:=[(9,⟨[(.normal,⟨[(0,.keep),(1,.keep),(2,.keep),(8,.st (.list s7) (.o .z) false),(9,.keep)],[]⟩)]⟩)],rjs:=[(1,⟨[(0,.keep),(1,.keep),(2,.keep),(24,.st .bool .z false)],[]⟩),
 (7,⟨[(0,.keep),(1,.keep),(2,.keep),(8,.keep),(9,.keep),(10,.st .bool .z false)],[]⟩),
 (8,⟨[(0,.keep),(1,.keep),(2,.keep),(8,.keep),(9,.keep),(63,.st .bool .z false)],[]⟩)] }
noncomputable def QdB (x0:List (List UInt8)×List (Int×Int)) (x1:Int×Int×List ((Int×Int)×(Int×List Int×Int×Int)×Int×Bool)×List (Int×Int×Int)) (x2:List (Int×Int×List (Int×Int)×List (Int×List Int×Int×Int))) (x3:Int):Option ((Int×Int×List (Int×Int)×List (Int×List Int×Int×Int))×Int):=
 (Qid x0 x3).bind fun (y27:Int×Int×Int×List (Int×Int)×List (Int×List Int×Int×Int))=>
 bif (!decide ((y27.1:Int)=0)) then
 some (y27.2,y27.1)
 else
 (Qfv x1).bind fun (y28:Int)=>
 (Qe5 x0 x1.2.2.1 y27.2 y28).bind fun (y29:Int×Int)=>
 bif (!decide ((y29.1:Int)=0)) then
 some (y27.2,y29.1)
 else
 (Qh (S:=Bool×Int) (X:=(Bool)⊕(Int×Int×Int×List (Int×Int)×List (Int×List Int×Int×Int))) (fun (s38:Bool×Int)=>
 bif (decide ((s38.2:Int)<(List.length x2:Int))) then
 bif (inB s38.2 x2) then
 (Qe3 (List.getD x2 (Int.toNat s38.2) (0,(0,([],[])))) y27.2).bind fun (y39:Bool)=>
 bif y39 then
 some (Sum.inr (Sum.inr (7,y27.2)))
 else
 (bif s38.1 then
 some true
 else
 bif (inB s38.2 x2) then
 bif (!decide (((List.getD x2 (Int.toNat s38.2) (0,(0,([],[])))).1:Int)=0)) then
 some true
 else
 bif (inB s38.2 x2) then
 (Qep x1 (List.getD x2 (Int.toNat s38.2) (0,(0,([],[])))) y27.2).bind fun (y41:Bool)=>
 some y41
 else none
 else none:Option (Bool)).bind fun (j42:Bool)=>
 some (Sum.inl (j42,IntKind.wrap .i64 (s38.2+1)))
 else none
 else
 some (Sum.inr (Sum.inl s38.1))) (false,0)).bind fun (j43:(Bool)⊕(Int×Int×Int×List (Int×Int)×List (Int×List Int×Int×Int)))=>
 Sum.elim (fun (j44:Bool)=>
 (bif (!decide ((y27.2.1:Int)=0)) then
 (Qgp x1.2.2.2 y27.2 x3).bind fun (y48:List (Int×Int×Int)×Int)=>
 (bif (!decide ((y48.2:Int)=0)) then
 some true
 else
 some j44:Option (Bool)).bind fun (j49:Bool)=>
 bif j49 then
 some (Sum.inr (10,y27.2))
 else
 some (Sum.inl ())
 else
 some (Sum.inl ()):Option ((Unit)⊕(Int×Int×Int×List (Int×Int)×List (Int×List Int×Int×Int)))).bind fun (j50:(Unit)⊕(Int×Int×Int×List (Int×Int)×List (Int×List Int×Int×Int)))=>
 Sum.elim (fun (j51:Unit)=>
 some (y27.2,0)) (fun (j52:Int×Int×Int×List (Int×Int)×List (Int×List Int×Int×Int))=>
 some (j52.2,j52.1)) j50) (fun (j45:Int×Int×Int×List (Int×Int)×List (Int×List Int×Int×Int))=>
 some (j45.2,j45.1)) j43
noncomputable def QdH:Callee:={ ins:=[.rp s1 false,.rp s10 false,.v (.list s19) .z,.v (.int .i64) .z],outs:=[(s19,(.p .z (.p .z (.p (.o .z) (.o (.p .z (.p (.o .z) .z))))))),((.int .i64),.z)],F:=fun t=>QdB t.1 t.2.1 t.2.2.1 t.2.2.2.1,dm:=false }
noncomputable def Qnn:Ctx:={ tys:=tys,fns:=[(54,QcF),(55,Qcy),(75,QfS),(76,QcE),(110,Qby),(111,QdC)],frz:=[],lps:=[(9,(⟨[(1,.keep),(2,.keep),(3,.keep),(8,.keep),(10,.keep),(12,.st .bool .z false),(13,.st (.int .i64) .z false)],[(8,.keep),(10,.keep)]⟩,⟨[((.exit 0),⟨[(1,.keep),(3,.keep),(8,.keep),(10,.keep),(12,.st .bool .z false)],[(8,.keep),(10,.keep)]⟩),(.ret,⟨[(8,.keep),(9,.st (.int .i64) .z false)],[(8,.st s19 (.p .z (.p .z (.p (.o .z) (.o (.p .z (.p (.o .z) .z)))))) false)]⟩)]⟩))],jns:=[(15,⟨[(.normal,⟨[(8,.keep),(10,.keep)],[(8,.keep),(10,.keep)]⟩),(.ret,⟨[(8,.keep),(9,.st (.int .i64) .z false)],[(8,.st s19 (.p .z (.p .z (.p (.o .z) (.o (.p .z (.p (.o .z) .z)))))) false)]⟩)]⟩)],rjs:=[(13,⟨[(1,.keep),(2,.keep),(3,.keep),(8,.keep),(10,.keep),(12,.st .bool .z false),(13,.keep)],[(8,.keep),(10,.keep)]⟩),
 (16,⟨[(8,.keep),(10,.keep),(95,.st .bool .z false)],[(8,.keep),(10,.keep)]⟩)],erl:=[(3,[2,3])] }
noncomputable def Qgr (x0:List (List UInt8)×List (Int×Int)) (x1:Int×Int×List ((Int×Int)×(Int×List Int×Int×Int)×Int×Bool)×List (Int×Int×Int)) (x2:List Int):Option (List (Int×Int×List (Int×Int)×List (Int×List Int×Int×Int))×Int):=
 (Qax x0).bind fun (y10:Int)=>
 bif (!decide ((y10:Int)=0)) then
 some (([]:List (Int×Int×List (Int×Int)×List (Int×List Int×Int×Int))),y10)
 else
 (Qfy x1).bind fun (y11:Int)=>
 bif (!decide ((y11:Int)=0)) then
 some (([]:List (Int×Int×List (Int×Int)×List (Int×List Int×Int×Int))),y11)
 else
 bif (decide ((8:Int)<(List.length x2:Int))) then
 some (([]:List (Int×Int×List (Int×Int)×List (Int×List Int×Int×Int))),2)
 else
 (Qh (S:=List (Int×Int×List (Int×Int)×List (Int×List Int×Int×Int))×Int) (X:=(List (Int×Int×List (Int×Int)×List (Int×List Int×Int×Int)))⊕(List (Int×Int×List (Int×Int)×List (Int×List Int×Int×Int))×Int)) (fun (s14:List (Int×Int×List (Int×Int)×List (Int×List Int×Int×Int))×Int)=>
 bif (decide ((s14.2:Int)<(List.length x2:Int))) then
 bif (inB s14.2 x2) then
 (QdB x0 x1 s14.1 (List.getD x2 (Int.toNat s14.2) 0)).bind fun (y15:(Int×Int×List (Int×Int)×List (Int×List Int×Int×Int))×Int)=>
 bif (!decide ((y15.2:Int)=0)) then
 some (Sum.inr (Sum.inr (([]:List (Int×Int×List (Int×Int)×List (Int×List Int×Int×Int))),y15.2)))
 else
 bif decide (List.length s14.1+List.length ([y15.1]:List (Int×Int×List (Int×Int)×List (Int×List Int×Int×Int)))<=LIM) then
 some (Sum.inl (List.append s14.1 ([y15.1]:List (Int×Int×List (Int×Int)×List (Int×List Int×Int×Int))),IntKind.wrap .i64 (s14.2+1)))
 else none
 else none
 else
 some (Sum.inr (Sum.inl s14.1))) (([]:List (Int×Int×List (Int×Int)×List (Int×List Int×Int×Int))),0)).bind fun (j16:(List (Int×Int×List (Int×Int)×List (Int×List Int×Int×Int)))⊕(List (Int×Int×List (Int×Int)×List (Int×List Int×Int×Int))×Int))=>
 Sum.elim (fun (j17:List (Int×Int×List (Int×Int)×List (Int×List Int×Int×Int)))=>
 some (j17,0)) (fun (j18:List (Int×Int×List (Int×Int)×List (Int×List Int×Int×Int))×Int)=>
 some (j18.1,j18.2)) j16
noncomputable def Qd0:Callee:={ ins:=[.rp s1 false,.rp s10 false,.v (.list (.int .i64)) .z],outs:=[((.list s19),(.o (.p .z (.p .z (.p (.o .z) (.o (.p .z (.p (.o .z) .z)))))))),((.int .i64),.z)],F:=fun t=>Qgr t.1 t.2.1 t.2.2.1,dm:=false }
noncomputable def QnF:Ctx:={ tys:=tys,fns:=[(59,Jp),(60,QcH),(61,QdH)],frz:=[],lps:=[(11,(⟨[(0,.keep),(1,.keep),(2,.keep),(10,.st (.list s19) (.o (.p .z (.p .z (.p (.o .z) (.o (.p .z (.p (.o .z) .z))))))) false),(11,.st (.int .i64) .z false)],[]⟩,⟨[((.exit 0),⟨[(10,.st (.list s19) (.o (.p .z (.p .z (.p (.o .z) (.o (.p .z (.p (.o .z) .z))))))) false)],[]⟩),(.ret,⟨[(6,.st (.list s19) (.o (.p .z (.p .z (.p (.o .z) (.o (.p .z (.p (.o .z) .z))))))) false),(7,.st (.int .i64) .z false)],[]⟩)]⟩))],jns:=[],rjs:=[] }
noncomputable def Qc4 (x0:List (List UInt8)):Option (List (List UInt8)):=
 bif (decide (0<=(List.length x0:Int))&&decide ((List.length x0:Int)<=(LIM:Int))) then
 (Qh (S:=List (List UInt8)×Int) (X:=List (List UInt8)) (fun (s3:List (List UInt8)×Int)=>
 bif (decide ((s3.2:Int)<(List.length x0:Int))) then
 bif (inB s3.2 x0) then
 bif (inB s3.2 s3.1) then
 some (Sum.inl (List.set s3.1 (Int.toNat s3.2) (List.getD x0 (Int.toNat s3.2) []),IntKind.wrap .i64 (s3.2+1)))
 else none
 else none
 else
 some (Sum.inr s3.1)) (List.replicate (Int.toNat (List.length x0:Int)) [],0)).bind fun (j4:List (List UInt8))=>
 some j4
 else none
noncomputable def QaL:Callee:={ ins:=[.v (.list .str) .z],outs:=[((.list .str),(.o .z))],F:=fun t=>Qc4 t.1 }
noncomputable def QjQ:Ctx:={ tys:=tys,fns:=[],frz:=[],lps:=[(3,(⟨[(0,.keep),(3,.st (.list .str) (.o .z) false),(4,.st (.int .i64) .z false)],[]⟩,⟨[((.exit 0),⟨[(3,.st (.list .str) (.o .z) false)],[]⟩)]⟩))],jns:=[],rjs:=[] }
noncomputable def Qgf (x0:Int×Int):Option (Int×Int):=
 some (x0.1,x0.2)
noncomputable def Qdp:Callee:={ ins:=[.v s0 .z],outs:=[(s0,.z)],F:=fun t=>Qgf t.1 }
noncomputable def Qnx:Ctx:={ tys:=tys,fns:=[],frz:=[],lps:=[],jns:=[],rjs:=[] }
noncomputable def Qfa (x0:List (Int×Int)):Option (List (Int×Int)):=
 bif (decide (0<=(List.length x0:Int))&&decide ((List.length x0:Int)<=(LIM:Int))) then
 (Qh (S:=List (Int×Int)×Int) (X:=List (Int×Int)) (fun (s8:List (Int×Int)×Int)=>
 bif (decide ((s8.2:Int)<(List.length x0:Int))) then
 bif (inB s8.2 x0) then
 (Qgf (List.getD x0 (Int.toNat s8.2) (0,0))).bind fun (y9:Int×Int)=>
 bif (inB s8.2 s8.1) then
 some (Sum.inl (List.set s8.1 (Int.toNat s8.2) y9,IntKind.wrap .i64 (s8.2+1)))
 else none
 else none
 else
 some (Sum.inr s8.1)) (List.replicate (Int.toNat (List.length x0:Int)) (0,0),0)).bind fun (j10:List (Int×Int))=>
 some j10
 else none
noncomputable def QcJ:Callee:={ ins:=[.v (.list s0) .z],outs:=[((.list s0),(.o .z))],F:=fun t=>Qfa t.1 }
noncomputable def Qlw:Ctx:={ tys:=tys,fns:=[(79,Qdp)],frz:=[],lps:=[(3,(⟨[(0,.keep),(3,.st (.list s0) (.o .z) false),(4,.st (.int .i64) .z false)],[]⟩,⟨[((.exit 0),⟨[(3,.st (.list s0) (.o .z) false)],[]⟩)]⟩))],jns:=[],rjs:=[] }
noncomputable def Qab (x0:List (List UInt8)×List (Int×Int)):Option (List (List UInt8)×List (Int×Int)):=
 (Qc4 x0.1).bind fun (y3:List (List UInt8))=>
 (Qfa x0.2).bind fun (y4:List (Int×Int))=>
 some (y3,y4)
noncomputable def Qbx:Callee:={ ins:=[.v s1 .z],outs:=[(s1,(.p (.o .z) (.o .z)))],F:=fun t=>Qab t.1 }
noncomputable def Qkm:Ctx:={ tys:=tys,fns:=[(44,QaL),(45,QcJ)],frz:=[],lps:=[],jns:=[],rjs:=[] }
noncomputable def Qho (x0:Int×Int):Option (Int×Int):=
 some (x0.1,x0.2)
noncomputable def Qcx:Callee:={ ins:=[.v s0 .z],outs:=[(s0,.z)],F:=fun t=>Qho t.1 }
noncomputable def Qow:Ctx:={ tys:=tys,fns:=[],frz:=[],lps:=[],jns:=[],rjs:=[] }
noncomputable def Y2 (x0:List Int):Option (List Int):=
 bif (decide (0<=(List.length x0:Int))&&decide ((List.length x0:Int)<=(LIM:Int))) then
 (Qh (S:=List Int×Int) (X:=List Int) (fun (s3:List Int×Int)=>
 bif (decide ((s3.2:Int)<(List.length x0:Int))) then
 bif (inB s3.2 x0) then
 bif (inB s3.2 s3.1) then
 some (Sum.inl (List.set s3.1 (Int.toNat s3.2) (List.getD x0 (Int.toNat s3.2) 0),IntKind.wrap .i64 (s3.2+1)))
 else none
 else none
 else
 some (Sum.inr s3.1)) (List.replicate (Int.toNat (List.length x0:Int)) 0,0)).bind fun (j4:List Int)=>
 some j4
 else none
noncomputable def J7:Callee:={ ins:=[.v (.list (.int .i64)) .z],outs:=[((.list (.int .i64)),(.o .z))],F:=fun t=>Y2 t.1 }
noncomputable def Qki:Ctx:={ tys:=tys,fns:=[],frz:=[],lps:=[(3,(⟨[(0,.keep),(3,.st (.list (.int .i64)) (.o .z) false),(4,.st (.int .i64) .z false)],[]⟩,⟨[((.exit 0),⟨[(3,.st (.list (.int .i64)) (.o .z) false)],[]⟩)]⟩))],jns:=[],rjs:=[] }
noncomputable def Qge (x0:List Int×Int×Int):Option (List Int×Int×Int):=
 (Y2 x0.1).bind fun (y2:List Int)=>
 some (y2,(x0.2.1,x0.2.2))
noncomputable def Qdw:Callee:={ ins:=[.v s2 .z],outs:=[(s2,(.p (.o .z) .z))],F:=fun t=>Qge t.1 }
noncomputable def Qnq:Ctx:={ tys:=tys,fns:=[(14,J7)],frz:=[],lps:=[],jns:=[],rjs:=[] }
noncomputable def Qha (x0:Int×List Int×Int×Int):Option (Int×List Int×Int×Int):=
 (Qge x0.2).bind fun (y2:List Int×Int×Int)=>
 some (x0.1,y2)
noncomputable def QeK:Callee:={ ins:=[.v s3 .z],outs:=[(s3,(.p .z (.p (.o .z) .z)))],F:=fun t=>Qha t.1 }
noncomputable def Qn9:Ctx:={ tys:=tys,fns:=[(165,Qdw)],frz:=[],lps:=[],jns:=[],rjs:=[] }
noncomputable def QdK (x0:(Int×Int)×(Int×List Int×Int×Int)×Int×Bool):Option ((Int×Int)×(Int×List Int×Int×Int)×Int×Bool):=
 (Qho x0.1).bind fun (y3:Int×Int)=>
 (Qha x0.2.1).bind fun (y4:Int×List Int×Int×Int)=>
 some (y3,(y4,(x0.2.2.1,x0.2.2.2)))
noncomputable def QdS:Callee:={ ins:=[.v s6 .z],outs:=[(s6,(.p .z (.p (.p .z (.p (.o .z) .z)) .z)))],F:=fun t=>QdK t.1 }
noncomputable def Qm4:Ctx:={ tys:=tys,fns:=[(119,Qcx),(120,QeK)],frz:=[],lps:=[],jns:=[],rjs:=[] }
noncomputable def Qe6 (x0:List ((Int×Int)×(Int×List Int×Int×Int)×Int×Bool)):Option (List ((Int×Int)×(Int×List Int×Int×Int)×Int×Bool)):=
 bif (decide (0<=(List.length x0:Int))&&decide ((List.length x0:Int)<=(LIM:Int))) then
 (Qh (S:=List ((Int×Int)×(Int×List Int×Int×Int)×Int×Bool)×Int) (X:=List ((Int×Int)×(Int×List Int×Int×Int)×Int×Bool)) (fun (s8:List ((Int×Int)×(Int×List Int×Int×Int)×Int×Bool)×Int)=>
 bif (decide ((s8.2:Int)<(List.length x0:Int))) then
 bif (inB s8.2 x0) then
 (QdK (List.getD x0 (Int.toNat s8.2) ((0,0),((0,([],(0,0))),(0,false))))).bind fun (y9:(Int×Int)×(Int×List Int×Int×Int)×Int×Bool)=>
 bif (inB s8.2 s8.1) then
 some (Sum.inl (List.set s8.1 (Int.toNat s8.2) y9,IntKind.wrap .i64 (s8.2+1)))
 else none
 else none
 else
 some (Sum.inr s8.1)) (List.replicate (Int.toNat (List.length x0:Int)) ((0,0),((0,([],(0,0))),(0,false))),0)).bind fun (j10:List ((Int×Int)×(Int×List Int×Int×Int)×Int×Bool))=>
 some j10
 else none
noncomputable def Qce:Callee:={ ins:=[.v (.list s6) .z],outs:=[((.list s6),(.o (.p .z (.p (.p .z (.p (.o .z) .z)) .z))))],F:=fun t=>Qe6 t.1 }
noncomputable def QlA:Ctx:={ tys:=tys,fns:=[(80,QdS)],frz:=[],lps:=[(3,(⟨[(0,.keep),(3,.st (.list s6) (.o (.p .z (.p (.p .z (.p (.o .z) .z)) .z))) false),(4,.st (.int .i64) .z false)],[]⟩,⟨[((.exit 0),⟨[(3,.st (.list s6) (.o (.p .z (.p (.p .z (.p (.o .z) .z)) .z))) false)],[]⟩)]⟩))],jns:=[],rjs:=[] }
noncomputable def Qbp (x0:Int×Int×Int):Option (Int×Int×Int):=
 (Qho x0.2).bind fun (y2:Int×Int)=>
 some (x0.1,y2)
noncomputable def Qbv:Callee:={ ins:=[.v s7 .z],outs:=[(s7,.z)],F:=fun t=>Qbp t.1 }
noncomputable def QkE:Ctx:={ tys:=tys,fns:=[(119,Qcx)],frz:=[],lps:=[],jns:=[],rjs:=[] }
noncomputable def Qdk (x0:List (Int×Int×Int)):Option (List (Int×Int×Int)):=
 bif (decide (0<=(List.length x0:Int))&&decide ((List.length x0:Int)<=(LIM:Int))) then
 (Qh (S:=List (Int×Int×Int)×Int) (X:=List (Int×Int×Int)) (fun (s8:List (Int×Int×Int)×Int)=>
 bif (decide ((s8.2:Int)<(List.length x0:Int))) then
 bif (inB s8.2 x0) then
 (Qbp (List.getD x0 (Int.toNat s8.2) (0,(0,0)))).bind fun (y9:Int×Int×Int)=>
 bif (inB s8.2 s8.1) then
 some (Sum.inl (List.set s8.1 (Int.toNat s8.2) y9,IntKind.wrap .i64 (s8.2+1)))
 else none
 else none
 else
 some (Sum.inr s8.1)) (List.replicate (Int.toNat (List.length x0:Int)) (0,(0,0)),0)).bind fun (j10:List (Int×Int×Int))=>
 some j10
 else none
noncomputable def QaC:Callee:={ ins:=[.v (.list s7) .z],outs:=[((.list s7),(.o .z))],F:=fun t=>Qdk t.1 }
noncomputable def QjD:Ctx:={ tys:=tys,fns:=[(81,Qbv)],frz:=[],lps:=[(3,(⟨[(0,.keep),(3,.st (.list s7) (.o .z) false),(4,.st (.int .i64) .z false)],[]⟩,⟨[((.exit 0),⟨[(3,.st (.list s7) (.o .z) false)],[]⟩)]⟩))],jns:=[],rjs:=[] }
noncomputable def Qay (x0:Int×Int×List ((Int×Int)×(Int×List Int×Int×Int)×Int×Bool)×List (Int×Int×Int)):Option (Int×Int×List ((Int×Int)×(Int×List Int×Int×Int)×Int×Bool)×List (Int×Int×Int)):=
 (Qe6 x0.2.2.1).bind fun (y3:List ((Int×Int)×(Int×List Int×Int×Int)×Int×Bool))=>
 (Qdk x0.2.2.2).bind fun (y4:List (Int×Int×Int))=>
 some (x0.1,(x0.2.1,(y3,y4)))
noncomputable def Qct:Callee:={ ins:=[.v s10 .z],outs:=[(s10,(.p .z (.p .z (.p (.o (.p .z (.p (.p .z (.p (.o .z) .z)) .z))) (.o .z)))))],F:=fun t=>Qay t.1 }
noncomputable def Ql6:Ctx:={ tys:=tys,fns:=[(46,Qce),(47,QaC)],frz:=[],lps:=[],jns:=[],rjs:=[] }
noncomputable def QX (x0:Int) (x1:Int) (x2:Int):Option (Bool):=
 (bif (decide ((x1:Int)<=x0)) then
 some (decide ((x0:Int)<=x2))
 else
 some false:Option (Bool)).bind fun (j2:Bool)=>
 some j2
noncomputable def Q4:Callee:={ ins:=[.v (.int .i64) .z,.v (.int .i64) .z,.v (.int .i64) .z],outs:=[(.bool,.z)],F:=fun t=>QX t.1 t.2.1 t.2.2.1 }
noncomputable def Qm5:Ctx:={ tys:=tys,fns:=[],frz:=[],lps:=[],jns:=[],rjs:=[(1,⟨[(6,.st .bool .z false)],[]⟩)] }
noncomputable def QaQ (x0:Int):Option (Bool):=
 (QX x0 1 999).bind fun (y2:Bool)=>
 some y2
noncomputable def JJ:Callee:={ ins:=[.v (.int .i64) .z],outs:=[(.bool,.z)],F:=fun t=>QaQ t.1 }
noncomputable def Qoy:Ctx:={ tys:=tys,fns:=[(123,Q4)],frz:=[],lps:=[],jns:=[],rjs:=[] }
noncomputable def Qgh (x0:List UInt8):Option (Bool):=
 (QX (List.length x0:Int) 1 300).bind fun (y2:Bool)=>
 some y2
noncomputable def Qdy:Callee:={ ins:=[.v .str .z],outs:=[(.bool,.z)],F:=fun t=>Qgh t.1 }
noncomputable def Qnl:Ctx:={ tys:=tys,fns:=[(123,Q4)],frz:=[],lps:=[],jns:=[],rjs:=[] }
noncomputable def QO (x0:List (List UInt8)) (x1:List UInt8):Option (Int):=
 (Qh (S:=Int) (X:=(Unit)⊕(Int)) (fun (s5:Int)=>
 bif (decide ((s5:Int)<(List.length x0:Int))) then
 bif (inB s5 x0) then
 bif (decide ((x1:List UInt8)=List.getD x0 (Int.toNat s5) [])) then
 some (Sum.inr (Sum.inr s5))
 else
 some (Sum.inl (IntKind.wrap .i64 (s5+1)))
 else none
 else
 some (Sum.inr (Sum.inl ()))) 0).bind fun (j6:(Unit)⊕(Int))=>
 Sum.elim (fun (j7:Unit)=>
 some (-1)) (fun (j8:Int)=>
 some j8) j6
noncomputable def QY:Callee:={ ins:=[.v (.list .str) .z,.v .str .z],outs:=[((.int .i64),.z)],F:=fun t=>QO t.1 t.2.1 }
noncomputable def QbX:Ctx:={ tys:=tys,fns:=[],frz:=[],lps:=[(2,(⟨[(0,.keep),(1,.keep),(7,.keep),(8,.st (.int .i64) .z false)],[]⟩,⟨[((.exit 0),⟨[],[]⟩),(.ret,⟨[(4,.st (.int .i64) .z false)],[]⟩)]⟩))],jns:=[],rjs:=[] }
noncomputable def ZP (x0:List (List UInt8)) (x1:List UInt8):Option (Bool):=
 (QO x0 x1).bind fun (y2:Int)=>
 some (decide ((0:Int)<=y2))
noncomputable def Zq:Callee:={ ins:=[.v (.list .str) .z,.v .str .z],outs:=[(.bool,.z)],F:=fun t=>ZP t.1 t.2.1 }
noncomputable def QaE:Ctx:={ tys:=tys,fns:=[(155,QY)],frz:=[],lps:=[],jns:=[],rjs:=[] }
noncomputable def Yi (x0:List (Int×Int)) (x1:Int×Int):Option (Int):=
 (Qh (S:=Int) (X:=(Unit)⊕(Int)) (fun (s5:Int)=>
 bif (decide ((s5:Int)<(List.length x0:Int))) then
 bif (inB s5 x0) then
 bif (Sh.beq (.prod (.int .i64) (.int .i64)) x1 (List.getD x0 (Int.toNat s5) (0,0))) then
 some (Sum.inr (Sum.inr s5))
 else
 some (Sum.inl (IntKind.wrap .i64 (s5+1)))
 else none
 else
 some (Sum.inr (Sum.inl ()))) 0).bind fun (j6:(Unit)⊕(Int))=>
 Sum.elim (fun (j7:Unit)=>
 some (-1)) (fun (j8:Int)=>
 some j8) j6
noncomputable def Zb:Callee:={ ins:=[.v (.list s0) .z,.v s0 .z],outs:=[((.int .i64),.z)],F:=fun t=>Yi t.1 t.2.1 }
noncomputable def JX:Ctx:={ tys:=tys,fns:=[],frz:=[],lps:=[(2,(⟨[(0,.keep),(3,.keep),(7,.keep),(8,.st (.int .i64) .z false)],[(3,.keep)]⟩,⟨[((.exit 0),⟨[],[]⟩),(.ret,⟨[(4,.st (.int .i64) .z false)],[]⟩)]⟩))],jns:=[],rjs:=[] }
noncomputable def QZ (x0:List (Int×Int)) (x1:Int×Int):Option (Bool):=
 (Yi x0 x1).bind fun (y2:Int)=>
 some (decide ((0:Int)<=y2))
noncomputable def QJ:Callee:={ ins:=[.v (.list s0) .z,.v s0 .z],outs:=[(.bool,.z)],F:=fun t=>QZ t.1 t.2.1 }
noncomputable def Jm:Ctx:={ tys:=tys,fns:=[(166,Zb)],frz:=[],lps:=[],jns:=[],rjs:=[] }
noncomputable def Qbn (x0:List (List UInt8)×List (Int×Int)):Option (Int):=
 (bif (decide ((60:Int)<(List.length x0.1:Int))) then
 some true
 else
 some (decide ((120:Int)<(List.length x0.2:Int))):Option (Bool)).bind fun (j34:Bool)=>
 bif j34 then
 some 2
 else
 (Qh (S:=Int) (X:=(Unit)⊕(Int)) (fun (s39:Int)=>
 bif (decide ((s39:Int)<(List.length x0.1:Int))) then
 bif (inB s39 x0.1) then
 (Qgh (List.getD x0.1 (Int.toNat s39) [])).bind fun (y40:Bool)=>
 bif (!y40) then
 some (Sum.inr (Sum.inr 2))
 else
 bif (Zp 0 s39 x0.1) then
 (ZP (cut 0 s39 x0.1) (List.getD x0.1 (Int.toNat s39) [])).bind fun (y41:Bool)=>
 bif y41 then
 some (Sum.inr (Sum.inr 7))
 else
 some (Sum.inl (IntKind.wrap .i64 (s39+1)))
 else none
 else none
 else
 some (Sum.inr (Sum.inl ()))) 0).bind fun (j42:(Unit)⊕(Int))=>
 Sum.elim (fun (j43:Unit)=>
 (Qh (S:=Int) (X:=(Unit)⊕(Int)) (fun (s57:Int)=>
 bif (decide ((s57:Int)<(List.length x0.2:Int))) then
 bif (inB s57 x0.2) then
 ((QaQ (List.getD x0.2 (Int.toNat s57) (0,0)).1).bind fun (y60:Bool)=>
 bif (!y60) then
 some true
 else
 (QX (List.getD x0.2 (Int.toNat s57) (0,0)).2 1 (List.length x0.1:Int)).bind fun (y61:Bool)=>
 some (!y61):Option (Bool)).bind fun (j62:Bool)=>
 bif j62 then
 some (Sum.inr (Sum.inr 3))
 else
 bif (Zp 0 s57 x0.2) then
 (QZ (cut 0 s57 x0.2) (List.getD x0.2 (Int.toNat s57) (0,0))).bind fun (y63:Bool)=>
 bif y63 then
 some (Sum.inr (Sum.inr 7))
 else
 some (Sum.inl (IntKind.wrap .i64 (s57+1)))
 else none
 else none
 else
 some (Sum.inr (Sum.inl ()))) 0).bind fun (j64:(Unit)⊕(Int))=>
 Sum.elim (fun (j65:Unit)=>
 some 0) (fun (j66:Int)=>
 some j66) j64) (fun (j44:Int)=>
 some j44) j42
noncomputable def JS:Callee:={ ins:=[.v s1 .z],outs:=[((.int .i64),.z)],F:=fun t=>Qbn t.1 }
noncomputable def QiG:Ctx:={ tys:=tys,fns:=[(114,JJ),(121,Qdy),(122,Zq),(123,Q4),(124,QJ)],frz:=[],lps:=[(4,(⟨[(1,.keep),(18,.keep),(19,.keep),(20,.st (.int .i64) .z false)],[(1,.keep)]⟩,⟨[((.exit 0),⟨[(1,.keep)],[(1,.keep)]⟩),(.ret,⟨[(2,.st (.int .i64) .z false)],[]⟩)]⟩)),
 (12,(⟨[(1,.keep),(36,.keep),(37,.keep),(38,.st (.int .i64) .z false)],[(1,.keep)]⟩,⟨[((.exit 2),⟨[],[]⟩),(.ret,⟨[(2,.st (.int .i64) .z false)],[]⟩)]⟩))],jns:=[],rjs:=[(1,⟨[(1,.keep),(16,.st .bool .z false)],[(1,.keep)]⟩),
 (14,⟨[(1,.keep),(5,.keep),(6,.keep),(36,.keep),(37,.keep),(38,.keep),(55,.st .bool .z false)],[(1,.keep),(6,.keep)]⟩)] }
noncomputable def Y0 (x0:Int):Option (Bool):=
 (QX x0 0 999).bind fun (y2:Bool)=>
 some y2
noncomputable def Y9:Callee:={ ins:=[.v (.int .i64) .z],outs:=[(.bool,.z)],F:=fun t=>Y0 t.1 }
noncomputable def QkJ:Ctx:={ tys:=tys,fns:=[(123,Q4)],frz:=[],lps:=[],jns:=[],rjs:=[] }
noncomputable def QfP (x0:Int):Option (Bool):=
 (QX x0 1 60).bind fun (y2:Bool)=>
 some y2
noncomputable def Qd4:Callee:={ ins:=[.v (.int .i64) .z],outs:=[(.bool,.z)],F:=fun t=>QfP t.1 }
noncomputable def Qp5:Ctx:={ tys:=tys,fns:=[(123,Q4)],frz:=[],lps:=[],jns:=[],rjs:=[] }
noncomputable def QaV (x0:Int×Int):Option (Bool):=
 ((QfP x0.1).bind fun (y8:Bool)=>
 bif y8 then
 (QX x0.2 0 3).bind fun (y9:Bool)=>
 some y9
 else
 some false:Option (Bool)).bind fun (j10:Bool)=>
 some j10
noncomputable def QaA:Callee:={ ins:=[.v s0 .z],outs:=[(.bool,.z)],F:=fun t=>QaV t.1 }
noncomputable def QnR:Ctx:={ tys:=tys,fns:=[(123,Q4),(180,Qd4)],frz:=[],lps:=[],jns:=[],rjs:=[(1,⟨[(2,.st .bool .z false)],[]⟩)] }
noncomputable def ZS (x0:List Int) (x1:Int->Option Bool):Option (Int):=
 (Qh (S:=Int) (X:=(Unit)⊕(Int)) (fun (s10:Int)=>
 bif (decide ((s10:Int)<(List.length x0:Int))) then
 bif (inB s10 x0) then
 (x1 (List.getD x0 (Int.toNat s10) 0)).bind fun (y11:Bool)=>
 bif y11 then
 some (Sum.inr (Sum.inr s10))
 else
 some (Sum.inl (IntKind.wrap .i64 (s10+1)))
 else none
 else
 some (Sum.inr (Sum.inl ()))) 0).bind fun (j12:(Unit)⊕(Int))=>
 Sum.elim (fun (j13:Unit)=>
 some (-1)) (fun (j14:Int)=>
 some j14) j12
noncomputable def Zs:Callee:={ ins:=[.v (.list (.int .i64)) .z,.v (.fn1 (.int .i64) .bool .z) .z],outs:=[((.int .i64),.z)],F:=fun t=>ZS t.1 t.2.1 }
noncomputable def Qa2:Ctx:={ tys:=tys,fns:=[],frz:=[],lps:=[(2,(⟨[(0,.keep),(1,.keep),(7,.keep),(8,.st (.int .i64) .z false)],[]⟩,⟨[((.exit 0),⟨[],[]⟩),(.ret,⟨[(4,.st (.int .i64) .z false)],[]⟩)]⟩))],jns:=[],rjs:=[] }
noncomputable def Zy (x0:List Int) (x1:Int->Option Bool):Option (Bool):=
 (ZS x0 x1).bind fun (y2:Int)=>
 some (decide ((0:Int)<=y2))
noncomputable def Zf:Callee:={ ins:=[.v (.list (.int .i64)) .z,.v (.fn1 (.int .i64) .bool .z) .z],outs:=[(.bool,.z)],F:=fun t=>Zy t.1 t.2.1 }
noncomputable def Qak:Ctx:={ tys:=tys,fns:=[(257,Zs)],frz:=[],lps:=[],jns:=[],rjs:=[] }
noncomputable def QfJ (x0:Int):Option (Bool):=
 (QaQ x0).bind fun (y2:Bool)=>
 some (!y2)
noncomputable def Qam:Callee:={ ins:=[.v (.int .i64) .z],outs:=[(.bool,.z)],F:=fun t=>QfJ t.1 }
noncomputable def QiT:Ctx:={ tys:=tys,fns:=[(114,JJ)],frz:=[],lps:=[],jns:=[],rjs:=[] }
noncomputable def Qfh (x0:List Int):Option (Bool):=
 (Zy x0 (fun (a4:Int)=>(QfJ a4).bind fun r5=>some r5)).bind fun (y6:Bool)=>
 some (!y6)
noncomputable def Qcj:Callee:={ ins:=[.v (.list (.int .i64)) .z],outs:=[(.bool,.z)],F:=fun t=>Qfh t.1 }
noncomputable def Qll:Ctx:={ tys:=tys,fns:=[(231,Zf),(232,Qam)],frz:=[],lps:=[],jns:=[],rjs:=[] }
noncomputable def Qeg (x0:List Int):Option (Bool):=
 (Qh (S:=Int) (X:=(Unit)⊕(Bool)) (fun (s5:Int)=>
 bif (decide ((s5:Int)<(List.length x0:Int))) then
 bif (inB s5 x0) then
 bif (inB (IntKind.wrap .i64 (s5 - 1)) x0) then
 bif (decide ((List.getD x0 (Int.toNat s5) 0:Int)<=List.getD x0 (Int.toNat (IntKind.wrap .i64 (s5 - 1))) 0)) then
 some (Sum.inr (Sum.inr false))
 else
 some (Sum.inl (IntKind.wrap .i64 (s5+1)))
 else none
 else none
 else
 some (Sum.inr (Sum.inl ()))) 1).bind fun (j6:(Unit)⊕(Bool))=>
 Sum.elim (fun (j7:Unit)=>
 some true) (fun (j8:Bool)=>
 some j8) j6
noncomputable def QbF:Callee:={ ins:=[.v (.list (.int .i64)) .z],outs:=[(.bool,.z)],F:=fun t=>Qeg t.1 }
noncomputable def Qkw:Ctx:={ tys:=tys,fns:=[],frz:=[],lps:=[(2,(⟨[(0,.keep),(3,.st (.int .i64) .z false)],[]⟩,⟨[((.exit 0),⟨[],[]⟩),(.ret,⟨[(2,.st .bool .z false)],[]⟩)]⟩))],jns:=[],rjs:=[] }
noncomputable def Ju (x0:List Int×Int×Int):Option (Int):=
 (QX (List.length x0.1:Int) 1 3).bind fun (y10:Bool)=>
 bif (!y10) then
 some 2
 else
 ((Qfh x0.1).bind fun (y14:Bool)=>
 bif (!y14) then
 some true
 else
 (QX x0.2.1 1 (List.length x0.1:Int)).bind fun (y15:Bool)=>
 bif (!y15) then
 some true
 else
 (Y0 x0.2.2).bind fun (y16:Bool)=>
 some (!y16):Option (Bool)).bind fun (j17:Bool)=>
 bif j17 then
 some 3
 else
 (Qeg x0.1).bind fun (y18:Bool)=>
 bif (!y18) then
 some 1
 else
 some 0
noncomputable def YE:Callee:={ ins:=[.v s2 .z],outs:=[((.int .i64),.z)],F:=fun t=>Ju t.1 }
noncomputable def Qjz:Ctx:={ tys:=tys,fns:=[(123,Q4),(159,Y9),(211,Qcj),(212,QbF)],frz:=[],lps:=[],jns:=[],rjs:=[(4,⟨[(1,.keep),(11,.st .bool .z false)],[(1,.keep)]⟩)] }
noncomputable def Qb2 (x0:Int):Option (Bool):=
 some (!decide ((x0:Int)=x0))
noncomputable def Qai:Callee:={ ins:=[.v (.int .i64) .z],outs:=[(.bool,.z)],F:=fun t=>Qb2 t.1 }
noncomputable def QiU:Ctx:={ tys:=tys,fns:=[],frz:=[],lps:=[],jns:=[],rjs:=[] }
noncomputable def Ys (x0:Int) (x1:Int):Option (Int):=
 (Qb2 x0).bind fun (y3:Bool)=>
 (Qb2 x1).bind fun (y4:Bool)=>
 bif y3 then
 bif y4 then
 some 0
 else
 some (-1)
 else
 bif y4 then
 some 1
 else
 bif (decide ((x0:Int)<x1)) then
 some (-1)
 else
 bif (decide ((x1:Int)<x0)) then
 some 1
 else
 some 0
noncomputable def Yt:Callee:={ ins:=[.v (.int .i64) .z,.v (.int .i64) .z],outs:=[((.int .i64),.z)],F:=fun t=>Ys t.1 t.2.1 }
noncomputable def QhN:Ctx:={ tys:=tys,fns:=[(223,Qai)],frz:=[],lps:=[],jns:=[],rjs:=[] }
noncomputable def Qhm (x0:List Int):Option (Int):=
 (Qh (S:=Int) (X:=(Unit)⊕(Int)) (fun (s5:Int)=>
 bif (decide ((s5:Int)<(List.length x0:Int))) then
 bif (inB s5 x0) then
 bif (!decide ((List.getD x0 (Int.toNat s5) 0:Int)=0)) then
 some (Sum.inr (Sum.inr (List.getD x0 (Int.toNat s5) 0)))
 else
 some (Sum.inl (IntKind.wrap .i64 (s5+1)))
 else none
 else
 some (Sum.inr (Sum.inl ()))) 0).bind fun (j6:(Unit)⊕(Int))=>
 Sum.elim (fun (j7:Unit)=>
 some 0) (fun (j8:Int)=>
 some j8) j6
noncomputable def Qe0:Callee:={ ins:=[.v (.list (.int .i64)) .z],outs:=[((.int .i64),.z)],F:=fun t=>Qhm t.1 }
noncomputable def Qor:Ctx:={ tys:=tys,fns:=[],frz:=[],lps:=[(3,(⟨[(3,.keep),(6,.keep),(7,.keep),(8,.st (.int .i64) .z false)],[]⟩,⟨[((.exit 0),⟨[(3,.keep)],[]⟩),(.ret,⟨[(2,.st (.int .i64) .z false)],[]⟩)]⟩))],jns:=[],rjs:=[] }
noncomputable def YM (x0:Int×Int) (x1:Int×Int):Option (Int):=
 (Ys x0.1 x1.1).bind fun (y4:Int)=>
 (Ys x0.2 x1.2).bind fun (y5:Int)=>
 (Qhm ([y4,y5]:List Int)).bind fun (y6:Int)=>
 some y6
noncomputable def Z8:Callee:={ ins:=[.v s0 .z,.v s0 .z],outs:=[((.int .i64),.z)],F:=fun t=>YM t.1 t.2.1 }
noncomputable def Qio:Ctx:={ tys:=tys,fns:=[(189,Yt),(213,Qe0)],frz:=[],lps:=[],jns:=[],rjs:=[] }
noncomputable def Qb1 (x0:List ((Int×Int)×(Int×List Int×Int×Int)×Int×Bool)):Option (Int):=
 bif (decide ((40:Int)<(List.length x0:Int))) then
 some 2
 else
 (Qh (S:=Int) (X:=(Unit)⊕(Int)) (fun (s54:Int)=>
 bif (decide ((s54:Int)<(List.length x0:Int))) then
 bif (inB s54 x0) then
 ((QaV (List.getD x0 (Int.toNat s54) ((0,0),((0,([],(0,0))),(0,false)))).1).bind fun (y58:Bool)=>
 bif (!y58) then
 some true
 else
 (Y0 (List.getD x0 (Int.toNat s54) ((0,0),((0,([],(0,0))),(0,false)))).2.2.1).bind fun (y59:Bool)=>
 bif (!y59) then
 some true
 else
 (QX (List.getD x0 (Int.toNat s54) ((0,0),((0,([],(0,0))),(0,false)))).2.1.1 1 1000000).bind fun (y60:Bool)=>
 some (!y60):Option (Bool)).bind fun (j61:Bool)=>
 bif j61 then
 some (Sum.inr (Sum.inr 3))
 else
 (Ju (List.getD x0 (Int.toNat s54) ((0,0),((0,([],(0,0))),(0,false)))).2.1.2).bind fun (y62:Int)=>
 bif (!decide ((y62:Int)=0)) then
 some (Sum.inr (Sum.inr y62))
 else
 (bif (decide ((0:Int)<s54)) then
 bif (inB (IntKind.wrap .i64 (s54 - 1)) x0) then
 (YM (List.getD x0 (Int.toNat (IntKind.wrap .i64 (s54 - 1))) ((0,0),((0,([],(0,0))),(0,false)))).1 (List.getD x0 (Int.toNat s54) ((0,0),((0,([],(0,0))),(0,false)))).1).bind fun (y64:Int)=>
 some (decide ((0:Int)<=y64))
 else none
 else
 some false:Option (Bool)).bind fun (j65:Bool)=>
 bif j65 then
 some (Sum.inr (Sum.inr 1))
 else
 some (Sum.inl (IntKind.wrap .i64 (s54+1)))
 else none
 else
 some (Sum.inr (Sum.inl ()))) 0).bind fun (j66:(Unit)⊕(Int))=>
 Sum.elim (fun (j67:Unit)=>
 some 0) (fun (j68:Int)=>
 some j68) j66
noncomputable def Qaf:Callee:={ ins:=[.v (.list s6) .z],outs:=[((.int .i64),.z)],F:=fun t=>Qb1 t.1 }
noncomputable def QiV:Ctx:={ tys:=tys,fns:=[(123,Q4),(159,Y9),(167,QaA),(168,YE),(169,Z8)],frz:=[],lps:=[(4,(⟨[(0,.keep),(9,.keep),(10,.keep),(11,.st (.int .i64) .z false)],[]⟩,⟨[((.exit 0),⟨[],[]⟩),(.ret,⟨[(2,.st (.int .i64) .z false)],[]⟩)]⟩))],jns:=[],rjs:=[(6,⟨[(0,.keep),(3,.keep),(4,.keep),(9,.keep),(10,.keep),(11,.keep),(32,.st .bool .z false)],[(4,.keep)]⟩),
 (11,⟨[(0,.keep),(9,.keep),(10,.keep),(11,.keep),(53,.st .bool .z false)],[(4,.keep)]⟩)] }
noncomputable def QQ (x0:List (Int×Int×Int)) (x1:(Int×Int×Int)->Option Bool):Option (Int):=
 (Qh (S:=Int) (X:=(Unit)⊕(Int)) (fun (s10:Int)=>
 bif (decide ((s10:Int)<(List.length x0:Int))) then
 bif (inB s10 x0) then
 (x1 (List.getD x0 (Int.toNat s10) (0,(0,0)))).bind fun (y11:Bool)=>
 bif y11 then
 some (Sum.inr (Sum.inr s10))
 else
 some (Sum.inl (IntKind.wrap .i64 (s10+1)))
 else none
 else
 some (Sum.inr (Sum.inl ()))) 0).bind fun (j12:(Unit)⊕(Int))=>
 Sum.elim (fun (j13:Unit)=>
 some (-1)) (fun (j14:Int)=>
 some j14) j12
noncomputable def QA:Callee:={ ins:=[.v (.list s7) .z,.v (.fn1 s7 .bool .z) .z],outs:=[((.int .i64),.z)],F:=fun t=>QQ t.1 t.2.1 }
noncomputable def YD:Ctx:={ tys:=tys,fns:=[],frz:=[],lps:=[(2,(⟨[(0,.keep),(1,.keep),(7,.keep),(8,.st (.int .i64) .z false)],[]⟩,⟨[((.exit 0),⟨[],[]⟩),(.ret,⟨[(4,.st (.int .i64) .z false)],[]⟩)]⟩))],jns:=[],rjs:=[] }
noncomputable def QH (x0:List (Int×Int×Int)) (x1:(Int×Int×Int)->Option Bool):Option (Bool):=
 (QQ x0 x1).bind fun (y2:Int)=>
 some (decide ((0:Int)<=y2))
noncomputable def Qw:Callee:={ ins:=[.v (.list s7) .z,.v (.fn1 s7 .bool .z) .z],outs:=[(.bool,.z)],F:=fun t=>QH t.1 t.2.1 }
noncomputable def Yk:Ctx:={ tys:=tys,fns:=[(214,QA)],frz:=[],lps:=[],jns:=[],rjs:=[] }
noncomputable def JF (x0:Int×Int×Int) (x1:Int×Int×Int):Option (Bool):=
 some (Sh.beq (.prod (.int .i64) (.int .i64)) x0.2 x1.2)
noncomputable def Yy:Callee:={ ins:=[.v s7 .z,.rp s7 false],outs:=[(.bool,.z)],F:=fun t=>JF t.1 t.2.1 }
noncomputable def QfQ:Ctx:={ tys:=tys,fns:=[],frz:=[],lps:=[],jns:=[],rjs:=[] }
noncomputable def Qa0 (x0:List (Int×Int×Int)):Option (Int):=
 bif (decide ((8:Int)<(List.length x0:Int))) then
 some 2
 else
 (Qh (S:=Int) (X:=(Unit)⊕(Int)) (fun (s46:Int)=>
 bif (decide ((s46:Int)<(List.length x0:Int))) then
 bif (inB s46 x0) then
 ((QaQ (List.getD x0 (Int.toNat s46) (0,(0,0))).1).bind fun (y49:Bool)=>
 bif (!y49) then
 some true
 else
 (QaV (List.getD x0 (Int.toNat s46) (0,(0,0))).2).bind fun (y50:Bool)=>
 some (!y50):Option (Bool)).bind fun (j51:Bool)=>
 bif j51 then
 some (Sum.inr (Sum.inr 3))
 else
 (bif (decide ((0:Int)<s46)) then
 bif (inB (IntKind.wrap .i64 (s46 - 1)) x0) then
 some (decide (((List.getD x0 (Int.toNat s46) (0,(0,0))).1:Int)<=(List.getD x0 (Int.toNat (IntKind.wrap .i64 (s46 - 1))) (0,(0,0))).1))
 else none
 else
 some false:Option (Bool)).bind fun (j52:Bool)=>
 bif j52 then
 some (Sum.inr (Sum.inr 1))
 else
 some (Sum.inl (IntKind.wrap .i64 (s46+1)))
 else none
 else
 some (Sum.inr (Sum.inl ()))) 0).bind fun (j53:(Unit)⊕(Int))=>
 Sum.elim (fun (j54:Unit)=>
 (Qh (S:=Int) (X:=(Unit)⊕(Int)) (fun (s62:Int)=>
 bif (decide ((s62:Int)<(List.length x0:Int))) then
 bif (inB s62 x0) then
 bif (Zp 0 s62 x0) then
 (QH (cut 0 s62 x0) (fun (a63:Int×Int×Int)=>(JF a63 (List.getD x0 (Int.toNat s62) (0,(0,0)))).bind fun r64=>some r64)).bind fun (y65:Bool)=>
 bif y65 then
 some (Sum.inr (Sum.inr 7))
 else
 some (Sum.inl (IntKind.wrap .i64 (s62+1)))
 else none
 else none
 else
 some (Sum.inr (Sum.inl ()))) 0).bind fun (j66:(Unit)⊕(Int))=>
 Sum.elim (fun (j67:Unit)=>
 some 0) (fun (j68:Int)=>
 some j68) j66) (fun (j55:Int)=>
 some j55) j53
noncomputable def Jh:Callee:={ ins:=[.v (.list s7) .z],outs:=[((.int .i64),.z)],F:=fun t=>Qa0 t.1 }
noncomputable def QhL:Ctx:={ tys:=tys,fns:=[(114,JJ),(167,QaA),(170,Qw),(171,Yy)],frz:=[],lps:=[(4,(⟨[(0,.keep),(10,.keep),(11,.keep),(12,.st (.int .i64) .z false)],[]⟩,⟨[((.exit 0),⟨[(0,.keep)],[]⟩),(.ret,⟨[(2,.st (.int .i64) .z false)],[]⟩)]⟩)),
 (12,(⟨[(0,.keep),(41,.keep),(42,.keep),(43,.st (.int .i64) .z false)],[]⟩,⟨[((.exit 2),⟨[],[]⟩),(.ret,⟨[(2,.st (.int .i64) .z false)],[]⟩)]⟩))],jns:=[],rjs:=[(6,⟨[(0,.keep),(3,.keep),(4,.keep),(10,.keep),(11,.keep),(12,.keep),(26,.st .bool .z false)],[(4,.keep)]⟩),
 (8,⟨[(0,.keep),(10,.keep),(11,.keep),(12,.keep),(39,.st .bool .z false)],[(4,.keep)]⟩)] }
noncomputable def Qb3 (x0:Int×Int×List ((Int×Int)×(Int×List Int×Int×Int)×Int×Bool)×List (Int×Int×Int)):Option (Int):=
 ((QX x0.1 0 60).bind fun (y10:Bool)=>
 bif (!y10) then
 some true
 else
 (QX x0.2.1 0 40).bind fun (y11:Bool)=>
 some (!y11):Option (Bool)).bind fun (j12:Bool)=>
 bif j12 then
 some 3
 else
 bif (!(Sh.beq .bool (decide ((x0.1:Int)=0)) (decide ((x0.2.1:Int)=0)))) then
 some 1
 else
 (Qb1 x0.2.2.1).bind fun (y13:Int)=>
 bif (!decide ((y13:Int)=0)) then
 some y13
 else
 (Qa0 x0.2.2.2).bind fun (y14:Int)=>
 some y14
noncomputable def Qah:Callee:={ ins:=[.v s10 .z],outs:=[((.int .i64),.z)],F:=fun t=>Qb3 t.1 }
noncomputable def QiS:Ctx:={ tys:=tys,fns:=[(123,Q4),(125,Qaf),(126,Jh)],frz:=[],lps:=[],jns:=[],rjs:=[(1,⟨[(1,.keep),(4,.st .bool .z false)],[(1,.keep)]⟩)] }
noncomputable def QcZ (x0:List (List UInt8)×List (Int×Int)) (x1:Int×Int×List ((Int×Int)×(Int×List Int×Int×Int)×Int×Bool)×List (Int×Int×Int)) (x2:List Int):Option (Int):=
 (Qbn x0).bind fun (y3:Int)=>
 bif (!decide ((y3:Int)=0)) then
 some y3
 else
 (Qb3 x1).bind fun (y4:Int)=>
 bif (!decide ((y4:Int)=0)) then
 some y4
 else
 bif (decide ((8:Int)<(List.length x2:Int))) then
 some 2
 else
 some 0
noncomputable def QaW:Callee:={ ins:=[.v s1 .z,.v s10 .z,.v (.list (.int .i64)) .z],outs:=[((.int .i64),.z)],F:=fun t=>QcZ t.1 t.2.1 t.2.2.1 }
noncomputable def QjJ:Ctx:={ tys:=tys,fns:=[(82,JS),(83,Qah)],frz:=[],lps:=[],jns:=[],rjs:=[] }
noncomputable def QeG (x0:List (List UInt8)×List (Int×Int)) (x1:Int):Option (Bool):=
 (QX x1 1 (List.length x0.1:Int)).bind fun (y2:Bool)=>
 some y2
noncomputable def JG:Callee:={ ins:=[.v s1 .z,.v (.int .i64) .z],outs:=[(.bool,.z)],F:=fun t=>QeG t.1 t.2.1 }
noncomputable def Qif:Ctx:={ tys:=tys,fns:=[(123,Q4)],frz:=[],lps:=[],jns:=[],rjs:=[] }
noncomputable def Qda (x0:List (List UInt8)×List (Int×Int)) (x1:Int):Option (List UInt8×Int):=
 (QeG x0 x1).bind fun (y2:Bool)=>
 bif (!y2) then
 some ([],3)
 else
 bif (inB (IntKind.wrap .i64 (x1 - 1)) x0.1) then
 some (List.getD x0.1 (Int.toNat (IntKind.wrap .i64 (x1 - 1))) [],0)
 else none
noncomputable def YX:Callee:={ ins:=[.v s1 .z,.v (.int .i64) .z],outs:=[(.str,.z),((.int .i64),.z)],F:=fun t=>Qda t.1 t.2.1 }
noncomputable def Qht:Ctx:={ tys:=tys,fns:=[(172,JG)],frz:=[],lps:=[],jns:=[],rjs:=[] }
noncomputable def QaM:Option (List (List UInt8)):=
 some ([[112,97,121],[106,111,105,110],[108,101,97,118,101]]:List (List UInt8))
noncomputable def Js:Callee:={ ins:=[],outs:=[((.list .str),(.o .z))],F:=fun t=>QaM }
noncomputable def QjB:Ctx:={ tys:=tys,fns:=[],frz:=[],lps:=[],jns:=[],rjs:=[] }
noncomputable def Qed (x0:Int) (x1:Int):Option (List UInt8):=
 fmtS x0 x1
noncomputable def QhM:Callee:={ ins:=[.v (.int .i64) .z,.v (.int .i64) .z],outs:=[(.str,.z)],F:=fun t=>Qed t.1 t.2.1 }
noncomputable def Y4 (x0:Int):Option (List UInt8):=
 (Qed x0 10).bind fun (y2:List UInt8)=>
 some y2
noncomputable def Qdb:Callee:={ ins:=[.v (.int .i64) .z],outs:=[(.str,.z)],F:=fun t=>Y4 t.1 }
noncomputable def QsB:Ctx:={ tys:=tys,fns:=[(196,QhM)],frz:=[],lps:=[],jns:=[],rjs:=[] }
noncomputable def Yd (x0:List (List UInt8)) (x1:List UInt8):Option (List UInt8):=
 QkG x0 x1
noncomputable def QhY:Callee:={ ins:=[.v (.list .str) .z,.v .str .z],outs:=[(.str,.z)],F:=fun t=>Yd t.1 t.2.1,dm:=false }
noncomputable def Qf9 (x0:List Int) (x1:List UInt8):Option (List UInt8):=
 (Qh (S:=List (List UInt8)×Int) (X:=List (List UInt8)) (fun (s9:List (List UInt8)×Int)=>
 bif (decide ((s9.2:Int)<(List.length x0:Int))) then
 bif (inB s9.2 x0) then
 (Y4 (List.getD x0 (Int.toNat s9.2) 0)).bind fun (y10:List UInt8)=>
 bif decide (List.length s9.1+List.length ([y10]:List (List UInt8))<=LIM) then
 some (Sum.inl (List.append s9.1 ([y10]:List (List UInt8)),IntKind.wrap .i64 (s9.2+1)))
 else none
 else none
 else
 some (Sum.inr s9.1)) (([]:List (List UInt8)),0)).bind fun (j11:List (List UInt8))=>
 (Yd j11 x1).bind fun (y12:List UInt8)=>
 some y12
noncomputable def QdA:Callee:={ ins:=[.v (.list (.int .i64)) .z,.v .str .z],outs:=[(.str,.z)],F:=fun t=>Qf9 t.1 t.2.1,dm:=false }
noncomputable def Qnr:Ctx:={ tys:=tys,fns:=[(152,Qdb),(153,QhY)],frz:=[],lps:=[(3,(⟨[(1,.keep),(5,.st (.list .str) (.o .z) false),(9,.keep),(10,.keep),(11,.st (.int .i64) .z false)],[]⟩,⟨[((.exit 0),⟨[(1,.keep),(5,.st (.list .str) (.o .z) false)],[]⟩)]⟩))],jns:=[],rjs:=[] }
noncomputable def Qbo (x0:List Int×Int×Int) (x1:List UInt8):Option (List UInt8):=
 (Y4 x0.2.1).bind fun (y6:List UInt8)=>
 bif decide (List.length y6+List.length x1<=LIM) then
 bif decide (List.length (List.append y6 x1)+List.length [111,102]<=LIM) then
 bif decide (List.length (List.append (List.append y6 x1) [111,102])+List.length x1<=LIM) then
 (Qf9 x0.1 [44]).bind fun (y7:List UInt8)=>
 bif decide (List.length (List.append (List.append (List.append y6 x1) [111,102]) x1)+List.length y7<=LIM) then
 (bif (!decide ((x0.2.2:Int)=0)) then
 bif decide (List.length x1+List.length [97,102,116,101,114]<=LIM) then
 bif decide (List.length (List.append x1 [97,102,116,101,114])+List.length x1<=LIM) then
 (Y4 x0.2.2).bind fun (y9:List UInt8)=>
 bif decide (List.length (List.append (List.append x1 [97,102,116,101,114]) x1)+List.length y9<=LIM) then
 bif decide (List.length (List.append (List.append (List.append (List.append y6 x1) [111,102]) x1) y7)+List.length (List.append (List.append (List.append x1 [97,102,116,101,114]) x1) y9)<=LIM) then
 some (List.append (List.append (List.append (List.append (List.append y6 x1) [111,102]) x1) y7) (List.append (List.append (List.append x1 [97,102,116,101,114]) x1) y9))
 else none
 else none
 else none
 else none
 else
 some (List.append (List.append (List.append (List.append y6 x1) [111,102]) x1) y7):Option (List UInt8)).bind fun (j10:List UInt8)=>
 some j10
 else none
 else none
 else none
 else none
noncomputable def J6:Callee:={ ins:=[.v s2 .z,.v .str .z],outs:=[(.str,.z)],F:=fun t=>Qbo t.1 t.2.1,dm:=false }
noncomputable def Qkz:Ctx:={ tys:=tys,fns:=[(152,Qdb),(200,QdA)],frz:=[],lps:=[],jns:=[(3,⟨[(.normal,⟨[(5,.st .str .z false)],[]⟩)]⟩)],rjs:=[] }
noncomputable def Qdv (x0:Int×Int×List (Int×Int)×List (Int×List Int×Int×Int)):Option (List UInt8×Int):=
 (QaM).bind fun (y23:List (List UInt8))=>
 bif (inB x0.1 y23) then
 (bif (!decide ((x0.1:Int)=0)) then
 (Y4 x0.2.1).bind fun (y25:List UInt8)=>
 bif decide (List.length ([List.getD y23 (Int.toNat x0.1) []]:List (List UInt8))+List.length ([y25]:List (List UInt8))<=LIM) then
 some (List.append ([List.getD y23 (Int.toNat x0.1) []]:List (List UInt8)) ([y25]:List (List UInt8)))
 else none
 else
 some ([List.getD y23 (Int.toNat x0.1) []]:List (List UInt8)):Option (List (List UInt8))).bind fun (j26:List (List UInt8))=>
 (Qh (S:=List (List UInt8)×Int) (X:=List (List UInt8)) (fun (s31:List (List UInt8)×Int)=>
 bif (decide ((s31.2:Int)<(List.length x0.2.2.1:Int))) then
 bif (inB s31.2 x0.2.2.1) then
 (Y4 (List.getD x0.2.2.1 (Int.toNat s31.2) (0,0)).1).bind fun (y32:List UInt8)=>
 bif decide (List.length y32+List.length [58]<=LIM) then
 (Y4 (List.getD x0.2.2.1 (Int.toNat s31.2) (0,0)).2).bind fun (y33:List UInt8)=>
 bif decide (List.length (List.append y32 [58])+List.length y33<=LIM) then
 bif decide (List.length s31.1+List.length ([List.append (List.append y32 [58]) y33]:List (List UInt8))<=LIM) then
 some (Sum.inl (List.append s31.1 ([List.append (List.append y32 [58]) y33]:List (List UInt8)),IntKind.wrap .i64 (s31.2+1)))
 else none
 else none
 else none
 else none
 else
 some (Sum.inr s31.1)) (([]:List (List UInt8)),0)).bind fun (j34:List (List UInt8))=>
 (Yd j34 [43]).bind fun (y35:List UInt8)=>
 bif decide (List.length j26+List.length ([y35]:List (List UInt8))<=LIM) then
 (Qh (S:=List (List UInt8)×Int) (X:=List (List UInt8)) (fun (s40:List (List UInt8)×Int)=>
 bif (decide ((s40.2:Int)<(List.length x0.2.2.2:Int))) then
 bif (inB s40.2 x0.2.2.2) then
 (Y4 (List.getD x0.2.2.2 (Int.toNat s40.2) (0,([],(0,0)))).1).bind fun (y41:List UInt8)=>
 bif decide (List.length y41+List.length [61]<=LIM) then
 (Qbo (List.getD x0.2.2.2 (Int.toNat s40.2) (0,([],(0,0)))).2 [95]).bind fun (y42:List UInt8)=>
 bif decide (List.length (List.append y41 [61])+List.length y42<=LIM) then
 bif decide (List.length s40.1+List.length ([List.append (List.append y41 [61]) y42]:List (List UInt8))<=LIM) then
 some (Sum.inl (List.append s40.1 ([List.append (List.append y41 [61]) y42]:List (List UInt8)),IntKind.wrap .i64 (s40.2+1)))
 else none
 else none
 else none
 else none
 else
 some (Sum.inr s40.1)) (List.append j26 ([y35]:List (List UInt8)),0)).bind fun (j43:List (List UInt8))=>
 (Yd j43 [32]).bind fun (y44:List UInt8)=>
 bif (decide ((300:Int)<(List.length y44:Int))) then
 some ([],2)
 else
 some (y44,0)
 else none
 else none
noncomputable def Qa8:Callee:={ ins:=[.v s19 .z],outs:=[(.str,.z),((.int .i64),.z)],F:=fun t=>Qdv t.1,dm:=false }
noncomputable def Qnf:Ctx:={ tys:=tys,fns:=[(151,Js),(152,Qdb),(153,QhY),(154,J6)],frz:=[],lps:=[(6,(⟨[(1,.keep),(4,.keep),(5,.st (.list .str) (.o .z) false),(28,.keep),(29,.keep),(30,.st (.int .i64) .z false)],[(1,.keep)]⟩,⟨[((.exit 0),⟨[(1,.keep),(4,.keep),(5,.st (.list .str) (.o .z) false)],[(1,.keep)]⟩)]⟩)),
 (12,(⟨[(4,.st (.list .str) (.o .z) false),(52,.keep),(53,.keep),(54,.st (.int .i64) .z false)],[]⟩,⟨[((.exit 2),⟨[(4,.st (.list .str) (.o .z) false)],[]⟩)]⟩))],jns:=[(3,⟨[(.normal,⟨[(1,.keep),(4,.st (.list .str) (.o .z) false)],[(1,.keep)]⟩)]⟩)],rjs:=[] }
noncomputable def YW (x0:List UInt8) (x1:List UInt8):Option (List (List UInt8)):=
 Qiv x0 x1
noncomputable def Qen:Callee:={ ins:=[.v .str .z,.v .str .z],outs:=[((.list .str),(.o .z))],F:=fun t=>YW t.1 t.2.1 }
noncomputable def Yc (x0:List UInt8):Option (Int):=
 numO x0
noncomputable def Qdz:Callee:={ ins:=[.v .str .z],outs:=[((.int .i64),.z)],F:=fun t=>Yc t.1,dm:=false }
noncomputable def QdD (x0:List UInt8) (x1:List UInt8):Option (List UInt8×List UInt8×Bool):=
 cutS x0 x1
noncomputable def QiM:Callee:={ ins:=[.v .str .z,.v .str .z],outs:=[(.str,.z),(.str,.z),(.bool,.z)],F:=fun t=>QdD t.1 t.2.1 }
noncomputable def Qfk (x0:List UInt8) (x1:List UInt8):Option (List Int):=
 (YW x0 x1).bind fun (y7:List (List UInt8))=>
 (Qh (S:=List Int×Int) (X:=List Int) (fun (s10:List Int×Int)=>
 bif (decide ((s10.2:Int)<(List.length y7:Int))) then
 bif (inB s10.2 y7) then
 (Yc (List.getD y7 (Int.toNat s10.2) [])).bind fun (y11:Int)=>
 bif decide (List.length s10.1+List.length ([y11]:List Int)<=LIM) then
 some (Sum.inl (List.append s10.1 ([y11]:List Int),IntKind.wrap .i64 (s10.2+1)))
 else none
 else none
 else
 some (Sum.inr s10.1)) (([]:List Int),0)).bind fun (j12:List Int)=>
 some j12
noncomputable def Qcq:Callee:={ ins:=[.v .str .z,.v .str .z],outs:=[((.list (.int .i64)),(.o .z))],F:=fun t=>Qfk t.1 t.2.1,dm:=false }
noncomputable def Ql5:Ctx:={ tys:=tys,fns:=[(173,Qen),(174,Qdz)],frz:=[],lps:=[(3,(⟨[(5,.st (.list (.int .i64)) (.o .z) false),(11,.keep),(12,.keep),(13,.st (.int .i64) .z false)],[]⟩,⟨[((.exit 0),⟨[(5,.st (.list (.int .i64)) (.o .z) false)],[]⟩)]⟩))],jns:=[],rjs:=[] }
noncomputable def Qet (x0:List UInt8) (x1:List UInt8):Option ((List Int×Int×Int)×Bool):=
 (YW x0 x1).bind fun (y13:List (List UInt8))=>
 (bif (decide ((300:Int)<(List.length x0:Int))) then
 some true
 else
 bif (!decide (((List.length y13:Int):Int)=3)) then
 some (!decide (((List.length y13:Int):Int)=5))
 else
 some false:Option (Bool)).bind fun (j14:Bool)=>
 bif j14 then
 some (([],(0,0)),false)
 else
 bif (inB 0 y13) then
 (Yc (List.getD y13 (Int.toNat 0) [])).bind fun (y15:Int)=>
 bif (inB 2 y13) then
 (Qfk (List.getD y13 (Int.toNat 2) []) [44]).bind fun (y16:List Int)=>
 (bif (decide (((List.length y13:Int):Int)=5)) then
 bif (inB 4 y13) then
 (Yc (List.getD y13 (Int.toNat 4) [])).bind fun (y18:Int)=>
 some (y16,(y15,y18))
 else none
 else
 some (y16,(y15,0)):Option (List Int×Int×Int)).bind fun (j19:List Int×Int×Int)=>
 ((Ju j19).bind fun (y22:Int)=>
 bif (!decide ((y22:Int)=0)) then
 some true
 else
 (Qbo j19 x1).bind fun (y23:List UInt8)=>
 some (!decide ((y23:List UInt8)=x0)):Option (Bool)).bind fun (j24:Bool)=>
 bif j24 then
 some (([],(0,0)),false)
 else
 some (j19,true)
 else none
 else none
noncomputable def Qbq:Callee:={ ins:=[.v .str .z,.v .str .z],outs:=[(s2,(.p (.o .z) .z)),(.bool,.z)],F:=fun t=>Qet t.1 t.2.1,dm:=false }
noncomputable def QkB:Ctx:={ tys:=tys,fns:=[(154,J6),(168,YE),(173,Qen),(174,Qdz),(239,Qcq)],frz:=[],lps:=[],jns:=[(6,⟨[(.normal,⟨[(0,.keep),(1,.keep),(4,.keep),(7,.keep)],[(4,.keep),(7,.st s2 (.p (.o .z) .z) false)]⟩)]⟩)],rjs:=[(2,⟨[(0,.keep),(1,.keep),(4,.keep),(6,.keep),(23,.st .bool .z false)],[(4,.keep)]⟩),
 (7,⟨[(4,.keep),(7,.keep),(51,.st .bool .z false)],[(4,.keep),(7,.keep)]⟩)] }
noncomputable def QfA (x0:List UInt8):Option ((Int×List Int×Int×Int)×Bool):=
 (QdD x0 [61]).bind fun (y4:List UInt8×List UInt8×Bool)=>
 (Qet y4.2.1 [95]).bind fun (y5:(List Int×Int×Int)×Bool)=>
 (Yc y4.1).bind fun (y6:Int)=>
 some ((y6,y5.1),y5.2)
noncomputable def Qb7:Callee:={ ins:=[.v .str .z],outs:=[(s3,(.p .z (.p (.o .z) .z))),(.bool,.z)],F:=fun t=>QfA t.1,dm:=false }
noncomputable def QlS:Ctx:={ tys:=tys,fns:=[(174,Qdz),(175,QiM),(218,Qbq)],frz:=[],lps:=[],jns:=[],rjs:=[] }
noncomputable def Yw (x0:List (Int×Int)) (x1:Int×Int):Option (Int):=
 (Qh (S:=Int) (X:=(Unit)⊕(Int)) (fun (s5:Int)=>
 bif (decide ((s5:Int)<(List.length x0:Int))) then
 bif (inB s5 x0) then
 bif (Sh.beq (.prod (.int .i64) (.int .i64)) x1 (List.getD x0 (Int.toNat s5) (0,0))) then
 some (Sum.inr (Sum.inr s5))
 else
 some (Sum.inl (IntKind.wrap .i64 (s5+1)))
 else none
 else
 some (Sum.inr (Sum.inl ()))) 0).bind fun (j6:(Unit)⊕(Int))=>
 Sum.elim (fun (j7:Unit)=>
 some (-1)) (fun (j8:Int)=>
 some j8) j6
noncomputable def Zk:Callee:={ ins:=[.v (.list s0) .z,.v s0 .z],outs:=[((.int .i64),.z)],F:=fun t=>Yw t.1 t.2.1 }
noncomputable def Qas:Ctx:={ tys:=tys,fns:=[],frz:=[],lps:=[(2,(⟨[(0,.keep),(3,.keep),(7,.keep),(8,.st (.int .i64) .z false)],[(3,.keep)]⟩,⟨[((.exit 0),⟨[],[]⟩),(.ret,⟨[(4,.st (.int .i64) .z false)],[]⟩)]⟩))],jns:=[],rjs:=[] }
noncomputable def Qu (x0:List (Int×Int)) (x1:Int×Int):Option (Bool):=
 (Yw x0 x1).bind fun (y2:Int)=>
 some (decide ((0:Int)<=y2))
noncomputable def Qv:Callee:={ ins:=[.v (.list s0) .z,.v s0 .z],outs:=[(.bool,.z)],F:=fun t=>Qu t.1 t.2.1 }
noncomputable def JP:Ctx:={ tys:=tys,fns:=[(179,Zk)],frz:=[],lps:=[],jns:=[],rjs:=[] }
noncomputable def Qag (x0:Int):Option (Bool):=
 (bif (decide ((x0:Int)<1)) then
 some true
 else
 some (decide ((4:Int)<x0)):Option (Bool)).bind fun (j2:Bool)=>
 some j2
noncomputable def Qaj:Callee:={ ins:=[.v (.int .i64) .z],outs:=[(.bool,.z)],F:=fun t=>Qag t.1 }
noncomputable def QiQ:Ctx:={ tys:=tys,fns:=[],frz:=[],lps:=[],jns:=[],rjs:=[(1,⟨[(2,.st .bool .z false)],[]⟩)] }
noncomputable def J0 (x0:Int×List Int×Int×Int):Option (Int):=
 (QX x0.1 1 1000000).bind fun (y3:Bool)=>
 bif (!y3) then
 some 3
 else
 (Ju x0.2).bind fun (y4:Int)=>
 some y4
noncomputable def QbE:Callee:={ ins:=[.v s3 .z],outs:=[((.int .i64),.z)],F:=fun t=>J0 t.1 }
noncomputable def QkH:Ctx:={ tys:=tys,fns:=[(123,Q4),(168,YE)],frz:=[],lps:=[],jns:=[],rjs:=[] }
noncomputable def Qfo (x0:Int×Int×List (Int×Int)×List (Int×List Int×Int×Int)):Option (Int):=
 ((QX x0.1 0 2).bind fun (y31:Bool)=>
 bif (!y31) then
 some true
 else
 some (!(Sh.beq .bool (decide ((x0.1:Int)=0)) (decide ((x0.2.1:Int)=0)))):Option (Bool)).bind fun (j32:Bool)=>
 bif j32 then
 some 1
 else
 (bif (!decide ((x0.2.1:Int)=0)) then
 (QaQ x0.2.1).bind fun (y34:Bool)=>
 some (!y34)
 else
 some false:Option (Bool)).bind fun (j35:Bool)=>
 bif j35 then
 some 3
 else
 ((Qag (List.length x0.2.2.1:Int)).bind fun (y38:Bool)=>
 bif y38 then
 some true
 else
 (Qag (List.length x0.2.2.2:Int)).bind fun (y39:Bool)=>
 some y39:Option (Bool)).bind fun (j40:Bool)=>
 bif j40 then
 some 2
 else
 (Qh (S:=Int) (X:=(Unit)⊕(Int)) (fun (s45:Int)=>
 bif (decide ((s45:Int)<(List.length x0.2.2.1:Int))) then
 bif (inB s45 x0.2.2.1) then
 (QaV (List.getD x0.2.2.1 (Int.toNat s45) (0,0))).bind fun (y46:Bool)=>
 bif (!y46) then
 some (Sum.inr (Sum.inr 3))
 else
 bif (Zp 0 s45 x0.2.2.1) then
 (Qu (cut 0 s45 x0.2.2.1) (List.getD x0.2.2.1 (Int.toNat s45) (0,0))).bind fun (y47:Bool)=>
 bif y47 then
 some (Sum.inr (Sum.inr 7))
 else
 some (Sum.inl (IntKind.wrap .i64 (s45+1)))
 else none
 else none
 else
 some (Sum.inr (Sum.inl ()))) 0).bind fun (j48:(Unit)⊕(Int))=>
 Sum.elim (fun (j49:Unit)=>
 (Qh (S:=Int) (X:=(Unit)⊕(Int)) (fun (s53:Int)=>
 bif (decide ((s53:Int)<(List.length x0.2.2.2:Int))) then
 bif (inB s53 x0.2.2.2) then
 (J0 (List.getD x0.2.2.2 (Int.toNat s53) (0,([],(0,0))))).bind fun (y54:Int)=>
 bif (!decide ((y54:Int)=0)) then
 some (Sum.inr (Sum.inr y54))
 else
 some (Sum.inl (IntKind.wrap .i64 (s53+1)))
 else none
 else
 some (Sum.inr (Sum.inl ()))) 0).bind fun (j55:(Unit)⊕(Int))=>
 Sum.elim (fun (j56:Unit)=>
 (bif (decide ((x0.1:Int)=1)) then
 bif (inB 0 x0.2.2.2) then
 some (decide (((List.getD x0.2.2.2 (Int.toNat 0) (0,([],(0,0)))).1:Int)<100))
 else none
 else
 some false:Option (Bool)).bind fun (j58:Bool)=>
 bif j58 then
 some 8
 else
 some 0) (fun (j57:Int)=>
 some j57) j55) (fun (j50:Int)=>
 some j50) j48
noncomputable def Qco:Callee:={ ins:=[.v s19 .z],outs:=[((.int .i64),.z)],F:=fun t=>Qfo t.1 }
noncomputable def Qlt:Ctx:={ tys:=tys,fns:=[(114,JJ),(123,Q4),(133,Qv),(167,QaA),(219,Qaj),(220,QbE)],frz:=[],lps:=[(9,(⟨[(1,.keep),(47,.keep),(48,.keep),(49,.st (.int .i64) .z false)],[(1,.keep)]⟩,⟨[((.exit 1),⟨[(1,.keep)],[(1,.keep)]⟩),(.ret,⟨[(2,.st (.int .i64) .z false)],[]⟩)]⟩)),
 (17,(⟨[(1,.keep),(65,.keep),(66,.keep),(67,.st (.int .i64) .z false)],[(1,.keep)]⟩,⟨[((.exit 3),⟨[(1,.keep)],[(1,.keep)]⟩),(.ret,⟨[(2,.st (.int .i64) .z false)],[]⟩)]⟩))],jns:=[],rjs:=[(2,⟨[(1,.keep),(3,.keep),(9,.st .bool .z false)],[(1,.keep)]⟩),
 (4,⟨[(1,.keep),(3,.keep),(23,.st .bool .z false)],[(1,.keep)]⟩),
 (6,⟨[(1,.keep),(33,.st .bool .z false)],[(1,.keep)]⟩),
 (23,⟨[(87,.st .bool .z false)],[]⟩)] }
noncomputable def Qf5 (x0:List UInt8):Option ((Int×Int×List (Int×Int)×List (Int×List Int×Int×Int))×Bool):=
 (YW x0 [32]).bind fun (y32:List (List UInt8))=>
 (QaM).bind fun (y33:List (List UInt8))=>
 bif (inB 0 y32) then
 (QO y33 (List.getD y32 (Int.toNat 0) [])).bind fun (y34:Int)=>
 (bif (decide ((300:Int)<(List.length x0:Int))) then
 some true
 else
 some (decide ((y34:Int)<0)):Option (Bool)).bind fun (j35:Bool)=>
 bif j35 then
 some ((0,(0,([],[]))),false)
 else
 bif (Zp 1 (List.length y32:Int) y32) then
 (bif (!decide ((y34:Int)=0)) then
 some (decide ((0:Int)<(List.length (List.take (Int.toNat ((List.length y32:Int) - 1)) (List.drop (Int.toNat 1) y32)):Int)))
 else
 some false:Option (Bool)).bind fun (j36:Bool)=>
 (bif j36 then
 bif (inB 0 (List.take (Int.toNat ((List.length y32:Int) - 1)) (List.drop (Int.toNat 1) y32))) then
 (Yc (List.getD (List.take (Int.toNat ((List.length y32:Int) - 1)) (List.drop (Int.toNat 1) y32)) (Int.toNat 0) [])).bind fun (y38:Int)=>
 bif (Zp 1 (List.length (List.take (Int.toNat ((List.length y32:Int) - 1)) (List.drop (Int.toNat 1) y32)):Int) (List.take (Int.toNat ((List.length y32:Int) - 1)) (List.drop (Int.toNat 1) y32))) then
 some (List.take (Int.toNat ((List.length (List.take (Int.toNat ((List.length y32:Int) - 1)) (List.drop (Int.toNat 1) y32)):Int) - 1)) (List.drop (Int.toNat 1) (List.take (Int.toNat ((List.length y32:Int) - 1)) (List.drop (Int.toNat 1) y32))),(y34,(y38,([],[]))))
 else none
 else none
 else
 some (List.take (Int.toNat ((List.length y32:Int) - 1)) (List.drop (Int.toNat 1) y32),(y34,(0,([],[])))):Option (List (List UInt8)×Int×Int×List (Int×Int)×List (Int×List Int×Int×Int))).bind fun (j39:List (List UInt8)×Int×Int×List (Int×Int)×List (Int×List Int×Int×Int))=>
 (bif (decide (((List.length j39.1:Int):Int)<2)) then
 some true
 else
 some (decide ((5:Int)<(List.length j39.1:Int))):Option (Bool)).bind fun (j40:Bool)=>
 bif j40 then
 some ((0,(0,([],[]))),false)
 else
 bif (inB 0 j39.1) then
 (YW (List.getD j39.1 (Int.toNat 0) []) [43]).bind fun (y41:List (List UInt8))=>
 (Qh (S:=Int×Int×Int×List (Int×Int)×List (Int×List Int×Int×Int)) (X:=Int×Int×List (Int×Int)×List (Int×List Int×Int×Int)) (fun (s48:Int×Int×Int×List (Int×Int)×List (Int×List Int×Int×Int))=>
 bif (decide ((s48.1:Int)<(List.length y41:Int))) then
 bif (inB s48.1 y41) then
 (QdD (List.getD y41 (Int.toNat s48.1) []) [58]).bind fun (y49:List UInt8×List UInt8×Bool)=>
 (Yc y49.1).bind fun (y50:Int)=>
 (Yc y49.2.1).bind fun (y51:Int)=>
 bif decide (List.length s48.2.2.2.1+List.length ([(y50,y51)]:List (Int×Int))<=LIM) then
 some (Sum.inl (IntKind.wrap .i64 (s48.1+1),(s48.2.1,(s48.2.2.1,(List.append s48.2.2.2.1 ([(y50,y51)]:List (Int×Int)),s48.2.2.2.2)))))
 else none
 else none
 else
 some (Sum.inr s48.2)) (0,j39.2)).bind fun (j52:Int×Int×List (Int×Int)×List (Int×List Int×Int×Int))=>
 bif (Zp 1 (List.length j39.1:Int) j39.1) then
 (Qh (S:=Int×Int×Int×List (Int×Int)×List (Int×List Int×Int×Int)) (X:=(Int×Int×List (Int×Int)×List (Int×List Int×Int×Int))⊕(Bool×Int×Int×List (Int×Int)×List (Int×List Int×Int×Int))) (fun (s55:Int×Int×Int×List (Int×Int)×List (Int×List Int×Int×Int))=>
 bif (decide ((s55.1:Int)<(List.length (List.take (Int.toNat ((List.length j39.1:Int) - 1)) (List.drop (Int.toNat 1) j39.1)):Int))) then
 bif (inB s55.1 (List.take (Int.toNat ((List.length j39.1:Int) - 1)) (List.drop (Int.toNat 1) j39.1))) then
 (QfA (List.getD (List.take (Int.toNat ((List.length j39.1:Int) - 1)) (List.drop (Int.toNat 1) j39.1)) (Int.toNat s55.1) [])).bind fun (y56:(Int×List Int×Int×Int)×Bool)=>
 bif (!y56.2) then
 some (Sum.inr (Sum.inr (false,(0,(0,([],[]))))))
 else
 bif decide (List.length s55.2.2.2.2+List.length ([y56.1]:List (Int×List Int×Int×Int))<=LIM) then
 some (Sum.inl (IntKind.wrap .i64 (s55.1+1),(s55.2.1,(s55.2.2.1,(s55.2.2.2.1,List.append s55.2.2.2.2 ([y56.1]:List (Int×List Int×Int×Int)))))))
 else none
 else none
 else
 some (Sum.inr (Sum.inl s55.2))) (0,j52)).bind fun (j57:(Int×Int×List (Int×Int)×List (Int×List Int×Int×Int))⊕(Bool×Int×Int×List (Int×Int)×List (Int×List Int×Int×Int)))=>
 Sum.elim (fun (j58:Int×Int×List (Int×Int)×List (Int×List Int×Int×Int))=>
 (Qfo j58).bind fun (y60:Int)=>
 bif (!decide ((y60:Int)=0)) then
 some ((0,(0,([],[]))),false)
 else
 (Qdv j58).bind fun (y61:List UInt8×Int)=>
 (bif (decide ((y61.2:Int)=0)) then
 some (decide ((y61.1:List UInt8)=x0),j58)
 else
 some (false,j58):Option (Bool×Int×Int×List (Int×Int)×List (Int×List Int×Int×Int))).bind fun (j62:Bool×Int×Int×List (Int×Int)×List (Int×List Int×Int×Int))=>
 some (j62.2,j62.1)) (fun (j59:Bool×Int×Int×List (Int×Int)×List (Int×List Int×Int×Int))=>
 some (j59.2,j59.1)) j57
 else none
 else none
 else none
 else none
noncomputable def QdV:Callee:={ ins:=[.v .str .z],outs:=[(s19,(.p .z (.p .z (.p (.o .z) (.o (.p .z (.p (.o .z) .z))))))),(.bool,.z)],F:=fun t=>Qf5 t.1,dm:=false }
noncomputable def Qm2:Ctx:={ tys:=tys,fns:=[(99,Qa8),(151,Js),(155,QY),(173,Qen),(174,Qdz),(175,QiM),(176,Qb7),(177,Qco)],frz:=[],lps:=[(12,(⟨[(0,.keep),(2,.keep),(4,.keep),(5,.keep),(63,.keep),(64,.keep),(65,.st (.int .i64) .z false)],[(2,.keep),(5,.st s19 (.p .z (.p .z (.p (.o .z) (.o (.p .z (.p (.o .z) .z)))))) false)]⟩,⟨[((.exit 0),⟨[(0,.keep),(2,.keep),(4,.keep),(5,.keep)],[(2,.keep),(5,.st s19 (.p .z (.p .z (.p (.o .z) (.o (.p .z (.p (.o .z) .z)))))) false)]⟩)]⟩)),
 (18,(⟨[(0,.keep),(2,.keep),(4,.keep),(5,.keep),(87,.keep),(88,.keep),(89,.st (.int .i64) .z false)],[(2,.keep),(5,.st s19 (.p .z (.p .z (.p (.o .z) (.o (.p .z (.p (.o .z) .z)))))) false)]⟩,⟨[((.exit 2),⟨[(0,.keep),(2,.keep),(5,.keep)],[(2,.keep),(5,.st s19 (.p .z (.p .z (.p (.o .z) (.o (.p .z (.p (.o .z) .z)))))) false)]⟩),(.ret,⟨[(2,.keep),(3,.st .bool .z false)],[(2,.st s19 (.p .z (.p .z (.p (.o .z) (.o (.p .z (.p (.o .z) .z)))))) false)]⟩)]⟩))],jns:=[(7,⟨[(.normal,⟨[(0,.keep),(2,.keep),(4,.st (.list .str) (.o .z) false),(5,.keep)],[(2,.keep),(5,.st s19 (.p .z (.p .z (.p (.o .z) (.o (.p .z (.p (.o .z) .z)))))) false)]⟩)]⟩)],rjs:=[(3,⟨[(0,.keep),(2,.keep),(4,.keep),(5,.keep),(32,.st .bool .z false)],[(2,.keep),(5,.keep)]⟩),
 (6,⟨[(0,.keep),(2,.keep),(4,.keep),(5,.keep),(43,.st .bool .z false)],[(2,.keep),(5,.keep)]⟩),
 (9,⟨[(0,.keep),(2,.keep),(4,.keep),(5,.keep),(58,.st .bool .z false)],[(2,.keep),(5,.keep)]⟩),
 (28,⟨[(2,.keep),(3,.st .bool .z false)],[(2,.st s19 (.p .z (.p .z (.p (.o .z) (.o (.p .z (.p (.o .z) .z)))))) false)]⟩)] }
noncomputable def JI (x0:List (List UInt8)×List (Int×Int)) (x1:Int):Option ((Int×Int×List (Int×Int)×List (Int×List Int×Int×Int))×Int):=
 (Qda x0 x1).bind fun (y3:List UInt8×Int)=>
 bif (!decide ((y3.2:Int)=0)) then
 some ((0,(0,([],[]))),y3.2)
 else
 (Qf5 y3.1).bind fun (y4:(Int×Int×List (Int×Int)×List (Int×List Int×Int×Int))×Bool)=>
 bif (!y4.2) then
 some ((0,(0,([],[]))),5)
 else
 some (y4.1,0)
noncomputable def YO:Callee:={ ins:=[.v s1 .z,.v (.int .i64) .z],outs:=[(s19,(.p .z (.p .z (.p (.o .z) (.o (.p .z (.p (.o .z) .z))))))),((.int .i64),.z)],F:=fun t=>JI t.1 t.2.1,dm:=false }
noncomputable def QiC:Ctx:={ tys:=tys,fns:=[(127,YX),(128,QdV)],frz:=[],lps:=[],jns:=[],rjs:=[] }
noncomputable def Qar (x0:List (List UInt8)×List (Int×Int)) (x1:List Int):Option (List (Int×Int×List (Int×Int)×List (Int×List Int×Int×Int))):=
 (Qh (S:=List (Int×Int×List (Int×Int)×List (Int×List Int×Int×Int))×Int) (X:=List (Int×Int×List (Int×Int)×List (Int×List Int×Int×Int))) (fun (s8:List (Int×Int×List (Int×Int)×List (Int×List Int×Int×Int))×Int)=>
 bif (decide ((s8.2:Int)<(List.length x1:Int))) then
 bif (inB s8.2 x1) then
 (JI x0 (List.getD x1 (Int.toNat s8.2) 0)).bind fun (y9:(Int×Int×List (Int×Int)×List (Int×List Int×Int×Int))×Int)=>
 bif decide (List.length s8.1+List.length ([y9.1]:List (Int×Int×List (Int×Int)×List (Int×List Int×Int×Int)))<=LIM) then
 some (Sum.inl (List.append s8.1 ([y9.1]:List (Int×Int×List (Int×Int)×List (Int×List Int×Int×Int))),IntKind.wrap .i64 (s8.2+1)))
 else none
 else none
 else
 some (Sum.inr s8.1)) (([]:List (Int×Int×List (Int×Int)×List (Int×List Int×Int×Int))),0)).bind fun (j10:List (Int×Int×List (Int×Int)×List (Int×List Int×Int×Int)))=>
 some j10
noncomputable def YU:Callee:={ ins:=[.v s1 .z,.v (.list (.int .i64)) .z],outs:=[((.list s19),(.o (.p .z (.p .z (.p (.o .z) (.o (.p .z (.p (.o .z) .z))))))))],F:=fun t=>Qar t.1 t.2.1,dm:=false }
noncomputable def Qhi:Ctx:={ tys:=tys,fns:=[(84,YO)],frz:=[],lps:=[(3,(⟨[(2,.keep),(5,.st (.list s19) (.o (.p .z (.p .z (.p (.o .z) (.o (.p .z (.p (.o .z) .z))))))) false),(11,.keep),(12,.keep),(13,.st (.int .i64) .z false)],[(2,.keep)]⟩,⟨[((.exit 0),⟨[(5,.st (.list s19) (.o (.p .z (.p .z (.p (.o .z) (.o (.p .z (.p (.o .z) .z))))))) false)],[]⟩)]⟩))],jns:=[],rjs:=[] }
noncomputable def QbH (x0:List (List UInt8)×List (Int×Int)) (x1:List UInt8):Option (Int):=
 (QO x0.1 x1).bind fun (y2:Int)=>
 some (IntKind.wrap .i64 (y2+1))
noncomputable def JN:Callee:={ ins:=[.v s1 .z,.v .str .z],outs:=[((.int .i64),.z)],F:=fun t=>QbH t.1 t.2.1 }
noncomputable def Qix:Ctx:={ tys:=tys,fns:=[(155,QY)],frz:=[],lps:=[],jns:=[],rjs:=[] }
noncomputable def Q7 (x0:List ((Int×Int)×(Int×List Int×Int×Int)×Int×Bool)) (x1:Int×Int) (x2:((Int×Int)×(Int×List Int×Int×Int)×Int×Bool)->(Int×Int)->Option Int):Option (Int×Bool):=
 (Qh (S:=Int×Int) (X:=Int) (fun (s16:Int×Int)=>
 bif (decide ((s16.1:Int)<s16.2)) then
 bif (inB (IntKind.wrap .i64 (Int.fdiv (IntKind.wrap .u64 (IntKind.wrap .i64 (s16.1+s16.2))) (2 ^ 1))) x0) then
 (x2 (List.getD x0 (Int.toNat (IntKind.wrap .i64 (Int.fdiv (IntKind.wrap .u64 (IntKind.wrap .i64 (s16.1+s16.2))) (2 ^ 1)))) ((0,0),((0,([],(0,0))),(0,false)))) x1).bind fun (y17:Int)=>
 (bif (decide ((y17:Int)<0)) then
 some (IntKind.wrap .i64 ((IntKind.wrap .i64 (Int.fdiv (IntKind.wrap .u64 (IntKind.wrap .i64 (s16.1+s16.2))) (2 ^ 1)))+1),s16.2)
 else
 some (s16.1,IntKind.wrap .i64 (Int.fdiv (IntKind.wrap .u64 (IntKind.wrap .i64 (s16.1+s16.2))) (2 ^ 1))):Option (Int×Int)).bind fun (j18:Int×Int)=>
 some (Sum.inl (j18.1,j18.2))
 else none
 else
 some (Sum.inr s16.1)) (0,(List.length x0:Int))).bind fun (j19:Int)=>
 (bif (decide ((j19:Int)<(List.length x0:Int))) then
 bif (inB j19 x0) then
 (x2 (List.getD x0 (Int.toNat j19) ((0,0),((0,([],(0,0))),(0,false)))) x1).bind fun (y21:Int)=>
 some (j19,decide ((y21:Int)=0))
 else none
 else
 some (j19,false):Option (Int×Bool)).bind fun (j22:Int×Bool)=>
 some (j22.1,j22.2)
noncomputable def Qs:Callee:={ ins:=[.v (.list s6) .z,.v s0 .z,.v (.fn2 s6 s0 (.int .i64)) .z],outs:=[((.int .i64),.z),(.bool,.z)],F:=fun t=>Q7 t.1 t.2.1 t.2.2.1 }
noncomputable def ZH:Ctx:={ tys:=tys,fns:=[],frz:=[],lps:=[(3,(⟨[(0,.keep),(2,.keep),(4,.keep),(8,.keep),(9,.st (.int .i64) .z false),(10,.st (.int .i64) .z false)],[(4,.keep)]⟩,⟨[((.exit 0),⟨[(0,.keep),(2,.keep),(4,.keep),(8,.keep),(9,.st (.int .i64) .z false)],[(4,.keep)]⟩)]⟩))],jns:=[(6,⟨[(.normal,⟨[(0,.keep),(2,.keep),(4,.keep),(8,.keep),(9,.st (.int .i64) .z false),(10,.st (.int .i64) .z false)],[(4,.keep)]⟩)]⟩)],rjs:=[(8,⟨[(6,.st (.int .i64) .z false),(7,.st .bool .z false)],[]⟩)] }
noncomputable def QbC (x0:(Int×Int)×(Int×List Int×Int×Int)×Int×Bool) (x1:Int×Int):Option (Int):=
 (YM x0.1 x1).bind fun (y2:Int)=>
 some y2
noncomputable def JQ:Callee:={ ins:=[.v s6 .z,.v s0 .z],outs:=[((.int .i64),.z)],F:=fun t=>QbC t.1 t.2.1 }
noncomputable def QiH:Ctx:={ tys:=tys,fns:=[(169,Z8)],frz:=[],lps:=[],jns:=[],rjs:=[] }
noncomputable def Qbt (x0:List ((Int×Int)×(Int×List Int×Int×Int)×Int×Bool)) (x1:Int×Int):Option (Int×Bool):=
 (Q7 x0 x1 (fun (a5:(Int×Int)×(Int×List Int×Int×Int)×Int×Bool) (a6:Int×Int)=>(QbC a5 a6).bind fun r7=>some r7)).bind fun (y8:Int×Bool)=>
 some (y8.1,y8.2)
noncomputable def QbG:Callee:={ ins:=[.v (.list s6) .z,.v s0 .z],outs:=[((.int .i64),.z),(.bool,.z)],F:=fun t=>Qbt t.1 t.2.1 }
noncomputable def Qko:Ctx:={ tys:=tys,fns:=[(201,Qs),(202,JQ)],frz:=[],lps:=[],jns:=[],rjs:=[] }
noncomputable def ZV (x0:List ((Int×Int)×(Int×List Int×Int×Int)×Int×Bool)) (x1:((Int×Int)×(Int×List Int×Int×Int)×Int×Bool)->((Int×Int)×(Int×List Int×Int×Int)×Int×Bool)->Option Int):Option (List ((Int×Int)×(Int×List Int×Int×Int)×Int×Bool)):=
 Qkh x0 x1
noncomputable def Jj:Callee:={ ins:=[.mu (.list s6) (.o (.p .z (.p (.p .z (.p (.o .z) .z)) .z))) (.o (.p .z (.p (.p .z (.p (.o .z) .z)) .z))),.v (.fn2 s6 s6 (.int .i64)) .z],outs:=[],F:=fun t=>ZV t.1 t.2.1 }
noncomputable def YF (x0:(Int×Int)×(Int×List Int×Int×Int)×Int×Bool) (x1:(Int×Int)×(Int×List Int×Int×Int)×Int×Bool):Option (Int):=
 (YM x0.1 x1.1).bind fun (y2:Int)=>
 some y2
noncomputable def QaO:Callee:={ ins:=[.v s6 .z,.v s6 .z],outs:=[((.int .i64),.z)],F:=fun t=>YF t.1 t.2.1 }
noncomputable def Qjs:Ctx:={ tys:=tys,fns:=[(169,Z8)],frz:=[],lps:=[],jns:=[],rjs:=[] }
noncomputable def Qgo (x0:List ((Int×Int)×(Int×List Int×Int×Int)×Int×Bool)):Option (List ((Int×Int)×(Int×List Int×Int×Int)×Int×Bool)):=
 (ZV x0 (fun (a5:(Int×Int)×(Int×List Int×Int×Int)×Int×Bool) (a6:(Int×Int)×(Int×List Int×Int×Int)×Int×Bool)=>(YF a5 a6).bind fun r7=>some r7)).bind fun (y8:List ((Int×Int)×(Int×List Int×Int×Int)×Int×Bool))=>
 some y8
noncomputable def QdP:Callee:={ ins:=[.v (.list s6) (.o (.p .z (.p (.p .z (.p (.o .z) .z)) .z)))],outs:=[((.list s6),(.o (.p .z (.p (.p .z (.p (.o .z) .z)) .z))))],F:=fun t=>Qgo t.1 }
noncomputable def QnC:Ctx:={ tys:=tys,fns:=[(203,Jj),(204,QaO)],frz:=[],lps:=[],jns:=[],rjs:=[] }
noncomputable def Yp (x0:List Int):Option (List Int):=
 bif List.isEmpty x0 then
 agree (some ([]:List Int)) (bif decide (List.length ([]:List Int)+List.length x0<=LIM) then
 some (List.append ([]:List Int) x0)
 else none)
 else
 bif decide (List.length ([]:List Int)+List.length x0<=LIM) then
 some (List.append ([]:List Int) x0)
 else none
noncomputable def ZK:Callee:={ ins:=[.v (.list (.int .i64)) .z],outs:=[((.list (.int .i64)),(.o .z))],F:=fun t=>Yp t.1 }
noncomputable def QcS:Ctx:={ tys:=tys,fns:=[],frz:=[],lps:=[],jns:=[],rjs:=[] }
noncomputable def QhV (x0:List Int×Int×Int):Option (List Int×Int×Int):=
 (Yp x0.1).bind fun (y2:List Int)=>
 some (y2,x0.2)
noncomputable def Qcg:Callee:={ ins:=[.v s2 .z],outs:=[(s2,(.p (.o .z) .z))],F:=fun t=>QhV t.1 }
noncomputable def Qlu:Ctx:={ tys:=tys,fns:=[(113,ZK)],frz:=[],lps:=[],jns:=[],rjs:=[] }
noncomputable def Qgn (x0:Int×List Int×Int×Int):Option (Int×List Int×Int×Int):=
 (QhV x0.2).bind fun (y2:List Int×Int×Int)=>
 some (x0.1,y2)
noncomputable def Qdq:Callee:={ ins:=[.v s3 .z],outs:=[(s3,(.p .z (.p (.o .z) .z)))],F:=fun t=>Qgn t.1 }
noncomputable def Qnm:Ctx:={ tys:=tys,fns:=[(230,Qcg)],frz:=[],lps:=[],jns:=[],rjs:=[] }
noncomputable def Qej (x0:List ((Int×Int)×(Int×List Int×Int×Int)×Int×Bool)):Option (List ((Int×Int)×(Int×List Int×Int×Int)×Int×Bool)):=
 (Qh (S:=List ((Int×Int)×(Int×List Int×Int×Int)×Int×Bool)×Int) (X:=List ((Int×Int)×(Int×List Int×Int×Int)×Int×Bool)) (fun (s8:List ((Int×Int)×(Int×List Int×Int×Int)×Int×Bool)×Int)=>
 bif (decide ((s8.2:Int)<(List.length x0:Int))) then
 bif (inB s8.2 x0) then
 (Qgn (List.getD x0 (Int.toNat s8.2) ((0,0),((0,([],(0,0))),(0,false)))).2.1).bind fun (y9:Int×List Int×Int×Int)=>
 bif decide (List.length s8.1+List.length ([((List.getD x0 (Int.toNat s8.2) ((0,0),((0,([],(0,0))),(0,false)))).1,(y9,(List.getD x0 (Int.toNat s8.2) ((0,0),((0,([],(0,0))),(0,false)))).2.2))]:List ((Int×Int)×(Int×List Int×Int×Int)×Int×Bool))<=LIM) then
 some (Sum.inl (List.append s8.1 ([((List.getD x0 (Int.toNat s8.2) ((0,0),((0,([],(0,0))),(0,false)))).1,(y9,(List.getD x0 (Int.toNat s8.2) ((0,0),((0,([],(0,0))),(0,false)))).2.2))]:List ((Int×Int)×(Int×List Int×Int×Int)×Int×Bool)),IntKind.wrap .i64 (s8.2+1)))
 else none
 else none
 else
 some (Sum.inr s8.1)) (([]:List ((Int×Int)×(Int×List Int×Int×Int)×Int×Bool)),0)).bind fun (j10:List ((Int×Int)×(Int×List Int×Int×Int)×Int×Bool))=>
 some j10
noncomputable def QbD:Callee:={ ins:=[.v (.list s6) .z],outs:=[((.list s6),(.o (.p .z (.p (.p .z (.p (.o .z) .z)) .z))))],F:=fun t=>Qej t.1 }
noncomputable def Qkn:Ctx:={ tys:=tys,fns:=[(205,Qdq)],frz:=[],lps:=[(3,(⟨[(3,.st (.list s6) (.o (.p .z (.p (.p .z (.p (.o .z) .z)) .z))) false),(7,.keep),(8,.keep),(9,.st (.int .i64) .z false)],[]⟩,⟨[((.exit 0),⟨[(3,.st (.list s6) (.o (.p .z (.p (.p .z (.p (.o .z) .z)) .z))) false)],[]⟩)]⟩))],jns:=[],rjs:=[] }
noncomputable def Qfu (x0:List ((Int×Int)×(Int×List Int×Int×Int)×Int×Bool)) (x1:Int×Int×List (Int×Int)×List (Int×List Int×Int×Int)):Option (List ((Int×Int)×(Int×List Int×Int×Int)×Int×Bool)×Int):=
 (Qh (S:=List ((Int×Int)×(Int×List Int×Int×Int)×Int×Bool)×Int) (X:=(List ((Int×Int)×(Int×List Int×Int×Int)×Int×Bool))⊕(List ((Int×Int)×(Int×List Int×Int×Int)×Int×Bool)×Int)) (fun (s12:List ((Int×Int)×(Int×List Int×Int×Int)×Int×Bool)×Int)=>
 bif (decide ((s12.2:Int)<(List.length x1.2.2.1:Int))) then
 bif (inB s12.2 x1.2.2.1) then
 (Qbt x0 (List.getD x1.2.2.1 (Int.toNat s12.2) (0,0))).bind fun (y13:Int×Bool)=>
 bif (!y13.2) then
 some (Sum.inr (Sum.inr (([]:List ((Int×Int)×(Int×List Int×Int×Int)×Int×Bool)),4)))
 else
 bif (inB y13.1 x0) then
 bif decide (List.length s12.1+List.length ([List.getD x0 (Int.toNat y13.1) ((0,0),((0,([],(0,0))),(0,false)))]:List ((Int×Int)×(Int×List Int×Int×Int)×Int×Bool))<=LIM) then
 some (Sum.inl (List.append s12.1 ([List.getD x0 (Int.toNat y13.1) ((0,0),((0,([],(0,0))),(0,false)))]:List ((Int×Int)×(Int×List Int×Int×Int)×Int×Bool)),IntKind.wrap .i64 (s12.2+1)))
 else none
 else none
 else none
 else
 some (Sum.inr (Sum.inl s12.1))) (([]:List ((Int×Int)×(Int×List Int×Int×Int)×Int×Bool)),0)).bind fun (j14:(List ((Int×Int)×(Int×List Int×Int×Int)×Int×Bool))⊕(List ((Int×Int)×(Int×List Int×Int×Int)×Int×Bool)×Int))=>
 Sum.elim (fun (j15:List ((Int×Int)×(Int×List Int×Int×Int)×Int×Bool))=>
 (Qej j15).bind fun (y17:List ((Int×Int)×(Int×List Int×Int×Int)×Int×Bool))=>
 (Qgo y17).bind fun (y18:List ((Int×Int)×(Int×List Int×Int×Int)×Int×Bool))=>
 some (y18,0)) (fun (j16:List ((Int×Int)×(Int×List Int×Int×Int)×Int×Bool)×Int)=>
 some (j16.1,j16.2)) j14
noncomputable def QcK:Callee:={ ins:=[.v (.list s6) .z,.v s19 .z],outs:=[((.list s6),.z),((.int .i64),.z)],F:=fun t=>Qfu t.1 t.2.1 }
noncomputable def QlQ:Ctx:={ tys:=tys,fns:=[(156,QbG),(157,QdP),(158,QbD)],frz:=[],lps:=[(3,(⟨[(0,.keep),(6,.st (.list s6) (.o .z) false),(13,.keep),(14,.keep),(15,.st (.int .i64) .z false)],[]⟩,⟨[((.exit 0),⟨[(6,.st (.list s6) (.o .z) false)],[]⟩),(.ret,⟨[(4,.st (.list s6) (.o (.p .z (.p (.p .z (.p (.o .z) .z)) .z))) false),(5,.st (.int .i64) .z false)],[]⟩)]⟩))],jns:=[],rjs:=[] }
noncomputable def Qgd (x0:(Int×Int)×(Int×List Int×Int×Int)×Int×Bool) (x1:Int):Option (Bool):=
 ((Y0 x0.2.2.1).bind fun (y8:Bool)=>
 bif y8 then
 (Y0 x1).bind fun (y9:Bool)=>
 bif y9 then
 bif (!x0.2.2.2) then
 some true
 else
 some (decide ((IntKind.wrap .i64 (x0.2.2.1+2):Int)<=x1))
 else
 some false
 else
 some false:Option (Bool)).bind fun (j10:Bool)=>
 some j10
noncomputable def QdF:Callee:={ ins:=[.v s6 .z,.v (.int .i64) .z],outs:=[(.bool,.z)],F:=fun t=>Qgd t.1 t.2.1 }
noncomputable def Qm9:Ctx:={ tys:=tys,fns:=[(159,Y9)],frz:=[],lps:=[],jns:=[],rjs:=[(1,⟨[(4,.st .bool .z false)],[]⟩)] }
noncomputable def Z5 (x0:List (List UInt8)×List (Int×Int)) (x1:Int) (x2:Int):Option (Bool):=
 (QZ x0.2 (x1,x2)).bind fun (y2:Bool)=>
 some y2
noncomputable def Z6:Callee:={ ins:=[.v s1 .z,.v (.int .i64) .z,.v (.int .i64) .z],outs:=[(.bool,.z)],F:=fun t=>Z5 t.1 t.2.1 t.2.2.1 }
noncomputable def QgT:Ctx:={ tys:=tys,fns:=[(124,QJ)],frz:=[],lps:=[],jns:=[],rjs:=[] }
noncomputable def JY (x0:List (List UInt8)×List (Int×Int)) (x1:List Int×Int×Int) (x2:Int) (x3:Int):Option (Int):=
 bif (decide ((x3:Int)<x1.2.2)) then
 some 9
 else
 (Qh (S:=Int×Int) (X:=Int) (fun (s13:Int×Int)=>
 bif (decide ((s13.2:Int)<(List.length x1.1:Int))) then
 bif (inB s13.2 x1.1) then
 (Z5 x0 (List.getD x1.1 (Int.toNat s13.2) 0) x2).bind fun (y14:Bool)=>
 (bif y14 then
 some (IntKind.wrap .i64 (s13.1+1))
 else
 some s13.1:Option (Int)).bind fun (j15:Int)=>
 some (Sum.inl (j15,IntKind.wrap .i64 (s13.2+1)))
 else none
 else
 some (Sum.inr s13.1)) (0,0)).bind fun (j16:Int)=>
 bif (decide ((j16:Int)<x1.2.1)) then
 some 6
 else
 some 0
noncomputable def YI:Callee:={ ins:=[.v s1 .z,.v s2 .z,.v (.int .i64) .z,.v (.int .i64) .z],outs:=[((.int .i64),.z)],F:=fun t=>JY t.1 t.2.1 t.2.2.1 t.2.2.2.1 }
noncomputable def QgL:Ctx:={ tys:=tys,fns:=[(106,Z6)],frz:=[],lps:=[(5,(⟨[(2,.keep),(4,.keep),(5,.keep),(9,.st (.int .i64) .z false),(17,.keep),(18,.keep),(19,.st (.int .i64) .z false)],[(4,.keep),(5,.keep)]⟩,⟨[((.exit 0),⟨[(5,.keep),(9,.st (.int .i64) .z false)],[(5,.keep)]⟩)]⟩))],jns:=[(8,⟨[(.normal,⟨[(2,.keep),(4,.keep),(5,.keep),(9,.st (.int .i64) .z false),(17,.keep),(18,.keep),(19,.keep)],[(4,.keep),(5,.keep)]⟩)]⟩)],rjs:=[] }
noncomputable def Qhu (x0:List ((Int×Int)×(Int×List Int×Int×Int)×Int×Bool)):Option (Int):=
 (Qh (S:=Int×Int) (X:=Int) (fun (s3:Int×Int)=>
 bif (decide ((s3.2:Int)<(List.length x0:Int))) then
 bif (inB s3.2 x0) then
 some (Sum.inl (IntKind.wrap .i64 (s3.1+(List.getD x0 (Int.toNat s3.2) ((0,0),((0,([],(0,0))),(0,false)))).2.1.1),IntKind.wrap .i64 (s3.2+1)))
 else none
 else
 some (Sum.inr s3.1)) (0,0)).bind fun (j4:Int)=>
 some j4
noncomputable def QeV:Callee:={ ins:=[.v (.list s6) .z],outs:=[((.int .i64),.z)],F:=fun t=>Qhu t.1 }
noncomputable def Qob:Ctx:={ tys:=tys,fns:=[],frz:=[],lps:=[(3,(⟨[(3,.st (.int .i64) .z false),(6,.keep),(7,.keep),(8,.st (.int .i64) .z false)],[]⟩,⟨[((.exit 0),⟨[(3,.st (.int .i64) .z false)],[]⟩)]⟩))],jns:=[],rjs:=[] }
noncomputable def Qgj (x0:Int×Int×List (Int×Int)×List (Int×List Int×Int×Int)):Option (Int):=
 (Qh (S:=Int×Int) (X:=Int) (fun (s3:Int×Int)=>
 bif (decide ((s3.2:Int)<(List.length x0.2.2.2:Int))) then
 bif (inB s3.2 x0.2.2.2) then
 some (Sum.inl (IntKind.wrap .i64 (s3.1+(List.getD x0.2.2.2 (Int.toNat s3.2) (0,([],(0,0)))).1),IntKind.wrap .i64 (s3.2+1)))
 else none
 else
 some (Sum.inr s3.1)) (0,0)).bind fun (j4:Int)=>
 some j4
noncomputable def Qdx:Callee:={ ins:=[.v s19 .z],outs:=[((.int .i64),.z)],F:=fun t=>Qgj t.1 }
noncomputable def Qnk:Ctx:={ tys:=tys,fns:=[],frz:=[],lps:=[(3,(⟨[(3,.st (.int .i64) .z false),(7,.keep),(8,.keep),(9,.st (.int .i64) .z false)],[]⟩,⟨[((.exit 0),⟨[(3,.st (.int .i64) .z false)],[]⟩)]⟩))],jns:=[],rjs:=[] }
noncomputable def JZ (x0:List (List UInt8)×List (Int×Int)) (x1:List ((Int×Int)×(Int×List Int×Int×Int)×Int×Bool)) (x2:Int×Int×List (Int×Int)×List (Int×List Int×Int×Int)) (x3:Int):Option (Int×Int):=
 (Qdv x2).bind fun (y19:List UInt8×Int)=>
 bif (!decide ((y19.2:Int)=0)) then
 some (0,y19.2)
 else
 (QbH x0 y19.1).bind fun (y20:Int)=>
 bif (decide ((y20:Int)=0)) then
 some (0,4)
 else
 (Qfu x1 x2).bind fun (y21:List ((Int×Int)×(Int×List Int×Int×Int)×Int×Bool)×Int)=>
 bif (!decide ((y21.2:Int)=0)) then
 some (0,y21.2)
 else
 (Qh (S:=Int) (X:=(Unit)⊕(Int×Int)) (fun (s26:Int)=>
 bif (decide ((s26:Int)<(List.length y21.1:Int))) then
 bif (inB s26 y21.1) then
 (Qgd (List.getD y21.1 (Int.toNat s26) ((0,0),((0,([],(0,0))),(0,false)))) x3).bind fun (y27:Bool)=>
 bif (!y27) then
 some (Sum.inr (Sum.inr (0,9)))
 else
 (JY x0 (List.getD y21.1 (Int.toNat s26) ((0,0),((0,([],(0,0))),(0,false)))).2.1.2 y20 x3).bind fun (y28:Int)=>
 bif (!decide ((y28:Int)=0)) then
 some (Sum.inr (Sum.inr (0,y28)))
 else
 some (Sum.inl (IntKind.wrap .i64 (s26+1)))
 else none
 else
 some (Sum.inr (Sum.inl ()))) 0).bind fun (j29:(Unit)⊕(Int×Int))=>
 Sum.elim (fun (j30:Unit)=>
 (Qhu y21.1).bind fun (y32:Int)=>
 (Qgj x2).bind fun (y33:Int)=>
 (bif (decide ((x2.1:Int)=2)) then
 (Z5 x0 x2.2.1 y20).bind fun (y35:Bool)=>
 some (!y35)
 else
 some false:Option (Bool)).bind fun (j36:Bool)=>
 bif j36 then
 some (0,6)
 else
 bif (decide ((IntKind.wrap .i64 (y32 - y33):Int)<0)) then
 some (0,8)
 else
 some (IntKind.wrap .i64 (y32 - y33),0)) (fun (j31:Int×Int)=>
 some (j31.1,j31.2)) j29
noncomputable def YN:Callee:={ ins:=[.v s1 .z,.v (.list s6) .z,.v s19 .z,.v (.int .i64) .z],outs:=[((.int .i64),.z),((.int .i64),.z)],F:=fun t=>JZ t.1 t.2.1 t.2.2.1 t.2.2.2.1,dm:=false }
noncomputable def QgS:Ctx:={ tys:=tys,fns:=[(99,Qa8),(100,JN),(101,QcK),(102,QdF),(103,YI),(104,QeV),(105,Qdx),(106,Z6)],frz:=[],lps:=[(11,(⟨[(3,.keep),(4,.keep),(6,.keep),(12,.keep),(13,.keep),(40,.keep),(41,.keep),(42,.st (.int .i64) .z false)],[(4,.keep),(6,.keep)]⟩,⟨[((.exit 0),⟨[(4,.keep),(6,.keep),(12,.keep),(13,.keep)],[(4,.keep),(6,.keep)]⟩),(.ret,⟨[(8,.st (.int .i64) .z false),(9,.st (.int .i64) .z false)],[]⟩)]⟩))],jns:=[],rjs:=[(20,⟨[(17,.keep),(66,.st .bool .z false)],[]⟩)] }
noncomputable def Qa4 (x0:Int×Int×List ((Int×Int)×(Int×List Int×Int×Int)×Int×Bool)×List (Int×Int×Int)):Option (Int):=
 some (min 40 (IntKind.wrap .i64 (x0.2.1+1)))
noncomputable def Yl:Callee:={ ins:=[.v s10 .z],outs:=[((.int .i64),.z)],F:=fun t=>Qa4 t.1 }
noncomputable def QfH:Ctx:={ tys:=tys,fns:=[],frz:=[],lps:=[],jns:=[],rjs:=[] }
noncomputable def JK (x0:List Int) (x1:Int):Option (Int):=
 (Qh (S:=Int) (X:=(Unit)⊕(Int)) (fun (s5:Int)=>
 bif (decide ((s5:Int)<(List.length x0:Int))) then
 bif (inB s5 x0) then
 bif (decide ((x1:Int)=List.getD x0 (Int.toNat s5) 0)) then
 some (Sum.inr (Sum.inr s5))
 else
 some (Sum.inl (IntKind.wrap .i64 (s5+1)))
 else none
 else
 some (Sum.inr (Sum.inl ()))) 0).bind fun (j6:(Unit)⊕(Int))=>
 Sum.elim (fun (j7:Unit)=>
 some (-1)) (fun (j8:Int)=>
 some j8) j6
noncomputable def ZN:Callee:={ ins:=[.v (.list (.int .i64)) .z,.v (.int .i64) .z],outs:=[((.int .i64),.z)],F:=fun t=>JK t.1 t.2.1 }
noncomputable def QcO:Ctx:={ tys:=tys,fns:=[],frz:=[],lps:=[(2,(⟨[(0,.keep),(1,.keep),(7,.keep),(8,.st (.int .i64) .z false)],[]⟩,⟨[((.exit 0),⟨[],[]⟩),(.ret,⟨[(4,.st (.int .i64) .z false)],[]⟩)]⟩))],jns:=[],rjs:=[] }
noncomputable def ZZ (x0:List Int) (x1:Int):Option (Bool):=
 (JK x0 x1).bind fun (y2:Int)=>
 some (decide ((0:Int)<=y2))
noncomputable def Zu:Callee:={ ins:=[.v (.list (.int .i64)) .z,.v (.int .i64) .z],outs:=[(.bool,.z)],F:=fun t=>ZZ t.1 t.2.1 }
noncomputable def Qbr:Ctx:={ tys:=tys,fns:=[(129,ZN)],frz:=[],lps:=[],jns:=[],rjs:=[] }
noncomputable def Yg (x0:List (Int×Int×List (Int×Int)×List (Int×List Int×Int×Int))) (x1:(Int×Int×List (Int×Int)×List (Int×List Int×Int×Int))->Option Bool):Option (Int):=
 (Qh (S:=Int) (X:=(Unit)⊕(Int)) (fun (s10:Int)=>
 bif (decide ((s10:Int)<(List.length x0:Int))) then
 bif (inB s10 x0) then
 (x1 (List.getD x0 (Int.toNat s10) (0,(0,([],[]))))).bind fun (y11:Bool)=>
 bif y11 then
 some (Sum.inr (Sum.inr s10))
 else
 some (Sum.inl (IntKind.wrap .i64 (s10+1)))
 else none
 else
 some (Sum.inr (Sum.inl ()))) 0).bind fun (j12:(Unit)⊕(Int))=>
 Sum.elim (fun (j13:Unit)=>
 some (-1)) (fun (j14:Int)=>
 some j14) j12
noncomputable def Zc:Callee:={ ins:=[.v (.list s19) .z,.v (.fn1 s19 .bool .z) .z],outs:=[((.int .i64),.z)],F:=fun t=>Yg t.1 t.2.1 }
noncomputable def Qac:Ctx:={ tys:=tys,fns:=[],frz:=[],lps:=[(2,(⟨[(0,.keep),(1,.keep),(7,.keep),(8,.st (.int .i64) .z false)],[]⟩,⟨[((.exit 0),⟨[],[]⟩),(.ret,⟨[(4,.st (.int .i64) .z false)],[]⟩)]⟩))],jns:=[],rjs:=[] }
noncomputable def QI (x0:List (Int×Int×List (Int×Int)×List (Int×List Int×Int×Int))) (x1:(Int×Int×List (Int×Int)×List (Int×List Int×Int×Int))->Option Bool):Option (Bool):=
 (Yg x0 x1).bind fun (y2:Int)=>
 some (decide ((0:Int)<=y2))
noncomputable def QK:Callee:={ ins:=[.v (.list s19) .z,.v (.fn1 s19 .bool .z) .z],outs:=[(.bool,.z)],F:=fun t=>QI t.1 t.2.1 }
noncomputable def Jk:Ctx:={ tys:=tys,fns:=[(130,Zc)],frz:=[],lps:=[],jns:=[],rjs:=[] }
noncomputable def Z3 (x0:List (Int×Int)) (x1:(Int×Int)->Option Bool):Option (Int):=
 (Qh (S:=Int) (X:=(Unit)⊕(Int)) (fun (s10:Int)=>
 bif (decide ((s10:Int)<(List.length x0:Int))) then
 bif (inB s10 x0) then
 (x1 (List.getD x0 (Int.toNat s10) (0,0))).bind fun (y11:Bool)=>
 bif y11 then
 some (Sum.inr (Sum.inr s10))
 else
 some (Sum.inl (IntKind.wrap .i64 (s10+1)))
 else none
 else
 some (Sum.inr (Sum.inl ()))) 0).bind fun (j12:(Unit)⊕(Int))=>
 Sum.elim (fun (j13:Unit)=>
 some (-1)) (fun (j14:Int)=>
 some j14) j12
noncomputable def Q3:Callee:={ ins:=[.v (.list s0) .z,.v (.fn1 s0 .bool .z) .z],outs:=[((.int .i64),.z)],F:=fun t=>Z3 t.1 t.2.1 }
noncomputable def Jz:Ctx:={ tys:=tys,fns:=[],frz:=[],lps:=[(2,(⟨[(0,.keep),(1,.keep),(7,.keep),(8,.st (.int .i64) .z false)],[]⟩,⟨[((.exit 0),⟨[],[]⟩),(.ret,⟨[(4,.st (.int .i64) .z false)],[]⟩)]⟩))],jns:=[],rjs:=[] }
noncomputable def Zg (x0:List (Int×Int)) (x1:(Int×Int)->Option Bool):Option (Bool):=
 (Z3 x0 x1).bind fun (y2:Int)=>
 some (decide ((0:Int)<=y2))
noncomputable def QU:Callee:={ ins:=[.v (.list s0) .z,.v (.fn1 s0 .bool .z) .z],outs:=[(.bool,.z)],F:=fun t=>Zg t.1 t.2.1 }
noncomputable def Y3:Ctx:={ tys:=tys,fns:=[(178,Q3)],frz:=[],lps:=[],jns:=[],rjs:=[] }
noncomputable def Qg1 (x0:Int×Int) (x1:Int×Int×List (Int×Int)×List (Int×List Int×Int×Int)):Option (Bool):=
 (Qu x1.2.2.1 x0).bind fun (y2:Bool)=>
 some y2
noncomputable def Qbe:Callee:={ ins:=[.v s0 .z,.rp s19 false],outs:=[(.bool,.z)],F:=fun t=>Qg1 t.1 t.2.1 }
noncomputable def QkA:Ctx:={ tys:=tys,fns:=[(133,Qv)],frz:=[],lps:=[],jns:=[],rjs:=[] }
noncomputable def QhF (x0:Int×Int×List (Int×Int)×List (Int×List Int×Int×Int)) (x1:Int×Int×List (Int×Int)×List (Int×List Int×Int×Int)):Option (Bool):=
 (Zg x0.2.2.1 (fun (a4:Int×Int)=>(Qg1 a4 x1).bind fun r5=>some r5)).bind fun (y6:Bool)=>
 some y6
noncomputable def QeJ:Callee:={ ins:=[.v s19 .z,.v s19 .z],outs:=[(.bool,.z)],F:=fun t=>QhF t.1 t.2.1 }
noncomputable def Qot:Ctx:={ tys:=tys,fns:=[(131,QU),(132,Qbe)],frz:=[],lps:=[],jns:=[],rjs:=[] }
noncomputable def Q2 (x0:List (Int×Int×Int)) (x1:Int) (x2:(Int×Int×Int)->Int->Option Int):Option (Int×Bool):=
 (Qh (S:=Int×Int) (X:=Int) (fun (s16:Int×Int)=>
 bif (decide ((s16.1:Int)<s16.2)) then
 bif (inB (IntKind.wrap .i64 (Int.fdiv (IntKind.wrap .u64 (IntKind.wrap .i64 (s16.1+s16.2))) (2 ^ 1))) x0) then
 (x2 (List.getD x0 (Int.toNat (IntKind.wrap .i64 (Int.fdiv (IntKind.wrap .u64 (IntKind.wrap .i64 (s16.1+s16.2))) (2 ^ 1)))) (0,(0,0))) x1).bind fun (y17:Int)=>
 (bif (decide ((y17:Int)<0)) then
 some (IntKind.wrap .i64 ((IntKind.wrap .i64 (Int.fdiv (IntKind.wrap .u64 (IntKind.wrap .i64 (s16.1+s16.2))) (2 ^ 1)))+1),s16.2)
 else
 some (s16.1,IntKind.wrap .i64 (Int.fdiv (IntKind.wrap .u64 (IntKind.wrap .i64 (s16.1+s16.2))) (2 ^ 1))):Option (Int×Int)).bind fun (j18:Int×Int)=>
 some (Sum.inl (j18.1,j18.2))
 else none
 else
 some (Sum.inr s16.1)) (0,(List.length x0:Int))).bind fun (j19:Int)=>
 (bif (decide ((j19:Int)<(List.length x0:Int))) then
 bif (inB j19 x0) then
 (x2 (List.getD x0 (Int.toNat j19) (0,(0,0))) x1).bind fun (y21:Int)=>
 some (j19,decide ((y21:Int)=0))
 else none
 else
 some (j19,false):Option (Int×Bool)).bind fun (j22:Int×Bool)=>
 some (j22.1,j22.2)
noncomputable def Qr:Callee:={ ins:=[.v (.list s7) .z,.v (.int .i64) .z,.v (.fn2 s7 (.int .i64) (.int .i64)) .z],outs:=[((.int .i64),.z),(.bool,.z)],F:=fun t=>Q2 t.1 t.2.1 t.2.2.1 }
noncomputable def ZC:Ctx:={ tys:=tys,fns:=[],frz:=[],lps:=[(3,(⟨[(0,.keep),(1,.keep),(2,.keep),(8,.keep),(9,.st (.int .i64) .z false),(10,.st (.int .i64) .z false)],[]⟩,⟨[((.exit 0),⟨[(0,.keep),(1,.keep),(2,.keep),(8,.keep),(9,.st (.int .i64) .z false)],[]⟩)]⟩))],jns:=[(6,⟨[(.normal,⟨[(0,.keep),(1,.keep),(2,.keep),(8,.keep),(9,.st (.int .i64) .z false),(10,.st (.int .i64) .z false)],[]⟩)]⟩)],rjs:=[(8,⟨[(6,.st (.int .i64) .z false),(7,.st .bool .z false)],[]⟩)] }
noncomputable def Qan (x0:Int×Int×Int) (x1:Int):Option (Int):=
 (Ys x0.1 x1).bind fun (y2:Int)=>
 some y2
noncomputable def Y7:Callee:={ ins:=[.v s7 .z,.v (.int .i64) .z],outs:=[((.int .i64),.z)],F:=fun t=>Qan t.1 t.2.1 }
noncomputable def Qhl:Ctx:={ tys:=tys,fns:=[(189,Yt)],frz:=[],lps:=[],jns:=[],rjs:=[] }
noncomputable def Yo (x0:List (Int×Int×Int)) (x1:Int):Option (Int×Bool):=
 (Q2 x0 x1 (fun (a5:Int×Int×Int) (a6:Int)=>(Qan a5 a6).bind fun r7=>some r7)).bind fun (y8:Int×Bool)=>
 some (y8.1,y8.2)
noncomputable def Jb:Callee:={ ins:=[.v (.list s7) .z,.v (.int .i64) .z],outs:=[((.int .i64),.z),(.bool,.z)],F:=fun t=>Yo t.1 t.2.1 }
noncomputable def QiP:Ctx:={ tys:=tys,fns:=[(187,Qr),(188,Y7)],frz:=[],lps:=[],jns:=[],rjs:=[] }
noncomputable def Zn (x0:List (Int×Int×Int)):Option (List (Int×Int×Int)):=
 bif List.isEmpty x0 then
 agree (some ([]:List (Int×Int×Int))) (bif decide (List.length ([]:List (Int×Int×Int))+List.length x0<=LIM) then
 some (List.append ([]:List (Int×Int×Int)) x0)
 else none)
 else
 bif decide (List.length ([]:List (Int×Int×Int))+List.length x0<=LIM) then
 some (List.append ([]:List (Int×Int×Int)) x0)
 else none
noncomputable def QW:Callee:={ ins:=[.v (.list s7) .z],outs:=[((.list s7),(.o .z))],F:=fun t=>Zn t.1 }
noncomputable def Jd:Ctx:={ tys:=tys,fns:=[],frz:=[],lps:=[],jns:=[],rjs:=[] }
noncomputable def QG (x0:List (Int×Int×Int)) (x1:Int) (x2:Int):Option (List (Int×Int×Int)):=
 delS x0 x1 x2
noncomputable def YY:Callee:={ ins:=[.v (.list s7) (.o .z),.v (.int .i64) .z,.v (.int .i64) .z],outs:=[((.list s7),(.o .z))],F:=fun t=>QG t.1 t.2.1 t.2.2.1 }
noncomputable def Q8 (x0:List (Int×Int×Int)) (x1:(Int×Int×Int)->Option Bool):Option (List (Int×Int×Int)):=
 (QQ x0 x1).bind fun (y10:Int)=>
 bif (decide ((y10:Int)=(-1))) then
 some x0
 else
 (Qh (S:=List (Int×Int×Int)×Int×Int) (X:=List (Int×Int×Int)×Int) (fun (s15:List (Int×Int×Int)×Int×Int)=>
 bif (decide ((s15.2.2:Int)<(List.length s15.1:Int))) then
 bif (inB s15.2.2 s15.1) then
 (x1 (List.getD s15.1 (Int.toNat s15.2.2) (0,(0,0)))).bind fun (y16:Bool)=>
 (bif (!y16) then
 bif (inB s15.2.1 s15.1) then
 some (List.set s15.1 (Int.toNat s15.2.1) (List.getD s15.1 (Int.toNat s15.2.2) (0,(0,0))),IntKind.wrap .i64 (s15.2.1+1))
 else none
 else
 some (s15.1,s15.2.1):Option (List (Int×Int×Int)×Int)).bind fun (j17:List (Int×Int×Int)×Int)=>
 some (Sum.inl (j17.1,(j17.2,IntKind.wrap .i64 (s15.2.2+1))))
 else none
 else
 some (Sum.inr (s15.1,s15.2.1))) (x0,(y10,IntKind.wrap .i64 (y10+1)))).bind fun (j18:List (Int×Int×Int)×Int)=>
 bif (Zp j18.2 (List.length j18.1:Int) j18.1) then
 bif (Zp 0 j18.2 (clr (s:=(.prod (.int .i64) (.prod (.int .i64) (.int .i64)))) j18.2 (List.length j18.1:Int) j18.1)) then
 some (List.take (Int.toNat (j18.2 - 0)) (List.drop (Int.toNat 0) (clr (s:=(.prod (.int .i64) (.prod (.int .i64) (.int .i64)))) j18.2 (List.length j18.1:Int) j18.1)))
 else none
 else none
noncomputable def QN:Callee:={ ins:=[.v (.list s7) (.o .z),.v (.fn1 s7 .bool .z) .z],outs:=[((.list s7),(.o .z))],F:=fun t=>Q8 t.1 t.2.1 }
noncomputable def Yx:Ctx:={ tys:=tys,fns:=[(214,QA)],frz:=[],lps:=[(5,(⟨[(0,.st (.list s7) (.o .z) false),(1,.keep),(5,.st (.int .i64) .z false),(6,.st (.int .i64) .z false)],[]⟩,⟨[((.exit 0),⟨[(0,.st (.list s7) (.o .z) false),(5,.st (.int .i64) .z false)],[]⟩)]⟩))],jns:=[(9,⟨[(.normal,⟨[(0,.st (.list s7) (.o .z) false),(1,.keep),(5,.st (.int .i64) .z false),(6,.keep)],[]⟩)]⟩)],rjs:=[] }
noncomputable def ZR (x0:List (Int×Int×Int)) (x1:Int) (x2:List (Int×Int×Int)):Option (List (Int×Int×Int)):=
 insS x0 x1 x2
noncomputable def Ja:Callee:={ ins:=[.v (.list s7) (.o .z),.v (.int .i64) .z,.v (.list s7) (.o .z)],outs:=[((.list s7),(.o .z))],F:=fun t=>ZR t.1 t.2.1 t.2.2.1 }
noncomputable def Qb9 (x0:Int×Int×Int) (x1:Int×Int×List (Int×Int)×List (Int×List Int×Int×Int)):Option (Bool):=
 (Qu x1.2.2.1 x0.2).bind fun (y2:Bool)=>
 some y2
noncomputable def YL:Callee:={ ins:=[.v s7 .z,.rp s19 false],outs:=[(.bool,.z)],F:=fun t=>Qb9 t.1 t.2.1 }
noncomputable def QgI:Ctx:={ tys:=tys,fns:=[(133,Qv)],frz:=[],lps:=[],jns:=[],rjs:=[] }
noncomputable def QcC (x0:Int×Int×Int) (x1:Int×Int):Option (Bool):=
 some (Sh.beq (.prod (.int .i64) (.int .i64)) x0.2 x1)
noncomputable def YJ:Callee:={ ins:=[.v s7 .z,.rp s0 false],outs:=[(.bool,.z)],F:=fun t=>QcC t.1 t.2.1 }
noncomputable def QgM:Ctx:={ tys:=tys,fns:=[],frz:=[],lps:=[],jns:=[],rjs:=[] }
noncomputable def Qbh (x0:List (Int×Int×Int)) (x1:Int×Int×List (Int×Int)×List (Int×List Int×Int×Int)) (x2:Int):Option (List (Int×Int×Int)×Int):=
 (QfP x2).bind fun (y22:Bool)=>
 bif (!y22) then
 some (([]:List (Int×Int×Int)),3)
 else
 (Zn x0).bind fun (y23:List (Int×Int×Int))=>
 (bif (decide ((x1.1:Int)=2)) then
 (Yo y23 x1.2.1).bind fun (y26:Int×Bool)=>
 bif (!y26.2) then
 some (Sum.inr (([]:List (Int×Int×Int)),4))
 else
 (QG y23 y26.1 (IntKind.wrap .i64 (y26.1+1))).bind fun (y27:List (Int×Int×Int))=>
 some (Sum.inl y27)
 else
 some (Sum.inl y23):Option ((List (Int×Int×Int))⊕(List (Int×Int×Int)×Int))).bind fun (j28:(List (Int×Int×Int))⊕(List (Int×Int×Int)×Int))=>
 Sum.elim (fun (j29:List (Int×Int×Int))=>
 (Q8 j29 (fun (a31:Int×Int×Int)=>(Qb9 a31 x1).bind fun r32=>some r32)).bind fun (y33:List (Int×Int×Int))=>
 bif (!decide ((x1.1:Int)=1)) then
 some (y33,0)
 else
 (Yo y33 x1.2.1).bind fun (y34:Int×Bool)=>
 (bif y34.2 then
 some true
 else
 (QH y33 (fun (a38:Int×Int×Int)=>(QcC a38 (x2,0)).bind fun r39=>some r39)).bind fun (y40:Bool)=>
 some y40:Option (Bool)).bind fun (j41:Bool)=>
 bif j41 then
 some (([]:List (Int×Int×Int)),7)
 else
 bif (decide (((List.length y33:Int):Int)=8)) then
 some (([]:List (Int×Int×Int)),2)
 else
 (ZR y33 y34.1 ([(x1.2.1,(x2,0))]:List (Int×Int×Int))).bind fun (y42:List (Int×Int×Int))=>
 some (y42,0)) (fun (j30:List (Int×Int×Int)×Int)=>
 some (j30.1,j30.2)) j28
noncomputable def JM:Callee:={ ins:=[.v (.list s7) .z,.v s19 .z,.v (.int .i64) .z],outs:=[((.list s7),(.o .z)),((.int .i64),.z)],F:=fun t=>Qbh t.1 t.2.1 t.2.2.1 }
noncomputable def Qiy:Ctx:={ tys:=tys,fns:=[(136,Jb),(170,Qw),(180,Qd4),(181,QW),(182,YY),(183,QN),(184,YL),(185,YJ),(186,Ja)],frz:=[],lps:=[],jns:=[(5,⟨[(.normal,⟨[(2,.keep),(4,.keep),(8,.st (.list s7) (.o .z) false)],[(4,.keep)]⟩),(.ret,⟨[(6,.st (.list s7) (.o .z) false),(7,.st (.int .i64) .z false)],[]⟩)]⟩)],rjs:=[(14,⟨[(4,.keep),(8,.keep),(11,.keep),(12,.keep),(52,.st .bool .z false)],[(4,.keep),(11,.keep)]⟩)] }
noncomputable def JT (x0:Int×Int×List (Int×Int)×List (Int×List Int×Int×Int)):Option (Bool):=
 some (!decide ((x0.1:Int)=0))
noncomputable def ZL:Callee:={ ins:=[.v s19 .z],outs:=[(.bool,.z)],F:=fun t=>JT t.1 }
noncomputable def QcV:Ctx:={ tys:=tys,fns:=[],frz:=[],lps:=[],jns:=[],rjs:=[] }
noncomputable def JU (x0:Int×Int×List (Int×Int)×List (Int×List Int×Int×Int)) (x1:Int×Int):Option (Bool):=
 (Qu x0.2.2.1 x1).bind fun (y2:Bool)=>
 some y2
noncomputable def ZM:Callee:={ ins:=[.v s19 .z,.rp s0 false],outs:=[(.bool,.z)],F:=fun t=>JU t.1 t.2.1 }
noncomputable def QcQ:Ctx:={ tys:=tys,fns:=[(133,Qv)],frz:=[],lps:=[],jns:=[],rjs:=[] }
noncomputable def YZ (x0:Int×Int×List ((Int×Int)×(Int×List Int×Int×Int)×Int×Bool)×List (Int×Int×Int)) (x1:Int×Int×List (Int×Int)×List (Int×List Int×Int×Int)) (x2:Int) (x3:List (Int×Int×List (Int×Int)×List (Int×List Int×Int×Int))):Option (Int):=
 bif (decide ((x1.1:Int)=0)) then
 some 0
 else
 (Qbh x0.2.2.2 x1 x2).bind fun (y16:List (Int×Int×Int)×Int)=>
 bif (!decide ((y16.2:Int)=0)) then
 some 10
 else
 (QI x3 (fun (a17:Int×Int×List (Int×Int)×List (Int×List Int×Int×Int))=>(JT a17).bind fun r18=>some r18)).bind fun (y19:Bool)=>
 bif y19 then
 some 10
 else
 (bif (decide ((x1.1:Int)=2)) then
 (Yo x0.2.2.2 x1.2.1).bind fun (y24:Int×Bool)=>
 bif (inB y24.1 x0.2.2.2) then
 (QI x3 (fun (a25:Int×Int×List (Int×Int)×List (Int×List Int×Int×Int))=>(JU a25 (List.getD x0.2.2.2 (Int.toNat y24.1) (0,(0,0))).2).bind fun r26=>some r26)).bind fun (y27:Bool)=>
 bif y27 then
 some (Sum.inr 10)
 else
 some (Sum.inl ())
 else none
 else
 some (Sum.inl ()):Option ((Unit)⊕(Int))).bind fun (j28:(Unit)⊕(Int))=>
 Sum.elim (fun (j29:Unit)=>
 some 0) (fun (j30:Int)=>
 some j30) j28
noncomputable def Z7:Callee:={ ins:=[.v s10 .z,.v s19 .z,.v (.int .i64) .z,.v (.list s19) .z],outs:=[((.int .i64),.z)],F:=fun t=>YZ t.1 t.2.1 t.2.2.1 t.2.2.2.1 }
noncomputable def QeD:Ctx:={ tys:=tys,fns:=[(86,QK),(134,JM),(135,ZL),(136,Jb),(137,ZM)],frz:=[],lps:=[],jns:=[(9,⟨[(.normal,⟨[],[]⟩),(.ret,⟨[(8,.st (.int .i64) .z false)],[]⟩)]⟩)],rjs:=[] }
noncomputable def Jy (x0:Int×Int×List (Int×Int)×List (Int×List Int×Int×Int)) (x1:Int×Int×List (Int×Int)×List (Int×List Int×Int×Int)):Option (Bool):=
 (QhF x0 x1).bind fun (y2:Bool)=>
 some y2
noncomputable def ZD:Callee:={ ins:=[.v s19 .z,.rp s19 false],outs:=[(.bool,.z)],F:=fun t=>Jy t.1 t.2.1 }
noncomputable def Qcu:Ctx:={ tys:=tys,fns:=[(88,QeJ)],frz:=[],lps:=[],jns:=[],rjs:=[] }
noncomputable def ZY (x0:List (List UInt8)×List (Int×Int)) (x1:Int×Int×List ((Int×Int)×(Int×List Int×Int×Int)×Int×Bool)×List (Int×Int×Int)) (x2:List Int) (x3:Int):Option (Int):=
 (JI x0 x3).bind fun (y15:(Int×Int×List (Int×Int)×List (Int×List Int×Int×Int))×Int)=>
 bif (!decide ((y15.2:Int)=0)) then
 some y15.2
 else
 (Qa4 x1).bind fun (y16:Int)=>
 (JZ x0 x1.2.2.1 y15.1 y16).bind fun (y17:Int×Int)=>
 bif (!decide ((y17.2:Int)=0)) then
 some y17.2
 else
 (Qar x0 x2).bind fun (y18:List (Int×Int×List (Int×Int)×List (Int×List Int×Int×Int)))=>
 ((ZZ x2 x3).bind fun (y23:Bool)=>
 bif y23 then
 some true
 else
 (QI y18 (fun (a24:Int×Int×List (Int×Int)×List (Int×List Int×Int×Int))=>(Jy a24 y15.1).bind fun r25=>some r25)).bind fun (y26:Bool)=>
 some y26:Option (Bool)).bind fun (j27:Bool)=>
 bif j27 then
 some 7
 else
 (YZ x1 y15.1 x3 y18).bind fun (y28:Int)=>
 some y28
noncomputable def ZX:Callee:={ ins:=[.v s1 .z,.v s10 .z,.v (.list (.int .i64)) .z,.v (.int .i64) .z],outs:=[((.int .i64),.z)],F:=fun t=>ZY t.1 t.2.1 t.2.2.1 t.2.2.2.1,dm:=false }
noncomputable def Qel:Ctx:={ tys:=tys,fns:=[(56,YU),(57,YN),(58,Yl),(84,YO),(85,Zu),(86,QK),(87,ZD),(89,Z7)],frz:=[],lps:=[],jns:=[],rjs:=[(8,⟨[(3,.keep),(5,.keep),(9,.keep),(13,.keep),(46,.st .bool .z false)],[(5,.keep),(9,.keep)]⟩)] }
noncomputable def Qc2 (x0:List (List UInt8)×List (Int×Int)) (x1:Int×Int×List ((Int×Int)×(Int×List Int×Int×Int)×Int×Bool)×List (Int×Int×Int)) (x2:List Int):Option (Int):=
 (QcZ x0 x1 x2).bind fun (y9:Int)=>
 bif (!decide ((y9:Int)=0)) then
 some y9
 else
 (Qh (S:=Int) (X:=(Unit)⊕(Int)) (fun (s12:Int)=>
 bif (decide ((s12:Int)<(List.length x2:Int))) then
 bif (inB s12 x2) then
 bif (Zp 0 s12 x2) then
 (ZY x0 x1 (cut 0 s12 x2) (List.getD x2 (Int.toNat s12) 0)).bind fun (y13:Int)=>
 bif (!decide ((y13:Int)=0)) then
 some (Sum.inr (Sum.inr y13))
 else
 some (Sum.inl (IntKind.wrap .i64 (s12+1)))
 else none
 else none
 else
 some (Sum.inr (Sum.inl ()))) 0).bind fun (j14:(Unit)⊕(Int))=>
 Sum.elim (fun (j15:Unit)=>
 some 0) (fun (j16:Int)=>
 some j16) j14
noncomputable def QaN:Callee:={ ins:=[.v s1 .z,.v s10 .z,.v (.list (.int .i64)) .z],outs:=[((.int .i64),.z)],F:=fun t=>Qc2 t.1 t.2.1 t.2.2.1,dm:=false }
noncomputable def QjU:Ctx:={ tys:=tys,fns:=[(48,QaW),(49,ZX)],frz:=[],lps:=[(5,(⟨[(2,.keep),(3,.keep),(4,.keep),(18,.keep),(19,.keep),(20,.st (.int .i64) .z false)],[(3,.keep),(4,.keep)]⟩,⟨[((.exit 0),⟨[],[]⟩),(.ret,⟨[(6,.st (.int .i64) .z false)],[]⟩)]⟩))],jns:=[],rjs:=[] }
noncomputable def Qc3 (x0:List (List UInt8)) (x1:List (List UInt8)):Option (Bool):=
 bif (!decide (((List.length x0:Int):Int)=(List.length x1:Int))) then
 some false
 else
 (Qh (S:=Int) (X:=(Unit)⊕(Bool)) (fun (s5:Int)=>
 bif (decide ((s5:Int)<(List.length x0:Int))) then
 bif (inB s5 x0) then
 bif (inB s5 x1) then
 bif (!decide ((List.getD x0 (Int.toNat s5) []:List UInt8)=List.getD x1 (Int.toNat s5) [])) then
 some (Sum.inr (Sum.inr false))
 else
 some (Sum.inl (IntKind.wrap .i64 (s5+1)))
 else none
 else none
 else
 some (Sum.inr (Sum.inl ()))) 0).bind fun (j6:(Unit)⊕(Bool))=>
 Sum.elim (fun (j7:Unit)=>
 some true) (fun (j8:Bool)=>
 some j8) j6
noncomputable def QaB:Callee:={ ins:=[.v (.list .str) .z,.v (.list .str) .z],outs:=[(.bool,.z)],F:=fun t=>Qc3 t.1 t.2.1 }
noncomputable def Qjv:Ctx:={ tys:=tys,fns:=[],frz:=[],lps:=[(4,(⟨[(0,.keep),(1,.keep),(5,.st (.int .i64) .z false)],[]⟩,⟨[((.exit 0),⟨[],[]⟩),(.ret,⟨[(4,.st .bool .z false)],[]⟩)]⟩))],jns:=[],rjs:=[] }
noncomputable def Qgg (x0:Int×Int) (x1:Int×Int):Option (Bool):=
 bif (!decide ((x0.1:Int)=x1.1)) then
 some false
 else
 bif (!decide ((x0.2:Int)=x1.2)) then
 some false
 else
 some true
noncomputable def QdR:Callee:={ ins:=[.v s0 .z,.v s0 .z],outs:=[(.bool,.z)],F:=fun t=>Qgg t.1 t.2.1 }
noncomputable def Qng:Ctx:={ tys:=tys,fns:=[],frz:=[],lps:=[],jns:=[],rjs:=[] }
noncomputable def QfC (x0:List (Int×Int)) (x1:List (Int×Int)):Option (Bool):=
 bif (!decide (((List.length x0:Int):Int)=(List.length x1:Int))) then
 some false
 else
 (Qh (S:=Int) (X:=(Unit)⊕(Bool)) (fun (s10:Int)=>
 bif (decide ((s10:Int)<(List.length x0:Int))) then
 bif (inB s10 x0) then
 bif (inB s10 x1) then
 (Qgg (List.getD x0 (Int.toNat s10) (0,0)) (List.getD x1 (Int.toNat s10) (0,0))).bind fun (y11:Bool)=>
 bif (!y11) then
 some (Sum.inr (Sum.inr false))
 else
 some (Sum.inl (IntKind.wrap .i64 (s10+1)))
 else none
 else none
 else
 some (Sum.inr (Sum.inl ()))) 0).bind fun (j12:(Unit)⊕(Bool))=>
 Sum.elim (fun (j13:Unit)=>
 some true) (fun (j14:Bool)=>
 some j14) j12
noncomputable def Qcc:Callee:={ ins:=[.v (.list s0) .z,.v (.list s0) .z],outs:=[(.bool,.z)],F:=fun t=>QfC t.1 t.2.1 }
noncomputable def Qlv:Ctx:={ tys:=tys,fns:=[(90,QdR)],frz:=[],lps:=[(4,(⟨[(0,.keep),(1,.keep),(5,.st (.int .i64) .z false)],[]⟩,⟨[((.exit 0),⟨[],[]⟩),(.ret,⟨[(4,.st .bool .z false)],[]⟩)]⟩))],jns:=[],rjs:=[] }
noncomputable def Qer (x0:List (List UInt8)×List (Int×Int)) (x1:List (List UInt8)×List (Int×Int)):Option (Bool):=
 (Qc3 x0.1 x1.1).bind fun (y3:Bool)=>
 bif (!y3) then
 some false
 else
 (QfC x0.2 x1.2).bind fun (y4:Bool)=>
 bif (!y4) then
 some false
 else
 some true
noncomputable def Qbu:Callee:={ ins:=[.v s1 .z,.v s1 .z],outs:=[(.bool,.z)],F:=fun t=>Qer t.1 t.2.1 }
noncomputable def Qj7:Ctx:={ tys:=tys,fns:=[(50,QaB),(51,Qcc)],frz:=[],lps:=[],jns:=[],rjs:=[] }
noncomputable def QeA (x0:Int×Int) (x1:Int×Int):Option (Bool):=
 bif (!decide ((x0.1:Int)=x1.1)) then
 some false
 else
 bif (!decide ((x0.2:Int)=x1.2)) then
 some false
 else
 some true
noncomputable def QcI:Callee:={ ins:=[.v s0 .z,.v s0 .z],outs:=[(.bool,.z)],F:=fun t=>QeA t.1 t.2.1 }
noncomputable def Qo3:Ctx:={ tys:=tys,fns:=[],frz:=[],lps:=[],jns:=[],rjs:=[] }
noncomputable def Qbm (x0:List Int) (x1:List Int):Option (Bool):=
 bif (!decide (((List.length x0:Int):Int)=(List.length x1:Int))) then
 some false
 else
 (Qh (S:=Int) (X:=(Unit)⊕(Bool)) (fun (s5:Int)=>
 bif (decide ((s5:Int)<(List.length x0:Int))) then
 bif (inB s5 x0) then
 bif (inB s5 x1) then
 bif (!decide ((List.getD x0 (Int.toNat s5) 0:Int)=List.getD x1 (Int.toNat s5) 0)) then
 some (Sum.inr (Sum.inr false))
 else
 some (Sum.inl (IntKind.wrap .i64 (s5+1)))
 else none
 else none
 else
 some (Sum.inr (Sum.inl ()))) 0).bind fun (j6:(Unit)⊕(Bool))=>
 Sum.elim (fun (j7:Unit)=>
 some true) (fun (j8:Bool)=>
 some j8) j6
noncomputable def J3:Callee:={ ins:=[.v (.list (.int .i64)) .z,.v (.list (.int .i64)) .z],outs:=[(.bool,.z)],F:=fun t=>Qbm t.1 t.2.1 }
noncomputable def QkF:Ctx:={ tys:=tys,fns:=[],frz:=[],lps:=[(4,(⟨[(0,.keep),(1,.keep),(5,.st (.int .i64) .z false)],[]⟩,⟨[((.exit 0),⟨[],[]⟩),(.ret,⟨[(4,.st .bool .z false)],[]⟩)]⟩))],jns:=[],rjs:=[] }
noncomputable def Qgi (x0:List Int×Int×Int) (x1:List Int×Int×Int):Option (Bool):=
 (Qbm x0.1 x1.1).bind fun (y2:Bool)=>
 bif (!y2) then
 some false
 else
 bif (!decide ((x0.2.1:Int)=x1.2.1)) then
 some false
 else
 bif (!decide ((x0.2.2:Int)=x1.2.2)) then
 some false
 else
 some true
noncomputable def QdE:Callee:={ ins:=[.v s2 .z,.v s2 .z],outs:=[(.bool,.z)],F:=fun t=>Qgi t.1 t.2.1 }
noncomputable def Qnv:Ctx:={ tys:=tys,fns:=[(18,J3)],frz:=[],lps:=[],jns:=[],rjs:=[] }
noncomputable def Qhk (x0:Int×List Int×Int×Int) (x1:Int×List Int×Int×Int):Option (Bool):=
 bif (!decide ((x0.1:Int)=x1.1)) then
 some false
 else
 (Qgi x0.2 x1.2).bind fun (y2:Bool)=>
 bif (!y2) then
 some false
 else
 some true
noncomputable def QeI:Callee:={ ins:=[.v s3 .z,.v s3 .z],outs:=[(.bool,.z)],F:=fun t=>Qhk t.1 t.2.1 }
noncomputable def QoR:Ctx:={ tys:=tys,fns:=[(190,QdE)],frz:=[],lps:=[],jns:=[],rjs:=[] }
noncomputable def Qf6 (x0:(Int×Int)×(Int×List Int×Int×Int)×Int×Bool) (x1:(Int×Int)×(Int×List Int×Int×Int)×Int×Bool):Option (Bool):=
 (QeA x0.1 x1.1).bind fun (y3:Bool)=>
 bif (!y3) then
 some false
 else
 (Qhk x0.2.1 x1.2.1).bind fun (y4:Bool)=>
 bif (!y4) then
 some false
 else
 bif (!decide ((x0.2.2.1:Int)=x1.2.2.1)) then
 some false
 else
 bif (!(Sh.beq .bool x0.2.2.2 x1.2.2.2)) then
 some false
 else
 some true
noncomputable def Qdr:Callee:={ ins:=[.v s6 .z,.v s6 .z],outs:=[(.bool,.z)],F:=fun t=>Qf6 t.1 t.2.1 }
noncomputable def Qnp:Ctx:={ tys:=tys,fns:=[(138,QcI),(139,QeI)],frz:=[],lps:=[],jns:=[],rjs:=[] }
noncomputable def Qfw (x0:List ((Int×Int)×(Int×List Int×Int×Int)×Int×Bool)) (x1:List ((Int×Int)×(Int×List Int×Int×Int)×Int×Bool)):Option (Bool):=
 bif (!decide (((List.length x0:Int):Int)=(List.length x1:Int))) then
 some false
 else
 (Qh (S:=Int) (X:=(Unit)⊕(Bool)) (fun (s10:Int)=>
 bif (decide ((s10:Int)<(List.length x0:Int))) then
 bif (inB s10 x0) then
 bif (inB s10 x1) then
 (Qf6 (List.getD x0 (Int.toNat s10) ((0,0),((0,([],(0,0))),(0,false)))) (List.getD x1 (Int.toNat s10) ((0,0),((0,([],(0,0))),(0,false))))).bind fun (y11:Bool)=>
 bif (!y11) then
 some (Sum.inr (Sum.inr false))
 else
 some (Sum.inl (IntKind.wrap .i64 (s10+1)))
 else none
 else none
 else
 some (Sum.inr (Sum.inl ()))) 0).bind fun (j12:(Unit)⊕(Bool))=>
 Sum.elim (fun (j13:Unit)=>
 some true) (fun (j14:Bool)=>
 some j14) j12
noncomputable def QcL:Callee:={ ins:=[.v (.list s6) .z,.v (.list s6) .z],outs:=[(.bool,.z)],F:=fun t=>Qfw t.1 t.2.1 }
noncomputable def QlT:Ctx:={ tys:=tys,fns:=[(91,Qdr)],frz:=[],lps:=[(4,(⟨[(0,.keep),(1,.keep),(5,.st (.int .i64) .z false)],[]⟩,⟨[((.exit 0),⟨[],[]⟩),(.ret,⟨[(4,.st .bool .z false)],[]⟩)]⟩))],jns:=[],rjs:=[] }
noncomputable def Qeh (x0:Int×Int×Int) (x1:Int×Int×Int):Option (Bool):=
 bif (!decide ((x0.1:Int)=x1.1)) then
 some false
 else
 (QeA x0.2 x1.2).bind fun (y2:Bool)=>
 bif (!y2) then
 some false
 else
 some true
noncomputable def Qbf:Callee:={ ins:=[.v s7 .z,.v s7 .z],outs:=[(.bool,.z)],F:=fun t=>Qeh t.1 t.2.1 }
noncomputable def Qkl:Ctx:={ tys:=tys,fns:=[(138,QcI)],frz:=[],lps:=[],jns:=[],rjs:=[] }
noncomputable def Qdg (x0:List (Int×Int×Int)) (x1:List (Int×Int×Int)):Option (Bool):=
 bif (!decide (((List.length x0:Int):Int)=(List.length x1:Int))) then
 some false
 else
 (Qh (S:=Int) (X:=(Unit)⊕(Bool)) (fun (s10:Int)=>
 bif (decide ((s10:Int)<(List.length x0:Int))) then
 bif (inB s10 x0) then
 bif (inB s10 x1) then
 (Qeh (List.getD x0 (Int.toNat s10) (0,(0,0))) (List.getD x1 (Int.toNat s10) (0,(0,0)))).bind fun (y11:Bool)=>
 bif (!y11) then
 some (Sum.inr (Sum.inr false))
 else
 some (Sum.inl (IntKind.wrap .i64 (s10+1)))
 else none
 else none
 else
 some (Sum.inr (Sum.inl ()))) 0).bind fun (j12:(Unit)⊕(Bool))=>
 Sum.elim (fun (j13:Unit)=>
 some true) (fun (j14:Bool)=>
 some j14) j12
noncomputable def QaI:Callee:={ ins:=[.v (.list s7) .z,.v (.list s7) .z],outs:=[(.bool,.z)],F:=fun t=>Qdg t.1 t.2.1 }
noncomputable def Qjq:Ctx:={ tys:=tys,fns:=[(92,Qbf)],frz:=[],lps:=[(4,(⟨[(0,.keep),(1,.keep),(5,.st (.int .i64) .z false)],[]⟩,⟨[((.exit 0),⟨[],[]⟩),(.ret,⟨[(4,.st .bool .z false)],[]⟩)]⟩))],jns:=[],rjs:=[] }
noncomputable def Qe9 (x0:Int×Int×List ((Int×Int)×(Int×List Int×Int×Int)×Int×Bool)×List (Int×Int×Int)) (x1:Int×Int×List ((Int×Int)×(Int×List Int×Int×Int)×Int×Bool)×List (Int×Int×Int)):Option (Bool):=
 bif (!decide ((x0.1:Int)=x1.1)) then
 some false
 else
 bif (!decide ((x0.2.1:Int)=x1.2.1)) then
 some false
 else
 (Qfw x0.2.2.1 x1.2.2.1).bind fun (y3:Bool)=>
 bif (!y3) then
 some false
 else
 (Qdg x0.2.2.2 x1.2.2.2).bind fun (y4:Bool)=>
 bif (!y4) then
 some false
 else
 some true
noncomputable def Qcp:Callee:={ ins:=[.v s10 .z,.v s10 .z],outs:=[(.bool,.z)],F:=fun t=>Qe9 t.1 t.2.1 }
noncomputable def QlD:Ctx:={ tys:=tys,fns:=[(52,QcL),(53,QaI)],frz:=[],lps:=[],jns:=[],rjs:=[] }
noncomputable def QId (x0:List (List UInt8)×List (Int×Int)) (x1:Int×Int×List ((Int×Int)×(Int×List Int×Int×Int)×Int×Bool)×List (Int×Int×Int)) (x2:List Int) (x3:Int):Option (List Int×Int):=
 (ZY x0 x1 x2 x3).bind fun (y3:Int)=>
 bif (!decide ((y3:Int)=0)) then
 some (([]:List Int),y3)
 else
 bif (decide (((List.length x2:Int):Int)=8)) then
 some (([]:List Int),2)
 else
 (Yp x2).bind fun (y4:List Int)=>
 bif decide (List.length y4+List.length ([x3]:List Int)<=LIM) then
 some (List.append y4 ([x3]:List Int),0)
 else none
noncomputable def QIb:Callee:={ ins:=[.v s1 .z,.v s10 .z,.v (.list (.int .i64)) .z,.v (.int .i64) .z],outs:=[((.list (.int .i64)),(.o .z)),((.int .i64),.z)],F:=fun t=>QId t.1 t.2.1 t.2.2.1 t.2.2.2.1,dm:=false }
noncomputable def QIJ:Ctx:={ tys:=tys,fns:=[(49,ZX),(113,ZK)],frz:=[],lps:=[],jns:=[],rjs:=[] }
noncomputable def QH7 (x0:Int×List Int×List Int) (x1:Int×List Int×List Int):Option (Bool):=
 bif (!decide ((x0.1:Int)=x1.1)) then
 some false
 else
 (Qbm x0.2.1 x1.2.1).bind fun (y3:Bool)=>
 bif (!y3) then
 some false
 else
 (Qbm x0.2.2 x1.2.2).bind fun (y4:Bool)=>
 bif (!y4) then
 some false
 else
 some true
noncomputable def QIf:Callee:={ ins:=[.v s12 .z,.v s12 .z],outs:=[(.bool,.z)],F:=fun t=>QH7 t.1 t.2.1 }
noncomputable def QIL:Ctx:={ tys:=tys,fns:=[(18,J3)],frz:=[],lps:=[],jns:=[],rjs:=[] }
noncomputable def QIj (x0:Int):Option (List UInt8):=
 bif (decide ((x0:Int)<=0)) then
 some [109,48]
 else
 (Qh (S:=Int×List UInt8) (X:=List UInt8) (fun (s3:Int×List UInt8)=>
 bif (decide ((0:Int)<s3.1)) then
 bif decide (List.length (List.map (fun (b:Int)=>UInt8.ofNat b.toNat) ([IntKind.wrap .u8 (IntKind.wrap .i64 (48+(Int.tmod s3.1 10)))]:List Int))+List.length s3.2<=LIM) then
 some (Sum.inl (IntKind.wrap .i64 (Int.tdiv s3.1 10),List.append (List.map (fun (b:Int)=>UInt8.ofNat b.toNat) ([IntKind.wrap .u8 (IntKind.wrap .i64 (48+(Int.tmod s3.1 10)))]:List Int)) s3.2))
 else none
 else
 some (Sum.inr s3.2)) (x0,[])).bind fun (j4:List UInt8)=>
 bif decide (List.length [109]+List.length j4<=LIM) then
 some (List.append [109] j4)
 else none
noncomputable def QIw:Callee:={ ins:=[.v (.int .i64) .z],outs:=[(.str,.z)],F:=fun t=>QIj t.1 }
noncomputable def QIW:Ctx:={ tys:=tys,fns:=[],frz:=[],lps:=[(4,(⟨[(0,.st (.int .i64) .z false),(3,.st .str .z false)],[]⟩,⟨[((.exit 0),⟨[(3,.st .str .z false)],[]⟩)]⟩))],jns:=[],rjs:=[] }
noncomputable def QIx (x0:List (List UInt8)) (x1:Int):Option (Int×List (List UInt8)):=
 (Qh (S:=List (List UInt8)×Int×Int) (X:=List (List UInt8)×Int) (fun (s8:List (List UInt8)×Int×Int)=>
 bif (decide ((s8.2.2:Int)<(List.length s8.1:Int))) then
 (QIj s8.2.1).bind fun (y9:List UInt8)=>
 bif (inB s8.2.2 s8.1) then
 some (Sum.inl (List.set s8.1 (Int.toNat s8.2.2) y9,(IntKind.wrap .i64 (s8.2.1+1),IntKind.wrap .i64 (s8.2.2+1))))
 else none
 else
 some (Sum.inr (s8.1,s8.2.1))) (x0,(x1,0))).bind fun (j10:List (List UInt8)×Int)=>
 some (j10.2,j10.1)
noncomputable def QIi:Callee:={ ins:=[.mu (.list .str) (.o .z) (.o .z),.v (.int .i64) .z],outs:=[((.int .i64),.z)],F:=fun t=>QIx t.1 t.2.1 }
noncomputable def QIN:Ctx:={ tys:=tys,fns:=[(112,QIw)],frz:=[],lps:=[(2,(⟨[(0,.st (.list .str) (.o .z) false),(1,.st (.int .i64) .z false),(5,.st (.int .i64) .z false)],[]⟩,⟨[((.exit 0),⟨[(0,.st (.list .str) (.o .z) false),(1,.st (.int .i64) .z false)],[]⟩)]⟩))],jns:=[],rjs:=[] }
noncomputable def QID (x0:List (Int×Int)) (x1:Int):Option (Int×List (Int×Int)):=
 (Qh (S:=List (Int×Int)×Int×Int) (X:=List (Int×Int)×Int) (fun (s4:List (Int×Int)×Int×Int)=>
 bif (decide ((s4.2.2:Int)<(List.length s4.1:Int))) then
 bif (inB s4.2.2 s4.1) then
 bif (inB s4.2.2 (List.set s4.1 (Int.toNat s4.2.2) (s4.2.1,(List.getD s4.1 (Int.toNat s4.2.2) (0,0)).2))) then
 let z5:List (Int×Int):=List.set (List.set s4.1 (Int.toNat s4.2.2) (s4.2.1,(List.getD s4.1 (Int.toNat s4.2.2) (0,0)).2)) (Int.toNat s4.2.2) ((List.getD (List.set s4.1 (Int.toNat s4.2.2) (s4.2.1,(List.getD s4.1 (Int.toNat s4.2.2) (0,0)).2)) (Int.toNat s4.2.2) (0,0)).1,IntKind.wrap .i64 (s4.2.1+1))
 some (Sum.inl (z5,(IntKind.wrap .i64 ((IntKind.wrap .i64 (s4.2.1+1))+1),IntKind.wrap .i64 (s4.2.2+1))))
 else none
 else none
 else
 some (Sum.inr (s4.1,s4.2.1))) (x0,(x1,0))).bind fun (j6:List (Int×Int)×Int)=>
 some (j6.2,j6.1)
noncomputable def QIt:Callee:={ ins:=[.mu (.list s0) (.o .z) (.o .z),.v (.int .i64) .z],outs:=[((.int .i64),.z)],F:=fun t=>QID t.1 t.2.1 }
noncomputable def QIU:Ctx:={ tys:=tys,fns:=[],frz:=[],lps:=[(2,(⟨[(0,.st (.list s0) (.o .z) false),(1,.st (.int .i64) .z false),(5,.st (.int .i64) .z false)],[]⟩,⟨[((.exit 0),⟨[(0,.st (.list s0) (.o .z) false),(1,.st (.int .i64) .z false)],[]⟩)]⟩))],jns:=[],rjs:=[] }
noncomputable def QIp (x0:List (List UInt8)×List (Int×Int)) (x1:Int):Option (Int×List (List UInt8)×List (Int×Int)):=
 (QIx x0.1 x1).bind fun (y3:Int×List (List UInt8))=>
 (QID x0.2 y3.1).bind fun (y4:Int×List (Int×Int))=>
 some (y4.1,(y3.2,y4.2))
noncomputable def QIl:Callee:={ ins:=[.mu s1 (.p (.o .z) (.o .z)) (.p (.o .z) (.o .z)),.v (.int .i64) .z],outs:=[((.int .i64),.z)],F:=fun t=>QIp t.1 t.2.1 }
noncomputable def QIO:Ctx:={ tys:=tys,fns:=[(63,QIi),(64,QIt)],frz:=[],lps:=[],jns:=[],rjs:=[] }
noncomputable def QH5 (x0:List Int) (x1:Int):Option (Int×List Int):=
 (Qh (S:=List Int×Int×Int) (X:=List Int×Int) (fun (s3:List Int×Int×Int)=>
 bif (decide ((s3.2.2:Int)<(List.length s3.1:Int))) then
 bif (inB s3.2.2 s3.1) then
 some (Sum.inl (List.set s3.1 (Int.toNat s3.2.2) s3.2.1,(IntKind.wrap .i64 (s3.2.1+1),IntKind.wrap .i64 (s3.2.2+1))))
 else none
 else
 some (Sum.inr (s3.1,s3.2.1))) (x0,(x1,0))).bind fun (j4:List Int×Int)=>
 some (j4.2,j4.1)
noncomputable def QH6:Callee:={ ins:=[.mu (.list (.int .i64)) (.o .z) (.o .z),.v (.int .i64) .z],outs:=[((.int .i64),.z)],F:=fun t=>QH5 t.1 t.2.1 }
noncomputable def QIP:Ctx:={ tys:=tys,fns:=[],frz:=[],lps:=[(2,(⟨[(0,.st (.list (.int .i64)) (.o .z) false),(1,.st (.int .i64) .z false),(5,.st (.int .i64) .z false)],[]⟩,⟨[((.exit 0),⟨[(0,.st (.list (.int .i64)) (.o .z) false),(1,.st (.int .i64) .z false)],[]⟩)]⟩))],jns:=[],rjs:=[] }
noncomputable def QIC (x0:List ((Int×Int)×(Int×List Int×Int×Int)×Int×Bool)) (x1:Int):Option (Int×List ((Int×Int)×(Int×List Int×Int×Int)×Int×Bool)):=
 (Qh (S:=List ((Int×Int)×(Int×List Int×Int×Int)×Int×Bool)×Int×Int) (X:=List ((Int×Int)×(Int×List Int×Int×Int)×Int×Bool)×Int) (fun (s38:List ((Int×Int)×(Int×List Int×Int×Int)×Int×Bool)×Int×Int)=>
 bif (decide ((s38.2.2:Int)<(List.length s38.1:Int))) then
 bif (inB s38.2.2 s38.1) then
 bif (inB s38.2.2 (List.set s38.1 (Int.toNat s38.2.2) ((s38.2.1,(List.getD s38.1 (Int.toNat s38.2.2) ((0,0),((0,([],(0,0))),(0,false)))).1.2),(List.getD s38.1 (Int.toNat s38.2.2) ((0,0),((0,([],(0,0))),(0,false)))).2))) then
 let z39:List ((Int×Int)×(Int×List Int×Int×Int)×Int×Bool):=List.set (List.set s38.1 (Int.toNat s38.2.2) ((s38.2.1,(List.getD s38.1 (Int.toNat s38.2.2) ((0,0),((0,([],(0,0))),(0,false)))).1.2),(List.getD s38.1 (Int.toNat s38.2.2) ((0,0),((0,([],(0,0))),(0,false)))).2)) (Int.toNat s38.2.2) (((List.getD (List.set s38.1 (Int.toNat s38.2.2) ((s38.2.1,(List.getD s38.1 (Int.toNat s38.2.2) ((0,0),((0,([],(0,0))),(0,false)))).1.2),(List.getD s38.1 (Int.toNat s38.2.2) ((0,0),((0,([],(0,0))),(0,false)))).2)) (Int.toNat s38.2.2) ((0,0),((0,([],(0,0))),(0,false)))).1.1,IntKind.wrap .i64 (s38.2.1+1)),(List.getD (List.set s38.1 (Int.toNat s38.2.2) ((s38.2.1,(List.getD s38.1 (Int.toNat s38.2.2) ((0,0),((0,([],(0,0))),(0,false)))).1.2),(List.getD s38.1 (Int.toNat s38.2.2) ((0,0),((0,([],(0,0))),(0,false)))).2)) (Int.toNat s38.2.2) ((0,0),((0,([],(0,0))),(0,false)))).2)
 bif (inB s38.2.2 z39) then
 let z40:List ((Int×Int)×(Int×List Int×Int×Int)×Int×Bool):=List.set z39 (Int.toNat s38.2.2) ((List.getD z39 (Int.toNat s38.2.2) ((0,0),((0,([],(0,0))),(0,false)))).1,((IntKind.wrap .i64 ((IntKind.wrap .i64 (s38.2.1+1))+1),(List.getD z39 (Int.toNat s38.2.2) ((0,0),((0,([],(0,0))),(0,false)))).2.1.2),(List.getD z39 (Int.toNat s38.2.2) ((0,0),((0,([],(0,0))),(0,false)))).2.2))
 bif (inB s38.2.2 z40) then
 (QH5 (List.getD z40 (Int.toNat s38.2.2) ((0,0),((0,([],(0,0))),(0,false)))).2.1.2.1 (IntKind.wrap .i64 ((IntKind.wrap .i64 ((IntKind.wrap .i64 (s38.2.1+1))+1))+1))).bind fun (y41:Int×List Int)=>
 bif (inB s38.2.2 (List.set z40 (Int.toNat s38.2.2) ((List.getD z40 (Int.toNat s38.2.2) ((0,0),((0,([],(0,0))),(0,false)))).1,(((List.getD z40 (Int.toNat s38.2.2) ((0,0),((0,([],(0,0))),(0,false)))).2.1.1,(y41.2,(List.getD z40 (Int.toNat s38.2.2) ((0,0),((0,([],(0,0))),(0,false)))).2.1.2.2)),(List.getD z40 (Int.toNat s38.2.2) ((0,0),((0,([],(0,0))),(0,false)))).2.2)))) then
 let z42:List ((Int×Int)×(Int×List Int×Int×Int)×Int×Bool):=List.set (List.set z40 (Int.toNat s38.2.2) ((List.getD z40 (Int.toNat s38.2.2) ((0,0),((0,([],(0,0))),(0,false)))).1,(((List.getD z40 (Int.toNat s38.2.2) ((0,0),((0,([],(0,0))),(0,false)))).2.1.1,(y41.2,(List.getD z40 (Int.toNat s38.2.2) ((0,0),((0,([],(0,0))),(0,false)))).2.1.2.2)),(List.getD z40 (Int.toNat s38.2.2) ((0,0),((0,([],(0,0))),(0,false)))).2.2))) (Int.toNat s38.2.2) ((List.getD (List.set z40 (Int.toNat s38.2.2) ((List.getD z40 (Int.toNat s38.2.2) ((0,0),((0,([],(0,0))),(0,false)))).1,(((List.getD z40 (Int.toNat s38.2.2) ((0,0),((0,([],(0,0))),(0,false)))).2.1.1,(y41.2,(List.getD z40 (Int.toNat s38.2.2) ((0,0),((0,([],(0,0))),(0,false)))).2.1.2.2)),(List.getD z40 (Int.toNat s38.2.2) ((0,0),((0,([],(0,0))),(0,false)))).2.2))) (Int.toNat s38.2.2) ((0,0),((0,([],(0,0))),(0,false)))).1,(((List.getD (List.set z40 (Int.toNat s38.2.2) ((List.getD z40 (Int.toNat s38.2.2) ((0,0),((0,([],(0,0))),(0,false)))).1,(((List.getD z40 (Int.toNat s38.2.2) ((0,0),((0,([],(0,0))),(0,false)))).2.1.1,(y41.2,(List.getD z40 (Int.toNat s38.2.2) ((0,0),((0,([],(0,0))),(0,false)))).2.1.2.2)),(List.getD z40 (Int.toNat s38.2.2) ((0,0),((0,([],(0,0))),(0,false)))).2.2))) (Int.toNat s38.2.2) ((0,0),((0,([],(0,0))),(0,false)))).2.1.1,((List.getD (List.set z40 (Int.toNat s38.2.2) ((List.getD z40 (Int.toNat s38.2.2) ((0,0),((0,([],(0,0))),(0,false)))).1,(((List.getD z40 (Int.toNat s38.2.2) ((0,0),((0,([],(0,0))),(0,false)))).2.1.1,(y41.2,(List.getD z40 (Int.toNat s38.2.2) ((0,0),((0,([],(0,0))),(0,false)))).2.1.2.2)),(List.getD z40 (Int.toNat s38.2.2) ((0,0),((0,([],(0,0))),(0,false)))).2.2))) (Int.toNat s38.2.2) ((0,0),((0,([],(0,0))),(0,false)))).2.1.2.1,(y41.1,(List.getD (List.set z40 (Int.toNat s38.2.2) ((List.getD z40 (Int.toNat s38.2.2) ((0,0),((0,([],(0,0))),(0,false)))).1,(((List.getD z40 (Int.toNat s38.2.2) ((0,0),((0,([],(0,0))),(0,false)))).2.1.1,(y41.2,(List.getD z40 (Int.toNat s38.2.2) ((0,0),((0,([],(0,0))),(0,false)))).2.1.2.2)),(List.getD z40 (Int.toNat s38.2.2) ((0,0),((0,([],(0,0))),(0,false)))).2.2))) (Int.toNat s38.2.2) ((0,0),((0,([],(0,0))),(0,false)))).2.1.2.2.2))),(List.getD (List.set z40 (Int.toNat s38.2.2) ((List.getD z40 (Int.toNat s38.2.2) ((0,0),((0,([],(0,0))),(0,false)))).1,(((List.getD z40 (Int.toNat s38.2.2) ((0,0),((0,([],(0,0))),(0,false)))).2.1.1,(y41.2,(List.getD z40 (Int.toNat s38.2.2) ((0,0),((0,([],(0,0))),(0,false)))).2.1.2.2)),(List.getD z40 (Int.toNat s38.2.2) ((0,0),((0,([],(0,0))),(0,false)))).2.2))) (Int.toNat s38.2.2) ((0,0),((0,([],(0,0))),(0,false)))).2.2))
 bif (inB s38.2.2 z42) then
 let z43:List ((Int×Int)×(Int×List Int×Int×Int)×Int×Bool):=List.set z42 (Int.toNat s38.2.2) ((List.getD z42 (Int.toNat s38.2.2) ((0,0),((0,([],(0,0))),(0,false)))).1,(((List.getD z42 (Int.toNat s38.2.2) ((0,0),((0,([],(0,0))),(0,false)))).2.1.1,((List.getD z42 (Int.toNat s38.2.2) ((0,0),((0,([],(0,0))),(0,false)))).2.1.2.1,((List.getD z42 (Int.toNat s38.2.2) ((0,0),((0,([],(0,0))),(0,false)))).2.1.2.2.1,IntKind.wrap .i64 (y41.1+1)))),(List.getD z42 (Int.toNat s38.2.2) ((0,0),((0,([],(0,0))),(0,false)))).2.2))
 bif (inB s38.2.2 z43) then
 let z44:List ((Int×Int)×(Int×List Int×Int×Int)×Int×Bool):=List.set z43 (Int.toNat s38.2.2) ((List.getD z43 (Int.toNat s38.2.2) ((0,0),((0,([],(0,0))),(0,false)))).1,((List.getD z43 (Int.toNat s38.2.2) ((0,0),((0,([],(0,0))),(0,false)))).2.1,(IntKind.wrap .i64 ((IntKind.wrap .i64 (y41.1+1))+1),(List.getD z43 (Int.toNat s38.2.2) ((0,0),((0,([],(0,0))),(0,false)))).2.2.2)))
 bif (inB s38.2.2 z44) then
 let z45:List ((Int×Int)×(Int×List Int×Int×Int)×Int×Bool):=List.set z44 (Int.toNat s38.2.2) ((List.getD z44 (Int.toNat s38.2.2) ((0,0),((0,([],(0,0))),(0,false)))).1,((List.getD z44 (Int.toNat s38.2.2) ((0,0),((0,([],(0,0))),(0,false)))).2.1,((List.getD z44 (Int.toNat s38.2.2) ((0,0),((0,([],(0,0))),(0,false)))).2.2.1,decide ((Int.tmod (IntKind.wrap .i64 ((IntKind.wrap .i64 ((IntKind.wrap .i64 (y41.1+1))+1))+1)) 3:Int)=0))))
 some (Sum.inl (z45,(IntKind.wrap .i64 ((IntKind.wrap .i64 ((IntKind.wrap .i64 ((IntKind.wrap .i64 (y41.1+1))+1))+1))+1),IntKind.wrap .i64 (s38.2.2+1))))
 else none
 else none
 else none
 else none
 else none
 else none
 else none
 else none
 else
 some (Sum.inr (s38.1,s38.2.1))) (x0,(x1,0))).bind fun (j46:List ((Int×Int)×(Int×List Int×Int×Int)×Int×Bool)×Int)=>
 some (j46.2,j46.1)
noncomputable def QIr:Callee:={ ins:=[.mu (.list s6) (.o (.p .z (.p (.p .z (.p (.o .z) .z)) .z))) (.o (.p .z (.p (.p .z (.p (.o .z) .z)) .z))),.v (.int .i64) .z],outs:=[((.int .i64),.z)],F:=fun t=>QIC t.1 t.2.1 }
noncomputable def QIS:Ctx:={ tys:=tys,fns:=[(27,QH6)],frz:=[],lps:=[(2,(⟨[(0,.st (.list s6) (.o (.p .z (.p (.p .z (.p (.o .z) .z)) .z))) false),(1,.st (.int .i64) .z false),(5,.st (.int .i64) .z false)],[]⟩,⟨[((.exit 0),⟨[(0,.st (.list s6) (.o (.p .z (.p (.p .z (.p (.o .z) .z)) .z))) false),(1,.st (.int .i64) .z false)],[]⟩)]⟩))],jns:=[],rjs:=[] }
noncomputable def QIz (x0:List (Int×Int×Int)) (x1:Int):Option (Int×List (Int×Int×Int)):=
 (Qh (S:=List (Int×Int×Int)×Int×Int) (X:=List (Int×Int×Int)×Int) (fun (s8:List (Int×Int×Int)×Int×Int)=>
 bif (decide ((s8.2.2:Int)<(List.length s8.1:Int))) then
 bif (inB s8.2.2 s8.1) then
 bif (inB s8.2.2 (List.set s8.1 (Int.toNat s8.2.2) (s8.2.1,(List.getD s8.1 (Int.toNat s8.2.2) (0,(0,0))).2))) then
 let z9:List (Int×Int×Int):=List.set (List.set s8.1 (Int.toNat s8.2.2) (s8.2.1,(List.getD s8.1 (Int.toNat s8.2.2) (0,(0,0))).2)) (Int.toNat s8.2.2) ((List.getD (List.set s8.1 (Int.toNat s8.2.2) (s8.2.1,(List.getD s8.1 (Int.toNat s8.2.2) (0,(0,0))).2)) (Int.toNat s8.2.2) (0,(0,0))).1,(IntKind.wrap .i64 (s8.2.1+1),(List.getD (List.set s8.1 (Int.toNat s8.2.2) (s8.2.1,(List.getD s8.1 (Int.toNat s8.2.2) (0,(0,0))).2)) (Int.toNat s8.2.2) (0,(0,0))).2.2))
 bif (inB s8.2.2 z9) then
 some (Sum.inl (List.set z9 (Int.toNat s8.2.2) ((List.getD z9 (Int.toNat s8.2.2) (0,(0,0))).1,((List.getD z9 (Int.toNat s8.2.2) (0,(0,0))).2.1,IntKind.wrap .i64 ((IntKind.wrap .i64 (s8.2.1+1))+1))),(IntKind.wrap .i64 ((IntKind.wrap .i64 ((IntKind.wrap .i64 (s8.2.1+1))+1))+1),IntKind.wrap .i64 (s8.2.2+1))))
 else none
 else none
 else none
 else
 some (Sum.inr (s8.1,s8.2.1))) (x0,(x1,0))).bind fun (j10:List (Int×Int×Int)×Int)=>
 some (j10.2,j10.1)
noncomputable def QIh:Callee:={ ins:=[.mu (.list s7) (.o .z) (.o .z),.v (.int .i64) .z],outs:=[((.int .i64),.z)],F:=fun t=>QIz t.1 t.2.1 }
noncomputable def QIM:Ctx:={ tys:=tys,fns:=[],frz:=[],lps:=[(2,(⟨[(0,.st (.list s7) (.o .z) false),(1,.st (.int .i64) .z false),(5,.st (.int .i64) .z false)],[]⟩,⟨[((.exit 0),⟨[(0,.st (.list s7) (.o .z) false),(1,.st (.int .i64) .z false)],[]⟩)]⟩))],jns:=[],rjs:=[] }
noncomputable def QIq (x0:Int×Int×List ((Int×Int)×(Int×List Int×Int×Int)×Int×Bool)×List (Int×Int×Int)) (x1:Int):Option (Int×Int×Int×List ((Int×Int)×(Int×List Int×Int×Int)×Int×Bool)×List (Int×Int×Int)):=
 (QIC x0.2.2.1 x1).bind fun (y3:Int×List ((Int×Int)×(Int×List Int×Int×Int)×Int×Bool))=>
 (QIz x0.2.2.2 y3.1).bind fun (y4:Int×List (Int×Int×Int))=>
 some (y4.1,(x0.1,(x0.2.1,(y3.2,y4.2))))
noncomputable def QIs:Callee:={ ins:=[.mu s10 (.p .z (.p .z (.p (.o (.p .z (.p (.p .z (.p (.o .z) .z)) .z))) (.o .z)))) (.p .z (.p .z (.p (.o (.p .z (.p (.p .z (.p (.o .z) .z)) .z))) (.o .z)))),.v (.int .i64) .z],outs:=[((.int .i64),.z)],F:=fun t=>QIq t.1 t.2.1 }
noncomputable def QIT:Ctx:={ tys:=tys,fns:=[(65,QIr),(66,QIh)],frz:=[],lps:=[],jns:=[],rjs:=[] }
noncomputable def QIk (x0:Int×List Int×List Int) (x1:Int):Option (Int×Int×List Int×List Int):=
 (QH5 x0.2.1 x1).bind fun (y3:Int×List Int)=>
 (QH5 x0.2.2 y3.1).bind fun (y4:Int×List Int)=>
 some (y4.1,(x0.1,(y3.2,y4.2)))
noncomputable def QIe:Callee:={ ins:=[.mu s12 (.p .z (.p (.o .z) (.o .z))) (.p .z (.p (.o .z) (.o .z))),.v (.int .i64) .z],outs:=[((.int .i64),.z)],F:=fun t=>QIk t.1 t.2.1 }
noncomputable def QII:Ctx:={ tys:=tys,fns:=[(27,QH6)],frz:=[],lps:=[],jns:=[],rjs:=[] }
noncomputable def QIo (x0:List Int) (x1:Int):Option (Int):=
 (Qh (S:=Int×Int) (X:=(Int)⊕(Int)) (fun (s5:Int×Int)=>
 bif (decide ((s5.2:Int)<(List.length x0:Int))) then
 bif (inB s5.2 x0) then
 bif (!decide ((List.getD x0 (Int.toNat s5.2) 0:Int)=s5.1)) then
 some (Sum.inr (Sum.inr (-1)))
 else
 some (Sum.inl (IntKind.wrap .i64 (s5.1+1),IntKind.wrap .i64 (s5.2+1)))
 else none
 else
 some (Sum.inr (Sum.inl s5.1))) (x1,0)).bind fun (j6:(Int)⊕(Int))=>
 Sum.elim (fun (j7:Int)=>
 some j7) (fun (j8:Int)=>
 some j8) j6
noncomputable def QIm:Callee:={ ins:=[.v (.list (.int .i64)) .z,.v (.int .i64) .z],outs:=[((.int .i64),.z)],F:=fun t=>QIo t.1 t.2.1 }
noncomputable def QIR:Ctx:={ tys:=tys,fns:=[],frz:=[],lps:=[(2,(⟨[(0,.keep),(1,.st (.int .i64) .z false),(5,.st (.int .i64) .z false)],[]⟩,⟨[((.exit 0),⟨[(1,.st (.int .i64) .z false)],[]⟩),(.ret,⟨[(4,.st (.int .i64) .z false)],[]⟩)]⟩))],jns:=[],rjs:=[] }
noncomputable def QIc (x0:Int×List Int×List Int) (x1:Int):Option (Int):=
 (QIo x0.2.1 x1).bind fun (y3:Int)=>
 bif (decide ((y3:Int)<0)) then
 some (-1)
 else
 (QIo x0.2.2 y3).bind fun (y4:Int)=>
 bif (decide ((y4:Int)<0)) then
 some (-1)
 else
 some y4
noncomputable def QIa:Callee:={ ins:=[.v s12 .z,.v (.int .i64) .z],outs:=[((.int .i64),.z)],F:=fun t=>QIc t.1 t.2.1 }
noncomputable def QIK:Ctx:={ tys:=tys,fns:=[(67,QIm)],frz:=[],lps:=[],jns:=[],rjs:=[] }
noncomputable def QKw (x0:List (List UInt8)×List (Int×Int)) (x1:Int×Int×List ((Int×Int)×(Int×List Int×Int×Int)×Int×Bool)×List (Int×Int×Int)) (x2:List Int) (x3:Int):Option (Int×List Int×List Int):=
 (Qgr x0 x1 x2).bind fun (y3:List (Int×Int×List (Int×Int)×List (Int×List Int×Int×Int))×Int)=>
 bif (!decide ((y3.2:Int)=0)) then
 some (y3.2,([],[]))
 else
 (QdB x0 x1 y3.1 x3).bind fun (y4:(Int×Int×List (Int×Int)×List (Int×List Int×Int×Int))×Int)=>
 bif (!decide ((y4.2:Int)=0)) then
 some (y4.2,([],[]))
 else
 bif (decide ((8:Int)<=(List.length x2:Int))) then
 some (2,([],[]))
 else
 bif decide (List.length ([]:List Int)+List.length x2<=LIM) then
 bif decide (List.length (List.append ([]:List Int) x2)+List.length ([x3]:List Int)<=LIM) then
 some (0,([],List.append (List.append ([]:List Int) x2) ([x3]:List Int)))
 else none
 else none
noncomputable def QKt:Callee:={ ins:=[.v s1 .z,.v s10 .z,.v (.list (.int .i64)) .z,.v (.int .i64) .z],outs:=[(s12,(.p .z (.p (.o .z) (.o .z))))],F:=fun t=>QKw t.1 t.2.1 t.2.2.1 t.2.2.2.1,dm:=false }
noncomputable def QKD:Ctx:={ tys:=tys,fns:=[(43,Qd0),(61,QdH)],frz:=[],lps:=[],jns:=[],rjs:=[] }
noncomputable def QL0 (x0:List (List UInt8)×List (Int×Int)) (x1:Int×Int×List ((Int×Int)×(Int×List Int×Int×Int)×Int×Bool)×List (Int×Int×Int)) (x2:List Int) (x3:Int):Option (Int×List Int×List Int):=
 (Qgr x0 x1 x2).bind fun (y12:List (Int×Int×List (Int×Int)×List (Int×List Int×Int×Int))×Int)=>
 bif (!decide ((y12.2:Int)=0)) then
 some (y12.2,([],[]))
 else
 (Qid x0 x3).bind fun (y13:Int×Int×Int×List (Int×Int)×List (Int×List Int×Int×Int))=>
 bif (!decide ((y13.1:Int)=0)) then
 some (y13.1,([],[]))
 else
 (Qh (S:=List Int×List Int×Int) (X:=List Int×List Int) (fun (s18:List Int×List Int×Int)=>
 bif (decide ((s18.2.2:Int)<(List.length y12.1:Int))) then
 bif (inB s18.2.2 y12.1) then
 (Qe3 (List.getD y12.1 (Int.toNat s18.2.2) (0,(0,([],[])))) y13.2).bind fun (y19:Bool)=>
 (bif y19 then
 bif (inB s18.2.2 x2) then
 bif decide (List.length s18.2.1+List.length ([List.getD x2 (Int.toNat s18.2.2) 0]:List Int)<=LIM) then
 some (s18.1,List.append s18.2.1 ([List.getD x2 (Int.toNat s18.2.2) 0]:List Int))
 else none
 else none
 else
 bif (inB s18.2.2 x2) then
 bif decide (List.length s18.1+List.length ([List.getD x2 (Int.toNat s18.2.2) 0]:List Int)<=LIM) then
 some (List.append s18.1 ([List.getD x2 (Int.toNat s18.2.2) 0]:List Int),s18.2.1)
 else none
 else none:Option (List Int×List Int)).bind fun (j20:List Int×List Int)=>
 some (Sum.inl (j20.1,(j20.2,IntKind.wrap .i64 (s18.2.2+1))))
 else none
 else
 some (Sum.inr (s18.1,s18.2.1))) (([]:List Int),(([]:List Int),0))).bind fun (j21:List Int×List Int)=>
 (QKw x0 x1 j21.1 x3).bind fun (y22:Int×List Int×List Int)=>
 bif (!decide ((y22.1:Int)=0)) then
 some (y22.1,([],[]))
 else
 some (y22.1,(j21.2,y22.2.2))
noncomputable def QLX:Callee:={ ins:=[.v s1 .z,.v s10 .z,.v (.list (.int .i64)) .z,.v (.int .i64) .z],outs:=[(s12,(.p .z (.p (.o .z) (.o .z))))],F:=fun t=>QL0 t.1 t.2.1 t.2.2.1 t.2.2.2.1,dm:=false }
noncomputable def QL9:Ctx:={ tys:=tys,fns:=[(30,QKt),(43,Qd0),(75,QfS),(76,QcE)],frz:=[],lps:=[(10,(⟨[(2,.keep),(3,.keep),(4,.keep),(5,.keep),(8,.keep),(9,.keep),(11,.keep),(12,.st (.list (.int .i64)) (.o .z) false),(13,.st (.list (.int .i64)) (.o .z) false),(14,.st (.int .i64) .z false)],[(4,.keep),(5,.keep),(8,.keep),(11,.keep)]⟩,⟨[((.exit 0),⟨[(3,.keep),(4,.keep),(5,.keep),(8,.keep),(12,.st (.list (.int .i64)) (.o .z) false),(13,.st (.list (.int .i64)) (.o .z) false)],[(4,.keep),(5,.keep),(8,.keep)]⟩)]⟩))],jns:=[(13,⟨[(.normal,⟨[(2,.keep),(3,.keep),(4,.keep),(5,.keep),(8,.keep),(9,.keep),(11,.keep),(12,.st (.list (.int .i64)) (.o .z) false),(13,.st (.list (.int .i64)) (.o .z) false),(14,.keep)],[(4,.keep),(5,.keep),(8,.keep),(11,.keep)]⟩)]⟩)],rjs:=[] }
noncomputable def QLZ (x0:List (List UInt8)×List (Int×Int)) (x1:Int×Int×List ((Int×Int)×(Int×List Int×Int×Int)×Int×Bool)×List (Int×Int×Int)) (x2:List Int) (x3:Int):Option (Int×List Int×List Int):=
 (JI x0 x3).bind fun (y18:(Int×Int×List (Int×Int)×List (Int×List Int×Int×Int))×Int)=>
 bif (!decide ((y18.2:Int)=0)) then
 some (y18.2,([],[]))
 else
 (Qar x0 x2).bind fun (y19:List (Int×Int×List (Int×Int)×List (Int×List Int×Int×Int)))=>
 (Qh (S:=List Int×List Int×List (Int×Int×List (Int×Int)×List (Int×List Int×Int×Int))×Int) (X:=List Int×List Int) (fun (s28:List Int×List Int×List (Int×Int×List (Int×Int)×List (Int×List Int×Int×Int))×Int)=>
 bif (decide ((s28.2.2.2:Int)<(List.length y19:Int))) then
 bif (inB s28.2.2.2 s28.2.2.1) then
 (bif (inB s28.2.2.2 x2) then
 bif (decide ((List.getD x2 (Int.toNat s28.2.2.2) 0:Int)=x3)) then
 some true
 else
 (QhF (List.getD s28.2.2.1 (Int.toNat s28.2.2.2) (0,(0,([],[])))) y18.1).bind fun (y30:Bool)=>
 some y30
 else none:Option (Bool)).bind fun (j31:Bool)=>
 (bif j31 then
 bif (inB s28.2.2.2 x2) then
 bif decide (List.length s28.2.1+List.length ([List.getD x2 (Int.toNat s28.2.2.2) 0]:List Int)<=LIM) then
 some (s28.1,List.append s28.2.1 ([List.getD x2 (Int.toNat s28.2.2.2) 0]:List Int))
 else none
 else none
 else
 bif (inB s28.2.2.2 x2) then
 bif decide (List.length s28.1+List.length ([List.getD x2 (Int.toNat s28.2.2.2) 0]:List Int)<=LIM) then
 some (List.append s28.1 ([List.getD x2 (Int.toNat s28.2.2.2) 0]:List Int),s28.2.1)
 else none
 else none:Option (List Int×List Int)).bind fun (j32:List Int×List Int)=>
 some (Sum.inl (j32.1,(j32.2,(s28.2.2.1,IntKind.wrap .i64 (s28.2.2.2+1)))))
 else none
 else
 some (Sum.inr (s28.1,s28.2.1))) (([]:List Int),(([]:List Int),(y19,0)))).bind fun (j33:List Int×List Int)=>
 (QId x0 x1 j33.1 x3).bind fun (y34:List Int×Int)=>
 bif (!decide ((y34.2:Int)=0)) then
 some (y34.2,([],[]))
 else
 some (0,(j33.2,y34.1))
noncomputable def QLU:Callee:={ ins:=[.v s1 .z,.v s10 .z,.v (.list (.int .i64)) .z,.v (.int .i64) .z],outs:=[(s12,(.p .z (.p (.o .z) (.o .z))))],F:=fun t=>QLZ t.1 t.2.1 t.2.2.1 t.2.2.2.1,dm:=false }
noncomputable def QL3:Ctx:={ tys:=tys,fns:=[(56,YU),(68,QIb),(84,YO),(88,QeJ)],frz:=[],lps:=[(6,(⟨[(2,.keep),(3,.keep),(4,.keep),(5,.keep),(8,.keep),(9,.keep),(11,.st (.list (.int .i64)) (.o .z) false),(12,.st (.list (.int .i64)) (.o .z) false),(30,.st (.list s19) .z false),(31,.keep),(32,.st (.int .i64) .z false)],[(4,.keep),(5,.keep),(8,.keep),(9,.keep)]⟩,⟨[((.exit 0),⟨[(3,.keep),(4,.keep),(5,.keep),(8,.keep),(11,.st (.list (.int .i64)) (.o .z) false),(12,.st (.list (.int .i64)) (.o .z) false)],[(4,.keep),(5,.keep),(8,.keep)]⟩)]⟩))],jns:=[(9,⟨[(.normal,⟨[(2,.keep),(3,.keep),(4,.keep),(5,.keep),(8,.keep),(9,.keep),(11,.st (.list (.int .i64)) (.o .z) false),(12,.st (.list (.int .i64)) (.o .z) false),(30,.keep),(31,.keep),(32,.keep)],[(4,.keep),(5,.keep),(8,.keep),(9,.keep)]⟩)]⟩)],rjs:=[(8,⟨[(2,.keep),(3,.keep),(4,.keep),(5,.keep),(8,.keep),(9,.keep),(11,.keep),(12,.keep),(13,.keep),(30,.keep),(31,.keep),(32,.keep),(47,.st .bool .z false)],[(4,.keep),(5,.keep),(8,.keep),(9,.keep)]⟩)] }
noncomputable def QLW (x0:List (List UInt8)×List (Int×Int)) (x1:Int×Int×List ((Int×Int)×(Int×List Int×Int×Int)×Int×Bool)×List (Int×Int×Int)) (x2:List Int) (x3:Int):Option (Int×List Int×List Int):=
 (Qc2 x0 x1 x2).bind fun (y3:Int)=>
 bif (!decide ((y3:Int)=0)) then
 some (y3,([],[]))
 else
 (QLZ x0 x1 x2 x3).bind fun (y4:Int×List Int×List Int)=>
 some y4
noncomputable def QLV:Callee:={ ins:=[.v s1 .z,.v s10 .z,.v (.list (.int .i64)) .z,.v (.int .i64) .z],outs:=[(s12,(.p .z (.p (.o .z) (.o .z))))],F:=fun t=>QLW t.1 t.2.1 t.2.2.1 t.2.2.2.1,dm:=false }
noncomputable def QL7:Ctx:={ tys:=tys,fns:=[(15,QaN),(77,QLU)],frz:=[],lps:=[],jns:=[],rjs:=[] }
noncomputable def QLY (x0:List (List UInt8)×List (Int×Int)) (x1:Int×Int×List ((Int×Int)×(Int×List Int×Int×Int)×Int×Bool)×List (Int×Int×Int)) (x2:List Int) (x3:Int):Option (Bool):=
 bif (decide ((1048576:Int)<(List.length x2:Int))) then
 some true
 else
 (Qem x0 1048576).bind fun (y32:Int)=>
 bif (decide ((y32:Int)<0)) then
 some true
 else
 (Qfi x1 y32).bind fun (y33:Int)=>
 bif (decide ((y33:Int)<0)) then
 some true
 else
 (Qab x0).bind fun (y34:List (List UInt8)×List (Int×Int))=>
 (Qay x1).bind fun (y35:Int×Int×List ((Int×Int)×(Int×List Int×Int×Int)×Int×Bool)×List (Int×Int×Int))=>
 (Y2 x2).bind fun (y36:List Int)=>
 (QL0 y34 y35 y36 x3).bind fun (y37:Int×List Int×List Int)=>
 (Qab x0).bind fun (y38:List (List UInt8)×List (Int×Int))=>
 (Qay x1).bind fun (y39:Int×Int×List ((Int×Int)×(Int×List Int×Int×Int)×Int×Bool)×List (Int×Int×Int))=>
 (Y2 x2).bind fun (y40:List Int)=>
 (QLW y38 y39 y40 x3).bind fun (y41:Int×List Int×List Int)=>
 (QH7 y41 y37).bind fun (y42:Bool)=>
 bif (!y42) then
 some false
 else
 (Qab x0).bind fun (y43:List (List UInt8)×List (Int×Int))=>
 (Qer y38 y43).bind fun (y44:Bool)=>
 bif (!y44) then
 some false
 else
 (Qay x1).bind fun (y45:Int×Int×List ((Int×Int)×(Int×List Int×Int×Int)×Int×Bool)×List (Int×Int×Int))=>
 (Qe9 y39 y45).bind fun (y46:Bool)=>
 bif (!y46) then
 some false
 else
 (Y2 x2).bind fun (y47:List Int)=>
 (Qbm y40 y47).bind fun (y48:Bool)=>
 bif (!y48) then
 some false
 else
 (QIp y38 1).bind fun (y49:Int×List (List UInt8)×List (Int×Int))=>
 (QIq y39 y49.1).bind fun (y50:Int×Int×Int×List ((Int×Int)×(Int×List Int×Int×Int)×Int×Bool)×List (Int×Int×Int))=>
 (QH5 y40 y50.1).bind fun (y51:Int×List Int)=>
 (bif (decide ((y51.1:Int)<0)) then
 some true
 else
 (QH7 y41 y37).bind fun (y53:Bool)=>
 some (!y53):Option (Bool)).bind fun (j54:Bool)=>
 bif j54 then
 some false
 else
 (QIk y41 1).bind fun (y55:Int×Int×List Int×List Int)=>
 (QIc y55.2 1).bind fun (y56:Int)=>
 bif (decide ((y56:Int)<0)) then
 some false
 else
 bif (!decide ((y56:Int)=y55.1)) then
 some false
 else
 (Qab x0).bind fun (y57:List (List UInt8)×List (Int×Int))=>
 (Qay x1).bind fun (y58:Int×Int×List ((Int×Int)×(Int×List Int×Int×Int)×Int×Bool)×List (Int×Int×Int))=>
 (Y2 x2).bind fun (y59:List Int)=>
 (QLW y57 y58 y59 x3).bind fun (y60:Int×List Int×List Int)=>
 (QH7 y60 y37).bind fun (y61:Bool)=>
 bif (!y61) then
 some false
 else
 (QIc y55.2 1).bind fun (y62:Int)=>
 bif (decide ((y62:Int)<0)) then
 some false
 else
 bif (!decide ((y62:Int)=y55.1)) then
 some false
 else
 some true
noncomputable def QLT:Callee:={ ins:=[.v s1 .z,.v s10 .z,.v (.list (.int .i64)) .z,.v (.int .i64) .z],outs:=[(.bool,.z)],F:=fun t=>QLY t.1 t.2.1 t.2.2.1 t.2.2.2.1,dm:=false }
noncomputable def QL4:Ctx:={ tys:=tys,fns:=[(9,Qbi),(10,Qcn),(12,Qbx),(13,Qct),(14,J7),(16,Qbu),(17,Qcp),(18,J3),(24,QIf),(25,QIl),(26,QIs),(27,QH6),(28,QIe),(29,QIa),(37,QLX),(38,QLV)],frz:=[],lps:=[],jns:=[],rjs:=[(27,⟨[(2,.keep),(3,.keep),(4,.keep),(5,.keep),(10,.keep),(14,.keep),(86,.st .bool .z false)],[(4,.keep),(5,.keep),(10,.keep),(14,.keep)]⟩)] }
end GL
end Go.Dx

