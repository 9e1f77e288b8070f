/- What each function computes, as a function of plain data (F), its parameters (K) and hints for the executor (X); the types -/
import Derived.Test.YtjipmcikidfhiaaGreatDoorDxd
import Derived.Test.YtjipmcikidfhiaaGreatDoorProg
import Derived.KernelRfl
set_option linter.unusedVariables false
set_option linter.unusedSimpArgs false
set_option maxRecDepth 100000
set_option maxHeartbeats 0
noncomputable section
namespace Go.Dx
open Go.Proofs
namespace GL
def s0:Sh:=(.prod (.int .i64) (.int .i64))
def s1:Sh:=(.prod (.list .str) (.list s0))
def s2:Sh:=(.prod (.int .i64) s0)
def s3:Sh:=(.prod (.list (.int .i64)) s0)
def s4:Sh:=(.prod (.int .i64) s3)
def s5:Sh:=(.prod (.int .i64) .bool)
def s6:Sh:=(.prod s4 s5)
def s7:Sh:=(.prod s0 s6)
def s8:Sh:=(.prod (.list s7) (.list s2))
def s9:Sh:=(.prod (.int .i64) s8)
def s10:Sh:=(.prod (.int .i64) s9)
def s11:Sh:=(.prod (.list (.list s7)) (.list s2))
def s12:Sh:=(.prod (.int .i64) s11)
def s13:Sh:=(.prod s10 (.list s12))
def s14:Sh:=(.prod (.list (.int .i64)) s13)
def s15:Sh:=(.prod (.list s2) s14)
def s16:Sh:=(.prod s1 s15)
def s17:Sh:=(.prod s12 s10)
def s18:Sh:=(.prod (.int .i64) s17)
def s19:Sh:=(.prod (.int .i64) s18)
def s20:Sh:=(.prod (.int .i64) (.list (.int .i64)))
def s21:Sh:=(.prod (.int .i64) s20)
def s22:Sh:=(.prod (.int .i64) s21)
def s23:Sh:=(.prod (.int .i64) s22)
def s24:Sh:=(.prod (.int .i64) .str)
def s25:Sh:=(.prod (.int .i64) (.list s7))
def s26:Sh:=(.prod (.list s0) (.list s4))
def s27:Sh:=(.prod (.int .i64) s26)
def s28:Sh:=(.prod (.int .i64) s27)
def s29:Sh:=(.prod (.int .i64) s28)
def tys:List (TypeId×TI):=[(2,⟨(.int .i64),8,.int .i64⟩),
 (3,⟨(.int .i64),8,.int .i64⟩),
 (4,⟨.bool,1,.bool⟩),
 (5,⟨(.int .u8),1,.int .u8⟩),
 (9,⟨.str,16,.str⟩),
 (22,⟨(.list .str),24,.slice 9⟩),
 (23,⟨(.list s0),24,.slice 147⟩),
 (25,⟨s1,48,.struct [(0,22),(1,23)]⟩),
 (26,⟨(.list s2),24,.slice 96⟩),
 (27,⟨(.list (.int .i64)),24,.slice 2⟩),
 (28,⟨(.list s7),24,.slice 133⟩),
 (29,⟨(.list s2),24,.slice 159⟩),
 (31,⟨s10,64,.struct [(0,2),(1,2),(2,28),(3,29)]⟩),
 (32,⟨(.list s12),24,.slice 88⟩),
 (34,⟨s16,184,.struct [(0,25),(2,26),(3,27),(4,31),(8,32)]⟩),
 (37,⟨(.list s0),24,.slice 103⟩),
 (39,⟨s1,48,.struct [(0,22),(1,37)]⟩),
 (40,⟨(.list s2),24,.slice 94⟩),
 (41,⟨(.list s7),24,.slice 153⟩),
 (42,⟨(.list s2),24,.slice 156⟩),
 (44,⟨s10,64,.struct [(0,2),(1,2),(2,41),(3,42)]⟩),
 (45,⟨(.list s12),24,.slice 69⟩),
 (47,⟨s16,184,.struct [(0,39),(2,40),(3,27),(4,44),(8,45)]⟩),
 (57,⟨(.fn2 .bool .bool .bool),8,.ptr 47⟩),
 (67,⟨(.list (.list s7)),24,.slice 41⟩),
 (69,⟨s12,56,.struct [(0,2),(1,67),(2,42)]⟩),
 (71,⟨s19,136,.struct [(0,2),(1,2),(2,69),(5,44)]⟩),
 (76,⟨(.fn2 s12 s12 .bool),8,.func⟩),
 (86,⟨(.list (.list s7)),24,.slice 28⟩),
 (88,⟨s12,56,.struct [(0,2),(1,86),(2,29)]⟩),
 (94,⟨s2,24,.struct [(0,2),(1,2),(2,2)]⟩),
 (96,⟨s2,24,.struct [(0,2),(1,2),(2,2)]⟩),
 (103,⟨s0,16,.struct [(0,2),(1,2)]⟩),
 (104,⟨(.fn1 (.int .i64) .bool .z),8,.func⟩),
 (109,⟨s22,48,.struct [(0,2),(1,2),(2,2),(3,27)]⟩),
 (119,⟨(.fn2 (.list s7) (.list s7) .bool),8,.func⟩),
 (127,⟨s0,16,.struct [(0,2),(1,2)]⟩),
 (129,⟨s3,40,.struct [(0,27),(1,2),(2,2)]⟩),
 (131,⟨s4,48,.struct [(0,2),(1,129)]⟩),
 (133,⟨s7,80,.struct [(0,127),(2,131),(6,2),(7,4)]⟩),
 (137,⟨s23,56,.struct [(0,2),(1,109)]⟩),
 (147,⟨s0,16,.struct [(0,2),(1,2)]⟩),
 (148,⟨s0,16,.struct [(0,2),(1,2)]⟩),
 (149,⟨s3,40,.struct [(0,27),(1,2),(2,2)]⟩),
 (151,⟨s4,48,.struct [(0,2),(1,149)]⟩),
 (153,⟨s7,80,.struct [(0,148),(2,151),(6,2),(7,4)]⟩),
 (156,⟨s2,24,.struct [(0,2),(1,148)]⟩),
 (159,⟨s2,24,.struct [(0,2),(1,127)]⟩),
 (169,⟨(.fn1 s2 .bool .z),8,.func⟩),
 (173,⟨(.fn2 s7 s7 .bool),8,.func⟩),
 (179,⟨s24,24,.struct [(0,2),(1,9)]⟩),
 (189,⟨s25,32,.struct [(0,2),(1,41)]⟩),
 (191,⟨(.list s4),24,.slice 151⟩),
 (211,⟨(.list s0),24,.slice 148⟩),
 (213,⟨s28,64,.struct [(0,2),(1,2),(2,211),(3,191)]⟩),
 (215,⟨s29,72,.struct [(0,2),(1,213)]⟩),
 (218,⟨s0,16,.struct [(0,2),(1,2)]⟩),
 (226,⟨(.int .u64),8,.int .u64⟩),
 (285,⟨(.fn1 s2 .bool .z),8,.func⟩),
 (292,⟨(.fn1 s7 .bool .z),8,.func⟩),
 (295,⟨(.fn2 s7 s7 (.int .i64)),8,.func⟩),
 (307,⟨(.int .u64),8,.int .u64⟩),
 (314,⟨(.list (.int .u8)),24,.slice 5⟩),
 (329,⟨(.fn2 s2 (.int .i64) (.int .i64)),8,.func⟩),
 (334,⟨(.fn2 s7 s0 (.int .i64)),8,.func⟩),
 (371,⟨(.list (.int .i64)),24,.slice 3⟩)]
def X0:Ctx:={ tys:=tys,fns:=[],frz:=[],lps:=[],jns:=[],rjs:=[] }
theorem Qpq:QI Tryz.prog X0:=Qrj ⟨tyN Tryz.type2 ⟨Tryz.underlying2,rfl⟩,
 tyN Tryz.type3 ⟨Tryz.underlying3,rfl⟩,
 tyN Tryz.type4 ⟨Tryz.underlying4,rfl⟩,
 tyN Tryz.type5 ⟨Tryz.underlying5,rfl⟩,
 tyN Tryz.type9 ⟨Tryz.underlying9,rfl⟩,
 tyN Tryz.type22 ⟨Tryz.underlying22,_,rfl,rfl⟩,
 tyN Tryz.type23 ⟨Tryz.underlying23,_,rfl,rfl⟩,
 ⟨⟨Tryz.t25,Tryz.type25,rfl,by decide,by decide,rfl⟩,⟨⟨_,Tryz.underlying25,rfl,by simp⟩,⟨_,_,rfl,rfl,⟨_,rfl,rfl⟩,⟨rfl,_,rfl,rfl⟩⟩,by decide,Tryz.eqGuardType25,Tryz.stoodInHeld25⟩⟩,
 tyN Tryz.type26 ⟨Tryz.underlying26,_,rfl,rfl⟩,
 tyN Tryz.type27 ⟨Tryz.underlying27,_,rfl,rfl⟩,
 tyN Tryz.type28 ⟨Tryz.underlying28,_,rfl,rfl⟩,
 tyN Tryz.type29 ⟨Tryz.underlying29,_,rfl,rfl⟩,
 ⟨⟨Tryz.t31,Tryz.type31,rfl,by decide,by decide,rfl⟩,⟨⟨_,Tryz.underlying31,rfl,by simp⟩,⟨_,_,rfl,rfl,⟨_,rfl,rfl⟩,⟨_,_,rfl,rfl,⟨_,rfl,rfl⟩,⟨_,_,rfl,rfl,⟨_,rfl,rfl⟩,⟨rfl,_,rfl,rfl⟩⟩⟩⟩,by decide,Tryz.eqGuardType31,Tryz.stoodInHeld31⟩⟩,
 tyN Tryz.type32 ⟨Tryz.underlying32,_,rfl,rfl⟩,
 ⟨⟨Tryz.t34,Tryz.type34,rfl,by decide,by decide,rfl⟩,⟨⟨_,Tryz.underlying34,rfl,by simp⟩,⟨_,_,rfl,rfl,⟨_,rfl,rfl⟩,⟨_,_,rfl,rfl,⟨_,rfl,rfl⟩,⟨_,_,rfl,rfl,⟨_,rfl,rfl⟩,⟨_,_,rfl,rfl,⟨_,rfl,rfl⟩,⟨rfl,_,rfl,rfl⟩⟩⟩⟩⟩,by decide,Tryz.eqGuardType34,Tryz.stoodInHeld34⟩⟩,
 tyN Tryz.type37 ⟨Tryz.underlying37,_,rfl,rfl⟩,
 ⟨⟨Tryz.t39,Tryz.type39,rfl,by decide,by decide,rfl⟩,⟨⟨_,Tryz.underlying39,rfl,by simp⟩,⟨_,_,rfl,rfl,⟨_,rfl,rfl⟩,⟨rfl,_,rfl,rfl⟩⟩,by decide,Tryz.eqGuardType39,Tryz.stoodInHeld39⟩⟩,
 tyN Tryz.type40 ⟨Tryz.underlying40,_,rfl,rfl⟩,
 tyN Tryz.type41 ⟨Tryz.underlying41,_,rfl,rfl⟩,
 tyN Tryz.type42 ⟨Tryz.underlying42,_,rfl,rfl⟩,
 ⟨⟨Tryz.t44,Tryz.type44,rfl,by decide,by decide,rfl⟩,⟨⟨_,Tryz.underlying44,rfl,by simp⟩,⟨_,_,rfl,rfl,⟨_,rfl,rfl⟩,⟨_,_,rfl,rfl,⟨_,rfl,rfl⟩,⟨_,_,rfl,rfl,⟨_,rfl,rfl⟩,⟨rfl,_,rfl,rfl⟩⟩⟩⟩,by decide,Tryz.eqGuardType44,Tryz.stoodInHeld44⟩⟩,
 tyN Tryz.type45 ⟨Tryz.underlying45,_,rfl,rfl⟩,
 ⟨⟨Tryz.t47,Tryz.type47,rfl,by decide,by decide,rfl⟩,⟨⟨_,Tryz.underlying47,rfl,by simp⟩,⟨_,_,rfl,rfl,⟨_,rfl,rfl⟩,⟨_,_,rfl,rfl,⟨_,rfl,rfl⟩,⟨_,_,rfl,rfl,⟨_,rfl,rfl⟩,⟨_,_,rfl,rfl,⟨_,rfl,rfl⟩,⟨rfl,_,rfl,rfl⟩⟩⟩⟩⟩,by decide,Tryz.eqGuardType47,Tryz.stoodInHeld47⟩⟩,
 ⟨⟨Tryz.t57,Tryz.type57,rfl,by decide,by decide,trivial⟩,⟨Tryz.underlying57,rfl⟩⟩,
 tyN Tryz.type67 ⟨Tryz.underlying67,_,rfl,rfl⟩,
 ⟨⟨Tryz.t69,Tryz.type69,rfl,by decide,by decide,rfl⟩,⟨⟨_,Tryz.underlying69,rfl,by simp⟩,⟨_,_,rfl,rfl,⟨_,rfl,rfl⟩,⟨_,_,rfl,rfl,⟨_,rfl,rfl⟩,⟨rfl,_,rfl,rfl⟩⟩⟩,by decide,Tryz.eqGuardType69,Tryz.stoodInHeld69⟩⟩,
 ⟨⟨Tryz.t71,Tryz.type71,rfl,by decide,by decide,rfl⟩,⟨⟨_,Tryz.underlying71,rfl,by simp⟩,⟨_,_,rfl,rfl,⟨_,rfl,rfl⟩,⟨_,_,rfl,rfl,⟨_,rfl,rfl⟩,⟨_,_,rfl,rfl,⟨_,rfl,rfl⟩,⟨rfl,_,rfl,rfl⟩⟩⟩⟩,by decide,Tryz.eqGuardType71,Tryz.stoodInHeld71⟩⟩,
 ⟨⟨Tryz.t76,Tryz.type76,rfl,by decide,by decide,trivial⟩,⟨⟨_,_,_,Tryz.underlying76⟩,.inr ⟨_,_,_,rfl⟩⟩⟩,
 tyN Tryz.type86 ⟨Tryz.underlying86,_,rfl,rfl⟩,
 ⟨⟨Tryz.t88,Tryz.type88,rfl,by decide,by decide,rfl⟩,⟨⟨_,Tryz.underlying88,rfl,by simp⟩,⟨_,_,rfl,rfl,⟨_,rfl,rfl⟩,⟨_,_,rfl,rfl,⟨_,rfl,rfl⟩,⟨rfl,_,rfl,rfl⟩⟩⟩,by decide,Tryz.eqGuardType88,Tryz.stoodInHeld88⟩⟩,
 ⟨⟨Tryz.t94,Tryz.type94,rfl,by decide,by decide,rfl⟩,⟨⟨_,Tryz.underlying94,rfl,by simp⟩,⟨_,_,rfl,rfl,⟨_,rfl,rfl⟩,⟨_,_,rfl,rfl,⟨_,rfl,rfl⟩,⟨rfl,_,rfl,rfl⟩⟩⟩,by decide,Tryz.eqGuardType94,Tryz.stoodInHeld94⟩⟩,
 ⟨⟨Tryz.t96,Tryz.type96,rfl,by decide,by decide,rfl⟩,⟨⟨_,Tryz.underlying96,rfl,by simp⟩,⟨_,_,rfl,rfl,⟨_,rfl,rfl⟩,⟨_,_,rfl,rfl,⟨_,rfl,rfl⟩,⟨rfl,_,rfl,rfl⟩⟩⟩,by decide,Tryz.eqGuardType96,Tryz.stoodInHeld96⟩⟩,
 ⟨⟨Tryz.t103,Tryz.type103,rfl,by decide,by decide,rfl⟩,⟨⟨_,Tryz.underlying103,rfl,by simp⟩,⟨_,_,rfl,rfl,⟨_,rfl,rfl⟩,⟨rfl,_,rfl,rfl⟩⟩,by decide,Tryz.eqGuardType103,Tryz.stoodInHeld103⟩⟩,
 ⟨⟨Tryz.t104,Tryz.type104,rfl,by decide,by decide,trivial⟩,⟨⟨_,_,_,Tryz.underlying104⟩,.inl ⟨_,_,_,rfl⟩⟩⟩,
 ⟨⟨Tryz.t109,Tryz.type109,rfl,by decide,by decide,rfl⟩,⟨⟨_,Tryz.underlying109,rfl,by simp⟩,⟨_,_,rfl,rfl,⟨_,rfl,rfl⟩,⟨_,_,rfl,rfl,⟨_,rfl,rfl⟩,⟨_,_,rfl,rfl,⟨_,rfl,rfl⟩,⟨rfl,_,rfl,rfl⟩⟩⟩⟩,by decide,Tryz.eqGuardType109,Tryz.stoodInHeld109⟩⟩,
 ⟨⟨Tryz.t119,Tryz.type119,rfl,by decide,by decide,trivial⟩,⟨⟨_,_,_,Tryz.underlying119⟩,.inr ⟨_,_,_,rfl⟩⟩⟩,
 ⟨⟨Tryz.t127,Tryz.type127,rfl,by decide,by decide,rfl⟩,⟨⟨_,Tryz.underlying127,rfl,by simp⟩,⟨_,_,rfl,rfl,⟨_,rfl,rfl⟩,⟨rfl,_,rfl,rfl⟩⟩,by decide,Tryz.eqGuardType127,Tryz.stoodInHeld127⟩⟩,
 ⟨⟨Tryz.t129,Tryz.type129,rfl,by decide,by decide,rfl⟩,⟨⟨_,Tryz.underlying129,rfl,by simp⟩,⟨_,_,rfl,rfl,⟨_,rfl,rfl⟩,⟨_,_,rfl,rfl,⟨_,rfl,rfl⟩,⟨rfl,_,rfl,rfl⟩⟩⟩,by decide,Tryz.eqGuardType129,Tryz.stoodInHeld129⟩⟩,
 ⟨⟨Tryz.t131,Tryz.type131,rfl,by decide,by decide,rfl⟩,⟨⟨_,Tryz.underlying131,rfl,by simp⟩,⟨_,_,rfl,rfl,⟨_,rfl,rfl⟩,⟨rfl,_,rfl,rfl⟩⟩,by decide,Tryz.eqGuardType131,Tryz.stoodInHeld131⟩⟩,
 ⟨⟨Tryz.t133,Tryz.type133,rfl,by decide,by decide,rfl⟩,⟨⟨_,Tryz.underlying133,rfl,by simp⟩,⟨_,_,rfl,rfl,⟨_,rfl,rfl⟩,⟨_,_,rfl,rfl,⟨_,rfl,rfl⟩,⟨_,_,rfl,rfl,⟨_,rfl,rfl⟩,⟨rfl,_,rfl,rfl⟩⟩⟩⟩,by decide,Tryz.eqGuardType133,Tryz.stoodInHeld133⟩⟩,
 ⟨⟨Tryz.t137,Tryz.type137,rfl,by decide,by decide,rfl⟩,⟨⟨_,Tryz.underlying137,rfl,by simp⟩,⟨_,_,rfl,rfl,⟨_,rfl,rfl⟩,⟨rfl,_,rfl,rfl⟩⟩,by decide,Tryz.eqGuardType137,Tryz.stoodInHeld137⟩⟩,
 ⟨⟨Tryz.t147,Tryz.type147,rfl,by decide,by decide,rfl⟩,⟨⟨_,Tryz.underlying147,rfl,by simp⟩,⟨_,_,rfl,rfl,⟨_,rfl,rfl⟩,⟨rfl,_,rfl,rfl⟩⟩,by decide,Tryz.eqGuardType147,Tryz.stoodInHeld147⟩⟩,
 ⟨⟨Tryz.t148,Tryz.type148,rfl,by decide,by decide,rfl⟩,⟨⟨_,Tryz.underlying148,rfl,by simp⟩,⟨_,_,rfl,rfl,⟨_,rfl,rfl⟩,⟨rfl,_,rfl,rfl⟩⟩,by decide,Tryz.eqGuardType148,Tryz.stoodInHeld148⟩⟩,
 ⟨⟨Tryz.t149,Tryz.type149,rfl,by decide,by decide,rfl⟩,⟨⟨_,Tryz.underlying149,rfl,by simp⟩,⟨_,_,rfl,rfl,⟨_,rfl,rfl⟩,⟨_,_,rfl,rfl,⟨_,rfl,rfl⟩,⟨rfl,_,rfl,rfl⟩⟩⟩,by decide,Tryz.eqGuardType149,Tryz.stoodInHeld149⟩⟩,
 ⟨⟨Tryz.t151,Tryz.type151,rfl,by decide,by decide,rfl⟩,⟨⟨_,Tryz.underlying151,rfl,by simp⟩,⟨_,_,rfl,rfl,⟨_,rfl,rfl⟩,⟨rfl,_,rfl,rfl⟩⟩,by decide,Tryz.eqGuardType151,Tryz.stoodInHeld151⟩⟩,
 ⟨⟨Tryz.t153,Tryz.type153,rfl,by decide,by decide,rfl⟩,⟨⟨_,Tryz.underlying153,rfl,by simp⟩,⟨_,_,rfl,rfl,⟨_,rfl,rfl⟩,⟨_,_,rfl,rfl,⟨_,rfl,rfl⟩,⟨_,_,rfl,rfl,⟨_,rfl,rfl⟩,⟨rfl,_,rfl,rfl⟩⟩⟩⟩,by decide,Tryz.eqGuardType153,Tryz.stoodInHeld153⟩⟩,
 ⟨⟨Tryz.t156,Tryz.type156,rfl,by decide,by decide,rfl⟩,⟨⟨_,Tryz.underlying156,rfl,by simp⟩,⟨_,_,rfl,rfl,⟨_,rfl,rfl⟩,⟨rfl,_,rfl,rfl⟩⟩,by decide,Tryz.eqGuardType156,Tryz.stoodInHeld156⟩⟩,
 ⟨⟨Tryz.t159,Tryz.type159,rfl,by decide,by decide,rfl⟩,⟨⟨_,Tryz.underlying159,rfl,by simp⟩,⟨_,_,rfl,rfl,⟨_,rfl,rfl⟩,⟨rfl,_,rfl,rfl⟩⟩,by decide,Tryz.eqGuardType159,Tryz.stoodInHeld159⟩⟩,
 ⟨⟨Tryz.t169,Tryz.type169,rfl,by decide,by decide,trivial⟩,⟨⟨_,_,_,Tryz.underlying169⟩,.inl ⟨_,_,_,rfl⟩⟩⟩,
 ⟨⟨Tryz.t173,Tryz.type173,rfl,by decide,by decide,trivial⟩,⟨⟨_,_,_,Tryz.underlying173⟩,.inr ⟨_,_,_,rfl⟩⟩⟩,
 ⟨⟨Tryz.t179,Tryz.type179,rfl,by decide,by decide,rfl⟩,⟨⟨_,Tryz.underlying179,rfl,by simp⟩,⟨_,_,rfl,rfl,⟨_,rfl,rfl⟩,⟨rfl,_,rfl,rfl⟩⟩,by decide,Tryz.eqGuardType179,Tryz.stoodInHeld179⟩⟩,
 ⟨⟨Tryz.t189,Tryz.type189,rfl,by decide,by decide,rfl⟩,⟨⟨_,Tryz.underlying189,rfl,by simp⟩,⟨_,_,rfl,rfl,⟨_,rfl,rfl⟩,⟨rfl,_,rfl,rfl⟩⟩,by decide,Tryz.eqGuardType189,Tryz.stoodInHeld189⟩⟩,
 tyN Tryz.type191 ⟨Tryz.underlying191,_,rfl,rfl⟩,
 tyN Tryz.type211 ⟨Tryz.underlying211,_,rfl,rfl⟩,
 ⟨⟨Tryz.t213,Tryz.type213,rfl,by decide,by decide,rfl⟩,⟨⟨_,Tryz.underlying213,rfl,by simp⟩,⟨_,_,rfl,rfl,⟨_,rfl,rfl⟩,⟨_,_,rfl,rfl,⟨_,rfl,rfl⟩,⟨_,_,rfl,rfl,⟨_,rfl,rfl⟩,⟨rfl,_,rfl,rfl⟩⟩⟩⟩,by decide,Tryz.eqGuardType213,Tryz.stoodInHeld213⟩⟩,
 ⟨⟨Tryz.t215,Tryz.type215,rfl,by decide,by decide,rfl⟩,⟨⟨_,Tryz.underlying215,rfl,by simp⟩,⟨_,_,rfl,rfl,⟨_,rfl,rfl⟩,⟨rfl,_,rfl,rfl⟩⟩,by decide,Tryz.eqGuardType215,Tryz.stoodInHeld215⟩⟩,
 ⟨⟨Tryz.t218,Tryz.type218,rfl,by decide,by decide,rfl⟩,⟨⟨_,Tryz.underlying218,rfl,by simp⟩,⟨_,_,rfl,rfl,⟨_,rfl,rfl⟩,⟨rfl,_,rfl,rfl⟩⟩,by decide,Tryz.eqGuardType218,Tryz.stoodInHeld218⟩⟩,
 tyN Tryz.type226 ⟨Tryz.underlying226,rfl⟩,
 ⟨⟨Tryz.t285,Tryz.type285,rfl,by decide,by decide,trivial⟩,⟨⟨_,_,_,Tryz.underlying285⟩,.inl ⟨_,_,_,rfl⟩⟩⟩,
 ⟨⟨Tryz.t292,Tryz.type292,rfl,by decide,by decide,trivial⟩,⟨⟨_,_,_,Tryz.underlying292⟩,.inl ⟨_,_,_,rfl⟩⟩⟩,
 ⟨⟨Tryz.t295,Tryz.type295,rfl,by decide,by decide,trivial⟩,⟨⟨_,_,_,Tryz.underlying295⟩,.inr ⟨_,_,_,rfl⟩⟩⟩,
 tyN Tryz.type307 ⟨Tryz.underlying307,rfl⟩,
 tyN Tryz.type314 ⟨Tryz.underlying314,_,rfl,rfl⟩,
 ⟨⟨Tryz.t329,Tryz.type329,rfl,by decide,by decide,trivial⟩,⟨⟨_,_,_,Tryz.underlying329⟩,.inr ⟨_,_,_,rfl⟩⟩⟩,
 ⟨⟨Tryz.t334,Tryz.type334,rfl,by decide,by decide,trivial⟩,⟨⟨_,_,_,Tryz.underlying334⟩,.inr ⟨_,_,_,rfl⟩⟩⟩,
 tyN Tryz.type371 ⟨Tryz.underlying371,_,rfl,rfl⟩,
 trivial⟩
theorem follows:Tryz.prog.follows .mixedOrders=true:=by kernel_rfl
end GL
end Go.Dx
set_option maxRecDepth 100000
set_option maxHeartbeats 0
namespace Go.Dx
open Go.Proofs
namespace GL
abbrev t0 : Type := Int × List Int
abbrev t1 : Type := Int × t0
abbrev t2 : Type := Int × t1
abbrev t3 : Type := Int × List UInt8
abbrev t4 : Type := Int × t2
abbrev t5 : Type := Int × Int
abbrev t6 : Type := List Int × t5
abbrev t7 : Type := Int × t6
abbrev t8 : Type := Int × Bool
abbrev t9 : Type := t7 × t8
abbrev t10 : Type := t5 × t9
abbrev t11 : Type := Int × t5
abbrev t12 : Type := List t5 × List t7
abbrev t13 : Type := Int × t12
abbrev t14 : Type := Int × t13
abbrev t15 : Type := Int × t14
abbrev t16 : Type := Int × List t10
abbrev t17 : Type := List (List t10) × List t11
abbrev t18 : Type := Int × t17
abbrev t19 : Type := List t10 × List t11
abbrev t20 : Type := Int × t19
abbrev t21 : Type := Int × t20
abbrev t22 : Type := t18 × t21
abbrev t23 : Type := Int × t22
abbrev t24 : Type := Int × t23
abbrev t25 : Type := List (List UInt8) × List t5
abbrev t26 : Type := t21 × List t18
abbrev t27 : Type := List Int × t26
abbrev t28 : Type := List t11 × t27
abbrev t29 : Type := t25 × t28
def Qbd (I:List (List UInt8)) (x1:Int):Option (Int):=
 bif (decide ((IntKind.wrap .i64 (x1 - (List.length I:Int)):Int)<0)) then
 some (-1)
 else
 (Qc (S:=Int×Int) (X:=(Int)⊕(Int)) (fun s5=>
 bif (decide ((s5.2:Int)<(List.length I:Int))) then
 bif (inB s5.2 I) then
 bif (decide ((IntKind.wrap .i64 (s5.1 - (List.length (List.getD I (Int.toNat s5.2) []):Int)):Int)<0)) then
 some (Sum.inr (Sum.inr (-1)))
 else
 some (Sum.inl (IntKind.wrap .i64 (s5.1 - (List.length (List.getD I (Int.toNat s5.2) []):Int)),IntKind.wrap .i64 (s5.2+1)))
 else none
 else
 some (Sum.inr (Sum.inl s5.1))) (IntKind.wrap .i64 (x1 - (List.length I:Int)),0)).bind fun J=>
 Sum.elim (fun (U:Int)=>
 some U) (fun (j8:Int)=>
 some j8) J
def QaY (I:List t5) (x1:Int):Option (Int):=
 bif (decide ((IntKind.wrap .i64 (x1 - (List.length I:Int)):Int)<0)) then
 some (-1)
 else
 some (IntKind.wrap .i64 (x1 - (List.length I:Int)))
def QbL (I:t25) (x1:Int):Option (Int):=
 (Qbd I.1 x1).bind fun J=>
 bif (decide ((J:Int)<0)) then
 some (-1)
 else
 (QaY I.2 J).bind fun U=>
 bif (decide ((U:Int)<0)) then
 some (-1)
 else
 some U
def QaM (I:List t11) (x1:Int):Option (Int):=
 bif (decide ((IntKind.wrap .i64 (x1 - (List.length I:Int)):Int)<0)) then
 some (-1)
 else
 some (IntKind.wrap .i64 (x1 - (List.length I:Int)))
def Yn (I:List Int) (x1:Int):Option (Int):=
 bif (decide ((IntKind.wrap .i64 (x1 - (List.length I:Int)):Int)<0)) then
 some (-1)
 else
 some (IntKind.wrap .i64 (x1 - (List.length I:Int)))
def Qdv (J:t6) (x1:Int):Option (Int):=
 (Yn J.1 x1).bind fun I=>
 bif (decide ((I:Int)<0)) then
 some (-1)
 else
 some I
def Qen (J:t7) (x1:Int):Option (Int):=
 (Qdv J.2 x1).bind fun I=>
 bif (decide ((I:Int)<0)) then
 some (-1)
 else
 some I
def QdD (J:t10) (x1:Int):Option (Int):=
 (Qen J.2.1 x1).bind fun I=>
 bif (decide ((I:Int)<0)) then
 some (-1)
 else
 some I
def QaW (I:List t10) (x1:Int):Option (Int):=
 bif (decide ((IntKind.wrap .i64 (x1 - (List.length I:Int)):Int)<0)) then
 some (-1)
 else
 (Qc (S:=Int×Int) (X:=(Int)⊕(Int)) (fun s10=>
 bif (decide ((s10.2:Int)<(List.length I:Int))) then
 bif (inB s10.2 I) then
 (QdD (List.getD I (Int.toNat s10.2) ((0,0),((0,([],(0,0))),(0,false)))) s10.1).bind fun J=>
 bif (decide ((J:Int)<0)) then
 some (Sum.inr (Sum.inr (-1)))
 else
 some (Sum.inl (J,IntKind.wrap .i64 (s10.2+1)))
 else none
 else
 some (Sum.inr (Sum.inl s10.1))) (IntKind.wrap .i64 (x1 - (List.length I:Int)),0)).bind fun U=>
 Sum.elim (fun (j13:Int)=>
 some j13) (fun (j14:Int)=>
 some j14) U
def Yc (I:List t11) (x1:Int):Option (Int):=
 bif (decide ((IntKind.wrap .i64 (x1 - (List.length I:Int)):Int)<0)) then
 some (-1)
 else
 some (IntKind.wrap .i64 (x1 - (List.length I:Int)))
def YP (I:t21) (x1:Int):Option (Int):=
 (QaW I.2.2.1 x1).bind fun J=>
 bif (decide ((J:Int)<0)) then
 some (-1)
 else
 (Yc I.2.2.2 J).bind fun U=>
 bif (decide ((U:Int)<0)) then
 some (-1)
 else
 some U
def QbK (I:List (List t10)) (x1:Int):Option (Int):=
 bif (decide ((IntKind.wrap .i64 (x1 - (List.length I:Int)):Int)<0)) then
 some (-1)
 else
 (Qc (S:=Int×Int) (X:=(Int)⊕(Int)) (fun s10=>
 bif (decide ((s10.2:Int)<(List.length I:Int))) then
 bif (inB s10.2 I) then
 (QaW (List.getD I (Int.toNat s10.2) []) s10.1).bind fun J=>
 bif (decide ((J:Int)<0)) then
 some (Sum.inr (Sum.inr (-1)))
 else
 some (Sum.inl (J,IntKind.wrap .i64 (s10.2+1)))
 else none
 else
 some (Sum.inr (Sum.inl s10.1))) (IntKind.wrap .i64 (x1 - (List.length I:Int)),0)).bind fun U=>
 Sum.elim (fun (j13:Int)=>
 some j13) (fun (j14:Int)=>
 some j14) U
def Qdg (I:t18) (x1:Int):Option (Int):=
 (QbK I.2.1 x1).bind fun J=>
 bif (decide ((J:Int)<0)) then
 some (-1)
 else
 (Yc I.2.2 J).bind fun U=>
 bif (decide ((U:Int)<0)) then
 some (-1)
 else
 some U
def Yf (I:List t18) (x1:Int):Option (Int):=
 bif (decide ((IntKind.wrap .i64 (x1 - (List.length I:Int)):Int)<0)) then
 some (-1)
 else
 (Qc (S:=Int×Int) (X:=(Int)⊕(Int)) (fun s10=>
 bif (decide ((s10.2:Int)<(List.length I:Int))) then
 bif (inB s10.2 I) then
 (Qdg (List.getD I (Int.toNat s10.2) (0,([],[]))) s10.1).bind fun J=>
 bif (decide ((J:Int)<0)) then
 some (Sum.inr (Sum.inr (-1)))
 else
 some (Sum.inl (J,IntKind.wrap .i64 (s10.2+1)))
 else none
 else
 some (Sum.inr (Sum.inl s10.1))) (IntKind.wrap .i64 (x1 - (List.length I:Int)),0)).bind fun U=>
 Sum.elim (fun (j13:Int)=>
 some j13) (fun (j14:Int)=>
 some j14) U
def Qct (I:t29) (x1:Int):Option (Int):=
 (QbL I.1 x1).bind fun U=>
 bif (decide ((U:Int)<0)) then
 some (-1)
 else
 (QaM I.2.1 U).bind fun y7=>
 bif (decide ((y7:Int)<0)) then
 some (-1)
 else
 (Yn I.2.2.1 y7).bind fun y8=>
 bif (decide ((y8:Int)<0)) then
 some (-1)
 else
 (YP I.2.2.2.1 y8).bind fun y9=>
 bif (decide ((y9:Int)<0)) then
 some (-1)
 else
 (Yf I.2.2.2.2 y9).bind fun J=>
 bif (decide ((J:Int)<0)) then
 some (-1)
 else
 some J
def Qc7 (I:List (List UInt8)) (x1:List UInt8):Option (Int):=
 (Qc (S:=Int) (X:=(Unit)⊕(Int)) (fun s5=>
 bif (decide ((s5:Int)<(List.length I:Int))) then
 bif (inB s5 I) then
 bif (decide ((List.getD I (Int.toNat s5) []:List UInt8)=x1)) then
 some (Sum.inr (Sum.inr (IntKind.wrap .i64 (s5+1))))
 else
 some (Sum.inl (IntKind.wrap .i64 (s5+1)))
 else none
 else
 some (Sum.inr (Sum.inl ()))) 0).bind fun J=>
 Sum.elim (fun (j7:Unit)=>
 some 0) (fun (U:Int)=>
 some U) J
def QL (I:Int) (x1:Int) (x2:Int):Option (Bool):=
 (bif (decide ((x1:Int)<=I)) then
 some (decide ((I:Int)<=x2))
 else
 some false:Option (Bool)).bind fun J=>
 some J
def JT (I:Int):Option (Bool):=
 (QL I 1 999).bind fun J=>
 some J
def J3 (I:List t5) (x1:t5):Option (Bool):=
 (Qc (S:=Int) (X:=(Unit)⊕(Bool)) (fun s5=>
 bif (decide ((s5:Int)<(List.length I:Int))) then
 bif (inB s5 I) then
 bif (Sh.beq (.prod (.int .i64) (.int .i64)) (List.getD I (Int.toNat s5) (0,0)) x1) then
 some (Sum.inr (Sum.inr true))
 else
 some (Sum.inl (IntKind.wrap .i64 (s5+1)))
 else none
 else
 some (Sum.inr (Sum.inl ()))) 0).bind fun J=>
 Sum.elim (fun (j7:Unit)=>
 some false) (fun (U:Bool)=>
 some U) J
def YJ (I:t25):Option (Int):=
 (bif (decide ((60:Int)<(List.length I.1:Int))) then
 some true
 else
 some (decide ((120:Int)<(List.length I.2:Int))):Option (Bool)).bind fun j34=>
 bif j34 then
 some 2
 else
 (Qc (S:=Int) (X:=(Unit)⊕(Int)) (fun J=>
 bif (decide ((J:Int)<(List.length I.1:Int))) then
 (bif (inB J I.1) then
 bif (decide (((List.length (List.getD I.1 (Int.toNat J) []):Int):Int)<1)) then
 some true
 else
 bif (inB J I.1) then
 some (decide ((300:Int)<(List.length (List.getD I.1 (Int.toNat J) []):Int)))
 else none
 else none:Option (Bool)).bind fun j40=>
 bif j40 then
 some (Sum.inr (Sum.inr 2))
 else
 bif (QO 0 J I.1) then
 bif (inB J I.1) then
 (Qc7 (cut 0 J I.1) (List.getD I.1 (Int.toNat J) [])).bind fun y41=>
 bif (decide ((0:Int)<y41)) then
 some (Sum.inr (Sum.inr 7))
 else
 some (Sum.inl (IntKind.wrap .i64 (J+1)))
 else none
 else none
 else
 some (Sum.inr (Sum.inl ()))) 0).bind fun j42=>
 Sum.elim (fun (j43:Unit)=>
 (Qc (S:=Int) (X:=(Unit)⊕(Int)) (fun U=>
 bif (decide ((U:Int)<(List.length I.2:Int))) then
 (bif (inB U I.2) then
 (JT (List.getD I.2 (Int.toNat U) (0,0)).1).bind fun y60=>
 bif (!y60) then
 some true
 else
 bif (inB U I.2) then
 (QL (List.getD I.2 (Int.toNat U) (0,0)).2 1 (List.length I.1:Int)).bind fun y61=>
 some (!y61)
 else none
 else none:Option (Bool)).bind fun j62=>
 bif j62 then
 some (Sum.inr (Sum.inr 3))
 else
 bif (QO 0 U I.2) then
 bif (inB U I.2) then
 (J3 (cut 0 U I.2) (List.getD I.2 (Int.toNat U) (0,0))).bind fun y63=>
 bif y63 then
 some (Sum.inr (Sum.inr 7))
 else
 some (Sum.inl (IntKind.wrap .i64 (U+1)))
 else none
 else none
 else
 some (Sum.inr (Sum.inl ()))) 0).bind fun j64=>
 Sum.elim (fun (j65:Unit)=>
 some 0) (fun (j66:Int)=>
 some j66) j64) (fun (j44:Int)=>
 some j44) j42
def YS (I:List t11) (x1:Int):Option (Int):=
 (Qc (S:=Int) (X:=(Unit)⊕(Int)) (fun s5=>
 bif (decide ((s5:Int)<(List.length I:Int))) then
 bif (inB s5 I) then
 bif (decide (((List.getD I (Int.toNat s5) (0,(0,0))).1:Int)=x1)) then
 some (Sum.inr (Sum.inr s5))
 else
 some (Sum.inl (IntKind.wrap .i64 (s5+1)))
 else none
 else
 some (Sum.inr (Sum.inl ()))) 0).bind fun J=>
 Sum.elim (fun (j7:Unit)=>
 some (-1)) (fun (U:Int)=>
 some U) J
def Qdj (J:List t11) (x1:t11):Option (Int):=
 ((QL x1.1 1 60).bind fun U=>
 bif (!U) then
 some true
 else
 (QL x1.2.2 1 40).bind fun y15=>
 some (!y15):Option (Bool)).bind fun j16=>
 bif j16 then
 some 3
 else
 (YS J x1.1).bind fun y17=>
 bif (decide ((0:Int)<=y17)) then
 some 7
 else
 (bif (!decide ((x1.2.1:Int)=0)) then
 (YS J x1.2.1).bind fun I=>
 bif (decide ((I:Int)<0)) then
 some (Sum.inr 4)
 else
 bif (inB I J) then
 some (Sum.inl (List.getD J (Int.toNat I) (0,(0,0))).2.2)
 else none
 else
 some (Sum.inl 0):Option ((Int)⊕(Int))).bind fun j20=>
 Sum.elim (fun (j21:Int)=>
 bif (!decide ((x1.2.2:Int)=IntKind.wrap .i64 (j21+1))) then
 some 1
 else
 some 0) (fun (j22:Int)=>
 some j22) j20
def QcG (I:List t11):Option (Int):=
 bif (decide ((60:Int)<(List.length I:Int))) then
 some 2
 else
 (Qc (S:=Int) (X:=(Unit)⊕(Int)) (fun s10=>
 bif (decide ((s10:Int)<(List.length I:Int))) then
 bif (QO 0 s10 I) then
 bif (inB s10 I) then
 (Qdj (cut 0 s10 I) (List.getD I (Int.toNat s10) (0,(0,0)))).bind fun J=>
 bif (!decide ((J:Int)=0)) then
 some (Sum.inr (Sum.inr J))
 else
 some (Sum.inl (IntKind.wrap .i64 (s10+1)))
 else none
 else none
 else
 some (Sum.inr (Sum.inl ()))) 0).bind fun U=>
 Sum.elim (fun (j13:Unit)=>
 some 0) (fun (j14:Int)=>
 some j14) U
def QeO (I:t25) (x1:Int):Option (Bool):=
 (QL x1 1 (List.length I.1:Int)).bind fun J=>
 some J
def Qbs (I:t25) (x1:Int):Option (t3):=
 (YJ I).bind fun J=>
 bif (!decide ((J:Int)=0)) then
 some (J,[])
 else
 (QeO I x1).bind fun U=>
 bif (!U) then
 some (3,[])
 else
 bif (inB (IntKind.wrap .i64 (x1 - 1)) I.1) then
 some (0,List.getD I.1 (Int.toNat (IntKind.wrap .i64 (x1 - 1))) [])
 else none
def ZO (I:List UInt8) (x1:Int):Option (List (List UInt8)):=
 (Qc (S:=List (List UInt8)×Int×Int) (X:=List (List UInt8)) (fun s13=>
 bif (decide ((s13.2.2:Int)<=(List.length I:Int))) then
 (bif (decide ((s13.2.2:Int)=(List.length I:Int))) then
 some true
 else
 bif (inB s13.2.2 I) then
 some (decide ((((List.getD I (Int.toNat s13.2.2) 0).toNat:Int):Int)=x1))
 else none:Option (Bool)).bind fun U=>
 (bif U then
 bif (QO s13.2.1 s13.2.2 I) then
 bif decide (List.length s13.1+List.length ([cut s13.2.1 s13.2.2 I]:List (List UInt8))<=LIM) then
 some (List.append s13.1 ([cut s13.2.1 s13.2.2 I]:List (List UInt8)),IntKind.wrap .i64 (s13.2.2+1))
 else none
 else none
 else
 some (s13.1,s13.2.1):Option (List (List UInt8)×Int)).bind fun J=>
 some (Sum.inl (J.1,(J.2,IntKind.wrap .i64 (s13.2.2+1))))
 else
 some (Sum.inr s13.1)) (([]:List (List UInt8)),(0,0))).bind fun j16=>
 some j16
def Qm (I:List UInt8) (x1:Int):Option (Int×Bool):=
 (bif (decide (((List.length I:Int):Int)<1)) then
 some true
 else
 bif (decide ((x1:Int)<(List.length I:Int))) then
 some true
 else
 bif (decide ((1:Int)<(List.length I:Int))) then
 bif (inB 0 I) then
 some (decide ((((List.getD I (Int.toNat 0) 0).toNat:Int):Int)=48))
 else none
 else
 some false:Option (Bool)).bind fun j9=>
 bif j9 then
 some (0,false)
 else
 (Qc (S:=Int×Int) (X:=(Int)⊕(Int×Bool)) (fun s12=>
 bif (decide ((s12.2:Int)<(List.length I:Int))) then
 (bif (inB s12.2 I) then
 bif (decide ((((List.getD I (Int.toNat s12.2) 0).toNat:Int):Int)<48)) then
 some true
 else
 bif (inB s12.2 I) then
 some (decide ((57:Int)<((List.getD I (Int.toNat s12.2) 0).toNat:Int)))
 else none
 else none:Option (Bool)).bind fun U=>
 bif U then
 some (Sum.inr (Sum.inr (0,false)))
 else
 bif (inB s12.2 I) then
 some (Sum.inl (IntKind.wrap .i64 ((IntKind.wrap .i64 (s12.1 * 10))+(IntKind.wrap .i64 (IntKind.wrap .u8 (((List.getD I (Int.toNat s12.2) 0).toNat:Int) - 48)))),IntKind.wrap .i64 (s12.2+1)))
 else none
 else
 some (Sum.inr (Sum.inl s12.1))) (0,0)).bind fun j14=>
 Sum.elim (fun (j15:Int)=>
 some (j15,true)) (fun (J:Int×Bool)=>
 some (J.1,J.2)) j14
def QcH (I:List Int) (x1:Int):Option (Bool):=
 (Qc (S:=Int) (X:=(Unit)⊕(Bool)) (fun s5=>
 bif (decide ((s5:Int)<(List.length I:Int))) then
 bif (inB s5 I) then
 bif (decide ((List.getD I (Int.toNat s5) 0:Int)=x1)) then
 some (Sum.inr (Sum.inr true))
 else
 some (Sum.inl (IntKind.wrap .i64 (s5+1)))
 else none
 else
 some (Sum.inr (Sum.inl ()))) 0).bind fun J=>
 Sum.elim (fun (j7:Unit)=>
 some false) (fun (U:Bool)=>
 some U) J
def QcB (I:t2):Option (Int):=
 ((QL I.1 0 60).bind fun J=>
 bif (!J) then
 some true
 else
 (QL I.2.1 1 40).bind fun U=>
 bif (!U) then
 some true
 else
 (JT I.2.2.1).bind fun y23=>
 some (!y23):Option (Bool)).bind fun j24=>
 bif j24 then
 some 3
 else
 bif (!(Sh.beq .bool (decide ((I.1:Int)=0)) (decide ((I.2.1:Int)=1)))) then
 some 1
 else
 bif (decide ((6:Int)<(List.length I.2.2.2:Int))) then
 some 2
 else
 (Qc (S:=Int) (X:=(Unit)⊕(Int)) (fun s29=>
 bif (decide ((s29:Int)<(List.length I.2.2.2:Int))) then
 bif (inB s29 I.2.2.2) then
 (QL (List.getD I.2.2.2 (Int.toNat s29) 0) 1 60).bind fun y30=>
 bif (!y30) then
 some (Sum.inr (Sum.inr 3))
 else
 bif (QO 0 s29 I.2.2.2) then
 bif (inB s29 I.2.2.2) then
 (QcH (cut 0 s29 I.2.2.2) (List.getD I.2.2.2 (Int.toNat s29) 0)).bind fun y31=>
 bif y31 then
 some (Sum.inr (Sum.inr 7))
 else
 some (Sum.inl (IntKind.wrap .i64 (s29+1)))
 else none
 else none
 else none
 else
 some (Sum.inr (Sum.inl ()))) 0).bind fun j32=>
 Sum.elim (fun (j33:Unit)=>
 some 0) (fun (j34:Int)=>
 some j34) j32
def QcQ (x0:List UInt8):Option (t2×Bool):=
 (ZO x0 32).bind fun I=>
 (bif (!decide (((List.length I:Int):Int)=5)) then
 some true
 else
 bif (inB 0 I) then
 some (!decide ((List.getD I (Int.toNat 0) []:List UInt8)=[98,108,111,99,107]))
 else none:Option (Bool)).bind fun j23=>
 bif j23 then
 some ((0,(0,(0,[]))),false)
 else
 bif (inB 1 I) then
 (Qm (List.getD I (Int.toNat 1) []) 2).bind fun y24=>
 bif (inB 2 I) then
 (Qm (List.getD I (Int.toNat 2) []) 2).bind fun y25=>
 bif (inB 3 I) then
 (Qm (List.getD I (Int.toNat 3) []) 3).bind fun y26=>
 (bif y24.2 then
 bif y25.2 then
 some y26.2
 else
 some false
 else
 some false:Option (Bool)).bind fun j27=>
 bif (inB 4 I) then
 (ZO (List.getD I (Int.toNat 4) []) 43).bind fun y28=>
 (Qc (S:=Bool×Int×t2) (X:=Bool×t2) (fun J=>
 (bif (decide ((J.2.1:Int)<(List.length y28:Int))) then
 bif (inB 4 I) then
 some (!decide ((List.getD I (Int.toNat 4) []:List UInt8)=[45]))
 else none
 else
 some false:Option (Bool)).bind fun j36=>
 bif j36 then
 bif (inB J.2.1 y28) then
 (Qm (List.getD y28 (Int.toNat J.2.1) []) 2).bind fun y37=>
 (bif J.1 then
 some y37.2
 else
 some false:Option (Bool)).bind fun j38=>
 bif decide (List.length J.2.2.2.2.2+List.length ([y37.1]:List Int)<=LIM) then
 some (Sum.inl (j38,(IntKind.wrap .i64 (J.2.1+1),(J.2.2.1,(J.2.2.2.1,(J.2.2.2.2.1,List.append J.2.2.2.2.2 ([y37.1]:List Int)))))))
 else none
 else none
 else
 some (Sum.inr (J.1,J.2.2))) (j27,(0,(y24.1,(y25.1,(y26.1,[])))))).bind fun U=>
 (bif U.1 then
 (QcB U.2).bind fun y41=>
 some (decide ((y41:Int)=0),U.2)
 else
 some (false,U.2):Option (Bool×t2)).bind fun j42=>
 some (j42.2,j42.1)
 else none
 else none
 else none
 else none
def QaG (J:List UInt8):Option (t4):=
 (QcQ J).bind fun I=>
 bif (!I.2) then
 some (5,(0,(0,(0,[]))))
 else
 some (0,I.1)
def QaZ (J:t25) (x1:Int):Option (t4):=
 (Qbs J x1).bind fun I=>
 bif (!decide ((I.1:Int)=0)) then
 some (I.1,(0,(0,(0,[]))))
 else
 (QaG I.2).bind fun U=>
 some U
def Z3 (I:Int):Option (t24):=
 some (I,(0,((0,([],[])),(0,(0,([],[]))))))
def Jl (I:t6):Option (t6):=
 bif decide (List.length ([]:List Int)+List.length I.1<=LIM) then
 some (List.append ([]:List Int) I.1,I.2)
 else none
def Jh (I:List t10):Option (List t10):=
 (Qc (S:=List t10×Int) (X:=List t10) (fun s8=>
 bif (decide ((s8.2:Int)<(List.length I:Int))) then
 bif (inB s8.2 I) then
 (Jl (List.getD I (Int.toNat s8.2) ((0,0),((0,([],(0,0))),(0,false)))).2.1.2).bind fun U=>
 bif decide (List.length s8.1+List.length ([((List.getD I (Int.toNat s8.2) ((0,0),((0,([],(0,0))),(0,false)))).1,(((List.getD I (Int.toNat s8.2) ((0,0),((0,([],(0,0))),(0,false)))).2.1.1,U),(List.getD I (Int.toNat s8.2) ((0,0),((0,([],(0,0))),(0,false)))).2.2))]:List t10)<=LIM) then
 some (Sum.inl (List.append s8.1 ([((List.getD I (Int.toNat s8.2) ((0,0),((0,([],(0,0))),(0,false)))).1,(((List.getD I (Int.toNat s8.2) ((0,0),((0,([],(0,0))),(0,false)))).2.1.1,U),(List.getD I (Int.toNat s8.2) ((0,0),((0,([],(0,0))),(0,false)))).2.2))]:List t10),IntKind.wrap .i64 (s8.2+1)))
 else none
 else none
 else
 some (Sum.inr s8.1)) (([]:List t10),0)).bind fun J=>
 some J
def Qdf (I:t21):Option (t21):=
 (Jh I.2.2.1).bind fun J=>
 bif decide (List.length ([]:List t11)+List.length I.2.2.2<=LIM) then
 some (I.1,(I.2.1,(J,List.append ([]:List t11) I.2.2.2)))
 else none
def JD (I:List t5) (x1:t5):Option (Bool):=
 (Qc (S:=Int) (X:=(Unit)⊕(Bool)) (fun s5=>
 bif (decide ((s5:Int)<(List.length I:Int))) then
 bif (inB s5 I) then
 bif (Sh.beq (.prod (.int .i64) (.int .i64)) (List.getD I (Int.toNat s5) (0,0)) x1) then
 some (Sum.inr (Sum.inr true))
 else
 some (Sum.inl (IntKind.wrap .i64 (s5+1)))
 else none
 else
 some (Sum.inr (Sum.inl ()))) 0).bind fun J=>
 Sum.elim (fun (j7:Unit)=>
 some false) (fun (U:Bool)=>
 some U) J
def Qcf (J:t5):Option (Bool):=
 ((QL J.1 1 60).bind fun U=>
 bif U then
 (QL J.2 0 3).bind fun y9=>
 some y9
 else
 some false:Option (Bool)).bind fun I=>
 some I
def Yp (I:Int):Option (Bool):=
 (QL I 0 999).bind fun J=>
 some J
def JE (J:t6):Option (Int):=
 (QL (List.length J.1:Int) 1 3).bind fun U=>
 bif (!U) then
 some 2
 else
 (Qc (S:=Int) (X:=(Unit)⊕(Int)) (fun s21=>
 bif (decide ((s21:Int)<(List.length J.1:Int))) then
 bif (inB s21 J.1) then
 (JT (List.getD J.1 (Int.toNat s21) 0)).bind fun y22=>
 bif (!y22) then
 some (Sum.inr (Sum.inr 3))
 else
 some (Sum.inl (IntKind.wrap .i64 (s21+1)))
 else none
 else
 some (Sum.inr (Sum.inl ()))) 0).bind fun j23=>
 Sum.elim (fun (j24:Unit)=>
 ((QL J.2.1 1 (List.length J.1:Int)).bind fun y28=>
 bif (!y28) then
 some true
 else
 (Yp J.2.2).bind fun y29=>
 some (!y29):Option (Bool)).bind fun j30=>
 bif j30 then
 some 3
 else
 (Qc (S:=Int) (X:=(Unit)⊕(Int)) (fun I=>
 bif (decide ((I:Int)<(List.length J.1:Int))) then
 bif (inB I J.1) then
 bif (inB (IntKind.wrap .i64 (I - 1)) J.1) then
 bif (decide ((List.getD J.1 (Int.toNat I) 0:Int)<=List.getD J.1 (Int.toNat (IntKind.wrap .i64 (I - 1))) 0)) then
 some (Sum.inr (Sum.inr 1))
 else
 some (Sum.inl (IntKind.wrap .i64 (I+1)))
 else none
 else none
 else
 some (Sum.inr (Sum.inl ()))) 1).bind fun j32=>
 Sum.elim (fun (j33:Unit)=>
 some 0) (fun (j34:Int)=>
 some j34) j32) (fun (j25:Int)=>
 some j25) j23
def QdC (I:t14):Option (Int):=
 (Qc (S:=Int) (X:=(Unit)⊕(Int)) (fun s16=>
 bif (decide ((s16:Int)<(List.length I.2.2.2:Int))) then
 bif (inB s16 I.2.2.2) then
 (QL (List.getD I.2.2.2 (Int.toNat s16) (0,([],(0,0)))).1 1 1000000).bind fun U=>
 bif (!U) then
 some (Sum.inr (Sum.inr 3))
 else
 bif (inB s16 I.2.2.2) then
 (JE (List.getD I.2.2.2 (Int.toNat s16) (0,([],(0,0)))).2).bind fun J=>
 bif (!decide ((J:Int)=0)) then
 some (Sum.inr (Sum.inr J))
 else
 some (Sum.inl (IntKind.wrap .i64 (s16+1)))
 else none
 else none
 else
 some (Sum.inr (Sum.inl ()))) 0).bind fun j19=>
 Sum.elim (fun (j20:Unit)=>
 (bif (decide ((I.1:Int)=1)) then
 bif (inB 0 I.2.2.2) then
 some (decide (((List.getD I.2.2.2 (Int.toNat 0) (0,([],(0,0)))).1:Int)<100))
 else none
 else
 some false:Option (Bool)).bind fun j22=>
 bif j22 then
 some 8
 else
 some 0) (fun (j21:Int)=>
 some j21) j19
def YH (J:t14):Option (Int):=
 ((QL J.1 0 2).bind fun U=>
 bif (!U) then
 some true
 else
 some (!(Sh.beq .bool (decide ((J.1:Int)=0)) (decide ((J.2.1:Int)=0)))):Option (Bool)).bind fun j25=>
 bif j25 then
 some 1
 else
 (bif (!decide ((J.1:Int)=0)) then
 (JT J.2.1).bind fun y27=>
 some (!y27)
 else
 some false:Option (Bool)).bind fun j28=>
 bif j28 then
 some 3
 else
 ((QL (List.length J.2.2.1:Int) 1 4).bind fun y31=>
 bif (!y31) then
 some true
 else
 (QL (List.length J.2.2.2:Int) 1 4).bind fun y32=>
 some (!y32):Option (Bool)).bind fun j33=>
 bif j33 then
 some 2
 else
 (Qc (S:=Int) (X:=(Unit)⊕(Int)) (fun I=>
 bif (decide ((I:Int)<(List.length J.2.2.1:Int))) then
 bif (inB I J.2.2.1) then
 (Qcf (List.getD J.2.2.1 (Int.toNat I) (0,0))).bind fun y39=>
 bif (!y39) then
 some (Sum.inr (Sum.inr 3))
 else
 bif (QO 0 I J.2.2.1) then
 bif (inB I J.2.2.1) then
 (JD (cut 0 I J.2.2.1) (List.getD J.2.2.1 (Int.toNat I) (0,0))).bind fun y40=>
 bif y40 then
 some (Sum.inr (Sum.inr 7))
 else
 some (Sum.inl (IntKind.wrap .i64 (I+1)))
 else none
 else none
 else none
 else
 some (Sum.inr (Sum.inl ()))) 0).bind fun j41=>
 Sum.elim (fun (j42:Unit)=>
 (QdC J).bind fun y44=>
 some y44) (fun (j43:Int)=>
 some j43) j41
def Jf (I:List UInt8) (x1:Int) (x2:Int):Option (List UInt8):=
 swpS I x1 x2
def Q4 (I:Int):Option (List UInt8):=
 digS 19 I
def Qbu (J:t6):Option (List UInt8):=
 (Q4 J.2.1).bind fun U=>
 bif decide (List.length U+List.length [32,111,102,32]<=LIM) then
 bif (inB 0 J.1) then
 (Q4 (List.getD J.1 (Int.toNat 0) 0)).bind fun y12=>
 bif decide (List.length (List.append U [32,111,102,32])+List.length y12<=LIM) then
 (Qc (S:=List UInt8×Int) (X:=List UInt8) (fun s15=>
 bif (decide ((s15.2:Int)<(List.length J.1:Int))) then
 bif decide (List.length s15.1+List.length [44]<=LIM) then
 bif (inB s15.2 J.1) then
 (Q4 (List.getD J.1 (Int.toNat s15.2) 0)).bind fun y16=>
 bif decide (List.length (List.append s15.1 [44])+List.length y16<=LIM) then
 some (Sum.inl (List.append (List.append s15.1 [44]) y16,IntKind.wrap .i64 (s15.2+1)))
 else none
 else none
 else none
 else
 some (Sum.inr s15.1)) (List.append (List.append U [32,111,102,32]) y12,1)).bind fun I=>
 (bif (!decide ((J.2.2:Int)=0)) then
 bif decide (List.length I+List.length [32,97,102,116,101,114,32]<=LIM) then
 (Q4 J.2.2).bind fun y19=>
 bif decide (List.length (List.append I [32,97,102,116,101,114,32])+List.length y19<=LIM) then
 some (List.append (List.append I [32,97,102,116,101,114,32]) y19)
 else none
 else none
 else
 some I:Option (List UInt8)).bind fun j20=>
 some j20
 else none
 else none
 else none
def Qbo (U:t14):Option (List UInt8):=
 bif (inB U.1 ([[112,97,121],[106,111,105,110,32],[108,101,97,118,101,32]]:List (List UInt8))) then
 (bif (!decide ((U.1:Int)=0)) then
 (Q4 U.2.1).bind fun y26=>
 bif decide (List.length (List.getD ([[112,97,121],[106,111,105,110,32],[108,101,97,118,101,32]]:List (List UInt8)) (Int.toNat U.1) [])+List.length y26<=LIM) then
 some (List.append (List.getD ([[112,97,121],[106,111,105,110,32],[108,101,97,118,101,32]]:List (List UInt8)) (Int.toNat U.1) []) y26)
 else none
 else
 some (List.getD ([[112,97,121],[106,111,105,110,32],[108,101,97,118,101,32]]:List (List UInt8)) (Int.toNat U.1) []):Option (List UInt8)).bind fun j27=>
 (Qc (S:=List UInt8×Int) (X:=List UInt8) (fun I=>
 bif (decide ((I.2:Int)<(List.length U.2.2.1:Int))) then
 (bif (decide ((I.2:Int)=0)) then
 some [32]
 else
 some [43]:Option (List UInt8)).bind fun j34=>
 bif decide (List.length I.1+List.length j34<=LIM) then
 bif (inB I.2 U.2.2.1) then
 (Q4 (List.getD U.2.2.1 (Int.toNat I.2) (0,0)).1).bind fun y35=>
 bif decide (List.length (List.append I.1 j34)+List.length y35<=LIM) then
 bif decide (List.length (List.append (List.append I.1 j34) y35)+List.length [58]<=LIM) then
 bif (inB I.2 U.2.2.1) then
 (Q4 (List.getD U.2.2.1 (Int.toNat I.2) (0,0)).2).bind fun y36=>
 bif decide (List.length (List.append (List.append (List.append I.1 j34) y35) [58])+List.length y36<=LIM) then
 some (Sum.inl (List.append (List.append (List.append (List.append I.1 j34) y35) [58]) y36,IntKind.wrap .i64 (I.2+1)))
 else none
 else none
 else none
 else none
 else none
 else none
 else
 some (Sum.inr I.1)) (j27,0)).bind fun j37=>
 (Qc (S:=List UInt8×Int) (X:=List UInt8) (fun J=>
 bif (decide ((J.2:Int)<(List.length U.2.2.2:Int))) then
 bif decide (List.length J.1+List.length [32]<=LIM) then
 bif (inB J.2 U.2.2.2) then
 (Q4 (List.getD U.2.2.2 (Int.toNat J.2) (0,([],(0,0)))).1).bind fun y45=>
 bif decide (List.length (List.append J.1 [32])+List.length y45<=LIM) then
 bif decide (List.length (List.append (List.append J.1 [32]) y45)+List.length [61]<=LIM) then
 bif (inB J.2 U.2.2.2) then
 (Qbu (List.getD U.2.2.2 (Int.toNat J.2) (0,([],(0,0)))).2).bind fun y46=>
 (Jf y46 32 95).bind fun y47=>
 bif decide (List.length (List.append (List.append (List.append J.1 [32]) y45) [61])+List.length y47<=LIM) then
 some (Sum.inl (List.append (List.append (List.append (List.append J.1 [32]) y45) [61]) y47,IntKind.wrap .i64 (J.2+1)))
 else none
 else none
 else none
 else none
 else none
 else none
 else
 some (Sum.inr J.1)) (j37,0)).bind fun j48=>
 some j48
 else none
def QdY (x0:List UInt8):Option (List t5×Bool):=
 (ZO x0 43).bind fun J=>
 (Qc (S:=List t5×Int) (X:=(List t5)⊕(List t5×Bool)) (fun s27=>
 bif (decide ((s27.2:Int)<(List.length J:Int))) then
 bif (inB s27.2 J) then
 (ZO (List.getD J (Int.toNat s27.2) []) 58).bind fun I=>
 bif (!decide (((List.length I:Int):Int)=2)) then
 some (Sum.inr (Sum.inr (([]:List t5),false)))
 else
 bif (inB 0 I) then
 (Qm (List.getD I (Int.toNat 0) []) 2).bind fun U=>
 bif (inB 1 I) then
 (Qm (List.getD I (Int.toNat 1) []) 1).bind fun y30=>
 (bif (!U.2) then
 some true
 else
 some (!y30.2):Option (Bool)).bind fun j31=>
 bif j31 then
 some (Sum.inr (Sum.inr (([]:List t5),false)))
 else
 bif decide (List.length s27.1+List.length ([(U.1,y30.1)]:List t5)<=LIM) then
 some (Sum.inl (List.append s27.1 ([(U.1,y30.1)]:List t5),IntKind.wrap .i64 (s27.2+1)))
 else none
 else none
 else none
 else none
 else
 some (Sum.inr (Sum.inl s27.1))) (([]:List t5),0)).bind fun j32=>
 Sum.elim (fun (j33:List t5)=>
 some (j33,true)) (fun (j34:List t5×Bool)=>
 some (j34.1,j34.2)) j32
def QcD (x0:List UInt8):Option (t6×Bool):=
 (ZO x0 32).bind fun I=>
 (bif (!decide (((List.length I:Int):Int)=3)) then
 bif (!decide (((List.length I:Int):Int)=5)) then
 some true
 else
 bif (inB 1 I) then
 some (!decide ((List.getD I (Int.toNat 1) []:List UInt8)=[111,102]))
 else none
 else
 bif (inB 1 I) then
 some (!decide ((List.getD I (Int.toNat 1) []:List UInt8)=[111,102]))
 else none:Option (Bool)).bind fun j22=>
 bif j22 then
 some (([],(0,0)),false)
 else
 bif (inB 0 I) then
 (Qm (List.getD I (Int.toNat 0) []) 1).bind fun y23=>
 bif (inB 2 I) then
 (ZO (List.getD I (Int.toNat 2) []) 44).bind fun y24=>
 (Qc (S:=Bool×Int×t6) (X:=Bool×t6) (fun s29=>
 bif (decide ((s29.2.1:Int)<(List.length y24:Int))) then
 bif (inB s29.2.1 y24) then
 (Qm (List.getD y24 (Int.toNat s29.2.1) []) 3).bind fun y30=>
 (bif s29.1 then
 some y30.2
 else
 some false:Option (Bool)).bind fun j31=>
 bif decide (List.length s29.2.2.1+List.length ([y30.1]:List Int)<=LIM) then
 some (Sum.inl (j31,(IntKind.wrap .i64 (s29.2.1+1),(List.append s29.2.2.1 ([y30.1]:List Int),s29.2.2.2))))
 else none
 else none
 else
 some (Sum.inr (s29.1,s29.2.2))) (y23.2,(0,([],(y23.1,0))))).bind fun J=>
 (bif (decide (((List.length I:Int):Int)=5)) then
 bif (inB 4 I) then
 (Qm (List.getD I (Int.toNat 4) []) 3).bind fun y35=>
 (bif J.1 then
 bif y35.2 then
 bif (inB 3 I) then
 bif (decide ((List.getD I (Int.toNat 3) []:List UInt8)=[97,102,116,101,114])) then
 some (decide ((0:Int)<y35.1))
 else
 some false
 else none
 else
 some false
 else
 some false:Option (Bool)).bind fun j36=>
 some (j36,(J.2.1,(J.2.2.1,y35.1)))
 else none
 else
 some (J.1,J.2):Option (Bool×t6)).bind fun U=>
 (bif U.1 then
 (JE U.2).bind fun y39=>
 some (decide ((y39:Int)=0),U.2)
 else
 some (false,U.2):Option (Bool×t6)).bind fun j40=>
 some (j40.2,j40.1)
 else none
 else none
def QcV (x0:List UInt8):Option (t14×Bool):=
 (ZO x0 32).bind fun I=>
 (bif (inB 0 I) then
 bif (decide ((List.getD I (Int.toNat 0) []:List UInt8)=[106,111,105,110])) then
 some true
 else
 bif (inB 0 I) then
 some (decide ((List.getD I (Int.toNat 0) []:List UInt8)=[108,101,97,118,101]))
 else none
 else none:Option (Bool)).bind fun j39=>
 (bif j39 then
 bif (decide (((List.length I:Int):Int)<2)) then
 some (Sum.inr (false,(0,(0,([],[])))))
 else
 bif (inB 1 I) then
 (Qm (List.getD I (Int.toNat 1) []) 3).bind fun y42=>
 bif (!y42.2) then
 some (Sum.inr (false,(0,(0,([],[])))))
 else
 bif (inB 0 I) then
 (bif (decide ((List.getD I (Int.toNat 0) []:List UInt8)=[108,101,97,118,101])) then
 some (2,(0,([],[])))
 else
 some (1,(0,([],[]))):Option (t14)).bind fun j43=>
 some (Sum.inl (2,(j43.1,(y42.1,j43.2.2))))
 else none
 else none
 else
 bif (inB 0 I) then
 bif (!decide ((List.getD I (Int.toNat 0) []:List UInt8)=[112,97,121])) then
 some (Sum.inr (false,(0,(0,([],[])))))
 else
 some (Sum.inl (1,(0,(0,([],[])))))
 else none:Option ((Int×t14)⊕(Bool×t14))).bind fun j44=>
 Sum.elim (fun (U:Int×t14)=>
 bif (decide (((List.length I:Int):Int)<IntKind.wrap .i64 (U.1+2))) then
 some (U.2,false)
 else
 bif (inB U.1 I) then
 (QdY (List.getD I (Int.toNat U.1) [])).bind fun y47=>
 (Qc (S:=Bool×Int×t14) (X:=(Bool×t14)⊕(Bool×t14)) (fun J=>
 (bif (decide ((J.2.1:Int)<(List.length I:Int))) then
 some J.1
 else
 some false:Option (Bool)).bind fun j61=>
 bif j61 then
 bif (inB J.2.1 I) then
 (ZO (List.getD I (Int.toNat J.2.1) []) 61).bind fun y62=>
 bif (!decide (((List.length y62:Int):Int)=2)) then
 some (Sum.inr (Sum.inr (false,J.2.2)))
 else
 bif (inB 0 y62) then
 (Qm (List.getD y62 (Int.toNat 0) []) 7).bind fun y63=>
 bif (inB 1 y62) then
 (Jf (List.getD y62 (Int.toNat 1) []) 95 32).bind fun y64=>
 (QcD y64).bind fun y65=>
 (bif y63.2 then
 some y65.2
 else
 some false:Option (Bool)).bind fun j66=>
 bif decide (List.length J.2.2.2.2.2+List.length ([(y63.1,y65.1)]:List t7)<=LIM) then
 some (Sum.inl (j66,(IntKind.wrap .i64 (J.2.1+1),(J.2.2.1,(J.2.2.2.1,(J.2.2.2.2.1,List.append J.2.2.2.2.2 ([(y63.1,y65.1)]:List t7)))))))
 else none
 else none
 else none
 else none
 else
 some (Sum.inr (Sum.inl (J.1,J.2.2)))) (y47.2,(IntKind.wrap .i64 (U.1+1),(U.2.1,(U.2.2.1,(y47.1,U.2.2.2.2)))))).bind fun j67=>
 Sum.elim (fun (j68:Bool×t14)=>
 (bif j68.1 then
 (YH j68.2).bind fun y72=>
 bif (decide ((y72:Int)=0)) then
 (Qbo j68.2).bind fun y73=>
 bif (decide ((y73:List UInt8)=x0)) then
 some (decide (((List.length x0:Int):Int)<=300),j68.2)
 else
 some (false,j68.2)
 else
 some (false,j68.2)
 else
 some (false,j68.2):Option (Bool×t14)).bind fun j74=>
 some (j74.2,j74.1)) (fun (j69:Bool×t14)=>
 some (j69.2,j69.1)) j67
 else none) (fun (j46:Bool×t14)=>
 some (j46.2,j46.1)) j44
def QeC (J:List UInt8):Option (t15):=
 (QcV J).bind fun I=>
 bif (!I.2) then
 some (5,(0,(0,([],[]))))
 else
 some (0,I.1)
def QeH (J:t25) (x1:Int):Option (t15):=
 (Qbs J x1).bind fun I=>
 bif (!decide ((I.1:Int)=0)) then
 some (I.1,(0,(0,([],[]))))
 else
 (QeC I.2).bind fun U=>
 some U
def Qcd (I:t7):Option (Int):=
 (QL I.1 1 1000000).bind fun J=>
 bif (!J) then
 some 3
 else
 (JE I.2).bind fun U=>
 some U
def QaK (I:t5) (x1:t5):Option (Bool):=
 bif (!decide ((I.1:Int)=x1.1)) then
 some (decide ((I.1:Int)<x1.1))
 else
 some (decide ((I.2:Int)<x1.2))
def JC (J:List t10):Option (Int):=
 bif (decide ((40:Int)<(List.length J:Int))) then
 some 2
 else
 (Qc (S:=Int) (X:=(Unit)⊕(Int)) (fun I=>
 bif (decide ((I:Int)<(List.length J:Int))) then
 (bif (inB I J) then
 (Qcf (List.getD J (Int.toNat I) ((0,0),((0,([],(0,0))),(0,false)))).1).bind fun y47=>
 bif (!y47) then
 some true
 else
 bif (inB I J) then
 (Yp (List.getD J (Int.toNat I) ((0,0),((0,([],(0,0))),(0,false)))).2.2.1).bind fun y48=>
 some (!y48)
 else none
 else none:Option (Bool)).bind fun j49=>
 bif j49 then
 some (Sum.inr (Sum.inr 3))
 else
 bif (inB I J) then
 (Qcd (List.getD J (Int.toNat I) ((0,0),((0,([],(0,0))),(0,false)))).2.1).bind fun U=>
 bif (!decide ((U:Int)=0)) then
 some (Sum.inr (Sum.inr U))
 else
 (bif (decide ((0:Int)<I)) then
 bif (inB (IntKind.wrap .i64 (I - 1)) J) then
 bif (inB I J) then
 (QaK (List.getD J (Int.toNat (IntKind.wrap .i64 (I - 1))) ((0,0),((0,([],(0,0))),(0,false)))).1 (List.getD J (Int.toNat I) ((0,0),((0,([],(0,0))),(0,false)))).1).bind fun y52=>
 some (!y52)
 else none
 else none
 else
 some false:Option (Bool)).bind fun j53=>
 bif j53 then
 some (Sum.inr (Sum.inr 1))
 else
 some (Sum.inl (IntKind.wrap .i64 (I+1)))
 else none
 else
 some (Sum.inr (Sum.inl ()))) 0).bind fun j54=>
 Sum.elim (fun (j55:Unit)=>
 some 0) (fun (j56:Int)=>
 some j56) j54
def Qdy (I:t14):Option (t3):=
 (YH I).bind fun J=>
 bif (!decide ((J:Int)=0)) then
 some (J,[])
 else
 (Qbo I).bind fun U=>
 bif (decide ((300:Int)<(List.length U:Int))) then
 some (2,[])
 else
 some (0,U)
def JF (I:List t10) (x1:t14):Option (List t10×Bool):=
 (Qc (S:=List t10×Int) (X:=List t10) (fun s14=>
 bif (decide ((s14.2:Int)<(List.length I:Int))) then
 bif (inB s14.2 I) then
 (JD x1.2.2.1 (List.getD I (Int.toNat s14.2) ((0,0),((0,([],(0,0))),(0,false)))).1).bind fun U=>
 (bif U then
 bif (inB s14.2 I) then
 bif decide (List.length s14.1+List.length ([List.getD I (Int.toNat s14.2) ((0,0),((0,([],(0,0))),(0,false)))]:List t10)<=LIM) then
 some (List.append s14.1 ([List.getD I (Int.toNat s14.2) ((0,0),((0,([],(0,0))),(0,false)))]:List t10))
 else none
 else none
 else
 some s14.1:Option (List t10)).bind fun j16=>
 some (Sum.inl (j16,IntKind.wrap .i64 (s14.2+1)))
 else none
 else
 some (Sum.inr s14.1)) (([]:List t10),0)).bind fun J=>
 (Jh J).bind fun y18=>
 some (y18,decide (((List.length J:Int):Int)=(List.length x1.2.2.1:Int)))
def Qdx (I:t10) (x1:Int):Option (Bool):=
 (bif (!I.2.2.2) then
 some true
 else
 some (decide ((IntKind.wrap .i64 (I.2.2.1+2):Int)<=x1)):Option (Bool)).bind fun J=>
 some J
def QaI (I:t25) (x1:Int) (x2:Int):Option (Bool):=
 (J3 I.2 (x1,x2)).bind fun J=>
 some J
def Qej (x0:t25) (x1:t6) (x2:Int) (x3:Int):Option (Int):=
 bif (decide ((x3:Int)<x1.2.2)) then
 some 9
 else
 (Qc (S:=Int×Int) (X:=Int) (fun s13=>
 bif (decide ((s13.2:Int)<(List.length x1.1:Int))) then
 bif (inB s13.2 x1.1) then
 (QaI x0 (List.getD x1.1 (Int.toNat s13.2) 0) x2).bind fun I=>
 (bif I then
 some (IntKind.wrap .i64 (s13.1+1))
 else
 some s13.1:Option (Int)).bind fun J=>
 some (Sum.inl (J,IntKind.wrap .i64 (s13.2+1)))
 else none
 else
 some (Sum.inr s13.1)) (0,0)).bind fun U=>
 bif (decide ((U:Int)<x1.2.1)) then
 some 6
 else
 some 0
def Qd1 (I:List t10):Option (Int):=
 (Qc (S:=Int×Int) (X:=Int) (fun s3=>
 bif (decide ((s3.2:Int)<(List.length I:Int))) then
 bif (inB s3.2 I) then
 some (Sum.inl (IntKind.wrap .i64 (s3.1+(List.getD I (Int.toNat s3.2) ((0,0),((0,([],(0,0))),(0,false)))).2.1.1),IntKind.wrap .i64 (s3.2+1)))
 else none
 else
 some (Sum.inr s3.1)) (0,0)).bind fun J=>
 some J
def Qd6 (I:t14):Option (Int):=
 (Qc (S:=Int×Int) (X:=Int) (fun s3=>
 bif (decide ((s3.2:Int)<(List.length I.2.2.2:Int))) then
 bif (inB s3.2 I.2.2.2) then
 some (Sum.inl (IntKind.wrap .i64 (s3.1+(List.getD I.2.2.2 (Int.toNat s3.2) (0,([],(0,0)))).1),IntKind.wrap .i64 (s3.2+1)))
 else none
 else
 some (Sum.inr s3.1)) (0,0)).bind fun J=>
 some J
def QaU (x0:t25) (x1:List t10) (x2:t14) (x3:Int) (x4:Int):Option (Int×Int):=
 (JF x1 x2).bind fun I=>
 bif (!I.2) then
 some (0,4)
 else
 (Qc (S:=Int) (X:=(Unit)⊕(Int×Int)) (fun s22=>
 bif (decide ((s22:Int)<(List.length I.1:Int))) then
 bif (inB s22 I.1) then
 (Qdx (List.getD I.1 (Int.toNat s22) ((0,0),((0,([],(0,0))),(0,false)))) x4).bind fun y23=>
 bif (!y23) then
 some (Sum.inr (Sum.inr (0,9)))
 else
 bif (inB s22 I.1) then
 (Qej x0 (List.getD I.1 (Int.toNat s22) ((0,0),((0,([],(0,0))),(0,false)))).2.1.2 x3 x4).bind fun J=>
 bif (!decide ((J:Int)=0)) then
 some (Sum.inr (Sum.inr (0,J)))
 else
 some (Sum.inl (IntKind.wrap .i64 (s22+1)))
 else none
 else none
 else
 some (Sum.inr (Sum.inl ()))) 0).bind fun j25=>
 Sum.elim (fun (j26:Unit)=>
 (bif (decide ((x2.1:Int)=2)) then
 (QaI x0 x2.2.1 x3).bind fun y29=>
 some (!y29)
 else
 some false:Option (Bool)).bind fun j30=>
 bif j30 then
 some (0,6)
 else
 (Qd1 I.1).bind fun U=>
 (Qd6 x2).bind fun y32=>
 bif (decide ((IntKind.wrap .i64 (U - y32):Int)<0)) then
 some (0,8)
 else
 some (IntKind.wrap .i64 (U - y32),0)) (fun (j27:Int×Int)=>
 some (j27.1,j27.2)) j25
def QcE (x0:t25) (x1:List t10) (x2:t14) (x3:Int):Option (t5):=
 (YJ x0).bind fun y8=>
 bif (!decide ((y8:Int)=0)) then
 some (y8,0)
 else
 (JC x1).bind fun y9=>
 bif (!decide ((y9:Int)=0)) then
 some (y9,0)
 else
 (YH x2).bind fun U=>
 bif (!decide ((U:Int)=0)) then
 some (U,0)
 else
 (Yp x3).bind fun y11=>
 bif (!y11) then
 some (3,0)
 else
 (Qdy x2).bind fun I=>
 bif (!decide ((I.1:Int)=0)) then
 some (I.1,0)
 else
 (Qc7 x0.1 I.2).bind fun y13=>
 bif (decide ((y13:Int)=0)) then
 some (4,0)
 else
 (QaU x0 x1 x2 y13 x3).bind fun J=>
 bif (!decide ((J.2:Int)=0)) then
 some (J.2,0)
 else
 some (0,J.1)
def QbF (I:List t11) (x1:Int):Option (Int):=
 (Qc (S:=Int) (X:=(Unit)⊕(Int)) (fun s5=>
 bif (decide ((s5:Int)<(List.length I:Int))) then
 bif (inB s5 I) then
 bif (decide (((List.getD I (Int.toNat s5) (0,(0,0))).1:Int)=x1)) then
 some (Sum.inr (Sum.inr s5))
 else
 some (Sum.inl (IntKind.wrap .i64 (s5+1)))
 else none
 else
 some (Sum.inr (Sum.inl ()))) 0).bind fun J=>
 Sum.elim (fun (j7:Unit)=>
 some (-1)) (fun (U:Int)=>
 some U) J
def Qbw (I:List t11) (x1:t11):Option (List t11×Int):=
 (QbF I x1.1).bind fun y9=>
 bif (decide ((0:Int)<=y9)) then
 some (([]:List t11),7)
 else
 (Qc (S:=Int×Int) (X:=(Int)⊕(List t11×Int)) (fun s12=>
 bif (decide ((s12.2:Int)<(List.length I:Int))) then
 bif (inB s12.2 I) then
 bif (Sh.beq (.prod (.int .i64) (.int .i64)) (List.getD I (Int.toNat s12.2) (0,(0,0))).2 x1.2) then
 some (Sum.inr (Sum.inr (([]:List t11),7)))
 else
 bif (inB s12.2 I) then
 (bif (decide (((List.getD I (Int.toNat s12.2) (0,(0,0))).1:Int)<x1.1)) then
 some (IntKind.wrap .i64 (s12.2+1))
 else
 some s12.1:Option (Int)).bind fun j13=>
 some (Sum.inl (j13,IntKind.wrap .i64 (s12.2+1)))
 else none
 else none
 else
 some (Sum.inr (Sum.inl s12.1))) (0,0)).bind fun j14=>
 Sum.elim (fun (J:Int)=>
 bif (decide ((8:Int)<=(List.length I:Int))) then
 some (([]:List t11),2)
 else
 bif (QO 0 J I) then
 bif decide (List.length ([]:List t11)+List.length (cut 0 J I)<=LIM) then
 bif decide (List.length (List.append ([]:List t11) (cut 0 J I))+List.length ([x1]:List t11)<=LIM) then
 bif (QO J (List.length I:Int) I) then
 bif decide (List.length (List.append (List.append ([]:List t11) (cut 0 J I)) ([x1]:List t11))+List.length (cut J (List.length I:Int) I)<=LIM) then
 some (List.append (List.append (List.append ([]:List t11) (cut 0 J I)) ([x1]:List t11)) (cut J (List.length I:Int) I),0)
 else none
 else none
 else none
 else none
 else none) (fun (U:List t11×Int)=>
 some (U.1,U.2)) j14
def Qdp (J:List t11) (x1:t14) (x2:Int):Option (List t11×Int):=
 (bif (decide ((x1.1:Int)=2)) then
 (QbF J x1.2.1).bind fun y23=>
 some (decide ((y23:Int)<0))
 else
 some false:Option (Bool)).bind fun j24=>
 bif j24 then
 some (([]:List t11),4)
 else
 (Qc (S:=List t11×Int) (X:=List t11) (fun I=>
 bif (decide ((I.2:Int)<(List.length J:Int))) then
 (bif (decide ((x1.1:Int)=2)) then
 bif (inB I.2 J) then
 some (decide (((List.getD J (Int.toNat I.2) (0,(0,0))).1:Int)=x1.2.1))
 else none
 else
 some false:Option (Bool)).bind fun j36=>
 (bif (!j36) then
 bif (inB I.2 J) then
 (JD x1.2.2.1 (List.getD J (Int.toNat I.2) (0,(0,0))).2).bind fun y38=>
 some (!y38)
 else none
 else
 some false:Option (Bool)).bind fun j39=>
 (bif j39 then
 bif (inB I.2 J) then
 bif decide (List.length I.1+List.length ([List.getD J (Int.toNat I.2) (0,(0,0))]:List t11)<=LIM) then
 some (List.append I.1 ([List.getD J (Int.toNat I.2) (0,(0,0))]:List t11))
 else none
 else none
 else
 some I.1:Option (List t11)).bind fun j40=>
 some (Sum.inl (j40,IntKind.wrap .i64 (I.2+1)))
 else
 some (Sum.inr I.1)) (([]:List t11),0)).bind fun U=>
 bif (!decide ((x1.1:Int)=1)) then
 some (U,0)
 else
 (Qbw U (x1.2.1,(x2,0))).bind fun y42=>
 some (y42.1,y42.2)
def Qc9 (I:List t10) (x1:Int):Option (Bool):=
 (Qc (S:=Int) (X:=(Unit)⊕(Bool)) (fun s5=>
 bif (decide ((s5:Int)<(List.length I:Int))) then
 bif (inB s5 I) then
 bif (decide (((List.getD I (Int.toNat s5) ((0,0),((0,([],(0,0))),(0,false)))).1.1:Int)=x1)) then
 some (Sum.inr (Sum.inr true))
 else
 some (Sum.inl (IntKind.wrap .i64 (s5+1)))
 else none
 else
 some (Sum.inr (Sum.inl ()))) 0).bind fun J=>
 Sum.elim (fun (j7:Unit)=>
 some false) (fun (U:Bool)=>
 some U) J
def Qee (J:List t10) (x1:t10):Option (List t10):=
 (Qc (S:=Int) (X:=Int) (fun s18=>
 (bif (decide ((s18:Int)<(List.length J:Int))) then
 bif (inB s18 J) then
 (QaK (List.getD J (Int.toNat s18) ((0,0),((0,([],(0,0))),(0,false)))).1 x1.1).bind fun U=>
 some U
 else none
 else
 some false:Option (Bool)).bind fun j21=>
 bif j21 then
 some (Sum.inl (IntKind.wrap .i64 (s18+1)))
 else
 some (Sum.inr s18)) 0).bind fun I=>
 bif (QO 0 I J) then
 bif decide (List.length ([]:List t10)+List.length (cut 0 I J)<=LIM) then
 bif decide (List.length (List.append ([]:List t10) (cut 0 I J))+List.length ([x1]:List t10)<=LIM) then
 bif (QO I (List.length J:Int) J) then
 bif decide (List.length (List.append (List.append ([]:List t10) (cut 0 I J)) ([x1]:List t10))+List.length (cut I (List.length J:Int) J)<=LIM) then
 some (List.append (List.append (List.append ([]:List t10) (cut 0 I J)) ([x1]:List t10)) (cut I (List.length J:Int) J))
 else none
 else none
 else none
 else none
 else none
def QdZ (x0:List t10) (x1:Int) (x2:List t7) (x3:Int) (x4:Bool):Option (List t10×List t10):=
 (Jh x0).bind fun I=>
 (Qc (S:=List t10×Int) (X:=List t10) (fun s15=>
 bif (decide ((s15.2:Int)<(List.length x2:Int))) then
 bif (inB s15.2 x2) then
 bif (inB s15.2 x2) then
 (Jl (List.getD x2 (Int.toNat s15.2) (0,([],(0,0)))).2).bind fun J=>
 (Qee s15.1 ((x1,s15.2),(((List.getD x2 (Int.toNat s15.2) (0,([],(0,0)))).1,J),(x3,x4)))).bind fun U=>
 some (Sum.inl (U,IntKind.wrap .i64 (s15.2+1)))
 else none
 else none
 else
 some (Sum.inr s15.1)) (I,0)).bind fun j18=>
 some (j18,x0)
def Jc (I:List t10) (x1:Int) (x2:List t7) (x3:Int) (x4:Bool):Option (t16×List t10):=
 (JC I).bind fun J=>
 bif (!decide ((J:Int)=0)) then
 some ((J,[]),I)
 else
 ((QL x1 1 60).bind fun y19=>
 bif (!y19) then
 some true
 else
 (Yp x3).bind fun y20=>
 some (!y20):Option (Bool)).bind fun j21=>
 bif j21 then
 some ((3,[]),I)
 else
 bif (decide ((4:Int)<(List.length x2:Int))) then
 some ((2,[]),I)
 else
 (Qc (S:=Int) (X:=(Unit)⊕(t16)) (fun s24=>
 bif (decide ((s24:Int)<(List.length x2:Int))) then
 bif (inB s24 x2) then
 (Qcd (List.getD x2 (Int.toNat s24) (0,([],(0,0))))).bind fun U=>
 bif (!decide ((U:Int)=0)) then
 some (Sum.inr (Sum.inr (U,[])))
 else
 some (Sum.inl (IntKind.wrap .i64 (s24+1)))
 else none
 else
 some (Sum.inr (Sum.inl ()))) 0).bind fun j26=>
 Sum.elim (fun (j27:Unit)=>
 (Qc9 I x1).bind fun y29=>
 bif y29 then
 some ((7,[]),I)
 else
 bif (decide ((40:Int)<IntKind.wrap .i64 ((List.length I:Int)+(List.length x2:Int)))) then
 some ((2,[]),I)
 else
 (QdZ I x1 x2 x3 x4).bind fun y30=>
 some ((0,y30.1),y30.2)) (fun (j28:t16)=>
 some (j28,I)) j26
def QeE (I:List t10) (x1:t14):Option (t16):=
 (JC I).bind fun J=>
 bif (!decide ((J:Int)=0)) then
 some (J,[])
 else
 (YH x1).bind fun U=>
 bif (!decide ((U:Int)=0)) then
 some (U,[])
 else
 (JF I x1).bind fun y6=>
 bif (!y6.2) then
 some (4,[])
 else
 some (0,y6.1)
def QeM (I:List t10) (x1:t5):Option (Int):=
 (Qc (S:=Int) (X:=(Unit)⊕(Int)) (fun s5=>
 bif (decide ((s5:Int)<(List.length I:Int))) then
 bif (inB s5 I) then
 bif (Sh.beq (.prod (.int .i64) (.int .i64)) (List.getD I (Int.toNat s5) ((0,0),((0,([],(0,0))),(0,false)))).1 x1) then
 some (Sum.inr (Sum.inr s5))
 else
 some (Sum.inl (IntKind.wrap .i64 (s5+1)))
 else none
 else
 some (Sum.inr (Sum.inl ()))) 0).bind fun J=>
 Sum.elim (fun (j7:Unit)=>
 some (-1)) (fun (U:Int)=>
 some U) J
def Qdr (U:List t10) (x1:List t5):Option (List t10×Bool×List t10):=
 (Jh U).bind fun y9=>
 (Qc (S:=List t10×Int) (X:=(List t10)⊕(List t10×Bool)) (fun s12=>
 bif (decide ((s12.2:Int)<(List.length x1:Int))) then
 bif (inB s12.2 x1) then
 (QeM s12.1 (List.getD x1 (Int.toNat s12.2) (0,0))).bind fun I=>
 bif (decide ((I:Int)<0)) then
 some (Sum.inr (Sum.inr (([]:List t10),false)))
 else
 bif (QO 0 I s12.1) then
 bif decide (List.length ([]:List t10)+List.length (List.take (Int.toNat (I - 0)) (List.drop (Int.toNat 0) s12.1))<=LIM) then
 bif (QO (IntKind.wrap .i64 (I+1)) (List.length s12.1:Int) s12.1) then
 bif decide (List.length (List.append ([]:List t10) (List.take (Int.toNat (I - 0)) (List.drop (Int.toNat 0) s12.1)))+List.length (List.take (Int.toNat ((List.length s12.1:Int) - (IntKind.wrap .i64 (I+1)))) (List.drop (Int.toNat (IntKind.wrap .i64 (I+1))) s12.1))<=LIM) then
 some (Sum.inl (List.append (List.append ([]:List t10) (List.take (Int.toNat (I - 0)) (List.drop (Int.toNat 0) s12.1))) (List.take (Int.toNat ((List.length s12.1:Int) - (IntKind.wrap .i64 (I+1)))) (List.drop (Int.toNat (IntKind.wrap .i64 (I+1))) s12.1)),IntKind.wrap .i64 (s12.2+1)))
 else none
 else none
 else none
 else none
 else none
 else
 some (Sum.inr (Sum.inl s12.1))) (y9,0)).bind fun j14=>
 Sum.elim (fun (j15:List t10)=>
 some (j15,(true,U))) (fun (J:List t10×Bool)=>
 some (J.1,(J.2,U))) j14
def QcX (I:List t10) (x1:t14) (x2:Int) (x3:Int):Option (t16×List t10):=
 (QeE I x1).bind fun J=>
 bif (!decide ((J.1:Int)=0)) then
 some (J,I)
 else
 (Qc9 I x2).bind fun y6=>
 bif y6 then
 some ((7,[]),I)
 else
 (Qdr I x1.2.2.1).bind fun U=>
 (Jc U.1 x2 x1.2.2.2 x3 false).bind fun y8=>
 some (y8.1,U.2.2)
def QeN (J:t25) (x1:t21) (x2:Int) (x3:Int):Option (List t10×Int×Int×t25×t21):=
 (QeH J x2).bind fun U=>
 bif (!decide ((U.1:Int)=0)) then
 some (([]:List t10),(0,(U.1,(J,x1))))
 else
 (QcE J x1.2.2.1 U.2 x3).bind fun y7=>
 bif (!decide ((y7.1:Int)=0)) then
 some (([]:List t10),(0,(y7.1,(J,x1))))
 else
 (Qdp x1.2.2.2 U.2 x2).bind fun y8=>
 bif (!decide ((y8.2:Int)=0)) then
 some (([]:List t10),(0,(y8.2,(J,x1))))
 else
 (JF x1.2.2.1 U.2).bind fun y9=>
 (QcX x1.2.2.1 U.2 x2 x3).bind fun I=>
 bif (!decide ((I.1.1:Int)=0)) then
 some (([]:List t10),(0,(I.1.1,(J,(x1.1,(x1.2.1,(I.2,x1.2.2.2)))))))
 else
 some (y9.1,(y7.2,(0,(J,(x1.1,(x1.2.1,(I.1.2,y8.1)))))))
def QbY (I:Int):Option (Int):=
 some (1000 / 2 ^ min (IntKind.u64.wrap (RowKit.wrap64 ((RowKit.wrap64 (I - 1)).tdiv 8))).toNat 64)
def JK (x0:t25) (x1:t21) (x2:Int):Option (t24×t25):=
 (QaZ x0 x2).bind fun I=>
 bif (!decide ((I.1:Int)=0)) then
 (Z3 I.1).bind fun y21=>
 some (y21,x0)
 else
 (bif (!decide ((I.2.1:Int)=x1.1)) then
 some true
 else
 some (!decide ((I.2.2.1:Int)=IntKind.wrap .i64 (x1.2.1+1))):Option (Bool)).bind fun j22=>
 bif j22 then
 (Z3 10).bind fun y23=>
 some (y23,x0)
 else
 (Qdf x1).bind fun y24=>
 bif decide (List.length ([]:List t11)+List.length x1.2.2.2<=LIM) then
 (Qc (S:=Int×t24×t25) (X:=(t24×t25)⊕(t24×t25)) (fun s29=>
 bif (decide ((s29.1:Int)<(List.length I.2.2.2.2:Int))) then
 bif (inB s29.1 I.2.2.2.2) then
 (QeN s29.2.2 s29.2.1.2.2.2 (List.getD I.2.2.2.2 (Int.toNat s29.1) 0) I.2.2.1).bind fun U=>
 bif (!decide ((U.2.2.1:Int)=0)) then
 (Z3 U.2.2.1).bind fun y31=>
 some (Sum.inr (Sum.inr (y31,U.2.2.2.1)))
 else
 bif decide (List.length s29.2.1.2.2.1.2.1+List.length ([U.1]:List (List t10))<=LIM) then
 some (Sum.inl (IntKind.wrap .i64 (s29.1+1),((s29.2.1.1,(IntKind.wrap .i64 (s29.2.1.2.1+U.2.1),((s29.2.1.2.2.1.1,(List.append s29.2.1.2.2.1.2.1 ([U.1]:List (List t10)),s29.2.1.2.2.1.2.2)),U.2.2.2.2))),U.2.2.2.1)))
 else none
 else none
 else
 some (Sum.inr (Sum.inl (s29.2.1,s29.2.2)))) (0,((0,(0,((x2,([],List.append ([]:List t11) x1.2.2.2)),y24))),x0))).bind fun j32=>
 Sum.elim (fun (J:t24×t25)=>
 (QbY I.2.2.1).bind fun y35=>
 bif (decide ((1000000:Int)<IntKind.wrap .i64 (y35+J.1.2.1))) then
 (Z3 8).bind fun y36=>
 some (y36,J.2)
 else
 (Jc J.1.2.2.2.2.2.1 x2 ([(IntKind.wrap .i64 (y35+J.1.2.1),(([I.2.2.2.1]:List Int),(1,0)))]:List t7) I.2.2.1 true).bind fun y37=>
 bif (!decide ((y37.1.1:Int)=0)) then
 (Z3 y37.1.1).bind fun y38=>
 some (y38,J.2)
 else
 some ((J.1.1,(J.1.2.1,(J.1.2.2.1,(x2,(I.2.2.1,(y37.1.2,J.1.2.2.2.2.2.2)))))),J.2)) (fun (j34:t24×t25)=>
 some (j34.1,j34.2)) j32
 else none
def Jn (x0:t25) (x1:List Int):Option (t24):=
 bif (decide ((40:Int)<(List.length x1:Int))) then
 (Z3 2).bind fun U=>
 some U
 else
 (YJ x0).bind fun J=>
 bif (!decide ((J:Int)=0)) then
 (Z3 J).bind fun y16=>
 some y16
 else
 (Qc (S:=Int×t25×t24) (X:=(t24)⊕(t24)) (fun s21=>
 bif (decide ((s21.1:Int)<(List.length x1:Int))) then
 bif (inB s21.1 x1) then
 (JK s21.2.1 s21.2.2.2.2.2 (List.getD x1 (Int.toNat s21.1) 0)).bind fun I=>
 bif (!decide ((I.1.1:Int)=0)) then
 (Z3 I.1.1).bind fun y23=>
 some (Sum.inr (Sum.inr y23))
 else
 some (Sum.inl (IntKind.wrap .i64 (s21.1+1),(I.2,(s21.2.2.1,(IntKind.wrap .i64 (s21.2.2.2.1+I.1.2.1),(s21.2.2.2.2.1,I.1.2.2.2))))))
 else none
 else
 some (Sum.inr (Sum.inl s21.2.2))) (0,(x0,(0,(0,((0,([],[])),(0,(0,([],[]))))))))).bind fun j24=>
 Sum.elim (fun (j25:t24)=>
 some j25) (fun (j26:t24)=>
 some j26) j24
def Qbk (I:List t11) (x1:Int):Option (List Int):=
 (Qc (S:=Int×List Int) (X:=List Int) (fun s8=>
 bif (!decide ((s8.1:Int)=0)) then
 bif decide (List.length ([s8.1]:List Int)+List.length s8.2<=LIM) then
 (YS I s8.1).bind fun U=>
 bif (inB U I) then
 some (Sum.inl ((List.getD I (Int.toNat U) (0,(0,0))).2.1,List.append ([s8.1]:List Int) s8.2))
 else none
 else none
 else
 some (Sum.inr s8.2)) (x1,([]:List Int))).bind fun J=>
 some J
def Qb5 (I:t29):Option (Int):=
 (Qc (S:=Int) (X:=(Unit)⊕(Int)) (fun s25=>
 bif (decide ((s25:Int)<(List.length I.2.1:Int))) then
 bif (inB s25 I.2.1) then
 (QaZ I.1 (List.getD I.2.1 (Int.toNat s25) (0,(0,0))).1).bind fun J=>
 bif (!decide ((J.1:Int)=0)) then
 some (Sum.inr (Sum.inr J.1))
 else
 (bif (inB s25 I.2.1) then
 bif (!decide ((J.2.1:Int)=(List.getD I.2.1 (Int.toNat s25) (0,(0,0))).2.1)) then
 some true
 else
 bif (inB s25 I.2.1) then
 some (!decide ((J.2.2.1:Int)=(List.getD I.2.1 (Int.toNat s25) (0,(0,0))).2.2))
 else none
 else none:Option (Bool)).bind fun j27=>
 bif j27 then
 some (Sum.inr (Sum.inr 1))
 else
 bif (inB s25 I.2.1) then
 (Qbk I.2.1 (List.getD I.2.1 (Int.toNat s25) (0,(0,0))).1).bind fun y28=>
 (Jn I.1 y28).bind fun U=>
 bif (!decide ((U.1:Int)=0)) then
 some (Sum.inr (Sum.inr U.1))
 else
 some (Sum.inl (IntKind.wrap .i64 (s25+1)))
 else none
 else none
 else
 some (Sum.inr (Sum.inl ()))) 0).bind fun j30=>
 Sum.elim (fun (j31:Unit)=>
 some 0) (fun (j32:Int)=>
 some j32) j30
def QaR (J:List t11) (x1:Int) (x2:Int):Option (Bool):=
 (Qc (S:=Int) (X:=(Unit)⊕(Bool)) (fun s10=>
 bif (!decide ((s10:Int)=0)) then
 (YS J s10).bind fun I=>
 bif (decide ((I:Int)<0)) then
 some (Sum.inr (Sum.inr false))
 else
 bif (decide ((x1:Int)=s10)) then
 some (Sum.inr (Sum.inr true))
 else
 bif (inB I J) then
 some (Sum.inl (List.getD J (Int.toNat I) (0,(0,0))).2.1)
 else none
 else
 some (Sum.inr (Sum.inl ()))) x2).bind fun U=>
 Sum.elim (fun (j13:Unit)=>
 some false) (fun (j14:Bool)=>
 some j14) U
def JW (J:List t11) (x1:Int) (x2:Int):Option (Bool):=
 ((QaR J x1 x2).bind fun U=>
 bif U then
 some true
 else
 (QaR J x2 x1).bind fun y9=>
 some y9:Option (Bool)).bind fun I=>
 some I
def Qcr (x0:List t11) (x1:List Int) (x2:Int):Option (Bool):=
 (Qc (S:=Int) (X:=(Unit)⊕(Bool)) (fun s10=>
 bif (decide ((s10:Int)<(List.length x1:Int))) then
 bif (inB s10 x1) then
 (JW x0 (List.getD x1 (Int.toNat s10) 0) x2).bind fun I=>
 bif (!I) then
 some (Sum.inr (Sum.inr false))
 else
 some (Sum.inl (IntKind.wrap .i64 (s10+1)))
 else none
 else
 some (Sum.inr (Sum.inl ()))) 0).bind fun J=>
 Sum.elim (fun (j13:Unit)=>
 some true) (fun (U:Bool)=>
 some U) J
def Qb3 (I:t29):Option (Int):=
 (Qc (S:=Int) (X:=(Unit)⊕(Int)) (fun s15=>
 bif (decide ((s15:Int)<(List.length I.2.2.1:Int))) then
 bif (inB s15 I.2.2.1) then
 (YS I.2.1 (List.getD I.2.2.1 (Int.toNat s15) 0)).bind fun J=>
 bif (decide ((J:Int)<0)) then
 some (Sum.inr (Sum.inr 4))
 else
 bif (QO 0 s15 I.2.2.1) then
 bif (inB s15 I.2.2.1) then
 (Qcr I.2.1 (cut 0 s15 I.2.2.1) (List.getD I.2.2.1 (Int.toNat s15) 0)).bind fun U=>
 bif (!U) then
 some (Sum.inr (Sum.inr 10))
 else
 some (Sum.inl (IntKind.wrap .i64 (s15+1)))
 else none
 else none
 else none
 else
 some (Sum.inr (Sum.inl ()))) 0).bind fun j18=>
 Sum.elim (fun (j19:Unit)=>
 some 0) (fun (j20:Int)=>
 some j20) j18
def Qdt (U:List t11) (x1:t11) (x2:List Int):Option (Bool):=
 (Qc (S:=Int) (X:=(Unit)⊕(Bool)) (fun I=>
 bif (decide ((I:Int)<(List.length x2:Int))) then
 (bif (inB I x2) then
 (JW U x1.1 (List.getD x2 (Int.toNat I) 0)).bind fun y33=>
 bif (!y33) then
 some true
 else
 bif (inB I x2) then
 (YS U (List.getD x2 (Int.toNat I) 0)).bind fun J=>
 bif (inB J U) then
 some (decide ((x1.2.2:Int)<(List.getD U (Int.toNat J) (0,(0,0))).2.2))
 else none
 else none
 else none:Option (Bool)).bind fun j35=>
 bif j35 then
 some (Sum.inr (Sum.inr false))
 else
 some (Sum.inl (IntKind.wrap .i64 (I+1)))
 else
 some (Sum.inr (Sum.inl ()))) 0).bind fun j36=>
 Sum.elim (fun (j37:Unit)=>
 some true) (fun (j38:Bool)=>
 some j38) j36
def QdE (I:List t11) (x1:List Int):Option (Int):=
 (Qc (S:=Int×Int) (X:=Int) (fun s23=>
 bif (decide ((s23.2:Int)<(List.length I:Int))) then
 (bif (inB s23.2 I) then
 (Qdt I (List.getD I (Int.toNat s23.2) (0,(0,0))) x1).bind fun U=>
 bif U then
 bif (decide ((s23.1:Int)<0)) then
 some true
 else
 bif (inB s23.2 I) then
 bif (inB s23.1 I) then
 some (decide (((List.getD I (Int.toNat s23.1) (0,(0,0))).2.2:Int)<(List.getD I (Int.toNat s23.2) (0,(0,0))).2.2))
 else none
 else none
 else
 some false
 else none:Option (Bool)).bind fun j26=>
 (bif j26 then
 some s23.2
 else
 some s23.1:Option (Int)).bind fun j27=>
 some (Sum.inl (j27,IntKind.wrap .i64 (s23.2+1)))
 else
 some (Sum.inr s23.1)) ((-1),0)).bind fun J=>
 bif (decide ((J:Int)<0)) then
 some 0
 else
 bif (inB J I) then
 some (List.getD I (Int.toNat J) (0,(0,0))).1
 else none
def Qdw (I:List Int) (x1:List Int):Option (Bool):=
 bif (!decide (((List.length I:Int):Int)=(List.length x1:Int))) then
 some false
 else
 (Qc (S:=Int) (X:=(Unit)⊕(Bool)) (fun s5=>
 bif (decide ((s5:Int)<(List.length I:Int))) then
 bif (inB s5 I) then
 bif (inB s5 x1) then
 bif (!decide ((List.getD I (Int.toNat s5) 0:Int)=List.getD x1 (Int.toNat s5) 0)) then
 some (Sum.inr (Sum.inr false))
 else
 some (Sum.inl (IntKind.wrap .i64 (s5+1)))
 else none
 else none
 else
 some (Sum.inr (Sum.inl ()))) 0).bind fun J=>
 Sum.elim (fun (j7:Unit)=>
 some true) (fun (U:Bool)=>
 some U) J
def Qdq (I:t6) (x1:t6):Option (Bool):=
 (bif (decide ((I.2.1:Int)=x1.2.1)) then
 bif (decide ((I.2.2:Int)=x1.2.2)) then
 (Qdw I.1 x1.1).bind fun J=>
 some J
 else
 some false
 else
 some false:Option (Bool)).bind fun U=>
 some U
def Qbr (I:List t10) (x1:List t10):Option (Bool):=
 bif (!decide (((List.length I:Int):Int)=(List.length x1:Int))) then
 some false
 else
 (Qc (S:=Int) (X:=(Unit)⊕(Bool)) (fun s20=>
 bif (decide ((s20:Int)<(List.length I:Int))) then
 (bif (inB s20 I) then
 bif (inB s20 x1) then
 bif (!(Sh.beq (.prod (.int .i64) (.int .i64)) (List.getD I (Int.toNat s20) ((0,0),((0,([],(0,0))),(0,false)))).1 (List.getD x1 (Int.toNat s20) ((0,0),((0,([],(0,0))),(0,false)))).1)) then
 some true
 else
 bif (inB s20 I) then
 bif (inB s20 x1) then
 bif (!decide (((List.getD I (Int.toNat s20) ((0,0),((0,([],(0,0))),(0,false)))).2.2.1:Int)=(List.getD x1 (Int.toNat s20) ((0,0),((0,([],(0,0))),(0,false)))).2.2.1)) then
 some true
 else
 bif (inB s20 I) then
 bif (inB s20 x1) then
 bif (!(Sh.beq .bool (List.getD I (Int.toNat s20) ((0,0),((0,([],(0,0))),(0,false)))).2.2.2 (List.getD x1 (Int.toNat s20) ((0,0),((0,([],(0,0))),(0,false)))).2.2.2)) then
 some true
 else
 bif (inB s20 I) then
 bif (inB s20 x1) then
 bif (!decide (((List.getD I (Int.toNat s20) ((0,0),((0,([],(0,0))),(0,false)))).2.1.1:Int)=(List.getD x1 (Int.toNat s20) ((0,0),((0,([],(0,0))),(0,false)))).2.1.1)) then
 some true
 else
 bif (inB s20 I) then
 bif (inB s20 x1) then
 (Qdq (List.getD I (Int.toNat s20) ((0,0),((0,([],(0,0))),(0,false)))).2.1.2 (List.getD x1 (Int.toNat s20) ((0,0),((0,([],(0,0))),(0,false)))).2.1.2).bind fun J=>
 some (!J)
 else none
 else none
 else none
 else none
 else none
 else none
 else none
 else none
 else none
 else none:Option (Bool)).bind fun U=>
 bif U then
 some (Sum.inr (Sum.inr false))
 else
 some (Sum.inl (IntKind.wrap .i64 (s20+1)))
 else
 some (Sum.inr (Sum.inl ()))) 0).bind fun j24=>
 Sum.elim (fun (j25:Unit)=>
 some true) (fun (j26:Bool)=>
 some j26) j24
def Qbx (I:List t11) (x1:List t11):Option (Bool):=
 bif (!decide (((List.length I:Int):Int)=(List.length x1:Int))) then
 some false
 else
 (Qc (S:=Int) (X:=(Unit)⊕(Bool)) (fun s5=>
 bif (decide ((s5:Int)<(List.length I:Int))) then
 bif (inB s5 I) then
 bif (inB s5 x1) then
 bif (!(Sh.beq (.prod (.int .i64) (.prod (.int .i64) (.int .i64))) (List.getD I (Int.toNat s5) (0,(0,0))) (List.getD x1 (Int.toNat s5) (0,(0,0))))) then
 some (Sum.inr (Sum.inr false))
 else
 some (Sum.inl (IntKind.wrap .i64 (s5+1)))
 else none
 else none
 else
 some (Sum.inr (Sum.inl ()))) 0).bind fun J=>
 Sum.elim (fun (j7:Unit)=>
 some true) (fun (U:Bool)=>
 some U) J
def Qdd (I:t21) (x1:t21):Option (Bool):=
 (bif (decide ((I.1:Int)=x1.1)) then
 bif (decide ((I.2.1:Int)=x1.2.1)) then
 (Qbr I.2.2.1 x1.2.2.1).bind fun U=>
 bif U then
 (Qbx I.2.2.2 x1.2.2.2).bind fun y9=>
 some y9
 else
 some false
 else
 some false
 else
 some false:Option (Bool)).bind fun J=>
 some J
def Qag (I:t18) (x1:t18):Option (Bool):=
 (bif (!decide ((I.1:Int)=x1.1)) then
 some true
 else
 bif (!decide (((List.length I.2.1:Int):Int)=(List.length x1.2.1:Int))) then
 some true
 else
 (Qbx I.2.2 x1.2.2).bind fun J=>
 some (!J):Option (Bool)).bind fun U=>
 bif U then
 some false
 else
 (Qc (S:=Int) (X:=(Unit)⊕(Bool)) (fun s16=>
 bif (decide ((s16:Int)<(List.length I.2.1:Int))) then
 bif (inB s16 I.2.1) then
 bif (inB s16 x1.2.1) then
 (Qbr (List.getD I.2.1 (Int.toNat s16) []) (List.getD x1.2.1 (Int.toNat s16) [])).bind fun y17=>
 bif (!y17) then
 some (Sum.inr (Sum.inr false))
 else
 some (Sum.inl (IntKind.wrap .i64 (s16+1)))
 else none
 else none
 else
 some (Sum.inr (Sum.inl ()))) 0).bind fun j18=>
 Sum.elim (fun (j19:Unit)=>
 some true) (fun (j20:Bool)=>
 some j20) j18
def QbI (I:t29):Option (Int×t29):=
 (QdE I.2.1 I.2.2.1).bind fun y15=>
 bif (!decide ((I.2.2.2.1.1:Int)=y15)) then
 some (10,I)
 else
 (Qbk I.2.1 I.2.2.2.1.1).bind fun J=>
 (Jn I.1 J).bind fun y17=>
 bif (!decide ((y17.1:Int)=0)) then
 some (y17.1,I)
 else
 (Qdd y17.2.2.2 I.2.2.2.1).bind fun y18=>
 bif (!y18) then
 some (10,I)
 else
 bif (!decide (((List.length I.2.2.2.2:Int):Int)=(List.length J:Int))) then
 some (1,I)
 else
 (Qc (S:=Int×t21×t29) (X:=(t29)⊕(Int×t29)) (fun s23=>
 bif (decide ((s23.1:Int)<(List.length J:Int))) then
 bif (inB s23.1 J) then
 (JK s23.2.2.1 s23.2.1 (List.getD J (Int.toNat s23.1) 0)).bind fun U=>
 bif (inB s23.1 s23.2.2.2.2.2.2) then
 (Qag (List.getD s23.2.2.2.2.2.2 (Int.toNat s23.1) (0,([],[]))) U.1.2.2.1).bind fun y25=>
 bif (!y25) then
 some (Sum.inr (Sum.inr (1,(U.2,s23.2.2.2))))
 else
 some (Sum.inl (IntKind.wrap .i64 (s23.1+1),(U.1.2.2.2,(U.2,s23.2.2.2))))
 else none
 else none
 else
 some (Sum.inr (Sum.inl s23.2.2))) (0,((0,(0,([],[]))),I))).bind fun j26=>
 Sum.elim (fun (j27:t29)=>
 some (0,j27)) (fun (j28:Int×t29)=>
 some (j28.1,j28.2)) j26
def QbO (I:t29):Option (Int×t29):=
 (YJ I.1).bind fun U=>
 bif (!decide ((U:Int)=0)) then
 some (U,I)
 else
 (QcG I.2.1).bind fun y7=>
 bif (!decide ((y7:Int)=0)) then
 some (y7,I)
 else
 bif (decide ((20:Int)<(List.length I.2.2.1:Int))) then
 some (2,I)
 else
 (Qb5 I).bind fun y8=>
 bif (!decide ((y8:Int)=0)) then
 some (y8,I)
 else
 (Qb3 I).bind fun y9=>
 bif (!decide ((y9:Int)=0)) then
 some (y9,I)
 else
 (QbI I).bind fun J=>
 some (J.1,J.2)
def Qaz (I:t29):Option (Int):=
 (QbO I).bind fun J=>
 some J.1
def Qa5 (I:List (List UInt8)):Option (List (List UInt8)):=
 bif (decide (0<=(List.length I:Int))&&decide ((List.length I:Int)<=(LIM:Int))) then
 (Qc (S:=List (List UInt8)×Int) (X:=List (List UInt8)) (fun s3=>
 bif (decide ((s3.2:Int)<(List.length I:Int))) then
 bif (inB s3.2 I) then
 bif (inB s3.2 s3.1) then
 some (Sum.inl (List.set s3.1 (Int.toNat s3.2) (List.getD I (Int.toNat s3.2) []),IntKind.wrap .i64 (s3.2+1)))
 else none
 else none
 else
 some (Sum.inr s3.1)) (List.replicate (Int.toNat (List.length I:Int)) [],0)).bind fun J=>
 some J
 else none
def Qda (I:t5):Option (t5):=
 some (I.1,I.2)
def QcW (I:List t5):Option (List t5):=
 bif (decide (0<=(List.length I:Int))&&decide ((List.length I:Int)<=(LIM:Int))) then
 (Qc (S:=List t5×Int) (X:=List t5) (fun s8=>
 bif (decide ((s8.2:Int)<(List.length I:Int))) then
 bif (inB s8.2 I) then
 (Qda (List.getD I (Int.toNat s8.2) (0,0))).bind fun U=>
 bif (inB s8.2 s8.1) then
 some (Sum.inl (List.set s8.1 (Int.toNat s8.2) U,IntKind.wrap .i64 (s8.2+1)))
 else none
 else none
 else
 some (Sum.inr s8.1)) (List.replicate (Int.toNat (List.length I:Int)) (0,0),0)).bind fun J=>
 some J
 else none
def Qb6 (I:t25):Option (t25):=
 (Qa5 I.1).bind fun J=>
 (QcW I.2).bind fun U=>
 some (J,U)
def Qde (I:t11):Option (t11):=
 some (I.1,(I.2.1,I.2.2))
def QcJ (I:List t11):Option (List t11):=
 bif (decide (0<=(List.length I:Int))&&decide ((List.length I:Int)<=(LIM:Int))) then
 (Qc (S:=List t11×Int) (X:=List t11) (fun s8=>
 bif (decide ((s8.2:Int)<(List.length I:Int))) then
 bif (inB s8.2 I) then
 (Qde (List.getD I (Int.toNat s8.2) (0,(0,0)))).bind fun U=>
 bif (inB s8.2 s8.1) then
 some (Sum.inl (List.set s8.1 (Int.toNat s8.2) U,IntKind.wrap .i64 (s8.2+1)))
 else none
 else none
 else
 some (Sum.inr s8.1)) (List.replicate (Int.toNat (List.length I:Int)) (0,(0,0)),0)).bind fun J=>
 some J
 else none
def J9 (I:List Int):Option (List Int):=
 bif (decide (0<=(List.length I:Int))&&decide ((List.length I:Int)<=(LIM:Int))) then
 (Qc (S:=List Int×Int) (X:=List Int) (fun s3=>
 bif (decide ((s3.2:Int)<(List.length I:Int))) then
 bif (inB s3.2 I) then
 bif (inB s3.2 s3.1) then
 some (Sum.inl (List.set s3.1 (Int.toNat s3.2) (List.getD I (Int.toNat s3.2) 0),IntKind.wrap .i64 (s3.2+1)))
 else none
 else none
 else
 some (Sum.inr s3.1)) (List.replicate (Int.toNat (List.length I:Int)) 0,0)).bind fun J=>
 some J
 else none
def QdX (I:t5):Option (t5):=
 some (I.1,I.2)
def Qdc (I:t6):Option (t6):=
 (J9 I.1).bind fun J=>
 some (J,(I.2.1,I.2.2))
def Qec (I:t7):Option (t7):=
 (Qdc I.2).bind fun J=>
 some (I.1,J)
def Qbm (I:t10):Option (t10):=
 (QdX I.1).bind fun J=>
 (Qec I.2.1).bind fun U=>
 some (J,(U,(I.2.2.1,I.2.2.2)))
def JH (I:List t10):Option (List t10):=
 bif (decide (0<=(List.length I:Int))&&decide ((List.length I:Int)<=(LIM:Int))) then
 (Qc (S:=List t10×Int) (X:=List t10) (fun s8=>
 bif (decide ((s8.2:Int)<(List.length I:Int))) then
 bif (inB s8.2 I) then
 (Qbm (List.getD I (Int.toNat s8.2) ((0,0),((0,([],(0,0))),(0,false))))).bind fun U=>
 bif (inB s8.2 s8.1) then
 some (Sum.inl (List.set s8.1 (Int.toNat s8.2) U,IntKind.wrap .i64 (s8.2+1)))
 else none
 else none
 else
 some (Sum.inr s8.1)) (List.replicate (Int.toNat (List.length I:Int)) ((0,0),((0,([],(0,0))),(0,false))),0)).bind fun J=>
 some J
 else none
def J6 (I:t11):Option (t11):=
 (QdX I.2).bind fun J=>
 some (I.1,J)
def JM (I:List t11):Option (List t11):=
 bif (decide (0<=(List.length I:Int))&&decide ((List.length I:Int)<=(LIM:Int))) then
 (Qc (S:=List t11×Int) (X:=List t11) (fun s8=>
 bif (decide ((s8.2:Int)<(List.length I:Int))) then
 bif (inB s8.2 I) then
 (J6 (List.getD I (Int.toNat s8.2) (0,(0,0)))).bind fun U=>
 bif (inB s8.2 s8.1) then
 some (Sum.inl (List.set s8.1 (Int.toNat s8.2) U,IntKind.wrap .i64 (s8.2+1)))
 else none
 else none
 else
 some (Sum.inr s8.1)) (List.replicate (Int.toNat (List.length I:Int)) (0,(0,0)),0)).bind fun J=>
 some J
 else none
def Qcy (I:t21):Option (t21):=
 (JH I.2.2.1).bind fun J=>
 (JM I.2.2.2).bind fun U=>
 some (I.1,(I.2.1,(J,U)))
def Qb1 (I:List (List t10)):Option (List (List t10)):=
 bif (decide (0<=(List.length I:Int))&&decide ((List.length I:Int)<=(LIM:Int))) then
 (Qc (S:=List (List t10)×Int) (X:=List (List t10)) (fun s8=>
 bif (decide ((s8.2:Int)<(List.length I:Int))) then
 bif (inB s8.2 I) then
 (JH (List.getD I (Int.toNat s8.2) [])).bind fun U=>
 bif (inB s8.2 s8.1) then
 some (Sum.inl (List.set s8.1 (Int.toNat s8.2) U,IntKind.wrap .i64 (s8.2+1)))
 else none
 else none
 else
 some (Sum.inr s8.1)) (List.replicate (Int.toNat (List.length I:Int)) [],0)).bind fun J=>
 some J
 else none
def Qbv (I:t18):Option (t18):=
 (Qb1 I.2.1).bind fun J=>
 (JM I.2.2).bind fun U=>
 some (I.1,(J,U))
def QcU (I:List t18):Option (List t18):=
 bif (decide (0<=(List.length I:Int))&&decide ((List.length I:Int)<=(LIM:Int))) then
 (Qc (S:=List t18×Int) (X:=List t18) (fun s8=>
 bif (decide ((s8.2:Int)<(List.length I:Int))) then
 bif (inB s8.2 I) then
 (Qbv (List.getD I (Int.toNat s8.2) (0,([],[])))).bind fun U=>
 bif (inB s8.2 s8.1) then
 some (Sum.inl (List.set s8.1 (Int.toNat s8.2) U,IntKind.wrap .i64 (s8.2+1)))
 else none
 else none
 else
 some (Sum.inr s8.1)) (List.replicate (Int.toNat (List.length I:Int)) (0,([],[])),0)).bind fun J=>
 some J
 else none
def JG (I:t29):Option (t29):=
 (Qb6 I.1).bind fun U=>
 (QcJ I.2.1).bind fun y7=>
 (J9 I.2.2.1).bind fun y8=>
 (Qcy I.2.2.2.1).bind fun y9=>
 (QcU I.2.2.2.2).bind fun J=>
 some (U,(y7,(y8,(y9,J))))
def QT (I:Int) (x1:Int) (x2:Int):Option (Bool):=
 (bif (decide ((x1:Int)<=I)) then
 some (decide ((I:Int)<=x2))
 else
 some false:Option (Bool)).bind fun J=>
 some J
def Qdl (I:List UInt8):Option (Bool):=
 (QT (List.length I:Int) 1 300).bind fun J=>
 some J
def QG (I:List (List UInt8)) (x1:List UInt8):Option (Int):=
 (Qc (S:=Int) (X:=(Unit)⊕(Int)) (fun s5=>
 bif (decide ((s5:Int)<(List.length I:Int))) then
 bif (inB s5 I) then
 bif (decide ((x1:List UInt8)=List.getD I (Int.toNat s5) [])) then
 some (Sum.inr (Sum.inr s5))
 else
 some (Sum.inl (IntKind.wrap .i64 (s5+1)))
 else none
 else
 some (Sum.inr (Sum.inl ()))) 0).bind fun J=>
 Sum.elim (fun (j7:Unit)=>
 some (-1)) (fun (U:Int)=>
 some U) J
def Zu (I:List (List UInt8)) (x1:List UInt8):Option (Bool):=
 (QG I x1).bind fun J=>
 some (decide ((0:Int)<=J))
def JI (I:Int):Option (Bool):=
 (QT I 1 999).bind fun J=>
 some J
def ZS (I:List t5) (x1:t5):Option (Int):=
 (Qc (S:=Int) (X:=(Unit)⊕(Int)) (fun s5=>
 bif (decide ((s5:Int)<(List.length I:Int))) then
 bif (inB s5 I) then
 bif (Sh.beq (.prod (.int .i64) (.int .i64)) x1 (List.getD I (Int.toNat s5) (0,0))) then
 some (Sum.inr (Sum.inr s5))
 else
 some (Sum.inl (IntKind.wrap .i64 (s5+1)))
 else none
 else
 some (Sum.inr (Sum.inl ()))) 0).bind fun J=>
 Sum.elim (fun (j7:Unit)=>
 some (-1)) (fun (U:Int)=>
 some U) J
def QV (I:List t5) (x1:t5):Option (Bool):=
 (ZS I x1).bind fun J=>
 some (decide ((0:Int)<=J))
def Qan (J:t25):Option (Int):=
 (bif (decide ((60:Int)<(List.length J.1:Int))) then
 some true
 else
 some (decide ((120:Int)<(List.length J.2:Int))):Option (Bool)).bind fun j34=>
 bif j34 then
 some 2
 else
 (Qc (S:=Int) (X:=(Unit)⊕(Int)) (fun U=>
 bif (decide ((U:Int)<(List.length J.1:Int))) then
 bif (inB U J.1) then
 (Qdl (List.getD J.1 (Int.toNat U) [])).bind fun y40=>
 bif (!y40) then
 some (Sum.inr (Sum.inr 2))
 else
 bif (QO 0 U J.1) then
 (Zu (cut 0 U J.1) (List.getD J.1 (Int.toNat U) [])).bind fun y41=>
 bif y41 then
 some (Sum.inr (Sum.inr 7))
 else
 some (Sum.inl (IntKind.wrap .i64 (U+1)))
 else none
 else none
 else
 some (Sum.inr (Sum.inl ()))) 0).bind fun j42=>
 Sum.elim (fun (j43:Unit)=>
 (Qc (S:=Int) (X:=(Unit)⊕(Int)) (fun I=>
 bif (decide ((I:Int)<(List.length J.2:Int))) then
 bif (inB I J.2) then
 ((JI (List.getD J.2 (Int.toNat I) (0,0)).1).bind fun y60=>
 bif (!y60) then
 some true
 else
 (QT (List.getD J.2 (Int.toNat I) (0,0)).2 1 (List.length J.1:Int)).bind fun y61=>
 some (!y61):Option (Bool)).bind fun j62=>
 bif j62 then
 some (Sum.inr (Sum.inr 3))
 else
 bif (QO 0 I J.2) then
 (QV (cut 0 I J.2) (List.getD J.2 (Int.toNat I) (0,0))).bind fun y63=>
 bif y63 then
 some (Sum.inr (Sum.inr 7))
 else
 some (Sum.inl (IntKind.wrap .i64 (I+1)))
 else none
 else none
 else
 some (Sum.inr (Sum.inl ()))) 0).bind fun j64=>
 Sum.elim (fun (j65:Unit)=>
 some 0) (fun (j66:Int)=>
 some j66) j64) (fun (j44:Int)=>
 some j44) j42
def Zb (I:List t11) (x1:t11->Option Bool):Option (Int):=
 (Qc (S:=Int) (X:=(Unit)⊕(Int)) (fun s10=>
 bif (decide ((s10:Int)<(List.length I:Int))) then
 bif (inB s10 I) then
 (x1 (List.getD I (Int.toNat s10) (0,(0,0)))).bind fun J=>
 bif J then
 some (Sum.inr (Sum.inr s10))
 else
 some (Sum.inl (IntKind.wrap .i64 (s10+1)))
 else none
 else
 some (Sum.inr (Sum.inl ()))) 0).bind fun U=>
 Sum.elim (fun (j13:Unit)=>
 some (-1)) (fun (j14:Int)=>
 some j14) U
def Qcg (I:t11) (x1:Int):Option (Bool):=
 some (decide ((I.1:Int)=x1))
def ZI (I:List t11) (x1:Int):Option (Int):=
 (Zb I (fun (a4:t11)=>(Qcg a4 x1).bind fun J=>some J)).bind fun U=>
 some U
def Jw (I:Int):Option (Bool):=
 (QT I 1 60).bind fun J=>
 some J
def Qbh (J:List t11) (x1:t11):Option (Int):=
 (ZI J x1.2.1).bind fun I=>
 (bif (!decide ((x1.2.1:Int)=0)) then
 some (decide ((0:Int)<=I))
 else
 some false:Option (Bool)).bind fun U=>
 (bif U then
 bif (inB I J) then
 some (IntKind.wrap .i64 ((List.getD J (Int.toNat I) (0,(0,0))).2.2+1))
 else none
 else
 some 1:Option (Int)).bind fun j13=>
 ((Jw x1.1).bind fun y16=>
 bif (!y16) then
 some true
 else
 (QT x1.2.2 1 40).bind fun y17=>
 some (!y17):Option (Bool)).bind fun j18=>
 bif j18 then
 some 3
 else
 (ZI J x1.1).bind fun y19=>
 bif (decide ((0:Int)<=y19)) then
 some 7
 else
 (bif (!decide ((x1.2.1:Int)=0)) then
 some (decide ((I:Int)<0))
 else
 some false:Option (Bool)).bind fun j20=>
 bif j20 then
 some 4
 else
 bif (!decide ((x1.2.2:Int)=j13)) then
 some 1
 else
 some 0
def Qa8 (I:List t11):Option (Int):=
 bif (decide ((60:Int)<(List.length I:Int))) then
 some 2
 else
 (Qc (S:=Int) (X:=(Unit)⊕(Int)) (fun s10=>
 bif (decide ((s10:Int)<(List.length I:Int))) then
 bif (inB s10 I) then
 bif (QO 0 s10 I) then
 (Qbh (cut 0 s10 I) (List.getD I (Int.toNat s10) (0,(0,0)))).bind fun J=>
 bif (!decide ((J:Int)=0)) then
 some (Sum.inr (Sum.inr J))
 else
 some (Sum.inl (IntKind.wrap .i64 (s10+1)))
 else none
 else none
 else
 some (Sum.inr (Sum.inl ()))) 0).bind fun U=>
 Sum.elim (fun (j13:Unit)=>
 some 0) (fun (j14:Int)=>
 some j14) U
def J2 (I:t25) (x1:Int):Option (Bool):=
 (QT x1 1 (List.length I.1:Int)).bind fun J=>
 some J
def Yq (I:t25) (x1:Int):Option (List UInt8×Int):=
 (J2 I x1).bind fun J=>
 bif (!J) then
 some ([],3)
 else
 bif (inB (IntKind.wrap .i64 (x1 - 1)) I.1) then
 some (List.getD I.1 (Int.toNat (IntKind.wrap .i64 (x1 - 1))) [],0)
 else none
def ZZ (I:List UInt8) (x1:List UInt8):Option (List (List UInt8)):=
 QeZ I x1
def QbH (I:Int) (x1:Int):Option (List UInt8):=
 fmtS I x1
def Yo (I:Int):Option (List UInt8):=
 (QbH I 10).bind fun J=>
 some J
def Zf (I:List UInt8):Option (Int):=
 numO I
def JA (x0:List UInt8) (x1:List UInt8):Option (List Int):=
 (ZZ x0 x1).bind fun J=>
 (Qc (S:=List Int×Int) (X:=List Int) (fun s10=>
 bif (decide ((s10.2:Int)<(List.length J:Int))) then
 bif (inB s10.2 J) then
 (Zf (List.getD J (Int.toNat s10.2) [])).bind fun I=>
 bif decide (List.length s10.1+List.length ([I]:List Int)<=LIM) then
 some (Sum.inl (List.append s10.1 ([I]:List Int),IntKind.wrap .i64 (s10.2+1)))
 else none
 else none
 else
 some (Sum.inr s10.1)) (([]:List Int),0)).bind fun U=>
 some U
def YZ (I:List Int) (x1:Int):Option (Int):=
 (Qc (S:=Int) (X:=(Unit)⊕(Int)) (fun s5=>
 bif (decide ((s5:Int)<(List.length I:Int))) then
 bif (inB s5 I) then
 bif (decide ((x1:Int)=List.getD I (Int.toNat s5) 0)) then
 some (Sum.inr (Sum.inr s5))
 else
 some (Sum.inl (IntKind.wrap .i64 (s5+1)))
 else none
 else
 some (Sum.inr (Sum.inl ()))) 0).bind fun J=>
 Sum.elim (fun (j7:Unit)=>
 some (-1)) (fun (U:Int)=>
 some U) J
def Zi (I:List Int) (x1:Int):Option (Bool):=
 (YZ I x1).bind fun J=>
 some (decide ((0:Int)<=J))
def QaC (I:t2):Option (Int):=
 ((QT I.1 0 60).bind fun J=>
 bif (!J) then
 some true
 else
 (QT I.2.1 1 40).bind fun U=>
 bif (!U) then
 some true
 else
 (JI I.2.2.1).bind fun y23=>
 some (!y23):Option (Bool)).bind fun j24=>
 bif j24 then
 some 3
 else
 bif (!(Sh.beq .bool (decide ((I.1:Int)=0)) (decide ((I.2.1:Int)=1)))) then
 some 1
 else
 bif (decide ((6:Int)<(List.length I.2.2.2:Int))) then
 some 2
 else
 (Qc (S:=Int) (X:=(Unit)⊕(Int)) (fun s29=>
 bif (decide ((s29:Int)<(List.length I.2.2.2:Int))) then
 bif (inB s29 I.2.2.2) then
 (Jw (List.getD I.2.2.2 (Int.toNat s29) 0)).bind fun y30=>
 bif (!y30) then
 some (Sum.inr (Sum.inr 3))
 else
 bif (QO 0 s29 I.2.2.2) then
 (Zi (cut 0 s29 I.2.2.2) (List.getD I.2.2.2 (Int.toNat s29) 0)).bind fun y31=>
 bif y31 then
 some (Sum.inr (Sum.inr 7))
 else
 some (Sum.inl (IntKind.wrap .i64 (s29+1)))
 else none
 else none
 else
 some (Sum.inr (Sum.inl ()))) 0).bind fun j32=>
 Sum.elim (fun (j33:Unit)=>
 some 0) (fun (j34:Int)=>
 some j34) j32
def ZQ (I:List (List UInt8)) (x1:List UInt8):Option (List UInt8):=
 Qgk I x1
def Jg (J:List Int) (x1:List UInt8):Option (List UInt8):=
 (Qc (S:=List (List UInt8)×Int) (X:=List (List UInt8)) (fun s9=>
 bif (decide ((s9.2:Int)<(List.length J:Int))) then
 bif (inB s9.2 J) then
 (Yo (List.getD J (Int.toNat s9.2) 0)).bind fun I=>
 bif decide (List.length s9.1+List.length ([I]:List (List UInt8))<=LIM) then
 some (Sum.inl (List.append s9.1 ([I]:List (List UInt8)),IntKind.wrap .i64 (s9.2+1)))
 else none
 else none
 else
 some (Sum.inr s9.1)) (([]:List (List UInt8)),0)).bind fun U=>
 (ZQ U x1).bind fun y12=>
 some y12
def Qa4 (I:t2):Option (List UInt8):=
 (bif (decide ((0:Int)<(List.length I.2.2.2:Int))) then
 (Jg I.2.2.2 [43]).bind fun y6=>
 some y6
 else
 some [45]:Option (List UInt8)).bind fun U=>
 (Jg ([I.1,I.2.1,I.2.2.1]:List Int) [32]).bind fun J=>
 bif decide (List.length [98,108,111,99,107,32]+List.length J<=LIM) then
 bif decide (List.length (List.append [98,108,111,99,107,32] J)+List.length [32]<=LIM) then
 bif decide (List.length (List.append (List.append [98,108,111,99,107,32] J) [32])+List.length U<=LIM) then
 some (List.append (List.append (List.append [98,108,111,99,107,32] J) [32]) U)
 else none
 else none
 else none
def Ya (x0:List UInt8):Option (t2×Bool):=
 (ZZ x0 [32]).bind fun I=>
 (bif (decide ((300:Int)<(List.length x0:Int))) then
 some true
 else
 some (!decide (((List.length I:Int):Int)=5)):Option (Bool)).bind fun j15=>
 bif j15 then
 some ((0,(0,(0,[]))),false)
 else
 bif (inB 1 I) then
 (Zf (List.getD I (Int.toNat 1) [])).bind fun U=>
 bif (inB 2 I) then
 (Zf (List.getD I (Int.toNat 2) [])).bind fun y17=>
 bif (inB 3 I) then
 (Zf (List.getD I (Int.toNat 3) [])).bind fun y18=>
 bif (inB 4 I) then
 (bif (!decide ((List.getD I (Int.toNat 4) []:List UInt8)=[45])) then
 bif (inB 4 I) then
 (JA (List.getD I (Int.toNat 4) []) [43]).bind fun y20=>
 some (U,(y17,(y18,y20)))
 else none
 else
 some (U,(y17,(y18,[]))):Option (t2)).bind fun J=>
 ((QaC J).bind fun y24=>
 bif (!decide ((y24:Int)=0)) then
 some true
 else
 (Qa4 J).bind fun y25=>
 some (!decide ((y25:List UInt8)=x0)):Option (Bool)).bind fun j26=>
 bif j26 then
 some ((0,(0,(0,[]))),false)
 else
 some (J,true)
 else none
 else none
 else none
 else none
def Yj (U:t25) (x1:Int):Option (t2×Int):=
 (Yq U x1).bind fun I=>
 bif (!decide ((I.2:Int)=0)) then
 some ((0,(0,(0,[]))),I.2)
 else
 (Ya I.1).bind fun J=>
 bif (!J.2) then
 some ((0,(0,(0,[]))),5)
 else
 some (J.1,0)
def QD (I:List t11):Option (List t11):=
 bif List.isEmpty I then
 agree (some ([]:List t11)) (bif decide (List.length ([]:List t11)+List.length I<=LIM) then
 some (List.append ([]:List t11) I)
 else none)
 else
 bif decide (List.length ([]:List t11)+List.length I<=LIM) then
 some (List.append ([]:List t11) I)
 else none
def ZW (I:List Int):Option (List Int):=
 bif List.isEmpty I then
 agree (some ([]:List Int)) (bif decide (List.length ([]:List Int)+List.length I<=LIM) then
 some (List.append ([]:List Int) I)
 else none)
 else
 bif decide (List.length ([]:List Int)+List.length I<=LIM) then
 some (List.append ([]:List Int) I)
 else none
def QeD (I:t6):Option (t6):=
 (ZW I.1).bind fun J=>
 some (J,I.2)
def Qbt (I:t7):Option (t7):=
 (QeD I.2).bind fun J=>
 some (I.1,J)
def Yw (I:List t10):Option (List t10):=
 (Qc (S:=List t10×Int) (X:=List t10) (fun s8=>
 bif (decide ((s8.2:Int)<(List.length I:Int))) then
 bif (inB s8.2 I) then
 (Qbt (List.getD I (Int.toNat s8.2) ((0,0),((0,([],(0,0))),(0,false)))).2.1).bind fun U=>
 bif decide (List.length s8.1+List.length ([((List.getD I (Int.toNat s8.2) ((0,0),((0,([],(0,0))),(0,false)))).1,(U,(List.getD I (Int.toNat s8.2) ((0,0),((0,([],(0,0))),(0,false)))).2.2))]:List t10)<=LIM) then
 some (Sum.inl (List.append s8.1 ([((List.getD I (Int.toNat s8.2) ((0,0),((0,([],(0,0))),(0,false)))).1,(U,(List.getD I (Int.toNat s8.2) ((0,0),((0,([],(0,0))),(0,false)))).2.2))]:List t10),IntKind.wrap .i64 (s8.2+1)))
 else none
 else none
 else
 some (Sum.inr s8.1)) (([]:List t10),0)).bind fun J=>
 some J
def Qb7 (I:t21):Option (t21):=
 (Yw I.2.2.1).bind fun J=>
 (QD I.2.2.2).bind fun U=>
 some (I.1,(I.2.1,(J,U)))
def JV:Option (List (List UInt8)):=
 some ([[112,97,121],[106,111,105,110],[108,101,97,118,101]]:List (List UInt8))
def J5 (J:t6) (x1:List UInt8):Option (List UInt8):=
 (Yo J.2.1).bind fun I=>
 bif decide (List.length I+List.length x1<=LIM) then
 bif decide (List.length (List.append I x1)+List.length [111,102]<=LIM) then
 bif decide (List.length (List.append (List.append I x1) [111,102])+List.length x1<=LIM) then
 (Jg J.1 [44]).bind fun U=>
 bif decide (List.length (List.append (List.append (List.append I x1) [111,102]) x1)+List.length U<=LIM) then
 (bif (!decide ((J.2.2:Int)=0)) then
 bif decide (List.length x1+List.length [97,102,116,101,114]<=LIM) then
 bif decide (List.length (List.append x1 [97,102,116,101,114])+List.length x1<=LIM) then
 (Yo J.2.2).bind fun y9=>
 bif decide (List.length (List.append (List.append x1 [97,102,116,101,114]) x1)+List.length y9<=LIM) then
 bif decide (List.length (List.append (List.append (List.append (List.append I x1) [111,102]) x1) U)+List.length (List.append (List.append (List.append x1 [97,102,116,101,114]) x1) y9)<=LIM) then
 some (List.append (List.append (List.append (List.append (List.append I x1) [111,102]) x1) U) (List.append (List.append (List.append x1 [97,102,116,101,114]) x1) y9))
 else none
 else none
 else none
 else none
 else
 some (List.append (List.append (List.append (List.append I x1) [111,102]) x1) U):Option (List UInt8)).bind fun j10=>
 some j10
 else none
 else none
 else none
 else none
def Qbz (U:t14):Option (List UInt8×Int):=
 (JV).bind fun y23=>
 bif (inB U.1 y23) then
 (bif (!decide ((U.1:Int)=0)) then
 (Yo U.2.1).bind fun y25=>
 bif decide (List.length ([List.getD y23 (Int.toNat U.1) []]:List (List UInt8))+List.length ([y25]:List (List UInt8))<=LIM) then
 some (List.append ([List.getD y23 (Int.toNat U.1) []]:List (List UInt8)) ([y25]:List (List UInt8)))
 else none
 else
 some ([List.getD y23 (Int.toNat U.1) []]:List (List UInt8)):Option (List (List UInt8))).bind fun j26=>
 (Qc (S:=List (List UInt8)×Int) (X:=List (List UInt8)) (fun I=>
 bif (decide ((I.2:Int)<(List.length U.2.2.1:Int))) then
 bif (inB I.2 U.2.2.1) then
 (Yo (List.getD U.2.2.1 (Int.toNat I.2) (0,0)).1).bind fun y32=>
 bif decide (List.length y32+List.length [58]<=LIM) then
 (Yo (List.getD U.2.2.1 (Int.toNat I.2) (0,0)).2).bind fun y33=>
 bif decide (List.length (List.append y32 [58])+List.length y33<=LIM) then
 bif decide (List.length I.1+List.length ([List.append (List.append y32 [58]) y33]:List (List UInt8))<=LIM) then
 some (Sum.inl (List.append I.1 ([List.append (List.append y32 [58]) y33]:List (List UInt8)),IntKind.wrap .i64 (I.2+1)))
 else none
 else none
 else none
 else none
 else
 some (Sum.inr I.1)) (([]:List (List UInt8)),0)).bind fun j34=>
 (ZQ j34 [43]).bind fun y35=>
 bif decide (List.length j26+List.length ([y35]:List (List UInt8))<=LIM) then
 (Qc (S:=List (List UInt8)×Int) (X:=List (List UInt8)) (fun J=>
 bif (decide ((J.2:Int)<(List.length U.2.2.2:Int))) then
 bif (inB J.2 U.2.2.2) then
 (Yo (List.getD U.2.2.2 (Int.toNat J.2) (0,([],(0,0)))).1).bind fun y41=>
 bif decide (List.length y41+List.length [61]<=LIM) then
 (J5 (List.getD U.2.2.2 (Int.toNat J.2) (0,([],(0,0)))).2 [95]).bind fun y42=>
 bif decide (List.length (List.append y41 [61])+List.length y42<=LIM) then
 bif decide (List.length J.1+List.length ([List.append (List.append y41 [61]) y42]:List (List UInt8))<=LIM) then
 some (Sum.inl (List.append J.1 ([List.append (List.append y41 [61]) y42]:List (List UInt8)),IntKind.wrap .i64 (J.2+1)))
 else none
 else none
 else none
 else none
 else
 some (Sum.inr J.1)) (List.append j26 ([y35]:List (List UInt8)),0)).bind fun j43=>
 (ZQ j43 [32]).bind fun y44=>
 bif (decide ((300:Int)<(List.length y44:Int))) then
 some ([],2)
 else
 some (y44,0)
 else none
 else none
def Qbn (I:List UInt8) (x1:List UInt8):Option (List UInt8×List UInt8×Bool):=
 cutS I x1
def Yu (I:Int):Option (Bool):=
 (QT I 0 999).bind fun J=>
 some J
def ZC (I:List Int) (x1:Int->Option Bool):Option (Int):=
 (Qc (S:=Int) (X:=(Unit)⊕(Int)) (fun s10=>
 bif (decide ((s10:Int)<(List.length I:Int))) then
 bif (inB s10 I) then
 (x1 (List.getD I (Int.toNat s10) 0)).bind fun J=>
 bif J then
 some (Sum.inr (Sum.inr s10))
 else
 some (Sum.inl (IntKind.wrap .i64 (s10+1)))
 else none
 else
 some (Sum.inr (Sum.inl ()))) 0).bind fun U=>
 Sum.elim (fun (j13:Unit)=>
 some (-1)) (fun (j14:Int)=>
 some j14) U
def QR (I:List Int) (x1:Int->Option Bool):Option (Bool):=
 (ZC I x1).bind fun J=>
 some (decide ((0:Int)<=J))
def QcZ (I:Int):Option (Bool):=
 (JI I).bind fun J=>
 some (!J)
def Qcq (I:List Int):Option (Bool):=
 (QR I (fun (a4:Int)=>(QcZ a4).bind fun J=>some J)).bind fun U=>
 some (!U)
def QbZ (I:List Int):Option (Bool):=
 (Qc (S:=Int) (X:=(Unit)⊕(Bool)) (fun s5=>
 bif (decide ((s5:Int)<(List.length I:Int))) then
 bif (inB s5 I) then
 bif (inB (IntKind.wrap .i64 (s5 - 1)) I) then
 bif (decide ((List.getD I (Int.toNat s5) 0:Int)<=List.getD I (Int.toNat (IntKind.wrap .i64 (s5 - 1))) 0)) then
 some (Sum.inr (Sum.inr false))
 else
 some (Sum.inl (IntKind.wrap .i64 (s5+1)))
 else none
 else none
 else
 some (Sum.inr (Sum.inl ()))) 1).bind fun J=>
 Sum.elim (fun (j7:Unit)=>
 some true) (fun (U:Bool)=>
 some U) J
def JJ (I:t6):Option (Int):=
 (QT (List.length I.1:Int) 1 3).bind fun J=>
 bif (!J) then
 some 2
 else
 ((Qcq I.1).bind fun U=>
 bif (!U) then
 some true
 else
 (QT I.2.1 1 (List.length I.1:Int)).bind fun y15=>
 bif (!y15) then
 some true
 else
 (Yu I.2.2).bind fun y16=>
 some (!y16):Option (Bool)).bind fun j17=>
 bif j17 then
 some 3
 else
 (QbZ I.1).bind fun y18=>
 bif (!y18) then
 some 1
 else
 some 0
def Qb2 (x0:List UInt8) (x1:List UInt8):Option (t6×Bool):=
 (ZZ x0 x1).bind fun I=>
 (bif (decide ((300:Int)<(List.length x0:Int))) then
 some true
 else
 bif (!decide (((List.length I:Int):Int)=3)) then
 some (!decide (((List.length I:Int):Int)=5))
 else
 some false:Option (Bool)).bind fun j14=>
 bif j14 then
 some (([],(0,0)),false)
 else
 bif (inB 0 I) then
 (Zf (List.getD I (Int.toNat 0) [])).bind fun U=>
 bif (inB 2 I) then
 (JA (List.getD I (Int.toNat 2) []) [44]).bind fun y16=>
 (bif (decide (((List.length I:Int):Int)=5)) then
 bif (inB 4 I) then
 (Zf (List.getD I (Int.toNat 4) [])).bind fun y18=>
 some (y16,(U,y18))
 else none
 else
 some (y16,(U,0)):Option (t6)).bind fun J=>
 ((JJ J).bind fun y22=>
 bif (!decide ((y22:Int)=0)) then
 some true
 else
 (J5 J x1).bind fun y23=>
 some (!decide ((y23:List UInt8)=x0)):Option (Bool)).bind fun j24=>
 bif j24 then
 some (([],(0,0)),false)
 else
 some (J,true)
 else none
 else none
def Qcs (U:List UInt8):Option (t7×Bool):=
 (Qbn U [61]).bind fun I=>
 (Qb2 I.2.1 [95]).bind fun J=>
 (Zf I.1).bind fun y6=>
 some ((y6,J.1),J.2)
def Ys (I:t7):Option (Int):=
 (QT I.1 1 1000000).bind fun J=>
 bif (!J) then
 some 3
 else
 (JJ I.2).bind fun U=>
 some U
def Z6 (I:List t5) (x1:t5):Option (Int):=
 (Qc (S:=Int) (X:=(Unit)⊕(Int)) (fun s5=>
 bif (decide ((s5:Int)<(List.length I:Int))) then
 bif (inB s5 I) then
 bif (Sh.beq (.prod (.int .i64) (.int .i64)) x1 (List.getD I (Int.toNat s5) (0,0))) then
 some (Sum.inr (Sum.inr s5))
 else
 some (Sum.inl (IntKind.wrap .i64 (s5+1)))
 else none
 else
 some (Sum.inr (Sum.inl ()))) 0).bind fun J=>
 Sum.elim (fun (j7:Unit)=>
 some (-1)) (fun (U:Int)=>
 some U) J
def QM (I:List t5) (x1:t5):Option (Bool):=
 (Z6 I x1).bind fun J=>
 some (decide ((0:Int)<=J))
def Jo (I:Int):Option (Bool):=
 (bif (decide ((I:Int)<1)) then
 some true
 else
 some (decide ((4:Int)<I)):Option (Bool)).bind fun J=>
 some J
def Qca (J:t5):Option (Bool):=
 ((Jw J.1).bind fun U=>
 bif U then
 (QT J.2 0 3).bind fun y9=>
 some y9
 else
 some false:Option (Bool)).bind fun I=>
 some I
def QcP (I:t14):Option (Int):=
 ((QT I.1 0 2).bind fun y31=>
 bif (!y31) then
 some true
 else
 some (!(Sh.beq .bool (decide ((I.1:Int)=0)) (decide ((I.2.1:Int)=0)))):Option (Bool)).bind fun j32=>
 bif j32 then
 some 1
 else
 (bif (!decide ((I.2.1:Int)=0)) then
 (JI I.2.1).bind fun y34=>
 some (!y34)
 else
 some false:Option (Bool)).bind fun j35=>
 bif j35 then
 some 3
 else
 ((Jo (List.length I.2.2.1:Int)).bind fun y38=>
 bif y38 then
 some true
 else
 (Jo (List.length I.2.2.2:Int)).bind fun y39=>
 some y39:Option (Bool)).bind fun j40=>
 bif j40 then
 some 2
 else
 (Qc (S:=Int) (X:=(Unit)⊕(Int)) (fun J=>
 bif (decide ((J:Int)<(List.length I.2.2.1:Int))) then
 bif (inB J I.2.2.1) then
 (Qca (List.getD I.2.2.1 (Int.toNat J) (0,0))).bind fun y46=>
 bif (!y46) then
 some (Sum.inr (Sum.inr 3))
 else
 bif (QO 0 J I.2.2.1) then
 (QM (cut 0 J I.2.2.1) (List.getD I.2.2.1 (Int.toNat J) (0,0))).bind fun y47=>
 bif y47 then
 some (Sum.inr (Sum.inr 7))
 else
 some (Sum.inl (IntKind.wrap .i64 (J+1)))
 else none
 else none
 else
 some (Sum.inr (Sum.inl ()))) 0).bind fun j48=>
 Sum.elim (fun (j49:Unit)=>
 (Qc (S:=Int) (X:=(Unit)⊕(Int)) (fun U=>
 bif (decide ((U:Int)<(List.length I.2.2.2:Int))) then
 bif (inB U I.2.2.2) then
 (Ys (List.getD I.2.2.2 (Int.toNat U) (0,([],(0,0))))).bind fun y54=>
 bif (!decide ((y54:Int)=0)) then
 some (Sum.inr (Sum.inr y54))
 else
 some (Sum.inl (IntKind.wrap .i64 (U+1)))
 else none
 else
 some (Sum.inr (Sum.inl ()))) 0).bind fun j55=>
 Sum.elim (fun (j56:Unit)=>
 (bif (decide ((I.1:Int)=1)) then
 bif (inB 0 I.2.2.2) then
 some (decide (((List.getD I.2.2.2 (Int.toNat 0) (0,([],(0,0)))).1:Int)<100))
 else none
 else
 some false:Option (Bool)).bind fun j58=>
 bif j58 then
 some 8
 else
 some 0) (fun (j57:Int)=>
 some j57) j55) (fun (j50:Int)=>
 some j50) j48
def Qds (x0:List UInt8):Option (t14×Bool):=
 (ZZ x0 [32]).bind fun I=>
 (JV).bind fun y33=>
 bif (inB 0 I) then
 (QG y33 (List.getD I (Int.toNat 0) [])).bind fun y34=>
 (bif (decide ((300:Int)<(List.length x0:Int))) then
 some true
 else
 some (decide ((y34:Int)<0)):Option (Bool)).bind fun j35=>
 bif j35 then
 some ((0,(0,([],[]))),false)
 else
 bif (QO 1 (List.length I:Int) I) then
 (bif (!decide ((y34:Int)=0)) then
 some (decide ((0:Int)<(List.length (List.take (Int.toNat ((List.length I:Int) - 1)) (List.drop (Int.toNat 1) I)):Int)))
 else
 some false:Option (Bool)).bind fun j36=>
 (bif j36 then
 bif (inB 0 (List.take (Int.toNat ((List.length I:Int) - 1)) (List.drop (Int.toNat 1) I))) then
 (Zf (List.getD (List.take (Int.toNat ((List.length I:Int) - 1)) (List.drop (Int.toNat 1) I)) (Int.toNat 0) [])).bind fun y38=>
 bif (QO 1 (List.length (List.take (Int.toNat ((List.length I:Int) - 1)) (List.drop (Int.toNat 1) I)):Int) (List.take (Int.toNat ((List.length I:Int) - 1)) (List.drop (Int.toNat 1) I))) then
 some (List.take (Int.toNat ((List.length (List.take (Int.toNat ((List.length I:Int) - 1)) (List.drop (Int.toNat 1) I)):Int) - 1)) (List.drop (Int.toNat 1) (List.take (Int.toNat ((List.length I:Int) - 1)) (List.drop (Int.toNat 1) I))),(y34,(y38,([],[]))))
 else none
 else none
 else
 some (List.take (Int.toNat ((List.length I:Int) - 1)) (List.drop (Int.toNat 1) I),(y34,(0,([],[])))):Option (List (List UInt8)×t14)).bind fun J=>
 (bif (decide (((List.length J.1:Int):Int)<2)) then
 some true
 else
 some (decide ((5:Int)<(List.length J.1:Int))):Option (Bool)).bind fun j40=>
 bif j40 then
 some ((0,(0,([],[]))),false)
 else
 bif (inB 0 J.1) then
 (ZZ (List.getD J.1 (Int.toNat 0) []) [43]).bind fun y41=>
 (Qc (S:=Int×t14) (X:=t14) (fun U=>
 bif (decide ((U.1:Int)<(List.length y41:Int))) then
 bif (inB U.1 y41) then
 (Qbn (List.getD y41 (Int.toNat U.1) []) [58]).bind fun y49=>
 (Zf y49.1).bind fun y50=>
 (Zf y49.2.1).bind fun y51=>
 bif decide (List.length U.2.2.2.1+List.length ([(y50,y51)]:List t5)<=LIM) then
 some (Sum.inl (IntKind.wrap .i64 (U.1+1),(U.2.1,(U.2.2.1,(List.append U.2.2.2.1 ([(y50,y51)]:List t5),U.2.2.2.2)))))
 else none
 else none
 else
 some (Sum.inr U.2)) (0,J.2)).bind fun j52=>
 bif (QO 1 (List.length J.1:Int) J.1) then
 (Qc (S:=Int×t14) (X:=(t14)⊕(Bool×t14)) (fun s55=>
 bif (decide ((s55.1:Int)<(List.length (List.take (Int.toNat ((List.length J.1:Int) - 1)) (List.drop (Int.toNat 1) J.1)):Int))) then
 bif (inB s55.1 (List.take (Int.toNat ((List.length J.1:Int) - 1)) (List.drop (Int.toNat 1) J.1))) then
 (Qcs (List.getD (List.take (Int.toNat ((List.length J.1:Int) - 1)) (List.drop (Int.toNat 1) J.1)) (Int.toNat s55.1) [])).bind fun y56=>
 bif (!y56.2) then
 some (Sum.inr (Sum.inr (false,(0,(0,([],[]))))))
 else
 bif decide (List.length s55.2.2.2.2+List.length ([y56.1]:List t7)<=LIM) then
 some (Sum.inl (IntKind.wrap .i64 (s55.1+1),(s55.2.1,(s55.2.2.1,(s55.2.2.2.1,List.append s55.2.2.2.2 ([y56.1]:List t7))))))
 else none
 else none
 else
 some (Sum.inr (Sum.inl s55.2))) (0,j52)).bind fun j57=>
 Sum.elim (fun (j58:t14)=>
 (QcP j58).bind fun y60=>
 bif (!decide ((y60:Int)=0)) then
 some ((0,(0,([],[]))),false)
 else
 (Qbz j58).bind fun y61=>
 (bif (decide ((y61.2:Int)=0)) then
 some (decide ((y61.1:List UInt8)=x0),j58)
 else
 some (false,j58):Option (Bool×t14)).bind fun j62=>
 some (j62.2,j62.1)) (fun (j59:Bool×t14)=>
 some (j59.2,j59.1)) j57
 else none
 else none
 else none
 else none
def Qah (U:t25) (x1:Int):Option (t14×Int):=
 (Yq U x1).bind fun I=>
 bif (!decide ((I.2:Int)=0)) then
 some ((0,(0,([],[]))),I.2)
 else
 (Qds I.1).bind fun J=>
 bif (!J.2) then
 some ((0,(0,([],[]))),5)
 else
 some (J.1,0)
def ZH (I:List t10) (x1:t10->t10->Option Int):Option (List t10):=
 Qgc I x1
def Qay (I:Int):Option (Bool):=
 some (!decide ((I:Int)=I))
def Z0 (I:Int) (x1:Int):Option (Int):=
 (Qay I).bind fun U=>
 (Qay x1).bind fun J=>
 bif U then
 bif J then
 some 0
 else
 some (-1)
 else
 bif J then
 some 1
 else
 bif (decide ((I:Int)<x1)) then
 some (-1)
 else
 bif (decide ((x1:Int)<I)) then
 some 1
 else
 some 0
def Qel (I:List Int):Option (Int):=
 (Qc (S:=Int) (X:=(Unit)⊕(Int)) (fun s5=>
 bif (decide ((s5:Int)<(List.length I:Int))) then
 bif (inB s5 I) then
 bif (!decide ((List.getD I (Int.toNat s5) 0:Int)=0)) then
 some (Sum.inr (Sum.inr (List.getD I (Int.toNat s5) 0)))
 else
 some (Sum.inl (IntKind.wrap .i64 (s5+1)))
 else none
 else
 some (Sum.inr (Sum.inl ()))) 0).bind fun J=>
 Sum.elim (fun (j7:Unit)=>
 some 0) (fun (U:Int)=>
 some U) J
def YW (I:t5) (x1:t5):Option (Int):=
 (Z0 I.1 x1.1).bind fun J=>
 (Z0 I.2 x1.2).bind fun U=>
 (Qel ([J,U]:List Int)).bind fun y6=>
 some y6
def Yd (I:t10) (x1:t10):Option (Int):=
 (YW I.1 x1.1).bind fun J=>
 some J
def Qbl (I:List t10):Option (List t10):=
 (ZH I (fun (a5:t10) (J:t10)=>(Yd a5 J).bind fun U=>some U)).bind fun y8=>
 some y8
def QZ (J:List t10) (x1:t5) (x2:t10->t5->Option Int):Option (Int×Bool):=
 (Qc (S:=Int×Int) (X:=Int) (fun s16=>
 bif (decide ((s16.1:Int)<s16.2)) then
 bif (inB (IntKind.wrap .i64 (Int.fdiv (IntKind.wrap .u64 (IntKind.wrap .i64 (s16.1+s16.2))) (2 ^ 1))) J) then
 (x2 (List.getD J (Int.toNat (IntKind.wrap .i64 (Int.fdiv (IntKind.wrap .u64 (IntKind.wrap .i64 (s16.1+s16.2))) (2 ^ 1)))) ((0,0),((0,([],(0,0))),(0,false)))) x1).bind fun y17=>
 (bif (decide ((y17:Int)<0)) then
 some (IntKind.wrap .i64 ((IntKind.wrap .i64 (Int.fdiv (IntKind.wrap .u64 (IntKind.wrap .i64 (s16.1+s16.2))) (2 ^ 1)))+1),s16.2)
 else
 some (s16.1,IntKind.wrap .i64 (Int.fdiv (IntKind.wrap .u64 (IntKind.wrap .i64 (s16.1+s16.2))) (2 ^ 1))):Option (Int×Int)).bind fun U=>
 some (Sum.inl (U.1,U.2))
 else none
 else
 some (Sum.inr s16.1)) (0,(List.length J:Int))).bind fun I=>
 (bif (decide ((I:Int)<(List.length J:Int))) then
 bif (inB I J) then
 (x2 (List.getD J (Int.toNat I) ((0,0),((0,([],(0,0))),(0,false)))) x1).bind fun y21=>
 some (I,decide ((y21:Int)=0))
 else none
 else
 some (I,false):Option (Int×Bool)).bind fun j22=>
 some (j22.1,j22.2)
def Qam (I:t10) (x1:t5):Option (Int):=
 (YW I.1 x1).bind fun J=>
 some J
def Y9 (J:List t10) (x1:t5):Option (Int×Bool):=
 (QZ J x1 (fun (a5:t10) (U:t5)=>(Qam a5 U).bind fun r7=>some r7)).bind fun I=>
 some (I.1,I.2)
def JB (U:List t10) (x1:t14):Option (List t10×Int):=
 (Qc (S:=List t10×Int) (X:=(List t10)⊕(List t10×Int)) (fun s12=>
 bif (decide ((s12.2:Int)<(List.length x1.2.2.1:Int))) then
 bif (inB s12.2 x1.2.2.1) then
 (Y9 U (List.getD x1.2.2.1 (Int.toNat s12.2) (0,0))).bind fun I=>
 bif (!I.2) then
 some (Sum.inr (Sum.inr (([]:List t10),4)))
 else
 bif (inB I.1 U) then
 bif decide (List.length s12.1+List.length ([List.getD U (Int.toNat I.1) ((0,0),((0,([],(0,0))),(0,false)))]:List t10)<=LIM) then
 some (Sum.inl (List.append s12.1 ([List.getD U (Int.toNat I.1) ((0,0),((0,([],(0,0))),(0,false)))]:List t10),IntKind.wrap .i64 (s12.2+1)))
 else none
 else none
 else none
 else
 some (Sum.inr (Sum.inl s12.1))) (([]:List t10),0)).bind fun j14=>
 Sum.elim (fun (j15:List t10)=>
 (Yw j15).bind fun y17=>
 (Qbl y17).bind fun y18=>
 some (y18,0)) (fun (J:List t10×Int)=>
 some (J.1,J.2)) j14
def J1 (I:t25) (x1:List UInt8):Option (Int):=
 (QG I.1 x1).bind fun J=>
 some (IntKind.wrap .i64 (J+1))
def Qdz (I:t10) (x1:Int):Option (Bool):=
 ((Yu I.2.2.1).bind fun U=>
 bif U then
 (Yu x1).bind fun y9=>
 bif y9 then
 bif (!I.2.2.2) then
 some true
 else
 some (decide ((IntKind.wrap .i64 (I.2.2.1+2):Int)<=x1))
 else
 some false
 else
 some false:Option (Bool)).bind fun J=>
 some J
def ZL (I:t25) (x1:Int) (x2:Int):Option (Bool):=
 (QV I.2 (x1,x2)).bind fun J=>
 some J
def Y8 (x0:t25) (x1:t6) (x2:Int) (x3:Int):Option (Int):=
 bif (decide ((x3:Int)<x1.2.2)) then
 some 9
 else
 (Qc (S:=Int×Int) (X:=Int) (fun s13=>
 bif (decide ((s13.2:Int)<(List.length x1.1:Int))) then
 bif (inB s13.2 x1.1) then
 (ZL x0 (List.getD x1.1 (Int.toNat s13.2) 0) x2).bind fun I=>
 (bif I then
 some (IntKind.wrap .i64 (s13.1+1))
 else
 some s13.1:Option (Int)).bind fun J=>
 some (Sum.inl (J,IntKind.wrap .i64 (s13.2+1)))
 else none
 else
 some (Sum.inr s13.1)) (0,0)).bind fun U=>
 bif (decide ((U:Int)<x1.2.1)) then
 some 6
 else
 some 0
def Qd3 (I:List t10):Option (Int):=
 (Qc (S:=Int×Int) (X:=Int) (fun s3=>
 bif (decide ((s3.2:Int)<(List.length I:Int))) then
 bif (inB s3.2 I) then
 some (Sum.inl (IntKind.wrap .i64 (s3.1+(List.getD I (Int.toNat s3.2) ((0,0),((0,([],(0,0))),(0,false)))).2.1.1),IntKind.wrap .i64 (s3.2+1)))
 else none
 else
 some (Sum.inr s3.1)) (0,0)).bind fun J=>
 some J
def Qdh (I:t14):Option (Int):=
 (Qc (S:=Int×Int) (X:=Int) (fun s3=>
 bif (decide ((s3.2:Int)<(List.length I.2.2.2:Int))) then
 bif (inB s3.2 I.2.2.2) then
 some (Sum.inl (IntKind.wrap .i64 (s3.1+(List.getD I.2.2.2 (Int.toNat s3.2) (0,([],(0,0)))).1),IntKind.wrap .i64 (s3.2+1)))
 else none
 else
 some (Sum.inr s3.1)) (0,0)).bind fun J=>
 some J
def Je (x0:t25) (x1:List t10) (x2:t14) (x3:Int):Option (Int×Int):=
 (Qbz x2).bind fun J=>
 bif (!decide ((J.2:Int)=0)) then
 some (0,J.2)
 else
 (J1 x0 J.1).bind fun U=>
 bif (decide ((U:Int)=0)) then
 some (0,4)
 else
 (JB x1 x2).bind fun I=>
 bif (!decide ((I.2:Int)=0)) then
 some (0,I.2)
 else
 (Qc (S:=Int) (X:=(Unit)⊕(Int×Int)) (fun s26=>
 bif (decide ((s26:Int)<(List.length I.1:Int))) then
 bif (inB s26 I.1) then
 (Qdz (List.getD I.1 (Int.toNat s26) ((0,0),((0,([],(0,0))),(0,false)))) x3).bind fun y27=>
 bif (!y27) then
 some (Sum.inr (Sum.inr (0,9)))
 else
 (Y8 x0 (List.getD I.1 (Int.toNat s26) ((0,0),((0,([],(0,0))),(0,false)))).2.1.2 U x3).bind fun y28=>
 bif (!decide ((y28:Int)=0)) then
 some (Sum.inr (Sum.inr (0,y28)))
 else
 some (Sum.inl (IntKind.wrap .i64 (s26+1)))
 else none
 else
 some (Sum.inr (Sum.inl ()))) 0).bind fun j29=>
 Sum.elim (fun (j30:Unit)=>
 (Qd3 I.1).bind fun y32=>
 (Qdh x2).bind fun y33=>
 (bif (decide ((x2.1:Int)=2)) then
 (ZL x0 x2.2.1 U).bind fun y35=>
 some (!y35)
 else
 some false:Option (Bool)).bind fun j36=>
 bif j36 then
 some (0,6)
 else
 bif (decide ((IntKind.wrap .i64 (y32 - y33):Int)<0)) then
 some (0,8)
 else
 some (IntKind.wrap .i64 (y32 - y33),0)) (fun (j31:Int×Int)=>
 some (j31.1,j31.2)) j29
def QY (J:List t11) (x1:Int) (x2:t11->Int->Option Int):Option (Int×Bool):=
 (Qc (S:=Int×Int) (X:=Int) (fun s16=>
 bif (decide ((s16.1:Int)<s16.2)) then
 bif (inB (IntKind.wrap .i64 (Int.fdiv (IntKind.wrap .u64 (IntKind.wrap .i64 (s16.1+s16.2))) (2 ^ 1))) J) then
 (x2 (List.getD J (Int.toNat (IntKind.wrap .i64 (Int.fdiv (IntKind.wrap .u64 (IntKind.wrap .i64 (s16.1+s16.2))) (2 ^ 1)))) (0,(0,0))) x1).bind fun y17=>
 (bif (decide ((y17:Int)<0)) then
 some (IntKind.wrap .i64 ((IntKind.wrap .i64 (Int.fdiv (IntKind.wrap .u64 (IntKind.wrap .i64 (s16.1+s16.2))) (2 ^ 1)))+1),s16.2)
 else
 some (s16.1,IntKind.wrap .i64 (Int.fdiv (IntKind.wrap .u64 (IntKind.wrap .i64 (s16.1+s16.2))) (2 ^ 1))):Option (Int×Int)).bind fun U=>
 some (Sum.inl (U.1,U.2))
 else none
 else
 some (Sum.inr s16.1)) (0,(List.length J:Int))).bind fun I=>
 (bif (decide ((I:Int)<(List.length J:Int))) then
 bif (inB I J) then
 (x2 (List.getD J (Int.toNat I) (0,(0,0))) x1).bind fun y21=>
 some (I,decide ((y21:Int)=0))
 else none
 else
 some (I,false):Option (Int×Bool)).bind fun j22=>
 some (j22.1,j22.2)
def Jv (I:t11) (x1:Int):Option (Int):=
 (Z0 I.1 x1).bind fun J=>
 some J
def Yy (J:List t11) (x1:Int):Option (Int×Bool):=
 (QY J x1 (fun (a5:t11) (U:Int)=>(Jv a5 U).bind fun r7=>some r7)).bind fun I=>
 some (I.1,I.2)
def QB (I:List t11) (x1:Int) (x2:Int):Option (List t11):=
 delS I x1 x2
def QK (I:List t11) (x1:t11->Option Bool):Option (Int):=
 (Qc (S:=Int) (X:=(Unit)⊕(Int)) (fun s10=>
 bif (decide ((s10:Int)<(List.length I:Int))) then
 bif (inB s10 I) then
 (x1 (List.getD I (Int.toNat s10) (0,(0,0)))).bind fun J=>
 bif J then
 some (Sum.inr (Sum.inr s10))
 else
 some (Sum.inl (IntKind.wrap .i64 (s10+1)))
 else none
 else
 some (Sum.inr (Sum.inl ()))) 0).bind fun U=>
 Sum.elim (fun (j13:Unit)=>
 some (-1)) (fun (j14:Int)=>
 some j14) U
def Q0 (x0:List t11) (x1:t11->Option Bool):Option (List t11):=
 (QK x0 x1).bind fun J=>
 bif (decide ((J:Int)=(-1))) then
 some x0
 else
 (Qc (S:=List t11×Int×Int) (X:=List t11×Int) (fun s15=>
 bif (decide ((s15.2.2:Int)<(List.length s15.1:Int))) then
 bif (inB s15.2.2 s15.1) then
 (x1 (List.getD s15.1 (Int.toNat s15.2.2) (0,(0,0)))).bind fun y16=>
 (bif (!y16) then
 bif (inB s15.2.1 s15.1) then
 some (List.set s15.1 (Int.toNat s15.2.1) (List.getD s15.1 (Int.toNat s15.2.2) (0,(0,0))),IntKind.wrap .i64 (s15.2.1+1))
 else none
 else
 some (s15.1,s15.2.1):Option (List t11×Int)).bind fun U=>
 some (Sum.inl (U.1,(U.2,IntKind.wrap .i64 (s15.2.2+1))))
 else none
 else
 some (Sum.inr (s15.1,s15.2.1))) (x0,(J,IntKind.wrap .i64 (J+1)))).bind fun I=>
 bif (QO I.2 (List.length I.1:Int) I.1) then
 bif (QO 0 I.2 (clr (s:=(.prod (.int .i64) (.prod (.int .i64) (.int .i64)))) I.2 (List.length I.1:Int) I.1)) then
 some (List.take (Int.toNat (I.2 - 0)) (List.drop (Int.toNat 0) (clr (s:=(.prod (.int .i64) (.prod (.int .i64) (.int .i64)))) I.2 (List.length I.1:Int) I.1)))
 else none
 else none
def QU (I:List t11) (x1:t11->Option Bool):Option (Bool):=
 (QK I x1).bind fun J=>
 some (decide ((0:Int)<=J))
def Zt (I:List t11) (x1:Int) (x2:List t11):Option (List t11):=
 insS I x1 x2
def QaL (I:t11) (x1:t14):Option (Bool):=
 (QM x1.2.2.1 I.2).bind fun J=>
 some J
def QaT (I:t11) (x1:t5):Option (Bool):=
 some (Sh.beq (.prod (.int .i64) (.int .i64)) I.2 x1)
def Qad (x0:List t11) (x1:t14) (x2:Int):Option (List t11×Int):=
 (Jw x2).bind fun y22=>
 bif (!y22) then
 some (([]:List t11),3)
 else
 (QD x0).bind fun J=>
 (bif (decide ((x1.1:Int)=2)) then
 (Yy J x1.2.1).bind fun U=>
 bif (!U.2) then
 some (Sum.inr (([]:List t11),4))
 else
 (QB J U.1 (IntKind.wrap .i64 (U.1+1))).bind fun y27=>
 some (Sum.inl y27)
 else
 some (Sum.inl J):Option ((List t11)⊕(List t11×Int))).bind fun j28=>
 Sum.elim (fun (j29:List t11)=>
 (Q0 j29 (fun (a31:t11)=>(QaL a31 x1).bind fun r32=>some r32)).bind fun I=>
 bif (!decide ((x1.1:Int)=1)) then
 some (I,0)
 else
 (Yy I x1.2.1).bind fun y34=>
 (bif y34.2 then
 some true
 else
 (QU I (fun (a38:t11)=>(QaT a38 (x2,0)).bind fun r39=>some r39)).bind fun y40=>
 some y40:Option (Bool)).bind fun j41=>
 bif j41 then
 some (([]:List t11),7)
 else
 bif (decide (((List.length I:Int):Int)=8)) then
 some (([]:List t11),2)
 else
 (Zt I y34.1 ([(x1.2.1,(x2,0))]:List t11)).bind fun y42=>
 some (y42,0)) (fun (j30:List t11×Int)=>
 some (j30.1,j30.2)) j28
def Zz (I:List t10) (x1:t10->Option Bool):Option (Int):=
 (Qc (S:=Int) (X:=(Unit)⊕(Int)) (fun s10=>
 bif (decide ((s10:Int)<(List.length I:Int))) then
 bif (inB s10 I) then
 (x1 (List.getD I (Int.toNat s10) ((0,0),((0,([],(0,0))),(0,false))))).bind fun J=>
 bif J then
 some (Sum.inr (Sum.inr s10))
 else
 some (Sum.inl (IntKind.wrap .i64 (s10+1)))
 else none
 else
 some (Sum.inr (Sum.inl ()))) 0).bind fun U=>
 Sum.elim (fun (j13:Unit)=>
 some (-1)) (fun (j14:Int)=>
 some j14) U
def Zq (I:List t10) (x1:t10->Option Bool):Option (Bool):=
 (Zz I x1).bind fun J=>
 some (decide ((0:Int)<=J))
def Qd8 (I:t10) (x1:Int):Option (Bool):=
 some (decide ((I.1.1:Int)=x1))
def Qch (I:List t10) (x1:Int):Option (Bool):=
 (Zq I (fun (a4:t10)=>(Qd8 a4 x1).bind fun J=>some J)).bind fun U=>
 some U
def Y3 (x0:List t10) (x1:Int) (x2:List t7) (x3:Int) (x4:Bool):Option (List t10×Int):=
 ((Jw x1).bind fun y23=>
 bif (!y23) then
 some true
 else
 (Yu x3).bind fun y24=>
 some (!y24):Option (Bool)).bind fun j25=>
 bif j25 then
 some (([]:List t10),3)
 else
 bif (decide ((4:Int)<(List.length x2:Int))) then
 some (([]:List t10),2)
 else
 (Qc (S:=Int) (X:=(Unit)⊕(List t10×Int)) (fun s28=>
 bif (decide ((s28:Int)<(List.length x2:Int))) then
 bif (inB s28 x2) then
 (Ys (List.getD x2 (Int.toNat s28) (0,([],(0,0))))).bind fun J=>
 bif (!decide ((J:Int)=0)) then
 some (Sum.inr (Sum.inr (([]:List t10),J)))
 else
 some (Sum.inl (IntKind.wrap .i64 (s28+1)))
 else none
 else
 some (Sum.inr (Sum.inl ()))) 0).bind fun j30=>
 Sum.elim (fun (j31:Unit)=>
 (Qch x0 x1).bind fun y33=>
 bif y33 then
 some (([]:List t10),7)
 else
 bif (decide ((40:Int)<IntKind.wrap .i64 ((List.length x0:Int)+(List.length x2:Int)))) then
 some (([]:List t10),2)
 else
 (Yw x0).bind fun y34=>
 (Qc (S:=List t10×Int) (X:=List t10) (fun I=>
 bif (decide ((I.2:Int)<(List.length x2:Int))) then
 bif (inB I.2 x2) then
 (Qbt (List.getD x2 (Int.toNat I.2) (0,([],(0,0))))).bind fun U=>
 bif decide (List.length I.1+List.length ([((x1,I.2),(U,(x3,x4)))]:List t10)<=LIM) then
 some (Sum.inl (List.append I.1 ([((x1,I.2),(U,(x3,x4)))]:List t10),IntKind.wrap .i64 (I.2+1)))
 else none
 else none
 else
 some (Sum.inr I.1)) (y34,0)).bind fun j39=>
 (Qbl j39).bind fun y40=>
 some (y40,0)) (fun (j32:List t10×Int)=>
 some (j32.1,j32.2)) j30
def Zg (I:List t10) (x1:Int) (x2:Int):Option (List t10):=
 delS I x1 x2
def Qa9 (x0:List t10) (x1:List t5):Option (List t10×Int):=
 (Yw x0).bind fun U=>
 (Qc (S:=List t10×Int) (X:=(List t10)⊕(List t10×Int)) (fun s17=>
 bif (decide ((s17.2:Int)<(List.length x1:Int))) then
 bif (inB s17.2 x1) then
 (Y9 s17.1 (List.getD x1 (Int.toNat s17.2) (0,0))).bind fun I=>
 bif (!I.2) then
 some (Sum.inr (Sum.inr (([]:List t10),4)))
 else
 (Zg s17.1 I.1 (IntKind.wrap .i64 (I.1+1))).bind fun y19=>
 some (Sum.inl (y19,IntKind.wrap .i64 (s17.2+1)))
 else none
 else
 some (Sum.inr (Sum.inl s17.1))) (U,0)).bind fun j20=>
 Sum.elim (fun (j21:List t10)=>
 some (j21,0)) (fun (J:List t10×Int)=>
 some (J.1,J.2)) j20
def QcC (I:List t10) (x1:t14) (x2:Int) (x3:Int):Option (List t10×Int):=
 (JB I x1).bind fun J=>
 bif (!decide ((J.2:Int)=0)) then
 some (([]:List t10),J.2)
 else
 (Qch I x2).bind fun y6=>
 bif y6 then
 some (([]:List t10),7)
 else
 (Qa9 I x1.2.2.1).bind fun y7=>
 (Y3 y7.1 x2 x1.2.2.2 x3 false).bind fun U=>
 some (U.1,U.2)
def J7 (x0:t25) (x1:t21) (x2:Int) (x3:Int):Option (Int×List t10×Int×t21):=
 (Qah x0 x2).bind fun J=>
 bif (!decide ((J.2:Int)=0)) then
 some (0,(([]:List t10),(J.2,x1)))
 else
 (Je x0 x1.2.2.1 J.1 x3).bind fun U=>
 bif (!decide ((U.2:Int)=0)) then
 some (0,(([]:List t10),(U.2,x1)))
 else
 (Qad x1.2.2.2 J.1 x2).bind fun y8=>
 bif (!decide ((y8.2:Int)=0)) then
 some (0,(([]:List t10),(y8.2,x1)))
 else
 (JB x1.2.2.1 J.1).bind fun y9=>
 (QcC x1.2.2.1 J.1 x2 x3).bind fun I=>
 bif (!decide ((I.2:Int)=0)) then
 some (0,(([]:List t10),(I.2,x1)))
 else
 some (U.1,(y9.1,(0,(x1.1,(x1.2.1,(I.1,y8.1))))))
def QbM (I:Int):Option (Int):=
 bif (decide ((0:Int)<=IntKind.wrap .i64 (Int.tdiv (IntKind.wrap .i64 (I - 1)) 8))) then
 some (Int.fdiv 1000 (2 ^ (min (Int.toNat (IntKind.wrap .i64 (Int.tdiv (IntKind.wrap .i64 (I - 1)) 8))) 64)))
 else none
def Ja (x0:t25) (x1:t21) (x2:Int):Option (t24):=
 (Yj x0 x2).bind fun I=>
 bif (!decide ((I.2:Int)=0)) then
 some (I.2,(0,((0,([],[])),(0,(0,([],[]))))))
 else
 (bif (!decide ((I.1.1:Int)=x1.1)) then
 some true
 else
 some (!decide ((I.1.2.1:Int)=IntKind.wrap .i64 (x1.2.1+1))):Option (Bool)).bind fun j15=>
 bif j15 then
 some (10,(0,((0,([],[])),(0,(0,([],[]))))))
 else
 (Qb7 x1).bind fun y16=>
 (QD x1.2.2.2).bind fun y17=>
 (Qc (S:=Int×Int×t21×t18) (X:=(Int×t21×t18)⊕(t24)) (fun s20=>
 bif (decide ((s20.2.1:Int)<(List.length I.1.2.2.2:Int))) then
 bif (inB s20.2.1 I.1.2.2.2) then
 (J7 x0 s20.2.2.1 (List.getD I.1.2.2.2 (Int.toNat s20.2.1) 0) I.1.2.1).bind fun J=>
 bif (!decide ((J.2.2.1:Int)=0)) then
 some (Sum.inr (Sum.inr (J.2.2.1,(0,((0,([],[])),(0,(0,([],[]))))))))
 else
 bif decide (List.length s20.2.2.2.2.1+List.length ([J.2.1]:List (List t10))<=LIM) then
 some (Sum.inl (IntKind.wrap .i64 (s20.1+J.1),(IntKind.wrap .i64 (s20.2.1+1),(J.2.2.2,(s20.2.2.2.1,(List.append s20.2.2.2.2.1 ([J.2.1]:List (List t10)),s20.2.2.2.2.2))))))
 else none
 else none
 else
 some (Sum.inr (Sum.inl (s20.1,(s20.2.2.1,s20.2.2.2))))) (0,(0,(y16,(x2,([],y17)))))).bind fun j22=>
 Sum.elim (fun (U:Int×t21×t18)=>
 (QbM I.1.2.1).bind fun y25=>
 bif (decide ((1000000:Int)<IntKind.wrap .i64 (y25+U.1))) then
 some (8,(0,((0,([],[])),(0,(0,([],[]))))))
 else
 (Y3 U.2.1.2.2.1 x2 ([(IntKind.wrap .i64 (y25+U.1),(([I.1.2.2.1]:List Int),(1,0)))]:List t7) I.1.2.1 true).bind fun y26=>
 bif (!decide ((y26.2:Int)=0)) then
 some (y26.2,(0,((0,([],[])),(0,(0,([],[]))))))
 else
 some (0,(U.1,(U.2.2,(x2,(I.1.2.1,(y26.1,U.2.1.2.2.2))))))) (fun (j24:t24)=>
 some j24) j22
def Y2 (x0:t25) (x1:List Int):Option (t24×List t18):=
 (Qc (S:=List t18×Int×t24) (X:=(List t18×t24)⊕(List t18×t24)) (fun s10=>
 bif (decide ((s10.2.1:Int)<(List.length x1:Int))) then
 bif (inB s10.2.1 x1) then
 (Ja x0 s10.2.2.2.2.2 (List.getD x1 (Int.toNat s10.2.1) 0)).bind fun I=>
 bif (!decide ((I.1:Int)=0)) then
 some (Sum.inr (Sum.inr (([]:List t18),(I.1,(0,((0,([],[])),(0,(0,([],[])))))))))
 else
 bif decide (List.length s10.1+List.length ([I.2.2.1]:List t18)<=LIM) then
 some (Sum.inl (List.append s10.1 ([I.2.2.1]:List t18),(IntKind.wrap .i64 (s10.2.1+1),(0,(IntKind.wrap .i64 (s10.2.2.2.1+I.2.1),((0,([],[])),I.2.2.2))))))
 else none
 else none
 else
 some (Sum.inr (Sum.inl (s10.1,s10.2.2)))) (([]:List t18),(0,(0,(0,((0,([],[])),(0,(0,([],[]))))))))).bind fun j12=>
 Sum.elim (fun (J:List t18×t24)=>
 some (J.2,J.1)) (fun (U:List t18×t24)=>
 some (U.2,U.1)) j12
def YD (I:List Int):Option (List Int):=
 bif Nat.ble (List.length I) 9223372036854775807 then some (List.reverse I) else none
def Qbj (I:List t11) (x1:Int):Option (List Int):=
 (ZI I x1).bind fun y8=>
 (Qc (S:=List Int×Int) (X:=List Int) (fun s11=>
 bif (decide ((0:Int)<=s11.2)) then
 bif (inB s11.2 I) then
 bif decide (List.length s11.1+List.length ([(List.getD I (Int.toNat s11.2) (0,(0,0))).1]:List Int)<=LIM) then
 bif (inB s11.2 I) then
 (ZI I (List.getD I (Int.toNat s11.2) (0,(0,0))).2.1).bind fun J=>
 some (Sum.inl (List.append s11.1 ([(List.getD I (Int.toNat s11.2) (0,(0,0))).1]:List Int),J))
 else none
 else none
 else none
 else
 some (Sum.inr s11.1)) (([]:List Int),y8)).bind fun U=>
 (YD U).bind fun y14=>
 some y14
def YG (I:t29) (x1:Int):Option (t24×List t18):=
 (Qbj I.2.1 x1).bind fun U=>
 (Y2 I.1 U).bind fun J=>
 some (J.1,J.2)
def YF (J:t29):Option (Int):=
 (Qc (S:=Int) (X:=(Unit)⊕(Int)) (fun s20=>
 bif (decide ((s20:Int)<(List.length J.2.1:Int))) then
 bif (inB s20 J.2.1) then
 (Yj J.1 (List.getD J.2.1 (Int.toNat s20) (0,(0,0))).1).bind fun I=>
 bif (!decide ((I.2:Int)=0)) then
 some (Sum.inr (Sum.inr I.2))
 else
 (bif (!decide ((I.1.1:Int)=(List.getD J.2.1 (Int.toNat s20) (0,(0,0))).2.1)) then
 some true
 else
 some (!decide ((I.1.2.1:Int)=(List.getD J.2.1 (Int.toNat s20) (0,(0,0))).2.2)):Option (Bool)).bind fun j22=>
 bif j22 then
 some (Sum.inr (Sum.inr 1))
 else
 (YG J (List.getD J.2.1 (Int.toNat s20) (0,(0,0))).1).bind fun U=>
 bif (!decide ((U.1.1:Int)=0)) then
 some (Sum.inr (Sum.inr U.1.1))
 else
 some (Sum.inl (IntKind.wrap .i64 (s20+1)))
 else none
 else
 some (Sum.inr (Sum.inl ()))) 0).bind fun j24=>
 Sum.elim (fun (j25:Unit)=>
 some 0) (fun (j26:Int)=>
 some j26) j24
def Qgr (I:List t11) (x1:Int):Option (Bool):=
 (ZI I x1).bind fun J=>
 some (decide ((0:Int)<=J))
def QaS (I:List t11) (x1:Int) (x2:Int):Option (Bool):=
 (Qbj I x2).bind fun J=>
 (Zi J x1).bind fun U=>
 some U
def QaH (J:List t11) (x1:Int) (x2:Int):Option (Bool):=
 ((QaS J x1 x2).bind fun U=>
 bif U then
 some true
 else
 (QaS J x2 x1).bind fun y9=>
 some y9:Option (Bool)).bind fun I=>
 some I
def JO (I:Int) (x1:t29) (x2:Int):Option (Bool):=
 (QaH x1.2.1 I x2).bind fun J=>
 some (!J)
def Y4 (I:t29) (x1:List Int) (x2:Int):Option (Bool):=
 (QR x1 (fun (a4:Int)=>(JO a4 I x2).bind fun J=>some J)).bind fun U=>
 some (!U)
def YE (I:t29):Option (Int):=
 (Qc (S:=Int) (X:=(Unit)⊕(Int)) (fun s15=>
 bif (decide ((s15:Int)<(List.length I.2.2.1:Int))) then
 bif (inB s15 I.2.2.1) then
 (Qgr I.2.1 (List.getD I.2.2.1 (Int.toNat s15) 0)).bind fun J=>
 bif (!J) then
 some (Sum.inr (Sum.inr 4))
 else
 bif (QO 0 s15 I.2.2.1) then
 (Y4 I (cut 0 s15 I.2.2.1) (List.getD I.2.2.1 (Int.toNat s15) 0)).bind fun U=>
 bif (!U) then
 some (Sum.inr (Sum.inr 10))
 else
 some (Sum.inl (IntKind.wrap .i64 (s15+1)))
 else none
 else none
 else
 some (Sum.inr (Sum.inl ()))) 0).bind fun j18=>
 Sum.elim (fun (j19:Unit)=>
 some 0) (fun (j20:Int)=>
 some j20) j18
def Qa6 (J:Int) (x1:List t11) (x2:t11):Option (Bool):=
 ((QaH x1 J x2.1).bind fun y8=>
 bif (!y8) then
 some true
 else
 (ZI x1 J).bind fun U=>
 bif (inB U x1) then
 some (decide ((x2.2.2:Int)<(List.getD x1 (Int.toNat U) (0,(0,0))).2.2))
 else none:Option (Bool)).bind fun I=>
 some I
def QdB (I:List t11) (x1:List Int):Option (Int):=
 (Qc (S:=Int×t11) (X:=t11) (fun s28=>
 bif (decide ((s28.1:Int)<(List.length I:Int))) then
 bif (inB s28.1 I) then
 (QR x1 (fun (J:Int)=>(Qa6 J I (List.getD I (Int.toNat s28.1) (0,(0,0)))).bind fun U=>some U)).bind fun y31=>
 (bif (!y31) then
 some (decide ((s28.2.2.2:Int)<(List.getD I (Int.toNat s28.1) (0,(0,0))).2.2))
 else
 some false:Option (Bool)).bind fun j32=>
 (bif j32 then
 some (List.getD I (Int.toNat s28.1) (0,(0,0)))
 else
 some s28.2:Option (t11)).bind fun j33=>
 some (Sum.inl (IntKind.wrap .i64 (s28.1+1),j33))
 else none
 else
 some (Sum.inr s28.2)) (0,(0,(0,0)))).bind fun j34=>
 some j34.1
def Qy (I:List t10) (x1:List t10) (x2:t10->t10->Option Bool):Option (Bool):=
 bif (!decide (((List.length I:Int):Int)=(List.length x1:Int))) then
 some false
 else
 (Qc (S:=Int) (X:=(Unit)⊕(Bool)) (fun s10=>
 bif (decide ((s10:Int)<(List.length I:Int))) then
 bif (inB s10 I) then
 bif (inB s10 x1) then
 (x2 (List.getD I (Int.toNat s10) ((0,0),((0,([],(0,0))),(0,false)))) (List.getD x1 (Int.toNat s10) ((0,0),((0,([],(0,0))),(0,false))))).bind fun J=>
 bif (!J) then
 some (Sum.inr (Sum.inr false))
 else
 some (Sum.inl (IntKind.wrap .i64 (s10+1)))
 else none
 else none
 else
 some (Sum.inr (Sum.inl ()))) 0).bind fun U=>
 Sum.elim (fun (j13:Unit)=>
 some true) (fun (j14:Bool)=>
 some j14) U
def ZX (I:List Int) (x1:List Int):Option (Bool):=
 bif (!decide (((List.length I:Int):Int)=(List.length x1:Int))) then
 some false
 else
 (Qc (S:=Int) (X:=(Unit)⊕(Bool)) (fun s5=>
 bif (decide ((s5:Int)<(List.length I:Int))) then
 bif (inB s5 I) then
 bif (inB s5 x1) then
 bif (!decide ((List.getD I (Int.toNat s5) 0:Int)=List.getD x1 (Int.toNat s5) 0)) then
 some (Sum.inr (Sum.inr false))
 else
 some (Sum.inl (IntKind.wrap .i64 (s5+1)))
 else none
 else none
 else
 some (Sum.inr (Sum.inl ()))) 0).bind fun J=>
 Sum.elim (fun (j7:Unit)=>
 some true) (fun (U:Bool)=>
 some U) J
def Qbe (I:t6) (x1:t6):Option (Bool):=
 ((ZX I.1 x1.1).bind fun J=>
 bif J then
 bif (decide ((I.2.1:Int)=x1.2.1)) then
 some (decide ((I.2.2:Int)=x1.2.2))
 else
 some false
 else
 some false:Option (Bool)).bind fun U=>
 some U
def QbN (I:t7) (x1:t7):Option (Bool):=
 (bif (decide ((I.1:Int)=x1.1)) then
 (Qbe I.2 x1.2).bind fun J=>
 some J
 else
 some false:Option (Bool)).bind fun U=>
 some U
def QbP (I:t10) (x1:t10):Option (Bool):=
 (bif (Sh.beq (.prod (.int .i64) (.int .i64)) I.1 x1.1) then
 (QbN I.2.1 x1.2.1).bind fun J=>
 bif J then
 bif (decide ((I.2.2.1:Int)=x1.2.2.1)) then
 some (Sh.beq .bool I.2.2.2 x1.2.2.2)
 else
 some false
 else
 some false
 else
 some false:Option (Bool)).bind fun U=>
 some U
def JS (I:List t10) (x1:List t10):Option (Bool):=
 (Qy I x1 (fun (a5:t10) (J:t10)=>(QbP a5 J).bind fun U=>some U)).bind fun y8=>
 some y8
def Za (I:List t11) (x1:List t11):Option (Bool):=
 bif (!decide (((List.length I:Int):Int)=(List.length x1:Int))) then
 some false
 else
 (Qc (S:=Int) (X:=(Unit)⊕(Bool)) (fun s5=>
 bif (decide ((s5:Int)<(List.length I:Int))) then
 bif (inB s5 I) then
 bif (inB s5 x1) then
 bif (!(Sh.beq (.prod (.int .i64) (.prod (.int .i64) (.int .i64))) (List.getD I (Int.toNat s5) (0,(0,0))) (List.getD x1 (Int.toNat s5) (0,(0,0))))) then
 some (Sum.inr (Sum.inr false))
 else
 some (Sum.inl (IntKind.wrap .i64 (s5+1)))
 else none
 else none
 else
 some (Sum.inr (Sum.inl ()))) 0).bind fun J=>
 Sum.elim (fun (j7:Unit)=>
 some true) (fun (U:Bool)=>
 some U) J
def Y1 (I:List t11) (x1:List t11):Option (Bool):=
 (Za I x1).bind fun J=>
 some J
def QaF (I:t21) (x1:t21):Option (Bool):=
 (bif (decide ((I.1:Int)=x1.1)) then
 bif (decide ((I.2.1:Int)=x1.2.1)) then
 (JS I.2.2.1 x1.2.2.1).bind fun U=>
 bif U then
 (Y1 I.2.2.2 x1.2.2.2).bind fun y9=>
 some y9
 else
 some false
 else
 some false
 else
 some false:Option (Bool)).bind fun J=>
 some J
def Qw (I:List t18) (x1:List t18) (x2:t18->t18->Option Bool):Option (Bool):=
 bif (!decide (((List.length I:Int):Int)=(List.length x1:Int))) then
 some false
 else
 (Qc (S:=Int) (X:=(Unit)⊕(Bool)) (fun s10=>
 bif (decide ((s10:Int)<(List.length I:Int))) then
 bif (inB s10 I) then
 bif (inB s10 x1) then
 (x2 (List.getD I (Int.toNat s10) (0,([],[]))) (List.getD x1 (Int.toNat s10) (0,([],[])))).bind fun J=>
 bif (!J) then
 some (Sum.inr (Sum.inr false))
 else
 some (Sum.inl (IntKind.wrap .i64 (s10+1)))
 else none
 else none
 else
 some (Sum.inr (Sum.inl ()))) 0).bind fun U=>
 Sum.elim (fun (j13:Unit)=>
 some true) (fun (j14:Bool)=>
 some j14) U
def Qr (I:List (List t10)) (x1:List (List t10)) (x2:(List t10)->(List t10)->Option Bool):Option (Bool):=
 bif (!decide (((List.length I:Int):Int)=(List.length x1:Int))) then
 some false
 else
 (Qc (S:=Int) (X:=(Unit)⊕(Bool)) (fun s10=>
 bif (decide ((s10:Int)<(List.length I:Int))) then
 bif (inB s10 I) then
 bif (inB s10 x1) then
 (x2 (List.getD I (Int.toNat s10) []) (List.getD x1 (Int.toNat s10) [])).bind fun J=>
 bif (!J) then
 some (Sum.inr (Sum.inr false))
 else
 some (Sum.inl (IntKind.wrap .i64 (s10+1)))
 else none
 else none
 else
 some (Sum.inr (Sum.inl ()))) 0).bind fun U=>
 Sum.elim (fun (j13:Unit)=>
 some true) (fun (j14:Bool)=>
 some j14) U
def Qa7 (I:t18) (x1:t18):Option (Bool):=
 (bif (decide ((I.1:Int)=x1.1)) then
 (Qr I.2.1 x1.2.1 (fun (a17:List t10) (J:List t10)=>(JS a17 J).bind fun U=>some U)).bind fun y20=>
 bif y20 then
 (Y1 I.2.2 x1.2.2).bind fun y21=>
 some y21
 else
 some false
 else
 some false:Option (Bool)).bind fun j22=>
 some j22
def Qaw (I:t29):Option (Int):=
 (Qan I.1).bind fun J=>
 bif (!decide ((J:Int)=0)) then
 some J
 else
 (Qa8 I.2.1).bind fun U=>
 bif (!decide ((U:Int)=0)) then
 some U
 else
 bif (decide ((20:Int)<(List.length I.2.2.1:Int))) then
 some 2
 else
 (YF I).bind fun y14=>
 bif (!decide ((y14:Int)=0)) then
 some y14
 else
 (YE I).bind fun y15=>
 bif (!decide ((y15:Int)=0)) then
 some y15
 else
 (QdB I.2.1 I.2.2.1).bind fun y16=>
 bif (!decide ((I.2.2.2.1.1:Int)=y16)) then
 some 10
 else
 (YG I I.2.2.2.1.1).bind fun y17=>
 (QaF y17.1.2.2.2 I.2.2.2.1).bind fun y18=>
 bif (!y18) then
 some 10
 else
 (Qw y17.2 I.2.2.2.2 (fun (a19:t18) (a20:t18)=>(Qa7 a19 a20).bind fun r21=>some r21)).bind fun y22=>
 bif (!y22) then
 some 1
 else
 some 0
def Qbb (I:List (List UInt8)) (x1:List (List UInt8)):Option (Bool):=
 bif (!decide (((List.length I:Int):Int)=(List.length x1:Int))) then
 some false
 else
 (Qc (S:=Int) (X:=(Unit)⊕(Bool)) (fun s5=>
 bif (decide ((s5:Int)<(List.length I:Int))) then
 bif (inB s5 I) then
 bif (inB s5 x1) then
 bif (!decide ((List.getD I (Int.toNat s5) []:List UInt8)=List.getD x1 (Int.toNat s5) [])) then
 some (Sum.inr (Sum.inr false))
 else
 some (Sum.inl (IntKind.wrap .i64 (s5+1)))
 else none
 else none
 else
 some (Sum.inr (Sum.inl ()))) 0).bind fun J=>
 Sum.elim (fun (j7:Unit)=>
 some true) (fun (U:Bool)=>
 some U) J
def Qdo (I:t5) (x1:t5):Option (Bool):=
 bif (!decide ((I.1:Int)=x1.1)) then
 some false
 else
 bif (!decide ((I.2:Int)=x1.2)) then
 some false
 else
 some true
def QcF (I:List t5) (x1:List t5):Option (Bool):=
 bif (!decide (((List.length I:Int):Int)=(List.length x1:Int))) then
 some false
 else
 (Qc (S:=Int) (X:=(Unit)⊕(Bool)) (fun s10=>
 bif (decide ((s10:Int)<(List.length I:Int))) then
 bif (inB s10 I) then
 bif (inB s10 x1) then
 (Qdo (List.getD I (Int.toNat s10) (0,0)) (List.getD x1 (Int.toNat s10) (0,0))).bind fun J=>
 bif (!J) then
 some (Sum.inr (Sum.inr false))
 else
 some (Sum.inl (IntKind.wrap .i64 (s10+1)))
 else none
 else none
 else
 some (Sum.inr (Sum.inl ()))) 0).bind fun U=>
 Sum.elim (fun (j13:Unit)=>
 some true) (fun (j14:Bool)=>
 some j14) U
def QbT (I:t25) (x1:t25):Option (Bool):=
 (Qbb I.1 x1.1).bind fun J=>
 bif (!J) then
 some false
 else
 (QcF I.2 x1.2).bind fun U=>
 bif (!U) then
 some false
 else
 some true
def Qdm (I:t11) (x1:t11):Option (Bool):=
 bif (!decide ((I.1:Int)=x1.1)) then
 some false
 else
 bif (!decide ((I.2.1:Int)=x1.2.1)) then
 some false
 else
 bif (!decide ((I.2.2:Int)=x1.2.2)) then
 some false
 else
 some true
def QcT (I:List t11) (x1:List t11):Option (Bool):=
 bif (!decide (((List.length I:Int):Int)=(List.length x1:Int))) then
 some false
 else
 (Qc (S:=Int) (X:=(Unit)⊕(Bool)) (fun s10=>
 bif (decide ((s10:Int)<(List.length I:Int))) then
 bif (inB s10 I) then
 bif (inB s10 x1) then
 (Qdm (List.getD I (Int.toNat s10) (0,(0,0))) (List.getD x1 (Int.toNat s10) (0,(0,0)))).bind fun J=>
 bif (!J) then
 some (Sum.inr (Sum.inr false))
 else
 some (Sum.inl (IntKind.wrap .i64 (s10+1)))
 else none
 else none
 else
 some (Sum.inr (Sum.inl ()))) 0).bind fun U=>
 Sum.elim (fun (j13:Unit)=>
 some true) (fun (j14:Bool)=>
 some j14) U
def Qaa (I:List Int) (x1:List Int):Option (Bool):=
 bif (!decide (((List.length I:Int):Int)=(List.length x1:Int))) then
 some false
 else
 (Qc (S:=Int) (X:=(Unit)⊕(Bool)) (fun s5=>
 bif (decide ((s5:Int)<(List.length I:Int))) then
 bif (inB s5 I) then
 bif (inB s5 x1) then
 bif (!decide ((List.getD I (Int.toNat s5) 0:Int)=List.getD x1 (Int.toNat s5) 0)) then
 some (Sum.inr (Sum.inr false))
 else
 some (Sum.inl (IntKind.wrap .i64 (s5+1)))
 else none
 else none
 else
 some (Sum.inr (Sum.inl ()))) 0).bind fun J=>
 Sum.elim (fun (j7:Unit)=>
 some true) (fun (U:Bool)=>
 some U) J
def Qcb (I:t5) (x1:t5):Option (Bool):=
 bif (!decide ((I.1:Int)=x1.1)) then
 some false
 else
 bif (!decide ((I.2:Int)=x1.2)) then
 some false
 else
 some true
def Qdb (I:t6) (x1:t6):Option (Bool):=
 (Qaa I.1 x1.1).bind fun J=>
 bif (!J) then
 some false
 else
 bif (!decide ((I.2.1:Int)=x1.2.1)) then
 some false
 else
 bif (!decide ((I.2.2:Int)=x1.2.2)) then
 some false
 else
 some true
def Qem (I:t7) (x1:t7):Option (Bool):=
 bif (!decide ((I.1:Int)=x1.1)) then
 some false
 else
 (Qdb I.2 x1.2).bind fun J=>
 bif (!J) then
 some false
 else
 some true
def Qdk (I:t10) (x1:t10):Option (Bool):=
 (Qcb I.1 x1.1).bind fun J=>
 bif (!J) then
 some false
 else
 (Qem I.2.1 x1.2.1).bind fun U=>
 bif (!U) then
 some false
 else
 bif (!decide ((I.2.2.1:Int)=x1.2.2.1)) then
 some false
 else
 bif (!(Sh.beq .bool I.2.2.2 x1.2.2.2)) then
 some false
 else
 some true
def QaX (I:List t10) (x1:List t10):Option (Bool):=
 bif (!decide (((List.length I:Int):Int)=(List.length x1:Int))) then
 some false
 else
 (Qc (S:=Int) (X:=(Unit)⊕(Bool)) (fun s10=>
 bif (decide ((s10:Int)<(List.length I:Int))) then
 bif (inB s10 I) then
 bif (inB s10 x1) then
 (Qdk (List.getD I (Int.toNat s10) ((0,0),((0,([],(0,0))),(0,false)))) (List.getD x1 (Int.toNat s10) ((0,0),((0,([],(0,0))),(0,false))))).bind fun J=>
 bif (!J) then
 some (Sum.inr (Sum.inr false))
 else
 some (Sum.inl (IntKind.wrap .i64 (s10+1)))
 else none
 else none
 else
 some (Sum.inr (Sum.inl ()))) 0).bind fun U=>
 Sum.elim (fun (j13:Unit)=>
 some true) (fun (j14:Bool)=>
 some j14) U
def Qb4 (I:t11) (x1:t11):Option (Bool):=
 bif (!decide ((I.1:Int)=x1.1)) then
 some false
 else
 (Qcb I.2 x1.2).bind fun J=>
 bif (!J) then
 some false
 else
 some true
def JP (I:List t11) (x1:List t11):Option (Bool):=
 bif (!decide (((List.length I:Int):Int)=(List.length x1:Int))) then
 some false
 else
 (Qc (S:=Int) (X:=(Unit)⊕(Bool)) (fun s10=>
 bif (decide ((s10:Int)<(List.length I:Int))) then
 bif (inB s10 I) then
 bif (inB s10 x1) then
 (Qb4 (List.getD I (Int.toNat s10) (0,(0,0))) (List.getD x1 (Int.toNat s10) (0,(0,0)))).bind fun J=>
 bif (!J) then
 some (Sum.inr (Sum.inr false))
 else
 some (Sum.inl (IntKind.wrap .i64 (s10+1)))
 else none
 else none
 else
 some (Sum.inr (Sum.inl ()))) 0).bind fun U=>
 Sum.elim (fun (j13:Unit)=>
 some true) (fun (j14:Bool)=>
 some j14) U
def QcK (I:t21) (x1:t21):Option (Bool):=
 bif (!decide ((I.1:Int)=x1.1)) then
 some false
 else
 bif (!decide ((I.2.1:Int)=x1.2.1)) then
 some false
 else
 (QaX I.2.2.1 x1.2.2.1).bind fun J=>
 bif (!J) then
 some false
 else
 (JP I.2.2.2 x1.2.2.2).bind fun U=>
 bif (!U) then
 some false
 else
 some true
def QbX (I:List (List t10)) (x1:List (List t10)):Option (Bool):=
 bif (!decide (((List.length I:Int):Int)=(List.length x1:Int))) then
 some false
 else
 (Qc (S:=Int) (X:=(Unit)⊕(Bool)) (fun s10=>
 bif (decide ((s10:Int)<(List.length I:Int))) then
 bif (inB s10 I) then
 bif (inB s10 x1) then
 (QaX (List.getD I (Int.toNat s10) []) (List.getD x1 (Int.toNat s10) [])).bind fun J=>
 bif (!J) then
 some (Sum.inr (Sum.inr false))
 else
 some (Sum.inl (IntKind.wrap .i64 (s10+1)))
 else none
 else none
 else
 some (Sum.inr (Sum.inl ()))) 0).bind fun U=>
 Sum.elim (fun (j13:Unit)=>
 some true) (fun (j14:Bool)=>
 some j14) U
def QdA (I:t18) (x1:t18):Option (Bool):=
 bif (!decide ((I.1:Int)=x1.1)) then
 some false
 else
 (QbX I.2.1 x1.2.1).bind fun J=>
 bif (!J) then
 some false
 else
 (JP I.2.2 x1.2.2).bind fun U=>
 bif (!U) then
 some false
 else
 some true
def QcI (I:List t18) (x1:List t18):Option (Bool):=
 bif (!decide (((List.length I:Int):Int)=(List.length x1:Int))) then
 some false
 else
 (Qc (S:=Int) (X:=(Unit)⊕(Bool)) (fun s10=>
 bif (decide ((s10:Int)<(List.length I:Int))) then
 bif (inB s10 I) then
 bif (inB s10 x1) then
 (QdA (List.getD I (Int.toNat s10) (0,([],[]))) (List.getD x1 (Int.toNat s10) (0,([],[])))).bind fun J=>
 bif (!J) then
 some (Sum.inr (Sum.inr false))
 else
 some (Sum.inl (IntKind.wrap .i64 (s10+1)))
 else none
 else none
 else
 some (Sum.inr (Sum.inl ()))) 0).bind fun U=>
 Sum.elim (fun (j13:Unit)=>
 some true) (fun (j14:Bool)=>
 some j14) U
def QcY (I:t29) (x1:t29):Option (Bool):=
 (QbT I.1 x1.1).bind fun U=>
 bif (!U) then
 some false
 else
 (QcT I.2.1 x1.2.1).bind fun y7=>
 bif (!y7) then
 some false
 else
 (Qaa I.2.2.1 x1.2.2.1).bind fun y8=>
 bif (!y8) then
 some false
 else
 (QcK I.2.2.2.1 x1.2.2.2.1).bind fun y9=>
 bif (!y9) then
 some false
 else
 (QcI I.2.2.2.2 x1.2.2.2.2).bind fun J=>
 bif (!J) then
 some false
 else
 some true
def JU (J:t29):Option (Bool):=
 (Qct J 1048576).bind fun y8=>
 bif (decide ((y8:Int)<0)) then
 some true
 else
 (JG J).bind fun y9=>
 (Qaz y9).bind fun U=>
 (JG J).bind fun I=>
 (Qaw I).bind fun y12=>
 bif (!decide ((y12:Int)=U)) then
 some false
 else
 (JG J).bind fun y13=>
 (QcY I y13).bind fun y14=>
 bif (!y14) then
 some false
 else
 some true
end GL
end Go.Dx
end
