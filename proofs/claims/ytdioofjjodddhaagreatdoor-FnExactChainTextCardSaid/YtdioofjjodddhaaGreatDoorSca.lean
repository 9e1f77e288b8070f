/- What each function computes, as a function of plain data (F), its parameters (K) and hints for the executor (X); the types -/
import Derived.Test.YtdioofjjodddhaaGreatDoorDxd
import Derived.Test.YtdioofjjodddhaaGreatDoorProg
import Derived.KernelRfl
set_option linter.unusedVariables false
set_option linter.unusedSimpArgs false
set_option maxRecDepth 100000
set_option maxHeartbeats 0
noncomputable section
namespace Go.Dx
open Go.Proofs
namespace GL
def s0:Sh:=(.prod (.int .i64) (.int .i64))
def s1:Sh:=(.prod (.list .str) (.list s0))
def s2:Sh:=(.prod (.int .i64) s0)
def s3:Sh:=(.prod (.list (.int .i64)) s0)
def s4:Sh:=(.prod (.int .i64) s3)
def s5:Sh:=(.prod (.int .i64) .bool)
def s6:Sh:=(.prod s4 s5)
def s7:Sh:=(.prod s0 s6)
def s8:Sh:=(.prod (.list s7) (.list s2))
def s9:Sh:=(.prod (.int .i64) s8)
def s10:Sh:=(.prod (.int .i64) s9)
def s11:Sh:=(.prod (.list (.list s7)) (.list s2))
def s12:Sh:=(.prod (.int .i64) s11)
def s13:Sh:=(.prod s10 (.list s12))
def s14:Sh:=(.prod (.list (.int .i64)) s13)
def s15:Sh:=(.prod (.list s2) s14)
def s16:Sh:=(.prod s1 s15)
def s17:Sh:=(.prod (.int .i64) .str)
def s18:Sh:=(.prod s12 s10)
def s19:Sh:=(.prod (.int .i64) s18)
def s20:Sh:=(.prod (.int .i64) s19)
def s21:Sh:=(.prod (.int .i64) (.list (.int .i64)))
def s22:Sh:=(.prod (.int .i64) s21)
def s23:Sh:=(.prod (.int .i64) s22)
def s24:Sh:=(.prod (.int .i64) s23)
def s25:Sh:=(.prod (.int .i64) (.list s7))
def s26:Sh:=(.prod (.list s0) (.list s4))
def s27:Sh:=(.prod (.int .i64) s26)
def s28:Sh:=(.prod (.int .i64) s27)
def s29:Sh:=(.prod (.int .i64) s28)
def tys:List (TypeId×TI):=[(2,⟨(.int .i64),8,.int .i64⟩),
 (3,⟨(.int .i64),8,.int .i64⟩),
 (4,⟨.bool,1,.bool⟩),
 (5,⟨(.int .u8),1,.int .u8⟩),
 (9,⟨.str,16,.str⟩),
 (22,⟨(.list .str),24,.slice 9⟩),
 (23,⟨(.list s0),24,.slice 158⟩),
 (25,⟨s1,48,.struct [(0,22),(1,23)]⟩),
 (26,⟨(.list s2),24,.slice 93⟩),
 (27,⟨(.list (.int .i64)),24,.slice 2⟩),
 (28,⟨(.list s7),24,.slice 122⟩),
 (29,⟨(.list s2),24,.slice 162⟩),
 (31,⟨s10,64,.struct [(0,2),(1,2),(2,28),(3,29)]⟩),
 (32,⟨(.list s12),24,.slice 81⟩),
 (34,⟨s16,184,.struct [(0,25),(2,26),(3,27),(4,31),(8,32)]⟩),
 (37,⟨s17,24,.struct [(0,2),(1,9)]⟩),
 (39,⟨(.list s0),24,.slice 127⟩),
 (41,⟨s1,48,.struct [(0,22),(1,39)]⟩),
 (42,⟨(.list s2),24,.slice 91⟩),
 (43,⟨(.list s7),24,.slice 154⟩),
 (44,⟨(.list s2),24,.slice 148⟩),
 (46,⟨s10,64,.struct [(0,2),(1,2),(2,43),(3,44)]⟩),
 (47,⟨(.list s12),24,.slice 98⟩),
 (49,⟨s16,184,.struct [(0,41),(2,42),(3,27),(4,46),(8,47)]⟩),
 (60,⟨(.fn2 .bool .bool .bool),8,.ptr 49⟩),
 (79,⟨(.list (.list s7)),24,.slice 28⟩),
 (81,⟨s12,56,.struct [(0,2),(1,79),(2,29)]⟩),
 (91,⟨s2,24,.struct [(0,2),(1,2),(2,2)]⟩),
 (93,⟨s2,24,.struct [(0,2),(1,2),(2,2)]⟩),
 (96,⟨(.list (.list s7)),24,.slice 43⟩),
 (98,⟨s12,56,.struct [(0,2),(1,96),(2,44)]⟩),
 (104,⟨s20,136,.struct [(0,2),(1,2),(2,98),(5,46)]⟩),
 (108,⟨(.fn2 s12 s12 .bool),8,.func⟩),
 (112,⟨(.fn2 (.list s7) (.list s7) .bool),8,.func⟩),
 (116,⟨s0,16,.struct [(0,2),(1,2)]⟩),
 (118,⟨s3,40,.struct [(0,27),(1,2),(2,2)]⟩),
 (120,⟨s4,48,.struct [(0,2),(1,118)]⟩),
 (122,⟨s7,80,.struct [(0,116),(2,120),(6,2),(7,4)]⟩),
 (125,⟨(.fn1 (.int .i64) .bool .z),8,.func⟩),
 (127,⟨s0,16,.struct [(0,2),(1,2)]⟩),
 (132,⟨s23,48,.struct [(0,2),(1,2),(2,2),(3,27)]⟩),
 (134,⟨s24,56,.struct [(0,2),(1,132)]⟩),
 (146,⟨s0,16,.struct [(0,2),(1,2)]⟩),
 (148,⟨s2,24,.struct [(0,2),(1,146)]⟩),
 (150,⟨s3,40,.struct [(0,27),(1,2),(2,2)]⟩),
 (152,⟨s4,48,.struct [(0,2),(1,150)]⟩),
 (154,⟨s7,80,.struct [(0,146),(2,152),(6,2),(7,4)]⟩),
 (158,⟨s0,16,.struct [(0,2),(1,2)]⟩),
 (162,⟨s2,24,.struct [(0,2),(1,116)]⟩),
 (176,⟨(.fn2 s7 s7 .bool),8,.func⟩),
 (189,⟨s25,32,.struct [(0,2),(1,43)]⟩),
 (191,⟨(.list s4),24,.slice 152⟩),
 (192,⟨(.list (.int .u8)),24,.slice 5⟩),
 (203,⟨(.fn1 s2 .bool .z),8,.func⟩),
 (215,⟨(.list s0),24,.slice 146⟩),
 (217,⟨s28,64,.struct [(0,2),(1,2),(2,215),(3,191)]⟩),
 (219,⟨s29,72,.struct [(0,2),(1,217)]⟩),
 (222,⟨s0,16,.struct [(0,2),(1,2)]⟩),
 (230,⟨(.int .u64),8,.int .u64⟩),
 (284,⟨(.int .u64),8,.int .u64⟩),
 (315,⟨(.fn1 s2 .bool .z),8,.func⟩),
 (322,⟨(.fn1 s7 .bool .z),8,.func⟩),
 (325,⟨(.fn2 s7 s7 (.int .i64)),8,.func⟩),
 (356,⟨(.fn2 s2 (.int .i64) (.int .i64)),8,.func⟩),
 (361,⟨(.fn2 s7 s0 (.int .i64)),8,.func⟩),
 (384,⟨(.list (.int .i64)),24,.slice 3⟩)]
def X0:Ctx:={ tys:=tys,fns:=[],frz:=[],lps:=[],jns:=[],rjs:=[] }
theorem QpO:QN Tryz.prog X0:=QsG ⟨tyN Tryz.type2 ⟨Tryz.underlying2,rfl⟩,
 tyN Tryz.type3 ⟨Tryz.underlying3,rfl⟩,
 tyN Tryz.type4 ⟨Tryz.underlying4,rfl⟩,
 tyN Tryz.type5 ⟨Tryz.underlying5,rfl⟩,
 tyN Tryz.type9 ⟨Tryz.underlying9,rfl⟩,
 tyN Tryz.type22 ⟨Tryz.underlying22,_,rfl,rfl⟩,
 tyN Tryz.type23 ⟨Tryz.underlying23,_,rfl,rfl⟩,
 ⟨⟨Tryz.t25,Tryz.type25,rfl,by decide,by decide,rfl⟩,⟨⟨_,Tryz.underlying25,rfl,by simp⟩,⟨_,_,rfl,rfl,⟨_,rfl,rfl⟩,⟨rfl,_,rfl,rfl⟩⟩,by decide,Tryz.eqGuardType25,Tryz.stoodInHeld25⟩⟩,
 tyN Tryz.type26 ⟨Tryz.underlying26,_,rfl,rfl⟩,
 tyN Tryz.type27 ⟨Tryz.underlying27,_,rfl,rfl⟩,
 tyN Tryz.type28 ⟨Tryz.underlying28,_,rfl,rfl⟩,
 tyN Tryz.type29 ⟨Tryz.underlying29,_,rfl,rfl⟩,
 ⟨⟨Tryz.t31,Tryz.type31,rfl,by decide,by decide,rfl⟩,⟨⟨_,Tryz.underlying31,rfl,by simp⟩,⟨_,_,rfl,rfl,⟨_,rfl,rfl⟩,⟨_,_,rfl,rfl,⟨_,rfl,rfl⟩,⟨_,_,rfl,rfl,⟨_,rfl,rfl⟩,⟨rfl,_,rfl,rfl⟩⟩⟩⟩,by decide,Tryz.eqGuardType31,Tryz.stoodInHeld31⟩⟩,
 tyN Tryz.type32 ⟨Tryz.underlying32,_,rfl,rfl⟩,
 ⟨⟨Tryz.t34,Tryz.type34,rfl,by decide,by decide,rfl⟩,⟨⟨_,Tryz.underlying34,rfl,by simp⟩,⟨_,_,rfl,rfl,⟨_,rfl,rfl⟩,⟨_,_,rfl,rfl,⟨_,rfl,rfl⟩,⟨_,_,rfl,rfl,⟨_,rfl,rfl⟩,⟨_,_,rfl,rfl,⟨_,rfl,rfl⟩,⟨rfl,_,rfl,rfl⟩⟩⟩⟩⟩,by decide,Tryz.eqGuardType34,Tryz.stoodInHeld34⟩⟩,
 ⟨⟨Tryz.t37,Tryz.type37,rfl,by decide,by decide,rfl⟩,⟨⟨_,Tryz.underlying37,rfl,by simp⟩,⟨_,_,rfl,rfl,⟨_,rfl,rfl⟩,⟨rfl,_,rfl,rfl⟩⟩,by decide,Tryz.eqGuardType37,Tryz.stoodInHeld37⟩⟩,
 tyN Tryz.type39 ⟨Tryz.underlying39,_,rfl,rfl⟩,
 ⟨⟨Tryz.t41,Tryz.type41,rfl,by decide,by decide,rfl⟩,⟨⟨_,Tryz.underlying41,rfl,by simp⟩,⟨_,_,rfl,rfl,⟨_,rfl,rfl⟩,⟨rfl,_,rfl,rfl⟩⟩,by decide,Tryz.eqGuardType41,Tryz.stoodInHeld41⟩⟩,
 tyN Tryz.type42 ⟨Tryz.underlying42,_,rfl,rfl⟩,
 tyN Tryz.type43 ⟨Tryz.underlying43,_,rfl,rfl⟩,
 tyN Tryz.type44 ⟨Tryz.underlying44,_,rfl,rfl⟩,
 ⟨⟨Tryz.t46,Tryz.type46,rfl,by decide,by decide,rfl⟩,⟨⟨_,Tryz.underlying46,rfl,by simp⟩,⟨_,_,rfl,rfl,⟨_,rfl,rfl⟩,⟨_,_,rfl,rfl,⟨_,rfl,rfl⟩,⟨_,_,rfl,rfl,⟨_,rfl,rfl⟩,⟨rfl,_,rfl,rfl⟩⟩⟩⟩,by decide,Tryz.eqGuardType46,Tryz.stoodInHeld46⟩⟩,
 tyN Tryz.type47 ⟨Tryz.underlying47,_,rfl,rfl⟩,
 ⟨⟨Tryz.t49,Tryz.type49,rfl,by decide,by decide,rfl⟩,⟨⟨_,Tryz.underlying49,rfl,by simp⟩,⟨_,_,rfl,rfl,⟨_,rfl,rfl⟩,⟨_,_,rfl,rfl,⟨_,rfl,rfl⟩,⟨_,_,rfl,rfl,⟨_,rfl,rfl⟩,⟨_,_,rfl,rfl,⟨_,rfl,rfl⟩,⟨rfl,_,rfl,rfl⟩⟩⟩⟩⟩,by decide,Tryz.eqGuardType49,Tryz.stoodInHeld49⟩⟩,
 ⟨⟨Tryz.t60,Tryz.type60,rfl,by decide,by decide,trivial⟩,⟨Tryz.underlying60,rfl⟩⟩,
 tyN Tryz.type79 ⟨Tryz.underlying79,_,rfl,rfl⟩,
 ⟨⟨Tryz.t81,Tryz.type81,rfl,by decide,by decide,rfl⟩,⟨⟨_,Tryz.underlying81,rfl,by simp⟩,⟨_,_,rfl,rfl,⟨_,rfl,rfl⟩,⟨_,_,rfl,rfl,⟨_,rfl,rfl⟩,⟨rfl,_,rfl,rfl⟩⟩⟩,by decide,Tryz.eqGuardType81,Tryz.stoodInHeld81⟩⟩,
 ⟨⟨Tryz.t91,Tryz.type91,rfl,by decide,by decide,rfl⟩,⟨⟨_,Tryz.underlying91,rfl,by simp⟩,⟨_,_,rfl,rfl,⟨_,rfl,rfl⟩,⟨_,_,rfl,rfl,⟨_,rfl,rfl⟩,⟨rfl,_,rfl,rfl⟩⟩⟩,by decide,Tryz.eqGuardType91,Tryz.stoodInHeld91⟩⟩,
 ⟨⟨Tryz.t93,Tryz.type93,rfl,by decide,by decide,rfl⟩,⟨⟨_,Tryz.underlying93,rfl,by simp⟩,⟨_,_,rfl,rfl,⟨_,rfl,rfl⟩,⟨_,_,rfl,rfl,⟨_,rfl,rfl⟩,⟨rfl,_,rfl,rfl⟩⟩⟩,by decide,Tryz.eqGuardType93,Tryz.stoodInHeld93⟩⟩,
 tyN Tryz.type96 ⟨Tryz.underlying96,_,rfl,rfl⟩,
 ⟨⟨Tryz.t98,Tryz.type98,rfl,by decide,by decide,rfl⟩,⟨⟨_,Tryz.underlying98,rfl,by simp⟩,⟨_,_,rfl,rfl,⟨_,rfl,rfl⟩,⟨_,_,rfl,rfl,⟨_,rfl,rfl⟩,⟨rfl,_,rfl,rfl⟩⟩⟩,by decide,Tryz.eqGuardType98,Tryz.stoodInHeld98⟩⟩,
 ⟨⟨Tryz.t104,Tryz.type104,rfl,by decide,by decide,rfl⟩,⟨⟨_,Tryz.underlying104,rfl,by simp⟩,⟨_,_,rfl,rfl,⟨_,rfl,rfl⟩,⟨_,_,rfl,rfl,⟨_,rfl,rfl⟩,⟨_,_,rfl,rfl,⟨_,rfl,rfl⟩,⟨rfl,_,rfl,rfl⟩⟩⟩⟩,by decide,Tryz.eqGuardType104,Tryz.stoodInHeld104⟩⟩,
 ⟨⟨Tryz.t108,Tryz.type108,rfl,by decide,by decide,trivial⟩,⟨⟨_,_,_,Tryz.underlying108⟩,.inr ⟨_,_,_,rfl⟩⟩⟩,
 ⟨⟨Tryz.t112,Tryz.type112,rfl,by decide,by decide,trivial⟩,⟨⟨_,_,_,Tryz.underlying112⟩,.inr ⟨_,_,_,rfl⟩⟩⟩,
 ⟨⟨Tryz.t116,Tryz.type116,rfl,by decide,by decide,rfl⟩,⟨⟨_,Tryz.underlying116,rfl,by simp⟩,⟨_,_,rfl,rfl,⟨_,rfl,rfl⟩,⟨rfl,_,rfl,rfl⟩⟩,by decide,Tryz.eqGuardType116,Tryz.stoodInHeld116⟩⟩,
 ⟨⟨Tryz.t118,Tryz.type118,rfl,by decide,by decide,rfl⟩,⟨⟨_,Tryz.underlying118,rfl,by simp⟩,⟨_,_,rfl,rfl,⟨_,rfl,rfl⟩,⟨_,_,rfl,rfl,⟨_,rfl,rfl⟩,⟨rfl,_,rfl,rfl⟩⟩⟩,by decide,Tryz.eqGuardType118,Tryz.stoodInHeld118⟩⟩,
 ⟨⟨Tryz.t120,Tryz.type120,rfl,by decide,by decide,rfl⟩,⟨⟨_,Tryz.underlying120,rfl,by simp⟩,⟨_,_,rfl,rfl,⟨_,rfl,rfl⟩,⟨rfl,_,rfl,rfl⟩⟩,by decide,Tryz.eqGuardType120,Tryz.stoodInHeld120⟩⟩,
 ⟨⟨Tryz.t122,Tryz.type122,rfl,by decide,by decide,rfl⟩,⟨⟨_,Tryz.underlying122,rfl,by simp⟩,⟨_,_,rfl,rfl,⟨_,rfl,rfl⟩,⟨_,_,rfl,rfl,⟨_,rfl,rfl⟩,⟨_,_,rfl,rfl,⟨_,rfl,rfl⟩,⟨rfl,_,rfl,rfl⟩⟩⟩⟩,by decide,Tryz.eqGuardType122,Tryz.stoodInHeld122⟩⟩,
 ⟨⟨Tryz.t125,Tryz.type125,rfl,by decide,by decide,trivial⟩,⟨⟨_,_,_,Tryz.underlying125⟩,.inl ⟨_,_,_,rfl⟩⟩⟩,
 ⟨⟨Tryz.t127,Tryz.type127,rfl,by decide,by decide,rfl⟩,⟨⟨_,Tryz.underlying127,rfl,by simp⟩,⟨_,_,rfl,rfl,⟨_,rfl,rfl⟩,⟨rfl,_,rfl,rfl⟩⟩,by decide,Tryz.eqGuardType127,Tryz.stoodInHeld127⟩⟩,
 ⟨⟨Tryz.t132,Tryz.type132,rfl,by decide,by decide,rfl⟩,⟨⟨_,Tryz.underlying132,rfl,by simp⟩,⟨_,_,rfl,rfl,⟨_,rfl,rfl⟩,⟨_,_,rfl,rfl,⟨_,rfl,rfl⟩,⟨_,_,rfl,rfl,⟨_,rfl,rfl⟩,⟨rfl,_,rfl,rfl⟩⟩⟩⟩,by decide,Tryz.eqGuardType132,Tryz.stoodInHeld132⟩⟩,
 ⟨⟨Tryz.t134,Tryz.type134,rfl,by decide,by decide,rfl⟩,⟨⟨_,Tryz.underlying134,rfl,by simp⟩,⟨_,_,rfl,rfl,⟨_,rfl,rfl⟩,⟨rfl,_,rfl,rfl⟩⟩,by decide,Tryz.eqGuardType134,Tryz.stoodInHeld134⟩⟩,
 ⟨⟨Tryz.t146,Tryz.type146,rfl,by decide,by decide,rfl⟩,⟨⟨_,Tryz.underlying146,rfl,by simp⟩,⟨_,_,rfl,rfl,⟨_,rfl,rfl⟩,⟨rfl,_,rfl,rfl⟩⟩,by decide,Tryz.eqGuardType146,Tryz.stoodInHeld146⟩⟩,
 ⟨⟨Tryz.t148,Tryz.type148,rfl,by decide,by decide,rfl⟩,⟨⟨_,Tryz.underlying148,rfl,by simp⟩,⟨_,_,rfl,rfl,⟨_,rfl,rfl⟩,⟨rfl,_,rfl,rfl⟩⟩,by decide,Tryz.eqGuardType148,Tryz.stoodInHeld148⟩⟩,
 ⟨⟨Tryz.t150,Tryz.type150,rfl,by decide,by decide,rfl⟩,⟨⟨_,Tryz.underlying150,rfl,by simp⟩,⟨_,_,rfl,rfl,⟨_,rfl,rfl⟩,⟨_,_,rfl,rfl,⟨_,rfl,rfl⟩,⟨rfl,_,rfl,rfl⟩⟩⟩,by decide,Tryz.eqGuardType150,Tryz.stoodInHeld150⟩⟩,
 ⟨⟨Tryz.t152,Tryz.type152,rfl,by decide,by decide,rfl⟩,⟨⟨_,Tryz.underlying152,rfl,by simp⟩,⟨_,_,rfl,rfl,⟨_,rfl,rfl⟩,⟨rfl,_,rfl,rfl⟩⟩,by decide,Tryz.eqGuardType152,Tryz.stoodInHeld152⟩⟩,
 ⟨⟨Tryz.t154,Tryz.type154,rfl,by decide,by decide,rfl⟩,⟨⟨_,Tryz.underlying154,rfl,by simp⟩,⟨_,_,rfl,rfl,⟨_,rfl,rfl⟩,⟨_,_,rfl,rfl,⟨_,rfl,rfl⟩,⟨_,_,rfl,rfl,⟨_,rfl,rfl⟩,⟨rfl,_,rfl,rfl⟩⟩⟩⟩,by decide,Tryz.eqGuardType154,Tryz.stoodInHeld154⟩⟩,
 ⟨⟨Tryz.t158,Tryz.type158,rfl,by decide,by decide,rfl⟩,⟨⟨_,Tryz.underlying158,rfl,by simp⟩,⟨_,_,rfl,rfl,⟨_,rfl,rfl⟩,⟨rfl,_,rfl,rfl⟩⟩,by decide,Tryz.eqGuardType158,Tryz.stoodInHeld158⟩⟩,
 ⟨⟨Tryz.t162,Tryz.type162,rfl,by decide,by decide,rfl⟩,⟨⟨_,Tryz.underlying162,rfl,by simp⟩,⟨_,_,rfl,rfl,⟨_,rfl,rfl⟩,⟨rfl,_,rfl,rfl⟩⟩,by decide,Tryz.eqGuardType162,Tryz.stoodInHeld162⟩⟩,
 ⟨⟨Tryz.t176,Tryz.type176,rfl,by decide,by decide,trivial⟩,⟨⟨_,_,_,Tryz.underlying176⟩,.inr ⟨_,_,_,rfl⟩⟩⟩,
 ⟨⟨Tryz.t189,Tryz.type189,rfl,by decide,by decide,rfl⟩,⟨⟨_,Tryz.underlying189,rfl,by simp⟩,⟨_,_,rfl,rfl,⟨_,rfl,rfl⟩,⟨rfl,_,rfl,rfl⟩⟩,by decide,Tryz.eqGuardType189,Tryz.stoodInHeld189⟩⟩,
 tyN Tryz.type191 ⟨Tryz.underlying191,_,rfl,rfl⟩,
 tyN Tryz.type192 ⟨Tryz.underlying192,_,rfl,rfl⟩,
 ⟨⟨Tryz.t203,Tryz.type203,rfl,by decide,by decide,trivial⟩,⟨⟨_,_,_,Tryz.underlying203⟩,.inl ⟨_,_,_,rfl⟩⟩⟩,
 tyN Tryz.type215 ⟨Tryz.underlying215,_,rfl,rfl⟩,
 ⟨⟨Tryz.t217,Tryz.type217,rfl,by decide,by decide,rfl⟩,⟨⟨_,Tryz.underlying217,rfl,by simp⟩,⟨_,_,rfl,rfl,⟨_,rfl,rfl⟩,⟨_,_,rfl,rfl,⟨_,rfl,rfl⟩,⟨_,_,rfl,rfl,⟨_,rfl,rfl⟩,⟨rfl,_,rfl,rfl⟩⟩⟩⟩,by decide,Tryz.eqGuardType217,Tryz.stoodInHeld217⟩⟩,
 ⟨⟨Tryz.t219,Tryz.type219,rfl,by decide,by decide,rfl⟩,⟨⟨_,Tryz.underlying219,rfl,by simp⟩,⟨_,_,rfl,rfl,⟨_,rfl,rfl⟩,⟨rfl,_,rfl,rfl⟩⟩,by decide,Tryz.eqGuardType219,Tryz.stoodInHeld219⟩⟩,
 ⟨⟨Tryz.t222,Tryz.type222,rfl,by decide,by decide,rfl⟩,⟨⟨_,Tryz.underlying222,rfl,by simp⟩,⟨_,_,rfl,rfl,⟨_,rfl,rfl⟩,⟨rfl,_,rfl,rfl⟩⟩,by decide,Tryz.eqGuardType222,Tryz.stoodInHeld222⟩⟩,
 tyN Tryz.type230 ⟨Tryz.underlying230,rfl⟩,
 tyN Tryz.type284 ⟨Tryz.underlying284,rfl⟩,
 ⟨⟨Tryz.t315,Tryz.type315,rfl,by decide,by decide,trivial⟩,⟨⟨_,_,_,Tryz.underlying315⟩,.inl ⟨_,_,_,rfl⟩⟩⟩,
 ⟨⟨Tryz.t322,Tryz.type322,rfl,by decide,by decide,trivial⟩,⟨⟨_,_,_,Tryz.underlying322⟩,.inl ⟨_,_,_,rfl⟩⟩⟩,
 ⟨⟨Tryz.t325,Tryz.type325,rfl,by decide,by decide,trivial⟩,⟨⟨_,_,_,Tryz.underlying325⟩,.inr ⟨_,_,_,rfl⟩⟩⟩,
 ⟨⟨Tryz.t356,Tryz.type356,rfl,by decide,by decide,trivial⟩,⟨⟨_,_,_,Tryz.underlying356⟩,.inr ⟨_,_,_,rfl⟩⟩⟩,
 ⟨⟨Tryz.t361,Tryz.type361,rfl,by decide,by decide,trivial⟩,⟨⟨_,_,_,Tryz.underlying361⟩,.inr ⟨_,_,_,rfl⟩⟩⟩,
 tyN Tryz.type384 ⟨Tryz.underlying384,_,rfl,rfl⟩,
 trivial⟩
theorem follows:Tryz.prog.follows .mixedOrders=true:=by kernel_rfl
end GL
end Go.Dx
set_option maxRecDepth 100000
set_option maxHeartbeats 0
namespace Go.Dx
open Go.Proofs
namespace GL
abbrev t0 : Type := Int × List Int
abbrev t1 : Type := Int × t0
abbrev t2 : Type := Int × t1
abbrev t3 : Type := Int × List UInt8
abbrev t4 : Type := Int × t2
abbrev t5 : Type := Int × Int
abbrev t6 : Type := List Int × t5
abbrev t7 : Type := Int × t6
abbrev t8 : Type := Int × Bool
abbrev t9 : Type := t7 × t8
abbrev t10 : Type := t5 × t9
abbrev t11 : Type := Int × t5
abbrev t12 : Type := List t5 × List t7
abbrev t13 : Type := Int × t12
abbrev t14 : Type := Int × t13
abbrev t15 : Type := Int × t14
abbrev t16 : Type := Int × List t10
abbrev t17 : Type := List (List t10) × List t11
abbrev t18 : Type := Int × t17
abbrev t19 : Type := List t10 × List t11
abbrev t20 : Type := Int × t19
abbrev t21 : Type := Int × t20
abbrev t22 : Type := t18 × t21
abbrev t23 : Type := Int × t22
abbrev t24 : Type := Int × t23
abbrev t25 : Type := List (List UInt8) × List t5
abbrev t26 : Type := t21 × List t18
abbrev t27 : Type := List Int × t26
abbrev t28 : Type := List t11 × t27
abbrev t29 : Type := t25 × t28
def Qbm (I:List (List UInt8)) (x1:Int):Option (Int):=
 bif (decide ((IntKind.wrap .i64 (x1 - (List.length I:Int)):Int)<0)) then
 some (-1)
 else
 (Qc (S:=Int×Int) (X:=(Int)⊕(Int)) (fun s5=>
 bif (decide ((s5.2:Int)<(List.length I:Int))) then
 bif (inB s5.2 I) then
 bif (decide ((IntKind.wrap .i64 (s5.1 - (List.length (List.getD I (Int.toNat s5.2) []):Int)):Int)<0)) then
 some (Sum.inr (Sum.inr (-1)))
 else
 some (Sum.inl (IntKind.wrap .i64 (s5.1 - (List.length (List.getD I (Int.toNat s5.2) []):Int)),IntKind.wrap .i64 (s5.2+1)))
 else none
 else
 some (Sum.inr (Sum.inl s5.1))) (IntKind.wrap .i64 (x1 - (List.length I:Int)),0)).bind fun J=>
 Sum.elim (fun (U:Int)=>
 some U) (fun (j8:Int)=>
 some j8) J
def QaZ (I:List t5) (x1:Int):Option (Int):=
 bif (decide ((IntKind.wrap .i64 (x1 - (List.length I:Int)):Int)<0)) then
 some (-1)
 else
 some (IntKind.wrap .i64 (x1 - (List.length I:Int)))
def QbU (I:t25) (x1:Int):Option (Int):=
 (Qbm I.1 x1).bind fun J=>
 bif (decide ((J:Int)<0)) then
 some (-1)
 else
 (QaZ I.2 J).bind fun U=>
 bif (decide ((U:Int)<0)) then
 some (-1)
 else
 some U
def QaS (I:List t11) (x1:Int):Option (Int):=
 bif (decide ((IntKind.wrap .i64 (x1 - (List.length I:Int)):Int)<0)) then
 some (-1)
 else
 some (IntKind.wrap .i64 (x1 - (List.length I:Int)))
def Yo (I:List Int) (x1:Int):Option (Int):=
 bif (decide ((IntKind.wrap .i64 (x1 - (List.length I:Int)):Int)<0)) then
 some (-1)
 else
 some (IntKind.wrap .i64 (x1 - (List.length I:Int)))
def QdG (J:t6) (x1:Int):Option (Int):=
 (Yo J.1 x1).bind fun I=>
 bif (decide ((I:Int)<0)) then
 some (-1)
 else
 some I
def Qea (J:t7) (x1:Int):Option (Int):=
 (QdG J.2 x1).bind fun I=>
 bif (decide ((I:Int)<0)) then
 some (-1)
 else
 some I
def QdB (J:t10) (x1:Int):Option (Int):=
 (Qea J.2.1 x1).bind fun I=>
 bif (decide ((I:Int)<0)) then
 some (-1)
 else
 some I
def QaM (I:List t10) (x1:Int):Option (Int):=
 bif (decide ((IntKind.wrap .i64 (x1 - (List.length I:Int)):Int)<0)) then
 some (-1)
 else
 (Qc (S:=Int×Int) (X:=(Int)⊕(Int)) (fun s10=>
 bif (decide ((s10.2:Int)<(List.length I:Int))) then
 bif (inB s10.2 I) then
 (QdB (List.getD I (Int.toNat s10.2) ((0,0),((0,([],(0,0))),(0,false)))) s10.1).bind fun J=>
 bif (decide ((J:Int)<0)) then
 some (Sum.inr (Sum.inr (-1)))
 else
 some (Sum.inl (J,IntKind.wrap .i64 (s10.2+1)))
 else none
 else
 some (Sum.inr (Sum.inl s10.1))) (IntKind.wrap .i64 (x1 - (List.length I:Int)),0)).bind fun U=>
 Sum.elim (fun (j13:Int)=>
 some j13) (fun (j14:Int)=>
 some j14) U
def Yg (I:List t11) (x1:Int):Option (Int):=
 bif (decide ((IntKind.wrap .i64 (x1 - (List.length I:Int)):Int)<0)) then
 some (-1)
 else
 some (IntKind.wrap .i64 (x1 - (List.length I:Int)))
def YO (I:t21) (x1:Int):Option (Int):=
 (QaM I.2.2.1 x1).bind fun J=>
 bif (decide ((J:Int)<0)) then
 some (-1)
 else
 (Yg I.2.2.2 J).bind fun U=>
 bif (decide ((U:Int)<0)) then
 some (-1)
 else
 some U
def Qcc (I:List (List t10)) (x1:Int):Option (Int):=
 bif (decide ((IntKind.wrap .i64 (x1 - (List.length I:Int)):Int)<0)) then
 some (-1)
 else
 (Qc (S:=Int×Int) (X:=(Int)⊕(Int)) (fun s10=>
 bif (decide ((s10.2:Int)<(List.length I:Int))) then
 bif (inB s10.2 I) then
 (QaM (List.getD I (Int.toNat s10.2) []) s10.1).bind fun J=>
 bif (decide ((J:Int)<0)) then
 some (Sum.inr (Sum.inr (-1)))
 else
 some (Sum.inl (J,IntKind.wrap .i64 (s10.2+1)))
 else none
 else
 some (Sum.inr (Sum.inl s10.1))) (IntKind.wrap .i64 (x1 - (List.length I:Int)),0)).bind fun U=>
 Sum.elim (fun (j13:Int)=>
 some j13) (fun (j14:Int)=>
 some j14) U
def Qdy (I:t18) (x1:Int):Option (Int):=
 (Qcc I.2.1 x1).bind fun J=>
 bif (decide ((J:Int)<0)) then
 some (-1)
 else
 (Yg I.2.2 J).bind fun U=>
 bif (decide ((U:Int)<0)) then
 some (-1)
 else
 some U
def Yk (I:List t18) (x1:Int):Option (Int):=
 bif (decide ((IntKind.wrap .i64 (x1 - (List.length I:Int)):Int)<0)) then
 some (-1)
 else
 (Qc (S:=Int×Int) (X:=(Int)⊕(Int)) (fun s10=>
 bif (decide ((s10.2:Int)<(List.length I:Int))) then
 bif (inB s10.2 I) then
 (Qdy (List.getD I (Int.toNat s10.2) (0,([],[]))) s10.1).bind fun J=>
 bif (decide ((J:Int)<0)) then
 some (Sum.inr (Sum.inr (-1)))
 else
 some (Sum.inl (J,IntKind.wrap .i64 (s10.2+1)))
 else none
 else
 some (Sum.inr (Sum.inl s10.1))) (IntKind.wrap .i64 (x1 - (List.length I:Int)),0)).bind fun U=>
 Sum.elim (fun (j13:Int)=>
 some j13) (fun (j14:Int)=>
 some j14) U
def QcB (I:t29) (x1:Int):Option (Int):=
 (QbU I.1 x1).bind fun U=>
 bif (decide ((U:Int)<0)) then
 some (-1)
 else
 (QaS I.2.1 U).bind fun y7=>
 bif (decide ((y7:Int)<0)) then
 some (-1)
 else
 (Yo I.2.2.1 y7).bind fun y8=>
 bif (decide ((y8:Int)<0)) then
 some (-1)
 else
 (YO I.2.2.2.1 y8).bind fun y9=>
 bif (decide ((y9:Int)<0)) then
 some (-1)
 else
 (Yk I.2.2.2.2 y9).bind fun J=>
 bif (decide ((J:Int)<0)) then
 some (-1)
 else
 some J
def Qdi (I:List (List UInt8)) (x1:List UInt8):Option (Int):=
 (Qc (S:=Int) (X:=(Unit)⊕(Int)) (fun s5=>
 bif (decide ((s5:Int)<(List.length I:Int))) then
 bif (inB s5 I) then
 bif (decide ((List.getD I (Int.toNat s5) []:List UInt8)=x1)) then
 some (Sum.inr (Sum.inr (IntKind.wrap .i64 (s5+1))))
 else
 some (Sum.inl (IntKind.wrap .i64 (s5+1)))
 else none
 else
 some (Sum.inr (Sum.inl ()))) 0).bind fun J=>
 Sum.elim (fun (j7:Unit)=>
 some 0) (fun (U:Int)=>
 some U) J
def QP (I:Int) (x1:Int) (x2:Int):Option (Bool):=
 (bif (decide ((x1:Int)<=I)) then
 some (decide ((I:Int)<=x2))
 else
 some false:Option (Bool)).bind fun J=>
 some J
def JX (I:Int):Option (Bool):=
 (QP I 1 999).bind fun J=>
 some J
def Qab (I:List t5) (x1:t5):Option (Bool):=
 (Qc (S:=Int) (X:=(Unit)⊕(Bool)) (fun s5=>
 bif (decide ((s5:Int)<(List.length I:Int))) then
 bif (inB s5 I) then
 bif (Sh.beq (.prod (.int .i64) (.int .i64)) (List.getD I (Int.toNat s5) (0,0)) x1) then
 some (Sum.inr (Sum.inr true))
 else
 some (Sum.inl (IntKind.wrap .i64 (s5+1)))
 else none
 else
 some (Sum.inr (Sum.inl ()))) 0).bind fun J=>
 Sum.elim (fun (j7:Unit)=>
 some false) (fun (U:Bool)=>
 some U) J
def YT (I:t25):Option (Int):=
 (bif (decide ((60:Int)<(List.length I.1:Int))) then
 some true
 else
 some (decide ((120:Int)<(List.length I.2:Int))):Option (Bool)).bind fun j34=>
 bif j34 then
 some 2
 else
 (Qc (S:=Int) (X:=(Unit)⊕(Int)) (fun J=>
 bif (decide ((J:Int)<(List.length I.1:Int))) then
 (bif (inB J I.1) then
 bif (decide (((List.length (List.getD I.1 (Int.toNat J) []):Int):Int)<1)) then
 some true
 else
 bif (inB J I.1) then
 some (decide ((300:Int)<(List.length (List.getD I.1 (Int.toNat J) []):Int)))
 else none
 else none:Option (Bool)).bind fun j40=>
 bif j40 then
 some (Sum.inr (Sum.inr 2))
 else
 bif (QR 0 J I.1) then
 bif (inB J I.1) then
 (Qdi (cut 0 J I.1) (List.getD I.1 (Int.toNat J) [])).bind fun y41=>
 bif (decide ((0:Int)<y41)) then
 some (Sum.inr (Sum.inr 7))
 else
 some (Sum.inl (IntKind.wrap .i64 (J+1)))
 else none
 else none
 else
 some (Sum.inr (Sum.inl ()))) 0).bind fun j42=>
 Sum.elim (fun (j43:Unit)=>
 (Qc (S:=Int) (X:=(Unit)⊕(Int)) (fun U=>
 bif (decide ((U:Int)<(List.length I.2:Int))) then
 (bif (inB U I.2) then
 (JX (List.getD I.2 (Int.toNat U) (0,0)).1).bind fun y60=>
 bif (!y60) then
 some true
 else
 bif (inB U I.2) then
 (QP (List.getD I.2 (Int.toNat U) (0,0)).2 1 (List.length I.1:Int)).bind fun y61=>
 some (!y61)
 else none
 else none:Option (Bool)).bind fun j62=>
 bif j62 then
 some (Sum.inr (Sum.inr 3))
 else
 bif (QR 0 U I.2) then
 bif (inB U I.2) then
 (Qab (cut 0 U I.2) (List.getD I.2 (Int.toNat U) (0,0))).bind fun y63=>
 bif y63 then
 some (Sum.inr (Sum.inr 7))
 else
 some (Sum.inl (IntKind.wrap .i64 (U+1)))
 else none
 else none
 else
 some (Sum.inr (Sum.inl ()))) 0).bind fun j64=>
 Sum.elim (fun (j65:Unit)=>
 some 0) (fun (j66:Int)=>
 some j66) j64) (fun (j44:Int)=>
 some j44) j42
def YY (I:List t11) (x1:Int):Option (Int):=
 (Qc (S:=Int) (X:=(Unit)⊕(Int)) (fun s5=>
 bif (decide ((s5:Int)<(List.length I:Int))) then
 bif (inB s5 I) then
 bif (decide (((List.getD I (Int.toNat s5) (0,(0,0))).1:Int)=x1)) then
 some (Sum.inr (Sum.inr s5))
 else
 some (Sum.inl (IntKind.wrap .i64 (s5+1)))
 else none
 else
 some (Sum.inr (Sum.inl ()))) 0).bind fun J=>
 Sum.elim (fun (j7:Unit)=>
 some (-1)) (fun (U:Int)=>
 some U) J
def QdA (J:List t11) (x1:t11):Option (Int):=
 ((QP x1.1 1 60).bind fun U=>
 bif (!U) then
 some true
 else
 (QP x1.2.2 1 40).bind fun y15=>
 some (!y15):Option (Bool)).bind fun j16=>
 bif j16 then
 some 3
 else
 (YY J x1.1).bind fun y17=>
 bif (decide ((0:Int)<=y17)) then
 some 7
 else
 (bif (!decide ((x1.2.1:Int)=0)) then
 (YY J x1.2.1).bind fun I=>
 bif (decide ((I:Int)<0)) then
 some (Sum.inr 4)
 else
 bif (inB I J) then
 some (Sum.inl (List.getD J (Int.toNat I) (0,(0,0))).2.2)
 else none
 else
 some (Sum.inl 0):Option ((Int)⊕(Int))).bind fun j20=>
 Sum.elim (fun (j21:Int)=>
 bif (!decide ((x1.2.2:Int)=IntKind.wrap .i64 (j21+1))) then
 some 1
 else
 some 0) (fun (j22:Int)=>
 some j22) j20
def QcE (I:List t11):Option (Int):=
 bif (decide ((60:Int)<(List.length I:Int))) then
 some 2
 else
 (Qc (S:=Int) (X:=(Unit)⊕(Int)) (fun s10=>
 bif (decide ((s10:Int)<(List.length I:Int))) then
 bif (QR 0 s10 I) then
 bif (inB s10 I) then
 (QdA (cut 0 s10 I) (List.getD I (Int.toNat s10) (0,(0,0)))).bind fun J=>
 bif (!decide ((J:Int)=0)) then
 some (Sum.inr (Sum.inr J))
 else
 some (Sum.inl (IntKind.wrap .i64 (s10+1)))
 else none
 else none
 else
 some (Sum.inr (Sum.inl ()))) 0).bind fun U=>
 Sum.elim (fun (j13:Unit)=>
 some 0) (fun (j14:Int)=>
 some j14) U
def Qe1 (I:t25) (x1:Int):Option (Bool):=
 (QP x1 1 (List.length I.1:Int)).bind fun J=>
 some J
def QbA (I:t25) (x1:Int):Option (t3):=
 (YT I).bind fun J=>
 bif (!decide ((J:Int)=0)) then
 some (J,[])
 else
 (Qe1 I x1).bind fun U=>
 bif (!U) then
 some (3,[])
 else
 bif (inB (IntKind.wrap .i64 (x1 - 1)) I.1) then
 some (0,List.getD I.1 (Int.toNat (IntKind.wrap .i64 (x1 - 1))) [])
 else none
def ZS (I:List UInt8) (x1:Int):Option (List (List UInt8)):=
 (Qc (S:=List (List UInt8)×Int×Int) (X:=List (List UInt8)) (fun s13=>
 bif (decide ((s13.2.2:Int)<=(List.length I:Int))) then
 (bif (decide ((s13.2.2:Int)=(List.length I:Int))) then
 some true
 else
 bif (inB s13.2.2 I) then
 some (decide ((((List.getD I (Int.toNat s13.2.2) 0).toNat:Int):Int)=x1))
 else none:Option (Bool)).bind fun U=>
 (bif U then
 bif (QR s13.2.1 s13.2.2 I) then
 bif decide (List.length s13.1+List.length ([cut s13.2.1 s13.2.2 I]:List (List UInt8))<=LIM) then
 some (List.append s13.1 ([cut s13.2.1 s13.2.2 I]:List (List UInt8)),IntKind.wrap .i64 (s13.2.2+1))
 else none
 else none
 else
 some (s13.1,s13.2.1):Option (List (List UInt8)×Int)).bind fun J=>
 some (Sum.inl (J.1,(J.2,IntKind.wrap .i64 (s13.2.2+1))))
 else
 some (Sum.inr s13.1)) (([]:List (List UInt8)),(0,0))).bind fun j16=>
 some j16
def Qn (I:List UInt8) (x1:Int):Option (Int×Bool):=
 (bif (decide (((List.length I:Int):Int)<1)) then
 some true
 else
 bif (decide ((x1:Int)<(List.length I:Int))) then
 some true
 else
 bif (decide ((1:Int)<(List.length I:Int))) then
 bif (inB 0 I) then
 some (decide ((((List.getD I (Int.toNat 0) 0).toNat:Int):Int)=48))
 else none
 else
 some false:Option (Bool)).bind fun j9=>
 bif j9 then
 some (0,false)
 else
 (Qc (S:=Int×Int) (X:=(Int)⊕(Int×Bool)) (fun s12=>
 bif (decide ((s12.2:Int)<(List.length I:Int))) then
 (bif (inB s12.2 I) then
 bif (decide ((((List.getD I (Int.toNat s12.2) 0).toNat:Int):Int)<48)) then
 some true
 else
 bif (inB s12.2 I) then
 some (decide ((57:Int)<((List.getD I (Int.toNat s12.2) 0).toNat:Int)))
 else none
 else none:Option (Bool)).bind fun U=>
 bif U then
 some (Sum.inr (Sum.inr (0,false)))
 else
 bif (inB s12.2 I) then
 some (Sum.inl (IntKind.wrap .i64 ((IntKind.wrap .i64 (s12.1 * 10))+(IntKind.wrap .i64 (IntKind.wrap .u8 (((List.getD I (Int.toNat s12.2) 0).toNat:Int) - 48)))),IntKind.wrap .i64 (s12.2+1)))
 else none
 else
 some (Sum.inr (Sum.inl s12.1))) (0,0)).bind fun j14=>
 Sum.elim (fun (j15:Int)=>
 some (j15,true)) (fun (J:Int×Bool)=>
 some (J.1,J.2)) j14
def Qc4 (I:List Int) (x1:Int):Option (Bool):=
 (Qc (S:=Int) (X:=(Unit)⊕(Bool)) (fun s5=>
 bif (decide ((s5:Int)<(List.length I:Int))) then
 bif (inB s5 I) then
 bif (decide ((List.getD I (Int.toNat s5) 0:Int)=x1)) then
 some (Sum.inr (Sum.inr true))
 else
 some (Sum.inl (IntKind.wrap .i64 (s5+1)))
 else none
 else
 some (Sum.inr (Sum.inl ()))) 0).bind fun J=>
 Sum.elim (fun (j7:Unit)=>
 some false) (fun (U:Bool)=>
 some U) J
def QcZ (I:t2):Option (Int):=
 ((QP I.1 0 60).bind fun J=>
 bif (!J) then
 some true
 else
 (QP I.2.1 1 40).bind fun U=>
 bif (!U) then
 some true
 else
 (JX I.2.2.1).bind fun y23=>
 some (!y23):Option (Bool)).bind fun j24=>
 bif j24 then
 some 3
 else
 bif (!(Sh.beq .bool (decide ((I.1:Int)=0)) (decide ((I.2.1:Int)=1)))) then
 some 1
 else
 bif (decide ((6:Int)<(List.length I.2.2.2:Int))) then
 some 2
 else
 (Qc (S:=Int) (X:=(Unit)⊕(Int)) (fun s29=>
 bif (decide ((s29:Int)<(List.length I.2.2.2:Int))) then
 bif (inB s29 I.2.2.2) then
 (QP (List.getD I.2.2.2 (Int.toNat s29) 0) 1 60).bind fun y30=>
 bif (!y30) then
 some (Sum.inr (Sum.inr 3))
 else
 bif (QR 0 s29 I.2.2.2) then
 bif (inB s29 I.2.2.2) then
 (Qc4 (cut 0 s29 I.2.2.2) (List.getD I.2.2.2 (Int.toNat s29) 0)).bind fun y31=>
 bif y31 then
 some (Sum.inr (Sum.inr 7))
 else
 some (Sum.inl (IntKind.wrap .i64 (s29+1)))
 else none
 else none
 else none
 else
 some (Sum.inr (Sum.inl ()))) 0).bind fun j32=>
 Sum.elim (fun (j33:Unit)=>
 some 0) (fun (j34:Int)=>
 some j34) j32
def QcV (x0:List UInt8):Option (t2×Bool):=
 (ZS x0 32).bind fun I=>
 (bif (!decide (((List.length I:Int):Int)=5)) then
 some true
 else
 bif (inB 0 I) then
 some (!decide ((List.getD I (Int.toNat 0) []:List UInt8)=[98,108,111,99,107]))
 else none:Option (Bool)).bind fun j23=>
 bif j23 then
 some ((0,(0,(0,[]))),false)
 else
 bif (inB 1 I) then
 (Qn (List.getD I (Int.toNat 1) []) 2).bind fun y24=>
 bif (inB 2 I) then
 (Qn (List.getD I (Int.toNat 2) []) 2).bind fun y25=>
 bif (inB 3 I) then
 (Qn (List.getD I (Int.toNat 3) []) 3).bind fun y26=>
 (bif y24.2 then
 bif y25.2 then
 some y26.2
 else
 some false
 else
 some false:Option (Bool)).bind fun j27=>
 bif (inB 4 I) then
 (ZS (List.getD I (Int.toNat 4) []) 43).bind fun y28=>
 (Qc (S:=Bool×Int×t2) (X:=Bool×t2) (fun J=>
 (bif (decide ((J.2.1:Int)<(List.length y28:Int))) then
 bif (inB 4 I) then
 some (!decide ((List.getD I (Int.toNat 4) []:List UInt8)=[45]))
 else none
 else
 some false:Option (Bool)).bind fun j36=>
 bif j36 then
 bif (inB J.2.1 y28) then
 (Qn (List.getD y28 (Int.toNat J.2.1) []) 2).bind fun y37=>
 (bif J.1 then
 some y37.2
 else
 some false:Option (Bool)).bind fun j38=>
 bif decide (List.length J.2.2.2.2.2+List.length ([y37.1]:List Int)<=LIM) then
 some (Sum.inl (j38,(IntKind.wrap .i64 (J.2.1+1),(J.2.2.1,(J.2.2.2.1,(J.2.2.2.2.1,List.append J.2.2.2.2.2 ([y37.1]:List Int)))))))
 else none
 else none
 else
 some (Sum.inr (J.1,J.2.2))) (j27,(0,(y24.1,(y25.1,(y26.1,[])))))).bind fun U=>
 (bif U.1 then
 (QcZ U.2).bind fun y41=>
 some (decide ((y41:Int)=0),U.2)
 else
 some (false,U.2):Option (Bool×t2)).bind fun j42=>
 some (j42.2,j42.1)
 else none
 else none
 else none
 else none
def QaJ (J:List UInt8):Option (t4):=
 (QcV J).bind fun I=>
 bif (!I.2) then
 some (5,(0,(0,(0,[]))))
 else
 some (0,I.1)
def Qa1 (J:t25) (x1:Int):Option (t4):=
 (QbA J x1).bind fun I=>
 bif (!decide ((I.1:Int)=0)) then
 some (I.1,(0,(0,(0,[]))))
 else
 (QaJ I.2).bind fun U=>
 some U
def Ya (I:Int):Option (t24):=
 some (I,(0,((0,([],[])),(0,(0,([],[]))))))
def Jq (I:t6):Option (t6):=
 bif decide (List.length ([]:List Int)+List.length I.1<=LIM) then
 some (List.append ([]:List Int) I.1,I.2)
 else none
def Jp (I:List t10):Option (List t10):=
 (Qc (S:=List t10×Int) (X:=List t10) (fun s8=>
 bif (decide ((s8.2:Int)<(List.length I:Int))) then
 bif (inB s8.2 I) then
 (Jq (List.getD I (Int.toNat s8.2) ((0,0),((0,([],(0,0))),(0,false)))).2.1.2).bind fun U=>
 bif decide (List.length s8.1+List.length ([((List.getD I (Int.toNat s8.2) ((0,0),((0,([],(0,0))),(0,false)))).1,(((List.getD I (Int.toNat s8.2) ((0,0),((0,([],(0,0))),(0,false)))).2.1.1,U),(List.getD I (Int.toNat s8.2) ((0,0),((0,([],(0,0))),(0,false)))).2.2))]:List t10)<=LIM) then
 some (Sum.inl (List.append s8.1 ([((List.getD I (Int.toNat s8.2) ((0,0),((0,([],(0,0))),(0,false)))).1,(((List.getD I (Int.toNat s8.2) ((0,0),((0,([],(0,0))),(0,false)))).2.1.1,U),(List.getD I (Int.toNat s8.2) ((0,0),((0,([],(0,0))),(0,false)))).2.2))]:List t10),IntKind.wrap .i64 (s8.2+1)))
 else none
 else none
 else
 some (Sum.inr s8.1)) (([]:List t10),0)).bind fun J=>
 some J
def QdP (I:t21):Option (t21):=
 (Jp I.2.2.1).bind fun J=>
 bif decide (List.length ([]:List t11)+List.length I.2.2.2<=LIM) then
 some (I.1,(I.2.1,(J,List.append ([]:List t11) I.2.2.2)))
 else none
def JF (I:List t5) (x1:t5):Option (Bool):=
 (Qc (S:=Int) (X:=(Unit)⊕(Bool)) (fun s5=>
 bif (decide ((s5:Int)<(List.length I:Int))) then
 bif (inB s5 I) then
 bif (Sh.beq (.prod (.int .i64) (.int .i64)) (List.getD I (Int.toNat s5) (0,0)) x1) then
 some (Sum.inr (Sum.inr true))
 else
 some (Sum.inl (IntKind.wrap .i64 (s5+1)))
 else none
 else
 some (Sum.inr (Sum.inl ()))) 0).bind fun J=>
 Sum.elim (fun (j7:Unit)=>
 some false) (fun (U:Bool)=>
 some U) J
def Qcs (J:t5):Option (Bool):=
 ((QP J.1 1 60).bind fun U=>
 bif U then
 (QP J.2 0 3).bind fun y9=>
 some y9
 else
 some false:Option (Bool)).bind fun I=>
 some I
def Yq (I:Int):Option (Bool):=
 (QP I 0 999).bind fun J=>
 some J
def JL (J:t6):Option (Int):=
 (QP (List.length J.1:Int) 1 3).bind fun U=>
 bif (!U) then
 some 2
 else
 (Qc (S:=Int) (X:=(Unit)⊕(Int)) (fun s21=>
 bif (decide ((s21:Int)<(List.length J.1:Int))) then
 bif (inB s21 J.1) then
 (JX (List.getD J.1 (Int.toNat s21) 0)).bind fun y22=>
 bif (!y22) then
 some (Sum.inr (Sum.inr 3))
 else
 some (Sum.inl (IntKind.wrap .i64 (s21+1)))
 else none
 else
 some (Sum.inr (Sum.inl ()))) 0).bind fun j23=>
 Sum.elim (fun (j24:Unit)=>
 ((QP J.2.1 1 (List.length J.1:Int)).bind fun y28=>
 bif (!y28) then
 some true
 else
 (Yq J.2.2).bind fun y29=>
 some (!y29):Option (Bool)).bind fun j30=>
 bif j30 then
 some 3
 else
 (Qc (S:=Int) (X:=(Unit)⊕(Int)) (fun I=>
 bif (decide ((I:Int)<(List.length J.1:Int))) then
 bif (inB I J.1) then
 bif (inB (IntKind.wrap .i64 (I - 1)) J.1) then
 bif (decide ((List.getD J.1 (Int.toNat I) 0:Int)<=List.getD J.1 (Int.toNat (IntKind.wrap .i64 (I - 1))) 0)) then
 some (Sum.inr (Sum.inr 1))
 else
 some (Sum.inl (IntKind.wrap .i64 (I+1)))
 else none
 else none
 else
 some (Sum.inr (Sum.inl ()))) 1).bind fun j32=>
 Sum.elim (fun (j33:Unit)=>
 some 0) (fun (j34:Int)=>
 some j34) j32) (fun (j25:Int)=>
 some j25) j23
def QdD (I:t14):Option (Int):=
 (Qc (S:=Int) (X:=(Unit)⊕(Int)) (fun s16=>
 bif (decide ((s16:Int)<(List.length I.2.2.2:Int))) then
 bif (inB s16 I.2.2.2) then
 (QP (List.getD I.2.2.2 (Int.toNat s16) (0,([],(0,0)))).1 1 1000000).bind fun U=>
 bif (!U) then
 some (Sum.inr (Sum.inr 3))
 else
 bif (inB s16 I.2.2.2) then
 (JL (List.getD I.2.2.2 (Int.toNat s16) (0,([],(0,0)))).2).bind fun J=>
 bif (!decide ((J:Int)=0)) then
 some (Sum.inr (Sum.inr J))
 else
 some (Sum.inl (IntKind.wrap .i64 (s16+1)))
 else none
 else none
 else
 some (Sum.inr (Sum.inl ()))) 0).bind fun j19=>
 Sum.elim (fun (j20:Unit)=>
 (bif (decide ((I.1:Int)=1)) then
 bif (inB 0 I.2.2.2) then
 some (decide (((List.getD I.2.2.2 (Int.toNat 0) (0,([],(0,0)))).1:Int)<100))
 else none
 else
 some false:Option (Bool)).bind fun j22=>
 bif j22 then
 some 8
 else
 some 0) (fun (j21:Int)=>
 some j21) j19
def YS (J:t14):Option (Int):=
 ((QP J.1 0 2).bind fun U=>
 bif (!U) then
 some true
 else
 some (!(Sh.beq .bool (decide ((J.1:Int)=0)) (decide ((J.2.1:Int)=0)))):Option (Bool)).bind fun j25=>
 bif j25 then
 some 1
 else
 (bif (!decide ((J.1:Int)=0)) then
 (JX J.2.1).bind fun y27=>
 some (!y27)
 else
 some false:Option (Bool)).bind fun j28=>
 bif j28 then
 some 3
 else
 ((QP (List.length J.2.2.1:Int) 1 4).bind fun y31=>
 bif (!y31) then
 some true
 else
 (QP (List.length J.2.2.2:Int) 1 4).bind fun y32=>
 some (!y32):Option (Bool)).bind fun j33=>
 bif j33 then
 some 2
 else
 (Qc (S:=Int) (X:=(Unit)⊕(Int)) (fun I=>
 bif (decide ((I:Int)<(List.length J.2.2.1:Int))) then
 bif (inB I J.2.2.1) then
 (Qcs (List.getD J.2.2.1 (Int.toNat I) (0,0))).bind fun y39=>
 bif (!y39) then
 some (Sum.inr (Sum.inr 3))
 else
 bif (QR 0 I J.2.2.1) then
 bif (inB I J.2.2.1) then
 (JF (cut 0 I J.2.2.1) (List.getD J.2.2.1 (Int.toNat I) (0,0))).bind fun y40=>
 bif y40 then
 some (Sum.inr (Sum.inr 7))
 else
 some (Sum.inl (IntKind.wrap .i64 (I+1)))
 else none
 else none
 else none
 else
 some (Sum.inr (Sum.inl ()))) 0).bind fun j41=>
 Sum.elim (fun (j42:Unit)=>
 (QdD J).bind fun y44=>
 some y44) (fun (j43:Int)=>
 some j43) j41
def QI (I:Int):Option (List UInt8):=
 digS 19 I
def J8 (J:t6):Option (List UInt8):=
 (QI J.2.1).bind fun U=>
 bif decide (List.length U+List.length [32,111,102,32]<=LIM) then
 bif (inB 0 J.1) then
 (QI (List.getD J.1 (Int.toNat 0) 0)).bind fun y12=>
 bif decide (List.length (List.append U [32,111,102,32])+List.length y12<=LIM) then
 (Qc (S:=List UInt8×Int) (X:=List UInt8) (fun s15=>
 bif (decide ((s15.2:Int)<(List.length J.1:Int))) then
 bif decide (List.length s15.1+List.length [44]<=LIM) then
 bif (inB s15.2 J.1) then
 (QI (List.getD J.1 (Int.toNat s15.2) 0)).bind fun y16=>
 bif decide (List.length (List.append s15.1 [44])+List.length y16<=LIM) then
 some (Sum.inl (List.append (List.append s15.1 [44]) y16,IntKind.wrap .i64 (s15.2+1)))
 else none
 else none
 else none
 else
 some (Sum.inr s15.1)) (List.append (List.append U [32,111,102,32]) y12,1)).bind fun I=>
 (bif (!decide ((J.2.2:Int)=0)) then
 bif decide (List.length I+List.length [32,97,102,116,101,114,32]<=LIM) then
 (QI J.2.2).bind fun y19=>
 bif decide (List.length (List.append I [32,97,102,116,101,114,32])+List.length y19<=LIM) then
 some (List.append (List.append I [32,97,102,116,101,114,32]) y19)
 else none
 else none
 else
 some I:Option (List UInt8)).bind fun j20=>
 some j20
 else none
 else none
 else none
def Jk (I:List UInt8) (x1:Int) (x2:Int):Option (List UInt8):=
 swpS I x1 x2
def Qbq (U:t14):Option (List UInt8):=
 bif (inB U.1 ([[112,97,121],[106,111,105,110,32],[108,101,97,118,101,32]]:List (List UInt8))) then
 (bif (!decide ((U.1:Int)=0)) then
 (QI U.2.1).bind fun y26=>
 bif decide (List.length (List.getD ([[112,97,121],[106,111,105,110,32],[108,101,97,118,101,32]]:List (List UInt8)) (Int.toNat U.1) [])+List.length y26<=LIM) then
 some (List.append (List.getD ([[112,97,121],[106,111,105,110,32],[108,101,97,118,101,32]]:List (List UInt8)) (Int.toNat U.1) []) y26)
 else none
 else
 some (List.getD ([[112,97,121],[106,111,105,110,32],[108,101,97,118,101,32]]:List (List UInt8)) (Int.toNat U.1) []):Option (List UInt8)).bind fun j27=>
 (Qc (S:=List UInt8×Int) (X:=List UInt8) (fun I=>
 bif (decide ((I.2:Int)<(List.length U.2.2.1:Int))) then
 (bif (decide ((I.2:Int)=0)) then
 some [32]
 else
 some [43]:Option (List UInt8)).bind fun j34=>
 bif decide (List.length I.1+List.length j34<=LIM) then
 bif (inB I.2 U.2.2.1) then
 (QI (List.getD U.2.2.1 (Int.toNat I.2) (0,0)).1).bind fun y35=>
 bif decide (List.length (List.append I.1 j34)+List.length y35<=LIM) then
 bif decide (List.length (List.append (List.append I.1 j34) y35)+List.length [58]<=LIM) then
 bif (inB I.2 U.2.2.1) then
 (QI (List.getD U.2.2.1 (Int.toNat I.2) (0,0)).2).bind fun y36=>
 bif decide (List.length (List.append (List.append (List.append I.1 j34) y35) [58])+List.length y36<=LIM) then
 some (Sum.inl (List.append (List.append (List.append (List.append I.1 j34) y35) [58]) y36,IntKind.wrap .i64 (I.2+1)))
 else none
 else none
 else none
 else none
 else none
 else none
 else
 some (Sum.inr I.1)) (j27,0)).bind fun j37=>
 (Qc (S:=List UInt8×Int) (X:=List UInt8) (fun J=>
 bif (decide ((J.2:Int)<(List.length U.2.2.2:Int))) then
 bif decide (List.length J.1+List.length [32]<=LIM) then
 bif (inB J.2 U.2.2.2) then
 (QI (List.getD U.2.2.2 (Int.toNat J.2) (0,([],(0,0)))).1).bind fun y45=>
 bif decide (List.length (List.append J.1 [32])+List.length y45<=LIM) then
 bif decide (List.length (List.append (List.append J.1 [32]) y45)+List.length [61]<=LIM) then
 bif (inB J.2 U.2.2.2) then
 (J8 (List.getD U.2.2.2 (Int.toNat J.2) (0,([],(0,0)))).2).bind fun y46=>
 (Jk y46 32 95).bind fun y47=>
 bif decide (List.length (List.append (List.append (List.append J.1 [32]) y45) [61])+List.length y47<=LIM) then
 some (Sum.inl (List.append (List.append (List.append (List.append J.1 [32]) y45) [61]) y47,IntKind.wrap .i64 (J.2+1)))
 else none
 else none
 else none
 else none
 else none
 else none
 else
 some (Sum.inr J.1)) (j37,0)).bind fun j48=>
 some j48
 else none
def Qeh (x0:List UInt8):Option (List t5×Bool):=
 (ZS x0 43).bind fun J=>
 (Qc (S:=List t5×Int) (X:=(List t5)⊕(List t5×Bool)) (fun s27=>
 bif (decide ((s27.2:Int)<(List.length J:Int))) then
 bif (inB s27.2 J) then
 (ZS (List.getD J (Int.toNat s27.2) []) 58).bind fun I=>
 bif (!decide (((List.length I:Int):Int)=2)) then
 some (Sum.inr (Sum.inr (([]:List t5),false)))
 else
 bif (inB 0 I) then
 (Qn (List.getD I (Int.toNat 0) []) 2).bind fun U=>
 bif (inB 1 I) then
 (Qn (List.getD I (Int.toNat 1) []) 1).bind fun y30=>
 (bif (!U.2) then
 some true
 else
 some (!y30.2):Option (Bool)).bind fun j31=>
 bif j31 then
 some (Sum.inr (Sum.inr (([]:List t5),false)))
 else
 bif decide (List.length s27.1+List.length ([(U.1,y30.1)]:List t5)<=LIM) then
 some (Sum.inl (List.append s27.1 ([(U.1,y30.1)]:List t5),IntKind.wrap .i64 (s27.2+1)))
 else none
 else none
 else none
 else none
 else
 some (Sum.inr (Sum.inl s27.1))) (([]:List t5),0)).bind fun j32=>
 Sum.elim (fun (j33:List t5)=>
 some (j33,true)) (fun (j34:List t5×Bool)=>
 some (j34.1,j34.2)) j32
def QcR (x0:List UInt8):Option (t6×Bool):=
 (ZS x0 32).bind fun I=>
 (bif (!decide (((List.length I:Int):Int)=3)) then
 bif (!decide (((List.length I:Int):Int)=5)) then
 some true
 else
 bif (inB 1 I) then
 some (!decide ((List.getD I (Int.toNat 1) []:List UInt8)=[111,102]))
 else none
 else
 bif (inB 1 I) then
 some (!decide ((List.getD I (Int.toNat 1) []:List UInt8)=[111,102]))
 else none:Option (Bool)).bind fun j22=>
 bif j22 then
 some (([],(0,0)),false)
 else
 bif (inB 0 I) then
 (Qn (List.getD I (Int.toNat 0) []) 1).bind fun y23=>
 bif (inB 2 I) then
 (ZS (List.getD I (Int.toNat 2) []) 44).bind fun y24=>
 (Qc (S:=Bool×Int×t6) (X:=Bool×t6) (fun s29=>
 bif (decide ((s29.2.1:Int)<(List.length y24:Int))) then
 bif (inB s29.2.1 y24) then
 (Qn (List.getD y24 (Int.toNat s29.2.1) []) 3).bind fun y30=>
 (bif s29.1 then
 some y30.2
 else
 some false:Option (Bool)).bind fun j31=>
 bif decide (List.length s29.2.2.1+List.length ([y30.1]:List Int)<=LIM) then
 some (Sum.inl (j31,(IntKind.wrap .i64 (s29.2.1+1),(List.append s29.2.2.1 ([y30.1]:List Int),s29.2.2.2))))
 else none
 else none
 else
 some (Sum.inr (s29.1,s29.2.2))) (y23.2,(0,([],(y23.1,0))))).bind fun J=>
 (bif (decide (((List.length I:Int):Int)=5)) then
 bif (inB 4 I) then
 (Qn (List.getD I (Int.toNat 4) []) 3).bind fun y35=>
 (bif J.1 then
 bif y35.2 then
 bif (inB 3 I) then
 bif (decide ((List.getD I (Int.toNat 3) []:List UInt8)=[97,102,116,101,114])) then
 some (decide ((0:Int)<y35.1))
 else
 some false
 else none
 else
 some false
 else
 some false:Option (Bool)).bind fun j36=>
 some (j36,(J.2.1,(J.2.2.1,y35.1)))
 else none
 else
 some (J.1,J.2):Option (Bool×t6)).bind fun U=>
 (bif U.1 then
 (JL U.2).bind fun y39=>
 some (decide ((y39:Int)=0),U.2)
 else
 some (false,U.2):Option (Bool×t6)).bind fun j40=>
 some (j40.2,j40.1)
 else none
 else none
def QcC (x0:List UInt8):Option (t14×Bool):=
 (ZS x0 32).bind fun I=>
 (bif (inB 0 I) then
 bif (decide ((List.getD I (Int.toNat 0) []:List UInt8)=[106,111,105,110])) then
 some true
 else
 bif (inB 0 I) then
 some (decide ((List.getD I (Int.toNat 0) []:List UInt8)=[108,101,97,118,101]))
 else none
 else none:Option (Bool)).bind fun j39=>
 (bif j39 then
 bif (decide (((List.length I:Int):Int)<2)) then
 some (Sum.inr (false,(0,(0,([],[])))))
 else
 bif (inB 1 I) then
 (Qn (List.getD I (Int.toNat 1) []) 3).bind fun y42=>
 bif (!y42.2) then
 some (Sum.inr (false,(0,(0,([],[])))))
 else
 bif (inB 0 I) then
 (bif (decide ((List.getD I (Int.toNat 0) []:List UInt8)=[108,101,97,118,101])) then
 some (2,(0,([],[])))
 else
 some (1,(0,([],[]))):Option (t14)).bind fun j43=>
 some (Sum.inl (2,(j43.1,(y42.1,j43.2.2))))
 else none
 else none
 else
 bif (inB 0 I) then
 bif (!decide ((List.getD I (Int.toNat 0) []:List UInt8)=[112,97,121])) then
 some (Sum.inr (false,(0,(0,([],[])))))
 else
 some (Sum.inl (1,(0,(0,([],[])))))
 else none:Option ((Int×t14)⊕(Bool×t14))).bind fun j44=>
 Sum.elim (fun (U:Int×t14)=>
 bif (decide (((List.length I:Int):Int)<IntKind.wrap .i64 (U.1+2))) then
 some (U.2,false)
 else
 bif (inB U.1 I) then
 (Qeh (List.getD I (Int.toNat U.1) [])).bind fun y47=>
 (Qc (S:=Bool×Int×t14) (X:=(Bool×t14)⊕(Bool×t14)) (fun J=>
 (bif (decide ((J.2.1:Int)<(List.length I:Int))) then
 some J.1
 else
 some false:Option (Bool)).bind fun j61=>
 bif j61 then
 bif (inB J.2.1 I) then
 (ZS (List.getD I (Int.toNat J.2.1) []) 61).bind fun y62=>
 bif (!decide (((List.length y62:Int):Int)=2)) then
 some (Sum.inr (Sum.inr (false,J.2.2)))
 else
 bif (inB 0 y62) then
 (Qn (List.getD y62 (Int.toNat 0) []) 7).bind fun y63=>
 bif (inB 1 y62) then
 (Jk (List.getD y62 (Int.toNat 1) []) 95 32).bind fun y64=>
 (QcR y64).bind fun y65=>
 (bif y63.2 then
 some y65.2
 else
 some false:Option (Bool)).bind fun j66=>
 bif decide (List.length J.2.2.2.2.2+List.length ([(y63.1,y65.1)]:List t7)<=LIM) then
 some (Sum.inl (j66,(IntKind.wrap .i64 (J.2.1+1),(J.2.2.1,(J.2.2.2.1,(J.2.2.2.2.1,List.append J.2.2.2.2.2 ([(y63.1,y65.1)]:List t7)))))))
 else none
 else none
 else none
 else none
 else
 some (Sum.inr (Sum.inl (J.1,J.2.2)))) (y47.2,(IntKind.wrap .i64 (U.1+1),(U.2.1,(U.2.2.1,(y47.1,U.2.2.2.2)))))).bind fun j67=>
 Sum.elim (fun (j68:Bool×t14)=>
 (bif j68.1 then
 (YS j68.2).bind fun y72=>
 bif (decide ((y72:Int)=0)) then
 (Qbq j68.2).bind fun y73=>
 bif (decide ((y73:List UInt8)=x0)) then
 some (decide (((List.length x0:Int):Int)<=300),j68.2)
 else
 some (false,j68.2)
 else
 some (false,j68.2)
 else
 some (false,j68.2):Option (Bool×t14)).bind fun j74=>
 some (j74.2,j74.1)) (fun (j69:Bool×t14)=>
 some (j69.2,j69.1)) j67
 else none) (fun (j46:Bool×t14)=>
 some (j46.2,j46.1)) j44
def QeE (J:List UInt8):Option (t15):=
 (QcC J).bind fun I=>
 bif (!I.2) then
 some (5,(0,(0,([],[]))))
 else
 some (0,I.1)
def QeZ (J:t25) (x1:Int):Option (t15):=
 (QbA J x1).bind fun I=>
 bif (!decide ((I.1:Int)=0)) then
 some (I.1,(0,(0,([],[]))))
 else
 (QeE I.2).bind fun U=>
 some U
def Qcm (I:t7):Option (Int):=
 (QP I.1 1 1000000).bind fun J=>
 bif (!J) then
 some 3
 else
 (JL I.2).bind fun U=>
 some U
def QaT (I:t5) (x1:t5):Option (Bool):=
 bif (!decide ((I.1:Int)=x1.1)) then
 some (decide ((I.1:Int)<x1.1))
 else
 some (decide ((I.2:Int)<x1.2))
def JM (J:List t10):Option (Int):=
 bif (decide ((40:Int)<(List.length J:Int))) then
 some 2
 else
 (Qc (S:=Int) (X:=(Unit)⊕(Int)) (fun I=>
 bif (decide ((I:Int)<(List.length J:Int))) then
 (bif (inB I J) then
 (Qcs (List.getD J (Int.toNat I) ((0,0),((0,([],(0,0))),(0,false)))).1).bind fun y47=>
 bif (!y47) then
 some true
 else
 bif (inB I J) then
 (Yq (List.getD J (Int.toNat I) ((0,0),((0,([],(0,0))),(0,false)))).2.2.1).bind fun y48=>
 some (!y48)
 else none
 else none:Option (Bool)).bind fun j49=>
 bif j49 then
 some (Sum.inr (Sum.inr 3))
 else
 bif (inB I J) then
 (Qcm (List.getD J (Int.toNat I) ((0,0),((0,([],(0,0))),(0,false)))).2.1).bind fun U=>
 bif (!decide ((U:Int)=0)) then
 some (Sum.inr (Sum.inr U))
 else
 (bif (decide ((0:Int)<I)) then
 bif (inB (IntKind.wrap .i64 (I - 1)) J) then
 bif (inB I J) then
 (QaT (List.getD J (Int.toNat (IntKind.wrap .i64 (I - 1))) ((0,0),((0,([],(0,0))),(0,false)))).1 (List.getD J (Int.toNat I) ((0,0),((0,([],(0,0))),(0,false)))).1).bind fun y52=>
 some (!y52)
 else none
 else none
 else
 some false:Option (Bool)).bind fun j53=>
 bif j53 then
 some (Sum.inr (Sum.inr 1))
 else
 some (Sum.inl (IntKind.wrap .i64 (I+1)))
 else none
 else
 some (Sum.inr (Sum.inl ()))) 0).bind fun j54=>
 Sum.elim (fun (j55:Unit)=>
 some 0) (fun (j56:Int)=>
 some j56) j54
def Qdu (I:t14):Option (t3):=
 (YS I).bind fun J=>
 bif (!decide ((J:Int)=0)) then
 some (J,[])
 else
 (Qbq I).bind fun U=>
 bif (decide ((300:Int)<(List.length U:Int))) then
 some (2,[])
 else
 some (0,U)
def JI (I:List t10) (x1:t14):Option (List t10×Bool):=
 (Qc (S:=List t10×Int) (X:=List t10) (fun s14=>
 bif (decide ((s14.2:Int)<(List.length I:Int))) then
 bif (inB s14.2 I) then
 (JF x1.2.2.1 (List.getD I (Int.toNat s14.2) ((0,0),((0,([],(0,0))),(0,false)))).1).bind fun U=>
 (bif U then
 bif (inB s14.2 I) then
 bif decide (List.length s14.1+List.length ([List.getD I (Int.toNat s14.2) ((0,0),((0,([],(0,0))),(0,false)))]:List t10)<=LIM) then
 some (List.append s14.1 ([List.getD I (Int.toNat s14.2) ((0,0),((0,([],(0,0))),(0,false)))]:List t10))
 else none
 else none
 else
 some s14.1:Option (List t10)).bind fun j16=>
 some (Sum.inl (j16,IntKind.wrap .i64 (s14.2+1)))
 else none
 else
 some (Sum.inr s14.1)) (([]:List t10),0)).bind fun J=>
 (Jp J).bind fun y18=>
 some (y18,decide (((List.length J:Int):Int)=(List.length x1.2.2.1:Int)))
def QdE (I:t10) (x1:Int):Option (Bool):=
 (bif (!I.2.2.2) then
 some true
 else
 some (decide ((IntKind.wrap .i64 (I.2.2.1+2):Int)<=x1)):Option (Bool)).bind fun J=>
 some J
def QaN (I:t25) (x1:Int) (x2:Int):Option (Bool):=
 (Qab I.2 (x1,x2)).bind fun J=>
 some J
def Qey (x0:t25) (x1:t6) (x2:Int) (x3:Int):Option (Int):=
 bif (decide ((x3:Int)<x1.2.2)) then
 some 9
 else
 (Qc (S:=Int×Int) (X:=Int) (fun s13=>
 bif (decide ((s13.2:Int)<(List.length x1.1:Int))) then
 bif (inB s13.2 x1.1) then
 (QaN x0 (List.getD x1.1 (Int.toNat s13.2) 0) x2).bind fun I=>
 (bif I then
 some (IntKind.wrap .i64 (s13.1+1))
 else
 some s13.1:Option (Int)).bind fun J=>
 some (Sum.inl (J,IntKind.wrap .i64 (s13.2+1)))
 else none
 else
 some (Sum.inr s13.1)) (0,0)).bind fun U=>
 bif (decide ((U:Int)<x1.2.1)) then
 some 6
 else
 some 0
def Qed (I:List t10):Option (Int):=
 (Qc (S:=Int×Int) (X:=Int) (fun s3=>
 bif (decide ((s3.2:Int)<(List.length I:Int))) then
 bif (inB s3.2 I) then
 some (Sum.inl (IntKind.wrap .i64 (s3.1+(List.getD I (Int.toNat s3.2) ((0,0),((0,([],(0,0))),(0,false)))).2.1.1),IntKind.wrap .i64 (s3.2+1)))
 else none
 else
 some (Sum.inr s3.1)) (0,0)).bind fun J=>
 some J
def Qeo (I:t14):Option (Int):=
 (Qc (S:=Int×Int) (X:=Int) (fun s3=>
 bif (decide ((s3.2:Int)<(List.length I.2.2.2:Int))) then
 bif (inB s3.2 I.2.2.2) then
 some (Sum.inl (IntKind.wrap .i64 (s3.1+(List.getD I.2.2.2 (Int.toNat s3.2) (0,([],(0,0)))).1),IntKind.wrap .i64 (s3.2+1)))
 else none
 else
 some (Sum.inr s3.1)) (0,0)).bind fun J=>
 some J
def QaW (x0:t25) (x1:List t10) (x2:t14) (x3:Int) (x4:Int):Option (Int×Int):=
 (JI x1 x2).bind fun I=>
 bif (!I.2) then
 some (0,4)
 else
 (Qc (S:=Int) (X:=(Unit)⊕(Int×Int)) (fun s22=>
 bif (decide ((s22:Int)<(List.length I.1:Int))) then
 bif (inB s22 I.1) then
 (QdE (List.getD I.1 (Int.toNat s22) ((0,0),((0,([],(0,0))),(0,false)))) x4).bind fun y23=>
 bif (!y23) then
 some (Sum.inr (Sum.inr (0,9)))
 else
 bif (inB s22 I.1) then
 (Qey x0 (List.getD I.1 (Int.toNat s22) ((0,0),((0,([],(0,0))),(0,false)))).2.1.2 x3 x4).bind fun J=>
 bif (!decide ((J:Int)=0)) then
 some (Sum.inr (Sum.inr (0,J)))
 else
 some (Sum.inl (IntKind.wrap .i64 (s22+1)))
 else none
 else none
 else
 some (Sum.inr (Sum.inl ()))) 0).bind fun j25=>
 Sum.elim (fun (j26:Unit)=>
 (bif (decide ((x2.1:Int)=2)) then
 (QaN x0 x2.2.1 x3).bind fun y29=>
 some (!y29)
 else
 some false:Option (Bool)).bind fun j30=>
 bif j30 then
 some (0,6)
 else
 (Qed I.1).bind fun U=>
 (Qeo x2).bind fun y32=>
 bif (decide ((IntKind.wrap .i64 (U - y32):Int)<0)) then
 some (0,8)
 else
 some (IntKind.wrap .i64 (U - y32),0)) (fun (j27:Int×Int)=>
 some (j27.1,j27.2)) j25
def QcN (x0:t25) (x1:List t10) (x2:t14) (x3:Int):Option (t5):=
 (YT x0).bind fun y8=>
 bif (!decide ((y8:Int)=0)) then
 some (y8,0)
 else
 (JM x1).bind fun y9=>
 bif (!decide ((y9:Int)=0)) then
 some (y9,0)
 else
 (YS x2).bind fun U=>
 bif (!decide ((U:Int)=0)) then
 some (U,0)
 else
 (Yq x3).bind fun y11=>
 bif (!y11) then
 some (3,0)
 else
 (Qdu x2).bind fun I=>
 bif (!decide ((I.1:Int)=0)) then
 some (I.1,0)
 else
 (Qdi x0.1 I.2).bind fun y13=>
 bif (decide ((y13:Int)=0)) then
 some (4,0)
 else
 (QaW x0 x1 x2 y13 x3).bind fun J=>
 bif (!decide ((J.2:Int)=0)) then
 some (J.2,0)
 else
 some (0,J.1)
def QbL (I:List t11) (x1:Int):Option (Int):=
 (Qc (S:=Int) (X:=(Unit)⊕(Int)) (fun s5=>
 bif (decide ((s5:Int)<(List.length I:Int))) then
 bif (inB s5 I) then
 bif (decide (((List.getD I (Int.toNat s5) (0,(0,0))).1:Int)=x1)) then
 some (Sum.inr (Sum.inr s5))
 else
 some (Sum.inl (IntKind.wrap .i64 (s5+1)))
 else none
 else
 some (Sum.inr (Sum.inl ()))) 0).bind fun J=>
 Sum.elim (fun (j7:Unit)=>
 some (-1)) (fun (U:Int)=>
 some U) J
def Qbz (I:List t11) (x1:t11):Option (List t11×Int):=
 (QbL I x1.1).bind fun y9=>
 bif (decide ((0:Int)<=y9)) then
 some (([]:List t11),7)
 else
 (Qc (S:=Int×Int) (X:=(Int)⊕(List t11×Int)) (fun s12=>
 bif (decide ((s12.2:Int)<(List.length I:Int))) then
 bif (inB s12.2 I) then
 bif (Sh.beq (.prod (.int .i64) (.int .i64)) (List.getD I (Int.toNat s12.2) (0,(0,0))).2 x1.2) then
 some (Sum.inr (Sum.inr (([]:List t11),7)))
 else
 bif (inB s12.2 I) then
 (bif (decide (((List.getD I (Int.toNat s12.2) (0,(0,0))).1:Int)<x1.1)) then
 some (IntKind.wrap .i64 (s12.2+1))
 else
 some s12.1:Option (Int)).bind fun j13=>
 some (Sum.inl (j13,IntKind.wrap .i64 (s12.2+1)))
 else none
 else none
 else
 some (Sum.inr (Sum.inl s12.1))) (0,0)).bind fun j14=>
 Sum.elim (fun (J:Int)=>
 bif (decide ((8:Int)<=(List.length I:Int))) then
 some (([]:List t11),2)
 else
 bif (QR 0 J I) then
 bif decide (List.length ([]:List t11)+List.length (cut 0 J I)<=LIM) then
 bif decide (List.length (List.append ([]:List t11) (cut 0 J I))+List.length ([x1]:List t11)<=LIM) then
 bif (QR J (List.length I:Int) I) then
 bif decide (List.length (List.append (List.append ([]:List t11) (cut 0 J I)) ([x1]:List t11))+List.length (cut J (List.length I:Int) I)<=LIM) then
 some (List.append (List.append (List.append ([]:List t11) (cut 0 J I)) ([x1]:List t11)) (cut J (List.length I:Int) I),0)
 else none
 else none
 else none
 else none
 else none) (fun (U:List t11×Int)=>
 some (U.1,U.2)) j14
def Qdo (J:List t11) (x1:t14) (x2:Int):Option (List t11×Int):=
 (bif (decide ((x1.1:Int)=2)) then
 (QbL J x1.2.1).bind fun y23=>
 some (decide ((y23:Int)<0))
 else
 some false:Option (Bool)).bind fun j24=>
 bif j24 then
 some (([]:List t11),4)
 else
 (Qc (S:=List t11×Int) (X:=List t11) (fun I=>
 bif (decide ((I.2:Int)<(List.length J:Int))) then
 (bif (decide ((x1.1:Int)=2)) then
 bif (inB I.2 J) then
 some (decide (((List.getD J (Int.toNat I.2) (0,(0,0))).1:Int)=x1.2.1))
 else none
 else
 some false:Option (Bool)).bind fun j36=>
 (bif (!j36) then
 bif (inB I.2 J) then
 (JF x1.2.2.1 (List.getD J (Int.toNat I.2) (0,(0,0))).2).bind fun y38=>
 some (!y38)
 else none
 else
 some false:Option (Bool)).bind fun j39=>
 (bif j39 then
 bif (inB I.2 J) then
 bif decide (List.length I.1+List.length ([List.getD J (Int.toNat I.2) (0,(0,0))]:List t11)<=LIM) then
 some (List.append I.1 ([List.getD J (Int.toNat I.2) (0,(0,0))]:List t11))
 else none
 else none
 else
 some I.1:Option (List t11)).bind fun j40=>
 some (Sum.inl (j40,IntKind.wrap .i64 (I.2+1)))
 else
 some (Sum.inr I.1)) (([]:List t11),0)).bind fun U=>
 bif (!decide ((x1.1:Int)=1)) then
 some (U,0)
 else
 (Qbz U (x1.2.1,(x2,0))).bind fun y42=>
 some (y42.1,y42.2)
def Qdk (I:List t10) (x1:Int):Option (Bool):=
 (Qc (S:=Int) (X:=(Unit)⊕(Bool)) (fun s5=>
 bif (decide ((s5:Int)<(List.length I:Int))) then
 bif (inB s5 I) then
 bif (decide (((List.getD I (Int.toNat s5) ((0,0),((0,([],(0,0))),(0,false)))).1.1:Int)=x1)) then
 some (Sum.inr (Sum.inr true))
 else
 some (Sum.inl (IntKind.wrap .i64 (s5+1)))
 else none
 else
 some (Sum.inr (Sum.inl ()))) 0).bind fun J=>
 Sum.elim (fun (j7:Unit)=>
 some false) (fun (U:Bool)=>
 some U) J
def QeC (J:List t10) (x1:t10):Option (List t10):=
 (Qc (S:=Int) (X:=Int) (fun s18=>
 (bif (decide ((s18:Int)<(List.length J:Int))) then
 bif (inB s18 J) then
 (QaT (List.getD J (Int.toNat s18) ((0,0),((0,([],(0,0))),(0,false)))).1 x1.1).bind fun U=>
 some U
 else none
 else
 some false:Option (Bool)).bind fun j21=>
 bif j21 then
 some (Sum.inl (IntKind.wrap .i64 (s18+1)))
 else
 some (Sum.inr s18)) 0).bind fun I=>
 bif (QR 0 I J) then
 bif decide (List.length ([]:List t10)+List.length (cut 0 I J)<=LIM) then
 bif decide (List.length (List.append ([]:List t10) (cut 0 I J))+List.length ([x1]:List t10)<=LIM) then
 bif (QR I (List.length J:Int) J) then
 bif decide (List.length (List.append (List.append ([]:List t10) (cut 0 I J)) ([x1]:List t10))+List.length (cut I (List.length J:Int) J)<=LIM) then
 some (List.append (List.append (List.append ([]:List t10) (cut 0 I J)) ([x1]:List t10)) (cut I (List.length J:Int) J))
 else none
 else none
 else none
 else none
 else none
def Qez (x0:List t10) (x1:Int) (x2:List t7) (x3:Int) (x4:Bool):Option (List t10×List t10):=
 (Jp x0).bind fun I=>
 (Qc (S:=List t10×Int) (X:=List t10) (fun s15=>
 bif (decide ((s15.2:Int)<(List.length x2:Int))) then
 bif (inB s15.2 x2) then
 bif (inB s15.2 x2) then
 (Jq (List.getD x2 (Int.toNat s15.2) (0,([],(0,0)))).2).bind fun J=>
 (QeC s15.1 ((x1,s15.2),(((List.getD x2 (Int.toNat s15.2) (0,([],(0,0)))).1,J),(x3,x4)))).bind fun U=>
 some (Sum.inl (U,IntKind.wrap .i64 (s15.2+1)))
 else none
 else none
 else
 some (Sum.inr s15.1)) (I,0)).bind fun j18=>
 some (j18,x0)
def Ji (I:List t10) (x1:Int) (x2:List t7) (x3:Int) (x4:Bool):Option (t16×List t10):=
 (JM I).bind fun J=>
 bif (!decide ((J:Int)=0)) then
 some ((J,[]),I)
 else
 ((QP x1 1 60).bind fun y19=>
 bif (!y19) then
 some true
 else
 (Yq x3).bind fun y20=>
 some (!y20):Option (Bool)).bind fun j21=>
 bif j21 then
 some ((3,[]),I)
 else
 bif (decide ((4:Int)<(List.length x2:Int))) then
 some ((2,[]),I)
 else
 (Qc (S:=Int) (X:=(Unit)⊕(t16)) (fun s24=>
 bif (decide ((s24:Int)<(List.length x2:Int))) then
 bif (inB s24 x2) then
 (Qcm (List.getD x2 (Int.toNat s24) (0,([],(0,0))))).bind fun U=>
 bif (!decide ((U:Int)=0)) then
 some (Sum.inr (Sum.inr (U,[])))
 else
 some (Sum.inl (IntKind.wrap .i64 (s24+1)))
 else none
 else
 some (Sum.inr (Sum.inl ()))) 0).bind fun j26=>
 Sum.elim (fun (j27:Unit)=>
 (Qdk I x1).bind fun y29=>
 bif y29 then
 some ((7,[]),I)
 else
 bif (decide ((40:Int)<IntKind.wrap .i64 ((List.length I:Int)+(List.length x2:Int)))) then
 some ((2,[]),I)
 else
 (Qez I x1 x2 x3 x4).bind fun y30=>
 some ((0,y30.1),y30.2)) (fun (j28:t16)=>
 some (j28,I)) j26
def QeL (I:List t10) (x1:t14):Option (t16):=
 (JM I).bind fun J=>
 bif (!decide ((J:Int)=0)) then
 some (J,[])
 else
 (YS x1).bind fun U=>
 bif (!decide ((U:Int)=0)) then
 some (U,[])
 else
 (JI I x1).bind fun y6=>
 bif (!y6.2) then
 some (4,[])
 else
 some (0,y6.1)
def QeY (I:List t10) (x1:t5):Option (Int):=
 (Qc (S:=Int) (X:=(Unit)⊕(Int)) (fun s5=>
 bif (decide ((s5:Int)<(List.length I:Int))) then
 bif (inB s5 I) then
 bif (Sh.beq (.prod (.int .i64) (.int .i64)) (List.getD I (Int.toNat s5) ((0,0),((0,([],(0,0))),(0,false)))).1 x1) then
 some (Sum.inr (Sum.inr s5))
 else
 some (Sum.inl (IntKind.wrap .i64 (s5+1)))
 else none
 else
 some (Sum.inr (Sum.inl ()))) 0).bind fun J=>
 Sum.elim (fun (j7:Unit)=>
 some (-1)) (fun (U:Int)=>
 some U) J
def QdN (U:List t10) (x1:List t5):Option (List t10×Bool×List t10):=
 (Jp U).bind fun y9=>
 (Qc (S:=List t10×Int) (X:=(List t10)⊕(List t10×Bool)) (fun s12=>
 bif (decide ((s12.2:Int)<(List.length x1:Int))) then
 bif (inB s12.2 x1) then
 (QeY s12.1 (List.getD x1 (Int.toNat s12.2) (0,0))).bind fun I=>
 bif (decide ((I:Int)<0)) then
 some (Sum.inr (Sum.inr (([]:List t10),false)))
 else
 bif (QR 0 I s12.1) then
 bif decide (List.length ([]:List t10)+List.length (List.take (Int.toNat (I - 0)) (List.drop (Int.toNat 0) s12.1))<=LIM) then
 bif (QR (IntKind.wrap .i64 (I+1)) (List.length s12.1:Int) s12.1) then
 bif decide (List.length (List.append ([]:List t10) (List.take (Int.toNat (I - 0)) (List.drop (Int.toNat 0) s12.1)))+List.length (List.take (Int.toNat ((List.length s12.1:Int) - (IntKind.wrap .i64 (I+1)))) (List.drop (Int.toNat (IntKind.wrap .i64 (I+1))) s12.1))<=LIM) then
 some (Sum.inl (List.append (List.append ([]:List t10) (List.take (Int.toNat (I - 0)) (List.drop (Int.toNat 0) s12.1))) (List.take (Int.toNat ((List.length s12.1:Int) - (IntKind.wrap .i64 (I+1)))) (List.drop (Int.toNat (IntKind.wrap .i64 (I+1))) s12.1)),IntKind.wrap .i64 (s12.2+1)))
 else none
 else none
 else none
 else none
 else none
 else
 some (Sum.inr (Sum.inl s12.1))) (y9,0)).bind fun j14=>
 Sum.elim (fun (j15:List t10)=>
 some (j15,(true,U))) (fun (J:List t10×Bool)=>
 some (J.1,(J.2,U))) j14
def QcM (I:List t10) (x1:t14) (x2:Int) (x3:Int):Option (t16×List t10):=
 (QeL I x1).bind fun J=>
 bif (!decide ((J.1:Int)=0)) then
 some (J,I)
 else
 (Qdk I x2).bind fun y6=>
 bif y6 then
 some ((7,[]),I)
 else
 (QdN I x1.2.2.1).bind fun U=>
 (Ji U.1 x2 x1.2.2.2 x3 false).bind fun y8=>
 some (y8.1,U.2.2)
def Qe3 (J:t25) (x1:t21) (x2:Int) (x3:Int):Option (List t10×Int×Int×t25×t21):=
 (QeZ J x2).bind fun U=>
 bif (!decide ((U.1:Int)=0)) then
 some (([]:List t10),(0,(U.1,(J,x1))))
 else
 (QcN J x1.2.2.1 U.2 x3).bind fun y7=>
 bif (!decide ((y7.1:Int)=0)) then
 some (([]:List t10),(0,(y7.1,(J,x1))))
 else
 (Qdo x1.2.2.2 U.2 x2).bind fun y8=>
 bif (!decide ((y8.2:Int)=0)) then
 some (([]:List t10),(0,(y8.2,(J,x1))))
 else
 (JI x1.2.2.1 U.2).bind fun y9=>
 (QcM x1.2.2.1 U.2 x2 x3).bind fun I=>
 bif (!decide ((I.1.1:Int)=0)) then
 some (([]:List t10),(0,(I.1.1,(J,(x1.1,(x1.2.1,(I.2,x1.2.2.2)))))))
 else
 some (y9.1,(y7.2,(0,(J,(x1.1,(x1.2.1,(I.1.2,y8.1)))))))
def Qb1 (I:Int):Option (Int):=
 some (1000 / 2 ^ min (IntKind.u64.wrap (RowKit.wrap64 ((RowKit.wrap64 (I - 1)).tdiv 8))).toNat 64)
def JW (x0:t25) (x1:t21) (x2:Int):Option (t24×t25):=
 (Qa1 x0 x2).bind fun I=>
 bif (!decide ((I.1:Int)=0)) then
 (Ya I.1).bind fun y21=>
 some (y21,x0)
 else
 (bif (!decide ((I.2.1:Int)=x1.1)) then
 some true
 else
 some (!decide ((I.2.2.1:Int)=IntKind.wrap .i64 (x1.2.1+1))):Option (Bool)).bind fun j22=>
 bif j22 then
 (Ya 10).bind fun y23=>
 some (y23,x0)
 else
 (QdP x1).bind fun y24=>
 bif decide (List.length ([]:List t11)+List.length x1.2.2.2<=LIM) then
 (Qc (S:=Int×t24×t25) (X:=(t24×t25)⊕(t24×t25)) (fun s29=>
 bif (decide ((s29.1:Int)<(List.length I.2.2.2.2:Int))) then
 bif (inB s29.1 I.2.2.2.2) then
 (Qe3 s29.2.2 s29.2.1.2.2.2 (List.getD I.2.2.2.2 (Int.toNat s29.1) 0) I.2.2.1).bind fun U=>
 bif (!decide ((U.2.2.1:Int)=0)) then
 (Ya U.2.2.1).bind fun y31=>
 some (Sum.inr (Sum.inr (y31,U.2.2.2.1)))
 else
 bif decide (List.length s29.2.1.2.2.1.2.1+List.length ([U.1]:List (List t10))<=LIM) then
 some (Sum.inl (IntKind.wrap .i64 (s29.1+1),((s29.2.1.1,(IntKind.wrap .i64 (s29.2.1.2.1+U.2.1),((s29.2.1.2.2.1.1,(List.append s29.2.1.2.2.1.2.1 ([U.1]:List (List t10)),s29.2.1.2.2.1.2.2)),U.2.2.2.2))),U.2.2.2.1)))
 else none
 else none
 else
 some (Sum.inr (Sum.inl (s29.2.1,s29.2.2)))) (0,((0,(0,((x2,([],List.append ([]:List t11) x1.2.2.2)),y24))),x0))).bind fun j32=>
 Sum.elim (fun (J:t24×t25)=>
 (Qb1 I.2.2.1).bind fun y35=>
 bif (decide ((1000000:Int)<IntKind.wrap .i64 (y35+J.1.2.1))) then
 (Ya 8).bind fun y36=>
 some (y36,J.2)
 else
 (Ji J.1.2.2.2.2.2.1 x2 ([(IntKind.wrap .i64 (y35+J.1.2.1),(([I.2.2.2.1]:List Int),(1,0)))]:List t7) I.2.2.1 true).bind fun y37=>
 bif (!decide ((y37.1.1:Int)=0)) then
 (Ya y37.1.1).bind fun y38=>
 some (y38,J.2)
 else
 some ((J.1.1,(J.1.2.1,(J.1.2.2.1,(x2,(I.2.2.1,(y37.1.2,J.1.2.2.2.2.2.2)))))),J.2)) (fun (j34:t24×t25)=>
 some (j34.1,j34.2)) j32
 else none
def Jv (x0:t25) (x1:List Int):Option (t24):=
 bif (decide ((40:Int)<(List.length x1:Int))) then
 (Ya 2).bind fun U=>
 some U
 else
 (YT x0).bind fun J=>
 bif (!decide ((J:Int)=0)) then
 (Ya J).bind fun y16=>
 some y16
 else
 (Qc (S:=Int×t25×t24) (X:=(t24)⊕(t24)) (fun s21=>
 bif (decide ((s21.1:Int)<(List.length x1:Int))) then
 bif (inB s21.1 x1) then
 (JW s21.2.1 s21.2.2.2.2.2 (List.getD x1 (Int.toNat s21.1) 0)).bind fun I=>
 bif (!decide ((I.1.1:Int)=0)) then
 (Ya I.1.1).bind fun y23=>
 some (Sum.inr (Sum.inr y23))
 else
 some (Sum.inl (IntKind.wrap .i64 (s21.1+1),(I.2,(s21.2.2.1,(IntKind.wrap .i64 (s21.2.2.2.1+I.1.2.1),(s21.2.2.2.2.1,I.1.2.2.2))))))
 else none
 else
 some (Sum.inr (Sum.inl s21.2.2))) (0,(x0,(0,(0,((0,([],[])),(0,(0,([],[]))))))))).bind fun j24=>
 Sum.elim (fun (j25:t24)=>
 some j25) (fun (j26:t24)=>
 some j26) j24
def Qbv (I:List t11) (x1:Int):Option (List Int):=
 (Qc (S:=Int×List Int) (X:=List Int) (fun s8=>
 bif (!decide ((s8.1:Int)=0)) then
 bif decide (List.length ([s8.1]:List Int)+List.length s8.2<=LIM) then
 (YY I s8.1).bind fun U=>
 bif (inB U I) then
 some (Sum.inl ((List.getD I (Int.toNat U) (0,(0,0))).2.1,List.append ([s8.1]:List Int) s8.2))
 else none
 else none
 else
 some (Sum.inr s8.2)) (x1,([]:List Int))).bind fun J=>
 some J
def QbX (I:t29):Option (Int):=
 (Qc (S:=Int) (X:=(Unit)⊕(Int)) (fun s25=>
 bif (decide ((s25:Int)<(List.length I.2.1:Int))) then
 bif (inB s25 I.2.1) then
 (Qa1 I.1 (List.getD I.2.1 (Int.toNat s25) (0,(0,0))).1).bind fun J=>
 bif (!decide ((J.1:Int)=0)) then
 some (Sum.inr (Sum.inr J.1))
 else
 (bif (inB s25 I.2.1) then
 bif (!decide ((J.2.1:Int)=(List.getD I.2.1 (Int.toNat s25) (0,(0,0))).2.1)) then
 some true
 else
 bif (inB s25 I.2.1) then
 some (!decide ((J.2.2.1:Int)=(List.getD I.2.1 (Int.toNat s25) (0,(0,0))).2.2))
 else none
 else none:Option (Bool)).bind fun j27=>
 bif j27 then
 some (Sum.inr (Sum.inr 1))
 else
 bif (inB s25 I.2.1) then
 (Qbv I.2.1 (List.getD I.2.1 (Int.toNat s25) (0,(0,0))).1).bind fun y28=>
 (Jv I.1 y28).bind fun U=>
 bif (!decide ((U.1:Int)=0)) then
 some (Sum.inr (Sum.inr U.1))
 else
 some (Sum.inl (IntKind.wrap .i64 (s25+1)))
 else none
 else none
 else
 some (Sum.inr (Sum.inl ()))) 0).bind fun j30=>
 Sum.elim (fun (j31:Unit)=>
 some 0) (fun (j32:Int)=>
 some j32) j30
def Qa0 (J:List t11) (x1:Int) (x2:Int):Option (Bool):=
 (Qc (S:=Int) (X:=(Unit)⊕(Bool)) (fun s10=>
 bif (!decide ((s10:Int)=0)) then
 (YY J s10).bind fun I=>
 bif (decide ((I:Int)<0)) then
 some (Sum.inr (Sum.inr false))
 else
 bif (decide ((x1:Int)=s10)) then
 some (Sum.inr (Sum.inr true))
 else
 bif (inB I J) then
 some (Sum.inl (List.getD J (Int.toNat I) (0,(0,0))).2.1)
 else none
 else
 some (Sum.inr (Sum.inl ()))) x2).bind fun U=>
 Sum.elim (fun (j13:Unit)=>
 some false) (fun (j14:Bool)=>
 some j14) U
def JV (J:List t11) (x1:Int) (x2:Int):Option (Bool):=
 ((Qa0 J x1 x2).bind fun U=>
 bif U then
 some true
 else
 (Qa0 J x2 x1).bind fun y9=>
 some y9:Option (Bool)).bind fun I=>
 some I
def QcA (x0:List t11) (x1:List Int) (x2:Int):Option (Bool):=
 (Qc (S:=Int) (X:=(Unit)⊕(Bool)) (fun s10=>
 bif (decide ((s10:Int)<(List.length x1:Int))) then
 bif (inB s10 x1) then
 (JV x0 (List.getD x1 (Int.toNat s10) 0) x2).bind fun I=>
 bif (!I) then
 some (Sum.inr (Sum.inr false))
 else
 some (Sum.inl (IntKind.wrap .i64 (s10+1)))
 else none
 else
 some (Sum.inr (Sum.inl ()))) 0).bind fun J=>
 Sum.elim (fun (j13:Unit)=>
 some true) (fun (U:Bool)=>
 some U) J
def Qb4 (I:t29):Option (Int):=
 (Qc (S:=Int) (X:=(Unit)⊕(Int)) (fun s15=>
 bif (decide ((s15:Int)<(List.length I.2.2.1:Int))) then
 bif (inB s15 I.2.2.1) then
 (YY I.2.1 (List.getD I.2.2.1 (Int.toNat s15) 0)).bind fun J=>
 bif (decide ((J:Int)<0)) then
 some (Sum.inr (Sum.inr 4))
 else
 bif (QR 0 s15 I.2.2.1) then
 bif (inB s15 I.2.2.1) then
 (QcA I.2.1 (cut 0 s15 I.2.2.1) (List.getD I.2.2.1 (Int.toNat s15) 0)).bind fun U=>
 bif (!U) then
 some (Sum.inr (Sum.inr 10))
 else
 some (Sum.inl (IntKind.wrap .i64 (s15+1)))
 else none
 else none
 else none
 else
 some (Sum.inr (Sum.inl ()))) 0).bind fun j18=>
 Sum.elim (fun (j19:Unit)=>
 some 0) (fun (j20:Int)=>
 some j20) j18
def Qdl (U:List t11) (x1:t11) (x2:List Int):Option (Bool):=
 (Qc (S:=Int) (X:=(Unit)⊕(Bool)) (fun I=>
 bif (decide ((I:Int)<(List.length x2:Int))) then
 (bif (inB I x2) then
 (JV U x1.1 (List.getD x2 (Int.toNat I) 0)).bind fun y33=>
 bif (!y33) then
 some true
 else
 bif (inB I x2) then
 (YY U (List.getD x2 (Int.toNat I) 0)).bind fun J=>
 bif (inB J U) then
 some (decide ((x1.2.2:Int)<(List.getD U (Int.toNat J) (0,(0,0))).2.2))
 else none
 else none
 else none:Option (Bool)).bind fun j35=>
 bif j35 then
 some (Sum.inr (Sum.inr false))
 else
 some (Sum.inl (IntKind.wrap .i64 (I+1)))
 else
 some (Sum.inr (Sum.inl ()))) 0).bind fun j36=>
 Sum.elim (fun (j37:Unit)=>
 some true) (fun (j38:Bool)=>
 some j38) j36
def Qdw (I:List t11) (x1:List Int):Option (Int):=
 (Qc (S:=Int×Int) (X:=Int) (fun s23=>
 bif (decide ((s23.2:Int)<(List.length I:Int))) then
 (bif (inB s23.2 I) then
 (Qdl I (List.getD I (Int.toNat s23.2) (0,(0,0))) x1).bind fun U=>
 bif U then
 bif (decide ((s23.1:Int)<0)) then
 some true
 else
 bif (inB s23.2 I) then
 bif (inB s23.1 I) then
 some (decide (((List.getD I (Int.toNat s23.1) (0,(0,0))).2.2:Int)<(List.getD I (Int.toNat s23.2) (0,(0,0))).2.2))
 else none
 else none
 else
 some false
 else none:Option (Bool)).bind fun j26=>
 (bif j26 then
 some s23.2
 else
 some s23.1:Option (Int)).bind fun j27=>
 some (Sum.inl (j27,IntKind.wrap .i64 (s23.2+1)))
 else
 some (Sum.inr s23.1)) ((-1),0)).bind fun J=>
 bif (decide ((J:Int)<0)) then
 some 0
 else
 bif (inB J I) then
 some (List.getD I (Int.toNat J) (0,(0,0))).1
 else none
def QdM (I:List Int) (x1:List Int):Option (Bool):=
 bif (!decide (((List.length I:Int):Int)=(List.length x1:Int))) then
 some false
 else
 (Qc (S:=Int) (X:=(Unit)⊕(Bool)) (fun s5=>
 bif (decide ((s5:Int)<(List.length I:Int))) then
 bif (inB s5 I) then
 bif (inB s5 x1) then
 bif (!decide ((List.getD I (Int.toNat s5) 0:Int)=List.getD x1 (Int.toNat s5) 0)) then
 some (Sum.inr (Sum.inr false))
 else
 some (Sum.inl (IntKind.wrap .i64 (s5+1)))
 else none
 else none
 else
 some (Sum.inr (Sum.inl ()))) 0).bind fun J=>
 Sum.elim (fun (j7:Unit)=>
 some true) (fun (U:Bool)=>
 some U) J
def Qdt (I:t6) (x1:t6):Option (Bool):=
 (bif (decide ((I.2.1:Int)=x1.2.1)) then
 bif (decide ((I.2.2:Int)=x1.2.2)) then
 (QdM I.1 x1.1).bind fun J=>
 some J
 else
 some false
 else
 some false:Option (Bool)).bind fun U=>
 some U
def Qbp (I:List t10) (x1:List t10):Option (Bool):=
 bif (!decide (((List.length I:Int):Int)=(List.length x1:Int))) then
 some false
 else
 (Qc (S:=Int) (X:=(Unit)⊕(Bool)) (fun s20=>
 bif (decide ((s20:Int)<(List.length I:Int))) then
 (bif (inB s20 I) then
 bif (inB s20 x1) then
 bif (!(Sh.beq (.prod (.int .i64) (.int .i64)) (List.getD I (Int.toNat s20) ((0,0),((0,([],(0,0))),(0,false)))).1 (List.getD x1 (Int.toNat s20) ((0,0),((0,([],(0,0))),(0,false)))).1)) then
 some true
 else
 bif (inB s20 I) then
 bif (inB s20 x1) then
 bif (!decide (((List.getD I (Int.toNat s20) ((0,0),((0,([],(0,0))),(0,false)))).2.2.1:Int)=(List.getD x1 (Int.toNat s20) ((0,0),((0,([],(0,0))),(0,false)))).2.2.1)) then
 some true
 else
 bif (inB s20 I) then
 bif (inB s20 x1) then
 bif (!(Sh.beq .bool (List.getD I (Int.toNat s20) ((0,0),((0,([],(0,0))),(0,false)))).2.2.2 (List.getD x1 (Int.toNat s20) ((0,0),((0,([],(0,0))),(0,false)))).2.2.2)) then
 some true
 else
 bif (inB s20 I) then
 bif (inB s20 x1) then
 bif (!decide (((List.getD I (Int.toNat s20) ((0,0),((0,([],(0,0))),(0,false)))).2.1.1:Int)=(List.getD x1 (Int.toNat s20) ((0,0),((0,([],(0,0))),(0,false)))).2.1.1)) then
 some true
 else
 bif (inB s20 I) then
 bif (inB s20 x1) then
 (Qdt (List.getD I (Int.toNat s20) ((0,0),((0,([],(0,0))),(0,false)))).2.1.2 (List.getD x1 (Int.toNat s20) ((0,0),((0,([],(0,0))),(0,false)))).2.1.2).bind fun J=>
 some (!J)
 else none
 else none
 else none
 else none
 else none
 else none
 else none
 else none
 else none
 else none:Option (Bool)).bind fun U=>
 bif U then
 some (Sum.inr (Sum.inr false))
 else
 some (Sum.inl (IntKind.wrap .i64 (s20+1)))
 else
 some (Sum.inr (Sum.inl ()))) 0).bind fun j24=>
 Sum.elim (fun (j25:Unit)=>
 some true) (fun (j26:Bool)=>
 some j26) j24
def QbC (I:List t11) (x1:List t11):Option (Bool):=
 bif (!decide (((List.length I:Int):Int)=(List.length x1:Int))) then
 some false
 else
 (Qc (S:=Int) (X:=(Unit)⊕(Bool)) (fun s5=>
 bif (decide ((s5:Int)<(List.length I:Int))) then
 bif (inB s5 I) then
 bif (inB s5 x1) then
 bif (!(Sh.beq (.prod (.int .i64) (.prod (.int .i64) (.int .i64))) (List.getD I (Int.toNat s5) (0,(0,0))) (List.getD x1 (Int.toNat s5) (0,(0,0))))) then
 some (Sum.inr (Sum.inr false))
 else
 some (Sum.inl (IntKind.wrap .i64 (s5+1)))
 else none
 else none
 else
 some (Sum.inr (Sum.inl ()))) 0).bind fun J=>
 Sum.elim (fun (j7:Unit)=>
 some true) (fun (U:Bool)=>
 some U) J
def Qdz (I:t21) (x1:t21):Option (Bool):=
 (bif (decide ((I.1:Int)=x1.1)) then
 bif (decide ((I.2.1:Int)=x1.2.1)) then
 (Qbp I.2.2.1 x1.2.2.1).bind fun U=>
 bif U then
 (QbC I.2.2.2 x1.2.2.2).bind fun y9=>
 some y9
 else
 some false
 else
 some false
 else
 some false:Option (Bool)).bind fun J=>
 some J
def Qai (I:t18) (x1:t18):Option (Bool):=
 (bif (!decide ((I.1:Int)=x1.1)) then
 some true
 else
 bif (!decide (((List.length I.2.1:Int):Int)=(List.length x1.2.1:Int))) then
 some true
 else
 (QbC I.2.2 x1.2.2).bind fun J=>
 some (!J):Option (Bool)).bind fun U=>
 bif U then
 some false
 else
 (Qc (S:=Int) (X:=(Unit)⊕(Bool)) (fun s16=>
 bif (decide ((s16:Int)<(List.length I.2.1:Int))) then
 bif (inB s16 I.2.1) then
 bif (inB s16 x1.2.1) then
 (Qbp (List.getD I.2.1 (Int.toNat s16) []) (List.getD x1.2.1 (Int.toNat s16) [])).bind fun y17=>
 bif (!y17) then
 some (Sum.inr (Sum.inr false))
 else
 some (Sum.inl (IntKind.wrap .i64 (s16+1)))
 else none
 else none
 else
 some (Sum.inr (Sum.inl ()))) 0).bind fun j18=>
 Sum.elim (fun (j19:Unit)=>
 some true) (fun (j20:Bool)=>
 some j20) j18
def QbR (I:t29):Option (Int×t29):=
 (Qdw I.2.1 I.2.2.1).bind fun y15=>
 bif (!decide ((I.2.2.2.1.1:Int)=y15)) then
 some (10,I)
 else
 (Qbv I.2.1 I.2.2.2.1.1).bind fun J=>
 (Jv I.1 J).bind fun y17=>
 bif (!decide ((y17.1:Int)=0)) then
 some (y17.1,I)
 else
 (Qdz y17.2.2.2 I.2.2.2.1).bind fun y18=>
 bif (!y18) then
 some (10,I)
 else
 bif (!decide (((List.length I.2.2.2.2:Int):Int)=(List.length J:Int))) then
 some (1,I)
 else
 (Qc (S:=Int×t21×t29) (X:=(t29)⊕(Int×t29)) (fun s23=>
 bif (decide ((s23.1:Int)<(List.length J:Int))) then
 bif (inB s23.1 J) then
 (JW s23.2.2.1 s23.2.1 (List.getD J (Int.toNat s23.1) 0)).bind fun U=>
 bif (inB s23.1 s23.2.2.2.2.2.2) then
 (Qai (List.getD s23.2.2.2.2.2.2 (Int.toNat s23.1) (0,([],[]))) U.1.2.2.1).bind fun y25=>
 bif (!y25) then
 some (Sum.inr (Sum.inr (1,(U.2,s23.2.2.2))))
 else
 some (Sum.inl (IntKind.wrap .i64 (s23.1+1),(U.1.2.2.2,(U.2,s23.2.2.2))))
 else none
 else none
 else
 some (Sum.inr (Sum.inl s23.2.2))) (0,((0,(0,([],[]))),I))).bind fun j26=>
 Sum.elim (fun (j27:t29)=>
 some (0,j27)) (fun (j28:Int×t29)=>
 some (j28.1,j28.2)) j26
def QbY (I:t29):Option (Int×t29):=
 (YT I.1).bind fun U=>
 bif (!decide ((U:Int)=0)) then
 some (U,I)
 else
 (QcE I.2.1).bind fun y7=>
 bif (!decide ((y7:Int)=0)) then
 some (y7,I)
 else
 bif (decide ((20:Int)<(List.length I.2.2.1:Int))) then
 some (2,I)
 else
 (QbX I).bind fun y8=>
 bif (!decide ((y8:Int)=0)) then
 some (y8,I)
 else
 (Qb4 I).bind fun y9=>
 bif (!decide ((y9:Int)=0)) then
 some (y9,I)
 else
 (QbR I).bind fun J=>
 some (J.1,J.2)
def YQ (U:List UInt8) (x1:List Int):Option (List UInt8):=
 (Qc (S:=List UInt8×Int) (X:=List UInt8) (fun s8=>
 bif (decide ((s8.2:Int)<(List.length x1:Int))) then
 bif decide (List.length s8.1+List.length [32]<=LIM) then
 bif (inB s8.2 x1) then
 (QI (List.getD x1 (Int.toNat s8.2) 0)).bind fun J=>
 bif decide (List.length (List.append s8.1 [32])+List.length J<=LIM) then
 some (Sum.inl (List.append (List.append s8.1 [32]) J,IntKind.wrap .i64 (s8.2+1)))
 else none
 else none
 else none
 else
 some (Sum.inr s8.1)) (U,0)).bind fun I=>
 some I
def Qfk (I:List t11):Option (List Int):=
 (Qc (S:=List Int×Int) (X:=List Int) (fun s3=>
 bif (decide ((s3.2:Int)<(List.length I:Int))) then
 bif (inB s3.2 I) then
 bif decide (List.length s3.1+List.length ([(List.getD I (Int.toNat s3.2) (0,(0,0))).1]:List Int)<=LIM) then
 some (Sum.inl (List.append s3.1 ([(List.getD I (Int.toNat s3.2) (0,(0,0))).1]:List Int),IntKind.wrap .i64 (s3.2+1)))
 else none
 else none
 else
 some (Sum.inr s3.1)) (([]:List Int),0)).bind fun J=>
 some J
def QbZ (x0:List t10):Option (List UInt8):=
 (Qc (S:=List UInt8×Int) (X:=List UInt8) (fun s23=>
 bif (decide ((s23.2:Int)<(List.length x0:Int))) then
 bif (inB s23.2 x0) then
 bif decide (List.length s23.1+List.length [99,111,105,110,32]<=LIM) then
 (QI (List.getD x0 (Int.toNat s23.2) ((0,0),((0,([],(0,0))),(0,false)))).1.1).bind fun I=>
 bif decide (List.length (List.append s23.1 [99,111,105,110,32])+List.length I<=LIM) then
 bif decide (List.length (List.append (List.append s23.1 [99,111,105,110,32]) I)+List.length [58]<=LIM) then
 (QI (List.getD x0 (Int.toNat s23.2) ((0,0),((0,([],(0,0))),(0,false)))).1.2).bind fun J=>
 bif decide (List.length (List.append (List.append (List.append s23.1 [99,111,105,110,32]) I) [58])+List.length J<=LIM) then
 bif decide (List.length (List.append (List.append (List.append (List.append s23.1 [99,111,105,110,32]) I) [58]) J)+List.length [32]<=LIM) then
 (QI (List.getD x0 (Int.toNat s23.2) ((0,0),((0,([],(0,0))),(0,false)))).2.1.1).bind fun U=>
 bif decide (List.length (List.append (List.append (List.append (List.append (List.append s23.1 [99,111,105,110,32]) I) [58]) J) [32])+List.length U<=LIM) then
 bif decide (List.length (List.append (List.append (List.append (List.append (List.append (List.append s23.1 [99,111,105,110,32]) I) [58]) J) [32]) U)+List.length [32]<=LIM) then
 (J8 (List.getD x0 (Int.toNat s23.2) ((0,0),((0,([],(0,0))),(0,false)))).2.1.2).bind fun y27=>
 bif decide (List.length (List.append (List.append (List.append (List.append (List.append (List.append (List.append s23.1 [99,111,105,110,32]) I) [58]) J) [32]) U) [32])+List.length y27<=LIM) then
 bif decide (List.length (List.append (List.append (List.append (List.append (List.append (List.append (List.append (List.append s23.1 [99,111,105,110,32]) I) [58]) J) [32]) U) [32]) y27)+List.length [10]<=LIM) then
 some (Sum.inl (List.append (List.append (List.append (List.append (List.append (List.append (List.append (List.append (List.append s23.1 [99,111,105,110,32]) I) [58]) J) [32]) U) [32]) y27) [10],IntKind.wrap .i64 (s23.2+1)))
 else none
 else none
 else none
 else none
 else none
 else none
 else none
 else none
 else none
 else none
 else
 some (Sum.inr s23.1)) ([],0)).bind fun j28=>
 some j28
def Qcf (x0:t29):Option (List UInt8):=
 (YQ [116,105,112] ([x0.2.2.2.1.1,x0.2.2.2.1.2.1]:List Int)).bind fun I=>
 bif decide (List.length I+List.length [10]<=LIM) then
 (YQ [116,114,101,101] ([(List.length x0.2.1:Int)]:List Int)).bind fun U=>
 bif decide (List.length (List.append I [10])+List.length U<=LIM) then
 bif decide (List.length (List.append (List.append I [10]) U)+List.length [10]<=LIM) then
 (YQ [108,111,99,107,115] x0.2.2.1).bind fun y9=>
 bif decide (List.length (List.append (List.append (List.append I [10]) U) [10])+List.length y9<=LIM) then
 bif decide (List.length (List.append (List.append (List.append (List.append I [10]) U) [10]) y9)+List.length [10]<=LIM) then
 (Qfk x0.2.2.2.1.2.2.2).bind fun y10=>
 (YQ [109,101,109,98,101,114,115] y10).bind fun J=>
 bif decide (List.length (List.append (List.append (List.append (List.append (List.append I [10]) U) [10]) y9) [10])+List.length J<=LIM) then
 bif decide (List.length (List.append (List.append (List.append (List.append (List.append (List.append I [10]) U) [10]) y9) [10]) J)+List.length [10]<=LIM) then
 (QbZ x0.2.2.2.1.2.2.1).bind fun y12=>
 bif decide (List.length (List.append (List.append (List.append (List.append (List.append (List.append (List.append I [10]) U) [10]) y9) [10]) J) [10])+List.length y12<=LIM) then
 some (List.append (List.append (List.append (List.append (List.append (List.append (List.append (List.append I [10]) U) [10]) y9) [10]) J) [10]) y12)
 else none
 else none
 else none
 else none
 else none
 else none
 else none
 else none
def Qbe (J:t29):Option (t3):=
 (QbY J).bind fun I=>
 bif (!decide ((I.1:Int)=0)) then
 some (I.1,[])
 else
 (Qcf I.2).bind fun U=>
 some (0,U)
def Qbl (I:List (List UInt8)):Option (List (List UInt8)):=
 bif (decide (0<=(List.length I:Int))&&decide ((List.length I:Int)<=(LIM:Int))) then
 (Qc (S:=List (List UInt8)×Int) (X:=List (List UInt8)) (fun s3=>
 bif (decide ((s3.2:Int)<(List.length I:Int))) then
 bif (inB s3.2 I) then
 bif (inB s3.2 s3.1) then
 some (Sum.inl (List.set s3.1 (Int.toNat s3.2) (List.getD I (Int.toNat s3.2) []),IntKind.wrap .i64 (s3.2+1)))
 else none
 else none
 else
 some (Sum.inr s3.1)) (List.replicate (Int.toNat (List.length I:Int)) [],0)).bind fun J=>
 some J
 else none
def QdK (I:t5):Option (t5):=
 some (I.1,I.2)
def QcS (I:List t5):Option (List t5):=
 bif (decide (0<=(List.length I:Int))&&decide ((List.length I:Int)<=(LIM:Int))) then
 (Qc (S:=List t5×Int) (X:=List t5) (fun s8=>
 bif (decide ((s8.2:Int)<(List.length I:Int))) then
 bif (inB s8.2 I) then
 (QdK (List.getD I (Int.toNat s8.2) (0,0))).bind fun U=>
 bif (inB s8.2 s8.1) then
 some (Sum.inl (List.set s8.1 (Int.toNat s8.2) U,IntKind.wrap .i64 (s8.2+1)))
 else none
 else none
 else
 some (Sum.inr s8.1)) (List.replicate (Int.toNat (List.length I:Int)) (0,0),0)).bind fun J=>
 some J
 else none
def Qb8 (I:t25):Option (t25):=
 (Qbl I.1).bind fun J=>
 (QcS I.2).bind fun U=>
 some (J,U)
def QdI (I:t11):Option (t11):=
 some (I.1,(I.2.1,I.2.2))
def QcJ (I:List t11):Option (List t11):=
 bif (decide (0<=(List.length I:Int))&&decide ((List.length I:Int)<=(LIM:Int))) then
 (Qc (S:=List t11×Int) (X:=List t11) (fun s8=>
 bif (decide ((s8.2:Int)<(List.length I:Int))) then
 bif (inB s8.2 I) then
 (QdI (List.getD I (Int.toNat s8.2) (0,(0,0)))).bind fun U=>
 bif (inB s8.2 s8.1) then
 some (Sum.inl (List.set s8.1 (Int.toNat s8.2) U,IntKind.wrap .i64 (s8.2+1)))
 else none
 else none
 else
 some (Sum.inr s8.1)) (List.replicate (Int.toNat (List.length I:Int)) (0,(0,0)),0)).bind fun J=>
 some J
 else none
def Qan (I:List Int):Option (List Int):=
 bif (decide (0<=(List.length I:Int))&&decide ((List.length I:Int)<=(LIM:Int))) then
 (Qc (S:=List Int×Int) (X:=List Int) (fun s3=>
 bif (decide ((s3.2:Int)<(List.length I:Int))) then
 bif (inB s3.2 I) then
 bif (inB s3.2 s3.1) then
 some (Sum.inl (List.set s3.1 (Int.toNat s3.2) (List.getD I (Int.toNat s3.2) 0),IntKind.wrap .i64 (s3.2+1)))
 else none
 else none
 else
 some (Sum.inr s3.1)) (List.replicate (Int.toNat (List.length I:Int)) 0,0)).bind fun J=>
 some J
 else none
def Qem (I:t5):Option (t5):=
 some (I.1,I.2)
def Qdp (I:t6):Option (t6):=
 (Qan I.1).bind fun J=>
 some (J,(I.2.1,I.2.2))
def Qek (I:t7):Option (t7):=
 (Qdp I.2).bind fun J=>
 some (I.1,J)
def QbB (I:t10):Option (t10):=
 (Qem I.1).bind fun J=>
 (Qek I.2.1).bind fun U=>
 some (J,(U,(I.2.2.1,I.2.2.2)))
def JH (I:List t10):Option (List t10):=
 bif (decide (0<=(List.length I:Int))&&decide ((List.length I:Int)<=(LIM:Int))) then
 (Qc (S:=List t10×Int) (X:=List t10) (fun s8=>
 bif (decide ((s8.2:Int)<(List.length I:Int))) then
 bif (inB s8.2 I) then
 (QbB (List.getD I (Int.toNat s8.2) ((0,0),((0,([],(0,0))),(0,false))))).bind fun U=>
 bif (inB s8.2 s8.1) then
 some (Sum.inl (List.set s8.1 (Int.toNat s8.2) U,IntKind.wrap .i64 (s8.2+1)))
 else none
 else none
 else
 some (Sum.inr s8.1)) (List.replicate (Int.toNat (List.length I:Int)) ((0,0),((0,([],(0,0))),(0,false))),0)).bind fun J=>
 some J
 else none
def Qac (I:t11):Option (t11):=
 (Qem I.2).bind fun J=>
 some (I.1,J)
def JU (I:List t11):Option (List t11):=
 bif (decide (0<=(List.length I:Int))&&decide ((List.length I:Int)<=(LIM:Int))) then
 (Qc (S:=List t11×Int) (X:=List t11) (fun s8=>
 bif (decide ((s8.2:Int)<(List.length I:Int))) then
 bif (inB s8.2 I) then
 (Qac (List.getD I (Int.toNat s8.2) (0,(0,0)))).bind fun U=>
 bif (inB s8.2 s8.1) then
 some (Sum.inl (List.set s8.1 (Int.toNat s8.2) U,IntKind.wrap .i64 (s8.2+1)))
 else none
 else none
 else
 some (Sum.inr s8.1)) (List.replicate (Int.toNat (List.length I:Int)) (0,(0,0)),0)).bind fun J=>
 some J
 else none
def Qc6 (I:t21):Option (t21):=
 (JH I.2.2.1).bind fun J=>
 (JU I.2.2.2).bind fun U=>
 some (I.1,(I.2.1,(J,U)))
def Qb7 (I:List (List t10)):Option (List (List t10)):=
 bif (decide (0<=(List.length I:Int))&&decide ((List.length I:Int)<=(LIM:Int))) then
 (Qc (S:=List (List t10)×Int) (X:=List (List t10)) (fun s8=>
 bif (decide ((s8.2:Int)<(List.length I:Int))) then
 bif (inB s8.2 I) then
 (JH (List.getD I (Int.toNat s8.2) [])).bind fun U=>
 bif (inB s8.2 s8.1) then
 some (Sum.inl (List.set s8.1 (Int.toNat s8.2) U,IntKind.wrap .i64 (s8.2+1)))
 else none
 else none
 else
 some (Sum.inr s8.1)) (List.replicate (Int.toNat (List.length I:Int)) [],0)).bind fun J=>
 some J
 else none
def QbE (I:t18):Option (t18):=
 (Qb7 I.2.1).bind fun J=>
 (JU I.2.2).bind fun U=>
 some (I.1,(J,U))
def QcG (I:List t18):Option (List t18):=
 bif (decide (0<=(List.length I:Int))&&decide ((List.length I:Int)<=(LIM:Int))) then
 (Qc (S:=List t18×Int) (X:=List t18) (fun s8=>
 bif (decide ((s8.2:Int)<(List.length I:Int))) then
 bif (inB s8.2 I) then
 (QbE (List.getD I (Int.toNat s8.2) (0,([],[])))).bind fun U=>
 bif (inB s8.2 s8.1) then
 some (Sum.inl (List.set s8.1 (Int.toNat s8.2) U,IntKind.wrap .i64 (s8.2+1)))
 else none
 else none
 else
 some (Sum.inr s8.1)) (List.replicate (Int.toNat (List.length I:Int)) (0,([],[])),0)).bind fun J=>
 some J
 else none
def JG (I:t29):Option (t29):=
 (Qb8 I.1).bind fun U=>
 (QcJ I.2.1).bind fun y7=>
 (Qan I.2.2.1).bind fun y8=>
 (Qc6 I.2.2.2.1).bind fun y9=>
 (QcG I.2.2.2.2).bind fun J=>
 some (U,(y7,(y8,(y9,J))))
def QV (I:Int) (x1:Int) (x2:Int):Option (Bool):=
 (bif (decide ((x1:Int)<=I)) then
 some (decide ((I:Int)<=x2))
 else
 some false:Option (Bool)).bind fun J=>
 some J
def Qdm (I:List UInt8):Option (Bool):=
 (QV (List.length I:Int) 1 300).bind fun J=>
 some J
def QL (I:List (List UInt8)) (x1:List UInt8):Option (Int):=
 (Qc (S:=Int) (X:=(Unit)⊕(Int)) (fun s5=>
 bif (decide ((s5:Int)<(List.length I:Int))) then
 bif (inB s5 I) then
 bif (decide ((x1:List UInt8)=List.getD I (Int.toNat s5) [])) then
 some (Sum.inr (Sum.inr s5))
 else
 some (Sum.inl (IntKind.wrap .i64 (s5+1)))
 else none
 else
 some (Sum.inr (Sum.inl ()))) 0).bind fun J=>
 Sum.elim (fun (j7:Unit)=>
 some (-1)) (fun (U:Int)=>
 some U) J
def Zz (I:List (List UInt8)) (x1:List UInt8):Option (Bool):=
 (QL I x1).bind fun J=>
 some (decide ((0:Int)<=J))
def J2 (I:Int):Option (Bool):=
 (QV I 1 999).bind fun J=>
 some J
def ZU (I:List t5) (x1:t5):Option (Int):=
 (Qc (S:=Int) (X:=(Unit)⊕(Int)) (fun s5=>
 bif (decide ((s5:Int)<(List.length I:Int))) then
 bif (inB s5 I) then
 bif (Sh.beq (.prod (.int .i64) (.int .i64)) x1 (List.getD I (Int.toNat s5) (0,0))) then
 some (Sum.inr (Sum.inr s5))
 else
 some (Sum.inl (IntKind.wrap .i64 (s5+1)))
 else none
 else
 some (Sum.inr (Sum.inl ()))) 0).bind fun J=>
 Sum.elim (fun (j7:Unit)=>
 some (-1)) (fun (U:Int)=>
 some U) J
def QX (I:List t5) (x1:t5):Option (Bool):=
 (ZU I x1).bind fun J=>
 some (decide ((0:Int)<=J))
def Qae (J:t25):Option (Int):=
 (bif (decide ((60:Int)<(List.length J.1:Int))) then
 some true
 else
 some (decide ((120:Int)<(List.length J.2:Int))):Option (Bool)).bind fun j34=>
 bif j34 then
 some 2
 else
 (Qc (S:=Int) (X:=(Unit)⊕(Int)) (fun U=>
 bif (decide ((U:Int)<(List.length J.1:Int))) then
 bif (inB U J.1) then
 (Qdm (List.getD J.1 (Int.toNat U) [])).bind fun y40=>
 bif (!y40) then
 some (Sum.inr (Sum.inr 2))
 else
 bif (QR 0 U J.1) then
 (Zz (cut 0 U J.1) (List.getD J.1 (Int.toNat U) [])).bind fun y41=>
 bif y41 then
 some (Sum.inr (Sum.inr 7))
 else
 some (Sum.inl (IntKind.wrap .i64 (U+1)))
 else none
 else none
 else
 some (Sum.inr (Sum.inl ()))) 0).bind fun j42=>
 Sum.elim (fun (j43:Unit)=>
 (Qc (S:=Int) (X:=(Unit)⊕(Int)) (fun I=>
 bif (decide ((I:Int)<(List.length J.2:Int))) then
 bif (inB I J.2) then
 ((J2 (List.getD J.2 (Int.toNat I) (0,0)).1).bind fun y60=>
 bif (!y60) then
 some true
 else
 (QV (List.getD J.2 (Int.toNat I) (0,0)).2 1 (List.length J.1:Int)).bind fun y61=>
 some (!y61):Option (Bool)).bind fun j62=>
 bif j62 then
 some (Sum.inr (Sum.inr 3))
 else
 bif (QR 0 I J.2) then
 (QX (cut 0 I J.2) (List.getD J.2 (Int.toNat I) (0,0))).bind fun y63=>
 bif y63 then
 some (Sum.inr (Sum.inr 7))
 else
 some (Sum.inl (IntKind.wrap .i64 (I+1)))
 else none
 else none
 else
 some (Sum.inr (Sum.inl ()))) 0).bind fun j64=>
 Sum.elim (fun (j65:Unit)=>
 some 0) (fun (j66:Int)=>
 some j66) j64) (fun (j44:Int)=>
 some j44) j42
def Zb (I:List t11) (x1:t11->Option Bool):Option (Int):=
 (Qc (S:=Int) (X:=(Unit)⊕(Int)) (fun s10=>
 bif (decide ((s10:Int)<(List.length I:Int))) then
 bif (inB s10 I) then
 (x1 (List.getD I (Int.toNat s10) (0,(0,0)))).bind fun J=>
 bif J then
 some (Sum.inr (Sum.inr s10))
 else
 some (Sum.inl (IntKind.wrap .i64 (s10+1)))
 else none
 else
 some (Sum.inr (Sum.inl ()))) 0).bind fun U=>
 Sum.elim (fun (j13:Unit)=>
 some (-1)) (fun (j14:Int)=>
 some j14) U
def Qcy (I:t11) (x1:Int):Option (Bool):=
 some (decide ((I.1:Int)=x1))
def ZM (I:List t11) (x1:Int):Option (Int):=
 (Zb I (fun (a4:t11)=>(Qcy a4 x1).bind fun J=>some J)).bind fun U=>
 some U
def JB (I:Int):Option (Bool):=
 (QV I 1 60).bind fun J=>
 some J
def Qbo (J:List t11) (x1:t11):Option (Int):=
 (ZM J x1.2.1).bind fun I=>
 (bif (!decide ((x1.2.1:Int)=0)) then
 some (decide ((0:Int)<=I))
 else
 some false:Option (Bool)).bind fun U=>
 (bif U then
 bif (inB I J) then
 some (IntKind.wrap .i64 ((List.getD J (Int.toNat I) (0,(0,0))).2.2+1))
 else none
 else
 some 1:Option (Int)).bind fun j13=>
 ((JB x1.1).bind fun y16=>
 bif (!y16) then
 some true
 else
 (QV x1.2.2 1 40).bind fun y17=>
 some (!y17):Option (Bool)).bind fun j18=>
 bif j18 then
 some 3
 else
 (ZM J x1.1).bind fun y19=>
 bif (decide ((0:Int)<=y19)) then
 some 7
 else
 (bif (!decide ((x1.2.1:Int)=0)) then
 some (decide ((I:Int)<0))
 else
 some false:Option (Bool)).bind fun j20=>
 bif j20 then
 some 4
 else
 bif (!decide ((x1.2.2:Int)=j13)) then
 some 1
 else
 some 0
def Qbc (I:List t11):Option (Int):=
 bif (decide ((60:Int)<(List.length I:Int))) then
 some 2
 else
 (Qc (S:=Int) (X:=(Unit)⊕(Int)) (fun s10=>
 bif (decide ((s10:Int)<(List.length I:Int))) then
 bif (inB s10 I) then
 bif (QR 0 s10 I) then
 (Qbo (cut 0 s10 I) (List.getD I (Int.toNat s10) (0,(0,0)))).bind fun J=>
 bif (!decide ((J:Int)=0)) then
 some (Sum.inr (Sum.inr J))
 else
 some (Sum.inl (IntKind.wrap .i64 (s10+1)))
 else none
 else none
 else
 some (Sum.inr (Sum.inl ()))) 0).bind fun U=>
 Sum.elim (fun (j13:Unit)=>
 some 0) (fun (j14:Int)=>
 some j14) U
def Qat (I:t25) (x1:Int):Option (Bool):=
 (QV x1 1 (List.length I.1:Int)).bind fun J=>
 some J
def Yx (I:t25) (x1:Int):Option (List UInt8×Int):=
 (Qat I x1).bind fun J=>
 bif (!J) then
 some ([],3)
 else
 bif (inB (IntKind.wrap .i64 (x1 - 1)) I.1) then
 some (List.getD I.1 (Int.toNat (IntKind.wrap .i64 (x1 - 1))) [],0)
 else none
def Z4 (I:List UInt8) (x1:List UInt8):Option (List (List UInt8)):=
 Qfd I x1
def QbM (I:Int) (x1:Int):Option (List UInt8):=
 fmtS I x1
def Zy (I:Int):Option (List UInt8):=
 (QbM I 10).bind fun J=>
 some J
def Zg (I:List UInt8):Option (Int):=
 numO I
def JK (x0:List UInt8) (x1:List UInt8):Option (List Int):=
 (Z4 x0 x1).bind fun J=>
 (Qc (S:=List Int×Int) (X:=List Int) (fun s10=>
 bif (decide ((s10.2:Int)<(List.length J:Int))) then
 bif (inB s10.2 J) then
 (Zg (List.getD J (Int.toNat s10.2) [])).bind fun I=>
 bif decide (List.length s10.1+List.length ([I]:List Int)<=LIM) then
 some (Sum.inl (List.append s10.1 ([I]:List Int),IntKind.wrap .i64 (s10.2+1)))
 else none
 else none
 else
 some (Sum.inr s10.1)) (([]:List Int),0)).bind fun U=>
 some U
def YZ (I:List Int) (x1:Int):Option (Int):=
 (Qc (S:=Int) (X:=(Unit)⊕(Int)) (fun s5=>
 bif (decide ((s5:Int)<(List.length I:Int))) then
 bif (inB s5 I) then
 bif (decide ((x1:Int)=List.getD I (Int.toNat s5) 0)) then
 some (Sum.inr (Sum.inr s5))
 else
 some (Sum.inl (IntKind.wrap .i64 (s5+1)))
 else none
 else
 some (Sum.inr (Sum.inl ()))) 0).bind fun J=>
 Sum.elim (fun (j7:Unit)=>
 some (-1)) (fun (U:Int)=>
 some U) J
def Zi (I:List Int) (x1:Int):Option (Bool):=
 (YZ I x1).bind fun J=>
 some (decide ((0:Int)<=J))
def QaE (I:t2):Option (Int):=
 ((QV I.1 0 60).bind fun J=>
 bif (!J) then
 some true
 else
 (QV I.2.1 1 40).bind fun U=>
 bif (!U) then
 some true
 else
 (J2 I.2.2.1).bind fun y23=>
 some (!y23):Option (Bool)).bind fun j24=>
 bif j24 then
 some 3
 else
 bif (!(Sh.beq .bool (decide ((I.1:Int)=0)) (decide ((I.2.1:Int)=1)))) then
 some 1
 else
 bif (decide ((6:Int)<(List.length I.2.2.2:Int))) then
 some 2
 else
 (Qc (S:=Int) (X:=(Unit)⊕(Int)) (fun s29=>
 bif (decide ((s29:Int)<(List.length I.2.2.2:Int))) then
 bif (inB s29 I.2.2.2) then
 (JB (List.getD I.2.2.2 (Int.toNat s29) 0)).bind fun y30=>
 bif (!y30) then
 some (Sum.inr (Sum.inr 3))
 else
 bif (QR 0 s29 I.2.2.2) then
 (Zi (cut 0 s29 I.2.2.2) (List.getD I.2.2.2 (Int.toNat s29) 0)).bind fun y31=>
 bif y31 then
 some (Sum.inr (Sum.inr 7))
 else
 some (Sum.inl (IntKind.wrap .i64 (s29+1)))
 else none
 else none
 else
 some (Sum.inr (Sum.inl ()))) 0).bind fun j32=>
 Sum.elim (fun (j33:Unit)=>
 some 0) (fun (j34:Int)=>
 some j34) j32
def ZW (I:List (List UInt8)) (x1:List UInt8):Option (List UInt8):=
 Qgs I x1
def Jr (J:List Int) (x1:List UInt8):Option (List UInt8):=
 (Qc (S:=List (List UInt8)×Int) (X:=List (List UInt8)) (fun s9=>
 bif (decide ((s9.2:Int)<(List.length J:Int))) then
 bif (inB s9.2 J) then
 (Zy (List.getD J (Int.toNat s9.2) 0)).bind fun I=>
 bif decide (List.length s9.1+List.length ([I]:List (List UInt8))<=LIM) then
 some (Sum.inl (List.append s9.1 ([I]:List (List UInt8)),IntKind.wrap .i64 (s9.2+1)))
 else none
 else none
 else
 some (Sum.inr s9.1)) (([]:List (List UInt8)),0)).bind fun U=>
 (ZW U x1).bind fun y12=>
 some y12
def Qbn (I:t2):Option (List UInt8):=
 (bif (decide ((0:Int)<(List.length I.2.2.2:Int))) then
 (Jr I.2.2.2 [43]).bind fun y6=>
 some y6
 else
 some [45]:Option (List UInt8)).bind fun U=>
 (Jr ([I.1,I.2.1,I.2.2.1]:List Int) [32]).bind fun J=>
 bif decide (List.length [98,108,111,99,107,32]+List.length J<=LIM) then
 bif decide (List.length (List.append [98,108,111,99,107,32] J)+List.length [32]<=LIM) then
 bif decide (List.length (List.append (List.append [98,108,111,99,107,32] J) [32])+List.length U<=LIM) then
 some (List.append (List.append (List.append [98,108,111,99,107,32] J) [32]) U)
 else none
 else none
 else none
def Ye (x0:List UInt8):Option (t2×Bool):=
 (Z4 x0 [32]).bind fun I=>
 (bif (decide ((300:Int)<(List.length x0:Int))) then
 some true
 else
 some (!decide (((List.length I:Int):Int)=5)):Option (Bool)).bind fun j15=>
 bif j15 then
 some ((0,(0,(0,[]))),false)
 else
 bif (inB 1 I) then
 (Zg (List.getD I (Int.toNat 1) [])).bind fun U=>
 bif (inB 2 I) then
 (Zg (List.getD I (Int.toNat 2) [])).bind fun y17=>
 bif (inB 3 I) then
 (Zg (List.getD I (Int.toNat 3) [])).bind fun y18=>
 bif (inB 4 I) then
 (bif (!decide ((List.getD I (Int.toNat 4) []:List UInt8)=[45])) then
 bif (inB 4 I) then
 (JK (List.getD I (Int.toNat 4) []) [43]).bind fun y20=>
 some (U,(y17,(y18,y20)))
 else none
 else
 some (U,(y17,(y18,[]))):Option (t2)).bind fun J=>
 ((QaE J).bind fun y24=>
 bif (!decide ((y24:Int)=0)) then
 some true
 else
 (Qbn J).bind fun y25=>
 some (!decide ((y25:List UInt8)=x0)):Option (Bool)).bind fun j26=>
 bif j26 then
 some ((0,(0,(0,[]))),false)
 else
 some (J,true)
 else none
 else none
 else none
 else none
def Yi (U:t25) (x1:Int):Option (t2×Int):=
 (Yx U x1).bind fun I=>
 bif (!decide ((I.2:Int)=0)) then
 some ((0,(0,(0,[]))),I.2)
 else
 (Ye I.1).bind fun J=>
 bif (!J.2) then
 some ((0,(0,(0,[]))),5)
 else
 some (J.1,0)
def QF (I:List t11):Option (List t11):=
 bif List.isEmpty I then
 agree (some ([]:List t11)) (bif decide (List.length ([]:List t11)+List.length I<=LIM) then
 some (List.append ([]:List t11) I)
 else none)
 else
 bif decide (List.length ([]:List t11)+List.length I<=LIM) then
 some (List.append ([]:List t11) I)
 else none
def ZZ (I:List Int):Option (List Int):=
 bif List.isEmpty I then
 agree (some ([]:List Int)) (bif decide (List.length ([]:List Int)+List.length I<=LIM) then
 some (List.append ([]:List Int) I)
 else none)
 else
 bif decide (List.length ([]:List Int)+List.length I<=LIM) then
 some (List.append ([]:List Int) I)
 else none
def QeH (I:t6):Option (t6):=
 (ZZ I.1).bind fun J=>
 some (J,I.2)
def Qbt (I:t7):Option (t7):=
 (QeH I.2).bind fun J=>
 some (I.1,J)
def Yv (I:List t10):Option (List t10):=
 (Qc (S:=List t10×Int) (X:=List t10) (fun s8=>
 bif (decide ((s8.2:Int)<(List.length I:Int))) then
 bif (inB s8.2 I) then
 (Qbt (List.getD I (Int.toNat s8.2) ((0,0),((0,([],(0,0))),(0,false)))).2.1).bind fun U=>
 bif decide (List.length s8.1+List.length ([((List.getD I (Int.toNat s8.2) ((0,0),((0,([],(0,0))),(0,false)))).1,(U,(List.getD I (Int.toNat s8.2) ((0,0),((0,([],(0,0))),(0,false)))).2.2))]:List t10)<=LIM) then
 some (Sum.inl (List.append s8.1 ([((List.getD I (Int.toNat s8.2) ((0,0),((0,([],(0,0))),(0,false)))).1,(U,(List.getD I (Int.toNat s8.2) ((0,0),((0,([],(0,0))),(0,false)))).2.2))]:List t10),IntKind.wrap .i64 (s8.2+1)))
 else none
 else none
 else
 some (Sum.inr s8.1)) (([]:List t10),0)).bind fun J=>
 some J
def QbT (I:t21):Option (t21):=
 (Yv I.2.2.1).bind fun J=>
 (QF I.2.2.2).bind fun U=>
 some (I.1,(I.2.1,(J,U)))
def Y8 (J:t6) (x1:List UInt8):Option (List UInt8):=
 (Zy J.2.1).bind fun I=>
 bif decide (List.length I+List.length x1<=LIM) then
 bif decide (List.length (List.append I x1)+List.length [111,102]<=LIM) then
 bif decide (List.length (List.append (List.append I x1) [111,102])+List.length x1<=LIM) then
 (Jr J.1 [44]).bind fun U=>
 bif decide (List.length (List.append (List.append (List.append I x1) [111,102]) x1)+List.length U<=LIM) then
 (bif (!decide ((J.2.2:Int)=0)) then
 bif decide (List.length x1+List.length [97,102,116,101,114]<=LIM) then
 bif decide (List.length (List.append x1 [97,102,116,101,114])+List.length x1<=LIM) then
 (Zy J.2.2).bind fun y9=>
 bif decide (List.length (List.append (List.append x1 [97,102,116,101,114]) x1)+List.length y9<=LIM) then
 bif decide (List.length (List.append (List.append (List.append (List.append I x1) [111,102]) x1) U)+List.length (List.append (List.append (List.append x1 [97,102,116,101,114]) x1) y9)<=LIM) then
 some (List.append (List.append (List.append (List.append (List.append I x1) [111,102]) x1) U) (List.append (List.append (List.append x1 [97,102,116,101,114]) x1) y9))
 else none
 else none
 else none
 else none
 else
 some (List.append (List.append (List.append (List.append I x1) [111,102]) x1) U):Option (List UInt8)).bind fun j10=>
 some j10
 else none
 else none
 else none
 else none
def JQ:Option (List (List UInt8)):=
 some ([[112,97,121],[106,111,105,110],[108,101,97,118,101]]:List (List UInt8))
def Qby (U:t14):Option (List UInt8×Int):=
 (JQ).bind fun y23=>
 bif (inB U.1 y23) then
 (bif (!decide ((U.1:Int)=0)) then
 (Zy U.2.1).bind fun y25=>
 bif decide (List.length ([List.getD y23 (Int.toNat U.1) []]:List (List UInt8))+List.length ([y25]:List (List UInt8))<=LIM) then
 some (List.append ([List.getD y23 (Int.toNat U.1) []]:List (List UInt8)) ([y25]:List (List UInt8)))
 else none
 else
 some ([List.getD y23 (Int.toNat U.1) []]:List (List UInt8)):Option (List (List UInt8))).bind fun j26=>
 (Qc (S:=List (List UInt8)×Int) (X:=List (List UInt8)) (fun I=>
 bif (decide ((I.2:Int)<(List.length U.2.2.1:Int))) then
 bif (inB I.2 U.2.2.1) then
 (Zy (List.getD U.2.2.1 (Int.toNat I.2) (0,0)).1).bind fun y32=>
 bif decide (List.length y32+List.length [58]<=LIM) then
 (Zy (List.getD U.2.2.1 (Int.toNat I.2) (0,0)).2).bind fun y33=>
 bif decide (List.length (List.append y32 [58])+List.length y33<=LIM) then
 bif decide (List.length I.1+List.length ([List.append (List.append y32 [58]) y33]:List (List UInt8))<=LIM) then
 some (Sum.inl (List.append I.1 ([List.append (List.append y32 [58]) y33]:List (List UInt8)),IntKind.wrap .i64 (I.2+1)))
 else none
 else none
 else none
 else none
 else
 some (Sum.inr I.1)) (([]:List (List UInt8)),0)).bind fun j34=>
 (ZW j34 [43]).bind fun y35=>
 bif decide (List.length j26+List.length ([y35]:List (List UInt8))<=LIM) then
 (Qc (S:=List (List UInt8)×Int) (X:=List (List UInt8)) (fun J=>
 bif (decide ((J.2:Int)<(List.length U.2.2.2:Int))) then
 bif (inB J.2 U.2.2.2) then
 (Zy (List.getD U.2.2.2 (Int.toNat J.2) (0,([],(0,0)))).1).bind fun y41=>
 bif decide (List.length y41+List.length [61]<=LIM) then
 (Y8 (List.getD U.2.2.2 (Int.toNat J.2) (0,([],(0,0)))).2 [95]).bind fun y42=>
 bif decide (List.length (List.append y41 [61])+List.length y42<=LIM) then
 bif decide (List.length J.1+List.length ([List.append (List.append y41 [61]) y42]:List (List UInt8))<=LIM) then
 some (Sum.inl (List.append J.1 ([List.append (List.append y41 [61]) y42]:List (List UInt8)),IntKind.wrap .i64 (J.2+1)))
 else none
 else none
 else none
 else none
 else
 some (Sum.inr J.1)) (List.append j26 ([y35]:List (List UInt8)),0)).bind fun j43=>
 (ZW j43 [32]).bind fun y44=>
 bif (decide ((300:Int)<(List.length y44:Int))) then
 some ([],2)
 else
 some (y44,0)
 else none
 else none
def QbD (I:List UInt8) (x1:List UInt8):Option (List UInt8×List UInt8×Bool):=
 cutS I x1
def Yy (I:Int):Option (Bool):=
 (QV I 0 999).bind fun J=>
 some J
def ZG (I:List Int) (x1:Int->Option Bool):Option (Int):=
 (Qc (S:=Int) (X:=(Unit)⊕(Int)) (fun s10=>
 bif (decide ((s10:Int)<(List.length I:Int))) then
 bif (inB s10 I) then
 (x1 (List.getD I (Int.toNat s10) 0)).bind fun J=>
 bif J then
 some (Sum.inr (Sum.inr s10))
 else
 some (Sum.inl (IntKind.wrap .i64 (s10+1)))
 else none
 else
 some (Sum.inr (Sum.inl ()))) 0).bind fun U=>
 Sum.elim (fun (j13:Unit)=>
 some (-1)) (fun (j14:Int)=>
 some j14) U
def QT (I:List Int) (x1:Int->Option Bool):Option (Bool):=
 (ZG I x1).bind fun J=>
 some (decide ((0:Int)<=J))
def Qc9 (I:Int):Option (Bool):=
 (J2 I).bind fun J=>
 some (!J)
def Qc7 (I:List Int):Option (Bool):=
 (QT I (fun (a4:Int)=>(Qc9 a4).bind fun J=>some J)).bind fun U=>
 some (!U)
def Qca (I:List Int):Option (Bool):=
 (Qc (S:=Int) (X:=(Unit)⊕(Bool)) (fun s5=>
 bif (decide ((s5:Int)<(List.length I:Int))) then
 bif (inB s5 I) then
 bif (inB (IntKind.wrap .i64 (s5 - 1)) I) then
 bif (decide ((List.getD I (Int.toNat s5) 0:Int)<=List.getD I (Int.toNat (IntKind.wrap .i64 (s5 - 1))) 0)) then
 some (Sum.inr (Sum.inr false))
 else
 some (Sum.inl (IntKind.wrap .i64 (s5+1)))
 else none
 else none
 else
 some (Sum.inr (Sum.inl ()))) 1).bind fun J=>
 Sum.elim (fun (j7:Unit)=>
 some true) (fun (U:Bool)=>
 some U) J
def JP (I:t6):Option (Int):=
 (QV (List.length I.1:Int) 1 3).bind fun J=>
 bif (!J) then
 some 2
 else
 ((Qc7 I.1).bind fun U=>
 bif (!U) then
 some true
 else
 (QV I.2.1 1 (List.length I.1:Int)).bind fun y15=>
 bif (!y15) then
 some true
 else
 (Yy I.2.2).bind fun y16=>
 some (!y16):Option (Bool)).bind fun j17=>
 bif j17 then
 some 3
 else
 (Qca I.1).bind fun y18=>
 bif (!y18) then
 some 1
 else
 some 0
def QbP (x0:List UInt8) (x1:List UInt8):Option (t6×Bool):=
 (Z4 x0 x1).bind fun I=>
 (bif (decide ((300:Int)<(List.length x0:Int))) then
 some true
 else
 bif (!decide (((List.length I:Int):Int)=3)) then
 some (!decide (((List.length I:Int):Int)=5))
 else
 some false:Option (Bool)).bind fun j14=>
 bif j14 then
 some (([],(0,0)),false)
 else
 bif (inB 0 I) then
 (Zg (List.getD I (Int.toNat 0) [])).bind fun U=>
 bif (inB 2 I) then
 (JK (List.getD I (Int.toNat 2) []) [44]).bind fun y16=>
 (bif (decide (((List.length I:Int):Int)=5)) then
 bif (inB 4 I) then
 (Zg (List.getD I (Int.toNat 4) [])).bind fun y18=>
 some (y16,(U,y18))
 else none
 else
 some (y16,(U,0)):Option (t6)).bind fun J=>
 ((JP J).bind fun y22=>
 bif (!decide ((y22:Int)=0)) then
 some true
 else
 (Y8 J x1).bind fun y23=>
 some (!decide ((y23:List UInt8)=x0)):Option (Bool)).bind fun j24=>
 bif j24 then
 some (([],(0,0)),false)
 else
 some (J,true)
 else none
 else none
def QcW (U:List UInt8):Option (t7×Bool):=
 (QbD U [61]).bind fun I=>
 (QbP I.2.1 [95]).bind fun J=>
 (Zg I.1).bind fun y6=>
 some ((y6,J.1),J.2)
def Yw (I:t7):Option (Int):=
 (QV I.1 1 1000000).bind fun J=>
 bif (!J) then
 some 3
 else
 (JP I.2).bind fun U=>
 some U
def Z8 (I:List t5) (x1:t5):Option (Int):=
 (Qc (S:=Int) (X:=(Unit)⊕(Int)) (fun s5=>
 bif (decide ((s5:Int)<(List.length I:Int))) then
 bif (inB s5 I) then
 bif (Sh.beq (.prod (.int .i64) (.int .i64)) x1 (List.getD I (Int.toNat s5) (0,0))) then
 some (Sum.inr (Sum.inr s5))
 else
 some (Sum.inl (IntKind.wrap .i64 (s5+1)))
 else none
 else
 some (Sum.inr (Sum.inl ()))) 0).bind fun J=>
 Sum.elim (fun (j7:Unit)=>
 some (-1)) (fun (U:Int)=>
 some U) J
def QQ (I:List t5) (x1:t5):Option (Bool):=
 (Z8 I x1).bind fun J=>
 some (decide ((0:Int)<=J))
def Ju (I:Int):Option (Bool):=
 (bif (decide ((I:Int)<1)) then
 some true
 else
 some (decide ((4:Int)<I)):Option (Bool)).bind fun J=>
 some J
def Qcq (J:t5):Option (Bool):=
 ((JB J.1).bind fun U=>
 bif U then
 (QV J.2 0 3).bind fun y9=>
 some y9
 else
 some false:Option (Bool)).bind fun I=>
 some I
def Qc2 (I:t14):Option (Int):=
 ((QV I.1 0 2).bind fun y31=>
 bif (!y31) then
 some true
 else
 some (!(Sh.beq .bool (decide ((I.1:Int)=0)) (decide ((I.2.1:Int)=0)))):Option (Bool)).bind fun j32=>
 bif j32 then
 some 1
 else
 (bif (!decide ((I.2.1:Int)=0)) then
 (J2 I.2.1).bind fun y34=>
 some (!y34)
 else
 some false:Option (Bool)).bind fun j35=>
 bif j35 then
 some 3
 else
 ((Ju (List.length I.2.2.1:Int)).bind fun y38=>
 bif y38 then
 some true
 else
 (Ju (List.length I.2.2.2:Int)).bind fun y39=>
 some y39:Option (Bool)).bind fun j40=>
 bif j40 then
 some 2
 else
 (Qc (S:=Int) (X:=(Unit)⊕(Int)) (fun J=>
 bif (decide ((J:Int)<(List.length I.2.2.1:Int))) then
 bif (inB J I.2.2.1) then
 (Qcq (List.getD I.2.2.1 (Int.toNat J) (0,0))).bind fun y46=>
 bif (!y46) then
 some (Sum.inr (Sum.inr 3))
 else
 bif (QR 0 J I.2.2.1) then
 (QQ (cut 0 J I.2.2.1) (List.getD I.2.2.1 (Int.toNat J) (0,0))).bind fun y47=>
 bif y47 then
 some (Sum.inr (Sum.inr 7))
 else
 some (Sum.inl (IntKind.wrap .i64 (J+1)))
 else none
 else none
 else
 some (Sum.inr (Sum.inl ()))) 0).bind fun j48=>
 Sum.elim (fun (j49:Unit)=>
 (Qc (S:=Int) (X:=(Unit)⊕(Int)) (fun U=>
 bif (decide ((U:Int)<(List.length I.2.2.2:Int))) then
 bif (inB U I.2.2.2) then
 (Yw (List.getD I.2.2.2 (Int.toNat U) (0,([],(0,0))))).bind fun y54=>
 bif (!decide ((y54:Int)=0)) then
 some (Sum.inr (Sum.inr y54))
 else
 some (Sum.inl (IntKind.wrap .i64 (U+1)))
 else none
 else
 some (Sum.inr (Sum.inl ()))) 0).bind fun j55=>
 Sum.elim (fun (j56:Unit)=>
 (bif (decide ((I.1:Int)=1)) then
 bif (inB 0 I.2.2.2) then
 some (decide (((List.getD I.2.2.2 (Int.toNat 0) (0,([],(0,0)))).1:Int)<100))
 else none
 else
 some false:Option (Bool)).bind fun j58=>
 bif j58 then
 some 8
 else
 some 0) (fun (j57:Int)=>
 some j57) j55) (fun (j50:Int)=>
 some j50) j48
def Qdx (x0:List UInt8):Option (t14×Bool):=
 (Z4 x0 [32]).bind fun I=>
 (JQ).bind fun y33=>
 bif (inB 0 I) then
 (QL y33 (List.getD I (Int.toNat 0) [])).bind fun y34=>
 (bif (decide ((300:Int)<(List.length x0:Int))) then
 some true
 else
 some (decide ((y34:Int)<0)):Option (Bool)).bind fun j35=>
 bif j35 then
 some ((0,(0,([],[]))),false)
 else
 bif (QR 1 (List.length I:Int) I) then
 (bif (!decide ((y34:Int)=0)) then
 some (decide ((0:Int)<(List.length (List.take (Int.toNat ((List.length I:Int) - 1)) (List.drop (Int.toNat 1) I)):Int)))
 else
 some false:Option (Bool)).bind fun j36=>
 (bif j36 then
 bif (inB 0 (List.take (Int.toNat ((List.length I:Int) - 1)) (List.drop (Int.toNat 1) I))) then
 (Zg (List.getD (List.take (Int.toNat ((List.length I:Int) - 1)) (List.drop (Int.toNat 1) I)) (Int.toNat 0) [])).bind fun y38=>
 bif (QR 1 (List.length (List.take (Int.toNat ((List.length I:Int) - 1)) (List.drop (Int.toNat 1) I)):Int) (List.take (Int.toNat ((List.length I:Int) - 1)) (List.drop (Int.toNat 1) I))) then
 some (List.take (Int.toNat ((List.length (List.take (Int.toNat ((List.length I:Int) - 1)) (List.drop (Int.toNat 1) I)):Int) - 1)) (List.drop (Int.toNat 1) (List.take (Int.toNat ((List.length I:Int) - 1)) (List.drop (Int.toNat 1) I))),(y34,(y38,([],[]))))
 else none
 else none
 else
 some (List.take (Int.toNat ((List.length I:Int) - 1)) (List.drop (Int.toNat 1) I),(y34,(0,([],[])))):Option (List (List UInt8)×t14)).bind fun J=>
 (bif (decide (((List.length J.1:Int):Int)<2)) then
 some true
 else
 some (decide ((5:Int)<(List.length J.1:Int))):Option (Bool)).bind fun j40=>
 bif j40 then
 some ((0,(0,([],[]))),false)
 else
 bif (inB 0 J.1) then
 (Z4 (List.getD J.1 (Int.toNat 0) []) [43]).bind fun y41=>
 (Qc (S:=Int×t14) (X:=t14) (fun U=>
 bif (decide ((U.1:Int)<(List.length y41:Int))) then
 bif (inB U.1 y41) then
 (QbD (List.getD y41 (Int.toNat U.1) []) [58]).bind fun y49=>
 (Zg y49.1).bind fun y50=>
 (Zg y49.2.1).bind fun y51=>
 bif decide (List.length U.2.2.2.1+List.length ([(y50,y51)]:List t5)<=LIM) then
 some (Sum.inl (IntKind.wrap .i64 (U.1+1),(U.2.1,(U.2.2.1,(List.append U.2.2.2.1 ([(y50,y51)]:List t5),U.2.2.2.2)))))
 else none
 else none
 else
 some (Sum.inr U.2)) (0,J.2)).bind fun j52=>
 bif (QR 1 (List.length J.1:Int) J.1) then
 (Qc (S:=Int×t14) (X:=(t14)⊕(Bool×t14)) (fun s55=>
 bif (decide ((s55.1:Int)<(List.length (List.take (Int.toNat ((List.length J.1:Int) - 1)) (List.drop (Int.toNat 1) J.1)):Int))) then
 bif (inB s55.1 (List.take (Int.toNat ((List.length J.1:Int) - 1)) (List.drop (Int.toNat 1) J.1))) then
 (QcW (List.getD (List.take (Int.toNat ((List.length J.1:Int) - 1)) (List.drop (Int.toNat 1) J.1)) (Int.toNat s55.1) [])).bind fun y56=>
 bif (!y56.2) then
 some (Sum.inr (Sum.inr (false,(0,(0,([],[]))))))
 else
 bif decide (List.length s55.2.2.2.2+List.length ([y56.1]:List t7)<=LIM) then
 some (Sum.inl (IntKind.wrap .i64 (s55.1+1),(s55.2.1,(s55.2.2.1,(s55.2.2.2.1,List.append s55.2.2.2.2 ([y56.1]:List t7))))))
 else none
 else none
 else
 some (Sum.inr (Sum.inl s55.2))) (0,j52)).bind fun j57=>
 Sum.elim (fun (j58:t14)=>
 (Qc2 j58).bind fun y60=>
 bif (!decide ((y60:Int)=0)) then
 some ((0,(0,([],[]))),false)
 else
 (Qby j58).bind fun y61=>
 (bif (decide ((y61.2:Int)=0)) then
 some (decide ((y61.1:List UInt8)=x0),j58)
 else
 some (false,j58):Option (Bool×t14)).bind fun j62=>
 some (j62.2,j62.1)) (fun (j59:Bool×t14)=>
 some (j59.2,j59.1)) j57
 else none
 else none
 else none
 else none
def Qag (U:t25) (x1:Int):Option (t14×Int):=
 (Yx U x1).bind fun I=>
 bif (!decide ((I.2:Int)=0)) then
 some ((0,(0,([],[]))),I.2)
 else
 (Qdx I.1).bind fun J=>
 bif (!J.2) then
 some ((0,(0,([],[]))),5)
 else
 some (J.1,0)
def ZK (I:List t10) (x1:t10->t10->Option Int):Option (List t10):=
 Qgh I x1
def QaC (I:Int):Option (Bool):=
 some (!decide ((I:Int)=I))
def Z5 (I:Int) (x1:Int):Option (Int):=
 (QaC I).bind fun U=>
 (QaC x1).bind fun J=>
 bif U then
 bif J then
 some 0
 else
 some (-1)
 else
 bif J then
 some 1
 else
 bif (decide ((I:Int)<x1)) then
 some (-1)
 else
 bif (decide ((x1:Int)<I)) then
 some 1
 else
 some 0
def QeB (I:List Int):Option (Int):=
 (Qc (S:=Int) (X:=(Unit)⊕(Int)) (fun s5=>
 bif (decide ((s5:Int)<(List.length I:Int))) then
 bif (inB s5 I) then
 bif (!decide ((List.getD I (Int.toNat s5) 0:Int)=0)) then
 some (Sum.inr (Sum.inr (List.getD I (Int.toNat s5) 0)))
 else
 some (Sum.inl (IntKind.wrap .i64 (s5+1)))
 else none
 else
 some (Sum.inr (Sum.inl ()))) 0).bind fun J=>
 Sum.elim (fun (j7:Unit)=>
 some 0) (fun (U:Int)=>
 some U) J
def Y5 (I:t5) (x1:t5):Option (Int):=
 (Z5 I.1 x1.1).bind fun J=>
 (Z5 I.2 x1.2).bind fun U=>
 (QeB ([J,U]:List Int)).bind fun y6=>
 some y6
def Yf (I:t10) (x1:t10):Option (Int):=
 (Y5 I.1 x1.1).bind fun J=>
 some J
def Qbx (I:List t10):Option (List t10):=
 (ZK I (fun (a5:t10) (J:t10)=>(Yf a5 J).bind fun U=>some U)).bind fun y8=>
 some y8
def Q2 (J:List t10) (x1:t5) (x2:t10->t5->Option Int):Option (Int×Bool):=
 (Qc (S:=Int×Int) (X:=Int) (fun s16=>
 bif (decide ((s16.1:Int)<s16.2)) then
 bif (inB (IntKind.wrap .i64 (Int.fdiv (IntKind.wrap .u64 (IntKind.wrap .i64 (s16.1+s16.2))) (2 ^ 1))) J) then
 (x2 (List.getD J (Int.toNat (IntKind.wrap .i64 (Int.fdiv (IntKind.wrap .u64 (IntKind.wrap .i64 (s16.1+s16.2))) (2 ^ 1)))) ((0,0),((0,([],(0,0))),(0,false)))) x1).bind fun y17=>
 (bif (decide ((y17:Int)<0)) then
 some (IntKind.wrap .i64 ((IntKind.wrap .i64 (Int.fdiv (IntKind.wrap .u64 (IntKind.wrap .i64 (s16.1+s16.2))) (2 ^ 1)))+1),s16.2)
 else
 some (s16.1,IntKind.wrap .i64 (Int.fdiv (IntKind.wrap .u64 (IntKind.wrap .i64 (s16.1+s16.2))) (2 ^ 1))):Option (Int×Int)).bind fun U=>
 some (Sum.inl (U.1,U.2))
 else none
 else
 some (Sum.inr s16.1)) (0,(List.length J:Int))).bind fun I=>
 (bif (decide ((I:Int)<(List.length J:Int))) then
 bif (inB I J) then
 (x2 (List.getD J (Int.toNat I) ((0,0),((0,([],(0,0))),(0,false)))) x1).bind fun y21=>
 some (I,decide ((y21:Int)=0))
 else none
 else
 some (I,false):Option (Int×Bool)).bind fun j22=>
 some (j22.1,j22.2)
def Qap (I:t10) (x1:t5):Option (Int):=
 (Y5 I.1 x1).bind fun J=>
 some J
def Jh (J:List t10) (x1:t5):Option (Int×Bool):=
 (Q2 J x1 (fun (a5:t10) (U:t5)=>(Qap a5 U).bind fun r7=>some r7)).bind fun I=>
 some (I.1,I.2)
def JJ (U:List t10) (x1:t14):Option (List t10×Int):=
 (Qc (S:=List t10×Int) (X:=(List t10)⊕(List t10×Int)) (fun s12=>
 bif (decide ((s12.2:Int)<(List.length x1.2.2.1:Int))) then
 bif (inB s12.2 x1.2.2.1) then
 (Jh U (List.getD x1.2.2.1 (Int.toNat s12.2) (0,0))).bind fun I=>
 bif (!I.2) then
 some (Sum.inr (Sum.inr (([]:List t10),4)))
 else
 bif (inB I.1 U) then
 bif decide (List.length s12.1+List.length ([List.getD U (Int.toNat I.1) ((0,0),((0,([],(0,0))),(0,false)))]:List t10)<=LIM) then
 some (Sum.inl (List.append s12.1 ([List.getD U (Int.toNat I.1) ((0,0),((0,([],(0,0))),(0,false)))]:List t10),IntKind.wrap .i64 (s12.2+1)))
 else none
 else none
 else none
 else
 some (Sum.inr (Sum.inl s12.1))) (([]:List t10),0)).bind fun j14=>
 Sum.elim (fun (j15:List t10)=>
 (Yv j15).bind fun y17=>
 (Qbx y17).bind fun y18=>
 some (y18,0)) (fun (J:List t10×Int)=>
 some (J.1,J.2)) j14
def Qah (I:t25) (x1:List UInt8):Option (Int):=
 (QL I.1 x1).bind fun J=>
 some (IntKind.wrap .i64 (J+1))
def Qdn (I:t10) (x1:Int):Option (Bool):=
 ((Yy I.2.2.1).bind fun U=>
 bif U then
 (Yy x1).bind fun y9=>
 bif y9 then
 bif (!I.2.2.2) then
 some true
 else
 some (decide ((IntKind.wrap .i64 (I.2.2.1+2):Int)<=x1))
 else
 some false
 else
 some false:Option (Bool)).bind fun J=>
 some J
def ZP (I:t25) (x1:Int) (x2:Int):Option (Bool):=
 (QX I.2 (x1,x2)).bind fun J=>
 some J
def Jg (x0:t25) (x1:t6) (x2:Int) (x3:Int):Option (Int):=
 bif (decide ((x3:Int)<x1.2.2)) then
 some 9
 else
 (Qc (S:=Int×Int) (X:=Int) (fun s13=>
 bif (decide ((s13.2:Int)<(List.length x1.1:Int))) then
 bif (inB s13.2 x1.1) then
 (ZP x0 (List.getD x1.1 (Int.toNat s13.2) 0) x2).bind fun I=>
 (bif I then
 some (IntKind.wrap .i64 (s13.1+1))
 else
 some s13.1:Option (Int)).bind fun J=>
 some (Sum.inl (J,IntKind.wrap .i64 (s13.2+1)))
 else none
 else
 some (Sum.inr s13.1)) (0,0)).bind fun U=>
 bif (decide ((U:Int)<x1.2.1)) then
 some 6
 else
 some 0
def Qel (I:List t10):Option (Int):=
 (Qc (S:=Int×Int) (X:=Int) (fun s3=>
 bif (decide ((s3.2:Int)<(List.length I:Int))) then
 bif (inB s3.2 I) then
 some (Sum.inl (IntKind.wrap .i64 (s3.1+(List.getD I (Int.toNat s3.2) ((0,0),((0,([],(0,0))),(0,false)))).2.1.1),IntKind.wrap .i64 (s3.2+1)))
 else none
 else
 some (Sum.inr s3.1)) (0,0)).bind fun J=>
 some J
def Qds (I:t14):Option (Int):=
 (Qc (S:=Int×Int) (X:=Int) (fun s3=>
 bif (decide ((s3.2:Int)<(List.length I.2.2.2:Int))) then
 bif (inB s3.2 I.2.2.2) then
 some (Sum.inl (IntKind.wrap .i64 (s3.1+(List.getD I.2.2.2 (Int.toNat s3.2) (0,([],(0,0)))).1),IntKind.wrap .i64 (s3.2+1)))
 else none
 else
 some (Sum.inr s3.1)) (0,0)).bind fun J=>
 some J
def Jf (x0:t25) (x1:List t10) (x2:t14) (x3:Int):Option (Int×Int):=
 (Qby x2).bind fun J=>
 bif (!decide ((J.2:Int)=0)) then
 some (0,J.2)
 else
 (Qah x0 J.1).bind fun U=>
 bif (decide ((U:Int)=0)) then
 some (0,4)
 else
 (JJ x1 x2).bind fun I=>
 bif (!decide ((I.2:Int)=0)) then
 some (0,I.2)
 else
 (Qc (S:=Int) (X:=(Unit)⊕(Int×Int)) (fun s26=>
 bif (decide ((s26:Int)<(List.length I.1:Int))) then
 bif (inB s26 I.1) then
 (Qdn (List.getD I.1 (Int.toNat s26) ((0,0),((0,([],(0,0))),(0,false)))) x3).bind fun y27=>
 bif (!y27) then
 some (Sum.inr (Sum.inr (0,9)))
 else
 (Jg x0 (List.getD I.1 (Int.toNat s26) ((0,0),((0,([],(0,0))),(0,false)))).2.1.2 U x3).bind fun y28=>
 bif (!decide ((y28:Int)=0)) then
 some (Sum.inr (Sum.inr (0,y28)))
 else
 some (Sum.inl (IntKind.wrap .i64 (s26+1)))
 else none
 else
 some (Sum.inr (Sum.inl ()))) 0).bind fun j29=>
 Sum.elim (fun (j30:Unit)=>
 (Qel I.1).bind fun y32=>
 (Qds x2).bind fun y33=>
 (bif (decide ((x2.1:Int)=2)) then
 (ZP x0 x2.2.1 U).bind fun y35=>
 some (!y35)
 else
 some false:Option (Bool)).bind fun j36=>
 bif j36 then
 some (0,6)
 else
 bif (decide ((IntKind.wrap .i64 (y32 - y33):Int)<0)) then
 some (0,8)
 else
 some (IntKind.wrap .i64 (y32 - y33),0)) (fun (j31:Int×Int)=>
 some (j31.1,j31.2)) j29
def QZ (J:List t11) (x1:Int) (x2:t11->Int->Option Int):Option (Int×Bool):=
 (Qc (S:=Int×Int) (X:=Int) (fun s16=>
 bif (decide ((s16.1:Int)<s16.2)) then
 bif (inB (IntKind.wrap .i64 (Int.fdiv (IntKind.wrap .u64 (IntKind.wrap .i64 (s16.1+s16.2))) (2 ^ 1))) J) then
 (x2 (List.getD J (Int.toNat (IntKind.wrap .i64 (Int.fdiv (IntKind.wrap .u64 (IntKind.wrap .i64 (s16.1+s16.2))) (2 ^ 1)))) (0,(0,0))) x1).bind fun y17=>
 (bif (decide ((y17:Int)<0)) then
 some (IntKind.wrap .i64 ((IntKind.wrap .i64 (Int.fdiv (IntKind.wrap .u64 (IntKind.wrap .i64 (s16.1+s16.2))) (2 ^ 1)))+1),s16.2)
 else
 some (s16.1,IntKind.wrap .i64 (Int.fdiv (IntKind.wrap .u64 (IntKind.wrap .i64 (s16.1+s16.2))) (2 ^ 1))):Option (Int×Int)).bind fun U=>
 some (Sum.inl (U.1,U.2))
 else none
 else
 some (Sum.inr s16.1)) (0,(List.length J:Int))).bind fun I=>
 (bif (decide ((I:Int)<(List.length J:Int))) then
 bif (inB I J) then
 (x2 (List.getD J (Int.toNat I) (0,(0,0))) x1).bind fun y21=>
 some (I,decide ((y21:Int)=0))
 else none
 else
 some (I,false):Option (Int×Bool)).bind fun j22=>
 some (j22.1,j22.2)
def Jy (I:t11) (x1:Int):Option (Int):=
 (Z5 I.1 x1).bind fun J=>
 some J
def YB (J:List t11) (x1:Int):Option (Int×Bool):=
 (QZ J x1 (fun (a5:t11) (U:Int)=>(Jy a5 U).bind fun r7=>some r7)).bind fun I=>
 some (I.1,I.2)
def QC (I:List t11) (x1:Int) (x2:Int):Option (List t11):=
 delS I x1 x2
def QO (I:List t11) (x1:t11->Option Bool):Option (Int):=
 (Qc (S:=Int) (X:=(Unit)⊕(Int)) (fun s10=>
 bif (decide ((s10:Int)<(List.length I:Int))) then
 bif (inB s10 I) then
 (x1 (List.getD I (Int.toNat s10) (0,(0,0)))).bind fun J=>
 bif J then
 some (Sum.inr (Sum.inr s10))
 else
 some (Sum.inl (IntKind.wrap .i64 (s10+1)))
 else none
 else
 some (Sum.inr (Sum.inl ()))) 0).bind fun U=>
 Sum.elim (fun (j13:Unit)=>
 some (-1)) (fun (j14:Int)=>
 some j14) U
def Q3 (x0:List t11) (x1:t11->Option Bool):Option (List t11):=
 (QO x0 x1).bind fun J=>
 bif (decide ((J:Int)=(-1))) then
 some x0
 else
 (Qc (S:=List t11×Int×Int) (X:=List t11×Int) (fun s15=>
 bif (decide ((s15.2.2:Int)<(List.length s15.1:Int))) then
 bif (inB s15.2.2 s15.1) then
 (x1 (List.getD s15.1 (Int.toNat s15.2.2) (0,(0,0)))).bind fun y16=>
 (bif (!y16) then
 bif (inB s15.2.1 s15.1) then
 some (List.set s15.1 (Int.toNat s15.2.1) (List.getD s15.1 (Int.toNat s15.2.2) (0,(0,0))),IntKind.wrap .i64 (s15.2.1+1))
 else none
 else
 some (s15.1,s15.2.1):Option (List t11×Int)).bind fun U=>
 some (Sum.inl (U.1,(U.2,IntKind.wrap .i64 (s15.2.2+1))))
 else none
 else
 some (Sum.inr (s15.1,s15.2.1))) (x0,(J,IntKind.wrap .i64 (J+1)))).bind fun I=>
 bif (QR I.2 (List.length I.1:Int) I.1) then
 bif (QR 0 I.2 (clr (s:=(.prod (.int .i64) (.prod (.int .i64) (.int .i64)))) I.2 (List.length I.1:Int) I.1)) then
 some (List.take (Int.toNat (I.2 - 0)) (List.drop (Int.toNat 0) (clr (s:=(.prod (.int .i64) (.prod (.int .i64) (.int .i64)))) I.2 (List.length I.1:Int) I.1)))
 else none
 else none
def QW (I:List t11) (x1:t11->Option Bool):Option (Bool):=
 (QO I x1).bind fun J=>
 some (decide ((0:Int)<=J))
def ZA (I:List t11) (x1:Int) (x2:List t11):Option (List t11):=
 insS I x1 x2
def QaL (I:t11) (x1:t14):Option (Bool):=
 (QQ x1.2.2.1 I.2).bind fun J=>
 some J
def QaX (I:t11) (x1:t5):Option (Bool):=
 some (Sh.beq (.prod (.int .i64) (.int .i64)) I.2 x1)
def Qaa (x0:List t11) (x1:t14) (x2:Int):Option (List t11×Int):=
 (JB x2).bind fun y22=>
 bif (!y22) then
 some (([]:List t11),3)
 else
 (QF x0).bind fun J=>
 (bif (decide ((x1.1:Int)=2)) then
 (YB J x1.2.1).bind fun U=>
 bif (!U.2) then
 some (Sum.inr (([]:List t11),4))
 else
 (QC J U.1 (IntKind.wrap .i64 (U.1+1))).bind fun y27=>
 some (Sum.inl y27)
 else
 some (Sum.inl J):Option ((List t11)⊕(List t11×Int))).bind fun j28=>
 Sum.elim (fun (j29:List t11)=>
 (Q3 j29 (fun (a31:t11)=>(QaL a31 x1).bind fun r32=>some r32)).bind fun I=>
 bif (!decide ((x1.1:Int)=1)) then
 some (I,0)
 else
 (YB I x1.2.1).bind fun y34=>
 (bif y34.2 then
 some true
 else
 (QW I (fun (a38:t11)=>(QaX a38 (x2,0)).bind fun r39=>some r39)).bind fun y40=>
 some y40:Option (Bool)).bind fun j41=>
 bif j41 then
 some (([]:List t11),7)
 else
 bif (decide (((List.length I:Int):Int)=8)) then
 some (([]:List t11),2)
 else
 (ZA I y34.1 ([(x1.2.1,(x2,0))]:List t11)).bind fun y42=>
 some (y42,0)) (fun (j30:List t11×Int)=>
 some (j30.1,j30.2)) j28
def ZE (I:List t10) (x1:t10->Option Bool):Option (Int):=
 (Qc (S:=Int) (X:=(Unit)⊕(Int)) (fun s10=>
 bif (decide ((s10:Int)<(List.length I:Int))) then
 bif (inB s10 I) then
 (x1 (List.getD I (Int.toNat s10) ((0,0),((0,([],(0,0))),(0,false))))).bind fun J=>
 bif J then
 some (Sum.inr (Sum.inr s10))
 else
 some (Sum.inl (IntKind.wrap .i64 (s10+1)))
 else none
 else
 some (Sum.inr (Sum.inl ()))) 0).bind fun U=>
 Sum.elim (fun (j13:Unit)=>
 some (-1)) (fun (j14:Int)=>
 some j14) U
def Zt (I:List t10) (x1:t10->Option Bool):Option (Bool):=
 (ZE I x1).bind fun J=>
 some (decide ((0:Int)<=J))
def Qef (I:t10) (x1:Int):Option (Bool):=
 some (decide ((I.1.1:Int)=x1))
def Qct (I:List t10) (x1:Int):Option (Bool):=
 (Zt I (fun (a4:t10)=>(Qef a4 x1).bind fun J=>some J)).bind fun U=>
 some U
def Jj (x0:List t10) (x1:Int) (x2:List t7) (x3:Int) (x4:Bool):Option (List t10×Int):=
 ((JB x1).bind fun y23=>
 bif (!y23) then
 some true
 else
 (Yy x3).bind fun y24=>
 some (!y24):Option (Bool)).bind fun j25=>
 bif j25 then
 some (([]:List t10),3)
 else
 bif (decide ((4:Int)<(List.length x2:Int))) then
 some (([]:List t10),2)
 else
 (Qc (S:=Int) (X:=(Unit)⊕(List t10×Int)) (fun s28=>
 bif (decide ((s28:Int)<(List.length x2:Int))) then
 bif (inB s28 x2) then
 (Yw (List.getD x2 (Int.toNat s28) (0,([],(0,0))))).bind fun J=>
 bif (!decide ((J:Int)=0)) then
 some (Sum.inr (Sum.inr (([]:List t10),J)))
 else
 some (Sum.inl (IntKind.wrap .i64 (s28+1)))
 else none
 else
 some (Sum.inr (Sum.inl ()))) 0).bind fun j30=>
 Sum.elim (fun (j31:Unit)=>
 (Qct x0 x1).bind fun y33=>
 bif y33 then
 some (([]:List t10),7)
 else
 bif (decide ((40:Int)<IntKind.wrap .i64 ((List.length x0:Int)+(List.length x2:Int)))) then
 some (([]:List t10),2)
 else
 (Yv x0).bind fun y34=>
 (Qc (S:=List t10×Int) (X:=List t10) (fun I=>
 bif (decide ((I.2:Int)<(List.length x2:Int))) then
 bif (inB I.2 x2) then
 (Qbt (List.getD x2 (Int.toNat I.2) (0,([],(0,0))))).bind fun U=>
 bif decide (List.length I.1+List.length ([((x1,I.2),(U,(x3,x4)))]:List t10)<=LIM) then
 some (Sum.inl (List.append I.1 ([((x1,I.2),(U,(x3,x4)))]:List t10),IntKind.wrap .i64 (I.2+1)))
 else none
 else none
 else
 some (Sum.inr I.1)) (y34,0)).bind fun j39=>
 (Qbx j39).bind fun y40=>
 some (y40,0)) (fun (j32:List t10×Int)=>
 some (j32.1,j32.2)) j30
def Zh (I:List t10) (x1:Int) (x2:Int):Option (List t10):=
 delS I x1 x2
def Qbj (x0:List t10) (x1:List t5):Option (List t10×Int):=
 (Yv x0).bind fun U=>
 (Qc (S:=List t10×Int) (X:=(List t10)⊕(List t10×Int)) (fun s17=>
 bif (decide ((s17.2:Int)<(List.length x1:Int))) then
 bif (inB s17.2 x1) then
 (Jh s17.1 (List.getD x1 (Int.toNat s17.2) (0,0))).bind fun I=>
 bif (!I.2) then
 some (Sum.inr (Sum.inr (([]:List t10),4)))
 else
 (Zh s17.1 I.1 (IntKind.wrap .i64 (I.1+1))).bind fun y19=>
 some (Sum.inl (y19,IntKind.wrap .i64 (s17.2+1)))
 else none
 else
 some (Sum.inr (Sum.inl s17.1))) (U,0)).bind fun j20=>
 Sum.elim (fun (j21:List t10)=>
 some (j21,0)) (fun (J:List t10×Int)=>
 some (J.1,J.2)) j20
def QcD (I:List t10) (x1:t14) (x2:Int) (x3:Int):Option (List t10×Int):=
 (JJ I x1).bind fun J=>
 bif (!decide ((J.2:Int)=0)) then
 some (([]:List t10),J.2)
 else
 (Qct I x2).bind fun y6=>
 bif y6 then
 some (([]:List t10),7)
 else
 (Qbj I x1.2.2.1).bind fun y7=>
 (Jj y7.1 x2 x1.2.2.2 x3 false).bind fun U=>
 some (U.1,U.2)
def Qaj (x0:t25) (x1:t21) (x2:Int) (x3:Int):Option (Int×List t10×Int×t21):=
 (Qag x0 x2).bind fun J=>
 bif (!decide ((J.2:Int)=0)) then
 some (0,(([]:List t10),(J.2,x1)))
 else
 (Jf x0 x1.2.2.1 J.1 x3).bind fun U=>
 bif (!decide ((U.2:Int)=0)) then
 some (0,(([]:List t10),(U.2,x1)))
 else
 (Qaa x1.2.2.2 J.1 x2).bind fun y8=>
 bif (!decide ((y8.2:Int)=0)) then
 some (0,(([]:List t10),(y8.2,x1)))
 else
 (JJ x1.2.2.1 J.1).bind fun y9=>
 (QcD x1.2.2.1 J.1 x2 x3).bind fun I=>
 bif (!decide ((I.2:Int)=0)) then
 some (0,(([]:List t10),(I.2,x1)))
 else
 some (U.1,(y9.1,(0,(x1.1,(x1.2.1,(I.1,y8.1))))))
def QbO (I:Int):Option (Int):=
 bif (decide ((0:Int)<=IntKind.wrap .i64 (Int.tdiv (IntKind.wrap .i64 (I - 1)) 8))) then
 some (Int.fdiv 1000 (2 ^ (min (Int.toNat (IntKind.wrap .i64 (Int.tdiv (IntKind.wrap .i64 (I - 1)) 8))) 64)))
 else none
def Jd (x0:t25) (x1:t21) (x2:Int):Option (t24):=
 (Yi x0 x2).bind fun I=>
 bif (!decide ((I.2:Int)=0)) then
 some (I.2,(0,((0,([],[])),(0,(0,([],[]))))))
 else
 (bif (!decide ((I.1.1:Int)=x1.1)) then
 some true
 else
 some (!decide ((I.1.2.1:Int)=IntKind.wrap .i64 (x1.2.1+1))):Option (Bool)).bind fun j15=>
 bif j15 then
 some (10,(0,((0,([],[])),(0,(0,([],[]))))))
 else
 (QbT x1).bind fun y16=>
 (QF x1.2.2.2).bind fun y17=>
 (Qc (S:=Int×Int×t21×t18) (X:=(Int×t21×t18)⊕(t24)) (fun s20=>
 bif (decide ((s20.2.1:Int)<(List.length I.1.2.2.2:Int))) then
 bif (inB s20.2.1 I.1.2.2.2) then
 (Qaj x0 s20.2.2.1 (List.getD I.1.2.2.2 (Int.toNat s20.2.1) 0) I.1.2.1).bind fun J=>
 bif (!decide ((J.2.2.1:Int)=0)) then
 some (Sum.inr (Sum.inr (J.2.2.1,(0,((0,([],[])),(0,(0,([],[]))))))))
 else
 bif decide (List.length s20.2.2.2.2.1+List.length ([J.2.1]:List (List t10))<=LIM) then
 some (Sum.inl (IntKind.wrap .i64 (s20.1+J.1),(IntKind.wrap .i64 (s20.2.1+1),(J.2.2.2,(s20.2.2.2.1,(List.append s20.2.2.2.2.1 ([J.2.1]:List (List t10)),s20.2.2.2.2.2))))))
 else none
 else none
 else
 some (Sum.inr (Sum.inl (s20.1,(s20.2.2.1,s20.2.2.2))))) (0,(0,(y16,(x2,([],y17)))))).bind fun j22=>
 Sum.elim (fun (U:Int×t21×t18)=>
 (QbO I.1.2.1).bind fun y25=>
 bif (decide ((1000000:Int)<IntKind.wrap .i64 (y25+U.1))) then
 some (8,(0,((0,([],[])),(0,(0,([],[]))))))
 else
 (Jj U.2.1.2.2.1 x2 ([(IntKind.wrap .i64 (y25+U.1),(([I.1.2.2.1]:List Int),(1,0)))]:List t7) I.1.2.1 true).bind fun y26=>
 bif (!decide ((y26.2:Int)=0)) then
 some (y26.2,(0,((0,([],[])),(0,(0,([],[]))))))
 else
 some (0,(U.1,(U.2.2,(x2,(I.1.2.1,(y26.1,U.2.1.2.2.2))))))) (fun (j24:t24)=>
 some j24) j22
def Y0 (x0:t25) (x1:List Int):Option (t24×List t18):=
 (Qc (S:=List t18×Int×t24) (X:=(List t18×t24)⊕(List t18×t24)) (fun s10=>
 bif (decide ((s10.2.1:Int)<(List.length x1:Int))) then
 bif (inB s10.2.1 x1) then
 (Jd x0 s10.2.2.2.2.2 (List.getD x1 (Int.toNat s10.2.1) 0)).bind fun I=>
 bif (!decide ((I.1:Int)=0)) then
 some (Sum.inr (Sum.inr (([]:List t18),(I.1,(0,((0,([],[])),(0,(0,([],[])))))))))
 else
 bif decide (List.length s10.1+List.length ([I.2.2.1]:List t18)<=LIM) then
 some (Sum.inl (List.append s10.1 ([I.2.2.1]:List t18),(IntKind.wrap .i64 (s10.2.1+1),(0,(IntKind.wrap .i64 (s10.2.2.2.1+I.2.1),((0,([],[])),I.2.2.2))))))
 else none
 else none
 else
 some (Sum.inr (Sum.inl (s10.1,s10.2.2)))) (([]:List t18),(0,(0,(0,((0,([],[])),(0,(0,([],[]))))))))).bind fun j12=>
 Sum.elim (fun (J:List t18×t24)=>
 some (J.2,J.1)) (fun (U:List t18×t24)=>
 some (U.2,U.1)) j12
def YG (I:List Int):Option (List Int):=
 bif Nat.ble (List.length I) 9223372036854775807 then some (List.reverse I) else none
def Qbu (I:List t11) (x1:Int):Option (List Int):=
 (ZM I x1).bind fun y8=>
 (Qc (S:=List Int×Int) (X:=List Int) (fun s11=>
 bif (decide ((0:Int)<=s11.2)) then
 bif (inB s11.2 I) then
 bif decide (List.length s11.1+List.length ([(List.getD I (Int.toNat s11.2) (0,(0,0))).1]:List Int)<=LIM) then
 bif (inB s11.2 I) then
 (ZM I (List.getD I (Int.toNat s11.2) (0,(0,0))).2.1).bind fun J=>
 some (Sum.inl (List.append s11.1 ([(List.getD I (Int.toNat s11.2) (0,(0,0))).1]:List Int),J))
 else none
 else none
 else none
 else
 some (Sum.inr s11.1)) (([]:List Int),y8)).bind fun U=>
 (YG U).bind fun y14=>
 some y14
def YJ (I:t29) (x1:Int):Option (t24×List t18):=
 (Qbu I.2.1 x1).bind fun U=>
 (Y0 I.1 U).bind fun J=>
 some (J.1,J.2)
def YH (J:t29):Option (Int):=
 (Qc (S:=Int) (X:=(Unit)⊕(Int)) (fun s20=>
 bif (decide ((s20:Int)<(List.length J.2.1:Int))) then
 bif (inB s20 J.2.1) then
 (Yi J.1 (List.getD J.2.1 (Int.toNat s20) (0,(0,0))).1).bind fun I=>
 bif (!decide ((I.2:Int)=0)) then
 some (Sum.inr (Sum.inr I.2))
 else
 (bif (!decide ((I.1.1:Int)=(List.getD J.2.1 (Int.toNat s20) (0,(0,0))).2.1)) then
 some true
 else
 some (!decide ((I.1.2.1:Int)=(List.getD J.2.1 (Int.toNat s20) (0,(0,0))).2.2)):Option (Bool)).bind fun j22=>
 bif j22 then
 some (Sum.inr (Sum.inr 1))
 else
 (YJ J (List.getD J.2.1 (Int.toNat s20) (0,(0,0))).1).bind fun U=>
 bif (!decide ((U.1.1:Int)=0)) then
 some (Sum.inr (Sum.inr U.1.1))
 else
 some (Sum.inl (IntKind.wrap .i64 (s20+1)))
 else none
 else
 some (Sum.inr (Sum.inl ()))) 0).bind fun j24=>
 Sum.elim (fun (j25:Unit)=>
 some 0) (fun (j26:Int)=>
 some j26) j24
def QgS (I:List t11) (x1:Int):Option (Bool):=
 (ZM I x1).bind fun J=>
 some (decide ((0:Int)<=J))
def QaV (I:List t11) (x1:Int) (x2:Int):Option (Bool):=
 (Qbu I x2).bind fun J=>
 (Zi J x1).bind fun U=>
 some U
def Qa2 (J:List t11) (x1:Int) (x2:Int):Option (Bool):=
 ((QaV J x1 x2).bind fun U=>
 bif U then
 some true
 else
 (QaV J x2 x1).bind fun y9=>
 some y9:Option (Bool)).bind fun I=>
 some I
def JR (I:Int) (x1:t29) (x2:Int):Option (Bool):=
 (Qa2 x1.2.1 I x2).bind fun J=>
 some (!J)
def Y6 (I:t29) (x1:List Int) (x2:Int):Option (Bool):=
 (QT x1 (fun (a4:Int)=>(JR a4 I x2).bind fun J=>some J)).bind fun U=>
 some (!U)
def YI (I:t29):Option (Int):=
 (Qc (S:=Int) (X:=(Unit)⊕(Int)) (fun s15=>
 bif (decide ((s15:Int)<(List.length I.2.2.1:Int))) then
 bif (inB s15 I.2.2.1) then
 (QgS I.2.1 (List.getD I.2.2.1 (Int.toNat s15) 0)).bind fun J=>
 bif (!J) then
 some (Sum.inr (Sum.inr 4))
 else
 bif (QR 0 s15 I.2.2.1) then
 (Y6 I (cut 0 s15 I.2.2.1) (List.getD I.2.2.1 (Int.toNat s15) 0)).bind fun U=>
 bif (!U) then
 some (Sum.inr (Sum.inr 10))
 else
 some (Sum.inl (IntKind.wrap .i64 (s15+1)))
 else none
 else none
 else
 some (Sum.inr (Sum.inl ()))) 0).bind fun j18=>
 Sum.elim (fun (j19:Unit)=>
 some 0) (fun (j20:Int)=>
 some j20) j18
def Qa7 (J:Int) (x1:List t11) (x2:t11):Option (Bool):=
 ((Qa2 x1 J x2.1).bind fun y8=>
 bif (!y8) then
 some true
 else
 (ZM x1 J).bind fun U=>
 bif (inB U x1) then
 some (decide ((x2.2.2:Int)<(List.getD x1 (Int.toNat U) (0,(0,0))).2.2))
 else none:Option (Bool)).bind fun I=>
 some I
def QdR (I:List t11) (x1:List Int):Option (Int):=
 (Qc (S:=Int×t11) (X:=t11) (fun s28=>
 bif (decide ((s28.1:Int)<(List.length I:Int))) then
 bif (inB s28.1 I) then
 (QT x1 (fun (J:Int)=>(Qa7 J I (List.getD I (Int.toNat s28.1) (0,(0,0)))).bind fun U=>some U)).bind fun y31=>
 (bif (!y31) then
 some (decide ((s28.2.2.2:Int)<(List.getD I (Int.toNat s28.1) (0,(0,0))).2.2))
 else
 some false:Option (Bool)).bind fun j32=>
 (bif j32 then
 some (List.getD I (Int.toNat s28.1) (0,(0,0)))
 else
 some s28.2:Option (t11)).bind fun j33=>
 some (Sum.inl (IntKind.wrap .i64 (s28.1+1),j33))
 else none
 else
 some (Sum.inr s28.2)) (0,(0,(0,0)))).bind fun j34=>
 some j34.1
def Qw (I:List t10) (x1:List t10) (x2:t10->t10->Option Bool):Option (Bool):=
 bif (!decide (((List.length I:Int):Int)=(List.length x1:Int))) then
 some false
 else
 (Qc (S:=Int) (X:=(Unit)⊕(Bool)) (fun s10=>
 bif (decide ((s10:Int)<(List.length I:Int))) then
 bif (inB s10 I) then
 bif (inB s10 x1) then
 (x2 (List.getD I (Int.toNat s10) ((0,0),((0,([],(0,0))),(0,false)))) (List.getD x1 (Int.toNat s10) ((0,0),((0,([],(0,0))),(0,false))))).bind fun J=>
 bif (!J) then
 some (Sum.inr (Sum.inr false))
 else
 some (Sum.inl (IntKind.wrap .i64 (s10+1)))
 else none
 else none
 else
 some (Sum.inr (Sum.inl ()))) 0).bind fun U=>
 Sum.elim (fun (j13:Unit)=>
 some true) (fun (j14:Bool)=>
 some j14) U
def Z3 (I:List Int) (x1:List Int):Option (Bool):=
 bif (!decide (((List.length I:Int):Int)=(List.length x1:Int))) then
 some false
 else
 (Qc (S:=Int) (X:=(Unit)⊕(Bool)) (fun s5=>
 bif (decide ((s5:Int)<(List.length I:Int))) then
 bif (inB s5 I) then
 bif (inB s5 x1) then
 bif (!decide ((List.getD I (Int.toNat s5) 0:Int)=List.getD x1 (Int.toNat s5) 0)) then
 some (Sum.inr (Sum.inr false))
 else
 some (Sum.inl (IntKind.wrap .i64 (s5+1)))
 else none
 else none
 else
 some (Sum.inr (Sum.inl ()))) 0).bind fun J=>
 Sum.elim (fun (j7:Unit)=>
 some true) (fun (U:Bool)=>
 some U) J
def Qa8 (I:t6) (x1:t6):Option (Bool):=
 ((Z3 I.1 x1.1).bind fun J=>
 bif J then
 bif (decide ((I.2.1:Int)=x1.2.1)) then
 some (decide ((I.2.2:Int)=x1.2.2))
 else
 some false
 else
 some false:Option (Bool)).bind fun U=>
 some U
def QbS (I:t7) (x1:t7):Option (Bool):=
 (bif (decide ((I.1:Int)=x1.1)) then
 (Qa8 I.2 x1.2).bind fun J=>
 some J
 else
 some false:Option (Bool)).bind fun U=>
 some U
def Qcb (I:t10) (x1:t10):Option (Bool):=
 (bif (Sh.beq (.prod (.int .i64) (.int .i64)) I.1 x1.1) then
 (QbS I.2.1 x1.2.1).bind fun J=>
 bif J then
 bif (decide ((I.2.2.1:Int)=x1.2.2.1)) then
 some (Sh.beq .bool I.2.2.2 x1.2.2.2)
 else
 some false
 else
 some false
 else
 some false:Option (Bool)).bind fun U=>
 some U
def JN (I:List t10) (x1:List t10):Option (Bool):=
 (Qw I x1 (fun (a5:t10) (J:t10)=>(Qcb a5 J).bind fun U=>some U)).bind fun y8=>
 some y8
def Zc (I:List t11) (x1:List t11):Option (Bool):=
 bif (!decide (((List.length I:Int):Int)=(List.length x1:Int))) then
 some false
 else
 (Qc (S:=Int) (X:=(Unit)⊕(Bool)) (fun s5=>
 bif (decide ((s5:Int)<(List.length I:Int))) then
 bif (inB s5 I) then
 bif (inB s5 x1) then
 bif (!(Sh.beq (.prod (.int .i64) (.prod (.int .i64) (.int .i64))) (List.getD I (Int.toNat s5) (0,(0,0))) (List.getD x1 (Int.toNat s5) (0,(0,0))))) then
 some (Sum.inr (Sum.inr false))
 else
 some (Sum.inl (IntKind.wrap .i64 (s5+1)))
 else none
 else none
 else
 some (Sum.inr (Sum.inl ()))) 0).bind fun J=>
 Sum.elim (fun (j7:Unit)=>
 some true) (fun (U:Bool)=>
 some U) J
def Y1 (I:List t11) (x1:List t11):Option (Bool):=
 (Zc I x1).bind fun J=>
 some J
def QaD (I:t21) (x1:t21):Option (Bool):=
 (bif (decide ((I.1:Int)=x1.1)) then
 bif (decide ((I.2.1:Int)=x1.2.1)) then
 (JN I.2.2.1 x1.2.2.1).bind fun U=>
 bif U then
 (Y1 I.2.2.2 x1.2.2.2).bind fun y9=>
 some y9
 else
 some false
 else
 some false
 else
 some false:Option (Bool)).bind fun J=>
 some J
def Qy (I:List t18) (x1:List t18) (x2:t18->t18->Option Bool):Option (Bool):=
 bif (!decide (((List.length I:Int):Int)=(List.length x1:Int))) then
 some false
 else
 (Qc (S:=Int) (X:=(Unit)⊕(Bool)) (fun s10=>
 bif (decide ((s10:Int)<(List.length I:Int))) then
 bif (inB s10 I) then
 bif (inB s10 x1) then
 (x2 (List.getD I (Int.toNat s10) (0,([],[]))) (List.getD x1 (Int.toNat s10) (0,([],[])))).bind fun J=>
 bif (!J) then
 some (Sum.inr (Sum.inr false))
 else
 some (Sum.inl (IntKind.wrap .i64 (s10+1)))
 else none
 else none
 else
 some (Sum.inr (Sum.inl ()))) 0).bind fun U=>
 Sum.elim (fun (j13:Unit)=>
 some true) (fun (j14:Bool)=>
 some j14) U
def Qs (I:List (List t10)) (x1:List (List t10)) (x2:(List t10)->(List t10)->Option Bool):Option (Bool):=
 bif (!decide (((List.length I:Int):Int)=(List.length x1:Int))) then
 some false
 else
 (Qc (S:=Int) (X:=(Unit)⊕(Bool)) (fun s10=>
 bif (decide ((s10:Int)<(List.length I:Int))) then
 bif (inB s10 I) then
 bif (inB s10 x1) then
 (x2 (List.getD I (Int.toNat s10) []) (List.getD x1 (Int.toNat s10) [])).bind fun J=>
 bif (!J) then
 some (Sum.inr (Sum.inr false))
 else
 some (Sum.inl (IntKind.wrap .i64 (s10+1)))
 else none
 else none
 else
 some (Sum.inr (Sum.inl ()))) 0).bind fun U=>
 Sum.elim (fun (j13:Unit)=>
 some true) (fun (j14:Bool)=>
 some j14) U
def Qba (I:t18) (x1:t18):Option (Bool):=
 (bif (decide ((I.1:Int)=x1.1)) then
 (Qs I.2.1 x1.2.1 (fun (a17:List t10) (J:List t10)=>(JN a17 J).bind fun U=>some U)).bind fun y20=>
 bif y20 then
 (Y1 I.2.2 x1.2.2).bind fun y21=>
 some y21
 else
 some false
 else
 some false:Option (Bool)).bind fun j22=>
 some j22
def QaA (I:t29):Option (Int):=
 (Qae I.1).bind fun J=>
 bif (!decide ((J:Int)=0)) then
 some J
 else
 (Qbc I.2.1).bind fun U=>
 bif (!decide ((U:Int)=0)) then
 some U
 else
 bif (decide ((20:Int)<(List.length I.2.2.1:Int))) then
 some 2
 else
 (YH I).bind fun y14=>
 bif (!decide ((y14:Int)=0)) then
 some y14
 else
 (YI I).bind fun y15=>
 bif (!decide ((y15:Int)=0)) then
 some y15
 else
 (QdR I.2.1 I.2.2.1).bind fun y16=>
 bif (!decide ((I.2.2.2.1.1:Int)=y16)) then
 some 10
 else
 (YJ I I.2.2.2.1.1).bind fun y17=>
 (QaD y17.1.2.2.2 I.2.2.2.1).bind fun y18=>
 bif (!y18) then
 some 10
 else
 (Qy y17.2 I.2.2.2.2 (fun (a19:t18) (a20:t18)=>(Qba a19 a20).bind fun r21=>some r21)).bind fun y22=>
 bif (!y22) then
 some 1
 else
 some 0
def Jm (U:List UInt8) (x1:List Int):Option (List UInt8):=
 (Qc (S:=List UInt8×Int) (X:=List UInt8) (fun s8=>
 bif (decide ((s8.2:Int)<(List.length x1:Int))) then
 bif (inB s8.2 x1) then
 (Zy (List.getD x1 (Int.toNat s8.2) 0)).bind fun I=>
 bif decide (List.length [32]+List.length I<=LIM) then
 bif decide (List.length s8.1+List.length (List.append [32] I)<=LIM) then
 some (Sum.inl (List.append s8.1 (List.append [32] I),IntKind.wrap .i64 (s8.2+1)))
 else none
 else none
 else none
 else
 some (Sum.inr s8.1)) (U,0)).bind fun J=>
 some J
def QdQ (I:List t11):Option (List Int):=
 (Qc (S:=List Int×Int) (X:=List Int) (fun s3=>
 bif (decide ((s3.2:Int)<(List.length I:Int))) then
 bif (inB s3.2 I) then
 bif decide (List.length s3.1+List.length ([(List.getD I (Int.toNat s3.2) (0,(0,0))).1]:List Int)<=LIM) then
 some (Sum.inl (List.append s3.1 ([(List.getD I (Int.toNat s3.2) (0,(0,0))).1]:List Int),IntKind.wrap .i64 (s3.2+1)))
 else none
 else none
 else
 some (Sum.inr s3.1)) (([]:List Int),0)).bind fun J=>
 some J
def Qbi (x0:List t10):Option (List UInt8):=
 (Qc (S:=List UInt8×Int) (X:=List UInt8) (fun s23=>
 bif (decide ((s23.2:Int)<(List.length x0:Int))) then
 bif (inB s23.2 x0) then
 (Zy (List.getD x0 (Int.toNat s23.2) ((0,0),((0,([],(0,0))),(0,false)))).1.1).bind fun I=>
 bif decide (List.length [99,111,105,110,32]+List.length I<=LIM) then
 bif decide (List.length (List.append [99,111,105,110,32] I)+List.length [58]<=LIM) then
 (Zy (List.getD x0 (Int.toNat s23.2) ((0,0),((0,([],(0,0))),(0,false)))).1.2).bind fun J=>
 bif decide (List.length (List.append (List.append [99,111,105,110,32] I) [58])+List.length J<=LIM) then
 bif decide (List.length (List.append (List.append (List.append [99,111,105,110,32] I) [58]) J)+List.length [32]<=LIM) then
 (Zy (List.getD x0 (Int.toNat s23.2) ((0,0),((0,([],(0,0))),(0,false)))).2.1.1).bind fun U=>
 bif decide (List.length (List.append (List.append (List.append (List.append [99,111,105,110,32] I) [58]) J) [32])+List.length U<=LIM) then
 bif decide (List.length (List.append (List.append (List.append (List.append (List.append [99,111,105,110,32] I) [58]) J) [32]) U)+List.length [32]<=LIM) then
 (Y8 (List.getD x0 (Int.toNat s23.2) ((0,0),((0,([],(0,0))),(0,false)))).2.1.2 [32]).bind fun y27=>
 bif decide (List.length (List.append (List.append (List.append (List.append (List.append (List.append [99,111,105,110,32] I) [58]) J) [32]) U) [32])+List.length y27<=LIM) then
 bif decide (List.length (List.append (List.append (List.append (List.append (List.append (List.append (List.append [99,111,105,110,32] I) [58]) J) [32]) U) [32]) y27)+List.length [10]<=LIM) then
 bif decide (List.length s23.1+List.length (List.append (List.append (List.append (List.append (List.append (List.append (List.append (List.append [99,111,105,110,32] I) [58]) J) [32]) U) [32]) y27) [10])<=LIM) then
 some (Sum.inl (List.append s23.1 (List.append (List.append (List.append (List.append (List.append (List.append (List.append (List.append [99,111,105,110,32] I) [58]) J) [32]) U) [32]) y27) [10]),IntKind.wrap .i64 (s23.2+1)))
 else none
 else none
 else none
 else none
 else none
 else none
 else none
 else none
 else none
 else none
 else
 some (Sum.inr s23.1)) ([],0)).bind fun j28=>
 some j28
def Qa9 (J:t29):Option (List UInt8):=
 (Jm [116,105,112] ([J.2.2.2.1.1,J.2.2.2.1.2.1]:List Int)).bind fun U=>
 bif decide (List.length U+List.length [10]<=LIM) then
 (Jm [116,114,101,101] ([(List.length J.2.1:Int)]:List Int)).bind fun y8=>
 bif decide (List.length y8+List.length [10]<=LIM) then
 bif decide (List.length (List.append U [10])+List.length (List.append y8 [10])<=LIM) then
 (Jm [108,111,99,107,115] J.2.2.1).bind fun y9=>
 bif decide (List.length y9+List.length [10]<=LIM) then
 bif decide (List.length (List.append (List.append U [10]) (List.append y8 [10]))+List.length (List.append y9 [10])<=LIM) then
 (QdQ J.2.2.2.1.2.2.2).bind fun y10=>
 (Jm [109,101,109,98,101,114,115] y10).bind fun I=>
 bif decide (List.length I+List.length [10]<=LIM) then
 bif decide (List.length (List.append (List.append (List.append U [10]) (List.append y8 [10])) (List.append y9 [10]))+List.length (List.append I [10])<=LIM) then
 (Qbi J.2.2.2.1.2.2.1).bind fun y12=>
 bif decide (List.length (List.append (List.append (List.append (List.append U [10]) (List.append y8 [10])) (List.append y9 [10])) (List.append I [10]))+List.length y12<=LIM) then
 some (List.append (List.append (List.append (List.append (List.append U [10]) (List.append y8 [10])) (List.append y9 [10])) (List.append I [10])) y12)
 else none
 else none
 else none
 else none
 else none
 else none
 else none
 else none
def Qbf (I:t29):Option (t3):=
 (QaA I).bind fun J=>
 bif (!decide ((J:Int)=0)) then
 some (J,[])
 else
 (Qa9 I).bind fun U=>
 some (0,U)
def QbN (I:t3) (x1:t3):Option (Bool):=
 bif (!decide ((I.1:Int)=x1.1)) then
 some false
 else
 bif (!decide ((I.2:List UInt8)=x1.2)) then
 some false
 else
 some true
def Qbd (I:List (List UInt8)) (x1:List (List UInt8)):Option (Bool):=
 bif (!decide (((List.length I:Int):Int)=(List.length x1:Int))) then
 some false
 else
 (Qc (S:=Int) (X:=(Unit)⊕(Bool)) (fun s5=>
 bif (decide ((s5:Int)<(List.length I:Int))) then
 bif (inB s5 I) then
 bif (inB s5 x1) then
 bif (!decide ((List.getD I (Int.toNat s5) []:List UInt8)=List.getD x1 (Int.toNat s5) [])) then
 some (Sum.inr (Sum.inr false))
 else
 some (Sum.inl (IntKind.wrap .i64 (s5+1)))
 else none
 else none
 else
 some (Sum.inr (Sum.inl ()))) 0).bind fun J=>
 Sum.elim (fun (j7:Unit)=>
 some true) (fun (U:Bool)=>
 some U) J
def Qdv (I:t5) (x1:t5):Option (Bool):=
 bif (!decide ((I.1:Int)=x1.1)) then
 some false
 else
 bif (!decide ((I.2:Int)=x1.2)) then
 some false
 else
 some true
def QcI (I:List t5) (x1:List t5):Option (Bool):=
 bif (!decide (((List.length I:Int):Int)=(List.length x1:Int))) then
 some false
 else
 (Qc (S:=Int) (X:=(Unit)⊕(Bool)) (fun s10=>
 bif (decide ((s10:Int)<(List.length I:Int))) then
 bif (inB s10 I) then
 bif (inB s10 x1) then
 (Qdv (List.getD I (Int.toNat s10) (0,0)) (List.getD x1 (Int.toNat s10) (0,0))).bind fun J=>
 bif (!J) then
 some (Sum.inr (Sum.inr false))
 else
 some (Sum.inl (IntKind.wrap .i64 (s10+1)))
 else none
 else none
 else
 some (Sum.inr (Sum.inl ()))) 0).bind fun U=>
 Sum.elim (fun (j13:Unit)=>
 some true) (fun (j14:Bool)=>
 some j14) U
def Qcd (I:t25) (x1:t25):Option (Bool):=
 (Qbd I.1 x1.1).bind fun J=>
 bif (!J) then
 some false
 else
 (QcI I.2 x1.2).bind fun U=>
 bif (!U) then
 some false
 else
 some true
def QdC (I:t11) (x1:t11):Option (Bool):=
 bif (!decide ((I.1:Int)=x1.1)) then
 some false
 else
 bif (!decide ((I.2.1:Int)=x1.2.1)) then
 some false
 else
 bif (!decide ((I.2.2:Int)=x1.2.2)) then
 some false
 else
 some true
def Qc3 (I:List t11) (x1:List t11):Option (Bool):=
 bif (!decide (((List.length I:Int):Int)=(List.length x1:Int))) then
 some false
 else
 (Qc (S:=Int) (X:=(Unit)⊕(Bool)) (fun s10=>
 bif (decide ((s10:Int)<(List.length I:Int))) then
 bif (inB s10 I) then
 bif (inB s10 x1) then
 (QdC (List.getD I (Int.toNat s10) (0,(0,0))) (List.getD x1 (Int.toNat s10) (0,(0,0)))).bind fun J=>
 bif (!J) then
 some (Sum.inr (Sum.inr false))
 else
 some (Sum.inl (IntKind.wrap .i64 (s10+1)))
 else none
 else none
 else
 some (Sum.inr (Sum.inl ()))) 0).bind fun U=>
 Sum.elim (fun (j13:Unit)=>
 some true) (fun (j14:Bool)=>
 some j14) U
def Qad (I:List Int) (x1:List Int):Option (Bool):=
 bif (!decide (((List.length I:Int):Int)=(List.length x1:Int))) then
 some false
 else
 (Qc (S:=Int) (X:=(Unit)⊕(Bool)) (fun s5=>
 bif (decide ((s5:Int)<(List.length I:Int))) then
 bif (inB s5 I) then
 bif (inB s5 x1) then
 bif (!decide ((List.getD I (Int.toNat s5) 0:Int)=List.getD x1 (Int.toNat s5) 0)) then
 some (Sum.inr (Sum.inr false))
 else
 some (Sum.inl (IntKind.wrap .i64 (s5+1)))
 else none
 else none
 else
 some (Sum.inr (Sum.inl ()))) 0).bind fun J=>
 Sum.elim (fun (j7:Unit)=>
 some true) (fun (U:Bool)=>
 some U) J
def Qch (I:t5) (x1:t5):Option (Bool):=
 bif (!decide ((I.1:Int)=x1.1)) then
 some false
 else
 bif (!decide ((I.2:Int)=x1.2)) then
 some false
 else
 some true
def Qdq (I:t6) (x1:t6):Option (Bool):=
 (Qad I.1 x1.1).bind fun J=>
 bif (!J) then
 some false
 else
 bif (!decide ((I.2.1:Int)=x1.2.1)) then
 some false
 else
 bif (!decide ((I.2.2:Int)=x1.2.2)) then
 some false
 else
 some true
def Qet (I:t7) (x1:t7):Option (Bool):=
 bif (!decide ((I.1:Int)=x1.1)) then
 some false
 else
 (Qdq I.2 x1.2).bind fun J=>
 bif (!J) then
 some false
 else
 some true
def QdH (I:t10) (x1:t10):Option (Bool):=
 (Qch I.1 x1.1).bind fun J=>
 bif (!J) then
 some false
 else
 (Qet I.2.1 x1.2.1).bind fun U=>
 bif (!U) then
 some false
 else
 bif (!decide ((I.2.2.1:Int)=x1.2.2.1)) then
 some false
 else
 bif (!(Sh.beq .bool I.2.2.2 x1.2.2.2)) then
 some false
 else
 some true
def QaR (I:List t10) (x1:List t10):Option (Bool):=
 bif (!decide (((List.length I:Int):Int)=(List.length x1:Int))) then
 some false
 else
 (Qc (S:=Int) (X:=(Unit)⊕(Bool)) (fun s10=>
 bif (decide ((s10:Int)<(List.length I:Int))) then
 bif (inB s10 I) then
 bif (inB s10 x1) then
 (QdH (List.getD I (Int.toNat s10) ((0,0),((0,([],(0,0))),(0,false)))) (List.getD x1 (Int.toNat s10) ((0,0),((0,([],(0,0))),(0,false))))).bind fun J=>
 bif (!J) then
 some (Sum.inr (Sum.inr false))
 else
 some (Sum.inl (IntKind.wrap .i64 (s10+1)))
 else none
 else none
 else
 some (Sum.inr (Sum.inl ()))) 0).bind fun U=>
 Sum.elim (fun (j13:Unit)=>
 some true) (fun (j14:Bool)=>
 some j14) U
def Qb2 (I:t11) (x1:t11):Option (Bool):=
 bif (!decide ((I.1:Int)=x1.1)) then
 some false
 else
 (Qch I.2 x1.2).bind fun J=>
 bif (!J) then
 some false
 else
 some true
def J1 (I:List t11) (x1:List t11):Option (Bool):=
 bif (!decide (((List.length I:Int):Int)=(List.length x1:Int))) then
 some false
 else
 (Qc (S:=Int) (X:=(Unit)⊕(Bool)) (fun s10=>
 bif (decide ((s10:Int)<(List.length I:Int))) then
 bif (inB s10 I) then
 bif (inB s10 x1) then
 (Qb2 (List.getD I (Int.toNat s10) (0,(0,0))) (List.getD x1 (Int.toNat s10) (0,(0,0)))).bind fun J=>
 bif (!J) then
 some (Sum.inr (Sum.inr false))
 else
 some (Sum.inl (IntKind.wrap .i64 (s10+1)))
 else none
 else none
 else
 some (Sum.inr (Sum.inl ()))) 0).bind fun U=>
 Sum.elim (fun (j13:Unit)=>
 some true) (fun (j14:Bool)=>
 some j14) U
def QcF (I:t21) (x1:t21):Option (Bool):=
 bif (!decide ((I.1:Int)=x1.1)) then
 some false
 else
 bif (!decide ((I.2.1:Int)=x1.2.1)) then
 some false
 else
 (QaR I.2.2.1 x1.2.2.1).bind fun J=>
 bif (!J) then
 some false
 else
 (J1 I.2.2.2 x1.2.2.2).bind fun U=>
 bif (!U) then
 some false
 else
 some true
def Qcg (I:List (List t10)) (x1:List (List t10)):Option (Bool):=
 bif (!decide (((List.length I:Int):Int)=(List.length x1:Int))) then
 some false
 else
 (Qc (S:=Int) (X:=(Unit)⊕(Bool)) (fun s10=>
 bif (decide ((s10:Int)<(List.length I:Int))) then
 bif (inB s10 I) then
 bif (inB s10 x1) then
 (QaR (List.getD I (Int.toNat s10) []) (List.getD x1 (Int.toNat s10) [])).bind fun J=>
 bif (!J) then
 some (Sum.inr (Sum.inr false))
 else
 some (Sum.inl (IntKind.wrap .i64 (s10+1)))
 else none
 else none
 else
 some (Sum.inr (Sum.inl ()))) 0).bind fun U=>
 Sum.elim (fun (j13:Unit)=>
 some true) (fun (j14:Bool)=>
 some j14) U
def QdO (I:t18) (x1:t18):Option (Bool):=
 bif (!decide ((I.1:Int)=x1.1)) then
 some false
 else
 (Qcg I.2.1 x1.2.1).bind fun J=>
 bif (!J) then
 some false
 else
 (J1 I.2.2 x1.2.2).bind fun U=>
 bif (!U) then
 some false
 else
 some true
def QcO (I:List t18) (x1:List t18):Option (Bool):=
 bif (!decide (((List.length I:Int):Int)=(List.length x1:Int))) then
 some false
 else
 (Qc (S:=Int) (X:=(Unit)⊕(Bool)) (fun s10=>
 bif (decide ((s10:Int)<(List.length I:Int))) then
 bif (inB s10 I) then
 bif (inB s10 x1) then
 (QdO (List.getD I (Int.toNat s10) (0,([],[]))) (List.getD x1 (Int.toNat s10) (0,([],[])))).bind fun J=>
 bif (!J) then
 some (Sum.inr (Sum.inr false))
 else
 some (Sum.inl (IntKind.wrap .i64 (s10+1)))
 else none
 else none
 else
 some (Sum.inr (Sum.inl ()))) 0).bind fun U=>
 Sum.elim (fun (j13:Unit)=>
 some true) (fun (j14:Bool)=>
 some j14) U
def QcT (I:t29) (x1:t29):Option (Bool):=
 (Qcd I.1 x1.1).bind fun U=>
 bif (!U) then
 some false
 else
 (Qc3 I.2.1 x1.2.1).bind fun y7=>
 bif (!y7) then
 some false
 else
 (Qad I.2.2.1 x1.2.2.1).bind fun y8=>
 bif (!y8) then
 some false
 else
 (QcF I.2.2.2.1 x1.2.2.2.1).bind fun y9=>
 bif (!y9) then
 some false
 else
 (QcO I.2.2.2.2 x1.2.2.2.2).bind fun J=>
 bif (!J) then
 some false
 else
 some true
def J5 (J:t29):Option (Bool):=
 (QcB J 1048576).bind fun y9=>
 bif (decide ((y9:Int)<0)) then
 some true
 else
 (JG J).bind fun U=>
 (Qbe U).bind fun y11=>
 (JG J).bind fun I=>
 (Qbf I).bind fun y13=>
 (QbN y13 y11).bind fun y14=>
 bif (!y14) then
 some false
 else
 (JG J).bind fun y15=>
 (QcT I y15).bind fun y16=>
 bif (!y16) then
 some false
 else
 some true
end GL
end Go.Dx
end
