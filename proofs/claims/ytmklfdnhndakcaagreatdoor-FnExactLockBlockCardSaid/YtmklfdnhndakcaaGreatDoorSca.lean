/- What each function computes, as a function of plain data (F), its parameters (K) and hints for the executor (X); the types -/
import Derived.Test.YtmklfdnhndakcaaGreatDoorDxd
import Derived.Test.YtmklfdnhndakcaaGreatDoorProg
import Derived.KernelRfl
set_option linter.unusedVariables false
set_option linter.unusedSimpArgs false
set_option maxRecDepth 100000
set_option maxHeartbeats 0
noncomputable section
namespace Go.Dx
open Go.Proofs
namespace GL
open IntKind Sum
def s0:Sh:=(.prod (.int .i64) (.int .i64))
def s1:Sh:=(.prod (.list .str) (.list s0))
def s2:Sh:=(.prod (.int .i64) s0)
def s3:Sh:=(.prod (.list (.int .i64)) s0)
def s4:Sh:=(.prod (.int .i64) s3)
def s5:Sh:=(.prod (.int .i64) .bool)
def s6:Sh:=(.prod s4 s5)
def s7:Sh:=(.prod s0 s6)
def s8:Sh:=(.prod (.list s7) (.list s2))
def s9:Sh:=(.prod (.int .i64) s8)
def s10:Sh:=(.prod (.int .i64) s9)
def s11:Sh:=(.prod (.list (.list s7)) (.list s2))
def s12:Sh:=(.prod (.int .i64) s11)
def s13:Sh:=(.prod s10 (.list s12))
def s14:Sh:=(.prod (.list (.int .i64)) s13)
def s15:Sh:=(.prod (.list s2) s14)
def s16:Sh:=(.prod s1 s15)
def s17:Sh:=(.prod (.int .i64) s16)
def s18:Sh:=(.prod (.int .i64) s17)
def s19:Sh:=(.prod s12 s10)
def s20:Sh:=(.prod (.int .i64) s19)
def s21:Sh:=(.prod (.int .i64) s20)
def s22:Sh:=(.prod (.int .i64) (.list (.int .i64)))
def s23:Sh:=(.prod (.int .i64) s22)
def s24:Sh:=(.prod (.int .i64) s23)
def s25:Sh:=(.prod (.int .i64) s24)
def s26:Sh:=(.prod (.int .i64) (.list s7))
def s27:Sh:=(.prod (.int .i64) .str)
def s28:Sh:=(.prod (.list s0) (.list s4))
def s29:Sh:=(.prod (.int .i64) s28)
def s30:Sh:=(.prod (.int .i64) s29)
def s31:Sh:=(.prod (.int .i64) s30)
def tys:List (TypeId×TI):=[(2,⟨(.int .i64),8,.int .i64⟩),
 (3,⟨(.int .i64),8,.int .i64⟩),
 (4,⟨.bool,1,.bool⟩),
 (5,⟨(.int .u8),1,.int .u8⟩),
 (9,⟨.str,16,.str⟩),
 (22,⟨(.list .str),24,.slice 9⟩),
 (23,⟨(.list s0),24,.slice 180⟩),
 (25,⟨s1,48,.struct [(0,22),(1,23)]⟩),
 (26,⟨(.list s2),24,.slice 113⟩),
 (27,⟨(.list (.int .i64)),24,.slice 2⟩),
 (28,⟨(.list s7),24,.slice 141⟩),
 (29,⟨(.list s2),24,.slice 188⟩),
 (31,⟨s10,64,.struct [(0,2),(1,2),(2,28),(3,29)]⟩),
 (32,⟨(.list s12),24,.slice 91⟩),
 (34,⟨s16,184,.struct [(0,25),(2,26),(3,27),(4,31),(8,32)]⟩),
 (36,⟨(.list s0),24,.slice 146⟩),
 (38,⟨s1,48,.struct [(0,22),(1,36)]⟩),
 (39,⟨(.list s2),24,.slice 96⟩),
 (40,⟨(.list s7),24,.slice 182⟩),
 (41,⟨(.list s2),24,.slice 185⟩),
 (43,⟨s10,64,.struct [(0,2),(1,2),(2,40),(3,41)]⟩),
 (44,⟨(.list s12),24,.slice 102⟩),
 (46,⟨s16,184,.struct [(0,38),(2,39),(3,27),(4,43),(8,44)]⟩),
 (48,⟨s18,200,.struct [(0,2),(1,2),(2,46)]⟩),
 (62,⟨(.fn2 .bool .bool .bool),8,.ptr 46⟩),
 (89,⟨(.list (.list s7)),24,.slice 28⟩),
 (91,⟨s12,56,.struct [(0,2),(1,89),(2,29)]⟩),
 (96,⟨s2,24,.struct [(0,2),(1,2),(2,2)]⟩),
 (100,⟨(.list (.list s7)),24,.slice 40⟩),
 (102,⟨s12,56,.struct [(0,2),(1,100),(2,41)]⟩),
 (106,⟨s21,136,.struct [(0,2),(1,2),(2,102),(5,43)]⟩),
 (113,⟨s2,24,.struct [(0,2),(1,2),(2,2)]⟩),
 (122,⟨(.fn2 s12 s12 .bool),8,.func⟩),
 (127,⟨(.fn2 (.list s7) (.list s7) .bool),8,.func⟩),
 (135,⟨s0,16,.struct [(0,2),(1,2)]⟩),
 (137,⟨s3,40,.struct [(0,27),(1,2),(2,2)]⟩),
 (139,⟨s4,48,.struct [(0,2),(1,137)]⟩),
 (141,⟨s7,80,.struct [(0,135),(2,139),(6,2),(7,4)]⟩),
 (144,⟨(.fn1 (.int .i64) .bool .z),8,.func⟩),
 (146,⟨s0,16,.struct [(0,2),(1,2)]⟩),
 (151,⟨s24,48,.struct [(0,2),(1,2),(2,2),(3,27)]⟩),
 (153,⟨s25,56,.struct [(0,2),(1,151)]⟩),
 (166,⟨s0,16,.struct [(0,2),(1,2)]⟩),
 (167,⟨(.list s0),24,.slice 166⟩),
 (172,⟨s3,40,.struct [(0,27),(1,2),(2,2)]⟩),
 (174,⟨s4,48,.struct [(0,2),(1,172)]⟩),
 (176,⟨s26,32,.struct [(0,2),(1,40)]⟩),
 (178,⟨(.list s4),24,.slice 174⟩),
 (180,⟨s0,16,.struct [(0,2),(1,2)]⟩),
 (182,⟨s7,80,.struct [(0,166),(2,174),(6,2),(7,4)]⟩),
 (185,⟨s2,24,.struct [(0,2),(1,166)]⟩),
 (188,⟨s2,24,.struct [(0,2),(1,135)]⟩),
 (202,⟨(.fn2 s7 s7 .bool),8,.func⟩),
 (208,⟨s27,24,.struct [(0,2),(1,9)]⟩),
 (213,⟨(.fn1 s0 .bool .z),8,.func⟩),
 (216,⟨s30,64,.struct [(0,2),(1,2),(2,167),(3,178)]⟩),
 (218,⟨s31,72,.struct [(0,2),(1,216)]⟩),
 (222,⟨s0,16,.struct [(0,2),(1,2)]⟩),
 (229,⟨(.int .u64),8,.int .u64⟩),
 (244,⟨(.fn1 s2 .bool .z),8,.func⟩),
 (252,⟨(.list (.int .u8)),24,.slice 5⟩),
 (330,⟨(.fn1 s2 .bool .z),8,.func⟩),
 (336,⟨(.fn1 s7 .bool .z),8,.func⟩),
 (339,⟨(.fn2 s7 s7 (.int .i64)),8,.func⟩),
 (341,⟨(.fn2 s7 s0 (.int .i64)),8,.func⟩),
 (348,⟨(.int .u64),8,.int .u64⟩),
 (369,⟨(.fn2 s2 (.int .i64) (.int .i64)),8,.func⟩),
 (405,⟨(.list (.int .i64)),24,.slice 3⟩)]
def X0:Ctx:={ tys:=tys,fns:=[],frz:=[],lps:=[],jns:=[],rjs:=[] }
theorem QsL:QR Tryz.prog X0:=Qu9 ⟨tyN Tryz.type2 ⟨Tryz.underlying2,rfl⟩,
 tyN Tryz.type3 ⟨Tryz.underlying3,rfl⟩,
 tyN Tryz.type4 ⟨Tryz.underlying4,rfl⟩,
 tyN Tryz.type5 ⟨Tryz.underlying5,rfl⟩,
 tyN Tryz.type9 ⟨Tryz.underlying9,rfl⟩,
 tyN Tryz.type22 ⟨Tryz.underlying22,_,rfl,rfl⟩,
 tyN Tryz.type23 ⟨Tryz.underlying23,_,rfl,rfl⟩,
 ⟨⟨Tryz.t25,Tryz.type25,rfl,by decide,by decide,rfl⟩,⟨⟨_,Tryz.underlying25,rfl,by simp⟩,⟨_,_,rfl,rfl,⟨_,rfl,rfl⟩,⟨rfl,_,rfl,rfl⟩⟩,by decide,Tryz.eqGuardType25,Tryz.stoodInHeld25⟩⟩,
 tyN Tryz.type26 ⟨Tryz.underlying26,_,rfl,rfl⟩,
 tyN Tryz.type27 ⟨Tryz.underlying27,_,rfl,rfl⟩,
 tyN Tryz.type28 ⟨Tryz.underlying28,_,rfl,rfl⟩,
 tyN Tryz.type29 ⟨Tryz.underlying29,_,rfl,rfl⟩,
 ⟨⟨Tryz.t31,Tryz.type31,rfl,by decide,by decide,rfl⟩,⟨⟨_,Tryz.underlying31,rfl,by simp⟩,⟨_,_,rfl,rfl,⟨_,rfl,rfl⟩,⟨_,_,rfl,rfl,⟨_,rfl,rfl⟩,⟨_,_,rfl,rfl,⟨_,rfl,rfl⟩,⟨rfl,_,rfl,rfl⟩⟩⟩⟩,by decide,Tryz.eqGuardType31,Tryz.stoodInHeld31⟩⟩,
 tyN Tryz.type32 ⟨Tryz.underlying32,_,rfl,rfl⟩,
 ⟨⟨Tryz.t34,Tryz.type34,rfl,by decide,by decide,rfl⟩,⟨⟨_,Tryz.underlying34,rfl,by simp⟩,⟨_,_,rfl,rfl,⟨_,rfl,rfl⟩,⟨_,_,rfl,rfl,⟨_,rfl,rfl⟩,⟨_,_,rfl,rfl,⟨_,rfl,rfl⟩,⟨_,_,rfl,rfl,⟨_,rfl,rfl⟩,⟨rfl,_,rfl,rfl⟩⟩⟩⟩⟩,by decide,Tryz.eqGuardType34,Tryz.stoodInHeld34⟩⟩,
 tyN Tryz.type36 ⟨Tryz.underlying36,_,rfl,rfl⟩,
 ⟨⟨Tryz.t38,Tryz.type38,rfl,by decide,by decide,rfl⟩,⟨⟨_,Tryz.underlying38,rfl,by simp⟩,⟨_,_,rfl,rfl,⟨_,rfl,rfl⟩,⟨rfl,_,rfl,rfl⟩⟩,by decide,Tryz.eqGuardType38,Tryz.stoodInHeld38⟩⟩,
 tyN Tryz.type39 ⟨Tryz.underlying39,_,rfl,rfl⟩,
 tyN Tryz.type40 ⟨Tryz.underlying40,_,rfl,rfl⟩,
 tyN Tryz.type41 ⟨Tryz.underlying41,_,rfl,rfl⟩,
 ⟨⟨Tryz.t43,Tryz.type43,rfl,by decide,by decide,rfl⟩,⟨⟨_,Tryz.underlying43,rfl,by simp⟩,⟨_,_,rfl,rfl,⟨_,rfl,rfl⟩,⟨_,_,rfl,rfl,⟨_,rfl,rfl⟩,⟨_,_,rfl,rfl,⟨_,rfl,rfl⟩,⟨rfl,_,rfl,rfl⟩⟩⟩⟩,by decide,Tryz.eqGuardType43,Tryz.stoodInHeld43⟩⟩,
 tyN Tryz.type44 ⟨Tryz.underlying44,_,rfl,rfl⟩,
 ⟨⟨Tryz.t46,Tryz.type46,rfl,by decide,by decide,rfl⟩,⟨⟨_,Tryz.underlying46,rfl,by simp⟩,⟨_,_,rfl,rfl,⟨_,rfl,rfl⟩,⟨_,_,rfl,rfl,⟨_,rfl,rfl⟩,⟨_,_,rfl,rfl,⟨_,rfl,rfl⟩,⟨_,_,rfl,rfl,⟨_,rfl,rfl⟩,⟨rfl,_,rfl,rfl⟩⟩⟩⟩⟩,by decide,Tryz.eqGuardType46,Tryz.stoodInHeld46⟩⟩,
 ⟨⟨Tryz.t48,Tryz.type48,rfl,by decide,by decide,rfl⟩,⟨⟨_,Tryz.underlying48,rfl,by simp⟩,⟨_,_,rfl,rfl,⟨_,rfl,rfl⟩,⟨_,_,rfl,rfl,⟨_,rfl,rfl⟩,⟨rfl,_,rfl,rfl⟩⟩⟩,by decide,Tryz.eqGuardType48,Tryz.stoodInHeld48⟩⟩,
 ⟨⟨Tryz.t62,Tryz.type62,rfl,by decide,by decide,trivial⟩,⟨Tryz.underlying62,rfl⟩⟩,
 tyN Tryz.type89 ⟨Tryz.underlying89,_,rfl,rfl⟩,
 ⟨⟨Tryz.t91,Tryz.type91,rfl,by decide,by decide,rfl⟩,⟨⟨_,Tryz.underlying91,rfl,by simp⟩,⟨_,_,rfl,rfl,⟨_,rfl,rfl⟩,⟨_,_,rfl,rfl,⟨_,rfl,rfl⟩,⟨rfl,_,rfl,rfl⟩⟩⟩,by decide,Tryz.eqGuardType91,Tryz.stoodInHeld91⟩⟩,
 ⟨⟨Tryz.t96,Tryz.type96,rfl,by decide,by decide,rfl⟩,⟨⟨_,Tryz.underlying96,rfl,by simp⟩,⟨_,_,rfl,rfl,⟨_,rfl,rfl⟩,⟨_,_,rfl,rfl,⟨_,rfl,rfl⟩,⟨rfl,_,rfl,rfl⟩⟩⟩,by decide,Tryz.eqGuardType96,Tryz.stoodInHeld96⟩⟩,
 tyN Tryz.type100 ⟨Tryz.underlying100,_,rfl,rfl⟩,
 ⟨⟨Tryz.t102,Tryz.type102,rfl,by decide,by decide,rfl⟩,⟨⟨_,Tryz.underlying102,rfl,by simp⟩,⟨_,_,rfl,rfl,⟨_,rfl,rfl⟩,⟨_,_,rfl,rfl,⟨_,rfl,rfl⟩,⟨rfl,_,rfl,rfl⟩⟩⟩,by decide,Tryz.eqGuardType102,Tryz.stoodInHeld102⟩⟩,
 ⟨⟨Tryz.t106,Tryz.type106,rfl,by decide,by decide,rfl⟩,⟨⟨_,Tryz.underlying106,rfl,by simp⟩,⟨_,_,rfl,rfl,⟨_,rfl,rfl⟩,⟨_,_,rfl,rfl,⟨_,rfl,rfl⟩,⟨_,_,rfl,rfl,⟨_,rfl,rfl⟩,⟨rfl,_,rfl,rfl⟩⟩⟩⟩,by decide,Tryz.eqGuardType106,Tryz.stoodInHeld106⟩⟩,
 ⟨⟨Tryz.t113,Tryz.type113,rfl,by decide,by decide,rfl⟩,⟨⟨_,Tryz.underlying113,rfl,by simp⟩,⟨_,_,rfl,rfl,⟨_,rfl,rfl⟩,⟨_,_,rfl,rfl,⟨_,rfl,rfl⟩,⟨rfl,_,rfl,rfl⟩⟩⟩,by decide,Tryz.eqGuardType113,Tryz.stoodInHeld113⟩⟩,
 ⟨⟨Tryz.t122,Tryz.type122,rfl,by decide,by decide,trivial⟩,⟨⟨_,_,_,Tryz.underlying122⟩,.inr ⟨_,_,_,rfl⟩⟩⟩,
 ⟨⟨Tryz.t127,Tryz.type127,rfl,by decide,by decide,trivial⟩,⟨⟨_,_,_,Tryz.underlying127⟩,.inr ⟨_,_,_,rfl⟩⟩⟩,
 ⟨⟨Tryz.t135,Tryz.type135,rfl,by decide,by decide,rfl⟩,⟨⟨_,Tryz.underlying135,rfl,by simp⟩,⟨_,_,rfl,rfl,⟨_,rfl,rfl⟩,⟨rfl,_,rfl,rfl⟩⟩,by decide,Tryz.eqGuardType135,Tryz.stoodInHeld135⟩⟩,
 ⟨⟨Tryz.t137,Tryz.type137,rfl,by decide,by decide,rfl⟩,⟨⟨_,Tryz.underlying137,rfl,by simp⟩,⟨_,_,rfl,rfl,⟨_,rfl,rfl⟩,⟨_,_,rfl,rfl,⟨_,rfl,rfl⟩,⟨rfl,_,rfl,rfl⟩⟩⟩,by decide,Tryz.eqGuardType137,Tryz.stoodInHeld137⟩⟩,
 ⟨⟨Tryz.t139,Tryz.type139,rfl,by decide,by decide,rfl⟩,⟨⟨_,Tryz.underlying139,rfl,by simp⟩,⟨_,_,rfl,rfl,⟨_,rfl,rfl⟩,⟨rfl,_,rfl,rfl⟩⟩,by decide,Tryz.eqGuardType139,Tryz.stoodInHeld139⟩⟩,
 ⟨⟨Tryz.t141,Tryz.type141,rfl,by decide,by decide,rfl⟩,⟨⟨_,Tryz.underlying141,rfl,by simp⟩,⟨_,_,rfl,rfl,⟨_,rfl,rfl⟩,⟨_,_,rfl,rfl,⟨_,rfl,rfl⟩,⟨_,_,rfl,rfl,⟨_,rfl,rfl⟩,⟨rfl,_,rfl,rfl⟩⟩⟩⟩,by decide,Tryz.eqGuardType141,Tryz.stoodInHeld141⟩⟩,
 ⟨⟨Tryz.t144,Tryz.type144,rfl,by decide,by decide,trivial⟩,⟨⟨_,_,_,Tryz.underlying144⟩,.inl ⟨_,_,_,rfl⟩⟩⟩,
 ⟨⟨Tryz.t146,Tryz.type146,rfl,by decide,by decide,rfl⟩,⟨⟨_,Tryz.underlying146,rfl,by simp⟩,⟨_,_,rfl,rfl,⟨_,rfl,rfl⟩,⟨rfl,_,rfl,rfl⟩⟩,by decide,Tryz.eqGuardType146,Tryz.stoodInHeld146⟩⟩,
 ⟨⟨Tryz.t151,Tryz.type151,rfl,by decide,by decide,rfl⟩,⟨⟨_,Tryz.underlying151,rfl,by simp⟩,⟨_,_,rfl,rfl,⟨_,rfl,rfl⟩,⟨_,_,rfl,rfl,⟨_,rfl,rfl⟩,⟨_,_,rfl,rfl,⟨_,rfl,rfl⟩,⟨rfl,_,rfl,rfl⟩⟩⟩⟩,by decide,Tryz.eqGuardType151,Tryz.stoodInHeld151⟩⟩,
 ⟨⟨Tryz.t153,Tryz.type153,rfl,by decide,by decide,rfl⟩,⟨⟨_,Tryz.underlying153,rfl,by simp⟩,⟨_,_,rfl,rfl,⟨_,rfl,rfl⟩,⟨rfl,_,rfl,rfl⟩⟩,by decide,Tryz.eqGuardType153,Tryz.stoodInHeld153⟩⟩,
 ⟨⟨Tryz.t166,Tryz.type166,rfl,by decide,by decide,rfl⟩,⟨⟨_,Tryz.underlying166,rfl,by simp⟩,⟨_,_,rfl,rfl,⟨_,rfl,rfl⟩,⟨rfl,_,rfl,rfl⟩⟩,by decide,Tryz.eqGuardType166,Tryz.stoodInHeld166⟩⟩,
 tyN Tryz.type167 ⟨Tryz.underlying167,_,rfl,rfl⟩,
 ⟨⟨Tryz.t172,Tryz.type172,rfl,by decide,by decide,rfl⟩,⟨⟨_,Tryz.underlying172,rfl,by simp⟩,⟨_,_,rfl,rfl,⟨_,rfl,rfl⟩,⟨_,_,rfl,rfl,⟨_,rfl,rfl⟩,⟨rfl,_,rfl,rfl⟩⟩⟩,by decide,Tryz.eqGuardType172,Tryz.stoodInHeld172⟩⟩,
 ⟨⟨Tryz.t174,Tryz.type174,rfl,by decide,by decide,rfl⟩,⟨⟨_,Tryz.underlying174,rfl,by simp⟩,⟨_,_,rfl,rfl,⟨_,rfl,rfl⟩,⟨rfl,_,rfl,rfl⟩⟩,by decide,Tryz.eqGuardType174,Tryz.stoodInHeld174⟩⟩,
 ⟨⟨Tryz.t176,Tryz.type176,rfl,by decide,by decide,rfl⟩,⟨⟨_,Tryz.underlying176,rfl,by simp⟩,⟨_,_,rfl,rfl,⟨_,rfl,rfl⟩,⟨rfl,_,rfl,rfl⟩⟩,by decide,Tryz.eqGuardType176,Tryz.stoodInHeld176⟩⟩,
 tyN Tryz.type178 ⟨Tryz.underlying178,_,rfl,rfl⟩,
 ⟨⟨Tryz.t180,Tryz.type180,rfl,by decide,by decide,rfl⟩,⟨⟨_,Tryz.underlying180,rfl,by simp⟩,⟨_,_,rfl,rfl,⟨_,rfl,rfl⟩,⟨rfl,_,rfl,rfl⟩⟩,by decide,Tryz.eqGuardType180,Tryz.stoodInHeld180⟩⟩,
 ⟨⟨Tryz.t182,Tryz.type182,rfl,by decide,by decide,rfl⟩,⟨⟨_,Tryz.underlying182,rfl,by simp⟩,⟨_,_,rfl,rfl,⟨_,rfl,rfl⟩,⟨_,_,rfl,rfl,⟨_,rfl,rfl⟩,⟨_,_,rfl,rfl,⟨_,rfl,rfl⟩,⟨rfl,_,rfl,rfl⟩⟩⟩⟩,by decide,Tryz.eqGuardType182,Tryz.stoodInHeld182⟩⟩,
 ⟨⟨Tryz.t185,Tryz.type185,rfl,by decide,by decide,rfl⟩,⟨⟨_,Tryz.underlying185,rfl,by simp⟩,⟨_,_,rfl,rfl,⟨_,rfl,rfl⟩,⟨rfl,_,rfl,rfl⟩⟩,by decide,Tryz.eqGuardType185,Tryz.stoodInHeld185⟩⟩,
 ⟨⟨Tryz.t188,Tryz.type188,rfl,by decide,by decide,rfl⟩,⟨⟨_,Tryz.underlying188,rfl,by simp⟩,⟨_,_,rfl,rfl,⟨_,rfl,rfl⟩,⟨rfl,_,rfl,rfl⟩⟩,by decide,Tryz.eqGuardType188,Tryz.stoodInHeld188⟩⟩,
 ⟨⟨Tryz.t202,Tryz.type202,rfl,by decide,by decide,trivial⟩,⟨⟨_,_,_,Tryz.underlying202⟩,.inr ⟨_,_,_,rfl⟩⟩⟩,
 ⟨⟨Tryz.t208,Tryz.type208,rfl,by decide,by decide,rfl⟩,⟨⟨_,Tryz.underlying208,rfl,by simp⟩,⟨_,_,rfl,rfl,⟨_,rfl,rfl⟩,⟨rfl,_,rfl,rfl⟩⟩,by decide,Tryz.eqGuardType208,Tryz.stoodInHeld208⟩⟩,
 ⟨⟨Tryz.t213,Tryz.type213,rfl,by decide,by decide,trivial⟩,⟨⟨_,_,_,Tryz.underlying213⟩,.inl ⟨_,_,_,rfl⟩⟩⟩,
 ⟨⟨Tryz.t216,Tryz.type216,rfl,by decide,by decide,rfl⟩,⟨⟨_,Tryz.underlying216,rfl,by simp⟩,⟨_,_,rfl,rfl,⟨_,rfl,rfl⟩,⟨_,_,rfl,rfl,⟨_,rfl,rfl⟩,⟨_,_,rfl,rfl,⟨_,rfl,rfl⟩,⟨rfl,_,rfl,rfl⟩⟩⟩⟩,by decide,Tryz.eqGuardType216,Tryz.stoodInHeld216⟩⟩,
 ⟨⟨Tryz.t218,Tryz.type218,rfl,by decide,by decide,rfl⟩,⟨⟨_,Tryz.underlying218,rfl,by simp⟩,⟨_,_,rfl,rfl,⟨_,rfl,rfl⟩,⟨rfl,_,rfl,rfl⟩⟩,by decide,Tryz.eqGuardType218,Tryz.stoodInHeld218⟩⟩,
 ⟨⟨Tryz.t222,Tryz.type222,rfl,by decide,by decide,rfl⟩,⟨⟨_,Tryz.underlying222,rfl,by simp⟩,⟨_,_,rfl,rfl,⟨_,rfl,rfl⟩,⟨rfl,_,rfl,rfl⟩⟩,by decide,Tryz.eqGuardType222,Tryz.stoodInHeld222⟩⟩,
 tyN Tryz.type229 ⟨Tryz.underlying229,rfl⟩,
 ⟨⟨Tryz.t244,Tryz.type244,rfl,by decide,by decide,trivial⟩,⟨⟨_,_,_,Tryz.underlying244⟩,.inl ⟨_,_,_,rfl⟩⟩⟩,
 tyN Tryz.type252 ⟨Tryz.underlying252,_,rfl,rfl⟩,
 ⟨⟨Tryz.t330,Tryz.type330,rfl,by decide,by decide,trivial⟩,⟨⟨_,_,_,Tryz.underlying330⟩,.inl ⟨_,_,_,rfl⟩⟩⟩,
 ⟨⟨Tryz.t336,Tryz.type336,rfl,by decide,by decide,trivial⟩,⟨⟨_,_,_,Tryz.underlying336⟩,.inl ⟨_,_,_,rfl⟩⟩⟩,
 ⟨⟨Tryz.t339,Tryz.type339,rfl,by decide,by decide,trivial⟩,⟨⟨_,_,_,Tryz.underlying339⟩,.inr ⟨_,_,_,rfl⟩⟩⟩,
 ⟨⟨Tryz.t341,Tryz.type341,rfl,by decide,by decide,trivial⟩,⟨⟨_,_,_,Tryz.underlying341⟩,.inr ⟨_,_,_,rfl⟩⟩⟩,
 tyN Tryz.type348 ⟨Tryz.underlying348,rfl⟩,
 ⟨⟨Tryz.t369,Tryz.type369,rfl,by decide,by decide,trivial⟩,⟨⟨_,_,_,Tryz.underlying369⟩,.inr ⟨_,_,_,rfl⟩⟩⟩,
 tyN Tryz.type405 ⟨Tryz.underlying405,_,rfl,rfl⟩,
 trivial⟩
theorem follows:Tryz.prog.follows .mixedOrders=true:=by kernel_rfl
end GL
end Go.Dx
set_option maxRecDepth 100000
set_option maxHeartbeats 0
namespace Go.Dx
open Go.Proofs
namespace GL
open IntKind Sum
abbrev t0 : Type := Int × List Int
abbrev t1 : Type := Int × t0
abbrev t2 : Type := Int × t1
abbrev t3 : Type := Int × List UInt8
abbrev t4 : Type := Int × t2
abbrev t5 : Type := Int × Int
abbrev t6 : Type := List Int × t5
abbrev t7 : Type := Int × t6
abbrev t8 : Type := Int × Bool
abbrev t9 : Type := t7 × t8
abbrev t10 : Type := t5 × t9
abbrev t11 : Type := Int × t5
abbrev t12 : Type := List t5 × List t7
abbrev t13 : Type := Int × t12
abbrev t14 : Type := Int × t13
abbrev t15 : Type := Int × t14
abbrev t16 : Type := Int × List t10
abbrev t17 : Type := List (List t10) × List t11
abbrev t18 : Type := Int × t17
abbrev t19 : Type := List t10 × List t11
abbrev t20 : Type := Int × t19
abbrev t21 : Type := Int × t20
abbrev t22 : Type := t18 × t21
abbrev t23 : Type := Int × t22
abbrev t24 : Type := Int × t23
abbrev t25 : Type := List (List UInt8) × List t5
abbrev t26 : Type := t21 × List t18
abbrev t27 : Type := List Int × t26
abbrev t28 : Type := List t11 × t27
abbrev t29 : Type := t25 × t28
abbrev t30 : Type := Int × t29
abbrev t31 : Type := Int × t30
def Qcs (I:List (List UInt8)) (x1:Int):Option (Int):=
 bif (decide (wrap .i64 (x1 - I.length)<0)) then
 some (-1)
 else
 (Qc (S:=Int×Int) (X:=(Int)⊕(Int)) (fun s5=>
 bif (decide (s5.2<I.length)) then
 bif (inB s5.2 I) then
 bif (decide (wrap .i64 (s5.1 - (I.getD s5.2.toNat []).length)<0)) then
 some (inr (inr (-1)))
 else
 some (inl (wrap .i64 (s5.1 - (I.getD s5.2.toNat []).length),wrap .i64 (s5.2+1)))
 else none
 else
 some (inr (inl s5.1))) (wrap .i64 (x1 - I.length),0)).bind fun J=>
 Sum.elim (fun (U:Int)=>
 some U) (fun (j8:Int)=>
 some j8) J
def Qcc (I:List t5) (x1:Int):Option (Int):=
 bif (decide (wrap .i64 (x1 - I.length)<0)) then
 some (-1)
 else
 some (wrap .i64 (x1 - I.length))
def Qdn (I:t25) (x1:Int):Option (Int):=
 (Qcs I.1 x1).bind fun J=>
 bif (decide (J<0)) then
 some (-1)
 else
 (Qcc I.2 J).bind fun U=>
 bif (decide (U<0)) then
 some (-1)
 else
 some U
def Qb3 (I:List t11) (x1:Int):Option (Int):=
 bif (decide (wrap .i64 (x1 - I.length)<0)) then
 some (-1)
 else
 some (wrap .i64 (x1 - I.length))
def Y1 (I:List Int) (x1:Int):Option (Int):=
 bif (decide (wrap .i64 (x1 - I.length)<0)) then
 some (-1)
 else
 some (wrap .i64 (x1 - I.length))
def QeR (J:t6) (x1:Int):Option (Int):=
 (Y1 J.1 x1).bind fun I=>
 bif (decide (I<0)) then
 some (-1)
 else
 some I
def QfP (J:t7) (x1:Int):Option (Int):=
 (QeR J.2 x1).bind fun I=>
 bif (decide (I<0)) then
 some (-1)
 else
 some I
def QeS (J:t10) (x1:Int):Option (Int):=
 (QfP J.2.1 x1).bind fun I=>
 bif (decide (I<0)) then
 some (-1)
 else
 some I
def QbV (I:List t10) (x1:Int):Option (Int):=
 bif (decide (wrap .i64 (x1 - I.length)<0)) then
 some (-1)
 else
 (Qc (S:=Int×Int) (X:=(Int)⊕(Int)) (fun s10=>
 bif (decide (s10.2<I.length)) then
 bif (inB s10.2 I) then
 (QeS (I.getD s10.2.toNat ((0,0),((0,([],(0,0))),(0,false)))) s10.1).bind fun J=>
 bif (decide (J<0)) then
 some (inr (inr (-1)))
 else
 some (inl (J,wrap .i64 (s10.2+1)))
 else none
 else
 some (inr (inl s10.1))) (wrap .i64 (x1 - I.length),0)).bind fun U=>
 Sum.elim (fun (j13:Int)=>
 some j13) (fun (j14:Int)=>
 some j14) U
def Yx (I:List t11) (x1:Int):Option (Int):=
 bif (decide (wrap .i64 (x1 - I.length)<0)) then
 some (-1)
 else
 some (wrap .i64 (x1 - I.length))
def Ju (I:t21) (x1:Int):Option (Int):=
 (QbV I.2.2.1 x1).bind fun J=>
 bif (decide (J<0)) then
 some (-1)
 else
 (Yx I.2.2.2 J).bind fun U=>
 bif (decide (U<0)) then
 some (-1)
 else
 some U
def Qc5 (I:List (List t10)) (x1:Int):Option (Int):=
 bif (decide (wrap .i64 (x1 - I.length)<0)) then
 some (-1)
 else
 (Qc (S:=Int×Int) (X:=(Int)⊕(Int)) (fun s10=>
 bif (decide (s10.2<I.length)) then
 bif (inB s10.2 I) then
 (QbV (I.getD s10.2.toNat []) s10.1).bind fun J=>
 bif (decide (J<0)) then
 some (inr (inr (-1)))
 else
 some (inl (J,wrap .i64 (s10.2+1)))
 else none
 else
 some (inr (inl s10.1))) (wrap .i64 (x1 - I.length),0)).bind fun U=>
 Sum.elim (fun (j13:Int)=>
 some j13) (fun (j14:Int)=>
 some j14) U
def QeH (I:t18) (x1:Int):Option (Int):=
 (Qc5 I.2.1 x1).bind fun J=>
 bif (decide (J<0)) then
 some (-1)
 else
 (Yx I.2.2 J).bind fun U=>
 bif (decide (U<0)) then
 some (-1)
 else
 some U
def YF (I:List t18) (x1:Int):Option (Int):=
 bif (decide (wrap .i64 (x1 - I.length)<0)) then
 some (-1)
 else
 (Qc (S:=Int×Int) (X:=(Int)⊕(Int)) (fun s10=>
 bif (decide (s10.2<I.length)) then
 bif (inB s10.2 I) then
 (QeH (I.getD s10.2.toNat (0,([],[]))) s10.1).bind fun J=>
 bif (decide (J<0)) then
 some (inr (inr (-1)))
 else
 some (inl (J,wrap .i64 (s10.2+1)))
 else none
 else
 some (inr (inl s10.1))) (wrap .i64 (x1 - I.length),0)).bind fun U=>
 Sum.elim (fun (j13:Int)=>
 some j13) (fun (j14:Int)=>
 some j14) U
def Qd7 (I:t29) (x1:Int):Option (Int):=
 (Qdn I.1 x1).bind fun U=>
 bif (decide (U<0)) then
 some (-1)
 else
 (Qb3 I.2.1 U).bind fun y7=>
 bif (decide (y7<0)) then
 some (-1)
 else
 (Y1 I.2.2.1 y7).bind fun y8=>
 bif (decide (y8<0)) then
 some (-1)
 else
 (Ju I.2.2.2.1 y8).bind fun y9=>
 bif (decide (y9<0)) then
 some (-1)
 else
 (YF I.2.2.2.2 y9).bind fun J=>
 bif (decide (J<0)) then
 some (-1)
 else
 some J
def Qew (I:List (List UInt8)) (x1:List UInt8):Option (Int):=
 (Qc (S:=Int) (X:=(Unit)⊕(Int)) (fun s5=>
 bif (decide (s5<I.length)) then
 bif (inB s5 I) then
 bif (decide ((I.getD s5.toNat []:List UInt8)=x1)) then
 some (inr (inr (wrap .i64 (s5+1))))
 else
 some (inl (wrap .i64 (s5+1)))
 else none
 else
 some (inr (inl ()))) 0).bind fun J=>
 Sum.elim (fun (j7:Unit)=>
 some 0) (fun (U:Int)=>
 some U) J
def QJ (I:Int) (x1:Int) (x2:Int):Option (Bool):=
 (bif (decide (x1<=I)) then
 some (decide (I<=x2))
 else
 some false:Option (Bool)).bind fun J=>
 some J
def JJ (I:Int):Option (Bool):=
 (QJ I 1 999).bind fun J=>
 some J
def Qa7 (I:List t5) (x1:t5):Option (Bool):=
 (Qc (S:=Int) (X:=(Unit)⊕(Bool)) (fun s5=>
 bif (decide (s5<I.length)) then
 bif (inB s5 I) then
 bif (Sh.beq (.prod (.int .i64) (.int .i64)) (I.getD s5.toNat (0,0)) x1) then
 some (inr (inr true))
 else
 some (inl (wrap .i64 (s5+1)))
 else none
 else
 some (inr (inl ()))) 0).bind fun J=>
 Sum.elim (fun (j7:Unit)=>
 some false) (fun (U:Bool)=>
 some U) J
def YC (I:t25):Option (Int):=
 (bif (decide (60<(I.1.length:Int))) then
 some true
 else
 some (decide (120<(I.2.length:Int))):Option (Bool)).bind fun j34=>
 bif j34 then
 some 2
 else
 (Qc (S:=Int) (X:=(Unit)⊕(Int)) (fun J=>
 bif (decide (J<I.1.length)) then
 (bif (inB J I.1) then
 bif (decide (((I.1.getD J.toNat []).length:Int)<1)) then
 some true
 else
 bif (inB J I.1) then
 some (decide (300<((I.1.getD J.toNat []).length:Int)))
 else none
 else none:Option (Bool)).bind fun j40=>
 bif j40 then
 some (inr (inr 2))
 else
 bif (QA 0 J I.1) then
 bif (inB J I.1) then
 (Qew (cut 0 J I.1) (I.1.getD J.toNat [])).bind fun y41=>
 bif (decide (0<y41)) then
 some (inr (inr 7))
 else
 some (inl (wrap .i64 (J+1)))
 else none
 else none
 else
 some (inr (inl ()))) 0).bind fun j42=>
 Sum.elim (fun (j43:Unit)=>
 (Qc (S:=Int) (X:=(Unit)⊕(Int)) (fun U=>
 bif (decide (U<I.2.length)) then
 (bif (inB U I.2) then
 (JJ (I.2.getD U.toNat (0,0)).1).bind fun y60=>
 bif (!y60) then
 some true
 else
 bif (inB U I.2) then
 (QJ (I.2.getD U.toNat (0,0)).2 1 (I.1.length:Int)).bind fun y61=>
 some (!y61)
 else none
 else none:Option (Bool)).bind fun j62=>
 bif j62 then
 some (inr (inr 3))
 else
 bif (QA 0 U I.2) then
 bif (inB U I.2) then
 (Qa7 (cut 0 U I.2) (I.2.getD U.toNat (0,0))).bind fun y63=>
 bif y63 then
 some (inr (inr 7))
 else
 some (inl (wrap .i64 (U+1)))
 else none
 else none
 else
 some (inr (inl ()))) 0).bind fun j64=>
 Sum.elim (fun (j65:Unit)=>
 some 0) (fun (j66:Int)=>
 some j66) j64) (fun (j44:Int)=>
 some j44) j42
def YN (I:List t11) (x1:Int):Option (Int):=
 (Qc (S:=Int) (X:=(Unit)⊕(Int)) (fun s5=>
 bif (decide (s5<I.length)) then
 bif (inB s5 I) then
 bif (decide ((I.getD s5.toNat (0,(0,0))).1=x1)) then
 some (inr (inr s5))
 else
 some (inl (wrap .i64 (s5+1)))
 else none
 else
 some (inr (inl ()))) 0).bind fun J=>
 Sum.elim (fun (j7:Unit)=>
 some (-1)) (fun (U:Int)=>
 some U) J
def QeZ (J:List t11) (x1:t11):Option (Int):=
 ((QJ x1.1 1 60).bind fun U=>
 bif (!U) then
 some true
 else
 (QJ x1.2.2 1 40).bind fun y15=>
 some (!y15):Option (Bool)).bind fun j16=>
 bif j16 then
 some 3
 else
 (YN J x1.1).bind fun y17=>
 bif (decide (0<=y17)) then
 some 7
 else
 (bif (!decide (x1.2.1=0)) then
 (YN J x1.2.1).bind fun I=>
 bif (decide (I<0)) then
 some (inr 4)
 else
 bif (inB I J) then
 some (inl (J.getD I.toNat (0,(0,0))).2.2)
 else none
 else
 some (inl 0):Option ((Int)⊕(Int))).bind fun j20=>
 Sum.elim (fun (j21:Int)=>
 bif (!decide (x1.2.2=wrap .i64 (j21+1))) then
 some 1
 else
 some 0) (fun (j22:Int)=>
 some j22) j20
def QdT (I:List t11):Option (Int):=
 bif (decide (60<(I.length:Int))) then
 some 2
 else
 (Qc (S:=Int) (X:=(Unit)⊕(Int)) (fun s10=>
 bif (decide (s10<I.length)) then
 bif (QA 0 s10 I) then
 bif (inB s10 I) then
 (QeZ (cut 0 s10 I) (I.getD s10.toNat (0,(0,0)))).bind fun J=>
 bif (!decide (J=0)) then
 some (inr (inr J))
 else
 some (inl (wrap .i64 (s10+1)))
 else none
 else none
 else
 some (inr (inl ()))) 0).bind fun U=>
 Sum.elim (fun (j13:Unit)=>
 some 0) (fun (j14:Int)=>
 some j14) U
def QaX (I:List t11) (x1:Int):Option (List Int):=
 (Qc (S:=Int×List Int) (X:=List Int) (fun s8=>
 bif (!decide (s8.1=0)) then
 bif decide (([s8.1]:List Int).length+s8.2.length<=LIM) then
 (YN I s8.1).bind fun U=>
 bif (inB U I) then
 some (inl ((I.getD U.toNat (0,(0,0))).2.1,([s8.1]:List Int).append s8.2))
 else none
 else none
 else
 some (inr s8.2)) (x1,([]:List Int))).bind fun J=>
 some J
def Qgp (I:t25) (x1:Int):Option (Bool):=
 (QJ x1 1 (I.1.length:Int)).bind fun J=>
 some J
def QcG (I:t25) (x1:Int):Option (t3):=
 (YC I).bind fun J=>
 bif (!decide (J=0)) then
 some (J,[])
 else
 (Qgp I x1).bind fun U=>
 bif (!U) then
 some (3,[])
 else
 bif (inB (wrap .i64 (x1 - 1)) I.1) then
 some (0,I.1.getD (wrap .i64 (x1 - 1)).toNat [])
 else none
def Z8 (I:List UInt8) (x1:Int):Option (List (List UInt8)):=
 (Qc (S:=List (List UInt8)×Int×Int) (X:=List (List UInt8)) (fun s13=>
 bif (decide (s13.2.2<=I.length)) then
 (bif (decide (s13.2.2=I.length)) then
 some true
 else
 bif (inB s13.2.2 I) then
 some (decide (((I.getD s13.2.2.toNat 0).toNat:Int)=x1))
 else none:Option (Bool)).bind fun U=>
 (bif U then
 bif (QA s13.2.1 s13.2.2 I) then
 bif decide (s13.1.length+([cut s13.2.1 s13.2.2 I]:List (List UInt8)).length<=LIM) then
 some (s13.1.append ([cut s13.2.1 s13.2.2 I]:List (List UInt8)),wrap .i64 (s13.2.2+1))
 else none
 else none
 else
 some (s13.1,s13.2.1):Option (List (List UInt8)×Int)).bind fun J=>
 some (inl (J.1,(J.2,wrap .i64 (s13.2.2+1))))
 else
 some (inr s13.1)) (([]:List (List UInt8)),(0,0))).bind fun j16=>
 some j16
def Qr (I:List UInt8) (x1:Int):Option (Int×Bool):=
 (bif (decide ((I.length:Int)<1)) then
 some true
 else
 bif (decide (x1<I.length)) then
 some true
 else
 bif (decide (1<(I.length:Int))) then
 bif (inB 0 I) then
 some (decide (((I.getD (Int.toNat 0) 0).toNat:Int)=48))
 else none
 else
 some false:Option (Bool)).bind fun j9=>
 bif j9 then
 some (0,false)
 else
 (Qc (S:=Int×Int) (X:=(Int)⊕(Int×Bool)) (fun s12=>
 bif (decide (s12.2<I.length)) then
 (bif (inB s12.2 I) then
 bif (decide (((I.getD s12.2.toNat 0).toNat:Int)<48)) then
 some true
 else
 bif (inB s12.2 I) then
 some (decide (57<((I.getD s12.2.toNat 0).toNat:Int)))
 else none
 else none:Option (Bool)).bind fun U=>
 bif U then
 some (inr (inr (0,false)))
 else
 bif (inB s12.2 I) then
 some (inl (wrap .i64 ((wrap .i64 (s12.1 * 10))+(wrap .i64 (wrap .u8 (((I.getD s12.2.toNat 0).toNat:Int) - 48)))),wrap .i64 (s12.2+1)))
 else none
 else
 some (inr (inl s12.1))) (0,0)).bind fun j14=>
 Sum.elim (fun (j15:Int)=>
 some (j15,true)) (fun (J:Int×Bool)=>
 some (J.1,J.2)) j14
def ZL (I:List Int) (x1:Int):Option (Bool):=
 (Qc (S:=Int) (X:=(Unit)⊕(Bool)) (fun s5=>
 bif (decide (s5<I.length)) then
 bif (inB s5 I) then
 bif (decide (I.getD s5.toNat 0=x1)) then
 some (inr (inr true))
 else
 some (inl (wrap .i64 (s5+1)))
 else none
 else
 some (inr (inl ()))) 0).bind fun J=>
 Sum.elim (fun (j7:Unit)=>
 some false) (fun (U:Bool)=>
 some U) J
def QdY (I:t2):Option (Int):=
 ((QJ I.1 0 60).bind fun J=>
 bif (!J) then
 some true
 else
 (QJ I.2.1 1 40).bind fun U=>
 bif (!U) then
 some true
 else
 (JJ I.2.2.1).bind fun y23=>
 some (!y23):Option (Bool)).bind fun j24=>
 bif j24 then
 some 3
 else
 bif (!(Sh.beq .bool (decide (I.1=0)) (decide (I.2.1=1)))) then
 some 1
 else
 bif (decide (6<(I.2.2.2.length:Int))) then
 some 2
 else
 (Qc (S:=Int) (X:=(Unit)⊕(Int)) (fun s29=>
 bif (decide (s29<I.2.2.2.length)) then
 bif (inB s29 I.2.2.2) then
 (QJ (I.2.2.2.getD s29.toNat 0) 1 60).bind fun y30=>
 bif (!y30) then
 some (inr (inr 3))
 else
 bif (QA 0 s29 I.2.2.2) then
 bif (inB s29 I.2.2.2) then
 (ZL (cut 0 s29 I.2.2.2) (I.2.2.2.getD s29.toNat 0)).bind fun y31=>
 bif y31 then
 some (inr (inr 7))
 else
 some (inl (wrap .i64 (s29+1)))
 else none
 else none
 else none
 else
 some (inr (inl ()))) 0).bind fun j32=>
 Sum.elim (fun (j33:Unit)=>
 some 0) (fun (j34:Int)=>
 some j34) j32
def Qec (x0:List UInt8):Option (t2×Bool):=
 (Z8 x0 32).bind fun I=>
 (bif (!decide ((I.length:Int)=5)) then
 some true
 else
 bif (inB 0 I) then
 some (!decide ((I.getD (Int.toNat 0) []:List UInt8)=[98,108,111,99,107]))
 else none:Option (Bool)).bind fun j23=>
 bif j23 then
 some ((0,(0,(0,[]))),false)
 else
 bif (inB 1 I) then
 (Qr (I.getD (Int.toNat 1) []) 2).bind fun y24=>
 bif (inB 2 I) then
 (Qr (I.getD (Int.toNat 2) []) 2).bind fun y25=>
 bif (inB 3 I) then
 (Qr (I.getD (Int.toNat 3) []) 3).bind fun y26=>
 (bif y24.2 then
 bif y25.2 then
 some y26.2
 else
 some false
 else
 some false:Option (Bool)).bind fun j27=>
 bif (inB 4 I) then
 (Z8 (I.getD (Int.toNat 4) []) 43).bind fun y28=>
 (Qc (S:=Bool×Int×t2) (X:=Bool×t2) (fun J=>
 (bif (decide (J.2.1<y28.length)) then
 bif (inB 4 I) then
 some (!decide ((I.getD (Int.toNat 4) []:List UInt8)=[45]))
 else none
 else
 some false:Option (Bool)).bind fun j36=>
 bif j36 then
 bif (inB J.2.1 y28) then
 (Qr (y28.getD J.2.1.toNat []) 2).bind fun y37=>
 (bif J.1 then
 some y37.2
 else
 some false:Option (Bool)).bind fun j38=>
 bif decide (J.2.2.2.2.2.length+([y37.1]:List Int).length<=LIM) then
 some (inl (j38,(wrap .i64 (J.2.1+1),(J.2.2.1,(J.2.2.2.1,(J.2.2.2.2.1,J.2.2.2.2.2.append ([y37.1]:List Int)))))))
 else none
 else none
 else
 some (inr (J.1,J.2.2))) (j27,(0,(y24.1,(y25.1,(y26.1,[])))))).bind fun U=>
 (bif U.1 then
 (QdY U.2).bind fun y41=>
 some (decide (y41=0),U.2)
 else
 some (false,U.2):Option (Bool×t2)).bind fun j42=>
 some (j42.2,j42.1)
 else none
 else none
 else none
 else none
def QbJ (J:List UInt8):Option (t4):=
 (Qec J).bind fun I=>
 bif (!I.2) then
 some (5,(0,(0,(0,[]))))
 else
 some (0,I.1)
def Qat (J:t25) (x1:Int):Option (t4):=
 (QcG J x1).bind fun I=>
 bif (!decide (I.1=0)) then
 some (I.1,(0,(0,(0,[]))))
 else
 (QbJ I.2).bind fun U=>
 some U
def J2 (I:t6):Option (t6):=
 bif decide (([]:List Int).length+I.1.length<=LIM) then
 some (([]:List Int).append I.1,I.2)
 else none
def Ya (I:List t10):Option (List t10):=
 (Qc (S:=List t10×Int) (X:=List t10) (fun s8=>
 bif (decide (s8.2<I.length)) then
 bif (inB s8.2 I) then
 (J2 (I.getD s8.2.toNat ((0,0),((0,([],(0,0))),(0,false)))).2.1.2).bind fun U=>
 bif decide (s8.1.length+([((I.getD s8.2.toNat ((0,0),((0,([],(0,0))),(0,false)))).1,(((I.getD s8.2.toNat ((0,0),((0,([],(0,0))),(0,false)))).2.1.1,U),(I.getD s8.2.toNat ((0,0),((0,([],(0,0))),(0,false)))).2.2))]:List t10).length<=LIM) then
 some (inl (s8.1.append ([((I.getD s8.2.toNat ((0,0),((0,([],(0,0))),(0,false)))).1,(((I.getD s8.2.toNat ((0,0),((0,([],(0,0))),(0,false)))).2.1.1,U),(I.getD s8.2.toNat ((0,0),((0,([],(0,0))),(0,false)))).2.2))]:List t10),wrap .i64 (s8.2+1)))
 else none
 else none
 else
 some (inr s8.1)) (([]:List t10),0)).bind fun J=>
 some J
def QaV (I:t21):Option (t21):=
 (Ya I.2.2.1).bind fun J=>
 bif decide (([]:List t11).length+I.2.2.2.length<=LIM) then
 some (I.1,(I.2.1,(J,([]:List t11).append I.2.2.2)))
 else none
def Q6 (I:Int):Option (t24):=
 some (I,(0,((0,([],[])),(0,(0,([],[]))))))
def Qb1 (J:t5):Option (Bool):=
 ((QJ J.1 1 60).bind fun U=>
 bif U then
 (QJ J.2 0 3).bind fun y9=>
 some y9
 else
 some false:Option (Bool)).bind fun I=>
 some I
def Qaq (I:List t5) (x1:t5):Option (Bool):=
 (Qc (S:=Int) (X:=(Unit)⊕(Bool)) (fun s5=>
 bif (decide (s5<I.length)) then
 bif (inB s5 I) then
 bif (Sh.beq (.prod (.int .i64) (.int .i64)) (I.getD s5.toNat (0,0)) x1) then
 some (inr (inr true))
 else
 some (inl (wrap .i64 (s5+1)))
 else none
 else
 some (inr (inl ()))) 0).bind fun J=>
 Sum.elim (fun (j7:Unit)=>
 some false) (fun (U:Bool)=>
 some U) J
def YV (I:Int):Option (Bool):=
 (QJ I 0 999).bind fun J=>
 some J
def Qas (I:t6):Option (Int):=
 (QJ (I.1.length:Int) 1 3).bind fun J=>
 bif (!J) then
 some 2
 else
 (Qc (S:=Int) (X:=(Unit)⊕(Int)) (fun s21=>
 bif (decide (s21<I.1.length)) then
 bif (inB s21 I.1) then
 (JJ (I.1.getD s21.toNat 0)).bind fun U=>
 bif (!U) then
 some (inr (inr 3))
 else
 some (inl (wrap .i64 (s21+1)))
 else none
 else
 some (inr (inl ()))) 0).bind fun j23=>
 Sum.elim (fun (j24:Unit)=>
 ((QJ I.2.1 1 (I.1.length:Int)).bind fun y28=>
 bif (!y28) then
 some true
 else
 (YV I.2.2).bind fun y29=>
 some (!y29):Option (Bool)).bind fun j30=>
 bif j30 then
 some 3
 else
 (Qc (S:=Int) (X:=(Unit)⊕(Int)) (fun s31=>
 bif (decide (s31<I.1.length)) then
 bif (inB s31 I.1) then
 bif (inB (wrap .i64 (s31 - 1)) I.1) then
 bif (decide (I.1.getD s31.toNat 0<=I.1.getD (wrap .i64 (s31 - 1)).toNat 0)) then
 some (inr (inr 1))
 else
 some (inl (wrap .i64 (s31+1)))
 else none
 else none
 else
 some (inr (inl ()))) 1).bind fun j32=>
 Sum.elim (fun (j33:Unit)=>
 some 0) (fun (j34:Int)=>
 some j34) j32) (fun (j25:Int)=>
 some j25) j23
def QeY (I:t14):Option (Int):=
 (Qc (S:=Int) (X:=(Unit)⊕(Int)) (fun s16=>
 bif (decide (s16<I.2.2.2.length)) then
 bif (inB s16 I.2.2.2) then
 (QJ (I.2.2.2.getD s16.toNat (0,([],(0,0)))).1 1 1000000).bind fun U=>
 bif (!U) then
 some (inr (inr 3))
 else
 bif (inB s16 I.2.2.2) then
 (Qas (I.2.2.2.getD s16.toNat (0,([],(0,0)))).2).bind fun J=>
 bif (!decide (J=0)) then
 some (inr (inr J))
 else
 some (inl (wrap .i64 (s16+1)))
 else none
 else none
 else
 some (inr (inl ()))) 0).bind fun j19=>
 Sum.elim (fun (j20:Unit)=>
 (bif (decide (I.1=1)) then
 bif (inB 0 I.2.2.2) then
 some (decide ((I.2.2.2.getD (Int.toNat 0) (0,([],(0,0)))).1<100))
 else none
 else
 some false:Option (Bool)).bind fun j22=>
 bif j22 then
 some 8
 else
 some 0) (fun (j21:Int)=>
 some j21) j19
def YB (J:t14):Option (Int):=
 ((QJ J.1 0 2).bind fun U=>
 bif (!U) then
 some true
 else
 some (!(Sh.beq .bool (decide (J.1=0)) (decide (J.2.1=0)))):Option (Bool)).bind fun j25=>
 bif j25 then
 some 1
 else
 (bif (!decide (J.1=0)) then
 (JJ J.2.1).bind fun y27=>
 some (!y27)
 else
 some false:Option (Bool)).bind fun j28=>
 bif j28 then
 some 3
 else
 ((QJ (J.2.2.1.length:Int) 1 4).bind fun y31=>
 bif (!y31) then
 some true
 else
 (QJ (J.2.2.2.length:Int) 1 4).bind fun y32=>
 some (!y32):Option (Bool)).bind fun j33=>
 bif j33 then
 some 2
 else
 (Qc (S:=Int) (X:=(Unit)⊕(Int)) (fun I=>
 bif (decide (I<J.2.2.1.length)) then
 bif (inB I J.2.2.1) then
 (Qb1 (J.2.2.1.getD I.toNat (0,0))).bind fun y39=>
 bif (!y39) then
 some (inr (inr 3))
 else
 bif (QA 0 I J.2.2.1) then
 bif (inB I J.2.2.1) then
 (Qaq (cut 0 I J.2.2.1) (J.2.2.1.getD I.toNat (0,0))).bind fun y40=>
 bif y40 then
 some (inr (inr 7))
 else
 some (inl (wrap .i64 (I+1)))
 else none
 else none
 else none
 else
 some (inr (inl ()))) 0).bind fun j41=>
 Sum.elim (fun (j42:Unit)=>
 (QeY J).bind fun y44=>
 some y44) (fun (j43:Int)=>
 some j43) j41
def QaU (I:List UInt8) (x1:Int) (x2:Int):Option (List UInt8):=
 swpS I x1 x2
def Zs (I:Int):Option (List UInt8):=
 digS 19 I
def QcO (J:t6):Option (List UInt8):=
 (Zs J.2.1).bind fun U=>
 bif decide (U.length+List.length [32,111,102,32]<=LIM) then
 bif (inB 0 J.1) then
 (Zs (J.1.getD (Int.toNat 0) 0)).bind fun y12=>
 bif decide ((U.append [32,111,102,32]).length+y12.length<=LIM) then
 (Qc (S:=List UInt8×Int) (X:=List UInt8) (fun s15=>
 bif (decide (s15.2<J.1.length)) then
 bif decide (s15.1.length+List.length [44]<=LIM) then
 bif (inB s15.2 J.1) then
 (Zs (J.1.getD s15.2.toNat 0)).bind fun y16=>
 bif decide ((s15.1.append [44]).length+y16.length<=LIM) then
 some (inl ((s15.1.append [44]).append y16,wrap .i64 (s15.2+1)))
 else none
 else none
 else none
 else
 some (inr s15.1)) ((U.append [32,111,102,32]).append y12,1)).bind fun I=>
 (bif (!decide (J.2.2=0)) then
 bif decide (I.length+List.length [32,97,102,116,101,114,32]<=LIM) then
 (Zs J.2.2).bind fun y19=>
 bif decide ((I.append [32,97,102,116,101,114,32]).length+y19.length<=LIM) then
 some ((I.append [32,97,102,116,101,114,32]).append y19)
 else none
 else none
 else
 some I:Option (List UInt8)).bind fun j20=>
 some j20
 else none
 else none
 else none
def QcL (U:t14):Option (List UInt8):=
 bif (inB U.1 ([[112,97,121],[106,111,105,110,32],[108,101,97,118,101,32]]:List (List UInt8))) then
 (bif (!decide (U.1=0)) then
 (Zs U.2.1).bind fun y26=>
 bif decide ((([[112,97,121],[106,111,105,110,32],[108,101,97,118,101,32]]:List (List UInt8)).getD U.1.toNat []).length+y26.length<=LIM) then
 some ((([[112,97,121],[106,111,105,110,32],[108,101,97,118,101,32]]:List (List UInt8)).getD U.1.toNat []).append y26)
 else none
 else
 some (([[112,97,121],[106,111,105,110,32],[108,101,97,118,101,32]]:List (List UInt8)).getD U.1.toNat []):Option (List UInt8)).bind fun j27=>
 (Qc (S:=List UInt8×Int) (X:=List UInt8) (fun I=>
 bif (decide (I.2<U.2.2.1.length)) then
 (bif (decide (I.2=0)) then
 some [32]
 else
 some [43]:Option (List UInt8)).bind fun j34=>
 bif decide (I.1.length+j34.length<=LIM) then
 bif (inB I.2 U.2.2.1) then
 (Zs (U.2.2.1.getD I.2.toNat (0,0)).1).bind fun y35=>
 bif decide ((I.1.append j34).length+y35.length<=LIM) then
 bif decide (((I.1.append j34).append y35).length+List.length [58]<=LIM) then
 bif (inB I.2 U.2.2.1) then
 (Zs (U.2.2.1.getD I.2.toNat (0,0)).2).bind fun y36=>
 bif decide ((((I.1.append j34).append y35).append [58]).length+y36.length<=LIM) then
 some (inl ((((I.1.append j34).append y35).append [58]).append y36,wrap .i64 (I.2+1)))
 else none
 else none
 else none
 else none
 else none
 else none
 else
 some (inr I.1)) (j27,0)).bind fun j37=>
 (Qc (S:=List UInt8×Int) (X:=List UInt8) (fun J=>
 bif (decide (J.2<U.2.2.2.length)) then
 bif decide (J.1.length+List.length [32]<=LIM) then
 bif (inB J.2 U.2.2.2) then
 (Zs (U.2.2.2.getD J.2.toNat (0,([],(0,0)))).1).bind fun y45=>
 bif decide ((J.1.append [32]).length+y45.length<=LIM) then
 bif decide (((J.1.append [32]).append y45).length+List.length [61]<=LIM) then
 bif (inB J.2 U.2.2.2) then
 (QcO (U.2.2.2.getD J.2.toNat (0,([],(0,0)))).2).bind fun y46=>
 (QaU y46 32 95).bind fun y47=>
 bif decide ((((J.1.append [32]).append y45).append [61]).length+y47.length<=LIM) then
 some (inl ((((J.1.append [32]).append y45).append [61]).append y47,wrap .i64 (J.2+1)))
 else none
 else none
 else none
 else none
 else none
 else none
 else
 some (inr J.1)) (j37,0)).bind fun j48=>
 some j48
 else none
def QfB (x0:List UInt8):Option (List t5×Bool):=
 (Z8 x0 43).bind fun J=>
 (Qc (S:=List t5×Int) (X:=(List t5)⊕(List t5×Bool)) (fun s27=>
 bif (decide (s27.2<J.length)) then
 bif (inB s27.2 J) then
 (Z8 (J.getD s27.2.toNat []) 58).bind fun I=>
 bif (!decide ((I.length:Int)=2)) then
 some (inr (inr (([]:List t5),false)))
 else
 bif (inB 0 I) then
 (Qr (I.getD (Int.toNat 0) []) 2).bind fun U=>
 bif (inB 1 I) then
 (Qr (I.getD (Int.toNat 1) []) 1).bind fun y30=>
 (bif (!U.2) then
 some true
 else
 some (!y30.2):Option (Bool)).bind fun j31=>
 bif j31 then
 some (inr (inr (([]:List t5),false)))
 else
 bif decide (s27.1.length+([(U.1,y30.1)]:List t5).length<=LIM) then
 some (inl (s27.1.append ([(U.1,y30.1)]:List t5),wrap .i64 (s27.2+1)))
 else none
 else none
 else none
 else none
 else
 some (inr (inl s27.1))) (([]:List t5),0)).bind fun j32=>
 Sum.elim (fun (j33:List t5)=>
 some (j33,true)) (fun (j34:List t5×Bool)=>
 some (j34.1,j34.2)) j32
def QdM (x0:List UInt8):Option (t6×Bool):=
 (Z8 x0 32).bind fun I=>
 (bif (!decide ((I.length:Int)=3)) then
 bif (!decide ((I.length:Int)=5)) then
 some true
 else
 bif (inB 1 I) then
 some (!decide ((I.getD (Int.toNat 1) []:List UInt8)=[111,102]))
 else none
 else
 bif (inB 1 I) then
 some (!decide ((I.getD (Int.toNat 1) []:List UInt8)=[111,102]))
 else none:Option (Bool)).bind fun j22=>
 bif j22 then
 some (([],(0,0)),false)
 else
 bif (inB 0 I) then
 (Qr (I.getD (Int.toNat 0) []) 1).bind fun y23=>
 bif (inB 2 I) then
 (Z8 (I.getD (Int.toNat 2) []) 44).bind fun y24=>
 (Qc (S:=Bool×Int×t6) (X:=Bool×t6) (fun s29=>
 bif (decide (s29.2.1<y24.length)) then
 bif (inB s29.2.1 y24) then
 (Qr (y24.getD s29.2.1.toNat []) 3).bind fun y30=>
 (bif s29.1 then
 some y30.2
 else
 some false:Option (Bool)).bind fun j31=>
 bif decide (s29.2.2.1.length+([y30.1]:List Int).length<=LIM) then
 some (inl (j31,(wrap .i64 (s29.2.1+1),(s29.2.2.1.append ([y30.1]:List Int),s29.2.2.2))))
 else none
 else none
 else
 some (inr (s29.1,s29.2.2))) (y23.2,(0,([],(y23.1,0))))).bind fun J=>
 (bif (decide ((I.length:Int)=5)) then
 bif (inB 4 I) then
 (Qr (I.getD (Int.toNat 4) []) 3).bind fun y35=>
 (bif J.1 then
 bif y35.2 then
 bif (inB 3 I) then
 bif (decide ((I.getD (Int.toNat 3) []:List UInt8)=[97,102,116,101,114])) then
 some (decide (0<y35.1))
 else
 some false
 else none
 else
 some false
 else
 some false:Option (Bool)).bind fun j36=>
 some (j36,(J.2.1,(J.2.2.1,y35.1)))
 else none
 else
 some (J.1,J.2):Option (Bool×t6)).bind fun U=>
 (bif U.1 then
 (Qas U.2).bind fun y39=>
 some (decide (y39=0),U.2)
 else
 some (false,U.2):Option (Bool×t6)).bind fun j40=>
 some (j40.2,j40.1)
 else none
 else none
def QdS (x0:List UInt8):Option (t14×Bool):=
 (Z8 x0 32).bind fun I=>
 (bif (inB 0 I) then
 bif (decide ((I.getD (Int.toNat 0) []:List UInt8)=[106,111,105,110])) then
 some true
 else
 bif (inB 0 I) then
 some (decide ((I.getD (Int.toNat 0) []:List UInt8)=[108,101,97,118,101]))
 else none
 else none:Option (Bool)).bind fun j39=>
 (bif j39 then
 bif (decide ((I.length:Int)<2)) then
 some (inr (false,(0,(0,([],[])))))
 else
 bif (inB 1 I) then
 (Qr (I.getD (Int.toNat 1) []) 3).bind fun y42=>
 bif (!y42.2) then
 some (inr (false,(0,(0,([],[])))))
 else
 bif (inB 0 I) then
 (bif (decide ((I.getD (Int.toNat 0) []:List UInt8)=[108,101,97,118,101])) then
 some (2,(0,([],[])))
 else
 some (1,(0,([],[]))):Option (t14)).bind fun j43=>
 some (inl (2,(j43.1,(y42.1,j43.2.2))))
 else none
 else none
 else
 bif (inB 0 I) then
 bif (!decide ((I.getD (Int.toNat 0) []:List UInt8)=[112,97,121])) then
 some (inr (false,(0,(0,([],[])))))
 else
 some (inl (1,(0,(0,([],[])))))
 else none:Option ((Int×t14)⊕(Bool×t14))).bind fun j44=>
 Sum.elim (fun (U:Int×t14)=>
 bif (decide (I.length<wrap .i64 (U.1+2))) then
 some (U.2,false)
 else
 bif (inB U.1 I) then
 (QfB (I.getD U.1.toNat [])).bind fun y47=>
 (Qc (S:=Bool×Int×t14) (X:=(Bool×t14)⊕(Bool×t14)) (fun J=>
 (bif (decide (J.2.1<I.length)) then
 some J.1
 else
 some false:Option (Bool)).bind fun j61=>
 bif j61 then
 bif (inB J.2.1 I) then
 (Z8 (I.getD J.2.1.toNat []) 61).bind fun y62=>
 bif (!decide ((y62.length:Int)=2)) then
 some (inr (inr (false,J.2.2)))
 else
 bif (inB 0 y62) then
 (Qr (y62.getD (Int.toNat 0) []) 7).bind fun y63=>
 bif (inB 1 y62) then
 (QaU (y62.getD (Int.toNat 1) []) 95 32).bind fun y64=>
 (QdM y64).bind fun y65=>
 (bif y63.2 then
 some y65.2
 else
 some false:Option (Bool)).bind fun j66=>
 bif decide (J.2.2.2.2.2.length+([(y63.1,y65.1)]:List t7).length<=LIM) then
 some (inl (j66,(wrap .i64 (J.2.1+1),(J.2.2.1,(J.2.2.2.1,(J.2.2.2.2.1,J.2.2.2.2.2.append ([(y63.1,y65.1)]:List t7)))))))
 else none
 else none
 else none
 else none
 else
 some (inr (inl (J.1,J.2.2)))) (y47.2,(wrap .i64 (U.1+1),(U.2.1,(U.2.2.1,(y47.1,U.2.2.2.2)))))).bind fun j67=>
 Sum.elim (fun (j68:Bool×t14)=>
 (bif j68.1 then
 (YB j68.2).bind fun y72=>
 bif (decide (y72=0)) then
 (QcL j68.2).bind fun y73=>
 bif (decide ((y73:List UInt8)=x0)) then
 some (decide ((x0.length:Int)<=300),j68.2)
 else
 some (false,j68.2)
 else
 some (false,j68.2)
 else
 some (false,j68.2):Option (Bool×t14)).bind fun j74=>
 some (j74.2,j74.1)) (fun (j69:Bool×t14)=>
 some (j69.2,j69.1)) j67
 else none) (fun (j46:Bool×t14)=>
 some (j46.2,j46.1)) j44
def Qf8 (J:List UInt8):Option (t15):=
 (QdS J).bind fun I=>
 bif (!I.2) then
 some (5,(0,(0,([],[]))))
 else
 some (0,I.1)
def Qex (J:t25) (x1:Int):Option (t15):=
 (QcG J x1).bind fun I=>
 bif (!decide (I.1=0)) then
 some (I.1,(0,(0,([],[]))))
 else
 (Qf8 I.2).bind fun U=>
 some U
def Qds (I:t7):Option (Int):=
 (QJ I.1 1 1000000).bind fun J=>
 bif (!J) then
 some 3
 else
 (Qas I.2).bind fun U=>
 some U
def QbX (I:t5) (x1:t5):Option (Bool):=
 bif (!decide (I.1=x1.1)) then
 some (decide (I.1<x1.1))
 else
 some (decide (I.2<x1.2))
def Ye (J:List t10):Option (Int):=
 bif (decide (40<(J.length:Int))) then
 some 2
 else
 (Qc (S:=Int) (X:=(Unit)⊕(Int)) (fun I=>
 bif (decide (I<J.length)) then
 (bif (inB I J) then
 (Qb1 (J.getD I.toNat ((0,0),((0,([],(0,0))),(0,false)))).1).bind fun y47=>
 bif (!y47) then
 some true
 else
 bif (inB I J) then
 (YV (J.getD I.toNat ((0,0),((0,([],(0,0))),(0,false)))).2.2.1).bind fun y48=>
 some (!y48)
 else none
 else none:Option (Bool)).bind fun j49=>
 bif j49 then
 some (inr (inr 3))
 else
 bif (inB I J) then
 (Qds (J.getD I.toNat ((0,0),((0,([],(0,0))),(0,false)))).2.1).bind fun U=>
 bif (!decide (U=0)) then
 some (inr (inr U))
 else
 (bif (decide (0<I)) then
 bif (inB (wrap .i64 (I - 1)) J) then
 bif (inB I J) then
 (QbX (J.getD (wrap .i64 (I - 1)).toNat ((0,0),((0,([],(0,0))),(0,false)))).1 (J.getD I.toNat ((0,0),((0,([],(0,0))),(0,false)))).1).bind fun y52=>
 some (!y52)
 else none
 else none
 else
 some false:Option (Bool)).bind fun j53=>
 bif j53 then
 some (inr (inr 1))
 else
 some (inl (wrap .i64 (I+1)))
 else none
 else
 some (inr (inl ()))) 0).bind fun j54=>
 Sum.elim (fun (j55:Unit)=>
 some 0) (fun (j56:Int)=>
 some j56) j54
def Qe4 (I:t14):Option (t3):=
 (YB I).bind fun J=>
 bif (!decide (J=0)) then
 some (J,[])
 else
 (QcL I).bind fun U=>
 bif (decide (300<(U.length:Int))) then
 some (2,[])
 else
 some (0,U)
def Jp (I:List t10) (x1:t14):Option (List t10×Bool):=
 (Qc (S:=List t10×Int) (X:=List t10) (fun s14=>
 bif (decide (s14.2<I.length)) then
 bif (inB s14.2 I) then
 (Qaq x1.2.2.1 (I.getD s14.2.toNat ((0,0),((0,([],(0,0))),(0,false)))).1).bind fun U=>
 (bif U then
 bif (inB s14.2 I) then
 bif decide (s14.1.length+([I.getD s14.2.toNat ((0,0),((0,([],(0,0))),(0,false)))]:List t10).length<=LIM) then
 some (s14.1.append ([I.getD s14.2.toNat ((0,0),((0,([],(0,0))),(0,false)))]:List t10))
 else none
 else none
 else
 some s14.1:Option (List t10)).bind fun j16=>
 some (inl (j16,wrap .i64 (s14.2+1)))
 else none
 else
 some (inr s14.1)) (([]:List t10),0)).bind fun J=>
 (Ya J).bind fun y18=>
 some (y18,decide ((J.length:Int)=(x1.2.2.1.length:Int)))
def Qe1 (I:t10) (x1:Int):Option (Bool):=
 (bif (!I.2.2.2) then
 some true
 else
 some (decide (wrap .i64 (I.2.2.1+2)<=x1)):Option (Bool)).bind fun J=>
 some J
def Qb6 (I:t25) (x1:Int) (x2:Int):Option (Bool):=
 (Qa7 I.2 (x1,x2)).bind fun J=>
 some J
def QfX (x0:t25) (x1:t6) (x2:Int) (x3:Int):Option (Int):=
 bif (decide (x3<x1.2.2)) then
 some 9
 else
 (Qc (S:=Int×Int) (X:=Int) (fun s13=>
 bif (decide (s13.2<x1.1.length)) then
 bif (inB s13.2 x1.1) then
 (Qb6 x0 (x1.1.getD s13.2.toNat 0) x2).bind fun I=>
 (bif I then
 some (wrap .i64 (s13.1+1))
 else
 some s13.1:Option (Int)).bind fun J=>
 some (inl (J,wrap .i64 (s13.2+1)))
 else none
 else
 some (inr s13.1)) (0,0)).bind fun U=>
 bif (decide (U<x1.2.1)) then
 some 6
 else
 some 0
def Qfz (I:List t10):Option (Int):=
 (Qc (S:=Int×Int) (X:=Int) (fun s3=>
 bif (decide (s3.2<I.length)) then
 bif (inB s3.2 I) then
 some (inl (wrap .i64 (s3.1+(I.getD s3.2.toNat ((0,0),((0,([],(0,0))),(0,false)))).2.1.1),wrap .i64 (s3.2+1)))
 else none
 else
 some (inr s3.1)) (0,0)).bind fun J=>
 some J
def QfG (I:t14):Option (Int):=
 (Qc (S:=Int×Int) (X:=Int) (fun s3=>
 bif (decide (s3.2<I.2.2.2.length)) then
 bif (inB s3.2 I.2.2.2) then
 some (inl (wrap .i64 (s3.1+(I.2.2.2.getD s3.2.toNat (0,([],(0,0)))).1),wrap .i64 (s3.2+1)))
 else none
 else
 some (inr s3.1)) (0,0)).bind fun J=>
 some J
def QbW (x0:t25) (x1:List t10) (x2:t14) (x3:Int) (x4:Int):Option (Int×Int):=
 (Jp x1 x2).bind fun I=>
 bif (!I.2) then
 some (0,4)
 else
 (Qc (S:=Int) (X:=(Unit)⊕(Int×Int)) (fun s22=>
 bif (decide (s22<I.1.length)) then
 bif (inB s22 I.1) then
 (Qe1 (I.1.getD s22.toNat ((0,0),((0,([],(0,0))),(0,false)))) x4).bind fun y23=>
 bif (!y23) then
 some (inr (inr (0,9)))
 else
 bif (inB s22 I.1) then
 (QfX x0 (I.1.getD s22.toNat ((0,0),((0,([],(0,0))),(0,false)))).2.1.2 x3 x4).bind fun J=>
 bif (!decide (J=0)) then
 some (inr (inr (0,J)))
 else
 some (inl (wrap .i64 (s22+1)))
 else none
 else none
 else
 some (inr (inl ()))) 0).bind fun j25=>
 Sum.elim (fun (j26:Unit)=>
 (bif (decide (x2.1=2)) then
 (Qb6 x0 x2.2.1 x3).bind fun y29=>
 some (!y29)
 else
 some false:Option (Bool)).bind fun j30=>
 bif j30 then
 some (0,6)
 else
 (Qfz I.1).bind fun U=>
 (QfG x2).bind fun y32=>
 bif (decide (wrap .i64 (U - y32)<0)) then
 some (0,8)
 else
 some (wrap .i64 (U - y32),0)) (fun (j27:Int×Int)=>
 some (j27.1,j27.2)) j25
def QdN (x0:t25) (x1:List t10) (x2:t14) (x3:Int):Option (t5):=
 (YC x0).bind fun y8=>
 bif (!decide (y8=0)) then
 some (y8,0)
 else
 (Ye x1).bind fun y9=>
 bif (!decide (y9=0)) then
 some (y9,0)
 else
 (YB x2).bind fun U=>
 bif (!decide (U=0)) then
 some (U,0)
 else
 (YV x3).bind fun y11=>
 bif (!y11) then
 some (3,0)
 else
 (Qe4 x2).bind fun I=>
 bif (!decide (I.1=0)) then
 some (I.1,0)
 else
 (Qew x0.1 I.2).bind fun y13=>
 bif (decide (y13=0)) then
 some (4,0)
 else
 (QbW x0 x1 x2 y13 x3).bind fun J=>
 bif (!decide (J.2=0)) then
 some (J.2,0)
 else
 some (0,J.1)
def QcU (I:List t11) (x1:Int):Option (Int):=
 (Qc (S:=Int) (X:=(Unit)⊕(Int)) (fun s5=>
 bif (decide (s5<I.length)) then
 bif (inB s5 I) then
 bif (decide ((I.getD s5.toNat (0,(0,0))).1=x1)) then
 some (inr (inr s5))
 else
 some (inl (wrap .i64 (s5+1)))
 else none
 else
 some (inr (inl ()))) 0).bind fun J=>
 Sum.elim (fun (j7:Unit)=>
 some (-1)) (fun (U:Int)=>
 some U) J
def QcN (I:List t11) (x1:t11):Option (List t11×Int):=
 (QcU I x1.1).bind fun y9=>
 bif (decide (0<=y9)) then
 some (([]:List t11),7)
 else
 (Qc (S:=Int×Int) (X:=(Int)⊕(List t11×Int)) (fun s12=>
 bif (decide (s12.2<I.length)) then
 bif (inB s12.2 I) then
 bif (Sh.beq (.prod (.int .i64) (.int .i64)) (I.getD s12.2.toNat (0,(0,0))).2 x1.2) then
 some (inr (inr (([]:List t11),7)))
 else
 bif (inB s12.2 I) then
 (bif (decide ((I.getD s12.2.toNat (0,(0,0))).1<x1.1)) then
 some (wrap .i64 (s12.2+1))
 else
 some s12.1:Option (Int)).bind fun j13=>
 some (inl (j13,wrap .i64 (s12.2+1)))
 else none
 else none
 else
 some (inr (inl s12.1))) (0,0)).bind fun j14=>
 Sum.elim (fun (J:Int)=>
 bif (decide (8<=(I.length:Int))) then
 some (([]:List t11),2)
 else
 bif (QA 0 J I) then
 bif decide (([]:List t11).length+(cut 0 J I).length<=LIM) then
 bif decide ((([]:List t11).append (cut 0 J I)).length+([x1]:List t11).length<=LIM) then
 bif (QA J (I.length:Int) I) then
 bif decide (((([]:List t11).append (cut 0 J I)).append ([x1]:List t11)).length+(cut J (I.length:Int) I).length<=LIM) then
 some (((([]:List t11).append (cut 0 J I)).append ([x1]:List t11)).append (cut J (I.length:Int) I),0)
 else none
 else none
 else none
 else none
 else none) (fun (U:List t11×Int)=>
 some (U.1,U.2)) j14
def QeP (J:List t11) (x1:t14) (x2:Int):Option (List t11×Int):=
 (bif (decide (x1.1=2)) then
 (QcU J x1.2.1).bind fun y23=>
 some (decide (y23<0))
 else
 some false:Option (Bool)).bind fun j24=>
 bif j24 then
 some (([]:List t11),4)
 else
 (Qc (S:=List t11×Int) (X:=List t11) (fun I=>
 bif (decide (I.2<J.length)) then
 (bif (decide (x1.1=2)) then
 bif (inB I.2 J) then
 some (decide ((J.getD I.2.toNat (0,(0,0))).1=x1.2.1))
 else none
 else
 some false:Option (Bool)).bind fun j36=>
 (bif (!j36) then
 bif (inB I.2 J) then
 (Qaq x1.2.2.1 (J.getD I.2.toNat (0,(0,0))).2).bind fun y38=>
 some (!y38)
 else none
 else
 some false:Option (Bool)).bind fun j39=>
 (bif j39 then
 bif (inB I.2 J) then
 bif decide (I.1.length+([J.getD I.2.toNat (0,(0,0))]:List t11).length<=LIM) then
 some (I.1.append ([J.getD I.2.toNat (0,(0,0))]:List t11))
 else none
 else none
 else
 some I.1:Option (List t11)).bind fun j40=>
 some (inl (j40,wrap .i64 (I.2+1)))
 else
 some (inr I.1)) (([]:List t11),0)).bind fun U=>
 bif (!decide (x1.1=1)) then
 some (U,0)
 else
 (QcN U (x1.2.1,(x2,0))).bind fun y42=>
 some (y42.1,y42.2)
def QeC (I:List t10) (x1:t5):Option (Int):=
 (Qc (S:=Int) (X:=(Unit)⊕(Int)) (fun s5=>
 bif (decide (s5<I.length)) then
 bif (inB s5 I) then
 bif (Sh.beq (.prod (.int .i64) (.int .i64)) (I.getD s5.toNat ((0,0),((0,([],(0,0))),(0,false)))).1 x1) then
 some (inr (inr s5))
 else
 some (inl (wrap .i64 (s5+1)))
 else none
 else
 some (inr (inl ()))) 0).bind fun J=>
 Sum.elim (fun (j7:Unit)=>
 some (-1)) (fun (U:Int)=>
 some U) J
def QcJ (x0:List t10) (x1:List t5):Option (List t10×Bool):=
 (Ya x0).bind fun y9=>
 (Qc (S:=List t10×Int) (X:=(List t10)⊕(List t10×Bool)) (fun s12=>
 bif (decide (s12.2<x1.length)) then
 bif (inB s12.2 x1) then
 (QeC s12.1 (x1.getD s12.2.toNat (0,0))).bind fun I=>
 bif (decide (I<0)) then
 some (inr (inr (([]:List t10),false)))
 else
 bif (QA 0 I s12.1) then
 bif decide (([]:List t10).length+((s12.1.drop (Int.toNat 0)).take (I - 0).toNat).length<=LIM) then
 bif (QA (wrap .i64 (I+1)) (s12.1.length:Int) s12.1) then
 bif decide ((([]:List t10).append ((s12.1.drop (Int.toNat 0)).take (I - 0).toNat)).length+((s12.1.drop (wrap .i64 (I+1)).toNat).take ((s12.1.length:Int) - (wrap .i64 (I+1))).toNat).length<=LIM) then
 some (inl ((([]:List t10).append ((s12.1.drop (Int.toNat 0)).take (I - 0).toNat)).append ((s12.1.drop (wrap .i64 (I+1)).toNat).take ((s12.1.length:Int) - (wrap .i64 (I+1))).toNat),wrap .i64 (s12.2+1)))
 else none
 else none
 else none
 else none
 else none
 else
 some (inr (inl s12.1))) (y9,0)).bind fun U=>
 Sum.elim (fun (j15:List t10)=>
 some (j15,true)) (fun (J:List t10×Bool)=>
 some (J.1,J.2)) U
def QeA (I:List t10) (x1:Int):Option (Bool):=
 (Qc (S:=Int) (X:=(Unit)⊕(Bool)) (fun s5=>
 bif (decide (s5<I.length)) then
 bif (inB s5 I) then
 bif (decide ((I.getD s5.toNat ((0,0),((0,([],(0,0))),(0,false)))).1.1=x1)) then
 some (inr (inr true))
 else
 some (inl (wrap .i64 (s5+1)))
 else none
 else
 some (inr (inl ()))) 0).bind fun J=>
 Sum.elim (fun (j7:Unit)=>
 some false) (fun (U:Bool)=>
 some U) J
def QdJ (J:List t10) (x1:t10):Option (List t10):=
 (Qc (S:=Int) (X:=Int) (fun s18=>
 (bif (decide (s18<J.length)) then
 bif (inB s18 J) then
 (QbX (J.getD s18.toNat ((0,0),((0,([],(0,0))),(0,false)))).1 x1.1).bind fun U=>
 some U
 else none
 else
 some false:Option (Bool)).bind fun j21=>
 bif j21 then
 some (inl (wrap .i64 (s18+1)))
 else
 some (inr s18)) 0).bind fun I=>
 bif (QA 0 I J) then
 bif decide (([]:List t10).length+(cut 0 I J).length<=LIM) then
 bif decide ((([]:List t10).append (cut 0 I J)).length+([x1]:List t10).length<=LIM) then
 bif (QA I (J.length:Int) J) then
 bif decide (((([]:List t10).append (cut 0 I J)).append ([x1]:List t10)).length+(cut I (J.length:Int) J).length<=LIM) then
 some (((([]:List t10).append (cut 0 I J)).append ([x1]:List t10)).append (cut I (J.length:Int) J))
 else none
 else none
 else none
 else none
 else none
def QfH (x0:List t10) (x1:Int) (x2:List t7) (x3:Int) (x4:Bool):Option (List t10):=
 (Ya x0).bind fun I=>
 (Qc (S:=List t10×Int) (X:=List t10) (fun s15=>
 bif (decide (s15.2<x2.length)) then
 bif (inB s15.2 x2) then
 bif (inB s15.2 x2) then
 (J2 (x2.getD s15.2.toNat (0,([],(0,0)))).2).bind fun J=>
 (QdJ s15.1 ((x1,s15.2),(((x2.getD s15.2.toNat (0,([],(0,0)))).1,J),(x3,x4)))).bind fun U=>
 some (inl (U,wrap .i64 (s15.2+1)))
 else none
 else none
 else
 some (inr s15.1)) (I,0)).bind fun j18=>
 some j18
def JW (U:List t10) (x1:Int) (x2:List t7) (x3:Int) (x4:Bool):Option (t16):=
 (Ye U).bind fun I=>
 bif (!decide (I=0)) then
 some (I,[])
 else
 ((QJ x1 1 60).bind fun y19=>
 bif (!y19) then
 some true
 else
 (YV x3).bind fun y20=>
 some (!y20):Option (Bool)).bind fun j21=>
 bif j21 then
 some (3,[])
 else
 bif (decide (4<(x2.length:Int))) then
 some (2,[])
 else
 (Qc (S:=Int) (X:=(Unit)⊕(t16)) (fun s24=>
 bif (decide (s24<x2.length)) then
 bif (inB s24 x2) then
 (Qds (x2.getD s24.toNat (0,([],(0,0))))).bind fun J=>
 bif (!decide (J=0)) then
 some (inr (inr (J,[])))
 else
 some (inl (wrap .i64 (s24+1)))
 else none
 else
 some (inr (inl ()))) 0).bind fun j26=>
 Sum.elim (fun (j27:Unit)=>
 (QeA U x1).bind fun y29=>
 bif y29 then
 some (7,[])
 else
 bif (decide (40<wrap .i64 ((U.length:Int)+(x2.length:Int)))) then
 some (2,[])
 else
 (QfH U x1 x2 x3 x4).bind fun y30=>
 some (0,y30)) (fun (j28:t16)=>
 some j28) j26
def Qgg (I:List t10) (x1:t14):Option (t16):=
 (Ye I).bind fun J=>
 bif (!decide (J=0)) then
 some (J,[])
 else
 (YB x1).bind fun U=>
 bif (!decide (U=0)) then
 some (U,[])
 else
 (Jp I x1).bind fun y6=>
 bif (!y6.2) then
 some (4,[])
 else
 some (0,y6.1)
def Qd9 (I:List t10) (x1:t14) (x2:Int) (U:Int):Option (t16):=
 (Qgg I x1).bind fun J=>
 bif (!decide (J.1=0)) then
 some J
 else
 (QeA I x2).bind fun y6=>
 bif y6 then
 some (7,[])
 else
 (QcJ I x1.2.2.1).bind fun y7=>
 (JW y7.1 x2 x1.2.2.2 U false).bind fun y8=>
 some y8
def Qgs (I:t25) (x1:t21) (x2:Int) (x3:Int):Option (List t10×Int×Int×t25×t21):=
 (Qex I x2).bind fun U=>
 bif (!decide (U.1=0)) then
 some (([]:List t10),(0,(U.1,(I,x1))))
 else
 (QdN I x1.2.2.1 U.2 x3).bind fun y7=>
 bif (!decide (y7.1=0)) then
 some (([]:List t10),(0,(y7.1,(I,x1))))
 else
 (QeP x1.2.2.2 U.2 x2).bind fun y8=>
 bif (!decide (y8.2=0)) then
 some (([]:List t10),(0,(y8.2,(I,x1))))
 else
 (Jp x1.2.2.1 U.2).bind fun y9=>
 (Qd9 x1.2.2.1 U.2 x2 x3).bind fun J=>
 bif (!decide (J.1=0)) then
 some (([]:List t10),(0,(J.1,(I,x1))))
 else
 some (y9.1,(y7.2,(0,(I,(x1.1,(x1.2.1,(J.2,y8.1)))))))
def QfY (I:Int):Option (Int):=
 some (1000 / 2 ^ min (IntKind.u64.wrap (RowKit.wrap64 ((RowKit.wrap64 (I - 1)).tdiv 8))).toNat 64)
def Yv (x0:t25) (x1:t21) (x2:Int):Option (t24×t25):=
 (Qat x0 x2).bind fun I=>
 bif (!decide (I.1=0)) then
 (Q6 I.1).bind fun y21=>
 some (y21,x0)
 else
 (bif (!decide (I.2.1=x1.1)) then
 some true
 else
 some (!decide (I.2.2.1=wrap .i64 (x1.2.1+1))):Option (Bool)).bind fun j22=>
 bif j22 then
 (Q6 10).bind fun y23=>
 some (y23,x0)
 else
 (QaV x1).bind fun y24=>
 bif decide (([]:List t11).length+x1.2.2.2.length<=LIM) then
 (Qc (S:=Int×t24×t25) (X:=(t24×t25)⊕(t24×t25)) (fun s29=>
 bif (decide (s29.1<I.2.2.2.2.length)) then
 bif (inB s29.1 I.2.2.2.2) then
 (Qgs s29.2.2 s29.2.1.2.2.2 (I.2.2.2.2.getD s29.1.toNat 0) I.2.2.1).bind fun U=>
 bif (!decide (U.2.2.1=0)) then
 (Q6 U.2.2.1).bind fun y31=>
 some (inr (inr (y31,U.2.2.2.1)))
 else
 bif decide (s29.2.1.2.2.1.2.1.length+([U.1]:List (List t10)).length<=LIM) then
 some (inl (wrap .i64 (s29.1+1),((s29.2.1.1,(wrap .i64 (s29.2.1.2.1+U.2.1),((s29.2.1.2.2.1.1,(s29.2.1.2.2.1.2.1.append ([U.1]:List (List t10)),s29.2.1.2.2.1.2.2)),U.2.2.2.2))),U.2.2.2.1)))
 else none
 else none
 else
 some (inr (inl (s29.2.1,s29.2.2)))) (0,((0,(0,((x2,([],([]:List t11).append x1.2.2.2)),y24))),x0))).bind fun j32=>
 Sum.elim (fun (J:t24×t25)=>
 (QfY I.2.2.1).bind fun y35=>
 bif (decide (1000000<wrap .i64 (y35+J.1.2.1))) then
 (Q6 8).bind fun y36=>
 some (y36,J.2)
 else
 (JW J.1.2.2.2.2.2.1 x2 ([(wrap .i64 (y35+J.1.2.1),(([I.2.2.2.1]:List Int),(1,0)))]:List t7) I.2.2.1 true).bind fun y37=>
 bif (!decide (y37.1=0)) then
 (Q6 y37.1).bind fun y38=>
 some (y38,J.2)
 else
 some ((J.1.1,(J.1.2.1,(J.1.2.2.1,(x2,(I.2.2.1,(y37.2,J.1.2.2.2.2.2.2)))))),J.2)) (fun (j34:t24×t25)=>
 some (j34.1,j34.2)) j32
 else none
def Qad (x0:t25) (x1:List Int):Option (t24):=
 bif (decide (40<(x1.length:Int))) then
 (Q6 2).bind fun U=>
 some U
 else
 (YC x0).bind fun J=>
 bif (!decide (J=0)) then
 (Q6 J).bind fun y16=>
 some y16
 else
 (Qc (S:=Int×t25×t24) (X:=(t24)⊕(t24)) (fun s21=>
 bif (decide (s21.1<x1.length)) then
 bif (inB s21.1 x1) then
 (Yv s21.2.1 s21.2.2.2.2.2 (x1.getD s21.1.toNat 0)).bind fun I=>
 bif (!decide (I.1.1=0)) then
 (Q6 I.1.1).bind fun y23=>
 some (inr (inr y23))
 else
 some (inl (wrap .i64 (s21.1+1),(I.2,(s21.2.2.1,(wrap .i64 (s21.2.2.2.1+I.1.2.1),(s21.2.2.2.2.1,I.1.2.2.2))))))
 else none
 else
 some (inr (inl s21.2.2))) (0,(x0,(0,(0,((0,([],[])),(0,(0,([],[]))))))))).bind fun j24=>
 Sum.elim (fun (j25:t24)=>
 some j25) (fun (j26:t24)=>
 some j26) j24
def Qc9 (I:t29):Option (Int):=
 (Qc (S:=Int) (X:=(Unit)⊕(Int)) (fun s25=>
 bif (decide (s25<I.2.1.length)) then
 bif (inB s25 I.2.1) then
 (Qat I.1 (I.2.1.getD s25.toNat (0,(0,0))).1).bind fun J=>
 bif (!decide (J.1=0)) then
 some (inr (inr J.1))
 else
 (bif (inB s25 I.2.1) then
 bif (!decide (J.2.1=(I.2.1.getD s25.toNat (0,(0,0))).2.1)) then
 some true
 else
 bif (inB s25 I.2.1) then
 some (!decide (J.2.2.1=(I.2.1.getD s25.toNat (0,(0,0))).2.2))
 else none
 else none:Option (Bool)).bind fun j27=>
 bif j27 then
 some (inr (inr 1))
 else
 bif (inB s25 I.2.1) then
 (QaX I.2.1 (I.2.1.getD s25.toNat (0,(0,0))).1).bind fun y28=>
 (Qad I.1 y28).bind fun U=>
 bif (!decide (U.1=0)) then
 some (inr (inr U.1))
 else
 some (inl (wrap .i64 (s25+1)))
 else none
 else none
 else
 some (inr (inl ()))) 0).bind fun j30=>
 Sum.elim (fun (j31:Unit)=>
 some 0) (fun (j32:Int)=>
 some j32) j30
def QbS (J:List t11) (x1:Int) (x2:Int):Option (Bool):=
 (Qc (S:=Int) (X:=(Unit)⊕(Bool)) (fun s10=>
 bif (!decide (s10=0)) then
 (YN J s10).bind fun I=>
 bif (decide (I<0)) then
 some (inr (inr false))
 else
 bif (decide (x1=s10)) then
 some (inr (inr true))
 else
 bif (inB I J) then
 some (inl (J.getD I.toNat (0,(0,0))).2.1)
 else none
 else
 some (inr (inl ()))) x2).bind fun U=>
 Sum.elim (fun (j13:Unit)=>
 some false) (fun (j14:Bool)=>
 some j14) U
def Qax (J:List t11) (x1:Int) (x2:Int):Option (Bool):=
 ((QbS J x1 x2).bind fun U=>
 bif U then
 some true
 else
 (QbS J x2 x1).bind fun y9=>
 some y9:Option (Bool)).bind fun I=>
 some I
def QbT (x0:List t11) (x1:List Int) (x2:Int):Option (Bool):=
 (Qc (S:=Int) (X:=(Unit)⊕(Bool)) (fun s10=>
 bif (decide (s10<x1.length)) then
 bif (inB s10 x1) then
 (Qax x0 (x1.getD s10.toNat 0) x2).bind fun I=>
 bif (!I) then
 some (inr (inr false))
 else
 some (inl (wrap .i64 (s10+1)))
 else none
 else
 some (inr (inl ()))) 0).bind fun J=>
 Sum.elim (fun (j13:Unit)=>
 some true) (fun (U:Bool)=>
 some U) J
def Qc3 (I:t29):Option (Int):=
 (Qc (S:=Int) (X:=(Unit)⊕(Int)) (fun s15=>
 bif (decide (s15<I.2.2.1.length)) then
 bif (inB s15 I.2.2.1) then
 (YN I.2.1 (I.2.2.1.getD s15.toNat 0)).bind fun J=>
 bif (decide (J<0)) then
 some (inr (inr 4))
 else
 bif (QA 0 s15 I.2.2.1) then
 bif (inB s15 I.2.2.1) then
 (QbT I.2.1 (cut 0 s15 I.2.2.1) (I.2.2.1.getD s15.toNat 0)).bind fun U=>
 bif (!U) then
 some (inr (inr 10))
 else
 some (inl (wrap .i64 (s15+1)))
 else none
 else none
 else none
 else
 some (inr (inl ()))) 0).bind fun j18=>
 Sum.elim (fun (j19:Unit)=>
 some 0) (fun (j20:Int)=>
 some j20) j18
def Qe5 (J:List t11) (x1:t11) (x2:List Int):Option (Bool):=
 (Qc (S:=Int) (X:=(Unit)⊕(Bool)) (fun s30=>
 bif (decide (s30<x2.length)) then
 (bif (inB s30 x2) then
 (Qax J x1.1 (x2.getD s30.toNat 0)).bind fun U=>
 bif (!U) then
 some true
 else
 bif (inB s30 x2) then
 (YN J (x2.getD s30.toNat 0)).bind fun I=>
 bif (inB I J) then
 some (decide (x1.2.2<(J.getD I.toNat (0,(0,0))).2.2))
 else none
 else none
 else none:Option (Bool)).bind fun j35=>
 bif j35 then
 some (inr (inr false))
 else
 some (inl (wrap .i64 (s30+1)))
 else
 some (inr (inl ()))) 0).bind fun j36=>
 Sum.elim (fun (j37:Unit)=>
 some true) (fun (j38:Bool)=>
 some j38) j36
def QaS (I:List t11) (x1:List Int):Option (Int):=
 (Qc (S:=Int×Int) (X:=Int) (fun s23=>
 bif (decide (s23.2<I.length)) then
 (bif (inB s23.2 I) then
 (Qe5 I (I.getD s23.2.toNat (0,(0,0))) x1).bind fun U=>
 bif U then
 bif (decide (s23.1<0)) then
 some true
 else
 bif (inB s23.2 I) then
 bif (inB s23.1 I) then
 some (decide ((I.getD s23.1.toNat (0,(0,0))).2.2<(I.getD s23.2.toNat (0,(0,0))).2.2))
 else none
 else none
 else
 some false
 else none:Option (Bool)).bind fun j26=>
 (bif j26 then
 some s23.2
 else
 some s23.1:Option (Int)).bind fun j27=>
 some (inl (j27,wrap .i64 (s23.2+1)))
 else
 some (inr s23.1)) ((-1),0)).bind fun J=>
 bif (decide (J<0)) then
 some 0
 else
 bif (inB J I) then
 some (I.getD J.toNat (0,(0,0))).1
 else none
def Qfa (I:List Int) (x1:List Int):Option (Bool):=
 bif (!decide ((I.length:Int)=(x1.length:Int))) then
 some false
 else
 (Qc (S:=Int) (X:=(Unit)⊕(Bool)) (fun s5=>
 bif (decide (s5<I.length)) then
 bif (inB s5 I) then
 bif (inB s5 x1) then
 bif (!decide (I.getD s5.toNat 0=x1.getD s5.toNat 0)) then
 some (inr (inr false))
 else
 some (inl (wrap .i64 (s5+1)))
 else none
 else none
 else
 some (inr (inl ()))) 0).bind fun J=>
 Sum.elim (fun (j7:Unit)=>
 some true) (fun (U:Bool)=>
 some U) J
def QcM (I:t6) (x1:t6):Option (Bool):=
 (bif (decide (I.2.1=x1.2.1)) then
 bif (decide (I.2.2=x1.2.2)) then
 (Qfa I.1 x1.1).bind fun J=>
 some J
 else
 some false
 else
 some false:Option (Bool)).bind fun U=>
 some U
def QcP (I:List t10) (x1:List t10):Option (Bool):=
 bif (!decide ((I.length:Int)=(x1.length:Int))) then
 some false
 else
 (Qc (S:=Int) (X:=(Unit)⊕(Bool)) (fun s20=>
 bif (decide (s20<I.length)) then
 (bif (inB s20 I) then
 bif (inB s20 x1) then
 bif (!(Sh.beq (.prod (.int .i64) (.int .i64)) (I.getD s20.toNat ((0,0),((0,([],(0,0))),(0,false)))).1 (x1.getD s20.toNat ((0,0),((0,([],(0,0))),(0,false)))).1)) then
 some true
 else
 bif (inB s20 I) then
 bif (inB s20 x1) then
 bif (!decide ((I.getD s20.toNat ((0,0),((0,([],(0,0))),(0,false)))).2.2.1=(x1.getD s20.toNat ((0,0),((0,([],(0,0))),(0,false)))).2.2.1)) then
 some true
 else
 bif (inB s20 I) then
 bif (inB s20 x1) then
 bif (!(Sh.beq .bool (I.getD s20.toNat ((0,0),((0,([],(0,0))),(0,false)))).2.2.2 (x1.getD s20.toNat ((0,0),((0,([],(0,0))),(0,false)))).2.2.2)) then
 some true
 else
 bif (inB s20 I) then
 bif (inB s20 x1) then
 bif (!decide ((I.getD s20.toNat ((0,0),((0,([],(0,0))),(0,false)))).2.1.1=(x1.getD s20.toNat ((0,0),((0,([],(0,0))),(0,false)))).2.1.1)) then
 some true
 else
 bif (inB s20 I) then
 bif (inB s20 x1) then
 (QcM (I.getD s20.toNat ((0,0),((0,([],(0,0))),(0,false)))).2.1.2 (x1.getD s20.toNat ((0,0),((0,([],(0,0))),(0,false)))).2.1.2).bind fun J=>
 some (!J)
 else none
 else none
 else none
 else none
 else none
 else none
 else none
 else none
 else none
 else none:Option (Bool)).bind fun U=>
 bif U then
 some (inr (inr false))
 else
 some (inl (wrap .i64 (s20+1)))
 else
 some (inr (inl ()))) 0).bind fun j24=>
 Sum.elim (fun (j25:Unit)=>
 some true) (fun (j26:Bool)=>
 some j26) j24
def QcQ (I:List t11) (x1:List t11):Option (Bool):=
 bif (!decide ((I.length:Int)=(x1.length:Int))) then
 some false
 else
 (Qc (S:=Int) (X:=(Unit)⊕(Bool)) (fun s5=>
 bif (decide (s5<I.length)) then
 bif (inB s5 I) then
 bif (inB s5 x1) then
 bif (!(Sh.beq (.prod (.int .i64) (.prod (.int .i64) (.int .i64))) (I.getD s5.toNat (0,(0,0))) (x1.getD s5.toNat (0,(0,0))))) then
 some (inr (inr false))
 else
 some (inl (wrap .i64 (s5+1)))
 else none
 else none
 else
 some (inr (inl ()))) 0).bind fun J=>
 Sum.elim (fun (j7:Unit)=>
 some true) (fun (U:Bool)=>
 some U) J
def QeI (I:t21) (x1:t21):Option (Bool):=
 (bif (decide (I.1=x1.1)) then
 bif (decide (I.2.1=x1.2.1)) then
 (QcP I.2.2.1 x1.2.2.1).bind fun U=>
 bif U then
 (QcQ I.2.2.2 x1.2.2.2).bind fun y9=>
 some y9
 else
 some false
 else
 some false
 else
 some false:Option (Bool)).bind fun J=>
 some J
def Qa4 (I:t18) (x1:t18):Option (Bool):=
 (bif (!decide (I.1=x1.1)) then
 some true
 else
 bif (!decide ((I.2.1.length:Int)=(x1.2.1.length:Int))) then
 some true
 else
 (QcQ I.2.2 x1.2.2).bind fun J=>
 some (!J):Option (Bool)).bind fun U=>
 bif U then
 some false
 else
 (Qc (S:=Int) (X:=(Unit)⊕(Bool)) (fun s16=>
 bif (decide (s16<I.2.1.length)) then
 bif (inB s16 I.2.1) then
 bif (inB s16 x1.2.1) then
 (QcP (I.2.1.getD s16.toNat []) (x1.2.1.getD s16.toNat [])).bind fun y17=>
 bif (!y17) then
 some (inr (inr false))
 else
 some (inl (wrap .i64 (s16+1)))
 else none
 else none
 else
 some (inr (inl ()))) 0).bind fun j18=>
 Sum.elim (fun (j19:Unit)=>
 some true) (fun (j20:Bool)=>
 some j20) j18
def Qc8 (I:t29):Option (Int×t29):=
 (QaS I.2.1 I.2.2.1).bind fun y15=>
 bif (!decide (I.2.2.2.1.1=y15)) then
 some (10,I)
 else
 (QaX I.2.1 I.2.2.2.1.1).bind fun J=>
 (Qad I.1 J).bind fun y17=>
 bif (!decide (y17.1=0)) then
 some (y17.1,I)
 else
 (QeI y17.2.2.2 I.2.2.2.1).bind fun y18=>
 bif (!y18) then
 some (10,I)
 else
 bif (!decide ((I.2.2.2.2.length:Int)=(J.length:Int))) then
 some (1,I)
 else
 (Qc (S:=Int×t21×t29) (X:=(t29)⊕(Int×t29)) (fun s23=>
 bif (decide (s23.1<J.length)) then
 bif (inB s23.1 J) then
 (Yv s23.2.2.1 s23.2.1 (J.getD s23.1.toNat 0)).bind fun U=>
 bif (inB s23.1 s23.2.2.2.2.2.2) then
 (Qa4 (s23.2.2.2.2.2.2.getD s23.1.toNat (0,([],[]))) U.1.2.2.1).bind fun y25=>
 bif (!y25) then
 some (inr (inr (1,(U.2,s23.2.2.2))))
 else
 some (inl (wrap .i64 (s23.1+1),(U.1.2.2.2,(U.2,s23.2.2.2))))
 else none
 else none
 else
 some (inr (inl s23.2.2))) (0,((0,(0,([],[]))),I))).bind fun j26=>
 Sum.elim (fun (j27:t29)=>
 some (0,j27)) (fun (j28:Int×t29)=>
 some (j28.1,j28.2)) j26
def Qc7 (I:t29):Option (Int×t29):=
 (YC I.1).bind fun U=>
 bif (!decide (U=0)) then
 some (U,I)
 else
 (QdT I.2.1).bind fun y7=>
 bif (!decide (y7=0)) then
 some (y7,I)
 else
 bif (decide (20<(I.2.2.1.length:Int))) then
 some (2,I)
 else
 (Qc9 I).bind fun y8=>
 bif (!decide (y8=0)) then
 some (y8,I)
 else
 (Qc3 I).bind fun y9=>
 bif (!decide (y9=0)) then
 some (y9,I)
 else
 (Qc8 I).bind fun J=>
 some (J.1,J.2)
def Jd (I:Int):Option (t31):=
 some (I,(0,(([],[]),([],([],((0,(0,([],[]))),[]))))))
def QeO (I:t25):Option (t25):=
 bif decide (([]:List (List UInt8)).length+I.1.length<=LIM) then
 bif decide (([]:List t5).length+I.2.length<=LIM) then
 some (([]:List (List UInt8)).append I.1,([]:List t5).append I.2)
 else none
 else none
def QdW (I:t18):Option (t18):=
 bif decide (([]:List t11).length+I.2.2.length<=LIM) then
 (Qc (S:=Int×t18) (X:=t18) (fun s8=>
 bif (decide (s8.1<I.2.1.length)) then
 bif (inB s8.1 I.2.1) then
 (Ya (I.2.1.getD s8.1.toNat [])).bind fun U=>
 bif decide (s8.2.2.1.length+([U]:List (List t10)).length<=LIM) then
 some (inl (wrap .i64 (s8.1+1),(s8.2.1,(s8.2.2.1.append ([U]:List (List t10)),s8.2.2.2))))
 else none
 else none
 else
 some (inr s8.2)) (0,(I.1,([],([]:List t11).append I.2.2)))).bind fun J=>
 some J
 else none
def Qb4 (I:t29):Option (t29):=
 (QeO I.1).bind fun y8=>
 bif decide (([]:List t11).length+I.2.1.length<=LIM) then
 bif decide (([]:List Int).length+I.2.2.1.length<=LIM) then
 (QaV I.2.2.2.1).bind fun y9=>
 (Qc (S:=Int×t29) (X:=t29) (fun s12=>
 bif (decide (s12.1<I.2.2.2.2.length)) then
 bif (inB s12.1 I.2.2.2.2) then
 (QdW (I.2.2.2.2.getD s12.1.toNat (0,([],[])))).bind fun J=>
 bif decide (s12.2.2.2.2.2.length+([J]:List t18).length<=LIM) then
 some (inl (wrap .i64 (s12.1+1),(s12.2.1,(s12.2.2.1,(s12.2.2.2.1,(s12.2.2.2.2.1,s12.2.2.2.2.2.append ([J]:List t18)))))))
 else none
 else none
 else
 some (inr s12.2)) (0,(y8,(([]:List t11).append I.2.1,(([]:List Int).append I.2.2.1,(y9,[])))))).bind fun U=>
 some U
 else none
 else none
def QbR (J:List t11):Option (Int):=
 bif (decide (8<(J.length:Int))) then
 some 2
 else
 (Qc (S:=Int) (X:=(Unit)⊕(Int)) (fun I=>
 bif (decide (I<J.length)) then
 (bif (inB I J) then
 (JJ (J.getD I.toNat (0,(0,0))).1).bind fun y50=>
 bif (!y50) then
 some true
 else
 bif (inB I J) then
 (Qb1 (J.getD I.toNat (0,(0,0))).2).bind fun y51=>
 some (!y51)
 else none
 else none:Option (Bool)).bind fun j52=>
 bif j52 then
 some (inr (inr 3))
 else
 (bif (decide (0<I)) then
 bif (inB I J) then
 bif (inB (wrap .i64 (I - 1)) J) then
 some (decide ((J.getD I.toNat (0,(0,0))).1<=(J.getD (wrap .i64 (I - 1)).toNat (0,(0,0))).1))
 else none
 else none
 else
 some false:Option (Bool)).bind fun j53=>
 bif j53 then
 some (inr (inr 1))
 else
 some (inl (wrap .i64 (I+1)))
 else
 some (inr (inl ()))) 0).bind fun j54=>
 Sum.elim (fun (j55:Unit)=>
 (Qc (S:=Int) (X:=(Unit)⊕(Int)) (fun U=>
 bif (decide (U<J.length)) then
 (Qc (S:=Int) (X:=(Unit)⊕(Int)) (fun s64=>
 bif (decide (s64<U)) then
 bif (inB s64 J) then
 bif (inB U J) then
 bif (Sh.beq (.prod (.int .i64) (.int .i64)) (J.getD s64.toNat (0,(0,0))).2 (J.getD U.toNat (0,(0,0))).2) then
 some (inr (inr 7))
 else
 some (inl (wrap .i64 (s64+1)))
 else none
 else none
 else
 some (inr (inl ()))) 0).bind fun j65=>
 Sum.elim (fun (j66:Unit)=>
 some (inl (wrap .i64 (U+1)))) (fun (j67:Int)=>
 some (inr (inr j67))) j65
 else
 some (inr (inl ()))) 0).bind fun j68=>
 Sum.elim (fun (j69:Unit)=>
 some 0) (fun (j70:Int)=>
 some j70) j68) (fun (j56:Int)=>
 some j56) j54
def Qd2 (I:t21):Option (Int):=
 ((QJ I.1 0 60).bind fun U=>
 bif (!U) then
 some true
 else
 (QJ I.2.1 0 40).bind fun y11=>
 some (!y11):Option (Bool)).bind fun j12=>
 bif j12 then
 some 3
 else
 bif (!(Sh.beq .bool (decide (I.1=0)) (decide (I.2.1=0)))) then
 some 1
 else
 (Ye I.2.2.1).bind fun J=>
 bif (!decide (J=0)) then
 some J
 else
 (QbR I.2.2.2).bind fun y14=>
 some y14
def QeV (I:List t10) (x1:t14) (x2:Int):Option (Bool):=
 (Qc (S:=Int×Int) (X:=(Int)⊕(Bool)) (fun s20=>
 bif (decide (s20.2<I.length)) then
 bif (inB s20.2 I) then
 bif (!decide ((I.getD s20.2.toNat ((0,0),((0,([],(0,0))),(0,false)))).1.1=x2)) then
 some (inl (s20.1,wrap .i64 (s20.2+1)))
 else
 bif (inB s20.2 I) then
 (bif (decide (x1.2.2.2.length<=(I.getD s20.2.toNat ((0,0),((0,([],(0,0))),(0,false)))).1.2)) then
 some true
 else
 bif (inB s20.2 I) then
 bif (inB (I.getD s20.2.toNat ((0,0),((0,([],(0,0))),(0,false)))).1.2 x1.2.2.2) then
 bif (!decide ((I.getD s20.2.toNat ((0,0),((0,([],(0,0))),(0,false)))).2.1.1=(x1.2.2.2.getD (I.getD s20.2.toNat ((0,0),((0,([],(0,0))),(0,false)))).1.2.toNat (0,([],(0,0)))).1)) then
 some true
 else
 bif (inB s20.2 I) then
 bif (inB (I.getD s20.2.toNat ((0,0),((0,([],(0,0))),(0,false)))).1.2 x1.2.2.2) then
 (QcM (I.getD s20.2.toNat ((0,0),((0,([],(0,0))),(0,false)))).2.1.2 (x1.2.2.2.getD (I.getD s20.2.toNat ((0,0),((0,([],(0,0))),(0,false)))).1.2.toNat (0,([],(0,0)))).2).bind fun J=>
 some (!J)
 else none
 else none
 else none
 else none:Option (Bool)).bind fun U=>
 bif U then
 some (inr (inr false))
 else
 some (inl (wrap .i64 (s20.1+1),wrap .i64 (s20.2+1)))
 else none
 else none
 else
 some (inr (inl s20.1))) (0,0)).bind fun j24=>
 Sum.elim (fun (j25:Int)=>
 some (decide (j25=x1.2.2.2.length))) (fun (j26:Bool)=>
 some j26) j24
def QeJ (I:List t10) (x1:Int) (x2:List t10):Option (List t10):=
 (Qc (S:=List t10×Int) (X:=List t10) (fun s14=>
 bif (decide (s14.2<I.length)) then
 bif (inB s14.2 I) then
 (bif (!decide ((I.getD s14.2.toNat ((0,0),((0,([],(0,0))),(0,false)))).1.1=x1)) then
 bif (inB s14.2 I) then
 bif decide (s14.1.length+([I.getD s14.2.toNat ((0,0),((0,([],(0,0))),(0,false)))]:List t10).length<=LIM) then
 some (s14.1.append ([I.getD s14.2.toNat ((0,0),((0,([],(0,0))),(0,false)))]:List t10))
 else none
 else none
 else
 some s14.1:Option (List t10)).bind fun J=>
 some (inl (J,wrap .i64 (s14.2+1)))
 else none
 else
 some (inr s14.1)) (([]:List t10),0)).bind fun U=>
 (Qc (S:=List t10×Int) (X:=List t10) (fun s19=>
 bif (decide (s19.2<x2.length)) then
 bif (inB s19.2 x2) then
 (QdJ s19.1 (x2.getD s19.2.toNat ((0,0),((0,([],(0,0))),(0,false))))).bind fun y20=>
 some (inl (y20,wrap .i64 (s19.2+1)))
 else none
 else
 some (inr s19.1)) (U,0)).bind fun j21=>
 (Ya j21).bind fun y22=>
 some y22
def QeT (x0:List t10) (x1:t14) (x2:Int) (x3:List t10):Option (t16):=
 (Ye x0).bind fun I=>
 bif (!decide (I=0)) then
 some (I,[])
 else
 (Ye x3).bind fun J=>
 bif (!decide (J=0)) then
 some (J,[])
 else
 (YB x1).bind fun U=>
 bif (!decide (U=0)) then
 some (U,[])
 else
 (QJ x2 1 60).bind fun y19=>
 bif (!y19) then
 some (3,[])
 else
 (Jp x3 x1).bind fun y20=>
 (bif (!y20.2) then
 some true
 else
 some (!decide ((y20.1.length:Int)=(x3.length:Int))):Option (Bool)).bind fun j21=>
 bif j21 then
 some (1,[])
 else
 (QeV x0 x1 x2).bind fun y22=>
 bif (!y22) then
 some (4,[])
 else
 (Qc (S:=Int) (X:=(Unit)⊕(t16)) (fun s25=>
 bif (decide (s25<x1.2.2.1.length)) then
 bif (inB s25 x1.2.2.1) then
 (QeC x0 (x1.2.2.1.getD s25.toNat (0,0))).bind fun y26=>
 bif (decide (0<=y26)) then
 some (inr (inr (7,[])))
 else
 some (inl (wrap .i64 (s25+1)))
 else none
 else
 some (inr (inl ()))) 0).bind fun j27=>
 Sum.elim (fun (j28:Unit)=>
 (QeJ x0 x2 x3).bind fun y30=>
 bif (decide (40<(y30.length:Int))) then
 some (2,[])
 else
 some (0,y30)) (fun (j29:t16)=>
 some j29) j27
def QeK (x0:t25) (x1:t21) (x2:List Int) (x3:t18):Option (Int×t21):=
 (Qc (S:=Int×t21) (X:=(t21)⊕(Int×t21)) (fun s15=>
 bif (decide (0<=s15.1)) then
 bif (inB s15.1 x2) then
 (Qex x0 (x2.getD s15.1.toNat 0)).bind fun I=>
 bif (!decide (I.1=0)) then
 some (inr (inr (I.1,s15.2)))
 else
 bif (inB s15.1 x2) then
 bif (inB s15.1 x3.2.1) then
 (QeT s15.2.2.2.1 I.2 (x2.getD s15.1.toNat 0) (x3.2.1.getD s15.1.toNat [])).bind fun J=>
 bif (!decide (J.1=0)) then
 some (inr (inr (J.1,s15.2)))
 else
 some (inl (wrap .i64 (s15.1 - 1),(s15.2.1,(s15.2.2.1,(J.2,s15.2.2.2.2)))))
 else none
 else none
 else none
 else
 some (inr (inl s15.2))) (wrap .i64 ((x2.length:Int) - 1),x1)).bind fun j18=>
 Sum.elim (fun (j19:t21)=>
 some (0,j19)) (fun (U:Int×t21)=>
 some (U.1,U.2)) j18
def Jx (x0:t25) (x1:t21) (x2:t18):Option (t24):=
 (YC x0).bind fun y18=>
 bif (!decide (y18=0)) then
 (Q6 y18).bind fun y19=>
 some y19
 else
 (Qd2 x1).bind fun y20=>
 bif (!decide (y20=0)) then
 (Q6 y20).bind fun y21=>
 some y21
 else
 (bif (decide (x1.1=0)) then
 some true
 else
 some (!decide (x1.1=x2.1)):Option (Bool)).bind fun j22=>
 bif j22 then
 (Q6 10).bind fun y23=>
 some y23
 else
 (Qat x0 x2.1).bind fun I=>
 bif (!decide (I.1=0)) then
 (Q6 I.1).bind fun y25=>
 some y25
 else
 (bif (!decide (I.2.2.1=x1.2.1)) then
 some true
 else
 some (!decide ((x2.2.1.length:Int)=(I.2.2.2.2.length:Int))):Option (Bool)).bind fun j26=>
 bif j26 then
 (Q6 1).bind fun y27=>
 some y27
 else
 (QbR x2.2.2).bind fun y28=>
 bif (!decide (y28=0)) then
 (Q6 y28).bind fun y29=>
 some y29
 else
 (QaV x1).bind fun J=>
 (QcJ x1.2.2.1 ([(x2.1,0)]:List t5)).bind fun y31=>
 bif (!y31.2) then
 (Q6 4).bind fun y32=>
 some y32
 else
 (QeK x0 (J.1,(J.2.1,(y31.1,J.2.2.2))) I.2.2.2.2 x2).bind fun U=>
 bif (!decide (U.1=0)) then
 (Q6 U.1).bind fun y34=>
 some y34
 else
 bif decide (([]:List t11).length+x2.2.2.length<=LIM) then
 some (0,(0,((0,([],[])),(I.2.1,(wrap .i64 (x1.2.1 - 1),(U.2.2.2.1,([]:List t11).append x2.2.2))))))
 else none
def Qca (x0:t29) (x1:Int):Option (t31):=
 (Qb4 x0).bind fun y35=>
 (QaX y35.2.1 x1).bind fun y36=>
 (Qc (S:=t31) (X:=(t31)⊕(t31)) (fun I=>
 (bif (!decide (I.2.2.2.2.2.1.1=0)) then
 (ZL y36 I.2.2.2.2.2.1.1).bind fun y51=>
 some (!y51)
 else
 some false:Option (Bool)).bind fun j52=>
 bif j52 then
 bif (decide ((I.2.2.2.2.2.2.length:Int)=0)) then
 (Jd 1).bind fun y53=>
 some (inr (inr y53))
 else
 bif (inB (wrap .i64 ((I.2.2.2.2.2.2.length:Int) - 1)) I.2.2.2.2.2.2) then
 (Jx I.2.2.1 I.2.2.2.2.2.1 (I.2.2.2.2.2.2.getD (wrap .i64 ((I.2.2.2.2.2.2.length:Int) - 1)).toNat (0,([],[])))).bind fun y54=>
 bif (!decide (y54.1=0)) then
 (Jd y54.1).bind fun y55=>
 some (inr (inr y55))
 else
 bif (QA 0 (wrap .i64 ((I.2.2.2.2.2.2.length:Int) - 1)) I.2.2.2.2.2.2) then
 some (inl (I.1,(wrap .i64 (I.2.1+1),(I.2.2.1,(I.2.2.2.1,(I.2.2.2.2.1,(y54.2.2.2,(I.2.2.2.2.2.2.drop (Int.toNat 0)).take ((wrap .i64 ((I.2.2.2.2.2.2.length:Int) - 1)) - 0).toNat)))))))
 else none
 else none
 else
 some (inr (inl I))) (0,(0,y35))).bind fun j56=>
 Sum.elim (fun (j57:t31)=>
 (Qc (S:=Int×t31) (X:=(t31)⊕(t31)) (fun J=>
 bif (decide (J.1<y36.length)) then
 bif (inB J.1 y36) then
 (Yv J.2.2.2.1 J.2.2.2.2.2.2.1 (y36.getD J.1.toNat 0)).bind fun U=>
 bif (!decide (U.1.1=0)) then
 (Jd U.1.1).bind fun y65=>
 some (inr (inr y65))
 else
 bif decide (J.2.2.2.2.2.2.2.length+([U.1.2.2.1]:List t18).length<=LIM) then
 some (inl (wrap .i64 (J.1+1),(J.2.1,(wrap .i64 (J.2.2.1+1),(U.2,(J.2.2.2.2.1,(J.2.2.2.2.2.1,(U.1.2.2.2,J.2.2.2.2.2.2.2.append ([U.1.2.2.1]:List t18)))))))))
 else none
 else none
 else
 some (inr (inl J.2))) (j57.2.2.2.2.2.1.2.1,j57)).bind fun j66=>
 Sum.elim (fun (j67:t31)=>
 some j67) (fun (j68:t31)=>
 some j68) j66) (fun (j58:t31)=>
 some j58) j56
def Qcm (x0:t29) (x1:Int):Option (t31):=
 (Qc7 x0).bind fun I=>
 bif (!decide (I.1=0)) then
 (Jd I.1).bind fun U=>
 some U
 else
 (YN I.2.2.1 x1).bind fun y14=>
 bif (decide (y14<0)) then
 (Jd 4).bind fun y15=>
 some y15
 else
 (QbT I.2.2.1 I.2.2.2.1 x1).bind fun y16=>
 bif (!y16) then
 (Jd 10).bind fun y17=>
 some y17
 else
 (Qb4 I.2).bind fun J=>
 (ZL I.2.2.2.1 x1).bind fun y19=>
 bif y19 then
 some (0,(0,J))
 else
 bif (decide (20<=(I.2.2.2.1.length:Int))) then
 (Jd 2).bind fun y20=>
 some y20
 else
 (bif decide (J.2.2.1.length+([x1]:List Int).length<=LIM) then
 some (J.1,(J.2.1,(J.2.2.1.append ([x1]:List Int),J.2.2.2)))
 else none:Option (t29)).bind fun U=>
 (QaS U.2.1 U.2.2.1).bind fun y21=>
 (Qca U y21).bind fun y22=>
 some y22
def QcA (I:List (List UInt8)):Option (List (List UInt8)):=
 bif (decide (0<=(I.length:Int))&&decide ((I.length:Int)<=(LIM:Int))) then
 (Qc (S:=List (List UInt8)×Int) (X:=List (List UInt8)) (fun s3=>
 bif (decide (s3.2<I.length)) then
 bif (inB s3.2 I) then
 bif (inB s3.2 s3.1) then
 some (inl (s3.1.set s3.2.toNat (I.getD s3.2.toNat []),wrap .i64 (s3.2+1)))
 else none
 else none
 else
 some (inr s3.1)) (List.replicate (Int.toNat (I.length:Int)) [],0)).bind fun J=>
 some J
 else none
def Qe2 (I:t5):Option (t5):=
 some (I.1,I.2)
def QdZ (I:List t5):Option (List t5):=
 bif (decide (0<=(I.length:Int))&&decide ((I.length:Int)<=(LIM:Int))) then
 (Qc (S:=List t5×Int) (X:=List t5) (fun s8=>
 bif (decide (s8.2<I.length)) then
 bif (inB s8.2 I) then
 (Qe2 (I.getD s8.2.toNat (0,0))).bind fun U=>
 bif (inB s8.2 s8.1) then
 some (inl (s8.1.set s8.2.toNat U,wrap .i64 (s8.2+1)))
 else none
 else none
 else
 some (inr s8.1)) (List.replicate (Int.toNat (I.length:Int)) (0,0),0)).bind fun J=>
 some J
 else none
def Qdg (I:t25):Option (t25):=
 (QcA I.1).bind fun J=>
 (QdZ I.2).bind fun U=>
 some (J,U)
def QeE (I:t11):Option (t11):=
 some (I.1,(I.2.1,I.2.2))
def Qd5 (I:List t11):Option (List t11):=
 bif (decide (0<=(I.length:Int))&&decide ((I.length:Int)<=(LIM:Int))) then
 (Qc (S:=List t11×Int) (X:=List t11) (fun s8=>
 bif (decide (s8.2<I.length)) then
 bif (inB s8.2 I) then
 (QeE (I.getD s8.2.toNat (0,(0,0)))).bind fun U=>
 bif (inB s8.2 s8.1) then
 some (inl (s8.1.set s8.2.toNat U,wrap .i64 (s8.2+1)))
 else none
 else none
 else
 some (inr s8.1)) (List.replicate (Int.toNat (I.length:Int)) (0,(0,0)),0)).bind fun J=>
 some J
 else none
def Qbm (I:List Int):Option (List Int):=
 bif (decide (0<=(I.length:Int))&&decide ((I.length:Int)<=(LIM:Int))) then
 (Qc (S:=List Int×Int) (X:=List Int) (fun s3=>
 bif (decide (s3.2<I.length)) then
 bif (inB s3.2 I) then
 bif (inB s3.2 s3.1) then
 some (inl (s3.1.set s3.2.toNat (I.getD s3.2.toNat 0),wrap .i64 (s3.2+1)))
 else none
 else none
 else
 some (inr s3.1)) (List.replicate (Int.toNat (I.length:Int)) 0,0)).bind fun J=>
 some J
 else none
def QfU (I:t5):Option (t5):=
 some (I.1,I.2)
def Qe7 (I:t6):Option (t6):=
 (Qbm I.1).bind fun J=>
 some (J,(I.2.1,I.2.2))
def QfZ (I:t7):Option (t7):=
 (Qe7 I.2).bind fun J=>
 some (I.1,J)
def QcR (I:t10):Option (t10):=
 (QfU I.1).bind fun J=>
 (QfZ I.2.1).bind fun U=>
 some (J,(U,(I.2.2.1,I.2.2.2)))
def Qan (I:List t10):Option (List t10):=
 bif (decide (0<=(I.length:Int))&&decide ((I.length:Int)<=(LIM:Int))) then
 (Qc (S:=List t10×Int) (X:=List t10) (fun s8=>
 bif (decide (s8.2<I.length)) then
 bif (inB s8.2 I) then
 (QcR (I.getD s8.2.toNat ((0,0),((0,([],(0,0))),(0,false))))).bind fun U=>
 bif (inB s8.2 s8.1) then
 some (inl (s8.1.set s8.2.toNat U,wrap .i64 (s8.2+1)))
 else none
 else none
 else
 some (inr s8.1)) (List.replicate (Int.toNat (I.length:Int)) ((0,0),((0,([],(0,0))),(0,false))),0)).bind fun J=>
 some J
 else none
def Qa9 (I:t11):Option (t11):=
 (QfU I.2).bind fun J=>
 some (I.1,J)
def QaI (I:List t11):Option (List t11):=
 bif (decide (0<=(I.length:Int))&&decide ((I.length:Int)<=(LIM:Int))) then
 (Qc (S:=List t11×Int) (X:=List t11) (fun s8=>
 bif (decide (s8.2<I.length)) then
 bif (inB s8.2 I) then
 (Qa9 (I.getD s8.2.toNat (0,(0,0)))).bind fun U=>
 bif (inB s8.2 s8.1) then
 some (inl (s8.1.set s8.2.toNat U,wrap .i64 (s8.2+1)))
 else none
 else none
 else
 some (inr s8.1)) (List.replicate (Int.toNat (I.length:Int)) (0,(0,0)),0)).bind fun J=>
 some J
 else none
def Qd8 (I:t21):Option (t21):=
 (Qan I.2.2.1).bind fun J=>
 (QaI I.2.2.2).bind fun U=>
 some (I.1,(I.2.1,(J,U)))
def Qdh (I:List (List t10)):Option (List (List t10)):=
 bif (decide (0<=(I.length:Int))&&decide ((I.length:Int)<=(LIM:Int))) then
 (Qc (S:=List (List t10)×Int) (X:=List (List t10)) (fun s8=>
 bif (decide (s8.2<I.length)) then
 bif (inB s8.2 I) then
 (Qan (I.getD s8.2.toNat [])).bind fun U=>
 bif (inB s8.2 s8.1) then
 some (inl (s8.1.set s8.2.toNat U,wrap .i64 (s8.2+1)))
 else none
 else none
 else
 some (inr s8.1)) (List.replicate (Int.toNat (I.length:Int)) [],0)).bind fun J=>
 some J
 else none
def QcS (I:t18):Option (t18):=
 (Qdh I.2.1).bind fun J=>
 (QaI I.2.2).bind fun U=>
 some (I.1,(J,U))
def Qek (I:List t18):Option (List t18):=
 bif (decide (0<=(I.length:Int))&&decide ((I.length:Int)<=(LIM:Int))) then
 (Qc (S:=List t18×Int) (X:=List t18) (fun s8=>
 bif (decide (s8.2<I.length)) then
 bif (inB s8.2 I) then
 (QcS (I.getD s8.2.toNat (0,([],[])))).bind fun U=>
 bif (inB s8.2 s8.1) then
 some (inl (s8.1.set s8.2.toNat U,wrap .i64 (s8.2+1)))
 else none
 else none
 else
 some (inr s8.1)) (List.replicate (Int.toNat (I.length:Int)) (0,([],[])),0)).bind fun J=>
 some J
 else none
def Jv (I:t29):Option (t29):=
 (Qdg I.1).bind fun U=>
 (Qd5 I.2.1).bind fun y7=>
 (Qbm I.2.2.1).bind fun y8=>
 (Qd8 I.2.2.2.1).bind fun y9=>
 (Qek I.2.2.2.2).bind fun J=>
 some (U,(y7,(y8,(y9,J))))
def QX (I:Int) (x1:Int) (x2:Int):Option (Bool):=
 (bif (decide (x1<=I)) then
 some (decide (I<=x2))
 else
 some false:Option (Bool)).bind fun J=>
 some J
def QeN (I:List UInt8):Option (Bool):=
 (QX (I.length:Int) 1 300).bind fun J=>
 some J
def QT (I:List (List UInt8)) (x1:List UInt8):Option (Int):=
 (Qc (S:=Int) (X:=(Unit)⊕(Int)) (fun s5=>
 bif (decide (s5<I.length)) then
 bif (inB s5 I) then
 bif (decide ((x1:List UInt8)=I.getD s5.toNat [])) then
 some (inr (inr s5))
 else
 some (inl (wrap .i64 (s5+1)))
 else none
 else
 some (inr (inl ()))) 0).bind fun J=>
 Sum.elim (fun (j7:Unit)=>
 some (-1)) (fun (U:Int)=>
 some U) J
def ZS (I:List (List UInt8)) (x1:List UInt8):Option (Bool):=
 (QT I x1).bind fun J=>
 some (decide (0<=J))
def JH (I:Int):Option (Bool):=
 (QX I 1 999).bind fun J=>
 some J
def Yb (I:List t5) (x1:t5):Option (Int):=
 (Qc (S:=Int) (X:=(Unit)⊕(Int)) (fun s5=>
 bif (decide (s5<I.length)) then
 bif (inB s5 I) then
 bif (Sh.beq (.prod (.int .i64) (.int .i64)) x1 (I.getD s5.toNat (0,0))) then
 some (inr (inr s5))
 else
 some (inl (wrap .i64 (s5+1)))
 else none
 else
 some (inr (inl ()))) 0).bind fun J=>
 Sum.elim (fun (j7:Unit)=>
 some (-1)) (fun (U:Int)=>
 some U) J
def Q5 (I:List t5) (x1:t5):Option (Bool):=
 (Yb I x1).bind fun J=>
 some (decide (0<=J))
def Qbj (J:t25):Option (Int):=
 (bif (decide (60<(J.1.length:Int))) then
 some true
 else
 some (decide (120<(J.2.length:Int))):Option (Bool)).bind fun j34=>
 bif j34 then
 some 2
 else
 (Qc (S:=Int) (X:=(Unit)⊕(Int)) (fun U=>
 bif (decide (U<J.1.length)) then
 bif (inB U J.1) then
 (QeN (J.1.getD U.toNat [])).bind fun y40=>
 bif (!y40) then
 some (inr (inr 2))
 else
 bif (QA 0 U J.1) then
 (ZS (cut 0 U J.1) (J.1.getD U.toNat [])).bind fun y41=>
 bif y41 then
 some (inr (inr 7))
 else
 some (inl (wrap .i64 (U+1)))
 else none
 else none
 else
 some (inr (inl ()))) 0).bind fun j42=>
 Sum.elim (fun (j43:Unit)=>
 (Qc (S:=Int) (X:=(Unit)⊕(Int)) (fun I=>
 bif (decide (I<J.2.length)) then
 bif (inB I J.2) then
 ((JH (J.2.getD I.toNat (0,0)).1).bind fun y60=>
 bif (!y60) then
 some true
 else
 (QX (J.2.getD I.toNat (0,0)).2 1 (J.1.length:Int)).bind fun y61=>
 some (!y61):Option (Bool)).bind fun j62=>
 bif j62 then
 some (inr (inr 3))
 else
 bif (QA 0 I J.2) then
 (Q5 (cut 0 I J.2) (J.2.getD I.toNat (0,0))).bind fun y63=>
 bif y63 then
 some (inr (inr 7))
 else
 some (inl (wrap .i64 (I+1)))
 else none
 else none
 else
 some (inr (inl ()))) 0).bind fun j64=>
 Sum.elim (fun (j65:Unit)=>
 some 0) (fun (j66:Int)=>
 some j66) j64) (fun (j44:Int)=>
 some j44) j42
def Zq (I:List t11) (x1:t11->Option Bool):Option (Int):=
 (Qc (S:=Int) (X:=(Unit)⊕(Int)) (fun s10=>
 bif (decide (s10<I.length)) then
 bif (inB s10 I) then
 (x1 (I.getD s10.toNat (0,(0,0)))).bind fun J=>
 bif J then
 some (inr (inr s10))
 else
 some (inl (wrap .i64 (s10+1)))
 else none
 else
 some (inr (inl ()))) 0).bind fun U=>
 Sum.elim (fun (j13:Unit)=>
 some (-1)) (fun (j14:Int)=>
 some j14) U
def Qdx (I:t11) (x1:Int):Option (Bool):=
 some (decide (I.1=x1))
def ZZ (I:List t11) (x1:Int):Option (Int):=
 (Zq I (fun (a4:t11)=>(Qdx a4 x1).bind fun J=>some J)).bind fun U=>
 some U
def Jy (I:Int):Option (Bool):=
 (QX I 1 60).bind fun J=>
 some J
def Qcy (J:List t11) (x1:t11):Option (Int):=
 (ZZ J x1.2.1).bind fun I=>
 (bif (!decide (x1.2.1=0)) then
 some (decide (0<=I))
 else
 some false:Option (Bool)).bind fun U=>
 (bif U then
 bif (inB I J) then
 some (wrap .i64 ((J.getD I.toNat (0,(0,0))).2.2+1))
 else none
 else
 some 1:Option (Int)).bind fun j13=>
 ((Jy x1.1).bind fun y16=>
 bif (!y16) then
 some true
 else
 (QX x1.2.2 1 40).bind fun y17=>
 some (!y17):Option (Bool)).bind fun j18=>
 bif j18 then
 some 3
 else
 (ZZ J x1.1).bind fun y19=>
 bif (decide (0<=y19)) then
 some 7
 else
 (bif (!decide (x1.2.1=0)) then
 some (decide (I<0))
 else
 some false:Option (Bool)).bind fun j20=>
 bif j20 then
 some 4
 else
 bif (!decide (x1.2.2=j13)) then
 some 1
 else
 some 0
def Qcx (I:List t11):Option (Int):=
 bif (decide (60<(I.length:Int))) then
 some 2
 else
 (Qc (S:=Int) (X:=(Unit)⊕(Int)) (fun s10=>
 bif (decide (s10<I.length)) then
 bif (inB s10 I) then
 bif (QA 0 s10 I) then
 (Qcy (cut 0 s10 I) (I.getD s10.toNat (0,(0,0)))).bind fun J=>
 bif (!decide (J=0)) then
 some (inr (inr J))
 else
 some (inl (wrap .i64 (s10+1)))
 else none
 else none
 else
 some (inr (inl ()))) 0).bind fun U=>
 Sum.elim (fun (j13:Unit)=>
 some 0) (fun (j14:Int)=>
 some j14) U
def Qbf (I:t25) (x1:Int):Option (Bool):=
 (QX x1 1 (I.1.length:Int)).bind fun J=>
 some J
def YS (I:t25) (x1:Int):Option (List UInt8×Int):=
 (Qbf I x1).bind fun J=>
 bif (!J) then
 some ([],3)
 else
 bif (inB (wrap .i64 (x1 - 1)) I.1) then
 some (I.1.getD (wrap .i64 (x1 - 1)).toNat [],0)
 else none
def YU (I:List UInt8) (x1:List UInt8):Option (List (List UInt8)):=
 QgD I x1
def Qf3 (I:Int) (x1:Int):Option (List UInt8):=
 fmtS I x1
def Y5 (I:Int):Option (List UInt8):=
 (Qf3 I 10).bind fun J=>
 some J
def ZJ (I:List UInt8):Option (Int):=
 numO I
def Qau (x0:List UInt8) (x1:List UInt8):Option (List Int):=
 (YU x0 x1).bind fun J=>
 (Qc (S:=List Int×Int) (X:=List Int) (fun s10=>
 bif (decide (s10.2<J.length)) then
 bif (inB s10.2 J) then
 (ZJ (J.getD s10.2.toNat [])).bind fun I=>
 bif decide (s10.1.length+([I]:List Int).length<=LIM) then
 some (inl (s10.1.append ([I]:List Int),wrap .i64 (s10.2+1)))
 else none
 else none
 else
 some (inr s10.1)) (([]:List Int),0)).bind fun U=>
 some U
def Zd (I:List Int) (x1:Int):Option (Int):=
 (Qc (S:=Int) (X:=(Unit)⊕(Int)) (fun s5=>
 bif (decide (s5<I.length)) then
 bif (inB s5 I) then
 bif (decide (x1=I.getD s5.toNat 0)) then
 some (inr (inr s5))
 else
 some (inl (wrap .i64 (s5+1)))
 else none
 else
 some (inr (inl ()))) 0).bind fun J=>
 Sum.elim (fun (j7:Unit)=>
 some (-1)) (fun (U:Int)=>
 some U) J
def Qw (I:List Int) (x1:Int):Option (Bool):=
 (Zd I x1).bind fun J=>
 some (decide (0<=J))
def QbL (I:t2):Option (Int):=
 ((QX I.1 0 60).bind fun J=>
 bif (!J) then
 some true
 else
 (QX I.2.1 1 40).bind fun U=>
 bif (!U) then
 some true
 else
 (JH I.2.2.1).bind fun y23=>
 some (!y23):Option (Bool)).bind fun j24=>
 bif j24 then
 some 3
 else
 bif (!(Sh.beq .bool (decide (I.1=0)) (decide (I.2.1=1)))) then
 some 1
 else
 bif (decide (6<(I.2.2.2.length:Int))) then
 some 2
 else
 (Qc (S:=Int) (X:=(Unit)⊕(Int)) (fun s29=>
 bif (decide (s29<I.2.2.2.length)) then
 bif (inB s29 I.2.2.2) then
 (Jy (I.2.2.2.getD s29.toNat 0)).bind fun y30=>
 bif (!y30) then
 some (inr (inr 3))
 else
 bif (QA 0 s29 I.2.2.2) then
 (Qw (cut 0 s29 I.2.2.2) (I.2.2.2.getD s29.toNat 0)).bind fun y31=>
 bif y31 then
 some (inr (inr 7))
 else
 some (inl (wrap .i64 (s29+1)))
 else none
 else none
 else
 some (inr (inl ()))) 0).bind fun j32=>
 Sum.elim (fun (j33:Unit)=>
 some 0) (fun (j34:Int)=>
 some j34) j32
def YE (I:List (List UInt8)) (x1:List UInt8):Option (List UInt8):=
 Qih I x1
def J5 (J:List Int) (x1:List UInt8):Option (List UInt8):=
 (Qc (S:=List (List UInt8)×Int) (X:=List (List UInt8)) (fun s9=>
 bif (decide (s9.2<J.length)) then
 bif (inB s9.2 J) then
 (Y5 (J.getD s9.2.toNat 0)).bind fun I=>
 bif decide (s9.1.length+([I]:List (List UInt8)).length<=LIM) then
 some (inl (s9.1.append ([I]:List (List UInt8)),wrap .i64 (s9.2+1)))
 else none
 else none
 else
 some (inr s9.1)) (([]:List (List UInt8)),0)).bind fun U=>
 (YE U x1).bind fun y12=>
 some y12
def Qco (I:t2):Option (List UInt8):=
 (bif (decide (0<(I.2.2.2.length:Int))) then
 (J5 I.2.2.2 [43]).bind fun y6=>
 some y6
 else
 some [45]:Option (List UInt8)).bind fun U=>
 (J5 ([I.1,I.2.1,I.2.2.1]:List Int) [32]).bind fun J=>
 bif decide (List.length [98,108,111,99,107,32]+J.length<=LIM) then
 bif decide ((List.append [98,108,111,99,107,32] J).length+List.length [32]<=LIM) then
 bif decide (((List.append [98,108,111,99,107,32] J).append [32]).length+U.length<=LIM) then
 some (((List.append [98,108,111,99,107,32] J).append [32]).append U)
 else none
 else none
 else none
def Yz (x0:List UInt8):Option (t2×Bool):=
 (YU x0 [32]).bind fun I=>
 (bif (decide (300<(x0.length:Int))) then
 some true
 else
 some (!decide ((I.length:Int)=5)):Option (Bool)).bind fun j15=>
 bif j15 then
 some ((0,(0,(0,[]))),false)
 else
 bif (inB 1 I) then
 (ZJ (I.getD (Int.toNat 1) [])).bind fun U=>
 bif (inB 2 I) then
 (ZJ (I.getD (Int.toNat 2) [])).bind fun y17=>
 bif (inB 3 I) then
 (ZJ (I.getD (Int.toNat 3) [])).bind fun y18=>
 bif (inB 4 I) then
 (bif (!decide ((I.getD (Int.toNat 4) []:List UInt8)=[45])) then
 bif (inB 4 I) then
 (Qau (I.getD (Int.toNat 4) []) [43]).bind fun y20=>
 some (U,(y17,(y18,y20)))
 else none
 else
 some (U,(y17,(y18,[]))):Option (t2)).bind fun J=>
 ((QbL J).bind fun y24=>
 bif (!decide (y24=0)) then
 some true
 else
 (Qco J).bind fun y25=>
 some (!decide ((y25:List UInt8)=x0)):Option (Bool)).bind fun j26=>
 bif j26 then
 some ((0,(0,(0,[]))),false)
 else
 some (J,true)
 else none
 else none
 else none
 else none
def Z4 (U:t25) (x1:Int):Option (t2×Int):=
 (YS U x1).bind fun I=>
 bif (!decide (I.2=0)) then
 some ((0,(0,(0,[]))),I.2)
 else
 (Yz I.1).bind fun J=>
 bif (!J.2) then
 some ((0,(0,(0,[]))),5)
 else
 some (J.1,0)
def ZP (I:List Int):Option (List Int):=
 bif List.isEmpty I then
 agree (some ([]:List Int)) (bif decide (([]:List Int).length+I.length<=LIM) then
 some (([]:List Int).append I)
 else none)
 else
 bif decide (([]:List Int).length+I.length<=LIM) then
 some (([]:List Int).append I)
 else none
def Qgk (I:t6):Option (t6):=
 (ZP I.1).bind fun J=>
 some (J,I.2)
def QcT (I:t7):Option (t7):=
 (Qgk I.2).bind fun J=>
 some (I.1,J)
def ZA (I:List t10):Option (List t10):=
 (Qc (S:=List t10×Int) (X:=List t10) (fun s8=>
 bif (decide (s8.2<I.length)) then
 bif (inB s8.2 I) then
 (QcT (I.getD s8.2.toNat ((0,0),((0,([],(0,0))),(0,false)))).2.1).bind fun U=>
 bif decide (s8.1.length+([((I.getD s8.2.toNat ((0,0),((0,([],(0,0))),(0,false)))).1,(U,(I.getD s8.2.toNat ((0,0),((0,([],(0,0))),(0,false)))).2.2))]:List t10).length<=LIM) then
 some (inl (s8.1.append ([((I.getD s8.2.toNat ((0,0),((0,([],(0,0))),(0,false)))).1,(U,(I.getD s8.2.toNat ((0,0),((0,([],(0,0))),(0,false)))).2.2))]:List t10),wrap .i64 (s8.2+1)))
 else none
 else none
 else
 some (inr s8.1)) (([]:List t10),0)).bind fun J=>
 some J
def Qt (I:List t11):Option (List t11):=
 bif List.isEmpty I then
 agree (some ([]:List t11)) (bif decide (([]:List t11).length+I.length<=LIM) then
 some (([]:List t11).append I)
 else none)
 else
 bif decide (([]:List t11).length+I.length<=LIM) then
 some (([]:List t11).append I)
 else none
def Qbl (I:t21):Option (t21):=
 (ZA I.2.2.1).bind fun J=>
 (Qt I.2.2.2).bind fun U=>
 some (I.1,(I.2.1,(J,U)))
def QaD:Option (List (List UInt8)):=
 some ([[112,97,121],[106,111,105,110],[108,101,97,118,101]]:List (List UInt8))
def Qbd (J:t6) (x1:List UInt8):Option (List UInt8):=
 (Y5 J.2.1).bind fun I=>
 bif decide (I.length+x1.length<=LIM) then
 bif decide ((I.append x1).length+List.length [111,102]<=LIM) then
 bif decide (((I.append x1).append [111,102]).length+x1.length<=LIM) then
 (J5 J.1 [44]).bind fun U=>
 bif decide ((((I.append x1).append [111,102]).append x1).length+U.length<=LIM) then
 (bif (!decide (J.2.2=0)) then
 bif decide (x1.length+List.length [97,102,116,101,114]<=LIM) then
 bif decide ((x1.append [97,102,116,101,114]).length+x1.length<=LIM) then
 (Y5 J.2.2).bind fun y9=>
 bif decide (((x1.append [97,102,116,101,114]).append x1).length+y9.length<=LIM) then
 bif decide (((((I.append x1).append [111,102]).append x1).append U).length+(((x1.append [97,102,116,101,114]).append x1).append y9).length<=LIM) then
 some (((((I.append x1).append [111,102]).append x1).append U).append (((x1.append [97,102,116,101,114]).append x1).append y9))
 else none
 else none
 else none
 else none
 else
 some ((((I.append x1).append [111,102]).append x1).append U):Option (List UInt8)).bind fun j10=>
 some j10
 else none
 else none
 else none
 else none
def QcK (J:t14):Option (List UInt8×Int):=
 (QaD).bind fun U=>
 bif (inB J.1 U) then
 (bif (!decide (J.1=0)) then
 (Y5 J.2.1).bind fun y25=>
 bif decide (([U.getD J.1.toNat []]:List (List UInt8)).length+([y25]:List (List UInt8)).length<=LIM) then
 some (([U.getD J.1.toNat []]:List (List UInt8)).append ([y25]:List (List UInt8)))
 else none
 else
 some ([U.getD J.1.toNat []]:List (List UInt8)):Option (List (List UInt8))).bind fun j26=>
 (Qc (S:=List (List UInt8)×Int) (X:=List (List UInt8)) (fun s31=>
 bif (decide (s31.2<J.2.2.1.length)) then
 bif (inB s31.2 J.2.2.1) then
 (Y5 (J.2.2.1.getD s31.2.toNat (0,0)).1).bind fun y32=>
 bif decide (y32.length+List.length [58]<=LIM) then
 (Y5 (J.2.2.1.getD s31.2.toNat (0,0)).2).bind fun y33=>
 bif decide ((y32.append [58]).length+y33.length<=LIM) then
 bif decide (s31.1.length+([(y32.append [58]).append y33]:List (List UInt8)).length<=LIM) then
 some (inl (s31.1.append ([(y32.append [58]).append y33]:List (List UInt8)),wrap .i64 (s31.2+1)))
 else none
 else none
 else none
 else none
 else
 some (inr s31.1)) (([]:List (List UInt8)),0)).bind fun j34=>
 (YE j34 [43]).bind fun y35=>
 bif decide (j26.length+([y35]:List (List UInt8)).length<=LIM) then
 (Qc (S:=List (List UInt8)×Int) (X:=List (List UInt8)) (fun I=>
 bif (decide (I.2<J.2.2.2.length)) then
 bif (inB I.2 J.2.2.2) then
 (Y5 (J.2.2.2.getD I.2.toNat (0,([],(0,0)))).1).bind fun y41=>
 bif decide (y41.length+List.length [61]<=LIM) then
 (Qbd (J.2.2.2.getD I.2.toNat (0,([],(0,0)))).2 [95]).bind fun y42=>
 bif decide ((y41.append [61]).length+y42.length<=LIM) then
 bif decide (I.1.length+([(y41.append [61]).append y42]:List (List UInt8)).length<=LIM) then
 some (inl (I.1.append ([(y41.append [61]).append y42]:List (List UInt8)),wrap .i64 (I.2+1)))
 else none
 else none
 else none
 else none
 else
 some (inr I.1)) (j26.append ([y35]:List (List UInt8)),0)).bind fun j43=>
 (YE j43 [32]).bind fun y44=>
 bif (decide (300<(y44.length:Int))) then
 some ([],2)
 else
 some (y44,0)
 else none
 else none
def Yi (I:Int):Option (Bool):=
 (QX I 0 999).bind fun J=>
 some J
def ZW (I:List Int) (x1:Int->Option Bool):Option (Int):=
 (Qc (S:=Int) (X:=(Unit)⊕(Int)) (fun s10=>
 bif (decide (s10<I.length)) then
 bif (inB s10 I) then
 (x1 (I.getD s10.toNat 0)).bind fun J=>
 bif J then
 some (inr (inr s10))
 else
 some (inl (wrap .i64 (s10+1)))
 else none
 else
 some (inr (inl ()))) 0).bind fun U=>
 Sum.elim (fun (j13:Unit)=>
 some (-1)) (fun (j14:Int)=>
 some j14) U
def Q1 (I:List Int) (x1:Int->Option Bool):Option (Bool):=
 (ZW I x1).bind fun J=>
 some (decide (0<=J))
def Qep (I:Int):Option (Bool):=
 (JH I).bind fun J=>
 some (!J)
def Qd3 (I:List Int):Option (Bool):=
 (Q1 I (fun (a4:Int)=>(Qep a4).bind fun J=>some J)).bind fun U=>
 some (!U)
def Qdk (I:List Int):Option (Bool):=
 (Qc (S:=Int) (X:=(Unit)⊕(Bool)) (fun s5=>
 bif (decide (s5<I.length)) then
 bif (inB s5 I) then
 bif (inB (wrap .i64 (s5 - 1)) I) then
 bif (decide (I.getD s5.toNat 0<=I.getD (wrap .i64 (s5 - 1)).toNat 0)) then
 some (inr (inr false))
 else
 some (inl (wrap .i64 (s5+1)))
 else none
 else none
 else
 some (inr (inl ()))) 1).bind fun J=>
 Sum.elim (fun (j7:Unit)=>
 some true) (fun (U:Bool)=>
 some U) J
def Jw (I:t6):Option (Int):=
 (QX (I.1.length:Int) 1 3).bind fun J=>
 bif (!J) then
 some 2
 else
 ((Qd3 I.1).bind fun U=>
 bif (!U) then
 some true
 else
 (QX I.2.1 1 (I.1.length:Int)).bind fun y15=>
 bif (!y15) then
 some true
 else
 (Yi I.2.2).bind fun y16=>
 some (!y16):Option (Bool)).bind fun j17=>
 bif j17 then
 some 3
 else
 (Qdk I.1).bind fun y18=>
 bif (!y18) then
 some 1
 else
 some 0
def YX (I:t7):Option (Int):=
 (QX I.1 1 1000000).bind fun J=>
 bif (!J) then
 some 3
 else
 (Jw I.2).bind fun U=>
 some U
def Yp (I:List t5) (x1:t5):Option (Int):=
 (Qc (S:=Int) (X:=(Unit)⊕(Int)) (fun s5=>
 bif (decide (s5<I.length)) then
 bif (inB s5 I) then
 bif (Sh.beq (.prod (.int .i64) (.int .i64)) x1 (I.getD s5.toNat (0,0))) then
 some (inr (inr s5))
 else
 some (inl (wrap .i64 (s5+1)))
 else none
 else
 some (inr (inl ()))) 0).bind fun J=>
 Sum.elim (fun (j7:Unit)=>
 some (-1)) (fun (U:Int)=>
 some U) J
def QI (I:List t5) (x1:t5):Option (Bool):=
 (Yp I x1).bind fun J=>
 some (decide (0<=J))
def QaM (J:t5):Option (Bool):=
 ((Jy J.1).bind fun U=>
 bif U then
 (QX J.2 0 3).bind fun y9=>
 some y9
 else
 some false:Option (Bool)).bind fun I=>
 some I
def J8 (I:Int):Option (Bool):=
 (bif (decide (I<1)) then
 some true
 else
 some (decide (4<I)):Option (Bool)).bind fun J=>
 some J
def Qb2 (I:t14):Option (Int):=
 ((QX I.1 0 2).bind fun y31=>
 bif (!y31) then
 some true
 else
 some (!(Sh.beq .bool (decide (I.1=0)) (decide (I.2.1=0)))):Option (Bool)).bind fun j32=>
 bif j32 then
 some 1
 else
 (bif (!decide (I.2.1=0)) then
 (JH I.2.1).bind fun y34=>
 some (!y34)
 else
 some false:Option (Bool)).bind fun j35=>
 bif j35 then
 some 3
 else
 ((J8 (I.2.2.1.length:Int)).bind fun y38=>
 bif y38 then
 some true
 else
 (J8 (I.2.2.2.length:Int)).bind fun y39=>
 some y39:Option (Bool)).bind fun j40=>
 bif j40 then
 some 2
 else
 (Qc (S:=Int) (X:=(Unit)⊕(Int)) (fun J=>
 bif (decide (J<I.2.2.1.length)) then
 bif (inB J I.2.2.1) then
 (QaM (I.2.2.1.getD J.toNat (0,0))).bind fun y46=>
 bif (!y46) then
 some (inr (inr 3))
 else
 bif (QA 0 J I.2.2.1) then
 (QI (cut 0 J I.2.2.1) (I.2.2.1.getD J.toNat (0,0))).bind fun y47=>
 bif y47 then
 some (inr (inr 7))
 else
 some (inl (wrap .i64 (J+1)))
 else none
 else none
 else
 some (inr (inl ()))) 0).bind fun j48=>
 Sum.elim (fun (j49:Unit)=>
 (Qc (S:=Int) (X:=(Unit)⊕(Int)) (fun U=>
 bif (decide (U<I.2.2.2.length)) then
 bif (inB U I.2.2.2) then
 (YX (I.2.2.2.getD U.toNat (0,([],(0,0))))).bind fun y54=>
 bif (!decide (y54=0)) then
 some (inr (inr y54))
 else
 some (inl (wrap .i64 (U+1)))
 else none
 else
 some (inr (inl ()))) 0).bind fun j55=>
 Sum.elim (fun (j56:Unit)=>
 (bif (decide (I.1=1)) then
 bif (inB 0 I.2.2.2) then
 some (decide ((I.2.2.2.getD (Int.toNat 0) (0,([],(0,0)))).1<100))
 else none
 else
 some false:Option (Bool)).bind fun j58=>
 bif j58 then
 some 8
 else
 some 0) (fun (j57:Int)=>
 some j57) j55) (fun (j50:Int)=>
 some j50) j48
def QeU (I:List UInt8) (x1:List UInt8):Option (List UInt8×List UInt8×Bool):=
 cutS I x1
def Qc4 (x0:List UInt8) (x1:List UInt8):Option (t6×Bool):=
 (YU x0 x1).bind fun I=>
 (bif (decide (300<(x0.length:Int))) then
 some true
 else
 bif (!decide ((I.length:Int)=3)) then
 some (!decide ((I.length:Int)=5))
 else
 some false:Option (Bool)).bind fun j14=>
 bif j14 then
 some (([],(0,0)),false)
 else
 bif (inB 0 I) then
 (ZJ (I.getD (Int.toNat 0) [])).bind fun U=>
 bif (inB 2 I) then
 (Qau (I.getD (Int.toNat 2) []) [44]).bind fun y16=>
 (bif (decide ((I.length:Int)=5)) then
 bif (inB 4 I) then
 (ZJ (I.getD (Int.toNat 4) [])).bind fun y18=>
 some (y16,(U,y18))
 else none
 else
 some (y16,(U,0)):Option (t6)).bind fun J=>
 ((Jw J).bind fun y22=>
 bif (!decide (y22=0)) then
 some true
 else
 (Qbd J x1).bind fun y23=>
 some (!decide ((y23:List UInt8)=x0)):Option (Bool)).bind fun j24=>
 bif j24 then
 some (([],(0,0)),false)
 else
 some (J,true)
 else none
 else none
def Qea (U:List UInt8):Option (t7×Bool):=
 (QeU U [61]).bind fun I=>
 (Qc4 I.2.1 [95]).bind fun J=>
 (ZJ I.1).bind fun y6=>
 some ((y6,J.1),J.2)
def QeG (x0:List UInt8):Option (t14×Bool):=
 (YU x0 [32]).bind fun I=>
 (QaD).bind fun y33=>
 bif (inB 0 I) then
 (QT y33 (I.getD (Int.toNat 0) [])).bind fun y34=>
 (bif (decide (300<(x0.length:Int))) then
 some true
 else
 some (decide (y34<0)):Option (Bool)).bind fun j35=>
 bif j35 then
 some ((0,(0,([],[]))),false)
 else
 bif (QA 1 (I.length:Int) I) then
 (bif (!decide (y34=0)) then
 some (decide (0<(((I.drop (Int.toNat 1)).take ((I.length:Int) - 1).toNat).length:Int)))
 else
 some false:Option (Bool)).bind fun j36=>
 (bif j36 then
 bif (inB 0 ((I.drop (Int.toNat 1)).take ((I.length:Int) - 1).toNat)) then
 (ZJ (((I.drop (Int.toNat 1)).take ((I.length:Int) - 1).toNat).getD (Int.toNat 0) [])).bind fun y38=>
 bif (QA 1 (((I.drop (Int.toNat 1)).take ((I.length:Int) - 1).toNat).length:Int) ((I.drop (Int.toNat 1)).take ((I.length:Int) - 1).toNat)) then
 some ((((I.drop (Int.toNat 1)).take ((I.length:Int) - 1).toNat).drop (Int.toNat 1)).take ((((I.drop (Int.toNat 1)).take ((I.length:Int) - 1).toNat).length:Int) - 1).toNat,(y34,(y38,([],[]))))
 else none
 else none
 else
 some ((I.drop (Int.toNat 1)).take ((I.length:Int) - 1).toNat,(y34,(0,([],[])))):Option (List (List UInt8)×t14)).bind fun J=>
 (bif (decide ((J.1.length:Int)<2)) then
 some true
 else
 some (decide (5<(J.1.length:Int))):Option (Bool)).bind fun j40=>
 bif j40 then
 some ((0,(0,([],[]))),false)
 else
 bif (inB 0 J.1) then
 (YU (J.1.getD (Int.toNat 0) []) [43]).bind fun y41=>
 (Qc (S:=Int×t14) (X:=t14) (fun U=>
 bif (decide (U.1<y41.length)) then
 bif (inB U.1 y41) then
 (QeU (y41.getD U.1.toNat []) [58]).bind fun y49=>
 (ZJ y49.1).bind fun y50=>
 (ZJ y49.2.1).bind fun y51=>
 bif decide (U.2.2.2.1.length+([(y50,y51)]:List t5).length<=LIM) then
 some (inl (wrap .i64 (U.1+1),(U.2.1,(U.2.2.1,(U.2.2.2.1.append ([(y50,y51)]:List t5),U.2.2.2.2)))))
 else none
 else none
 else
 some (inr U.2)) (0,J.2)).bind fun j52=>
 bif (QA 1 (J.1.length:Int) J.1) then
 (Qc (S:=Int×t14) (X:=(t14)⊕(Bool×t14)) (fun s55=>
 bif (decide (s55.1<((J.1.drop (Int.toNat 1)).take ((J.1.length:Int) - 1).toNat).length)) then
 bif (inB s55.1 ((J.1.drop (Int.toNat 1)).take ((J.1.length:Int) - 1).toNat)) then
 (Qea (((J.1.drop (Int.toNat 1)).take ((J.1.length:Int) - 1).toNat).getD s55.1.toNat [])).bind fun y56=>
 bif (!y56.2) then
 some (inr (inr (false,(0,(0,([],[]))))))
 else
 bif decide (s55.2.2.2.2.length+([y56.1]:List t7).length<=LIM) then
 some (inl (wrap .i64 (s55.1+1),(s55.2.1,(s55.2.2.1,(s55.2.2.2.1,s55.2.2.2.2.append ([y56.1]:List t7))))))
 else none
 else none
 else
 some (inr (inl s55.2))) (0,j52)).bind fun j57=>
 Sum.elim (fun (j58:t14)=>
 (Qb2 j58).bind fun y60=>
 bif (!decide (y60=0)) then
 some ((0,(0,([],[]))),false)
 else
 (QcK j58).bind fun y61=>
 (bif (decide (y61.2=0)) then
 some (decide ((y61.1:List UInt8)=x0),j58)
 else
 some (false,j58):Option (Bool×t14)).bind fun j62=>
 some (j62.2,j62.1)) (fun (j59:Bool×t14)=>
 some (j59.2,j59.1)) j57
 else none
 else none
 else none
 else none
def JQ (U:t25) (x1:Int):Option (t14×Int):=
 (YS U x1).bind fun I=>
 bif (!decide (I.2=0)) then
 some ((0,(0,([],[]))),I.2)
 else
 (QeG I.1).bind fun J=>
 bif (!J.2) then
 some ((0,(0,([],[]))),5)
 else
 some (J.1,0)
def Jj (I:List t10) (x1:t10->t10->Option Int):Option (List t10):=
 QhY I x1
def QbF (I:Int):Option (Bool):=
 some (!decide (I=I))
def Ym (I:Int) (x1:Int):Option (Int):=
 (QbF I).bind fun U=>
 (QbF x1).bind fun J=>
 bif U then
 bif J then
 some 0
 else
 some (-1)
 else
 bif J then
 some 1
 else
 bif (decide (I<x1)) then
 some (-1)
 else
 bif (decide (x1<I)) then
 some 1
 else
 some 0
def QfO (I:List Int):Option (Int):=
 (Qc (S:=Int) (X:=(Unit)⊕(Int)) (fun s5=>
 bif (decide (s5<I.length)) then
 bif (inB s5 I) then
 bif (!decide (I.getD s5.toNat 0=0)) then
 some (inr (inr (I.getD s5.toNat 0)))
 else
 some (inl (wrap .i64 (s5+1)))
 else none
 else
 some (inr (inl ()))) 0).bind fun J=>
 Sum.elim (fun (j7:Unit)=>
 some 0) (fun (U:Int)=>
 some U) J
def YG (I:t5) (x1:t5):Option (Int):=
 (Ym I.1 x1.1).bind fun J=>
 (Ym I.2 x1.2).bind fun U=>
 (QfO ([J,U]:List Int)).bind fun y6=>
 some y6
def YA (I:t10) (x1:t10):Option (Int):=
 (YG I.1 x1.1).bind fun J=>
 some J
def J6 (I:List t10):Option (List t10):=
 (Jj I (fun (a5:t10) (J:t10)=>(YA a5 J).bind fun U=>some U)).bind fun y8=>
 some y8
def Za (J:List t10) (x1:t5) (x2:t10->t5->Option Int):Option (Int×Bool):=
 (Qc (S:=Int×Int) (X:=Int) (fun s16=>
 bif (decide (s16.1<s16.2)) then
 bif (inB (wrap .i64 (Int.fdiv (wrap .u64 (wrap .i64 (s16.1+s16.2))) (2 ^ 1))) J) then
 (x2 (J.getD (wrap .i64 (Int.fdiv (wrap .u64 (wrap .i64 (s16.1+s16.2))) (2 ^ 1))).toNat ((0,0),((0,([],(0,0))),(0,false)))) x1).bind fun y17=>
 (bif (decide (y17<0)) then
 some (wrap .i64 ((wrap .i64 (Int.fdiv (wrap .u64 (wrap .i64 (s16.1+s16.2))) (2 ^ 1)))+1),s16.2)
 else
 some (s16.1,wrap .i64 (Int.fdiv (wrap .u64 (wrap .i64 (s16.1+s16.2))) (2 ^ 1))):Option (Int×Int)).bind fun U=>
 some (inl (U.1,U.2))
 else none
 else
 some (inr s16.1)) (0,(J.length:Int))).bind fun I=>
 (bif (decide (I<J.length)) then
 bif (inB I J) then
 (x2 (J.getD I.toNat ((0,0),((0,([],(0,0))),(0,false)))) x1).bind fun y21=>
 some (I,decide (y21=0))
 else none
 else
 some (I,false):Option (Int×Bool)).bind fun j22=>
 some (j22.1,j22.2)
def Qa2 (I:t10) (x1:t5):Option (Int):=
 (YG I.1 x1).bind fun J=>
 some J
def Yg (J:List t10) (x1:t5):Option (Int×Bool):=
 (Za J x1 (fun (a5:t10) (U:t5)=>(Qa2 a5 U).bind fun r7=>some r7)).bind fun I=>
 some (I.1,I.2)
def Qar (U:List t10) (x1:t14):Option (List t10×Int):=
 (Qc (S:=List t10×Int) (X:=(List t10)⊕(List t10×Int)) (fun s12=>
 bif (decide (s12.2<x1.2.2.1.length)) then
 bif (inB s12.2 x1.2.2.1) then
 (Yg U (x1.2.2.1.getD s12.2.toNat (0,0))).bind fun I=>
 bif (!I.2) then
 some (inr (inr (([]:List t10),4)))
 else
 bif (inB I.1 U) then
 bif decide (s12.1.length+([U.getD I.1.toNat ((0,0),((0,([],(0,0))),(0,false)))]:List t10).length<=LIM) then
 some (inl (s12.1.append ([U.getD I.1.toNat ((0,0),((0,([],(0,0))),(0,false)))]:List t10),wrap .i64 (s12.2+1)))
 else none
 else none
 else none
 else
 some (inr (inl s12.1))) (([]:List t10),0)).bind fun j14=>
 Sum.elim (fun (j15:List t10)=>
 (ZA j15).bind fun y17=>
 (J6 y17).bind fun y18=>
 some (y18,0)) (fun (J:List t10×Int)=>
 some (J.1,J.2)) j14
def Qbe (I:t25) (x1:List UInt8):Option (Int):=
 (QT I.1 x1).bind fun J=>
 some (wrap .i64 (J+1))
def QeW (I:t10) (x1:Int):Option (Bool):=
 ((Yi I.2.2.1).bind fun U=>
 bif U then
 (Yi x1).bind fun y9=>
 bif y9 then
 bif (!I.2.2.2) then
 some true
 else
 some (decide (wrap .i64 (I.2.2.1+2)<=x1))
 else
 some false
 else
 some false:Option (Bool)).bind fun J=>
 some J
def Z5 (I:t25) (x1:Int) (x2:Int):Option (Bool):=
 (Q5 I.2 (x1,x2)).bind fun J=>
 some J
def JX (x0:t25) (x1:t6) (x2:Int) (x3:Int):Option (Int):=
 bif (decide (x3<x1.2.2)) then
 some 9
 else
 (Qc (S:=Int×Int) (X:=Int) (fun s13=>
 bif (decide (s13.2<x1.1.length)) then
 bif (inB s13.2 x1.1) then
 (Z5 x0 (x1.1.getD s13.2.toNat 0) x2).bind fun I=>
 (bif I then
 some (wrap .i64 (s13.1+1))
 else
 some s13.1:Option (Int)).bind fun J=>
 some (inl (J,wrap .i64 (s13.2+1)))
 else none
 else
 some (inr s13.1)) (0,0)).bind fun U=>
 bif (decide (U<x1.2.1)) then
 some 6
 else
 some 0
def Qf2 (I:List t10):Option (Int):=
 (Qc (S:=Int×Int) (X:=Int) (fun s3=>
 bif (decide (s3.2<I.length)) then
 bif (inB s3.2 I) then
 some (inl (wrap .i64 (s3.1+(I.getD s3.2.toNat ((0,0),((0,([],(0,0))),(0,false)))).2.1.1),wrap .i64 (s3.2+1)))
 else none
 else
 some (inr s3.1)) (0,0)).bind fun J=>
 some J
def QeM (I:t14):Option (Int):=
 (Qc (S:=Int×Int) (X:=Int) (fun s3=>
 bif (decide (s3.2<I.2.2.2.length)) then
 bif (inB s3.2 I.2.2.2) then
 some (inl (wrap .i64 (s3.1+(I.2.2.2.getD s3.2.toNat (0,([],(0,0)))).1),wrap .i64 (s3.2+1)))
 else none
 else
 some (inr s3.1)) (0,0)).bind fun J=>
 some J
def J0 (x0:t25) (x1:List t10) (x2:t14) (x3:Int):Option (Int×Int):=
 (QcK x2).bind fun J=>
 bif (!decide (J.2=0)) then
 some (0,J.2)
 else
 (Qbe x0 J.1).bind fun U=>
 bif (decide (U=0)) then
 some (0,4)
 else
 (Qar x1 x2).bind fun I=>
 bif (!decide (I.2=0)) then
 some (0,I.2)
 else
 (Qc (S:=Int) (X:=(Unit)⊕(Int×Int)) (fun s26=>
 bif (decide (s26<I.1.length)) then
 bif (inB s26 I.1) then
 (QeW (I.1.getD s26.toNat ((0,0),((0,([],(0,0))),(0,false)))) x3).bind fun y27=>
 bif (!y27) then
 some (inr (inr (0,9)))
 else
 (JX x0 (I.1.getD s26.toNat ((0,0),((0,([],(0,0))),(0,false)))).2.1.2 U x3).bind fun y28=>
 bif (!decide (y28=0)) then
 some (inr (inr (0,y28)))
 else
 some (inl (wrap .i64 (s26+1)))
 else none
 else
 some (inr (inl ()))) 0).bind fun j29=>
 Sum.elim (fun (j30:Unit)=>
 (Qf2 I.1).bind fun y32=>
 (QeM x2).bind fun y33=>
 (bif (decide (x2.1=2)) then
 (Z5 x0 x2.2.1 U).bind fun y35=>
 some (!y35)
 else
 some false:Option (Bool)).bind fun j36=>
 bif j36 then
 some (0,6)
 else
 bif (decide (wrap .i64 (y32 - y33)<0)) then
 some (0,8)
 else
 some (wrap .i64 (y32 - y33),0)) (fun (j31:Int×Int)=>
 some (j31.1,j31.2)) j29
def Q8 (J:List t11) (x1:Int) (x2:t11->Int->Option Int):Option (Int×Bool):=
 (Qc (S:=Int×Int) (X:=Int) (fun s16=>
 bif (decide (s16.1<s16.2)) then
 bif (inB (wrap .i64 (Int.fdiv (wrap .u64 (wrap .i64 (s16.1+s16.2))) (2 ^ 1))) J) then
 (x2 (J.getD (wrap .i64 (Int.fdiv (wrap .u64 (wrap .i64 (s16.1+s16.2))) (2 ^ 1))).toNat (0,(0,0))) x1).bind fun y17=>
 (bif (decide (y17<0)) then
 some (wrap .i64 ((wrap .i64 (Int.fdiv (wrap .u64 (wrap .i64 (s16.1+s16.2))) (2 ^ 1)))+1),s16.2)
 else
 some (s16.1,wrap .i64 (Int.fdiv (wrap .u64 (wrap .i64 (s16.1+s16.2))) (2 ^ 1))):Option (Int×Int)).bind fun U=>
 some (inl (U.1,U.2))
 else none
 else
 some (inr s16.1)) (0,(J.length:Int))).bind fun I=>
 (bif (decide (I<J.length)) then
 bif (inB I J) then
 (x2 (J.getD I.toNat (0,(0,0))) x1).bind fun y21=>
 some (I,decide (y21=0))
 else none
 else
 some (I,false):Option (Int×Bool)).bind fun j22=>
 some (j22.1,j22.2)
def Qag (I:t11) (x1:Int):Option (Int):=
 (Ym I.1 x1).bind fun J=>
 some J
def Y7 (J:List t11) (x1:Int):Option (Int×Bool):=
 (Q8 J x1 (fun (a5:t11) (U:Int)=>(Qag a5 U).bind fun r7=>some r7)).bind fun I=>
 some (I.1,I.2)
def QZ (I:List t11) (x1:Int) (x2:Int):Option (List t11):=
 delS I x1 x2
def QV (I:List t11) (x1:t11->Option Bool):Option (Int):=
 (Qc (S:=Int) (X:=(Unit)⊕(Int)) (fun s10=>
 bif (decide (s10<I.length)) then
 bif (inB s10 I) then
 (x1 (I.getD s10.toNat (0,(0,0)))).bind fun J=>
 bif J then
 some (inr (inr s10))
 else
 some (inl (wrap .i64 (s10+1)))
 else none
 else
 some (inr (inl ()))) 0).bind fun U=>
 Sum.elim (fun (j13:Unit)=>
 some (-1)) (fun (j14:Int)=>
 some j14) U
def Zb (x0:List t11) (x1:t11->Option Bool):Option (List t11):=
 (QV x0 x1).bind fun J=>
 bif (decide (J=(-1))) then
 some x0
 else
 (Qc (S:=List t11×Int×Int) (X:=List t11×Int) (fun s15=>
 bif (decide (s15.2.2<s15.1.length)) then
 bif (inB s15.2.2 s15.1) then
 (x1 (s15.1.getD s15.2.2.toNat (0,(0,0)))).bind fun y16=>
 (bif (!y16) then
 bif (inB s15.2.1 s15.1) then
 some (s15.1.set s15.2.1.toNat (s15.1.getD s15.2.2.toNat (0,(0,0))),wrap .i64 (s15.2.1+1))
 else none
 else
 some (s15.1,s15.2.1):Option (List t11×Int)).bind fun U=>
 some (inl (U.1,(U.2,wrap .i64 (s15.2.2+1))))
 else none
 else
 some (inr (s15.1,s15.2.1))) (x0,(J,wrap .i64 (J+1)))).bind fun I=>
 bif (QA I.2 (I.1.length:Int) I.1) then
 bif (QA 0 I.2 (clr (s:=(.prod (.int .i64) (.prod (.int .i64) (.int .i64)))) I.2 (I.1.length:Int) I.1)) then
 some (((clr (s:=(.prod (.int .i64) (.prod (.int .i64) (.int .i64)))) I.2 (I.1.length:Int) I.1).drop (Int.toNat 0)).take (I.2 - 0).toNat)
 else none
 else none
def QL (I:List t11) (x1:t11->Option Bool):Option (Bool):=
 (QV I x1).bind fun J=>
 some (decide (0<=J))
def YY (I:List t11) (x1:Int) (x2:List t11):Option (List t11):=
 insS I x1 x2
def QbQ (I:t11) (x1:t14):Option (Bool):=
 (QI x1.2.2.1 I.2).bind fun J=>
 some J
def Qcb (I:t11) (x1:t5):Option (Bool):=
 some (Sh.beq (.prod (.int .i64) (.int .i64)) I.2 x1)
def Qbo (x0:List t11) (x1:t14) (x2:Int):Option (List t11×Int):=
 (Jy x2).bind fun y22=>
 bif (!y22) then
 some (([]:List t11),3)
 else
 (Qt x0).bind fun J=>
 (bif (decide (x1.1=2)) then
 (Y7 J x1.2.1).bind fun U=>
 bif (!U.2) then
 some (inr (([]:List t11),4))
 else
 (QZ J U.1 (wrap .i64 (U.1+1))).bind fun y27=>
 some (inl y27)
 else
 some (inl J):Option ((List t11)⊕(List t11×Int))).bind fun j28=>
 Sum.elim (fun (j29:List t11)=>
 (Zb j29 (fun (a31:t11)=>(QbQ a31 x1).bind fun r32=>some r32)).bind fun I=>
 bif (!decide (x1.1=1)) then
 some (I,0)
 else
 (Y7 I x1.2.1).bind fun y34=>
 (bif y34.2 then
 some true
 else
 (QL I (fun (a38:t11)=>(Qcb a38 (x2,0)).bind fun r39=>some r39)).bind fun y40=>
 some y40:Option (Bool)).bind fun j41=>
 bif j41 then
 some (([]:List t11),7)
 else
 bif (decide ((I.length:Int)=8)) then
 some (([]:List t11),2)
 else
 (YY I y34.1 ([(x1.2.1,(x2,0))]:List t11)).bind fun y42=>
 some (y42,0)) (fun (j30:List t11×Int)=>
 some (j30.1,j30.2)) j28
def QM (I:List t10) (x1:t10->Option Bool):Option (Int):=
 (Qc (S:=Int) (X:=(Unit)⊕(Int)) (fun s10=>
 bif (decide (s10<I.length)) then
 bif (inB s10 I) then
 (x1 (I.getD s10.toNat ((0,0),((0,([],(0,0))),(0,false))))).bind fun J=>
 bif J then
 some (inr (inr s10))
 else
 some (inl (wrap .i64 (s10+1)))
 else none
 else
 some (inr (inl ()))) 0).bind fun U=>
 Sum.elim (fun (j13:Unit)=>
 some (-1)) (fun (j14:Int)=>
 some j14) U
def QH (I:List t10) (x1:t10->Option Bool):Option (Bool):=
 (QM I x1).bind fun J=>
 some (decide (0<=J))
def QfR (I:t10) (x1:Int):Option (Bool):=
 some (decide (I.1.1=x1))
def QdE (I:List t10) (x1:Int):Option (Bool):=
 (QH I (fun (a4:t10)=>(QfR a4 x1).bind fun J=>some J)).bind fun U=>
 some U
def JU (x0:List t10) (x1:Int) (x2:List t7) (x3:Int) (x4:Bool):Option (List t10×Int):=
 ((Jy x1).bind fun y23=>
 bif (!y23) then
 some true
 else
 (Yi x3).bind fun y24=>
 some (!y24):Option (Bool)).bind fun j25=>
 bif j25 then
 some (([]:List t10),3)
 else
 bif (decide (4<(x2.length:Int))) then
 some (([]:List t10),2)
 else
 (Qc (S:=Int) (X:=(Unit)⊕(List t10×Int)) (fun s28=>
 bif (decide (s28<x2.length)) then
 bif (inB s28 x2) then
 (YX (x2.getD s28.toNat (0,([],(0,0))))).bind fun J=>
 bif (!decide (J=0)) then
 some (inr (inr (([]:List t10),J)))
 else
 some (inl (wrap .i64 (s28+1)))
 else none
 else
 some (inr (inl ()))) 0).bind fun j30=>
 Sum.elim (fun (j31:Unit)=>
 (QdE x0 x1).bind fun y33=>
 bif y33 then
 some (([]:List t10),7)
 else
 bif (decide (40<wrap .i64 ((x0.length:Int)+(x2.length:Int)))) then
 some (([]:List t10),2)
 else
 (ZA x0).bind fun y34=>
 (Qc (S:=List t10×Int) (X:=List t10) (fun I=>
 bif (decide (I.2<x2.length)) then
 bif (inB I.2 x2) then
 (QcT (x2.getD I.2.toNat (0,([],(0,0))))).bind fun U=>
 bif decide (I.1.length+([((x1,I.2),(U,(x3,x4)))]:List t10).length<=LIM) then
 some (inl (I.1.append ([((x1,I.2),(U,(x3,x4)))]:List t10),wrap .i64 (I.2+1)))
 else none
 else none
 else
 some (inr I.1)) (y34,0)).bind fun j39=>
 (J6 j39).bind fun y40=>
 some (y40,0)) (fun (j32:List t10×Int)=>
 some (j32.1,j32.2)) j30
def QW (I:List t10) (x1:Int) (x2:Int):Option (List t10):=
 delS I x1 x2
def Qcn (x0:List t10) (x1:List t5):Option (List t10×Int):=
 (ZA x0).bind fun U=>
 (Qc (S:=List t10×Int) (X:=(List t10)⊕(List t10×Int)) (fun s17=>
 bif (decide (s17.2<x1.length)) then
 bif (inB s17.2 x1) then
 (Yg s17.1 (x1.getD s17.2.toNat (0,0))).bind fun I=>
 bif (!I.2) then
 some (inr (inr (([]:List t10),4)))
 else
 (QW s17.1 I.1 (wrap .i64 (I.1+1))).bind fun y19=>
 some (inl (y19,wrap .i64 (s17.2+1)))
 else none
 else
 some (inr (inl s17.1))) (U,0)).bind fun j20=>
 Sum.elim (fun (j21:List t10)=>
 some (j21,0)) (fun (J:List t10×Int)=>
 some (J.1,J.2)) j20
def Qed (I:List t10) (x1:t14) (x2:Int) (x3:Int):Option (List t10×Int):=
 (Qar I x1).bind fun J=>
 bif (!decide (J.2=0)) then
 some (([]:List t10),J.2)
 else
 (QdE I x2).bind fun y6=>
 bif y6 then
 some (([]:List t10),7)
 else
 (Qcn I x1.2.2.1).bind fun y7=>
 (JU y7.1 x2 x1.2.2.2 x3 false).bind fun U=>
 some (U.1,U.2)
def Qbp (x0:t25) (x1:t21) (x2:Int) (x3:Int):Option (Int×List t10×Int×t21):=
 (JQ x0 x2).bind fun J=>
 bif (!decide (J.2=0)) then
 some (0,(([]:List t10),(J.2,x1)))
 else
 (J0 x0 x1.2.2.1 J.1 x3).bind fun U=>
 bif (!decide (U.2=0)) then
 some (0,(([]:List t10),(U.2,x1)))
 else
 (Qbo x1.2.2.2 J.1 x2).bind fun y8=>
 bif (!decide (y8.2=0)) then
 some (0,(([]:List t10),(y8.2,x1)))
 else
 (Qar x1.2.2.1 J.1).bind fun y9=>
 (Qed x1.2.2.1 J.1 x2 x3).bind fun I=>
 bif (!decide (I.2=0)) then
 some (0,(([]:List t10),(I.2,x1)))
 else
 some (U.1,(y9.1,(0,(x1.1,(x1.2.1,(I.1,y8.1))))))
def Qc6 (I:Int):Option (Int):=
 bif (decide ((0:Int)<=wrap .i64 (Int.tdiv (wrap .i64 (I - 1)) 8))) then
 some (Int.fdiv 1000 (2 ^ (min (Int.toNat (wrap .i64 (Int.tdiv (wrap .i64 (I - 1)) 8))) 64)))
 else none
def YJ (x0:t25) (x1:t21) (x2:Int):Option (t24):=
 (Z4 x0 x2).bind fun I=>
 bif (!decide (I.2=0)) then
 some (I.2,(0,((0,([],[])),(0,(0,([],[]))))))
 else
 (bif (!decide (I.1.1=x1.1)) then
 some true
 else
 some (!decide (I.1.2.1=wrap .i64 (x1.2.1+1))):Option (Bool)).bind fun j15=>
 bif j15 then
 some (10,(0,((0,([],[])),(0,(0,([],[]))))))
 else
 (Qbl x1).bind fun y16=>
 (Qt x1.2.2.2).bind fun y17=>
 (Qc (S:=Int×Int×t21×t18) (X:=(Int×t21×t18)⊕(t24)) (fun s20=>
 bif (decide (s20.2.1<I.1.2.2.2.length)) then
 bif (inB s20.2.1 I.1.2.2.2) then
 (Qbp x0 s20.2.2.1 (I.1.2.2.2.getD s20.2.1.toNat 0) I.1.2.1).bind fun J=>
 bif (!decide (J.2.2.1=0)) then
 some (inr (inr (J.2.2.1,(0,((0,([],[])),(0,(0,([],[]))))))))
 else
 bif decide (s20.2.2.2.2.1.length+([J.2.1]:List (List t10)).length<=LIM) then
 some (inl (wrap .i64 (s20.1+J.1),(wrap .i64 (s20.2.1+1),(J.2.2.2,(s20.2.2.2.1,(s20.2.2.2.2.1.append ([J.2.1]:List (List t10)),s20.2.2.2.2.2))))))
 else none
 else none
 else
 some (inr (inl (s20.1,(s20.2.2.1,s20.2.2.2))))) (0,(0,(y16,(x2,([],y17)))))).bind fun j22=>
 Sum.elim (fun (U:Int×t21×t18)=>
 (Qc6 I.1.2.1).bind fun y25=>
 bif (decide (1000000<wrap .i64 (y25+U.1))) then
 some (8,(0,((0,([],[])),(0,(0,([],[]))))))
 else
 (JU U.2.1.2.2.1 x2 ([(wrap .i64 (y25+U.1),(([I.1.2.2.1]:List Int),(1,0)))]:List t7) I.1.2.1 true).bind fun y26=>
 bif (!decide (y26.2=0)) then
 some (y26.2,(0,((0,([],[])),(0,(0,([],[]))))))
 else
 some (0,(U.1,(U.2.2,(x2,(I.1.2.1,(y26.1,U.2.1.2.2.2))))))) (fun (j24:t24)=>
 some j24) j22
def JK (x0:t25) (x1:List Int):Option (t24×List t18):=
 (Qc (S:=List t18×Int×t24) (X:=(List t18×t24)⊕(List t18×t24)) (fun s10=>
 bif (decide (s10.2.1<x1.length)) then
 bif (inB s10.2.1 x1) then
 (YJ x0 s10.2.2.2.2.2 (x1.getD s10.2.1.toNat 0)).bind fun I=>
 bif (!decide (I.1=0)) then
 some (inr (inr (([]:List t18),(I.1,(0,((0,([],[])),(0,(0,([],[])))))))))
 else
 bif decide (s10.1.length+([I.2.2.1]:List t18).length<=LIM) then
 some (inl (s10.1.append ([I.2.2.1]:List t18),(wrap .i64 (s10.2.1+1),(0,(wrap .i64 (s10.2.2.2.1+I.2.1),((0,([],[])),I.2.2.2))))))
 else none
 else none
 else
 some (inr (inl (s10.1,s10.2.2)))) (([]:List t18),(0,(0,(0,((0,([],[])),(0,(0,([],[]))))))))).bind fun j12=>
 Sum.elim (fun (J:List t18×t24)=>
 some (J.2,J.1)) (fun (U:List t18×t24)=>
 some (U.2,U.1)) j12
def QbA (I:List Int):Option (List Int):=
 bif Nat.ble (List.length I) 9223372036854775807 then some (List.reverse I) else none
def QaP (I:List t11) (x1:Int):Option (List Int):=
 (ZZ I x1).bind fun y8=>
 (Qc (S:=List Int×Int) (X:=List Int) (fun s11=>
 bif (decide (0<=s11.2)) then
 bif (inB s11.2 I) then
 bif decide (s11.1.length+([(I.getD s11.2.toNat (0,(0,0))).1]:List Int).length<=LIM) then
 bif (inB s11.2 I) then
 (ZZ I (I.getD s11.2.toNat (0,(0,0))).2.1).bind fun J=>
 some (inl (s11.1.append ([(I.getD s11.2.toNat (0,(0,0))).1]:List Int),J))
 else none
 else none
 else none
 else
 some (inr s11.1)) (([]:List Int),y8)).bind fun U=>
 (QbA U).bind fun y14=>
 some y14
def Jl (I:t29) (x1:Int):Option (t24×List t18):=
 (QaP I.2.1 x1).bind fun U=>
 (JK I.1 U).bind fun J=>
 some (J.1,J.2)
def Jg (J:t29):Option (Int):=
 (Qc (S:=Int) (X:=(Unit)⊕(Int)) (fun s20=>
 bif (decide (s20<J.2.1.length)) then
 bif (inB s20 J.2.1) then
 (Z4 J.1 (J.2.1.getD s20.toNat (0,(0,0))).1).bind fun I=>
 bif (!decide (I.2=0)) then
 some (inr (inr I.2))
 else
 (bif (!decide (I.1.1=(J.2.1.getD s20.toNat (0,(0,0))).2.1)) then
 some true
 else
 some (!decide (I.1.2.1=(J.2.1.getD s20.toNat (0,(0,0))).2.2)):Option (Bool)).bind fun j22=>
 bif j22 then
 some (inr (inr 1))
 else
 (Jl J (J.2.1.getD s20.toNat (0,(0,0))).1).bind fun U=>
 bif (!decide (U.1.1=0)) then
 some (inr (inr U.1.1))
 else
 some (inl (wrap .i64 (s20+1)))
 else none
 else
 some (inr (inl ()))) 0).bind fun j24=>
 Sum.elim (fun (j25:Unit)=>
 some 0) (fun (j26:Int)=>
 some j26) j24
def Qc0 (I:List t11) (x1:Int):Option (Bool):=
 (ZZ I x1).bind fun J=>
 some (decide (0<=J))
def QbO (I:List t11) (x1:Int) (x2:Int):Option (Bool):=
 (QaP I x2).bind fun J=>
 (Qw J x1).bind fun U=>
 some U
def QbN (J:List t11) (x1:Int) (x2:Int):Option (Bool):=
 ((QbO J x1 x2).bind fun U=>
 bif U then
 some true
 else
 (QbO J x2 x1).bind fun y9=>
 some y9:Option (Bool)).bind fun I=>
 some I
def QaK (I:Int) (x1:t29) (x2:Int):Option (Bool):=
 (QbN x1.2.1 I x2).bind fun J=>
 some (!J)
def YK (I:t29) (x1:List Int) (x2:Int):Option (Bool):=
 (Q1 x1 (fun (a4:Int)=>(QaK a4 I x2).bind fun J=>some J)).bind fun U=>
 some (!U)
def Jh (I:t29):Option (Int):=
 (Qc (S:=Int) (X:=(Unit)⊕(Int)) (fun s15=>
 bif (decide (s15<I.2.2.1.length)) then
 bif (inB s15 I.2.2.1) then
 (Qc0 I.2.1 (I.2.2.1.getD s15.toNat 0)).bind fun J=>
 bif (!J) then
 some (inr (inr 4))
 else
 bif (QA 0 s15 I.2.2.1) then
 (YK I (cut 0 s15 I.2.2.1) (I.2.2.1.getD s15.toNat 0)).bind fun U=>
 bif (!U) then
 some (inr (inr 10))
 else
 some (inl (wrap .i64 (s15+1)))
 else none
 else none
 else
 some (inr (inl ()))) 0).bind fun j18=>
 Sum.elim (fun (j19:Unit)=>
 some 0) (fun (j20:Int)=>
 some j20) j18
def Qcu (J:Int) (x1:List t11) (x2:t11):Option (Bool):=
 ((QbN x1 J x2.1).bind fun y8=>
 bif (!y8) then
 some true
 else
 (ZZ x1 J).bind fun U=>
 bif (inB U x1) then
 some (decide (x2.2.2<(x1.getD U.toNat (0,(0,0))).2.2))
 else none:Option (Bool)).bind fun I=>
 some I
def QaY (I:List t11) (x1:List Int):Option (Int):=
 (Qc (S:=Int×t11) (X:=t11) (fun s28=>
 bif (decide (s28.1<I.length)) then
 bif (inB s28.1 I) then
 (Q1 x1 (fun (J:Int)=>(Qcu J I (I.getD s28.1.toNat (0,(0,0)))).bind fun U=>some U)).bind fun y31=>
 (bif (!y31) then
 some (decide (s28.2.2.2<(I.getD s28.1.toNat (0,(0,0))).2.2))
 else
 some false:Option (Bool)).bind fun j32=>
 (bif j32 then
 some (I.getD s28.1.toNat (0,(0,0)))
 else
 some s28.2:Option (t11)).bind fun j33=>
 some (inl (wrap .i64 (s28.1+1),j33))
 else none
 else
 some (inr s28.2)) (0,(0,(0,0)))).bind fun j34=>
 some j34.1
def QE (I:List t10) (x1:List t10) (x2:t10->t10->Option Bool):Option (Bool):=
 bif (!decide ((I.length:Int)=(x1.length:Int))) then
 some false
 else
 (Qc (S:=Int) (X:=(Unit)⊕(Bool)) (fun s10=>
 bif (decide (s10<I.length)) then
 bif (inB s10 I) then
 bif (inB s10 x1) then
 (x2 (I.getD s10.toNat ((0,0),((0,([],(0,0))),(0,false)))) (x1.getD s10.toNat ((0,0),((0,([],(0,0))),(0,false))))).bind fun J=>
 bif (!J) then
 some (inr (inr false))
 else
 some (inl (wrap .i64 (s10+1)))
 else none
 else none
 else
 some (inr (inl ()))) 0).bind fun U=>
 Sum.elim (fun (j13:Unit)=>
 some true) (fun (j14:Bool)=>
 some j14) U
def Yf (I:List Int) (x1:List Int):Option (Bool):=
 bif (!decide ((I.length:Int)=(x1.length:Int))) then
 some false
 else
 (Qc (S:=Int) (X:=(Unit)⊕(Bool)) (fun s5=>
 bif (decide (s5<I.length)) then
 bif (inB s5 I) then
 bif (inB s5 x1) then
 bif (!decide (I.getD s5.toNat 0=x1.getD s5.toNat 0)) then
 some (inr (inr false))
 else
 some (inl (wrap .i64 (s5+1)))
 else none
 else none
 else
 some (inr (inl ()))) 0).bind fun J=>
 Sum.elim (fun (j7:Unit)=>
 some true) (fun (U:Bool)=>
 some U) J
def Qck (I:t6) (x1:t6):Option (Bool):=
 ((Yf I.1 x1.1).bind fun J=>
 bif J then
 bif (decide (I.2.1=x1.2.1)) then
 some (decide (I.2.2=x1.2.2))
 else
 some false
 else
 some false:Option (Bool)).bind fun U=>
 some U
def Qbn (I:t7) (x1:t7):Option (Bool):=
 (bif (decide (I.1=x1.1)) then
 (Qck I.2 x1.2).bind fun J=>
 some J
 else
 some false:Option (Bool)).bind fun U=>
 some U
def Qde (I:t10) (x1:t10):Option (Bool):=
 (bif (Sh.beq (.prod (.int .i64) (.int .i64)) I.1 x1.1) then
 (Qbn I.2.1 x1.2.1).bind fun J=>
 bif J then
 bif (decide (I.2.2.1=x1.2.2.1)) then
 some (Sh.beq .bool I.2.2.2 x1.2.2.2)
 else
 some false
 else
 some false
 else
 some false:Option (Bool)).bind fun U=>
 some U
def QaF (I:List t10) (x1:List t10):Option (Bool):=
 (QE I x1 (fun (a5:t10) (J:t10)=>(Qde a5 J).bind fun U=>some U)).bind fun y8=>
 some y8
def Zr (I:List t11) (x1:List t11):Option (Bool):=
 bif (!decide ((I.length:Int)=(x1.length:Int))) then
 some false
 else
 (Qc (S:=Int) (X:=(Unit)⊕(Bool)) (fun s5=>
 bif (decide (s5<I.length)) then
 bif (inB s5 I) then
 bif (inB s5 x1) then
 bif (!(Sh.beq (.prod (.int .i64) (.prod (.int .i64) (.int .i64))) (I.getD s5.toNat (0,(0,0))) (x1.getD s5.toNat (0,(0,0))))) then
 some (inr (inr false))
 else
 some (inl (wrap .i64 (s5+1)))
 else none
 else none
 else
 some (inr (inl ()))) 0).bind fun J=>
 Sum.elim (fun (j7:Unit)=>
 some true) (fun (U:Bool)=>
 some U) J
def JP (I:List t11) (x1:List t11):Option (Bool):=
 (Zr I x1).bind fun J=>
 some J
def QbG (I:t21) (x1:t21):Option (Bool):=
 (bif (decide (I.1=x1.1)) then
 bif (decide (I.2.1=x1.2.1)) then
 (QaF I.2.2.1 x1.2.2.1).bind fun U=>
 bif U then
 (JP I.2.2.2 x1.2.2.2).bind fun y9=>
 some y9
 else
 some false
 else
 some false
 else
 some false:Option (Bool)).bind fun J=>
 some J
def QF (I:List t18) (x1:List t18) (x2:t18->t18->Option Bool):Option (Bool):=
 bif (!decide ((I.length:Int)=(x1.length:Int))) then
 some false
 else
 (Qc (S:=Int) (X:=(Unit)⊕(Bool)) (fun s10=>
 bif (decide (s10<I.length)) then
 bif (inB s10 I) then
 bif (inB s10 x1) then
 (x2 (I.getD s10.toNat (0,([],[]))) (x1.getD s10.toNat (0,([],[])))).bind fun J=>
 bif (!J) then
 some (inr (inr false))
 else
 some (inl (wrap .i64 (s10+1)))
 else none
 else none
 else
 some (inr (inl ()))) 0).bind fun U=>
 Sum.elim (fun (j13:Unit)=>
 some true) (fun (j14:Bool)=>
 some j14) U
def Qx (I:List (List t10)) (x1:List (List t10)) (x2:(List t10)->(List t10)->Option Bool):Option (Bool):=
 bif (!decide ((I.length:Int)=(x1.length:Int))) then
 some false
 else
 (Qc (S:=Int) (X:=(Unit)⊕(Bool)) (fun s10=>
 bif (decide (s10<I.length)) then
 bif (inB s10 I) then
 bif (inB s10 x1) then
 (x2 (I.getD s10.toNat []) (x1.getD s10.toNat [])).bind fun J=>
 bif (!J) then
 some (inr (inr false))
 else
 some (inl (wrap .i64 (s10+1)))
 else none
 else none
 else
 some (inr (inl ()))) 0).bind fun U=>
 Sum.elim (fun (j13:Unit)=>
 some true) (fun (j14:Bool)=>
 some j14) U
def QcB (I:t18) (x1:t18):Option (Bool):=
 (bif (decide (I.1=x1.1)) then
 (Qx I.2.1 x1.2.1 (fun (a17:List t10) (J:List t10)=>(QaF a17 J).bind fun U=>some U)).bind fun y20=>
 bif y20 then
 (JP I.2.2 x1.2.2).bind fun y21=>
 some y21
 else
 some false
 else
 some false:Option (Bool)).bind fun j22=>
 some j22
def QbI (I:t29):Option (Int):=
 (Qbj I.1).bind fun J=>
 bif (!decide (J=0)) then
 some J
 else
 (Qcx I.2.1).bind fun U=>
 bif (!decide (U=0)) then
 some U
 else
 bif (decide (20<(I.2.2.1.length:Int))) then
 some 2
 else
 (Jg I).bind fun y14=>
 bif (!decide (y14=0)) then
 some y14
 else
 (Jh I).bind fun y15=>
 bif (!decide (y15=0)) then
 some y15
 else
 (QaY I.2.1 I.2.2.1).bind fun y16=>
 bif (!decide (I.2.2.2.1.1=y16)) then
 some 10
 else
 (Jl I I.2.2.2.1.1).bind fun y17=>
 (QbG y17.1.2.2.2 I.2.2.2.1).bind fun y18=>
 bif (!y18) then
 some 10
 else
 (QF y17.2 I.2.2.2.2 (fun (a19:t18) (a20:t18)=>(QcB a19 a20).bind fun r21=>some r21)).bind fun y22=>
 bif (!y22) then
 some 1
 else
 some 0
def Z6 (I:List (List UInt8)):Option (List (List UInt8)):=
 bif List.isEmpty I then
 agree (some ([]:List (List UInt8))) (bif decide (([]:List (List UInt8)).length+I.length<=LIM) then
 some (([]:List (List UInt8)).append I)
 else none)
 else
 bif decide (([]:List (List UInt8)).length+I.length<=LIM) then
 some (([]:List (List UInt8)).append I)
 else none
def ZG (I:List t5):Option (List t5):=
 bif List.isEmpty I then
 agree (some ([]:List t5)) (bif decide (([]:List t5).length+I.length<=LIM) then
 some (([]:List t5).append I)
 else none)
 else
 bif decide (([]:List t5).length+I.length<=LIM) then
 some (([]:List t5).append I)
 else none
def QcE (I:t25):Option (t25):=
 (Z6 I.1).bind fun J=>
 (ZG I.2).bind fun U=>
 some (J,U)
def ZD (I:List t11):Option (List t11):=
 bif List.isEmpty I then
 agree (some ([]:List t11)) (bif decide (([]:List t11).length+I.length<=LIM) then
 some (([]:List t11).append I)
 else none)
 else
 bif decide (([]:List t11).length+I.length<=LIM) then
 some (([]:List t11).append I)
 else none
def Qeb (I:t18):Option (t18):=
 (Qt I.2.2).bind fun y7=>
 (Qc (S:=Int×t18) (X:=t18) (fun s10=>
 bif (decide (s10.1<I.2.1.length)) then
 bif (inB s10.1 I.2.1) then
 (ZA (I.2.1.getD s10.1.toNat [])).bind fun J=>
 bif decide (s10.2.2.1.length+([J]:List (List t10)).length<=LIM) then
 some (inl (wrap .i64 (s10.1+1),(s10.2.1,(s10.2.2.1.append ([J]:List (List t10)),s10.2.2.2))))
 else none
 else none
 else
 some (inr s10.2)) (0,(I.1,([],y7)))).bind fun U=>
 some U
def Qbk (I:t29):Option (t29):=
 (QcE I.1).bind fun U=>
 (ZD I.2.1).bind fun y11=>
 (ZP I.2.2.1).bind fun y12=>
 (Qbl I.2.2.2.1).bind fun y13=>
 (Qc (S:=Int×t29) (X:=t29) (fun s16=>
 bif (decide (s16.1<I.2.2.2.2.length)) then
 bif (inB s16.1 I.2.2.2.2) then
 (Qeb (I.2.2.2.2.getD s16.1.toNat (0,([],[])))).bind fun J=>
 bif decide (s16.2.2.2.2.2.length+([J]:List t18).length<=LIM) then
 some (inl (wrap .i64 (s16.1+1),(s16.2.1,(s16.2.2.1,(s16.2.2.2.1,(s16.2.2.2.2.1,s16.2.2.2.2.2.append ([J]:List t18)))))))
 else none
 else none
 else
 some (inr s16.2)) (0,(U,(y11,(y12,(y13,[])))))).bind fun j18=>
 some j18
def Jz (I:t11) (x1:t11):Option (Bool):=
 some (Sh.beq (.prod (.int .i64) (.int .i64)) I.2 x1.2)
def QaN (J:List t11):Option (Int):=
 bif (decide (8<(J.length:Int))) then
 some 2
 else
 (Qc (S:=Int) (X:=(Unit)⊕(Int)) (fun I=>
 bif (decide (I<J.length)) then
 bif (inB I J) then
 ((JH (J.getD I.toNat (0,(0,0))).1).bind fun y49=>
 bif (!y49) then
 some true
 else
 (QaM (J.getD I.toNat (0,(0,0))).2).bind fun y50=>
 some (!y50):Option (Bool)).bind fun j51=>
 bif j51 then
 some (inr (inr 3))
 else
 (bif (decide (0<I)) then
 bif (inB (wrap .i64 (I - 1)) J) then
 some (decide ((J.getD I.toNat (0,(0,0))).1<=(J.getD (wrap .i64 (I - 1)).toNat (0,(0,0))).1))
 else none
 else
 some false:Option (Bool)).bind fun j52=>
 bif j52 then
 some (inr (inr 1))
 else
 some (inl (wrap .i64 (I+1)))
 else none
 else
 some (inr (inl ()))) 0).bind fun j53=>
 Sum.elim (fun (j54:Unit)=>
 (Qc (S:=Int) (X:=(Unit)⊕(Int)) (fun U=>
 bif (decide (U<J.length)) then
 bif (inB U J) then
 bif (QA 0 U J) then
 (QL (cut 0 U J) (fun (a63:t11)=>(Jz a63 (J.getD U.toNat (0,(0,0)))).bind fun r64=>some r64)).bind fun y65=>
 bif y65 then
 some (inr (inr 7))
 else
 some (inl (wrap .i64 (U+1)))
 else none
 else none
 else
 some (inr (inl ()))) 0).bind fun j66=>
 Sum.elim (fun (j67:Unit)=>
 some 0) (fun (j68:Int)=>
 some j68) j66) (fun (j55:Int)=>
 some j55) j53
def Qaa (J:List t10):Option (Int):=
 bif (decide (40<(J.length:Int))) then
 some 2
 else
 (Qc (S:=Int) (X:=(Unit)⊕(Int)) (fun I=>
 bif (decide (I<J.length)) then
 bif (inB I J) then
 ((QaM (J.getD I.toNat ((0,0),((0,([],(0,0))),(0,false)))).1).bind fun y58=>
 bif (!y58) then
 some true
 else
 (Yi (J.getD I.toNat ((0,0),((0,([],(0,0))),(0,false)))).2.2.1).bind fun y59=>
 bif (!y59) then
 some true
 else
 (QX (J.getD I.toNat ((0,0),((0,([],(0,0))),(0,false)))).2.1.1 1 1000000).bind fun y60=>
 some (!y60):Option (Bool)).bind fun j61=>
 bif j61 then
 some (inr (inr 3))
 else
 (Jw (J.getD I.toNat ((0,0),((0,([],(0,0))),(0,false)))).2.1.2).bind fun U=>
 bif (!decide (U=0)) then
 some (inr (inr U))
 else
 (bif (decide (0<I)) then
 bif (inB (wrap .i64 (I - 1)) J) then
 (YG (J.getD (wrap .i64 (I - 1)).toNat ((0,0),((0,([],(0,0))),(0,false)))).1 (J.getD I.toNat ((0,0),((0,([],(0,0))),(0,false)))).1).bind fun y64=>
 some (decide (0<=y64))
 else none
 else
 some false:Option (Bool)).bind fun j65=>
 bif j65 then
 some (inr (inr 1))
 else
 some (inl (wrap .i64 (I+1)))
 else none
 else
 some (inr (inl ()))) 0).bind fun j66=>
 Sum.elim (fun (j67:Unit)=>
 some 0) (fun (j68:Int)=>
 some j68) j66
def QfK (I:t10) (x1:List t5):Option (Bool):=
 (QI x1 I.1).bind fun J=>
 some (!J)
def QfC (x0:List t10) (x1:List t5):Option (Bool):=
 (bif (decide ((x0.length:Int)=(x1.length:Int))) then
 (QH x0 (fun (I:t10)=>(QfK I x1).bind fun J=>some J)).bind fun U=>
 some (!U)
 else
 some false:Option (Bool)).bind fun j14=>
 some j14
def Q0 (x0:List t10) (x1:t10->Option Bool):Option (List t10):=
 (QM x0 x1).bind fun J=>
 bif (decide (J=(-1))) then
 some x0
 else
 (Qc (S:=List t10×Int×Int) (X:=List t10×Int) (fun s15=>
 bif (decide (s15.2.2<s15.1.length)) then
 bif (inB s15.2.2 s15.1) then
 (x1 (s15.1.getD s15.2.2.toNat ((0,0),((0,([],(0,0))),(0,false))))).bind fun y16=>
 (bif (!y16) then
 bif (inB s15.2.1 s15.1) then
 some (s15.1.set s15.2.1.toNat (s15.1.getD s15.2.2.toNat ((0,0),((0,([],(0,0))),(0,false)))),wrap .i64 (s15.2.1+1))
 else none
 else
 some (s15.1,s15.2.1):Option (List t10×Int)).bind fun U=>
 some (inl (U.1,(U.2,wrap .i64 (s15.2.2+1))))
 else none
 else
 some (inr (s15.1,s15.2.1))) (x0,(J,wrap .i64 (J+1)))).bind fun I=>
 bif (QA I.2 (I.1.length:Int) I.1) then
 bif (QA 0 I.2 (clr (s:=(.prod (.prod (.int .i64) (.int .i64)) (.prod (.prod (.int .i64) (.prod (.list (.int .i64)) (.prod (.int .i64) (.int .i64)))) (.prod (.int .i64) .bool)))) I.2 (I.1.length:Int) I.1)) then
 some (((clr (s:=(.prod (.prod (.int .i64) (.int .i64)) (.prod (.prod (.int .i64) (.prod (.list (.int .i64)) (.prod (.int .i64) (.int .i64)))) (.prod (.int .i64) .bool)))) I.2 (I.1.length:Int) I.1).drop (Int.toNat 0)).take (I.2 - 0).toNat)
 else none
 else none
def ZF (I:List t10):Option (List t10):=
 bif List.isEmpty I then
 agree (some ([]:List t10)) (bif decide (([]:List t10).length+I.length<=LIM) then
 some (([]:List t10).append I)
 else none)
 else
 bif decide (([]:List t10).length+I.length<=LIM) then
 some (([]:List t10).append I)
 else none
def Qen (I:t10) (x1:Int):Option (Bool):=
 some (!decide (I.1.1=x1))
def Qd4 (x0:List t10) (x1:Int) (x2:List t7):Option (Bool):=
 (ZF x0).bind fun J=>
 (Q0 J (fun (U:t10)=>(Qen U x1).bind fun r20=>some r20)).bind fun I=>
 bif (!decide ((I.length:Int)=(x2.length:Int))) then
 some false
 else
 (Qc (S:=Int) (X:=(Unit)⊕(Bool)) (fun s28=>
 bif (decide (s28<I.length)) then
 bif (inB s28 I) then
 (bif (!decide ((I.getD s28.toNat ((0,0),((0,([],(0,0))),(0,false)))).1.2=s28)) then
 some true
 else
 bif (inB s28 x2) then
 (Qbn (I.getD s28.toNat ((0,0),((0,([],(0,0))),(0,false)))).2.1 (x2.getD s28.toNat (0,([],(0,0))))).bind fun y30=>
 some (!y30)
 else none:Option (Bool)).bind fun j31=>
 bif j31 then
 some (inr (inr false))
 else
 some (inl (wrap .i64 (s28+1)))
 else none
 else
 some (inr (inl ()))) 0).bind fun j32=>
 Sum.elim (fun (j33:Unit)=>
 some true) (fun (j34:Bool)=>
 some j34) j32
def Z3 (I:List t5) (x1:t5->Option Bool):Option (Int):=
 (Qc (S:=Int) (X:=(Unit)⊕(Int)) (fun s10=>
 bif (decide (s10<I.length)) then
 bif (inB s10 I) then
 (x1 (I.getD s10.toNat (0,0))).bind fun J=>
 bif J then
 some (inr (inr s10))
 else
 some (inl (wrap .i64 (s10+1)))
 else none
 else
 some (inr (inl ()))) 0).bind fun U=>
 Sum.elim (fun (j13:Unit)=>
 some (-1)) (fun (j14:Int)=>
 some j14) U
def Zk (I:List t5) (x1:t5->Option Bool):Option (Bool):=
 (Z3 I x1).bind fun J=>
 some (decide (0<=J))
def Qfi (I:t5) (x1:List t10):Option (Bool):=
 (Yg x1 I).bind fun J=>
 some J.2
def Qfh (I:t10) (x1:Int):Option (Bool):=
 some (decide (I.1.1=x1))
def QeQ (x0:List t10) (x1:t14) (x2:Int) (x3:List t10):Option (List t10×Int):=
 (Jy x2).bind fun y13=>
 bif (!y13) then
 some (([]:List t10),3)
 else
 (QfC x3 x1.2.2.1).bind fun y14=>
 bif (!y14) then
 some (([]:List t10),1)
 else
 (Qd4 x0 x2 x1.2.2.2).bind fun y15=>
 bif (!y15) then
 some (([]:List t10),4)
 else
 (Zk x1.2.2.1 (fun (a16:t5)=>(Qfi a16 x0).bind fun r17=>some r17)).bind fun y18=>
 bif y18 then
 some (([]:List t10),7)
 else
 (ZA x0).bind fun y19=>
 (Q0 y19 (fun (a20:t10)=>(Qfh a20 x2).bind fun r21=>some r21)).bind fun I=>
 (ZA x3).bind fun J=>
 bif decide (I.length+J.length<=LIM) then
 (J6 (I.append J)).bind fun U=>
 bif (decide (40<(U.length:Int))) then
 some (([]:List t10),2)
 else
 some (U,0)
 else none
def Qe6 (x0:List t10) (x1:t14) (x2:Int) (x3:List t10):Option (t16):=
 (Qaa x0).bind fun y9=>
 (Qaa x3).bind fun I=>
 (Qb2 x1).bind fun J=>
 (Qc (S:=Int) (X:=(Unit)⊕(t16)) (fun s12=>
 bif (decide (s12<([y9,I,J]:List Int).length)) then
 bif (inB s12 ([y9,I,J]:List Int)) then
 bif (!decide (([y9,I,J]:List Int).getD s12.toNat 0=0)) then
 some (inr (inr (([y9,I,J]:List Int).getD s12.toNat 0,[])))
 else
 some (inl (wrap .i64 (s12+1)))
 else none
 else
 some (inr (inl ()))) 0).bind fun j13=>
 Sum.elim (fun (j14:Unit)=>
 (QeQ x0 x1 x2 x3).bind fun U=>
 some (U.2,U.1)) (fun (j15:t16)=>
 some j15) j13
def Y3 (x0:t25) (x1:t21) (x2:t18):Option (t24):=
 (bif (decide (x1.1=0)) then
 some true
 else
 some (!decide (x1.1=x2.1)):Option (Bool)).bind fun j19=>
 bif j19 then
 some (10,(0,((0,([],[])),(0,(0,([],[]))))))
 else
 (Z4 x0 x1.1).bind fun I=>
 bif (!decide (I.2=0)) then
 some (I.2,(0,((0,([],[])),(0,(0,([],[]))))))
 else
 (bif (!decide (I.1.2.1=x1.2.1)) then
 some true
 else
 some (!decide ((x2.2.1.length:Int)=(I.1.2.2.2.length:Int))):Option (Bool)).bind fun j21=>
 bif j21 then
 some (1,(0,((0,([],[])),(0,(0,([],[]))))))
 else
 (QaN x2.2.2).bind fun y22=>
 bif (!decide (y22=0)) then
 some (y22,(0,((0,([],[])),(0,(0,([],[]))))))
 else
 (Yg x1.2.2.1 (x1.1,0)).bind fun J=>
 bif (!J.2) then
 some (4,(0,((0,([],[])),(0,(0,([],[]))))))
 else
 (ZA x1.2.2.1).bind fun y24=>
 (QW y24 J.1 (wrap .i64 (J.1+1))).bind fun y25=>
 (Qc (S:=List t10×Int) (X:=(List t10)⊕(t24)) (fun s30=>
 bif (decide (0<=s30.2)) then
 bif (inB s30.2 I.1.2.2.2) then
 (JQ x0 (I.1.2.2.2.getD s30.2.toNat 0)).bind fun U=>
 bif (!decide (U.2=0)) then
 some (inr (inr (U.2,(0,((0,([],[])),(0,(0,([],[]))))))))
 else
 bif (inB s30.2 I.1.2.2.2) then
 bif (inB s30.2 x2.2.1) then
 (Qe6 s30.1 U.1 (I.1.2.2.2.getD s30.2.toNat 0) (x2.2.1.getD s30.2.toNat [])).bind fun y32=>
 bif (!decide (y32.1=0)) then
 some (inr (inr (y32.1,(0,((0,([],[])),(0,(0,([],[]))))))))
 else
 some (inl (y32.2,wrap .i64 (s30.2 - 1)))
 else none
 else none
 else none
 else
 some (inr (inl s30.1))) (y25,wrap .i64 ((I.1.2.2.2.length:Int) - 1))).bind fun j33=>
 Sum.elim (fun (j34:List t10)=>
 (Qt x2.2.2).bind fun y36=>
 some (0,(0,((0,([],[])),(I.1.1,(wrap .i64 (x1.2.1 - 1),(j34,y36))))))) (fun (j35:t24)=>
 some j35) j33
def J7 (I:t29):Option (Int×t29):=
 bif (inB (wrap .i64 ((I.2.2.2.2.length:Int) - 1)) I.2.2.2.2) then
 (Y3 I.1 I.2.2.2.1 (I.2.2.2.2.getD (wrap .i64 ((I.2.2.2.2.length:Int) - 1)).toNat (0,([],[])))).bind fun J=>
 (bif (decide (J.1=0)) then
 bif (QA 0 (wrap .i64 ((I.2.2.2.2.length:Int) - 1)) I.2.2.2.2) then
 some (J,(I.1,(I.2.1,(I.2.2.1,(J.2.2.2,(I.2.2.2.2.drop (Int.toNat 0)).take ((wrap .i64 ((I.2.2.2.2.length:Int) - 1)) - 0).toNat)))))
 else none
 else
 some (J,I):Option (t24×t29)).bind fun U=>
 some (U.1.1,U.2)
 else none
def Qdf (I:t29) (x1:Int):Option (Int×t29):=
 (YJ I.1 I.2.2.2.1 x1).bind fun J=>
 (bif (decide (J.1=0)) then
 bif decide (I.2.2.2.2.length+([J.2.2.1]:List t18).length<=LIM) then
 some (J,(I.1,(I.2.1,(I.2.2.1,(J.2.2.2,I.2.2.2.2.append ([J.2.2.1]:List t18))))))
 else none
 else
 some (J,I):Option (t24×t29)).bind fun U=>
 some (U.1.1,U.2)
def QbH (x0:t29) (x1:Int):Option (Int×Int×t29):=
 (QaP x0.2.1 x1).bind fun I=>
 (Qc (S:=Int×t29) (X:=(Int×t29)⊕(Int×Int×t29)) (fun s35=>
 (bif (!decide (s35.2.2.2.2.1.1=0)) then
 (Qw I s35.2.2.2.2.1.1).bind fun y37=>
 some (!y37)
 else
 some false:Option (Bool)).bind fun j38=>
 bif j38 then
 (J7 s35.2).bind fun y39=>
 bif (!decide (y39.1=0)) then
 some (inr (inr (0,(y39.1,y39.2))))
 else
 some (inl (wrap .i64 (s35.1+1),y39.2))
 else
 some (inr (inl (s35.1,s35.2)))) (0,x0)).bind fun j40=>
 Sum.elim (fun (j41:Int×t29)=>
 (Zd I j41.2.2.2.2.1.1).bind fun U=>
 bif (QA (wrap .i64 (U+1)) (I.length:Int) I) then
 (Qc (S:=Int×Int×t29) (X:=(Int×t29)⊕(Int×Int×t29)) (fun J=>
 bif (decide (J.2.1<((I.drop (wrap .i64 (U+1)).toNat).take ((I.length:Int) - (wrap .i64 (U+1))).toNat).length)) then
 bif (inB J.2.1 ((I.drop (wrap .i64 (U+1)).toNat).take ((I.length:Int) - (wrap .i64 (U+1))).toNat)) then
 (Qdf J.2.2 (((I.drop (wrap .i64 (U+1)).toNat).take ((I.length:Int) - (wrap .i64 (U+1))).toNat).getD J.2.1.toNat 0)).bind fun y47=>
 bif (!decide (y47.1=0)) then
 some (inr (inr (0,(y47.1,y47.2))))
 else
 some (inl (wrap .i64 (J.1+1),(wrap .i64 (J.2.1+1),y47.2)))
 else none
 else
 some (inr (inl (J.1,J.2.2)))) (j41.1,(0,j41.2))).bind fun j48=>
 Sum.elim (fun (j49:Int×t29)=>
 some (j49.1,(0,j49.2))) (fun (j50:Int×Int×t29)=>
 some (j50.1,(j50.2.1,j50.2.2))) j48
 else none) (fun (j42:Int×Int×t29)=>
 some (j42.1,(j42.2.1,j42.2.2))) j40
def JN (J:t29) (x1:Int):Option (t31×t29):=
 (QbH J x1).bind fun I=>
 bif (!decide (I.2.1=0)) then
 some ((I.2.1,(0,(([],[]),([],([],((0,(0,([],[]))),[])))))),I.2.2)
 else
 (Qbk I.2.2).bind fun U=>
 some ((0,(I.1,U)),I.2.2)
def QcC (J:t29) (x1:Int):Option (t31):=
 (Qbk J).bind fun I=>
 (Qc0 J.2.1 x1).bind fun y8=>
 bif (!y8) then
 some (4,(0,(([],[]),([],([],((0,(0,([],[]))),[]))))))
 else
 (YK J J.2.2.1 x1).bind fun y9=>
 bif (!y9) then
 some (10,(0,(([],[]),([],([],((0,(0,([],[]))),[]))))))
 else
 (Qw J.2.2.1 x1).bind fun U=>
 bif U then
 some (0,(0,I))
 else
 bif (decide ((J.2.2.1.length:Int)=20)) then
 some (2,(0,(([],[]),([],([],((0,(0,([],[]))),[]))))))
 else
 bif decide (I.2.2.1.length+([x1]:List Int).length<=LIM) then
 (QaY I.2.1 (I.2.2.1.append ([x1]:List Int))).bind fun y11=>
 (JN (I.1,(I.2.1,(I.2.2.1.append ([x1]:List Int),I.2.2.2))) y11).bind fun y12=>
 some y12.1
 else none
def QaA (I:t29) (x1:Int):Option (t31):=
 (QbI I).bind fun J=>
 bif (!decide (J=0)) then
 some (J,(0,(([],[]),([],([],((0,(0,([],[]))),[]))))))
 else
 (QcC I x1).bind fun U=>
 some U
def Qcz (I:List (List UInt8)) (x1:List (List UInt8)):Option (Bool):=
 bif (!decide ((I.length:Int)=(x1.length:Int))) then
 some false
 else
 (Qc (S:=Int) (X:=(Unit)⊕(Bool)) (fun s5=>
 bif (decide (s5<I.length)) then
 bif (inB s5 I) then
 bif (inB s5 x1) then
 bif (!decide ((I.getD s5.toNat []:List UInt8)=x1.getD s5.toNat [])) then
 some (inr (inr false))
 else
 some (inl (wrap .i64 (s5+1)))
 else none
 else none
 else
 some (inr (inl ()))) 0).bind fun J=>
 Sum.elim (fun (j7:Unit)=>
 some true) (fun (U:Bool)=>
 some U) J
def QeX (I:t5) (x1:t5):Option (Bool):=
 bif (!decide (I.1=x1.1)) then
 some false
 else
 bif (!decide (I.2=x1.2)) then
 some false
 else
 some true
def QdU (I:List t5) (x1:List t5):Option (Bool):=
 bif (!decide ((I.length:Int)=(x1.length:Int))) then
 some false
 else
 (Qc (S:=Int) (X:=(Unit)⊕(Bool)) (fun s10=>
 bif (decide (s10<I.length)) then
 bif (inB s10 I) then
 bif (inB s10 x1) then
 (QeX (I.getD s10.toNat (0,0)) (x1.getD s10.toNat (0,0))).bind fun J=>
 bif (!J) then
 some (inr (inr false))
 else
 some (inl (wrap .i64 (s10+1)))
 else none
 else none
 else
 some (inr (inl ()))) 0).bind fun U=>
 Sum.elim (fun (j13:Unit)=>
 some true) (fun (j14:Bool)=>
 some j14) U
def Qdl (I:t25) (x1:t25):Option (Bool):=
 (Qcz I.1 x1.1).bind fun J=>
 bif (!J) then
 some false
 else
 (QdU I.2 x1.2).bind fun U=>
 bif (!U) then
 some false
 else
 some true
def Qe8 (I:t11) (x1:t11):Option (Bool):=
 bif (!decide (I.1=x1.1)) then
 some false
 else
 bif (!decide (I.2.1=x1.2.1)) then
 some false
 else
 bif (!decide (I.2.2=x1.2.2)) then
 some false
 else
 some true
def QdV (I:List t11) (x1:List t11):Option (Bool):=
 bif (!decide ((I.length:Int)=(x1.length:Int))) then
 some false
 else
 (Qc (S:=Int) (X:=(Unit)⊕(Bool)) (fun s10=>
 bif (decide (s10<I.length)) then
 bif (inB s10 I) then
 bif (inB s10 x1) then
 (Qe8 (I.getD s10.toNat (0,(0,0))) (x1.getD s10.toNat (0,(0,0)))).bind fun J=>
 bif (!J) then
 some (inr (inr false))
 else
 some (inl (wrap .i64 (s10+1)))
 else none
 else none
 else
 some (inr (inl ()))) 0).bind fun U=>
 Sum.elim (fun (j13:Unit)=>
 some true) (fun (j14:Bool)=>
 some j14) U
def Qa3 (I:List Int) (x1:List Int):Option (Bool):=
 bif (!decide ((I.length:Int)=(x1.length:Int))) then
 some false
 else
 (Qc (S:=Int) (X:=(Unit)⊕(Bool)) (fun s5=>
 bif (decide (s5<I.length)) then
 bif (inB s5 I) then
 bif (inB s5 x1) then
 bif (!decide (I.getD s5.toNat 0=x1.getD s5.toNat 0)) then
 some (inr (inr false))
 else
 some (inl (wrap .i64 (s5+1)))
 else none
 else none
 else
 some (inr (inl ()))) 0).bind fun J=>
 Sum.elim (fun (j7:Unit)=>
 some true) (fun (U:Bool)=>
 some U) J
def Qdt (I:t5) (x1:t5):Option (Bool):=
 bif (!decide (I.1=x1.1)) then
 some false
 else
 bif (!decide (I.2=x1.2)) then
 some false
 else
 some true
def Qe3 (I:t6) (x1:t6):Option (Bool):=
 (Qa3 I.1 x1.1).bind fun J=>
 bif (!J) then
 some false
 else
 bif (!decide (I.2.1=x1.2.1)) then
 some false
 else
 bif (!decide (I.2.2=x1.2.2)) then
 some false
 else
 some true
def QfD (I:t7) (x1:t7):Option (Bool):=
 bif (!decide (I.1=x1.1)) then
 some false
 else
 (Qe3 I.2 x1.2).bind fun J=>
 bif (!J) then
 some false
 else
 some true
def QeL (I:t10) (x1:t10):Option (Bool):=
 (Qdt I.1 x1.1).bind fun J=>
 bif (!J) then
 some false
 else
 (QfD I.2.1 x1.2.1).bind fun U=>
 bif (!U) then
 some false
 else
 bif (!decide (I.2.2.1=x1.2.2.1)) then
 some false
 else
 bif (!(Sh.beq .bool I.2.2.2 x1.2.2.2)) then
 some false
 else
 some true
def Qb9 (I:List t10) (x1:List t10):Option (Bool):=
 bif (!decide ((I.length:Int)=(x1.length:Int))) then
 some false
 else
 (Qc (S:=Int) (X:=(Unit)⊕(Bool)) (fun s10=>
 bif (decide (s10<I.length)) then
 bif (inB s10 I) then
 bif (inB s10 x1) then
 (QeL (I.getD s10.toNat ((0,0),((0,([],(0,0))),(0,false)))) (x1.getD s10.toNat ((0,0),((0,([],(0,0))),(0,false))))).bind fun J=>
 bif (!J) then
 some (inr (inr false))
 else
 some (inl (wrap .i64 (s10+1)))
 else none
 else none
 else
 some (inr (inl ()))) 0).bind fun U=>
 Sum.elim (fun (j13:Unit)=>
 some true) (fun (j14:Bool)=>
 some j14) U
def Qdm (I:t11) (x1:t11):Option (Bool):=
 bif (!decide (I.1=x1.1)) then
 some false
 else
 (Qdt I.2 x1.2).bind fun J=>
 bif (!J) then
 some false
 else
 some true
def Qav (I:List t11) (x1:List t11):Option (Bool):=
 bif (!decide ((I.length:Int)=(x1.length:Int))) then
 some false
 else
 (Qc (S:=Int) (X:=(Unit)⊕(Bool)) (fun s10=>
 bif (decide (s10<I.length)) then
 bif (inB s10 I) then
 bif (inB s10 x1) then
 (Qdm (I.getD s10.toNat (0,(0,0))) (x1.getD s10.toNat (0,(0,0)))).bind fun J=>
 bif (!J) then
 some (inr (inr false))
 else
 some (inl (wrap .i64 (s10+1)))
 else none
 else none
 else
 some (inr (inl ()))) 0).bind fun U=>
 Sum.elim (fun (j13:Unit)=>
 some true) (fun (j14:Bool)=>
 some j14) U
def Qd1 (I:t21) (x1:t21):Option (Bool):=
 bif (!decide (I.1=x1.1)) then
 some false
 else
 bif (!decide (I.2.1=x1.2.1)) then
 some false
 else
 (Qb9 I.2.2.1 x1.2.2.1).bind fun J=>
 bif (!J) then
 some false
 else
 (Qav I.2.2.2 x1.2.2.2).bind fun U=>
 bif (!U) then
 some false
 else
 some true
def Qdi (I:List (List t10)) (x1:List (List t10)):Option (Bool):=
 bif (!decide ((I.length:Int)=(x1.length:Int))) then
 some false
 else
 (Qc (S:=Int) (X:=(Unit)⊕(Bool)) (fun s10=>
 bif (decide (s10<I.length)) then
 bif (inB s10 I) then
 bif (inB s10 x1) then
 (Qb9 (I.getD s10.toNat []) (x1.getD s10.toNat [])).bind fun J=>
 bif (!J) then
 some (inr (inr false))
 else
 some (inl (wrap .i64 (s10+1)))
 else none
 else none
 else
 some (inr (inl ()))) 0).bind fun U=>
 Sum.elim (fun (j13:Unit)=>
 some true) (fun (j14:Bool)=>
 some j14) U
def QeF (I:t18) (x1:t18):Option (Bool):=
 bif (!decide (I.1=x1.1)) then
 some false
 else
 (Qdi I.2.1 x1.2.1).bind fun J=>
 bif (!J) then
 some false
 else
 (Qav I.2.2 x1.2.2).bind fun U=>
 bif (!U) then
 some false
 else
 some true
def QdP (I:List t18) (x1:List t18):Option (Bool):=
 bif (!decide ((I.length:Int)=(x1.length:Int))) then
 some false
 else
 (Qc (S:=Int) (X:=(Unit)⊕(Bool)) (fun s10=>
 bif (decide (s10<I.length)) then
 bif (inB s10 I) then
 bif (inB s10 x1) then
 (QeF (I.getD s10.toNat (0,([],[]))) (x1.getD s10.toNat (0,([],[])))).bind fun J=>
 bif (!J) then
 some (inr (inr false))
 else
 some (inl (wrap .i64 (s10+1)))
 else none
 else none
 else
 some (inr (inl ()))) 0).bind fun U=>
 Sum.elim (fun (j13:Unit)=>
 some true) (fun (j14:Bool)=>
 some j14) U
def Qb5 (I:t29) (x1:t29):Option (Bool):=
 (Qdl I.1 x1.1).bind fun U=>
 bif (!U) then
 some false
 else
 (QdV I.2.1 x1.2.1).bind fun y7=>
 bif (!y7) then
 some false
 else
 (Qa3 I.2.2.1 x1.2.2.1).bind fun y8=>
 bif (!y8) then
 some false
 else
 (Qd1 I.2.2.2.1 x1.2.2.2.1).bind fun y9=>
 bif (!y9) then
 some false
 else
 (QdP I.2.2.2.2 x1.2.2.2.2).bind fun J=>
 bif (!J) then
 some false
 else
 some true
def Yc (I:t31) (x1:t31):Option (Bool):=
 bif (!decide (I.1=x1.1)) then
 some false
 else
 bif (!decide (I.2.1=x1.2.1)) then
 some false
 else
 (Qb5 I.2.2 x1.2.2).bind fun J=>
 bif (!J) then
 some false
 else
 some true
def Y0 (I:Int):Option (List UInt8):=
 bif (decide (I<=0)) then
 some [109,48]
 else
 (Qc (S:=Int×List UInt8) (X:=List UInt8) (fun s3=>
 bif (decide (0<s3.1)) then
 bif decide ((List.map (fun (b:Int)=>UInt8.ofNat b.toNat) ([wrap .u8 (wrap .i64 (48+(Int.tmod s3.1 10)))]:List Int)).length+s3.2.length<=LIM) then
 some (inl (wrap .i64 (Int.tdiv s3.1 10),(List.map (fun (b:Int)=>UInt8.ofNat b.toNat) ([wrap .u8 (wrap .i64 (48+(Int.tmod s3.1 10)))]:List Int)).append s3.2))
 else none
 else
 some (inr s3.2)) (I,[])).bind fun J=>
 bif decide (List.length [109]+J.length<=LIM) then
 some (List.append [109] J)
 else none
def Qbb (J:List (List UInt8)) (x1:Int):Option (Int×List (List UInt8)):=
 (Qc (S:=List (List UInt8)×Int×Int) (X:=List (List UInt8)×Int) (fun s8=>
 bif (decide (s8.2.2<s8.1.length)) then
 (Y0 s8.2.1).bind fun U=>
 bif (inB s8.2.2 s8.1) then
 some (inl (s8.1.set s8.2.2.toNat U,(wrap .i64 (s8.2.1+1),wrap .i64 (s8.2.2+1))))
 else none
 else
 some (inr (s8.1,s8.2.1))) (J,(x1,0))).bind fun I=>
 some (I.2,I.1)
def Qcq (J:List t5) (x1:Int):Option (Int×List t5):=
 (Qc (S:=List t5×Int×Int) (X:=List t5×Int) (fun s3=>
 bif (decide (s3.2.2<s3.1.length)) then
 bif (inB s3.2.2 s3.1) then
 bif (inB s3.2.2 (s3.1.set s3.2.2.toNat (s3.2.1,(s3.1.getD s3.2.2.toNat (0,0)).2))) then
 some (inl ((s3.1.set s3.2.2.toNat (s3.2.1,(s3.1.getD s3.2.2.toNat (0,0)).2)).set s3.2.2.toNat (((s3.1.set s3.2.2.toNat (s3.2.1,(s3.1.getD s3.2.2.toNat (0,0)).2)).getD s3.2.2.toNat (0,0)).1,wrap .i64 (s3.2.1+1)),(wrap .i64 ((wrap .i64 (s3.2.1+1))+1),wrap .i64 (s3.2.2+1))))
 else none
 else none
 else
 some (inr (s3.1,s3.2.1))) (J,(x1,0))).bind fun I=>
 some (I.2,I.1)
def Qeo (I:t25) (x1:Int):Option (Int×t25):=
 (Qbb I.1 x1).bind fun J=>
 (Qcq I.2 J.1).bind fun U=>
 some (U.1,(J.2,U.2))
def Qfk (J:List t11) (x1:Int):Option (Int×List t11):=
 (Qc (S:=List t11×Int×Int) (X:=List t11×Int) (fun s8=>
 bif (decide (s8.2.2<s8.1.length)) then
 bif (inB s8.2.2 s8.1) then
 bif (inB s8.2.2 (s8.1.set s8.2.2.toNat (s8.2.1,(s8.1.getD s8.2.2.toNat (0,(0,0))).2))) then
 let z9:List t11:=(s8.1.set s8.2.2.toNat (s8.2.1,(s8.1.getD s8.2.2.toNat (0,(0,0))).2)).set s8.2.2.toNat (((s8.1.set s8.2.2.toNat (s8.2.1,(s8.1.getD s8.2.2.toNat (0,(0,0))).2)).getD s8.2.2.toNat (0,(0,0))).1,(wrap .i64 (s8.2.1+1),((s8.1.set s8.2.2.toNat (s8.2.1,(s8.1.getD s8.2.2.toNat (0,(0,0))).2)).getD s8.2.2.toNat (0,(0,0))).2.2))
 bif (inB s8.2.2 z9) then
 some (inl (z9.set s8.2.2.toNat ((z9.getD s8.2.2.toNat (0,(0,0))).1,((z9.getD s8.2.2.toNat (0,(0,0))).2.1,wrap .i64 ((wrap .i64 (s8.2.1+1))+1))),(wrap .i64 ((wrap .i64 ((wrap .i64 (s8.2.1+1))+1))+1),wrap .i64 (s8.2.2+1))))
 else none
 else none
 else none
 else
 some (inr (s8.1,s8.2.1))) (J,(x1,0))).bind fun I=>
 some (I.2,I.1)
def Qab (J:List Int) (x1:Int):Option (Int×List Int):=
 (Qc (S:=List Int×Int×Int) (X:=List Int×Int) (fun s3=>
 bif (decide (s3.2.2<s3.1.length)) then
 bif (inB s3.2.2 s3.1) then
 some (inl (s3.1.set s3.2.2.toNat s3.2.1,(wrap .i64 (s3.2.1+1),wrap .i64 (s3.2.2+1))))
 else none
 else
 some (inr (s3.1,s3.2.1))) (J,(x1,0))).bind fun I=>
 some (I.2,I.1)
def QaG (x0:List t10) (x1:Int):Option (Int×List t10):=
 (Qc (S:=List t10×Int×Int) (X:=List t10×Int) (fun I=>
 bif (decide (I.2.2<I.1.length)) then
 bif (inB I.2.2 I.1) then
 bif (inB I.2.2 (I.1.set I.2.2.toNat ((I.2.1,(I.1.getD I.2.2.toNat ((0,0),((0,([],(0,0))),(0,false)))).1.2),(I.1.getD I.2.2.toNat ((0,0),((0,([],(0,0))),(0,false)))).2))) then
 let z39:List t10:=(I.1.set I.2.2.toNat ((I.2.1,(I.1.getD I.2.2.toNat ((0,0),((0,([],(0,0))),(0,false)))).1.2),(I.1.getD I.2.2.toNat ((0,0),((0,([],(0,0))),(0,false)))).2)).set I.2.2.toNat ((((I.1.set I.2.2.toNat ((I.2.1,(I.1.getD I.2.2.toNat ((0,0),((0,([],(0,0))),(0,false)))).1.2),(I.1.getD I.2.2.toNat ((0,0),((0,([],(0,0))),(0,false)))).2)).getD I.2.2.toNat ((0,0),((0,([],(0,0))),(0,false)))).1.1,wrap .i64 (I.2.1+1)),((I.1.set I.2.2.toNat ((I.2.1,(I.1.getD I.2.2.toNat ((0,0),((0,([],(0,0))),(0,false)))).1.2),(I.1.getD I.2.2.toNat ((0,0),((0,([],(0,0))),(0,false)))).2)).getD I.2.2.toNat ((0,0),((0,([],(0,0))),(0,false)))).2)
 bif (inB I.2.2 z39) then
 let z40:List t10:=z39.set I.2.2.toNat ((z39.getD I.2.2.toNat ((0,0),((0,([],(0,0))),(0,false)))).1,((wrap .i64 ((wrap .i64 (I.2.1+1))+1),(z39.getD I.2.2.toNat ((0,0),((0,([],(0,0))),(0,false)))).2.1.2),(z39.getD I.2.2.toNat ((0,0),((0,([],(0,0))),(0,false)))).2.2))
 bif (inB I.2.2 z40) then
 (Qab (z40.getD I.2.2.toNat ((0,0),((0,([],(0,0))),(0,false)))).2.1.2.1 (wrap .i64 ((wrap .i64 ((wrap .i64 (I.2.1+1))+1))+1))).bind fun J=>
 bif (inB I.2.2 (z40.set I.2.2.toNat ((z40.getD I.2.2.toNat ((0,0),((0,([],(0,0))),(0,false)))).1,(((z40.getD I.2.2.toNat ((0,0),((0,([],(0,0))),(0,false)))).2.1.1,(J.2,(z40.getD I.2.2.toNat ((0,0),((0,([],(0,0))),(0,false)))).2.1.2.2)),(z40.getD I.2.2.toNat ((0,0),((0,([],(0,0))),(0,false)))).2.2)))) then
 let U:List t10:=(z40.set I.2.2.toNat ((z40.getD I.2.2.toNat ((0,0),((0,([],(0,0))),(0,false)))).1,(((z40.getD I.2.2.toNat ((0,0),((0,([],(0,0))),(0,false)))).2.1.1,(J.2,(z40.getD I.2.2.toNat ((0,0),((0,([],(0,0))),(0,false)))).2.1.2.2)),(z40.getD I.2.2.toNat ((0,0),((0,([],(0,0))),(0,false)))).2.2))).set I.2.2.toNat (((z40.set I.2.2.toNat ((z40.getD I.2.2.toNat ((0,0),((0,([],(0,0))),(0,false)))).1,(((z40.getD I.2.2.toNat ((0,0),((0,([],(0,0))),(0,false)))).2.1.1,(J.2,(z40.getD I.2.2.toNat ((0,0),((0,([],(0,0))),(0,false)))).2.1.2.2)),(z40.getD I.2.2.toNat ((0,0),((0,([],(0,0))),(0,false)))).2.2))).getD I.2.2.toNat ((0,0),((0,([],(0,0))),(0,false)))).1,((((z40.set I.2.2.toNat ((z40.getD I.2.2.toNat ((0,0),((0,([],(0,0))),(0,false)))).1,(((z40.getD I.2.2.toNat ((0,0),((0,([],(0,0))),(0,false)))).2.1.1,(J.2,(z40.getD I.2.2.toNat ((0,0),((0,([],(0,0))),(0,false)))).2.1.2.2)),(z40.getD I.2.2.toNat ((0,0),((0,([],(0,0))),(0,false)))).2.2))).getD I.2.2.toNat ((0,0),((0,([],(0,0))),(0,false)))).2.1.1,(((z40.set I.2.2.toNat ((z40.getD I.2.2.toNat ((0,0),((0,([],(0,0))),(0,false)))).1,(((z40.getD I.2.2.toNat ((0,0),((0,([],(0,0))),(0,false)))).2.1.1,(J.2,(z40.getD I.2.2.toNat ((0,0),((0,([],(0,0))),(0,false)))).2.1.2.2)),(z40.getD I.2.2.toNat ((0,0),((0,([],(0,0))),(0,false)))).2.2))).getD I.2.2.toNat ((0,0),((0,([],(0,0))),(0,false)))).2.1.2.1,(J.1,((z40.set I.2.2.toNat ((z40.getD I.2.2.toNat ((0,0),((0,([],(0,0))),(0,false)))).1,(((z40.getD I.2.2.toNat ((0,0),((0,([],(0,0))),(0,false)))).2.1.1,(J.2,(z40.getD I.2.2.toNat ((0,0),((0,([],(0,0))),(0,false)))).2.1.2.2)),(z40.getD I.2.2.toNat ((0,0),((0,([],(0,0))),(0,false)))).2.2))).getD I.2.2.toNat ((0,0),((0,([],(0,0))),(0,false)))).2.1.2.2.2))),((z40.set I.2.2.toNat ((z40.getD I.2.2.toNat ((0,0),((0,([],(0,0))),(0,false)))).1,(((z40.getD I.2.2.toNat ((0,0),((0,([],(0,0))),(0,false)))).2.1.1,(J.2,(z40.getD I.2.2.toNat ((0,0),((0,([],(0,0))),(0,false)))).2.1.2.2)),(z40.getD I.2.2.toNat ((0,0),((0,([],(0,0))),(0,false)))).2.2))).getD I.2.2.toNat ((0,0),((0,([],(0,0))),(0,false)))).2.2))
 bif (inB I.2.2 U) then
 let z43:List t10:=U.set I.2.2.toNat ((U.getD I.2.2.toNat ((0,0),((0,([],(0,0))),(0,false)))).1,(((U.getD I.2.2.toNat ((0,0),((0,([],(0,0))),(0,false)))).2.1.1,((U.getD I.2.2.toNat ((0,0),((0,([],(0,0))),(0,false)))).2.1.2.1,((U.getD I.2.2.toNat ((0,0),((0,([],(0,0))),(0,false)))).2.1.2.2.1,wrap .i64 (J.1+1)))),(U.getD I.2.2.toNat ((0,0),((0,([],(0,0))),(0,false)))).2.2))
 bif (inB I.2.2 z43) then
 let z44:List t10:=z43.set I.2.2.toNat ((z43.getD I.2.2.toNat ((0,0),((0,([],(0,0))),(0,false)))).1,((z43.getD I.2.2.toNat ((0,0),((0,([],(0,0))),(0,false)))).2.1,(wrap .i64 ((wrap .i64 (J.1+1))+1),(z43.getD I.2.2.toNat ((0,0),((0,([],(0,0))),(0,false)))).2.2.2)))
 bif (inB I.2.2 z44) then
 let z45:List t10:=z44.set I.2.2.toNat ((z44.getD I.2.2.toNat ((0,0),((0,([],(0,0))),(0,false)))).1,((z44.getD I.2.2.toNat ((0,0),((0,([],(0,0))),(0,false)))).2.1,((z44.getD I.2.2.toNat ((0,0),((0,([],(0,0))),(0,false)))).2.2.1,decide (Int.tmod (wrap .i64 ((wrap .i64 ((wrap .i64 (J.1+1))+1))+1)) 3=0))))
 some (inl (z45,(wrap .i64 ((wrap .i64 ((wrap .i64 ((wrap .i64 (J.1+1))+1))+1))+1),wrap .i64 (I.2.2+1))))
 else none
 else none
 else none
 else none
 else none
 else none
 else none
 else none
 else
 some (inr (I.1,I.2.1))) (x0,(x1,0))).bind fun j46=>
 some (j46.2,j46.1)
def JR (J:List t11) (x1:Int):Option (Int×List t11):=
 (Qc (S:=List t11×Int×Int) (X:=List t11×Int) (fun s8=>
 bif (decide (s8.2.2<s8.1.length)) then
 bif (inB s8.2.2 s8.1) then
 bif (inB s8.2.2 (s8.1.set s8.2.2.toNat (s8.2.1,(s8.1.getD s8.2.2.toNat (0,(0,0))).2))) then
 let z9:List t11:=(s8.1.set s8.2.2.toNat (s8.2.1,(s8.1.getD s8.2.2.toNat (0,(0,0))).2)).set s8.2.2.toNat (((s8.1.set s8.2.2.toNat (s8.2.1,(s8.1.getD s8.2.2.toNat (0,(0,0))).2)).getD s8.2.2.toNat (0,(0,0))).1,(wrap .i64 (s8.2.1+1),((s8.1.set s8.2.2.toNat (s8.2.1,(s8.1.getD s8.2.2.toNat (0,(0,0))).2)).getD s8.2.2.toNat (0,(0,0))).2.2))
 bif (inB s8.2.2 z9) then
 some (inl (z9.set s8.2.2.toNat ((z9.getD s8.2.2.toNat (0,(0,0))).1,((z9.getD s8.2.2.toNat (0,(0,0))).2.1,wrap .i64 ((wrap .i64 (s8.2.1+1))+1))),(wrap .i64 ((wrap .i64 ((wrap .i64 (s8.2.1+1))+1))+1),wrap .i64 (s8.2.2+1))))
 else none
 else none
 else none
 else
 some (inr (s8.1,s8.2.1))) (J,(x1,0))).bind fun I=>
 some (I.2,I.1)
def Qfl (I:t21) (x1:Int):Option (Int×t21):=
 (QaG I.2.2.1 x1).bind fun J=>
 (JR I.2.2.2 J.1).bind fun U=>
 some (U.1,(I.1,(I.2.1,(J.2,U.2))))
def QbB (U:List (List t10)) (x1:Int):Option (Int×List (List t10)):=
 (Qc (S:=List (List t10)×Int×Int) (X:=List (List t10)×Int) (fun s8=>
 bif (decide (s8.2.2<s8.1.length)) then
 bif (inB s8.2.2 s8.1) then
 (QaG (s8.1.getD s8.2.2.toNat []) s8.2.1).bind fun J=>
 some (inl (s8.1.set s8.2.2.toNat J.2,(J.1,wrap .i64 (s8.2.2+1))))
 else none
 else
 some (inr (s8.1,s8.2.1))) (U,(x1,0))).bind fun I=>
 some (I.2,I.1)
def Qcl (x0:List t18) (x1:Int):Option (Int×List t18):=
 (Qc (S:=List t18×Int×Int) (X:=List t18×Int) (fun s13=>
 bif (decide (s13.2.2<s13.1.length)) then
 bif (inB s13.2.2 s13.1) then
 bif (inB s13.2.2 (s13.1.set s13.2.2.toNat (s13.2.1,(s13.1.getD s13.2.2.toNat (0,([],[]))).2))) then
 (QbB ((s13.1.set s13.2.2.toNat (s13.2.1,(s13.1.getD s13.2.2.toNat (0,([],[]))).2)).getD s13.2.2.toNat (0,([],[]))).2.1 (wrap .i64 (s13.2.1+1))).bind fun I=>
 bif (inB s13.2.2 ((s13.1.set s13.2.2.toNat (s13.2.1,(s13.1.getD s13.2.2.toNat (0,([],[]))).2)).set s13.2.2.toNat (((s13.1.set s13.2.2.toNat (s13.2.1,(s13.1.getD s13.2.2.toNat (0,([],[]))).2)).getD s13.2.2.toNat (0,([],[]))).1,(I.2,((s13.1.set s13.2.2.toNat (s13.2.1,(s13.1.getD s13.2.2.toNat (0,([],[]))).2)).getD s13.2.2.toNat (0,([],[]))).2.2)))) then
 (JR (((s13.1.set s13.2.2.toNat (s13.2.1,(s13.1.getD s13.2.2.toNat (0,([],[]))).2)).set s13.2.2.toNat (((s13.1.set s13.2.2.toNat (s13.2.1,(s13.1.getD s13.2.2.toNat (0,([],[]))).2)).getD s13.2.2.toNat (0,([],[]))).1,(I.2,((s13.1.set s13.2.2.toNat (s13.2.1,(s13.1.getD s13.2.2.toNat (0,([],[]))).2)).getD s13.2.2.toNat (0,([],[]))).2.2))).getD s13.2.2.toNat (0,([],[]))).2.2 I.1).bind fun J=>
 some (inl (((s13.1.set s13.2.2.toNat (s13.2.1,(s13.1.getD s13.2.2.toNat (0,([],[]))).2)).set s13.2.2.toNat (((s13.1.set s13.2.2.toNat (s13.2.1,(s13.1.getD s13.2.2.toNat (0,([],[]))).2)).getD s13.2.2.toNat (0,([],[]))).1,(I.2,((s13.1.set s13.2.2.toNat (s13.2.1,(s13.1.getD s13.2.2.toNat (0,([],[]))).2)).getD s13.2.2.toNat (0,([],[]))).2.2))).set s13.2.2.toNat ((((s13.1.set s13.2.2.toNat (s13.2.1,(s13.1.getD s13.2.2.toNat (0,([],[]))).2)).set s13.2.2.toNat (((s13.1.set s13.2.2.toNat (s13.2.1,(s13.1.getD s13.2.2.toNat (0,([],[]))).2)).getD s13.2.2.toNat (0,([],[]))).1,(I.2,((s13.1.set s13.2.2.toNat (s13.2.1,(s13.1.getD s13.2.2.toNat (0,([],[]))).2)).getD s13.2.2.toNat (0,([],[]))).2.2))).getD s13.2.2.toNat (0,([],[]))).1,((((s13.1.set s13.2.2.toNat (s13.2.1,(s13.1.getD s13.2.2.toNat (0,([],[]))).2)).set s13.2.2.toNat (((s13.1.set s13.2.2.toNat (s13.2.1,(s13.1.getD s13.2.2.toNat (0,([],[]))).2)).getD s13.2.2.toNat (0,([],[]))).1,(I.2,((s13.1.set s13.2.2.toNat (s13.2.1,(s13.1.getD s13.2.2.toNat (0,([],[]))).2)).getD s13.2.2.toNat (0,([],[]))).2.2))).getD s13.2.2.toNat (0,([],[]))).2.1,J.2)),(J.1,wrap .i64 (s13.2.2+1))))
 else none
 else none
 else none
 else
 some (inr (s13.1,s13.2.1))) (x0,(x1,0))).bind fun U=>
 some (U.2,U.1)
def QaL (I:t29) (x1:Int):Option (Int×t29):=
 (Qeo I.1 x1).bind fun U=>
 (Qfk I.2.1 U.1).bind fun y7=>
 (Qab I.2.2.1 y7.1).bind fun y8=>
 (Qfl I.2.2.2.1 y8.1).bind fun y9=>
 (Qcl I.2.2.2.2 y9.1).bind fun J=>
 some (J.1,(U.2,(y7.2,(y8.2,(y9.2,J.2)))))
def JB (I:t31) (x1:Int):Option (Int×t31):=
 (QaL I.2.2 x1).bind fun J=>
 some (J.1,(I.1,(I.2.1,J.2)))
def Qbh (I:List (List UInt8)) (x1:Int):Option (Int):=
 (Qc (S:=Int×Int) (X:=(Int)⊕(Int)) (fun s10=>
 bif (decide (s10.2<I.length)) then
 bif (inB s10.2 I) then
 (Y0 s10.1).bind fun J=>
 bif (!decide ((I.getD s10.2.toNat []:List UInt8)=J)) then
 some (inr (inr (-1)))
 else
 some (inl (wrap .i64 (s10.1+1),wrap .i64 (s10.2+1)))
 else none
 else
 some (inr (inl s10.1))) (x1,0)).bind fun U=>
 Sum.elim (fun (j13:Int)=>
 some j13) (fun (j14:Int)=>
 some j14) U
def Qct (I:List t5) (x1:Int):Option (Int):=
 (Qc (S:=Int×Int) (X:=(Int)⊕(Int)) (fun s5=>
 bif (decide (s5.2<I.length)) then
 bif (inB s5.2 I) then
 bif (!decide ((I.getD s5.2.toNat (0,0)).1=s5.1)) then
 some (inr (inr (-1)))
 else
 bif (inB s5.2 I) then
 bif (!decide ((I.getD s5.2.toNat (0,0)).2=wrap .i64 (s5.1+1))) then
 some (inr (inr (-1)))
 else
 some (inl (wrap .i64 ((wrap .i64 (s5.1+1))+1),wrap .i64 (s5.2+1)))
 else none
 else none
 else
 some (inr (inl s5.1))) (x1,0)).bind fun J=>
 Sum.elim (fun (U:Int)=>
 some U) (fun (j8:Int)=>
 some j8) J
def Qeq (I:t25) (x1:Int):Option (Int):=
 (Qbh I.1 x1).bind fun J=>
 bif (decide (J<0)) then
 some (-1)
 else
 (Qct I.2 J).bind fun U=>
 bif (decide (U<0)) then
 some (-1)
 else
 some U
def Qfc (I:List t11) (x1:Int):Option (Int):=
 (Qc (S:=Int×Int) (X:=(Int)⊕(Int)) (fun s5=>
 bif (decide (s5.2<I.length)) then
 bif (inB s5.2 I) then
 bif (!decide ((I.getD s5.2.toNat (0,(0,0))).1=s5.1)) then
 some (inr (inr (-1)))
 else
 bif (inB s5.2 I) then
 bif (!decide ((I.getD s5.2.toNat (0,(0,0))).2.1=wrap .i64 (s5.1+1))) then
 some (inr (inr (-1)))
 else
 bif (inB s5.2 I) then
 bif (!decide ((I.getD s5.2.toNat (0,(0,0))).2.2=wrap .i64 ((wrap .i64 (s5.1+1))+1))) then
 some (inr (inr (-1)))
 else
 some (inl (wrap .i64 ((wrap .i64 ((wrap .i64 (s5.1+1))+1))+1),wrap .i64 (s5.2+1)))
 else none
 else none
 else none
 else
 some (inr (inl s5.1))) (x1,0)).bind fun J=>
 Sum.elim (fun (U:Int)=>
 some U) (fun (j8:Int)=>
 some j8) J
def J9 (I:List Int) (x1:Int):Option (Int):=
 (Qc (S:=Int×Int) (X:=(Int)⊕(Int)) (fun s5=>
 bif (decide (s5.2<I.length)) then
 bif (inB s5.2 I) then
 bif (!decide (I.getD s5.2.toNat 0=s5.1)) then
 some (inr (inr (-1)))
 else
 some (inl (wrap .i64 (s5.1+1),wrap .i64 (s5.2+1)))
 else none
 else
 some (inr (inl s5.1))) (x1,0)).bind fun J=>
 Sum.elim (fun (U:Int)=>
 some U) (fun (j8:Int)=>
 some j8) J
def QaC (I:List t10) (x1:Int):Option (Int):=
 (Qc (S:=Int×Int) (X:=(Int)⊕(Int)) (fun s10=>
 bif (decide (s10.2<I.length)) then
 bif (inB s10.2 I) then
 bif (!decide ((I.getD s10.2.toNat ((0,0),((0,([],(0,0))),(0,false)))).1.1=s10.1)) then
 some (inr (inr (-1)))
 else
 bif (inB s10.2 I) then
 bif (!decide ((I.getD s10.2.toNat ((0,0),((0,([],(0,0))),(0,false)))).1.2=wrap .i64 (s10.1+1))) then
 some (inr (inr (-1)))
 else
 bif (inB s10.2 I) then
 bif (!decide ((I.getD s10.2.toNat ((0,0),((0,([],(0,0))),(0,false)))).2.1.1=wrap .i64 ((wrap .i64 (s10.1+1))+1))) then
 some (inr (inr (-1)))
 else
 bif (inB s10.2 I) then
 (J9 (I.getD s10.2.toNat ((0,0),((0,([],(0,0))),(0,false)))).2.1.2.1 (wrap .i64 ((wrap .i64 ((wrap .i64 (s10.1+1))+1))+1))).bind fun J=>
 bif (decide (J<0)) then
 some (inr (inr (-1)))
 else
 bif (inB s10.2 I) then
 bif (!decide ((I.getD s10.2.toNat ((0,0),((0,([],(0,0))),(0,false)))).2.1.2.2.1=J)) then
 some (inr (inr (-1)))
 else
 bif (inB s10.2 I) then
 bif (!decide ((I.getD s10.2.toNat ((0,0),((0,([],(0,0))),(0,false)))).2.1.2.2.2=wrap .i64 (J+1))) then
 some (inr (inr (-1)))
 else
 bif (inB s10.2 I) then
 bif (!decide ((I.getD s10.2.toNat ((0,0),((0,([],(0,0))),(0,false)))).2.2.1=wrap .i64 ((wrap .i64 (J+1))+1))) then
 some (inr (inr (-1)))
 else
 bif (inB s10.2 I) then
 bif (!(Sh.beq .bool (I.getD s10.2.toNat ((0,0),((0,([],(0,0))),(0,false)))).2.2.2 (decide (Int.tmod (wrap .i64 ((wrap .i64 ((wrap .i64 (J+1))+1))+1)) 3=0)))) then
 some (inr (inr (-1)))
 else
 some (inl (wrap .i64 ((wrap .i64 ((wrap .i64 ((wrap .i64 (J+1))+1))+1))+1),wrap .i64 (s10.2+1)))
 else none
 else none
 else none
 else none
 else none
 else none
 else none
 else none
 else
 some (inr (inl s10.1))) (x1,0)).bind fun U=>
 Sum.elim (fun (j13:Int)=>
 some j13) (fun (j14:Int)=>
 some j14) U
def JO (I:List t11) (x1:Int):Option (Int):=
 (Qc (S:=Int×Int) (X:=(Int)⊕(Int)) (fun s5=>
 bif (decide (s5.2<I.length)) then
 bif (inB s5.2 I) then
 bif (!decide ((I.getD s5.2.toNat (0,(0,0))).1=s5.1)) then
 some (inr (inr (-1)))
 else
 bif (inB s5.2 I) then
 bif (!decide ((I.getD s5.2.toNat (0,(0,0))).2.1=wrap .i64 (s5.1+1))) then
 some (inr (inr (-1)))
 else
 bif (inB s5.2 I) then
 bif (!decide ((I.getD s5.2.toNat (0,(0,0))).2.2=wrap .i64 ((wrap .i64 (s5.1+1))+1))) then
 some (inr (inr (-1)))
 else
 some (inl (wrap .i64 ((wrap .i64 ((wrap .i64 (s5.1+1))+1))+1),wrap .i64 (s5.2+1)))
 else none
 else none
 else none
 else
 some (inr (inl s5.1))) (x1,0)).bind fun J=>
 Sum.elim (fun (U:Int)=>
 some U) (fun (j8:Int)=>
 some j8) J
def Qfd (I:t21) (x1:Int):Option (Int):=
 (QaC I.2.2.1 x1).bind fun J=>
 bif (decide (J<0)) then
 some (-1)
 else
 (JO I.2.2.2 J).bind fun U=>
 bif (decide (U<0)) then
 some (-1)
 else
 some U
def QbK (J:List (List t10)) (x1:Int):Option (Int):=
 (Qc (S:=Int×Int) (X:=(Int)⊕(Int)) (fun s10=>
 bif (decide (s10.2<J.length)) then
 bif (inB s10.2 J) then
 (QaC (J.getD s10.2.toNat []) s10.1).bind fun I=>
 bif (decide (I<0)) then
 some (inr (inr (-1)))
 else
 some (inl (I,wrap .i64 (s10.2+1)))
 else none
 else
 some (inr (inl s10.1))) (x1,0)).bind fun U=>
 Sum.elim (fun (j13:Int)=>
 some j13) (fun (j14:Int)=>
 some j14) U
def Qcr (I:List t18) (x1:Int):Option (Int):=
 (Qc (S:=Int×Int) (X:=(Int)⊕(Int)) (fun s15=>
 bif (decide (s15.2<I.length)) then
 bif (inB s15.2 I) then
 bif (!decide ((I.getD s15.2.toNat (0,([],[]))).1=s15.1)) then
 some (inr (inr (-1)))
 else
 bif (inB s15.2 I) then
 (QbK (I.getD s15.2.toNat (0,([],[]))).2.1 (wrap .i64 (s15.1+1))).bind fun J=>
 bif (decide (J<0)) then
 some (inr (inr (-1)))
 else
 bif (inB s15.2 I) then
 (JO (I.getD s15.2.toNat (0,([],[]))).2.2 J).bind fun U=>
 bif (decide (U<0)) then
 some (inr (inr (-1)))
 else
 some (inl (U,wrap .i64 (s15.2+1)))
 else none
 else none
 else none
 else
 some (inr (inl s15.1))) (x1,0)).bind fun j18=>
 Sum.elim (fun (j19:Int)=>
 some j19) (fun (j20:Int)=>
 some j20) j18
def QaJ (I:t29) (x1:Int):Option (Int):=
 (Qeq I.1 x1).bind fun U=>
 bif (decide (U<0)) then
 some (-1)
 else
 (Qfc I.2.1 U).bind fun y7=>
 bif (decide (y7<0)) then
 some (-1)
 else
 (J9 I.2.2.1 y7).bind fun y8=>
 bif (decide (y8<0)) then
 some (-1)
 else
 (Qfd I.2.2.2.1 y8).bind fun y9=>
 bif (decide (y9<0)) then
 some (-1)
 else
 (Qcr I.2.2.2.2 y9).bind fun J=>
 bif (decide (J<0)) then
 some (-1)
 else
 some J
def Yn (J:t31) (x1:Int):Option (Int):=
 (QaJ J.2.2 x1).bind fun I=>
 bif (decide (I<0)) then
 some (-1)
 else
 some I
def Ji (x0:t29) (x1:Int):Option (Bool):=
 (Qd7 x0 1048576).bind fun y19=>
 bif (decide (y19<0)) then
 some true
 else
 (Jv x0).bind fun y20=>
 (Qcm y20 x1).bind fun J=>
 (Jv x0).bind fun U=>
 (QaA U x1).bind fun y23=>
 (Yc y23 J).bind fun y24=>
 bif (!y24) then
 some false
 else
 (Jv x0).bind fun y25=>
 (Qb5 U y25).bind fun y26=>
 bif (!y26) then
 some false
 else
 (QaL U 1).bind fun y27=>
 (bif (decide (y27.1<0)) then
 some true
 else
 (Yc y23 J).bind fun y29=>
 some (!y29):Option (Bool)).bind fun j30=>
 bif j30 then
 some false
 else
 (JB y23 1).bind fun I=>
 (Yn I.2 1).bind fun y32=>
 bif (decide (y32<0)) then
 some false
 else
 bif (!decide (y32=I.1)) then
 some false
 else
 (Jv x0).bind fun y33=>
 (QaA y33 x1).bind fun y34=>
 (Yc y34 J).bind fun y35=>
 bif (!y35) then
 some false
 else
 (Yn I.2 1).bind fun y36=>
 bif (decide (y36<0)) then
 some false
 else
 bif (!decide (y36=I.1)) then
 some false
 else
 some true
end GL
end Go.Dx
end
