/- What each function computes, as a function of plain data (F), its parameters (K) and hints for the executor (X); the types -/
import Derived.Test.YtchhjadkiimhgaaGreatDxc
import Derived.Test.YtchhjadkiimhgaaGreatProg
import Derived.KernelRfl
set_option linter.unusedVariables false
set_option linter.unusedSimpArgs false
set_option maxRecDepth 100000
set_option maxHeartbeats 0
namespace Go.Dx
open Go.Proofs
namespace CL
def s0:Sh:=(.prod (.list (.int .i64)) (.int .i64))
def s1:Sh:=(.prod (.int .i64) (.int .i64))
def s2:Sh:=(.prod (.int .i64) s1)
def s3:Sh:=(.prod s1 (.int .i64))
def s4:Sh:=(.prod (.int .i64) (.list s3))
def s5:Sh:=(.prod (.int .i64) s4)
def s6:Sh:=(.prod (.int .i64) s3)
def s7:Sh:=(.prod (.int .i64) s6)
def s8:Sh:=(.prod (.int .i64) s7)
def s9:Sh:=(.prod (.list s8) (.list (.list (.int .i64))))
def s10:Sh:=(.prod (.list s5) s9)
def s11:Sh:=(.prod (.list s2) s10)
def s12:Sh:=(.prod (.list (.int .i64)) s11)
def s13:Sh:=(.prod s0 s12)
def s14:Sh:=(.prod (.int .i64) s13)
def s15:Sh:=(.prod (.int .i64) (.list (.int .i64)))
def s16:Sh:=(.prod s8 s5)
def s17:Sh:=(.prod (.int .i64) s16)
def s18:Sh:=(.prod (.list (.int .u8)) (.int .i64))
def s19:Sh:=(.prod (.int .i64) (.list s2))
def tys:List (TypeId×TI):=[(2,⟨(.int .i64),8,.int .i64⟩),
 (3,⟨(.int .i64),8,.int .i64⟩),
 (4,⟨.bool,1,.bool⟩),
 (5,⟨(.int .u8),1,.int .u8⟩),
 (22,⟨(.list (.int .u8)),24,.slice 5⟩),
 (24,⟨(.list (.int .i64)),24,.slice 2⟩),
 (26,⟨s0,32,.struct [(0,24),(1,2)]⟩),
 (27,⟨(.list s2),24,.slice 61⟩),
 (28,⟨(.list s5),24,.slice 47⟩),
 (29,⟨(.list s8),24,.slice 36⟩),
 (30,⟨(.list (.list (.int .i64))),24,.slice 24⟩),
 (32,⟨s13,152,.struct [(0,26),(2,24),(3,27),(4,28),(5,29),(6,30)]⟩),
 (34,⟨s1,16,.struct [(0,2),(1,2)]⟩),
 (36,⟨s8,48,.struct [(0,2),(1,2),(2,2),(3,34),(5,2)]⟩),
 (40,⟨s14,160,.struct [(0,2),(1,32)]⟩),
 (43,⟨s15,32,.struct [(0,2),(1,24)]⟩),
 (45,⟨(.list s3),24,.slice 107⟩),
 (47,⟨s5,40,.struct [(0,2),(1,2),(2,45)]⟩),
 (61,⟨s2,24,.struct [(0,2),(1,2),(2,2)]⟩),
 (68,⟨s4,32,.struct [(0,2),(1,45)]⟩),
 (71,⟨s1,16,.struct [(0,2),(1,2)]⟩),
 (81,⟨(.fn2 .bool .bool .bool),8,.ptr 32⟩),
 (95,⟨s17,96,.struct [(0,2),(1,36),(7,47)]⟩),
 (97,⟨(.fn1 s5 s17 (.p .z (.p .z (.p .z (.p .z (.o .z)))))),8,.func⟩),
 (101,⟨(.fn1 (.int .i64) .bool .z),8,.func⟩),
 (107,⟨s3,24,.struct [(0,34),(2,2)]⟩),
 (109,⟨(.fn1 s3 .bool .z),8,.func⟩),
 (121,⟨s18,32,.struct [(0,22),(1,2)]⟩),
 (137,⟨(.fn2 s5 (.int .i64) .bool),8,.func⟩),
 (152,⟨(.fn2 s5 s5 (.int .i64)),8,.func⟩),
 (166,⟨(.fn1 s5 .bool .z),8,.func⟩),
 (175,⟨s19,32,.struct [(0,2),(1,27)]⟩),
 (179,⟨(.fn1 s2 .bool .z),8,.func⟩)]
def X0:Ctx:={ tys:=tys,fns:=[],frz:=[],lps:=[],jns:=[],rjs:=[] }
theorem ty2:TyOk Tryz.prog X0 2 ⟨(.int .i64),8,.int .i64⟩:=⟨⟨Tryz.t2,Tryz.type2,rfl,by decide,by decide,rfl⟩,⟨Tryz.underlying2,rfl⟩⟩
theorem ty3:TyOk Tryz.prog X0 3 ⟨(.int .i64),8,.int .i64⟩:=⟨⟨Tryz.t3,Tryz.type3,rfl,by decide,by decide,rfl⟩,⟨Tryz.underlying3,rfl⟩⟩
theorem ty4:TyOk Tryz.prog X0 4 ⟨.bool,1,.bool⟩:=⟨⟨Tryz.t4,Tryz.type4,rfl,by decide,by decide,rfl⟩,⟨Tryz.underlying4,rfl⟩⟩
theorem ty5:TyOk Tryz.prog X0 5 ⟨(.int .u8),1,.int .u8⟩:=⟨⟨Tryz.t5,Tryz.type5,rfl,by decide,by decide,rfl⟩,⟨Tryz.underlying5,rfl⟩⟩
theorem ty22:TyOk Tryz.prog X0 22 ⟨(.list (.int .u8)),24,.slice 5⟩:=⟨⟨Tryz.t22,Tryz.type22,rfl,by decide,by decide,rfl⟩,⟨Tryz.underlying22,_,rfl,rfl⟩⟩
theorem ty24:TyOk Tryz.prog X0 24 ⟨(.list (.int .i64)),24,.slice 2⟩:=⟨⟨Tryz.t24,Tryz.type24,rfl,by decide,by decide,rfl⟩,⟨Tryz.underlying24,_,rfl,rfl⟩⟩
theorem ty26:TyOk Tryz.prog X0 26 ⟨s0,32,.struct [(0,24),(1,2)]⟩:=⟨⟨Tryz.t26,Tryz.type26,rfl,by decide,by decide,rfl⟩,⟨⟨_,Tryz.underlying26,rfl,by simp⟩,⟨_,_,rfl,rfl,⟨_,rfl,rfl⟩,⟨rfl,_,rfl,rfl⟩⟩,by decide,Tryz.eqGuardType26,Tryz.stoodInHeld26⟩⟩
theorem ty27:TyOk Tryz.prog X0 27 ⟨(.list s2),24,.slice 61⟩:=⟨⟨Tryz.t27,Tryz.type27,rfl,by decide,by decide,rfl⟩,⟨Tryz.underlying27,_,rfl,rfl⟩⟩
theorem ty28:TyOk Tryz.prog X0 28 ⟨(.list s5),24,.slice 47⟩:=⟨⟨Tryz.t28,Tryz.type28,rfl,by decide,by decide,rfl⟩,⟨Tryz.underlying28,_,rfl,rfl⟩⟩
theorem ty29:TyOk Tryz.prog X0 29 ⟨(.list s8),24,.slice 36⟩:=⟨⟨Tryz.t29,Tryz.type29,rfl,by decide,by decide,rfl⟩,⟨Tryz.underlying29,_,rfl,rfl⟩⟩
theorem ty30:TyOk Tryz.prog X0 30 ⟨(.list (.list (.int .i64))),24,.slice 24⟩:=⟨⟨Tryz.t30,Tryz.type30,rfl,by decide,by decide,rfl⟩,⟨Tryz.underlying30,_,rfl,rfl⟩⟩
theorem ty32:TyOk Tryz.prog X0 32 ⟨s13,152,.struct [(0,26),(2,24),(3,27),(4,28),(5,29),(6,30)]⟩:=⟨⟨Tryz.t32,Tryz.type32,rfl,by decide,by decide,rfl⟩,⟨⟨_,Tryz.underlying32,rfl,by simp⟩,⟨_,_,rfl,rfl,⟨_,rfl,rfl⟩,⟨_,_,rfl,rfl,⟨_,rfl,rfl⟩,⟨_,_,rfl,rfl,⟨_,rfl,rfl⟩,⟨_,_,rfl,rfl,⟨_,rfl,rfl⟩,⟨_,_,rfl,rfl,⟨_,rfl,rfl⟩,⟨rfl,_,rfl,rfl⟩⟩⟩⟩⟩⟩,by decide,Tryz.eqGuardType32,Tryz.stoodInHeld32⟩⟩
theorem ty34:TyOk Tryz.prog X0 34 ⟨s1,16,.struct [(0,2),(1,2)]⟩:=⟨⟨Tryz.t34,Tryz.type34,rfl,by decide,by decide,rfl⟩,⟨⟨_,Tryz.underlying34,rfl,by simp⟩,⟨_,_,rfl,rfl,⟨_,rfl,rfl⟩,⟨rfl,_,rfl,rfl⟩⟩,by decide,Tryz.eqGuardType34,Tryz.stoodInHeld34⟩⟩
theorem ty36:TyOk Tryz.prog X0 36 ⟨s8,48,.struct [(0,2),(1,2),(2,2),(3,34),(5,2)]⟩:=⟨⟨Tryz.t36,Tryz.type36,rfl,by decide,by decide,rfl⟩,⟨⟨_,Tryz.underlying36,rfl,by simp⟩,⟨_,_,rfl,rfl,⟨_,rfl,rfl⟩,⟨_,_,rfl,rfl,⟨_,rfl,rfl⟩,⟨_,_,rfl,rfl,⟨_,rfl,rfl⟩,⟨_,_,rfl,rfl,⟨_,rfl,rfl⟩,⟨rfl,_,rfl,rfl⟩⟩⟩⟩⟩,by decide,Tryz.eqGuardType36,Tryz.stoodInHeld36⟩⟩
theorem ty40:TyOk Tryz.prog X0 40 ⟨s14,160,.struct [(0,2),(1,32)]⟩:=⟨⟨Tryz.t40,Tryz.type40,rfl,by decide,by decide,rfl⟩,⟨⟨_,Tryz.underlying40,rfl,by simp⟩,⟨_,_,rfl,rfl,⟨_,rfl,rfl⟩,⟨rfl,_,rfl,rfl⟩⟩,by decide,Tryz.eqGuardType40,Tryz.stoodInHeld40⟩⟩
theorem ty43:TyOk Tryz.prog X0 43 ⟨s15,32,.struct [(0,2),(1,24)]⟩:=⟨⟨Tryz.t43,Tryz.type43,rfl,by decide,by decide,rfl⟩,⟨⟨_,Tryz.underlying43,rfl,by simp⟩,⟨_,_,rfl,rfl,⟨_,rfl,rfl⟩,⟨rfl,_,rfl,rfl⟩⟩,by decide,Tryz.eqGuardType43,Tryz.stoodInHeld43⟩⟩
theorem ty45:TyOk Tryz.prog X0 45 ⟨(.list s3),24,.slice 107⟩:=⟨⟨Tryz.t45,Tryz.type45,rfl,by decide,by decide,rfl⟩,⟨Tryz.underlying45,_,rfl,rfl⟩⟩
theorem ty47:TyOk Tryz.prog X0 47 ⟨s5,40,.struct [(0,2),(1,2),(2,45)]⟩:=⟨⟨Tryz.t47,Tryz.type47,rfl,by decide,by decide,rfl⟩,⟨⟨_,Tryz.underlying47,rfl,by simp⟩,⟨_,_,rfl,rfl,⟨_,rfl,rfl⟩,⟨_,_,rfl,rfl,⟨_,rfl,rfl⟩,⟨rfl,_,rfl,rfl⟩⟩⟩,by decide,Tryz.eqGuardType47,Tryz.stoodInHeld47⟩⟩
theorem ty61:TyOk Tryz.prog X0 61 ⟨s2,24,.struct [(0,2),(1,2),(2,2)]⟩:=⟨⟨Tryz.t61,Tryz.type61,rfl,by decide,by decide,rfl⟩,⟨⟨_,Tryz.underlying61,rfl,by simp⟩,⟨_,_,rfl,rfl,⟨_,rfl,rfl⟩,⟨_,_,rfl,rfl,⟨_,rfl,rfl⟩,⟨rfl,_,rfl,rfl⟩⟩⟩,by decide,Tryz.eqGuardType61,Tryz.stoodInHeld61⟩⟩
theorem ty68:TyOk Tryz.prog X0 68 ⟨s4,32,.struct [(0,2),(1,45)]⟩:=⟨⟨Tryz.t68,Tryz.type68,rfl,by decide,by decide,rfl⟩,⟨⟨_,Tryz.underlying68,rfl,by simp⟩,⟨_,_,rfl,rfl,⟨_,rfl,rfl⟩,⟨rfl,_,rfl,rfl⟩⟩,by decide,Tryz.eqGuardType68,Tryz.stoodInHeld68⟩⟩
theorem ty71:TyOk Tryz.prog X0 71 ⟨s1,16,.struct [(0,2),(1,2)]⟩:=⟨⟨Tryz.t71,Tryz.type71,rfl,by decide,by decide,rfl⟩,⟨⟨_,Tryz.underlying71,rfl,by simp⟩,⟨_,_,rfl,rfl,⟨_,rfl,rfl⟩,⟨rfl,_,rfl,rfl⟩⟩,by decide,Tryz.eqGuardType71,Tryz.stoodInHeld71⟩⟩
theorem ty81:TyOk Tryz.prog X0 81 ⟨(.fn2 .bool .bool .bool),8,.ptr 32⟩:=⟨⟨Tryz.t81,Tryz.type81,rfl,by decide,by decide,trivial⟩,⟨Tryz.underlying81,rfl⟩⟩
theorem ty95:TyOk Tryz.prog X0 95 ⟨s17,96,.struct [(0,2),(1,36),(7,47)]⟩:=⟨⟨Tryz.t95,Tryz.type95,rfl,by decide,by decide,rfl⟩,⟨⟨_,Tryz.underlying95,rfl,by simp⟩,⟨_,_,rfl,rfl,⟨_,rfl,rfl⟩,⟨_,_,rfl,rfl,⟨_,rfl,rfl⟩,⟨rfl,_,rfl,rfl⟩⟩⟩,by decide,Tryz.eqGuardType95,Tryz.stoodInHeld95⟩⟩
theorem ty97:TyOk Tryz.prog X0 97 ⟨(.fn1 s5 s17 (.p .z (.p .z (.p .z (.p .z (.o .z)))))),8,.func⟩:=⟨⟨Tryz.t97,Tryz.type97,rfl,by decide,by decide,trivial⟩,⟨⟨_,_,_,Tryz.underlying97⟩,.inl ⟨_,_,_,rfl⟩⟩⟩
theorem ty101:TyOk Tryz.prog X0 101 ⟨(.fn1 (.int .i64) .bool .z),8,.func⟩:=⟨⟨Tryz.t101,Tryz.type101,rfl,by decide,by decide,trivial⟩,⟨⟨_,_,_,Tryz.underlying101⟩,.inl ⟨_,_,_,rfl⟩⟩⟩
theorem ty107:TyOk Tryz.prog X0 107 ⟨s3,24,.struct [(0,34),(2,2)]⟩:=⟨⟨Tryz.t107,Tryz.type107,rfl,by decide,by decide,rfl⟩,⟨⟨_,Tryz.underlying107,rfl,by simp⟩,⟨_,_,rfl,rfl,⟨_,rfl,rfl⟩,⟨rfl,_,rfl,rfl⟩⟩,by decide,Tryz.eqGuardType107,Tryz.stoodInHeld107⟩⟩
theorem ty109:TyOk Tryz.prog X0 109 ⟨(.fn1 s3 .bool .z),8,.func⟩:=⟨⟨Tryz.t109,Tryz.type109,rfl,by decide,by decide,trivial⟩,⟨⟨_,_,_,Tryz.underlying109⟩,.inl ⟨_,_,_,rfl⟩⟩⟩
theorem ty121:TyOk Tryz.prog X0 121 ⟨s18,32,.struct [(0,22),(1,2)]⟩:=⟨⟨Tryz.t121,Tryz.type121,rfl,by decide,by decide,rfl⟩,⟨⟨_,Tryz.underlying121,rfl,by simp⟩,⟨_,_,rfl,rfl,⟨_,rfl,rfl⟩,⟨rfl,_,rfl,rfl⟩⟩,by decide,Tryz.eqGuardType121,Tryz.stoodInHeld121⟩⟩
theorem ty137:TyOk Tryz.prog X0 137 ⟨(.fn2 s5 (.int .i64) .bool),8,.func⟩:=⟨⟨Tryz.t137,Tryz.type137,rfl,by decide,by decide,trivial⟩,⟨⟨_,_,_,Tryz.underlying137⟩,.inr ⟨_,_,_,rfl⟩⟩⟩
theorem ty152:TyOk Tryz.prog X0 152 ⟨(.fn2 s5 s5 (.int .i64)),8,.func⟩:=⟨⟨Tryz.t152,Tryz.type152,rfl,by decide,by decide,trivial⟩,⟨⟨_,_,_,Tryz.underlying152⟩,.inr ⟨_,_,_,rfl⟩⟩⟩
theorem ty166:TyOk Tryz.prog X0 166 ⟨(.fn1 s5 .bool .z),8,.func⟩:=⟨⟨Tryz.t166,Tryz.type166,rfl,by decide,by decide,trivial⟩,⟨⟨_,_,_,Tryz.underlying166⟩,.inl ⟨_,_,_,rfl⟩⟩⟩
theorem ty175:TyOk Tryz.prog X0 175 ⟨s19,32,.struct [(0,2),(1,27)]⟩:=⟨⟨Tryz.t175,Tryz.type175,rfl,by decide,by decide,rfl⟩,⟨⟨_,Tryz.underlying175,rfl,by simp⟩,⟨_,_,rfl,rfl,⟨_,rfl,rfl⟩,⟨rfl,_,rfl,rfl⟩⟩,by decide,Tryz.eqGuardType175,Tryz.stoodInHeld175⟩⟩
theorem ty179:TyOk Tryz.prog X0 179 ⟨(.fn1 s2 .bool .z),8,.func⟩:=⟨⟨Tryz.t179,Tryz.type179,rfl,by decide,by decide,trivial⟩,⟨⟨_,_,_,Tryz.underlying179⟩,.inl ⟨_,_,_,rfl⟩⟩⟩
theorem tysOk:TysOk Tryz.prog X0:=tysOk_of ⟨ty2,ty3,ty4,ty5,ty22,ty24,ty26,ty27,ty28,ty29,ty30,ty32,ty34,ty36,ty40,ty43,ty45,ty47,ty61,ty68,ty71,ty81,ty95,ty97,ty101,ty107,ty109,ty121,ty137,ty152,ty166,ty175,ty179,trivial⟩
theorem follows:Tryz.prog.follows .mixedOrders=true:=by kernel_rfl
end CL
end Go.Dx
set_option maxRecDepth 100000
set_option maxHeartbeats 0
namespace Go.Dx
open Go.Proofs
namespace CL

noncomputable def F_laws_lwBig (x0:List Int):Option (Bool):=
 some (decide ((1048576:Int)<(List.length x0:Int)))
noncomputable def K_laws_lwBig:Callee:={ ins:=[.v (.list (.int .u8)) .z],outs:=[(.bool,.z)],F:=fun t=>F_laws_lwBig t.1 }
noncomputable def X_laws_lwBig:Ctx:={ tys:=tys,fns:=[],frz:=[],lps:=[],jns:=[],rjs:=[] }
noncomputable def F_spec_l1In (x0:Int) (x1:Int) (x2:Int):Option (Bool):=
 (bif (decide ((x1:Int)≤x0)) then
 some (decide ((x0:Int)≤x2))
 else
 some false:Option (Bool)).bind fun (j2:Bool)=>
 some j2
noncomputable def K_spec_l1In:Callee:={ ins:=[.v (.int .i64) .z,.v (.int .i64) .z,.v (.int .i64) .z],outs:=[(.bool,.z)],F:=fun t=>F_spec_l1In t.1 t.2.1 t.2.2.1 }
noncomputable def X_spec_l1In:Ctx:={ tys:=tys,fns:=[],frz:=[],lps:=[],jns:=[],rjs:=[(1,⟨[(6,.st .bool .z false)],[]⟩)] }
noncomputable def F_spec_l1Key (x0:Int):Option (Bool):=
 (F_spec_l1In x0 1 999).bind fun (y2:Bool)=>
 some y2
noncomputable def K_spec_l1Key:Callee:={ ins:=[.v (.int .i64) .z],outs:=[(.bool,.z)],F:=fun t=>F_spec_l1Key t.1 }
noncomputable def X_spec_l1Key:Ctx:={ tys:=tys,fns:=[(118,K_spec_l1In)],frz:=[],lps:=[],jns:=[],rjs:=[] }
noncomputable def F_spec_l10Fault (x0:List Int×Int):Option (Int):=
 (F_spec_l1In (List.length x0.1:Int) 1 8).bind fun (y14:Bool)=>
 bif (!y14) then
 some 2
 else
 (loopO (S:=Int) (X:=(Unit)⊕(Int)) (fun (s17:Int)=>
 bif (decide ((s17:Int)<(List.length x0.1:Int))) then
 bif (inB s17 x0.1) then
 (F_spec_l1Key (List.getD x0.1 (Int.toNat s17) 0)).bind fun (y18:Bool)=>
 bif (!y18) then
 some (Sum.inr (Sum.inr 3))
 else
 some (Sum.inl (IntKind.wrap .i64 (s17+1)))
 else none
 else
 some (Sum.inr (Sum.inl ()))) 0).bind fun (j19:(Unit)⊕(Int))=>
 Sum.elim (fun (j20:Unit)=>
 (F_spec_l1In x0.2 1 (List.length x0.1:Int)).bind fun (y22:Bool)=>
 bif (!y22) then
 some 3
 else
 (loopO (S:=Int) (X:=(Unit)⊕(Int)) (fun (s23:Int)=>
 bif (decide ((s23:Int)<(List.length x0.1:Int))) then
 bif (inB s23 x0.1) then
 bif (inB (IntKind.wrap .i64 (s23 - 1)) x0.1) then
 bif (decide ((List.getD x0.1 (Int.toNat s23) 0:Int)≤List.getD x0.1 (Int.toNat (IntKind.wrap .i64 (s23 - 1))) 0)) then
 some (Sum.inr (Sum.inr 1))
 else
 some (Sum.inl (IntKind.wrap .i64 (s23+1)))
 else none
 else none
 else
 some (Sum.inr (Sum.inl ()))) 1).bind fun (j24:(Unit)⊕(Int))=>
 Sum.elim (fun (j25:Unit)=>
 some 0) (fun (j26:Int)=>
 some j26) j24) (fun (j21:Int)=>
 some j21) j19
noncomputable def K_spec_l10Fault:Callee:={ ins:=[.rp s0 false],outs:=[((.int .i64),.z)],F:=fun t=>F_spec_l10Fault t.1 }
noncomputable def X_spec_l10Fault:Ctx:={ tys:=tys,fns:=[(118,K_spec_l1In),(119,K_spec_l1Key)],frz:=[],lps:=[(5,(⟨[(0,.keep),(3,.keep),(4,.st (.int .i64) .z false)],[]⟩,⟨[((.exit 0),⟨[(0,.keep),(3,.keep)],[]⟩),(.ret,⟨[(2,.st (.int .i64) .z false)],[]⟩)]⟩)),
 (12,(⟨[(0,.keep),(5,.st (.int .i64) .z false)],[]⟩,⟨[((.exit 2),⟨[],[]⟩),(.ret,⟨[(2,.st (.int .i64) .z false)],[]⟩)]⟩))],jns:=[],rjs:=[] }
noncomputable def F_spec_l12Bad (x0:List Int):Option (Int):=
 (loopO (S:=Int) (X:=(Unit)⊕(Int)) (fun (s14:Int)=>
 bif (decide ((s14:Int)<(List.length x0:Int))) then
 bif (inB s14 x0) then
 (F_spec_l1Key (List.getD x0 (Int.toNat s14) 0)).bind fun (y15:Bool)=>
 bif (!y15) then
 some (Sum.inr (Sum.inr 3))
 else
 some (Sum.inl (IntKind.wrap .i64 (s14+1)))
 else none
 else
 some (Sum.inr (Sum.inl ()))) 0).bind fun (j16:(Unit)⊕(Int))=>
 Sum.elim (fun (j17:Unit)=>
 (loopO (S:=Int) (X:=(Unit)⊕(Int)) (fun (s19:Int)=>
 bif (decide ((s19:Int)<(List.length x0:Int))) then
 bif (inB s19 x0) then
 bif (inB (IntKind.wrap .i64 (s19 - 1)) x0) then
 bif (decide ((List.getD x0 (Int.toNat s19) 0:Int)≤List.getD x0 (Int.toNat (IntKind.wrap .i64 (s19 - 1))) 0)) then
 some (Sum.inr (Sum.inr 1))
 else
 some (Sum.inl (IntKind.wrap .i64 (s19+1)))
 else none
 else none
 else
 some (Sum.inr (Sum.inl ()))) 1).bind fun (j20:(Unit)⊕(Int))=>
 Sum.elim (fun (j21:Unit)=>
 some 0) (fun (j22:Int)=>
 some j22) j20) (fun (j18:Int)=>
 some j18) j16
noncomputable def K_spec_l12Bad:Callee:={ ins:=[.v (.list (.int .i64)) .z],outs:=[((.int .i64),.z)],F:=fun t=>F_spec_l12Bad t.1 }
noncomputable def X_spec_l12Bad:Ctx:={ tys:=tys,fns:=[(119,K_spec_l1Key)],frz:=[],lps:=[(2,(⟨[(0,.keep),(3,.st (.int .i64) .z false)],[]⟩,⟨[((.exit 0),⟨[(0,.keep)],[]⟩),(.ret,⟨[(2,.st (.int .i64) .z false)],[]⟩)]⟩)),
 (7,(⟨[(0,.keep),(4,.st (.int .i64) .z false)],[]⟩,⟨[((.exit 2),⟨[],[]⟩),(.ret,⟨[(2,.st (.int .i64) .z false)],[]⟩)]⟩))],jns:=[],rjs:=[] }
noncomputable def F_spec_l4Among (x0:List Int) (x1:Int):Option (Bool):=
 (loopO (S:=Int) (X:=(Unit)⊕(Bool)) (fun (s5:Int)=>
 bif (decide ((s5:Int)<(List.length x0:Int))) then
 bif (inB s5 x0) then
 bif (decide ((List.getD x0 (Int.toNat s5) 0:Int)=x1)) then
 some (Sum.inr (Sum.inr true))
 else
 some (Sum.inl (IntKind.wrap .i64 (s5+1)))
 else none
 else
 some (Sum.inr (Sum.inl ()))) 0).bind fun (j6:(Unit)⊕(Bool))=>
 Sum.elim (fun (j7:Unit)=>
 some false) (fun (j8:Bool)=>
 some j8) j6
noncomputable def K_spec_l4Among:Callee:={ ins:=[.v (.list (.int .i64)) .z,.v (.int .i64) .z],outs:=[(.bool,.z)],F:=fun t=>F_spec_l4Among t.1 t.2.1 }
noncomputable def X_spec_l4Among:Ctx:={ tys:=tys,fns:=[],frz:=[],lps:=[(2,(⟨[(0,.keep),(1,.keep),(5,.st (.int .i64) .z false)],[]⟩,⟨[((.exit 0),⟨[],[]⟩),(.ret,⟨[(4,.st .bool .z false)],[]⟩)]⟩))],jns:=[],rjs:=[] }
noncomputable def F_spec_l12Good (x0:List Int×Int) (x1:List Int):Option (List Int):=
 (loopO (S:=List Int×Int) (X:=List Int) (fun (s13:List Int×Int)=>
 bif (decide ((s13.2:Int)<(List.length x0.1:Int))) then
 bif (inB s13.2 x0.1) then
 (F_spec_l4Among x1 (List.getD x0.1 (Int.toNat s13.2) 0)).bind fun (y14:Bool)=>
 (bif (!y14) then
 bif (inB s13.2 x0.1) then
 bif decide (List.length s13.1+List.length ([List.getD x0.1 (Int.toNat s13.2) 0]:List Int)≤LIM) then
 some (List.append s13.1 ([List.getD x0.1 (Int.toNat s13.2) 0]:List Int))
 else none
 else none
 else
 some s13.1:Option (List Int)).bind fun (j15:List Int)=>
 some (Sum.inl (j15,IntKind.wrap .i64 (s13.2+1)))
 else none
 else
 some (Sum.inr s13.1)) (([]:List Int),0)).bind fun (j16:List Int)=>
 some j16
noncomputable def K_spec_l12Good:Callee:={ ins:=[.rp s0 false,.v (.list (.int .i64)) .z],outs:=[((.list (.int .i64)),(.o .z))],F:=fun t=>F_spec_l12Good t.1 t.2.1 }
noncomputable def X_spec_l12Good:Ctx:={ tys:=tys,fns:=[(55,K_spec_l4Among)],frz:=[],lps:=[(3,(⟨[(0,.keep),(1,.keep),(5,.st (.list (.int .i64)) (.o .z) false),(6,.st (.int .i64) .z false)],[]⟩,⟨[((.exit 0),⟨[(5,.st (.list (.int .i64)) (.o .z) false)],[]⟩)]⟩))],jns:=[(6,⟨[(.normal,⟨[(0,.keep),(1,.keep),(5,.st (.list (.int .i64)) (.o .z) false),(6,.keep)],[]⟩)]⟩)],rjs:=[] }
noncomputable def F_spec_l9At (x0:List (Int×Int×Int)) (x1:Int):Option (Int):=
 (loopO (S:=Int) (X:=(Unit)⊕(Int)) (fun (s5:Int)=>
 bif (decide ((s5:Int)<(List.length x0:Int))) then
 bif (inB s5 x0) then
 bif (decide (((List.getD x0 (Int.toNat s5) (0,(0,0))).1:Int)=x1)) then
 some (Sum.inr (Sum.inr s5))
 else
 some (Sum.inl (IntKind.wrap .i64 (s5+1)))
 else none
 else
 some (Sum.inr (Sum.inl ()))) 0).bind fun (j6:(Unit)⊕(Int))=>
 Sum.elim (fun (j7:Unit)=>
 some (-1)) (fun (j8:Int)=>
 some j8) j6
noncomputable def K_spec_l9At:Callee:={ ins:=[.v (.list s2) .z,.v (.int .i64) .z],outs:=[((.int .i64),.z)],F:=fun t=>F_spec_l9At t.1 t.2.1 }
noncomputable def X_spec_l9At:Ctx:={ tys:=tys,fns:=[],frz:=[],lps:=[(2,(⟨[(0,.keep),(1,.keep),(5,.st (.int .i64) .z false)],[]⟩,⟨[((.exit 0),⟨[],[]⟩),(.ret,⟨[(4,.st (.int .i64) .z false)],[]⟩)]⟩))],jns:=[],rjs:=[] }
noncomputable def F_spec_l9Node (x0:List (Int×Int×Int)) (x1:Int×Int×Int):Option (Int):=
 ((F_spec_l1In x1.1 1 60).bind fun (y14:Bool)=>
 bif (!y14) then
 some true
 else
 (F_spec_l1In x1.2.2 1 40).bind fun (y15:Bool)=>
 some (!y15):Option (Bool)).bind fun (j16:Bool)=>
 bif j16 then
 some 3
 else
 (F_spec_l9At x0 x1.1).bind fun (y17:Int)=>
 bif (decide ((0:Int)≤y17)) then
 some 7
 else
 (bif (!decide ((x1.2.1:Int)=0)) then
 (F_spec_l9At x0 x1.2.1).bind fun (y19:Int)=>
 bif (decide ((y19:Int)<0)) then
 some (Sum.inr 4)
 else
 bif (inB y19 x0) then
 some (Sum.inl (List.getD x0 (Int.toNat y19) (0,(0,0))).2.2)
 else none
 else
 some (Sum.inl 0):Option ((Int)⊕(Int))).bind fun (j20:(Int)⊕(Int))=>
 Sum.elim (fun (j21:Int)=>
 bif (!decide ((x1.2.2:Int)=IntKind.wrap .i64 (j21+1))) then
 some 1
 else
 some 0) (fun (j22:Int)=>
 some j22) j20
noncomputable def K_spec_l9Node:Callee:={ ins:=[.v (.list s2) .z,.v s2 .z],outs:=[((.int .i64),.z)],F:=fun t=>F_spec_l9Node t.1 t.2.1 }
noncomputable def X_spec_l9Node:Ctx:={ tys:=tys,fns:=[(118,K_spec_l1In),(138,K_spec_l9At)],frz:=[],lps:=[],jns:=[(7,⟨[(.normal,⟨[(3,.keep),(5,.st (.int .i64) .z false)],[(3,.keep)]⟩),(.ret,⟨[(4,.st (.int .i64) .z false)],[]⟩)]⟩)],rjs:=[(1,⟨[(0,.keep),(3,.keep),(16,.st .bool .z false)],[(3,.keep)]⟩)] }
noncomputable def F_spec_l9Fault (x0:List (Int×Int×Int)):Option (Int):=
 bif (decide ((60:Int)<(List.length x0:Int))) then
 some 2
 else
 (loopO (S:=Int) (X:=(Unit)⊕(Int)) (fun (s10:Int)=>
 bif (decide ((s10:Int)<(List.length x0:Int))) then
 bif (cutOk 0 s10 x0) then
 bif (inB s10 x0) then
 (F_spec_l9Node (cut 0 s10 x0) (List.getD x0 (Int.toNat s10) (0,(0,0)))).bind fun (y11:Int)=>
 bif (!decide ((y11:Int)=0)) then
 some (Sum.inr (Sum.inr y11))
 else
 some (Sum.inl (IntKind.wrap .i64 (s10+1)))
 else none
 else none
 else
 some (Sum.inr (Sum.inl ()))) 0).bind fun (j12:(Unit)⊕(Int))=>
 Sum.elim (fun (j13:Unit)=>
 some 0) (fun (j14:Int)=>
 some j14) j12
noncomputable def K_spec_l9Fault:Callee:={ ins:=[.v (.list s2) .z],outs:=[((.int .i64),.z)],F:=fun t=>F_spec_l9Fault t.1 }
noncomputable def X_spec_l9Fault:Ctx:={ tys:=tys,fns:=[(162,K_spec_l9Node)],frz:=[],lps:=[(4,(⟨[(0,.keep),(3,.st (.int .i64) .z false)],[]⟩,⟨[((.exit 0),⟨[],[]⟩),(.ret,⟨[(2,.st (.int .i64) .z false)],[]⟩)]⟩))],jns:=[],rjs:=[] }
noncomputable def F_spec_l11Tx (x0:Int):Option (Bool):=
 (F_spec_l1In x0 1 60).bind fun (y2:Bool)=>
 some y2
noncomputable def K_spec_l11Tx:Callee:={ ins:=[.v (.int .i64) .z],outs:=[(.bool,.z)],F:=fun t=>F_spec_l11Tx t.1 }
noncomputable def X_spec_l11Tx:Ctx:={ tys:=tys,fns:=[(118,K_spec_l1In)],frz:=[],lps:=[],jns:=[],rjs:=[] }
noncomputable def F_spec_l3Ref (x0:Int×Int):Option (Bool):=
 ((F_spec_l1In x0.1 1 60).bind fun (y8:Bool)=>
 bif y8 then
 (F_spec_l1In x0.2 0 3).bind fun (y9:Bool)=>
 some y9
 else
 some false:Option (Bool)).bind fun (j10:Bool)=>
 some j10
noncomputable def K_spec_l3Ref:Callee:={ ins:=[.v s1 .z],outs:=[(.bool,.z)],F:=fun t=>F_spec_l3Ref t.1 }
noncomputable def X_spec_l3Ref:Ctx:={ tys:=tys,fns:=[(118,K_spec_l1In)],frz:=[],lps:=[],jns:=[],rjs:=[(1,⟨[(2,.st .bool .z false)],[]⟩)] }
noncomputable def F_spec_l11At (x0:Int×Int×List ((Int×Int)×Int)) (x1:Int×Int):Option (Int):=
 (loopO (S:=Int) (X:=(Unit)⊕(Int)) (fun (s5:Int)=>
 bif (decide ((s5:Int)<(List.length x0.2.2:Int))) then
 bif (inB s5 x0.2.2) then
 bif (Sh.beq (.prod (.int .i64) (.int .i64)) (List.getD x0.2.2 (Int.toNat s5) ((0,0),0)).1 x1) then
 some (Sum.inr (Sum.inr s5))
 else
 some (Sum.inl (IntKind.wrap .i64 (s5+1)))
 else none
 else
 some (Sum.inr (Sum.inl ()))) 0).bind fun (j6:(Unit)⊕(Int))=>
 Sum.elim (fun (j7:Unit)=>
 some (-1)) (fun (j8:Int)=>
 some j8) j6
noncomputable def K_spec_l11At:Callee:={ ins:=[.rp s5 false,.v s1 .z],outs:=[((.int .i64),.z)],F:=fun t=>F_spec_l11At t.1 t.2.1 }
noncomputable def X_spec_l11At:Ctx:={ tys:=tys,fns:=[],frz:=[],lps:=[(2,(⟨[(0,.keep),(3,.keep),(5,.st (.int .i64) .z false)],[(3,.keep)]⟩,⟨[((.exit 0),⟨[],[]⟩),(.ret,⟨[(4,.st (.int .i64) .z false)],[]⟩)]⟩))],jns:=[],rjs:=[] }
noncomputable def F_spec_l11Fault (x0:Int×Int×List ((Int×Int)×Int)):Option (Int):=
 ((F_spec_l1Key x0.1).bind fun (y30:Bool)=>
 bif (!y30) then
 some true
 else
 (F_spec_l1In x0.2.1 0 60).bind fun (y31:Bool)=>
 some (!y31):Option (Bool)).bind fun (j32:Bool)=>
 bif j32 then
 some 3
 else
 bif (decide ((40:Int)<(List.length x0.2.2:Int))) then
 some 2
 else
 (loopO (S:=Int) (X:=(Unit)⊕(Int)) (fun (s45:Int)=>
 bif (decide ((s45:Int)<(List.length x0.2.2:Int))) then
 (bif (inB s45 x0.2.2) then
 (F_spec_l3Ref (List.getD x0.2.2 (Int.toNat s45) ((0,0),0)).1).bind fun (y48:Bool)=>
 bif (!y48) then
 some true
 else
 bif (inB s45 x0.2.2) then
 (F_spec_l11Tx (List.getD x0.2.2 (Int.toNat s45) ((0,0),0)).2).bind fun (y49:Bool)=>
 some (!y49)
 else none
 else none:Option (Bool)).bind fun (j50:Bool)=>
 bif j50 then
 some (Sum.inr (Sum.inr 3))
 else
 bif (inB s45 x0.2.2) then
 (F_spec_l11At x0 (List.getD x0.2.2 (Int.toNat s45) ((0,0),0)).1).bind fun (y51:Int)=>
 bif (!decide ((y51:Int)=s45)) then
 some (Sum.inr (Sum.inr 7))
 else
 some (Sum.inl (IntKind.wrap .i64 (s45+1)))
 else none
 else
 some (Sum.inr (Sum.inl ()))) 0).bind fun (j52:(Unit)⊕(Int))=>
 Sum.elim (fun (j53:Unit)=>
 some 0) (fun (j54:Int)=>
 some j54) j52
noncomputable def K_spec_l11Fault:Callee:={ ins:=[.rp s5 false],outs:=[((.int .i64),.z)],F:=fun t=>F_spec_l11Fault t.1 }
noncomputable def X_spec_l11Fault:Ctx:={ tys:=tys,fns:=[(118,K_spec_l1In),(119,K_spec_l1Key),(120,K_spec_l11Tx),(121,K_spec_l3Ref),(186,K_spec_l11At)],frz:=[],lps:=[(6,(⟨[(0,.keep),(3,.st (.int .i64) .z false)],[]⟩,⟨[((.exit 0),⟨[],[]⟩),(.ret,⟨[(2,.st (.int .i64) .z false)],[]⟩)]⟩))],jns:=[],rjs:=[(1,⟨[(0,.keep),(17,.st .bool .z false)],[]⟩),
 (8,⟨[(0,.keep),(3,.keep),(54,.st .bool .z false)],[]⟩)] }
noncomputable def F_spec_l12Voters (x0:(List Int×Int)×List Int×List (Int×Int×Int)×List (Int×Int×List ((Int×Int)×Int))×List (Int×Int×Int×(Int×Int)×Int)×List (List Int)):Option (Int):=
 (F_spec_l12Good x0.1 x0.2.1).bind fun (y13:List Int)=>
 bif (!decide (((List.length y13:Int):Int)=(List.length x0.2.2.2.1:Int))) then
 some 1
 else
 (loopO (S:=Int) (X:=(Unit)⊕(Int)) (fun (s14:Int)=>
 bif (decide ((s14:Int)<(List.length y13:Int))) then
 bif (inB s14 x0.2.2.2.1) then
 bif (inB s14 y13) then
 bif (!decide (((List.getD x0.2.2.2.1 (Int.toNat s14) (0,(0,[]))).1:Int)=List.getD y13 (Int.toNat s14) 0)) then
 some (Sum.inr (Sum.inr 1))
 else
 some (Sum.inl (IntKind.wrap .i64 (s14+1)))
 else none
 else none
 else
 some (Sum.inr (Sum.inl ()))) 0).bind fun (j15:(Unit)⊕(Int))=>
 Sum.elim (fun (j16:Unit)=>
 (loopO (S:=Int) (X:=(Unit)⊕(Int)) (fun (s20:Int)=>
 bif (decide ((s20:Int)<(List.length x0.2.2.2.1:Int))) then
 bif (inB s20 x0.2.2.2.1) then
 (F_spec_l11Fault (List.getD x0.2.2.2.1 (Int.toNat s20) (0,(0,[])))).bind fun (y21:Int)=>
 bif (!decide ((y21:Int)=0)) then
 some (Sum.inr (Sum.inr y21))
 else
 some (Sum.inl (IntKind.wrap .i64 (s20+1)))
 else none
 else
 some (Sum.inr (Sum.inl ()))) 0).bind fun (j22:(Unit)⊕(Int))=>
 Sum.elim (fun (j23:Unit)=>
 some 0) (fun (j24:Int)=>
 some j24) j22) (fun (j17:Int)=>
 some j17) j15
noncomputable def K_spec_l12Voters:Callee:={ ins:=[.rp s13 false],outs:=[((.int .i64),.z)],F:=fun t=>F_spec_l12Voters t.1 }
noncomputable def X_spec_l12Voters:Ctx:={ tys:=tys,fns:=[(163,K_spec_l12Good),(164,K_spec_l11Fault)],frz:=[],lps:=[(5,(⟨[(0,.keep),(3,.keep),(4,.st (.int .i64) .z false)],[]⟩,⟨[((.exit 0),⟨[(0,.keep)],[]⟩),(.ret,⟨[(2,.st (.int .i64) .z false)],[]⟩)]⟩)),
 (10,(⟨[(0,.keep),(5,.st (.int .i64) .z false)],[]⟩,⟨[((.exit 2),⟨[],[]⟩),(.ret,⟨[(2,.st (.int .i64) .z false)],[]⟩)]⟩))],jns:=[],rjs:=[] }
noncomputable def F_spec_l11Vote (x0:Int×Int×Int×(Int×Int)×Int):Option (Int):=
 ((F_spec_l1In x0.2.1 1 2).bind fun (y18:Bool)=>
 bif (!y18) then
 some true
 else
 bif (decide ((x0.2.1:Int)=1)) then
 bif (!(Sh.beq (.prod (.int .i64) (.int .i64)) x0.2.2.2.1 (0,0))) then
 some true
 else
 bif (!decide ((x0.2.2.2.2:Int)=0)) then
 some true
 else
 bif (decide ((x0.2.1:Int)=2)) then
 some (!decide ((x0.2.2.1:Int)=0))
 else
 some false
 else
 bif (decide ((x0.2.1:Int)=2)) then
 some (!decide ((x0.2.2.1:Int)=0))
 else
 some false:Option (Bool)).bind fun (j19:Bool)=>
 bif j19 then
 some 1
 else
 ((F_spec_l1Key x0.1).bind fun (y26:Bool)=>
 bif (!y26) then
 some true
 else
 bif (decide ((x0.2.1:Int)=1)) then
 (F_spec_l11Tx x0.2.2.1).bind fun (y27:Bool)=>
 bif (!y27) then
 some true
 else
 bif (decide ((x0.2.1:Int)=2)) then
 (F_spec_l3Ref x0.2.2.2.1).bind fun (y28:Bool)=>
 bif (!y28) then
 some true
 else
 (F_spec_l11Tx x0.2.2.2.2).bind fun (y29:Bool)=>
 some (!y29)
 else
 some false
 else
 bif (decide ((x0.2.1:Int)=2)) then
 (F_spec_l3Ref x0.2.2.2.1).bind fun (y30:Bool)=>
 bif (!y30) then
 some true
 else
 (F_spec_l11Tx x0.2.2.2.2).bind fun (y31:Bool)=>
 some (!y31)
 else
 some false:Option (Bool)).bind fun (j32:Bool)=>
 bif j32 then
 some 3
 else
 some 0
noncomputable def K_spec_l11Vote:Callee:={ ins:=[.rp s8 false],outs:=[((.int .i64),.z)],F:=fun t=>F_spec_l11Vote t.1 }
noncomputable def X_spec_l11Vote:Ctx:={ tys:=tys,fns:=[(118,K_spec_l1In),(119,K_spec_l1Key),(120,K_spec_l11Tx),(121,K_spec_l3Ref)],frz:=[],lps:=[],jns:=[],rjs:=[(2,⟨[(0,.keep),(46,.st .bool .z false)],[]⟩),
 (4,⟨[(90,.st .bool .z false)],[]⟩)] }
noncomputable def F_spec_l12Has (x0:List (Int×Int×Int×(Int×Int)×Int)) (x1:Int×Int×Int×(Int×Int)×Int):Option (Bool):=
 (loopO (S:=Int) (X:=(Unit)⊕(Bool)) (fun (s5:Int)=>
 bif (decide ((s5:Int)<(List.length x0:Int))) then
 bif (inB s5 x0) then
 bif (Sh.beq (.prod (.int .i64) (.prod (.int .i64) (.prod (.int .i64) (.prod (.prod (.int .i64) (.int .i64)) (.int .i64))))) (List.getD x0 (Int.toNat s5) (0,(0,(0,((0,0),0))))) x1) then
 some (Sum.inr (Sum.inr true))
 else
 some (Sum.inl (IntKind.wrap .i64 (s5+1)))
 else none
 else
 some (Sum.inr (Sum.inl ()))) 0).bind fun (j6:(Unit)⊕(Bool))=>
 Sum.elim (fun (j7:Unit)=>
 some false) (fun (j8:Bool)=>
 some j8) j6
noncomputable def K_spec_l12Has:Callee:={ ins:=[.v (.list s8) .z,.v s8 .z],outs:=[(.bool,.z)],F:=fun t=>F_spec_l12Has t.1 t.2.1 }
noncomputable def X_spec_l12Has:Ctx:={ tys:=tys,fns:=[],frz:=[],lps:=[(2,(⟨[(0,.keep),(3,.keep),(5,.st (.int .i64) .z false)],[(3,.keep)]⟩,⟨[((.exit 0),⟨[],[]⟩),(.ret,⟨[(4,.st .bool .z false)],[]⟩)]⟩))],jns:=[],rjs:=[] }
noncomputable def F_spec_l12At (x0:(List Int×Int)×List Int×List (Int×Int×Int)×List (Int×Int×List ((Int×Int)×Int))×List (Int×Int×Int×(Int×Int)×Int)×List (List Int)) (x1:Int):Option (Int):=
 (loopO (S:=Int) (X:=(Unit)⊕(Int)) (fun (s5:Int)=>
 bif (decide ((s5:Int)<(List.length x0.2.2.2.1:Int))) then
 bif (inB s5 x0.2.2.2.1) then
 bif (decide (((List.getD x0.2.2.2.1 (Int.toNat s5) (0,(0,[]))).1:Int)=x1)) then
 some (Sum.inr (Sum.inr s5))
 else
 some (Sum.inl (IntKind.wrap .i64 (s5+1)))
 else none
 else
 some (Sum.inr (Sum.inl ()))) 0).bind fun (j6:(Unit)⊕(Int))=>
 Sum.elim (fun (j7:Unit)=>
 some (-1)) (fun (j8:Int)=>
 some j8) j6
noncomputable def K_spec_l12At:Callee:={ ins:=[.rp s13 false,.v (.int .i64) .z],outs:=[((.int .i64),.z)],F:=fun t=>F_spec_l12At t.1 t.2.1 }
noncomputable def X_spec_l12At:Ctx:={ tys:=tys,fns:=[],frz:=[],lps:=[(2,(⟨[(0,.keep),(1,.keep),(5,.st (.int .i64) .z false)],[]⟩,⟨[((.exit 0),⟨[],[]⟩),(.ret,⟨[(4,.st (.int .i64) .z false)],[]⟩)]⟩))],jns:=[],rjs:=[] }
noncomputable def F_spec_l9Above (x0:List (Int×Int×Int)) (x1:Int) (x2:Int):Option (Bool):=
 (loopO (S:=Int) (X:=(Unit)⊕(Bool)) (fun (s10:Int)=>
 bif (!decide ((s10:Int)=0)) then
 (F_spec_l9At x0 s10).bind fun (y11:Int)=>
 bif (decide ((y11:Int)<0)) then
 some (Sum.inr (Sum.inr false))
 else
 bif (decide ((x1:Int)=s10)) then
 some (Sum.inr (Sum.inr true))
 else
 bif (inB y11 x0) then
 some (Sum.inl (List.getD x0 (Int.toNat y11) (0,(0,0))).2.1)
 else none
 else
 some (Sum.inr (Sum.inl ()))) x2).bind fun (j12:(Unit)⊕(Bool))=>
 Sum.elim (fun (j13:Unit)=>
 some false) (fun (j14:Bool)=>
 some j14) j12
noncomputable def K_spec_l9Above:Callee:={ ins:=[.v (.list s2) .z,.v (.int .i64) .z,.v (.int .i64) .z],outs:=[(.bool,.z)],F:=fun t=>F_spec_l9Above t.1 t.2.1 t.2.2.1 }
noncomputable def X_spec_l9Above:Ctx:={ tys:=tys,fns:=[(138,K_spec_l9At)],frz:=[],lps:=[(1,(⟨[(0,.keep),(1,.keep),(2,.st (.int .i64) .z false)],[]⟩,⟨[((.exit 0),⟨[],[]⟩),(.ret,⟨[(6,.st .bool .z false)],[]⟩)]⟩))],jns:=[],rjs:=[] }
noncomputable def F_spec_l12Stands (x0:(List Int×Int)×List Int×List (Int×Int×Int)×List (Int×Int×List ((Int×Int)×Int))×List (Int×Int×Int×(Int×Int)×Int)×List (List Int)) (x1:Int×Int×Int×(Int×Int)×Int):Option (Bool):=
 (F_spec_l12At x0 x1.1).bind fun (y5:Int)=>
 bif (decide ((y5:Int)<0)) then
 some true
 else
 bif (inB y5 x0.2.2.2.1) then
 bif (decide ((x1.2.1:Int)=1)) then
 (F_spec_l9Above x0.2.2.1 x1.2.2.1 (List.getD x0.2.2.2.1 (Int.toNat y5) (0,(0,[]))).2.1).bind fun (y6:Bool)=>
 some y6
 else
 (F_spec_l11At (List.getD x0.2.2.2.1 (Int.toNat y5) (0,(0,[]))) x1.2.2.2.1).bind fun (y7:Int)=>
 (bif (decide ((0:Int)≤y7)) then
 bif (inB y7 (List.getD x0.2.2.2.1 (Int.toNat y5) (0,(0,[]))).2.2) then
 some (decide (((List.getD (List.getD x0.2.2.2.1 (Int.toNat y5) (0,(0,[]))).2.2 (Int.toNat y7) ((0,0),0)).2:Int)=x1.2.2.2.2))
 else none
 else
 some false:Option (Bool)).bind fun (j8:Bool)=>
 some j8
 else none
noncomputable def K_spec_l12Stands:Callee:={ ins:=[.rp s13 false,.rp s8 false],outs:=[(.bool,.z)],F:=fun t=>F_spec_l12Stands t.1 t.2.1 }
noncomputable def X_spec_l12Stands:Ctx:={ tys:=tys,fns:=[(73,K_spec_l12At),(139,K_spec_l9Above),(186,K_spec_l11At)],frz:=[],lps:=[],jns:=[],rjs:=[(8,⟨[(4,.st .bool .z false)],[]⟩)] }
noncomputable def F_spec_l12Votes (x0:(List Int×Int)×List Int×List (Int×Int×Int)×List (Int×Int×List ((Int×Int)×Int))×List (Int×Int×Int×(Int×Int)×Int)×List (List Int)):Option (Int):=
 (loopO (S:=Int) (X:=(Unit)⊕(Int)) (fun (s25:Int)=>
 bif (decide ((s25:Int)<(List.length x0.2.2.2.2.1:Int))) then
 bif (inB s25 x0.2.2.2.2.1) then
 (F_spec_l11Vote (List.getD x0.2.2.2.2.1 (Int.toNat s25) (0,(0,(0,((0,0),0)))))).bind fun (y26:Int)=>
 bif (!decide ((y26:Int)=0)) then
 some (Sum.inr (Sum.inr y26))
 else
 bif (inB s25 x0.2.2.2.2.1) then
 (F_spec_l4Among x0.1.1 (List.getD x0.2.2.2.2.1 (Int.toNat s25) (0,(0,(0,((0,0),0))))).1).bind fun (y27:Bool)=>
 bif (!y27) then
 some (Sum.inr (Sum.inr 4))
 else
 bif (cutOk 0 s25 x0.2.2.2.2.1) then
 bif (inB s25 x0.2.2.2.2.1) then
 (F_spec_l12Has (cut 0 s25 x0.2.2.2.2.1) (List.getD x0.2.2.2.2.1 (Int.toNat s25) (0,(0,(0,((0,0),0)))))).bind fun (y28:Bool)=>
 bif y28 then
 some (Sum.inr (Sum.inr 7))
 else
 bif (inB s25 x0.2.2.2.2.1) then
 (F_spec_l12Stands x0 (List.getD x0.2.2.2.2.1 (Int.toNat s25) (0,(0,(0,((0,0),0)))))).bind fun (y29:Bool)=>
 bif (!y29) then
 some (Sum.inr (Sum.inr 6))
 else
 some (Sum.inl (IntKind.wrap .i64 (s25+1)))
 else none
 else none
 else none
 else none
 else none
 else
 some (Sum.inr (Sum.inl ()))) 0).bind fun (j30:(Unit)⊕(Int))=>
 Sum.elim (fun (j31:Unit)=>
 some 0) (fun (j32:Int)=>
 some j32) j30
noncomputable def K_spec_l12Votes:Callee:={ ins:=[.rp s13 false],outs:=[((.int .i64),.z)],F:=fun t=>F_spec_l12Votes t.1 }
noncomputable def X_spec_l12Votes:Ctx:={ tys:=tys,fns:=[(54,K_spec_l11Vote),(55,K_spec_l4Among),(122,K_spec_l12Has),(165,K_spec_l12Stands)],frz:=[],lps:=[(2,(⟨[(0,.keep),(3,.st (.int .i64) .z false)],[]⟩,⟨[((.exit 0),⟨[],[]⟩),(.ret,⟨[(2,.st (.int .i64) .z false)],[]⟩)]⟩))],jns:=[],rjs:=[] }
noncomputable def F_spec_l12Heard (x0:(List Int×Int)×List Int×List (Int×Int×Int)×List (Int×Int×List ((Int×Int)×Int))×List (Int×Int×Int×(Int×Int)×Int)×List (List Int)):Option (Int):=
 (loopO (S:=Int) (X:=(Unit)⊕(Int)) (fun (s75:Int)=>
 bif (decide ((s75:Int)<(List.length x0.2.2.2.2.2:Int))) then
 (loopO (S:=Int) (X:=(Unit)⊕(Int)) (fun (s78:Int)=>
 bif (inB s75 x0.2.2.2.2.2) then
 bif (decide ((s78:Int)<(List.length (List.getD x0.2.2.2.2.2 (Int.toNat s75) []):Int))) then
 bif (inB s75 x0.2.2.2.2.2) then
 bif (inB s78 (List.getD x0.2.2.2.2.2 (Int.toNat s75) [])) then
 (F_spec_l1In (List.getD (List.getD x0.2.2.2.2.2 (Int.toNat s75) []) (Int.toNat s78) 0) 0 (IntKind.wrap .i64 ((List.length x0.2.2.2.2.1:Int) - 1))).bind fun (y79:Bool)=>
 bif (!y79) then
 some (Sum.inr (Sum.inr 3))
 else
 some (Sum.inl (IntKind.wrap .i64 (s78+1)))
 else none
 else none
 else
 some (Sum.inr (Sum.inl ()))
 else none) 0).bind fun (j80:(Unit)⊕(Int))=>
 Sum.elim (fun (j81:Unit)=>
 (loopO (S:=Int) (X:=(Unit)⊕(Int)) (fun (s85:Int)=>
 bif (inB s75 x0.2.2.2.2.2) then
 bif (decide ((s85:Int)<(List.length (List.getD x0.2.2.2.2.2 (Int.toNat s75) []):Int))) then
 bif (inB s75 x0.2.2.2.2.2) then
 bif (cutOk 0 s85 (List.getD x0.2.2.2.2.2 (Int.toNat s75) [])) then
 bif (inB s75 x0.2.2.2.2.2) then
 bif (inB s85 (List.getD x0.2.2.2.2.2 (Int.toNat s75) [])) then
 (F_spec_l4Among (cut 0 s85 (List.getD x0.2.2.2.2.2 (Int.toNat s75) [])) (List.getD (List.getD x0.2.2.2.2.2 (Int.toNat s75) []) (Int.toNat s85) 0)).bind fun (y86:Bool)=>
 bif y86 then
 some (Sum.inr (Sum.inr 7))
 else
 some (Sum.inl (IntKind.wrap .i64 (s85+1)))
 else none
 else none
 else none
 else none
 else
 some (Sum.inr (Sum.inl ()))
 else none) 0).bind fun (j87:(Unit)⊕(Int))=>
 Sum.elim (fun (j88:Unit)=>
 some (Sum.inl (IntKind.wrap .i64 (s75+1)))) (fun (j89:Int)=>
 some (Sum.inr (Sum.inr j89))) j87) (fun (j82:Int)=>
 some (Sum.inr (Sum.inr j82))) j80
 else
 some (Sum.inr (Sum.inl ()))) 0).bind fun (j90:(Unit)⊕(Int))=>
 Sum.elim (fun (j91:Unit)=>
 some 0) (fun (j92:Int)=>
 some j92) j90
noncomputable def K_spec_l12Heard:Callee:={ ins:=[.rp s13 false],outs:=[((.int .i64),.z)],F:=fun t=>F_spec_l12Heard t.1 }
noncomputable def X_spec_l12Heard:Ctx:={ tys:=tys,fns:=[(55,K_spec_l4Among),(118,K_spec_l1In)],frz:=[],lps:=[(2,(⟨[(0,.keep),(3,.st (.int .i64) .z false)],[]⟩,⟨[((.exit 0),⟨[],[]⟩),(.ret,⟨[(2,.st (.int .i64) .z false)],[]⟩)]⟩)),
 (5,(⟨[(0,.keep),(3,.keep),(4,.st (.int .i64) .z false)],[]⟩,⟨[((.exit 2),⟨[(0,.keep),(3,.keep)],[]⟩),(.ret,⟨[(2,.st (.int .i64) .z false)],[]⟩)]⟩)),
 (10,(⟨[(0,.keep),(3,.keep),(5,.st (.int .i64) .z false)],[]⟩,⟨[((.exit 4),⟨[(0,.keep),(3,.keep)],[]⟩),(.ret,⟨[(2,.st (.int .i64) .z false)],[]⟩)]⟩))],jns:=[],rjs:=[] }
noncomputable def F_spec_l12Fault (x0:(List Int×Int)×List Int×List (Int×Int×Int)×List (Int×Int×List ((Int×Int)×Int))×List (Int×Int×Int×(Int×Int)×Int)×List (List Int)):Option (Int):=
 (F_spec_l10Fault x0.1).bind fun (y8:Int)=>
 bif (!decide ((y8:Int)=0)) then
 some y8
 else
 (bif (decide ((20:Int)<(List.length x0.2.1:Int))) then
 some true
 else
 bif (decide ((100:Int)<(List.length x0.2.2.2.2.1:Int))) then
 some true
 else
 bif (decide (((List.length x0.2.2.2.2.2:Int):Int)<1)) then
 some true
 else
 some (decide ((4:Int)<(List.length x0.2.2.2.2.2:Int))):Option (Bool)).bind fun (j9:Bool)=>
 bif j9 then
 some 2
 else
 (F_spec_l12Bad x0.2.1).bind fun (y10:Int)=>
 bif (!decide ((y10:Int)=0)) then
 some y10
 else
 (F_spec_l9Fault x0.2.2.1).bind fun (y11:Int)=>
 bif (!decide ((y11:Int)=0)) then
 some y11
 else
 (F_spec_l12Voters x0).bind fun (y12:Int)=>
 bif (!decide ((y12:Int)=0)) then
 some y12
 else
 (F_spec_l12Votes x0).bind fun (y13:Int)=>
 bif (!decide ((y13:Int)=0)) then
 some y13
 else
 (F_spec_l12Heard x0).bind fun (y14:Int)=>
 some y14
noncomputable def K_spec_l12Fault:Callee:={ ins:=[.rp s13 false],outs:=[((.int .i64),.z)],F:=fun t=>F_spec_l12Fault t.1 }
noncomputable def X_spec_l12Fault:Ctx:={ tys:=tys,fns:=[(112,K_spec_l10Fault),(113,K_spec_l12Bad),(114,K_spec_l9Fault),(115,K_spec_l12Voters),(116,K_spec_l12Votes),(117,K_spec_l12Heard)],frz:=[],lps:=[],jns:=[],rjs:=[(4,⟨[(0,.keep),(44,.st .bool .z false)],[]⟩)] }
noncomputable def F_impl_within (x0:Int) (x1:Int) (x2:Int):Option (Bool):=
 (bif (decide ((x1:Int)≤x0)) then
 some (decide ((x0:Int)≤x2))
 else
 some false:Option (Bool)).bind fun (j2:Bool)=>
 some j2
noncomputable def K_impl_within:Callee:={ ins:=[.v (.int .i64) .z,.v (.int .i64) .z,.v (.int .i64) .z],outs:=[(.bool,.z)],F:=fun t=>F_impl_within t.1 t.2.1 t.2.2.1 }
noncomputable def X_impl_within:Ctx:={ tys:=tys,fns:=[],frz:=[],lps:=[],jns:=[],rjs:=[(1,⟨[(6,.st .bool .z false)],[]⟩)] }
noncomputable def F_slices_IndexFunc_Lint64_int64 (x0:List Int) (x1:Int→Option Bool):Option (Int):=
 (loopO (S:=Int) (X:=(Unit)⊕(Int)) (fun (s10:Int)=>
 bif (decide ((s10:Int)<(List.length x0:Int))) then
 bif (inB s10 x0) then
 (x1 (List.getD x0 (Int.toNat s10) 0)).bind fun (y11:Bool)=>
 bif y11 then
 some (Sum.inr (Sum.inr s10))
 else
 some (Sum.inl (IntKind.wrap .i64 (s10+1)))
 else none
 else
 some (Sum.inr (Sum.inl ()))) 0).bind fun (j12:(Unit)⊕(Int))=>
 Sum.elim (fun (j13:Unit)=>
 some (-1)) (fun (j14:Int)=>
 some j14) j12
noncomputable def K_slices_IndexFunc_Lint64_int64:Callee:={ ins:=[.v (.list (.int .i64)) .z,.v (.fn1 (.int .i64) .bool .z) .z],outs:=[((.int .i64),.z)],F:=fun t=>F_slices_IndexFunc_Lint64_int64 t.1 t.2.1 }
noncomputable def X_slices_IndexFunc_Lint64_int64:Ctx:={ tys:=tys,fns:=[],frz:=[],lps:=[(2,(⟨[(0,.keep),(1,.keep),(7,.keep),(8,.st (.int .i64) .z false)],[]⟩,⟨[((.exit 0),⟨[],[]⟩),(.ret,⟨[(4,.st (.int .i64) .z false)],[]⟩)]⟩))],jns:=[],rjs:=[] }
noncomputable def F_slices_ContainsFunc_Lint64_int64 (x0:List Int) (x1:Int→Option Bool):Option (Bool):=
 (F_slices_IndexFunc_Lint64_int64 x0 x1).bind fun (y2:Int)=>
 some (decide ((0:Int)≤y2))
noncomputable def K_slices_ContainsFunc_Lint64_int64:Callee:={ ins:=[.v (.list (.int .i64)) .z,.v (.fn1 (.int .i64) .bool .z) .z],outs:=[(.bool,.z)],F:=fun t=>F_slices_ContainsFunc_Lint64_int64 t.1 t.2.1 }
noncomputable def X_slices_ContainsFunc_Lint64_int64:Ctx:={ tys:=tys,fns:=[(142,K_slices_IndexFunc_Lint64_int64)],frz:=[],lps:=[],jns:=[],rjs:=[] }
noncomputable def F_impl_isKey (x0:Int):Option (Bool):=
 (F_impl_within x0 1 999).bind fun (y2:Bool)=>
 some y2
noncomputable def K_impl_isKey:Callee:={ ins:=[.v (.int .i64) .z],outs:=[(.bool,.z)],F:=fun t=>F_impl_isKey t.1 }
noncomputable def X_impl_isKey:Ctx:={ tys:=tys,fns:=[(59,K_impl_within)],frz:=[],lps:=[],jns:=[],rjs:=[] }
noncomputable def F_impl_areKeys_c1 (x0:Int):Option (Bool):=
 (F_impl_isKey x0).bind fun (y2:Bool)=>
 some (!y2)
noncomputable def K_impl_areKeys_c1:Callee:={ ins:=[.v (.int .i64) .z],outs:=[(.bool,.z)],F:=fun t=>F_impl_areKeys_c1 t.1 }
noncomputable def X_impl_areKeys_c1:Ctx:={ tys:=tys,fns:=[(105,K_impl_isKey)],frz:=[],lps:=[],jns:=[],rjs:=[] }
noncomputable def F_impl_areKeys (x0:List Int):Option (Bool):=
 (F_slices_ContainsFunc_Lint64_int64 x0 (fun (a4:Int)=>(F_impl_areKeys_c1 a4).bind fun r5=>some r5)).bind fun (y6:Bool)=>
 some (!y6)
noncomputable def K_impl_areKeys:Callee:={ ins:=[.v (.list (.int .i64)) .z],outs:=[(.bool,.z)],F:=fun t=>F_impl_areKeys t.1 }
noncomputable def X_impl_areKeys:Ctx:={ tys:=tys,fns:=[(81,K_slices_ContainsFunc_Lint64_int64),(166,K_impl_areKeys_c1)],frz:=[],lps:=[],jns:=[],rjs:=[] }
noncomputable def F_impl_isRising (x0:List Int):Option (Bool):=
 (loopO (S:=Int) (X:=(Unit)⊕(Bool)) (fun (s5:Int)=>
 bif (decide ((s5:Int)<(List.length x0:Int))) then
 bif (inB s5 x0) then
 bif (inB (IntKind.wrap .i64 (s5 - 1)) x0) then
 bif (decide ((List.getD x0 (Int.toNat s5) 0:Int)≤List.getD x0 (Int.toNat (IntKind.wrap .i64 (s5 - 1))) 0)) then
 some (Sum.inr (Sum.inr false))
 else
 some (Sum.inl (IntKind.wrap .i64 (s5+1)))
 else none
 else none
 else
 some (Sum.inr (Sum.inl ()))) 1).bind fun (j6:(Unit)⊕(Bool))=>
 Sum.elim (fun (j7:Unit)=>
 some true) (fun (j8:Bool)=>
 some j8) j6
noncomputable def K_impl_isRising:Callee:={ ins:=[.v (.list (.int .i64)) .z],outs:=[(.bool,.z)],F:=fun t=>F_impl_isRising t.1 }
noncomputable def X_impl_isRising:Ctx:={ tys:=tys,fns:=[],frz:=[],lps:=[(2,(⟨[(0,.keep),(3,.st (.int .i64) .z false)],[]⟩,⟨[((.exit 0),⟨[],[]⟩),(.ret,⟨[(2,.st .bool .z false)],[]⟩)]⟩))],jns:=[],rjs:=[] }
noncomputable def F_impl_QuorumFault (x0:List Int×Int):Option (Int):=
 (F_impl_within (List.length x0.1:Int) 1 8).bind fun (y8:Bool)=>
 bif (!y8) then
 some 2
 else
 ((F_impl_areKeys x0.1).bind fun (y11:Bool)=>
 bif (!y11) then
 some true
 else
 (F_impl_within x0.2 1 (List.length x0.1:Int)).bind fun (y12:Bool)=>
 some (!y12):Option (Bool)).bind fun (j13:Bool)=>
 bif j13 then
 some 3
 else
 (F_impl_isRising x0.1).bind fun (y14:Bool)=>
 bif (!y14) then
 some 1
 else
 some 0
noncomputable def K_impl_QuorumFault:Callee:={ ins:=[.v s0 .z],outs:=[((.int .i64),.z)],F:=fun t=>F_impl_QuorumFault t.1 }
noncomputable def X_impl_QuorumFault:Ctx:={ tys:=tys,fns:=[(59,K_impl_within),(124,K_impl_areKeys),(125,K_impl_isRising)],frz:=[],lps:=[],jns:=[],rjs:=[(4,⟨[(1,.keep),(11,.st .bool .z false)],[(1,.keep)]⟩)] }
noncomputable def F_impl_badFault (x0:List Int):Option (Int):=
 (F_impl_areKeys x0).bind fun (y3:Bool)=>
 bif (!y3) then
 some 3
 else
 (F_impl_isRising x0).bind fun (y4:Bool)=>
 bif (!y4) then
 some 1
 else
 some 0
noncomputable def K_impl_badFault:Callee:={ ins:=[.v (.list (.int .i64)) .z],outs:=[((.int .i64),.z)],F:=fun t=>F_impl_badFault t.1 }
noncomputable def X_impl_badFault:Ctx:={ tys:=tys,fns:=[(124,K_impl_areKeys),(125,K_impl_isRising)],frz:=[],lps:=[],jns:=[],rjs:=[] }
noncomputable def F_impl_isId (x0:Int):Option (Bool):=
 (F_impl_within x0 1 60).bind fun (y2:Bool)=>
 some y2
noncomputable def K_impl_isId:Callee:={ ins:=[.v (.int .i64) .z],outs:=[(.bool,.z)],F:=fun t=>F_impl_isId t.1 }
noncomputable def X_impl_isId:Ctx:={ tys:=tys,fns:=[(59,K_impl_within)],frz:=[],lps:=[],jns:=[],rjs:=[] }
noncomputable def F_slices_IndexFunc_Limpl_Node_impl_Node (x0:List (Int×Int×Int)) (x1:(Int×Int×Int)→Option Bool):Option (Int):=
 (loopO (S:=Int) (X:=(Unit)⊕(Int)) (fun (s10:Int)=>
 bif (decide ((s10:Int)<(List.length x0:Int))) then
 bif (inB s10 x0) then
 (x1 (List.getD x0 (Int.toNat s10) (0,(0,0)))).bind fun (y11:Bool)=>
 bif y11 then
 some (Sum.inr (Sum.inr s10))
 else
 some (Sum.inl (IntKind.wrap .i64 (s10+1)))
 else none
 else
 some (Sum.inr (Sum.inl ()))) 0).bind fun (j12:(Unit)⊕(Int))=>
 Sum.elim (fun (j13:Unit)=>
 some (-1)) (fun (j14:Int)=>
 some j14) j12
noncomputable def K_slices_IndexFunc_Limpl_Node_impl_Node:Callee:={ ins:=[.v (.list s2) .z,.v (.fn1 s2 .bool .z) .z],outs:=[((.int .i64),.z)],F:=fun t=>F_slices_IndexFunc_Limpl_Node_impl_Node t.1 t.2.1 }
noncomputable def X_slices_IndexFunc_Limpl_Node_impl_Node:Ctx:={ tys:=tys,fns:=[],frz:=[],lps:=[(2,(⟨[(0,.keep),(1,.keep),(7,.keep),(8,.st (.int .i64) .z false)],[]⟩,⟨[((.exit 0),⟨[],[]⟩),(.ret,⟨[(4,.st (.int .i64) .z false)],[]⟩)]⟩))],jns:=[],rjs:=[] }
noncomputable def F_impl_findNode_c1 (x0:Int×Int×Int) (x1:Int):Option (Bool):=
 some (decide ((x0.1:Int)=x1))
noncomputable def K_impl_findNode_c1:Callee:={ ins:=[.v s2 .z,.rp (.int .i64) false],outs:=[(.bool,.z)],F:=fun t=>F_impl_findNode_c1 t.1 t.2.1 }
noncomputable def X_impl_findNode_c1:Ctx:={ tys:=tys,fns:=[],frz:=[],lps:=[],jns:=[],rjs:=[] }
noncomputable def F_impl_findNode (x0:List (Int×Int×Int)) (x1:Int):Option (Int):=
 (F_slices_IndexFunc_Limpl_Node_impl_Node x0 (fun (a4:Int×Int×Int)=>(F_impl_findNode_c1 a4 x1).bind fun r5=>some r5)).bind fun (y6:Int)=>
 some y6
noncomputable def K_impl_findNode:Callee:={ ins:=[.v (.list s2) .z,.v (.int .i64) .z],outs:=[((.int .i64),.z)],F:=fun t=>F_impl_findNode t.1 t.2.1 }
noncomputable def X_impl_findNode:Ctx:={ tys:=tys,fns:=[(187,K_slices_IndexFunc_Limpl_Node_impl_Node),(188,K_impl_findNode_c1)],frz:=[],lps:=[],jns:=[],rjs:=[] }
noncomputable def F_impl_nodeFault (x0:List (Int×Int×Int)) (x1:Int×Int×Int):Option (Int):=
 (F_impl_findNode x0 x1.2.1).bind fun (y11:Int)=>
 (bif (!decide ((x1.2.1:Int)=0)) then
 some (decide ((0:Int)≤y11))
 else
 some false:Option (Bool)).bind fun (j12:Bool)=>
 (bif j12 then
 bif (inB y11 x0) then
 some (IntKind.wrap .i64 ((List.getD x0 (Int.toNat y11) (0,(0,0))).2.2+1))
 else none
 else
 some 1:Option (Int)).bind fun (j13:Int)=>
 ((F_impl_isId x1.1).bind fun (y16:Bool)=>
 bif (!y16) then
 some true
 else
 (F_impl_within x1.2.2 1 40).bind fun (y17:Bool)=>
 some (!y17):Option (Bool)).bind fun (j18:Bool)=>
 bif j18 then
 some 3
 else
 (F_impl_findNode x0 x1.1).bind fun (y19:Int)=>
 bif (decide ((0:Int)≤y19)) then
 some 7
 else
 (bif (!decide ((x1.2.1:Int)=0)) then
 some (decide ((y11:Int)<0))
 else
 some false:Option (Bool)).bind fun (j20:Bool)=>
 bif j20 then
 some 4
 else
 bif (!decide ((x1.2.2:Int)=j13)) then
 some 1
 else
 some 0
noncomputable def K_impl_nodeFault:Callee:={ ins:=[.v (.list s2) .z,.v s2 .z],outs:=[((.int .i64),.z)],F:=fun t=>F_impl_nodeFault t.1 t.2.1 }
noncomputable def X_impl_nodeFault:Ctx:={ tys:=tys,fns:=[(59,K_impl_within),(103,K_impl_isId),(167,K_impl_findNode)],frz:=[],lps:=[],jns:=[(4,⟨[(.normal,⟨[(0,.keep),(3,.keep),(5,.st (.int .i64) .z false),(6,.keep)],[(3,.keep)]⟩)]⟩)],rjs:=[(3,⟨[(0,.keep),(3,.keep),(5,.keep),(6,.keep),(17,.st .bool .z false)],[(3,.keep)]⟩),
 (5,⟨[(0,.keep),(3,.keep),(5,.keep),(6,.keep),(24,.st .bool .z false)],[(3,.keep)]⟩),
 (9,⟨[(3,.keep),(5,.keep),(41,.st .bool .z false)],[(3,.keep)]⟩)] }
noncomputable def F_impl_TreeFault (x0:List (Int×Int×Int)):Option (Int):=
 bif (decide ((60:Int)<(List.length x0:Int))) then
 some 2
 else
 (loopO (S:=Int) (X:=(Unit)⊕(Int)) (fun (s10:Int)=>
 bif (decide ((s10:Int)<(List.length x0:Int))) then
 bif (inB s10 x0) then
 bif (cutOk 0 s10 x0) then
 (F_impl_nodeFault (cut 0 s10 x0) (List.getD x0 (Int.toNat s10) (0,(0,0)))).bind fun (y11:Int)=>
 bif (!decide ((y11:Int)=0)) then
 some (Sum.inr (Sum.inr y11))
 else
 some (Sum.inl (IntKind.wrap .i64 (s10+1)))
 else none
 else none
 else
 some (Sum.inr (Sum.inl ()))) 0).bind fun (j12:(Unit)⊕(Int))=>
 Sum.elim (fun (j13:Unit)=>
 some 0) (fun (j14:Int)=>
 some j14) j12
noncomputable def K_impl_TreeFault:Callee:={ ins:=[.v (.list s2) .z],outs:=[((.int .i64),.z)],F:=fun t=>F_impl_TreeFault t.1 }
noncomputable def X_impl_TreeFault:Ctx:={ tys:=tys,fns:=[(126,K_impl_nodeFault)],frz:=[],lps:=[(4,(⟨[(0,.keep),(9,.keep),(10,.keep),(11,.st (.int .i64) .z false)],[]⟩,⟨[((.exit 0),⟨[],[]⟩),(.ret,⟨[(2,.st (.int .i64) .z false)],[]⟩)]⟩))],jns:=[],rjs:=[] }
noncomputable def F_slices_Clone_Lint64_int64 (x0:List Int):Option (List Int):=
 bif List.isEmpty x0 then
 agree (some ([]:List Int)) (bif decide (List.length ([]:List Int)+List.length x0≤LIM) then
 some (List.append ([]:List Int) x0)
 else none)
 else
 bif decide (List.length ([]:List Int)+List.length x0≤LIM) then
 some (List.append ([]:List Int) x0)
 else none
noncomputable def K_slices_Clone_Lint64_int64:Callee:={ ins:=[.v (.list (.int .i64)) .z],outs:=[((.list (.int .i64)),(.o .z))],F:=fun t=>F_slices_Clone_Lint64_int64 t.1 }
noncomputable def X_slices_Clone_Lint64_int64:Ctx:={ tys:=tys,fns:=[],frz:=[],lps:=[],jns:=[],rjs:=[] }
noncomputable def F_slices_DeleteFunc_Lint64_int64 (x0:List Int) (x1:Int→Option Bool):Option (List Int):=
 (F_slices_IndexFunc_Lint64_int64 x0 x1).bind fun (y10:Int)=>
 bif (decide ((y10:Int)=(-1))) then
 some x0
 else
 (loopO (S:=List Int×Int×Int) (X:=List Int×Int) (fun (s15:List Int×Int×Int)=>
 bif (decide ((s15.2.2:Int)<(List.length s15.1:Int))) then
 bif (inB s15.2.2 s15.1) then
 (x1 (List.getD s15.1 (Int.toNat s15.2.2) 0)).bind fun (y16:Bool)=>
 (bif (!y16) then
 bif (inB s15.2.1 s15.1) then
 some (List.set s15.1 (Int.toNat s15.2.1) (List.getD s15.1 (Int.toNat s15.2.2) 0),IntKind.wrap .i64 (s15.2.1+1))
 else none
 else
 some (s15.1,s15.2.1):Option (List Int×Int)).bind fun (j17:List Int×Int)=>
 some (Sum.inl (j17.1,(j17.2,IntKind.wrap .i64 (s15.2.2+1))))
 else none
 else
 some (Sum.inr (s15.1,s15.2.1))) (x0,(y10,IntKind.wrap .i64 (y10+1)))).bind fun (j18:List Int×Int)=>
 bif (cutOk j18.2 (List.length j18.1:Int) j18.1) then
 bif (cutOk 0 j18.2 (clr (s:=(.int .i64)) j18.2 (List.length j18.1:Int) j18.1)) then
 some (List.take (Int.toNat (j18.2 - 0)) (List.drop (Int.toNat 0) (clr (s:=(.int .i64)) j18.2 (List.length j18.1:Int) j18.1)))
 else none
 else none
noncomputable def K_slices_DeleteFunc_Lint64_int64:Callee:={ ins:=[.v (.list (.int .i64)) (.o .z),.v (.fn1 (.int .i64) .bool .z) .z],outs:=[((.list (.int .i64)),(.o .z))],F:=fun t=>F_slices_DeleteFunc_Lint64_int64 t.1 t.2.1 }
noncomputable def X_slices_DeleteFunc_Lint64_int64:Ctx:={ tys:=tys,fns:=[(142,K_slices_IndexFunc_Lint64_int64)],frz:=[],lps:=[(5,(⟨[(0,.st (.list (.int .i64)) (.o .z) false),(1,.keep),(5,.st (.int .i64) .z false),(6,.st (.int .i64) .z false)],[]⟩,⟨[((.exit 0),⟨[(0,.st (.list (.int .i64)) (.o .z) false),(5,.st (.int .i64) .z false)],[]⟩)]⟩))],jns:=[(9,⟨[(.normal,⟨[(0,.st (.list (.int .i64)) (.o .z) false),(1,.keep),(5,.st (.int .i64) .z false),(6,.keep)],[]⟩)]⟩)],rjs:=[] }
noncomputable def F_slices_Index_Lint64_int64 (x0:List Int) (x1:Int):Option (Int):=
 (loopO (S:=Int) (X:=(Unit)⊕(Int)) (fun (s5:Int)=>
 bif (decide ((s5:Int)<(List.length x0:Int))) then
 bif (inB s5 x0) then
 bif (decide ((x1:Int)=List.getD x0 (Int.toNat s5) 0)) then
 some (Sum.inr (Sum.inr s5))
 else
 some (Sum.inl (IntKind.wrap .i64 (s5+1)))
 else none
 else
 some (Sum.inr (Sum.inl ()))) 0).bind fun (j6:(Unit)⊕(Int))=>
 Sum.elim (fun (j7:Unit)=>
 some (-1)) (fun (j8:Int)=>
 some j8) j6
noncomputable def K_slices_Index_Lint64_int64:Callee:={ ins:=[.v (.list (.int .i64)) .z,.v (.int .i64) .z],outs:=[((.int .i64),.z)],F:=fun t=>F_slices_Index_Lint64_int64 t.1 t.2.1 }
noncomputable def X_slices_Index_Lint64_int64:Ctx:={ tys:=tys,fns:=[],frz:=[],lps:=[(2,(⟨[(0,.keep),(1,.keep),(7,.keep),(8,.st (.int .i64) .z false)],[]⟩,⟨[((.exit 0),⟨[],[]⟩),(.ret,⟨[(4,.st (.int .i64) .z false)],[]⟩)]⟩))],jns:=[],rjs:=[] }
noncomputable def F_slices_Contains_Lint64_int64 (x0:List Int) (x1:Int):Option (Bool):=
 (F_slices_Index_Lint64_int64 x0 x1).bind fun (y2:Int)=>
 some (decide ((0:Int)≤y2))
noncomputable def K_slices_Contains_Lint64_int64:Callee:={ ins:=[.v (.list (.int .i64)) .z,.v (.int .i64) .z],outs:=[(.bool,.z)],F:=fun t=>F_slices_Contains_Lint64_int64 t.1 t.2.1 }
noncomputable def X_slices_Contains_Lint64_int64:Ctx:={ tys:=tys,fns:=[(106,K_slices_Index_Lint64_int64)],frz:=[],lps:=[],jns:=[],rjs:=[] }
noncomputable def F_impl_goodKeys_c1 (x0:Int) (x1:List Int):Option (Bool):=
 (F_slices_Contains_Lint64_int64 x1 x0).bind fun (y2:Bool)=>
 some y2
noncomputable def K_impl_goodKeys_c1:Callee:={ ins:=[.v (.int .i64) .z,.rp (.list (.int .i64)) false],outs:=[(.bool,.z)],F:=fun t=>F_impl_goodKeys_c1 t.1 t.2.1 }
noncomputable def X_impl_goodKeys_c1:Ctx:={ tys:=tys,fns:=[(49,K_slices_Contains_Lint64_int64)],frz:=[],lps:=[],jns:=[],rjs:=[] }
noncomputable def F_impl_goodKeys (x0:List Int×Int) (x1:List Int):Option (List Int):=
 (F_slices_Clone_Lint64_int64 x0.1).bind fun (y5:List Int)=>
 (F_slices_DeleteFunc_Lint64_int64 y5 (fun (a6:Int)=>(F_impl_goodKeys_c1 a6 x1).bind fun r7=>some r7)).bind fun (y8:List Int)=>
 some y8
noncomputable def K_impl_goodKeys:Callee:={ ins:=[.v s0 .z,.v (.list (.int .i64)) .z],outs:=[((.list (.int .i64)),(.o .z))],F:=fun t=>F_impl_goodKeys t.1 t.2.1 }
noncomputable def X_impl_goodKeys:Ctx:={ tys:=tys,fns:=[(107,K_slices_Clone_Lint64_int64),(168,K_slices_DeleteFunc_Lint64_int64),(169,K_impl_goodKeys_c1)],frz:=[],lps:=[],jns:=[],rjs:=[] }
noncomputable def F_slices_EqualFunc_Limpl_Voter_Lint64_impl_Voter_int64 (x0:List (Int×Int×List ((Int×Int)×Int))) (x1:List Int) (x2:(Int×Int×List ((Int×Int)×Int))→Int→Option Bool):Option (Bool):=
 bif (!decide (((List.length x0:Int):Int)=(List.length x1:Int))) then
 some false
 else
 (loopO (S:=Int) (X:=(Unit)⊕(Bool)) (fun (s10:Int)=>
 bif (decide ((s10:Int)<(List.length x0:Int))) then
 bif (inB s10 x0) then
 bif (inB s10 x1) then
 (x2 (List.getD x0 (Int.toNat s10) (0,(0,[]))) (List.getD x1 (Int.toNat s10) 0)).bind fun (y11:Bool)=>
 bif (!y11) then
 some (Sum.inr (Sum.inr false))
 else
 some (Sum.inl (IntKind.wrap .i64 (s10+1)))
 else none
 else none
 else
 some (Sum.inr (Sum.inl ()))) 0).bind fun (j12:(Unit)⊕(Bool))=>
 Sum.elim (fun (j13:Unit)=>
 some true) (fun (j14:Bool)=>
 some j14) j12
noncomputable def K_slices_EqualFunc_Limpl_Voter_Lint64_impl_Voter_int64:Callee:={ ins:=[.v (.list s5) .z,.v (.list (.int .i64)) .z,.v (.fn2 s5 (.int .i64) .bool) .z],outs:=[(.bool,.z)],F:=fun t=>F_slices_EqualFunc_Limpl_Voter_Lint64_impl_Voter_int64 t.1 t.2.1 t.2.2.1 }
noncomputable def X_slices_EqualFunc_Limpl_Voter_Lint64_impl_Voter_int64:Ctx:={ tys:=tys,fns:=[],frz:=[],lps:=[(4,(⟨[(1,.keep),(2,.keep),(15,.keep),(16,.keep),(17,.st (.int .i64) .z false)],[]⟩,⟨[((.exit 0),⟨[],[]⟩),(.ret,⟨[(6,.st .bool .z false)],[]⟩)]⟩))],jns:=[],rjs:=[] }
noncomputable def F_impl_Cluster_votersFault_c1 (x0:Int×Int×List ((Int×Int)×Int)) (x1:Int):Option (Bool):=
 some (decide ((x0.1:Int)=x1))
noncomputable def K_impl_Cluster_votersFault_c1:Callee:={ ins:=[.v s5 .z,.v (.int .i64) .z],outs:=[(.bool,.z)],F:=fun t=>F_impl_Cluster_votersFault_c1 t.1 t.2.1 }
noncomputable def X_impl_Cluster_votersFault_c1:Ctx:={ tys:=tys,fns:=[],frz:=[],lps:=[],jns:=[],rjs:=[] }
noncomputable def F_slices_IndexFunc_Limpl_Choice_impl_Choice (x0:List ((Int×Int)×Int)) (x1:((Int×Int)×Int)→Option Bool):Option (Int):=
 (loopO (S:=Int) (X:=(Unit)⊕(Int)) (fun (s10:Int)=>
 bif (decide ((s10:Int)<(List.length x0:Int))) then
 bif (inB s10 x0) then
 (x1 (List.getD x0 (Int.toNat s10) ((0,0),0))).bind fun (y11:Bool)=>
 bif y11 then
 some (Sum.inr (Sum.inr s10))
 else
 some (Sum.inl (IntKind.wrap .i64 (s10+1)))
 else none
 else
 some (Sum.inr (Sum.inl ()))) 0).bind fun (j12:(Unit)⊕(Int))=>
 Sum.elim (fun (j13:Unit)=>
 some (-1)) (fun (j14:Int)=>
 some j14) j12
noncomputable def K_slices_IndexFunc_Limpl_Choice_impl_Choice:Callee:={ ins:=[.v (.list s3) .z,.v (.fn1 s3 .bool .z) .z],outs:=[((.int .i64),.z)],F:=fun t=>F_slices_IndexFunc_Limpl_Choice_impl_Choice t.1 t.2.1 }
noncomputable def X_slices_IndexFunc_Limpl_Choice_impl_Choice:Ctx:={ tys:=tys,fns:=[],frz:=[],lps:=[(2,(⟨[(0,.keep),(1,.keep),(7,.keep),(8,.st (.int .i64) .z false)],[]⟩,⟨[((.exit 0),⟨[],[]⟩),(.ret,⟨[(4,.st (.int .i64) .z false)],[]⟩)]⟩))],jns:=[],rjs:=[] }
noncomputable def F_slices_ContainsFunc_Limpl_Choice_impl_Choice (x0:List ((Int×Int)×Int)) (x1:((Int×Int)×Int)→Option Bool):Option (Bool):=
 (F_slices_IndexFunc_Limpl_Choice_impl_Choice x0 x1).bind fun (y2:Int)=>
 some (decide ((0:Int)≤y2))
noncomputable def K_slices_ContainsFunc_Limpl_Choice_impl_Choice:Callee:={ ins:=[.v (.list s3) .z,.v (.fn1 s3 .bool .z) .z],outs:=[(.bool,.z)],F:=fun t=>F_slices_ContainsFunc_Limpl_Choice_impl_Choice t.1 t.2.1 }
noncomputable def X_slices_ContainsFunc_Limpl_Choice_impl_Choice:Ctx:={ tys:=tys,fns:=[(143,K_slices_IndexFunc_Limpl_Choice_impl_Choice)],frz:=[],lps:=[],jns:=[],rjs:=[] }
noncomputable def F_impl_isRef (x0:Int×Int):Option (Bool):=
 ((F_impl_isId x0.1).bind fun (y8:Bool)=>
 bif y8 then
 (F_impl_within x0.2 0 3).bind fun (y9:Bool)=>
 some y9
 else
 some false:Option (Bool)).bind fun (j10:Bool)=>
 some j10
noncomputable def K_impl_isRef:Callee:={ ins:=[.v s1 .z],outs:=[(.bool,.z)],F:=fun t=>F_impl_isRef t.1 }
noncomputable def X_impl_isRef:Ctx:={ tys:=tys,fns:=[(59,K_impl_within),(103,K_impl_isId)],frz:=[],lps:=[],jns:=[],rjs:=[(1,⟨[(2,.st .bool .z false)],[]⟩)] }
noncomputable def F_impl_VoterFault_c1 (x0:(Int×Int)×Int) (x1:(Int×Int)×Int):Option (Bool):=
 some (Sh.beq (.prod (.int .i64) (.int .i64)) x0.1 x1.1)
noncomputable def K_impl_VoterFault_c1:Callee:={ ins:=[.v s3 .z,.rp s3 false],outs:=[(.bool,.z)],F:=fun t=>F_impl_VoterFault_c1 t.1 t.2.1 }
noncomputable def X_impl_VoterFault_c1:Ctx:={ tys:=tys,fns:=[],frz:=[],lps:=[],jns:=[],rjs:=[] }
noncomputable def F_impl_VoterFault (x0:Int×Int×List ((Int×Int)×Int)):Option (Int):=
 ((F_impl_isKey x0.1).bind fun (y36:Bool)=>
 bif (!y36) then
 some true
 else
 (F_impl_within x0.2.1 0 60).bind fun (y37:Bool)=>
 some (!y37):Option (Bool)).bind fun (j38:Bool)=>
 bif j38 then
 some 3
 else
 bif (decide ((40:Int)<(List.length x0.2.2:Int))) then
 some 2
 else
 (loopO (S:=Int) (X:=(Unit)⊕(Int)) (fun (s55:Int)=>
 bif (decide ((s55:Int)<(List.length x0.2.2:Int))) then
 bif (inB s55 x0.2.2) then
 ((F_impl_isRef (List.getD x0.2.2 (Int.toNat s55) ((0,0),0)).1).bind fun (y58:Bool)=>
 bif (!y58) then
 some true
 else
 (F_impl_isId (List.getD x0.2.2 (Int.toNat s55) ((0,0),0)).2).bind fun (y59:Bool)=>
 some (!y59):Option (Bool)).bind fun (j60:Bool)=>
 bif j60 then
 some (Sum.inr (Sum.inr 3))
 else
 bif (cutOk 0 s55 x0.2.2) then
 (F_slices_ContainsFunc_Limpl_Choice_impl_Choice (cut 0 s55 x0.2.2) (fun (a61:(Int×Int)×Int)=>(F_impl_VoterFault_c1 a61 (List.getD x0.2.2 (Int.toNat s55) ((0,0),0))).bind fun r62=>some r62)).bind fun (y63:Bool)=>
 bif y63 then
 some (Sum.inr (Sum.inr 7))
 else
 some (Sum.inl (IntKind.wrap .i64 (s55+1)))
 else none
 else none
 else
 some (Sum.inr (Sum.inl ()))) 0).bind fun (j64:(Unit)⊕(Int))=>
 Sum.elim (fun (j65:Unit)=>
 some 0) (fun (j66:Int)=>
 some j66) j64
noncomputable def K_impl_VoterFault:Callee:={ ins:=[.v s5 .z],outs:=[((.int .i64),.z)],F:=fun t=>F_impl_VoterFault t.1 }
noncomputable def X_impl_VoterFault:Ctx:={ tys:=tys,fns:=[(59,K_impl_within),(83,K_slices_ContainsFunc_Limpl_Choice_impl_Choice),(103,K_impl_isId),(104,K_impl_isRef),(105,K_impl_isKey),(170,K_impl_VoterFault_c1)],frz:=[],lps:=[(6,(⟨[(1,.keep),(22,.keep),(23,.keep),(24,.st (.int .i64) .z false)],[(1,.keep)]⟩,⟨[((.exit 1),⟨[],[]⟩),(.ret,⟨[(2,.st (.int .i64) .z false)],[]⟩)]⟩))],jns:=[],rjs:=[(1,⟨[(1,.keep),(5,.st .bool .z false)],[(1,.keep)]⟩),
 (8,⟨[(1,.keep),(3,.keep),(4,.keep),(22,.keep),(23,.keep),(24,.keep),(38,.st .bool .z false)],[(1,.keep),(4,.keep)]⟩)] }
noncomputable def F_impl_Cluster_votersFault (x0:(List Int×Int)×List Int×List (Int×Int×Int)×List (Int×Int×List ((Int×Int)×Int))×List (Int×Int×Int×(Int×Int)×Int)×List (List Int)):Option (Int):=
 (F_impl_goodKeys x0.1 x0.2.1).bind fun (y13:List Int)=>
 (F_slices_EqualFunc_Limpl_Voter_Lint64_impl_Voter_int64 x0.2.2.2.1 y13 (fun (a14:Int×Int×List ((Int×Int)×Int)) (a15:Int)=>(F_impl_Cluster_votersFault_c1 a14 a15).bind fun r16=>some r16)).bind fun (y17:Bool)=>
 bif (!y17) then
 some 1
 else
 (loopO (S:=Int) (X:=(Unit)⊕(Int)) (fun (s20:Int)=>
 bif (decide ((s20:Int)<(List.length x0.2.2.2.1:Int))) then
 bif (inB s20 x0.2.2.2.1) then
 (F_impl_VoterFault (List.getD x0.2.2.2.1 (Int.toNat s20) (0,(0,[])))).bind fun (y21:Int)=>
 bif (!decide ((y21:Int)=0)) then
 some (Sum.inr (Sum.inr y21))
 else
 some (Sum.inl (IntKind.wrap .i64 (s20+1)))
 else none
 else
 some (Sum.inr (Sum.inl ()))) 0).bind fun (j22:(Unit)⊕(Int))=>
 Sum.elim (fun (j23:Unit)=>
 some 0) (fun (j24:Int)=>
 some j24) j22
noncomputable def K_impl_Cluster_votersFault:Callee:={ ins:=[.rp s13 false],outs:=[((.int .i64),.z)],F:=fun t=>F_impl_Cluster_votersFault t.1 }
noncomputable def X_impl_Cluster_votersFault:Ctx:={ tys:=tys,fns:=[(127,K_impl_goodKeys),(128,K_slices_EqualFunc_Limpl_Voter_Lint64_impl_Voter_int64),(129,K_impl_Cluster_votersFault_c1),(130,K_impl_VoterFault)],frz:=[],lps:=[(5,(⟨[(26,.keep),(27,.keep),(28,.st (.int .i64) .z false)],[]⟩,⟨[((.exit 0),⟨[],[]⟩),(.ret,⟨[(2,.st (.int .i64) .z false)],[]⟩)]⟩))],jns:=[],rjs:=[] }
noncomputable def F_impl_VoteFault (x0:Int×Int×Int×(Int×Int)×Int):Option (Int):=
 (F_impl_isId x0.2.2.1).bind fun (y20:Bool)=>
 (bif (decide ((x0.2.1:Int)=1)) then
 (bif (!(Sh.beq (.prod (.int .i64) (.int .i64)) x0.2.2.2.1 (0,0))) then
 some true
 else
 some (!decide ((x0.2.2.2.2:Int)=0)):Option (Bool)).bind fun (j27:Bool)=>
 bif j27 then
 some (Sum.inr 1)
 else
 some (Sum.inl y20)
 else
 bif (decide ((x0.2.1:Int)=2)) then
 bif (!decide ((x0.2.2.1:Int)=0)) then
 some (Sum.inr 1)
 else
 ((F_impl_isRef x0.2.2.2.1).bind fun (y30:Bool)=>
 bif y30 then
 (F_impl_isId x0.2.2.2.2).bind fun (y31:Bool)=>
 some y31
 else
 some false:Option (Bool)).bind fun (j32:Bool)=>
 some (Sum.inl j32)
 else
 some (Sum.inr 1):Option ((Bool)⊕(Int))).bind fun (j33:(Bool)⊕(Int))=>
 Sum.elim (fun (j34:Bool)=>
 ((F_impl_isKey x0.1).bind fun (y37:Bool)=>
 bif (!y37) then
 some true
 else
 some (!j34):Option (Bool)).bind fun (j38:Bool)=>
 bif j38 then
 some 3
 else
 some 0) (fun (j35:Int)=>
 some j35) j33
noncomputable def K_impl_VoteFault:Callee:={ ins:=[.v s8 .z],outs:=[((.int .i64),.z)],F:=fun t=>F_impl_VoteFault t.1 }
noncomputable def X_impl_VoteFault:Ctx:={ tys:=tys,fns:=[(103,K_impl_isId),(104,K_impl_isRef),(105,K_impl_isKey)],frz:=[],lps:=[],jns:=[(5,⟨[(.normal,⟨[(1,.keep),(3,.st .bool .z false)],[(1,.keep)]⟩),(.ret,⟨[(2,.st (.int .i64) .z false)],[]⟩)]⟩)],rjs:=[(5,⟨[(1,.keep),(3,.keep),(19,.st .bool .z false)],[(1,.keep)]⟩),
 (10,⟨[(1,.keep),(3,.st .bool .z false)],[(1,.keep)]⟩),
 (11,⟨[(40,.st .bool .z false)],[]⟩)] }
noncomputable def F_slices_Index_Limpl_Vote_impl_Vote (x0:List (Int×Int×Int×(Int×Int)×Int)) (x1:Int×Int×Int×(Int×Int)×Int):Option (Int):=
 (loopO (S:=Int) (X:=(Unit)⊕(Int)) (fun (s5:Int)=>
 bif (decide ((s5:Int)<(List.length x0:Int))) then
 bif (inB s5 x0) then
 bif (Sh.beq (.prod (.int .i64) (.prod (.int .i64) (.prod (.int .i64) (.prod (.prod (.int .i64) (.int .i64)) (.int .i64))))) x1 (List.getD x0 (Int.toNat s5) (0,(0,(0,((0,0),0)))))) then
 some (Sum.inr (Sum.inr s5))
 else
 some (Sum.inl (IntKind.wrap .i64 (s5+1)))
 else none
 else
 some (Sum.inr (Sum.inl ()))) 0).bind fun (j6:(Unit)⊕(Int))=>
 Sum.elim (fun (j7:Unit)=>
 some (-1)) (fun (j8:Int)=>
 some j8) j6
noncomputable def K_slices_Index_Limpl_Vote_impl_Vote:Callee:={ ins:=[.v (.list s8) .z,.v s8 .z],outs:=[((.int .i64),.z)],F:=fun t=>F_slices_Index_Limpl_Vote_impl_Vote t.1 t.2.1 }
noncomputable def X_slices_Index_Limpl_Vote_impl_Vote:Ctx:={ tys:=tys,fns:=[],frz:=[],lps:=[(2,(⟨[(0,.keep),(3,.keep),(7,.keep),(8,.st (.int .i64) .z false)],[(3,.keep)]⟩,⟨[((.exit 0),⟨[],[]⟩),(.ret,⟨[(4,.st (.int .i64) .z false)],[]⟩)]⟩))],jns:=[],rjs:=[] }
noncomputable def F_slices_Contains_Limpl_Vote_impl_Vote (x0:List (Int×Int×Int×(Int×Int)×Int)) (x1:Int×Int×Int×(Int×Int)×Int):Option (Bool):=
 (F_slices_Index_Limpl_Vote_impl_Vote x0 x1).bind fun (y2:Int)=>
 some (decide ((0:Int)≤y2))
noncomputable def K_slices_Contains_Limpl_Vote_impl_Vote:Callee:={ ins:=[.v (.list s8) .z,.v s8 .z],outs:=[(.bool,.z)],F:=fun t=>F_slices_Contains_Limpl_Vote_impl_Vote t.1 t.2.1 }
noncomputable def X_slices_Contains_Limpl_Vote_impl_Vote:Ctx:={ tys:=tys,fns:=[(161,K_slices_Index_Limpl_Vote_impl_Vote)],frz:=[],lps:=[],jns:=[],rjs:=[] }
noncomputable def F_slices_Reverse_Lint64_int64 (x0:List Int):Option (List Int):=
 bif Nat.ble (List.length x0) 9223372036854775807 then some (List.reverse x0) else none
noncomputable def K_slices_Reverse_Lint64_int64:Callee:={ ins:=[.mu (.list (.int .i64)) (.o .z) (.o .z)],outs:=[],F:=fun t=>F_slices_Reverse_Lint64_int64 t.1 }
noncomputable def F_impl_pathTo (x0:List (Int×Int×Int)) (x1:Int):Option (List Int):=
 (F_impl_findNode x0 x1).bind fun (y8:Int)=>
 (loopO (S:=List Int×Int) (X:=List Int) (fun (s11:List Int×Int)=>
 bif (decide ((0:Int)≤s11.2)) then
 bif (inB s11.2 x0) then
 bif decide (List.length s11.1+List.length ([(List.getD x0 (Int.toNat s11.2) (0,(0,0))).1]:List Int)≤LIM) then
 bif (inB s11.2 x0) then
 (F_impl_findNode x0 (List.getD x0 (Int.toNat s11.2) (0,(0,0))).2.1).bind fun (y12:Int)=>
 some (Sum.inl (List.append s11.1 ([(List.getD x0 (Int.toNat s11.2) (0,(0,0))).1]:List Int),y12))
 else none
 else none
 else none
 else
 some (Sum.inr s11.1)) (([]:List Int),y8)).bind fun (j13:List Int)=>
 (F_slices_Reverse_Lint64_int64 j13).bind fun (y14:List Int)=>
 some y14
noncomputable def K_impl_pathTo:Callee:={ ins:=[.v (.list s2) .z,.v (.int .i64) .z],outs:=[((.list (.int .i64)),(.o .z))],F:=fun t=>F_impl_pathTo t.1 t.2.1 }
noncomputable def X_impl_pathTo:Ctx:={ tys:=tys,fns:=[(167,K_impl_findNode),(181,K_slices_Reverse_Lint64_int64)],frz:=[],lps:=[(3,(⟨[(0,.keep),(5,.st (.list (.int .i64)) (.o .z) false),(6,.st (.int .i64) .z false)],[]⟩,⟨[((.exit 0),⟨[(5,.st (.list (.int .i64)) (.o .z) false)],[]⟩)]⟩))],jns:=[],rjs:=[] }
noncomputable def F_impl_isAbove (x0:List (Int×Int×Int)) (x1:Int) (x2:Int):Option (Bool):=
 (F_impl_pathTo x0 x2).bind fun (y3:List Int)=>
 (F_slices_Contains_Lint64_int64 y3 x1).bind fun (y4:Bool)=>
 some y4
noncomputable def K_impl_isAbove:Callee:={ ins:=[.v (.list s2) .z,.v (.int .i64) .z,.v (.int .i64) .z],outs:=[(.bool,.z)],F:=fun t=>F_impl_isAbove t.1 t.2.1 t.2.2.1 }
noncomputable def X_impl_isAbove:Ctx:={ tys:=tys,fns:=[(49,K_slices_Contains_Lint64_int64),(155,K_impl_pathTo)],frz:=[],lps:=[],jns:=[],rjs:=[] }
noncomputable def F_slices_IndexFunc_Limpl_Voter_impl_Voter (x0:List (Int×Int×List ((Int×Int)×Int))) (x1:(Int×Int×List ((Int×Int)×Int))→Option Bool):Option (Int):=
 (loopO (S:=Int) (X:=(Unit)⊕(Int)) (fun (s10:Int)=>
 bif (decide ((s10:Int)<(List.length x0:Int))) then
 bif (inB s10 x0) then
 (x1 (List.getD x0 (Int.toNat s10) (0,(0,[])))).bind fun (y11:Bool)=>
 bif y11 then
 some (Sum.inr (Sum.inr s10))
 else
 some (Sum.inl (IntKind.wrap .i64 (s10+1)))
 else none
 else
 some (Sum.inr (Sum.inl ()))) 0).bind fun (j12:(Unit)⊕(Int))=>
 Sum.elim (fun (j13:Unit)=>
 some (-1)) (fun (j14:Int)=>
 some j14) j12
noncomputable def K_slices_IndexFunc_Limpl_Voter_impl_Voter:Callee:={ ins:=[.v (.list s5) .z,.v (.fn1 s5 .bool .z) .z],outs:=[((.int .i64),.z)],F:=fun t=>F_slices_IndexFunc_Limpl_Voter_impl_Voter t.1 t.2.1 }
noncomputable def X_slices_IndexFunc_Limpl_Voter_impl_Voter:Ctx:={ tys:=tys,fns:=[],frz:=[],lps:=[(2,(⟨[(0,.keep),(1,.keep),(7,.keep),(8,.st (.int .i64) .z false)],[]⟩,⟨[((.exit 0),⟨[],[]⟩),(.ret,⟨[(4,.st (.int .i64) .z false)],[]⟩)]⟩))],jns:=[],rjs:=[] }
noncomputable def F_impl_Cluster_findVoter_c1 (x0:Int×Int×List ((Int×Int)×Int)) (x1:Int):Option (Bool):=
 some (decide ((x0.1:Int)=x1))
noncomputable def K_impl_Cluster_findVoter_c1:Callee:={ ins:=[.v s5 .z,.rp (.int .i64) false],outs:=[(.bool,.z)],F:=fun t=>F_impl_Cluster_findVoter_c1 t.1 t.2.1 }
noncomputable def X_impl_Cluster_findVoter_c1:Ctx:={ tys:=tys,fns:=[],frz:=[],lps:=[],jns:=[],rjs:=[] }
noncomputable def F_impl_Cluster_findVoter (x0:(List Int×Int)×List Int×List (Int×Int×Int)×List (Int×Int×List ((Int×Int)×Int))×List (Int×Int×Int×(Int×Int)×Int)×List (List Int)) (x1:Int):Option (Int):=
 (F_slices_IndexFunc_Limpl_Voter_impl_Voter x0.2.2.2.1 (fun (a4:Int×Int×List ((Int×Int)×Int))=>(F_impl_Cluster_findVoter_c1 a4 x1).bind fun r5=>some r5)).bind fun (y6:Int)=>
 some y6
noncomputable def K_impl_Cluster_findVoter:Callee:={ ins:=[.rp s13 false,.v (.int .i64) .z],outs:=[((.int .i64),.z)],F:=fun t=>F_impl_Cluster_findVoter t.1 t.2.1 }
noncomputable def X_impl_Cluster_findVoter:Ctx:={ tys:=tys,fns:=[(172,K_slices_IndexFunc_Limpl_Voter_impl_Voter),(173,K_impl_Cluster_findVoter_c1)],frz:=[],lps:=[],jns:=[],rjs:=[] }
noncomputable def F_impl_Voter_chosen_c1 (x0:(Int×Int)×Int) (x1:Int×Int):Option (Bool):=
 some (Sh.beq (.prod (.int .i64) (.int .i64)) x0.1 x1)
noncomputable def K_impl_Voter_chosen_c1:Callee:={ ins:=[.v s3 .z,.rp s1 false],outs:=[(.bool,.z)],F:=fun t=>F_impl_Voter_chosen_c1 t.1 t.2.1 }
noncomputable def X_impl_Voter_chosen_c1:Ctx:={ tys:=tys,fns:=[],frz:=[],lps:=[],jns:=[],rjs:=[] }
noncomputable def F_impl_Voter_chosen (x0:Int×Int×List ((Int×Int)×Int)) (x1:Int×Int):Option (Int):=
 (F_slices_IndexFunc_Limpl_Choice_impl_Choice x0.2.2 (fun (a4:(Int×Int)×Int)=>(F_impl_Voter_chosen_c1 a4 x1).bind fun r5=>some r5)).bind fun (y6:Int)=>
 bif (decide ((y6:Int)<0)) then
 some 0
 else
 bif (inB y6 x0.2.2) then
 some (List.getD x0.2.2 (Int.toNat y6) ((0,0),0)).2
 else none
noncomputable def K_impl_Voter_chosen:Callee:={ ins:=[.v s5 .z,.v s1 .z],outs:=[((.int .i64),.z)],F:=fun t=>F_impl_Voter_chosen t.1 t.2.1 }
noncomputable def X_impl_Voter_chosen:Ctx:={ tys:=tys,fns:=[(143,K_slices_IndexFunc_Limpl_Choice_impl_Choice),(174,K_impl_Voter_chosen_c1)],frz:=[],lps:=[],jns:=[],rjs:=[] }
noncomputable def F_impl_Cluster_isVoted (x0:(List Int×Int)×List Int×List (Int×Int×Int)×List (Int×Int×List ((Int×Int)×Int))×List (Int×Int×Int×(Int×Int)×Int)×List (List Int)) (x1:Int×Int×Int×(Int×Int)×Int):Option (Bool):=
 (F_impl_Cluster_findVoter x0 x1.1).bind fun (y4:Int)=>
 bif (inB y4 x0.2.2.2.1) then
 bif (decide ((x1.2.1:Int)=1)) then
 (F_impl_isAbove x0.2.2.1 x1.2.2.1 (List.getD x0.2.2.2.1 (Int.toNat y4) (0,(0,[]))).2.1).bind fun (y5:Bool)=>
 some y5
 else
 (F_impl_Voter_chosen (List.getD x0.2.2.2.1 (Int.toNat y4) (0,(0,[]))) x1.2.2.2.1).bind fun (y6:Int)=>
 some (decide ((y6:Int)=x1.2.2.2.2))
 else none
noncomputable def K_impl_Cluster_isVoted:Callee:={ ins:=[.rp s13 false,.v s8 .z],outs:=[(.bool,.z)],F:=fun t=>F_impl_Cluster_isVoted t.1 t.2.1 }
noncomputable def X_impl_Cluster_isVoted:Ctx:={ tys:=tys,fns:=[(97,K_impl_isAbove),(136,K_impl_Cluster_findVoter),(140,K_impl_Voter_chosen)],frz:=[],lps:=[],jns:=[],rjs:=[] }
noncomputable def F_impl_Cluster_votesFault (x0:(List Int×Int)×List Int×List (Int×Int×Int)×List (Int×Int×List ((Int×Int)×Int))×List (Int×Int×Int×(Int×Int)×Int)×List (List Int)):Option (Int):=
 (loopO (S:=Int) (X:=(Unit)⊕(Int)) (fun (s45:Int)=>
 bif (decide ((s45:Int)<(List.length x0.2.2.2.2.1:Int))) then
 bif (inB s45 x0.2.2.2.2.1) then
 (F_impl_VoteFault (List.getD x0.2.2.2.2.1 (Int.toNat s45) (0,(0,(0,((0,0),0)))))).bind fun (y46:Int)=>
 bif (!decide ((y46:Int)=0)) then
 some (Sum.inr (Sum.inr y46))
 else
 (F_slices_Contains_Lint64_int64 x0.1.1 (List.getD x0.2.2.2.2.1 (Int.toNat s45) (0,(0,(0,((0,0),0))))).1).bind fun (y47:Bool)=>
 bif (!y47) then
 some (Sum.inr (Sum.inr 4))
 else
 bif (cutOk 0 s45 x0.2.2.2.2.1) then
 (F_slices_Contains_Limpl_Vote_impl_Vote (cut 0 s45 x0.2.2.2.2.1) (List.getD x0.2.2.2.2.1 (Int.toNat s45) (0,(0,(0,((0,0),0)))))).bind fun (y48:Bool)=>
 bif y48 then
 some (Sum.inr (Sum.inr 7))
 else
 ((F_slices_Contains_Lint64_int64 x0.2.1 (List.getD x0.2.2.2.2.1 (Int.toNat s45) (0,(0,(0,((0,0),0))))).1).bind fun (y51:Bool)=>
 bif (!y51) then
 (F_impl_Cluster_isVoted x0 (List.getD x0.2.2.2.2.1 (Int.toNat s45) (0,(0,(0,((0,0),0)))))).bind fun (y52:Bool)=>
 some (!y52)
 else
 some false:Option (Bool)).bind fun (j53:Bool)=>
 bif j53 then
 some (Sum.inr (Sum.inr 6))
 else
 some (Sum.inl (IntKind.wrap .i64 (s45+1)))
 else none
 else none
 else
 some (Sum.inr (Sum.inl ()))) 0).bind fun (j54:(Unit)⊕(Int))=>
 Sum.elim (fun (j55:Unit)=>
 some 0) (fun (j56:Int)=>
 some j56) j54
noncomputable def K_impl_Cluster_votesFault:Callee:={ ins:=[.rp s13 false],outs:=[((.int .i64),.z)],F:=fun t=>F_impl_Cluster_votesFault t.1 }
noncomputable def X_impl_Cluster_votesFault:Ctx:={ tys:=tys,fns:=[(48,K_impl_VoteFault),(49,K_slices_Contains_Lint64_int64),(111,K_slices_Contains_Limpl_Vote_impl_Vote),(131,K_impl_Cluster_isVoted)],frz:=[],lps:=[(2,(⟨[(0,.keep),(9,.keep),(10,.keep),(11,.st (.int .i64) .z false)],[]⟩,⟨[((.exit 0),⟨[],[]⟩),(.ret,⟨[(2,.st (.int .i64) .z false)],[]⟩)]⟩))],jns:=[],rjs:=[(11,⟨[(0,.keep),(9,.keep),(10,.keep),(11,.keep),(40,.st .bool .z false)],[]⟩)] }
noncomputable def F_impl_Cluster_heardFault_c1 (x0:Int) (x1:(List Int×Int)×List Int×List (Int×Int×Int)×List (Int×Int×List ((Int×Int)×Int))×List (Int×Int×Int×(Int×Int)×Int)×List (List Int)):Option (Bool):=
 (F_impl_within x0 0 (IntKind.wrap .i64 ((List.length x1.2.2.2.2.1:Int) - 1))).bind fun (y2:Bool)=>
 some (!y2)
noncomputable def K_impl_Cluster_heardFault_c1:Callee:={ ins:=[.v (.int .i64) .z,.rp s13 true],outs:=[(.bool,.z)],F:=fun t=>F_impl_Cluster_heardFault_c1 t.1 t.2.1 }
noncomputable def X_impl_Cluster_heardFault_c1:Ctx:={ tys:=tys,fns:=[(59,K_impl_within)],frz:=[],lps:=[],jns:=[],rjs:=[] }
noncomputable def F_impl_Cluster_heardFault (x0:(List Int×Int)×List Int×List (Int×Int×Int)×List (Int×Int×List ((Int×Int)×Int))×List (Int×Int×Int×(Int×Int)×Int)×List (List Int)):Option (Int):=
 (loopO (S:=Int) (X:=(Unit)⊕(Int)) (fun (s55:Int)=>
 bif (decide ((s55:Int)<(List.length x0.2.2.2.2.2:Int))) then
 bif (inB s55 x0.2.2.2.2.2) then
 (F_slices_ContainsFunc_Lint64_int64 (List.getD x0.2.2.2.2.2 (Int.toNat s55) []) (fun (a56:Int)=>(F_impl_Cluster_heardFault_c1 a56 x0).bind fun r57=>some r57)).bind fun (y58:Bool)=>
 bif y58 then
 some (Sum.inr (Sum.inr 3))
 else
 (loopO (S:=Int) (X:=(Unit)⊕(Int)) (fun (s61:Int)=>
 bif (decide ((s61:Int)<(List.length (List.getD x0.2.2.2.2.2 (Int.toNat s55) []):Int))) then
 bif (inB s61 (List.getD x0.2.2.2.2.2 (Int.toNat s55) [])) then
 bif (cutOk 0 s61 (List.getD x0.2.2.2.2.2 (Int.toNat s55) [])) then
 (F_slices_Contains_Lint64_int64 (cut 0 s61 (List.getD x0.2.2.2.2.2 (Int.toNat s55) [])) (List.getD (List.getD x0.2.2.2.2.2 (Int.toNat s55) []) (Int.toNat s61) 0)).bind fun (y62:Bool)=>
 bif y62 then
 some (Sum.inr (Sum.inr 7))
 else
 some (Sum.inl (IntKind.wrap .i64 (s61+1)))
 else none
 else none
 else
 some (Sum.inr (Sum.inl ()))) 0).bind fun (j63:(Unit)⊕(Int))=>
 Sum.elim (fun (j64:Unit)=>
 some (Sum.inl (IntKind.wrap .i64 (s55+1)))) (fun (j65:Int)=>
 some (Sum.inr (Sum.inr j65))) j63
 else none
 else
 some (Sum.inr (Sum.inl ()))) 0).bind fun (j66:(Unit)⊕(Int))=>
 Sum.elim (fun (j67:Unit)=>
 some 0) (fun (j68:Int)=>
 some j68) j66
noncomputable def K_impl_Cluster_heardFault:Callee:={ ins:=[.rp s13 false],outs:=[((.int .i64),.z)],F:=fun t=>F_impl_Cluster_heardFault t.1 }
noncomputable def X_impl_Cluster_heardFault:Ctx:={ tys:=tys,fns:=[(49,K_slices_Contains_Lint64_int64),(81,K_slices_ContainsFunc_Lint64_int64),(132,K_impl_Cluster_heardFault_c1)],frz:=[],lps:=[(2,(⟨[(1,.keep),(10,.keep),(11,.keep),(12,.st (.int .i64) .z false)],[]⟩,⟨[((.exit 0),⟨[],[]⟩),(.ret,⟨[(2,.st (.int .i64) .z false)],[]⟩)]⟩)),
 (7,(⟨[(1,.keep),(4,.keep),(10,.keep),(11,.keep),(12,.keep),(19,.keep),(20,.keep),(21,.st (.int .i64) .z false)],[]⟩,⟨[((.exit 2),⟨[(1,.keep),(10,.keep),(11,.keep),(12,.keep)],[]⟩),(.ret,⟨[(2,.st (.int .i64) .z false)],[]⟩)]⟩))],jns:=[],rjs:=[] }
noncomputable def F_impl_ClusterFault (x0:(List Int×Int)×List Int×List (Int×Int×Int)×List (Int×Int×List ((Int×Int)×Int))×List (Int×Int×Int×(Int×Int)×Int)×List (List Int)):Option (Int):=
 (F_impl_QuorumFault x0.1).bind fun (y10:Int)=>
 bif (!decide ((y10:Int)=0)) then
 some y10
 else
 (bif (decide ((20:Int)<(List.length x0.2.1:Int))) then
 some true
 else
 bif (decide ((100:Int)<(List.length x0.2.2.2.2.1:Int))) then
 some true
 else
 (F_impl_within (List.length x0.2.2.2.2.2:Int) 1 4).bind fun (y12:Bool)=>
 some (!y12):Option (Bool)).bind fun (j13:Bool)=>
 bif j13 then
 some 2
 else
 (F_impl_badFault x0.2.1).bind fun (y14:Int)=>
 bif (!decide ((y14:Int)=0)) then
 some y14
 else
 (F_impl_TreeFault x0.2.2.1).bind fun (y15:Int)=>
 bif (!decide ((y15:Int)=0)) then
 some y15
 else
 (F_impl_Cluster_votersFault x0).bind fun (y16:Int)=>
 bif (!decide ((y16:Int)=0)) then
 some y16
 else
 (F_impl_Cluster_votesFault x0).bind fun (y17:Int)=>
 bif (!decide ((y17:Int)=0)) then
 some y17
 else
 (F_impl_Cluster_heardFault x0).bind fun (y18:Int)=>
 some y18
noncomputable def K_impl_ClusterFault:Callee:={ ins:=[.v s13 .z],outs:=[((.int .i64),.z)],F:=fun t=>F_impl_ClusterFault t.1 }
noncomputable def X_impl_ClusterFault:Ctx:={ tys:=tys,fns:=[(58,K_impl_QuorumFault),(59,K_impl_within),(60,K_impl_badFault),(61,K_impl_TreeFault),(62,K_impl_Cluster_votersFault),(63,K_impl_Cluster_votesFault),(64,K_impl_Cluster_heardFault)],frz:=[],lps:=[],jns:=[],rjs:=[(4,⟨[(1,.keep),(30,.st .bool .z false)],[(1,.keep)]⟩)] }
noncomputable def F_slices_Clone_Limpl_Node_impl_Node (x0:List (Int×Int×Int)):Option (List (Int×Int×Int)):=
 bif List.isEmpty x0 then
 agree (some ([]:List (Int×Int×Int))) (bif decide (List.length ([]:List (Int×Int×Int))+List.length x0≤LIM) then
 some (List.append ([]:List (Int×Int×Int)) x0)
 else none)
 else
 bif decide (List.length ([]:List (Int×Int×Int))+List.length x0≤LIM) then
 some (List.append ([]:List (Int×Int×Int)) x0)
 else none
noncomputable def K_slices_Clone_Limpl_Node_impl_Node:Callee:={ ins:=[.v (.list s2) .z],outs:=[((.list s2),(.o .z))],F:=fun t=>F_slices_Clone_Limpl_Node_impl_Node t.1 }
noncomputable def X_slices_Clone_Limpl_Node_impl_Node:Ctx:={ tys:=tys,fns:=[],frz:=[],lps:=[],jns:=[],rjs:=[] }
noncomputable def F_slices_Clone_Limpl_Vote_impl_Vote (x0:List (Int×Int×Int×(Int×Int)×Int)):Option (List (Int×Int×Int×(Int×Int)×Int)):=
 bif List.isEmpty x0 then
 agree (some ([]:List (Int×Int×Int×(Int×Int)×Int))) (bif decide (List.length ([]:List (Int×Int×Int×(Int×Int)×Int))+List.length x0≤LIM) then
 some (List.append ([]:List (Int×Int×Int×(Int×Int)×Int)) x0)
 else none)
 else
 bif decide (List.length ([]:List (Int×Int×Int×(Int×Int)×Int))+List.length x0≤LIM) then
 some (List.append ([]:List (Int×Int×Int×(Int×Int)×Int)) x0)
 else none
noncomputable def K_slices_Clone_Limpl_Vote_impl_Vote:Callee:={ ins:=[.v (.list s8) .z],outs:=[((.list s8),(.o .z))],F:=fun t=>F_slices_Clone_Limpl_Vote_impl_Vote t.1 }
noncomputable def X_slices_Clone_Limpl_Vote_impl_Vote:Ctx:={ tys:=tys,fns:=[],frz:=[],lps:=[],jns:=[],rjs:=[] }
noncomputable def F_slices_Clone_Limpl_Choice_impl_Choice (x0:List ((Int×Int)×Int)):Option (List ((Int×Int)×Int)):=
 bif List.isEmpty x0 then
 agree (some ([]:List ((Int×Int)×Int))) (bif decide (List.length ([]:List ((Int×Int)×Int))+List.length x0≤LIM) then
 some (List.append ([]:List ((Int×Int)×Int)) x0)
 else none)
 else
 bif decide (List.length ([]:List ((Int×Int)×Int))+List.length x0≤LIM) then
 some (List.append ([]:List ((Int×Int)×Int)) x0)
 else none
noncomputable def K_slices_Clone_Limpl_Choice_impl_Choice:Callee:={ ins:=[.v (.list s3) .z],outs:=[((.list s3),(.o .z))],F:=fun t=>F_slices_Clone_Limpl_Choice_impl_Choice t.1 }
noncomputable def X_slices_Clone_Limpl_Choice_impl_Choice:Ctx:={ tys:=tys,fns:=[],frz:=[],lps:=[],jns:=[],rjs:=[] }
noncomputable def F_impl_ownVoter (x0:Int×Int×List ((Int×Int)×Int)):Option (Int×Int×List ((Int×Int)×Int)):=
 (F_slices_Clone_Limpl_Choice_impl_Choice x0.2.2).bind fun (y2:List ((Int×Int)×Int))=>
 some (x0.1,(x0.2.1,y2))
noncomputable def K_impl_ownVoter:Callee:={ ins:=[.v s5 .z],outs:=[(s5,(.p .z (.p .z (.o .z))))],F:=fun t=>F_impl_ownVoter t.1 }
noncomputable def X_impl_ownVoter:Ctx:={ tys:=tys,fns:=[(160,K_slices_Clone_Limpl_Choice_impl_Choice)],frz:=[],lps:=[],jns:=[],rjs:=[] }
noncomputable def F_impl_ownCluster (x0:(List Int×Int)×List Int×List (Int×Int×Int)×List (Int×Int×List ((Int×Int)×Int))×List (Int×Int×Int×(Int×Int)×Int)×List (List Int)):Option ((List Int×Int)×List Int×List (Int×Int×Int)×List (Int×Int×List ((Int×Int)×Int))×List (Int×Int×Int×(Int×Int)×Int)×List (List Int)):=
 (F_slices_Clone_Lint64_int64 x0.1.1).bind fun (y15:List Int)=>
 (F_slices_Clone_Lint64_int64 x0.2.1).bind fun (y16:List Int)=>
 (F_slices_Clone_Limpl_Node_impl_Node x0.2.2.1).bind fun (y17:List (Int×Int×Int))=>
 (F_slices_Clone_Limpl_Vote_impl_Vote x0.2.2.2.2.1).bind fun (y18:List (Int×Int×Int×(Int×Int)×Int))=>
 (loopO (S:=Int×(List Int×Int)×List Int×List (Int×Int×Int)×List (Int×Int×List ((Int×Int)×Int))×List (Int×Int×Int×(Int×Int)×Int)×List (List Int)) (X:=(List Int×Int)×List Int×List (Int×Int×Int)×List (Int×Int×List ((Int×Int)×Int))×List (Int×Int×Int×(Int×Int)×Int)×List (List Int)) (fun (s21:Int×(List Int×Int)×List Int×List (Int×Int×Int)×List (Int×Int×List ((Int×Int)×Int))×List (Int×Int×Int×(Int×Int)×Int)×List (List Int))=>
 bif (decide ((s21.1:Int)<(List.length x0.2.2.2.1:Int))) then
 bif (inB s21.1 x0.2.2.2.1) then
 (F_impl_ownVoter (List.getD x0.2.2.2.1 (Int.toNat s21.1) (0,(0,[])))).bind fun (y22:Int×Int×List ((Int×Int)×Int))=>
 bif decide (List.length s21.2.2.2.2.1+List.length ([y22]:List (Int×Int×List ((Int×Int)×Int)))≤LIM) then
 some (Sum.inl (IntKind.wrap .i64 (s21.1+1),(s21.2.1,(s21.2.2.1,(s21.2.2.2.1,(List.append s21.2.2.2.2.1 ([y22]:List (Int×Int×List ((Int×Int)×Int))),s21.2.2.2.2.2))))))
 else none
 else none
 else
 some (Sum.inr s21.2)) (0,((y15,x0.1.2),(y16,(y17,([],(y18,[]))))))).bind fun (j23:(List Int×Int)×List Int×List (Int×Int×Int)×List (Int×Int×List ((Int×Int)×Int))×List (Int×Int×Int×(Int×Int)×Int)×List (List Int))=>
 (loopO (S:=Int×(List Int×Int)×List Int×List (Int×Int×Int)×List (Int×Int×List ((Int×Int)×Int))×List (Int×Int×Int×(Int×Int)×Int)×List (List Int)) (X:=(List Int×Int)×List Int×List (Int×Int×Int)×List (Int×Int×List ((Int×Int)×Int))×List (Int×Int×Int×(Int×Int)×Int)×List (List Int)) (fun (s26:Int×(List Int×Int)×List Int×List (Int×Int×Int)×List (Int×Int×List ((Int×Int)×Int))×List (Int×Int×Int×(Int×Int)×Int)×List (List Int))=>
 bif (decide ((s26.1:Int)<(List.length x0.2.2.2.2.2:Int))) then
 bif (inB s26.1 x0.2.2.2.2.2) then
 (F_slices_Clone_Lint64_int64 (List.getD x0.2.2.2.2.2 (Int.toNat s26.1) [])).bind fun (y27:List Int)=>
 bif decide (List.length s26.2.2.2.2.2.2+List.length ([y27]:List (List Int))≤LIM) then
 some (Sum.inl (IntKind.wrap .i64 (s26.1+1),(s26.2.1,(s26.2.2.1,(s26.2.2.2.1,(s26.2.2.2.2.1,(s26.2.2.2.2.2.1,List.append s26.2.2.2.2.2.2 ([y27]:List (List Int)))))))))
 else none
 else none
 else
 some (Sum.inr s26.2)) (0,j23)).bind fun (j28:(List Int×Int)×List Int×List (Int×Int×Int)×List (Int×Int×List ((Int×Int)×Int))×List (Int×Int×Int×(Int×Int)×Int)×List (List Int))=>
 some j28
noncomputable def K_impl_ownCluster:Callee:={ ins:=[.v s13 .z],outs:=[(s13,(.p (.p (.o .z) .z) (.p (.o .z) (.p (.o .z) (.p (.o (.p .z (.p .z (.o .z)))) (.p (.o .z) (.o (.o .z))))))))],F:=fun t=>F_impl_ownCluster t.1 }
noncomputable def X_impl_ownCluster:Ctx:={ tys:=tys,fns:=[(107,K_slices_Clone_Lint64_int64),(108,K_slices_Clone_Limpl_Node_impl_Node),(109,K_slices_Clone_Limpl_Vote_impl_Vote),(110,K_impl_ownVoter)],frz:=[],lps:=[(4,(⟨[(1,.keep),(2,.keep),(3,.keep),(30,.keep),(31,.keep),(32,.st (.int .i64) .z false)],[(1,.keep),(2,.keep),(3,.st s13 (.p (.p (.o .z) .z) (.p (.o .z) (.p (.o .z) (.p (.o (.p .z (.p .z (.o .z)))) (.p (.o .z) (.o (.o .z))))))) false)]⟩,⟨[((.exit 0),⟨[(1,.keep),(2,.keep),(3,.keep)],[(1,.keep),(2,.keep),(3,.st s13 (.p (.p (.o .z) .z) (.p (.o .z) (.p (.o .z) (.p (.o (.p .z (.p .z (.o .z)))) (.p (.o .z) (.o (.o .z))))))) false)]⟩)]⟩)),
 (9,(⟨[(2,.keep),(3,.keep),(45,.keep),(46,.keep),(47,.st (.int .i64) .z false)],[(2,.keep),(3,.st s13 (.p (.p (.o .z) .z) (.p (.o .z) (.p (.o .z) (.p (.o (.p .z (.p .z (.o .z)))) (.p (.o .z) (.o (.o .z))))))) false)]⟩,⟨[((.exit 2),⟨[(2,.keep),(3,.keep)],[(2,.keep),(3,.st s13 (.p (.p (.o .z) .z) (.p (.o .z) (.p (.o .z) (.p (.o (.p .z (.p .z (.o .z)))) (.p (.o .z) (.o (.o .z))))))) false)]⟩)]⟩))],jns:=[],rjs:=[] }
noncomputable def F_impl_Cluster_put (x0:(List Int×Int)×List Int×List (Int×Int×Int)×List (Int×Int×List ((Int×Int)×Int))×List (Int×Int×Int×(Int×Int)×Int)×List (List Int)) (x1:Int×Int×Int×(Int×Int)×Int):Option (Int×(List Int×Int)×List Int×List (Int×Int×Int)×List (Int×Int×List ((Int×Int)×Int))×List (Int×Int×Int×(Int×Int)×Int)×List (List Int)):=
 (F_slices_Contains_Limpl_Vote_impl_Vote x0.2.2.2.2.1 x1).bind fun (y2:Bool)=>
 bif y2 then
 some (0,x0)
 else
 bif (decide (((List.length x0.2.2.2.2.1:Int):Int)=100)) then
 some (2,x0)
 else
 bif decide (List.length x0.2.2.2.2.1+List.length ([x1]:List (Int×Int×Int×(Int×Int)×Int))≤LIM) then
 some (0,(x0.1,(x0.2.1,(x0.2.2.1,(x0.2.2.2.1,(List.append x0.2.2.2.2.1 ([x1]:List (Int×Int×Int×(Int×Int)×Int)),x0.2.2.2.2.2))))))
 else none
noncomputable def K_impl_Cluster_put:Callee:={ ins:=[.io s13 (.p (.p (.o .z) .z) (.p (.o .z) (.p (.o .z) (.p (.o (.p .z (.p .z (.o .z)))) (.p (.o .z) (.o (.o .z))))))) (.p (.p (.o .z) .z) (.p (.o .z) (.p (.o .z) (.p (.o (.p .z (.p .z (.o .z)))) (.p (.o .z) (.o (.o .z))))))),.v s8 .z],outs:=[((.int .i64),.z)],F:=fun t=>F_impl_Cluster_put t.1 t.2.1 }
noncomputable def X_impl_Cluster_put:Ctx:={ tys:=tys,fns:=[(111,K_slices_Contains_Limpl_Vote_impl_Vote)],frz:=[],lps:=[],jns:=[],rjs:=[] }
noncomputable def F_impl_ForgeAt (x0:(List Int×Int)×List Int×List (Int×Int×Int)×List (Int×Int×List ((Int×Int)×Int))×List (Int×Int×Int×(Int×Int)×Int)×List (List Int)) (x1:Int×Int×Int×(Int×Int)×Int):Option (Int×(List Int×Int)×List Int×List (Int×Int×Int)×List (Int×Int×List ((Int×Int)×Int))×List (Int×Int×Int×(Int×Int)×Int)×List (List Int)):=
 (F_impl_ClusterFault x0).bind fun (y10:Int)=>
 bif (!decide ((y10:Int)=0)) then
 some (y10,(([],0),([],([],([],([],[]))))))
 else
 (F_impl_VoteFault x1).bind fun (y11:Int)=>
 bif (!decide ((y11:Int)=0)) then
 some (y11,(([],0),([],([],([],([],[]))))))
 else
 ((F_slices_Contains_Lint64_int64 x0.2.1 x1.1).bind fun (y14:Bool)=>
 bif (!y14) then
 some true
 else
 (F_slices_Contains_Lint64_int64 x0.1.1 x1.1).bind fun (y15:Bool)=>
 some (!y15):Option (Bool)).bind fun (j16:Bool)=>
 bif j16 then
 some (6,(([],0),([],([],([],([],[]))))))
 else
 (F_impl_ownCluster x0).bind fun (y17:(List Int×Int)×List Int×List (Int×Int×Int)×List (Int×Int×List ((Int×Int)×Int))×List (Int×Int×Int×(Int×Int)×Int)×List (List Int))=>
 (F_impl_Cluster_put y17 x1).bind fun (y18:Int×(List Int×Int)×List Int×List (Int×Int×Int)×List (Int×Int×List ((Int×Int)×Int))×List (Int×Int×Int×(Int×Int)×Int)×List (List Int))=>
 bif (!decide ((y18.1:Int)=0)) then
 some (y18.1,(([],0),([],([],([],([],[]))))))
 else
 some (0,y18.2)
noncomputable def K_impl_ForgeAt:Callee:={ ins:=[.v s13 .z,.v s8 .z],outs:=[(s14,(.p .z (.p (.p (.o .z) .z) (.p (.o .z) (.p (.o .z) (.p (.o (.p .z (.p .z (.o .z)))) (.p (.o .z) (.o (.o .z)))))))))],F:=fun t=>F_impl_ForgeAt t.1 t.2.1 }
noncomputable def X_impl_ForgeAt:Ctx:={ tys:=tys,fns:=[(15,K_impl_ClusterFault),(48,K_impl_VoteFault),(49,K_slices_Contains_Lint64_int64),(50,K_impl_ownCluster),(51,K_impl_Cluster_put)],frz:=[],lps:=[],jns:=[],rjs:=[(7,⟨[(2,.keep),(3,.keep),(4,.keep),(35,.st .bool .z false)],[(2,.keep),(3,.keep),(4,.keep)]⟩)] }
noncomputable def F_laws_lwHas (x0:List Int) (x1:Int):Option (Bool):=
 (loopO (S:=Int) (X:=(Unit)⊕(Bool)) (fun (s5:Int)=>
 bif (decide ((s5:Int)<(List.length x0:Int))) then
 bif (inB s5 x0) then
 bif (decide ((List.getD x0 (Int.toNat s5) 0:Int)=x1)) then
 some (Sum.inr (Sum.inr true))
 else
 some (Sum.inl (IntKind.wrap .i64 (s5+1)))
 else none
 else
 some (Sum.inr (Sum.inl ()))) 0).bind fun (j6:(Unit)⊕(Bool))=>
 Sum.elim (fun (j7:Unit)=>
 some false) (fun (j8:Bool)=>
 some j8) j6
noncomputable def K_laws_lwHas:Callee:={ ins:=[.v (.list (.int .i64)) .z,.v (.int .i64) .z],outs:=[(.bool,.z)],F:=fun t=>F_laws_lwHas t.1 t.2.1 }
noncomputable def X_laws_lwHas:Ctx:={ tys:=tys,fns:=[],frz:=[],lps:=[(2,(⟨[(0,.keep),(1,.keep),(5,.st (.int .i64) .z false)],[]⟩,⟨[((.exit 0),⟨[],[]⟩),(.ret,⟨[(4,.st .bool .z false)],[]⟩)]⟩))],jns:=[],rjs:=[] }
noncomputable def F_impl_related (x0:List (Int×Int×Int)) (x1:Int) (x2:Int):Option (Bool):=
 ((F_impl_isAbove x0 x1 x2).bind fun (y8:Bool)=>
 bif y8 then
 some true
 else
 (F_impl_isAbove x0 x2 x1).bind fun (y9:Bool)=>
 some y9:Option (Bool)).bind fun (j10:Bool)=>
 some j10
noncomputable def K_impl_related:Callee:={ ins:=[.v (.list s2) .z,.v (.int .i64) .z,.v (.int .i64) .z],outs:=[(.bool,.z)],F:=fun t=>F_impl_related t.1 t.2.1 t.2.2.1 }
noncomputable def X_impl_related:Ctx:={ tys:=tys,fns:=[(97,K_impl_isAbove)],frz:=[],lps:=[],jns:=[],rjs:=[(1,⟨[(6,.st .bool .z false)],[]⟩)] }
noncomputable def F_impl_Related (x0:List (Int×Int×Int)) (x1:Int) (x2:Int):Option (Bool):=
 ((F_impl_TreeFault x0).bind fun (y8:Int)=>
 bif (decide ((y8:Int)=0)) then
 (F_impl_related x0 x1 x2).bind fun (y9:Bool)=>
 some y9
 else
 some false:Option (Bool)).bind fun (j10:Bool)=>
 some j10
noncomputable def K_impl_Related:Callee:={ ins:=[.v (.list s2) .z,.v (.int .i64) .z,.v (.int .i64) .z],outs:=[(.bool,.z)],F:=fun t=>F_impl_Related t.1 t.2.1 t.2.2.1 }
noncomputable def X_impl_Related:Ctx:={ tys:=tys,fns:=[(61,K_impl_TreeFault),(67,K_impl_related)],frz:=[],lps:=[],jns:=[],rjs:=[(1,⟨[(6,.st .bool .z false)],[]⟩)] }
noncomputable def F_impl_voted (x0:(List Int×Int)×List Int×List (Int×Int×Int)×List (Int×Int×List ((Int×Int)×Int))×List (Int×Int×Int×(Int×Int)×Int)×List (List Int)) (x1:Int) (x2:(Int×Int×List ((Int×Int)×Int))→Option (Int×(Int×Int×Int×(Int×Int)×Int)×Int×Int×List ((Int×Int)×Int))):Option (Int×(List Int×Int)×List Int×List (Int×Int×Int)×List (Int×Int×List ((Int×Int)×Int))×List (Int×Int×Int×(Int×Int)×Int)×List (List Int)):=
 (F_impl_Cluster_findVoter x0 x1).bind fun (y5:Int)=>
 bif (decide ((y5:Int)<0)) then
 some (4,(([],0),([],([],([],([],[]))))))
 else
 bif (inB y5 x0.2.2.2.1) then
 (x2 (List.getD x0.2.2.2.1 (Int.toNat y5) (0,(0,[])))).bind fun (y6:Int×(Int×Int×Int×(Int×Int)×Int)×Int×Int×List ((Int×Int)×Int))=>
 bif (!decide ((y6.1:Int)=0)) then
 some (y6.1,(([],0),([],([],([],([],[]))))))
 else
 (F_impl_ownCluster x0).bind fun (y7:(List Int×Int)×List Int×List (Int×Int×Int)×List (Int×Int×List ((Int×Int)×Int))×List (Int×Int×Int×(Int×Int)×Int)×List (List Int))=>
 bif (inB y5 y7.2.2.2.1) then
 (F_impl_Cluster_put (y7.1,(y7.2.1,(y7.2.2.1,(List.set y7.2.2.2.1 (Int.toNat y5) y6.2.2,y7.2.2.2.2)))) y6.2.1).bind fun (y8:Int×(List Int×Int)×List Int×List (Int×Int×Int)×List (Int×Int×List ((Int×Int)×Int))×List (Int×Int×Int×(Int×Int)×Int)×List (List Int))=>
 bif (!decide ((y8.1:Int)=0)) then
 some (y8.1,(([],0),([],([],([],([],[]))))))
 else
 some (0,y8.2)
 else none
 else none
noncomputable def K_impl_voted:Callee:={ ins:=[.v s13 .z,.v (.int .i64) .z,.v (.fn1 s5 s17 (.p .z (.p .z (.p .z (.p .z (.o .z)))))) .z],outs:=[(s14,(.p .z (.p (.p (.o .z) .z) (.p (.o .z) (.p (.o .z) (.p (.o (.p .z (.p .z (.o .z)))) (.p (.o .z) (.o (.o .z)))))))))],F:=fun t=>F_impl_voted t.1 t.2.1 t.2.2.1 }
noncomputable def X_impl_voted:Ctx:={ tys:=tys,fns:=[(50,K_impl_ownCluster),(51,K_impl_Cluster_put),(136,K_impl_Cluster_findVoter)],frz:=[],lps:=[],jns:=[],rjs:=[] }
noncomputable def F_impl_isIn (x0:List (Int×Int×Int)) (x1:Int):Option (Bool):=
 (F_impl_findNode x0 x1).bind fun (y2:Int)=>
 some (decide ((0:Int)≤y2))
noncomputable def K_impl_isIn:Callee:={ ins:=[.v (.list s2) .z,.v (.int .i64) .z],outs:=[(.bool,.z)],F:=fun t=>F_impl_isIn t.1 t.2.1 }
noncomputable def X_impl_isIn:Ctx:={ tys:=tys,fns:=[(167,K_impl_findNode)],frz:=[],lps:=[],jns:=[],rjs:=[] }
noncomputable def F_impl_castFor (x0:List (Int×Int×Int)) (x1:Int×Int×List ((Int×Int)×Int)) (x2:Int):Option (Int×(Int×Int×Int×(Int×Int)×Int)×Int×Int×List ((Int×Int)×Int)):=
 (F_impl_isIn x0 x2).bind fun (y6:Bool)=>
 bif (!y6) then
 some (4,((0,(0,(0,((0,0),0)))),(0,(0,[]))))
 else
 (bif (!decide ((x1.2.1:Int)=0)) then
 (F_impl_isAbove x0 x1.2.1 x2).bind fun (y8:Bool)=>
 bif (!y8) then
 some true
 else
 some (decide ((x1.2.1:Int)=x2))
 else
 some (decide ((x1.2.1:Int)=x2)):Option (Bool)).bind fun (j9:Bool)=>
 bif j9 then
 some (10,((0,(0,(0,((0,0),0)))),(0,(0,[]))))
 else
 (F_impl_ownVoter x1).bind fun (y10:Int×Int×List ((Int×Int)×Int))=>
 some (0,((x1.1,(1,(x2,((0,0),0)))),(y10.1,(x2,y10.2.2))))
noncomputable def K_impl_castFor:Callee:={ ins:=[.v (.list s2) .z,.v s5 .z,.v (.int .i64) .z],outs:=[(s17,(.p .z (.p .z (.p .z (.p .z (.o .z))))))],F:=fun t=>F_impl_castFor t.1 t.2.1 t.2.2.1 }
noncomputable def X_impl_castFor:Ctx:={ tys:=tys,fns:=[(97,K_impl_isAbove),(110,K_impl_ownVoter),(137,K_impl_isIn)],frz:=[],lps:=[],jns:=[],rjs:=[(3,⟨[(2,.keep),(4,.keep),(6,.keep),(14,.st .bool .z false)],[(4,.keep),(6,.keep)]⟩)] }
noncomputable def F_impl_CastAt_c1 (x0:Int×Int×List ((Int×Int)×Int)) (x1:(List Int×Int)×List Int×List (Int×Int×Int)×List (Int×Int×List ((Int×Int)×Int))×List (Int×Int×Int×(Int×Int)×Int)×List (List Int)) (x2:Int):Option (Int×(Int×Int×Int×(Int×Int)×Int)×Int×Int×List ((Int×Int)×Int)):=
 (F_impl_castFor x1.2.2.1 x0 x2).bind fun (y2:Int×(Int×Int×Int×(Int×Int)×Int)×Int×Int×List ((Int×Int)×Int))=>
 some y2
noncomputable def K_impl_CastAt_c1:Callee:={ ins:=[.v s5 .z,.rp s13 false,.rp (.int .i64) false],outs:=[(s17,(.p .z (.p .z (.p .z (.p .z (.o .z))))))],F:=fun t=>F_impl_CastAt_c1 t.1 t.2.1 t.2.2.1 }
noncomputable def X_impl_CastAt_c1:Ctx:={ tys:=tys,fns:=[(72,K_impl_castFor)],frz:=[],lps:=[],jns:=[],rjs:=[] }
noncomputable def F_impl_CastAt (x0:(List Int×Int)×List Int×List (Int×Int×Int)×List (Int×Int×List ((Int×Int)×Int))×List (Int×Int×Int×(Int×Int)×Int)×List (List Int)) (x1:Int) (x2:Int):Option (Int×(List Int×Int)×List Int×List (Int×Int×Int)×List (Int×Int×List ((Int×Int)×Int))×List (Int×Int×Int×(Int×Int)×Int)×List (List Int)):=
 (F_impl_ClusterFault x0).bind fun (y5:Int)=>
 bif (!decide ((y5:Int)=0)) then
 some (y5,(([],0),([],([],([],([],[]))))))
 else
 (F_impl_voted x0 x1 (fun (a6:Int×Int×List ((Int×Int)×Int))=>(F_impl_CastAt_c1 a6 x0 x2).bind fun r7=>some r7)).bind fun (y8:Int×(List Int×Int)×List Int×List (Int×Int×Int)×List (Int×Int×List ((Int×Int)×Int))×List (Int×Int×Int×(Int×Int)×Int)×List (List Int))=>
 some y8
noncomputable def K_impl_CastAt:Callee:={ ins:=[.v s13 .z,.v (.int .i64) .z,.v (.int .i64) .z],outs:=[(s14,(.p .z (.p (.p (.o .z) .z) (.p (.o .z) (.p (.o .z) (.p (.o (.p .z (.p .z (.o .z)))) (.p (.o .z) (.o (.o .z)))))))))],F:=fun t=>F_impl_CastAt t.1 t.2.1 t.2.2.1 }
noncomputable def X_impl_CastAt:Ctx:={ tys:=tys,fns:=[(15,K_impl_ClusterFault),(70,K_impl_voted),(71,K_impl_CastAt_c1)],frz:=[],lps:=[],jns:=[],rjs:=[] }
noncomputable def F_impl_ChooseFor (x0:Int×Int×List ((Int×Int)×Int)) (x1:Int×Int) (x2:Int):Option (Int×(Int×Int×Int×(Int×Int)×Int)×Int×Int×List ((Int×Int)×Int)):=
 (F_impl_VoterFault x0).bind fun (y12:Int)=>
 bif (!decide ((y12:Int)=0)) then
 some (y12,((0,(0,(0,((0,0),0)))),(0,(0,[]))))
 else
 ((F_impl_isRef x1).bind fun (y15:Bool)=>
 bif (!y15) then
 some true
 else
 (F_impl_isId x2).bind fun (y16:Bool)=>
 some (!y16):Option (Bool)).bind fun (j17:Bool)=>
 bif j17 then
 some (3,((0,(0,(0,((0,0),0)))),(0,(0,[]))))
 else
 (F_impl_ownVoter x0).bind fun (y18:Int×Int×List ((Int×Int)×Int))=>
 (F_impl_Voter_chosen x0 x1).bind fun (y19:Int)=>
 (bif (decide ((y19:Int)=x2)) then
 some (Sum.inl y18)
 else
 bif (!decide ((y19:Int)=0)) then
 some (Sum.inr (7,((0,(0,(0,((0,0),0)))),(0,(0,[])))))
 else
 bif (decide (((List.length x0.2.2:Int):Int)=40)) then
 some (Sum.inr (2,((0,(0,(0,((0,0),0)))),(0,(0,[])))))
 else
 bif decide (List.length y18.2.2+List.length ([(x1,x2)]:List ((Int×Int)×Int))≤LIM) then
 some (Sum.inl (y18.1,(y18.2.1,List.append y18.2.2 ([(x1,x2)]:List ((Int×Int)×Int)))))
 else none:Option ((Int×Int×List ((Int×Int)×Int))⊕(Int×(Int×Int×Int×(Int×Int)×Int)×Int×Int×List ((Int×Int)×Int)))).bind fun (j20:(Int×Int×List ((Int×Int)×Int))⊕(Int×(Int×Int×Int×(Int×Int)×Int)×Int×Int×List ((Int×Int)×Int)))=>
 Sum.elim (fun (j21:Int×Int×List ((Int×Int)×Int))=>
 some (0,((x0.1,(2,(0,(x1,x2)))),j21))) (fun (j22:Int×(Int×Int×Int×(Int×Int)×Int)×Int×Int×List ((Int×Int)×Int))=>
 some j22) j20
noncomputable def K_impl_ChooseFor:Callee:={ ins:=[.v s5 .z,.v s1 .z,.v (.int .i64) .z],outs:=[(s17,(.p .z (.p .z (.p .z (.p .z (.o .z))))))],F:=fun t=>F_impl_ChooseFor t.1 t.2.1 t.2.2.1 }
noncomputable def X_impl_ChooseFor:Ctx:={ tys:=tys,fns:=[(103,K_impl_isId),(104,K_impl_isRef),(110,K_impl_ownVoter),(130,K_impl_VoterFault),(140,K_impl_Voter_chosen)],frz:=[],lps:=[],jns:=[(10,⟨[(.normal,⟨[(2,.keep),(3,.keep),(4,.keep),(6,.keep),(8,.keep)],[(3,.keep),(4,.keep),(6,.keep),(8,.st s5 (.p .z (.p .z (.o .z))) false)]⟩),(.ret,⟨[(6,.keep)],[(6,.st s17 (.p .z (.p .z (.p .z (.p .z (.o .z))))) false)]⟩)]⟩)],rjs:=[(4,⟨[(2,.keep),(3,.keep),(4,.keep),(6,.keep),(23,.st .bool .z false)],[(3,.keep),(4,.keep),(6,.keep)]⟩)] }
noncomputable def F_impl_ChooseAt_c1 (x0:Int×Int×List ((Int×Int)×Int)) (x1:Int×Int) (x2:Int):Option (Int×(Int×Int×Int×(Int×Int)×Int)×Int×Int×List ((Int×Int)×Int)):=
 (F_impl_ChooseFor x0 x1 x2).bind fun (y2:Int×(Int×Int×Int×(Int×Int)×Int)×Int×Int×List ((Int×Int)×Int))=>
 some y2
noncomputable def K_impl_ChooseAt_c1:Callee:={ ins:=[.v s5 .z,.rp s1 false,.rp (.int .i64) false],outs:=[(s17,(.p .z (.p .z (.p .z (.p .z (.o .z))))))],F:=fun t=>F_impl_ChooseAt_c1 t.1 t.2.1 t.2.2.1 }
noncomputable def X_impl_ChooseAt_c1:Ctx:={ tys:=tys,fns:=[(77,K_impl_ChooseFor)],frz:=[],lps:=[],jns:=[],rjs:=[] }
noncomputable def F_impl_ChooseAt (x0:(List Int×Int)×List Int×List (Int×Int×Int)×List (Int×Int×List ((Int×Int)×Int))×List (Int×Int×Int×(Int×Int)×Int)×List (List Int)) (x1:Int) (x2:Int×Int) (x3:Int):Option (Int×(List Int×Int)×List Int×List (Int×Int×Int)×List (Int×Int×List ((Int×Int)×Int))×List (Int×Int×Int×(Int×Int)×Int)×List (List Int)):=
 (F_impl_ClusterFault x0).bind fun (y5:Int)=>
 bif (!decide ((y5:Int)=0)) then
 some (y5,(([],0),([],([],([],([],[]))))))
 else
 (F_impl_voted x0 x1 (fun (a6:Int×Int×List ((Int×Int)×Int))=>(F_impl_ChooseAt_c1 a6 x2 x3).bind fun r7=>some r7)).bind fun (y8:Int×(List Int×Int)×List Int×List (Int×Int×Int)×List (Int×Int×List ((Int×Int)×Int))×List (Int×Int×Int×(Int×Int)×Int)×List (List Int))=>
 some y8
noncomputable def K_impl_ChooseAt:Callee:={ ins:=[.v s13 .z,.v (.int .i64) .z,.v s1 .z,.v (.int .i64) .z],outs:=[(s14,(.p .z (.p (.p (.o .z) .z) (.p (.o .z) (.p (.o .z) (.p (.o (.p .z (.p .z (.o .z)))) (.p (.o .z) (.o (.o .z)))))))))],F:=fun t=>F_impl_ChooseAt t.1 t.2.1 t.2.2.1 t.2.2.2.1 }
noncomputable def X_impl_ChooseAt:Ctx:={ tys:=tys,fns:=[(15,K_impl_ClusterFault),(70,K_impl_voted),(76,K_impl_ChooseAt_c1)],frz:=[],lps:=[],jns:=[],rjs:=[] }
noncomputable def F_laws_lwAt (x0:List Int) (x1:Int) (x2:Int):Option (Int):=
 bif (decide ((x2:Int)≤1)) then
 some 0
 else
 bif (decide (((List.length x0:Int):Int)=0)) then
 bif (!decide (x2=(0:Int))) then
 some (Int.tmod (IntKind.wrap .i64 (x1 * 7)) x2)
 else none
 else
 bif (!decide ((List.length x0:Int)=(0:Int))) then
 bif (inB (Int.tmod x1 (List.length x0:Int)) x0) then
 bif (!decide ((List.length x0:Int)=(0:Int))) then
 (bif (decide ((200:Int)<x2)) then
 bif (!decide ((List.length x0:Int)=(0:Int))) then
 bif (inB (Int.tmod (IntKind.wrap .i64 (x1+1)) (List.length x0:Int)) x0) then
 some (IntKind.wrap .i64 ((IntKind.wrap .i64 ((IntKind.wrap .i64 ((IntKind.wrap .i64 (List.getD x0 (Int.toNat (Int.tmod x1 (List.length x0:Int))) 0))+(IntKind.wrap .i64 ((IntKind.wrap .i64 (Int.tdiv x1 (List.length x0:Int))) * 3)))) * 251))+(IntKind.wrap .i64 (List.getD x0 (Int.toNat (Int.tmod (IntKind.wrap .i64 (x1+1)) (List.length x0:Int))) 0))))
 else none
 else none
 else
 some (IntKind.wrap .i64 ((IntKind.wrap .i64 (List.getD x0 (Int.toNat (Int.tmod x1 (List.length x0:Int))) 0))+(IntKind.wrap .i64 ((IntKind.wrap .i64 (Int.tdiv x1 (List.length x0:Int))) * 3)))):Option (Int)).bind fun (j2:Int)=>
 bif (!decide (x2=(0:Int))) then
 some (Int.tmod j2 x2)
 else none
 else none
 else none
 else none
noncomputable def K_laws_lwAt:Callee:={ ins:=[.v (.list (.int .u8)) .z,.v (.int .i64) .z,.v (.int .i64) .z],outs:=[((.int .i64),.z)],F:=fun t=>F_laws_lwAt t.1 t.2.1 t.2.2.1 }
noncomputable def X_laws_lwAt:Ctx:={ tys:=tys,fns:=[],frz:=[],lps:=[],jns:=[(8,⟨[(.normal,⟨[(2,.keep),(8,.st (.int .i64) .z false)],[]⟩)]⟩)],rjs:=[] }
noncomputable def F_impl_Cluster_isHearer (x0:(List Int×Int)×List Int×List (Int×Int×Int)×List (Int×Int×List ((Int×Int)×Int))×List (Int×Int×Int×(Int×Int)×Int)×List (List Int)) (x1:Int):Option (Bool):=
 (F_impl_within x1 0 (IntKind.wrap .i64 ((List.length x0.2.2.2.2.2:Int) - 1))).bind fun (y2:Bool)=>
 some y2
noncomputable def K_impl_Cluster_isHearer:Callee:={ ins:=[.rp s13 false,.v (.int .i64) .z],outs:=[(.bool,.z)],F:=fun t=>F_impl_Cluster_isHearer t.1 t.2.1 }
noncomputable def X_impl_Cluster_isHearer:Ctx:={ tys:=tys,fns:=[(59,K_impl_within)],frz:=[],lps:=[],jns:=[],rjs:=[] }
noncomputable def F_impl_HearAt (x0:(List Int×Int)×List Int×List (Int×Int×Int)×List (Int×Int×List ((Int×Int)×Int))×List (Int×Int×Int×(Int×Int)×Int)×List (List Int)) (x1:Int) (x2:Int):Option (Int×(List Int×Int)×List Int×List (Int×Int×Int)×List (Int×Int×List ((Int×Int)×Int))×List (Int×Int×Int×(Int×Int)×Int)×List (List Int)):=
 (F_impl_ClusterFault x0).bind fun (y10:Int)=>
 bif (!decide ((y10:Int)=0)) then
 some (y10,(([],0),([],([],([],([],[]))))))
 else
 ((F_impl_Cluster_isHearer x0 x1).bind fun (y13:Bool)=>
 bif (!y13) then
 some true
 else
 (F_impl_within x2 0 (IntKind.wrap .i64 ((List.length x0.2.2.2.2.1:Int) - 1))).bind fun (y14:Bool)=>
 some (!y14):Option (Bool)).bind fun (j15:Bool)=>
 bif j15 then
 some (3,(([],0),([],([],([],([],[]))))))
 else
 (F_impl_ownCluster x0).bind fun (y16:(List Int×Int)×List Int×List (Int×Int×Int)×List (Int×Int×List ((Int×Int)×Int))×List (Int×Int×Int×(Int×Int)×Int)×List (List Int))=>
 bif (inB x1 y16.2.2.2.2.2) then
 (F_slices_Contains_Lint64_int64 (List.getD y16.2.2.2.2.2 (Int.toNat x1) []) x2).bind fun (y17:Bool)=>
 (bif (!y17) then
 bif (inB x1 y16.2.2.2.2.2) then
 bif decide (List.length (List.getD y16.2.2.2.2.2 (Int.toNat x1) [])+List.length ([x2]:List Int)≤LIM) then
 bif (inB x1 y16.2.2.2.2.2) then
 bif (decide (Int.toNat x1=Int.toNat x1)) then
 some (y16.1,(y16.2.1,(y16.2.2.1,(y16.2.2.2.1,(y16.2.2.2.2.1,List.set y16.2.2.2.2.2 (Int.toNat x1) (List.append (List.getD y16.2.2.2.2.2 (Int.toNat x1) []) ([x2]:List Int)))))))
 else none
 else none
 else none
 else none
 else
 some y16:Option ((List Int×Int)×List Int×List (Int×Int×Int)×List (Int×Int×List ((Int×Int)×Int))×List (Int×Int×Int×(Int×Int)×Int)×List (List Int))).bind fun (j18:(List Int×Int)×List Int×List (Int×Int×Int)×List (Int×Int×List ((Int×Int)×Int))×List (Int×Int×Int×(Int×Int)×Int)×List (List Int))=>
 some (0,j18)
 else none
noncomputable def K_impl_HearAt:Callee:={ ins:=[.v s13 .z,.v (.int .i64) .z,.v (.int .i64) .z],outs:=[(s14,(.p .z (.p (.p (.o .z) .z) (.p (.o .z) (.p (.o .z) (.p (.o (.p .z (.p .z (.o .z)))) (.p (.o .z) (.o (.o .z)))))))))],F:=fun t=>F_impl_HearAt t.1 t.2.1 t.2.2.1 }
noncomputable def X_impl_HearAt:Ctx:={ tys:=tys,fns:=[(15,K_impl_ClusterFault),(49,K_slices_Contains_Lint64_int64),(50,K_impl_ownCluster),(59,K_impl_within),(78,K_impl_Cluster_isHearer)],frz:=[],lps:=[],jns:=[(8,⟨[(.normal,⟨[(6,.keep),(8,.keep)],[(6,.keep),(8,.st s13 (.p (.p (.o .z) .z) (.p (.o .z) (.p (.o .z) (.p (.o (.p .z (.p .z (.o .z)))) (.p (.o .z) (.o (.o .z))))))) true)]⟩)]⟩)],rjs:=[(4,⟨[(1,.keep),(2,.keep),(3,.keep),(6,.keep),(26,.st .bool .z false)],[(3,.keep),(6,.keep)]⟩)],erl:=[(8,[0,1,2])] }
noncomputable def F_impl_addNode (x0:List (Int×Int×Int)) (x1:Int×Int×Int):Option (List (Int×Int×Int)×Int):=
 (F_impl_nodeFault x0 x1).bind fun (y3:Int)=>
 bif (!decide ((y3:Int)=0)) then
 some (([]:List (Int×Int×Int)),y3)
 else
 bif (decide (((List.length x0:Int):Int)=60)) then
 some (([]:List (Int×Int×Int)),2)
 else
 (F_slices_Clone_Limpl_Node_impl_Node x0).bind fun (y4:List (Int×Int×Int))=>
 bif decide (List.length y4+List.length ([x1]:List (Int×Int×Int))≤LIM) then
 some (List.append y4 ([x1]:List (Int×Int×Int)),0)
 else none
noncomputable def K_impl_addNode:Callee:={ ins:=[.v (.list s2) .z,.v s2 .z],outs:=[((.list s2),(.o .z)),((.int .i64),.z)],F:=fun t=>F_impl_addNode t.1 t.2.1 }
noncomputable def X_impl_addNode:Ctx:={ tys:=tys,fns:=[(108,K_slices_Clone_Limpl_Node_impl_Node),(126,K_impl_nodeFault)],frz:=[],lps:=[],jns:=[],rjs:=[] }
noncomputable def F_impl_GrowTree (x0:(List Int×Int)×List Int×List (Int×Int×Int)×List (Int×Int×List ((Int×Int)×Int))×List (Int×Int×Int×(Int×Int)×Int)×List (List Int)) (x1:Int×Int×Int):Option (Int×(List Int×Int)×List Int×List (Int×Int×Int)×List (Int×Int×List ((Int×Int)×Int))×List (Int×Int×Int×(Int×Int)×Int)×List (List Int)):=
 (F_impl_ClusterFault x0).bind fun (y4:Int)=>
 bif (!decide ((y4:Int)=0)) then
 some (y4,(([],0),([],([],([],([],[]))))))
 else
 (F_impl_addNode x0.2.2.1 x1).bind fun (y5:List (Int×Int×Int)×Int)=>
 bif (!decide ((y5.2:Int)=0)) then
 some (y5.2,(([],0),([],([],([],([],[]))))))
 else
 (F_impl_ownCluster x0).bind fun (y6:(List Int×Int)×List Int×List (Int×Int×Int)×List (Int×Int×List ((Int×Int)×Int))×List (Int×Int×Int×(Int×Int)×Int)×List (List Int))=>
 some (0,(y6.1,(y6.2.1,(y5.1,y6.2.2.2))))
noncomputable def K_impl_GrowTree:Callee:={ ins:=[.v s13 .z,.v s2 .z],outs:=[(s14,(.p .z (.p (.p (.o .z) .z) (.p (.o .z) (.p (.o .z) (.p (.o (.p .z (.p .z (.o .z)))) (.p (.o .z) (.o (.o .z)))))))))],F:=fun t=>F_impl_GrowTree t.1 t.2.1 }
noncomputable def X_impl_GrowTree:Ctx:={ tys:=tys,fns:=[(15,K_impl_ClusterFault),(50,K_impl_ownCluster),(79,K_impl_addNode)],frz:=[],lps:=[],jns:=[],rjs:=[] }
noncomputable def F_impl_meetOf_c1 (x0:Int) (x1:List Int):Option (Bool):=
 (F_slices_Contains_Lint64_int64 x1 x0).bind fun (y2:Bool)=>
 some (!y2)
noncomputable def K_impl_meetOf_c1:Callee:={ ins:=[.v (.int .i64) .z,.rp (.list (.int .i64)) false],outs:=[(.bool,.z)],F:=fun t=>F_impl_meetOf_c1 t.1 t.2.1 }
noncomputable def X_impl_meetOf_c1:Ctx:={ tys:=tys,fns:=[(49,K_slices_Contains_Lint64_int64)],frz:=[],lps:=[],jns:=[],rjs:=[] }
noncomputable def F_impl_meetOf (x0:List Int) (x1:List Int):Option (List Int):=
 (F_slices_Clone_Lint64_int64 x0).bind fun (y5:List Int)=>
 (F_slices_DeleteFunc_Lint64_int64 y5 (fun (a6:Int)=>(F_impl_meetOf_c1 a6 x1).bind fun r7=>some r7)).bind fun (y8:List Int)=>
 some y8
noncomputable def K_impl_meetOf:Callee:={ ins:=[.v (.list (.int .i64)) .z,.v (.list (.int .i64)) .z],outs:=[((.list (.int .i64)),(.o .z))],F:=fun t=>F_impl_meetOf t.1 t.2.1 }
noncomputable def X_impl_meetOf:Ctx:={ tys:=tys,fns:=[(107,K_slices_Clone_Lint64_int64),(168,K_slices_DeleteFunc_Lint64_int64),(190,K_impl_meetOf_c1)],frz:=[],lps:=[],jns:=[],rjs:=[] }
noncomputable def F_impl_Quorum_badIn (x0:List Int×Int) (x1:List Int):Option (Int):=
 (F_impl_meetOf x0.1 x1).bind fun (y2:List Int)=>
 some (List.length y2:Int)
noncomputable def K_impl_Quorum_badIn:Callee:={ ins:=[.v s0 .z,.v (.list (.int .i64)) .z],outs:=[((.int .i64),.z)],F:=fun t=>F_impl_Quorum_badIn t.1 t.2.1 }
noncomputable def X_impl_Quorum_badIn:Ctx:={ tys:=tys,fns:=[(175,K_impl_meetOf)],frz:=[],lps:=[],jns:=[],rjs:=[] }
noncomputable def F_impl_IsSafe (x0:List Int×Int) (x1:List Int):Option (Bool):=
 ((F_impl_QuorumFault x0).bind fun (y8:Int)=>
 bif (decide ((y8:Int)=0)) then
 (F_impl_Quorum_badIn x0 x1).bind fun (y9:Int)=>
 some (decide ((y9:Int)<IntKind.wrap .i64 ((IntKind.wrap .i64 (2 * x0.2)) - (List.length x0.1:Int))))
 else
 some false:Option (Bool)).bind fun (j10:Bool)=>
 some j10
noncomputable def K_impl_IsSafe:Callee:={ ins:=[.v s0 .z,.v (.list (.int .i64)) .z],outs:=[(.bool,.z)],F:=fun t=>F_impl_IsSafe t.1 t.2.1 }
noncomputable def X_impl_IsSafe:Ctx:={ tys:=tys,fns:=[(58,K_impl_QuorumFault),(141,K_impl_Quorum_badIn)],frz:=[],lps:=[],jns:=[],rjs:=[(1,⟨[(4,.st .bool .z false)],[]⟩)] }
noncomputable def F_impl_PremiseOf (x0:(List Int×Int)×List Int×List (Int×Int×Int)×List (Int×Int×List ((Int×Int)×Int))×List (Int×Int×Int×(Int×Int)×Int)×List (List Int)):Option (Bool):=
 ((F_impl_ClusterFault x0).bind fun (y8:Int)=>
 bif (decide ((y8:Int)=0)) then
 (F_impl_IsSafe x0.1 x0.2.1).bind fun (y9:Bool)=>
 some y9
 else
 some false:Option (Bool)).bind fun (j10:Bool)=>
 some j10
noncomputable def K_impl_PremiseOf:Callee:={ ins:=[.v s13 .z],outs:=[(.bool,.z)],F:=fun t=>F_impl_PremiseOf t.1 }
noncomputable def X_impl_PremiseOf:Ctx:={ tys:=tys,fns:=[(15,K_impl_ClusterFault),(80,K_impl_IsSafe)],frz:=[],lps:=[],jns:=[],rjs:=[(1,⟨[(2,.st .bool .z false)],[]⟩)] }
noncomputable def F_impl_countFor (x0:List (Int×Int×Int×(Int×Int)×Int)) (x1:List Int×Int) (x2:Int×Int×Int×(Int×Int)×Int):Option (Int):=
 (loopO (S:=Int×Int×Int×Int×Int×(Int×Int)×Int) (X:=Int) (fun (s13:Int×Int×Int×Int×Int×(Int×Int)×Int)=>
 bif (decide ((s13.2.1:Int)<(List.length x1.1:Int))) then
 bif (inB s13.2.1 x1.1) then
 (F_slices_Contains_Limpl_Vote_impl_Vote x0 (List.getD x1.1 (Int.toNat s13.2.1) 0,s13.2.2.2)).bind fun (y14:Bool)=>
 (bif y14 then
 some (IntKind.wrap .i64 (s13.1+1))
 else
 some s13.1:Option (Int)).bind fun (j15:Int)=>
 some (Sum.inl (j15,(IntKind.wrap .i64 (s13.2.1+1),(List.getD x1.1 (Int.toNat s13.2.1) 0,s13.2.2.2))))
 else none
 else
 some (Sum.inr s13.1)) (0,(0,x2))).bind fun (j16:Int)=>
 some j16
noncomputable def K_impl_countFor:Callee:={ ins:=[.v (.list s8) .z,.v s0 .z,.v s8 .z],outs:=[((.int .i64),.z)],F:=fun t=>F_impl_countFor t.1 t.2.1 t.2.2.1 }
noncomputable def X_impl_countFor:Ctx:={ tys:=tys,fns:=[(111,K_slices_Contains_Limpl_Vote_impl_Vote)],frz:=[],lps:=[(3,(⟨[(0,.keep),(5,.keep),(7,.st (.int .i64) .z false),(11,.keep),(12,.keep),(13,.st (.int .i64) .z false)],[(5,.st s8 .z false)]⟩,⟨[((.exit 0),⟨[(7,.st (.int .i64) .z false)],[]⟩)]⟩))],jns:=[(7,⟨[(.normal,⟨[(0,.keep),(5,.keep),(7,.st (.int .i64) .z false),(11,.keep),(12,.keep),(13,.keep)],[(5,.keep)]⟩)]⟩)],rjs:=[] }
noncomputable def F_impl_Cluster_lockedBy (x0:(List Int×Int)×List Int×List (Int×Int×Int)×List (Int×Int×List ((Int×Int)×Int))×List (Int×Int×Int×(Int×Int)×Int)×List (List Int)) (x1:List (Int×Int×Int×(Int×Int)×Int)):Option (List Int):=
 (loopO (S:=List Int×Int) (X:=List Int) (fun (s13:List Int×Int)=>
 bif (decide ((s13.2:Int)<(List.length x0.2.2.1:Int))) then
 bif (inB s13.2 x0.2.2.1) then
 (F_impl_countFor x1 x0.1 (0,(1,((List.getD x0.2.2.1 (Int.toNat s13.2) (0,(0,0))).1,((0,0),0))))).bind fun (y14:Int)=>
 (bif (decide ((x0.1.2:Int)≤y14)) then
 bif decide (List.length s13.1+List.length ([(List.getD x0.2.2.1 (Int.toNat s13.2) (0,(0,0))).1]:List Int)≤LIM) then
 some (List.append s13.1 ([(List.getD x0.2.2.1 (Int.toNat s13.2) (0,(0,0))).1]:List Int))
 else none
 else
 some s13.1:Option (List Int)).bind fun (j15:List Int)=>
 some (Sum.inl (j15,IntKind.wrap .i64 (s13.2+1)))
 else none
 else
 some (Sum.inr s13.1)) (([]:List Int),0)).bind fun (j16:List Int)=>
 some j16
noncomputable def K_impl_Cluster_lockedBy:Callee:={ ins:=[.rp s13 false,.v (.list s8) .z],outs:=[((.list (.int .i64)),(.o .z))],F:=fun t=>F_impl_Cluster_lockedBy t.1 t.2.1 }
noncomputable def X_impl_Cluster_lockedBy:Ctx:={ tys:=tys,fns:=[(93,K_impl_countFor)],frz:=[],lps:=[(3,(⟨[(0,.keep),(1,.keep),(5,.st (.list (.int .i64)) (.o .z) false),(12,.keep),(13,.keep),(14,.st (.int .i64) .z false)],[]⟩,⟨[((.exit 0),⟨[(5,.st (.list (.int .i64)) (.o .z) false)],[]⟩)]⟩))],jns:=[(6,⟨[(.normal,⟨[(0,.keep),(1,.keep),(5,.st (.list (.int .i64)) (.o .z) false),(12,.keep),(13,.keep),(14,.keep)],[]⟩)]⟩)],rjs:=[] }
noncomputable def F_impl_LockedBlocks (x0:(List Int×Int)×List Int×List (Int×Int×Int)×List (Int×Int×List ((Int×Int)×Int))×List (Int×Int×Int×(Int×Int)×Int)×List (List Int)):Option (Int×List Int):=
 (F_impl_ClusterFault x0).bind fun (y3:Int)=>
 bif (!decide ((y3:Int)=0)) then
 some (y3,[])
 else
 (F_impl_Cluster_lockedBy x0 x0.2.2.2.2.1).bind fun (y4:List Int)=>
 some (0,y4)
noncomputable def K_impl_LockedBlocks:Callee:={ ins:=[.v s13 .z],outs:=[(s15,(.p .z (.o .z)))],F:=fun t=>F_impl_LockedBlocks t.1 }
noncomputable def X_impl_LockedBlocks:Ctx:={ tys:=tys,fns:=[(15,K_impl_ClusterFault),(91,K_impl_Cluster_lockedBy)],frz:=[],lps:=[],jns:=[],rjs:=[] }
noncomputable def F_spec_l10Bad (x0:List Int) (x1:List Int):Option (Int):=
 (loopO (S:=Int×Int) (X:=Int) (fun (s13:Int×Int)=>
 bif (decide ((s13.2:Int)<(List.length x0:Int))) then
 bif (inB s13.2 x0) then
 (F_spec_l4Among x1 (List.getD x0 (Int.toNat s13.2) 0)).bind fun (y14:Bool)=>
 (bif y14 then
 some (IntKind.wrap .i64 (s13.1+1))
 else
 some s13.1:Option (Int)).bind fun (j15:Int)=>
 some (Sum.inl (j15,IntKind.wrap .i64 (s13.2+1)))
 else none
 else
 some (Sum.inr s13.1)) (0,0)).bind fun (j16:Int)=>
 some j16
noncomputable def F_spec_l10Safe (x0:List Int×Int) (x1:List Int):Option (Bool):=
 (F_spec_l10Bad x0.1 x1).bind fun (y2:Int)=>
 some (decide ((y2:Int)<IntKind.wrap .i64 ((IntKind.wrap .i64 (2 * x0.2)) - (List.length x0.1:Int))))
noncomputable def F_spec_PremiseOf (x0:(List Int×Int)×List Int×List (Int×Int×Int)×List (Int×Int×List ((Int×Int)×Int))×List (Int×Int×Int×(Int×Int)×Int)×List (List Int)):Option (Bool):=
 ((F_spec_l12Fault x0).bind fun (y8:Int)=>
 bif (decide ((y8:Int)=0)) then
 (F_spec_l10Safe x0.1 x0.2.1).bind fun (y9:Bool)=>
 some y9
 else
 some false:Option (Bool)).bind fun (j10:Bool)=>
 some j10
noncomputable def F_spec_l11Count (x0:List (Int×Int×Int×(Int×Int)×Int)) (x1:List Int×Int) (x2:Int×Int×Int×(Int×Int)×Int):Option (Int):=
 (loopO (S:=Int×Int×Int×Int×Int×(Int×Int)×Int) (X:=Int) (fun (s13:Int×Int×Int×Int×Int×(Int×Int)×Int)=>
 bif (decide ((s13.2.1:Int)<(List.length x1.1:Int))) then
 bif (inB s13.2.1 x1.1) then
 (loopO (S:=Int) (X:=Int) (fun (s14:Int)=>
 bif (decide ((s14:Int)<(List.length x0:Int))) then
 bif (inB s14 x0) then
 bif (Sh.beq (.prod (.int .i64) (.prod (.int .i64) (.prod (.int .i64) (.prod (.prod (.int .i64) (.int .i64)) (.int .i64))))) (List.getD x0 (Int.toNat s14) (0,(0,(0,((0,0),0))))) (List.getD x1.1 (Int.toNat s13.2.1) 0,s13.2.2.2)) then
 some (Sum.inr (IntKind.wrap .i64 (s13.1+1)))
 else
 some (Sum.inl (IntKind.wrap .i64 (s14+1)))
 else none
 else
 some (Sum.inr s13.1)) 0).bind fun (j15:Int)=>
 some (Sum.inl (j15,(IntKind.wrap .i64 (s13.2.1+1),(List.getD x1.1 (Int.toNat s13.2.1) 0,s13.2.2.2))))
 else none
 else
 some (Sum.inr s13.1)) (0,(0,x2))).bind fun (j16:Int)=>
 some j16
noncomputable def K_spec_l11Count:Callee:={ ins:=[.v (.list s8) .z,.rp s0 false,.v s8 .z],outs:=[((.int .i64),.z)],F:=fun t=>F_spec_l11Count t.1 t.2.1 t.2.2.1 }
noncomputable def X_spec_l11Count:Ctx:={ tys:=tys,fns:=[],frz:=[],lps:=[(3,(⟨[(0,.keep),(1,.keep),(5,.keep),(7,.st (.int .i64) .z false),(8,.st (.int .i64) .z false)],[(5,.st s8 .z false)]⟩,⟨[((.exit 0),⟨[(7,.st (.int .i64) .z false)],[]⟩)]⟩)),
 (7,(⟨[(0,.keep),(1,.keep),(5,.keep),(7,.keep),(8,.keep),(9,.st (.int .i64) .z false)],[(5,.keep)]⟩,⟨[((.exit 2),⟨[(0,.keep),(1,.keep),(5,.keep),(7,.st (.int .i64) .z false),(8,.keep)],[(5,.keep)]⟩)]⟩))],jns:=[],rjs:=[] }
noncomputable def F_spec_l12Locks (x0:(List Int×Int)×List Int×List (Int×Int×Int)×List (Int×Int×List ((Int×Int)×Int))×List (Int×Int×Int×(Int×Int)×Int)×List (List Int)) (x1:List (Int×Int×Int×(Int×Int)×Int)):Option (List Int):=
 (loopO (S:=List Int×Int) (X:=List Int) (fun (s13:List Int×Int)=>
 bif (decide ((s13.2:Int)<(List.length x0.2.2.1:Int))) then
 bif (inB s13.2 x0.2.2.1) then
 (F_spec_l11Count x1 x0.1 (0,(1,((List.getD x0.2.2.1 (Int.toNat s13.2) (0,(0,0))).1,((0,0),0))))).bind fun (y14:Int)=>
 (bif (decide ((x0.1.2:Int)≤y14)) then
 bif (inB s13.2 x0.2.2.1) then
 bif decide (List.length s13.1+List.length ([(List.getD x0.2.2.1 (Int.toNat s13.2) (0,(0,0))).1]:List Int)≤LIM) then
 some (List.append s13.1 ([(List.getD x0.2.2.1 (Int.toNat s13.2) (0,(0,0))).1]:List Int))
 else none
 else none
 else
 some s13.1:Option (List Int)).bind fun (j15:List Int)=>
 some (Sum.inl (j15,IntKind.wrap .i64 (s13.2+1)))
 else none
 else
 some (Sum.inr s13.1)) (([]:List Int),0)).bind fun (j16:List Int)=>
 some j16
noncomputable def K_spec_l12Locks:Callee:={ ins:=[.rp s13 false,.v (.list s8) .z],outs:=[((.list (.int .i64)),(.o .z))],F:=fun t=>F_spec_l12Locks t.1 t.2.1 }
noncomputable def X_spec_l12Locks:Ctx:={ tys:=tys,fns:=[(146,K_spec_l11Count)],frz:=[],lps:=[(3,(⟨[(0,.keep),(1,.keep),(5,.st (.list (.int .i64)) (.o .z) false),(6,.st (.int .i64) .z false)],[]⟩,⟨[((.exit 0),⟨[(5,.st (.list (.int .i64)) (.o .z) false)],[]⟩)]⟩))],jns:=[(7,⟨[(.normal,⟨[(0,.keep),(1,.keep),(5,.st (.list (.int .i64)) (.o .z) false),(6,.keep)],[]⟩)]⟩)],rjs:=[] }
noncomputable def F_spec_l9Related (x0:List (Int×Int×Int)) (x1:Int) (x2:Int):Option (Bool):=
 ((F_spec_l9Above x0 x1 x2).bind fun (y8:Bool)=>
 bif y8 then
 some true
 else
 (F_spec_l9Above x0 x2 x1).bind fun (y9:Bool)=>
 some y9:Option (Bool)).bind fun (j10:Bool)=>
 some j10
noncomputable def K_spec_l9Related:Callee:={ ins:=[.v (.list s2) .z,.v (.int .i64) .z,.v (.int .i64) .z],outs:=[(.bool,.z)],F:=fun t=>F_spec_l9Related t.1 t.2.1 t.2.2.1 }
noncomputable def X_spec_l9Related:Ctx:={ tys:=tys,fns:=[(139,K_spec_l9Above)],frz:=[],lps:=[],jns:=[],rjs:=[(1,⟨[(6,.st .bool .z false)],[]⟩)] }
noncomputable def F_slices_SortFunc_Limpl_Voter_impl_Voter (x0:List (Int×Int×List ((Int×Int)×Int))) (x1:(Int×Int×List ((Int×Int)×Int))→(Int×Int×List ((Int×Int)×Int))→Option Int):Option (List (Int×Int×List ((Int×Int)×Int))):=
 sortO x0 x1
noncomputable def K_slices_SortFunc_Limpl_Voter_impl_Voter:Callee:={ ins:=[.mu (.list s5) (.o (.p .z (.p .z (.o .z)))) (.o (.p .z (.p .z (.o .z)))),.v (.fn2 s5 s5 (.int .i64)) .z],outs:=[],F:=fun t=>F_slices_SortFunc_Limpl_Voter_impl_Voter t.1 t.2.1 }
noncomputable def F_cmp_isNaN_int64 (x0:Int):Option (Bool):=
 some (!decide ((x0:Int)=x0))
noncomputable def K_cmp_isNaN_int64:Callee:={ ins:=[.v (.int .i64) .z],outs:=[(.bool,.z)],F:=fun t=>F_cmp_isNaN_int64 t.1 }
noncomputable def X_cmp_isNaN_int64:Ctx:={ tys:=tys,fns:=[],frz:=[],lps:=[],jns:=[],rjs:=[] }
noncomputable def F_cmp_Compare_int64 (x0:Int) (x1:Int):Option (Int):=
 (F_cmp_isNaN_int64 x0).bind fun (y3:Bool)=>
 (F_cmp_isNaN_int64 x1).bind fun (y4:Bool)=>
 bif y3 then
 bif y4 then
 some 0
 else
 some (-1)
 else
 bif y4 then
 some 1
 else
 bif (decide ((x0:Int)<x1)) then
 some (-1)
 else
 bif (decide ((x1:Int)<x0)) then
 some 1
 else
 some 0
noncomputable def K_cmp_Compare_int64:Callee:={ ins:=[.v (.int .i64) .z,.v (.int .i64) .z],outs:=[((.int .i64),.z)],F:=fun t=>F_cmp_Compare_int64 t.1 t.2.1 }
noncomputable def X_cmp_Compare_int64:Ctx:={ tys:=tys,fns:=[(178,K_cmp_isNaN_int64)],frz:=[],lps:=[],jns:=[],rjs:=[] }
noncomputable def F_impl_NewCluster_c1 (x0:Int×Int×List ((Int×Int)×Int)) (x1:Int×Int×List ((Int×Int)×Int)):Option (Int):=
 (F_cmp_Compare_int64 x0.1 x1.1).bind fun (y2:Int)=>
 some y2
noncomputable def K_impl_NewCluster_c1:Callee:={ ins:=[.v s5 .z,.v s5 .z],outs:=[((.int .i64),.z)],F:=fun t=>F_impl_NewCluster_c1 t.1 t.2.1 }
noncomputable def X_impl_NewCluster_c1:Ctx:={ tys:=tys,fns:=[(149,K_cmp_Compare_int64)],frz:=[],lps:=[],jns:=[],rjs:=[] }
noncomputable def F_impl_NewCluster (x0:List Int×Int) (x1:List Int) (x2:Int):Option (Int×(List Int×Int)×List Int×List (Int×Int×Int)×List (Int×Int×List ((Int×Int)×Int))×List (Int×Int×Int×(Int×Int)×Int)×List (List Int)):=
 (F_impl_QuorumFault x0).bind fun (y15:Int)=>
 bif (!decide ((y15:Int)=0)) then
 some (y15,(([],0),([],([],([],([],[]))))))
 else
 (bif (decide ((20:Int)<(List.length x1:Int))) then
 some true
 else
 (F_impl_within x2 1 4).bind fun (y17:Bool)=>
 some (!y17):Option (Bool)).bind fun (j18:Bool)=>
 bif j18 then
 some (2,(([],0),([],([],([],([],[]))))))
 else
 (F_impl_badFault x1).bind fun (y19:Int)=>
 bif (!decide ((y19:Int)=0)) then
 some (y19,(([],0),([],([],([],([],[]))))))
 else
 (F_slices_Clone_Lint64_int64 x0.1).bind fun (y20:List Int)=>
 (F_slices_Clone_Lint64_int64 x1).bind fun (y21:List Int)=>
 bif (decide (0≤x2)&&decide (x2≤(LIM:Int))) then
 (F_impl_goodKeys x0 x1).bind fun (y22:List Int)=>
 (loopO (S:=Int×(List Int×Int)×List Int×List (Int×Int×Int)×List (Int×Int×List ((Int×Int)×Int))×List (Int×Int×Int×(Int×Int)×Int)×List (List Int)) (X:=(List Int×Int)×List Int×List (Int×Int×Int)×List (Int×Int×List ((Int×Int)×Int))×List (Int×Int×Int×(Int×Int)×Int)×List (List Int)) (fun (s23:Int×(List Int×Int)×List Int×List (Int×Int×Int)×List (Int×Int×List ((Int×Int)×Int))×List (Int×Int×Int×(Int×Int)×Int)×List (List Int))=>
 bif (decide ((s23.1:Int)<(List.length y22:Int))) then
 bif (inB s23.1 y22) then
 bif decide (List.length s23.2.2.2.2.1+List.length ([(List.getD y22 (Int.toNat s23.1) 0,(0,[]))]:List (Int×Int×List ((Int×Int)×Int)))≤LIM) then
 some (Sum.inl (IntKind.wrap .i64 (s23.1+1),(s23.2.1,(s23.2.2.1,(s23.2.2.2.1,(List.append s23.2.2.2.2.1 ([(List.getD y22 (Int.toNat s23.1) 0,(0,[]))]:List (Int×Int×List ((Int×Int)×Int))),s23.2.2.2.2.2))))))
 else none
 else none
 else
 some (Sum.inr s23.2)) (0,((y20,x0.2),(y21,([],([],([],List.replicate (Int.toNat x2) []))))))).bind fun (j24:(List Int×Int)×List Int×List (Int×Int×Int)×List (Int×Int×List ((Int×Int)×Int))×List (Int×Int×Int×(Int×Int)×Int)×List (List Int))=>
 (F_slices_SortFunc_Limpl_Voter_impl_Voter j24.2.2.2.1 (fun (a25:Int×Int×List ((Int×Int)×Int)) (a26:Int×Int×List ((Int×Int)×Int))=>(F_impl_NewCluster_c1 a25 a26).bind fun r27=>some r27)).bind fun (y28:List (Int×Int×List ((Int×Int)×Int)))=>
 some (0,(j24.1,(j24.2.1,(j24.2.2.1,(y28,j24.2.2.2.2)))))
 else none
noncomputable def K_impl_NewCluster:Callee:={ ins:=[.v s0 .z,.v (.list (.int .i64)) .z,.v (.int .i64) .z],outs:=[(s14,(.p .z (.p (.p (.o .z) .z) (.p (.o .z) (.p (.o .z) (.p (.o (.p .z (.p .z (.o .z)))) (.p (.o .z) (.o (.o .z)))))))))],F:=fun t=>F_impl_NewCluster t.1 t.2.1 t.2.2.1 }
noncomputable def X_impl_NewCluster:Ctx:={ tys:=tys,fns:=[(58,K_impl_QuorumFault),(59,K_impl_within),(60,K_impl_badFault),(107,K_slices_Clone_Lint64_int64),(127,K_impl_goodKeys),(147,K_slices_SortFunc_Limpl_Voter_impl_Voter),(148,K_impl_NewCluster_c1)],frz:=[],lps:=[(11,(⟨[(6,.keep),(9,.keep),(46,.keep),(47,.keep),(48,.st (.int .i64) .z false)],[(6,.keep),(9,.st s13 (.p (.p (.o .z) .z) (.p (.o .z) (.p (.o .z) (.p (.o (.p .z (.p .z (.o .z)))) (.p (.o .z) (.o (.o .z))))))) false)]⟩,⟨[((.exit 0),⟨[(6,.keep),(9,.keep)],[(6,.keep),(9,.st s13 (.p (.p (.o .z) .z) (.p (.o .z) (.p (.o .z) (.p (.o (.p .z (.p .z (.o .z)))) (.p (.o .z) (.o (.o .z))))))) false)]⟩)]⟩))],jns:=[],rjs:=[(4,⟨[(1,.keep),(2,.keep),(3,.keep),(6,.keep),(25,.st .bool .z false)],[(3,.keep),(6,.keep)]⟩)] }
noncomputable def F_impl_NeedOf (x0:Int):Option (Int×Int):=
 (F_impl_within x0 1 8).bind fun (y2:Bool)=>
 bif (!y2) then
 some (3,0)
 else
 some (0,IntKind.wrap .i64 ((IntKind.wrap .i64 (Int.tdiv (IntKind.wrap .i64 (x0 * 2)) 3))+1))
noncomputable def K_impl_NeedOf:Callee:={ ins:=[.v (.int .i64) .z],outs:=[(s1,.z)],F:=fun t=>F_impl_NeedOf t.1 }
noncomputable def X_impl_NeedOf:Ctx:={ tys:=tys,fns:=[(59,K_impl_within)],frz:=[],lps:=[],jns:=[],rjs:=[] }
noncomputable def F_laws_lwCluster (x0:List Int):Option (((List Int×Int)×List Int×List (Int×Int×Int)×List (Int×Int×List ((Int×Int)×Int))×List (Int×Int×Int×(Int×Int)×Int)×List (List Int))×Bool):=
 (F_laws_lwAt x0 0 5).bind fun (y760:Int)=>
 (loopO (S:=List Int×List Int×Int) (X:=List Int×List Int) (fun (s765:List Int×List Int×Int)=>
 bif (decide ((s765.2.2:Int)≤IntKind.wrap .i64 (3+y760))) then
 bif decide (List.length s765.1+List.length ([s765.2.2]:List Int)≤LIM) then
 (F_laws_lwAt x0 s765.2.2 4).bind fun (y766:Int)=>
 (bif (decide ((y766:Int)=0)) then
 bif decide (List.length s765.2.1+List.length ([s765.2.2]:List Int)≤LIM) then
 some (List.append s765.2.1 ([s765.2.2]:List Int))
 else none
 else
 some s765.2.1:Option (List Int)).bind fun (j767:List Int)=>
 some (Sum.inl (List.append s765.1 ([s765.2.2]:List Int),(j767,IntKind.wrap .i64 (s765.2.2+1))))
 else none
 else
 some (Sum.inr (s765.1,s765.2.1))) (([]:List Int),(([]:List Int),1))).bind fun (j768:List Int×List Int)=>
 (F_impl_NeedOf (IntKind.wrap .i64 (3+y760))).bind fun (y769:Int×Int)=>
 (F_impl_NewCluster (j768.1,y769.2) j768.2 2).bind fun (y770:Int×(List Int×Int)×List Int×List (Int×Int×Int)×List (Int×Int×List ((Int×Int)×Int))×List (Int×Int×Int×(Int×Int)×Int)×List (List Int))=>
 (loopO (S:=Bool×Int×(List Int×Int)×List Int×List (Int×Int×Int)×List (Int×Int×List ((Int×Int)×Int))×List (Int×Int×Int×(Int×Int)×Int)×List (List Int)) (X:=Bool×(List Int×Int)×List Int×List (Int×Int×Int)×List (Int×Int×List ((Int×Int)×Int))×List (Int×Int×Int×(Int×Int)×Int)×List (List Int)) (fun (s1268:Bool×Int×(List Int×Int)×List Int×List (Int×Int×Int)×List (Int×Int×List ((Int×Int)×Int))×List (Int×Int×Int×(Int×Int)×Int)×List (List Int))=>
 (bif (decide ((s1268.2.1:Int)<50)) then
 some s1268.1
 else
 some false:Option (Bool)).bind fun (j1269:Bool)=>
 bif j1269 then
 (F_laws_lwAt x0 (IntKind.wrap .i64 (s1268.2.1+40)) (IntKind.wrap .i64 (3+y760))).bind fun (y1270:Int)=>
 (F_laws_lwAt x0 (IntKind.wrap .i64 (s1268.2.1+70)) (IntKind.wrap .i64 (1+(List.length s1268.2.2.2.2.1:Int)))).bind fun (y1271:Int)=>
 (F_laws_lwAt x0 (IntKind.wrap .i64 (s1268.2.1+10)) 9).bind fun (y1272:Int)=>
 (bif (decide ((y1272:Int)=0)) then
 some (decide ((y1272:Int)=0))
 else
 some (decide ((y1272:Int)=1)):Option (Bool)).bind fun (j1273:Bool)=>
 (bif j1273 then
 (bif (decide ((0:Int)<(List.length s1268.2.2.2.2.1:Int))) then
 (F_laws_lwAt x0 (IntKind.wrap .i64 (s1268.2.1+100)) 6).bind fun (y1395:Int)=>
 some (decide ((0:Int)<y1395))
 else
 some false:Option (Bool)).bind fun (j1396:Bool)=>
 (bif j1396 then
 (F_laws_lwAt x0 (IntKind.wrap .i64 (s1268.2.1+100)) (List.length s1268.2.2.2.2.1:Int)).bind fun (y1398:Int)=>
 bif (inB (IntKind.wrap .i64 ((IntKind.wrap .i64 ((List.length s1268.2.2.2.2.1:Int) - 1)) - (IntKind.wrap .i64 (Int.tdiv y1398 2)))) s1268.2.2.2.2.1) then
 some (IntKind.wrap .i64 ((List.length s1268.2.2.2.2.1:Int)+1),((List.getD s1268.2.2.2.2.1 (Int.toNat (IntKind.wrap .i64 ((IntKind.wrap .i64 ((List.length s1268.2.2.2.2.1:Int) - 1)) - (IntKind.wrap .i64 (Int.tdiv y1398 2))))) (0,(0,0))).1,IntKind.wrap .i64 ((List.getD s1268.2.2.2.2.1 (Int.toNat (IntKind.wrap .i64 ((IntKind.wrap .i64 ((List.length s1268.2.2.2.2.1:Int) - 1)) - (IntKind.wrap .i64 (Int.tdiv y1398 2))))) (0,(0,0))).2.2+1)))
 else none
 else
 some (IntKind.wrap .i64 ((List.length s1268.2.2.2.2.1:Int)+1),(0,1)):Option (Int×Int×Int)).bind fun (j1399:Int×Int×Int)=>
 (F_impl_GrowTree s1268.2.2 j1399).bind fun (y1400:Int×(List Int×Int)×List Int×List (Int×Int×Int)×List (Int×Int×List ((Int×Int)×Int))×List (Int×Int×Int×(Int×Int)×Int)×List (List Int))=>
 some y1400
 else
 (bif (decide ((y1272:Int)=2)) then
 (F_laws_lwAt x0 (IntKind.wrap .i64 (s1268.2.1+100)) 2).bind fun (y1457:Int)=>
 (F_laws_lwAt x0 (IntKind.wrap .i64 (s1268.2.1+130)) 2).bind fun (y1458:Int)=>
 (F_impl_ChooseAt s1268.2.2 (IntKind.wrap .i64 (1+y1270)) (IntKind.wrap .i64 (1+y1457),0) (IntKind.wrap .i64 (1+y1458))).bind fun (y1459:Int×(List Int×Int)×List Int×List (Int×Int×Int)×List (Int×Int×List ((Int×Int)×Int))×List (Int×Int×Int×(Int×Int)×Int)×List (List Int))=>
 some y1459
 else
 (bif (decide ((y1272:Int)=3)) then
 (F_impl_ForgeAt s1268.2.2 (IntKind.wrap .i64 (1+y1270),(1,(IntKind.wrap .i64 (1+y1271),((0,0),0))))).bind fun (y1486:Int×(List Int×Int)×List Int×List (Int×Int×Int)×List (Int×Int×List ((Int×Int)×Int))×List (Int×Int×Int×(Int×Int)×Int)×List (List Int))=>
 some y1486
 else
 (bif (decide ((y1272:Int)=4)) then
 (F_laws_lwAt x0 (IntKind.wrap .i64 (s1268.2.1+100)) 2).bind fun (y1499:Int)=>
 (F_laws_lwAt x0 (IntKind.wrap .i64 (s1268.2.1+130)) 2).bind fun (y1500:Int)=>
 (F_impl_ForgeAt s1268.2.2 (IntKind.wrap .i64 (1+y1270),(2,(0,((IntKind.wrap .i64 (1+y1499),0),IntKind.wrap .i64 (1+y1500)))))).bind fun (y1501:Int×(List Int×Int)×List Int×List (Int×Int×Int)×List (Int×Int×List ((Int×Int)×Int))×List (Int×Int×Int×(Int×Int)×Int)×List (List Int))=>
 some y1501
 else
 (bif (decide ((y1272:Int)=5)) then
 (F_laws_lwAt x0 (IntKind.wrap .i64 (s1268.2.1+100)) 2).bind fun (y1506:Int)=>
 (F_laws_lwAt x0 (IntKind.wrap .i64 (s1268.2.1+130)) (List.length s1268.2.2.2.2.2.2.1:Int)).bind fun (y1507:Int)=>
 (F_impl_HearAt s1268.2.2 y1506 y1507).bind fun (y1508:Int×(List Int×Int)×List Int×List (Int×Int×Int)×List (Int×Int×List ((Int×Int)×Int))×List (Int×Int×Int×(Int×Int)×Int)×List (List Int))=>
 some y1508
 else
 (F_impl_CastAt s1268.2.2 (IntKind.wrap .i64 (1+y1270)) (IntKind.wrap .i64 (1+y1271))).bind fun (y1509:Int×(List Int×Int)×List Int×List (Int×Int×Int)×List (Int×Int×List ((Int×Int)×Int))×List (Int×Int×Int×(Int×Int)×Int)×List (List Int))=>
 some y1509:Option (Int×(List Int×Int)×List Int×List (Int×Int×Int)×List (Int×Int×List ((Int×Int)×Int))×List (Int×Int×Int×(Int×Int)×Int)×List (List Int))).bind fun (j1510:Int×(List Int×Int)×List Int×List (Int×Int×Int)×List (Int×Int×List ((Int×Int)×Int))×List (Int×Int×Int×(Int×Int)×Int)×List (List Int))=>
 some j1510:Option (Int×(List Int×Int)×List Int×List (Int×Int×Int)×List (Int×Int×List ((Int×Int)×Int))×List (Int×Int×Int×(Int×Int)×Int)×List (List Int))).bind fun (j1511:Int×(List Int×Int)×List Int×List (Int×Int×Int)×List (Int×Int×List ((Int×Int)×Int))×List (Int×Int×Int×(Int×Int)×Int)×List (List Int))=>
 some j1511:Option (Int×(List Int×Int)×List Int×List (Int×Int×Int)×List (Int×Int×List ((Int×Int)×Int))×List (Int×Int×Int×(Int×Int)×Int)×List (List Int))).bind fun (j1512:Int×(List Int×Int)×List Int×List (Int×Int×Int)×List (Int×Int×List ((Int×Int)×Int))×List (Int×Int×Int×(Int×Int)×Int)×List (List Int))=>
 some j1512:Option (Int×(List Int×Int)×List Int×List (Int×Int×Int)×List (Int×Int×List ((Int×Int)×Int))×List (Int×Int×Int×(Int×Int)×Int)×List (List Int))).bind fun (j1513:Int×(List Int×Int)×List Int×List (Int×Int×Int)×List (Int×Int×List ((Int×Int)×Int))×List (Int×Int×Int×(Int×Int)×Int)×List (List Int))=>
 some j1513:Option (Int×(List Int×Int)×List Int×List (Int×Int×Int)×List (Int×Int×List ((Int×Int)×Int))×List (Int×Int×Int×(Int×Int)×Int)×List (List Int))).bind fun (j1514:Int×(List Int×Int)×List Int×List (Int×Int×Int)×List (Int×Int×List ((Int×Int)×Int))×List (Int×Int×Int×(Int×Int)×Int)×List (List Int))=>
 (bif (decide ((j1514.1:Int)=0)) then
 (F_impl_ClusterFault j1514.2).bind fun (y1516:Int)=>
 some (decide ((y1516:Int)=0),j1514.2)
 else
 some (s1268.1,s1268.2.2):Option (Bool×(List Int×Int)×List Int×List (Int×Int×Int)×List (Int×Int×List ((Int×Int)×Int))×List (Int×Int×Int×(Int×Int)×Int)×List (List Int))).bind fun (j1517:Bool×(List Int×Int)×List Int×List (Int×Int×Int)×List (Int×Int×List ((Int×Int)×Int))×List (Int×Int×Int×(Int×Int)×Int)×List (List Int))=>
 some (Sum.inl (j1517.1,(IntKind.wrap .i64 (s1268.2.1+1),j1517.2)))
 else
 some (Sum.inr (s1268.1,s1268.2.2))) (decide (((List.length y770.2.1.1:Int):Int)=IntKind.wrap .i64 (3+y760)),(0,y770.2))).bind fun (j1518:Bool×(List Int×Int)×List Int×List (Int×Int×Int)×List (Int×Int×List ((Int×Int)×Int))×List (Int×Int×Int×(Int×Int)×Int)×List (List Int))=>
 some (j1518.2,j1518.1)
noncomputable def K_laws_lwCluster:Callee:={ ins:=[.v (.list (.int .u8)) .z],outs:=[(s13,(.p (.p (.o .z) .z) (.p (.o .z) (.p (.o .z) (.p (.o (.p .z (.p .z (.o .z)))) (.p (.o .z) (.o (.o .z)))))))),(.bool,.z)],F:=fun t=>F_laws_lwCluster t.1 }
noncomputable def X_laws_lwCluster:Ctx:={ tys:=tys,fns:=[(11,K_impl_ForgeAt),(15,K_impl_ClusterFault),(21,K_impl_CastAt),(23,K_impl_ChooseAt),(24,K_laws_lwAt),(25,K_impl_HearAt),(26,K_impl_GrowTree),(89,K_impl_NewCluster),(90,K_impl_NeedOf)],frz:=[],lps:=[(5,(⟨[(0,.keep),(2,.keep),(4,.keep),(5,.st (.list (.int .i64)) (.o .z) false),(6,.st (.list (.int .i64)) (.o .z) false),(7,.st (.int .i64) .z false)],[(2,.keep)]⟩,⟨[((.exit 0),⟨[(0,.keep),(2,.keep),(4,.keep),(5,.st (.list (.int .i64)) (.o .z) false),(6,.st (.list (.int .i64)) (.o .z) false)],[(2,.keep)]⟩)]⟩)),
 (13,(⟨[(0,.keep),(2,.keep),(4,.keep),(8,.keep),(9,.st .bool .z false),(10,.st (.int .i64) .z false)],[(2,.keep),(8,.st s13 (.p (.p (.o .z) .z) (.p (.o .z) (.p (.o .z) (.p (.o (.p .z (.p .z (.o .z)))) (.p (.o .z) (.o (.o .z))))))) false)]⟩,⟨[((.exit 2),⟨[(2,.keep),(8,.keep),(9,.st .bool .z false)],[(2,.keep),(8,.st s13 (.p (.p (.o .z) .z) (.p (.o .z) (.p (.o .z) (.p (.o (.p .z (.p .z (.o .z)))) (.p (.o .z) (.o (.o .z))))))) false)]⟩)]⟩))],jns:=[(9,⟨[(.normal,⟨[(0,.keep),(2,.keep),(4,.keep),(5,.keep),(6,.st (.list (.int .i64)) (.o .z) false),(7,.keep)],[(2,.keep)]⟩)]⟩),
 (21,⟨[(.normal,⟨[(0,.keep),(2,.keep),(4,.keep),(8,.keep),(9,.keep),(10,.keep),(11,.keep),(12,.keep),(13,.keep),(78,.keep),(83,.st .bool .z false)],[(2,.keep),(8,.keep),(13,.keep)]⟩)]⟩),
 (22,⟨[(.normal,⟨[(0,.keep),(2,.keep),(4,.keep),(8,.keep),(9,.keep),(10,.keep),(13,.keep)],[(2,.keep),(8,.keep),(13,.st s14 (.p .z (.p (.p (.o .z) .z) (.p (.o .z) (.p (.o .z) (.p (.o (.p .z (.p .z (.o .z)))) (.p (.o .z) (.o (.o .z)))))))) false)]⟩)]⟩),
 (24,⟨[(.normal,⟨[(0,.keep),(2,.keep),(4,.keep),(8,.keep),(9,.keep),(10,.keep),(13,.keep),(14,.keep)],[(2,.keep),(8,.keep),(13,.keep),(14,.st s2 .z false)]⟩)]⟩),
 (29,⟨[(.normal,⟨[(0,.keep),(2,.keep),(4,.keep),(8,.keep),(9,.keep),(10,.keep),(13,.keep)],[(2,.keep),(8,.keep),(13,.st s14 (.p .z (.p (.p (.o .z) .z) (.p (.o .z) (.p (.o .z) (.p (.o (.p .z (.p .z (.o .z)))) (.p (.o .z) (.o (.o .z)))))))) false)]⟩)]⟩),
 (31,⟨[(.normal,⟨[(0,.keep),(2,.keep),(4,.keep),(8,.keep),(9,.keep),(10,.keep),(13,.keep)],[(2,.keep),(8,.keep),(13,.st s14 (.p .z (.p (.p (.o .z) .z) (.p (.o .z) (.p (.o .z) (.p (.o (.p .z (.p .z (.o .z)))) (.p (.o .z) (.o (.o .z)))))))) false)]⟩)]⟩),
 (33,⟨[(.normal,⟨[(0,.keep),(2,.keep),(4,.keep),(8,.keep),(9,.keep),(10,.keep),(13,.keep)],[(2,.keep),(8,.keep),(13,.st s14 (.p .z (.p (.p (.o .z) .z) (.p (.o .z) (.p (.o .z) (.p (.o (.p .z (.p .z (.o .z)))) (.p (.o .z) (.o (.o .z)))))))) false)]⟩)]⟩),
 (35,⟨[(.normal,⟨[(0,.keep),(2,.keep),(4,.keep),(8,.keep),(9,.keep),(10,.keep),(13,.keep)],[(2,.keep),(8,.keep),(13,.st s14 (.p .z (.p (.p (.o .z) .z) (.p (.o .z) (.p (.o .z) (.p (.o (.p .z (.p .z (.o .z)))) (.p (.o .z) (.o (.o .z)))))))) false)]⟩)]⟩),
 (37,⟨[(.normal,⟨[(0,.keep),(2,.keep),(4,.keep),(8,.keep),(9,.st .bool .z false),(10,.keep)],[(2,.keep),(8,.st s13 (.p (.p (.o .z) .z) (.p (.o .z) (.p (.o .z) (.p (.o (.p .z (.p .z (.o .z)))) (.p (.o .z) (.o (.o .z))))))) false)]⟩)]⟩)],rjs:=[(13,⟨[(0,.keep),(2,.keep),(4,.keep),(8,.keep),(9,.keep),(10,.keep),(56,.st .bool .z false)],[(2,.keep),(8,.keep)]⟩),
 (23,⟨[(0,.keep),(2,.keep),(4,.keep),(8,.keep),(9,.keep),(10,.keep),(13,.keep),(14,.keep),(101,.st .bool .z false)],[(2,.keep),(8,.keep),(13,.keep),(14,.keep)]⟩)] }
noncomputable def F_impl_LocksAt (x0:(List Int×Int)×List Int×List (Int×Int×Int)×List (Int×Int×List ((Int×Int)×Int))×List (Int×Int×Int×(Int×Int)×Int)×List (List Int)) (x1:Int):Option (Int×List Int):=
 (F_impl_ClusterFault x0).bind fun (y6:Int)=>
 bif (!decide ((y6:Int)=0)) then
 some (y6,[])
 else
 (F_impl_Cluster_isHearer x0 x1).bind fun (y7:Bool)=>
 bif (!y7) then
 some (3,[])
 else
 bif (inB x1 x0.2.2.2.2.2) then
 (loopO (S:=List (Int×Int×Int×(Int×Int)×Int)×Int) (X:=List (Int×Int×Int×(Int×Int)×Int)) (fun (s8:List (Int×Int×Int×(Int×Int)×Int)×Int)=>
 bif (decide ((s8.2:Int)<(List.length (List.getD x0.2.2.2.2.2 (Int.toNat x1) []):Int))) then
 bif (inB s8.2 (List.getD x0.2.2.2.2.2 (Int.toNat x1) [])) then
 bif (inB (List.getD (List.getD x0.2.2.2.2.2 (Int.toNat x1) []) (Int.toNat s8.2) 0) x0.2.2.2.2.1) then
 bif decide (List.length s8.1+List.length ([List.getD x0.2.2.2.2.1 (Int.toNat (List.getD (List.getD x0.2.2.2.2.2 (Int.toNat x1) []) (Int.toNat s8.2) 0)) (0,(0,(0,((0,0),0))))]:List (Int×Int×Int×(Int×Int)×Int))≤LIM) then
 some (Sum.inl (List.append s8.1 ([List.getD x0.2.2.2.2.1 (Int.toNat (List.getD (List.getD x0.2.2.2.2.2 (Int.toNat x1) []) (Int.toNat s8.2) 0)) (0,(0,(0,((0,0),0))))]:List (Int×Int×Int×(Int×Int)×Int)),IntKind.wrap .i64 (s8.2+1)))
 else none
 else none
 else none
 else
 some (Sum.inr s8.1)) (([]:List (Int×Int×Int×(Int×Int)×Int)),0)).bind fun (j9:List (Int×Int×Int×(Int×Int)×Int))=>
 (F_impl_Cluster_lockedBy x0 j9).bind fun (y10:List Int)=>
 some (0,y10)
 else none
noncomputable def K_impl_LocksAt:Callee:={ ins:=[.v s13 .z,.v (.int .i64) .z],outs:=[(s15,(.p .z (.o .z)))],F:=fun t=>F_impl_LocksAt t.1 t.2.1 }
noncomputable def X_impl_LocksAt:Ctx:={ tys:=tys,fns:=[(15,K_impl_ClusterFault),(78,K_impl_Cluster_isHearer),(91,K_impl_Cluster_lockedBy)],frz:=[],lps:=[(8,(⟨[(2,.keep),(4,.keep),(6,.st (.list s8) (.o .z) false),(24,.keep),(25,.keep),(26,.st (.int .i64) .z false)],[(2,.keep),(4,.keep)]⟩,⟨[((.exit 0),⟨[(2,.keep),(4,.keep),(6,.st (.list s8) (.o .z) false)],[(2,.keep),(4,.keep)]⟩)]⟩))],jns:=[],rjs:=[] }
noncomputable def F_impl_bestOf_c1 (x0:Int) (x1:List (Int×Int×Int)) (x2:Int×Int×Int):Option (Bool):=
 ((F_impl_related x1 x0 x2.1).bind fun (y8:Bool)=>
 bif (!y8) then
 some true
 else
 (F_impl_findNode x1 x0).bind fun (y9:Int)=>
 bif (inB y9 x1) then
 some (decide ((x2.2.2:Int)<(List.getD x1 (Int.toNat y9) (0,(0,0))).2.2))
 else none:Option (Bool)).bind fun (j10:Bool)=>
 some j10
noncomputable def K_impl_bestOf_c1:Callee:={ ins:=[.v (.int .i64) .z,.rp (.list s2) false,.rp s2 false],outs:=[(.bool,.z)],F:=fun t=>F_impl_bestOf_c1 t.1 t.2.1 t.2.2.1 }
noncomputable def X_impl_bestOf_c1:Ctx:={ tys:=tys,fns:=[(67,K_impl_related),(167,K_impl_findNode)],frz:=[],lps:=[],jns:=[],rjs:=[(1,⟨[(4,.st .bool .z false)],[]⟩)] }
noncomputable def F_impl_bestOf (x0:List (Int×Int×Int)) (x1:List Int):Option (Int):=
 (loopO (S:=Int×Int×Int×Int) (X:=Int×Int×Int) (fun (s28:Int×Int×Int×Int)=>
 bif (decide ((s28.1:Int)<(List.length x0:Int))) then
 bif (inB s28.1 x0) then
 (F_slices_ContainsFunc_Lint64_int64 x1 (fun (a29:Int)=>(F_impl_bestOf_c1 a29 x0 (List.getD x0 (Int.toNat s28.1) (0,(0,0)))).bind fun r30=>some r30)).bind fun (y31:Bool)=>
 (bif (!y31) then
 some (decide ((s28.2.2.2:Int)<(List.getD x0 (Int.toNat s28.1) (0,(0,0))).2.2))
 else
 some false:Option (Bool)).bind fun (j32:Bool)=>
 (bif j32 then
 some (List.getD x0 (Int.toNat s28.1) (0,(0,0)))
 else
 some s28.2:Option (Int×Int×Int)).bind fun (j33:Int×Int×Int)=>
 some (Sum.inl (IntKind.wrap .i64 (s28.1+1),j33))
 else none
 else
 some (Sum.inr s28.2)) (0,(0,(0,0)))).bind fun (j34:Int×Int×Int)=>
 some j34.1
noncomputable def K_impl_bestOf:Callee:={ ins:=[.v (.list s2) .z,.v (.list (.int .i64)) .z],outs:=[((.int .i64),.z)],F:=fun t=>F_impl_bestOf t.1 t.2.1 }
noncomputable def X_impl_bestOf:Ctx:={ tys:=tys,fns:=[(81,K_slices_ContainsFunc_Lint64_int64),(179,K_impl_bestOf_c1)],frz:=[],lps:=[(3,(⟨[(1,.keep),(2,.keep),(5,.keep),(10,.keep),(11,.keep),(12,.st (.int .i64) .z false)],[(2,.keep),(5,.st s2 .z false)]⟩,⟨[((.exit 0),⟨[(5,.keep)],[(5,.st s2 .z false)]⟩)]⟩))],jns:=[(7,⟨[(.normal,⟨[(1,.keep),(2,.keep),(5,.keep),(10,.keep),(11,.keep),(12,.keep)],[(2,.keep),(5,.st s2 .z false)]⟩)]⟩)],rjs:=[(6,⟨[(1,.keep),(2,.keep),(5,.keep),(7,.keep),(10,.keep),(11,.keep),(12,.keep),(27,.st .bool .z false)],[(2,.keep),(5,.keep),(7,.keep)]⟩)] }
noncomputable def F_impl_BestOf_c1 (x0:Int) (x1:List (Int×Int×Int)):Option (Bool):=
 (F_impl_isIn x1 x0).bind fun (y2:Bool)=>
 some (!y2)
noncomputable def K_impl_BestOf_c1:Callee:={ ins:=[.v (.int .i64) .z,.rp (.list s2) false],outs:=[(.bool,.z)],F:=fun t=>F_impl_BestOf_c1 t.1 t.2.1 }
noncomputable def X_impl_BestOf_c1:Ctx:={ tys:=tys,fns:=[(137,K_impl_isIn)],frz:=[],lps:=[],jns:=[],rjs:=[] }
noncomputable def F_impl_BestOf (x0:List (Int×Int×Int)) (x1:List Int):Option (Int×Int):=
 (F_impl_TreeFault x0).bind fun (y6:Int)=>
 bif (!decide ((y6:Int)=0)) then
 some (y6,0)
 else
 bif (decide ((20:Int)<(List.length x1:Int))) then
 some (2,0)
 else
 (F_slices_ContainsFunc_Lint64_int64 x1 (fun (a7:Int)=>(F_impl_BestOf_c1 a7 x0).bind fun r8=>some r8)).bind fun (y9:Bool)=>
 bif y9 then
 some (4,0)
 else
 (F_impl_bestOf x0 x1).bind fun (y10:Int)=>
 some (0,y10)
noncomputable def K_impl_BestOf:Callee:={ ins:=[.v (.list s2) .z,.v (.list (.int .i64)) .z],outs:=[(s1,.z)],F:=fun t=>F_impl_BestOf t.1 t.2.1 }
noncomputable def X_impl_BestOf:Ctx:={ tys:=tys,fns:=[(61,K_impl_TreeFault),(81,K_slices_ContainsFunc_Lint64_int64),(151,K_impl_BestOf_c1),(152,K_impl_bestOf)],frz:=[],lps:=[],jns:=[],rjs:=[] }
noncomputable def F_impl_BestFor (x0:(List Int×Int)×List Int×List (Int×Int×Int)×List (Int×Int×List ((Int×Int)×Int))×List (Int×Int×Int×(Int×Int)×Int)×List (List Int)) (x1:Int):Option (Int×Int):=
 (F_impl_LocksAt x0 x1).bind fun (y3:Int×List Int)=>
 bif (!decide ((y3.1:Int)=0)) then
 some (y3.1,0)
 else
 (F_impl_BestOf x0.2.2.1 y3.2).bind fun (y4:Int×Int)=>
 some y4
noncomputable def K_impl_BestFor:Callee:={ ins:=[.v s13 .z,.v (.int .i64) .z],outs:=[(s1,.z)],F:=fun t=>F_impl_BestFor t.1 t.2.1 }
noncomputable def X_impl_BestFor:Ctx:={ tys:=tys,fns:=[(40,K_impl_LocksAt),(94,K_impl_BestOf)],frz:=[],lps:=[],jns:=[],rjs:=[] }
noncomputable def F_spec_l12Known (x0:(List Int×Int)×List Int×List (Int×Int×Int)×List (Int×Int×List ((Int×Int)×Int))×List (Int×Int×Int×(Int×Int)×Int)×List (List Int)) (x1:Int):Option (List (Int×Int×Int×(Int×Int)×Int)):=
 (loopO (S:=List (Int×Int×Int×(Int×Int)×Int)×Int) (X:=List (Int×Int×Int×(Int×Int)×Int)) (fun (s3:List (Int×Int×Int×(Int×Int)×Int)×Int)=>
 bif (inB x1 x0.2.2.2.2.2) then
 bif (decide ((s3.2:Int)<(List.length (List.getD x0.2.2.2.2.2 (Int.toNat x1) []):Int))) then
 bif (inB x1 x0.2.2.2.2.2) then
 bif (inB s3.2 (List.getD x0.2.2.2.2.2 (Int.toNat x1) [])) then
 bif (inB (List.getD (List.getD x0.2.2.2.2.2 (Int.toNat x1) []) (Int.toNat s3.2) 0) x0.2.2.2.2.1) then
 bif decide (List.length s3.1+List.length ([List.getD x0.2.2.2.2.1 (Int.toNat (List.getD (List.getD x0.2.2.2.2.2 (Int.toNat x1) []) (Int.toNat s3.2) 0)) (0,(0,(0,((0,0),0))))]:List (Int×Int×Int×(Int×Int)×Int))≤LIM) then
 some (Sum.inl (List.append s3.1 ([List.getD x0.2.2.2.2.1 (Int.toNat (List.getD (List.getD x0.2.2.2.2.2 (Int.toNat x1) []) (Int.toNat s3.2) 0)) (0,(0,(0,((0,0),0))))]:List (Int×Int×Int×(Int×Int)×Int)),IntKind.wrap .i64 (s3.2+1)))
 else none
 else none
 else none
 else none
 else
 some (Sum.inr s3.1)
 else none) (([]:List (Int×Int×Int×(Int×Int)×Int)),0)).bind fun (j4:List (Int×Int×Int×(Int×Int)×Int))=>
 some j4
noncomputable def K_spec_l12Known:Callee:={ ins:=[.rp s13 false,.v (.int .i64) .z],outs:=[((.list s8),(.o .z))],F:=fun t=>F_spec_l12Known t.1 t.2.1 }
noncomputable def X_spec_l12Known:Ctx:={ tys:=tys,fns:=[],frz:=[],lps:=[(3,(⟨[(0,.keep),(1,.keep),(5,.st (.list s8) (.o .z) false),(6,.st (.int .i64) .z false)],[]⟩,⟨[((.exit 0),⟨[(5,.st (.list s8) (.o .z) false)],[]⟩)]⟩))],jns:=[],rjs:=[] }
noncomputable def F_spec_LocksAt (x0:(List Int×Int)×List Int×List (Int×Int×Int)×List (Int×Int×List ((Int×Int)×Int))×List (Int×Int×Int×(Int×Int)×Int)×List (List Int)) (x1:Int):Option (Int×List Int):=
 (F_spec_l12Fault x0).bind fun (y5:Int)=>
 bif (!decide ((y5:Int)=0)) then
 some (y5,[])
 else
 (F_spec_l1In x1 0 (IntKind.wrap .i64 ((List.length x0.2.2.2.2.2:Int) - 1))).bind fun (y6:Bool)=>
 bif (!y6) then
 some (3,[])
 else
 (F_spec_l12Known x0 x1).bind fun (y7:List (Int×Int×Int×(Int×Int)×Int))=>
 (F_spec_l12Locks x0 y7).bind fun (y8:List Int)=>
 some (0,y8)
noncomputable def K_spec_LocksAt:Callee:={ ins:=[.v s13 .z,.v (.int .i64) .z],outs:=[(s15,(.p .z (.o .z)))],F:=fun t=>F_spec_LocksAt t.1 t.2.1 }
noncomputable def X_spec_LocksAt:Ctx:={ tys:=tys,fns:=[(52,K_spec_l12Fault),(118,K_spec_l1In),(145,K_spec_l12Locks),(153,K_spec_l12Known)],frz:=[],lps:=[],jns:=[],rjs:=[] }
noncomputable def F_spec_l9Fits (x0:List (Int×Int×Int)) (x1:Int×Int×Int) (x2:List Int):Option (Bool):=
 (loopO (S:=Int) (X:=(Unit)⊕(Bool)) (fun (s30:Int)=>
 bif (decide ((s30:Int)<(List.length x2:Int))) then
 (bif (inB s30 x2) then
 (F_spec_l9Related x0 x1.1 (List.getD x2 (Int.toNat s30) 0)).bind fun (y33:Bool)=>
 bif (!y33) then
 some true
 else
 bif (inB s30 x2) then
 (F_spec_l9At x0 (List.getD x2 (Int.toNat s30) 0)).bind fun (y34:Int)=>
 bif (inB y34 x0) then
 some (decide ((x1.2.2:Int)<(List.getD x0 (Int.toNat y34) (0,(0,0))).2.2))
 else none
 else none
 else none:Option (Bool)).bind fun (j35:Bool)=>
 bif j35 then
 some (Sum.inr (Sum.inr false))
 else
 some (Sum.inl (IntKind.wrap .i64 (s30+1)))
 else
 some (Sum.inr (Sum.inl ()))) 0).bind fun (j36:(Unit)⊕(Bool))=>
 Sum.elim (fun (j37:Unit)=>
 some true) (fun (j38:Bool)=>
 some j38) j36
noncomputable def K_spec_l9Fits:Callee:={ ins:=[.v (.list s2) .z,.v s2 .z,.v (.list (.int .i64)) .z],outs:=[(.bool,.z)],F:=fun t=>F_spec_l9Fits t.1 t.2.1 t.2.2.1 }
noncomputable def X_spec_l9Fits:Ctx:={ tys:=tys,fns:=[(87,K_spec_l9Related),(138,K_spec_l9At)],frz:=[],lps:=[(2,(⟨[(0,.keep),(2,.keep),(4,.keep),(7,.st (.int .i64) .z false)],[(4,.keep)]⟩,⟨[((.exit 0),⟨[],[]⟩),(.ret,⟨[(6,.st .bool .z false)],[]⟩)]⟩))],jns:=[],rjs:=[(4,⟨[(0,.keep),(2,.keep),(4,.keep),(7,.keep),(37,.st .bool .z false)],[(4,.keep)]⟩)] }
noncomputable def F_spec_l9Best (x0:List (Int×Int×Int)) (x1:List Int):Option (Int):=
 (loopO (S:=Int×Int) (X:=Int) (fun (s23:Int×Int)=>
 bif (decide ((s23.2:Int)<(List.length x0:Int))) then
 (bif (inB s23.2 x0) then
 (F_spec_l9Fits x0 (List.getD x0 (Int.toNat s23.2) (0,(0,0))) x1).bind fun (y25:Bool)=>
 bif y25 then
 bif (decide ((s23.1:Int)<0)) then
 some true
 else
 bif (inB s23.2 x0) then
 bif (inB s23.1 x0) then
 some (decide (((List.getD x0 (Int.toNat s23.1) (0,(0,0))).2.2:Int)<(List.getD x0 (Int.toNat s23.2) (0,(0,0))).2.2))
 else none
 else none
 else
 some false
 else none:Option (Bool)).bind fun (j26:Bool)=>
 (bif j26 then
 some s23.2
 else
 some s23.1:Option (Int)).bind fun (j27:Int)=>
 some (Sum.inl (j27,IntKind.wrap .i64 (s23.2+1)))
 else
 some (Sum.inr s23.1)) ((-1),0)).bind fun (j28:Int)=>
 bif (decide ((j28:Int)<0)) then
 some 0
 else
 bif (inB j28 x0) then
 some (List.getD x0 (Int.toNat j28) (0,(0,0))).1
 else none
noncomputable def K_spec_l9Best:Callee:={ ins:=[.v (.list s2) .z,.v (.list (.int .i64)) .z],outs:=[((.int .i64),.z)],F:=fun t=>F_spec_l9Best t.1 t.2.1 }
noncomputable def X_spec_l9Best:Ctx:={ tys:=tys,fns:=[(180,K_spec_l9Fits)],frz:=[],lps:=[(3,(⟨[(0,.keep),(1,.keep),(5,.st (.int .i64) .z false),(6,.st (.int .i64) .z false)],[]⟩,⟨[((.exit 0),⟨[(0,.keep),(5,.st (.int .i64) .z false)],[]⟩)]⟩))],jns:=[(6,⟨[(.normal,⟨[(0,.keep),(1,.keep),(5,.st (.int .i64) .z false),(6,.keep)],[]⟩)]⟩)],rjs:=[(5,⟨[(0,.keep),(1,.keep),(5,.keep),(6,.keep),(36,.st .bool .z false)],[]⟩)] }
noncomputable def F_spec_BestOf (x0:List (Int×Int×Int)) (x1:List Int):Option (Int×Int):=
 (F_spec_l9Fault x0).bind fun (y10:Int)=>
 bif (!decide ((y10:Int)=0)) then
 some (y10,0)
 else
 bif (decide ((20:Int)<(List.length x1:Int))) then
 some (2,0)
 else
 (loopO (S:=Int) (X:=(Unit)⊕(Int×Int)) (fun (s13:Int)=>
 bif (decide ((s13:Int)<(List.length x1:Int))) then
 bif (inB s13 x1) then
 (F_spec_l9At x0 (List.getD x1 (Int.toNat s13) 0)).bind fun (y14:Int)=>
 bif (decide ((y14:Int)<0)) then
 some (Sum.inr (Sum.inr (4,0)))
 else
 some (Sum.inl (IntKind.wrap .i64 (s13+1)))
 else none
 else
 some (Sum.inr (Sum.inl ()))) 0).bind fun (j15:(Unit)⊕(Int×Int))=>
 Sum.elim (fun (j16:Unit)=>
 (F_spec_l9Best x0 x1).bind fun (y18:Int)=>
 some (0,y18)) (fun (j17:Int×Int)=>
 some j17) j15
noncomputable def K_spec_BestOf:Callee:={ ins:=[.v (.list s2) .z,.v (.list (.int .i64)) .z],outs:=[(s1,.z)],F:=fun t=>F_spec_BestOf t.1 t.2.1 }
noncomputable def X_spec_BestOf:Ctx:={ tys:=tys,fns:=[(114,K_spec_l9Fault),(138,K_spec_l9At),(154,K_spec_l9Best)],frz:=[],lps:=[(7,(⟨[(0,.keep),(1,.keep),(4,.keep),(6,.st (.int .i64) .z false)],[(4,.keep)]⟩,⟨[((.exit 0),⟨[(0,.keep),(1,.keep),(4,.keep)],[(4,.keep)]⟩),(.ret,⟨[(4,.keep)],[(4,.st s1 .z false)]⟩)]⟩))],jns:=[],rjs:=[] }
noncomputable def F_spec_BestFor (x0:(List Int×Int)×List Int×List (Int×Int×Int)×List (Int×Int×List ((Int×Int)×Int))×List (Int×Int×Int×(Int×Int)×Int)×List (List Int)) (x1:Int):Option (Int×Int):=
 (F_spec_LocksAt x0 x1).bind fun (y3:Int×List Int)=>
 bif (!decide ((y3.1:Int)=0)) then
 some (y3.1,0)
 else
 (F_spec_BestOf x0.2.2.1 y3.2).bind fun (y4:Int×Int)=>
 some y4
noncomputable def K_spec_BestFor:Callee:={ ins:=[.v s13 .z,.v (.int .i64) .z],outs:=[(s1,.z)],F:=fun t=>F_spec_BestFor t.1 t.2.1 }
noncomputable def X_spec_BestFor:Ctx:={ tys:=tys,fns:=[(95,K_spec_LocksAt),(96,K_spec_BestOf)],frz:=[],lps:=[],jns:=[],rjs:=[] }
noncomputable def F_impl_IsAbove (x0:List (Int×Int×Int)) (x1:Int) (x2:Int):Option (Bool):=
 ((F_impl_TreeFault x0).bind fun (y8:Int)=>
 bif (decide ((y8:Int)=0)) then
 (F_impl_isAbove x0 x1 x2).bind fun (y9:Bool)=>
 some y9
 else
 some false:Option (Bool)).bind fun (j10:Bool)=>
 some j10
noncomputable def K_impl_IsAbove:Callee:={ ins:=[.v (.list s2) .z,.v (.int .i64) .z,.v (.int .i64) .z],outs:=[(.bool,.z)],F:=fun t=>F_impl_IsAbove t.1 t.2.1 t.2.2.1 }
noncomputable def X_impl_IsAbove:Ctx:={ tys:=tys,fns:=[(61,K_impl_TreeFault),(97,K_impl_isAbove)],frz:=[],lps:=[],jns:=[],rjs:=[(1,⟨[(6,.st .bool .z false)],[]⟩)] }
noncomputable def F_laws_FnHearers (x0:List Int):Option (Bool):=
 (F_laws_lwBig x0).bind fun (y93:Bool)=>
 bif y93 then
 some true
 else
 (F_laws_lwCluster x0).bind fun (y94:((List Int×Int)×List Int×List (Int×Int×Int)×List (Int×Int×List ((Int×Int)×Int))×List (Int×Int×Int×(Int×Int)×Int)×List (List Int))×Bool)=>
 bif (!y94.2) then
 some false
 else
 (F_impl_LockedBlocks y94.1).bind fun (y95:Int×List Int)=>
 (F_impl_LocksAt y94.1 0).bind fun (y96:Int×List Int)=>
 (F_impl_LocksAt y94.1 1).bind fun (y97:Int×List Int)=>
 (loopO (S:=Int) (X:=(Unit)⊕(Bool)) (fun (s138:Int)=>
 bif (decide ((s138:Int)<(List.length y96.2:Int))) then
 bif (inB s138 y96.2) then
 (F_laws_lwHas y95.2 (List.getD y96.2 (Int.toNat s138) 0)).bind fun (y139:Bool)=>
 bif (!y139) then
 some (Sum.inr (Sum.inr false))
 else
 (loopO (S:=Int) (X:=(Unit)⊕(Bool)) (fun (s150:Int)=>
 bif (decide ((s150:Int)<(List.length y97.2:Int))) then
 ((F_impl_PremiseOf y94.1).bind fun (y153:Bool)=>
 bif y153 then
 bif (inB s138 y96.2) then
 bif (inB s150 y97.2) then
 (F_impl_Related y94.1.2.2.1 (List.getD y96.2 (Int.toNat s138) 0) (List.getD y97.2 (Int.toNat s150) 0)).bind fun (y154:Bool)=>
 some (!y154)
 else none
 else none
 else
 some false:Option (Bool)).bind fun (j155:Bool)=>
 bif j155 then
 some (Sum.inr (Sum.inr false))
 else
 some (Sum.inl (IntKind.wrap .i64 (s150+1)))
 else
 some (Sum.inr (Sum.inl ()))) 0).bind fun (j156:(Unit)⊕(Bool))=>
 Sum.elim (fun (j157:Unit)=>
 some (Sum.inl (IntKind.wrap .i64 (s138+1)))) (fun (j158:Bool)=>
 some (Sum.inr (Sum.inr j158))) j156
 else none
 else
 some (Sum.inr (Sum.inl ()))) 0).bind fun (j159:(Unit)⊕(Bool))=>
 Sum.elim (fun (j160:Unit)=>
 (F_impl_BestFor y94.1 0).bind fun (y162:Int×Int)=>
 (bif (!decide ((y162.1:Int)=0)) then
 some true
 else
 bif (!decide ((y96.1:Int)=0)) then
 some true
 else
 bif (!decide ((y97.1:Int)=0)) then
 some true
 else
 (F_spec_BestFor y94.1 0).bind fun (y164:Int×Int)=>
 some (!decide ((y162.2:Int)=y164.2)):Option (Bool)).bind fun (j165:Bool)=>
 bif j165 then
 some false
 else
 (loopO (S:=Int) (X:=(Unit)⊕(Bool)) (fun (s176:Int)=>
 bif (decide ((s176:Int)<(List.length y96.2:Int))) then
 ((F_impl_PremiseOf y94.1).bind fun (y179:Bool)=>
 bif y179 then
 bif (inB s176 y96.2) then
 (F_impl_IsAbove y94.1.2.2.1 (List.getD y96.2 (Int.toNat s176) 0) y162.2).bind fun (y180:Bool)=>
 some (!y180)
 else none
 else
 some false:Option (Bool)).bind fun (j181:Bool)=>
 bif j181 then
 some (Sum.inr (Sum.inr false))
 else
 some (Sum.inl (IntKind.wrap .i64 (s176+1)))
 else
 some (Sum.inr (Sum.inl ()))) 0).bind fun (j182:(Unit)⊕(Bool))=>
 Sum.elim (fun (j183:Unit)=>
 some (decide (((List.length y94.1.2.2.2.2.2:Int):Int)=2))) (fun (j184:Bool)=>
 some j184) j182) (fun (j161:Bool)=>
 some j161) j159
noncomputable def K_laws_FnHearers:Callee:={ ins:=[.v (.list (.int .u8)) .z],outs:=[(.bool,.z)],F:=fun t=>F_laws_FnHearers t.1 }
noncomputable def X_laws_FnHearers:Ctx:={ tys:=tys,fns:=[(9,K_laws_lwBig),(18,K_laws_lwHas),(19,K_impl_Related),(28,K_impl_PremiseOf),(35,K_laws_lwCluster),(36,K_impl_LockedBlocks),(40,K_impl_LocksAt),(41,K_impl_BestFor),(42,K_spec_BestFor),(43,K_impl_IsAbove)],frz:=[],lps:=[(10,(⟨[(3,.keep),(5,.keep),(6,.keep),(7,.keep),(8,.st (.int .i64) .z false)],[(3,.keep),(5,.keep),(6,.keep),(7,.keep)]⟩,⟨[((.exit 0),⟨[(3,.keep),(6,.keep),(7,.keep)],[(3,.keep),(6,.keep),(7,.keep)]⟩),(.ret,⟨[(2,.st .bool .z false)],[]⟩)]⟩)),
 (15,(⟨[(3,.keep),(5,.keep),(6,.keep),(7,.keep),(8,.keep),(9,.st (.int .i64) .z false)],[(3,.keep),(5,.keep),(6,.keep),(7,.keep)]⟩,⟨[((.exit 2),⟨[(3,.keep),(5,.keep),(6,.keep),(7,.keep),(8,.keep)],[(3,.keep),(5,.keep),(6,.keep),(7,.keep)]⟩),(.ret,⟨[(2,.st .bool .z false)],[]⟩)]⟩)),
 (23,(⟨[(3,.keep),(6,.keep),(10,.keep),(11,.st (.int .i64) .z false)],[(3,.keep),(6,.keep),(10,.keep)]⟩,⟨[((.exit 4),⟨[(3,.keep)],[(3,.keep)]⟩),(.ret,⟨[(2,.st .bool .z false)],[]⟩)]⟩))],jns:=[],rjs:=[(17,⟨[(3,.keep),(5,.keep),(6,.keep),(7,.keep),(8,.keep),(9,.keep),(67,.st .bool .z false)],[(3,.keep),(5,.keep),(6,.keep),(7,.keep)]⟩),
 (20,⟨[(3,.keep),(6,.keep),(10,.keep),(90,.st .bool .z false)],[(3,.keep),(6,.keep),(10,.keep)]⟩),
 (25,⟨[(3,.keep),(6,.keep),(10,.keep),(11,.keep),(112,.st .bool .z false)],[(3,.keep),(6,.keep),(10,.keep)]⟩)] }
end CL
end Go.Dx

