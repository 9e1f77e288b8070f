/- What each function computes, as a function of plain data (F), its parameters (K) and hints for the executor (X); the types -/
import Derived.Test.YtchhjadkiimhgaaDxc
import Derived.Test.YtchhjadkiimhgaaProg
import Derived.KernelRfl
set_option linter.unusedVariables false
set_option linter.unusedSimpArgs false
set_option maxRecDepth 100000
set_option maxHeartbeats 0
namespace Go.Dx
open Go.Proofs
namespace CL
def s0:Sh:=(.prod (.list (.int .i64)) (.int .i64))
def s1:Sh:=(.prod (.int .i64) (.int .i64))
def s2:Sh:=(.prod (.int .i64) s1)
def s3:Sh:=(.prod s1 (.int .i64))
def s4:Sh:=(.prod (.int .i64) (.list s3))
def s5:Sh:=(.prod (.int .i64) s4)
def s6:Sh:=(.prod (.int .i64) s3)
def s7:Sh:=(.prod (.int .i64) s6)
def s8:Sh:=(.prod (.int .i64) s7)
def s9:Sh:=(.prod (.list s8) (.list (.list (.int .i64))))
def s10:Sh:=(.prod (.list s5) s9)
def s11:Sh:=(.prod (.list s2) s10)
def s12:Sh:=(.prod (.list (.int .i64)) s11)
def s13:Sh:=(.prod s0 s12)
def s14:Sh:=(.prod (.int .i64) s13)
def s15:Sh:=(.prod (.int .i64) (.list (.int .i64)))
def s16:Sh:=(.prod (.list (.int .u8)) (.int .i64))
def tys:List (TypeId×TI):=[(2,⟨(.int .i64),8,.int .i64⟩),
 (3,⟨(.int .i64),8,.int .i64⟩),
 (4,⟨.bool,1,.bool⟩),
 (5,⟨(.int .u8),1,.int .u8⟩),
 (22,⟨(.list (.int .u8)),24,.slice 5⟩),
 (24,⟨(.list (.int .i64)),24,.slice 2⟩),
 (26,⟨s0,32,.struct [(0,24),(1,2)]⟩),
 (29,⟨(.list s2),24,.slice 89⟩),
 (30,⟨(.list s5),24,.slice 41⟩),
 (31,⟨(.list s8),24,.slice 92⟩),
 (32,⟨(.list (.list (.int .i64))),24,.slice 24⟩),
 (34,⟨s13,152,.struct [(0,26),(2,24),(3,29),(4,30),(5,31),(6,32)]⟩),
 (36,⟨s14,160,.struct [(0,2),(1,34)]⟩),
 (39,⟨(.list s3),24,.slice 77⟩),
 (41,⟨s5,40,.struct [(0,2),(1,2),(2,39)]⟩),
 (43,⟨s15,32,.struct [(0,2),(1,24)]⟩),
 (60,⟨(.fn2 s5 s5 (.int .i64)),8,.func⟩),
 (70,⟨(.fn1 (.int .i64) .bool .z),8,.func⟩),
 (72,⟨s4,32,.struct [(0,2),(1,39)]⟩),
 (75,⟨s1,16,.struct [(0,2),(1,2)]⟩),
 (77,⟨s3,24,.struct [(0,75),(2,2)]⟩),
 (79,⟨(.fn1 s3 .bool .z),8,.func⟩),
 (81,⟨s16,32,.struct [(0,22),(1,2)]⟩),
 (87,⟨(.fn2 .bool .bool .bool),8,.ptr 34⟩),
 (89,⟨s2,24,.struct [(0,2),(1,2),(2,2)]⟩),
 (92,⟨s8,48,.struct [(0,2),(1,2),(2,2),(3,75),(5,2)]⟩),
 (95,⟨(.fn2 s5 (.int .i64) .bool),8,.func⟩),
 (130,⟨(.fn1 s2 .bool .z),8,.func⟩),
 (132,⟨(.fn1 s5 .bool .z),8,.func⟩)]
def X0:Ctx:={ tys:=tys,fns:=[],frz:=[],lps:=[],jns:=[],rjs:=[] }
theorem ty2:TyOk Try.prog X0 2 ⟨(.int .i64),8,.int .i64⟩:=⟨⟨Try.t2,Try.type2,rfl,by decide,by decide,rfl⟩,⟨Try.underlying2,rfl⟩⟩
theorem ty3:TyOk Try.prog X0 3 ⟨(.int .i64),8,.int .i64⟩:=⟨⟨Try.t3,Try.type3,rfl,by decide,by decide,rfl⟩,⟨Try.underlying3,rfl⟩⟩
theorem ty4:TyOk Try.prog X0 4 ⟨.bool,1,.bool⟩:=⟨⟨Try.t4,Try.type4,rfl,by decide,by decide,rfl⟩,⟨Try.underlying4,rfl⟩⟩
theorem ty5:TyOk Try.prog X0 5 ⟨(.int .u8),1,.int .u8⟩:=⟨⟨Try.t5,Try.type5,rfl,by decide,by decide,rfl⟩,⟨Try.underlying5,rfl⟩⟩
theorem ty22:TyOk Try.prog X0 22 ⟨(.list (.int .u8)),24,.slice 5⟩:=⟨⟨Try.t22,Try.type22,rfl,by decide,by decide,rfl⟩,⟨Try.underlying22,_,rfl,rfl⟩⟩
theorem ty24:TyOk Try.prog X0 24 ⟨(.list (.int .i64)),24,.slice 2⟩:=⟨⟨Try.t24,Try.type24,rfl,by decide,by decide,rfl⟩,⟨Try.underlying24,_,rfl,rfl⟩⟩
theorem ty26:TyOk Try.prog X0 26 ⟨s0,32,.struct [(0,24),(1,2)]⟩:=⟨⟨Try.t26,Try.type26,rfl,by decide,by decide,rfl⟩,⟨⟨_,Try.underlying26,rfl,by simp⟩,⟨_,_,rfl,rfl,⟨_,rfl,rfl⟩,⟨rfl,_,rfl,rfl⟩⟩,by decide,Try.eqGuardType26,Try.stoodInHeld26⟩⟩
theorem ty29:TyOk Try.prog X0 29 ⟨(.list s2),24,.slice 89⟩:=⟨⟨Try.t29,Try.type29,rfl,by decide,by decide,rfl⟩,⟨Try.underlying29,_,rfl,rfl⟩⟩
theorem ty30:TyOk Try.prog X0 30 ⟨(.list s5),24,.slice 41⟩:=⟨⟨Try.t30,Try.type30,rfl,by decide,by decide,rfl⟩,⟨Try.underlying30,_,rfl,rfl⟩⟩
theorem ty31:TyOk Try.prog X0 31 ⟨(.list s8),24,.slice 92⟩:=⟨⟨Try.t31,Try.type31,rfl,by decide,by decide,rfl⟩,⟨Try.underlying31,_,rfl,rfl⟩⟩
theorem ty32:TyOk Try.prog X0 32 ⟨(.list (.list (.int .i64))),24,.slice 24⟩:=⟨⟨Try.t32,Try.type32,rfl,by decide,by decide,rfl⟩,⟨Try.underlying32,_,rfl,rfl⟩⟩
theorem ty34:TyOk Try.prog X0 34 ⟨s13,152,.struct [(0,26),(2,24),(3,29),(4,30),(5,31),(6,32)]⟩:=⟨⟨Try.t34,Try.type34,rfl,by decide,by decide,rfl⟩,⟨⟨_,Try.underlying34,rfl,by simp⟩,⟨_,_,rfl,rfl,⟨_,rfl,rfl⟩,⟨_,_,rfl,rfl,⟨_,rfl,rfl⟩,⟨_,_,rfl,rfl,⟨_,rfl,rfl⟩,⟨_,_,rfl,rfl,⟨_,rfl,rfl⟩,⟨_,_,rfl,rfl,⟨_,rfl,rfl⟩,⟨rfl,_,rfl,rfl⟩⟩⟩⟩⟩⟩,by decide,Try.eqGuardType34,Try.stoodInHeld34⟩⟩
theorem ty36:TyOk Try.prog X0 36 ⟨s14,160,.struct [(0,2),(1,34)]⟩:=⟨⟨Try.t36,Try.type36,rfl,by decide,by decide,rfl⟩,⟨⟨_,Try.underlying36,rfl,by simp⟩,⟨_,_,rfl,rfl,⟨_,rfl,rfl⟩,⟨rfl,_,rfl,rfl⟩⟩,by decide,Try.eqGuardType36,Try.stoodInHeld36⟩⟩
theorem ty39:TyOk Try.prog X0 39 ⟨(.list s3),24,.slice 77⟩:=⟨⟨Try.t39,Try.type39,rfl,by decide,by decide,rfl⟩,⟨Try.underlying39,_,rfl,rfl⟩⟩
theorem ty41:TyOk Try.prog X0 41 ⟨s5,40,.struct [(0,2),(1,2),(2,39)]⟩:=⟨⟨Try.t41,Try.type41,rfl,by decide,by decide,rfl⟩,⟨⟨_,Try.underlying41,rfl,by simp⟩,⟨_,_,rfl,rfl,⟨_,rfl,rfl⟩,⟨_,_,rfl,rfl,⟨_,rfl,rfl⟩,⟨rfl,_,rfl,rfl⟩⟩⟩,by decide,Try.eqGuardType41,Try.stoodInHeld41⟩⟩
theorem ty43:TyOk Try.prog X0 43 ⟨s15,32,.struct [(0,2),(1,24)]⟩:=⟨⟨Try.t43,Try.type43,rfl,by decide,by decide,rfl⟩,⟨⟨_,Try.underlying43,rfl,by simp⟩,⟨_,_,rfl,rfl,⟨_,rfl,rfl⟩,⟨rfl,_,rfl,rfl⟩⟩,by decide,Try.eqGuardType43,Try.stoodInHeld43⟩⟩
theorem ty60:TyOk Try.prog X0 60 ⟨(.fn2 s5 s5 (.int .i64)),8,.func⟩:=⟨⟨Try.t60,Try.type60,rfl,by decide,by decide,trivial⟩,⟨⟨_,_,_,Try.underlying60⟩,.inr ⟨_,_,_,rfl⟩⟩⟩
theorem ty70:TyOk Try.prog X0 70 ⟨(.fn1 (.int .i64) .bool .z),8,.func⟩:=⟨⟨Try.t70,Try.type70,rfl,by decide,by decide,trivial⟩,⟨⟨_,_,_,Try.underlying70⟩,.inl ⟨_,_,_,rfl⟩⟩⟩
theorem ty72:TyOk Try.prog X0 72 ⟨s4,32,.struct [(0,2),(1,39)]⟩:=⟨⟨Try.t72,Try.type72,rfl,by decide,by decide,rfl⟩,⟨⟨_,Try.underlying72,rfl,by simp⟩,⟨_,_,rfl,rfl,⟨_,rfl,rfl⟩,⟨rfl,_,rfl,rfl⟩⟩,by decide,Try.eqGuardType72,Try.stoodInHeld72⟩⟩
theorem ty75:TyOk Try.prog X0 75 ⟨s1,16,.struct [(0,2),(1,2)]⟩:=⟨⟨Try.t75,Try.type75,rfl,by decide,by decide,rfl⟩,⟨⟨_,Try.underlying75,rfl,by simp⟩,⟨_,_,rfl,rfl,⟨_,rfl,rfl⟩,⟨rfl,_,rfl,rfl⟩⟩,by decide,Try.eqGuardType75,Try.stoodInHeld75⟩⟩
theorem ty77:TyOk Try.prog X0 77 ⟨s3,24,.struct [(0,75),(2,2)]⟩:=⟨⟨Try.t77,Try.type77,rfl,by decide,by decide,rfl⟩,⟨⟨_,Try.underlying77,rfl,by simp⟩,⟨_,_,rfl,rfl,⟨_,rfl,rfl⟩,⟨rfl,_,rfl,rfl⟩⟩,by decide,Try.eqGuardType77,Try.stoodInHeld77⟩⟩
theorem ty79:TyOk Try.prog X0 79 ⟨(.fn1 s3 .bool .z),8,.func⟩:=⟨⟨Try.t79,Try.type79,rfl,by decide,by decide,trivial⟩,⟨⟨_,_,_,Try.underlying79⟩,.inl ⟨_,_,_,rfl⟩⟩⟩
theorem ty81:TyOk Try.prog X0 81 ⟨s16,32,.struct [(0,22),(1,2)]⟩:=⟨⟨Try.t81,Try.type81,rfl,by decide,by decide,rfl⟩,⟨⟨_,Try.underlying81,rfl,by simp⟩,⟨_,_,rfl,rfl,⟨_,rfl,rfl⟩,⟨rfl,_,rfl,rfl⟩⟩,by decide,Try.eqGuardType81,Try.stoodInHeld81⟩⟩
theorem ty87:TyOk Try.prog X0 87 ⟨(.fn2 .bool .bool .bool),8,.ptr 34⟩:=⟨⟨Try.t87,Try.type87,rfl,by decide,by decide,trivial⟩,⟨Try.underlying87,rfl⟩⟩
theorem ty89:TyOk Try.prog X0 89 ⟨s2,24,.struct [(0,2),(1,2),(2,2)]⟩:=⟨⟨Try.t89,Try.type89,rfl,by decide,by decide,rfl⟩,⟨⟨_,Try.underlying89,rfl,by simp⟩,⟨_,_,rfl,rfl,⟨_,rfl,rfl⟩,⟨_,_,rfl,rfl,⟨_,rfl,rfl⟩,⟨rfl,_,rfl,rfl⟩⟩⟩,by decide,Try.eqGuardType89,Try.stoodInHeld89⟩⟩
theorem ty92:TyOk Try.prog X0 92 ⟨s8,48,.struct [(0,2),(1,2),(2,2),(3,75),(5,2)]⟩:=⟨⟨Try.t92,Try.type92,rfl,by decide,by decide,rfl⟩,⟨⟨_,Try.underlying92,rfl,by simp⟩,⟨_,_,rfl,rfl,⟨_,rfl,rfl⟩,⟨_,_,rfl,rfl,⟨_,rfl,rfl⟩,⟨_,_,rfl,rfl,⟨_,rfl,rfl⟩,⟨_,_,rfl,rfl,⟨_,rfl,rfl⟩,⟨rfl,_,rfl,rfl⟩⟩⟩⟩⟩,by decide,Try.eqGuardType92,Try.stoodInHeld92⟩⟩
theorem ty95:TyOk Try.prog X0 95 ⟨(.fn2 s5 (.int .i64) .bool),8,.func⟩:=⟨⟨Try.t95,Try.type95,rfl,by decide,by decide,trivial⟩,⟨⟨_,_,_,Try.underlying95⟩,.inr ⟨_,_,_,rfl⟩⟩⟩
theorem ty130:TyOk Try.prog X0 130 ⟨(.fn1 s2 .bool .z),8,.func⟩:=⟨⟨Try.t130,Try.type130,rfl,by decide,by decide,trivial⟩,⟨⟨_,_,_,Try.underlying130⟩,.inl ⟨_,_,_,rfl⟩⟩⟩
theorem ty132:TyOk Try.prog X0 132 ⟨(.fn1 s5 .bool .z),8,.func⟩:=⟨⟨Try.t132,Try.type132,rfl,by decide,by decide,trivial⟩,⟨⟨_,_,_,Try.underlying132⟩,.inl ⟨_,_,_,rfl⟩⟩⟩
theorem tysOk:TysOk Try.prog X0:=tysOk_of ⟨ty2,ty3,ty4,ty5,ty22,ty24,ty26,ty29,ty30,ty31,ty32,ty34,ty36,ty39,ty41,ty43,ty60,ty70,ty72,ty75,ty77,ty79,ty81,ty87,ty89,ty92,ty95,ty130,ty132,trivial⟩
theorem follows:Try.prog.follows .mixedOrders=true:=by kernel_rfl
end CL
end Go.Dx
set_option maxRecDepth 100000
set_option maxHeartbeats 0
namespace Go.Dx
open Go.Proofs
namespace CL

noncomputable def F_laws_lwBig (x0:List Int):Option (Bool):=
 some (decide ((1048576:Int)<(List.length x0:Int)))
noncomputable def K_laws_lwBig:Callee:={ ins:=[.v (.list (.int .u8)) .z],outs:=[(.bool,.z)],F:=fun t=>F_laws_lwBig t.1 }
noncomputable def X_laws_lwBig:Ctx:={ tys:=tys,fns:=[],frz:=[],lps:=[],jns:=[],rjs:=[] }
noncomputable def F_spec_l1Source (x0:List Int):Option (List Int×Int):=
 some (x0,0)
noncomputable def N_spec_l1Source:NewP:={ ins:=[(.list (.int .u8))],out:=s16,F:=fun t=>F_spec_l1Source t.1 }
noncomputable def F_spec_l1Next (x0:List Int×Int) (x1:Int):Option (Int×List Int×Int):=
 bif (decide ((x1:Int)<1)) then
 some (0,(x0.1,IntKind.wrap .i64 (x0.2+1)))
 else
 bif (decide (((List.length x0.1:Int):Int)=0)) then
 bif (!decide (x1=(0:Int))) then
 some (Int.tmod (IntKind.wrap .i64 ((IntKind.wrap .i64 ((IntKind.wrap .i64 (x0.2+1)) - 1)) * 7)) x1,(x0.1,IntKind.wrap .i64 (x0.2+1)))
 else none
 else
 bif (!decide ((List.length x0.1:Int)=(0:Int))) then
 bif (inB (Int.tmod (IntKind.wrap .i64 ((IntKind.wrap .i64 (x0.2+1)) - 1)) (List.length x0.1:Int)) x0.1) then
 bif (!decide ((List.length x0.1:Int)=(0:Int))) then
 (bif (decide ((200:Int)<x1)) then
 bif (!decide ((List.length x0.1:Int)=(0:Int))) then
 bif (inB (Int.tmod (IntKind.wrap .i64 ((IntKind.wrap .i64 ((IntKind.wrap .i64 (x0.2+1)) - 1))+1)) (List.length x0.1:Int)) x0.1) then
 some (IntKind.wrap .i64 ((IntKind.wrap .i64 ((IntKind.wrap .i64 ((IntKind.wrap .i64 ((IntKind.wrap .i64 (List.getD x0.1 (Int.toNat (Int.tmod (IntKind.wrap .i64 ((IntKind.wrap .i64 (x0.2+1)) - 1)) (List.length x0.1:Int))) 0))+(IntKind.wrap .i64 ((IntKind.wrap .i64 (Int.tdiv (IntKind.wrap .i64 ((IntKind.wrap .i64 (x0.2+1)) - 1)) (List.length x0.1:Int))) * 37)))) * 251))+(IntKind.wrap .i64 ((IntKind.wrap .i64 (List.getD x0.1 (Int.toNat (Int.tmod (IntKind.wrap .i64 ((IntKind.wrap .i64 ((IntKind.wrap .i64 (x0.2+1)) - 1))+1)) (List.length x0.1:Int))) 0)) * 13))))+(IntKind.wrap .i64 ((IntKind.wrap .i64 (x0.2+1)) - 1))))
 else none
 else none
 else
 some (IntKind.wrap .i64 ((IntKind.wrap .i64 (List.getD x0.1 (Int.toNat (Int.tmod (IntKind.wrap .i64 ((IntKind.wrap .i64 (x0.2+1)) - 1)) (List.length x0.1:Int))) 0))+(IntKind.wrap .i64 ((IntKind.wrap .i64 (Int.tdiv (IntKind.wrap .i64 ((IntKind.wrap .i64 (x0.2+1)) - 1)) (List.length x0.1:Int))) * 37)))):Option (Int)).bind fun (j2:Int)=>
 bif (!decide (x1=(0:Int))) then
 some (Int.tmod j2 x1,(x0.1,IntKind.wrap .i64 (x0.2+1)))
 else none
 else none
 else none
 else none
noncomputable def K_spec_l1Next:Callee:={ ins:=[.io s16 .z .z,.v (.int .i64) .z],outs:=[((.int .i64),.z)],F:=fun t=>F_spec_l1Next t.1 t.2.1 }
noncomputable def X_spec_l1Next:Ctx:={ tys:=tys,fns:=[],frz:=[],lps:=[],jns:=[(10,⟨[(.normal,⟨[(1,.keep),(7,.st (.int .i64) .z false)],[(71,.keep)]⟩)]⟩)],rjs:=[] }
noncomputable def F_spec_l1Pick (x0:List Int×Int) (x1:List Int):Option (Int×List Int×Int):=
 (F_spec_l1Next x0 (List.length x1:Int)).bind fun (y2:Int×List Int×Int)=>
 bif (inB y2.1 x1) then
 some (List.getD x1 (Int.toNat y2.1) 0,y2.2)
 else none
noncomputable def K_spec_l1Pick:Callee:={ ins:=[.io s16 .z .z,.v (.list (.int .i64)) .z],outs:=[((.int .i64),.z)],F:=fun t=>F_spec_l1Pick t.1 t.2.1 }
noncomputable def X_spec_l1Pick:Ctx:={ tys:=tys,fns:=[(16,K_spec_l1Next)],frz:=[],lps:=[],jns:=[],rjs:=[] }
noncomputable def F_spec_l10DrawKeys (x0:List Int×Int) (x1:Int):Option (List Int×List Int×Int):=
 (loopO (S:=Int×List Int×Int×List Int×Int) (X:=List Int×List Int×Int) (fun (s8:Int×List Int×Int×List Int×Int)=>
 bif (decide ((0:Int)<s8.1)) then
 (F_spec_l1Next s8.2.2.2 3).bind fun (y9:Int×List Int×Int)=>
 bif decide (List.length s8.2.1+List.length ([IntKind.wrap .i64 ((IntKind.wrap .i64 (s8.2.2.1+1))+y9.1)]:List Int)≤LIM) then
 some (Sum.inl (IntKind.wrap .i64 (s8.1 - 1),(List.append s8.2.1 ([IntKind.wrap .i64 ((IntKind.wrap .i64 (s8.2.2.1+1))+y9.1)]:List Int),(IntKind.wrap .i64 ((IntKind.wrap .i64 (s8.2.2.1+1))+y9.1),y9.2))))
 else none
 else
 some (Sum.inr (s8.2.1,s8.2.2.2))) (x1,(([]:List Int),(0,x0)))).bind fun (j10:List Int×List Int×Int)=>
 some (j10.1,j10.2)
noncomputable def K_spec_l10DrawKeys:Callee:={ ins:=[.io s16 .z .z,.v (.int .i64) .z],outs:=[((.list (.int .i64)),(.o .z))],F:=fun t=>F_spec_l10DrawKeys t.1 t.2.1 }
noncomputable def X_spec_l10DrawKeys:Ctx:={ tys:=tys,fns:=[(16,K_spec_l1Next)],frz:=[],lps:=[(3,(⟨[(0,.keep),(1,.st (.int .i64) .z false),(5,.st (.list (.int .i64)) (.o .z) false),(6,.st (.int .i64) .z false)],[(22,.st s16 .z false)]⟩,⟨[((.exit 0),⟨[(5,.st (.list (.int .i64)) (.o .z) false)],[(22,.st s16 .z false)]⟩)]⟩))],jns:=[],rjs:=[] }
noncomputable def F_spec_l10Draw (x0:List Int×Int):Option ((List Int×Int)×List Int×Int):=
 (F_spec_l1Next x0 8).bind fun (y5:Int×List Int×Int)=>
 (F_spec_l10DrawKeys y5.2 (IntKind.wrap .i64 (1+y5.1))).bind fun (y6:List Int×List Int×Int)=>
 (F_spec_l1Next y6.2 (IntKind.wrap .i64 (1+y5.1))).bind fun (y7:Int×List Int×Int)=>
 (F_spec_l1Pick y7.2 ([IntKind.wrap .i64 ((IntKind.wrap .i64 (Int.tdiv (IntKind.wrap .i64 (2 * (IntKind.wrap .i64 (1+y5.1)))) 3))+1),IntKind.wrap .i64 (1+y7.1)]:List Int)).bind fun (y8:Int×List Int×Int)=>
 some ((y6.1,y8.1),y8.2)
noncomputable def K_spec_l10Draw:Callee:={ ins:=[.io s16 .z .z],outs:=[(s0,(.p (.o .z) .z))],F:=fun t=>F_spec_l10Draw t.1 }
noncomputable def X_spec_l10Draw:Ctx:={ tys:=tys,fns:=[(15,K_spec_l10DrawKeys),(16,K_spec_l1Next),(17,K_spec_l1Pick)],frz:=[],lps:=[],jns:=[],rjs:=[] }
noncomputable def F_spec_l10Bent (x0:List Int×Int):Option ((List Int×Int)×List Int×Int):=
 (F_spec_l10Draw x0).bind fun (y16:(List Int×Int)×List Int×Int)=>
 (F_spec_l1Next y16.2 10).bind fun (y17:Int×List Int×Int)=>
 (bif (decide ((y17.1:Int)=0)) then
 (F_spec_l1Pick y17.2 ([0,9,1]:List Int)).bind fun (y24:Int×List Int×Int)=>
 some ((y16.1.1,y24.1),y24.2)
 else
 (bif (decide ((y17.1:Int)=1)) then
 (F_spec_l1Pick y17.2 ([1,1000,999]:List Int)).bind fun (y27:Int×List Int×Int)=>
 bif decide (List.length y16.1.1+List.length ([y27.1]:List Int)≤LIM) then
 some ((List.append y16.1.1 ([y27.1]:List Int),y16.1.2),y27.2)
 else none
 else
 (bif (decide ((y17.1:Int)=2)) then
 some (([]:List Int),y16.1.2)
 else
 some y16.1:Option (List Int×Int)).bind fun (j28:List Int×Int)=>
 some (j28,y17.2):Option ((List Int×Int)×List Int×Int)).bind fun (j29:(List Int×Int)×List Int×Int)=>
 some (j29.1,j29.2):Option ((List Int×Int)×List Int×Int)).bind fun (j30:(List Int×Int)×List Int×Int)=>
 some (j30.1,j30.2)
noncomputable def K_spec_l10Bent:Callee:={ ins:=[.io s16 .z .z],outs:=[(s0,(.p (.o .z) .z))],F:=fun t=>F_spec_l10Bent t.1 }
noncomputable def X_spec_l10Bent:Ctx:={ tys:=tys,fns:=[(16,K_spec_l1Next),(17,K_spec_l1Pick),(42,K_spec_l10Draw)],frz:=[],lps:=[],jns:=[(4,⟨[(.normal,⟨[(2,.keep),(3,.keep)],[(2,.keep),(3,.st s0 (.p (.o .z) .z) false),(28,.st s16 .z false)]⟩)]⟩),
 (6,⟨[(.normal,⟨[(2,.keep),(3,.keep)],[(2,.keep),(3,.st s0 (.p (.o .z) .z) false),(28,.st s16 .z false)]⟩)]⟩),
 (8,⟨[(.normal,⟨[(2,.keep),(3,.keep)],[(2,.keep),(3,.st s0 (.p (.o .z) .z) false),(28,.keep)]⟩)]⟩)],rjs:=[] }
noncomputable def F_spec_DrawNewCluster (x0:List Int):Option ((List Int×Int)×List Int×Int):=
 (F_spec_l1Source x0).bind fun (y12:List Int×Int)=>
 (F_spec_l10Bent y12).bind fun (y13:(List Int×Int)×List Int×Int)=>
 (F_spec_l1Next y13.2 4).bind fun (y14:Int×List Int×Int)=>
 (F_spec_l10DrawKeys y14.2 y14.1).bind fun (y15:List Int×List Int×Int)=>
 (F_spec_l1Next y15.2 12).bind fun (y16:Int×List Int×Int)=>
 (bif (decide ((y16.1:Int)=0)) then
 (F_spec_l1Pick y16.2 ([1,1000]:List Int)).bind fun (y19:Int×List Int×Int)=>
 bif decide (List.length y15.1+List.length ([y19.1]:List Int)≤LIM) then
 some (List.append y15.1 ([y19.1]:List Int),y19.2)
 else none
 else
 (bif (decide ((y16.1:Int)=1)) then
 bif (decide (0≤21)&&decide (21≤(LIM:Int))) then
 some (List.replicate (Int.toNat 21) 0)
 else none
 else
 some y15.1:Option (List Int)).bind fun (j20:List Int)=>
 some (j20,y16.2):Option (List Int×List Int×Int)).bind fun (j21:List Int×List Int×Int)=>
 (F_spec_l1Pick j21.2 ([1,2,4,5,0]:List Int)).bind fun (y22:Int×List Int×Int)=>
 some (y13.1,(j21.1,y22.1))
noncomputable def K_spec_DrawNewCluster:Callee:={ ins:=[.v (.list (.int .u8)) .z],outs:=[(s0,(.p (.o .z) .z)),((.list (.int .i64)),(.o .z)),((.int .i64),.z)],F:=fun t=>F_spec_DrawNewCluster t.1 }
noncomputable def X_spec_DrawNewCluster:Ctx:={ tys:=tys,fns:=[(14,K_spec_l10Bent),(15,K_spec_l10DrawKeys),(16,K_spec_l1Next),(17,K_spec_l1Pick)],frz:=[],lps:=[],jns:=[(6,⟨[(.normal,⟨[(2,.keep),(5,.keep),(6,.keep),(7,.st (.list (.int .i64)) (.o .z) false)],[(2,.keep),(6,.keep),(9,.st s16 .z false)]⟩)]⟩),
 (8,⟨[(.normal,⟨[(2,.keep),(5,.keep),(6,.keep),(7,.st (.list (.int .i64)) (.o .z) false)],[(2,.keep),(6,.keep),(9,.keep)]⟩)]⟩)],rjs:=[],nps:=[(13,N_spec_l1Source)] }
noncomputable def F_impl_within (x0:Int) (x1:Int) (x2:Int):Option (Bool):=
 (bif (decide ((x1:Int)≤x0)) then
 some (decide ((x0:Int)≤x2))
 else
 some false:Option (Bool)).bind fun (j2:Bool)=>
 some j2
noncomputable def K_impl_within:Callee:={ ins:=[.v (.int .i64) .z,.v (.int .i64) .z,.v (.int .i64) .z],outs:=[(.bool,.z)],F:=fun t=>F_impl_within t.1 t.2.1 t.2.2.1 }
noncomputable def X_impl_within:Ctx:={ tys:=tys,fns:=[],frz:=[],lps:=[],jns:=[],rjs:=[(1,⟨[(6,.st .bool .z false)],[]⟩)] }
noncomputable def F_slices_IndexFunc_Lint64_int64 (x0:List Int) (x1:Int→Option Bool):Option (Int):=
 (loopO (S:=Int) (X:=(Unit)⊕(Int)) (fun (s10:Int)=>
 bif (decide ((s10:Int)<(List.length x0:Int))) then
 bif (inB s10 x0) then
 (x1 (List.getD x0 (Int.toNat s10) 0)).bind fun (y11:Bool)=>
 bif y11 then
 some (Sum.inr (Sum.inr s10))
 else
 some (Sum.inl (IntKind.wrap .i64 (s10+1)))
 else none
 else
 some (Sum.inr (Sum.inl ()))) 0).bind fun (j12:(Unit)⊕(Int))=>
 Sum.elim (fun (j13:Unit)=>
 some (-1)) (fun (j14:Int)=>
 some j14) j12
noncomputable def K_slices_IndexFunc_Lint64_int64:Callee:={ ins:=[.v (.list (.int .i64)) .z,.v (.fn1 (.int .i64) .bool .z) .z],outs:=[((.int .i64),.z)],F:=fun t=>F_slices_IndexFunc_Lint64_int64 t.1 t.2.1 }
noncomputable def X_slices_IndexFunc_Lint64_int64:Ctx:={ tys:=tys,fns:=[],frz:=[],lps:=[(2,(⟨[(0,.keep),(1,.keep),(7,.keep),(8,.st (.int .i64) .z false)],[]⟩,⟨[((.exit 0),⟨[],[]⟩),(.ret,⟨[(4,.st (.int .i64) .z false)],[]⟩)]⟩))],jns:=[],rjs:=[] }
noncomputable def F_slices_ContainsFunc_Lint64_int64 (x0:List Int) (x1:Int→Option Bool):Option (Bool):=
 (F_slices_IndexFunc_Lint64_int64 x0 x1).bind fun (y2:Int)=>
 some (decide ((0:Int)≤y2))
noncomputable def K_slices_ContainsFunc_Lint64_int64:Callee:={ ins:=[.v (.list (.int .i64)) .z,.v (.fn1 (.int .i64) .bool .z) .z],outs:=[(.bool,.z)],F:=fun t=>F_slices_ContainsFunc_Lint64_int64 t.1 t.2.1 }
noncomputable def X_slices_ContainsFunc_Lint64_int64:Ctx:={ tys:=tys,fns:=[(62,K_slices_IndexFunc_Lint64_int64)],frz:=[],lps:=[],jns:=[],rjs:=[] }
noncomputable def F_impl_isKey (x0:Int):Option (Bool):=
 (F_impl_within x0 1 999).bind fun (y2:Bool)=>
 some y2
noncomputable def K_impl_isKey:Callee:={ ins:=[.v (.int .i64) .z],outs:=[(.bool,.z)],F:=fun t=>F_impl_isKey t.1 }
noncomputable def X_impl_isKey:Ctx:={ tys:=tys,fns:=[(19,K_impl_within)],frz:=[],lps:=[],jns:=[],rjs:=[] }
noncomputable def F_impl_areKeys_c1 (x0:Int):Option (Bool):=
 (F_impl_isKey x0).bind fun (y2:Bool)=>
 some (!y2)
noncomputable def K_impl_areKeys_c1:Callee:={ ins:=[.v (.int .i64) .z],outs:=[(.bool,.z)],F:=fun t=>F_impl_areKeys_c1 t.1 }
noncomputable def X_impl_areKeys_c1:Ctx:={ tys:=tys,fns:=[(67,K_impl_isKey)],frz:=[],lps:=[],jns:=[],rjs:=[] }
noncomputable def F_impl_areKeys (x0:List Int):Option (Bool):=
 (F_slices_ContainsFunc_Lint64_int64 x0 (fun (a4:Int)=>(F_impl_areKeys_c1 a4).bind fun r5=>some r5)).bind fun (y6:Bool)=>
 some (!y6)
noncomputable def K_impl_areKeys:Callee:={ ins:=[.v (.list (.int .i64)) .z],outs:=[(.bool,.z)],F:=fun t=>F_impl_areKeys t.1 }
noncomputable def X_impl_areKeys:Ctx:={ tys:=tys,fns:=[(36,K_slices_ContainsFunc_Lint64_int64),(66,K_impl_areKeys_c1)],frz:=[],lps:=[],jns:=[],rjs:=[] }
noncomputable def F_impl_isRising (x0:List Int):Option (Bool):=
 (loopO (S:=Int) (X:=(Unit)⊕(Bool)) (fun (s5:Int)=>
 bif (decide ((s5:Int)<(List.length x0:Int))) then
 bif (inB s5 x0) then
 bif (inB (IntKind.wrap .i64 (s5 - 1)) x0) then
 bif (decide ((List.getD x0 (Int.toNat s5) 0:Int)≤List.getD x0 (Int.toNat (IntKind.wrap .i64 (s5 - 1))) 0)) then
 some (Sum.inr (Sum.inr false))
 else
 some (Sum.inl (IntKind.wrap .i64 (s5+1)))
 else none
 else none
 else
 some (Sum.inr (Sum.inl ()))) 1).bind fun (j6:(Unit)⊕(Bool))=>
 Sum.elim (fun (j7:Unit)=>
 some true) (fun (j8:Bool)=>
 some j8) j6
noncomputable def K_impl_isRising:Callee:={ ins:=[.v (.list (.int .i64)) .z],outs:=[(.bool,.z)],F:=fun t=>F_impl_isRising t.1 }
noncomputable def X_impl_isRising:Ctx:={ tys:=tys,fns:=[],frz:=[],lps:=[(2,(⟨[(0,.keep),(3,.st (.int .i64) .z false)],[]⟩,⟨[((.exit 0),⟨[],[]⟩),(.ret,⟨[(2,.st .bool .z false)],[]⟩)]⟩))],jns:=[],rjs:=[] }
noncomputable def F_impl_QuorumFault (x0:List Int×Int):Option (Int):=
 (F_impl_within (List.length x0.1:Int) 1 8).bind fun (y8:Bool)=>
 bif (!y8) then
 some 2
 else
 ((F_impl_areKeys x0.1).bind fun (y11:Bool)=>
 bif (!y11) then
 some true
 else
 (F_impl_within x0.2 1 (List.length x0.1:Int)).bind fun (y12:Bool)=>
 some (!y12):Option (Bool)).bind fun (j13:Bool)=>
 bif j13 then
 some 3
 else
 (F_impl_isRising x0.1).bind fun (y14:Bool)=>
 bif (!y14) then
 some 1
 else
 some 0
noncomputable def K_impl_QuorumFault:Callee:={ ins:=[.v s0 .z],outs:=[((.int .i64),.z)],F:=fun t=>F_impl_QuorumFault t.1 }
noncomputable def X_impl_QuorumFault:Ctx:={ tys:=tys,fns:=[(19,K_impl_within),(43,K_impl_areKeys),(44,K_impl_isRising)],frz:=[],lps:=[],jns:=[],rjs:=[(4,⟨[(1,.keep),(11,.st .bool .z false)],[(1,.keep)]⟩)] }
noncomputable def F_impl_badFault (x0:List Int):Option (Int):=
 (F_impl_areKeys x0).bind fun (y3:Bool)=>
 bif (!y3) then
 some 3
 else
 (F_impl_isRising x0).bind fun (y4:Bool)=>
 bif (!y4) then
 some 1
 else
 some 0
noncomputable def K_impl_badFault:Callee:={ ins:=[.v (.list (.int .i64)) .z],outs:=[((.int .i64),.z)],F:=fun t=>F_impl_badFault t.1 }
noncomputable def X_impl_badFault:Ctx:={ tys:=tys,fns:=[(43,K_impl_areKeys),(44,K_impl_isRising)],frz:=[],lps:=[],jns:=[],rjs:=[] }
noncomputable def F_slices_Clone_Lint64_int64 (x0:List Int):Option (List Int):=
 bif List.isEmpty x0 then
 agree (some ([]:List Int)) (bif decide (List.length ([]:List Int)+List.length x0≤LIM) then
 some (List.append ([]:List Int) x0)
 else none)
 else
 bif decide (List.length ([]:List Int)+List.length x0≤LIM) then
 some (List.append ([]:List Int) x0)
 else none
noncomputable def K_slices_Clone_Lint64_int64:Callee:={ ins:=[.v (.list (.int .i64)) .z],outs:=[((.list (.int .i64)),(.o .z))],F:=fun t=>F_slices_Clone_Lint64_int64 t.1 }
noncomputable def X_slices_Clone_Lint64_int64:Ctx:={ tys:=tys,fns:=[],frz:=[],lps:=[],jns:=[],rjs:=[] }
noncomputable def F_slices_DeleteFunc_Lint64_int64 (x0:List Int) (x1:Int→Option Bool):Option (List Int):=
 (F_slices_IndexFunc_Lint64_int64 x0 x1).bind fun (y10:Int)=>
 bif (decide ((y10:Int)=(-1))) then
 some x0
 else
 (loopO (S:=List Int×Int×Int) (X:=List Int×Int) (fun (s15:List Int×Int×Int)=>
 bif (decide ((s15.2.2:Int)<(List.length s15.1:Int))) then
 bif (inB s15.2.2 s15.1) then
 (x1 (List.getD s15.1 (Int.toNat s15.2.2) 0)).bind fun (y16:Bool)=>
 (bif (!y16) then
 bif (inB s15.2.1 s15.1) then
 some (List.set s15.1 (Int.toNat s15.2.1) (List.getD s15.1 (Int.toNat s15.2.2) 0),IntKind.wrap .i64 (s15.2.1+1))
 else none
 else
 some (s15.1,s15.2.1):Option (List Int×Int)).bind fun (j17:List Int×Int)=>
 some (Sum.inl (j17.1,(j17.2,IntKind.wrap .i64 (s15.2.2+1))))
 else none
 else
 some (Sum.inr (s15.1,s15.2.1))) (x0,(y10,IntKind.wrap .i64 (y10+1)))).bind fun (j18:List Int×Int)=>
 bif (cutOk j18.2 (List.length j18.1:Int) j18.1) then
 bif (cutOk 0 j18.2 (clr (s:=(.int .i64)) j18.2 (List.length j18.1:Int) j18.1)) then
 some (List.take (Int.toNat (j18.2 - 0)) (List.drop (Int.toNat 0) (clr (s:=(.int .i64)) j18.2 (List.length j18.1:Int) j18.1)))
 else none
 else none
noncomputable def K_slices_DeleteFunc_Lint64_int64:Callee:={ ins:=[.v (.list (.int .i64)) (.o .z),.v (.fn1 (.int .i64) .bool .z) .z],outs:=[((.list (.int .i64)),(.o .z))],F:=fun t=>F_slices_DeleteFunc_Lint64_int64 t.1 t.2.1 }
noncomputable def X_slices_DeleteFunc_Lint64_int64:Ctx:={ tys:=tys,fns:=[(62,K_slices_IndexFunc_Lint64_int64)],frz:=[],lps:=[(5,(⟨[(0,.st (.list (.int .i64)) (.o .z) false),(1,.keep),(5,.st (.int .i64) .z false),(6,.st (.int .i64) .z false)],[]⟩,⟨[((.exit 0),⟨[(0,.st (.list (.int .i64)) (.o .z) false),(5,.st (.int .i64) .z false)],[]⟩)]⟩))],jns:=[(9,⟨[(.normal,⟨[(0,.st (.list (.int .i64)) (.o .z) false),(1,.keep),(5,.st (.int .i64) .z false),(6,.keep)],[]⟩)]⟩)],rjs:=[] }
noncomputable def F_slices_Index_Lint64_int64 (x0:List Int) (x1:Int):Option (Int):=
 (loopO (S:=Int) (X:=(Unit)⊕(Int)) (fun (s5:Int)=>
 bif (decide ((s5:Int)<(List.length x0:Int))) then
 bif (inB s5 x0) then
 bif (decide ((x1:Int)=List.getD x0 (Int.toNat s5) 0)) then
 some (Sum.inr (Sum.inr s5))
 else
 some (Sum.inl (IntKind.wrap .i64 (s5+1)))
 else none
 else
 some (Sum.inr (Sum.inl ()))) 0).bind fun (j6:(Unit)⊕(Int))=>
 Sum.elim (fun (j7:Unit)=>
 some (-1)) (fun (j8:Int)=>
 some j8) j6
noncomputable def K_slices_Index_Lint64_int64:Callee:={ ins:=[.v (.list (.int .i64)) .z,.v (.int .i64) .z],outs:=[((.int .i64),.z)],F:=fun t=>F_slices_Index_Lint64_int64 t.1 t.2.1 }
noncomputable def X_slices_Index_Lint64_int64:Ctx:={ tys:=tys,fns:=[],frz:=[],lps:=[(2,(⟨[(0,.keep),(1,.keep),(7,.keep),(8,.st (.int .i64) .z false)],[]⟩,⟨[((.exit 0),⟨[],[]⟩),(.ret,⟨[(4,.st (.int .i64) .z false)],[]⟩)]⟩))],jns:=[],rjs:=[] }
noncomputable def F_slices_Contains_Lint64_int64 (x0:List Int) (x1:Int):Option (Bool):=
 (F_slices_Index_Lint64_int64 x0 x1).bind fun (y2:Int)=>
 some (decide ((0:Int)≤y2))
noncomputable def K_slices_Contains_Lint64_int64:Callee:={ ins:=[.v (.list (.int .i64)) .z,.v (.int .i64) .z],outs:=[(.bool,.z)],F:=fun t=>F_slices_Contains_Lint64_int64 t.1 t.2.1 }
noncomputable def X_slices_Contains_Lint64_int64:Ctx:={ tys:=tys,fns:=[(68,K_slices_Index_Lint64_int64)],frz:=[],lps:=[],jns:=[],rjs:=[] }
noncomputable def F_impl_goodKeys_c1 (x0:Int) (x1:List Int):Option (Bool):=
 (F_slices_Contains_Lint64_int64 x1 x0).bind fun (y2:Bool)=>
 some y2
noncomputable def K_impl_goodKeys_c1:Callee:={ ins:=[.v (.int .i64) .z,.rp (.list (.int .i64)) false],outs:=[(.bool,.z)],F:=fun t=>F_impl_goodKeys_c1 t.1 t.2.1 }
noncomputable def X_impl_goodKeys_c1:Ctx:={ tys:=tys,fns:=[(47,K_slices_Contains_Lint64_int64)],frz:=[],lps:=[],jns:=[],rjs:=[] }
noncomputable def F_impl_goodKeys (x0:List Int×Int) (x1:List Int):Option (List Int):=
 (F_slices_Clone_Lint64_int64 x0.1).bind fun (y5:List Int)=>
 (F_slices_DeleteFunc_Lint64_int64 y5 (fun (a6:Int)=>(F_impl_goodKeys_c1 a6 x1).bind fun r7=>some r7)).bind fun (y8:List Int)=>
 some y8
noncomputable def K_impl_goodKeys:Callee:={ ins:=[.v s0 .z,.v (.list (.int .i64)) .z],outs:=[((.list (.int .i64)),(.o .z))],F:=fun t=>F_impl_goodKeys t.1 t.2.1 }
noncomputable def X_impl_goodKeys:Ctx:={ tys:=tys,fns:=[(21,K_slices_Clone_Lint64_int64),(45,K_slices_DeleteFunc_Lint64_int64),(46,K_impl_goodKeys_c1)],frz:=[],lps:=[],jns:=[],rjs:=[] }
noncomputable def F_slices_SortFunc_Limpl_Voter_impl_Voter (x0:List (Int×Int×List ((Int×Int)×Int))) (x1:(Int×Int×List ((Int×Int)×Int))→(Int×Int×List ((Int×Int)×Int))→Option Int):Option (List (Int×Int×List ((Int×Int)×Int))):=
 sortO x0 x1
noncomputable def K_slices_SortFunc_Limpl_Voter_impl_Voter:Callee:={ ins:=[.mu (.list s5) (.o (.p .z (.p .z (.o .z)))) (.o (.p .z (.p .z (.o .z)))),.v (.fn2 s5 s5 (.int .i64)) .z],outs:=[],F:=fun t=>F_slices_SortFunc_Limpl_Voter_impl_Voter t.1 t.2.1 }
noncomputable def F_cmp_isNaN_int64 (x0:Int):Option (Bool):=
 some (!decide ((x0:Int)=x0))
noncomputable def K_cmp_isNaN_int64:Callee:={ ins:=[.v (.int .i64) .z],outs:=[(.bool,.z)],F:=fun t=>F_cmp_isNaN_int64 t.1 }
noncomputable def X_cmp_isNaN_int64:Ctx:={ tys:=tys,fns:=[],frz:=[],lps:=[],jns:=[],rjs:=[] }
noncomputable def F_cmp_Compare_int64 (x0:Int) (x1:Int):Option (Int):=
 (F_cmp_isNaN_int64 x0).bind fun (y3:Bool)=>
 (F_cmp_isNaN_int64 x1).bind fun (y4:Bool)=>
 bif y3 then
 bif y4 then
 some 0
 else
 some (-1)
 else
 bif y4 then
 some 1
 else
 bif (decide ((x0:Int)<x1)) then
 some (-1)
 else
 bif (decide ((x1:Int)<x0)) then
 some 1
 else
 some 0
noncomputable def K_cmp_Compare_int64:Callee:={ ins:=[.v (.int .i64) .z,.v (.int .i64) .z],outs:=[((.int .i64),.z)],F:=fun t=>F_cmp_Compare_int64 t.1 t.2.1 }
noncomputable def X_cmp_Compare_int64:Ctx:={ tys:=tys,fns:=[(50,K_cmp_isNaN_int64)],frz:=[],lps:=[],jns:=[],rjs:=[] }
noncomputable def F_impl_NewCluster_c1 (x0:Int×Int×List ((Int×Int)×Int)) (x1:Int×Int×List ((Int×Int)×Int)):Option (Int):=
 (F_cmp_Compare_int64 x0.1 x1.1).bind fun (y2:Int)=>
 some y2
noncomputable def K_impl_NewCluster_c1:Callee:={ ins:=[.v s5 .z,.v s5 .z],outs:=[((.int .i64),.z)],F:=fun t=>F_impl_NewCluster_c1 t.1 t.2.1 }
noncomputable def X_impl_NewCluster_c1:Ctx:={ tys:=tys,fns:=[(25,K_cmp_Compare_int64)],frz:=[],lps:=[],jns:=[],rjs:=[] }
noncomputable def F_impl_NewCluster (x0:List Int×Int) (x1:List Int) (x2:Int):Option (Int×(List Int×Int)×List Int×List (Int×Int×Int)×List (Int×Int×List ((Int×Int)×Int))×List (Int×Int×Int×(Int×Int)×Int)×List (List Int)):=
 (F_impl_QuorumFault x0).bind fun (y15:Int)=>
 bif (!decide ((y15:Int)=0)) then
 some (y15,(([],0),([],([],([],([],[]))))))
 else
 (bif (decide ((20:Int)<(List.length x1:Int))) then
 some true
 else
 (F_impl_within x2 1 4).bind fun (y17:Bool)=>
 some (!y17):Option (Bool)).bind fun (j18:Bool)=>
 bif j18 then
 some (2,(([],0),([],([],([],([],[]))))))
 else
 (F_impl_badFault x1).bind fun (y19:Int)=>
 bif (!decide ((y19:Int)=0)) then
 some (y19,(([],0),([],([],([],([],[]))))))
 else
 (F_slices_Clone_Lint64_int64 x0.1).bind fun (y20:List Int)=>
 (F_slices_Clone_Lint64_int64 x1).bind fun (y21:List Int)=>
 bif (decide (0≤x2)&&decide (x2≤(LIM:Int))) then
 (F_impl_goodKeys x0 x1).bind fun (y22:List Int)=>
 (loopO (S:=Int×(List Int×Int)×List Int×List (Int×Int×Int)×List (Int×Int×List ((Int×Int)×Int))×List (Int×Int×Int×(Int×Int)×Int)×List (List Int)) (X:=(List Int×Int)×List Int×List (Int×Int×Int)×List (Int×Int×List ((Int×Int)×Int))×List (Int×Int×Int×(Int×Int)×Int)×List (List Int)) (fun (s23:Int×(List Int×Int)×List Int×List (Int×Int×Int)×List (Int×Int×List ((Int×Int)×Int))×List (Int×Int×Int×(Int×Int)×Int)×List (List Int))=>
 bif (decide ((s23.1:Int)<(List.length y22:Int))) then
 bif (inB s23.1 y22) then
 bif decide (List.length s23.2.2.2.2.1+List.length ([(List.getD y22 (Int.toNat s23.1) 0,(0,[]))]:List (Int×Int×List ((Int×Int)×Int)))≤LIM) then
 some (Sum.inl (IntKind.wrap .i64 (s23.1+1),(s23.2.1,(s23.2.2.1,(s23.2.2.2.1,(List.append s23.2.2.2.2.1 ([(List.getD y22 (Int.toNat s23.1) 0,(0,[]))]:List (Int×Int×List ((Int×Int)×Int))),s23.2.2.2.2.2))))))
 else none
 else none
 else
 some (Sum.inr s23.2)) (0,((y20,x0.2),(y21,([],([],([],List.replicate (Int.toNat x2) []))))))).bind fun (j24:(List Int×Int)×List Int×List (Int×Int×Int)×List (Int×Int×List ((Int×Int)×Int))×List (Int×Int×Int×(Int×Int)×Int)×List (List Int))=>
 (F_slices_SortFunc_Limpl_Voter_impl_Voter j24.2.2.2.1 (fun (a25:Int×Int×List ((Int×Int)×Int)) (a26:Int×Int×List ((Int×Int)×Int))=>(F_impl_NewCluster_c1 a25 a26).bind fun r27=>some r27)).bind fun (y28:List (Int×Int×List ((Int×Int)×Int)))=>
 some (0,(j24.1,(j24.2.1,(j24.2.2.1,(y28,j24.2.2.2.2)))))
 else none
noncomputable def K_impl_NewCluster:Callee:={ ins:=[.v s0 .z,.v (.list (.int .i64)) .z,.v (.int .i64) .z],outs:=[(s14,(.p .z (.p (.p (.o .z) .z) (.p (.o .z) (.p (.o .z) (.p (.o (.p .z (.p .z (.o .z)))) (.p (.o .z) (.o (.o .z)))))))))],F:=fun t=>F_impl_NewCluster t.1 t.2.1 t.2.2.1 }
noncomputable def X_impl_NewCluster:Ctx:={ tys:=tys,fns:=[(18,K_impl_QuorumFault),(19,K_impl_within),(20,K_impl_badFault),(21,K_slices_Clone_Lint64_int64),(22,K_impl_goodKeys),(23,K_slices_SortFunc_Limpl_Voter_impl_Voter),(24,K_impl_NewCluster_c1)],frz:=[],lps:=[(11,(⟨[(6,.keep),(9,.keep),(46,.keep),(47,.keep),(48,.st (.int .i64) .z false)],[(6,.keep),(9,.st s13 (.p (.p (.o .z) .z) (.p (.o .z) (.p (.o .z) (.p (.o (.p .z (.p .z (.o .z)))) (.p (.o .z) (.o (.o .z))))))) false)]⟩,⟨[((.exit 0),⟨[(6,.keep),(9,.keep)],[(6,.keep),(9,.st s13 (.p (.p (.o .z) .z) (.p (.o .z) (.p (.o .z) (.p (.o (.p .z (.p .z (.o .z)))) (.p (.o .z) (.o (.o .z))))))) false)]⟩)]⟩))],jns:=[],rjs:=[(4,⟨[(1,.keep),(2,.keep),(3,.keep),(6,.keep),(25,.st .bool .z false)],[(3,.keep),(6,.keep)]⟩)] }
noncomputable def F_spec_l1In (x0:Int) (x1:Int) (x2:Int):Option (Bool):=
 (bif (decide ((x1:Int)≤x0)) then
 some (decide ((x0:Int)≤x2))
 else
 some false:Option (Bool)).bind fun (j2:Bool)=>
 some j2
noncomputable def K_spec_l1In:Callee:={ ins:=[.v (.int .i64) .z,.v (.int .i64) .z,.v (.int .i64) .z],outs:=[(.bool,.z)],F:=fun t=>F_spec_l1In t.1 t.2.1 t.2.2.1 }
noncomputable def X_spec_l1In:Ctx:={ tys:=tys,fns:=[],frz:=[],lps:=[],jns:=[],rjs:=[(1,⟨[(6,.st .bool .z false)],[]⟩)] }
noncomputable def F_spec_l1Key (x0:Int):Option (Bool):=
 (F_spec_l1In x0 1 999).bind fun (y2:Bool)=>
 some y2
noncomputable def K_spec_l1Key:Callee:={ ins:=[.v (.int .i64) .z],outs:=[(.bool,.z)],F:=fun t=>F_spec_l1Key t.1 }
noncomputable def X_spec_l1Key:Ctx:={ tys:=tys,fns:=[(28,K_spec_l1In)],frz:=[],lps:=[],jns:=[],rjs:=[] }
noncomputable def F_spec_l10Fault (x0:List Int×Int):Option (Int):=
 (F_spec_l1In (List.length x0.1:Int) 1 8).bind fun (y14:Bool)=>
 bif (!y14) then
 some 2
 else
 (loopO (S:=Int) (X:=(Unit)⊕(Int)) (fun (s17:Int)=>
 bif (decide ((s17:Int)<(List.length x0.1:Int))) then
 bif (inB s17 x0.1) then
 (F_spec_l1Key (List.getD x0.1 (Int.toNat s17) 0)).bind fun (y18:Bool)=>
 bif (!y18) then
 some (Sum.inr (Sum.inr 3))
 else
 some (Sum.inl (IntKind.wrap .i64 (s17+1)))
 else none
 else
 some (Sum.inr (Sum.inl ()))) 0).bind fun (j19:(Unit)⊕(Int))=>
 Sum.elim (fun (j20:Unit)=>
 (F_spec_l1In x0.2 1 (List.length x0.1:Int)).bind fun (y22:Bool)=>
 bif (!y22) then
 some 3
 else
 (loopO (S:=Int) (X:=(Unit)⊕(Int)) (fun (s23:Int)=>
 bif (decide ((s23:Int)<(List.length x0.1:Int))) then
 bif (inB s23 x0.1) then
 bif (inB (IntKind.wrap .i64 (s23 - 1)) x0.1) then
 bif (decide ((List.getD x0.1 (Int.toNat s23) 0:Int)≤List.getD x0.1 (Int.toNat (IntKind.wrap .i64 (s23 - 1))) 0)) then
 some (Sum.inr (Sum.inr 1))
 else
 some (Sum.inl (IntKind.wrap .i64 (s23+1)))
 else none
 else none
 else
 some (Sum.inr (Sum.inl ()))) 1).bind fun (j24:(Unit)⊕(Int))=>
 Sum.elim (fun (j25:Unit)=>
 some 0) (fun (j26:Int)=>
 some j26) j24) (fun (j21:Int)=>
 some j21) j19
noncomputable def K_spec_l10Fault:Callee:={ ins:=[.rp s0 false],outs:=[((.int .i64),.z)],F:=fun t=>F_spec_l10Fault t.1 }
noncomputable def X_spec_l10Fault:Ctx:={ tys:=tys,fns:=[(28,K_spec_l1In),(51,K_spec_l1Key)],frz:=[],lps:=[(5,(⟨[(0,.keep),(3,.keep),(4,.st (.int .i64) .z false)],[]⟩,⟨[((.exit 0),⟨[(0,.keep),(3,.keep)],[]⟩),(.ret,⟨[(2,.st (.int .i64) .z false)],[]⟩)]⟩)),
 (12,(⟨[(0,.keep),(5,.st (.int .i64) .z false)],[]⟩,⟨[((.exit 2),⟨[],[]⟩),(.ret,⟨[(2,.st (.int .i64) .z false)],[]⟩)]⟩))],jns:=[],rjs:=[] }
noncomputable def F_spec_l12Err (x0:Int):Option (Int×(List Int×Int)×List Int×List (Int×Int×Int)×List (Int×Int×List ((Int×Int)×Int))×List (Int×Int×Int×(Int×Int)×Int)×List (List Int)):=
 some (x0,(([],0),([],([],([],([],[]))))))
noncomputable def K_spec_l12Err:Callee:={ ins:=[.v (.int .i64) .z],outs:=[(s14,(.p .z (.p (.p (.o .z) .z) (.p (.o .z) (.p (.o .z) (.p (.o (.p .z (.p .z (.o .z)))) (.p (.o .z) (.o (.o .z)))))))))],F:=fun t=>F_spec_l12Err t.1 }
noncomputable def X_spec_l12Err:Ctx:={ tys:=tys,fns:=[],frz:=[],lps:=[],jns:=[],rjs:=[] }
noncomputable def F_spec_l12Bad (x0:List Int):Option (Int):=
 (loopO (S:=Int) (X:=(Unit)⊕(Int)) (fun (s14:Int)=>
 bif (decide ((s14:Int)<(List.length x0:Int))) then
 bif (inB s14 x0) then
 (F_spec_l1Key (List.getD x0 (Int.toNat s14) 0)).bind fun (y15:Bool)=>
 bif (!y15) then
 some (Sum.inr (Sum.inr 3))
 else
 some (Sum.inl (IntKind.wrap .i64 (s14+1)))
 else none
 else
 some (Sum.inr (Sum.inl ()))) 0).bind fun (j16:(Unit)⊕(Int))=>
 Sum.elim (fun (j17:Unit)=>
 (loopO (S:=Int) (X:=(Unit)⊕(Int)) (fun (s19:Int)=>
 bif (decide ((s19:Int)<(List.length x0:Int))) then
 bif (inB s19 x0) then
 bif (inB (IntKind.wrap .i64 (s19 - 1)) x0) then
 bif (decide ((List.getD x0 (Int.toNat s19) 0:Int)≤List.getD x0 (Int.toNat (IntKind.wrap .i64 (s19 - 1))) 0)) then
 some (Sum.inr (Sum.inr 1))
 else
 some (Sum.inl (IntKind.wrap .i64 (s19+1)))
 else none
 else none
 else
 some (Sum.inr (Sum.inl ()))) 1).bind fun (j20:(Unit)⊕(Int))=>
 Sum.elim (fun (j21:Unit)=>
 some 0) (fun (j22:Int)=>
 some j22) j20) (fun (j18:Int)=>
 some j18) j16
noncomputable def K_spec_l12Bad:Callee:={ ins:=[.v (.list (.int .i64)) .z],outs:=[((.int .i64),.z)],F:=fun t=>F_spec_l12Bad t.1 }
noncomputable def X_spec_l12Bad:Ctx:={ tys:=tys,fns:=[(51,K_spec_l1Key)],frz:=[],lps:=[(2,(⟨[(0,.keep),(3,.st (.int .i64) .z false)],[]⟩,⟨[((.exit 0),⟨[(0,.keep)],[]⟩),(.ret,⟨[(2,.st (.int .i64) .z false)],[]⟩)]⟩)),
 (7,(⟨[(0,.keep),(4,.st (.int .i64) .z false)],[]⟩,⟨[((.exit 2),⟨[],[]⟩),(.ret,⟨[(2,.st (.int .i64) .z false)],[]⟩)]⟩))],jns:=[],rjs:=[] }
noncomputable def F_spec_l4Among (x0:List Int) (x1:Int):Option (Bool):=
 (loopO (S:=Int) (X:=(Unit)⊕(Bool)) (fun (s5:Int)=>
 bif (decide ((s5:Int)<(List.length x0:Int))) then
 bif (inB s5 x0) then
 bif (decide ((List.getD x0 (Int.toNat s5) 0:Int)=x1)) then
 some (Sum.inr (Sum.inr true))
 else
 some (Sum.inl (IntKind.wrap .i64 (s5+1)))
 else none
 else
 some (Sum.inr (Sum.inl ()))) 0).bind fun (j6:(Unit)⊕(Bool))=>
 Sum.elim (fun (j7:Unit)=>
 some false) (fun (j8:Bool)=>
 some j8) j6
noncomputable def K_spec_l4Among:Callee:={ ins:=[.v (.list (.int .i64)) .z,.v (.int .i64) .z],outs:=[(.bool,.z)],F:=fun t=>F_spec_l4Among t.1 t.2.1 }
noncomputable def X_spec_l4Among:Ctx:={ tys:=tys,fns:=[],frz:=[],lps:=[(2,(⟨[(0,.keep),(1,.keep),(5,.st (.int .i64) .z false)],[]⟩,⟨[((.exit 0),⟨[],[]⟩),(.ret,⟨[(4,.st .bool .z false)],[]⟩)]⟩))],jns:=[],rjs:=[] }
noncomputable def F_spec_l12Good (x0:List Int×Int) (x1:List Int):Option (List Int):=
 (loopO (S:=List Int×Int) (X:=List Int) (fun (s13:List Int×Int)=>
 bif (decide ((s13.2:Int)<(List.length x0.1:Int))) then
 bif (inB s13.2 x0.1) then
 (F_spec_l4Among x1 (List.getD x0.1 (Int.toNat s13.2) 0)).bind fun (y14:Bool)=>
 (bif (!y14) then
 bif (inB s13.2 x0.1) then
 bif decide (List.length s13.1+List.length ([List.getD x0.1 (Int.toNat s13.2) 0]:List Int)≤LIM) then
 some (List.append s13.1 ([List.getD x0.1 (Int.toNat s13.2) 0]:List Int))
 else none
 else none
 else
 some s13.1:Option (List Int)).bind fun (j15:List Int)=>
 some (Sum.inl (j15,IntKind.wrap .i64 (s13.2+1)))
 else none
 else
 some (Sum.inr s13.1)) (([]:List Int),0)).bind fun (j16:List Int)=>
 some j16
noncomputable def K_spec_l12Good:Callee:={ ins:=[.rp s0 false,.v (.list (.int .i64)) .z],outs:=[((.list (.int .i64)),(.o .z))],F:=fun t=>F_spec_l12Good t.1 t.2.1 }
noncomputable def X_spec_l12Good:Ctx:={ tys:=tys,fns:=[(52,K_spec_l4Among)],frz:=[],lps:=[(3,(⟨[(0,.keep),(1,.keep),(5,.st (.list (.int .i64)) (.o .z) false),(6,.st (.int .i64) .z false)],[]⟩,⟨[((.exit 0),⟨[(5,.st (.list (.int .i64)) (.o .z) false)],[]⟩)]⟩))],jns:=[(6,⟨[(.normal,⟨[(0,.keep),(1,.keep),(5,.st (.list (.int .i64)) (.o .z) false),(6,.keep)],[]⟩)]⟩)],rjs:=[] }
noncomputable def F_spec_NewCluster (x0:List Int×Int) (x1:List Int) (x2:Int):Option (Int×(List Int×Int)×List Int×List (Int×Int×Int)×List (Int×Int×List ((Int×Int)×Int))×List (Int×Int×Int×(Int×Int)×Int)×List (List Int)):=
 (F_spec_l10Fault x0).bind fun (y12:Int)=>
 bif (!decide ((y12:Int)=0)) then
 (F_spec_l12Err y12).bind fun (y13:Int×(List Int×Int)×List Int×List (Int×Int×Int)×List (Int×Int×List ((Int×Int)×Int))×List (Int×Int×Int×(Int×Int)×Int)×List (List Int))=>
 some y13
 else
 (bif (decide ((20:Int)<(List.length x1:Int))) then
 some true
 else
 (F_spec_l1In x2 1 4).bind fun (y15:Bool)=>
 some (!y15):Option (Bool)).bind fun (j16:Bool)=>
 bif j16 then
 (F_spec_l12Err 2).bind fun (y17:Int×(List Int×Int)×List Int×List (Int×Int×Int)×List (Int×Int×List ((Int×Int)×Int))×List (Int×Int×Int×(Int×Int)×Int)×List (List Int))=>
 some y17
 else
 (F_spec_l12Bad x1).bind fun (y18:Int)=>
 bif (!decide ((y18:Int)=0)) then
 (F_spec_l12Err y18).bind fun (y19:Int×(List Int×Int)×List Int×List (Int×Int×Int)×List (Int×Int×List ((Int×Int)×Int))×List (Int×Int×Int×(Int×Int)×Int)×List (List Int))=>
 some y19
 else
 bif decide (List.length ([]:List Int)+List.length x0.1≤LIM) then
 bif decide (List.length ([]:List Int)+List.length x1≤LIM) then
 bif (decide (0≤x2)&&decide (x2≤(LIM:Int))) then
 (F_spec_l12Good x0 x1).bind fun (y20:List Int)=>
 (loopO (S:=Int×(List Int×Int)×List Int×List (Int×Int×Int)×List (Int×Int×List ((Int×Int)×Int))×List (Int×Int×Int×(Int×Int)×Int)×List (List Int)) (X:=(List Int×Int)×List Int×List (Int×Int×Int)×List (Int×Int×List ((Int×Int)×Int))×List (Int×Int×Int×(Int×Int)×Int)×List (List Int)) (fun (s21:Int×(List Int×Int)×List Int×List (Int×Int×Int)×List (Int×Int×List ((Int×Int)×Int))×List (Int×Int×Int×(Int×Int)×Int)×List (List Int))=>
 bif (decide ((s21.1:Int)<(List.length y20:Int))) then
 bif (inB s21.1 y20) then
 bif decide (List.length s21.2.2.2.2.1+List.length ([(List.getD y20 (Int.toNat s21.1) 0,(0,[]))]:List (Int×Int×List ((Int×Int)×Int)))≤LIM) then
 some (Sum.inl (IntKind.wrap .i64 (s21.1+1),(s21.2.1,(s21.2.2.1,(s21.2.2.2.1,(List.append s21.2.2.2.2.1 ([(List.getD y20 (Int.toNat s21.1) 0,(0,[]))]:List (Int×Int×List ((Int×Int)×Int))),s21.2.2.2.2.2))))))
 else none
 else none
 else
 some (Sum.inr s21.2)) (0,((List.append ([]:List Int) x0.1,x0.2),(List.append ([]:List Int) x1,([],([],([],List.replicate (Int.toNat x2) []))))))).bind fun (j22:(List Int×Int)×List Int×List (Int×Int×Int)×List (Int×Int×List ((Int×Int)×Int))×List (Int×Int×Int×(Int×Int)×Int)×List (List Int))=>
 some (0,j22)
 else none
 else none
 else none
noncomputable def K_spec_NewCluster:Callee:={ ins:=[.v s0 .z,.v (.list (.int .i64)) .z,.v (.int .i64) .z],outs:=[(s14,(.p .z (.p (.p (.o .z) .z) (.p (.o .z) (.p (.o .z) (.p (.o (.p .z (.p .z (.o .z)))) (.p (.o .z) (.o (.o .z)))))))))],F:=fun t=>F_spec_NewCluster t.1 t.2.1 t.2.2.1 }
noncomputable def X_spec_NewCluster:Ctx:={ tys:=tys,fns:=[(26,K_spec_l10Fault),(27,K_spec_l12Err),(28,K_spec_l1In),(29,K_spec_l12Bad),(30,K_spec_l12Good)],frz:=[],lps:=[(12,(⟨[(6,.keep),(9,.keep),(10,.keep),(11,.st (.int .i64) .z false)],[(6,.keep),(9,.st s13 (.p (.p (.o .z) .z) (.p (.o .z) (.p (.o .z) (.p (.o (.p .z (.p .z (.o .z)))) (.p (.o .z) (.o (.o .z))))))) false)]⟩,⟨[((.exit 0),⟨[(6,.keep),(9,.keep)],[(6,.keep),(9,.st s13 (.p (.p (.o .z) .z) (.p (.o .z) (.p (.o .z) (.p (.o (.p .z (.p .z (.o .z)))) (.p (.o .z) (.o (.o .z))))))) false)]⟩)]⟩))],jns:=[],rjs:=[(4,⟨[(1,.keep),(2,.keep),(3,.keep),(6,.keep),(24,.st .bool .z false)],[(3,.keep),(6,.keep)]⟩)] }
noncomputable def F_laws_lwHas (x0:List Int) (x1:Int):Option (Bool):=
 (loopO (S:=Int) (X:=(Unit)⊕(Bool)) (fun (s5:Int)=>
 bif (decide ((s5:Int)<(List.length x0:Int))) then
 bif (inB s5 x0) then
 bif (decide ((List.getD x0 (Int.toNat s5) 0:Int)=x1)) then
 some (Sum.inr (Sum.inr true))
 else
 some (Sum.inl (IntKind.wrap .i64 (s5+1)))
 else none
 else
 some (Sum.inr (Sum.inl ()))) 0).bind fun (j6:(Unit)⊕(Bool))=>
 Sum.elim (fun (j7:Unit)=>
 some false) (fun (j8:Bool)=>
 some j8) j6
noncomputable def K_laws_lwHas:Callee:={ ins:=[.v (.list (.int .i64)) .z,.v (.int .i64) .z],outs:=[(.bool,.z)],F:=fun t=>F_laws_lwHas t.1 t.2.1 }
noncomputable def X_laws_lwHas:Ctx:={ tys:=tys,fns:=[],frz:=[],lps:=[(2,(⟨[(0,.keep),(1,.keep),(5,.st (.int .i64) .z false)],[]⟩,⟨[((.exit 0),⟨[],[]⟩),(.ret,⟨[(4,.st .bool .z false)],[]⟩)]⟩))],jns:=[],rjs:=[] }
noncomputable def F_slices_IndexFunc_Limpl_Node_impl_Node (x0:List (Int×Int×Int)) (x1:(Int×Int×Int)→Option Bool):Option (Int):=
 (loopO (S:=Int) (X:=(Unit)⊕(Int)) (fun (s10:Int)=>
 bif (decide ((s10:Int)<(List.length x0:Int))) then
 bif (inB s10 x0) then
 (x1 (List.getD x0 (Int.toNat s10) (0,(0,0)))).bind fun (y11:Bool)=>
 bif y11 then
 some (Sum.inr (Sum.inr s10))
 else
 some (Sum.inl (IntKind.wrap .i64 (s10+1)))
 else none
 else
 some (Sum.inr (Sum.inl ()))) 0).bind fun (j12:(Unit)⊕(Int))=>
 Sum.elim (fun (j13:Unit)=>
 some (-1)) (fun (j14:Int)=>
 some j14) j12
noncomputable def K_slices_IndexFunc_Limpl_Node_impl_Node:Callee:={ ins:=[.v (.list s2) .z,.v (.fn1 s2 .bool .z) .z],outs:=[((.int .i64),.z)],F:=fun t=>F_slices_IndexFunc_Limpl_Node_impl_Node t.1 t.2.1 }
noncomputable def X_slices_IndexFunc_Limpl_Node_impl_Node:Ctx:={ tys:=tys,fns:=[],frz:=[],lps:=[(2,(⟨[(0,.keep),(1,.keep),(7,.keep),(8,.st (.int .i64) .z false)],[]⟩,⟨[((.exit 0),⟨[],[]⟩),(.ret,⟨[(4,.st (.int .i64) .z false)],[]⟩)]⟩))],jns:=[],rjs:=[] }
noncomputable def F_impl_findNode_c1 (x0:Int×Int×Int) (x1:Int):Option (Bool):=
 some (decide ((x0.1:Int)=x1))
noncomputable def K_impl_findNode_c1:Callee:={ ins:=[.v s2 .z,.rp (.int .i64) false],outs:=[(.bool,.z)],F:=fun t=>F_impl_findNode_c1 t.1 t.2.1 }
noncomputable def X_impl_findNode_c1:Ctx:={ tys:=tys,fns:=[],frz:=[],lps:=[],jns:=[],rjs:=[] }
noncomputable def F_impl_findNode (x0:List (Int×Int×Int)) (x1:Int):Option (Int):=
 (F_slices_IndexFunc_Limpl_Node_impl_Node x0 (fun (a4:Int×Int×Int)=>(F_impl_findNode_c1 a4 x1).bind fun r5=>some r5)).bind fun (y6:Int)=>
 some y6
noncomputable def K_impl_findNode:Callee:={ ins:=[.v (.list s2) .z,.v (.int .i64) .z],outs:=[((.int .i64),.z)],F:=fun t=>F_impl_findNode t.1 t.2.1 }
noncomputable def X_impl_findNode:Ctx:={ tys:=tys,fns:=[(93,K_slices_IndexFunc_Limpl_Node_impl_Node),(94,K_impl_findNode_c1)],frz:=[],lps:=[],jns:=[],rjs:=[] }
noncomputable def F_impl_isId (x0:Int):Option (Bool):=
 (F_impl_within x0 1 60).bind fun (y2:Bool)=>
 some y2
noncomputable def K_impl_isId:Callee:={ ins:=[.v (.int .i64) .z],outs:=[(.bool,.z)],F:=fun t=>F_impl_isId t.1 }
noncomputable def X_impl_isId:Ctx:={ tys:=tys,fns:=[(19,K_impl_within)],frz:=[],lps:=[],jns:=[],rjs:=[] }
noncomputable def F_impl_nodeFault (x0:List (Int×Int×Int)) (x1:Int×Int×Int):Option (Int):=
 (F_impl_findNode x0 x1.2.1).bind fun (y11:Int)=>
 (bif (!decide ((x1.2.1:Int)=0)) then
 some (decide ((0:Int)≤y11))
 else
 some false:Option (Bool)).bind fun (j12:Bool)=>
 (bif j12 then
 bif (inB y11 x0) then
 some (IntKind.wrap .i64 ((List.getD x0 (Int.toNat y11) (0,(0,0))).2.2+1))
 else none
 else
 some 1:Option (Int)).bind fun (j13:Int)=>
 ((F_impl_isId x1.1).bind fun (y16:Bool)=>
 bif (!y16) then
 some true
 else
 (F_impl_within x1.2.2 1 40).bind fun (y17:Bool)=>
 some (!y17):Option (Bool)).bind fun (j18:Bool)=>
 bif j18 then
 some 3
 else
 (F_impl_findNode x0 x1.1).bind fun (y19:Int)=>
 bif (decide ((0:Int)≤y19)) then
 some 7
 else
 (bif (!decide ((x1.2.1:Int)=0)) then
 some (decide ((y11:Int)<0))
 else
 some false:Option (Bool)).bind fun (j20:Bool)=>
 bif j20 then
 some 4
 else
 bif (!decide ((x1.2.2:Int)=j13)) then
 some 1
 else
 some 0
noncomputable def K_impl_nodeFault:Callee:={ ins:=[.v (.list s2) .z,.v s2 .z],outs:=[((.int .i64),.z)],F:=fun t=>F_impl_nodeFault t.1 t.2.1 }
noncomputable def X_impl_nodeFault:Ctx:={ tys:=tys,fns:=[(19,K_impl_within),(79,K_impl_findNode),(80,K_impl_isId)],frz:=[],lps:=[],jns:=[(4,⟨[(.normal,⟨[(0,.keep),(3,.keep),(5,.st (.int .i64) .z false),(6,.keep)],[(3,.keep)]⟩)]⟩)],rjs:=[(3,⟨[(0,.keep),(3,.keep),(5,.keep),(6,.keep),(17,.st .bool .z false)],[(3,.keep)]⟩),
 (5,⟨[(0,.keep),(3,.keep),(5,.keep),(6,.keep),(24,.st .bool .z false)],[(3,.keep)]⟩),
 (9,⟨[(3,.keep),(5,.keep),(41,.st .bool .z false)],[(3,.keep)]⟩)] }
noncomputable def F_impl_TreeFault (x0:List (Int×Int×Int)):Option (Int):=
 bif (decide ((60:Int)<(List.length x0:Int))) then
 some 2
 else
 (loopO (S:=Int) (X:=(Unit)⊕(Int)) (fun (s10:Int)=>
 bif (decide ((s10:Int)<(List.length x0:Int))) then
 bif (inB s10 x0) then
 bif (cutOk 0 s10 x0) then
 (F_impl_nodeFault (cut 0 s10 x0) (List.getD x0 (Int.toNat s10) (0,(0,0)))).bind fun (y11:Int)=>
 bif (!decide ((y11:Int)=0)) then
 some (Sum.inr (Sum.inr y11))
 else
 some (Sum.inl (IntKind.wrap .i64 (s10+1)))
 else none
 else none
 else
 some (Sum.inr (Sum.inl ()))) 0).bind fun (j12:(Unit)⊕(Int))=>
 Sum.elim (fun (j13:Unit)=>
 some 0) (fun (j14:Int)=>
 some j14) j12
noncomputable def K_impl_TreeFault:Callee:={ ins:=[.v (.list s2) .z],outs:=[((.int .i64),.z)],F:=fun t=>F_impl_TreeFault t.1 }
noncomputable def X_impl_TreeFault:Ctx:={ tys:=tys,fns:=[(54,K_impl_nodeFault)],frz:=[],lps:=[(4,(⟨[(0,.keep),(9,.keep),(10,.keep),(11,.st (.int .i64) .z false)],[]⟩,⟨[((.exit 0),⟨[],[]⟩),(.ret,⟨[(2,.st (.int .i64) .z false)],[]⟩)]⟩))],jns:=[],rjs:=[] }
noncomputable def F_slices_EqualFunc_Limpl_Voter_Lint64_impl_Voter_int64 (x0:List (Int×Int×List ((Int×Int)×Int))) (x1:List Int) (x2:(Int×Int×List ((Int×Int)×Int))→Int→Option Bool):Option (Bool):=
 bif (!decide (((List.length x0:Int):Int)=(List.length x1:Int))) then
 some false
 else
 (loopO (S:=Int) (X:=(Unit)⊕(Bool)) (fun (s10:Int)=>
 bif (decide ((s10:Int)<(List.length x0:Int))) then
 bif (inB s10 x0) then
 bif (inB s10 x1) then
 (x2 (List.getD x0 (Int.toNat s10) (0,(0,[]))) (List.getD x1 (Int.toNat s10) 0)).bind fun (y11:Bool)=>
 bif (!y11) then
 some (Sum.inr (Sum.inr false))
 else
 some (Sum.inl (IntKind.wrap .i64 (s10+1)))
 else none
 else none
 else
 some (Sum.inr (Sum.inl ()))) 0).bind fun (j12:(Unit)⊕(Bool))=>
 Sum.elim (fun (j13:Unit)=>
 some true) (fun (j14:Bool)=>
 some j14) j12
noncomputable def K_slices_EqualFunc_Limpl_Voter_Lint64_impl_Voter_int64:Callee:={ ins:=[.v (.list s5) .z,.v (.list (.int .i64)) .z,.v (.fn2 s5 (.int .i64) .bool) .z],outs:=[(.bool,.z)],F:=fun t=>F_slices_EqualFunc_Limpl_Voter_Lint64_impl_Voter_int64 t.1 t.2.1 t.2.2.1 }
noncomputable def X_slices_EqualFunc_Limpl_Voter_Lint64_impl_Voter_int64:Ctx:={ tys:=tys,fns:=[],frz:=[],lps:=[(4,(⟨[(1,.keep),(2,.keep),(15,.keep),(16,.keep),(17,.st (.int .i64) .z false)],[]⟩,⟨[((.exit 0),⟨[],[]⟩),(.ret,⟨[(6,.st .bool .z false)],[]⟩)]⟩))],jns:=[],rjs:=[] }
noncomputable def F_impl_Cluster_votersFault_c1 (x0:Int×Int×List ((Int×Int)×Int)) (x1:Int):Option (Bool):=
 some (decide ((x0.1:Int)=x1))
noncomputable def K_impl_Cluster_votersFault_c1:Callee:={ ins:=[.v s5 .z,.v (.int .i64) .z],outs:=[(.bool,.z)],F:=fun t=>F_impl_Cluster_votersFault_c1 t.1 t.2.1 }
noncomputable def X_impl_Cluster_votersFault_c1:Ctx:={ tys:=tys,fns:=[],frz:=[],lps:=[],jns:=[],rjs:=[] }
noncomputable def F_slices_IndexFunc_Limpl_Choice_impl_Choice (x0:List ((Int×Int)×Int)) (x1:((Int×Int)×Int)→Option Bool):Option (Int):=
 (loopO (S:=Int) (X:=(Unit)⊕(Int)) (fun (s10:Int)=>
 bif (decide ((s10:Int)<(List.length x0:Int))) then
 bif (inB s10 x0) then
 (x1 (List.getD x0 (Int.toNat s10) ((0,0),0))).bind fun (y11:Bool)=>
 bif y11 then
 some (Sum.inr (Sum.inr s10))
 else
 some (Sum.inl (IntKind.wrap .i64 (s10+1)))
 else none
 else
 some (Sum.inr (Sum.inl ()))) 0).bind fun (j12:(Unit)⊕(Int))=>
 Sum.elim (fun (j13:Unit)=>
 some (-1)) (fun (j14:Int)=>
 some j14) j12
noncomputable def K_slices_IndexFunc_Limpl_Choice_impl_Choice:Callee:={ ins:=[.v (.list s3) .z,.v (.fn1 s3 .bool .z) .z],outs:=[((.int .i64),.z)],F:=fun t=>F_slices_IndexFunc_Limpl_Choice_impl_Choice t.1 t.2.1 }
noncomputable def X_slices_IndexFunc_Limpl_Choice_impl_Choice:Ctx:={ tys:=tys,fns:=[],frz:=[],lps:=[(2,(⟨[(0,.keep),(1,.keep),(7,.keep),(8,.st (.int .i64) .z false)],[]⟩,⟨[((.exit 0),⟨[],[]⟩),(.ret,⟨[(4,.st (.int .i64) .z false)],[]⟩)]⟩))],jns:=[],rjs:=[] }
noncomputable def F_slices_ContainsFunc_Limpl_Choice_impl_Choice (x0:List ((Int×Int)×Int)) (x1:((Int×Int)×Int)→Option Bool):Option (Bool):=
 (F_slices_IndexFunc_Limpl_Choice_impl_Choice x0 x1).bind fun (y2:Int)=>
 some (decide ((0:Int)≤y2))
noncomputable def K_slices_ContainsFunc_Limpl_Choice_impl_Choice:Callee:={ ins:=[.v (.list s3) .z,.v (.fn1 s3 .bool .z) .z],outs:=[(.bool,.z)],F:=fun t=>F_slices_ContainsFunc_Limpl_Choice_impl_Choice t.1 t.2.1 }
noncomputable def X_slices_ContainsFunc_Limpl_Choice_impl_Choice:Ctx:={ tys:=tys,fns:=[(65,K_slices_IndexFunc_Limpl_Choice_impl_Choice)],frz:=[],lps:=[],jns:=[],rjs:=[] }
noncomputable def F_impl_isRef (x0:Int×Int):Option (Bool):=
 ((F_impl_isId x0.1).bind fun (y8:Bool)=>
 bif y8 then
 (F_impl_within x0.2 0 3).bind fun (y9:Bool)=>
 some y9
 else
 some false:Option (Bool)).bind fun (j10:Bool)=>
 some j10
noncomputable def K_impl_isRef:Callee:={ ins:=[.v s1 .z],outs:=[(.bool,.z)],F:=fun t=>F_impl_isRef t.1 }
noncomputable def X_impl_isRef:Ctx:={ tys:=tys,fns:=[(19,K_impl_within),(80,K_impl_isId)],frz:=[],lps:=[],jns:=[],rjs:=[(1,⟨[(2,.st .bool .z false)],[]⟩)] }
noncomputable def F_impl_VoterFault_c1 (x0:(Int×Int)×Int) (x1:(Int×Int)×Int):Option (Bool):=
 some (Sh.beq (.prod (.int .i64) (.int .i64)) x0.1 x1.1)
noncomputable def K_impl_VoterFault_c1:Callee:={ ins:=[.v s3 .z,.rp s3 false],outs:=[(.bool,.z)],F:=fun t=>F_impl_VoterFault_c1 t.1 t.2.1 }
noncomputable def X_impl_VoterFault_c1:Ctx:={ tys:=tys,fns:=[],frz:=[],lps:=[],jns:=[],rjs:=[] }
noncomputable def F_impl_VoterFault (x0:Int×Int×List ((Int×Int)×Int)):Option (Int):=
 ((F_impl_isKey x0.1).bind fun (y36:Bool)=>
 bif (!y36) then
 some true
 else
 (F_impl_within x0.2.1 0 60).bind fun (y37:Bool)=>
 some (!y37):Option (Bool)).bind fun (j38:Bool)=>
 bif j38 then
 some 3
 else
 bif (decide ((40:Int)<(List.length x0.2.2:Int))) then
 some 2
 else
 (loopO (S:=Int) (X:=(Unit)⊕(Int)) (fun (s55:Int)=>
 bif (decide ((s55:Int)<(List.length x0.2.2:Int))) then
 bif (inB s55 x0.2.2) then
 ((F_impl_isRef (List.getD x0.2.2 (Int.toNat s55) ((0,0),0)).1).bind fun (y58:Bool)=>
 bif (!y58) then
 some true
 else
 (F_impl_isId (List.getD x0.2.2 (Int.toNat s55) ((0,0),0)).2).bind fun (y59:Bool)=>
 some (!y59):Option (Bool)).bind fun (j60:Bool)=>
 bif j60 then
 some (Sum.inr (Sum.inr 3))
 else
 bif (cutOk 0 s55 x0.2.2) then
 (F_slices_ContainsFunc_Limpl_Choice_impl_Choice (cut 0 s55 x0.2.2) (fun (a61:(Int×Int)×Int)=>(F_impl_VoterFault_c1 a61 (List.getD x0.2.2 (Int.toNat s55) ((0,0),0))).bind fun r62=>some r62)).bind fun (y63:Bool)=>
 bif y63 then
 some (Sum.inr (Sum.inr 7))
 else
 some (Sum.inl (IntKind.wrap .i64 (s55+1)))
 else none
 else none
 else
 some (Sum.inr (Sum.inl ()))) 0).bind fun (j64:(Unit)⊕(Int))=>
 Sum.elim (fun (j65:Unit)=>
 some 0) (fun (j66:Int)=>
 some j66) j64
noncomputable def K_impl_VoterFault:Callee:={ ins:=[.v s5 .z],outs:=[((.int .i64),.z)],F:=fun t=>F_impl_VoterFault t.1 }
noncomputable def X_impl_VoterFault:Ctx:={ tys:=tys,fns:=[(19,K_impl_within),(40,K_slices_ContainsFunc_Limpl_Choice_impl_Choice),(67,K_impl_isKey),(80,K_impl_isId),(81,K_impl_isRef),(82,K_impl_VoterFault_c1)],frz:=[],lps:=[(6,(⟨[(1,.keep),(22,.keep),(23,.keep),(24,.st (.int .i64) .z false)],[(1,.keep)]⟩,⟨[((.exit 1),⟨[],[]⟩),(.ret,⟨[(2,.st (.int .i64) .z false)],[]⟩)]⟩))],jns:=[],rjs:=[(1,⟨[(1,.keep),(5,.st .bool .z false)],[(1,.keep)]⟩),
 (8,⟨[(1,.keep),(3,.keep),(4,.keep),(22,.keep),(23,.keep),(24,.keep),(38,.st .bool .z false)],[(1,.keep),(4,.keep)]⟩)] }
noncomputable def F_impl_Cluster_votersFault (x0:(List Int×Int)×List Int×List (Int×Int×Int)×List (Int×Int×List ((Int×Int)×Int))×List (Int×Int×Int×(Int×Int)×Int)×List (List Int)):Option (Int):=
 (F_impl_goodKeys x0.1 x0.2.1).bind fun (y13:List Int)=>
 (F_slices_EqualFunc_Limpl_Voter_Lint64_impl_Voter_int64 x0.2.2.2.1 y13 (fun (a14:Int×Int×List ((Int×Int)×Int)) (a15:Int)=>(F_impl_Cluster_votersFault_c1 a14 a15).bind fun r16=>some r16)).bind fun (y17:Bool)=>
 bif (!y17) then
 some 1
 else
 (loopO (S:=Int) (X:=(Unit)⊕(Int)) (fun (s20:Int)=>
 bif (decide ((s20:Int)<(List.length x0.2.2.2.1:Int))) then
 bif (inB s20 x0.2.2.2.1) then
 (F_impl_VoterFault (List.getD x0.2.2.2.1 (Int.toNat s20) (0,(0,[])))).bind fun (y21:Int)=>
 bif (!decide ((y21:Int)=0)) then
 some (Sum.inr (Sum.inr y21))
 else
 some (Sum.inl (IntKind.wrap .i64 (s20+1)))
 else none
 else
 some (Sum.inr (Sum.inl ()))) 0).bind fun (j22:(Unit)⊕(Int))=>
 Sum.elim (fun (j23:Unit)=>
 some 0) (fun (j24:Int)=>
 some j24) j22
noncomputable def K_impl_Cluster_votersFault:Callee:={ ins:=[.rp s13 false],outs:=[((.int .i64),.z)],F:=fun t=>F_impl_Cluster_votersFault t.1 }
noncomputable def X_impl_Cluster_votersFault:Ctx:={ tys:=tys,fns:=[(22,K_impl_goodKeys),(55,K_slices_EqualFunc_Limpl_Voter_Lint64_impl_Voter_int64),(56,K_impl_Cluster_votersFault_c1),(57,K_impl_VoterFault)],frz:=[],lps:=[(5,(⟨[(26,.keep),(27,.keep),(28,.st (.int .i64) .z false)],[]⟩,⟨[((.exit 0),⟨[],[]⟩),(.ret,⟨[(2,.st (.int .i64) .z false)],[]⟩)]⟩))],jns:=[],rjs:=[] }
noncomputable def F_impl_VoteFault (x0:Int×Int×Int×(Int×Int)×Int):Option (Int):=
 (F_impl_isId x0.2.2.1).bind fun (y20:Bool)=>
 (bif (decide ((x0.2.1:Int)=1)) then
 (bif (!(Sh.beq (.prod (.int .i64) (.int .i64)) x0.2.2.2.1 (0,0))) then
 some true
 else
 some (!decide ((x0.2.2.2.2:Int)=0)):Option (Bool)).bind fun (j27:Bool)=>
 bif j27 then
 some (Sum.inr 1)
 else
 some (Sum.inl y20)
 else
 bif (decide ((x0.2.1:Int)=2)) then
 bif (!decide ((x0.2.2.1:Int)=0)) then
 some (Sum.inr 1)
 else
 ((F_impl_isRef x0.2.2.2.1).bind fun (y30:Bool)=>
 bif y30 then
 (F_impl_isId x0.2.2.2.2).bind fun (y31:Bool)=>
 some y31
 else
 some false:Option (Bool)).bind fun (j32:Bool)=>
 some (Sum.inl j32)
 else
 some (Sum.inr 1):Option ((Bool)⊕(Int))).bind fun (j33:(Bool)⊕(Int))=>
 Sum.elim (fun (j34:Bool)=>
 ((F_impl_isKey x0.1).bind fun (y37:Bool)=>
 bif (!y37) then
 some true
 else
 some (!j34):Option (Bool)).bind fun (j38:Bool)=>
 bif j38 then
 some 3
 else
 some 0) (fun (j35:Int)=>
 some j35) j33
noncomputable def K_impl_VoteFault:Callee:={ ins:=[.v s8 .z],outs:=[((.int .i64),.z)],F:=fun t=>F_impl_VoteFault t.1 }
noncomputable def X_impl_VoteFault:Ctx:={ tys:=tys,fns:=[(67,K_impl_isKey),(80,K_impl_isId),(81,K_impl_isRef)],frz:=[],lps:=[],jns:=[(5,⟨[(.normal,⟨[(1,.keep),(3,.st .bool .z false)],[(1,.keep)]⟩),(.ret,⟨[(2,.st (.int .i64) .z false)],[]⟩)]⟩)],rjs:=[(5,⟨[(1,.keep),(3,.keep),(19,.st .bool .z false)],[(1,.keep)]⟩),
 (10,⟨[(1,.keep),(3,.st .bool .z false)],[(1,.keep)]⟩),
 (11,⟨[(40,.st .bool .z false)],[]⟩)] }
noncomputable def F_slices_Index_Limpl_Vote_impl_Vote (x0:List (Int×Int×Int×(Int×Int)×Int)) (x1:Int×Int×Int×(Int×Int)×Int):Option (Int):=
 (loopO (S:=Int) (X:=(Unit)⊕(Int)) (fun (s5:Int)=>
 bif (decide ((s5:Int)<(List.length x0:Int))) then
 bif (inB s5 x0) then
 bif (Sh.beq (.prod (.int .i64) (.prod (.int .i64) (.prod (.int .i64) (.prod (.prod (.int .i64) (.int .i64)) (.int .i64))))) x1 (List.getD x0 (Int.toNat s5) (0,(0,(0,((0,0),0)))))) then
 some (Sum.inr (Sum.inr s5))
 else
 some (Sum.inl (IntKind.wrap .i64 (s5+1)))
 else none
 else
 some (Sum.inr (Sum.inl ()))) 0).bind fun (j6:(Unit)⊕(Int))=>
 Sum.elim (fun (j7:Unit)=>
 some (-1)) (fun (j8:Int)=>
 some j8) j6
noncomputable def K_slices_Index_Limpl_Vote_impl_Vote:Callee:={ ins:=[.v (.list s8) .z,.v s8 .z],outs:=[((.int .i64),.z)],F:=fun t=>F_slices_Index_Limpl_Vote_impl_Vote t.1 t.2.1 }
noncomputable def X_slices_Index_Limpl_Vote_impl_Vote:Ctx:={ tys:=tys,fns:=[],frz:=[],lps:=[(2,(⟨[(0,.keep),(3,.keep),(7,.keep),(8,.st (.int .i64) .z false)],[(3,.keep)]⟩,⟨[((.exit 0),⟨[],[]⟩),(.ret,⟨[(4,.st (.int .i64) .z false)],[]⟩)]⟩))],jns:=[],rjs:=[] }
noncomputable def F_slices_Contains_Limpl_Vote_impl_Vote (x0:List (Int×Int×Int×(Int×Int)×Int)) (x1:Int×Int×Int×(Int×Int)×Int):Option (Bool):=
 (F_slices_Index_Limpl_Vote_impl_Vote x0 x1).bind fun (y2:Int)=>
 some (decide ((0:Int)≤y2))
noncomputable def K_slices_Contains_Limpl_Vote_impl_Vote:Callee:={ ins:=[.v (.list s8) .z,.v s8 .z],outs:=[(.bool,.z)],F:=fun t=>F_slices_Contains_Limpl_Vote_impl_Vote t.1 t.2.1 }
noncomputable def X_slices_Contains_Limpl_Vote_impl_Vote:Ctx:={ tys:=tys,fns:=[(83,K_slices_Index_Limpl_Vote_impl_Vote)],frz:=[],lps:=[],jns:=[],rjs:=[] }
noncomputable def F_slices_Reverse_Lint64_int64 (x0:List Int):Option (List Int):=
 bif Nat.ble (List.length x0) 9223372036854775807 then some (List.reverse x0) else none
noncomputable def K_slices_Reverse_Lint64_int64:Callee:={ ins:=[.mu (.list (.int .i64)) (.o .z) (.o .z)],outs:=[],F:=fun t=>F_slices_Reverse_Lint64_int64 t.1 }
noncomputable def F_impl_pathTo (x0:List (Int×Int×Int)) (x1:Int):Option (List Int):=
 (F_impl_findNode x0 x1).bind fun (y8:Int)=>
 (loopO (S:=List Int×Int) (X:=List Int) (fun (s11:List Int×Int)=>
 bif (decide ((0:Int)≤s11.2)) then
 bif (inB s11.2 x0) then
 bif decide (List.length s11.1+List.length ([(List.getD x0 (Int.toNat s11.2) (0,(0,0))).1]:List Int)≤LIM) then
 bif (inB s11.2 x0) then
 (F_impl_findNode x0 (List.getD x0 (Int.toNat s11.2) (0,(0,0))).2.1).bind fun (y12:Int)=>
 some (Sum.inl (List.append s11.1 ([(List.getD x0 (Int.toNat s11.2) (0,(0,0))).1]:List Int),y12))
 else none
 else none
 else none
 else
 some (Sum.inr s11.1)) (([]:List Int),y8)).bind fun (j13:List Int)=>
 (F_slices_Reverse_Lint64_int64 j13).bind fun (y14:List Int)=>
 some y14
noncomputable def K_impl_pathTo:Callee:={ ins:=[.v (.list s2) .z,.v (.int .i64) .z],outs:=[((.list (.int .i64)),(.o .z))],F:=fun t=>F_impl_pathTo t.1 t.2.1 }
noncomputable def X_impl_pathTo:Ctx:={ tys:=tys,fns:=[(79,K_impl_findNode),(98,K_slices_Reverse_Lint64_int64)],frz:=[],lps:=[(3,(⟨[(0,.keep),(5,.st (.list (.int .i64)) (.o .z) false),(6,.st (.int .i64) .z false)],[]⟩,⟨[((.exit 0),⟨[(5,.st (.list (.int .i64)) (.o .z) false)],[]⟩)]⟩))],jns:=[],rjs:=[] }
noncomputable def F_impl_isAbove (x0:List (Int×Int×Int)) (x1:Int) (x2:Int):Option (Bool):=
 (F_impl_pathTo x0 x2).bind fun (y3:List Int)=>
 (F_slices_Contains_Lint64_int64 y3 x1).bind fun (y4:Bool)=>
 some y4
noncomputable def K_impl_isAbove:Callee:={ ins:=[.v (.list s2) .z,.v (.int .i64) .z,.v (.int .i64) .z],outs:=[(.bool,.z)],F:=fun t=>F_impl_isAbove t.1 t.2.1 t.2.2.1 }
noncomputable def X_impl_isAbove:Ctx:={ tys:=tys,fns:=[(47,K_slices_Contains_Lint64_int64),(86,K_impl_pathTo)],frz:=[],lps:=[],jns:=[],rjs:=[] }
noncomputable def F_slices_IndexFunc_Limpl_Voter_impl_Voter (x0:List (Int×Int×List ((Int×Int)×Int))) (x1:(Int×Int×List ((Int×Int)×Int))→Option Bool):Option (Int):=
 (loopO (S:=Int) (X:=(Unit)⊕(Int)) (fun (s10:Int)=>
 bif (decide ((s10:Int)<(List.length x0:Int))) then
 bif (inB s10 x0) then
 (x1 (List.getD x0 (Int.toNat s10) (0,(0,[])))).bind fun (y11:Bool)=>
 bif y11 then
 some (Sum.inr (Sum.inr s10))
 else
 some (Sum.inl (IntKind.wrap .i64 (s10+1)))
 else none
 else
 some (Sum.inr (Sum.inl ()))) 0).bind fun (j12:(Unit)⊕(Int))=>
 Sum.elim (fun (j13:Unit)=>
 some (-1)) (fun (j14:Int)=>
 some j14) j12
noncomputable def K_slices_IndexFunc_Limpl_Voter_impl_Voter:Callee:={ ins:=[.v (.list s5) .z,.v (.fn1 s5 .bool .z) .z],outs:=[((.int .i64),.z)],F:=fun t=>F_slices_IndexFunc_Limpl_Voter_impl_Voter t.1 t.2.1 }
noncomputable def X_slices_IndexFunc_Limpl_Voter_impl_Voter:Ctx:={ tys:=tys,fns:=[],frz:=[],lps:=[(2,(⟨[(0,.keep),(1,.keep),(7,.keep),(8,.st (.int .i64) .z false)],[]⟩,⟨[((.exit 0),⟨[],[]⟩),(.ret,⟨[(4,.st (.int .i64) .z false)],[]⟩)]⟩))],jns:=[],rjs:=[] }
noncomputable def F_impl_Cluster_findVoter_c1 (x0:Int×Int×List ((Int×Int)×Int)) (x1:Int):Option (Bool):=
 some (decide ((x0.1:Int)=x1))
noncomputable def K_impl_Cluster_findVoter_c1:Callee:={ ins:=[.v s5 .z,.rp (.int .i64) false],outs:=[(.bool,.z)],F:=fun t=>F_impl_Cluster_findVoter_c1 t.1 t.2.1 }
noncomputable def X_impl_Cluster_findVoter_c1:Ctx:={ tys:=tys,fns:=[],frz:=[],lps:=[],jns:=[],rjs:=[] }
noncomputable def F_impl_Cluster_findVoter (x0:(List Int×Int)×List Int×List (Int×Int×Int)×List (Int×Int×List ((Int×Int)×Int))×List (Int×Int×Int×(Int×Int)×Int)×List (List Int)) (x1:Int):Option (Int):=
 (F_slices_IndexFunc_Limpl_Voter_impl_Voter x0.2.2.2.1 (fun (a4:Int×Int×List ((Int×Int)×Int))=>(F_impl_Cluster_findVoter_c1 a4 x1).bind fun r5=>some r5)).bind fun (y6:Int)=>
 some y6
noncomputable def K_impl_Cluster_findVoter:Callee:={ ins:=[.rp s13 false,.v (.int .i64) .z],outs:=[((.int .i64),.z)],F:=fun t=>F_impl_Cluster_findVoter t.1 t.2.1 }
noncomputable def X_impl_Cluster_findVoter:Ctx:={ tys:=tys,fns:=[(95,K_slices_IndexFunc_Limpl_Voter_impl_Voter),(96,K_impl_Cluster_findVoter_c1)],frz:=[],lps:=[],jns:=[],rjs:=[] }
noncomputable def F_impl_Voter_chosen_c1 (x0:(Int×Int)×Int) (x1:Int×Int):Option (Bool):=
 some (Sh.beq (.prod (.int .i64) (.int .i64)) x0.1 x1)
noncomputable def K_impl_Voter_chosen_c1:Callee:={ ins:=[.v s3 .z,.rp s1 false],outs:=[(.bool,.z)],F:=fun t=>F_impl_Voter_chosen_c1 t.1 t.2.1 }
noncomputable def X_impl_Voter_chosen_c1:Ctx:={ tys:=tys,fns:=[],frz:=[],lps:=[],jns:=[],rjs:=[] }
noncomputable def F_impl_Voter_chosen (x0:Int×Int×List ((Int×Int)×Int)) (x1:Int×Int):Option (Int):=
 (F_slices_IndexFunc_Limpl_Choice_impl_Choice x0.2.2 (fun (a4:(Int×Int)×Int)=>(F_impl_Voter_chosen_c1 a4 x1).bind fun r5=>some r5)).bind fun (y6:Int)=>
 bif (decide ((y6:Int)<0)) then
 some 0
 else
 bif (inB y6 x0.2.2) then
 some (List.getD x0.2.2 (Int.toNat y6) ((0,0),0)).2
 else none
noncomputable def K_impl_Voter_chosen:Callee:={ ins:=[.v s5 .z,.v s1 .z],outs:=[((.int .i64),.z)],F:=fun t=>F_impl_Voter_chosen t.1 t.2.1 }
noncomputable def X_impl_Voter_chosen:Ctx:={ tys:=tys,fns:=[(65,K_slices_IndexFunc_Limpl_Choice_impl_Choice),(97,K_impl_Voter_chosen_c1)],frz:=[],lps:=[],jns:=[],rjs:=[] }
noncomputable def F_impl_Cluster_isVoted (x0:(List Int×Int)×List Int×List (Int×Int×Int)×List (Int×Int×List ((Int×Int)×Int))×List (Int×Int×Int×(Int×Int)×Int)×List (List Int)) (x1:Int×Int×Int×(Int×Int)×Int):Option (Bool):=
 (F_impl_Cluster_findVoter x0 x1.1).bind fun (y4:Int)=>
 bif (inB y4 x0.2.2.2.1) then
 bif (decide ((x1.2.1:Int)=1)) then
 (F_impl_isAbove x0.2.2.1 x1.2.2.1 (List.getD x0.2.2.2.1 (Int.toNat y4) (0,(0,[]))).2.1).bind fun (y5:Bool)=>
 some y5
 else
 (F_impl_Voter_chosen (List.getD x0.2.2.2.1 (Int.toNat y4) (0,(0,[]))) x1.2.2.2.1).bind fun (y6:Int)=>
 some (decide ((y6:Int)=x1.2.2.2.2))
 else none
noncomputable def K_impl_Cluster_isVoted:Callee:={ ins:=[.rp s13 false,.v s8 .z],outs:=[(.bool,.z)],F:=fun t=>F_impl_Cluster_isVoted t.1 t.2.1 }
noncomputable def X_impl_Cluster_isVoted:Ctx:={ tys:=tys,fns:=[(63,K_impl_isAbove),(84,K_impl_Cluster_findVoter),(85,K_impl_Voter_chosen)],frz:=[],lps:=[],jns:=[],rjs:=[] }
noncomputable def F_impl_Cluster_votesFault (x0:(List Int×Int)×List Int×List (Int×Int×Int)×List (Int×Int×List ((Int×Int)×Int))×List (Int×Int×Int×(Int×Int)×Int)×List (List Int)):Option (Int):=
 (loopO (S:=Int) (X:=(Unit)⊕(Int)) (fun (s45:Int)=>
 bif (decide ((s45:Int)<(List.length x0.2.2.2.2.1:Int))) then
 bif (inB s45 x0.2.2.2.2.1) then
 (F_impl_VoteFault (List.getD x0.2.2.2.2.1 (Int.toNat s45) (0,(0,(0,((0,0),0)))))).bind fun (y46:Int)=>
 bif (!decide ((y46:Int)=0)) then
 some (Sum.inr (Sum.inr y46))
 else
 (F_slices_Contains_Lint64_int64 x0.1.1 (List.getD x0.2.2.2.2.1 (Int.toNat s45) (0,(0,(0,((0,0),0))))).1).bind fun (y47:Bool)=>
 bif (!y47) then
 some (Sum.inr (Sum.inr 4))
 else
 bif (cutOk 0 s45 x0.2.2.2.2.1) then
 (F_slices_Contains_Limpl_Vote_impl_Vote (cut 0 s45 x0.2.2.2.2.1) (List.getD x0.2.2.2.2.1 (Int.toNat s45) (0,(0,(0,((0,0),0)))))).bind fun (y48:Bool)=>
 bif y48 then
 some (Sum.inr (Sum.inr 7))
 else
 ((F_slices_Contains_Lint64_int64 x0.2.1 (List.getD x0.2.2.2.2.1 (Int.toNat s45) (0,(0,(0,((0,0),0))))).1).bind fun (y51:Bool)=>
 bif (!y51) then
 (F_impl_Cluster_isVoted x0 (List.getD x0.2.2.2.2.1 (Int.toNat s45) (0,(0,(0,((0,0),0)))))).bind fun (y52:Bool)=>
 some (!y52)
 else
 some false:Option (Bool)).bind fun (j53:Bool)=>
 bif j53 then
 some (Sum.inr (Sum.inr 6))
 else
 some (Sum.inl (IntKind.wrap .i64 (s45+1)))
 else none
 else none
 else
 some (Sum.inr (Sum.inl ()))) 0).bind fun (j54:(Unit)⊕(Int))=>
 Sum.elim (fun (j55:Unit)=>
 some 0) (fun (j56:Int)=>
 some j56) j54
noncomputable def K_impl_Cluster_votesFault:Callee:={ ins:=[.rp s13 false],outs:=[((.int .i64),.z)],F:=fun t=>F_impl_Cluster_votesFault t.1 }
noncomputable def X_impl_Cluster_votesFault:Ctx:={ tys:=tys,fns:=[(47,K_slices_Contains_Lint64_int64),(58,K_impl_VoteFault),(59,K_slices_Contains_Limpl_Vote_impl_Vote),(60,K_impl_Cluster_isVoted)],frz:=[],lps:=[(2,(⟨[(0,.keep),(9,.keep),(10,.keep),(11,.st (.int .i64) .z false)],[]⟩,⟨[((.exit 0),⟨[],[]⟩),(.ret,⟨[(2,.st (.int .i64) .z false)],[]⟩)]⟩))],jns:=[],rjs:=[(11,⟨[(0,.keep),(9,.keep),(10,.keep),(11,.keep),(40,.st .bool .z false)],[]⟩)] }
noncomputable def F_impl_Cluster_heardFault_c1 (x0:Int) (x1:(List Int×Int)×List Int×List (Int×Int×Int)×List (Int×Int×List ((Int×Int)×Int))×List (Int×Int×Int×(Int×Int)×Int)×List (List Int)):Option (Bool):=
 (F_impl_within x0 0 (IntKind.wrap .i64 ((List.length x1.2.2.2.2.1:Int) - 1))).bind fun (y2:Bool)=>
 some (!y2)
noncomputable def K_impl_Cluster_heardFault_c1:Callee:={ ins:=[.v (.int .i64) .z,.rp s13 true],outs:=[(.bool,.z)],F:=fun t=>F_impl_Cluster_heardFault_c1 t.1 t.2.1 }
noncomputable def X_impl_Cluster_heardFault_c1:Ctx:={ tys:=tys,fns:=[(19,K_impl_within)],frz:=[],lps:=[],jns:=[],rjs:=[] }
noncomputable def F_impl_Cluster_heardFault (x0:(List Int×Int)×List Int×List (Int×Int×Int)×List (Int×Int×List ((Int×Int)×Int))×List (Int×Int×Int×(Int×Int)×Int)×List (List Int)):Option (Int):=
 (loopO (S:=Int) (X:=(Unit)⊕(Int)) (fun (s55:Int)=>
 bif (decide ((s55:Int)<(List.length x0.2.2.2.2.2:Int))) then
 bif (inB s55 x0.2.2.2.2.2) then
 (F_slices_ContainsFunc_Lint64_int64 (List.getD x0.2.2.2.2.2 (Int.toNat s55) []) (fun (a56:Int)=>(F_impl_Cluster_heardFault_c1 a56 x0).bind fun r57=>some r57)).bind fun (y58:Bool)=>
 bif y58 then
 some (Sum.inr (Sum.inr 3))
 else
 (loopO (S:=Int) (X:=(Unit)⊕(Int)) (fun (s61:Int)=>
 bif (decide ((s61:Int)<(List.length (List.getD x0.2.2.2.2.2 (Int.toNat s55) []):Int))) then
 bif (inB s61 (List.getD x0.2.2.2.2.2 (Int.toNat s55) [])) then
 bif (cutOk 0 s61 (List.getD x0.2.2.2.2.2 (Int.toNat s55) [])) then
 (F_slices_Contains_Lint64_int64 (cut 0 s61 (List.getD x0.2.2.2.2.2 (Int.toNat s55) [])) (List.getD (List.getD x0.2.2.2.2.2 (Int.toNat s55) []) (Int.toNat s61) 0)).bind fun (y62:Bool)=>
 bif y62 then
 some (Sum.inr (Sum.inr 7))
 else
 some (Sum.inl (IntKind.wrap .i64 (s61+1)))
 else none
 else none
 else
 some (Sum.inr (Sum.inl ()))) 0).bind fun (j63:(Unit)⊕(Int))=>
 Sum.elim (fun (j64:Unit)=>
 some (Sum.inl (IntKind.wrap .i64 (s55+1)))) (fun (j65:Int)=>
 some (Sum.inr (Sum.inr j65))) j63
 else none
 else
 some (Sum.inr (Sum.inl ()))) 0).bind fun (j66:(Unit)⊕(Int))=>
 Sum.elim (fun (j67:Unit)=>
 some 0) (fun (j68:Int)=>
 some j68) j66
noncomputable def K_impl_Cluster_heardFault:Callee:={ ins:=[.rp s13 false],outs:=[((.int .i64),.z)],F:=fun t=>F_impl_Cluster_heardFault t.1 }
noncomputable def X_impl_Cluster_heardFault:Ctx:={ tys:=tys,fns:=[(36,K_slices_ContainsFunc_Lint64_int64),(47,K_slices_Contains_Lint64_int64),(61,K_impl_Cluster_heardFault_c1)],frz:=[],lps:=[(2,(⟨[(1,.keep),(10,.keep),(11,.keep),(12,.st (.int .i64) .z false)],[]⟩,⟨[((.exit 0),⟨[],[]⟩),(.ret,⟨[(2,.st (.int .i64) .z false)],[]⟩)]⟩)),
 (7,(⟨[(1,.keep),(4,.keep),(10,.keep),(11,.keep),(12,.keep),(19,.keep),(20,.keep),(21,.st (.int .i64) .z false)],[]⟩,⟨[((.exit 2),⟨[(1,.keep),(10,.keep),(11,.keep),(12,.keep)],[]⟩),(.ret,⟨[(2,.st (.int .i64) .z false)],[]⟩)]⟩))],jns:=[],rjs:=[] }
noncomputable def F_impl_ClusterFault (x0:(List Int×Int)×List Int×List (Int×Int×Int)×List (Int×Int×List ((Int×Int)×Int))×List (Int×Int×Int×(Int×Int)×Int)×List (List Int)):Option (Int):=
 (F_impl_QuorumFault x0.1).bind fun (y10:Int)=>
 bif (!decide ((y10:Int)=0)) then
 some y10
 else
 (bif (decide ((20:Int)<(List.length x0.2.1:Int))) then
 some true
 else
 bif (decide ((100:Int)<(List.length x0.2.2.2.2.1:Int))) then
 some true
 else
 (F_impl_within (List.length x0.2.2.2.2.2:Int) 1 4).bind fun (y12:Bool)=>
 some (!y12):Option (Bool)).bind fun (j13:Bool)=>
 bif j13 then
 some 2
 else
 (F_impl_badFault x0.2.1).bind fun (y14:Int)=>
 bif (!decide ((y14:Int)=0)) then
 some y14
 else
 (F_impl_TreeFault x0.2.2.1).bind fun (y15:Int)=>
 bif (!decide ((y15:Int)=0)) then
 some y15
 else
 (F_impl_Cluster_votersFault x0).bind fun (y16:Int)=>
 bif (!decide ((y16:Int)=0)) then
 some y16
 else
 (F_impl_Cluster_votesFault x0).bind fun (y17:Int)=>
 bif (!decide ((y17:Int)=0)) then
 some y17
 else
 (F_impl_Cluster_heardFault x0).bind fun (y18:Int)=>
 some y18
noncomputable def K_impl_ClusterFault:Callee:={ ins:=[.v s13 .z],outs:=[((.int .i64),.z)],F:=fun t=>F_impl_ClusterFault t.1 }
noncomputable def X_impl_ClusterFault:Ctx:={ tys:=tys,fns:=[(18,K_impl_QuorumFault),(19,K_impl_within),(20,K_impl_badFault),(32,K_impl_TreeFault),(33,K_impl_Cluster_votersFault),(34,K_impl_Cluster_votesFault),(35,K_impl_Cluster_heardFault)],frz:=[],lps:=[],jns:=[],rjs:=[(4,⟨[(1,.keep),(30,.st .bool .z false)],[(1,.keep)]⟩)] }
noncomputable def F_impl_countFor (x0:List (Int×Int×Int×(Int×Int)×Int)) (x1:List Int×Int) (x2:Int×Int×Int×(Int×Int)×Int):Option (Int):=
 (loopO (S:=Int×Int×Int×Int×Int×(Int×Int)×Int) (X:=Int) (fun (s13:Int×Int×Int×Int×Int×(Int×Int)×Int)=>
 bif (decide ((s13.2.1:Int)<(List.length x1.1:Int))) then
 bif (inB s13.2.1 x1.1) then
 (F_slices_Contains_Limpl_Vote_impl_Vote x0 (List.getD x1.1 (Int.toNat s13.2.1) 0,s13.2.2.2)).bind fun (y14:Bool)=>
 (bif y14 then
 some (IntKind.wrap .i64 (s13.1+1))
 else
 some s13.1:Option (Int)).bind fun (j15:Int)=>
 some (Sum.inl (j15,(IntKind.wrap .i64 (s13.2.1+1),(List.getD x1.1 (Int.toNat s13.2.1) 0,s13.2.2.2))))
 else none
 else
 some (Sum.inr s13.1)) (0,(0,x2))).bind fun (j16:Int)=>
 some j16
noncomputable def K_impl_countFor:Callee:={ ins:=[.v (.list s8) .z,.v s0 .z,.v s8 .z],outs:=[((.int .i64),.z)],F:=fun t=>F_impl_countFor t.1 t.2.1 t.2.2.1 }
noncomputable def X_impl_countFor:Ctx:={ tys:=tys,fns:=[(59,K_slices_Contains_Limpl_Vote_impl_Vote)],frz:=[],lps:=[(3,(⟨[(0,.keep),(5,.keep),(7,.st (.int .i64) .z false),(11,.keep),(12,.keep),(13,.st (.int .i64) .z false)],[(5,.st s8 .z false)]⟩,⟨[((.exit 0),⟨[(7,.st (.int .i64) .z false)],[]⟩)]⟩))],jns:=[(7,⟨[(.normal,⟨[(0,.keep),(5,.keep),(7,.st (.int .i64) .z false),(11,.keep),(12,.keep),(13,.keep)],[(5,.keep)]⟩)]⟩)],rjs:=[] }
noncomputable def F_impl_Cluster_lockedBy (x0:(List Int×Int)×List Int×List (Int×Int×Int)×List (Int×Int×List ((Int×Int)×Int))×List (Int×Int×Int×(Int×Int)×Int)×List (List Int)) (x1:List (Int×Int×Int×(Int×Int)×Int)):Option (List Int):=
 (loopO (S:=List Int×Int) (X:=List Int) (fun (s13:List Int×Int)=>
 bif (decide ((s13.2:Int)<(List.length x0.2.2.1:Int))) then
 bif (inB s13.2 x0.2.2.1) then
 (F_impl_countFor x1 x0.1 (0,(1,((List.getD x0.2.2.1 (Int.toNat s13.2) (0,(0,0))).1,((0,0),0))))).bind fun (y14:Int)=>
 (bif (decide ((x0.1.2:Int)≤y14)) then
 bif decide (List.length s13.1+List.length ([(List.getD x0.2.2.1 (Int.toNat s13.2) (0,(0,0))).1]:List Int)≤LIM) then
 some (List.append s13.1 ([(List.getD x0.2.2.1 (Int.toNat s13.2) (0,(0,0))).1]:List Int))
 else none
 else
 some s13.1:Option (List Int)).bind fun (j15:List Int)=>
 some (Sum.inl (j15,IntKind.wrap .i64 (s13.2+1)))
 else none
 else
 some (Sum.inr s13.1)) (([]:List Int),0)).bind fun (j16:List Int)=>
 some j16
noncomputable def K_impl_Cluster_lockedBy:Callee:={ ins:=[.rp s13 false,.v (.list s8) .z],outs:=[((.list (.int .i64)),(.o .z))],F:=fun t=>F_impl_Cluster_lockedBy t.1 t.2.1 }
noncomputable def X_impl_Cluster_lockedBy:Ctx:={ tys:=tys,fns:=[(53,K_impl_countFor)],frz:=[],lps:=[(3,(⟨[(0,.keep),(1,.keep),(5,.st (.list (.int .i64)) (.o .z) false),(12,.keep),(13,.keep),(14,.st (.int .i64) .z false)],[]⟩,⟨[((.exit 0),⟨[(5,.st (.list (.int .i64)) (.o .z) false)],[]⟩)]⟩))],jns:=[(6,⟨[(.normal,⟨[(0,.keep),(1,.keep),(5,.st (.list (.int .i64)) (.o .z) false),(12,.keep),(13,.keep),(14,.keep)],[]⟩)]⟩)],rjs:=[] }
noncomputable def F_impl_LockedBlocks (x0:(List Int×Int)×List Int×List (Int×Int×Int)×List (Int×Int×List ((Int×Int)×Int))×List (Int×Int×Int×(Int×Int)×Int)×List (List Int)):Option (Int×List Int):=
 (F_impl_ClusterFault x0).bind fun (y3:Int)=>
 bif (!decide ((y3:Int)=0)) then
 some (y3,[])
 else
 (F_impl_Cluster_lockedBy x0 x0.2.2.2.2.1).bind fun (y4:List Int)=>
 some (0,y4)
noncomputable def K_impl_LockedBlocks:Callee:={ ins:=[.v s13 .z],outs:=[(s15,(.p .z (.o .z)))],F:=fun t=>F_impl_LockedBlocks t.1 }
noncomputable def X_impl_LockedBlocks:Ctx:={ tys:=tys,fns:=[(10,K_impl_ClusterFault),(31,K_impl_Cluster_lockedBy)],frz:=[],lps:=[],jns:=[],rjs:=[] }
noncomputable def F_impl_related (x0:List (Int×Int×Int)) (x1:Int) (x2:Int):Option (Bool):=
 ((F_impl_isAbove x0 x1 x2).bind fun (y8:Bool)=>
 bif y8 then
 some true
 else
 (F_impl_isAbove x0 x2 x1).bind fun (y9:Bool)=>
 some y9:Option (Bool)).bind fun (j10:Bool)=>
 some j10
noncomputable def K_impl_related:Callee:={ ins:=[.v (.list s2) .z,.v (.int .i64) .z,.v (.int .i64) .z],outs:=[(.bool,.z)],F:=fun t=>F_impl_related t.1 t.2.1 t.2.2.1 }
noncomputable def X_impl_related:Ctx:={ tys:=tys,fns:=[(63,K_impl_isAbove)],frz:=[],lps:=[],jns:=[],rjs:=[(1,⟨[(6,.st .bool .z false)],[]⟩)] }
noncomputable def F_impl_NoFork_c1 (x0:Int) (x1:(List Int×Int)×List Int×List (Int×Int×Int)×List (Int×Int×List ((Int×Int)×Int))×List (Int×Int×Int×(Int×Int)×Int)×List (List Int)) (x2:Int):Option (Bool):=
 (F_impl_related x1.2.2.1 x2 x0).bind fun (y2:Bool)=>
 some (!y2)
noncomputable def K_impl_NoFork_c1:Callee:={ ins:=[.v (.int .i64) .z,.rp s13 false,.rp (.int .i64) false],outs:=[(.bool,.z)],F:=fun t=>F_impl_NoFork_c1 t.1 t.2.1 t.2.2.1 }
noncomputable def X_impl_NoFork_c1:Ctx:={ tys:=tys,fns:=[(38,K_impl_related)],frz:=[],lps:=[],jns:=[],rjs:=[] }
noncomputable def F_impl_NoFork (x0:(List Int×Int)×List Int×List (Int×Int×Int)×List (Int×Int×List ((Int×Int)×Int))×List (Int×Int×Int×(Int×Int)×Int)×List (List Int)):Option (Bool):=
 (F_impl_LockedBlocks x0).bind fun (y15:Int×List Int)=>
 (loopO (S:=Int) (X:=(Unit)⊕(Bool)) (fun (s22:Int)=>
 bif (decide ((s22:Int)<(List.length y15.2:Int))) then
 bif (inB s22 y15.2) then
 bif (cutOk 0 s22 y15.2) then
 (F_slices_ContainsFunc_Lint64_int64 (List.take (Int.toNat (s22 - 0)) (List.drop (Int.toNat 0) y15.2)) (fun (a23:Int)=>(F_impl_NoFork_c1 a23 x0 (List.getD y15.2 (Int.toNat s22) 0)).bind fun r24=>some r24)).bind fun (y25:Bool)=>
 bif y25 then
 some (Sum.inr (Sum.inr false))
 else
 some (Sum.inl (IntKind.wrap .i64 (s22+1)))
 else none
 else none
 else
 some (Sum.inr (Sum.inl ()))) 0).bind fun (j26:(Unit)⊕(Bool))=>
 Sum.elim (fun (j27:Unit)=>
 some (decide ((y15.1:Int)=0))) (fun (j28:Bool)=>
 some j28) j26
noncomputable def K_impl_NoFork:Callee:={ ins:=[.v s13 .z],outs:=[(.bool,.z)],F:=fun t=>F_impl_NoFork t.1 }
noncomputable def X_impl_NoFork:Ctx:={ tys:=tys,fns:=[(9,K_impl_LockedBlocks),(36,K_slices_ContainsFunc_Lint64_int64),(37,K_impl_NoFork_c1)],frz:=[],lps:=[(3,(⟨[(1,.keep),(3,.keep),(9,.keep),(10,.keep),(11,.st (.int .i64) .z false)],[(1,.keep),(3,.keep)]⟩,⟨[((.exit 0),⟨[(3,.keep)],[(3,.keep)]⟩),(.ret,⟨[(2,.st .bool .z false)],[]⟩)]⟩))],jns:=[],rjs:=[] }
noncomputable def F_slices_Index_Limpl_Choice_impl_Choice (x0:List ((Int×Int)×Int)) (x1:(Int×Int)×Int):Option (Int):=
 (loopO (S:=Int) (X:=(Unit)⊕(Int)) (fun (s5:Int)=>
 bif (decide ((s5:Int)<(List.length x0:Int))) then
 bif (inB s5 x0) then
 bif (Sh.beq (.prod (.prod (.int .i64) (.int .i64)) (.int .i64)) x1 (List.getD x0 (Int.toNat s5) ((0,0),0))) then
 some (Sum.inr (Sum.inr s5))
 else
 some (Sum.inl (IntKind.wrap .i64 (s5+1)))
 else none
 else
 some (Sum.inr (Sum.inl ()))) 0).bind fun (j6:(Unit)⊕(Int))=>
 Sum.elim (fun (j7:Unit)=>
 some (-1)) (fun (j8:Int)=>
 some j8) j6
noncomputable def K_slices_Index_Limpl_Choice_impl_Choice:Callee:={ ins:=[.v (.list s3) .z,.v s3 .z],outs:=[((.int .i64),.z)],F:=fun t=>F_slices_Index_Limpl_Choice_impl_Choice t.1 t.2.1 }
noncomputable def X_slices_Index_Limpl_Choice_impl_Choice:Ctx:={ tys:=tys,fns:=[],frz:=[],lps:=[(2,(⟨[(0,.keep),(3,.keep),(7,.keep),(8,.st (.int .i64) .z false)],[(3,.keep)]⟩,⟨[((.exit 0),⟨[],[]⟩),(.ret,⟨[(4,.st (.int .i64) .z false)],[]⟩)]⟩))],jns:=[],rjs:=[] }
noncomputable def F_slices_Contains_Limpl_Choice_impl_Choice (x0:List ((Int×Int)×Int)) (x1:(Int×Int)×Int):Option (Bool):=
 (F_slices_Index_Limpl_Choice_impl_Choice x0 x1).bind fun (y2:Int)=>
 some (decide ((0:Int)≤y2))
noncomputable def K_slices_Contains_Limpl_Choice_impl_Choice:Callee:={ ins:=[.v (.list s3) .z,.v s3 .z],outs:=[(.bool,.z)],F:=fun t=>F_slices_Contains_Limpl_Choice_impl_Choice t.1 t.2.1 }
noncomputable def X_slices_Contains_Limpl_Choice_impl_Choice:Ctx:={ tys:=tys,fns:=[(87,K_slices_Index_Limpl_Choice_impl_Choice)],frz:=[],lps:=[],jns:=[],rjs:=[] }
noncomputable def F_impl_LockedCoins (x0:(List Int×Int)×List Int×List (Int×Int×Int)×List (Int×Int×List ((Int×Int)×Int))×List (Int×Int×Int×(Int×Int)×Int)×List (List Int)):Option (Int×List ((Int×Int)×Int)):=
 (F_impl_ClusterFault x0).bind fun (y22:Int)=>
 bif (!decide ((y22:Int)=0)) then
 some (y22,[])
 else
 (loopO (S:=List ((Int×Int)×Int)×Int) (X:=List ((Int×Int)×Int)) (fun (s35:List ((Int×Int)×Int)×Int)=>
 bif (decide ((s35.2:Int)<(List.length x0.2.2.2.2.1:Int))) then
 bif (inB s35.2 x0.2.2.2.2.1) then
 (bif (decide (((List.getD x0.2.2.2.2.1 (Int.toNat s35.2) (0,(0,(0,((0,0),0))))).2.1:Int)=2)) then
 (F_slices_Contains_Limpl_Choice_impl_Choice s35.1 ((List.getD x0.2.2.2.2.1 (Int.toNat s35.2) (0,(0,(0,((0,0),0))))).2.2.2.1,(List.getD x0.2.2.2.2.1 (Int.toNat s35.2) (0,(0,(0,((0,0),0))))).2.2.2.2)).bind fun (y38:Bool)=>
 bif (!y38) then
 (F_impl_countFor x0.2.2.2.2.1 x0.1 (List.getD x0.2.2.2.2.1 (Int.toNat s35.2) (0,(0,(0,((0,0),0)))))).bind fun (y39:Int)=>
 some (decide ((x0.1.2:Int)≤y39))
 else
 some false
 else
 some false:Option (Bool)).bind fun (j40:Bool)=>
 (bif j40 then
 bif decide (List.length s35.1+List.length ([((List.getD x0.2.2.2.2.1 (Int.toNat s35.2) (0,(0,(0,((0,0),0))))).2.2.2.1,(List.getD x0.2.2.2.2.1 (Int.toNat s35.2) (0,(0,(0,((0,0),0))))).2.2.2.2)]:List ((Int×Int)×Int))≤LIM) then
 some (List.append s35.1 ([((List.getD x0.2.2.2.2.1 (Int.toNat s35.2) (0,(0,(0,((0,0),0))))).2.2.2.1,(List.getD x0.2.2.2.2.1 (Int.toNat s35.2) (0,(0,(0,((0,0),0))))).2.2.2.2)]:List ((Int×Int)×Int)))
 else none
 else
 some s35.1:Option (List ((Int×Int)×Int))).bind fun (j41:List ((Int×Int)×Int))=>
 some (Sum.inl (j41,IntKind.wrap .i64 (s35.2+1)))
 else none
 else
 some (Sum.inr s35.1)) (([]:List ((Int×Int)×Int)),0)).bind fun (j42:List ((Int×Int)×Int))=>
 some (0,j42)
noncomputable def K_impl_LockedCoins:Callee:={ ins:=[.v s13 .z],outs:=[(s4,(.p .z (.o .z)))],F:=fun t=>F_impl_LockedCoins t.1 }
noncomputable def X_impl_LockedCoins:Ctx:={ tys:=tys,fns:=[(10,K_impl_ClusterFault),(53,K_impl_countFor),(64,K_slices_Contains_Limpl_Choice_impl_Choice)],frz:=[],lps:=[(6,(⟨[(1,.keep),(2,.keep),(4,.st (.list s3) (.o .z) false),(16,.keep),(17,.keep),(18,.st (.int .i64) .z false)],[(1,.keep),(2,.keep)]⟩,⟨[((.exit 0),⟨[(2,.keep),(4,.st (.list s3) (.o .z) false)],[(2,.keep)]⟩)]⟩))],jns:=[(10,⟨[(.normal,⟨[(1,.keep),(2,.keep),(4,.st (.list s3) (.o .z) false),(16,.keep),(17,.keep),(18,.keep)],[(1,.keep),(2,.keep)]⟩)]⟩)],rjs:=[(9,⟨[(1,.keep),(2,.keep),(4,.keep),(7,.keep),(16,.keep),(17,.keep),(18,.keep),(47,.st .bool .z false)],[(1,.keep),(2,.keep),(7,.keep)]⟩)] }
noncomputable def F_impl_NoDouble_c1 (x0:(Int×Int)×Int) (x1:(Int×Int)×Int):Option (Bool):=
 some (Sh.beq (.prod (.int .i64) (.int .i64)) x0.1 x1.1)
noncomputable def K_impl_NoDouble_c1:Callee:={ ins:=[.v s3 .z,.rp s3 false],outs:=[(.bool,.z)],F:=fun t=>F_impl_NoDouble_c1 t.1 t.2.1 }
noncomputable def X_impl_NoDouble_c1:Ctx:={ tys:=tys,fns:=[],frz:=[],lps:=[],jns:=[],rjs:=[] }
noncomputable def F_impl_NoDouble (x0:(List Int×Int)×List Int×List (Int×Int×Int)×List (Int×Int×List ((Int×Int)×Int))×List (Int×Int×Int×(Int×Int)×Int)×List (List Int)):Option (Bool):=
 (F_impl_LockedCoins x0).bind fun (y15:Int×List ((Int×Int)×Int))=>
 (loopO (S:=Int) (X:=(Unit)⊕(Bool)) (fun (s22:Int)=>
 bif (decide ((s22:Int)<(List.length y15.2:Int))) then
 bif (inB s22 y15.2) then
 bif (cutOk 0 s22 y15.2) then
 (F_slices_ContainsFunc_Limpl_Choice_impl_Choice (List.take (Int.toNat (s22 - 0)) (List.drop (Int.toNat 0) y15.2)) (fun (a23:(Int×Int)×Int)=>(F_impl_NoDouble_c1 a23 (List.getD y15.2 (Int.toNat s22) ((0,0),0))).bind fun r24=>some r24)).bind fun (y25:Bool)=>
 bif y25 then
 some (Sum.inr (Sum.inr false))
 else
 some (Sum.inl (IntKind.wrap .i64 (s22+1)))
 else none
 else none
 else
 some (Sum.inr (Sum.inl ()))) 0).bind fun (j26:(Unit)⊕(Bool))=>
 Sum.elim (fun (j27:Unit)=>
 some (decide ((y15.1:Int)=0))) (fun (j28:Bool)=>
 some j28) j26
noncomputable def K_impl_NoDouble:Callee:={ ins:=[.v s13 .z],outs:=[(.bool,.z)],F:=fun t=>F_impl_NoDouble t.1 }
noncomputable def X_impl_NoDouble:Ctx:={ tys:=tys,fns:=[(39,K_impl_LockedCoins),(40,K_slices_ContainsFunc_Limpl_Choice_impl_Choice),(41,K_impl_NoDouble_c1)],frz:=[],lps:=[(3,(⟨[(3,.keep),(9,.keep),(10,.keep),(11,.st (.int .i64) .z false)],[(3,.keep)]⟩,⟨[((.exit 0),⟨[(3,.keep)],[(3,.keep)]⟩),(.ret,⟨[(2,.st .bool .z false)],[]⟩)]⟩))],jns:=[],rjs:=[] }
noncomputable def F_laws_FnNewClusters (x0:List Int):Option (Bool):=
 (F_laws_lwBig x0).bind fun (y34:Bool)=>
 bif y34 then
 some true
 else
 (F_spec_DrawNewCluster x0).bind fun (y35:(List Int×Int)×List Int×Int)=>
 (F_impl_NewCluster y35.1 y35.2.1 y35.2.2).bind fun (y36:Int×(List Int×Int)×List Int×List (Int×Int×Int)×List (Int×Int×List ((Int×Int)×Int))×List (Int×Int×Int×(Int×Int)×Int)×List (List Int))=>
 bif (!decide ((y36.1:Int)=0)) then
 (F_spec_NewCluster y35.1 y35.2.1 y35.2.2).bind fun (y37:Int×(List Int×Int)×List Int×List (Int×Int×Int)×List (Int×Int×List ((Int×Int)×Int))×List (Int×Int×Int×(Int×Int)×Int)×List (List Int))=>
 some (decide ((y37.1:Int)=y36.1))
 else
 (loopO (S:=Int) (X:=(Unit)⊕(Bool)) (fun (s48:Int)=>
 bif (decide ((s48:Int)<(List.length y36.2.2.2.2.1:Int))) then
 (bif (inB s48 y36.2.2.2.2.1) then
 (F_laws_lwHas y35.2.1 (List.getD y36.2.2.2.2.1 (Int.toNat s48) (0,(0,[]))).1).bind fun (y51:Bool)=>
 bif y51 then
 some true
 else
 bif (inB s48 y36.2.2.2.2.1) then
 (F_laws_lwHas y35.1.1 (List.getD y36.2.2.2.2.1 (Int.toNat s48) (0,(0,[]))).1).bind fun (y52:Bool)=>
 some (!y52)
 else none
 else none:Option (Bool)).bind fun (j53:Bool)=>
 bif j53 then
 some (Sum.inr (Sum.inr false))
 else
 some (Sum.inl (IntKind.wrap .i64 (s48+1)))
 else
 some (Sum.inr (Sum.inl ()))) 0).bind fun (j54:(Unit)⊕(Bool))=>
 Sum.elim (fun (j55:Unit)=>
 (F_impl_LockedBlocks y36.2).bind fun (y57:Int×List Int)=>
 ((F_impl_ClusterFault y36.2).bind fun (y62:Int)=>
 bif (decide ((y62:Int)=0)) then
 (F_spec_NewCluster y35.1 y35.2.1 y35.2.2).bind fun (y63:Int×(List Int×Int)×List Int×List (Int×Int×Int)×List (Int×Int×List ((Int×Int)×Int))×List (Int×Int×Int×(Int×Int)×Int)×List (List Int))=>
 bif (decide (((List.length y36.2.2.2.2.1:Int):Int)=(List.length y63.2.2.2.2.1:Int))) then
 bif (decide (((List.length y36.2.2.2.2.2.2:Int):Int)=y35.2.2)) then
 bif (decide ((y57.1:Int)=0)) then
 bif (decide (((List.length y57.2:Int):Int)=0)) then
 (F_impl_NoFork y36.2).bind fun (y64:Bool)=>
 bif y64 then
 (F_impl_NoDouble y36.2).bind fun (y65:Bool)=>
 some y65
 else
 some false
 else
 some false
 else
 some false
 else
 some false
 else
 some false
 else
 some false:Option (Bool)).bind fun (j66:Bool)=>
 some j66) (fun (j56:Bool)=>
 some j56) j54
noncomputable def K_laws_FnNewClusters:Callee:={ ins:=[.v (.list (.int .u8)) .z],outs:=[(.bool,.z)],F:=fun t=>F_laws_FnNewClusters t.1 }
noncomputable def X_laws_FnNewClusters:Ctx:={ tys:=tys,fns:=[(4,K_laws_lwBig),(5,K_spec_DrawNewCluster),(6,K_impl_NewCluster),(7,K_spec_NewCluster),(8,K_laws_lwHas),(9,K_impl_LockedBlocks),(10,K_impl_ClusterFault),(11,K_impl_NoFork),(12,K_impl_NoDouble)],frz:=[],lps:=[(8,(⟨[(3,.keep),(4,.keep),(5,.keep),(6,.keep),(7,.st (.int .i64) .z false)],[(3,.keep),(6,.keep)]⟩,⟨[((.exit 0),⟨[(3,.keep),(4,.keep),(5,.keep),(6,.keep)],[(3,.keep),(6,.keep)]⟩),(.ret,⟨[(2,.st .bool .z false)],[]⟩)]⟩))],jns:=[],rjs:=[(10,⟨[(3,.keep),(4,.keep),(5,.keep),(6,.keep),(7,.keep),(61,.st .bool .z false)],[(3,.keep),(6,.keep)]⟩),
 (13,⟨[(2,.st .bool .z false)],[]⟩)] }
end CL
end Go.Dx

