/- What each function computes, as a function of plain data (F), its parameters (K) and hints for the executor (X); the types -/
import Derived.Test.YtoopijohnkgagaaDoorDxd
import Derived.Test.YtoopijohnkgagaaDoorProg
import Derived.KernelRfl
set_option linter.unusedVariables false
set_option linter.unusedSimpArgs false
set_option maxRecDepth 100000
set_option maxHeartbeats 0
namespace Go.Dx
open Go.Proofs
namespace DL
def s0:Sh:=(.prod (.int .i64) (.list .str))
def s1:Sh:=(.prod (.int .i64) (.int .i64))
def s2:Sh:=(.prod (.list (.int .i64)) s1)
def s3:Sh:=(.prod (.int .i64) s2)
def s4:Sh:=(.prod (.int .i64) .bool)
def s5:Sh:=(.prod s3 s4)
def s6:Sh:=(.prod s1 s5)
def s7:Sh:=(.prod (.int .i64) .str)
def tys:List (TypeId×TI):=[(2,⟨(.int .i64),8,.int .i64⟩),
 (3,⟨(.int .i64),8,.int .i64⟩),
 (4,⟨.bool,1,.bool⟩),
 (5,⟨(.int .u8),1,.int .u8⟩),
 (9,⟨.str,16,.str⟩),
 (22,⟨(.list .str),24,.slice 9⟩),
 (24,⟨s0,32,.struct [(0,2),(1,22)]⟩),
 (28,⟨(.fn1 .str .bool .z),8,.func⟩),
 (29,⟨(.list s6),24,.slice 54⟩),
 (32,⟨s7,24,.struct [(0,2),(1,9)]⟩),
 (34,⟨(.list s6),24,.slice 62⟩),
 (39,⟨(.list (.int .u8)),24,.slice 5⟩),
 (47,⟨s1,16,.struct [(0,2),(1,2)]⟩),
 (48,⟨(.list (.int .i64)),24,.slice 2⟩),
 (50,⟨s2,40,.struct [(0,48),(1,2),(2,2)]⟩),
 (52,⟨s3,48,.struct [(0,2),(1,50)]⟩),
 (54,⟨s6,80,.struct [(0,47),(2,52),(6,2),(7,4)]⟩),
 (57,⟨s1,16,.struct [(0,2),(1,2)]⟩),
 (58,⟨s2,40,.struct [(0,48),(1,2),(2,2)]⟩),
 (60,⟨s3,48,.struct [(0,2),(1,58)]⟩),
 (62,⟨s6,80,.struct [(0,57),(2,60),(6,2),(7,4)]⟩),
 (74,⟨(.fn1 (.int .i64) .bool .z),8,.func⟩),
 (115,⟨(.list (.int .i64)),24,.slice 3⟩)]
def X0:Ctx:={ tys:=tys,fns:=[],frz:=[],lps:=[],jns:=[],rjs:=[] }
theorem ty2:TyOk Tryd.prog X0 2 ⟨(.int .i64),8,.int .i64⟩:=⟨⟨Tryd.t2,Tryd.type2,rfl,by decide,by decide,rfl⟩,⟨Tryd.underlying2,rfl⟩⟩
theorem ty3:TyOk Tryd.prog X0 3 ⟨(.int .i64),8,.int .i64⟩:=⟨⟨Tryd.t3,Tryd.type3,rfl,by decide,by decide,rfl⟩,⟨Tryd.underlying3,rfl⟩⟩
theorem ty4:TyOk Tryd.prog X0 4 ⟨.bool,1,.bool⟩:=⟨⟨Tryd.t4,Tryd.type4,rfl,by decide,by decide,rfl⟩,⟨Tryd.underlying4,rfl⟩⟩
theorem ty5:TyOk Tryd.prog X0 5 ⟨(.int .u8),1,.int .u8⟩:=⟨⟨Tryd.t5,Tryd.type5,rfl,by decide,by decide,rfl⟩,⟨Tryd.underlying5,rfl⟩⟩
theorem ty9:TyOk Tryd.prog X0 9 ⟨.str,16,.str⟩:=⟨⟨Tryd.t9,Tryd.type9,rfl,by decide,by decide,rfl⟩,⟨Tryd.underlying9,rfl⟩⟩
theorem ty22:TyOk Tryd.prog X0 22 ⟨(.list .str),24,.slice 9⟩:=⟨⟨Tryd.t22,Tryd.type22,rfl,by decide,by decide,rfl⟩,⟨Tryd.underlying22,_,rfl,rfl⟩⟩
theorem ty24:TyOk Tryd.prog X0 24 ⟨s0,32,.struct [(0,2),(1,22)]⟩:=⟨⟨Tryd.t24,Tryd.type24,rfl,by decide,by decide,rfl⟩,⟨⟨_,Tryd.underlying24,rfl,by simp⟩,⟨_,_,rfl,rfl,⟨_,rfl,rfl⟩,⟨rfl,_,rfl,rfl⟩⟩,by decide,Tryd.eqGuardType24,Tryd.stoodInHeld24⟩⟩
theorem ty28:TyOk Tryd.prog X0 28 ⟨(.fn1 .str .bool .z),8,.func⟩:=⟨⟨Tryd.t28,Tryd.type28,rfl,by decide,by decide,trivial⟩,⟨⟨_,_,_,Tryd.underlying28⟩,.inl ⟨_,_,_,rfl⟩⟩⟩
theorem ty29:TyOk Tryd.prog X0 29 ⟨(.list s6),24,.slice 54⟩:=⟨⟨Tryd.t29,Tryd.type29,rfl,by decide,by decide,rfl⟩,⟨Tryd.underlying29,_,rfl,rfl⟩⟩
theorem ty32:TyOk Tryd.prog X0 32 ⟨s7,24,.struct [(0,2),(1,9)]⟩:=⟨⟨Tryd.t32,Tryd.type32,rfl,by decide,by decide,rfl⟩,⟨⟨_,Tryd.underlying32,rfl,by simp⟩,⟨_,_,rfl,rfl,⟨_,rfl,rfl⟩,⟨rfl,_,rfl,rfl⟩⟩,by decide,Tryd.eqGuardType32,Tryd.stoodInHeld32⟩⟩
theorem ty34:TyOk Tryd.prog X0 34 ⟨(.list s6),24,.slice 62⟩:=⟨⟨Tryd.t34,Tryd.type34,rfl,by decide,by decide,rfl⟩,⟨Tryd.underlying34,_,rfl,rfl⟩⟩
theorem ty39:TyOk Tryd.prog X0 39 ⟨(.list (.int .u8)),24,.slice 5⟩:=⟨⟨Tryd.t39,Tryd.type39,rfl,by decide,by decide,rfl⟩,⟨Tryd.underlying39,_,rfl,rfl⟩⟩
theorem ty47:TyOk Tryd.prog X0 47 ⟨s1,16,.struct [(0,2),(1,2)]⟩:=⟨⟨Tryd.t47,Tryd.type47,rfl,by decide,by decide,rfl⟩,⟨⟨_,Tryd.underlying47,rfl,by simp⟩,⟨_,_,rfl,rfl,⟨_,rfl,rfl⟩,⟨rfl,_,rfl,rfl⟩⟩,by decide,Tryd.eqGuardType47,Tryd.stoodInHeld47⟩⟩
theorem ty48:TyOk Tryd.prog X0 48 ⟨(.list (.int .i64)),24,.slice 2⟩:=⟨⟨Tryd.t48,Tryd.type48,rfl,by decide,by decide,rfl⟩,⟨Tryd.underlying48,_,rfl,rfl⟩⟩
theorem ty50:TyOk Tryd.prog X0 50 ⟨s2,40,.struct [(0,48),(1,2),(2,2)]⟩:=⟨⟨Tryd.t50,Tryd.type50,rfl,by decide,by decide,rfl⟩,⟨⟨_,Tryd.underlying50,rfl,by simp⟩,⟨_,_,rfl,rfl,⟨_,rfl,rfl⟩,⟨_,_,rfl,rfl,⟨_,rfl,rfl⟩,⟨rfl,_,rfl,rfl⟩⟩⟩,by decide,Tryd.eqGuardType50,Tryd.stoodInHeld50⟩⟩
theorem ty52:TyOk Tryd.prog X0 52 ⟨s3,48,.struct [(0,2),(1,50)]⟩:=⟨⟨Tryd.t52,Tryd.type52,rfl,by decide,by decide,rfl⟩,⟨⟨_,Tryd.underlying52,rfl,by simp⟩,⟨_,_,rfl,rfl,⟨_,rfl,rfl⟩,⟨rfl,_,rfl,rfl⟩⟩,by decide,Tryd.eqGuardType52,Tryd.stoodInHeld52⟩⟩
theorem ty54:TyOk Tryd.prog X0 54 ⟨s6,80,.struct [(0,47),(2,52),(6,2),(7,4)]⟩:=⟨⟨Tryd.t54,Tryd.type54,rfl,by decide,by decide,rfl⟩,⟨⟨_,Tryd.underlying54,rfl,by simp⟩,⟨_,_,rfl,rfl,⟨_,rfl,rfl⟩,⟨_,_,rfl,rfl,⟨_,rfl,rfl⟩,⟨_,_,rfl,rfl,⟨_,rfl,rfl⟩,⟨rfl,_,rfl,rfl⟩⟩⟩⟩,by decide,Tryd.eqGuardType54,Tryd.stoodInHeld54⟩⟩
theorem ty57:TyOk Tryd.prog X0 57 ⟨s1,16,.struct [(0,2),(1,2)]⟩:=⟨⟨Tryd.t57,Tryd.type57,rfl,by decide,by decide,rfl⟩,⟨⟨_,Tryd.underlying57,rfl,by simp⟩,⟨_,_,rfl,rfl,⟨_,rfl,rfl⟩,⟨rfl,_,rfl,rfl⟩⟩,by decide,Tryd.eqGuardType57,Tryd.stoodInHeld57⟩⟩
theorem ty58:TyOk Tryd.prog X0 58 ⟨s2,40,.struct [(0,48),(1,2),(2,2)]⟩:=⟨⟨Tryd.t58,Tryd.type58,rfl,by decide,by decide,rfl⟩,⟨⟨_,Tryd.underlying58,rfl,by simp⟩,⟨_,_,rfl,rfl,⟨_,rfl,rfl⟩,⟨_,_,rfl,rfl,⟨_,rfl,rfl⟩,⟨rfl,_,rfl,rfl⟩⟩⟩,by decide,Tryd.eqGuardType58,Tryd.stoodInHeld58⟩⟩
theorem ty60:TyOk Tryd.prog X0 60 ⟨s3,48,.struct [(0,2),(1,58)]⟩:=⟨⟨Tryd.t60,Tryd.type60,rfl,by decide,by decide,rfl⟩,⟨⟨_,Tryd.underlying60,rfl,by simp⟩,⟨_,_,rfl,rfl,⟨_,rfl,rfl⟩,⟨rfl,_,rfl,rfl⟩⟩,by decide,Tryd.eqGuardType60,Tryd.stoodInHeld60⟩⟩
theorem ty62:TyOk Tryd.prog X0 62 ⟨s6,80,.struct [(0,57),(2,60),(6,2),(7,4)]⟩:=⟨⟨Tryd.t62,Tryd.type62,rfl,by decide,by decide,rfl⟩,⟨⟨_,Tryd.underlying62,rfl,by simp⟩,⟨_,_,rfl,rfl,⟨_,rfl,rfl⟩,⟨_,_,rfl,rfl,⟨_,rfl,rfl⟩,⟨_,_,rfl,rfl,⟨_,rfl,rfl⟩,⟨rfl,_,rfl,rfl⟩⟩⟩⟩,by decide,Tryd.eqGuardType62,Tryd.stoodInHeld62⟩⟩
theorem ty74:TyOk Tryd.prog X0 74 ⟨(.fn1 (.int .i64) .bool .z),8,.func⟩:=⟨⟨Tryd.t74,Tryd.type74,rfl,by decide,by decide,trivial⟩,⟨⟨_,_,_,Tryd.underlying74⟩,.inl ⟨_,_,_,rfl⟩⟩⟩
theorem ty115:TyOk Tryd.prog X0 115 ⟨(.list (.int .i64)),24,.slice 3⟩:=⟨⟨Tryd.t115,Tryd.type115,rfl,by decide,by decide,rfl⟩,⟨Tryd.underlying115,_,rfl,rfl⟩⟩
theorem tysOk:TysOk Tryd.prog X0:=tysOk_of ⟨ty2,ty3,ty4,ty5,ty9,ty22,ty24,ty28,ty29,ty32,ty34,ty39,ty47,ty48,ty50,ty52,ty54,ty57,ty58,ty60,ty62,ty74,ty115,trivial⟩
theorem follows:Tryd.prog.follows .mixedOrders=true:=by kernel_rfl
end DL
end Go.Dx
set_option maxRecDepth 100000
set_option maxHeartbeats 0
namespace Go.Dx
open Go.Proofs
namespace DL

noncomputable def F_spec_l2Cut (x0:List UInt8) (x1:Int):Option (List (List UInt8)):=
 (loopO (S:=List (List UInt8)×Int×Int) (X:=List (List UInt8)) (fun (s13:List (List UInt8)×Int×Int)=>
 bif (decide ((s13.2.2:Int)≤(List.length x0:Int))) then
 (bif (decide ((s13.2.2:Int)=(List.length x0:Int))) then
 some true
 else
 bif (inB s13.2.2 x0) then
 some (decide ((((List.getD x0 (Int.toNat s13.2.2) 0).toNat:Int):Int)=x1))
 else none:Option (Bool)).bind fun (j14:Bool)=>
 (bif j14 then
 bif (cutOk s13.2.1 s13.2.2 x0) then
 bif decide (List.length s13.1+List.length ([cut s13.2.1 s13.2.2 x0]:List (List UInt8))≤LIM) then
 some (List.append s13.1 ([cut s13.2.1 s13.2.2 x0]:List (List UInt8)),IntKind.wrap .i64 (s13.2.2+1))
 else none
 else none
 else
 some (s13.1,s13.2.1):Option (List (List UInt8)×Int)).bind fun (j15:List (List UInt8)×Int)=>
 some (Sum.inl (j15.1,(j15.2,IntKind.wrap .i64 (s13.2.2+1))))
 else
 some (Sum.inr s13.1)) (([]:List (List UInt8)),(0,0))).bind fun (j16:List (List UInt8))=>
 some j16
noncomputable def K_spec_l2Cut:Callee:={ ins:=[.v .str .z,.v (.int .u8) .z],outs:=[((.list .str),(.o .z))],F:=fun t=>F_spec_l2Cut t.1 t.2.1 }
noncomputable def X_spec_l2Cut:Ctx:={ tys:=tys,fns:=[],frz:=[],lps:=[(4,(⟨[(0,.keep),(1,.keep),(5,.st (.list .str) (.o .z) false),(6,.st (.int .i64) .z false),(7,.st (.int .i64) .z false)],[]⟩,⟨[((.exit 0),⟨[(5,.st (.list .str) (.o .z) false)],[]⟩)]⟩))],jns:=[(7,⟨[(.normal,⟨[(0,.keep),(1,.keep),(5,.st (.list .str) (.o .z) false),(6,.st (.int .i64) .z false),(7,.keep)],[]⟩)]⟩)],rjs:=[(6,⟨[(0,.keep),(1,.keep),(5,.keep),(6,.keep),(7,.keep),(25,.st .bool .z false)],[]⟩)] }
noncomputable def F_spec_l16Words (x0:List UInt8):Option (List (List UInt8)):=
 (F_spec_l2Cut x0 32).bind fun (y7:List (List UInt8))=>
 (loopO (S:=List (List UInt8)×Int) (X:=List (List UInt8)) (fun (s10:List (List UInt8)×Int)=>
 bif (decide ((s10.2:Int)<(List.length y7:Int))) then
 bif (inB s10.2 y7) then
 (bif (!decide ((List.getD y7 (Int.toNat s10.2) []:List UInt8)=[])) then
 bif (inB s10.2 y7) then
 bif decide (List.length s10.1+List.length ([List.getD y7 (Int.toNat s10.2) []]:List (List UInt8))≤LIM) then
 some (List.append s10.1 ([List.getD y7 (Int.toNat s10.2) []]:List (List UInt8)))
 else none
 else none
 else
 some s10.1:Option (List (List UInt8))).bind fun (j11:List (List UInt8))=>
 some (Sum.inl (j11,IntKind.wrap .i64 (s10.2+1)))
 else none
 else
 some (Sum.inr s10.1)) (([]:List (List UInt8)),0)).bind fun (j12:List (List UInt8))=>
 some j12
noncomputable def K_spec_l16Words:Callee:={ ins:=[.v .str .z],outs:=[((.list .str),(.o .z))],F:=fun t=>F_spec_l16Words t.1 }
noncomputable def X_spec_l16Words:Ctx:={ tys:=tys,fns:=[(33,K_spec_l2Cut)],frz:=[],lps:=[(4,(⟨[(3,.st (.list .str) (.o .z) false),(4,.keep),(5,.st (.int .i64) .z false)],[]⟩,⟨[((.exit 0),⟨[(3,.st (.list .str) (.o .z) false)],[]⟩)]⟩))],jns:=[(7,⟨[(.normal,⟨[(3,.st (.list .str) (.o .z) false),(4,.keep),(5,.keep)],[]⟩)]⟩)],rjs:=[] }
noncomputable def F_spec_WordsOf (x0:List UInt8):Option (Int×List (List UInt8)):=
 (F_spec_l16Words x0).bind fun (y2:List (List UInt8))=>
 some (0,y2)
noncomputable def K_spec_WordsOf:Callee:={ ins:=[.v .str .z],outs:=[(s0,(.p .z (.o .z)))],F:=fun t=>F_spec_WordsOf t.1 }
noncomputable def X_spec_WordsOf:Ctx:={ tys:=tys,fns:=[(19,K_spec_l16Words)],frz:=[],lps:=[],jns:=[],rjs:=[] }
noncomputable def F_slices_IndexFunc_Lstring_string (x0:List (List UInt8)) (x1:(List UInt8)→Option Bool):Option (Int):=
 (loopO (S:=Int) (X:=(Unit)⊕(Int)) (fun (s10:Int)=>
 bif (decide ((s10:Int)<(List.length x0:Int))) then
 bif (inB s10 x0) then
 (x1 (List.getD x0 (Int.toNat s10) [])).bind fun (y11:Bool)=>
 bif y11 then
 some (Sum.inr (Sum.inr s10))
 else
 some (Sum.inl (IntKind.wrap .i64 (s10+1)))
 else none
 else
 some (Sum.inr (Sum.inl ()))) 0).bind fun (j12:(Unit)⊕(Int))=>
 Sum.elim (fun (j13:Unit)=>
 some (-1)) (fun (j14:Int)=>
 some j14) j12
noncomputable def K_slices_IndexFunc_Lstring_string:Callee:={ ins:=[.v (.list .str) .z,.v (.fn1 .str .bool .z) .z],outs:=[((.int .i64),.z)],F:=fun t=>F_slices_IndexFunc_Lstring_string t.1 t.2.1 }
noncomputable def X_slices_IndexFunc_Lstring_string:Ctx:={ tys:=tys,fns:=[],frz:=[],lps:=[(2,(⟨[(0,.keep),(1,.keep),(7,.keep),(8,.st (.int .i64) .z false)],[]⟩,⟨[((.exit 0),⟨[],[]⟩),(.ret,⟨[(4,.st (.int .i64) .z false)],[]⟩)]⟩))],jns:=[],rjs:=[] }
noncomputable def F_slices_DeleteFunc_Lstring_string (x0:List (List UInt8)) (x1:(List UInt8)→Option Bool):Option (List (List UInt8)):=
 (F_slices_IndexFunc_Lstring_string x0 x1).bind fun (y10:Int)=>
 bif (decide ((y10:Int)=(-1))) then
 some x0
 else
 (loopO (S:=List (List UInt8)×Int×Int) (X:=List (List UInt8)×Int) (fun (s15:List (List UInt8)×Int×Int)=>
 bif (decide ((s15.2.2:Int)<(List.length s15.1:Int))) then
 bif (inB s15.2.2 s15.1) then
 (x1 (List.getD s15.1 (Int.toNat s15.2.2) [])).bind fun (y16:Bool)=>
 (bif (!y16) then
 bif (inB s15.2.1 s15.1) then
 some (List.set s15.1 (Int.toNat s15.2.1) (List.getD s15.1 (Int.toNat s15.2.2) []),IntKind.wrap .i64 (s15.2.1+1))
 else none
 else
 some (s15.1,s15.2.1):Option (List (List UInt8)×Int)).bind fun (j17:List (List UInt8)×Int)=>
 some (Sum.inl (j17.1,(j17.2,IntKind.wrap .i64 (s15.2.2+1))))
 else none
 else
 some (Sum.inr (s15.1,s15.2.1))) (x0,(y10,IntKind.wrap .i64 (y10+1)))).bind fun (j18:List (List UInt8)×Int)=>
 bif (cutOk j18.2 (List.length j18.1:Int) j18.1) then
 bif (cutOk 0 j18.2 (clr (s:=.str) j18.2 (List.length j18.1:Int) j18.1)) then
 some (List.take (Int.toNat (j18.2 - 0)) (List.drop (Int.toNat 0) (clr (s:=.str) j18.2 (List.length j18.1:Int) j18.1)))
 else none
 else none
noncomputable def K_slices_DeleteFunc_Lstring_string:Callee:={ ins:=[.v (.list .str) (.o .z),.v (.fn1 .str .bool .z) .z],outs:=[((.list .str),(.o .z))],F:=fun t=>F_slices_DeleteFunc_Lstring_string t.1 t.2.1 }
noncomputable def X_slices_DeleteFunc_Lstring_string:Ctx:={ tys:=tys,fns:=[(60,K_slices_IndexFunc_Lstring_string)],frz:=[],lps:=[(5,(⟨[(0,.st (.list .str) (.o .z) false),(1,.keep),(5,.st (.int .i64) .z false),(6,.st (.int .i64) .z false)],[]⟩,⟨[((.exit 0),⟨[(0,.st (.list .str) (.o .z) false),(5,.st (.int .i64) .z false)],[]⟩)]⟩))],jns:=[(9,⟨[(.normal,⟨[(0,.st (.list .str) (.o .z) false),(1,.keep),(5,.st (.int .i64) .z false),(6,.keep)],[]⟩)]⟩)],rjs:=[] }
noncomputable def F_strings_Split (x0:List UInt8) (x1:List UInt8):Option (List (List UInt8)):=
 splitS x0 x1
noncomputable def K_strings_Split:Callee:={ ins:=[.v .str .z,.v .str .z],outs:=[((.list .str),(.o .z))],F:=fun t=>F_strings_Split t.1 t.2.1 }
noncomputable def F_impl_wordsOf_c1 (x0:List UInt8):Option (Bool):=
 some (decide ((x0:List UInt8)=[]))
noncomputable def K_impl_wordsOf_c1:Callee:={ ins:=[.v .str .z],outs:=[(.bool,.z)],F:=fun t=>F_impl_wordsOf_c1 t.1 }
noncomputable def X_impl_wordsOf_c1:Ctx:={ tys:=tys,fns:=[],frz:=[],lps:=[],jns:=[],rjs:=[] }
noncomputable def F_impl_wordsOf (x0:List UInt8):Option (List (List UInt8)):=
 (F_strings_Split x0 [32]).bind fun (y5:List (List UInt8))=>
 (F_slices_DeleteFunc_Lstring_string y5 (fun (a6:List UInt8)=>(F_impl_wordsOf_c1 a6).bind fun r7=>some r7)).bind fun (y8:List (List UInt8))=>
 some y8
noncomputable def K_impl_wordsOf:Callee:={ ins:=[.v .str .z],outs:=[((.list .str),(.o .z))],F:=fun t=>F_impl_wordsOf t.1 }
noncomputable def X_impl_wordsOf:Ctx:={ tys:=tys,fns:=[(34,K_slices_DeleteFunc_Lstring_string),(35,K_strings_Split),(36,K_impl_wordsOf_c1)],frz:=[],lps:=[],jns:=[],rjs:=[] }
noncomputable def F_impl_WordsOf (x0:List UInt8):Option (Int×List (List UInt8)):=
 (F_impl_wordsOf x0).bind fun (y2:List (List UInt8))=>
 some (0,y2)
noncomputable def K_impl_WordsOf:Callee:={ ins:=[.v .str .z],outs:=[(s0,(.p .z (.o .z)))],F:=fun t=>F_impl_WordsOf t.1 }
noncomputable def X_impl_WordsOf:Ctx:={ tys:=tys,fns:=[(20,K_impl_wordsOf)],frz:=[],lps:=[],jns:=[],rjs:=[] }
noncomputable def F_laws_eqStringS (x0:List (List UInt8)) (x1:List (List UInt8)):Option (Bool):=
 bif (!decide (((List.length x0:Int):Int)=(List.length x1:Int))) then
 some false
 else
 (loopO (S:=Int) (X:=(Unit)⊕(Bool)) (fun (s5:Int)=>
 bif (decide ((s5:Int)<(List.length x0:Int))) then
 bif (inB s5 x0) then
 bif (inB s5 x1) then
 bif (!decide ((List.getD x0 (Int.toNat s5) []:List UInt8)=List.getD x1 (Int.toNat s5) [])) then
 some (Sum.inr (Sum.inr false))
 else
 some (Sum.inl (IntKind.wrap .i64 (s5+1)))
 else none
 else none
 else
 some (Sum.inr (Sum.inl ()))) 0).bind fun (j6:(Unit)⊕(Bool))=>
 Sum.elim (fun (j7:Unit)=>
 some true) (fun (j8:Bool)=>
 some j8) j6
noncomputable def K_laws_eqStringS:Callee:={ ins:=[.v (.list .str) .z,.v (.list .str) .z],outs:=[(.bool,.z)],F:=fun t=>F_laws_eqStringS t.1 t.2.1 }
noncomputable def X_laws_eqStringS:Ctx:={ tys:=tys,fns:=[],frz:=[],lps:=[(4,(⟨[(0,.keep),(1,.keep),(5,.st (.int .i64) .z false)],[]⟩,⟨[((.exit 0),⟨[],[]⟩),(.ret,⟨[(4,.st .bool .z false)],[]⟩)]⟩))],jns:=[],rjs:=[] }
noncomputable def F_laws_eqWordsResult (x0:Int×List (List UInt8)) (x1:Int×List (List UInt8)):Option (Bool):=
 bif (!decide ((x0.1:Int)=x1.1)) then
 some false
 else
 (F_laws_eqStringS x0.2 x1.2).bind fun (y2:Bool)=>
 bif (!y2) then
 some false
 else
 some true
noncomputable def K_laws_eqWordsResult:Callee:={ ins:=[.v s0 .z,.v s0 .z],outs:=[(.bool,.z)],F:=fun t=>F_laws_eqWordsResult t.1 t.2.1 }
noncomputable def X_laws_eqWordsResult:Ctx:={ tys:=tys,fns:=[(21,K_laws_eqStringS)],frz:=[],lps:=[],jns:=[],rjs:=[] }
noncomputable def F_laws_markText (x0:Int):Option (List UInt8):=
 bif (decide ((x0:Int)≤0)) then
 some [109,48]
 else
 (loopO (S:=Int×List UInt8) (X:=List UInt8) (fun (s3:Int×List UInt8)=>
 bif (decide ((0:Int)<s3.1)) then
 bif decide (List.length (List.map (fun (b:Int)=>UInt8.ofNat b.toNat) ([IntKind.wrap .u8 (IntKind.wrap .i64 (48+(Int.tmod s3.1 10)))]:List Int))+List.length s3.2≤LIM) then
 some (Sum.inl (IntKind.wrap .i64 (Int.tdiv s3.1 10),List.append (List.map (fun (b:Int)=>UInt8.ofNat b.toNat) ([IntKind.wrap .u8 (IntKind.wrap .i64 (48+(Int.tmod s3.1 10)))]:List Int)) s3.2))
 else none
 else
 some (Sum.inr s3.2)) (x0,[])).bind fun (j4:List UInt8)=>
 bif decide (List.length [109]+List.length j4≤LIM) then
 some (List.append [109] j4)
 else none
noncomputable def K_laws_markText:Callee:={ ins:=[.v (.int .i64) .z],outs:=[(.str,.z)],F:=fun t=>F_laws_markText t.1 }
noncomputable def X_laws_markText:Ctx:={ tys:=tys,fns:=[],frz:=[],lps:=[(4,(⟨[(0,.st (.int .i64) .z false),(3,.st .str .z false)],[]⟩,⟨[((.exit 0),⟨[(3,.st .str .z false)],[]⟩)]⟩))],jns:=[],rjs:=[] }
noncomputable def F_laws_markStringS (x0:List (List UInt8)) (x1:Int):Option (Int×List (List UInt8)):=
 (loopO (S:=List (List UInt8)×Int×Int) (X:=List (List UInt8)×Int) (fun (s8:List (List UInt8)×Int×Int)=>
 bif (decide ((s8.2.2:Int)<(List.length s8.1:Int))) then
 (F_laws_markText s8.2.1).bind fun (y9:List UInt8)=>
 bif (inB s8.2.2 s8.1) then
 some (Sum.inl (List.set s8.1 (Int.toNat s8.2.2) y9,(IntKind.wrap .i64 (s8.2.1+1),IntKind.wrap .i64 (s8.2.2+1))))
 else none
 else
 some (Sum.inr (s8.1,s8.2.1))) (x0,(x1,0))).bind fun (j10:List (List UInt8)×Int)=>
 some (j10.2,j10.1)
noncomputable def K_laws_markStringS:Callee:={ ins:=[.mu (.list .str) (.o .z) (.o .z),.v (.int .i64) .z],outs:=[((.int .i64),.z)],F:=fun t=>F_laws_markStringS t.1 t.2.1 }
noncomputable def X_laws_markStringS:Ctx:={ tys:=tys,fns:=[(37,K_laws_markText)],frz:=[],lps:=[(2,(⟨[(0,.st (.list .str) (.o .z) false),(1,.st (.int .i64) .z false),(5,.st (.int .i64) .z false)],[]⟩,⟨[((.exit 0),⟨[(0,.st (.list .str) (.o .z) false),(1,.st (.int .i64) .z false)],[]⟩)]⟩))],jns:=[],rjs:=[] }
noncomputable def F_laws_markWordsResult (x0:Int×List (List UInt8)) (x1:Int):Option (Int×Int×List (List UInt8)):=
 (F_laws_markStringS x0.2 x1).bind fun (y2:Int×List (List UInt8))=>
 some (y2.1,(x0.1,y2.2))
noncomputable def K_laws_markWordsResult:Callee:={ ins:=[.mu s0 (.p .z (.o .z)) (.p .z (.o .z)),.v (.int .i64) .z],outs:=[((.int .i64),.z)],F:=fun t=>F_laws_markWordsResult t.1 t.2.1 }
noncomputable def X_laws_markWordsResult:Ctx:={ tys:=tys,fns:=[(22,K_laws_markStringS)],frz:=[],lps:=[],jns:=[],rjs:=[] }
noncomputable def F_laws_heldStringS (x0:List (List UInt8)) (x1:Int):Option (Int):=
 (loopO (S:=Int×Int) (X:=(Int)⊕(Int)) (fun (s10:Int×Int)=>
 bif (decide ((s10.2:Int)<(List.length x0:Int))) then
 bif (inB s10.2 x0) then
 (F_laws_markText s10.1).bind fun (y11:List UInt8)=>
 bif (!decide ((List.getD x0 (Int.toNat s10.2) []:List UInt8)=y11)) then
 some (Sum.inr (Sum.inr (-1)))
 else
 some (Sum.inl (IntKind.wrap .i64 (s10.1+1),IntKind.wrap .i64 (s10.2+1)))
 else none
 else
 some (Sum.inr (Sum.inl s10.1))) (x1,0)).bind fun (j12:(Int)⊕(Int))=>
 Sum.elim (fun (j13:Int)=>
 some j13) (fun (j14:Int)=>
 some j14) j12
noncomputable def K_laws_heldStringS:Callee:={ ins:=[.v (.list .str) .z,.v (.int .i64) .z],outs:=[((.int .i64),.z)],F:=fun t=>F_laws_heldStringS t.1 t.2.1 }
noncomputable def X_laws_heldStringS:Ctx:={ tys:=tys,fns:=[(37,K_laws_markText)],frz:=[],lps:=[(2,(⟨[(0,.keep),(1,.st (.int .i64) .z false),(5,.st (.int .i64) .z false)],[]⟩,⟨[((.exit 0),⟨[(1,.st (.int .i64) .z false)],[]⟩),(.ret,⟨[(4,.st (.int .i64) .z false)],[]⟩)]⟩))],jns:=[],rjs:=[] }
noncomputable def F_laws_heldWordsResult (x0:Int×List (List UInt8)) (x1:Int):Option (Int):=
 (F_laws_heldStringS x0.2 x1).bind fun (y2:Int)=>
 bif (decide ((y2:Int)<0)) then
 some (-1)
 else
 some y2
noncomputable def K_laws_heldWordsResult:Callee:={ ins:=[.v s0 .z,.v (.int .i64) .z],outs:=[((.int .i64),.z)],F:=fun t=>F_laws_heldWordsResult t.1 t.2.1 }
noncomputable def X_laws_heldWordsResult:Ctx:={ tys:=tys,fns:=[(23,K_laws_heldStringS)],frz:=[],lps:=[],jns:=[],rjs:=[] }
noncomputable def F_laws_FnExactWordsOf (x0:List UInt8):Option (Bool):=
 bif (decide ((1048576:Int)<(List.length x0:Int))) then
 some true
 else
 (F_spec_WordsOf x0).bind fun (y9:Int×List (List UInt8))=>
 (F_impl_WordsOf x0).bind fun (y10:Int×List (List UInt8))=>
 (F_laws_eqWordsResult y10 y9).bind fun (y11:Bool)=>
 bif (!y11) then
 some false
 else
 (F_laws_markWordsResult y10 1).bind fun (y12:Int×Int×List (List UInt8))=>
 (F_laws_heldWordsResult y12.2 1).bind fun (y13:Int)=>
 bif (decide ((y13:Int)<0)) then
 some false
 else
 bif (!decide ((y13:Int)=y12.1)) then
 some false
 else
 (F_impl_WordsOf x0).bind fun (y14:Int×List (List UInt8))=>
 (F_laws_eqWordsResult y14 y9).bind fun (y15:Bool)=>
 bif (!y15) then
 some false
 else
 (F_laws_heldWordsResult y12.2 1).bind fun (y16:Int)=>
 bif (decide ((y16:Int)<0)) then
 some false
 else
 bif (!decide ((y16:Int)=y12.1)) then
 some false
 else
 some true
noncomputable def K_laws_FnExactWordsOf:Callee:={ ins:=[.v .str .z],outs:=[(.bool,.z)],F:=fun t=>F_laws_FnExactWordsOf t.1 }
noncomputable def X_laws_FnExactWordsOf:Ctx:={ tys:=tys,fns:=[(6,K_spec_WordsOf),(7,K_impl_WordsOf),(8,K_laws_eqWordsResult),(9,K_laws_markWordsResult),(10,K_laws_heldWordsResult)],frz:=[],lps:=[],jns:=[],rjs:=[] }
end DL
end Go.Dx

