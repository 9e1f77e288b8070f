/- What each function computes, as a function of plain data (F), its parameters (K) and hints for the executor (X); the types -/
import Derived.Test.YtoopijohnkgagaaDoorDxd
import Derived.Test.YtoopijohnkgagaaDoorProg
import Derived.KernelRfl
set_option linter.unusedVariables false
set_option linter.unusedSimpArgs false
set_option maxRecDepth 100000
set_option maxHeartbeats 0
namespace Go.Dx
open Go.Proofs
namespace DL
def s0:Sh:=(.prod (.int .i64) (.list .str))
def s1:Sh:=(.prod (.int .i64) .str)
def s2:Sh:=(.prod (.int .i64) (.int .i64))
def s3:Sh:=(.prod (.list (.int .i64)) s2)
def s4:Sh:=(.prod (.int .i64) s3)
def s5:Sh:=(.prod (.int .i64) .bool)
def s6:Sh:=(.prod s4 s5)
def s7:Sh:=(.prod s2 s6)
def s8:Sh:=(.prod (.list (.int .u8)) (.int .i64))
def s9:Sh:=(.prod (.int .i64) (.list s7))
def tys:List (TypeId×TI):=[(2,⟨(.int .i64),8,.int .i64⟩),
 (3,⟨(.int .i64),8,.int .i64⟩),
 (4,⟨.bool,1,.bool⟩),
 (5,⟨(.int .u8),1,.int .u8⟩),
 (9,⟨.str,16,.str⟩),
 (22,⟨(.list .str),24,.slice 9⟩),
 (24,⟨s0,32,.struct [(0,2),(1,22)]⟩),
 (28,⟨(.fn1 .str .bool .z),8,.func⟩),
 (32,⟨s1,24,.struct [(0,2),(1,9)]⟩),
 (34,⟨(.list s7),24,.slice 62⟩),
 (39,⟨(.list (.int .u8)),24,.slice 5⟩),
 (48,⟨(.list (.int .i64)),24,.slice 2⟩),
 (57,⟨s2,16,.struct [(0,2),(1,2)]⟩),
 (58,⟨s3,40,.struct [(0,48),(1,2),(2,2)]⟩),
 (60,⟨s4,48,.struct [(0,2),(1,58)]⟩),
 (62,⟨s7,80,.struct [(0,57),(2,60),(6,2),(7,4)]⟩),
 (74,⟨(.fn1 (.int .i64) .bool .z),8,.func⟩),
 (93,⟨s8,32,.struct [(0,39),(1,2)]⟩),
 (106,⟨s9,32,.struct [(0,2),(1,34)]⟩),
 (108,⟨(.list s4),24,.slice 60⟩),
 (115,⟨(.list (.int .i64)),24,.slice 3⟩)]
def X0:Ctx:={ tys:=tys,fns:=[],frz:=[],lps:=[],jns:=[],rjs:=[] }
theorem ty2:TyOk Tryd.prog X0 2 ⟨(.int .i64),8,.int .i64⟩:=⟨⟨Tryd.t2,Tryd.type2,rfl,by decide,by decide,rfl⟩,⟨Tryd.underlying2,rfl⟩⟩
theorem ty3:TyOk Tryd.prog X0 3 ⟨(.int .i64),8,.int .i64⟩:=⟨⟨Tryd.t3,Tryd.type3,rfl,by decide,by decide,rfl⟩,⟨Tryd.underlying3,rfl⟩⟩
theorem ty4:TyOk Tryd.prog X0 4 ⟨.bool,1,.bool⟩:=⟨⟨Tryd.t4,Tryd.type4,rfl,by decide,by decide,rfl⟩,⟨Tryd.underlying4,rfl⟩⟩
theorem ty5:TyOk Tryd.prog X0 5 ⟨(.int .u8),1,.int .u8⟩:=⟨⟨Tryd.t5,Tryd.type5,rfl,by decide,by decide,rfl⟩,⟨Tryd.underlying5,rfl⟩⟩
theorem ty9:TyOk Tryd.prog X0 9 ⟨.str,16,.str⟩:=⟨⟨Tryd.t9,Tryd.type9,rfl,by decide,by decide,rfl⟩,⟨Tryd.underlying9,rfl⟩⟩
theorem ty22:TyOk Tryd.prog X0 22 ⟨(.list .str),24,.slice 9⟩:=⟨⟨Tryd.t22,Tryd.type22,rfl,by decide,by decide,rfl⟩,⟨Tryd.underlying22,_,rfl,rfl⟩⟩
theorem ty24:TyOk Tryd.prog X0 24 ⟨s0,32,.struct [(0,2),(1,22)]⟩:=⟨⟨Tryd.t24,Tryd.type24,rfl,by decide,by decide,rfl⟩,⟨⟨_,Tryd.underlying24,rfl,by simp⟩,⟨_,_,rfl,rfl,⟨_,rfl,rfl⟩,⟨rfl,_,rfl,rfl⟩⟩,by decide,Tryd.eqGuardType24,Tryd.stoodInHeld24⟩⟩
theorem ty28:TyOk Tryd.prog X0 28 ⟨(.fn1 .str .bool .z),8,.func⟩:=⟨⟨Tryd.t28,Tryd.type28,rfl,by decide,by decide,trivial⟩,⟨⟨_,_,_,Tryd.underlying28⟩,.inl ⟨_,_,_,rfl⟩⟩⟩
theorem ty32:TyOk Tryd.prog X0 32 ⟨s1,24,.struct [(0,2),(1,9)]⟩:=⟨⟨Tryd.t32,Tryd.type32,rfl,by decide,by decide,rfl⟩,⟨⟨_,Tryd.underlying32,rfl,by simp⟩,⟨_,_,rfl,rfl,⟨_,rfl,rfl⟩,⟨rfl,_,rfl,rfl⟩⟩,by decide,Tryd.eqGuardType32,Tryd.stoodInHeld32⟩⟩
theorem ty34:TyOk Tryd.prog X0 34 ⟨(.list s7),24,.slice 62⟩:=⟨⟨Tryd.t34,Tryd.type34,rfl,by decide,by decide,rfl⟩,⟨Tryd.underlying34,_,rfl,rfl⟩⟩
theorem ty39:TyOk Tryd.prog X0 39 ⟨(.list (.int .u8)),24,.slice 5⟩:=⟨⟨Tryd.t39,Tryd.type39,rfl,by decide,by decide,rfl⟩,⟨Tryd.underlying39,_,rfl,rfl⟩⟩
theorem ty48:TyOk Tryd.prog X0 48 ⟨(.list (.int .i64)),24,.slice 2⟩:=⟨⟨Tryd.t48,Tryd.type48,rfl,by decide,by decide,rfl⟩,⟨Tryd.underlying48,_,rfl,rfl⟩⟩
theorem ty57:TyOk Tryd.prog X0 57 ⟨s2,16,.struct [(0,2),(1,2)]⟩:=⟨⟨Tryd.t57,Tryd.type57,rfl,by decide,by decide,rfl⟩,⟨⟨_,Tryd.underlying57,rfl,by simp⟩,⟨_,_,rfl,rfl,⟨_,rfl,rfl⟩,⟨rfl,_,rfl,rfl⟩⟩,by decide,Tryd.eqGuardType57,Tryd.stoodInHeld57⟩⟩
theorem ty58:TyOk Tryd.prog X0 58 ⟨s3,40,.struct [(0,48),(1,2),(2,2)]⟩:=⟨⟨Tryd.t58,Tryd.type58,rfl,by decide,by decide,rfl⟩,⟨⟨_,Tryd.underlying58,rfl,by simp⟩,⟨_,_,rfl,rfl,⟨_,rfl,rfl⟩,⟨_,_,rfl,rfl,⟨_,rfl,rfl⟩,⟨rfl,_,rfl,rfl⟩⟩⟩,by decide,Tryd.eqGuardType58,Tryd.stoodInHeld58⟩⟩
theorem ty60:TyOk Tryd.prog X0 60 ⟨s4,48,.struct [(0,2),(1,58)]⟩:=⟨⟨Tryd.t60,Tryd.type60,rfl,by decide,by decide,rfl⟩,⟨⟨_,Tryd.underlying60,rfl,by simp⟩,⟨_,_,rfl,rfl,⟨_,rfl,rfl⟩,⟨rfl,_,rfl,rfl⟩⟩,by decide,Tryd.eqGuardType60,Tryd.stoodInHeld60⟩⟩
theorem ty62:TyOk Tryd.prog X0 62 ⟨s7,80,.struct [(0,57),(2,60),(6,2),(7,4)]⟩:=⟨⟨Tryd.t62,Tryd.type62,rfl,by decide,by decide,rfl⟩,⟨⟨_,Tryd.underlying62,rfl,by simp⟩,⟨_,_,rfl,rfl,⟨_,rfl,rfl⟩,⟨_,_,rfl,rfl,⟨_,rfl,rfl⟩,⟨_,_,rfl,rfl,⟨_,rfl,rfl⟩,⟨rfl,_,rfl,rfl⟩⟩⟩⟩,by decide,Tryd.eqGuardType62,Tryd.stoodInHeld62⟩⟩
theorem ty74:TyOk Tryd.prog X0 74 ⟨(.fn1 (.int .i64) .bool .z),8,.func⟩:=⟨⟨Tryd.t74,Tryd.type74,rfl,by decide,by decide,trivial⟩,⟨⟨_,_,_,Tryd.underlying74⟩,.inl ⟨_,_,_,rfl⟩⟩⟩
theorem ty93:TyOk Tryd.prog X0 93 ⟨s8,32,.struct [(0,39),(1,2)]⟩:=⟨⟨Tryd.t93,Tryd.type93,rfl,by decide,by decide,rfl⟩,⟨⟨_,Tryd.underlying93,rfl,by simp⟩,⟨_,_,rfl,rfl,⟨_,rfl,rfl⟩,⟨rfl,_,rfl,rfl⟩⟩,by decide,Tryd.eqGuardType93,Tryd.stoodInHeld93⟩⟩
theorem ty106:TyOk Tryd.prog X0 106 ⟨s9,32,.struct [(0,2),(1,34)]⟩:=⟨⟨Tryd.t106,Tryd.type106,rfl,by decide,by decide,rfl⟩,⟨⟨_,Tryd.underlying106,rfl,by simp⟩,⟨_,_,rfl,rfl,⟨_,rfl,rfl⟩,⟨rfl,_,rfl,rfl⟩⟩,by decide,Tryd.eqGuardType106,Tryd.stoodInHeld106⟩⟩
theorem ty108:TyOk Tryd.prog X0 108 ⟨(.list s4),24,.slice 60⟩:=⟨⟨Tryd.t108,Tryd.type108,rfl,by decide,by decide,rfl⟩,⟨Tryd.underlying108,_,rfl,rfl⟩⟩
theorem ty115:TyOk Tryd.prog X0 115 ⟨(.list (.int .i64)),24,.slice 3⟩:=⟨⟨Tryd.t115,Tryd.type115,rfl,by decide,by decide,rfl⟩,⟨Tryd.underlying115,_,rfl,rfl⟩⟩
theorem tysOk:TysOk Tryd.prog X0:=tysOk_of ⟨ty2,ty3,ty4,ty5,ty9,ty22,ty24,ty28,ty32,ty34,ty39,ty48,ty57,ty58,ty60,ty62,ty74,ty93,ty106,ty108,ty115,trivial⟩
theorem follows:Tryd.prog.follows .mixedOrders=true:=by kernel_rfl
end DL
end Go.Dx
set_option maxRecDepth 100000
set_option maxHeartbeats 0
namespace Go.Dx
open Go.Proofs
namespace DL

noncomputable def F_slices_IndexFunc_Lstring_string (x0:List (List UInt8)) (x1:(List UInt8)→Option Bool):Option (Int):=
 (loopO (S:=Int) (X:=(Unit)⊕(Int)) (fun (s10:Int)=>
 bif (decide ((s10:Int)<(List.length x0:Int))) then
 bif (inB s10 x0) then
 (x1 (List.getD x0 (Int.toNat s10) [])).bind fun (y11:Bool)=>
 bif y11 then
 some (Sum.inr (Sum.inr s10))
 else
 some (Sum.inl (IntKind.wrap .i64 (s10+1)))
 else none
 else
 some (Sum.inr (Sum.inl ()))) 0).bind fun (j12:(Unit)⊕(Int))=>
 Sum.elim (fun (j13:Unit)=>
 some (-1)) (fun (j14:Int)=>
 some j14) j12
noncomputable def K_slices_IndexFunc_Lstring_string:Callee:={ ins:=[.v (.list .str) .z,.v (.fn1 .str .bool .z) .z],outs:=[((.int .i64),.z)],F:=fun t=>F_slices_IndexFunc_Lstring_string t.1 t.2.1 }
noncomputable def X_slices_IndexFunc_Lstring_string:Ctx:={ tys:=tys,fns:=[],frz:=[],lps:=[(2,(⟨[(0,.keep),(1,.keep),(7,.keep),(8,.st (.int .i64) .z false)],[]⟩,⟨[((.exit 0),⟨[],[]⟩),(.ret,⟨[(4,.st (.int .i64) .z false)],[]⟩)]⟩))],jns:=[],rjs:=[] }
noncomputable def F_slices_DeleteFunc_Lstring_string (x0:List (List UInt8)) (x1:(List UInt8)→Option Bool):Option (List (List UInt8)):=
 (F_slices_IndexFunc_Lstring_string x0 x1).bind fun (y10:Int)=>
 bif (decide ((y10:Int)=(-1))) then
 some x0
 else
 (loopO (S:=List (List UInt8)×Int×Int) (X:=List (List UInt8)×Int) (fun (s15:List (List UInt8)×Int×Int)=>
 bif (decide ((s15.2.2:Int)<(List.length s15.1:Int))) then
 bif (inB s15.2.2 s15.1) then
 (x1 (List.getD s15.1 (Int.toNat s15.2.2) [])).bind fun (y16:Bool)=>
 (bif (!y16) then
 bif (inB s15.2.1 s15.1) then
 some (List.set s15.1 (Int.toNat s15.2.1) (List.getD s15.1 (Int.toNat s15.2.2) []),IntKind.wrap .i64 (s15.2.1+1))
 else none
 else
 some (s15.1,s15.2.1):Option (List (List UInt8)×Int)).bind fun (j17:List (List UInt8)×Int)=>
 some (Sum.inl (j17.1,(j17.2,IntKind.wrap .i64 (s15.2.2+1))))
 else none
 else
 some (Sum.inr (s15.1,s15.2.1))) (x0,(y10,IntKind.wrap .i64 (y10+1)))).bind fun (j18:List (List UInt8)×Int)=>
 bif (cutOk j18.2 (List.length j18.1:Int) j18.1) then
 bif (cutOk 0 j18.2 (clr (s:=.str) j18.2 (List.length j18.1:Int) j18.1)) then
 some (List.take (Int.toNat (j18.2 - 0)) (List.drop (Int.toNat 0) (clr (s:=.str) j18.2 (List.length j18.1:Int) j18.1)))
 else none
 else none
noncomputable def K_slices_DeleteFunc_Lstring_string:Callee:={ ins:=[.v (.list .str) (.o .z),.v (.fn1 .str .bool .z) .z],outs:=[((.list .str),(.o .z))],F:=fun t=>F_slices_DeleteFunc_Lstring_string t.1 t.2.1 }
noncomputable def X_slices_DeleteFunc_Lstring_string:Ctx:={ tys:=tys,fns:=[(60,K_slices_IndexFunc_Lstring_string)],frz:=[],lps:=[(5,(⟨[(0,.st (.list .str) (.o .z) false),(1,.keep),(5,.st (.int .i64) .z false),(6,.st (.int .i64) .z false)],[]⟩,⟨[((.exit 0),⟨[(0,.st (.list .str) (.o .z) false),(5,.st (.int .i64) .z false)],[]⟩)]⟩))],jns:=[(9,⟨[(.normal,⟨[(0,.st (.list .str) (.o .z) false),(1,.keep),(5,.st (.int .i64) .z false),(6,.keep)],[]⟩)]⟩)],rjs:=[] }
noncomputable def F_strings_Split (x0:List UInt8) (x1:List UInt8):Option (List (List UInt8)):=
 splitS x0 x1
noncomputable def K_strings_Split:Callee:={ ins:=[.v .str .z,.v .str .z],outs:=[((.list .str),(.o .z))],F:=fun t=>F_strings_Split t.1 t.2.1 }
noncomputable def F_impl_wordsOf_c1 (x0:List UInt8):Option (Bool):=
 some (decide ((x0:List UInt8)=[]))
noncomputable def K_impl_wordsOf_c1:Callee:={ ins:=[.v .str .z],outs:=[(.bool,.z)],F:=fun t=>F_impl_wordsOf_c1 t.1 }
noncomputable def X_impl_wordsOf_c1:Ctx:={ tys:=tys,fns:=[],frz:=[],lps:=[],jns:=[],rjs:=[] }
noncomputable def F_impl_wordsOf (x0:List UInt8):Option (List (List UInt8)):=
 (F_strings_Split x0 [32]).bind fun (y5:List (List UInt8))=>
 (F_slices_DeleteFunc_Lstring_string y5 (fun (a6:List UInt8)=>(F_impl_wordsOf_c1 a6).bind fun r7=>some r7)).bind fun (y8:List (List UInt8))=>
 some y8
noncomputable def K_impl_wordsOf:Callee:={ ins:=[.v .str .z],outs:=[((.list .str),(.o .z))],F:=fun t=>F_impl_wordsOf t.1 }
noncomputable def X_impl_wordsOf:Ctx:={ tys:=tys,fns:=[(34,K_slices_DeleteFunc_Lstring_string),(35,K_strings_Split),(36,K_impl_wordsOf_c1)],frz:=[],lps:=[],jns:=[],rjs:=[] }
noncomputable def F_impl_WordsOf (x0:List UInt8):Option (Int×List (List UInt8)):=
 (F_impl_wordsOf x0).bind fun (y2:List (List UInt8))=>
 some (0,y2)
noncomputable def K_impl_WordsOf:Callee:={ ins:=[.v .str .z],outs:=[(s0,(.p .z (.o .z)))],F:=fun t=>F_impl_WordsOf t.1 }
noncomputable def X_impl_WordsOf:Ctx:={ tys:=tys,fns:=[(20,K_impl_wordsOf)],frz:=[],lps:=[],jns:=[],rjs:=[] }
noncomputable def F_spec_l1In (x0:Int) (x1:Int) (x2:Int):Option (Bool):=
 (bif (decide ((x1:Int)≤x0)) then
 some (decide ((x0:Int)≤x2))
 else
 some false:Option (Bool)).bind fun (j2:Bool)=>
 some j2
noncomputable def K_spec_l1In:Callee:={ ins:=[.v (.int .i64) .z,.v (.int .i64) .z,.v (.int .i64) .z],outs:=[(.bool,.z)],F:=fun t=>F_spec_l1In t.1 t.2.1 t.2.2.1 }
noncomputable def X_spec_l1In:Ctx:={ tys:=tys,fns:=[],frz:=[],lps:=[],jns:=[],rjs:=[(1,⟨[(6,.st .bool .z false)],[]⟩)] }
noncomputable def F_spec_l3Ref (x0:Int×Int):Option (Bool):=
 ((F_spec_l1In x0.1 1 60).bind fun (y8:Bool)=>
 bif y8 then
 (F_spec_l1In x0.2 0 3).bind fun (y9:Bool)=>
 some y9
 else
 some false:Option (Bool)).bind fun (j10:Bool)=>
 some j10
noncomputable def K_spec_l3Ref:Callee:={ ins:=[.v s2 .z],outs:=[(.bool,.z)],F:=fun t=>F_spec_l3Ref t.1 }
noncomputable def X_spec_l3Ref:Ctx:={ tys:=tys,fns:=[(63,K_spec_l1In)],frz:=[],lps:=[],jns:=[],rjs:=[(1,⟨[(2,.st .bool .z false)],[]⟩)] }
noncomputable def F_spec_l2Height (x0:Int):Option (Bool):=
 (F_spec_l1In x0 0 999).bind fun (y2:Bool)=>
 some y2
noncomputable def K_spec_l2Height:Callee:={ ins:=[.v (.int .i64) .z],outs:=[(.bool,.z)],F:=fun t=>F_spec_l2Height t.1 }
noncomputable def X_spec_l2Height:Ctx:={ tys:=tys,fns:=[(63,K_spec_l1In)],frz:=[],lps:=[],jns:=[],rjs:=[] }
noncomputable def F_spec_l1Key (x0:Int):Option (Bool):=
 (F_spec_l1In x0 1 999).bind fun (y2:Bool)=>
 some y2
noncomputable def K_spec_l1Key:Callee:={ ins:=[.v (.int .i64) .z],outs:=[(.bool,.z)],F:=fun t=>F_spec_l1Key t.1 }
noncomputable def X_spec_l1Key:Ctx:={ tys:=tys,fns:=[(63,K_spec_l1In)],frz:=[],lps:=[],jns:=[],rjs:=[] }
noncomputable def F_spec_l2Fault (x0:List Int×Int×Int):Option (Int):=
 (F_spec_l1In (List.length x0.1:Int) 1 3).bind fun (y18:Bool)=>
 bif (!y18) then
 some 2
 else
 (loopO (S:=Int) (X:=(Unit)⊕(Int)) (fun (s21:Int)=>
 bif (decide ((s21:Int)<(List.length x0.1:Int))) then
 bif (inB s21 x0.1) then
 (F_spec_l1Key (List.getD x0.1 (Int.toNat s21) 0)).bind fun (y22:Bool)=>
 bif (!y22) then
 some (Sum.inr (Sum.inr 3))
 else
 some (Sum.inl (IntKind.wrap .i64 (s21+1)))
 else none
 else
 some (Sum.inr (Sum.inl ()))) 0).bind fun (j23:(Unit)⊕(Int))=>
 Sum.elim (fun (j24:Unit)=>
 ((F_spec_l1In x0.2.1 1 (List.length x0.1:Int)).bind fun (y28:Bool)=>
 bif (!y28) then
 some true
 else
 (F_spec_l2Height x0.2.2).bind fun (y29:Bool)=>
 some (!y29):Option (Bool)).bind fun (j30:Bool)=>
 bif j30 then
 some 3
 else
 (loopO (S:=Int) (X:=(Unit)⊕(Int)) (fun (s31:Int)=>
 bif (decide ((s31:Int)<(List.length x0.1:Int))) then
 bif (inB s31 x0.1) then
 bif (inB (IntKind.wrap .i64 (s31 - 1)) x0.1) then
 bif (decide ((List.getD x0.1 (Int.toNat s31) 0:Int)≤List.getD x0.1 (Int.toNat (IntKind.wrap .i64 (s31 - 1))) 0)) then
 some (Sum.inr (Sum.inr 1))
 else
 some (Sum.inl (IntKind.wrap .i64 (s31+1)))
 else none
 else none
 else
 some (Sum.inr (Sum.inl ()))) 1).bind fun (j32:(Unit)⊕(Int))=>
 Sum.elim (fun (j33:Unit)=>
 some 0) (fun (j34:Int)=>
 some j34) j32) (fun (j25:Int)=>
 some j25) j23
noncomputable def K_spec_l2Fault:Callee:={ ins:=[.rp s3 false],outs:=[((.int .i64),.z)],F:=fun t=>F_spec_l2Fault t.1 }
noncomputable def X_spec_l2Fault:Ctx:={ tys:=tys,fns:=[(40,K_spec_l2Height),(63,K_spec_l1In),(80,K_spec_l1Key)],frz:=[],lps:=[(5,(⟨[(0,.keep),(3,.keep),(4,.st (.int .i64) .z false)],[]⟩,⟨[((.exit 0),⟨[(0,.keep),(3,.keep)],[]⟩),(.ret,⟨[(2,.st (.int .i64) .z false)],[]⟩)]⟩)),
 (12,(⟨[(0,.keep),(5,.st (.int .i64) .z false)],[]⟩,⟨[((.exit 2),⟨[],[]⟩),(.ret,⟨[(2,.st (.int .i64) .z false)],[]⟩)]⟩))],jns:=[],rjs:=[(9,⟨[(0,.keep),(46,.st .bool .z false)],[]⟩)] }
noncomputable def F_spec_l4Out (x0:Int×List Int×Int×Int):Option (Int):=
 (F_spec_l1In x0.1 1 1000000).bind fun (y3:Bool)=>
 bif (!y3) then
 some 3
 else
 (F_spec_l2Fault x0.2).bind fun (y4:Int)=>
 some y4
noncomputable def K_spec_l4Out:Callee:={ ins:=[.rp s4 false],outs:=[((.int .i64),.z)],F:=fun t=>F_spec_l4Out t.1 }
noncomputable def X_spec_l4Out:Ctx:={ tys:=tys,fns:=[(63,K_spec_l1In),(64,K_spec_l2Fault)],frz:=[],lps:=[],jns:=[],rjs:=[] }
noncomputable def F_spec_l4Ahead (x0:Int×Int) (x1:Int×Int):Option (Bool):=
 bif (!decide ((x0.1:Int)=x1.1)) then
 some (decide ((x0.1:Int)<x1.1))
 else
 some (decide ((x0.2:Int)<x1.2))
noncomputable def K_spec_l4Ahead:Callee:={ ins:=[.v s2 .z,.v s2 .z],outs:=[(.bool,.z)],F:=fun t=>F_spec_l4Ahead t.1 t.2.1 }
noncomputable def X_spec_l4Ahead:Ctx:={ tys:=tys,fns:=[],frz:=[],lps:=[],jns:=[],rjs:=[] }
noncomputable def F_spec_l4Fault (x0:List ((Int×Int)×(Int×List Int×Int×Int)×Int×Bool)):Option (Int):=
 bif (decide ((40:Int)<(List.length x0:Int))) then
 some 2
 else
 (loopO (S:=Int) (X:=(Unit)⊕(Int)) (fun (s44:Int)=>
 bif (decide ((s44:Int)<(List.length x0:Int))) then
 (bif (inB s44 x0) then
 (F_spec_l3Ref (List.getD x0 (Int.toNat s44) ((0,0),((0,([],(0,0))),(0,false)))).1).bind fun (y47:Bool)=>
 bif (!y47) then
 some true
 else
 bif (inB s44 x0) then
 (F_spec_l2Height (List.getD x0 (Int.toNat s44) ((0,0),((0,([],(0,0))),(0,false)))).2.2.1).bind fun (y48:Bool)=>
 some (!y48)
 else none
 else none:Option (Bool)).bind fun (j49:Bool)=>
 bif j49 then
 some (Sum.inr (Sum.inr 3))
 else
 bif (inB s44 x0) then
 (F_spec_l4Out (List.getD x0 (Int.toNat s44) ((0,0),((0,([],(0,0))),(0,false)))).2.1).bind fun (y50:Int)=>
 bif (!decide ((y50:Int)=0)) then
 some (Sum.inr (Sum.inr y50))
 else
 (bif (decide ((0:Int)<s44)) then
 bif (inB (IntKind.wrap .i64 (s44 - 1)) x0) then
 bif (inB s44 x0) then
 (F_spec_l4Ahead (List.getD x0 (Int.toNat (IntKind.wrap .i64 (s44 - 1))) ((0,0),((0,([],(0,0))),(0,false)))).1 (List.getD x0 (Int.toNat s44) ((0,0),((0,([],(0,0))),(0,false)))).1).bind fun (y52:Bool)=>
 some (!y52)
 else none
 else none
 else
 some false:Option (Bool)).bind fun (j53:Bool)=>
 bif j53 then
 some (Sum.inr (Sum.inr 1))
 else
 some (Sum.inl (IntKind.wrap .i64 (s44+1)))
 else none
 else
 some (Sum.inr (Sum.inl ()))) 0).bind fun (j54:(Unit)⊕(Int))=>
 Sum.elim (fun (j55:Unit)=>
 some 0) (fun (j56:Int)=>
 some j56) j54
noncomputable def K_spec_l4Fault:Callee:={ ins:=[.v (.list s7) .z],outs:=[((.int .i64),.z)],F:=fun t=>F_spec_l4Fault t.1 }
noncomputable def X_spec_l4Fault:Ctx:={ tys:=tys,fns:=[(39,K_spec_l3Ref),(40,K_spec_l2Height),(41,K_spec_l4Out),(42,K_spec_l4Ahead)],frz:=[],lps:=[(4,(⟨[(0,.keep),(3,.st (.int .i64) .z false)],[]⟩,⟨[((.exit 0),⟨[],[]⟩),(.ret,⟨[(2,.st (.int .i64) .z false)],[]⟩)]⟩))],jns:=[],rjs:=[(6,⟨[(0,.keep),(3,.keep),(29,.st .bool .z false)],[]⟩),
 (11,⟨[(0,.keep),(3,.keep),(54,.st .bool .z false)],[]⟩)] }
noncomputable def F_spec_l2Digits (x0:Int):Option (List UInt8):=
 digS 19 x0
noncomputable def K_spec_l2Digits:Callee:={ ins:=[.v (.int .i64) .z],outs:=[(.str,.z)],F:=fun t=>F_spec_l2Digits t.1 }
noncomputable def F_spec_l2Text (x0:List Int×Int×Int):Option (List UInt8):=
 (F_spec_l2Digits x0.2.1).bind fun (y11:List UInt8)=>
 bif decide (List.length y11+List.length [32,111,102,32]≤LIM) then
 bif (inB 0 x0.1) then
 (F_spec_l2Digits (List.getD x0.1 (Int.toNat 0) 0)).bind fun (y12:List UInt8)=>
 bif decide (List.length (List.append y11 [32,111,102,32])+List.length y12≤LIM) then
 (loopO (S:=List UInt8×Int) (X:=List UInt8) (fun (s15:List UInt8×Int)=>
 bif (decide ((s15.2:Int)<(List.length x0.1:Int))) then
 bif decide (List.length s15.1+List.length [44]≤LIM) then
 bif (inB s15.2 x0.1) then
 (F_spec_l2Digits (List.getD x0.1 (Int.toNat s15.2) 0)).bind fun (y16:List UInt8)=>
 bif decide (List.length (List.append s15.1 [44])+List.length y16≤LIM) then
 some (Sum.inl (List.append (List.append s15.1 [44]) y16,IntKind.wrap .i64 (s15.2+1)))
 else none
 else none
 else none
 else
 some (Sum.inr s15.1)) (List.append (List.append y11 [32,111,102,32]) y12,1)).bind fun (j17:List UInt8)=>
 (bif (!decide ((x0.2.2:Int)=0)) then
 bif decide (List.length j17+List.length [32,97,102,116,101,114,32]≤LIM) then
 (F_spec_l2Digits x0.2.2).bind fun (y19:List UInt8)=>
 bif decide (List.length (List.append j17 [32,97,102,116,101,114,32])+List.length y19≤LIM) then
 some (List.append (List.append j17 [32,97,102,116,101,114,32]) y19)
 else none
 else none
 else
 some j17:Option (List UInt8)).bind fun (j20:List UInt8)=>
 some j20
 else none
 else none
 else none
noncomputable def K_spec_l2Text:Callee:={ ins:=[.rp s3 false],outs:=[(.str,.z)],F:=fun t=>F_spec_l2Text t.1 }
noncomputable def X_spec_l2Text:Ctx:={ tys:=tys,fns:=[(43,K_spec_l2Digits)],frz:=[],lps:=[(3,(⟨[(0,.keep),(3,.st .str .z false),(4,.st (.int .i64) .z false)],[]⟩,⟨[((.exit 0),⟨[(0,.keep),(3,.st .str .z false)],[]⟩)]⟩))],jns:=[(7,⟨[(.normal,⟨[(3,.st .str .z false)],[]⟩)]⟩)],rjs:=[] }
noncomputable def F_spec_l16Coins (x0:List ((Int×Int)×(Int×List Int×Int×Int)×Int×Bool)):Option (List UInt8):=
 (loopO (S:=List UInt8×Int) (X:=List UInt8) (fun (s23:List UInt8×Int)=>
 bif (decide ((s23.2:Int)<(List.length x0:Int))) then
 bif (inB s23.2 x0) then
 bif decide (List.length s23.1+List.length [99,111,105,110,32]≤LIM) then
 (F_spec_l2Digits (List.getD x0 (Int.toNat s23.2) ((0,0),((0,([],(0,0))),(0,false)))).1.1).bind fun (y24:List UInt8)=>
 bif decide (List.length (List.append s23.1 [99,111,105,110,32])+List.length y24≤LIM) then
 bif decide (List.length (List.append (List.append s23.1 [99,111,105,110,32]) y24)+List.length [58]≤LIM) then
 (F_spec_l2Digits (List.getD x0 (Int.toNat s23.2) ((0,0),((0,([],(0,0))),(0,false)))).1.2).bind fun (y25:List UInt8)=>
 bif decide (List.length (List.append (List.append (List.append s23.1 [99,111,105,110,32]) y24) [58])+List.length y25≤LIM) then
 bif decide (List.length (List.append (List.append (List.append (List.append s23.1 [99,111,105,110,32]) y24) [58]) y25)+List.length [32]≤LIM) then
 (F_spec_l2Digits (List.getD x0 (Int.toNat s23.2) ((0,0),((0,([],(0,0))),(0,false)))).2.1.1).bind fun (y26:List UInt8)=>
 bif decide (List.length (List.append (List.append (List.append (List.append (List.append s23.1 [99,111,105,110,32]) y24) [58]) y25) [32])+List.length y26≤LIM) then
 bif decide (List.length (List.append (List.append (List.append (List.append (List.append (List.append s23.1 [99,111,105,110,32]) y24) [58]) y25) [32]) y26)+List.length [32]≤LIM) then
 (F_spec_l2Text (List.getD x0 (Int.toNat s23.2) ((0,0),((0,([],(0,0))),(0,false)))).2.1.2).bind fun (y27:List UInt8)=>
 bif decide (List.length (List.append (List.append (List.append (List.append (List.append (List.append (List.append s23.1 [99,111,105,110,32]) y24) [58]) y25) [32]) y26) [32])+List.length y27≤LIM) then
 bif decide (List.length (List.append (List.append (List.append (List.append (List.append (List.append (List.append (List.append s23.1 [99,111,105,110,32]) y24) [58]) y25) [32]) y26) [32]) y27)+List.length [10]≤LIM) then
 some (Sum.inl (List.append (List.append (List.append (List.append (List.append (List.append (List.append (List.append (List.append s23.1 [99,111,105,110,32]) y24) [58]) y25) [32]) y26) [32]) y27) [10],IntKind.wrap .i64 (s23.2+1)))
 else none
 else none
 else none
 else none
 else none
 else none
 else none
 else none
 else none
 else none
 else
 some (Sum.inr s23.1)) ([],0)).bind fun (j28:List UInt8)=>
 some j28
noncomputable def K_spec_l16Coins:Callee:={ ins:=[.v (.list s7) .z],outs:=[(.str,.z)],F:=fun t=>F_spec_l16Coins t.1 }
noncomputable def X_spec_l16Coins:Ctx:={ tys:=tys,fns:=[(43,K_spec_l2Digits),(44,K_spec_l2Text)],frz:=[],lps:=[(3,(⟨[(0,.keep),(3,.st .str .z false),(4,.st (.int .i64) .z false)],[]⟩,⟨[((.exit 0),⟨[(3,.st .str .z false)],[]⟩)]⟩))],jns:=[],rjs:=[] }
noncomputable def F_spec_CoinsText (x0:List ((Int×Int)×(Int×List Int×Int×Int)×Int×Bool)):Option (Int×List UInt8):=
 (F_spec_l4Fault x0).bind fun (y3:Int)=>
 bif (!decide ((y3:Int)=0)) then
 some (y3,[])
 else
 (F_spec_l16Coins x0).bind fun (y4:List UInt8)=>
 some (0,y4)
noncomputable def K_spec_CoinsText:Callee:={ ins:=[.v (.list s7) .z],outs:=[(s1,.z)],F:=fun t=>F_spec_CoinsText t.1 }
noncomputable def X_spec_CoinsText:Ctx:={ tys:=tys,fns:=[(25,K_spec_l4Fault),(26,K_spec_l16Coins)],frz:=[],lps:=[],jns:=[],rjs:=[] }
noncomputable def F_impl_within (x0:Int) (x1:Int) (x2:Int):Option (Bool):=
 (bif (decide ((x1:Int)≤x0)) then
 some (decide ((x0:Int)≤x2))
 else
 some false:Option (Bool)).bind fun (j2:Bool)=>
 some j2
noncomputable def K_impl_within:Callee:={ ins:=[.v (.int .i64) .z,.v (.int .i64) .z,.v (.int .i64) .z],outs:=[(.bool,.z)],F:=fun t=>F_impl_within t.1 t.2.1 t.2.2.1 }
noncomputable def X_impl_within:Ctx:={ tys:=tys,fns:=[],frz:=[],lps:=[],jns:=[],rjs:=[(1,⟨[(6,.st .bool .z false)],[]⟩)] }
noncomputable def F_impl_isId (x0:Int):Option (Bool):=
 (F_impl_within x0 1 60).bind fun (y2:Bool)=>
 some y2
noncomputable def K_impl_isId:Callee:={ ins:=[.v (.int .i64) .z],outs:=[(.bool,.z)],F:=fun t=>F_impl_isId t.1 }
noncomputable def X_impl_isId:Ctx:={ tys:=tys,fns:=[(49,K_impl_within)],frz:=[],lps:=[],jns:=[],rjs:=[] }
noncomputable def F_impl_isRef (x0:Int×Int):Option (Bool):=
 ((F_impl_isId x0.1).bind fun (y8:Bool)=>
 bif y8 then
 (F_impl_within x0.2 0 3).bind fun (y9:Bool)=>
 some y9
 else
 some false:Option (Bool)).bind fun (j10:Bool)=>
 some j10
noncomputable def K_impl_isRef:Callee:={ ins:=[.v s2 .z],outs:=[(.bool,.z)],F:=fun t=>F_impl_isRef t.1 }
noncomputable def X_impl_isRef:Ctx:={ tys:=tys,fns:=[(49,K_impl_within),(66,K_impl_isId)],frz:=[],lps:=[],jns:=[],rjs:=[(1,⟨[(2,.st .bool .z false)],[]⟩)] }
noncomputable def F_impl_isHeight (x0:Int):Option (Bool):=
 (F_impl_within x0 0 999).bind fun (y2:Bool)=>
 some y2
noncomputable def K_impl_isHeight:Callee:={ ins:=[.v (.int .i64) .z],outs:=[(.bool,.z)],F:=fun t=>F_impl_isHeight t.1 }
noncomputable def X_impl_isHeight:Ctx:={ tys:=tys,fns:=[(49,K_impl_within)],frz:=[],lps:=[],jns:=[],rjs:=[] }
noncomputable def F_slices_IndexFunc_Lint64_int64 (x0:List Int) (x1:Int→Option Bool):Option (Int):=
 (loopO (S:=Int) (X:=(Unit)⊕(Int)) (fun (s10:Int)=>
 bif (decide ((s10:Int)<(List.length x0:Int))) then
 bif (inB s10 x0) then
 (x1 (List.getD x0 (Int.toNat s10) 0)).bind fun (y11:Bool)=>
 bif y11 then
 some (Sum.inr (Sum.inr s10))
 else
 some (Sum.inl (IntKind.wrap .i64 (s10+1)))
 else none
 else
 some (Sum.inr (Sum.inl ()))) 0).bind fun (j12:(Unit)⊕(Int))=>
 Sum.elim (fun (j13:Unit)=>
 some (-1)) (fun (j14:Int)=>
 some j14) j12
noncomputable def K_slices_IndexFunc_Lint64_int64:Callee:={ ins:=[.v (.list (.int .i64)) .z,.v (.fn1 (.int .i64) .bool .z) .z],outs:=[((.int .i64),.z)],F:=fun t=>F_slices_IndexFunc_Lint64_int64 t.1 t.2.1 }
noncomputable def X_slices_IndexFunc_Lint64_int64:Ctx:={ tys:=tys,fns:=[],frz:=[],lps:=[(2,(⟨[(0,.keep),(1,.keep),(7,.keep),(8,.st (.int .i64) .z false)],[]⟩,⟨[((.exit 0),⟨[],[]⟩),(.ret,⟨[(4,.st (.int .i64) .z false)],[]⟩)]⟩))],jns:=[],rjs:=[] }
noncomputable def F_slices_ContainsFunc_Lint64_int64 (x0:List Int) (x1:Int→Option Bool):Option (Bool):=
 (F_slices_IndexFunc_Lint64_int64 x0 x1).bind fun (y2:Int)=>
 some (decide ((0:Int)≤y2))
noncomputable def K_slices_ContainsFunc_Lint64_int64:Callee:={ ins:=[.v (.list (.int .i64)) .z,.v (.fn1 (.int .i64) .bool .z) .z],outs:=[(.bool,.z)],F:=fun t=>F_slices_ContainsFunc_Lint64_int64 t.1 t.2.1 }
noncomputable def X_slices_ContainsFunc_Lint64_int64:Ctx:={ tys:=tys,fns:=[(96,K_slices_IndexFunc_Lint64_int64)],frz:=[],lps:=[],jns:=[],rjs:=[] }
noncomputable def F_impl_isKey (x0:Int):Option (Bool):=
 (F_impl_within x0 1 999).bind fun (y2:Bool)=>
 some y2
noncomputable def K_impl_isKey:Callee:={ ins:=[.v (.int .i64) .z],outs:=[(.bool,.z)],F:=fun t=>F_impl_isKey t.1 }
noncomputable def X_impl_isKey:Ctx:={ tys:=tys,fns:=[(49,K_impl_within)],frz:=[],lps:=[],jns:=[],rjs:=[] }
noncomputable def F_impl_areKeys_c1 (x0:Int):Option (Bool):=
 (F_impl_isKey x0).bind fun (y2:Bool)=>
 some (!y2)
noncomputable def K_impl_areKeys_c1:Callee:={ ins:=[.v (.int .i64) .z],outs:=[(.bool,.z)],F:=fun t=>F_impl_areKeys_c1 t.1 }
noncomputable def X_impl_areKeys_c1:Ctx:={ tys:=tys,fns:=[(84,K_impl_isKey)],frz:=[],lps:=[],jns:=[],rjs:=[] }
noncomputable def F_impl_areKeys (x0:List Int):Option (Bool):=
 (F_slices_ContainsFunc_Lint64_int64 x0 (fun (a4:Int)=>(F_impl_areKeys_c1 a4).bind fun r5=>some r5)).bind fun (y6:Bool)=>
 some (!y6)
noncomputable def K_impl_areKeys:Callee:={ ins:=[.v (.list (.int .i64)) .z],outs:=[(.bool,.z)],F:=fun t=>F_impl_areKeys t.1 }
noncomputable def X_impl_areKeys:Ctx:={ tys:=tys,fns:=[(82,K_slices_ContainsFunc_Lint64_int64),(83,K_impl_areKeys_c1)],frz:=[],lps:=[],jns:=[],rjs:=[] }
noncomputable def F_impl_isRising (x0:List Int):Option (Bool):=
 (loopO (S:=Int) (X:=(Unit)⊕(Bool)) (fun (s5:Int)=>
 bif (decide ((s5:Int)<(List.length x0:Int))) then
 bif (inB s5 x0) then
 bif (inB (IntKind.wrap .i64 (s5 - 1)) x0) then
 bif (decide ((List.getD x0 (Int.toNat s5) 0:Int)≤List.getD x0 (Int.toNat (IntKind.wrap .i64 (s5 - 1))) 0)) then
 some (Sum.inr (Sum.inr false))
 else
 some (Sum.inl (IntKind.wrap .i64 (s5+1)))
 else none
 else none
 else
 some (Sum.inr (Sum.inl ()))) 1).bind fun (j6:(Unit)⊕(Bool))=>
 Sum.elim (fun (j7:Unit)=>
 some true) (fun (j8:Bool)=>
 some j8) j6
noncomputable def K_impl_isRising:Callee:={ ins:=[.v (.list (.int .i64)) .z],outs:=[(.bool,.z)],F:=fun t=>F_impl_isRising t.1 }
noncomputable def X_impl_isRising:Ctx:={ tys:=tys,fns:=[],frz:=[],lps:=[(2,(⟨[(0,.keep),(3,.st (.int .i64) .z false)],[]⟩,⟨[((.exit 0),⟨[],[]⟩),(.ret,⟨[(2,.st .bool .z false)],[]⟩)]⟩))],jns:=[],rjs:=[] }
noncomputable def F_impl_RuleFault (x0:List Int×Int×Int):Option (Int):=
 (F_impl_within (List.length x0.1:Int) 1 3).bind fun (y10:Bool)=>
 bif (!y10) then
 some 2
 else
 ((F_impl_areKeys x0.1).bind fun (y14:Bool)=>
 bif (!y14) then
 some true
 else
 (F_impl_within x0.2.1 1 (List.length x0.1:Int)).bind fun (y15:Bool)=>
 bif (!y15) then
 some true
 else
 (F_impl_isHeight x0.2.2).bind fun (y16:Bool)=>
 some (!y16):Option (Bool)).bind fun (j17:Bool)=>
 bif j17 then
 some 3
 else
 (F_impl_isRising x0.1).bind fun (y18:Bool)=>
 bif (!y18) then
 some 1
 else
 some 0
noncomputable def K_impl_RuleFault:Callee:={ ins:=[.v s3 .z],outs:=[((.int .i64),.z)],F:=fun t=>F_impl_RuleFault t.1 }
noncomputable def X_impl_RuleFault:Ctx:={ tys:=tys,fns:=[(48,K_impl_isHeight),(49,K_impl_within),(67,K_impl_areKeys),(68,K_impl_isRising)],frz:=[],lps:=[],jns:=[],rjs:=[(4,⟨[(1,.keep),(11,.st .bool .z false)],[(1,.keep)]⟩)] }
noncomputable def F_cmp_Or_int (x0:List Int):Option (Int):=
 (loopO (S:=Int) (X:=(Unit)⊕(Int)) (fun (s5:Int)=>
 bif (decide ((s5:Int)<(List.length x0:Int))) then
 bif (inB s5 x0) then
 bif (!decide ((List.getD x0 (Int.toNat s5) 0:Int)=0)) then
 some (Sum.inr (Sum.inr (List.getD x0 (Int.toNat s5) 0)))
 else
 some (Sum.inl (IntKind.wrap .i64 (s5+1)))
 else none
 else
 some (Sum.inr (Sum.inl ()))) 0).bind fun (j6:(Unit)⊕(Int))=>
 Sum.elim (fun (j7:Unit)=>
 some 0) (fun (j8:Int)=>
 some j8) j6
noncomputable def K_cmp_Or_int:Callee:={ ins:=[.v (.list (.int .i64)) .z],outs:=[((.int .i64),.z)],F:=fun t=>F_cmp_Or_int t.1 }
noncomputable def X_cmp_Or_int:Ctx:={ tys:=tys,fns:=[],frz:=[],lps:=[(3,(⟨[(3,.keep),(6,.keep),(7,.keep),(8,.st (.int .i64) .z false)],[]⟩,⟨[((.exit 0),⟨[(3,.keep)],[]⟩),(.ret,⟨[(2,.st (.int .i64) .z false)],[]⟩)]⟩))],jns:=[],rjs:=[] }
noncomputable def F_cmp_isNaN_int64 (x0:Int):Option (Bool):=
 some (!decide ((x0:Int)=x0))
noncomputable def K_cmp_isNaN_int64:Callee:={ ins:=[.v (.int .i64) .z],outs:=[(.bool,.z)],F:=fun t=>F_cmp_isNaN_int64 t.1 }
noncomputable def X_cmp_isNaN_int64:Ctx:={ tys:=tys,fns:=[],frz:=[],lps:=[],jns:=[],rjs:=[] }
noncomputable def F_cmp_Compare_int64 (x0:Int) (x1:Int):Option (Int):=
 (F_cmp_isNaN_int64 x0).bind fun (y3:Bool)=>
 (F_cmp_isNaN_int64 x1).bind fun (y4:Bool)=>
 bif y3 then
 bif y4 then
 some 0
 else
 some (-1)
 else
 bif y4 then
 some 1
 else
 bif (decide ((x0:Int)<x1)) then
 some (-1)
 else
 bif (decide ((x1:Int)<x0)) then
 some 1
 else
 some 0
noncomputable def K_cmp_Compare_int64:Callee:={ ins:=[.v (.int .i64) .z,.v (.int .i64) .z],outs:=[((.int .i64),.z)],F:=fun t=>F_cmp_Compare_int64 t.1 t.2.1 }
noncomputable def X_cmp_Compare_int64:Ctx:={ tys:=tys,fns:=[(85,K_cmp_isNaN_int64)],frz:=[],lps:=[],jns:=[],rjs:=[] }
noncomputable def F_impl_compareRefs (x0:Int×Int) (x1:Int×Int):Option (Int):=
 (F_cmp_Compare_int64 x0.1 x1.1).bind fun (y4:Int)=>
 (F_cmp_Compare_int64 x0.2 x1.2).bind fun (y5:Int)=>
 (F_cmp_Or_int ([y4,y5]:List Int)).bind fun (y6:Int)=>
 some y6
noncomputable def K_impl_compareRefs:Callee:={ ins:=[.v s2 .z,.v s2 .z],outs:=[((.int .i64),.z)],F:=fun t=>F_impl_compareRefs t.1 t.2.1 }
noncomputable def X_impl_compareRefs:Ctx:={ tys:=tys,fns:=[(69,K_cmp_Or_int),(70,K_cmp_Compare_int64)],frz:=[],lps:=[],jns:=[],rjs:=[] }
noncomputable def F_impl_CoinsFault (x0:List ((Int×Int)×(Int×List Int×Int×Int)×Int×Bool)):Option (Int):=
 bif (decide ((40:Int)<(List.length x0:Int))) then
 some 2
 else
 (loopO (S:=Int) (X:=(Unit)⊕(Int)) (fun (s54:Int)=>
 bif (decide ((s54:Int)<(List.length x0:Int))) then
 bif (inB s54 x0) then
 ((F_impl_isRef (List.getD x0 (Int.toNat s54) ((0,0),((0,([],(0,0))),(0,false)))).1).bind fun (y58:Bool)=>
 bif (!y58) then
 some true
 else
 (F_impl_isHeight (List.getD x0 (Int.toNat s54) ((0,0),((0,([],(0,0))),(0,false)))).2.2.1).bind fun (y59:Bool)=>
 bif (!y59) then
 some true
 else
 (F_impl_within (List.getD x0 (Int.toNat s54) ((0,0),((0,([],(0,0))),(0,false)))).2.1.1 1 1000000).bind fun (y60:Bool)=>
 some (!y60):Option (Bool)).bind fun (j61:Bool)=>
 bif j61 then
 some (Sum.inr (Sum.inr 3))
 else
 (F_impl_RuleFault (List.getD x0 (Int.toNat s54) ((0,0),((0,([],(0,0))),(0,false)))).2.1.2).bind fun (y62:Int)=>
 bif (!decide ((y62:Int)=0)) then
 some (Sum.inr (Sum.inr y62))
 else
 (bif (decide ((0:Int)<s54)) then
 bif (inB (IntKind.wrap .i64 (s54 - 1)) x0) then
 (F_impl_compareRefs (List.getD x0 (Int.toNat (IntKind.wrap .i64 (s54 - 1))) ((0,0),((0,([],(0,0))),(0,false)))).1 (List.getD x0 (Int.toNat s54) ((0,0),((0,([],(0,0))),(0,false)))).1).bind fun (y64:Int)=>
 some (decide ((0:Int)≤y64))
 else none
 else
 some false:Option (Bool)).bind fun (j65:Bool)=>
 bif j65 then
 some (Sum.inr (Sum.inr 1))
 else
 some (Sum.inl (IntKind.wrap .i64 (s54+1)))
 else none
 else
 some (Sum.inr (Sum.inl ()))) 0).bind fun (j66:(Unit)⊕(Int))=>
 Sum.elim (fun (j67:Unit)=>
 some 0) (fun (j68:Int)=>
 some j68) j66
noncomputable def K_impl_CoinsFault:Callee:={ ins:=[.v (.list s7) .z],outs:=[((.int .i64),.z)],F:=fun t=>F_impl_CoinsFault t.1 }
noncomputable def X_impl_CoinsFault:Ctx:={ tys:=tys,fns:=[(47,K_impl_isRef),(48,K_impl_isHeight),(49,K_impl_within),(50,K_impl_RuleFault),(51,K_impl_compareRefs)],frz:=[],lps:=[(4,(⟨[(0,.keep),(9,.keep),(10,.keep),(11,.st (.int .i64) .z false)],[]⟩,⟨[((.exit 0),⟨[],[]⟩),(.ret,⟨[(2,.st (.int .i64) .z false)],[]⟩)]⟩))],jns:=[],rjs:=[(6,⟨[(0,.keep),(3,.keep),(4,.keep),(9,.keep),(10,.keep),(11,.keep),(32,.st .bool .z false)],[(4,.keep)]⟩),
 (11,⟨[(0,.keep),(9,.keep),(10,.keep),(11,.keep),(53,.st .bool .z false)],[(4,.keep)]⟩)] }
noncomputable def F_strconv_FormatInt (x0:Int) (x1:Int):Option (List UInt8):=
 fmtS x0 x1
noncomputable def K_strconv_FormatInt:Callee:={ ins:=[.v (.int .i64) .z,.v (.int .i64) .z],outs:=[(.str,.z)],F:=fun t=>F_strconv_FormatInt t.1 t.2.1 }
noncomputable def F_impl_dec (x0:Int):Option (List UInt8):=
 (F_strconv_FormatInt x0 10).bind fun (y2:List UInt8)=>
 some y2
noncomputable def K_impl_dec:Callee:={ ins:=[.v (.int .i64) .z],outs:=[(.str,.z)],F:=fun t=>F_impl_dec t.1 }
noncomputable def X_impl_dec:Ctx:={ tys:=tys,fns:=[(71,K_strconv_FormatInt)],frz:=[],lps:=[],jns:=[],rjs:=[] }
noncomputable def F_strings_Join (x0:List (List UInt8)) (x1:List UInt8):Option (List UInt8):=
 joinS x0 x1
noncomputable def K_strings_Join:Callee:={ ins:=[.v (.list .str) .z,.v .str .z],outs:=[(.str,.z)],F:=fun t=>F_strings_Join t.1 t.2.1,dm:=false }
noncomputable def F_impl_joined (x0:List Int) (x1:List UInt8):Option (List UInt8):=
 (loopO (S:=List (List UInt8)×Int) (X:=List (List UInt8)) (fun (s9:List (List UInt8)×Int)=>
 bif (decide ((s9.2:Int)<(List.length x0:Int))) then
 bif (inB s9.2 x0) then
 (F_impl_dec (List.getD x0 (Int.toNat s9.2) 0)).bind fun (y10:List UInt8)=>
 bif decide (List.length s9.1+List.length ([y10]:List (List UInt8))≤LIM) then
 some (Sum.inl (List.append s9.1 ([y10]:List (List UInt8)),IntKind.wrap .i64 (s9.2+1)))
 else none
 else none
 else
 some (Sum.inr s9.1)) (([]:List (List UInt8)),0)).bind fun (j11:List (List UInt8))=>
 (F_strings_Join j11 x1).bind fun (y12:List UInt8)=>
 some y12
noncomputable def K_impl_joined:Callee:={ ins:=[.v (.list (.int .i64)) .z,.v .str .z],outs:=[(.str,.z)],F:=fun t=>F_impl_joined t.1 t.2.1,dm:=false }
noncomputable def X_impl_joined:Ctx:={ tys:=tys,fns:=[(52,K_impl_dec),(87,K_strings_Join)],frz:=[],lps:=[(3,(⟨[(1,.keep),(5,.st (.list .str) (.o .z) false),(9,.keep),(10,.keep),(11,.st (.int .i64) .z false)],[]⟩,⟨[((.exit 0),⟨[(1,.keep),(5,.st (.list .str) (.o .z) false)],[]⟩)]⟩))],jns:=[],rjs:=[] }
noncomputable def F_impl_ruleText (x0:List Int×Int×Int) (x1:List UInt8):Option (List UInt8):=
 (F_impl_dec x0.2.1).bind fun (y6:List UInt8)=>
 bif decide (List.length y6+List.length x1≤LIM) then
 bif decide (List.length (List.append y6 x1)+List.length [111,102]≤LIM) then
 bif decide (List.length (List.append (List.append y6 x1) [111,102])+List.length x1≤LIM) then
 (F_impl_joined x0.1 [44]).bind fun (y7:List UInt8)=>
 bif decide (List.length (List.append (List.append (List.append y6 x1) [111,102]) x1)+List.length y7≤LIM) then
 (bif (!decide ((x0.2.2:Int)=0)) then
 bif decide (List.length x1+List.length [97,102,116,101,114]≤LIM) then
 bif decide (List.length (List.append x1 [97,102,116,101,114])+List.length x1≤LIM) then
 (F_impl_dec x0.2.2).bind fun (y9:List UInt8)=>
 bif decide (List.length (List.append (List.append x1 [97,102,116,101,114]) x1)+List.length y9≤LIM) then
 bif decide (List.length (List.append (List.append (List.append (List.append y6 x1) [111,102]) x1) y7)+List.length (List.append (List.append (List.append x1 [97,102,116,101,114]) x1) y9)≤LIM) then
 some (List.append (List.append (List.append (List.append (List.append y6 x1) [111,102]) x1) y7) (List.append (List.append (List.append x1 [97,102,116,101,114]) x1) y9))
 else none
 else none
 else none
 else none
 else
 some (List.append (List.append (List.append (List.append y6 x1) [111,102]) x1) y7):Option (List UInt8)).bind fun (j10:List UInt8)=>
 some j10
 else none
 else none
 else none
 else none
noncomputable def K_impl_ruleText:Callee:={ ins:=[.v s3 .z,.v .str .z],outs:=[(.str,.z)],F:=fun t=>F_impl_ruleText t.1 t.2.1,dm:=false }
noncomputable def X_impl_ruleText:Ctx:={ tys:=tys,fns:=[(52,K_impl_dec),(72,K_impl_joined)],frz:=[],lps:=[],jns:=[(3,⟨[(.normal,⟨[(5,.st .str .z false)],[]⟩)]⟩)],rjs:=[] }
noncomputable def F_impl_coinsText (x0:List ((Int×Int)×(Int×List Int×Int×Int)×Int×Bool)):Option (List UInt8):=
 (loopO (S:=List UInt8×Int) (X:=List UInt8) (fun (s23:List UInt8×Int)=>
 bif (decide ((s23.2:Int)<(List.length x0:Int))) then
 bif (inB s23.2 x0) then
 (F_impl_dec (List.getD x0 (Int.toNat s23.2) ((0,0),((0,([],(0,0))),(0,false)))).1.1).bind fun (y24:List UInt8)=>
 bif decide (List.length [99,111,105,110,32]+List.length y24≤LIM) then
 bif decide (List.length (List.append [99,111,105,110,32] y24)+List.length [58]≤LIM) then
 (F_impl_dec (List.getD x0 (Int.toNat s23.2) ((0,0),((0,([],(0,0))),(0,false)))).1.2).bind fun (y25:List UInt8)=>
 bif decide (List.length (List.append (List.append [99,111,105,110,32] y24) [58])+List.length y25≤LIM) then
 bif decide (List.length (List.append (List.append (List.append [99,111,105,110,32] y24) [58]) y25)+List.length [32]≤LIM) then
 (F_impl_dec (List.getD x0 (Int.toNat s23.2) ((0,0),((0,([],(0,0))),(0,false)))).2.1.1).bind fun (y26:List UInt8)=>
 bif decide (List.length (List.append (List.append (List.append (List.append [99,111,105,110,32] y24) [58]) y25) [32])+List.length y26≤LIM) then
 bif decide (List.length (List.append (List.append (List.append (List.append (List.append [99,111,105,110,32] y24) [58]) y25) [32]) y26)+List.length [32]≤LIM) then
 (F_impl_ruleText (List.getD x0 (Int.toNat s23.2) ((0,0),((0,([],(0,0))),(0,false)))).2.1.2 [32]).bind fun (y27:List UInt8)=>
 bif decide (List.length (List.append (List.append (List.append (List.append (List.append (List.append [99,111,105,110,32] y24) [58]) y25) [32]) y26) [32])+List.length y27≤LIM) then
 bif decide (List.length (List.append (List.append (List.append (List.append (List.append (List.append (List.append [99,111,105,110,32] y24) [58]) y25) [32]) y26) [32]) y27)+List.length [10]≤LIM) then
 bif decide (List.length s23.1+List.length (List.append (List.append (List.append (List.append (List.append (List.append (List.append (List.append [99,111,105,110,32] y24) [58]) y25) [32]) y26) [32]) y27) [10])≤LIM) then
 some (Sum.inl (List.append s23.1 (List.append (List.append (List.append (List.append (List.append (List.append (List.append (List.append [99,111,105,110,32] y24) [58]) y25) [32]) y26) [32]) y27) [10]),IntKind.wrap .i64 (s23.2+1)))
 else none
 else none
 else none
 else none
 else none
 else none
 else none
 else none
 else none
 else none
 else
 some (Sum.inr s23.1)) ([],0)).bind fun (j28:List UInt8)=>
 some j28
noncomputable def K_impl_coinsText:Callee:={ ins:=[.v (.list s7) .z],outs:=[(.str,.z)],F:=fun t=>F_impl_coinsText t.1,dm:=false }
noncomputable def X_impl_coinsText:Ctx:={ tys:=tys,fns:=[(52,K_impl_dec),(53,K_impl_ruleText)],frz:=[],lps:=[(3,(⟨[(3,.st .str .z false),(6,.keep),(7,.keep),(8,.st (.int .i64) .z false)],[]⟩,⟨[((.exit 0),⟨[(3,.st .str .z false)],[]⟩)]⟩))],jns:=[],rjs:=[] }
noncomputable def F_impl_CoinsText (x0:List ((Int×Int)×(Int×List Int×Int×Int)×Int×Bool)):Option (Int×List UInt8):=
 (F_impl_CoinsFault x0).bind fun (y3:Int)=>
 bif (!decide ((y3:Int)=0)) then
 some (y3,[])
 else
 (F_impl_coinsText x0).bind fun (y4:List UInt8)=>
 some (0,y4)
noncomputable def K_impl_CoinsText:Callee:={ ins:=[.v (.list s7) .z],outs:=[(s1,.z)],F:=fun t=>F_impl_CoinsText t.1,dm:=false }
noncomputable def X_impl_CoinsText:Ctx:={ tys:=tys,fns:=[(28,K_impl_CoinsFault),(29,K_impl_coinsText)],frz:=[],lps:=[],jns:=[],rjs:=[] }
noncomputable def F_laws_lwBig (x0:List Int):Option (Bool):=
 some (decide ((1048576:Int)<(List.length x0:Int)))
noncomputable def K_laws_lwBig:Callee:={ ins:=[.v (.list (.int .u8)) .z],outs:=[(.bool,.z)],F:=fun t=>F_laws_lwBig t.1 }
noncomputable def X_laws_lwBig:Ctx:={ tys:=tys,fns:=[],frz:=[],lps:=[],jns:=[],rjs:=[] }
noncomputable def F_spec_l1Next (x0:List Int×Int) (x1:Int):Option (Int×List Int×Int):=
 bif (decide ((x1:Int)<1)) then
 some (0,(x0.1,IntKind.wrap .i64 (x0.2+1)))
 else
 bif (decide (((List.length x0.1:Int):Int)=0)) then
 bif (!decide (x1=(0:Int))) then
 some (Int.tmod (IntKind.wrap .i64 ((IntKind.wrap .i64 ((IntKind.wrap .i64 (x0.2+1)) - 1)) * 7)) x1,(x0.1,IntKind.wrap .i64 (x0.2+1)))
 else none
 else
 bif (!decide ((List.length x0.1:Int)=(0:Int))) then
 bif (inB (Int.tmod (IntKind.wrap .i64 ((IntKind.wrap .i64 (x0.2+1)) - 1)) (List.length x0.1:Int)) x0.1) then
 bif (!decide ((List.length x0.1:Int)=(0:Int))) then
 (bif (decide ((200:Int)<x1)) then
 bif (!decide ((List.length x0.1:Int)=(0:Int))) then
 bif (inB (Int.tmod (IntKind.wrap .i64 ((IntKind.wrap .i64 ((IntKind.wrap .i64 (x0.2+1)) - 1))+1)) (List.length x0.1:Int)) x0.1) then
 some (IntKind.wrap .i64 ((IntKind.wrap .i64 ((IntKind.wrap .i64 ((IntKind.wrap .i64 ((IntKind.wrap .i64 (List.getD x0.1 (Int.toNat (Int.tmod (IntKind.wrap .i64 ((IntKind.wrap .i64 (x0.2+1)) - 1)) (List.length x0.1:Int))) 0))+(IntKind.wrap .i64 ((IntKind.wrap .i64 (Int.tdiv (IntKind.wrap .i64 ((IntKind.wrap .i64 (x0.2+1)) - 1)) (List.length x0.1:Int))) * 37)))) * 251))+(IntKind.wrap .i64 ((IntKind.wrap .i64 (List.getD x0.1 (Int.toNat (Int.tmod (IntKind.wrap .i64 ((IntKind.wrap .i64 ((IntKind.wrap .i64 (x0.2+1)) - 1))+1)) (List.length x0.1:Int))) 0)) * 13))))+(IntKind.wrap .i64 ((IntKind.wrap .i64 (x0.2+1)) - 1))))
 else none
 else none
 else
 some (IntKind.wrap .i64 ((IntKind.wrap .i64 (List.getD x0.1 (Int.toNat (Int.tmod (IntKind.wrap .i64 ((IntKind.wrap .i64 (x0.2+1)) - 1)) (List.length x0.1:Int))) 0))+(IntKind.wrap .i64 ((IntKind.wrap .i64 (Int.tdiv (IntKind.wrap .i64 ((IntKind.wrap .i64 (x0.2+1)) - 1)) (List.length x0.1:Int))) * 37)))):Option (Int)).bind fun (j2:Int)=>
 bif (!decide (x1=(0:Int))) then
 some (Int.tmod j2 x1,(x0.1,IntKind.wrap .i64 (x0.2+1)))
 else none
 else none
 else none
 else none
noncomputable def K_spec_l1Next:Callee:={ ins:=[.io s8 .z .z,.v (.int .i64) .z],outs:=[((.int .i64),.z)],F:=fun t=>F_spec_l1Next t.1 t.2.1 }
noncomputable def X_spec_l1Next:Ctx:={ tys:=tys,fns:=[],frz:=[],lps:=[],jns:=[(10,⟨[(.normal,⟨[(1,.keep),(7,.st (.int .i64) .z false)],[(71,.keep)]⟩)]⟩)],rjs:=[] }
noncomputable def F_spec_l1Chance (x0:List Int×Int) (x1:Int):Option (Bool×List Int×Int):=
 (F_spec_l1Next x0 x1).bind fun (y2:Int×List Int×Int)=>
 some (decide ((y2.1:Int)=0),y2.2)
noncomputable def K_spec_l1Chance:Callee:={ ins:=[.io s8 .z .z,.v (.int .i64) .z],outs:=[(.bool,.z)],F:=fun t=>F_spec_l1Chance t.1 t.2.1 }
noncomputable def X_spec_l1Chance:Ctx:={ tys:=tys,fns:=[(57,K_spec_l1Next)],frz:=[],lps:=[],jns:=[],rjs:=[] }
noncomputable def F_spec_l4Of (x0:List ((Int×Int)×(Int×List Int×Int×Int)×Int×Bool)) (x1:Int):Option (Bool):=
 (loopO (S:=Int) (X:=(Unit)⊕(Bool)) (fun (s5:Int)=>
 bif (decide ((s5:Int)<(List.length x0:Int))) then
 bif (inB s5 x0) then
 bif (decide (((List.getD x0 (Int.toNat s5) ((0,0),((0,([],(0,0))),(0,false)))).1.1:Int)=x1)) then
 some (Sum.inr (Sum.inr true))
 else
 some (Sum.inl (IntKind.wrap .i64 (s5+1)))
 else none
 else
 some (Sum.inr (Sum.inl ()))) 0).bind fun (j6:(Unit)⊕(Bool))=>
 Sum.elim (fun (j7:Unit)=>
 some false) (fun (j8:Bool)=>
 some j8) j6
noncomputable def K_spec_l4Of:Callee:={ ins:=[.v (.list s7) .z,.v (.int .i64) .z],outs:=[(.bool,.z)],F:=fun t=>F_spec_l4Of t.1 t.2.1 }
noncomputable def X_spec_l4Of:Ctx:={ tys:=tys,fns:=[],frz:=[],lps:=[(2,(⟨[(0,.keep),(1,.keep),(5,.st (.int .i64) .z false)],[]⟩,⟨[((.exit 0),⟨[],[]⟩),(.ret,⟨[(4,.st .bool .z false)],[]⟩)]⟩))],jns:=[],rjs:=[] }
noncomputable def F_spec_l2Copy (x0:List Int×Int×Int):Option (List Int×Int×Int):=
 bif decide (List.length ([]:List Int)+List.length x0.1≤LIM) then
 some (List.append ([]:List Int) x0.1,x0.2)
 else none
noncomputable def K_spec_l2Copy:Callee:={ ins:=[.v s3 .z],outs:=[(s3,(.p (.o .z) .z))],F:=fun t=>F_spec_l2Copy t.1 }
noncomputable def X_spec_l2Copy:Ctx:={ tys:=tys,fns:=[],frz:=[],lps:=[],jns:=[],rjs:=[] }
noncomputable def F_spec_l4Copy (x0:List ((Int×Int)×(Int×List Int×Int×Int)×Int×Bool)):Option (List ((Int×Int)×(Int×List Int×Int×Int)×Int×Bool)):=
 (loopO (S:=List ((Int×Int)×(Int×List Int×Int×Int)×Int×Bool)×Int) (X:=List ((Int×Int)×(Int×List Int×Int×Int)×Int×Bool)) (fun (s8:List ((Int×Int)×(Int×List Int×Int×Int)×Int×Bool)×Int)=>
 bif (decide ((s8.2:Int)<(List.length x0:Int))) then
 bif (inB s8.2 x0) then
 (F_spec_l2Copy (List.getD x0 (Int.toNat s8.2) ((0,0),((0,([],(0,0))),(0,false)))).2.1.2).bind fun (y9:List Int×Int×Int)=>
 bif decide (List.length s8.1+List.length ([((List.getD x0 (Int.toNat s8.2) ((0,0),((0,([],(0,0))),(0,false)))).1,(((List.getD x0 (Int.toNat s8.2) ((0,0),((0,([],(0,0))),(0,false)))).2.1.1,y9),(List.getD x0 (Int.toNat s8.2) ((0,0),((0,([],(0,0))),(0,false)))).2.2))]:List ((Int×Int)×(Int×List Int×Int×Int)×Int×Bool))≤LIM) then
 some (Sum.inl (List.append s8.1 ([((List.getD x0 (Int.toNat s8.2) ((0,0),((0,([],(0,0))),(0,false)))).1,(((List.getD x0 (Int.toNat s8.2) ((0,0),((0,([],(0,0))),(0,false)))).2.1.1,y9),(List.getD x0 (Int.toNat s8.2) ((0,0),((0,([],(0,0))),(0,false)))).2.2))]:List ((Int×Int)×(Int×List Int×Int×Int)×Int×Bool)),IntKind.wrap .i64 (s8.2+1)))
 else none
 else none
 else
 some (Sum.inr s8.1)) (([]:List ((Int×Int)×(Int×List Int×Int×Int)×Int×Bool)),0)).bind fun (j10:List ((Int×Int)×(Int×List Int×Int×Int)×Int×Bool))=>
 some j10
noncomputable def K_spec_l4Copy:Callee:={ ins:=[.v (.list s7) .z],outs:=[((.list s7),(.o (.p .z (.p (.p .z (.p (.o .z) .z)) .z))))],F:=fun t=>F_spec_l4Copy t.1 }
noncomputable def X_spec_l4Copy:Ctx:={ tys:=tys,fns:=[(105,K_spec_l2Copy)],frz:=[],lps:=[(3,(⟨[(0,.keep),(3,.st (.list s7) (.o (.p .z (.p (.p .z (.p (.o .z) .z)) .z))) false),(4,.st (.int .i64) .z false)],[]⟩,⟨[((.exit 0),⟨[(3,.st (.list s7) (.o (.p .z (.p (.p .z (.p (.o .z) .z)) .z))) false)],[]⟩)]⟩))],jns:=[],rjs:=[] }
noncomputable def F_spec_l4Add (x0:List ((Int×Int)×(Int×List Int×Int×Int)×Int×Bool)) (x1:(Int×Int)×(Int×List Int×Int×Int)×Int×Bool):Option (List ((Int×Int)×(Int×List Int×Int×Int)×Int×Bool)):=
 (loopO (S:=Int) (X:=Int) (fun (s18:Int)=>
 (bif (decide ((s18:Int)<(List.length x0:Int))) then
 bif (inB s18 x0) then
 (F_spec_l4Ahead (List.getD x0 (Int.toNat s18) ((0,0),((0,([],(0,0))),(0,false)))).1 x1.1).bind fun (y20:Bool)=>
 some y20
 else none
 else
 some false:Option (Bool)).bind fun (j21:Bool)=>
 bif j21 then
 some (Sum.inl (IntKind.wrap .i64 (s18+1)))
 else
 some (Sum.inr s18)) 0).bind fun (j22:Int)=>
 bif (cutOk 0 j22 x0) then
 bif decide (List.length ([]:List ((Int×Int)×(Int×List Int×Int×Int)×Int×Bool))+List.length (cut 0 j22 x0)≤LIM) then
 bif decide (List.length (List.append ([]:List ((Int×Int)×(Int×List Int×Int×Int)×Int×Bool)) (cut 0 j22 x0))+List.length ([x1]:List ((Int×Int)×(Int×List Int×Int×Int)×Int×Bool))≤LIM) then
 bif (cutOk j22 (List.length x0:Int) x0) then
 bif decide (List.length (List.append (List.append ([]:List ((Int×Int)×(Int×List Int×Int×Int)×Int×Bool)) (cut 0 j22 x0)) ([x1]:List ((Int×Int)×(Int×List Int×Int×Int)×Int×Bool)))+List.length (cut j22 (List.length x0:Int) x0)≤LIM) then
 some (List.append (List.append (List.append ([]:List ((Int×Int)×(Int×List Int×Int×Int)×Int×Bool)) (cut 0 j22 x0)) ([x1]:List ((Int×Int)×(Int×List Int×Int×Int)×Int×Bool))) (cut j22 (List.length x0:Int) x0))
 else none
 else none
 else none
 else none
 else none
noncomputable def K_spec_l4Add:Callee:={ ins:=[.v (.list s7) .z,.v s7 .z],outs:=[((.list s7),(.o .z))],F:=fun t=>F_spec_l4Add t.1 t.2.1 }
noncomputable def X_spec_l4Add:Ctx:={ tys:=tys,fns:=[(42,K_spec_l4Ahead)],frz:=[],lps:=[(2,(⟨[(0,.keep),(3,.keep),(5,.st (.int .i64) .z false)],[(3,.keep)]⟩,⟨[((.exit 0),⟨[(0,.keep),(3,.keep),(5,.st (.int .i64) .z false)],[(3,.keep)]⟩)]⟩))],jns:=[],rjs:=[(2,⟨[(0,.keep),(3,.keep),(5,.keep),(20,.st .bool .z false)],[(3,.keep)]⟩)] }
noncomputable def F_spec_l4Put (x0:List ((Int×Int)×(Int×List Int×Int×Int)×Int×Bool)) (x1:Int) (x2:List (Int×List Int×Int×Int)) (x3:Int) (x4:Bool):Option (List ((Int×Int)×(Int×List Int×Int×Int)×Int×Bool)×List ((Int×Int)×(Int×List Int×Int×Int)×Int×Bool)):=
 (F_spec_l4Copy x0).bind fun (y10:List ((Int×Int)×(Int×List Int×Int×Int)×Int×Bool))=>
 (loopO (S:=List ((Int×Int)×(Int×List Int×Int×Int)×Int×Bool)×Int) (X:=List ((Int×Int)×(Int×List Int×Int×Int)×Int×Bool)) (fun (s15:List ((Int×Int)×(Int×List Int×Int×Int)×Int×Bool)×Int)=>
 bif (decide ((s15.2:Int)<(List.length x2:Int))) then
 bif (inB s15.2 x2) then
 bif (inB s15.2 x2) then
 (F_spec_l2Copy (List.getD x2 (Int.toNat s15.2) (0,([],(0,0)))).2).bind fun (y16:List Int×Int×Int)=>
 (F_spec_l4Add s15.1 ((x1,s15.2),(((List.getD x2 (Int.toNat s15.2) (0,([],(0,0)))).1,y16),(x3,x4)))).bind fun (y17:List ((Int×Int)×(Int×List Int×Int×Int)×Int×Bool))=>
 some (Sum.inl (y17,IntKind.wrap .i64 (s15.2+1)))
 else none
 else none
 else
 some (Sum.inr s15.1)) (y10,0)).bind fun (j18:List ((Int×Int)×(Int×List Int×Int×Int)×Int×Bool))=>
 some (j18,x0)
noncomputable def K_spec_l4Put:Callee:={ ins:=[.mu (.list s7) (.o .z) (.o .z),.v (.int .i64) .z,.v (.list s4) .z,.v (.int .i64) .z,.v .bool .z],outs:=[((.list s7),(.o .z))],F:=fun t=>F_spec_l4Put t.1 t.2.1 t.2.2.1 t.2.2.2.1 t.2.2.2.2.1 }
noncomputable def X_spec_l4Put:Ctx:={ tys:=tys,fns:=[(104,K_spec_l4Copy),(105,K_spec_l2Copy),(106,K_spec_l4Add)],frz:=[(6,0)],lps:=[(3,(⟨[(0,.keep),(1,.keep),(2,.keep),(3,.keep),(4,.keep),(11,.st (.list s7) (.o .z) false),(12,.st (.int .i64) .z false)],[]⟩,⟨[((.exit 0),⟨[(0,.keep),(11,.st (.list s7) (.o .z) false)],[]⟩)]⟩))],jns:=[],rjs:=[] }
noncomputable def F_spec_PutCoins (x0:List ((Int×Int)×(Int×List Int×Int×Int)×Int×Bool)) (x1:Int) (x2:List (Int×List Int×Int×Int)) (x3:Int) (x4:Bool):Option ((Int×List ((Int×Int)×(Int×List Int×Int×Int)×Int×Bool))×List ((Int×Int)×(Int×List Int×Int×Int)×Int×Bool)):=
 (F_spec_l4Fault x0).bind fun (y16:Int)=>
 bif (!decide ((y16:Int)=0)) then
 some ((y16,[]),x0)
 else
 ((F_spec_l1In x1 1 60).bind fun (y19:Bool)=>
 bif (!y19) then
 some true
 else
 (F_spec_l2Height x3).bind fun (y20:Bool)=>
 some (!y20):Option (Bool)).bind fun (j21:Bool)=>
 bif j21 then
 some ((3,[]),x0)
 else
 bif (decide ((4:Int)<(List.length x2:Int))) then
 some ((2,[]),x0)
 else
 (loopO (S:=Int) (X:=(Unit)⊕(Int×List ((Int×Int)×(Int×List Int×Int×Int)×Int×Bool))) (fun (s24:Int)=>
 bif (decide ((s24:Int)<(List.length x2:Int))) then
 bif (inB s24 x2) then
 (F_spec_l4Out (List.getD x2 (Int.toNat s24) (0,([],(0,0))))).bind fun (y25:Int)=>
 bif (!decide ((y25:Int)=0)) then
 some (Sum.inr (Sum.inr (y25,[])))
 else
 some (Sum.inl (IntKind.wrap .i64 (s24+1)))
 else none
 else
 some (Sum.inr (Sum.inl ()))) 0).bind fun (j26:(Unit)⊕(Int×List ((Int×Int)×(Int×List Int×Int×Int)×Int×Bool)))=>
 Sum.elim (fun (j27:Unit)=>
 (F_spec_l4Of x0 x1).bind fun (y29:Bool)=>
 bif y29 then
 some ((7,[]),x0)
 else
 bif (decide ((40:Int)<IntKind.wrap .i64 ((List.length x0:Int)+(List.length x2:Int)))) then
 some ((2,[]),x0)
 else
 (F_spec_l4Put x0 x1 x2 x3 x4).bind fun (y30:List ((Int×Int)×(Int×List Int×Int×Int)×Int×Bool)×List ((Int×Int)×(Int×List Int×Int×Int)×Int×Bool))=>
 some ((0,y30.1),y30.2)) (fun (j28:Int×List ((Int×Int)×(Int×List Int×Int×Int)×Int×Bool))=>
 some (j28,x0)) j26
noncomputable def K_spec_PutCoins:Callee:={ ins:=[.mu (.list s7) (.o .z) (.o .z),.v (.int .i64) .z,.v (.list s4) .z,.v (.int .i64) .z,.v .bool .z],outs:=[(s9,(.p .z (.o .z)))],F:=fun t=>F_spec_PutCoins t.1 t.2.1 t.2.2.1 t.2.2.2.1 t.2.2.2.2.1 }
noncomputable def X_spec_PutCoins:Ctx:={ tys:=tys,fns:=[(25,K_spec_l4Fault),(40,K_spec_l2Height),(41,K_spec_l4Out),(63,K_spec_l1In),(89,K_spec_l4Of),(90,K_spec_l4Put)],frz:=[],lps:=[(9,(⟨[(0,.keep),(1,.keep),(2,.keep),(3,.keep),(4,.keep),(10,.keep),(12,.st (.int .i64) .z false)],[(10,.keep)]⟩,⟨[((.exit 0),⟨[(0,.keep),(1,.keep),(2,.keep),(3,.keep),(4,.keep),(10,.keep)],[(10,.keep)]⟩),(.ret,⟨[(0,.keep),(10,.keep)],[(10,.st s9 (.p .z (.o (.p .z (.p (.p .z (.p (.o .z) .z)) .z)))) false)]⟩)]⟩))],jns:=[],rjs:=[(4,⟨[(0,.keep),(1,.keep),(2,.keep),(3,.keep),(4,.keep),(10,.keep),(27,.st .bool .z false)],[(10,.keep)]⟩)] }
noncomputable def F_spec_l1Pick (x0:List Int×Int) (x1:List Int):Option (Int×List Int×Int):=
 (F_spec_l1Next x0 (List.length x1:Int)).bind fun (y2:Int×List Int×Int)=>
 bif (inB y2.1 x1) then
 some (List.getD x1 (Int.toNat y2.1) 0,y2.2)
 else none
noncomputable def K_spec_l1Pick:Callee:={ ins:=[.io s8 .z .z,.v (.list (.int .i64)) .z],outs:=[((.int .i64),.z)],F:=fun t=>F_spec_l1Pick t.1 t.2.1 }
noncomputable def X_spec_l1Pick:Ctx:={ tys:=tys,fns:=[(57,K_spec_l1Next)],frz:=[],lps:=[],jns:=[],rjs:=[] }
noncomputable def F_spec_l2Draw (x0:List Int×Int):Option ((List Int×Int×Int)×List Int×Int):=
 (F_spec_l1Next x0 3).bind fun (y11:Int×List Int×Int)=>
 (F_spec_l1Next y11.2 3).bind fun (y12:Int×List Int×Int)=>
 (loopO (S:=Int×(List Int×Int×Int)×List Int×Int) (X:=(List Int×Int×Int)×List Int×Int) (fun (s15:Int×(List Int×Int×Int)×List Int×Int)=>
 bif (decide ((0:Int)<s15.1)) then
 bif (inB (IntKind.wrap .i64 ((List.length s15.2.1.1:Int) - 1)) s15.2.1.1) then
 (F_spec_l1Next s15.2.2 2).bind fun (y16:Int×List Int×Int)=>
 bif decide (List.length s15.2.1.1+List.length ([IntKind.wrap .i64 ((IntKind.wrap .i64 ((List.getD s15.2.1.1 (Int.toNat (IntKind.wrap .i64 ((List.length s15.2.1.1:Int) - 1))) 0)+1))+y16.1)]:List Int)≤LIM) then
 some (Sum.inl (IntKind.wrap .i64 (s15.1 - 1),((List.append s15.2.1.1 ([IntKind.wrap .i64 ((IntKind.wrap .i64 ((List.getD s15.2.1.1 (Int.toNat (IntKind.wrap .i64 ((List.length s15.2.1.1:Int) - 1))) 0)+1))+y16.1)]:List Int),s15.2.1.2),y16.2)))
 else none
 else none
 else
 some (Sum.inr (s15.2.1,s15.2.2))) (y12.1,((([IntKind.wrap .i64 (1+y11.1)]:List Int),(0,0)),y12.2))).bind fun (j17:(List Int×Int×Int)×List Int×Int)=>
 (F_spec_l1Next j17.2 (List.length j17.1.1:Int)).bind fun (y18:Int×List Int×Int)=>
 (F_spec_l1Next y18.2 9).bind fun (y19:Int×List Int×Int)=>
 (F_spec_l1Pick y19.2 ([0,0,0,y19.1]:List Int)).bind fun (y20:Int×List Int×Int)=>
 some ((j17.1.1,(IntKind.wrap .i64 (1+y18.1),y20.1)),y20.2)
noncomputable def K_spec_l2Draw:Callee:={ ins:=[.io s8 .z .z],outs:=[(s3,(.p (.o .z) .z))],F:=fun t=>F_spec_l2Draw t.1 }
noncomputable def X_spec_l2Draw:Ctx:={ tys:=tys,fns:=[(57,K_spec_l1Next),(58,K_spec_l1Pick)],frz:=[],lps:=[(3,(⟨[(0,.keep),(2,.keep),(3,.keep),(4,.st (.int .i64) .z false)],[(2,.keep),(3,.st s3 (.p (.o .z) .z) false),(47,.st s8 .z false)]⟩,⟨[((.exit 0),⟨[(0,.keep),(2,.keep),(3,.keep)],[(2,.keep),(3,.st s3 (.p (.o .z) .z) false),(47,.st s8 .z false)]⟩)]⟩))],jns:=[],rjs:=[] }
noncomputable def F_spec_l4DrawOuts (x0:List Int×Int):Option (List (Int×List Int×Int×Int)×List Int×Int):=
 (F_spec_l1Next x0 4).bind fun (y10:Int×List Int×Int)=>
 (loopO (S:=List (Int×List Int×Int×Int)×Int×List Int×Int) (X:=List (Int×List Int×Int×Int)×List Int×Int) (fun (s15:List (Int×List Int×Int×Int)×Int×List Int×Int)=>
 bif (decide ((0:Int)<s15.2.1)) then
 (F_spec_l1Next s15.2.2 300).bind fun (y16:Int×List Int×Int)=>
 (F_spec_l2Draw y16.2).bind fun (y17:(List Int×Int×Int)×List Int×Int)=>
 bif decide (List.length s15.1+List.length ([(IntKind.wrap .i64 (1+y16.1),y17.1)]:List (Int×List Int×Int×Int))≤LIM) then
 some (Sum.inl (List.append s15.1 ([(IntKind.wrap .i64 (1+y16.1),y17.1)]:List (Int×List Int×Int×Int)),(IntKind.wrap .i64 (s15.2.1 - 1),y17.2)))
 else none
 else
 some (Sum.inr (s15.1,s15.2.2))) (([]:List (Int×List Int×Int×Int)),(y10.1,y10.2))).bind fun (j18:List (Int×List Int×Int×Int)×List Int×Int)=>
 some (j18.1,j18.2)
noncomputable def K_spec_l4DrawOuts:Callee:={ ins:=[.io s8 .z .z],outs:=[((.list s4),(.o (.p .z (.p (.o .z) .z))))],F:=fun t=>F_spec_l4DrawOuts t.1 }
noncomputable def X_spec_l4DrawOuts:Ctx:={ tys:=tys,fns:=[(57,K_spec_l1Next),(91,K_spec_l2Draw)],frz:=[],lps:=[(3,(⟨[(0,.keep),(3,.st (.list s4) (.o (.p .z (.p (.o .z) .z))) false),(4,.st (.int .i64) .z false)],[(22,.st s8 .z false)]⟩,⟨[((.exit 0),⟨[(3,.st (.list s4) (.o (.p .z (.p (.o .z) .z))) false)],[(22,.st s8 .z false)]⟩)]⟩))],jns:=[],rjs:=[] }
noncomputable def F_spec_l4Right (x0:List Int×Int):Option (List ((Int×Int)×(Int×List Int×Int×Int)×Int×Bool)×List Int×Int):=
 (F_spec_l1Next x0 6).bind fun (y22:Int×List Int×Int)=>
 (loopO (S:=List ((Int×Int)×(Int×List Int×Int×Int)×Int×Bool)×Int×List Int×Int) (X:=List ((Int×Int)×(Int×List Int×Int×Int)×Int×Bool)×List Int×Int) (fun (s35:List ((Int×Int)×(Int×List Int×Int×Int)×Int×Bool)×Int×List Int×Int)=>
 bif (decide ((0:Int)<s35.2.1)) then
 (F_spec_l1Next s35.2.2 6).bind fun (y36:Int×List Int×Int)=>
 (F_spec_l4DrawOuts y36.2).bind fun (y37:List (Int×List Int×Int×Int)×List Int×Int)=>
 (F_spec_l1Next y37.2 6).bind fun (y38:Int×List Int×Int)=>
 (F_spec_l1Chance y38.2 3).bind fun (y39:Bool×List Int×Int)=>
 (F_spec_PutCoins s35.1 (IntKind.wrap .i64 (1+y36.1)) y37.1 y38.1 y39.1).bind fun (y40:(Int×List ((Int×Int)×(Int×List Int×Int×Int)×Int×Bool))×List ((Int×Int)×(Int×List Int×Int×Int)×Int×Bool))=>
 (bif (decide ((y40.1.1:Int)=0)) then
 some y40.1.2
 else
 some y40.2:Option (List ((Int×Int)×(Int×List Int×Int×Int)×Int×Bool))).bind fun (j41:List ((Int×Int)×(Int×List Int×Int×Int)×Int×Bool))=>
 some (Sum.inl (j41,(IntKind.wrap .i64 (s35.2.1 - 1),y39.2)))
 else
 some (Sum.inr (s35.1,s35.2.2))) (([]:List ((Int×Int)×(Int×List Int×Int×Int)×Int×Bool)),(y22.1,y22.2))).bind fun (j42:List ((Int×Int)×(Int×List Int×Int×Int)×Int×Bool)×List Int×Int)=>
 some (j42.1,j42.2)
noncomputable def K_spec_l4Right:Callee:={ ins:=[.io s8 .z .z],outs:=[((.list s7),(.o .z))],F:=fun t=>F_spec_l4Right t.1 }
noncomputable def X_spec_l4Right:Ctx:={ tys:=tys,fns:=[(57,K_spec_l1Next),(59,K_spec_l1Chance),(74,K_spec_PutCoins),(75,K_spec_l4DrawOuts)],frz:=[],lps:=[(3,(⟨[(0,.keep),(3,.st (.list s7) (.o .z) false),(4,.st (.int .i64) .z false)],[(30,.st s8 .z false)]⟩,⟨[((.exit 0),⟨[(3,.st (.list s7) (.o .z) false)],[(30,.st s8 .z false)]⟩)]⟩))],jns:=[(7,⟨[(.normal,⟨[(0,.keep),(3,.st (.list s7) (.o .z) false),(4,.keep)],[(30,.keep)]⟩)]⟩)],rjs:=[] }
noncomputable def F_spec_l4Bent (x0:List Int×Int):Option (List ((Int×Int)×(Int×List Int×Int×Int)×Int×Bool)×List Int×Int):=
 (F_spec_l4Right x0).bind fun (y73:List ((Int×Int)×(Int×List Int×Int×Int)×Int×Bool)×List Int×Int)=>
 (bif (decide ((0:Int)<(List.length y73.1:Int))) then
 (F_spec_l1Next y73.2 14).bind fun (y108:Int×List Int×Int)=>
 (bif (decide ((y108.1:Int)=0)) then
 (F_spec_l1Pick y108.2 ([0,61,3]:List Int)).bind fun (y125:Int×List Int×Int)=>
 bif (inB 0 y73.1) then
 some (List.set y73.1 (Int.toNat 0) ((y125.1,(List.getD y73.1 (Int.toNat 0) ((0,0),((0,([],(0,0))),(0,false)))).1.2),(List.getD y73.1 (Int.toNat 0) ((0,0),((0,([],(0,0))),(0,false)))).2),y125.2)
 else none
 else
 (bif (decide ((y108.1:Int)=1)) then
 (F_spec_l1Pick y108.2 ([(-1),1000]:List Int)).bind fun (y133:Int×List Int×Int)=>
 bif (inB 0 y73.1) then
 let z134:List ((Int×Int)×(Int×List Int×Int×Int)×Int×Bool):=List.set y73.1 (Int.toNat 0) ((List.getD y73.1 (Int.toNat 0) ((0,0),((0,([],(0,0))),(0,false)))).1,((List.getD y73.1 (Int.toNat 0) ((0,0),((0,([],(0,0))),(0,false)))).2.1,(y133.1,(List.getD y73.1 (Int.toNat 0) ((0,0),((0,([],(0,0))),(0,false)))).2.2.2)))
 some (z134,y133.2)
 else none
 else
 (bif (decide ((y108.1:Int)=2)) then
 bif (inB 0 y73.1) then
 let z137:List ((Int×Int)×(Int×List Int×Int×Int)×Int×Bool):=List.set y73.1 (Int.toNat 0) ((List.getD y73.1 (Int.toNat 0) ((0,0),((0,([],(0,0))),(0,false)))).1,((0,(List.getD y73.1 (Int.toNat 0) ((0,0),((0,([],(0,0))),(0,false)))).2.1.2),(List.getD y73.1 (Int.toNat 0) ((0,0),((0,([],(0,0))),(0,false)))).2.2))
 some z137
 else none
 else
 (bif (decide ((y108.1:Int)=3)) then
 bif (inB 0 y73.1) then
 bif decide (List.length y73.1+List.length ([List.getD y73.1 (Int.toNat 0) ((0,0),((0,([],(0,0))),(0,false)))]:List ((Int×Int)×(Int×List Int×Int×Int)×Int×Bool))≤LIM) then
 some (List.append y73.1 ([List.getD y73.1 (Int.toNat 0) ((0,0),((0,([],(0,0))),(0,false)))]:List ((Int×Int)×(Int×List Int×Int×Int)×Int×Bool)))
 else none
 else none
 else
 some y73.1:Option (List ((Int×Int)×(Int×List Int×Int×Int)×Int×Bool))).bind fun (j138:List ((Int×Int)×(Int×List Int×Int×Int)×Int×Bool))=>
 some j138:Option (List ((Int×Int)×(Int×List Int×Int×Int)×Int×Bool))).bind fun (j139:List ((Int×Int)×(Int×List Int×Int×Int)×Int×Bool))=>
 some (j139,y108.2):Option (List ((Int×Int)×(Int×List Int×Int×Int)×Int×Bool)×List Int×Int)).bind fun (j140:List ((Int×Int)×(Int×List Int×Int×Int)×Int×Bool)×List Int×Int)=>
 some (j140.1,j140.2):Option (List ((Int×Int)×(Int×List Int×Int×Int)×Int×Bool)×List Int×Int)).bind fun (j141:List ((Int×Int)×(Int×List Int×Int×Int)×Int×Bool)×List Int×Int)=>
 some (j141.1,j141.2)
 else
 some (y73.1,y73.2):Option (List ((Int×Int)×(Int×List Int×Int×Int)×Int×Bool)×List Int×Int)).bind fun (j142:List ((Int×Int)×(Int×List Int×Int×Int)×Int×Bool)×List Int×Int)=>
 (F_spec_l1Chance j142.2 40).bind fun (y143:Bool×List Int×Int)=>
 (bif y143.1 then
 bif (decide (0≤41)&&decide (41≤(LIM:Int))) then
 some (List.replicate (Int.toNat 41) ((0,0),((0,([],(0,0))),(0,false))))
 else none
 else
 some j142.1:Option (List ((Int×Int)×(Int×List Int×Int×Int)×Int×Bool))).bind fun (j144:List ((Int×Int)×(Int×List Int×Int×Int)×Int×Bool))=>
 some (j144,y143.2)
noncomputable def K_spec_l4Bent:Callee:={ ins:=[.io s8 .z .z],outs:=[((.list s7),(.o .z))],F:=fun t=>F_spec_l4Bent t.1 }
noncomputable def X_spec_l4Bent:Ctx:={ tys:=tys,fns:=[(56,K_spec_l4Right),(57,K_spec_l1Next),(58,K_spec_l1Pick),(59,K_spec_l1Chance)],frz:=[],lps:=[],jns:=[(3,⟨[(.normal,⟨[(0,.keep),(3,.st (.list s7) (.o .z) false)],[(46,.st s8 .z false)]⟩)]⟩),
 (5,⟨[(.normal,⟨[(0,.keep),(3,.st (.list s7) (.o .z) false)],[(46,.st s8 .z false)]⟩)]⟩),
 (7,⟨[(.normal,⟨[(0,.keep),(3,.st (.list s7) (.o .z) false)],[(46,.st s8 .z false)]⟩)]⟩),
 (9,⟨[(.normal,⟨[(0,.keep),(3,.st (.list s7) (.o .z) false)],[(46,.keep)]⟩)]⟩),
 (11,⟨[(.normal,⟨[(0,.keep),(3,.st (.list s7) (.o .z) false)],[(46,.keep)]⟩)]⟩),
 (13,⟨[(.normal,⟨[(3,.st (.list s7) (.o .z) false)],[(46,.keep)]⟩)]⟩)],rjs:=[] }
noncomputable def F_spec_l1Source (x0:List Int):Option (List Int×Int):=
 some (x0,0)
noncomputable def N_spec_l1Source:NewP:={ ins:=[(.list (.int .u8))],out:=s8,F:=fun t=>F_spec_l1Source t.1 }
noncomputable def F_spec_DrawCoinsText (x0:List Int):Option (List ((Int×Int)×(Int×List Int×Int×Int)×Int×Bool)):=
 (F_spec_l1Source x0).bind fun (y3:List Int×Int)=>
 (F_spec_l4Bent y3).bind fun (y4:List ((Int×Int)×(Int×List Int×Int×Int)×Int×Bool)×List Int×Int)=>
 some y4.1
noncomputable def K_spec_DrawCoinsText:Callee:={ ins:=[.v (.list (.int .u8)) .z],outs:=[((.list s7),(.o .z))],F:=fun t=>F_spec_DrawCoinsText t.1 }
noncomputable def X_spec_DrawCoinsText:Ctx:={ tys:=tys,fns:=[(31,K_spec_l4Bent)],frz:=[],lps:=[],jns:=[],rjs:=[],nps:=[(32,N_spec_l1Source)] }
noncomputable def F_laws_FnCoinTexts (x0:List Int):Option (Bool):=
 (F_laws_lwBig x0).bind fun (y15:Bool)=>
 bif y15 then
 some true
 else
 (F_spec_DrawCoinsText x0).bind fun (y16:List ((Int×Int)×(Int×List Int×Int×Int)×Int×Bool))=>
 (F_impl_CoinsText y16).bind fun (y17:Int×List UInt8)=>
 bif (!decide ((y17.1:Int)=0)) then
 (F_spec_CoinsText y16).bind fun (y18:Int×List UInt8)=>
 some (decide ((y18.1:Int)=y17.1))
 else
 (loopO (S:=Int×Int) (X:=Int) (fun (s21:Int×Int)=>
 bif (decide ((s21.2:Int)<(List.length y17.2:Int))) then
 bif (inB s21.2 y17.2) then
 (bif (decide ((((List.getD y17.2 (Int.toNat s21.2) 0).toNat:Int):Int)=10)) then
 some (IntKind.wrap .i64 (s21.1+1))
 else
 some s21.1:Option (Int)).bind fun (j22:Int)=>
 some (Sum.inl (j22,IntKind.wrap .i64 (s21.2+1)))
 else none
 else
 some (Sum.inr s21.1)) (0,0)).bind fun (j23:Int)=>
 (bif (decide ((j23:Int)=(List.length y16:Int))) then
 (F_spec_CoinsText y16).bind fun (y26:Int×List UInt8)=>
 bif (decide ((y17.2:List UInt8)=y26.2)) then
 (F_impl_WordsOf y17.2).bind fun (y27:Int×List (List UInt8))=>
 some (decide ((IntKind.wrap .i64 (3 * j23):Int)≤(List.length y27.2:Int)))
 else
 some false
 else
 some false:Option (Bool)).bind fun (j28:Bool)=>
 some j28
noncomputable def K_laws_FnCoinTexts:Callee:={ ins:=[.v (.list (.int .u8)) .z],outs:=[(.bool,.z)],F:=fun t=>F_laws_FnCoinTexts t.1,dm:=false }
noncomputable def X_laws_FnCoinTexts:Ctx:={ tys:=tys,fns:=[(7,K_impl_WordsOf),(12,K_spec_CoinsText),(14,K_impl_CoinsText),(17,K_laws_lwBig),(18,K_spec_DrawCoinsText)],frz:=[],lps:=[(9,(⟨[(3,.keep),(4,.keep),(5,.st (.int .i64) .z false),(6,.st (.int .i64) .z false)],[(4,.keep)]⟩,⟨[((.exit 0),⟨[(3,.keep),(4,.keep),(5,.st (.int .i64) .z false)],[(4,.keep)]⟩)]⟩))],jns:=[(12,⟨[(.normal,⟨[(3,.keep),(4,.keep),(5,.st (.int .i64) .z false),(6,.keep)],[(4,.keep)]⟩)]⟩)],rjs:=[(13,⟨[(2,.st .bool .z false)],[]⟩)] }
end DL
end Go.Dx

