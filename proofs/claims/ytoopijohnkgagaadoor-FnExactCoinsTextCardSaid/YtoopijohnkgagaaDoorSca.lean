/- What each function computes, as a function of plain data (F), its parameters (K) and hints for the executor (X); the types -/
import Derived.Test.YtoopijohnkgagaaDoorDxd
import Derived.Test.YtoopijohnkgagaaDoorProg
import Derived.KernelRfl
set_option linter.unusedVariables false
set_option linter.unusedSimpArgs false
set_option maxRecDepth 100000
set_option maxHeartbeats 0
namespace Go.Dx
open Go.Proofs
namespace DL
def s0:Sh:=(.prod (.int .i64) (.list .str))
def s1:Sh:=(.prod (.int .i64) (.int .i64))
def s2:Sh:=(.prod (.list (.int .i64)) s1)
def s3:Sh:=(.prod (.int .i64) s2)
def s4:Sh:=(.prod (.int .i64) .bool)
def s5:Sh:=(.prod s3 s4)
def s6:Sh:=(.prod s1 s5)
def s7:Sh:=(.prod (.int .i64) .str)
def tys:List (TypeId×TI):=[(2,⟨(.int .i64),8,.int .i64⟩),
 (3,⟨(.int .i64),8,.int .i64⟩),
 (4,⟨.bool,1,.bool⟩),
 (5,⟨(.int .u8),1,.int .u8⟩),
 (9,⟨.str,16,.str⟩),
 (22,⟨(.list .str),24,.slice 9⟩),
 (24,⟨s0,32,.struct [(0,2),(1,22)]⟩),
 (28,⟨(.fn1 .str .bool .z),8,.func⟩),
 (29,⟨(.list s6),24,.slice 54⟩),
 (32,⟨s7,24,.struct [(0,2),(1,9)]⟩),
 (34,⟨(.list s6),24,.slice 62⟩),
 (39,⟨(.list (.int .u8)),24,.slice 5⟩),
 (47,⟨s1,16,.struct [(0,2),(1,2)]⟩),
 (48,⟨(.list (.int .i64)),24,.slice 2⟩),
 (50,⟨s2,40,.struct [(0,48),(1,2),(2,2)]⟩),
 (52,⟨s3,48,.struct [(0,2),(1,50)]⟩),
 (54,⟨s6,80,.struct [(0,47),(2,52),(6,2),(7,4)]⟩),
 (57,⟨s1,16,.struct [(0,2),(1,2)]⟩),
 (58,⟨s2,40,.struct [(0,48),(1,2),(2,2)]⟩),
 (60,⟨s3,48,.struct [(0,2),(1,58)]⟩),
 (62,⟨s6,80,.struct [(0,57),(2,60),(6,2),(7,4)]⟩),
 (74,⟨(.fn1 (.int .i64) .bool .z),8,.func⟩),
 (115,⟨(.list (.int .i64)),24,.slice 3⟩)]
def X0:Ctx:={ tys:=tys,fns:=[],frz:=[],lps:=[],jns:=[],rjs:=[] }
theorem ty2:TyOk Tryd.prog X0 2 ⟨(.int .i64),8,.int .i64⟩:=⟨⟨Tryd.t2,Tryd.type2,rfl,by decide,by decide,rfl⟩,⟨Tryd.underlying2,rfl⟩⟩
theorem ty3:TyOk Tryd.prog X0 3 ⟨(.int .i64),8,.int .i64⟩:=⟨⟨Tryd.t3,Tryd.type3,rfl,by decide,by decide,rfl⟩,⟨Tryd.underlying3,rfl⟩⟩
theorem ty4:TyOk Tryd.prog X0 4 ⟨.bool,1,.bool⟩:=⟨⟨Tryd.t4,Tryd.type4,rfl,by decide,by decide,rfl⟩,⟨Tryd.underlying4,rfl⟩⟩
theorem ty5:TyOk Tryd.prog X0 5 ⟨(.int .u8),1,.int .u8⟩:=⟨⟨Tryd.t5,Tryd.type5,rfl,by decide,by decide,rfl⟩,⟨Tryd.underlying5,rfl⟩⟩
theorem ty9:TyOk Tryd.prog X0 9 ⟨.str,16,.str⟩:=⟨⟨Tryd.t9,Tryd.type9,rfl,by decide,by decide,rfl⟩,⟨Tryd.underlying9,rfl⟩⟩
theorem ty22:TyOk Tryd.prog X0 22 ⟨(.list .str),24,.slice 9⟩:=⟨⟨Tryd.t22,Tryd.type22,rfl,by decide,by decide,rfl⟩,⟨Tryd.underlying22,_,rfl,rfl⟩⟩
theorem ty24:TyOk Tryd.prog X0 24 ⟨s0,32,.struct [(0,2),(1,22)]⟩:=⟨⟨Tryd.t24,Tryd.type24,rfl,by decide,by decide,rfl⟩,⟨⟨_,Tryd.underlying24,rfl,by simp⟩,⟨_,_,rfl,rfl,⟨_,rfl,rfl⟩,⟨rfl,_,rfl,rfl⟩⟩,by decide,Tryd.eqGuardType24,Tryd.stoodInHeld24⟩⟩
theorem ty28:TyOk Tryd.prog X0 28 ⟨(.fn1 .str .bool .z),8,.func⟩:=⟨⟨Tryd.t28,Tryd.type28,rfl,by decide,by decide,trivial⟩,⟨⟨_,_,_,Tryd.underlying28⟩,.inl ⟨_,_,_,rfl⟩⟩⟩
theorem ty29:TyOk Tryd.prog X0 29 ⟨(.list s6),24,.slice 54⟩:=⟨⟨Tryd.t29,Tryd.type29,rfl,by decide,by decide,rfl⟩,⟨Tryd.underlying29,_,rfl,rfl⟩⟩
theorem ty32:TyOk Tryd.prog X0 32 ⟨s7,24,.struct [(0,2),(1,9)]⟩:=⟨⟨Tryd.t32,Tryd.type32,rfl,by decide,by decide,rfl⟩,⟨⟨_,Tryd.underlying32,rfl,by simp⟩,⟨_,_,rfl,rfl,⟨_,rfl,rfl⟩,⟨rfl,_,rfl,rfl⟩⟩,by decide,Tryd.eqGuardType32,Tryd.stoodInHeld32⟩⟩
theorem ty34:TyOk Tryd.prog X0 34 ⟨(.list s6),24,.slice 62⟩:=⟨⟨Tryd.t34,Tryd.type34,rfl,by decide,by decide,rfl⟩,⟨Tryd.underlying34,_,rfl,rfl⟩⟩
theorem ty39:TyOk Tryd.prog X0 39 ⟨(.list (.int .u8)),24,.slice 5⟩:=⟨⟨Tryd.t39,Tryd.type39,rfl,by decide,by decide,rfl⟩,⟨Tryd.underlying39,_,rfl,rfl⟩⟩
theorem ty47:TyOk Tryd.prog X0 47 ⟨s1,16,.struct [(0,2),(1,2)]⟩:=⟨⟨Tryd.t47,Tryd.type47,rfl,by decide,by decide,rfl⟩,⟨⟨_,Tryd.underlying47,rfl,by simp⟩,⟨_,_,rfl,rfl,⟨_,rfl,rfl⟩,⟨rfl,_,rfl,rfl⟩⟩,by decide,Tryd.eqGuardType47,Tryd.stoodInHeld47⟩⟩
theorem ty48:TyOk Tryd.prog X0 48 ⟨(.list (.int .i64)),24,.slice 2⟩:=⟨⟨Tryd.t48,Tryd.type48,rfl,by decide,by decide,rfl⟩,⟨Tryd.underlying48,_,rfl,rfl⟩⟩
theorem ty50:TyOk Tryd.prog X0 50 ⟨s2,40,.struct [(0,48),(1,2),(2,2)]⟩:=⟨⟨Tryd.t50,Tryd.type50,rfl,by decide,by decide,rfl⟩,⟨⟨_,Tryd.underlying50,rfl,by simp⟩,⟨_,_,rfl,rfl,⟨_,rfl,rfl⟩,⟨_,_,rfl,rfl,⟨_,rfl,rfl⟩,⟨rfl,_,rfl,rfl⟩⟩⟩,by decide,Tryd.eqGuardType50,Tryd.stoodInHeld50⟩⟩
theorem ty52:TyOk Tryd.prog X0 52 ⟨s3,48,.struct [(0,2),(1,50)]⟩:=⟨⟨Tryd.t52,Tryd.type52,rfl,by decide,by decide,rfl⟩,⟨⟨_,Tryd.underlying52,rfl,by simp⟩,⟨_,_,rfl,rfl,⟨_,rfl,rfl⟩,⟨rfl,_,rfl,rfl⟩⟩,by decide,Tryd.eqGuardType52,Tryd.stoodInHeld52⟩⟩
theorem ty54:TyOk Tryd.prog X0 54 ⟨s6,80,.struct [(0,47),(2,52),(6,2),(7,4)]⟩:=⟨⟨Tryd.t54,Tryd.type54,rfl,by decide,by decide,rfl⟩,⟨⟨_,Tryd.underlying54,rfl,by simp⟩,⟨_,_,rfl,rfl,⟨_,rfl,rfl⟩,⟨_,_,rfl,rfl,⟨_,rfl,rfl⟩,⟨_,_,rfl,rfl,⟨_,rfl,rfl⟩,⟨rfl,_,rfl,rfl⟩⟩⟩⟩,by decide,Tryd.eqGuardType54,Tryd.stoodInHeld54⟩⟩
theorem ty57:TyOk Tryd.prog X0 57 ⟨s1,16,.struct [(0,2),(1,2)]⟩:=⟨⟨Tryd.t57,Tryd.type57,rfl,by decide,by decide,rfl⟩,⟨⟨_,Tryd.underlying57,rfl,by simp⟩,⟨_,_,rfl,rfl,⟨_,rfl,rfl⟩,⟨rfl,_,rfl,rfl⟩⟩,by decide,Tryd.eqGuardType57,Tryd.stoodInHeld57⟩⟩
theorem ty58:TyOk Tryd.prog X0 58 ⟨s2,40,.struct [(0,48),(1,2),(2,2)]⟩:=⟨⟨Tryd.t58,Tryd.type58,rfl,by decide,by decide,rfl⟩,⟨⟨_,Tryd.underlying58,rfl,by simp⟩,⟨_,_,rfl,rfl,⟨_,rfl,rfl⟩,⟨_,_,rfl,rfl,⟨_,rfl,rfl⟩,⟨rfl,_,rfl,rfl⟩⟩⟩,by decide,Tryd.eqGuardType58,Tryd.stoodInHeld58⟩⟩
theorem ty60:TyOk Tryd.prog X0 60 ⟨s3,48,.struct [(0,2),(1,58)]⟩:=⟨⟨Tryd.t60,Tryd.type60,rfl,by decide,by decide,rfl⟩,⟨⟨_,Tryd.underlying60,rfl,by simp⟩,⟨_,_,rfl,rfl,⟨_,rfl,rfl⟩,⟨rfl,_,rfl,rfl⟩⟩,by decide,Tryd.eqGuardType60,Tryd.stoodInHeld60⟩⟩
theorem ty62:TyOk Tryd.prog X0 62 ⟨s6,80,.struct [(0,57),(2,60),(6,2),(7,4)]⟩:=⟨⟨Tryd.t62,Tryd.type62,rfl,by decide,by decide,rfl⟩,⟨⟨_,Tryd.underlying62,rfl,by simp⟩,⟨_,_,rfl,rfl,⟨_,rfl,rfl⟩,⟨_,_,rfl,rfl,⟨_,rfl,rfl⟩,⟨_,_,rfl,rfl,⟨_,rfl,rfl⟩,⟨rfl,_,rfl,rfl⟩⟩⟩⟩,by decide,Tryd.eqGuardType62,Tryd.stoodInHeld62⟩⟩
theorem ty74:TyOk Tryd.prog X0 74 ⟨(.fn1 (.int .i64) .bool .z),8,.func⟩:=⟨⟨Tryd.t74,Tryd.type74,rfl,by decide,by decide,trivial⟩,⟨⟨_,_,_,Tryd.underlying74⟩,.inl ⟨_,_,_,rfl⟩⟩⟩
theorem ty115:TyOk Tryd.prog X0 115 ⟨(.list (.int .i64)),24,.slice 3⟩:=⟨⟨Tryd.t115,Tryd.type115,rfl,by decide,by decide,rfl⟩,⟨Tryd.underlying115,_,rfl,rfl⟩⟩
theorem tysOk:TysOk Tryd.prog X0:=tysOk_of ⟨ty2,ty3,ty4,ty5,ty9,ty22,ty24,ty28,ty29,ty32,ty34,ty39,ty47,ty48,ty50,ty52,ty54,ty57,ty58,ty60,ty62,ty74,ty115,trivial⟩
theorem follows:Tryd.prog.follows .mixedOrders=true:=by kernel_rfl
end DL
end Go.Dx
set_option maxRecDepth 100000
set_option maxHeartbeats 0
namespace Go.Dx
open Go.Proofs
namespace DL

noncomputable def F_laws_szInt64S (x0:List Int) (x1:Int):Option (Int):=
 bif (decide ((IntKind.wrap .i64 (x1 - (List.length x0:Int)):Int)<0)) then
 some (-1)
 else
 some (IntKind.wrap .i64 (x1 - (List.length x0:Int)))
noncomputable def K_laws_szInt64S:Callee:={ ins:=[.v (.list (.int .i64)) .z,.v (.int .i64) .z],outs:=[((.int .i64),.z)],F:=fun t=>F_laws_szInt64S t.1 t.2.1 }
noncomputable def X_laws_szInt64S:Ctx:={ tys:=tys,fns:=[],frz:=[],lps:=[],jns:=[],rjs:=[] }
noncomputable def F_laws_szRule (x0:List Int×Int×Int) (x1:Int):Option (Int):=
 (F_laws_szInt64S x0.1 x1).bind fun (y2:Int)=>
 bif (decide ((y2:Int)<0)) then
 some (-1)
 else
 some y2
noncomputable def K_laws_szRule:Callee:={ ins:=[.v s2 .z,.v (.int .i64) .z],outs:=[((.int .i64),.z)],F:=fun t=>F_laws_szRule t.1 t.2.1 }
noncomputable def X_laws_szRule:Ctx:={ tys:=tys,fns:=[(79,K_laws_szInt64S)],frz:=[],lps:=[],jns:=[],rjs:=[] }
noncomputable def F_laws_szOut (x0:Int×List Int×Int×Int) (x1:Int):Option (Int):=
 (F_laws_szRule x0.2 x1).bind fun (y2:Int)=>
 bif (decide ((y2:Int)<0)) then
 some (-1)
 else
 some y2
noncomputable def K_laws_szOut:Callee:={ ins:=[.v s3 .z,.v (.int .i64) .z],outs:=[((.int .i64),.z)],F:=fun t=>F_laws_szOut t.1 t.2.1 }
noncomputable def X_laws_szOut:Ctx:={ tys:=tys,fns:=[(62,K_laws_szRule)],frz:=[],lps:=[],jns:=[],rjs:=[] }
noncomputable def F_laws_szCoin (x0:(Int×Int)×(Int×List Int×Int×Int)×Int×Bool) (x1:Int):Option (Int):=
 (F_laws_szOut x0.2.1 x1).bind fun (y2:Int)=>
 bif (decide ((y2:Int)<0)) then
 some (-1)
 else
 some y2
noncomputable def K_laws_szCoin:Callee:={ ins:=[.v s6 .z,.v (.int .i64) .z],outs:=[((.int .i64),.z)],F:=fun t=>F_laws_szCoin t.1 t.2.1 }
noncomputable def X_laws_szCoin:Ctx:={ tys:=tys,fns:=[(38,K_laws_szOut)],frz:=[],lps:=[],jns:=[],rjs:=[] }
noncomputable def F_laws_szCoinS (x0:List ((Int×Int)×(Int×List Int×Int×Int)×Int×Bool)) (x1:Int):Option (Int):=
 bif (decide ((IntKind.wrap .i64 (x1 - (List.length x0:Int)):Int)<0)) then
 some (-1)
 else
 (loopO (S:=Int×Int) (X:=(Int)⊕(Int)) (fun (s10:Int×Int)=>
 bif (decide ((s10.2:Int)<(List.length x0:Int))) then
 bif (inB s10.2 x0) then
 (F_laws_szCoin (List.getD x0 (Int.toNat s10.2) ((0,0),((0,([],(0,0))),(0,false)))) s10.1).bind fun (y11:Int)=>
 bif (decide ((y11:Int)<0)) then
 some (Sum.inr (Sum.inr (-1)))
 else
 some (Sum.inl (y11,IntKind.wrap .i64 (s10.2+1)))
 else none
 else
 some (Sum.inr (Sum.inl s10.1))) (IntKind.wrap .i64 (x1 - (List.length x0:Int)),0)).bind fun (j12:(Int)⊕(Int))=>
 Sum.elim (fun (j13:Int)=>
 some j13) (fun (j14:Int)=>
 some j14) j12
noncomputable def K_laws_szCoinS:Callee:={ ins:=[.v (.list s6) .z,.v (.int .i64) .z],outs:=[((.int .i64),.z)],F:=fun t=>F_laws_szCoinS t.1 t.2.1 }
noncomputable def X_laws_szCoinS:Ctx:={ tys:=tys,fns:=[(24,K_laws_szCoin)],frz:=[],lps:=[(5,(⟨[(0,.keep),(1,.st (.int .i64) .z false),(5,.st (.int .i64) .z false)],[]⟩,⟨[((.exit 0),⟨[(1,.st (.int .i64) .z false)],[]⟩),(.ret,⟨[(4,.st (.int .i64) .z false)],[]⟩)]⟩))],jns:=[],rjs:=[] }
noncomputable def F_spec_l1In (x0:Int) (x1:Int) (x2:Int):Option (Bool):=
 (bif (decide ((x1:Int)≤x0)) then
 some (decide ((x0:Int)≤x2))
 else
 some false:Option (Bool)).bind fun (j2:Bool)=>
 some j2
noncomputable def K_spec_l1In:Callee:={ ins:=[.v (.int .i64) .z,.v (.int .i64) .z,.v (.int .i64) .z],outs:=[(.bool,.z)],F:=fun t=>F_spec_l1In t.1 t.2.1 t.2.2.1 }
noncomputable def X_spec_l1In:Ctx:={ tys:=tys,fns:=[],frz:=[],lps:=[],jns:=[],rjs:=[(1,⟨[(6,.st .bool .z false)],[]⟩)] }
noncomputable def F_spec_l3Ref (x0:Int×Int):Option (Bool):=
 ((F_spec_l1In x0.1 1 60).bind fun (y8:Bool)=>
 bif y8 then
 (F_spec_l1In x0.2 0 3).bind fun (y9:Bool)=>
 some y9
 else
 some false:Option (Bool)).bind fun (j10:Bool)=>
 some j10
noncomputable def K_spec_l3Ref:Callee:={ ins:=[.v s1 .z],outs:=[(.bool,.z)],F:=fun t=>F_spec_l3Ref t.1 }
noncomputable def X_spec_l3Ref:Ctx:={ tys:=tys,fns:=[(63,K_spec_l1In)],frz:=[],lps:=[],jns:=[],rjs:=[(1,⟨[(2,.st .bool .z false)],[]⟩)] }
noncomputable def F_spec_l2Height (x0:Int):Option (Bool):=
 (F_spec_l1In x0 0 999).bind fun (y2:Bool)=>
 some y2
noncomputable def K_spec_l2Height:Callee:={ ins:=[.v (.int .i64) .z],outs:=[(.bool,.z)],F:=fun t=>F_spec_l2Height t.1 }
noncomputable def X_spec_l2Height:Ctx:={ tys:=tys,fns:=[(63,K_spec_l1In)],frz:=[],lps:=[],jns:=[],rjs:=[] }
noncomputable def F_spec_l1Key (x0:Int):Option (Bool):=
 (F_spec_l1In x0 1 999).bind fun (y2:Bool)=>
 some y2
noncomputable def K_spec_l1Key:Callee:={ ins:=[.v (.int .i64) .z],outs:=[(.bool,.z)],F:=fun t=>F_spec_l1Key t.1 }
noncomputable def X_spec_l1Key:Ctx:={ tys:=tys,fns:=[(63,K_spec_l1In)],frz:=[],lps:=[],jns:=[],rjs:=[] }
noncomputable def F_spec_l2Fault (x0:List Int×Int×Int):Option (Int):=
 (F_spec_l1In (List.length x0.1:Int) 1 3).bind fun (y18:Bool)=>
 bif (!y18) then
 some 2
 else
 (loopO (S:=Int) (X:=(Unit)⊕(Int)) (fun (s21:Int)=>
 bif (decide ((s21:Int)<(List.length x0.1:Int))) then
 bif (inB s21 x0.1) then
 (F_spec_l1Key (List.getD x0.1 (Int.toNat s21) 0)).bind fun (y22:Bool)=>
 bif (!y22) then
 some (Sum.inr (Sum.inr 3))
 else
 some (Sum.inl (IntKind.wrap .i64 (s21+1)))
 else none
 else
 some (Sum.inr (Sum.inl ()))) 0).bind fun (j23:(Unit)⊕(Int))=>
 Sum.elim (fun (j24:Unit)=>
 ((F_spec_l1In x0.2.1 1 (List.length x0.1:Int)).bind fun (y28:Bool)=>
 bif (!y28) then
 some true
 else
 (F_spec_l2Height x0.2.2).bind fun (y29:Bool)=>
 some (!y29):Option (Bool)).bind fun (j30:Bool)=>
 bif j30 then
 some 3
 else
 (loopO (S:=Int) (X:=(Unit)⊕(Int)) (fun (s31:Int)=>
 bif (decide ((s31:Int)<(List.length x0.1:Int))) then
 bif (inB s31 x0.1) then
 bif (inB (IntKind.wrap .i64 (s31 - 1)) x0.1) then
 bif (decide ((List.getD x0.1 (Int.toNat s31) 0:Int)≤List.getD x0.1 (Int.toNat (IntKind.wrap .i64 (s31 - 1))) 0)) then
 some (Sum.inr (Sum.inr 1))
 else
 some (Sum.inl (IntKind.wrap .i64 (s31+1)))
 else none
 else none
 else
 some (Sum.inr (Sum.inl ()))) 1).bind fun (j32:(Unit)⊕(Int))=>
 Sum.elim (fun (j33:Unit)=>
 some 0) (fun (j34:Int)=>
 some j34) j32) (fun (j25:Int)=>
 some j25) j23
noncomputable def K_spec_l2Fault:Callee:={ ins:=[.rp s2 false],outs:=[((.int .i64),.z)],F:=fun t=>F_spec_l2Fault t.1 }
noncomputable def X_spec_l2Fault:Ctx:={ tys:=tys,fns:=[(40,K_spec_l2Height),(63,K_spec_l1In),(80,K_spec_l1Key)],frz:=[],lps:=[(5,(⟨[(0,.keep),(3,.keep),(4,.st (.int .i64) .z false)],[]⟩,⟨[((.exit 0),⟨[(0,.keep),(3,.keep)],[]⟩),(.ret,⟨[(2,.st (.int .i64) .z false)],[]⟩)]⟩)),
 (12,(⟨[(0,.keep),(5,.st (.int .i64) .z false)],[]⟩,⟨[((.exit 2),⟨[],[]⟩),(.ret,⟨[(2,.st (.int .i64) .z false)],[]⟩)]⟩))],jns:=[],rjs:=[(9,⟨[(0,.keep),(46,.st .bool .z false)],[]⟩)] }
noncomputable def F_spec_l4Out (x0:Int×List Int×Int×Int):Option (Int):=
 (F_spec_l1In x0.1 1 1000000).bind fun (y3:Bool)=>
 bif (!y3) then
 some 3
 else
 (F_spec_l2Fault x0.2).bind fun (y4:Int)=>
 some y4
noncomputable def K_spec_l4Out:Callee:={ ins:=[.rp s3 false],outs:=[((.int .i64),.z)],F:=fun t=>F_spec_l4Out t.1 }
noncomputable def X_spec_l4Out:Ctx:={ tys:=tys,fns:=[(63,K_spec_l1In),(64,K_spec_l2Fault)],frz:=[],lps:=[],jns:=[],rjs:=[] }
noncomputable def F_spec_l4Ahead (x0:Int×Int) (x1:Int×Int):Option (Bool):=
 bif (!decide ((x0.1:Int)=x1.1)) then
 some (decide ((x0.1:Int)<x1.1))
 else
 some (decide ((x0.2:Int)<x1.2))
noncomputable def K_spec_l4Ahead:Callee:={ ins:=[.v s1 .z,.v s1 .z],outs:=[(.bool,.z)],F:=fun t=>F_spec_l4Ahead t.1 t.2.1 }
noncomputable def X_spec_l4Ahead:Ctx:={ tys:=tys,fns:=[],frz:=[],lps:=[],jns:=[],rjs:=[] }
noncomputable def F_spec_l4Fault (x0:List ((Int×Int)×(Int×List Int×Int×Int)×Int×Bool)):Option (Int):=
 bif (decide ((40:Int)<(List.length x0:Int))) then
 some 2
 else
 (loopO (S:=Int) (X:=(Unit)⊕(Int)) (fun (s44:Int)=>
 bif (decide ((s44:Int)<(List.length x0:Int))) then
 (bif (inB s44 x0) then
 (F_spec_l3Ref (List.getD x0 (Int.toNat s44) ((0,0),((0,([],(0,0))),(0,false)))).1).bind fun (y47:Bool)=>
 bif (!y47) then
 some true
 else
 bif (inB s44 x0) then
 (F_spec_l2Height (List.getD x0 (Int.toNat s44) ((0,0),((0,([],(0,0))),(0,false)))).2.2.1).bind fun (y48:Bool)=>
 some (!y48)
 else none
 else none:Option (Bool)).bind fun (j49:Bool)=>
 bif j49 then
 some (Sum.inr (Sum.inr 3))
 else
 bif (inB s44 x0) then
 (F_spec_l4Out (List.getD x0 (Int.toNat s44) ((0,0),((0,([],(0,0))),(0,false)))).2.1).bind fun (y50:Int)=>
 bif (!decide ((y50:Int)=0)) then
 some (Sum.inr (Sum.inr y50))
 else
 (bif (decide ((0:Int)<s44)) then
 bif (inB (IntKind.wrap .i64 (s44 - 1)) x0) then
 bif (inB s44 x0) then
 (F_spec_l4Ahead (List.getD x0 (Int.toNat (IntKind.wrap .i64 (s44 - 1))) ((0,0),((0,([],(0,0))),(0,false)))).1 (List.getD x0 (Int.toNat s44) ((0,0),((0,([],(0,0))),(0,false)))).1).bind fun (y52:Bool)=>
 some (!y52)
 else none
 else none
 else
 some false:Option (Bool)).bind fun (j53:Bool)=>
 bif j53 then
 some (Sum.inr (Sum.inr 1))
 else
 some (Sum.inl (IntKind.wrap .i64 (s44+1)))
 else none
 else
 some (Sum.inr (Sum.inl ()))) 0).bind fun (j54:(Unit)⊕(Int))=>
 Sum.elim (fun (j55:Unit)=>
 some 0) (fun (j56:Int)=>
 some j56) j54
noncomputable def K_spec_l4Fault:Callee:={ ins:=[.v (.list s6) .z],outs:=[((.int .i64),.z)],F:=fun t=>F_spec_l4Fault t.1 }
noncomputable def X_spec_l4Fault:Ctx:={ tys:=tys,fns:=[(39,K_spec_l3Ref),(40,K_spec_l2Height),(41,K_spec_l4Out),(42,K_spec_l4Ahead)],frz:=[],lps:=[(4,(⟨[(0,.keep),(3,.st (.int .i64) .z false)],[]⟩,⟨[((.exit 0),⟨[],[]⟩),(.ret,⟨[(2,.st (.int .i64) .z false)],[]⟩)]⟩))],jns:=[],rjs:=[(6,⟨[(0,.keep),(3,.keep),(29,.st .bool .z false)],[]⟩),
 (11,⟨[(0,.keep),(3,.keep),(54,.st .bool .z false)],[]⟩)] }
noncomputable def F_spec_l2Digits (x0:Int):Option (List UInt8):=
 digS 19 x0
noncomputable def K_spec_l2Digits:Callee:={ ins:=[.v (.int .i64) .z],outs:=[(.str,.z)],F:=fun t=>F_spec_l2Digits t.1 }
noncomputable def F_spec_l2Text (x0:List Int×Int×Int):Option (List UInt8):=
 (F_spec_l2Digits x0.2.1).bind fun (y11:List UInt8)=>
 bif decide (List.length y11+List.length [32,111,102,32]≤LIM) then
 bif (inB 0 x0.1) then
 (F_spec_l2Digits (List.getD x0.1 (Int.toNat 0) 0)).bind fun (y12:List UInt8)=>
 bif decide (List.length (List.append y11 [32,111,102,32])+List.length y12≤LIM) then
 (loopO (S:=List UInt8×Int) (X:=List UInt8) (fun (s15:List UInt8×Int)=>
 bif (decide ((s15.2:Int)<(List.length x0.1:Int))) then
 bif decide (List.length s15.1+List.length [44]≤LIM) then
 bif (inB s15.2 x0.1) then
 (F_spec_l2Digits (List.getD x0.1 (Int.toNat s15.2) 0)).bind fun (y16:List UInt8)=>
 bif decide (List.length (List.append s15.1 [44])+List.length y16≤LIM) then
 some (Sum.inl (List.append (List.append s15.1 [44]) y16,IntKind.wrap .i64 (s15.2+1)))
 else none
 else none
 else none
 else
 some (Sum.inr s15.1)) (List.append (List.append y11 [32,111,102,32]) y12,1)).bind fun (j17:List UInt8)=>
 (bif (!decide ((x0.2.2:Int)=0)) then
 bif decide (List.length j17+List.length [32,97,102,116,101,114,32]≤LIM) then
 (F_spec_l2Digits x0.2.2).bind fun (y19:List UInt8)=>
 bif decide (List.length (List.append j17 [32,97,102,116,101,114,32])+List.length y19≤LIM) then
 some (List.append (List.append j17 [32,97,102,116,101,114,32]) y19)
 else none
 else none
 else
 some j17:Option (List UInt8)).bind fun (j20:List UInt8)=>
 some j20
 else none
 else none
 else none
noncomputable def K_spec_l2Text:Callee:={ ins:=[.rp s2 false],outs:=[(.str,.z)],F:=fun t=>F_spec_l2Text t.1 }
noncomputable def X_spec_l2Text:Ctx:={ tys:=tys,fns:=[(43,K_spec_l2Digits)],frz:=[],lps:=[(3,(⟨[(0,.keep),(3,.st .str .z false),(4,.st (.int .i64) .z false)],[]⟩,⟨[((.exit 0),⟨[(0,.keep),(3,.st .str .z false)],[]⟩)]⟩))],jns:=[(7,⟨[(.normal,⟨[(3,.st .str .z false)],[]⟩)]⟩)],rjs:=[] }
noncomputable def F_spec_l16Coins (x0:List ((Int×Int)×(Int×List Int×Int×Int)×Int×Bool)):Option (List UInt8):=
 (loopO (S:=List UInt8×Int) (X:=List UInt8) (fun (s23:List UInt8×Int)=>
 bif (decide ((s23.2:Int)<(List.length x0:Int))) then
 bif (inB s23.2 x0) then
 bif decide (List.length s23.1+List.length [99,111,105,110,32]≤LIM) then
 (F_spec_l2Digits (List.getD x0 (Int.toNat s23.2) ((0,0),((0,([],(0,0))),(0,false)))).1.1).bind fun (y24:List UInt8)=>
 bif decide (List.length (List.append s23.1 [99,111,105,110,32])+List.length y24≤LIM) then
 bif decide (List.length (List.append (List.append s23.1 [99,111,105,110,32]) y24)+List.length [58]≤LIM) then
 (F_spec_l2Digits (List.getD x0 (Int.toNat s23.2) ((0,0),((0,([],(0,0))),(0,false)))).1.2).bind fun (y25:List UInt8)=>
 bif decide (List.length (List.append (List.append (List.append s23.1 [99,111,105,110,32]) y24) [58])+List.length y25≤LIM) then
 bif decide (List.length (List.append (List.append (List.append (List.append s23.1 [99,111,105,110,32]) y24) [58]) y25)+List.length [32]≤LIM) then
 (F_spec_l2Digits (List.getD x0 (Int.toNat s23.2) ((0,0),((0,([],(0,0))),(0,false)))).2.1.1).bind fun (y26:List UInt8)=>
 bif decide (List.length (List.append (List.append (List.append (List.append (List.append s23.1 [99,111,105,110,32]) y24) [58]) y25) [32])+List.length y26≤LIM) then
 bif decide (List.length (List.append (List.append (List.append (List.append (List.append (List.append s23.1 [99,111,105,110,32]) y24) [58]) y25) [32]) y26)+List.length [32]≤LIM) then
 (F_spec_l2Text (List.getD x0 (Int.toNat s23.2) ((0,0),((0,([],(0,0))),(0,false)))).2.1.2).bind fun (y27:List UInt8)=>
 bif decide (List.length (List.append (List.append (List.append (List.append (List.append (List.append (List.append s23.1 [99,111,105,110,32]) y24) [58]) y25) [32]) y26) [32])+List.length y27≤LIM) then
 bif decide (List.length (List.append (List.append (List.append (List.append (List.append (List.append (List.append (List.append s23.1 [99,111,105,110,32]) y24) [58]) y25) [32]) y26) [32]) y27)+List.length [10]≤LIM) then
 some (Sum.inl (List.append (List.append (List.append (List.append (List.append (List.append (List.append (List.append (List.append s23.1 [99,111,105,110,32]) y24) [58]) y25) [32]) y26) [32]) y27) [10],IntKind.wrap .i64 (s23.2+1)))
 else none
 else none
 else none
 else none
 else none
 else none
 else none
 else none
 else none
 else none
 else
 some (Sum.inr s23.1)) ([],0)).bind fun (j28:List UInt8)=>
 some j28
noncomputable def K_spec_l16Coins:Callee:={ ins:=[.v (.list s6) .z],outs:=[(.str,.z)],F:=fun t=>F_spec_l16Coins t.1 }
noncomputable def X_spec_l16Coins:Ctx:={ tys:=tys,fns:=[(43,K_spec_l2Digits),(44,K_spec_l2Text)],frz:=[],lps:=[(3,(⟨[(0,.keep),(3,.st .str .z false),(4,.st (.int .i64) .z false)],[]⟩,⟨[((.exit 0),⟨[(3,.st .str .z false)],[]⟩)]⟩))],jns:=[],rjs:=[] }
noncomputable def F_spec_CoinsText (x0:List ((Int×Int)×(Int×List Int×Int×Int)×Int×Bool)):Option (Int×List UInt8):=
 (F_spec_l4Fault x0).bind fun (y3:Int)=>
 bif (!decide ((y3:Int)=0)) then
 some (y3,[])
 else
 (F_spec_l16Coins x0).bind fun (y4:List UInt8)=>
 some (0,y4)
noncomputable def K_spec_CoinsText:Callee:={ ins:=[.v (.list s6) .z],outs:=[(s7,.z)],F:=fun t=>F_spec_CoinsText t.1 }
noncomputable def X_spec_CoinsText:Ctx:={ tys:=tys,fns:=[(25,K_spec_l4Fault),(26,K_spec_l16Coins)],frz:=[],lps:=[],jns:=[],rjs:=[] }
noncomputable def F_laws_toRef (x0:Int×Int):Option (Int×Int):=
 some (x0.1,x0.2)
noncomputable def K_laws_toRef:Callee:={ ins:=[.v s1 .z],outs:=[(s1,.z)],F:=fun t=>F_laws_toRef t.1 }
noncomputable def X_laws_toRef:Ctx:={ tys:=tys,fns:=[],frz:=[],lps:=[],jns:=[],rjs:=[] }
noncomputable def F_laws_toInt64S (x0:List Int):Option (List Int):=
 bif (decide (0≤(List.length x0:Int))&&decide ((List.length x0:Int)≤(LIM:Int))) then
 (loopO (S:=List Int×Int) (X:=List Int) (fun (s3:List Int×Int)=>
 bif (decide ((s3.2:Int)<(List.length x0:Int))) then
 bif (inB s3.2 x0) then
 bif (inB s3.2 s3.1) then
 some (Sum.inl (List.set s3.1 (Int.toNat s3.2) (List.getD x0 (Int.toNat s3.2) 0),IntKind.wrap .i64 (s3.2+1)))
 else none
 else none
 else
 some (Sum.inr s3.1)) (List.replicate (Int.toNat (List.length x0:Int)) 0,0)).bind fun (j4:List Int)=>
 some j4
 else none
noncomputable def K_laws_toInt64S:Callee:={ ins:=[.v (.list (.int .i64)) .z],outs:=[((.list (.int .i64)),(.o .z))],F:=fun t=>F_laws_toInt64S t.1 }
noncomputable def X_laws_toInt64S:Ctx:={ tys:=tys,fns:=[],frz:=[],lps:=[(3,(⟨[(0,.keep),(3,.st (.list (.int .i64)) (.o .z) false),(4,.st (.int .i64) .z false)],[]⟩,⟨[((.exit 0),⟨[(3,.st (.list (.int .i64)) (.o .z) false)],[]⟩)]⟩))],jns:=[],rjs:=[] }
noncomputable def F_laws_toRule (x0:List Int×Int×Int):Option (List Int×Int×Int):=
 (F_laws_toInt64S x0.1).bind fun (y2:List Int)=>
 some (y2,(x0.2.1,x0.2.2))
noncomputable def K_laws_toRule:Callee:={ ins:=[.v s2 .z],outs:=[(s2,(.p (.o .z) .z))],F:=fun t=>F_laws_toRule t.1 }
noncomputable def X_laws_toRule:Ctx:={ tys:=tys,fns:=[(81,K_laws_toInt64S)],frz:=[],lps:=[],jns:=[],rjs:=[] }
noncomputable def F_laws_toOut (x0:Int×List Int×Int×Int):Option (Int×List Int×Int×Int):=
 (F_laws_toRule x0.2).bind fun (y2:List Int×Int×Int)=>
 some (x0.1,y2)
noncomputable def K_laws_toOut:Callee:={ ins:=[.v s3 .z],outs:=[(s3,(.p .z (.p (.o .z) .z)))],F:=fun t=>F_laws_toOut t.1 }
noncomputable def X_laws_toOut:Ctx:={ tys:=tys,fns:=[(65,K_laws_toRule)],frz:=[],lps:=[],jns:=[],rjs:=[] }
noncomputable def F_laws_toCoin (x0:(Int×Int)×(Int×List Int×Int×Int)×Int×Bool):Option ((Int×Int)×(Int×List Int×Int×Int)×Int×Bool):=
 (F_laws_toRef x0.1).bind fun (y3:Int×Int)=>
 (F_laws_toOut x0.2.1).bind fun (y4:Int×List Int×Int×Int)=>
 some (y3,(y4,(x0.2.2.1,x0.2.2.2)))
noncomputable def K_laws_toCoin:Callee:={ ins:=[.v s6 .z],outs:=[(s6,(.p .z (.p (.p .z (.p (.o .z) .z)) .z)))],F:=fun t=>F_laws_toCoin t.1 }
noncomputable def X_laws_toCoin:Ctx:={ tys:=tys,fns:=[(45,K_laws_toRef),(46,K_laws_toOut)],frz:=[],lps:=[],jns:=[],rjs:=[] }
noncomputable def F_laws_toCoinS (x0:List ((Int×Int)×(Int×List Int×Int×Int)×Int×Bool)):Option (List ((Int×Int)×(Int×List Int×Int×Int)×Int×Bool)):=
 bif (decide (0≤(List.length x0:Int))&&decide ((List.length x0:Int)≤(LIM:Int))) then
 (loopO (S:=List ((Int×Int)×(Int×List Int×Int×Int)×Int×Bool)×Int) (X:=List ((Int×Int)×(Int×List Int×Int×Int)×Int×Bool)) (fun (s8:List ((Int×Int)×(Int×List Int×Int×Int)×Int×Bool)×Int)=>
 bif (decide ((s8.2:Int)<(List.length x0:Int))) then
 bif (inB s8.2 x0) then
 (F_laws_toCoin (List.getD x0 (Int.toNat s8.2) ((0,0),((0,([],(0,0))),(0,false))))).bind fun (y9:(Int×Int)×(Int×List Int×Int×Int)×Int×Bool)=>
 bif (inB s8.2 s8.1) then
 some (Sum.inl (List.set s8.1 (Int.toNat s8.2) y9,IntKind.wrap .i64 (s8.2+1)))
 else none
 else none
 else
 some (Sum.inr s8.1)) (List.replicate (Int.toNat (List.length x0:Int)) ((0,0),((0,([],(0,0))),(0,false))),0)).bind fun (j10:List ((Int×Int)×(Int×List Int×Int×Int)×Int×Bool))=>
 some j10
 else none
noncomputable def K_laws_toCoinS:Callee:={ ins:=[.v (.list s6) .z],outs:=[((.list s6),(.o (.p .z (.p (.p .z (.p (.o .z) .z)) .z))))],F:=fun t=>F_laws_toCoinS t.1 }
noncomputable def X_laws_toCoinS:Ctx:={ tys:=tys,fns:=[(27,K_laws_toCoin)],frz:=[],lps:=[(3,(⟨[(0,.keep),(3,.st (.list s6) (.o (.p .z (.p (.p .z (.p (.o .z) .z)) .z))) false),(4,.st (.int .i64) .z false)],[]⟩,⟨[((.exit 0),⟨[(3,.st (.list s6) (.o (.p .z (.p (.p .z (.p (.o .z) .z)) .z))) false)],[]⟩)]⟩))],jns:=[],rjs:=[] }
noncomputable def F_impl_within (x0:Int) (x1:Int) (x2:Int):Option (Bool):=
 (bif (decide ((x1:Int)≤x0)) then
 some (decide ((x0:Int)≤x2))
 else
 some false:Option (Bool)).bind fun (j2:Bool)=>
 some j2
noncomputable def K_impl_within:Callee:={ ins:=[.v (.int .i64) .z,.v (.int .i64) .z,.v (.int .i64) .z],outs:=[(.bool,.z)],F:=fun t=>F_impl_within t.1 t.2.1 t.2.2.1 }
noncomputable def X_impl_within:Ctx:={ tys:=tys,fns:=[],frz:=[],lps:=[],jns:=[],rjs:=[(1,⟨[(6,.st .bool .z false)],[]⟩)] }
noncomputable def F_impl_isId (x0:Int):Option (Bool):=
 (F_impl_within x0 1 60).bind fun (y2:Bool)=>
 some y2
noncomputable def K_impl_isId:Callee:={ ins:=[.v (.int .i64) .z],outs:=[(.bool,.z)],F:=fun t=>F_impl_isId t.1 }
noncomputable def X_impl_isId:Ctx:={ tys:=tys,fns:=[(49,K_impl_within)],frz:=[],lps:=[],jns:=[],rjs:=[] }
noncomputable def F_impl_isRef (x0:Int×Int):Option (Bool):=
 ((F_impl_isId x0.1).bind fun (y8:Bool)=>
 bif y8 then
 (F_impl_within x0.2 0 3).bind fun (y9:Bool)=>
 some y9
 else
 some false:Option (Bool)).bind fun (j10:Bool)=>
 some j10
noncomputable def K_impl_isRef:Callee:={ ins:=[.v s1 .z],outs:=[(.bool,.z)],F:=fun t=>F_impl_isRef t.1 }
noncomputable def X_impl_isRef:Ctx:={ tys:=tys,fns:=[(49,K_impl_within),(66,K_impl_isId)],frz:=[],lps:=[],jns:=[],rjs:=[(1,⟨[(2,.st .bool .z false)],[]⟩)] }
noncomputable def F_impl_isHeight (x0:Int):Option (Bool):=
 (F_impl_within x0 0 999).bind fun (y2:Bool)=>
 some y2
noncomputable def K_impl_isHeight:Callee:={ ins:=[.v (.int .i64) .z],outs:=[(.bool,.z)],F:=fun t=>F_impl_isHeight t.1 }
noncomputable def X_impl_isHeight:Ctx:={ tys:=tys,fns:=[(49,K_impl_within)],frz:=[],lps:=[],jns:=[],rjs:=[] }
noncomputable def F_slices_IndexFunc_Lint64_int64 (x0:List Int) (x1:Int→Option Bool):Option (Int):=
 (loopO (S:=Int) (X:=(Unit)⊕(Int)) (fun (s10:Int)=>
 bif (decide ((s10:Int)<(List.length x0:Int))) then
 bif (inB s10 x0) then
 (x1 (List.getD x0 (Int.toNat s10) 0)).bind fun (y11:Bool)=>
 bif y11 then
 some (Sum.inr (Sum.inr s10))
 else
 some (Sum.inl (IntKind.wrap .i64 (s10+1)))
 else none
 else
 some (Sum.inr (Sum.inl ()))) 0).bind fun (j12:(Unit)⊕(Int))=>
 Sum.elim (fun (j13:Unit)=>
 some (-1)) (fun (j14:Int)=>
 some j14) j12
noncomputable def K_slices_IndexFunc_Lint64_int64:Callee:={ ins:=[.v (.list (.int .i64)) .z,.v (.fn1 (.int .i64) .bool .z) .z],outs:=[((.int .i64),.z)],F:=fun t=>F_slices_IndexFunc_Lint64_int64 t.1 t.2.1 }
noncomputable def X_slices_IndexFunc_Lint64_int64:Ctx:={ tys:=tys,fns:=[],frz:=[],lps:=[(2,(⟨[(0,.keep),(1,.keep),(7,.keep),(8,.st (.int .i64) .z false)],[]⟩,⟨[((.exit 0),⟨[],[]⟩),(.ret,⟨[(4,.st (.int .i64) .z false)],[]⟩)]⟩))],jns:=[],rjs:=[] }
noncomputable def F_slices_ContainsFunc_Lint64_int64 (x0:List Int) (x1:Int→Option Bool):Option (Bool):=
 (F_slices_IndexFunc_Lint64_int64 x0 x1).bind fun (y2:Int)=>
 some (decide ((0:Int)≤y2))
noncomputable def K_slices_ContainsFunc_Lint64_int64:Callee:={ ins:=[.v (.list (.int .i64)) .z,.v (.fn1 (.int .i64) .bool .z) .z],outs:=[(.bool,.z)],F:=fun t=>F_slices_ContainsFunc_Lint64_int64 t.1 t.2.1 }
noncomputable def X_slices_ContainsFunc_Lint64_int64:Ctx:={ tys:=tys,fns:=[(96,K_slices_IndexFunc_Lint64_int64)],frz:=[],lps:=[],jns:=[],rjs:=[] }
noncomputable def F_impl_isKey (x0:Int):Option (Bool):=
 (F_impl_within x0 1 999).bind fun (y2:Bool)=>
 some y2
noncomputable def K_impl_isKey:Callee:={ ins:=[.v (.int .i64) .z],outs:=[(.bool,.z)],F:=fun t=>F_impl_isKey t.1 }
noncomputable def X_impl_isKey:Ctx:={ tys:=tys,fns:=[(49,K_impl_within)],frz:=[],lps:=[],jns:=[],rjs:=[] }
noncomputable def F_impl_areKeys_c1 (x0:Int):Option (Bool):=
 (F_impl_isKey x0).bind fun (y2:Bool)=>
 some (!y2)
noncomputable def K_impl_areKeys_c1:Callee:={ ins:=[.v (.int .i64) .z],outs:=[(.bool,.z)],F:=fun t=>F_impl_areKeys_c1 t.1 }
noncomputable def X_impl_areKeys_c1:Ctx:={ tys:=tys,fns:=[(84,K_impl_isKey)],frz:=[],lps:=[],jns:=[],rjs:=[] }
noncomputable def F_impl_areKeys (x0:List Int):Option (Bool):=
 (F_slices_ContainsFunc_Lint64_int64 x0 (fun (a4:Int)=>(F_impl_areKeys_c1 a4).bind fun r5=>some r5)).bind fun (y6:Bool)=>
 some (!y6)
noncomputable def K_impl_areKeys:Callee:={ ins:=[.v (.list (.int .i64)) .z],outs:=[(.bool,.z)],F:=fun t=>F_impl_areKeys t.1 }
noncomputable def X_impl_areKeys:Ctx:={ tys:=tys,fns:=[(82,K_slices_ContainsFunc_Lint64_int64),(83,K_impl_areKeys_c1)],frz:=[],lps:=[],jns:=[],rjs:=[] }
noncomputable def F_impl_isRising (x0:List Int):Option (Bool):=
 (loopO (S:=Int) (X:=(Unit)⊕(Bool)) (fun (s5:Int)=>
 bif (decide ((s5:Int)<(List.length x0:Int))) then
 bif (inB s5 x0) then
 bif (inB (IntKind.wrap .i64 (s5 - 1)) x0) then
 bif (decide ((List.getD x0 (Int.toNat s5) 0:Int)≤List.getD x0 (Int.toNat (IntKind.wrap .i64 (s5 - 1))) 0)) then
 some (Sum.inr (Sum.inr false))
 else
 some (Sum.inl (IntKind.wrap .i64 (s5+1)))
 else none
 else none
 else
 some (Sum.inr (Sum.inl ()))) 1).bind fun (j6:(Unit)⊕(Bool))=>
 Sum.elim (fun (j7:Unit)=>
 some true) (fun (j8:Bool)=>
 some j8) j6
noncomputable def K_impl_isRising:Callee:={ ins:=[.v (.list (.int .i64)) .z],outs:=[(.bool,.z)],F:=fun t=>F_impl_isRising t.1 }
noncomputable def X_impl_isRising:Ctx:={ tys:=tys,fns:=[],frz:=[],lps:=[(2,(⟨[(0,.keep),(3,.st (.int .i64) .z false)],[]⟩,⟨[((.exit 0),⟨[],[]⟩),(.ret,⟨[(2,.st .bool .z false)],[]⟩)]⟩))],jns:=[],rjs:=[] }
noncomputable def F_impl_RuleFault (x0:List Int×Int×Int):Option (Int):=
 (F_impl_within (List.length x0.1:Int) 1 3).bind fun (y10:Bool)=>
 bif (!y10) then
 some 2
 else
 ((F_impl_areKeys x0.1).bind fun (y14:Bool)=>
 bif (!y14) then
 some true
 else
 (F_impl_within x0.2.1 1 (List.length x0.1:Int)).bind fun (y15:Bool)=>
 bif (!y15) then
 some true
 else
 (F_impl_isHeight x0.2.2).bind fun (y16:Bool)=>
 some (!y16):Option (Bool)).bind fun (j17:Bool)=>
 bif j17 then
 some 3
 else
 (F_impl_isRising x0.1).bind fun (y18:Bool)=>
 bif (!y18) then
 some 1
 else
 some 0
noncomputable def K_impl_RuleFault:Callee:={ ins:=[.v s2 .z],outs:=[((.int .i64),.z)],F:=fun t=>F_impl_RuleFault t.1 }
noncomputable def X_impl_RuleFault:Ctx:={ tys:=tys,fns:=[(48,K_impl_isHeight),(49,K_impl_within),(67,K_impl_areKeys),(68,K_impl_isRising)],frz:=[],lps:=[],jns:=[],rjs:=[(4,⟨[(1,.keep),(11,.st .bool .z false)],[(1,.keep)]⟩)] }
noncomputable def F_cmp_Or_int (x0:List Int):Option (Int):=
 (loopO (S:=Int) (X:=(Unit)⊕(Int)) (fun (s5:Int)=>
 bif (decide ((s5:Int)<(List.length x0:Int))) then
 bif (inB s5 x0) then
 bif (!decide ((List.getD x0 (Int.toNat s5) 0:Int)=0)) then
 some (Sum.inr (Sum.inr (List.getD x0 (Int.toNat s5) 0)))
 else
 some (Sum.inl (IntKind.wrap .i64 (s5+1)))
 else none
 else
 some (Sum.inr (Sum.inl ()))) 0).bind fun (j6:(Unit)⊕(Int))=>
 Sum.elim (fun (j7:Unit)=>
 some 0) (fun (j8:Int)=>
 some j8) j6
noncomputable def K_cmp_Or_int:Callee:={ ins:=[.v (.list (.int .i64)) .z],outs:=[((.int .i64),.z)],F:=fun t=>F_cmp_Or_int t.1 }
noncomputable def X_cmp_Or_int:Ctx:={ tys:=tys,fns:=[],frz:=[],lps:=[(3,(⟨[(3,.keep),(6,.keep),(7,.keep),(8,.st (.int .i64) .z false)],[]⟩,⟨[((.exit 0),⟨[(3,.keep)],[]⟩),(.ret,⟨[(2,.st (.int .i64) .z false)],[]⟩)]⟩))],jns:=[],rjs:=[] }
noncomputable def F_cmp_isNaN_int64 (x0:Int):Option (Bool):=
 some (!decide ((x0:Int)=x0))
noncomputable def K_cmp_isNaN_int64:Callee:={ ins:=[.v (.int .i64) .z],outs:=[(.bool,.z)],F:=fun t=>F_cmp_isNaN_int64 t.1 }
noncomputable def X_cmp_isNaN_int64:Ctx:={ tys:=tys,fns:=[],frz:=[],lps:=[],jns:=[],rjs:=[] }
noncomputable def F_cmp_Compare_int64 (x0:Int) (x1:Int):Option (Int):=
 (F_cmp_isNaN_int64 x0).bind fun (y3:Bool)=>
 (F_cmp_isNaN_int64 x1).bind fun (y4:Bool)=>
 bif y3 then
 bif y4 then
 some 0
 else
 some (-1)
 else
 bif y4 then
 some 1
 else
 bif (decide ((x0:Int)<x1)) then
 some (-1)
 else
 bif (decide ((x1:Int)<x0)) then
 some 1
 else
 some 0
noncomputable def K_cmp_Compare_int64:Callee:={ ins:=[.v (.int .i64) .z,.v (.int .i64) .z],outs:=[((.int .i64),.z)],F:=fun t=>F_cmp_Compare_int64 t.1 t.2.1 }
noncomputable def X_cmp_Compare_int64:Ctx:={ tys:=tys,fns:=[(85,K_cmp_isNaN_int64)],frz:=[],lps:=[],jns:=[],rjs:=[] }
noncomputable def F_impl_compareRefs (x0:Int×Int) (x1:Int×Int):Option (Int):=
 (F_cmp_Compare_int64 x0.1 x1.1).bind fun (y4:Int)=>
 (F_cmp_Compare_int64 x0.2 x1.2).bind fun (y5:Int)=>
 (F_cmp_Or_int ([y4,y5]:List Int)).bind fun (y6:Int)=>
 some y6
noncomputable def K_impl_compareRefs:Callee:={ ins:=[.v s1 .z,.v s1 .z],outs:=[((.int .i64),.z)],F:=fun t=>F_impl_compareRefs t.1 t.2.1 }
noncomputable def X_impl_compareRefs:Ctx:={ tys:=tys,fns:=[(69,K_cmp_Or_int),(70,K_cmp_Compare_int64)],frz:=[],lps:=[],jns:=[],rjs:=[] }
noncomputable def F_impl_CoinsFault (x0:List ((Int×Int)×(Int×List Int×Int×Int)×Int×Bool)):Option (Int):=
 bif (decide ((40:Int)<(List.length x0:Int))) then
 some 2
 else
 (loopO (S:=Int) (X:=(Unit)⊕(Int)) (fun (s54:Int)=>
 bif (decide ((s54:Int)<(List.length x0:Int))) then
 bif (inB s54 x0) then
 ((F_impl_isRef (List.getD x0 (Int.toNat s54) ((0,0),((0,([],(0,0))),(0,false)))).1).bind fun (y58:Bool)=>
 bif (!y58) then
 some true
 else
 (F_impl_isHeight (List.getD x0 (Int.toNat s54) ((0,0),((0,([],(0,0))),(0,false)))).2.2.1).bind fun (y59:Bool)=>
 bif (!y59) then
 some true
 else
 (F_impl_within (List.getD x0 (Int.toNat s54) ((0,0),((0,([],(0,0))),(0,false)))).2.1.1 1 1000000).bind fun (y60:Bool)=>
 some (!y60):Option (Bool)).bind fun (j61:Bool)=>
 bif j61 then
 some (Sum.inr (Sum.inr 3))
 else
 (F_impl_RuleFault (List.getD x0 (Int.toNat s54) ((0,0),((0,([],(0,0))),(0,false)))).2.1.2).bind fun (y62:Int)=>
 bif (!decide ((y62:Int)=0)) then
 some (Sum.inr (Sum.inr y62))
 else
 (bif (decide ((0:Int)<s54)) then
 bif (inB (IntKind.wrap .i64 (s54 - 1)) x0) then
 (F_impl_compareRefs (List.getD x0 (Int.toNat (IntKind.wrap .i64 (s54 - 1))) ((0,0),((0,([],(0,0))),(0,false)))).1 (List.getD x0 (Int.toNat s54) ((0,0),((0,([],(0,0))),(0,false)))).1).bind fun (y64:Int)=>
 some (decide ((0:Int)≤y64))
 else none
 else
 some false:Option (Bool)).bind fun (j65:Bool)=>
 bif j65 then
 some (Sum.inr (Sum.inr 1))
 else
 some (Sum.inl (IntKind.wrap .i64 (s54+1)))
 else none
 else
 some (Sum.inr (Sum.inl ()))) 0).bind fun (j66:(Unit)⊕(Int))=>
 Sum.elim (fun (j67:Unit)=>
 some 0) (fun (j68:Int)=>
 some j68) j66
noncomputable def K_impl_CoinsFault:Callee:={ ins:=[.v (.list s6) .z],outs:=[((.int .i64),.z)],F:=fun t=>F_impl_CoinsFault t.1 }
noncomputable def X_impl_CoinsFault:Ctx:={ tys:=tys,fns:=[(47,K_impl_isRef),(48,K_impl_isHeight),(49,K_impl_within),(50,K_impl_RuleFault),(51,K_impl_compareRefs)],frz:=[],lps:=[(4,(⟨[(0,.keep),(9,.keep),(10,.keep),(11,.st (.int .i64) .z false)],[]⟩,⟨[((.exit 0),⟨[],[]⟩),(.ret,⟨[(2,.st (.int .i64) .z false)],[]⟩)]⟩))],jns:=[],rjs:=[(6,⟨[(0,.keep),(3,.keep),(4,.keep),(9,.keep),(10,.keep),(11,.keep),(32,.st .bool .z false)],[(4,.keep)]⟩),
 (11,⟨[(0,.keep),(9,.keep),(10,.keep),(11,.keep),(53,.st .bool .z false)],[(4,.keep)]⟩)] }
noncomputable def F_strconv_FormatInt (x0:Int) (x1:Int):Option (List UInt8):=
 fmtS x0 x1
noncomputable def K_strconv_FormatInt:Callee:={ ins:=[.v (.int .i64) .z,.v (.int .i64) .z],outs:=[(.str,.z)],F:=fun t=>F_strconv_FormatInt t.1 t.2.1 }
noncomputable def F_impl_dec (x0:Int):Option (List UInt8):=
 (F_strconv_FormatInt x0 10).bind fun (y2:List UInt8)=>
 some y2
noncomputable def K_impl_dec:Callee:={ ins:=[.v (.int .i64) .z],outs:=[(.str,.z)],F:=fun t=>F_impl_dec t.1 }
noncomputable def X_impl_dec:Ctx:={ tys:=tys,fns:=[(71,K_strconv_FormatInt)],frz:=[],lps:=[],jns:=[],rjs:=[] }
noncomputable def F_strings_Join (x0:List (List UInt8)) (x1:List UInt8):Option (List UInt8):=
 joinS x0 x1
noncomputable def K_strings_Join:Callee:={ ins:=[.v (.list .str) .z,.v .str .z],outs:=[(.str,.z)],F:=fun t=>F_strings_Join t.1 t.2.1,dm:=false }
noncomputable def F_impl_joined (x0:List Int) (x1:List UInt8):Option (List UInt8):=
 (loopO (S:=List (List UInt8)×Int) (X:=List (List UInt8)) (fun (s9:List (List UInt8)×Int)=>
 bif (decide ((s9.2:Int)<(List.length x0:Int))) then
 bif (inB s9.2 x0) then
 (F_impl_dec (List.getD x0 (Int.toNat s9.2) 0)).bind fun (y10:List UInt8)=>
 bif decide (List.length s9.1+List.length ([y10]:List (List UInt8))≤LIM) then
 some (Sum.inl (List.append s9.1 ([y10]:List (List UInt8)),IntKind.wrap .i64 (s9.2+1)))
 else none
 else none
 else
 some (Sum.inr s9.1)) (([]:List (List UInt8)),0)).bind fun (j11:List (List UInt8))=>
 (F_strings_Join j11 x1).bind fun (y12:List UInt8)=>
 some y12
noncomputable def K_impl_joined:Callee:={ ins:=[.v (.list (.int .i64)) .z,.v .str .z],outs:=[(.str,.z)],F:=fun t=>F_impl_joined t.1 t.2.1,dm:=false }
noncomputable def X_impl_joined:Ctx:={ tys:=tys,fns:=[(52,K_impl_dec),(87,K_strings_Join)],frz:=[],lps:=[(3,(⟨[(1,.keep),(5,.st (.list .str) (.o .z) false),(9,.keep),(10,.keep),(11,.st (.int .i64) .z false)],[]⟩,⟨[((.exit 0),⟨[(1,.keep),(5,.st (.list .str) (.o .z) false)],[]⟩)]⟩))],jns:=[],rjs:=[] }
noncomputable def F_impl_ruleText (x0:List Int×Int×Int) (x1:List UInt8):Option (List UInt8):=
 (F_impl_dec x0.2.1).bind fun (y6:List UInt8)=>
 bif decide (List.length y6+List.length x1≤LIM) then
 bif decide (List.length (List.append y6 x1)+List.length [111,102]≤LIM) then
 bif decide (List.length (List.append (List.append y6 x1) [111,102])+List.length x1≤LIM) then
 (F_impl_joined x0.1 [44]).bind fun (y7:List UInt8)=>
 bif decide (List.length (List.append (List.append (List.append y6 x1) [111,102]) x1)+List.length y7≤LIM) then
 (bif (!decide ((x0.2.2:Int)=0)) then
 bif decide (List.length x1+List.length [97,102,116,101,114]≤LIM) then
 bif decide (List.length (List.append x1 [97,102,116,101,114])+List.length x1≤LIM) then
 (F_impl_dec x0.2.2).bind fun (y9:List UInt8)=>
 bif decide (List.length (List.append (List.append x1 [97,102,116,101,114]) x1)+List.length y9≤LIM) then
 bif decide (List.length (List.append (List.append (List.append (List.append y6 x1) [111,102]) x1) y7)+List.length (List.append (List.append (List.append x1 [97,102,116,101,114]) x1) y9)≤LIM) then
 some (List.append (List.append (List.append (List.append (List.append y6 x1) [111,102]) x1) y7) (List.append (List.append (List.append x1 [97,102,116,101,114]) x1) y9))
 else none
 else none
 else none
 else none
 else
 some (List.append (List.append (List.append (List.append y6 x1) [111,102]) x1) y7):Option (List UInt8)).bind fun (j10:List UInt8)=>
 some j10
 else none
 else none
 else none
 else none
noncomputable def K_impl_ruleText:Callee:={ ins:=[.v s2 .z,.v .str .z],outs:=[(.str,.z)],F:=fun t=>F_impl_ruleText t.1 t.2.1,dm:=false }
noncomputable def X_impl_ruleText:Ctx:={ tys:=tys,fns:=[(52,K_impl_dec),(72,K_impl_joined)],frz:=[],lps:=[],jns:=[(3,⟨[(.normal,⟨[(5,.st .str .z false)],[]⟩)]⟩)],rjs:=[] }
noncomputable def F_impl_coinsText (x0:List ((Int×Int)×(Int×List Int×Int×Int)×Int×Bool)):Option (List UInt8):=
 (loopO (S:=List UInt8×Int) (X:=List UInt8) (fun (s23:List UInt8×Int)=>
 bif (decide ((s23.2:Int)<(List.length x0:Int))) then
 bif (inB s23.2 x0) then
 (F_impl_dec (List.getD x0 (Int.toNat s23.2) ((0,0),((0,([],(0,0))),(0,false)))).1.1).bind fun (y24:List UInt8)=>
 bif decide (List.length [99,111,105,110,32]+List.length y24≤LIM) then
 bif decide (List.length (List.append [99,111,105,110,32] y24)+List.length [58]≤LIM) then
 (F_impl_dec (List.getD x0 (Int.toNat s23.2) ((0,0),((0,([],(0,0))),(0,false)))).1.2).bind fun (y25:List UInt8)=>
 bif decide (List.length (List.append (List.append [99,111,105,110,32] y24) [58])+List.length y25≤LIM) then
 bif decide (List.length (List.append (List.append (List.append [99,111,105,110,32] y24) [58]) y25)+List.length [32]≤LIM) then
 (F_impl_dec (List.getD x0 (Int.toNat s23.2) ((0,0),((0,([],(0,0))),(0,false)))).2.1.1).bind fun (y26:List UInt8)=>
 bif decide (List.length (List.append (List.append (List.append (List.append [99,111,105,110,32] y24) [58]) y25) [32])+List.length y26≤LIM) then
 bif decide (List.length (List.append (List.append (List.append (List.append (List.append [99,111,105,110,32] y24) [58]) y25) [32]) y26)+List.length [32]≤LIM) then
 (F_impl_ruleText (List.getD x0 (Int.toNat s23.2) ((0,0),((0,([],(0,0))),(0,false)))).2.1.2 [32]).bind fun (y27:List UInt8)=>
 bif decide (List.length (List.append (List.append (List.append (List.append (List.append (List.append [99,111,105,110,32] y24) [58]) y25) [32]) y26) [32])+List.length y27≤LIM) then
 bif decide (List.length (List.append (List.append (List.append (List.append (List.append (List.append (List.append [99,111,105,110,32] y24) [58]) y25) [32]) y26) [32]) y27)+List.length [10]≤LIM) then
 bif decide (List.length s23.1+List.length (List.append (List.append (List.append (List.append (List.append (List.append (List.append (List.append [99,111,105,110,32] y24) [58]) y25) [32]) y26) [32]) y27) [10])≤LIM) then
 some (Sum.inl (List.append s23.1 (List.append (List.append (List.append (List.append (List.append (List.append (List.append (List.append [99,111,105,110,32] y24) [58]) y25) [32]) y26) [32]) y27) [10]),IntKind.wrap .i64 (s23.2+1)))
 else none
 else none
 else none
 else none
 else none
 else none
 else none
 else none
 else none
 else none
 else
 some (Sum.inr s23.1)) ([],0)).bind fun (j28:List UInt8)=>
 some j28
noncomputable def K_impl_coinsText:Callee:={ ins:=[.v (.list s6) .z],outs:=[(.str,.z)],F:=fun t=>F_impl_coinsText t.1,dm:=false }
noncomputable def X_impl_coinsText:Ctx:={ tys:=tys,fns:=[(52,K_impl_dec),(53,K_impl_ruleText)],frz:=[],lps:=[(3,(⟨[(3,.st .str .z false),(6,.keep),(7,.keep),(8,.st (.int .i64) .z false)],[]⟩,⟨[((.exit 0),⟨[(3,.st .str .z false)],[]⟩)]⟩))],jns:=[],rjs:=[] }
noncomputable def F_impl_CoinsText (x0:List ((Int×Int)×(Int×List Int×Int×Int)×Int×Bool)):Option (Int×List UInt8):=
 (F_impl_CoinsFault x0).bind fun (y3:Int)=>
 bif (!decide ((y3:Int)=0)) then
 some (y3,[])
 else
 (F_impl_coinsText x0).bind fun (y4:List UInt8)=>
 some (0,y4)
noncomputable def K_impl_CoinsText:Callee:={ ins:=[.v (.list s6) .z],outs:=[(s7,.z)],F:=fun t=>F_impl_CoinsText t.1,dm:=false }
noncomputable def X_impl_CoinsText:Ctx:={ tys:=tys,fns:=[(28,K_impl_CoinsFault),(29,K_impl_coinsText)],frz:=[],lps:=[],jns:=[],rjs:=[] }
noncomputable def F_laws_eqTextResult (x0:Int×List UInt8) (x1:Int×List UInt8):Option (Bool):=
 bif (!decide ((x0.1:Int)=x1.1)) then
 some false
 else
 bif (!decide ((x0.2:List UInt8)=x1.2)) then
 some false
 else
 some true
noncomputable def K_laws_eqTextResult:Callee:={ ins:=[.v s7 .z,.v s7 .z],outs:=[(.bool,.z)],F:=fun t=>F_laws_eqTextResult t.1 t.2.1 }
noncomputable def X_laws_eqTextResult:Ctx:={ tys:=tys,fns:=[],frz:=[],lps:=[],jns:=[],rjs:=[] }
noncomputable def F_laws_eqRef (x0:Int×Int) (x1:Int×Int):Option (Bool):=
 bif (!decide ((x0.1:Int)=x1.1)) then
 some false
 else
 bif (!decide ((x0.2:Int)=x1.2)) then
 some false
 else
 some true
noncomputable def K_laws_eqRef:Callee:={ ins:=[.v s1 .z,.v s1 .z],outs:=[(.bool,.z)],F:=fun t=>F_laws_eqRef t.1 t.2.1 }
noncomputable def X_laws_eqRef:Ctx:={ tys:=tys,fns:=[],frz:=[],lps:=[],jns:=[],rjs:=[] }
noncomputable def F_laws_eqInt64S (x0:List Int) (x1:List Int):Option (Bool):=
 bif (!decide (((List.length x0:Int):Int)=(List.length x1:Int))) then
 some false
 else
 (loopO (S:=Int) (X:=(Unit)⊕(Bool)) (fun (s5:Int)=>
 bif (decide ((s5:Int)<(List.length x0:Int))) then
 bif (inB s5 x0) then
 bif (inB s5 x1) then
 bif (!decide ((List.getD x0 (Int.toNat s5) 0:Int)=List.getD x1 (Int.toNat s5) 0)) then
 some (Sum.inr (Sum.inr false))
 else
 some (Sum.inl (IntKind.wrap .i64 (s5+1)))
 else none
 else none
 else
 some (Sum.inr (Sum.inl ()))) 0).bind fun (j6:(Unit)⊕(Bool))=>
 Sum.elim (fun (j7:Unit)=>
 some true) (fun (j8:Bool)=>
 some j8) j6
noncomputable def K_laws_eqInt64S:Callee:={ ins:=[.v (.list (.int .i64)) .z,.v (.list (.int .i64)) .z],outs:=[(.bool,.z)],F:=fun t=>F_laws_eqInt64S t.1 t.2.1 }
noncomputable def X_laws_eqInt64S:Ctx:={ tys:=tys,fns:=[],frz:=[],lps:=[(4,(⟨[(0,.keep),(1,.keep),(5,.st (.int .i64) .z false)],[]⟩,⟨[((.exit 0),⟨[],[]⟩),(.ret,⟨[(4,.st .bool .z false)],[]⟩)]⟩))],jns:=[],rjs:=[] }
noncomputable def F_laws_eqRule (x0:List Int×Int×Int) (x1:List Int×Int×Int):Option (Bool):=
 (F_laws_eqInt64S x0.1 x1.1).bind fun (y2:Bool)=>
 bif (!y2) then
 some false
 else
 bif (!decide ((x0.2.1:Int)=x1.2.1)) then
 some false
 else
 bif (!decide ((x0.2.2:Int)=x1.2.2)) then
 some false
 else
 some true
noncomputable def K_laws_eqRule:Callee:={ ins:=[.v s2 .z,.v s2 .z],outs:=[(.bool,.z)],F:=fun t=>F_laws_eqRule t.1 t.2.1 }
noncomputable def X_laws_eqRule:Ctx:={ tys:=tys,fns:=[(88,K_laws_eqInt64S)],frz:=[],lps:=[],jns:=[],rjs:=[] }
noncomputable def F_laws_eqOut (x0:Int×List Int×Int×Int) (x1:Int×List Int×Int×Int):Option (Bool):=
 bif (!decide ((x0.1:Int)=x1.1)) then
 some false
 else
 (F_laws_eqRule x0.2 x1.2).bind fun (y2:Bool)=>
 bif (!y2) then
 some false
 else
 some true
noncomputable def K_laws_eqOut:Callee:={ ins:=[.v s3 .z,.v s3 .z],outs:=[(.bool,.z)],F:=fun t=>F_laws_eqOut t.1 t.2.1 }
noncomputable def X_laws_eqOut:Ctx:={ tys:=tys,fns:=[(73,K_laws_eqRule)],frz:=[],lps:=[],jns:=[],rjs:=[] }
noncomputable def F_laws_eqCoin (x0:(Int×Int)×(Int×List Int×Int×Int)×Int×Bool) (x1:(Int×Int)×(Int×List Int×Int×Int)×Int×Bool):Option (Bool):=
 (F_laws_eqRef x0.1 x1.1).bind fun (y3:Bool)=>
 bif (!y3) then
 some false
 else
 (F_laws_eqOut x0.2.1 x1.2.1).bind fun (y4:Bool)=>
 bif (!y4) then
 some false
 else
 bif (!decide ((x0.2.2.1:Int)=x1.2.2.1)) then
 some false
 else
 bif (!(Sh.beq .bool x0.2.2.2 x1.2.2.2)) then
 some false
 else
 some true
noncomputable def K_laws_eqCoin:Callee:={ ins:=[.v s6 .z,.v s6 .z],outs:=[(.bool,.z)],F:=fun t=>F_laws_eqCoin t.1 t.2.1 }
noncomputable def X_laws_eqCoin:Ctx:={ tys:=tys,fns:=[(54,K_laws_eqRef),(55,K_laws_eqOut)],frz:=[],lps:=[],jns:=[],rjs:=[] }
noncomputable def F_laws_eqCoinS (x0:List ((Int×Int)×(Int×List Int×Int×Int)×Int×Bool)) (x1:List ((Int×Int)×(Int×List Int×Int×Int)×Int×Bool)):Option (Bool):=
 bif (!decide (((List.length x0:Int):Int)=(List.length x1:Int))) then
 some false
 else
 (loopO (S:=Int) (X:=(Unit)⊕(Bool)) (fun (s10:Int)=>
 bif (decide ((s10:Int)<(List.length x0:Int))) then
 bif (inB s10 x0) then
 bif (inB s10 x1) then
 (F_laws_eqCoin (List.getD x0 (Int.toNat s10) ((0,0),((0,([],(0,0))),(0,false)))) (List.getD x1 (Int.toNat s10) ((0,0),((0,([],(0,0))),(0,false))))).bind fun (y11:Bool)=>
 bif (!y11) then
 some (Sum.inr (Sum.inr false))
 else
 some (Sum.inl (IntKind.wrap .i64 (s10+1)))
 else none
 else none
 else
 some (Sum.inr (Sum.inl ()))) 0).bind fun (j12:(Unit)⊕(Bool))=>
 Sum.elim (fun (j13:Unit)=>
 some true) (fun (j14:Bool)=>
 some j14) j12
noncomputable def K_laws_eqCoinS:Callee:={ ins:=[.v (.list s6) .z,.v (.list s6) .z],outs:=[(.bool,.z)],F:=fun t=>F_laws_eqCoinS t.1 t.2.1 }
noncomputable def X_laws_eqCoinS:Ctx:={ tys:=tys,fns:=[(30,K_laws_eqCoin)],frz:=[],lps:=[(4,(⟨[(0,.keep),(1,.keep),(5,.st (.int .i64) .z false)],[]⟩,⟨[((.exit 0),⟨[],[]⟩),(.ret,⟨[(4,.st .bool .z false)],[]⟩)]⟩))],jns:=[],rjs:=[] }
noncomputable def F_laws_FnExactCoinsText (x0:List ((Int×Int)×(Int×List Int×Int×Int)×Int×Bool)):Option (Bool):=
 (F_laws_szCoinS x0 1048576).bind fun (y9:Int)=>
 bif (decide ((y9:Int)<0)) then
 some true
 else
 (F_laws_toCoinS x0).bind fun (y10:List ((Int×Int)×(Int×List Int×Int×Int)×Int×Bool))=>
 (F_spec_CoinsText y10).bind fun (y11:Int×List UInt8)=>
 (F_laws_toCoinS x0).bind fun (y12:List ((Int×Int)×(Int×List Int×Int×Int)×Int×Bool))=>
 (F_impl_CoinsText y12).bind fun (y13:Int×List UInt8)=>
 (F_laws_eqTextResult y13 y11).bind fun (y14:Bool)=>
 bif (!y14) then
 some false
 else
 (F_laws_toCoinS x0).bind fun (y15:List ((Int×Int)×(Int×List Int×Int×Int)×Int×Bool))=>
 (F_laws_eqCoinS y12 y15).bind fun (y16:Bool)=>
 bif (!y16) then
 some false
 else
 some true
noncomputable def K_laws_FnExactCoinsText:Callee:={ ins:=[.v (.list s6) .z],outs:=[(.bool,.z)],F:=fun t=>F_laws_FnExactCoinsText t.1,dm:=false }
noncomputable def X_laws_FnExactCoinsText:Ctx:={ tys:=tys,fns:=[(11,K_laws_szCoinS),(12,K_spec_CoinsText),(13,K_laws_toCoinS),(14,K_impl_CoinsText),(15,K_laws_eqTextResult),(16,K_laws_eqCoinS)],frz:=[],lps:=[],jns:=[],rjs:=[] }
end DL
end Go.Dx

