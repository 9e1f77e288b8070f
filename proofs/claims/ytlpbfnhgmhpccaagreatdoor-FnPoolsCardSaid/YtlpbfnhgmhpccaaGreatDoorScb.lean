/- What each function computes: the rest -/
import Derived.Test.YtlpbfnhgmhpccaaGreatDoorSca
set_option linter.unusedVariables false
set_option linter.unusedSimpArgs false
set_option maxRecDepth 100000
set_option maxHeartbeats 0
noncomputable section
namespace Go.Dx
open Go.Proofs
namespace GL

def Qde (x0:List ((Int×Int)×(Int×List Int×Int×Int)×Int×Bool)) (x1:List (Int×Int)):Option (List ((Int×Int)×(Int×List Int×Int×Int)×Int×Bool)×Int):=
 (Jf x0).bind fun U=>
 (Qd (S:=List ((Int×Int)×(Int×List Int×Int×Int)×Int×Bool)×Int) (X:=(List ((Int×Int)×(Int×List Int×Int×Int)×Int×Bool))⊕(List ((Int×Int)×(Int×List Int×Int×Int)×Int×Bool)×Int)) (fun s17=>
 bif (decide ((s17.2:Int)<(List.length x1:Int))) then
 bif (inB s17.2 x1) then
 (Qaj s17.1 (List.getD x1 (Int.toNat s17.2) (0,0))).bind fun I=>
 bif (!I.2) then
 some (Sum.inr (Sum.inr (([]:List ((Int×Int)×(Int×List Int×Int×Int)×Int×Bool)),4)))
 else
 (Zv s17.1 I.1 (IntKind.wrap .i64 (I.1+1))).bind fun y19=>
 some (Sum.inl (y19,IntKind.wrap .i64 (s17.2+1)))
 else none
 else
 some (Sum.inr (Sum.inl s17.1))) (U,0)).bind fun j20=>
 Sum.elim (fun (j21:List ((Int×Int)×(Int×List Int×Int×Int)×Int×Bool))=>
 some (j21,0)) (fun (J:List ((Int×Int)×(Int×List Int×Int×Int)×Int×Bool)×Int)=>
 some (J.1,J.2)) j20
def QgF:Callee:=⟨[.v (.list s6) .z,.v (.list s0) .z],[((.list s6),(.o .z)),((.int .i64),.z)],fun t=>Qde t.1 t.2.1,true⟩
def QpH:Ctx:=⟨tys,[(121,Qam),(128,Qeb),(217,Qaa)],[],[(3,(⟨[(6,.st (.list s6) (.o .z) false),(13,.keep),(14,.keep),(15,.st (.int .i64) .z false)],[]⟩,⟨[((.exit 0),⟨[(6,.st (.list s6) (.o .z) false)],[]⟩),(.ret,⟨[(4,.st (.list s6) (.o (.p .z (.p (.p .z (.p (.o .z) .z)) .z))) false),(5,.st (.int .i64) .z false)],[]⟩)]⟩))],[],[],[],[]⟩
def Qe7 (I:List ((Int×Int)×(Int×List Int×Int×Int)×Int×Bool)) (x1:Int×Int×List (Int×Int)×List (Int×List Int×Int×Int)) (x2:Int) (x3:Int):Option (List ((Int×Int)×(Int×List Int×Int×Int)×Int×Bool)×Int):=
 (QaY I x1).bind fun J=>
 bif (!decide ((J.2:Int)=0)) then
 some (([]:List ((Int×Int)×(Int×List Int×Int×Int)×Int×Bool)),J.2)
 else
 (Qeu I x2).bind fun y6=>
 bif y6 then
 some (([]:List ((Int×Int)×(Int×List Int×Int×Int)×Int×Bool)),7)
 else
 (Qde I x1.2.2.1).bind fun y7=>
 (Qae y7.1 x2 x1.2.2.2 x3 false).bind fun U=>
 some (U.1,U.2)
def Qie:Callee:=⟨[.v (.list s6) .z,.v s17 .z,.v (.int .i64) .z,.v (.int .i64) .z],[((.list s6),.z),((.int .i64),.z)],fun t=>Qe7 t.1 t.2.1 t.2.2.1 t.2.2.2.1,true⟩
def QsZ:Ctx:=⟨tys,[(73,Qd4),(75,Qcq),(124,QhD),(176,QgF)],[],[],[],[],[],[]⟩
def J9 (x0:List (List UInt8)×List (Int×Int)) (x1:Int×Int×List ((Int×Int)×(Int×List Int×Int×Int)×Int×Bool)×List (Int×Int×Int)) (x2:Int) (x3:Int):Option (Int×List ((Int×Int)×(Int×List Int×Int×Int)×Int×Bool)×Int×Int×Int×List ((Int×Int)×(Int×List Int×Int×Int)×Int×Bool)×List (Int×Int×Int)):=
 (Ys x0 x2).bind fun J=>
 bif (!decide ((J.2:Int)=0)) then
 some (0,(([]:List ((Int×Int)×(Int×List Int×Int×Int)×Int×Bool)),(J.2,x1)))
 else
 (Ym x0 x1.2.2.1 J.1 x3).bind fun U=>
 bif (!decide ((U.2:Int)=0)) then
 some (0,(([]:List ((Int×Int)×(Int×List Int×Int×Int)×Int×Bool)),(U.2,x1)))
 else
 (J8 x1.2.2.2 J.1 x2).bind fun y8=>
 bif (!decide ((y8.2:Int)=0)) then
 some (0,(([]:List ((Int×Int)×(Int×List Int×Int×Int)×Int×Bool)),(y8.2,x1)))
 else
 (QaY x1.2.2.1 J.1).bind fun y9=>
 (Qe7 x1.2.2.1 J.1 x2 x3).bind fun I=>
 bif (!decide ((I.2:Int)=0)) then
 some (0,(([]:List ((Int×Int)×(Int×List Int×Int×Int)×Int×Bool)),(I.2,x1)))
 else
 some (U.1,(y9.1,(0,(x1.1,(x1.2.1,(I.1,y8.1))))))
def QeJ:Callee:=⟨[.v s1 .z,.io s10 .z .z,.v (.int .i64) .z,.v (.int .i64) .z],[((.int .i64),.z),((.list s6),.z),((.int .i64),.z)],fun t=>J9 t.1 t.2.1 t.2.2.1 t.2.2.2.1,false⟩
def Qn7:Ctx:=⟨tys,[(26,YY),(35,Y5),(75,Qcq),(122,QbL),(123,Qie)],[(7,4)],[],[],[],[],[]⟩
def Qd6 (I:Int):Option (Int):=
 bif (decide ((0:Int)<=IntKind.wrap .i64 (Int.tdiv (IntKind.wrap .i64 (I - 1)) 8))) then
 some (Int.fdiv 1000 (2 ^ (min (Int.toNat (IntKind.wrap .i64 (Int.tdiv (IntKind.wrap .i64 (I - 1)) 8))) 64)))
 else none
def Qhf:Callee:=⟨[.v (.int .i64) .z],[((.int .i64),.z)],fun t=>Qd6 t.1,true⟩
def QrC:Ctx:=⟨tys,[],[],[],[],[],[],[]⟩
def Qcw (x0:List (List UInt8)×List (Int×Int)) (x1:Int×Int×List ((Int×Int)×(Int×List Int×Int×Int)×Int×Bool)×List (Int×Int×Int)) (x2:Int):Option (Int×Int×(Int×List (List ((Int×Int)×(Int×List Int×Int×Int)×Int×Bool))×List (Int×Int×Int))×Int×Int×List ((Int×Int)×(Int×List Int×Int×Int)×Int×Bool)×List (Int×Int×Int)):=
 (Qag x0 x2).bind fun I=>
 bif (!decide ((I.2:Int)=0)) then
 some (I.2,(0,((0,([],[])),(0,(0,([],[]))))))
 else
 (bif (!decide ((I.1.1:Int)=x1.1)) then
 some true
 else
 some (!decide ((I.1.2.1:Int)=IntKind.wrap .i64 (x1.2.1+1))):Option (Bool)).bind fun j15=>
 bif j15 then
 some (10,(0,((0,([],[])),(0,(0,([],[]))))))
 else
 (Qd5 x1).bind fun y16=>
 (QF x1.2.2.2).bind fun y17=>
 (Qd (S:=Int×Int×(Int×Int×List ((Int×Int)×(Int×List Int×Int×Int)×Int×Bool)×List (Int×Int×Int))×Int×List (List ((Int×Int)×(Int×List Int×Int×Int)×Int×Bool))×List (Int×Int×Int)) (X:=(Int×(Int×Int×List ((Int×Int)×(Int×List Int×Int×Int)×Int×Bool)×List (Int×Int×Int))×Int×List (List ((Int×Int)×(Int×List Int×Int×Int)×Int×Bool))×List (Int×Int×Int))⊕(Int×Int×(Int×List (List ((Int×Int)×(Int×List Int×Int×Int)×Int×Bool))×List (Int×Int×Int))×Int×Int×List ((Int×Int)×(Int×List Int×Int×Int)×Int×Bool)×List (Int×Int×Int))) (fun s20=>
 bif (decide ((s20.2.1:Int)<(List.length I.1.2.2.2:Int))) then
 bif (inB s20.2.1 I.1.2.2.2) then
 (J9 x0 s20.2.2.1 (List.getD I.1.2.2.2 (Int.toNat s20.2.1) 0) I.1.2.1).bind fun J=>
 bif (!decide ((J.2.2.1:Int)=0)) then
 some (Sum.inr (Sum.inr (J.2.2.1,(0,((0,([],[])),(0,(0,([],[]))))))))
 else
 bif decide (List.length s20.2.2.2.2.1+List.length ([J.2.1]:List (List ((Int×Int)×(Int×List Int×Int×Int)×Int×Bool)))<=LIM) then
 some (Sum.inl (IntKind.wrap .i64 (s20.1+J.1),(IntKind.wrap .i64 (s20.2.1+1),(J.2.2.2,(s20.2.2.2.1,(List.append s20.2.2.2.2.1 ([J.2.1]:List (List ((Int×Int)×(Int×List Int×Int×Int)×Int×Bool))),s20.2.2.2.2.2))))))
 else none
 else none
 else
 some (Sum.inr (Sum.inl (s20.1,(s20.2.2.1,s20.2.2.2))))) (0,(0,(y16,(x2,([],y17)))))).bind fun j22=>
 Sum.elim (fun (U:Int×(Int×Int×List ((Int×Int)×(Int×List Int×Int×Int)×Int×Bool)×List (Int×Int×Int))×Int×List (List ((Int×Int)×(Int×List Int×Int×Int)×Int×Bool))×List (Int×Int×Int))=>
 (Qd6 I.1.2.1).bind fun y25=>
 bif (decide ((1000000:Int)<IntKind.wrap .i64 (y25+U.1))) then
 some (8,(0,((0,([],[])),(0,(0,([],[]))))))
 else
 (Qae U.2.1.2.2.1 x2 ([(IntKind.wrap .i64 (y25+U.1),(([I.1.2.2.1]:List Int),(1,0)))]:List (Int×List Int×Int×Int)) I.1.2.1 true).bind fun y26=>
 bif (!decide ((y26.2:Int)=0)) then
 some (y26.2,(0,((0,([],[])),(0,(0,([],[]))))))
 else
 some (0,(U.1,(U.2.2,(x2,(I.1.2.1,(y26.1,U.2.1.2.2.2))))))) (fun (j24:Int×Int×(Int×List (List ((Int×Int)×(Int×List Int×Int×Int)×Int×Bool))×List (Int×Int×Int))×Int×Int×List ((Int×Int)×(Int×List Int×Int×Int)×Int×Bool)×List (Int×Int×Int))=>
 some j24) j22
def QcA:Callee:=⟨[.v s1 .z,.v s10 .z,.v (.int .i64) .z],[(s26,(.p .z (.p .z (.p (.p .z (.p (.o .z) (.o .z))) (.p .z (.p .z (.p (.o (.p .z (.p (.p .z (.p (.o .z) .z)) .z))) .z)))))))],fun t=>Qcw t.1 t.2.1 t.2.2.1,false⟩
def Ql5:Ctx:=⟨tys,[(68,Qcx),(69,Qhr),(70,QX),(71,QeJ),(72,Qhf),(73,Qd4)],[],[(10,(⟨[(2,.keep),(3,.keep),(6,.keep),(7,.keep),(9,.keep),(10,.keep),(11,.st (.int .i64) .z false),(51,.keep),(52,.keep),(53,.st (.int .i64) .z false)],[(3,.keep),(6,.keep),(7,.keep),(9,.st s10 .z false),(10,.st s23 (.p .z (.p (.o .z) (.o .z))) false)]⟩,⟨[((.exit 0),⟨[(2,.keep),(6,.keep),(7,.keep),(9,.keep),(10,.keep),(11,.st (.int .i64) .z false)],[(6,.keep),(7,.keep),(9,.st s10 .z false),(10,.st s23 (.p .z (.p (.o .z) (.o .z))) false)]⟩),(.ret,⟨[(6,.keep)],[(6,.st s26 (.p .z (.p .z (.p (.p .z (.p (.o (.o (.p .z (.p (.p .z (.p (.o .z) .z)) .z)))) (.o .z))) (.p .z (.p .z (.p (.o (.p .z (.p (.p .z (.p (.o .z) .z)) .z))) (.o .z))))))) false)]⟩)]⟩))],[],[(4,⟨[(2,.keep),(3,.keep),(4,.keep),(6,.keep),(7,.keep),(41,.st .bool .z false)],[(3,.keep),(4,.keep),(6,.keep),(7,.keep)]⟩)],[],[]⟩
def Qbh (I:List (List UInt8)×List (Int×Int)) (x1:Int×Int×List ((Int×Int)×(Int×List Int×Int×Int)×Int×Bool)×List (Int×Int×Int)) (x2:Int):Option (Int×Int×(Int×List (List ((Int×Int)×(Int×List Int×Int×Int)×Int×Bool))×List (Int×Int×Int))×Int×Int×List ((Int×Int)×(Int×List Int×Int×Int)×Int×Bool)×List (Int×Int×Int)):=
 (Yp I).bind fun J=>
 bif (!decide ((J:Int)=0)) then
 some (J,(0,((0,([],[])),(0,(0,([],[]))))))
 else
 (QaE x1).bind fun U=>
 bif (!decide ((U:Int)=0)) then
 some (U,(0,((0,([],[])),(0,(0,([],[]))))))
 else
 (Qcw I x1 x2).bind fun y6=>
 some y6
def QdS:Callee:=⟨[.v s1 .z,.v s10 .z,.v (.int .i64) .z],[(s26,.z)],fun t=>Qbh t.1 t.2.1 t.2.2.1,false⟩
def QnF:Ctx:=⟨tys,[(25,Y3),(32,Qcd),(33,QcA)],[],[],[],[],[],[]⟩
def Qgl (U:List (List UInt8)×List (Int×Int)) (x1:Int×Int×List ((Int×Int)×(Int×List Int×Int×Int)×Int×Bool)×List (Int×Int×Int)) (x2:List Int):Option (Int×Int):=
 (Qbg U x1 x2).bind fun I=>
 bif (!decide ((I:Int)=0)) then
 some (I,0)
 else
 (Jd U x2).bind fun J=>
 (Qd (S:=Int×List (Int×Int×List (Int×Int)×List (Int×List Int×Int×Int))×Int) (X:=Int) (fun s17=>
 bif (decide ((s17.2.2:Int)<(List.length J:Int))) then
 bif (inB s17.2.2 s17.2.1) then
 (Jy x1).bind fun y18=>
 (Ym U x1.2.2.1 (List.getD s17.2.1 (Int.toNat s17.2.2) (0,(0,([],[])))) y18).bind fun y19=>
 some (Sum.inl (IntKind.wrap .i64 (s17.1+y19.1),(s17.2.1,IntKind.wrap .i64 (s17.2.2+1))))
 else none
 else
 some (Sum.inr s17.1)) (0,(J,0))).bind fun j20=>
 some (0,j20)
def Qjn:Callee:=⟨[.v s1 .z,.v s10 .z,.v (.list (.int .i64)) .z],[(s0,.z)],fun t=>Qgl t.1 t.2.1 t.2.2.1,false⟩
def QvE:Ctx:=⟨tys,[(18,QcV),(34,QaJ),(35,Y5),(36,Jz)],[],[(6,(⟨[(3,.keep),(4,.keep),(6,.keep),(8,.st (.int .i64) .z false),(23,.st (.list s17) .z false),(24,.keep),(25,.st (.int .i64) .z false)],[(3,.keep),(4,.keep),(6,.keep)]⟩,⟨[((.exit 0),⟨[(6,.keep),(8,.st (.int .i64) .z false)],[(6,.keep)]⟩)]⟩))],[],[],[],[]⟩
def Qhi (I:List Int) (x1:Int):Option (Bool):=
 (Qd (S:=Int) (X:=(Unit)⊕(Bool)) (fun s5=>
 bif (decide ((s5:Int)<(List.length I:Int))) then
 bif (inB s5 I) then
 bif (decide ((List.getD I (Int.toNat s5) 0:Int)=x1)) then
 some (Sum.inr (Sum.inr true))
 else
 some (Sum.inl (IntKind.wrap .i64 (s5+1)))
 else none
 else
 some (Sum.inr (Sum.inl ()))) 0).bind fun J=>
 Sum.elim (fun (j7:Unit)=>
 some false) (fun (U:Bool)=>
 some U) J
def Qkm:Callee:=⟨[.v (.list (.int .i64)) .z,.v (.int .i64) .z],[(.bool,.z)],fun t=>Qhi t.1 t.2.1,true⟩
def QxY:Ctx:=⟨tys,[],[],[(2,(⟨[(0,.keep),(1,.keep),(5,.st (.int .i64) .z false)],[]⟩,⟨[((.exit 0),⟨[],[]⟩),(.ret,⟨[(4,.st .bool .z false)],[]⟩)]⟩))],[],[],[],[]⟩
def QeT (I:Int×Int×List ((Int×Int)×(Int×List Int×Int×Int)×Int×Bool)×List (Int×Int×Int)) (x1:List Int):Option (Bool):=
 (Qd (S:=Int) (X:=(Unit)⊕(Bool)) (fun s10=>
 bif (decide ((s10:Int)<(List.length I.2.2.1:Int))) then
 bif (inB s10 I.2.2.1) then
 (Qhi x1 (List.getD I.2.2.1 (Int.toNat s10) ((0,0),((0,([],(0,0))),(0,false)))).1.1).bind fun J=>
 bif J then
 some (Sum.inr (Sum.inr true))
 else
 some (Sum.inl (IntKind.wrap .i64 (s10+1)))
 else none
 else
 some (Sum.inr (Sum.inl ()))) 0).bind fun U=>
 Sum.elim (fun (j13:Unit)=>
 some false) (fun (j14:Bool)=>
 some j14) U
def QiH:Callee:=⟨[.v s10 .z,.v (.list (.int .i64)) .z],[(.bool,.z)],fun t=>QeT t.1 t.2.1,true⟩
def Qt5:Ctx:=⟨tys,[(37,Qkm)],[],[(2,(⟨[(1,.keep),(2,.keep),(5,.st (.int .i64) .z false)],[(2,.keep)]⟩,⟨[((.exit 0),⟨[],[]⟩),(.ret,⟨[(4,.st .bool .z false)],[]⟩)]⟩))],[],[],[],[]⟩
def Qis (x0:List Int):Option (Bool):=
 (Qkc x0).bind fun y68=>
 bif y68 then
 some true
 else
 (QaL x0).bind fun I=>
 (QcY I.1 I.2.1 I.2.2.1 I.2.2.2).bind fun J=>
 bif (!decide ((J.1:Int)=0)) then
 (QG I.1 I.2.1 I.2.2.1 I.2.2.2).bind fun y71=>
 some (decide ((y71.1:Int)=J.1))
 else
 (Qd (S:=Int) (X:=(Unit)⊕(Bool)) (fun s87=>
 bif (decide ((s87:Int)<(List.length I.2.2.1:Int))) then
 (Qd (S:=Int) (X:=(Unit)⊕(Bool)) (fun s94=>
 bif (decide ((s94:Int)<s87)) then
 bif (inB s94 I.2.2.1) then
 (QfJ I.1 (List.getD I.2.2.1 (Int.toNat s94) 0)).bind fun y95=>
 bif (inB s87 I.2.2.1) then
 (QfJ I.1 (List.getD I.2.2.1 (Int.toNat s87) 0)).bind fun y96=>
 (Qe0 y95.2 y96.2).bind fun y97=>
 bif y97 then
 some (Sum.inr (Sum.inr false))
 else
 some (Sum.inl (IntKind.wrap .i64 (s94+1)))
 else none
 else none
 else
 some (Sum.inr (Sum.inl ()))) 0).bind fun j98=>
 Sum.elim (fun (j99:Unit)=>
 some (Sum.inl (IntKind.wrap .i64 (s87+1)))) (fun (j100:Bool)=>
 some (Sum.inr (Sum.inr j100))) j98
 else
 some (Sum.inr (Sum.inl ()))) 0).bind fun j101=>
 Sum.elim (fun (j102:Unit)=>
 (Qc2 J.2).bind fun y104=>
 (Qea I.1 y104.2).bind fun y105=>
 bif (!decide ((y104.1:Int)=0)) then
 some false
 else
 bif (!decide ((y105.1:Int)=0)) then
 some (decide ((y105.1:Int)=2))
 else
 (Qbh y105.2.2 I.2.1 y105.2.1).bind fun U=>
 (Qgl I.1 I.2.1 I.2.2.1).bind fun y107=>
 (bif (decide ((U.1:Int)=0)) then
 bif (decide ((y107.1:Int)=0)) then
 bif (!decide ((U.1:Int)=0)) then
 (QG I.1 I.2.1 I.2.2.1 I.2.2.2).bind fun y121=>
 bif (decide (((List.length J.2.2.2.2:Int):Int)=(List.length y121.2.2.2.2:Int))) then
 some (decide ((J.2.2.1:Int)=IntKind.wrap .i64 (I.2.1.2.1+1)))
 else
 some false
 else
 bif (decide ((6:Int)<(List.length I.2.2.1:Int))) then
 (QG I.1 I.2.1 I.2.2.1 I.2.2.2).bind fun y122=>
 bif (decide (((List.length J.2.2.2.2:Int):Int)=(List.length y122.2.2.2.2:Int))) then
 some (decide ((J.2.2.1:Int)=IntKind.wrap .i64 (I.2.1.2.1+1)))
 else
 some false
 else
 bif (decide ((U.2.1:Int)=y107.2)) then
 (QG I.1 I.2.1 I.2.2.1 I.2.2.2).bind fun y123=>
 bif (decide (((List.length J.2.2.2.2:Int):Int)=(List.length y123.2.2.2.2:Int))) then
 some (decide ((J.2.2.1:Int)=IntKind.wrap .i64 (I.2.1.2.1+1)))
 else
 some false
 else
 some false
 else
 some false
 else
 bif (decide ((U.1:Int)=2)) then
 bif (decide ((y107.1:Int)=0)) then
 bif (!decide ((U.1:Int)=0)) then
 (QG I.1 I.2.1 I.2.2.1 I.2.2.2).bind fun y124=>
 bif (decide (((List.length J.2.2.2.2:Int):Int)=(List.length y124.2.2.2.2:Int))) then
 some (decide ((J.2.2.1:Int)=IntKind.wrap .i64 (I.2.1.2.1+1)))
 else
 some false
 else
 bif (decide ((6:Int)<(List.length I.2.2.1:Int))) then
 (QG I.1 I.2.1 I.2.2.1 I.2.2.2).bind fun y125=>
 bif (decide (((List.length J.2.2.2.2:Int):Int)=(List.length y125.2.2.2.2:Int))) then
 some (decide ((J.2.2.1:Int)=IntKind.wrap .i64 (I.2.1.2.1+1)))
 else
 some false
 else
 bif (decide ((U.2.1:Int)=y107.2)) then
 (QG I.1 I.2.1 I.2.2.1 I.2.2.2).bind fun y126=>
 bif (decide (((List.length J.2.2.2.2:Int):Int)=(List.length y126.2.2.2.2:Int))) then
 some (decide ((J.2.2.1:Int)=IntKind.wrap .i64 (I.2.1.2.1+1)))
 else
 some false
 else
 some false
 else
 some false
 else
 bif (decide ((U.1:Int)=8)) then
 bif (decide ((y107.1:Int)=0)) then
 bif (!decide ((U.1:Int)=0)) then
 (QG I.1 I.2.1 I.2.2.1 I.2.2.2).bind fun y127=>
 bif (decide (((List.length J.2.2.2.2:Int):Int)=(List.length y127.2.2.2.2:Int))) then
 some (decide ((J.2.2.1:Int)=IntKind.wrap .i64 (I.2.1.2.1+1)))
 else
 some false
 else
 bif (decide ((6:Int)<(List.length I.2.2.1:Int))) then
 (QG I.1 I.2.1 I.2.2.1 I.2.2.2).bind fun y128=>
 bif (decide (((List.length J.2.2.2.2:Int):Int)=(List.length y128.2.2.2.2:Int))) then
 some (decide ((J.2.2.1:Int)=IntKind.wrap .i64 (I.2.1.2.1+1)))
 else
 some false
 else
 bif (decide ((U.2.1:Int)=y107.2)) then
 (QG I.1 I.2.1 I.2.2.1 I.2.2.2).bind fun y129=>
 bif (decide (((List.length J.2.2.2.2:Int):Int)=(List.length y129.2.2.2.2:Int))) then
 some (decide ((J.2.2.1:Int)=IntKind.wrap .i64 (I.2.1.2.1+1)))
 else
 some false
 else
 some false
 else
 some false
 else
 bif (decide ((U.1:Int)=7)) then
 bif decide (List.length ([y105.2.1]:List Int)+List.length I.2.2.1<=LIM) then
 (QeT I.2.1 (List.append ([y105.2.1]:List Int) I.2.2.1)).bind fun y130=>
 bif y130 then
 bif (decide ((y107.1:Int)=0)) then
 bif (!decide ((U.1:Int)=0)) then
 (QG I.1 I.2.1 I.2.2.1 I.2.2.2).bind fun y131=>
 bif (decide (((List.length J.2.2.2.2:Int):Int)=(List.length y131.2.2.2.2:Int))) then
 some (decide ((J.2.2.1:Int)=IntKind.wrap .i64 (I.2.1.2.1+1)))
 else
 some false
 else
 bif (decide ((6:Int)<(List.length I.2.2.1:Int))) then
 (QG I.1 I.2.1 I.2.2.1 I.2.2.2).bind fun y132=>
 bif (decide (((List.length J.2.2.2.2:Int):Int)=(List.length y132.2.2.2.2:Int))) then
 some (decide ((J.2.2.1:Int)=IntKind.wrap .i64 (I.2.1.2.1+1)))
 else
 some false
 else
 bif (decide ((U.2.1:Int)=y107.2)) then
 (QG I.1 I.2.1 I.2.2.1 I.2.2.2).bind fun y133=>
 bif (decide (((List.length J.2.2.2.2:Int):Int)=(List.length y133.2.2.2.2:Int))) then
 some (decide ((J.2.2.1:Int)=IntKind.wrap .i64 (I.2.1.2.1+1)))
 else
 some false
 else
 some false
 else
 some false
 else
 some false
 else none
 else
 some false:Option (Bool)).bind fun j134=>
 some j134) (fun (j103:Bool)=>
 some j103) j101
def QhY:Callee:=⟨[.v (.list (.int .u8)) .z],[(.bool,.z)],fun t=>Qis t.1,false⟩
def Qsp:Ctx:=⟨tys,[(4,Qkn),(5,Qc6),(6,Qgu),(7,Qgr),(8,QhZ),(9,QlF),(10,Qgy),(11,Qhe),(12,QdS),(13,Qjn),(14,QiH)],[],[(8,(⟨[(3,.keep),(4,.keep),(5,.keep),(6,.keep),(7,.keep),(8,.st (.int .i64) .z false)],[(3,.keep),(4,.keep),(7,.keep)]⟩,⟨[((.exit 0),⟨[(3,.keep),(4,.keep),(5,.keep),(6,.keep),(7,.keep)],[(3,.keep),(4,.keep),(7,.keep)]⟩),(.ret,⟨[(2,.st .bool .z false)],[]⟩)]⟩)),
 (11,(⟨[(3,.keep),(4,.keep),(5,.keep),(6,.keep),(7,.keep),(8,.keep),(9,.st (.int .i64) .z false)],[(3,.keep),(4,.keep),(7,.keep)]⟩,⟨[((.exit 2),⟨[(3,.keep),(4,.keep),(5,.keep),(6,.keep),(7,.keep),(8,.keep)],[(3,.keep),(4,.keep),(7,.keep)]⟩),(.ret,⟨[(2,.st .bool .z false)],[]⟩)]⟩))],[],[(23,⟨[(2,.st .bool .z false)],[]⟩)],[],[]⟩
end GL
end Go.Dx
end
