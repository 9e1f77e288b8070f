/- The plain law: no program in sight -/
import Derived.Test.YtjipmcikidfhiaaGreatDoorSca
set_option linter.unusedVariables false
set_option linter.unusedSimpArgs false
set_option maxHeartbeats 1000000
namespace Go.Dx
namespace GL
abbrev TCoin:=(Int×Int)×(Int×List Int×Int×Int)×Int×Bool
abbrev TM:=Int×Int×Int
abbrev TUndo:=Int×List (List TCoin)×List TM
abbrev TState:=Int×Int×List TCoin×List TM
abbrev TChain:=(List (List UInt8)×List (Int×Int))×List TM×List Int×TState×List TUndo
def QgP (l:List (List UInt8)):Nat:=l.length+(l.map List.length).sum
def QcL (c:TCoin):Nat:=c.2.1.2.1.length
def JQ (l:List TCoin):Nat:=l.length+(l.map QcL).sum
def QfX (l:List (List TCoin)):Nat:=l.length+(l.map JQ).sum
def QbA (u:TUndo):Nat:=QfX u.2.1+u.2.2.length
def QfB (l:List TUndo):Nat:=l.length+(l.map QbA).sum
def Qfx (s:TState):Nat:=JQ s.2.2.1+s.2.2.2.length
def Qbc (c:TChain):Nat:=((((QgP c.1.1+c.1.2.length)+c.2.1.length)+c.2.2.1.length)+Qfx c.2.2.2.1)+QfB c.2.2.2.2
def bL {α:Type} (p:α->Prop) (l:List α):Prop:=l.length<=9223372036854775807/\∀y,y ∈ l->p y
def bAny {α:Type} (_:α):Prop:=True
def YV (c:TCoin):Prop:=bL bAny c.2.1.2.1
def Qao (u:TUndo):Prop:=bL (bL YV) u.2.1/\bL bAny u.2.2
def QgK (s:TState):Prop:=bL YV s.2.2.1/\bL bAny s.2.2.2
def Qkf (c:TChain):Prop:=(bL (bL bAny) c.1.1/\bL bAny c.1.2)/\bL bAny c.2.1/\bL bAny c.2.2.1/\QgK c.2.2.2.1/\bL Qao c.2.2.2.2
theorem Qd0 {s:Sh} {p:s.den->Prop} (I:∀y,Bnd s y->p y) {l:List s.den} (h:Bnd (.list s) l):bL p l:=⟨h.1,fun y J=>I y (h.2 y J)⟩
theorem QE (i n:Nat) (h:i<n) (I:n<=9223372036854775807):IntKind.wrap .i64 ((i:Int)+1)=((i+1:Nat):Int):=by
 rw[QX (by omega) (by omega)];omega
theorem Qks (t:Nat) (left:Int) (c:Int) (J:0<=left):(bif decide (szr t left<0) then (some (Sum.inr (Sum.inr (-1))):Option ((Int×Int)⊕(Int⊕Int))) else some (Sum.inl (szr t left,c)))=if (t:Int)<=left then some (Sum.inl (left - t,c)) else some (Sum.inr (Sum.inr (-1))):=by
 by_cases h:(t:Int)<=left
 ·have e:szr t left=left - t:=by simp[szr,h]
  have I:¬(left - (t:Int))<0:=by omega
  simp[e,I,h]
 ·have e:szr t left = -1:=by simp[szr,h]
  simp[e,h]
theorem QrT (t:Nat) (left:Int) (c:Int) (J:0<=left) (h1:left<=1048576) (U:t<=9223372036854775807):(bif decide (IntKind.wrap .i64 (left - (t:Int))<0) then (some (Sum.inr (Sum.inr (-1))):Option ((Int×Int)⊕(Int⊕Int))) else some (Sum.inl (IntKind.wrap .i64 (left - (t:Int)),c)))=if (t:Int)<=left then some (Sum.inl (left - t,c)) else some (Sum.inr (Sum.inr (-1))):=by
 rw[QX (by omega) (by omega)]
 by_cases h:(t:Int)<=left
 ·have I:¬(left - (t:Int))<0:=by omega
  simp[I,h]
 ·have I:(left - (t:Int))<0:=by omega
  simp[I,h]
theorem Qhv (left:Int) (h:0<=left):szr 0 left=left:=by simp[szr,h]
theorem QkK (x:List (Int×Int)) (I:x.length<=9223372036854775807) (left:Int) (J:0<=left) (h1:left<=1048576):QaY x left=some (szr x.length left):=by
 unfold QaY;exact Qcj (b:=0) (k:=fun l=>some l) J h1 I (fun h=>by rw[Qhv _ (by omega)])
theorem QkR (x:List TM) (I:x.length<=9223372036854775807) (left:Int) (J:0<=left) (h1:left<=1048576):QaM x left=some (szr x.length left):=by
 unfold QaM;exact Qcj (b:=0) (k:=fun l=>some l) J h1 I (fun h=>by rw[Qhv _ (by omega)])
theorem Qgg (x:List Int) (I:x.length<=9223372036854775807) (left:Int) (J:0<=left) (h1:left<=1048576):Yn x left=some (szr x.length left):=by
 unfold Yn;exact Qcj (b:=0) (k:=fun l=>some l) J h1 I (fun h=>by rw[Qhv _ (by omega)])
theorem QfQ (x:List TM) (I:x.length<=9223372036854775807) (left:Int) (J:0<=left) (h1:left<=1048576):Yc x left=some (szr x.length left):=by
 unfold Yc;exact Qcj (b:=0) (k:=fun l=>some l) J h1 I (fun h=>by rw[Qhv _ (by omega)])
theorem Qjx (x:List (List UInt8)) (I:bL (bL bAny) x) (left:Int) (J:0<=left) (h1:left<=1048576):Qbd x left=some (szr (QgP x) left):=by
 unfold Qbd;refine Qcj (b:=(x.map List.length).sum) (k:=fun l=>(Qc _ (l,0)).bind _) J h1 I.1 (fun hle=>?_)
 refine Qiu x List.length _ (fun i left h J h1=>?_) (fun left=>?_) _ (by omega) (by omega)
 ·have e1:decide ((i:Int)<(x.length:Int))=true:=by simpa using h
  simp only[e1,Qb x i h,Qa x i _ h,aLB,QE i _ h I.1];exact QrT _ _ _ J h1 (I.2 _ (aLl h)).1
 ·simp
theorem QjG (x:List (List UInt8)×List (Int×Int)) (I:bL (bL bAny) x.1/\bL bAny x.2) (left:Int) (J:0<=left) (h1:left<=1048576):QbL x left=some (szr (QgP x.1+x.2.length) left):=by
 unfold QbL;rw[Qjx _ I.1 _ J h1,aLc];refine Qg4 _ _ _ (k:=fun y=>(QaY x.2 y).bind fun U=>bif decide (U<0) then some (-1) else some U) J fun h=>?_
 have hl:=Qei h
 rw[QkK _ I.2.1 _ h (by omega),aLc]
 exact QdG _ _ h
theorem QlS (x:List Int×Int×Int) (J:x.1.length<=9223372036854775807) (left:Int) (I:0<=left) (h1:left<=1048576):Qdv x left=some (szr x.1.length left):=by
 unfold Qdv;rw[Qgg _ J _ I h1,aLc];exact QdG _ _ I
theorem QmN (x:Int×List Int×Int×Int) (J:x.2.1.length<=9223372036854775807) (left:Int) (I:0<=left) (h1:left<=1048576):Qen x left=some (szr x.2.1.length left):=by
 unfold Qen;rw[QlS _ J _ I h1,aLc];exact QdG _ _ I
theorem Ql0 (x:TCoin) (J:YV x) (left:Int) (I:0<=left) (h1:left<=1048576):QdD x left=some (szr (QcL x) left):=by
 unfold QdD;rw[QmN _ J.1 _ I h1,aLc];exact QdG _ _ I
theorem Qg3 (x:List TCoin) (J:bL YV x) (left:Int) (I:0<=left) (h1:left<=1048576):QaW x left=some (szr (x.length+(x.map QcL).sum) left):=by
 unfold QaW;refine Qcj (b:=(x.map QcL).sum) (k:=fun l=>(Qc _ (l,0)).bind _) I h1 J.1 (fun hle=>?_)
 refine Qiu x QcL _ (fun i left h I h1=>?_) (fun left=>?_) _ (by omega) (by omega)
 ·have e1:decide ((i:Int)<(x.length:Int))=true:=by simpa using h
  simp only[e1,Qb x i h,Qa x i _ h,aLB,QE i _ h J.1,Ql0 _ (J.2 _ (aLl h)) _ I h1,aLc];exact Qks _ _ _ I
 ·simp
theorem QjO (x:List (List TCoin)) (J:bL (bL YV) x) (left:Int) (I:0<=left) (h1:left<=1048576):QbK x left=some (szr (x.length+(x.map JQ).sum) left):=by
 unfold QbK;refine Qcj (b:=(x.map JQ).sum) (k:=fun l=>(Qc _ (l,0)).bind _) I h1 J.1 (fun hle=>?_)
 refine Qiu x JQ _ (fun i left h I h1=>?_) (fun left=>?_) _ (by omega) (by omega)
 ·have e1:decide ((i:Int)<(x.length:Int))=true:=by simpa using h
  simp only[e1,Qb x i h,Qa x i _ h,aLB,QE i _ h J.1,Qg3 _ (J.2 _ (aLl h)) _ I h1,aLc];exact Qks _ _ _ I
 ·simp
theorem Qky (x:TState) (I:QgK x) (left:Int) (J:0<=left) (h1:left<=1048576):YP x left=some (szr (Qfx x) left):=by
 unfold YP;rw[Qg3 _ I.1 _ J h1,aLc];refine Qg4 _ _ _ (k:=fun y=>(Yc x.2.2.2 y).bind fun U=>bif decide (U<0) then some (-1) else some U) J fun h=>?_
 have hl:=Qei h
 rw[QfQ _ I.2.1 _ h (by omega),aLc]
 exact QdG _ _ h
theorem Qma (x:TUndo) (I:Qao x) (left:Int) (J:0<=left) (h1:left<=1048576):Qdg x left=some (szr (QbA x) left):=by
 unfold Qdg;rw[QjO _ I.1 _ J h1,aLc];refine Qg4 _ _ _ (k:=fun y=>(Yc x.2.2 y).bind fun U=>bif decide (U<0) then some (-1) else some U) J fun h=>?_
 have hl:=Qei h
 rw[QfQ _ I.2.1 _ h (by omega),aLc]
 exact QdG _ _ h
theorem QkM (x:List TUndo) (J:bL Qao x) (left:Int) (I:0<=left) (h1:left<=1048576):Yf x left=some (szr (x.length+(x.map QbA).sum) left):=by
 unfold Yf;refine Qcj (b:=(x.map QbA).sum) (k:=fun l=>(Qc _ (l,0)).bind _) I h1 J.1 (fun hle=>?_)
 refine Qiu x QbA _ (fun i left h I h1=>?_) (fun left=>?_) _ (by omega) (by omega)
 ·have e1:decide ((i:Int)<(x.length:Int))=true:=by simpa using h
  simp only[e1,Qb x i h,Qa x i _ h,aLB,QE i _ h J.1,Qma _ (J.2 _ (aLl h)) _ I h1,aLc];exact Qks _ _ _ I
 ·simp
theorem QgH (a b:Nat) (left:Int) (h:0<=szr a left):szr b (szr a left)=szr (a+b) left:=by
 have I:=Qei h
 rw[I.2];simp only[szr];split<;>split<;>omega
theorem Qko (x:TChain) (hx:Qkf x) (left:Int) (h0:0<=left) (h1:left<=1048576):Qct x left=some (szr (Qbc x) left):=by
 obtain⟨hb1,hb2,hb3,hb4,hb5⟩:=hx;unfold Qct;rw[QjG _ hb1 _ h0 h1,aLc];have fin:∀(a:Nat) (k:Int->Option Int) (b:Nat),(0<=szr a left->k (szr a left)=some (szr (a+b) left))->(bif decide (szr a left<0) then some (-1) else k (szr a left))=some (szr (a+b) left):=by
  intro a k b hk;exact Qg4 a b left h0 (fun h=>by rw[hk h,QgH _ _ _ h])
 have e:Qbc x=QgP x.1.1+x.1.2.length+(x.2.1.length+(x.2.2.1.length+(Qfx x.2.2.2.1+QfB x.2.2.2.2))):=by simp only[Qbc];omega
 rw[e];refine fin _ (fun y6=>(QaM x.2.1 y6).bind fun y7=>bif decide (y7<0) then some (-1) else (Yn x.2.2.1 y7).bind fun U=>bif decide (U<0) then some (-1) else (YP x.2.2.2.1 U).bind fun J=>bif decide (J<0) then some (-1) else (Yf x.2.2.2.2 J).bind fun I=>bif decide (I<0) then some (-1) else some I) _ fun h=>?_
 have hl:=Qei h
 rw[QkR _ hb2.1 _ h (by omega),aLc,QgH _ _ _ h,<-Nat.add_assoc]
 refine fin _ (fun y7=>(Yn x.2.2.1 y7).bind fun U=>bif decide (U<0) then some (-1) else (YP x.2.2.2.1 U).bind fun J=>bif decide (J<0) then some (-1) else (Yf x.2.2.2.2 J).bind fun I=>bif decide (I<0) then some (-1) else some I) _ fun h=>?_
 have hl:=Qei h
 rw[Qgg _ hb3.1 _ h (by omega),aLc,QgH _ _ _ h,<-Nat.add_assoc]
 refine fin _ (fun U=>(YP x.2.2.2.1 U).bind fun J=>bif decide (J<0) then some (-1) else (Yf x.2.2.2.2 J).bind fun I=>bif decide (I<0) then some (-1) else some I) _ fun h=>?_
 have hl:=Qei h
 rw[Qky _ hb4 _ h (by omega),aLc,QgH _ _ _ h,<-Nat.add_assoc]
 refine fin _ (fun J=>(Yf x.2.2.2.2 J).bind fun I=>bif decide (I<0) then some (-1) else some I) _ fun h=>?_
 have hl:=Qei h
 rw[QkM _ hb5 _ h (by omega),aLc,QgH _ _ _ h]
 exact QdG _ _ h0
end GL
end Go.Dx
set_option maxHeartbeats 1000000
namespace Go.Dx
namespace GL
theorem Qj4 {α:Type} (m:α->Nat):∀(l:List α) (y:α),y ∈ l->m y<=(l.map m).sum
 | x::l,y,h=>by
  simp only[List.map_cons,List.sum_cons];cases List.mem_cons.1 h with
  | inl h=>subst h;omega
  | inr h=>have:=Qj4 m l y h;omega
theorem QeY {n:Nat} (h:n<=1048576):(decide (0<=(n:Int))&&decide ((n:Int)<=(LIM:Int)))=true:=by
 have h1:(0:Int)<=n:=by omega
 have I:(n:Int)<=(LIM:Int):=by unfold LIM;omega
 rw[aLE h1,aLE I];rfl
theorem Qco {α:Type} (l:List α) (d:α) (f:List α×Int->Option ((List α×Int)⊕List α)) (I:∀(i:Nat) (acc:List α) (h:i<l.length),acc.length=l.length->f (acc,(i:Int))=some (.inl (acc.set i l[i],((i+1:Nat):Int))))
  (J:∀acc,f (acc,(l.length:Int))=some (.inr acc)):(Qc f (List.replicate (Int.toNat (l.length:Int)) d,0)).bind (fun j=>some j)=some l:=by
 rw[show Int.toNat (l.length:Int)=l.length by simp,QsP l d f I J];rfl
theorem Qjt (x:List (List UInt8)) (I:x.length<=1048576):Qa5 x=some x:=by
 unfold Qa5;have J:x.length<=1048576:=by exact I
 rw[QeY J,aLB];refine Qco x [] _ (fun i acc h ha=>?_) (fun acc=>?_)
 ·have e1:decide ((i:Int)<(x.length:Int))=true:=by simpa using h
  have U:inB (i:Int) acc=true:=Qb acc i (by omega)
  have e3:Int.toNat (i:Int)=i:=by simp
  simp only[e1,Qb x i h,U,aLB,Qa x i _ h,QE i _ h (by omega)]
  rw[e3]
 ·simp
theorem Ql8 (x:Int×Int):Qda x=some x:=rfl
theorem QlT (x:TM):Qde x=some x:=rfl
theorem Qh0 (x:Int×Int):QdX x=some x:=rfl
theorem QjV (x:TM):J6 x=some x:=by unfold J6;rw[Qh0,aLc]
theorem Qku (x:List (Int×Int)) (J:x.length<=1048576):QcW x=some x:=by
 unfold QcW;have U:x.length<=1048576:=by exact J
 rw[QeY U,aLB];refine Qco x (0,0) _ (fun i acc h ha=>?_) (fun acc=>?_)
 ·have e1:decide ((i:Int)<(x.length:Int))=true:=by simpa using h
  have e2:inB (i:Int) acc=true:=Qb acc i (by omega)
  have e3:Int.toNat (i:Int)=i:=by simp
  have I:Qda (List.getD x (Int.toNat (i:Int)) (0,0))=some x[i]:=by rw[Qa x i _ h];exact Ql8 _
  simp only[e1,Qb x i h,e2,aLB,I,aLc,QE i _ h (by omega)]
  rw[e3]
 ·simp
theorem QkE (x:List TM) (J:x.length<=1048576):QcJ x=some x:=by
 unfold QcJ;have U:x.length<=1048576:=by exact J
 rw[QeY U,aLB];refine Qco x (0,(0,0)) _ (fun i acc h ha=>?_) (fun acc=>?_)
 ·have e1:decide ((i:Int)<(x.length:Int))=true:=by simpa using h
  have e2:inB (i:Int) acc=true:=Qb acc i (by omega)
  have e3:Int.toNat (i:Int)=i:=by simp
  have I:Qde (List.getD x (Int.toNat (i:Int)) (0,(0,0)))=some x[i]:=by rw[Qa x i _ h];exact QlT _
  simp only[e1,Qb x i h,e2,aLB,I,aLc,QE i _ h (by omega)]
  rw[e3]
 ·simp
theorem Qgb (x:List Int) (I:x.length<=1048576):J9 x=some x:=by
 unfold J9;have J:x.length<=1048576:=by exact I
 rw[QeY J,aLB];refine Qco x 0 _ (fun i acc h ha=>?_) (fun acc=>?_)
 ·have e1:decide ((i:Int)<(x.length:Int))=true:=by simpa using h
  have U:inB (i:Int) acc=true:=Qb acc i (by omega)
  have e3:Int.toNat (i:Int)=i:=by simp
  simp only[e1,Qb x i h,U,aLB,Qa x i _ h,QE i _ h (by omega)]
  rw[e3]
 ·simp
theorem QfF (x:List TM) (J:x.length<=1048576):JM x=some x:=by
 unfold JM;have U:x.length<=1048576:=by exact J
 rw[QeY U,aLB];refine Qco x (0,(0,0)) _ (fun i acc h ha=>?_) (fun acc=>?_)
 ·have e1:decide ((i:Int)<(x.length:Int))=true:=by simpa using h
  have e2:inB (i:Int) acc=true:=Qb acc i (by omega)
  have e3:Int.toNat (i:Int)=i:=by simp
  have I:J6 (List.getD x (Int.toNat (i:Int)) (0,(0,0)))=some x[i]:=by rw[Qa x i _ h];exact QjV _
  simp only[e1,Qb x i h,e2,aLB,I,aLc,QE i _ h (by omega)]
  rw[e3]
 ·simp
theorem QjN (x:List (List UInt8)×List (Int×Int)) (h1:x.1.length<=1048576) (I:x.2.length<=1048576):Qb6 x=some x:=by
 unfold Qb6;rw[Qjt _ h1,aLc,Qku _ I,aLc]
theorem QlR (x:List Int×Int×Int) (h:x.1.length<=1048576):Qdc x=some x:=by
 unfold Qdc;rw[Qgb _ h,aLc]
theorem QnM (x:Int×List Int×Int×Int) (h:x.2.1.length<=1048576):Qec x=some x:=by
 unfold Qec;rw[QlR _ h,aLc]
theorem Qmj (x:TCoin) (h:QcL x<=1048576):Qbm x=some x:=by
 unfold Qbm;rw[Qh0,aLc,QnM _ h,aLc]
theorem QgM (x:List TCoin) (hx:JQ x<=1048576):JH x=some x:=by
 unfold JH;have J:x.length<=1048576:=by have:x.length<=JQ x:=Nat.le_add_right _ _;omega
 rw[QeY J,aLB];refine Qco x ((0,0),((0,([],(0,0))),(0,false))) _ (fun i acc h ha=>?_) (fun acc=>?_)
 ·have e1:decide ((i:Int)<(x.length:Int))=true:=by simpa using h
  have U:inB (i:Int) acc=true:=Qb acc i (by omega)
  have e3:Int.toNat (i:Int)=i:=by simp
  have hm:QcL x[i]<=1048576:=by
   have h1:=Qj4 QcL x _ (aLl h)
   have h2:(x.map QcL).sum<=JQ x:=Nat.le_add_left _ _
   omega
  have I:Qbm (List.getD x (Int.toNat (i:Int)) ((0,0),((0,([],(0,0))),(0,false))))=some x[i]:=by rw[Qa x i _ h];exact Qmj _ hm
  simp only[e1,Qb x i h,U,aLB,I,aLc,QE i _ h (by omega)]
  rw[e3]
 ·simp
theorem Qj9 (x:List (List TCoin)) (hx:QfX x<=1048576):Qb1 x=some x:=by
 unfold Qb1;have J:x.length<=1048576:=by have:x.length<=QfX x:=Nat.le_add_right _ _;omega
 rw[QeY J,aLB];refine Qco x [] _ (fun i acc h ha=>?_) (fun acc=>?_)
 ·have e1:decide ((i:Int)<(x.length:Int))=true:=by simpa using h
  have U:inB (i:Int) acc=true:=Qb acc i (by omega)
  have e3:Int.toNat (i:Int)=i:=by simp
  have hm:JQ x[i]<=1048576:=by
   have h1:=Qj4 JQ x _ (aLl h)
   have h2:(x.map JQ).sum<=QfX x:=Nat.le_add_left _ _
   omega
  have I:JH (List.getD x (Int.toNat (i:Int)) [])=some x[i]:=by rw[Qa x i _ h];exact QgM _ hm
  simp only[e1,Qb x i h,U,aLB,I,aLc,QE i _ h (by omega)]
  rw[e3]
 ·simp
theorem QkF (x:TState) (h:Qfx x<=1048576):Qcy x=some x:=by
 simp only[Qfx] at h;unfold Qcy;rw[QgM _ (by omega),aLc,QfF _ (by omega),aLc]
theorem Qmb (x:TUndo) (h:QbA x<=1048576):Qbv x=some x:=by
 simp only[QbA] at h;unfold Qbv;rw[Qj9 _ (by omega),aLc,QfF _ (by omega),aLc]
theorem Qk8 (x:List TUndo) (hx:QfB x<=1048576):QcU x=some x:=by
 unfold QcU;have J:x.length<=1048576:=by have:x.length<=QfB x:=Nat.le_add_right _ _;omega
 rw[QeY J,aLB];refine Qco x (0,([],[])) _ (fun i acc h ha=>?_) (fun acc=>?_)
 ·have e1:decide ((i:Int)<(x.length:Int))=true:=by simpa using h
  have U:inB (i:Int) acc=true:=Qb acc i (by omega)
  have e3:Int.toNat (i:Int)=i:=by simp
  have hm:QbA x[i]<=1048576:=by
   have h1:=Qj4 QbA x _ (aLl h)
   have h2:(x.map QbA).sum<=QfB x:=Nat.le_add_left _ _
   omega
  have I:Qbv (List.getD x (Int.toNat (i:Int)) (0,([],[])))=some x[i]:=by rw[Qa x i _ h];exact Qmb _ hm
  simp only[e1,Qb x i h,U,aLB,I,aLc,QE i _ h (by omega)]
  rw[e3]
 ·simp
theorem QkP (x:TChain) (h:Qbc x<=1048576):JG x=some x:=by
 simp only[Qbc] at h;have I:x.1.1.length<=QgP x.1.1:=Nat.le_add_right _ _
 unfold JG;rw[QjN _ (by omega) (by omega),aLc,QkE _ (by omega),aLc,Qgb _ (by omega),aLc,QkF _ (by omega),aLc,Qk8 _ (by omega),aLc]
end GL
end Go.Dx
set_option maxHeartbeats 2000000
namespace Go.Dx
namespace GL
set_option synthInstance.maxSize 1000
set_option synthInstance.maxHeartbeats 400000
instance QtG:DecidableEq TCoin:=inferInstance
instance QtD:DecidableEq (List TCoin):=instDecidableEqList
instance QtA:DecidableEq (List (List TCoin)):=instDecidableEqList
instance QtF:DecidableEq TUndo:=inferInstance
instance QtB:DecidableEq (List TUndo):=instDecidableEqList
instance QtC:DecidableEq TState:=inferInstance
instance QtE:DecidableEq TChain:=inferInstance
theorem beq2 (a b:Int×Int):Sh.beq (.prod (.int .i64) (.int .i64)) a b=decide (a=b):=by
 obtain⟨I,a2⟩:=a;obtain⟨J,U⟩:=b;simp only[Sh.beq];by_cases h1:I=J<;>by_cases h2:a2=U<;>simp[h1,h2]
theorem beq3 (a b:TM):Sh.beq (.prod (.int .i64) (.prod (.int .i64) (.int .i64))) a b=decide (a=b):=by
 obtain⟨I,a2,a3⟩:=a;obtain⟨J,U,b3⟩:=b;simp only[Sh.beq];by_cases h1:I=J<;>by_cases h2:a2=U<;>by_cases h3:a3=b3<;>simp[h1,h2,h3]
theorem beqB (a b:Bool):Sh.beq .bool a b=decide (a=b):=rfl
theorem YB {p:Prop} [Decidable p] (w:Int):(bif !decide p then (some (Sum.inr (Sum.inr false)):Option (Int⊕(Unit⊕Bool))) else some (Sum.inl w))=if p then some (Sum.inl w) else some (Sum.inr (Sum.inr false)):=by
 by_cases h:p<;>simp[h]
theorem Yz {α:Type} [DecidableEq α] {x y:List α} (h:¬x.length=y.length):decide (x=y)=false:=aLD (fun he=>h (by rw[he]))
theorem Qjj (x y:List (List UInt8)) (hx:bL (bL bAny) x):Qbb x y=some (decide (x=y)):=by
 unfold Qbb;by_cases I:x.length=y.length
 ·have J:decide ((x.length:Int)=(y.length:Int))=true:=by simp[I]
  rw[J,Bool.not_true,aLC];refine Yi x y I _ (fun i h U=>?_) ?_
  ·have e1:decide ((i:Int)<(x.length:Int))=true:=by simpa using h
   simp only[e1,Qb x i h,Qb y i U,Qa x i _ h,Qa y i _ U,aLB,QE i _ h hx.1];exact YB _
  ·simp
 ·have J:decide ((x.length:Int)=(y.length:Int))=false:=aLD (fun h=>I (by omega))
  rw[J,Yz I];rfl
theorem Qmp (x y:Int×Int):Qdo x y=some (decide (x=y)):=by
 unfold Qdo;obtain⟨I,a2⟩:=x;obtain⟨J,U⟩:=y;by_cases h1:I=J<;>by_cases h2:a2=U<;>simp[h1,h2]
theorem Qih (x y:Int×Int):Qcb x y=some (decide (x=y)):=by
 unfold Qcb;obtain⟨I,a2⟩:=x;obtain⟨J,U⟩:=y;by_cases h1:I=J<;>by_cases h2:a2=U<;>simp[h1,h2]
theorem Qmc (x y:TM):Qdm x y=some (decide (x=y)):=by
 unfold Qdm;obtain⟨I,a2,a3⟩:=x;obtain⟨J,U,b3⟩:=y;by_cases h1:I=J<;>by_cases h2:a2=U<;>by_cases h3:a3=b3<;>simp[h1,h2,h3]
theorem QjX (x y:TM):Qb4 x y=some (decide (x=y)):=by
 unfold Qb4;rw[Qih];obtain⟨I,a2⟩:=x;obtain⟨J,U⟩:=y;by_cases h1:I=J<;>by_cases h2:a2=U<;>simp[h1,h2]
theorem Qkp (x y:List (Int×Int)) (hx:bL bAny x):QcF x y=some (decide (x=y)):=by
 unfold QcF;by_cases I:x.length=y.length
 ·have J:decide ((x.length:Int)=(y.length:Int))=true:=by simp[I]
  rw[J,Bool.not_true,aLC];refine Yi x y I _ (fun i h U=>?_) ?_
  ·have e1:decide ((i:Int)<(x.length:Int))=true:=by simpa using h
   simp only[e1,Qb x i h,Qb y i U,Qa x i _ h,Qa y i _ U,aLB,QE i _ h hx.1,Qmp,aLc];exact YB _
  ·simp
 ·have J:decide ((x.length:Int)=(y.length:Int))=false:=aLD (fun h=>I (by omega))
  rw[J,Yz I];rfl
theorem Qk0 (x y:List TM) (hx:bL bAny x):QcT x y=some (decide (x=y)):=by
 unfold QcT;by_cases I:x.length=y.length
 ·have J:decide ((x.length:Int)=(y.length:Int))=true:=by simp[I]
  rw[J,Bool.not_true,aLC];refine Yi x y I _ (fun i h U=>?_) ?_
  ·have e1:decide ((i:Int)<(x.length:Int))=true:=by simpa using h
   simp only[e1,Qb x i h,Qb y i U,Qa x i _ h,Qa y i _ U,aLB,QE i _ h hx.1,Qmc,aLc];exact YB _
  ·simp
 ·have J:decide ((x.length:Int)=(y.length:Int))=false:=aLD (fun h=>I (by omega))
  rw[J,Yz I];rfl
theorem Qfz (x y:List TM) (hx:bL bAny x):JP x y=some (decide (x=y)):=by
 unfold JP;by_cases I:x.length=y.length
 ·have J:decide ((x.length:Int)=(y.length:Int))=true:=by simp[I]
  rw[J,Bool.not_true,aLC];refine Yi x y I _ (fun i h U=>?_) ?_
  ·have e1:decide ((i:Int)<(x.length:Int))=true:=by simpa using h
   simp only[e1,Qb x i h,Qb y i U,Qa x i _ h,Qa y i _ U,aLB,QE i _ h hx.1,QjX,aLc];exact YB _
  ·simp
 ·have J:decide ((x.length:Int)=(y.length:Int))=false:=aLD (fun h=>I (by omega))
  rw[J,Yz I];rfl
theorem QfY (x y:List Int) (hx:bL bAny x):Qaa x y=some (decide (x=y)):=by
 unfold Qaa;by_cases I:x.length=y.length
 ·have J:decide ((x.length:Int)=(y.length:Int))=true:=by simp[I]
  rw[J,Bool.not_true,aLC];refine Yi x y I _ (fun i h U=>?_) ?_
  ·have e1:decide ((i:Int)<(x.length:Int))=true:=by simpa using h
   simp only[e1,Qb x i h,Qb y i U,Qa x i _ h,Qa y i _ U,aLB,QE i _ h hx.1];exact YB _
  ·simp
 ·have J:decide ((x.length:Int)=(y.length:Int))=false:=aLD (fun h=>I (by omega))
  rw[J,Yz I];rfl
theorem Qki (x y:List (List UInt8)×List (Int×Int)) (I:bL (bL bAny) x.1/\bL bAny x.2):QbT x y=some (decide (x=y)):=by
 unfold QbT;obtain⟨J,a2⟩:=x;obtain⟨U,b2⟩:=y;rw[Qjj _ _ I.1,Qkp _ _ I.2];by_cases h1:J=U<;>by_cases h2:a2=b2<;>simp[h1,h2]
theorem Qmo (x y:List Int×Int×Int) (I:bL bAny x.1):Qdb x y=some (decide (x=y)):=by
 unfold Qdb;obtain⟨J,a2,a3⟩:=x;obtain⟨U,b2,b3⟩:=y;rw[QfY _ _ I];by_cases h1:J=U<;>by_cases h2:a2=b2<;>by_cases h3:a3=b3<;>simp[h1,h2,h3]
theorem Qns (x y:Int×List Int×Int×Int) (I:bL bAny x.2.1):Qem x y=some (decide (x=y)):=by
 unfold Qem;obtain⟨J,a2⟩:=x;obtain⟨U,b2⟩:=y;rw[Qmo _ _ I];by_cases h1:J=U<;>by_cases h2:a2=b2<;>simp[h1,h2]
theorem Ql7 (x y:TCoin) (I:YV x):Qdk x y=some (decide (x=y)):=by
 unfold Qdk;obtain⟨J,a2,a3,a4⟩:=x;obtain⟨U,b2,b3,b4⟩:=y;rw[Qns _ _ I,Qih,beqB];by_cases h1:J=U<;>by_cases h2:a2=b2<;>by_cases h3:a3=b3<;>by_cases h4:a4=b4<;>simp[h1,h2,h3,h4]
theorem QgC (x y:List TCoin) (U:bL YV x):QaX x y=some (decide (x=y)):=by
 unfold QaX;by_cases I:x.length=y.length
 ·have J:decide ((x.length:Int)=(y.length:Int))=true:=by simp[I]
  rw[J,Bool.not_true,aLC];refine Yi x y I _ (fun i h h'=>?_) ?_
  ·have e1:decide ((i:Int)<(x.length:Int))=true:=by simpa using h
   simp only[e1,Qb x i h,Qb y i h',Qa x i _ h,Qa y i _ h',aLB,QE i _ h U.1,Ql7 _ _ (U.2 _ (aLl h)),aLc];exact YB _
  ·simp
 ·have J:decide ((x.length:Int)=(y.length:Int))=false:=aLD (fun h=>I (by omega))
  rw[J,Yz I];rfl
theorem QjU (x y:List (List TCoin)) (U:bL (bL YV) x):QbX x y=some (decide (x=y)):=by
 unfold QbX;by_cases I:x.length=y.length
 ·have J:decide ((x.length:Int)=(y.length:Int))=true:=by simp[I]
  rw[J,Bool.not_true,aLC];refine Yi x y I _ (fun i h h'=>?_) ?_
  ·have e1:decide ((i:Int)<(x.length:Int))=true:=by simpa using h
   simp only[e1,Qb x i h,Qb y i h',Qa x i _ h,Qa y i _ h',aLB,QE i _ h U.1,QgC _ _ (U.2 _ (aLl h)),aLc];exact YB _
  ·simp
 ·have J:decide ((x.length:Int)=(y.length:Int))=false:=aLD (fun h=>I (by omega))
  rw[J,Yz I];rfl
theorem QkH (x y:TState) (I:QgK x):QcK x y=some (decide (x=y)):=by
 unfold QcK;obtain⟨J,a2,a3,a4⟩:=x;obtain⟨U,b2,b3,b4⟩:=y;rw[QgC _ _ I.1,Qfz _ _ I.2];by_cases h1:J=U<;>by_cases h2:a2=b2<;>by_cases h3:a3=b3<;>by_cases h4:a4=b4<;>simp[h1,h2,h3,h4]
theorem QlZ (x y:TUndo) (I:Qao x):QdA x y=some (decide (x=y)):=by
 unfold QdA;obtain⟨J,a2,a3⟩:=x;obtain⟨U,b2,b3⟩:=y;rw[QjU _ _ I.1,Qfz _ _ I.2];by_cases h1:J=U<;>by_cases h2:a2=b2<;>by_cases h3:a3=b3<;>simp[h1,h2,h3]
theorem Qkq (x y:List TUndo) (U:bL Qao x):QcI x y=some (decide (x=y)):=by
 unfold QcI;by_cases I:x.length=y.length
 ·have J:decide ((x.length:Int)=(y.length:Int))=true:=by simp[I]
  rw[J,Bool.not_true,aLC];refine Yi x y I _ (fun i h h'=>?_) ?_
  ·have e1:decide ((i:Int)<(x.length:Int))=true:=by simpa using h
   simp only[e1,Qb x i h,Qb y i h',Qa x i _ h,Qa y i _ h',aLB,QE i _ h U.1,QlZ _ _ (U.2 _ (aLl h)),aLc];exact YB _
  ·simp
 ·have J:decide ((x.length:Int)=(y.length:Int))=false:=aLD (fun h=>I (by omega))
  rw[J,Yz I];rfl
theorem Qkn (x y:TChain) (hx:Qkf x):QcY x y=some (decide (x=y)):=by
 unfold QcY;obtain⟨I,J,U,hb4,hb5⟩:=hx;obtain⟨a1,a2,a3,a4,a5⟩:=x;obtain⟨b1,b2,b3,b4,b5⟩:=y;rw[Qki _ _ I,Qk0 _ _ J,QfY _ _ U,QkH _ _ hb4,Qkq _ _ hb5];by_cases h1:a1=b1<;>by_cases h2:a2=b2<;>by_cases h3:a3=b3<;>by_cases h4:a4=b4<;>by_cases h5:a5=b5<;>simp[h1,h2,h3,h4,h5]
theorem QeX (x y:List Int) (hx:bL bAny x):ZX x y=some (decide (x=y)):=by
 unfold ZX;by_cases I:x.length=y.length
 ·have J:decide ((x.length:Int)=(y.length:Int))=true:=by simp[I]
  rw[J,Bool.not_true,aLC];refine Yi x y I _ (fun i h U=>?_) ?_
  ·have e1:decide ((i:Int)<(x.length:Int))=true:=by simpa using h
   simp only[e1,Qb x i h,Qb y i U,Qa x i _ h,Qa y i _ U,aLB,QE i _ h hx.1];exact YB _
  ·simp
 ·have J:decide ((x.length:Int)=(y.length:Int))=false:=aLD (fun h=>I (by omega))
  rw[J,Yz I];rfl
theorem Qby (x y:List TM) (hx:bL bAny x):Za x y=some (decide (x=y)):=by
 unfold Za;by_cases I:x.length=y.length
 ·have J:decide ((x.length:Int)=(y.length:Int))=true:=by simp[I]
  rw[J,Bool.not_true,aLC];refine Yi x y I _ (fun i h U=>?_) ?_
  ·have e1:decide ((i:Int)<(x.length:Int))=true:=by simpa using h
   simp only[e1,Qb x i h,Qb y i U,Qa x i _ h,Qa y i _ U,aLB,QE i _ h hx.1,beq3];exact YB _
  ·simp
 ·have J:decide ((x.length:Int)=(y.length:Int))=false:=aLD (fun h=>I (by omega))
  rw[J,Yz I];rfl
theorem Qji (x y:List Int×Int×Int) (I:bL bAny x.1):Qbe x y=some (decide (x=y)):=by
 unfold Qbe;obtain⟨J,a2,a3⟩:=x;obtain⟨U,b2,b3⟩:=y;rw[QeX _ _ I];by_cases h1:J=U<;>by_cases h2:a2=b2<;>by_cases h3:a3=b3<;>simp[h1,h2,h3]
theorem QjE (x y:Int×List Int×Int×Int) (I:bL bAny x.2.1):QbN x y=some (decide (x=y)):=by
 unfold QbN;obtain⟨J,a2⟩:=x;obtain⟨U,b2⟩:=y;rw[Qji _ _ I];by_cases h1:J=U<;>by_cases h2:a2=b2<;>simp[h1,h2]
theorem QjZ (x y:TCoin) (I:YV x):QbP x y=some (decide (x=y)):=by
 unfold QbP;obtain⟨J,a2,a3,a4⟩:=x;obtain⟨U,b2,b3,b4⟩:=y;rw[QjE _ _ I,beqB,beq2];by_cases h1:J=U<;>by_cases h2:a2=b2<;>by_cases h3:a3=b3<;>by_cases h4:a4=b4<;>simp[h1,h2,h3,h4]
theorem Yt (x y:List TCoin) (g:TCoin->TCoin->Option Bool) (hg:∀a b,YV a->g a b=some (decide (a=b))) (U:bL YV x):Qy x y g=some (decide (x=y)):=by
 unfold Qy;by_cases I:x.length=y.length
 ·have J:decide ((x.length:Int)=(y.length:Int))=true:=by simp[I]
  rw[J,Bool.not_true,aLC];refine Yi x y I _ (fun i h h'=>?_) ?_
  ·have e1:decide ((i:Int)<(x.length:Int))=true:=by simpa using h
   simp only[e1,Qb x i h,Qb y i h',Qa x i _ h,Qa y i _ h',aLB,QE i _ h U.1,hg _ _ (U.2 _ (aLl h)),aLc];exact YB _
  ·simp
 ·have J:decide ((x.length:Int)=(y.length:Int))=false:=aLD (fun h=>I (by omega))
  rw[J,Yz I];rfl
theorem QfU (x y:List TCoin) (I:bL YV x):JS x y=some (decide (x=y)):=by
 unfold JS;rw[Yt x y _ (fun a b J=>by rw[QjZ a b J];rfl) I];rfl
theorem Qe3 (x y:List TM) (I:bL bAny x):Y1 x y=some (decide (x=y)):=by
 unfold Y1;rw[Qby _ _ I];rfl
theorem QiJ (x y:TState) (I:QgK x):QaF x y=some (decide (x=y)):=by
 unfold QaF;obtain⟨J,a2,a3,a4⟩:=x;obtain⟨U,b2,b3,b4⟩:=y;rw[QfU _ _ I.1,Qe3 _ _ I.2];by_cases h1:J=U<;>by_cases h2:a2=b2<;>by_cases h3:a3=b3<;>by_cases h4:a4=b4<;>simp[h1,h2,h3,h4]
theorem QlV (x y:List Int) (hx:bL bAny x):Qdw x y=some (decide (x=y)):=by
 unfold Qdw;by_cases I:x.length=y.length
 ·have J:decide ((x.length:Int)=(y.length:Int))=true:=by simp[I]
  rw[J,Bool.not_true,aLC];refine Yi x y I _ (fun i h U=>?_) ?_
  ·have e1:decide ((i:Int)<(x.length:Int))=true:=by simpa using h
   simp only[e1,Qb x i h,Qb y i U,Qa x i _ h,Qa y i _ U,aLB,QE i _ h hx.1];exact YB _
  ·simp
 ·have J:decide ((x.length:Int)=(y.length:Int))=false:=aLD (fun h=>I (by omega))
  rw[J,Yz I];rfl
theorem Qmh (x y:List Int×Int×Int) (I:bL bAny x.1):Qdq x y=some (decide (x=y)):=by
 unfold Qdq;obtain⟨J,a2,a3⟩:=x;obtain⟨U,b2,b3⟩:=y;rw[QlV _ _ I];by_cases h1:J=U<;>by_cases h2:a2=b2<;>by_cases h3:a3=b3<;>simp[h1,h2,h3]
theorem QhH (x y:List TCoin) (U:bL YV x):Qbr x y=some (decide (x=y)):=by
 unfold Qbr;by_cases I:x.length=y.length
 ·have J:decide ((x.length:Int)=(y.length:Int))=true:=by simp[I]
  rw[J,Bool.not_true,aLC];refine Yi x y I _ (fun i h h'=>?_) ?_
  ·have e1:decide ((i:Int)<(x.length:Int))=true:=by simpa using h
   simp only[e1,Qb x i h,Qb y i h',Qa x i _ h,Qa y i _ h',aLB,QE i _ h U.1,beq2,beqB,Qmh _ _ (U.2 _ (aLl h)),aLc];generalize x[i]=a;generalize y[i]=b;obtain⟨a1,⟨a2,a3⟩,a4,a5⟩:=a;obtain⟨b1,⟨b2,b3⟩,b4,b5⟩:=b;by_cases h1:a1=b1<;>by_cases h2:a2=b2<;>by_cases h3:a3=b3<;>by_cases h4:a4=b4<;>by_cases h5:a5=b5<;>simp[h1,h2,h3,h4,h5]
  ·simp
 ·have J:decide ((x.length:Int)=(y.length:Int))=false:=aLD (fun h=>I (by omega))
  rw[J,Yz I];rfl
theorem QhG (x y:List TM) (hx:bL bAny x):Qbx x y=some (decide (x=y)):=by
 unfold Qbx;by_cases I:x.length=y.length
 ·have J:decide ((x.length:Int)=(y.length:Int))=true:=by simp[I]
  rw[J,Bool.not_true,aLC];refine Yi x y I _ (fun i h U=>?_) ?_
  ·have e1:decide ((i:Int)<(x.length:Int))=true:=by simpa using h
   simp only[e1,Qb x i h,Qb y i U,Qa x i _ h,Qa y i _ U,aLB,QE i _ h hx.1,beq3];exact YB _
  ·simp
 ·have J:decide ((x.length:Int)=(y.length:Int))=false:=aLD (fun h=>I (by omega))
  rw[J,Yz I];rfl
theorem QlY (x y:TState) (I:QgK x):Qdd x y=some (decide (x=y)):=by
 unfold Qdd;obtain⟨J,a2,a3,a4⟩:=x;obtain⟨U,b2,b3,b4⟩:=y;rw[QhH _ _ I.1,QhG _ _ I.2];by_cases h1:J=U<;>by_cases h2:a2=b2<;>by_cases h3:a3=b3<;>by_cases h4:a4=b4<;>simp[h1,h2,h3,h4]
end GL
end Go.Dx
set_option maxHeartbeats 2000000
namespace Go.Dx
namespace GL
def mIn (v lo hi:Int):Bool:=decide (lo<=v)&&decide (v<=hi)
theorem Zj (v lo hi:Int):QL v lo hi=some (mIn v lo hi):=by
 unfold QL mIn;cases decide (lo<=v)<;>rfl
theorem Ze (v lo hi:Int):QT v lo hi=some (mIn v lo hi):=by
 unfold QT mIn;cases decide (lo<=v)<;>rfl
theorem Qef (v:Int):JT v=some (mIn v 1 999):=by unfold JT;rw[Zj];rfl
theorem Qd4 (v:Int):JI v=some (mIn v 1 999):=by unfold JI;rw[Ze];rfl
theorem Qc3 (v:Int):Jw v=some (mIn v 1 60):=by unfold Jw;rw[Ze];rfl
def mRef (r:Int×Int):Bool:=mIn r.1 1 60&&mIn r.2 0 3
theorem Qnd (r:Int×Int):Qca r=some (mRef r):=by
 unfold Qca mRef;rw[Qc3,Ze];cases mIn r.1 1 60<;>rfl
theorem QfL (r:Int×Int):Qcf r=some (mRef r):=by
 unfold Qcf mRef;rw[Zj,Zj];cases mIn r.1 1 60<;>rfl
theorem QjL (l:List Int) (I:l.length<BIG) (p:Int->Bool) (f:Int->Option Bool) (J:∀a,a ∈ l->f a=some (p a)):ZC l f=some (idxF p l):=by
 unfold ZC;refine Jm l p _ (fun i h=>?_) (by simp only[dge,aLC])
 simp only[dlt h,Qb l i h,Qa l i _ h,aLB,J _ (aLl h),aLc,wsucc h I];cases p l[i]<;>rfl
theorem Qcl (l:List Int) (I:l.length<BIG) (p:Int->Bool) (f:Int->Option Bool) (J:∀a,a ∈ l->f a=some (p a)):QR l f=some (l.any p):=by
 unfold QR;rw[QjL l I p f J,aLc,ZD]
theorem Qk6 (l:List Int) (I:l.length<BIG):Qcq l=some (l.all fun k=>mIn k 1 999):=by
 unfold Qcq;rw[Qcl l I (fun k=>!mIn k 1 999) _ (fun a _=>by unfold QcZ;rw[Qd4];rfl),aLc]
 rw[List.all_eq_not_any_not]
def Qew (l:List Int):Bool:=(List.range (l.length - 1)).all fun i=>decide (List.getD l i 0<List.getD l (i+1) 0)
theorem QiL {β:Type} (l:List Int) (hl:l.length<BIG) (r:β) (f:Int->Option (Int⊕(Unit⊕β)))
  (I:∀(i:Nat),i+1<l.length->f ((i+1:Nat):Int)=some (if List.getD l (i+1) 0<=List.getD l i 0 then .inr (.inr r) else .inl ((i+2:Nat):Int))) (he:∀n:Nat,l.length<=n->f (n:Int)=some (.inr (.inl ()))) :
  Qc f 1=some (if Qew l then .inl () else .inr r):=by
 have key:∀(k i:Nat),i+k=l.length - 1->Qc f ((i+1:Nat):Int)=some (if (List.range' i k).all (fun i=>decide (List.getD l i 0<List.getD l (i+1) 0)) then .inl () else .inr r):=by
  intro k;induction k with
  | zero=>intro i hi;rw[Qg (he _ (by omega))];simp
  | succ k U=>
   intro i hi;have I:=I i (by omega)
   rw[List.range'_succ,List.all_cons];by_cases J:List.getD l (i+1) 0<=List.getD l i 0
   ·rw[if_pos J] at I
    rw[Qg I,aLD (p:=List.getD l i 0<List.getD l (i+1) 0) (by omega)];rfl
   ·rw[if_neg J] at I
    rw[Qv I,U (i+1) (by omega),aLE (p:=List.getD l i 0<List.getD l (i+1) 0) (by omega),Bool.true_and]
 have:=key (l.length - 1) 0 (by omega)
 rw[<-List.range_eq_range'] at this;exact this
theorem Qi0 (l:List Int) (I:l.length<BIG) (i:Nat) (h:i+1<l.length):decide (((i+1:Nat):Int)<(l.length:Int))=true/\inB ((i+1:Nat):Int) l=true/\inB (IntKind.wrap .i64 (((i+1:Nat):Int) - 1)) l=true/\
  List.getD l (Int.toNat ((i+1:Nat):Int)) 0=List.getD l (i+1) 0/\List.getD l (Int.toNat (IntKind.wrap .i64 (((i+1:Nat):Int) - 1))) 0=List.getD l i 0/\IntKind.wrap .i64 (((i+1:Nat):Int)+1)=((i+2:Nat):Int):=by
 rw[wpred (i:=i) (n:=l.length) (by omega) I]
 exact⟨dlt h,Qb l _ h,Qb l _ (by omega),by simp,by simp,wsucc h I⟩
theorem dge' {i n:Nat} (h:n<=i):decide ((i:Int)<(n:Int))=false:=by simp;omega
theorem Qj0 (l:List Int) (J:l.length<BIG):QbZ l=some (Qew l):=by
 unfold QbZ;rw[QiL l J false _ (fun i h=>by
  obtain⟨h1,U,h3,h4,h5,h6⟩:=Qi0 l J i h;simp only[h1,U,h3,h4,h5,h6,aLB];by_cases I:List.getD l (i+1) 0<=List.getD l i 0
  ·rw[if_pos I,aLE I];rfl
  ·rw[if_neg I,aLD I];rfl) (fun n hn=>by simp only[dge' hn,aLC]),aLc]
 cases Qew l<;>rfl
theorem QqU {β:Type} (l:List Int) (J:l.length<BIG) (r:β) (f:Int->Option (Int⊕(Unit⊕β)))
  (I:∀(i:Nat) (h:i<l.length),f (i:Int)=some (if mIn l[i] 1 999 then .inl ((i+1:Nat):Int) else .inr (.inr r))) (he:f (l.length:Int)=some (.inr (.inl ()))) :
  Qc f 0=some (if (l.all fun k=>mIn k 1 999) then .inl () else .inr r):=by
 rw[Jt l (fun _ a=>if !mIn a 1 999 then some r else none) f (fun i h=>by rw[I i h];cases mIn l[i] 1 999<;>rfl) he,Qe1,List.all_eq_not_any_not]
 cases l.any fun x=>!mIn x 1 999<;>rfl
end GL
end Go.Dx
set_option maxHeartbeats 2000000
namespace Go.Dx
namespace GL
abbrev TRu:=List Int×Int×Int
abbrev TOut:=Int×List Int×Int×Int
def Q6 (r:TRu):Int:=if mIn (r.1.length:Int) 1 3 then (if (r.1.all fun k=>mIn k 1 999)&&mIn r.2.1 1 (r.1.length:Int)&&mIn r.2.2 0 999 then (if Qew r.1 then 0 else 1) else 3) else 2
theorem Qb0 (n:Int):Yu n=some (mIn n 0 999):=by unfold Yu;rw[Ze];rfl
theorem QbW (n:Int):Yp n=some (mIn n 0 999):=by unfold Yp;rw[Zj];rfl
theorem QfC (r:TRu) (I:r.1.length<BIG):JJ r=some (Q6 r):=by
 unfold JJ Q6;simp only[Ze,Qk6 _ I,Qj0 _ I,Qb0,aLc];cases mIn (r.1.length:Int) 1 3<;>cases (r.1.all fun k=>mIn k 1 999)<;>cases mIn r.2.1 1 (r.1.length:Int)<;>cases mIn r.2.2 0 999<;>cases Qew r.1<;>rfl
theorem Qev (r:TRu) (I:r.1.length<BIG):JE r=some (Q6 r):=by
 unfold JE Q6;simp only[Zj,QbW,aLc];rw[QqU r.1 I 3 _ (fun i h=>by
  simp only[dlt h,Qb r.1 i h,Qa r.1 i _ h,aLB,Qef,aLc,wsucc h I];cases mIn r.1[i] 1 999<;>rfl) (by simp only[dge,aLC]),aLc]
 cases mIn (r.1.length:Int) 1 3 with
 | false=>rfl
 | true=>
  cases (r.1.all fun k=>mIn k 1 999) with
  | false=>rfl
  | true=>
   simp only[Bool.not_true,aLC,if_true,Sum.elim_inl];rw[QiL r.1 I 1 _ (fun i h=>by
    obtain⟨h1,U,h3,h4,h5,h6⟩:=Qi0 r.1 I i h;simp only[h1,U,h3,h4,h5,h6,aLB];by_cases J:List.getD r.1 (i+1) 0<=List.getD r.1 i 0
    ·rw[if_pos J,aLE J];rfl
    ·rw[if_neg J,aLD J];rfl) (fun n hn=>by simp only[dge' hn,aLC]),aLc]
   cases mIn r.2.1 1 (r.1.length:Int)<;>cases mIn r.2.2 0 999<;>cases Qew r.1<;>rfl
def mOut (o:TOut):Int:=if mIn o.1 1 1000000 then Q6 o.2 else 3
theorem QhW (o:TOut) (I:o.2.1.length<BIG):Qcd o=some (mOut o):=by
 unfold Qcd mOut;rw[Zj,aLc,Qev _ I];cases mIn o.1 1 1000000<;>rfl
def Qq (a b:Int×Int):Bool:=if a.1=b.1 then decide (a.2<b.2) else decide (a.1<b.1)
theorem QgN (a b:Int×Int):QaK a b=some (Qq a b):=by
 unfold QaK Qq;by_cases h:a.1=b.1<;>simp[h]
def mCmp (a b:Int):Int:=if a<b then -1 else if b<a then 1 else 0
theorem Qe5 (a b:Int):Z0 a b=some (mCmp a b):=by
 unfold Z0 Qay mCmp;by_cases h1:a<b
 ·simp[h1]
 ·by_cases I:b<a<;>simp[h1,I]
theorem Qrf (a b:Int):Qel [a,b]=some (if a=0 then b else a):=by
 unfold Qel;by_cases I:a=0
 ·subst I
  rw[Qv (s':=(1:Int)) rfl];by_cases hb:b=0
  ·subst hb
   rw[Qv (s':=(2:Int)) rfl,Qg (x:=Sum.inl ()) rfl];rfl
  ·rw[Qg (x:=Sum.inr b) (by
    show (bif !decide (b=0) then some (Sum.inr (Sum.inr b)) else _)=_
    rw[aLD hb];rfl)]
   rfl
 ·rw[Qg (x:=Sum.inr a) (by
   show (bif !decide (a=0) then some (Sum.inr (Sum.inr a)) else _)=_
   rw[aLD I];rfl),if_neg I]
  rfl
def QeQ (a b:Int×Int):Int:=if mCmp a.1 b.1=0 then mCmp a.2 b.2 else mCmp a.1 b.1
theorem Qe2 (a b:Int×Int):YW a b=some (QeQ a b):=by
 unfold YW QeQ;rw[Qe5,Qe5,aLc,aLc,Qrf];rfl
theorem Qpg (a b:Int×Int):decide (0<=QeQ a b) = !Qq a b:=by
 unfold QeQ Qq mCmp;by_cases h1:a.1<b.1
 ·have I:¬a.1=b.1:=by omega
  simp[h1,I]
 ·by_cases J:b.1<a.1
  ·have I:¬a.1=b.1:=by omega
   simp[h1,J,I]
  ·have I:a.1=b.1:=by omega
   simp only[h1,J,if_false,if_true,I,Int.lt_irrefl];by_cases U:a.2<b.2
   ·simp[U]
   ·by_cases h5:b.2<a.2<;>simp[U,h5]
def dC:TCoin:=((0,0),((0,([],(0,0))),(0,false)))
def Qis (l:List TCoin) (i:Nat) (x:TCoin):Int:=if mRef x.1&&mIn x.2.2.1 0 999 then (if mOut x.2.1=0 then (if decide (0<i)&&!Qq (List.getD l (i - 1) dC).1 x.1 then 1 else 0) else mOut x.2.1) else 3
def Zs (l:List TCoin):Int:=if (40:Int)<(l.length:Int) then 2 else code (Qis l) l
theorem QsO (l:List TCoin) (I:l.length<BIG) (i:Nat) (h:i<l.length) (J:0<i):inB (IntKind.wrap .i64 ((i:Int) - 1)) l=true/\List.getD l (Int.toNat (IntKind.wrap .i64 ((i:Int) - 1))) dC=List.getD l (i - 1) dC:=by
 obtain⟨j,rfl⟩:∃j,i=j+1:=⟨i - 1,by omega⟩
 rw[wpred (i:=j) (n:=l.length) (by omega) I]
 exact⟨Qb l j (by omega),by simp⟩
theorem Qeu (l:List TCoin) (hl:l.length<BIG) (hk:∀x,x ∈ l->x.2.1.2.1.length<BIG):JC l=some (Zs l):=by
 unfold JC Zs;by_cases I:(40:Int)<(l.length:Int)
 ·rw[aLE I,if_pos I];rfl
 ·rw[aLD I,if_neg I,aLC]
  refine Jx l (Qis l) _ (fun i h=>?_) (by simp only[dge,aLC])
  have hx:=hk _ (aLl h)
  simp only[dlt h,Qb l i h,Qa l i _ h,aLB,wsucc h hl,QfL,QbW,QhW _ hx,QgN,aLc];unfold Qis;cases h1:mRef l[i].1<;>cases h2:mIn l[i].2.2.1 0 999<;>try rfl
  simp only[Bool.not_true,aLC,aLc,Bool.true_and,if_true];by_cases U:mOut l[i].2.1=0
  ·rw[aLE U]
   simp only[U,Bool.not_true,aLC,if_true];by_cases J:0<i
   ·obtain⟨e1,e2⟩:=QsO l hl i h J
    rw[show decide ((0:Int)<(i:Int))=true by simpa using J,aLE J,aLB,e1,aLB]
    show (Option.bind (some (!Qq (List.getD l (Int.toNat (IntKind.wrap .i64 ((i:Int) - 1))) dC).1 l[i].1)) _)=_
    rw[e2];cases Qq (List.getD l (i - 1) dC).1 l[i].1<;>rfl
   ·rw[show decide ((0:Int)<(i:Int))=false by simpa using J,aLD J];rfl
  ·rw[aLD U];simp[U]
end GL
end Go.Dx
set_option maxHeartbeats 2000000
namespace Go.Dx
namespace GL
theorem Qp {α:Type} {n:Nat} {x:Option α} (h:n<=LIM):(bif decide (n<=LIM) then x else none)=x:=by rw[aLE h];rfl
theorem Qba {n:Int} (I:0<=n) (h1:n<=9223372036854775807):Yo n=some (Lib.itoa n):=by
 unfold Yo QbH;rw[QsB n (by omega) h1];rfl
theorem ZY {n:Int} (I:0<=n) (h1:n<=9223372036854775807):Q4 n=some (Lib.itoa n):=Qs0 I h1
theorem QJ {v a b:Int}:mIn v a b=true↔a<=v/\v<=b:=by simp[mIn]
structure okR (r:TRu):Prop where
 len:1<=r.1.length/\r.1.length<=3
 keys:∀k,k ∈ r.1->1<=k/\k<=999
 need:1<=r.2.1/\r.2.1<=3
 after:0<=r.2.2/\r.2.2<=999
theorem Ye {r:TRu} (h:Q6 r=0):okR r:=by
 unfold Q6 at h;cases h1:mIn (r.1.length:Int) 1 3 with
 | false=>rw[h1] at h;simp at h
 | true=>
  rw[h1,if_pos rfl] at h;cases I:(r.1.all fun k=>mIn k 1 999) with
  | false=>rw[I] at h;simp at h
  | true=>
   cases U:mIn r.2.1 1 (r.1.length:Int) with
   | false=>rw[U] at h;simp at h
   | true=>
    cases J:mIn r.2.2 0 999 with
    | false=>rw[J] at h;simp at h
    | true=>
     rw[QJ] at h1 U J;rw[List.all_eq_true] at I;exact⟨by omega,fun k hk=>QJ.1 (I k hk),by omega,J⟩
theorem Q1 {n:Int} (I:0<=n) (h1:n<=1000000):(Lib.itoa n).length<=19:=QmD I (by omega)
def Zc (l:List Int) (sep:List UInt8):List UInt8:=Lib.join (l.map Lib.itoa) sep
theorem Qsq (l:List Int) (h:∀k,k ∈ l->0<=k/\k<=1000000):Lib.lens (l.map Lib.itoa)<=19 * l.length:=by
 induction l with
 | nil=>simp[Lib.lens]
 | cons a l I=>
  have h1:=I fun k hk=>h k (aLp _ hk)
  have J:=Q1 (h a aLm).1 (h a aLm).2
  simp only[Lib.lens,List.map_cons,List.map_map,List.sum_cons,aLh] at h1 ⊢;omega
theorem QbB (l:List Int) (sep:List UInt8) (h:∀k,k ∈ l->0<=k/\k<=1000000):(Zc l sep).length<=(19+sep.length) * l.length:=by
 unfold Zc;cases l with
 | nil=>simp[Lib.join_nil]
 | cons a l=>
  have:=Qsq (a::l) h
  rw[List.map_cons,Lib.join_length,List.length_map];rw[List.map_cons] at this;have e:(19+sep.length) * (a::l).length=19 * (a::l).length+(sep.length * l.length+sep.length):=by
   rw[Nat.add_mul,aLh,Nat.mul_succ sep.length]
  omega
theorem Qe6 (l:List Int) (sep:List UInt8) (J:l.length<=100000) (U:sep.length<=100) (h:∀k,k ∈ l->0<=k/\k<=1000000):Jg l sep=some (Zc l sep):=by
 unfold Jg;rw[ZE (σ:=List (List UInt8)) l (fun acc a=>acc++[Lib.itoa a]) (fun t i=>(t,i)) (fun t=>t) (fun t i=>t.length=i) _ (fun i hi t I=>by
   obtain⟨k0,k1⟩:=h _ (aLl hi);refine⟨?_,by simp[I]⟩
   simp only[dlt hi,Qb l i hi,Qa l i _ hi,aLB,Qba k0 (by omega),aLc,wsucc hi (by unfold BIG;omega)]
   rw[Qp (by simp only[aLh,aLj];unfold LIM;omega)];rfl) (fun t I=>by simp only[dge,aLC]) [] rfl,aLc,foldl_map,aLx]
 have h1:=QbB l sep h
 have h2:(19+sep.length) * l.length<=119 * 100000:=Nat.mul_le_mul (by omega) J
 unfold ZQ;rw[Qjo _ _ (by rw[List.length_map];omega) (by unfold Zc at h1;omega)];rfl
def Qs (r:TRu) (b:List UInt8):List UInt8:=Lib.itoa r.2.1++b++[111,102]++b++Zc r.1 [44]++(if r.2.2=0 then [] else b++[97,102,116,101,114]++b++Lib.itoa r.2.2)
theorem Qom {r:TRu} (h:okR r) (b:List UInt8) (hb:b.length<=1):(Qs r b).length<=120:=by
 have h1:=QbB r.1 [44] fun k hk=>by have:=h.keys k hk;omega
 have I:=Q1 (n:=r.2.1) (by have:=h.need;omega) (by have:=h.need;omega)
 have J:=Q1 (n:=r.2.2) (by have:=h.after;omega) (by have:=h.after;omega)
 have U:=h.len
 simp only[aLh,aLj] at h1;unfold Qs;split<;>simp only[aLi,aLh,aLj]<;>omega
theorem Qge {r:TRu} (h:okR r) (b:List UInt8) (hb:b.length<=1):J5 r b=some (Qs r b):=by
 have h1:=QbB r.1 [44] fun k hk=>by have:=h.keys k hk;omega
 have J:=Q1 (n:=r.2.1) (by have:=h.need;omega) (by have:=h.need;omega)
 have U:=Q1 (n:=r.2.2) (by have:=h.after;omega) (by have:=h.after;omega)
 have h4:=h.len
 simp only[aLh,aLj] at h1;unfold J5 Qs;rw[Qba (n:=r.2.1) (by have:=h.need;omega) (by have:=h.need;omega),aLc,Qe6 r.1 [44] (by omega) (by simp) fun k hk=>by have:=h.keys k hk;omega]
 simp only[aLc,aLo];rw[Qba (n:=r.2.2) (by have:=h.after;omega) (by have:=h.after;omega)]
 simp only[aLc];rw[Qp,Qp,Qp,Qp]
 ·by_cases I:r.2.2=0
  ·rw[aLE I,if_pos I];simp
  ·rw[aLD I,if_neg I,Bool.not_false,aLB,Qp,Qp,Qp,Qp]
   ·rfl
   all_goals ((try simp only[aLi,aLh,aLj]);unfold LIM;omega)
 all_goals ((try simp only[aLi,aLh,aLj]);unfold LIM;omega)
theorem Qje {α:Type} (l:List α) (g:α->List UInt8) (f:List UInt8×Int->Option ((List UInt8×Int)⊕List UInt8)) (B:Nat->Nat)
  (U:∀(i:Nat) (h:i<l.length) (acc:List UInt8),acc.length<=B i->f (acc,(i:Int))=some (.inl (acc++g l[i],((i+1:Nat):Int)))/\(acc++g l[i]).length<=B (i+1))
  (he:∀acc,f (acc,(l.length:Int))=some (.inr acc)):∀(k i:Nat) (acc:List UInt8),i+k=l.length->acc.length<=B i->Qc f (acc,(i:Int))=some (acc++((l.drop i).map g).flatten)
 | 0,i,acc,hi,_=>by
  obtain rfl:i=l.length:=by omega
  rw[Qg (he acc)];simp
 | k+1,i,acc,hi,ha=>by
  have h1:i<l.length:=by omega
  obtain⟨I,J⟩:=U i h1 acc ha;rw[Qv I,Qje l g f B U he k (i+1) _ (by omega) J,aLr h1,List.map_cons,List.flatten_cons,List.append_assoc]
theorem Qmi {r:TRu} (h:okR r):Qbu r=some (Qs r [32]):=by
 have h2:=Q1 (n:=r.2.1) (by have:=h.need;omega) (by have:=h.need;omega)
 have h3:=Q1 (n:=r.2.2) (by have:=h.after;omega) (by have:=h.after;omega)
 obtain⟨⟨k0,I⟩,hr⟩:∃p:Int×List Int,r.1=p.1::p.2:=by
  have:=h.len
  match hq:r.1 with
  | []=>rw[hq] at this;simp at this
  | a::l=>exact⟨(a,l),rfl⟩
 have hr:r.1=k0::I:=hr
 have hlen:=h.len
 have hk:=h.keys
 rw[hr] at hlen hk;have hk0:=hk k0 aLm
 have h5:=Q1 (n:=k0) (by omega) (by omega)
 unfold Qbu Qs;rw[hr];rw[ZY (n:=r.2.1) (by have:=h.need;omega) (by have:=h.need;omega),aLc]
 rw[show inB 0 (k0::I)=true from Qb _ 0 (by simp),show List.getD (k0::I) (Int.toNat 0) 0=k0 from rfl,aLB,ZY (n:=k0) (by omega) (by omega),aLc]
 simp only[aLo];rw[Qp,Qp]
 ·have:=Qje (k0::I) (fun k=>44::Lib.itoa k) (fun (s15:List UInt8×Int)=>
 bif (decide ((s15.2:Int)<(List.length (k0::I):Int))) then
 bif decide (List.length s15.1+List.length [44]<=LIM) then
 bif (inB s15.2 (k0::I)) then
 (Q4 (List.getD (k0::I) (Int.toNat s15.2) 0)).bind fun (J:List UInt8)=>
 bif decide (List.length (s15.1++[44])+List.length J<=LIM) then
 some (Sum.inl (s15.1++[44]++J,IntKind.wrap .i64 (s15.2+1)))
 else none
 else none
 else none
 else
 some (Sum.inr s15.1)) (fun i=>100+20 * i) (fun i hi acc U=>by
    have hki:=hk _ (aLl hi)
    have hli:=Q1 (n:=(k0::I)[i]) (by omega) (by omega)
    refine⟨?_,by simp only[aLi,aLh];omega⟩
    have hi3:i<3:=by omega
    simp only[dlt hi,Qb _ i hi,Qa _ i _ hi,aLB,ZY (n:=(k0::I)[i]) (by omega) (by omega),aLc,wsucc hi (by unfold BIG;omega)]
    rw[Qp,Qp]
    ·simp
    all_goals ((try simp only[aLi,aLh,aLj]);unfold LIM;omega)) (fun acc=>by simp only[dge,aLC]) I.length 1 (Lib.itoa r.2.1++[32,111,102,32]++Lib.itoa k0) (by simp;omega) (by simp only[aLi,aLh,aLj];omega)
  rw[show ((1:Nat):Int)=1 from rfl] at this
  rw[this,aLc,List.drop_succ_cons,List.drop_zero];have e1:Lib.itoa r.2.1++[32,111,102,32]++Lib.itoa k0++(I.map fun k=>44::Lib.itoa k).flatten=Lib.itoa r.2.1++[32]++[111,102]++[32]++Zc (k0::I) [44]:=by
   unfold Zc;rw[List.map_cons,Lib.join_cons,Lib.joinTail,List.map_map];simp[Function.comp_def]
  rw[e1];have h1:=QbB (k0::I) [44] fun k hk'=>by have:=hk k hk';omega
  simp only[aLh,aLj] at h1 hlen;by_cases U:r.2.2=0
  ·rw[aLE U,if_pos U];simp
  ·rw[aLD U,if_neg U,Bool.not_false,aLB,ZY (n:=r.2.2) (by have:=h.after;omega) (by have:=h.after;omega),aLc,Qp,Qp]
   ·simp
   all_goals ((try simp only[aLi,aLh,aLj]);unfold LIM;omega)
 all_goals ((try simp only[aLi,aLh,aLj]);unfold LIM;omega)
end GL
end Go.Dx
set_option maxHeartbeats 2000000
namespace Go.Dx
namespace GL
structure okC (x:TCoin):Prop where
 tx:1<=x.1.1/\x.1.1<=60
 at_:0<=x.1.2/\x.1.2<=3
 val:1<=x.2.1.1/\x.2.1.1<=1000000
 rule:Q6 x.2.1.2=0
 height:0<=x.2.2.1/\x.2.2.1<=999
theorem Jq {l:List TCoin} (h:Zs l=0):l.length<=40/\∀x,x ∈ l->okC x:=by
 unfold Zs at h;by_cases U:(40:Int)<(l.length:Int)
 ·rw[if_pos U] at h;cases h
 ·rw[if_neg U] at h
  refine⟨by omega,fun x hx=>?_⟩
  obtain⟨i,hi,rfl⟩:=List.mem_iff_getElem.1 hx;have I:=Yg h i l[i] (aLf hi)
  unfold Qis at I;cases h1:mRef l[i].1 with
  | false=>rw[h1] at I;simp at I
  | true=>
   cases h2:mIn l[i].2.2.1 0 999 with
   | false=>rw[h2] at I;simp at I
   | true=>
    rw[h1,h2] at I;by_cases J:mOut l[i].2.1=0
    ·unfold mRef at h1
     rw[aLg,QJ,QJ] at h1;unfold mOut at J;cases h4:mIn l[i].2.1.1 1 1000000 with
     | false=>rw[h4] at J;simp at J
     | true=>
      rw[h4,if_pos rfl] at J;exact⟨h1.1,h1.2,QJ.1 h4,J,QJ.1 h2⟩
    ·simp[J] at I
end GL
end Go.Dx
set_option maxHeartbeats 2000000
namespace Go.Dx
namespace GL
def cuts (c:UInt8):List UInt8->List (List UInt8)
 | []=>[[]]
 | b::l=>if b=c then []::cuts c l else match cuts c l with | []=>[[b]] | w::ws=>(b::w)::ws
def glue (p:List UInt8):List (List UInt8)->List (List UInt8)
 | []=>[p]
 | w::ws=>(p++w)::ws
theorem QaP (c:UInt8):∀l,cuts c l ≠ []
 | []=>by simp[cuts]
 | b::l=>by
  unfold cuts;split
  ·simp
  ·split<;>simp
theorem QnN {ws:List (List UInt8)} (h:ws ≠ []):glue [] ws=ws:=by
 cases ws with
 | nil=>exact absurd rfl h
 | cons w ws=>rfl
theorem J8 (c b:UInt8) (l:List UInt8):cuts c (b::l)=if b=c then []::cuts c l else glue [b] (cuts c l):=by
 rw[cuts];split
 ·rfl
 ·split
  ·rename_i h;exact absurd h (QaP c l)
  ·rename_i h;rw[h];rfl
theorem QqI (p q:List UInt8) {ws:List (List UInt8)} (h:ws ≠ []):glue p (glue q ws)=glue (p++q) ws:=by
 cases ws with
 | nil=>exact absurd rfl h
 | cons w ws=>simp[glue]
theorem Jk (c:UInt8):∀l,(cuts c l).length<=l.length+1
 | []=>by simp[cuts]
 | b::l=>by
  have:=Jk c l
  rw[J8];split
  ·simp;omega
  ·cases h:cuts c l with
   | nil=>simp[glue]
   | cons w ws=>rw[h] at this;simp[glue] at this ⊢;omega
theorem QjC (c:UInt8):∀l,Lib.split l [c]=cuts c l
 | []=>by
  unfold Lib.split;rw[Lib.count_one];rfl
 | b::l=>by
  have I:=QjC c l
  unfold Lib.split at I ⊢;rw[J8];by_cases hb:b=c
  ·subst hb
   rw[if_pos rfl,Lib.count_cons_eq,Nat.add_comm,Lib.splitK];have J:Lib.index (b::l) [b]=0:=by rw[Lib.index];simp[List.isPrefixOf]
   rw[J];simp[I]
  ·rw[if_neg hb,Lib.count_cons_ne b c l hb]
   have hp:([c]:List UInt8).isPrefixOf (b::l)=false:=by simp[List.isPrefixOf,Ne.symm hb]
   have J:Lib.index (b::l) [c]=if Lib.index l [c] == -1 then -1 else Lib.index l [c]+1:=by rw[Lib.index,hp];simp
   cases hk:Lib.count l [c] with
   | zero=>rw[hk] at I;rw[<-I];rfl
   | succ k=>
    rw[hk] at I;have hm:¬Lib.index l [c] = -1:=fun h=>by rw[Lib.count_miss h] at hk;cases hk
    have hge:=Lib.index_ge l [c]
    obtain⟨j,hj⟩:∃j:Nat,Lib.index l [c]=j:=⟨(Lib.index l [c]).toNat,by omega⟩
    have U:Lib.index (b::l) [c]=((j+1:Nat):Int):=by rw[J,if_neg (fun e=>hm (beq_iff_eq.1 e)),hj];omega
    rw[Lib.splitK,if_neg (fun e=>hm (beq_iff_eq.1 e)),hj] at I
    rw[Lib.splitK,if_neg (fun e=>by have:=beq_iff_eq.1 e;omega),U,<-I]
    simp[glue]
theorem Qr7 (l:List UInt8) (c:UInt8) (f:List (List UInt8)×Int×Int->Option ((List (List UInt8)×Int×Int)⊕List (List UInt8)))
  (hs:∀(i I:Nat) (h:i<l.length) (out:List (List UInt8)),I<=i->out.length<=i->f (out,(I:Int),(i:Int))=some (.inl (if l[i]=c then (out++[cut (I:Int) (i:Int) l],((i+1:Nat):Int),((i+1:Nat):Int)) else (out,(I:Int),((i+1:Nat):Int)))))
  (he:∀(I:Nat) (out:List (List UInt8)),I<=l.length->out.length<=l.length->Qc f (out,(I:Int),(l.length:Int))=some (out++[cut (I:Int) (l.length:Int) l])) :
  (Qc f ([],0,0)).bind (fun j=>some j)=some (cuts c l):=by
 have key:∀(k i I:Nat) (out:List (List UInt8)),i+k=l.length->I<=i->out.length<=i->Qc f (out,(I:Int),(i:Int))=some (out++glue ((l.drop I).take (i - I)) (cuts c (l.drop i))):=by
  intro k;induction k with
  | zero=>
   intro i I out hi J ho;obtain rfl:i=l.length:=by omega
   rw[he I out J ho,List.drop_length];simp[cuts,glue,cut]
  | succ k U=>
   intro i I out hi J ho;have h:i<l.length:=by omega
   rw[Qv (hs i I h out J ho),aLr h,J8];by_cases hb:l[i]=c
   ·rw[if_pos hb,if_pos hb,U (i+1) (i+1) _ (by omega) (Nat.le_refl _) (by simp;omega),Nat.sub_self,List.take_zero,QnN (QaP _ _)]
    simp[glue,cut]
   ·rw[if_neg hb,if_neg hb,U (i+1) I _ (by omega) (by omega) (by omega),QqI _ _ (QaP _ _)]
    have e:i+1 - I=(i - I)+1:=by omega
    have h2:i - I<(l.drop I).length:=by rw[aLz];omega
    rw[e,List.take_succ_eq_append_getElem h2];congr 3;simp only[List.getElem_drop];congr 2;simp only[show I+(i - I)=i by omega]
 have:=key l.length 0 0 [] (by omega) (Nat.le_refl _) (by simp)
 simp only[List.drop_zero,Nat.sub_zero,List.take_zero,aLx,QnN (QaP _ _)] at this;rw[show ((0:Nat):Int)=0 from rfl] at this
 rw[this];rfl
theorem Y0 (l:List UInt8) (c:UInt8) (hl:l.length<LIM):ZO l (c.toNat:Int)=some (cuts c l):=by
 have hB:l.length<BIG:=by unfold LIM at hl;unfold BIG;omega
 unfold ZO;refine Qr7 l c _ (fun i I h out hf ho=>?_) (fun I out hf ho=>?_)
 ·have e1:decide ((i:Int)<=(l.length:Int))=true:=aLE (by omega)
  have J:decide ((i:Int)=(l.length:Int))=false:=aLD (by omega)
  have U:QO (I:Int) (i:Int) l=true:=by unfold QO;simp;omega
  have e4:decide (((l[i].toNat:Nat):Int)=(c.toNat:Int))=decide (l[i]=c):=by
   apply decide_eq_decide.2;constructor
   ·intro h;exact UInt8.toNat_inj.1 (by omega)
   ·intro h;rw[h]
  simp only[e1,J,aLB,aLC,Qb l i h,Qa l i _ h,e4,aLc,wsucc h hB];by_cases hb:l[i]=c
  ·rw[aLE hb,if_pos hb,aLB,U,aLB,aLE (p:=List.length out+_<=LIM) (by simp only[aLh,aLj];omega)]
   rfl
  ·rw[aLD hb,if_neg hb];rfl
 ·have e1:decide ((l.length:Int)<=(l.length:Int))=true:=by simp
  have J:decide ((l.length:Int)=(l.length:Int))=true:=by simp
  have U:QO (I:Int) (l.length:Int) l=true:=by unfold QO;simp;omega
  have e5:IntKind.wrap .i64 ((l.length:Int)+1)=((l.length+1:Nat):Int):=by rw[QX (by omega) (by unfold BIG at hB;omega)];omega
  rw[Qv (s':=(out++[cut (I:Int) (l.length:Int) l],((l.length+1:Nat):Int),((l.length+1:Nat):Int))) (by
   simp only[e1,J,aLB,aLc,U,e5];rw[aLE (p:=List.length out+_<=LIM) (by simp only[aLh,aLj];omega)];rfl)]
  refine Qg ?_;have e6:decide (((l.length+1:Nat):Int)<=(l.length:Int))=false:=aLD (by omega)
  simp only[e6,aLC]
end GL
end Go.Dx
set_option maxHeartbeats 2000000
namespace Go.Dx
namespace GL
theorem Qig (c:UInt8):∀(w:List UInt8),c ∉ w->cuts c w=[w]
 | [],_=>rfl
 | b::w,h=>by
  rw[List.mem_cons,not_or] at h;rw[J8,if_neg (fun e=>h.1 e.symm),Qig c w h.2];rfl
theorem Qlp (c:UInt8):∀(a b:List UInt8),cuts c (a++c::b)=cuts c a++cuts c b
 | [],b=>by rw[aLx,J8,if_pos rfl];rfl
 | x::a,b=>by
  rw[List.cons_append,J8,J8,Qlp c a b];split
  ·rfl
  ·cases h:cuts c a with
   | nil=>exact absurd h (QaP c a)
   | cons w ws=>rfl
theorem Qas (x y:List UInt8) (r:List (List UInt8)) (c:UInt8):Lib.join (x::y::r) [c]=x++c::Lib.join (y::r) [c]:=by
 rw[Lib.join_cons,Lib.join_cons];simp[Lib.joinTail]
theorem Jy (c:UInt8):∀(ws:List (List UInt8)),ws ≠ []->(∀w,w ∈ ws->c ∉ w)->cuts c (Lib.join ws [c])=ws
 | [],h,_=>absurd rfl h
 | [x],_,h=>by rw[Lib.join_one];exact Qig c x (h x aLm)
 | x::y::r,_,h=>by
  rw[Qas,Qlp,Qig c x (h x aLm),Jy c (y::r) (by simp) fun w hw=>h w (aLp _ hw)];rfl
theorem QhF (c:UInt8):∀(a b:List UInt8),c ∉ a->Lib.indexByte (a++c::b) c=(a.length:Int)
 | [],b,_=>by simp[Lib.indexByte]
 | x::a,b,h=>by
  rw[List.mem_cons,not_or] at h;have I:=QhF c a b h.2
  have J:(x == c)=false:=by simpa using fun e:x=c=>h.1 e.symm
  rw[List.cons_append,Lib.indexByte,J,I];have:((a.length:Int) == -1)=false:=by simp
  rw[this];simp
theorem Qos (c:UInt8) (a b:List UInt8) (h:c ∉ a):Lib.cut (a++c::b) [c]=(a,b,true):=by
 unfold Lib.cut;rw[Lib.index_one,QhF c a b h,if_pos (by omega)]
 simp
theorem QlA (M:Nat):∀(l r:List UInt8) (acc a:Nat),Lib.parseUintM M acc l=.ok a->Lib.parseUintM M acc (l++r)=Lib.parseUintM M a r
 | [],r,acc,a,h=>by
  simp only[Lib.parseUintM] at h;cases h;rfl
 | c::l,r,acc,a,h=>by
  rw[List.cons_append];unfold Lib.parseUintM at h
  conv=>lhs;unfold Lib.parseUintM
  split at h
  ·rename_i h1
   rw[if_pos h1];split at h
   ·cases h
   ·rename_i I
    rw[if_neg I];split at h
    ·cases h
    ·rename_i J
     rw[if_neg J];exact QlA M l r _ a h
  ·cases h
theorem Qi1 (M acc d:Nat) (hd:d<10) (h1:acc<1844674407370955162) (I:acc * 10+d<=M):Lib.parseUintM M acc [UInt8.ofNat (48+d)]=.ok (acc * 10+d):=by
 have e:(UInt8.ofNat (48+d)).toNat=48+d:=by rw[UInt8.toNat_ofNat'];omega
 unfold Lib.parseUintM;rw[e,if_pos (by omega),if_neg (by omega),if_neg (by omega)]
 rw[show acc * 10+(48+d - 48)=acc * 10+d by omega]
 rfl
theorem QqO:∀(u:Nat),u<=9223372036854775807->Lib.parseUintM (2 ^ 64 - 1) 0 (Lib.decDigits u)=.ok u:=by
 intro u;induction u using Nat.strongRecOn with
 | ind u I=>
  intro hu;by_cases h:u<10
  ·rw[Lib.decDigits_one h,Qi1 _ 0 u h (by omega) (by omega)]
   simp
  ·rw[Lib.decDigits,dif_neg h,QlA _ _ _ 0 (u / 10) (I (u / 10) (by omega) (by omega)),Qi1 _ (u / 10) (u % 10) (by omega) (by omega) (by omega)]
   congr 1;omega
theorem Qjl:∀(u:Nat) (b:UInt8),b ∈ Lib.decDigits u->48<=b.toNat/\b.toNat<=57:=by
 intro u;induction u using Nat.strongRecOn with
 | ind u I=>
  intro b hb;have one:∀d:Nat,d<10->(UInt8.ofNat (48+d)).toNat=48+d:=fun d hd=>by
   rw[UInt8.toNat_ofNat'];omega
  by_cases h:u<10
  ·rw[Lib.decDigits_one h,aLs] at hb
   subst hb;rw[one u h];omega
  ·rw[Lib.decDigits,dif_neg h] at hb
   rcases List.mem_append.1 hb with hb | hb
   ·exact I (u / 10) (by omega) b hb
   ·rw[aLs] at hb
    subst hb;rw[one (u % 10) (by omega)];omega
theorem Qpf {n:Int} (U:0<=n) (h1:n<=9223372036854775807):Lib.parseIntB 64 (Lib.itoa n)=.ok n:=by
 obtain⟨m,rfl⟩:=aLA U;rw[YQ];have I:=QqO m (by omega)
 have hb:=Qjl m
 have J:1<=(Lib.decDigits m).length:=by rw[Lib.decDigits_length];exact Lib.nDigits_pos m
 match hd:Lib.decDigits m with
 | []=>rw[hd] at J;simp at J
 | c::r=>
  rw[hd] at I hb;have hc:=hb c aLm
  unfold Lib.parseIntB;simp only;rw[if_neg (by omega)]
  unfold Lib.parseUintB;rw[if_neg (by simp),I]
  simp only;rw[if_neg (by omega),if_neg (by omega),if_neg (by omega)]
theorem Qa2 {n:Int} (I:0<=n) (h1:n<10000000000):numS (Lib.itoa n)=n:=by
 unfold numS;rw[Qpf I (by omega)]
 obtain⟨m,rfl⟩:=aLA I;have J:(Lib.itoa (m:Int)).length<=10:=by
  rw[YQ,Lib.decDigits_length];exact Qcu 10 m (by omega) (by decide)
 simp[J]
end GL
end Go.Dx
set_option maxHeartbeats 2000000
namespace Go.Dx
namespace GL
abbrev TL:=List (List UInt8)×List (Int×Int)
theorem Qab {α R:Type} (l:List α) (c:Nat->α->Int) (f:Int->Option (Int⊕(Unit⊕Int)))
  (J:∀(i:Nat) (h:i<l.length),f (i:Int)=some (if c i l[i]=0 then .inl ((i+1:Nat):Int) else .inr (.inr (c i l[i])))) (he:f (l.length:Int)=some (.inr (.inl ()))) (A:Unit->Option R) (B:Int->Option R) :
  ((Qc f 0).bind fun j=>Sum.elim A B j)=if code c l=0 then A () else B (code c l):=by
 rw[Jt l (fun i a=>if c i a=0 then none else some (c i a)) f (fun i h=>by rw[J i h];by_cases U:c i l[i]=0<;>simp[U]) he,Qac]
 by_cases I:code c l=0
 ·rw[if_pos I]
  have hz:=Yg I
  have:first (fun i a=>if c i a=0 then none else some (c i a)) 0 l=none:=(QcR l 0).2 (fun j a ha=>by rw[Nat.zero_add,if_pos (hz j a ha)])
  rw[this]
 ·rw[if_neg I]
  unfold code at I ⊢;cases hf:first (fun i a=>if c i a=0 then none else some (c i a)) 0 l with
  | none=>rw[hf] at I;exact absurd rfl I
  | some r=>rfl
theorem Qhg {α β γ:Type} (g:Nat->α->Option β) (h:β->γ):∀(l:List α) (i:Nat),first (fun i a=>(g i a).map h) i l=(first g i l).map h
 | [],_=>rfl
 | a::l,i=>by
  simp only[first]
  cases g i a with
  | none=>exact Qhg g h l (i+1)
  | some r=>rfl
theorem Ql4 (t:List UInt8):Qdl t=some (mIn (t.length:Int) 1 300):=by unfold Qdl;rw[Ze];rfl
theorem any_eq {α:Type} [DecidableEq α] (x:α) (l:List α):l.any (fun a=>decide (x=a))=decide (x ∈ l):=by
 rw[Bool.eq_iff_iff];simp
theorem any_eq' {α:Type} [DecidableEq α] (x:α) (l:List α):l.any (fun a=>decide (a=x))=decide (x ∈ l):=by
 rw[Bool.eq_iff_iff];simp
theorem Qkz (l:List (List UInt8)) (I:l.length<BIG) (x:List UInt8):Zu l x=some (decide (x ∈ l)):=by
 unfold Zu QG;rw[Jm l (fun a=>decide (x=a)) _ (fun i h=>?_) (by simp only[dge,aLC]),aLc,ZD,any_eq]
 ·exact congrArg some (decide_eq_decide.2 Iff.rfl)
 ·simp only[dlt h,Qb l i h,Qa l i _ h,aLB,wsucc h I]
  cases decide (x=l[i])<;>rfl
theorem Qf3 (l:List (Int×Int)) (I:l.length<BIG) (x:Int×Int):QV l x=some (decide (x ∈ l)):=by
 unfold QV ZS;rw[Jm l (fun a=>decide (x=a)) _ (fun i h=>?_) (by simp only[dge,aLC]),aLc,ZD,any_eq]
 ·exact congrArg some (decide_eq_decide.2 Iff.rfl)
 ·simp only[dlt h,Qb l i h,Qa l i _ h,aLB,wsucc h I,Qhf]
  cases decide (x=l[i])<;>rfl
theorem QfV (l:List (Int×Int)) (I:l.length<BIG) (x:Int×Int):J3 l x=some (decide (x ∈ l)):=by
 unfold J3;rw[Qg6 l (fun a=>decide (a=x)) _ (fun i h=>?_) (by simp only[dge,aLC]),any_eq']
 ·exact congrArg some (decide_eq_decide.2 Iff.rfl)
 ·simp only[dlt h,Qb l i h,Qa l i _ h,aLB,wsucc h I,Qhf]
  cases decide (l[i]=x)<;>rfl
theorem Qi3 (l:List (List UInt8)) (I:l.length<BIG) (x:List UInt8):Qc7 l x=some (idxF (fun a=>decide (a=x)) l+1):=by
 unfold Qc7;rw[Jt l (fun i a=>(if decide (a=x)=true then some (i:Int) else none).map (· + 1)) _ (fun i h=>?_) (by simp only[dge,aLC]),Qhg,Qac]
 ·unfold idxF
  cases first (fun i a=>if decide (a=x)=true then some (i:Int) else none) 0 l<;>rfl
 ·simp only[dlt h,Qb l i h,Qa l i _ h,aLB,wsucc h I]
  cases decide (l[i]=x)<;>rfl
theorem pos_at (l:List (List UInt8)) (x:List UInt8):decide (0<idxF (fun a=>decide (a=x)) l+1)=decide (x ∈ l):=by
 have h:=ZD (fun a=>decide (a=x)) l
 have I:(l.any fun a=>decide (a=x))=true↔x ∈ l:=by simp
 refine decide_eq_decide.2 ⟨fun J=>I.1 (by rw[<-h];simp;omega),fun J=>?_⟩
 have:=I.2 J
 rw[<-h] at this;have:=aLG this
 omega
def mTx (l:List (List UInt8)) (i:Nat) (s:List UInt8):Int:=if mIn (s.length:Int) 1 300 then (if s ∈ l.take i then 7 else 0) else 2
def mSg (n:Int) (l:List (Int×Int)) (i:Nat) (x:Int×Int):Int:=if mIn x.1 1 999&&mIn x.2 1 n then (if x ∈ l.take i then 7 else 0) else 3
def mLF (x:TL):Int:=if (decide ((60:Int)<(x.1.length:Int)) || decide ((120:Int)<(x.2.length:Int)))=true then 2 else if code (mTx x.1) x.1=0 then code (mSg (x.1.length:Int) x.2) x.2 else code (mTx x.1) x.1
theorem YR {α:Type} {l:List α} (I:l.length<BIG) (i:Nat):(l.take i).length<BIG:=by rw[aLn];omega
theorem Qh2 (x:TL) (h1:x.1.length<BIG) (I:x.2.length<BIG):Qan x=some (mLF x):=by
 unfold Qan mLF;have e:∀(p q:Bool),(bif p then some true else some q:Option Bool)=some (p || q):=by intro p q;cases p<;>rfl
 rw[e,aLc];cases (decide ((60:Int)<(x.1.length:Int)) || decide ((120:Int)<(x.2.length:Int))) with
 | true=>rfl
 | false=>
  rw[aLC,if_neg (by simp),Qab x.1 (mTx x.1) _ (fun i h=>?_) (by simp only[dge,aLC])]
  ·split
   ·refine Jx _ _ _ (fun i h=>?_) (by simp only[dge,aLC])
    simp only[dlt h,Qb x.2 i h,Qa x.2 i _ h,ZN x.2 i (Nat.le_of_lt h),Jd,aLB,Qd4,Ze,aLc,wsucc h I,Qf3 _ (YR I i)];unfold mSg;cases mIn x.2[i].1 1 999<;>cases mIn x.2[i].2 1 (x.1.length:Int)<;>by_cases hm:x.2[i] ∈ x.2.take i<;>simp[hm]
   ·rfl
  ·simp only[dlt h,Qb x.1 i h,Qa x.1 i _ h,ZN x.1 i (Nat.le_of_lt h),Jd,aLB,Ql4,aLc,wsucc h h1,Qkz _ (YR h1 i)]
   unfold mTx;cases mIn (x.1[i].length:Int) 1 300<;>by_cases hm:x.1[i] ∈ x.1.take i<;>simp[hm]
theorem QaV (x:TL) (h1:x.1.length<BIG) (I:x.2.length<BIG):YJ x=some (mLF x):=by
 unfold YJ mLF;have e:∀(p q:Bool),(bif p then some true else some q:Option Bool)=some (p || q):=by intro p q;cases p<;>rfl
 rw[e,aLc];cases (decide ((60:Int)<(x.1.length:Int)) || decide ((120:Int)<(x.2.length:Int))) with
 | true=>rfl
 | false=>
  rw[aLC,if_neg (by simp),Qab x.1 (mTx x.1) _ (fun i h=>?_) (by simp only[dge,aLC])]
  ·split
   ·refine Jx _ _ _ (fun i h=>?_) (by simp only[dge,aLC])
    simp only[dlt h,Qb x.2 i h,Qa x.2 i _ h,ZN x.2 i (Nat.le_of_lt h),Jd,aLB,Qef,Zj,aLc,wsucc h I,QfV _ (YR I i)];unfold mSg;cases mIn x.2[i].1 1 999<;>cases mIn x.2[i].2 1 (x.1.length:Int)<;>by_cases hm:x.2[i] ∈ x.2.take i<;>simp[hm]
   ·rfl
  ·simp only[dlt h,Qb x.1 i h,Qa x.1 i _ h,ZN x.1 i (Nat.le_of_lt h),Jd,aLB,aLc,wsucc h h1,Qi3 _ (YR h1 i),pos_at]
   have J:∀(n:Int),(decide (n<1) || decide (300<n)) = !mIn n 1 300:=by
    intro n;unfold mIn;rw[Bool.eq_iff_iff];simp;try omega
   rw[e,J,aLc];unfold mTx;cases mIn (x.1[i].length:Int) 1 300<;>by_cases hm:x.1[i] ∈ x.1.take i<;>simp[hm]
theorem Qj3 {R:Type} (a:Option R):agree a a=a:=by unfold agree;simp
theorem Qgu {α:Type} {l:List α} (h:l.length<=LIM):decide (List.length ([]:List α)+List.length l<=LIM)=true:=by simp;omega
end GL
end Go.Dx
set_option maxHeartbeats 2000000
namespace Go.Dx
namespace GL
def Y {α:Type} (o:Option α) (Q:α->Prop):Prop:=∃a,o=some a/\Q a
theorem Y.some {α:Type} {a:α} {Q:α->Prop} (h:Q a):Y (some a) Q:=⟨a,rfl,h⟩
theorem Y.bind {α β:Type} {o:Option α} {f:α->Option β} {Q:α->Prop} {R:β->Prop} (h:Y o Q) (k:∀a,Q a->Y (f a) R):Y (o.bind f) R:=by
 obtain⟨a,rfl,I⟩:=h;exact k a I
theorem Y.eqb {α β:Type} {o:Option α} {a:α} {f:α->Option β} {R:β->Prop} (h:o=Option.some a) (k:Y (f a) R):Y (o.bind f) R:=by
 subst h;exact k
theorem Y.bif {α:Type} {c:Bool} {a b:Option α} {Q:α->Prop} (h1:c=true->Y a Q) (I:c=false->Y b Q):Y (bif c then a else b) Q:=by
 cases c
 ·exact I rfl
 ·exact h1 rfl
theorem Y.grd {α:Type} {c:Bool} {a b:Option α} {Q:α->Prop} (h:c=true) (h1:Y a Q):Y (bif c then a else b) Q:=by rw[h];exact h1
theorem Y.loop {S X:Type} {f:S->Option (S⊕X)} {Q:X->Prop} (I:Nat->S->Prop) (hs:∀n s,I n s->Y (f s) (fun r=>match r with | .inl s'=>∃m,m<n/\I m s' | .inr x=>Q x)):∀n s,I n s->Y (Qc f s) Q:=by
 intro n;induction n using Nat.strongRecOn with
 | ind n ih=>
  intro s hi;obtain⟨r,h1,U⟩:=hs n s hi;cases r with
  | inl s'=>
   obtain⟨m,hm,J⟩:=U;obtain⟨x,h3,h4⟩:=ih m hm s' J;exact⟨x,QfI h1 h3,h4⟩
  | inr x=>exact⟨x,Qg h1,U⟩
theorem Qfp {α:Type} (l:List α) (a:α) (h:l.length<1000000):decide (List.length l+List.length [a]<=LIM)=true:=by
 simp only[aLh,aLj,aLF];unfold LIM;omega
theorem ZB {α:Type} {l:List α} {i:Int} (I:0<=i) (h:i<(l.length:Int)):inB i l=true:=by
 simp[inB,I,h]
def dv (l:List UInt8):Nat:=l.foldl (fun a b=>a * 10+(b.toNat - 48)) 0
theorem Qkt (l:List UInt8) (b:UInt8):dv (l++[b])=dv l * 10+(b.toNat - 48):=by simp[dv]
theorem Qnf:∀m:Nat,dv (Lib.decDigits m)=m:=by
 intro m;induction m using Nat.strongRecOn with
 | ind m I=>
  have one:∀d:Nat,d<10->(UInt8.ofNat (48+d)).toNat=48+d:=fun d hd=>by
   rw[UInt8.toNat_ofNat'];omega
  by_cases h:m<10
  ·rw[Lib.decDigits_one h]
   show 0 * 10+((UInt8.ofNat (48+m)).toNat - 48)=m
   rw[one m h];omega
  ·rw[Lib.decDigits,dif_neg h,Qkt,I (m / 10) (by omega),one (m % 10) (by omega)];omega
theorem Qts (l:List UInt8) (h:∀b,b ∈ l->b.toNat<=57):dv l<10 ^ l.length:=by
 have key:∀(l:List UInt8) (a:Nat),(∀b,b ∈ l->b.toNat<=57)->l.foldl (fun a b=>a * 10+(b.toNat - 48)) a<(a+1) * 10 ^ l.length:=by
  intro l;induction l with
  | nil=>intro a _;simp
  | cons b l I=>
   intro a h;have h1:=I (a * 10+(b.toNat - 48)) fun c J=>h c (aLp _ J)
   have U:=h b aLm
   have h3:(a * 10+(b.toNat - 48)+1) * 10 ^ l.length<=((a+1) * 10) * 10 ^ l.length:=aLq _ (by omega)
   rw[List.foldl_cons,aLh,Nat.pow_succ];have e:(a+1) * (10 ^ l.length * 10)=((a+1) * 10) * 10 ^ l.length:=by rw[Nat.mul_comm (10 ^ l.length) 10,Nat.mul_assoc]
   omega
 have:=key l 0 h
 rw[Nat.zero_add,Nat.one_mul] at this;exact this
theorem Qrs:∀(m:Nat),1<=m->∀b r,Lib.decDigits m=b::r->b.toNat ≠ 48:=by
 intro m;induction m using Nat.strongRecOn with
 | ind m J=>
  intro hm b r h;by_cases I:m<10
  ·rw[Lib.decDigits_one I] at h
   simp only[List.cons.injEq] at h;rw[<-h.1,UInt8.toNat_ofNat'];omega
  ·rw[Lib.decDigits,dif_neg I] at h
   cases hd:Lib.decDigits (m / 10) with
   | nil=>
    have:=Lib.decDigits_length (m / 10)
    rw[hd] at this;have h2:=Lib.nDigits_pos (m / 10)
    simp at this;omega
   | cons c U=>
    rw[hd,List.cons_append] at h;simp only[List.cons.injEq] at h;rw[<-h.1];exact J (m / 10) (by omega) (by omega) c U hd
theorem Qhc (w:List UInt8) (n:Int) (hw:w.length<BIG):Y (Qm w n) (fun _=>True):=by
 unfold Qm;refine Y.bind (Q:=fun j=>True) ?_ (fun j _=>?_)
 ·refine Y.bif (fun _=>Y.some trivial) (fun h1=>Y.bif (fun _=>Y.some trivial) (fun h2=>Y.bif (fun _=>Y.grd (ZB (by omega) ?_) (Y.some trivial)) (fun _=>Y.some trivial)))
  simp at h1;omega
 ·refine Y.bif (fun _=>Y.some trivial) (fun _=>?_)
  refine Y.bind (Q:=fun _=>True) ?_ (fun j _=>by cases j<;>exact Y.some trivial)
  refine Y.loop (fun n s=>∃i:Nat,s.2=(i:Int)/\i<=w.length/\n=w.length - i) (fun n s J=>?_) w.length (0,0) ⟨0,rfl,by omega,by omega⟩
  obtain⟨i,hi,hle,hn⟩:=J;obtain⟨v,U⟩:=s;have hi:U=(i:Int):=hi
  subst hi;refine Y.bif (fun h1=>?_) (fun _=>Y.some trivial)
  have I:i<w.length:=by simp at h1;omega
  have hb:=Qb w i I
  refine Y.bind (Q:=fun _=>True) (Y.grd hb (Y.bif (fun _=>Y.some trivial) (fun _=>Y.grd hb (Y.some trivial)))) (fun j _=>Y.bif (fun _=>Y.some trivial) (fun _=>Y.grd hb (Y.some ?_)))
  exact⟨w.length - (i+1),by omega,i+1,wsucc I hw,by omega,rfl⟩
theorem Qfg {k:Int} (I:0<=k) (h1:k<=9999999) (n:Nat) (hn:(Lib.itoa k).length<=n):Qm (Lib.itoa k) (n:Int)=some (k,true):=by
 obtain⟨m,rfl⟩:=aLA I;rw[YQ] at hn ⊢;have hb:=Qjl m
 have J:=Qnf m
 have hl:1<=(Lib.decDigits m).length:=by rw[Lib.decDigits_length];exact Lib.nDigits_pos m
 have h7:(Lib.decDigits m).length<=7:=by rw[Lib.decDigits_length];exact Qcu 7 m (by omega) (by decide)
 have U:1<(Lib.decDigits m).length->(List.getD (Lib.decDigits m) 0 0).toNat ≠ 48:=fun h=>by
  cases hd:Lib.decDigits m with
  | nil=>rw[hd] at h;simp at h
  | cons c r=>
   have hm1:1<=m:=by
    rcases Nat.eq_zero_or_pos m with I | I
    ·subst I
     rw[Lib.decDigits_one (by omega)] at h
     simp at h
    ·exact I
   exact Qrs m hm1 c r hd
 generalize Lib.decDigits m=w at *;have hB:w.length<BIG:=by unfold BIG;omega
 unfold Qm;rw[aLD (p:=(w.length:Int)<1) (by omega),aLC,aLD (p:=(n:Int)<(w.length:Int)) (by omega),aLC,ZB (i:=0) (l:=w) (by omega) (by omega),aLB]
 have e0:(bif decide (1<(w.length:Int)) then some (decide (((w.getD (Int.toNat 0) 0).toNat:Int)=48)) else some false)=some false:=by
  by_cases h:1<w.length
  ·rw[aLE (by omega),aLB,aLD]
   have:=U h
   show ¬(((w.getD 0 0).toNat:Nat):Int)=48
   omega
  ·rw[aLD (by omega),aLC]
 rw[e0,aLc,aLC];rw[show ((0:Int),(0:Int))=(((0:Nat):Int),(0:Int)) from rfl]
 rw[ZE (σ:=Nat) w (fun v b=>v * 10+(b.toNat - 48)) (fun v i=>((v:Int),i)) (fun v=>Sum.inl (v:Int)) (fun v i=>v<10 ^ i) _ (fun i hi v hv=>by
   have hbi:=hb _ (aLl hi)
   have hp:10 ^ i<=10 ^ 6:=Nat.pow_le_pow_right (by omega) (by omega)
   have hp2:(10:Nat) ^ 6=1000000:=rfl
   refine⟨?_,?_⟩
   ·simp only[dlt hi,Qb w i hi,Qa w i _ hi,aLB,wsucc hi hB]
    rw[aLD (p:=((w[i].toNat:Nat):Int)<48) (by omega),aLC,aLD (p:=(57:Int)<((w[i].toNat:Nat):Int)) (by omega),aLc,aLC]
    have e1:IntKind.wrap .u8 (((w[i].toNat:Nat):Int) - 48)=((w[i].toNat - 48:Nat):Int):=by
     rw[show ((w[i].toNat:Nat):Int) - 48=((w[i].toNat - 48:Nat):Int) by omega]
     rw[show IntKind.wrap .u8 ((w[i].toNat - 48:Nat):Int)=((w[i].toNat - 48:Nat):Int) % 256 from by simp[IntKind.wrap,IntKind.bits,IntKind.signed]]
     omega
    rw[e1,QX (n:=(v:Int) * 10) (by omega) (by omega),QX (n:=((w[i].toNat - 48:Nat):Int)) (by omega) (by omega),QX (by omega) (by omega)]
    congr 3
   ·rw[Nat.pow_succ];omega) (fun v hv=>by simp only[dge,aLC]) 0 (by simp)]
 show some (((dv w:Nat):Int),true)=_
 rw[J]
theorem YN (w:List UInt8) (h:w.length<=1000000):Zf w=some (numS w):=by
 unfold Zf numO;rw[Nat.ble_eq.mpr h];rfl
theorem Qfj (s:List UInt8) (c:UInt8) (h:s.length<=1000000):ZZ s [c]=some (cuts c s):=by
 unfold ZZ;rw[QqZ (by simp) (by omega),QjC]
theorem Qa3 (c:UInt8):∀(l:List UInt8) (w:List UInt8),w ∈ cuts c l->w.length<=l.length
 | [],w,h=>by simp[cuts] at h;subst h;simp
 | b::l,w,h=>by
  rw[J8] at h;split at h
  ·rcases List.mem_cons.1 h with rfl | h
   ·simp
   ·have:=Qa3 c l w h;simp;omega
  ·have I:=Qa3 c l
   cases J:cuts c l with
   | nil=>exact absurd J (QaP c l)
   | cons a r=>
    rw[J] at h I;simp only[glue] at h;rcases List.mem_cons.1 h with rfl | h
    ·have:=I a aLm;simp;omega
    ·have:=I w (aLp _ h);simp;omega
theorem Yh (c:UInt8) (l:List UInt8) (i:Nat):(List.getD (cuts c l) i []).length<=l.length:=by
 rw[aLk];cases h:(cuts c l)[i]? with
 | none=>simp
 | some w=>exact Qa3 c l w (List.mem_of_getElem? h)
theorem QhT (s:List UInt8) (c:UInt8) (h:s.length<=100000):JA s [c]=some ((cuts c s).map numS):=by
 unfold JA;have hlen:=Jk c s
 rw[Qfj s c (by omega),aLc]
 rw[ZE (σ:=List Int) (cuts c s) (fun acc a=>acc++[numS a]) (fun t i=>(t,i)) (fun t=>t) (fun t i=>t.length=i) _ (fun i hi t I=>by
   refine⟨?_,by simp[I]⟩
   have hw:=Qa3 c s _ (aLl hi)
   simp only[dlt hi,Qb _ i hi,Qa _ i _ hi,aLB,YN _ (show ((cuts c s)[i]).length<=1000000 by omega),aLc,wsucc hi (by unfold BIG;omega)]
   rw[Qp (by simp only[aLh,aLj];unfold LIM;omega)];rfl) (fun t I=>by simp only[dge,aLC]) [] rfl,aLc,foldl_map,aLx]
end GL
end Go.Dx
set_option maxHeartbeats 2000000
namespace Go.Dx
namespace GL
theorem Qp0 {n:Int} (I:0<=n) {b:UInt8} (hb:b ∈ Lib.itoa n):48<=b.toNat/\b.toNat<=57:=by
 obtain⟨m,rfl⟩:=aLA I;rw[YQ] at hb;exact Qjl m b hb
theorem ZR {n:Int} (I:0<=n) (c:UInt8) (J:c.toNat<48\/57<c.toNat):c ∉ Lib.itoa n:=fun h=>by
 have:=Qp0 I h;omega
theorem Zh (x:List UInt8) (r:List (List UInt8)) (c:UInt8) (I:r ≠ []):Lib.join (x::r) [c]=x++c::Lib.join r [c]:=by
 cases r with
 | nil=>exact absurd rfl I
 | cons y r=>exact Qas x y r c
theorem QsR (l:List Int) (h:∀k,k ∈ l->0<=k) (c:UInt8) (hc:c.toNat<48\/57<c.toNat) (I:c ≠ 44):c ∉ Zc l [44]:=by
 unfold Zc;induction l with
 | nil=>simp[Lib.join_nil]
 | cons a l J=>
  have U:=ZR (h a aLm) c hc
  have J:=J fun k hk=>h k (aLp _ hk)
  cases l with
  | nil=>rw[List.map_cons,List.map_nil,Lib.join_one];exact U
  | cons b l=>
   rw[List.map_cons,Zh _ _ _ (by simp),List.mem_append,List.mem_cons]
   rintro (h1 | h1 | h1)
   ·exact U h1
   ·exact I h1
   ·exact J h1
theorem Qlb (l:List Int) (I:l ≠ []) (h:∀k,k ∈ l->0<=k):cuts 44 (Zc l [44])=l.map Lib.itoa:=by
 unfold Zc;refine Jy 44 _ (by simpa using I) fun w hw=>?_
 obtain⟨k,hk,rfl⟩:=List.mem_map.1 hw;exact ZR (h k hk) 44 (by decide)
def Qd5 (r:TRu):List (List UInt8):=[Lib.itoa r.2.1,[111,102],Zc r.1 [44]]++(if r.2.2=0 then [] else [[97,102,116,101,114],Lib.itoa r.2.2])
structure Blank (b:UInt8):Prop where
 d:b.toNat<48\/57<b.toNat
 c:b ≠ 44
 o:b ≠ 111/\b ≠ 102/\b ≠ 97/\b ≠ 116/\b ≠ 101/\b ≠ 114
theorem QdW:Blank 32:=⟨by decide,by decide,by decide⟩
theorem QoD:Blank 95:=⟨by decide,by decide,by decide⟩
theorem Qjw {r:TRu} (h:okR r) {b:UInt8} (hb:Blank b):∀w,w ∈ Qd5 r->b ∉ w:=by
 have I:b ∉ ([111,102]:List UInt8):=by
  have:=hb.o
  simp[this.1,this.2.1]
 have J:b ∉ ([97,102,116,101,114]:List UInt8):=by
  have:=hb.o
  simp[this]
 have h1:=ZR (n:=r.2.1) (by have:=h.need;omega) b hb.d
 have U:=ZR (n:=r.2.2) (by have:=h.after;omega) b hb.d
 have h3:=QsR r.1 (fun k hk=>by have:=h.keys k hk;omega) b hb.d hb.c
 intro w hw;unfold Qd5 at hw;split at hw<;>simp only[List.append_nil,List.cons_append,aLx,List.mem_cons,List.not_mem_nil,or_false] at hw
 ·rcases hw with rfl | rfl | rfl<;>assumption
 ·rcases hw with rfl | rfl | rfl | rfl | rfl<;>assumption
theorem Qfa (r:TRu) (b:UInt8):Lib.join (Qd5 r) [b]=Qs r [b]:=by
 unfold Qd5 Qs;split
 ·rw[List.append_nil,Zh _ _ _ (by simp),Zh _ _ _ (by simp),Lib.join_one];simp
 ·simp only[List.cons_append,aLx]
  rw[Zh _ _ _ (by simp),Zh _ _ _ (by simp),Zh _ _ _ (by simp),Zh _ _ _ (by simp),Lib.join_one];simp
theorem Qpn {r:TRu} (h:okR r) {b:UInt8} (hb:Blank b):cuts b (Qs r [b])=Qd5 r:=by
 rw[<-Qfa];exact Jy b _ (by unfold Qd5;simp) (Qjw h hb)
theorem Qj5 {r:TRu} (h:okR r) {b c:UInt8} (J:Blank c) (I:c ≠ b):c ∉ Qs r [b]:=by
 rw[<-Qfa];have hw:=Qjw h J
 have:∀ws:List (List UInt8),(∀w,w ∈ ws->c ∉ w)->c ∉ Lib.join ws [b]:=by
  intro ws;induction ws with
  | nil=>intro _;simp[Lib.join_nil]
  | cons x ws U=>
   intro h;cases ws with
   | nil=>rw[Lib.join_one];exact h x aLm
   | cons y ws=>
    rw[Zh _ _ _ (by simp),List.mem_append,List.mem_cons]
    rintro (h1 | h1 | h1)
    ·exact h x aLm h1
    ·exact I h1
    ·exact U (fun w hw=>h w (aLp _ hw)) h1
 exact this _ hw
def swp (a b:UInt8) (l:List UInt8):List UInt8:=l.map fun c=>if c=a then b else c
theorem Qqk (l:List UInt8) (a b:UInt8) (h:l.length<=1000000):Jf l (a.toNat:Int) (b.toNat:Int)=some (swp a b l):=by
 unfold Jf swpS;rw[Nat.ble_eq.mpr h,aLE (by have:=b.toNat_lt;omega)]
 show some _=_
 congr 1;unfold swp;refine List.map_congr_left fun c _=>?_
 by_cases I:c=a
 ·subst I
  rw[if_pos rfl,if_pos rfl];apply UInt8.toNat_inj.1;rw[UInt8.toNat_ofNat'];have:=b.toNat_lt
  omega
 ·rw[if_neg I,if_neg fun h=>I (UInt8.toNat_inj.1 (by omega))]
theorem QmO {a b:UInt8} {l:List UInt8} (h:a ∉ l):swp a b l=l:=by
 unfold swp;have:∀c,c ∈ l->(if c=a then b else c)=id c:=fun c I=>if_neg (fun e:c=a=>h (e ▸ I))
 rw[List.map_congr_left this,List.map_id]
theorem QnO {a b:UInt8}:∀ws:List (List UInt8),(∀w,w ∈ ws->a ∉ w)->swp a b (Lib.join ws [a])=Lib.join ws [b]
 | [],_=>by simp[Lib.join_nil,swp]
 | [x],h=>by rw[Lib.join_one,Lib.join_one];exact QmO (h x aLm)
 | x::y::r,h=>by
  rw[Qas,Qas];have h1:=QmO (b:=b) (h x aLm)
  have I:=QnO (b:=b) (y::r) fun w hw=>h w (aLp _ hw)
  unfold swp at h1 I ⊢;rw[List.map_append,List.map_cons,h1,I,if_pos rfl]
theorem Qnk {r:TRu} (h:okR r) {a b:UInt8} (I:Blank a):swp a b (Qs r [a])=Qs r [b]:=by
 rw[<-Qfa,<-Qfa];exact QnO _ (Qjw h I)
def Qms (s:List UInt8) (b:UInt8) (x:TRu×Bool):Prop:=x.1.1.length<=s.length+1/\∀I,Q6 I=0->Qs I [b]=s->x=(I,true)
theorem Qck {r:TRu} (h:Q6 r=0) (b:UInt8):(Qs r [b]).length<=120:=Qom (Ye h) [b] (by simp)
theorem YU {I:TRu} (J:Q6 I=0) {s:List UInt8} {b:UInt8} (hb:Blank b) (U:Qs I [b]=s):cuts b s=Qd5 I:=by
 rw[<-U];exact Qpn (Ye J) hb
theorem QdN (r:TRu):(Qd5 r).length=if r.2.2=0 then 3 else 5:=by
 unfold Qd5;split<;>rfl
theorem QpC (s:List UInt8) (b:UInt8) (hb:Blank b) (hs:s.length<=100000):Y (Qb2 s [b]) (Qms s b):=by
 have hlen:=Jk b s
 have hin:∀i:Nat,i<(cuts b s).length->inB (i:Int) (cuts b s)=true:=fun i h=>Qb _ i h
 unfold Qb2;refine Y.eqb (Qfj s b (by omega)) ?_
 have hno:(∀I,Q6 I=0->Qs I [b]=s->False)->Qms s b (([],(0,0)),false):=fun h=>⟨by simp,fun I h1 J=>(h I h1 J).elim⟩
 have hn:∀i:Nat,(List.getD (cuts b s) i []).length<=s.length:=Yh b s
 refine Y.bind (Q:=fun j=>(j=false->((cuts b s).length=3\/(cuts b s).length=5))/\(j=true->∀I,Q6 I=0->Qs I [b]=s->False)) ?_ (fun j hj=>?_)
 ·refine Y.bif (fun h1=>Y.some ⟨(fun h=>by cases h),fun _ I J U=>?_⟩) (fun _=>Y.bif (fun h1=>Y.some ⟨(fun h=>?_),(fun h I J U=>?_)⟩) (fun h1=>Y.some ⟨(fun _=>.inl ?_),(fun h=>by cases h)⟩))
  ·have:=Qck J b;rw[U] at this;simp at h1;omega
  ·right;simp at h;omega
  ·have hw:=YU J hb U
   have hl:=QdN I
   rw[<-hw] at hl;simp at h h1;split at hl<;>omega
  ·simp at h1;omega
 ·obtain⟨hj1,hj2⟩:=hj
  refine Y.bif (fun h=>Y.some (hno (hj2 h))) (fun h=>?_)
  have h35:=hj1 h
  refine Y.grd (hin 0 (by omega)) (Y.eqb (YN _ (by have:=hn 0;show (List.getD (cuts b s) 0 []).length<=_;omega)) (Y.grd (hin 2 (by omega)) (Y.eqb (QhT _ 44 (by have:=hn 2;show (List.getD (cuts b s) 2 []).length<=_;omega)) ?_)))
  have hk:=Jk 44 (List.getD (cuts b s) 2 [])
  have hk2:=hn 2
  refine Y.bind (Q:=fun (x:TRu)=>x.1.length<=s.length+1/\∀I,Q6 I=0->Qs I [b]=s->x=I) ?_ (fun x hx=>?_)
  ·have comp:∀I,Q6 I=0->Qs I [b]=s->numS (List.getD (cuts b s) (Int.toNat 0) [])=I.2.1/\(cuts 44 (List.getD (cuts b s) (Int.toNat 2) [])).map numS=I.1:=fun I J U=>by
    have ho:=Ye J
    rw[YU J hb U];refine⟨?_,?_⟩
    ·show numS (Lib.itoa I.2.1)=_
     exact Qa2 (by have:=ho.need;omega) (by have:=ho.need;omega)
    ·show (cuts 44 (Zc I.1 [44])).map numS=_
     rw[Qlb I.1 (fun e=>by have:=ho.len;rw[e] at this;simp at this) (fun k hk=>by have:=ho.keys k hk;omega),List.map_map]
     have hid:∀k,k ∈ I.1->(numS ∘ Lib.itoa) k=id k:=fun k hk=>Qa2 (by have:=ho.keys k hk;omega) (by have:=ho.keys k hk;omega)
     rw[List.map_congr_left hid,List.map_id]
   refine Y.bif (fun h5=>?_) (fun h5=>?_)
   ·have h5:(cuts b s).length=5:=by simp at h5;omega
    refine Y.grd (hin 4 (by omega)) (Y.eqb (YN _ (by have:=hn 4;show (List.getD (cuts b s) 4 []).length<=_;omega)) (Y.some ⟨by show (List.map numS _).length<=_;rw[List.length_map];show (cuts 44 (List.getD (cuts b s) 2 [])).length<=_;omega,fun I J U=>?_⟩))
    obtain⟨c1,c2⟩:=comp I J U;have hw:=YU J hb U
    have hl:=QdN I
    rw[<-hw,h5] at hl;have ha:I.2.2 ≠ 0:=fun e=>by rw[if_pos e] at hl;omega
    have ho:=Ye J
    rw[c1,c2];show (I.1,I.2.1,numS (List.getD (cuts b s) 4 []))=I
    rw[hw];unfold Qd5;rw[if_neg ha];show (I.1,I.2.1,numS (Lib.itoa I.2.2))=I
    rw[Qa2 (by have:=ho.after;omega) (by have:=ho.after;omega)]
   ·have U:(cuts b s).length=3:=by simp at h5;omega
    refine Y.some ⟨by show (List.map numS _).length<=_;rw[List.length_map];show (cuts 44 (List.getD (cuts b s) 2 [])).length<=_;omega,fun I J h4=>?_⟩
    obtain⟨c1,c2⟩:=comp I J h4;have hl:=QdN I
    rw[<-YU J hb h4,U] at hl;have ha:I.2.2=0:=by
     by_cases e:I.2.2=0
     ·exact e
     ·rw[if_neg e] at hl;omega
    rw[c1,c2,<-ha]
  ·obtain⟨hx1,hx2⟩:=hx
   refine Y.bind (Q:=fun j=>j=true->∀I,Q6 I=0->Qs I [b]=s->False) ?_ (fun j hj=>?_)
   ·refine Y.eqb (QfC x (by unfold BIG;omega)) ?_
    refine Y.bif (fun h1=>Y.some (fun _ I J U=>?_)) (fun h1=>?_)
    ·rw[hx2 I J U] at h1;simp[J] at h1
    ·have h0:Q6 x=0:=by simpa using h1
     refine Y.eqb (Qge (Ye h0) [b] (by simp)) (Y.some (fun h I J U=>?_))
     rw[hx2 I J U] at h;simp[U] at h
   ·refine Y.bif (fun h=>Y.some (hno (hj h))) (fun h=>Y.some ⟨hx1,fun I J U=>by rw[hx2 I J U]⟩)
theorem Qqe (s:List UInt8) (hs:s.length<=100000):Y (QcD s) (Qms s 32):=by
 have hlen:=Jk 32 s
 have hin:∀i:Nat,i<(cuts 32 s).length->inB (i:Int) (cuts 32 s)=true:=fun i h=>Qb _ i h
 have hn:∀i:Nat,(List.getD (cuts 32 s) i []).length<=s.length:=Yh 32 s
 have hno:(∀I,Q6 I=0->Qs I [32]=s->False)->Qms s 32 (([],(0,0)),false):=fun h=>⟨by simp,fun I h1 J=>(h I h1 J).elim⟩
 have yn:∀(i:Nat) (n:Nat),Y (Qm (List.getD (cuts 32 s) i []) (n:Int)) (fun r=>∀k,0<=k->k<=9999999->List.getD (cuts 32 s) i []=Lib.itoa k->(Lib.itoa k).length<=n->r=(k,true)):=fun i n=>by
  obtain⟨r,h1,_⟩:=Qhc (List.getD (cuts 32 s) i []) (n:Int) (by have:=hn i;unfold BIG;omega)
  refine⟨r,h1,fun k h0 h9 hk hl=>?_⟩
  rw[hk,Qfg h0 h9 n hl] at h1;exact (Option.some.inj h1).symm
 have il:∀(k:Int) (n:Nat),0<=k->k<10 ^ n->1<=n->(Lib.itoa k).length<=n:=fun k n h0 h1 hn=>by
  obtain⟨m,rfl⟩:=aLA h0;rw[YQ,Lib.decDigits_length];refine Qcu n m ?_ hn;have:((10:Int) ^ n)=(((10:Nat) ^ n:Nat):Int):=by norm_cast
  omega
 unfold QcD;refine Y.eqb (Y0 s 32 (by unfold LIM;omega)) ?_
 refine Y.bind (Q:=fun j=>(j=false->((cuts 32 s).length=3\/(cuts 32 s).length=5))/\(j=true->∀I,Q6 I=0->Qs I [32]=s->False)) ?_ (fun j hj=>?_)
 ·have word:∀I,Q6 I=0->Qs I [32]=s->(!decide (List.getD (cuts 32 s) (Int.toNat 1) []=[111,102]))=false:=fun I J U=>by
   rw[YU J QdW U];show (!decide (([111,102]:List UInt8)=[111,102]))=false
   rfl
  refine Y.bif (fun h1=>Y.bif (fun J=>Y.some ⟨(fun h=>by cases h),(fun _ I U h4=>?_)⟩) (fun J=>Y.grd (hin 1 ?_) (Y.some ⟨(fun _=>.inr ?_),(fun h I U h4=>?_)⟩))) (fun h1=>Y.grd (hin 1 ?_) (Y.some ⟨(fun _=>.inl ?_),(fun h I U h4=>?_)⟩))
  ·have hl:=QdN I
   rw[<-YU U QdW h4] at hl;simp at h1 J;split at hl<;>omega
  ·simp at J;omega
  ·simp at J;omega
  ·rw[word I U h4] at h;cases h
  ·simp at h1;omega
  ·simp at h1;omega
  ·rw[word I U h4] at h;cases h
 ·obtain⟨hj1,hj2⟩:=hj
  refine Y.bif (fun h=>Y.some (hno (hj2 h))) (fun h=>?_)
  have h35:=hj1 h
  refine Y.grd (hin 0 (by omega)) (Y.bind (yn 0 1) (fun a ha=>Y.grd (hin 2 (by omega)) (Y.eqb (Y0 _ 44 (by have:=hn 2;show (List.getD (cuts 32 s) 2 []).length<_;unfold LIM;omega)) ?_)))
  have hk:=Jk 44 (List.getD (cuts 32 s) 2 [])
  have hk2:=hn 2
  obtain⟨ks,hks⟩:∃ks,ks=cuts 44 (List.getD (cuts 32 s) (Int.toNat 2) []):=⟨_,rfl⟩;have hks':ks=cuts 44 (List.getD (cuts 32 s) 2 []):=hks
  rw[<-hks];rw[<-hks'] at hk;have hcm:∀I,Q6 I=0->Qs I [32]=s->ks=I.1.map Lib.itoa:=fun I J U=>by
   have ho:=Ye J
   rw[hks',YU J QdW U];exact Qlb I.1 (fun e=>by have:=ho.len;rw[e] at this;simp at this) (fun k hk=>by have:=ho.keys k hk;omega)
  have hca:∀I,Q6 I=0->Qs I [32]=s->a=(I.2.1,true):=fun I J U=>by
   have ho:=Ye J
   refine ha I.2.1 (by have:=ho.need;omega) (by have:=ho.need;omega) (by rw[YU J QdW U];rfl) (il _ 1 (by have:=ho.need;omega) (by have:=ho.need;omega) (by omega))
  refine Y.bind (Q:=fun (x:Bool×TRu)=>x.2.1.length<=s.length+1/\∀I,Q6 I=0->Qs I [32]=s->x=(true,I.1,I.2.1,0)) ?_ (fun x hx=>?_)
  ·refine Y.loop (fun n (st:Bool×Int×List Int×Int×Int)=>∃i:Nat,st.2.1=(i:Int)/\i<=ks.length/\n=ks.length - i/\st.2.2.1.length=i/\∀I,Q6 I=0->Qs I [32]=s->st.1=true/\st.2.2=(I.1.take i,I.2.1,0)) (fun n st hI=>?_) ks.length _ ⟨0,rfl,by omega,by omega,rfl,fun I J U=>by rw[hca I J U];exact⟨rfl,by simp⟩⟩
   obtain⟨i,hi,hle,hnn,hac,hcomp⟩:=hI;obtain⟨ok,i',acc,nd,af⟩:=st;have hi:i'=(i:Int):=hi
   subst hi;have hac:acc.length=i:=hac
   refine Y.bif (fun h1=>?_) (fun h1=>Y.some ⟨by show acc.length<=_;omega,fun I J U=>?_⟩)
   ·have hlt:i<ks.length:=by simp at h1;omega
    have hwl:(ks[i]).length<=s.length:=by
     have:ks[i] ∈ cuts 44 (List.getD (cuts 32 s) 2 []):=hks' ▸ aLl hlt
     have:=Qa3 44 _ _ this;omega
    have hg:List.getD ks (Int.toNat (i:Int)) []=ks[i]:=Qa ks i _ hlt
    refine Y.grd (Qb _ i hlt) ?_;have yk:Y (Qm (List.getD ks (Int.toNat (i:Int)) []) 3) (fun y=>∀I,Q6 I=0->Qs I [32]=s->∃hr:i<I.1.length,y=(I.1[i],true)):=by
     obtain⟨y,h4,_⟩:=Qhc (List.getD ks (Int.toNat (i:Int)) []) 3 (by rw[hg];unfold BIG;omega)
     refine⟨y,h4,fun I J U=>?_⟩
     have hm:=hcm I J U
     have hr:i<I.1.length:=by rw[hm] at hlt;simpa using hlt
     have ho:=(Ye J).keys _ (aLl hr)
     have e:ks[i]=Lib.itoa I.1[i]:=by rw[List.getElem_of_eq hm hlt];simp
     rw[hg,e] at h4;have:=Qfg (k:=I.1[i]) (by omega) (by omega) 3 (il _ 3 (by omega) (by omega) (by omega))
     have h4':Qm (Lib.itoa I.1[i]) ((3:Nat):Int)=some y:=h4
     rw[this] at h4';exact⟨hr,(Option.some.inj h4').symm⟩
    refine Y.bind yk (fun y hy=>?_)
    refine Y.bind (Q:=fun j=>∀I,Q6 I=0->Qs I [32]=s->j=true) ?_ (fun j hj=>?_)
    ·refine Y.bif (fun h5=>Y.some (fun I J U=>by obtain⟨_,e⟩:=hy I J U;rw[e])) (fun h5=>Y.some (fun I J U=>?_))
     have:=(hcomp I J U).1
     rw[this] at h5;cases h5
    ·refine Y.grd (Qfp _ _ (by show acc.length<_;omega)) (Y.some ?_)
     refine⟨ks.length - (i+1),by omega,i+1,wsucc hlt (by unfold BIG;omega),by omega,rfl,by show (List.append acc [y.1]).length=_;simp[hac],fun I J U=>⟨hj I J U,?_⟩⟩
     obtain⟨hr,e⟩:=hy I J U;have hc2:=(hcomp I J U).2
     simp only[aLe] at hc2;show (List.append acc [y.1],nd,af)=_
     rw[e,hc2.1,hc2.2.1,hc2.2.2,List.take_add_one,aLf hr];rfl
   ·have hge:i=ks.length:=by simp at h1;omega
    obtain⟨c1,c2⟩:=hcomp I J U;have hkl:ks.length=I.1.length:=by rw[hcm I J U];simp
    show (ok,acc,nd,af)=_
    have c1:ok=true:=c1
    have c2:(acc,nd,af)=(I.1.take i,I.2.1,0):=c2
    rw[c1,c2,hge,hkl,List.take_length]
  ·obtain⟨hx1,hx2⟩:=hx
   refine Y.bind (Q:=fun (z:Bool×TRu)=>z.2.1.length<=s.length+1/\∀I,Q6 I=0->Qs I [32]=s->z=(true,I)) ?_ (fun z hz=>?_)
   ·refine Y.bif (fun h5=>?_) (fun h5=>?_)
    ·have h5:(cuts 32 s).length=5:=by simp at h5;omega
     refine Y.grd (hin 4 (by omega)) (Y.bind (yn 4 3) (fun y hy=>?_))
     have wd:∀I,Q6 I=0->Qs I [32]=s->I.2.2 ≠ 0/\cuts 32 s=[Lib.itoa I.2.1,[111,102],Zc I.1 [44],[97,102,116,101,114],Lib.itoa I.2.2]:=fun I J U=>by
      have hw:=YU J QdW U
      have hl:=QdN I
      rw[<-hw,h5] at hl;have hne:I.2.2 ≠ 0:=fun e=>by rw[if_pos e] at hl;omega
      refine⟨hne,?_⟩;rw[hw];unfold Qd5;rw[if_neg hne];rfl
     have hya:∀I,Q6 I=0->Qs I [32]=s->y=(I.2.2,true):=fun I J U=>by
      have ho:=(Ye J).after
      exact hy I.2.2 (by omega) (by omega) (by rw[(wd I J U).2];rfl) (il _ 3 (by omega) (by omega) (by omega))
     refine Y.bind (Q:=fun j=>∀I,Q6 I=0->Qs I [32]=s->j=true) ?_ (fun j hj=>Y.some ⟨hx1,fun I J U=>by rw[hj I J U,hx2 I J U,hya I J U]⟩)
     refine Y.bif (fun _=>Y.bif (fun _=>Y.grd (hin 3 (by omega)) (Y.bif (fun _=>Y.some (fun I J U=>?_)) (fun h6=>Y.some (fun I J U=>?_)))) (fun h6=>Y.some (fun I J U=>?_))) (fun h6=>Y.some (fun I J U=>?_))
     ·have ho:=(Ye J).after
      have:=(wd I J U).1
      rw[hya I J U];simp;omega
     ·rw[(wd I J U).2] at h6
      simp at h6
     ·rw[hya I J U] at h6;cases h6
     ·rw[hx2 I J U] at h6;cases h6
    ·have h3':(cuts 32 s).length=3:=by simp at h5;omega
     refine Y.some ⟨hx1,fun I J U=>?_⟩
     have hl:=QdN I
     rw[<-YU J QdW U,h3'] at hl;have hz:I.2.2=0:=by
      by_cases e:I.2.2=0
      ·exact e
      ·rw[if_neg e] at hl;omega
     rw[hx2 I J U,<-hz]
   ·obtain⟨hz1,hz2⟩:=hz
    refine Y.bind (Q:=fun (u:Bool×TRu)=>u.2.1.length<=s.length+1/\∀I,Q6 I=0->Qs I [32]=s->u=(true,I)) ?_ (fun u hu=>Y.some ⟨hu.1,fun I J U=>by rw[hu.2 I J U]⟩)
    refine Y.bif (fun _=>Y.eqb (Qev z.2 (by unfold BIG;omega)) (Y.some ⟨hz1,fun I J U=>by rw[hz2 I J U];simp[J]⟩)) (fun h6=>Y.some ⟨hz1,fun I J U=>?_⟩)
    rw[hz2 I J U] at h6;cases h6
end GL
end Go.Dx
set_option maxHeartbeats 2000000
namespace Go.Dx
namespace GL
abbrev TX:=Int×Int×List (Int×Int)×List TOut
theorem Qg2 (l:List (Int×Int)) (I:l.length<BIG) (x:Int×Int):QM l x=some (decide (x ∈ l)):=by
 unfold QM Z6;rw[Jm l (fun a=>decide (x=a)) _ (fun i h=>?_) (by simp only[dge,aLC]),aLc,ZD,any_eq]
 ·exact congrArg some (decide_eq_decide.2 Iff.rfl)
 ·simp only[dlt h,Qb l i h,Qa l i _ h,aLB,wsucc h I,Qhf]
  cases decide (x=l[i])<;>rfl
theorem QcM (l:List (Int×Int)) (I:l.length<BIG) (x:Int×Int):JD l x=some (decide (x ∈ l)):=by
 unfold JD;rw[Qg6 l (fun a=>decide (a=x)) _ (fun i h=>?_) (by simp only[dge,aLC]),any_eq']
 ·exact congrArg some (decide_eq_decide.2 Iff.rfl)
 ·simp only[dlt h,Qb l i h,Qa l i _ h,aLB,wsucc h I,Qhf]
  cases decide (l[i]=x)<;>rfl
def mRf (l:List (Int×Int)) (i:Nat) (r:Int×Int):Int:=if mRef r then (if r ∈ l.take i then 7 else 0) else 3
def mTxO (t:TX):Int:=if code (fun _ o=>mOut o) t.2.2.2=0 then (if t.1=1/\(List.getD t.2.2.2 0 (0,([],(0,0)))).1<100 then 8 else 0) else code (fun _ o=>mOut o) t.2.2.2
def mTxF (t:TX):Int:=if mIn t.1 0 2&&(decide (t.1=0) == decide (t.2.1=0)) then (if decide (t.1=0) || mIn t.2.1 1 999 then (if mIn (t.2.2.1.length:Int) 1 4&&mIn (t.2.2.2.length:Int) 1 4 then (if code (mRf t.2.2.1) t.2.2.1=0 then mTxO t else code (mRf t.2.2.1) t.2.2.1) else 2) else 3) else 1
structure bT (t:TX):Prop where
 ins:t.2.2.1.length<BIG
 outs:t.2.2.2.length<BIG
 keys:∀o,o ∈ t.2.2.2->o.2.1.length<BIG
theorem Qf0 (o:TOut) (I:o.2.1.length<BIG):Ys o=some (mOut o):=by
 unfold Ys mOut;rw[Ze,aLc,QfC _ I];cases mIn o.1 1 1000000<;>rfl
theorem Qm5 (n:Int):Jo n=some (!mIn n 1 4):=by
 unfold Jo;have I:(decide (n<1) || decide (4<n)) = !mIn n 1 4:=by
  unfold mIn;rw[Bool.eq_iff_iff];simp;try omega
 rw[<-I];cases decide (n<1)<;>rfl
theorem QoE (t:TX) (h:0<t.2.2.2.length):((bif decide (t.1=1) then bif inB 0 t.2.2.2 then some (decide ((List.getD t.2.2.2 (Int.toNat 0) (0,([],(0,0)))).1<100)) else none else some false:Option Bool).bind fun j=>bif j then some (8:Int) else some 0)=some (if t.1=1/\(List.getD t.2.2.2 0 (0,([],(0,0)))).1<100 then 8 else 0):=by
 by_cases h1:t.1=1
 ·rw[aLE h1,aLB,ZB (by omega) (by omega),aLB,aLc]
  show (bif decide ((List.getD t.2.2.2 0 (0,([],(0,0)))).1<100) then some (8:Int) else some 0)=_
  by_cases I:(List.getD t.2.2.2 0 (0,([],(0,0)))).1<100
  ·rw[aLE I,if_pos ⟨h1,I⟩];rfl
  ·rw[aLD I,if_neg (fun h=>I h.2)];rfl
 ·rw[aLD h1,if_neg (fun h=>h1 h.1)];rfl
theorem QhD (t:TX) (hb:bT t) (h:0<t.2.2.2.length):QdC t=some (mTxO t):=by
 unfold QdC mTxO;rw[Qab t.2.2.2 (fun _ o=>mOut o) _ (fun i h=>?_) (by simp only[dge,aLC]),QoE t h]
 ·split<;>rfl
 ·have hk:=hb.keys _ (aLl h)
  simp only[dlt h,Qb _ i h,Qa _ i _ h,aLB,Zj,Qev _ hk,aLc,wsucc h hb.outs];unfold mOut;cases mIn t.2.2.2[i].1 1 1000000
  ·rfl
  ·by_cases I:Q6 t.2.2.2[i].2=0
   ·rw[aLE I];simp[I]
   ·rw[aLD I];simp[I]
theorem Qcz (t:TX) (hb:bT t):YH t=some (mTxF t):=by
 unfold YH mTxF;simp only[Zj,Qef,aLc,beqB];cases h1:mIn t.1 0 2
 ·rfl
 ·simp only[Bool.not_true,aLC,aLc,Bool.true_and]
  by_cases I:decide (t.1=0)=decide (t.2.1=0)
  ·rw[aLE I,beq_iff_eq.2 I,if_pos rfl]
   simp only[Bool.not_true,aLC];by_cases U:t.1=0;all_goals skip
   ·rw[aLE U]
    simp only[Bool.not_true,aLC,aLc,Bool.true_or,if_true];cases h4:mIn (t.2.2.1.length:Int) 1 4<;>cases J:mIn (t.2.2.2.length:Int) 1 4<;>try rfl
    simp only[Bool.not_true,aLC,aLc,Bool.true_and,if_true];rw[QJ] at J;rw[Qab t.2.2.1 (mRf t.2.2.1) _ (fun i h=>?_) (by simp only[dge,aLC]),QhD t hb (by omega)]
    ·split<;>rfl
    ·simp only[dlt h,Qb _ i h,Qa _ i _ h,ZN _ i (Nat.le_of_lt h),Jd,aLB,QfL,aLc,wsucc h hb.ins,QcM _ (YR hb.ins i)]
     unfold mRf;cases mRef t.2.2.1[i]<;>by_cases hm:t.2.2.1[i] ∈ t.2.2.1.take i<;>simp[hm]
   ·rw[aLD U]
    simp only[Bool.not_false,aLB,aLc,Bool.false_or];cases h6:mIn t.2.1 1 999<;>try rfl
    simp only[Bool.not_true,aLC,aLc,if_true];cases h4:mIn (t.2.2.1.length:Int) 1 4<;>cases J:mIn (t.2.2.2.length:Int) 1 4<;>try rfl
    simp only[Bool.not_true,aLC,aLc,Bool.true_and,if_true];rw[QJ] at J;rw[Qab t.2.2.1 (mRf t.2.2.1) _ (fun i h=>?_) (by simp only[dge,aLC]),QhD t hb (by omega)]
    ·split<;>rfl
    ·simp only[dlt h,Qb _ i h,Qa _ i _ h,ZN _ i (Nat.le_of_lt h),Jd,aLB,QfL,aLc,wsucc h hb.ins,QcM _ (YR hb.ins i)]
     unfold mRf;cases mRef t.2.2.1[i]<;>by_cases hm:t.2.2.1[i] ∈ t.2.2.1.take i<;>simp[hm]
  ·rw[aLD I,beq_eq_false_iff_ne.2 I]
   rfl
theorem Qkv (t:TX) (hb:bT t):QcP t=some (mTxF t):=by
 unfold QcP mTxF;simp only[Ze,Qd4,Qm5,aLc,beqB];cases h1:mIn t.1 0 2
 ·rfl
 ·simp only[Bool.not_true,aLC,aLc,Bool.true_and]
  by_cases h2:decide (t.1=0)=decide (t.2.1=0)
  ·have h20:decide (t.2.1=0)=decide (t.1=0):=h2.symm
   rw[aLE h2,beq_iff_eq.2 h2,if_pos rfl,h20];simp only[Bool.not_true,aLC];have rest:∀(hx:(decide (t.1=0) || mIn t.2.1 1 999)=true),((bif !mIn (t.2.2.1.length:Int) 1 4 then some true else (some (!mIn (t.2.2.2.length:Int) 1 4):Option Bool).bind fun y39=>some y39).bind fun j40=>bif j40 then some 2 else
     (Qc (S:=Int) (X:=(Unit)⊕(Int)) (fun (J:Int)=>
 bif (decide ((J:Int)<(List.length t.2.2.1:Int))) then
 bif (inB J t.2.2.1) then
 (Qca (List.getD t.2.2.1 (Int.toNat J) (0,0))).bind fun (y46:Bool)=>
 bif (!y46) then
 some (Sum.inr (Sum.inr 3))
 else
 bif (QO 0 J t.2.2.1) then
 (QM (cut 0 J t.2.2.1) (List.getD t.2.2.1 (Int.toNat J) (0,0))).bind fun (y47:Bool)=>
 bif y47 then
 some (Sum.inr (Sum.inr 7))
 else
 some (Sum.inl (IntKind.wrap .i64 (J+1)))
 else none
 else none
 else
 some (Sum.inr (Sum.inl ()))) 0).bind fun (j48:(Unit)⊕(Int))=>
 Sum.elim (fun (j49:Unit)=>
 (Qc (S:=Int) (X:=(Unit)⊕(Int)) (fun (I:Int)=>
 bif (decide ((I:Int)<(List.length t.2.2.2:Int))) then
 bif (inB I t.2.2.2) then
 (Ys (List.getD t.2.2.2 (Int.toNat I) (0,([],(0,0))))).bind fun (U:Int)=>
 bif (!decide ((U:Int)=0)) then
 some (Sum.inr (Sum.inr U))
 else
 some (Sum.inl (IntKind.wrap .i64 (I+1)))
 else none
 else
 some (Sum.inr (Sum.inl ()))) 0).bind fun (j55:(Unit)⊕(Int))=>
 Sum.elim (fun (j56:Unit)=>
 (bif (decide ((t.1:Int)=1)) then
 bif (inB 0 t.2.2.2) then
 some (decide (((List.getD t.2.2.2 (Int.toNat 0) (0,([],(0,0)))).1:Int)<100))
 else none
 else
 some false:Option (Bool)).bind fun (j58:Bool)=>
 bif j58 then
 some 8
 else
 some 0) (fun (j57:Int)=>
 some j57) j55) (fun (j50:Int)=>
 some j50) j48:Option Int)=some (if mIn (t.2.2.1.length:Int) 1 4&&mIn (t.2.2.2.length:Int) 1 4 then (if code (mRf t.2.2.1) t.2.2.1=0 then mTxO t else code (mRf t.2.2.1) t.2.2.1) else 2):=fun hx=>by
    cases h4:mIn (t.2.2.1.length:Int) 1 4<;>cases h5:mIn (t.2.2.2.length:Int) 1 4<;>try rfl
    simp only[Bool.not_true,aLC,aLc,Bool.true_and,if_true];rw[QJ] at h5;rw[Qab t.2.2.1 (mRf t.2.2.1) _ (fun i h=>?_) (by simp only[dge,aLC])]
    ·have ho:(Qc (S:=Int) (X:=(Unit)⊕(Int)) (fun (I:Int)=>
 bif (decide ((I:Int)<(List.length t.2.2.2:Int))) then
 bif (inB I t.2.2.2) then
 (Ys (List.getD t.2.2.2 (Int.toNat I) (0,([],(0,0))))).bind fun (U:Int)=>
 bif (!decide ((U:Int)=0)) then
 some (Sum.inr (Sum.inr U))
 else
 some (Sum.inl (IntKind.wrap .i64 (I+1)))
 else none
 else
 some (Sum.inr (Sum.inl ()))) 0).bind (fun (j55:(Unit)⊕(Int))=>
 Sum.elim (fun (j56:Unit)=>
 (bif (decide ((t.1:Int)=1)) then
 bif (inB 0 t.2.2.2) then
 some (decide (((List.getD t.2.2.2 (Int.toNat 0) (0,([],(0,0)))).1:Int)<100))
 else none
 else
 some false:Option (Bool)).bind fun (j58:Bool)=>
 bif j58 then
 some 8
 else
 some 0) (fun (j57:Int)=>
 some j57) j55)=some (mTxO t):=by
      unfold mTxO;rw[Qab t.2.2.2 (fun _ o=>mOut o) _ (fun i h=>?_) (by simp only[dge,aLC]),QoE t (by omega)]
      ·split<;>rfl
      ·have hk:=hb.keys _ (aLl h)
       simp only[dlt h,Qb _ i h,Qa _ i _ h,aLB,Qf0 _ hk,aLc,wsucc h hb.outs];by_cases h3:mOut t.2.2.2[i]=0
       ·rw[aLE h3];simp[h3]
       ·rw[aLD h3];simp[h3]
     rw[ho];split<;>rfl
    ·simp only[dlt h,Qb _ i h,Qa _ i _ h,ZN _ i (Nat.le_of_lt h),Jd,aLB,Qnd,aLc,wsucc h hb.ins,Qg2 _ (YR hb.ins i)]
     unfold mRf;cases mRef t.2.2.1[i]<;>by_cases hm:t.2.2.1[i] ∈ t.2.2.1.take i<;>simp[hm]
   cases h3:decide (t.1=0) with
   | true=>
    simp only[Bool.not_true,aLC,aLc,Bool.true_or,if_true];exact rest (by rw[h3];rfl)
   | false=>
    simp only[Bool.not_false,aLB,aLc,Bool.false_or];cases h6:mIn t.2.1 1 999
    ·rfl
    ·simp only[Bool.not_true,aLC,aLc,if_true]
     exact rest (by rw[h3,h6];rfl)
  ·rw[aLD h2,beq_eq_false_iff_ne.2 h2]
   rfl
end GL
end Go.Dx
set_option maxHeartbeats 2000000
namespace Go.Dx
namespace GL
structure okT (t:TX):Prop where
 kind:0<=t.1/\t.1<=2
 mem:(t.1=0/\t.2.1=0)\/(t.1 ≠ 0/\1<=t.2.1/\t.2.1<=999)
 li:1<=t.2.2.1.length/\t.2.2.1.length<=4
 lo:1<=t.2.2.2.length/\t.2.2.2.length<=4
 ref:∀r,r ∈ t.2.2.1->mRef r=true
 nd:t.2.2.1.Nodup
 out:∀o,o ∈ t.2.2.2->(1<=o.1/\o.1<=1000000)/\Q6 o.2=0
theorem Qar {r:Int×Int}:mRef r=true↔(1<=r.1/\r.1<=60)/\(0<=r.2/\r.2<=3):=by
 unfold mRef;rw[aLg,QJ,QJ]
theorem Qrk {α:Type} [DecidableEq α] (l:List α) (h:∀i (hi:i<l.length),l[i] ∉ l.take i):l.Nodup:=by
 rw[List.nodup_iff_pairwise_ne,List.pairwise_iff_getElem];intro i j hi hj I he;refine h j hj ?_;rw[List.mem_take_iff_getElem];exact⟨i,by omega,he⟩
theorem Qae {t:TX} (h:mTxF t=0):okT t:=by
 unfold mTxF at h;cases h1:mIn t.1 0 2&&(decide (t.1=0) == decide (t.2.1=0)) with
 | false=>rw[h1] at h;simp at h
 | true=>
  rw[h1,if_pos rfl] at h;cases U:(decide (t.1=0) || mIn t.2.1 1 999) with
  | false=>rw[U] at h;simp at h
  | true=>
   rw[U,if_pos rfl] at h;cases h3:(mIn (t.2.2.1.length:Int) 1 4&&mIn (t.2.2.2.length:Int) 1 4) with
   | false=>rw[h3] at h;simp at h
   | true=>
    rw[h3,if_pos rfl] at h;by_cases h4:code (mRf t.2.2.1) t.2.2.1=0
    ·rw[if_pos h4] at h
     unfold mTxO at h;by_cases h5:code (fun _ o=>mOut o) t.2.2.2=0
     ·rw[aLg,QJ,beq_iff_eq] at h1
      rw[aLg,QJ,QJ] at h3;have hr:∀i (hi:i<t.2.2.1.length),mRef t.2.2.1[i]=true/\t.2.2.1[i] ∉ t.2.2.1.take i:=fun i hi=>by
       have I:=Yg h4 i _ (aLf hi)
       unfold mRf at I;cases J:mRef t.2.2.1[i] with
       | false=>rw[J] at I;simp at I
       | true=>
        rw[J,if_pos rfl] at I;exact⟨rfl,fun hm=>by rw[if_pos hm] at I;cases I⟩
      refine⟨h1.1,?_,by omega,by omega,fun r hr'=>?_,Qrk _ fun i hi=>(hr i hi).2,fun o ho=>?_⟩
      ·by_cases h0:t.1=0
       ·left
        have:=h1.2
        rw[aLE h0] at this;exact⟨h0,aLG this.symm⟩
       ·right
        rw[aLD h0,Bool.false_or,QJ] at U;exact⟨h0,U⟩
      ·obtain⟨i,hi,rfl⟩:=List.mem_iff_getElem.1 hr'
       exact (hr i hi).1
      ·obtain⟨i,hi,rfl⟩:=List.mem_iff_getElem.1 ho
       have I:=Yg h5 i _ (aLf hi)
       unfold mOut at I;cases J:mIn t.2.2.2[i].1 1 1000000 with
       | false=>rw[J] at I;simp at I
       | true=>
        rw[J,if_pos rfl] at I;exact⟨QJ.1 J,I⟩
     ·rw[if_neg h5] at h;exact absurd h h5
    ·rw[if_neg h4] at h;exact absurd h h4
theorem okT.b {t:TX} (h:okT t):bT t:=by
 have I:BIG=4611686018427387904:=rfl
 refine⟨by have:=h.li;omega,by have:=h.lo;omega,fun o ho=>?_⟩
 have:=(Ye (h.out o ho).2).len
 omega
def kw (k:Int):List UInt8:=if k=0 then [112,97,121] else if k=1 then [106,111,105,110] else [108,101,97,118,101]
def wRef (r:Int×Int):List UInt8:=Lib.itoa r.1++[58]++Lib.itoa r.2
def wOut (o:TOut):List UInt8:=Lib.itoa o.1++[61]++Qs o.2 [95]
def wTx (t:TX):List (List UInt8):=[kw t.1]++(if t.1=0 then [] else [Lib.itoa t.2.1])++[Lib.join (t.2.2.1.map wRef) [43]]++t.2.2.2.map wOut
def Qo (t:TX):List UInt8:=Lib.join (wTx t) [32]
theorem Qgx (c:UInt8) (B:Nat):∀ws:List (List UInt8),(∀w,w ∈ ws->w.length<=B)->(Lib.join ws [c]).length<=(B+1) * ws.length
 | [],_=>by simp[Lib.join_nil]
 | [x],h=>by rw[Lib.join_one];have:=h x aLm;simp;omega
 | x::y::r,h=>by
  have h1:=h x aLm
  have I:=Qgx c B (y::r) fun w hw=>h w (aLp _ hw)
  rw[Qas,aLi,aLh];have e:(B+1) * (x::y::r).length=(B+1) * (y::r).length+(B+1):=by rw[aLh,Nat.mul_succ]
  omega
theorem QnA {r:Int×Int} (h:mRef r=true):(wRef r).length<=40:=by
 rw[Qar] at h;have h1:=Q1 (n:=r.1) (by omega) (by omega)
 have I:=Q1 (n:=r.2) (by omega) (by omega)
 unfold wRef;simp only[aLi,aLh,aLj];omega
theorem QmX {o:TOut} (h:(1<=o.1/\o.1<=1000000)/\Q6 o.2=0):(wOut o).length<=140:=by
 have h1:=Q1 (n:=o.1) (by omega) (by omega)
 have I:=Qck h.2 95
 unfold wOut;simp only[aLi,aLh,aLj];omega
theorem Qjr {t:TX} (h:okT t):(Lib.join (t.2.2.1.map wRef) [43]).length<=164:=by
 have:=Qgx 43 40 (t.2.2.1.map wRef) fun w hw=>by
  obtain⟨r,I,rfl⟩:=List.mem_map.1 hw;exact QnA (h.ref r I)
 rw[List.length_map] at this;have:=h.li
 omega
theorem Qq3 (k:Int):(kw k).length<=5:=by
 unfold kw;split
 ·simp
 ·split<;>simp
theorem QkG {t:TX} (h:okT t):(∀w,w ∈ wTx t->w.length<=164)/\(wTx t).length<=7:=by
 refine⟨fun w hw=>?_,?_⟩
 ·unfold wTx at hw
  simp only[List.mem_append,aLs] at hw;rcases hw with ((rfl | hw) | rfl) | hw
  ·have:=Qq3 t.1;omega
  ·split at hw
   ·simp at hw
   ·rw[aLs] at hw;subst hw
    have:=h.mem
    have:=Q1 (n:=t.2.1) (by omega) (by omega)
    omega
  ·exact Qjr h
  ·obtain⟨o,ho,rfl⟩:=List.mem_map.1 hw
   have:=QmX (h.out o ho);omega
 ·unfold wTx
  have:=h.lo
  split<;>simp<;>omega
theorem Qqt {t:TX} (h:okT t):(Qo t).length<=1155:=by
 have:=Qgx 32 164 (wTx t) (QkG h).1
 have:=(QkG h).2
 unfold Qo;omega
theorem QhI {t:TX} (h:okT t):Qbz t=some (if (Qo t).length<=300 then (Qo t,0) else ([],2)):=by
 have hk:=h.kind
 have hm:=h.mem
 have hli:=h.li
 have hlo:=h.lo
 have hB:BIG=4611686018427387904:=rfl
 have hL:LIM=1073741824:=rfl
 have hrl:=Qjr h
 have U:=Qqt h
 unfold Qbz JV;rw[aLc,ZB (by omega) (by show t.1<((3:Nat):Int);omega),aLB]
 have hkw:List.getD ([[112,97,121],[106,111,105,110],[108,101,97,118,101]]:List (List UInt8)) (Int.toNat t.1) []=kw t.1:=by
  have:t.1=0\/t.1=1\/t.1=2:=by omega
  rcases this with e | e | e<;>rw[e]<;>rfl
 simp only[hkw];have e1:(bif !decide (t.1=0) then (Yo t.2.1).bind fun (I:List UInt8)=>bif decide (List.length ([kw t.1]:List (List UInt8))+List.length ([I]:List (List UInt8))<=LIM) then some (List.append ([kw t.1]:List (List UInt8)) ([I]:List (List UInt8))) else none else some ([kw t.1]:List (List UInt8)))=some ([kw t.1]++(if t.1=0 then [] else [Lib.itoa t.2.1])):=by
  by_cases J:t.1=0
  ·rw[aLE J,if_pos J];rfl
  ·rw[aLD J,if_neg J,Qba (by omega) (by omega),aLc,Qp (by simp;omega)];rfl
 rw[e1,aLc];rw[ZE (σ:=List (List UInt8)) t.2.2.1 (fun acc a=>acc++[wRef a]) (fun t i=>(t,i)) (fun t=>t) (fun t i=>t.length=i) _ (fun i hi x hx=>by
   have hr:=Qar.1 (h.ref _ (aLl hi))
   have l1:=Q1 (n:=t.2.2.1[i].1) (by omega) (by omega)
   have l2:=Q1 (n:=t.2.2.1[i].2) (by omega) (by omega)
   refine⟨?_,by simp[hx]⟩
   simp only[dlt hi,Qb _ i hi,Qa _ i _ hi,aLB,Qba (n:=t.2.2.1[i].1) (by omega) (by omega),Qba (n:=t.2.2.1[i].2) (by omega) (by omega),aLc,wsucc hi (by omega),aLo]
   rw[Qp,Qp,Qp]
   ·rfl
   all_goals ((try simp only[aLi,aLh,aLj]);omega)) (fun t ht=>by simp only[dge,aLC]) [] rfl,aLc,foldl_map,aLx]
 have hj1:ZQ (t.2.2.1.map wRef) [43]=some (Lib.join (t.2.2.1.map wRef) [43]):=by
  unfold ZQ;exact Qjo _ _ (by rw[List.length_map];omega) (by omega)
 rw[hj1,aLc,Qp (by split<;>simp<;>omega)]
 rw[ZE (σ:=List (List UInt8)) t.2.2.2 (fun acc a=>acc++[wOut a]) (fun t i=>(t,i)) (fun t=>t) (fun t i=>t.length<=3+i) _ (fun i hi x hx=>by
   have ho:=h.out _ (aLl hi)
   have l1:=Q1 (n:=t.2.2.2[i].1) (by omega) (by omega)
   have l2:=Qck ho.2 95
   refine⟨?_,by simp;omega⟩
   simp only[dlt hi,Qb _ i hi,Qa _ i _ hi,aLB,Qba (n:=t.2.2.2[i].1) (by omega) (by omega),Qge (Ye ho.2) [95] (by simp),aLc,wsucc hi (by omega),aLo]
   rw[Qp,Qp,Qp]
   ·rfl
   all_goals ((try simp only[aLi,aLh,aLj]);omega)) (fun t ht=>by simp only[dge,aLC]) _ (by split<;>simp),aLc,foldl_map]
 have hw:List.append ([kw t.1]++(if t.1=0 then [] else [Lib.itoa t.2.1])) [Lib.join (t.2.2.1.map wRef) [43]]++t.2.2.2.map wOut=wTx t:=rfl
 rw[hw];have hj2:ZQ (wTx t) [32]=some (Qo t):=by
  unfold ZQ;have:=(QkG h).2
  exact Qjo _ _ (by omega) (by unfold Qo at U;omega)
 rw[hj2,aLc];by_cases hlen:(Qo t).length<=300
 ·rw[aLD (by omega),if_pos hlen];rfl
 ·rw[aLE (by omega),if_neg hlen];rfl
theorem Qij (x:List UInt8) (ws:List (List UInt8)) (c:UInt8):Lib.join (x::ws) [c]=x++(ws.map fun w=>c::w).flatten:=by
 rw[Lib.join_cons,Lib.joinTail];rfl
theorem Qls {α:Type} (l:List α) (g:α->List UInt8) (f:List UInt8×Int->Option ((List UInt8×Int)⊕List UInt8)) (B:Nat->Nat) (j:Nat)
  (U:∀(i:Nat) (h:i<l.length) (acc:List UInt8),j<=i->acc.length<=B i->f (acc,(i:Int))=some (.inl (acc++g l[i],((i+1:Nat):Int)))/\(acc++g l[i]).length<=B (i+1))
  (he:∀acc,f (acc,(l.length:Int))=some (.inr acc)):∀(k i:Nat) (acc:List UInt8),i+k=l.length->j<=i->acc.length<=B i->Qc f (acc,(i:Int))=some (acc++((l.drop i).map g).flatten)
 | 0,i,acc,hi,_,_=>by
  obtain rfl:i=l.length:=by omega
  rw[Qg (he acc)];simp
 | k+1,i,acc,hi,hj,ha=>by
  have h1:i<l.length:=by omega
  obtain⟨I,J⟩:=U i h1 acc hj ha;rw[Qv I,Qls l g f B j U he k (i+1) _ (by omega) (by omega) J,aLr h1,List.map_cons,List.flatten_cons,List.append_assoc]
theorem Qq0 (l:List (Int×Int)) (f:List UInt8×Int->Option ((List UInt8×Int)⊕List UInt8)) (acc:List UInt8) (ha:acc.length<=100) (J:1<=l.length/\l.length<=4) (hb:∀r,r ∈ l->(wRef r).length<=40)
  (U:∀(i:Nat) (h:i<l.length) (acc:List UInt8),acc.length<=10000->f (acc,(i:Int))=some (.inl (acc++((if i=0 then 32 else 43)::wRef l[i]),((i+1:Nat):Int))))
  (he:∀acc,f (acc,(l.length:Int))=some (.inr acc)):Qc f (acc,0)=some (acc++32::Lib.join (l.map wRef) [43]):=by
 cases l with
 | nil=>simp at J
 | cons r l=>
  have I:=U 0 (by simp) acc (by omega)
  rw[if_pos rfl] at I;have I:f (acc,0)=some (.inl (acc++32::wRef r,((1:Nat):Int))):=I
  have hr:=hb r aLm
  rw[Qv I,Qls (r::l) (fun a=>43::wRef a) f (fun i=>200+50 * i) 1 (fun i hi a hj hale=>by
   have h2:=U i hi a (by simp at hi J;omega)
   rw[if_neg (by omega)] at h2
   have:=hb _ (aLl hi)
   exact⟨h2,by rw[aLi,aLh];omega⟩) he l.length 1 _ (by simp;omega) (by omega) (by rw[aLi,aLh];omega)]
  rw[List.map_cons,Qij,List.map_map];simp[Function.comp_def]
theorem QhM {t:TX} (h:okT t):Qbo t=some (Qo t):=by
 have hk:=h.kind
 have hm:=h.mem
 have hli:=h.li
 have hlo:=h.lo
 have hB:BIG=4611686018427387904:=rfl
 have hL:LIM=1073741824:=rfl
 have hrl:=Qjr h
 unfold Qbo;rw[ZB (by omega) (by show t.1<((3:Nat):Int);omega),aLB]
 obtain⟨hd,U⟩:∃hd,hd=if t.1=0 then kw t.1 else kw t.1++32::Lib.itoa t.2.1:=⟨_,rfl⟩
 have hdl:hd.length<=100:=by
  have h1:=Qq3 t.1
  rw[U];split
  ·omega
  ·have:=Q1 (n:=t.2.1) (by omega) (by omega)
   rw[aLi,aLh];omega
 have e1:(bif !decide (t.1=0) then (Q4 t.2.1).bind fun (y26:List UInt8)=>
   bif decide (List.length (List.getD ([[112,97,121],[106,111,105,110,32],[108,101,97,118,101,32]]:List (List UInt8)) (Int.toNat t.1) [])+List.length y26<=LIM) then
   some (List.append (List.getD ([[112,97,121],[106,111,105,110,32],[108,101,97,118,101,32]]:List (List UInt8)) (Int.toNat t.1) []) y26)
   else none
   else some (List.getD ([[112,97,121],[106,111,105,110,32],[108,101,97,118,101,32]]:List (List UInt8)) (Int.toNat t.1) []))=some hd:=by
  rw[U];have:t.1=0\/t.1=1\/t.1=2:=by omega
  rcases this with e | e | e
  ·rw[e];rfl
  all_goals
   rw[ZY (by omega) (by omega),aLc,if_neg (by omega),aLD (by omega),Bool.not_false,aLB]
   have:=Q1 (n:=t.2.1) (by omega) (by omega)
   rw[e,Qp (by simp;omega)]
   simp[kw]
 rw[e1,aLc];rw[Qq0 t.2.2.1 _ hd hdl hli (fun r hr=>QnA (h.ref r hr)) (fun i hi acc ha=>by
   have hr:=Qar.1 (h.ref _ (aLl hi))
   have l1:=Q1 (n:=t.2.2.1[i].1) (by omega) (by omega)
   have l2:=Q1 (n:=t.2.2.1[i].2) (by omega) (by omega)
   simp only[dlt hi,Qb _ i hi,Qa _ i _ hi,aLB,ZY (n:=t.2.2.1[i].1) (by omega) (by omega),ZY (n:=t.2.2.1[i].2) (by omega) (by omega),aLc,wsucc hi (by omega),aLo]
   have es:(bif decide ((i:Int)=0) then some [32] else some [43]:Option (List UInt8))=some [if i=0 then 32 else 43]:=by
    by_cases h0:i=0
    ·rw[if_pos h0,aLE (by omega)];rfl
    ·rw[if_neg h0,aLD (by omega)];rfl
   rw[es,aLc,Qp,Qp,Qp,Qp]
   ·unfold wRef;simp
   all_goals ((try simp only[aLi,aLh,aLj]);omega)) (fun acc=>by simp only[dge,aLC]),aLc]
 have:=Qje t.2.2.2 (fun o=>32::wOut o) (fun (I:List UInt8×Int)=>
 bif (decide ((I.2:Int)<(List.length t.2.2.2:Int))) then
 bif decide (List.length I.1+List.length [32]<=LIM) then
 bif (inB I.2 t.2.2.2) then
 (Q4 (List.getD t.2.2.2 (Int.toNat I.2) (0,([],(0,0)))).1).bind fun (J:List UInt8)=>
 bif decide (List.length (List.append I.1 [32])+List.length J<=LIM) then
 bif decide (List.length (List.append (List.append I.1 [32]) J)+List.length [61]<=LIM) then
 bif (inB I.2 t.2.2.2) then
 (Qbu (List.getD t.2.2.2 (Int.toNat I.2) (0,([],(0,0)))).2).bind fun (y46:List UInt8)=>
 (Jf y46 32 95).bind fun (y47:List UInt8)=>
 bif decide (List.length (List.append (List.append (List.append I.1 [32]) J) [61])+List.length y47<=LIM) then
 some (Sum.inl (List.append (List.append (List.append (List.append I.1 [32]) J) [61]) y47,IntKind.wrap .i64 (I.2+1)))
 else none
 else none
 else none
 else none
 else none
 else none
 else
 some (Sum.inr I.1)) (fun i=>400+200 * i) (fun i hi acc ha=>by
   have ho:=h.out _ (aLl hi)
   have l1:=Q1 (n:=t.2.2.2[i].1) (by omega) (by omega)
   have l2:=Qck ho.2 95
   have l4:=Qck ho.2 32
   have l3:=QmX ho
   refine⟨?_,by rw[aLi,aLh];omega⟩
   have hsw:Jf (Qs t.2.2.2[i].2 [32]) 32 95=some (Qs t.2.2.2[i].2 [95]):=by
    have:=Qqk (Qs t.2.2.2[i].2 [32]) 32 95 (by omega)
    rw[Qnk (Ye ho.2) QdW] at this;exact this
   simp only[dlt hi,Qb _ i hi,Qa _ i _ hi,aLB,ZY (n:=t.2.2.2[i].1) (by omega) (by omega),Qmi (Ye ho.2),hsw,aLc,wsucc hi (by omega),aLo]
   rw[Qp,Qp,Qp,Qp]
   ·unfold wOut;simp
   all_goals ((try simp only[aLi,aLh,aLj]);omega)) (fun acc=>by simp only[dge,aLC]) t.2.2.2.length 0 (hd++32::Lib.join (t.2.2.1.map wRef) [43]) (by omega) (by rw[aLi,aLh];omega)
 rw[show ((0:Nat):Int)=0 from rfl] at this
 rw[this,aLc,List.drop_zero];congr 1;unfold Qo wTx;rw[U];by_cases h0:t.1=0
 ·rw[if_pos h0,if_pos h0]
  simp only[List.append_nil,List.cons_append,aLx];rw[Qij,List.map_cons,List.flatten_cons,List.map_map];simp[Function.comp_def]
 ·rw[if_neg h0,if_neg h0]
  simp only[List.cons_append,aLx];rw[Qij,List.map_cons,List.map_cons,List.flatten_cons,List.flatten_cons,List.map_map];simp[Function.comp_def]
theorem QlU {t:TX} (h:mTxF t=0):Qdy t=some (if (Qo t).length<=300 then (0,Qo t) else (2,[])):=by
 unfold Qdy;rw[Qcz t (Qae h).b,aLc,h,QhM (Qae h)];simp only[decide_true,Bool.not_true,aLC,aLc];by_cases hlen:(Qo t).length<=300
 ·rw[aLD (by omega),if_pos hlen];rfl
 ·rw[aLE (by omega),if_neg hlen];rfl
end GL
end Go.Dx
set_option maxHeartbeats 2000000
namespace Go.Dx
namespace GL
theorem QoH (c:UInt8) (sep:UInt8) (I:c ≠ sep):∀ws:List (List UInt8),(∀w,w ∈ ws->c ∉ w)->c ∉ Lib.join ws [sep]
 | [],_=>by simp[Lib.join_nil]
 | [x],h=>by rw[Lib.join_one];exact h x aLm
 | x::y::r,h=>by
  rw[Qas,List.mem_append,List.mem_cons];rintro (h1 | h1 | h1)
  ·exact h x aLm h1
  ·exact I h1
  ·exact QoH c sep I (y::r) (fun w hw=>h w (aLp _ hw)) h1
theorem QkA {r:Int×Int} (h:mRef r=true) (c:UInt8) (J:c.toNat<48\/57<c.toNat) (I:c ≠ 58):c ∉ wRef r:=by
 rw[Qar] at h;unfold wRef;simp only[List.mem_append,aLs,not_or];exact⟨⟨ZR (by omega) c J,I⟩,ZR (by omega) c J⟩
theorem Qst:Blank 61:=⟨by decide,by decide,by decide⟩
theorem Qrb {o:TOut} (h:(1<=o.1/\o.1<=1000000)/\Q6 o.2=0):(32:UInt8) ∉ wOut o:=by
 unfold wOut;simp only[List.mem_append,aLs,not_or];exact⟨⟨ZR (by omega) 32 (by decide),by decide⟩,Qj5 (Ye h.2) QdW (by decide)⟩
theorem Qsv (k:Int):(32:UInt8) ∉ kw k:=by
 unfold kw;split
 ·decide
 ·split<;>decide
theorem Qtq {t:TX} (h:okT t):∀w,w ∈ wTx t->(32:UInt8) ∉ w:=by
 intro w hw;unfold wTx at hw;simp only[List.mem_append,aLs] at hw;rcases hw with ((rfl | hw) | rfl) | hw
 ·exact Qsv t.1
 ·split at hw
  ·simp at hw
  ·rw[aLs] at hw;subst hw
   have:=h.mem
   exact ZR (by omega) 32 (by decide)
 ·refine QoH 32 43 (by decide) _ fun w hw=>?_
  obtain⟨r,I,rfl⟩:=List.mem_map.1 hw;exact QkA (h.ref r I) 32 (by decide) (by decide)
 ·obtain⟨o,ho,rfl⟩:=List.mem_map.1 hw
  exact Qrb (h.out o ho)
theorem QoM {t:TX} (h:okT t):cuts 32 (Qo t)=wTx t:=Jy 32 _ (by unfold wTx;simp) (Qtq h)
theorem Qq8 {t:TX} (h:okT t):cuts 43 (Lib.join (t.2.2.1.map wRef) [43])=t.2.2.1.map wRef:=by
 refine Jy 43 _ (fun e=>?_) fun w hw=>?_
 ·have:=h.li
  rw[List.map_eq_nil_iff] at e;rw[e] at this;simp at this
 ·obtain⟨r,I,rfl⟩:=List.mem_map.1 hw
  exact QkA (h.ref r I) 43 (by decide) (by decide)
theorem QsK {r:Int×Int} (h:mRef r=true):Lib.cut (wRef r) [58]=(Lib.itoa r.1,Lib.itoa r.2,true):=by
 rw[Qar] at h;have:=Qos 58 (Lib.itoa r.1) (Lib.itoa r.2) (ZR (by omega) 58 (by decide))
 unfold wRef;simpa using this
theorem Qsd {r:Int×Int} (h:mRef r=true):cuts 58 (wRef r)=[Lib.itoa r.1,Lib.itoa r.2]:=by
 rw[Qar] at h;have:wRef r=Lib.join [Lib.itoa r.1,Lib.itoa r.2] [58]:=by rw[Qas,Lib.join_one];unfold wRef;simp
 rw[this];refine Jy 58 _ (by simp) fun w hw=>?_
 simp only[List.mem_cons,List.not_mem_nil,or_false] at hw;rcases hw with rfl | rfl
 ·exact ZR (by omega) 58 (by decide)
 ·exact ZR (by omega) 58 (by decide)
theorem QsZ {o:TOut} (h:(1<=o.1/\o.1<=1000000)/\Q6 o.2=0):Lib.cut (wOut o) [61]=(Lib.itoa o.1,Qs o.2 [95],true):=by
 have:=Qos 61 (Lib.itoa o.1) (Qs o.2 [95]) (ZR (by omega) 61 (by decide))
 unfold wOut;simpa using this
theorem QnK {o:TOut} (h:(1<=o.1/\o.1<=1000000)/\Q6 o.2=0):cuts 61 (wOut o)=[Lib.itoa o.1,Qs o.2 [95]]:=by
 have:wOut o=Lib.join [Lib.itoa o.1,Qs o.2 [95]] [61]:=by rw[Qas,Lib.join_one];unfold wOut;simp
 rw[this];refine Jy 61 _ (by simp) fun w hw=>?_
 simp only[List.mem_cons,List.not_mem_nil,or_false] at hw;rcases hw with rfl | rfl
 ·exact ZR (by omega) 61 (by decide)
 ·exact Qj5 (Ye h.2) Qst (by decide)
theorem Qsj (s:List UInt8) (c:UInt8) (h:s.length<=1000000):Qbn s [c]=some (Lib.cut s [c]):=by
 unfold Qbn;exact QsF _ (by omega)
theorem QoR (s sep:List UInt8):(Lib.cut s sep).1.length<=s.length/\(Lib.cut s sep).2.1.length<=s.length:=by
 unfold Lib.cut;split
 ·simp[aLn,aLz];omega
 ·simp
theorem Qi2 (l:List (List UInt8)) (I:l.length<BIG) (x:List UInt8):QG l x=some (idxF (fun a=>decide (x=a)) l):=by
 unfold QG;refine Jm l (fun a=>decide (x=a)) _ (fun i h=>?_) (by simp only[dge,aLC])
 simp only[dlt h,Qb l i h,Qa l i _ h,aLB,wsucc h I];cases decide (x=l[i])<;>rfl
theorem Qs7 (w:List UInt8):Y (QG [[112,97,121],[106,111,105,110],[108,101,97,118,101]] w) (fun k=>-1<=k/\k<=2/\∀j,0<=j->j<=2->w=kw j->k=j):=by
 refine⟨_,Qi2 _ (by decide) w,?_⟩
 unfold idxF;simp only[first]
 by_cases U:w=[112,97,121]
 ·subst U
  refine⟨by simp,by simp,fun j h1 J I=>?_⟩
  have:j=0\/j=1\/j=2:=by omega
  rcases this with rfl | rfl | rfl
  ·simp
  ·simp[kw] at I
  ·simp[kw] at I
 ·simp only[U,decide_false,Bool.false_eq_true,if_false]
  by_cases h1:w=[106,111,105,110]
  ·subst h1
   refine⟨by simp,by simp,fun j h1 J I=>?_⟩
   have:j=0\/j=1\/j=2:=by omega
   rcases this with rfl | rfl | rfl
   ·simp[kw] at I
   ·simp
   ·simp[kw] at I
  ·simp only[h1,decide_false,Bool.false_eq_true,if_false]
   by_cases J:w=[108,101,97,118,101]
   ·subst J
    refine⟨by simp,by simp,fun j h1 J I=>?_⟩
    have:j=0\/j=1\/j=2:=by omega
    rcases this with rfl | rfl | rfl
    ·simp[kw] at I
    ·simp[kw] at I
    ·simp
   ·simp only[J,decide_false,Bool.false_eq_true,if_false]
    refine⟨by simp,by simp,fun j I h4 h5=>?_⟩
    have:j=0\/j=1\/j=2:=by omega
    rcases this with rfl | rfl | rfl
    ·exact absurd h5 U
    ·exact absurd h5 h1
    ·exact absurd h5 J
def okO (o:TOut):Prop:=(1<=o.1/\o.1<=1000000)/\Q6 o.2=0
theorem QqX (s:List UInt8) (J:s.length<=1000):Y (Qcs s) (fun x=>x.1.2.1.length<=1001/\∀o,okO o->wOut o=s->x=(o,true)):=by
 unfold Qcs;have U:=QoR s [61]
 refine Y.eqb (Qsj s 61 (by omega)) (Y.bind (QpC _ 95 QoD (by omega)) (fun r I=>Y.eqb (YN _ (by omega)) (Y.some ⟨by have:=I.1;show r.1.1.length<=_;omega,fun o ho h=>?_⟩)))
 have e:=QsZ ho
 rw[h] at e;rw[e] at I ⊢;rw[I.2 o.2 ho.2 rfl];show ((numS (Lib.itoa o.1),o.2),true)=_
 rw[Qa2 (by have:=ho.1;omega) (by have:=ho.1;omega)]
def TxQ (s:List UInt8) (x:TX×Bool):Prop:=(x.2=true->mTxF x.1=0/\Qo x.1=s)/\∀I,mTxF I=0->Qo I=s->x=(I,true)
theorem drop1 {α:Type} (l:List α) (h:1<=l.length):List.take (Int.toNat ((List.length l:Int) - 1)) (List.drop (Int.toNat 1) l)=l.drop 1:=by
 rw[show Int.toNat 1=1 from rfl]
 exact List.take_of_length_le (by rw[aLz];omega)
theorem QmB {α:Type} (l:List α) (h:1<=l.length):QO 1 (List.length l:Int) l=true:=by
 unfold QO;simp;omega
theorem Qg1 (s:List UInt8) (c:UInt8) (d i:Nat):(List.getD ((cuts c s).drop d) i []).length<=s.length:=by
 rw[aLk,List.getElem?_drop];have:=Yh c s (d+i)
 rw[aLk] at this;exact this
theorem QrN (s:List UInt8) (hs:s.length<=300):Y (Qds s) (TxQ s):=by
 have hB:BIG=4611686018427387904:=rfl
 have hne:=QaP 32 s
 have hlen:=Jk 32 s
 have hpos:1<=(cuts 32 s).length:=by
  cases h:cuts 32 s with
  | nil=>exact absurd h hne
  | cons a l=>simp
 have hwd:∀I,mTxF I=0->Qo I=s->okT I/\cuts 32 s=wTx I:=fun I h1 J=>⟨Qae h1,by rw[<-J];exact QoM (Qae h1)⟩
 have hno:∀t:TX,(∀I,mTxF I=0->Qo I=s->False)->TxQ s (t,false):=fun t h=>⟨(fun h=>by cases h),fun I h1 J=>(h I h1 J).elim⟩
 unfold Qds JV;refine Y.eqb (Qfj s 32 (by omega)) (Y.eqb rfl (Y.grd (ZB (by omega) (by omega)) (Y.bind (Qs7 _) (fun k hk=>?_))))
 obtain⟨hk0,hk2,hkc⟩:=hk;have hkw:∀I,mTxF I=0->Qo I=s->k=I.1:=fun I h1 J=>by
  obtain⟨ho,hw⟩:=hwd I h1 J;refine hkc I.1 ho.kind.1 ho.kind.2 ?_;rw[hw];rfl
 refine Y.bind (Q:=fun j=>(j=false->0<=k)/\(j=true->k<0)) ?_ (fun j hj=>?_)
 ·refine Y.bif (fun h=>?_) (fun _=>Y.some ⟨(fun h=>?_),(fun h=>?_)⟩)
  ·simp at h;omega
  ·simp at h;omega
  ·simpa using h
 refine Y.bif (fun h=>Y.some (hno _ fun I h1 J=>?_)) (fun h=>?_)
 ·have:=hkw I h1 J
  have:=(hwd I h1 J).1.kind
  have:=hj.2 h
  omega
 have hk0:=hj.1 h
 rw[drop1 _ hpos];refine Y.grd (QmB _ hpos) ?_;have hdl:((cuts 32 s).drop 1).length=(cuts 32 s).length - 1:=aLz
 refine Y.bind (Q:=fun j=>(j=true↔(k ≠ 0/\1<=((cuts 32 s).drop 1).length))) ?_ (fun j hj=>?_)
 ·refine Y.bif (fun h=>Y.some ?_) (fun h=>Y.some ?_)
  ·simp at h ⊢;omega
  ·simp at h ⊢
   intro J;exact absurd h J
 refine Y.bind (Q:=fun (x:List (List UInt8)×TX)=>(∃d,x.1=(cuts 32 s).drop d)/\x.2.2.2=([],[])/\∀I,mTxF I=0->Qo I=s->x=(Lib.join (I.2.2.1.map wRef) [43]::I.2.2.2.map wOut,(I.1,I.2.1,[],[]))) ?_ (fun x hx=>?_)
 ·refine Y.bif (fun h=>?_) (fun h=>Y.some ⟨⟨1,rfl⟩,rfl,fun I h1 J=>?_⟩)
  ·obtain⟨hkn,h1l⟩:=hj.1 h
   refine Y.grd (ZB (by omega) (by omega)) (Y.eqb (YN _ (by have:=Qg1 s 32 1 0;show (List.getD ((cuts 32 s).drop 1) 0 []).length<=_;omega)) ?_)
   rw[drop1 _ h1l];refine Y.grd (QmB _ h1l) (Y.some ⟨⟨2,by rw[List.drop_drop]⟩,rfl,fun I h1 J=>?_⟩)
   obtain⟨ho,hw⟩:=hwd I h1 J;have hkk:=hkw I h1 J
   have hm:=ho.mem
   rw[hw];unfold wTx;rw[if_neg (by omega)]
   show (Lib.join (I.2.2.1.map wRef) [43]::I.2.2.2.map wOut,(k,numS (Lib.itoa I.2.1),[],[]))=_
   rw[Qa2 (by omega) (by omega),hkk]
  ·obtain⟨ho,hw⟩:=hwd I h1 J
   have hkk:=hkw I h1 J
   have hm:=ho.mem
   have hk0':k=0:=by
    by_cases e:k=0
    ·exact e
    ·have hl:1<=((cuts 32 s).drop 1).length:=by
      rw[hw];unfold wTx;rw[if_neg (by omega)];simp
     rw[hj.2 ⟨e,hl⟩] at h;cases h
   rw[hw];unfold wTx;rw[if_pos (by omega)]
   show (Lib.join (I.2.2.1.map wRef) [43]::I.2.2.2.map wOut,(k,0,[],[]))=_
   rw[hkk,show I.2.1=0 by omega]
 obtain⟨⟨d,hd⟩,he,hxc⟩:=hx;obtain⟨xw,xk,xm,xi,xo⟩:=x;have hdx:xw=(cuts 32 s).drop d:=hd
 have he:(xi,xo)=([],[]):=he
 simp only[aLe] at he;obtain⟨rfl,rfl⟩:=he;simp only;have hxl:xw.length<=301:=by rw[hdx,aLz];omega
 have hxw:∀i,(List.getD xw i []).length<=300:=fun i=>by rw[hdx];have:=Qg1 s 32 d i;omega
 have hxc':∀I,mTxF I=0->Qo I=s->xw=Lib.join (I.2.2.1.map wRef) [43]::I.2.2.2.map wOut/\xk=I.1/\xm=I.2.1:=fun I h1 J=>by
  have:=hxc I h1 J
  simp only[aLe] at this;exact⟨this.1,this.2.1,this.2.2.1⟩
 refine Y.bind (Q:=fun j=>(j=false->2<=xw.length/\xw.length<=5)/\(j=true->¬(2<=xw.length/\xw.length<=5))) ?_ (fun j hj=>?_)
 ·refine Y.bif (fun h=>Y.some ⟨(fun h=>by cases h),(fun _=>?_)⟩) (fun h1=>Y.some ⟨(fun h=>?_),(fun h=>?_)⟩)
  ·simp at h;omega
  ·simp at h h1;omega
  ·simp at h;omega
 refine Y.bif (fun h=>Y.some (hno _ fun I h1 J=>?_)) (fun h=>?_)
 ·refine hj.2 h ?_
  obtain⟨e1,_⟩:=hxc' I h1 J;have:=(hwd I h1 J).1.lo
  rw[e1];simp;omega
 have h25:=hj.1 h
 have hw0:=hxw 0
 refine Y.grd (ZB (by omega) (by omega)) (Y.eqb (Qfj _ 43 (by show (List.getD xw 0 []).length<=_;omega)) ?_)
 obtain⟨rs,hrs⟩:∃rs,rs=cuts 43 (List.getD xw (Int.toNat 0) []):=⟨_,rfl⟩;have hrs':rs=cuts 43 (List.getD xw 0 []):=hrs
 rw[<-hrs];have hrl:rs.length<=301:=by rw[hrs'];have:=Jk 43 (List.getD xw 0 []);omega
 have hrw:∀w,w ∈ rs->w.length<=300:=fun w hw=>by rw[hrs'] at hw;have:=Qa3 43 _ w hw;omega
 have hrc:∀I,mTxF I=0->Qo I=s->rs=I.2.2.1.map wRef:=fun I h1 J=>by
  rw[hrs',(hxc' I h1 J).1];exact Qq8 (hwd I h1 J).1
 refine Y.bind (Q:=fun (t:TX)=>t.2.2.1.length<=301/\t.2.2.2=[]/\∀I,mTxF I=0->Qo I=s->t=(I.1,I.2.1,I.2.2.1,[])) ?_ (fun t ht=>?_)
 ·refine Y.loop (fun n (st:Int×TX)=>∃i:Nat,st.1=(i:Int)/\i<=rs.length/\n=rs.length - i/\st.2.2.2.1.length=i/\st.2.2.2.2=[]/\∀I,mTxF I=0->Qo I=s->st.2=(I.1,I.2.1,I.2.2.1.take i,[])) (fun n st hI=>?_) rs.length _ ⟨0,rfl,by omega,by omega,rfl,rfl,fun I h1 J=>by
   obtain⟨_,e1,e2⟩:=hxc' I h1 J;show (xk,xm,[],[])=_
   rw[e1,e2];rfl⟩
  obtain⟨i,hi,hle,hnn,hac,hoz,hcomp⟩:=hI;obtain⟨i',k',m',acc,oz⟩:=st;have hi:i'=(i:Int):=hi
  subst hi;have hac:acc.length=i:=hac
  have hoz:oz=[]:=hoz
  subst hoz;refine Y.bif (fun h1=>?_) (fun h1=>Y.some ⟨by show acc.length<=_;omega,rfl,fun I J h3=>?_⟩)
  ·have U:i<rs.length:=by simp at h1;omega
   have hg:List.getD rs (Int.toNat (i:Int)) []=rs[i]:=Qa rs i _ U
   have hwl:=hrw _ (aLl U)
   rw[hg];have hcl:=QoR rs[i] [58]
   refine Y.grd (Qb _ i U) (Y.eqb (Qsj _ 58 (by omega)) (Y.eqb (YN _ (by omega)) (Y.eqb (YN _ (by omega)) (Y.grd (Qfp _ _ (by show acc.length<_;omega)) (Y.some ⟨rs.length - (i+1),by omega,i+1,wsucc U (by omega),by omega,rfl,by show (List.append acc [_]).length=_;simp[hac],rfl,fun I J h3=>?_⟩)))))
   have hm:=hrc I J h3
   have hr:i<I.2.2.1.length:=by rw[hm] at U;simpa using U
   have hok:=(hwd I J h3).1.ref _ (aLl hr)
   have e:rs[i]=wRef I.2.2.1[i]:=by rw[List.getElem_of_eq hm U];simp
   have hc2:=hcomp I J h3
   simp only[aLe] at hc2;rw[e,QsK hok];rw[Qar] at hok;show (k',m',List.append acc [(numS (Lib.itoa I.2.2.1[i].1),numS (Lib.itoa I.2.2.1[i].2))],[])=_
   rw[Qa2 (by omega) (by omega),Qa2 (by omega) (by omega),hc2.1,hc2.2.1,hc2.2.2.1,List.take_add_one,aLf hr]
   rfl
  ·have hge:i=rs.length:=by simp at h1;omega
   have c2:=hcomp I J h3
   have hkl:rs.length=I.2.2.1.length:=by rw[hrc I J h3];simp
   rw[hge,hkl,List.take_length] at c2;exact c2
 obtain⟨hti,hto,htc⟩:=ht;obtain⟨tk,tm,ti,to⟩:=t;have hto:to=[]:=hto
 subst hto;have hti:ti.length<=301:=hti
 have hx1:1<=xw.length:=by omega
 rw[drop1 _ hx1];refine Y.grd (QmB _ hx1) ?_;obtain⟨os,hos⟩:∃os,os=xw.drop 1:=⟨_,rfl⟩;rw[<-hos];have hol:os.length<=4:=by rw[hos,aLz];omega
 have how:∀w,w ∈ os->w.length<=300:=fun w hw=>by
  rw[hos,hdx,List.drop_drop] at hw;have:=Qa3 32 s w (List.mem_of_mem_drop hw);omega
 have hoc:∀I,mTxF I=0->Qo I=s->os=I.2.2.2.map wOut:=fun I h1 J=>by
  rw[hos,(hxc' I h1 J).1];rfl
 refine Y.bind (Q:=fun (r:TX⊕(Bool×TX))=>match r with
   | .inl t=>t.2.2.1.length<=301/\t.2.2.2.length<=4/\(∀o,o ∈ t.2.2.2->o.2.1.length<=1001)/\∀I,mTxF I=0->Qo I=s->t=I
   | .inr x=>x.1=false/\∀I,mTxF I=0->Qo I=s->False) ?_ (fun r hr=>?_)
 ·refine Y.loop (fun n (st:Int×TX)=>∃i:Nat,st.1=(i:Int)/\i<=os.length/\n=os.length - i/\st.2.2.2.1.length<=301/\st.2.2.2.2.length=i/\(∀o,o ∈ st.2.2.2.2->o.2.1.length<=1001)/\∀I,mTxF I=0->Qo I=s->st.2=(I.1,I.2.1,I.2.2.1,I.2.2.2.take i)) (fun n st hI=>?_) os.length _ ⟨0,rfl,by omega,by omega,hti,rfl,(fun o ho=>nomatch ho),fun I h1 J=>by
   rw[htc I h1 J];rfl⟩
  obtain⟨i,hi,hle,hnn,hil,hac,hkl,hcomp⟩:=hI;obtain⟨i',k',m',il,acc⟩:=st;have hi:i'=(i:Int):=hi
  subst hi;have hac:acc.length=i:=hac
  refine Y.bif (fun h1=>?_) (fun h1=>Y.some ⟨hil,by show acc.length<=_;omega,hkl,fun I J h3=>?_⟩)
  ·have U:i<os.length:=by simp at h1;omega
   have hg:List.getD os (Int.toNat (i:Int)) []=os[i]:=Qa os i _ U
   have hwl:=how _ (aLl U)
   rw[hg];refine Y.grd (Qb _ i U) (Y.bind (QqX _ (by omega)) (fun y hy=>?_))
   have hyc:∀I,mTxF I=0->Qo I=s->∃hr:i<I.2.2.2.length,y=(I.2.2.2[i],true):=fun I J h3=>by
    have hm:=hoc I J h3
    have hr:i<I.2.2.2.length:=by rw[hm] at U;simpa using U
    have e:os[i]=wOut I.2.2.2[i]:=by rw[List.getElem_of_eq hm U];simp
    exact⟨hr,hy.2 _ ((hwd I J h3).1.out _ (aLl hr)) e.symm⟩
   refine Y.bif (fun h4=>Y.some ⟨rfl,fun I J h3=>?_⟩) (fun h4=>Y.grd (Qfp _ _ (by show acc.length<_;omega)) (Y.some ⟨os.length - (i+1),by omega,i+1,wsucc U (by omega),by omega,rfl,hil,by show (List.append acc [_]).length=_;simp[hac],fun o ho=>?_,fun I J h3=>?_⟩))
   ·obtain⟨_,e⟩:=hyc I J h3
    rw[e] at h4;cases h4
   ·rcases List.mem_append.1 (show o ∈ acc++[y.1] from ho) with ho | ho
    ·exact hkl o ho
    ·rw[aLs] at ho;subst ho;exact hy.1
   ·obtain⟨hr,e⟩:=hyc I J h3
    have hc2:=hcomp I J h3
    simp only[aLe] at hc2;show (k',m',il,List.append acc [y.1])=_
    rw[e,hc2.1,hc2.2.1,hc2.2.2.1,hc2.2.2.2,List.take_add_one,aLf hr];rfl
  ·have hge:i=os.length:=by simp at h1;omega
   have c2:=hcomp I J h3
   have hkl:os.length=I.2.2.2.length:=by rw[hoc I J h3];simp
   rw[hge,hkl,List.take_length] at c2;exact c2
 cases r with
 | inr x=>exact Y.some (by rw[hr.1];exact hno _ hr.2)
 | inl t=>
  obtain⟨r1,r2,r3,r4⟩:=hr;have hb:bT t:=⟨by omega,by omega,fun o ho=>by have:=r3 o ho;omega⟩
  refine Y.eqb (Qkv t hb) (Y.bif (fun h=>Y.some (hno _ fun I h1 J=>?_)) (fun h=>?_))
  ·rw[r4 I h1 J,h1] at h;simp at h
  ·have h0:mTxF t=0:=by simpa using h
   refine Y.eqb (QhI (Qae h0)) ?_;by_cases hl:(Qo t).length<=300
   ·rw[if_pos hl]
    refine Y.some ⟨fun hh=>⟨h0,by simpa using hh⟩,fun I h1 J=>?_⟩
    obtain rfl:=r4 I h1 J;show (t,decide (Qo t=s))=_
    rw[aLE J]
   ·rw[if_neg hl]
    refine Y.some (hno _ fun I h1 J=>?_)
    obtain rfl:=r4 I h1 J;rw[J] at hl;exact hl hs
end GL
end Go.Dx
set_option maxHeartbeats 2000000
namespace Go.Dx
namespace GL
theorem QdQ (k:Int) (n:Nat) (I:0<=k) (h1:k<((10 ^ n:Nat):Int)) (J:1<=n):(Lib.itoa k).length<=n:=by
 obtain⟨m,rfl⟩:=aLA I;rw[YQ,Lib.decDigits_length];exact Qcu n m (by omega) J
theorem Qmx (w:List UInt8) (n:Nat) (hw:w.length<BIG):Y (Qm w (n:Int)) (fun r=>∀k,0<=k->k<=9999999->w=Lib.itoa k->(Lib.itoa k).length<=n->r=(k,true)):=by
 obtain⟨r,h1,_⟩:=Qhc w (n:Int) hw;refine⟨r,h1,fun k I J hk U=>?_⟩
 rw[hk,Qfg I J n U] at h1;exact (Option.some.inj h1).symm
theorem Qpr {l:List (Int×Int)} (I:l ≠ []) (h:∀r,r ∈ l->mRef r=true):cuts 43 (Lib.join (l.map wRef) [43])=l.map wRef:=by
 refine Jy 43 _ (fun e=>I (List.map_eq_nil_iff.1 e)) fun w hw=>?_
 obtain⟨r,J,rfl⟩:=List.mem_map.1 hw;exact QkA (h r J) 43 (by decide) (by decide)
theorem QsS (s:List UInt8) (hs:s.length<=300):Y (QdY s) (fun x=>x.1.length<=301/\∀l,l ≠ []->(∀r,r ∈ l->mRef r=true)->Lib.join (l.map wRef) [43]=s->x=(l,true)):=by
 have hB:BIG=4611686018427387904:=rfl
 unfold QdY;refine Y.eqb (Y0 s 43 (by unfold LIM;omega)) ?_
 obtain⟨rs,hrs⟩:∃rs,rs=cuts 43 s:=⟨_,rfl⟩;rw[<-hrs];have hrl:rs.length<=301:=by rw[hrs];have:=Jk 43 s;omega
 have hrw:∀w,w ∈ rs->w.length<=300:=fun w hw=>by rw[hrs] at hw;have:=Qa3 43 _ w hw;omega
 have hrc:∀l,l ≠ []->(∀r,r ∈ l->mRef r=true)->Lib.join (l.map wRef) [43]=s->rs=l.map wRef:=fun l h1 J I=>by
  rw[hrs,<-I];exact Qpr h1 J
 refine Y.bind (Q:=fun (r:List (Int×Int)⊕(List (Int×Int)×Bool))=>match r with
   | .inl x=>x.length<=301/\∀l,l ≠ []->(∀r,r ∈ l->mRef r=true)->Lib.join (l.map wRef) [43]=s->x=l
   | .inr x=>x=([],false)/\∀l,l ≠ []->(∀r,r ∈ l->mRef r=true)->Lib.join (l.map wRef) [43]=s->False) ?_ (fun r hr=>?_)
 ·refine Y.loop (fun n (st:List (Int×Int)×Int)=>∃i:Nat,st.2=(i:Int)/\i<=rs.length/\n=rs.length - i/\st.1.length=i/\∀l,l ≠ []->(∀r,r ∈ l->mRef r=true)->Lib.join (l.map wRef) [43]=s->st.1=l.take i) (fun n st hI=>?_) rs.length _ ⟨0,rfl,by omega,by omega,rfl,fun l _ _ _=>rfl⟩
  obtain⟨i,hi,hle,hnn,hac,hcomp⟩:=hI;obtain⟨acc,i'⟩:=st;have hi:i'=(i:Int):=hi
  subst hi;have hac:acc.length=i:=hac
  refine Y.bif (fun h1=>?_) (fun h1=>Y.some ⟨by show acc.length<=_;omega,fun l J I U=>?_⟩)
  ·have hlt:i<rs.length:=by simp at h1;omega
   have hg:List.getD rs (Int.toNat (i:Int)) []=rs[i]:=Qa rs i _ hlt
   have hwl:=hrw _ (aLl hlt)
   rw[hg];have hpc:∀l,l ≠ []->(∀r,r ∈ l->mRef r=true)->Lib.join (l.map wRef) [43]=s->∃hr:i<l.length,mRef l[i]=true/\cuts 58 rs[i]=[Lib.itoa l[i].1,Lib.itoa l[i].2]:=fun l J I U=>by
    have hm:=hrc l J I U
    have hr:i<l.length:=by rw[hm] at hlt;simpa using hlt
    have e:rs[i]=wRef l[i]:=by rw[List.getElem_of_eq hm hlt];simp
    have hok:=I _ (aLl hr)
    exact⟨hr,hok,by rw[e];exact Qsd hok⟩
   refine Y.grd (Qb _ i hlt) (Y.eqb (Y0 _ 58 (by unfold LIM;omega)) (Y.bif (fun h5=>Y.some ⟨rfl,fun l J I U=>?_⟩) (fun h5=>?_)))
   ·obtain⟨_,_,e⟩:=hpc l J I U
    rw[e] at h5;simp at h5
   ·have h2l:(cuts 58 rs[i]).length=2:=by simp at h5;omega
    have w0:=Yh 58 rs[i] 0
    have w1:=Yh 58 rs[i] 1
    refine Y.grd (ZB (by omega) (by omega)) (Y.bind (Qmx (List.getD (cuts 58 rs[i]) (Int.toNat 0) []) 2 (by show (List.getD (cuts 58 rs[i]) 0 []).length<_;omega)) (fun a ha=>Y.grd (ZB (by omega) (by omega)) (Y.bind (Qmx (List.getD (cuts 58 rs[i]) (Int.toNat 1) []) 1 (by show (List.getD (cuts 58 rs[i]) 1 []).length<_;omega)) (fun b hb=>?_))))
    have hab:∀l,l ≠ []->(∀r,r ∈ l->mRef r=true)->Lib.join (l.map wRef) [43]=s->∃hr:i<l.length,a=(l[i].1,true)/\b=(l[i].2,true):=fun l J I U=>by
     obtain⟨hr,hok,e⟩:=hpc l J I U;rw[Qar] at hok;refine⟨hr,ha _ (by omega) (by omega) (by rw[e];rfl) (QdQ _ 2 (by omega) (by omega) (by omega)),hb _ (by omega) (by omega) (by rw[e];rfl) (QdQ _ 1 (by omega) (by omega) (by omega))⟩
    refine Y.bind (Q:=fun j=>j=true->∀l,l ≠ []->(∀r,r ∈ l->mRef r=true)->Lib.join (l.map wRef) [43]=s->False) ?_ (fun j hj=>Y.bif (fun h=>Y.some ⟨rfl,hj h⟩) (fun _=>Y.grd (Qfp _ _ (by show acc.length<_;omega)) (Y.some ⟨rs.length - (i+1),by omega,i+1,wsucc hlt (by omega),by omega,rfl,by show (List.append acc [_]).length=_;simp[hac],fun l J I U=>?_⟩)))
    ·refine Y.bif (fun h=>Y.some (fun _ l J I U=>?_)) (fun h=>Y.some (fun h' l J I U=>?_))
     ·obtain⟨_,e,_⟩:=hab l J I U
      rw[e] at h;cases h
     ·obtain⟨_,_,e⟩:=hab l J I U
      rw[e] at h';cases h'
    ·obtain⟨hr,e1,e2⟩:=hab l J I U
     have hc2:acc=l.take i:=hcomp l J I U
     show List.append acc [(a.1,b.1)]=_
     rw[e1,e2,hc2,List.take_add_one,aLf hr];rfl
  ·have hge:i=rs.length:=by simp at h1;omega
   have c2:acc=l.take i:=hcomp l J I U
   have hkl:rs.length=l.length:=by rw[hrc l J I U];simp
   show acc=l
   rw[c2,hge,hkl,List.take_length]
 cases r with
 | inl x=>exact Y.some ⟨hr.1,fun l J I U=>by rw[hr.2 l J I U]⟩
 | inr x=>exact Y.some ⟨by rw[hr.1];simp,fun l J I U=>(hr.2 l J I U).elim⟩
theorem Qq6 (s:List UInt8) (hs:s.length<=300):Y (QcV s) (TxQ s):=by
 have hB:BIG=4611686018427387904:=rfl
 have hne:=QaP 32 s
 have hlen:=Jk 32 s
 have hpos:1<=(cuts 32 s).length:=by
  cases h:cuts 32 s with
  | nil=>exact absurd h hne
  | cons a l=>simp
 have U:∀I,mTxF I=0->Qo I=s->okT I/\cuts 32 s=wTx I:=fun I h1 J=>⟨Qae h1,by rw[<-J];exact QoM (Qae h1)⟩
 have hno:∀t:TX,(∀I,mTxF I=0->Qo I=s->False)->TxQ s (t,false):=fun t h=>⟨(fun h=>by cases h),fun I h1 J=>(h I h1 J).elim⟩
 unfold QcV;refine Y.eqb (Y0 s 32 (by unfold LIM;omega)) ?_
 obtain⟨ws,hws⟩:∃ws,ws=cuts 32 s:=⟨_,rfl⟩;rw[<-hws];rw[<-hws] at hlen hpos;simp only[<-hws] at U;have hww:∀i,(List.getD ws i []).length<=300:=fun i=>by rw[hws];have:=Yh 32 s i;omega
 have hin0:inB 0 ws=true:=ZB (by omega) (by omega)
 have hw0:∀I,mTxF I=0->Qo I=s->List.getD ws (Int.toNat 0) []=kw I.1:=fun I h1 J=>by rw[(U I h1 J).2];rfl
 refine Y.bind (Q:=fun j=>∀I,mTxF I=0->Qo I=s->(j=true↔I.1 ≠ 0)) ?_ (fun j hj=>?_)
 ·have kk:∀I,mTxF I=0->Qo I=s->I.1=0\/I.1=1\/I.1=2:=fun I h1 J=>by have:=(U I h1 J).1.kind;omega
  refine Y.grd hin0 (Y.bif (fun h=>Y.some (fun I h1 J=>?_)) (fun h=>Y.grd hin0 (Y.some (fun I h1 J=>?_))))
  ·rw[hw0 I h1 J] at h
   rcases kk I h1 J with e | e | e<;>rw[e] at h ⊢<;>simp[kw] at h ⊢
  ·rw[hw0 I h1 J] at h ⊢
   rcases kk I h1 J with e | e | e<;>rw[e] at h ⊢<;>simp[kw] at h ⊢
 refine Y.bind (Q:=fun (r:(Int×TX)⊕(Bool×TX))=>match r with
   | .inl x=>(x.1=1\/x.1=2)/\x.2.2.2=([],[])/\∀I,mTxF I=0->Qo I=s->x.1=(if I.1=0 then 1 else 2)/\x.2=(I.1,I.2.1,[],[])
   | .inr x=>x.1=false/\∀I,mTxF I=0->Qo I=s->False) ?_ (fun r hr=>?_)
 ·refine Y.bif (fun h=>?_) (fun h=>Y.grd hin0 (Y.bif (fun h3=>Y.some ⟨rfl,fun I h1 J=>?_⟩) (fun h3=>Y.some ⟨.inl rfl,rfl,fun I h1 J=>?_⟩)))
  ·refine Y.bif (fun h3=>Y.some ⟨rfl,fun I h1 J=>?_⟩) (fun h3=>?_)
   ·have hl:2<=ws.length:=by
     rw[(U I h1 J).2];unfold wTx;simp;omega
    simp at h3;omega
   ·have h2l:2<=ws.length:=by simp at h3;omega
    have hw1:=hww 1
    refine Y.grd (ZB (by omega) (by omega)) (Y.bind (Qmx (List.getD ws (Int.toNat 1) []) 3 (by show (List.getD ws 1 []).length<_;omega)) (fun m hm=>?_))
    have hmc:∀I,mTxF I=0->Qo I=s->m=(I.2.1,true):=fun I h1 J=>by
     obtain⟨ho,hw⟩:=U I h1 J;have hmm:=ho.mem
     have h0:=(hj I h1 J).1 h
     exact hm _ (by omega) (by omega) (by rw[hw];unfold wTx;rw[if_neg h0];rfl) (QdQ _ 3 (by omega) (by omega) (by omega))
    refine Y.bif (fun h4=>Y.some ⟨rfl,fun I h1 J=>?_⟩) (fun h4=>?_)
    ·rw[hmc I h1 J] at h4;cases h4
    ·refine Y.grd hin0 (Y.bind (Q:=fun (x:TX)=>x.2.2=([],[])/\∀I,mTxF I=0->Qo I=s->x.1=I.1) ?_ (fun x hx=>Y.some ⟨.inr rfl,by show x.2.2=_;exact hx.1,fun I h1 J=>⟨?_,?_⟩⟩))
     ·have kk:∀I,mTxF I=0->Qo I=s->I.1=1\/I.1=2:=fun I h1 J=>by have:=(U I h1 J).1.kind;have:=(hj I h1 J).1 h;omega
      refine Y.bif (fun h5=>Y.some ⟨rfl,fun I h1 J=>?_⟩) (fun h5=>Y.some ⟨rfl,fun I h1 J=>?_⟩)
      ·rw[hw0 I h1 J] at h5
       rcases kk I h1 J with e | e<;>rw[e] at h5 ⊢
       simp[kw] at h5
      ·rw[hw0 I h1 J] at h5
       rcases kk I h1 J with e | e<;>rw[e] at h5 ⊢
       simp[kw] at h5
     ·rw[if_neg ((hj I h1 J).1 h)]
     ·show (x.1,m.1,x.2.2)=_
      rw[hx.1,hx.2 I h1 J,hmc I h1 J]
  ·have h0:I.1=0:=by
    by_cases e:I.1=0
    ·exact e
    ·rw[(hj I h1 J).2 e] at h;cases h
   rw[hw0 I h1 J,h0] at h3;simp[kw] at h3
  ·have h0:I.1=0:=by
    by_cases e:I.1=0
    ·exact e
    ·rw[(hj I h1 J).2 e] at h;cases h
   have hmm:=(U I h1 J).1.mem
   rw[if_pos h0,h0,show I.2.1=0 by omega]
   exact⟨rfl,rfl⟩
 cases r with
 | inr x=>exact Y.some (by obtain⟨b,t⟩:=x;have h1:b=false:=hr.1;subst h1;exact hno _ hr.2)
 | inl x=>
  obtain⟨at',xk,xm,xi,xo⟩:=x;obtain⟨hat,hx0,hxc⟩:=hr;have hx0:(xi,xo)=([],[]):=hx0
  simp only[aLe] at hx0;obtain⟨e1,e2⟩:=hx0;subst e1 e2;obtain⟨a,ha,ha12⟩:∃a:Nat,at'=(a:Int)/\(a=1\/a=2):=by
   have hat:at'=1\/at'=2:=hat
   rcases hat with rfl | rfl
   ·exact⟨1,rfl,.inl rfl⟩
   ·exact⟨2,rfl,.inr rfl⟩
  subst ha;have hxc:∀I,mTxF I=0->Qo I=s->(a:Int)=(if I.1=0 then 1 else 2)/\(xk,xm,([]:List (Int×Int)),([]:List TOut))=(I.1,I.2.1,[],[]):=hxc
  have htl:∀I,mTxF I=0->Qo I=s->ws.drop a=Lib.join (I.2.2.1.map wRef) [43]::I.2.2.2.map wOut:=fun I h1 J=>by
   rw[(U I h1 J).2];have:=(hxc I h1 J).1
   unfold wTx;by_cases h0:I.1=0
   ·rw[if_pos h0] at this ⊢
    obtain rfl:a=1:=by omega
    rfl
   ·rw[if_neg h0] at this ⊢
    obtain rfl:a=2:=by omega
    rfl
  simp only[Sum.elim_inl];have hwr:IntKind.wrap .i64 ((a:Int)+2)=((a+2:Nat):Int):=by rw[QX (by omega) (by omega)];omega
  have hwr1:IntKind.wrap .i64 ((a:Int)+1)=((a+1:Nat):Int):=by rw[QX (by omega) (by omega)];omega
  rw[hwr,hwr1];refine Y.bif (fun h3=>Y.some (hno _ fun I h1 J=>?_)) (fun h3=>?_)
  ·have:=(U I h1 J).1.lo
   have h4:(ws.drop a).length=1+I.2.2.2.length:=by rw[htl I h1 J];simp;omega
   rw[aLz] at h4;simp at h3;omega
  have hal:a+2<=ws.length:=by simp at h3;omega
  have hwa:=hww a
  refine Y.grd (Qb ws a (by omega)) (Y.bind (QsS _ (by show (List.getD ws (Int.toNat (a:Int)) []).length<=_;rw[Int.toNat_natCast];exact hwa)) (fun ins hins=>?_))
  have hic:∀I,mTxF I=0->Qo I=s->ins=(I.2.2.1,true):=fun I h1 J=>by
   have ho:=(U I h1 J).1
   refine hins.2 _ (fun e=>?_) ho.ref ?_
   ·have:=ho.li;rw[e] at this;simp at this
   ·have:List.getD ws a []=(ws.drop a).getD 0 []:=by rw[aLk,aLk,List.getElem?_drop];rfl
    rw[Int.toNat_natCast,this,htl I h1 J];rfl
  have how:∀i (hi:i<ws.length),(ws[i]).length<=300:=fun i hi=>by
   have:=hww i
   rwa [aLk,aLf hi] at this
  refine Y.bind (Q:=fun (r:(Bool×TX)⊕(Bool×TX))=>match r with
    | .inl x=>x.2.2.2.1.length<=301/\x.2.2.2.2.length<=301/\(∀o,o ∈ x.2.2.2.2->o.2.1.length<=301)/\∀I,mTxF I=0->Qo I=s->x=(true,I)
    | .inr x=>x.1=false/\∀I,mTxF I=0->Qo I=s->False) ?_ (fun r hr=>?_)
  ·refine Y.loop (fun n (st:Bool×Int×TX)=>∃i:Nat,st.2.1=((a+1+i:Nat):Int)/\a+1+i<=ws.length/\n=ws.length - (a+1+i)/\st.2.2.2.2.1.length<=301/\st.2.2.2.2.2.length=i/\(∀o,o ∈ st.2.2.2.2.2->o.2.1.length<=301)/\∀I,mTxF I=0->Qo I=s->st.1=true/\st.2.2=(I.1,I.2.1,I.2.2.1,I.2.2.2.take i)) (fun n st hI=>?_) (ws.length - (a+1)) _ ⟨0,rfl,by omega,by omega,hins.1,rfl,(fun o ho=>nomatch ho),fun I h1 J=>by
    have e:=hic I h1 J
    have e2:=(hxc I h1 J).2
    simp only[aLe] at e2;rw[e];refine⟨rfl,?_⟩;show (xk,xm,I.2.2.1,[])=_
    rw[e2.1,e2.2.1];rfl⟩
   obtain⟨i,hi,hle,hnn,hil,hac,hkl,hcomp⟩:=hI;obtain⟨ok,i',k',m',il,acc⟩:=st;have hi:i'=((a+1+i:Nat):Int):=hi
   subst hi;have hac:acc.length=i:=hac
   have hol:∀I,mTxF I=0->Qo I=s->ws.length=a+1+I.2.2.2.length:=fun I h1 J=>by
    have h4:(ws.drop a).length=1+I.2.2.2.length:=by rw[htl I h1 J];simp;omega
    rw[aLz] at h4;omega
   refine Y.bind (Q:=fun j=>(j=true->a+1+i<ws.length)/\(j=false->a+1+i=ws.length\/ok=false)) ?_ (fun j hj2=>?_)
   ·refine Y.bif (fun h4=>Y.some ⟨fun _=>?_,fun h5=>.inr h5⟩) (fun h4=>Y.some ⟨(fun h=>by cases h),fun _=>.inl ?_⟩)
    ·simp at h4;omega
    ·simp at h4;omega
   refine Y.bif (fun h4=>?_) (fun h4=>Y.some ⟨hil,by show acc.length<=_;omega,hkl,fun I h1 J=>?_⟩)
   ·have hlt:=hj2.1 h4
    have hg:List.getD ws (Int.toNat ((a+1+i:Nat):Int)) []=ws[a+1+i]:=Qa ws _ _ hlt
    have hwl:=how _ hlt
    rw[hg];have hoc:∀I,mTxF I=0->Qo I=s->∃hr:i<I.2.2.2.length,okO I.2.2.2[i]/\ws[a+1+i]=wOut I.2.2.2[i]:=fun I h1 J=>by
     have h5:=hol I h1 J
     have hr:i<I.2.2.2.length:=by omega
     refine⟨hr,(U I h1 J).1.out _ (aLl hr),?_⟩;have h6:(ws.drop a)[1+i]? = some ws[a+1+i]:=by rw[List.getElem?_drop,<-Nat.add_assoc,aLf hlt]
     rw[htl I h1 J,Nat.add_comm 1 i,List.getElem?_cons_succ,List.getElem?_map,aLf hr] at h6;simpa using h6.symm
    refine Y.grd (Qb _ _ hlt) (Y.eqb (Y0 _ 61 (by unfold LIM;omega)) (Y.bif (fun h5=>Y.some ⟨rfl,fun I h1 J=>?_⟩) (fun h5=>?_)))
    ·obtain⟨_,ho,e⟩:=hoc I h1 J
     rw[e,QnK ho] at h5;simp at h5
    ·have h2l:(cuts 61 ws[a+1+i]).length=2:=by simp at h5;omega
     have w0:=Yh 61 ws[a+1+i] 0
     have w1:=Yh 61 ws[a+1+i] 1
     have hsl:(swp 95 32 (List.getD (cuts 61 ws[a+1+i]) (Int.toNat 1) [])).length<=300:=by
      unfold swp;rw[List.length_map];show (List.getD (cuts 61 ws[a+1+i]) 1 []).length<=_;omega
     refine Y.grd (ZB (by omega) (by omega)) (Y.bind (Qmx (List.getD (cuts 61 ws[a+1+i]) (Int.toNat 0) []) 7 (by show (List.getD (cuts 61 ws[a+1+i]) 0 []).length<_;omega)) (fun v hv=>Y.grd (ZB (by omega) (by omega)) (Y.eqb (Qqk _ 95 32 (by show (List.getD (cuts 61 ws[a+1+i]) 1 []).length<=_;omega)) (Y.bind (Qqe _ (by omega)) (fun r hr=>?_)))))
     have hvr:∀I,mTxF I=0->Qo I=s->∃hr:i<I.2.2.2.length,v=(I.2.2.2[i].1,true)/\r=(I.2.2.2[i].2,true):=fun I h1 J=>by
      obtain⟨hr',ho,e⟩:=hoc I h1 J;have ec:cuts 61 ws[a+1+i]=[Lib.itoa I.2.2.2[i].1,Qs I.2.2.2[i].2 [95]]:=by rw[e];exact QnK ho
      have hv1:=ho.1
      refine⟨hr',hv _ (by omega) (by omega) (by rw[ec];rfl) (QdQ _ 7 (by omega) (by omega) (by omega)),hr.2 _ ho.2 ?_⟩
      rw[ec];exact (Qnk (Ye ho.2) QoD).symm
     refine Y.bind (Q:=fun j=>∀I,mTxF I=0->Qo I=s->j=true) ?_ (fun j hj3=>?_)
     ·refine Y.bif (fun h6=>Y.some (fun I h1 J=>?_)) (fun h6=>Y.some (fun I h1 J=>?_))
      ·obtain⟨_,_,e⟩:=hvr I h1 J;rw[e]
      ·obtain⟨_,e,_⟩:=hvr I h1 J;rw[e] at h6;cases h6
     ·refine Y.grd (Qfp _ _ (by show acc.length<_;omega)) (Y.some ⟨ws.length - (a+1+(i+1)),by omega,i+1,?_,by omega,rfl,hil,by show (List.append acc [_]).length=_;simp[hac],fun o ho=>?_,fun I h1 J=>⟨hj3 I h1 J,?_⟩⟩)
      ·show IntKind.wrap .i64 (((a+1+i:Nat):Int)+1)=_
       rw[wsucc hlt (by omega)];rfl
      ·rcases List.mem_append.1 (show o ∈ acc++[(v.1,r.1)] from ho) with ho | ho
       ·exact hkl o ho
       ·rw[aLs] at ho;subst ho
        have:=hr.1
        show r.1.1.length<=_
        omega
      ·obtain⟨hr',e1,e2⟩:=hvr I h1 J
       have hc2:=(hcomp I h1 J).2
       simp only[aLe] at hc2;show (k',m',il,List.append acc [(v.1,r.1)])=_
       rw[e1,e2,hc2.1,hc2.2.1,hc2.2.2.1,hc2.2.2.2,List.take_add_one,aLf hr'];rfl
   ·obtain⟨c1,c2⟩:=hcomp I h1 J
    have c1':ok=true:=c1
    rcases hj2.2 h4 with h5 | h5
    ·have h6:=hol I h1 J
     obtain rfl:i=I.2.2.2.length:=by omega
     rw[List.take_length] at c2;have c2:(k',m',il,acc)=I:=c2
     show (ok,k',m',il,acc)=_
     rw[c1',c2]
    ·rw[c1'] at h5;cases h5
  cases r with
  | inr x=>exact Y.some (by obtain⟨b,t⟩:=x;have h1:b=false:=hr.1;subst h1;exact hno _ hr.2)
  | inl x=>
   obtain⟨r1,r2,r3,r4⟩:=hr;have hb:bT x.2:=⟨by omega,by omega,fun o ho=>by have:=r3 o ho;omega⟩
   refine Y.bind (Q:=fun (y:Bool×TX)=>TxQ s (y.2,y.1)) ?_ (fun y hy=>Y.some hy)
   refine Y.bif (fun h=>Y.eqb (Qcz x.2 hb) (Y.bif (fun h3=>?_) (fun h3=>Y.some (hno _ fun I h1 J=>?_)))) (fun h=>Y.some (hno _ fun I h1 J=>?_))
   ·have h0:mTxF x.2=0:=by simpa using h3
    refine Y.eqb (QhM (Qae h0)) (Y.bif (fun h4=>Y.some ⟨fun _=>⟨h0,by simpa using h4⟩,fun I h1 J=>?_⟩) (fun h4=>Y.some (hno _ fun I h1 J=>?_)))
    ·show (x.2,decide ((s.length:Int)<=300))=_
     rw[r4 I h1 J,aLE (by omega)]
    ·rw[r4 I h1 J] at h4
     simp[J] at h4
   ·rw[r4 I h1 J] at h3
    simp[h1] at h3
   ·rw[r4 I h1 J] at h;cases h
end GL
end Go.Dx
set_option maxHeartbeats 2000000
namespace Go.Dx
namespace GL
open Classical in
noncomputable def rdTx (s:List UInt8):Option TX:=if h:∃t,mTxF t=0/\Qo t=s then some h.choose else none
theorem Qin {s:List UInt8} {t:TX} (h:rdTx s=some t):mTxF t=0/\Qo t=s:=by
 unfold rdTx at h;split at h
 ·rename_i hh
  cases h;exact hh.choose_spec
 ·cases h
theorem Qqg {s:List UInt8} (h:rdTx s=none) (t:TX) (h1:mTxF t=0) (I:Qo t=s):False:=by
 unfold rdTx at h;split at h
 ·cases h
 ·rename_i hh;exact hh ⟨t,h1,I⟩
theorem Qsm {s:List UInt8} {x:TX×Bool} (h:TxQ s x):(∀t,rdTx s=some t->x=(t,true))/\(rdTx s=none->x.2=false):=by
 refine⟨fun t I=>h.2 t (Qin I).1 (Qin I).2,fun U=>?_⟩
 cases J:x.2 with
 | false=>rfl
 | true=>exact (Qqg U _ (h.1 J).1 (h.1 J).2).elim
structure okL (l:TL):Prop where
 n1:l.1.length<=60
 n2:l.2.length<=120
 txt:∀s,s ∈ l.1->1<=s.length/\s.length<=300
theorem Qd7 {l:TL} (h:mLF l=0):okL l:=by
 unfold mLF at h;split at h
 ·cases h
 ·rename_i h1
  simp only[Bool.or_eq_true,aLF,not_or] at h1;refine⟨by omega,by omega,fun s hs=>?_⟩
  by_cases I:code (mTx l.1) l.1=0
  ·obtain⟨i,hi,rfl⟩:=List.mem_iff_getElem.1 hs
   have J:=Yg I i _ (aLf hi)
   unfold mTx at J;cases U:mIn (l.1[i].length:Int) 1 300 with
   | false=>rw[U] at J;simp at J
   | true=>rw[QJ] at U;omega
  ·rw[if_neg I] at h;exact absurd h I
def noT:TX:=(0,(0,([],[])))
noncomputable def mTI (l:TL) (id:Int):TX×Int:=if mIn id 1 (l.1.length:Int) then (match rdTx (List.getD l.1 (Int.toNat (IntKind.wrap .i64 (id - 1))) []) with | some t=>(t,0) | none=>(noT,5)) else (noT,3)
theorem Qiw {l:TL} (h:okL l) (i:Nat):(List.getD l.1 i []).length<=300:=by
 rw[aLk];cases I:l.1[i]? with
 | none=>simp
 | some s=>exact (h.txt s (List.mem_of_getElem? I)).2
theorem Qmu {l:TL} (h:okL l) {id:Int} (hi:mIn id 1 (l.1.length:Int)=true):inB (IntKind.wrap .i64 (id - 1)) l.1=true:=by
 rw[QJ] at hi;have:=h.n1
 rw[QX (by omega) (by omega)]
 exact ZB (by omega) (by omega)
theorem Qok {l:TL} (h:okL l) (id:Int):Qah l id=some (mTI l id):=by
 unfold Qah Yq J2 mTI;rw[Ze];simp only[aLc];cases hi:mIn id 1 (l.1.length:Int) with
 | false=>rfl
 | true=>
  simp only[Bool.not_true,aLC,Qmu h hi,aLB,aLc,decide_true,if_true];obtain⟨x,J,U⟩:=QrN _ (Qiw h (Int.toNat (IntKind.wrap .i64 (id - 1))));obtain⟨r1,r2⟩:=Qsm U;rw[J,aLc];cases I:rdTx (List.getD l.1 (Int.toNat (IntKind.wrap .i64 (id - 1))) []) with
  | none=>rw[r2 I];rfl
  | some t=>rw[r1 t I];rfl
theorem Qoc {l:TL} (h:mLF l=0) (id:Int):QeH l id=some ((mTI l id).2,(mTI l id).1):=by
 have ho:=Qd7 h
 have hB:BIG=4611686018427387904:=rfl
 unfold QeH Qbs QeO QeC mTI;rw[QaV l (by have:=ho.n1;omega) (by have:=ho.n2;omega),aLc,h,Zj]
 simp only[decide_true,Bool.not_true,aLC,aLc];cases hi:mIn id 1 (l.1.length:Int) with
 | false=>rfl
 | true=>
  simp only[Bool.not_true,aLC,Qmu ho hi,aLB,aLc,decide_true,if_true];obtain⟨x,J,U⟩:=Qq6 _ (Qiw ho (Int.toNat (IntKind.wrap .i64 (id - 1))));obtain⟨r1,r2⟩:=Qsm U;rw[J,aLc];cases I:rdTx (List.getD l.1 (Int.toNat (IntKind.wrap .i64 (id - 1))) []) with
  | none=>rw[r2 I];rfl
  | some t=>rw[r1 t I];rfl
theorem Qnq {l:TL} {id:Int} (h:(mTI l id).2=0):mTxF (mTI l id).1=0:=by
 unfold mTI at h ⊢;split
 ·rename_i h1
  rw[if_pos h1] at h;split
  ·rename_i t I;exact (Qin I).1
  ·rename_i I;rw[I] at h;cases h
 ·rename_i h1;rw[if_neg h1] at h;cases h
theorem Qow (n k:Nat) (hk:k<=n) (f:Int×Int->Option ((Int×Int)⊕Int))
  (hs:∀lo hi:Nat,lo<hi->hi<=n->f ((lo:Int),(hi:Int))=some (.inl (if (lo+hi) / 2<k then ((((lo+hi) / 2+1:Nat):Int),(hi:Int)) else ((lo:Int),(((lo+hi) / 2:Nat):Int)))))
  (he:∀lo:Nat,f ((lo:Int),(lo:Int))=some (.inr (lo:Int))):Qc f (0,(n:Int))=some (k:Int):=by
 have key:∀(d lo hi:Nat),hi - lo<=d->lo<=k->k<=hi->hi<=n->Qc f ((lo:Int),(hi:Int))=some (k:Int):=by
  intro d;induction d with
  | zero=>
   intro lo hi h1 J U I;obtain rfl:lo=k:=by omega
   obtain rfl:lo=hi:=by omega
   exact Qg (he lo)
  | succ d ih=>
   intro lo hi h1 J U I;by_cases h:lo<hi
   ·rw[Qv (hs lo hi h I)]
    by_cases hm:(lo+hi) / 2<k
    ·rw[if_pos hm];exact ih _ _ (by omega) (by omega) U I
    ·rw[if_neg hm];exact ih _ _ (by omega) J (by omega) (by omega)
   ·obtain rfl:lo=hi:=by omega
    obtain rfl:lo=k:=by omega
    exact Qg (he lo)
 exact key n 0 n (by omega) (by omega) hk (by omega)
theorem Qqu {lo hi:Nat} (h:lo+hi<4611686018427387904):IntKind.wrap .i64 (Int.fdiv (IntKind.wrap .u64 (IntKind.wrap .i64 ((lo:Int)+(hi:Int)))) (2 ^ 1))=(((lo+hi) / 2:Nat):Int):=by
 rw[QX (n:=(lo:Int)+(hi:Int)) (by omega) (by omega)]
 have e:IntKind.wrap .u64 ((lo:Int)+(hi:Int))=(lo:Int)+(hi:Int):=by
  simp[IntKind.wrap,IntKind.bits,IntKind.signed];omega
 rw[e];have I:Int.fdiv ((lo:Int)+(hi:Int)) (2 ^ 1)=(((lo+hi) / 2:Nat):Int):=by
  rw[Int.fdiv_eq_ediv_of_nonneg _ (by decide)]
  show ((lo:Int)+(hi:Int)) / 2=_
  omega
 rw[I];exact QX (by omega) (by omega)
theorem Qjm (n:Nat) (p:Nat->Bool) (hm:∀i j,i<=j->j<n->p j=true->p i=true):∃k,k<=n/\(∀i,i<k->p i=true)/\(∀i,k<=i->i<n->p i=false):=by
 induction n with
 | zero=>exact⟨0,by omega,fun i hi=>by omega,fun i h1 U=>by omega⟩
 | succ n ih=>
  obtain⟨k,h1,U,h3⟩:=ih fun i j I hj=>hm i j I (by omega)
  by_cases hp:p n=true
  ·refine⟨n+1,by omega,fun i hi=>hm i n (by omega) (by omega) hp,fun i h4 h5=>by omega⟩
  ·refine⟨k,by omega,U,fun i h4 h5=>?_⟩
   by_cases J:i=n
   ·subst J;simpa using hp
   ·exact h3 i h4 (by omega)
theorem QbG {a b c:Int×Int} (h1:Qq a b=true) (I:Qq b c=true):Qq a c=true:=by
 unfold Qq at *;split at h1<;>split at I<;>split<;>simp at *<;>omega
theorem Z7 (a:Int×Int):Qq a a=false:=by unfold Qq;simp
theorem Qn0 {a b:Int×Int} (h:Qq a b=true):Qq b a=false:=by
 cases I:Qq b a with
 | false=>rfl
 | true=>have:=QbG h I;rw[Z7] at this;cases this
theorem Qio {a b:Int×Int} (h1:Qq a b=false) (I:Qq b a=false):a=b:=by
 obtain⟨J,a2⟩:=a;obtain⟨U,b2⟩:=b;unfold Qq at *;simp only at h1 I;by_cases h:J=U
 ·rw[if_pos h] at h1;rw[if_pos h.symm] at I
  simp at h1 I;rw[h,show a2=b2 by omega]
 ·rw[if_neg h] at h1;rw[if_neg (fun e=>h e.symm)] at I
  simp at h1 I;omega
theorem Qnl (a b:Int×Int):decide (QeQ a b<0)=Qq a b:=by
 have:=Qpg a b
 cases h:Qq a b with
 | false=>rw[h] at this;simp at this ⊢;omega
 | true=>rw[h] at this;simp at this ⊢;omega
theorem Qqo (a b:Int×Int):decide (QeQ a b=0)=decide (a=b):=by
 obtain⟨U,a2⟩:=a;obtain⟨b1,b2⟩:=b;unfold QeQ mCmp;refine decide_eq_decide.2 ?_;simp only[aLe];by_cases h1:U<b1
 ·simp[h1];omega
 ·by_cases I:b1<U
  ·simp[h1,I];omega
  ·by_cases J:a2<b2
   ·simp[h1,I,J];omega
   ·by_cases h4:b2<a2
    ·simp[h1,I,J,h4];omega
    ·simp[h1,I,J,h4];omega
def Rise (l:List TCoin):Prop:=l.Pairwise fun a b=>Qq a.1 b.1=true
theorem QeF {l:List TCoin} (h:Zs l=0):Rise l:=by
 unfold Zs at h;by_cases J:(40:Int)<(l.length:Int)
 ·rw[if_pos J] at h;cases h
 ·rw[if_neg J] at h
  have step:∀i (hi:i+1<l.length),Qq (l[i]'(by omega)).1 l[i+1].1=true:=fun i hi=>by
   have I:=Yg h (i+1) _ (aLf hi)
   unfold Qis at I;cases h1:mRef l[i+1].1&&mIn l[i+1].2.2.1 0 999 with
   | false=>rw[h1] at I;simp at I
   | true=>
    rw[h1,if_pos rfl] at I;by_cases U:mOut l[i+1].2.1=0
    ·rw[if_pos U,Nat.add_sub_cancel,aLk,aLf (by omega:i<l.length)] at I
     cases h3:Qq (l[i]'(by omega)).1 l[i+1].1 with
     | true=>rfl
     | false=>
      simp only[Option.getD_some] at I;simp[h3] at I
    ·rw[if_neg U] at I;exact absurd I U
  unfold Rise;rw[List.pairwise_iff_getElem];intro i j hi hj hij;obtain⟨d,rfl⟩:∃d,j=i+1+d:=⟨j - (i+1),by omega⟩
  induction d with
  | zero=>exact step i hj
  | succ d ih=>exact QbG (ih (by omega) (by omega)) (step (i+1+d) hj)
theorem Qcp {l:List TCoin} (h:Rise l) {i j:Nat} (I:i<j) (hj:j<l.length):Qq (l[i]'(by omega)).1 l[j].1=true:=List.pairwise_iff_getElem.1 h i j (by omega) hj I
theorem Qi7 {l:List TCoin} (h:Rise l) {a b:TCoin} (I:a ∈ l) (hb:b ∈ l) (he:a.1=b.1):a=b:=by
 obtain⟨i,hi,rfl⟩:=List.mem_iff_getElem.1 I;obtain⟨j,hj,rfl⟩:=List.mem_iff_getElem.1 hb;rcases Nat.lt_trichotomy i j with h1 | h1 | h1
 ·have:=Qcp h h1 hj;rw[he,Z7] at this;cases this
 ·subst h1;rfl
 ·have:=Qcp h h1 hi;rw[he,Z7] at this;cases this
theorem Qkd {l:List TCoin} (hr:Rise l) (hl:l.length<=1000000) (r:Int×Int):∃k:Nat,Y9 l r=some ((k:Int),decide (∃h:k<l.length,(l[k]'h).1=r))/\((∃h:k<l.length,(l[k]'h).1=r)\/∀x,x ∈ l->x.1 ≠ r):=by
 obtain⟨k,h1,h2,h3⟩:=Qjm l.length (fun i=>Qq (List.getD l i dC).1 r) (fun i j hij hj hp=>by
  rcases Nat.lt_or_ge i j with h | h
  ·have hi:i<l.length:=by omega
   have:=Qcp hr h hj
   have e1:List.getD l i dC=l[i]:=by rw[aLk,aLf hi];rfl
   have e2:List.getD l j dC=l[j]:=by rw[aLk,aLf hj];rfl
   simp only[e1,e2] at hp ⊢;exact QbG this hp
  ·obtain rfl:i=j:=by omega
   exact hp)
 have I:∀i (hi:i<l.length),List.getD l i dC=l[i]:=fun i hi=>by rw[aLk,aLf hi];rfl
 refine⟨k,?_,?_⟩
 ·unfold Y9 QZ
  have hcmp:∀(x:TCoin),((Qam x r).bind fun r7=>some r7)=some (QeQ x.1 r):=fun x=>by
   unfold Qam;rw[Qe2];rfl
  simp only[hcmp,aLc];rw[Qow l.length k h1 _ (fun lo hi hlo hhi=>?_) (fun lo=>by simp only[Int.lt_irrefl,decide_false,aLC]),aLc]
  ·by_cases hk:k<l.length
   ·have hd:List.getD l (Int.toNat (k:Int)) dC=l[k]:=by rw[Int.toNat_natCast];exact I k hk
    rw[dlt hk,aLB,Qb l k hk,aLB];show some ((k:Int),decide (QeQ (List.getD l (Int.toNat (k:Int)) dC).1 r=0))=_
    rw[hd,Qqo];congr 2;exact decide_eq_decide.2 ⟨fun h=>⟨hk,h⟩,fun ⟨_,h⟩=>h⟩
   ·have hf:decide (∃h:k<l.length,(l[k]'h).1=r)=false:=aLD (fun ⟨h,_⟩=>hk h)
    rw[dge' (by omega),aLC,aLc,hf];rfl
  ·have hm:=Qqu (lo:=lo) (hi:=hi) (by omega)
   have J:(lo+hi) / 2<l.length:=by omega
   simp only[hm];rw[aLE (by omega),aLB,Qb l _ J,aLB]
   have hd:List.getD l (Int.toNat (((lo+hi) / 2:Nat):Int)) ((0,0),((0,([],(0,0))),(0,false)))=l[(lo+hi) / 2]:=by rw[Int.toNat_natCast];exact I _ J
   rw[hd,Qnl,wsucc J (by unfold BIG;omega)]
   by_cases U:(lo+hi) / 2<k
   ·have:=h2 _ U
    rw[I _ J] at this;rw[this,if_pos U];rfl
   ·have:=h3 _ (by omega) J
    rw[I _ J] at this;rw[this,if_neg U];rfl
 ·by_cases hf:∃h:k<l.length,(l[k]'h).1=r
  ·exact .inl hf
  ·refine .inr fun x hx he=>hf ?_
   obtain⟨i,hi,rfl⟩:=List.mem_iff_getElem.1 hx;have hik:¬i<k:=fun h=>by
    have:=h2 i h
    rw[I i hi,he,Z7] at this;cases this
   refine⟨by omega,?_⟩
   rcases Nat.lt_or_ge k i with h | h
   ·have h4:=Qcp hr h hi
    have h5:=h3 k (Nat.le_refl _) (by omega)
    rw[I k (by omega)] at h5
    rw[he] at h4;rw[h4] at h5;cases h5
   ·obtain rfl:i=k:=by omega
    exact he
end GL
end Go.Dx
set_option maxHeartbeats 2000000
namespace Go.Dx
namespace GL
theorem Qn1 (l:List Int) (I:l.length<=LIM):ZW l=some l:=by
 unfold ZW;rw[Qgu I,aLB];cases l with
 | nil=>exact Qj3 _
 | cons a l=>rfl
theorem QhN (o:TOut) (h:o.2.1.length<=1000000):Qbt o=some o:=by
 unfold Qbt QeD;rw[Qn1 _ (by unfold LIM;omega)];rfl
theorem QbJ (l:List TCoin) (J:l.length<=1000000) (hk:∀x,x ∈ l->x.2.1.2.1.length<=1000000):Yw l=some l:=by
 unfold Yw;rw[ZE (σ:=List TCoin) l (fun acc a=>acc++[a]) (fun t i=>(t,i)) (fun t=>t) (fun t i=>t.length=i) _ (fun i hi t I=>by
   refine⟨?_,by simp[I]⟩
   simp only[dlt hi,Qb _ i hi,Qa _ i _ hi,aLB,QhN _ (hk _ (aLl hi)),aLc,wsucc hi (by unfold BIG;omega)]
   rw[Qp (by simp only[aLh,aLj];unfold LIM;omega)];rfl) (fun t I=>by simp only[dge,aLC]) [] rfl,aLc,foldl_map (fun a=>a),List.map_id',aLx]
theorem Qdi (l:List TCoin) (U:l.length<=1000000) (hk:∀x,x ∈ l->x.2.1.2.1.length<=1000000):Jh l=some l:=by
 unfold Jh;have J:∀r:TRu,r.1.length<=1000000->Jl r=some r:=fun r hr=>by
  unfold Jl;rw[Qgu (by unfold LIM;omega)];rfl
 rw[ZE (σ:=List TCoin) l (fun acc a=>acc++[a]) (fun t i=>(t,i)) (fun t=>t) (fun t i=>t.length=i) _ (fun i hi t I=>by
   refine⟨?_,by simp[I]⟩
   simp only[dlt hi,Qb _ i hi,Qa _ i _ hi,aLB,J _ (hk _ (aLl hi)),aLc,wsucc hi (by unfold BIG;omega)]
   rw[Qp (by simp only[aLh,aLj];unfold LIM;omega)];rfl) (fun t I=>by simp only[dge,aLC]) [] rfl,aLc,foldl_map (fun a=>a),List.map_id',aLx]
def mSp (c:List TCoin) (t:TX):List TCoin:=c.filter fun x=>decide (x.1 ∈ t.2.2.1)
theorem YI {c:List TCoin} (h:Zs c=0):∀x,x ∈ c->x.2.1.2.1.length<=1000000:=fun x I=>by
 have:=(Ye ((Jq h).2 x I).rule).len;omega
theorem Qes {c:List TCoin} (h:Zs c=0) (t:TX) (J:t.2.2.1.length<=1000000):JF c t=some (mSp c t,decide ((mSp c t).length=t.2.2.1.length)):=by
 have U:=(Jq h).1
 unfold JF mSp;rw[ZE (σ:=List TCoin) c (fun acc a=>if decide (a.1 ∈ t.2.2.1) then acc++[a] else acc) (fun t i=>(t,i)) (fun t=>t) (fun t i=>t.length<=i) _ (fun i hi x I=>by
   refine⟨?_,by split<;>(try simp only[aLi,aLh,aLj])<;>omega⟩
   simp only[dlt hi,Qb _ i hi,Qa _ i _ hi,aLB,QcM t.2.2.1 (by unfold BIG;omega),aLc,wsucc hi (by unfold BIG;omega)]
   rw[Qp (by simp only[aLh,aLj];unfold LIM;omega)]
   cases decide (c[i].1 ∈ t.2.2.1)<;>rfl) (fun t J=>by simp only[dge,aLC]) [] (Nat.le_refl _),aLc,foldl_filter,aLx]
 rw[Qdi _ (by have:=List.length_filter_le (fun x:TCoin=>decide (x.1 ∈ t.2.2.1)) c;omega) (fun x I=>YI h x (List.mem_filter.1 I).1),aLc]
 congr 2;exact decide_eq_decide.2 (by omega)
theorem Qkg {c xs ys:List TCoin} (hc:Rise c) (hx:∀x,x ∈ xs->x ∈ c) (hp:ys.Perm xs) (hy:Rise ys) (hl:xs.length<=1000000):Qbl xs=some ys:=by
 unfold Qbl ZH;have hg:∀a b:TCoin,((Yd a b).bind fun U=>some U)=some (QeQ a.1 b.1):=fun a b=>by
  unfold Yd;rw[Qe2];rfl
 have I:∀a b:TCoin,QbQ (fun a b=>(Yd a b).bind fun U=>some U) a b=Qq a.1 b.1:=fun a b=>by
  unfold QbQ;simp only[hg];exact Qnl a.1 b.1
 have hso:QgT (fun a b=>(Yd a b).bind fun U=>some U) xs:=by
  refine⟨fun a _ b _=>⟨_,hg a b⟩,fun a _=>by rw[I];exact Z7 _,fun a _ b _ d _ h1 J=>?_,fun a _ b _ d _ h1 J=>?_,fun a ha b hb h1 J=>?_,by omega⟩
  ·rw[I] at h1 J ⊢;exact QbG h1 J
  ·rw[I] at h1 J ⊢
   cases h3:Qq a.1 d.1 with
   | false=>rfl
   | true=>
    cases h4:Qq d.1 b.1 with
    | true=>have:=QbG h3 h4;rw[h1] at this;cases this
    | false=>
     have e:=Qio J h4
     rw[e] at h1;rw[h3] at h1;cases h1
  ·rw[I] at h1 J
   exact Qi7 hc (hx a ha) (hx b hb) (Qio h1 J)
 have hss:Sorts (fun a b=>(Yd a b).bind fun U=>some U) xs ys:=⟨hp,List.Pairwise.imp (fun {a b} h=>by rw[I];exact Qn0 h) hy⟩
 rw[Qsg hso hss];rfl
def atC (c:List TCoin) (r:Int×Int):Option TCoin:=c.find? fun x=>decide (x.1=r)
theorem QeG {c:List TCoin} {r:Int×Int} {x:TCoin} (h:atC c r=some x):x ∈ c/\x.1=r:=⟨List.mem_of_find?_eq_some h,by simpa using List.find?_some h⟩
theorem Qp9 {c:List TCoin} (J:Rise c) {x:TCoin} (I:x ∈ c):atC c x.1=some x:=by
 cases h:atC c x.1 with
 | none=>
  unfold atC at h;rw[List.find?_eq_none] at h;exact absurd (by simp) (h x I)
 | some y=>
  obtain⟨h1,U⟩:=QeG h;rw[Qi7 J h1 I U]
theorem Qrp {c:List TCoin} {r:Int×Int} (h:∀x,x ∈ c->x.1 ≠ r):atC c r=none:=by
 unfold atC;rw[List.find?_eq_none];intro x I;simpa using h x I
theorem QoP {c:List TCoin} (J:Rise c) (rs:List (Int×Int)) (U:rs.Nodup):(c.filter fun x=>decide (x.1 ∈ rs)).Perm (rs.filterMap (atC c)):=by
 have n1:(c.filter fun x=>decide (x.1 ∈ rs)).Nodup:=by
  rw[List.nodup_iff_pairwise_ne];exact List.Pairwise.sublist List.filter_sublist (List.Pairwise.imp (fun {a b} h e=>by rw[e,Z7] at h;cases h) J)
 have n2:(rs.filterMap (atC c)).Nodup:=by
  rw[List.nodup_iff_pairwise_ne,List.pairwise_filterMap];rw[List.nodup_iff_pairwise_ne] at U;refine List.Pairwise.imp (fun {a b} h x hx y hy e=>h ?_) U
  rw[<-(QeG hx).2,<-(QeG hy).2,e]
 refine (List.perm_ext_iff_of_nodup n1 n2).2 fun x=>?_
 rw[List.mem_filter,List.mem_filterMap];constructor
 ·rintro ⟨h1,I⟩
  exact⟨x.1,aLG I,Qp9 J h1⟩
 ·rintro ⟨r,h1,I⟩
  obtain⟨h3,h4⟩:=QeG I;exact⟨h3,aLE (h4 ▸ h1)⟩
theorem QfN {c:List TCoin} (I:Rise c) (p:TCoin->Bool):Rise (c.filter p):=List.Pairwise.sublist List.filter_sublist I
theorem Qex {c:List TCoin} (h:Zs c=0) (t:TX) (ht:okT t):JB c t=some (if (mSp c t).length=t.2.2.1.length then (mSp c t,0) else ([],4)):=by
 have hl:=(Jq h).1
 have U:=QeF h
 have hp:=QoP U t.2.2.1 ht.nd
 have hli:=ht.li
 have J:∀r:Int×Int,∃k:Int,∃b,Y9 c r=some (k,b)/\(b=true->∃x,atC c r=some x/\inB k c=true/\List.getD c (Int.toNat k) ((0,0),((0,([],(0,0))),(0,false)))=x)/\(b=false->atC c r=none):=fun r=>by
  obtain⟨k,hk,hor⟩:=Qkd U (by omega) r
  refine⟨k,_,hk,fun hb=>?_,fun hb=>?_⟩
  ·obtain⟨h1,h2⟩:=aLG hb
   exact⟨c[k],by rw[<-h2];exact Qp9 U (aLl h1),Qb c k h1,Qa c k _ h1⟩
  ·rcases hor with h1 | h1
   ·exact absurd h1 (aLH hb)
   ·exact Qrp h1
 have loop:∀(f:List TCoin×Int->Option ((List TCoin×Int)⊕(List TCoin⊕(List TCoin×Int)))),
   (∀(i:Nat) (hi:i<t.2.2.1.length) (acc:List TCoin),acc.length<=i->f (acc,(i:Int))=some (match atC c t.2.2.1[i] with | some x=>.inl (acc++[x],((i+1:Nat):Int)) | none=>.inr (.inr ([],4))))->(∀acc,f (acc,(t.2.2.1.length:Int))=some (.inr (.inl acc)))->
   Qc f ([],0)=some (if (mSp c t).length=t.2.2.1.length then .inl (t.2.2.1.filterMap (atC c)) else .inr ([],4)):=by
  intro f hs he;have key:∀(k i:Nat) (acc:List TCoin),i+k=t.2.2.1.length->acc.length<=i->Qc f (acc,(i:Int))=some (if ((t.2.2.1.drop i).filterMap (atC c)).length=k then .inl (acc++(t.2.2.1.drop i).filterMap (atC c)) else .inr ([],4)):=by
   intro k;induction k with
   | zero=>
    intro i acc hi ha;obtain rfl:i=t.2.2.1.length:=by omega
    rw[Qg (he acc)];simp
   | succ k ih=>
    intro i acc hi ha;have hlt:i<t.2.2.1.length:=by omega
    have h1:=hs i hlt acc ha
    rw[aLr hlt];have hle:=List.length_filterMap_le (atC c) (t.2.2.1.drop (i+1))
    rw[aLz] at hle;cases I:atC c t.2.2.1[i] with
    | none=>
     rw[I] at h1;rw[Qg h1,List.filterMap_cons_none I,if_neg (by omega)]
    | some x=>
     rw[I] at h1;rw[Qv h1,ih (i+1) _ (by omega) (by simp;omega),List.filterMap_cons_some I]
     by_cases hk:((t.2.2.1.drop (i+1)).filterMap (atC c)).length=k
     ·rw[if_pos hk,if_pos (by simp;omega)];simp
     ·rw[if_neg hk,if_neg (by simp;omega)]
  have:=key t.2.2.1.length 0 [] (by omega) (by simp)
  rw[List.drop_zero,aLx,<-hp.length_eq] at this;exact this
 unfold JB;rw[loop _ (fun i hi acc ha=>?_) (fun acc=>by simp only[dge,aLC]),aLc]
 ·by_cases hlen:(mSp c t).length=t.2.2.1.length
  ·rw[if_pos hlen,if_pos hlen]
   have hm:∀x,x ∈ t.2.2.1.filterMap (atC c)->x ∈ c:=fun x I=>by
    obtain⟨r,_,h2⟩:=List.mem_filterMap.1 I;exact (QeG h2).1
   have hfl:=List.length_filterMap_le (atC c) t.2.2.1
   rw[Sum.elim_inl,QbJ _ (by omega) (fun x I=>YI h x (hm x I)),aLc,Qkg U hm hp (QfN U _) (by omega)]
   rfl
  ·rw[if_neg hlen,if_neg hlen];rfl
 ·obtain⟨k,b,e1,e2,e3⟩:=J t.2.2.1[i]
  simp only[dlt hi,Qb _ i hi,Qa _ i _ hi,aLB,e1,aLc,wsucc hi (by unfold BIG;omega)]
  cases b with
  | false=>rw[e3 rfl];rfl
  | true=>
   obtain⟨x,h1,h2,h3⟩:=e2 rfl;rw[h1,h2,h3];simp only[Bool.not_true,aLC,aLB];rw[Qp (by simp only[aLh,aLj];unfold LIM;omega)];rfl
end GL
end Go.Dx
set_option maxHeartbeats 2000000
namespace Go.Dx
namespace GL
def mCnt (l:TL) (ks:List Int) (id:Int):Int:=ks.foldl (fun n k=>if decide ((k,id) ∈ l.2) then IntKind.wrap .i64 (n+1) else n) 0
def mMet (l:TL) (r:TRu) (id h:Int):Int:=if h<r.2.2 then 9 else if mCnt l r.1 id<r.2.1 then 6 else 0
theorem Qlj {l:TL} (I:okL l) (k id:Int):ZL l k id=some (decide ((k,id) ∈ l.2)):=by
 unfold ZL;rw[Qf3 _ (by have:=I.n2;unfold BIG;omega)];rfl
theorem QoL {l:TL} (I:okL l) (k id:Int):QaI l k id=some (decide ((k,id) ∈ l.2)):=by
 unfold QaI;rw[QfV _ (by have:=I.n2;unfold BIG;omega)];rfl
theorem QpX {l:TL} (J:okL l) (r:TRu) (U:r.1.length<BIG) (id h:Int):Y8 l r id h=some (mMet l r id h):=by
 unfold Y8 mMet;by_cases h1:h<r.2.2
 ·rw[aLE h1,if_pos h1];rfl
 ·rw[aLD h1,if_neg h1,aLC]
  rw[ZE (σ:=Int) r.1 (fun n k=>if decide ((k,id) ∈ l.2) then IntKind.wrap .i64 (n+1) else n) (fun t i=>(t,i)) (fun t=>t) (fun _ _=>True) _ (fun i hi x hx=>by
    refine⟨?_,trivial⟩;simp only[dlt hi,Qb _ i hi,Qa _ i _ hi,aLB,Qlj J,aLc,wsucc hi U];cases decide ((r.1[i],id) ∈ l.2)<;>rfl) (fun t ht=>by simp only[dge,aLC]) 0 trivial,aLc]
  show (bif decide (mCnt l r.1 id<r.2.1) then some (6:Int) else some 0)=_
  by_cases I:mCnt l r.1 id<r.2.1
  ·rw[aLE I,if_pos I];rfl
  ·rw[aLD I,if_neg I];rfl
theorem Qss {l:TL} (J:okL l) (r:TRu) (U:r.1.length<BIG) (id h:Int):Qej l r id h=some (mMet l r id h):=by
 unfold Qej mMet;by_cases h1:h<r.2.2
 ·rw[aLE h1,if_pos h1];rfl
 ·rw[aLD h1,if_neg h1,aLC]
  rw[ZE (σ:=Int) r.1 (fun n k=>if decide ((k,id) ∈ l.2) then IntKind.wrap .i64 (n+1) else n) (fun t i=>(t,i)) (fun t=>t) (fun _ _=>True) _ (fun i hi x hx=>by
    refine⟨?_,trivial⟩;simp only[dlt hi,Qb _ i hi,Qa _ i _ hi,aLB,QoL J,aLc,wsucc hi U];cases decide ((r.1[i],id) ∈ l.2)<;>rfl) (fun t ht=>by simp only[dge,aLC]) 0 trivial,aLc]
  show (bif decide (mCnt l r.1 id<r.2.1) then some (6:Int) else some 0)=_
  by_cases I:mCnt l r.1 id<r.2.1
  ·rw[aLE I,if_pos I];rfl
  ·rw[aLD I,if_neg I];rfl
def QhB (x:TCoin) (h:Int):Bool:=!x.2.2.2 || decide (IntKind.wrap .i64 (x.2.2.1+2)<=h)
theorem QrG (x:TCoin) (h:Int):Qdx x h=some (QhB x h):=by
 unfold Qdx QhB;cases x.2.2.2<;>rfl
theorem QrA (x:TCoin) (h:Int) (h1:mIn x.2.2.1 0 999=true) (I:mIn h 0 999=true):Qdz x h=some (QhB x h):=by
 unfold Qdz QhB;rw[Qb0,Qb0,h1,I];cases x.2.2.2<;>rfl
def mSum (l:List TCoin):Int:=l.foldl (fun n x=>IntKind.wrap .i64 (n+x.2.1.1)) 0
def Qdn (l:List TOut):Int:=l.foldl (fun n x=>IntKind.wrap .i64 (n+x.1)) 0
theorem QoJ (l:List TCoin) (I:l.length<BIG):Qd3 l=some (mSum l)/\Qd1 l=some (mSum l):=by
 constructor
 ·unfold Qd3
  rw[ZE (σ:=Int) l (fun n x=>IntKind.wrap .i64 (n+x.2.1.1)) (fun t i=>(t,i)) (fun t=>t) (fun _ _=>True) _ (fun i hi x J=>by
    refine⟨?_,trivial⟩;simp only[dlt hi,Qb _ i hi,Qa _ i _ hi,aLB,aLc,wsucc hi I]) (fun t U=>by simp only[dge,aLC]) 0 trivial,aLc];rfl
 ·unfold Qd1
  rw[ZE (σ:=Int) l (fun n x=>IntKind.wrap .i64 (n+x.2.1.1)) (fun t i=>(t,i)) (fun t=>t) (fun _ _=>True) _ (fun i hi x J=>by
    refine⟨?_,trivial⟩;simp only[dlt hi,Qb _ i hi,Qa _ i _ hi,aLB,aLc,wsucc hi I]) (fun t U=>by simp only[dge,aLC]) 0 trivial,aLc];rfl
theorem Qnn (t:TX) (I:t.2.2.2.length<BIG):Qdh t=some (Qdn t.2.2.2)/\Qd6 t=some (Qdn t.2.2.2):=by
 constructor
 ·unfold Qdh
  rw[ZE (σ:=Int) t.2.2.2 (fun n x=>IntKind.wrap .i64 (n+x.1)) (fun t i=>(t,i)) (fun t=>t) (fun _ _=>True) _ (fun i hi x J=>by
    refine⟨?_,trivial⟩;simp only[dlt hi,Qb _ i hi,Qa _ i _ hi,aLB,aLc,wsucc hi I]) (fun t U=>by simp only[dge,aLC]) 0 trivial,aLc];rfl
 ·unfold Qd6
  rw[ZE (σ:=Int) t.2.2.2 (fun n x=>IntKind.wrap .i64 (n+x.1)) (fun t i=>(t,i)) (fun t=>t) (fun _ _=>True) _ (fun i hi x J=>by
    refine⟨?_,trivial⟩;simp only[dlt hi,Qb _ i hi,Qa _ i _ hi,aLB,aLc,wsucc hi I]) (fun t U=>by simp only[dge,aLC]) 0 trivial,aLc];rfl
def mC1 (l:TL) (id h:Int) (x:TCoin):Int:=if QhB x h then mMet l x.2.1.2 id h else 9
def Qmy (l:TL) (sp:List TCoin) (t:TX) (id:Int):Int×Int:=if t.1=2/\(t.2.1,id) ∉ l.2 then (0,6) else if IntKind.wrap .i64 (mSum sp - Qdn t.2.2.2)<0 then (0,8) else (IntKind.wrap .i64 (mSum sp - Qdn t.2.2.2),0)
def Qg9 (l:TL) (c:List TCoin) (t:TX) (id h:Int):Int×Int:=if (mSp c t).length=t.2.2.1.length then (if code (fun _=>mC1 l id h) (mSp c t)=0 then Qmy l (mSp c t) t id else (0,code (fun _=>mC1 l id h) (mSp c t))) else (0,4)
def mId (l:TL) (s:List UInt8):Int:=idxF (fun a=>decide (a=s)) l.1+1
def mChk (l:TL) (c:List TCoin) (t:TX) (h:Int):Int×Int:=if (Qo t).length<=300 then (if mId l (Qo t)=0 then (0,4) else Qg9 l c t (mId l (Qo t)) h) else (0,2)
theorem Qj7 {α R:Type} (l:List α) (c:α->Int) (f:Int->Option (Int⊕(Unit⊕(Int×Int))))
  (J:∀(i:Nat) (h:i<l.length),f (i:Int)=some (if c l[i]=0 then .inl ((i+1:Nat):Int) else .inr (.inr (0,c l[i])))) (he:f (l.length:Int)=some (.inr (.inl ()))) (A:Unit->Option R) (B:Int×Int->Option R) :
  ((Qc f 0).bind fun j=>Sum.elim A B j)=if code (fun _=>c) l=0 then A () else B (0,code (fun _=>c) l):=by
 rw[Jt l (fun i a=>(if c a=0 then none else some (c a)).map fun v=>((0:Int),v)) f (fun i h=>by rw[J i h];by_cases U:c l[i]=0<;>simp[U]) he,Qhg,Qac]
 by_cases I:code (fun _=>c) l=0
 ·rw[if_pos I]
  have hz:=Yg I
  have:first (fun (_:Nat) a=>if c a=0 then none else some (c a)) 0 l=none:=(QcR l 0).2 (fun j a ha=>by rw[if_pos (hz j a ha)])
  rw[this];rfl
 ·rw[if_neg I]
  unfold code at I ⊢;cases hf:first (fun (_:Nat) a=>if c a=0 then none else some (c a)) 0 l with
  | none=>rw[hf] at I;exact absurd rfl I
  | some r=>rfl
theorem Qik {c:List TCoin} {t:TX} {x:TCoin} (h:x ∈ mSp c t):x ∈ c:=(List.mem_filter.1 h).1
theorem QhA {l:TL} (t:TX) (id:Int) (g:Int->Int->Option Bool) (I:g t.2.1 id=some (decide ((t.2.1,id) ∈ l.2))):(bif decide (t.1=2) then (g t.2.1 id).bind fun y=>some (!y) else some false)=some (decide (t.1=2/\(t.2.1,id) ∉ l.2)):=by
 rw[I];by_cases h1:t.1=2<;>by_cases J:(t.2.1,id) ∈ l.2<;>simp[h1,J]
theorem QkO {l:TL} (hl:okL l) {c:List TCoin} (hc:Zs c=0) {t:TX} (ht:okT t) (id h:Int):QaU l c t id h=some (Qg9 l c t id h):=by
 have hB:BIG=4611686018427387904:=rfl
 have hcl:=(Jq hc).1
 have hspl:(mSp c t).length<=c.length:=List.length_filter_le _ c
 unfold QaU Qg9;rw[Qes hc t (by have:=ht.li;omega),aLc]
 by_cases h1:(mSp c t).length=t.2.2.1.length
 ·simp only[h1,decide_true,Bool.not_true,aLC,if_true]
  rw[Qj7 (mSp c t) (mC1 l id h) _ (fun i hi=>?_) (by rw[<-h1];simp only[dge,aLC])]
  ·by_cases J:code (fun _=>mC1 l id h) (mSp c t)=0
   ·rw[if_pos J,if_pos J,QhA (l:=l) t id (QaI l) (QoL hl _ _),aLc,(QoJ _ (by omega)).2,(Qnn t ht.b.outs).2]
    unfold Qmy;by_cases I:t.1=2/\(t.2.1,id) ∉ l.2
    ·rw[aLE I,if_pos I];rfl
    ·rw[aLD I,if_neg I]
     simp only[aLC,aLc];by_cases U:IntKind.wrap .i64 (mSum (mSp c t) - Qdn t.2.2.2)<0
     ·rw[aLE U,if_pos U];rfl
     ·rw[aLD U,if_neg U];rfl
   ·rw[if_neg J,if_neg J]
  ·have hr:(mSp c t)[i].2.1.2.1.length<BIG:=by have:=YI hc _ (Qik (aLl hi));omega
   have hi2:i<t.2.2.1.length:=by omega
   simp only[dlt hi2,Qb _ i hi,Qa _ i _ hi,aLB,QrG,Qss hl _ hr,aLc,wsucc hi (by omega)]
   unfold mC1;cases QhB (mSp c t)[i] h
   ·rfl
   ·by_cases I:mMet l (mSp c t)[i].2.1.2 id h=0
    ·rw[aLE I];simp[I]
    ·rw[aLD I];simp[I]
 ·simp only[h1,decide_false,Bool.not_false,aLB,if_false]
theorem QkQ {l:TL} (hl:mLF l=0) {c:List TCoin} (U:Zs c=0) {t:TX} (ht:mTxF t=0) {h:Int} (hh:mIn h 0 999=true):QcE l c t h=some ((mChk l c t h).2,if (mChk l c t h).2=0 then (mChk l c t h).1 else 0):=by
 have hB:BIG=4611686018427387904:=rfl
 have I:=Qd7 hl
 have hcl:=(Jq U).1
 unfold QcE mChk;rw[QaV l (by have:=I.n1;omega) (by have:=I.n2;omega),Qeu c (by omega) (fun x hx=>by have:=YI U x hx;omega),Qcz t (Qae ht).b,QbW,QlU ht]
 simp only[hl,U,ht,hh,decide_true,Bool.not_true,aLC,aLc];by_cases h1:(Qo t).length<=300
 ·rw[if_pos h1,if_pos h1]
  simp only[decide_true,Bool.not_true,aLC];rw[Qi3 _ (by have:=I.n1;omega),aLc]
  show (bif decide (mId l (Qo t)=0) then some ((4:Int),(0:Int)) else _)=_
  by_cases h2:mId l (Qo t)=0
  ·rw[aLE h2,if_pos h2];rfl
  ·rw[aLD h2,if_neg h2,aLC]
   show ((QaU l c t (mId l (Qo t)) h).bind _)=_
   rw[QkO I U (Qae ht),aLc];by_cases J:(Qg9 l c t (mId l (Qo t)) h).2=0
   ·rw[aLE J,if_pos J,J];rfl
   ·rw[aLD J,if_neg J];rfl
 ·rw[if_neg h1,if_neg h1];rfl
theorem Qsp (l:List (List UInt8)) (x:List UInt8):idxF (fun a=>decide (x=a)) l=idxF (fun a=>decide (a=x)) l:=by
 congr 1
 funext a
 exact decide_eq_decide.2 ⟨Eq.symm,Eq.symm⟩
theorem Qte {α:Type} (p:α->Bool) (l:List α):-1<=idxF p l/\idxF p l<l.length:=by
 cases h:l.any p with
 | false=>
  have h1:=(QkJ p l).1 ((QfA p l).2 h)
  rw[h1];omega
 | true=>
  obtain⟨k,hk,e,_⟩:=QcO h;rw[e];omega
theorem Qtb {l:TL} (I:okL l) (s:List UInt8):J1 l s=some (mId l s):=by
 unfold J1 mId;have h1:=I.n1
 rw[Qi2 _ (by unfold BIG;omega),aLc,Qsp]
 have:=Qte (fun a=>decide (a=s)) l.1
 rw[QX (by omega) (by omega)]
theorem QkY {l:TL} (hl:okL l) {c:List TCoin} (U:Zs c=0) {t:TX} (ht:okT t) {h:Int} (hh:mIn h 0 999=true):Je l c t h=some (mChk l c t h):=by
 have hB:BIG=4611686018427387904:=rfl
 have hcl:=(Jq U).1
 have hspl:(mSp c t).length<=c.length:=List.length_filter_le _ c
 unfold Je mChk;rw[QhI ht,aLc];by_cases h1:(Qo t).length<=300
 ·rw[if_pos h1,if_pos h1]
  simp only[decide_true,Bool.not_true,aLC];rw[Qtb hl,aLc];by_cases J:mId l (Qo t)=0
  ·rw[aLE J,if_pos J];rfl
  ·rw[aLD J,if_neg J,aLC,Qex U t ht,aLc]
   generalize mId l (Qo t)=id;unfold Qg9;by_cases I:(mSp c t).length=t.2.2.1.length
   ·rw[if_pos I,if_pos I]
    simp only[decide_true,Bool.not_true,aLC];rw[Qj7 (mSp c t) (mC1 l id h) _ (fun i hi=>?_) (by simp only[dge,aLC])]
    ·by_cases J:code (fun _=>mC1 l id h) (mSp c t)=0
     ·rw[if_pos J,if_pos J,(QoJ _ (by omega)).1,(Qnn t ht.b.outs).1,aLc,aLc,QhA (l:=l) t id (ZL l) (Qlj hl _ _),aLc]
      unfold Qmy;by_cases I:t.1=2/\(t.2.1,id) ∉ l.2
      ·rw[aLE I,if_pos I];rfl
      ·rw[aLD I,if_neg I]
       simp only[aLC,aLc];by_cases h4:IntKind.wrap .i64 (mSum (mSp c t) - Qdn t.2.2.2)<0
       ·rw[aLE h4,if_pos h4];rfl
       ·rw[aLD h4,if_neg h4];rfl
     ·rw[if_neg J,if_neg J]
    ·have hx:=(Jq U).2 _ (Qik (aLl hi))
     have hr:(mSp c t)[i].2.1.2.1.length<BIG:=by have:=YI U _ (Qik (aLl hi));omega
     simp only[dlt hi,Qb _ i hi,Qa _ i _ hi,aLB,QrA _ h (QJ.2 hx.height) hh,QpX hl _ hr,aLc,wsucc hi (by omega)]
     unfold mC1;cases QhB (mSp c t)[i] h
     ·rfl
     ·by_cases I:mMet l (mSp c t)[i].2.1.2 id h=0
      ·rw[aLE I];simp[I]
      ·rw[aLD I];simp[I]
   ·rw[if_neg I,if_neg I];rfl
 ·rw[if_neg h1,if_neg h1];rfl
end GL
end Go.Dx
set_option maxHeartbeats 2000000
namespace Go.Dx
theorem Qsf {α:Type} (l:List α) (d:α) (p:α->Bool) (f:List α×Int×Int->Option ((List α×Int×Int)⊕(List α×Int)))
  (hs:∀(X:List α) (j i:Nat) (h:i<X.length),X.length=l.length->j<=i->f (X,(j:Int),(i:Int))=some (.inl (if p X[i] then (X,(j:Int),((i+1:Nat):Int)) else (X.set j X[i],((j+1:Nat):Int),((i+1:Nat):Int)))))
  (he:∀(X:List α) (j:Nat),X.length=l.length->f (X,(j:Int),(l.length:Int))=some (.inr (X,(j:Int)))) :
  ∀(k j i:Nat) (X:List α),i+k=l.length->j<=i->X.length=l.length->X.take j=(l.take i).filter (fun a=>!p a)->X.drop i=l.drop i->
   ∃(X':List α) (j':Nat),Qc f (X,(j:Int),(i:Int))=some (X',(j':Int))/\X'.length=l.length/\j'<=l.length/\X'.take j'=l.filter (fun a=>!p a):=by
 intro k;induction k with
 | zero=>
  intro j i X hi hj I ht hd;obtain rfl:i=l.length:=by omega
  exact⟨X,j,Qg (he X j I),I,hj,by rw[ht,List.take_length]⟩
 | succ k ih=>
  intro j i X hi hj I ht hd;have h:i<X.length:=by omega
  have h':i<l.length:=by omega
  have hx:X[i]=l[i]:=by
   rw[aLr h,aLr h'] at hd;exact (List.cons.inj hd).1
  have J:X.drop (i+1)=l.drop (i+1):=by
   rw[<-List.drop_drop,<-List.drop_drop,hd]
  have U:(l.take (i+1)).filter (fun a=>!p a)=(l.take i).filter (fun a=>!p a)++[l[i]].filter (fun a=>!p a):=by
   rw[List.take_succ_eq_append_getElem h',List.filter_append]
  rw[Qv (hs X j i h I hj)];rw[hx];cases hp:p l[i] with
  | true=>
   rw[if_pos rfl];refine ih j (i+1) X (by omega) (by omega) I ?_ J
   rw[U,ht];simp[hp]
  | false=>
   rw[if_neg (by simp)]
   refine ih (j+1) (i+1) (X.set j l[i]) (by omega) (by omega) (by simpa using I) ?_ ?_
   ·rw[U,<-ht]
    have hj2:j<(X.set j l[i]).length:=by rw[List.length_set];omega
    rw[List.take_succ_eq_append_getElem hj2,List.take_set_of_le (Nat.le_refl _)];simp[hp]
   ·rw[List.drop_set_of_lt (by omega),J]
theorem Qrn {α β:Type} (l:List α) (p:α->Bool) (k:Nat) (hk:k<l.length) (I:(l.take (k+1)).filter (fun a=>!p a)=l.take k) (f:List α×Int×Int->Option ((List α×Int×Int)⊕(List α×Int))) (G:List α×Int->Option β) (r:β)
  (hs:∀(X:List α) (j i:Nat) (h:i<X.length),X.length=l.length->j<=i->f (X,(j:Int),(i:Int))=some (.inl (if p X[i] then (X,(j:Int),((i+1:Nat):Int)) else (X.set j X[i],((j+1:Nat):Int),((i+1:Nat):Int)))))
  (he:∀(X:List α) (j:Nat),X.length=l.length->f (X,(j:Int),(l.length:Int))=some (.inr (X,(j:Int))))
  (hG:∀(J:List α) (U:Nat),J.length=l.length->U<=l.length->J.take U=l.filter (fun a=>!p a)->G (J,(U:Int))=some r) :
  (Qc f (l,(k:Int),((k+1:Nat):Int))).bind G=some r:=by
 obtain⟨J,U,e1,e2,e3,e4⟩:=Qsf l l[k] p f hs he (l.length - (k+1)) k (k+1) l (by omega) (by omega) rfl I.symm rfl
 rw[e1,aLc];exact hG J U e2 e3 e4
namespace GL
abbrev TMb:=Int×Int×Int
theorem Qgl (l:List TMb) (I:l.length<BIG) (p:TMb->Bool) (f:TMb->Option Bool) (J:∀a,a ∈ l->f a=some (p a)):QK l f=some (idxF p l):=by
 unfold QK;refine Jm l p _ (fun i h=>?_) (by simp only[dge,aLC])
 simp only[dlt h,Qb l i h,Qa l i _ h,aLB,J _ (aLl h),aLc,wsucc h I];cases p l[i]<;>rfl
theorem Qjv (l:List TMb) (hl:l.length<BIG) (p:TMb->Bool) (f:TMb->Option Bool) (hf:∀a,f a=some (p a)):Q0 l f=some (l.filter (fun a=>!p a)):=by
 unfold Q0;rw[Qgl l hl p f (fun a _=>hf a),aLc]
 cases I:l.any p with
 | false=>
  have h1:idxF p l = -1:=(QkJ p l).1 ((QfA p l).2 I)
  rw[h1];simp only[decide_true,aLB];congr 1;refine (List.filter_eq_self.2 fun a ha=>?_).symm
  rw[List.any_eq_false] at I;simpa using I a ha
 | true=>
  obtain⟨k,hk,h1,h2,h3⟩:=QcO I;rw[h1,aLD (by omega:¬(k:Int) = -1),aLC,wsucc hk hl]
  have hpre:(l.take (k+1)).filter (fun a=>!p a)=l.take k:=by
   rw[List.take_succ_eq_append_getElem hk,List.filter_append];have e1:(l.take k).filter (fun a=>!p a)=l.take k:=List.filter_eq_self.2 fun a ha=>by
    obtain⟨j,hj,rfl⟩:=List.mem_iff_getElem.1 ha;rw[aLn] at hj;simp only[List.getElem_take];rw[h3 j (by omega)];rfl
   rw[e1];simp[h2]
  refine Qrn l p k hk hpre _ _ _ (fun X j i h hX hj=>?_) (fun X j hX=>by rw[<-hX];simp only[dge,aLC]) (fun J U e2 e3 e4=>?_)
  ·have e1:decide ((i:Int)<(X.length:Int))=true:=dlt h
   simp only[e1,Qb X i h,Qa X i _ h,aLB,hf,aLc,wsucc h (by omega:X.length<BIG),Qb X j (by omega),wsucc (by omega:j<X.length) (by omega:X.length<BIG)]
   cases p X[i] with
   | true=>rfl
   | false=>simp
  have c1:QO (U:Int) (J.length:Int) J=true:=by unfold QO;simp;omega
  have hcl:clr (s:=.prod (.int .i64) (.prod (.int .i64) (.int .i64))) (U:Int) (J.length:Int) J=J.take U++(List.replicate (J.length - U) ((0,0,0):TMb)++[]):=by
   unfold clr;simp[Sh.dflt]
  have c2:QO 0 (U:Int) (clr (s:=.prod (.int .i64) (.prod (.int .i64) (.int .i64))) (U:Int) (J.length:Int) J)=true:=by
   unfold QO;rw[hcl];simp;omega
  rw[c1,c2,aLB,aLB,hcl];simp only[Int.sub_zero,Int.toNat_natCast,Int.toNat_zero,List.drop_zero];rw[List.take_append_of_le_length (by rw[aLn];omega),List.take_take,Nat.min_self,e4]
theorem Qii (l:List TMb) (I:l.length<BIG) (p:TMb->Bool) (f:TMb->Option Bool) (J:∀a,a ∈ l->f a=some (p a)):QU l f=some (l.any p):=by
 unfold QU;rw[Qgl l I p f J,aLc,ZD]
def Qaj (l:List TMb):Prop:=l.Pairwise fun a b=>a.1<b.1
theorem QfJ {l:List TMb} (h:Qaj l) {i j:Nat} (I:i<j) (hj:j<l.length):(l[i]'(by omega)).1<l[j].1:=List.pairwise_iff_getElem.1 h i j (by omega) hj I
theorem Qif {l:List TMb} (hr:Qaj l) (hl:l.length<=1000000) (r:Int):∃k:Nat,k<=l.length/\Yy l r=some ((k:Int),l.any fun x=>decide (x.1=r))/\((l.any fun x=>decide (x.1=r))=true->∃h:k<l.length,(l[k]'h).1=r)/\(∀i (h:i<l.length),i<k->l[i].1<r)/\(∀i (h:i<l.length),k<=i->r<=l[i].1):=by
 obtain⟨k,h1,h2,h3⟩:=Qjm l.length (fun i=>decide ((List.getD l i (0,(0,0))).1<r)) (fun i j hij hj hp=>by
  rcases Nat.lt_or_ge i j with h | h
  ·have hi:i<l.length:=by omega
   have:=QfJ hr h hj
   have e1:List.getD l i (0,(0,0))=l[i]:=by rw[aLk,aLf hi];rfl
   have e2:List.getD l j (0,(0,0))=l[j]:=by rw[aLk,aLf hj];rfl
   simp only[e1,e2,aLF] at hp ⊢;omega
  ·obtain rfl:i=j:=by omega
   exact hp)
 have J:∀i (hi:i<l.length),List.getD l i (0,(0,0))=l[i]:=fun i hi=>by rw[aLk,aLf hi];rfl
 have g1:∀i (h:i<l.length),i<k->l[i].1<r:=fun i h hk=>by have:=h2 i hk;rw[J i h] at this;simpa using this
 have g2:∀i (h:i<l.length),k<=i->r<=l[i].1:=fun i h hk=>by have:=h3 i hk h;rw[J i h] at this;simpa using this
 have U:(l.any fun x=>decide (x.1=r))=decide (∃h:k<l.length,(l[k]'h).1=r):=by
  rw[Bool.eq_iff_iff,List.any_eq_true,aLF];constructor
  ·rintro ⟨x,hx,he⟩
   obtain⟨i,hi,rfl⟩:=List.mem_iff_getElem.1 hx;have he:l[i].1=r:=aLG he
   have hik:¬i<k:=fun h=>by have:=g1 i hi h;omega
   refine⟨by omega,?_⟩
   rcases Nat.lt_or_ge k i with h | h
   ·have h4:=QfJ hr h hi
    have h5:=g2 k (by omega) (Nat.le_refl _)
    omega
   ·obtain rfl:i=k:=by omega
    exact he
  ·rintro ⟨h,he⟩
   exact⟨_,aLl h,aLE he⟩
 refine⟨k,h1,?_,fun h=>by rw[U] at h;exact aLG h,g1,g2⟩
 rw[U];unfold Yy QY;have hcmp:∀(x:TMb),((Jv x r).bind fun r7=>some r7)=some (mCmp x.1 r):=fun x=>by
  unfold Jv;rw[Qe5];rfl
 simp only[hcmp,aLc];have hneg:∀a b:Int,decide (mCmp a b<0)=decide (a<b):=fun a b=>by
  unfold mCmp;refine decide_eq_decide.2 ?_;split
  ·simp;omega
  ·split<;>simp<;>omega
 have hzero:∀a b:Int,decide (mCmp a b=0)=decide (a=b):=fun a b=>by
  unfold mCmp;refine decide_eq_decide.2 ?_;split
  ·simp;omega
  ·split
   ·simp;omega
   ·simp;omega
 rw[Qow l.length k h1 _ (fun lo hi hlo hhi=>?_) (fun lo=>by simp only[Int.lt_irrefl,decide_false,aLC]),aLc]
 ·by_cases hk:k<l.length
  ·have hd:List.getD l (Int.toNat (k:Int)) (0,(0,0))=l[k]:=by rw[Int.toNat_natCast];exact J k hk
   rw[dlt hk,aLB,Qb l k hk,aLB];show some ((k:Int),decide (mCmp (List.getD l (Int.toNat (k:Int)) (0,(0,0))).1 r=0))=_
   rw[hd,hzero];congr 2;exact decide_eq_decide.2 ⟨fun h=>⟨hk,h⟩,fun ⟨_,h⟩=>h⟩
  ·have hf:decide (∃h:k<l.length,(l[k]'h).1=r)=false:=aLD (fun ⟨h,_⟩=>hk h)
   rw[dge' (by omega),aLC,aLc,hf];rfl
 ·have hm:=Qqu (lo:=lo) (hi:=hi) (by omega)
  have I:(lo+hi) / 2<l.length:=by omega
  simp only[hm];rw[aLE (by omega),aLB,Qb l _ I,aLB]
  have hd:List.getD l (Int.toNat (((lo+hi) / 2:Nat):Int)) (0,(0,0))=l[(lo+hi) / 2]:=by rw[Int.toNat_natCast];exact J _ I
  rw[hd,hneg,wsucc I (by unfold BIG;omega)]
  by_cases hmk:(lo+hi) / 2<k
  ·rw[aLE (g1 _ I hmk),if_pos hmk];rfl
  ·have:=g2 _ I (by omega)
   rw[aLD (by omega),if_neg hmk];rfl
theorem Qgz (l:List TMb) (I:l.length<=LIM):QD l=some l:=by
 unfold QD;rw[Qgu I,aLB];cases l with
 | nil=>exact Qj3 _
 | cons a l=>rfl
def mOff (l:List TMb) (t:TX):List TMb:=l.filter fun x=>!(decide (t.1=2)&&decide (x.1=t.2.1))&&!decide (x.2 ∈ t.2.2.1)
def Qkh (o:List TMb) (x:TMb):List TMb×Int:=if o.any (fun y=>decide (y.1=x.1) || decide (y.2=x.2)) then ([],7) else if 8<=o.length then ([],2) else (o.takeWhile (fun y=>decide (y.1<x.1))++[x]++o.dropWhile (fun y=>decide (y.1<x.1)),0)
def Qed (l:List TMb) (t:TX) (id:Int):List TMb×Int:=if t.1=2/\(l.any fun x=>decide (x.1=t.2.1))=false then ([],4) else if t.1=1 then Qkh (mOff l t) (t.2.1,(id,0)) else (mOff l t,0)
theorem QiP (l:List TMb) (I:l.length<BIG) (k:Int):QbF l k=some (idxF (fun x=>decide (x.1=k)) l):=by
 unfold QbF;refine Jm l _ _ (fun i h=>?_) (by simp only[dge,aLC])
 simp only[dlt h,Qb l i h,Qa l i _ h,aLB,wsucc h I];cases decide (l[i].1=k)<;>rfl
theorem Qgy {l:List TMb} {r:Int} {k:Nat} (hk:k<=l.length) (h1:∀i (h:i<l.length),i<k->l[i].1<r) (h2:∀i (h:i<l.length),k<=i->r<=l[i].1):l.takeWhile (fun y=>decide (y.1<r))=l.take k/\l.dropWhile (fun y=>decide (y.1<r))=l.drop k:=by
 have I:∀a,a ∈ l.take k->decide (a.1<r)=true:=fun a ha=>by
  obtain⟨i,hi,rfl⟩:=List.mem_iff_getElem.1 ha;rw[aLn] at hi;simp only[List.getElem_take];exact aLE (h1 i (by omega) (by omega))
 have e:l=l.take k++l.drop k:=(List.take_append_drop k l).symm
 have hd:∀a rest,l.drop k=a::rest->decide (a.1<r)=false:=fun a rest h=>by
  have J:k<l.length:=by
   rcases Nat.lt_or_ge k l.length with U | U
   ·exact U
   ·rw[List.drop_eq_nil_of_le U] at h;cases h
  rw[aLr J] at h;have:=h2 k J (Nat.le_refl _)
  rw[<-(List.cons.inj h).1];exact aLD (by omega)
 constructor
 ·conv=>lhs;rw[e]
  rw[List.takeWhile_append_of_pos I];cases hdr:l.drop k with
  | nil=>simp
  | cons a rest=>rw[List.takeWhile_cons,hd a rest hdr];simp
 ·conv=>lhs;rw[e]
  rw[List.dropWhile_append_of_pos I];cases hdr:l.drop k with
  | nil=>simp
  | cons a rest=>rw[List.dropWhile_cons,hd a rest hdr];simp
theorem Qjn {l:List TMb} (h:Qaj l) (p:TMb->Bool):Qaj (l.filter p):=List.Pairwise.sublist List.filter_sublist h
theorem Qk9 {o:List TMb} (U:Qaj o) (r:Int):∃k,k<=o.length/\(∀i (h:i<o.length),i<k->o[i].1<r)/\(∀i (h:i<o.length),k<=i->r<=o[i].1):=by
 obtain⟨k,h1,h2,h3⟩:=Qjm o.length (fun i=>decide ((List.getD o i (0,(0,0))).1<r)) (fun i j hij hj J=>by
  rcases Nat.lt_or_ge i j with h | h
  ·have hi:i<o.length:=by omega
   have:=QfJ U h hj
   have e1:List.getD o i (0,(0,0))=o[i]:=by rw[aLk,aLf hi];rfl
   have e2:List.getD o j (0,(0,0))=o[j]:=by rw[aLk,aLf hj];rfl
   simp only[e1,e2,aLF] at J ⊢;omega
  ·obtain rfl:i=j:=by omega
   exact J)
 have I:∀i (hi:i<o.length),List.getD o i (0,(0,0))=o[i]:=fun i hi=>by rw[aLk,aLf hi];rfl
 exact⟨k,h1,fun i h hk=>by have:=h2 i hk;rw[I i h] at this;simpa using this,fun i h hk=>by have:=h3 i hk h;rw[I i h] at this;simpa using this⟩
theorem Ql2 {o:List TMb} (hr:Qaj o) (hl:o.length<=1000000) (x:TMb):Qbw o x=some (Qkh o x):=by
 have hB:BIG=4611686018427387904:=rfl
 have hL:LIM=1073741824:=rfl
 unfold Qbw Qkh;rw[QiP _ (by omega),aLc,ZD]
 have U:(o.any fun y=>decide (y.1=x.1) || decide (y.2=x.2))=((o.any fun y=>decide (y.1=x.1)) || o.any fun y=>decide (y.2=x.2)):=by
  rw[Bool.eq_iff_iff];simp only[List.any_eq_true,Bool.or_eq_true];constructor
  ·rintro ⟨y,J,h | h⟩
   ·exact .inl ⟨y,J,h⟩
   ·exact .inr ⟨y,J,h⟩
  ·rintro (⟨y,J,h⟩ | ⟨y,J,h⟩)
   ·exact⟨y,J,.inl h⟩
   ·exact⟨y,J,.inr h⟩
 rw[U];cases ha:o.any fun y=>decide (y.1=x.1) with
 | true=>rfl
 | false=>
  rw[aLC,Bool.false_or];obtain⟨k,k1,k2,k3⟩:=Qk9 hr x.1;have loop:∀(f:Int×Int->Option ((Int×Int)⊕(Int⊕(List TMb×Int)))),
    (∀(i:Nat) (hi:i<o.length) (a:Int),f (a,(i:Int))=some (if decide (o[i].2=x.2) then .inr (.inr ([],7)) else .inl (if o[i].1<x.1 then ((i+1:Nat):Int) else a,((i+1:Nat):Int))))->(∀a,f (a,(o.length:Int))=some (.inr (.inl a)))->
    Qc f (0,0)=some (if o.any (fun y=>decide (y.2=x.2)) then .inr ([],7) else .inl (k:Int)):=by
   intro f hs he;have key:∀(d i:Nat),i+d=o.length->Qc f (((min i k:Nat):Int),(i:Int))=some (if (o.drop i).any (fun y=>decide (y.2=x.2)) then .inr ([],7) else .inl (k:Int)):=by
    intro d;induction d with
    | zero=>
     intro i hi;obtain rfl:i=o.length:=by omega
     rw[Qg (he _),List.drop_length,Nat.min_eq_right k1];rfl
    | succ d ih=>
     intro i hi;have I:i<o.length:=by omega
     have h1:=hs i I ((min i k:Nat):Int)
     rw[aLr I,List.any_cons];cases hd:decide (o[i].2=x.2) with
     | true=>rw[hd,if_pos rfl] at h1;rw[Qg h1];rfl
     | false=>
      rw[hd,if_neg (by simp)] at h1
      rw[Qv h1,Bool.false_or];have e:(if o[i].1<x.1 then ((i+1:Nat):Int) else ((min i k:Nat):Int))=((min (i+1) k:Nat):Int):=by
       by_cases hik:i<k
       ·rw[if_pos (k2 i I hik)];omega
       ·have:=k3 i I (by omega)
        rw[if_neg (by omega)];omega
      rw[e];exact ih (i+1) (by omega)
   have:=key o.length 0 (by omega)
   rw[List.drop_zero,Nat.zero_min] at this;exact this
  rw[loop _ (fun i hi a=>by
   simp only[dlt hi,Qb _ i hi,Qa _ i _ hi,aLB,Qhf,wsucc hi (by omega)]
   cases decide (o[i].2=x.2)
   ·by_cases h:o[i].1<x.1
    ·rw[aLE h];simp[h]
    ·rw[aLD h];simp[h]
   ·rfl) (fun a=>by simp only[dge,aLC]),aLc]
  cases hb:o.any fun y=>decide (y.2=x.2) with
  | true=>rfl
  | false=>
   simp only[Bool.false_eq_true,if_false,Sum.elim_inl];by_cases h8:8<=o.length
   ·rw[aLE (by omega),if_pos h8];rfl
   ·obtain⟨w1,w2⟩:=Qgy k1 k2 k3
    rw[aLD (by omega),if_neg h8,aLC,w1,w2]
    have c1:QO 0 (k:Int) o=true:=by unfold QO;simp;omega
    have c2:QO (k:Int) (o.length:Int) o=true:=by unfold QO;simp;omega
    have e1:cut 0 (k:Int) o=o.take k:=by unfold cut;simp
    have e2:cut (k:Int) (o.length:Int) o=o.drop k:=by
     unfold cut;rw[Int.toNat_natCast];exact List.take_of_length_le (by rw[aLz];omega)
    rw[c1,aLB,e1,Qp,Qp,c2,aLB,e2,Qp]
    ·rfl
    all_goals (simp only[aLo,aLi,aLh,aLj,aLn,aLz];omega)
theorem QkW (l:List TMb) (t:TX):(mOff l t).length<=l.length:=List.length_filter_le _ l
theorem Ql5 {l:List TMb} (hm:Qaj l/\l.length<=8) {t:TX} (J:t.2.2.1.length<=1000000) (id:Int):Qdp l t id=some (Qed l t id):=by
 have hB:BIG=4611686018427387904:=rfl
 have hL:LIM=1073741824:=rfl
 obtain⟨U,hl⟩:=hm;unfold Qdp Qed;have e0:(bif decide (t.1=2) then (QbF l t.2.1).bind fun y=>some (decide (y<0)) else some false)=some (decide (t.1=2/\(l.any fun x=>decide (x.1=t.2.1))=false)):=by
  rw[QiP _ (by omega),aLc,Qra]
  by_cases h1:t.1=2
  ·cases l.any fun x=>decide (x.1=t.2.1)<;>simp[h1]
  ·simp[h1]
 rw[e0,aLc];by_cases h1:t.1=2/\(l.any fun x=>decide (x.1=t.2.1))=false
 ·rw[aLE h1,if_pos h1];rfl
 ·rw[aLD h1,if_neg h1,aLC]
  rw[ZE (σ:=List TMb) l (fun acc a=>if (!(decide (t.1=2)&&decide (a.1=t.2.1))&&!decide (a.2 ∈ t.2.2.1)) then acc++[a] else acc) (fun t i=>(t,i)) (fun t=>t) (fun t i=>t.length<=i) _ (fun i hi x hx=>by
    refine⟨?_,by split<;>(try simp only[aLi,aLh,aLj])<;>omega⟩
    simp only[dlt hi,Qb _ i hi,Qa _ i _ hi,aLB,QcM t.2.2.1 (by omega),aLc,wsucc hi (by omega)]
    rw[Qp (by simp only[aLh,aLj];omega)]
    cases decide (t.1=2)<;>cases decide (l[i].1=t.2.1)<;>cases decide (l[i].2 ∈ t.2.2.1)<;>rfl) (fun t J=>by simp only[dge,aLC]) [] (Nat.le_refl _),aLc,foldl_filter,aLx]
  show (bif !decide (t.1=1) then some (mOff l t,(0:Int)) else (Qbw (mOff l t) (t.2.1,(id,0))).bind fun y=>some (y.1,y.2))=_
  by_cases I:t.1=1
  ·have:=QkW l t
   rw[aLE I,if_pos I,Bool.not_true,aLC,Ql2 (o:=mOff l t) (Qjn U _) (by omega)];rfl
  ·rw[aLD I,if_neg I];rfl
theorem filter_one {l:List TMb} {p:TMb->Bool} {k:Nat} (hk:k<l.length) (J:p l[k]=false) (h1:∀i (h:i<l.length),i ≠ k->p l[i]=true):l.filter p=l.take k++l.drop (k+1):=by
 have e:l=l.take k++l[k]::l.drop (k+1):=by rw[<-aLr hk,List.take_append_drop]
 conv=>lhs;rw[e]
 rw[List.filter_append,List.filter_cons,J];rw[List.filter_eq_self.2 (fun a I=>?_),if_neg (by simp),List.filter_eq_self.2 (fun a I=>?_)]
 ·obtain⟨i,hi,rfl⟩:=List.mem_iff_getElem.1 I
  rw[aLz] at hi;rw[List.getElem_drop];exact h1 _ (by omega) (by omega)
 ·obtain⟨i,hi,rfl⟩:=List.mem_iff_getElem.1 I
  rw[aLn] at hi;rw[List.getElem_take];exact h1 _ (by omega) (by omega)
theorem Qic {l:List TMb} (hm:Qaj l/\l.length<=8) {t:TX} (ht:t.2.2.1.length<=1000000) {id:Int} (hid:mIn id 1 60=true):Qad l t id=some (Qed l t id):=by
 have hB:BIG=4611686018427387904:=rfl
 have hL:LIM=1073741824:=rfl
 obtain⟨hr,hl⟩:=hm;unfold Qad Qed;rw[Qc3,hid,aLc,Qgz _ (by omega)]
 simp only[Bool.not_true,aLC,aLc];have first:∀G:(List TMb⊕(List TMb×Int))->Option (List TMb×Int),((bif decide (t.1=2) then (Yy l t.2.1).bind fun (I:Int×Bool)=>bif !I.2 then some (Sum.inr (([]:List TMb),(4:Int))) else (QB l I.1 (IntKind.wrap .i64 (I.1+1))).bind fun J=>some (Sum.inl J) else some (Sum.inl l):Option (List TMb⊕(List TMb×Int))).bind G) =
   if t.1=2/\(l.any fun x=>decide (x.1=t.2.1))=false then G (.inr ([],4)) else G (.inl (l.filter fun x=>!(decide (t.1=2)&&decide (x.1=t.2.1)))):=fun G=>by
  by_cases h1:t.1=2
  ·obtain⟨k,k1,k2,k3,k4,k5⟩:=Qif hr (by omega) t.2.1
   rw[aLE h1,aLB,k2,aLc];cases ha:l.any fun x=>decide (x.1=t.2.1) with
   | false=>rw[if_pos ⟨h1,rfl⟩];rfl
   | true=>
    obtain⟨hk,he⟩:=k3 ha;rw[if_neg (fun h=>by cases h.2)]
    have hdel:QB l (k:Int) (IntKind.wrap .i64 ((k:Int)+1))=some (l.filter fun x=>!(true&&decide (x.1=t.2.1))):=by
     unfold QB delS;rw[wsucc hk (by omega),aLE (by omega),aLB]
     rw[filter_one (l:=l) (k:=k) hk (by rw[he];simp) (fun i hi hik=>by
      rcases Nat.lt_or_ge i k with h | h
      ·have:=QfJ hr h hk
       have:¬l[i].1=t.2.1:=by omega
       simp[this]
      ·have:=QfJ hr (show k<i by omega) hi
       have:¬l[i].1=t.2.1:=by omega
       simp[this])]
     simp
    show (Option.bind ((QB l (k:Int) (IntKind.wrap .i64 ((k:Int)+1))).bind fun J=>some (Sum.inl J)) G)=_
    rw[hdel];rfl
  ·rw[aLD h1,if_neg (fun h=>h1 h.1)]
   simp only[aLC,aLc,Bool.false_and,Bool.not_false];rw[List.filter_eq_self.2 (fun a _=>rfl)]
 rw[first]
 by_cases h1:t.1=2/\(l.any fun x=>decide (x.1=t.2.1))=false
 ·rw[if_pos h1,if_pos h1];rfl
 ·rw[if_neg h1,if_neg h1,Sum.elim_inl]
  have hfl:=List.length_filter_le (fun x:TMb=>!(decide (t.1=2)&&decide (x.1=t.2.1))) l
  rw[Qjv _ (by omega) (fun x=>decide (x.2 ∈ t.2.2.1)) _ (fun a=>by unfold QaL;rw[Qg2 _ (by omega)];rfl),aLc,List.filter_filter]
  have eo:(l.filter fun a=>(!decide (a.2 ∈ t.2.2.1))&&!(decide (t.1=2)&&decide (a.1=t.2.1)))=mOff l t:=by
   unfold mOff;congr 1
   funext a
   rw[Bool.and_comm]
  rw[eo];by_cases h2:t.1=1
  ·rw[aLE h2,if_pos h2,Bool.not_true,aLC]
   have hol:=QkW l t
   have U:Qaj (mOff l t):=Qjn hr _
   obtain⟨k,k1,k2,k3,k4,k5⟩:=Qif U (by omega) t.2.1
   rw[k2,aLc];rw[Qii _ (by omega) (fun y=>decide (y.2=(id,0))) _ (fun a _=>by unfold QaT;rw[Qhf];rfl)]
   unfold Qkh;have U:((mOff l t).any fun y=>decide (y.1=t.2.1) || decide (y.2=(id,0)))=(((mOff l t).any fun y=>decide (y.1=t.2.1)) || (mOff l t).any fun y=>decide (y.2=(id,0))):=by
    rw[Bool.eq_iff_iff];simp only[List.any_eq_true,Bool.or_eq_true];constructor
    ·rintro ⟨y,hy,h | h⟩
     ·exact .inl ⟨y,hy,h⟩
     ·exact .inr ⟨y,hy,h⟩
    ·rintro (⟨y,hy,h⟩ | ⟨y,hy,h⟩)
     ·exact⟨y,hy,.inl h⟩
     ·exact⟨y,hy,.inr h⟩
   rw[U];cases ha:(mOff l t).any fun y=>decide (y.1=t.2.1) with
   | true=>rfl
   | false=>
    cases hb:(mOff l t).any fun y=>decide (y.2=(id,0)) with
    | true=>rfl
    | false=>
     simp only[Bool.false_or,aLC,aLc,Bool.false_eq_true,if_false];by_cases h8:8<=(mOff l t).length
     ·rw[aLE (by omega),if_pos h8];rfl
     ·obtain⟨w1,w2⟩:=Qgy k1 k4 k5
      rw[aLD (by omega),if_neg h8,aLC,w1,w2]
      unfold Zt insS;rw[aLE ⟨by omega,by omega,by omega,rfl⟩,aLB,aLc,Int.toNat_natCast]
  ·rw[aLD h2,if_neg h2];rfl
end GL
end Go.Dx
set_option maxHeartbeats 2000000
namespace Go.Dx
namespace GL
theorem QgE (l:List Int) (I:l.length<BIG) (x:Int):Zi l x=some (decide (x ∈ l)):=by
 unfold Zi YZ;rw[Jm l (fun a=>decide (x=a)) _ (fun i h=>?_) (by simp only[dge,aLC]),aLc,ZD,any_eq]
 simp only[dlt h,Qb l i h,Qa l i _ h,aLB,wsucc h I];cases decide (x=l[i])<;>rfl
theorem QpE {l:TL} (I:okL l) {id:Int} (h:(mTI l id).2=0):mIn id 1 60=true:=by
 unfold mTI at h;cases h1:mIn id 1 (l.1.length:Int) with
 | false=>rw[h1] at h;simp at h
 | true=>
  rw[QJ] at h1 ⊢;have:=I.n1
  omega
end GL
end Go.Dx
set_option maxHeartbeats 2000000
namespace Go.Dx
namespace GL
end GL
end Go.Dx
set_option maxHeartbeats 2000000
namespace Go.Dx
namespace GL
end GL
end Go.Dx
set_option maxHeartbeats 2000000
namespace Go.Dx
namespace GL
end GL
end Go.Dx
set_option maxHeartbeats 2000000
namespace Go.Dx
namespace GL
theorem QsT {α:Type} (l:List α) (h:l.length<1000000):decide (List.length ([]:List α)+List.length l<=LIM)=true:=by
 simp only[aLj,aLF];unfold LIM;omega
end GL
end Go.Dx
set_option maxHeartbeats 2000000
namespace Go.Dx
namespace GL
theorem Y.of {α:Type} {o:Option α} {a:α} {Q:α->Prop} (h:o=Option.some a) (I:Q a):Y o Q:=⟨a,h,I⟩
theorem Ql3 (r:TRu) (h:r.1.length<=10):Jl r=some r:=by
 unfold Jl;rw[QsT _ (by omega)];rfl
theorem QiK (l:List TCoin) (I:l.length<BIG) (tx:Int):Qc9 l tx=some (l.any fun x=>decide (x.1.1=tx)):=by
 unfold Qc9;refine Qg6 l _ _ (fun i h=>?_) (by simp only[dge,aLC])
 simp only[dlt h,Qb l i h,Qa l i _ h,aLB,wsucc h I];cases decide (l[i].1.1=tx)<;>rfl
end GL
end Go.Dx
set_option maxHeartbeats 2000000
namespace Go.Dx
namespace GL
structure kLd (l:TL):Prop where
 a:l.1.length<=61
 b:l.2.length<=121
theorem kLd.nil:kLd (([],[]):TL):=⟨by simp,by simp⟩
end GL
end Go.Dx
set_option maxHeartbeats 2000000
namespace Go.Dx
namespace GL
abbrev TBk:=Int×Int×Int×List Int
structure kX (x:TCoin):Prop where
 k:x.2.1.2.1.length<=10
 t:0<=x.1.1/\x.1.1<=100
 a:0<=x.1.2/\x.1.2<=100
structure kXs (l:List TCoin):Prop where
 n:l.length<=41
 x:∀x,x ∈ l->kX x
theorem kXs.nil:kXs []:=⟨by simp,fun x I=>nomatch I⟩
end GL
end Go.Dx
set_option maxHeartbeats 2000000
namespace Go.Dx
namespace GL
theorem Qs3 {l:List TMb} (hm:Qaj l/\l.length<=8) (t:TX) (id:Int):Qaj (Qed l t id).1/\(Qed l t id).1.length<=8:=by
 have ho:Qaj (mOff l t):=Qjn hm.1 _
 have hol:=QkW l t
 have nil:Qaj []/\([]:List TMb).length<=8:=⟨List.Pairwise.nil,by simp⟩
 unfold Qed;split
 ·exact nil
 ·split
  ·unfold Qkh
   split
   ·exact nil
   ·rename_i J
    split
    ·exact nil
    ·obtain⟨k,k1,k2,k3⟩:=Qk9 ho t.2.1
     obtain⟨w1,w2⟩:=Qgy k1 k2 k3;have U:∀y,y ∈ mOff l t->y.1 ≠ t.2.1:=fun y hy he=>by
      refine J (List.any_eq_true.2 ⟨y,hy,?_⟩);rw[aLE he];rfl
     show Qaj ((mOff l t).takeWhile _++[_]++(mOff l t).dropWhile _)/\((mOff l t).takeWhile _++[_]++(mOff l t).dropWhile _).length<=8
     rw[w1,w2];refine⟨?_,?_⟩
     ·unfold Qaj
      rw[List.pairwise_append,List.pairwise_append];refine⟨⟨List.Pairwise.sublist (List.take_sublist k _) ho,List.pairwise_singleton _ _,fun a I b hb=>?_⟩,List.Pairwise.sublist (List.drop_sublist k _) ho,fun a I b hb=>?_⟩
      ·rw[aLs.1 hb]
       obtain⟨i,hi,rfl⟩:=List.mem_iff_getElem.1 I;rw[aLn] at hi;rw[List.getElem_take];exact k2 i (by omega) (by omega)
      ·obtain⟨i,hi,rfl⟩:=List.mem_iff_getElem.1 hb
       rw[aLz] at hi;rw[List.getElem_drop];have h1:=k3 (k+i) (by omega) (by omega)
       have h2:=U _ (aLl (show k+i<(mOff l t).length by omega))
       rcases List.mem_append.1 I with I | I
       ·obtain⟨j,hj,rfl⟩:=List.mem_iff_getElem.1 I
        rw[aLn] at hj;rw[List.getElem_take];have:=k2 j (by omega) (by omega)
        omega
       ·rw[aLs.1 I]
        show t.2.1<_
        omega
     ·simp only[aLi,aLh,aLj,aLn,aLz]
      omega
  ·exact⟨ho,by show (mOff l t).length<=8;have:=hm.2;omega⟩
end GL
end Go.Dx
set_option maxHeartbeats 2000000
namespace Go.Dx
namespace GL
end GL
end Go.Dx
set_option maxHeartbeats 2000000
namespace Go.Dx
namespace GL
end GL
end Go.Dx
set_option maxHeartbeats 2000000
namespace Go.Dx
namespace GL
end GL
end Go.Dx
set_option maxHeartbeats 2000000
namespace Go.Dx
namespace GL
end GL
end Go.Dx
set_option maxHeartbeats 2000000
namespace Go.Dx
namespace GL
def mTx7 (l:List Int) (i:Nat) (x:Int):Int:=if mIn x 1 60 then (if x ∈ l.take i then 7 else 0) else 3
def mB7 (b:TBk):Int:=if mIn b.1 0 60&&(mIn b.2.1 1 40&&mIn b.2.2.1 1 999) then (if decide (b.1=0)=decide (b.2.1=1) then (if (6:Int)<(b.2.2.2.length:Int) then 2 else code (mTx7 b.2.2.2) b.2.2.2) else 1) else 3
theorem QiT {l:List Int} (I:l ≠ []) (h:∀k,k ∈ l->0<=k):cuts 43 (Zc l [43])=l.map Lib.itoa:=by
 unfold Zc;refine Jy 43 _ (by simpa using I) fun w hw=>?_
 obtain⟨k,hk,rfl⟩:=List.mem_map.1 hw;exact ZR (h k hk) 43 (by decide)
theorem Qe7 (b:TBk) (hb:b.2.2.2.length<BIG):QaC b=some (mB7 b):=by
 unfold QaC mB7;simp only[Ze,Qd4,aLc,beqB];cases mIn b.1 0 60<;>cases mIn b.2.1 1 40<;>cases mIn b.2.2.1 1 999<;>try rfl
 simp only[Bool.not_true,aLC,aLc,Bool.true_and,if_true];by_cases I:decide (b.1=0)=decide (b.2.1=1)
 ·rw[aLE I,if_pos I]
  simp only[Bool.not_true,aLC];by_cases J:(6:Int)<(b.2.2.2.length:Int)
  ·rw[aLE J,if_pos J];rfl
  ·rw[aLD J,if_neg J,aLC]
   rw[Qab b.2.2.2 (mTx7 b.2.2.2) _ (fun i h=>?_) (by simp only[dge,aLC])]
   ·split
    ·rename_i h;rw[h]
    ·rfl
   ·simp only[dlt h,Qb _ i h,Qa _ i _ h,ZN _ i (Nat.le_of_lt h),Jd,aLB,Qc3,aLc,wsucc h hb,QgE _ (YR hb i)]
    unfold mTx7;cases mIn b.2.2.2[i] 1 60<;>by_cases hm:b.2.2.2[i] ∈ b.2.2.2.take i<;>simp[hm]
 ·rw[aLD I,if_neg I];rfl
structure okB7 (b:TBk):Prop where
 p:0<=b.1/\b.1<=60
 h:1<=b.2.1/\b.2.1<=40
 m:1<=b.2.2.1/\b.2.2.1<=999
 n:b.2.2.2.length<=6
 t:∀x,x ∈ b.2.2.2->1<=x/\x<=60
theorem QdO {b:TBk} (h:mB7 b=0):okB7 b:=by
 unfold mB7 at h;cases h1:mIn b.1 0 60&&(mIn b.2.1 1 40&&mIn b.2.2.1 1 999) with
 | false=>rw[h1] at h;simp at h
 | true=>
  rw[h1,if_pos rfl] at h;rw[aLg,aLg,QJ,QJ,QJ] at h1;by_cases J:decide (b.1=0)=decide (b.2.1=1)
  ·rw[if_pos J] at h
   by_cases U:(6:Int)<(b.2.2.2.length:Int)
   ·rw[if_pos U] at h;cases h
   ·rw[if_neg U] at h
    refine⟨h1.1,h1.2.1,h1.2.2,by omega,fun x hx=>?_⟩
    obtain⟨i,hi,rfl⟩:=List.mem_iff_getElem.1 hx;have I:=Yg h i _ (aLf hi)
    unfold mTx7 at I;cases h3:mIn b.2.2.2[i] 1 60 with
    | false=>rw[h3] at I;simp at I
    | true=>exact QJ.1 h3
  ·rw[if_neg J] at h;cases h
def wBk (b:TBk):List (List UInt8):=[[98,108,111,99,107],Lib.itoa b.1,Lib.itoa b.2.1,Lib.itoa b.2.2.1,if b.2.2.2=[] then [45] else Zc b.2.2.2 [43]]
def Yk (b:TBk):List UInt8:=Lib.join (wBk b) [32]
theorem Qs2 (a b c:Int):Zc [a,b,c] [32]=Lib.itoa a++32::(Lib.itoa b++32::Lib.itoa c):=by
 unfold Zc;rw[List.map_cons,List.map_cons,List.map_cons,List.map_nil,Zh _ _ _ (by simp),Zh _ _ _ (by simp),Lib.join_one]
theorem QfK {b:TBk} (h:okB7 b):Qa4 b=some (Yk b):=by
 have U:=h.p
 have hh:=h.h
 have hm:=h.m
 have hn:=h.n
 have hk:∀k,k ∈ [b.1,b.2.1,b.2.2.1]->0<=k/\k<=1000000:=fun k hk=>by
  simp only[List.mem_cons,List.not_mem_nil,or_false] at hk;rcases hk with rfl | rfl | rfl<;>omega
 have I:∀k,k ∈ b.2.2.2->0<=k/\k<=1000000:=fun k hk=>by have:=h.t k hk;omega
 have l1:=QbB [b.1,b.2.1,b.2.2.1] [32] hk
 have l2:=QbB b.2.2.2 [43] I
 simp only[aLh,aLj] at l1 l2;unfold Qa4;obtain⟨w,hw⟩:∃w,w=if b.2.2.2=[] then [45] else Zc b.2.2.2 [43]:=⟨_,rfl⟩
 have hwl:w.length<=1000:=by
  rw[hw];split
  ·simp
  ·omega
 have e:(bif decide ((0:Int)<(b.2.2.2.length:Int)) then (Jg b.2.2.2 [43]).bind fun y6=>some y6 else some [45]:Option (List UInt8))=some w:=by
  rw[hw];by_cases J:b.2.2.2=[]
  ·rw[J,if_pos rfl];rfl
  ·have U:0<b.2.2.2.length:=List.length_pos_iff.2 J
   rw[if_neg J,aLE (by omega),aLB,Qe6 _ [43] (by omega) (by simp) I];rfl
 rw[e,aLc,Qe6 _ [32] (by simp) (by simp) hk,aLc]
 rw[Qp,Qp,Qp]
 ·unfold Yk wBk
  rw[<-hw,Qs2,Zh _ _ _ (by simp),Zh _ _ _ (by simp),Zh _ _ _ (by simp),Zh _ _ _ (by simp),Lib.join_one]
  simp
 all_goals ((try simp only[aLo,aLi,aLh,aLj]);unfold LIM;omega)
theorem Qka {l:List Int} (h:l ≠ []) (hk:∀k,k ∈ l->0<=k):Zc l [43] ≠ [45]:=by
 cases l with
 | nil=>exact absurd rfl h
 | cons a r=>
  intro e;have I:(45:UInt8) ∉ Lib.itoa a:=ZR (hk a aLm) 45 (by decide)
  unfold Zc at e;rw[List.map_cons] at e;cases r with
  | nil=>rw[List.map_nil,Lib.join_one] at e;rw[e] at I;simp at I
  | cons b r=>
   rw[List.map_cons,Zh _ _ _ (by simp)] at e
   have J:=congrArg List.length e
   simp only[aLi,aLh,aLj] at J;have U:Lib.itoa a=[]:=List.length_eq_zero_iff.1 (by omega)
   rw[U,aLx] at e;injection e with e1 e2
   cases e1
theorem Qta {b:TBk} (h:okB7 b):∀w,w ∈ wBk b->(32:UInt8) ∉ w:=by
 have U:=h.p
 have hh:=h.h
 have hm:=h.m
 intro w hw;unfold wBk at hw;simp only[List.mem_cons,List.not_mem_nil,or_false] at hw;rcases hw with rfl | rfl | rfl | rfl | rfl
 ·decide
 ·exact ZR (by omega) 32 (by decide)
 ·exact ZR (by omega) 32 (by decide)
 ·exact ZR (by omega) 32 (by decide)
 ·split
  ·decide
  ·rename_i h0
   have I:∀ws:List (List UInt8),(∀w,w ∈ ws->(32:UInt8) ∉ w)->(32:UInt8) ∉ Lib.join ws [43]:=by
    intro ws;induction ws with
    | nil=>intro _;simp[Lib.join_nil]
    | cons x ws J=>
     intro h;cases ws with
     | nil=>rw[Lib.join_one];exact h x aLm
     | cons y ws=>
      rw[Zh _ _ _ (by simp),List.mem_append,List.mem_cons,not_or,not_or]
      exact⟨h x aLm,by decide,J fun w hw=>h w (aLp _ hw)⟩
   refine I _ fun w hw=>?_
   obtain⟨k,hk,rfl⟩:=List.mem_map.1 hw;exact ZR (by have:=h.t k hk;omega) 32 (by decide)
theorem Qkm {b:TBk} (h:okB7 b):cuts 32 (Yk b)=wBk b:=Jy 32 _ (by unfold wBk;simp) (Qta h)
theorem QjW {n:Int} (h:0<=n/\n<=1000):numS (Lib.itoa n)=n:=Qa2 h.1 (by omega)
theorem QeS {b:TBk} (h:mB7 b=0) (hl:(Yk b).length<=300):Ya (Yk b)=some (b,true):=by
 have ho:=QdO h
 have hp:=ho.p
 have hh:=ho.h
 have hm:=ho.m
 have hB:BIG=4611686018427387904:=rfl
 have w:∀i,(List.getD (wBk b) i []).length<=300:=fun i=>by
  have:=Yh 32 (Yk b) i
  rw[Qkm ho] at this;omega
 unfold Ya;rw[Qfj _ 32 (by omega),aLc,Qkm ho]
 have e0:decide ((300:Int)<((Yk b).length:Int))=false:=aLD (by omega)
 have w1:List.getD (wBk b) (Int.toNat 1) []=Lib.itoa b.1:=rfl
 have w2:List.getD (wBk b) (Int.toNat 2) []=Lib.itoa b.2.1:=rfl
 have w3:List.getD (wBk b) (Int.toNat 3) []=Lib.itoa b.2.2.1:=rfl
 obtain⟨v,hv⟩:∃v,v=if b.2.2.2=[] then [45] else Zc b.2.2.2 [43]:=⟨_,rfl⟩
 have w4:List.getD (wBk b) (Int.toNat 4) []=v:=by rw[hv];rfl
 have i1:inB 1 (wBk b)=true:=rfl
 have i2:inB 2 (wBk b)=true:=rfl
 have i3:inB 3 (wBk b)=true:=rfl
 have i4:inB 4 (wBk b)=true:=rfl
 have l1:=w 1;have l2:=w 2;have l3:=w 3;have J:=w 4
 have l1:(Lib.itoa b.1).length<=300:=l1
 have l2:(Lib.itoa b.2.1).length<=300:=l2
 have l3:(Lib.itoa b.2.2.1).length<=300:=l3
 have J:v.length<=300:=by rw[<-w4];exact J
 have hlen:((wBk b).length:Int)=5:=rfl
 rw[e0,hlen];simp only[aLC,decide_true,Bool.not_true,aLc,i1,i2,i3,i4,w1,w2,w3,w4,aLB,YN _ (show (Lib.itoa b.1).length<=1000000 by omega),YN _ (show (Lib.itoa b.2.1).length<=1000000 by omega),YN _ (show (Lib.itoa b.2.2.1).length<=1000000 by omega),QjW (show 0<=b.1/\b.1<=1000 by omega),QjW (show 0<=b.2.1/\b.2.1<=1000 by omega),QjW (show 0<=b.2.2.1/\b.2.2.1<=1000 by omega)]
 have e:(bif !decide (v=[45]) then (JA v [43]).bind fun (U:List Int)=>some (b.1,(b.2.1,(b.2.2.1,U))) else some (b.1,(b.2.1,(b.2.2.1,[]))):Option TBk)=some b:=by
  rw[hv];by_cases I:b.2.2.2=[]
  ·rw[if_pos I,aLE rfl]
   show some (b.1,(b.2.1,(b.2.2.1,[])))=some b
   rw[<-I]
  ·have hne:=Qka I fun k hk=>by have:=ho.t k hk;omega
   rw[if_neg I,aLD hne,Bool.not_false,aLB,QhT _ 43 (by rw[hv,if_neg I] at J;omega),QiT I (fun k hk=>by have:=ho.t k hk;omega),aLc,List.map_map]
   have:(b.2.2.2.map (numS ∘ Lib.itoa))=b.2.2.2:=by
    have e5:b.2.2.2.map (numS ∘ Lib.itoa)=b.2.2.2.map id:=List.map_congr_left fun k hk=>QjW (n:=k) (by have:=ho.t k hk;omega)
    rw[e5,List.map_id]
   rw[this]
 rw[e,aLc,Qe7 b (by have:=ho.n;omega),aLc,h]
 simp only[decide_true,Bool.not_true,aLC];rw[QfK ho,aLc,aLE rfl];rfl
end GL
end Go.Dx
set_option maxHeartbeats 2000000
namespace Go.Dx
namespace GL
theorem QrR {α:Type} {c:Nat->α->Int} {l:List α} (h:∀i a,l[i]? = some a->c i a=0):code c l=0:=by
 unfold code;rw[(QcR l 0).2 (fun j a I=>by rw[Nat.zero_add,if_pos (h j a I)])]
theorem Qq2 {l:TL} (h:mLF l=0):code (mTx l.1) l.1=0/\code (mSg (l.1.length:Int) l.2) l.2=0/\l.1.length<=60/\l.2.length<=120:=by
 unfold mLF at h;split at h
 ·cases h
 ·rename_i h1
  simp only[Bool.or_eq_true,aLF,not_or] at h1;by_cases I:code (mTx l.1) l.1=0
  ·rw[if_pos I] at h;exact⟨I,h,by omega,by omega⟩
  ·rw[if_neg I] at h;exact absurd h I
end GL
end Go.Dx
set_option maxHeartbeats 2000000
namespace Go.Dx
namespace GL
def insC (l:List TCoin) (x:TCoin):List TCoin:=l.takeWhile (fun y=>Qq y.1 x.1)++[x]++l.dropWhile (fun y=>Qq y.1 x.1)
theorem Qh4 (l:List TCoin) (x:TCoin):(insC l x).Perm (l++[x]):=by
 unfold insC;have h:l=l.takeWhile (fun y=>Qq y.1 x.1)++l.dropWhile (fun y=>Qq y.1 x.1):=(List.takeWhile_append_dropWhile).symm
 conv=>rhs;rw[h]
 rw[List.append_assoc,List.append_assoc];exact List.Perm.append_left _ List.perm_append_comm
theorem QqR {α:Type} (p:α->Bool):∀(l:List α) (a:α),a ∈ l.takeWhile p->p a=true
 | [],a,h=>by cases h
 | x::l,a,h=>by
  rw[List.takeWhile_cons] at h;cases I:p x with
  | false=>rw[I] at h;cases h
  | true=>
   rw[I,if_pos rfl] at h;rcases List.mem_cons.1 h with rfl | h
   ·exact I
   ·exact QqR p l a h
theorem Qoq {α:Type} (p:α->Bool) (c:α) (r:List α):∀(l:List α),l.dropWhile p=c::r->p c=false
 | [],h=>by cases h
 | x::l,h=>by
  rw[List.dropWhile_cons] at h;cases I:p x with
  | true=>rw[I,if_pos rfl] at h;exact Qoq p c r l h
  | false=>
   rw[I,if_neg (by simp)] at h
   rw[<-(List.cons.inj h).1];exact I
theorem Qqw {l:List TCoin} (h:Rise l) {x:TCoin} (hx:∀y,y ∈ l->y.1 ≠ x.1):Rise (insC l x):=by
 unfold insC Rise;have hs:l=l.takeWhile (fun y=>Qq y.1 x.1)++l.dropWhile (fun y=>Qq y.1 x.1):=(List.takeWhile_append_dropWhile).symm
 have ht:∀a,a ∈ l.takeWhile (fun y=>Qq y.1 x.1)->Qq a.1 x.1=true:=fun a I=>QqR _ l a I
 have hr:(l.takeWhile (fun y=>Qq y.1 x.1)++l.dropWhile (fun y=>Qq y.1 x.1)).Pairwise fun a b=>Qq a.1 b.1=true:=by rw[<-hs];exact h
 rw[List.pairwise_append] at hr;obtain⟨r1,U,r3⟩:=hr;have hd:∀b,b ∈ l.dropWhile (fun y=>Qq y.1 x.1)->Qq x.1 b.1=true:=by
  intro b hb;have J:∀b,b ∈ l.dropWhile (fun y=>Qq y.1 x.1)->Qq b.1 x.1=false:=by
   cases hq:l.dropWhile (fun y=>Qq y.1 x.1) with
   | nil=>intro b hb;cases hb
   | cons c r=>
    have hc:Qq c.1 x.1=false:=Qoq (fun y:TCoin=>Qq y.1 x.1) c r l hq
    intro b hb;rw[hq] at U;rcases List.mem_cons.1 hb with rfl | hb
    ·exact hc
    ·have h1:=(List.pairwise_cons.1 U).1 b hb
     cases h2:Qq b.1 x.1 with
     | false=>rfl
     | true=>rw[QbG h1 h2] at hc;cases hc
  cases h1:Qq x.1 b.1 with
  | true=>rfl
  | false=>exact absurd (Qio (J b hb) h1) (hx b (by rw[hs];exact List.mem_append_right _ hb))
 rw[List.pairwise_append,List.pairwise_append];refine⟨⟨r1,List.pairwise_singleton _ _,fun a I b hb=>?_⟩,U,fun a I b hb=>?_⟩
 ·rw[aLs.1 hb];exact ht a I
 ·rcases List.mem_append.1 I with I | I
  ·exact r3 a I b hb
  ·rw[aLs.1 I];exact hd b hb
def Qax (id h:Int) (m:Bool):Nat->List TOut->List TCoin
 | _,[]=>[]
 | k,o::r=>((id,(k:Int)),(o,(h,m)))::Qax id h m (k+1) r
theorem Qjb (id h:Int) (m:Bool):∀(os:List TOut) (k:Nat),(Qax id h m k os).length=os.length
 | [],_=>rfl
 | o::r,k=>by unfold Qax;rw[aLh,Qjb id h m r,aLh]
theorem Qnw {id h:Int} {m:Bool} {x:TCoin}:∀{os:List TOut} {k:Nat},x ∈ Qax id h m k os->x.1.1=id/\(k:Int)<=x.1.2/\x.1.2<(k:Int)+os.length/\x.2.1 ∈ os/\x.2.2.1=h
 | [],_,I=>by cases I
 | o::r,k,I=>by
  unfold Qax at I;rcases List.mem_cons.1 I with rfl | I
  ·refine⟨rfl,Int.le_refl _,?_,aLm,rfl⟩
   show (k:Int)<(k:Int)+((o::r).length:Int)
   rw[aLh];omega
  ·obtain⟨h1,h2,h3,J,U⟩:=Qnw I
   rw[aLh];exact⟨h1,by omega,by omega,aLp _ J,U⟩
def Qeo (l:List TCoin) (xs:List TCoin):List TCoin:=xs.foldl insC l
theorem Qgp:∀(xs l:List TCoin),(Qeo l xs).Perm (l++xs)
 | [],l=>by unfold Qeo;simp
 | x::r,l=>by
  have h1:=Qgp r (insC l x)
  show (Qeo (insC l x) r).Perm (l++x::r)
  refine h1.trans ?_;have I:=(Qh4 l x).append_right r
  rw[List.append_assoc] at I;exact I
theorem Qgw {id h:Int} {m:Bool}:∀(os:List TOut) (k:Nat) (l:List TCoin),Rise l->(∀y,y ∈ l->y.1.1=id->y.1.2<(k:Int))->Rise (Qeo l (Qax id h m k os))
 | [],_,l,I,_=>I
 | o::r,k,l,I,hl=>by
  show Rise (Qeo (insC l _) (Qax id h m (k+1) r))
  refine Qgw r (k+1) _ (Qqw I fun y J he=>?_) (fun y J h1=>?_)
  ·have:=hl y J (by rw[he])
   rw[he] at this;exact absurd this (by simp)
  ·have:=(Qh4 l ((id,(k:Int)),(o,(h,m)))).mem_iff.1 J
   rcases List.mem_append.1 this with U | U
   ·have:=hl y U h1;omega
   ·rw[aLs.1 U];show (k:Int)<((k+1:Nat):Int);omega
theorem QiQ {α:Type} {l:List α} {p:α->Bool} {k:Nat} (hk:k<l.length) (J:p l[k]=false) (h1:∀i (h:i<l.length),i ≠ k->p l[i]=true):l.filter p=l.take k++l.drop (k+1):=by
 conv=>lhs;rw[<-List.take_append_drop k l]
 rw[aLr hk,List.filter_append,List.filter_cons,J];rw[List.filter_eq_self.2 (fun a I=>?_),if_neg (by simp),List.filter_eq_self.2 (fun a I=>?_)]
 ·obtain⟨i,hi,rfl⟩:=List.mem_iff_getElem.1 I
  rw[aLz] at hi;rw[List.getElem_drop];exact h1 _ (by omega) (by omega)
 ·obtain⟨i,hi,rfl⟩:=List.mem_iff_getElem.1 I
  rw[aLn] at hi;rw[List.getElem_take];exact h1 _ (by omega) (by omega)
def offC (c:List TCoin) (rs:List (Int×Int)):List TCoin:=c.filter fun x=>!decide (x.1 ∈ rs)
theorem Qn8 {c:List TCoin} (hr:Rise c) (hl:c.length<=1000) (hk:∀x,x ∈ c->x.2.1.2.1.length<=1000000) {rs:List (Int×Int)} (hn:rs.Nodup) (hrl:rs.length<=1000) (hall:∀r,r ∈ rs->∃x,x ∈ c/\x.1=r):Qa9 c rs=some (offC c rs,0):=by
 have hB:BIG=4611686018427387904:=rfl
 unfold Qa9;rw[QbJ c (by omega) hk,aLc]
 generalize hf:(fun (s17:List TCoin×Int)=>_)=f
 have key:∀(d i:Nat),i+d=rs.length->Qc f (offC c (rs.take i),(i:Int))=some (Sum.inl (offC c rs)):=by
  intro d;induction d with
  | zero=>
   intro i hi;obtain rfl:i=rs.length:=by omega
   rw[List.take_length];exact Qg (by rw[<-hf];simp only[dge,aLC])
  | succ d ih=>
   intro i hi;have I:i<rs.length:=by omega
   have U:Rise (offC c (rs.take i)):=QfN hr _
   have hlo:(offC c (rs.take i)).length<=c.length:=List.length_filter_le _ _
   obtain⟨x,hx,hxr⟩:=hall _ (aLl I);have hnot:rs[i] ∉ rs.take i:=fun hm=>by
    rw[List.mem_take_iff_getElem] at hm;obtain⟨j,hj,he⟩:=hm;have:=List.nodup_iff_pairwise_ne.1 hn
    rw[List.pairwise_iff_getElem] at this;exact this j i (by omega) I (by omega) he
   have hxo:x ∈ offC c (rs.take i):=List.mem_filter.2 ⟨hx,by rw[hxr,aLD hnot];rfl⟩
   obtain⟨k,k1,k2⟩:=Qkd U (by omega) rs[i]
   rcases k2 with ⟨hk1,J⟩ | hno
   ·have hstep:f (offC c (rs.take i),(i:Int))=some (.inl (offC c (rs.take (i+1)),((i+1:Nat):Int))):=by
     rw[<-hf];have hdel:Zg (offC c (rs.take i)) (k:Int) ((k:Int)+1)=some (offC c (rs.take (i+1))):=by
      unfold Zg delS;rw[aLE ⟨by omega,by omega,by omega,by omega⟩,aLB,Int.toNat_natCast,show ((k:Int)+1).toNat=k+1 by omega]
      congr 1;rw[<-QiQ (p:=fun x=>!decide (x.1=rs[i])) hk1 (by rw[aLE J];rfl) (fun j hj hjk=>by
       rw[aLD (fun he=>?_)];rfl
       have:=Qi7 U (aLl hj) (aLl hk1) (by rw[he,J])
       rcases Nat.lt_or_ge j k with h1 | h1
       ·have h2:=Qcp U h1 hk1
        rw[he,J,Z7] at h2;cases h2
       ·have h2:=Qcp U (show k<j by omega) hj
        rw[he,J,Z7] at h2;cases h2)]
      unfold offC;rw[List.filter_filter];congr 1
      funext x
      rw[List.take_succ_eq_append_getElem I];simp only[List.mem_append,aLs];by_cases h1:x.1 ∈ rs.take i<;>by_cases h2:x.1=rs[i]<;>simp[h1,h2]
     have hw:IntKind.wrap .i64 ((k:Int)+1)=(k:Int)+1:=QX (by omega) (by omega)
     simp only[dlt I,Qb _ i I,Qa _ i _ I,aLB,k1,aLc,aLE (show ∃h:k<(offC c (rs.take i)).length,((offC c (rs.take i))[k]'h).1=rs[i] from ⟨hk1,J⟩),Bool.not_true,aLC,hw,hdel,wsucc I (by omega)]
    rw[Qv hstep];exact ih (i+1) (by omega)
   ·exact absurd hxr (hno x hxo)
 have:=key rs.length 0 (by omega)
 have e0:offC c (rs.take 0)=c:=by unfold offC;simp
 rw[e0] at this;show ((Qc f (c,0)).bind _)=_
 rw[show ((0:Nat):Int)=0 from rfl] at this
 rw[this];rfl
end GL
end Go.Dx
set_option maxHeartbeats 2000000
namespace Go.Dx
namespace GL
theorem QlN {X:Type} (n:Nat) (f:Int->Option (Int⊕X)) (x:X) (I:∀i:Nat,i<n->f (i:Int)=some (.inl ((i+1:Nat):Int))) (he:f (n:Int)=some (.inr x)):Qc f 0=some x:=by
 have key:∀(d i:Nat),i+d=n->Qc f (i:Int)=some x:=by
  intro d;induction d with
  | zero=>
   intro i hi;obtain rfl:i=n:=by omega
   exact Qg he
  | succ d J=>intro i hi;rw[Qv (I i (by omega))];exact J (i+1) (by omega)
 exact key n 0 (by omega)
theorem QoG (l:List TCoin) (I:l.length<BIG) (tx:Int):Qch l tx=some (l.any fun x=>decide (x.1.1=tx)):=by
 unfold Qch Zq Zz;rw[Jm l (fun x=>decide (x.1.1=tx)) _ (fun i h=>?_) (by simp only[dge,aLC]),aLc,ZD]
 ·rfl
 ·simp only[dlt h,Qb l i h,Qa l i _ h,aLB,wsucc h I]
  unfold Qd8;rw[aLc,aLc];cases decide (l[i].1.1=tx)<;>rfl
def QbR (l:List TCoin) (id:Int) (outs:List TOut) (h:Int) (m:Bool):List TCoin×Int:=if (l.any fun x=>decide (x.1.1=id))=true then ([],7) else if 40<l.length+outs.length then ([],2) else (Qeo l (Qax id h m 0 outs),0)
theorem QjM {l:List TCoin} (hr:Rise l) (hl:l.length<=1000) (hk:∀x,x ∈ l->x.2.1.2.1.length<=1000000) {id:Int} (hid:mIn id 1 60=true) {outs:List TOut} (hn:outs.length<=4) (ho:∀o,o ∈ outs->mOut o=0/\o.2.1.length<=1000000) {h:Int} (hh:mIn h 0 999=true) (m:Bool):Y3 l id outs h m=some (QbR l id outs h m):=by
 have hB:BIG=4611686018427387904:=rfl
 unfold Y3 QbR;rw[Qc3,aLc,hid,Qb0,aLc,hh];simp only[Bool.not_true,aLC,aLc];rw[aLD (by omega),aLC]
 rw[QlN outs.length _ (Sum.inl ()) (fun i hi=>by
   have hoi:=ho _ (aLl hi)
   simp only[dlt hi,Qb _ i hi,Qa _ i _ hi,aLB,Qf0 _ (show (outs[i]).2.1.length<BIG by omega),aLc,hoi.1,decide_true,Bool.not_true,aLC,wsucc hi (by omega)]) (by simp only[dge,aLC]),aLc,Sum.elim_inl,QoG _ (by omega),aLc]
 cases hany:l.any fun x=>decide (x.1.1=id) with
 | true=>rfl
 | false=>
  rw[aLC,if_neg (by simp),QX (by omega) (by omega)]
  by_cases h40:40<l.length+outs.length
  ·rw[aLE (by omega),if_pos h40];rfl
  ·rw[aLD (by omega),if_neg h40,aLC,QbJ l (by omega) hk,aLc]
   generalize hf:(fun (s37:List TCoin×Int)=>_)=f
   have key:∀(d i:Nat) (acc:List TCoin),i+d=outs.length->acc.length<=1000+i->Qc f (acc,(i:Int))=some (acc++Qax id h m i (outs.drop i)):=by
    intro d;induction d with
    | zero=>
     intro i acc hi _;obtain rfl:i=outs.length:=by omega
     rw[Qg (show f (acc,(outs.length:Int))=some (.inr acc) by rw[<-hf];simp only[dge,aLC]),List.drop_length]
     unfold Qax;rw[List.append_nil]
    | succ d ih=>
     intro i acc hi ha;have I:i<outs.length:=by omega
     have hstep:f (acc,(i:Int))=some (.inl (acc++[((id,(i:Int)),(outs[i],(h,m)))],((i+1:Nat):Int))):=by
      rw[<-hf];have hoi:=ho _ (aLl I)
      simp only[dlt I,Qb _ i I,Qa _ i _ I,aLB,QhN _ hoi.2,aLc,wsucc I (by omega)]
      rw[Qp (by simp only[aLh,aLj];unfold LIM;omega)];rfl
     rw[Qv hstep,ih (i+1) _ (by omega) (by simp;omega),aLr I]
     show _=some (acc++(_::Qax id h m (i+1) (outs.drop (i+1))))
     rw[List.append_assoc];rfl
   have:=key outs.length 0 l (by omega) (by omega)
   rw[List.drop_zero] at this;show ((Qc f (l,0)).bind _)=_
   rw[show ((0:Nat):Int)=0 from rfl] at this
   rw[this,aLc];have J:=Qgp (Qax id h m 0 outs) l
   have U:Rise (Qeo l (Qax id h m 0 outs)):=Qgw outs 0 l hr fun y hy h1=>by
    rw[List.any_eq_false] at hany;exact absurd (aLE h1) (hany y hy)
   rw[Qkg U (fun x hx=>J.mem_iff.2 hx) J U (by rw[aLi,Qjb];omega),aLc]
theorem Qle {c:List TCoin} (hc:Rise c) {rs:List (Int×Int)} (hn:rs.Nodup) (h:(c.filter fun x=>decide (x.1 ∈ rs)).length=rs.length):∀r,r ∈ rs->∃x,x ∈ c/\x.1=r:=by
 have hp:=(QoP hc rs hn).length_eq
 rw[h] at hp;have key:∀(l:List (Int×Int)),l.length=(l.filterMap (atC c)).length->∀r,r ∈ l->∃x,x ∈ c/\x.1=r:=by
  intro l;induction l with
  | nil=>intro _ r I;cases I
  | cons a l ih=>
   intro J r I;rw[List.filterMap_cons] at J;have hle:(l.filterMap (atC c)).length<=l.length:=List.length_filterMap_le _ _
   cases U:atC c a with
   | none=>rw[U] at J;simp only[aLh] at J;omega
   | some x=>
    rw[U] at J;simp only[aLh] at J;rcases List.mem_cons.1 I with rfl | I
    ·exact⟨x,QeG U⟩
    ·exact ih (by omega) r I
 exact key rs hp
def Qbq (c:List TCoin) (t:TX) (id h:Int):List TCoin×Int:=if (c.any fun x=>decide (x.1.1=id))=true then ([],7) else QbR (offC c t.2.2.1) id t.2.2.2 h false
theorem QmR {t:TX} (J:okT t):∀o,o ∈ t.2.2.2->mOut o=0/\o.2.1.length<=1000000:=fun o ho=>by
 obtain⟨h1,I⟩:=J.out o ho;refine⟨?_,by have:=(Ye I).len;omega⟩
 unfold mOut;rw[QJ.2 h1,if_pos rfl];exact I
theorem QpT {c:List TCoin} (J:Zs c=0) {t:TX} (I:okT t) (hs:(mSp c t).length=t.2.2.1.length) {id:Int} (hid:mIn id 1 60=true) {h:Int} (hh:mIn h 0 999=true):QcC c t id h=some (Qbq c t id h):=by
 have hcl:=(Jq J).1
 have U:=QeF J
 have hol:(offC c t.2.2.1).length<=c.length:=List.length_filter_le _ _
 unfold QcC Qbq;rw[Qex J t I,if_pos hs,aLc];simp only[decide_true,Bool.not_true,aLC];rw[QoG _ (by unfold BIG;omega),aLc]
 cases hany:c.any fun x=>decide (x.1.1=id) with
 | true=>rfl
 | false=>
  rw[aLC,if_neg (by simp),Qn8 U (by omega) (YI J) I.nd (by have:=I.li;omega) (Qle U I.nd hs),aLc]
  have hp:=QjM (l:=offC c t.2.2.1) (QfN U _) (by omega) (fun x hx=>YI J x (List.mem_filter.1 hx).1) hid I.lo.2 (QmR I) hh false
  show ((Y3 (offC c t.2.2.1) id t.2.2.2 h false).bind _)=_
  rw[hp];rfl
end GL
end Go.Dx
set_option maxHeartbeats 2000000
namespace Go.Dx
namespace GL
theorem Qll {l:List TCoin} (hn:l.length<=40) (J:Rise l) (U:∀x,x ∈ l->mRef x.1=true/\mIn x.2.2.1 0 999=true/\mOut x.2.1=0):Zs l=0:=by
 unfold Zs;rw[if_neg (by omega)]
 refine QrR fun i a ha=>?_
 obtain⟨hi,rfl⟩:=aLy.1 ha;obtain⟨h1,h2,h3⟩:=U _ (aLl hi);unfold Qis;rw[h1,h2,Bool.and_self,if_pos rfl,if_pos h3];rcases Nat.eq_zero_or_pos i with I | I
 ·subst I;rfl
 ·have:=Qcp J (show i - 1<i by omega) hi
  rw[aLk,aLf (by omega:i - 1<l.length),Option.getD_some,this]
  simp
theorem Qke {c:List TCoin} (h:Zs c=0):∀x,x ∈ c->mRef x.1=true/\mIn x.2.2.1 0 999=true/\mOut x.2.1=0:=fun x I=>by
 have I:=(Jq h).2 x I
 refine⟨Qar.2 ⟨I.tx,I.at_⟩,QJ.2 I.height,?_⟩;unfold mOut;rw[QJ.2 I.val,if_pos rfl];exact I.rule
theorem QoF {l:TL} {c:List TCoin} {t:TX} {I:Int} (h:(mChk l c t I).2=0):(mSp c t).length=t.2.2.1.length:=by
 unfold mChk Qg9 at h;split at h
 ·split at h
  ·cases h
  ·split at h
   ·assumption
   ·cases h
 ·cases h
end GL
end Go.Dx
set_option maxHeartbeats 2000000
namespace Go.Dx
namespace GL
end GL
end Go.Dx
set_option maxHeartbeats 2000000
namespace Go.Dx
namespace GL
theorem Qqm {α:Type} (v:α->Int) (M:Int) (I:0<=M/\M<=100000000):∀(l:List α) (a:Int) (n:Nat),(∀x,x ∈ l->0<=v x/\v x<=M)->0<=a->a<=M * n->n+l.length<=1000->0<=l.foldl (fun n x=>IntKind.wrap .i64 (n+v x)) a/\l.foldl (fun n x=>IntKind.wrap .i64 (n+v x)) a<=M * ((n+l.length:Nat):Int)
 | [],a,n,_,J,h1,_=>⟨J,by simpa using h1⟩
 | x::r,a,n,hv,J,h1,U=>by
  have hx:=hv x aLm
  simp only[aLh] at U;have hb:M * (n:Int)<=100000000 * 1000:=by
   have h2:(n:Int)<=1000:=by omega
   calc M * (n:Int)<=100000000 * (n:Int):=Int.mul_le_mul_of_nonneg_right I.2 (by omega)
    _<=100000000 * 1000:=by omega
  have hw:IntKind.wrap .i64 (a+v x)=a+v x:=QX (by omega) (by omega)
  rw[List.foldl_cons,hw];have h3:a+v x<=M * ((n+1:Nat):Int):=by
   have:M * ((n+1:Nat):Int)=M * (n:Int)+M:=by rw[Int.natCast_add,Int.mul_add];simp
   omega
  have:=Qqm v M I r (a+v x) (n+1) (fun y hy=>hv y (aLp _ hy)) (by omega) h3 (by omega)
  rw[aLh];rw[show n+(r.length+1)=n+1+r.length by omega]
  exact this
theorem sum0 {α:Type} (v:α->Int) (M:Int) (I:0<=M/\M<=100000000) (l:List α) (hv:∀x,x ∈ l->0<=v x/\v x<=M) (J:l.length<=1000):0<=l.foldl (fun n x=>IntKind.wrap .i64 (n+v x)) 0/\l.foldl (fun n x=>IntKind.wrap .i64 (n+v x)) 0<=M * (l.length:Int):=by
 have:=Qqm v M I l 0 0 hv (by omega) (by simp) (by omega)
 rw[Nat.zero_add] at this;exact this
theorem Qtj {l:TL} {c:List TCoin} (hc:Zs c=0) {t:TX} (ht:okT t) {h:Int} (I:(mChk l c t h).2=0):0<=(mChk l c t h).1/\(mChk l c t h).1<=40000000:=by
 have J:=Jq hc
 have hspl:(mSp c t).length<=c.length:=List.length_filter_le _ c
 have hlo:=ht.lo
 have s1:=sum0 (fun x:TCoin=>x.2.1.1) 1000000 (by omega) (mSp c t) (fun x U=>by have:=(J.2 x (Qik U)).val;omega) (by omega)
 have s2:=sum0 (fun x:TOut=>x.1) 1000000 (by omega) t.2.2.2 (fun x U=>by have:=(ht.out x U).1;omega) (by omega)
 have e1:mSum (mSp c t)=(mSp c t).foldl (fun n x=>IntKind.wrap .i64 (n+x.2.1.1)) 0:=rfl
 have e2:Qdn t.2.2.2=t.2.2.2.foldl (fun n x=>IntKind.wrap .i64 (n+x.1)) 0:=rfl
 rw[<-e1] at s1;rw[<-e2] at s2;have hw:IntKind.wrap .i64 (mSum (mSp c t) - Qdn t.2.2.2)=mSum (mSp c t) - Qdn t.2.2.2:=QX (by omega) (by omega)
 unfold mChk at I ⊢;by_cases h1:(Qo t).length<=300
 ·rw[if_pos h1] at I ⊢
  by_cases h2:mId l (Qo t)=0
  ·rw[if_pos h2] at I;cases I
  ·rw[if_neg h2] at I ⊢
   unfold Qg9 Qmy at I ⊢;by_cases h3:(mSp c t).length=t.2.2.1.length
   ·rw[if_pos h3] at I ⊢
    by_cases h4:code (fun _=>mC1 l (mId l (Qo t)) h) (mSp c t)=0
    ·rw[if_pos h4] at I ⊢
     by_cases h5:t.1=2/\(t.2.1,mId l (Qo t)) ∉ l.2
     ·rw[if_pos h5] at I;cases I
     ·rw[if_neg h5] at I ⊢
      rw[hw] at I ⊢;by_cases h6:mSum (mSp c t) - Qdn t.2.2.2<0
      ·rw[if_pos h6] at I;cases I
      ·rw[if_neg h6]
       show 0<=mSum (mSp c t) - Qdn t.2.2.2/\mSum (mSp c t) - Qdn t.2.2.2<=40000000
       omega
    ·rw[if_neg h4] at I;exact absurd I h4
   ·rw[if_neg h3] at I;cases I
 ·rw[if_neg h1] at I;cases I
abbrev TUn:=Int×List (List TCoin)×List TMb
end GL
end Go.Dx
set_option maxHeartbeats 2000000
namespace Go.Dx
namespace GL
end GL
end Go.Dx
set_option maxHeartbeats 2000000
namespace Go.Dx
namespace GL
theorem QpA {α:Type} (l:List α) (p:α->Bool) (f:Int->Option (Int⊕Int))
  (U:∀(i:Nat) (h:i<l.length),f (i:Int)=some (if p l[i] then .inl ((i+1:Nat):Int) else .inr (i:Int))) (he:f (l.length:Int)=some (.inr (l.length:Int))):Qc f 0=some ((l.takeWhile p).length:Int):=by
 have key:∀(d i:Nat),i+d=l.length->Qc f (i:Int)=some ((i+((l.drop i).takeWhile p).length:Nat):Int):=by
  intro d;induction d with
  | zero=>
   intro i hi;obtain rfl:i=l.length:=by omega
   rw[Qg he,List.drop_length];rfl
  | succ d ih=>
   intro i hi;have I:i<l.length:=by omega
   rw[aLr I,List.takeWhile_cons];have h1:=U i I
   cases J:p l[i] with
   | false=>rw[J] at h1;rw[Qg h1];rfl
   | true=>
    rw[J] at h1;rw[Qv h1,ih (i+1) (by omega),if_pos rfl,aLh]
    congr 2;omega
 have:=key l.length 0 (by omega)
 simpa using this
theorem Qoo {α:Type} (p:α->Bool):∀(l:List α),l.take (l.takeWhile p).length=l.takeWhile p/\l.drop (l.takeWhile p).length=l.dropWhile p
 | []=>⟨rfl,rfl⟩
 | a::l=>by
  rw[List.takeWhile_cons,List.dropWhile_cons];cases p a with
  | false=>exact⟨rfl,rfl⟩
  | true=>
   obtain⟨h1,I⟩:=Qoo p l;simp only[if_true,aLh,List.take_succ_cons,List.drop_succ_cons,h1,I];exact⟨trivial,trivial⟩
theorem QmI {l:List TCoin} (U:l.length<=1000) (x:TCoin):Qee l x=some (insC l x):=by
 unfold Qee;rw[QpA l (fun y=>Qq y.1 x.1) _ (fun i h=>by
   simp only[dlt h,Qb l i h,Qa l i _ h,aLB,QgN,aLc,wsucc h (by unfold BIG;omega)]
   cases Qq l[i].1 x.1<;>rfl) (by simp only[dge,aLC,aLc]),aLc]
 obtain⟨h1,I⟩:=Qoo (fun y:TCoin=>Qq y.1 x.1) l
 have hk:(l.takeWhile fun y=>Qq y.1 x.1).length<=l.length:=(List.takeWhile_sublist _).length_le
 generalize hn:(l.takeWhile fun y=>Qq y.1 x.1).length=n at *
 have c2:QO (n:Int) (l.length:Int) l=true:=by unfold QO;simp;omega
 have J:cut (n:Int) (l.length:Int) l=l.drop n:=by
  unfold cut;rw[Int.toNat_natCast,List.take_of_length_le];rw[aLz];omega
 rw[ZN l n hk,aLB,Jd,c2,J];have q1:(l.take n).length<=1000:=by rw[aLn];omega
 have q2:(l.drop n).length<=1000:=by rw[aLz];omega
 rw[Qp (by simp only[aLj];unfold LIM;omega),Qp (by simp only[aLo,aLi,aLj,aLh];unfold LIM;omega),aLB,Qp (by simp only[aLo,aLi,aLj,aLh];unfold LIM;omega)]
 rw[h1,I];rfl
theorem Qre (l:List TCoin) (x:TCoin):(insC l x).length=l.length+1:=by
 rw[(Qh4 l x).length_eq,aLi,List.length_singleton]
theorem Qnz {l:List TCoin} (hl:l.length<=100) (hk:∀x,x ∈ l->x.2.1.2.1.length<=1000000) (id:Int) {outs:List TOut} (hn:outs.length<=100) (ho:∀o,o ∈ outs->o.2.1.length<=10) (h:Int) (m:Bool) :
  QdZ l id outs h m=some (Qeo l (Qax id h m 0 outs),l):=by
 unfold QdZ;rw[Qdi l (by omega) hk,aLc]
 generalize U:(fun (s15:List TCoin×Int)=>_)=f
 have key:∀(d i:Nat) (acc:List TCoin),i+d=outs.length->acc.length<=100+i->Qc f (acc,(i:Int))=some (Qeo acc (Qax id h m i (outs.drop i))):=by
  intro d;induction d with
  | zero=>
   intro i acc hi _;obtain rfl:i=outs.length:=by omega
   rw[Qg (show f (acc,(outs.length:Int))=some (.inr acc) by rw[<-U];simp only[dge,aLC]),List.drop_length]
   rfl
  | succ d ih=>
   intro i acc hi ha;have I:i<outs.length:=by omega
   have J:f (acc,(i:Int))=some (.inl (insC acc ((id,(i:Int)),(outs[i],(h,m))),((i+1:Nat):Int))):=by
    rw[<-U];simp only[dlt I,Qb _ i I,Qa _ i _ I,aLB,Ql3 _ (ho _ (aLl I)),aLc,wsucc I (show outs.length<BIG by unfold BIG;omega)]
    rw[QmI (by omega)];rfl
   rw[Qv J,ih (i+1) _ (by omega) (by rw[Qre];omega),aLr I]
   rfl
 have:=key outs.length 0 l (by omega) (by omega)
 rw[List.drop_zero] at this;show ((Qc f (l,0)).bind _)=_
 rw[show ((0:Nat):Int)=0 from rfl] at this
 rw[this];rfl
theorem QnH {o:TOut} (h:mOut o=0):o.2.1.length<=3:=by
 unfold mOut at h;split at h
 ·exact (Ye h).len.2
 ·cases h
theorem Qf7 {l:List TCoin} (U:Zs l=0) {id:Int} (hid:mIn id 1 60=true) {outs:List TOut} (hn:outs.length<=4) (ho:∀o,o ∈ outs->mOut o=0) {h:Int} (hh:mIn h 0 999=true) (m:Bool) :
  Jc l id outs h m=some (((QbR l id outs h m).2,(QbR l id outs h m).1),l):=by
 have hB:BIG=4611686018427387904:=rfl
 have hl:=(Jq U).1
 unfold Jc QbR;rw[Qeu l (by omega) (fun x hx=>by have:=YI U x hx;omega),aLc,U,Zj,aLc,hid,QbW,aLc,hh]
 simp only[decide_true,Bool.not_true,aLC,aLc];rw[aLD (by omega),aLC]
 rw[QlN outs.length _ (Sum.inl ()) (fun i hi=>by
   have I:=ho _ (aLl hi)
   simp only[dlt hi,Qb _ i hi,Qa _ i _ hi,aLB,QhW _ (show (outs[i]).2.1.length<BIG by have:=QnH I;omega),aLc,I,decide_true,Bool.not_true,aLC,wsucc hi (by omega)]) (by simp only[dge,aLC]),aLc,Sum.elim_inl,QiK _ (by omega),aLc]
 cases hany:l.any fun x=>decide (x.1.1=id) with
 | true=>rfl
 | false=>
  rw[aLC,if_neg (by simp),QX (by omega) (by omega)]
  by_cases J:40<l.length+outs.length
  ·rw[aLE (by omega),if_pos J];rfl
  ·rw[aLD (by omega),if_neg J,aLC,Qnz (by omega) (YI U) id (by omega) (fun o hx=>by have:=QnH (ho o hx);omega),aLc]
theorem QnZ (l:List TCoin) (I:l.length<BIG) (r:Int×Int):QeM l r=some (idxF (fun x=>decide (x.1=r)) l):=by
 unfold QeM;rw[Jm l (fun x=>decide (x.1=r)) _ (fun i h=>?_) (by simp only[dge,aLC])]
 simp only[dlt h,Qb l i h,Qa l i _ h,aLB,wsucc h I,Qhf];cases decide (l[i].1=r)<;>rfl
theorem Qr2 (c:List TCoin) (r:Int×Int) (rs:List (Int×Int)):offC (offC c [r]) rs=offC c (r::rs):=by
 unfold offC;rw[List.filter_filter];congr 1
 funext x
 by_cases h1:x.1=r<;>by_cases I:x.1 ∈ rs<;>simp[h1,I]
theorem Qrg (c:List TCoin):offC c []=c:=by unfold offC;rw[List.filter_eq_self];intro a _;simp
theorem Qmm {c:List TCoin} (hr:Rise c) (hl:c.length<=1000) (hk:∀x,x ∈ c->x.2.1.2.1.length<=1000000) {rs:List (Int×Int)} (hn:rs.Nodup) (hrl:rs.length<=1000) (hall:∀r,r ∈ rs->∃x,x ∈ c/\x.1=r) :
  Qdr c rs=some (offC c rs,(true,c)):=by
 unfold Qdr;rw[Qdi c (by omega) hk,aLc]
 generalize hf:(fun (s12:List TCoin×Int)=>_)=f
 have key:∀(d i:Nat) (acc:List TCoin),i+d=rs.length->Rise acc->acc.length<=1000->(∀r,r ∈ rs.drop i->∃x,x ∈ acc/\x.1=r)->Qc f (acc,(i:Int))=some (Sum.inl (offC acc (rs.drop i))):=by
  intro d;induction d with
  | zero=>
   intro i acc hi _ _ _;obtain rfl:i=rs.length:=by omega
   rw[Qg (show f (acc,(rs.length:Int))=some (.inr (.inl acc)) by rw[<-hf];simp only[dge,aLC]),List.drop_length,Qrg]
  | succ d ih=>
   intro i acc hi ha hal U;have I:i<rs.length:=by omega
   rw[aLr I] at U ⊢;obtain⟨x,hx,hxr⟩:=U _ aLm;obtain⟨k,hkl,hki,J,hkm⟩:=QcO (p:=fun y:TCoin=>decide (y.1=rs[i])) (l:=acc) (List.any_eq_true.2 ⟨x,hx,aLE hxr⟩)
   have J:=aLG J
   have hoff:acc.take k++acc.drop (k+1)=offC acc [rs[i]]:=by
    refine (QiQ hkl (by simp[J]) fun j hj hjk=>?_).symm
    have:acc[j].1 ≠ rs[i]:=fun he=>by
     rcases Nat.lt_or_gt_of_ne hjk with h | h
     ·have:=Qcp ha h hkl;rw[he,J,Z7] at this;cases this
     ·have:=Qcp ha h hj;rw[he,J,Z7] at this;cases this
    simp[this]
   have e1:IntKind.wrap .i64 ((k:Int)+1)=((k+1:Nat):Int):=by rw[QX (by omega) (by omega)];omega
   have c2:QO ((k+1:Nat):Int) (acc.length:Int) acc=true:=by unfold QO;simp;omega
   have t1:List.take (Int.toNat ((k:Int) - 0)) (List.drop (Int.toNat 0) acc)=acc.take k:=by simp
   have t2:List.take (Int.toNat ((acc.length:Int) - ((k+1:Nat):Int))) (List.drop (Int.toNat ((k+1:Nat):Int)) acc)=acc.drop (k+1):=by
    rw[Int.toNat_natCast,List.take_of_length_le];rw[aLz];omega
   have hstep:f (acc,(i:Int))=some (.inl (offC acc [rs[i]],((i+1:Nat):Int))):=by
    rw[<-hf];simp only[dlt I,Qb _ i I,Qa _ i _ I,aLB,QnZ acc (by unfold BIG;omega),aLc,hki,wsucc I (show rs.length<BIG by unfold BIG;omega),e1,c2,ZN acc k (by omega),t1,t2]
    rw[aLD (by omega),aLC,Qp (by simp only[aLj,aLn];unfold LIM;omega),Qp (by simp only[aLo,aLi,aLj,aLn,aLz];unfold LIM;omega),<-hoff];rfl
   rw[Qv hstep,ih (i+1) (offC acc [rs[i]]) (by omega) (QfN ha _) (by have:=List.length_filter_le (fun x:TCoin=>!decide (x.1 ∈ [rs[i]])) acc;unfold offC;omega) (fun r hrm=>?_),Qr2]
   obtain⟨y,hy,hyr⟩:=U r (aLp _ hrm);refine⟨y,List.mem_filter.2 ⟨hy,?_⟩,hyr⟩;have:r ≠ rs[i]:=fun he=>by
    have hnd:(rs.drop i).Nodup:=hn.sublist (List.drop_sublist i rs)
    rw[aLr I,List.nodup_cons,<-he] at hnd;exact hnd.1 hrm
   simp[hyr,this]
 have:=key rs.length 0 c (by omega) hr hl (by rw[List.drop_zero];exact hall)
 rw[List.drop_zero] at this;show ((Qc f (c,0)).bind _)=_
 rw[show ((0:Nat):Int)=0 from rfl] at this
 rw[this];rfl
theorem QjB {c:List TCoin} (h:Zs c=0) (p:TCoin->Bool):Zs (c.filter p)=0:=
 Qll (Nat.le_trans (List.length_filter_le _ _) (Jq h).1) (QfN (QeF h) p) fun x I=>Qke h x (List.mem_filter.1 I).1
theorem Qkw {c:List TCoin} (J:Zs c=0) {t:TX} (U:mTxF t=0) (hs:(mSp c t).length=t.2.2.1.length) {id:Int} (hid:mIn id 1 60=true) {h:Int} (hh:mIn h 0 999=true) :
  QcX c t id h=some (((Qbq c t id h).2,(Qbq c t id h).1),c):=by
 have hB:BIG=4611686018427387904:=rfl
 have I:=Qae U
 have hcl:=(Jq J).1
 unfold QcX QeE Qbq;rw[Qeu c (by omega) (fun x hx=>by have:=YI J x hx;omega),aLc,J,Qcz t I.b,aLc,U,Qes J t (by have:=I.li;omega),aLc,aLE hs]
 simp only[decide_true,Bool.not_true,aLC,aLc];rw[QiK _ (by omega),aLc]
 cases hany:c.any fun x=>decide (x.1.1=id) with
 | true=>rfl
 | false=>
  rw[aLC,if_neg (by simp),Qmm (QeF J) (by omega) (YI J) I.nd (by have:=I.li;omega) (Qle (QeF J) I.nd hs),aLc]
  show ((Jc (offC c t.2.2.1) id t.2.2.2 h false).bind _)=_
  rw[Qf7 (l:=offC c t.2.2.1) (QjB J _) hid I.lo.2 (fun o ho=>(QmR I o ho).1) hh false];rfl
theorem Qlh {l:List TCoin} (hc:Zs l=0) {id:Int} (hid:mIn id 1 60=true) {outs:List TOut} (hn:outs.length<=4) (ho:∀o,o ∈ outs->mOut o=0) {h:Int} (hh:mIn h 0 999=true) {m:Bool} (J:(QbR l id outs h m).2=0):Zs (QbR l id outs h m).1=0:=by
 unfold QbR at J ⊢;split at J
 ·cases J
 ·rename_i hb
  split at J
  ·cases J
  ·rename_i U
   rw[if_neg hb,if_neg U];have I:=Qgp (Qax id h m 0 outs) l
   refine Qll (by rw[I.length_eq,aLi,Qjb];omega) (Qgw _ 0 _ (QeF hc) fun y hy h1=>absurd (List.any_eq_true.2 ⟨y,hy,aLE h1⟩) hb) fun x hx=>?_
   rcases List.mem_append.1 (I.mem_iff.1 hx) with h1 | h1
   ·exact Qke hc x h1
   ·obtain⟨n1,n2,n3,n4,n5⟩:=Qnw h1
    exact⟨Qar.2 ⟨by rw[n1];exact QJ.1 hid,by omega,by omega⟩,by rw[n5];exact hh,ho _ n4⟩
theorem QnX {c:List TCoin} (U:Zs c=0) {t:TX} (J:okT t) {id:Int} (hid:mIn id 1 60=true) {h:Int} (hh:mIn h 0 999=true) (I:(Qbq c t id h).2=0):Zs (Qbq c t id h).1=0:=by
 unfold Qbq at I ⊢;split at I
 ·cases I
 ·rename_i hb
  rw[if_neg hb];exact Qlh (QjB U _) hid J.lo.2 (fun o ho=>(QmR J o ho).1) hh I
end GL
end Go.Dx
