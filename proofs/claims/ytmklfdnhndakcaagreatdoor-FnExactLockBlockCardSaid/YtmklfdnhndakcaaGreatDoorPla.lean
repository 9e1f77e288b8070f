/- The plain law: no program in sight -/
import Derived.Test.YtmklfdnhndakcaaGreatDoorSca
set_option linter.unusedVariables false
set_option linter.unusedSimpArgs false
set_option maxHeartbeats 1000000
namespace Go.Dx
namespace GL
open IntKind Sum
abbrev TCoin:=(Int×Int)×(Int×List Int×Int×Int)×Int×Bool
abbrev TM:=Int×Int×Int
abbrev TUndo:=Int×List (List TCoin)×List TM
abbrev TState:=Int×Int×List TCoin×List TM
abbrev TChain:=(List (List UInt8)×List (Int×Int))×List TM×List Int×TState×List TUndo
def QhK (l:List (List UInt8)):Nat:=l.length+(l.map List.length).sum
def Qb0 (c:TCoin):Nat:=c.2.1.2.1.length
def Jt (l:List TCoin):Nat:=l.length+(l.map Qb0).sum
def Qdq (l:List (List TCoin)):Nat:=l.length+(l.map Jt).sum
def Ja (u:TUndo):Nat:=Qdq u.2.1+u.2.2.length
def QdD (l:List TUndo):Nat:=l.length+(l.map Ja).sum
def Qgn (s:TState):Nat:=Jt s.2.2.1+s.2.2.2.length
def J4 (c:TChain):Nat:=((((QhK c.1.1+c.1.2.length)+c.2.1.length)+c.2.2.1.length)+Qgn c.2.2.2.1)+QdD c.2.2.2.2
def bL {α:Type} (p:α->Prop) (l:List α):Prop:=l.length<=9223372036854775807/\∀y,y ∈ l->p y
def bAny {α:Type} (_:α):Prop:=True
def JD (c:TCoin):Prop:=bL bAny c.2.1.2.1
def Qa8 (u:TUndo):Prop:=bL (bL JD) u.2.1/\bL bAny u.2.2
def QiS (s:TState):Prop:=bL JD s.2.2.1/\bL bAny s.2.2.2
def QdL (c:TChain):Prop:=(bL (bL bAny) c.1.1/\bL bAny c.1.2)/\bL bAny c.2.1/\bL bAny c.2.2.1/\QiS c.2.2.2.1/\bL Qa8 c.2.2.2.2
theorem QfL {s:Sh} {p:s.den->Prop} (I:∀y,Bnd s y->p y) {l:List s.den} (h:Bnd (.list s) l):bL p l:=⟨h.1,fun y J=>I y (h.2 y J)⟩
theorem QQ (i n:Nat) (h:i<n) (I:n<=9223372036854775807):wrap .i64 ((i:Int)+1)=((i+1:Nat):Int):=by
 rw[Qy (by omega) (by omega)];omega
theorem Qm1 (t:Nat) (left:Int) (c:Int) (h0:0<=left):(bif decide (szr t left<0) then (some (inr (inr (-1))):Option ((Int×Int)⊕(Int⊕Int))) else some (inl (szr t left,c)))=if (t:Int)<=left then some (inl (left - t,c)) else some (inr (inr (-1))):=by
 by_cases h:(t:Int)<=left
 ·have e:szr t left=left - t:=by simp[szr,h]
  have I:¬(left - (t:Int))<0:=by omega
  simp[e,I,h]
 ·have e:szr t left = -1:=by simp[szr,h]
  simp[e,h]
theorem Qup (t:Nat) (left:Int) (c:Int) (h0:0<=left) (h1:left<=1048576) (J:t<=9223372036854775807):(bif decide (wrap .i64 (left - (t:Int))<0) then (some (inr (inr (-1))):Option ((Int×Int)⊕(Int⊕Int))) else some (inl (wrap .i64 (left - (t:Int)),c)))=if (t:Int)<=left then some (inl (left - t,c)) else some (inr (inr (-1))):=by
 rw[Qy (by omega) (by omega)]
 by_cases h:(t:Int)<=left
 ·have I:¬(left - (t:Int))<0:=by omega
  simp[I,h]
 ·have I:(left - (t:Int))<0:=by omega
  simp[I,h]
theorem Qjl (left:Int) (h:0<=left):szr 0 left=left:=by simp[szr,h]
theorem QnK (x:List (Int×Int)) (I:x.length<=9223372036854775807) (left:Int) (h0:0<=left) (h1:left<=1048576):Qcc x left=some (szr x.length left):=by
 unfold Qcc;exact QdG (b:=0) (k:=fun l=>some l) h0 h1 I (fun h=>by rw[Qjl _ (by omega)])
theorem Qm7 (x:List TM) (I:x.length<=9223372036854775807) (left:Int) (h0:0<=left) (h1:left<=1048576):Qb3 x left=some (szr x.length left):=by
 unfold Qb3;exact QdG (b:=0) (k:=fun l=>some l) h0 h1 I (fun h=>by rw[Qjl _ (by omega)])
theorem Qh9 (x:List Int) (I:x.length<=9223372036854775807) (left:Int) (h0:0<=left) (h1:left<=1048576):Y1 x left=some (szr x.length left):=by
 unfold Y1;exact QdG (b:=0) (k:=fun l=>some l) h0 h1 I (fun h=>by rw[Qjl _ (by omega)])
theorem QhI (x:List TM) (I:x.length<=9223372036854775807) (left:Int) (h0:0<=left) (h1:left<=1048576):Yx x left=some (szr x.length left):=by
 unfold Yx;exact QdG (b:=0) (k:=fun l=>some l) h0 h1 I (fun h=>by rw[Qjl _ (by omega)])
theorem QlI (x:List (List UInt8)) (I:bL (bL bAny) x) (left:Int) (h0:0<=left) (h1:left<=1048576):Qcs x left=some (szr (QhK x) left):=by
 unfold Qcs;refine QdG (b:=(x.map List.length).sum) (k:=fun l=>(Qc _ (l,0)).bind _) h0 h1 I.1 (fun hle=>?_)
 refine QkQ x List.length _ (fun i left h h0 h1=>?_) (fun left=>?_) _ (by omega) (by omega)
 ·have e1:decide ((i:Int)<(x.length:Int))=true:=by simpa using h
  simp only[e1,Qb x i h,Qa x i _ h,aLB,QQ i _ h I.1];exact Qup _ _ _ h0 h1 (I.2 _ (aLl h)).1
 ·simp
theorem QmT (x:List (List UInt8)×List (Int×Int)) (I:bL (bL bAny) x.1/\bL bAny x.2) (left:Int) (h0:0<=left) (h1:left<=1048576):Qdn x left=some (szr (QhK x.1+x.2.length) left):=by
 unfold Qdn;rw[QlI _ I.1 _ h0 h1,aLc];refine Qjw _ _ _ (k:=fun y=>(Qcc x.2 y).bind fun J=>bif decide (J<0) then some (-1) else some J) h0 fun h=>?_
 have U:=QfJ h
 rw[QnK _ I.2.1 _ h (by omega),aLc]
 exact Qfe _ _ h
theorem Qo2 (x:List Int×Int×Int) (I:x.1.length<=9223372036854775807) (left:Int) (h0:0<=left) (h1:left<=1048576):QeR x left=some (szr x.1.length left):=by
 unfold QeR;rw[Qh9 _ I _ h0 h1,aLc];exact Qfe _ _ h0
theorem Qqu (x:Int×List Int×Int×Int) (I:x.2.1.length<=9223372036854775807) (left:Int) (h0:0<=left) (h1:left<=1048576):QfP x left=some (szr x.2.1.length left):=by
 unfold QfP;rw[Qo2 _ I _ h0 h1,aLc];exact Qfe _ _ h0
theorem QoT (x:TCoin) (I:JD x) (left:Int) (h0:0<=left) (h1:left<=1048576):QeS x left=some (szr (Qb0 x) left):=by
 unfold QeS;rw[Qqu _ I.1 _ h0 h1,aLc];exact Qfe _ _ h0
theorem QiA (x:List TCoin) (I:bL JD x) (left:Int) (h0:0<=left) (h1:left<=1048576):QbV x left=some (szr (x.length+(x.map Qb0).sum) left):=by
 unfold QbV;refine QdG (b:=(x.map Qb0).sum) (k:=fun l=>(Qc _ (l,0)).bind _) h0 h1 I.1 (fun hle=>?_)
 refine QkQ x Qb0 _ (fun i left h h0 h1=>?_) (fun left=>?_) _ (by omega) (by omega)
 ·have e1:decide ((i:Int)<(x.length:Int))=true:=by simpa using h
  simp only[e1,Qb x i h,Qa x i _ h,aLB,QQ i _ h I.1,QoT _ (I.2 _ (aLl h)) _ h0 h1,aLc];exact Qm1 _ _ _ h0
 ·simp
theorem Qml (x:List (List TCoin)) (I:bL (bL JD) x) (left:Int) (h0:0<=left) (h1:left<=1048576):Qc5 x left=some (szr (x.length+(x.map Jt).sum) left):=by
 unfold Qc5;refine QdG (b:=(x.map Jt).sum) (k:=fun l=>(Qc _ (l,0)).bind _) h0 h1 I.1 (fun hle=>?_)
 refine QkQ x Jt _ (fun i left h h0 h1=>?_) (fun left=>?_) _ (by omega) (by omega)
 ·have e1:decide ((i:Int)<(x.length:Int))=true:=by simpa using h
  simp only[e1,Qb x i h,Qa x i _ h,aLB,QQ i _ h I.1,QiA _ (I.2 _ (aLl h)) _ h0 h1,aLc];exact Qm1 _ _ _ h0
 ·simp
theorem Qni (x:TState) (I:QiS x) (left:Int) (h0:0<=left) (h1:left<=1048576):Ju x left=some (szr (Qgn x) left):=by
 unfold Ju;rw[QiA _ I.1 _ h0 h1,aLc];refine Qjw _ _ _ (k:=fun y=>(Yx x.2.2.2 y).bind fun J=>bif decide (J<0) then some (-1) else some J) h0 fun h=>?_
 have U:=QfJ h
 rw[QhI _ I.2.1 _ h (by omega),aLc]
 exact Qfe _ _ h
theorem Qo8 (x:TUndo) (I:Qa8 x) (left:Int) (h0:0<=left) (h1:left<=1048576):QeH x left=some (szr (Ja x) left):=by
 unfold QeH;rw[Qml _ I.1 _ h0 h1,aLc];refine Qjw _ _ _ (k:=fun y=>(Yx x.2.2 y).bind fun J=>bif decide (J<0) then some (-1) else some J) h0 fun h=>?_
 have U:=QfJ h
 rw[QhI _ I.2.1 _ h (by omega),aLc]
 exact Qfe _ _ h
theorem QnM (x:List TUndo) (I:bL Qa8 x) (left:Int) (h0:0<=left) (h1:left<=1048576):YF x left=some (szr (x.length+(x.map Ja).sum) left):=by
 unfold YF;refine QdG (b:=(x.map Ja).sum) (k:=fun l=>(Qc _ (l,0)).bind _) h0 h1 I.1 (fun hle=>?_)
 refine QkQ x Ja _ (fun i left h h0 h1=>?_) (fun left=>?_) _ (by omega) (by omega)
 ·have e1:decide ((i:Int)<(x.length:Int))=true:=by simpa using h
  simp only[e1,Qb x i h,Qa x i _ h,aLB,QQ i _ h I.1,Qo8 _ (I.2 _ (aLl h)) _ h0 h1,aLc];exact Qm1 _ _ _ h0
 ·simp
theorem QiD (a b:Nat) (left:Int) (h:0<=szr a left):szr b (szr a left)=szr (a+b) left:=by
 have I:=QfJ h
 rw[I.2];simp only[szr];split<;>split<;>omega
theorem Qnk (x:TChain) (hx:QdL x) (left:Int) (h0:0<=left) (h1:left<=1048576):Qd7 x left=some (szr (J4 x) left):=by
 obtain⟨hb1,hb2,hb3,hb4,hb5⟩:=hx;unfold Qd7;rw[QmT _ hb1 _ h0 h1,aLc];have fin:∀(a:Nat) (k:Int->Option Int) (b:Nat),(0<=szr a left->k (szr a left)=some (szr (a+b) left))->(bif decide (szr a left<0) then some (-1) else k (szr a left))=some (szr (a+b) left):=by
  intro a k b hk;exact Qjw a b left h0 (fun h=>by rw[hk h,QiD _ _ _ h])
 have e:J4 x=QhK x.1.1+x.1.2.length+(x.2.1.length+(x.2.2.1.length+(Qgn x.2.2.2.1+QdD x.2.2.2.2))):=by simp only[J4];omega
 rw[e];refine fin _ (fun y6=>(Qb3 x.2.1 y6).bind fun y7=>bif decide (y7<0) then some (-1) else (Y1 x.2.2.1 y7).bind fun U=>bif decide (U<0) then some (-1) else (Ju x.2.2.2.1 U).bind fun J=>bif decide (J<0) then some (-1) else (YF x.2.2.2.2 J).bind fun I=>bif decide (I<0) then some (-1) else some I) _ fun h=>?_
 have hl:=QfJ h
 rw[Qm7 _ hb2.1 _ h (by omega),aLc,QiD _ _ _ h,<-aMh]
 refine fin _ (fun y7=>(Y1 x.2.2.1 y7).bind fun U=>bif decide (U<0) then some (-1) else (Ju x.2.2.2.1 U).bind fun J=>bif decide (J<0) then some (-1) else (YF x.2.2.2.2 J).bind fun I=>bif decide (I<0) then some (-1) else some I) _ fun h=>?_
 have hl:=QfJ h
 rw[Qh9 _ hb3.1 _ h (by omega),aLc,QiD _ _ _ h,<-aMh]
 refine fin _ (fun U=>(Ju x.2.2.2.1 U).bind fun J=>bif decide (J<0) then some (-1) else (YF x.2.2.2.2 J).bind fun I=>bif decide (I<0) then some (-1) else some I) _ fun h=>?_
 have hl:=QfJ h
 rw[Qni _ hb4 _ h (by omega),aLc,QiD _ _ _ h,<-aMh]
 refine fin _ (fun J=>(YF x.2.2.2.2 J).bind fun I=>bif decide (I<0) then some (-1) else some I) _ fun h=>?_
 have hl:=QfJ h
 rw[QnM _ hb5 _ h (by omega),aLc,QiD _ _ _ h]
 exact Qfe _ _ h0
theorem Ql8 {α:Type} (m:α->Nat):∀(l:List α) (y:α),y ∈ l->m y<=(l.map m).sum
 | x::l,y,h=>by
  simp only[aMJ,List.sum_cons];cases List.mem_cons.1 h with
  | inl h=>subst h;omega
  | inr h=>have:=Ql8 m l y h;omega
theorem QgC {n:Nat} (h:n<=1048576):(decide (0<=(n:Int))&&decide ((n:Int)<=(LIM:Int)))=true:=by
 have h1:(0:Int)<=n:=by omega
 have h2:(n:Int)<=(LIM:Int):=by unfold LIM;omega
 rw[aLE h1,aLE h2];rfl
theorem Qdu {α:Type} (l:List α) (d:α) (f:List α×Int->Option ((List α×Int)⊕List α)) (I:∀(i:Nat) (acc:List α) (h:i<l.length),acc.length=l.length->f (acc,(i:Int))=some (.inl (acc.set i l[i],((i+1:Nat):Int))))
  (J:∀acc,f (acc,(l.length:Int))=some (.inr acc)):(Qc f (List.replicate (Int.toNat (l.length:Int)) d,0)).bind (fun j=>some j)=some l:=by
 rw[show Int.toNat (l.length:Int)=l.length by simp,Qwu l d f I J];rfl
theorem QlC (x:List (List UInt8)) (I:x.length<=1048576):QcA x=some x:=by
 unfold QcA;have J:x.length<=1048576:=by exact I
 rw[QgC J,aLB];refine Qdu x [] _ (fun i acc h ha=>?_) (fun acc=>?_)
 ·have e1:decide ((i:Int)<(x.length:Int))=true:=by simpa using h
  have U:inB (i:Int) acc=true:=Qb acc i (by omega)
  have e3:Int.toNat (i:Int)=i:=by simp
  simp only[e1,Qb x i h,U,aLB,Qa x i _ h,QQ i _ h (by omega)]
  rw[e3]
 ·simp
theorem QoV (x:Int×Int):Qe2 x=some x:=rfl
theorem Qpb (x:TM):QeE x=some x:=rfl
theorem QkF (x:Int×Int):QfU x=some x:=rfl
theorem QmS (x:TM):Qa9 x=some x:=by unfold Qa9;rw[QkF,aLc]
theorem QnA (x:List (Int×Int)) (J:x.length<=1048576):QdZ x=some x:=by
 unfold QdZ;have U:x.length<=1048576:=by exact J
 rw[QgC U,aLB];refine Qdu x (0,0) _ (fun i acc h ha=>?_) (fun acc=>?_)
 ·have e1:decide ((i:Int)<(x.length:Int))=true:=by simpa using h
  have e2:inB (i:Int) acc=true:=Qb acc i (by omega)
  have e3:Int.toNat (i:Int)=i:=by simp
  have I:Qe2 (List.getD x (Int.toNat (i:Int)) (0,0))=some x[i]:=by rw[Qa x i _ h];exact QoV _
  simp only[e1,Qb x i h,e2,aLB,I,aLc,QQ i _ h (by omega)]
  rw[e3]
 ·simp
theorem Qnl (x:List TM) (J:x.length<=1048576):Qd5 x=some x:=by
 unfold Qd5;have U:x.length<=1048576:=by exact J
 rw[QgC U,aLB];refine Qdu x (0,(0,0)) _ (fun i acc h ha=>?_) (fun acc=>?_)
 ·have e1:decide ((i:Int)<(x.length:Int))=true:=by simpa using h
  have e2:inB (i:Int) acc=true:=Qb acc i (by omega)
  have e3:Int.toNat (i:Int)=i:=by simp
  have I:QeE (List.getD x (Int.toNat (i:Int)) (0,(0,0)))=some x[i]:=by rw[Qa x i _ h];exact Qpb _
  simp only[e1,Qb x i h,e2,aLB,I,aLc,QQ i _ h (by omega)]
  rw[e3]
 ·simp
theorem Qio (x:List Int) (I:x.length<=1048576):Qbm x=some x:=by
 unfold Qbm;have J:x.length<=1048576:=by exact I
 rw[QgC J,aLB];refine Qdu x 0 _ (fun i acc h ha=>?_) (fun acc=>?_)
 ·have e1:decide ((i:Int)<(x.length:Int))=true:=by simpa using h
  have U:inB (i:Int) acc=true:=Qb acc i (by omega)
  have e3:Int.toNat (i:Int)=i:=by simp
  simp only[e1,Qb x i h,U,aLB,Qa x i _ h,QQ i _ h (by omega)]
  rw[e3]
 ·simp
theorem Qho (x:List TM) (J:x.length<=1048576):QaI x=some x:=by
 unfold QaI;have U:x.length<=1048576:=by exact J
 rw[QgC U,aLB];refine Qdu x (0,(0,0)) _ (fun i acc h ha=>?_) (fun acc=>?_)
 ·have e1:decide ((i:Int)<(x.length:Int))=true:=by simpa using h
  have e2:inB (i:Int) acc=true:=Qb acc i (by omega)
  have e3:Int.toNat (i:Int)=i:=by simp
  have I:Qa9 (List.getD x (Int.toNat (i:Int)) (0,(0,0)))=some x[i]:=by rw[Qa x i _ h];exact QmS _
  simp only[e1,Qb x i h,e2,aLB,I,aLc,QQ i _ h (by omega)]
  rw[e3]
 ·simp
theorem QmQ (x:List (List UInt8)×List (Int×Int)) (h1:x.1.length<=1048576) (h2:x.2.length<=1048576):Qdg x=some x:=by
 unfold Qdg;rw[QlC _ h1,aLc,QnA _ h2,aLc]
theorem Qo7 (x:List Int×Int×Int) (h:x.1.length<=1048576):Qe7 x=some x:=by
 unfold Qe7;rw[Qio _ h,aLc]
theorem Qp5 (x:Int×List Int×Int×Int) (h:x.2.1.length<=1048576):QfZ x=some x:=by
 unfold QfZ;rw[Qo7 _ h,aLc]
theorem QoF (x:TCoin) (h:Qb0 x<=1048576):QcR x=some x:=by
 unfold QcR;rw[QkF,aLc,Qp5 _ h,aLc]
theorem QiR (x:List TCoin) (hx:Jt x<=1048576):Qan x=some x:=by
 unfold Qan;have J:x.length<=1048576:=by have:x.length<=Jt x:=Nat.le_add_right _ _;omega
 rw[QgC J,aLB];refine Qdu x ((0,0),((0,([],(0,0))),(0,false))) _ (fun i acc h ha=>?_) (fun acc=>?_)
 ·have e1:decide ((i:Int)<(x.length:Int))=true:=by simpa using h
  have U:inB (i:Int) acc=true:=Qb acc i (by omega)
  have e3:Int.toNat (i:Int)=i:=by simp
  have hm:Qb0 x[i]<=1048576:=by
   have h1:=Ql8 Qb0 x _ (aLl h)
   have h2:(x.map Qb0).sum<=Jt x:=Nat.le_add_left _ _
   omega
  have I:QcR (List.getD x (Int.toNat (i:Int)) ((0,0),((0,([],(0,0))),(0,false))))=some x[i]:=by rw[Qa x i _ h];exact QoF _ hm
  simp only[e1,Qb x i h,U,aLB,I,aLc,QQ i _ h (by omega)]
  rw[e3]
 ·simp
theorem Qmw (x:List (List TCoin)) (hx:Qdq x<=1048576):Qdh x=some x:=by
 unfold Qdh;have J:x.length<=1048576:=by have:x.length<=Qdq x:=Nat.le_add_right _ _;omega
 rw[QgC J,aLB];refine Qdu x [] _ (fun i acc h ha=>?_) (fun acc=>?_)
 ·have e1:decide ((i:Int)<(x.length:Int))=true:=by simpa using h
  have U:inB (i:Int) acc=true:=Qb acc i (by omega)
  have e3:Int.toNat (i:Int)=i:=by simp
  have hm:Jt x[i]<=1048576:=by
   have h1:=Ql8 Jt x _ (aLl h)
   have h2:(x.map Jt).sum<=Qdq x:=Nat.le_add_left _ _
   omega
  have I:Qan (List.getD x (Int.toNat (i:Int)) [])=some x[i]:=by rw[Qa x i _ h];exact QiR _ hm
  simp only[e1,Qb x i h,U,aLB,I,aLc,QQ i _ h (by omega)]
  rw[e3]
 ·simp
theorem Qny (x:TState) (h:Qgn x<=1048576):Qd8 x=some x:=by
 simp only[Qgn] at h;unfold Qd8;rw[QiR _ (by omega),aLc,Qho _ (by omega),aLc]
theorem QoK (x:TUndo) (h:Ja x<=1048576):QcS x=some x:=by
 simp only[Ja] at h;unfold QcS;rw[Qmw _ (by omega),aLc,Qho _ (by omega),aLc]
theorem QnJ (x:List TUndo) (hx:QdD x<=1048576):Qek x=some x:=by
 unfold Qek;have J:x.length<=1048576:=by have:x.length<=QdD x:=Nat.le_add_right _ _;omega
 rw[QgC J,aLB];refine Qdu x (0,([],[])) _ (fun i acc h ha=>?_) (fun acc=>?_)
 ·have e1:decide ((i:Int)<(x.length:Int))=true:=by simpa using h
  have U:inB (i:Int) acc=true:=Qb acc i (by omega)
  have e3:Int.toNat (i:Int)=i:=by simp
  have hm:Ja x[i]<=1048576:=by
   have h1:=Ql8 Ja x _ (aLl h)
   have h2:(x.map Ja).sum<=QdD x:=Nat.le_add_left _ _
   omega
  have I:QcS (List.getD x (Int.toNat (i:Int)) (0,([],[])))=some x[i]:=by rw[Qa x i _ h];exact QoK _ hm
  simp only[e1,Qb x i h,U,aLB,I,aLc,QQ i _ h (by omega)]
  rw[e3]
 ·simp
theorem Qnc (x:TChain) (h:J4 x<=1048576):Jv x=some x:=by
 simp only[J4] at h;have h0:x.1.1.length<=QhK x.1.1:=Nat.le_add_right _ _
 unfold Jv;rw[QmQ _ (by omega) (by omega),aLc,Qnl _ (by omega),aLc,Qio _ (by omega),aLc,Qny _ (by omega),aLc,QnJ _ (by omega),aLc]
set_option synthInstance.maxSize 1000
set_option synthInstance.maxHeartbeats 400000
instance Qxi:DecidableEq TCoin:=inferInstance
instance Qxf:DecidableEq (List TCoin):=instDecidableEqList
instance Qxd:DecidableEq (List (List TCoin)):=instDecidableEqList
instance Qxj:DecidableEq TUndo:=inferInstance
instance Qxe:DecidableEq (List TUndo):=instDecidableEqList
instance Qxh:DecidableEq TState:=inferInstance
instance Qxg:DecidableEq TChain:=inferInstance
theorem beq2 (a b:Int×Int):Sh.beq (.prod (.int .i64) (.int .i64)) a b=decide (a=b):=by
 obtain⟨I,a2⟩:=a;obtain⟨J,U⟩:=b;simp only[Sh.beq];by_cases h1:I=J<;>by_cases h2:a2=U<;>simp[h1,h2]
theorem beq3 (a b:TM):Sh.beq (.prod (.int .i64) (.prod (.int .i64) (.int .i64))) a b=decide (a=b):=by
 obtain⟨I,a2,a3⟩:=a;obtain⟨J,U,b3⟩:=b;simp only[Sh.beq];by_cases h1:I=J<;>by_cases h2:a2=U<;>by_cases h3:a3=b3<;>simp[h1,h2,h3]
theorem beqB (a b:Bool):Sh.beq .bool a b=decide (a=b):=rfl
theorem Jc {p:Prop} [Decidable p] (w:Int):(bif !decide p then (some (inr (inr false)):Option (Int⊕(Unit⊕Bool))) else some (inl w))=if p then some (inl w) else some (inr (inr false)):=by
 by_cases h:p<;>simp[h]
theorem Y9 {α:Type} [DecidableEq α] {x y:List α} (h:¬x.length=y.length):decide (x=y)=false:=aLD (fun he=>h (by rw[he]))
theorem Qlv (x y:List (List UInt8)) (hx:bL (bL bAny) x):Qcz x y=some (decide (x=y)):=by
 unfold Qcz;by_cases I:x.length=y.length
 ·have J:decide ((x.length:Int)=(y.length:Int))=true:=by simp[I]
  rw[J,aMa,aLC];refine YH x y I _ (fun i h U=>?_) ?_
  ·have e1:decide ((i:Int)<(x.length:Int))=true:=by simpa using h
   simp only[e1,Qb x i h,Qb y i U,Qa x i _ h,Qa y i _ U,aLB,QQ i _ h hx.1];exact Jc _
  ·simp
 ·have J:decide ((x.length:Int)=(y.length:Int))=false:=aLD (fun h=>I (by omega))
  rw[J,Y9 I];rfl
theorem QoH (x y:Int×Int):QeX x y=some (decide (x=y)):=by
 unfold QeX;obtain⟨I,a2⟩:=x;obtain⟨J,U⟩:=y;by_cases h1:I=J<;>by_cases h2:a2=U<;>simp[h1,h2]
theorem Qku (x y:Int×Int):Qdt x y=some (decide (x=y)):=by
 unfold Qdt;obtain⟨I,a2⟩:=x;obtain⟨J,U⟩:=y;by_cases h1:I=J<;>by_cases h2:a2=U<;>simp[h1,h2]
theorem Qo3 (x y:TM):Qe8 x y=some (decide (x=y)):=by
 unfold Qe8;obtain⟨I,a2,a3⟩:=x;obtain⟨J,U,b3⟩:=y;by_cases h1:I=J<;>by_cases h2:a2=U<;>by_cases h3:a3=b3<;>simp[h1,h2,h3]
theorem Qmb (x y:TM):Qdm x y=some (decide (x=y)):=by
 unfold Qdm;rw[Qku];obtain⟨I,a2⟩:=x;obtain⟨J,U⟩:=y;by_cases h1:I=J<;>by_cases h2:a2=U<;>simp[h1,h2]
theorem Qnf (x y:List (Int×Int)) (hx:bL bAny x):QdU x y=some (decide (x=y)):=by
 unfold QdU;by_cases I:x.length=y.length
 ·have J:decide ((x.length:Int)=(y.length:Int))=true:=by simp[I]
  rw[J,aMa,aLC];refine YH x y I _ (fun i h U=>?_) ?_
  ·have e1:decide ((i:Int)<(x.length:Int))=true:=by simpa using h
   simp only[e1,Qb x i h,Qb y i U,Qa x i _ h,Qa y i _ U,aLB,QQ i _ h hx.1,QoH,aLc];exact Jc _
  ·simp
 ·have J:decide ((x.length:Int)=(y.length:Int))=false:=aLD (fun h=>I (by omega))
  rw[J,Y9 I];rfl
theorem Qm0 (x y:List TM) (hx:bL bAny x):QdV x y=some (decide (x=y)):=by
 unfold QdV;by_cases I:x.length=y.length
 ·have J:decide ((x.length:Int)=(y.length:Int))=true:=by simp[I]
  rw[J,aMa,aLC];refine YH x y I _ (fun i h U=>?_) ?_
  ·have e1:decide ((i:Int)<(x.length:Int))=true:=by simpa using h
   simp only[e1,Qb x i h,Qb y i U,Qa x i _ h,Qa y i _ U,aLB,QQ i _ h hx.1,Qo3,aLc];exact Jc _
  ·simp
 ·have J:decide ((x.length:Int)=(y.length:Int))=false:=aLD (fun h=>I (by omega))
  rw[J,Y9 I];rfl
theorem Qhs (x y:List TM) (hx:bL bAny x):Qav x y=some (decide (x=y)):=by
 unfold Qav;by_cases I:x.length=y.length
 ·have J:decide ((x.length:Int)=(y.length:Int))=true:=by simp[I]
  rw[J,aMa,aLC];refine YH x y I _ (fun i h U=>?_) ?_
  ·have e1:decide ((i:Int)<(x.length:Int))=true:=by simpa using h
   simp only[e1,Qb x i h,Qb y i U,Qa x i _ h,Qa y i _ U,aLB,QQ i _ h hx.1,Qmb,aLc];exact Jc _
  ·simp
 ·have J:decide ((x.length:Int)=(y.length:Int))=false:=aLD (fun h=>I (by omega))
  rw[J,Y9 I];rfl
theorem Qii (x y:List Int) (hx:bL bAny x):Qa3 x y=some (decide (x=y)):=by
 unfold Qa3;by_cases I:x.length=y.length
 ·have J:decide ((x.length:Int)=(y.length:Int))=true:=by simp[I]
  rw[J,aMa,aLC];refine YH x y I _ (fun i h U=>?_) ?_
  ·have e1:decide ((i:Int)<(x.length:Int))=true:=by simpa using h
   simp only[e1,Qb x i h,Qb y i U,Qa x i _ h,Qa y i _ U,aLB,QQ i _ h hx.1];exact Jc _
  ·simp
 ·have J:decide ((x.length:Int)=(y.length:Int))=false:=aLD (fun h=>I (by omega))
  rw[J,Y9 I];rfl
theorem Qmv (x y:List (List UInt8)×List (Int×Int)) (I:bL (bL bAny) x.1/\bL bAny x.2):Qdl x y=some (decide (x=y)):=by
 unfold Qdl;obtain⟨J,a2⟩:=x;obtain⟨U,b2⟩:=y;rw[Qlv _ _ I.1,Qnf _ _ I.2];by_cases h1:J=U<;>by_cases h2:a2=b2<;>simp[h1,h2]
theorem Qpa (x y:List Int×Int×Int) (I:bL bAny x.1):Qe3 x y=some (decide (x=y)):=by
 unfold Qe3;obtain⟨J,a2,a3⟩:=x;obtain⟨U,b2,b3⟩:=y;rw[Qii _ _ I];by_cases h1:J=U<;>by_cases h2:a2=b2<;>by_cases h3:a3=b3<;>simp[h1,h2,h3]
theorem Qpr (x y:Int×List Int×Int×Int) (I:bL bAny x.2.1):QfD x y=some (decide (x=y)):=by
 unfold QfD;obtain⟨J,a2⟩:=x;obtain⟨U,b2⟩:=y;rw[Qpa _ _ I];by_cases h1:J=U<;>by_cases h2:a2=b2<;>simp[h1,h2]
theorem QoZ (x y:TCoin) (I:JD x):QeL x y=some (decide (x=y)):=by
 unfold QeL;obtain⟨J,a2,a3,a4⟩:=x;obtain⟨U,b2,b3,b4⟩:=y;rw[Qpr _ _ I,Qku,beqB];by_cases h1:J=U<;>by_cases h2:a2=b2<;>by_cases h3:a3=b3<;>by_cases h4:a4=b4<;>simp[h1,h2,h3,h4]
theorem QiI (x y:List TCoin) (U:bL JD x):Qb9 x y=some (decide (x=y)):=by
 unfold Qb9;by_cases I:x.length=y.length
 ·have J:decide ((x.length:Int)=(y.length:Int))=true:=by simp[I]
  rw[J,aMa,aLC];refine YH x y I _ (fun i h h'=>?_) ?_
  ·have e1:decide ((i:Int)<(x.length:Int))=true:=by simpa using h
   simp only[e1,Qb x i h,Qb y i h',Qa x i _ h,Qa y i _ h',aLB,QQ i _ h U.1,QoZ _ _ (U.2 _ (aLl h)),aLc];exact Jc _
  ·simp
 ·have J:decide ((x.length:Int)=(y.length:Int))=false:=aLD (fun h=>I (by omega))
  rw[J,Y9 I];rfl
theorem Qmo (x y:List (List TCoin)) (U:bL (bL JD) x):Qdi x y=some (decide (x=y)):=by
 unfold Qdi;by_cases I:x.length=y.length
 ·have J:decide ((x.length:Int)=(y.length:Int))=true:=by simp[I]
  rw[J,aMa,aLC];refine YH x y I _ (fun i h h'=>?_) ?_
  ·have e1:decide ((i:Int)<(x.length:Int))=true:=by simpa using h
   simp only[e1,Qb x i h,Qb y i h',Qa x i _ h,Qa y i _ h',aLB,QQ i _ h U.1,QiI _ _ (U.2 _ (aLl h)),aLc];exact Jc _
  ·simp
 ·have J:decide ((x.length:Int)=(y.length:Int))=false:=aLD (fun h=>I (by omega))
  rw[J,Y9 I];rfl
theorem QmV (x y:TState) (I:QiS x):Qd1 x y=some (decide (x=y)):=by
 unfold Qd1;obtain⟨J,a2,a3,a4⟩:=x;obtain⟨U,b2,b3,b4⟩:=y;rw[QiI _ _ I.1,Qhs _ _ I.2];by_cases h1:J=U<;>by_cases h2:a2=b2<;>by_cases h3:a3=b3<;>by_cases h4:a4=b4<;>simp[h1,h2,h3,h4]
theorem QoM (x y:TUndo) (I:Qa8 x):QeF x y=some (decide (x=y)):=by
 unfold QeF;obtain⟨J,a2,a3⟩:=x;obtain⟨U,b2,b3⟩:=y;rw[Qmo _ _ I.1,Qhs _ _ I.2];by_cases h1:J=U<;>by_cases h2:a2=b2<;>by_cases h3:a3=b3<;>simp[h1,h2,h3]
theorem Qnu (x y:List TUndo) (U:bL Qa8 x):QdP x y=some (decide (x=y)):=by
 unfold QdP;by_cases I:x.length=y.length
 ·have J:decide ((x.length:Int)=(y.length:Int))=true:=by simp[I]
  rw[J,aMa,aLC];refine YH x y I _ (fun i h h'=>?_) ?_
  ·have e1:decide ((i:Int)<(x.length:Int))=true:=by simpa using h
   simp only[e1,Qb x i h,Qb y i h',Qa x i _ h,Qa y i _ h',aLB,QQ i _ h U.1,QoM _ _ (U.2 _ (aLl h)),aLc];exact Jc _
  ·simp
 ·have J:decide ((x.length:Int)=(y.length:Int))=false:=aLD (fun h=>I (by omega))
  rw[J,Y9 I];rfl
theorem Qi0 (x y:TChain) (hx:QdL x):Qb5 x y=some (decide (x=y)):=by
 unfold Qb5;obtain⟨I,J,U,hb4,hb5⟩:=hx;obtain⟨a1,a2,a3,a4,a5⟩:=x;obtain⟨b1,b2,b3,b4,b5⟩:=y;rw[Qmv _ _ I,Qm0 _ _ J,Qii _ _ U,QmV _ _ hb4,Qnu _ _ hb5];by_cases h1:a1=b1<;>by_cases h2:a2=b2<;>by_cases h3:a3=b3<;>by_cases h4:a4=b4<;>by_cases h5:a5=b5<;>simp[h1,h2,h3,h4,h5]
theorem QgE (x y:List Int) (hx:bL bAny x):Yf x y=some (decide (x=y)):=by
 unfold Yf;by_cases I:x.length=y.length
 ·have J:decide ((x.length:Int)=(y.length:Int))=true:=by simp[I]
  rw[J,aMa,aLC];refine YH x y I _ (fun i h U=>?_) ?_
  ·have e1:decide ((i:Int)<(x.length:Int))=true:=by simpa using h
   simp only[e1,Qb x i h,Qb y i U,Qa x i _ h,Qa y i _ U,aLB,QQ i _ h hx.1];exact Jc _
  ·simp
 ·have J:decide ((x.length:Int)=(y.length:Int))=false:=aLD (fun h=>I (by omega))
  rw[J,Y9 I];rfl
theorem QcH (x y:List TM) (hx:bL bAny x):Zr x y=some (decide (x=y)):=by
 unfold Zr;by_cases I:x.length=y.length
 ·have J:decide ((x.length:Int)=(y.length:Int))=true:=by simp[I]
  rw[J,aMa,aLC];refine YH x y I _ (fun i h U=>?_) ?_
  ·have e1:decide ((i:Int)<(x.length:Int))=true:=by simpa using h
   simp only[e1,Qb x i h,Qb y i U,Qa x i _ h,Qa y i _ U,aLB,QQ i _ h hx.1,beq3];exact Jc _
  ·simp
 ·have J:decide ((x.length:Int)=(y.length:Int))=false:=aLD (fun h=>I (by omega))
  rw[J,Y9 I];rfl
theorem QlF (x y:List Int×Int×Int) (I:bL bAny x.1):Qck x y=some (decide (x=y)):=by
 unfold Qck;obtain⟨J,a2,a3⟩:=x;obtain⟨U,b2,b3⟩:=y;rw[QgE _ _ I];by_cases h1:J=U<;>by_cases h2:a2=b2<;>by_cases h3:a3=b3<;>simp[h1,h2,h3]
theorem Qib (x y:Int×List Int×Int×Int) (I:bL bAny x.2.1):Qbn x y=some (decide (x=y)):=by
 unfold Qbn;obtain⟨J,a2⟩:=x;obtain⟨U,b2⟩:=y;rw[QlF _ _ I];by_cases h1:J=U<;>by_cases h2:a2=b2<;>simp[h1,h2]
theorem QmH (x y:TCoin) (I:JD x):Qde x y=some (decide (x=y)):=by
 unfold Qde;obtain⟨J,a2,a3,a4⟩:=x;obtain⟨U,b2,b3,b4⟩:=y;rw[Qib _ _ I,beqB,beq2];by_cases h1:J=U<;>by_cases h2:a2=b2<;>by_cases h3:a3=b3<;>by_cases h4:a4=b4<;>simp[h1,h2,h3,h4]
theorem YW (x y:List TCoin) (g:TCoin->TCoin->Option Bool) (hg:∀a b,JD a->g a b=some (decide (a=b))) (U:bL JD x):QE x y g=some (decide (x=y)):=by
 unfold QE;by_cases I:x.length=y.length
 ·have J:decide ((x.length:Int)=(y.length:Int))=true:=by simp[I]
  rw[J,aMa,aLC];refine YH x y I _ (fun i h h'=>?_) ?_
  ·have e1:decide ((i:Int)<(x.length:Int))=true:=by simpa using h
   simp only[e1,Qb x i h,Qb y i h',Qa x i _ h,Qa y i _ h',aLB,QQ i _ h U.1,hg _ _ (U.2 _ (aLl h)),aLc];exact Jc _
  ·simp
 ·have J:decide ((x.length:Int)=(y.length:Int))=false:=aLD (fun h=>I (by omega))
  rw[J,Y9 I];rfl
theorem QhL (x y:List TCoin) (I:bL JD x):QaF x y=some (decide (x=y)):=by
 unfold QaF;rw[YW x y _ (fun a b J=>by rw[QmH a b J];rfl) I];rfl
theorem Qgz (x y:List TM) (I:bL bAny x):JP x y=some (decide (x=y)):=by
 unfold JP;rw[QcH _ _ I];rfl
theorem QkY (x y:TState) (I:QiS x):QbG x y=some (decide (x=y)):=by
 unfold QbG;obtain⟨J,a2,a3,a4⟩:=x;obtain⟨U,b2,b3,b4⟩:=y;rw[QhL _ _ I.1,Qgz _ _ I.2];by_cases h1:J=U<;>by_cases h2:a2=b2<;>by_cases h3:a3=b3<;>by_cases h4:a4=b4<;>simp[h1,h2,h3,h4]
theorem QoL (x y:List Int) (hx:bL bAny x):Qfa x y=some (decide (x=y)):=by
 unfold Qfa;by_cases I:x.length=y.length
 ·have J:decide ((x.length:Int)=(y.length:Int))=true:=by simp[I]
  rw[J,aMa,aLC];refine YH x y I _ (fun i h U=>?_) ?_
  ·have e1:decide ((i:Int)<(x.length:Int))=true:=by simpa using h
   simp only[e1,Qb x i h,Qb y i U,Qa x i _ h,Qa y i _ U,aLB,QQ i _ h hx.1];exact Jc _
  ·simp
 ·have J:decide ((x.length:Int)=(y.length:Int))=false:=aLD (fun h=>I (by omega))
  rw[J,Y9 I];rfl
theorem QjV (x y:List Int×Int×Int) (I:bL bAny x.1):QcM x y=some (decide (x=y)):=by
 unfold QcM;obtain⟨J,a2,a3⟩:=x;obtain⟨U,b2,b3⟩:=y;rw[QoL _ _ I];by_cases h1:J=U<;>by_cases h2:a2=b2<;>by_cases h3:a3=b3<;>simp[h1,h2,h3]
theorem QjM (x y:List TCoin) (U:bL JD x):QcP x y=some (decide (x=y)):=by
 unfold QcP;by_cases I:x.length=y.length
 ·have J:decide ((x.length:Int)=(y.length:Int))=true:=by simp[I]
  rw[J,aMa,aLC];refine YH x y I _ (fun i h h'=>?_) ?_
  ·have e1:decide ((i:Int)<(x.length:Int))=true:=by simpa using h
   simp only[e1,Qb x i h,Qb y i h',Qa x i _ h,Qa y i _ h',aLB,QQ i _ h U.1,beq2,beqB,QjV _ _ (U.2 _ (aLl h)),aLc];generalize x[i]=a;generalize y[i]=b;obtain⟨a1,⟨a2,a3⟩,a4,a5⟩:=a;obtain⟨b1,⟨b2,b3⟩,b4,b5⟩:=b;by_cases h1:a1=b1<;>by_cases h2:a2=b2<;>by_cases h3:a3=b3<;>by_cases h4:a4=b4<;>by_cases h5:a5=b5<;>simp[h1,h2,h3,h4,h5]
  ·simp
 ·have J:decide ((x.length:Int)=(y.length:Int))=false:=aLD (fun h=>I (by omega))
  rw[J,Y9 I];rfl
theorem QjI (x y:List TM) (hx:bL bAny x):QcQ x y=some (decide (x=y)):=by
 unfold QcQ;by_cases I:x.length=y.length
 ·have J:decide ((x.length:Int)=(y.length:Int))=true:=by simp[I]
  rw[J,aMa,aLC];refine YH x y I _ (fun i h U=>?_) ?_
  ·have e1:decide ((i:Int)<(x.length:Int))=true:=by simpa using h
   simp only[e1,Qb x i h,Qb y i U,Qa x i _ h,Qa y i _ U,aLB,QQ i _ h hx.1,beq3];exact Jc _
  ·simp
 ·have J:decide ((x.length:Int)=(y.length:Int))=false:=aLD (fun h=>I (by omega))
  rw[J,Y9 I];rfl
theorem QoJ (x y:TState) (I:QiS x):QeI x y=some (decide (x=y)):=by
 unfold QeI;obtain⟨J,a2,a3,a4⟩:=x;obtain⟨U,b2,b3,b4⟩:=y;rw[QjM _ _ I.1,QjI _ _ I.2];by_cases h1:J=U<;>by_cases h2:a2=b2<;>by_cases h3:a3=b3<;>by_cases h4:a4=b4<;>simp[h1,h2,h3,h4]
def mIn (v lo hi:Int):Bool:=decide (lo<=v)&&decide (v<=hi)
theorem Zn (v lo hi:Int):QJ v lo hi=some (mIn v lo hi):=by
 unfold QJ mIn;cases decide (lo<=v)<;>rfl
theorem Zt (v lo hi:Int):QX v lo hi=some (mIn v lo hi):=by
 unfold QX mIn;cases decide (lo<=v)<;>rfl
theorem QdK (v:Int):JJ v=some (mIn v 1 999):=by unfold JJ;rw[Zn];rfl
theorem QdH (v:Int):JH v=some (mIn v 1 999):=by unfold JH;rw[Zt];rfl
theorem Qc1 (v:Int):Jy v=some (mIn v 1 60):=by unfold Jy;rw[Zt];rfl
def mRef (r:Int×Int):Bool:=mIn r.1 1 60&&mIn r.2 0 3
theorem QhB (r:Int×Int):QaM r=some (mRef r):=by
 unfold QaM mRef;rw[Qc1,Zt];cases mIn r.1 1 60<;>rfl
theorem Qf0 (r:Int×Int):Qb1 r=some (mRef r):=by
 unfold Qb1 mRef;rw[Zn,Zn];cases mIn r.1 1 60<;>rfl
theorem QmL (l:List Int) (I:l.length<BIG) (p:Int->Bool) (f:Int->Option Bool) (J:∀a,a ∈ l->f a=some (p a)):ZW l f=some (idxF p l):=by
 unfold ZW;refine Yy l p _ (fun i h=>?_) (by simp only[dge,aLC])
 simp only[dlt h,Qb l i h,Qa l i _ h,aLB,J _ (aLl h),aLc,wsucc h I];cases p l[i]<;>rfl
theorem QdI (l:List Int) (I:l.length<BIG) (p:Int->Bool) (f:Int->Option Bool) (J:∀a,a ∈ l->f a=some (p a)):Q1 l f=some (l.any p):=by
 unfold Q1;rw[QmL l I p f J,aLc,Zy]
theorem Qm8 (l:List Int) (I:l.length<BIG):Qd3 l=some (l.all fun k=>mIn k 1 999):=by
 unfold Qd3;rw[QdI l I (fun k=>!mIn k 1 999) _ (fun a _=>by unfold Qep;rw[QdH];rfl),aLc]
 rw[List.all_eq_not_any_not]
def Qgd (l:List Int):Bool:=(List.range (l.length - 1)).all fun i=>decide (List.getD l i 0<List.getD l (i+1) 0)
theorem Qln {β:Type} (l:List Int) (hl:l.length<BIG) (r:β) (f:Int->Option (Int⊕(Unit⊕β)))
  (I:∀(i:Nat),i+1<l.length->f ((i+1:Nat):Int)=some (if List.getD l (i+1) 0<=List.getD l i 0 then .inr (.inr r) else .inl ((i+2:Nat):Int))) (he:∀n:Nat,l.length<=n->f (n:Int)=some (.inr (.inl ()))) :
  Qc f 1=some (if Qgd l then .inl () else .inr r):=by
 have key:∀(k i:Nat),i+k=l.length - 1->Qc f ((i+1:Nat):Int)=some (if (List.range' i k).all (fun i=>decide (List.getD l i 0<List.getD l (i+1) 0)) then .inl () else .inr r):=by
  intro k;induction k with
  | zero=>intro i hi;rw[Qe (he _ (by omega))];simp
  | succ k U=>
   intro i hi;have I:=I i (by omega)
   rw[List.range'_succ,List.all_cons];by_cases J:List.getD l (i+1) 0<=List.getD l i 0
   ·rw[if_pos J] at I
    rw[Qe I,aLD (p:=List.getD l i 0<List.getD l (i+1) 0) (by omega)];rfl
   ·rw[if_neg J] at I
    rw[Qo I,U (i+1) (by omega),aLE (p:=List.getD l i 0<List.getD l (i+1) 0) (by omega),aMz]
 have:=key (l.length - 1) 0 (by omega)
 rw[<-List.range_eq_range'] at this;exact this
theorem Qlg (l:List Int) (I:l.length<BIG) (i:Nat) (h:i+1<l.length):decide (((i+1:Nat):Int)<(l.length:Int))=true/\inB ((i+1:Nat):Int) l=true/\inB (wrap .i64 (((i+1:Nat):Int) - 1)) l=true/\
  List.getD l (Int.toNat ((i+1:Nat):Int)) 0=List.getD l (i+1) 0/\List.getD l (Int.toNat (wrap .i64 (((i+1:Nat):Int) - 1))) 0=List.getD l i 0/\wrap .i64 (((i+1:Nat):Int)+1)=((i+2:Nat):Int):=by
 rw[wpred (i:=i) (n:=l.length) (by omega) I]
 exact⟨dlt h,Qb l _ h,Qb l _ (by omega),by simp,by simp,wsucc h I⟩
theorem dge' {i n:Nat} (h:n<=i):decide ((i:Int)<(n:Int))=false:=by simp;omega
theorem Qmz (l:List Int) (J:l.length<BIG):Qdk l=some (Qgd l):=by
 unfold Qdk;rw[Qln l J false _ (fun i h=>by
  obtain⟨h1,h2,h3,h4,h5,h6⟩:=Qlg l J i h;simp only[h1,h2,h3,h4,h5,h6,aLB];by_cases I:List.getD l (i+1) 0<=List.getD l i 0
  ·rw[if_pos I,aLE I];rfl
  ·rw[if_neg I,aLD I];rfl) (fun n U=>by simp only[dge' U,aLC]),aLc]
 cases Qgd l<;>rfl
theorem Qs0 {β:Type} (l:List Int) (J:l.length<BIG) (r:β) (f:Int->Option (Int⊕(Unit⊕β)))
  (I:∀(i:Nat) (h:i<l.length),f (i:Int)=some (if mIn l[i] 1 999 then .inl ((i+1:Nat):Int) else .inr (.inr r))) (he:f (l.length:Int)=some (.inr (.inl ()))) :
  Qc f 0=some (if (l.all fun k=>mIn k 1 999) then .inl () else .inr r):=by
 rw[JA l (fun _ a=>if !mIn a 1 999 then some r else none) f (fun i h=>by rw[I i h];cases mIn l[i] 1 999<;>rfl) he,Qfw,List.all_eq_not_any_not]
 cases l.any fun x=>!mIn x 1 999<;>rfl
abbrev TRu:=List Int×Int×Int
abbrev TOut:=Int×List Int×Int×Int
def Zg (r:TRu):Int:=if mIn (r.1.length:Int) 1 3 then (if (r.1.all fun k=>mIn k 1 999)&&mIn r.2.1 1 (r.1.length:Int)&&mIn r.2.2 0 999 then (if Qgd r.1 then 0 else 1) else 3) else 2
theorem Qbc (n:Int):Yi n=some (mIn n 0 999):=by unfold Yi;rw[Zt];rfl
theorem Qc2 (n:Int):YV n=some (mIn n 0 999):=by unfold YV;rw[Zn];rfl
theorem Qff (r:TRu) (I:r.1.length<BIG):Jw r=some (Zg r):=by
 unfold Jw Zg;simp only[Zt,Qm8 _ I,Qmz _ I,Qbc,aLc];cases mIn (r.1.length:Int) 1 3<;>cases (r.1.all fun k=>mIn k 1 999)<;>cases mIn r.2.1 1 (r.1.length:Int)<;>cases mIn r.2.2 0 999<;>cases Qgd r.1<;>rfl
theorem Qgh (r:TRu) (I:r.1.length<BIG):Qas r=some (Zg r):=by
 unfold Qas Zg;simp only[Zn,Qc2,aLc];rw[Qs0 r.1 I 3 _ (fun i h=>by
  simp only[dlt h,Qb r.1 i h,Qa r.1 i _ h,aLB,QdK,aLc,wsucc h I];cases mIn r.1[i] 1 999<;>rfl) (by simp only[dge,aLC]),aLc]
 cases mIn (r.1.length:Int) 1 3 with
 | false=>rfl
 | true=>
  cases (r.1.all fun k=>mIn k 1 999) with
  | false=>rfl
  | true=>
   simp only[aMa,aLC,if_true,Sum.elim_inl];rw[Qln r.1 I 1 _ (fun i h=>by
    obtain⟨h1,h2,h3,h4,h5,h6⟩:=Qlg r.1 I i h;simp only[h1,h2,h3,h4,h5,h6,aLB];by_cases J:List.getD r.1 (i+1) 0<=List.getD r.1 i 0
    ·rw[if_pos J,aLE J];rfl
    ·rw[if_neg J,aLD J];rfl) (fun n U=>by simp only[dge' U,aLC]),aLc]
   cases mIn r.2.1 1 (r.1.length:Int)<;>cases mIn r.2.2 0 999<;>cases Qgd r.1<;>rfl
def mOut (o:TOut):Int:=if mIn o.1 1 1000000 then Zg o.2 else 3
theorem Qkk (o:TOut) (I:o.2.1.length<BIG):Qds o=some (mOut o):=by
 unfold Qds mOut;rw[Zn,aLc,Qgh _ I];cases mIn o.1 1 1000000<;>rfl
def Qv (a b:Int×Int):Bool:=if a.1=b.1 then decide (a.2<b.2) else decide (a.1<b.1)
theorem QiH (a b:Int×Int):QbX a b=some (Qv a b):=by
 unfold QbX Qv;by_cases h:a.1=b.1<;>simp[h]
def mCmp (a b:Int):Int:=if a<b then -1 else if b<a then 1 else 0
theorem QgL (a b:Int):Ym a b=some (mCmp a b):=by
 unfold Ym QbF mCmp;by_cases h1:a<b
 ·simp[h1]
 ·by_cases h2:b<a<;>simp[h1,h2]
theorem QuE (a b:Int):QfO [a,b]=some (if a=0 then b else a):=by
 unfold QfO;by_cases I:a=0
 ·subst I
  rw[Qo (s':=(1:Int)) rfl];by_cases hb:b=0
  ·subst hb
   rw[Qo (s':=(2:Int)) rfl,Qe (x:=inl ()) rfl];rfl
  ·rw[Qe (x:=inr b) (by
    show (bif !decide (b=0) then some (inr (inr b)) else _)=_
    rw[aLD hb];rfl)]
   rfl
 ·rw[Qe (x:=inr a) (by
   show (bif !decide (a=0) then some (inr (inr a)) else _)=_
   rw[aLD I];rfl),if_neg I]
  rfl
def QfN (a b:Int×Int):Int:=if mCmp a.1 b.1=0 then mCmp a.2 b.2 else mCmp a.1 b.1
theorem Qdy (a b:Int×Int):YG a b=some (QfN a b):=by
 unfold YG QfN;rw[QgL,QgL,aLc,aLc,QuE];rfl
theorem Qmg (a b:Int×Int):decide (0<=QfN a b) = !Qv a b:=by
 unfold QfN Qv mCmp;by_cases h1:a.1<b.1
 ·have h3:¬a.1=b.1:=by omega
  simp[h1,h3]
 ·by_cases h2:b.1<a.1
  ·have h3:¬a.1=b.1:=by omega
   simp[h1,h2,h3]
  ·have h3:a.1=b.1:=by omega
   simp only[h1,h2,if_false,if_true,h3,Int.lt_irrefl];by_cases h4:a.2<b.2
   ·simp[h4]
   ·by_cases h5:b.2<a.2<;>simp[h4,h5]
def dC:TCoin:=((0,0),((0,([],(0,0))),(0,false)))
def QhQ (l:List TCoin) (i:Nat) (x:TCoin):Int:=if mRef x.1&&mIn x.2.2.1 0 999 then (if mOut x.2.1=0 then (if decide (0<i)&&!Qv (List.getD l (i - 1) dC).1 x.1 then 1 else 0) else mOut x.2.1) else 3
def Q9 (l:List TCoin):Int:=if (40:Int)<(l.length:Int) then 2 else code (QhQ l) l
theorem Qri (l:List TCoin) (I:l.length<BIG) (i:Nat) (h:i<l.length) (h0:0<i):inB (wrap .i64 ((i:Int) - 1)) l=true/\List.getD l (Int.toNat (wrap .i64 ((i:Int) - 1))) dC=List.getD l (i - 1) dC:=by
 obtain⟨j,rfl⟩:∃j,i=j+1:=⟨i - 1,by omega⟩
 rw[wpred (i:=j) (n:=l.length) (by omega) I]
 exact⟨Qb l j (by omega),by simp⟩
theorem Qao (l:List TCoin) (J:l.length<BIG) (hk:∀x,x ∈ l->x.2.1.2.1.length<BIG):Ye l=some (Q9 l):=by
 unfold Ye Q9;by_cases I:(40:Int)<(l.length:Int)
 ·rw[aLE I,if_pos I];rfl
 ·rw[aLD I,if_neg I,aLC]
  refine YD l (QhQ l) _ (fun i h=>?_) (by simp only[dge,aLC])
  have U:=hk _ (aLl h)
  simp only[dlt h,Qb l i h,Qa l i _ h,aLB,wsucc h J,Qf0,Qc2,Qkk _ U,QiH,aLc];unfold QhQ;cases h1:mRef l[i].1<;>cases h2:mIn l[i].2.2.1 0 999<;>try rfl
  simp only[aMa,aLC,aLc,aMz,if_true];by_cases h3:mOut l[i].2.1=0
  ·rw[aLE h3]
   simp only[h3,aMa,aLC,if_true];by_cases h4:0<i
   ·obtain⟨e1,e2⟩:=Qri l J i h h4
    rw[show decide ((0:Int)<(i:Int))=true by simpa using h4,aLE h4,aLB,e1,aLB]
    show (Option.bind (some (!Qv (List.getD l (Int.toNat (wrap .i64 ((i:Int) - 1))) dC).1 l[i].1)) _)=_
    rw[e2];cases Qv (List.getD l (i - 1) dC).1 l[i].1<;>rfl
   ·rw[show decide ((0:Int)<(i:Int))=false by simpa using h4,aLD h4];rfl
  ·rw[aLD h3];simp[h3]
theorem QgS (l:List TCoin) (J:l.length<BIG) (hk:∀x,x ∈ l->x.2.1.2.1.length<BIG):Qaa l=some (Q9 l):=by
 unfold Qaa Q9;by_cases I:(40:Int)<(l.length:Int)
 ·rw[aLE I,if_pos I];rfl
 ·rw[aLD I,if_neg I,aLC]
  refine YD l (QhQ l) _ (fun i h=>?_) (by simp only[dge,aLC])
  have U:=hk _ (aLl h)
  simp only[dlt h,Qb l i h,Qa l i _ h,aLB,wsucc h J,QhB,Qbc,Zt,Qff _ U,Qdy,aLc];unfold QhQ mOut;cases h1:mRef l[i].1<;>cases h2:mIn l[i].2.2.1 0 999<;>try rfl
  cases h5:mIn l[i].2.1.1 1 1000000<;>try rfl
  simp only[aMa,aLC,aLc,aMz,if_true];by_cases h3:Zg l[i].2.1.2=0
  ·rw[aLE h3]
   simp only[h3,aMa,aLC,if_true];by_cases h4:0<i
   ·obtain⟨e1,e2⟩:=Qri l J i h h4
    rw[show decide ((0:Int)<(i:Int))=true by simpa using h4,aLE h4,aLB,e1,aLB]
    show (Option.bind (some (decide (0<=QfN (List.getD l (Int.toNat (wrap .i64 ((i:Int) - 1))) dC).1 l[i].1))) _)=_
    rw[e2,Qmg];cases Qv (List.getD l (i - 1) dC).1 l[i].1<;>rfl
   ·rw[show decide ((0:Int)<(i:Int))=false by simpa using h4,aLD h4];rfl
  ·rw[aLD h3];simp[h3]
theorem Qj {α:Type} {n:Nat} {x:Option α} (h:n<=LIM):(bif decide (n<=LIM) then x else none)=x:=by rw[aLE h];rfl
theorem QcD {n:Int} (h0:0<=n) (h1:n<=9223372036854775807):Y5 n=some (Lib.itoa n):=by
 unfold Y5 Qf3;rw[Qwt n (by omega) h1];rfl
theorem Yh {n:Int} (h0:0<=n) (h1:n<=9223372036854775807):Zs n=some (Lib.itoa n):=Qv6 h0 h1
theorem Qz {v a b:Int}:mIn v a b=true↔a<=v/\v<=b:=by simp[mIn]
structure okR (r:TRu):Prop where
 len:1<=r.1.length/\r.1.length<=3
 keys:∀k,k ∈ r.1->1<=k/\k<=999
 need:1<=r.2.1/\r.2.1<=3
 after:0<=r.2.2/\r.2.2<=999
theorem Yq {r:TRu} (h:Zg r=0):okR r:=by
 unfold Zg at h;cases h1:mIn (r.1.length:Int) 1 3 with
 | false=>rw[h1] at h;simp at h
 | true=>
  rw[h1,if_pos rfl] at h;cases h2:(r.1.all fun k=>mIn k 1 999) with
  | false=>rw[h2] at h;simp at h
  | true=>
   cases h3:mIn r.2.1 1 (r.1.length:Int) with
   | false=>rw[h3] at h;simp at h
   | true=>
    cases h4:mIn r.2.2 0 999 with
    | false=>rw[h4] at h;simp at h
    | true=>
     rw[Qz] at h1 h3 h4;rw[List.all_eq_true] at h2;exact⟨by omega,fun k hk=>Qz.1 (h2 k hk),by omega,h4⟩
theorem Zc {n:Int} (h0:0<=n) (h1:n<=1000000):(Lib.itoa n).length<=19:=QpC h0 (by omega)
def Zu (l:List Int) (sep:List UInt8):List UInt8:=Lib.join (l.map Lib.itoa) sep
theorem Qwj (l:List Int) (h:∀k,k ∈ l->0<=k/\k<=1000000):Lib.lens (l.map Lib.itoa)<=19 * l.length:=by
 induction l with
 | nil=>simp[Lib.lens]
 | cons a l I=>
  have h1:=I fun k hk=>h k (aLp _ hk)
  have h2:=Zc (h a aLm).1 (h a aLm).2
  simp only[Lib.lens,aMJ,List.map_map,List.sum_cons,aLh] at h1 ⊢;omega
theorem QcW (l:List Int) (sep:List UInt8) (h:∀k,k ∈ l->0<=k/\k<=1000000):(Zu l sep).length<=(19+sep.length) * l.length:=by
 unfold Zu;cases l with
 | nil=>simp[Lib.join_nil]
 | cons a l=>
  have:=Qwj (a::l) h
  rw[aMJ,Lib.join_length,aMH];rw[aMJ] at this;have e:(19+sep.length) * (a::l).length=19 * (a::l).length+(sep.length * l.length+sep.length):=by
   rw[aMq,aLh,Nat.mul_succ sep.length]
  omega
theorem QgO (l:List Int) (sep:List UInt8) (J:l.length<=100000) (U:sep.length<=100) (h:∀k,k ∈ l->0<=k/\k<=1000000):J5 l sep=some (Zu l sep):=by
 unfold J5;rw[Zx (σ:=List (List UInt8)) l (fun acc a=>acc++[Lib.itoa a]) (fun t i=>(t,i)) (fun t=>t) (fun t i=>t.length=i) _ (fun i hi t I=>by
   obtain⟨k0,k1⟩:=h _ (aLl hi);refine⟨?_,by simp[I]⟩
   simp only[dlt hi,Qb l i hi,Qa l i _ hi,aLB,QcD k0 (by omega),aLc,wsucc hi (by unfold BIG;omega)]
   rw[Qj (by simp only[aLh,aLj];unfold LIM;omega)];rfl) (fun t I=>by simp only[dge,aLC]) [] rfl,aLc,foldl_map,aLx]
 have h1:=QcW l sep h
 have h2:(19+sep.length) * l.length<=119 * 100000:=Nat.mul_le_mul (by omega) J
 unfold YE;rw[QlD _ _ (by rw[aMH];omega) (by unfold Zu at h1;omega)];rfl
def QB (r:TRu) (b:List UInt8):List UInt8:=Lib.itoa r.2.1++b++[111,102]++b++Zu r.1 [44]++(if r.2.2=0 then [] else b++[97,102,116,101,114]++b++Lib.itoa r.2.2)
theorem QqZ {r:TRu} (h:okR r) (b:List UInt8) (hb:b.length<=1):(QB r b).length<=120:=by
 have h1:=QcW r.1 [44] fun k hk=>by have:=h.keys k hk;omega
 have h2:=Zc (n:=r.2.1) (by have:=h.need;omega) (by have:=h.need;omega)
 have h3:=Zc (n:=r.2.2) (by have:=h.after;omega) (by have:=h.after;omega)
 have h4:=h.len
 simp only[aLh,aLj] at h1;unfold QB;split<;>simp only[aLi,aLh,aLj]<;>omega
theorem Qia {r:TRu} (h:okR r) (b:List UInt8) (hb:b.length<=1):Qbd r b=some (QB r b):=by
 have h1:=QcW r.1 [44] fun k hk=>by have:=h.keys k hk;omega
 have h2:=Zc (n:=r.2.1) (by have:=h.need;omega) (by have:=h.need;omega)
 have h3:=Zc (n:=r.2.2) (by have:=h.after;omega) (by have:=h.after;omega)
 have h4:=h.len
 simp only[aLh,aLj] at h1;unfold Qbd QB;rw[QcD (n:=r.2.1) (by have:=h.need;omega) (by have:=h.need;omega),aLc,QgO r.1 [44] (by omega) (by simp) fun k hk=>by have:=h.keys k hk;omega]
 simp only[aLc,aLo];rw[QcD (n:=r.2.2) (by have:=h.after;omega) (by have:=h.after;omega)]
 simp only[aLc];rw[Qj,Qj,Qj,Qj]
 ·by_cases I:r.2.2=0
  ·rw[aLE I,if_pos I];simp
  ·rw[aLD I,if_neg I,aMB,aLB,Qj,Qj,Qj,Qj]
   ·rfl
   all_goals ((try simp only[aLi,aLh,aLj]);unfold LIM;omega)
 all_goals ((try simp only[aLi,aLh,aLj]);unfold LIM;omega)
theorem QlM {α:Type} (l:List α) (g:α->List UInt8) (f:List UInt8×Int->Option ((List UInt8×Int)⊕List UInt8)) (B:Nat->Nat)
  (U:∀(i:Nat) (h:i<l.length) (acc:List UInt8),acc.length<=B i->f (acc,(i:Int))=some (.inl (acc++g l[i],((i+1:Nat):Int)))/\(acc++g l[i]).length<=B (i+1))
  (he:∀acc,f (acc,(l.length:Int))=some (.inr acc)):∀(k i:Nat) (acc:List UInt8),i+k=l.length->acc.length<=B i->Qc f (acc,(i:Int))=some (acc++((l.drop i).map g).flatten)
 | 0,i,acc,hi,_=>by
  obtain rfl:i=l.length:=by omega
  rw[Qe (he acc)];simp
 | k+1,i,acc,hi,ha=>by
  have h1:i<l.length:=by omega
  obtain⟨I,J⟩:=U i h1 acc ha;rw[Qo I,QlM l g f B U he k (i+1) _ (by omega) J,aLr h1,aMJ,List.flatten_cons,aMm]
theorem QoE {r:TRu} (h:okR r):QcO r=some (QB r [32]):=by
 have h2:=Zc (n:=r.2.1) (by have:=h.need;omega) (by have:=h.need;omega)
 have h3:=Zc (n:=r.2.2) (by have:=h.after;omega) (by have:=h.after;omega)
 obtain⟨⟨k0,I⟩,hr⟩:∃p:Int×List Int,r.1=p.1::p.2:=by
  have:=h.len
  match hq:r.1 with
  | []=>rw[hq] at this;simp at this
  | a::l=>exact⟨(a,l),rfl⟩
 have hr:r.1=k0::I:=hr
 have hlen:=h.len
 have hk:=h.keys
 rw[hr] at hlen hk;have hk0:=hk k0 aLm
 have h5:=Zc (n:=k0) (by omega) (by omega)
 unfold QcO QB;rw[hr];rw[Yh (n:=r.2.1) (by have:=h.need;omega) (by have:=h.need;omega),aLc]
 rw[show inB 0 (k0::I)=true from Qb _ 0 (by simp),show List.getD (k0::I) (Int.toNat 0) 0=k0 from rfl,aLB,Yh (n:=k0) (by omega) (by omega),aLc]
 simp only[aLo];rw[Qj,Qj]
 ·have:=QlM (k0::I) (fun k=>44::Lib.itoa k) (fun (s15:List UInt8×Int)=>
 bif (decide ((s15.2:Int)<(List.length (k0::I):Int))) then
 bif decide (List.length s15.1+List.length [44]<=LIM) then
 bif (inB s15.2 (k0::I)) then
 (Zs (List.getD (k0::I) (Int.toNat s15.2) 0)).bind fun (J:List UInt8)=>
 bif decide (List.length (s15.1++[44])+List.length J<=LIM) then
 some (inl (s15.1++[44]++J,wrap .i64 (s15.2+1)))
 else none
 else none
 else none
 else
 some (inr s15.1)) (fun i=>100+20 * i) (fun i hi acc U=>by
    have hki:=hk _ (aLl hi)
    have hli:=Zc (n:=(k0::I)[i]) (by omega) (by omega)
    refine⟨?_,by simp only[aLi,aLh];omega⟩
    have hi3:i<3:=by omega
    simp only[dlt hi,Qb _ i hi,Qa _ i _ hi,aLB,Yh (n:=(k0::I)[i]) (by omega) (by omega),aLc,wsucc hi (by unfold BIG;omega)]
    rw[Qj,Qj]
    ·simp
    all_goals ((try simp only[aLi,aLh,aLj]);unfold LIM;omega)) (fun acc=>by simp only[dge,aLC]) I.length 1 (Lib.itoa r.2.1++[32,111,102,32]++Lib.itoa k0) (by simp;omega) (by simp only[aLi,aLh,aLj];omega)
  rw[show ((1:Nat):Int)=1 from rfl] at this
  rw[this,aLc,List.drop_succ_cons,aMt];have e1:Lib.itoa r.2.1++[32,111,102,32]++Lib.itoa k0++(I.map fun k=>44::Lib.itoa k).flatten=Lib.itoa r.2.1++[32]++[111,102]++[32]++Zu (k0::I) [44]:=by
   unfold Zu;rw[aMJ,Lib.join_cons,Lib.joinTail,List.map_map];simp[Function.comp_def]
  rw[e1];have h1:=QcW (k0::I) [44] fun k hk'=>by have:=hk k hk';omega
  simp only[aLh,aLj] at h1 hlen;by_cases U:r.2.2=0
  ·rw[aLE U,if_pos U];simp
  ·rw[aLD U,if_neg U,aMB,aLB,Yh (n:=r.2.2) (by have:=h.after;omega) (by have:=h.after;omega),aLc,Qj,Qj]
   ·simp
   all_goals ((try simp only[aLi,aLh,aLj]);unfold LIM;omega)
 all_goals ((try simp only[aLi,aLh,aLj]);unfold LIM;omega)
structure okC (x:TCoin):Prop where
 tx:1<=x.1.1/\x.1.1<=60
 at_:0<=x.1.2/\x.1.2<=3
 val:1<=x.2.1.1/\x.2.1.1<=1000000
 rule:Zg x.2.1.2=0
 height:0<=x.2.2.1/\x.2.2.1<=999
theorem Zf {l:List TCoin} (h:Q9 l=0):l.length<=40/\∀x,x ∈ l->okC x:=by
 unfold Q9 at h;by_cases J:(40:Int)<(l.length:Int)
 ·rw[if_pos J] at h;cases h
 ·rw[if_neg J] at h
  refine⟨by omega,fun x U=>?_⟩
  obtain⟨i,hi,rfl⟩:=aMe.1 U;have I:=YI h i l[i] (aLf hi)
  unfold QhQ at I;cases h1:mRef l[i].1 with
  | false=>rw[h1] at I;simp at I
  | true=>
   cases h2:mIn l[i].2.2.1 0 999 with
   | false=>rw[h2] at I;simp at I
   | true=>
    rw[h1,h2] at I;by_cases h3:mOut l[i].2.1=0
    ·unfold mRef at h1
     rw[aLg,Qz,Qz] at h1;unfold mOut at h3;cases h4:mIn l[i].2.1.1 1 1000000 with
     | false=>rw[h4] at h3;simp at h3
     | true=>
      rw[h4,if_pos rfl] at h3;exact⟨h1.1,h1.2,Qz.1 h4,h3,Qz.1 h2⟩
    ·simp[h3] at I
def cuts (c:UInt8):List UInt8->List (List UInt8)
 | []=>[[]]
 | b::l=>if b=c then []::cuts c l else match cuts c l with | []=>[[b]] | w::ws=>(b::w)::ws
def glue (p:List UInt8):List (List UInt8)->List (List UInt8)
 | []=>[p]
 | w::ws=>(p++w)::ws
theorem QbP (c:UInt8):∀l,cuts c l ≠ []
 | []=>by simp[cuts]
 | b::l=>by
  unfold cuts;split
  ·simp
  ·split<;>simp
theorem Qqd {ws:List (List UInt8)} (h:ws ≠ []):glue [] ws=ws:=by
 cases ws with
 | nil=>exact absurd rfl h
 | cons w ws=>rfl
theorem Qbr (c b:UInt8) (l:List UInt8):cuts c (b::l)=if b=c then []::cuts c l else glue [b] (cuts c l):=by
 rw[cuts];split
 ·rfl
 ·split
  ·rename_i h;exact absurd h (QbP c l)
  ·rename_i h;rw[h];rfl
theorem QsY (p q:List UInt8) {ws:List (List UInt8)} (h:ws ≠ []):glue p (glue q ws)=glue (p++q) ws:=by
 cases ws with
 | nil=>exact absurd rfl h
 | cons w ws=>simp[glue]
theorem J1 (c:UInt8):∀l,(cuts c l).length<=l.length+1
 | []=>by simp[cuts]
 | b::l=>by
  have:=J1 c l
  rw[Qbr];split
  ·simp;omega
  ·cases h:cuts c l with
   | nil=>simp[glue]
   | cons w ws=>rw[h] at this;simp[glue] at this ⊢;omega
theorem QmE (c:UInt8):∀l,Lib.split l [c]=cuts c l
 | []=>by
  unfold Lib.split;rw[Lib.count_one];rfl
 | b::l=>by
  have I:=QmE c l
  unfold Lib.split at I ⊢;rw[Qbr];by_cases hb:b=c
  ·subst hb
   rw[if_pos rfl,Lib.count_cons_eq,Nat.add_comm,Lib.splitK];have J:Lib.index (b::l) [b]=0:=by rw[Lib.index];simp[List.isPrefixOf]
   rw[J];simp[I]
  ·rw[if_neg hb,Lib.count_cons_ne b c l hb]
   have hp:([c]:List UInt8).isPrefixOf (b::l)=false:=by simp[List.isPrefixOf,Ne.symm hb]
   have J:Lib.index (b::l) [c]=if Lib.index l [c] == -1 then -1 else Lib.index l [c]+1:=by rw[Lib.index,hp];simp
   cases hk:Lib.count l [c] with
   | zero=>rw[hk] at I;rw[<-I];rfl
   | succ k=>
    rw[hk] at I;have hm:¬Lib.index l [c] = -1:=fun h=>by rw[Lib.count_miss h] at hk;cases hk
    have hge:=Lib.index_ge l [c]
    obtain⟨j,hj⟩:∃j:Nat,Lib.index l [c]=j:=⟨(Lib.index l [c]).toNat,by omega⟩
    have U:Lib.index (b::l) [c]=((j+1:Nat):Int):=by rw[J,if_neg (fun e=>hm (beq_iff_eq.1 e)),hj];omega
    rw[Lib.splitK,if_neg (fun e=>hm (beq_iff_eq.1 e)),hj] at I
    rw[Lib.splitK,if_neg (fun e=>by have:=beq_iff_eq.1 e;omega),U,<-I]
    simp[glue]
theorem Qu1 (l:List UInt8) (c:UInt8) (f:List (List UInt8)×Int×Int->Option ((List (List UInt8)×Int×Int)⊕List (List UInt8)))
  (hs:∀(i I:Nat) (h:i<l.length) (out:List (List UInt8)),I<=i->out.length<=i->f (out,(I:Int),(i:Int))=some (.inl (if l[i]=c then (out++[cut (I:Int) (i:Int) l],((i+1:Nat):Int),((i+1:Nat):Int)) else (out,(I:Int),((i+1:Nat):Int)))))
  (he:∀(I:Nat) (out:List (List UInt8)),I<=l.length->out.length<=l.length->Qc f (out,(I:Int),(l.length:Int))=some (out++[cut (I:Int) (l.length:Int) l])) :
  (Qc f ([],0,0)).bind (fun j=>some j)=some (cuts c l):=by
 have key:∀(k i I:Nat) (out:List (List UInt8)),i+k=l.length->I<=i->out.length<=i->Qc f (out,(I:Int),(i:Int))=some (out++glue ((l.drop I).take (i - I)) (cuts c (l.drop i))):=by
  intro k;induction k with
  | zero=>
   intro i I out hi J ho;obtain rfl:i=l.length:=by omega
   rw[he I out J ho,aMr];simp[cuts,glue,cut]
  | succ k U=>
   intro i I out hi J ho;have h:i<l.length:=by omega
   rw[Qo (hs i I h out J ho),aLr h,Qbr];by_cases hb:l[i]=c
   ·rw[if_pos hb,if_pos hb,U (i+1) (i+1) _ (by omega) (aMb _) (by simp;omega),Nat.sub_self,List.take_zero,Qqd (QbP _ _)]
    simp[glue,cut]
   ·rw[if_neg hb,if_neg hb,U (i+1) I _ (by omega) (by omega) (by omega),QsY _ _ (QbP _ _)]
    have e:i+1 - I=(i - I)+1:=by omega
    have h2:i - I<(l.drop I).length:=by rw[aLz];omega
    rw[e,aMl h2];congr 3;simp only[List.getElem_drop];congr 2;simp only[show I+(i - I)=i by omega]
 have:=key l.length 0 0 [] (by omega) (aMb _) (by simp)
 simp only[aMt,Nat.sub_zero,List.take_zero,aLx,Qqd (QbP _ _)] at this;rw[show ((0:Nat):Int)=0 from rfl] at this
 rw[this];rfl
theorem JI (l:List UInt8) (c:UInt8) (hl:l.length<LIM):Z8 l (c.toNat:Int)=some (cuts c l):=by
 have hB:l.length<BIG:=by unfold LIM at hl;unfold BIG;omega
 unfold Z8;refine Qu1 l c _ (fun i I h out hf ho=>?_) (fun I out hf ho=>?_)
 ·have e1:decide ((i:Int)<=(l.length:Int))=true:=aLE (by omega)
  have J:decide ((i:Int)=(l.length:Int))=false:=aLD (by omega)
  have U:QA (I:Int) (i:Int) l=true:=by unfold QA;simp;omega
  have e4:decide (((l[i].toNat:Nat):Int)=(c.toNat:Int))=decide (l[i]=c):=by
   apply decide_eq_decide.2;constructor
   ·intro h;exact UInt8.toNat_inj.1 (by omega)
   ·intro h;rw[h]
  simp only[e1,J,aLB,aLC,Qb l i h,Qa l i _ h,e4,aLc,wsucc h hB];by_cases hb:l[i]=c
  ·rw[aLE hb,if_pos hb,aLB,U,aLB,aLE (p:=List.length out+_<=LIM) (by simp only[aLh,aLj];omega)]
   rfl
  ·rw[aLD hb,if_neg hb];rfl
 ·have e1:decide ((l.length:Int)<=(l.length:Int))=true:=by simp
  have J:decide ((l.length:Int)=(l.length:Int))=true:=by simp
  have U:QA (I:Int) (l.length:Int) l=true:=by unfold QA;simp;omega
  have e5:wrap .i64 ((l.length:Int)+1)=((l.length+1:Nat):Int):=by rw[Qy (by omega) (by unfold BIG at hB;omega)];omega
  rw[Qo (s':=(out++[cut (I:Int) (l.length:Int) l],((l.length+1:Nat):Int),((l.length+1:Nat):Int))) (by
   simp only[e1,J,aLB,aLc,U,e5];rw[aLE (p:=List.length out+_<=LIM) (by simp only[aLh,aLj];omega)];rfl)]
  refine Qe ?_;have e6:decide (((l.length+1:Nat):Int)<=(l.length:Int))=false:=aLD (by omega)
  simp only[e6,aLC]
theorem Qj1 (c:UInt8):∀(w:List UInt8),c ∉ w->cuts c w=[w]
 | [],_=>rfl
 | b::w,h=>by
  rw[List.mem_cons,not_or] at h;rw[Qbr,if_neg (fun e=>h.1 e.symm),Qj1 c w h.2];rfl
theorem Qoy (c:UInt8):∀(a b:List UInt8),cuts c (a++c::b)=cuts c a++cuts c b
 | [],b=>by rw[aLx,Qbr,if_pos rfl];rfl
 | x::a,b=>by
  rw[aMs,Qbr,Qbr,Qoy c a b];split
  ·rfl
  ·cases h:cuts c a with
   | nil=>exact absurd h (QbP c a)
   | cons w ws=>rfl
theorem Qbt (x y:List UInt8) (r:List (List UInt8)) (c:UInt8):Lib.join (x::y::r) [c]=x++c::Lib.join (y::r) [c]:=by
 rw[Lib.join_cons,Lib.join_cons];simp[Lib.joinTail]
theorem Qak (c:UInt8):∀(ws:List (List UInt8)),ws ≠ []->(∀w,w ∈ ws->c ∉ w)->cuts c (Lib.join ws [c])=ws
 | [],h,_=>absurd rfl h
 | [x],_,h=>by rw[Lib.join_one];exact Qj1 c x (h x aLm)
 | x::y::r,_,h=>by
  rw[Qbt,Qoy,Qj1 c x (h x aLm),Qak c (y::r) (by simp) fun w hw=>h w (aLp _ hw)];rfl
theorem QjU (c:UInt8):∀(a b:List UInt8),c ∉ a->Lib.indexByte (a++c::b) c=(a.length:Int)
 | [],b,_=>by simp[Lib.indexByte]
 | x::a,b,h=>by
  rw[List.mem_cons,not_or] at h;have I:=QjU c a b h.2
  have J:(x == c)=false:=by simpa using fun e:x=c=>h.1 e.symm
  rw[aMs,Lib.indexByte,J,I];have:((a.length:Int) == -1)=false:=by simp
  rw[this];simp
theorem QrO (c:UInt8) (a b:List UInt8) (h:c ∉ a):Lib.cut (a++c::b) [c]=(a,b,true):=by
 unfold Lib.cut;rw[Lib.index_one,QjU c a b h,if_pos (by omega)]
 simp
theorem Qot (M:Nat):∀(l r:List UInt8) (acc a:Nat),Lib.parseUintM M acc l=.ok a->Lib.parseUintM M acc (l++r)=Lib.parseUintM M a r
 | [],r,acc,a,h=>by
  simp only[Lib.parseUintM] at h;cases h;rfl
 | c::l,r,acc,a,h=>by
  rw[aMs];unfold Lib.parseUintM at h
  conv=>lhs;unfold Lib.parseUintM
  split at h
  ·rename_i h1
   rw[if_pos h1];split at h
   ·cases h
   ·rename_i h2
    rw[if_neg h2];split at h
    ·cases h
    ·rename_i h3
     rw[if_neg h3];exact Qot M l r _ a h
  ·cases h
theorem Qli (M acc d:Nat) (hd:d<10) (h1:acc<1844674407370955162) (h2:acc * 10+d<=M):Lib.parseUintM M acc [UInt8.ofNat (48+d)]=.ok (acc * 10+d):=by
 have e:(UInt8.ofNat (48+d)).toNat=48+d:=by rw[UInt8.toNat_ofNat'];omega
 unfold Lib.parseUintM;rw[e,if_pos (by omega),if_neg (by omega),if_neg (by omega)]
 rw[show acc * 10+(48+d - 48)=acc * 10+d by omega]
 rfl
theorem Qtn:∀(u:Nat),u<=9223372036854775807->Lib.parseUintM (2 ^ 64 - 1) 0 (Lib.decDigits u)=.ok u:=by
 intro u;induction u using Nat.strongRecOn with
 | ind u I=>
  intro hu;by_cases h:u<10
  ·rw[Lib.decDigits_one h,Qli _ 0 u h (by omega) (by omega)]
   simp
  ·rw[Lib.decDigits,dif_neg h,Qot _ _ _ 0 (u / 10) (I (u / 10) (by omega) (by omega)),Qli _ (u / 10) (u % 10) (by omega) (by omega) (by omega)]
   congr 1;omega
theorem QlB:∀(u:Nat) (b:UInt8),b ∈ Lib.decDigits u->48<=b.toNat/\b.toNat<=57:=by
 intro u;induction u using Nat.strongRecOn with
 | ind u I=>
  intro b hb;have one:∀d:Nat,d<10->(UInt8.ofNat (48+d)).toNat=48+d:=fun d hd=>by
   rw[UInt8.toNat_ofNat'];omega
  by_cases h:u<10
  ·rw[Lib.decDigits_one h,aLs] at hb
   subst hb;rw[one u h];omega
  ·rw[Lib.decDigits,dif_neg h] at hb
   rcases aMi.1 hb with hb | hb
   ·exact I (u / 10) (by omega) b hb
   ·rw[aLs] at hb
    subst hb;rw[one (u % 10) (by omega)];omega
theorem Qsz {n:Int} (h0:0<=n) (h1:n<=9223372036854775807):Lib.parseIntB 64 (Lib.itoa n)=.ok n:=by
 obtain⟨m,rfl⟩:=aLA h0;rw[Jo];have I:=Qtn m (by omega)
 have hb:=QlB m
 have J:1<=(Lib.decDigits m).length:=by rw[Lib.decDigits_length];exact Lib.nDigits_pos m
 match hd:Lib.decDigits m with
 | []=>rw[hd] at J;simp at J
 | c::r=>
  rw[hd] at I hb;have U:=hb c aLm
  unfold Lib.parseIntB;simp only;rw[if_neg (by omega)]
  unfold Lib.parseUintB;rw[if_neg (by simp),I]
  simp only;rw[if_neg (by omega),if_neg (by omega),if_neg (by omega)]
theorem Qcg {n:Int} (h0:0<=n) (h1:n<10000000000):numS (Lib.itoa n)=n:=by
 unfold numS;rw[Qsz h0 (by omega)]
 obtain⟨m,rfl⟩:=aLA h0;have I:(Lib.itoa (m:Int)).length<=10:=by
  rw[Jo,Lib.decDigits_length];exact QdO 10 m (by omega) (by decide)
 simp[I]
abbrev TL:=List (List UInt8)×List (Int×Int)
theorem JE {α R:Type} (l:List α) (c:Nat->α->Int) (f:Int->Option (Int⊕(Unit⊕Int)))
  (I:∀(i:Nat) (h:i<l.length),f (i:Int)=some (if c i l[i]=0 then .inl ((i+1:Nat):Int) else .inr (.inr (c i l[i])))) (he:f (l.length:Int)=some (.inr (.inl ()))) (A:Unit->Option R) (B:Int->Option R) :
  ((Qc f 0).bind fun j=>Sum.elim A B j)=if code c l=0 then A () else B (code c l):=by
 rw[JA l (fun i a=>if c i a=0 then none else some (c i a)) f (fun i h=>by rw[I i h];by_cases J:c i l[i]=0<;>simp[J]) he,Qaf]
 by_cases h0:code c l=0
 ·rw[if_pos h0]
  have U:=YI h0
  have:first (fun i a=>if c i a=0 then none else some (c i a)) 0 l=none:=(Qei l 0).2 (fun j a ha=>by rw[aMf,if_pos (U j a ha)])
  rw[this]
 ·rw[if_neg h0]
  unfold code at h0 ⊢;cases hf:first (fun i a=>if c i a=0 then none else some (c i a)) 0 l with
  | none=>rw[hf] at h0;exact absurd rfl h0
  | some r=>rfl
theorem Qjq {α β γ:Type} (g:Nat->α->Option β) (h:β->γ):∀(l:List α) (i:Nat),first (fun i a=>(g i a).map h) i l=(first g i l).map h
 | [],_=>rfl
 | a::l,i=>by
  simp only[first]
  cases g i a with
  | none=>exact Qjq g h l (i+1)
  | some r=>rfl
theorem QoP (t:List UInt8):QeN t=some (mIn (t.length:Int) 1 300):=by unfold QeN;rw[Zt];rfl
theorem any_eq {α:Type} [DecidableEq α] (x:α) (l:List α):l.any (fun a=>decide (x=a))=decide (x ∈ l):=by
 rw[Bool.eq_iff_iff];simp
theorem any_eq' {α:Type} [DecidableEq α] (x:α) (l:List α):l.any (fun a=>decide (a=x))=decide (x ∈ l):=by
 rw[Bool.eq_iff_iff];simp
theorem Qnp (l:List (List UInt8)) (I:l.length<BIG) (x:List UInt8):ZS l x=some (decide (x ∈ l)):=by
 unfold ZS QT;rw[Yy l (fun a=>decide (x=a)) _ (fun i h=>?_) (by simp only[dge,aLC]),aLc,Zy,any_eq]
 ·exact congrArg some (decide_eq_decide.2 Iff.rfl)
 ·simp only[dlt h,Qb l i h,Qa l i _ h,aLB,wsucc h I]
  cases decide (x=l[i])<;>rfl
theorem Qh1 (l:List (Int×Int)) (I:l.length<BIG) (x:Int×Int):Q5 l x=some (decide (x ∈ l)):=by
 unfold Q5 Yb;rw[Yy l (fun a=>decide (x=a)) _ (fun i h=>?_) (by simp only[dge,aLC]),aLc,Zy,any_eq]
 ·exact congrArg some (decide_eq_decide.2 Iff.rfl)
 ·simp only[dlt h,Qb l i h,Qa l i _ h,aLB,wsucc h I,Qg1]
  cases decide (x=l[i])<;>rfl
theorem Qic (l:List (Int×Int)) (I:l.length<BIG) (x:Int×Int):Qa7 l x=some (decide (x ∈ l)):=by
 unfold Qa7;rw[QhC l (fun a=>decide (a=x)) _ (fun i h=>?_) (by simp only[dge,aLC]),any_eq']
 ·exact congrArg some (decide_eq_decide.2 Iff.rfl)
 ·simp only[dlt h,Qb l i h,Qa l i _ h,aLB,wsucc h I,Qg1]
  cases decide (l[i]=x)<;>rfl
theorem Qlf (l:List (List UInt8)) (I:l.length<BIG) (x:List UInt8):Qew l x=some (idxF (fun a=>decide (a=x)) l+1):=by
 unfold Qew;rw[JA l (fun i a=>(if decide (a=x)=true then some (i:Int) else none).map (· + 1)) _ (fun i h=>?_) (by simp only[dge,aLC]),Qjq,Qaf]
 ·unfold idxF
  cases first (fun i a=>if decide (a=x)=true then some (i:Int) else none) 0 l<;>rfl
 ·simp only[dlt h,Qb l i h,Qa l i _ h,aLB,wsucc h I]
  cases decide (l[i]=x)<;>rfl
theorem pos_at (l:List (List UInt8)) (x:List UInt8):decide (0<idxF (fun a=>decide (a=x)) l+1)=decide (x ∈ l):=by
 have h:=Zy (fun a=>decide (a=x)) l
 have h2:(l.any fun a=>decide (a=x))=true↔x ∈ l:=by simp
 refine decide_eq_decide.2 ⟨fun h3=>h2.1 (by rw[<-h];simp;omega),fun h3=>?_⟩
 have:=h2.2 h3
 rw[<-h] at this;have:=aLG this
 omega
def mTx (l:List (List UInt8)) (i:Nat) (s:List UInt8):Int:=if mIn (s.length:Int) 1 300 then (if s ∈ l.take i then 7 else 0) else 2
def mSg (n:Int) (l:List (Int×Int)) (i:Nat) (x:Int×Int):Int:=if mIn x.1 1 999&&mIn x.2 1 n then (if x ∈ l.take i then 7 else 0) else 3
def mLF (x:TL):Int:=if (decide ((60:Int)<(x.1.length:Int)) || decide ((120:Int)<(x.2.length:Int)))=true then 2 else if code (mTx x.1) x.1=0 then code (mSg (x.1.length:Int) x.2) x.2 else code (mTx x.1) x.1
theorem YZ {α:Type} {l:List α} (I:l.length<BIG) (i:Nat):(l.take i).length<BIG:=by rw[aLn];omega
theorem Qkj (x:TL) (h1:x.1.length<BIG) (h2:x.2.length<BIG):Qbj x=some (mLF x):=by
 unfold Qbj mLF;have e:∀(p q:Bool),(bif p then some true else some q:Option Bool)=some (p || q):=by intro p q;cases p<;>rfl
 rw[e,aLc];cases (decide ((60:Int)<(x.1.length:Int)) || decide ((120:Int)<(x.2.length:Int))) with
 | true=>rfl
 | false=>
  rw[aLC,if_neg (by simp),JE x.1 (mTx x.1) _ (fun i h=>?_) (by simp only[dge,aLC])]
  ·split
   ·refine YD _ _ _ (fun i h=>?_) (by simp only[dge,aLC])
    simp only[dlt h,Qb x.2 i h,Qa x.2 i _ h,ZI x.2 i (Nat.le_of_lt h),Jq,aLB,QdH,Zt,aLc,wsucc h h2,Qh1 _ (YZ h2 i)];unfold mSg;cases mIn x.2[i].1 1 999<;>cases mIn x.2[i].2 1 (x.1.length:Int)<;>by_cases hm:x.2[i] ∈ x.2.take i<;>simp[hm]
   ·rfl
  ·simp only[dlt h,Qb x.1 i h,Qa x.1 i _ h,ZI x.1 i (Nat.le_of_lt h),Jq,aLB,QoP,aLc,wsucc h h1,Qnp _ (YZ h1 i)]
   unfold mTx;cases mIn (x.1[i].length:Int) 1 300<;>by_cases hm:x.1[i] ∈ x.1.take i<;>simp[hm]
theorem Qam (x:TL) (h1:x.1.length<BIG) (h2:x.2.length<BIG):YC x=some (mLF x):=by
 unfold YC mLF;have e:∀(p q:Bool),(bif p then some true else some q:Option Bool)=some (p || q):=by intro p q;cases p<;>rfl
 rw[e,aLc];cases (decide ((60:Int)<(x.1.length:Int)) || decide ((120:Int)<(x.2.length:Int))) with
 | true=>rfl
 | false=>
  rw[aLC,if_neg (by simp),JE x.1 (mTx x.1) _ (fun i h=>?_) (by simp only[dge,aLC])]
  ·split
   ·refine YD _ _ _ (fun i h=>?_) (by simp only[dge,aLC])
    simp only[dlt h,Qb x.2 i h,Qa x.2 i _ h,ZI x.2 i (Nat.le_of_lt h),Jq,aLB,QdK,Zn,aLc,wsucc h h2,Qic _ (YZ h2 i)];unfold mSg;cases mIn x.2[i].1 1 999<;>cases mIn x.2[i].2 1 (x.1.length:Int)<;>by_cases hm:x.2[i] ∈ x.2.take i<;>simp[hm]
   ·rfl
  ·simp only[dlt h,Qb x.1 i h,Qa x.1 i _ h,ZI x.1 i (Nat.le_of_lt h),Jq,aLB,aLc,wsucc h h1,Qlf _ (YZ h1 i),pos_at]
   have I:∀(n:Int),(decide (n<1) || decide (300<n)) = !mIn n 1 300:=by
    intro n;unfold mIn;rw[Bool.eq_iff_iff];simp;try omega
   rw[e,I,aLc];unfold mTx;cases mIn (x.1[i].length:Int) 1 300<;>by_cases hm:x.1[i] ∈ x.1.take i<;>simp[hm]
theorem Qd0 {R:Type} (a:Option R):agree a a=a:=by unfold agree;simp
theorem JF {α:Type} {l:List α} (h:l.length<=LIM):decide (List.length ([]:List α)+List.length l<=LIM)=true:=by simp;omega
def Y {α:Type} (o:Option α) (Q:α->Prop):Prop:=∃a,o=some a/\Q a
theorem Y.some {α:Type} {a:α} {Q:α->Prop} (h:Q a):Y (some a) Q:=⟨a,rfl,h⟩
theorem Y.bind {α β:Type} {o:Option α} {f:α->Option β} {Q:α->Prop} {R:β->Prop} (h:Y o Q) (k:∀a,Q a->Y (f a) R):Y (o.bind f) R:=by
 obtain⟨a,rfl,I⟩:=h;exact k a I
theorem Y.eqb {α β:Type} {o:Option α} {a:α} {f:α->Option β} {R:β->Prop} (h:o=Option.some a) (k:Y (f a) R):Y (o.bind f) R:=by
 subst h;exact k
theorem Y.bif {α:Type} {c:Bool} {a b:Option α} {Q:α->Prop} (h1:c=true->Y a Q) (h2:c=false->Y b Q):Y (bif c then a else b) Q:=by
 cases c
 ·exact h2 rfl
 ·exact h1 rfl
theorem Y.grd {α:Type} {c:Bool} {a b:Option α} {Q:α->Prop} (h:c=true) (h1:Y a Q):Y (bif c then a else b) Q:=by rw[h];exact h1
theorem Y.loop {S X:Type} {f:S->Option (S⊕X)} {Q:X->Prop} (I:Nat->S->Prop) (U:∀n s,I n s->Y (f s) (fun r=>match r with | .inl s'=>∃m,m<n/\I m s' | .inr x=>Q x)):∀n s,I n s->Y (Qc f s) Q:=by
 intro n;induction n using Nat.strongRecOn with
 | ind n ih=>
  intro s hi;obtain⟨r,h1,h2⟩:=U n s hi;cases r with
  | inl s'=>
   obtain⟨m,hm,J⟩:=h2;obtain⟨x,h3,h4⟩:=ih m hm s' J;exact⟨x,Qhr h1 h3,h4⟩
  | inr x=>exact⟨x,Qe h1,h2⟩
theorem Qha {α:Type} (l:List α) (a:α) (h:l.length<1000000):decide (List.length l+List.length [a]<=LIM)=true:=by
 simp only[aLh,aLj,aLF];unfold LIM;omega
theorem ZT {α:Type} {l:List α} {i:Int} (h0:0<=i) (h:i<(l.length:Int)):inB i l=true:=by
 simp[inB,h0,h]
def dv (l:List UInt8):Nat:=l.foldl (fun a b=>a * 10+(b.toNat - 48)) 0
theorem Qnr (l:List UInt8) (b:UInt8):dv (l++[b])=dv l * 10+(b.toNat - 48):=by simp[dv]
theorem QpP:∀m:Nat,dv (Lib.decDigits m)=m:=by
 intro m;induction m using Nat.strongRecOn with
 | ind m I=>
  have one:∀d:Nat,d<10->(UInt8.ofNat (48+d)).toNat=48+d:=fun d hd=>by
   rw[UInt8.toNat_ofNat'];omega
  by_cases h:m<10
  ·rw[Lib.decDigits_one h]
   show 0 * 10+((UInt8.ofNat (48+m)).toNat - 48)=m
   rw[one m h];omega
  ·rw[Lib.decDigits,dif_neg h,Qnr,I (m / 10) (by omega),one (m % 10) (by omega)];omega
theorem Qw6 (l:List UInt8) (h:∀b,b ∈ l->b.toNat<=57):dv l<10 ^ l.length:=by
 have key:∀(l:List UInt8) (a:Nat),(∀b,b ∈ l->b.toNat<=57)->l.foldl (fun a b=>a * 10+(b.toNat - 48)) a<(a+1) * 10 ^ l.length:=by
  intro l;induction l with
  | nil=>intro a _;simp
  | cons b l I=>
   intro a h;have h1:=I (a * 10+(b.toNat - 48)) fun c J=>h c (aLp _ J)
   have h2:=h b aLm
   have h3:(a * 10+(b.toNat - 48)+1) * 10 ^ l.length<=((a+1) * 10) * 10 ^ l.length:=aLq _ (by omega)
   rw[List.foldl_cons,aLh,Nat.pow_succ];have e:(a+1) * (10 ^ l.length * 10)=((a+1) * 10) * 10 ^ l.length:=by rw[Nat.mul_comm (10 ^ l.length) 10,Nat.mul_assoc]
   omega
 have:=key l 0 h
 rw[aMf,aMF] at this;exact this
theorem QuQ:∀(m:Nat),1<=m->∀b r,Lib.decDigits m=b::r->b.toNat ≠ 48:=by
 intro m;induction m using Nat.strongRecOn with
 | ind m I=>
  intro hm b r h;by_cases h10:m<10
  ·rw[Lib.decDigits_one h10] at h
   simp only[List.cons.injEq] at h;rw[<-h.1,UInt8.toNat_ofNat'];omega
  ·rw[Lib.decDigits,dif_neg h10] at h
   cases hd:Lib.decDigits (m / 10) with
   | nil=>
    have:=Lib.decDigits_length (m / 10)
    rw[hd] at this;have h2:=Lib.nDigits_pos (m / 10)
    simp at this;omega
   | cons c J=>
    rw[hd,aMs] at h;simp only[List.cons.injEq] at h;rw[<-h.1];exact I (m / 10) (by omega) (by omega) c J hd
theorem Qja (w:List UInt8) (n:Int) (hw:w.length<BIG):Y (Qr w n) (fun _=>True):=by
 unfold Qr;refine Y.bind (Q:=fun j=>True) ?_ (fun j _=>?_)
 ·refine Y.bif (fun _=>Y.some trivial) (fun h1=>Y.bif (fun _=>Y.some trivial) (fun h2=>Y.bif (fun _=>Y.grd (ZT (by omega) ?_) (Y.some trivial)) (fun _=>Y.some trivial)))
  simp at h1;omega
 ·refine Y.bif (fun _=>Y.some trivial) (fun _=>?_)
  refine Y.bind (Q:=fun _=>True) ?_ (fun j _=>by cases j<;>exact Y.some trivial)
  refine Y.loop (fun n s=>∃i:Nat,s.2=(i:Int)/\i<=w.length/\n=w.length - i) (fun n s J=>?_) w.length (0,0) ⟨0,rfl,by omega,by omega⟩
  obtain⟨i,hi,hle,hn⟩:=J;obtain⟨v,U⟩:=s;have hi:U=(i:Int):=hi
  subst hi;refine Y.bif (fun h1=>?_) (fun _=>Y.some trivial)
  have I:i<w.length:=by simp at h1;omega
  have hb:=Qb w i I
  refine Y.bind (Q:=fun _=>True) (Y.grd hb (Y.bif (fun _=>Y.some trivial) (fun _=>Y.grd hb (Y.some trivial)))) (fun j _=>Y.bif (fun _=>Y.some trivial) (fun _=>Y.grd hb (Y.some ?_)))
  exact⟨w.length - (i+1),by omega,i+1,wsucc I hw,by omega,rfl⟩
theorem Qg7 {k:Int} (h0:0<=k) (h1:k<=9999999) (n:Nat) (hn:(Lib.itoa k).length<=n):Qr (Lib.itoa k) (n:Int)=some (k,true):=by
 obtain⟨m,rfl⟩:=aLA h0;rw[Jo] at hn ⊢;have hb:=QlB m
 have I:=QpP m
 have hl:1<=(Lib.decDigits m).length:=by rw[Lib.decDigits_length];exact Lib.nDigits_pos m
 have h7:(Lib.decDigits m).length<=7:=by rw[Lib.decDigits_length];exact QdO 7 m (by omega) (by decide)
 have J:1<(Lib.decDigits m).length->(List.getD (Lib.decDigits m) 0 0).toNat ≠ 48:=fun h=>by
  cases hd:Lib.decDigits m with
  | nil=>rw[hd] at h;simp at h
  | cons c r=>
   have U:1<=m:=by
    rcases aMA m with h0 | h0
    ·subst h0
     rw[Lib.decDigits_one (by omega)] at h
     simp at h
    ·exact h0
   exact QuQ m U c r hd
 generalize Lib.decDigits m=w at *;have hB:w.length<BIG:=by unfold BIG;omega
 unfold Qr;rw[aLD (p:=(w.length:Int)<1) (by omega),aLC,aLD (p:=(n:Int)<(w.length:Int)) (by omega),aLC,ZT (i:=0) (l:=w) (by omega) (by omega),aLB]
 have e0:(bif decide (1<(w.length:Int)) then some (decide (((w.getD (Int.toNat 0) 0).toNat:Int)=48)) else some false)=some false:=by
  by_cases h:1<w.length
  ·rw[aLE (by omega),aLB,aLD]
   have:=J h
   show ¬(((w.getD 0 0).toNat:Nat):Int)=48
   omega
  ·rw[aLD (by omega),aLC]
 rw[e0,aLc,aLC];rw[show ((0:Int),(0:Int))=(((0:Nat):Int),(0:Int)) from rfl]
 rw[Zx (σ:=Nat) w (fun v b=>v * 10+(b.toNat - 48)) (fun v i=>((v:Int),i)) (fun v=>inl (v:Int)) (fun v i=>v<10 ^ i) _ (fun i hi v hv=>by
   have hbi:=hb _ (aLl hi)
   have hp:10 ^ i<=10 ^ 6:=Nat.pow_le_pow_right (by omega) (by omega)
   have hp2:(10:Nat) ^ 6=1000000:=rfl
   refine⟨?_,?_⟩
   ·simp only[dlt hi,Qb w i hi,Qa w i _ hi,aLB,wsucc hi hB]
    rw[aLD (p:=((w[i].toNat:Nat):Int)<48) (by omega),aLC,aLD (p:=(57:Int)<((w[i].toNat:Nat):Int)) (by omega),aLc,aLC]
    have e1:wrap .u8 (((w[i].toNat:Nat):Int) - 48)=((w[i].toNat - 48:Nat):Int):=by
     rw[show ((w[i].toNat:Nat):Int) - 48=((w[i].toNat - 48:Nat):Int) by omega]
     rw[show wrap .u8 ((w[i].toNat - 48:Nat):Int)=((w[i].toNat - 48:Nat):Int) % 256 from by simp[wrap,IntKind.bits,IntKind.signed]]
     omega
    rw[e1,Qy (n:=(v:Int) * 10) (by omega) (by omega),Qy (n:=((w[i].toNat - 48:Nat):Int)) (by omega) (by omega),Qy (by omega) (by omega)]
    congr 3
   ·rw[Nat.pow_succ];omega) (fun v hv=>by simp only[dge,aLC]) 0 (by simp)]
 show some (((dv w:Nat):Int),true)=_
 rw[I]
theorem Jr (w:List UInt8) (h:w.length<=1000000):ZJ w=some (numS w):=by
 unfold ZJ numO;rw[Nat.ble_eq.mpr h];rfl
theorem Qhc (s:List UInt8) (c:UInt8) (h:s.length<=1000000):YU s [c]=some (cuts c s):=by
 unfold YU;rw[Qtw (by simp) (by omega),QmE]
theorem Qcd (c:UInt8):∀(l:List UInt8) (w:List UInt8),w ∈ cuts c l->w.length<=l.length
 | [],w,h=>by simp[cuts] at h;subst h;simp
 | b::l,w,h=>by
  rw[Qbr] at h;split at h
  ·rcases List.mem_cons.1 h with rfl | h
   ·simp
   ·have:=Qcd c l w h;simp;omega
  ·have I:=Qcd c l
   cases J:cuts c l with
   | nil=>exact absurd J (QbP c l)
   | cons a r=>
    rw[J] at h I;simp only[glue] at h;rcases List.mem_cons.1 h with rfl | h
    ·have:=I a aLm;simp;omega
    ·have:=I w (aLp _ h);simp;omega
theorem YL (c:UInt8) (l:List UInt8) (i:Nat):(List.getD (cuts c l) i []).length<=l.length:=by
 rw[aLk];cases h:(cuts c l)[i]? with
 | none=>simp
 | some w=>exact Qcd c l w (List.mem_of_getElem? h)
theorem Qkf (s:List UInt8) (c:UInt8) (h:s.length<=100000):Qau s [c]=some ((cuts c s).map numS):=by
 unfold Qau;have hlen:=J1 c s
 rw[Qhc s c (by omega),aLc]
 rw[Zx (σ:=List Int) (cuts c s) (fun acc a=>acc++[numS a]) (fun t i=>(t,i)) (fun t=>t) (fun t i=>t.length=i) _ (fun i hi t I=>by
   refine⟨?_,by simp[I]⟩
   have hw:=Qcd c s _ (aLl hi)
   simp only[dlt hi,Qb _ i hi,Qa _ i _ hi,aLB,Jr _ (show ((cuts c s)[i]).length<=1000000 by omega),aLc,wsucc hi (by unfold BIG;omega)]
   rw[Qj (by simp only[aLh,aLj];unfold LIM;omega)];rfl) (fun t I=>by simp only[dge,aLC]) [] rfl,aLc,foldl_map,aLx]
theorem Qtg {n:Int} (h0:0<=n) {b:UInt8} (hb:b ∈ Lib.itoa n):48<=b.toNat/\b.toNat<=57:=by
 obtain⟨m,rfl⟩:=aLA h0;rw[Jo] at hb;exact QlB m b hb
theorem Yd {n:Int} (h0:0<=n) (c:UInt8) (I:c.toNat<48\/57<c.toNat):c ∉ Lib.itoa n:=fun h=>by
 have:=Qtg h0 h;omega
theorem ZB (x:List UInt8) (r:List (List UInt8)) (c:UInt8) (I:r ≠ []):Lib.join (x::r) [c]=x++c::Lib.join r [c]:=by
 cases r with
 | nil=>exact absurd rfl I
 | cons y r=>exact Qbt x y r c
theorem Qv0 (l:List Int) (h:∀k,k ∈ l->0<=k) (c:UInt8) (hc:c.toNat<48\/57<c.toNat) (I:c ≠ 44):c ∉ Zu l [44]:=by
 unfold Zu;induction l with
 | nil=>simp[Lib.join_nil]
 | cons a l J=>
  have U:=Yd (h a aLm) c hc
  have J:=J fun k hk=>h k (aLp _ hk)
  cases l with
  | nil=>rw[aMJ,List.map_nil,Lib.join_one];exact U
  | cons b l=>
   rw[aMJ,ZB _ _ _ (by simp),aMi,List.mem_cons]
   rintro (h1 | h1 | h1)
   ·exact U h1
   ·exact I h1
   ·exact J h1
theorem Qol (l:List Int) (I:l ≠ []) (h:∀k,k ∈ l->0<=k):cuts 44 (Zu l [44])=l.map Lib.itoa:=by
 unfold Zu;refine Qak 44 _ (by simpa using I) fun w hw=>?_
 obtain⟨k,hk,rfl⟩:=List.mem_map.1 hw;exact Yd (h k hk) 44 (by decide)
def QfA (r:TRu):List (List UInt8):=[Lib.itoa r.2.1,[111,102],Zu r.1 [44]]++(if r.2.2=0 then [] else [[97,102,116,101,114],Lib.itoa r.2.2])
structure Blank (b:UInt8):Prop where
 d:b.toNat<48\/57<b.toNat
 c:b ≠ 44
 o:b ≠ 111/\b ≠ 102/\b ≠ 97/\b ≠ 116/\b ≠ 101/\b ≠ 114
theorem Qfs:Blank 32:=⟨by decide,by decide,by decide⟩
theorem Qrj:Blank 95:=⟨by decide,by decide,by decide⟩
theorem QlS {r:TRu} (h:okR r) {b:UInt8} (hb:Blank b):∀w,w ∈ QfA r->b ∉ w:=by
 have I:b ∉ ([111,102]:List UInt8):=by
  have:=hb.o
  simp[this.1,this.2.1]
 have J:b ∉ ([97,102,116,101,114]:List UInt8):=by
  have:=hb.o
  simp[this]
 have h1:=Yd (n:=r.2.1) (by have:=h.need;omega) b hb.d
 have h2:=Yd (n:=r.2.2) (by have:=h.after;omega) b hb.d
 have h3:=Qv0 r.1 (fun k hk=>by have:=h.keys k hk;omega) b hb.d hb.c
 intro w hw;unfold QfA at hw;split at hw<;>simp only[List.append_nil,aMs,aLx,List.mem_cons,List.not_mem_nil,or_false] at hw
 ·rcases hw with rfl | rfl | rfl<;>assumption
 ·rcases hw with rfl | rfl | rfl | rfl | rfl<;>assumption
theorem QgZ (r:TRu) (b:UInt8):Lib.join (QfA r) [b]=QB r [b]:=by
 unfold QfA QB;split
 ·rw[List.append_nil,ZB _ _ _ (by simp),ZB _ _ _ (by simp),Lib.join_one];simp
 ·simp only[aMs,aLx]
  rw[ZB _ _ _ (by simp),ZB _ _ _ (by simp),ZB _ _ _ (by simp),ZB _ _ _ (by simp),Lib.join_one];simp
theorem Qse {r:TRu} (h:okR r) {b:UInt8} (hb:Blank b):cuts b (QB r [b])=QfA r:=by
 rw[<-QgZ];exact Qak b _ (by unfold QfA;simp) (QlS h hb)
theorem Qmf {r:TRu} (h:okR r) {b c:UInt8} (J:Blank c) (I:c ≠ b):c ∉ QB r [b]:=by
 rw[<-QgZ];have hw:=QlS h J
 have:∀ws:List (List UInt8),(∀w,w ∈ ws->c ∉ w)->c ∉ Lib.join ws [b]:=by
  intro ws;induction ws with
  | nil=>intro _;simp[Lib.join_nil]
  | cons x ws U=>
   intro h;cases ws with
   | nil=>rw[Lib.join_one];exact h x aLm
   | cons y ws=>
    rw[ZB _ _ _ (by simp),aMi,List.mem_cons]
    rintro (h1 | h1 | h1)
    ·exact h x aLm h1
    ·exact I h1
    ·exact U (fun w hw=>h w (aLp _ hw)) h1
 exact this _ hw
def swp (a b:UInt8) (l:List UInt8):List UInt8:=l.map fun c=>if c=a then b else c
theorem QtE (l:List UInt8) (a b:UInt8) (h:l.length<=1000000):QaU l (a.toNat:Int) (b.toNat:Int)=some (swp a b l):=by
 unfold QaU swpS;rw[Nat.ble_eq.mpr h,aLE (by have:=b.toNat_lt;omega)]
 show some _=_
 congr 1;unfold swp;refine List.map_congr_left fun c _=>?_
 by_cases I:c=a
 ·subst I
  rw[if_pos rfl,if_pos rfl];apply UInt8.toNat_inj.1;rw[UInt8.toNat_ofNat'];have:=b.toNat_lt
  omega
 ·rw[if_neg I,if_neg fun h=>I (UInt8.toNat_inj.1 (by omega))]
theorem Qqs {a b:UInt8} {l:List UInt8} (h:a ∉ l):swp a b l=l:=by
 unfold swp;have:∀c,c ∈ l->(if c=a then b else c)=id c:=fun c I=>if_neg (fun e:c=a=>h (e ▸ I))
 rw[List.map_congr_left this,List.map_id]
theorem Qpw {a b:UInt8}:∀ws:List (List UInt8),(∀w,w ∈ ws->a ∉ w)->swp a b (Lib.join ws [a])=Lib.join ws [b]
 | [],_=>by simp[Lib.join_nil,swp]
 | [x],h=>by rw[Lib.join_one,Lib.join_one];exact Qqs (h x aLm)
 | x::y::r,h=>by
  rw[Qbt,Qbt];have h1:=Qqs (b:=b) (h x aLm)
  have h2:=Qpw (b:=b) (y::r) fun w hw=>h w (aLp _ hw)
  unfold swp at h1 h2 ⊢;rw[List.map_append,aMJ,h1,h2,if_pos rfl]
theorem QqJ {r:TRu} (h:okR r) {a b:UInt8} (I:Blank a):swp a b (QB r [a])=QB r [b]:=by
 rw[<-QgZ,<-QgZ];exact Qpw _ (QlS h I)
def Qpo (s:List UInt8) (b:UInt8) (x:TRu×Bool):Prop:=x.1.1.length<=s.length+1/\∀I,Zg I=0->QB I [b]=s->x=(I,true)
theorem Qdo {r:TRu} (h:Zg r=0) (b:UInt8):(QB r [b]).length<=120:=QqZ (Yq h) [b] (by simp)
theorem JG {I:TRu} (J:Zg I=0) {s:List UInt8} {b:UInt8} (hb:Blank b) (U:QB I [b]=s):cuts b s=QfA I:=by
 rw[<-U];exact Qse (Yq J) hb
theorem Qfr (r:TRu):(QfA r).length=if r.2.2=0 then 3 else 5:=by
 unfold QfA;split<;>rfl
theorem Qsa (s:List UInt8) (b:UInt8) (hb:Blank b) (hs:s.length<=100000):Y (Qc4 s [b]) (Qpo s b):=by
 have hlen:=J1 b s
 have U:∀i:Nat,i<(cuts b s).length->inB (i:Int) (cuts b s)=true:=fun i h=>Qb _ i h
 unfold Qc4;refine Y.eqb (Qhc s b (by omega)) ?_
 have hno:(∀I,Zg I=0->QB I [b]=s->False)->Qpo s b (([],(0,0)),false):=fun h=>⟨by simp,fun I h1 h2=>(h I h1 h2).elim⟩
 have hn:∀i:Nat,(List.getD (cuts b s) i []).length<=s.length:=YL b s
 refine Y.bind (Q:=fun j=>(j=false->((cuts b s).length=3\/(cuts b s).length=5))/\(j=true->∀I,Zg I=0->QB I [b]=s->False)) ?_ (fun j hj=>?_)
 ·refine Y.bif (fun h1=>Y.some ⟨(fun h=>by cases h),fun _ I h2 h3=>?_⟩) (fun _=>Y.bif (fun h1=>Y.some ⟨(fun h=>?_),(fun h I h2 h3=>?_)⟩) (fun h1=>Y.some ⟨(fun _=>.inl ?_),(fun h=>by cases h)⟩))
  ·have:=Qdo h2 b;rw[h3] at this;simp at h1;omega
  ·right;simp at h;omega
  ·have hw:=JG h2 hb h3
   have J:=Qfr I
   rw[<-hw] at J;simp at h h1;split at J<;>omega
  ·simp at h1;omega
 ·obtain⟨hj1,hj2⟩:=hj
  refine Y.bif (fun h=>Y.some (hno (hj2 h))) (fun h=>?_)
  have h35:=hj1 h
  refine Y.grd (U 0 (by omega)) (Y.eqb (Jr _ (by have:=hn 0;show (List.getD (cuts b s) 0 []).length<=_;omega)) (Y.grd (U 2 (by omega)) (Y.eqb (Qkf _ 44 (by have:=hn 2;show (List.getD (cuts b s) 2 []).length<=_;omega)) ?_)))
  have hk:=J1 44 (List.getD (cuts b s) 2 [])
  have hk2:=hn 2
  refine Y.bind (Q:=fun (x:TRu)=>x.1.length<=s.length+1/\∀I,Zg I=0->QB I [b]=s->x=I) ?_ (fun x hx=>?_)
  ·have comp:∀I,Zg I=0->QB I [b]=s->numS (List.getD (cuts b s) (Int.toNat 0) [])=I.2.1/\(cuts 44 (List.getD (cuts b s) (Int.toNat 2) [])).map numS=I.1:=fun I h2 h3=>by
    have ho:=Yq h2
    rw[JG h2 hb h3];refine⟨?_,?_⟩
    ·show numS (Lib.itoa I.2.1)=_
     exact Qcg (by have:=ho.need;omega) (by have:=ho.need;omega)
    ·show (cuts 44 (Zu I.1 [44])).map numS=_
     rw[Qol I.1 (fun e=>by have:=ho.len;rw[e] at this;simp at this) (fun k hk=>by have:=ho.keys k hk;omega),List.map_map]
     have hid:∀k,k ∈ I.1->(numS ∘ Lib.itoa) k=id k:=fun k hk=>Qcg (by have:=ho.keys k hk;omega) (by have:=ho.keys k hk;omega)
     rw[List.map_congr_left hid,List.map_id]
   refine Y.bif (fun h5=>?_) (fun h5=>?_)
   ·have h5:(cuts b s).length=5:=by simp at h5;omega
    refine Y.grd (U 4 (by omega)) (Y.eqb (Jr _ (by have:=hn 4;show (List.getD (cuts b s) 4 []).length<=_;omega)) (Y.some ⟨by show (List.map numS _).length<=_;rw[aMH];show (cuts 44 (List.getD (cuts b s) 2 [])).length<=_;omega,fun I h2 h3=>?_⟩))
    obtain⟨c1,c2⟩:=comp I h2 h3;have hw:=JG h2 hb h3
    have J:=Qfr I
    rw[<-hw,h5] at J;have ha:I.2.2 ≠ 0:=fun e=>by rw[if_pos e] at J;omega
    have ho:=Yq h2
    rw[c1,c2];show (I.1,I.2.1,numS (List.getD (cuts b s) 4 []))=I
    rw[hw];unfold QfA;rw[if_neg ha];show (I.1,I.2.1,numS (Lib.itoa I.2.2))=I
    rw[Qcg (by have:=ho.after;omega) (by have:=ho.after;omega)]
   ·have h3:(cuts b s).length=3:=by simp at h5;omega
    refine Y.some ⟨by show (List.map numS _).length<=_;rw[aMH];show (cuts 44 (List.getD (cuts b s) 2 [])).length<=_;omega,fun I h2 h4=>?_⟩
    obtain⟨c1,c2⟩:=comp I h2 h4;have J:=Qfr I
    rw[<-JG h2 hb h4,h3] at J;have ha:I.2.2=0:=by
     by_cases e:I.2.2=0
     ·exact e
     ·rw[if_neg e] at J;omega
    rw[c1,c2,<-ha]
  ·obtain⟨hx1,hx2⟩:=hx
   refine Y.bind (Q:=fun j=>j=true->∀I,Zg I=0->QB I [b]=s->False) ?_ (fun j hj=>?_)
   ·refine Y.eqb (Qff x (by unfold BIG;omega)) ?_
    refine Y.bif (fun h1=>Y.some (fun _ I h2 h3=>?_)) (fun h1=>?_)
    ·rw[hx2 I h2 h3] at h1;simp[h2] at h1
    ·have h0:Zg x=0:=by simpa using h1
     refine Y.eqb (Qia (Yq h0) [b] (by simp)) (Y.some (fun h I h2 h3=>?_))
     rw[hx2 I h2 h3] at h;simp[h3] at h
   ·refine Y.bif (fun h=>Y.some (hno (hj h))) (fun h=>Y.some ⟨hx1,fun I h2 h3=>by rw[hx2 I h2 h3]⟩)
theorem Qtr (s:List UInt8) (hs:s.length<=100000):Y (QdM s) (Qpo s 32):=by
 have hlen:=J1 32 s
 have hin:∀i:Nat,i<(cuts 32 s).length->inB (i:Int) (cuts 32 s)=true:=fun i h=>Qb _ i h
 have hn:∀i:Nat,(List.getD (cuts 32 s) i []).length<=s.length:=YL 32 s
 have hno:(∀I,Zg I=0->QB I [32]=s->False)->Qpo s 32 (([],(0,0)),false):=fun h=>⟨by simp,fun I h1 h2=>(h I h1 h2).elim⟩
 have yn:∀(i:Nat) (n:Nat),Y (Qr (List.getD (cuts 32 s) i []) (n:Int)) (fun r=>∀k,0<=k->k<=9999999->List.getD (cuts 32 s) i []=Lib.itoa k->(Lib.itoa k).length<=n->r=(k,true)):=fun i n=>by
  obtain⟨r,h1,_⟩:=Qja (List.getD (cuts 32 s) i []) (n:Int) (by have:=hn i;unfold BIG;omega)
  refine⟨r,h1,fun k h0 h9 hk hl=>?_⟩
  rw[hk,Qg7 h0 h9 n hl] at h1;exact (aMu h1).symm
 have il:∀(k:Int) (n:Nat),0<=k->k<10 ^ n->1<=n->(Lib.itoa k).length<=n:=fun k n h0 h1 hn=>by
  obtain⟨m,rfl⟩:=aLA h0;rw[Jo,Lib.decDigits_length];refine QdO n m ?_ hn;have:((10:Int) ^ n)=(((10:Nat) ^ n:Nat):Int):=by norm_cast
  omega
 unfold QdM;refine Y.eqb (JI s 32 (by unfold LIM;omega)) ?_
 refine Y.bind (Q:=fun j=>(j=false->((cuts 32 s).length=3\/(cuts 32 s).length=5))/\(j=true->∀I,Zg I=0->QB I [32]=s->False)) ?_ (fun j hj=>?_)
 ·have word:∀I,Zg I=0->QB I [32]=s->(!decide (List.getD (cuts 32 s) (Int.toNat 1) []=[111,102]))=false:=fun I h2 h3=>by
   rw[JG h2 Qfs h3];show (!decide (([111,102]:List UInt8)=[111,102]))=false
   rfl
  refine Y.bif (fun h1=>Y.bif (fun h2=>Y.some ⟨(fun h=>by cases h),(fun _ I h3 h4=>?_)⟩) (fun h2=>Y.grd (hin 1 ?_) (Y.some ⟨(fun _=>.inr ?_),(fun h I h3 h4=>?_)⟩))) (fun h1=>Y.grd (hin 1 ?_) (Y.some ⟨(fun _=>.inl ?_),(fun h I h3 h4=>?_)⟩))
  ·have hl:=Qfr I
   rw[<-JG h3 Qfs h4] at hl;simp at h1 h2;split at hl<;>omega
  ·simp at h2;omega
  ·simp at h2;omega
  ·rw[word I h3 h4] at h;cases h
  ·simp at h1;omega
  ·simp at h1;omega
  ·rw[word I h3 h4] at h;cases h
 ·obtain⟨hj1,hj2⟩:=hj
  refine Y.bif (fun h=>Y.some (hno (hj2 h))) (fun h=>?_)
  have h35:=hj1 h
  refine Y.grd (hin 0 (by omega)) (Y.bind (yn 0 1) (fun a ha=>Y.grd (hin 2 (by omega)) (Y.eqb (JI _ 44 (by have:=hn 2;show (List.getD (cuts 32 s) 2 []).length<_;unfold LIM;omega)) ?_)))
  have hk:=J1 44 (List.getD (cuts 32 s) 2 [])
  have hk2:=hn 2
  obtain⟨ks,hks⟩:∃ks,ks=cuts 44 (List.getD (cuts 32 s) (Int.toNat 2) []):=⟨_,rfl⟩;have hks':ks=cuts 44 (List.getD (cuts 32 s) 2 []):=hks
  rw[<-hks];rw[<-hks'] at hk;have hcm:∀I,Zg I=0->QB I [32]=s->ks=I.1.map Lib.itoa:=fun I h2 h3=>by
   have ho:=Yq h2
   rw[hks',JG h2 Qfs h3];exact Qol I.1 (fun e=>by have:=ho.len;rw[e] at this;simp at this) (fun k hk=>by have:=ho.keys k hk;omega)
  have hca:∀I,Zg I=0->QB I [32]=s->a=(I.2.1,true):=fun I h2 h3=>by
   have ho:=Yq h2
   refine ha I.2.1 (by have:=ho.need;omega) (by have:=ho.need;omega) (by rw[JG h2 Qfs h3];rfl) (il _ 1 (by have:=ho.need;omega) (by have:=ho.need;omega) (by omega))
  refine Y.bind (Q:=fun (x:Bool×TRu)=>x.2.1.length<=s.length+1/\∀I,Zg I=0->QB I [32]=s->x=(true,I.1,I.2.1,0)) ?_ (fun x hx=>?_)
  ·refine Y.loop (fun n (st:Bool×Int×List Int×Int×Int)=>∃i:Nat,st.2.1=(i:Int)/\i<=ks.length/\n=ks.length - i/\st.2.2.1.length=i/\∀I,Zg I=0->QB I [32]=s->st.1=true/\st.2.2=(I.1.take i,I.2.1,0)) (fun n st hI=>?_) ks.length _ ⟨0,rfl,by omega,by omega,rfl,fun I h2 h3=>by rw[hca I h2 h3];exact⟨rfl,by simp⟩⟩
   obtain⟨i,hi,hle,hnn,hac,J⟩:=hI;obtain⟨ok,i',acc,nd,af⟩:=st;have hi:i'=(i:Int):=hi
   subst hi;have hac:acc.length=i:=hac
   refine Y.bif (fun h1=>?_) (fun h1=>Y.some ⟨by show acc.length<=_;omega,fun I h2 h3=>?_⟩)
   ·have U:i<ks.length:=by simp at h1;omega
    have hwl:(ks[i]).length<=s.length:=by
     have:ks[i] ∈ cuts 44 (List.getD (cuts 32 s) 2 []):=hks' ▸ aLl U
     have:=Qcd 44 _ _ this;omega
    have hg:List.getD ks (Int.toNat (i:Int)) []=ks[i]:=Qa ks i _ U
    refine Y.grd (Qb _ i U) ?_;have yk:Y (Qr (List.getD ks (Int.toNat (i:Int)) []) 3) (fun y=>∀I,Zg I=0->QB I [32]=s->∃hr:i<I.1.length,y=(I.1[i],true)):=by
     obtain⟨y,h4,_⟩:=Qja (List.getD ks (Int.toNat (i:Int)) []) 3 (by rw[hg];unfold BIG;omega)
     refine⟨y,h4,fun I h2 h3=>?_⟩
     have hm:=hcm I h2 h3
     have hr:i<I.1.length:=by rw[hm] at U;simpa using U
     have ho:=(Yq h2).keys _ (aLl hr)
     have e:ks[i]=Lib.itoa I.1[i]:=by rw[List.getElem_of_eq hm U];simp
     rw[hg,e] at h4;have:=Qg7 (k:=I.1[i]) (by omega) (by omega) 3 (il _ 3 (by omega) (by omega) (by omega))
     have h4':Qr (Lib.itoa I.1[i]) ((3:Nat):Int)=some y:=h4
     rw[this] at h4';exact⟨hr,(aMu h4').symm⟩
    refine Y.bind yk (fun y hy=>?_)
    refine Y.bind (Q:=fun j=>∀I,Zg I=0->QB I [32]=s->j=true) ?_ (fun j hj=>?_)
    ·refine Y.bif (fun h5=>Y.some (fun I h2 h3=>by obtain⟨_,e⟩:=hy I h2 h3;rw[e])) (fun h5=>Y.some (fun I h2 h3=>?_))
     have:=(J I h2 h3).1
     rw[this] at h5;cases h5
    ·refine Y.grd (Qha _ _ (by show acc.length<_;omega)) (Y.some ?_)
     refine⟨ks.length - (i+1),by omega,i+1,wsucc U (by unfold BIG;omega),by omega,rfl,by show (List.append acc [y.1]).length=_;simp[hac],fun I h2 h3=>⟨hj I h2 h3,?_⟩⟩
     obtain⟨hr,e⟩:=hy I h2 h3;have hc2:=(J I h2 h3).2
     simp only[aLe] at hc2;show (List.append acc [y.1],nd,af)=_
     rw[e,hc2.1,hc2.2.1,hc2.2.2,List.take_add_one,aLf hr];rfl
   ·have hge:i=ks.length:=by simp at h1;omega
    obtain⟨c1,c2⟩:=J I h2 h3;have hkl:ks.length=I.1.length:=by rw[hcm I h2 h3];simp
    show (ok,acc,nd,af)=_
    have c1:ok=true:=c1
    have c2:(acc,nd,af)=(I.1.take i,I.2.1,0):=c2
    rw[c1,c2,hge,hkl,List.take_length]
  ·obtain⟨hx1,hx2⟩:=hx
   refine Y.bind (Q:=fun (z:Bool×TRu)=>z.2.1.length<=s.length+1/\∀I,Zg I=0->QB I [32]=s->z=(true,I)) ?_ (fun z hz=>?_)
   ·refine Y.bif (fun h5=>?_) (fun h5=>?_)
    ·have h5:(cuts 32 s).length=5:=by simp at h5;omega
     refine Y.grd (hin 4 (by omega)) (Y.bind (yn 4 3) (fun y hy=>?_))
     have wd:∀I,Zg I=0->QB I [32]=s->I.2.2 ≠ 0/\cuts 32 s=[Lib.itoa I.2.1,[111,102],Zu I.1 [44],[97,102,116,101,114],Lib.itoa I.2.2]:=fun I h2 h3=>by
      have hw:=JG h2 Qfs h3
      have hl:=Qfr I
      rw[<-hw,h5] at hl;have hne:I.2.2 ≠ 0:=fun e=>by rw[if_pos e] at hl;omega
      refine⟨hne,?_⟩;rw[hw];unfold QfA;rw[if_neg hne];rfl
     have hya:∀I,Zg I=0->QB I [32]=s->y=(I.2.2,true):=fun I h2 h3=>by
      have ho:=(Yq h2).after
      exact hy I.2.2 (by omega) (by omega) (by rw[(wd I h2 h3).2];rfl) (il _ 3 (by omega) (by omega) (by omega))
     refine Y.bind (Q:=fun j=>∀I,Zg I=0->QB I [32]=s->j=true) ?_ (fun j hj=>Y.some ⟨hx1,fun I h2 h3=>by rw[hj I h2 h3,hx2 I h2 h3,hya I h2 h3]⟩)
     refine Y.bif (fun _=>Y.bif (fun _=>Y.grd (hin 3 (by omega)) (Y.bif (fun _=>Y.some (fun I h2 h3=>?_)) (fun h6=>Y.some (fun I h2 h3=>?_)))) (fun h6=>Y.some (fun I h2 h3=>?_))) (fun h6=>Y.some (fun I h2 h3=>?_))
     ·have ho:=(Yq h2).after
      have:=(wd I h2 h3).1
      rw[hya I h2 h3];simp;omega
     ·rw[(wd I h2 h3).2] at h6
      simp at h6
     ·rw[hya I h2 h3] at h6;cases h6
     ·rw[hx2 I h2 h3] at h6;cases h6
    ·have h3':(cuts 32 s).length=3:=by simp at h5;omega
     refine Y.some ⟨hx1,fun I h2 h3=>?_⟩
     have hl:=Qfr I
     rw[<-JG h2 Qfs h3,h3'] at hl;have hz:I.2.2=0:=by
      by_cases e:I.2.2=0
      ·exact e
      ·rw[if_neg e] at hl;omega
     rw[hx2 I h2 h3,<-hz]
   ·obtain⟨hz1,hz2⟩:=hz
    refine Y.bind (Q:=fun (u:Bool×TRu)=>u.2.1.length<=s.length+1/\∀I,Zg I=0->QB I [32]=s->u=(true,I)) ?_ (fun u hu=>Y.some ⟨hu.1,fun I h2 h3=>by rw[hu.2 I h2 h3]⟩)
    refine Y.bif (fun _=>Y.eqb (Qgh z.2 (by unfold BIG;omega)) (Y.some ⟨hz1,fun I h2 h3=>by rw[hz2 I h2 h3];simp[h2]⟩)) (fun h6=>Y.some ⟨hz1,fun I h2 h3=>?_⟩)
    rw[hz2 I h2 h3] at h6;cases h6
abbrev TX:=Int×Int×List (Int×Int)×List TOut
theorem Qgf (l:List (Int×Int)) (I:l.length<BIG) (x:Int×Int):QI l x=some (decide (x ∈ l)):=by
 unfold QI Yp;rw[Yy l (fun a=>decide (x=a)) _ (fun i h=>?_) (by simp only[dge,aLC]),aLc,Zy,any_eq]
 ·exact congrArg some (decide_eq_decide.2 Iff.rfl)
 ·simp only[dlt h,Qb l i h,Qa l i _ h,aLB,wsucc h I,Qg1]
  cases decide (x=l[i])<;>rfl
theorem Qef (l:List (Int×Int)) (I:l.length<BIG) (x:Int×Int):Qaq l x=some (decide (x ∈ l)):=by
 unfold Qaq;rw[QhC l (fun a=>decide (a=x)) _ (fun i h=>?_) (by simp only[dge,aLC]),any_eq']
 ·exact congrArg some (decide_eq_decide.2 Iff.rfl)
 ·simp only[dlt h,Qb l i h,Qa l i _ h,aLB,wsucc h I,Qg1]
  cases decide (l[i]=x)<;>rfl
def mRf (l:List (Int×Int)) (i:Nat) (r:Int×Int):Int:=if mRef r then (if r ∈ l.take i then 7 else 0) else 3
def mTxO (t:TX):Int:=if code (fun _ o=>mOut o) t.2.2.2=0 then (if t.1=1/\(List.getD t.2.2.2 0 (0,([],(0,0)))).1<100 then 8 else 0) else code (fun _ o=>mOut o) t.2.2.2
def mTxF (t:TX):Int:=if mIn t.1 0 2&&(decide (t.1=0) == decide (t.2.1=0)) then (if decide (t.1=0) || mIn t.2.1 1 999 then (if mIn (t.2.2.1.length:Int) 1 4&&mIn (t.2.2.2.length:Int) 1 4 then (if code (mRf t.2.2.1) t.2.2.1=0 then mTxO t else code (mRf t.2.2.1) t.2.2.1) else 2) else 3) else 1
structure bT (t:TX):Prop where
 ins:t.2.2.1.length<BIG
 outs:t.2.2.2.length<BIG
 keys:∀o,o ∈ t.2.2.2->o.2.1.length<BIG
theorem Qh6 (o:TOut) (I:o.2.1.length<BIG):YX o=some (mOut o):=by
 unfold YX mOut;rw[Zt,aLc,Qff _ I];cases mIn o.1 1 1000000<;>rfl
theorem QpT (n:Int):J8 n=some (!mIn n 1 4):=by
 unfold J8;have I:(decide (n<1) || decide (4<n)) = !mIn n 1 4:=by
  unfold mIn;rw[Bool.eq_iff_iff];simp;try omega
 rw[<-I];cases decide (n<1)<;>rfl
theorem QrS (t:TX) (h:0<t.2.2.2.length):((bif decide (t.1=1) then bif inB 0 t.2.2.2 then some (decide ((List.getD t.2.2.2 (Int.toNat 0) (0,([],(0,0)))).1<100)) else none else some false:Option Bool).bind fun j=>bif j then some (8:Int) else some 0)=some (if t.1=1/\(List.getD t.2.2.2 0 (0,([],(0,0)))).1<100 then 8 else 0):=by
 by_cases h1:t.1=1
 ·rw[aLE h1,aLB,ZT (by omega) (by omega),aLB,aLc]
  show (bif decide ((List.getD t.2.2.2 0 (0,([],(0,0)))).1<100) then some (8:Int) else some 0)=_
  by_cases h2:(List.getD t.2.2.2 0 (0,([],(0,0)))).1<100
  ·rw[aLE h2,if_pos ⟨h1,h2⟩];rfl
  ·rw[aLD h2,if_neg (fun h=>h2 h.2)];rfl
 ·rw[aLD h1,if_neg (fun h=>h1 h.1)];rfl
theorem QjR (t:TX) (hb:bT t) (h:0<t.2.2.2.length):QeY t=some (mTxO t):=by
 unfold QeY mTxO;rw[JE t.2.2.2 (fun _ o=>mOut o) _ (fun i h=>?_) (by simp only[dge,aLC]),QrS t h]
 ·split<;>rfl
 ·have hk:=hb.keys _ (aLl h)
  simp only[dlt h,Qb _ i h,Qa _ i _ h,aLB,Zn,Qgh _ hk,aLc,wsucc h hb.outs];unfold mOut;cases mIn t.2.2.2[i].1 1 1000000
  ·rfl
  ·by_cases h3:Zg t.2.2.2[i].2=0
   ·rw[aLE h3];simp[h3]
   ·rw[aLD h3];simp[h3]
theorem QbU (t:TX) (hb:bT t):YB t=some (mTxF t):=by
 unfold YB mTxF;simp only[Zn,QdK,aLc,beqB];cases h1:mIn t.1 0 2
 ·rfl
 ·simp only[aMa,aLC,aLc,aMz]
  by_cases h2:decide (t.1=0)=decide (t.2.1=0)
  ·rw[aLE h2,beq_iff_eq.2 h2,if_pos rfl]
   simp only[aMa,aLC];by_cases h3:t.1=0;all_goals skip
   ·rw[aLE h3]
    simp only[aMa,aLC,aLc,Bool.true_or,if_true];cases h4:mIn (t.2.2.1.length:Int) 1 4<;>cases h5:mIn (t.2.2.2.length:Int) 1 4<;>try rfl
    simp only[aMa,aLC,aLc,aMz,if_true];rw[Qz] at h5;rw[JE t.2.2.1 (mRf t.2.2.1) _ (fun i h=>?_) (by simp only[dge,aLC]),QjR t hb (by omega)]
    ·split<;>rfl
    ·simp only[dlt h,Qb _ i h,Qa _ i _ h,ZI _ i (Nat.le_of_lt h),Jq,aLB,Qf0,aLc,wsucc h hb.ins,Qef _ (YZ hb.ins i)]
     unfold mRf;cases mRef t.2.2.1[i]<;>by_cases hm:t.2.2.1[i] ∈ t.2.2.1.take i<;>simp[hm]
   ·rw[aLD h3]
    simp only[aMB,aLB,aLc,Bool.false_or];cases h6:mIn t.2.1 1 999<;>try rfl
    simp only[aMa,aLC,aLc,if_true];cases h4:mIn (t.2.2.1.length:Int) 1 4<;>cases h5:mIn (t.2.2.2.length:Int) 1 4<;>try rfl
    simp only[aMa,aLC,aLc,aMz,if_true];rw[Qz] at h5;rw[JE t.2.2.1 (mRf t.2.2.1) _ (fun i h=>?_) (by simp only[dge,aLC]),QjR t hb (by omega)]
    ·split<;>rfl
    ·simp only[dlt h,Qb _ i h,Qa _ i _ h,ZI _ i (Nat.le_of_lt h),Jq,aLB,Qf0,aLc,wsucc h hb.ins,Qef _ (YZ hb.ins i)]
     unfold mRf;cases mRef t.2.2.1[i]<;>by_cases hm:t.2.2.1[i] ∈ t.2.2.1.take i<;>simp[hm]
  ·rw[aLD h2,beq_eq_false_iff_ne.2 h2]
   rfl
theorem QiQ (t:TX) (hb:bT t):Qb2 t=some (mTxF t):=by
 unfold Qb2 mTxF;simp only[Zt,QdH,QpT,aLc,beqB];cases h1:mIn t.1 0 2
 ·rfl
 ·simp only[aMa,aLC,aLc,aMz]
  by_cases h2:decide (t.1=0)=decide (t.2.1=0)
  ·have h20:decide (t.2.1=0)=decide (t.1=0):=h2.symm
   rw[aLE h2,beq_iff_eq.2 h2,if_pos rfl,h20];simp only[aMa,aLC];have rest:∀(hx:(decide (t.1=0) || mIn t.2.1 1 999)=true),((bif !mIn (t.2.2.1.length:Int) 1 4 then some true else (some (!mIn (t.2.2.2.length:Int) 1 4):Option Bool).bind fun y39=>some y39).bind fun j40=>bif j40 then some 2 else
     (Qc (S:=Int) (X:=(Unit)⊕(Int)) (fun (J:Int)=>
 bif (decide ((J:Int)<(List.length t.2.2.1:Int))) then
 bif (inB J t.2.2.1) then
 (QaM (List.getD t.2.2.1 (Int.toNat J) (0,0))).bind fun (y46:Bool)=>
 bif (!y46) then
 some (inr (inr 3))
 else
 bif (QA 0 J t.2.2.1) then
 (QI (cut 0 J t.2.2.1) (List.getD t.2.2.1 (Int.toNat J) (0,0))).bind fun (y47:Bool)=>
 bif y47 then
 some (inr (inr 7))
 else
 some (inl (wrap .i64 (J+1)))
 else none
 else none
 else
 some (inr (inl ()))) 0).bind fun (j48:(Unit)⊕(Int))=>
 Sum.elim (fun (j49:Unit)=>
 (Qc (S:=Int) (X:=(Unit)⊕(Int)) (fun (I:Int)=>
 bif (decide ((I:Int)<(List.length t.2.2.2:Int))) then
 bif (inB I t.2.2.2) then
 (YX (List.getD t.2.2.2 (Int.toNat I) (0,([],(0,0))))).bind fun (U:Int)=>
 bif (!decide ((U:Int)=0)) then
 some (inr (inr U))
 else
 some (inl (wrap .i64 (I+1)))
 else none
 else
 some (inr (inl ()))) 0).bind fun (j55:(Unit)⊕(Int))=>
 Sum.elim (fun (j56:Unit)=>
 (bif (decide ((t.1:Int)=1)) then
 bif (inB 0 t.2.2.2) then
 some (decide (((List.getD t.2.2.2 (Int.toNat 0) (0,([],(0,0)))).1:Int)<100))
 else none
 else
 some false:Option (Bool)).bind fun (j58:Bool)=>
 bif j58 then
 some 8
 else
 some 0) (fun (j57:Int)=>
 some j57) j55) (fun (j50:Int)=>
 some j50) j48:Option Int)=some (if mIn (t.2.2.1.length:Int) 1 4&&mIn (t.2.2.2.length:Int) 1 4 then (if code (mRf t.2.2.1) t.2.2.1=0 then mTxO t else code (mRf t.2.2.1) t.2.2.1) else 2):=fun hx=>by
    cases h4:mIn (t.2.2.1.length:Int) 1 4<;>cases h5:mIn (t.2.2.2.length:Int) 1 4<;>try rfl
    simp only[aMa,aLC,aLc,aMz,if_true];rw[Qz] at h5;rw[JE t.2.2.1 (mRf t.2.2.1) _ (fun i h=>?_) (by simp only[dge,aLC])]
    ·have ho:(Qc (S:=Int) (X:=(Unit)⊕(Int)) (fun (I:Int)=>
 bif (decide ((I:Int)<(List.length t.2.2.2:Int))) then
 bif (inB I t.2.2.2) then
 (YX (List.getD t.2.2.2 (Int.toNat I) (0,([],(0,0))))).bind fun (U:Int)=>
 bif (!decide ((U:Int)=0)) then
 some (inr (inr U))
 else
 some (inl (wrap .i64 (I+1)))
 else none
 else
 some (inr (inl ()))) 0).bind (fun (j55:(Unit)⊕(Int))=>
 Sum.elim (fun (j56:Unit)=>
 (bif (decide ((t.1:Int)=1)) then
 bif (inB 0 t.2.2.2) then
 some (decide (((List.getD t.2.2.2 (Int.toNat 0) (0,([],(0,0)))).1:Int)<100))
 else none
 else
 some false:Option (Bool)).bind fun (j58:Bool)=>
 bif j58 then
 some 8
 else
 some 0) (fun (j57:Int)=>
 some j57) j55)=some (mTxO t):=by
      unfold mTxO;rw[JE t.2.2.2 (fun _ o=>mOut o) _ (fun i h=>?_) (by simp only[dge,aLC]),QrS t (by omega)]
      ·split<;>rfl
      ·have hk:=hb.keys _ (aLl h)
       simp only[dlt h,Qb _ i h,Qa _ i _ h,aLB,Qh6 _ hk,aLc,wsucc h hb.outs];by_cases h3:mOut t.2.2.2[i]=0
       ·rw[aLE h3];simp[h3]
       ·rw[aLD h3];simp[h3]
     rw[ho];split<;>rfl
    ·simp only[dlt h,Qb _ i h,Qa _ i _ h,ZI _ i (Nat.le_of_lt h),Jq,aLB,QhB,aLc,wsucc h hb.ins,Qgf _ (YZ hb.ins i)]
     unfold mRf;cases mRef t.2.2.1[i]<;>by_cases hm:t.2.2.1[i] ∈ t.2.2.1.take i<;>simp[hm]
   cases h3:decide (t.1=0) with
   | true=>
    simp only[aMa,aLC,aLc,Bool.true_or,if_true];exact rest (by rw[h3];rfl)
   | false=>
    simp only[aMB,aLB,aLc,Bool.false_or];cases h6:mIn t.2.1 1 999
    ·rfl
    ·simp only[aMa,aLC,aLc,if_true]
     exact rest (by rw[h3,h6];rfl)
  ·rw[aLD h2,beq_eq_false_iff_ne.2 h2]
   rfl
structure okT (t:TX):Prop where
 kind:0<=t.1/\t.1<=2
 mem:(t.1=0/\t.2.1=0)\/(t.1 ≠ 0/\1<=t.2.1/\t.2.1<=999)
 li:1<=t.2.2.1.length/\t.2.2.1.length<=4
 lo:1<=t.2.2.2.length/\t.2.2.2.length<=4
 ref:∀r,r ∈ t.2.2.1->mRef r=true
 nd:t.2.2.1.Nodup
 out:∀o,o ∈ t.2.2.2->(1<=o.1/\o.1<=1000000)/\Zg o.2=0
theorem QaB {r:Int×Int}:mRef r=true↔(1<=r.1/\r.1<=60)/\(0<=r.2/\r.2<=3):=by
 unfold mRef;rw[aLg,Qz,Qz]
theorem Qvv {α:Type} [DecidableEq α] (l:List α) (h:∀i (hi:i<l.length),l[i] ∉ l.take i):l.Nodup:=by
 rw[List.nodup_iff_pairwise_ne,List.pairwise_iff_getElem];intro i j hi hj I he;refine h j hj ?_;rw[List.mem_take_iff_getElem];exact⟨i,by omega,he⟩
theorem Jk {t:TX} (h:mTxF t=0):okT t:=by
 unfold mTxF at h;cases h1:mIn t.1 0 2&&(decide (t.1=0) == decide (t.2.1=0)) with
 | false=>rw[h1] at h;simp at h
 | true=>
  rw[h1,if_pos rfl] at h;cases h2:(decide (t.1=0) || mIn t.2.1 1 999) with
  | false=>rw[h2] at h;simp at h
  | true=>
   rw[h2,if_pos rfl] at h;cases h3:(mIn (t.2.2.1.length:Int) 1 4&&mIn (t.2.2.2.length:Int) 1 4) with
   | false=>rw[h3] at h;simp at h
   | true=>
    rw[h3,if_pos rfl] at h;by_cases h4:code (mRf t.2.2.1) t.2.2.1=0
    ·rw[if_pos h4] at h
     unfold mTxO at h;by_cases h5:code (fun _ o=>mOut o) t.2.2.2=0
     ·rw[aLg,Qz,beq_iff_eq] at h1
      rw[aLg,Qz,Qz] at h3;have U:∀i (hi:i<t.2.2.1.length),mRef t.2.2.1[i]=true/\t.2.2.1[i] ∉ t.2.2.1.take i:=fun i hi=>by
       have I:=YI h4 i _ (aLf hi)
       unfold mRf at I;cases h6:mRef t.2.2.1[i] with
       | false=>rw[h6] at I;simp at I
       | true=>
        rw[h6,if_pos rfl] at I;exact⟨rfl,fun hm=>by rw[if_pos hm] at I;cases I⟩
      refine⟨h1.1,?_,by omega,by omega,fun r J=>?_,Qvv _ fun i hi=>(U i hi).2,fun o ho=>?_⟩
      ·by_cases h0:t.1=0
       ·left
        have:=h1.2
        rw[aLE h0] at this;exact⟨h0,aLG this.symm⟩
       ·right
        rw[aLD h0,Bool.false_or,Qz] at h2;exact⟨h0,h2⟩
      ·obtain⟨i,hi,rfl⟩:=aMe.1 J
       exact (U i hi).1
      ·obtain⟨i,hi,rfl⟩:=aMe.1 ho
       have I:=YI h5 i _ (aLf hi)
       unfold mOut at I;cases h6:mIn t.2.2.2[i].1 1 1000000 with
       | false=>rw[h6] at I;simp at I
       | true=>
        rw[h6,if_pos rfl] at I;exact⟨Qz.1 h6,I⟩
     ·rw[if_neg h5] at h;exact absurd h h5
    ·rw[if_neg h4] at h;exact absurd h h4
theorem okT.b {t:TX} (h:okT t):bT t:=by
 have I:BIG=4611686018427387904:=rfl
 refine⟨by have:=h.li;omega,by have:=h.lo;omega,fun o ho=>?_⟩
 have:=(Yq (h.out o ho).2).len
 omega
def kw (k:Int):List UInt8:=if k=0 then [112,97,121] else if k=1 then [106,111,105,110] else [108,101,97,118,101]
def wRef (r:Int×Int):List UInt8:=Lib.itoa r.1++[58]++Lib.itoa r.2
def wOut (o:TOut):List UInt8:=Lib.itoa o.1++[61]++QB o.2 [95]
def wTx (t:TX):List (List UInt8):=[kw t.1]++(if t.1=0 then [] else [Lib.itoa t.2.1])++[Lib.join (t.2.2.1.map wRef) [43]]++t.2.2.2.map wOut
def Qu (t:TX):List UInt8:=Lib.join (wTx t) [32]
theorem Qiq (c:UInt8) (B:Nat):∀ws:List (List UInt8),(∀w,w ∈ ws->w.length<=B)->(Lib.join ws [c]).length<=(B+1) * ws.length
 | [],_=>by simp[Lib.join_nil]
 | [x],h=>by rw[Lib.join_one];have:=h x aLm;simp;omega
 | x::y::r,h=>by
  have h1:=h x aLm
  have h2:=Qiq c B (y::r) fun w hw=>h w (aLp _ hw)
  rw[Qbt,aLi,aLh];have e:(B+1) * (x::y::r).length=(B+1) * (y::r).length+(B+1):=by rw[aLh,Nat.mul_succ]
  omega
theorem QpK {r:Int×Int} (h:mRef r=true):(wRef r).length<=40:=by
 rw[QaB] at h;have h1:=Zc (n:=r.1) (by omega) (by omega)
 have h2:=Zc (n:=r.2) (by omega) (by omega)
 unfold wRef;simp only[aLi,aLh,aLj];omega
theorem Qqv {o:TOut} (h:(1<=o.1/\o.1<=1000000)/\Zg o.2=0):(wOut o).length<=140:=by
 have h1:=Zc (n:=o.1) (by omega) (by omega)
 have h2:=Qdo h.2 95
 unfold wOut;simp only[aLi,aLh,aLj];omega
theorem Qlx {t:TX} (h:okT t):(Lib.join (t.2.2.1.map wRef) [43]).length<=164:=by
 have:=Qiq 43 40 (t.2.2.1.map wRef) fun w hw=>by
  obtain⟨r,I,rfl⟩:=List.mem_map.1 hw;exact QpK (h.ref r I)
 rw[aMH] at this;have:=h.li
 omega
theorem Qts (k:Int):(kw k).length<=5:=by
 unfold kw;split
 ·simp
 ·split<;>simp
theorem QnH {t:TX} (h:okT t):(∀w,w ∈ wTx t->w.length<=164)/\(wTx t).length<=7:=by
 refine⟨fun w hw=>?_,?_⟩
 ·unfold wTx at hw
  simp only[aMi,aLs] at hw;rcases hw with ((rfl | hw) | rfl) | hw
  ·have:=Qts t.1;omega
  ·split at hw
   ·simp at hw
   ·rw[aLs] at hw;subst hw
    have:=h.mem
    have:=Zc (n:=t.2.1) (by omega) (by omega)
    omega
  ·exact Qlx h
  ·obtain⟨o,ho,rfl⟩:=List.mem_map.1 hw
   have:=Qqv (h.out o ho);omega
 ·unfold wTx
  have:=h.lo
  split<;>simp<;>omega
theorem QtZ {t:TX} (h:okT t):(Qu t).length<=1155:=by
 have:=Qiq 32 164 (wTx t) (QnH h).1
 have:=(QnH h).2
 unfold Qu;omega
theorem QjJ {t:TX} (h:okT t):QcK t=some (if (Qu t).length<=300 then (Qu t,0) else ([],2)):=by
 have hk:=h.kind
 have hm:=h.mem
 have hli:=h.li
 have hlo:=h.lo
 have hB:BIG=4611686018427387904:=rfl
 have hL:LIM=1073741824:=rfl
 have hrl:=Qlx h
 have J:=QtZ h
 unfold QcK QaD;rw[aLc,ZT (by omega) (by show t.1<((3:Nat):Int);omega),aLB]
 have U:List.getD ([[112,97,121],[106,111,105,110],[108,101,97,118,101]]:List (List UInt8)) (Int.toNat t.1) []=kw t.1:=by
  have:t.1=0\/t.1=1\/t.1=2:=by omega
  rcases this with e | e | e<;>rw[e]<;>rfl
 simp only[U];have e1:(bif !decide (t.1=0) then (Y5 t.2.1).bind fun (I:List UInt8)=>bif decide (List.length ([kw t.1]:List (List UInt8))+List.length ([I]:List (List UInt8))<=LIM) then some (List.append ([kw t.1]:List (List UInt8)) ([I]:List (List UInt8))) else none else some ([kw t.1]:List (List UInt8)))=some ([kw t.1]++(if t.1=0 then [] else [Lib.itoa t.2.1])):=by
  by_cases h0:t.1=0
  ·rw[aLE h0,if_pos h0];rfl
  ·rw[aLD h0,if_neg h0,QcD (by omega) (by omega),aLc,Qj (by simp;omega)];rfl
 rw[e1,aLc];rw[Zx (σ:=List (List UInt8)) t.2.2.1 (fun acc a=>acc++[wRef a]) (fun t i=>(t,i)) (fun t=>t) (fun t i=>t.length=i) _ (fun i hi x hx=>by
   have hr:=QaB.1 (h.ref _ (aLl hi))
   have l1:=Zc (n:=t.2.2.1[i].1) (by omega) (by omega)
   have l2:=Zc (n:=t.2.2.1[i].2) (by omega) (by omega)
   refine⟨?_,by simp[hx]⟩
   simp only[dlt hi,Qb _ i hi,Qa _ i _ hi,aLB,QcD (n:=t.2.2.1[i].1) (by omega) (by omega),QcD (n:=t.2.2.1[i].2) (by omega) (by omega),aLc,wsucc hi (by omega),aLo]
   rw[Qj,Qj,Qj]
   ·rfl
   all_goals ((try simp only[aLi,aLh,aLj]);omega)) (fun t ht=>by simp only[dge,aLC]) [] rfl,aLc,foldl_map,aLx]
 have hj1:YE (t.2.2.1.map wRef) [43]=some (Lib.join (t.2.2.1.map wRef) [43]):=by
  unfold YE;exact QlD _ _ (by rw[aMH];omega) (by omega)
 rw[hj1,aLc,Qj (by split<;>simp<;>omega)]
 rw[Zx (σ:=List (List UInt8)) t.2.2.2 (fun acc a=>acc++[wOut a]) (fun t i=>(t,i)) (fun t=>t) (fun t i=>t.length<=3+i) _ (fun i hi x hx=>by
   have ho:=h.out _ (aLl hi)
   have l1:=Zc (n:=t.2.2.2[i].1) (by omega) (by omega)
   have l2:=Qdo ho.2 95
   refine⟨?_,by simp;omega⟩
   simp only[dlt hi,Qb _ i hi,Qa _ i _ hi,aLB,QcD (n:=t.2.2.2[i].1) (by omega) (by omega),Qia (Yq ho.2) [95] (by simp),aLc,wsucc hi (by omega),aLo]
   rw[Qj,Qj,Qj]
   ·rfl
   all_goals ((try simp only[aLi,aLh,aLj]);omega)) (fun t ht=>by simp only[dge,aLC]) _ (by split<;>simp),aLc,foldl_map]
 have hw:List.append ([kw t.1]++(if t.1=0 then [] else [Lib.itoa t.2.1])) [Lib.join (t.2.2.1.map wRef) [43]]++t.2.2.2.map wOut=wTx t:=rfl
 rw[hw];have hj2:YE (wTx t) [32]=some (Qu t):=by
  unfold YE;have:=(QnH h).2
  exact QlD _ _ (by omega) (by unfold Qu at J;omega)
 rw[hj2,aLc];by_cases hlen:(Qu t).length<=300
 ·rw[aLD (by omega),if_pos hlen];rfl
 ·rw[aLE (by omega),if_neg hlen];rfl
theorem Qj9 (x:List UInt8) (ws:List (List UInt8)) (c:UInt8):Lib.join (x::ws) [c]=x++(ws.map fun w=>c::w).flatten:=by
 rw[Lib.join_cons,Lib.joinTail];rfl
theorem QnT {α:Type} (l:List α) (g:α->List UInt8) (f:List UInt8×Int->Option ((List UInt8×Int)⊕List UInt8)) (B:Nat->Nat) (j:Nat)
  (U:∀(i:Nat) (h:i<l.length) (acc:List UInt8),j<=i->acc.length<=B i->f (acc,(i:Int))=some (.inl (acc++g l[i],((i+1:Nat):Int)))/\(acc++g l[i]).length<=B (i+1))
  (he:∀acc,f (acc,(l.length:Int))=some (.inr acc)):∀(k i:Nat) (acc:List UInt8),i+k=l.length->j<=i->acc.length<=B i->Qc f (acc,(i:Int))=some (acc++((l.drop i).map g).flatten)
 | 0,i,acc,hi,_,_=>by
  obtain rfl:i=l.length:=by omega
  rw[Qe (he acc)];simp
 | k+1,i,acc,hi,hj,ha=>by
  have h1:i<l.length:=by omega
  obtain⟨I,J⟩:=U i h1 acc hj ha;rw[Qo I,QnT l g f B j U he k (i+1) _ (by omega) (by omega) J,aLr h1,aMJ,List.flatten_cons,aMm]
theorem Qtk (l:List (Int×Int)) (f:List UInt8×Int->Option ((List UInt8×Int)⊕List UInt8)) (acc:List UInt8) (ha:acc.length<=100) (I:1<=l.length/\l.length<=4) (hb:∀r,r ∈ l->(wRef r).length<=40)
  (J:∀(i:Nat) (h:i<l.length) (acc:List UInt8),acc.length<=10000->f (acc,(i:Int))=some (.inl (acc++((if i=0 then 32 else 43)::wRef l[i]),((i+1:Nat):Int))))
  (he:∀acc,f (acc,(l.length:Int))=some (.inr acc)):Qc f (acc,0)=some (acc++32::Lib.join (l.map wRef) [43]):=by
 cases l with
 | nil=>simp at I
 | cons r l=>
  have h0:=J 0 (by simp) acc (by omega)
  rw[if_pos rfl] at h0;have h0:f (acc,0)=some (.inl (acc++32::wRef r,((1:Nat):Int))):=h0
  have hr:=hb r aLm
  rw[Qo h0,QnT (r::l) (fun a=>43::wRef a) f (fun i=>200+50 * i) 1 (fun i hi a hj U=>by
   have h2:=J i hi a (by simp at hi I;omega)
   rw[if_neg (by omega)] at h2
   have:=hb _ (aLl hi)
   exact⟨h2,by rw[aLi,aLh];omega⟩) he l.length 1 _ (by simp;omega) (by omega) (by rw[aLi,aLh];omega)]
  rw[aMJ,Qj9,List.map_map];simp[Function.comp_def]
theorem QjL {t:TX} (h:okT t):QcL t=some (Qu t):=by
 have hk:=h.kind
 have hm:=h.mem
 have hli:=h.li
 have hlo:=h.lo
 have hB:BIG=4611686018427387904:=rfl
 have hL:LIM=1073741824:=rfl
 have hrl:=Qlx h
 unfold QcL;rw[ZT (by omega) (by show t.1<((3:Nat):Int);omega),aLB]
 obtain⟨hd,U⟩:∃hd,hd=if t.1=0 then kw t.1 else kw t.1++32::Lib.itoa t.2.1:=⟨_,rfl⟩
 have hdl:hd.length<=100:=by
  have h1:=Qts t.1
  rw[U];split
  ·omega
  ·have:=Zc (n:=t.2.1) (by omega) (by omega)
   rw[aLi,aLh];omega
 have e1:(bif !decide (t.1=0) then (Zs t.2.1).bind fun (y26:List UInt8)=>
   bif decide (List.length (List.getD ([[112,97,121],[106,111,105,110,32],[108,101,97,118,101,32]]:List (List UInt8)) (Int.toNat t.1) [])+List.length y26<=LIM) then
   some (List.append (List.getD ([[112,97,121],[106,111,105,110,32],[108,101,97,118,101,32]]:List (List UInt8)) (Int.toNat t.1) []) y26)
   else none
   else some (List.getD ([[112,97,121],[106,111,105,110,32],[108,101,97,118,101,32]]:List (List UInt8)) (Int.toNat t.1) []))=some hd:=by
  rw[U];have:t.1=0\/t.1=1\/t.1=2:=by omega
  rcases this with e | e | e
  ·rw[e];rfl
  all_goals
   rw[Yh (by omega) (by omega),aLc,if_neg (by omega),aLD (by omega),aMB,aLB]
   have:=Zc (n:=t.2.1) (by omega) (by omega)
   rw[e,Qj (by simp;omega)]
   simp[kw]
 rw[e1,aLc];rw[Qtk t.2.2.1 _ hd hdl hli (fun r hr=>QpK (h.ref r hr)) (fun i hi acc ha=>by
   have hr:=QaB.1 (h.ref _ (aLl hi))
   have l1:=Zc (n:=t.2.2.1[i].1) (by omega) (by omega)
   have l2:=Zc (n:=t.2.2.1[i].2) (by omega) (by omega)
   simp only[dlt hi,Qb _ i hi,Qa _ i _ hi,aLB,Yh (n:=t.2.2.1[i].1) (by omega) (by omega),Yh (n:=t.2.2.1[i].2) (by omega) (by omega),aLc,wsucc hi (by omega),aLo]
   have es:(bif decide ((i:Int)=0) then some [32] else some [43]:Option (List UInt8))=some [if i=0 then 32 else 43]:=by
    by_cases h0:i=0
    ·rw[if_pos h0,aLE (by omega)];rfl
    ·rw[if_neg h0,aLD (by omega)];rfl
   rw[es,aLc,Qj,Qj,Qj,Qj]
   ·unfold wRef;simp
   all_goals ((try simp only[aLi,aLh,aLj]);omega)) (fun acc=>by simp only[dge,aLC]),aLc]
 have:=QlM t.2.2.2 (fun o=>32::wOut o) (fun (I:List UInt8×Int)=>
 bif (decide ((I.2:Int)<(List.length t.2.2.2:Int))) then
 bif decide (List.length I.1+List.length [32]<=LIM) then
 bif (inB I.2 t.2.2.2) then
 (Zs (List.getD t.2.2.2 (Int.toNat I.2) (0,([],(0,0)))).1).bind fun (J:List UInt8)=>
 bif decide (List.length (List.append I.1 [32])+List.length J<=LIM) then
 bif decide (List.length (List.append (List.append I.1 [32]) J)+List.length [61]<=LIM) then
 bif (inB I.2 t.2.2.2) then
 (QcO (List.getD t.2.2.2 (Int.toNat I.2) (0,([],(0,0)))).2).bind fun (y46:List UInt8)=>
 (QaU y46 32 95).bind fun (y47:List UInt8)=>
 bif decide (List.length (List.append (List.append (List.append I.1 [32]) J) [61])+List.length y47<=LIM) then
 some (inl (List.append (List.append (List.append (List.append I.1 [32]) J) [61]) y47,wrap .i64 (I.2+1)))
 else none
 else none
 else none
 else none
 else none
 else none
 else
 some (inr I.1)) (fun i=>400+200 * i) (fun i hi acc ha=>by
   have ho:=h.out _ (aLl hi)
   have l1:=Zc (n:=t.2.2.2[i].1) (by omega) (by omega)
   have l2:=Qdo ho.2 95
   have l4:=Qdo ho.2 32
   have l3:=Qqv ho
   refine⟨?_,by rw[aLi,aLh];omega⟩
   have hsw:QaU (QB t.2.2.2[i].2 [32]) 32 95=some (QB t.2.2.2[i].2 [95]):=by
    have:=QtE (QB t.2.2.2[i].2 [32]) 32 95 (by omega)
    rw[QqJ (Yq ho.2) Qfs] at this;exact this
   simp only[dlt hi,Qb _ i hi,Qa _ i _ hi,aLB,Yh (n:=t.2.2.2[i].1) (by omega) (by omega),QoE (Yq ho.2),hsw,aLc,wsucc hi (by omega),aLo]
   rw[Qj,Qj,Qj,Qj]
   ·unfold wOut;simp
   all_goals ((try simp only[aLi,aLh,aLj]);omega)) (fun acc=>by simp only[dge,aLC]) t.2.2.2.length 0 (hd++32::Lib.join (t.2.2.1.map wRef) [43]) (by omega) (by rw[aLi,aLh];omega)
 rw[show ((0:Nat):Int)=0 from rfl] at this
 rw[this,aLc,aMt];congr 1;unfold Qu wTx;rw[U];by_cases h0:t.1=0
 ·rw[if_pos h0,if_pos h0]
  simp only[List.append_nil,aMs,aLx];rw[Qj9,aMJ,List.flatten_cons,List.map_map];simp[Function.comp_def]
 ·rw[if_neg h0,if_neg h0]
  simp only[aMs,aLx];rw[Qj9,aMJ,aMJ,List.flatten_cons,List.flatten_cons,List.map_map];simp[Function.comp_def]
theorem QoN {t:TX} (h:mTxF t=0):Qe4 t=some (if (Qu t).length<=300 then (0,Qu t) else (2,[])):=by
 unfold Qe4;rw[QbU t (Jk h).b,aLc,h,QjL (Jk h)];simp only[aMc,aMa,aLC,aLc];by_cases hlen:(Qu t).length<=300
 ·rw[aLD (by omega),if_pos hlen];rfl
 ·rw[aLE (by omega),if_neg hlen];rfl
theorem Qrp (c:UInt8) (sep:UInt8) (h0:c ≠ sep):∀ws:List (List UInt8),(∀w,w ∈ ws->c ∉ w)->c ∉ Lib.join ws [sep]
 | [],_=>by simp[Lib.join_nil]
 | [x],h=>by rw[Lib.join_one];exact h x aLm
 | x::y::r,h=>by
  rw[Qbt,aMi,List.mem_cons];rintro (h1 | h1 | h1)
  ·exact h x aLm h1
  ·exact h0 h1
  ·exact Qrp c sep h0 (y::r) (fun w hw=>h w (aLp _ hw)) h1
theorem Qnx {r:Int×Int} (h:mRef r=true) (c:UInt8) (J:c.toNat<48\/57<c.toNat) (I:c ≠ 58):c ∉ wRef r:=by
 rw[QaB] at h;unfold wRef;simp only[aMi,aLs,not_or];exact⟨⟨Yd (by omega) c J,I⟩,Yd (by omega) c J⟩
theorem QvT:Blank 61:=⟨by decide,by decide,by decide⟩
theorem Qs1 {o:TOut} (h:(1<=o.1/\o.1<=1000000)/\Zg o.2=0):(32:UInt8) ∉ wOut o:=by
 unfold wOut;simp only[aMi,aLs,not_or];exact⟨⟨Yd (by omega) 32 (by decide),by decide⟩,Qmf (Yq h.2) Qfs (by decide)⟩
theorem Qv2 (k:Int):(32:UInt8) ∉ kw k:=by
 unfold kw;split
 ·decide
 ·split<;>decide
theorem QwX {t:TX} (h:okT t):∀w,w ∈ wTx t->(32:UInt8) ∉ w:=by
 intro w hw;unfold wTx at hw;simp only[aMi,aLs] at hw;rcases hw with ((rfl | hw) | rfl) | hw
 ·exact Qv2 t.1
 ·split at hw
  ·simp at hw
  ·rw[aLs] at hw;subst hw
   have:=h.mem
   exact Yd (by omega) 32 (by decide)
 ·refine Qrp 32 43 (by decide) _ fun w hw=>?_
  obtain⟨r,I,rfl⟩:=List.mem_map.1 hw;exact Qnx (h.ref r I) 32 (by decide) (by decide)
 ·obtain⟨o,ho,rfl⟩:=List.mem_map.1 hw
  exact Qs1 (h.out o ho)
theorem QrC {t:TX} (h:okT t):cuts 32 (Qu t)=wTx t:=Qak 32 _ (by unfold wTx;simp) (QwX h)
theorem Qs3 {t:TX} (h:okT t):cuts 43 (Lib.join (t.2.2.1.map wRef) [43])=t.2.2.1.map wRef:=by
 refine Qak 43 _ (fun e=>?_) fun w hw=>?_
 ·have:=h.li
  rw[List.map_eq_nil_iff] at e;rw[e] at this;simp at this
 ·obtain⟨r,I,rfl⟩:=List.mem_map.1 hw
  exact Qnx (h.ref r I) 43 (by decide) (by decide)
theorem Qwa {r:Int×Int} (h:mRef r=true):Lib.cut (wRef r) [58]=(Lib.itoa r.1,Lib.itoa r.2,true):=by
 rw[QaB] at h;have:=QrO 58 (Lib.itoa r.1) (Lib.itoa r.2) (Yd (by omega) 58 (by decide))
 unfold wRef;simpa using this
theorem QuG {r:Int×Int} (h:mRef r=true):cuts 58 (wRef r)=[Lib.itoa r.1,Lib.itoa r.2]:=by
 rw[QaB] at h;have:wRef r=Lib.join [Lib.itoa r.1,Lib.itoa r.2] [58]:=by rw[Qbt,Lib.join_one];unfold wRef;simp
 rw[this];refine Qak 58 _ (by simp) fun w hw=>?_
 simp only[List.mem_cons,List.not_mem_nil,or_false] at hw;rcases hw with rfl | rfl
 ·exact Yd (by omega) 58 (by decide)
 ·exact Yd (by omega) 58 (by decide)
theorem QvX {o:TOut} (h:(1<=o.1/\o.1<=1000000)/\Zg o.2=0):Lib.cut (wOut o) [61]=(Lib.itoa o.1,QB o.2 [95],true):=by
 have:=QrO 61 (Lib.itoa o.1) (QB o.2 [95]) (Yd (by omega) 61 (by decide))
 unfold wOut;simpa using this
theorem Qql {o:TOut} (h:(1<=o.1/\o.1<=1000000)/\Zg o.2=0):cuts 61 (wOut o)=[Lib.itoa o.1,QB o.2 [95]]:=by
 have:wOut o=Lib.join [Lib.itoa o.1,QB o.2 [95]] [61]:=by rw[Qbt,Lib.join_one];unfold wOut;simp
 rw[this];refine Qak 61 _ (by simp) fun w hw=>?_
 simp only[List.mem_cons,List.not_mem_nil,or_false] at hw;rcases hw with rfl | rfl
 ·exact Yd (by omega) 61 (by decide)
 ·exact Qmf (Yq h.2) QvT (by decide)
theorem QvJ (s:List UInt8) (c:UInt8) (h:s.length<=1000000):QeU s [c]=some (Lib.cut s [c]):=by
 unfold QeU;exact QvS _ (by omega)
theorem Qrq (s sep:List UInt8):(Lib.cut s sep).1.length<=s.length/\(Lib.cut s sep).2.1.length<=s.length:=by
 unfold Lib.cut;split
 ·simp[aLn,aLz];omega
 ·simp
theorem Qlm (l:List (List UInt8)) (I:l.length<BIG) (x:List UInt8):QT l x=some (idxF (fun a=>decide (x=a)) l):=by
 unfold QT;refine Yy l (fun a=>decide (x=a)) _ (fun i h=>?_) (by simp only[dge,aLC])
 simp only[dlt h,Qb l i h,Qa l i _ h,aLB,wsucc h I];cases decide (x=l[i])<;>rfl
theorem QwL (w:List UInt8):Y (QT [[112,97,121],[106,111,105,110],[108,101,97,118,101]] w) (fun k=>-1<=k/\k<=2/\∀j,0<=j->j<=2->w=kw j->k=j):=by
 refine⟨_,Qlm _ (by decide) w,?_⟩
 unfold idxF;simp only[first]
 by_cases h0:w=[112,97,121]
 ·subst h0
  refine⟨by simp,by simp,fun j h1 h2 h3=>?_⟩
  have:j=0\/j=1\/j=2:=by omega
  rcases this with rfl | rfl | rfl
  ·simp
  ·simp[kw] at h3
  ·simp[kw] at h3
 ·simp only[h0,aMD,Bool.false_eq_true,if_false]
  by_cases h1:w=[106,111,105,110]
  ·subst h1
   refine⟨by simp,by simp,fun j h1 h2 h3=>?_⟩
   have:j=0\/j=1\/j=2:=by omega
   rcases this with rfl | rfl | rfl
   ·simp[kw] at h3
   ·simp
   ·simp[kw] at h3
  ·simp only[h1,aMD,Bool.false_eq_true,if_false]
   by_cases h2:w=[108,101,97,118,101]
   ·subst h2
    refine⟨by simp,by simp,fun j h1 h2 h3=>?_⟩
    have:j=0\/j=1\/j=2:=by omega
    rcases this with rfl | rfl | rfl
    ·simp[kw] at h3
    ·simp[kw] at h3
    ·simp
   ·simp only[h2,aMD,Bool.false_eq_true,if_false]
    refine⟨by simp,by simp,fun j h3 h4 h5=>?_⟩
    have:j=0\/j=1\/j=2:=by omega
    rcases this with rfl | rfl | rfl
    ·exact absurd h5 h0
    ·exact absurd h5 h1
    ·exact absurd h5 h2
def okO (o:TOut):Prop:=(1<=o.1/\o.1<=1000000)/\Zg o.2=0
theorem Qul (s:List UInt8) (J:s.length<=1000):Y (Qea s) (fun x=>x.1.2.1.length<=1001/\∀o,okO o->wOut o=s->x=(o,true)):=by
 unfold Qea;have U:=Qrq s [61]
 refine Y.eqb (QvJ s 61 (by omega)) (Y.bind (Qsa _ 95 Qrj (by omega)) (fun r I=>Y.eqb (Jr _ (by omega)) (Y.some ⟨by have:=I.1;show r.1.1.length<=_;omega,fun o ho h=>?_⟩)))
 have e:=QvX ho
 rw[h] at e;rw[e] at I ⊢;rw[I.2 o.2 ho.2 rfl];show ((numS (Lib.itoa o.1),o.2),true)=_
 rw[Qcg (by have:=ho.1;omega) (by have:=ho.1;omega)]
def TxQ (s:List UInt8) (x:TX×Bool):Prop:=(x.2=true->mTxF x.1=0/\Qu x.1=s)/\∀I,mTxF I=0->Qu I=s->x=(I,true)
theorem drop1 {α:Type} (l:List α) (h:1<=l.length):List.take (Int.toNat ((List.length l:Int) - 1)) (List.drop (Int.toNat 1) l)=l.drop 1:=by
 rw[show Int.toNat 1=1 from rfl]
 exact aMx (by rw[aLz];omega)
theorem QpF {α:Type} (l:List α) (h:1<=l.length):QA 1 (List.length l:Int) l=true:=by
 unfold QA;simp;omega
theorem QiE (s:List UInt8) (c:UInt8) (d i:Nat):(List.getD ((cuts c s).drop d) i []).length<=s.length:=by
 rw[aLk,List.getElem?_drop];have:=YL c s (d+i)
 rw[aLk] at this;exact this
theorem Qu7 (s:List UInt8) (hs:s.length<=300):Y (QeG s) (TxQ s):=by
 have hB:BIG=4611686018427387904:=rfl
 have hne:=QbP 32 s
 have hlen:=J1 32 s
 have hpos:1<=(cuts 32 s).length:=by
  cases h:cuts 32 s with
  | nil=>exact absurd h hne
  | cons a l=>simp
 have hwd:∀I,mTxF I=0->Qu I=s->okT I/\cuts 32 s=wTx I:=fun I h1 h2=>⟨Jk h1,by rw[<-h2];exact QrC (Jk h1)⟩
 have hno:∀t:TX,(∀I,mTxF I=0->Qu I=s->False)->TxQ s (t,false):=fun t h=>⟨(fun h=>by cases h),fun I h1 h2=>(h I h1 h2).elim⟩
 unfold QeG QaD;refine Y.eqb (Qhc s 32 (by omega)) (Y.eqb rfl (Y.grd (ZT (by omega) (by omega)) (Y.bind (QwL _) (fun k hk=>?_))))
 obtain⟨hk0,hk2,hkc⟩:=hk;have hkw:∀I,mTxF I=0->Qu I=s->k=I.1:=fun I h1 h2=>by
  obtain⟨ho,hw⟩:=hwd I h1 h2;refine hkc I.1 ho.kind.1 ho.kind.2 ?_;rw[hw];rfl
 refine Y.bind (Q:=fun j=>(j=false->0<=k)/\(j=true->k<0)) ?_ (fun j hj=>?_)
 ·refine Y.bif (fun h=>?_) (fun _=>Y.some ⟨(fun h=>?_),(fun h=>?_)⟩)
  ·simp at h;omega
  ·simp at h;omega
  ·simpa using h
 refine Y.bif (fun h=>Y.some (hno _ fun I h1 h2=>?_)) (fun h=>?_)
 ·have:=hkw I h1 h2
  have:=(hwd I h1 h2).1.kind
  have:=hj.2 h
  omega
 have hk0:=hj.1 h
 rw[drop1 _ hpos];refine Y.grd (QpF _ hpos) ?_;have hdl:((cuts 32 s).drop 1).length=(cuts 32 s).length - 1:=aLz
 refine Y.bind (Q:=fun j=>(j=true↔(k ≠ 0/\1<=((cuts 32 s).drop 1).length))) ?_ (fun j hj=>?_)
 ·refine Y.bif (fun h=>Y.some ?_) (fun h=>Y.some ?_)
  ·simp at h ⊢;omega
  ·simp at h ⊢
   intro h2;exact absurd h h2
 refine Y.bind (Q:=fun (x:List (List UInt8)×TX)=>(∃d,x.1=(cuts 32 s).drop d)/\x.2.2.2=([],[])/\∀I,mTxF I=0->Qu I=s->x=(Lib.join (I.2.2.1.map wRef) [43]::I.2.2.2.map wOut,(I.1,I.2.1,[],[]))) ?_ (fun x hx=>?_)
 ·refine Y.bif (fun h=>?_) (fun h=>Y.some ⟨⟨1,rfl⟩,rfl,fun I h1 h2=>?_⟩)
  ·obtain⟨hkn,h1l⟩:=hj.1 h
   refine Y.grd (ZT (by omega) (by omega)) (Y.eqb (Jr _ (by have:=QiE s 32 1 0;show (List.getD ((cuts 32 s).drop 1) 0 []).length<=_;omega)) ?_)
   rw[drop1 _ h1l];refine Y.grd (QpF _ h1l) (Y.some ⟨⟨2,by rw[List.drop_drop]⟩,rfl,fun I h1 h2=>?_⟩)
   obtain⟨ho,hw⟩:=hwd I h1 h2;have hkk:=hkw I h1 h2
   have hm:=ho.mem
   rw[hw];unfold wTx;rw[if_neg (by omega)]
   show (Lib.join (I.2.2.1.map wRef) [43]::I.2.2.2.map wOut,(k,numS (Lib.itoa I.2.1),[],[]))=_
   rw[Qcg (by omega) (by omega),hkk]
  ·obtain⟨ho,hw⟩:=hwd I h1 h2
   have hkk:=hkw I h1 h2
   have hm:=ho.mem
   have hk0':k=0:=by
    by_cases e:k=0
    ·exact e
    ·have hl:1<=((cuts 32 s).drop 1).length:=by
      rw[hw];unfold wTx;rw[if_neg (by omega)];simp
     rw[hj.2 ⟨e,hl⟩] at h;cases h
   rw[hw];unfold wTx;rw[if_pos (by omega)]
   show (Lib.join (I.2.2.1.map wRef) [43]::I.2.2.2.map wOut,(k,0,[],[]))=_
   rw[hkk,show I.2.1=0 by omega]
 obtain⟨⟨d,hd⟩,he,hxc⟩:=hx;obtain⟨xw,xk,xm,xi,xo⟩:=x;have hdx:xw=(cuts 32 s).drop d:=hd
 have he:(xi,xo)=([],[]):=he
 simp only[aLe] at he;obtain⟨rfl,rfl⟩:=he;simp only;have hxl:xw.length<=301:=by rw[hdx,aLz];omega
 have hxw:∀i,(List.getD xw i []).length<=300:=fun i=>by rw[hdx];have:=QiE s 32 d i;omega
 have hxc':∀I,mTxF I=0->Qu I=s->xw=Lib.join (I.2.2.1.map wRef) [43]::I.2.2.2.map wOut/\xk=I.1/\xm=I.2.1:=fun I h1 h2=>by
  have:=hxc I h1 h2
  simp only[aLe] at this;exact⟨this.1,this.2.1,this.2.2.1⟩
 refine Y.bind (Q:=fun j=>(j=false->2<=xw.length/\xw.length<=5)/\(j=true->¬(2<=xw.length/\xw.length<=5))) ?_ (fun j hj=>?_)
 ·refine Y.bif (fun h=>Y.some ⟨(fun h=>by cases h),(fun _=>?_)⟩) (fun h1=>Y.some ⟨(fun h=>?_),(fun h=>?_)⟩)
  ·simp at h;omega
  ·simp at h h1;omega
  ·simp at h;omega
 refine Y.bif (fun h=>Y.some (hno _ fun I h1 h2=>?_)) (fun h=>?_)
 ·refine hj.2 h ?_
  obtain⟨e1,_⟩:=hxc' I h1 h2;have:=(hwd I h1 h2).1.lo
  rw[e1];simp;omega
 have h25:=hj.1 h
 have hw0:=hxw 0
 refine Y.grd (ZT (by omega) (by omega)) (Y.eqb (Qhc _ 43 (by show (List.getD xw 0 []).length<=_;omega)) ?_)
 obtain⟨rs,hrs⟩:∃rs,rs=cuts 43 (List.getD xw (Int.toNat 0) []):=⟨_,rfl⟩;have hrs':rs=cuts 43 (List.getD xw 0 []):=hrs
 rw[<-hrs];have hrl:rs.length<=301:=by rw[hrs'];have:=J1 43 (List.getD xw 0 []);omega
 have hrw:∀w,w ∈ rs->w.length<=300:=fun w hw=>by rw[hrs'] at hw;have:=Qcd 43 _ w hw;omega
 have hrc:∀I,mTxF I=0->Qu I=s->rs=I.2.2.1.map wRef:=fun I h1 h2=>by
  rw[hrs',(hxc' I h1 h2).1];exact Qs3 (hwd I h1 h2).1
 refine Y.bind (Q:=fun (t:TX)=>t.2.2.1.length<=301/\t.2.2.2=[]/\∀I,mTxF I=0->Qu I=s->t=(I.1,I.2.1,I.2.2.1,[])) ?_ (fun t ht=>?_)
 ·refine Y.loop (fun n (st:Int×TX)=>∃i:Nat,st.1=(i:Int)/\i<=rs.length/\n=rs.length - i/\st.2.2.2.1.length=i/\st.2.2.2.2=[]/\∀I,mTxF I=0->Qu I=s->st.2=(I.1,I.2.1,I.2.2.1.take i,[])) (fun n st hI=>?_) rs.length _ ⟨0,rfl,by omega,by omega,rfl,rfl,fun I h1 h2=>by
   obtain⟨_,e1,e2⟩:=hxc' I h1 h2;show (xk,xm,[],[])=_
   rw[e1,e2];rfl⟩
  obtain⟨i,hi,hle,hnn,hac,hoz,U⟩:=hI;obtain⟨i',k',m',acc,oz⟩:=st;have hi:i'=(i:Int):=hi
  subst hi;have hac:acc.length=i:=hac
  have hoz:oz=[]:=hoz
  subst hoz;refine Y.bif (fun h1=>?_) (fun h1=>Y.some ⟨by show acc.length<=_;omega,rfl,fun I h2 h3=>?_⟩)
  ·have J:i<rs.length:=by simp at h1;omega
   have hg:List.getD rs (Int.toNat (i:Int)) []=rs[i]:=Qa rs i _ J
   have hwl:=hrw _ (aLl J)
   rw[hg];have hcl:=Qrq rs[i] [58]
   refine Y.grd (Qb _ i J) (Y.eqb (QvJ _ 58 (by omega)) (Y.eqb (Jr _ (by omega)) (Y.eqb (Jr _ (by omega)) (Y.grd (Qha _ _ (by show acc.length<_;omega)) (Y.some ⟨rs.length - (i+1),by omega,i+1,wsucc J (by omega),by omega,rfl,by show (List.append acc [_]).length=_;simp[hac],rfl,fun I h2 h3=>?_⟩)))))
   have hm:=hrc I h2 h3
   have hr:i<I.2.2.1.length:=by rw[hm] at J;simpa using J
   have hok:=(hwd I h2 h3).1.ref _ (aLl hr)
   have e:rs[i]=wRef I.2.2.1[i]:=by rw[List.getElem_of_eq hm J];simp
   have hc2:=U I h2 h3
   simp only[aLe] at hc2;rw[e,Qwa hok];rw[QaB] at hok;show (k',m',List.append acc [(numS (Lib.itoa I.2.2.1[i].1),numS (Lib.itoa I.2.2.1[i].2))],[])=_
   rw[Qcg (by omega) (by omega),Qcg (by omega) (by omega),hc2.1,hc2.2.1,hc2.2.2.1,List.take_add_one,aLf hr]
   rfl
  ·have hge:i=rs.length:=by simp at h1;omega
   have c2:=U I h2 h3
   have hkl:rs.length=I.2.2.1.length:=by rw[hrc I h2 h3];simp
   rw[hge,hkl,List.take_length] at c2;exact c2
 obtain⟨hti,hto,htc⟩:=ht;obtain⟨tk,tm,ti,to⟩:=t;have hto:to=[]:=hto
 subst hto;have hti:ti.length<=301:=hti
 have hx1:1<=xw.length:=by omega
 rw[drop1 _ hx1];refine Y.grd (QpF _ hx1) ?_;obtain⟨os,hos⟩:∃os,os=xw.drop 1:=⟨_,rfl⟩;rw[<-hos];have hol:os.length<=4:=by rw[hos,aLz];omega
 have how:∀w,w ∈ os->w.length<=300:=fun w hw=>by
  rw[hos,hdx,List.drop_drop] at hw;have:=Qcd 32 s w (List.mem_of_mem_drop hw);omega
 have hoc:∀I,mTxF I=0->Qu I=s->os=I.2.2.2.map wOut:=fun I h1 h2=>by
  rw[hos,(hxc' I h1 h2).1];rfl
 refine Y.bind (Q:=fun (r:TX⊕(Bool×TX))=>match r with
   | .inl t=>t.2.2.1.length<=301/\t.2.2.2.length<=4/\(∀o,o ∈ t.2.2.2->o.2.1.length<=1001)/\∀I,mTxF I=0->Qu I=s->t=I
   | .inr x=>x.1=false/\∀I,mTxF I=0->Qu I=s->False) ?_ (fun r hr=>?_)
 ·refine Y.loop (fun n (st:Int×TX)=>∃i:Nat,st.1=(i:Int)/\i<=os.length/\n=os.length - i/\st.2.2.2.1.length<=301/\st.2.2.2.2.length=i/\(∀o,o ∈ st.2.2.2.2->o.2.1.length<=1001)/\∀I,mTxF I=0->Qu I=s->st.2=(I.1,I.2.1,I.2.2.1,I.2.2.2.take i)) (fun n st hI=>?_) os.length _ ⟨0,rfl,by omega,by omega,hti,rfl,(fun o ho=>nomatch ho),fun I h1 h2=>by
   rw[htc I h1 h2];rfl⟩
  obtain⟨i,hi,hle,hnn,hil,hac,hkl,U⟩:=hI;obtain⟨i',k',m',il,acc⟩:=st;have hi:i'=(i:Int):=hi
  subst hi;have hac:acc.length=i:=hac
  refine Y.bif (fun h1=>?_) (fun h1=>Y.some ⟨hil,by show acc.length<=_;omega,hkl,fun I h2 h3=>?_⟩)
  ·have J:i<os.length:=by simp at h1;omega
   have hg:List.getD os (Int.toNat (i:Int)) []=os[i]:=Qa os i _ J
   have hwl:=how _ (aLl J)
   rw[hg];refine Y.grd (Qb _ i J) (Y.bind (Qul _ (by omega)) (fun y hy=>?_))
   have hyc:∀I,mTxF I=0->Qu I=s->∃hr:i<I.2.2.2.length,y=(I.2.2.2[i],true):=fun I h2 h3=>by
    have hm:=hoc I h2 h3
    have hr:i<I.2.2.2.length:=by rw[hm] at J;simpa using J
    have e:os[i]=wOut I.2.2.2[i]:=by rw[List.getElem_of_eq hm J];simp
    exact⟨hr,hy.2 _ ((hwd I h2 h3).1.out _ (aLl hr)) e.symm⟩
   refine Y.bif (fun h4=>Y.some ⟨rfl,fun I h2 h3=>?_⟩) (fun h4=>Y.grd (Qha _ _ (by show acc.length<_;omega)) (Y.some ⟨os.length - (i+1),by omega,i+1,wsucc J (by omega),by omega,rfl,hil,by show (List.append acc [_]).length=_;simp[hac],fun o ho=>?_,fun I h2 h3=>?_⟩))
   ·obtain⟨_,e⟩:=hyc I h2 h3
    rw[e] at h4;cases h4
   ·rcases aMi.1 (show o ∈ acc++[y.1] from ho) with ho | ho
    ·exact hkl o ho
    ·rw[aLs] at ho;subst ho;exact hy.1
   ·obtain⟨hr,e⟩:=hyc I h2 h3
    have hc2:=U I h2 h3
    simp only[aLe] at hc2;show (k',m',il,List.append acc [y.1])=_
    rw[e,hc2.1,hc2.2.1,hc2.2.2.1,hc2.2.2.2,List.take_add_one,aLf hr];rfl
  ·have hge:i=os.length:=by simp at h1;omega
   have c2:=U I h2 h3
   have hkl:os.length=I.2.2.2.length:=by rw[hoc I h2 h3];simp
   rw[hge,hkl,List.take_length] at c2;exact c2
 cases r with
 | inr x=>exact Y.some (by rw[hr.1];exact hno _ hr.2)
 | inl t=>
  obtain⟨r1,r2,r3,r4⟩:=hr;have hb:bT t:=⟨by omega,by omega,fun o ho=>by have:=r3 o ho;omega⟩
  refine Y.eqb (QiQ t hb) (Y.bif (fun h=>Y.some (hno _ fun I h1 h2=>?_)) (fun h=>?_))
  ·rw[r4 I h1 h2,h1] at h;simp at h
  ·have h0:mTxF t=0:=by simpa using h
   refine Y.eqb (QjJ (Jk h0)) ?_;by_cases hl:(Qu t).length<=300
   ·rw[if_pos hl]
    refine Y.some ⟨fun hh=>⟨h0,by simpa using hh⟩,fun I h1 h2=>?_⟩
    obtain rfl:=r4 I h1 h2;show (t,decide (Qu t=s))=_
    rw[aLE h2]
   ·rw[if_neg hl]
    refine Y.some (hno _ fun I h1 h2=>?_)
    obtain rfl:=r4 I h1 h2;rw[h2] at hl;exact hl hs
theorem Qfv (k:Int) (n:Nat) (h0:0<=k) (h1:k<((10 ^ n:Nat):Int)) (I:1<=n):(Lib.itoa k).length<=n:=by
 obtain⟨m,rfl⟩:=aLA h0;rw[Jo,Lib.decDigits_length];exact QdO n m (by omega) I
theorem Qpg (w:List UInt8) (n:Nat) (hw:w.length<BIG):Y (Qr w (n:Int)) (fun r=>∀k,0<=k->k<=9999999->w=Lib.itoa k->(Lib.itoa k).length<=n->r=(k,true)):=by
 obtain⟨r,h1,_⟩:=Qja w (n:Int) hw;refine⟨r,h1,fun k h0 h9 hk I=>?_⟩
 rw[hk,Qg7 h0 h9 n I] at h1;exact (aMu h1).symm
theorem QrW {l:List (Int×Int)} (I:l ≠ []) (h:∀r,r ∈ l->mRef r=true):cuts 43 (Lib.join (l.map wRef) [43])=l.map wRef:=by
 refine Qak 43 _ (fun e=>I (List.map_eq_nil_iff.1 e)) fun w hw=>?_
 obtain⟨r,J,rfl⟩:=List.mem_map.1 hw;exact Qnx (h r J) 43 (by decide) (by decide)
theorem Qv8 (s:List UInt8) (hs:s.length<=300):Y (QfB s) (fun x=>x.1.length<=301/\∀l,l ≠ []->(∀r,r ∈ l->mRef r=true)->Lib.join (l.map wRef) [43]=s->x=(l,true)):=by
 have hB:BIG=4611686018427387904:=rfl
 unfold QfB;refine Y.eqb (JI s 43 (by unfold LIM;omega)) ?_
 obtain⟨rs,hrs⟩:∃rs,rs=cuts 43 s:=⟨_,rfl⟩;rw[<-hrs];have hrl:rs.length<=301:=by rw[hrs];have:=J1 43 s;omega
 have hrw:∀w,w ∈ rs->w.length<=300:=fun w hw=>by rw[hrs] at hw;have:=Qcd 43 _ w hw;omega
 have hrc:∀l,l ≠ []->(∀r,r ∈ l->mRef r=true)->Lib.join (l.map wRef) [43]=s->rs=l.map wRef:=fun l h1 h2 h3=>by
  rw[hrs,<-h3];exact QrW h1 h2
 refine Y.bind (Q:=fun (r:List (Int×Int)⊕(List (Int×Int)×Bool))=>match r with
   | .inl x=>x.length<=301/\∀l,l ≠ []->(∀r,r ∈ l->mRef r=true)->Lib.join (l.map wRef) [43]=s->x=l
   | .inr x=>x=([],false)/\∀l,l ≠ []->(∀r,r ∈ l->mRef r=true)->Lib.join (l.map wRef) [43]=s->False) ?_ (fun r J=>?_)
 ·refine Y.loop (fun n (st:List (Int×Int)×Int)=>∃i:Nat,st.2=(i:Int)/\i<=rs.length/\n=rs.length - i/\st.1.length=i/\∀l,l ≠ []->(∀r,r ∈ l->mRef r=true)->Lib.join (l.map wRef) [43]=s->st.1=l.take i) (fun n st hI=>?_) rs.length _ ⟨0,rfl,by omega,by omega,rfl,fun l _ _ _=>rfl⟩
  obtain⟨i,hi,hle,hnn,hac,U⟩:=hI;obtain⟨acc,i'⟩:=st;have hi:i'=(i:Int):=hi
  subst hi;have hac:acc.length=i:=hac
  refine Y.bif (fun h1=>?_) (fun h1=>Y.some ⟨by show acc.length<=_;omega,fun l h2 h3 h4=>?_⟩)
  ·have I:i<rs.length:=by simp at h1;omega
   have hg:List.getD rs (Int.toNat (i:Int)) []=rs[i]:=Qa rs i _ I
   have hwl:=hrw _ (aLl I)
   rw[hg];have hpc:∀l,l ≠ []->(∀r,r ∈ l->mRef r=true)->Lib.join (l.map wRef) [43]=s->∃J:i<l.length,mRef l[i]=true/\cuts 58 rs[i]=[Lib.itoa l[i].1,Lib.itoa l[i].2]:=fun l h2 h3 h4=>by
    have hm:=hrc l h2 h3 h4
    have J:i<l.length:=by rw[hm] at I;simpa using I
    have e:rs[i]=wRef l[i]:=by rw[List.getElem_of_eq hm I];simp
    have hok:=h3 _ (aLl J)
    exact⟨J,hok,by rw[e];exact QuG hok⟩
   refine Y.grd (Qb _ i I) (Y.eqb (JI _ 58 (by unfold LIM;omega)) (Y.bif (fun h5=>Y.some ⟨rfl,fun l h2 h3 h4=>?_⟩) (fun h5=>?_)))
   ·obtain⟨_,_,e⟩:=hpc l h2 h3 h4
    rw[e] at h5;simp at h5
   ·have h2l:(cuts 58 rs[i]).length=2:=by simp at h5;omega
    have w0:=YL 58 rs[i] 0
    have w1:=YL 58 rs[i] 1
    refine Y.grd (ZT (by omega) (by omega)) (Y.bind (Qpg (List.getD (cuts 58 rs[i]) (Int.toNat 0) []) 2 (by show (List.getD (cuts 58 rs[i]) 0 []).length<_;omega)) (fun a ha=>Y.grd (ZT (by omega) (by omega)) (Y.bind (Qpg (List.getD (cuts 58 rs[i]) (Int.toNat 1) []) 1 (by show (List.getD (cuts 58 rs[i]) 1 []).length<_;omega)) (fun b hb=>?_))))
    have hab:∀l,l ≠ []->(∀r,r ∈ l->mRef r=true)->Lib.join (l.map wRef) [43]=s->∃J:i<l.length,a=(l[i].1,true)/\b=(l[i].2,true):=fun l h2 h3 h4=>by
     obtain⟨J,hok,e⟩:=hpc l h2 h3 h4;rw[QaB] at hok;refine⟨J,ha _ (by omega) (by omega) (by rw[e];rfl) (Qfv _ 2 (by omega) (by omega) (by omega)),hb _ (by omega) (by omega) (by rw[e];rfl) (Qfv _ 1 (by omega) (by omega) (by omega))⟩
    refine Y.bind (Q:=fun j=>j=true->∀l,l ≠ []->(∀r,r ∈ l->mRef r=true)->Lib.join (l.map wRef) [43]=s->False) ?_ (fun j hj=>Y.bif (fun h=>Y.some ⟨rfl,hj h⟩) (fun _=>Y.grd (Qha _ _ (by show acc.length<_;omega)) (Y.some ⟨rs.length - (i+1),by omega,i+1,wsucc I (by omega),by omega,rfl,by show (List.append acc [_]).length=_;simp[hac],fun l h2 h3 h4=>?_⟩)))
    ·refine Y.bif (fun h=>Y.some (fun _ l h2 h3 h4=>?_)) (fun h=>Y.some (fun h' l h2 h3 h4=>?_))
     ·obtain⟨_,e,_⟩:=hab l h2 h3 h4
      rw[e] at h;cases h
     ·obtain⟨_,_,e⟩:=hab l h2 h3 h4
      rw[e] at h';cases h'
    ·obtain⟨J,e1,e2⟩:=hab l h2 h3 h4
     have hc2:acc=l.take i:=U l h2 h3 h4
     show List.append acc [(a.1,b.1)]=_
     rw[e1,e2,hc2,List.take_add_one,aLf J];rfl
  ·have hge:i=rs.length:=by simp at h1;omega
   have c2:acc=l.take i:=U l h2 h3 h4
   have hkl:rs.length=l.length:=by rw[hrc l h2 h3 h4];simp
   show acc=l
   rw[c2,hge,hkl,List.take_length]
 cases r with
 | inl x=>exact Y.some ⟨J.1,fun l h2 h3 h4=>by rw[J.2 l h2 h3 h4]⟩
 | inr x=>exact Y.some ⟨by rw[J.1];simp,fun l h2 h3 h4=>(J.2 l h2 h3 h4).elim⟩
theorem Quf (s:List UInt8) (hs:s.length<=300):Y (QdS s) (TxQ s):=by
 have hB:BIG=4611686018427387904:=rfl
 have hne:=QbP 32 s
 have hlen:=J1 32 s
 have hpos:1<=(cuts 32 s).length:=by
  cases h:cuts 32 s with
  | nil=>exact absurd h hne
  | cons a l=>simp
 have J:∀I,mTxF I=0->Qu I=s->okT I/\cuts 32 s=wTx I:=fun I h1 h2=>⟨Jk h1,by rw[<-h2];exact QrC (Jk h1)⟩
 have hno:∀t:TX,(∀I,mTxF I=0->Qu I=s->False)->TxQ s (t,false):=fun t h=>⟨(fun h=>by cases h),fun I h1 h2=>(h I h1 h2).elim⟩
 unfold QdS;refine Y.eqb (JI s 32 (by unfold LIM;omega)) ?_
 obtain⟨ws,hws⟩:∃ws,ws=cuts 32 s:=⟨_,rfl⟩;rw[<-hws];rw[<-hws] at hlen hpos;simp only[<-hws] at J;have hww:∀i,(List.getD ws i []).length<=300:=fun i=>by rw[hws];have:=YL 32 s i;omega
 have hin0:inB 0 ws=true:=ZT (by omega) (by omega)
 have hw0:∀I,mTxF I=0->Qu I=s->List.getD ws (Int.toNat 0) []=kw I.1:=fun I h1 h2=>by rw[(J I h1 h2).2];rfl
 refine Y.bind (Q:=fun j=>∀I,mTxF I=0->Qu I=s->(j=true↔I.1 ≠ 0)) ?_ (fun j hj=>?_)
 ·have kk:∀I,mTxF I=0->Qu I=s->I.1=0\/I.1=1\/I.1=2:=fun I h1 h2=>by have:=(J I h1 h2).1.kind;omega
  refine Y.grd hin0 (Y.bif (fun h=>Y.some (fun I h1 h2=>?_)) (fun h=>Y.grd hin0 (Y.some (fun I h1 h2=>?_))))
  ·rw[hw0 I h1 h2] at h
   rcases kk I h1 h2 with e | e | e<;>rw[e] at h ⊢<;>simp[kw] at h ⊢
  ·rw[hw0 I h1 h2] at h ⊢
   rcases kk I h1 h2 with e | e | e<;>rw[e] at h ⊢<;>simp[kw] at h ⊢
 refine Y.bind (Q:=fun (r:(Int×TX)⊕(Bool×TX))=>match r with
   | .inl x=>(x.1=1\/x.1=2)/\x.2.2.2=([],[])/\∀I,mTxF I=0->Qu I=s->x.1=(if I.1=0 then 1 else 2)/\x.2=(I.1,I.2.1,[],[])
   | .inr x=>x.1=false/\∀I,mTxF I=0->Qu I=s->False) ?_ (fun r U=>?_)
 ·refine Y.bif (fun h=>?_) (fun h=>Y.grd hin0 (Y.bif (fun h3=>Y.some ⟨rfl,fun I h1 h2=>?_⟩) (fun h3=>Y.some ⟨.inl rfl,rfl,fun I h1 h2=>?_⟩)))
  ·refine Y.bif (fun h3=>Y.some ⟨rfl,fun I h1 h2=>?_⟩) (fun h3=>?_)
   ·have hl:2<=ws.length:=by
     rw[(J I h1 h2).2];unfold wTx;simp;omega
    simp at h3;omega
   ·have h2l:2<=ws.length:=by simp at h3;omega
    have hw1:=hww 1
    refine Y.grd (ZT (by omega) (by omega)) (Y.bind (Qpg (List.getD ws (Int.toNat 1) []) 3 (by show (List.getD ws 1 []).length<_;omega)) (fun m hm=>?_))
    have hmc:∀I,mTxF I=0->Qu I=s->m=(I.2.1,true):=fun I h1 h2=>by
     obtain⟨ho,hw⟩:=J I h1 h2;have hmm:=ho.mem
     have h0:=(hj I h1 h2).1 h
     exact hm _ (by omega) (by omega) (by rw[hw];unfold wTx;rw[if_neg h0];rfl) (Qfv _ 3 (by omega) (by omega) (by omega))
    refine Y.bif (fun h4=>Y.some ⟨rfl,fun I h1 h2=>?_⟩) (fun h4=>?_)
    ·rw[hmc I h1 h2] at h4;cases h4
    ·refine Y.grd hin0 (Y.bind (Q:=fun (x:TX)=>x.2.2=([],[])/\∀I,mTxF I=0->Qu I=s->x.1=I.1) ?_ (fun x hx=>Y.some ⟨.inr rfl,by show x.2.2=_;exact hx.1,fun I h1 h2=>⟨?_,?_⟩⟩))
     ·have kk:∀I,mTxF I=0->Qu I=s->I.1=1\/I.1=2:=fun I h1 h2=>by have:=(J I h1 h2).1.kind;have:=(hj I h1 h2).1 h;omega
      refine Y.bif (fun h5=>Y.some ⟨rfl,fun I h1 h2=>?_⟩) (fun h5=>Y.some ⟨rfl,fun I h1 h2=>?_⟩)
      ·rw[hw0 I h1 h2] at h5
       rcases kk I h1 h2 with e | e<;>rw[e] at h5 ⊢
       simp[kw] at h5
      ·rw[hw0 I h1 h2] at h5
       rcases kk I h1 h2 with e | e<;>rw[e] at h5 ⊢
       simp[kw] at h5
     ·rw[if_neg ((hj I h1 h2).1 h)]
     ·show (x.1,m.1,x.2.2)=_
      rw[hx.1,hx.2 I h1 h2,hmc I h1 h2]
  ·have h0:I.1=0:=by
    by_cases e:I.1=0
    ·exact e
    ·rw[(hj I h1 h2).2 e] at h;cases h
   rw[hw0 I h1 h2,h0] at h3;simp[kw] at h3
  ·have h0:I.1=0:=by
    by_cases e:I.1=0
    ·exact e
    ·rw[(hj I h1 h2).2 e] at h;cases h
   have hmm:=(J I h1 h2).1.mem
   rw[if_pos h0,h0,show I.2.1=0 by omega]
   exact⟨rfl,rfl⟩
 cases r with
 | inr x=>exact Y.some (by obtain⟨b,t⟩:=x;have h1:b=false:=U.1;subst h1;exact hno _ U.2)
 | inl x=>
  obtain⟨at',xk,xm,xi,xo⟩:=x;obtain⟨hat,hx0,hxc⟩:=U;have hx0:(xi,xo)=([],[]):=hx0
  simp only[aLe] at hx0;obtain⟨e1,e2⟩:=hx0;subst e1 e2;obtain⟨a,ha,ha12⟩:∃a:Nat,at'=(a:Int)/\(a=1\/a=2):=by
   have hat:at'=1\/at'=2:=hat
   rcases hat with rfl | rfl
   ·exact⟨1,rfl,.inl rfl⟩
   ·exact⟨2,rfl,.inr rfl⟩
  subst ha;have hxc:∀I,mTxF I=0->Qu I=s->(a:Int)=(if I.1=0 then 1 else 2)/\(xk,xm,([]:List (Int×Int)),([]:List TOut))=(I.1,I.2.1,[],[]):=hxc
  have htl:∀I,mTxF I=0->Qu I=s->ws.drop a=Lib.join (I.2.2.1.map wRef) [43]::I.2.2.2.map wOut:=fun I h1 h2=>by
   rw[(J I h1 h2).2];have:=(hxc I h1 h2).1
   unfold wTx;by_cases h0:I.1=0
   ·rw[if_pos h0] at this ⊢
    obtain rfl:a=1:=by omega
    rfl
   ·rw[if_neg h0] at this ⊢
    obtain rfl:a=2:=by omega
    rfl
  simp only[Sum.elim_inl];have hwr:wrap .i64 ((a:Int)+2)=((a+2:Nat):Int):=by rw[Qy (by omega) (by omega)];omega
  have hwr1:wrap .i64 ((a:Int)+1)=((a+1:Nat):Int):=by rw[Qy (by omega) (by omega)];omega
  rw[hwr,hwr1];refine Y.bif (fun h3=>Y.some (hno _ fun I h1 h2=>?_)) (fun h3=>?_)
  ·have:=(J I h1 h2).1.lo
   have h4:(ws.drop a).length=1+I.2.2.2.length:=by rw[htl I h1 h2];simp;omega
   rw[aLz] at h4;simp at h3;omega
  have hal:a+2<=ws.length:=by simp at h3;omega
  have hwa:=hww a
  refine Y.grd (Qb ws a (by omega)) (Y.bind (Qv8 _ (by show (List.getD ws (Int.toNat (a:Int)) []).length<=_;rw[aMd];exact hwa)) (fun ins hins=>?_))
  have hic:∀I,mTxF I=0->Qu I=s->ins=(I.2.2.1,true):=fun I h1 h2=>by
   have ho:=(J I h1 h2).1
   refine hins.2 _ (fun e=>?_) ho.ref ?_
   ·have:=ho.li;rw[e] at this;simp at this
   ·have:List.getD ws a []=(ws.drop a).getD 0 []:=by rw[aLk,aLk,List.getElem?_drop];rfl
    rw[aMd,this,htl I h1 h2];rfl
  have how:∀i (hi:i<ws.length),(ws[i]).length<=300:=fun i hi=>by
   have:=hww i
   rwa [aLk,aLf hi] at this
  refine Y.bind (Q:=fun (r:(Bool×TX)⊕(Bool×TX))=>match r with
    | .inl x=>x.2.2.2.1.length<=301/\x.2.2.2.2.length<=301/\(∀o,o ∈ x.2.2.2.2->o.2.1.length<=301)/\∀I,mTxF I=0->Qu I=s->x=(true,I)
    | .inr x=>x.1=false/\∀I,mTxF I=0->Qu I=s->False) ?_ (fun r U=>?_)
  ·refine Y.loop (fun n (st:Bool×Int×TX)=>∃i:Nat,st.2.1=((a+1+i:Nat):Int)/\a+1+i<=ws.length/\n=ws.length - (a+1+i)/\st.2.2.2.2.1.length<=301/\st.2.2.2.2.2.length=i/\(∀o,o ∈ st.2.2.2.2.2->o.2.1.length<=301)/\∀I,mTxF I=0->Qu I=s->st.1=true/\st.2.2=(I.1,I.2.1,I.2.2.1,I.2.2.2.take i)) (fun n st hI=>?_) (ws.length - (a+1)) _ ⟨0,rfl,by omega,by omega,hins.1,rfl,(fun o ho=>nomatch ho),fun I h1 h2=>by
    have e:=hic I h1 h2
    have e2:=(hxc I h1 h2).2
    simp only[aLe] at e2;rw[e];refine⟨rfl,?_⟩;show (xk,xm,I.2.2.1,[])=_
    rw[e2.1,e2.2.1];rfl⟩
   obtain⟨i,hi,hle,hnn,hil,hac,hkl,hcomp⟩:=hI;obtain⟨ok,i',k',m',il,acc⟩:=st;have hi:i'=((a+1+i:Nat):Int):=hi
   subst hi;have hac:acc.length=i:=hac
   have hol:∀I,mTxF I=0->Qu I=s->ws.length=a+1+I.2.2.2.length:=fun I h1 h2=>by
    have h4:(ws.drop a).length=1+I.2.2.2.length:=by rw[htl I h1 h2];simp;omega
    rw[aLz] at h4;omega
   refine Y.bind (Q:=fun j=>(j=true->a+1+i<ws.length)/\(j=false->a+1+i=ws.length\/ok=false)) ?_ (fun j hj2=>?_)
   ·refine Y.bif (fun h4=>Y.some ⟨fun _=>?_,fun h5=>.inr h5⟩) (fun h4=>Y.some ⟨(fun h=>by cases h),fun _=>.inl ?_⟩)
    ·simp at h4;omega
    ·simp at h4;omega
   refine Y.bif (fun h4=>?_) (fun h4=>Y.some ⟨hil,by show acc.length<=_;omega,hkl,fun I h1 h2=>?_⟩)
   ·have hlt:=hj2.1 h4
    have hg:List.getD ws (Int.toNat ((a+1+i:Nat):Int)) []=ws[a+1+i]:=Qa ws _ _ hlt
    have hwl:=how _ hlt
    rw[hg];have hoc:∀I,mTxF I=0->Qu I=s->∃U:i<I.2.2.2.length,okO I.2.2.2[i]/\ws[a+1+i]=wOut I.2.2.2[i]:=fun I h1 h2=>by
     have h5:=hol I h1 h2
     have U:i<I.2.2.2.length:=by omega
     refine⟨U,(J I h1 h2).1.out _ (aLl U),?_⟩;have h6:(ws.drop a)[1+i]? = some ws[a+1+i]:=by rw[List.getElem?_drop,<-aMh,aLf hlt]
     rw[htl I h1 h2,Nat.add_comm 1 i,List.getElem?_cons_succ,List.getElem?_map,aLf U] at h6;simpa using h6.symm
    refine Y.grd (Qb _ _ hlt) (Y.eqb (JI _ 61 (by unfold LIM;omega)) (Y.bif (fun h5=>Y.some ⟨rfl,fun I h1 h2=>?_⟩) (fun h5=>?_)))
    ·obtain⟨_,ho,e⟩:=hoc I h1 h2
     rw[e,Qql ho] at h5;simp at h5
    ·have h2l:(cuts 61 ws[a+1+i]).length=2:=by simp at h5;omega
     have w0:=YL 61 ws[a+1+i] 0
     have w1:=YL 61 ws[a+1+i] 1
     have hsl:(swp 95 32 (List.getD (cuts 61 ws[a+1+i]) (Int.toNat 1) [])).length<=300:=by
      unfold swp;rw[aMH];show (List.getD (cuts 61 ws[a+1+i]) 1 []).length<=_;omega
     refine Y.grd (ZT (by omega) (by omega)) (Y.bind (Qpg (List.getD (cuts 61 ws[a+1+i]) (Int.toNat 0) []) 7 (by show (List.getD (cuts 61 ws[a+1+i]) 0 []).length<_;omega)) (fun v hv=>Y.grd (ZT (by omega) (by omega)) (Y.eqb (QtE _ 95 32 (by show (List.getD (cuts 61 ws[a+1+i]) 1 []).length<=_;omega)) (Y.bind (Qtr _ (by omega)) (fun r U=>?_)))))
     have hvr:∀I,mTxF I=0->Qu I=s->∃U:i<I.2.2.2.length,v=(I.2.2.2[i].1,true)/\r=(I.2.2.2[i].2,true):=fun I h1 h2=>by
      obtain⟨hr',ho,e⟩:=hoc I h1 h2;have ec:cuts 61 ws[a+1+i]=[Lib.itoa I.2.2.2[i].1,QB I.2.2.2[i].2 [95]]:=by rw[e];exact Qql ho
      have hv1:=ho.1
      refine⟨hr',hv _ (by omega) (by omega) (by rw[ec];rfl) (Qfv _ 7 (by omega) (by omega) (by omega)),U.2 _ ho.2 ?_⟩
      rw[ec];exact (QqJ (Yq ho.2) Qrj).symm
     refine Y.bind (Q:=fun j=>∀I,mTxF I=0->Qu I=s->j=true) ?_ (fun j hj3=>?_)
     ·refine Y.bif (fun h6=>Y.some (fun I h1 h2=>?_)) (fun h6=>Y.some (fun I h1 h2=>?_))
      ·obtain⟨_,_,e⟩:=hvr I h1 h2;rw[e]
      ·obtain⟨_,e,_⟩:=hvr I h1 h2;rw[e] at h6;cases h6
     ·refine Y.grd (Qha _ _ (by show acc.length<_;omega)) (Y.some ⟨ws.length - (a+1+(i+1)),by omega,i+1,?_,by omega,rfl,hil,by show (List.append acc [_]).length=_;simp[hac],fun o ho=>?_,fun I h1 h2=>⟨hj3 I h1 h2,?_⟩⟩)
      ·show wrap .i64 (((a+1+i:Nat):Int)+1)=_
       rw[wsucc hlt (by omega)];rfl
      ·rcases aMi.1 (show o ∈ acc++[(v.1,r.1)] from ho) with ho | ho
       ·exact hkl o ho
       ·rw[aLs] at ho;subst ho
        have:=U.1
        show r.1.1.length<=_
        omega
      ·obtain⟨hr',e1,e2⟩:=hvr I h1 h2
       have hc2:=(hcomp I h1 h2).2
       simp only[aLe] at hc2;show (k',m',il,List.append acc [(v.1,r.1)])=_
       rw[e1,e2,hc2.1,hc2.2.1,hc2.2.2.1,hc2.2.2.2,List.take_add_one,aLf hr'];rfl
   ·obtain⟨c1,c2⟩:=hcomp I h1 h2
    have c1':ok=true:=c1
    rcases hj2.2 h4 with h5 | h5
    ·have h6:=hol I h1 h2
     obtain rfl:i=I.2.2.2.length:=by omega
     rw[List.take_length] at c2;have c2:(k',m',il,acc)=I:=c2
     show (ok,k',m',il,acc)=_
     rw[c1',c2]
    ·rw[c1'] at h5;cases h5
  cases r with
  | inr x=>exact Y.some (by obtain⟨b,t⟩:=x;have h1:b=false:=U.1;subst h1;exact hno _ U.2)
  | inl x=>
   obtain⟨r1,r2,r3,r4⟩:=U;have hb:bT x.2:=⟨by omega,by omega,fun o ho=>by have:=r3 o ho;omega⟩
   refine Y.bind (Q:=fun (y:Bool×TX)=>TxQ s (y.2,y.1)) ?_ (fun y hy=>Y.some hy)
   refine Y.bif (fun h=>Y.eqb (QbU x.2 hb) (Y.bif (fun h3=>?_) (fun h3=>Y.some (hno _ fun I h1 h2=>?_)))) (fun h=>Y.some (hno _ fun I h1 h2=>?_))
   ·have h0:mTxF x.2=0:=by simpa using h3
    refine Y.eqb (QjL (Jk h0)) (Y.bif (fun h4=>Y.some ⟨fun _=>⟨h0,by simpa using h4⟩,fun I h1 h2=>?_⟩) (fun h4=>Y.some (hno _ fun I h1 h2=>?_)))
    ·show (x.2,decide ((s.length:Int)<=300))=_
     rw[r4 I h1 h2,aLE (by omega)]
    ·rw[r4 I h1 h2] at h4
     simp[h2] at h4
   ·rw[r4 I h1 h2] at h3
    simp[h1] at h3
   ·rw[r4 I h1 h2] at h;cases h
open Classical in
noncomputable def rdTx (s:List UInt8):Option TX:=if h:∃t,mTxF t=0/\Qu t=s then some h.choose else none
theorem Qke {s:List UInt8} {t:TX} (h:rdTx s=some t):mTxF t=0/\Qu t=s:=by
 unfold rdTx at h;split at h
 ·rename_i hh
  cases h;exact hh.choose_spec
 ·cases h
theorem Qt9 {s:List UInt8} (h:rdTx s=none) (t:TX) (h1:mTxF t=0) (h2:Qu t=s):False:=by
 unfold rdTx at h;split at h
 ·cases h
 ·rename_i hh;exact hh ⟨t,h1,h2⟩
theorem QvI {s:List UInt8} {x:TX×Bool} (h:TxQ s x):(∀t,rdTx s=some t->x=(t,true))/\(rdTx s=none->x.2=false):=by
 refine⟨fun t I=>h.2 t (Qke I).1 (Qke I).2,fun U=>?_⟩
 cases J:x.2 with
 | false=>rfl
 | true=>exact (Qt9 U _ (h.1 J).1 (h.1 J).2).elim
structure okL (l:TL):Prop where
 n1:l.1.length<=60
 n2:l.2.length<=120
 txt:∀s,s ∈ l.1->1<=s.length/\s.length<=300
theorem Qaz {l:TL} (h:mLF l=0):okL l:=by
 unfold mLF at h;split at h
 ·cases h
 ·rename_i h1
  simp only[aMC,aLF,not_or] at h1;refine⟨by omega,by omega,fun s J=>?_⟩
  by_cases h2:code (mTx l.1) l.1=0
  ·obtain⟨i,hi,rfl⟩:=aMe.1 J
   have I:=YI h2 i _ (aLf hi)
   unfold mTx at I;cases h3:mIn (l.1[i].length:Int) 1 300 with
   | false=>rw[h3] at I;simp at I
   | true=>rw[Qz] at h3;omega
  ·rw[if_neg h2] at h;exact absurd h h2
def noT:TX:=(0,(0,([],[])))
noncomputable def mTI (l:TL) (id:Int):TX×Int:=if mIn id 1 (l.1.length:Int) then (match rdTx (List.getD l.1 (Int.toNat (wrap .i64 (id - 1))) []) with | some t=>(t,0) | none=>(noT,5)) else (noT,3)
theorem QkJ {l:TL} (h:okL l) (i:Nat):(List.getD l.1 i []).length<=300:=by
 rw[aLk];cases I:l.1[i]? with
 | none=>simp
 | some s=>exact (h.txt s (List.mem_of_getElem? I)).2
theorem Qpe {l:TL} (h:okL l) {id:Int} (hi:mIn id 1 (l.1.length:Int)=true):inB (wrap .i64 (id - 1)) l.1=true:=by
 rw[Qz] at hi;have:=h.n1
 rw[Qy (by omega) (by omega)]
 exact ZT (by omega) (by omega)
theorem Qk7 {l:TL} (h:okL l) (id:Int):JQ l id=some (mTI l id):=by
 unfold JQ YS Qbf mTI;rw[Zt];simp only[aLc];cases hi:mIn id 1 (l.1.length:Int) with
 | false=>rfl
 | true=>
  simp only[aMa,aLC,Qpe h hi,aLB,aLc,aMc,if_true];obtain⟨x,J,U⟩:=Qu7 _ (QkJ h (Int.toNat (wrap .i64 (id - 1))));obtain⟨r1,r2⟩:=QvI U;rw[J,aLc];cases I:rdTx (List.getD l.1 (Int.toNat (wrap .i64 (id - 1))) []) with
  | none=>rw[r2 I];rfl
  | some t=>rw[r1 t I];rfl
theorem Qk6 {l:TL} (h:mLF l=0) (id:Int):Qex l id=some ((mTI l id).2,(mTI l id).1):=by
 have ho:=Qaz h
 have hB:BIG=4611686018427387904:=rfl
 unfold Qex QcG Qgp Qf8 mTI;rw[Qam l (by have:=ho.n1;omega) (by have:=ho.n2;omega),aLc,h,Zn]
 simp only[aMc,aMa,aLC,aLc];cases hi:mIn id 1 (l.1.length:Int) with
 | false=>rfl
 | true=>
  simp only[aMa,aLC,Qpe ho hi,aLB,aLc,aMc,if_true];obtain⟨x,J,U⟩:=Quf _ (QkJ ho (Int.toNat (wrap .i64 (id - 1))));obtain⟨r1,r2⟩:=QvI U;rw[J,aLc];cases I:rdTx (List.getD l.1 (Int.toNat (wrap .i64 (id - 1))) []) with
  | none=>rw[r2 I];rfl
  | some t=>rw[r1 t I];rfl
theorem Qhz {l:TL} {id:Int} (h:(mTI l id).2=0):mTxF (mTI l id).1=0:=by
 unfold mTI at h ⊢;split
 ·rename_i h1
  rw[if_pos h1] at h;split
  ·rename_i t I;exact (Qke I).1
  ·rename_i I;rw[I] at h;cases h
 ·rename_i h1;rw[if_neg h1] at h;cases h
theorem QrI (n k:Nat) (hk:k<=n) (f:Int×Int->Option ((Int×Int)⊕Int))
  (J:∀lo hi:Nat,lo<hi->hi<=n->f ((lo:Int),(hi:Int))=some (.inl (if (lo+hi) / 2<k then ((((lo+hi) / 2+1:Nat):Int),(hi:Int)) else ((lo:Int),(((lo+hi) / 2:Nat):Int)))))
  (he:∀lo:Nat,f ((lo:Int),(lo:Int))=some (.inr (lo:Int))):Qc f (0,(n:Int))=some (k:Int):=by
 have key:∀(d lo hi:Nat),hi - lo<=d->lo<=k->k<=hi->hi<=n->Qc f ((lo:Int),(hi:Int))=some (k:Int):=by
  intro d;induction d with
  | zero=>
   intro lo hi h1 h2 h3 h4;obtain rfl:lo=k:=by omega
   obtain rfl:lo=hi:=by omega
   exact Qe (he lo)
  | succ d I=>
   intro lo hi h1 h2 h3 h4;by_cases h:lo<hi
   ·rw[Qo (J lo hi h h4)]
    by_cases hm:(lo+hi) / 2<k
    ·rw[if_pos hm];exact I _ _ (by omega) (by omega) h3 h4
    ·rw[if_neg hm];exact I _ _ (by omega) h2 (by omega) (by omega)
   ·obtain rfl:lo=hi:=by omega
    obtain rfl:lo=k:=by omega
    exact Qe (he lo)
 exact key n 0 n (by omega) (by omega) hk (by omega)
theorem Qtp {lo hi:Nat} (h:lo+hi<4611686018427387904):wrap .i64 (Int.fdiv (wrap .u64 (wrap .i64 ((lo:Int)+(hi:Int)))) (2 ^ 1))=(((lo+hi) / 2:Nat):Int):=by
 rw[Qy (n:=(lo:Int)+(hi:Int)) (by omega) (by omega)]
 have e:wrap .u64 ((lo:Int)+(hi:Int))=(lo:Int)+(hi:Int):=by
  simp[wrap,IntKind.bits,IntKind.signed];omega
 rw[e];have I:Int.fdiv ((lo:Int)+(hi:Int)) (2 ^ 1)=(((lo+hi) / 2:Nat):Int):=by
  rw[Int.fdiv_eq_ediv_of_nonneg _ (by decide)]
  show ((lo:Int)+(hi:Int)) / 2=_
  omega
 rw[I];exact Qy (by omega) (by omega)
theorem QlV (n:Nat) (p:Nat->Bool) (hm:∀i j,i<=j->j<n->p j=true->p i=true):∃k,k<=n/\(∀i,i<k->p i=true)/\(∀i,k<=i->i<n->p i=false):=by
 induction n with
 | zero=>exact⟨0,by omega,fun i hi=>by omega,fun i h1 h2=>by omega⟩
 | succ n ih=>
  obtain⟨k,h1,h2,h3⟩:=ih fun i j I hj=>hm i j I (by omega)
  by_cases U:p n=true
  ·refine⟨n+1,by omega,fun i hi=>hm i n (by omega) (by omega) U,fun i h4 h5=>by omega⟩
  ·refine⟨k,by omega,h2,fun i h4 h5=>?_⟩
   by_cases J:i=n
   ·subst J;simpa using U
   ·exact h3 i h4 (by omega)
theorem QcX {a b c:Int×Int} (h1:Qv a b=true) (h2:Qv b c=true):Qv a c=true:=by
 unfold Qv at *;split at h1<;>split at h2<;>split<;>simp at *<;>omega
theorem ZM (a:Int×Int):Qv a a=false:=by unfold Qv;simp
theorem Qlo {a b:Int×Int} (h:Qv a b=true):Qv b a=false:=by
 cases h2:Qv b a with
 | false=>rfl
 | true=>have:=QcX h h2;rw[ZM] at this;cases this
theorem Qkt {a b:Int×Int} (h1:Qv a b=false) (h2:Qv b a=false):a=b:=by
 obtain⟨I,a2⟩:=a;obtain⟨J,U⟩:=b;unfold Qv at *;simp only at h1 h2;by_cases h:I=J
 ·rw[if_pos h] at h1;rw[if_pos h.symm] at h2
  simp at h1 h2;rw[h,show a2=U by omega]
 ·rw[if_neg h] at h1;rw[if_neg (fun e=>h e.symm)] at h2
  simp at h1 h2;omega
theorem Qp2 (a b:Int×Int):decide (QfN a b<0)=Qv a b:=by
 have:=Qmg a b
 cases h:Qv a b with
 | false=>rw[h] at this;simp at this ⊢;omega
 | true=>rw[h] at this;simp at this ⊢;omega
theorem QtQ (a b:Int×Int):decide (QfN a b=0)=decide (a=b):=by
 obtain⟨I,a2⟩:=a;obtain⟨J,U⟩:=b;unfold QfN mCmp;refine decide_eq_decide.2 ?_;simp only[aLe];by_cases h1:I<J
 ·simp[h1];omega
 ·by_cases h2:J<I
  ·simp[h1,h2];omega
  ·by_cases h3:a2<U
   ·simp[h1,h2,h3];omega
   ·by_cases h4:U<a2
    ·simp[h1,h2,h3,h4];omega
    ·simp[h1,h2,h3,h4];omega
def Rise (l:List TCoin):Prop:=l.Pairwise fun a b=>Qv a.1 b.1=true
theorem Jb {l:List TCoin} (h:Q9 l=0):Rise l:=by
 unfold Q9 at h;by_cases J:(40:Int)<(l.length:Int)
 ·rw[if_pos J] at h;cases h
 ·rw[if_neg J] at h
  have step:∀i (hi:i+1<l.length),Qv (l[i]'(by omega)).1 l[i+1].1=true:=fun i hi=>by
   have I:=YI h (i+1) _ (aLf hi)
   unfold QhQ at I;cases h1:mRef l[i+1].1&&mIn l[i+1].2.2.1 0 999 with
   | false=>rw[h1] at I;simp at I
   | true=>
    rw[h1,if_pos rfl] at I;by_cases h2:mOut l[i+1].2.1=0
    ·rw[if_pos h2,Nat.add_sub_cancel,aLk,aLf (by omega:i<l.length)] at I
     cases h3:Qv (l[i]'(by omega)).1 l[i+1].1 with
     | true=>rfl
     | false=>
      simp only[Option.getD_some] at I;simp[h3] at I
    ·rw[if_neg h2] at I;exact absurd I h2
  unfold Rise;rw[List.pairwise_iff_getElem];intro i j hi hj U;obtain⟨d,rfl⟩:∃d,j=i+1+d:=⟨j - (i+1),by omega⟩
  induction d with
  | zero=>exact step i hj
  | succ d ih=>exact QcX (ih (by omega) (by omega)) (step (i+1+d) hj)
theorem Qb8 {l:List TCoin} (h:Rise l) {i j:Nat} (I:i<j) (hj:j<l.length):Qv (l[i]'(by omega)).1 l[j].1=true:=List.pairwise_iff_getElem.1 h i j (by omega) hj I
theorem QlA {l:List TCoin} (h:Rise l) {a b:TCoin} (I:a ∈ l) (hb:b ∈ l) (he:a.1=b.1):a=b:=by
 obtain⟨i,hi,rfl⟩:=aMe.1 I;obtain⟨j,hj,rfl⟩:=aMe.1 hb;rcases Nat.lt_trichotomy i j with h1 | h1 | h1
 ·have:=Qb8 h h1 hj;rw[he,ZM] at this;cases this
 ·subst h1;rfl
 ·have:=Qb8 h h1 hi;rw[he,ZM] at this;cases this
theorem QgY {l:List TCoin} (hr:Rise l) (hl:l.length<=1000000) (r:Int×Int):∃k:Nat,Yg l r=some ((k:Int),decide (∃h:k<l.length,(l[k]'h).1=r))/\((∃h:k<l.length,(l[k]'h).1=r)\/∀x,x ∈ l->x.1 ≠ r):=by
 obtain⟨k,h1,h2,h3⟩:=QlV l.length (fun i=>Qv (List.getD l i dC).1 r) (fun i j hij hj hp=>by
  rcases aMg i j with h | h
  ·have hi:i<l.length:=by omega
   have:=Qb8 hr h hj
   have e1:List.getD l i dC=l[i]:=by rw[aLk,aLf hi];rfl
   have e2:List.getD l j dC=l[j]:=by rw[aLk,aLf hj];rfl
   simp only[e1,e2] at hp ⊢;exact QcX this hp
  ·obtain rfl:i=j:=by omega
   exact hp)
 have I:∀i (hi:i<l.length),List.getD l i dC=l[i]:=fun i hi=>by rw[aLk,aLf hi];rfl
 refine⟨k,?_,?_⟩
 ·unfold Yg Za
  have hcmp:∀(x:TCoin),((Qa2 x r).bind fun r7=>some r7)=some (QfN x.1 r):=fun x=>by
   unfold Qa2;rw[Qdy];rfl
  simp only[hcmp,aLc];rw[QrI l.length k h1 _ (fun lo hi hlo hhi=>?_) (fun lo=>by simp only[Int.lt_irrefl,aMD,aLC]),aLc]
  ·by_cases hk:k<l.length
   ·have hd:List.getD l (Int.toNat (k:Int)) dC=l[k]:=by rw[aMd];exact I k hk
    rw[dlt hk,aLB,Qb l k hk,aLB];show some ((k:Int),decide (QfN (List.getD l (Int.toNat (k:Int)) dC).1 r=0))=_
    rw[hd,QtQ];congr 2;exact decide_eq_decide.2 ⟨fun h=>⟨hk,h⟩,fun ⟨_,h⟩=>h⟩
   ·have hf:decide (∃h:k<l.length,(l[k]'h).1=r)=false:=aLD (fun ⟨h,_⟩=>hk h)
    rw[dge' (by omega),aLC,aLc,hf];rfl
  ·have hm:=Qtp (lo:=lo) (hi:=hi) (by omega)
   have J:(lo+hi) / 2<l.length:=by omega
   simp only[hm];rw[aLE (by omega),aLB,Qb l _ J,aLB]
   have hd:List.getD l (Int.toNat (((lo+hi) / 2:Nat):Int)) ((0,0),((0,([],(0,0))),(0,false)))=l[(lo+hi) / 2]:=by rw[aMd];exact I _ J
   rw[hd,Qp2,wsucc J (by unfold BIG;omega)]
   by_cases U:(lo+hi) / 2<k
   ·have:=h2 _ U
    rw[I _ J] at this;rw[this,if_pos U];rfl
   ·have:=h3 _ (by omega) J
    rw[I _ J] at this;rw[this,if_neg U];rfl
 ·by_cases hf:∃h:k<l.length,(l[k]'h).1=r
  ·exact .inl hf
  ·refine .inr fun x hx he=>hf ?_
   obtain⟨i,hi,rfl⟩:=aMe.1 hx;have hik:¬i<k:=fun h=>by
    have:=h2 i h
    rw[I i hi,he,ZM] at this;cases this
   refine⟨by omega,?_⟩
   rcases aMg k i with h | h
   ·have h4:=Qb8 hr h hi
    have h5:=h3 k (aMb _) (by omega)
    rw[I k (by omega)] at h5
    rw[he] at h4;rw[h4] at h5;cases h5
   ·obtain rfl:i=k:=by omega
    exact he
theorem Qll (l:List Int) (I:l.length<=LIM):ZP l=some l:=by
 unfold ZP;rw[JF I,aLB];cases l with
 | nil=>exact Qd0 _
 | cons a l=>rfl
theorem QjW (o:TOut) (h:o.2.1.length<=1000000):QcT o=some o:=by
 unfold QcT Qgk;rw[Qll _ (by unfold LIM;omega)];rfl
theorem Yj (l:List TCoin) (J:l.length<=1000000) (hk:∀x,x ∈ l->x.2.1.2.1.length<=1000000):ZA l=some l:=by
 unfold ZA;rw[Zx (σ:=List TCoin) l (fun acc a=>acc++[a]) (fun t i=>(t,i)) (fun t=>t) (fun t i=>t.length=i) _ (fun i hi t I=>by
   refine⟨?_,by simp[I]⟩
   simp only[dlt hi,Qb _ i hi,Qa _ i _ hi,aLB,QjW _ (hk _ (aLl hi)),aLc,wsucc hi (by unfold BIG;omega)]
   rw[Qj (by simp only[aLh,aLj];unfold LIM;omega)];rfl) (fun t I=>by simp only[dge,aLC]) [] rfl,aLc,foldl_map (fun a=>a),List.map_id',aLx]
theorem QaQ (l:List TCoin) (J:l.length<=1000000) (hk:∀x,x ∈ l->x.2.1.2.1.length<=1000000):Ya l=some l:=by
 unfold Ya;have h2:∀r:TRu,r.1.length<=1000000->J2 r=some r:=fun r U=>by
  unfold J2;rw[JF (by unfold LIM;omega)];rfl
 rw[Zx (σ:=List TCoin) l (fun acc a=>acc++[a]) (fun t i=>(t,i)) (fun t=>t) (fun t i=>t.length=i) _ (fun i hi t I=>by
   refine⟨?_,by simp[I]⟩
   simp only[dlt hi,Qb _ i hi,Qa _ i _ hi,aLB,h2 _ (hk _ (aLl hi)),aLc,wsucc hi (by unfold BIG;omega)]
   rw[Qj (by simp only[aLh,aLj];unfold LIM;omega)];rfl) (fun t I=>by simp only[dge,aLC]) [] rfl,aLc,foldl_map (fun a=>a),List.map_id',aLx]
def mSp (c:List TCoin) (t:TX):List TCoin:=c.filter fun x=>decide (x.1 ∈ t.2.2.1)
theorem Zz {c:List TCoin} (h:Q9 c=0):∀x,x ∈ c->x.2.1.2.1.length<=1000000:=fun x I=>by
 have:=(Yq ((Zf h).2 x I).rule).len;omega
theorem Qel {c:List TCoin} (h:Q9 c=0) (t:TX) (J:t.2.2.1.length<=1000000):Jp c t=some (mSp c t,decide ((mSp c t).length=t.2.2.1.length)):=by
 have U:=(Zf h).1
 unfold Jp mSp;rw[Zx (σ:=List TCoin) c (fun acc a=>if decide (a.1 ∈ t.2.2.1) then acc++[a] else acc) (fun t i=>(t,i)) (fun t=>t) (fun t i=>t.length<=i) _ (fun i hi x I=>by
   refine⟨?_,by split<;>(try simp only[aLi,aLh,aLj])<;>omega⟩
   simp only[dlt hi,Qb _ i hi,Qa _ i _ hi,aLB,Qef t.2.2.1 (by unfold BIG;omega),aLc,wsucc hi (by unfold BIG;omega)]
   rw[Qj (by simp only[aLh,aLj];unfold LIM;omega)]
   cases decide (c[i].1 ∈ t.2.2.1)<;>rfl) (fun t J=>by simp only[dge,aLC]) [] (aMb _),aLc,foldl_filter,aLx]
 rw[QaQ _ (by have:=aME (fun x:TCoin=>decide (x.1 ∈ t.2.2.1)) c;omega) (fun x I=>Zz h x (aMv.1 I).1),aLc]
 congr 2;exact decide_eq_decide.2 (by omega)
theorem Qjz {c xs ys:List TCoin} (hc:Rise c) (hx:∀x,x ∈ xs->x ∈ c) (hp:ys.Perm xs) (hy:Rise ys) (hl:xs.length<=1000000):J6 xs=some ys:=by
 unfold J6 Jj;have hg:∀a b:TCoin,((YA a b).bind fun J=>some J)=some (QfN a.1 b.1):=fun a b=>by
  unfold YA;rw[Qdy];rfl
 have I:∀a b:TCoin,Qdd (fun a b=>(YA a b).bind fun J=>some J) a b=Qv a.1 b.1:=fun a b=>by
  unfold Qdd;simp only[hg];exact Qp2 a.1 b.1
 have U:QiM (fun a b=>(YA a b).bind fun J=>some J) xs:=by
  refine⟨fun a _ b _=>⟨_,hg a b⟩,fun a _=>by rw[I];exact ZM _,fun a _ b _ d _ h1 h2=>?_,fun a _ b _ d _ h1 h2=>?_,fun a ha b hb h1 h2=>?_,by omega⟩
  ·rw[I] at h1 h2 ⊢;exact QcX h1 h2
  ·rw[I] at h1 h2 ⊢
   cases h3:Qv a.1 d.1 with
   | false=>rfl
   | true=>
    cases h4:Qv d.1 b.1 with
    | true=>have:=QcX h3 h4;rw[h1] at this;cases this
    | false=>
     have e:=Qkt h2 h4
     rw[e] at h1;rw[h3] at h1;cases h1
  ·rw[I] at h1 h2
   exact QlA hc (hx a ha) (hx b hb) (Qkt h1 h2)
 have hss:Sorts (fun a b=>(YA a b).bind fun J=>some J) xs ys:=⟨hp,List.Pairwise.imp (fun {a b} h=>by rw[I];exact Qlo h) hy⟩
 rw[Qux U hss];rfl
def atC (c:List TCoin) (r:Int×Int):Option TCoin:=c.find? fun x=>decide (x.1=r)
theorem Qf9 {c:List TCoin} {r:Int×Int} {x:TCoin} (h:atC c r=some x):x ∈ c/\x.1=r:=⟨List.mem_of_find?_eq_some h,by simpa using List.find?_some h⟩
theorem QtL {c:List TCoin} (J:Rise c) {x:TCoin} (I:x ∈ c):atC c x.1=some x:=by
 cases h:atC c x.1 with
 | none=>
  unfold atC at h;rw[List.find?_eq_none] at h;exact absurd (by simp) (h x I)
 | some y=>
  obtain⟨h1,h2⟩:=Qf9 h;rw[QlA J h1 I h2]
theorem Qve {c:List TCoin} {r:Int×Int} (h:∀x,x ∈ c->x.1 ≠ r):atC c r=none:=by
 unfold atC;rw[List.find?_eq_none];intro x I;simpa using h x I
theorem QrA {c:List TCoin} (I:Rise c) (rs:List (Int×Int)) (J:rs.Nodup):(c.filter fun x=>decide (x.1 ∈ rs)).Perm (rs.filterMap (atC c)):=by
 have n1:(c.filter fun x=>decide (x.1 ∈ rs)).Nodup:=by
  rw[List.nodup_iff_pairwise_ne];exact List.Pairwise.sublist List.filter_sublist (List.Pairwise.imp (fun {a b} h e=>by rw[e,ZM] at h;cases h) I)
 have n2:(rs.filterMap (atC c)).Nodup:=by
  rw[List.nodup_iff_pairwise_ne,List.pairwise_filterMap];rw[List.nodup_iff_pairwise_ne] at J;refine List.Pairwise.imp (fun {a b} h x U y hy e=>h ?_) J
  rw[<-(Qf9 U).2,<-(Qf9 hy).2,e]
 refine (List.perm_ext_iff_of_nodup n1 n2).2 fun x=>?_
 rw[aMv,List.mem_filterMap];constructor
 ·rintro ⟨h1,h2⟩
  exact⟨x.1,aLG h2,QtL I h1⟩
 ·rintro ⟨r,h1,h2⟩
  obtain⟨h3,h4⟩:=Qf9 h2;exact⟨h3,aLE (h4 ▸ h1)⟩
theorem Qbx {c:List TCoin} (I:Rise c) (p:TCoin->Bool):Rise (c.filter p):=List.Pairwise.sublist List.filter_sublist I
theorem Qgm {c:List TCoin} (h:Q9 c=0) (t:TX) (ht:okT t):Qar c t=some (if (mSp c t).length=t.2.2.1.length then (mSp c t,0) else ([],4)):=by
 have hl:=(Zf h).1
 have U:=Jb h
 have hp:=QrA U t.2.2.1 ht.nd
 have hli:=ht.li
 have J:∀r:Int×Int,∃k:Int,∃b,Yg c r=some (k,b)/\(b=true->∃x,atC c r=some x/\inB k c=true/\List.getD c (Int.toNat k) ((0,0),((0,([],(0,0))),(0,false)))=x)/\(b=false->atC c r=none):=fun r=>by
  obtain⟨k,hk,hor⟩:=QgY U (by omega) r
  refine⟨k,_,hk,fun hb=>?_,fun hb=>?_⟩
  ·obtain⟨h1,h2⟩:=aLG hb
   exact⟨c[k],by rw[<-h2];exact QtL U (aLl h1),Qb c k h1,Qa c k _ h1⟩
  ·rcases hor with h1 | h1
   ·exact absurd h1 (aLH hb)
   ·exact Qve h1
 have loop:∀(f:List TCoin×Int->Option ((List TCoin×Int)⊕(List TCoin⊕(List TCoin×Int)))),
   (∀(i:Nat) (hi:i<t.2.2.1.length) (acc:List TCoin),acc.length<=i->f (acc,(i:Int))=some (match atC c t.2.2.1[i] with | some x=>.inl (acc++[x],((i+1:Nat):Int)) | none=>.inr (.inr ([],4))))->(∀acc,f (acc,(t.2.2.1.length:Int))=some (.inr (.inl acc)))->
   Qc f ([],0)=some (if (mSp c t).length=t.2.2.1.length then .inl (t.2.2.1.filterMap (atC c)) else .inr ([],4)):=by
  intro f hs he;have key:∀(k i:Nat) (acc:List TCoin),i+k=t.2.2.1.length->acc.length<=i->Qc f (acc,(i:Int))=some (if ((t.2.2.1.drop i).filterMap (atC c)).length=k then .inl (acc++(t.2.2.1.drop i).filterMap (atC c)) else .inr ([],4)):=by
   intro k;induction k with
   | zero=>
    intro i acc hi ha;obtain rfl:i=t.2.2.1.length:=by omega
    rw[Qe (he acc)];simp
   | succ k ih=>
    intro i acc hi ha;have hlt:i<t.2.2.1.length:=by omega
    have h1:=hs i hlt acc ha
    rw[aLr hlt];have hle:=List.length_filterMap_le (atC c) (t.2.2.1.drop (i+1))
    rw[aLz] at hle;cases I:atC c t.2.2.1[i] with
    | none=>
     rw[I] at h1;rw[Qe h1,List.filterMap_cons_none I,if_neg (by omega)]
    | some x=>
     rw[I] at h1;rw[Qo h1,ih (i+1) _ (by omega) (by simp;omega),List.filterMap_cons_some I]
     by_cases hk:((t.2.2.1.drop (i+1)).filterMap (atC c)).length=k
     ·rw[if_pos hk,if_pos (by simp;omega)];simp
     ·rw[if_neg hk,if_neg (by simp;omega)]
  have:=key t.2.2.1.length 0 [] (by omega) (by simp)
  rw[aMt,aLx,<-hp.length_eq] at this;exact this
 unfold Qar;rw[loop _ (fun i hi acc ha=>?_) (fun acc=>by simp only[dge,aLC]),aLc]
 ·by_cases hlen:(mSp c t).length=t.2.2.1.length
  ·rw[if_pos hlen,if_pos hlen]
   have hm:∀x,x ∈ t.2.2.1.filterMap (atC c)->x ∈ c:=fun x I=>by
    obtain⟨r,_,h2⟩:=List.mem_filterMap.1 I;exact (Qf9 h2).1
   have hfl:=List.length_filterMap_le (atC c) t.2.2.1
   rw[Sum.elim_inl,Yj _ (by omega) (fun x I=>Zz h x (hm x I)),aLc,Qjz U hm hp (Qbx U _) (by omega)]
   rfl
  ·rw[if_neg hlen,if_neg hlen];rfl
 ·obtain⟨k,b,e1,e2,e3⟩:=J t.2.2.1[i]
  simp only[dlt hi,Qb _ i hi,Qa _ i _ hi,aLB,e1,aLc,wsucc hi (by unfold BIG;omega)]
  cases b with
  | false=>rw[e3 rfl];rfl
  | true=>
   obtain⟨x,h1,h2,h3⟩:=e2 rfl;rw[h1,h2,h3];simp only[aMa,aLC,aLB];rw[Qj (by simp only[aLh,aLj];unfold LIM;omega)];rfl
def mCnt (l:TL) (ks:List Int) (id:Int):Int:=ks.foldl (fun n k=>if decide ((k,id) ∈ l.2) then wrap .i64 (n+1) else n) 0
def mMet (l:TL) (r:TRu) (id h:Int):Int:=if h<r.2.2 then 9 else if mCnt l r.1 id<r.2.1 then 6 else 0
theorem Qog {l:TL} (I:okL l) (k id:Int):Z5 l k id=some (decide ((k,id) ∈ l.2)):=by
 unfold Z5;rw[Qh1 _ (by have:=I.n2;unfold BIG;omega)];rfl
theorem QrM {l:TL} (I:okL l) (k id:Int):Qb6 l k id=some (decide ((k,id) ∈ l.2)):=by
 unfold Qb6;rw[Qic _ (by have:=I.n2;unfold BIG;omega)];rfl
theorem QtW {l:TL} (I:okL l) (r:TRu) (J:r.1.length<BIG) (id h:Int):JX l r id h=some (mMet l r id h):=by
 unfold JX mMet;by_cases h1:h<r.2.2
 ·rw[aLE h1,if_pos h1];rfl
 ·rw[aLD h1,if_neg h1,aLC]
  rw[Zx (σ:=Int) r.1 (fun n k=>if decide ((k,id) ∈ l.2) then wrap .i64 (n+1) else n) (fun t i=>(t,i)) (fun t=>t) (fun _ _=>True) _ (fun i hi x U=>by
    refine⟨?_,trivial⟩;simp only[dlt hi,Qb _ i hi,Qa _ i _ hi,aLB,Qog I,aLc,wsucc hi J];cases decide ((r.1[i],id) ∈ l.2)<;>rfl) (fun t ht=>by simp only[dge,aLC]) 0 trivial,aLc]
  show (bif decide (mCnt l r.1 id<r.2.1) then some (6:Int) else some 0)=_
  by_cases h2:mCnt l r.1 id<r.2.1
  ·rw[aLE h2,if_pos h2];rfl
  ·rw[aLD h2,if_neg h2];rfl
theorem QvM {l:TL} (I:okL l) (r:TRu) (J:r.1.length<BIG) (id h:Int):QfX l r id h=some (mMet l r id h):=by
 unfold QfX mMet;by_cases h1:h<r.2.2
 ·rw[aLE h1,if_pos h1];rfl
 ·rw[aLD h1,if_neg h1,aLC]
  rw[Zx (σ:=Int) r.1 (fun n k=>if decide ((k,id) ∈ l.2) then wrap .i64 (n+1) else n) (fun t i=>(t,i)) (fun t=>t) (fun _ _=>True) _ (fun i hi x U=>by
    refine⟨?_,trivial⟩;simp only[dlt hi,Qb _ i hi,Qa _ i _ hi,aLB,QrM I,aLc,wsucc hi J];cases decide ((r.1[i],id) ∈ l.2)<;>rfl) (fun t ht=>by simp only[dge,aLC]) 0 trivial,aLc]
  show (bif decide (mCnt l r.1 id<r.2.1) then some (6:Int) else some 0)=_
  by_cases h2:mCnt l r.1 id<r.2.1
  ·rw[aLE h2,if_pos h2];rfl
  ·rw[aLD h2,if_neg h2];rfl
def Qjo (x:TCoin) (h:Int):Bool:=!x.2.2.2 || decide (wrap .i64 (x.2.2.1+2)<=h)
theorem Qvd (x:TCoin) (h:Int):Qe1 x h=some (Qjo x h):=by
 unfold Qe1 Qjo;cases x.2.2.2<;>rfl
theorem QuI (x:TCoin) (h:Int) (h1:mIn x.2.2.1 0 999=true) (h2:mIn h 0 999=true):QeW x h=some (Qjo x h):=by
 unfold QeW Qjo;rw[Qbc,Qbc,h1,h2];cases x.2.2.2<;>rfl
def mSum (l:List TCoin):Int:=l.foldl (fun n x=>wrap .i64 (n+x.2.1.1)) 0
def Qe9 (l:List TOut):Int:=l.foldl (fun n x=>wrap .i64 (n+x.1)) 0
theorem QrP (l:List TCoin) (I:l.length<BIG):Qf2 l=some (mSum l)/\Qfz l=some (mSum l):=by
 constructor
 ·unfold Qf2
  rw[Zx (σ:=Int) l (fun n x=>wrap .i64 (n+x.2.1.1)) (fun t i=>(t,i)) (fun t=>t) (fun _ _=>True) _ (fun i hi x J=>by
    refine⟨?_,trivial⟩;simp only[dlt hi,Qb _ i hi,Qa _ i _ hi,aLB,aLc,wsucc hi I]) (fun t U=>by simp only[dge,aLC]) 0 trivial,aLc];rfl
 ·unfold Qfz
  rw[Zx (σ:=Int) l (fun n x=>wrap .i64 (n+x.2.1.1)) (fun t i=>(t,i)) (fun t=>t) (fun _ _=>True) _ (fun i hi x J=>by
    refine⟨?_,trivial⟩;simp only[dlt hi,Qb _ i hi,Qa _ i _ hi,aLB,aLc,wsucc hi I]) (fun t U=>by simp only[dge,aLC]) 0 trivial,aLc];rfl
theorem Qqi (t:TX) (I:t.2.2.2.length<BIG):QeM t=some (Qe9 t.2.2.2)/\QfG t=some (Qe9 t.2.2.2):=by
 constructor
 ·unfold QeM
  rw[Zx (σ:=Int) t.2.2.2 (fun n x=>wrap .i64 (n+x.1)) (fun t i=>(t,i)) (fun t=>t) (fun _ _=>True) _ (fun i hi x J=>by
    refine⟨?_,trivial⟩;simp only[dlt hi,Qb _ i hi,Qa _ i _ hi,aLB,aLc,wsucc hi I]) (fun t U=>by simp only[dge,aLC]) 0 trivial,aLc];rfl
 ·unfold QfG
  rw[Zx (σ:=Int) t.2.2.2 (fun n x=>wrap .i64 (n+x.1)) (fun t i=>(t,i)) (fun t=>t) (fun _ _=>True) _ (fun i hi x J=>by
    refine⟨?_,trivial⟩;simp only[dlt hi,Qb _ i hi,Qa _ i _ hi,aLB,aLc,wsucc hi I]) (fun t U=>by simp only[dge,aLC]) 0 trivial,aLc];rfl
def mC1 (l:TL) (id h:Int) (x:TCoin):Int:=if Qjo x h then mMet l x.2.1.2 id h else 9
def Qph (l:TL) (sp:List TCoin) (t:TX) (id:Int):Int×Int:=if t.1=2/\(t.2.1,id) ∉ l.2 then (0,6) else if wrap .i64 (mSum sp - Qe9 t.2.2.2)<0 then (0,8) else (wrap .i64 (mSum sp - Qe9 t.2.2.2),0)
def Qi6 (l:TL) (c:List TCoin) (t:TX) (id h:Int):Int×Int:=if (mSp c t).length=t.2.2.1.length then (if code (fun _=>mC1 l id h) (mSp c t)=0 then Qph l (mSp c t) t id else (0,code (fun _=>mC1 l id h) (mSp c t))) else (0,4)
def mId (l:TL) (s:List UInt8):Int:=idxF (fun a=>decide (a=s)) l.1+1
def mChk (l:TL) (c:List TCoin) (t:TX) (h:Int):Int×Int:=if (Qu t).length<=300 then (if mId l (Qu t)=0 then (0,4) else Qi6 l c t (mId l (Qu t)) h) else (0,2)
theorem Qmj {α R:Type} (l:List α) (c:α->Int) (f:Int->Option (Int⊕(Unit⊕(Int×Int))))
  (I:∀(i:Nat) (h:i<l.length),f (i:Int)=some (if c l[i]=0 then .inl ((i+1:Nat):Int) else .inr (.inr (0,c l[i])))) (he:f (l.length:Int)=some (.inr (.inl ()))) (A:Unit->Option R) (B:Int×Int->Option R) :
  ((Qc f 0).bind fun j=>Sum.elim A B j)=if code (fun _=>c) l=0 then A () else B (0,code (fun _=>c) l):=by
 rw[JA l (fun i a=>(if c a=0 then none else some (c a)).map fun v=>((0:Int),v)) f (fun i h=>by rw[I i h];by_cases J:c l[i]=0<;>simp[J]) he,Qjq,Qaf]
 by_cases h0:code (fun _=>c) l=0
 ·rw[if_pos h0]
  have U:=YI h0
  have:first (fun (_:Nat) a=>if c a=0 then none else some (c a)) 0 l=none:=(Qei l 0).2 (fun j a ha=>by rw[if_pos (U j a ha)])
  rw[this];rfl
 ·rw[if_neg h0]
  unfold code at h0 ⊢;cases hf:first (fun (_:Nat) a=>if c a=0 then none else some (c a)) 0 l with
  | none=>rw[hf] at h0;exact absurd rfl h0
  | some r=>rfl
theorem QkI {c:List TCoin} {t:TX} {x:TCoin} (h:x ∈ mSp c t):x ∈ c:=(aMv.1 h).1
theorem Qjg {l:TL} (t:TX) (id:Int) (g:Int->Int->Option Bool) (I:g t.2.1 id=some (decide ((t.2.1,id) ∈ l.2))):(bif decide (t.1=2) then (g t.2.1 id).bind fun y=>some (!y) else some false)=some (decide (t.1=2/\(t.2.1,id) ∉ l.2)):=by
 rw[I];by_cases h1:t.1=2<;>by_cases h2:(t.2.1,id) ∈ l.2<;>simp[h1,h2]
theorem QmY {l:TL} (U:okL l) {c:List TCoin} (I:Q9 c=0) {t:TX} (ht:okT t) (id h:Int):QbW l c t id h=some (Qi6 l c t id h):=by
 have hB:BIG=4611686018427387904:=rfl
 have hcl:=(Zf I).1
 have hspl:(mSp c t).length<=c.length:=aME _ c
 unfold QbW Qi6;rw[Qel I t (by have:=ht.li;omega),aLc]
 by_cases h1:(mSp c t).length=t.2.2.1.length
 ·simp only[h1,aMc,aMa,aLC,if_true]
  rw[Qmj (mSp c t) (mC1 l id h) _ (fun i hi=>?_) (by rw[<-h1];simp only[dge,aLC])]
  ·by_cases h2:code (fun _=>mC1 l id h) (mSp c t)=0
   ·rw[if_pos h2,if_pos h2,Qjg (l:=l) t id (Qb6 l) (QrM U _ _),aLc,(QrP _ (by omega)).2,(Qqi t ht.b.outs).2]
    unfold Qph;by_cases h3:t.1=2/\(t.2.1,id) ∉ l.2
    ·rw[aLE h3,if_pos h3];rfl
    ·rw[aLD h3,if_neg h3]
     simp only[aLC,aLc];by_cases h4:wrap .i64 (mSum (mSp c t) - Qe9 t.2.2.2)<0
     ·rw[aLE h4,if_pos h4];rfl
     ·rw[aLD h4,if_neg h4];rfl
   ·rw[if_neg h2,if_neg h2]
  ·have hr:(mSp c t)[i].2.1.2.1.length<BIG:=by have:=Zz I _ (QkI (aLl hi));omega
   have J:i<t.2.2.1.length:=by omega
   simp only[dlt J,Qb _ i hi,Qa _ i _ hi,aLB,Qvd,QvM U _ hr,aLc,wsucc hi (by omega)]
   unfold mC1;cases Qjo (mSp c t)[i] h
   ·rfl
   ·by_cases h3:mMet l (mSp c t)[i].2.1.2 id h=0
    ·rw[aLE h3];simp[h3]
    ·rw[aLD h3];simp[h3]
 ·simp only[h1,aMD,aMB,aLB,if_false]
theorem Qm9 {l:TL} (hl:mLF l=0) {c:List TCoin} (J:Q9 c=0) {t:TX} (U:mTxF t=0) {h:Int} (hh:mIn h 0 999=true):QdN l c t h=some ((mChk l c t h).2,if (mChk l c t h).2=0 then (mChk l c t h).1 else 0):=by
 have hB:BIG=4611686018427387904:=rfl
 have I:=Qaz hl
 have hcl:=(Zf J).1
 unfold QdN mChk;rw[Qam l (by have:=I.n1;omega) (by have:=I.n2;omega),Qao c (by omega) (fun x hx=>by have:=Zz J x hx;omega),QbU t (Jk U).b,Qc2,QoN U]
 simp only[hl,J,U,hh,aMc,aMa,aLC,aLc];by_cases h1:(Qu t).length<=300
 ·rw[if_pos h1,if_pos h1]
  simp only[aMc,aMa,aLC];rw[Qlf _ (by have:=I.n1;omega),aLc]
  show (bif decide (mId l (Qu t)=0) then some ((4:Int),(0:Int)) else _)=_
  by_cases h2:mId l (Qu t)=0
  ·rw[aLE h2,if_pos h2];rfl
  ·rw[aLD h2,if_neg h2,aLC]
   show ((QbW l c t (mId l (Qu t)) h).bind _)=_
   rw[QmY I J (Jk U),aLc];by_cases h3:(Qi6 l c t (mId l (Qu t)) h).2=0
   ·rw[aLE h3,if_pos h3,h3];rfl
   ·rw[aLD h3,if_neg h3];rfl
 ·rw[if_neg h1,if_neg h1];rfl
theorem Qv3 (l:List (List UInt8)) (x:List UInt8):idxF (fun a=>decide (x=a)) l=idxF (fun a=>decide (a=x)) l:=by
 congr 1
 funext a
 exact decide_eq_decide.2 ⟨Eq.symm,Eq.symm⟩
theorem QwF {α:Type} (p:α->Bool) (l:List α):-1<=idxF p l/\idxF p l<l.length:=by
 cases h:l.any p with
 | false=>
  have h1:=(QiP p l).1 ((Qfm p l).2 h)
  rw[h1];omega
 | true=>
  obtain⟨k,hk,e,_⟩:=Qa6 h;rw[e];omega
theorem QwT {l:TL} (I:okL l) (s:List UInt8):Qbe l s=some (mId l s):=by
 unfold Qbe mId;have h1:=I.n1
 rw[Qlm _ (by unfold BIG;omega),aLc,Qv3]
 have:=QwF (fun a=>decide (a=s)) l.1
 rw[Qy (by omega) (by omega)]
theorem Qnz {l:TL} (J:okL l) {c:List TCoin} (I:Q9 c=0) {t:TX} (U:okT t) {h:Int} (hh:mIn h 0 999=true):J0 l c t h=some (mChk l c t h):=by
 have hB:BIG=4611686018427387904:=rfl
 have hcl:=(Zf I).1
 have hspl:(mSp c t).length<=c.length:=aME _ c
 unfold J0 mChk;rw[QjJ U,aLc];by_cases h1:(Qu t).length<=300
 ·rw[if_pos h1,if_pos h1]
  simp only[aMc,aMa,aLC];rw[QwT J,aLc];by_cases h2:mId l (Qu t)=0
  ·rw[aLE h2,if_pos h2];rfl
  ·rw[aLD h2,if_neg h2,aLC,Qgm I t U,aLc]
   generalize mId l (Qu t)=id;unfold Qi6;by_cases h3:(mSp c t).length=t.2.2.1.length
   ·rw[if_pos h3,if_pos h3]
    simp only[aMc,aMa,aLC];rw[Qmj (mSp c t) (mC1 l id h) _ (fun i hi=>?_) (by simp only[dge,aLC])]
    ·by_cases h2:code (fun _=>mC1 l id h) (mSp c t)=0
     ·rw[if_pos h2,if_pos h2,(QrP _ (by omega)).1,(Qqi t U.b.outs).1,aLc,aLc,Qjg (l:=l) t id (Z5 l) (Qog J _ _),aLc]
      unfold Qph;by_cases h3:t.1=2/\(t.2.1,id) ∉ l.2
      ·rw[aLE h3,if_pos h3];rfl
      ·rw[aLD h3,if_neg h3]
       simp only[aLC,aLc];by_cases h4:wrap .i64 (mSum (mSp c t) - Qe9 t.2.2.2)<0
       ·rw[aLE h4,if_pos h4];rfl
       ·rw[aLD h4,if_neg h4];rfl
     ·rw[if_neg h2,if_neg h2]
    ·have hx:=(Zf I).2 _ (QkI (aLl hi))
     have hr:(mSp c t)[i].2.1.2.1.length<BIG:=by have:=Zz I _ (QkI (aLl hi));omega
     simp only[dlt hi,Qb _ i hi,Qa _ i _ hi,aLB,QuI _ h (Qz.2 hx.height) hh,QtW J _ hr,aLc,wsucc hi (by omega)]
     unfold mC1;cases Qjo (mSp c t)[i] h
     ·rfl
     ·by_cases h3:mMet l (mSp c t)[i].2.1.2 id h=0
      ·rw[aLE h3];simp[h3]
      ·rw[aLD h3];simp[h3]
   ·rw[if_neg h3,if_neg h3];rfl
 ·rw[if_neg h1,if_neg h1];rfl
end GL
end Go.Dx
set_option maxHeartbeats 2000000
namespace Go.Dx
theorem Qvs {α:Type} (l:List α) (d:α) (p:α->Bool) (f:List α×Int×Int->Option ((List α×Int×Int)⊕(List α×Int)))
  (hs:∀(X:List α) (j i:Nat) (h:i<X.length),X.length=l.length->j<=i->f (X,(j:Int),(i:Int))=some (.inl (if p X[i] then (X,(j:Int),((i+1:Nat):Int)) else (X.set j X[i],((j+1:Nat):Int),((i+1:Nat):Int)))))
  (he:∀(X:List α) (j:Nat),X.length=l.length->f (X,(j:Int),(l.length:Int))=some (.inr (X,(j:Int)))) :
  ∀(k j i:Nat) (X:List α),i+k=l.length->j<=i->X.length=l.length->X.take j=(l.take i).filter (fun a=>!p a)->X.drop i=l.drop i->
   ∃(X':List α) (j':Nat),Qc f (X,(j:Int),(i:Int))=some (X',(j':Int))/\X'.length=l.length/\j'<=l.length/\X'.take j'=l.filter (fun a=>!p a):=by
 intro k;induction k with
 | zero=>
  intro j i X hi hj I ht hd;obtain rfl:i=l.length:=by omega
  exact⟨X,j,Qe (he X j I),I,hj,by rw[ht,List.take_length]⟩
 | succ k ih=>
  intro j i X hi hj I ht hd;have h:i<X.length:=by omega
  have h':i<l.length:=by omega
  have hx:X[i]=l[i]:=by
   rw[aLr h,aLr h'] at hd;exact (List.cons.inj hd).1
  have J:X.drop (i+1)=l.drop (i+1):=by
   rw[<-List.drop_drop,<-List.drop_drop,hd]
  have U:(l.take (i+1)).filter (fun a=>!p a)=(l.take i).filter (fun a=>!p a)++[l[i]].filter (fun a=>!p a):=by
   rw[aMl h',List.filter_append]
  rw[Qo (hs X j i h I hj)];rw[hx];cases hp:p l[i] with
  | true=>
   rw[if_pos rfl];refine ih j (i+1) X (by omega) (by omega) I ?_ J
   rw[U,ht];simp[hp]
  | false=>
   rw[if_neg (by simp)]
   refine ih (j+1) (i+1) (X.set j l[i]) (by omega) (by omega) (by simpa using I) ?_ ?_
   ·rw[U,<-ht]
    have hj2:j<(X.set j l[i]).length:=by rw[List.length_set];omega
    rw[aMl hj2,List.take_set_of_le (aMb _)];simp[hp]
   ·rw[List.drop_set_of_lt (by omega),J]
theorem QpI {α β:Type} (l:List α) (p:α->Bool) (k:Nat) (hk:k<l.length) (I:(l.take (k+1)).filter (fun a=>!p a)=l.take k) (f:List α×Int×Int->Option ((List α×Int×Int)⊕(List α×Int))) (G:List α×Int->Option β) (r:β)
  (hs:∀(X:List α) (j i:Nat) (h:i<X.length),X.length=l.length->j<=i->f (X,(j:Int),(i:Int))=some (.inl (if p X[i] then (X,(j:Int),((i+1:Nat):Int)) else (X.set j X[i],((j+1:Nat):Int),((i+1:Nat):Int)))))
  (he:∀(X:List α) (j:Nat),X.length=l.length->f (X,(j:Int),(l.length:Int))=some (.inr (X,(j:Int))))
  (hG:∀(J:List α) (U:Nat),J.length=l.length->U<=l.length->J.take U=l.filter (fun a=>!p a)->G (J,(U:Int))=some r) :
  (Qc f (l,(k:Int),((k+1:Nat):Int))).bind G=some r:=by
 obtain⟨J,U,e1,e2,e3,e4⟩:=Qvs l l[k] p f hs he (l.length - (k+1)) k (k+1) l (by omega) (by omega) rfl I.symm rfl
 rw[e1,aLc];exact hG J U e2 e3 e4
namespace GL
open IntKind Sum
abbrev TMb:=Int×Int×Int
theorem QhS (l:List TMb) (I:l.length<BIG) (p:TMb->Bool) (f:TMb->Option Bool) (J:∀a,a ∈ l->f a=some (p a)):QV l f=some (idxF p l):=by
 unfold QV;refine Yy l p _ (fun i h=>?_) (by simp only[dge,aLC])
 simp only[dlt h,Qb l i h,Qa l i _ h,aLB,J _ (aLl h),aLc,wsucc h I];cases p l[i]<;>rfl
theorem QlX (l:List TMb) (hl:l.length<BIG) (p:TMb->Bool) (f:TMb->Option Bool) (hf:∀a,f a=some (p a)):Zb l f=some (l.filter (fun a=>!p a)):=by
 unfold Zb;rw[QhS l hl p f (fun a _=>hf a),aLc]
 cases I:l.any p with
 | false=>
  have h1:idxF p l = -1:=(QiP p l).1 ((Qfm p l).2 I)
  rw[h1];simp only[aMc,aLB];congr 1;refine (aMG.2 fun a ha=>?_).symm
  rw[aMI] at I;simpa using I a ha
 | true=>
  obtain⟨k,hk,h1,h2,h3⟩:=Qa6 I;rw[h1,aLD (by omega:¬(k:Int) = -1),aLC,wsucc hk hl]
  have hpre:(l.take (k+1)).filter (fun a=>!p a)=l.take k:=by
   rw[aMl hk,List.filter_append];have e1:(l.take k).filter (fun a=>!p a)=l.take k:=aMG.2 fun a ha=>by
    obtain⟨j,hj,rfl⟩:=aMe.1 ha;rw[aLn] at hj;simp only[aMw];rw[h3 j (by omega)];rfl
   rw[e1];simp[h2]
  refine QpI l p k hk hpre _ _ _ (fun X j i h hX hj=>?_) (fun X j hX=>by rw[<-hX];simp only[dge,aLC]) (fun J U e2 e3 e4=>?_)
  ·have e1:decide ((i:Int)<(X.length:Int))=true:=dlt h
   simp only[e1,Qb X i h,Qa X i _ h,aLB,hf,aLc,wsucc h (by omega:X.length<BIG),Qb X j (by omega),wsucc (by omega:j<X.length) (by omega:X.length<BIG)]
   cases p X[i] with
   | true=>rfl
   | false=>simp
  have c1:QA (U:Int) (J.length:Int) J=true:=by unfold QA;simp;omega
  have hcl:clr (s:=.prod (.int .i64) (.prod (.int .i64) (.int .i64))) (U:Int) (J.length:Int) J=J.take U++(List.replicate (J.length - U) ((0,0,0):TMb)++[]):=by
   unfold clr;simp[Sh.dflt]
  have c2:QA 0 (U:Int) (clr (s:=.prod (.int .i64) (.prod (.int .i64) (.int .i64))) (U:Int) (J.length:Int) J)=true:=by
   unfold QA;rw[hcl];simp;omega
  rw[c1,c2,aLB,aLB,hcl];simp only[Int.sub_zero,aMd,Int.toNat_zero,aMt];rw[List.take_append_of_le_length (by rw[aLn];omega),List.take_take,Nat.min_self,e4]
theorem Qgx (l:List TMb) (I:l.length<BIG) (p:TMb->Bool) (f:TMb->Option Bool) (J:∀a,a ∈ l->f a=some (p a)):QL l f=some (l.any p):=by
 unfold QL;rw[QhS l I p f J,aLc,Zy]
def mMb (l:List TMb) (i:Nat) (x:TMb):Int:=if mIn x.1 1 999&&mRef x.2 then (if decide (0<i)&&decide (x.1<=(List.getD l (i - 1) (0,(0,0))).1) then 1 else 0) else 3
def mMd (l:List TMb) (i:Nat) (x:TMb):Int:=if (l.take i).any (fun y=>decide (y.2=x.2)) then 7 else 0
def mMem (l:List TMb):Int:=if (8:Int)<(l.length:Int) then 2 else if code (mMb l) l=0 then code (mMd l) l else code (mMb l) l
theorem QrL (l:List TMb) (I:l.length<BIG) (i:Nat) (h:i<l.length) (h0:0<i):inB (wrap .i64 ((i:Int) - 1)) l=true/\List.getD l (Int.toNat (wrap .i64 ((i:Int) - 1))) (0,(0,0))=List.getD l (i - 1) (0,(0,0)):=by
 obtain⟨j,rfl⟩:∃j,i=j+1:=⟨i - 1,by omega⟩
 rw[wpred (i:=j) (n:=l.length) (by omega) I]
 exact⟨Qb l j (by omega),by simp⟩
theorem Qi1 (l:List TMb) (U:l.length<BIG):QbR l=some (mMem l):=by
 unfold QbR mMem;by_cases h8:(8:Int)<(l.length:Int)
 ·rw[aLE h8,if_pos h8];rfl
 ·rw[aLD h8,if_neg h8,aLC]
  rw[JE l (mMb l) _ (fun i h=>?_) (by simp only[dge,aLC])]
  ·split
   ·refine YD l (mMd l) _ (fun i h=>?_) (by simp only[dge,aLC])
    rw[dlt h,aLB];have inner:=JA (β:=Int) (l.take i) (fun _ y=>if decide (y.2=l[i].2) then some 7 else none) (fun (I:Int)=>
 bif (decide ((I:Int)<(i:Int))) then
 bif (inB I l) then
 bif (inB (i:Int) l) then
 bif (Sh.beq (.prod (.int .i64) (.int .i64)) (List.getD l (Int.toNat I) (0,(0,0))).2 (List.getD l (Int.toNat (i:Int)) (0,(0,0))).2) then
 some (inr (inr 7))
 else
 some (inl (wrap .i64 (I+1)))
 else none
 else none
 else
 some (inr (inl ()))) (fun k hk=>by
      rw[aLn] at hk;have hk1:k<i:=by omega
      have J:k<l.length:=by omega
      simp only[aMw];rw[aLE (by omega),aLB,Qb l k J,aLB,Qb l i h,aLB,Qa l k _ J,Qa l i _ h,Qg1,wsucc J U]
      cases decide (l[k].2=l[i].2)<;>rfl) (by
      rw[aLn,Nat.min_eq_left (by omega)]
      simp only[Int.lt_irrefl,aMD,aLC])
    rw[inner,Qaf,Qfw];unfold mMd;cases (l.take i).any (fun y=>decide (y.2=l[i].2))
    ·simp only[Bool.false_eq_true,if_false,wsucc h U,if_true]
    ·simp
   ·rfl
  ·simp only[dlt h,Qb l i h,Qa l i _ h,aLB,QdK,Qf0,aLc,wsucc h U]
   unfold mMb;cases h1:mIn l[i].1 1 999<;>cases h2:mRef l[i].2<;>try rfl
   simp only[aMa,aLC,aLc,aMz,if_true];by_cases h4:0<i
   ·obtain⟨e1,e2⟩:=QrL l U i h h4
    rw[show decide ((0:Int)<(i:Int))=true by simpa using h4,aLE h4,aLB,e1,aLB,e2,aLc,aMz]
    cases decide (l[i].1<=(List.getD l (i - 1) (0,(0,0))).1)<;>rfl
   ·rw[show decide ((0:Int)<(i:Int))=false by simpa using h4,aLD h4];rfl
theorem QjY (l:List TMb) (I:l.length<BIG):QaN l=some (mMem l):=by
 unfold QaN mMem;by_cases h8:(8:Int)<(l.length:Int)
 ·rw[aLE h8,if_pos h8];rfl
 ·rw[aLD h8,if_neg h8,aLC]
  rw[JE l (mMb l) _ (fun i h=>?_) (by simp only[dge,aLC])]
  ·split
   ·refine YD l (mMd l) _ (fun i h=>?_) (by simp only[dge,aLC])
    have hc:=Qgx (l.take i) (YZ I i) (fun y=>decide (y.2=l[i].2)) (fun J=>(Jz J l[i]).bind fun U=>some U) (fun a _=>by unfold Jz;rw[Qg1];rfl)
    simp only[dlt h,Qb l i h,Qa l i _ h,ZI l i (Nat.le_of_lt h),Jq,aLB,hc,aLc,wsucc h I];unfold mMd;cases (l.take i).any (fun y=>decide (y.2=l[i].2))<;>simp
   ·rfl
  ·simp only[dlt h,Qb l i h,Qa l i _ h,aLB,QdH,QhB,aLc,wsucc h I]
   unfold mMb;cases h1:mIn l[i].1 1 999<;>cases h2:mRef l[i].2<;>try rfl
   simp only[aMa,aLC,aLc,aMz,if_true];by_cases h4:0<i
   ·obtain⟨e1,e2⟩:=QrL l I i h h4
    rw[show decide ((0:Int)<(i:Int))=true by simpa using h4,aLE h4,aLB,e1,aLB,e2,aLc,aMz]
    cases decide (l[i].1<=(List.getD l (i - 1) (0,(0,0))).1)<;>rfl
   ·rw[show decide ((0:Int)<(i:Int))=false by simpa using h4,aLD h4];rfl
def Qai (l:List TMb):Prop:=l.Pairwise fun a b=>a.1<b.1
theorem Qhy {l:List TMb} (h:Qai l) {i j:Nat} (I:i<j) (hj:j<l.length):(l[i]'(by omega)).1<l[j].1:=List.pairwise_iff_getElem.1 h i j (by omega) hj I
theorem Qkx {l:List TMb} (hr:Qai l) (hl:l.length<=1000000) (r:Int):∃k:Nat,k<=l.length/\Y7 l r=some ((k:Int),l.any fun x=>decide (x.1=r))/\((l.any fun x=>decide (x.1=r))=true->∃h:k<l.length,(l[k]'h).1=r)/\(∀i (h:i<l.length),i<k->l[i].1<r)/\(∀i (h:i<l.length),k<=i->r<=l[i].1):=by
 obtain⟨k,h1,h2,h3⟩:=QlV l.length (fun i=>decide ((List.getD l i (0,(0,0))).1<r)) (fun i j hij hj hp=>by
  rcases aMg i j with h | h
  ·have hi:i<l.length:=by omega
   have:=Qhy hr h hj
   have e1:List.getD l i (0,(0,0))=l[i]:=by rw[aLk,aLf hi];rfl
   have e2:List.getD l j (0,(0,0))=l[j]:=by rw[aLk,aLf hj];rfl
   simp only[e1,e2,aLF] at hp ⊢;omega
  ·obtain rfl:i=j:=by omega
   exact hp)
 have J:∀i (hi:i<l.length),List.getD l i (0,(0,0))=l[i]:=fun i hi=>by rw[aLk,aLf hi];rfl
 have g1:∀i (h:i<l.length),i<k->l[i].1<r:=fun i h hk=>by have:=h2 i hk;rw[J i h] at this;simpa using this
 have g2:∀i (h:i<l.length),k<=i->r<=l[i].1:=fun i h hk=>by have:=h3 i hk h;rw[J i h] at this;simpa using this
 have U:(l.any fun x=>decide (x.1=r))=decide (∃h:k<l.length,(l[k]'h).1=r):=by
  rw[Bool.eq_iff_iff,List.any_eq_true,aLF];constructor
  ·rintro ⟨x,hx,he⟩
   obtain⟨i,hi,rfl⟩:=aMe.1 hx;have he:l[i].1=r:=aLG he
   have hik:¬i<k:=fun h=>by have:=g1 i hi h;omega
   refine⟨by omega,?_⟩
   rcases aMg k i with h | h
   ·have h4:=Qhy hr h hi
    have h5:=g2 k (by omega) (aMb _)
    omega
   ·obtain rfl:i=k:=by omega
    exact he
  ·rintro ⟨h,he⟩
   exact⟨_,aLl h,aLE he⟩
 refine⟨k,h1,?_,fun h=>by rw[U] at h;exact aLG h,g1,g2⟩
 rw[U];unfold Y7 Q8;have hcmp:∀(x:TMb),((Qag x r).bind fun r7=>some r7)=some (mCmp x.1 r):=fun x=>by
  unfold Qag;rw[QgL];rfl
 simp only[hcmp,aLc];have hneg:∀a b:Int,decide (mCmp a b<0)=decide (a<b):=fun a b=>by
  unfold mCmp;refine decide_eq_decide.2 ?_;split
  ·simp;omega
  ·split<;>simp<;>omega
 have hzero:∀a b:Int,decide (mCmp a b=0)=decide (a=b):=fun a b=>by
  unfold mCmp;refine decide_eq_decide.2 ?_;split
  ·simp;omega
  ·split
   ·simp;omega
   ·simp;omega
 rw[QrI l.length k h1 _ (fun lo hi hlo hhi=>?_) (fun lo=>by simp only[Int.lt_irrefl,aMD,aLC]),aLc]
 ·by_cases hk:k<l.length
  ·have hd:List.getD l (Int.toNat (k:Int)) (0,(0,0))=l[k]:=by rw[aMd];exact J k hk
   rw[dlt hk,aLB,Qb l k hk,aLB];show some ((k:Int),decide (mCmp (List.getD l (Int.toNat (k:Int)) (0,(0,0))).1 r=0))=_
   rw[hd,hzero];congr 2;exact decide_eq_decide.2 ⟨fun h=>⟨hk,h⟩,fun ⟨_,h⟩=>h⟩
  ·have hf:decide (∃h:k<l.length,(l[k]'h).1=r)=false:=aLD (fun ⟨h,_⟩=>hk h)
   rw[dge' (by omega),aLC,aLc,hf];rfl
 ·have hm:=Qtp (lo:=lo) (hi:=hi) (by omega)
  have I:(lo+hi) / 2<l.length:=by omega
  simp only[hm];rw[aLE (by omega),aLB,Qb l _ I,aLB]
  have hd:List.getD l (Int.toNat (((lo+hi) / 2:Nat):Int)) (0,(0,0))=l[(lo+hi) / 2]:=by rw[aMd];exact J _ I
  rw[hd,hneg,wsucc I (by unfold BIG;omega)]
  by_cases hmk:(lo+hi) / 2<k
  ·rw[aLE (g1 _ I hmk),if_pos hmk];rfl
  ·have:=g2 _ I (by omega)
   rw[aLD (by omega),if_neg hmk];rfl
theorem Qes (l:List TMb) (I:l.length<=LIM):Qt l=some l:=by
 unfold Qt;rw[JF I,aLB];cases l with
 | nil=>exact Qd0 _
 | cons a l=>rfl
def mOff (l:List TMb) (t:TX):List TMb:=l.filter fun x=>!(decide (t.1=2)&&decide (x.1=t.2.1))&&!decide (x.2 ∈ t.2.2.1)
def Qjy (o:List TMb) (x:TMb):List TMb×Int:=if o.any (fun y=>decide (y.1=x.1) || decide (y.2=x.2)) then ([],7) else if 8<=o.length then ([],2) else (o.takeWhile (fun y=>decide (y.1<x.1))++[x]++o.dropWhile (fun y=>decide (y.1<x.1)),0)
def QcF (l:List TMb) (t:TX) (id:Int):List TMb×Int:=if t.1=2/\(l.any fun x=>decide (x.1=t.2.1))=false then ([],4) else if t.1=1 then Qjy (mOff l t) (t.2.1,(id,0)) else (mOff l t,0)
theorem Qk8 (l:List TMb) (I:l.length<BIG) (k:Int):QcU l k=some (idxF (fun x=>decide (x.1=k)) l):=by
 unfold QcU;refine Yy l _ _ (fun i h=>?_) (by simp only[dge,aLC])
 simp only[dlt h,Qb l i h,Qa l i _ h,aLB,wsucc h I];cases decide (l[i].1=k)<;>rfl
theorem Qip {l:List TMb} {r:Int} {k:Nat} (hk:k<=l.length) (h1:∀i (h:i<l.length),i<k->l[i].1<r) (h2:∀i (h:i<l.length),k<=i->r<=l[i].1):l.takeWhile (fun y=>decide (y.1<r))=l.take k/\l.dropWhile (fun y=>decide (y.1<r))=l.drop k:=by
 have I:∀a,a ∈ l.take k->decide (a.1<r)=true:=fun a ha=>by
  obtain⟨i,hi,rfl⟩:=aMe.1 ha;rw[aLn] at hi;simp only[aMw];exact aLE (h1 i (by omega) (by omega))
 have e:l=l.take k++l.drop k:=(List.take_append_drop k l).symm
 have hd:∀a rest,l.drop k=a::rest->decide (a.1<r)=false:=fun a rest h=>by
  have J:k<l.length:=by
   rcases aMg k l.length with U | U
   ·exact U
   ·rw[List.drop_eq_nil_of_le U] at h;cases h
  rw[aLr J] at h;have:=h2 k J (aMb _)
  rw[<-(List.cons.inj h).1];exact aLD (by omega)
 constructor
 ·conv=>lhs;rw[e]
  rw[List.takeWhile_append_of_pos I];cases hdr:l.drop k with
  | nil=>simp
  | cons a rest=>rw[List.takeWhile_cons,hd a rest hdr];simp
 ·conv=>lhs;rw[e]
  rw[List.dropWhile_append_of_pos I];cases hdr:l.drop k with
  | nil=>simp
  | cons a rest=>rw[List.dropWhile_cons,hd a rest hdr];simp
theorem QlJ {l:List TMb} (h:Qai l) (p:TMb->Bool):Qai (l.filter p):=List.Pairwise.sublist List.filter_sublist h
theorem Qod {o:List TMb} (U:Qai o) (r:Int):∃k,k<=o.length/\(∀i (h:i<o.length),i<k->o[i].1<r)/\(∀i (h:i<o.length),k<=i->r<=o[i].1):=by
 obtain⟨k,h1,h2,h3⟩:=QlV o.length (fun i=>decide ((List.getD o i (0,(0,0))).1<r)) (fun i j hij hj J=>by
  rcases aMg i j with h | h
  ·have hi:i<o.length:=by omega
   have:=Qhy U h hj
   have e1:List.getD o i (0,(0,0))=o[i]:=by rw[aLk,aLf hi];rfl
   have e2:List.getD o j (0,(0,0))=o[j]:=by rw[aLk,aLf hj];rfl
   simp only[e1,e2,aLF] at J ⊢;omega
  ·obtain rfl:i=j:=by omega
   exact J)
 have I:∀i (hi:i<o.length),List.getD o i (0,(0,0))=o[i]:=fun i hi=>by rw[aLk,aLf hi];rfl
 exact⟨k,h1,fun i h hk=>by have:=h2 i hk;rw[I i h] at this;simpa using this,fun i h hk=>by have:=h3 i hk h;rw[I i h] at this;simpa using this⟩
theorem Qo6 {o:List TMb} (hr:Qai o) (hl:o.length<=1000000) (x:TMb):QcN o x=some (Qjy o x):=by
 have hB:BIG=4611686018427387904:=rfl
 have hL:LIM=1073741824:=rfl
 unfold QcN Qjy;rw[Qk8 _ (by omega),aLc,Zy]
 have U:(o.any fun y=>decide (y.1=x.1) || decide (y.2=x.2))=((o.any fun y=>decide (y.1=x.1)) || o.any fun y=>decide (y.2=x.2)):=by
  rw[Bool.eq_iff_iff];simp only[List.any_eq_true,aMC];constructor
  ·rintro ⟨y,J,h | h⟩
   ·exact .inl ⟨y,J,h⟩
   ·exact .inr ⟨y,J,h⟩
  ·rintro (⟨y,J,h⟩ | ⟨y,J,h⟩)
   ·exact⟨y,J,.inl h⟩
   ·exact⟨y,J,.inr h⟩
 rw[U];cases ha:o.any fun y=>decide (y.1=x.1) with
 | true=>rfl
 | false=>
  rw[aLC,Bool.false_or];obtain⟨k,k1,k2,k3⟩:=Qod hr x.1;have loop:∀(f:Int×Int->Option ((Int×Int)⊕(Int⊕(List TMb×Int)))),
    (∀(i:Nat) (hi:i<o.length) (a:Int),f (a,(i:Int))=some (if decide (o[i].2=x.2) then .inr (.inr ([],7)) else .inl (if o[i].1<x.1 then ((i+1:Nat):Int) else a,((i+1:Nat):Int))))->(∀a,f (a,(o.length:Int))=some (.inr (.inl a)))->
    Qc f (0,0)=some (if o.any (fun y=>decide (y.2=x.2)) then .inr ([],7) else .inl (k:Int)):=by
   intro f hs he;have key:∀(d i:Nat),i+d=o.length->Qc f (((min i k:Nat):Int),(i:Int))=some (if (o.drop i).any (fun y=>decide (y.2=x.2)) then .inr ([],7) else .inl (k:Int)):=by
    intro d;induction d with
    | zero=>
     intro i hi;obtain rfl:i=o.length:=by omega
     rw[Qe (he _),aMr,Nat.min_eq_right k1];rfl
    | succ d ih=>
     intro i hi;have I:i<o.length:=by omega
     have h1:=hs i I ((min i k:Nat):Int)
     rw[aLr I,List.any_cons];cases hd:decide (o[i].2=x.2) with
     | true=>rw[hd,if_pos rfl] at h1;rw[Qe h1];rfl
     | false=>
      rw[hd,if_neg (by simp)] at h1
      rw[Qo h1,Bool.false_or];have e:(if o[i].1<x.1 then ((i+1:Nat):Int) else ((min i k:Nat):Int))=((min (i+1) k:Nat):Int):=by
       by_cases hik:i<k
       ·rw[if_pos (k2 i I hik)];omega
       ·have:=k3 i I (by omega)
        rw[if_neg (by omega)];omega
      rw[e];exact ih (i+1) (by omega)
   have:=key o.length 0 (by omega)
   rw[aMt,Nat.zero_min] at this;exact this
  rw[loop _ (fun i hi a=>by
   simp only[dlt hi,Qb _ i hi,Qa _ i _ hi,aLB,Qg1,wsucc hi (by omega)]
   cases decide (o[i].2=x.2)
   ·by_cases h:o[i].1<x.1
    ·rw[aLE h];simp[h]
    ·rw[aLD h];simp[h]
   ·rfl) (fun a=>by simp only[dge,aLC]),aLc]
  cases hb:o.any fun y=>decide (y.2=x.2) with
  | true=>rfl
  | false=>
   simp only[Bool.false_eq_true,if_false,Sum.elim_inl];by_cases h8:8<=o.length
   ·rw[aLE (by omega),if_pos h8];rfl
   ·obtain⟨w1,w2⟩:=Qip k1 k2 k3
    rw[aLD (by omega),if_neg h8,aLC,w1,w2]
    have c1:QA 0 (k:Int) o=true:=by unfold QA;simp;omega
    have c2:QA (k:Int) (o.length:Int) o=true:=by unfold QA;simp;omega
    have e1:cut 0 (k:Int) o=o.take k:=by unfold cut;simp
    have e2:cut (k:Int) (o.length:Int) o=o.drop k:=by
     unfold cut;rw[aMd];exact aMx (by rw[aLz];omega)
    rw[c1,aLB,e1,Qj,Qj,c2,aLB,e2,Qj]
    ·rfl
    all_goals (simp only[aLo,aLi,aLh,aLj,aLn,aLz];omega)
theorem Qnv (l:List TMb) (t:TX):(mOff l t).length<=l.length:=aME _ l
theorem QoG {l:List TMb} (hm:Qai l/\l.length<=8) {t:TX} (I:t.2.2.1.length<=1000000) (id:Int):QeP l t id=some (QcF l t id):=by
 have hB:BIG=4611686018427387904:=rfl
 have hL:LIM=1073741824:=rfl
 obtain⟨J,hl⟩:=hm;unfold QeP QcF;have U:(bif decide (t.1=2) then (QcU l t.2.1).bind fun y=>some (decide (y<0)) else some false)=some (decide (t.1=2/\(l.any fun x=>decide (x.1=t.2.1))=false)):=by
  rw[Qk8 _ (by omega),aLc,QtK]
  by_cases h1:t.1=2
  ·cases l.any fun x=>decide (x.1=t.2.1)<;>simp[h1]
  ·simp[h1]
 rw[U,aLc];by_cases h1:t.1=2/\(l.any fun x=>decide (x.1=t.2.1))=false
 ·rw[aLE h1,if_pos h1];rfl
 ·rw[aLD h1,if_neg h1,aLC]
  rw[Zx (σ:=List TMb) l (fun acc a=>if (!(decide (t.1=2)&&decide (a.1=t.2.1))&&!decide (a.2 ∈ t.2.2.1)) then acc++[a] else acc) (fun t i=>(t,i)) (fun t=>t) (fun t i=>t.length<=i) _ (fun i hi x hx=>by
    refine⟨?_,by split<;>(try simp only[aLi,aLh,aLj])<;>omega⟩
    simp only[dlt hi,Qb _ i hi,Qa _ i _ hi,aLB,Qef t.2.2.1 (by omega),aLc,wsucc hi (by omega)]
    rw[Qj (by simp only[aLh,aLj];omega)]
    cases decide (t.1=2)<;>cases decide (l[i].1=t.2.1)<;>cases decide (l[i].2 ∈ t.2.2.1)<;>rfl) (fun t I=>by simp only[dge,aLC]) [] (aMb _),aLc,foldl_filter,aLx]
  show (bif !decide (t.1=1) then some (mOff l t,(0:Int)) else (QcN (mOff l t) (t.2.1,(id,0))).bind fun y=>some (y.1,y.2))=_
  by_cases h2:t.1=1
  ·have:=Qnv l t
   rw[aLE h2,if_pos h2,aMa,aLC,Qo6 (o:=mOff l t) (QlJ J _) (by omega)];rfl
  ·rw[aLD h2,if_neg h2];rfl
theorem filter_one {l:List TMb} {p:TMb->Bool} {k:Nat} (hk:k<l.length) (h0:p l[k]=false) (h1:∀i (h:i<l.length),i ≠ k->p l[i]=true):l.filter p=l.take k++l.drop (k+1):=by
 have e:l=l.take k++l[k]::l.drop (k+1):=by rw[<-aLr hk,List.take_append_drop]
 conv=>lhs;rw[e]
 rw[List.filter_append,List.filter_cons,h0];rw[aMG.2 (fun a I=>?_),if_neg (by simp),aMG.2 (fun a I=>?_)]
 ·obtain⟨i,hi,rfl⟩:=aMe.1 I
  rw[aLz] at hi;rw[List.getElem_drop];exact h1 _ (by omega) (by omega)
 ·obtain⟨i,hi,rfl⟩:=aMe.1 I
  rw[aLn] at hi;rw[aMw];exact h1 _ (by omega) (by omega)
theorem QjZ {l:List TMb} (hm:Qai l/\l.length<=8) {t:TX} (ht:t.2.2.1.length<=1000000) {id:Int} (hid:mIn id 1 60=true):Qbo l t id=some (QcF l t id):=by
 have hB:BIG=4611686018427387904:=rfl
 have hL:LIM=1073741824:=rfl
 obtain⟨hr,hl⟩:=hm;unfold Qbo QcF;rw[Qc1,hid,aLc,Qes _ (by omega)]
 simp only[aMa,aLC,aLc];have first:∀G:(List TMb⊕(List TMb×Int))->Option (List TMb×Int),((bif decide (t.1=2) then (Y7 l t.2.1).bind fun (I:Int×Bool)=>bif !I.2 then some (inr (([]:List TMb),(4:Int))) else (QZ l I.1 (wrap .i64 (I.1+1))).bind fun J=>some (inl J) else some (inl l):Option (List TMb⊕(List TMb×Int))).bind G) =
   if t.1=2/\(l.any fun x=>decide (x.1=t.2.1))=false then G (.inr ([],4)) else G (.inl (l.filter fun x=>!(decide (t.1=2)&&decide (x.1=t.2.1)))):=fun G=>by
  by_cases h1:t.1=2
  ·obtain⟨k,k1,k2,k3,k4,k5⟩:=Qkx hr (by omega) t.2.1
   rw[aLE h1,aLB,k2,aLc];cases ha:l.any fun x=>decide (x.1=t.2.1) with
   | false=>rw[if_pos ⟨h1,rfl⟩];rfl
   | true=>
    obtain⟨hk,he⟩:=k3 ha;rw[if_neg (fun h=>by cases h.2)]
    have hdel:QZ l (k:Int) (wrap .i64 ((k:Int)+1))=some (l.filter fun x=>!(true&&decide (x.1=t.2.1))):=by
     unfold QZ delS;rw[wsucc hk (by omega),aLE (by omega),aLB]
     rw[filter_one (l:=l) (k:=k) hk (by rw[he];simp) (fun i hi hik=>by
      rcases aMg i k with h | h
      ·have:=Qhy hr h hk
       have:¬l[i].1=t.2.1:=by omega
       simp[this]
      ·have:=Qhy hr (show k<i by omega) hi
       have:¬l[i].1=t.2.1:=by omega
       simp[this])]
     simp
    show (Option.bind ((QZ l (k:Int) (wrap .i64 ((k:Int)+1))).bind fun J=>some (inl J)) G)=_
    rw[hdel];rfl
  ·rw[aLD h1,if_neg (fun h=>h1 h.1)]
   simp only[aLC,aLc,Bool.false_and,aMB];rw[aMG.2 (fun a _=>rfl)]
 rw[first]
 by_cases h1:t.1=2/\(l.any fun x=>decide (x.1=t.2.1))=false
 ·rw[if_pos h1,if_pos h1];rfl
 ·rw[if_neg h1,if_neg h1,Sum.elim_inl]
  have hfl:=aME (fun x:TMb=>!(decide (t.1=2)&&decide (x.1=t.2.1))) l
  rw[QlX _ (by omega) (fun x=>decide (x.2 ∈ t.2.2.1)) _ (fun a=>by unfold QbQ;rw[Qgf _ (by omega)];rfl),aLc,List.filter_filter]
  have eo:(l.filter fun a=>(!decide (a.2 ∈ t.2.2.1))&&!(decide (t.1=2)&&decide (a.1=t.2.1)))=mOff l t:=by
   unfold mOff;congr 1
   funext a
   rw[Bool.and_comm]
  rw[eo];by_cases h2:t.1=1
  ·rw[aLE h2,if_pos h2,aMa,aLC]
   have hol:=Qnv l t
   have U:Qai (mOff l t):=QlJ hr _
   obtain⟨k,k1,k2,k3,k4,k5⟩:=Qkx U (by omega) t.2.1
   rw[k2,aLc];rw[Qgx _ (by omega) (fun y=>decide (y.2=(id,0))) _ (fun a _=>by unfold Qcb;rw[Qg1];rfl)]
   unfold Qjy;have U:((mOff l t).any fun y=>decide (y.1=t.2.1) || decide (y.2=(id,0)))=(((mOff l t).any fun y=>decide (y.1=t.2.1)) || (mOff l t).any fun y=>decide (y.2=(id,0))):=by
    rw[Bool.eq_iff_iff];simp only[List.any_eq_true,aMC];constructor
    ·rintro ⟨y,hy,h | h⟩
     ·exact .inl ⟨y,hy,h⟩
     ·exact .inr ⟨y,hy,h⟩
    ·rintro (⟨y,hy,h⟩ | ⟨y,hy,h⟩)
     ·exact⟨y,hy,.inl h⟩
     ·exact⟨y,hy,.inr h⟩
   rw[U];cases ha:(mOff l t).any fun y=>decide (y.1=t.2.1) with
   | true=>rfl
   | false=>
    cases hb:(mOff l t).any fun y=>decide (y.2=(id,0)) with
    | true=>rfl
    | false=>
     simp only[Bool.false_or,aLC,aLc,Bool.false_eq_true,if_false];by_cases h8:8<=(mOff l t).length
     ·rw[aLE (by omega),if_pos h8];rfl
     ·obtain⟨w1,w2⟩:=Qip k1 k4 k5
      rw[aLD (by omega),if_neg h8,aLC,w1,w2]
      unfold YY insS;rw[aLE ⟨by omega,by omega,by omega,rfl⟩,aLB,aLc,aMd]
  ·rw[aLD h2,if_neg h2];rfl
def mSt (s:TState):Int:=if mIn s.1 0 60&&mIn s.2.1 0 40 then (if decide (s.1=0)=decide (s.2.1=0) then (if Q9 s.2.2.1=0 then mMem s.2.2.2 else Q9 s.2.2.1) else 1) else 3
structure bS (s:TState):Prop where
 c:s.2.2.1.length<BIG
 k:∀x,x ∈ s.2.2.1->x.2.1.2.1.length<BIG
 m:s.2.2.2.length<BIG
theorem QnL (s:TState) (h:bS s):Qd2 s=some (mSt s):=by
 unfold Qd2 mSt;simp only[Zn,Qao _ h.c h.k,Qi1 _ h.m,aLc,beqB,QN];cases mIn s.1 0 60<;>cases mIn s.2.1 0 40<;>try rfl
 simp only[aMa,aLC,aLc,aMz,if_true];by_cases h2:decide (s.1=0)=decide (s.2.1=0)
 ·rw[aLE h2,if_pos h2]
  simp only[aMa,aLC];split<;>rfl
 ·rw[aLD h2,if_neg h2];rfl
theorem Qj2 (l:List (Int×Int)) (I:l.length<BIG) (p:Int×Int->Bool) (f:Int×Int->Option Bool) (J:∀a,a ∈ l->f a=some (p a)):Zk l f=some (l.any p):=by
 unfold Zk Z3;rw[Yy l p _ (fun i h=>?_) (by simp only[dge,aLC]),aLc,Zy]
 simp only[dlt h,Qb l i h,Qa l i _ h,aLB,J _ (aLl h),aLc,wsucc h I];cases p l[i]<;>rfl
theorem Qeh (l:List Int) (I:l.length<BIG) (x:Int):Qw l x=some (decide (x ∈ l)):=by
 unfold Qw Zd;rw[Yy l (fun a=>decide (x=a)) _ (fun i h=>?_) (by simp only[dge,aLC]),aLc,Zy,any_eq]
 simp only[dlt h,Qb l i h,Qa l i _ h,aLB,wsucc h I];cases decide (x=l[i])<;>rfl
theorem Qjm {l:TL} (I:okL l) {id:Int} (h:(mTI l id).2=0):mIn id 1 60=true:=by
 unfold mTI at h;cases h1:mIn id 1 (l.1.length:Int) with
 | false=>rw[h1] at h;simp at h
 | true=>
  rw[Qz] at h1 ⊢;have:=I.n1
  omega
theorem Qrl:(BIG:Int)=4611686018427387904:=rfl
theorem wk {k:Int} (h0:0<=k) (h:k<(BIG:Int)):wrap .i64 (k+1)=k+1:=Qy (by omega) (by have:=Qrl;omega)
theorem Qa0 {β:Type} {y:Int} (h:0<=y) (a b:β):(bif decide (y<0) then a else b)=b:=by rw[aLD (by omega)];rfl
theorem QqY (k:Int) (h0:0<=k) (hb:k<(BIG:Int)):∃t,Y0 k=some t:=by
 have hB:=Qrl
 have hL:LIM=1073741824:=rfl
 unfold Y0;by_cases hk:k<=0
 ·rw[aLE hk];exact⟨_,rfl⟩
 ·rw[aLD hk,aLC]
  generalize I:(fun (s3:Int×List UInt8)=>_)=f
  have key:∀(n:Nat) (k:Int) (acc:List UInt8),0<=k->k<(10:Int) ^ n->k<(BIG:Int)->acc.length+n<=100->∃t,Qc f (k,acc)=some t/\t.length<=100:=by
   intro n;induction n with
   | zero=>
    intro k acc h0 h1 _ J;have:k=0:=by simp at h1;omega
    subst this;exact⟨acc,Qe (by rw[<-I];simp),by omega⟩
   | succ n U=>
    intro k acc h0 h1 hb J;by_cases hk:k=0
    ·subst hk;exact⟨acc,Qe (by rw[<-I];simp),by omega⟩
    ·have hd:Int.tdiv k 10=k / 10:=Int.tdiv_eq_ediv_of_nonneg h0
     have hw:wrap .i64 (Int.tdiv k 10)=k / 10:=by rw[hd];exact Qy (by omega) (by omega)
     have hp:k / 10<(10:Int) ^ n:=by rw[Int.pow_succ] at h1;omega
     rw[Qo (s':=(k / 10,List.append (List.map (fun (b:Int)=>UInt8.ofNat b.toNat) ([wrap .u8 (wrap .i64 (48+(Int.tmod k 10)))]:List Int)) acc)) (by
      rw[<-I];simp only[show decide (0<k)=true by simp;omega,aLB,hw]
      rw[show decide (List.length (List.map (fun (b:Int)=>UInt8.ofNat b.toNat) ([wrap .u8 (wrap .i64 (48+(Int.tmod k 10)))]:List Int))+List.length acc<=LIM)=true from by simp;omega]
      rfl)]
     exact U _ _ (by omega) hp (by omega) (by simp;omega)
  obtain⟨t,ht,J⟩:=key 19 k [] h0 (by have:(10:Int) ^ 19=10000000000000000000:=(by decide);omega) hb (by simp)
  rw[ht,aLc];rw[show decide (List.length ([109]:List Nat)+List.length t<=LIM)=true from by simp;omega]
  exact⟨_,rfl⟩
noncomputable def mT (k:Int):List UInt8:=(Y0 k).getD []
theorem QmM (k:Int) (h0:0<=k) (hb:k<(BIG:Int)):Y0 k=some (mT k):=by
 obtain⟨t,I⟩:=QqY k h0 hb;unfold mT;rw[I];rfl
noncomputable def mkS (k:Int) (_:List UInt8):List UInt8:=mT k
def mkG (k:Int) (_:Int×Int):Int×Int:=(k,k+1)
def cS:List UInt8->Nat:=fun _=>1
def cG:Int×Int->Nat:=fun _=>2
theorem QkG (x:List (List UInt8)) (U:x.length<BIG) (k:Int) (h0:0<=k) (hb:k+(cntL cS x:Int)<(BIG:Int)):Qbb x k=some (k+(cntL cS x:Int),mkL cS mkS k x):=by
 unfold Qbb;rw[Qdw cS mkS x k h0 hb _ (fun acc i k h I hm h0 hk=>?_) (fun acc k I=>by simp only[I,dge,aLC])]
 ·rfl
 ·simp only[cS] at hk
  have J:wrap .i64 (k+1)=k+1:=wk h0 (by omega)
  simp only[dlt h,Qhb,Qb acc i h,aMd,List.set_set,QaT acc i _ _ h,getD_at acc i _ h,aLB,J,wsucc h (by omega),QmM k h0 (by omega),aLc]
  rfl
theorem QlO (x:List (Int×Int)) (hl:x.length<BIG) (k:Int) (h0:0<=k) (hb:k+(cntL cG x:Int)<(BIG:Int)):Qcq x k=some (k+(cntL cG x:Int),mkL cG mkG k x):=by
 unfold Qcq;rw[Qdw cG mkG x k h0 hb _ (fun acc i k h I hm h0 hk=>?_) (fun acc k I=>by simp only[I,dge,aLC])]
 ·rfl
 ·simp only[cG] at hk
  have J:wrap .i64 (k+1)=k+1:=wk h0 (by omega)
  have U:wrap .i64 (k+1+1)=k+2:=by rw[wk (by omega) (by omega)];omega
  simp only[dlt h,Qhb,Qb acc i h,aMd,List.set_set,QaT acc i _ _ h,getD_at acc i _ h,aLB,J,U,wsucc h (by omega)]
  rfl
def cL (x:TL):Nat:=cntL cS x.1+cntL cG x.2
noncomputable def mkLd (k:Int) (x:TL):TL:=(mkL cS mkS k x.1,mkL cG mkG (k+(cntL cS x.1:Int)) x.2)
theorem Qsm (x:TL):cL x=x.1.length+2 * x.2.length:=by unfold cL cS cG;rw[QfM,QfM];omega
def cI1:Int->Nat:=fun _=>1
def mkI (k:Int) (_:Int):Int:=k
def cM3:TMb->Nat:=fun _=>3
def mkM (k:Int) (_:TMb):TMb:=(k,k+1,k+2)
def cC7 (c:TCoin):Nat:=cntL cI1 c.2.1.2.1+7
def mkC7 (k:Int) (c:TCoin):TCoin:=((k,k+1),((k+2,(mkL cI1 mkI (k+3) c.2.1.2.1,(k+3+(cntL cI1 c.2.1.2.1:Int),k+4+(cntL cI1 c.2.1.2.1:Int)))),(k+5+(cntL cI1 c.2.1.2.1:Int),decide (Int.tmod (k+6+(cntL cI1 c.2.1.2.1:Int)) 3=0))))
theorem QgQ (x:List Int) (U:x.length<BIG) (k:Int) (h0:0<=k) (hb:k+(cntL cI1 x:Int)<(BIG:Int)):Qab x k=some (k+(cntL cI1 x:Int),mkL cI1 mkI k x):=by
 unfold Qab;rw[Qdw cI1 mkI x k h0 hb _ (fun acc i k h I hm h0 hk=>?_) (fun acc k I=>by simp only[I,dge,aLC])]
 ·rfl
 ·simp only[cI1] at hk
  have J:wrap .i64 (k+1)=k+1:=wk h0 (by omega)
  simp only[dlt h,Qhb,Qb acc i h,aMd,List.set_set,QaT acc i _ _ h,getD_at acc i _ h,aLB,J,wsucc h (by omega)]
  rfl
theorem QgR (x:List Int) (U:x.length<BIG) (k:Int) (h0:0<=k) (hb:k+(cntL cI1 x:Int)<(BIG:Int)):J9 (mkL cI1 mkI k x) k=some (k+(cntL cI1 x:Int)):=by
 unfold J9;refine Qdr cI1 mkI x k h0 hb _ (fun i k h J h0 hk I=>?_) (fun k=>by simp only[Y8,dge,aLC])
 simp only[cI1] at hk;have w1:wrap .i64 (k+1)=k+1:=wk h0 (by omega)
 simp only[Y8,dlt h,Qb _ i J,aMd,getD_at _ i _ J,I,mkI,aLB,w1,aMc,aMa,aLC,wsucc h U];rfl
theorem Qdp (x:List TMb) (hl:x.length<BIG) (k:Int) (h0:0<=k) (hb:k+(cntL cM3 x:Int)<(BIG:Int)):JR x k=some (k+(cntL cM3 x:Int),mkL cM3 mkM k x):=by
 unfold JR;rw[Qdw cM3 mkM x k h0 hb _ (fun acc i k h I hm h0 hk=>?_) (fun acc k I=>by simp only[I,dge,aLC])]
 ·rfl
 ·simp only[cM3] at hk
  have J:wrap .i64 (k+1)=k+1:=wk h0 (by omega)
  have U:wrap .i64 (k+1+1)=k+2:=by rw[wk (by omega) (by omega)];omega
  have w3:wrap .i64 (k+2+1)=k+3:=by rw[wk (by omega) (by omega)];omega
  simp only[dlt h,Qhb,Qb acc i h,aMd,List.set_set,QaT acc i _ _ h,getD_at acc i _ h,aLB,J,U,w3,wsucc h (by omega)]
  rfl
theorem Qhp (x:List TCoin) (hl:x.length<BIG) (I:∀c,c ∈ x->c.2.1.2.1.length<BIG) (k:Int) (h0:0<=k) (hb:k+(cntL cC7 x:Int)<(BIG:Int)):QaG x k=some (k+(cntL cC7 x:Int),mkL cC7 mkC7 k x):=by
 unfold QaG;rw[Qdw cC7 mkC7 x k h0 hb _ (fun acc i k h U hm h0 hk=>?_) (fun acc k U=>by simp only[U,dge,aLC])]
 ·rfl
 ·have J:=I _ hm
  simp only[cC7] at hk;have w1:wrap .i64 (k+1)=k+1:=wk h0 (by omega)
  have w2:wrap .i64 (k+1+1)=k+2:=by rw[wk (by omega) (by omega)];omega
  have w3:wrap .i64 (k+2+1)=k+3:=by rw[wk (by omega) (by omega)];omega
  have hm:=QgQ acc[i].2.1.2.1 J (k+3) (by omega) (by omega)
  simp only[dlt h,Qhb,Qb acc i h,aMd,List.set_set,QaT acc i _ _ h,getD_at acc i _ h,aLB,w1,w2,w3,wsucc h (by omega),hm,aLc]
  generalize hn:(cntL cI1 acc[i].2.1.2.1:Int)=n at *;have hn0:0<=n:=by omega
  have v1:wrap .i64 (k+3+n+1)=k+4+n:=by rw[wk (by omega) (by omega)];omega
  have v2:wrap .i64 (k+4+n+1)=k+5+n:=by rw[wk (by omega) (by omega)];omega
  have v3:wrap .i64 (k+5+n+1)=k+6+n:=by rw[wk (by omega) (by omega)];omega
  have v4:wrap .i64 (k+6+n+1)=k+7+n:=by rw[wk (by omega) (by omega)];omega
  simp only[v1,v2,v3,v4];simp only[mkC7,hn,cC7];congr 4;rw[Int.natCast_add,hn];omega
theorem cntC (l:List TCoin):cntL cC7 l<=7 * Jt l:=by
 unfold Jt;induction l with
 | nil=>simp[cntL]
 | cons a l I=>
  have:cntL cI1 a.2.1.2.1=a.2.1.2.1.length:=by unfold cI1;rw[QfM];omega
  rw[JL,aMJ,List.sum_cons,aLh];have h2:cC7 a=Qb0 a+7:=by unfold cC7 Qb0;omega
  omega
end GL
end Go.Dx
set_option maxHeartbeats 2000000
namespace Go.Dx
namespace GL
open IntKind Sum
end GL
end Go.Dx
set_option maxHeartbeats 2000000
namespace Go.Dx
namespace GL
open IntKind Sum
theorem Qwk {α:Type} (l:List α) (h:l.length<1000000):decide (List.length ([]:List α)+List.length l<=LIM)=true:=by
 simp only[aLj,aLF];unfold LIM;omega
theorem Y.of {α:Type} {o:Option α} {a:α} {Q:α->Prop} (h:o=Option.some a) (I:Q a):Y o Q:=⟨a,h,I⟩
theorem Qpc (r:TRu) (h:r.1.length<=10):J2 r=some r:=by
 unfold J2;rw[Qwk _ (by omega)];rfl
theorem Qlc (l:List TCoin) (I:l.length<BIG) (tx:Int):QeA l tx=some (l.any fun x=>decide (x.1.1=tx)):=by
 unfold QeA;refine QhC l _ _ (fun i h=>?_) (by simp only[dge,aLC])
 simp only[dlt h,Qb l i h,Qa l i _ h,aLB,wsucc h I];cases decide (l[i].1.1=tx)<;>rfl
structure kLd (l:TL):Prop where
 a:l.1.length<=61
 b:l.2.length<=121
theorem kLd.nil:kLd (([],[]):TL):=⟨by simp,by simp⟩
abbrev TBk:=Int×Int×Int×List Int
structure kX (x:TCoin):Prop where
 k:x.2.1.2.1.length<=10
 t:0<=x.1.1/\x.1.1<=100
 a:0<=x.1.2/\x.1.2<=100
structure kXs (l:List TCoin):Prop where
 n:l.length<=41
 x:∀x,x ∈ l->kX x
theorem kXs.nil:kXs []:=⟨by simp,fun x I=>nomatch I⟩
theorem QrB {l:List TMb} (hm:Qai l/\l.length<=8) (t:TX) (id:Int):Qai (QcF l t id).1/\(QcF l t id).1.length<=8:=by
 have ho:Qai (mOff l t):=QlJ hm.1 _
 have hol:=Qnv l t
 have nil:Qai []/\([]:List TMb).length<=8:=⟨List.Pairwise.nil,by simp⟩
 unfold QcF;split
 ·exact nil
 ·split
  ·unfold Qjy
   split
   ·exact nil
   ·rename_i J
    split
    ·exact nil
    ·obtain⟨k,k1,k2,k3⟩:=Qod ho t.2.1
     obtain⟨w1,w2⟩:=Qip k1 k2 k3;have U:∀y,y ∈ mOff l t->y.1 ≠ t.2.1:=fun y hy he=>by
      refine J (List.any_eq_true.2 ⟨y,hy,?_⟩);rw[aLE he];rfl
     show Qai ((mOff l t).takeWhile _++[_]++(mOff l t).dropWhile _)/\((mOff l t).takeWhile _++[_]++(mOff l t).dropWhile _).length<=8
     rw[w1,w2];refine⟨?_,?_⟩
     ·unfold Qai
      rw[List.pairwise_append,List.pairwise_append];refine⟨⟨List.Pairwise.sublist (List.take_sublist k _) ho,List.pairwise_singleton _ _,fun a I b hb=>?_⟩,List.Pairwise.sublist (List.drop_sublist k _) ho,fun a I b hb=>?_⟩
      ·rw[aLs.1 hb]
       obtain⟨i,hi,rfl⟩:=aMe.1 I;rw[aLn] at hi;rw[aMw];exact k2 i (by omega) (by omega)
      ·obtain⟨i,hi,rfl⟩:=aMe.1 hb
       rw[aLz] at hi;rw[List.getElem_drop];have h1:=k3 (k+i) (by omega) (by omega)
       have h2:=U _ (aLl (show k+i<(mOff l t).length by omega))
       rcases aMi.1 I with I | I
       ·obtain⟨j,hj,rfl⟩:=aMe.1 I
        rw[aLn] at hj;rw[aMw];have:=k2 j (by omega) (by omega)
        omega
       ·rw[aLs.1 I]
        show t.2.1<_
        omega
     ·simp only[aLi,aLh,aLj,aLn,aLz]
      omega
  ·exact⟨ho,by show (mOff l t).length<=8;have:=hm.2;omega⟩
structure kSt (x:TState):Prop where
 t:0<=x.1/\x.1<=100
 h:0<=x.2.1/\x.2.1<=100
 c:kXs x.2.2.1
 m:Qai x.2.2.2/\x.2.2.2.length<=8
theorem kSt.bS {x:TState} (h:kSt x):bS x:=⟨by have:=h.c.n;unfold BIG;omega,fun y I=>by have:=(h.c.x y I).k;unfold BIG;omega,by have:=h.m.2;unfold BIG;omega⟩
end GL
end Go.Dx
set_option maxHeartbeats 2000000
namespace Go.Dx
namespace GL
open IntKind Sum
end GL
end Go.Dx
set_option maxHeartbeats 2000000
namespace Go.Dx
namespace GL
open IntKind Sum
def mTx7 (l:List Int) (i:Nat) (x:Int):Int:=if mIn x 1 60 then (if x ∈ l.take i then 7 else 0) else 3
def mB7 (b:TBk):Int:=if mIn b.1 0 60&&(mIn b.2.1 1 40&&mIn b.2.2.1 1 999) then (if decide (b.1=0)=decide (b.2.1=1) then (if (6:Int)<(b.2.2.2.length:Int) then 2 else code (mTx7 b.2.2.2) b.2.2.2) else 1) else 3
theorem Qlk {l:List Int} (I:l ≠ []) (h:∀k,k ∈ l->0<=k):cuts 43 (Zu l [43])=l.map Lib.itoa:=by
 unfold Zu;refine Qak 43 _ (by simpa using I) fun w hw=>?_
 obtain⟨k,hk,rfl⟩:=List.mem_map.1 hw;exact Yd (h k hk) 43 (by decide)
theorem QgT (b:TBk) (hb:b.2.2.2.length<BIG):QbL b=some (mB7 b):=by
 unfold QbL mB7;simp only[Zt,QdH,aLc,beqB];cases mIn b.1 0 60<;>cases mIn b.2.1 1 40<;>cases mIn b.2.2.1 1 999<;>try rfl
 simp only[aMa,aLC,aLc,aMz,if_true];by_cases h2:decide (b.1=0)=decide (b.2.1=1)
 ·rw[aLE h2,if_pos h2]
  simp only[aMa,aLC];by_cases h6:(6:Int)<(b.2.2.2.length:Int)
  ·rw[aLE h6,if_pos h6];rfl
  ·rw[aLD h6,if_neg h6,aLC]
   rw[JE b.2.2.2 (mTx7 b.2.2.2) _ (fun i h=>?_) (by simp only[dge,aLC])]
   ·split
    ·rename_i h;rw[h]
    ·rfl
   ·simp only[dlt h,Qb _ i h,Qa _ i _ h,ZI _ i (Nat.le_of_lt h),Jq,aLB,Qc1,aLc,wsucc h hb,Qeh _ (YZ hb i)]
    unfold mTx7;cases mIn b.2.2.2[i] 1 60<;>by_cases hm:b.2.2.2[i] ∈ b.2.2.2.take i<;>simp[hm]
 ·rw[aLD h2,if_neg h2];rfl
structure okB7 (b:TBk):Prop where
 p:0<=b.1/\b.1<=60
 h:1<=b.2.1/\b.2.1<=40
 m:1<=b.2.2.1/\b.2.2.1<=999
 n:b.2.2.2.length<=6
 t:∀x,x ∈ b.2.2.2->1<=x/\x<=60
theorem Qfp {b:TBk} (h:mB7 b=0):okB7 b:=by
 unfold mB7 at h;cases h1:mIn b.1 0 60&&(mIn b.2.1 1 40&&mIn b.2.2.1 1 999) with
 | false=>rw[h1] at h;simp at h
 | true=>
  rw[h1,if_pos rfl] at h;rw[aLg,aLg,Qz,Qz,Qz] at h1;by_cases h2:decide (b.1=0)=decide (b.2.1=1)
  ·rw[if_pos h2] at h
   by_cases h6:(6:Int)<(b.2.2.2.length:Int)
   ·rw[if_pos h6] at h;cases h
   ·rw[if_neg h6] at h
    refine⟨h1.1,h1.2.1,h1.2.2,by omega,fun x J=>?_⟩
    obtain⟨i,hi,rfl⟩:=aMe.1 J;have I:=YI h i _ (aLf hi)
    unfold mTx7 at I;cases h3:mIn b.2.2.2[i] 1 60 with
    | false=>rw[h3] at I;simp at I
    | true=>exact Qz.1 h3
  ·rw[if_neg h2] at h;cases h
def wBk (b:TBk):List (List UInt8):=[[98,108,111,99,107],Lib.itoa b.1,Lib.itoa b.2.1,Lib.itoa b.2.2.1,if b.2.2.2=[] then [45] else Zu b.2.2.2 [43]]
def YM (b:TBk):List UInt8:=Lib.join (wBk b) [32]
theorem Qwo (a b c:Int):Zu [a,b,c] [32]=Lib.itoa a++32::(Lib.itoa b++32::Lib.itoa c):=by
 unfold Zu;rw[aMJ,aMJ,aMJ,List.map_nil,ZB _ _ _ (by simp),ZB _ _ _ (by simp),Lib.join_one]
theorem Qhv {b:TBk} (h:okB7 b):Qco b=some (YM b):=by
 have J:=h.p
 have hh:=h.h
 have hm:=h.m
 have hn:=h.n
 have hk:∀k,k ∈ [b.1,b.2.1,b.2.2.1]->0<=k/\k<=1000000:=fun k hk=>by
  simp only[List.mem_cons,List.not_mem_nil,or_false] at hk;rcases hk with rfl | rfl | rfl<;>omega
 have I:∀k,k ∈ b.2.2.2->0<=k/\k<=1000000:=fun k hk=>by have:=h.t k hk;omega
 have l1:=QcW [b.1,b.2.1,b.2.2.1] [32] hk
 have l2:=QcW b.2.2.2 [43] I
 simp only[aLh,aLj] at l1 l2;unfold Qco;obtain⟨w,hw⟩:∃w,w=if b.2.2.2=[] then [45] else Zu b.2.2.2 [43]:=⟨_,rfl⟩
 have U:w.length<=1000:=by
  rw[hw];split
  ·simp
  ·omega
 have e:(bif decide ((0:Int)<(b.2.2.2.length:Int)) then (J5 b.2.2.2 [43]).bind fun y6=>some y6 else some [45]:Option (List UInt8))=some w:=by
  rw[hw];by_cases h0:b.2.2.2=[]
  ·rw[h0,if_pos rfl];rfl
  ·have J:0<b.2.2.2.length:=List.length_pos_iff.2 h0
   rw[if_neg h0,aLE (by omega),aLB,QgO _ [43] (by omega) (by simp) I];rfl
 rw[e,aLc,QgO _ [32] (by simp) (by simp) hk,aLc]
 rw[Qj,Qj,Qj]
 ·unfold YM wBk
  rw[<-hw,Qwo,ZB _ _ _ (by simp),ZB _ _ _ (by simp),ZB _ _ _ (by simp),ZB _ _ _ (by simp),Lib.join_one]
  simp
 all_goals ((try simp only[aLo,aLi,aLh,aLj]);unfold LIM;omega)
theorem QmD {l:List Int} (h:l ≠ []) (hk:∀k,k ∈ l->0<=k):Zu l [43] ≠ [45]:=by
 cases l with
 | nil=>exact absurd rfl h
 | cons a r=>
  intro e;have I:(45:UInt8) ∉ Lib.itoa a:=Yd (hk a aLm) 45 (by decide)
  unfold Zu at e;rw[aMJ] at e;cases r with
  | nil=>rw[List.map_nil,Lib.join_one] at e;rw[e] at I;simp at I
  | cons b r=>
   rw[aMJ,ZB _ _ _ (by simp)] at e
   have J:=congrArg List.length e
   simp only[aLi,aLh,aLj] at J;have h0:Lib.itoa a=[]:=List.length_eq_zero_iff.1 (by omega)
   rw[h0,aLx] at e;injection e with e1 U
   cases e1
theorem QwV {b:TBk} (h:okB7 b):∀w,w ∈ wBk b->(32:UInt8) ∉ w:=by
 have U:=h.p
 have hh:=h.h
 have hm:=h.m
 intro w hw;unfold wBk at hw;simp only[List.mem_cons,List.not_mem_nil,or_false] at hw;rcases hw with rfl | rfl | rfl | rfl | rfl
 ·decide
 ·exact Yd (by omega) 32 (by decide)
 ·exact Yd (by omega) 32 (by decide)
 ·exact Yd (by omega) 32 (by decide)
 ·split
  ·decide
  ·rename_i h0
   have I:∀ws:List (List UInt8),(∀w,w ∈ ws->(32:UInt8) ∉ w)->(32:UInt8) ∉ Lib.join ws [43]:=by
    intro ws;induction ws with
    | nil=>intro _;simp[Lib.join_nil]
    | cons x ws J=>
     intro h;cases ws with
     | nil=>rw[Lib.join_one];exact h x aLm
     | cons y ws=>
      rw[ZB _ _ _ (by simp),aMi,List.mem_cons,not_or,not_or]
      exact⟨h x aLm,by decide,J fun w hw=>h w (aLp _ hw)⟩
   refine I _ fun w hw=>?_
   obtain⟨k,hk,rfl⟩:=List.mem_map.1 hw;exact Yd (by have:=h.t k hk;omega) 32 (by decide)
theorem Qne {b:TBk} (h:okB7 b):cuts 32 (YM b)=wBk b:=Qak 32 _ (by unfold wBk;simp) (QwV h)
theorem QmF {n:Int} (h:0<=n/\n<=1000):numS (Lib.itoa n)=n:=Qcg h.1 (by omega)
theorem Qgr {b:TBk} (h:mB7 b=0) (hl:(YM b).length<=300):Yz (YM b)=some (b,true):=by
 have ho:=Qfp h
 have hp:=ho.p
 have hh:=ho.h
 have hm:=ho.m
 have hB:BIG=4611686018427387904:=rfl
 have w:∀i,(List.getD (wBk b) i []).length<=300:=fun i=>by
  have:=YL 32 (YM b) i
  rw[Qne ho] at this;omega
 unfold Yz;rw[Qhc _ 32 (by omega),aLc,Qne ho]
 have e0:decide ((300:Int)<((YM b).length:Int))=false:=aLD (by omega)
 have w1:List.getD (wBk b) (Int.toNat 1) []=Lib.itoa b.1:=rfl
 have w2:List.getD (wBk b) (Int.toNat 2) []=Lib.itoa b.2.1:=rfl
 have w3:List.getD (wBk b) (Int.toNat 3) []=Lib.itoa b.2.2.1:=rfl
 obtain⟨v,hv⟩:∃v,v=if b.2.2.2=[] then [45] else Zu b.2.2.2 [43]:=⟨_,rfl⟩
 have w4:List.getD (wBk b) (Int.toNat 4) []=v:=by rw[hv];rfl
 have i1:inB 1 (wBk b)=true:=rfl
 have i2:inB 2 (wBk b)=true:=rfl
 have i3:inB 3 (wBk b)=true:=rfl
 have i4:inB 4 (wBk b)=true:=rfl
 have l1:=w 1;have l2:=w 2;have l3:=w 3;have I:=w 4
 have l1:(Lib.itoa b.1).length<=300:=l1
 have l2:(Lib.itoa b.2.1).length<=300:=l2
 have l3:(Lib.itoa b.2.2.1).length<=300:=l3
 have I:v.length<=300:=by rw[<-w4];exact I
 have hlen:((wBk b).length:Int)=5:=rfl
 rw[e0,hlen];simp only[aLC,aMc,aMa,aLc,i1,i2,i3,i4,w1,w2,w3,w4,aLB,Jr _ (show (Lib.itoa b.1).length<=1000000 by omega),Jr _ (show (Lib.itoa b.2.1).length<=1000000 by omega),Jr _ (show (Lib.itoa b.2.2.1).length<=1000000 by omega),QmF (show 0<=b.1/\b.1<=1000 by omega),QmF (show 0<=b.2.1/\b.2.1<=1000 by omega),QmF (show 0<=b.2.2.1/\b.2.2.1<=1000 by omega)]
 have e:(bif !decide (v=[45]) then (Qau v [43]).bind fun (J:List Int)=>some (b.1,(b.2.1,(b.2.2.1,J))) else some (b.1,(b.2.1,(b.2.2.1,[]))):Option TBk)=some b:=by
  rw[hv];by_cases h0:b.2.2.2=[]
  ·rw[if_pos h0,aLE rfl]
   show some (b.1,(b.2.1,(b.2.2.1,[])))=some b
   rw[<-h0]
  ·have U:=QmD h0 fun k hk=>by have:=ho.t k hk;omega
   rw[if_neg h0,aLD U,aMB,aLB,Qkf _ 43 (by rw[hv,if_neg h0] at I;omega),Qlk h0 (fun k hk=>by have:=ho.t k hk;omega),aLc,List.map_map]
   have:(b.2.2.2.map (numS ∘ Lib.itoa))=b.2.2.2:=by
    have e5:b.2.2.2.map (numS ∘ Lib.itoa)=b.2.2.2.map id:=List.map_congr_left fun k hk=>QmF (n:=k) (by have:=ho.t k hk;omega)
    rw[e5,List.map_id]
   rw[this]
 rw[e,aLc,QgT b (by have:=ho.n;omega),aLc,h]
 simp only[aMc,aMa,aLC];rw[Qhv ho,aLc,aLE rfl];rfl
theorem Quo {α:Type} {c:Nat->α->Int} {l:List α} (h:∀i a,l[i]? = some a->c i a=0):code c l=0:=by
 unfold code;rw[(Qei l 0).2 (fun j a I=>by rw[aMf,if_pos (h j a I)])]
theorem Qrb (l:List (List UInt8)) (I:l.length<=LIM):Z6 l=some l:=by
 unfold Z6;rw[JF I,aLB];cases l with
 | nil=>exact Qd0 _
 | cons a l=>rfl
theorem Qp4 (l:List (Int×Int)) (I:l.length<=LIM):ZG l=some l:=by
 unfold ZG;rw[JF I,aLB];cases l with
 | nil=>exact Qd0 _
 | cons a l=>rfl
theorem Qkm {l:TL} (h:mLF l=0):code (mTx l.1) l.1=0/\code (mSg (l.1.length:Int) l.2) l.2=0/\l.1.length<=60/\l.2.length<=120:=by
 unfold mLF at h;split at h
 ·cases h
 ·rename_i h1
  simp only[aMC,aLF,not_or] at h1;by_cases h2:code (mTx l.1) l.1=0
  ·rw[if_pos h2] at h;exact⟨h2,h,by omega,by omega⟩
  ·rw[if_neg h2] at h;exact absurd h h2
def insC (l:List TCoin) (x:TCoin):List TCoin:=l.takeWhile (fun y=>Qv y.1 x.1)++[x]++l.dropWhile (fun y=>Qv y.1 x.1)
theorem Qh8 (l:List TCoin) (x:TCoin):(insC l x).Perm (l++[x]):=by
 unfold insC;have h:l=l.takeWhile (fun y=>Qv y.1 x.1)++l.dropWhile (fun y=>Qv y.1 x.1):=(List.takeWhile_append_dropWhile).symm
 conv=>rhs;rw[h]
 rw[aMm,aMm];exact List.Perm.append_left _ List.perm_append_comm
theorem Qub {α:Type} (p:α->Bool):∀(l:List α) (a:α),a ∈ l.takeWhile p->p a=true
 | [],a,h=>by cases h
 | x::l,a,h=>by
  rw[List.takeWhile_cons] at h;cases I:p x with
  | false=>rw[I] at h;cases h
  | true=>
   rw[I,if_pos rfl] at h;rcases List.mem_cons.1 h with rfl | h
   ·exact I
   ·exact Qub p l a h
theorem QrD {α:Type} (p:α->Bool) (c:α) (r:List α):∀(l:List α),l.dropWhile p=c::r->p c=false
 | [],h=>by cases h
 | x::l,h=>by
  rw[List.dropWhile_cons] at h;cases I:p x with
  | true=>rw[I,if_pos rfl] at h;exact QrD p c r l h
  | false=>
   rw[I,if_neg (by simp)] at h
   rw[<-(List.cons.inj h).1];exact I
theorem QnO {l:List TCoin} (h:Rise l) {x:TCoin} (hx:∀y,y ∈ l->y.1 ≠ x.1):Rise (insC l x):=by
 unfold insC Rise;have hs:l=l.takeWhile (fun y=>Qv y.1 x.1)++l.dropWhile (fun y=>Qv y.1 x.1):=(List.takeWhile_append_dropWhile).symm
 have ht:∀a,a ∈ l.takeWhile (fun y=>Qv y.1 x.1)->Qv a.1 x.1=true:=fun a I=>Qub _ l a I
 have hr:(l.takeWhile (fun y=>Qv y.1 x.1)++l.dropWhile (fun y=>Qv y.1 x.1)).Pairwise fun a b=>Qv a.1 b.1=true:=by rw[<-hs];exact h
 rw[List.pairwise_append] at hr;obtain⟨r1,U,r3⟩:=hr;have hd:∀b,b ∈ l.dropWhile (fun y=>Qv y.1 x.1)->Qv x.1 b.1=true:=by
  intro b hb;have J:∀b,b ∈ l.dropWhile (fun y=>Qv y.1 x.1)->Qv b.1 x.1=false:=by
   cases hq:l.dropWhile (fun y=>Qv y.1 x.1) with
   | nil=>intro b hb;cases hb
   | cons c r=>
    have hc:Qv c.1 x.1=false:=QrD (fun y:TCoin=>Qv y.1 x.1) c r l hq
    intro b hb;rw[hq] at U;rcases List.mem_cons.1 hb with rfl | hb
    ·exact hc
    ·have h1:=(List.pairwise_cons.1 U).1 b hb
     cases h2:Qv b.1 x.1 with
     | false=>rfl
     | true=>rw[QcX h1 h2] at hc;cases hc
  cases h1:Qv x.1 b.1 with
  | true=>rfl
  | false=>exact absurd (Qkt (J b hb) h1) (hx b (by rw[hs];exact List.mem_append_right _ hb))
 rw[List.pairwise_append,List.pairwise_append];refine⟨⟨r1,List.pairwise_singleton _ _,fun a I b hb=>?_⟩,U,fun a I b hb=>?_⟩
 ·rw[aLs.1 hb];exact ht a I
 ·rcases aMi.1 I with I | I
  ·exact r3 a I b hb
  ·rw[aLs.1 I];exact hd b hb
def ZH (id h:Int) (m:Bool):Nat->List TOut->List TCoin
 | _,[]=>[]
 | k,o::r=>((id,(k:Int)),(o,(h,m)))::ZH id h m (k+1) r
theorem Qaw (id h:Int) (m:Bool):∀(os:List TOut) (k:Nat),(ZH id h m k os).length=os.length
 | [],_=>rfl
 | o::r,k=>by unfold ZH;rw[aLh,Qaw id h m r,aLh]
theorem Qht {id h:Int} {m:Bool} {x:TCoin}:∀{os:List TOut} {k:Nat},x ∈ ZH id h m k os->x.1.1=id/\(k:Int)<=x.1.2/\x.1.2<(k:Int)+os.length/\x.2.1 ∈ os/\x.2.2.1=h
 | [],_,I=>by cases I
 | o::r,k,I=>by
  unfold ZH at I;rcases List.mem_cons.1 I with rfl | I
  ·refine⟨rfl,Int.le_refl _,?_,aLm,rfl⟩
   show (k:Int)<(k:Int)+((o::r).length:Int)
   rw[aLh];omega
  ·obtain⟨h1,h2,h3,h4,h5⟩:=Qht I
   rw[aLh];exact⟨h1,by omega,by omega,aLp _ h4,h5⟩
def YR (l:List TCoin) (xs:List TCoin):List TCoin:=xs.foldl insC l
theorem Qbz:∀(xs l:List TCoin),(YR l xs).Perm (l++xs)
 | [],l=>by unfold YR;simp
 | x::r,l=>by
  have h1:=Qbz r (insC l x)
  show (YR (insC l x) r).Perm (l++x::r)
  refine h1.trans ?_;have h2:=(Qh8 l x).append_right r
  rw[aMm] at h2;exact h2
theorem Qgv {id h:Int} {m:Bool}:∀(os:List TOut) (k:Nat) (l:List TCoin),Rise l->(∀y,y ∈ l->y.1.1=id->y.1.2<(k:Int))->Rise (YR l (ZH id h m k os))
 | [],_,l,I,_=>I
 | o::r,k,l,I,U=>by
  show Rise (YR (insC l _) (ZH id h m (k+1) r))
  refine Qgv r (k+1) _ (QnO I fun y J he=>?_) (fun y J h1=>?_)
  ·have:=U y J (by rw[he])
   rw[he] at this;exact absurd this (by simp)
  ·have:=(Qh8 l ((id,(k:Int)),(o,(h,m)))).mem_iff.1 J
   rcases aMi.1 this with h2 | h2
   ·have:=U y h2 h1;omega
   ·rw[aLs.1 h2];show (k:Int)<((k+1:Nat):Int);omega
theorem Qix {α:Type} {l:List α} {p:α->Bool} {k:Nat} (hk:k<l.length) (h0:p l[k]=false) (h1:∀i (h:i<l.length),i ≠ k->p l[i]=true):l.filter p=l.take k++l.drop (k+1):=by
 conv=>lhs;rw[<-List.take_append_drop k l]
 rw[aLr hk,List.filter_append,List.filter_cons,h0];rw[aMG.2 (fun a I=>?_),if_neg (by simp),aMG.2 (fun a I=>?_)]
 ·obtain⟨i,hi,rfl⟩:=aMe.1 I
  rw[aLz] at hi;rw[List.getElem_drop];exact h1 _ (by omega) (by omega)
 ·obtain⟨i,hi,rfl⟩:=aMe.1 I
  rw[aLn] at hi;rw[aMw];exact h1 _ (by omega) (by omega)
def offC (c:List TCoin) (rs:List (Int×Int)):List TCoin:=c.filter fun x=>!decide (x.1 ∈ rs)
theorem QqM {c:List TCoin} (hr:Rise c) (hl:c.length<=1000) (hk:∀x,x ∈ c->x.2.1.2.1.length<=1000000) {rs:List (Int×Int)} (hn:rs.Nodup) (hrl:rs.length<=1000) (hall:∀r,r ∈ rs->∃x,x ∈ c/\x.1=r):Qcn c rs=some (offC c rs,0):=by
 have hB:BIG=4611686018427387904:=rfl
 unfold Qcn;rw[Yj c (by omega) hk,aLc]
 generalize hf:(fun (s17:List TCoin×Int)=>_)=f
 have key:∀(d i:Nat),i+d=rs.length->Qc f (offC c (rs.take i),(i:Int))=some (inl (offC c rs)):=by
  intro d;induction d with
  | zero=>
   intro i hi;obtain rfl:i=rs.length:=by omega
   rw[List.take_length];exact Qe (by rw[<-hf];simp only[dge,aLC])
  | succ d ih=>
   intro i hi;have I:i<rs.length:=by omega
   have U:Rise (offC c (rs.take i)):=Qbx hr _
   have hlo:(offC c (rs.take i)).length<=c.length:=aME _ _
   obtain⟨x,hx,hxr⟩:=hall _ (aLl I);have hnot:rs[i] ∉ rs.take i:=fun hm=>by
    rw[List.mem_take_iff_getElem] at hm;obtain⟨j,hj,he⟩:=hm;have:=List.nodup_iff_pairwise_ne.1 hn
    rw[List.pairwise_iff_getElem] at this;exact this j i (by omega) I (by omega) he
   have hxo:x ∈ offC c (rs.take i):=aMv.2 ⟨hx,by rw[hxr,aLD hnot];rfl⟩
   obtain⟨k,k1,k2⟩:=QgY U (by omega) rs[i]
   rcases k2 with ⟨hk1,J⟩ | hno
   ·have hstep:f (offC c (rs.take i),(i:Int))=some (.inl (offC c (rs.take (i+1)),((i+1:Nat):Int))):=by
     rw[<-hf];have hdel:QW (offC c (rs.take i)) (k:Int) ((k:Int)+1)=some (offC c (rs.take (i+1))):=by
      unfold QW delS;rw[aLE ⟨by omega,by omega,by omega,by omega⟩,aLB,aMd,show ((k:Int)+1).toNat=k+1 by omega]
      congr 1;rw[<-Qix (p:=fun x=>!decide (x.1=rs[i])) hk1 (by rw[aLE J];rfl) (fun j hj hjk=>by
       rw[aLD (fun he=>?_)];rfl
       have:=QlA U (aLl hj) (aLl hk1) (by rw[he,J])
       rcases aMg j k with h1 | h1
       ·have h2:=Qb8 U h1 hk1
        rw[he,J,ZM] at h2;cases h2
       ·have h2:=Qb8 U (show k<j by omega) hj
        rw[he,J,ZM] at h2;cases h2)]
      unfold offC;rw[List.filter_filter];congr 1
      funext x
      rw[aMl I];simp only[aMi,aLs];by_cases h1:x.1 ∈ rs.take i<;>by_cases h2:x.1=rs[i]<;>simp[h1,h2]
     have hw:wrap .i64 ((k:Int)+1)=(k:Int)+1:=Qy (by omega) (by omega)
     simp only[dlt I,Qb _ i I,Qa _ i _ I,aLB,k1,aLc,aLE (show ∃h:k<(offC c (rs.take i)).length,((offC c (rs.take i))[k]'h).1=rs[i] from ⟨hk1,J⟩),aMa,aLC,hw,hdel,wsucc I (by omega)]
    rw[Qo hstep];exact ih (i+1) (by omega)
   ·exact absurd hxr (hno x hxo)
 have:=key rs.length 0 (by omega)
 have e0:offC c (rs.take 0)=c:=by unfold offC;simp
 rw[e0] at this;show ((Qc f (c,0)).bind _)=_
 rw[show ((0:Nat):Int)=0 from rfl] at this
 rw[this];rfl
theorem QgI {X:Type} (n:Nat) (f:Int->Option (Int⊕X)) (x:X) (I:∀i:Nat,i<n->f (i:Int)=some (.inl ((i+1:Nat):Int))) (he:f (n:Int)=some (.inr x)):Qc f 0=some x:=by
 have key:∀(d i:Nat),i+d=n->Qc f (i:Int)=some x:=by
  intro d;induction d with
  | zero=>
   intro i hi;obtain rfl:i=n:=by omega
   exact Qe he
  | succ d J=>intro i hi;rw[Qo (I i (by omega))];exact J (i+1) (by omega)
 exact key n 0 (by omega)
theorem Qrh (l:List TCoin) (I:l.length<BIG) (tx:Int):QdE l tx=some (l.any fun x=>decide (x.1.1=tx)):=by
 unfold QdE QH QM;rw[Yy l (fun x=>decide (x.1.1=tx)) _ (fun i h=>?_) (by simp only[dge,aLC]),aLc,Zy]
 ·rfl
 ·simp only[dlt h,Qb l i h,Qa l i _ h,aLB,wsucc h I]
  unfold QfR;rw[aLc,aLc];cases decide (l[i].1.1=tx)<;>rfl
def JZ (l:List TCoin) (id:Int) (outs:List TOut) (h:Int) (m:Bool):List TCoin×Int:=if (l.any fun x=>decide (x.1.1=id))=true then ([],7) else if 40<l.length+outs.length then ([],2) else (YR l (ZH id h m 0 outs),0)
theorem Qmc {l:List TCoin} (hr:Rise l) (hl:l.length<=1000) (hk:∀x,x ∈ l->x.2.1.2.1.length<=1000000) {id:Int} (hid:mIn id 1 60=true) {outs:List TOut} (hn:outs.length<=4) (ho:∀o,o ∈ outs->mOut o=0/\o.2.1.length<=1000000) {h:Int} (hh:mIn h 0 999=true) (m:Bool):JU l id outs h m=some (JZ l id outs h m):=by
 have hB:BIG=4611686018427387904:=rfl
 unfold JU JZ;rw[Qc1,aLc,hid,Qbc,aLc,hh];simp only[aMa,aLC,aLc];rw[aLD (by omega),aLC]
 rw[QgI outs.length _ (inl ()) (fun i hi=>by
   have hoi:=ho _ (aLl hi)
   simp only[dlt hi,Qb _ i hi,Qa _ i _ hi,aLB,Qh6 _ (show (outs[i]).2.1.length<BIG by omega),aLc,hoi.1,aMc,aMa,aLC,wsucc hi (by omega)]) (by simp only[dge,aLC]),aLc,Sum.elim_inl,Qrh _ (by omega),aLc]
 cases hany:l.any fun x=>decide (x.1.1=id) with
 | true=>rfl
 | false=>
  rw[aLC,if_neg (by simp),Qy (by omega) (by omega)]
  by_cases h40:40<l.length+outs.length
  ·rw[aLE (by omega),if_pos h40];rfl
  ·rw[aLD (by omega),if_neg h40,aLC,Yj l (by omega) hk,aLc]
   generalize hf:(fun (s37:List TCoin×Int)=>_)=f
   have key:∀(d i:Nat) (acc:List TCoin),i+d=outs.length->acc.length<=1000+i->Qc f (acc,(i:Int))=some (acc++ZH id h m i (outs.drop i)):=by
    intro d;induction d with
    | zero=>
     intro i acc hi _;obtain rfl:i=outs.length:=by omega
     rw[Qe (show f (acc,(outs.length:Int))=some (.inr acc) by rw[<-hf];simp only[dge,aLC]),aMr]
     unfold ZH;rw[List.append_nil]
    | succ d ih=>
     intro i acc hi ha;have I:i<outs.length:=by omega
     have hstep:f (acc,(i:Int))=some (.inl (acc++[((id,(i:Int)),(outs[i],(h,m)))],((i+1:Nat):Int))):=by
      rw[<-hf];have hoi:=ho _ (aLl I)
      simp only[dlt I,Qb _ i I,Qa _ i _ I,aLB,QjW _ hoi.2,aLc,wsucc I (by omega)]
      rw[Qj (by simp only[aLh,aLj];unfold LIM;omega)];rfl
     rw[Qo hstep,ih (i+1) _ (by omega) (by simp;omega),aLr I]
     show _=some (acc++(_::ZH id h m (i+1) (outs.drop (i+1))))
     rw[aMm];rfl
   have:=key outs.length 0 l (by omega) (by omega)
   rw[aMt] at this;show ((Qc f (l,0)).bind _)=_
   rw[show ((0:Nat):Int)=0 from rfl] at this
   rw[this,aLc];have J:=Qbz (ZH id h m 0 outs) l
   have U:Rise (YR l (ZH id h m 0 outs)):=Qgv outs 0 l hr fun y hy h1=>by
    rw[aMI] at hany;exact absurd (aLE h1) (hany y hy)
   rw[Qjz U (fun x hx=>J.mem_iff.2 hx) J U (by rw[aLi,Qaw];omega),aLc]
theorem Qj3 {c:List TCoin} (hc:Rise c) {rs:List (Int×Int)} (hn:rs.Nodup) (h:(c.filter fun x=>decide (x.1 ∈ rs)).length=rs.length):∀r,r ∈ rs->∃x,x ∈ c/\x.1=r:=by
 have hp:=(QrA hc rs hn).length_eq
 rw[h] at hp;have key:∀(l:List (Int×Int)),l.length=(l.filterMap (atC c)).length->∀r,r ∈ l->∃x,x ∈ c/\x.1=r:=by
  intro l;induction l with
  | nil=>intro _ r I;cases I
  | cons a l ih=>
   intro J r I;rw[List.filterMap_cons] at J;have hle:(l.filterMap (atC c)).length<=l.length:=List.length_filterMap_le _ _
   cases U:atC c a with
   | none=>rw[U] at J;simp only[aLh] at J;omega
   | some x=>
    rw[U] at J;simp only[aLh] at J;rcases List.mem_cons.1 I with rfl | I
    ·exact⟨x,Qf9 U⟩
    ·exact ih (by omega) r I
 exact key rs hp
def ZV (c:List TCoin) (t:TX) (id h:Int):List TCoin×Int:=if (c.any fun x=>decide (x.1.1=id))=true then ([],7) else JZ (offC c t.2.2.1) id t.2.2.2 h false
theorem Qkh {t:TX} (I:okT t):∀o,o ∈ t.2.2.2->mOut o=0/\o.2.1.length<=1000000:=fun o ho=>by
 obtain⟨h1,h2⟩:=I.out o ho;refine⟨?_,by have:=(Yq h2).len;omega⟩
 unfold mOut;rw[Qz.2 h1,if_pos rfl];exact h2
theorem QtR {c:List TCoin} (J:Q9 c=0) {t:TX} (I:okT t) (hs:(mSp c t).length=t.2.2.1.length) {id:Int} (hid:mIn id 1 60=true) {h:Int} (hh:mIn h 0 999=true):Qed c t id h=some (ZV c t id h):=by
 have hcl:=(Zf J).1
 have U:=Jb J
 have hol:(offC c t.2.2.1).length<=c.length:=aME _ _
 unfold Qed ZV;rw[Qgm J t I,if_pos hs,aLc];simp only[aMc,aMa,aLC];rw[Qrh _ (by unfold BIG;omega),aLc]
 cases hany:c.any fun x=>decide (x.1.1=id) with
 | true=>rfl
 | false=>
  rw[aLC,if_neg (by simp),QqM U (by omega) (Zz J) I.nd (by have:=I.li;omega) (Qj3 U I.nd hs),aLc]
  have hp:=Qmc (l:=offC c t.2.2.1) (Qbx U _) (by omega) (fun x hx=>Zz J x (aMv.1 hx).1) hid I.lo.2 (Qkh I) hh false
  show ((JU (offC c t.2.2.1) id t.2.2.2 h false).bind _)=_
  rw[hp];rfl
theorem Qom {l:List TCoin} (hn:l.length<=40) (I:Rise l) (J:∀x,x ∈ l->mRef x.1=true/\mIn x.2.2.1 0 999=true/\mOut x.2.1=0):Q9 l=0:=by
 unfold Q9;rw[if_neg (by omega)]
 refine Quo fun i a U=>?_
 obtain⟨hi,rfl⟩:=aLy.1 U;obtain⟨h1,h2,h3⟩:=J _ (aLl hi);unfold QhQ;rw[h1,h2,Bool.and_self,if_pos rfl,if_pos h3];rcases aMA i with h0 | h0
 ·subst h0;rfl
 ·have:=Qb8 I (show i - 1<i by omega) hi
  rw[aLk,aLf (by omega:i - 1<l.length),Option.getD_some,this]
  simp
theorem QmC {c:List TCoin} (h:Q9 c=0):∀x,x ∈ c->mRef x.1=true/\mIn x.2.2.1 0 999=true/\mOut x.2.1=0:=fun x I=>by
 have I:=(Zf h).2 x I
 refine⟨QaB.2 ⟨I.tx,I.at_⟩,Qz.2 I.height,?_⟩;unfold mOut;rw[Qz.2 I.val,if_pos rfl];exact I.rule
theorem Qna {l:TL} {c:List TCoin} {t:TX} {I:Int} (h:(mChk l c t I).2=0):(mSp c t).length=t.2.2.1.length:=by
 unfold mChk Qi6 at h;split at h
 ·split at h
  ·cases h
  ·split at h
   ·assumption
   ·cases h
 ·cases h
end GL
end Go.Dx
set_option maxHeartbeats 2000000
namespace Go.Dx
namespace GL
open IntKind Sum
theorem Que {α:Type} (v:α->Int) (M:Int) (I:0<=M/\M<=100000000):∀(l:List α) (a:Int) (n:Nat),(∀x,x ∈ l->0<=v x/\v x<=M)->0<=a->a<=M * n->n+l.length<=1000->0<=l.foldl (fun n x=>wrap .i64 (n+v x)) a/\l.foldl (fun n x=>wrap .i64 (n+v x)) a<=M * ((n+l.length:Nat):Int)
 | [],a,n,_,h0,h1,_=>⟨h0,by simpa using h1⟩
 | x::r,a,n,hv,h0,h1,J=>by
  have hx:=hv x aLm
  simp only[aLh] at J;have hb:M * (n:Int)<=100000000 * 1000:=by
   have h2:(n:Int)<=1000:=by omega
   calc M * (n:Int)<=100000000 * (n:Int):=Int.mul_le_mul_of_nonneg_right I.2 (by omega)
    _<=100000000 * 1000:=by omega
  have hw:wrap .i64 (a+v x)=a+v x:=Qy (by omega) (by omega)
  rw[List.foldl_cons,hw];have h3:a+v x<=M * ((n+1:Nat):Int):=by
   have:M * ((n+1:Nat):Int)=M * (n:Int)+M:=by rw[Int.natCast_add,Int.mul_add];simp
   omega
  have:=Que v M I r (a+v x) (n+1) (fun y U=>hv y (aLp _ U)) (by omega) h3 (by omega)
  rw[aLh];rw[show n+(r.length+1)=n+1+r.length by omega]
  exact this
theorem sum0 {α:Type} (v:α->Int) (M:Int) (I:0<=M/\M<=100000000) (l:List α) (hv:∀x,x ∈ l->0<=v x/\v x<=M) (J:l.length<=1000):0<=l.foldl (fun n x=>wrap .i64 (n+v x)) 0/\l.foldl (fun n x=>wrap .i64 (n+v x)) 0<=M * (l.length:Int):=by
 have:=Que v M I l 0 0 hv (by omega) (by simp) (by omega)
 rw[aMf] at this;exact this
theorem QwD {l:TL} {c:List TCoin} (hc:Q9 c=0) {t:TX} (U:okT t) {h:Int} (h0:(mChk l c t h).2=0):0<=(mChk l c t h).1/\(mChk l c t h).1<=40000000:=by
 have I:=Zf hc
 have hspl:(mSp c t).length<=c.length:=aME _ c
 have hlo:=U.lo
 have s1:=sum0 (fun x:TCoin=>x.2.1.1) 1000000 (by omega) (mSp c t) (fun x J=>by have:=(I.2 x (QkI J)).val;omega) (by omega)
 have s2:=sum0 (fun x:TOut=>x.1) 1000000 (by omega) t.2.2.2 (fun x J=>by have:=(U.out x J).1;omega) (by omega)
 have e1:mSum (mSp c t)=(mSp c t).foldl (fun n x=>wrap .i64 (n+x.2.1.1)) 0:=rfl
 have e2:Qe9 t.2.2.2=t.2.2.2.foldl (fun n x=>wrap .i64 (n+x.1)) 0:=rfl
 rw[<-e1] at s1;rw[<-e2] at s2;have hw:wrap .i64 (mSum (mSp c t) - Qe9 t.2.2.2)=mSum (mSp c t) - Qe9 t.2.2.2:=Qy (by omega) (by omega)
 unfold mChk at h0 ⊢;by_cases h1:(Qu t).length<=300
 ·rw[if_pos h1] at h0 ⊢
  by_cases h2:mId l (Qu t)=0
  ·rw[if_pos h2] at h0;cases h0
  ·rw[if_neg h2] at h0 ⊢
   unfold Qi6 Qph at h0 ⊢;by_cases h3:(mSp c t).length=t.2.2.1.length
   ·rw[if_pos h3] at h0 ⊢
    by_cases h4:code (fun _=>mC1 l (mId l (Qu t)) h) (mSp c t)=0
    ·rw[if_pos h4] at h0 ⊢
     by_cases h5:t.1=2/\(t.2.1,mId l (Qu t)) ∉ l.2
     ·rw[if_pos h5] at h0;cases h0
     ·rw[if_neg h5] at h0 ⊢
      rw[hw] at h0 ⊢;by_cases h6:mSum (mSp c t) - Qe9 t.2.2.2<0
      ·rw[if_pos h6] at h0;cases h0
      ·rw[if_neg h6]
       show 0<=mSum (mSp c t) - Qe9 t.2.2.2/\mSum (mSp c t) - Qe9 t.2.2.2<=40000000
       omega
    ·rw[if_neg h4] at h0;exact absurd h0 h4
   ·rw[if_neg h3] at h0;cases h0
 ·rw[if_neg h1] at h0;cases h0
abbrev TUn:=Int×List (List TCoin)×List TMb
end GL
end Go.Dx
