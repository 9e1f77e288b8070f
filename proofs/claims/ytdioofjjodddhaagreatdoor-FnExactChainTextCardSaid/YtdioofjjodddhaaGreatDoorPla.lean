/- The plain law: no program in sight -/
import Derived.Test.YtdioofjjodddhaaGreatDoorSca
set_option linter.unusedVariables false
set_option linter.unusedSimpArgs false
set_option maxHeartbeats 1000000
namespace Go.Dx
namespace GL
abbrev TCoin:=(Int×Int)×(Int×List Int×Int×Int)×Int×Bool
abbrev TM:=Int×Int×Int
abbrev TUndo:=Int×List (List TCoin)×List TM
abbrev TState:=Int×Int×List TCoin×List TM
abbrev TChain:=(List (List UInt8)×List (Int×Int))×List TM×List Int×TState×List TUndo
def QgZ (l:List (List UInt8)):Nat:=l.length+(l.map List.length).sum
def QcQ (c:TCoin):Nat:=c.2.1.2.1.length
def JS (l:List TCoin):Nat:=l.length+(l.map QcQ).sum
def Qgp (l:List (List TCoin)):Nat:=l.length+(l.map JS).sum
def QbI (u:TUndo):Nat:=Qgp u.2.1+u.2.2.length
def Qf3 (l:List TUndo):Nat:=l.length+(l.map QbI).sum
def QfT (s:TState):Nat:=JS s.2.2.1+s.2.2.2.length
def Qbg (c:TChain):Nat:=((((QgZ c.1.1+c.1.2.length)+c.2.1.length)+c.2.2.1.length)+QfT c.2.2.2.1)+Qf3 c.2.2.2.2
def bL {α:Type} (p:α->Prop) (l:List α):Prop:=l.length<=9223372036854775807/\∀y,y ∈ l->p y
def bAny {α:Type} (_:α):Prop:=True
def YX (c:TCoin):Prop:=bL bAny c.2.1.2.1
def Qal (u:TUndo):Prop:=bL (bL YX) u.2.1/\bL bAny u.2.2
def Qhg (s:TState):Prop:=bL YX s.2.2.1/\bL bAny s.2.2.2
def Qj6 (c:TChain):Prop:=(bL (bL bAny) c.1.1/\bL bAny c.1.2)/\bL bAny c.2.1/\bL bAny c.2.2.1/\Qhg c.2.2.2.1/\bL Qal c.2.2.2.2
theorem Qec {s:Sh} {p:s.den->Prop} (I:∀y,Bnd s y->p y) {l:List s.den} (h:Bnd (.list s) l):bL p l:=⟨h.1,fun y J=>I y (h.2 y J)⟩
theorem QG (i n:Nat) (h:i<n) (I:n<=9223372036854775807):IntKind.wrap .i64 ((i:Int)+1)=((i+1:Nat):Int):=by
 rw[QY (by omega) (by omega)];omega
theorem Qll (t:Nat) (left:Int) (c:Int) (J:0<=left):(bif decide (szr t left<0) then (some (Sum.inr (Sum.inr (-1))):Option ((Int×Int)⊕(Int⊕Int))) else some (Sum.inl (szr t left,c)))=if (t:Int)<=left then some (Sum.inl (left - t,c)) else some (Sum.inr (Sum.inr (-1))):=by
 by_cases h:(t:Int)<=left
 ·have e:szr t left=left - t:=by simp[szr,h]
  have I:¬(left - (t:Int))<0:=by omega
  simp[e,I,h]
 ·have e:szr t left = -1:=by simp[szr,h]
  simp[e,h]
theorem QsB (t:Nat) (left:Int) (c:Int) (J:0<=left) (h1:left<=1048576) (U:t<=9223372036854775807):(bif decide (IntKind.wrap .i64 (left - (t:Int))<0) then (some (Sum.inr (Sum.inr (-1))):Option ((Int×Int)⊕(Int⊕Int))) else some (Sum.inl (IntKind.wrap .i64 (left - (t:Int)),c)))=if (t:Int)<=left then some (Sum.inl (left - t,c)) else some (Sum.inr (Sum.inr (-1))):=by
 rw[QY (by omega) (by omega)]
 by_cases h:(t:Int)<=left
 ·have I:¬(left - (t:Int))<0:=by omega
  simp[I,h]
 ·have I:(left - (t:Int))<0:=by omega
  simp[I,h]
theorem Qhu (left:Int) (h:0<=left):szr 0 left=left:=by simp[szr,h]
theorem Qls (x:List (Int×Int)) (I:x.length<=9223372036854775807) (left:Int) (J:0<=left) (h1:left<=1048576):QaZ x left=some (szr x.length left):=by
 unfold QaZ;exact Qcn (b:=0) (k:=fun l=>some l) J h1 I (fun h=>by rw[Qhu _ (by omega)])
theorem QkR (x:List TM) (I:x.length<=9223372036854775807) (left:Int) (J:0<=left) (h1:left<=1048576):QaS x left=some (szr x.length left):=by
 unfold QaS;exact Qcn (b:=0) (k:=fun l=>some l) J h1 I (fun h=>by rw[Qhu _ (by omega)])
theorem QgB (x:List Int) (I:x.length<=9223372036854775807) (left:Int) (J:0<=left) (h1:left<=1048576):Yo x left=some (szr x.length left):=by
 unfold Yo;exact Qcn (b:=0) (k:=fun l=>some l) J h1 I (fun h=>by rw[Qhu _ (by omega)])
theorem QfJ (x:List TM) (I:x.length<=9223372036854775807) (left:Int) (J:0<=left) (h1:left<=1048576):Yg x left=some (szr x.length left):=by
 unfold Yg;exact Qcn (b:=0) (k:=fun l=>some l) J h1 I (fun h=>by rw[Qhu _ (by omega)])
theorem QjG (x:List (List UInt8)) (I:bL (bL bAny) x) (left:Int) (J:0<=left) (h1:left<=1048576):Qbm x left=some (szr (QgZ x) left):=by
 unfold Qbm;refine Qcn (b:=(x.map List.length).sum) (k:=fun l=>(Qc _ (l,0)).bind _) J h1 I.1 (fun hle=>?_)
 refine Qi1 x List.length _ (fun i left h J h1=>?_) (fun left=>?_) _ (by omega) (by omega)
 ·have e1:decide ((i:Int)<(x.length:Int))=true:=by simpa using h
  simp only[e1,Qb x i h,Qa x i _ h,aLB,QG i _ h I.1];exact QsB _ _ _ J h1 (I.2 _ (aLl h)).1
 ·simp
theorem QkC (x:List (List UInt8)×List (Int×Int)) (I:bL (bL bAny) x.1/\bL bAny x.2) (left:Int) (J:0<=left) (h1:left<=1048576):QbU x left=some (szr (QgZ x.1+x.2.length) left):=by
 unfold QbU;rw[QjG _ I.1 _ J h1,aLc];refine QhN _ _ _ (k:=fun y=>(QaZ x.2 y).bind fun U=>bif decide (U<0) then some (-1) else some U) J fun h=>?_
 have hl:=Qeb h
 rw[Qls _ I.2.1 _ h (by omega),aLc]
 exact QdV _ _ h
theorem QmE (x:List Int×Int×Int) (J:x.1.length<=9223372036854775807) (left:Int) (I:0<=left) (h1:left<=1048576):QdG x left=some (szr x.1.length left):=by
 unfold QdG;rw[QgB _ J _ I h1,aLc];exact QdV _ _ I
theorem Qn4 (x:Int×List Int×Int×Int) (J:x.2.1.length<=9223372036854775807) (left:Int) (I:0<=left) (h1:left<=1048576):Qea x left=some (szr x.2.1.length left):=by
 unfold Qea;rw[QmE _ J _ I h1,aLc];exact QdV _ _ I
theorem Qmp (x:TCoin) (J:YX x) (left:Int) (I:0<=left) (h1:left<=1048576):QdB x left=some (szr (QcQ x) left):=by
 unfold QdB;rw[Qn4 _ J.1 _ I h1,aLc];exact QdV _ _ I
theorem Qhd (x:List TCoin) (J:bL YX x) (left:Int) (I:0<=left) (h1:left<=1048576):QaM x left=some (szr (x.length+(x.map QcQ).sum) left):=by
 unfold QaM;refine Qcn (b:=(x.map QcQ).sum) (k:=fun l=>(Qc _ (l,0)).bind _) I h1 J.1 (fun hle=>?_)
 refine Qi1 x QcQ _ (fun i left h I h1=>?_) (fun left=>?_) _ (by omega) (by omega)
 ·have e1:decide ((i:Int)<(x.length:Int))=true:=by simpa using h
  simp only[e1,Qb x i h,Qa x i _ h,aLB,QG i _ h J.1,Qmp _ (J.2 _ (aLl h)) _ I h1,aLc];exact Qll _ _ _ I
 ·simp
theorem QkJ (x:List (List TCoin)) (J:bL (bL YX) x) (left:Int) (I:0<=left) (h1:left<=1048576):Qcc x left=some (szr (x.length+(x.map JS).sum) left):=by
 unfold Qcc;refine Qcn (b:=(x.map JS).sum) (k:=fun l=>(Qc _ (l,0)).bind _) I h1 J.1 (fun hle=>?_)
 refine Qi1 x JS _ (fun i left h I h1=>?_) (fun left=>?_) _ (by omega) (by omega)
 ·have e1:decide ((i:Int)<(x.length:Int))=true:=by simpa using h
  simp only[e1,Qb x i h,Qa x i _ h,aLB,QG i _ h J.1,Qhd _ (J.2 _ (aLl h)) _ I h1,aLc];exact Qll _ _ _ I
 ·simp
theorem QkT (x:TState) (I:Qhg x) (left:Int) (J:0<=left) (h1:left<=1048576):YO x left=some (szr (QfT x) left):=by
 unfold YO;rw[Qhd _ I.1 _ J h1,aLc];refine QhN _ _ _ (k:=fun y=>(Yg x.2.2.2 y).bind fun U=>bif decide (U<0) then some (-1) else some U) J fun h=>?_
 have hl:=Qeb h
 rw[QfJ _ I.2.1 _ h (by omega),aLc]
 exact QdV _ _ h
theorem Qmn (x:TUndo) (I:Qal x) (left:Int) (J:0<=left) (h1:left<=1048576):Qdy x left=some (szr (QbI x) left):=by
 unfold Qdy;rw[QkJ _ I.1 _ J h1,aLc];refine QhN _ _ _ (k:=fun y=>(Yg x.2.2 y).bind fun U=>bif decide (U<0) then some (-1) else some U) J fun h=>?_
 have hl:=Qeb h
 rw[QfJ _ I.2.1 _ h (by omega),aLc]
 exact QdV _ _ h
theorem Qla (x:List TUndo) (J:bL Qal x) (left:Int) (I:0<=left) (h1:left<=1048576):Yk x left=some (szr (x.length+(x.map QbI).sum) left):=by
 unfold Yk;refine Qcn (b:=(x.map QbI).sum) (k:=fun l=>(Qc _ (l,0)).bind _) I h1 J.1 (fun hle=>?_)
 refine Qi1 x QbI _ (fun i left h I h1=>?_) (fun left=>?_) _ (by omega) (by omega)
 ·have e1:decide ((i:Int)<(x.length:Int))=true:=by simpa using h
  simp only[e1,Qb x i h,Qa x i _ h,aLB,QG i _ h J.1,Qmn _ (J.2 _ (aLl h)) _ I h1,aLc];exact Qll _ _ _ I
 ·simp
theorem QgU (a b:Nat) (left:Int) (h:0<=szr a left):szr b (szr a left)=szr (a+b) left:=by
 have I:=Qeb h
 rw[I.2];simp only[szr];split<;>split<;>omega
theorem Qlk (x:TChain) (hx:Qj6 x) (left:Int) (h0:0<=left) (h1:left<=1048576):QcB x left=some (szr (Qbg x) left):=by
 obtain⟨hb1,hb2,hb3,hb4,hb5⟩:=hx;unfold QcB;rw[QkC _ hb1 _ h0 h1,aLc];have fin:∀(a:Nat) (k:Int->Option Int) (b:Nat),(0<=szr a left->k (szr a left)=some (szr (a+b) left))->(bif decide (szr a left<0) then some (-1) else k (szr a left))=some (szr (a+b) left):=by
  intro a k b hk;exact QhN a b left h0 (fun h=>by rw[hk h,QgU _ _ _ h])
 have e:Qbg x=QgZ x.1.1+x.1.2.length+(x.2.1.length+(x.2.2.1.length+(QfT x.2.2.2.1+Qf3 x.2.2.2.2))):=by simp only[Qbg];omega
 rw[e];refine fin _ (fun y6=>(QaS x.2.1 y6).bind fun y7=>bif decide (y7<0) then some (-1) else (Yo x.2.2.1 y7).bind fun U=>bif decide (U<0) then some (-1) else (YO x.2.2.2.1 U).bind fun J=>bif decide (J<0) then some (-1) else (Yk x.2.2.2.2 J).bind fun I=>bif decide (I<0) then some (-1) else some I) _ fun h=>?_
 have hl:=Qeb h
 rw[QkR _ hb2.1 _ h (by omega),aLc,QgU _ _ _ h,<-Nat.add_assoc]
 refine fin _ (fun y7=>(Yo x.2.2.1 y7).bind fun U=>bif decide (U<0) then some (-1) else (YO x.2.2.2.1 U).bind fun J=>bif decide (J<0) then some (-1) else (Yk x.2.2.2.2 J).bind fun I=>bif decide (I<0) then some (-1) else some I) _ fun h=>?_
 have hl:=Qeb h
 rw[QgB _ hb3.1 _ h (by omega),aLc,QgU _ _ _ h,<-Nat.add_assoc]
 refine fin _ (fun U=>(YO x.2.2.2.1 U).bind fun J=>bif decide (J<0) then some (-1) else (Yk x.2.2.2.2 J).bind fun I=>bif decide (I<0) then some (-1) else some I) _ fun h=>?_
 have hl:=Qeb h
 rw[QkT _ hb4 _ h (by omega),aLc,QgU _ _ _ h,<-Nat.add_assoc]
 refine fin _ (fun J=>(Yk x.2.2.2.2 J).bind fun I=>bif decide (I<0) then some (-1) else some I) _ fun h=>?_
 have hl:=Qeb h
 rw[Qla _ hb5 _ h (by omega),aLc,QgU _ _ _ h]
 exact QdV _ _ h0
end GL
end Go.Dx
set_option maxHeartbeats 1000000
namespace Go.Dx
namespace GL
theorem Qkd {α:Type} (m:α->Nat):∀(l:List α) (y:α),y ∈ l->m y<=(l.map m).sum
 | x::l,y,h=>by
  simp only[List.map_cons,List.sum_cons];cases List.mem_cons.1 h with
  | inl h=>subst h;omega
  | inr h=>have:=Qkd m l y h;omega
theorem Qfa {n:Nat} (h:n<=1048576):(decide (0<=(n:Int))&&decide ((n:Int)<=(LIM:Int)))=true:=by
 have h1:(0:Int)<=n:=by omega
 have I:(n:Int)<=(LIM:Int):=by unfold LIM;omega
 rw[aLE h1,aLE I];rfl
theorem Qco {α:Type} (l:List α) (d:α) (f:List α×Int->Option ((List α×Int)⊕List α)) (I:∀(i:Nat) (acc:List α) (h:i<l.length),acc.length=l.length->f (acc,(i:Int))=some (.inl (acc.set i l[i],((i+1:Nat):Int))))
  (J:∀acc,f (acc,(l.length:Int))=some (.inr acc)):(Qc f (List.replicate (Int.toNat (l.length:Int)) d,0)).bind (fun j=>some j)=some l:=by
 rw[show Int.toNat (l.length:Int)=l.length by simp,QtA l d f I J];rfl
theorem Qjt (x:List (List UInt8)) (I:x.length<=1048576):Qbl x=some x:=by
 unfold Qbl;have J:x.length<=1048576:=by exact I
 rw[Qfa J,aLB];refine Qco x [] _ (fun i acc h ha=>?_) (fun acc=>?_)
 ·have e1:decide ((i:Int)<(x.length:Int))=true:=by simpa using h
  have U:inB (i:Int) acc=true:=Qb acc i (by omega)
  have e3:Int.toNat (i:Int)=i:=by simp
  simp only[e1,Qb x i h,U,aLB,Qa x i _ h,QG i _ h (by omega)]
  rw[e3]
 ·simp
theorem QmQ (x:Int×Int):QdK x=some x:=rfl
theorem QmD (x:TM):QdI x=some x:=rfl
theorem QiF (x:Int×Int):Qem x=some x:=rfl
theorem Qkt (x:TM):Qac x=some x:=by unfold Qac;rw[QiF,aLc]
theorem QkU (x:List (Int×Int)) (J:x.length<=1048576):QcS x=some x:=by
 unfold QcS;have U:x.length<=1048576:=by exact J
 rw[Qfa U,aLB];refine Qco x (0,0) _ (fun i acc h ha=>?_) (fun acc=>?_)
 ·have e1:decide ((i:Int)<(x.length:Int))=true:=by simpa using h
  have e2:inB (i:Int) acc=true:=Qb acc i (by omega)
  have e3:Int.toNat (i:Int)=i:=by simp
  have I:QdK (List.getD x (Int.toNat (i:Int)) (0,0))=some x[i]:=by rw[Qa x i _ h];exact QmQ _
  simp only[e1,Qb x i h,e2,aLB,I,aLc,QG i _ h (by omega)]
  rw[e3]
 ·simp
theorem Qlp (x:List TM) (J:x.length<=1048576):QcJ x=some x:=by
 unfold QcJ;have U:x.length<=1048576:=by exact J
 rw[Qfa U,aLB];refine Qco x (0,(0,0)) _ (fun i acc h ha=>?_) (fun acc=>?_)
 ·have e1:decide ((i:Int)<(x.length:Int))=true:=by simpa using h
  have e2:inB (i:Int) acc=true:=Qb acc i (by omega)
  have e3:Int.toNat (i:Int)=i:=by simp
  have I:QdI (List.getD x (Int.toNat (i:Int)) (0,(0,0)))=some x[i]:=by rw[Qa x i _ h];exact QmD _
  simp only[e1,Qb x i h,e2,aLB,I,aLc,QG i _ h (by omega)]
  rw[e3]
 ·simp
theorem QgA (x:List Int) (I:x.length<=1048576):Qan x=some x:=by
 unfold Qan;have J:x.length<=1048576:=by exact I
 rw[Qfa J,aLB];refine Qco x 0 _ (fun i acc h ha=>?_) (fun acc=>?_)
 ·have e1:decide ((i:Int)<(x.length:Int))=true:=by simpa using h
  have U:inB (i:Int) acc=true:=Qb acc i (by omega)
  have e3:Int.toNat (i:Int)=i:=by simp
  simp only[e1,Qb x i h,U,aLB,Qa x i _ h,QG i _ h (by omega)]
  rw[e3]
 ·simp
theorem QfS (x:List TM) (J:x.length<=1048576):JU x=some x:=by
 unfold JU;have U:x.length<=1048576:=by exact J
 rw[Qfa U,aLB];refine Qco x (0,(0,0)) _ (fun i acc h ha=>?_) (fun acc=>?_)
 ·have e1:decide ((i:Int)<(x.length:Int))=true:=by simpa using h
  have e2:inB (i:Int) acc=true:=Qb acc i (by omega)
  have e3:Int.toNat (i:Int)=i:=by simp
  have I:Qac (List.getD x (Int.toNat (i:Int)) (0,(0,0)))=some x[i]:=by rw[Qa x i _ h];exact Qkt _
  simp only[e1,Qb x i h,e2,aLB,I,aLc,QG i _ h (by omega)]
  rw[e3]
 ·simp
theorem Qj4 (x:List (List UInt8)×List (Int×Int)) (h1:x.1.length<=1048576) (I:x.2.length<=1048576):Qb8 x=some x:=by
 unfold Qb8;rw[Qjt _ h1,aLc,QkU _ I,aLc]
theorem QmB (x:List Int×Int×Int) (h:x.1.length<=1048576):Qdp x=some x:=by
 unfold Qdp;rw[QgA _ h,aLc]
theorem Qn7 (x:Int×List Int×Int×Int) (h:x.2.1.length<=1048576):Qek x=some x:=by
 unfold Qek;rw[QmB _ h,aLc]
theorem QmH (x:TCoin) (h:QcQ x<=1048576):QbB x=some x:=by
 unfold QbB;rw[QiF,aLc,Qn7 _ h,aLc]
theorem Qhj (x:List TCoin) (hx:JS x<=1048576):JH x=some x:=by
 unfold JH;have J:x.length<=1048576:=by have:x.length<=JS x:=Nat.le_add_right _ _;omega
 rw[Qfa J,aLB];refine Qco x ((0,0),((0,([],(0,0))),(0,false))) _ (fun i acc h ha=>?_) (fun acc=>?_)
 ·have e1:decide ((i:Int)<(x.length:Int))=true:=by simpa using h
  have U:inB (i:Int) acc=true:=Qb acc i (by omega)
  have e3:Int.toNat (i:Int)=i:=by simp
  have hm:QcQ x[i]<=1048576:=by
   have h1:=Qkd QcQ x _ (aLl h)
   have h2:(x.map QcQ).sum<=JS x:=Nat.le_add_left _ _
   omega
  have I:QbB (List.getD x (Int.toNat (i:Int)) ((0,0),((0,([],(0,0))),(0,false))))=some x[i]:=by rw[Qa x i _ h];exact QmH _ hm
  simp only[e1,Qb x i h,U,aLB,I,aLc,QG i _ h (by omega)]
  rw[e3]
 ·simp
theorem Qj2 (x:List (List TCoin)) (hx:Qgp x<=1048576):Qb7 x=some x:=by
 unfold Qb7;have J:x.length<=1048576:=by have:x.length<=Qgp x:=Nat.le_add_right _ _;omega
 rw[Qfa J,aLB];refine Qco x [] _ (fun i acc h ha=>?_) (fun acc=>?_)
 ·have e1:decide ((i:Int)<(x.length:Int))=true:=by simpa using h
  have U:inB (i:Int) acc=true:=Qb acc i (by omega)
  have e3:Int.toNat (i:Int)=i:=by simp
  have hm:JS x[i]<=1048576:=by
   have h1:=Qkd JS x _ (aLl h)
   have h2:(x.map JS).sum<=Qgp x:=Nat.le_add_left _ _
   omega
  have I:JH (List.getD x (Int.toNat (i:Int)) [])=some x[i]:=by rw[Qa x i _ h];exact Qhj _ hm
  simp only[e1,Qb x i h,U,aLB,I,aLc,QG i _ h (by omega)]
  rw[e3]
 ·simp
theorem Qlh (x:TState) (h:QfT x<=1048576):Qc6 x=some x:=by
 simp only[QfT] at h;unfold Qc6;rw[Qhj _ (by omega),aLc,QfS _ (by omega),aLc]
theorem Qml (x:TUndo) (h:QbI x<=1048576):QbE x=some x:=by
 simp only[QbI] at h;unfold QbE;rw[Qj2 _ (by omega),aLc,QfS _ (by omega),aLc]
theorem QkV (x:List TUndo) (hx:Qf3 x<=1048576):QcG x=some x:=by
 unfold QcG;have J:x.length<=1048576:=by have:x.length<=Qf3 x:=Nat.le_add_right _ _;omega
 rw[Qfa J,aLB];refine Qco x (0,([],[])) _ (fun i acc h ha=>?_) (fun acc=>?_)
 ·have e1:decide ((i:Int)<(x.length:Int))=true:=by simpa using h
  have U:inB (i:Int) acc=true:=Qb acc i (by omega)
  have e3:Int.toNat (i:Int)=i:=by simp
  have hm:QbI x[i]<=1048576:=by
   have h1:=Qkd QbI x _ (aLl h)
   have h2:(x.map QbI).sum<=Qf3 x:=Nat.le_add_left _ _
   omega
  have I:QbE (List.getD x (Int.toNat (i:Int)) (0,([],[])))=some x[i]:=by rw[Qa x i _ h];exact Qml _ hm
  simp only[e1,Qb x i h,U,aLB,I,aLc,QG i _ h (by omega)]
  rw[e3]
 ·simp
theorem Qly (x:TChain) (h:Qbg x<=1048576):JG x=some x:=by
 simp only[Qbg] at h;have I:x.1.1.length<=QgZ x.1.1:=Nat.le_add_right _ _
 unfold JG;rw[Qj4 _ (by omega) (by omega),aLc,Qlp _ (by omega),aLc,QgA _ (by omega),aLc,Qlh _ (by omega),aLc,QkV _ (by omega),aLc]
end GL
end Go.Dx
set_option maxHeartbeats 2000000
namespace Go.Dx
namespace GL
set_option synthInstance.maxSize 1000
set_option synthInstance.maxHeartbeats 400000
instance Qui:DecidableEq TCoin:=inferInstance
instance Quh:DecidableEq (List TCoin):=instDecidableEqList
instance Qud:DecidableEq (List (List TCoin)):=instDecidableEqList
instance Quj:DecidableEq TUndo:=inferInstance
instance Qug:DecidableEq (List TUndo):=instDecidableEqList
instance Que:DecidableEq TState:=inferInstance
instance Quf:DecidableEq TChain:=inferInstance
theorem beq2 (a b:Int×Int):Sh.beq (.prod (.int .i64) (.int .i64)) a b=decide (a=b):=by
 obtain⟨I,a2⟩:=a;obtain⟨J,U⟩:=b;simp only[Sh.beq];by_cases h1:I=J<;>by_cases h2:a2=U<;>simp[h1,h2]
theorem beq3 (a b:TM):Sh.beq (.prod (.int .i64) (.prod (.int .i64) (.int .i64))) a b=decide (a=b):=by
 obtain⟨I,a2,a3⟩:=a;obtain⟨J,U,b3⟩:=b;simp only[Sh.beq];by_cases h1:I=J<;>by_cases h2:a2=U<;>by_cases h3:a3=b3<;>simp[h1,h2,h3]
theorem beqB (a b:Bool):Sh.beq .bool a b=decide (a=b):=rfl
theorem YE {p:Prop} [Decidable p] (w:Int):(bif !decide p then (some (Sum.inr (Sum.inr false)):Option (Int⊕(Unit⊕Bool))) else some (Sum.inl w))=if p then some (Sum.inl w) else some (Sum.inr (Sum.inr false)):=by
 by_cases h:p<;>simp[h]
theorem YC {α:Type} [DecidableEq α] {x y:List α} (h:¬x.length=y.length):decide (x=y)=false:=aLD (fun he=>h (by rw[he]))
theorem Qjv (x y:List (List UInt8)) (hx:bL (bL bAny) x):Qbd x y=some (decide (x=y)):=by
 unfold Qbd;by_cases I:x.length=y.length
 ·have J:decide ((x.length:Int)=(y.length:Int))=true:=by simp[I]
  rw[J,Bool.not_true,aLC];refine Yl x y I _ (fun i h U=>?_) ?_
  ·have e1:decide ((i:Int)<(x.length:Int))=true:=by simpa using h
   simp only[e1,Qb x i h,Qb y i U,Qa x i _ h,Qa y i _ U,aLB,QG i _ h hx.1];exact YE _
  ·simp
 ·have J:decide ((x.length:Int)=(y.length:Int))=false:=aLD (fun h=>I (by omega))
  rw[J,YC I];rfl
theorem QmL (x y:Int×Int):Qdv x y=some (decide (x=y)):=by
 unfold Qdv;obtain⟨I,a2⟩:=x;obtain⟨J,U⟩:=y;by_cases h1:I=J<;>by_cases h2:a2=U<;>simp[h1,h2]
theorem Qip (x y:Int×Int):Qch x y=some (decide (x=y)):=by
 unfold Qch;obtain⟨I,a2⟩:=x;obtain⟨J,U⟩:=y;by_cases h1:I=J<;>by_cases h2:a2=U<;>simp[h1,h2]
theorem Qmk (x y:TM):QdC x y=some (decide (x=y)):=by
 unfold QdC;obtain⟨I,a2,a3⟩:=x;obtain⟨J,U,b3⟩:=y;by_cases h1:I=J<;>by_cases h2:a2=U<;>by_cases h3:a3=b3<;>simp[h1,h2,h3]
theorem Qkc (x y:TM):Qb2 x y=some (decide (x=y)):=by
 unfold Qb2;rw[Qip];obtain⟨I,a2⟩:=x;obtain⟨J,U⟩:=y;by_cases h1:I=J<;>by_cases h2:a2=U<;>simp[h1,h2]
theorem QkS (x y:List (Int×Int)) (hx:bL bAny x):QcI x y=some (decide (x=y)):=by
 unfold QcI;by_cases I:x.length=y.length
 ·have J:decide ((x.length:Int)=(y.length:Int))=true:=by simp[I]
  rw[J,Bool.not_true,aLC];refine Yl x y I _ (fun i h U=>?_) ?_
  ·have e1:decide ((i:Int)<(x.length:Int))=true:=by simpa using h
   simp only[e1,Qb x i h,Qb y i U,Qa x i _ h,Qa y i _ U,aLB,QG i _ h hx.1,QmL,aLc];exact YE _
  ·simp
 ·have J:decide ((x.length:Int)=(y.length:Int))=false:=aLD (fun h=>I (by omega))
  rw[J,YC I];rfl
theorem Qlr (x y:List TM) (hx:bL bAny x):Qc3 x y=some (decide (x=y)):=by
 unfold Qc3;by_cases I:x.length=y.length
 ·have J:decide ((x.length:Int)=(y.length:Int))=true:=by simp[I]
  rw[J,Bool.not_true,aLC];refine Yl x y I _ (fun i h U=>?_) ?_
  ·have e1:decide ((i:Int)<(x.length:Int))=true:=by simpa using h
   simp only[e1,Qb x i h,Qb y i U,Qa x i _ h,Qa y i _ U,aLB,QG i _ h hx.1,Qmk,aLc];exact YE _
  ·simp
 ·have J:decide ((x.length:Int)=(y.length:Int))=false:=aLD (fun h=>I (by omega))
  rw[J,YC I];rfl
theorem Qf1 (x y:List TM) (hx:bL bAny x):J1 x y=some (decide (x=y)):=by
 unfold J1;by_cases I:x.length=y.length
 ·have J:decide ((x.length:Int)=(y.length:Int))=true:=by simp[I]
  rw[J,Bool.not_true,aLC];refine Yl x y I _ (fun i h U=>?_) ?_
  ·have e1:decide ((i:Int)<(x.length:Int))=true:=by simpa using h
   simp only[e1,Qb x i h,Qb y i U,Qa x i _ h,Qa y i _ U,aLB,QG i _ h hx.1,Qkc,aLc];exact YE _
  ·simp
 ·have J:decide ((x.length:Int)=(y.length:Int))=false:=aLD (fun h=>I (by omega))
  rw[J,YC I];rfl
theorem QgC (x y:List Int) (hx:bL bAny x):Qad x y=some (decide (x=y)):=by
 unfold Qad;by_cases I:x.length=y.length
 ·have J:decide ((x.length:Int)=(y.length:Int))=true:=by simp[I]
  rw[J,Bool.not_true,aLC];refine Yl x y I _ (fun i h U=>?_) ?_
  ·have e1:decide ((i:Int)<(x.length:Int))=true:=by simpa using h
   simp only[e1,Qb x i h,Qb y i U,Qa x i _ h,Qa y i _ U,aLB,QG i _ h hx.1];exact YE _
  ·simp
 ·have J:decide ((x.length:Int)=(y.length:Int))=false:=aLD (fun h=>I (by omega))
  rw[J,YC I];rfl
theorem QkF (x y:List (List UInt8)×List (Int×Int)) (I:bL (bL bAny) x.1/\bL bAny x.2):Qcd x y=some (decide (x=y)):=by
 unfold Qcd;obtain⟨J,a2⟩:=x;obtain⟨U,b2⟩:=y;rw[Qjv _ _ I.1,QkS _ _ I.2];by_cases h1:J=U<;>by_cases h2:a2=b2<;>simp[h1,h2]
theorem QmC (x y:List Int×Int×Int) (I:bL bAny x.1):Qdq x y=some (decide (x=y)):=by
 unfold Qdq;obtain⟨J,a2,a3⟩:=x;obtain⟨U,b2,b3⟩:=y;rw[QgC _ _ I];by_cases h1:J=U<;>by_cases h2:a2=b2<;>by_cases h3:a3=b3<;>simp[h1,h2,h3]
theorem Qok (x y:Int×List Int×Int×Int) (I:bL bAny x.2.1):Qet x y=some (decide (x=y)):=by
 unfold Qet;obtain⟨J,a2⟩:=x;obtain⟨U,b2⟩:=y;rw[QmC _ _ I];by_cases h1:J=U<;>by_cases h2:a2=b2<;>simp[h1,h2]
theorem QmG (x y:TCoin) (I:YX x):QdH x y=some (decide (x=y)):=by
 unfold QdH;obtain⟨J,a2,a3,a4⟩:=x;obtain⟨U,b2,b3,b4⟩:=y;rw[Qok _ _ I,Qip,beqB];by_cases h1:J=U<;>by_cases h2:a2=b2<;>by_cases h3:a3=b3<;>by_cases h4:a4=b4<;>simp[h1,h2,h3,h4]
theorem Qg2 (x y:List TCoin) (U:bL YX x):QaR x y=some (decide (x=y)):=by
 unfold QaR;by_cases I:x.length=y.length
 ·have J:decide ((x.length:Int)=(y.length:Int))=true:=by simp[I]
  rw[J,Bool.not_true,aLC];refine Yl x y I _ (fun i h h'=>?_) ?_
  ·have e1:decide ((i:Int)<(x.length:Int))=true:=by simpa using h
   simp only[e1,Qb x i h,Qb y i h',Qa x i _ h,Qa y i _ h',aLB,QG i _ h U.1,QmG _ _ (U.2 _ (aLl h)),aLc];exact YE _
  ·simp
 ·have J:decide ((x.length:Int)=(y.length:Int))=false:=aLD (fun h=>I (by omega))
  rw[J,YC I];rfl
theorem QkK (x y:List (List TCoin)) (U:bL (bL YX) x):Qcg x y=some (decide (x=y)):=by
 unfold Qcg;by_cases I:x.length=y.length
 ·have J:decide ((x.length:Int)=(y.length:Int))=true:=by simp[I]
  rw[J,Bool.not_true,aLC];refine Yl x y I _ (fun i h h'=>?_) ?_
  ·have e1:decide ((i:Int)<(x.length:Int))=true:=by simpa using h
   simp only[e1,Qb x i h,Qb y i h',Qa x i _ h,Qa y i _ h',aLB,QG i _ h U.1,Qg2 _ _ (U.2 _ (aLl h)),aLc];exact YE _
  ·simp
 ·have J:decide ((x.length:Int)=(y.length:Int))=false:=aLD (fun h=>I (by omega))
  rw[J,YC I];rfl
theorem Qk1 (x y:TState) (I:Qhg x):QcF x y=some (decide (x=y)):=by
 unfold QcF;obtain⟨J,a2,a3,a4⟩:=x;obtain⟨U,b2,b3,b4⟩:=y;rw[Qg2 _ _ I.1,Qf1 _ _ I.2];by_cases h1:J=U<;>by_cases h2:a2=b2<;>by_cases h3:a3=b3<;>by_cases h4:a4=b4<;>simp[h1,h2,h3,h4]
theorem Qmx (x y:TUndo) (I:Qal x):QdO x y=some (decide (x=y)):=by
 unfold QdO;obtain⟨J,a2,a3⟩:=x;obtain⟨U,b2,b3⟩:=y;rw[QkK _ _ I.1,Qf1 _ _ I.2];by_cases h1:J=U<;>by_cases h2:a2=b2<;>by_cases h3:a3=b3<;>simp[h1,h2,h3]
theorem QkQ (x y:List TUndo) (U:bL Qal x):QcO x y=some (decide (x=y)):=by
 unfold QcO;by_cases I:x.length=y.length
 ·have J:decide ((x.length:Int)=(y.length:Int))=true:=by simp[I]
  rw[J,Bool.not_true,aLC];refine Yl x y I _ (fun i h h'=>?_) ?_
  ·have e1:decide ((i:Int)<(x.length:Int))=true:=by simpa using h
   simp only[e1,Qb x i h,Qb y i h',Qa x i _ h,Qa y i _ h',aLB,QG i _ h U.1,Qmx _ _ (U.2 _ (aLl h)),aLc];exact YE _
  ·simp
 ·have J:decide ((x.length:Int)=(y.length:Int))=false:=aLD (fun h=>I (by omega))
  rw[J,YC I];rfl
theorem Qlx (x y:TChain) (hx:Qj6 x):QcT x y=some (decide (x=y)):=by
 unfold QcT;obtain⟨I,J,U,hb4,hb5⟩:=hx;obtain⟨a1,a2,a3,a4,a5⟩:=x;obtain⟨b1,b2,b3,b4,b5⟩:=y;rw[QkF _ _ I,Qlr _ _ J,QgC _ _ U,Qk1 _ _ hb4,QkQ _ _ hb5];by_cases h1:a1=b1<;>by_cases h2:a2=b2<;>by_cases h3:a3=b3<;>by_cases h4:a4=b4<;>by_cases h5:a5=b5<;>simp[h1,h2,h3,h4,h5]
theorem Qfh (x y:List Int) (hx:bL bAny x):Z3 x y=some (decide (x=y)):=by
 unfold Z3;by_cases I:x.length=y.length
 ·have J:decide ((x.length:Int)=(y.length:Int))=true:=by simp[I]
  rw[J,Bool.not_true,aLC];refine Yl x y I _ (fun i h U=>?_) ?_
  ·have e1:decide ((i:Int)<(x.length:Int))=true:=by simpa using h
   simp only[e1,Qb x i h,Qb y i U,Qa x i _ h,Qa y i _ U,aLB,QG i _ h hx.1];exact YE _
  ·simp
 ·have J:decide ((x.length:Int)=(y.length:Int))=false:=aLD (fun h=>I (by omega))
  rw[J,YC I];rfl
theorem Qbw (x y:List TM) (hx:bL bAny x):Zc x y=some (decide (x=y)):=by
 unfold Zc;by_cases I:x.length=y.length
 ·have J:decide ((x.length:Int)=(y.length:Int))=true:=by simp[I]
  rw[J,Bool.not_true,aLC];refine Yl x y I _ (fun i h U=>?_) ?_
  ·have e1:decide ((i:Int)<(x.length:Int))=true:=by simpa using h
   simp only[e1,Qb x i h,Qb y i U,Qa x i _ h,Qa y i _ U,aLB,QG i _ h hx.1,beq3];exact YE _
  ·simp
 ·have J:decide ((x.length:Int)=(y.length:Int))=false:=aLD (fun h=>I (by omega))
  rw[J,YC I];rfl
theorem Qjw (x y:List Int×Int×Int) (I:bL bAny x.1):Qa8 x y=some (decide (x=y)):=by
 unfold Qa8;obtain⟨J,a2,a3⟩:=x;obtain⟨U,b2,b3⟩:=y;rw[Qfh _ _ I];by_cases h1:J=U<;>by_cases h2:a2=b2<;>by_cases h3:a3=b3<;>simp[h1,h2,h3]
theorem QkL (x y:Int×List Int×Int×Int) (I:bL bAny x.2.1):QbS x y=some (decide (x=y)):=by
 unfold QbS;obtain⟨J,a2⟩:=x;obtain⟨U,b2⟩:=y;rw[Qjw _ _ I];by_cases h1:J=U<;>by_cases h2:a2=b2<;>simp[h1,h2]
theorem Qkr (x y:TCoin) (I:YX x):Qcb x y=some (decide (x=y)):=by
 unfold Qcb;obtain⟨J,a2,a3,a4⟩:=x;obtain⟨U,b2,b3,b4⟩:=y;rw[QkL _ _ I,beqB,beq2];by_cases h1:J=U<;>by_cases h2:a2=b2<;>by_cases h3:a3=b3<;>by_cases h4:a4=b4<;>simp[h1,h2,h3,h4]
theorem Yu (x y:List TCoin) (g:TCoin->TCoin->Option Bool) (hg:∀a b,YX a->g a b=some (decide (a=b))) (U:bL YX x):Qw x y g=some (decide (x=y)):=by
 unfold Qw;by_cases I:x.length=y.length
 ·have J:decide ((x.length:Int)=(y.length:Int))=true:=by simp[I]
  rw[J,Bool.not_true,aLC];refine Yl x y I _ (fun i h h'=>?_) ?_
  ·have e1:decide ((i:Int)<(x.length:Int))=true:=by simpa using h
   simp only[e1,Qb x i h,Qb y i h',Qa x i _ h,Qa y i _ h',aLB,QG i _ h U.1,hg _ _ (U.2 _ (aLl h)),aLc];exact YE _
  ·simp
 ·have J:decide ((x.length:Int)=(y.length:Int))=false:=aLD (fun h=>I (by omega))
  rw[J,YC I];rfl
theorem Qf9 (x y:List TCoin) (I:bL YX x):JN x y=some (decide (x=y)):=by
 unfold JN;rw[Yu x y _ (fun a b J=>by rw[Qkr a b J];rfl) I];rfl
theorem Qe9 (x y:List TM) (I:bL bAny x):Y1 x y=some (decide (x=y)):=by
 unfold Y1;rw[Qbw _ _ I];rfl
theorem Qi3 (x y:TState) (I:Qhg x):QaD x y=some (decide (x=y)):=by
 unfold QaD;obtain⟨J,a2,a3,a4⟩:=x;obtain⟨U,b2,b3,b4⟩:=y;rw[Qf9 _ _ I.1,Qe9 _ _ I.2];by_cases h1:J=U<;>by_cases h2:a2=b2<;>by_cases h3:a3=b3<;>by_cases h4:a4=b4<;>simp[h1,h2,h3,h4]
theorem QmN (x y:List Int) (hx:bL bAny x):QdM x y=some (decide (x=y)):=by
 unfold QdM;by_cases I:x.length=y.length
 ·have J:decide ((x.length:Int)=(y.length:Int))=true:=by simp[I]
  rw[J,Bool.not_true,aLC];refine Yl x y I _ (fun i h U=>?_) ?_
  ·have e1:decide ((i:Int)<(x.length:Int))=true:=by simpa using h
   simp only[e1,Qb x i h,Qb y i U,Qa x i _ h,Qa y i _ U,aLB,QG i _ h hx.1];exact YE _
  ·simp
 ·have J:decide ((x.length:Int)=(y.length:Int))=false:=aLD (fun h=>I (by omega))
  rw[J,YC I];rfl
theorem QmR (x y:List Int×Int×Int) (I:bL bAny x.1):Qdt x y=some (decide (x=y)):=by
 unfold Qdt;obtain⟨J,a2,a3⟩:=x;obtain⟨U,b2,b3⟩:=y;rw[QmN _ _ I];by_cases h1:J=U<;>by_cases h2:a2=b2<;>by_cases h3:a3=b3<;>simp[h1,h2,h3]
theorem Qh4 (x y:List TCoin) (U:bL YX x):Qbp x y=some (decide (x=y)):=by
 unfold Qbp;by_cases I:x.length=y.length
 ·have J:decide ((x.length:Int)=(y.length:Int))=true:=by simp[I]
  rw[J,Bool.not_true,aLC];refine Yl x y I _ (fun i h h'=>?_) ?_
  ·have e1:decide ((i:Int)<(x.length:Int))=true:=by simpa using h
   simp only[e1,Qb x i h,Qb y i h',Qa x i _ h,Qa y i _ h',aLB,QG i _ h U.1,beq2,beqB,QmR _ _ (U.2 _ (aLl h)),aLc];generalize x[i]=a;generalize y[i]=b;obtain⟨a1,⟨a2,a3⟩,a4,a5⟩:=a;obtain⟨b1,⟨b2,b3⟩,b4,b5⟩:=b;by_cases h1:a1=b1<;>by_cases h2:a2=b2<;>by_cases h3:a3=b3<;>by_cases h4:a4=b4<;>by_cases h5:a5=b5<;>simp[h1,h2,h3,h4,h5]
  ·simp
 ·have J:decide ((x.length:Int)=(y.length:Int))=false:=aLD (fun h=>I (by omega))
  rw[J,YC I];rfl
theorem Qh0 (x y:List TM) (hx:bL bAny x):QbC x y=some (decide (x=y)):=by
 unfold QbC;by_cases I:x.length=y.length
 ·have J:decide ((x.length:Int)=(y.length:Int))=true:=by simp[I]
  rw[J,Bool.not_true,aLC];refine Yl x y I _ (fun i h U=>?_) ?_
  ·have e1:decide ((i:Int)<(x.length:Int))=true:=by simpa using h
   simp only[e1,Qb x i h,Qb y i U,Qa x i _ h,Qa y i _ U,aLB,QG i _ h hx.1,beq3];exact YE _
  ·simp
 ·have J:decide ((x.length:Int)=(y.length:Int))=false:=aLD (fun h=>I (by omega))
  rw[J,YC I];rfl
theorem Qmw (x y:TState) (I:Qhg x):Qdz x y=some (decide (x=y)):=by
 unfold Qdz;obtain⟨J,a2,a3,a4⟩:=x;obtain⟨U,b2,b3,b4⟩:=y;rw[Qh4 _ _ I.1,Qh0 _ _ I.2];by_cases h1:J=U<;>by_cases h2:a2=b2<;>by_cases h3:a3=b3<;>by_cases h4:a4=b4<;>simp[h1,h2,h3,h4]
end GL
end Go.Dx
set_option maxHeartbeats 2000000
namespace Go.Dx
namespace GL
def mIn (v lo hi:Int):Bool:=decide (lo<=v)&&decide (v<=hi)
theorem Zm (v lo hi:Int):QP v lo hi=some (mIn v lo hi):=by
 unfold QP mIn;cases decide (lo<=v)<;>rfl
theorem Zf (v lo hi:Int):QV v lo hi=some (mIn v lo hi):=by
 unfold QV mIn;cases decide (lo<=v)<;>rfl
theorem Qew (v:Int):JX v=some (mIn v 1 999):=by unfold JX;rw[Zm];rfl
theorem Qeq (v:Int):J2 v=some (mIn v 1 999):=by unfold J2;rw[Zf];rfl
theorem Qde (v:Int):JB v=some (mIn v 1 60):=by unfold JB;rw[Zf];rfl
def mRef (r:Int×Int):Bool:=mIn r.1 1 60&&mIn r.2 0 3
theorem Qm4 (r:Int×Int):Qcq r=some (mRef r):=by
 unfold Qcq mRef;rw[Qde,Zf];cases mIn r.1 1 60<;>rfl
theorem QfZ (r:Int×Int):Qcs r=some (mRef r):=by
 unfold Qcs mRef;rw[Zm,Zm];cases mIn r.1 1 60<;>rfl
theorem Qkw (l:List Int) (I:l.length<BIG) (p:Int->Bool) (f:Int->Option Bool) (J:∀a,a ∈ l->f a=some (p a)):ZG l f=some (idxF p l):=by
 unfold ZG;refine Jl l p _ (fun i h=>?_) (by simp only[dge,aLC])
 simp only[dlt h,Qb l i h,Qa l i _ h,aLB,J _ (aLl h),aLc,wsucc h I];cases p l[i]<;>rfl
theorem Qck (l:List Int) (I:l.length<BIG) (p:Int->Bool) (f:Int->Option Bool) (J:∀a,a ∈ l->f a=some (p a)):QT l f=some (l.any p):=by
 unfold QT;rw[Qkw l I p f J,aLc,ZH]
theorem Qlz (l:List Int) (I:l.length<BIG):Qc7 l=some (l.all fun k=>mIn k 1 999):=by
 unfold Qc7;rw[Qck l I (fun k=>!mIn k 1 999) _ (fun a _=>by unfold Qc9;rw[Qeq];rfl),aLc]
 rw[List.all_eq_not_any_not]
def QeG (l:List Int):Bool:=(List.range (l.length - 1)).all fun i=>decide (List.getD l i 0<List.getD l (i+1) 0)
theorem Qi5 {β:Type} (l:List Int) (hl:l.length<BIG) (r:β) (f:Int->Option (Int⊕(Unit⊕β)))
  (I:∀(i:Nat),i+1<l.length->f ((i+1:Nat):Int)=some (if List.getD l (i+1) 0<=List.getD l i 0 then .inr (.inr r) else .inl ((i+2:Nat):Int))) (he:∀n:Nat,l.length<=n->f (n:Int)=some (.inr (.inl ()))) :
  Qc f 1=some (if QeG l then .inl () else .inr r):=by
 have key:∀(k i:Nat),i+k=l.length - 1->Qc f ((i+1:Nat):Int)=some (if (List.range' i k).all (fun i=>decide (List.getD l i 0<List.getD l (i+1) 0)) then .inl () else .inr r):=by
  intro k;induction k with
  | zero=>intro i hi;rw[Qh (he _ (by omega))];simp
  | succ k U=>
   intro i hi;have I:=I i (by omega)
   rw[List.range'_succ,List.all_cons];by_cases J:List.getD l (i+1) 0<=List.getD l i 0
   ·rw[if_pos J] at I
    rw[Qh I,aLD (p:=List.getD l i 0<List.getD l (i+1) 0) (by omega)];rfl
   ·rw[if_neg J] at I
    rw[Qv I,U (i+1) (by omega),aLE (p:=List.getD l i 0<List.getD l (i+1) 0) (by omega),Bool.true_and]
 have:=key (l.length - 1) 0 (by omega)
 rw[<-List.range_eq_range'] at this;exact this
theorem Qja (l:List Int) (I:l.length<BIG) (i:Nat) (h:i+1<l.length):decide (((i+1:Nat):Int)<(l.length:Int))=true/\inB ((i+1:Nat):Int) l=true/\inB (IntKind.wrap .i64 (((i+1:Nat):Int) - 1)) l=true/\
  List.getD l (Int.toNat ((i+1:Nat):Int)) 0=List.getD l (i+1) 0/\List.getD l (Int.toNat (IntKind.wrap .i64 (((i+1:Nat):Int) - 1))) 0=List.getD l i 0/\IntKind.wrap .i64 (((i+1:Nat):Int)+1)=((i+2:Nat):Int):=by
 rw[wpred (i:=i) (n:=l.length) (by omega) I]
 exact⟨dlt h,Qb l _ h,Qb l _ (by omega),by simp,by simp,wsucc h I⟩
theorem dge' {i n:Nat} (h:n<=i):decide ((i:Int)<(n:Int))=false:=by simp;omega
theorem Qkl (l:List Int) (J:l.length<BIG):Qca l=some (QeG l):=by
 unfold Qca;rw[Qi5 l J false _ (fun i h=>by
  obtain⟨h1,U,h3,h4,h5,h6⟩:=Qja l J i h;simp only[h1,U,h3,h4,h5,h6,aLB];by_cases I:List.getD l (i+1) 0<=List.getD l i 0
  ·rw[if_pos I,aLE I];rfl
  ·rw[if_neg I,aLD I];rfl) (fun n hn=>by simp only[dge' hn,aLC]),aLc]
 cases QeG l<;>rfl
theorem Qqr {β:Type} (l:List Int) (J:l.length<BIG) (r:β) (f:Int->Option (Int⊕(Unit⊕β)))
  (I:∀(i:Nat) (h:i<l.length),f (i:Int)=some (if mIn l[i] 1 999 then .inl ((i+1:Nat):Int) else .inr (.inr r))) (he:f (l.length:Int)=some (.inr (.inl ()))) :
  Qc f 0=some (if (l.all fun k=>mIn k 1 999) then .inl () else .inr r):=by
 rw[JA l (fun _ a=>if !mIn a 1 999 then some r else none) f (fun i h=>by rw[I i h];cases mIn l[i] 1 999<;>rfl) he,Qe8,List.all_eq_not_any_not]
 cases l.any fun x=>!mIn x 1 999<;>rfl
end GL
end Go.Dx
set_option maxHeartbeats 2000000
namespace Go.Dx
namespace GL
abbrev TRu:=List Int×Int×Int
abbrev TOut:=Int×List Int×Int×Int
def Q7 (r:TRu):Int:=if mIn (r.1.length:Int) 1 3 then (if (r.1.all fun k=>mIn k 1 999)&&mIn r.2.1 1 (r.1.length:Int)&&mIn r.2.2 0 999 then (if QeG r.1 then 0 else 1) else 3) else 2
theorem Qb3 (n:Int):Yy n=some (mIn n 0 999):=by unfold Yy;rw[Zf];rfl
theorem Qb9 (n:Int):Yq n=some (mIn n 0 999):=by unfold Yq;rw[Zm];rfl
theorem QfP (r:TRu) (I:r.1.length<BIG):JP r=some (Q7 r):=by
 unfold JP Q7;simp only[Zf,Qlz _ I,Qkl _ I,Qb3,aLc];cases mIn (r.1.length:Int) 1 3<;>cases (r.1.all fun k=>mIn k 1 999)<;>cases mIn r.2.1 1 (r.1.length:Int)<;>cases mIn r.2.2 0 999<;>cases QeG r.1<;>rfl
theorem QeD (r:TRu) (I:r.1.length<BIG):JL r=some (Q7 r):=by
 unfold JL Q7;simp only[Zm,Qb9,aLc];rw[Qqr r.1 I 3 _ (fun i h=>by
  simp only[dlt h,Qb r.1 i h,Qa r.1 i _ h,aLB,Qew,aLc,wsucc h I];cases mIn r.1[i] 1 999<;>rfl) (by simp only[dge,aLC]),aLc]
 cases mIn (r.1.length:Int) 1 3 with
 | false=>rfl
 | true=>
  cases (r.1.all fun k=>mIn k 1 999) with
  | false=>rfl
  | true=>
   simp only[Bool.not_true,aLC,if_true,Sum.elim_inl];rw[Qi5 r.1 I 1 _ (fun i h=>by
    obtain⟨h1,U,h3,h4,h5,h6⟩:=Qja r.1 I i h;simp only[h1,U,h3,h4,h5,h6,aLB];by_cases J:List.getD r.1 (i+1) 0<=List.getD r.1 i 0
    ·rw[if_pos J,aLE J];rfl
    ·rw[if_neg J,aLD J];rfl) (fun n hn=>by simp only[dge' hn,aLC]),aLc]
   cases mIn r.2.1 1 (r.1.length:Int)<;>cases mIn r.2.2 0 999<;>cases QeG r.1<;>rfl
def mOut (o:TOut):Int:=if mIn o.1 1 1000000 then Q7 o.2 else 3
theorem Qid (o:TOut) (I:o.2.1.length<BIG):Qcm o=some (mOut o):=by
 unfold Qcm mOut;rw[Zm,aLc,QeD _ I];cases mIn o.1 1 1000000<;>rfl
def Qr (a b:Int×Int):Bool:=if a.1=b.1 then decide (a.2<b.2) else decide (a.1<b.1)
theorem QgY (a b:Int×Int):QaT a b=some (Qr a b):=by
 unfold QaT Qr;by_cases h:a.1=b.1<;>simp[h]
def mCmp (a b:Int):Int:=if a<b then -1 else if b<a then 1 else 0
theorem Qfm (a b:Int):Z5 a b=some (mCmp a b):=by
 unfold Z5 QaC mCmp;by_cases h1:a<b
 ·simp[h1]
 ·by_cases I:b<a<;>simp[h1,I]
theorem QrX (a b:Int):QeB [a,b]=some (if a=0 then b else a):=by
 unfold QeB;by_cases I:a=0
 ·subst I
  rw[Qv (s':=(1:Int)) rfl];by_cases hb:b=0
  ·subst hb
   rw[Qv (s':=(2:Int)) rfl,Qh (x:=Sum.inl ()) rfl];rfl
  ·rw[Qh (x:=Sum.inr b) (by
    show (bif !decide (b=0) then some (Sum.inr (Sum.inr b)) else _)=_
    rw[aLD hb];rfl)]
   rfl
 ·rw[Qh (x:=Sum.inr a) (by
   show (bif !decide (a=0) then some (Sum.inr (Sum.inr a)) else _)=_
   rw[aLD I];rfl),if_neg I]
  rfl
def Qe0 (a b:Int×Int):Int:=if mCmp a.1 b.1=0 then mCmp a.2 b.2 else mCmp a.1 b.1
theorem Qfg (a b:Int×Int):Y5 a b=some (Qe0 a b):=by
 unfold Y5 Qe0;rw[Qfm,Qfm,aLc,aLc,QrX];rfl
theorem QpS (a b:Int×Int):decide (0<=Qe0 a b) = !Qr a b:=by
 unfold Qe0 Qr mCmp;by_cases h1:a.1<b.1
 ·have I:¬a.1=b.1:=by omega
  simp[h1,I]
 ·by_cases J:b.1<a.1
  ·have I:¬a.1=b.1:=by omega
   simp[h1,J,I]
  ·have I:a.1=b.1:=by omega
   simp only[h1,J,if_false,if_true,I,Int.lt_irrefl];by_cases U:a.2<b.2
   ·simp[U]
   ·by_cases h5:b.2<a.2<;>simp[U,h5]
def dC:TCoin:=((0,0),((0,([],(0,0))),(0,false)))
def Qi0 (l:List TCoin) (i:Nat) (x:TCoin):Int:=if mRef x.1&&mIn x.2.2.1 0 999 then (if mOut x.2.1=0 then (if decide (0<i)&&!Qr (List.getD l (i - 1) dC).1 x.1 then 1 else 0) else mOut x.2.1) else 3
def Zv (l:List TCoin):Int:=if (40:Int)<(l.length:Int) then 2 else code (Qi0 l) l
theorem Qtp (l:List TCoin) (I:l.length<BIG) (i:Nat) (h:i<l.length) (J:0<i):inB (IntKind.wrap .i64 ((i:Int) - 1)) l=true/\List.getD l (Int.toNat (IntKind.wrap .i64 ((i:Int) - 1))) dC=List.getD l (i - 1) dC:=by
 obtain⟨j,rfl⟩:∃j,i=j+1:=⟨i - 1,by omega⟩
 rw[wpred (i:=j) (n:=l.length) (by omega) I]
 exact⟨Qb l j (by omega),by simp⟩
theorem QeR (l:List TCoin) (hl:l.length<BIG) (hk:∀x,x ∈ l->x.2.1.2.1.length<BIG):JM l=some (Zv l):=by
 unfold JM Zv;by_cases I:(40:Int)<(l.length:Int)
 ·rw[aLE I,if_pos I];rfl
 ·rw[aLD I,if_neg I,aLC]
  refine JD l (Qi0 l) _ (fun i h=>?_) (by simp only[dge,aLC])
  have hx:=hk _ (aLl h)
  simp only[dlt h,Qb l i h,Qa l i _ h,aLB,wsucc h hl,QfZ,Qb9,Qid _ hx,QgY,aLc];unfold Qi0;cases h1:mRef l[i].1<;>cases h2:mIn l[i].2.2.1 0 999<;>try rfl
  simp only[Bool.not_true,aLC,aLc,Bool.true_and,if_true];by_cases U:mOut l[i].2.1=0
  ·rw[aLE U]
   simp only[U,Bool.not_true,aLC,if_true];by_cases J:0<i
   ·obtain⟨e1,e2⟩:=Qtp l hl i h J
    rw[show decide ((0:Int)<(i:Int))=true by simpa using J,aLE J,aLB,e1,aLB]
    show (Option.bind (some (!Qr (List.getD l (Int.toNat (IntKind.wrap .i64 ((i:Int) - 1))) dC).1 l[i].1)) _)=_
    rw[e2];cases Qr (List.getD l (i - 1) dC).1 l[i].1<;>rfl
   ·rw[show decide ((0:Int)<(i:Int))=false by simpa using J,aLD J];rfl
  ·rw[aLD U];simp[U]
end GL
end Go.Dx
set_option maxHeartbeats 2000000
namespace Go.Dx
namespace GL
theorem Qe {α:Type} {n:Nat} {x:Option α} (h:n<=LIM):(bif decide (n<=LIM) then x else none)=x:=by rw[aLE h];rfl
theorem YA {n:Int} (I:0<=n) (h1:n<=9223372036854775807):Zy n=some (Lib.itoa n):=by
 unfold Zy QbM;rw[Qtt n (by omega) h1];rfl
theorem Za {n:Int} (I:0<=n) (h1:n<=9223372036854775807):QI n=some (Lib.itoa n):=QtB I h1
theorem QE {v a b:Int}:mIn v a b=true↔a<=v/\v<=b:=by simp[mIn]
structure okR (r:TRu):Prop where
 len:1<=r.1.length/\r.1.length<=3
 keys:∀k,k ∈ r.1->1<=k/\k<=999
 need:1<=r.2.1/\r.2.1<=3
 after:0<=r.2.2/\r.2.2<=999
theorem ZF {r:TRu} (h:Q7 r=0):okR r:=by
 unfold Q7 at h;cases h1:mIn (r.1.length:Int) 1 3 with
 | false=>rw[h1] at h;simp at h
 | true=>
  rw[h1,if_pos rfl] at h;cases I:(r.1.all fun k=>mIn k 1 999) with
  | false=>rw[I] at h;simp at h
  | true=>
   cases U:mIn r.2.1 1 (r.1.length:Int) with
   | false=>rw[U] at h;simp at h
   | true=>
    cases J:mIn r.2.2 0 999 with
    | false=>rw[J] at h;simp at h
    | true=>
     rw[QE] at h1 U J;rw[List.all_eq_true] at I;exact⟨by omega,fun k hk=>QE.1 (I k hk),by omega,J⟩
theorem Qq {n:Int} (I:0<=n) (h1:n<=1000000):(Lib.itoa n).length<=19:=Qni I (by omega)
def Zd (l:List Int) (sep:List UInt8):List UInt8:=Lib.join (l.map Lib.itoa) sep
theorem Qtq (l:List Int) (h:∀k,k ∈ l->0<=k/\k<=1000000):Lib.lens (l.map Lib.itoa)<=19 * l.length:=by
 induction l with
 | nil=>simp[Lib.lens]
 | cons a l I=>
  have h1:=I fun k hk=>h k (aLp _ hk)
  have J:=Qq (h a aLm).1 (h a aLm).2
  simp only[Lib.lens,List.map_cons,List.map_map,List.sum_cons,aLh] at h1 ⊢;omega
theorem QbH (l:List Int) (sep:List UInt8) (h:∀k,k ∈ l->0<=k/\k<=1000000):(Zd l sep).length<=(19+sep.length) * l.length:=by
 unfold Zd;cases l with
 | nil=>simp[Lib.join_nil]
 | cons a l=>
  have:=Qtq (a::l) h
  rw[List.map_cons,Lib.join_length,List.length_map];rw[List.map_cons] at this;have e:(19+sep.length) * (a::l).length=19 * (a::l).length+(sep.length * l.length+sep.length):=by
   rw[Nat.add_mul,aLh,Nat.mul_succ sep.length]
  omega
theorem Qfl (l:List Int) (sep:List UInt8) (J:l.length<=100000) (U:sep.length<=100) (h:∀k,k ∈ l->0<=k/\k<=1000000):Jr l sep=some (Zd l sep):=by
 unfold Jr;rw[Zu (σ:=List (List UInt8)) l (fun acc a=>acc++[Lib.itoa a]) (fun t i=>(t,i)) (fun t=>t) (fun t i=>t.length=i) _ (fun i hi t I=>by
   obtain⟨k0,k1⟩:=h _ (aLl hi);refine⟨?_,by simp[I]⟩
   simp only[dlt hi,Qb l i hi,Qa l i _ hi,aLB,YA k0 (by omega),aLc,wsucc hi (by unfold BIG;omega)]
   rw[Qe (by simp only[aLh,aLj];unfold LIM;omega)];rfl) (fun t I=>by simp only[dge,aLC]) [] rfl,aLc,foldl_map,aLx]
 have h1:=QbH l sep h
 have h2:(19+sep.length) * l.length<=119 * 100000:=Nat.mul_le_mul (by omega) J
 unfold ZW;rw[Qjy _ _ (by rw[List.length_map];omega) (by unfold Zd at h1;omega)];rfl
def Qt (r:TRu) (b:List UInt8):List UInt8:=Lib.itoa r.2.1++b++[111,102]++b++Zd r.1 [44]++(if r.2.2=0 then [] else b++[97,102,116,101,114]++b++Lib.itoa r.2.2)
theorem QeW {r:TRu} (h:okR r) (b:List UInt8) (hb:b.length<=1):(Qt r b).length<=120:=by
 have h1:=QbH r.1 [44] fun k hk=>by have:=h.keys k hk;omega
 have I:=Qq (n:=r.2.1) (by have:=h.need;omega) (by have:=h.need;omega)
 have J:=Qq (n:=r.2.2) (by have:=h.after;omega) (by have:=h.after;omega)
 have U:=h.len
 simp only[aLh,aLj] at h1;unfold Qt;split<;>simp only[aLi,aLh,aLj]<;>omega
theorem Qer {r:TRu} (h:okR r) (b:List UInt8) (hb:b.length<=1):Y8 r b=some (Qt r b):=by
 have h1:=QbH r.1 [44] fun k hk=>by have:=h.keys k hk;omega
 have J:=Qq (n:=r.2.1) (by have:=h.need;omega) (by have:=h.need;omega)
 have U:=Qq (n:=r.2.2) (by have:=h.after;omega) (by have:=h.after;omega)
 have h4:=h.len
 simp only[aLh,aLj] at h1;unfold Y8 Qt;rw[YA (n:=r.2.1) (by have:=h.need;omega) (by have:=h.need;omega),aLc,Qfl r.1 [44] (by omega) (by simp) fun k hk=>by have:=h.keys k hk;omega]
 simp only[aLc,aLo];rw[YA (n:=r.2.2) (by have:=h.after;omega) (by have:=h.after;omega)]
 simp only[aLc];rw[Qe,Qe,Qe,Qe]
 ·by_cases I:r.2.2=0
  ·rw[aLE I,if_pos I];simp
  ·rw[aLD I,if_neg I,Bool.not_false,aLB,Qe,Qe,Qe,Qe]
   ·rfl
   all_goals ((try simp only[aLi,aLh,aLj]);unfold LIM;omega)
 all_goals ((try simp only[aLi,aLh,aLj]);unfold LIM;omega)
theorem Qf8 {α:Type} (l:List α) (g:α->List UInt8) (f:List UInt8×Int->Option ((List UInt8×Int)⊕List UInt8)) (B:Nat->Nat)
  (U:∀(i:Nat) (h:i<l.length) (acc:List UInt8),acc.length<=B i->f (acc,(i:Int))=some (.inl (acc++g l[i],((i+1:Nat):Int)))/\(acc++g l[i]).length<=B (i+1))
  (he:∀acc,f (acc,(l.length:Int))=some (.inr acc)):∀(k i:Nat) (acc:List UInt8),i+k=l.length->acc.length<=B i->Qc f (acc,(i:Int))=some (acc++((l.drop i).map g).flatten)
 | 0,i,acc,hi,_=>by
  obtain rfl:i=l.length:=by omega
  rw[Qh (he acc)];simp
 | k+1,i,acc,hi,ha=>by
  have h1:i<l.length:=by omega
  obtain⟨I,J⟩:=U i h1 acc ha;rw[Qv I,Qf8 l g f B U he k (i+1) _ (by omega) J,aLr h1,List.map_cons,List.flatten_cons,List.append_assoc]
theorem Qh7 {r:TRu} (h:okR r):J8 r=some (Qt r [32]):=by
 have h2:=Qq (n:=r.2.1) (by have:=h.need;omega) (by have:=h.need;omega)
 have h3:=Qq (n:=r.2.2) (by have:=h.after;omega) (by have:=h.after;omega)
 obtain⟨⟨k0,I⟩,hr⟩:∃p:Int×List Int,r.1=p.1::p.2:=by
  have:=h.len
  match hq:r.1 with
  | []=>rw[hq] at this;simp at this
  | a::l=>exact⟨(a,l),rfl⟩
 have hr:r.1=k0::I:=hr
 have hlen:=h.len
 have hk:=h.keys
 rw[hr] at hlen hk;have hk0:=hk k0 aLm
 have h5:=Qq (n:=k0) (by omega) (by omega)
 unfold J8 Qt;rw[hr];rw[Za (n:=r.2.1) (by have:=h.need;omega) (by have:=h.need;omega),aLc]
 rw[show inB 0 (k0::I)=true from Qb _ 0 (by simp),show List.getD (k0::I) (Int.toNat 0) 0=k0 from rfl,aLB,Za (n:=k0) (by omega) (by omega),aLc]
 simp only[aLo];rw[Qe,Qe]
 ·have:=Qf8 (k0::I) (fun k=>44::Lib.itoa k) (fun (s15:List UInt8×Int)=>
 bif (decide ((s15.2:Int)<(List.length (k0::I):Int))) then
 bif decide (List.length s15.1+List.length [44]<=LIM) then
 bif (inB s15.2 (k0::I)) then
 (QI (List.getD (k0::I) (Int.toNat s15.2) 0)).bind fun (J:List UInt8)=>
 bif decide (List.length (s15.1++[44])+List.length J<=LIM) then
 some (Sum.inl (s15.1++[44]++J,IntKind.wrap .i64 (s15.2+1)))
 else none
 else none
 else none
 else
 some (Sum.inr s15.1)) (fun i=>100+20 * i) (fun i hi acc U=>by
    have hki:=hk _ (aLl hi)
    have hli:=Qq (n:=(k0::I)[i]) (by omega) (by omega)
    refine⟨?_,by simp only[aLi,aLh];omega⟩
    have hi3:i<3:=by omega
    simp only[dlt hi,Qb _ i hi,Qa _ i _ hi,aLB,Za (n:=(k0::I)[i]) (by omega) (by omega),aLc,wsucc hi (by unfold BIG;omega)]
    rw[Qe,Qe]
    ·simp
    all_goals ((try simp only[aLi,aLh,aLj]);unfold LIM;omega)) (fun acc=>by simp only[dge,aLC]) I.length 1 (Lib.itoa r.2.1++[32,111,102,32]++Lib.itoa k0) (by simp;omega) (by simp only[aLi,aLh,aLj];omega)
  rw[show ((1:Nat):Int)=1 from rfl] at this
  rw[this,aLc,List.drop_succ_cons,List.drop_zero];have e1:Lib.itoa r.2.1++[32,111,102,32]++Lib.itoa k0++(I.map fun k=>44::Lib.itoa k).flatten=Lib.itoa r.2.1++[32]++[111,102]++[32]++Zd (k0::I) [44]:=by
   unfold Zd;rw[List.map_cons,Lib.join_cons,Lib.joinTail,List.map_map];simp[Function.comp_def]
  rw[e1];have h1:=QbH (k0::I) [44] fun k hk'=>by have:=hk k hk';omega
  simp only[aLh,aLj] at h1 hlen;by_cases U:r.2.2=0
  ·rw[aLE U,if_pos U];simp
  ·rw[aLD U,if_neg U,Bool.not_false,aLB,Za (n:=r.2.2) (by have:=h.after;omega) (by have:=h.after;omega),aLc,Qe,Qe]
   ·simp
   all_goals ((try simp only[aLi,aLh,aLj]);unfold LIM;omega)
 all_goals ((try simp only[aLi,aLh,aLj]);unfold LIM;omega)
end GL
end Go.Dx
set_option maxHeartbeats 2000000
namespace Go.Dx
namespace GL
theorem Qnm {α:Type} (l:List α) (g:α->List UInt8) (f:List UInt8×Int->Option ((List UInt8×Int)⊕List UInt8)) (B:Nat->Nat)
  (I:∀(i:Nat) (h:i<l.length) (acc:List UInt8),acc.length<=B i->f (acc,(i:Int))=some (.inl (acc++g l[i],((i+1:Nat):Int)))/\(acc++g l[i]).length<=B (i+1))
  (he:∀acc,f (acc,(l.length:Int))=some (.inr acc)):(Qc f ([],0)).bind (fun j=>some j)=some ((l.map g).flatten):=by
 have:=Qf8 l g f B I he l.length 0 [] (by omega) (Nat.zero_le _)
 rw[show ((0:Nat):Int)=0 from rfl] at this
 rw[this];simp
structure okC (x:TCoin):Prop where
 tx:1<=x.1.1/\x.1.1<=60
 at_:0<=x.1.2/\x.1.2<=3
 val:1<=x.2.1.1/\x.2.1.1<=1000000
 rule:Q7 x.2.1.2=0
 height:0<=x.2.2.1/\x.2.2.1<=999
theorem YK {l:List TCoin} (h:Zv l=0):l.length<=40/\∀x,x ∈ l->okC x:=by
 unfold Zv at h;by_cases U:(40:Int)<(l.length:Int)
 ·rw[if_pos U] at h;cases h
 ·rw[if_neg U] at h
  refine⟨by omega,fun x hx=>?_⟩
  obtain⟨i,hi,rfl⟩:=List.mem_iff_getElem.1 hx;have I:=Yh h i l[i] (aLf hi)
  unfold Qi0 at I;cases h1:mRef l[i].1 with
  | false=>rw[h1] at I;simp at I
  | true=>
   cases h2:mIn l[i].2.2.1 0 999 with
   | false=>rw[h2] at I;simp at I
   | true=>
    rw[h1,h2] at I;by_cases J:mOut l[i].2.1=0
    ·unfold mRef at h1
     rw[aLg,QE,QE] at h1;unfold mOut at J;cases h4:mIn l[i].2.1.1 1 1000000 with
     | false=>rw[h4] at J;simp at J
     | true=>
      rw[h4,if_pos rfl] at J;exact⟨h1.1,h1.2,QE.1 h4,J,QE.1 h2⟩
    ·simp[J] at I
def QfA (x:TCoin):List UInt8:=[99,111,105,110,32]++Lib.itoa x.1.1++[58]++Lib.itoa x.1.2++[32]++Lib.itoa x.2.1.1++[32]++Qt x.2.1.2 [32]++[10]
theorem QgP {x:TCoin} (h:okC x):(QfA x).length<=260:=by
 have h1:=Qq (n:=x.1.1) (by have:=h.tx;omega) (by have:=h.tx;omega)
 have I:=Qq (n:=x.1.2) (by have:=h.at_;omega) (by have:=h.at_;omega)
 have J:=Qq (n:=x.2.1.1) (by have:=h.val;omega) (by have:=h.val;omega)
 have U:=QeW (ZF h.rule) [32] (by simp)
 unfold QfA;simp only[aLi,aLh,aLj];omega
def QeO (l:List TCoin):List UInt8:=(l.map QfA).flatten
end GL
end Go.Dx
set_option maxHeartbeats 2000000
namespace Go.Dx
namespace GL
def cuts (c:UInt8):List UInt8->List (List UInt8)
 | []=>[[]]
 | b::l=>if b=c then []::cuts c l else match cuts c l with | []=>[[b]] | w::ws=>(b::w)::ws
def glue (p:List UInt8):List (List UInt8)->List (List UInt8)
 | []=>[p]
 | w::ws=>(p++w)::ws
theorem QaK (c:UInt8):∀l,cuts c l ≠ []
 | []=>by simp[cuts]
 | b::l=>by
  unfold cuts;split
  ·simp
  ·split<;>simp
theorem Qm6 {ws:List (List UInt8)} (h:ws ≠ []):glue [] ws=ws:=by
 cases ws with
 | nil=>exact absurd rfl h
 | cons w ws=>rfl
theorem Qar (c b:UInt8) (l:List UInt8):cuts c (b::l)=if b=c then []::cuts c l else glue [b] (cuts c l):=by
 rw[cuts];split
 ·rfl
 ·split
  ·rename_i h;exact absurd h (QaK c l)
  ·rename_i h;rw[h];rfl
theorem Qru (p q:List UInt8) {ws:List (List UInt8)} (h:ws ≠ []):glue p (glue q ws)=glue (p++q) ws:=by
 cases ws with
 | nil=>exact absurd rfl h
 | cons w ws=>simp[glue]
theorem Jn (c:UInt8):∀l,(cuts c l).length<=l.length+1
 | []=>by simp[cuts]
 | b::l=>by
  have:=Jn c l
  rw[Qar];split
  ·simp;omega
  ·cases h:cuts c l with
   | nil=>simp[glue]
   | cons w ws=>rw[h] at this;simp[glue] at this ⊢;omega
theorem QkH (c:UInt8):∀l,Lib.split l [c]=cuts c l
 | []=>by
  unfold Lib.split;rw[Lib.count_one];rfl
 | b::l=>by
  have I:=QkH c l
  unfold Lib.split at I ⊢;rw[Qar];by_cases hb:b=c
  ·subst hb
   rw[if_pos rfl,Lib.count_cons_eq,Nat.add_comm,Lib.splitK];have J:Lib.index (b::l) [b]=0:=by rw[Lib.index];simp[List.isPrefixOf]
   rw[J];simp[I]
  ·rw[if_neg hb,Lib.count_cons_ne b c l hb]
   have hp:([c]:List UInt8).isPrefixOf (b::l)=false:=by simp[List.isPrefixOf,Ne.symm hb]
   have J:Lib.index (b::l) [c]=if Lib.index l [c] == -1 then -1 else Lib.index l [c]+1:=by rw[Lib.index,hp];simp
   cases hk:Lib.count l [c] with
   | zero=>rw[hk] at I;rw[<-I];rfl
   | succ k=>
    rw[hk] at I;have hm:¬Lib.index l [c] = -1:=fun h=>by rw[Lib.count_miss h] at hk;cases hk
    have hge:=Lib.index_ge l [c]
    obtain⟨j,hj⟩:∃j:Nat,Lib.index l [c]=j:=⟨(Lib.index l [c]).toNat,by omega⟩
    have U:Lib.index (b::l) [c]=((j+1:Nat):Int):=by rw[J,if_neg (fun e=>hm (beq_iff_eq.1 e)),hj];omega
    rw[Lib.splitK,if_neg (fun e=>hm (beq_iff_eq.1 e)),hj] at I
    rw[Lib.splitK,if_neg (fun e=>by have:=beq_iff_eq.1 e;omega),U,<-I]
    simp[glue]
theorem Qse (l:List UInt8) (c:UInt8) (f:List (List UInt8)×Int×Int->Option ((List (List UInt8)×Int×Int)⊕List (List UInt8)))
  (hs:∀(i I:Nat) (h:i<l.length) (out:List (List UInt8)),I<=i->out.length<=i->f (out,(I:Int),(i:Int))=some (.inl (if l[i]=c then (out++[cut (I:Int) (i:Int) l],((i+1:Nat):Int),((i+1:Nat):Int)) else (out,(I:Int),((i+1:Nat):Int)))))
  (he:∀(I:Nat) (out:List (List UInt8)),I<=l.length->out.length<=l.length->Qc f (out,(I:Int),(l.length:Int))=some (out++[cut (I:Int) (l.length:Int) l])) :
  (Qc f ([],0,0)).bind (fun j=>some j)=some (cuts c l):=by
 have key:∀(k i I:Nat) (out:List (List UInt8)),i+k=l.length->I<=i->out.length<=i->Qc f (out,(I:Int),(i:Int))=some (out++glue ((l.drop I).take (i - I)) (cuts c (l.drop i))):=by
  intro k;induction k with
  | zero=>
   intro i I out hi J ho;obtain rfl:i=l.length:=by omega
   rw[he I out J ho,List.drop_length];simp[cuts,glue,cut]
  | succ k U=>
   intro i I out hi J ho;have h:i<l.length:=by omega
   rw[Qv (hs i I h out J ho),aLr h,Qar];by_cases hb:l[i]=c
   ·rw[if_pos hb,if_pos hb,U (i+1) (i+1) _ (by omega) (Nat.le_refl _) (by simp;omega),Nat.sub_self,List.take_zero,Qm6 (QaK _ _)]
    simp[glue,cut]
   ·rw[if_neg hb,if_neg hb,U (i+1) I _ (by omega) (by omega) (by omega),Qru _ _ (QaK _ _)]
    have e:i+1 - I=(i - I)+1:=by omega
    have h2:i - I<(l.drop I).length:=by rw[aLz];omega
    rw[e,List.take_succ_eq_append_getElem h2];congr 3;simp only[List.getElem_drop];congr 2;simp only[show I+(i - I)=i by omega]
 have:=key l.length 0 0 [] (by omega) (Nat.le_refl _) (by simp)
 simp only[List.drop_zero,Nat.sub_zero,List.take_zero,aLx,Qm6 (QaK _ _)] at this;rw[show ((0:Nat):Int)=0 from rfl] at this
 rw[this];rfl
theorem Y3 (l:List UInt8) (c:UInt8) (hl:l.length<LIM):ZS l (c.toNat:Int)=some (cuts c l):=by
 have hB:l.length<BIG:=by unfold LIM at hl;unfold BIG;omega
 unfold ZS;refine Qse l c _ (fun i I h out hf ho=>?_) (fun I out hf ho=>?_)
 ·have e1:decide ((i:Int)<=(l.length:Int))=true:=aLE (by omega)
  have J:decide ((i:Int)=(l.length:Int))=false:=aLD (by omega)
  have U:QR (I:Int) (i:Int) l=true:=by unfold QR;simp;omega
  have e4:decide (((l[i].toNat:Nat):Int)=(c.toNat:Int))=decide (l[i]=c):=by
   apply decide_eq_decide.2;constructor
   ·intro h;exact UInt8.toNat_inj.1 (by omega)
   ·intro h;rw[h]
  simp only[e1,J,aLB,aLC,Qb l i h,Qa l i _ h,e4,aLc,wsucc h hB];by_cases hb:l[i]=c
  ·rw[aLE hb,if_pos hb,aLB,U,aLB,aLE (p:=List.length out+_<=LIM) (by simp only[aLh,aLj];omega)]
   rfl
  ·rw[aLD hb,if_neg hb];rfl
 ·have e1:decide ((l.length:Int)<=(l.length:Int))=true:=by simp
  have J:decide ((l.length:Int)=(l.length:Int))=true:=by simp
  have U:QR (I:Int) (l.length:Int) l=true:=by unfold QR;simp;omega
  have e5:IntKind.wrap .i64 ((l.length:Int)+1)=((l.length+1:Nat):Int):=by rw[QY (by omega) (by unfold BIG at hB;omega)];omega
  rw[Qv (s':=(out++[cut (I:Int) (l.length:Int) l],((l.length+1:Nat):Int),((l.length+1:Nat):Int))) (by
   simp only[e1,J,aLB,aLc,U,e5];rw[aLE (p:=List.length out+_<=LIM) (by simp only[aLh,aLj];omega)];rfl)]
  refine Qh ?_;have e6:decide (((l.length+1:Nat):Int)<=(l.length:Int))=false:=aLD (by omega)
  simp only[e6,aLC]
end GL
end Go.Dx
set_option maxHeartbeats 2000000
namespace Go.Dx
namespace GL
theorem Qih (c:UInt8):∀(w:List UInt8),c ∉ w->cuts c w=[w]
 | [],_=>rfl
 | b::w,h=>by
  rw[List.mem_cons,not_or] at h;rw[Qar,if_neg (fun e=>h.1 e.symm),Qih c w h.2];rfl
theorem QlI (c:UInt8):∀(a b:List UInt8),cuts c (a++c::b)=cuts c a++cuts c b
 | [],b=>by rw[aLx,Qar,if_pos rfl];rfl
 | x::a,b=>by
  rw[List.cons_append,Qar,Qar,QlI c a b];split
  ·rfl
  ·cases h:cuts c a with
   | nil=>exact absurd h (QaK c a)
   | cons w ws=>rfl
theorem Qau (x y:List UInt8) (r:List (List UInt8)) (c:UInt8):Lib.join (x::y::r) [c]=x++c::Lib.join (y::r) [c]:=by
 rw[Lib.join_cons,Lib.join_cons];simp[Lib.joinTail]
theorem JC (c:UInt8):∀(ws:List (List UInt8)),ws ≠ []->(∀w,w ∈ ws->c ∉ w)->cuts c (Lib.join ws [c])=ws
 | [],h,_=>absurd rfl h
 | [x],_,h=>by rw[Lib.join_one];exact Qih c x (h x aLm)
 | x::y::r,_,h=>by
  rw[Qau,QlI,Qih c x (h x aLm),JC c (y::r) (by simp) fun w hw=>h w (aLp _ hw)];rfl
theorem Qh6 (c:UInt8):∀(a b:List UInt8),c ∉ a->Lib.indexByte (a++c::b) c=(a.length:Int)
 | [],b,_=>by simp[Lib.indexByte]
 | x::a,b,h=>by
  rw[List.mem_cons,not_or] at h;have I:=Qh6 c a b h.2
  have J:(x == c)=false:=by simpa using fun e:x=c=>h.1 e.symm
  rw[List.cons_append,Lib.indexByte,J,I];have:((a.length:Int) == -1)=false:=by simp
  rw[this];simp
theorem QoT (c:UInt8) (a b:List UInt8) (h:c ∉ a):Lib.cut (a++c::b) [c]=(a,b,true):=by
 unfold Lib.cut;rw[Lib.index_one,Qh6 c a b h,if_pos (by omega)]
 simp
theorem Ql7 (M:Nat):∀(l r:List UInt8) (acc a:Nat),Lib.parseUintM M acc l=.ok a->Lib.parseUintM M acc (l++r)=Lib.parseUintM M a r
 | [],r,acc,a,h=>by
  simp only[Lib.parseUintM] at h;cases h;rfl
 | c::l,r,acc,a,h=>by
  rw[List.cons_append];unfold Lib.parseUintM at h
  conv=>lhs;unfold Lib.parseUintM
  split at h
  ·rename_i h1
   rw[if_pos h1];split at h
   ·cases h
   ·rename_i I
    rw[if_neg I];split at h
    ·cases h
    ·rename_i J
     rw[if_neg J];exact Ql7 M l r _ a h
  ·cases h
theorem Qjg (M acc d:Nat) (hd:d<10) (h1:acc<1844674407370955162) (I:acc * 10+d<=M):Lib.parseUintM M acc [UInt8.ofNat (48+d)]=.ok (acc * 10+d):=by
 have e:(UInt8.ofNat (48+d)).toNat=48+d:=by rw[UInt8.toNat_ofNat'];omega
 unfold Lib.parseUintM;rw[e,if_pos (by omega),if_neg (by omega),if_neg (by omega)]
 rw[show acc * 10+(48+d - 48)=acc * 10+d by omega]
 rfl
theorem Qqp:∀(u:Nat),u<=9223372036854775807->Lib.parseUintM (2 ^ 64 - 1) 0 (Lib.decDigits u)=.ok u:=by
 intro u;induction u using Nat.strongRecOn with
 | ind u I=>
  intro hu;by_cases h:u<10
  ·rw[Lib.decDigits_one h,Qjg _ 0 u h (by omega) (by omega)]
   simp
  ·rw[Lib.decDigits,dif_neg h,Ql7 _ _ _ 0 (u / 10) (I (u / 10) (by omega) (by omega)),Qjg _ (u / 10) (u % 10) (by omega) (by omega) (by omega)]
   congr 1;omega
theorem QjT:∀(u:Nat) (b:UInt8),b ∈ Lib.decDigits u->48<=b.toNat/\b.toNat<=57:=by
 intro u;induction u using Nat.strongRecOn with
 | ind u I=>
  intro b hb;have one:∀d:Nat,d<10->(UInt8.ofNat (48+d)).toNat=48+d:=fun d hd=>by
   rw[UInt8.toNat_ofNat'];omega
  by_cases h:u<10
  ·rw[Lib.decDigits_one h,aLs] at hb
   subst hb;rw[one u h];omega
  ·rw[Lib.decDigits,dif_neg h] at hb
   rcases List.mem_append.1 hb with hb | hb
   ·exact I (u / 10) (by omega) b hb
   ·rw[aLs] at hb
    subst hb;rw[one (u % 10) (by omega)];omega
theorem Qpw {n:Int} (U:0<=n) (h1:n<=9223372036854775807):Lib.parseIntB 64 (Lib.itoa n)=.ok n:=by
 obtain⟨m,rfl⟩:=aLA U;rw[YN];have I:=Qqp m (by omega)
 have hb:=QjT m
 have J:1<=(Lib.decDigits m).length:=by rw[Lib.decDigits_length];exact Lib.nDigits_pos m
 match hd:Lib.decDigits m with
 | []=>rw[hd] at J;simp at J
 | c::r=>
  rw[hd] at I hb;have hc:=hb c aLm
  unfold Lib.parseIntB;simp only;rw[if_neg (by omega)]
  unfold Lib.parseUintB;rw[if_neg (by simp),I]
  simp only;rw[if_neg (by omega),if_neg (by omega),if_neg (by omega)]
theorem Qa6 {n:Int} (I:0<=n) (h1:n<10000000000):numS (Lib.itoa n)=n:=by
 unfold numS;rw[Qpw I (by omega)]
 obtain⟨m,rfl⟩:=aLA I;have J:(Lib.itoa (m:Int)).length<=10:=by
  rw[YN,Lib.decDigits_length];exact QcL 10 m (by omega) (by decide)
 simp[J]
end GL
end Go.Dx
set_option maxHeartbeats 2000000
namespace Go.Dx
namespace GL
abbrev TL:=List (List UInt8)×List (Int×Int)
theorem Qas {α R:Type} (l:List α) (c:Nat->α->Int) (f:Int->Option (Int⊕(Unit⊕Int)))
  (J:∀(i:Nat) (h:i<l.length),f (i:Int)=some (if c i l[i]=0 then .inl ((i+1:Nat):Int) else .inr (.inr (c i l[i])))) (he:f (l.length:Int)=some (.inr (.inl ()))) (A:Unit->Option R) (B:Int->Option R) :
  ((Qc f 0).bind fun j=>Sum.elim A B j)=if code c l=0 then A () else B (code c l):=by
 rw[JA l (fun i a=>if c i a=0 then none else some (c i a)) f (fun i h=>by rw[J i h];by_cases U:c i l[i]=0<;>simp[U]) he,Qao]
 by_cases I:code c l=0
 ·rw[if_pos I]
  have hz:=Yh I
  have:first (fun i a=>if c i a=0 then none else some (c i a)) 0 l=none:=(QcX l 0).2 (fun j a ha=>by rw[Nat.zero_add,if_pos (hz j a ha)])
  rw[this]
 ·rw[if_neg I]
  unfold code at I ⊢;cases hf:first (fun i a=>if c i a=0 then none else some (c i a)) 0 l with
  | none=>rw[hf] at I;exact absurd rfl I
  | some r=>rfl
theorem QhU {α β γ:Type} (g:Nat->α->Option β) (h:β->γ):∀(l:List α) (i:Nat),first (fun i a=>(g i a).map h) i l=(first g i l).map h
 | [],_=>rfl
 | a::l,i=>by
  simp only[first]
  cases g i a with
  | none=>exact QhU g h l (i+1)
  | some r=>rfl
theorem Qmr (t:List UInt8):Qdm t=some (mIn (t.length:Int) 1 300):=by unfold Qdm;rw[Zf];rfl
theorem any_eq {α:Type} [DecidableEq α] (x:α) (l:List α):l.any (fun a=>decide (x=a))=decide (x ∈ l):=by
 rw[Bool.eq_iff_iff];simp
theorem any_eq' {α:Type} [DecidableEq α] (x:α) (l:List α):l.any (fun a=>decide (a=x))=decide (x ∈ l):=by
 rw[Bool.eq_iff_iff];simp
theorem Qlw (l:List (List UInt8)) (I:l.length<BIG) (x:List UInt8):Zz l x=some (decide (x ∈ l)):=by
 unfold Zz QL;rw[Jl l (fun a=>decide (x=a)) _ (fun i h=>?_) (by simp only[dge,aLC]),aLc,ZH,any_eq]
 ·exact congrArg some (decide_eq_decide.2 Iff.rfl)
 ·simp only[dlt h,Qb l i h,Qa l i _ h,aLB,wsucc h I]
  cases decide (x=l[i])<;>rfl
theorem Qgn (l:List (Int×Int)) (I:l.length<BIG) (x:Int×Int):QX l x=some (decide (x ∈ l)):=by
 unfold QX ZU;rw[Jl l (fun a=>decide (x=a)) _ (fun i h=>?_) (by simp only[dge,aLC]),aLc,ZH,any_eq]
 ·exact congrArg some (decide_eq_decide.2 Iff.rfl)
 ·simp only[dlt h,Qb l i h,Qa l i _ h,aLB,wsucc h I,QhP]
  cases decide (x=l[i])<;>rfl
theorem Qgo (l:List (Int×Int)) (I:l.length<BIG) (x:Int×Int):Qab l x=some (decide (x ∈ l)):=by
 unfold Qab;rw[Qhv l (fun a=>decide (a=x)) _ (fun i h=>?_) (by simp only[dge,aLC]),any_eq']
 ·exact congrArg some (decide_eq_decide.2 Iff.rfl)
 ·simp only[dlt h,Qb l i h,Qa l i _ h,aLB,wsucc h I,QhP]
  cases decide (l[i]=x)<;>rfl
theorem Qjl (l:List (List UInt8)) (I:l.length<BIG) (x:List UInt8):Qdi l x=some (idxF (fun a=>decide (a=x)) l+1):=by
 unfold Qdi;rw[JA l (fun i a=>(if decide (a=x)=true then some (i:Int) else none).map (· + 1)) _ (fun i h=>?_) (by simp only[dge,aLC]),QhU,Qao]
 ·unfold idxF
  cases first (fun i a=>if decide (a=x)=true then some (i:Int) else none) 0 l<;>rfl
 ·simp only[dlt h,Qb l i h,Qa l i _ h,aLB,wsucc h I]
  cases decide (l[i]=x)<;>rfl
theorem pos_at (l:List (List UInt8)) (x:List UInt8):decide (0<idxF (fun a=>decide (a=x)) l+1)=decide (x ∈ l):=by
 have h:=ZH (fun a=>decide (a=x)) l
 have I:(l.any fun a=>decide (a=x))=true↔x ∈ l:=by simp
 refine decide_eq_decide.2 ⟨fun J=>I.1 (by rw[<-h];simp;omega),fun J=>?_⟩
 have:=I.2 J
 rw[<-h] at this;have:=aLG this
 omega
def mTx (l:List (List UInt8)) (i:Nat) (s:List UInt8):Int:=if mIn (s.length:Int) 1 300 then (if s ∈ l.take i then 7 else 0) else 2
def mSg (n:Int) (l:List (Int×Int)) (i:Nat) (x:Int×Int):Int:=if mIn x.1 1 999&&mIn x.2 1 n then (if x ∈ l.take i then 7 else 0) else 3
def mLF (x:TL):Int:=if (decide ((60:Int)<(x.1.length:Int)) || decide ((120:Int)<(x.2.length:Int)))=true then 2 else if code (mTx x.1) x.1=0 then code (mSg (x.1.length:Int) x.2) x.2 else code (mTx x.1) x.1
theorem YR {α:Type} {l:List α} (I:l.length<BIG) (i:Nat):(l.take i).length<BIG:=by rw[aLn];omega
theorem Qii (x:TL) (h1:x.1.length<BIG) (I:x.2.length<BIG):Qae x=some (mLF x):=by
 unfold Qae mLF;have e:∀(p q:Bool),(bif p then some true else some q:Option Bool)=some (p || q):=by intro p q;cases p<;>rfl
 rw[e,aLc];cases (decide ((60:Int)<(x.1.length:Int)) || decide ((120:Int)<(x.2.length:Int))) with
 | true=>rfl
 | false=>
  rw[aLC,if_neg (by simp),Qas x.1 (mTx x.1) _ (fun i h=>?_) (by simp only[dge,aLC])]
  ·split
   ·refine JD _ _ _ (fun i h=>?_) (by simp only[dge,aLC])
    simp only[dlt h,Qb x.2 i h,Qa x.2 i _ h,ZR x.2 i (Nat.le_of_lt h),Y9,aLB,Qeq,Zf,aLc,wsucc h I,Qgn _ (YR I i)];unfold mSg;cases mIn x.2[i].1 1 999<;>cases mIn x.2[i].2 1 (x.1.length:Int)<;>by_cases hm:x.2[i] ∈ x.2.take i<;>simp[hm]
   ·rfl
  ·simp only[dlt h,Qb x.1 i h,Qa x.1 i _ h,ZR x.1 i (Nat.le_of_lt h),Y9,aLB,Qmr,aLc,wsucc h h1,Qlw _ (YR h1 i)]
   unfold mTx;cases mIn (x.1[i].length:Int) 1 300<;>by_cases hm:x.1[i] ∈ x.1.take i<;>simp[hm]
theorem QaY (x:TL) (h1:x.1.length<BIG) (I:x.2.length<BIG):YT x=some (mLF x):=by
 unfold YT mLF;have e:∀(p q:Bool),(bif p then some true else some q:Option Bool)=some (p || q):=by intro p q;cases p<;>rfl
 rw[e,aLc];cases (decide ((60:Int)<(x.1.length:Int)) || decide ((120:Int)<(x.2.length:Int))) with
 | true=>rfl
 | false=>
  rw[aLC,if_neg (by simp),Qas x.1 (mTx x.1) _ (fun i h=>?_) (by simp only[dge,aLC])]
  ·split
   ·refine JD _ _ _ (fun i h=>?_) (by simp only[dge,aLC])
    simp only[dlt h,Qb x.2 i h,Qa x.2 i _ h,ZR x.2 i (Nat.le_of_lt h),Y9,aLB,Qew,Zm,aLc,wsucc h I,Qgo _ (YR I i)];unfold mSg;cases mIn x.2[i].1 1 999<;>cases mIn x.2[i].2 1 (x.1.length:Int)<;>by_cases hm:x.2[i] ∈ x.2.take i<;>simp[hm]
   ·rfl
  ·simp only[dlt h,Qb x.1 i h,Qa x.1 i _ h,ZR x.1 i (Nat.le_of_lt h),Y9,aLB,aLc,wsucc h h1,Qjl _ (YR h1 i),pos_at]
   have J:∀(n:Int),(decide (n<1) || decide (300<n)) = !mIn n 1 300:=by
    intro n;unfold mIn;rw[Bool.eq_iff_iff];simp;try omega
   rw[e,J,aLc];unfold mTx;cases mIn (x.1[i].length:Int) 1 300<;>by_cases hm:x.1[i] ∈ x.1.take i<;>simp[hm]
theorem Qki {R:Type} (a:Option R):agree a a=a:=by unfold agree;simp
theorem QgM {α:Type} {l:List α} (h:l.length<=LIM):decide (List.length ([]:List α)+List.length l<=LIM)=true:=by simp;omega
end GL
end Go.Dx
set_option maxHeartbeats 2000000
namespace Go.Dx
namespace GL
def Y {α:Type} (o:Option α) (Q:α->Prop):Prop:=∃a,o=some a/\Q a
theorem Y.some {α:Type} {a:α} {Q:α->Prop} (h:Q a):Y (some a) Q:=⟨a,rfl,h⟩
theorem Y.bind {α β:Type} {o:Option α} {f:α->Option β} {Q:α->Prop} {R:β->Prop} (h:Y o Q) (k:∀a,Q a->Y (f a) R):Y (o.bind f) R:=by
 obtain⟨a,rfl,I⟩:=h;exact k a I
theorem Y.eqb {α β:Type} {o:Option α} {a:α} {f:α->Option β} {R:β->Prop} (h:o=Option.some a) (k:Y (f a) R):Y (o.bind f) R:=by
 subst h;exact k
theorem Y.bif {α:Type} {c:Bool} {a b:Option α} {Q:α->Prop} (h1:c=true->Y a Q) (I:c=false->Y b Q):Y (bif c then a else b) Q:=by
 cases c
 ·exact I rfl
 ·exact h1 rfl
theorem Y.grd {α:Type} {c:Bool} {a b:Option α} {Q:α->Prop} (h:c=true) (h1:Y a Q):Y (bif c then a else b) Q:=by rw[h];exact h1
theorem Y.loop {S X:Type} {f:S->Option (S⊕X)} {Q:X->Prop} (I:Nat->S->Prop) (hs:∀n s,I n s->Y (f s) (fun r=>match r with | .inl s'=>∃m,m<n/\I m s' | .inr x=>Q x)):∀n s,I n s->Y (Qc f s) Q:=by
 intro n;induction n using Nat.strongRecOn with
 | ind n ih=>
  intro s hi;obtain⟨r,h1,U⟩:=hs n s hi;cases r with
  | inl s'=>
   obtain⟨m,hm,J⟩:=U;obtain⟨x,h3,h4⟩:=ih m hm s' J;exact⟨x,Qgb h1 h3,h4⟩
  | inr x=>exact⟨x,Qh h1,U⟩
theorem QfD {α:Type} (l:List α) (a:α) (h:l.length<1000000):decide (List.length l+List.length [a]<=LIM)=true:=by
 simp only[aLh,aLj,aLF];unfold LIM;omega
theorem ZC {α:Type} {l:List α} {i:Int} (I:0<=i) (h:i<(l.length:Int)):inB i l=true:=by
 simp[inB,I,h]
def dv (l:List UInt8):Nat:=l.foldl (fun a b=>a * 10+(b.toNat - 48)) 0
theorem Qlb (l:List UInt8) (b:UInt8):dv (l++[b])=dv l * 10+(b.toNat - 48):=by simp[dv]
theorem Qog:∀m:Nat,dv (Lib.decDigits m)=m:=by
 intro m;induction m using Nat.strongRecOn with
 | ind m I=>
  have one:∀d:Nat,d<10->(UInt8.ofNat (48+d)).toNat=48+d:=fun d hd=>by
   rw[UInt8.toNat_ofNat'];omega
  by_cases h:m<10
  ·rw[Lib.decDigits_one h]
   show 0 * 10+((UInt8.ofNat (48+m)).toNat - 48)=m
   rw[one m h];omega
  ·rw[Lib.decDigits,dif_neg h,Qlb,I (m / 10) (by omega),one (m % 10) (by omega)];omega
theorem Qt5 (l:List UInt8) (h:∀b,b ∈ l->b.toNat<=57):dv l<10 ^ l.length:=by
 have key:∀(l:List UInt8) (a:Nat),(∀b,b ∈ l->b.toNat<=57)->l.foldl (fun a b=>a * 10+(b.toNat - 48)) a<(a+1) * 10 ^ l.length:=by
  intro l;induction l with
  | nil=>intro a _;simp
  | cons b l I=>
   intro a h;have h1:=I (a * 10+(b.toNat - 48)) fun c J=>h c (aLp _ J)
   have U:=h b aLm
   have h3:(a * 10+(b.toNat - 48)+1) * 10 ^ l.length<=((a+1) * 10) * 10 ^ l.length:=aLq _ (by omega)
   rw[List.foldl_cons,aLh,Nat.pow_succ];have e:(a+1) * (10 ^ l.length * 10)=((a+1) * 10) * 10 ^ l.length:=by rw[Nat.mul_comm (10 ^ l.length) 10,Nat.mul_assoc]
   omega
 have:=key l 0 h
 rw[Nat.zero_add,Nat.one_mul] at this;exact this
theorem Qsj:∀(m:Nat),1<=m->∀b r,Lib.decDigits m=b::r->b.toNat ≠ 48:=by
 intro m;induction m using Nat.strongRecOn with
 | ind m J=>
  intro hm b r h;by_cases I:m<10
  ·rw[Lib.decDigits_one I] at h
   simp only[List.cons.injEq] at h;rw[<-h.1,UInt8.toNat_ofNat'];omega
  ·rw[Lib.decDigits,dif_neg I] at h
   cases hd:Lib.decDigits (m / 10) with
   | nil=>
    have:=Lib.decDigits_length (m / 10)
    rw[hd] at this;have h2:=Lib.nDigits_pos (m / 10)
    simp at this;omega
   | cons c U=>
    rw[hd,List.cons_append] at h;simp only[List.cons.injEq] at h;rw[<-h.1];exact J (m / 10) (by omega) (by omega) c U hd
theorem Qhx (w:List UInt8) (n:Int) (hw:w.length<BIG):Y (Qn w n) (fun _=>True):=by
 unfold Qn;refine Y.bind (Q:=fun j=>True) ?_ (fun j _=>?_)
 ·refine Y.bif (fun _=>Y.some trivial) (fun h1=>Y.bif (fun _=>Y.some trivial) (fun h2=>Y.bif (fun _=>Y.grd (ZC (by omega) ?_) (Y.some trivial)) (fun _=>Y.some trivial)))
  simp at h1;omega
 ·refine Y.bif (fun _=>Y.some trivial) (fun _=>?_)
  refine Y.bind (Q:=fun _=>True) ?_ (fun j _=>by cases j<;>exact Y.some trivial)
  refine Y.loop (fun n s=>∃i:Nat,s.2=(i:Int)/\i<=w.length/\n=w.length - i) (fun n s J=>?_) w.length (0,0) ⟨0,rfl,by omega,by omega⟩
  obtain⟨i,hi,hle,hn⟩:=J;obtain⟨v,U⟩:=s;have hi:U=(i:Int):=hi
  subst hi;refine Y.bif (fun h1=>?_) (fun _=>Y.some trivial)
  have I:i<w.length:=by simp at h1;omega
  have hb:=Qb w i I
  refine Y.bind (Q:=fun _=>True) (Y.grd hb (Y.bif (fun _=>Y.some trivial) (fun _=>Y.grd hb (Y.some trivial)))) (fun j _=>Y.bif (fun _=>Y.some trivial) (fun _=>Y.grd hb (Y.some ?_)))
  exact⟨w.length - (i+1),by omega,i+1,wsucc I hw,by omega,rfl⟩
theorem Qfq {k:Int} (I:0<=k) (h1:k<=9999999) (n:Nat) (hn:(Lib.itoa k).length<=n):Qn (Lib.itoa k) (n:Int)=some (k,true):=by
 obtain⟨m,rfl⟩:=aLA I;rw[YN] at hn ⊢;have hb:=QjT m
 have J:=Qog m
 have hl:1<=(Lib.decDigits m).length:=by rw[Lib.decDigits_length];exact Lib.nDigits_pos m
 have h7:(Lib.decDigits m).length<=7:=by rw[Lib.decDigits_length];exact QcL 7 m (by omega) (by decide)
 have U:1<(Lib.decDigits m).length->(List.getD (Lib.decDigits m) 0 0).toNat ≠ 48:=fun h=>by
  cases hd:Lib.decDigits m with
  | nil=>rw[hd] at h;simp at h
  | cons c r=>
   have hm1:1<=m:=by
    rcases Nat.eq_zero_or_pos m with I | I
    ·subst I
     rw[Lib.decDigits_one (by omega)] at h
     simp at h
    ·exact I
   exact Qsj m hm1 c r hd
 generalize Lib.decDigits m=w at *;have hB:w.length<BIG:=by unfold BIG;omega
 unfold Qn;rw[aLD (p:=(w.length:Int)<1) (by omega),aLC,aLD (p:=(n:Int)<(w.length:Int)) (by omega),aLC,ZC (i:=0) (l:=w) (by omega) (by omega),aLB]
 have e0:(bif decide (1<(w.length:Int)) then some (decide (((w.getD (Int.toNat 0) 0).toNat:Int)=48)) else some false)=some false:=by
  by_cases h:1<w.length
  ·rw[aLE (by omega),aLB,aLD]
   have:=U h
   show ¬(((w.getD 0 0).toNat:Nat):Int)=48
   omega
  ·rw[aLD (by omega),aLC]
 rw[e0,aLc,aLC];rw[show ((0:Int),(0:Int))=(((0:Nat):Int),(0:Int)) from rfl]
 rw[Zu (σ:=Nat) w (fun v b=>v * 10+(b.toNat - 48)) (fun v i=>((v:Int),i)) (fun v=>Sum.inl (v:Int)) (fun v i=>v<10 ^ i) _ (fun i hi v hv=>by
   have hbi:=hb _ (aLl hi)
   have hp:10 ^ i<=10 ^ 6:=Nat.pow_le_pow_right (by omega) (by omega)
   have hp2:(10:Nat) ^ 6=1000000:=rfl
   refine⟨?_,?_⟩
   ·simp only[dlt hi,Qb w i hi,Qa w i _ hi,aLB,wsucc hi hB]
    rw[aLD (p:=((w[i].toNat:Nat):Int)<48) (by omega),aLC,aLD (p:=(57:Int)<((w[i].toNat:Nat):Int)) (by omega),aLc,aLC]
    have e1:IntKind.wrap .u8 (((w[i].toNat:Nat):Int) - 48)=((w[i].toNat - 48:Nat):Int):=by
     rw[show ((w[i].toNat:Nat):Int) - 48=((w[i].toNat - 48:Nat):Int) by omega]
     rw[show IntKind.wrap .u8 ((w[i].toNat - 48:Nat):Int)=((w[i].toNat - 48:Nat):Int) % 256 from by simp[IntKind.wrap,IntKind.bits,IntKind.signed]]
     omega
    rw[e1,QY (n:=(v:Int) * 10) (by omega) (by omega),QY (n:=((w[i].toNat - 48:Nat):Int)) (by omega) (by omega),QY (by omega) (by omega)]
    congr 3
   ·rw[Nat.pow_succ];omega) (fun v hv=>by simp only[dge,aLC]) 0 (by simp)]
 show some (((dv w:Nat):Int),true)=_
 rw[J]
theorem YL (w:List UInt8) (h:w.length<=1000000):Zg w=some (numS w):=by
 unfold Zg numO;rw[Nat.ble_eq.mpr h];rfl
theorem QfE (s:List UInt8) (c:UInt8) (h:s.length<=1000000):Z4 s [c]=some (cuts c s):=by
 unfold Z4;rw[QqM (by simp) (by omega),QkH]
theorem Qa3 (c:UInt8):∀(l:List UInt8) (w:List UInt8),w ∈ cuts c l->w.length<=l.length
 | [],w,h=>by simp[cuts] at h;subst h;simp
 | b::l,w,h=>by
  rw[Qar] at h;split at h
  ·rcases List.mem_cons.1 h with rfl | h
   ·simp
   ·have:=Qa3 c l w h;simp;omega
  ·have I:=Qa3 c l
   cases J:cuts c l with
   | nil=>exact absurd J (QaK c l)
   | cons a r=>
    rw[J] at h I;simp only[glue] at h;rcases List.mem_cons.1 h with rfl | h
    ·have:=I a aLm;simp;omega
    ·have:=I w (aLp _ h);simp;omega
theorem Yj (c:UInt8) (l:List UInt8) (i:Nat):(List.getD (cuts c l) i []).length<=l.length:=by
 rw[aLk];cases h:(cuts c l)[i]? with
 | none=>simp
 | some w=>exact Qa3 c l w (List.mem_of_getElem? h)
theorem Qij (s:List UInt8) (c:UInt8) (h:s.length<=100000):JK s [c]=some ((cuts c s).map numS):=by
 unfold JK;have hlen:=Jn c s
 rw[QfE s c (by omega),aLc]
 rw[Zu (σ:=List Int) (cuts c s) (fun acc a=>acc++[numS a]) (fun t i=>(t,i)) (fun t=>t) (fun t i=>t.length=i) _ (fun i hi t I=>by
   refine⟨?_,by simp[I]⟩
   have hw:=Qa3 c s _ (aLl hi)
   simp only[dlt hi,Qb _ i hi,Qa _ i _ hi,aLB,YL _ (show ((cuts c s)[i]).length<=1000000 by omega),aLc,wsucc hi (by unfold BIG;omega)]
   rw[Qe (by simp only[aLh,aLj];unfold LIM;omega)];rfl) (fun t I=>by simp only[dge,aLC]) [] rfl,aLc,foldl_map,aLx]
end GL
end Go.Dx
set_option maxHeartbeats 2000000
namespace Go.Dx
namespace GL
theorem Qqt {n:Int} (I:0<=n) {b:UInt8} (hb:b ∈ Lib.itoa n):48<=b.toNat/\b.toNat<=57:=by
 obtain⟨m,rfl⟩:=aLA I;rw[YN] at hb;exact QjT m b hb
theorem ZT {n:Int} (I:0<=n) (c:UInt8) (J:c.toNat<48\/57<c.toNat):c ∉ Lib.itoa n:=fun h=>by
 have:=Qqt I h;omega
theorem Zj (x:List UInt8) (r:List (List UInt8)) (c:UInt8) (I:r ≠ []):Lib.join (x::r) [c]=x++c::Lib.join r [c]:=by
 cases r with
 | nil=>exact absurd rfl I
 | cons y r=>exact Qau x y r c
theorem Qs9 (l:List Int) (h:∀k,k ∈ l->0<=k) (c:UInt8) (hc:c.toNat<48\/57<c.toNat) (I:c ≠ 44):c ∉ Zd l [44]:=by
 unfold Zd;induction l with
 | nil=>simp[Lib.join_nil]
 | cons a l J=>
  have U:=ZT (h a aLm) c hc
  have J:=J fun k hk=>h k (aLp _ hk)
  cases l with
  | nil=>rw[List.map_cons,List.map_nil,Lib.join_one];exact U
  | cons b l=>
   rw[List.map_cons,Zj _ _ _ (by simp),List.mem_append,List.mem_cons]
   rintro (h1 | h1 | h1)
   ·exact U h1
   ·exact I h1
   ·exact J h1
theorem QlS (l:List Int) (I:l ≠ []) (h:∀k,k ∈ l->0<=k):cuts 44 (Zd l [44])=l.map Lib.itoa:=by
 unfold Zd;refine JC 44 _ (by simpa using I) fun w hw=>?_
 obtain⟨k,hk,rfl⟩:=List.mem_map.1 hw;exact ZT (h k hk) 44 (by decide)
def Qes (r:TRu):List (List UInt8):=[Lib.itoa r.2.1,[111,102],Zd r.1 [44]]++(if r.2.2=0 then [] else [[97,102,116,101,114],Lib.itoa r.2.2])
structure Blank (b:UInt8):Prop where
 d:b.toNat<48\/57<b.toNat
 c:b ≠ 44
 o:b ≠ 111/\b ≠ 102/\b ≠ 97/\b ≠ 116/\b ≠ 101/\b ≠ 114
theorem QdY:Blank 32:=⟨by decide,by decide,by decide⟩
theorem Qph:Blank 95:=⟨by decide,by decide,by decide⟩
theorem QjQ {r:TRu} (h:okR r) {b:UInt8} (hb:Blank b):∀w,w ∈ Qes r->b ∉ w:=by
 have I:b ∉ ([111,102]:List UInt8):=by
  have:=hb.o
  simp[this.1,this.2.1]
 have J:b ∉ ([97,102,116,101,114]:List UInt8):=by
  have:=hb.o
  simp[this]
 have h1:=ZT (n:=r.2.1) (by have:=h.need;omega) b hb.d
 have U:=ZT (n:=r.2.2) (by have:=h.after;omega) b hb.d
 have h3:=Qs9 r.1 (fun k hk=>by have:=h.keys k hk;omega) b hb.d hb.c
 intro w hw;unfold Qes at hw;split at hw<;>simp only[List.append_nil,List.cons_append,aLx,List.mem_cons,List.not_mem_nil,or_false] at hw
 ·rcases hw with rfl | rfl | rfl<;>assumption
 ·rcases hw with rfl | rfl | rfl | rfl | rfl<;>assumption
theorem Qfs (r:TRu) (b:UInt8):Lib.join (Qes r) [b]=Qt r [b]:=by
 unfold Qes Qt;split
 ·rw[List.append_nil,Zj _ _ _ (by simp),Zj _ _ _ (by simp),Lib.join_one];simp
 ·simp only[List.cons_append,aLx]
  rw[Zj _ _ _ (by simp),Zj _ _ _ (by simp),Zj _ _ _ (by simp),Zj _ _ _ (by simp),Lib.join_one];simp
theorem Qqf {r:TRu} (h:okR r) {b:UInt8} (hb:Blank b):cuts b (Qt r [b])=Qes r:=by
 rw[<-Qfs];exact JC b _ (by unfold Qes;simp) (QjQ h hb)
theorem Qkj {r:TRu} (h:okR r) {b c:UInt8} (J:Blank c) (I:c ≠ b):c ∉ Qt r [b]:=by
 rw[<-Qfs];have hw:=QjQ h J
 have:∀ws:List (List UInt8),(∀w,w ∈ ws->c ∉ w)->c ∉ Lib.join ws [b]:=by
  intro ws;induction ws with
  | nil=>intro _;simp[Lib.join_nil]
  | cons x ws U=>
   intro h;cases ws with
   | nil=>rw[Lib.join_one];exact h x aLm
   | cons y ws=>
    rw[Zj _ _ _ (by simp),List.mem_append,List.mem_cons]
    rintro (h1 | h1 | h1)
    ·exact h x aLm h1
    ·exact I h1
    ·exact U (fun w hw=>h w (aLp _ hw)) h1
 exact this _ hw
def swp (a b:UInt8) (l:List UInt8):List UInt8:=l.map fun c=>if c=a then b else c
theorem Qqs (l:List UInt8) (a b:UInt8) (h:l.length<=1000000):Jk l (a.toNat:Int) (b.toNat:Int)=some (swp a b l):=by
 unfold Jk swpS;rw[Nat.ble_eq.mpr h,aLE (by have:=b.toNat_lt;omega)]
 show some _=_
 congr 1;unfold swp;refine List.map_congr_left fun c _=>?_
 by_cases I:c=a
 ·subst I
  rw[if_pos rfl,if_pos rfl];apply UInt8.toNat_inj.1;rw[UInt8.toNat_ofNat'];have:=b.toNat_lt
  omega
 ·rw[if_neg I,if_neg fun h=>I (UInt8.toNat_inj.1 (by omega))]
theorem QnS {a b:UInt8} {l:List UInt8} (h:a ∉ l):swp a b l=l:=by
 unfold swp;have:∀c,c ∈ l->(if c=a then b else c)=id c:=fun c I=>if_neg (fun e:c=a=>h (e ▸ I))
 rw[List.map_congr_left this,List.map_id]
theorem Qno {a b:UInt8}:∀ws:List (List UInt8),(∀w,w ∈ ws->a ∉ w)->swp a b (Lib.join ws [a])=Lib.join ws [b]
 | [],_=>by simp[Lib.join_nil,swp]
 | [x],h=>by rw[Lib.join_one,Lib.join_one];exact QnS (h x aLm)
 | x::y::r,h=>by
  rw[Qau,Qau];have h1:=QnS (b:=b) (h x aLm)
  have I:=Qno (b:=b) (y::r) fun w hw=>h w (aLp _ hw)
  unfold swp at h1 I ⊢;rw[List.map_append,List.map_cons,h1,I,if_pos rfl]
theorem QnI {r:TRu} (h:okR r) {a b:UInt8} (I:Blank a):swp a b (Qt r [a])=Qt r [b]:=by
 rw[<-Qfs,<-Qfs];exact Qno _ (QjQ h I)
def Qm2 (s:List UInt8) (b:UInt8) (x:TRu×Bool):Prop:=x.1.1.length<=s.length+1/\∀I,Q7 I=0->Qt I [b]=s->x=(I,true)
theorem Qcl {r:TRu} (h:Q7 r=0) (b:UInt8):(Qt r [b]).length<=120:=QeW (ZF h) [b] (by simp)
theorem YW {I:TRu} (J:Q7 I=0) {s:List UInt8} {b:UInt8} (hb:Blank b) (U:Qt I [b]=s):cuts b s=Qes I:=by
 rw[<-U];exact Qqf (ZF J) hb
theorem Qd2 (r:TRu):(Qes r).length=if r.2.2=0 then 3 else 5:=by
 unfold Qes;split<;>rfl
theorem QpZ (s:List UInt8) (b:UInt8) (hb:Blank b) (hs:s.length<=100000):Y (QbP s [b]) (Qm2 s b):=by
 have hlen:=Jn b s
 have hin:∀i:Nat,i<(cuts b s).length->inB (i:Int) (cuts b s)=true:=fun i h=>Qb _ i h
 unfold QbP;refine Y.eqb (QfE s b (by omega)) ?_
 have hno:(∀I,Q7 I=0->Qt I [b]=s->False)->Qm2 s b (([],(0,0)),false):=fun h=>⟨by simp,fun I h1 J=>(h I h1 J).elim⟩
 have hn:∀i:Nat,(List.getD (cuts b s) i []).length<=s.length:=Yj b s
 refine Y.bind (Q:=fun j=>(j=false->((cuts b s).length=3\/(cuts b s).length=5))/\(j=true->∀I,Q7 I=0->Qt I [b]=s->False)) ?_ (fun j hj=>?_)
 ·refine Y.bif (fun h1=>Y.some ⟨(fun h=>by cases h),fun _ I J U=>?_⟩) (fun _=>Y.bif (fun h1=>Y.some ⟨(fun h=>?_),(fun h I J U=>?_)⟩) (fun h1=>Y.some ⟨(fun _=>.inl ?_),(fun h=>by cases h)⟩))
  ·have:=Qcl J b;rw[U] at this;simp at h1;omega
  ·right;simp at h;omega
  ·have hw:=YW J hb U
   have hl:=Qd2 I
   rw[<-hw] at hl;simp at h h1;split at hl<;>omega
  ·simp at h1;omega
 ·obtain⟨hj1,hj2⟩:=hj
  refine Y.bif (fun h=>Y.some (hno (hj2 h))) (fun h=>?_)
  have h35:=hj1 h
  refine Y.grd (hin 0 (by omega)) (Y.eqb (YL _ (by have:=hn 0;show (List.getD (cuts b s) 0 []).length<=_;omega)) (Y.grd (hin 2 (by omega)) (Y.eqb (Qij _ 44 (by have:=hn 2;show (List.getD (cuts b s) 2 []).length<=_;omega)) ?_)))
  have hk:=Jn 44 (List.getD (cuts b s) 2 [])
  have hk2:=hn 2
  refine Y.bind (Q:=fun (x:TRu)=>x.1.length<=s.length+1/\∀I,Q7 I=0->Qt I [b]=s->x=I) ?_ (fun x hx=>?_)
  ·have comp:∀I,Q7 I=0->Qt I [b]=s->numS (List.getD (cuts b s) (Int.toNat 0) [])=I.2.1/\(cuts 44 (List.getD (cuts b s) (Int.toNat 2) [])).map numS=I.1:=fun I J U=>by
    have ho:=ZF J
    rw[YW J hb U];refine⟨?_,?_⟩
    ·show numS (Lib.itoa I.2.1)=_
     exact Qa6 (by have:=ho.need;omega) (by have:=ho.need;omega)
    ·show (cuts 44 (Zd I.1 [44])).map numS=_
     rw[QlS I.1 (fun e=>by have:=ho.len;rw[e] at this;simp at this) (fun k hk=>by have:=ho.keys k hk;omega),List.map_map]
     have hid:∀k,k ∈ I.1->(numS ∘ Lib.itoa) k=id k:=fun k hk=>Qa6 (by have:=ho.keys k hk;omega) (by have:=ho.keys k hk;omega)
     rw[List.map_congr_left hid,List.map_id]
   refine Y.bif (fun h5=>?_) (fun h5=>?_)
   ·have h5:(cuts b s).length=5:=by simp at h5;omega
    refine Y.grd (hin 4 (by omega)) (Y.eqb (YL _ (by have:=hn 4;show (List.getD (cuts b s) 4 []).length<=_;omega)) (Y.some ⟨by show (List.map numS _).length<=_;rw[List.length_map];show (cuts 44 (List.getD (cuts b s) 2 [])).length<=_;omega,fun I J U=>?_⟩))
    obtain⟨c1,c2⟩:=comp I J U;have hw:=YW J hb U
    have hl:=Qd2 I
    rw[<-hw,h5] at hl;have ha:I.2.2 ≠ 0:=fun e=>by rw[if_pos e] at hl;omega
    have ho:=ZF J
    rw[c1,c2];show (I.1,I.2.1,numS (List.getD (cuts b s) 4 []))=I
    rw[hw];unfold Qes;rw[if_neg ha];show (I.1,I.2.1,numS (Lib.itoa I.2.2))=I
    rw[Qa6 (by have:=ho.after;omega) (by have:=ho.after;omega)]
   ·have U:(cuts b s).length=3:=by simp at h5;omega
    refine Y.some ⟨by show (List.map numS _).length<=_;rw[List.length_map];show (cuts 44 (List.getD (cuts b s) 2 [])).length<=_;omega,fun I J h4=>?_⟩
    obtain⟨c1,c2⟩:=comp I J h4;have hl:=Qd2 I
    rw[<-YW J hb h4,U] at hl;have ha:I.2.2=0:=by
     by_cases e:I.2.2=0
     ·exact e
     ·rw[if_neg e] at hl;omega
    rw[c1,c2,<-ha]
  ·obtain⟨hx1,hx2⟩:=hx
   refine Y.bind (Q:=fun j=>j=true->∀I,Q7 I=0->Qt I [b]=s->False) ?_ (fun j hj=>?_)
   ·refine Y.eqb (QfP x (by unfold BIG;omega)) ?_
    refine Y.bif (fun h1=>Y.some (fun _ I J U=>?_)) (fun h1=>?_)
    ·rw[hx2 I J U] at h1;simp[J] at h1
    ·have h0:Q7 x=0:=by simpa using h1
     refine Y.eqb (Qer (ZF h0) [b] (by simp)) (Y.some (fun h I J U=>?_))
     rw[hx2 I J U] at h;simp[U] at h
   ·refine Y.bif (fun h=>Y.some (hno (hj h))) (fun h=>Y.some ⟨hx1,fun I J U=>by rw[hx2 I J U]⟩)
theorem Qq8 (s:List UInt8) (hs:s.length<=100000):Y (QcR s) (Qm2 s 32):=by
 have hlen:=Jn 32 s
 have hin:∀i:Nat,i<(cuts 32 s).length->inB (i:Int) (cuts 32 s)=true:=fun i h=>Qb _ i h
 have hn:∀i:Nat,(List.getD (cuts 32 s) i []).length<=s.length:=Yj 32 s
 have hno:(∀I,Q7 I=0->Qt I [32]=s->False)->Qm2 s 32 (([],(0,0)),false):=fun h=>⟨by simp,fun I h1 J=>(h I h1 J).elim⟩
 have yn:∀(i:Nat) (n:Nat),Y (Qn (List.getD (cuts 32 s) i []) (n:Int)) (fun r=>∀k,0<=k->k<=9999999->List.getD (cuts 32 s) i []=Lib.itoa k->(Lib.itoa k).length<=n->r=(k,true)):=fun i n=>by
  obtain⟨r,h1,_⟩:=Qhx (List.getD (cuts 32 s) i []) (n:Int) (by have:=hn i;unfold BIG;omega)
  refine⟨r,h1,fun k h0 h9 hk hl=>?_⟩
  rw[hk,Qfq h0 h9 n hl] at h1;exact (Option.some.inj h1).symm
 have il:∀(k:Int) (n:Nat),0<=k->k<10 ^ n->1<=n->(Lib.itoa k).length<=n:=fun k n h0 h1 hn=>by
  obtain⟨m,rfl⟩:=aLA h0;rw[YN,Lib.decDigits_length];refine QcL n m ?_ hn;have:((10:Int) ^ n)=(((10:Nat) ^ n:Nat):Int):=by norm_cast
  omega
 unfold QcR;refine Y.eqb (Y3 s 32 (by unfold LIM;omega)) ?_
 refine Y.bind (Q:=fun j=>(j=false->((cuts 32 s).length=3\/(cuts 32 s).length=5))/\(j=true->∀I,Q7 I=0->Qt I [32]=s->False)) ?_ (fun j hj=>?_)
 ·have word:∀I,Q7 I=0->Qt I [32]=s->(!decide (List.getD (cuts 32 s) (Int.toNat 1) []=[111,102]))=false:=fun I J U=>by
   rw[YW J QdY U];show (!decide (([111,102]:List UInt8)=[111,102]))=false
   rfl
  refine Y.bif (fun h1=>Y.bif (fun J=>Y.some ⟨(fun h=>by cases h),(fun _ I U h4=>?_)⟩) (fun J=>Y.grd (hin 1 ?_) (Y.some ⟨(fun _=>.inr ?_),(fun h I U h4=>?_)⟩))) (fun h1=>Y.grd (hin 1 ?_) (Y.some ⟨(fun _=>.inl ?_),(fun h I U h4=>?_)⟩))
  ·have hl:=Qd2 I
   rw[<-YW U QdY h4] at hl;simp at h1 J;split at hl<;>omega
  ·simp at J;omega
  ·simp at J;omega
  ·rw[word I U h4] at h;cases h
  ·simp at h1;omega
  ·simp at h1;omega
  ·rw[word I U h4] at h;cases h
 ·obtain⟨hj1,hj2⟩:=hj
  refine Y.bif (fun h=>Y.some (hno (hj2 h))) (fun h=>?_)
  have h35:=hj1 h
  refine Y.grd (hin 0 (by omega)) (Y.bind (yn 0 1) (fun a ha=>Y.grd (hin 2 (by omega)) (Y.eqb (Y3 _ 44 (by have:=hn 2;show (List.getD (cuts 32 s) 2 []).length<_;unfold LIM;omega)) ?_)))
  have hk:=Jn 44 (List.getD (cuts 32 s) 2 [])
  have hk2:=hn 2
  obtain⟨ks,hks⟩:∃ks,ks=cuts 44 (List.getD (cuts 32 s) (Int.toNat 2) []):=⟨_,rfl⟩;have hks':ks=cuts 44 (List.getD (cuts 32 s) 2 []):=hks
  rw[<-hks];rw[<-hks'] at hk;have hcm:∀I,Q7 I=0->Qt I [32]=s->ks=I.1.map Lib.itoa:=fun I J U=>by
   have ho:=ZF J
   rw[hks',YW J QdY U];exact QlS I.1 (fun e=>by have:=ho.len;rw[e] at this;simp at this) (fun k hk=>by have:=ho.keys k hk;omega)
  have hca:∀I,Q7 I=0->Qt I [32]=s->a=(I.2.1,true):=fun I J U=>by
   have ho:=ZF J
   refine ha I.2.1 (by have:=ho.need;omega) (by have:=ho.need;omega) (by rw[YW J QdY U];rfl) (il _ 1 (by have:=ho.need;omega) (by have:=ho.need;omega) (by omega))
  refine Y.bind (Q:=fun (x:Bool×TRu)=>x.2.1.length<=s.length+1/\∀I,Q7 I=0->Qt I [32]=s->x=(true,I.1,I.2.1,0)) ?_ (fun x hx=>?_)
  ·refine Y.loop (fun n (st:Bool×Int×List Int×Int×Int)=>∃i:Nat,st.2.1=(i:Int)/\i<=ks.length/\n=ks.length - i/\st.2.2.1.length=i/\∀I,Q7 I=0->Qt I [32]=s->st.1=true/\st.2.2=(I.1.take i,I.2.1,0)) (fun n st hI=>?_) ks.length _ ⟨0,rfl,by omega,by omega,rfl,fun I J U=>by rw[hca I J U];exact⟨rfl,by simp⟩⟩
   obtain⟨i,hi,hle,hnn,hac,hcomp⟩:=hI;obtain⟨ok,i',acc,nd,af⟩:=st;have hi:i'=(i:Int):=hi
   subst hi;have hac:acc.length=i:=hac
   refine Y.bif (fun h1=>?_) (fun h1=>Y.some ⟨by show acc.length<=_;omega,fun I J U=>?_⟩)
   ·have hlt:i<ks.length:=by simp at h1;omega
    have hwl:(ks[i]).length<=s.length:=by
     have:ks[i] ∈ cuts 44 (List.getD (cuts 32 s) 2 []):=hks' ▸ aLl hlt
     have:=Qa3 44 _ _ this;omega
    have hg:List.getD ks (Int.toNat (i:Int)) []=ks[i]:=Qa ks i _ hlt
    refine Y.grd (Qb _ i hlt) ?_;have yk:Y (Qn (List.getD ks (Int.toNat (i:Int)) []) 3) (fun y=>∀I,Q7 I=0->Qt I [32]=s->∃hr:i<I.1.length,y=(I.1[i],true)):=by
     obtain⟨y,h4,_⟩:=Qhx (List.getD ks (Int.toNat (i:Int)) []) 3 (by rw[hg];unfold BIG;omega)
     refine⟨y,h4,fun I J U=>?_⟩
     have hm:=hcm I J U
     have hr:i<I.1.length:=by rw[hm] at hlt;simpa using hlt
     have ho:=(ZF J).keys _ (aLl hr)
     have e:ks[i]=Lib.itoa I.1[i]:=by rw[List.getElem_of_eq hm hlt];simp
     rw[hg,e] at h4;have:=Qfq (k:=I.1[i]) (by omega) (by omega) 3 (il _ 3 (by omega) (by omega) (by omega))
     have h4':Qn (Lib.itoa I.1[i]) ((3:Nat):Int)=some y:=h4
     rw[this] at h4';exact⟨hr,(Option.some.inj h4').symm⟩
    refine Y.bind yk (fun y hy=>?_)
    refine Y.bind (Q:=fun j=>∀I,Q7 I=0->Qt I [32]=s->j=true) ?_ (fun j hj=>?_)
    ·refine Y.bif (fun h5=>Y.some (fun I J U=>by obtain⟨_,e⟩:=hy I J U;rw[e])) (fun h5=>Y.some (fun I J U=>?_))
     have:=(hcomp I J U).1
     rw[this] at h5;cases h5
    ·refine Y.grd (QfD _ _ (by show acc.length<_;omega)) (Y.some ?_)
     refine⟨ks.length - (i+1),by omega,i+1,wsucc hlt (by unfold BIG;omega),by omega,rfl,by show (List.append acc [y.1]).length=_;simp[hac],fun I J U=>⟨hj I J U,?_⟩⟩
     obtain⟨hr,e⟩:=hy I J U;have hc2:=(hcomp I J U).2
     simp only[aLe] at hc2;show (List.append acc [y.1],nd,af)=_
     rw[e,hc2.1,hc2.2.1,hc2.2.2,List.take_add_one,aLf hr];rfl
   ·have hge:i=ks.length:=by simp at h1;omega
    obtain⟨c1,c2⟩:=hcomp I J U;have hkl:ks.length=I.1.length:=by rw[hcm I J U];simp
    show (ok,acc,nd,af)=_
    have c1:ok=true:=c1
    have c2:(acc,nd,af)=(I.1.take i,I.2.1,0):=c2
    rw[c1,c2,hge,hkl,List.take_length]
  ·obtain⟨hx1,hx2⟩:=hx
   refine Y.bind (Q:=fun (z:Bool×TRu)=>z.2.1.length<=s.length+1/\∀I,Q7 I=0->Qt I [32]=s->z=(true,I)) ?_ (fun z hz=>?_)
   ·refine Y.bif (fun h5=>?_) (fun h5=>?_)
    ·have h5:(cuts 32 s).length=5:=by simp at h5;omega
     refine Y.grd (hin 4 (by omega)) (Y.bind (yn 4 3) (fun y hy=>?_))
     have wd:∀I,Q7 I=0->Qt I [32]=s->I.2.2 ≠ 0/\cuts 32 s=[Lib.itoa I.2.1,[111,102],Zd I.1 [44],[97,102,116,101,114],Lib.itoa I.2.2]:=fun I J U=>by
      have hw:=YW J QdY U
      have hl:=Qd2 I
      rw[<-hw,h5] at hl;have hne:I.2.2 ≠ 0:=fun e=>by rw[if_pos e] at hl;omega
      refine⟨hne,?_⟩;rw[hw];unfold Qes;rw[if_neg hne];rfl
     have hya:∀I,Q7 I=0->Qt I [32]=s->y=(I.2.2,true):=fun I J U=>by
      have ho:=(ZF J).after
      exact hy I.2.2 (by omega) (by omega) (by rw[(wd I J U).2];rfl) (il _ 3 (by omega) (by omega) (by omega))
     refine Y.bind (Q:=fun j=>∀I,Q7 I=0->Qt I [32]=s->j=true) ?_ (fun j hj=>Y.some ⟨hx1,fun I J U=>by rw[hj I J U,hx2 I J U,hya I J U]⟩)
     refine Y.bif (fun _=>Y.bif (fun _=>Y.grd (hin 3 (by omega)) (Y.bif (fun _=>Y.some (fun I J U=>?_)) (fun h6=>Y.some (fun I J U=>?_)))) (fun h6=>Y.some (fun I J U=>?_))) (fun h6=>Y.some (fun I J U=>?_))
     ·have ho:=(ZF J).after
      have:=(wd I J U).1
      rw[hya I J U];simp;omega
     ·rw[(wd I J U).2] at h6
      simp at h6
     ·rw[hya I J U] at h6;cases h6
     ·rw[hx2 I J U] at h6;cases h6
    ·have h3':(cuts 32 s).length=3:=by simp at h5;omega
     refine Y.some ⟨hx1,fun I J U=>?_⟩
     have hl:=Qd2 I
     rw[<-YW J QdY U,h3'] at hl;have hz:I.2.2=0:=by
      by_cases e:I.2.2=0
      ·exact e
      ·rw[if_neg e] at hl;omega
     rw[hx2 I J U,<-hz]
   ·obtain⟨hz1,hz2⟩:=hz
    refine Y.bind (Q:=fun (u:Bool×TRu)=>u.2.1.length<=s.length+1/\∀I,Q7 I=0->Qt I [32]=s->u=(true,I)) ?_ (fun u hu=>Y.some ⟨hu.1,fun I J U=>by rw[hu.2 I J U]⟩)
    refine Y.bif (fun _=>Y.eqb (QeD z.2 (by unfold BIG;omega)) (Y.some ⟨hz1,fun I J U=>by rw[hz2 I J U];simp[J]⟩)) (fun h6=>Y.some ⟨hz1,fun I J U=>?_⟩)
    rw[hz2 I J U] at h6;cases h6
end GL
end Go.Dx
set_option maxHeartbeats 2000000
namespace Go.Dx
namespace GL
abbrev TX:=Int×Int×List (Int×Int)×List TOut
theorem Qg7 (l:List (Int×Int)) (I:l.length<BIG) (x:Int×Int):QQ l x=some (decide (x ∈ l)):=by
 unfold QQ Z8;rw[Jl l (fun a=>decide (x=a)) _ (fun i h=>?_) (by simp only[dge,aLC]),aLc,ZH,any_eq]
 ·exact congrArg some (decide_eq_decide.2 Iff.rfl)
 ·simp only[dlt h,Qb l i h,Qa l i _ h,aLB,wsucc h I,QhP]
  cases decide (x=l[i])<;>rfl
theorem QcY (l:List (Int×Int)) (I:l.length<BIG) (x:Int×Int):JF l x=some (decide (x ∈ l)):=by
 unfold JF;rw[Qhv l (fun a=>decide (a=x)) _ (fun i h=>?_) (by simp only[dge,aLC]),any_eq']
 ·exact congrArg some (decide_eq_decide.2 Iff.rfl)
 ·simp only[dlt h,Qb l i h,Qa l i _ h,aLB,wsucc h I,QhP]
  cases decide (l[i]=x)<;>rfl
def mRf (l:List (Int×Int)) (i:Nat) (r:Int×Int):Int:=if mRef r then (if r ∈ l.take i then 7 else 0) else 3
def mTxO (t:TX):Int:=if code (fun _ o=>mOut o) t.2.2.2=0 then (if t.1=1/\(List.getD t.2.2.2 0 (0,([],(0,0)))).1<100 then 8 else 0) else code (fun _ o=>mOut o) t.2.2.2
def mTxF (t:TX):Int:=if mIn t.1 0 2&&(decide (t.1=0) == decide (t.2.1=0)) then (if decide (t.1=0) || mIn t.2.1 1 999 then (if mIn (t.2.2.1.length:Int) 1 4&&mIn (t.2.2.2.length:Int) 1 4 then (if code (mRf t.2.2.1) t.2.2.1=0 then mTxO t else code (mRf t.2.2.1) t.2.2.1) else 2) else 3) else 1
structure bT (t:TX):Prop where
 ins:t.2.2.1.length<BIG
 outs:t.2.2.2.length<BIG
 keys:∀o,o ∈ t.2.2.2->o.2.1.length<BIG
theorem Qgd (o:TOut) (I:o.2.1.length<BIG):Yw o=some (mOut o):=by
 unfold Yw mOut;rw[Zf,aLc,QfP _ I];cases mIn o.1 1 1000000<;>rfl
theorem QnW (n:Int):Ju n=some (!mIn n 1 4):=by
 unfold Ju;have I:(decide (n<1) || decide (4<n)) = !mIn n 1 4:=by
  unfold mIn;rw[Bool.eq_iff_iff];simp;try omega
 rw[<-I];cases decide (n<1)<;>rfl
theorem Qpg (t:TX) (h:0<t.2.2.2.length):((bif decide (t.1=1) then bif inB 0 t.2.2.2 then some (decide ((List.getD t.2.2.2 (Int.toNat 0) (0,([],(0,0)))).1<100)) else none else some false:Option Bool).bind fun j=>bif j then some (8:Int) else some 0)=some (if t.1=1/\(List.getD t.2.2.2 0 (0,([],(0,0)))).1<100 then 8 else 0):=by
 by_cases h1:t.1=1
 ·rw[aLE h1,aLB,ZC (by omega) (by omega),aLB,aLc]
  show (bif decide ((List.getD t.2.2.2 0 (0,([],(0,0)))).1<100) then some (8:Int) else some 0)=_
  by_cases I:(List.getD t.2.2.2 0 (0,([],(0,0)))).1<100
  ·rw[aLE I,if_pos ⟨h1,I⟩];rfl
  ·rw[aLD I,if_neg (fun h=>I h.2)];rfl
 ·rw[aLD h1,if_neg (fun h=>h1 h.1)];rfl
theorem Qib (t:TX) (hb:bT t) (h:0<t.2.2.2.length):QdD t=some (mTxO t):=by
 unfold QdD mTxO;rw[Qas t.2.2.2 (fun _ o=>mOut o) _ (fun i h=>?_) (by simp only[dge,aLC]),Qpg t h]
 ·split<;>rfl
 ·have hk:=hb.keys _ (aLl h)
  simp only[dlt h,Qb _ i h,Qa _ i _ h,aLB,Zm,QeD _ hk,aLc,wsucc h hb.outs];unfold mOut;cases mIn t.2.2.2[i].1 1 1000000
  ·rfl
  ·by_cases I:Q7 t.2.2.2[i].2=0
   ·rw[aLE I];simp[I]
   ·rw[aLD I];simp[I]
theorem Qcz (t:TX) (hb:bT t):YS t=some (mTxF t):=by
 unfold YS mTxF;simp only[Zm,Qew,aLc,beqB];cases h1:mIn t.1 0 2
 ·rfl
 ·simp only[Bool.not_true,aLC,aLc,Bool.true_and]
  by_cases I:decide (t.1=0)=decide (t.2.1=0)
  ·rw[aLE I,beq_iff_eq.2 I,if_pos rfl]
   simp only[Bool.not_true,aLC];by_cases U:t.1=0;all_goals skip
   ·rw[aLE U]
    simp only[Bool.not_true,aLC,aLc,Bool.true_or,if_true];cases h4:mIn (t.2.2.1.length:Int) 1 4<;>cases J:mIn (t.2.2.2.length:Int) 1 4<;>try rfl
    simp only[Bool.not_true,aLC,aLc,Bool.true_and,if_true];rw[QE] at J;rw[Qas t.2.2.1 (mRf t.2.2.1) _ (fun i h=>?_) (by simp only[dge,aLC]),Qib t hb (by omega)]
    ·split<;>rfl
    ·simp only[dlt h,Qb _ i h,Qa _ i _ h,ZR _ i (Nat.le_of_lt h),Y9,aLB,QfZ,aLc,wsucc h hb.ins,QcY _ (YR hb.ins i)]
     unfold mRf;cases mRef t.2.2.1[i]<;>by_cases hm:t.2.2.1[i] ∈ t.2.2.1.take i<;>simp[hm]
   ·rw[aLD U]
    simp only[Bool.not_false,aLB,aLc,Bool.false_or];cases h6:mIn t.2.1 1 999<;>try rfl
    simp only[Bool.not_true,aLC,aLc,if_true];cases h4:mIn (t.2.2.1.length:Int) 1 4<;>cases J:mIn (t.2.2.2.length:Int) 1 4<;>try rfl
    simp only[Bool.not_true,aLC,aLc,Bool.true_and,if_true];rw[QE] at J;rw[Qas t.2.2.1 (mRf t.2.2.1) _ (fun i h=>?_) (by simp only[dge,aLC]),Qib t hb (by omega)]
    ·split<;>rfl
    ·simp only[dlt h,Qb _ i h,Qa _ i _ h,ZR _ i (Nat.le_of_lt h),Y9,aLB,QfZ,aLc,wsucc h hb.ins,QcY _ (YR hb.ins i)]
     unfold mRf;cases mRef t.2.2.1[i]<;>by_cases hm:t.2.2.1[i] ∈ t.2.2.1.take i<;>simp[hm]
  ·rw[aLD I,beq_eq_false_iff_ne.2 I]
   rfl
theorem QkW (t:TX) (hb:bT t):Qc2 t=some (mTxF t):=by
 unfold Qc2 mTxF;simp only[Zf,Qeq,QnW,aLc,beqB];cases h1:mIn t.1 0 2
 ·rfl
 ·simp only[Bool.not_true,aLC,aLc,Bool.true_and]
  by_cases h2:decide (t.1=0)=decide (t.2.1=0)
  ·have h20:decide (t.2.1=0)=decide (t.1=0):=h2.symm
   rw[aLE h2,beq_iff_eq.2 h2,if_pos rfl,h20];simp only[Bool.not_true,aLC];have rest:∀(hx:(decide (t.1=0) || mIn t.2.1 1 999)=true),((bif !mIn (t.2.2.1.length:Int) 1 4 then some true else (some (!mIn (t.2.2.2.length:Int) 1 4):Option Bool).bind fun y39=>some y39).bind fun j40=>bif j40 then some 2 else
     (Qc (S:=Int) (X:=(Unit)⊕(Int)) (fun (J:Int)=>
 bif (decide ((J:Int)<(List.length t.2.2.1:Int))) then
 bif (inB J t.2.2.1) then
 (Qcq (List.getD t.2.2.1 (Int.toNat J) (0,0))).bind fun (y46:Bool)=>
 bif (!y46) then
 some (Sum.inr (Sum.inr 3))
 else
 bif (QR 0 J t.2.2.1) then
 (QQ (cut 0 J t.2.2.1) (List.getD t.2.2.1 (Int.toNat J) (0,0))).bind fun (y47:Bool)=>
 bif y47 then
 some (Sum.inr (Sum.inr 7))
 else
 some (Sum.inl (IntKind.wrap .i64 (J+1)))
 else none
 else none
 else
 some (Sum.inr (Sum.inl ()))) 0).bind fun (j48:(Unit)⊕(Int))=>
 Sum.elim (fun (j49:Unit)=>
 (Qc (S:=Int) (X:=(Unit)⊕(Int)) (fun (I:Int)=>
 bif (decide ((I:Int)<(List.length t.2.2.2:Int))) then
 bif (inB I t.2.2.2) then
 (Yw (List.getD t.2.2.2 (Int.toNat I) (0,([],(0,0))))).bind fun (U:Int)=>
 bif (!decide ((U:Int)=0)) then
 some (Sum.inr (Sum.inr U))
 else
 some (Sum.inl (IntKind.wrap .i64 (I+1)))
 else none
 else
 some (Sum.inr (Sum.inl ()))) 0).bind fun (j55:(Unit)⊕(Int))=>
 Sum.elim (fun (j56:Unit)=>
 (bif (decide ((t.1:Int)=1)) then
 bif (inB 0 t.2.2.2) then
 some (decide (((List.getD t.2.2.2 (Int.toNat 0) (0,([],(0,0)))).1:Int)<100))
 else none
 else
 some false:Option (Bool)).bind fun (j58:Bool)=>
 bif j58 then
 some 8
 else
 some 0) (fun (j57:Int)=>
 some j57) j55) (fun (j50:Int)=>
 some j50) j48:Option Int)=some (if mIn (t.2.2.1.length:Int) 1 4&&mIn (t.2.2.2.length:Int) 1 4 then (if code (mRf t.2.2.1) t.2.2.1=0 then mTxO t else code (mRf t.2.2.1) t.2.2.1) else 2):=fun hx=>by
    cases h4:mIn (t.2.2.1.length:Int) 1 4<;>cases h5:mIn (t.2.2.2.length:Int) 1 4<;>try rfl
    simp only[Bool.not_true,aLC,aLc,Bool.true_and,if_true];rw[QE] at h5;rw[Qas t.2.2.1 (mRf t.2.2.1) _ (fun i h=>?_) (by simp only[dge,aLC])]
    ·have ho:(Qc (S:=Int) (X:=(Unit)⊕(Int)) (fun (I:Int)=>
 bif (decide ((I:Int)<(List.length t.2.2.2:Int))) then
 bif (inB I t.2.2.2) then
 (Yw (List.getD t.2.2.2 (Int.toNat I) (0,([],(0,0))))).bind fun (U:Int)=>
 bif (!decide ((U:Int)=0)) then
 some (Sum.inr (Sum.inr U))
 else
 some (Sum.inl (IntKind.wrap .i64 (I+1)))
 else none
 else
 some (Sum.inr (Sum.inl ()))) 0).bind (fun (j55:(Unit)⊕(Int))=>
 Sum.elim (fun (j56:Unit)=>
 (bif (decide ((t.1:Int)=1)) then
 bif (inB 0 t.2.2.2) then
 some (decide (((List.getD t.2.2.2 (Int.toNat 0) (0,([],(0,0)))).1:Int)<100))
 else none
 else
 some false:Option (Bool)).bind fun (j58:Bool)=>
 bif j58 then
 some 8
 else
 some 0) (fun (j57:Int)=>
 some j57) j55)=some (mTxO t):=by
      unfold mTxO;rw[Qas t.2.2.2 (fun _ o=>mOut o) _ (fun i h=>?_) (by simp only[dge,aLC]),Qpg t (by omega)]
      ·split<;>rfl
      ·have hk:=hb.keys _ (aLl h)
       simp only[dlt h,Qb _ i h,Qa _ i _ h,aLB,Qgd _ hk,aLc,wsucc h hb.outs];by_cases h3:mOut t.2.2.2[i]=0
       ·rw[aLE h3];simp[h3]
       ·rw[aLD h3];simp[h3]
     rw[ho];split<;>rfl
    ·simp only[dlt h,Qb _ i h,Qa _ i _ h,ZR _ i (Nat.le_of_lt h),Y9,aLB,Qm4,aLc,wsucc h hb.ins,Qg7 _ (YR hb.ins i)]
     unfold mRf;cases mRef t.2.2.1[i]<;>by_cases hm:t.2.2.1[i] ∈ t.2.2.1.take i<;>simp[hm]
   cases h3:decide (t.1=0) with
   | true=>
    simp only[Bool.not_true,aLC,aLc,Bool.true_or,if_true];exact rest (by rw[h3];rfl)
   | false=>
    simp only[Bool.not_false,aLB,aLc,Bool.false_or];cases h6:mIn t.2.1 1 999
    ·rfl
    ·simp only[Bool.not_true,aLC,aLc,if_true]
     exact rest (by rw[h3,h6];rfl)
  ·rw[aLD h2,beq_eq_false_iff_ne.2 h2]
   rfl
end GL
end Go.Dx
set_option maxHeartbeats 2000000
namespace Go.Dx
namespace GL
structure okT (t:TX):Prop where
 kind:0<=t.1/\t.1<=2
 mem:(t.1=0/\t.2.1=0)\/(t.1 ≠ 0/\1<=t.2.1/\t.2.1<=999)
 li:1<=t.2.2.1.length/\t.2.2.1.length<=4
 lo:1<=t.2.2.2.length/\t.2.2.2.length<=4
 ref:∀r,r ∈ t.2.2.1->mRef r=true
 nd:t.2.2.1.Nodup
 out:∀o,o ∈ t.2.2.2->(1<=o.1/\o.1<=1000000)/\Q7 o.2=0
theorem JO {r:Int×Int}:mRef r=true↔(1<=r.1/\r.1<=60)/\(0<=r.2/\r.2<=3):=by
 unfold mRef;rw[aLg,QE,QE]
theorem Qss {α:Type} [DecidableEq α] (l:List α) (h:∀i (hi:i<l.length),l[i] ∉ l.take i):l.Nodup:=by
 rw[List.nodup_iff_pairwise_ne,List.pairwise_iff_getElem];intro i j hi hj I he;refine h j hj ?_;rw[List.mem_take_iff_getElem];exact⟨i,by omega,he⟩
theorem J0 {t:TX} (h:mTxF t=0):okT t:=by
 unfold mTxF at h;cases h1:mIn t.1 0 2&&(decide (t.1=0) == decide (t.2.1=0)) with
 | false=>rw[h1] at h;simp at h
 | true=>
  rw[h1,if_pos rfl] at h;cases U:(decide (t.1=0) || mIn t.2.1 1 999) with
  | false=>rw[U] at h;simp at h
  | true=>
   rw[U,if_pos rfl] at h;cases h3:(mIn (t.2.2.1.length:Int) 1 4&&mIn (t.2.2.2.length:Int) 1 4) with
   | false=>rw[h3] at h;simp at h
   | true=>
    rw[h3,if_pos rfl] at h;by_cases h4:code (mRf t.2.2.1) t.2.2.1=0
    ·rw[if_pos h4] at h
     unfold mTxO at h;by_cases h5:code (fun _ o=>mOut o) t.2.2.2=0
     ·rw[aLg,QE,beq_iff_eq] at h1
      rw[aLg,QE,QE] at h3;have hr:∀i (hi:i<t.2.2.1.length),mRef t.2.2.1[i]=true/\t.2.2.1[i] ∉ t.2.2.1.take i:=fun i hi=>by
       have I:=Yh h4 i _ (aLf hi)
       unfold mRf at I;cases J:mRef t.2.2.1[i] with
       | false=>rw[J] at I;simp at I
       | true=>
        rw[J,if_pos rfl] at I;exact⟨rfl,fun hm=>by rw[if_pos hm] at I;cases I⟩
      refine⟨h1.1,?_,by omega,by omega,fun r hr'=>?_,Qss _ fun i hi=>(hr i hi).2,fun o ho=>?_⟩
      ·by_cases h0:t.1=0
       ·left
        have:=h1.2
        rw[aLE h0] at this;exact⟨h0,aLG this.symm⟩
       ·right
        rw[aLD h0,Bool.false_or,QE] at U;exact⟨h0,U⟩
      ·obtain⟨i,hi,rfl⟩:=List.mem_iff_getElem.1 hr'
       exact (hr i hi).1
      ·obtain⟨i,hi,rfl⟩:=List.mem_iff_getElem.1 ho
       have I:=Yh h5 i _ (aLf hi)
       unfold mOut at I;cases J:mIn t.2.2.2[i].1 1 1000000 with
       | false=>rw[J] at I;simp at I
       | true=>
        rw[J,if_pos rfl] at I;exact⟨QE.1 J,I⟩
     ·rw[if_neg h5] at h;exact absurd h h5
    ·rw[if_neg h4] at h;exact absurd h h4
theorem okT.b {t:TX} (h:okT t):bT t:=by
 have I:BIG=4611686018427387904:=rfl
 refine⟨by have:=h.li;omega,by have:=h.lo;omega,fun o ho=>?_⟩
 have:=(ZF (h.out o ho).2).len
 omega
def kw (k:Int):List UInt8:=if k=0 then [112,97,121] else if k=1 then [106,111,105,110] else [108,101,97,118,101]
def wRef (r:Int×Int):List UInt8:=Lib.itoa r.1++[58]++Lib.itoa r.2
def wOut (o:TOut):List UInt8:=Lib.itoa o.1++[61]++Qt o.2 [95]
def wTx (t:TX):List (List UInt8):=[kw t.1]++(if t.1=0 then [] else [Lib.itoa t.2.1])++[Lib.join (t.2.2.1.map wRef) [43]]++t.2.2.2.map wOut
def Qp (t:TX):List UInt8:=Lib.join (wTx t) [32]
theorem QgL (c:UInt8) (B:Nat):∀ws:List (List UInt8),(∀w,w ∈ ws->w.length<=B)->(Lib.join ws [c]).length<=(B+1) * ws.length
 | [],_=>by simp[Lib.join_nil]
 | [x],h=>by rw[Lib.join_one];have:=h x aLm;simp;omega
 | x::y::r,h=>by
  have h1:=h x aLm
  have I:=QgL c B (y::r) fun w hw=>h w (aLp _ hw)
  rw[Qau,aLi,aLh];have e:(B+1) * (x::y::r).length=(B+1) * (y::r).length+(B+1):=by rw[aLh,Nat.mul_succ]
  omega
theorem Qm7 {r:Int×Int} (h:mRef r=true):(wRef r).length<=40:=by
 rw[JO] at h;have h1:=Qq (n:=r.1) (by omega) (by omega)
 have I:=Qq (n:=r.2) (by omega) (by omega)
 unfold wRef;simp only[aLi,aLh,aLj];omega
theorem Qnz {o:TOut} (h:(1<=o.1/\o.1<=1000000)/\Q7 o.2=0):(wOut o).length<=140:=by
 have h1:=Qq (n:=o.1) (by omega) (by omega)
 have I:=Qcl h.2 95
 unfold wOut;simp only[aLi,aLh,aLj];omega
theorem QjN {t:TX} (h:okT t):(Lib.join (t.2.2.1.map wRef) [43]).length<=164:=by
 have:=QgL 43 40 (t.2.2.1.map wRef) fun w hw=>by
  obtain⟨r,I,rfl⟩:=List.mem_map.1 hw;exact Qm7 (h.ref r I)
 rw[List.length_map] at this;have:=h.li
 omega
theorem QqX (k:Int):(kw k).length<=5:=by
 unfold kw;split
 ·simp
 ·split<;>simp
theorem Qle {t:TX} (h:okT t):(∀w,w ∈ wTx t->w.length<=164)/\(wTx t).length<=7:=by
 refine⟨fun w hw=>?_,?_⟩
 ·unfold wTx at hw
  simp only[List.mem_append,aLs] at hw;rcases hw with ((rfl | hw) | rfl) | hw
  ·have:=QqX t.1;omega
  ·split at hw
   ·simp at hw
   ·rw[aLs] at hw;subst hw
    have:=h.mem
    have:=Qq (n:=t.2.1) (by omega) (by omega)
    omega
  ·exact QjN h
  ·obtain⟨o,ho,rfl⟩:=List.mem_map.1 hw
   have:=Qnz (h.out o ho);omega
 ·unfold wTx
  have:=h.lo
  split<;>simp<;>omega
theorem Qqq {t:TX} (h:okT t):(Qp t).length<=1155:=by
 have:=QgL 32 164 (wTx t) (Qle h).1
 have:=(Qle h).2
 unfold Qp;omega
theorem Qh2 {t:TX} (h:okT t):Qby t=some (if (Qp t).length<=300 then (Qp t,0) else ([],2)):=by
 have hk:=h.kind
 have hm:=h.mem
 have hli:=h.li
 have hlo:=h.lo
 have hB:BIG=4611686018427387904:=rfl
 have hL:LIM=1073741824:=rfl
 have hrl:=QjN h
 have U:=Qqq h
 unfold Qby JQ;rw[aLc,ZC (by omega) (by show t.1<((3:Nat):Int);omega),aLB]
 have hkw:List.getD ([[112,97,121],[106,111,105,110],[108,101,97,118,101]]:List (List UInt8)) (Int.toNat t.1) []=kw t.1:=by
  have:t.1=0\/t.1=1\/t.1=2:=by omega
  rcases this with e | e | e<;>rw[e]<;>rfl
 simp only[hkw];have e1:(bif !decide (t.1=0) then (Zy t.2.1).bind fun (I:List UInt8)=>bif decide (List.length ([kw t.1]:List (List UInt8))+List.length ([I]:List (List UInt8))<=LIM) then some (List.append ([kw t.1]:List (List UInt8)) ([I]:List (List UInt8))) else none else some ([kw t.1]:List (List UInt8)))=some ([kw t.1]++(if t.1=0 then [] else [Lib.itoa t.2.1])):=by
  by_cases J:t.1=0
  ·rw[aLE J,if_pos J];rfl
  ·rw[aLD J,if_neg J,YA (by omega) (by omega),aLc,Qe (by simp;omega)];rfl
 rw[e1,aLc];rw[Zu (σ:=List (List UInt8)) t.2.2.1 (fun acc a=>acc++[wRef a]) (fun t i=>(t,i)) (fun t=>t) (fun t i=>t.length=i) _ (fun i hi x hx=>by
   have hr:=JO.1 (h.ref _ (aLl hi))
   have l1:=Qq (n:=t.2.2.1[i].1) (by omega) (by omega)
   have l2:=Qq (n:=t.2.2.1[i].2) (by omega) (by omega)
   refine⟨?_,by simp[hx]⟩
   simp only[dlt hi,Qb _ i hi,Qa _ i _ hi,aLB,YA (n:=t.2.2.1[i].1) (by omega) (by omega),YA (n:=t.2.2.1[i].2) (by omega) (by omega),aLc,wsucc hi (by omega),aLo]
   rw[Qe,Qe,Qe]
   ·rfl
   all_goals ((try simp only[aLi,aLh,aLj]);omega)) (fun t ht=>by simp only[dge,aLC]) [] rfl,aLc,foldl_map,aLx]
 have hj1:ZW (t.2.2.1.map wRef) [43]=some (Lib.join (t.2.2.1.map wRef) [43]):=by
  unfold ZW;exact Qjy _ _ (by rw[List.length_map];omega) (by omega)
 rw[hj1,aLc,Qe (by split<;>simp<;>omega)]
 rw[Zu (σ:=List (List UInt8)) t.2.2.2 (fun acc a=>acc++[wOut a]) (fun t i=>(t,i)) (fun t=>t) (fun t i=>t.length<=3+i) _ (fun i hi x hx=>by
   have ho:=h.out _ (aLl hi)
   have l1:=Qq (n:=t.2.2.2[i].1) (by omega) (by omega)
   have l2:=Qcl ho.2 95
   refine⟨?_,by simp;omega⟩
   simp only[dlt hi,Qb _ i hi,Qa _ i _ hi,aLB,YA (n:=t.2.2.2[i].1) (by omega) (by omega),Qer (ZF ho.2) [95] (by simp),aLc,wsucc hi (by omega),aLo]
   rw[Qe,Qe,Qe]
   ·rfl
   all_goals ((try simp only[aLi,aLh,aLj]);omega)) (fun t ht=>by simp only[dge,aLC]) _ (by split<;>simp),aLc,foldl_map]
 have hw:List.append ([kw t.1]++(if t.1=0 then [] else [Lib.itoa t.2.1])) [Lib.join (t.2.2.1.map wRef) [43]]++t.2.2.2.map wOut=wTx t:=rfl
 rw[hw];have hj2:ZW (wTx t) [32]=some (Qp t):=by
  unfold ZW;have:=(Qle h).2
  exact Qjy _ _ (by omega) (by unfold Qp at U;omega)
 rw[hj2,aLc];by_cases hlen:(Qp t).length<=300
 ·rw[aLD (by omega),if_pos hlen];rfl
 ·rw[aLE (by omega),if_neg hlen];rfl
theorem Qix (x:List UInt8) (ws:List (List UInt8)) (c:UInt8):Lib.join (x::ws) [c]=x++(ws.map fun w=>c::w).flatten:=by
 rw[Lib.join_cons,Lib.joinTail];rfl
theorem QlF {α:Type} (l:List α) (g:α->List UInt8) (f:List UInt8×Int->Option ((List UInt8×Int)⊕List UInt8)) (B:Nat->Nat) (j:Nat)
  (U:∀(i:Nat) (h:i<l.length) (acc:List UInt8),j<=i->acc.length<=B i->f (acc,(i:Int))=some (.inl (acc++g l[i],((i+1:Nat):Int)))/\(acc++g l[i]).length<=B (i+1))
  (he:∀acc,f (acc,(l.length:Int))=some (.inr acc)):∀(k i:Nat) (acc:List UInt8),i+k=l.length->j<=i->acc.length<=B i->Qc f (acc,(i:Int))=some (acc++((l.drop i).map g).flatten)
 | 0,i,acc,hi,_,_=>by
  obtain rfl:i=l.length:=by omega
  rw[Qh (he acc)];simp
 | k+1,i,acc,hi,hj,ha=>by
  have h1:i<l.length:=by omega
  obtain⟨I,J⟩:=U i h1 acc hj ha;rw[Qv I,QlF l g f B j U he k (i+1) _ (by omega) (by omega) J,aLr h1,List.map_cons,List.flatten_cons,List.append_assoc]
theorem QqW (l:List (Int×Int)) (f:List UInt8×Int->Option ((List UInt8×Int)⊕List UInt8)) (acc:List UInt8) (ha:acc.length<=100) (J:1<=l.length/\l.length<=4) (hb:∀r,r ∈ l->(wRef r).length<=40)
  (U:∀(i:Nat) (h:i<l.length) (acc:List UInt8),acc.length<=10000->f (acc,(i:Int))=some (.inl (acc++((if i=0 then 32 else 43)::wRef l[i]),((i+1:Nat):Int))))
  (he:∀acc,f (acc,(l.length:Int))=some (.inr acc)):Qc f (acc,0)=some (acc++32::Lib.join (l.map wRef) [43]):=by
 cases l with
 | nil=>simp at J
 | cons r l=>
  have I:=U 0 (by simp) acc (by omega)
  rw[if_pos rfl] at I;have I:f (acc,0)=some (.inl (acc++32::wRef r,((1:Nat):Int))):=I
  have hr:=hb r aLm
  rw[Qv I,QlF (r::l) (fun a=>43::wRef a) f (fun i=>200+50 * i) 1 (fun i hi a hj hale=>by
   have h2:=U i hi a (by simp at hi J;omega)
   rw[if_neg (by omega)] at h2
   have:=hb _ (aLl hi)
   exact⟨h2,by rw[aLi,aLh];omega⟩) he l.length 1 _ (by simp;omega) (by omega) (by rw[aLi,aLh];omega)]
  rw[List.map_cons,Qix,List.map_map];simp[Function.comp_def]
theorem Qh1 {t:TX} (h:okT t):Qbq t=some (Qp t):=by
 have hk:=h.kind
 have hm:=h.mem
 have hli:=h.li
 have hlo:=h.lo
 have hB:BIG=4611686018427387904:=rfl
 have hL:LIM=1073741824:=rfl
 have hrl:=QjN h
 unfold Qbq;rw[ZC (by omega) (by show t.1<((3:Nat):Int);omega),aLB]
 obtain⟨hd,U⟩:∃hd,hd=if t.1=0 then kw t.1 else kw t.1++32::Lib.itoa t.2.1:=⟨_,rfl⟩
 have hdl:hd.length<=100:=by
  have h1:=QqX t.1
  rw[U];split
  ·omega
  ·have:=Qq (n:=t.2.1) (by omega) (by omega)
   rw[aLi,aLh];omega
 have e1:(bif !decide (t.1=0) then (QI t.2.1).bind fun (y26:List UInt8)=>
   bif decide (List.length (List.getD ([[112,97,121],[106,111,105,110,32],[108,101,97,118,101,32]]:List (List UInt8)) (Int.toNat t.1) [])+List.length y26<=LIM) then
   some (List.append (List.getD ([[112,97,121],[106,111,105,110,32],[108,101,97,118,101,32]]:List (List UInt8)) (Int.toNat t.1) []) y26)
   else none
   else some (List.getD ([[112,97,121],[106,111,105,110,32],[108,101,97,118,101,32]]:List (List UInt8)) (Int.toNat t.1) []))=some hd:=by
  rw[U];have:t.1=0\/t.1=1\/t.1=2:=by omega
  rcases this with e | e | e
  ·rw[e];rfl
  all_goals
   rw[Za (by omega) (by omega),aLc,if_neg (by omega),aLD (by omega),Bool.not_false,aLB]
   have:=Qq (n:=t.2.1) (by omega) (by omega)
   rw[e,Qe (by simp;omega)]
   simp[kw]
 rw[e1,aLc];rw[QqW t.2.2.1 _ hd hdl hli (fun r hr=>Qm7 (h.ref r hr)) (fun i hi acc ha=>by
   have hr:=JO.1 (h.ref _ (aLl hi))
   have l1:=Qq (n:=t.2.2.1[i].1) (by omega) (by omega)
   have l2:=Qq (n:=t.2.2.1[i].2) (by omega) (by omega)
   simp only[dlt hi,Qb _ i hi,Qa _ i _ hi,aLB,Za (n:=t.2.2.1[i].1) (by omega) (by omega),Za (n:=t.2.2.1[i].2) (by omega) (by omega),aLc,wsucc hi (by omega),aLo]
   have es:(bif decide ((i:Int)=0) then some [32] else some [43]:Option (List UInt8))=some [if i=0 then 32 else 43]:=by
    by_cases h0:i=0
    ·rw[if_pos h0,aLE (by omega)];rfl
    ·rw[if_neg h0,aLD (by omega)];rfl
   rw[es,aLc,Qe,Qe,Qe,Qe]
   ·unfold wRef;simp
   all_goals ((try simp only[aLi,aLh,aLj]);omega)) (fun acc=>by simp only[dge,aLC]),aLc]
 have:=Qf8 t.2.2.2 (fun o=>32::wOut o) (fun (I:List UInt8×Int)=>
 bif (decide ((I.2:Int)<(List.length t.2.2.2:Int))) then
 bif decide (List.length I.1+List.length [32]<=LIM) then
 bif (inB I.2 t.2.2.2) then
 (QI (List.getD t.2.2.2 (Int.toNat I.2) (0,([],(0,0)))).1).bind fun (J:List UInt8)=>
 bif decide (List.length (List.append I.1 [32])+List.length J<=LIM) then
 bif decide (List.length (List.append (List.append I.1 [32]) J)+List.length [61]<=LIM) then
 bif (inB I.2 t.2.2.2) then
 (J8 (List.getD t.2.2.2 (Int.toNat I.2) (0,([],(0,0)))).2).bind fun (y46:List UInt8)=>
 (Jk y46 32 95).bind fun (y47:List UInt8)=>
 bif decide (List.length (List.append (List.append (List.append I.1 [32]) J) [61])+List.length y47<=LIM) then
 some (Sum.inl (List.append (List.append (List.append (List.append I.1 [32]) J) [61]) y47,IntKind.wrap .i64 (I.2+1)))
 else none
 else none
 else none
 else none
 else none
 else none
 else
 some (Sum.inr I.1)) (fun i=>400+200 * i) (fun i hi acc ha=>by
   have ho:=h.out _ (aLl hi)
   have l1:=Qq (n:=t.2.2.2[i].1) (by omega) (by omega)
   have l2:=Qcl ho.2 95
   have l4:=Qcl ho.2 32
   have l3:=Qnz ho
   refine⟨?_,by rw[aLi,aLh];omega⟩
   have hsw:Jk (Qt t.2.2.2[i].2 [32]) 32 95=some (Qt t.2.2.2[i].2 [95]):=by
    have:=Qqs (Qt t.2.2.2[i].2 [32]) 32 95 (by omega)
    rw[QnI (ZF ho.2) QdY] at this;exact this
   simp only[dlt hi,Qb _ i hi,Qa _ i _ hi,aLB,Za (n:=t.2.2.2[i].1) (by omega) (by omega),Qh7 (ZF ho.2),hsw,aLc,wsucc hi (by omega),aLo]
   rw[Qe,Qe,Qe,Qe]
   ·unfold wOut;simp
   all_goals ((try simp only[aLi,aLh,aLj]);omega)) (fun acc=>by simp only[dge,aLC]) t.2.2.2.length 0 (hd++32::Lib.join (t.2.2.1.map wRef) [43]) (by omega) (by rw[aLi,aLh];omega)
 rw[show ((0:Nat):Int)=0 from rfl] at this
 rw[this,aLc,List.drop_zero];congr 1;unfold Qp wTx;rw[U];by_cases h0:t.1=0
 ·rw[if_pos h0,if_pos h0]
  simp only[List.append_nil,List.cons_append,aLx];rw[Qix,List.map_cons,List.flatten_cons,List.map_map];simp[Function.comp_def]
 ·rw[if_neg h0,if_neg h0]
  simp only[List.cons_append,aLx];rw[Qix,List.map_cons,List.map_cons,List.flatten_cons,List.flatten_cons,List.map_map];simp[Function.comp_def]
theorem QmF {t:TX} (h:mTxF t=0):Qdu t=some (if (Qp t).length<=300 then (0,Qp t) else (2,[])):=by
 unfold Qdu;rw[Qcz t (J0 h).b,aLc,h,Qh1 (J0 h)];simp only[decide_true,Bool.not_true,aLC,aLc];by_cases hlen:(Qp t).length<=300
 ·rw[aLD (by omega),if_pos hlen];rfl
 ·rw[aLE (by omega),if_neg hlen];rfl
end GL
end Go.Dx
set_option maxHeartbeats 2000000
namespace Go.Dx
namespace GL
theorem Qpl (c:UInt8) (sep:UInt8) (I:c ≠ sep):∀ws:List (List UInt8),(∀w,w ∈ ws->c ∉ w)->c ∉ Lib.join ws [sep]
 | [],_=>by simp[Lib.join_nil]
 | [x],h=>by rw[Lib.join_one];exact h x aLm
 | x::y::r,h=>by
  rw[Qau,List.mem_append,List.mem_cons];rintro (h1 | h1 | h1)
  ·exact h x aLm h1
  ·exact I h1
  ·exact Qpl c sep I (y::r) (fun w hw=>h w (aLp _ hw)) h1
theorem Qlm {r:Int×Int} (h:mRef r=true) (c:UInt8) (J:c.toNat<48\/57<c.toNat) (I:c ≠ 58):c ∉ wRef r:=by
 rw[JO] at h;unfold wRef;simp only[List.mem_append,aLs,not_or];exact⟨⟨ZT (by omega) c J,I⟩,ZT (by omega) c J⟩
theorem QtD:Blank 61:=⟨by decide,by decide,by decide⟩
theorem Qrh {o:TOut} (h:(1<=o.1/\o.1<=1000000)/\Q7 o.2=0):(32:UInt8) ∉ wOut o:=by
 unfold wOut;simp only[List.mem_append,aLs,not_or];exact⟨⟨ZT (by omega) 32 (by decide),by decide⟩,Qkj (ZF h.2) QdY (by decide)⟩
theorem Qs8 (k:Int):(32:UInt8) ∉ kw k:=by
 unfold kw;split
 ·decide
 ·split<;>decide
theorem QtI {t:TX} (h:okT t):∀w,w ∈ wTx t->(32:UInt8) ∉ w:=by
 intro w hw;unfold wTx at hw;simp only[List.mem_append,aLs] at hw;rcases hw with ((rfl | hw) | rfl) | hw
 ·exact Qs8 t.1
 ·split at hw
  ·simp at hw
  ·rw[aLs] at hw;subst hw
   have:=h.mem
   exact ZT (by omega) 32 (by decide)
 ·refine Qpl 32 43 (by decide) _ fun w hw=>?_
  obtain⟨r,I,rfl⟩:=List.mem_map.1 hw;exact Qlm (h.ref r I) 32 (by decide) (by decide)
 ·obtain⟨o,ho,rfl⟩:=List.mem_map.1 hw
  exact Qrh (h.out o ho)
theorem Qpd {t:TX} (h:okT t):cuts 32 (Qp t)=wTx t:=JC 32 _ (by unfold wTx;simp) (QtI h)
theorem Qrs {t:TX} (h:okT t):cuts 43 (Lib.join (t.2.2.1.map wRef) [43])=t.2.2.1.map wRef:=by
 refine JC 43 _ (fun e=>?_) fun w hw=>?_
 ·have:=h.li
  rw[List.map_eq_nil_iff] at e;rw[e] at this;simp at this
 ·obtain⟨r,I,rfl⟩:=List.mem_map.1 hw
  exact Qlm (h.ref r I) 43 (by decide) (by decide)
theorem Qtk {r:Int×Int} (h:mRef r=true):Lib.cut (wRef r) [58]=(Lib.itoa r.1,Lib.itoa r.2,true):=by
 rw[JO] at h;have:=QoT 58 (Lib.itoa r.1) (Lib.itoa r.2) (ZT (by omega) 58 (by decide))
 unfold wRef;simpa using this
theorem Qsg {r:Int×Int} (h:mRef r=true):cuts 58 (wRef r)=[Lib.itoa r.1,Lib.itoa r.2]:=by
 rw[JO] at h;have:wRef r=Lib.join [Lib.itoa r.1,Lib.itoa r.2] [58]:=by rw[Qau,Lib.join_one];unfold wRef;simp
 rw[this];refine JC 58 _ (by simp) fun w hw=>?_
 simp only[List.mem_cons,List.not_mem_nil,or_false] at hw;rcases hw with rfl | rfl
 ·exact ZT (by omega) 58 (by decide)
 ·exact ZT (by omega) 58 (by decide)
theorem QtE {o:TOut} (h:(1<=o.1/\o.1<=1000000)/\Q7 o.2=0):Lib.cut (wOut o) [61]=(Lib.itoa o.1,Qt o.2 [95],true):=by
 have:=QoT 61 (Lib.itoa o.1) (Qt o.2 [95]) (ZT (by omega) 61 (by decide))
 unfold wOut;simpa using this
theorem Qnj {o:TOut} (h:(1<=o.1/\o.1<=1000000)/\Q7 o.2=0):cuts 61 (wOut o)=[Lib.itoa o.1,Qt o.2 [95]]:=by
 have:wOut o=Lib.join [Lib.itoa o.1,Qt o.2 [95]] [61]:=by rw[Qau,Lib.join_one];unfold wOut;simp
 rw[this];refine JC 61 _ (by simp) fun w hw=>?_
 simp only[List.mem_cons,List.not_mem_nil,or_false] at hw;rcases hw with rfl | rfl
 ·exact ZT (by omega) 61 (by decide)
 ·exact Qkj (ZF h.2) QtD (by decide)
theorem QsX (s:List UInt8) (c:UInt8) (h:s.length<=1000000):QbD s [c]=some (Lib.cut s [c]):=by
 unfold QbD;exact Qtv _ (by omega)
theorem QoU (s sep:List UInt8):(Lib.cut s sep).1.length<=s.length/\(Lib.cut s sep).2.1.length<=s.length:=by
 unfold Lib.cut;split
 ·simp[aLn,aLz];omega
 ·simp
theorem Qjn (l:List (List UInt8)) (I:l.length<BIG) (x:List UInt8):QL l x=some (idxF (fun a=>decide (x=a)) l):=by
 unfold QL;refine Jl l (fun a=>decide (x=a)) _ (fun i h=>?_) (by simp only[dge,aLC])
 simp only[dlt h,Qb l i h,Qa l i _ h,aLB,wsucc h I];cases decide (x=l[i])<;>rfl
theorem QtL (w:List UInt8):Y (QL [[112,97,121],[106,111,105,110],[108,101,97,118,101]] w) (fun k=>-1<=k/\k<=2/\∀j,0<=j->j<=2->w=kw j->k=j):=by
 refine⟨_,Qjn _ (by decide) w,?_⟩
 unfold idxF;simp only[first]
 by_cases U:w=[112,97,121]
 ·subst U
  refine⟨by simp,by simp,fun j h1 J I=>?_⟩
  have:j=0\/j=1\/j=2:=by omega
  rcases this with rfl | rfl | rfl
  ·simp
  ·simp[kw] at I
  ·simp[kw] at I
 ·simp only[U,decide_false,Bool.false_eq_true,if_false]
  by_cases h1:w=[106,111,105,110]
  ·subst h1
   refine⟨by simp,by simp,fun j h1 J I=>?_⟩
   have:j=0\/j=1\/j=2:=by omega
   rcases this with rfl | rfl | rfl
   ·simp[kw] at I
   ·simp
   ·simp[kw] at I
  ·simp only[h1,decide_false,Bool.false_eq_true,if_false]
   by_cases J:w=[108,101,97,118,101]
   ·subst J
    refine⟨by simp,by simp,fun j h1 J I=>?_⟩
    have:j=0\/j=1\/j=2:=by omega
    rcases this with rfl | rfl | rfl
    ·simp[kw] at I
    ·simp[kw] at I
    ·simp
   ·simp only[J,decide_false,Bool.false_eq_true,if_false]
    refine⟨by simp,by simp,fun j I h4 h5=>?_⟩
    have:j=0\/j=1\/j=2:=by omega
    rcases this with rfl | rfl | rfl
    ·exact absurd h5 U
    ·exact absurd h5 h1
    ·exact absurd h5 J
def okO (o:TOut):Prop:=(1<=o.1/\o.1<=1000000)/\Q7 o.2=0
theorem Qrq (s:List UInt8) (J:s.length<=1000):Y (QcW s) (fun x=>x.1.2.1.length<=1001/\∀o,okO o->wOut o=s->x=(o,true)):=by
 unfold QcW;have U:=QoU s [61]
 refine Y.eqb (QsX s 61 (by omega)) (Y.bind (QpZ _ 95 Qph (by omega)) (fun r I=>Y.eqb (YL _ (by omega)) (Y.some ⟨by have:=I.1;show r.1.1.length<=_;omega,fun o ho h=>?_⟩)))
 have e:=QtE ho
 rw[h] at e;rw[e] at I ⊢;rw[I.2 o.2 ho.2 rfl];show ((numS (Lib.itoa o.1),o.2),true)=_
 rw[Qa6 (by have:=ho.1;omega) (by have:=ho.1;omega)]
def TxQ (s:List UInt8) (x:TX×Bool):Prop:=(x.2=true->mTxF x.1=0/\Qp x.1=s)/\∀I,mTxF I=0->Qp I=s->x=(I,true)
theorem drop1 {α:Type} (l:List α) (h:1<=l.length):List.take (Int.toNat ((List.length l:Int) - 1)) (List.drop (Int.toNat 1) l)=l.drop 1:=by
 rw[show Int.toNat 1=1 from rfl]
 exact List.take_of_length_le (by rw[aLz];omega)
theorem Qn5 {α:Type} (l:List α) (h:1<=l.length):QR 1 (List.length l:Int) l=true:=by
 unfold QR;simp;omega
theorem Qg8 (s:List UInt8) (c:UInt8) (d i:Nat):(List.getD ((cuts c s).drop d) i []).length<=s.length:=by
 rw[aLk,List.getElem?_drop];have:=Yj c s (d+i)
 rw[aLk] at this;exact this
theorem QrS (s:List UInt8) (hs:s.length<=300):Y (Qdx s) (TxQ s):=by
 have hB:BIG=4611686018427387904:=rfl
 have hne:=QaK 32 s
 have hlen:=Jn 32 s
 have hpos:1<=(cuts 32 s).length:=by
  cases h:cuts 32 s with
  | nil=>exact absurd h hne
  | cons a l=>simp
 have hwd:∀I,mTxF I=0->Qp I=s->okT I/\cuts 32 s=wTx I:=fun I h1 J=>⟨J0 h1,by rw[<-J];exact Qpd (J0 h1)⟩
 have hno:∀t:TX,(∀I,mTxF I=0->Qp I=s->False)->TxQ s (t,false):=fun t h=>⟨(fun h=>by cases h),fun I h1 J=>(h I h1 J).elim⟩
 unfold Qdx JQ;refine Y.eqb (QfE s 32 (by omega)) (Y.eqb rfl (Y.grd (ZC (by omega) (by omega)) (Y.bind (QtL _) (fun k hk=>?_))))
 obtain⟨hk0,hk2,hkc⟩:=hk;have hkw:∀I,mTxF I=0->Qp I=s->k=I.1:=fun I h1 J=>by
  obtain⟨ho,hw⟩:=hwd I h1 J;refine hkc I.1 ho.kind.1 ho.kind.2 ?_;rw[hw];rfl
 refine Y.bind (Q:=fun j=>(j=false->0<=k)/\(j=true->k<0)) ?_ (fun j hj=>?_)
 ·refine Y.bif (fun h=>?_) (fun _=>Y.some ⟨(fun h=>?_),(fun h=>?_)⟩)
  ·simp at h;omega
  ·simp at h;omega
  ·simpa using h
 refine Y.bif (fun h=>Y.some (hno _ fun I h1 J=>?_)) (fun h=>?_)
 ·have:=hkw I h1 J
  have:=(hwd I h1 J).1.kind
  have:=hj.2 h
  omega
 have hk0:=hj.1 h
 rw[drop1 _ hpos];refine Y.grd (Qn5 _ hpos) ?_;have hdl:((cuts 32 s).drop 1).length=(cuts 32 s).length - 1:=aLz
 refine Y.bind (Q:=fun j=>(j=true↔(k ≠ 0/\1<=((cuts 32 s).drop 1).length))) ?_ (fun j hj=>?_)
 ·refine Y.bif (fun h=>Y.some ?_) (fun h=>Y.some ?_)
  ·simp at h ⊢;omega
  ·simp at h ⊢
   intro J;exact absurd h J
 refine Y.bind (Q:=fun (x:List (List UInt8)×TX)=>(∃d,x.1=(cuts 32 s).drop d)/\x.2.2.2=([],[])/\∀I,mTxF I=0->Qp I=s->x=(Lib.join (I.2.2.1.map wRef) [43]::I.2.2.2.map wOut,(I.1,I.2.1,[],[]))) ?_ (fun x hx=>?_)
 ·refine Y.bif (fun h=>?_) (fun h=>Y.some ⟨⟨1,rfl⟩,rfl,fun I h1 J=>?_⟩)
  ·obtain⟨hkn,h1l⟩:=hj.1 h
   refine Y.grd (ZC (by omega) (by omega)) (Y.eqb (YL _ (by have:=Qg8 s 32 1 0;show (List.getD ((cuts 32 s).drop 1) 0 []).length<=_;omega)) ?_)
   rw[drop1 _ h1l];refine Y.grd (Qn5 _ h1l) (Y.some ⟨⟨2,by rw[List.drop_drop]⟩,rfl,fun I h1 J=>?_⟩)
   obtain⟨ho,hw⟩:=hwd I h1 J;have hkk:=hkw I h1 J
   have hm:=ho.mem
   rw[hw];unfold wTx;rw[if_neg (by omega)]
   show (Lib.join (I.2.2.1.map wRef) [43]::I.2.2.2.map wOut,(k,numS (Lib.itoa I.2.1),[],[]))=_
   rw[Qa6 (by omega) (by omega),hkk]
  ·obtain⟨ho,hw⟩:=hwd I h1 J
   have hkk:=hkw I h1 J
   have hm:=ho.mem
   have hk0':k=0:=by
    by_cases e:k=0
    ·exact e
    ·have hl:1<=((cuts 32 s).drop 1).length:=by
      rw[hw];unfold wTx;rw[if_neg (by omega)];simp
     rw[hj.2 ⟨e,hl⟩] at h;cases h
   rw[hw];unfold wTx;rw[if_pos (by omega)]
   show (Lib.join (I.2.2.1.map wRef) [43]::I.2.2.2.map wOut,(k,0,[],[]))=_
   rw[hkk,show I.2.1=0 by omega]
 obtain⟨⟨d,hd⟩,he,hxc⟩:=hx;obtain⟨xw,xk,xm,xi,xo⟩:=x;have hdx:xw=(cuts 32 s).drop d:=hd
 have he:(xi,xo)=([],[]):=he
 simp only[aLe] at he;obtain⟨rfl,rfl⟩:=he;simp only;have hxl:xw.length<=301:=by rw[hdx,aLz];omega
 have hxw:∀i,(List.getD xw i []).length<=300:=fun i=>by rw[hdx];have:=Qg8 s 32 d i;omega
 have hxc':∀I,mTxF I=0->Qp I=s->xw=Lib.join (I.2.2.1.map wRef) [43]::I.2.2.2.map wOut/\xk=I.1/\xm=I.2.1:=fun I h1 J=>by
  have:=hxc I h1 J
  simp only[aLe] at this;exact⟨this.1,this.2.1,this.2.2.1⟩
 refine Y.bind (Q:=fun j=>(j=false->2<=xw.length/\xw.length<=5)/\(j=true->¬(2<=xw.length/\xw.length<=5))) ?_ (fun j hj=>?_)
 ·refine Y.bif (fun h=>Y.some ⟨(fun h=>by cases h),(fun _=>?_)⟩) (fun h1=>Y.some ⟨(fun h=>?_),(fun h=>?_)⟩)
  ·simp at h;omega
  ·simp at h h1;omega
  ·simp at h;omega
 refine Y.bif (fun h=>Y.some (hno _ fun I h1 J=>?_)) (fun h=>?_)
 ·refine hj.2 h ?_
  obtain⟨e1,_⟩:=hxc' I h1 J;have:=(hwd I h1 J).1.lo
  rw[e1];simp;omega
 have h25:=hj.1 h
 have hw0:=hxw 0
 refine Y.grd (ZC (by omega) (by omega)) (Y.eqb (QfE _ 43 (by show (List.getD xw 0 []).length<=_;omega)) ?_)
 obtain⟨rs,hrs⟩:∃rs,rs=cuts 43 (List.getD xw (Int.toNat 0) []):=⟨_,rfl⟩;have hrs':rs=cuts 43 (List.getD xw 0 []):=hrs
 rw[<-hrs];have hrl:rs.length<=301:=by rw[hrs'];have:=Jn 43 (List.getD xw 0 []);omega
 have hrw:∀w,w ∈ rs->w.length<=300:=fun w hw=>by rw[hrs'] at hw;have:=Qa3 43 _ w hw;omega
 have hrc:∀I,mTxF I=0->Qp I=s->rs=I.2.2.1.map wRef:=fun I h1 J=>by
  rw[hrs',(hxc' I h1 J).1];exact Qrs (hwd I h1 J).1
 refine Y.bind (Q:=fun (t:TX)=>t.2.2.1.length<=301/\t.2.2.2=[]/\∀I,mTxF I=0->Qp I=s->t=(I.1,I.2.1,I.2.2.1,[])) ?_ (fun t ht=>?_)
 ·refine Y.loop (fun n (st:Int×TX)=>∃i:Nat,st.1=(i:Int)/\i<=rs.length/\n=rs.length - i/\st.2.2.2.1.length=i/\st.2.2.2.2=[]/\∀I,mTxF I=0->Qp I=s->st.2=(I.1,I.2.1,I.2.2.1.take i,[])) (fun n st hI=>?_) rs.length _ ⟨0,rfl,by omega,by omega,rfl,rfl,fun I h1 J=>by
   obtain⟨_,e1,e2⟩:=hxc' I h1 J;show (xk,xm,[],[])=_
   rw[e1,e2];rfl⟩
  obtain⟨i,hi,hle,hnn,hac,hoz,hcomp⟩:=hI;obtain⟨i',k',m',acc,oz⟩:=st;have hi:i'=(i:Int):=hi
  subst hi;have hac:acc.length=i:=hac
  have hoz:oz=[]:=hoz
  subst hoz;refine Y.bif (fun h1=>?_) (fun h1=>Y.some ⟨by show acc.length<=_;omega,rfl,fun I J h3=>?_⟩)
  ·have U:i<rs.length:=by simp at h1;omega
   have hg:List.getD rs (Int.toNat (i:Int)) []=rs[i]:=Qa rs i _ U
   have hwl:=hrw _ (aLl U)
   rw[hg];have hcl:=QoU rs[i] [58]
   refine Y.grd (Qb _ i U) (Y.eqb (QsX _ 58 (by omega)) (Y.eqb (YL _ (by omega)) (Y.eqb (YL _ (by omega)) (Y.grd (QfD _ _ (by show acc.length<_;omega)) (Y.some ⟨rs.length - (i+1),by omega,i+1,wsucc U (by omega),by omega,rfl,by show (List.append acc [_]).length=_;simp[hac],rfl,fun I J h3=>?_⟩)))))
   have hm:=hrc I J h3
   have hr:i<I.2.2.1.length:=by rw[hm] at U;simpa using U
   have hok:=(hwd I J h3).1.ref _ (aLl hr)
   have e:rs[i]=wRef I.2.2.1[i]:=by rw[List.getElem_of_eq hm U];simp
   have hc2:=hcomp I J h3
   simp only[aLe] at hc2;rw[e,Qtk hok];rw[JO] at hok;show (k',m',List.append acc [(numS (Lib.itoa I.2.2.1[i].1),numS (Lib.itoa I.2.2.1[i].2))],[])=_
   rw[Qa6 (by omega) (by omega),Qa6 (by omega) (by omega),hc2.1,hc2.2.1,hc2.2.2.1,List.take_add_one,aLf hr]
   rfl
  ·have hge:i=rs.length:=by simp at h1;omega
   have c2:=hcomp I J h3
   have hkl:rs.length=I.2.2.1.length:=by rw[hrc I J h3];simp
   rw[hge,hkl,List.take_length] at c2;exact c2
 obtain⟨hti,hto,htc⟩:=ht;obtain⟨tk,tm,ti,to⟩:=t;have hto:to=[]:=hto
 subst hto;have hti:ti.length<=301:=hti
 have hx1:1<=xw.length:=by omega
 rw[drop1 _ hx1];refine Y.grd (Qn5 _ hx1) ?_;obtain⟨os,hos⟩:∃os,os=xw.drop 1:=⟨_,rfl⟩;rw[<-hos];have hol:os.length<=4:=by rw[hos,aLz];omega
 have how:∀w,w ∈ os->w.length<=300:=fun w hw=>by
  rw[hos,hdx,List.drop_drop] at hw;have:=Qa3 32 s w (List.mem_of_mem_drop hw);omega
 have hoc:∀I,mTxF I=0->Qp I=s->os=I.2.2.2.map wOut:=fun I h1 J=>by
  rw[hos,(hxc' I h1 J).1];rfl
 refine Y.bind (Q:=fun (r:TX⊕(Bool×TX))=>match r with
   | .inl t=>t.2.2.1.length<=301/\t.2.2.2.length<=4/\(∀o,o ∈ t.2.2.2->o.2.1.length<=1001)/\∀I,mTxF I=0->Qp I=s->t=I
   | .inr x=>x.1=false/\∀I,mTxF I=0->Qp I=s->False) ?_ (fun r hr=>?_)
 ·refine Y.loop (fun n (st:Int×TX)=>∃i:Nat,st.1=(i:Int)/\i<=os.length/\n=os.length - i/\st.2.2.2.1.length<=301/\st.2.2.2.2.length=i/\(∀o,o ∈ st.2.2.2.2->o.2.1.length<=1001)/\∀I,mTxF I=0->Qp I=s->st.2=(I.1,I.2.1,I.2.2.1,I.2.2.2.take i)) (fun n st hI=>?_) os.length _ ⟨0,rfl,by omega,by omega,hti,rfl,(fun o ho=>nomatch ho),fun I h1 J=>by
   rw[htc I h1 J];rfl⟩
  obtain⟨i,hi,hle,hnn,hil,hac,hkl,hcomp⟩:=hI;obtain⟨i',k',m',il,acc⟩:=st;have hi:i'=(i:Int):=hi
  subst hi;have hac:acc.length=i:=hac
  refine Y.bif (fun h1=>?_) (fun h1=>Y.some ⟨hil,by show acc.length<=_;omega,hkl,fun I J h3=>?_⟩)
  ·have U:i<os.length:=by simp at h1;omega
   have hg:List.getD os (Int.toNat (i:Int)) []=os[i]:=Qa os i _ U
   have hwl:=how _ (aLl U)
   rw[hg];refine Y.grd (Qb _ i U) (Y.bind (Qrq _ (by omega)) (fun y hy=>?_))
   have hyc:∀I,mTxF I=0->Qp I=s->∃hr:i<I.2.2.2.length,y=(I.2.2.2[i],true):=fun I J h3=>by
    have hm:=hoc I J h3
    have hr:i<I.2.2.2.length:=by rw[hm] at U;simpa using U
    have e:os[i]=wOut I.2.2.2[i]:=by rw[List.getElem_of_eq hm U];simp
    exact⟨hr,hy.2 _ ((hwd I J h3).1.out _ (aLl hr)) e.symm⟩
   refine Y.bif (fun h4=>Y.some ⟨rfl,fun I J h3=>?_⟩) (fun h4=>Y.grd (QfD _ _ (by show acc.length<_;omega)) (Y.some ⟨os.length - (i+1),by omega,i+1,wsucc U (by omega),by omega,rfl,hil,by show (List.append acc [_]).length=_;simp[hac],fun o ho=>?_,fun I J h3=>?_⟩))
   ·obtain⟨_,e⟩:=hyc I J h3
    rw[e] at h4;cases h4
   ·rcases List.mem_append.1 (show o ∈ acc++[y.1] from ho) with ho | ho
    ·exact hkl o ho
    ·rw[aLs] at ho;subst ho;exact hy.1
   ·obtain⟨hr,e⟩:=hyc I J h3
    have hc2:=hcomp I J h3
    simp only[aLe] at hc2;show (k',m',il,List.append acc [y.1])=_
    rw[e,hc2.1,hc2.2.1,hc2.2.2.1,hc2.2.2.2,List.take_add_one,aLf hr];rfl
  ·have hge:i=os.length:=by simp at h1;omega
   have c2:=hcomp I J h3
   have hkl:os.length=I.2.2.2.length:=by rw[hoc I J h3];simp
   rw[hge,hkl,List.take_length] at c2;exact c2
 cases r with
 | inr x=>exact Y.some (by rw[hr.1];exact hno _ hr.2)
 | inl t=>
  obtain⟨r1,r2,r3,r4⟩:=hr;have hb:bT t:=⟨by omega,by omega,fun o ho=>by have:=r3 o ho;omega⟩
  refine Y.eqb (QkW t hb) (Y.bif (fun h=>Y.some (hno _ fun I h1 J=>?_)) (fun h=>?_))
  ·rw[r4 I h1 J,h1] at h;simp at h
  ·have h0:mTxF t=0:=by simpa using h
   refine Y.eqb (Qh2 (J0 h0)) ?_;by_cases hl:(Qp t).length<=300
   ·rw[if_pos hl]
    refine Y.some ⟨fun hh=>⟨h0,by simpa using hh⟩,fun I h1 J=>?_⟩
    obtain rfl:=r4 I h1 J;show (t,decide (Qp t=s))=_
    rw[aLE J]
   ·rw[if_neg hl]
    refine Y.some (hno _ fun I h1 J=>?_)
    obtain rfl:=r4 I h1 J;rw[J] at hl;exact hl hs
end GL
end Go.Dx
set_option maxHeartbeats 2000000
namespace Go.Dx
namespace GL
theorem Qd9 (k:Int) (n:Nat) (I:0<=k) (h1:k<((10 ^ n:Nat):Int)) (J:1<=n):(Lib.itoa k).length<=n:=by
 obtain⟨m,rfl⟩:=aLA I;rw[YN,Lib.decDigits_length];exact QcL n m (by omega) J
theorem Qm0 (w:List UInt8) (n:Nat) (hw:w.length<BIG):Y (Qn w (n:Int)) (fun r=>∀k,0<=k->k<=9999999->w=Lib.itoa k->(Lib.itoa k).length<=n->r=(k,true)):=by
 obtain⟨r,h1,_⟩:=Qhx w (n:Int) hw;refine⟨r,h1,fun k I J hk U=>?_⟩
 rw[hk,Qfq I J n U] at h1;exact (Option.some.inj h1).symm
theorem Qp7 {l:List (Int×Int)} (I:l ≠ []) (h:∀r,r ∈ l->mRef r=true):cuts 43 (Lib.join (l.map wRef) [43])=l.map wRef:=by
 refine JC 43 _ (fun e=>I (List.map_eq_nil_iff.1 e)) fun w hw=>?_
 obtain⟨r,J,rfl⟩:=List.mem_map.1 hw;exact Qlm (h r J) 43 (by decide) (by decide)
theorem Qtm (s:List UInt8) (hs:s.length<=300):Y (Qeh s) (fun x=>x.1.length<=301/\∀l,l ≠ []->(∀r,r ∈ l->mRef r=true)->Lib.join (l.map wRef) [43]=s->x=(l,true)):=by
 have hB:BIG=4611686018427387904:=rfl
 unfold Qeh;refine Y.eqb (Y3 s 43 (by unfold LIM;omega)) ?_
 obtain⟨rs,hrs⟩:∃rs,rs=cuts 43 s:=⟨_,rfl⟩;rw[<-hrs];have hrl:rs.length<=301:=by rw[hrs];have:=Jn 43 s;omega
 have hrw:∀w,w ∈ rs->w.length<=300:=fun w hw=>by rw[hrs] at hw;have:=Qa3 43 _ w hw;omega
 have hrc:∀l,l ≠ []->(∀r,r ∈ l->mRef r=true)->Lib.join (l.map wRef) [43]=s->rs=l.map wRef:=fun l h1 J I=>by
  rw[hrs,<-I];exact Qp7 h1 J
 refine Y.bind (Q:=fun (r:List (Int×Int)⊕(List (Int×Int)×Bool))=>match r with
   | .inl x=>x.length<=301/\∀l,l ≠ []->(∀r,r ∈ l->mRef r=true)->Lib.join (l.map wRef) [43]=s->x=l
   | .inr x=>x=([],false)/\∀l,l ≠ []->(∀r,r ∈ l->mRef r=true)->Lib.join (l.map wRef) [43]=s->False) ?_ (fun r hr=>?_)
 ·refine Y.loop (fun n (st:List (Int×Int)×Int)=>∃i:Nat,st.2=(i:Int)/\i<=rs.length/\n=rs.length - i/\st.1.length=i/\∀l,l ≠ []->(∀r,r ∈ l->mRef r=true)->Lib.join (l.map wRef) [43]=s->st.1=l.take i) (fun n st hI=>?_) rs.length _ ⟨0,rfl,by omega,by omega,rfl,fun l _ _ _=>rfl⟩
  obtain⟨i,hi,hle,hnn,hac,hcomp⟩:=hI;obtain⟨acc,i'⟩:=st;have hi:i'=(i:Int):=hi
  subst hi;have hac:acc.length=i:=hac
  refine Y.bif (fun h1=>?_) (fun h1=>Y.some ⟨by show acc.length<=_;omega,fun l J I U=>?_⟩)
  ·have hlt:i<rs.length:=by simp at h1;omega
   have hg:List.getD rs (Int.toNat (i:Int)) []=rs[i]:=Qa rs i _ hlt
   have hwl:=hrw _ (aLl hlt)
   rw[hg];have hpc:∀l,l ≠ []->(∀r,r ∈ l->mRef r=true)->Lib.join (l.map wRef) [43]=s->∃hr:i<l.length,mRef l[i]=true/\cuts 58 rs[i]=[Lib.itoa l[i].1,Lib.itoa l[i].2]:=fun l J I U=>by
    have hm:=hrc l J I U
    have hr:i<l.length:=by rw[hm] at hlt;simpa using hlt
    have e:rs[i]=wRef l[i]:=by rw[List.getElem_of_eq hm hlt];simp
    have hok:=I _ (aLl hr)
    exact⟨hr,hok,by rw[e];exact Qsg hok⟩
   refine Y.grd (Qb _ i hlt) (Y.eqb (Y3 _ 58 (by unfold LIM;omega)) (Y.bif (fun h5=>Y.some ⟨rfl,fun l J I U=>?_⟩) (fun h5=>?_)))
   ·obtain⟨_,_,e⟩:=hpc l J I U
    rw[e] at h5;simp at h5
   ·have h2l:(cuts 58 rs[i]).length=2:=by simp at h5;omega
    have w0:=Yj 58 rs[i] 0
    have w1:=Yj 58 rs[i] 1
    refine Y.grd (ZC (by omega) (by omega)) (Y.bind (Qm0 (List.getD (cuts 58 rs[i]) (Int.toNat 0) []) 2 (by show (List.getD (cuts 58 rs[i]) 0 []).length<_;omega)) (fun a ha=>Y.grd (ZC (by omega) (by omega)) (Y.bind (Qm0 (List.getD (cuts 58 rs[i]) (Int.toNat 1) []) 1 (by show (List.getD (cuts 58 rs[i]) 1 []).length<_;omega)) (fun b hb=>?_))))
    have hab:∀l,l ≠ []->(∀r,r ∈ l->mRef r=true)->Lib.join (l.map wRef) [43]=s->∃hr:i<l.length,a=(l[i].1,true)/\b=(l[i].2,true):=fun l J I U=>by
     obtain⟨hr,hok,e⟩:=hpc l J I U;rw[JO] at hok;refine⟨hr,ha _ (by omega) (by omega) (by rw[e];rfl) (Qd9 _ 2 (by omega) (by omega) (by omega)),hb _ (by omega) (by omega) (by rw[e];rfl) (Qd9 _ 1 (by omega) (by omega) (by omega))⟩
    refine Y.bind (Q:=fun j=>j=true->∀l,l ≠ []->(∀r,r ∈ l->mRef r=true)->Lib.join (l.map wRef) [43]=s->False) ?_ (fun j hj=>Y.bif (fun h=>Y.some ⟨rfl,hj h⟩) (fun _=>Y.grd (QfD _ _ (by show acc.length<_;omega)) (Y.some ⟨rs.length - (i+1),by omega,i+1,wsucc hlt (by omega),by omega,rfl,by show (List.append acc [_]).length=_;simp[hac],fun l J I U=>?_⟩)))
    ·refine Y.bif (fun h=>Y.some (fun _ l J I U=>?_)) (fun h=>Y.some (fun h' l J I U=>?_))
     ·obtain⟨_,e,_⟩:=hab l J I U
      rw[e] at h;cases h
     ·obtain⟨_,_,e⟩:=hab l J I U
      rw[e] at h';cases h'
    ·obtain⟨hr,e1,e2⟩:=hab l J I U
     have hc2:acc=l.take i:=hcomp l J I U
     show List.append acc [(a.1,b.1)]=_
     rw[e1,e2,hc2,List.take_add_one,aLf hr];rfl
  ·have hge:i=rs.length:=by simp at h1;omega
   have c2:acc=l.take i:=hcomp l J I U
   have hkl:rs.length=l.length:=by rw[hrc l J I U];simp
   show acc=l
   rw[c2,hge,hkl,List.take_length]
 cases r with
 | inl x=>exact Y.some ⟨hr.1,fun l J I U=>by rw[hr.2 l J I U]⟩
 | inr x=>exact Y.some ⟨by rw[hr.1];simp,fun l J I U=>(hr.2 l J I U).elim⟩
theorem Qq9 (s:List UInt8) (hs:s.length<=300):Y (QcC s) (TxQ s):=by
 have hB:BIG=4611686018427387904:=rfl
 have hne:=QaK 32 s
 have hlen:=Jn 32 s
 have hpos:1<=(cuts 32 s).length:=by
  cases h:cuts 32 s with
  | nil=>exact absurd h hne
  | cons a l=>simp
 have U:∀I,mTxF I=0->Qp I=s->okT I/\cuts 32 s=wTx I:=fun I h1 J=>⟨J0 h1,by rw[<-J];exact Qpd (J0 h1)⟩
 have hno:∀t:TX,(∀I,mTxF I=0->Qp I=s->False)->TxQ s (t,false):=fun t h=>⟨(fun h=>by cases h),fun I h1 J=>(h I h1 J).elim⟩
 unfold QcC;refine Y.eqb (Y3 s 32 (by unfold LIM;omega)) ?_
 obtain⟨ws,hws⟩:∃ws,ws=cuts 32 s:=⟨_,rfl⟩;rw[<-hws];rw[<-hws] at hlen hpos;simp only[<-hws] at U;have hww:∀i,(List.getD ws i []).length<=300:=fun i=>by rw[hws];have:=Yj 32 s i;omega
 have hin0:inB 0 ws=true:=ZC (by omega) (by omega)
 have hw0:∀I,mTxF I=0->Qp I=s->List.getD ws (Int.toNat 0) []=kw I.1:=fun I h1 J=>by rw[(U I h1 J).2];rfl
 refine Y.bind (Q:=fun j=>∀I,mTxF I=0->Qp I=s->(j=true↔I.1 ≠ 0)) ?_ (fun j hj=>?_)
 ·have kk:∀I,mTxF I=0->Qp I=s->I.1=0\/I.1=1\/I.1=2:=fun I h1 J=>by have:=(U I h1 J).1.kind;omega
  refine Y.grd hin0 (Y.bif (fun h=>Y.some (fun I h1 J=>?_)) (fun h=>Y.grd hin0 (Y.some (fun I h1 J=>?_))))
  ·rw[hw0 I h1 J] at h
   rcases kk I h1 J with e | e | e<;>rw[e] at h ⊢<;>simp[kw] at h ⊢
  ·rw[hw0 I h1 J] at h ⊢
   rcases kk I h1 J with e | e | e<;>rw[e] at h ⊢<;>simp[kw] at h ⊢
 refine Y.bind (Q:=fun (r:(Int×TX)⊕(Bool×TX))=>match r with
   | .inl x=>(x.1=1\/x.1=2)/\x.2.2.2=([],[])/\∀I,mTxF I=0->Qp I=s->x.1=(if I.1=0 then 1 else 2)/\x.2=(I.1,I.2.1,[],[])
   | .inr x=>x.1=false/\∀I,mTxF I=0->Qp I=s->False) ?_ (fun r hr=>?_)
 ·refine Y.bif (fun h=>?_) (fun h=>Y.grd hin0 (Y.bif (fun h3=>Y.some ⟨rfl,fun I h1 J=>?_⟩) (fun h3=>Y.some ⟨.inl rfl,rfl,fun I h1 J=>?_⟩)))
  ·refine Y.bif (fun h3=>Y.some ⟨rfl,fun I h1 J=>?_⟩) (fun h3=>?_)
   ·have hl:2<=ws.length:=by
     rw[(U I h1 J).2];unfold wTx;simp;omega
    simp at h3;omega
   ·have h2l:2<=ws.length:=by simp at h3;omega
    have hw1:=hww 1
    refine Y.grd (ZC (by omega) (by omega)) (Y.bind (Qm0 (List.getD ws (Int.toNat 1) []) 3 (by show (List.getD ws 1 []).length<_;omega)) (fun m hm=>?_))
    have hmc:∀I,mTxF I=0->Qp I=s->m=(I.2.1,true):=fun I h1 J=>by
     obtain⟨ho,hw⟩:=U I h1 J;have hmm:=ho.mem
     have h0:=(hj I h1 J).1 h
     exact hm _ (by omega) (by omega) (by rw[hw];unfold wTx;rw[if_neg h0];rfl) (Qd9 _ 3 (by omega) (by omega) (by omega))
    refine Y.bif (fun h4=>Y.some ⟨rfl,fun I h1 J=>?_⟩) (fun h4=>?_)
    ·rw[hmc I h1 J] at h4;cases h4
    ·refine Y.grd hin0 (Y.bind (Q:=fun (x:TX)=>x.2.2=([],[])/\∀I,mTxF I=0->Qp I=s->x.1=I.1) ?_ (fun x hx=>Y.some ⟨.inr rfl,by show x.2.2=_;exact hx.1,fun I h1 J=>⟨?_,?_⟩⟩))
     ·have kk:∀I,mTxF I=0->Qp I=s->I.1=1\/I.1=2:=fun I h1 J=>by have:=(U I h1 J).1.kind;have:=(hj I h1 J).1 h;omega
      refine Y.bif (fun h5=>Y.some ⟨rfl,fun I h1 J=>?_⟩) (fun h5=>Y.some ⟨rfl,fun I h1 J=>?_⟩)
      ·rw[hw0 I h1 J] at h5
       rcases kk I h1 J with e | e<;>rw[e] at h5 ⊢
       simp[kw] at h5
      ·rw[hw0 I h1 J] at h5
       rcases kk I h1 J with e | e<;>rw[e] at h5 ⊢
       simp[kw] at h5
     ·rw[if_neg ((hj I h1 J).1 h)]
     ·show (x.1,m.1,x.2.2)=_
      rw[hx.1,hx.2 I h1 J,hmc I h1 J]
  ·have h0:I.1=0:=by
    by_cases e:I.1=0
    ·exact e
    ·rw[(hj I h1 J).2 e] at h;cases h
   rw[hw0 I h1 J,h0] at h3;simp[kw] at h3
  ·have h0:I.1=0:=by
    by_cases e:I.1=0
    ·exact e
    ·rw[(hj I h1 J).2 e] at h;cases h
   have hmm:=(U I h1 J).1.mem
   rw[if_pos h0,h0,show I.2.1=0 by omega]
   exact⟨rfl,rfl⟩
 cases r with
 | inr x=>exact Y.some (by obtain⟨b,t⟩:=x;have h1:b=false:=hr.1;subst h1;exact hno _ hr.2)
 | inl x=>
  obtain⟨at',xk,xm,xi,xo⟩:=x;obtain⟨hat,hx0,hxc⟩:=hr;have hx0:(xi,xo)=([],[]):=hx0
  simp only[aLe] at hx0;obtain⟨e1,e2⟩:=hx0;subst e1 e2;obtain⟨a,ha,ha12⟩:∃a:Nat,at'=(a:Int)/\(a=1\/a=2):=by
   have hat:at'=1\/at'=2:=hat
   rcases hat with rfl | rfl
   ·exact⟨1,rfl,.inl rfl⟩
   ·exact⟨2,rfl,.inr rfl⟩
  subst ha;have hxc:∀I,mTxF I=0->Qp I=s->(a:Int)=(if I.1=0 then 1 else 2)/\(xk,xm,([]:List (Int×Int)),([]:List TOut))=(I.1,I.2.1,[],[]):=hxc
  have htl:∀I,mTxF I=0->Qp I=s->ws.drop a=Lib.join (I.2.2.1.map wRef) [43]::I.2.2.2.map wOut:=fun I h1 J=>by
   rw[(U I h1 J).2];have:=(hxc I h1 J).1
   unfold wTx;by_cases h0:I.1=0
   ·rw[if_pos h0] at this ⊢
    obtain rfl:a=1:=by omega
    rfl
   ·rw[if_neg h0] at this ⊢
    obtain rfl:a=2:=by omega
    rfl
  simp only[Sum.elim_inl];have hwr:IntKind.wrap .i64 ((a:Int)+2)=((a+2:Nat):Int):=by rw[QY (by omega) (by omega)];omega
  have hwr1:IntKind.wrap .i64 ((a:Int)+1)=((a+1:Nat):Int):=by rw[QY (by omega) (by omega)];omega
  rw[hwr,hwr1];refine Y.bif (fun h3=>Y.some (hno _ fun I h1 J=>?_)) (fun h3=>?_)
  ·have:=(U I h1 J).1.lo
   have h4:(ws.drop a).length=1+I.2.2.2.length:=by rw[htl I h1 J];simp;omega
   rw[aLz] at h4;simp at h3;omega
  have hal:a+2<=ws.length:=by simp at h3;omega
  have hwa:=hww a
  refine Y.grd (Qb ws a (by omega)) (Y.bind (Qtm _ (by show (List.getD ws (Int.toNat (a:Int)) []).length<=_;rw[Int.toNat_natCast];exact hwa)) (fun ins hins=>?_))
  have hic:∀I,mTxF I=0->Qp I=s->ins=(I.2.2.1,true):=fun I h1 J=>by
   have ho:=(U I h1 J).1
   refine hins.2 _ (fun e=>?_) ho.ref ?_
   ·have:=ho.li;rw[e] at this;simp at this
   ·have:List.getD ws a []=(ws.drop a).getD 0 []:=by rw[aLk,aLk,List.getElem?_drop];rfl
    rw[Int.toNat_natCast,this,htl I h1 J];rfl
  have how:∀i (hi:i<ws.length),(ws[i]).length<=300:=fun i hi=>by
   have:=hww i
   rwa [aLk,aLf hi] at this
  refine Y.bind (Q:=fun (r:(Bool×TX)⊕(Bool×TX))=>match r with
    | .inl x=>x.2.2.2.1.length<=301/\x.2.2.2.2.length<=301/\(∀o,o ∈ x.2.2.2.2->o.2.1.length<=301)/\∀I,mTxF I=0->Qp I=s->x=(true,I)
    | .inr x=>x.1=false/\∀I,mTxF I=0->Qp I=s->False) ?_ (fun r hr=>?_)
  ·refine Y.loop (fun n (st:Bool×Int×TX)=>∃i:Nat,st.2.1=((a+1+i:Nat):Int)/\a+1+i<=ws.length/\n=ws.length - (a+1+i)/\st.2.2.2.2.1.length<=301/\st.2.2.2.2.2.length=i/\(∀o,o ∈ st.2.2.2.2.2->o.2.1.length<=301)/\∀I,mTxF I=0->Qp I=s->st.1=true/\st.2.2=(I.1,I.2.1,I.2.2.1,I.2.2.2.take i)) (fun n st hI=>?_) (ws.length - (a+1)) _ ⟨0,rfl,by omega,by omega,hins.1,rfl,(fun o ho=>nomatch ho),fun I h1 J=>by
    have e:=hic I h1 J
    have e2:=(hxc I h1 J).2
    simp only[aLe] at e2;rw[e];refine⟨rfl,?_⟩;show (xk,xm,I.2.2.1,[])=_
    rw[e2.1,e2.2.1];rfl⟩
   obtain⟨i,hi,hle,hnn,hil,hac,hkl,hcomp⟩:=hI;obtain⟨ok,i',k',m',il,acc⟩:=st;have hi:i'=((a+1+i:Nat):Int):=hi
   subst hi;have hac:acc.length=i:=hac
   have hol:∀I,mTxF I=0->Qp I=s->ws.length=a+1+I.2.2.2.length:=fun I h1 J=>by
    have h4:(ws.drop a).length=1+I.2.2.2.length:=by rw[htl I h1 J];simp;omega
    rw[aLz] at h4;omega
   refine Y.bind (Q:=fun j=>(j=true->a+1+i<ws.length)/\(j=false->a+1+i=ws.length\/ok=false)) ?_ (fun j hj2=>?_)
   ·refine Y.bif (fun h4=>Y.some ⟨fun _=>?_,fun h5=>.inr h5⟩) (fun h4=>Y.some ⟨(fun h=>by cases h),fun _=>.inl ?_⟩)
    ·simp at h4;omega
    ·simp at h4;omega
   refine Y.bif (fun h4=>?_) (fun h4=>Y.some ⟨hil,by show acc.length<=_;omega,hkl,fun I h1 J=>?_⟩)
   ·have hlt:=hj2.1 h4
    have hg:List.getD ws (Int.toNat ((a+1+i:Nat):Int)) []=ws[a+1+i]:=Qa ws _ _ hlt
    have hwl:=how _ hlt
    rw[hg];have hoc:∀I,mTxF I=0->Qp I=s->∃hr:i<I.2.2.2.length,okO I.2.2.2[i]/\ws[a+1+i]=wOut I.2.2.2[i]:=fun I h1 J=>by
     have h5:=hol I h1 J
     have hr:i<I.2.2.2.length:=by omega
     refine⟨hr,(U I h1 J).1.out _ (aLl hr),?_⟩;have h6:(ws.drop a)[1+i]? = some ws[a+1+i]:=by rw[List.getElem?_drop,<-Nat.add_assoc,aLf hlt]
     rw[htl I h1 J,Nat.add_comm 1 i,List.getElem?_cons_succ,List.getElem?_map,aLf hr] at h6;simpa using h6.symm
    refine Y.grd (Qb _ _ hlt) (Y.eqb (Y3 _ 61 (by unfold LIM;omega)) (Y.bif (fun h5=>Y.some ⟨rfl,fun I h1 J=>?_⟩) (fun h5=>?_)))
    ·obtain⟨_,ho,e⟩:=hoc I h1 J
     rw[e,Qnj ho] at h5;simp at h5
    ·have h2l:(cuts 61 ws[a+1+i]).length=2:=by simp at h5;omega
     have w0:=Yj 61 ws[a+1+i] 0
     have w1:=Yj 61 ws[a+1+i] 1
     have hsl:(swp 95 32 (List.getD (cuts 61 ws[a+1+i]) (Int.toNat 1) [])).length<=300:=by
      unfold swp;rw[List.length_map];show (List.getD (cuts 61 ws[a+1+i]) 1 []).length<=_;omega
     refine Y.grd (ZC (by omega) (by omega)) (Y.bind (Qm0 (List.getD (cuts 61 ws[a+1+i]) (Int.toNat 0) []) 7 (by show (List.getD (cuts 61 ws[a+1+i]) 0 []).length<_;omega)) (fun v hv=>Y.grd (ZC (by omega) (by omega)) (Y.eqb (Qqs _ 95 32 (by show (List.getD (cuts 61 ws[a+1+i]) 1 []).length<=_;omega)) (Y.bind (Qq8 _ (by omega)) (fun r hr=>?_)))))
     have hvr:∀I,mTxF I=0->Qp I=s->∃hr:i<I.2.2.2.length,v=(I.2.2.2[i].1,true)/\r=(I.2.2.2[i].2,true):=fun I h1 J=>by
      obtain⟨hr',ho,e⟩:=hoc I h1 J;have ec:cuts 61 ws[a+1+i]=[Lib.itoa I.2.2.2[i].1,Qt I.2.2.2[i].2 [95]]:=by rw[e];exact Qnj ho
      have hv1:=ho.1
      refine⟨hr',hv _ (by omega) (by omega) (by rw[ec];rfl) (Qd9 _ 7 (by omega) (by omega) (by omega)),hr.2 _ ho.2 ?_⟩
      rw[ec];exact (QnI (ZF ho.2) Qph).symm
     refine Y.bind (Q:=fun j=>∀I,mTxF I=0->Qp I=s->j=true) ?_ (fun j hj3=>?_)
     ·refine Y.bif (fun h6=>Y.some (fun I h1 J=>?_)) (fun h6=>Y.some (fun I h1 J=>?_))
      ·obtain⟨_,_,e⟩:=hvr I h1 J;rw[e]
      ·obtain⟨_,e,_⟩:=hvr I h1 J;rw[e] at h6;cases h6
     ·refine Y.grd (QfD _ _ (by show acc.length<_;omega)) (Y.some ⟨ws.length - (a+1+(i+1)),by omega,i+1,?_,by omega,rfl,hil,by show (List.append acc [_]).length=_;simp[hac],fun o ho=>?_,fun I h1 J=>⟨hj3 I h1 J,?_⟩⟩)
      ·show IntKind.wrap .i64 (((a+1+i:Nat):Int)+1)=_
       rw[wsucc hlt (by omega)];rfl
      ·rcases List.mem_append.1 (show o ∈ acc++[(v.1,r.1)] from ho) with ho | ho
       ·exact hkl o ho
       ·rw[aLs] at ho;subst ho
        have:=hr.1
        show r.1.1.length<=_
        omega
      ·obtain⟨hr',e1,e2⟩:=hvr I h1 J
       have hc2:=(hcomp I h1 J).2
       simp only[aLe] at hc2;show (k',m',il,List.append acc [(v.1,r.1)])=_
       rw[e1,e2,hc2.1,hc2.2.1,hc2.2.2.1,hc2.2.2.2,List.take_add_one,aLf hr'];rfl
   ·obtain⟨c1,c2⟩:=hcomp I h1 J
    have c1':ok=true:=c1
    rcases hj2.2 h4 with h5 | h5
    ·have h6:=hol I h1 J
     obtain rfl:i=I.2.2.2.length:=by omega
     rw[List.take_length] at c2;have c2:(k',m',il,acc)=I:=c2
     show (ok,k',m',il,acc)=_
     rw[c1',c2]
    ·rw[c1'] at h5;cases h5
  cases r with
  | inr x=>exact Y.some (by obtain⟨b,t⟩:=x;have h1:b=false:=hr.1;subst h1;exact hno _ hr.2)
  | inl x=>
   obtain⟨r1,r2,r3,r4⟩:=hr;have hb:bT x.2:=⟨by omega,by omega,fun o ho=>by have:=r3 o ho;omega⟩
   refine Y.bind (Q:=fun (y:Bool×TX)=>TxQ s (y.2,y.1)) ?_ (fun y hy=>Y.some hy)
   refine Y.bif (fun h=>Y.eqb (Qcz x.2 hb) (Y.bif (fun h3=>?_) (fun h3=>Y.some (hno _ fun I h1 J=>?_)))) (fun h=>Y.some (hno _ fun I h1 J=>?_))
   ·have h0:mTxF x.2=0:=by simpa using h3
    refine Y.eqb (Qh1 (J0 h0)) (Y.bif (fun h4=>Y.some ⟨fun _=>⟨h0,by simpa using h4⟩,fun I h1 J=>?_⟩) (fun h4=>Y.some (hno _ fun I h1 J=>?_)))
    ·show (x.2,decide ((s.length:Int)<=300))=_
     rw[r4 I h1 J,aLE (by omega)]
    ·rw[r4 I h1 J] at h4
     simp[J] at h4
   ·rw[r4 I h1 J] at h3
    simp[h1] at h3
   ·rw[r4 I h1 J] at h;cases h
end GL
end Go.Dx
set_option maxHeartbeats 2000000
namespace Go.Dx
namespace GL
open Classical in
noncomputable def rdTx (s:List UInt8):Option TX:=if h:∃t,mTxF t=0/\Qp t=s then some h.choose else none
theorem QiJ {s:List UInt8} {t:TX} (h:rdTx s=some t):mTxF t=0/\Qp t=s:=by
 unfold rdTx at h;split at h
 ·rename_i hh
  cases h;exact hh.choose_spec
 ·cases h
theorem QqD {s:List UInt8} (h:rdTx s=none) (t:TX) (h1:mTxF t=0) (I:Qp t=s):False:=by
 unfold rdTx at h;split at h
 ·cases h
 ·rename_i hh;exact hh ⟨t,h1,I⟩
theorem QsV {s:List UInt8} {x:TX×Bool} (h:TxQ s x):(∀t,rdTx s=some t->x=(t,true))/\(rdTx s=none->x.2=false):=by
 refine⟨fun t I=>h.2 t (QiJ I).1 (QiJ I).2,fun U=>?_⟩
 cases J:x.2 with
 | false=>rfl
 | true=>exact (QqD U _ (h.1 J).1 (h.1 J).2).elim
structure okL (l:TL):Prop where
 n1:l.1.length<=60
 n2:l.2.length<=120
 txt:∀s,s ∈ l.1->1<=s.length/\s.length<=300
theorem Qdb {l:TL} (h:mLF l=0):okL l:=by
 unfold mLF at h;split at h
 ·cases h
 ·rename_i h1
  simp only[Bool.or_eq_true,aLF,not_or] at h1;refine⟨by omega,by omega,fun s hs=>?_⟩
  by_cases I:code (mTx l.1) l.1=0
  ·obtain⟨i,hi,rfl⟩:=List.mem_iff_getElem.1 hs
   have J:=Yh I i _ (aLf hi)
   unfold mTx at J;cases U:mIn (l.1[i].length:Int) 1 300 with
   | false=>rw[U] at J;simp at J
   | true=>rw[QE] at U;omega
  ·rw[if_neg I] at h;exact absurd h I
def noT:TX:=(0,(0,([],[])))
noncomputable def mTI (l:TL) (id:Int):TX×Int:=if mIn id 1 (l.1.length:Int) then (match rdTx (List.getD l.1 (Int.toNat (IntKind.wrap .i64 (id - 1))) []) with | some t=>(t,0) | none=>(noT,5)) else (noT,3)
theorem QiU {l:TL} (h:okL l) (i:Nat):(List.getD l.1 i []).length<=300:=by
 rw[aLk];cases I:l.1[i]? with
 | none=>simp
 | some s=>exact (h.txt s (List.mem_of_getElem? I)).2
theorem Qm3 {l:TL} (h:okL l) {id:Int} (hi:mIn id 1 (l.1.length:Int)=true):inB (IntKind.wrap .i64 (id - 1)) l.1=true:=by
 rw[QE] at hi;have:=h.n1
 rw[QY (by omega) (by omega)]
 exact ZC (by omega) (by omega)
theorem Qov {l:TL} (h:okL l) (id:Int):Qag l id=some (mTI l id):=by
 unfold Qag Yx Qat mTI;rw[Zf];simp only[aLc];cases hi:mIn id 1 (l.1.length:Int) with
 | false=>rfl
 | true=>
  simp only[Bool.not_true,aLC,Qm3 h hi,aLB,aLc,decide_true,if_true];obtain⟨x,J,U⟩:=QrS _ (QiU h (Int.toNat (IntKind.wrap .i64 (id - 1))));obtain⟨r1,r2⟩:=QsV U;rw[J,aLc];cases I:rdTx (List.getD l.1 (Int.toNat (IntKind.wrap .i64 (id - 1))) []) with
  | none=>rw[r2 I];rfl
  | some t=>rw[r1 t I];rfl
theorem QoE {l:TL} (h:mLF l=0) (id:Int):QeZ l id=some ((mTI l id).2,(mTI l id).1):=by
 have ho:=Qdb h
 have hB:BIG=4611686018427387904:=rfl
 unfold QeZ QbA Qe1 QeE mTI;rw[QaY l (by have:=ho.n1;omega) (by have:=ho.n2;omega),aLc,h,Zm]
 simp only[decide_true,Bool.not_true,aLC,aLc];cases hi:mIn id 1 (l.1.length:Int) with
 | false=>rfl
 | true=>
  simp only[Bool.not_true,aLC,Qm3 ho hi,aLB,aLc,decide_true,if_true];obtain⟨x,J,U⟩:=Qq9 _ (QiU ho (Int.toNat (IntKind.wrap .i64 (id - 1))));obtain⟨r1,r2⟩:=QsV U;rw[J,aLc];cases I:rdTx (List.getD l.1 (Int.toNat (IntKind.wrap .i64 (id - 1))) []) with
  | none=>rw[r2 I];rfl
  | some t=>rw[r1 t I];rfl
theorem Qj7 {l:TL} {id:Int} (h:(mTI l id).2=0):mTxF (mTI l id).1=0:=by
 unfold mTI at h ⊢;split
 ·rename_i h1
  rw[if_pos h1] at h;split
  ·rename_i t I;exact (QiJ I).1
  ·rename_i I;rw[I] at h;cases h
 ·rename_i h1;rw[if_neg h1] at h;cases h
theorem Qo0 (n k:Nat) (hk:k<=n) (f:Int×Int->Option ((Int×Int)⊕Int))
  (hs:∀lo hi:Nat,lo<hi->hi<=n->f ((lo:Int),(hi:Int))=some (.inl (if (lo+hi) / 2<k then ((((lo+hi) / 2+1:Nat):Int),(hi:Int)) else ((lo:Int),(((lo+hi) / 2:Nat):Int)))))
  (he:∀lo:Nat,f ((lo:Int),(lo:Int))=some (.inr (lo:Int))):Qc f (0,(n:Int))=some (k:Int):=by
 have key:∀(d lo hi:Nat),hi - lo<=d->lo<=k->k<=hi->hi<=n->Qc f ((lo:Int),(hi:Int))=some (k:Int):=by
  intro d;induction d with
  | zero=>
   intro lo hi h1 J U I;obtain rfl:lo=k:=by omega
   obtain rfl:lo=hi:=by omega
   exact Qh (he lo)
  | succ d ih=>
   intro lo hi h1 J U I;by_cases h:lo<hi
   ·rw[Qv (hs lo hi h I)]
    by_cases hm:(lo+hi) / 2<k
    ·rw[if_pos hm];exact ih _ _ (by omega) (by omega) U I
    ·rw[if_neg hm];exact ih _ _ (by omega) J (by omega) (by omega)
   ·obtain rfl:lo=hi:=by omega
    obtain rfl:lo=k:=by omega
    exact Qh (he lo)
 exact key n 0 n (by omega) (by omega) hk (by omega)
theorem QrA {lo hi:Nat} (h:lo+hi<4611686018427387904):IntKind.wrap .i64 (Int.fdiv (IntKind.wrap .u64 (IntKind.wrap .i64 ((lo:Int)+(hi:Int)))) (2 ^ 1))=(((lo+hi) / 2:Nat):Int):=by
 rw[QY (n:=(lo:Int)+(hi:Int)) (by omega) (by omega)]
 have e:IntKind.wrap .u64 ((lo:Int)+(hi:Int))=(lo:Int)+(hi:Int):=by
  simp[IntKind.wrap,IntKind.bits,IntKind.signed];omega
 rw[e];have I:Int.fdiv ((lo:Int)+(hi:Int)) (2 ^ 1)=(((lo+hi) / 2:Nat):Int):=by
  rw[Int.fdiv_eq_ediv_of_nonneg _ (by decide)]
  show ((lo:Int)+(hi:Int)) / 2=_
  omega
 rw[I];exact QY (by omega) (by omega)
theorem QjA (n:Nat) (p:Nat->Bool) (hm:∀i j,i<=j->j<n->p j=true->p i=true):∃k,k<=n/\(∀i,i<k->p i=true)/\(∀i,k<=i->i<n->p i=false):=by
 induction n with
 | zero=>exact⟨0,by omega,fun i hi=>by omega,fun i h1 U=>by omega⟩
 | succ n ih=>
  obtain⟨k,h1,U,h3⟩:=ih fun i j I hj=>hm i j I (by omega)
  by_cases hp:p n=true
  ·refine⟨n+1,by omega,fun i hi=>hm i n (by omega) (by omega) hp,fun i h4 h5=>by omega⟩
  ·refine⟨k,by omega,U,fun i h4 h5=>?_⟩
   by_cases J:i=n
   ·subst J;simpa using hp
   ·exact h3 i h4 (by omega)
theorem QbG {a b c:Int×Int} (h1:Qr a b=true) (I:Qr b c=true):Qr a c=true:=by
 unfold Qr at *;split at h1<;>split at I<;>split<;>simp at *<;>omega
theorem Z7 (a:Int×Int):Qr a a=false:=by unfold Qr;simp
theorem QoO {a b:Int×Int} (h:Qr a b=true):Qr b a=false:=by
 cases I:Qr b a with
 | false=>rfl
 | true=>have:=QbG h I;rw[Z7] at this;cases this
theorem Qik {a b:Int×Int} (h1:Qr a b=false) (I:Qr b a=false):a=b:=by
 obtain⟨J,a2⟩:=a;obtain⟨U,b2⟩:=b;unfold Qr at *;simp only at h1 I;by_cases h:J=U
 ·rw[if_pos h] at h1;rw[if_pos h.symm] at I
  simp at h1 I;rw[h,show a2=b2 by omega]
 ·rw[if_neg h] at h1;rw[if_neg (fun e=>h e.symm)] at I
  simp at h1 I;omega
theorem QnH (a b:Int×Int):decide (Qe0 a b<0)=Qr a b:=by
 have:=QpS a b
 cases h:Qr a b with
 | false=>rw[h] at this;simp at this ⊢;omega
 | true=>rw[h] at this;simp at this ⊢;omega
theorem Qrj (a b:Int×Int):decide (Qe0 a b=0)=decide (a=b):=by
 obtain⟨U,a2⟩:=a;obtain⟨b1,b2⟩:=b;unfold Qe0 mCmp;refine decide_eq_decide.2 ?_;simp only[aLe];by_cases h1:U<b1
 ·simp[h1];omega
 ·by_cases I:b1<U
  ·simp[h1,I];omega
  ·by_cases J:a2<b2
   ·simp[h1,I,J];omega
   ·by_cases h4:b2<a2
    ·simp[h1,I,J,h4];omega
    ·simp[h1,I,J,h4];omega
def Rise (l:List TCoin):Prop:=l.Pairwise fun a b=>Qr a.1 b.1=true
theorem QeK {l:List TCoin} (h:Zv l=0):Rise l:=by
 unfold Zv at h;by_cases J:(40:Int)<(l.length:Int)
 ·rw[if_pos J] at h;cases h
 ·rw[if_neg J] at h
  have step:∀i (hi:i+1<l.length),Qr (l[i]'(by omega)).1 l[i+1].1=true:=fun i hi=>by
   have I:=Yh h (i+1) _ (aLf hi)
   unfold Qi0 at I;cases h1:mRef l[i+1].1&&mIn l[i+1].2.2.1 0 999 with
   | false=>rw[h1] at I;simp at I
   | true=>
    rw[h1,if_pos rfl] at I;by_cases U:mOut l[i+1].2.1=0
    ·rw[if_pos U,Nat.add_sub_cancel,aLk,aLf (by omega:i<l.length)] at I
     cases h3:Qr (l[i]'(by omega)).1 l[i+1].1 with
     | true=>rfl
     | false=>
      simp only[Option.getD_some] at I;simp[h3] at I
    ·rw[if_neg U] at I;exact absurd I U
  unfold Rise;rw[List.pairwise_iff_getElem];intro i j hi hj hij;obtain⟨d,rfl⟩:∃d,j=i+1+d:=⟨j - (i+1),by omega⟩
  induction d with
  | zero=>exact step i hj
  | succ d ih=>exact QbG (ih (by omega) (by omega)) (step (i+1+d) hj)
theorem QcP {l:List TCoin} (h:Rise l) {i j:Nat} (I:i<j) (hj:j<l.length):Qr (l[i]'(by omega)).1 l[j].1=true:=List.pairwise_iff_getElem.1 h i j (by omega) hj I
theorem Qjq {l:List TCoin} (h:Rise l) {a b:TCoin} (I:a ∈ l) (hb:b ∈ l) (he:a.1=b.1):a=b:=by
 obtain⟨i,hi,rfl⟩:=List.mem_iff_getElem.1 I;obtain⟨j,hj,rfl⟩:=List.mem_iff_getElem.1 hb;rcases Nat.lt_trichotomy i j with h1 | h1 | h1
 ·have:=QcP h h1 hj;rw[he,Z7] at this;cases this
 ·subst h1;rfl
 ·have:=QcP h h1 hi;rw[he,Z7] at this;cases this
theorem Qj8 {l:List TCoin} (hr:Rise l) (hl:l.length<=1000000) (r:Int×Int):∃k:Nat,Jh l r=some ((k:Int),decide (∃h:k<l.length,(l[k]'h).1=r))/\((∃h:k<l.length,(l[k]'h).1=r)\/∀x,x ∈ l->x.1 ≠ r):=by
 obtain⟨k,h1,h2,h3⟩:=QjA l.length (fun i=>Qr (List.getD l i dC).1 r) (fun i j hij hj hp=>by
  rcases Nat.lt_or_ge i j with h | h
  ·have hi:i<l.length:=by omega
   have:=QcP hr h hj
   have e1:List.getD l i dC=l[i]:=by rw[aLk,aLf hi];rfl
   have e2:List.getD l j dC=l[j]:=by rw[aLk,aLf hj];rfl
   simp only[e1,e2] at hp ⊢;exact QbG this hp
  ·obtain rfl:i=j:=by omega
   exact hp)
 have I:∀i (hi:i<l.length),List.getD l i dC=l[i]:=fun i hi=>by rw[aLk,aLf hi];rfl
 refine⟨k,?_,?_⟩
 ·unfold Jh Q2
  have hcmp:∀(x:TCoin),((Qap x r).bind fun r7=>some r7)=some (Qe0 x.1 r):=fun x=>by
   unfold Qap;rw[Qfg];rfl
  simp only[hcmp,aLc];rw[Qo0 l.length k h1 _ (fun lo hi hlo hhi=>?_) (fun lo=>by simp only[Int.lt_irrefl,decide_false,aLC]),aLc]
  ·by_cases hk:k<l.length
   ·have hd:List.getD l (Int.toNat (k:Int)) dC=l[k]:=by rw[Int.toNat_natCast];exact I k hk
    rw[dlt hk,aLB,Qb l k hk,aLB];show some ((k:Int),decide (Qe0 (List.getD l (Int.toNat (k:Int)) dC).1 r=0))=_
    rw[hd,Qrj];congr 2;exact decide_eq_decide.2 ⟨fun h=>⟨hk,h⟩,fun ⟨_,h⟩=>h⟩
   ·have hf:decide (∃h:k<l.length,(l[k]'h).1=r)=false:=aLD (fun ⟨h,_⟩=>hk h)
    rw[dge' (by omega),aLC,aLc,hf];rfl
  ·have hm:=QrA (lo:=lo) (hi:=hi) (by omega)
   have J:(lo+hi) / 2<l.length:=by omega
   simp only[hm];rw[aLE (by omega),aLB,Qb l _ J,aLB]
   have hd:List.getD l (Int.toNat (((lo+hi) / 2:Nat):Int)) ((0,0),((0,([],(0,0))),(0,false)))=l[(lo+hi) / 2]:=by rw[Int.toNat_natCast];exact I _ J
   rw[hd,QnH,wsucc J (by unfold BIG;omega)]
   by_cases U:(lo+hi) / 2<k
   ·have:=h2 _ U
    rw[I _ J] at this;rw[this,if_pos U];rfl
   ·have:=h3 _ (by omega) J
    rw[I _ J] at this;rw[this,if_neg U];rfl
 ·by_cases hf:∃h:k<l.length,(l[k]'h).1=r
  ·exact .inl hf
  ·refine .inr fun x hx he=>hf ?_
   obtain⟨i,hi,rfl⟩:=List.mem_iff_getElem.1 hx;have hik:¬i<k:=fun h=>by
    have:=h2 i h
    rw[I i hi,he,Z7] at this;cases this
   refine⟨by omega,?_⟩
   rcases Nat.lt_or_ge k i with h | h
   ·have h4:=QcP hr h hi
    have h5:=h3 k (Nat.le_refl _) (by omega)
    rw[I k (by omega)] at h5
    rw[he] at h4;rw[h4] at h5;cases h5
   ·obtain rfl:i=k:=by omega
    exact he
end GL
end Go.Dx
set_option maxHeartbeats 2000000
namespace Go.Dx
namespace GL
theorem Qox (l:List Int) (I:l.length<=LIM):ZZ l=some l:=by
 unfold ZZ;rw[QgM I,aLB];cases l with
 | nil=>exact Qki _
 | cons a l=>rfl
theorem Qh9 (o:TOut) (h:o.2.1.length<=1000000):Qbt o=some o:=by
 unfold Qbt QeH;rw[Qox _ (by unfold LIM;omega)];rfl
theorem Qb0 (l:List TCoin) (J:l.length<=1000000) (hk:∀x,x ∈ l->x.2.1.2.1.length<=1000000):Yv l=some l:=by
 unfold Yv;rw[Zu (σ:=List TCoin) l (fun acc a=>acc++[a]) (fun t i=>(t,i)) (fun t=>t) (fun t i=>t.length=i) _ (fun i hi t I=>by
   refine⟨?_,by simp[I]⟩
   simp only[dlt hi,Qb _ i hi,Qa _ i _ hi,aLB,Qh9 _ (hk _ (aLl hi)),aLc,wsucc hi (by unfold BIG;omega)]
   rw[Qe (by simp only[aLh,aLj];unfold LIM;omega)];rfl) (fun t I=>by simp only[dge,aLC]) [] rfl,aLc,foldl_map (fun a=>a),List.map_id',aLx]
theorem QdF (l:List TCoin) (U:l.length<=1000000) (hk:∀x,x ∈ l->x.2.1.2.1.length<=1000000):Jp l=some l:=by
 unfold Jp;have J:∀r:TRu,r.1.length<=1000000->Jq r=some r:=fun r hr=>by
  unfold Jq;rw[QgM (by unfold LIM;omega)];rfl
 rw[Zu (σ:=List TCoin) l (fun acc a=>acc++[a]) (fun t i=>(t,i)) (fun t=>t) (fun t i=>t.length=i) _ (fun i hi t I=>by
   refine⟨?_,by simp[I]⟩
   simp only[dlt hi,Qb _ i hi,Qa _ i _ hi,aLB,J _ (hk _ (aLl hi)),aLc,wsucc hi (by unfold BIG;omega)]
   rw[Qe (by simp only[aLh,aLj];unfold LIM;omega)];rfl) (fun t I=>by simp only[dge,aLC]) [] rfl,aLc,foldl_map (fun a=>a),List.map_id',aLx]
def mSp (c:List TCoin) (t:TX):List TCoin:=c.filter fun x=>decide (x.1 ∈ t.2.2.1)
theorem YP {c:List TCoin} (h:Zv c=0):∀x,x ∈ c->x.2.1.2.1.length<=1000000:=fun x I=>by
 have:=(ZF ((YK h).2 x I).rule).len;omega
theorem QeT {c:List TCoin} (h:Zv c=0) (t:TX) (J:t.2.2.1.length<=1000000):JI c t=some (mSp c t,decide ((mSp c t).length=t.2.2.1.length)):=by
 have U:=(YK h).1
 unfold JI mSp;rw[Zu (σ:=List TCoin) c (fun acc a=>if decide (a.1 ∈ t.2.2.1) then acc++[a] else acc) (fun t i=>(t,i)) (fun t=>t) (fun t i=>t.length<=i) _ (fun i hi x I=>by
   refine⟨?_,by split<;>(try simp only[aLi,aLh,aLj])<;>omega⟩
   simp only[dlt hi,Qb _ i hi,Qa _ i _ hi,aLB,QcY t.2.2.1 (by unfold BIG;omega),aLc,wsucc hi (by unfold BIG;omega)]
   rw[Qe (by simp only[aLh,aLj];unfold LIM;omega)]
   cases decide (c[i].1 ∈ t.2.2.1)<;>rfl) (fun t J=>by simp only[dge,aLC]) [] (Nat.le_refl _),aLc,foldl_filter,aLx]
 rw[QdF _ (by have:=List.length_filter_le (fun x:TCoin=>decide (x.1 ∈ t.2.2.1)) c;omega) (fun x I=>YP h x (List.mem_filter.1 I).1),aLc]
 congr 2;exact decide_eq_decide.2 (by omega)
theorem Qkk {c xs ys:List TCoin} (hc:Rise c) (hx:∀x,x ∈ xs->x ∈ c) (hp:ys.Perm xs) (hy:Rise ys) (hl:xs.length<=1000000):Qbx xs=some ys:=by
 unfold Qbx ZK;have hg:∀a b:TCoin,((Yf a b).bind fun U=>some U)=some (Qe0 a.1 b.1):=fun a b=>by
  unfold Yf;rw[Qfg];rfl
 have I:∀a b:TCoin,QbW (fun a b=>(Yf a b).bind fun U=>some U) a b=Qr a.1 b.1:=fun a b=>by
  unfold QbW;simp only[hg];exact QnH a.1 b.1
 have hso:Qhm (fun a b=>(Yf a b).bind fun U=>some U) xs:=by
  refine⟨fun a _ b _=>⟨_,hg a b⟩,fun a _=>by rw[I];exact Z7 _,fun a _ b _ d _ h1 J=>?_,fun a _ b _ d _ h1 J=>?_,fun a ha b hb h1 J=>?_,by omega⟩
  ·rw[I] at h1 J ⊢;exact QbG h1 J
  ·rw[I] at h1 J ⊢
   cases h3:Qr a.1 d.1 with
   | false=>rfl
   | true=>
    cases h4:Qr d.1 b.1 with
    | true=>have:=QbG h3 h4;rw[h1] at this;cases this
    | false=>
     have e:=Qik J h4
     rw[e] at h1;rw[h3] at h1;cases h1
  ·rw[I] at h1 J
   exact Qjq hc (hx a ha) (hx b hb) (Qik h1 J)
 have hss:Sorts (fun a b=>(Yf a b).bind fun U=>some U) xs ys:=⟨hp,List.Pairwise.imp (fun {a b} h=>by rw[I];exact QoO h) hy⟩
 rw[QrW hso hss];rfl
def atC (c:List TCoin) (r:Int×Int):Option TCoin:=c.find? fun x=>decide (x.1=r)
theorem QeM {c:List TCoin} {r:Int×Int} {x:TCoin} (h:atC c r=some x):x ∈ c/\x.1=r:=⟨List.mem_of_find?_eq_some h,by simpa using List.find?_some h⟩
theorem Qrp {c:List TCoin} (J:Rise c) {x:TCoin} (I:x ∈ c):atC c x.1=some x:=by
 cases h:atC c x.1 with
 | none=>
  unfold atC at h;rw[List.find?_eq_none] at h;exact absurd (by simp) (h x I)
 | some y=>
  obtain⟨h1,U⟩:=QeM h;rw[Qjq J h1 I U]
theorem Qr3 {c:List TCoin} {r:Int×Int} (h:∀x,x ∈ c->x.1 ≠ r):atC c r=none:=by
 unfold atC;rw[List.find?_eq_none];intro x I;simpa using h x I
theorem Qpk {c:List TCoin} (J:Rise c) (rs:List (Int×Int)) (U:rs.Nodup):(c.filter fun x=>decide (x.1 ∈ rs)).Perm (rs.filterMap (atC c)):=by
 have n1:(c.filter fun x=>decide (x.1 ∈ rs)).Nodup:=by
  rw[List.nodup_iff_pairwise_ne];exact List.Pairwise.sublist List.filter_sublist (List.Pairwise.imp (fun {a b} h e=>by rw[e,Z7] at h;cases h) J)
 have n2:(rs.filterMap (atC c)).Nodup:=by
  rw[List.nodup_iff_pairwise_ne,List.pairwise_filterMap];rw[List.nodup_iff_pairwise_ne] at U;refine List.Pairwise.imp (fun {a b} h x hx y hy e=>h ?_) U
  rw[<-(QeM hx).2,<-(QeM hy).2,e]
 refine (List.perm_ext_iff_of_nodup n1 n2).2 fun x=>?_
 rw[List.mem_filter,List.mem_filterMap];constructor
 ·rintro ⟨h1,I⟩
  exact⟨x.1,aLG I,Qrp J h1⟩
 ·rintro ⟨r,h1,I⟩
  obtain⟨h3,h4⟩:=QeM I;exact⟨h3,aLE (h4 ▸ h1)⟩
theorem Qf0 {c:List TCoin} (I:Rise c) (p:TCoin->Bool):Rise (c.filter p):=List.Pairwise.sublist List.filter_sublist I
theorem QeF {c:List TCoin} (h:Zv c=0) (t:TX) (ht:okT t):JJ c t=some (if (mSp c t).length=t.2.2.1.length then (mSp c t,0) else ([],4)):=by
 have hl:=(YK h).1
 have U:=QeK h
 have hp:=Qpk U t.2.2.1 ht.nd
 have hli:=ht.li
 have J:∀r:Int×Int,∃k:Int,∃b,Jh c r=some (k,b)/\(b=true->∃x,atC c r=some x/\inB k c=true/\List.getD c (Int.toNat k) ((0,0),((0,([],(0,0))),(0,false)))=x)/\(b=false->atC c r=none):=fun r=>by
  obtain⟨k,hk,hor⟩:=Qj8 U (by omega) r
  refine⟨k,_,hk,fun hb=>?_,fun hb=>?_⟩
  ·obtain⟨h1,h2⟩:=aLG hb
   exact⟨c[k],by rw[<-h2];exact Qrp U (aLl h1),Qb c k h1,Qa c k _ h1⟩
  ·rcases hor with h1 | h1
   ·exact absurd h1 (aLH hb)
   ·exact Qr3 h1
 have loop:∀(f:List TCoin×Int->Option ((List TCoin×Int)⊕(List TCoin⊕(List TCoin×Int)))),
   (∀(i:Nat) (hi:i<t.2.2.1.length) (acc:List TCoin),acc.length<=i->f (acc,(i:Int))=some (match atC c t.2.2.1[i] with | some x=>.inl (acc++[x],((i+1:Nat):Int)) | none=>.inr (.inr ([],4))))->(∀acc,f (acc,(t.2.2.1.length:Int))=some (.inr (.inl acc)))->
   Qc f ([],0)=some (if (mSp c t).length=t.2.2.1.length then .inl (t.2.2.1.filterMap (atC c)) else .inr ([],4)):=by
  intro f hs he;have key:∀(k i:Nat) (acc:List TCoin),i+k=t.2.2.1.length->acc.length<=i->Qc f (acc,(i:Int))=some (if ((t.2.2.1.drop i).filterMap (atC c)).length=k then .inl (acc++(t.2.2.1.drop i).filterMap (atC c)) else .inr ([],4)):=by
   intro k;induction k with
   | zero=>
    intro i acc hi ha;obtain rfl:i=t.2.2.1.length:=by omega
    rw[Qh (he acc)];simp
   | succ k ih=>
    intro i acc hi ha;have hlt:i<t.2.2.1.length:=by omega
    have h1:=hs i hlt acc ha
    rw[aLr hlt];have hle:=List.length_filterMap_le (atC c) (t.2.2.1.drop (i+1))
    rw[aLz] at hle;cases I:atC c t.2.2.1[i] with
    | none=>
     rw[I] at h1;rw[Qh h1,List.filterMap_cons_none I,if_neg (by omega)]
    | some x=>
     rw[I] at h1;rw[Qv h1,ih (i+1) _ (by omega) (by simp;omega),List.filterMap_cons_some I]
     by_cases hk:((t.2.2.1.drop (i+1)).filterMap (atC c)).length=k
     ·rw[if_pos hk,if_pos (by simp;omega)];simp
     ·rw[if_neg hk,if_neg (by simp;omega)]
  have:=key t.2.2.1.length 0 [] (by omega) (by simp)
  rw[List.drop_zero,aLx,<-hp.length_eq] at this;exact this
 unfold JJ;rw[loop _ (fun i hi acc ha=>?_) (fun acc=>by simp only[dge,aLC]),aLc]
 ·by_cases hlen:(mSp c t).length=t.2.2.1.length
  ·rw[if_pos hlen,if_pos hlen]
   have hm:∀x,x ∈ t.2.2.1.filterMap (atC c)->x ∈ c:=fun x I=>by
    obtain⟨r,_,h2⟩:=List.mem_filterMap.1 I;exact (QeM h2).1
   have hfl:=List.length_filterMap_le (atC c) t.2.2.1
   rw[Sum.elim_inl,Qb0 _ (by omega) (fun x I=>YP h x (hm x I)),aLc,Qkk U hm hp (Qf0 U _) (by omega)]
   rfl
  ·rw[if_neg hlen,if_neg hlen];rfl
 ·obtain⟨k,b,e1,e2,e3⟩:=J t.2.2.1[i]
  simp only[dlt hi,Qb _ i hi,Qa _ i _ hi,aLB,e1,aLc,wsucc hi (by unfold BIG;omega)]
  cases b with
  | false=>rw[e3 rfl];rfl
  | true=>
   obtain⟨x,h1,h2,h3⟩:=e2 rfl;rw[h1,h2,h3];simp only[Bool.not_true,aLC,aLB];rw[Qe (by simp only[aLh,aLj];unfold LIM;omega)];rfl
end GL
end Go.Dx
set_option maxHeartbeats 2000000
namespace Go.Dx
namespace GL
def mCnt (l:TL) (ks:List Int) (id:Int):Int:=ks.foldl (fun n k=>if decide ((k,id) ∈ l.2) then IntKind.wrap .i64 (n+1) else n) 0
def mMet (l:TL) (r:TRu) (id h:Int):Int:=if h<r.2.2 then 9 else if mCnt l r.1 id<r.2.1 then 6 else 0
theorem QlY {l:TL} (I:okL l) (k id:Int):ZP l k id=some (decide ((k,id) ∈ l.2)):=by
 unfold ZP;rw[Qgn _ (by have:=I.n2;unfold BIG;omega)];rfl
theorem Qo6 {l:TL} (I:okL l) (k id:Int):QaN l k id=some (decide ((k,id) ∈ l.2)):=by
 unfold QaN;rw[Qgo _ (by have:=I.n2;unfold BIG;omega)];rfl
theorem Qri {l:TL} (J:okL l) (r:TRu) (U:r.1.length<BIG) (id h:Int):Jg l r id h=some (mMet l r id h):=by
 unfold Jg mMet;by_cases h1:h<r.2.2
 ·rw[aLE h1,if_pos h1];rfl
 ·rw[aLD h1,if_neg h1,aLC]
  rw[Zu (σ:=Int) r.1 (fun n k=>if decide ((k,id) ∈ l.2) then IntKind.wrap .i64 (n+1) else n) (fun t i=>(t,i)) (fun t=>t) (fun _ _=>True) _ (fun i hi x hx=>by
    refine⟨?_,trivial⟩;simp only[dlt hi,Qb _ i hi,Qa _ i _ hi,aLB,QlY J,aLc,wsucc hi U];cases decide ((r.1[i],id) ∈ l.2)<;>rfl) (fun t ht=>by simp only[dge,aLC]) 0 trivial,aLc]
  show (bif decide (mCnt l r.1 id<r.2.1) then some (6:Int) else some 0)=_
  by_cases I:mCnt l r.1 id<r.2.1
  ·rw[aLE I,if_pos I];rfl
  ·rw[aLD I,if_neg I];rfl
theorem Qtc {l:TL} (J:okL l) (r:TRu) (U:r.1.length<BIG) (id h:Int):Qey l r id h=some (mMet l r id h):=by
 unfold Qey mMet;by_cases h1:h<r.2.2
 ·rw[aLE h1,if_pos h1];rfl
 ·rw[aLD h1,if_neg h1,aLC]
  rw[Zu (σ:=Int) r.1 (fun n k=>if decide ((k,id) ∈ l.2) then IntKind.wrap .i64 (n+1) else n) (fun t i=>(t,i)) (fun t=>t) (fun _ _=>True) _ (fun i hi x hx=>by
    refine⟨?_,trivial⟩;simp only[dlt hi,Qb _ i hi,Qa _ i _ hi,aLB,Qo6 J,aLc,wsucc hi U];cases decide ((r.1[i],id) ∈ l.2)<;>rfl) (fun t ht=>by simp only[dge,aLC]) 0 trivial,aLc]
  show (bif decide (mCnt l r.1 id<r.2.1) then some (6:Int) else some 0)=_
  by_cases I:mCnt l r.1 id<r.2.1
  ·rw[aLE I,if_pos I];rfl
  ·rw[aLD I,if_neg I];rfl
def QhJ (x:TCoin) (h:Int):Bool:=!x.2.2.2 || decide (IntKind.wrap .i64 (x.2.2.1+2)<=h)
theorem QsN (x:TCoin) (h:Int):QdE x h=some (QhJ x h):=by
 unfold QdE QhJ;cases x.2.2.2<;>rfl
theorem QrT (x:TCoin) (h:Int) (h1:mIn x.2.2.1 0 999=true) (I:mIn h 0 999=true):Qdn x h=some (QhJ x h):=by
 unfold Qdn QhJ;rw[Qb3,Qb3,h1,I];cases x.2.2.2<;>rfl
def mSum (l:List TCoin):Int:=l.foldl (fun n x=>IntKind.wrap .i64 (n+x.2.1.1)) 0
def QdJ (l:List TOut):Int:=l.foldl (fun n x=>IntKind.wrap .i64 (n+x.1)) 0
theorem Qo3 (l:List TCoin) (I:l.length<BIG):Qel l=some (mSum l)/\Qed l=some (mSum l):=by
 constructor
 ·unfold Qel
  rw[Zu (σ:=Int) l (fun n x=>IntKind.wrap .i64 (n+x.2.1.1)) (fun t i=>(t,i)) (fun t=>t) (fun _ _=>True) _ (fun i hi x J=>by
    refine⟨?_,trivial⟩;simp only[dlt hi,Qb _ i hi,Qa _ i _ hi,aLB,aLc,wsucc hi I]) (fun t U=>by simp only[dge,aLC]) 0 trivial,aLc];rfl
 ·unfold Qed
  rw[Zu (σ:=Int) l (fun n x=>IntKind.wrap .i64 (n+x.2.1.1)) (fun t i=>(t,i)) (fun t=>t) (fun _ _=>True) _ (fun i hi x J=>by
    refine⟨?_,trivial⟩;simp only[dlt hi,Qb _ i hi,Qa _ i _ hi,aLB,aLc,wsucc hi I]) (fun t U=>by simp only[dge,aLC]) 0 trivial,aLc];rfl
theorem QnD (t:TX) (I:t.2.2.2.length<BIG):Qds t=some (QdJ t.2.2.2)/\Qeo t=some (QdJ t.2.2.2):=by
 constructor
 ·unfold Qds
  rw[Zu (σ:=Int) t.2.2.2 (fun n x=>IntKind.wrap .i64 (n+x.1)) (fun t i=>(t,i)) (fun t=>t) (fun _ _=>True) _ (fun i hi x J=>by
    refine⟨?_,trivial⟩;simp only[dlt hi,Qb _ i hi,Qa _ i _ hi,aLB,aLc,wsucc hi I]) (fun t U=>by simp only[dge,aLC]) 0 trivial,aLc];rfl
 ·unfold Qeo
  rw[Zu (σ:=Int) t.2.2.2 (fun n x=>IntKind.wrap .i64 (n+x.1)) (fun t i=>(t,i)) (fun t=>t) (fun _ _=>True) _ (fun i hi x J=>by
    refine⟨?_,trivial⟩;simp only[dlt hi,Qb _ i hi,Qa _ i _ hi,aLB,aLc,wsucc hi I]) (fun t U=>by simp only[dge,aLC]) 0 trivial,aLc];rfl
def mC1 (l:TL) (id h:Int) (x:TCoin):Int:=if QhJ x h then mMet l x.2.1.2 id h else 9
def QmY (l:TL) (sp:List TCoin) (t:TX) (id:Int):Int×Int:=if t.1=2/\(t.2.1,id) ∉ l.2 then (0,6) else if IntKind.wrap .i64 (mSum sp - QdJ t.2.2.2)<0 then (0,8) else (IntKind.wrap .i64 (mSum sp - QdJ t.2.2.2),0)
def Qht (l:TL) (c:List TCoin) (t:TX) (id h:Int):Int×Int:=if (mSp c t).length=t.2.2.1.length then (if code (fun _=>mC1 l id h) (mSp c t)=0 then QmY l (mSp c t) t id else (0,code (fun _=>mC1 l id h) (mSp c t))) else (0,4)
def mId (l:TL) (s:List UInt8):Int:=idxF (fun a=>decide (a=s)) l.1+1
def mChk (l:TL) (c:List TCoin) (t:TX) (h:Int):Int×Int:=if (Qp t).length<=300 then (if mId l (Qp t)=0 then (0,4) else Qht l c t (mId l (Qp t)) h) else (0,2)
theorem Qj0 {α R:Type} (l:List α) (c:α->Int) (f:Int->Option (Int⊕(Unit⊕(Int×Int))))
  (J:∀(i:Nat) (h:i<l.length),f (i:Int)=some (if c l[i]=0 then .inl ((i+1:Nat):Int) else .inr (.inr (0,c l[i])))) (he:f (l.length:Int)=some (.inr (.inl ()))) (A:Unit->Option R) (B:Int×Int->Option R) :
  ((Qc f 0).bind fun j=>Sum.elim A B j)=if code (fun _=>c) l=0 then A () else B (0,code (fun _=>c) l):=by
 rw[JA l (fun i a=>(if c a=0 then none else some (c a)).map fun v=>((0:Int),v)) f (fun i h=>by rw[J i h];by_cases U:c l[i]=0<;>simp[U]) he,QhU,Qao]
 by_cases I:code (fun _=>c) l=0
 ·rw[if_pos I]
  have hz:=Yh I
  have:first (fun (_:Nat) a=>if c a=0 then none else some (c a)) 0 l=none:=(QcX l 0).2 (fun j a ha=>by rw[if_pos (hz j a ha)])
  rw[this];rfl
 ·rw[if_neg I]
  unfold code at I ⊢;cases hf:first (fun (_:Nat) a=>if c a=0 then none else some (c a)) 0 l with
  | none=>rw[hf] at I;exact absurd rfl I
  | some r=>rfl
theorem Qiw {c:List TCoin} {t:TX} {x:TCoin} (h:x ∈ mSp c t):x ∈ c:=(List.mem_filter.1 h).1
theorem QhE {l:TL} (t:TX) (id:Int) (g:Int->Int->Option Bool) (I:g t.2.1 id=some (decide ((t.2.1,id) ∈ l.2))):(bif decide (t.1=2) then (g t.2.1 id).bind fun y=>some (!y) else some false)=some (decide (t.1=2/\(t.2.1,id) ∉ l.2)):=by
 rw[I];by_cases h1:t.1=2<;>by_cases J:(t.2.1,id) ∈ l.2<;>simp[h1,J]
theorem QkY {l:TL} (hl:okL l) {c:List TCoin} (hc:Zv c=0) {t:TX} (ht:okT t) (id h:Int):QaW l c t id h=some (Qht l c t id h):=by
 have hB:BIG=4611686018427387904:=rfl
 have hcl:=(YK hc).1
 have hspl:(mSp c t).length<=c.length:=List.length_filter_le _ c
 unfold QaW Qht;rw[QeT hc t (by have:=ht.li;omega),aLc]
 by_cases h1:(mSp c t).length=t.2.2.1.length
 ·simp only[h1,decide_true,Bool.not_true,aLC,if_true]
  rw[Qj0 (mSp c t) (mC1 l id h) _ (fun i hi=>?_) (by rw[<-h1];simp only[dge,aLC])]
  ·by_cases J:code (fun _=>mC1 l id h) (mSp c t)=0
   ·rw[if_pos J,if_pos J,QhE (l:=l) t id (QaN l) (Qo6 hl _ _),aLc,(Qo3 _ (by omega)).2,(QnD t ht.b.outs).2]
    unfold QmY;by_cases I:t.1=2/\(t.2.1,id) ∉ l.2
    ·rw[aLE I,if_pos I];rfl
    ·rw[aLD I,if_neg I]
     simp only[aLC,aLc];by_cases U:IntKind.wrap .i64 (mSum (mSp c t) - QdJ t.2.2.2)<0
     ·rw[aLE U,if_pos U];rfl
     ·rw[aLD U,if_neg U];rfl
   ·rw[if_neg J,if_neg J]
  ·have hr:(mSp c t)[i].2.1.2.1.length<BIG:=by have:=YP hc _ (Qiw (aLl hi));omega
   have hi2:i<t.2.2.1.length:=by omega
   simp only[dlt hi2,Qb _ i hi,Qa _ i _ hi,aLB,QsN,Qtc hl _ hr,aLc,wsucc hi (by omega)]
   unfold mC1;cases QhJ (mSp c t)[i] h
   ·rfl
   ·by_cases I:mMet l (mSp c t)[i].2.1.2 id h=0
    ·rw[aLE I];simp[I]
    ·rw[aLD I];simp[I]
 ·simp only[h1,decide_false,Bool.not_false,aLB,if_false]
theorem QkN {l:TL} (hl:mLF l=0) {c:List TCoin} (U:Zv c=0) {t:TX} (ht:mTxF t=0) {h:Int} (hh:mIn h 0 999=true):QcN l c t h=some ((mChk l c t h).2,if (mChk l c t h).2=0 then (mChk l c t h).1 else 0):=by
 have hB:BIG=4611686018427387904:=rfl
 have I:=Qdb hl
 have hcl:=(YK U).1
 unfold QcN mChk;rw[QaY l (by have:=I.n1;omega) (by have:=I.n2;omega),QeR c (by omega) (fun x hx=>by have:=YP U x hx;omega),Qcz t (J0 ht).b,Qb9,QmF ht]
 simp only[hl,U,ht,hh,decide_true,Bool.not_true,aLC,aLc];by_cases h1:(Qp t).length<=300
 ·rw[if_pos h1,if_pos h1]
  simp only[decide_true,Bool.not_true,aLC];rw[Qjl _ (by have:=I.n1;omega),aLc]
  show (bif decide (mId l (Qp t)=0) then some ((4:Int),(0:Int)) else _)=_
  by_cases h2:mId l (Qp t)=0
  ·rw[aLE h2,if_pos h2];rfl
  ·rw[aLD h2,if_neg h2,aLC]
   show ((QaW l c t (mId l (Qp t)) h).bind _)=_
   rw[QkY I U (J0 ht),aLc];by_cases J:(Qht l c t (mId l (Qp t)) h).2=0
   ·rw[aLE J,if_pos J,J];rfl
   ·rw[aLD J,if_neg J];rfl
 ·rw[if_neg h1,if_neg h1];rfl
theorem Qtf (l:List (List UInt8)) (x:List UInt8):idxF (fun a=>decide (x=a)) l=idxF (fun a=>decide (a=x)) l:=by
 congr 1
 funext a
 exact decide_eq_decide.2 ⟨Eq.symm,Eq.symm⟩
theorem QtJ {α:Type} (p:α->Bool) (l:List α):-1<=idxF p l/\idxF p l<l.length:=by
 cases h:l.any p with
 | false=>
  have h1:=(Qk8 p l).1 ((Qga p l).2 h)
  rw[h1];omega
 | true=>
  obtain⟨k,hk,e,_⟩:=Qc8 h;rw[e];omega
theorem QtY {l:TL} (I:okL l) (s:List UInt8):Qah l s=some (mId l s):=by
 unfold Qah mId;have h1:=I.n1
 rw[Qjn _ (by unfold BIG;omega),aLc,Qtf]
 have:=QtJ (fun a=>decide (a=s)) l.1
 rw[QY (by omega) (by omega)]
theorem Qlj {l:TL} (hl:okL l) {c:List TCoin} (U:Zv c=0) {t:TX} (ht:okT t) {h:Int} (hh:mIn h 0 999=true):Jf l c t h=some (mChk l c t h):=by
 have hB:BIG=4611686018427387904:=rfl
 have hcl:=(YK U).1
 have hspl:(mSp c t).length<=c.length:=List.length_filter_le _ c
 unfold Jf mChk;rw[Qh2 ht,aLc];by_cases h1:(Qp t).length<=300
 ·rw[if_pos h1,if_pos h1]
  simp only[decide_true,Bool.not_true,aLC];rw[QtY hl,aLc];by_cases J:mId l (Qp t)=0
  ·rw[aLE J,if_pos J];rfl
  ·rw[aLD J,if_neg J,aLC,QeF U t ht,aLc]
   generalize mId l (Qp t)=id;unfold Qht;by_cases I:(mSp c t).length=t.2.2.1.length
   ·rw[if_pos I,if_pos I]
    simp only[decide_true,Bool.not_true,aLC];rw[Qj0 (mSp c t) (mC1 l id h) _ (fun i hi=>?_) (by simp only[dge,aLC])]
    ·by_cases J:code (fun _=>mC1 l id h) (mSp c t)=0
     ·rw[if_pos J,if_pos J,(Qo3 _ (by omega)).1,(QnD t ht.b.outs).1,aLc,aLc,QhE (l:=l) t id (ZP l) (QlY hl _ _),aLc]
      unfold QmY;by_cases I:t.1=2/\(t.2.1,id) ∉ l.2
      ·rw[aLE I,if_pos I];rfl
      ·rw[aLD I,if_neg I]
       simp only[aLC,aLc];by_cases h4:IntKind.wrap .i64 (mSum (mSp c t) - QdJ t.2.2.2)<0
       ·rw[aLE h4,if_pos h4];rfl
       ·rw[aLD h4,if_neg h4];rfl
     ·rw[if_neg J,if_neg J]
    ·have hx:=(YK U).2 _ (Qiw (aLl hi))
     have hr:(mSp c t)[i].2.1.2.1.length<BIG:=by have:=YP U _ (Qiw (aLl hi));omega
     simp only[dlt hi,Qb _ i hi,Qa _ i _ hi,aLB,QrT _ h (QE.2 hx.height) hh,Qri hl _ hr,aLc,wsucc hi (by omega)]
     unfold mC1;cases QhJ (mSp c t)[i] h
     ·rfl
     ·by_cases I:mMet l (mSp c t)[i].2.1.2 id h=0
      ·rw[aLE I];simp[I]
      ·rw[aLD I];simp[I]
   ·rw[if_neg I,if_neg I];rfl
 ·rw[if_neg h1,if_neg h1];rfl
end GL
end Go.Dx
set_option maxHeartbeats 2000000
namespace Go.Dx
theorem Qr2 {α:Type} (l:List α) (d:α) (p:α->Bool) (f:List α×Int×Int->Option ((List α×Int×Int)⊕(List α×Int)))
  (hs:∀(X:List α) (j i:Nat) (h:i<X.length),X.length=l.length->j<=i->f (X,(j:Int),(i:Int))=some (.inl (if p X[i] then (X,(j:Int),((i+1:Nat):Int)) else (X.set j X[i],((j+1:Nat):Int),((i+1:Nat):Int)))))
  (he:∀(X:List α) (j:Nat),X.length=l.length->f (X,(j:Int),(l.length:Int))=some (.inr (X,(j:Int)))) :
  ∀(k j i:Nat) (X:List α),i+k=l.length->j<=i->X.length=l.length->X.take j=(l.take i).filter (fun a=>!p a)->X.drop i=l.drop i->
   ∃(X':List α) (j':Nat),Qc f (X,(j:Int),(i:Int))=some (X',(j':Int))/\X'.length=l.length/\j'<=l.length/\X'.take j'=l.filter (fun a=>!p a):=by
 intro k;induction k with
 | zero=>
  intro j i X hi hj I ht hd;obtain rfl:i=l.length:=by omega
  exact⟨X,j,Qh (he X j I),I,hj,by rw[ht,List.take_length]⟩
 | succ k ih=>
  intro j i X hi hj I ht hd;have h:i<X.length:=by omega
  have h':i<l.length:=by omega
  have hx:X[i]=l[i]:=by
   rw[aLr h,aLr h'] at hd;exact (List.cons.inj hd).1
  have J:X.drop (i+1)=l.drop (i+1):=by
   rw[<-List.drop_drop,<-List.drop_drop,hd]
  have U:(l.take (i+1)).filter (fun a=>!p a)=(l.take i).filter (fun a=>!p a)++[l[i]].filter (fun a=>!p a):=by
   rw[List.take_succ_eq_append_getElem h',List.filter_append]
  rw[Qv (hs X j i h I hj)];rw[hx];cases hp:p l[i] with
  | true=>
   rw[if_pos rfl];refine ih j (i+1) X (by omega) (by omega) I ?_ J
   rw[U,ht];simp[hp]
  | false=>
   rw[if_neg (by simp)]
   refine ih (j+1) (i+1) (X.set j l[i]) (by omega) (by omega) (by simpa using I) ?_ ?_
   ·rw[U,<-ht]
    have hj2:j<(X.set j l[i]).length:=by rw[List.length_set];omega
    rw[List.take_succ_eq_append_getElem hj2,List.take_set_of_le (Nat.le_refl _)];simp[hp]
   ·rw[List.drop_set_of_lt (by omega),J]
theorem Qr4 {α β:Type} (l:List α) (p:α->Bool) (k:Nat) (hk:k<l.length) (I:(l.take (k+1)).filter (fun a=>!p a)=l.take k) (f:List α×Int×Int->Option ((List α×Int×Int)⊕(List α×Int))) (G:List α×Int->Option β) (r:β)
  (hs:∀(X:List α) (j i:Nat) (h:i<X.length),X.length=l.length->j<=i->f (X,(j:Int),(i:Int))=some (.inl (if p X[i] then (X,(j:Int),((i+1:Nat):Int)) else (X.set j X[i],((j+1:Nat):Int),((i+1:Nat):Int)))))
  (he:∀(X:List α) (j:Nat),X.length=l.length->f (X,(j:Int),(l.length:Int))=some (.inr (X,(j:Int))))
  (hG:∀(J:List α) (U:Nat),J.length=l.length->U<=l.length->J.take U=l.filter (fun a=>!p a)->G (J,(U:Int))=some r) :
  (Qc f (l,(k:Int),((k+1:Nat):Int))).bind G=some r:=by
 obtain⟨J,U,e1,e2,e3,e4⟩:=Qr2 l l[k] p f hs he (l.length - (k+1)) k (k+1) l (by omega) (by omega) rfl I.symm rfl
 rw[e1,aLc];exact hG J U e2 e3 e4
namespace GL
abbrev TMb:=Int×Int×Int
theorem Qgz (l:List TMb) (I:l.length<BIG) (p:TMb->Bool) (f:TMb->Option Bool) (J:∀a,a ∈ l->f a=some (p a)):QO l f=some (idxF p l):=by
 unfold QO;refine Jl l p _ (fun i h=>?_) (by simp only[dge,aLC])
 simp only[dlt h,Qb l i h,Qa l i _ h,aLB,J _ (aLl h),aLc,wsucc h I];cases p l[i]<;>rfl
theorem QjX (l:List TMb) (hl:l.length<BIG) (p:TMb->Bool) (f:TMb->Option Bool) (hf:∀a,f a=some (p a)):Q3 l f=some (l.filter (fun a=>!p a)):=by
 unfold Q3;rw[Qgz l hl p f (fun a _=>hf a),aLc]
 cases I:l.any p with
 | false=>
  have h1:idxF p l = -1:=(Qk8 p l).1 ((Qga p l).2 I)
  rw[h1];simp only[decide_true,aLB];congr 1;refine (List.filter_eq_self.2 fun a ha=>?_).symm
  rw[List.any_eq_false] at I;simpa using I a ha
 | true=>
  obtain⟨k,hk,h1,h2,h3⟩:=Qc8 I;rw[h1,aLD (by omega:¬(k:Int) = -1),aLC,wsucc hk hl]
  have hpre:(l.take (k+1)).filter (fun a=>!p a)=l.take k:=by
   rw[List.take_succ_eq_append_getElem hk,List.filter_append];have e1:(l.take k).filter (fun a=>!p a)=l.take k:=List.filter_eq_self.2 fun a ha=>by
    obtain⟨j,hj,rfl⟩:=List.mem_iff_getElem.1 ha;rw[aLn] at hj;simp only[List.getElem_take];rw[h3 j (by omega)];rfl
   rw[e1];simp[h2]
  refine Qr4 l p k hk hpre _ _ _ (fun X j i h hX hj=>?_) (fun X j hX=>by rw[<-hX];simp only[dge,aLC]) (fun J U e2 e3 e4=>?_)
  ·have e1:decide ((i:Int)<(X.length:Int))=true:=dlt h
   simp only[e1,Qb X i h,Qa X i _ h,aLB,hf,aLc,wsucc h (by omega:X.length<BIG),Qb X j (by omega),wsucc (by omega:j<X.length) (by omega:X.length<BIG)]
   cases p X[i] with
   | true=>rfl
   | false=>simp
  have c1:QR (U:Int) (J.length:Int) J=true:=by unfold QR;simp;omega
  have hcl:clr (s:=.prod (.int .i64) (.prod (.int .i64) (.int .i64))) (U:Int) (J.length:Int) J=J.take U++(List.replicate (J.length - U) ((0,0,0):TMb)++[]):=by
   unfold clr;simp[Sh.dflt]
  have c2:QR 0 (U:Int) (clr (s:=.prod (.int .i64) (.prod (.int .i64) (.int .i64))) (U:Int) (J.length:Int) J)=true:=by
   unfold QR;rw[hcl];simp;omega
  rw[c1,c2,aLB,aLB,hcl];simp only[Int.sub_zero,Int.toNat_natCast,Int.toNat_zero,List.drop_zero];rw[List.take_append_of_le_length (by rw[aLn];omega),List.take_take,Nat.min_self,e4]
theorem Qig (l:List TMb) (I:l.length<BIG) (p:TMb->Bool) (f:TMb->Option Bool) (J:∀a,a ∈ l->f a=some (p a)):QW l f=some (l.any p):=by
 unfold QW;rw[Qgz l I p f J,aLc,ZH]
def J4 (l:List TMb):Prop:=l.Pairwise fun a b=>a.1<b.1
theorem QfX {l:List TMb} (h:J4 l) {i j:Nat} (I:i<j) (hj:j<l.length):(l[i]'(by omega)).1<l[j].1:=List.pairwise_iff_getElem.1 h i j (by omega) hj I
theorem QiC {l:List TMb} (hr:J4 l) (hl:l.length<=1000000) (r:Int):∃k:Nat,k<=l.length/\YB l r=some ((k:Int),l.any fun x=>decide (x.1=r))/\((l.any fun x=>decide (x.1=r))=true->∃h:k<l.length,(l[k]'h).1=r)/\(∀i (h:i<l.length),i<k->l[i].1<r)/\(∀i (h:i<l.length),k<=i->r<=l[i].1):=by
 obtain⟨k,h1,h2,h3⟩:=QjA l.length (fun i=>decide ((List.getD l i (0,(0,0))).1<r)) (fun i j hij hj hp=>by
  rcases Nat.lt_or_ge i j with h | h
  ·have hi:i<l.length:=by omega
   have:=QfX hr h hj
   have e1:List.getD l i (0,(0,0))=l[i]:=by rw[aLk,aLf hi];rfl
   have e2:List.getD l j (0,(0,0))=l[j]:=by rw[aLk,aLf hj];rfl
   simp only[e1,e2,aLF] at hp ⊢;omega
  ·obtain rfl:i=j:=by omega
   exact hp)
 have J:∀i (hi:i<l.length),List.getD l i (0,(0,0))=l[i]:=fun i hi=>by rw[aLk,aLf hi];rfl
 have g1:∀i (h:i<l.length),i<k->l[i].1<r:=fun i h hk=>by have:=h2 i hk;rw[J i h] at this;simpa using this
 have g2:∀i (h:i<l.length),k<=i->r<=l[i].1:=fun i h hk=>by have:=h3 i hk h;rw[J i h] at this;simpa using this
 have U:(l.any fun x=>decide (x.1=r))=decide (∃h:k<l.length,(l[k]'h).1=r):=by
  rw[Bool.eq_iff_iff,List.any_eq_true,aLF];constructor
  ·rintro ⟨x,hx,he⟩
   obtain⟨i,hi,rfl⟩:=List.mem_iff_getElem.1 hx;have he:l[i].1=r:=aLG he
   have hik:¬i<k:=fun h=>by have:=g1 i hi h;omega
   refine⟨by omega,?_⟩
   rcases Nat.lt_or_ge k i with h | h
   ·have h4:=QfX hr h hi
    have h5:=g2 k (by omega) (Nat.le_refl _)
    omega
   ·obtain rfl:i=k:=by omega
    exact he
  ·rintro ⟨h,he⟩
   exact⟨_,aLl h,aLE he⟩
 refine⟨k,h1,?_,fun h=>by rw[U] at h;exact aLG h,g1,g2⟩
 rw[U];unfold YB QZ;have hcmp:∀(x:TMb),((Jy x r).bind fun r7=>some r7)=some (mCmp x.1 r):=fun x=>by
  unfold Jy;rw[Qfm];rfl
 simp only[hcmp,aLc];have hneg:∀a b:Int,decide (mCmp a b<0)=decide (a<b):=fun a b=>by
  unfold mCmp;refine decide_eq_decide.2 ?_;split
  ·simp;omega
  ·split<;>simp<;>omega
 have hzero:∀a b:Int,decide (mCmp a b=0)=decide (a=b):=fun a b=>by
  unfold mCmp;refine decide_eq_decide.2 ?_;split
  ·simp;omega
  ·split
   ·simp;omega
   ·simp;omega
 rw[Qo0 l.length k h1 _ (fun lo hi hlo hhi=>?_) (fun lo=>by simp only[Int.lt_irrefl,decide_false,aLC]),aLc]
 ·by_cases hk:k<l.length
  ·have hd:List.getD l (Int.toNat (k:Int)) (0,(0,0))=l[k]:=by rw[Int.toNat_natCast];exact J k hk
   rw[dlt hk,aLB,Qb l k hk,aLB];show some ((k:Int),decide (mCmp (List.getD l (Int.toNat (k:Int)) (0,(0,0))).1 r=0))=_
   rw[hd,hzero];congr 2;exact decide_eq_decide.2 ⟨fun h=>⟨hk,h⟩,fun ⟨_,h⟩=>h⟩
  ·have hf:decide (∃h:k<l.length,(l[k]'h).1=r)=false:=aLD (fun ⟨h,_⟩=>hk h)
   rw[dge' (by omega),aLC,aLc,hf];rfl
 ·have hm:=QrA (lo:=lo) (hi:=hi) (by omega)
  have I:(lo+hi) / 2<l.length:=by omega
  simp only[hm];rw[aLE (by omega),aLB,Qb l _ I,aLB]
  have hd:List.getD l (Int.toNat (((lo+hi) / 2:Nat):Int)) (0,(0,0))=l[(lo+hi) / 2]:=by rw[Int.toNat_natCast];exact J _ I
  rw[hd,hneg,wsucc I (by unfold BIG;omega)]
  by_cases hmk:(lo+hi) / 2<k
  ·rw[aLE (g1 _ I hmk),if_pos hmk];rfl
  ·have:=g2 _ I (by omega)
   rw[aLD (by omega),if_neg hmk];rfl
theorem QgN (l:List TMb) (I:l.length<=LIM):QF l=some l:=by
 unfold QF;rw[QgM I,aLB];cases l with
 | nil=>exact Qki _
 | cons a l=>rfl
def mOff (l:List TMb) (t:TX):List TMb:=l.filter fun x=>!(decide (t.1=2)&&decide (x.1=t.2.1))&&!decide (x.2 ∈ t.2.2.1)
def Qhw (o:List TMb) (x:TMb):List TMb×Int:=if o.any (fun y=>decide (y.1=x.1) || decide (y.2=x.2)) then ([],7) else if 8<=o.length then ([],2) else (o.takeWhile (fun y=>decide (y.1<x.1))++[x]++o.dropWhile (fun y=>decide (y.1<x.1)),0)
def Qce (l:List TMb) (t:TX) (id:Int):List TMb×Int:=if t.1=2/\(l.any fun x=>decide (x.1=t.2.1))=false then ([],4) else if t.1=1 then Qhw (mOff l t) (t.2.1,(id,0)) else (mOff l t,0)
theorem Qi8 (l:List TMb) (I:l.length<BIG) (k:Int):QbL l k=some (idxF (fun x=>decide (x.1=k)) l):=by
 unfold QbL;refine Jl l _ _ (fun i h=>?_) (by simp only[dge,aLC])
 simp only[dlt h,Qb l i h,Qa l i _ h,aLB,wsucc h I];cases decide (l[i].1=k)<;>rfl
theorem QgJ {l:List TMb} {r:Int} {k:Nat} (hk:k<=l.length) (h1:∀i (h:i<l.length),i<k->l[i].1<r) (h2:∀i (h:i<l.length),k<=i->r<=l[i].1):l.takeWhile (fun y=>decide (y.1<r))=l.take k/\l.dropWhile (fun y=>decide (y.1<r))=l.drop k:=by
 have I:∀a,a ∈ l.take k->decide (a.1<r)=true:=fun a ha=>by
  obtain⟨i,hi,rfl⟩:=List.mem_iff_getElem.1 ha;rw[aLn] at hi;simp only[List.getElem_take];exact aLE (h1 i (by omega) (by omega))
 have e:l=l.take k++l.drop k:=(List.take_append_drop k l).symm
 have hd:∀a rest,l.drop k=a::rest->decide (a.1<r)=false:=fun a rest h=>by
  have J:k<l.length:=by
   rcases Nat.lt_or_ge k l.length with U | U
   ·exact U
   ·rw[List.drop_eq_nil_of_le U] at h;cases h
  rw[aLr J] at h;have:=h2 k J (Nat.le_refl _)
  rw[<-(List.cons.inj h).1];exact aLD (by omega)
 constructor
 ·conv=>lhs;rw[e]
  rw[List.takeWhile_append_of_pos I];cases hdr:l.drop k with
  | nil=>simp
  | cons a rest=>rw[List.takeWhile_cons,hd a rest hdr];simp
 ·conv=>lhs;rw[e]
  rw[List.dropWhile_append_of_pos I];cases hdr:l.drop k with
  | nil=>simp
  | cons a rest=>rw[List.dropWhile_cons,hd a rest hdr];simp
theorem QjC {l:List TMb} (h:J4 l) (p:TMb->Bool):J4 (l.filter p):=List.Pairwise.sublist List.filter_sublist h
theorem QlD {o:List TMb} (U:J4 o) (r:Int):∃k,k<=o.length/\(∀i (h:i<o.length),i<k->o[i].1<r)/\(∀i (h:i<o.length),k<=i->r<=o[i].1):=by
 obtain⟨k,h1,h2,h3⟩:=QjA o.length (fun i=>decide ((List.getD o i (0,(0,0))).1<r)) (fun i j hij hj J=>by
  rcases Nat.lt_or_ge i j with h | h
  ·have hi:i<o.length:=by omega
   have:=QfX U h hj
   have e1:List.getD o i (0,(0,0))=o[i]:=by rw[aLk,aLf hi];rfl
   have e2:List.getD o j (0,(0,0))=o[j]:=by rw[aLk,aLf hj];rfl
   simp only[e1,e2,aLF] at J ⊢;omega
  ·obtain rfl:i=j:=by omega
   exact J)
 have I:∀i (hi:i<o.length),List.getD o i (0,(0,0))=o[i]:=fun i hi=>by rw[aLk,aLf hi];rfl
 exact⟨k,h1,fun i h hk=>by have:=h2 i hk;rw[I i h] at this;simpa using this,fun i h hk=>by have:=h3 i hk h;rw[I i h] at this;simpa using this⟩
theorem QmJ {o:List TMb} (hr:J4 o) (hl:o.length<=1000000) (x:TMb):Qbz o x=some (Qhw o x):=by
 have hB:BIG=4611686018427387904:=rfl
 have hL:LIM=1073741824:=rfl
 unfold Qbz Qhw;rw[Qi8 _ (by omega),aLc,ZH]
 have U:(o.any fun y=>decide (y.1=x.1) || decide (y.2=x.2))=((o.any fun y=>decide (y.1=x.1)) || o.any fun y=>decide (y.2=x.2)):=by
  rw[Bool.eq_iff_iff];simp only[List.any_eq_true,Bool.or_eq_true];constructor
  ·rintro ⟨y,J,h | h⟩
   ·exact .inl ⟨y,J,h⟩
   ·exact .inr ⟨y,J,h⟩
  ·rintro (⟨y,J,h⟩ | ⟨y,J,h⟩)
   ·exact⟨y,J,.inl h⟩
   ·exact⟨y,J,.inr h⟩
 rw[U];cases ha:o.any fun y=>decide (y.1=x.1) with
 | true=>rfl
 | false=>
  rw[aLC,Bool.false_or];obtain⟨k,k1,k2,k3⟩:=QlD hr x.1;have loop:∀(f:Int×Int->Option ((Int×Int)⊕(Int⊕(List TMb×Int)))),
    (∀(i:Nat) (hi:i<o.length) (a:Int),f (a,(i:Int))=some (if decide (o[i].2=x.2) then .inr (.inr ([],7)) else .inl (if o[i].1<x.1 then ((i+1:Nat):Int) else a,((i+1:Nat):Int))))->(∀a,f (a,(o.length:Int))=some (.inr (.inl a)))->
    Qc f (0,0)=some (if o.any (fun y=>decide (y.2=x.2)) then .inr ([],7) else .inl (k:Int)):=by
   intro f hs he;have key:∀(d i:Nat),i+d=o.length->Qc f (((min i k:Nat):Int),(i:Int))=some (if (o.drop i).any (fun y=>decide (y.2=x.2)) then .inr ([],7) else .inl (k:Int)):=by
    intro d;induction d with
    | zero=>
     intro i hi;obtain rfl:i=o.length:=by omega
     rw[Qh (he _),List.drop_length,Nat.min_eq_right k1];rfl
    | succ d ih=>
     intro i hi;have I:i<o.length:=by omega
     have h1:=hs i I ((min i k:Nat):Int)
     rw[aLr I,List.any_cons];cases hd:decide (o[i].2=x.2) with
     | true=>rw[hd,if_pos rfl] at h1;rw[Qh h1];rfl
     | false=>
      rw[hd,if_neg (by simp)] at h1
      rw[Qv h1,Bool.false_or];have e:(if o[i].1<x.1 then ((i+1:Nat):Int) else ((min i k:Nat):Int))=((min (i+1) k:Nat):Int):=by
       by_cases hik:i<k
       ·rw[if_pos (k2 i I hik)];omega
       ·have:=k3 i I (by omega)
        rw[if_neg (by omega)];omega
      rw[e];exact ih (i+1) (by omega)
   have:=key o.length 0 (by omega)
   rw[List.drop_zero,Nat.zero_min] at this;exact this
  rw[loop _ (fun i hi a=>by
   simp only[dlt hi,Qb _ i hi,Qa _ i _ hi,aLB,QhP,wsucc hi (by omega)]
   cases decide (o[i].2=x.2)
   ·by_cases h:o[i].1<x.1
    ·rw[aLE h];simp[h]
    ·rw[aLD h];simp[h]
   ·rfl) (fun a=>by simp only[dge,aLC]),aLc]
  cases hb:o.any fun y=>decide (y.2=x.2) with
  | true=>rfl
  | false=>
   simp only[Bool.false_eq_true,if_false,Sum.elim_inl];by_cases h8:8<=o.length
   ·rw[aLE (by omega),if_pos h8];rfl
   ·obtain⟨w1,w2⟩:=QgJ k1 k2 k3
    rw[aLD (by omega),if_neg h8,aLC,w1,w2]
    have c1:QR 0 (k:Int) o=true:=by unfold QR;simp;omega
    have c2:QR (k:Int) (o.length:Int) o=true:=by unfold QR;simp;omega
    have e1:cut 0 (k:Int) o=o.take k:=by unfold cut;simp
    have e2:cut (k:Int) (o.length:Int) o=o.drop k:=by
     unfold cut;rw[Int.toNat_natCast];exact List.take_of_length_le (by rw[aLz];omega)
    rw[c1,aLB,e1,Qe,Qe,c2,aLB,e2,Qe]
    ·rfl
    all_goals (simp only[aLo,aLi,aLh,aLj,aLn,aLz];omega)
theorem Qk3 (l:List TMb) (t:TX):(mOff l t).length<=l.length:=List.length_filter_le _ l
theorem Qmt {l:List TMb} (hm:J4 l/\l.length<=8) {t:TX} (J:t.2.2.1.length<=1000000) (id:Int):Qdo l t id=some (Qce l t id):=by
 have hB:BIG=4611686018427387904:=rfl
 have hL:LIM=1073741824:=rfl
 obtain⟨U,hl⟩:=hm;unfold Qdo Qce;have e0:(bif decide (t.1=2) then (QbL l t.2.1).bind fun y=>some (decide (y<0)) else some false)=some (decide (t.1=2/\(l.any fun x=>decide (x.1=t.2.1))=false)):=by
  rw[Qi8 _ (by omega),aLc,QrF]
  by_cases h1:t.1=2
  ·cases l.any fun x=>decide (x.1=t.2.1)<;>simp[h1]
  ·simp[h1]
 rw[e0,aLc];by_cases h1:t.1=2/\(l.any fun x=>decide (x.1=t.2.1))=false
 ·rw[aLE h1,if_pos h1];rfl
 ·rw[aLD h1,if_neg h1,aLC]
  rw[Zu (σ:=List TMb) l (fun acc a=>if (!(decide (t.1=2)&&decide (a.1=t.2.1))&&!decide (a.2 ∈ t.2.2.1)) then acc++[a] else acc) (fun t i=>(t,i)) (fun t=>t) (fun t i=>t.length<=i) _ (fun i hi x hx=>by
    refine⟨?_,by split<;>(try simp only[aLi,aLh,aLj])<;>omega⟩
    simp only[dlt hi,Qb _ i hi,Qa _ i _ hi,aLB,QcY t.2.2.1 (by omega),aLc,wsucc hi (by omega)]
    rw[Qe (by simp only[aLh,aLj];omega)]
    cases decide (t.1=2)<;>cases decide (l[i].1=t.2.1)<;>cases decide (l[i].2 ∈ t.2.2.1)<;>rfl) (fun t J=>by simp only[dge,aLC]) [] (Nat.le_refl _),aLc,foldl_filter,aLx]
  show (bif !decide (t.1=1) then some (mOff l t,(0:Int)) else (Qbz (mOff l t) (t.2.1,(id,0))).bind fun y=>some (y.1,y.2))=_
  by_cases I:t.1=1
  ·have:=Qk3 l t
   rw[aLE I,if_pos I,Bool.not_true,aLC,QmJ (o:=mOff l t) (QjC U _) (by omega)];rfl
  ·rw[aLD I,if_neg I];rfl
theorem filter_one {l:List TMb} {p:TMb->Bool} {k:Nat} (hk:k<l.length) (J:p l[k]=false) (h1:∀i (h:i<l.length),i ≠ k->p l[i]=true):l.filter p=l.take k++l.drop (k+1):=by
 have e:l=l.take k++l[k]::l.drop (k+1):=by rw[<-aLr hk,List.take_append_drop]
 conv=>lhs;rw[e]
 rw[List.filter_append,List.filter_cons,J];rw[List.filter_eq_self.2 (fun a I=>?_),if_neg (by simp),List.filter_eq_self.2 (fun a I=>?_)]
 ·obtain⟨i,hi,rfl⟩:=List.mem_iff_getElem.1 I
  rw[aLz] at hi;rw[List.getElem_drop];exact h1 _ (by omega) (by omega)
 ·obtain⟨i,hi,rfl⟩:=List.mem_iff_getElem.1 I
  rw[aLn] at hi;rw[List.getElem_take];exact h1 _ (by omega) (by omega)
theorem QiM {l:List TMb} (hm:J4 l/\l.length<=8) {t:TX} (ht:t.2.2.1.length<=1000000) {id:Int} (hid:mIn id 1 60=true):Qaa l t id=some (Qce l t id):=by
 have hB:BIG=4611686018427387904:=rfl
 have hL:LIM=1073741824:=rfl
 obtain⟨hr,hl⟩:=hm;unfold Qaa Qce;rw[Qde,hid,aLc,QgN _ (by omega)]
 simp only[Bool.not_true,aLC,aLc];have first:∀G:(List TMb⊕(List TMb×Int))->Option (List TMb×Int),((bif decide (t.1=2) then (YB l t.2.1).bind fun (I:Int×Bool)=>bif !I.2 then some (Sum.inr (([]:List TMb),(4:Int))) else (QC l I.1 (IntKind.wrap .i64 (I.1+1))).bind fun J=>some (Sum.inl J) else some (Sum.inl l):Option (List TMb⊕(List TMb×Int))).bind G) =
   if t.1=2/\(l.any fun x=>decide (x.1=t.2.1))=false then G (.inr ([],4)) else G (.inl (l.filter fun x=>!(decide (t.1=2)&&decide (x.1=t.2.1)))):=fun G=>by
  by_cases h1:t.1=2
  ·obtain⟨k,k1,k2,k3,k4,k5⟩:=QiC hr (by omega) t.2.1
   rw[aLE h1,aLB,k2,aLc];cases ha:l.any fun x=>decide (x.1=t.2.1) with
   | false=>rw[if_pos ⟨h1,rfl⟩];rfl
   | true=>
    obtain⟨hk,he⟩:=k3 ha;rw[if_neg (fun h=>by cases h.2)]
    have hdel:QC l (k:Int) (IntKind.wrap .i64 ((k:Int)+1))=some (l.filter fun x=>!(true&&decide (x.1=t.2.1))):=by
     unfold QC delS;rw[wsucc hk (by omega),aLE (by omega),aLB]
     rw[filter_one (l:=l) (k:=k) hk (by rw[he];simp) (fun i hi hik=>by
      rcases Nat.lt_or_ge i k with h | h
      ·have:=QfX hr h hk
       have:¬l[i].1=t.2.1:=by omega
       simp[this]
      ·have:=QfX hr (show k<i by omega) hi
       have:¬l[i].1=t.2.1:=by omega
       simp[this])]
     simp
    show (Option.bind ((QC l (k:Int) (IntKind.wrap .i64 ((k:Int)+1))).bind fun J=>some (Sum.inl J)) G)=_
    rw[hdel];rfl
  ·rw[aLD h1,if_neg (fun h=>h1 h.1)]
   simp only[aLC,aLc,Bool.false_and,Bool.not_false];rw[List.filter_eq_self.2 (fun a _=>rfl)]
 rw[first]
 by_cases h1:t.1=2/\(l.any fun x=>decide (x.1=t.2.1))=false
 ·rw[if_pos h1,if_pos h1];rfl
 ·rw[if_neg h1,if_neg h1,Sum.elim_inl]
  have hfl:=List.length_filter_le (fun x:TMb=>!(decide (t.1=2)&&decide (x.1=t.2.1))) l
  rw[QjX _ (by omega) (fun x=>decide (x.2 ∈ t.2.2.1)) _ (fun a=>by unfold QaL;rw[Qg7 _ (by omega)];rfl),aLc,List.filter_filter]
  have eo:(l.filter fun a=>(!decide (a.2 ∈ t.2.2.1))&&!(decide (t.1=2)&&decide (a.1=t.2.1)))=mOff l t:=by
   unfold mOff;congr 1
   funext a
   rw[Bool.and_comm]
  rw[eo];by_cases h2:t.1=1
  ·rw[aLE h2,if_pos h2,Bool.not_true,aLC]
   have hol:=Qk3 l t
   have U:J4 (mOff l t):=QjC hr _
   obtain⟨k,k1,k2,k3,k4,k5⟩:=QiC U (by omega) t.2.1
   rw[k2,aLc];rw[Qig _ (by omega) (fun y=>decide (y.2=(id,0))) _ (fun a _=>by unfold QaX;rw[QhP];rfl)]
   unfold Qhw;have U:((mOff l t).any fun y=>decide (y.1=t.2.1) || decide (y.2=(id,0)))=(((mOff l t).any fun y=>decide (y.1=t.2.1)) || (mOff l t).any fun y=>decide (y.2=(id,0))):=by
    rw[Bool.eq_iff_iff];simp only[List.any_eq_true,Bool.or_eq_true];constructor
    ·rintro ⟨y,hy,h | h⟩
     ·exact .inl ⟨y,hy,h⟩
     ·exact .inr ⟨y,hy,h⟩
    ·rintro (⟨y,hy,h⟩ | ⟨y,hy,h⟩)
     ·exact⟨y,hy,.inl h⟩
     ·exact⟨y,hy,.inr h⟩
   rw[U];cases ha:(mOff l t).any fun y=>decide (y.1=t.2.1) with
   | true=>rfl
   | false=>
    cases hb:(mOff l t).any fun y=>decide (y.2=(id,0)) with
    | true=>rfl
    | false=>
     simp only[Bool.false_or,aLC,aLc,Bool.false_eq_true,if_false];by_cases h8:8<=(mOff l t).length
     ·rw[aLE (by omega),if_pos h8];rfl
     ·obtain⟨w1,w2⟩:=QgJ k1 k4 k5
      rw[aLD (by omega),if_neg h8,aLC,w1,w2]
      unfold ZA insS;rw[aLE ⟨by omega,by omega,by omega,rfl⟩,aLB,aLc,Int.toNat_natCast]
  ·rw[aLD h2,if_neg h2];rfl
end GL
end Go.Dx
set_option maxHeartbeats 2000000
namespace Go.Dx
namespace GL
theorem Qg9 (l:List Int) (I:l.length<BIG) (x:Int):Zi l x=some (decide (x ∈ l)):=by
 unfold Zi YZ;rw[Jl l (fun a=>decide (x=a)) _ (fun i h=>?_) (by simp only[dge,aLC]),aLc,ZH,any_eq]
 simp only[dlt h,Qb l i h,Qa l i _ h,aLB,wsucc h I];cases decide (x=l[i])<;>rfl
theorem QmT {l:TL} (I:okL l) {id:Int} (h:(mTI l id).2=0):mIn id 1 60=true:=by
 unfold mTI at h;cases h1:mIn id 1 (l.1.length:Int) with
 | false=>rw[h1] at h;simp at h
 | true=>
  rw[QE] at h1 ⊢;have:=I.n1
  omega
end GL
end Go.Dx
set_option maxHeartbeats 2000000
namespace Go.Dx
namespace GL
end GL
end Go.Dx
set_option maxHeartbeats 2000000
namespace Go.Dx
namespace GL
end GL
end Go.Dx
set_option maxHeartbeats 2000000
namespace Go.Dx
namespace GL
end GL
end Go.Dx
set_option maxHeartbeats 2000000
namespace Go.Dx
namespace GL
theorem Qty {α:Type} (l:List α) (h:l.length<1000000):decide (List.length ([]:List α)+List.length l<=LIM)=true:=by
 simp only[aLj,aLF];unfold LIM;omega
end GL
end Go.Dx
set_option maxHeartbeats 2000000
namespace Go.Dx
namespace GL
theorem Y.of {α:Type} {o:Option α} {a:α} {Q:α->Prop} (h:o=Option.some a) (I:Q a):Y o Q:=⟨a,h,I⟩
theorem QmS (r:TRu) (h:r.1.length<=10):Jq r=some r:=by
 unfold Jq;rw[Qty _ (by omega)];rfl
theorem Qi7 (l:List TCoin) (I:l.length<BIG) (tx:Int):Qdk l tx=some (l.any fun x=>decide (x.1.1=tx)):=by
 unfold Qdk;refine Qhv l _ _ (fun i h=>?_) (by simp only[dge,aLC])
 simp only[dlt h,Qb l i h,Qa l i _ h,aLB,wsucc h I];cases decide (l[i].1.1=tx)<;>rfl
end GL
end Go.Dx
set_option maxHeartbeats 2000000
namespace Go.Dx
namespace GL
structure kLd (l:TL):Prop where
 a:l.1.length<=61
 b:l.2.length<=121
theorem kLd.nil:kLd (([],[]):TL):=⟨by simp,by simp⟩
end GL
end Go.Dx
set_option maxHeartbeats 2000000
namespace Go.Dx
namespace GL
abbrev TBk:=Int×Int×Int×List Int
structure kX (x:TCoin):Prop where
 k:x.2.1.2.1.length<=10
 t:0<=x.1.1/\x.1.1<=100
 a:0<=x.1.2/\x.1.2<=100
structure kXs (l:List TCoin):Prop where
 n:l.length<=41
 x:∀x,x ∈ l->kX x
theorem kXs.nil:kXs []:=⟨by simp,fun x I=>nomatch I⟩
end GL
end Go.Dx
set_option maxHeartbeats 2000000
namespace Go.Dx
namespace GL
theorem QoW {l:List TMb} (hm:J4 l/\l.length<=8) (t:TX) (id:Int):J4 (Qce l t id).1/\(Qce l t id).1.length<=8:=by
 have ho:J4 (mOff l t):=QjC hm.1 _
 have hol:=Qk3 l t
 have nil:J4 []/\([]:List TMb).length<=8:=⟨List.Pairwise.nil,by simp⟩
 unfold Qce;split
 ·exact nil
 ·split
  ·unfold Qhw
   split
   ·exact nil
   ·rename_i J
    split
    ·exact nil
    ·obtain⟨k,k1,k2,k3⟩:=QlD ho t.2.1
     obtain⟨w1,w2⟩:=QgJ k1 k2 k3;have U:∀y,y ∈ mOff l t->y.1 ≠ t.2.1:=fun y hy he=>by
      refine J (List.any_eq_true.2 ⟨y,hy,?_⟩);rw[aLE he];rfl
     show J4 ((mOff l t).takeWhile _++[_]++(mOff l t).dropWhile _)/\((mOff l t).takeWhile _++[_]++(mOff l t).dropWhile _).length<=8
     rw[w1,w2];refine⟨?_,?_⟩
     ·unfold J4
      rw[List.pairwise_append,List.pairwise_append];refine⟨⟨List.Pairwise.sublist (List.take_sublist k _) ho,List.pairwise_singleton _ _,fun a I b hb=>?_⟩,List.Pairwise.sublist (List.drop_sublist k _) ho,fun a I b hb=>?_⟩
      ·rw[aLs.1 hb]
       obtain⟨i,hi,rfl⟩:=List.mem_iff_getElem.1 I;rw[aLn] at hi;rw[List.getElem_take];exact k2 i (by omega) (by omega)
      ·obtain⟨i,hi,rfl⟩:=List.mem_iff_getElem.1 hb
       rw[aLz] at hi;rw[List.getElem_drop];have h1:=k3 (k+i) (by omega) (by omega)
       have h2:=U _ (aLl (show k+i<(mOff l t).length by omega))
       rcases List.mem_append.1 I with I | I
       ·obtain⟨j,hj,rfl⟩:=List.mem_iff_getElem.1 I
        rw[aLn] at hj;rw[List.getElem_take];have:=k2 j (by omega) (by omega)
        omega
       ·rw[aLs.1 I]
        show t.2.1<_
        omega
     ·simp only[aLi,aLh,aLj,aLn,aLz]
      omega
  ·exact⟨ho,by show (mOff l t).length<=8;have:=hm.2;omega⟩
end GL
end Go.Dx
set_option maxHeartbeats 2000000
namespace Go.Dx
namespace GL
end GL
end Go.Dx
set_option maxHeartbeats 2000000
namespace Go.Dx
namespace GL
end GL
end Go.Dx
set_option maxHeartbeats 2000000
namespace Go.Dx
namespace GL
end GL
end Go.Dx
set_option maxHeartbeats 2000000
namespace Go.Dx
namespace GL
end GL
end Go.Dx
set_option maxHeartbeats 2000000
namespace Go.Dx
namespace GL
def mTx7 (l:List Int) (i:Nat) (x:Int):Int:=if mIn x 1 60 then (if x ∈ l.take i then 7 else 0) else 3
def mB7 (b:TBk):Int:=if mIn b.1 0 60&&(mIn b.2.1 1 40&&mIn b.2.2.1 1 999) then (if decide (b.1=0)=decide (b.2.1=1) then (if (6:Int)<(b.2.2.2.length:Int) then 2 else code (mTx7 b.2.2.2) b.2.2.2) else 1) else 3
theorem Qjj {l:List Int} (I:l ≠ []) (h:∀k,k ∈ l->0<=k):cuts 43 (Zd l [43])=l.map Lib.itoa:=by
 unfold Zd;refine JC 43 _ (by simpa using I) fun w hw=>?_
 obtain⟨k,hk,rfl⟩:=List.mem_map.1 hw;exact ZT (h k hk) 43 (by decide)
theorem Qfn (b:TBk) (hb:b.2.2.2.length<BIG):QaE b=some (mB7 b):=by
 unfold QaE mB7;simp only[Zf,Qeq,aLc,beqB];cases mIn b.1 0 60<;>cases mIn b.2.1 1 40<;>cases mIn b.2.2.1 1 999<;>try rfl
 simp only[Bool.not_true,aLC,aLc,Bool.true_and,if_true];by_cases I:decide (b.1=0)=decide (b.2.1=1)
 ·rw[aLE I,if_pos I]
  simp only[Bool.not_true,aLC];by_cases J:(6:Int)<(b.2.2.2.length:Int)
  ·rw[aLE J,if_pos J];rfl
  ·rw[aLD J,if_neg J,aLC]
   rw[Qas b.2.2.2 (mTx7 b.2.2.2) _ (fun i h=>?_) (by simp only[dge,aLC])]
   ·split
    ·rename_i h;rw[h]
    ·rfl
   ·simp only[dlt h,Qb _ i h,Qa _ i _ h,ZR _ i (Nat.le_of_lt h),Y9,aLB,Qde,aLc,wsucc h hb,Qg9 _ (YR hb i)]
    unfold mTx7;cases mIn b.2.2.2[i] 1 60<;>by_cases hm:b.2.2.2[i] ∈ b.2.2.2.take i<;>simp[hm]
 ·rw[aLD I,if_neg I];rfl
structure okB7 (b:TBk):Prop where
 p:0<=b.1/\b.1<=60
 h:1<=b.2.1/\b.2.1<=40
 m:1<=b.2.2.1/\b.2.2.1<=999
 n:b.2.2.2.length<=6
 t:∀x,x ∈ b.2.2.2->1<=x/\x<=60
theorem Qd7 {b:TBk} (h:mB7 b=0):okB7 b:=by
 unfold mB7 at h;cases h1:mIn b.1 0 60&&(mIn b.2.1 1 40&&mIn b.2.2.1 1 999) with
 | false=>rw[h1] at h;simp at h
 | true=>
  rw[h1,if_pos rfl] at h;rw[aLg,aLg,QE,QE,QE] at h1;by_cases J:decide (b.1=0)=decide (b.2.1=1)
  ·rw[if_pos J] at h
   by_cases U:(6:Int)<(b.2.2.2.length:Int)
   ·rw[if_pos U] at h;cases h
   ·rw[if_neg U] at h
    refine⟨h1.1,h1.2.1,h1.2.2,by omega,fun x hx=>?_⟩
    obtain⟨i,hi,rfl⟩:=List.mem_iff_getElem.1 hx;have I:=Yh h i _ (aLf hi)
    unfold mTx7 at I;cases h3:mIn b.2.2.2[i] 1 60 with
    | false=>rw[h3] at I;simp at I
    | true=>exact QE.1 h3
  ·rw[if_neg J] at h;cases h
def wBk (b:TBk):List (List UInt8):=[[98,108,111,99,107],Lib.itoa b.1,Lib.itoa b.2.1,Lib.itoa b.2.2.1,if b.2.2.2=[] then [45] else Zd b.2.2.2 [43]]
def Ym (b:TBk):List UInt8:=Lib.join (wBk b) [32]
theorem Qto (a b c:Int):Zd [a,b,c] [32]=Lib.itoa a++32::(Lib.itoa b++32::Lib.itoa c):=by
 unfold Zd;rw[List.map_cons,List.map_cons,List.map_cons,List.map_nil,Zj _ _ _ (by simp),Zj _ _ _ (by simp),Lib.join_one]
theorem Qf4 {b:TBk} (h:okB7 b):Qbn b=some (Ym b):=by
 have U:=h.p
 have hh:=h.h
 have hm:=h.m
 have hn:=h.n
 have hk:∀k,k ∈ [b.1,b.2.1,b.2.2.1]->0<=k/\k<=1000000:=fun k hk=>by
  simp only[List.mem_cons,List.not_mem_nil,or_false] at hk;rcases hk with rfl | rfl | rfl<;>omega
 have I:∀k,k ∈ b.2.2.2->0<=k/\k<=1000000:=fun k hk=>by have:=h.t k hk;omega
 have l1:=QbH [b.1,b.2.1,b.2.2.1] [32] hk
 have l2:=QbH b.2.2.2 [43] I
 simp only[aLh,aLj] at l1 l2;unfold Qbn;obtain⟨w,hw⟩:∃w,w=if b.2.2.2=[] then [45] else Zd b.2.2.2 [43]:=⟨_,rfl⟩
 have hwl:w.length<=1000:=by
  rw[hw];split
  ·simp
  ·omega
 have e:(bif decide ((0:Int)<(b.2.2.2.length:Int)) then (Jr b.2.2.2 [43]).bind fun y6=>some y6 else some [45]:Option (List UInt8))=some w:=by
  rw[hw];by_cases J:b.2.2.2=[]
  ·rw[J,if_pos rfl];rfl
  ·have U:0<b.2.2.2.length:=List.length_pos_iff.2 J
   rw[if_neg J,aLE (by omega),aLB,Qfl _ [43] (by omega) (by simp) I];rfl
 rw[e,aLc,Qfl _ [32] (by simp) (by simp) hk,aLc]
 rw[Qe,Qe,Qe]
 ·unfold Ym wBk
  rw[<-hw,Qto,Zj _ _ _ (by simp),Zj _ _ _ (by simp),Zj _ _ _ (by simp),Zj _ _ _ (by simp),Lib.join_one]
  simp
 all_goals ((try simp only[aLo,aLi,aLh,aLj]);unfold LIM;omega)
theorem Qkv {l:List Int} (h:l ≠ []) (hk:∀k,k ∈ l->0<=k):Zd l [43] ≠ [45]:=by
 cases l with
 | nil=>exact absurd rfl h
 | cons a r=>
  intro e;have I:(45:UInt8) ∉ Lib.itoa a:=ZT (hk a aLm) 45 (by decide)
  unfold Zd at e;rw[List.map_cons] at e;cases r with
  | nil=>rw[List.map_nil,Lib.join_one] at e;rw[e] at I;simp at I
  | cons b r=>
   rw[List.map_cons,Zj _ _ _ (by simp)] at e
   have J:=congrArg List.length e
   simp only[aLi,aLh,aLj] at J;have U:Lib.itoa a=[]:=List.length_eq_zero_iff.1 (by omega)
   rw[U,aLx] at e;injection e with e1 e2
   cases e1
theorem QtX {b:TBk} (h:okB7 b):∀w,w ∈ wBk b->(32:UInt8) ∉ w:=by
 have U:=h.p
 have hh:=h.h
 have hm:=h.m
 intro w hw;unfold wBk at hw;simp only[List.mem_cons,List.not_mem_nil,or_false] at hw;rcases hw with rfl | rfl | rfl | rfl | rfl
 ·decide
 ·exact ZT (by omega) 32 (by decide)
 ·exact ZT (by omega) 32 (by decide)
 ·exact ZT (by omega) 32 (by decide)
 ·split
  ·decide
  ·rename_i h0
   have I:∀ws:List (List UInt8),(∀w,w ∈ ws->(32:UInt8) ∉ w)->(32:UInt8) ∉ Lib.join ws [43]:=by
    intro ws;induction ws with
    | nil=>intro _;simp[Lib.join_nil]
    | cons x ws J=>
     intro h;cases ws with
     | nil=>rw[Lib.join_one];exact h x aLm
     | cons y ws=>
      rw[Zj _ _ _ (by simp),List.mem_append,List.mem_cons,not_or,not_or]
      exact⟨h x aLm,by decide,J fun w hw=>h w (aLp _ hw)⟩
   refine I _ fun w hw=>?_
   obtain⟨k,hk,rfl⟩:=List.mem_map.1 hw;exact ZT (by have:=h.t k hk;omega) 32 (by decide)
theorem Qln {b:TBk} (h:okB7 b):cuts 32 (Ym b)=wBk b:=JC 32 _ (by unfold wBk;simp) (QtX h)
theorem Qkg {n:Int} (h:0<=n/\n<=1000):numS (Lib.itoa n)=n:=Qa6 h.1 (by omega)
theorem Qe2 {b:TBk} (h:mB7 b=0) (hl:(Ym b).length<=300):Ye (Ym b)=some (b,true):=by
 have ho:=Qd7 h
 have hp:=ho.p
 have hh:=ho.h
 have hm:=ho.m
 have hB:BIG=4611686018427387904:=rfl
 have w:∀i,(List.getD (wBk b) i []).length<=300:=fun i=>by
  have:=Yj 32 (Ym b) i
  rw[Qln ho] at this;omega
 unfold Ye;rw[QfE _ 32 (by omega),aLc,Qln ho]
 have e0:decide ((300:Int)<((Ym b).length:Int))=false:=aLD (by omega)
 have w1:List.getD (wBk b) (Int.toNat 1) []=Lib.itoa b.1:=rfl
 have w2:List.getD (wBk b) (Int.toNat 2) []=Lib.itoa b.2.1:=rfl
 have w3:List.getD (wBk b) (Int.toNat 3) []=Lib.itoa b.2.2.1:=rfl
 obtain⟨v,hv⟩:∃v,v=if b.2.2.2=[] then [45] else Zd b.2.2.2 [43]:=⟨_,rfl⟩
 have w4:List.getD (wBk b) (Int.toNat 4) []=v:=by rw[hv];rfl
 have i1:inB 1 (wBk b)=true:=rfl
 have i2:inB 2 (wBk b)=true:=rfl
 have i3:inB 3 (wBk b)=true:=rfl
 have i4:inB 4 (wBk b)=true:=rfl
 have l1:=w 1;have l2:=w 2;have l3:=w 3;have J:=w 4
 have l1:(Lib.itoa b.1).length<=300:=l1
 have l2:(Lib.itoa b.2.1).length<=300:=l2
 have l3:(Lib.itoa b.2.2.1).length<=300:=l3
 have J:v.length<=300:=by rw[<-w4];exact J
 have hlen:((wBk b).length:Int)=5:=rfl
 rw[e0,hlen];simp only[aLC,decide_true,Bool.not_true,aLc,i1,i2,i3,i4,w1,w2,w3,w4,aLB,YL _ (show (Lib.itoa b.1).length<=1000000 by omega),YL _ (show (Lib.itoa b.2.1).length<=1000000 by omega),YL _ (show (Lib.itoa b.2.2.1).length<=1000000 by omega),Qkg (show 0<=b.1/\b.1<=1000 by omega),Qkg (show 0<=b.2.1/\b.2.1<=1000 by omega),Qkg (show 0<=b.2.2.1/\b.2.2.1<=1000 by omega)]
 have e:(bif !decide (v=[45]) then (JK v [43]).bind fun (U:List Int)=>some (b.1,(b.2.1,(b.2.2.1,U))) else some (b.1,(b.2.1,(b.2.2.1,[]))):Option TBk)=some b:=by
  rw[hv];by_cases I:b.2.2.2=[]
  ·rw[if_pos I,aLE rfl]
   show some (b.1,(b.2.1,(b.2.2.1,[])))=some b
   rw[<-I]
  ·have hne:=Qkv I fun k hk=>by have:=ho.t k hk;omega
   rw[if_neg I,aLD hne,Bool.not_false,aLB,Qij _ 43 (by rw[hv,if_neg I] at J;omega),Qjj I (fun k hk=>by have:=ho.t k hk;omega),aLc,List.map_map]
   have:(b.2.2.2.map (numS ∘ Lib.itoa))=b.2.2.2:=by
    have e5:b.2.2.2.map (numS ∘ Lib.itoa)=b.2.2.2.map id:=List.map_congr_left fun k hk=>Qkg (n:=k) (by have:=ho.t k hk;omega)
    rw[e5,List.map_id]
   rw[this]
 rw[e,aLc,Qfn b (by have:=ho.n;omega),aLc,h]
 simp only[decide_true,Bool.not_true,aLC];rw[Qf4 ho,aLc,aLE rfl];rfl
end GL
end Go.Dx
set_option maxHeartbeats 2000000
namespace Go.Dx
namespace GL
theorem QsO {α:Type} {c:Nat->α->Int} {l:List α} (h:∀i a,l[i]? = some a->c i a=0):code c l=0:=by
 unfold code;rw[(QcX l 0).2 (fun j a I=>by rw[Nat.zero_add,if_pos (h j a I)])]
theorem Qrb {l:TL} (h:mLF l=0):code (mTx l.1) l.1=0/\code (mSg (l.1.length:Int) l.2) l.2=0/\l.1.length<=60/\l.2.length<=120:=by
 unfold mLF at h;split at h
 ·cases h
 ·rename_i h1
  simp only[Bool.or_eq_true,aLF,not_or] at h1;by_cases I:code (mTx l.1) l.1=0
  ·rw[if_pos I] at h;exact⟨I,h,by omega,by omega⟩
  ·rw[if_neg I] at h;exact absurd h I
end GL
end Go.Dx
set_option maxHeartbeats 2000000
namespace Go.Dx
namespace GL
def insC (l:List TCoin) (x:TCoin):List TCoin:=l.takeWhile (fun y=>Qr y.1 x.1)++[x]++l.dropWhile (fun y=>Qr y.1 x.1)
theorem QiD (l:List TCoin) (x:TCoin):(insC l x).Perm (l++[x]):=by
 unfold insC;have h:l=l.takeWhile (fun y=>Qr y.1 x.1)++l.dropWhile (fun y=>Qr y.1 x.1):=(List.takeWhile_append_dropWhile).symm
 conv=>rhs;rw[h]
 rw[List.append_assoc,List.append_assoc];exact List.Perm.append_left _ List.perm_append_comm
theorem Qrv {α:Type} (p:α->Bool):∀(l:List α) (a:α),a ∈ l.takeWhile p->p a=true
 | [],a,h=>by cases h
 | x::l,a,h=>by
  rw[List.takeWhile_cons] at h;cases I:p x with
  | false=>rw[I] at h;cases h
  | true=>
   rw[I,if_pos rfl] at h;rcases List.mem_cons.1 h with rfl | h
   ·exact I
   ·exact Qrv p l a h
theorem Qo7 {α:Type} (p:α->Bool) (c:α) (r:List α):∀(l:List α),l.dropWhile p=c::r->p c=false
 | [],h=>by cases h
 | x::l,h=>by
  rw[List.dropWhile_cons] at h;cases I:p x with
  | true=>rw[I,if_pos rfl] at h;exact Qo7 p c r l h
  | false=>
   rw[I,if_neg (by simp)] at h
   rw[<-(List.cons.inj h).1];exact I
theorem Qrw {l:List TCoin} (h:Rise l) {x:TCoin} (hx:∀y,y ∈ l->y.1 ≠ x.1):Rise (insC l x):=by
 unfold insC Rise;have hs:l=l.takeWhile (fun y=>Qr y.1 x.1)++l.dropWhile (fun y=>Qr y.1 x.1):=(List.takeWhile_append_dropWhile).symm
 have ht:∀a,a ∈ l.takeWhile (fun y=>Qr y.1 x.1)->Qr a.1 x.1=true:=fun a I=>Qrv _ l a I
 have hr:(l.takeWhile (fun y=>Qr y.1 x.1)++l.dropWhile (fun y=>Qr y.1 x.1)).Pairwise fun a b=>Qr a.1 b.1=true:=by rw[<-hs];exact h
 rw[List.pairwise_append] at hr;obtain⟨r1,U,r3⟩:=hr;have hd:∀b,b ∈ l.dropWhile (fun y=>Qr y.1 x.1)->Qr x.1 b.1=true:=by
  intro b hb;have J:∀b,b ∈ l.dropWhile (fun y=>Qr y.1 x.1)->Qr b.1 x.1=false:=by
   cases hq:l.dropWhile (fun y=>Qr y.1 x.1) with
   | nil=>intro b hb;cases hb
   | cons c r=>
    have hc:Qr c.1 x.1=false:=Qo7 (fun y:TCoin=>Qr y.1 x.1) c r l hq
    intro b hb;rw[hq] at U;rcases List.mem_cons.1 hb with rfl | hb
    ·exact hc
    ·have h1:=(List.pairwise_cons.1 U).1 b hb
     cases h2:Qr b.1 x.1 with
     | false=>rfl
     | true=>rw[QbG h1 h2] at hc;cases hc
  cases h1:Qr x.1 b.1 with
  | true=>rfl
  | false=>exact absurd (Qik (J b hb) h1) (hx b (by rw[hs];exact List.mem_append_right _ hb))
 rw[List.pairwise_append,List.pairwise_append];refine⟨⟨r1,List.pairwise_singleton _ _,fun a I b hb=>?_⟩,U,fun a I b hb=>?_⟩
 ·rw[aLs.1 hb];exact ht a I
 ·rcases List.mem_append.1 I with I | I
  ·exact r3 a I b hb
  ·rw[aLs.1 I];exact hd b hb
def QaF (id h:Int) (m:Bool):Nat->List TOut->List TCoin
 | _,[]=>[]
 | k,o::r=>((id,(k:Int)),(o,(h,m)))::QaF id h m (k+1) r
theorem Qjs (id h:Int) (m:Bool):∀(os:List TOut) (k:Nat),(QaF id h m k os).length=os.length
 | [],_=>rfl
 | o::r,k=>by unfold QaF;rw[aLh,Qjs id h m r,aLh]
theorem Qnh {id h:Int} {m:Bool} {x:TCoin}:∀{os:List TOut} {k:Nat},x ∈ QaF id h m k os->x.1.1=id/\(k:Int)<=x.1.2/\x.1.2<(k:Int)+os.length/\x.2.1 ∈ os/\x.2.2.1=h
 | [],_,I=>by cases I
 | o::r,k,I=>by
  unfold QaF at I;rcases List.mem_cons.1 I with rfl | I
  ·refine⟨rfl,Int.le_refl _,?_,aLm,rfl⟩
   show (k:Int)<(k:Int)+((o::r).length:Int)
   rw[aLh];omega
  ·obtain⟨h1,h2,h3,J,U⟩:=Qnh I
   rw[aLh];exact⟨h1,by omega,by omega,aLp _ J,U⟩
def Qev (l:List TCoin) (xs:List TCoin):List TCoin:=xs.foldl insC l
theorem QgG:∀(xs l:List TCoin),(Qev l xs).Perm (l++xs)
 | [],l=>by unfold Qev;simp
 | x::r,l=>by
  have h1:=QgG r (insC l x)
  show (Qev (insC l x) r).Perm (l++x::r)
  refine h1.trans ?_;have I:=(QiD l x).append_right r
  rw[List.append_assoc] at I;exact I
theorem QgK {id h:Int} {m:Bool}:∀(os:List TOut) (k:Nat) (l:List TCoin),Rise l->(∀y,y ∈ l->y.1.1=id->y.1.2<(k:Int))->Rise (Qev l (QaF id h m k os))
 | [],_,l,I,_=>I
 | o::r,k,l,I,hl=>by
  show Rise (Qev (insC l _) (QaF id h m (k+1) r))
  refine QgK r (k+1) _ (Qrw I fun y J he=>?_) (fun y J h1=>?_)
  ·have:=hl y J (by rw[he])
   rw[he] at this;exact absurd this (by simp)
  ·have:=(QiD l ((id,(k:Int)),(o,(h,m)))).mem_iff.1 J
   rcases List.mem_append.1 this with U | U
   ·have:=hl y U h1;omega
   ·rw[aLs.1 U];show (k:Int)<((k+1:Nat):Int);omega
theorem Qjf {α:Type} {l:List α} {p:α->Bool} {k:Nat} (hk:k<l.length) (J:p l[k]=false) (h1:∀i (h:i<l.length),i ≠ k->p l[i]=true):l.filter p=l.take k++l.drop (k+1):=by
 conv=>lhs;rw[<-List.take_append_drop k l]
 rw[aLr hk,List.filter_append,List.filter_cons,J];rw[List.filter_eq_self.2 (fun a I=>?_),if_neg (by simp),List.filter_eq_self.2 (fun a I=>?_)]
 ·obtain⟨i,hi,rfl⟩:=List.mem_iff_getElem.1 I
  rw[aLz] at hi;rw[List.getElem_drop];exact h1 _ (by omega) (by omega)
 ·obtain⟨i,hi,rfl⟩:=List.mem_iff_getElem.1 I
  rw[aLn] at hi;rw[List.getElem_take];exact h1 _ (by omega) (by omega)
def offC (c:List TCoin) (rs:List (Int×Int)):List TCoin:=c.filter fun x=>!decide (x.1 ∈ rs)
theorem QoJ {c:List TCoin} (hr:Rise c) (hl:c.length<=1000) (hk:∀x,x ∈ c->x.2.1.2.1.length<=1000000) {rs:List (Int×Int)} (hn:rs.Nodup) (hrl:rs.length<=1000) (hall:∀r,r ∈ rs->∃x,x ∈ c/\x.1=r):Qbj c rs=some (offC c rs,0):=by
 have hB:BIG=4611686018427387904:=rfl
 unfold Qbj;rw[Qb0 c (by omega) hk,aLc]
 generalize hf:(fun (s17:List TCoin×Int)=>_)=f
 have key:∀(d i:Nat),i+d=rs.length->Qc f (offC c (rs.take i),(i:Int))=some (Sum.inl (offC c rs)):=by
  intro d;induction d with
  | zero=>
   intro i hi;obtain rfl:i=rs.length:=by omega
   rw[List.take_length];exact Qh (by rw[<-hf];simp only[dge,aLC])
  | succ d ih=>
   intro i hi;have I:i<rs.length:=by omega
   have U:Rise (offC c (rs.take i)):=Qf0 hr _
   have hlo:(offC c (rs.take i)).length<=c.length:=List.length_filter_le _ _
   obtain⟨x,hx,hxr⟩:=hall _ (aLl I);have hnot:rs[i] ∉ rs.take i:=fun hm=>by
    rw[List.mem_take_iff_getElem] at hm;obtain⟨j,hj,he⟩:=hm;have:=List.nodup_iff_pairwise_ne.1 hn
    rw[List.pairwise_iff_getElem] at this;exact this j i (by omega) I (by omega) he
   have hxo:x ∈ offC c (rs.take i):=List.mem_filter.2 ⟨hx,by rw[hxr,aLD hnot];rfl⟩
   obtain⟨k,k1,k2⟩:=Qj8 U (by omega) rs[i]
   rcases k2 with ⟨hk1,J⟩ | hno
   ·have hstep:f (offC c (rs.take i),(i:Int))=some (.inl (offC c (rs.take (i+1)),((i+1:Nat):Int))):=by
     rw[<-hf];have hdel:Zh (offC c (rs.take i)) (k:Int) ((k:Int)+1)=some (offC c (rs.take (i+1))):=by
      unfold Zh delS;rw[aLE ⟨by omega,by omega,by omega,by omega⟩,aLB,Int.toNat_natCast,show ((k:Int)+1).toNat=k+1 by omega]
      congr 1;rw[<-Qjf (p:=fun x=>!decide (x.1=rs[i])) hk1 (by rw[aLE J];rfl) (fun j hj hjk=>by
       rw[aLD (fun he=>?_)];rfl
       have:=Qjq U (aLl hj) (aLl hk1) (by rw[he,J])
       rcases Nat.lt_or_ge j k with h1 | h1
       ·have h2:=QcP U h1 hk1
        rw[he,J,Z7] at h2;cases h2
       ·have h2:=QcP U (show k<j by omega) hj
        rw[he,J,Z7] at h2;cases h2)]
      unfold offC;rw[List.filter_filter];congr 1
      funext x
      rw[List.take_succ_eq_append_getElem I];simp only[List.mem_append,aLs];by_cases h1:x.1 ∈ rs.take i<;>by_cases h2:x.1=rs[i]<;>simp[h1,h2]
     have hw:IntKind.wrap .i64 ((k:Int)+1)=(k:Int)+1:=QY (by omega) (by omega)
     simp only[dlt I,Qb _ i I,Qa _ i _ I,aLB,k1,aLc,aLE (show ∃h:k<(offC c (rs.take i)).length,((offC c (rs.take i))[k]'h).1=rs[i] from ⟨hk1,J⟩),Bool.not_true,aLC,hw,hdel,wsucc I (by omega)]
    rw[Qv hstep];exact ih (i+1) (by omega)
   ·exact absurd hxr (hno x hxo)
 have:=key rs.length 0 (by omega)
 have e0:offC c (rs.take 0)=c:=by unfold offC;simp
 rw[e0] at this;show ((Qc f (c,0)).bind _)=_
 rw[show ((0:Nat):Int)=0 from rfl] at this
 rw[this];rfl
end GL
end Go.Dx
set_option maxHeartbeats 2000000
namespace Go.Dx
namespace GL
theorem Qme {X:Type} (n:Nat) (f:Int->Option (Int⊕X)) (x:X) (I:∀i:Nat,i<n->f (i:Int)=some (.inl ((i+1:Nat):Int))) (he:f (n:Int)=some (.inr x)):Qc f 0=some x:=by
 have key:∀(d i:Nat),i+d=n->Qc f (i:Int)=some x:=by
  intro d;induction d with
  | zero=>
   intro i hi;obtain rfl:i=n:=by omega
   exact Qh he
  | succ d J=>intro i hi;rw[Qv (I i (by omega))];exact J (i+1) (by omega)
 exact key n 0 (by omega)
theorem Qo1 (l:List TCoin) (I:l.length<BIG) (tx:Int):Qct l tx=some (l.any fun x=>decide (x.1.1=tx)):=by
 unfold Qct Zt ZE;rw[Jl l (fun x=>decide (x.1.1=tx)) _ (fun i h=>?_) (by simp only[dge,aLC]),aLc,ZH]
 ·rfl
 ·simp only[dlt h,Qb l i h,Qa l i _ h,aLB,wsucc h I]
  unfold Qef;rw[aLc,aLc];cases decide (l[i].1.1=tx)<;>rfl
def QbQ (l:List TCoin) (id:Int) (outs:List TOut) (h:Int) (m:Bool):List TCoin×Int:=if (l.any fun x=>decide (x.1.1=id))=true then ([],7) else if 40<l.length+outs.length then ([],2) else (Qev l (QaF id h m 0 outs),0)
theorem QkI {l:List TCoin} (hr:Rise l) (hl:l.length<=1000) (hk:∀x,x ∈ l->x.2.1.2.1.length<=1000000) {id:Int} (hid:mIn id 1 60=true) {outs:List TOut} (hn:outs.length<=4) (ho:∀o,o ∈ outs->mOut o=0/\o.2.1.length<=1000000) {h:Int} (hh:mIn h 0 999=true) (m:Bool):Jj l id outs h m=some (QbQ l id outs h m):=by
 have hB:BIG=4611686018427387904:=rfl
 unfold Jj QbQ;rw[Qde,aLc,hid,Qb3,aLc,hh];simp only[Bool.not_true,aLC,aLc];rw[aLD (by omega),aLC]
 rw[Qme outs.length _ (Sum.inl ()) (fun i hi=>by
   have hoi:=ho _ (aLl hi)
   simp only[dlt hi,Qb _ i hi,Qa _ i _ hi,aLB,Qgd _ (show (outs[i]).2.1.length<BIG by omega),aLc,hoi.1,decide_true,Bool.not_true,aLC,wsucc hi (by omega)]) (by simp only[dge,aLC]),aLc,Sum.elim_inl,Qo1 _ (by omega),aLc]
 cases hany:l.any fun x=>decide (x.1.1=id) with
 | true=>rfl
 | false=>
  rw[aLC,if_neg (by simp),QY (by omega) (by omega)]
  by_cases h40:40<l.length+outs.length
  ·rw[aLE (by omega),if_pos h40];rfl
  ·rw[aLD (by omega),if_neg h40,aLC,Qb0 l (by omega) hk,aLc]
   generalize hf:(fun (s37:List TCoin×Int)=>_)=f
   have key:∀(d i:Nat) (acc:List TCoin),i+d=outs.length->acc.length<=1000+i->Qc f (acc,(i:Int))=some (acc++QaF id h m i (outs.drop i)):=by
    intro d;induction d with
    | zero=>
     intro i acc hi _;obtain rfl:i=outs.length:=by omega
     rw[Qh (show f (acc,(outs.length:Int))=some (.inr acc) by rw[<-hf];simp only[dge,aLC]),List.drop_length]
     unfold QaF;rw[List.append_nil]
    | succ d ih=>
     intro i acc hi ha;have I:i<outs.length:=by omega
     have hstep:f (acc,(i:Int))=some (.inl (acc++[((id,(i:Int)),(outs[i],(h,m)))],((i+1:Nat):Int))):=by
      rw[<-hf];have hoi:=ho _ (aLl I)
      simp only[dlt I,Qb _ i I,Qa _ i _ I,aLB,Qh9 _ hoi.2,aLc,wsucc I (by omega)]
      rw[Qe (by simp only[aLh,aLj];unfold LIM;omega)];rfl
     rw[Qv hstep,ih (i+1) _ (by omega) (by simp;omega),aLr I]
     show _=some (acc++(_::QaF id h m (i+1) (outs.drop (i+1))))
     rw[List.append_assoc];rfl
   have:=key outs.length 0 l (by omega) (by omega)
   rw[List.drop_zero] at this;show ((Qc f (l,0)).bind _)=_
   rw[show ((0:Nat):Int)=0 from rfl] at this
   rw[this,aLc];have J:=QgG (QaF id h m 0 outs) l
   have U:Rise (Qev l (QaF id h m 0 outs)):=QgK outs 0 l hr fun y hy h1=>by
    rw[List.any_eq_false] at hany;exact absurd (aLE h1) (hany y hy)
   rw[Qkk U (fun x hx=>J.mem_iff.2 hx) J U (by rw[aLi,Qjs];omega),aLc]
theorem QlK {c:List TCoin} (hc:Rise c) {rs:List (Int×Int)} (hn:rs.Nodup) (h:(c.filter fun x=>decide (x.1 ∈ rs)).length=rs.length):∀r,r ∈ rs->∃x,x ∈ c/\x.1=r:=by
 have hp:=(Qpk hc rs hn).length_eq
 rw[h] at hp;have key:∀(l:List (Int×Int)),l.length=(l.filterMap (atC c)).length->∀r,r ∈ l->∃x,x ∈ c/\x.1=r:=by
  intro l;induction l with
  | nil=>intro _ r I;cases I
  | cons a l ih=>
   intro J r I;rw[List.filterMap_cons] at J;have hle:(l.filterMap (atC c)).length<=l.length:=List.length_filterMap_le _ _
   cases U:atC c a with
   | none=>rw[U] at J;simp only[aLh] at J;omega
   | some x=>
    rw[U] at J;simp only[aLh] at J;rcases List.mem_cons.1 I with rfl | I
    ·exact⟨x,QeM U⟩
    ·exact ih (by omega) r I
 exact key rs hp
def Qbs (c:List TCoin) (t:TX) (id h:Int):List TCoin×Int:=if (c.any fun x=>decide (x.1.1=id))=true then ([],7) else QbQ (offC c t.2.2.1) id t.2.2.2 h false
theorem Qnv {t:TX} (J:okT t):∀o,o ∈ t.2.2.2->mOut o=0/\o.2.1.length<=1000000:=fun o ho=>by
 obtain⟨h1,I⟩:=J.out o ho;refine⟨?_,by have:=(ZF I).len;omega⟩
 unfold mOut;rw[QE.2 h1,if_pos rfl];exact I
theorem Qry {c:List TCoin} (J:Zv c=0) {t:TX} (I:okT t) (hs:(mSp c t).length=t.2.2.1.length) {id:Int} (hid:mIn id 1 60=true) {h:Int} (hh:mIn h 0 999=true):QcD c t id h=some (Qbs c t id h):=by
 have hcl:=(YK J).1
 have U:=QeK J
 have hol:(offC c t.2.2.1).length<=c.length:=List.length_filter_le _ _
 unfold QcD Qbs;rw[QeF J t I,if_pos hs,aLc];simp only[decide_true,Bool.not_true,aLC];rw[Qo1 _ (by unfold BIG;omega),aLc]
 cases hany:c.any fun x=>decide (x.1.1=id) with
 | true=>rfl
 | false=>
  rw[aLC,if_neg (by simp),QoJ U (by omega) (YP J) I.nd (by have:=I.li;omega) (QlK U I.nd hs),aLc]
  have hp:=QkI (l:=offC c t.2.2.1) (Qf0 U _) (by omega) (fun x hx=>YP J x (List.mem_filter.1 hx).1) hid I.lo.2 (Qnv I) hh false
  show ((Jj (offC c t.2.2.1) id t.2.2.2 h false).bind _)=_
  rw[hp];rfl
end GL
end Go.Dx
set_option maxHeartbeats 2000000
namespace Go.Dx
namespace GL
theorem QlX {l:List TCoin} (hn:l.length<=40) (J:Rise l) (U:∀x,x ∈ l->mRef x.1=true/\mIn x.2.2.1 0 999=true/\mOut x.2.1=0):Zv l=0:=by
 unfold Zv;rw[if_neg (by omega)]
 refine QsO fun i a ha=>?_
 obtain⟨hi,rfl⟩:=aLy.1 ha;obtain⟨h1,h2,h3⟩:=U _ (aLl hi);unfold Qi0;rw[h1,h2,Bool.and_self,if_pos rfl,if_pos h3];rcases Nat.eq_zero_or_pos i with I | I
 ·subst I;rfl
 ·have:=QcP J (show i - 1<i by omega) hi
  rw[aLk,aLf (by omega:i - 1<l.length),Option.getD_some,this]
  simp
theorem Qko {c:List TCoin} (h:Zv c=0):∀x,x ∈ c->mRef x.1=true/\mIn x.2.2.1 0 999=true/\mOut x.2.1=0:=fun x I=>by
 have I:=(YK h).2 x I
 refine⟨JO.2 ⟨I.tx,I.at_⟩,QE.2 I.height,?_⟩;unfold mOut;rw[QE.2 I.val,if_pos rfl];exact I.rule
theorem QoS {l:TL} {c:List TCoin} {t:TX} {I:Int} (h:(mChk l c t I).2=0):(mSp c t).length=t.2.2.1.length:=by
 unfold mChk Qht at h;split at h
 ·split at h
  ·cases h
  ·split at h
   ·assumption
   ·cases h
 ·cases h
end GL
end Go.Dx
set_option maxHeartbeats 2000000
namespace Go.Dx
namespace GL
end GL
end Go.Dx
set_option maxHeartbeats 2000000
namespace Go.Dx
namespace GL
theorem Qqm {α:Type} (v:α->Int) (M:Int) (I:0<=M/\M<=100000000):∀(l:List α) (a:Int) (n:Nat),(∀x,x ∈ l->0<=v x/\v x<=M)->0<=a->a<=M * n->n+l.length<=1000->0<=l.foldl (fun n x=>IntKind.wrap .i64 (n+v x)) a/\l.foldl (fun n x=>IntKind.wrap .i64 (n+v x)) a<=M * ((n+l.length:Nat):Int)
 | [],a,n,_,J,h1,_=>⟨J,by simpa using h1⟩
 | x::r,a,n,hv,J,h1,U=>by
  have hx:=hv x aLm
  simp only[aLh] at U;have hb:M * (n:Int)<=100000000 * 1000:=by
   have h2:(n:Int)<=1000:=by omega
   calc M * (n:Int)<=100000000 * (n:Int):=Int.mul_le_mul_of_nonneg_right I.2 (by omega)
    _<=100000000 * 1000:=by omega
  have hw:IntKind.wrap .i64 (a+v x)=a+v x:=QY (by omega) (by omega)
  rw[List.foldl_cons,hw];have h3:a+v x<=M * ((n+1:Nat):Int):=by
   have:M * ((n+1:Nat):Int)=M * (n:Int)+M:=by rw[Int.natCast_add,Int.mul_add];simp
   omega
  have:=Qqm v M I r (a+v x) (n+1) (fun y hy=>hv y (aLp _ hy)) (by omega) h3 (by omega)
  rw[aLh];rw[show n+(r.length+1)=n+1+r.length by omega]
  exact this
theorem sum0 {α:Type} (v:α->Int) (M:Int) (I:0<=M/\M<=100000000) (l:List α) (hv:∀x,x ∈ l->0<=v x/\v x<=M) (J:l.length<=1000):0<=l.foldl (fun n x=>IntKind.wrap .i64 (n+v x)) 0/\l.foldl (fun n x=>IntKind.wrap .i64 (n+v x)) 0<=M * (l.length:Int):=by
 have:=Qqm v M I l 0 0 hv (by omega) (by simp) (by omega)
 rw[Nat.zero_add] at this;exact this
theorem QtW {l:TL} {c:List TCoin} (hc:Zv c=0) {t:TX} (ht:okT t) {h:Int} (I:(mChk l c t h).2=0):0<=(mChk l c t h).1/\(mChk l c t h).1<=40000000:=by
 have J:=YK hc
 have hspl:(mSp c t).length<=c.length:=List.length_filter_le _ c
 have hlo:=ht.lo
 have s1:=sum0 (fun x:TCoin=>x.2.1.1) 1000000 (by omega) (mSp c t) (fun x U=>by have:=(J.2 x (Qiw U)).val;omega) (by omega)
 have s2:=sum0 (fun x:TOut=>x.1) 1000000 (by omega) t.2.2.2 (fun x U=>by have:=(ht.out x U).1;omega) (by omega)
 have e1:mSum (mSp c t)=(mSp c t).foldl (fun n x=>IntKind.wrap .i64 (n+x.2.1.1)) 0:=rfl
 have e2:QdJ t.2.2.2=t.2.2.2.foldl (fun n x=>IntKind.wrap .i64 (n+x.1)) 0:=rfl
 rw[<-e1] at s1;rw[<-e2] at s2;have hw:IntKind.wrap .i64 (mSum (mSp c t) - QdJ t.2.2.2)=mSum (mSp c t) - QdJ t.2.2.2:=QY (by omega) (by omega)
 unfold mChk at I ⊢;by_cases h1:(Qp t).length<=300
 ·rw[if_pos h1] at I ⊢
  by_cases h2:mId l (Qp t)=0
  ·rw[if_pos h2] at I;cases I
  ·rw[if_neg h2] at I ⊢
   unfold Qht QmY at I ⊢;by_cases h3:(mSp c t).length=t.2.2.1.length
   ·rw[if_pos h3] at I ⊢
    by_cases h4:code (fun _=>mC1 l (mId l (Qp t)) h) (mSp c t)=0
    ·rw[if_pos h4] at I ⊢
     by_cases h5:t.1=2/\(t.2.1,mId l (Qp t)) ∉ l.2
     ·rw[if_pos h5] at I;cases I
     ·rw[if_neg h5] at I ⊢
      rw[hw] at I ⊢;by_cases h6:mSum (mSp c t) - QdJ t.2.2.2<0
      ·rw[if_pos h6] at I;cases I
      ·rw[if_neg h6]
       show 0<=mSum (mSp c t) - QdJ t.2.2.2/\mSum (mSp c t) - QdJ t.2.2.2<=40000000
       omega
    ·rw[if_neg h4] at I;exact absurd I h4
   ·rw[if_neg h3] at I;cases I
 ·rw[if_neg h1] at I;cases I
abbrev TUn:=Int×List (List TCoin)×List TMb
end GL
end Go.Dx
set_option maxHeartbeats 2000000
namespace Go.Dx
namespace GL
end GL
end Go.Dx
set_option maxHeartbeats 2000000
namespace Go.Dx
namespace GL
theorem QpU {α:Type} (l:List α) (p:α->Bool) (f:Int->Option (Int⊕Int))
  (U:∀(i:Nat) (h:i<l.length),f (i:Int)=some (if p l[i] then .inl ((i+1:Nat):Int) else .inr (i:Int))) (he:f (l.length:Int)=some (.inr (l.length:Int))):Qc f 0=some ((l.takeWhile p).length:Int):=by
 have key:∀(d i:Nat),i+d=l.length->Qc f (i:Int)=some ((i+((l.drop i).takeWhile p).length:Nat):Int):=by
  intro d;induction d with
  | zero=>
   intro i hi;obtain rfl:i=l.length:=by omega
   rw[Qh he,List.drop_length];rfl
  | succ d ih=>
   intro i hi;have I:i<l.length:=by omega
   rw[aLr I,List.takeWhile_cons];have h1:=U i I
   cases J:p l[i] with
   | false=>rw[J] at h1;rw[Qh h1];rfl
   | true=>
    rw[J] at h1;rw[Qv h1,ih (i+1) (by omega),if_pos rfl,aLh]
    congr 2;omega
 have:=key l.length 0 (by omega)
 simpa using this
theorem QoR {α:Type} (p:α->Bool):∀(l:List α),l.take (l.takeWhile p).length=l.takeWhile p/\l.drop (l.takeWhile p).length=l.dropWhile p
 | []=>⟨rfl,rfl⟩
 | a::l=>by
  rw[List.takeWhile_cons,List.dropWhile_cons];cases p a with
  | false=>exact⟨rfl,rfl⟩
  | true=>
   obtain⟨h1,I⟩:=QoR p l;simp only[if_true,aLh,List.take_succ_cons,List.drop_succ_cons,h1,I];exact⟨trivial,trivial⟩
theorem Qn3 {l:List TCoin} (U:l.length<=1000) (x:TCoin):QeC l x=some (insC l x):=by
 unfold QeC;rw[QpU l (fun y=>Qr y.1 x.1) _ (fun i h=>by
   simp only[dlt h,Qb l i h,Qa l i _ h,aLB,QgY,aLc,wsucc h (by unfold BIG;omega)]
   cases Qr l[i].1 x.1<;>rfl) (by simp only[dge,aLC,aLc]),aLc]
 obtain⟨h1,I⟩:=QoR (fun y:TCoin=>Qr y.1 x.1) l
 have hk:(l.takeWhile fun y=>Qr y.1 x.1).length<=l.length:=(List.takeWhile_sublist _).length_le
 generalize hn:(l.takeWhile fun y=>Qr y.1 x.1).length=n at *
 have c2:QR (n:Int) (l.length:Int) l=true:=by unfold QR;simp;omega
 have J:cut (n:Int) (l.length:Int) l=l.drop n:=by
  unfold cut;rw[Int.toNat_natCast,List.take_of_length_le];rw[aLz];omega
 rw[ZR l n hk,aLB,Y9,c2,J];have q1:(l.take n).length<=1000:=by rw[aLn];omega
 have q2:(l.drop n).length<=1000:=by rw[aLz];omega
 rw[Qe (by simp only[aLj];unfold LIM;omega),Qe (by simp only[aLo,aLi,aLj,aLh];unfold LIM;omega),aLB,Qe (by simp only[aLo,aLi,aLj,aLh];unfold LIM;omega)]
 rw[h1,I];rfl
theorem QsR (l:List TCoin) (x:TCoin):(insC l x).length=l.length+1:=by
 rw[(QiD l x).length_eq,aLi,List.length_singleton]
theorem QnJ {l:List TCoin} (hl:l.length<=100) (hk:∀x,x ∈ l->x.2.1.2.1.length<=1000000) (id:Int) {outs:List TOut} (hn:outs.length<=100) (ho:∀o,o ∈ outs->o.2.1.length<=10) (h:Int) (m:Bool) :
  Qez l id outs h m=some (Qev l (QaF id h m 0 outs),l):=by
 unfold Qez;rw[QdF l (by omega) hk,aLc]
 generalize U:(fun (s15:List TCoin×Int)=>_)=f
 have key:∀(d i:Nat) (acc:List TCoin),i+d=outs.length->acc.length<=100+i->Qc f (acc,(i:Int))=some (Qev acc (QaF id h m i (outs.drop i))):=by
  intro d;induction d with
  | zero=>
   intro i acc hi _;obtain rfl:i=outs.length:=by omega
   rw[Qh (show f (acc,(outs.length:Int))=some (.inr acc) by rw[<-U];simp only[dge,aLC]),List.drop_length]
   rfl
  | succ d ih=>
   intro i acc hi ha;have I:i<outs.length:=by omega
   have J:f (acc,(i:Int))=some (.inl (insC acc ((id,(i:Int)),(outs[i],(h,m))),((i+1:Nat):Int))):=by
    rw[<-U];simp only[dlt I,Qb _ i I,Qa _ i _ I,aLB,QmS _ (ho _ (aLl I)),aLc,wsucc I (show outs.length<BIG by unfold BIG;omega)]
    rw[Qn3 (by omega)];rfl
   rw[Qv J,ih (i+1) _ (by omega) (by rw[QsR];omega),aLr I]
   rfl
 have:=key outs.length 0 l (by omega) (by omega)
 rw[List.drop_zero] at this;show ((Qc f (l,0)).bind _)=_
 rw[show ((0:Nat):Int)=0 from rfl] at this
 rw[this];rfl
theorem Qof {o:TOut} (h:mOut o=0):o.2.1.length<=3:=by
 unfold mOut at h;split at h
 ·exact (ZF h).len.2
 ·cases h
theorem Qge {l:List TCoin} (U:Zv l=0) {id:Int} (hid:mIn id 1 60=true) {outs:List TOut} (hn:outs.length<=4) (ho:∀o,o ∈ outs->mOut o=0) {h:Int} (hh:mIn h 0 999=true) (m:Bool) :
  Ji l id outs h m=some (((QbQ l id outs h m).2,(QbQ l id outs h m).1),l):=by
 have hB:BIG=4611686018427387904:=rfl
 have hl:=(YK U).1
 unfold Ji QbQ;rw[QeR l (by omega) (fun x hx=>by have:=YP U x hx;omega),aLc,U,Zm,aLc,hid,Qb9,aLc,hh]
 simp only[decide_true,Bool.not_true,aLC,aLc];rw[aLD (by omega),aLC]
 rw[Qme outs.length _ (Sum.inl ()) (fun i hi=>by
   have I:=ho _ (aLl hi)
   simp only[dlt hi,Qb _ i hi,Qa _ i _ hi,aLB,Qid _ (show (outs[i]).2.1.length<BIG by have:=Qof I;omega),aLc,I,decide_true,Bool.not_true,aLC,wsucc hi (by omega)]) (by simp only[dge,aLC]),aLc,Sum.elim_inl,Qi7 _ (by omega),aLc]
 cases hany:l.any fun x=>decide (x.1.1=id) with
 | true=>rfl
 | false=>
  rw[aLC,if_neg (by simp),QY (by omega) (by omega)]
  by_cases J:40<l.length+outs.length
  ·rw[aLE (by omega),if_pos J];rfl
  ·rw[aLD (by omega),if_neg J,aLC,QnJ (by omega) (YP U) id (by omega) (fun o hx=>by have:=Qof (ho o hx);omega),aLc]
theorem Qon (l:List TCoin) (I:l.length<BIG) (r:Int×Int):QeY l r=some (idxF (fun x=>decide (x.1=r)) l):=by
 unfold QeY;rw[Jl l (fun x=>decide (x.1=r)) _ (fun i h=>?_) (by simp only[dge,aLC])]
 simp only[dlt h,Qb l i h,Qa l i _ h,aLB,wsucc h I,QhP];cases decide (l[i].1=r)<;>rfl
theorem QrU (c:List TCoin) (r:Int×Int) (rs:List (Int×Int)):offC (offC c [r]) rs=offC c (r::rs):=by
 unfold offC;rw[List.filter_filter];congr 1
 funext x
 by_cases h1:x.1=r<;>by_cases I:x.1 ∈ rs<;>simp[h1,I]
theorem QrN (c:List TCoin):offC c []=c:=by unfold offC;rw[List.filter_eq_self];intro a _;simp
theorem Qms {c:List TCoin} (hr:Rise c) (hl:c.length<=1000) (hk:∀x,x ∈ c->x.2.1.2.1.length<=1000000) {rs:List (Int×Int)} (hn:rs.Nodup) (hrl:rs.length<=1000) (hall:∀r,r ∈ rs->∃x,x ∈ c/\x.1=r) :
  QdN c rs=some (offC c rs,(true,c)):=by
 unfold QdN;rw[QdF c (by omega) hk,aLc]
 generalize hf:(fun (s12:List TCoin×Int)=>_)=f
 have key:∀(d i:Nat) (acc:List TCoin),i+d=rs.length->Rise acc->acc.length<=1000->(∀r,r ∈ rs.drop i->∃x,x ∈ acc/\x.1=r)->Qc f (acc,(i:Int))=some (Sum.inl (offC acc (rs.drop i))):=by
  intro d;induction d with
  | zero=>
   intro i acc hi _ _ _;obtain rfl:i=rs.length:=by omega
   rw[Qh (show f (acc,(rs.length:Int))=some (.inr (.inl acc)) by rw[<-hf];simp only[dge,aLC]),List.drop_length,QrN]
  | succ d ih=>
   intro i acc hi ha hal U;have I:i<rs.length:=by omega
   rw[aLr I] at U ⊢;obtain⟨x,hx,hxr⟩:=U _ aLm;obtain⟨k,hkl,hki,J,hkm⟩:=Qc8 (p:=fun y:TCoin=>decide (y.1=rs[i])) (l:=acc) (List.any_eq_true.2 ⟨x,hx,aLE hxr⟩)
   have J:=aLG J
   have hoff:acc.take k++acc.drop (k+1)=offC acc [rs[i]]:=by
    refine (Qjf hkl (by simp[J]) fun j hj hjk=>?_).symm
    have:acc[j].1 ≠ rs[i]:=fun he=>by
     rcases Nat.lt_or_gt_of_ne hjk with h | h
     ·have:=QcP ha h hkl;rw[he,J,Z7] at this;cases this
     ·have:=QcP ha h hj;rw[he,J,Z7] at this;cases this
    simp[this]
   have e1:IntKind.wrap .i64 ((k:Int)+1)=((k+1:Nat):Int):=by rw[QY (by omega) (by omega)];omega
   have c2:QR ((k+1:Nat):Int) (acc.length:Int) acc=true:=by unfold QR;simp;omega
   have t1:List.take (Int.toNat ((k:Int) - 0)) (List.drop (Int.toNat 0) acc)=acc.take k:=by simp
   have t2:List.take (Int.toNat ((acc.length:Int) - ((k+1:Nat):Int))) (List.drop (Int.toNat ((k+1:Nat):Int)) acc)=acc.drop (k+1):=by
    rw[Int.toNat_natCast,List.take_of_length_le];rw[aLz];omega
   have hstep:f (acc,(i:Int))=some (.inl (offC acc [rs[i]],((i+1:Nat):Int))):=by
    rw[<-hf];simp only[dlt I,Qb _ i I,Qa _ i _ I,aLB,Qon acc (by unfold BIG;omega),aLc,hki,wsucc I (show rs.length<BIG by unfold BIG;omega),e1,c2,ZR acc k (by omega),t1,t2]
    rw[aLD (by omega),aLC,Qe (by simp only[aLj,aLn];unfold LIM;omega),Qe (by simp only[aLo,aLi,aLj,aLn,aLz];unfold LIM;omega),<-hoff];rfl
   rw[Qv hstep,ih (i+1) (offC acc [rs[i]]) (by omega) (Qf0 ha _) (by have:=List.length_filter_le (fun x:TCoin=>!decide (x.1 ∈ [rs[i]])) acc;unfold offC;omega) (fun r hrm=>?_),QrU]
   obtain⟨y,hy,hyr⟩:=U r (aLp _ hrm);refine⟨y,List.mem_filter.2 ⟨hy,?_⟩,hyr⟩;have:r ≠ rs[i]:=fun he=>by
    have hnd:(rs.drop i).Nodup:=hn.sublist (List.drop_sublist i rs)
    rw[aLr I,List.nodup_cons,<-he] at hnd;exact hnd.1 hrm
   simp[hyr,this]
 have:=key rs.length 0 c (by omega) hr hl (by rw[List.drop_zero];exact hall)
 rw[List.drop_zero] at this;show ((Qc f (c,0)).bind _)=_
 rw[show ((0:Nat):Int)=0 from rfl] at this
 rw[this];rfl
theorem Qkz {c:List TCoin} (h:Zv c=0) (p:TCoin->Bool):Zv (c.filter p)=0:=
 QlX (Nat.le_trans (List.length_filter_le _ _) (YK h).1) (Qf0 (QeK h) p) fun x I=>Qko h x (List.mem_filter.1 I).1
theorem QkO {c:List TCoin} (J:Zv c=0) {t:TX} (U:mTxF t=0) (hs:(mSp c t).length=t.2.2.1.length) {id:Int} (hid:mIn id 1 60=true) {h:Int} (hh:mIn h 0 999=true) :
  QcM c t id h=some (((Qbs c t id h).2,(Qbs c t id h).1),c):=by
 have hB:BIG=4611686018427387904:=rfl
 have I:=J0 U
 have hcl:=(YK J).1
 unfold QcM QeL Qbs;rw[QeR c (by omega) (fun x hx=>by have:=YP J x hx;omega),aLc,J,Qcz t I.b,aLc,U,QeT J t (by have:=I.li;omega),aLc,aLE hs]
 simp only[decide_true,Bool.not_true,aLC,aLc];rw[Qi7 _ (by omega),aLc]
 cases hany:c.any fun x=>decide (x.1.1=id) with
 | true=>rfl
 | false=>
  rw[aLC,if_neg (by simp),Qms (QeK J) (by omega) (YP J) I.nd (by have:=I.li;omega) (QlK (QeK J) I.nd hs),aLc]
  show ((Ji (offC c t.2.2.1) id t.2.2.2 h false).bind _)=_
  rw[Qge (l:=offC c t.2.2.1) (Qkz J _) hid I.lo.2 (fun o ho=>(Qnv I o ho).1) hh false];rfl
theorem Qmg {l:List TCoin} (hc:Zv l=0) {id:Int} (hid:mIn id 1 60=true) {outs:List TOut} (hn:outs.length<=4) (ho:∀o,o ∈ outs->mOut o=0) {h:Int} (hh:mIn h 0 999=true) {m:Bool} (J:(QbQ l id outs h m).2=0):Zv (QbQ l id outs h m).1=0:=by
 unfold QbQ at J ⊢;split at J
 ·cases J
 ·rename_i hb
  split at J
  ·cases J
  ·rename_i U
   rw[if_neg hb,if_neg U];have I:=QgG (QaF id h m 0 outs) l
   refine QlX (by rw[I.length_eq,aLi,Qjs];omega) (QgK _ 0 _ (QeK hc) fun y hy h1=>absurd (List.any_eq_true.2 ⟨y,hy,aLE h1⟩) hb) fun x hx=>?_
   rcases List.mem_append.1 (I.mem_iff.1 hx) with h1 | h1
   ·exact Qko hc x h1
   ·obtain⟨n1,n2,n3,n4,n5⟩:=Qnh h1
    exact⟨JO.2 ⟨by rw[n1];exact QE.1 hid,by omega,by omega⟩,by rw[n5];exact hh,ho _ n4⟩
theorem Qow {c:List TCoin} (U:Zv c=0) {t:TX} (J:okT t) {id:Int} (hid:mIn id 1 60=true) {h:Int} (hh:mIn h 0 999=true) (I:(Qbs c t id h).2=0):Zv (Qbs c t id h).1=0:=by
 unfold Qbs at I ⊢;split at I
 ·cases I
 ·rename_i hb
  rw[if_neg hb];exact Qmg (Qkz U _) hid J.lo.2 (fun o ho=>(Qnv J o ho).1) hh I
end GL
end Go.Dx
