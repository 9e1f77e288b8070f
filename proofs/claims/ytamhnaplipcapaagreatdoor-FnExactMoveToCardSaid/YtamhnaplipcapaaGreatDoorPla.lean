/- The plain law: no program in sight -/
import Derived.Test.YtamhnaplipcapaaGreatDoorSca
set_option linter.unusedVariables false
set_option linter.unusedSimpArgs false
set_option maxHeartbeats 1000000
namespace Go.Dx
namespace GL
open IntKind Sum
abbrev TCoin:=(Int×Int)×(Int×List Int×Int×Int)×Int×Bool
abbrev TM:=Int×Int×Int
abbrev TUndo:=Int×List (List TCoin)×List TM
abbrev TState:=Int×Int×List TCoin×List TM
abbrev TChain:=(List (List UInt8)×List (Int×Int))×List TM×List Int×TState×List TUndo
def Qhn (l:List (List UInt8)):Nat:=l.length+(l.map List.length).sum
def QbN (c:TCoin):Nat:=c.2.1.2.1.length
def Jr (l:List TCoin):Nat:=l.length+(l.map QbN).sum
def Qdm (l:List (List TCoin)):Nat:=l.length+(l.map Jr).sum
def Y8 (u:TUndo):Nat:=Qdm u.2.1+u.2.2.length
def Qdv (l:List TUndo):Nat:=l.length+(l.map Y8).sum
def Qf5 (s:TState):Nat:=Jr s.2.2.1+s.2.2.2.length
def JY (c:TChain):Nat:=((((Qhn c.1.1+c.1.2.length)+c.2.1.length)+c.2.2.1.length)+Qf5 c.2.2.2.1)+Qdv c.2.2.2.2
def bL {α:Type} (p:α->Prop) (l:List α):Prop:=l.length<=9223372036854775807/\∀y,y ∈ l->p y
def bAny {α:Type} (_:α):Prop:=True
def JD (c:TCoin):Prop:=bL bAny c.2.1.2.1
def Qbc (u:TUndo):Prop:=bL (bL JD) u.2.1/\bL bAny u.2.2
def QiF (s:TState):Prop:=bL JD s.2.2.1/\bL bAny s.2.2.2
def Qgx (c:TChain):Prop:=(bL (bL bAny) c.1.1/\bL bAny c.1.2)/\bL bAny c.2.1/\bL bAny c.2.2.1/\QiF c.2.2.2.1/\bL Qbc c.2.2.2.2
theorem QfN {s:Sh} {p:s.den->Prop} (I:∀y,Bnd s y->p y) {l:List s.den} (h:Bnd (.list s) l):bL p l:=⟨h.1,fun y J=>I y (h.2 y J)⟩
theorem QQ (i n:Nat) (h:i<n) (I:n<=9223372036854775807):wrap .i64 ((i:Int)+1)=((i+1:Nat):Int):=by
 rw[Qy (by omega) (by omega)];omega
theorem Qnd (t:Nat) (left:Int) (c:Int) (h0:0<=left):(bif decide (szr t left<0) then (some (inr (inr (-1))):Option ((Int×Int)⊕(Int⊕Int))) else some (inl (szr t left,c)))=if (t:Int)<=left then some (inl (left - t,c)) else some (inr (inr (-1))):=by
 by_cases h:(t:Int)<=left
 ·have e:szr t left=left - t:=by simp[szr,h]
  have I:¬(left - (t:Int))<0:=by omega
  simp[e,I,h]
 ·have e:szr t left = -1:=by simp[szr,h]
  simp[e,h]
theorem QuP (t:Nat) (left:Int) (c:Int) (h0:0<=left) (h1:left<=1048576) (J:t<=9223372036854775807):(bif decide (wrap .i64 (left - (t:Int))<0) then (some (inr (inr (-1))):Option ((Int×Int)⊕(Int⊕Int))) else some (inl (wrap .i64 (left - (t:Int)),c)))=if (t:Int)<=left then some (inl (left - t,c)) else some (inr (inr (-1))):=by
 rw[Qy (by omega) (by omega)]
 by_cases h:(t:Int)<=left
 ·have I:¬(left - (t:Int))<0:=by omega
  simp[I,h]
 ·have I:(left - (t:Int))<0:=by omega
  simp[I,h]
theorem Qjw (left:Int) (h:0<=left):szr 0 left=left:=by simp[szr,h]
theorem Qnx (x:List (Int×Int)) (I:x.length<=9223372036854775807) (left:Int) (h0:0<=left) (h1:left<=1048576):QbQ x left=some (szr x.length left):=by
 unfold QbQ;exact Qdo (b:=0) (k:=fun l=>some l) h0 h1 I (fun h=>by rw[Qjw _ (by omega)])
theorem Qnc (x:List TM) (I:x.length<=9223372036854775807) (left:Int) (h0:0<=left) (h1:left<=1048576):Qb7 x left=some (szr x.length left):=by
 unfold Qb7;exact Qdo (b:=0) (k:=fun l=>some l) h0 h1 I (fun h=>by rw[Qjw _ (by omega)])
theorem Qh4 (x:List Int) (I:x.length<=9223372036854775807) (left:Int) (h0:0<=left) (h1:left<=1048576):YY x left=some (szr x.length left):=by
 unfold YY;exact Qdo (b:=0) (k:=fun l=>some l) h0 h1 I (fun h=>by rw[Qjw _ (by omega)])
theorem Qhs (x:List TM) (I:x.length<=9223372036854775807) (left:Int) (h0:0<=left) (h1:left<=1048576):YA x left=some (szr x.length left):=by
 unfold YA;exact Qdo (b:=0) (k:=fun l=>some l) h0 h1 I (fun h=>by rw[Qjw _ (by omega)])
theorem Qll (x:List (List UInt8)) (I:bL (bL bAny) x) (left:Int) (h0:0<=left) (h1:left<=1048576):Qcj x left=some (szr (Qhn x) left):=by
 unfold Qcj;refine Qdo (b:=(x.map List.length).sum) (k:=fun l=>(Qc _ (l,0)).bind _) h0 h1 I.1 (fun hle=>?_)
 refine QkC x List.length _ (fun i left h h0 h1=>?_) (fun left=>?_) _ (by omega) (by omega)
 ·have e1:decide ((i:Int)<(x.length:Int))=true:=by simpa using h
  simp only[e1,Qb x i h,Qa x i _ h,aLB,QQ i _ h I.1];exact QuP _ _ _ h0 h1 (I.2 _ (aLl h)).1
 ·simp
theorem QmC (x:List (List UInt8)×List (Int×Int)) (I:bL (bL bAny) x.1/\bL bAny x.2) (left:Int) (h0:0<=left) (h1:left<=1048576):Qdd x left=some (szr (Qhn x.1+x.2.length) left):=by
 unfold Qdd;rw[Qll _ I.1 _ h0 h1,aLc];refine Qjv _ _ _ (k:=fun y=>(QbQ x.2 y).bind fun J=>bif decide (J<0) then some (-1) else some J) h0 fun h=>?_
 have U:=QfA h
 rw[Qnx _ I.2.1 _ h (by omega),aLc]
 exact Qe9 _ _ h
theorem QoL (x:List Int×Int×Int) (I:x.1.length<=9223372036854775807) (left:Int) (h0:0<=left) (h1:left<=1048576):QeV x left=some (szr x.1.length left):=by
 unfold QeV;rw[Qh4 _ I _ h0 h1,aLc];exact Qe9 _ _ h0
theorem Qqg (x:Int×List Int×Int×Int) (I:x.2.1.length<=9223372036854775807) (left:Int) (h0:0<=left) (h1:left<=1048576):QfT x left=some (szr x.2.1.length left):=by
 unfold QfT;rw[QoL _ I _ h0 h1,aLc];exact Qe9 _ _ h0
theorem QoF (x:TCoin) (I:JD x) (left:Int) (h0:0<=left) (h1:left<=1048576):QeX x left=some (szr (QbN x) left):=by
 unfold QeX;rw[Qqg _ I.1 _ h0 h1,aLc];exact Qe9 _ _ h0
theorem QiG (x:List TCoin) (I:bL JD x) (left:Int) (h0:0<=left) (h1:left<=1048576):Qb6 x left=some (szr (x.length+(x.map QbN).sum) left):=by
 unfold Qb6;refine Qdo (b:=(x.map QbN).sum) (k:=fun l=>(Qc _ (l,0)).bind _) h0 h1 I.1 (fun hle=>?_)
 refine QkC x QbN _ (fun i left h h0 h1=>?_) (fun left=>?_) _ (by omega) (by omega)
 ·have e1:decide ((i:Int)<(x.length:Int))=true:=by simpa using h
  simp only[e1,Qb x i h,Qa x i _ h,aLB,QQ i _ h I.1,QoF _ (I.2 _ (aLl h)) _ h0 h1,aLc];exact Qnd _ _ _ h0
 ·simp
theorem Qmr (x:List (List TCoin)) (I:bL (bL JD) x) (left:Int) (h0:0<=left) (h1:left<=1048576):Qc2 x left=some (szr (x.length+(x.map Jr).sum) left):=by
 unfold Qc2;refine Qdo (b:=(x.map Jr).sum) (k:=fun l=>(Qc _ (l,0)).bind _) h0 h1 I.1 (fun hle=>?_)
 refine QkC x Jr _ (fun i left h h0 h1=>?_) (fun left=>?_) _ (by omega) (by omega)
 ·have e1:decide ((i:Int)<(x.length:Int))=true:=by simpa using h
  simp only[e1,Qb x i h,Qa x i _ h,aLB,QQ i _ h I.1,QiG _ (I.2 _ (aLl h)) _ h0 h1,aLc];exact Qnd _ _ _ h0
 ·simp
theorem QmK (x:TState) (I:QiF x) (left:Int) (h0:0<=left) (h1:left<=1048576):Ju x left=some (szr (Qf5 x) left):=by
 unfold Ju;rw[QiG _ I.1 _ h0 h1,aLc];refine Qjv _ _ _ (k:=fun y=>(YA x.2.2.2 y).bind fun J=>bif decide (J<0) then some (-1) else some J) h0 fun h=>?_
 have U:=QfA h
 rw[Qhs _ I.2.1 _ h (by omega),aLc]
 exact Qe9 _ _ h
theorem QoH (x:TUndo) (I:Qbc x) (left:Int) (h0:0<=left) (h1:left<=1048576):QeC x left=some (szr (Y8 x) left):=by
 unfold QeC;rw[Qmr _ I.1 _ h0 h1,aLc];refine Qjv _ _ _ (k:=fun y=>(YA x.2.2 y).bind fun J=>bif decide (J<0) then some (-1) else some J) h0 fun h=>?_
 have U:=QfA h
 rw[Qhs _ I.2.1 _ h (by omega),aLc]
 exact Qe9 _ _ h
theorem Qna (x:List TUndo) (I:bL Qbc x) (left:Int) (h0:0<=left) (h1:left<=1048576):YG x left=some (szr (x.length+(x.map Y8).sum) left):=by
 unfold YG;refine Qdo (b:=(x.map Y8).sum) (k:=fun l=>(Qc _ (l,0)).bind _) h0 h1 I.1 (fun hle=>?_)
 refine QkC x Y8 _ (fun i left h h0 h1=>?_) (fun left=>?_) _ (by omega) (by omega)
 ·have e1:decide ((i:Int)<(x.length:Int))=true:=by simpa using h
  simp only[e1,Qb x i h,Qa x i _ h,aLB,QQ i _ h I.1,QoH _ (I.2 _ (aLl h)) _ h0 h1,aLc];exact Qnd _ _ _ h0
 ·simp
theorem QiS (a b:Nat) (left:Int) (h:0<=szr a left):szr b (szr a left)=szr (a+b) left:=by
 have I:=QfA h
 rw[I.2];simp only[szr];split<;>split<;>omega
theorem QmY (x:TChain) (hx:Qgx x) (left:Int) (h0:0<=left) (h1:left<=1048576):Qed x left=some (szr (JY x) left):=by
 obtain⟨hb1,hb2,hb3,hb4,hb5⟩:=hx;unfold Qed;rw[QmC _ hb1 _ h0 h1,aLc];have fin:∀(a:Nat) (k:Int->Option Int) (b:Nat),(0<=szr a left->k (szr a left)=some (szr (a+b) left))->(bif decide (szr a left<0) then some (-1) else k (szr a left))=some (szr (a+b) left):=by
  intro a k b hk;exact Qjv a b left h0 (fun h=>by rw[hk h,QiS _ _ _ h])
 have e:JY x=Qhn x.1.1+x.1.2.length+(x.2.1.length+(x.2.2.1.length+(Qf5 x.2.2.2.1+Qdv x.2.2.2.2))):=by simp only[JY];omega
 rw[e];refine fin _ (fun y6=>(Qb7 x.2.1 y6).bind fun y7=>bif decide (y7<0) then some (-1) else (YY x.2.2.1 y7).bind fun U=>bif decide (U<0) then some (-1) else (Ju x.2.2.2.1 U).bind fun J=>bif decide (J<0) then some (-1) else (YG x.2.2.2.2 J).bind fun I=>bif decide (I<0) then some (-1) else some I) _ fun h=>?_
 have hl:=QfA h
 rw[Qnc _ hb2.1 _ h (by omega),aLc,QiS _ _ _ h,<-aMh]
 refine fin _ (fun y7=>(YY x.2.2.1 y7).bind fun U=>bif decide (U<0) then some (-1) else (Ju x.2.2.2.1 U).bind fun J=>bif decide (J<0) then some (-1) else (YG x.2.2.2.2 J).bind fun I=>bif decide (I<0) then some (-1) else some I) _ fun h=>?_
 have hl:=QfA h
 rw[Qh4 _ hb3.1 _ h (by omega),aLc,QiS _ _ _ h,<-aMh]
 refine fin _ (fun U=>(Ju x.2.2.2.1 U).bind fun J=>bif decide (J<0) then some (-1) else (YG x.2.2.2.2 J).bind fun I=>bif decide (I<0) then some (-1) else some I) _ fun h=>?_
 have hl:=QfA h
 rw[QmK _ hb4 _ h (by omega),aLc,QiS _ _ _ h,<-aMh]
 refine fin _ (fun J=>(YG x.2.2.2.2 J).bind fun I=>bif decide (I<0) then some (-1) else some I) _ fun h=>?_
 have hl:=QfA h
 rw[Qna _ hb5 _ h (by omega),aLc,QiS _ _ _ h]
 exact Qe9 _ _ h0
theorem QmF {α:Type} (m:α->Nat):∀(l:List α) (y:α),y ∈ l->m y<=(l.map m).sum
 | x::l,y,h=>by
  simp only[aMJ,List.sum_cons];cases List.mem_cons.1 h with
  | inl h=>subst h;omega
  | inr h=>have:=QmF m l y h;omega
theorem Qgy {n:Nat} (h:n<=1048576):(decide (0<=(n:Int))&&decide ((n:Int)<=(LIM:Int)))=true:=by
 have h1:(0:Int)<=n:=by omega
 have h2:(n:Int)<=(LIM:Int):=by unfold LIM;omega
 rw[aLE h1,aLE h2];rfl
theorem Qdh {α:Type} (l:List α) (d:α) (f:List α×Int->Option ((List α×Int)⊕List α)) (I:∀(i:Nat) (acc:List α) (h:i<l.length),acc.length=l.length->f (acc,(i:Int))=some (.inl (acc.set i l[i],((i+1:Nat):Int))))
  (J:∀acc,f (acc,(l.length:Int))=some (.inr acc)):(Qc f (List.replicate (Int.toNat (l.length:Int)) d,0)).bind (fun j=>some j)=some l:=by
 rw[show Int.toNat (l.length:Int)=l.length by simp,QvU l d f I J];rfl
theorem Qlo (x:List (List UInt8)) (I:x.length<=1048576):Qcp x=some x:=by
 unfold Qcp;have J:x.length<=1048576:=by exact I
 rw[Qgy J,aLB];refine Qdh x [] _ (fun i acc h ha=>?_) (fun acc=>?_)
 ·have e1:decide ((i:Int)<(x.length:Int))=true:=by simpa using h
  have U:inB (i:Int) acc=true:=Qb acc i (by omega)
  have e3:Int.toNat (i:Int)=i:=by simp
  simp only[e1,Qb x i h,U,aLB,Qa x i _ h,QQ i _ h (by omega)]
  rw[e3]
 ·simp
theorem Qot (x:Int×Int):QeP x=some x:=rfl
theorem QoO (x:TM):QeN x=some x:=rfl
theorem Qky (x:Int×Int):QfS x=some x:=rfl
theorem QlX (x:TM):QaX x=some x:=by unfold QaX;rw[Qky,aLc]
theorem QmL (x:List (Int×Int)) (J:x.length<=1048576):Qeb x=some x:=by
 unfold Qeb;have U:x.length<=1048576:=by exact J
 rw[Qgy U,aLB];refine Qdh x (0,0) _ (fun i acc h ha=>?_) (fun acc=>?_)
 ·have e1:decide ((i:Int)<(x.length:Int))=true:=by simpa using h
  have e2:inB (i:Int) acc=true:=Qb acc i (by omega)
  have e3:Int.toNat (i:Int)=i:=by simp
  have I:QeP (List.getD x (Int.toNat (i:Int)) (0,0))=some x[i]:=by rw[Qa x i _ h];exact Qot _
  simp only[e1,Qb x i h,e2,aLB,I,aLc,QQ i _ h (by omega)]
  rw[e3]
 ·simp
theorem QmR (x:List TM) (J:x.length<=1048576):QdS x=some x:=by
 unfold QdS;have U:x.length<=1048576:=by exact J
 rw[Qgy U,aLB];refine Qdh x (0,(0,0)) _ (fun i acc h ha=>?_) (fun acc=>?_)
 ·have e1:decide ((i:Int)<(x.length:Int))=true:=by simpa using h
  have e2:inB (i:Int) acc=true:=Qb acc i (by omega)
  have e3:Int.toNat (i:Int)=i:=by simp
  have I:QeN (List.getD x (Int.toNat (i:Int)) (0,(0,0)))=some x[i]:=by rw[Qa x i _ h];exact QoO _
  simp only[e1,Qb x i h,e2,aLB,I,aLc,QQ i _ h (by omega)]
  rw[e3]
 ·simp
theorem Qif (x:List Int) (I:x.length<=1048576):Qa5 x=some x:=by
 unfold Qa5;have J:x.length<=1048576:=by exact I
 rw[Qgy J,aLB];refine Qdh x 0 _ (fun i acc h ha=>?_) (fun acc=>?_)
 ·have e1:decide ((i:Int)<(x.length:Int))=true:=by simpa using h
  have U:inB (i:Int) acc=true:=Qb acc i (by omega)
  have e3:Int.toNat (i:Int)=i:=by simp
  simp only[e1,Qb x i h,U,aLB,Qa x i _ h,QQ i _ h (by omega)]
  rw[e3]
 ·simp
theorem QhA (x:List TM) (J:x.length<=1048576):Qav x=some x:=by
 unfold Qav;have U:x.length<=1048576:=by exact J
 rw[Qgy U,aLB];refine Qdh x (0,(0,0)) _ (fun i acc h ha=>?_) (fun acc=>?_)
 ·have e1:decide ((i:Int)<(x.length:Int))=true:=by simpa using h
  have e2:inB (i:Int) acc=true:=Qb acc i (by omega)
  have e3:Int.toNat (i:Int)=i:=by simp
  have I:QaX (List.getD x (Int.toNat (i:Int)) (0,(0,0)))=some x[i]:=by rw[Qa x i _ h];exact QlX _
  simp only[e1,Qb x i h,e2,aLB,I,aLc,QQ i _ h (by omega)]
  rw[e3]
 ·simp
theorem Qmc (x:List (List UInt8)×List (Int×Int)) (h1:x.1.length<=1048576) (h2:x.2.length<=1048576):Qde x=some x:=by
 unfold Qde;rw[Qlo _ h1,aLc,QmL _ h2,aLc]
theorem QoE (x:List Int×Int×Int) (h:x.1.length<=1048576):QeU x=some x:=by
 unfold QeU;rw[Qif _ h,aLc]
theorem QpO (x:Int×List Int×Int×Int) (h:x.2.1.length<=1048576):QfD x=some x:=by
 unfold QfD;rw[QoE _ h,aLc]
theorem QoT (x:TCoin) (h:QbN x<=1048576):QcN x=some x:=by
 unfold QcN;rw[Qky,aLc,QpO _ h,aLc]
theorem QiJ (x:List TCoin) (hx:Jr x<=1048576):Qao x=some x:=by
 unfold Qao;have J:x.length<=1048576:=by have:x.length<=Jr x:=Nat.le_add_right _ _;omega
 rw[Qgy J,aLB];refine Qdh x ((0,0),((0,([],(0,0))),(0,false))) _ (fun i acc h ha=>?_) (fun acc=>?_)
 ·have e1:decide ((i:Int)<(x.length:Int))=true:=by simpa using h
  have U:inB (i:Int) acc=true:=Qb acc i (by omega)
  have e3:Int.toNat (i:Int)=i:=by simp
  have hm:QbN x[i]<=1048576:=by
   have h1:=QmF QbN x _ (aLl h)
   have h2:(x.map QbN).sum<=Jr x:=Nat.le_add_left _ _
   omega
  have I:QcN (List.getD x (Int.toNat (i:Int)) ((0,0),((0,([],(0,0))),(0,false))))=some x[i]:=by rw[Qa x i _ h];exact QoT _ hm
  simp only[e1,Qb x i h,U,aLB,I,aLc,QQ i _ h (by omega)]
  rw[e3]
 ·simp
theorem Qmu (x:List (List TCoin)) (hx:Qdm x<=1048576):QcX x=some x:=by
 unfold QcX;have J:x.length<=1048576:=by have:x.length<=Qdm x:=Nat.le_add_right _ _;omega
 rw[Qgy J,aLB];refine Qdh x [] _ (fun i acc h ha=>?_) (fun acc=>?_)
 ·have e1:decide ((i:Int)<(x.length:Int))=true:=by simpa using h
  have U:inB (i:Int) acc=true:=Qb acc i (by omega)
  have e3:Int.toNat (i:Int)=i:=by simp
  have hm:Jr x[i]<=1048576:=by
   have h1:=QmF Jr x _ (aLl h)
   have h2:(x.map Jr).sum<=Qdm x:=Nat.le_add_left _ _
   omega
  have I:Qao (List.getD x (Int.toNat (i:Int)) [])=some x[i]:=by rw[Qa x i _ h];exact QiJ _ hm
  simp only[e1,Qb x i h,U,aLB,I,aLc,QQ i _ h (by omega)]
  rw[e3]
 ·simp
theorem Qm1 (x:TState) (h:Qf5 x<=1048576):Qd6 x=some x:=by
 simp only[Qf5] at h;unfold Qd6;rw[QiJ _ (by omega),aLc,QhA _ (by omega),aLc]
theorem Qo1 (x:TUndo) (h:Y8 x<=1048576):QcF x=some x:=by
 simp only[Y8] at h;unfold QcF;rw[Qmu _ (by omega),aLc,QhA _ (by omega),aLc]
theorem Qne (x:List TUndo) (hx:Qdv x<=1048576):Qd1 x=some x:=by
 unfold Qd1;have J:x.length<=1048576:=by have:x.length<=Qdv x:=Nat.le_add_right _ _;omega
 rw[Qgy J,aLB];refine Qdh x (0,([],[])) _ (fun i acc h ha=>?_) (fun acc=>?_)
 ·have e1:decide ((i:Int)<(x.length:Int))=true:=by simpa using h
  have U:inB (i:Int) acc=true:=Qb acc i (by omega)
  have e3:Int.toNat (i:Int)=i:=by simp
  have hm:Y8 x[i]<=1048576:=by
   have h1:=QmF Y8 x _ (aLl h)
   have h2:(x.map Y8).sum<=Qdv x:=Nat.le_add_left _ _
   omega
  have I:QcF (List.getD x (Int.toNat (i:Int)) (0,([],[])))=some x[i]:=by rw[Qa x i _ h];exact Qo1 _ hm
  simp only[e1,Qb x i h,U,aLB,I,aLc,QQ i _ h (by omega)]
  rw[e3]
 ·simp
theorem QmN (x:TChain) (h:JY x<=1048576):Jk x=some x:=by
 simp only[JY] at h;have h0:x.1.1.length<=Qhn x.1.1:=Nat.le_add_right _ _
 unfold Jk;rw[Qmc _ (by omega) (by omega),aLc,QmR _ (by omega),aLc,Qif _ (by omega),aLc,Qm1 _ (by omega),aLc,Qne _ (by omega),aLc]
set_option synthInstance.maxSize 1000
set_option synthInstance.maxHeartbeats 400000
instance Qw9:DecidableEq TCoin:=inferInstance
instance Qw6:DecidableEq (List TCoin):=instDecidableEqList
instance Qw4:DecidableEq (List (List TCoin)):=instDecidableEqList
instance Qxa:DecidableEq TUndo:=inferInstance
instance Qw7:DecidableEq (List TUndo):=instDecidableEqList
instance Qw5:DecidableEq TState:=inferInstance
instance Qw8:DecidableEq TChain:=inferInstance
theorem beq2 (a b:Int×Int):Sh.beq (.prod (.int .i64) (.int .i64)) a b=decide (a=b):=by
 obtain⟨I,a2⟩:=a;obtain⟨J,U⟩:=b;simp only[Sh.beq];by_cases h1:I=J<;>by_cases h2:a2=U<;>simp[h1,h2]
theorem beq3 (a b:TM):Sh.beq (.prod (.int .i64) (.prod (.int .i64) (.int .i64))) a b=decide (a=b):=by
 obtain⟨I,a2,a3⟩:=a;obtain⟨J,U,b3⟩:=b;simp only[Sh.beq];by_cases h1:I=J<;>by_cases h2:a2=U<;>by_cases h3:a3=b3<;>simp[h1,h2,h3]
theorem beqB (a b:Bool):Sh.beq .bool a b=decide (a=b):=rfl
theorem Jd {p:Prop} [Decidable p] (w:Int):(bif !decide p then (some (inr (inr false)):Option (Int⊕(Unit⊕Bool))) else some (inl w))=if p then some (inl w) else some (inr (inr false)):=by
 by_cases h:p<;>simp[h]
theorem Jc {α:Type} [DecidableEq α] {x y:List α} (h:¬x.length=y.length):decide (x=y)=false:=aLD (fun he=>h (by rw[he]))
theorem Qlq (x y:List (List UInt8)) (hx:bL (bL bAny) x):Qcf x y=some (decide (x=y)):=by
 unfold Qcf;by_cases I:x.length=y.length
 ·have J:decide ((x.length:Int)=(y.length:Int))=true:=by simp[I]
  rw[J,aMa,aLC];refine YK x y I _ (fun i h U=>?_) ?_
  ·have e1:decide ((i:Int)<(x.length:Int))=true:=by simpa using h
   simp only[e1,Qb x i h,Qb y i U,Qa x i _ h,Qa y i _ U,aLB,QQ i _ h hx.1];exact Jd _
  ·simp
 ·have J:decide ((x.length:Int)=(y.length:Int))=false:=aLD (fun h=>I (by omega))
  rw[J,Jc I];rfl
theorem QoQ (x y:Int×Int):Qe3 x y=some (decide (x=y)):=by
 unfold Qe3;obtain⟨I,a2⟩:=x;obtain⟨J,U⟩:=y;by_cases h1:I=J<;>by_cases h2:a2=U<;>simp[h1,h2]
theorem Qkr (x y:Int×Int):Qdl x y=some (decide (x=y)):=by
 unfold Qdl;obtain⟨I,a2⟩:=x;obtain⟨J,U⟩:=y;by_cases h1:I=J<;>by_cases h2:a2=U<;>simp[h1,h2]
theorem Qos (x y:TM):QeR x y=some (decide (x=y)):=by
 unfold QeR;obtain⟨I,a2,a3⟩:=x;obtain⟨J,U,b3⟩:=y;by_cases h1:I=J<;>by_cases h2:a2=U<;>by_cases h3:a3=b3<;>simp[h1,h2,h3]
theorem QlZ (x y:TM):Qdb x y=some (decide (x=y)):=by
 unfold Qdb;rw[Qkr];obtain⟨I,a2⟩:=x;obtain⟨J,U⟩:=y;by_cases h1:I=J<;>by_cases h2:a2=U<;>simp[h1,h2]
theorem QmW (x y:List (Int×Int)) (hx:bL bAny x):Qec x y=some (decide (x=y)):=by
 unfold Qec;by_cases I:x.length=y.length
 ·have J:decide ((x.length:Int)=(y.length:Int))=true:=by simp[I]
  rw[J,aMa,aLC];refine YK x y I _ (fun i h U=>?_) ?_
  ·have e1:decide ((i:Int)<(x.length:Int))=true:=by simpa using h
   simp only[e1,Qb x i h,Qb y i U,Qa x i _ h,Qa y i _ U,aLB,QQ i _ h hx.1,QoQ,aLc];exact Jd _
  ·simp
 ·have J:decide ((x.length:Int)=(y.length:Int))=false:=aLD (fun h=>I (by omega))
  rw[J,Jc I];rfl
theorem Qnj (x y:List TM) (hx:bL bAny x):QdT x y=some (decide (x=y)):=by
 unfold QdT;by_cases I:x.length=y.length
 ·have J:decide ((x.length:Int)=(y.length:Int))=true:=by simp[I]
  rw[J,aMa,aLC];refine YK x y I _ (fun i h U=>?_) ?_
  ·have e1:decide ((i:Int)<(x.length:Int))=true:=by simpa using h
   simp only[e1,Qb x i h,Qb y i U,Qa x i _ h,Qa y i _ U,aLB,QQ i _ h hx.1,Qos,aLc];exact Jd _
  ·simp
 ·have J:decide ((x.length:Int)=(y.length:Int))=false:=aLD (fun h=>I (by omega))
  rw[J,Jc I];rfl
theorem QhD (x y:List TM) (hx:bL bAny x):QaH x y=some (decide (x=y)):=by
 unfold QaH;by_cases I:x.length=y.length
 ·have J:decide ((x.length:Int)=(y.length:Int))=true:=by simp[I]
  rw[J,aMa,aLC];refine YK x y I _ (fun i h U=>?_) ?_
  ·have e1:decide ((i:Int)<(x.length:Int))=true:=by simpa using h
   simp only[e1,Qb x i h,Qb y i U,Qa x i _ h,Qa y i _ U,aLB,QQ i _ h hx.1,QlZ,aLc];exact Jd _
  ·simp
 ·have J:decide ((x.length:Int)=(y.length:Int))=false:=aLD (fun h=>I (by omega))
  rw[J,Jc I];rfl
theorem QhR (x y:List Int) (hx:bL bAny x):Qbj x y=some (decide (x=y)):=by
 unfold Qbj;by_cases I:x.length=y.length
 ·have J:decide ((x.length:Int)=(y.length:Int))=true:=by simp[I]
  rw[J,aMa,aLC];refine YK x y I _ (fun i h U=>?_) ?_
  ·have e1:decide ((i:Int)<(x.length:Int))=true:=by simpa using h
   simp only[e1,Qb x i h,Qb y i U,Qa x i _ h,Qa y i _ U,aLB,QQ i _ h hx.1];exact Jd _
  ·simp
 ·have J:decide ((x.length:Int)=(y.length:Int))=false:=aLD (fun h=>I (by omega))
  rw[J,Jc I];rfl
theorem Qmp (x y:List (List UInt8)×List (Int×Int)) (I:bL (bL bAny) x.1/\bL bAny x.2):QcW x y=some (decide (x=y)):=by
 unfold QcW;obtain⟨J,a2⟩:=x;obtain⟨U,b2⟩:=y;rw[Qlq _ _ I.1,QmW _ _ I.2];by_cases h1:J=U<;>by_cases h2:a2=b2<;>simp[h1,h2]
theorem QoM (x y:List Int×Int×Int) (I:bL bAny x.1):QeT x y=some (decide (x=y)):=by
 unfold QeT;obtain⟨J,a2,a3⟩:=x;obtain⟨U,b2,b3⟩:=y;rw[QhR _ _ I];by_cases h1:J=U<;>by_cases h2:a2=b2<;>by_cases h3:a3=b3<;>simp[h1,h2,h3]
theorem QpB (x y:Int×List Int×Int×Int) (I:bL bAny x.2.1):Qfz x y=some (decide (x=y)):=by
 unfold Qfz;obtain⟨J,a2⟩:=x;obtain⟨U,b2⟩:=y;rw[QoM _ _ I];by_cases h1:J=U<;>by_cases h2:a2=b2<;>simp[h1,h2]
theorem Qox (x y:TCoin) (I:JD x):QeA x y=some (decide (x=y)):=by
 unfold QeA;obtain⟨J,a2,a3,a4⟩:=x;obtain⟨U,b2,b3,b4⟩:=y;rw[QpB _ _ I,Qkr,beqB];by_cases h1:J=U<;>by_cases h2:a2=b2<;>by_cases h3:a3=b3<;>by_cases h4:a4=b4<;>simp[h1,h2,h3,h4]
theorem QiA (x y:List TCoin) (U:bL JD x):Qb1 x y=some (decide (x=y)):=by
 unfold Qb1;by_cases I:x.length=y.length
 ·have J:decide ((x.length:Int)=(y.length:Int))=true:=by simp[I]
  rw[J,aMa,aLC];refine YK x y I _ (fun i h h'=>?_) ?_
  ·have e1:decide ((i:Int)<(x.length:Int))=true:=by simpa using h
   simp only[e1,Qb x i h,Qb y i h',Qa x i _ h,Qa y i _ h',aLB,QQ i _ h U.1,Qox _ _ (U.2 _ (aLl h)),aLc];exact Jd _
  ·simp
 ·have J:decide ((x.length:Int)=(y.length:Int))=false:=aLD (fun h=>I (by omega))
  rw[J,Jc I];rfl
theorem QmB (x y:List (List TCoin)) (U:bL (bL JD) x):Qc4 x y=some (decide (x=y)):=by
 unfold Qc4;by_cases I:x.length=y.length
 ·have J:decide ((x.length:Int)=(y.length:Int))=true:=by simp[I]
  rw[J,aMa,aLC];refine YK x y I _ (fun i h h'=>?_) ?_
  ·have e1:decide ((i:Int)<(x.length:Int))=true:=by simpa using h
   simp only[e1,Qb x i h,Qb y i h',Qa x i _ h,Qa y i _ h',aLB,QQ i _ h U.1,QiA _ _ (U.2 _ (aLl h)),aLc];exact Jd _
  ·simp
 ·have J:decide ((x.length:Int)=(y.length:Int))=false:=aLD (fun h=>I (by omega))
  rw[J,Jc I];rfl
theorem QnA (x y:TState) (I:QiF x):Qea x y=some (decide (x=y)):=by
 unfold Qea;obtain⟨J,a2,a3,a4⟩:=x;obtain⟨U,b2,b3,b4⟩:=y;rw[QiA _ _ I.1,QhD _ _ I.2];by_cases h1:J=U<;>by_cases h2:a2=b2<;>by_cases h3:a3=b3<;>by_cases h4:a4=b4<;>simp[h1,h2,h3,h4]
theorem QoS (x y:TUndo) (I:Qbc x):Qez x y=some (decide (x=y)):=by
 unfold Qez;obtain⟨J,a2,a3⟩:=x;obtain⟨U,b2,b3⟩:=y;rw[QmB _ _ I.1,QhD _ _ I.2];by_cases h1:J=U<;>by_cases h2:a2=b2<;>by_cases h3:a3=b3<;>simp[h1,h2,h3]
theorem QmV (x y:List TUndo) (U:bL Qbc x):QdK x y=some (decide (x=y)):=by
 unfold QdK;by_cases I:x.length=y.length
 ·have J:decide ((x.length:Int)=(y.length:Int))=true:=by simp[I]
  rw[J,aMa,aLC];refine YK x y I _ (fun i h h'=>?_) ?_
  ·have e1:decide ((i:Int)<(x.length:Int))=true:=by simpa using h
   simp only[e1,Qb x i h,Qb y i h',Qa x i _ h,Qa y i _ h',aLB,QQ i _ h U.1,QoS _ _ (U.2 _ (aLl h)),aLc];exact Jd _
  ·simp
 ·have J:decide ((x.length:Int)=(y.length:Int))=false:=aLD (fun h=>I (by omega))
  rw[J,Jc I];rfl
theorem Qiw (x y:TChain) (hx:Qgx x):Qb4 x y=some (decide (x=y)):=by
 unfold Qb4;obtain⟨I,J,U,hb4,hb5⟩:=hx;obtain⟨a1,a2,a3,a4,a5⟩:=x;obtain⟨b1,b2,b3,b4,b5⟩:=y;rw[Qmp _ _ I,Qnj _ _ J,QhR _ _ U,QnA _ _ hb4,QmV _ _ hb5];by_cases h1:a1=b1<;>by_cases h2:a2=b2<;>by_cases h3:a3=b3<;>by_cases h4:a4=b4<;>by_cases h5:a5=b5<;>simp[h1,h2,h3,h4,h5]
theorem Qgv (x y:List Int) (hx:bL bAny x):Ym x y=some (decide (x=y)):=by
 unfold Ym;by_cases I:x.length=y.length
 ·have J:decide ((x.length:Int)=(y.length:Int))=true:=by simp[I]
  rw[J,aMa,aLC];refine YK x y I _ (fun i h U=>?_) ?_
  ·have e1:decide ((i:Int)<(x.length:Int))=true:=by simpa using h
   simp only[e1,Qb x i h,Qb y i U,Qa x i _ h,Qa y i _ U,aLB,QQ i _ h hx.1];exact Jd _
  ·simp
 ·have J:decide ((x.length:Int)=(y.length:Int))=false:=aLD (fun h=>I (by omega))
  rw[J,Jc I];rfl
theorem QcL (x y:List TM) (hx:bL bAny x):Zq x y=some (decide (x=y)):=by
 unfold Zq;by_cases I:x.length=y.length
 ·have J:decide ((x.length:Int)=(y.length:Int))=true:=by simp[I]
  rw[J,aMa,aLC];refine YK x y I _ (fun i h U=>?_) ?_
  ·have e1:decide ((i:Int)<(x.length:Int))=true:=by simpa using h
   simp only[e1,Qb x i h,Qb y i U,Qa x i _ h,Qa y i _ U,aLB,QQ i _ h hx.1,beq3];exact Jd _
  ·simp
 ·have J:decide ((x.length:Int)=(y.length:Int))=false:=aLD (fun h=>I (by omega))
  rw[J,Jc I];rfl
theorem Qln (x y:List Int×Int×Int) (I:bL bAny x.1):Qcl x y=some (decide (x=y)):=by
 unfold Qcl;obtain⟨J,a2,a3⟩:=x;obtain⟨U,b2,b3⟩:=y;rw[Qgv _ _ I];by_cases h1:J=U<;>by_cases h2:a2=b2<;>by_cases h3:a3=b3<;>simp[h1,h2,h3]
theorem Qik (x y:Int×List Int×Int×Int) (I:bL bAny x.2.1):Qbn x y=some (decide (x=y)):=by
 unfold Qbn;obtain⟨J,a2⟩:=x;obtain⟨U,b2⟩:=y;rw[Qln _ _ I];by_cases h1:J=U<;>by_cases h2:a2=b2<;>simp[h1,h2]
theorem Ql8 (x y:TCoin) (I:JD x):Qc0 x y=some (decide (x=y)):=by
 unfold Qc0;obtain⟨J,a2,a3,a4⟩:=x;obtain⟨U,b2,b3,b4⟩:=y;rw[Qik _ _ I,beqB,beq2];by_cases h1:J=U<;>by_cases h2:a2=b2<;>by_cases h3:a3=b3<;>by_cases h4:a4=b4<;>simp[h1,h2,h3,h4]
theorem Y5 (x y:List TCoin) (g:TCoin->TCoin->Option Bool) (hg:∀a b,JD a->g a b=some (decide (a=b))) (U:bL JD x):QF x y g=some (decide (x=y)):=by
 unfold QF;by_cases I:x.length=y.length
 ·have J:decide ((x.length:Int)=(y.length:Int))=true:=by simp[I]
  rw[J,aMa,aLC];refine YK x y I _ (fun i h h'=>?_) ?_
  ·have e1:decide ((i:Int)<(x.length:Int))=true:=by simpa using h
   simp only[e1,Qb x i h,Qb y i h',Qa x i _ h,Qa y i _ h',aLB,QQ i _ h U.1,hg _ _ (U.2 _ (aLl h)),aLc];exact Jd _
  ·simp
 ·have J:decide ((x.length:Int)=(y.length:Int))=false:=aLD (fun h=>I (by omega))
  rw[J,Jc I];rfl
theorem Qhv (x y:List TCoin) (I:bL JD x):QaI x y=some (decide (x=y)):=by
 unfold QaI;rw[Y5 x y _ (fun a b J=>by rw[Ql8 a b J];rfl) I];rfl
theorem QgE (x y:List TM) (I:bL bAny x):JL x y=some (decide (x=y)):=by
 unfold JL;rw[QcL _ _ I];rfl
theorem QkQ (x y:TState) (I:QiF x):QbA x y=some (decide (x=y)):=by
 unfold QbA;obtain⟨J,a2,a3,a4⟩:=x;obtain⟨U,b2,b3,b4⟩:=y;rw[Qhv _ _ I.1,QgE _ _ I.2];by_cases h1:J=U<;>by_cases h2:a2=b2<;>by_cases h3:a3=b3<;>by_cases h4:a4=b4<;>simp[h1,h2,h3,h4]
theorem QoX (x y:List Int) (hx:bL bAny x):QeL x y=some (decide (x=y)):=by
 unfold QeL;by_cases I:x.length=y.length
 ·have J:decide ((x.length:Int)=(y.length:Int))=true:=by simp[I]
  rw[J,aMa,aLC];refine YK x y I _ (fun i h U=>?_) ?_
  ·have e1:decide ((i:Int)<(x.length:Int))=true:=by simpa using h
   simp only[e1,Qb x i h,Qb y i U,Qa x i _ h,Qa y i _ U,aLB,QQ i _ h hx.1];exact Jd _
  ·simp
 ·have J:decide ((x.length:Int)=(y.length:Int))=false:=aLD (fun h=>I (by omega))
  rw[J,Jc I];rfl
theorem QjI (x y:List Int×Int×Int) (I:bL bAny x.1):QcK x y=some (decide (x=y)):=by
 unfold QcK;obtain⟨J,a2,a3⟩:=x;obtain⟨U,b2,b3⟩:=y;rw[QoX _ _ I];by_cases h1:J=U<;>by_cases h2:a2=b2<;>by_cases h3:a3=b3<;>simp[h1,h2,h3]
theorem QjF (x y:List TCoin) (U:bL JD x):QcE x y=some (decide (x=y)):=by
 unfold QcE;by_cases I:x.length=y.length
 ·have J:decide ((x.length:Int)=(y.length:Int))=true:=by simp[I]
  rw[J,aMa,aLC];refine YK x y I _ (fun i h h'=>?_) ?_
  ·have e1:decide ((i:Int)<(x.length:Int))=true:=by simpa using h
   simp only[e1,Qb x i h,Qb y i h',Qa x i _ h,Qa y i _ h',aLB,QQ i _ h U.1,beq2,beqB,QjI _ _ (U.2 _ (aLl h)),aLc];generalize x[i]=a;generalize y[i]=b;obtain⟨a1,⟨a2,a3⟩,a4,a5⟩:=a;obtain⟨b1,⟨b2,b3⟩,b4,b5⟩:=b;by_cases h1:a1=b1<;>by_cases h2:a2=b2<;>by_cases h3:a3=b3<;>by_cases h4:a4=b4<;>by_cases h5:a5=b5<;>simp[h1,h2,h3,h4,h5]
  ·simp
 ·have J:decide ((x.length:Int)=(y.length:Int))=false:=aLD (fun h=>I (by omega))
  rw[J,Jc I];rfl
theorem QjH (x y:List TM) (hx:bL bAny x):QcD x y=some (decide (x=y)):=by
 unfold QcD;by_cases I:x.length=y.length
 ·have J:decide ((x.length:Int)=(y.length:Int))=true:=by simp[I]
  rw[J,aMa,aLC];refine YK x y I _ (fun i h U=>?_) ?_
  ·have e1:decide ((i:Int)<(x.length:Int))=true:=by simpa using h
   simp only[e1,Qb x i h,Qb y i U,Qa x i _ h,Qa y i _ U,aLB,QQ i _ h hx.1,beq3];exact Jd _
  ·simp
 ·have J:decide ((x.length:Int)=(y.length:Int))=false:=aLD (fun h=>I (by omega))
  rw[J,Jc I];rfl
theorem QoV (x y:TState) (I:QiF x):Qew x y=some (decide (x=y)):=by
 unfold Qew;obtain⟨J,a2,a3,a4⟩:=x;obtain⟨U,b2,b3,b4⟩:=y;rw[QjF _ _ I.1,QjH _ _ I.2];by_cases h1:J=U<;>by_cases h2:a2=b2<;>by_cases h3:a3=b3<;>by_cases h4:a4=b4<;>simp[h1,h2,h3,h4]
def mIn (v lo hi:Int):Bool:=decide (lo<=v)&&decide (v<=hi)
theorem Zn (v lo hi:Int):QJ v lo hi=some (mIn v lo hi):=by
 unfold QJ mIn;cases decide (lo<=v)<;>rfl
theorem Zp (v lo hi:Int):QX v lo hi=some (mIn v lo hi):=by
 unfold QX mIn;cases decide (lo<=v)<;>rfl
theorem QdC (v:Int):JK v=some (mIn v 1 999):=by unfold JK;rw[Zn];rfl
theorem QdB (v:Int):JG v=some (mIn v 1 999):=by unfold JG;rw[Zp];rfl
theorem QcS (v:Int):JA v=some (mIn v 1 60):=by unfold JA;rw[Zp];rfl
def mRef (r:Int×Int):Bool:=mIn r.1 1 60&&mIn r.2 0 3
theorem QhM (r:Int×Int):Qaz r=some (mRef r):=by
 unfold Qaz mRef;rw[QcS,Zp];cases mIn r.1 1 60<;>rfl
theorem Qfv (r:Int×Int):QbW r=some (mRef r):=by
 unfold QbW mRef;rw[Zn,Zn];cases mIn r.1 1 60<;>rfl
theorem Qmv (l:List Int) (I:l.length<BIG) (p:Int->Bool) (f:Int->Option Bool) (J:∀a,a ∈ l->f a=some (p a)):ZV l f=some (idxF p l):=by
 unfold ZV;refine Yx l p _ (fun i h=>?_) (by simp only[dge,aLC])
 simp only[dlt h,Qb l i h,Qa l i _ h,aLB,J _ (aLl h),aLc,wsucc h I];cases p l[i]<;>rfl
theorem Qds (l:List Int) (I:l.length<BIG) (p:Int->Bool) (f:Int->Option Bool) (J:∀a,a ∈ l->f a=some (p a)):Q1 l f=some (l.any p):=by
 unfold Q1;rw[Qmv l I p f J,aLc,Zy]
theorem Qno (l:List Int) (I:l.length<BIG):QdL l=some (l.all fun k=>mIn k 1 999):=by
 unfold QdL;rw[Qds l I (fun k=>!mIn k 1 999) _ (fun a _=>by unfold Qeg;rw[QdB];rfl),aLc]
 rw[List.all_eq_not_any_not]
def Qf3 (l:List Int):Bool:=(List.range (l.length - 1)).all fun i=>decide (List.getD l i 0<List.getD l (i+1) 0)
theorem Qlg {β:Type} (l:List Int) (hl:l.length<BIG) (r:β) (f:Int->Option (Int⊕(Unit⊕β)))
  (I:∀(i:Nat),i+1<l.length->f ((i+1:Nat):Int)=some (if List.getD l (i+1) 0<=List.getD l i 0 then .inr (.inr r) else .inl ((i+2:Nat):Int))) (he:∀n:Nat,l.length<=n->f (n:Int)=some (.inr (.inl ()))) :
  Qc f 1=some (if Qf3 l then .inl () else .inr r):=by
 have key:∀(k i:Nat),i+k=l.length - 1->Qc f ((i+1:Nat):Int)=some (if (List.range' i k).all (fun i=>decide (List.getD l i 0<List.getD l (i+1) 0)) then .inl () else .inr r):=by
  intro k;induction k with
  | zero=>intro i hi;rw[Qe (he _ (by omega))];simp
  | succ k U=>
   intro i hi;have I:=I i (by omega)
   rw[List.range'_succ,List.all_cons];by_cases J:List.getD l (i+1) 0<=List.getD l i 0
   ·rw[if_pos J] at I
    rw[Qe I,aLD (p:=List.getD l i 0<List.getD l (i+1) 0) (by omega)];rfl
   ·rw[if_neg J] at I
    rw[Qo I,U (i+1) (by omega),aLE (p:=List.getD l i 0<List.getD l (i+1) 0) (by omega),aMz]
 have:=key (l.length - 1) 0 (by omega)
 rw[<-List.range_eq_range'] at this;exact this
theorem QkT (l:List Int) (I:l.length<BIG) (i:Nat) (h:i+1<l.length):decide (((i+1:Nat):Int)<(l.length:Int))=true/\inB ((i+1:Nat):Int) l=true/\inB (wrap .i64 (((i+1:Nat):Int) - 1)) l=true/\
  List.getD l (Int.toNat ((i+1:Nat):Int)) 0=List.getD l (i+1) 0/\List.getD l (Int.toNat (wrap .i64 (((i+1:Nat):Int) - 1))) 0=List.getD l i 0/\wrap .i64 (((i+1:Nat):Int)+1)=((i+2:Nat):Int):=by
 rw[wpred (i:=i) (n:=l.length) (by omega) I]
 exact⟨dlt h,Qb l _ h,Qb l _ (by omega),by simp,by simp,wsucc h I⟩
theorem dge' {i n:Nat} (h:n<=i):decide ((i:Int)<(n:Int))=false:=by simp;omega
theorem Ql1 (l:List Int) (J:l.length<BIG):Qda l=some (Qf3 l):=by
 unfold Qda;rw[Qlg l J false _ (fun i h=>by
  obtain⟨h1,h2,h3,h4,h5,h6⟩:=QkT l J i h;simp only[h1,h2,h3,h4,h5,h6,aLB];by_cases I:List.getD l (i+1) 0<=List.getD l i 0
  ·rw[if_pos I,aLE I];rfl
  ·rw[if_neg I,aLD I];rfl) (fun n U=>by simp only[dge' U,aLC]),aLc]
 cases Qf3 l<;>rfl
theorem QtN {β:Type} (l:List Int) (J:l.length<BIG) (r:β) (f:Int->Option (Int⊕(Unit⊕β)))
  (I:∀(i:Nat) (h:i<l.length),f (i:Int)=some (if mIn l[i] 1 999 then .inl ((i+1:Nat):Int) else .inr (.inr r))) (he:f (l.length:Int)=some (.inr (.inl ()))) :
  Qc f 0=some (if (l.all fun k=>mIn k 1 999) then .inl () else .inr r):=by
 rw[JC l (fun _ a=>if !mIn a 1 999 then some r else none) f (fun i h=>by rw[I i h];cases mIn l[i] 1 999<;>rfl) he,Qfl,List.all_eq_not_any_not]
 cases l.any fun x=>!mIn x 1 999<;>rfl
abbrev TRu:=List Int×Int×Int
abbrev TOut:=Int×List Int×Int×Int
def Zg (r:TRu):Int:=if mIn (r.1.length:Int) 1 3 then (if (r.1.all fun k=>mIn k 1 999)&&mIn r.2.1 1 (r.1.length:Int)&&mIn r.2.2 0 999 then (if Qf3 r.1 then 0 else 1) else 3) else 2
theorem Qa3 (n:Int):Yh n=some (mIn n 0 999):=by unfold Yh;rw[Zp];rfl
theorem Qc3 (n:Int):Y6 n=some (mIn n 0 999):=by unfold Y6;rw[Zn];rfl
theorem Qfk (r:TRu) (I:r.1.length<BIG):Jm r=some (Zg r):=by
 unfold Jm Zg;simp only[Zp,Qno _ I,Ql1 _ I,Qa3,aLc];cases mIn (r.1.length:Int) 1 3<;>cases (r.1.all fun k=>mIn k 1 999)<;>cases mIn r.2.1 1 (r.1.length:Int)<;>cases mIn r.2.2 0 999<;>cases Qf3 r.1<;>rfl
theorem Qf6 (r:TRu) (I:r.1.length<BIG):Qas r=some (Zg r):=by
 unfold Qas Zg;simp only[Zn,Qc3,aLc];rw[QtN r.1 I 3 _ (fun i h=>by
  simp only[dlt h,Qb r.1 i h,Qa r.1 i _ h,aLB,QdC,aLc,wsucc h I];cases mIn r.1[i] 1 999<;>rfl) (by simp only[dge,aLC]),aLc]
 cases mIn (r.1.length:Int) 1 3 with
 | false=>rfl
 | true=>
  cases (r.1.all fun k=>mIn k 1 999) with
  | false=>rfl
  | true=>
   simp only[aMa,aLC,if_true,Sum.elim_inl];rw[Qlg r.1 I 1 _ (fun i h=>by
    obtain⟨h1,h2,h3,h4,h5,h6⟩:=QkT r.1 I i h;simp only[h1,h2,h3,h4,h5,h6,aLB];by_cases J:List.getD r.1 (i+1) 0<=List.getD r.1 i 0
    ·rw[if_pos J,aLE J];rfl
    ·rw[if_neg J,aLD J];rfl) (fun n U=>by simp only[dge' U,aLC]),aLc]
   cases mIn r.2.1 1 (r.1.length:Int)<;>cases mIn r.2.2 0 999<;>cases Qf3 r.1<;>rfl
def mOut (o:TOut):Int:=if mIn o.1 1 1000000 then Zg o.2 else 3
theorem Qj9 (o:TOut) (I:o.2.1.length<BIG):QdD o=some (mOut o):=by
 unfold QdD mOut;rw[Zn,aLc,Qf6 _ I];cases mIn o.1 1 1000000<;>rfl
def Qv (a b:Int×Int):Bool:=if a.1=b.1 then decide (a.2<b.2) else decide (a.1<b.1)
theorem QiH (a b:Int×Int):QbM a b=some (Qv a b):=by
 unfold QbM Qv;by_cases h:a.1=b.1<;>simp[h]
def mCmp (a b:Int):Int:=if a<b then -1 else if b<a then 1 else 0
theorem QgK (a b:Int):Yn a b=some (mCmp a b):=by
 unfold Yn QbF mCmp;by_cases h1:a<b
 ·simp[h1]
 ·by_cases h2:b<a<;>simp[h1,h2]
theorem Qvr (a b:Int):Qfy [a,b]=some (if a=0 then b else a):=by
 unfold Qfy;by_cases I:a=0
 ·subst I
  rw[Qo (s':=(1:Int)) rfl];by_cases hb:b=0
  ·subst hb
   rw[Qo (s':=(2:Int)) rfl,Qe (x:=inl ()) rfl];rfl
  ·rw[Qe (x:=inr b) (by
    show (bif !decide (b=0) then some (inr (inr b)) else _)=_
    rw[aLD hb];rfl)]
   rfl
 ·rw[Qe (x:=inr a) (by
   show (bif !decide (a=0) then some (inr (inr a)) else _)=_
   rw[aLD I];rfl),if_neg I]
  rfl
def Qfx (a b:Int×Int):Int:=if mCmp a.1 b.1=0 then mCmp a.2 b.2 else mCmp a.1 b.1
theorem Qdr (a b:Int×Int):YJ a b=some (Qfx a b):=by
 unfold YJ Qfx;rw[QgK,QgK,aLc,aLc,Qvr];rfl
theorem Qmb (a b:Int×Int):decide (0<=Qfx a b) = !Qv a b:=by
 unfold Qfx Qv mCmp;by_cases h1:a.1<b.1
 ·have h3:¬a.1=b.1:=by omega
  simp[h1,h3]
 ·by_cases h2:b.1<a.1
  ·have h3:¬a.1=b.1:=by omega
   simp[h1,h2,h3]
  ·have h3:a.1=b.1:=by omega
   simp only[h1,h2,if_false,if_true,h3,Int.lt_irrefl];by_cases h4:a.2<b.2
   ·simp[h4]
   ·by_cases h5:b.2<a.2<;>simp[h4,h5]
def dC:TCoin:=((0,0),((0,([],(0,0))),(0,false)))
def QhV (l:List TCoin) (i:Nat) (x:TCoin):Int:=if mRef x.1&&mIn x.2.2.1 0 999 then (if mOut x.2.1=0 then (if decide (0<i)&&!Qv (List.getD l (i - 1) dC).1 x.1 then 1 else 0) else mOut x.2.1) else 3
def Q9 (l:List TCoin):Int:=if (40:Int)<(l.length:Int) then 2 else code (QhV l) l
theorem Qru (l:List TCoin) (I:l.length<BIG) (i:Nat) (h:i<l.length) (h0:0<i):inB (wrap .i64 ((i:Int) - 1)) l=true/\List.getD l (Int.toNat (wrap .i64 ((i:Int) - 1))) dC=List.getD l (i - 1) dC:=by
 obtain⟨j,rfl⟩:∃j,i=j+1:=⟨i - 1,by omega⟩
 rw[wpred (i:=j) (n:=l.length) (by omega) I]
 exact⟨Qb l j (by omega),by simp⟩
theorem Qap (l:List TCoin) (J:l.length<BIG) (hk:∀x,x ∈ l->x.2.1.2.1.length<BIG):Yd l=some (Q9 l):=by
 unfold Yd Q9;by_cases I:(40:Int)<(l.length:Int)
 ·rw[aLE I,if_pos I];rfl
 ·rw[aLD I,if_neg I,aLC]
  refine YD l (QhV l) _ (fun i h=>?_) (by simp only[dge,aLC])
  have U:=hk _ (aLl h)
  simp only[dlt h,Qb l i h,Qa l i _ h,aLB,wsucc h J,Qfv,Qc3,Qj9 _ U,QiH,aLc];unfold QhV;cases h1:mRef l[i].1<;>cases h2:mIn l[i].2.2.1 0 999<;>try rfl
  simp only[aMa,aLC,aLc,aMz,if_true];by_cases h3:mOut l[i].2.1=0
  ·rw[aLE h3]
   simp only[h3,aMa,aLC,if_true];by_cases h4:0<i
   ·obtain⟨e1,e2⟩:=Qru l J i h h4
    rw[show decide ((0:Int)<(i:Int))=true by simpa using h4,aLE h4,aLB,e1,aLB]
    show (Option.bind (some (!Qv (List.getD l (Int.toNat (wrap .i64 ((i:Int) - 1))) dC).1 l[i].1)) _)=_
    rw[e2];cases Qv (List.getD l (i - 1) dC).1 l[i].1<;>rfl
   ·rw[show decide ((0:Int)<(i:Int))=false by simpa using h4,aLD h4];rfl
  ·rw[aLD h3];simp[h3]
theorem QgS (l:List TCoin) (J:l.length<BIG) (hk:∀x,x ∈ l->x.2.1.2.1.length<BIG):J7 l=some (Q9 l):=by
 unfold J7 Q9;by_cases I:(40:Int)<(l.length:Int)
 ·rw[aLE I,if_pos I];rfl
 ·rw[aLD I,if_neg I,aLC]
  refine YD l (QhV l) _ (fun i h=>?_) (by simp only[dge,aLC])
  have U:=hk _ (aLl h)
  simp only[dlt h,Qb l i h,Qa l i _ h,aLB,wsucc h J,QhM,Qa3,Zp,Qfk _ U,Qdr,aLc];unfold QhV mOut;cases h1:mRef l[i].1<;>cases h2:mIn l[i].2.2.1 0 999<;>try rfl
  cases h5:mIn l[i].2.1.1 1 1000000<;>try rfl
  simp only[aMa,aLC,aLc,aMz,if_true];by_cases h3:Zg l[i].2.1.2=0
  ·rw[aLE h3]
   simp only[h3,aMa,aLC,if_true];by_cases h4:0<i
   ·obtain⟨e1,e2⟩:=Qru l J i h h4
    rw[show decide ((0:Int)<(i:Int))=true by simpa using h4,aLE h4,aLB,e1,aLB]
    show (Option.bind (some (decide (0<=Qfx (List.getD l (Int.toNat (wrap .i64 ((i:Int) - 1))) dC).1 l[i].1))) _)=_
    rw[e2,Qmb];cases Qv (List.getD l (i - 1) dC).1 l[i].1<;>rfl
   ·rw[show decide ((0:Int)<(i:Int))=false by simpa using h4,aLD h4];rfl
  ·rw[aLD h3];simp[h3]
theorem Qm {α:Type} {n:Nat} {x:Option α} (h:n<=LIM):(bif decide (n<=LIM) then x else none)=x:=by rw[aLE h];rfl
theorem Qct {n:Int} (h0:0<=n) (h1:n<=9223372036854775807):Y1 n=some (Lib.itoa n):=by
 unfold Y1 Qf0;rw[QvG n (by omega) h1];rfl
theorem Yl {n:Int} (h0:0<=n) (h1:n<=9223372036854775807):Zs n=some (Lib.itoa n):=Qwc h0 h1
theorem Qx {v a b:Int}:mIn v a b=true↔a<=v/\v<=b:=by simp[mIn]
structure okR (r:TRu):Prop where
 len:1<=r.1.length/\r.1.length<=3
 keys:∀k,k ∈ r.1->1<=k/\k<=999
 need:1<=r.2.1/\r.2.1<=3
 after:0<=r.2.2/\r.2.2<=999
theorem Yt {r:TRu} (h:Zg r=0):okR r:=by
 unfold Zg at h;cases h1:mIn (r.1.length:Int) 1 3 with
 | false=>rw[h1] at h;simp at h
 | true=>
  rw[h1,if_pos rfl] at h;cases h2:(r.1.all fun k=>mIn k 1 999) with
  | false=>rw[h2] at h;simp at h
  | true=>
   cases h3:mIn r.2.1 1 (r.1.length:Int) with
   | false=>rw[h3] at h;simp at h
   | true=>
    cases h4:mIn r.2.2 0 999 with
    | false=>rw[h4] at h;simp at h
    | true=>
     rw[Qx] at h1 h3 h4;rw[List.all_eq_true] at h2;exact⟨by omega,fun k hk=>Qx.1 (h2 k hk),by omega,h4⟩
theorem Zc {n:Int} (h0:0<=n) (h1:n<=1000000):(Lib.itoa n).length<=19:=Qp9 h0 (by omega)
def Zx (l:List Int) (sep:List UInt8):List UInt8:=Lib.join (l.map Lib.itoa) sep
theorem Qwj (l:List Int) (h:∀k,k ∈ l->0<=k/\k<=1000000):Lib.lens (l.map Lib.itoa)<=19 * l.length:=by
 induction l with
 | nil=>simp[Lib.lens]
 | cons a l I=>
  have h1:=I fun k hk=>h k (aLp _ hk)
  have h2:=Zc (h a aLm).1 (h a aLm).2
  simp only[Lib.lens,aMJ,List.map_map,List.sum_cons,aLh] at h1 ⊢;omega
theorem QcU (l:List Int) (sep:List UInt8) (h:∀k,k ∈ l->0<=k/\k<=1000000):(Zx l sep).length<=(19+sep.length) * l.length:=by
 unfold Zx;cases l with
 | nil=>simp[Lib.join_nil]
 | cons a l=>
  have:=Qwj (a::l) h
  rw[aMJ,Lib.join_length,aMH];rw[aMJ] at this;have e:(19+sep.length) * (a::l).length=19 * (a::l).length+(sep.length * l.length+sep.length):=by
   rw[aMq,aLh,Nat.mul_succ sep.length]
  omega
theorem QgN (l:List Int) (sep:List UInt8) (J:l.length<=100000) (U:sep.length<=100) (h:∀k,k ∈ l->0<=k/\k<=1000000):J3 l sep=some (Zx l sep):=by
 unfold J3;rw[Zv (σ:=List (List UInt8)) l (fun acc a=>acc++[Lib.itoa a]) (fun t i=>(t,i)) (fun t=>t) (fun t i=>t.length=i) _ (fun i hi t I=>by
   obtain⟨k0,k1⟩:=h _ (aLl hi);refine⟨?_,by simp[I]⟩
   simp only[dlt hi,Qb l i hi,Qa l i _ hi,aLB,Qct k0 (by omega),aLc,wsucc hi (by unfold BIG;omega)]
   rw[Qm (by simp only[aLh,aLj];unfold LIM;omega)];rfl) (fun t I=>by simp only[dge,aLC]) [] rfl,aLc,foldl_map,aLx]
 have h1:=QcU l sep h
 have h2:(19+sep.length) * l.length<=119 * 100000:=Nat.mul_le_mul (by omega) J
 unfold YF;rw[Qlx _ _ (by rw[aMH];omega) (by unfold Zx at h1;omega)];rfl
def QA (r:TRu) (b:List UInt8):List UInt8:=Lib.itoa r.2.1++b++[111,102]++b++Zx r.1 [44]++(if r.2.2=0 then [] else b++[97,102,116,101,114]++b++Lib.itoa r.2.2)
theorem QqQ {r:TRu} (h:okR r) (b:List UInt8) (hb:b.length<=1):(QA r b).length<=120:=by
 have h1:=QcU r.1 [44] fun k hk=>by have:=h.keys k hk;omega
 have h2:=Zc (n:=r.2.1) (by have:=h.need;omega) (by have:=h.need;omega)
 have h3:=Zc (n:=r.2.2) (by have:=h.after;omega) (by have:=h.after;omega)
 have h4:=h.len
 simp only[aLh,aLj] at h1;unfold QA;split<;>simp only[aLi,aLh,aLj]<;>omega
theorem QhP {r:TRu} (h:okR r) (b:List UInt8) (hb:b.length<=1):Qa2 r b=some (QA r b):=by
 have h1:=QcU r.1 [44] fun k hk=>by have:=h.keys k hk;omega
 have h2:=Zc (n:=r.2.1) (by have:=h.need;omega) (by have:=h.need;omega)
 have h3:=Zc (n:=r.2.2) (by have:=h.after;omega) (by have:=h.after;omega)
 have h4:=h.len
 simp only[aLh,aLj] at h1;unfold Qa2 QA;rw[Qct (n:=r.2.1) (by have:=h.need;omega) (by have:=h.need;omega),aLc,QgN r.1 [44] (by omega) (by simp) fun k hk=>by have:=h.keys k hk;omega]
 simp only[aLc,aLo];rw[Qct (n:=r.2.2) (by have:=h.after;omega) (by have:=h.after;omega)]
 simp only[aLc];rw[Qm,Qm,Qm,Qm]
 ·by_cases I:r.2.2=0
  ·rw[aLE I,if_pos I];simp
  ·rw[aLD I,if_neg I,aMB,aLB,Qm,Qm,Qm,Qm]
   ·rfl
   all_goals ((try simp only[aLi,aLh,aLj]);unfold LIM;omega)
 all_goals ((try simp only[aLi,aLh,aLj]);unfold LIM;omega)
theorem QlK {α:Type} (l:List α) (g:α->List UInt8) (f:List UInt8×Int->Option ((List UInt8×Int)⊕List UInt8)) (B:Nat->Nat)
  (U:∀(i:Nat) (h:i<l.length) (acc:List UInt8),acc.length<=B i->f (acc,(i:Int))=some (.inl (acc++g l[i],((i+1:Nat):Int)))/\(acc++g l[i]).length<=B (i+1))
  (he:∀acc,f (acc,(l.length:Int))=some (.inr acc)):∀(k i:Nat) (acc:List UInt8),i+k=l.length->acc.length<=B i->Qc f (acc,(i:Int))=some (acc++((l.drop i).map g).flatten)
 | 0,i,acc,hi,_=>by
  obtain rfl:i=l.length:=by omega
  rw[Qe (he acc)];simp
 | k+1,i,acc,hi,ha=>by
  have h1:i<l.length:=by omega
  obtain⟨I,J⟩:=U i h1 acc ha;rw[Qo I,QlK l g f B U he k (i+1) _ (by omega) J,aLr h1,aMJ,List.flatten_cons,aMm]
theorem QoR {r:TRu} (h:okR r):QcH r=some (QA r [32]):=by
 have h2:=Zc (n:=r.2.1) (by have:=h.need;omega) (by have:=h.need;omega)
 have h3:=Zc (n:=r.2.2) (by have:=h.after;omega) (by have:=h.after;omega)
 obtain⟨⟨k0,I⟩,hr⟩:∃p:Int×List Int,r.1=p.1::p.2:=by
  have:=h.len
  match hq:r.1 with
  | []=>rw[hq] at this;simp at this
  | a::l=>exact⟨(a,l),rfl⟩
 have hr:r.1=k0::I:=hr
 have hlen:=h.len
 have hk:=h.keys
 rw[hr] at hlen hk;have hk0:=hk k0 aLm
 have h5:=Zc (n:=k0) (by omega) (by omega)
 unfold QcH QA;rw[hr];rw[Yl (n:=r.2.1) (by have:=h.need;omega) (by have:=h.need;omega),aLc]
 rw[show inB 0 (k0::I)=true from Qb _ 0 (by simp),show List.getD (k0::I) (Int.toNat 0) 0=k0 from rfl,aLB,Yl (n:=k0) (by omega) (by omega),aLc]
 simp only[aLo];rw[Qm,Qm]
 ·have:=QlK (k0::I) (fun k=>44::Lib.itoa k) (fun (s15:List UInt8×Int)=>
 bif (decide ((s15.2:Int)<(List.length (k0::I):Int))) then
 bif decide (List.length s15.1+List.length [44]<=LIM) then
 bif (inB s15.2 (k0::I)) then
 (Zs (List.getD (k0::I) (Int.toNat s15.2) 0)).bind fun (J:List UInt8)=>
 bif decide (List.length (s15.1++[44])+List.length J<=LIM) then
 some (inl (s15.1++[44]++J,wrap .i64 (s15.2+1)))
 else none
 else none
 else none
 else
 some (inr s15.1)) (fun i=>100+20 * i) (fun i hi acc U=>by
    have hki:=hk _ (aLl hi)
    have hli:=Zc (n:=(k0::I)[i]) (by omega) (by omega)
    refine⟨?_,by simp only[aLi,aLh];omega⟩
    have hi3:i<3:=by omega
    simp only[dlt hi,Qb _ i hi,Qa _ i _ hi,aLB,Yl (n:=(k0::I)[i]) (by omega) (by omega),aLc,wsucc hi (by unfold BIG;omega)]
    rw[Qm,Qm]
    ·simp
    all_goals ((try simp only[aLi,aLh,aLj]);unfold LIM;omega)) (fun acc=>by simp only[dge,aLC]) I.length 1 (Lib.itoa r.2.1++[32,111,102,32]++Lib.itoa k0) (by simp;omega) (by simp only[aLi,aLh,aLj];omega)
  rw[show ((1:Nat):Int)=1 from rfl] at this
  rw[this,aLc,List.drop_succ_cons,aMt];have e1:Lib.itoa r.2.1++[32,111,102,32]++Lib.itoa k0++(I.map fun k=>44::Lib.itoa k).flatten=Lib.itoa r.2.1++[32]++[111,102]++[32]++Zx (k0::I) [44]:=by
   unfold Zx;rw[aMJ,Lib.join_cons,Lib.joinTail,List.map_map];simp[Function.comp_def]
  rw[e1];have h1:=QcU (k0::I) [44] fun k hk'=>by have:=hk k hk';omega
  simp only[aLh,aLj] at h1 hlen;by_cases U:r.2.2=0
  ·rw[aLE U,if_pos U];simp
  ·rw[aLD U,if_neg U,aMB,aLB,Yl (n:=r.2.2) (by have:=h.after;omega) (by have:=h.after;omega),aLc,Qm,Qm]
   ·simp
   all_goals ((try simp only[aLi,aLh,aLj]);unfold LIM;omega)
 all_goals ((try simp only[aLi,aLh,aLj]);unfold LIM;omega)
structure okC (x:TCoin):Prop where
 tx:1<=x.1.1/\x.1.1<=60
 at_:0<=x.1.2/\x.1.2<=3
 val:1<=x.2.1.1/\x.2.1.1<=1000000
 rule:Zg x.2.1.2=0
 height:0<=x.2.2.1/\x.2.2.1<=999
theorem Zf {l:List TCoin} (h:Q9 l=0):l.length<=40/\∀x,x ∈ l->okC x:=by
 unfold Q9 at h;by_cases J:(40:Int)<(l.length:Int)
 ·rw[if_pos J] at h;cases h
 ·rw[if_neg J] at h
  refine⟨by omega,fun x U=>?_⟩
  obtain⟨i,hi,rfl⟩:=aMe.1 U;have I:=YH h i l[i] (aLf hi)
  unfold QhV at I;cases h1:mRef l[i].1 with
  | false=>rw[h1] at I;simp at I
  | true=>
   cases h2:mIn l[i].2.2.1 0 999 with
   | false=>rw[h2] at I;simp at I
   | true=>
    rw[h1,h2] at I;by_cases h3:mOut l[i].2.1=0
    ·unfold mRef at h1
     rw[aLg,Qx,Qx] at h1;unfold mOut at h3;cases h4:mIn l[i].2.1.1 1 1000000 with
     | false=>rw[h4] at h3;simp at h3
     | true=>
      rw[h4,if_pos rfl] at h3;exact⟨h1.1,h1.2,Qx.1 h4,h3,Qx.1 h2⟩
    ·simp[h3] at I
def cuts (c:UInt8):List UInt8->List (List UInt8)
 | []=>[[]]
 | b::l=>if b=c then []::cuts c l else match cuts c l with | []=>[[b]] | w::ws=>(b::w)::ws
def glue (p:List UInt8):List (List UInt8)->List (List UInt8)
 | []=>[p]
 | w::ws=>(p++w)::ws
theorem QbR (c:UInt8):∀l,cuts c l ≠ []
 | []=>by simp[cuts]
 | b::l=>by
  unfold cuts;split
  ·simp
  ·split<;>simp
theorem Qp1 {ws:List (List UInt8)} (h:ws ≠ []):glue [] ws=ws:=by
 cases ws with
 | nil=>exact absurd rfl h
 | cons w ws=>rfl
theorem Qa9 (c b:UInt8) (l:List UInt8):cuts c (b::l)=if b=c then []::cuts c l else glue [b] (cuts c l):=by
 rw[cuts];split
 ·rfl
 ·split
  ·rename_i h;exact absurd h (QbR c l)
  ·rename_i h;rw[h];rfl
theorem Qtp (p q:List UInt8) {ws:List (List UInt8)} (h:ws ≠ []):glue p (glue q ws)=glue (p++q) ws:=by
 cases ws with
 | nil=>exact absurd rfl h
 | cons w ws=>simp[glue]
theorem J1 (c:UInt8):∀l,(cuts c l).length<=l.length+1
 | []=>by simp[cuts]
 | b::l=>by
  have:=J1 c l
  rw[Qa9];split
  ·simp;omega
  ·cases h:cuts c l with
   | nil=>simp[glue]
   | cons w ws=>rw[h] at this;simp[glue] at this ⊢;omega
theorem Ql5 (c:UInt8):∀l,Lib.split l [c]=cuts c l
 | []=>by
  unfold Lib.split;rw[Lib.count_one];rfl
 | b::l=>by
  have I:=Ql5 c l
  unfold Lib.split at I ⊢;rw[Qa9];by_cases hb:b=c
  ·subst hb
   rw[if_pos rfl,Lib.count_cons_eq,Nat.add_comm,Lib.splitK];have J:Lib.index (b::l) [b]=0:=by rw[Lib.index];simp[List.isPrefixOf]
   rw[J];simp[I]
  ·rw[if_neg hb,Lib.count_cons_ne b c l hb]
   have hp:([c]:List UInt8).isPrefixOf (b::l)=false:=by simp[List.isPrefixOf,Ne.symm hb]
   have J:Lib.index (b::l) [c]=if Lib.index l [c] == -1 then -1 else Lib.index l [c]+1:=by rw[Lib.index,hp];simp
   cases hk:Lib.count l [c] with
   | zero=>rw[hk] at I;rw[<-I];rfl
   | succ k=>
    rw[hk] at I;have hm:¬Lib.index l [c] = -1:=fun h=>by rw[Lib.count_miss h] at hk;cases hk
    have hge:=Lib.index_ge l [c]
    obtain⟨j,hj⟩:∃j:Nat,Lib.index l [c]=j:=⟨(Lib.index l [c]).toNat,by omega⟩
    have U:Lib.index (b::l) [c]=((j+1:Nat):Int):=by rw[J,if_neg (fun e=>hm (beq_iff_eq.1 e)),hj];omega
    rw[Lib.splitK,if_neg (fun e=>hm (beq_iff_eq.1 e)),hj] at I
    rw[Lib.splitK,if_neg (fun e=>by have:=beq_iff_eq.1 e;omega),U,<-I]
    simp[glue]
theorem Qui (l:List UInt8) (c:UInt8) (f:List (List UInt8)×Int×Int->Option ((List (List UInt8)×Int×Int)⊕List (List UInt8)))
  (hs:∀(i I:Nat) (h:i<l.length) (out:List (List UInt8)),I<=i->out.length<=i->f (out,(I:Int),(i:Int))=some (.inl (if l[i]=c then (out++[cut (I:Int) (i:Int) l],((i+1:Nat):Int),((i+1:Nat):Int)) else (out,(I:Int),((i+1:Nat):Int)))))
  (he:∀(I:Nat) (out:List (List UInt8)),I<=l.length->out.length<=l.length->Qc f (out,(I:Int),(l.length:Int))=some (out++[cut (I:Int) (l.length:Int) l])) :
  (Qc f ([],0,0)).bind (fun j=>some j)=some (cuts c l):=by
 have key:∀(k i I:Nat) (out:List (List UInt8)),i+k=l.length->I<=i->out.length<=i->Qc f (out,(I:Int),(i:Int))=some (out++glue ((l.drop I).take (i - I)) (cuts c (l.drop i))):=by
  intro k;induction k with
  | zero=>
   intro i I out hi J ho;obtain rfl:i=l.length:=by omega
   rw[he I out J ho,aMr];simp[cuts,glue,cut]
  | succ k U=>
   intro i I out hi J ho;have h:i<l.length:=by omega
   rw[Qo (hs i I h out J ho),aLr h,Qa9];by_cases hb:l[i]=c
   ·rw[if_pos hb,if_pos hb,U (i+1) (i+1) _ (by omega) (aMb _) (by simp;omega),Nat.sub_self,List.take_zero,Qp1 (QbR _ _)]
    simp[glue,cut]
   ·rw[if_neg hb,if_neg hb,U (i+1) I _ (by omega) (by omega) (by omega),Qtp _ _ (QbR _ _)]
    have e:i+1 - I=(i - I)+1:=by omega
    have h2:i - I<(l.drop I).length:=by rw[aLz];omega
    rw[e,aMl h2];congr 3;simp only[List.getElem_drop];congr 2;simp only[show I+(i - I)=i by omega]
 have:=key l.length 0 0 [] (by omega) (aMb _) (by simp)
 simp only[aMt,Nat.sub_zero,List.take_zero,aLx,Qp1 (QbR _ _)] at this;rw[show ((0:Nat):Int)=0 from rfl] at this
 rw[this];rfl
theorem JJ (l:List UInt8) (c:UInt8) (hl:l.length<LIM):Ya l (c.toNat:Int)=some (cuts c l):=by
 have hB:l.length<BIG:=by unfold LIM at hl;unfold BIG;omega
 unfold Ya;refine Qui l c _ (fun i I h out hf ho=>?_) (fun I out hf ho=>?_)
 ·have e1:decide ((i:Int)<=(l.length:Int))=true:=aLE (by omega)
  have J:decide ((i:Int)=(l.length:Int))=false:=aLD (by omega)
  have U:Qz (I:Int) (i:Int) l=true:=by unfold Qz;simp;omega
  have e4:decide (((l[i].toNat:Nat):Int)=(c.toNat:Int))=decide (l[i]=c):=by
   apply decide_eq_decide.2;constructor
   ·intro h;exact UInt8.toNat_inj.1 (by omega)
   ·intro h;rw[h]
  simp only[e1,J,aLB,aLC,Qb l i h,Qa l i _ h,e4,aLc,wsucc h hB];by_cases hb:l[i]=c
  ·rw[aLE hb,if_pos hb,aLB,U,aLB,aLE (p:=List.length out+_<=LIM) (by simp only[aLh,aLj];omega)]
   rfl
  ·rw[aLD hb,if_neg hb];rfl
 ·have e1:decide ((l.length:Int)<=(l.length:Int))=true:=by simp
  have J:decide ((l.length:Int)=(l.length:Int))=true:=by simp
  have U:Qz (I:Int) (l.length:Int) l=true:=by unfold Qz;simp;omega
  have e5:wrap .i64 ((l.length:Int)+1)=((l.length+1:Nat):Int):=by rw[Qy (by omega) (by unfold BIG at hB;omega)];omega
  rw[Qo (s':=(out++[cut (I:Int) (l.length:Int) l],((l.length+1:Nat):Int),((l.length+1:Nat):Int))) (by
   simp only[e1,J,aLB,aLc,U,e5];rw[aLE (p:=List.length out+_<=LIM) (by simp only[aLh,aLj];omega)];rfl)]
  refine Qe ?_;have e6:decide (((l.length+1:Nat):Int)<=(l.length:Int))=false:=aLD (by omega)
  simp only[e6,aLC]
theorem Qj2 (c:UInt8):∀(w:List UInt8),c ∉ w->cuts c w=[w]
 | [],_=>rfl
 | b::w,h=>by
  rw[List.mem_cons,not_or] at h;rw[Qa9,if_neg (fun e=>h.1 e.symm),Qj2 c w h.2];rfl
theorem Qod (c:UInt8):∀(a b:List UInt8),cuts c (a++c::b)=cuts c a++cuts c b
 | [],b=>by rw[aLx,Qa9,if_pos rfl];rfl
 | x::a,b=>by
  rw[aMs,Qa9,Qa9,Qod c a b];split
  ·rfl
  ·cases h:cuts c a with
   | nil=>exact absurd h (QbR c a)
   | cons w ws=>rfl
theorem Qbt (x y:List UInt8) (r:List (List UInt8)) (c:UInt8):Lib.join (x::y::r) [c]=x++c::Lib.join (y::r) [c]:=by
 rw[Lib.join_cons,Lib.join_cons];simp[Lib.joinTail]
theorem Qai (c:UInt8):∀(ws:List (List UInt8)),ws ≠ []->(∀w,w ∈ ws->c ∉ w)->cuts c (Lib.join ws [c])=ws
 | [],h,_=>absurd rfl h
 | [x],_,h=>by rw[Lib.join_one];exact Qj2 c x (h x aLm)
 | x::y::r,_,h=>by
  rw[Qbt,Qod,Qj2 c x (h x aLm),Qai c (y::r) (by simp) fun w hw=>h w (aLp _ hw)];rfl
theorem QjJ (c:UInt8):∀(a b:List UInt8),c ∉ a->Lib.indexByte (a++c::b) c=(a.length:Int)
 | [],b,_=>by simp[Lib.indexByte]
 | x::a,b,h=>by
  rw[List.mem_cons,not_or] at h;have I:=QjJ c a b h.2
  have J:(x == c)=false:=by simpa using fun e:x=c=>h.1 e.symm
  rw[aMs,Lib.indexByte,J,I];have:((a.length:Int) == -1)=false:=by simp
  rw[this];simp
theorem Qrz (c:UInt8) (a b:List UInt8) (h:c ∉ a):Lib.cut (a++c::b) [c]=(a,b,true):=by
 unfold Lib.cut;rw[Lib.index_one,QjJ c a b h,if_pos (by omega)]
 simp
theorem QnE (M:Nat):∀(l r:List UInt8) (acc a:Nat),Lib.parseUintM M acc l=.ok a->Lib.parseUintM M acc (l++r)=Lib.parseUintM M a r
 | [],r,acc,a,h=>by
  simp only[Lib.parseUintM] at h;cases h;rfl
 | c::l,r,acc,a,h=>by
  rw[aMs];unfold Lib.parseUintM at h
  conv=>lhs;unfold Lib.parseUintM
  split at h
  ·rename_i h1
   rw[if_pos h1];split at h
   ·cases h
   ·rename_i h2
    rw[if_neg h2];split at h
    ·cases h
    ·rename_i h3
     rw[if_neg h3];exact QnE M l r _ a h
  ·cases h
theorem Qlb (M acc d:Nat) (hd:d<10) (h1:acc<1844674407370955162) (h2:acc * 10+d<=M):Lib.parseUintM M acc [UInt8.ofNat (48+d)]=.ok (acc * 10+d):=by
 have e:(UInt8.ofNat (48+d)).toNat=48+d:=by rw[UInt8.toNat_ofNat'];omega
 unfold Lib.parseUintM;rw[e,if_pos (by omega),if_neg (by omega),if_neg (by omega)]
 rw[show acc * 10+(48+d - 48)=acc * 10+d by omega]
 rfl
theorem Qte:∀(u:Nat),u<=9223372036854775807->Lib.parseUintM (2 ^ 64 - 1) 0 (Lib.decDigits u)=.ok u:=by
 intro u;induction u using Nat.strongRecOn with
 | ind u I=>
  intro hu;by_cases h:u<10
  ·rw[Lib.decDigits_one h,Qlb _ 0 u h (by omega) (by omega)]
   simp
  ·rw[Lib.decDigits,dif_neg h,QnE _ _ _ 0 (u / 10) (I (u / 10) (by omega) (by omega)),Qlb _ (u / 10) (u % 10) (by omega) (by omega) (by omega)]
   congr 1;omega
theorem Qlr:∀(u:Nat) (b:UInt8),b ∈ Lib.decDigits u->48<=b.toNat/\b.toNat<=57:=by
 intro u;induction u using Nat.strongRecOn with
 | ind u I=>
  intro b hb;have one:∀d:Nat,d<10->(UInt8.ofNat (48+d)).toNat=48+d:=fun d hd=>by
   rw[UInt8.toNat_ofNat'];omega
  by_cases h:u<10
  ·rw[Lib.decDigits_one h,aLs] at hb
   subst hb;rw[one u h];omega
  ·rw[Lib.decDigits,dif_neg h] at hb
   rcases aMi.1 hb with hb | hb
   ·exact I (u / 10) (by omega) b hb
   ·rw[aLs] at hb
    subst hb;rw[one (u % 10) (by omega)];omega
theorem QsC {n:Int} (h0:0<=n) (h1:n<=9223372036854775807):Lib.parseIntB 64 (Lib.itoa n)=.ok n:=by
 obtain⟨m,rfl⟩:=aLA h0;rw[Js];have I:=Qte m (by omega)
 have hb:=Qlr m
 have J:1<=(Lib.decDigits m).length:=by rw[Lib.decDigits_length];exact Lib.nDigits_pos m
 match hd:Lib.decDigits m with
 | []=>rw[hd] at J;simp at J
 | c::r=>
  rw[hd] at I hb;have U:=hb c aLm
  unfold Lib.parseIntB;simp only;rw[if_neg (by omega)]
  unfold Lib.parseUintB;rw[if_neg (by simp),I]
  simp only;rw[if_neg (by omega),if_neg (by omega),if_neg (by omega)]
theorem Qb8 {n:Int} (h0:0<=n) (h1:n<10000000000):numS (Lib.itoa n)=n:=by
 unfold numS;rw[QsC h0 (by omega)]
 obtain⟨m,rfl⟩:=aLA h0;have I:(Lib.itoa (m:Int)).length<=10:=by
  rw[Js,Lib.decDigits_length];exact QdM 10 m (by omega) (by decide)
 simp[I]
abbrev TL:=List (List UInt8)×List (Int×Int)
theorem Jy {α R:Type} (l:List α) (c:Nat->α->Int) (f:Int->Option (Int⊕(Unit⊕Int)))
  (I:∀(i:Nat) (h:i<l.length),f (i:Int)=some (if c i l[i]=0 then .inl ((i+1:Nat):Int) else .inr (.inr (c i l[i])))) (he:f (l.length:Int)=some (.inr (.inl ()))) (A:Unit->Option R) (B:Int->Option R) :
  ((Qc f 0).bind fun j=>Sum.elim A B j)=if code c l=0 then A () else B (code c l):=by
 rw[JC l (fun i a=>if c i a=0 then none else some (c i a)) f (fun i h=>by rw[I i h];by_cases J:c i l[i]=0<;>simp[J]) he,Qad]
 by_cases h0:code c l=0
 ·rw[if_pos h0]
  have U:=YH h0
  have:first (fun i a=>if c i a=0 then none else some (c i a)) 0 l=none:=(Qd4 l 0).2 (fun j a ha=>by rw[aMf,if_pos (U j a ha)])
  rw[this]
 ·rw[if_neg h0]
  unfold code at h0 ⊢;cases hf:first (fun i a=>if c i a=0 then none else some (c i a)) 0 l with
  | none=>rw[hf] at h0;exact absurd rfl h0
  | some r=>rfl
theorem Qjl {α β γ:Type} (g:Nat->α->Option β) (h:β->γ):∀(l:List α) (i:Nat),first (fun i a=>(g i a).map h) i l=(first g i l).map h
 | [],_=>rfl
 | a::l,i=>by
  simp only[first]
  cases g i a with
  | none=>exact Qjl g h l (i+1)
  | some r=>rfl
theorem Qow (t:List UInt8):QeW t=some (mIn (t.length:Int) 1 300):=by unfold QeW;rw[Zp];rfl
theorem any_eq {α:Type} [DecidableEq α] (x:α) (l:List α):l.any (fun a=>decide (x=a))=decide (x ∈ l):=by
 rw[Bool.eq_iff_iff];simp
theorem any_eq' {α:Type} [DecidableEq α] (x:α) (l:List α):l.any (fun a=>decide (a=x))=decide (x ∈ l):=by
 rw[Bool.eq_iff_iff];simp
theorem Qm9 (l:List (List UInt8)) (I:l.length<BIG) (x:List UInt8):ZR l x=some (decide (x ∈ l)):=by
 unfold ZR QT;rw[Yx l (fun a=>decide (x=a)) _ (fun i h=>?_) (by simp only[dge,aLC]),aLc,Zy,any_eq]
 ·exact congrArg some (decide_eq_decide.2 Iff.rfl)
 ·simp only[dlt h,Qb l i h,Qa l i _ h,aLB,wsucc h I]
  cases decide (x=l[i])<;>rfl
theorem Qic (l:List (Int×Int)) (I:l.length<BIG) (x:Int×Int):Q6 l x=some (decide (x ∈ l)):=by
 unfold Q6 Yf;rw[Yx l (fun a=>decide (x=a)) _ (fun i h=>?_) (by simp only[dge,aLC]),aLc,Zy,any_eq]
 ·exact congrArg some (decide_eq_decide.2 Iff.rfl)
 ·simp only[dlt h,Qb l i h,Qa l i _ h,aLB,wsucc h I,QgT]
  cases decide (x=l[i])<;>rfl
theorem Qij (l:List (Int×Int)) (I:l.length<BIG) (x:Int×Int):Qbf l x=some (decide (x ∈ l)):=by
 unfold Qbf;rw[Qhk l (fun a=>decide (a=x)) _ (fun i h=>?_) (by simp only[dge,aLC]),any_eq']
 ·exact congrArg some (decide_eq_decide.2 Iff.rfl)
 ·simp only[dlt h,Qb l i h,Qa l i _ h,aLB,wsucc h I,QgT]
  cases decide (l[i]=x)<;>rfl
theorem Qk6 (l:List (List UInt8)) (I:l.length<BIG) (x:List UInt8):Qeo l x=some (idxF (fun a=>decide (a=x)) l+1):=by
 unfold Qeo;rw[JC l (fun i a=>(if decide (a=x)=true then some (i:Int) else none).map (· + 1)) _ (fun i h=>?_) (by simp only[dge,aLC]),Qjl,Qad]
 ·unfold idxF
  cases first (fun i a=>if decide (a=x)=true then some (i:Int) else none) 0 l<;>rfl
 ·simp only[dlt h,Qb l i h,Qa l i _ h,aLB,wsucc h I]
  cases decide (l[i]=x)<;>rfl
theorem pos_at (l:List (List UInt8)) (x:List UInt8):decide (0<idxF (fun a=>decide (a=x)) l+1)=decide (x ∈ l):=by
 have h:=Zy (fun a=>decide (a=x)) l
 have h2:(l.any fun a=>decide (a=x))=true↔x ∈ l:=by simp
 refine decide_eq_decide.2 ⟨fun h3=>h2.1 (by rw[<-h];simp;omega),fun h3=>?_⟩
 have:=h2.2 h3
 rw[<-h] at this;have:=aLG this
 omega
def mTx (l:List (List UInt8)) (i:Nat) (s:List UInt8):Int:=if mIn (s.length:Int) 1 300 then (if s ∈ l.take i then 7 else 0) else 2
def mSg (n:Int) (l:List (Int×Int)) (i:Nat) (x:Int×Int):Int:=if mIn x.1 1 999&&mIn x.2 1 n then (if x ∈ l.take i then 7 else 0) else 3
def mLF (x:TL):Int:=if (decide ((60:Int)<(x.1.length:Int)) || decide ((120:Int)<(x.2.length:Int)))=true then 2 else if code (mTx x.1) x.1=0 then code (mSg (x.1.length:Int) x.2) x.2 else code (mTx x.1) x.1
theorem YZ {α:Type} {l:List α} (I:l.length<BIG) (i:Nat):(l.take i).length<BIG:=by rw[aLn];omega
theorem Qkz (x:TL) (h1:x.1.length<BIG) (h2:x.2.length<BIG):Qba x=some (mLF x):=by
 unfold Qba mLF;have e:∀(p q:Bool),(bif p then some true else some q:Option Bool)=some (p || q):=by intro p q;cases p<;>rfl
 rw[e,aLc];cases (decide ((60:Int)<(x.1.length:Int)) || decide ((120:Int)<(x.2.length:Int))) with
 | true=>rfl
 | false=>
  rw[aLC,if_neg (by simp),Jy x.1 (mTx x.1) _ (fun i h=>?_) (by simp only[dge,aLC])]
  ·split
   ·refine YD _ _ _ (fun i h=>?_) (by simp only[dge,aLC])
    simp only[dlt h,Qb x.2 i h,Qa x.2 i _ h,ZI x.2 i (Nat.le_of_lt h),Jq,aLB,QdB,Zp,aLc,wsucc h h2,Qic _ (YZ h2 i)];unfold mSg;cases mIn x.2[i].1 1 999<;>cases mIn x.2[i].2 1 (x.1.length:Int)<;>by_cases hm:x.2[i] ∈ x.2.take i<;>simp[hm]
   ·rfl
  ·simp only[dlt h,Qb x.1 i h,Qa x.1 i _ h,ZI x.1 i (Nat.le_of_lt h),Jq,aLB,Qow,aLc,wsucc h h1,Qm9 _ (YZ h1 i)]
   unfold mTx;cases mIn (x.1[i].length:Int) 1 300<;>by_cases hm:x.1[i] ∈ x.1.take i<;>simp[hm]
theorem Qal (x:TL) (h1:x.1.length<BIG) (h2:x.2.length<BIG):YL x=some (mLF x):=by
 unfold YL mLF;have e:∀(p q:Bool),(bif p then some true else some q:Option Bool)=some (p || q):=by intro p q;cases p<;>rfl
 rw[e,aLc];cases (decide ((60:Int)<(x.1.length:Int)) || decide ((120:Int)<(x.2.length:Int))) with
 | true=>rfl
 | false=>
  rw[aLC,if_neg (by simp),Jy x.1 (mTx x.1) _ (fun i h=>?_) (by simp only[dge,aLC])]
  ·split
   ·refine YD _ _ _ (fun i h=>?_) (by simp only[dge,aLC])
    simp only[dlt h,Qb x.2 i h,Qa x.2 i _ h,ZI x.2 i (Nat.le_of_lt h),Jq,aLB,QdC,Zn,aLc,wsucc h h2,Qij _ (YZ h2 i)];unfold mSg;cases mIn x.2[i].1 1 999<;>cases mIn x.2[i].2 1 (x.1.length:Int)<;>by_cases hm:x.2[i] ∈ x.2.take i<;>simp[hm]
   ·rfl
  ·simp only[dlt h,Qb x.1 i h,Qa x.1 i _ h,ZI x.1 i (Nat.le_of_lt h),Jq,aLB,aLc,wsucc h h1,Qk6 _ (YZ h1 i),pos_at]
   have I:∀(n:Int),(decide (n<1) || decide (300<n)) = !mIn n 1 300:=by
    intro n;unfold mIn;rw[Bool.eq_iff_iff];simp;try omega
   rw[e,I,aLc];unfold mTx;cases mIn (x.1[i].length:Int) 1 300<;>by_cases hm:x.1[i] ∈ x.1.take i<;>simp[hm]
theorem QdU {R:Type} (a:Option R):agree a a=a:=by unfold agree;simp
theorem JB {α:Type} {l:List α} (h:l.length<=LIM):decide (List.length ([]:List α)+List.length l<=LIM)=true:=by simp;omega
def Y {α:Type} (o:Option α) (Q:α->Prop):Prop:=∃a,o=some a/\Q a
theorem Y.some {α:Type} {a:α} {Q:α->Prop} (h:Q a):Y (some a) Q:=⟨a,rfl,h⟩
theorem Y.bind {α β:Type} {o:Option α} {f:α->Option β} {Q:α->Prop} {R:β->Prop} (h:Y o Q) (k:∀a,Q a->Y (f a) R):Y (o.bind f) R:=by
 obtain⟨a,rfl,I⟩:=h;exact k a I
theorem Y.eqb {α β:Type} {o:Option α} {a:α} {f:α->Option β} {R:β->Prop} (h:o=Option.some a) (k:Y (f a) R):Y (o.bind f) R:=by
 subst h;exact k
theorem Y.bif {α:Type} {c:Bool} {a b:Option α} {Q:α->Prop} (h1:c=true->Y a Q) (h2:c=false->Y b Q):Y (bif c then a else b) Q:=by
 cases c
 ·exact h2 rfl
 ·exact h1 rfl
theorem Y.grd {α:Type} {c:Bool} {a b:Option α} {Q:α->Prop} (h:c=true) (h1:Y a Q):Y (bif c then a else b) Q:=by rw[h];exact h1
theorem Y.loop {S X:Type} {f:S->Option (S⊕X)} {Q:X->Prop} (I:Nat->S->Prop) (U:∀n s,I n s->Y (f s) (fun r=>match r with | .inl s'=>∃m,m<n/\I m s' | .inr x=>Q x)):∀n s,I n s->Y (Qc f s) Q:=by
 intro n;induction n using Nat.strongRecOn with
 | ind n ih=>
  intro s hi;obtain⟨r,h1,h2⟩:=U n s hi;cases r with
  | inl s'=>
   obtain⟨m,hm,J⟩:=h2;obtain⟨x,h3,h4⟩:=ih m hm s' J;exact⟨x,QhJ h1 h3,h4⟩
  | inr x=>exact⟨x,Qe h1,h2⟩
theorem Qhb {α:Type} (l:List α) (a:α) (h:l.length<1000000):decide (List.length l+List.length [a]<=LIM)=true:=by
 simp only[aLh,aLj,aLF];unfold LIM;omega
theorem ZU {α:Type} {l:List α} {i:Int} (h0:0<=i) (h:i<(l.length:Int)):inB i l=true:=by
 simp[inB,h0,h]
def dv (l:List UInt8):Nat:=l.foldl (fun a b=>a * 10+(b.toNat - 48)) 0
theorem QmJ (l:List UInt8) (b:UInt8):dv (l++[b])=dv l * 10+(b.toNat - 48):=by simp[dv]
theorem QpM:∀m:Nat,dv (Lib.decDigits m)=m:=by
 intro m;induction m using Nat.strongRecOn with
 | ind m I=>
  have one:∀d:Nat,d<10->(UInt8.ofNat (48+d)).toNat=48+d:=fun d hd=>by
   rw[UInt8.toNat_ofNat'];omega
  by_cases h:m<10
  ·rw[Lib.decDigits_one h]
   show 0 * 10+((UInt8.ofNat (48+m)).toNat - 48)=m
   rw[one m h];omega
  ·rw[Lib.decDigits,dif_neg h,QmJ,I (m / 10) (by omega),one (m % 10) (by omega)];omega
theorem QwU (l:List UInt8) (h:∀b,b ∈ l->b.toNat<=57):dv l<10 ^ l.length:=by
 have key:∀(l:List UInt8) (a:Nat),(∀b,b ∈ l->b.toNat<=57)->l.foldl (fun a b=>a * 10+(b.toNat - 48)) a<(a+1) * 10 ^ l.length:=by
  intro l;induction l with
  | nil=>intro a _;simp
  | cons b l I=>
   intro a h;have h1:=I (a * 10+(b.toNat - 48)) fun c J=>h c (aLp _ J)
   have h2:=h b aLm
   have h3:(a * 10+(b.toNat - 48)+1) * 10 ^ l.length<=((a+1) * 10) * 10 ^ l.length:=aLq _ (by omega)
   rw[List.foldl_cons,aLh,Nat.pow_succ];have e:(a+1) * (10 ^ l.length * 10)=((a+1) * 10) * 10 ^ l.length:=by rw[Nat.mul_comm (10 ^ l.length) 10,Nat.mul_assoc]
   omega
 have:=key l 0 h
 rw[aMf,aMF] at this;exact this
theorem QuF:∀(m:Nat),1<=m->∀b r,Lib.decDigits m=b::r->b.toNat ≠ 48:=by
 intro m;induction m using Nat.strongRecOn with
 | ind m I=>
  intro hm b r h;by_cases h10:m<10
  ·rw[Lib.decDigits_one h10] at h
   simp only[List.cons.injEq] at h;rw[<-h.1,UInt8.toNat_ofNat'];omega
  ·rw[Lib.decDigits,dif_neg h10] at h
   cases hd:Lib.decDigits (m / 10) with
   | nil=>
    have:=Lib.decDigits_length (m / 10)
    rw[hd] at this;have h2:=Lib.nDigits_pos (m / 10)
    simp at this;omega
   | cons c J=>
    rw[hd,aMs] at h;simp only[List.cons.injEq] at h;rw[<-h.1];exact I (m / 10) (by omega) (by omega) c J hd
theorem Qjt (w:List UInt8) (n:Int) (hw:w.length<BIG):Y (Qr w n) (fun _=>True):=by
 unfold Qr;refine Y.bind (Q:=fun j=>True) ?_ (fun j _=>?_)
 ·refine Y.bif (fun _=>Y.some trivial) (fun h1=>Y.bif (fun _=>Y.some trivial) (fun h2=>Y.bif (fun _=>Y.grd (ZU (by omega) ?_) (Y.some trivial)) (fun _=>Y.some trivial)))
  simp at h1;omega
 ·refine Y.bif (fun _=>Y.some trivial) (fun _=>?_)
  refine Y.bind (Q:=fun _=>True) ?_ (fun j _=>by cases j<;>exact Y.some trivial)
  refine Y.loop (fun n s=>∃i:Nat,s.2=(i:Int)/\i<=w.length/\n=w.length - i) (fun n s J=>?_) w.length (0,0) ⟨0,rfl,by omega,by omega⟩
  obtain⟨i,hi,hle,hn⟩:=J;obtain⟨v,U⟩:=s;have hi:U=(i:Int):=hi
  subst hi;refine Y.bif (fun h1=>?_) (fun _=>Y.some trivial)
  have I:i<w.length:=by simp at h1;omega
  have hb:=Qb w i I
  refine Y.bind (Q:=fun _=>True) (Y.grd hb (Y.bif (fun _=>Y.some trivial) (fun _=>Y.grd hb (Y.some trivial)))) (fun j _=>Y.bif (fun _=>Y.some trivial) (fun _=>Y.grd hb (Y.some ?_)))
  exact⟨w.length - (i+1),by omega,i+1,wsucc I hw,by omega,rfl⟩
theorem Qg4 {k:Int} (h0:0<=k) (h1:k<=9999999) (n:Nat) (hn:(Lib.itoa k).length<=n):Qr (Lib.itoa k) (n:Int)=some (k,true):=by
 obtain⟨m,rfl⟩:=aLA h0;rw[Js] at hn ⊢;have hb:=Qlr m
 have I:=QpM m
 have hl:1<=(Lib.decDigits m).length:=by rw[Lib.decDigits_length];exact Lib.nDigits_pos m
 have h7:(Lib.decDigits m).length<=7:=by rw[Lib.decDigits_length];exact QdM 7 m (by omega) (by decide)
 have J:1<(Lib.decDigits m).length->(List.getD (Lib.decDigits m) 0 0).toNat ≠ 48:=fun h=>by
  cases hd:Lib.decDigits m with
  | nil=>rw[hd] at h;simp at h
  | cons c r=>
   have U:1<=m:=by
    rcases aMA m with h0 | h0
    ·subst h0
     rw[Lib.decDigits_one (by omega)] at h
     simp at h
    ·exact h0
   exact QuF m U c r hd
 generalize Lib.decDigits m=w at *;have hB:w.length<BIG:=by unfold BIG;omega
 unfold Qr;rw[aLD (p:=(w.length:Int)<1) (by omega),aLC,aLD (p:=(n:Int)<(w.length:Int)) (by omega),aLC,ZU (i:=0) (l:=w) (by omega) (by omega),aLB]
 have e0:(bif decide (1<(w.length:Int)) then some (decide (((w.getD (Int.toNat 0) 0).toNat:Int)=48)) else some false)=some false:=by
  by_cases h:1<w.length
  ·rw[aLE (by omega),aLB,aLD]
   have:=J h
   show ¬(((w.getD 0 0).toNat:Nat):Int)=48
   omega
  ·rw[aLD (by omega),aLC]
 rw[e0,aLc,aLC];rw[show ((0:Int),(0:Int))=(((0:Nat):Int),(0:Int)) from rfl]
 rw[Zv (σ:=Nat) w (fun v b=>v * 10+(b.toNat - 48)) (fun v i=>((v:Int),i)) (fun v=>inl (v:Int)) (fun v i=>v<10 ^ i) _ (fun i hi v hv=>by
   have hbi:=hb _ (aLl hi)
   have hp:10 ^ i<=10 ^ 6:=Nat.pow_le_pow_right (by omega) (by omega)
   have hp2:(10:Nat) ^ 6=1000000:=rfl
   refine⟨?_,?_⟩
   ·simp only[dlt hi,Qb w i hi,Qa w i _ hi,aLB,wsucc hi hB]
    rw[aLD (p:=((w[i].toNat:Nat):Int)<48) (by omega),aLC,aLD (p:=(57:Int)<((w[i].toNat:Nat):Int)) (by omega),aLc,aLC]
    have e1:wrap .u8 (((w[i].toNat:Nat):Int) - 48)=((w[i].toNat - 48:Nat):Int):=by
     rw[show ((w[i].toNat:Nat):Int) - 48=((w[i].toNat - 48:Nat):Int) by omega]
     rw[show wrap .u8 ((w[i].toNat - 48:Nat):Int)=((w[i].toNat - 48:Nat):Int) % 256 from by simp[wrap,IntKind.bits,IntKind.signed]]
     omega
    rw[e1,Qy (n:=(v:Int) * 10) (by omega) (by omega),Qy (n:=((w[i].toNat - 48:Nat):Int)) (by omega) (by omega),Qy (by omega) (by omega)]
    congr 3
   ·rw[Nat.pow_succ];omega) (fun v hv=>by simp only[dge,aLC]) 0 (by simp)]
 show some (((dv w:Nat):Int),true)=_
 rw[I]
theorem Jp (w:List UInt8) (h:w.length<=1000000):ZJ w=some (numS w):=by
 unfold ZJ numO;rw[Nat.ble_eq.mpr h];rfl
theorem Qhd (s:List UInt8) (c:UInt8) (h:s.length<=1000000):YS s [c]=some (cuts c s):=by
 unfold YS;rw[QtL (by simp) (by omega),Ql5]
theorem Qca (c:UInt8):∀(l:List UInt8) (w:List UInt8),w ∈ cuts c l->w.length<=l.length
 | [],w,h=>by simp[cuts] at h;subst h;simp
 | b::l,w,h=>by
  rw[Qa9] at h;split at h
  ·rcases List.mem_cons.1 h with rfl | h
   ·simp
   ·have:=Qca c l w h;simp;omega
  ·have I:=Qca c l
   cases J:cuts c l with
   | nil=>exact absurd J (QbR c l)
   | cons a r=>
    rw[J] at h I;simp only[glue] at h;rcases List.mem_cons.1 h with rfl | h
    ·have:=I a aLm;simp;omega
    ·have:=I w (aLp _ h);simp;omega
theorem YM (c:UInt8) (l:List UInt8) (i:Nat):(List.getD (cuts c l) i []).length<=l.length:=by
 rw[aLk];cases h:(cuts c l)[i]? with
 | none=>simp
 | some w=>exact Qca c l w (List.mem_of_getElem? h)
theorem QjY (s:List UInt8) (c:UInt8) (h:s.length<=100000):Qaq s [c]=some ((cuts c s).map numS):=by
 unfold Qaq;have hlen:=J1 c s
 rw[Qhd s c (by omega),aLc]
 rw[Zv (σ:=List Int) (cuts c s) (fun acc a=>acc++[numS a]) (fun t i=>(t,i)) (fun t=>t) (fun t i=>t.length=i) _ (fun i hi t I=>by
   refine⟨?_,by simp[I]⟩
   have hw:=Qca c s _ (aLl hi)
   simp only[dlt hi,Qb _ i hi,Qa _ i _ hi,aLB,Jp _ (show ((cuts c s)[i]).length<=1000000 by omega),aLc,wsucc hi (by unfold BIG;omega)]
   rw[Qm (by simp only[aLh,aLj];unfold LIM;omega)];rfl) (fun t I=>by simp only[dge,aLC]) [] rfl,aLc,foldl_map,aLx]
theorem Qtk {n:Int} (h0:0<=n) {b:UInt8} (hb:b ∈ Lib.itoa n):48<=b.toNat/\b.toNat<=57:=by
 obtain⟨m,rfl⟩:=aLA h0;rw[Js] at hb;exact Qlr m b hb
theorem Ye {n:Int} (h0:0<=n) (c:UInt8) (I:c.toNat<48\/57<c.toNat):c ∉ Lib.itoa n:=fun h=>by
 have:=Qtk h0 h;omega
theorem ZA (x:List UInt8) (r:List (List UInt8)) (c:UInt8) (I:r ≠ []):Lib.join (x::r) [c]=x++c::Lib.join r [c]:=by
 cases r with
 | nil=>exact absurd rfl I
 | cons y r=>exact Qbt x y r c
theorem QvE (l:List Int) (h:∀k,k ∈ l->0<=k) (c:UInt8) (hc:c.toNat<48\/57<c.toNat) (I:c ≠ 44):c ∉ Zx l [44]:=by
 unfold Zx;induction l with
 | nil=>simp[Lib.join_nil]
 | cons a l J=>
  have U:=Ye (h a aLm) c hc
  have J:=J fun k hk=>h k (aLp _ hk)
  cases l with
  | nil=>rw[aMJ,List.map_nil,Lib.join_one];exact U
  | cons b l=>
   rw[aMJ,ZA _ _ _ (by simp),aMi,List.mem_cons]
   rintro (h1 | h1 | h1)
   ·exact U h1
   ·exact I h1
   ·exact J h1
theorem Qoo (l:List Int) (I:l ≠ []) (h:∀k,k ∈ l->0<=k):cuts 44 (Zx l [44])=l.map Lib.itoa:=by
 unfold Zx;refine Qai 44 _ (by simpa using I) fun w hw=>?_
 obtain⟨k,hk,rfl⟩:=List.mem_map.1 hw;exact Ye (h k hk) 44 (by decide)
def QfJ (r:TRu):List (List UInt8):=[Lib.itoa r.2.1,[111,102],Zx r.1 [44]]++(if r.2.2=0 then [] else [[97,102,116,101,114],Lib.itoa r.2.2])
structure Blank (b:UInt8):Prop where
 d:b.toNat<48\/57<b.toNat
 c:b ≠ 44
 o:b ≠ 111/\b ≠ 102/\b ≠ 97/\b ≠ 116/\b ≠ 101/\b ≠ 114
theorem Qfq:Blank 32:=⟨by decide,by decide,by decide⟩
theorem Qrq:Blank 95:=⟨by decide,by decide,by decide⟩
theorem Qly {r:TRu} (h:okR r) {b:UInt8} (hb:Blank b):∀w,w ∈ QfJ r->b ∉ w:=by
 have I:b ∉ ([111,102]:List UInt8):=by
  have:=hb.o
  simp[this.1,this.2.1]
 have J:b ∉ ([97,102,116,101,114]:List UInt8):=by
  have:=hb.o
  simp[this]
 have h1:=Ye (n:=r.2.1) (by have:=h.need;omega) b hb.d
 have h2:=Ye (n:=r.2.2) (by have:=h.after;omega) b hb.d
 have h3:=QvE r.1 (fun k hk=>by have:=h.keys k hk;omega) b hb.d hb.c
 intro w hw;unfold QfJ at hw;split at hw<;>simp only[List.append_nil,aMs,aLx,List.mem_cons,List.not_mem_nil,or_false] at hw
 ·rcases hw with rfl | rfl | rfl<;>assumption
 ·rcases hw with rfl | rfl | rfl | rfl | rfl<;>assumption
theorem Qg0 (r:TRu) (b:UInt8):Lib.join (QfJ r) [b]=QA r [b]:=by
 unfold QfJ QA;split
 ·rw[List.append_nil,ZA _ _ _ (by simp),ZA _ _ _ (by simp),Lib.join_one];simp
 ·simp only[aMs,aLx]
  rw[ZA _ _ _ (by simp),ZA _ _ _ (by simp),ZA _ _ _ (by simp),ZA _ _ _ (by simp),Lib.join_one];simp
theorem Qr5 {r:TRu} (h:okR r) {b:UInt8} (hb:Blank b):cuts b (QA r [b])=QfJ r:=by
 rw[<-Qg0];exact Qai b _ (by unfold QfJ;simp) (Qly h hb)
theorem Qmi {r:TRu} (h:okR r) {b c:UInt8} (J:Blank c) (I:c ≠ b):c ∉ QA r [b]:=by
 rw[<-Qg0];have hw:=Qly h J
 have:∀ws:List (List UInt8),(∀w,w ∈ ws->c ∉ w)->c ∉ Lib.join ws [b]:=by
  intro ws;induction ws with
  | nil=>intro _;simp[Lib.join_nil]
  | cons x ws U=>
   intro h;cases ws with
   | nil=>rw[Lib.join_one];exact h x aLm
   | cons y ws=>
    rw[ZA _ _ _ (by simp),aMi,List.mem_cons]
    rintro (h1 | h1 | h1)
    ·exact h x aLm h1
    ·exact I h1
    ·exact U (fun w hw=>h w (aLp _ hw)) h1
 exact this _ hw
def swp (a b:UInt8) (l:List UInt8):List UInt8:=l.map fun c=>if c=a then b else c
theorem Qta (l:List UInt8) (a b:UInt8) (h:l.length<=1000000):QaW l (a.toNat:Int) (b.toNat:Int)=some (swp a b l):=by
 unfold QaW swpS;rw[Nat.ble_eq.mpr h,aLE (by have:=b.toNat_lt;omega)]
 show some _=_
 congr 1;unfold swp;refine List.map_congr_left fun c _=>?_
 by_cases I:c=a
 ·subst I
  rw[if_pos rfl,if_pos rfl];apply UInt8.toNat_inj.1;rw[UInt8.toNat_ofNat'];have:=b.toNat_lt
  omega
 ·rw[if_neg I,if_neg fun h=>I (UInt8.toNat_inj.1 (by omega))]
theorem QpE {a b:UInt8} {l:List UInt8} (h:a ∉ l):swp a b l=l:=by
 unfold swp;have:∀c,c ∈ l->(if c=a then b else c)=id c:=fun c I=>if_neg (fun e:c=a=>h (e ▸ I))
 rw[List.map_congr_left this,List.map_id]
theorem Qpi {a b:UInt8}:∀ws:List (List UInt8),(∀w,w ∈ ws->a ∉ w)->swp a b (Lib.join ws [a])=Lib.join ws [b]
 | [],_=>by simp[Lib.join_nil,swp]
 | [x],h=>by rw[Lib.join_one,Lib.join_one];exact QpE (h x aLm)
 | x::y::r,h=>by
  rw[Qbt,Qbt];have h1:=QpE (b:=b) (h x aLm)
  have h2:=Qpi (b:=b) (y::r) fun w hw=>h w (aLp _ hw)
  unfold swp at h1 h2 ⊢;rw[List.map_append,aMJ,h1,h2,if_pos rfl]
theorem Qpn {r:TRu} (h:okR r) {a b:UInt8} (I:Blank a):swp a b (QA r [a])=QA r [b]:=by
 rw[<-Qg0,<-Qg0];exact Qpi _ (Qly h I)
def Qo5 (s:List UInt8) (b:UInt8) (x:TRu×Bool):Prop:=x.1.1.length<=s.length+1/\∀I,Zg I=0->QA I [b]=s->x=(I,true)
theorem Qdq {r:TRu} (h:Zg r=0) (b:UInt8):(QA r [b]).length<=120:=QqQ (Yt h) [b] (by simp)
theorem Jv {I:TRu} (J:Zg I=0) {s:List UInt8} {b:UInt8} (hb:Blank b) (U:QA I [b]=s):cuts b s=QfJ I:=by
 rw[<-U];exact Qr5 (Yt J) hb
theorem Qfp (r:TRu):(QfJ r).length=if r.2.2=0 then 3 else 5:=by
 unfold QfJ;split<;>rfl
theorem Qsy (s:List UInt8) (b:UInt8) (hb:Blank b) (hs:s.length<=100000):Y (QcZ s [b]) (Qo5 s b):=by
 have hlen:=J1 b s
 have U:∀i:Nat,i<(cuts b s).length->inB (i:Int) (cuts b s)=true:=fun i h=>Qb _ i h
 unfold QcZ;refine Y.eqb (Qhd s b (by omega)) ?_
 have hno:(∀I,Zg I=0->QA I [b]=s->False)->Qo5 s b (([],(0,0)),false):=fun h=>⟨by simp,fun I h1 h2=>(h I h1 h2).elim⟩
 have hn:∀i:Nat,(List.getD (cuts b s) i []).length<=s.length:=YM b s
 refine Y.bind (Q:=fun j=>(j=false->((cuts b s).length=3\/(cuts b s).length=5))/\(j=true->∀I,Zg I=0->QA I [b]=s->False)) ?_ (fun j hj=>?_)
 ·refine Y.bif (fun h1=>Y.some ⟨(fun h=>by cases h),fun _ I h2 h3=>?_⟩) (fun _=>Y.bif (fun h1=>Y.some ⟨(fun h=>?_),(fun h I h2 h3=>?_)⟩) (fun h1=>Y.some ⟨(fun _=>.inl ?_),(fun h=>by cases h)⟩))
  ·have:=Qdq h2 b;rw[h3] at this;simp at h1;omega
  ·right;simp at h;omega
  ·have hw:=Jv h2 hb h3
   have J:=Qfp I
   rw[<-hw] at J;simp at h h1;split at J<;>omega
  ·simp at h1;omega
 ·obtain⟨hj1,hj2⟩:=hj
  refine Y.bif (fun h=>Y.some (hno (hj2 h))) (fun h=>?_)
  have h35:=hj1 h
  refine Y.grd (U 0 (by omega)) (Y.eqb (Jp _ (by have:=hn 0;show (List.getD (cuts b s) 0 []).length<=_;omega)) (Y.grd (U 2 (by omega)) (Y.eqb (QjY _ 44 (by have:=hn 2;show (List.getD (cuts b s) 2 []).length<=_;omega)) ?_)))
  have hk:=J1 44 (List.getD (cuts b s) 2 [])
  have hk2:=hn 2
  refine Y.bind (Q:=fun (x:TRu)=>x.1.length<=s.length+1/\∀I,Zg I=0->QA I [b]=s->x=I) ?_ (fun x hx=>?_)
  ·have comp:∀I,Zg I=0->QA I [b]=s->numS (List.getD (cuts b s) (Int.toNat 0) [])=I.2.1/\(cuts 44 (List.getD (cuts b s) (Int.toNat 2) [])).map numS=I.1:=fun I h2 h3=>by
    have ho:=Yt h2
    rw[Jv h2 hb h3];refine⟨?_,?_⟩
    ·show numS (Lib.itoa I.2.1)=_
     exact Qb8 (by have:=ho.need;omega) (by have:=ho.need;omega)
    ·show (cuts 44 (Zx I.1 [44])).map numS=_
     rw[Qoo I.1 (fun e=>by have:=ho.len;rw[e] at this;simp at this) (fun k hk=>by have:=ho.keys k hk;omega),List.map_map]
     have hid:∀k,k ∈ I.1->(numS ∘ Lib.itoa) k=id k:=fun k hk=>Qb8 (by have:=ho.keys k hk;omega) (by have:=ho.keys k hk;omega)
     rw[List.map_congr_left hid,List.map_id]
   refine Y.bif (fun h5=>?_) (fun h5=>?_)
   ·have h5:(cuts b s).length=5:=by simp at h5;omega
    refine Y.grd (U 4 (by omega)) (Y.eqb (Jp _ (by have:=hn 4;show (List.getD (cuts b s) 4 []).length<=_;omega)) (Y.some ⟨by show (List.map numS _).length<=_;rw[aMH];show (cuts 44 (List.getD (cuts b s) 2 [])).length<=_;omega,fun I h2 h3=>?_⟩))
    obtain⟨c1,c2⟩:=comp I h2 h3;have hw:=Jv h2 hb h3
    have J:=Qfp I
    rw[<-hw,h5] at J;have ha:I.2.2 ≠ 0:=fun e=>by rw[if_pos e] at J;omega
    have ho:=Yt h2
    rw[c1,c2];show (I.1,I.2.1,numS (List.getD (cuts b s) 4 []))=I
    rw[hw];unfold QfJ;rw[if_neg ha];show (I.1,I.2.1,numS (Lib.itoa I.2.2))=I
    rw[Qb8 (by have:=ho.after;omega) (by have:=ho.after;omega)]
   ·have h3:(cuts b s).length=3:=by simp at h5;omega
    refine Y.some ⟨by show (List.map numS _).length<=_;rw[aMH];show (cuts 44 (List.getD (cuts b s) 2 [])).length<=_;omega,fun I h2 h4=>?_⟩
    obtain⟨c1,c2⟩:=comp I h2 h4;have J:=Qfp I
    rw[<-Jv h2 hb h4,h3] at J;have ha:I.2.2=0:=by
     by_cases e:I.2.2=0
     ·exact e
     ·rw[if_neg e] at J;omega
    rw[c1,c2,<-ha]
  ·obtain⟨hx1,hx2⟩:=hx
   refine Y.bind (Q:=fun j=>j=true->∀I,Zg I=0->QA I [b]=s->False) ?_ (fun j hj=>?_)
   ·refine Y.eqb (Qfk x (by unfold BIG;omega)) ?_
    refine Y.bif (fun h1=>Y.some (fun _ I h2 h3=>?_)) (fun h1=>?_)
    ·rw[hx2 I h2 h3] at h1;simp[h2] at h1
    ·have h0:Zg x=0:=by simpa using h1
     refine Y.eqb (QhP (Yt h0) [b] (by simp)) (Y.some (fun h I h2 h3=>?_))
     rw[hx2 I h2 h3] at h;simp[h3] at h
   ·refine Y.bif (fun h=>Y.some (hno (hj h))) (fun h=>Y.some ⟨hx1,fun I h2 h3=>by rw[hx2 I h2 h3]⟩)
theorem Qt0 (s:List UInt8) (hs:s.length<=100000):Y (Qd2 s) (Qo5 s 32):=by
 have hlen:=J1 32 s
 have hin:∀i:Nat,i<(cuts 32 s).length->inB (i:Int) (cuts 32 s)=true:=fun i h=>Qb _ i h
 have hn:∀i:Nat,(List.getD (cuts 32 s) i []).length<=s.length:=YM 32 s
 have hno:(∀I,Zg I=0->QA I [32]=s->False)->Qo5 s 32 (([],(0,0)),false):=fun h=>⟨by simp,fun I h1 h2=>(h I h1 h2).elim⟩
 have yn:∀(i:Nat) (n:Nat),Y (Qr (List.getD (cuts 32 s) i []) (n:Int)) (fun r=>∀k,0<=k->k<=9999999->List.getD (cuts 32 s) i []=Lib.itoa k->(Lib.itoa k).length<=n->r=(k,true)):=fun i n=>by
  obtain⟨r,h1,_⟩:=Qjt (List.getD (cuts 32 s) i []) (n:Int) (by have:=hn i;unfold BIG;omega)
  refine⟨r,h1,fun k h0 h9 hk hl=>?_⟩
  rw[hk,Qg4 h0 h9 n hl] at h1;exact (aMu h1).symm
 have il:∀(k:Int) (n:Nat),0<=k->k<10 ^ n->1<=n->(Lib.itoa k).length<=n:=fun k n h0 h1 hn=>by
  obtain⟨m,rfl⟩:=aLA h0;rw[Js,Lib.decDigits_length];refine QdM n m ?_ hn;have:((10:Int) ^ n)=(((10:Nat) ^ n:Nat):Int):=by norm_cast
  omega
 unfold Qd2;refine Y.eqb (JJ s 32 (by unfold LIM;omega)) ?_
 refine Y.bind (Q:=fun j=>(j=false->((cuts 32 s).length=3\/(cuts 32 s).length=5))/\(j=true->∀I,Zg I=0->QA I [32]=s->False)) ?_ (fun j hj=>?_)
 ·have word:∀I,Zg I=0->QA I [32]=s->(!decide (List.getD (cuts 32 s) (Int.toNat 1) []=[111,102]))=false:=fun I h2 h3=>by
   rw[Jv h2 Qfq h3];show (!decide (([111,102]:List UInt8)=[111,102]))=false
   rfl
  refine Y.bif (fun h1=>Y.bif (fun h2=>Y.some ⟨(fun h=>by cases h),(fun _ I h3 h4=>?_)⟩) (fun h2=>Y.grd (hin 1 ?_) (Y.some ⟨(fun _=>.inr ?_),(fun h I h3 h4=>?_)⟩))) (fun h1=>Y.grd (hin 1 ?_) (Y.some ⟨(fun _=>.inl ?_),(fun h I h3 h4=>?_)⟩))
  ·have hl:=Qfp I
   rw[<-Jv h3 Qfq h4] at hl;simp at h1 h2;split at hl<;>omega
  ·simp at h2;omega
  ·simp at h2;omega
  ·rw[word I h3 h4] at h;cases h
  ·simp at h1;omega
  ·simp at h1;omega
  ·rw[word I h3 h4] at h;cases h
 ·obtain⟨hj1,hj2⟩:=hj
  refine Y.bif (fun h=>Y.some (hno (hj2 h))) (fun h=>?_)
  have h35:=hj1 h
  refine Y.grd (hin 0 (by omega)) (Y.bind (yn 0 1) (fun a ha=>Y.grd (hin 2 (by omega)) (Y.eqb (JJ _ 44 (by have:=hn 2;show (List.getD (cuts 32 s) 2 []).length<_;unfold LIM;omega)) ?_)))
  have hk:=J1 44 (List.getD (cuts 32 s) 2 [])
  have hk2:=hn 2
  obtain⟨ks,hks⟩:∃ks,ks=cuts 44 (List.getD (cuts 32 s) (Int.toNat 2) []):=⟨_,rfl⟩;have hks':ks=cuts 44 (List.getD (cuts 32 s) 2 []):=hks
  rw[<-hks];rw[<-hks'] at hk;have hcm:∀I,Zg I=0->QA I [32]=s->ks=I.1.map Lib.itoa:=fun I h2 h3=>by
   have ho:=Yt h2
   rw[hks',Jv h2 Qfq h3];exact Qoo I.1 (fun e=>by have:=ho.len;rw[e] at this;simp at this) (fun k hk=>by have:=ho.keys k hk;omega)
  have hca:∀I,Zg I=0->QA I [32]=s->a=(I.2.1,true):=fun I h2 h3=>by
   have ho:=Yt h2
   refine ha I.2.1 (by have:=ho.need;omega) (by have:=ho.need;omega) (by rw[Jv h2 Qfq h3];rfl) (il _ 1 (by have:=ho.need;omega) (by have:=ho.need;omega) (by omega))
  refine Y.bind (Q:=fun (x:Bool×TRu)=>x.2.1.length<=s.length+1/\∀I,Zg I=0->QA I [32]=s->x=(true,I.1,I.2.1,0)) ?_ (fun x hx=>?_)
  ·refine Y.loop (fun n (st:Bool×Int×List Int×Int×Int)=>∃i:Nat,st.2.1=(i:Int)/\i<=ks.length/\n=ks.length - i/\st.2.2.1.length=i/\∀I,Zg I=0->QA I [32]=s->st.1=true/\st.2.2=(I.1.take i,I.2.1,0)) (fun n st hI=>?_) ks.length _ ⟨0,rfl,by omega,by omega,rfl,fun I h2 h3=>by rw[hca I h2 h3];exact⟨rfl,by simp⟩⟩
   obtain⟨i,hi,hle,hnn,hac,J⟩:=hI;obtain⟨ok,i',acc,nd,af⟩:=st;have hi:i'=(i:Int):=hi
   subst hi;have hac:acc.length=i:=hac
   refine Y.bif (fun h1=>?_) (fun h1=>Y.some ⟨by show acc.length<=_;omega,fun I h2 h3=>?_⟩)
   ·have U:i<ks.length:=by simp at h1;omega
    have hwl:(ks[i]).length<=s.length:=by
     have:ks[i] ∈ cuts 44 (List.getD (cuts 32 s) 2 []):=hks' ▸ aLl U
     have:=Qca 44 _ _ this;omega
    have hg:List.getD ks (Int.toNat (i:Int)) []=ks[i]:=Qa ks i _ U
    refine Y.grd (Qb _ i U) ?_;have yk:Y (Qr (List.getD ks (Int.toNat (i:Int)) []) 3) (fun y=>∀I,Zg I=0->QA I [32]=s->∃hr:i<I.1.length,y=(I.1[i],true)):=by
     obtain⟨y,h4,_⟩:=Qjt (List.getD ks (Int.toNat (i:Int)) []) 3 (by rw[hg];unfold BIG;omega)
     refine⟨y,h4,fun I h2 h3=>?_⟩
     have hm:=hcm I h2 h3
     have hr:i<I.1.length:=by rw[hm] at U;simpa using U
     have ho:=(Yt h2).keys _ (aLl hr)
     have e:ks[i]=Lib.itoa I.1[i]:=by rw[List.getElem_of_eq hm U];simp
     rw[hg,e] at h4;have:=Qg4 (k:=I.1[i]) (by omega) (by omega) 3 (il _ 3 (by omega) (by omega) (by omega))
     have h4':Qr (Lib.itoa I.1[i]) ((3:Nat):Int)=some y:=h4
     rw[this] at h4';exact⟨hr,(aMu h4').symm⟩
    refine Y.bind yk (fun y hy=>?_)
    refine Y.bind (Q:=fun j=>∀I,Zg I=0->QA I [32]=s->j=true) ?_ (fun j hj=>?_)
    ·refine Y.bif (fun h5=>Y.some (fun I h2 h3=>by obtain⟨_,e⟩:=hy I h2 h3;rw[e])) (fun h5=>Y.some (fun I h2 h3=>?_))
     have:=(J I h2 h3).1
     rw[this] at h5;cases h5
    ·refine Y.grd (Qhb _ _ (by show acc.length<_;omega)) (Y.some ?_)
     refine⟨ks.length - (i+1),by omega,i+1,wsucc U (by unfold BIG;omega),by omega,rfl,by show (List.append acc [y.1]).length=_;simp[hac],fun I h2 h3=>⟨hj I h2 h3,?_⟩⟩
     obtain⟨hr,e⟩:=hy I h2 h3;have hc2:=(J I h2 h3).2
     simp only[aLe] at hc2;show (List.append acc [y.1],nd,af)=_
     rw[e,hc2.1,hc2.2.1,hc2.2.2,List.take_add_one,aLf hr];rfl
   ·have hge:i=ks.length:=by simp at h1;omega
    obtain⟨c1,c2⟩:=J I h2 h3;have hkl:ks.length=I.1.length:=by rw[hcm I h2 h3];simp
    show (ok,acc,nd,af)=_
    have c1:ok=true:=c1
    have c2:(acc,nd,af)=(I.1.take i,I.2.1,0):=c2
    rw[c1,c2,hge,hkl,List.take_length]
  ·obtain⟨hx1,hx2⟩:=hx
   refine Y.bind (Q:=fun (z:Bool×TRu)=>z.2.1.length<=s.length+1/\∀I,Zg I=0->QA I [32]=s->z=(true,I)) ?_ (fun z hz=>?_)
   ·refine Y.bif (fun h5=>?_) (fun h5=>?_)
    ·have h5:(cuts 32 s).length=5:=by simp at h5;omega
     refine Y.grd (hin 4 (by omega)) (Y.bind (yn 4 3) (fun y hy=>?_))
     have wd:∀I,Zg I=0->QA I [32]=s->I.2.2 ≠ 0/\cuts 32 s=[Lib.itoa I.2.1,[111,102],Zx I.1 [44],[97,102,116,101,114],Lib.itoa I.2.2]:=fun I h2 h3=>by
      have hw:=Jv h2 Qfq h3
      have hl:=Qfp I
      rw[<-hw,h5] at hl;have hne:I.2.2 ≠ 0:=fun e=>by rw[if_pos e] at hl;omega
      refine⟨hne,?_⟩;rw[hw];unfold QfJ;rw[if_neg hne];rfl
     have hya:∀I,Zg I=0->QA I [32]=s->y=(I.2.2,true):=fun I h2 h3=>by
      have ho:=(Yt h2).after
      exact hy I.2.2 (by omega) (by omega) (by rw[(wd I h2 h3).2];rfl) (il _ 3 (by omega) (by omega) (by omega))
     refine Y.bind (Q:=fun j=>∀I,Zg I=0->QA I [32]=s->j=true) ?_ (fun j hj=>Y.some ⟨hx1,fun I h2 h3=>by rw[hj I h2 h3,hx2 I h2 h3,hya I h2 h3]⟩)
     refine Y.bif (fun _=>Y.bif (fun _=>Y.grd (hin 3 (by omega)) (Y.bif (fun _=>Y.some (fun I h2 h3=>?_)) (fun h6=>Y.some (fun I h2 h3=>?_)))) (fun h6=>Y.some (fun I h2 h3=>?_))) (fun h6=>Y.some (fun I h2 h3=>?_))
     ·have ho:=(Yt h2).after
      have:=(wd I h2 h3).1
      rw[hya I h2 h3];simp;omega
     ·rw[(wd I h2 h3).2] at h6
      simp at h6
     ·rw[hya I h2 h3] at h6;cases h6
     ·rw[hx2 I h2 h3] at h6;cases h6
    ·have h3':(cuts 32 s).length=3:=by simp at h5;omega
     refine Y.some ⟨hx1,fun I h2 h3=>?_⟩
     have hl:=Qfp I
     rw[<-Jv h2 Qfq h3,h3'] at hl;have hz:I.2.2=0:=by
      by_cases e:I.2.2=0
      ·exact e
      ·rw[if_neg e] at hl;omega
     rw[hx2 I h2 h3,<-hz]
   ·obtain⟨hz1,hz2⟩:=hz
    refine Y.bind (Q:=fun (u:Bool×TRu)=>u.2.1.length<=s.length+1/\∀I,Zg I=0->QA I [32]=s->u=(true,I)) ?_ (fun u hu=>Y.some ⟨hu.1,fun I h2 h3=>by rw[hu.2 I h2 h3]⟩)
    refine Y.bif (fun _=>Y.eqb (Qf6 z.2 (by unfold BIG;omega)) (Y.some ⟨hz1,fun I h2 h3=>by rw[hz2 I h2 h3];simp[h2]⟩)) (fun h6=>Y.some ⟨hz1,fun I h2 h3=>?_⟩)
    rw[hz2 I h2 h3] at h6;cases h6
abbrev TX:=Int×Int×List (Int×Int)×List TOut
theorem Qf8 (l:List (Int×Int)) (I:l.length<BIG) (x:Int×Int):QI l x=some (decide (x ∈ l)):=by
 unfold QI Yq;rw[Yx l (fun a=>decide (x=a)) _ (fun i h=>?_) (by simp only[dge,aLC]),aLc,Zy,any_eq]
 ·exact congrArg some (decide_eq_decide.2 Iff.rfl)
 ·simp only[dlt h,Qb l i h,Qa l i _ h,aLB,wsucc h I,QgT]
  cases decide (x=l[i])<;>rfl
theorem Qd5 (l:List (Int×Int)) (I:l.length<BIG) (x:Int×Int):Qam l x=some (decide (x ∈ l)):=by
 unfold Qam;rw[Qhk l (fun a=>decide (a=x)) _ (fun i h=>?_) (by simp only[dge,aLC]),any_eq']
 ·exact congrArg some (decide_eq_decide.2 Iff.rfl)
 ·simp only[dlt h,Qb l i h,Qa l i _ h,aLB,wsucc h I,QgT]
  cases decide (l[i]=x)<;>rfl
def mRf (l:List (Int×Int)) (i:Nat) (r:Int×Int):Int:=if mRef r then (if r ∈ l.take i then 7 else 0) else 3
def mTxO (t:TX):Int:=if code (fun _ o=>mOut o) t.2.2.2=0 then (if t.1=1/\(List.getD t.2.2.2 0 (0,([],(0,0)))).1<100 then 8 else 0) else code (fun _ o=>mOut o) t.2.2.2
def mTxF (t:TX):Int:=if mIn t.1 0 2&&(decide (t.1=0) == decide (t.2.1=0)) then (if decide (t.1=0) || mIn t.2.1 1 999 then (if mIn (t.2.2.1.length:Int) 1 4&&mIn (t.2.2.2.length:Int) 1 4 then (if code (mRf t.2.2.1) t.2.2.1=0 then mTxO t else code (mRf t.2.2.1) t.2.2.1) else 2) else 3) else 1
structure bT (t:TX):Prop where
 ins:t.2.2.1.length<BIG
 outs:t.2.2.2.length<BIG
 keys:∀o,o ∈ t.2.2.2->o.2.1.length<BIG
theorem Qh7 (o:TOut) (I:o.2.1.length<BIG):YR o=some (mOut o):=by
 unfold YR mOut;rw[Zp,aLc,Qfk _ I];cases mIn o.1 1 1000000<;>rfl
theorem QpU (n:Int):J9 n=some (!mIn n 1 4):=by
 unfold J9;have I:(decide (n<1) || decide (4<n)) = !mIn n 1 4:=by
  unfold mIn;rw[Bool.eq_iff_iff];simp;try omega
 rw[<-I];cases decide (n<1)<;>rfl
theorem QrF (t:TX) (h:0<t.2.2.2.length):((bif decide (t.1=1) then bif inB 0 t.2.2.2 then some (decide ((List.getD t.2.2.2 (Int.toNat 0) (0,([],(0,0)))).1<100)) else none else some false:Option Bool).bind fun j=>bif j then some (8:Int) else some 0)=some (if t.1=1/\(List.getD t.2.2.2 0 (0,([],(0,0)))).1<100 then 8 else 0):=by
 by_cases h1:t.1=1
 ·rw[aLE h1,aLB,ZU (by omega) (by omega),aLB,aLc]
  show (bif decide ((List.getD t.2.2.2 0 (0,([],(0,0)))).1<100) then some (8:Int) else some 0)=_
  by_cases h2:(List.getD t.2.2.2 0 (0,([],(0,0)))).1<100
  ·rw[aLE h2,if_pos ⟨h1,h2⟩];rfl
  ·rw[aLD h2,if_neg (fun h=>h2 h.2)];rfl
 ·rw[aLD h1,if_neg (fun h=>h1 h.1)];rfl
theorem QjM (t:TX) (hb:bT t) (h:0<t.2.2.2.length):QeE t=some (mTxO t):=by
 unfold QeE mTxO;rw[Jy t.2.2.2 (fun _ o=>mOut o) _ (fun i h=>?_) (by simp only[dge,aLC]),QrF t h]
 ·split<;>rfl
 ·have hk:=hb.keys _ (aLl h)
  simp only[dlt h,Qb _ i h,Qa _ i _ h,aLB,Zn,Qf6 _ hk,aLc,wsucc h hb.outs];unfold mOut;cases mIn t.2.2.2[i].1 1 1000000
  ·rfl
  ·by_cases h3:Zg t.2.2.2[i].2=0
   ·rw[aLE h3];simp[h3]
   ·rw[aLD h3];simp[h3]
theorem QbX (t:TX) (hb:bT t):YE t=some (mTxF t):=by
 unfold YE mTxF;simp only[Zn,QdC,aLc,beqB];cases h1:mIn t.1 0 2
 ·rfl
 ·simp only[aMa,aLC,aLc,aMz]
  by_cases h2:decide (t.1=0)=decide (t.2.1=0)
  ·rw[aLE h2,beq_iff_eq.2 h2,if_pos rfl]
   simp only[aMa,aLC];by_cases h3:t.1=0;all_goals skip
   ·rw[aLE h3]
    simp only[aMa,aLC,aLc,Bool.true_or,if_true];cases h4:mIn (t.2.2.1.length:Int) 1 4<;>cases h5:mIn (t.2.2.2.length:Int) 1 4<;>try rfl
    simp only[aMa,aLC,aLc,aMz,if_true];rw[Qx] at h5;rw[Jy t.2.2.1 (mRf t.2.2.1) _ (fun i h=>?_) (by simp only[dge,aLC]),QjM t hb (by omega)]
    ·split<;>rfl
    ·simp only[dlt h,Qb _ i h,Qa _ i _ h,ZI _ i (Nat.le_of_lt h),Jq,aLB,Qfv,aLc,wsucc h hb.ins,Qd5 _ (YZ hb.ins i)]
     unfold mRf;cases mRef t.2.2.1[i]<;>by_cases hm:t.2.2.1[i] ∈ t.2.2.1.take i<;>simp[hm]
   ·rw[aLD h3]
    simp only[aMB,aLB,aLc,Bool.false_or];cases h6:mIn t.2.1 1 999<;>try rfl
    simp only[aMa,aLC,aLc,if_true];cases h4:mIn (t.2.2.1.length:Int) 1 4<;>cases h5:mIn (t.2.2.2.length:Int) 1 4<;>try rfl
    simp only[aMa,aLC,aLc,aMz,if_true];rw[Qx] at h5;rw[Jy t.2.2.1 (mRf t.2.2.1) _ (fun i h=>?_) (by simp only[dge,aLC]),QjM t hb (by omega)]
    ·split<;>rfl
    ·simp only[dlt h,Qb _ i h,Qa _ i _ h,ZI _ i (Nat.le_of_lt h),Jq,aLB,Qfv,aLc,wsucc h hb.ins,Qd5 _ (YZ hb.ins i)]
     unfold mRf;cases mRef t.2.2.1[i]<;>by_cases hm:t.2.2.1[i] ∈ t.2.2.1.take i<;>simp[hm]
  ·rw[aLD h2,beq_eq_false_iff_ne.2 h2]
   rfl
theorem QiX (t:TX) (hb:bT t):QbL t=some (mTxF t):=by
 unfold QbL mTxF;simp only[Zp,QdB,QpU,aLc,beqB];cases h1:mIn t.1 0 2
 ·rfl
 ·simp only[aMa,aLC,aLc,aMz]
  by_cases h2:decide (t.1=0)=decide (t.2.1=0)
  ·have h20:decide (t.2.1=0)=decide (t.1=0):=h2.symm
   rw[aLE h2,beq_iff_eq.2 h2,if_pos rfl,h20];simp only[aMa,aLC];have rest:∀(hx:(decide (t.1=0) || mIn t.2.1 1 999)=true),((bif !mIn (t.2.2.1.length:Int) 1 4 then some true else (some (!mIn (t.2.2.2.length:Int) 1 4):Option Bool).bind fun y39=>some y39).bind fun j40=>bif j40 then some 2 else
     (Qc (S:=Int) (X:=(Unit)⊕(Int)) (fun (J:Int)=>
 bif (decide ((J:Int)<(List.length t.2.2.1:Int))) then
 bif (inB J t.2.2.1) then
 (Qaz (List.getD t.2.2.1 (Int.toNat J) (0,0))).bind fun (y46:Bool)=>
 bif (!y46) then
 some (inr (inr 3))
 else
 bif (Qz 0 J t.2.2.1) then
 (QI (cut 0 J t.2.2.1) (List.getD t.2.2.1 (Int.toNat J) (0,0))).bind fun (y47:Bool)=>
 bif y47 then
 some (inr (inr 7))
 else
 some (inl (wrap .i64 (J+1)))
 else none
 else none
 else
 some (inr (inl ()))) 0).bind fun (j48:(Unit)⊕(Int))=>
 Sum.elim (fun (j49:Unit)=>
 (Qc (S:=Int) (X:=(Unit)⊕(Int)) (fun (I:Int)=>
 bif (decide ((I:Int)<(List.length t.2.2.2:Int))) then
 bif (inB I t.2.2.2) then
 (YR (List.getD t.2.2.2 (Int.toNat I) (0,([],(0,0))))).bind fun (U:Int)=>
 bif (!decide ((U:Int)=0)) then
 some (inr (inr U))
 else
 some (inl (wrap .i64 (I+1)))
 else none
 else
 some (inr (inl ()))) 0).bind fun (j55:(Unit)⊕(Int))=>
 Sum.elim (fun (j56:Unit)=>
 (bif (decide ((t.1:Int)=1)) then
 bif (inB 0 t.2.2.2) then
 some (decide (((List.getD t.2.2.2 (Int.toNat 0) (0,([],(0,0)))).1:Int)<100))
 else none
 else
 some false:Option (Bool)).bind fun (j58:Bool)=>
 bif j58 then
 some 8
 else
 some 0) (fun (j57:Int)=>
 some j57) j55) (fun (j50:Int)=>
 some j50) j48:Option Int)=some (if mIn (t.2.2.1.length:Int) 1 4&&mIn (t.2.2.2.length:Int) 1 4 then (if code (mRf t.2.2.1) t.2.2.1=0 then mTxO t else code (mRf t.2.2.1) t.2.2.1) else 2):=fun hx=>by
    cases h4:mIn (t.2.2.1.length:Int) 1 4<;>cases h5:mIn (t.2.2.2.length:Int) 1 4<;>try rfl
    simp only[aMa,aLC,aLc,aMz,if_true];rw[Qx] at h5;rw[Jy t.2.2.1 (mRf t.2.2.1) _ (fun i h=>?_) (by simp only[dge,aLC])]
    ·have ho:(Qc (S:=Int) (X:=(Unit)⊕(Int)) (fun (I:Int)=>
 bif (decide ((I:Int)<(List.length t.2.2.2:Int))) then
 bif (inB I t.2.2.2) then
 (YR (List.getD t.2.2.2 (Int.toNat I) (0,([],(0,0))))).bind fun (U:Int)=>
 bif (!decide ((U:Int)=0)) then
 some (inr (inr U))
 else
 some (inl (wrap .i64 (I+1)))
 else none
 else
 some (inr (inl ()))) 0).bind (fun (j55:(Unit)⊕(Int))=>
 Sum.elim (fun (j56:Unit)=>
 (bif (decide ((t.1:Int)=1)) then
 bif (inB 0 t.2.2.2) then
 some (decide (((List.getD t.2.2.2 (Int.toNat 0) (0,([],(0,0)))).1:Int)<100))
 else none
 else
 some false:Option (Bool)).bind fun (j58:Bool)=>
 bif j58 then
 some 8
 else
 some 0) (fun (j57:Int)=>
 some j57) j55)=some (mTxO t):=by
      unfold mTxO;rw[Jy t.2.2.2 (fun _ o=>mOut o) _ (fun i h=>?_) (by simp only[dge,aLC]),QrF t (by omega)]
      ·split<;>rfl
      ·have hk:=hb.keys _ (aLl h)
       simp only[dlt h,Qb _ i h,Qa _ i _ h,aLB,Qh7 _ hk,aLc,wsucc h hb.outs];by_cases h3:mOut t.2.2.2[i]=0
       ·rw[aLE h3];simp[h3]
       ·rw[aLD h3];simp[h3]
     rw[ho];split<;>rfl
    ·simp only[dlt h,Qb _ i h,Qa _ i _ h,ZI _ i (Nat.le_of_lt h),Jq,aLB,QhM,aLc,wsucc h hb.ins,Qf8 _ (YZ hb.ins i)]
     unfold mRf;cases mRef t.2.2.1[i]<;>by_cases hm:t.2.2.1[i] ∈ t.2.2.1.take i<;>simp[hm]
   cases h3:decide (t.1=0) with
   | true=>
    simp only[aMa,aLC,aLc,Bool.true_or,if_true];exact rest (by rw[h3];rfl)
   | false=>
    simp only[aMB,aLB,aLc,Bool.false_or];cases h6:mIn t.2.1 1 999
    ·rfl
    ·simp only[aMa,aLC,aLc,if_true]
     exact rest (by rw[h3,h6];rfl)
  ·rw[aLD h2,beq_eq_false_iff_ne.2 h2]
   rfl
structure okT (t:TX):Prop where
 kind:0<=t.1/\t.1<=2
 mem:(t.1=0/\t.2.1=0)\/(t.1 ≠ 0/\1<=t.2.1/\t.2.1<=999)
 li:1<=t.2.2.1.length/\t.2.2.1.length<=4
 lo:1<=t.2.2.2.length/\t.2.2.2.length<=4
 ref:∀r,r ∈ t.2.2.1->mRef r=true
 nd:t.2.2.1.Nodup
 out:∀o,o ∈ t.2.2.2->(1<=o.1/\o.1<=1000000)/\Zg o.2=0
theorem Qaw {r:Int×Int}:mRef r=true↔(1<=r.1/\r.1<=60)/\(0<=r.2/\r.2<=3):=by
 unfold mRef;rw[aLg,Qx,Qx]
theorem QuD {α:Type} [DecidableEq α] (l:List α) (h:∀i (hi:i<l.length),l[i] ∉ l.take i):l.Nodup:=by
 rw[List.nodup_iff_pairwise_ne,List.pairwise_iff_getElem];intro i j hi hj I he;refine h j hj ?_;rw[List.mem_take_iff_getElem];exact⟨i,by omega,he⟩
theorem Jj {t:TX} (h:mTxF t=0):okT t:=by
 unfold mTxF at h;cases h1:mIn t.1 0 2&&(decide (t.1=0) == decide (t.2.1=0)) with
 | false=>rw[h1] at h;simp at h
 | true=>
  rw[h1,if_pos rfl] at h;cases h2:(decide (t.1=0) || mIn t.2.1 1 999) with
  | false=>rw[h2] at h;simp at h
  | true=>
   rw[h2,if_pos rfl] at h;cases h3:(mIn (t.2.2.1.length:Int) 1 4&&mIn (t.2.2.2.length:Int) 1 4) with
   | false=>rw[h3] at h;simp at h
   | true=>
    rw[h3,if_pos rfl] at h;by_cases h4:code (mRf t.2.2.1) t.2.2.1=0
    ·rw[if_pos h4] at h
     unfold mTxO at h;by_cases h5:code (fun _ o=>mOut o) t.2.2.2=0
     ·rw[aLg,Qx,beq_iff_eq] at h1
      rw[aLg,Qx,Qx] at h3;have U:∀i (hi:i<t.2.2.1.length),mRef t.2.2.1[i]=true/\t.2.2.1[i] ∉ t.2.2.1.take i:=fun i hi=>by
       have I:=YH h4 i _ (aLf hi)
       unfold mRf at I;cases h6:mRef t.2.2.1[i] with
       | false=>rw[h6] at I;simp at I
       | true=>
        rw[h6,if_pos rfl] at I;exact⟨rfl,fun hm=>by rw[if_pos hm] at I;cases I⟩
      refine⟨h1.1,?_,by omega,by omega,fun r J=>?_,QuD _ fun i hi=>(U i hi).2,fun o ho=>?_⟩
      ·by_cases h0:t.1=0
       ·left
        have:=h1.2
        rw[aLE h0] at this;exact⟨h0,aLG this.symm⟩
       ·right
        rw[aLD h0,Bool.false_or,Qx] at h2;exact⟨h0,h2⟩
      ·obtain⟨i,hi,rfl⟩:=aMe.1 J
       exact (U i hi).1
      ·obtain⟨i,hi,rfl⟩:=aMe.1 ho
       have I:=YH h5 i _ (aLf hi)
       unfold mOut at I;cases h6:mIn t.2.2.2[i].1 1 1000000 with
       | false=>rw[h6] at I;simp at I
       | true=>
        rw[h6,if_pos rfl] at I;exact⟨Qx.1 h6,I⟩
     ·rw[if_neg h5] at h;exact absurd h h5
    ·rw[if_neg h4] at h;exact absurd h h4
theorem okT.b {t:TX} (h:okT t):bT t:=by
 have I:BIG=4611686018427387904:=rfl
 refine⟨by have:=h.li;omega,by have:=h.lo;omega,fun o ho=>?_⟩
 have:=(Yt (h.out o ho).2).len
 omega
def kw (k:Int):List UInt8:=if k=0 then [112,97,121] else if k=1 then [106,111,105,110] else [108,101,97,118,101]
def wRef (r:Int×Int):List UInt8:=Lib.itoa r.1++[58]++Lib.itoa r.2
def wOut (o:TOut):List UInt8:=Lib.itoa o.1++[61]++QA o.2 [95]
def wTx (t:TX):List (List UInt8):=[kw t.1]++(if t.1=0 then [] else [Lib.itoa t.2.1])++[Lib.join (t.2.2.1.map wRef) [43]]++t.2.2.2.map wOut
def Qu (t:TX):List UInt8:=Lib.join (wTx t) [32]
theorem Qis (c:UInt8) (B:Nat):∀ws:List (List UInt8),(∀w,w ∈ ws->w.length<=B)->(Lib.join ws [c]).length<=(B+1) * ws.length
 | [],_=>by simp[Lib.join_nil]
 | [x],h=>by rw[Lib.join_one];have:=h x aLm;simp;omega
 | x::y::r,h=>by
  have h1:=h x aLm
  have h2:=Qis c B (y::r) fun w hw=>h w (aLp _ hw)
  rw[Qbt,aLi,aLh];have e:(B+1) * (x::y::r).length=(B+1) * (y::r).length+(B+1):=by rw[aLh,Nat.mul_succ]
  omega
theorem QpA {r:Int×Int} (h:mRef r=true):(wRef r).length<=40:=by
 rw[Qaw] at h;have h1:=Zc (n:=r.1) (by omega) (by omega)
 have h2:=Zc (n:=r.2) (by omega) (by omega)
 unfold wRef;simp only[aLi,aLh,aLj];omega
theorem QpV {o:TOut} (h:(1<=o.1/\o.1<=1000000)/\Zg o.2=0):(wOut o).length<=140:=by
 have h1:=Zc (n:=o.1) (by omega) (by omega)
 have h2:=Qdq h.2 95
 unfold wOut;simp only[aLi,aLh,aLj];omega
theorem QlD {t:TX} (h:okT t):(Lib.join (t.2.2.1.map wRef) [43]).length<=164:=by
 have:=Qis 43 40 (t.2.2.1.map wRef) fun w hw=>by
  obtain⟨r,I,rfl⟩:=List.mem_map.1 hw;exact QpA (h.ref r I)
 rw[aMH] at this;have:=h.li
 omega
theorem QtA (k:Int):(kw k).length<=5:=by
 unfold kw;split
 ·simp
 ·split<;>simp
theorem Qnv {t:TX} (h:okT t):(∀w,w ∈ wTx t->w.length<=164)/\(wTx t).length<=7:=by
 refine⟨fun w hw=>?_,?_⟩
 ·unfold wTx at hw
  simp only[aMi,aLs] at hw;rcases hw with ((rfl | hw) | rfl) | hw
  ·have:=QtA t.1;omega
  ·split at hw
   ·simp at hw
   ·rw[aLs] at hw;subst hw
    have:=h.mem
    have:=Zc (n:=t.2.1) (by omega) (by omega)
    omega
  ·exact QlD h
  ·obtain⟨o,ho,rfl⟩:=List.mem_map.1 hw
   have:=QpV (h.out o ho);omega
 ·unfold wTx
  have:=h.lo
  split<;>simp<;>omega
theorem Qt7 {t:TX} (h:okT t):(Qu t).length<=1155:=by
 have:=Qis 32 164 (wTx t) (Qnv h).1
 have:=(Qnv h).2
 unfold Qu;omega
theorem QjG {t:TX} (h:okT t):QcI t=some (if (Qu t).length<=300 then (Qu t,0) else ([],2)):=by
 have hk:=h.kind
 have hm:=h.mem
 have hli:=h.li
 have hlo:=h.lo
 have hB:BIG=4611686018427387904:=rfl
 have hL:LIM=1073741824:=rfl
 have hrl:=QlD h
 have J:=Qt7 h
 unfold QcI Qax;rw[aLc,ZU (by omega) (by show t.1<((3:Nat):Int);omega),aLB]
 have U:List.getD ([[112,97,121],[106,111,105,110],[108,101,97,118,101]]:List (List UInt8)) (Int.toNat t.1) []=kw t.1:=by
  have:t.1=0\/t.1=1\/t.1=2:=by omega
  rcases this with e | e | e<;>rw[e]<;>rfl
 simp only[U];have e1:(bif !decide (t.1=0) then (Y1 t.2.1).bind fun (I:List UInt8)=>bif decide (List.length ([kw t.1]:List (List UInt8))+List.length ([I]:List (List UInt8))<=LIM) then some (List.append ([kw t.1]:List (List UInt8)) ([I]:List (List UInt8))) else none else some ([kw t.1]:List (List UInt8)))=some ([kw t.1]++(if t.1=0 then [] else [Lib.itoa t.2.1])):=by
  by_cases h0:t.1=0
  ·rw[aLE h0,if_pos h0];rfl
  ·rw[aLD h0,if_neg h0,Qct (by omega) (by omega),aLc,Qm (by simp;omega)];rfl
 rw[e1,aLc];rw[Zv (σ:=List (List UInt8)) t.2.2.1 (fun acc a=>acc++[wRef a]) (fun t i=>(t,i)) (fun t=>t) (fun t i=>t.length=i) _ (fun i hi x hx=>by
   have hr:=Qaw.1 (h.ref _ (aLl hi))
   have l1:=Zc (n:=t.2.2.1[i].1) (by omega) (by omega)
   have l2:=Zc (n:=t.2.2.1[i].2) (by omega) (by omega)
   refine⟨?_,by simp[hx]⟩
   simp only[dlt hi,Qb _ i hi,Qa _ i _ hi,aLB,Qct (n:=t.2.2.1[i].1) (by omega) (by omega),Qct (n:=t.2.2.1[i].2) (by omega) (by omega),aLc,wsucc hi (by omega),aLo]
   rw[Qm,Qm,Qm]
   ·rfl
   all_goals ((try simp only[aLi,aLh,aLj]);omega)) (fun t ht=>by simp only[dge,aLC]) [] rfl,aLc,foldl_map,aLx]
 have hj1:YF (t.2.2.1.map wRef) [43]=some (Lib.join (t.2.2.1.map wRef) [43]):=by
  unfold YF;exact Qlx _ _ (by rw[aMH];omega) (by omega)
 rw[hj1,aLc,Qm (by split<;>simp<;>omega)]
 rw[Zv (σ:=List (List UInt8)) t.2.2.2 (fun acc a=>acc++[wOut a]) (fun t i=>(t,i)) (fun t=>t) (fun t i=>t.length<=3+i) _ (fun i hi x hx=>by
   have ho:=h.out _ (aLl hi)
   have l1:=Zc (n:=t.2.2.2[i].1) (by omega) (by omega)
   have l2:=Qdq ho.2 95
   refine⟨?_,by simp;omega⟩
   simp only[dlt hi,Qb _ i hi,Qa _ i _ hi,aLB,Qct (n:=t.2.2.2[i].1) (by omega) (by omega),QhP (Yt ho.2) [95] (by simp),aLc,wsucc hi (by omega),aLo]
   rw[Qm,Qm,Qm]
   ·rfl
   all_goals ((try simp only[aLi,aLh,aLj]);omega)) (fun t ht=>by simp only[dge,aLC]) _ (by split<;>simp),aLc,foldl_map]
 have hw:List.append ([kw t.1]++(if t.1=0 then [] else [Lib.itoa t.2.1])) [Lib.join (t.2.2.1.map wRef) [43]]++t.2.2.2.map wOut=wTx t:=rfl
 rw[hw];have hj2:YF (wTx t) [32]=some (Qu t):=by
  unfold YF;have:=(Qnv h).2
  exact Qlx _ _ (by omega) (by unfold Qu at J;omega)
 rw[hj2,aLc];by_cases hlen:(Qu t).length<=300
 ·rw[aLD (by omega),if_pos hlen];rfl
 ·rw[aLE (by omega),if_neg hlen];rfl
theorem Qkc (x:List UInt8) (ws:List (List UInt8)) (c:UInt8):Lib.join (x::ws) [c]=x++(ws.map fun w=>c::w).flatten:=by
 rw[Lib.join_cons,Lib.joinTail];rfl
theorem QnD {α:Type} (l:List α) (g:α->List UInt8) (f:List UInt8×Int->Option ((List UInt8×Int)⊕List UInt8)) (B:Nat->Nat) (j:Nat)
  (U:∀(i:Nat) (h:i<l.length) (acc:List UInt8),j<=i->acc.length<=B i->f (acc,(i:Int))=some (.inl (acc++g l[i],((i+1:Nat):Int)))/\(acc++g l[i]).length<=B (i+1))
  (he:∀acc,f (acc,(l.length:Int))=some (.inr acc)):∀(k i:Nat) (acc:List UInt8),i+k=l.length->j<=i->acc.length<=B i->Qc f (acc,(i:Int))=some (acc++((l.drop i).map g).flatten)
 | 0,i,acc,hi,_,_=>by
  obtain rfl:i=l.length:=by omega
  rw[Qe (he acc)];simp
 | k+1,i,acc,hi,hj,ha=>by
  have h1:i<l.length:=by omega
  obtain⟨I,J⟩:=U i h1 acc hj ha;rw[Qo I,QnD l g f B j U he k (i+1) _ (by omega) (by omega) J,aLr h1,aMJ,List.flatten_cons,aMm]
theorem Qs1 (l:List (Int×Int)) (f:List UInt8×Int->Option ((List UInt8×Int)⊕List UInt8)) (acc:List UInt8) (ha:acc.length<=100) (I:1<=l.length/\l.length<=4) (hb:∀r,r ∈ l->(wRef r).length<=40)
  (J:∀(i:Nat) (h:i<l.length) (acc:List UInt8),acc.length<=10000->f (acc,(i:Int))=some (.inl (acc++((if i=0 then 32 else 43)::wRef l[i]),((i+1:Nat):Int))))
  (he:∀acc,f (acc,(l.length:Int))=some (.inr acc)):Qc f (acc,0)=some (acc++32::Lib.join (l.map wRef) [43]):=by
 cases l with
 | nil=>simp at I
 | cons r l=>
  have h0:=J 0 (by simp) acc (by omega)
  rw[if_pos rfl] at h0;have h0:f (acc,0)=some (.inl (acc++32::wRef r,((1:Nat):Int))):=h0
  have hr:=hb r aLm
  rw[Qo h0,QnD (r::l) (fun a=>43::wRef a) f (fun i=>200+50 * i) 1 (fun i hi a hj U=>by
   have h2:=J i hi a (by simp at hi I;omega)
   rw[if_neg (by omega)] at h2
   have:=hb _ (aLl hi)
   exact⟨h2,by rw[aLi,aLh];omega⟩) he l.length 1 _ (by simp;omega) (by omega) (by rw[aLi,aLh];omega)]
  rw[aMJ,Qkc,List.map_map];simp[Function.comp_def]
theorem QjN {t:TX} (h:okT t):QcJ t=some (Qu t):=by
 have hk:=h.kind
 have hm:=h.mem
 have hli:=h.li
 have hlo:=h.lo
 have hB:BIG=4611686018427387904:=rfl
 have hL:LIM=1073741824:=rfl
 have hrl:=QlD h
 unfold QcJ;rw[ZU (by omega) (by show t.1<((3:Nat):Int);omega),aLB]
 obtain⟨hd,U⟩:∃hd,hd=if t.1=0 then kw t.1 else kw t.1++32::Lib.itoa t.2.1:=⟨_,rfl⟩
 have hdl:hd.length<=100:=by
  have h1:=QtA t.1
  rw[U];split
  ·omega
  ·have:=Zc (n:=t.2.1) (by omega) (by omega)
   rw[aLi,aLh];omega
 have e1:(bif !decide (t.1=0) then (Zs t.2.1).bind fun (y26:List UInt8)=>
   bif decide (List.length (List.getD ([[112,97,121],[106,111,105,110,32],[108,101,97,118,101,32]]:List (List UInt8)) (Int.toNat t.1) [])+List.length y26<=LIM) then
   some (List.append (List.getD ([[112,97,121],[106,111,105,110,32],[108,101,97,118,101,32]]:List (List UInt8)) (Int.toNat t.1) []) y26)
   else none
   else some (List.getD ([[112,97,121],[106,111,105,110,32],[108,101,97,118,101,32]]:List (List UInt8)) (Int.toNat t.1) []))=some hd:=by
  rw[U];have:t.1=0\/t.1=1\/t.1=2:=by omega
  rcases this with e | e | e
  ·rw[e];rfl
  all_goals
   rw[Yl (by omega) (by omega),aLc,if_neg (by omega),aLD (by omega),aMB,aLB]
   have:=Zc (n:=t.2.1) (by omega) (by omega)
   rw[e,Qm (by simp;omega)]
   simp[kw]
 rw[e1,aLc];rw[Qs1 t.2.2.1 _ hd hdl hli (fun r hr=>QpA (h.ref r hr)) (fun i hi acc ha=>by
   have hr:=Qaw.1 (h.ref _ (aLl hi))
   have l1:=Zc (n:=t.2.2.1[i].1) (by omega) (by omega)
   have l2:=Zc (n:=t.2.2.1[i].2) (by omega) (by omega)
   simp only[dlt hi,Qb _ i hi,Qa _ i _ hi,aLB,Yl (n:=t.2.2.1[i].1) (by omega) (by omega),Yl (n:=t.2.2.1[i].2) (by omega) (by omega),aLc,wsucc hi (by omega),aLo]
   have es:(bif decide ((i:Int)=0) then some [32] else some [43]:Option (List UInt8))=some [if i=0 then 32 else 43]:=by
    by_cases h0:i=0
    ·rw[if_pos h0,aLE (by omega)];rfl
    ·rw[if_neg h0,aLD (by omega)];rfl
   rw[es,aLc,Qm,Qm,Qm,Qm]
   ·unfold wRef;simp
   all_goals ((try simp only[aLi,aLh,aLj]);omega)) (fun acc=>by simp only[dge,aLC]),aLc]
 have:=QlK t.2.2.2 (fun o=>32::wOut o) (fun (I:List UInt8×Int)=>
 bif (decide ((I.2:Int)<(List.length t.2.2.2:Int))) then
 bif decide (List.length I.1+List.length [32]<=LIM) then
 bif (inB I.2 t.2.2.2) then
 (Zs (List.getD t.2.2.2 (Int.toNat I.2) (0,([],(0,0)))).1).bind fun (J:List UInt8)=>
 bif decide (List.length (List.append I.1 [32])+List.length J<=LIM) then
 bif decide (List.length (List.append (List.append I.1 [32]) J)+List.length [61]<=LIM) then
 bif (inB I.2 t.2.2.2) then
 (QcH (List.getD t.2.2.2 (Int.toNat I.2) (0,([],(0,0)))).2).bind fun (y46:List UInt8)=>
 (QaW y46 32 95).bind fun (y47:List UInt8)=>
 bif decide (List.length (List.append (List.append (List.append I.1 [32]) J) [61])+List.length y47<=LIM) then
 some (inl (List.append (List.append (List.append (List.append I.1 [32]) J) [61]) y47,wrap .i64 (I.2+1)))
 else none
 else none
 else none
 else none
 else none
 else none
 else
 some (inr I.1)) (fun i=>400+200 * i) (fun i hi acc ha=>by
   have ho:=h.out _ (aLl hi)
   have l1:=Zc (n:=t.2.2.2[i].1) (by omega) (by omega)
   have l2:=Qdq ho.2 95
   have l4:=Qdq ho.2 32
   have l3:=QpV ho
   refine⟨?_,by rw[aLi,aLh];omega⟩
   have hsw:QaW (QA t.2.2.2[i].2 [32]) 32 95=some (QA t.2.2.2[i].2 [95]):=by
    have:=Qta (QA t.2.2.2[i].2 [32]) 32 95 (by omega)
    rw[Qpn (Yt ho.2) Qfq] at this;exact this
   simp only[dlt hi,Qb _ i hi,Qa _ i _ hi,aLB,Yl (n:=t.2.2.2[i].1) (by omega) (by omega),QoR (Yt ho.2),hsw,aLc,wsucc hi (by omega),aLo]
   rw[Qm,Qm,Qm,Qm]
   ·unfold wOut;simp
   all_goals ((try simp only[aLi,aLh,aLj]);omega)) (fun acc=>by simp only[dge,aLC]) t.2.2.2.length 0 (hd++32::Lib.join (t.2.2.1.map wRef) [43]) (by omega) (by rw[aLi,aLh];omega)
 rw[show ((0:Nat):Int)=0 from rfl] at this
 rw[this,aLc,aMt];congr 1;unfold Qu wTx;rw[U];by_cases h0:t.1=0
 ·rw[if_pos h0,if_pos h0]
  simp only[List.append_nil,aMs,aLx];rw[Qkc,aMJ,List.flatten_cons,List.map_map];simp[Function.comp_def]
 ·rw[if_neg h0,if_neg h0]
  simp only[aMs,aLx];rw[Qkc,aMJ,aMJ,List.flatten_cons,List.flatten_cons,List.map_map];simp[Function.comp_def]
theorem QoD {t:TX} (h:mTxF t=0):QeQ t=some (if (Qu t).length<=300 then (0,Qu t) else (2,[])):=by
 unfold QeQ;rw[QbX t (Jj h).b,aLc,h,QjN (Jj h)];simp only[aMc,aMa,aLC,aLc];by_cases hlen:(Qu t).length<=300
 ·rw[aLD (by omega),if_pos hlen];rfl
 ·rw[aLE (by omega),if_neg hlen];rfl
theorem QrB (c:UInt8) (sep:UInt8) (h0:c ≠ sep):∀ws:List (List UInt8),(∀w,w ∈ ws->c ∉ w)->c ∉ Lib.join ws [sep]
 | [],_=>by simp[Lib.join_nil]
 | [x],h=>by rw[Lib.join_one];exact h x aLm
 | x::y::r,h=>by
  rw[Qbt,aMi,List.mem_cons];rintro (h1 | h1 | h1)
  ·exact h x aLm h1
  ·exact h0 h1
  ·exact QrB c sep h0 (y::r) (fun w hw=>h w (aLp _ hw)) h1
theorem QmU {r:Int×Int} (h:mRef r=true) (c:UInt8) (J:c.toNat<48\/57<c.toNat) (I:c ≠ 58):c ∉ wRef r:=by
 rw[Qaw] at h;unfold wRef;simp only[aMi,aLs,not_or];exact⟨⟨Ye (by omega) c J,I⟩,Ye (by omega) c J⟩
theorem Qwl:Blank 61:=⟨by decide,by decide,by decide⟩
theorem Qud {o:TOut} (h:(1<=o.1/\o.1<=1000000)/\Zg o.2=0):(32:UInt8) ∉ wOut o:=by
 unfold wOut;simp only[aMi,aLs,not_or];exact⟨⟨Ye (by omega) 32 (by decide),by decide⟩,Qmi (Yt h.2) Qfq (by decide)⟩
theorem Qwh (k:Int):(32:UInt8) ∉ kw k:=by
 unfold kw;split
 ·decide
 ·split<;>decide
theorem QwB {t:TX} (h:okT t):∀w,w ∈ wTx t->(32:UInt8) ∉ w:=by
 intro w hw;unfold wTx at hw;simp only[aMi,aLs] at hw;rcases hw with ((rfl | hw) | rfl) | hw
 ·exact Qwh t.1
 ·split at hw
  ·simp at hw
  ·rw[aLs] at hw;subst hw
   have:=h.mem
   exact Ye (by omega) 32 (by decide)
 ·refine QrB 32 43 (by decide) _ fun w hw=>?_
  obtain⟨r,I,rfl⟩:=List.mem_map.1 hw;exact QmU (h.ref r I) 32 (by decide) (by decide)
 ·obtain⟨o,ho,rfl⟩:=List.mem_map.1 hw
  exact Qud (h.out o ho)
theorem QrD {t:TX} (h:okT t):cuts 32 (Qu t)=wTx t:=Qai 32 _ (by unfold wTx;simp) (QwB h)
theorem Qs2 {t:TX} (h:okT t):cuts 43 (Lib.join (t.2.2.1.map wRef) [43])=t.2.2.1.map wRef:=by
 refine Qai 43 _ (fun e=>?_) fun w hw=>?_
 ·have:=h.li
  rw[List.map_eq_nil_iff] at e;rw[e] at this;simp at this
 ·obtain⟨r,I,rfl⟩:=List.mem_map.1 hw
  exact QmU (h.ref r I) 43 (by decide) (by decide)
theorem QvF {r:Int×Int} (h:mRef r=true):Lib.cut (wRef r) [58]=(Lib.itoa r.1,Lib.itoa r.2,true):=by
 rw[Qaw] at h;have:=Qrz 58 (Lib.itoa r.1) (Lib.itoa r.2) (Ye (by omega) 58 (by decide))
 unfold wRef;simpa using this
theorem Quq {r:Int×Int} (h:mRef r=true):cuts 58 (wRef r)=[Lib.itoa r.1,Lib.itoa r.2]:=by
 rw[Qaw] at h;have:wRef r=Lib.join [Lib.itoa r.1,Lib.itoa r.2] [58]:=by rw[Qbt,Lib.join_one];unfold wRef;simp
 rw[this];refine Qai 58 _ (by simp) fun w hw=>?_
 simp only[List.mem_cons,List.not_mem_nil,or_false] at hw;rcases hw with rfl | rfl
 ·exact Ye (by omega) 58 (by decide)
 ·exact Ye (by omega) 58 (by decide)
theorem Qwe {o:TOut} (h:(1<=o.1/\o.1<=1000000)/\Zg o.2=0):Lib.cut (wOut o) [61]=(Lib.itoa o.1,QA o.2 [95],true):=by
 have:=Qrz 61 (Lib.itoa o.1) (QA o.2 [95]) (Ye (by omega) 61 (by decide))
 unfold wOut;simpa using this
theorem Qqo {o:TOut} (h:(1<=o.1/\o.1<=1000000)/\Zg o.2=0):cuts 61 (wOut o)=[Lib.itoa o.1,QA o.2 [95]]:=by
 have:wOut o=Lib.join [Lib.itoa o.1,QA o.2 [95]] [61]:=by rw[Qbt,Lib.join_one];unfold wOut;simp
 rw[this];refine Qai 61 _ (by simp) fun w hw=>?_
 simp only[List.mem_cons,List.not_mem_nil,or_false] at hw;rcases hw with rfl | rfl
 ·exact Ye (by omega) 61 (by decide)
 ·exact Qmi (Yt h.2) Qwl (by decide)
theorem Qvy (s:List UInt8) (c:UInt8) (h:s.length<=1000000):Qe2 s [c]=some (Lib.cut s [c]):=by
 unfold Qe2;exact QvO _ (by omega)
theorem Qrh (s sep:List UInt8):(Lib.cut s sep).1.length<=s.length/\(Lib.cut s sep).2.1.length<=s.length:=by
 unfold Lib.cut;split
 ·simp[aLn,aLz];omega
 ·simp
theorem Qk1 (l:List (List UInt8)) (I:l.length<BIG) (x:List UInt8):QT l x=some (idxF (fun a=>decide (x=a)) l):=by
 unfold QT;refine Yx l (fun a=>decide (x=a)) _ (fun i h=>?_) (by simp only[dge,aLC])
 simp only[dlt h,Qb l i h,Qa l i _ h,aLB,wsucc h I];cases decide (x=l[i])<;>rfl
theorem Qwp (w:List UInt8):Y (QT [[112,97,121],[106,111,105,110],[108,101,97,118,101]] w) (fun k=>-1<=k/\k<=2/\∀j,0<=j->j<=2->w=kw j->k=j):=by
 refine⟨_,Qk1 _ (by decide) w,?_⟩
 unfold idxF;simp only[first]
 by_cases h0:w=[112,97,121]
 ·subst h0
  refine⟨by simp,by simp,fun j h1 h2 h3=>?_⟩
  have:j=0\/j=1\/j=2:=by omega
  rcases this with rfl | rfl | rfl
  ·simp
  ·simp[kw] at h3
  ·simp[kw] at h3
 ·simp only[h0,aMD,Bool.false_eq_true,if_false]
  by_cases h1:w=[106,111,105,110]
  ·subst h1
   refine⟨by simp,by simp,fun j h1 h2 h3=>?_⟩
   have:j=0\/j=1\/j=2:=by omega
   rcases this with rfl | rfl | rfl
   ·simp[kw] at h3
   ·simp
   ·simp[kw] at h3
  ·simp only[h1,aMD,Bool.false_eq_true,if_false]
   by_cases h2:w=[108,101,97,118,101]
   ·subst h2
    refine⟨by simp,by simp,fun j h1 h2 h3=>?_⟩
    have:j=0\/j=1\/j=2:=by omega
    rcases this with rfl | rfl | rfl
    ·simp[kw] at h3
    ·simp[kw] at h3
    ·simp
   ·simp only[h2,aMD,Bool.false_eq_true,if_false]
    refine⟨by simp,by simp,fun j h3 h4 h5=>?_⟩
    have:j=0\/j=1\/j=2:=by omega
    rcases this with rfl | rfl | rfl
    ·exact absurd h5 h0
    ·exact absurd h5 h1
    ·exact absurd h5 h2
def okO (o:TOut):Prop:=(1<=o.1/\o.1<=1000000)/\Zg o.2=0
theorem QsU (s:List UInt8) (J:s.length<=1000):Y (QdE s) (fun x=>x.1.2.1.length<=1001/\∀o,okO o->wOut o=s->x=(o,true)):=by
 unfold QdE;have U:=Qrh s [61]
 refine Y.eqb (Qvy s 61 (by omega)) (Y.bind (Qsy _ 95 Qrq (by omega)) (fun r I=>Y.eqb (Jp _ (by omega)) (Y.some ⟨by have:=I.1;show r.1.1.length<=_;omega,fun o ho h=>?_⟩)))
 have e:=Qwe ho
 rw[h] at e;rw[e] at I ⊢;rw[I.2 o.2 ho.2 rfl];show ((numS (Lib.itoa o.1),o.2),true)=_
 rw[Qb8 (by have:=ho.1;omega) (by have:=ho.1;omega)]
def TxQ (s:List UInt8) (x:TX×Bool):Prop:=(x.2=true->mTxF x.1=0/\Qu x.1=s)/\∀I,mTxF I=0->Qu I=s->x=(I,true)
theorem drop1 {α:Type} (l:List α) (h:1<=l.length):List.take (Int.toNat ((List.length l:Int) - 1)) (List.drop (Int.toNat 1) l)=l.drop 1:=by
 rw[show Int.toNat 1=1 from rfl]
 exact aMx (by rw[aLz];omega)
theorem Qqp {α:Type} (l:List α) (h:1<=l.length):Qz 1 (List.length l:Int) l=true:=by
 unfold Qz;simp;omega
theorem QiD (s:List UInt8) (c:UInt8) (d i:Nat):(List.getD ((cuts c s).drop d) i []).length<=s.length:=by
 rw[aLk,List.getElem?_drop];have:=YM c s (d+i)
 rw[aLk] at this;exact this
theorem Qus (s:List UInt8) (hs:s.length<=300):Y (Qex s) (TxQ s):=by
 have hB:BIG=4611686018427387904:=rfl
 have hne:=QbR 32 s
 have hlen:=J1 32 s
 have hpos:1<=(cuts 32 s).length:=by
  cases h:cuts 32 s with
  | nil=>exact absurd h hne
  | cons a l=>simp
 have hwd:∀I,mTxF I=0->Qu I=s->okT I/\cuts 32 s=wTx I:=fun I h1 h2=>⟨Jj h1,by rw[<-h2];exact QrD (Jj h1)⟩
 have hno:∀t:TX,(∀I,mTxF I=0->Qu I=s->False)->TxQ s (t,false):=fun t h=>⟨(fun h=>by cases h),fun I h1 h2=>(h I h1 h2).elim⟩
 unfold Qex Qax;refine Y.eqb (Qhd s 32 (by omega)) (Y.eqb rfl (Y.grd (ZU (by omega) (by omega)) (Y.bind (Qwp _) (fun k hk=>?_))))
 obtain⟨hk0,hk2,hkc⟩:=hk;have hkw:∀I,mTxF I=0->Qu I=s->k=I.1:=fun I h1 h2=>by
  obtain⟨ho,hw⟩:=hwd I h1 h2;refine hkc I.1 ho.kind.1 ho.kind.2 ?_;rw[hw];rfl
 refine Y.bind (Q:=fun j=>(j=false->0<=k)/\(j=true->k<0)) ?_ (fun j hj=>?_)
 ·refine Y.bif (fun h=>?_) (fun _=>Y.some ⟨(fun h=>?_),(fun h=>?_)⟩)
  ·simp at h;omega
  ·simp at h;omega
  ·simpa using h
 refine Y.bif (fun h=>Y.some (hno _ fun I h1 h2=>?_)) (fun h=>?_)
 ·have:=hkw I h1 h2
  have:=(hwd I h1 h2).1.kind
  have:=hj.2 h
  omega
 have hk0:=hj.1 h
 rw[drop1 _ hpos];refine Y.grd (Qqp _ hpos) ?_;have hdl:((cuts 32 s).drop 1).length=(cuts 32 s).length - 1:=aLz
 refine Y.bind (Q:=fun j=>(j=true↔(k ≠ 0/\1<=((cuts 32 s).drop 1).length))) ?_ (fun j hj=>?_)
 ·refine Y.bif (fun h=>Y.some ?_) (fun h=>Y.some ?_)
  ·simp at h ⊢;omega
  ·simp at h ⊢
   intro h2;exact absurd h h2
 refine Y.bind (Q:=fun (x:List (List UInt8)×TX)=>(∃d,x.1=(cuts 32 s).drop d)/\x.2.2.2=([],[])/\∀I,mTxF I=0->Qu I=s->x=(Lib.join (I.2.2.1.map wRef) [43]::I.2.2.2.map wOut,(I.1,I.2.1,[],[]))) ?_ (fun x hx=>?_)
 ·refine Y.bif (fun h=>?_) (fun h=>Y.some ⟨⟨1,rfl⟩,rfl,fun I h1 h2=>?_⟩)
  ·obtain⟨hkn,h1l⟩:=hj.1 h
   refine Y.grd (ZU (by omega) (by omega)) (Y.eqb (Jp _ (by have:=QiD s 32 1 0;show (List.getD ((cuts 32 s).drop 1) 0 []).length<=_;omega)) ?_)
   rw[drop1 _ h1l];refine Y.grd (Qqp _ h1l) (Y.some ⟨⟨2,by rw[List.drop_drop]⟩,rfl,fun I h1 h2=>?_⟩)
   obtain⟨ho,hw⟩:=hwd I h1 h2;have hkk:=hkw I h1 h2
   have hm:=ho.mem
   rw[hw];unfold wTx;rw[if_neg (by omega)]
   show (Lib.join (I.2.2.1.map wRef) [43]::I.2.2.2.map wOut,(k,numS (Lib.itoa I.2.1),[],[]))=_
   rw[Qb8 (by omega) (by omega),hkk]
  ·obtain⟨ho,hw⟩:=hwd I h1 h2
   have hkk:=hkw I h1 h2
   have hm:=ho.mem
   have hk0':k=0:=by
    by_cases e:k=0
    ·exact e
    ·have hl:1<=((cuts 32 s).drop 1).length:=by
      rw[hw];unfold wTx;rw[if_neg (by omega)];simp
     rw[hj.2 ⟨e,hl⟩] at h;cases h
   rw[hw];unfold wTx;rw[if_pos (by omega)]
   show (Lib.join (I.2.2.1.map wRef) [43]::I.2.2.2.map wOut,(k,0,[],[]))=_
   rw[hkk,show I.2.1=0 by omega]
 obtain⟨⟨d,hd⟩,he,hxc⟩:=hx;obtain⟨xw,xk,xm,xi,xo⟩:=x;have hdx:xw=(cuts 32 s).drop d:=hd
 have he:(xi,xo)=([],[]):=he
 simp only[aLe] at he;obtain⟨rfl,rfl⟩:=he;simp only;have hxl:xw.length<=301:=by rw[hdx,aLz];omega
 have hxw:∀i,(List.getD xw i []).length<=300:=fun i=>by rw[hdx];have:=QiD s 32 d i;omega
 have hxc':∀I,mTxF I=0->Qu I=s->xw=Lib.join (I.2.2.1.map wRef) [43]::I.2.2.2.map wOut/\xk=I.1/\xm=I.2.1:=fun I h1 h2=>by
  have:=hxc I h1 h2
  simp only[aLe] at this;exact⟨this.1,this.2.1,this.2.2.1⟩
 refine Y.bind (Q:=fun j=>(j=false->2<=xw.length/\xw.length<=5)/\(j=true->¬(2<=xw.length/\xw.length<=5))) ?_ (fun j hj=>?_)
 ·refine Y.bif (fun h=>Y.some ⟨(fun h=>by cases h),(fun _=>?_)⟩) (fun h1=>Y.some ⟨(fun h=>?_),(fun h=>?_)⟩)
  ·simp at h;omega
  ·simp at h h1;omega
  ·simp at h;omega
 refine Y.bif (fun h=>Y.some (hno _ fun I h1 h2=>?_)) (fun h=>?_)
 ·refine hj.2 h ?_
  obtain⟨e1,_⟩:=hxc' I h1 h2;have:=(hwd I h1 h2).1.lo
  rw[e1];simp;omega
 have h25:=hj.1 h
 have hw0:=hxw 0
 refine Y.grd (ZU (by omega) (by omega)) (Y.eqb (Qhd _ 43 (by show (List.getD xw 0 []).length<=_;omega)) ?_)
 obtain⟨rs,hrs⟩:∃rs,rs=cuts 43 (List.getD xw (Int.toNat 0) []):=⟨_,rfl⟩;have hrs':rs=cuts 43 (List.getD xw 0 []):=hrs
 rw[<-hrs];have hrl:rs.length<=301:=by rw[hrs'];have:=J1 43 (List.getD xw 0 []);omega
 have hrw:∀w,w ∈ rs->w.length<=300:=fun w hw=>by rw[hrs'] at hw;have:=Qca 43 _ w hw;omega
 have hrc:∀I,mTxF I=0->Qu I=s->rs=I.2.2.1.map wRef:=fun I h1 h2=>by
  rw[hrs',(hxc' I h1 h2).1];exact Qs2 (hwd I h1 h2).1
 refine Y.bind (Q:=fun (t:TX)=>t.2.2.1.length<=301/\t.2.2.2=[]/\∀I,mTxF I=0->Qu I=s->t=(I.1,I.2.1,I.2.2.1,[])) ?_ (fun t ht=>?_)
 ·refine Y.loop (fun n (st:Int×TX)=>∃i:Nat,st.1=(i:Int)/\i<=rs.length/\n=rs.length - i/\st.2.2.2.1.length=i/\st.2.2.2.2=[]/\∀I,mTxF I=0->Qu I=s->st.2=(I.1,I.2.1,I.2.2.1.take i,[])) (fun n st hI=>?_) rs.length _ ⟨0,rfl,by omega,by omega,rfl,rfl,fun I h1 h2=>by
   obtain⟨_,e1,e2⟩:=hxc' I h1 h2;show (xk,xm,[],[])=_
   rw[e1,e2];rfl⟩
  obtain⟨i,hi,hle,hnn,hac,hoz,U⟩:=hI;obtain⟨i',k',m',acc,oz⟩:=st;have hi:i'=(i:Int):=hi
  subst hi;have hac:acc.length=i:=hac
  have hoz:oz=[]:=hoz
  subst hoz;refine Y.bif (fun h1=>?_) (fun h1=>Y.some ⟨by show acc.length<=_;omega,rfl,fun I h2 h3=>?_⟩)
  ·have J:i<rs.length:=by simp at h1;omega
   have hg:List.getD rs (Int.toNat (i:Int)) []=rs[i]:=Qa rs i _ J
   have hwl:=hrw _ (aLl J)
   rw[hg];have hcl:=Qrh rs[i] [58]
   refine Y.grd (Qb _ i J) (Y.eqb (Qvy _ 58 (by omega)) (Y.eqb (Jp _ (by omega)) (Y.eqb (Jp _ (by omega)) (Y.grd (Qhb _ _ (by show acc.length<_;omega)) (Y.some ⟨rs.length - (i+1),by omega,i+1,wsucc J (by omega),by omega,rfl,by show (List.append acc [_]).length=_;simp[hac],rfl,fun I h2 h3=>?_⟩)))))
   have hm:=hrc I h2 h3
   have hr:i<I.2.2.1.length:=by rw[hm] at J;simpa using J
   have hok:=(hwd I h2 h3).1.ref _ (aLl hr)
   have e:rs[i]=wRef I.2.2.1[i]:=by rw[List.getElem_of_eq hm J];simp
   have hc2:=U I h2 h3
   simp only[aLe] at hc2;rw[e,QvF hok];rw[Qaw] at hok;show (k',m',List.append acc [(numS (Lib.itoa I.2.2.1[i].1),numS (Lib.itoa I.2.2.1[i].2))],[])=_
   rw[Qb8 (by omega) (by omega),Qb8 (by omega) (by omega),hc2.1,hc2.2.1,hc2.2.2.1,List.take_add_one,aLf hr]
   rfl
  ·have hge:i=rs.length:=by simp at h1;omega
   have c2:=U I h2 h3
   have hkl:rs.length=I.2.2.1.length:=by rw[hrc I h2 h3];simp
   rw[hge,hkl,List.take_length] at c2;exact c2
 obtain⟨hti,hto,htc⟩:=ht;obtain⟨tk,tm,ti,to⟩:=t;have hto:to=[]:=hto
 subst hto;have hti:ti.length<=301:=hti
 have hx1:1<=xw.length:=by omega
 rw[drop1 _ hx1];refine Y.grd (Qqp _ hx1) ?_;obtain⟨os,hos⟩:∃os,os=xw.drop 1:=⟨_,rfl⟩;rw[<-hos];have hol:os.length<=4:=by rw[hos,aLz];omega
 have how:∀w,w ∈ os->w.length<=300:=fun w hw=>by
  rw[hos,hdx,List.drop_drop] at hw;have:=Qca 32 s w (List.mem_of_mem_drop hw);omega
 have hoc:∀I,mTxF I=0->Qu I=s->os=I.2.2.2.map wOut:=fun I h1 h2=>by
  rw[hos,(hxc' I h1 h2).1];rfl
 refine Y.bind (Q:=fun (r:TX⊕(Bool×TX))=>match r with
   | .inl t=>t.2.2.1.length<=301/\t.2.2.2.length<=4/\(∀o,o ∈ t.2.2.2->o.2.1.length<=1001)/\∀I,mTxF I=0->Qu I=s->t=I
   | .inr x=>x.1=false/\∀I,mTxF I=0->Qu I=s->False) ?_ (fun r hr=>?_)
 ·refine Y.loop (fun n (st:Int×TX)=>∃i:Nat,st.1=(i:Int)/\i<=os.length/\n=os.length - i/\st.2.2.2.1.length<=301/\st.2.2.2.2.length=i/\(∀o,o ∈ st.2.2.2.2->o.2.1.length<=1001)/\∀I,mTxF I=0->Qu I=s->st.2=(I.1,I.2.1,I.2.2.1,I.2.2.2.take i)) (fun n st hI=>?_) os.length _ ⟨0,rfl,by omega,by omega,hti,rfl,(fun o ho=>nomatch ho),fun I h1 h2=>by
   rw[htc I h1 h2];rfl⟩
  obtain⟨i,hi,hle,hnn,hil,hac,hkl,U⟩:=hI;obtain⟨i',k',m',il,acc⟩:=st;have hi:i'=(i:Int):=hi
  subst hi;have hac:acc.length=i:=hac
  refine Y.bif (fun h1=>?_) (fun h1=>Y.some ⟨hil,by show acc.length<=_;omega,hkl,fun I h2 h3=>?_⟩)
  ·have J:i<os.length:=by simp at h1;omega
   have hg:List.getD os (Int.toNat (i:Int)) []=os[i]:=Qa os i _ J
   have hwl:=how _ (aLl J)
   rw[hg];refine Y.grd (Qb _ i J) (Y.bind (QsU _ (by omega)) (fun y hy=>?_))
   have hyc:∀I,mTxF I=0->Qu I=s->∃hr:i<I.2.2.2.length,y=(I.2.2.2[i],true):=fun I h2 h3=>by
    have hm:=hoc I h2 h3
    have hr:i<I.2.2.2.length:=by rw[hm] at J;simpa using J
    have e:os[i]=wOut I.2.2.2[i]:=by rw[List.getElem_of_eq hm J];simp
    exact⟨hr,hy.2 _ ((hwd I h2 h3).1.out _ (aLl hr)) e.symm⟩
   refine Y.bif (fun h4=>Y.some ⟨rfl,fun I h2 h3=>?_⟩) (fun h4=>Y.grd (Qhb _ _ (by show acc.length<_;omega)) (Y.some ⟨os.length - (i+1),by omega,i+1,wsucc J (by omega),by omega,rfl,hil,by show (List.append acc [_]).length=_;simp[hac],fun o ho=>?_,fun I h2 h3=>?_⟩))
   ·obtain⟨_,e⟩:=hyc I h2 h3
    rw[e] at h4;cases h4
   ·rcases aMi.1 (show o ∈ acc++[y.1] from ho) with ho | ho
    ·exact hkl o ho
    ·rw[aLs] at ho;subst ho;exact hy.1
   ·obtain⟨hr,e⟩:=hyc I h2 h3
    have hc2:=U I h2 h3
    simp only[aLe] at hc2;show (k',m',il,List.append acc [y.1])=_
    rw[e,hc2.1,hc2.2.1,hc2.2.2.1,hc2.2.2.2,List.take_add_one,aLf hr];rfl
  ·have hge:i=os.length:=by simp at h1;omega
   have c2:=U I h2 h3
   have hkl:os.length=I.2.2.2.length:=by rw[hoc I h2 h3];simp
   rw[hge,hkl,List.take_length] at c2;exact c2
 cases r with
 | inr x=>exact Y.some (by rw[hr.1];exact hno _ hr.2)
 | inl t=>
  obtain⟨r1,r2,r3,r4⟩:=hr;have hb:bT t:=⟨by omega,by omega,fun o ho=>by have:=r3 o ho;omega⟩
  refine Y.eqb (QiX t hb) (Y.bif (fun h=>Y.some (hno _ fun I h1 h2=>?_)) (fun h=>?_))
  ·rw[r4 I h1 h2,h1] at h;simp at h
  ·have h0:mTxF t=0:=by simpa using h
   refine Y.eqb (QjG (Jj h0)) ?_;by_cases hl:(Qu t).length<=300
   ·rw[if_pos hl]
    refine Y.some ⟨fun hh=>⟨h0,by simpa using hh⟩,fun I h1 h2=>?_⟩
    obtain rfl:=r4 I h1 h2;show (t,decide (Qu t=s))=_
    rw[aLE h2]
   ·rw[if_neg hl]
    refine Y.some (hno _ fun I h1 h2=>?_)
    obtain rfl:=r4 I h1 h2;rw[h2] at hl;exact hl hs
theorem Qfs (k:Int) (n:Nat) (h0:0<=k) (h1:k<((10 ^ n:Nat):Int)) (I:1<=n):(Lib.itoa k).length<=n:=by
 obtain⟨m,rfl⟩:=aLA h0;rw[Js,Lib.decDigits_length];exact QdM n m (by omega) I
theorem Qo7 (w:List UInt8) (n:Nat) (hw:w.length<BIG):Y (Qr w (n:Int)) (fun r=>∀k,0<=k->k<=9999999->w=Lib.itoa k->(Lib.itoa k).length<=n->r=(k,true)):=by
 obtain⟨r,h1,_⟩:=Qjt w (n:Int) hw;refine⟨r,h1,fun k h0 h9 hk I=>?_⟩
 rw[hk,Qg4 h0 h9 n I] at h1;exact (aMu h1).symm
theorem Qso {l:List (Int×Int)} (I:l ≠ []) (h:∀r,r ∈ l->mRef r=true):cuts 43 (Lib.join (l.map wRef) [43])=l.map wRef:=by
 refine Qai 43 _ (fun e=>I (List.map_eq_nil_iff.1 e)) fun w hw=>?_
 obtain⟨r,J,rfl⟩:=List.mem_map.1 hw;exact QmU (h r J) 43 (by decide) (by decide)
theorem Qv2 (s:List UInt8) (hs:s.length<=300):Y (QfO s) (fun x=>x.1.length<=301/\∀l,l ≠ []->(∀r,r ∈ l->mRef r=true)->Lib.join (l.map wRef) [43]=s->x=(l,true)):=by
 have hB:BIG=4611686018427387904:=rfl
 unfold QfO;refine Y.eqb (JJ s 43 (by unfold LIM;omega)) ?_
 obtain⟨rs,hrs⟩:∃rs,rs=cuts 43 s:=⟨_,rfl⟩;rw[<-hrs];have hrl:rs.length<=301:=by rw[hrs];have:=J1 43 s;omega
 have hrw:∀w,w ∈ rs->w.length<=300:=fun w hw=>by rw[hrs] at hw;have:=Qca 43 _ w hw;omega
 have hrc:∀l,l ≠ []->(∀r,r ∈ l->mRef r=true)->Lib.join (l.map wRef) [43]=s->rs=l.map wRef:=fun l h1 h2 h3=>by
  rw[hrs,<-h3];exact Qso h1 h2
 refine Y.bind (Q:=fun (r:List (Int×Int)⊕(List (Int×Int)×Bool))=>match r with
   | .inl x=>x.length<=301/\∀l,l ≠ []->(∀r,r ∈ l->mRef r=true)->Lib.join (l.map wRef) [43]=s->x=l
   | .inr x=>x=([],false)/\∀l,l ≠ []->(∀r,r ∈ l->mRef r=true)->Lib.join (l.map wRef) [43]=s->False) ?_ (fun r J=>?_)
 ·refine Y.loop (fun n (st:List (Int×Int)×Int)=>∃i:Nat,st.2=(i:Int)/\i<=rs.length/\n=rs.length - i/\st.1.length=i/\∀l,l ≠ []->(∀r,r ∈ l->mRef r=true)->Lib.join (l.map wRef) [43]=s->st.1=l.take i) (fun n st hI=>?_) rs.length _ ⟨0,rfl,by omega,by omega,rfl,fun l _ _ _=>rfl⟩
  obtain⟨i,hi,hle,hnn,hac,U⟩:=hI;obtain⟨acc,i'⟩:=st;have hi:i'=(i:Int):=hi
  subst hi;have hac:acc.length=i:=hac
  refine Y.bif (fun h1=>?_) (fun h1=>Y.some ⟨by show acc.length<=_;omega,fun l h2 h3 h4=>?_⟩)
  ·have I:i<rs.length:=by simp at h1;omega
   have hg:List.getD rs (Int.toNat (i:Int)) []=rs[i]:=Qa rs i _ I
   have hwl:=hrw _ (aLl I)
   rw[hg];have hpc:∀l,l ≠ []->(∀r,r ∈ l->mRef r=true)->Lib.join (l.map wRef) [43]=s->∃J:i<l.length,mRef l[i]=true/\cuts 58 rs[i]=[Lib.itoa l[i].1,Lib.itoa l[i].2]:=fun l h2 h3 h4=>by
    have hm:=hrc l h2 h3 h4
    have J:i<l.length:=by rw[hm] at I;simpa using I
    have e:rs[i]=wRef l[i]:=by rw[List.getElem_of_eq hm I];simp
    have hok:=h3 _ (aLl J)
    exact⟨J,hok,by rw[e];exact Quq hok⟩
   refine Y.grd (Qb _ i I) (Y.eqb (JJ _ 58 (by unfold LIM;omega)) (Y.bif (fun h5=>Y.some ⟨rfl,fun l h2 h3 h4=>?_⟩) (fun h5=>?_)))
   ·obtain⟨_,_,e⟩:=hpc l h2 h3 h4
    rw[e] at h5;simp at h5
   ·have h2l:(cuts 58 rs[i]).length=2:=by simp at h5;omega
    have w0:=YM 58 rs[i] 0
    have w1:=YM 58 rs[i] 1
    refine Y.grd (ZU (by omega) (by omega)) (Y.bind (Qo7 (List.getD (cuts 58 rs[i]) (Int.toNat 0) []) 2 (by show (List.getD (cuts 58 rs[i]) 0 []).length<_;omega)) (fun a ha=>Y.grd (ZU (by omega) (by omega)) (Y.bind (Qo7 (List.getD (cuts 58 rs[i]) (Int.toNat 1) []) 1 (by show (List.getD (cuts 58 rs[i]) 1 []).length<_;omega)) (fun b hb=>?_))))
    have hab:∀l,l ≠ []->(∀r,r ∈ l->mRef r=true)->Lib.join (l.map wRef) [43]=s->∃J:i<l.length,a=(l[i].1,true)/\b=(l[i].2,true):=fun l h2 h3 h4=>by
     obtain⟨J,hok,e⟩:=hpc l h2 h3 h4;rw[Qaw] at hok;refine⟨J,ha _ (by omega) (by omega) (by rw[e];rfl) (Qfs _ 2 (by omega) (by omega) (by omega)),hb _ (by omega) (by omega) (by rw[e];rfl) (Qfs _ 1 (by omega) (by omega) (by omega))⟩
    refine Y.bind (Q:=fun j=>j=true->∀l,l ≠ []->(∀r,r ∈ l->mRef r=true)->Lib.join (l.map wRef) [43]=s->False) ?_ (fun j hj=>Y.bif (fun h=>Y.some ⟨rfl,hj h⟩) (fun _=>Y.grd (Qhb _ _ (by show acc.length<_;omega)) (Y.some ⟨rs.length - (i+1),by omega,i+1,wsucc I (by omega),by omega,rfl,by show (List.append acc [_]).length=_;simp[hac],fun l h2 h3 h4=>?_⟩)))
    ·refine Y.bif (fun h=>Y.some (fun _ l h2 h3 h4=>?_)) (fun h=>Y.some (fun h' l h2 h3 h4=>?_))
     ·obtain⟨_,e,_⟩:=hab l h2 h3 h4
      rw[e] at h;cases h
     ·obtain⟨_,_,e⟩:=hab l h2 h3 h4
      rw[e] at h';cases h'
    ·obtain⟨J,e1,e2⟩:=hab l h2 h3 h4
     have hc2:acc=l.take i:=U l h2 h3 h4
     show List.append acc [(a.1,b.1)]=_
     rw[e1,e2,hc2,List.take_add_one,aLf J];rfl
  ·have hge:i=rs.length:=by simp at h1;omega
   have c2:acc=l.take i:=U l h2 h3 h4
   have hkl:rs.length=l.length:=by rw[hrc l h2 h3 h4];simp
   show acc=l
   rw[c2,hge,hkl,List.take_length]
 cases r with
 | inl x=>exact Y.some ⟨J.1,fun l h2 h3 h4=>by rw[J.2 l h2 h3 h4]⟩
 | inr x=>exact Y.some ⟨by rw[J.1];simp,fun l h2 h3 h4=>(J.2 l h2 h3 h4).elim⟩
theorem Qt4 (s:List UInt8) (hs:s.length<=300):Y (QdP s) (TxQ s):=by
 have hB:BIG=4611686018427387904:=rfl
 have hne:=QbR 32 s
 have hlen:=J1 32 s
 have hpos:1<=(cuts 32 s).length:=by
  cases h:cuts 32 s with
  | nil=>exact absurd h hne
  | cons a l=>simp
 have J:∀I,mTxF I=0->Qu I=s->okT I/\cuts 32 s=wTx I:=fun I h1 h2=>⟨Jj h1,by rw[<-h2];exact QrD (Jj h1)⟩
 have hno:∀t:TX,(∀I,mTxF I=0->Qu I=s->False)->TxQ s (t,false):=fun t h=>⟨(fun h=>by cases h),fun I h1 h2=>(h I h1 h2).elim⟩
 unfold QdP;refine Y.eqb (JJ s 32 (by unfold LIM;omega)) ?_
 obtain⟨ws,hws⟩:∃ws,ws=cuts 32 s:=⟨_,rfl⟩;rw[<-hws];rw[<-hws] at hlen hpos;simp only[<-hws] at J;have hww:∀i,(List.getD ws i []).length<=300:=fun i=>by rw[hws];have:=YM 32 s i;omega
 have hin0:inB 0 ws=true:=ZU (by omega) (by omega)
 have hw0:∀I,mTxF I=0->Qu I=s->List.getD ws (Int.toNat 0) []=kw I.1:=fun I h1 h2=>by rw[(J I h1 h2).2];rfl
 refine Y.bind (Q:=fun j=>∀I,mTxF I=0->Qu I=s->(j=true↔I.1 ≠ 0)) ?_ (fun j hj=>?_)
 ·have kk:∀I,mTxF I=0->Qu I=s->I.1=0\/I.1=1\/I.1=2:=fun I h1 h2=>by have:=(J I h1 h2).1.kind;omega
  refine Y.grd hin0 (Y.bif (fun h=>Y.some (fun I h1 h2=>?_)) (fun h=>Y.grd hin0 (Y.some (fun I h1 h2=>?_))))
  ·rw[hw0 I h1 h2] at h
   rcases kk I h1 h2 with e | e | e<;>rw[e] at h ⊢<;>simp[kw] at h ⊢
  ·rw[hw0 I h1 h2] at h ⊢
   rcases kk I h1 h2 with e | e | e<;>rw[e] at h ⊢<;>simp[kw] at h ⊢
 refine Y.bind (Q:=fun (r:(Int×TX)⊕(Bool×TX))=>match r with
   | .inl x=>(x.1=1\/x.1=2)/\x.2.2.2=([],[])/\∀I,mTxF I=0->Qu I=s->x.1=(if I.1=0 then 1 else 2)/\x.2=(I.1,I.2.1,[],[])
   | .inr x=>x.1=false/\∀I,mTxF I=0->Qu I=s->False) ?_ (fun r U=>?_)
 ·refine Y.bif (fun h=>?_) (fun h=>Y.grd hin0 (Y.bif (fun h3=>Y.some ⟨rfl,fun I h1 h2=>?_⟩) (fun h3=>Y.some ⟨.inl rfl,rfl,fun I h1 h2=>?_⟩)))
  ·refine Y.bif (fun h3=>Y.some ⟨rfl,fun I h1 h2=>?_⟩) (fun h3=>?_)
   ·have hl:2<=ws.length:=by
     rw[(J I h1 h2).2];unfold wTx;simp;omega
    simp at h3;omega
   ·have h2l:2<=ws.length:=by simp at h3;omega
    have hw1:=hww 1
    refine Y.grd (ZU (by omega) (by omega)) (Y.bind (Qo7 (List.getD ws (Int.toNat 1) []) 3 (by show (List.getD ws 1 []).length<_;omega)) (fun m hm=>?_))
    have hmc:∀I,mTxF I=0->Qu I=s->m=(I.2.1,true):=fun I h1 h2=>by
     obtain⟨ho,hw⟩:=J I h1 h2;have hmm:=ho.mem
     have h0:=(hj I h1 h2).1 h
     exact hm _ (by omega) (by omega) (by rw[hw];unfold wTx;rw[if_neg h0];rfl) (Qfs _ 3 (by omega) (by omega) (by omega))
    refine Y.bif (fun h4=>Y.some ⟨rfl,fun I h1 h2=>?_⟩) (fun h4=>?_)
    ·rw[hmc I h1 h2] at h4;cases h4
    ·refine Y.grd hin0 (Y.bind (Q:=fun (x:TX)=>x.2.2=([],[])/\∀I,mTxF I=0->Qu I=s->x.1=I.1) ?_ (fun x hx=>Y.some ⟨.inr rfl,by show x.2.2=_;exact hx.1,fun I h1 h2=>⟨?_,?_⟩⟩))
     ·have kk:∀I,mTxF I=0->Qu I=s->I.1=1\/I.1=2:=fun I h1 h2=>by have:=(J I h1 h2).1.kind;have:=(hj I h1 h2).1 h;omega
      refine Y.bif (fun h5=>Y.some ⟨rfl,fun I h1 h2=>?_⟩) (fun h5=>Y.some ⟨rfl,fun I h1 h2=>?_⟩)
      ·rw[hw0 I h1 h2] at h5
       rcases kk I h1 h2 with e | e<;>rw[e] at h5 ⊢
       simp[kw] at h5
      ·rw[hw0 I h1 h2] at h5
       rcases kk I h1 h2 with e | e<;>rw[e] at h5 ⊢
       simp[kw] at h5
     ·rw[if_neg ((hj I h1 h2).1 h)]
     ·show (x.1,m.1,x.2.2)=_
      rw[hx.1,hx.2 I h1 h2,hmc I h1 h2]
  ·have h0:I.1=0:=by
    by_cases e:I.1=0
    ·exact e
    ·rw[(hj I h1 h2).2 e] at h;cases h
   rw[hw0 I h1 h2,h0] at h3;simp[kw] at h3
  ·have h0:I.1=0:=by
    by_cases e:I.1=0
    ·exact e
    ·rw[(hj I h1 h2).2 e] at h;cases h
   have hmm:=(J I h1 h2).1.mem
   rw[if_pos h0,h0,show I.2.1=0 by omega]
   exact⟨rfl,rfl⟩
 cases r with
 | inr x=>exact Y.some (by obtain⟨b,t⟩:=x;have h1:b=false:=U.1;subst h1;exact hno _ U.2)
 | inl x=>
  obtain⟨at',xk,xm,xi,xo⟩:=x;obtain⟨hat,hx0,hxc⟩:=U;have hx0:(xi,xo)=([],[]):=hx0
  simp only[aLe] at hx0;obtain⟨e1,e2⟩:=hx0;subst e1 e2;obtain⟨a,ha,ha12⟩:∃a:Nat,at'=(a:Int)/\(a=1\/a=2):=by
   have hat:at'=1\/at'=2:=hat
   rcases hat with rfl | rfl
   ·exact⟨1,rfl,.inl rfl⟩
   ·exact⟨2,rfl,.inr rfl⟩
  subst ha;have hxc:∀I,mTxF I=0->Qu I=s->(a:Int)=(if I.1=0 then 1 else 2)/\(xk,xm,([]:List (Int×Int)),([]:List TOut))=(I.1,I.2.1,[],[]):=hxc
  have htl:∀I,mTxF I=0->Qu I=s->ws.drop a=Lib.join (I.2.2.1.map wRef) [43]::I.2.2.2.map wOut:=fun I h1 h2=>by
   rw[(J I h1 h2).2];have:=(hxc I h1 h2).1
   unfold wTx;by_cases h0:I.1=0
   ·rw[if_pos h0] at this ⊢
    obtain rfl:a=1:=by omega
    rfl
   ·rw[if_neg h0] at this ⊢
    obtain rfl:a=2:=by omega
    rfl
  simp only[Sum.elim_inl];have hwr:wrap .i64 ((a:Int)+2)=((a+2:Nat):Int):=by rw[Qy (by omega) (by omega)];omega
  have hwr1:wrap .i64 ((a:Int)+1)=((a+1:Nat):Int):=by rw[Qy (by omega) (by omega)];omega
  rw[hwr,hwr1];refine Y.bif (fun h3=>Y.some (hno _ fun I h1 h2=>?_)) (fun h3=>?_)
  ·have:=(J I h1 h2).1.lo
   have h4:(ws.drop a).length=1+I.2.2.2.length:=by rw[htl I h1 h2];simp;omega
   rw[aLz] at h4;simp at h3;omega
  have hal:a+2<=ws.length:=by simp at h3;omega
  have hwa:=hww a
  refine Y.grd (Qb ws a (by omega)) (Y.bind (Qv2 _ (by show (List.getD ws (Int.toNat (a:Int)) []).length<=_;rw[aMd];exact hwa)) (fun ins hins=>?_))
  have hic:∀I,mTxF I=0->Qu I=s->ins=(I.2.2.1,true):=fun I h1 h2=>by
   have ho:=(J I h1 h2).1
   refine hins.2 _ (fun e=>?_) ho.ref ?_
   ·have:=ho.li;rw[e] at this;simp at this
   ·have:List.getD ws a []=(ws.drop a).getD 0 []:=by rw[aLk,aLk,List.getElem?_drop];rfl
    rw[aMd,this,htl I h1 h2];rfl
  have how:∀i (hi:i<ws.length),(ws[i]).length<=300:=fun i hi=>by
   have:=hww i
   rwa [aLk,aLf hi] at this
  refine Y.bind (Q:=fun (r:(Bool×TX)⊕(Bool×TX))=>match r with
    | .inl x=>x.2.2.2.1.length<=301/\x.2.2.2.2.length<=301/\(∀o,o ∈ x.2.2.2.2->o.2.1.length<=301)/\∀I,mTxF I=0->Qu I=s->x=(true,I)
    | .inr x=>x.1=false/\∀I,mTxF I=0->Qu I=s->False) ?_ (fun r U=>?_)
  ·refine Y.loop (fun n (st:Bool×Int×TX)=>∃i:Nat,st.2.1=((a+1+i:Nat):Int)/\a+1+i<=ws.length/\n=ws.length - (a+1+i)/\st.2.2.2.2.1.length<=301/\st.2.2.2.2.2.length=i/\(∀o,o ∈ st.2.2.2.2.2->o.2.1.length<=301)/\∀I,mTxF I=0->Qu I=s->st.1=true/\st.2.2=(I.1,I.2.1,I.2.2.1,I.2.2.2.take i)) (fun n st hI=>?_) (ws.length - (a+1)) _ ⟨0,rfl,by omega,by omega,hins.1,rfl,(fun o ho=>nomatch ho),fun I h1 h2=>by
    have e:=hic I h1 h2
    have e2:=(hxc I h1 h2).2
    simp only[aLe] at e2;rw[e];refine⟨rfl,?_⟩;show (xk,xm,I.2.2.1,[])=_
    rw[e2.1,e2.2.1];rfl⟩
   obtain⟨i,hi,hle,hnn,hil,hac,hkl,hcomp⟩:=hI;obtain⟨ok,i',k',m',il,acc⟩:=st;have hi:i'=((a+1+i:Nat):Int):=hi
   subst hi;have hac:acc.length=i:=hac
   have hol:∀I,mTxF I=0->Qu I=s->ws.length=a+1+I.2.2.2.length:=fun I h1 h2=>by
    have h4:(ws.drop a).length=1+I.2.2.2.length:=by rw[htl I h1 h2];simp;omega
    rw[aLz] at h4;omega
   refine Y.bind (Q:=fun j=>(j=true->a+1+i<ws.length)/\(j=false->a+1+i=ws.length\/ok=false)) ?_ (fun j hj2=>?_)
   ·refine Y.bif (fun h4=>Y.some ⟨fun _=>?_,fun h5=>.inr h5⟩) (fun h4=>Y.some ⟨(fun h=>by cases h),fun _=>.inl ?_⟩)
    ·simp at h4;omega
    ·simp at h4;omega
   refine Y.bif (fun h4=>?_) (fun h4=>Y.some ⟨hil,by show acc.length<=_;omega,hkl,fun I h1 h2=>?_⟩)
   ·have hlt:=hj2.1 h4
    have hg:List.getD ws (Int.toNat ((a+1+i:Nat):Int)) []=ws[a+1+i]:=Qa ws _ _ hlt
    have hwl:=how _ hlt
    rw[hg];have hoc:∀I,mTxF I=0->Qu I=s->∃U:i<I.2.2.2.length,okO I.2.2.2[i]/\ws[a+1+i]=wOut I.2.2.2[i]:=fun I h1 h2=>by
     have h5:=hol I h1 h2
     have U:i<I.2.2.2.length:=by omega
     refine⟨U,(J I h1 h2).1.out _ (aLl U),?_⟩;have h6:(ws.drop a)[1+i]? = some ws[a+1+i]:=by rw[List.getElem?_drop,<-aMh,aLf hlt]
     rw[htl I h1 h2,Nat.add_comm 1 i,List.getElem?_cons_succ,List.getElem?_map,aLf U] at h6;simpa using h6.symm
    refine Y.grd (Qb _ _ hlt) (Y.eqb (JJ _ 61 (by unfold LIM;omega)) (Y.bif (fun h5=>Y.some ⟨rfl,fun I h1 h2=>?_⟩) (fun h5=>?_)))
    ·obtain⟨_,ho,e⟩:=hoc I h1 h2
     rw[e,Qqo ho] at h5;simp at h5
    ·have h2l:(cuts 61 ws[a+1+i]).length=2:=by simp at h5;omega
     have w0:=YM 61 ws[a+1+i] 0
     have w1:=YM 61 ws[a+1+i] 1
     have hsl:(swp 95 32 (List.getD (cuts 61 ws[a+1+i]) (Int.toNat 1) [])).length<=300:=by
      unfold swp;rw[aMH];show (List.getD (cuts 61 ws[a+1+i]) 1 []).length<=_;omega
     refine Y.grd (ZU (by omega) (by omega)) (Y.bind (Qo7 (List.getD (cuts 61 ws[a+1+i]) (Int.toNat 0) []) 7 (by show (List.getD (cuts 61 ws[a+1+i]) 0 []).length<_;omega)) (fun v hv=>Y.grd (ZU (by omega) (by omega)) (Y.eqb (Qta _ 95 32 (by show (List.getD (cuts 61 ws[a+1+i]) 1 []).length<=_;omega)) (Y.bind (Qt0 _ (by omega)) (fun r U=>?_)))))
     have hvr:∀I,mTxF I=0->Qu I=s->∃U:i<I.2.2.2.length,v=(I.2.2.2[i].1,true)/\r=(I.2.2.2[i].2,true):=fun I h1 h2=>by
      obtain⟨hr',ho,e⟩:=hoc I h1 h2;have ec:cuts 61 ws[a+1+i]=[Lib.itoa I.2.2.2[i].1,QA I.2.2.2[i].2 [95]]:=by rw[e];exact Qqo ho
      have hv1:=ho.1
      refine⟨hr',hv _ (by omega) (by omega) (by rw[ec];rfl) (Qfs _ 7 (by omega) (by omega) (by omega)),U.2 _ ho.2 ?_⟩
      rw[ec];exact (Qpn (Yt ho.2) Qrq).symm
     refine Y.bind (Q:=fun j=>∀I,mTxF I=0->Qu I=s->j=true) ?_ (fun j hj3=>?_)
     ·refine Y.bif (fun h6=>Y.some (fun I h1 h2=>?_)) (fun h6=>Y.some (fun I h1 h2=>?_))
      ·obtain⟨_,_,e⟩:=hvr I h1 h2;rw[e]
      ·obtain⟨_,e,_⟩:=hvr I h1 h2;rw[e] at h6;cases h6
     ·refine Y.grd (Qhb _ _ (by show acc.length<_;omega)) (Y.some ⟨ws.length - (a+1+(i+1)),by omega,i+1,?_,by omega,rfl,hil,by show (List.append acc [_]).length=_;simp[hac],fun o ho=>?_,fun I h1 h2=>⟨hj3 I h1 h2,?_⟩⟩)
      ·show wrap .i64 (((a+1+i:Nat):Int)+1)=_
       rw[wsucc hlt (by omega)];rfl
      ·rcases aMi.1 (show o ∈ acc++[(v.1,r.1)] from ho) with ho | ho
       ·exact hkl o ho
       ·rw[aLs] at ho;subst ho
        have:=U.1
        show r.1.1.length<=_
        omega
      ·obtain⟨hr',e1,e2⟩:=hvr I h1 h2
       have hc2:=(hcomp I h1 h2).2
       simp only[aLe] at hc2;show (k',m',il,List.append acc [(v.1,r.1)])=_
       rw[e1,e2,hc2.1,hc2.2.1,hc2.2.2.1,hc2.2.2.2,List.take_add_one,aLf hr'];rfl
   ·obtain⟨c1,c2⟩:=hcomp I h1 h2
    have c1':ok=true:=c1
    rcases hj2.2 h4 with h5 | h5
    ·have h6:=hol I h1 h2
     obtain rfl:i=I.2.2.2.length:=by omega
     rw[List.take_length] at c2;have c2:(k',m',il,acc)=I:=c2
     show (ok,k',m',il,acc)=_
     rw[c1',c2]
    ·rw[c1'] at h5;cases h5
  cases r with
  | inr x=>exact Y.some (by obtain⟨b,t⟩:=x;have h1:b=false:=U.1;subst h1;exact hno _ U.2)
  | inl x=>
   obtain⟨r1,r2,r3,r4⟩:=U;have hb:bT x.2:=⟨by omega,by omega,fun o ho=>by have:=r3 o ho;omega⟩
   refine Y.bind (Q:=fun (y:Bool×TX)=>TxQ s (y.2,y.1)) ?_ (fun y hy=>Y.some hy)
   refine Y.bif (fun h=>Y.eqb (QbX x.2 hb) (Y.bif (fun h3=>?_) (fun h3=>Y.some (hno _ fun I h1 h2=>?_)))) (fun h=>Y.some (hno _ fun I h1 h2=>?_))
   ·have h0:mTxF x.2=0:=by simpa using h3
    refine Y.eqb (QjN (Jj h0)) (Y.bif (fun h4=>Y.some ⟨fun _=>⟨h0,by simpa using h4⟩,fun I h1 h2=>?_⟩) (fun h4=>Y.some (hno _ fun I h1 h2=>?_)))
    ·show (x.2,decide ((s.length:Int)<=300))=_
     rw[r4 I h1 h2,aLE (by omega)]
    ·rw[r4 I h1 h2] at h4
     simp[h2] at h4
   ·rw[r4 I h1 h2] at h3
    simp[h1] at h3
   ·rw[r4 I h1 h2] at h;cases h
open Classical in
noncomputable def rdTx (s:List UInt8):Option TX:=if h:∃t,mTxF t=0/\Qu t=s then some h.choose else none
theorem Qku {s:List UInt8} {t:TX} (h:rdTx s=some t):mTxF t=0/\Qu t=s:=by
 unfold rdTx at h;split at h
 ·rename_i hh
  cases h;exact hh.choose_spec
 ·cases h
theorem Qts {s:List UInt8} (h:rdTx s=none) (t:TX) (h1:mTxF t=0) (h2:Qu t=s):False:=by
 unfold rdTx at h;split at h
 ·cases h
 ·rename_i hh;exact hh ⟨t,h1,h2⟩
theorem Qvz {s:List UInt8} {x:TX×Bool} (h:TxQ s x):(∀t,rdTx s=some t->x=(t,true))/\(rdTx s=none->x.2=false):=by
 refine⟨fun t I=>h.2 t (Qku I).1 (Qku I).2,fun U=>?_⟩
 cases J:x.2 with
 | false=>rfl
 | true=>exact (Qts U _ (h.1 J).1 (h.1 J).2).elim
structure okL (l:TL):Prop where
 n1:l.1.length<=60
 n2:l.2.length<=120
 txt:∀s,s ∈ l.1->1<=s.length/\s.length<=300
theorem QaC {l:TL} (h:mLF l=0):okL l:=by
 unfold mLF at h;split at h
 ·cases h
 ·rename_i h1
  simp only[aMC,aLF,not_or] at h1;refine⟨by omega,by omega,fun s J=>?_⟩
  by_cases h2:code (mTx l.1) l.1=0
  ·obtain⟨i,hi,rfl⟩:=aMe.1 J
   have I:=YH h2 i _ (aLf hi)
   unfold mTx at I;cases h3:mIn (l.1[i].length:Int) 1 300 with
   | false=>rw[h3] at I;simp at I
   | true=>rw[Qx] at h3;omega
  ·rw[if_neg h2] at h;exact absurd h h2
def noT:TX:=(0,(0,([],[])))
noncomputable def mTI (l:TL) (id:Int):TX×Int:=if mIn id 1 (l.1.length:Int) then (match rdTx (List.getD l.1 (Int.toNat (wrap .i64 (id - 1))) []) with | some t=>(t,0) | none=>(noT,5)) else (noT,3)
theorem QkF {l:TL} (h:okL l) (i:Nat):(List.getD l.1 i []).length<=300:=by
 rw[aLk];cases I:l.1[i]? with
 | none=>simp
 | some s=>exact (h.txt s (List.mem_of_getElem? I)).2
theorem Qpa {l:TL} (h:okL l) {id:Int} (hi:mIn id 1 (l.1.length:Int)=true):inB (wrap .i64 (id - 1)) l.1=true:=by
 rw[Qx] at hi;have:=h.n1
 rw[Qy (by omega) (by omega)]
 exact ZU (by omega) (by omega)
theorem Qli {l:TL} (h:okL l) (id:Int):JE l id=some (mTI l id):=by
 unfold JE YU Qbd mTI;rw[Zp];simp only[aLc];cases hi:mIn id 1 (l.1.length:Int) with
 | false=>rfl
 | true=>
  simp only[aMa,aLC,Qpa h hi,aLB,aLc,aMc,if_true];obtain⟨x,J,U⟩:=Qus _ (QkF h (Int.toNat (wrap .i64 (id - 1))));obtain⟨r1,r2⟩:=Qvz U;rw[J,aLc];cases I:rdTx (List.getD l.1 (Int.toNat (wrap .i64 (id - 1))) []) with
  | none=>rw[r2 I];rfl
  | some t=>rw[r1 t I];rfl
theorem Qk3 {l:TL} (h:mLF l=0) (id:Int):Qer l id=some ((mTI l id).2,(mTI l id).1):=by
 have ho:=QaC h
 have hB:BIG=4611686018427387904:=rfl
 unfold Qer QcC Qgt Qf9 mTI;rw[Qal l (by have:=ho.n1;omega) (by have:=ho.n2;omega),aLc,h,Zn]
 simp only[aMc,aMa,aLC,aLc];cases hi:mIn id 1 (l.1.length:Int) with
 | false=>rfl
 | true=>
  simp only[aMa,aLC,Qpa ho hi,aLB,aLc,aMc,if_true];obtain⟨x,J,U⟩:=Qt4 _ (QkF ho (Int.toNat (wrap .i64 (id - 1))));obtain⟨r1,r2⟩:=Qvz U;rw[J,aLc];cases I:rdTx (List.getD l.1 (Int.toNat (wrap .i64 (id - 1))) []) with
  | none=>rw[r2 I];rfl
  | some t=>rw[r1 t I];rfl
theorem Qhz {l:TL} {id:Int} (h:(mTI l id).2=0):mTxF (mTI l id).1=0:=by
 unfold mTI at h ⊢;split
 ·rename_i h1
  rw[if_pos h1] at h;split
  ·rename_i t I;exact (Qku I).1
  ·rename_i I;rw[I] at h;cases h
 ·rename_i h1;rw[if_neg h1] at h;cases h
theorem Qrj (n k:Nat) (hk:k<=n) (f:Int×Int->Option ((Int×Int)⊕Int))
  (J:∀lo hi:Nat,lo<hi->hi<=n->f ((lo:Int),(hi:Int))=some (.inl (if (lo+hi) / 2<k then ((((lo+hi) / 2+1:Nat):Int),(hi:Int)) else ((lo:Int),(((lo+hi) / 2:Nat):Int)))))
  (he:∀lo:Nat,f ((lo:Int),(lo:Int))=some (.inr (lo:Int))):Qc f (0,(n:Int))=some (k:Int):=by
 have key:∀(d lo hi:Nat),hi - lo<=d->lo<=k->k<=hi->hi<=n->Qc f ((lo:Int),(hi:Int))=some (k:Int):=by
  intro d;induction d with
  | zero=>
   intro lo hi h1 h2 h3 h4;obtain rfl:lo=k:=by omega
   obtain rfl:lo=hi:=by omega
   exact Qe (he lo)
  | succ d I=>
   intro lo hi h1 h2 h3 h4;by_cases h:lo<hi
   ·rw[Qo (J lo hi h h4)]
    by_cases hm:(lo+hi) / 2<k
    ·rw[if_pos hm];exact I _ _ (by omega) (by omega) h3 h4
    ·rw[if_neg hm];exact I _ _ (by omega) h2 (by omega) (by omega)
   ·obtain rfl:lo=hi:=by omega
    obtain rfl:lo=k:=by omega
    exact Qe (he lo)
 exact key n 0 n (by omega) (by omega) hk (by omega)
theorem QtU {lo hi:Nat} (h:lo+hi<4611686018427387904):wrap .i64 (Int.fdiv (wrap .u64 (wrap .i64 ((lo:Int)+(hi:Int)))) (2 ^ 1))=(((lo+hi) / 2:Nat):Int):=by
 rw[Qy (n:=(lo:Int)+(hi:Int)) (by omega) (by omega)]
 have e:wrap .u64 ((lo:Int)+(hi:Int))=(lo:Int)+(hi:Int):=by
  simp[wrap,IntKind.bits,IntKind.signed];omega
 rw[e];have I:Int.fdiv ((lo:Int)+(hi:Int)) (2 ^ 1)=(((lo+hi) / 2:Nat):Int):=by
  rw[Int.fdiv_eq_ediv_of_nonneg _ (by decide)]
  show ((lo:Int)+(hi:Int)) / 2=_
  omega
 rw[I];exact Qy (by omega) (by omega)
theorem QlI (n:Nat) (p:Nat->Bool) (hm:∀i j,i<=j->j<n->p j=true->p i=true):∃k,k<=n/\(∀i,i<k->p i=true)/\(∀i,k<=i->i<n->p i=false):=by
 induction n with
 | zero=>exact⟨0,by omega,fun i hi=>by omega,fun i h1 h2=>by omega⟩
 | succ n ih=>
  obtain⟨k,h1,h2,h3⟩:=ih fun i j I hj=>hm i j I (by omega)
  by_cases U:p n=true
  ·refine⟨n+1,by omega,fun i hi=>hm i n (by omega) (by omega) U,fun i h4 h5=>by omega⟩
  ·refine⟨k,by omega,h2,fun i h4 h5=>?_⟩
   by_cases J:i=n
   ·subst J;simpa using U
   ·exact h3 i h4 (by omega)
theorem QcT {a b c:Int×Int} (h1:Qv a b=true) (h2:Qv b c=true):Qv a c=true:=by
 unfold Qv at *;split at h1<;>split at h2<;>split<;>simp at *<;>omega
theorem ZL (a:Int×Int):Qv a a=false:=by unfold Qv;simp
theorem Qk8 {a b:Int×Int} (h:Qv a b=true):Qv b a=false:=by
 cases h2:Qv b a with
 | false=>rfl
 | true=>have:=QcT h h2;rw[ZL] at this;cases this
theorem Qj8 {a b:Int×Int} (h1:Qv a b=false) (h2:Qv b a=false):a=b:=by
 obtain⟨I,a2⟩:=a;obtain⟨J,U⟩:=b;unfold Qv at *;simp only at h1 h2;by_cases h:I=J
 ·rw[if_pos h] at h1;rw[if_pos h.symm] at h2
  simp at h1 h2;rw[h,show a2=U by omega]
 ·rw[if_neg h] at h1;rw[if_neg (fun e=>h e.symm)] at h2
  simp at h1 h2;omega
theorem Qpl (a b:Int×Int):decide (Qfx a b<0)=Qv a b:=by
 have:=Qmb a b
 cases h:Qv a b with
 | false=>rw[h] at this;simp at this ⊢;omega
 | true=>rw[h] at this;simp at this ⊢;omega
theorem QsN (a b:Int×Int):decide (Qfx a b=0)=decide (a=b):=by
 obtain⟨I,a2⟩:=a;obtain⟨J,U⟩:=b;unfold Qfx mCmp;refine decide_eq_decide.2 ?_;simp only[aLe];by_cases h1:I<J
 ·simp[h1];omega
 ·by_cases h2:J<I
  ·simp[h1,h2];omega
  ·by_cases h3:a2<U
   ·simp[h1,h2,h3];omega
   ·by_cases h4:U<a2
    ·simp[h1,h2,h3,h4];omega
    ·simp[h1,h2,h3,h4];omega
def Rise (l:List TCoin):Prop:=l.Pairwise fun a b=>Qv a.1 b.1=true
theorem Ja {l:List TCoin} (h:Q9 l=0):Rise l:=by
 unfold Q9 at h;by_cases J:(40:Int)<(l.length:Int)
 ·rw[if_pos J] at h;cases h
 ·rw[if_neg J] at h
  have step:∀i (hi:i+1<l.length),Qv (l[i]'(by omega)).1 l[i+1].1=true:=fun i hi=>by
   have I:=YH h (i+1) _ (aLf hi)
   unfold QhV at I;cases h1:mRef l[i+1].1&&mIn l[i+1].2.2.1 0 999 with
   | false=>rw[h1] at I;simp at I
   | true=>
    rw[h1,if_pos rfl] at I;by_cases h2:mOut l[i+1].2.1=0
    ·rw[if_pos h2,Nat.add_sub_cancel,aLk,aLf (by omega:i<l.length)] at I
     cases h3:Qv (l[i]'(by omega)).1 l[i+1].1 with
     | true=>rfl
     | false=>
      simp only[Option.getD_some] at I;simp[h3] at I
    ·rw[if_neg h2] at I;exact absurd I h2
  unfold Rise;rw[List.pairwise_iff_getElem];intro i j hi hj U;obtain⟨d,rfl⟩:∃d,j=i+1+d:=⟨j - (i+1),by omega⟩
  induction d with
  | zero=>exact step i hj
  | succ d ih=>exact QcT (ih (by omega) (by omega)) (step (i+1+d) hj)
theorem QbV {l:List TCoin} (h:Rise l) {i j:Nat} (I:i<j) (hj:j<l.length):Qv (l[i]'(by omega)).1 l[j].1=true:=List.pairwise_iff_getElem.1 h i j (by omega) hj I
theorem QlQ {l:List TCoin} (h:Rise l) {a b:TCoin} (I:a ∈ l) (hb:b ∈ l) (he:a.1=b.1):a=b:=by
 obtain⟨i,hi,rfl⟩:=aMe.1 I;obtain⟨j,hj,rfl⟩:=aMe.1 hb;rcases Nat.lt_trichotomy i j with h1 | h1 | h1
 ·have:=QbV h h1 hj;rw[he,ZL] at this;cases this
 ·subst h1;rfl
 ·have:=QbV h h1 hi;rw[he,ZL] at this;cases this
theorem QgX {l:List TCoin} (hr:Rise l) (hl:l.length<=1000000) (r:Int×Int):∃k:Nat,Yk l r=some ((k:Int),decide (∃h:k<l.length,(l[k]'h).1=r))/\((∃h:k<l.length,(l[k]'h).1=r)\/∀x,x ∈ l->x.1 ≠ r):=by
 obtain⟨k,h1,h2,h3⟩:=QlI l.length (fun i=>Qv (List.getD l i dC).1 r) (fun i j hij hj hp=>by
  rcases aMg i j with h | h
  ·have hi:i<l.length:=by omega
   have:=QbV hr h hj
   have e1:List.getD l i dC=l[i]:=by rw[aLk,aLf hi];rfl
   have e2:List.getD l j dC=l[j]:=by rw[aLk,aLf hj];rfl
   simp only[e1,e2] at hp ⊢;exact QcT this hp
  ·obtain rfl:i=j:=by omega
   exact hp)
 have I:∀i (hi:i<l.length),List.getD l i dC=l[i]:=fun i hi=>by rw[aLk,aLf hi];rfl
 refine⟨k,?_,?_⟩
 ·unfold Yk Za
  have hcmp:∀(x:TCoin),((Qa8 x r).bind fun r7=>some r7)=some (Qfx x.1 r):=fun x=>by
   unfold Qa8;rw[Qdr];rfl
  simp only[hcmp,aLc];rw[Qrj l.length k h1 _ (fun lo hi hlo hhi=>?_) (fun lo=>by simp only[Int.lt_irrefl,aMD,aLC]),aLc]
  ·by_cases hk:k<l.length
   ·have hd:List.getD l (Int.toNat (k:Int)) dC=l[k]:=by rw[aMd];exact I k hk
    rw[dlt hk,aLB,Qb l k hk,aLB];show some ((k:Int),decide (Qfx (List.getD l (Int.toNat (k:Int)) dC).1 r=0))=_
    rw[hd,QsN];congr 2;exact decide_eq_decide.2 ⟨fun h=>⟨hk,h⟩,fun ⟨_,h⟩=>h⟩
   ·have hf:decide (∃h:k<l.length,(l[k]'h).1=r)=false:=aLD (fun ⟨h,_⟩=>hk h)
    rw[dge' (by omega),aLC,aLc,hf];rfl
  ·have hm:=QtU (lo:=lo) (hi:=hi) (by omega)
   have J:(lo+hi) / 2<l.length:=by omega
   simp only[hm];rw[aLE (by omega),aLB,Qb l _ J,aLB]
   have hd:List.getD l (Int.toNat (((lo+hi) / 2:Nat):Int)) ((0,0),((0,([],(0,0))),(0,false)))=l[(lo+hi) / 2]:=by rw[aMd];exact I _ J
   rw[hd,Qpl,wsucc J (by unfold BIG;omega)]
   by_cases U:(lo+hi) / 2<k
   ·have:=h2 _ U
    rw[I _ J] at this;rw[this,if_pos U];rfl
   ·have:=h3 _ (by omega) J
    rw[I _ J] at this;rw[this,if_neg U];rfl
 ·by_cases hf:∃h:k<l.length,(l[k]'h).1=r
  ·exact .inl hf
  ·refine .inr fun x hx he=>hf ?_
   obtain⟨i,hi,rfl⟩:=aMe.1 hx;have hik:¬i<k:=fun h=>by
    have:=h2 i h
    rw[I i hi,he,ZL] at this;cases this
   refine⟨by omega,?_⟩
   rcases aMg k i with h | h
   ·have h4:=QbV hr h hi
    have h5:=h3 k (aMb _) (by omega)
    rw[I k (by omega)] at h5
    rw[he] at h4;rw[h4] at h5;cases h5
   ·obtain rfl:i=k:=by omega
    exact he
theorem QkZ (l:List Int) (I:l.length<=LIM):ZO l=some l:=by
 unfold ZO;rw[JB I,aLB];cases l with
 | nil=>exact QdU _
 | cons a l=>rfl
theorem QjK (o:TOut) (h:o.2.1.length<=1000000):Qcz o=some o:=by
 unfold Qcz Qgj;rw[QkZ _ (by unfold LIM;omega)];rfl
theorem Yi (l:List TCoin) (J:l.length<=1000000) (hk:∀x,x ∈ l->x.2.1.2.1.length<=1000000):ZB l=some l:=by
 unfold ZB;rw[Zv (σ:=List TCoin) l (fun acc a=>acc++[a]) (fun t i=>(t,i)) (fun t=>t) (fun t i=>t.length=i) _ (fun i hi t I=>by
   refine⟨?_,by simp[I]⟩
   simp only[dlt hi,Qb _ i hi,Qa _ i _ hi,aLB,QjK _ (hk _ (aLl hi)),aLc,wsucc hi (by unfold BIG;omega)]
   rw[Qm (by simp only[aLh,aLj];unfold LIM;omega)];rfl) (fun t I=>by simp only[dge,aLC]) [] rfl,aLc,foldl_map (fun a=>a),List.map_id',aLx]
theorem QaP (l:List TCoin) (J:l.length<=1000000) (hk:∀x,x ∈ l->x.2.1.2.1.length<=1000000):Yb l=some l:=by
 unfold Yb;have h2:∀r:TRu,r.1.length<=1000000->J2 r=some r:=fun r U=>by
  unfold J2;rw[JB (by unfold LIM;omega)];rfl
 rw[Zv (σ:=List TCoin) l (fun acc a=>acc++[a]) (fun t i=>(t,i)) (fun t=>t) (fun t i=>t.length=i) _ (fun i hi t I=>by
   refine⟨?_,by simp[I]⟩
   simp only[dlt hi,Qb _ i hi,Qa _ i _ hi,aLB,h2 _ (hk _ (aLl hi)),aLc,wsucc hi (by unfold BIG;omega)]
   rw[Qm (by simp only[aLh,aLj];unfold LIM;omega)];rfl) (fun t I=>by simp only[dge,aLC]) [] rfl,aLc,foldl_map (fun a=>a),List.map_id',aLx]
def mSp (c:List TCoin) (t:TX):List TCoin:=c.filter fun x=>decide (x.1 ∈ t.2.2.1)
theorem Zz {c:List TCoin} (h:Q9 c=0):∀x,x ∈ c->x.2.1.2.1.length<=1000000:=fun x I=>by
 have:=(Yt ((Zf h).2 x I).rule).len;omega
theorem Qd8 {c:List TCoin} (h:Q9 c=0) (t:TX) (J:t.2.2.1.length<=1000000):Jl c t=some (mSp c t,decide ((mSp c t).length=t.2.2.1.length)):=by
 have U:=(Zf h).1
 unfold Jl mSp;rw[Zv (σ:=List TCoin) c (fun acc a=>if decide (a.1 ∈ t.2.2.1) then acc++[a] else acc) (fun t i=>(t,i)) (fun t=>t) (fun t i=>t.length<=i) _ (fun i hi x I=>by
   refine⟨?_,by split<;>(try simp only[aLi,aLh,aLj])<;>omega⟩
   simp only[dlt hi,Qb _ i hi,Qa _ i _ hi,aLB,Qd5 t.2.2.1 (by unfold BIG;omega),aLc,wsucc hi (by unfold BIG;omega)]
   rw[Qm (by simp only[aLh,aLj];unfold LIM;omega)]
   cases decide (c[i].1 ∈ t.2.2.1)<;>rfl) (fun t J=>by simp only[dge,aLC]) [] (aMb _),aLc,foldl_filter,aLx]
 rw[QaP _ (by have:=aME (fun x:TCoin=>decide (x.1 ∈ t.2.2.1)) c;omega) (fun x I=>Zz h x (aMv.1 I).1),aLc]
 congr 2;exact decide_eq_decide.2 (by omega)
theorem QjE {c xs ys:List TCoin} (hc:Rise c) (hx:∀x,x ∈ xs->x ∈ c) (hp:ys.Perm xs) (hy:Rise ys) (hl:xs.length<=1000000):J0 xs=some ys:=by
 unfold J0 Jh;have hg:∀a b:TCoin,((Yz a b).bind fun J=>some J)=some (Qfx a.1 b.1):=fun a b=>by
  unfold Yz;rw[Qdr];rfl
 have I:∀a b:TCoin,Qc1 (fun a b=>(Yz a b).bind fun J=>some J) a b=Qv a.1 b.1:=fun a b=>by
  unfold Qc1;simp only[hg];exact Qpl a.1 b.1
 have U:QiO (fun a b=>(Yz a b).bind fun J=>some J) xs:=by
  refine⟨fun a _ b _=>⟨_,hg a b⟩,fun a _=>by rw[I];exact ZL _,fun a _ b _ d _ h1 h2=>?_,fun a _ b _ d _ h1 h2=>?_,fun a ha b hb h1 h2=>?_,by omega⟩
  ·rw[I] at h1 h2 ⊢;exact QcT h1 h2
  ·rw[I] at h1 h2 ⊢
   cases h3:Qv a.1 d.1 with
   | false=>rfl
   | true=>
    cases h4:Qv d.1 b.1 with
    | true=>have:=QcT h3 h4;rw[h1] at this;cases this
    | false=>
     have e:=Qj8 h2 h4
     rw[e] at h1;rw[h3] at h1;cases h1
  ·rw[I] at h1 h2
   exact QlQ hc (hx a ha) (hx b hb) (Qj8 h1 h2)
 have hss:Sorts (fun a b=>(Yz a b).bind fun J=>some J) xs ys:=⟨hp,List.Pairwise.imp (fun {a b} h=>by rw[I];exact Qk8 h) hy⟩
 rw[Quy U hss];rfl
def atC (c:List TCoin) (r:Int×Int):Option TCoin:=c.find? fun x=>decide (x.1=r)
theorem Qf2 {c:List TCoin} {r:Int×Int} {x:TCoin} (h:atC c r=some x):x ∈ c/\x.1=r:=⟨List.mem_of_find?_eq_some h,by simpa using List.find?_some h⟩
theorem Qt9 {c:List TCoin} (J:Rise c) {x:TCoin} (I:x ∈ c):atC c x.1=some x:=by
 cases h:atC c x.1 with
 | none=>
  unfold atC at h;rw[List.find?_eq_none] at h;exact absurd (by simp) (h x I)
 | some y=>
  obtain⟨h1,h2⟩:=Qf2 h;rw[QlQ J h1 I h2]
theorem Qvo {c:List TCoin} {r:Int×Int} (h:∀x,x ∈ c->x.1 ≠ r):atC c r=none:=by
 unfold atC;rw[List.find?_eq_none];intro x I;simpa using h x I
theorem Qrw {c:List TCoin} (I:Rise c) (rs:List (Int×Int)) (J:rs.Nodup):(c.filter fun x=>decide (x.1 ∈ rs)).Perm (rs.filterMap (atC c)):=by
 have n1:(c.filter fun x=>decide (x.1 ∈ rs)).Nodup:=by
  rw[List.nodup_iff_pairwise_ne];exact List.Pairwise.sublist List.filter_sublist (List.Pairwise.imp (fun {a b} h e=>by rw[e,ZL] at h;cases h) I)
 have n2:(rs.filterMap (atC c)).Nodup:=by
  rw[List.nodup_iff_pairwise_ne,List.pairwise_filterMap];rw[List.nodup_iff_pairwise_ne] at J;refine List.Pairwise.imp (fun {a b} h x U y hy e=>h ?_) J
  rw[<-(Qf2 U).2,<-(Qf2 hy).2,e]
 refine (List.perm_ext_iff_of_nodup n1 n2).2 fun x=>?_
 rw[aMv,List.mem_filterMap];constructor
 ·rintro ⟨h1,h2⟩
  exact⟨x.1,aLG h2,Qt9 I h1⟩
 ·rintro ⟨r,h1,h2⟩
  obtain⟨h3,h4⟩:=Qf2 h2;exact⟨h3,aLE (h4 ▸ h1)⟩
theorem Qbu {c:List TCoin} (I:Rise c) (p:TCoin->Bool):Rise (c.filter p):=List.Pairwise.sublist List.filter_sublist I
theorem Qf4 {c:List TCoin} (h:Q9 c=0) (t:TX) (ht:okT t):Qak c t=some (if (mSp c t).length=t.2.2.1.length then (mSp c t,0) else ([],4)):=by
 have hl:=(Zf h).1
 have U:=Ja h
 have hp:=Qrw U t.2.2.1 ht.nd
 have hli:=ht.li
 have J:∀r:Int×Int,∃k:Int,∃b,Yk c r=some (k,b)/\(b=true->∃x,atC c r=some x/\inB k c=true/\List.getD c (Int.toNat k) ((0,0),((0,([],(0,0))),(0,false)))=x)/\(b=false->atC c r=none):=fun r=>by
  obtain⟨k,hk,hor⟩:=QgX U (by omega) r
  refine⟨k,_,hk,fun hb=>?_,fun hb=>?_⟩
  ·obtain⟨h1,h2⟩:=aLG hb
   exact⟨c[k],by rw[<-h2];exact Qt9 U (aLl h1),Qb c k h1,Qa c k _ h1⟩
  ·rcases hor with h1 | h1
   ·exact absurd h1 (aLH hb)
   ·exact Qvo h1
 have loop:∀(f:List TCoin×Int->Option ((List TCoin×Int)⊕(List TCoin⊕(List TCoin×Int)))),
   (∀(i:Nat) (hi:i<t.2.2.1.length) (acc:List TCoin),acc.length<=i->f (acc,(i:Int))=some (match atC c t.2.2.1[i] with | some x=>.inl (acc++[x],((i+1:Nat):Int)) | none=>.inr (.inr ([],4))))->(∀acc,f (acc,(t.2.2.1.length:Int))=some (.inr (.inl acc)))->
   Qc f ([],0)=some (if (mSp c t).length=t.2.2.1.length then .inl (t.2.2.1.filterMap (atC c)) else .inr ([],4)):=by
  intro f hs he;have key:∀(k i:Nat) (acc:List TCoin),i+k=t.2.2.1.length->acc.length<=i->Qc f (acc,(i:Int))=some (if ((t.2.2.1.drop i).filterMap (atC c)).length=k then .inl (acc++(t.2.2.1.drop i).filterMap (atC c)) else .inr ([],4)):=by
   intro k;induction k with
   | zero=>
    intro i acc hi ha;obtain rfl:i=t.2.2.1.length:=by omega
    rw[Qe (he acc)];simp
   | succ k ih=>
    intro i acc hi ha;have hlt:i<t.2.2.1.length:=by omega
    have h1:=hs i hlt acc ha
    rw[aLr hlt];have hle:=List.length_filterMap_le (atC c) (t.2.2.1.drop (i+1))
    rw[aLz] at hle;cases I:atC c t.2.2.1[i] with
    | none=>
     rw[I] at h1;rw[Qe h1,List.filterMap_cons_none I,if_neg (by omega)]
    | some x=>
     rw[I] at h1;rw[Qo h1,ih (i+1) _ (by omega) (by simp;omega),List.filterMap_cons_some I]
     by_cases hk:((t.2.2.1.drop (i+1)).filterMap (atC c)).length=k
     ·rw[if_pos hk,if_pos (by simp;omega)];simp
     ·rw[if_neg hk,if_neg (by simp;omega)]
  have:=key t.2.2.1.length 0 [] (by omega) (by simp)
  rw[aMt,aLx,<-hp.length_eq] at this;exact this
 unfold Qak;rw[loop _ (fun i hi acc ha=>?_) (fun acc=>by simp only[dge,aLC]),aLc]
 ·by_cases hlen:(mSp c t).length=t.2.2.1.length
  ·rw[if_pos hlen,if_pos hlen]
   have hm:∀x,x ∈ t.2.2.1.filterMap (atC c)->x ∈ c:=fun x I=>by
    obtain⟨r,_,h2⟩:=List.mem_filterMap.1 I;exact (Qf2 h2).1
   have hfl:=List.length_filterMap_le (atC c) t.2.2.1
   rw[Sum.elim_inl,Yi _ (by omega) (fun x I=>Zz h x (hm x I)),aLc,QjE U hm hp (Qbu U _) (by omega)]
   rfl
  ·rw[if_neg hlen,if_neg hlen];rfl
 ·obtain⟨k,b,e1,e2,e3⟩:=J t.2.2.1[i]
  simp only[dlt hi,Qb _ i hi,Qa _ i _ hi,aLB,e1,aLc,wsucc hi (by unfold BIG;omega)]
  cases b with
  | false=>rw[e3 rfl];rfl
  | true=>
   obtain⟨x,h1,h2,h3⟩:=e2 rfl;rw[h1,h2,h3];simp only[aMa,aLC,aLB];rw[Qm (by simp only[aLh,aLj];unfold LIM;omega)];rfl
def mCnt (l:TL) (ks:List Int) (id:Int):Int:=ks.foldl (fun n k=>if decide ((k,id) ∈ l.2) then wrap .i64 (n+1) else n) 0
def mMet (l:TL) (r:TRu) (id h:Int):Int:=if h<r.2.2 then 9 else if mCnt l r.1 id<r.2.1 then 6 else 0
theorem Qon {l:TL} (I:okL l) (k id:Int):Z5 l k id=some (decide ((k,id) ∈ l.2)):=by
 unfold Z5;rw[Qic _ (by have:=I.n2;unfold BIG;omega)];rfl
theorem Qrl {l:TL} (I:okL l) (k id:Int):Qb3 l k id=some (decide ((k,id) ∈ l.2)):=by
 unfold Qb3;rw[Qij _ (by have:=I.n2;unfold BIG;omega)];rfl
theorem Qtf {l:TL} (I:okL l) (r:TRu) (J:r.1.length<BIG) (id h:Int):JT l r id h=some (mMet l r id h):=by
 unfold JT mMet;by_cases h1:h<r.2.2
 ·rw[aLE h1,if_pos h1];rfl
 ·rw[aLD h1,if_neg h1,aLC]
  rw[Zv (σ:=Int) r.1 (fun n k=>if decide ((k,id) ∈ l.2) then wrap .i64 (n+1) else n) (fun t i=>(t,i)) (fun t=>t) (fun _ _=>True) _ (fun i hi x U=>by
    refine⟨?_,trivial⟩;simp only[dlt hi,Qb _ i hi,Qa _ i _ hi,aLB,Qon I,aLc,wsucc hi J];cases decide ((r.1[i],id) ∈ l.2)<;>rfl) (fun t ht=>by simp only[dge,aLC]) 0 trivial,aLc]
  show (bif decide (mCnt l r.1 id<r.2.1) then some (6:Int) else some 0)=_
  by_cases h2:mCnt l r.1 id<r.2.1
  ·rw[aLE h2,if_pos h2];rfl
  ·rw[aLD h2,if_neg h2];rfl
theorem Qv8 {l:TL} (I:okL l) (r:TRu) (J:r.1.length<BIG) (id h:Int):QfE l r id h=some (mMet l r id h):=by
 unfold QfE mMet;by_cases h1:h<r.2.2
 ·rw[aLE h1,if_pos h1];rfl
 ·rw[aLD h1,if_neg h1,aLC]
  rw[Zv (σ:=Int) r.1 (fun n k=>if decide ((k,id) ∈ l.2) then wrap .i64 (n+1) else n) (fun t i=>(t,i)) (fun t=>t) (fun _ _=>True) _ (fun i hi x U=>by
    refine⟨?_,trivial⟩;simp only[dlt hi,Qb _ i hi,Qa _ i _ hi,aLB,Qrl I,aLc,wsucc hi J];cases decide ((r.1[i],id) ∈ l.2)<;>rfl) (fun t ht=>by simp only[dge,aLC]) 0 trivial,aLc]
  show (bif decide (mCnt l r.1 id<r.2.1) then some (6:Int) else some 0)=_
  by_cases h2:mCnt l r.1 id<r.2.1
  ·rw[aLE h2,if_pos h2];rfl
  ·rw[aLD h2,if_neg h2];rfl
def QjD (x:TCoin) (h:Int):Bool:=!x.2.2.2 || decide (wrap .i64 (x.2.2.1+2)<=h)
theorem QuV (x:TCoin) (h:Int):QeG x h=some (QjD x h):=by
 unfold QeG QjD;cases x.2.2.2<;>rfl
theorem Qux (x:TCoin) (h:Int) (h1:mIn x.2.2.1 0 999=true) (h2:mIn h 0 999=true):QeZ x h=some (QjD x h):=by
 unfold QeZ QjD;rw[Qa3,Qa3,h1,h2];cases x.2.2.2<;>rfl
def mSum (l:List TCoin):Int:=l.foldl (fun n x=>wrap .i64 (n+x.2.1.1)) 0
def Qe6 (l:List TOut):Int:=l.foldl (fun n x=>wrap .i64 (n+x.1)) 0
theorem Qrg (l:List TCoin) (I:l.length<BIG):QfI l=some (mSum l)/\QfU l=some (mSum l):=by
 constructor
 ·unfold QfI
  rw[Zv (σ:=Int) l (fun n x=>wrap .i64 (n+x.2.1.1)) (fun t i=>(t,i)) (fun t=>t) (fun _ _=>True) _ (fun i hi x J=>by
    refine⟨?_,trivial⟩;simp only[dlt hi,Qb _ i hi,Qa _ i _ hi,aLB,aLc,wsucc hi I]) (fun t U=>by simp only[dge,aLC]) 0 trivial,aLc];rfl
 ·unfold QfU
  rw[Zv (σ:=Int) l (fun n x=>wrap .i64 (n+x.2.1.1)) (fun t i=>(t,i)) (fun t=>t) (fun _ _=>True) _ (fun i hi x J=>by
    refine⟨?_,trivial⟩;simp only[dlt hi,Qb _ i hi,Qa _ i _ hi,aLB,aLc,wsucc hi I]) (fun t U=>by simp only[dge,aLC]) 0 trivial,aLc];rfl
theorem QpT (t:TX) (I:t.2.2.2.length<BIG):QeK t=some (Qe6 t.2.2.2)/\QfG t=some (Qe6 t.2.2.2):=by
 constructor
 ·unfold QeK
  rw[Zv (σ:=Int) t.2.2.2 (fun n x=>wrap .i64 (n+x.1)) (fun t i=>(t,i)) (fun t=>t) (fun _ _=>True) _ (fun i hi x J=>by
    refine⟨?_,trivial⟩;simp only[dlt hi,Qb _ i hi,Qa _ i _ hi,aLB,aLc,wsucc hi I]) (fun t U=>by simp only[dge,aLC]) 0 trivial,aLc];rfl
 ·unfold QfG
  rw[Zv (σ:=Int) t.2.2.2 (fun n x=>wrap .i64 (n+x.1)) (fun t i=>(t,i)) (fun t=>t) (fun _ _=>True) _ (fun i hi x J=>by
    refine⟨?_,trivial⟩;simp only[dlt hi,Qb _ i hi,Qa _ i _ hi,aLB,aLc,wsucc hi I]) (fun t U=>by simp only[dge,aLC]) 0 trivial,aLc];rfl
def mC1 (l:TL) (id h:Int) (x:TCoin):Int:=if QjD x h then mMet l x.2.1.2 id h else 9
def Qpf (l:TL) (sp:List TCoin) (t:TX) (id:Int):Int×Int:=if t.1=2/\(t.2.1,id) ∉ l.2 then (0,6) else if wrap .i64 (mSum sp - Qe6 t.2.2.2)<0 then (0,8) else (wrap .i64 (mSum sp - Qe6 t.2.2.2),0)
def Qja (l:TL) (c:List TCoin) (t:TX) (id h:Int):Int×Int:=if (mSp c t).length=t.2.2.1.length then (if code (fun _=>mC1 l id h) (mSp c t)=0 then Qpf l (mSp c t) t id else (0,code (fun _=>mC1 l id h) (mSp c t))) else (0,4)
def mId (l:TL) (s:List UInt8):Int:=idxF (fun a=>decide (a=s)) l.1+1
def mChk (l:TL) (c:List TCoin) (t:TX) (h:Int):Int×Int:=if (Qu t).length<=300 then (if mId l (Qu t)=0 then (0,4) else Qja l c t (mId l (Qu t)) h) else (0,2)
theorem Qmd {α R:Type} (l:List α) (c:α->Int) (f:Int->Option (Int⊕(Unit⊕(Int×Int))))
  (I:∀(i:Nat) (h:i<l.length),f (i:Int)=some (if c l[i]=0 then .inl ((i+1:Nat):Int) else .inr (.inr (0,c l[i])))) (he:f (l.length:Int)=some (.inr (.inl ()))) (A:Unit->Option R) (B:Int×Int->Option R) :
  ((Qc f 0).bind fun j=>Sum.elim A B j)=if code (fun _=>c) l=0 then A () else B (0,code (fun _=>c) l):=by
 rw[JC l (fun i a=>(if c a=0 then none else some (c a)).map fun v=>((0:Int),v)) f (fun i h=>by rw[I i h];by_cases J:c l[i]=0<;>simp[J]) he,Qjl,Qad]
 by_cases h0:code (fun _=>c) l=0
 ·rw[if_pos h0]
  have U:=YH h0
  have:first (fun (_:Nat) a=>if c a=0 then none else some (c a)) 0 l=none:=(Qd4 l 0).2 (fun j a ha=>by rw[if_pos (U j a ha)])
  rw[this];rfl
 ·rw[if_neg h0]
  unfold code at h0 ⊢;cases hf:first (fun (_:Nat) a=>if c a=0 then none else some (c a)) 0 l with
  | none=>rw[hf] at h0;exact absurd rfl h0
  | some r=>rfl
theorem Qko {c:List TCoin} {t:TX} {x:TCoin} (h:x ∈ mSp c t):x ∈ c:=(aMv.1 h).1
theorem Qjz {l:TL} (t:TX) (id:Int) (g:Int->Int->Option Bool) (I:g t.2.1 id=some (decide ((t.2.1,id) ∈ l.2))):(bif decide (t.1=2) then (g t.2.1 id).bind fun y=>some (!y) else some false)=some (decide (t.1=2/\(t.2.1,id) ∉ l.2)):=by
 rw[I];by_cases h1:t.1=2<;>by_cases h2:(t.2.1,id) ∈ l.2<;>simp[h1,h2]
theorem Qng {l:TL} (U:okL l) {c:List TCoin} (I:Q9 c=0) {t:TX} (ht:okT t) (id h:Int):QbZ l c t id h=some (Qja l c t id h):=by
 have hB:BIG=4611686018427387904:=rfl
 have hcl:=(Zf I).1
 have hspl:(mSp c t).length<=c.length:=aME _ c
 unfold QbZ Qja;rw[Qd8 I t (by have:=ht.li;omega),aLc]
 by_cases h1:(mSp c t).length=t.2.2.1.length
 ·simp only[h1,aMc,aMa,aLC,if_true]
  rw[Qmd (mSp c t) (mC1 l id h) _ (fun i hi=>?_) (by rw[<-h1];simp only[dge,aLC])]
  ·by_cases h2:code (fun _=>mC1 l id h) (mSp c t)=0
   ·rw[if_pos h2,if_pos h2,Qjz (l:=l) t id (Qb3 l) (Qrl U _ _),aLc,(Qrg _ (by omega)).2,(QpT t ht.b.outs).2]
    unfold Qpf;by_cases h3:t.1=2/\(t.2.1,id) ∉ l.2
    ·rw[aLE h3,if_pos h3];rfl
    ·rw[aLD h3,if_neg h3]
     simp only[aLC,aLc];by_cases h4:wrap .i64 (mSum (mSp c t) - Qe6 t.2.2.2)<0
     ·rw[aLE h4,if_pos h4];rfl
     ·rw[aLD h4,if_neg h4];rfl
   ·rw[if_neg h2,if_neg h2]
  ·have hr:(mSp c t)[i].2.1.2.1.length<BIG:=by have:=Zz I _ (Qko (aLl hi));omega
   have J:i<t.2.2.1.length:=by omega
   simp only[dlt J,Qb _ i hi,Qa _ i _ hi,aLB,QuV,Qv8 U _ hr,aLc,wsucc hi (by omega)]
   unfold mC1;cases QjD (mSp c t)[i] h
   ·rfl
   ·by_cases h3:mMet l (mSp c t)[i].2.1.2 id h=0
    ·rw[aLE h3];simp[h3]
    ·rw[aLD h3];simp[h3]
 ·simp only[h1,aMD,aMB,aLB,if_false]
theorem Qny {l:TL} (hl:mLF l=0) {c:List TCoin} (J:Q9 c=0) {t:TX} (U:mTxF t=0) {h:Int} (hh:mIn h 0 999=true):QdQ l c t h=some ((mChk l c t h).2,if (mChk l c t h).2=0 then (mChk l c t h).1 else 0):=by
 have hB:BIG=4611686018427387904:=rfl
 have I:=QaC hl
 have hcl:=(Zf J).1
 unfold QdQ mChk;rw[Qal l (by have:=I.n1;omega) (by have:=I.n2;omega),Qap c (by omega) (fun x hx=>by have:=Zz J x hx;omega),QbX t (Jj U).b,Qc3,QoD U]
 simp only[hl,J,U,hh,aMc,aMa,aLC,aLc];by_cases h1:(Qu t).length<=300
 ·rw[if_pos h1,if_pos h1]
  simp only[aMc,aMa,aLC];rw[Qk6 _ (by have:=I.n1;omega),aLc]
  show (bif decide (mId l (Qu t)=0) then some ((4:Int),(0:Int)) else _)=_
  by_cases h2:mId l (Qu t)=0
  ·rw[aLE h2,if_pos h2];rfl
  ·rw[aLD h2,if_neg h2,aLC]
   show ((QbZ l c t (mId l (Qu t)) h).bind _)=_
   rw[Qng I J (Jj U),aLc];by_cases h3:(Qja l c t (mId l (Qu t)) h).2=0
   ·rw[aLE h3,if_pos h3,h3];rfl
   ·rw[aLD h3,if_neg h3];rfl
 ·rw[if_neg h1,if_neg h1];rfl
theorem Qv1 (l:List (List UInt8)) (x:List UInt8):idxF (fun a=>decide (x=a)) l=idxF (fun a=>decide (a=x)) l:=by
 congr 1
 funext a
 exact decide_eq_decide.2 ⟨Eq.symm,Eq.symm⟩
theorem QwF {α:Type} (p:α->Bool) (l:List α):-1<=idxF p l/\idxF p l<l.length:=by
 cases h:l.any p with
 | false=>
  have h1:=(QiQ p l).1 ((Qe8 p l).2 h)
  rw[h1];omega
 | true=>
  obtain⟨k,hk,e,_⟩:=Qa6 h;rw[e];omega
theorem QwJ {l:TL} (I:okL l) (s:List UInt8):Qbe l s=some (mId l s):=by
 unfold Qbe mId;have h1:=I.n1
 rw[Qk1 _ (by unfold BIG;omega),aLc,Qv1]
 have:=QwF (fun a=>decide (a=s)) l.1
 rw[Qy (by omega) (by omega)]
theorem Qm7 {l:TL} (J:okL l) {c:List TCoin} (I:Q9 c=0) {t:TX} (U:okT t) {h:Int} (hh:mIn h 0 999=true):JX l c t h=some (mChk l c t h):=by
 have hB:BIG=4611686018427387904:=rfl
 have hcl:=(Zf I).1
 have hspl:(mSp c t).length<=c.length:=aME _ c
 unfold JX mChk;rw[QjG U,aLc];by_cases h1:(Qu t).length<=300
 ·rw[if_pos h1,if_pos h1]
  simp only[aMc,aMa,aLC];rw[QwJ J,aLc];by_cases h2:mId l (Qu t)=0
  ·rw[aLE h2,if_pos h2];rfl
  ·rw[aLD h2,if_neg h2,aLC,Qf4 I t U,aLc]
   generalize mId l (Qu t)=id;unfold Qja;by_cases h3:(mSp c t).length=t.2.2.1.length
   ·rw[if_pos h3,if_pos h3]
    simp only[aMc,aMa,aLC];rw[Qmd (mSp c t) (mC1 l id h) _ (fun i hi=>?_) (by simp only[dge,aLC])]
    ·by_cases h2:code (fun _=>mC1 l id h) (mSp c t)=0
     ·rw[if_pos h2,if_pos h2,(Qrg _ (by omega)).1,(QpT t U.b.outs).1,aLc,aLc,Qjz (l:=l) t id (Z5 l) (Qon J _ _),aLc]
      unfold Qpf;by_cases h3:t.1=2/\(t.2.1,id) ∉ l.2
      ·rw[aLE h3,if_pos h3];rfl
      ·rw[aLD h3,if_neg h3]
       simp only[aLC,aLc];by_cases h4:wrap .i64 (mSum (mSp c t) - Qe6 t.2.2.2)<0
       ·rw[aLE h4,if_pos h4];rfl
       ·rw[aLD h4,if_neg h4];rfl
     ·rw[if_neg h2,if_neg h2]
    ·have hx:=(Zf I).2 _ (Qko (aLl hi))
     have hr:(mSp c t)[i].2.1.2.1.length<BIG:=by have:=Zz I _ (Qko (aLl hi));omega
     simp only[dlt hi,Qb _ i hi,Qa _ i _ hi,aLB,Qux _ h (Qx.2 hx.height) hh,Qtf J _ hr,aLc,wsucc hi (by omega)]
     unfold mC1;cases QjD (mSp c t)[i] h
     ·rfl
     ·by_cases h3:mMet l (mSp c t)[i].2.1.2 id h=0
      ·rw[aLE h3];simp[h3]
      ·rw[aLD h3];simp[h3]
   ·rw[if_neg h3,if_neg h3];rfl
 ·rw[if_neg h1,if_neg h1];rfl
end GL
end Go.Dx
set_option maxHeartbeats 2000000
namespace Go.Dx
theorem QuO {α:Type} (l:List α) (d:α) (p:α->Bool) (f:List α×Int×Int->Option ((List α×Int×Int)⊕(List α×Int)))
  (hs:∀(X:List α) (j i:Nat) (h:i<X.length),X.length=l.length->j<=i->f (X,(j:Int),(i:Int))=some (.inl (if p X[i] then (X,(j:Int),((i+1:Nat):Int)) else (X.set j X[i],((j+1:Nat):Int),((i+1:Nat):Int)))))
  (he:∀(X:List α) (j:Nat),X.length=l.length->f (X,(j:Int),(l.length:Int))=some (.inr (X,(j:Int)))) :
  ∀(k j i:Nat) (X:List α),i+k=l.length->j<=i->X.length=l.length->X.take j=(l.take i).filter (fun a=>!p a)->X.drop i=l.drop i->
   ∃(X':List α) (j':Nat),Qc f (X,(j:Int),(i:Int))=some (X',(j':Int))/\X'.length=l.length/\j'<=l.length/\X'.take j'=l.filter (fun a=>!p a):=by
 intro k;induction k with
 | zero=>
  intro j i X hi hj I ht hd;obtain rfl:i=l.length:=by omega
  exact⟨X,j,Qe (he X j I),I,hj,by rw[ht,List.take_length]⟩
 | succ k ih=>
  intro j i X hi hj I ht hd;have h:i<X.length:=by omega
  have h':i<l.length:=by omega
  have hx:X[i]=l[i]:=by
   rw[aLr h,aLr h'] at hd;exact (List.cons.inj hd).1
  have J:X.drop (i+1)=l.drop (i+1):=by
   rw[<-List.drop_drop,<-List.drop_drop,hd]
  have U:(l.take (i+1)).filter (fun a=>!p a)=(l.take i).filter (fun a=>!p a)++[l[i]].filter (fun a=>!p a):=by
   rw[aMl h',List.filter_append]
  rw[Qo (hs X j i h I hj)];rw[hx];cases hp:p l[i] with
  | true=>
   rw[if_pos rfl];refine ih j (i+1) X (by omega) (by omega) I ?_ J
   rw[U,ht];simp[hp]
  | false=>
   rw[if_neg (by simp)]
   refine ih (j+1) (i+1) (X.set j l[i]) (by omega) (by omega) (by simpa using I) ?_ ?_
   ·rw[U,<-ht]
    have hj2:j<(X.set j l[i]).length:=by rw[List.length_set];omega
    rw[aMl hj2,List.take_set_of_le (aMb _)];simp[hp]
   ·rw[List.drop_set_of_lt (by omega),J]
theorem Qqm {α β:Type} (l:List α) (p:α->Bool) (k:Nat) (hk:k<l.length) (I:(l.take (k+1)).filter (fun a=>!p a)=l.take k) (f:List α×Int×Int->Option ((List α×Int×Int)⊕(List α×Int))) (G:List α×Int->Option β) (r:β)
  (hs:∀(X:List α) (j i:Nat) (h:i<X.length),X.length=l.length->j<=i->f (X,(j:Int),(i:Int))=some (.inl (if p X[i] then (X,(j:Int),((i+1:Nat):Int)) else (X.set j X[i],((j+1:Nat):Int),((i+1:Nat):Int)))))
  (he:∀(X:List α) (j:Nat),X.length=l.length->f (X,(j:Int),(l.length:Int))=some (.inr (X,(j:Int))))
  (hG:∀(J:List α) (U:Nat),J.length=l.length->U<=l.length->J.take U=l.filter (fun a=>!p a)->G (J,(U:Int))=some r) :
  (Qc f (l,(k:Int),((k+1:Nat):Int))).bind G=some r:=by
 obtain⟨J,U,e1,e2,e3,e4⟩:=QuO l l[k] p f hs he (l.length - (k+1)) k (k+1) l (by omega) (by omega) rfl I.symm rfl
 rw[e1,aLc];exact hG J U e2 e3 e4
namespace GL
open IntKind Sum
abbrev TMb:=Int×Int×Int
theorem Qim (l:List TMb) (I:l.length<BIG) (p:TMb->Bool) (f:TMb->Option Bool) (J:∀a,a ∈ l->f a=some (p a)):QV l f=some (idxF p l):=by
 unfold QV;refine Yx l p _ (fun i h=>?_) (by simp only[dge,aLC])
 simp only[dlt h,Qb l i h,Qa l i _ h,aLB,J _ (aLl h),aLc,wsucc h I];cases p l[i]<;>rfl
theorem QlT (l:List TMb) (hl:l.length<BIG) (p:TMb->Bool) (f:TMb->Option Bool) (hf:∀a,f a=some (p a)):Zb l f=some (l.filter (fun a=>!p a)):=by
 unfold Zb;rw[Qim l hl p f (fun a _=>hf a),aLc]
 cases I:l.any p with
 | false=>
  have h1:idxF p l = -1:=(QiQ p l).1 ((Qe8 p l).2 I)
  rw[h1];simp only[aMc,aLB];congr 1;refine (aMG.2 fun a ha=>?_).symm
  rw[aMI] at I;simpa using I a ha
 | true=>
  obtain⟨k,hk,h1,h2,h3⟩:=Qa6 I;rw[h1,aLD (by omega:¬(k:Int) = -1),aLC,wsucc hk hl]
  have hpre:(l.take (k+1)).filter (fun a=>!p a)=l.take k:=by
   rw[aMl hk,List.filter_append];have e1:(l.take k).filter (fun a=>!p a)=l.take k:=aMG.2 fun a ha=>by
    obtain⟨j,hj,rfl⟩:=aMe.1 ha;rw[aLn] at hj;simp only[aMw];rw[h3 j (by omega)];rfl
   rw[e1];simp[h2]
  refine Qqm l p k hk hpre _ _ _ (fun X j i h hX hj=>?_) (fun X j hX=>by rw[<-hX];simp only[dge,aLC]) (fun J U e2 e3 e4=>?_)
  ·have e1:decide ((i:Int)<(X.length:Int))=true:=dlt h
   simp only[e1,Qb X i h,Qa X i _ h,aLB,hf,aLc,wsucc h (by omega:X.length<BIG),Qb X j (by omega),wsucc (by omega:j<X.length) (by omega:X.length<BIG)]
   cases p X[i] with
   | true=>rfl
   | false=>simp
  have c1:Qz (U:Int) (J.length:Int) J=true:=by unfold Qz;simp;omega
  have hcl:clr (s:=.prod (.int .i64) (.prod (.int .i64) (.int .i64))) (U:Int) (J.length:Int) J=J.take U++(List.replicate (J.length - U) ((0,0,0):TMb)++[]):=by
   unfold clr;simp[Sh.dflt]
  have c2:Qz 0 (U:Int) (clr (s:=.prod (.int .i64) (.prod (.int .i64) (.int .i64))) (U:Int) (J.length:Int) J)=true:=by
   unfold Qz;rw[hcl];simp;omega
  rw[c1,c2,aLB,aLB,hcl];simp only[Int.sub_zero,aMd,Int.toNat_zero,aMt];rw[List.take_append_of_le_length (by rw[aLn];omega),List.take_take,Nat.min_self,e4]
theorem QgH (l:List TMb) (I:l.length<BIG) (p:TMb->Bool) (f:TMb->Option Bool) (J:∀a,a ∈ l->f a=some (p a)):QL l f=some (l.any p):=by
 unfold QL;rw[Qim l I p f J,aLc,Zy]
def mMb (l:List TMb) (i:Nat) (x:TMb):Int:=if mIn x.1 1 999&&mRef x.2 then (if decide (0<i)&&decide (x.1<=(List.getD l (i - 1) (0,(0,0))).1) then 1 else 0) else 3
def mMd (l:List TMb) (i:Nat) (x:TMb):Int:=if (l.take i).any (fun y=>decide (y.2=x.2)) then 7 else 0
def mMem (l:List TMb):Int:=if (8:Int)<(l.length:Int) then 2 else if code (mMb l) l=0 then code (mMd l) l else code (mMb l) l
theorem Qrm (l:List TMb) (I:l.length<BIG) (i:Nat) (h:i<l.length) (h0:0<i):inB (wrap .i64 ((i:Int) - 1)) l=true/\List.getD l (Int.toNat (wrap .i64 ((i:Int) - 1))) (0,(0,0))=List.getD l (i - 1) (0,(0,0)):=by
 obtain⟨j,rfl⟩:∃j,i=j+1:=⟨i - 1,by omega⟩
 rw[wpred (i:=j) (n:=l.length) (by omega) I]
 exact⟨Qb l j (by omega),by simp⟩
theorem QiP (l:List TMb) (U:l.length<BIG):QbJ l=some (mMem l):=by
 unfold QbJ mMem;by_cases h8:(8:Int)<(l.length:Int)
 ·rw[aLE h8,if_pos h8];rfl
 ·rw[aLD h8,if_neg h8,aLC]
  rw[Jy l (mMb l) _ (fun i h=>?_) (by simp only[dge,aLC])]
  ·split
   ·refine YD l (mMd l) _ (fun i h=>?_) (by simp only[dge,aLC])
    rw[dlt h,aLB];have inner:=JC (β:=Int) (l.take i) (fun _ y=>if decide (y.2=l[i].2) then some 7 else none) (fun (I:Int)=>
 bif (decide ((I:Int)<(i:Int))) then
 bif (inB I l) then
 bif (inB (i:Int) l) then
 bif (Sh.beq (.prod (.int .i64) (.int .i64)) (List.getD l (Int.toNat I) (0,(0,0))).2 (List.getD l (Int.toNat (i:Int)) (0,(0,0))).2) then
 some (inr (inr 7))
 else
 some (inl (wrap .i64 (I+1)))
 else none
 else none
 else
 some (inr (inl ()))) (fun k hk=>by
      rw[aLn] at hk;have hk1:k<i:=by omega
      have J:k<l.length:=by omega
      simp only[aMw];rw[aLE (by omega),aLB,Qb l k J,aLB,Qb l i h,aLB,Qa l k _ J,Qa l i _ h,QgT,wsucc J U]
      cases decide (l[k].2=l[i].2)<;>rfl) (by
      rw[aLn,Nat.min_eq_left (by omega)]
      simp only[Int.lt_irrefl,aMD,aLC])
    rw[inner,Qad,Qfl];unfold mMd;cases (l.take i).any (fun y=>decide (y.2=l[i].2))
    ·simp only[Bool.false_eq_true,if_false,wsucc h U,if_true]
    ·simp
   ·rfl
  ·simp only[dlt h,Qb l i h,Qa l i _ h,aLB,QdC,Qfv,aLc,wsucc h U]
   unfold mMb;cases h1:mIn l[i].1 1 999<;>cases h2:mRef l[i].2<;>try rfl
   simp only[aMa,aLC,aLc,aMz,if_true];by_cases h4:0<i
   ·obtain⟨e1,e2⟩:=Qrm l U i h h4
    rw[show decide ((0:Int)<(i:Int))=true by simpa using h4,aLE h4,aLB,e1,aLB,e2,aLc,aMz]
    cases decide (l[i].1<=(List.getD l (i - 1) (0,(0,0))).1)<;>rfl
   ·rw[show decide ((0:Int)<(i:Int))=false by simpa using h4,aLD h4];rfl
theorem QjT (l:List TMb) (I:l.length<BIG):QaL l=some (mMem l):=by
 unfold QaL mMem;by_cases h8:(8:Int)<(l.length:Int)
 ·rw[aLE h8,if_pos h8];rfl
 ·rw[aLD h8,if_neg h8,aLC]
  rw[Jy l (mMb l) _ (fun i h=>?_) (by simp only[dge,aLC])]
  ·split
   ·refine YD l (mMd l) _ (fun i h=>?_) (by simp only[dge,aLC])
    have hc:=QgH (l.take i) (YZ I i) (fun y=>decide (y.2=l[i].2)) (fun J=>(Jw J l[i]).bind fun U=>some U) (fun a _=>by unfold Jw;rw[QgT];rfl)
    simp only[dlt h,Qb l i h,Qa l i _ h,ZI l i (Nat.le_of_lt h),Jq,aLB,hc,aLc,wsucc h I];unfold mMd;cases (l.take i).any (fun y=>decide (y.2=l[i].2))<;>simp
   ·rfl
  ·simp only[dlt h,Qb l i h,Qa l i _ h,aLB,QdB,QhM,aLc,wsucc h I]
   unfold mMb;cases h1:mIn l[i].1 1 999<;>cases h2:mRef l[i].2<;>try rfl
   simp only[aMa,aLC,aLc,aMz,if_true];by_cases h4:0<i
   ·obtain⟨e1,e2⟩:=Qrm l I i h h4
    rw[show decide ((0:Int)<(i:Int))=true by simpa using h4,aLE h4,aLB,e1,aLB,e2,aLc,aMz]
    cases decide (l[i].1<=(List.getD l (i - 1) (0,(0,0))).1)<;>rfl
   ·rw[show decide ((0:Int)<(i:Int))=false by simpa using h4,aLD h4];rfl
def Qab (l:List TMb):Prop:=l.Pairwise fun a b=>a.1<b.1
theorem Qhx {l:List TMb} (h:Qab l) {i j:Nat} (I:i<j) (hj:j<l.length):(l[i]'(by omega)).1<l[j].1:=List.pairwise_iff_getElem.1 h i j (by omega) hj I
theorem Qkt {l:List TMb} (hr:Qab l) (hl:l.length<=1000000) (r:Int):∃k:Nat,k<=l.length/\Jb l r=some ((k:Int),l.any fun x=>decide (x.1=r))/\((l.any fun x=>decide (x.1=r))=true->∃h:k<l.length,(l[k]'h).1=r)/\(∀i (h:i<l.length),i<k->l[i].1<r)/\(∀i (h:i<l.length),k<=i->r<=l[i].1):=by
 obtain⟨k,h1,h2,h3⟩:=QlI l.length (fun i=>decide ((List.getD l i (0,(0,0))).1<r)) (fun i j hij hj hp=>by
  rcases aMg i j with h | h
  ·have hi:i<l.length:=by omega
   have:=Qhx hr h hj
   have e1:List.getD l i (0,(0,0))=l[i]:=by rw[aLk,aLf hi];rfl
   have e2:List.getD l j (0,(0,0))=l[j]:=by rw[aLk,aLf hj];rfl
   simp only[e1,e2,aLF] at hp ⊢;omega
  ·obtain rfl:i=j:=by omega
   exact hp)
 have J:∀i (hi:i<l.length),List.getD l i (0,(0,0))=l[i]:=fun i hi=>by rw[aLk,aLf hi];rfl
 have g1:∀i (h:i<l.length),i<k->l[i].1<r:=fun i h hk=>by have:=h2 i hk;rw[J i h] at this;simpa using this
 have g2:∀i (h:i<l.length),k<=i->r<=l[i].1:=fun i h hk=>by have:=h3 i hk h;rw[J i h] at this;simpa using this
 have U:(l.any fun x=>decide (x.1=r))=decide (∃h:k<l.length,(l[k]'h).1=r):=by
  rw[Bool.eq_iff_iff,List.any_eq_true,aLF];constructor
  ·rintro ⟨x,hx,he⟩
   obtain⟨i,hi,rfl⟩:=aMe.1 hx;have he:l[i].1=r:=aLG he
   have hik:¬i<k:=fun h=>by have:=g1 i hi h;omega
   refine⟨by omega,?_⟩
   rcases aMg k i with h | h
   ·have h4:=Qhx hr h hi
    have h5:=g2 k (by omega) (aMb _)
    omega
   ·obtain rfl:i=k:=by omega
    exact he
  ·rintro ⟨h,he⟩
   exact⟨_,aLl h,aLE he⟩
 refine⟨k,h1,?_,fun h=>by rw[U] at h;exact aLG h,g1,g2⟩
 rw[U];unfold Jb Q8;have hcmp:∀(x:TMb),((Qaf x r).bind fun r7=>some r7)=some (mCmp x.1 r):=fun x=>by
  unfold Qaf;rw[QgK];rfl
 simp only[hcmp,aLc];have hneg:∀a b:Int,decide (mCmp a b<0)=decide (a<b):=fun a b=>by
  unfold mCmp;refine decide_eq_decide.2 ?_;split
  ·simp;omega
  ·split<;>simp<;>omega
 have hzero:∀a b:Int,decide (mCmp a b=0)=decide (a=b):=fun a b=>by
  unfold mCmp;refine decide_eq_decide.2 ?_;split
  ·simp;omega
  ·split
   ·simp;omega
   ·simp;omega
 rw[Qrj l.length k h1 _ (fun lo hi hlo hhi=>?_) (fun lo=>by simp only[Int.lt_irrefl,aMD,aLC]),aLc]
 ·by_cases hk:k<l.length
  ·have hd:List.getD l (Int.toNat (k:Int)) (0,(0,0))=l[k]:=by rw[aMd];exact J k hk
   rw[dlt hk,aLB,Qb l k hk,aLB];show some ((k:Int),decide (mCmp (List.getD l (Int.toNat (k:Int)) (0,(0,0))).1 r=0))=_
   rw[hd,hzero];congr 2;exact decide_eq_decide.2 ⟨fun h=>⟨hk,h⟩,fun ⟨_,h⟩=>h⟩
  ·have hf:decide (∃h:k<l.length,(l[k]'h).1=r)=false:=aLD (fun ⟨h,_⟩=>hk h)
   rw[dge' (by omega),aLC,aLc,hf];rfl
 ·have hm:=QtU (lo:=lo) (hi:=hi) (by omega)
  have I:(lo+hi) / 2<l.length:=by omega
  simp only[hm];rw[aLE (by omega),aLB,Qb l _ I,aLB]
  have hd:List.getD l (Int.toNat (((lo+hi) / 2:Nat):Int)) (0,(0,0))=l[(lo+hi) / 2]:=by rw[aMd];exact J _ I
  rw[hd,hneg,wsucc I (by unfold BIG;omega)]
  by_cases hmk:(lo+hi) / 2<k
  ·rw[aLE (g1 _ I hmk),if_pos hmk];rfl
  ·have:=g2 _ I (by omega)
   rw[aLD (by omega),if_neg hmk];rfl
theorem Qel (l:List TMb) (I:l.length<=LIM):Qt l=some l:=by
 unfold Qt;rw[JB I,aLB];cases l with
 | nil=>exact QdU _
 | cons a l=>rfl
def mOff (l:List TMb) (t:TX):List TMb:=l.filter fun x=>!(decide (t.1=2)&&decide (x.1=t.2.1))&&!decide (x.2 ∈ t.2.2.1)
def Qjg (o:List TMb) (x:TMb):List TMb×Int:=if o.any (fun y=>decide (y.1=x.1) || decide (y.2=x.2)) then ([],7) else if 8<=o.length then ([],2) else (o.takeWhile (fun y=>decide (y.1<x.1))++[x]++o.dropWhile (fun y=>decide (y.1<x.1)),0)
def Qco (l:List TMb) (t:TX) (id:Int):List TMb×Int:=if t.1=2/\(l.any fun x=>decide (x.1=t.2.1))=false then ([],4) else if t.1=1 then Qjg (mOff l t) (t.2.1,(id,0)) else (mOff l t,0)
theorem Qk0 (l:List TMb) (I:l.length<BIG) (k:Int):QcP l k=some (idxF (fun x=>decide (x.1=k)) l):=by
 unfold QcP;refine Yx l _ _ (fun i h=>?_) (by simp only[dge,aLC])
 simp only[dlt h,Qb l i h,Qa l i _ h,aLB,wsucc h I];cases decide (l[i].1=k)<;>rfl
theorem Qio {l:List TMb} {r:Int} {k:Nat} (hk:k<=l.length) (h1:∀i (h:i<l.length),i<k->l[i].1<r) (h2:∀i (h:i<l.length),k<=i->r<=l[i].1):l.takeWhile (fun y=>decide (y.1<r))=l.take k/\l.dropWhile (fun y=>decide (y.1<r))=l.drop k:=by
 have I:∀a,a ∈ l.take k->decide (a.1<r)=true:=fun a ha=>by
  obtain⟨i,hi,rfl⟩:=aMe.1 ha;rw[aLn] at hi;simp only[aMw];exact aLE (h1 i (by omega) (by omega))
 have e:l=l.take k++l.drop k:=(List.take_append_drop k l).symm
 have hd:∀a rest,l.drop k=a::rest->decide (a.1<r)=false:=fun a rest h=>by
  have J:k<l.length:=by
   rcases aMg k l.length with U | U
   ·exact U
   ·rw[List.drop_eq_nil_of_le U] at h;cases h
  rw[aLr J] at h;have:=h2 k J (aMb _)
  rw[<-(List.cons.inj h).1];exact aLD (by omega)
 constructor
 ·conv=>lhs;rw[e]
  rw[List.takeWhile_append_of_pos I];cases hdr:l.drop k with
  | nil=>simp
  | cons a rest=>rw[List.takeWhile_cons,hd a rest hdr];simp
 ·conv=>lhs;rw[e]
  rw[List.dropWhile_append_of_pos I];cases hdr:l.drop k with
  | nil=>simp
  | cons a rest=>rw[List.dropWhile_cons,hd a rest hdr];simp
theorem QlJ {l:List TMb} (h:Qab l) (p:TMb->Bool):Qab (l.filter p):=List.Pairwise.sublist List.filter_sublist h
theorem Qoe {o:List TMb} (U:Qab o) (r:Int):∃k,k<=o.length/\(∀i (h:i<o.length),i<k->o[i].1<r)/\(∀i (h:i<o.length),k<=i->r<=o[i].1):=by
 obtain⟨k,h1,h2,h3⟩:=QlI o.length (fun i=>decide ((List.getD o i (0,(0,0))).1<r)) (fun i j hij hj J=>by
  rcases aMg i j with h | h
  ·have hi:i<o.length:=by omega
   have:=Qhx U h hj
   have e1:List.getD o i (0,(0,0))=o[i]:=by rw[aLk,aLf hi];rfl
   have e2:List.getD o j (0,(0,0))=o[j]:=by rw[aLk,aLf hj];rfl
   simp only[e1,e2,aLF] at J ⊢;omega
  ·obtain rfl:i=j:=by omega
   exact J)
 have I:∀i (hi:i<o.length),List.getD o i (0,(0,0))=o[i]:=fun i hi=>by rw[aLk,aLf hi];rfl
 exact⟨k,h1,fun i h hk=>by have:=h2 i hk;rw[I i h] at this;simpa using this,fun i h hk=>by have:=h3 i hk h;rw[I i h] at this;simpa using this⟩
theorem QoG {o:List TMb} (hr:Qab o) (hl:o.length<=1000000) (x:TMb):QcM o x=some (Qjg o x):=by
 have hB:BIG=4611686018427387904:=rfl
 have hL:LIM=1073741824:=rfl
 unfold QcM Qjg;rw[Qk0 _ (by omega),aLc,Zy]
 have U:(o.any fun y=>decide (y.1=x.1) || decide (y.2=x.2))=((o.any fun y=>decide (y.1=x.1)) || o.any fun y=>decide (y.2=x.2)):=by
  rw[Bool.eq_iff_iff];simp only[List.any_eq_true,aMC];constructor
  ·rintro ⟨y,J,h | h⟩
   ·exact .inl ⟨y,J,h⟩
   ·exact .inr ⟨y,J,h⟩
  ·rintro (⟨y,J,h⟩ | ⟨y,J,h⟩)
   ·exact⟨y,J,.inl h⟩
   ·exact⟨y,J,.inr h⟩
 rw[U];cases ha:o.any fun y=>decide (y.1=x.1) with
 | true=>rfl
 | false=>
  rw[aLC,Bool.false_or];obtain⟨k,k1,k2,k3⟩:=Qoe hr x.1;have loop:∀(f:Int×Int->Option ((Int×Int)⊕(Int⊕(List TMb×Int)))),
    (∀(i:Nat) (hi:i<o.length) (a:Int),f (a,(i:Int))=some (if decide (o[i].2=x.2) then .inr (.inr ([],7)) else .inl (if o[i].1<x.1 then ((i+1:Nat):Int) else a,((i+1:Nat):Int))))->(∀a,f (a,(o.length:Int))=some (.inr (.inl a)))->
    Qc f (0,0)=some (if o.any (fun y=>decide (y.2=x.2)) then .inr ([],7) else .inl (k:Int)):=by
   intro f hs he;have key:∀(d i:Nat),i+d=o.length->Qc f (((min i k:Nat):Int),(i:Int))=some (if (o.drop i).any (fun y=>decide (y.2=x.2)) then .inr ([],7) else .inl (k:Int)):=by
    intro d;induction d with
    | zero=>
     intro i hi;obtain rfl:i=o.length:=by omega
     rw[Qe (he _),aMr,Nat.min_eq_right k1];rfl
    | succ d ih=>
     intro i hi;have I:i<o.length:=by omega
     have h1:=hs i I ((min i k:Nat):Int)
     rw[aLr I,List.any_cons];cases hd:decide (o[i].2=x.2) with
     | true=>rw[hd,if_pos rfl] at h1;rw[Qe h1];rfl
     | false=>
      rw[hd,if_neg (by simp)] at h1
      rw[Qo h1,Bool.false_or];have e:(if o[i].1<x.1 then ((i+1:Nat):Int) else ((min i k:Nat):Int))=((min (i+1) k:Nat):Int):=by
       by_cases hik:i<k
       ·rw[if_pos (k2 i I hik)];omega
       ·have:=k3 i I (by omega)
        rw[if_neg (by omega)];omega
      rw[e];exact ih (i+1) (by omega)
   have:=key o.length 0 (by omega)
   rw[aMt,Nat.zero_min] at this;exact this
  rw[loop _ (fun i hi a=>by
   simp only[dlt hi,Qb _ i hi,Qa _ i _ hi,aLB,QgT,wsucc hi (by omega)]
   cases decide (o[i].2=x.2)
   ·by_cases h:o[i].1<x.1
    ·rw[aLE h];simp[h]
    ·rw[aLD h];simp[h]
   ·rfl) (fun a=>by simp only[dge,aLC]),aLc]
  cases hb:o.any fun y=>decide (y.2=x.2) with
  | true=>rfl
  | false=>
   simp only[Bool.false_eq_true,if_false,Sum.elim_inl];by_cases h8:8<=o.length
   ·rw[aLE (by omega),if_pos h8];rfl
   ·obtain⟨w1,w2⟩:=Qio k1 k2 k3
    rw[aLD (by omega),if_neg h8,aLC,w1,w2]
    have c1:Qz 0 (k:Int) o=true:=by unfold Qz;simp;omega
    have c2:Qz (k:Int) (o.length:Int) o=true:=by unfold Qz;simp;omega
    have e1:cut 0 (k:Int) o=o.take k:=by unfold cut;simp
    have e2:cut (k:Int) (o.length:Int) o=o.drop k:=by
     unfold cut;rw[aMd];exact aMx (by rw[aLz];omega)
    rw[c1,aLB,e1,Qm,Qm,c2,aLB,e2,Qm]
    ·rfl
    all_goals (simp only[aLo,aLi,aLh,aLj,aLn,aLz];omega)
theorem Qm3 (l:List TMb) (t:TX):(mOff l t).length<=l.length:=aME _ l
theorem Qo4 {l:List TMb} (hm:Qab l/\l.length<=8) {t:TX} (I:t.2.2.1.length<=1000000) (id:Int):QeH l t id=some (Qco l t id):=by
 have hB:BIG=4611686018427387904:=rfl
 have hL:LIM=1073741824:=rfl
 obtain⟨J,hl⟩:=hm;unfold QeH Qco;have U:(bif decide (t.1=2) then (QcP l t.2.1).bind fun y=>some (decide (y<0)) else some false)=some (decide (t.1=2/\(l.any fun x=>decide (x.1=t.2.1))=false)):=by
  rw[Qk0 _ (by omega),aLc,Qs6]
  by_cases h1:t.1=2
  ·cases l.any fun x=>decide (x.1=t.2.1)<;>simp[h1]
  ·simp[h1]
 rw[U,aLc];by_cases h1:t.1=2/\(l.any fun x=>decide (x.1=t.2.1))=false
 ·rw[aLE h1,if_pos h1];rfl
 ·rw[aLD h1,if_neg h1,aLC]
  rw[Zv (σ:=List TMb) l (fun acc a=>if (!(decide (t.1=2)&&decide (a.1=t.2.1))&&!decide (a.2 ∈ t.2.2.1)) then acc++[a] else acc) (fun t i=>(t,i)) (fun t=>t) (fun t i=>t.length<=i) _ (fun i hi x hx=>by
    refine⟨?_,by split<;>(try simp only[aLi,aLh,aLj])<;>omega⟩
    simp only[dlt hi,Qb _ i hi,Qa _ i _ hi,aLB,Qd5 t.2.2.1 (by omega),aLc,wsucc hi (by omega)]
    rw[Qm (by simp only[aLh,aLj];omega)]
    cases decide (t.1=2)<;>cases decide (l[i].1=t.2.1)<;>cases decide (l[i].2 ∈ t.2.2.1)<;>rfl) (fun t I=>by simp only[dge,aLC]) [] (aMb _),aLc,foldl_filter,aLx]
  show (bif !decide (t.1=1) then some (mOff l t,(0:Int)) else (QcM (mOff l t) (t.2.1,(id,0))).bind fun y=>some (y.1,y.2))=_
  by_cases h2:t.1=1
  ·have:=Qm3 l t
   rw[aLE h2,if_pos h2,aMa,aLC,QoG (o:=mOff l t) (QlJ J _) (by omega)];rfl
  ·rw[aLD h2,if_neg h2];rfl
theorem filter_one {l:List TMb} {p:TMb->Bool} {k:Nat} (hk:k<l.length) (h0:p l[k]=false) (h1:∀i (h:i<l.length),i ≠ k->p l[i]=true):l.filter p=l.take k++l.drop (k+1):=by
 have e:l=l.take k++l[k]::l.drop (k+1):=by rw[<-aLr hk,List.take_append_drop]
 conv=>lhs;rw[e]
 rw[List.filter_append,List.filter_cons,h0];rw[aMG.2 (fun a I=>?_),if_neg (by simp),aMG.2 (fun a I=>?_)]
 ·obtain⟨i,hi,rfl⟩:=aMe.1 I
  rw[aLz] at hi;rw[List.getElem_drop];exact h1 _ (by omega) (by omega)
 ·obtain⟨i,hi,rfl⟩:=aMe.1 I
  rw[aLn] at hi;rw[aMw];exact h1 _ (by omega) (by omega)
theorem Qkq {l:List TMb} (hm:Qab l/\l.length<=8) {t:TX} (ht:t.2.2.1.length<=1000000) {id:Int} (hid:mIn id 1 60=true):Qbl l t id=some (Qco l t id):=by
 have hB:BIG=4611686018427387904:=rfl
 have hL:LIM=1073741824:=rfl
 obtain⟨hr,hl⟩:=hm;unfold Qbl Qco;rw[QcS,hid,aLc,Qel _ (by omega)]
 simp only[aMa,aLC,aLc];have first:∀G:(List TMb⊕(List TMb×Int))->Option (List TMb×Int),((bif decide (t.1=2) then (Jb l t.2.1).bind fun (I:Int×Bool)=>bif !I.2 then some (inr (([]:List TMb),(4:Int))) else (Q0 l I.1 (wrap .i64 (I.1+1))).bind fun J=>some (inl J) else some (inl l):Option (List TMb⊕(List TMb×Int))).bind G) =
   if t.1=2/\(l.any fun x=>decide (x.1=t.2.1))=false then G (.inr ([],4)) else G (.inl (l.filter fun x=>!(decide (t.1=2)&&decide (x.1=t.2.1)))):=fun G=>by
  by_cases h1:t.1=2
  ·obtain⟨k,k1,k2,k3,k4,k5⟩:=Qkt hr (by omega) t.2.1
   rw[aLE h1,aLB,k2,aLc];cases ha:l.any fun x=>decide (x.1=t.2.1) with
   | false=>rw[if_pos ⟨h1,rfl⟩];rfl
   | true=>
    obtain⟨hk,he⟩:=k3 ha;rw[if_neg (fun h=>by cases h.2)]
    have hdel:Q0 l (k:Int) (wrap .i64 ((k:Int)+1))=some (l.filter fun x=>!(true&&decide (x.1=t.2.1))):=by
     unfold Q0 delS;rw[wsucc hk (by omega),aLE (by omega),aLB]
     rw[filter_one (l:=l) (k:=k) hk (by rw[he];simp) (fun i hi hik=>by
      rcases aMg i k with h | h
      ·have:=Qhx hr h hk
       have:¬l[i].1=t.2.1:=by omega
       simp[this]
      ·have:=Qhx hr (show k<i by omega) hi
       have:¬l[i].1=t.2.1:=by omega
       simp[this])]
     simp
    show (Option.bind ((Q0 l (k:Int) (wrap .i64 ((k:Int)+1))).bind fun J=>some (inl J)) G)=_
    rw[hdel];rfl
  ·rw[aLD h1,if_neg (fun h=>h1 h.1)]
   simp only[aLC,aLc,Bool.false_and,aMB];rw[aMG.2 (fun a _=>rfl)]
 rw[first]
 by_cases h1:t.1=2/\(l.any fun x=>decide (x.1=t.2.1))=false
 ·rw[if_pos h1,if_pos h1];rfl
 ·rw[if_neg h1,if_neg h1,Sum.elim_inl]
  have hfl:=aME (fun x:TMb=>!(decide (t.1=2)&&decide (x.1=t.2.1))) l
  rw[QlT _ (by omega) (fun x=>decide (x.2 ∈ t.2.2.1)) _ (fun a=>by unfold Qb5;rw[Qf8 _ (by omega)];rfl),aLc,List.filter_filter]
  have eo:(l.filter fun a=>(!decide (a.2 ∈ t.2.2.1))&&!(decide (t.1=2)&&decide (a.1=t.2.1)))=mOff l t:=by
   unfold mOff;congr 1
   funext a
   rw[Bool.and_comm]
  rw[eo];by_cases h2:t.1=1
  ·rw[aLE h2,if_pos h2,aMa,aLC]
   have hol:=Qm3 l t
   have U:Qab (mOff l t):=QlJ hr _
   obtain⟨k,k1,k2,k3,k4,k5⟩:=Qkt U (by omega) t.2.1
   rw[k2,aLc];rw[QgH _ (by omega) (fun y=>decide (y.2=(id,0))) _ (fun a _=>by unfold QbS;rw[QgT];rfl)]
   unfold Qjg;have U:((mOff l t).any fun y=>decide (y.1=t.2.1) || decide (y.2=(id,0)))=(((mOff l t).any fun y=>decide (y.1=t.2.1)) || (mOff l t).any fun y=>decide (y.2=(id,0))):=by
    rw[Bool.eq_iff_iff];simp only[List.any_eq_true,aMC];constructor
    ·rintro ⟨y,hy,h | h⟩
     ·exact .inl ⟨y,hy,h⟩
     ·exact .inr ⟨y,hy,h⟩
    ·rintro (⟨y,hy,h⟩ | ⟨y,hy,h⟩)
     ·exact⟨y,hy,.inl h⟩
     ·exact⟨y,hy,.inr h⟩
   rw[U];cases ha:(mOff l t).any fun y=>decide (y.1=t.2.1) with
   | true=>rfl
   | false=>
    cases hb:(mOff l t).any fun y=>decide (y.2=(id,0)) with
    | true=>rfl
    | false=>
     simp only[Bool.false_or,aLC,aLc,Bool.false_eq_true,if_false];by_cases h8:8<=(mOff l t).length
     ·rw[aLE (by omega),if_pos h8];rfl
     ·obtain⟨w1,w2⟩:=Qio k1 k4 k5
      rw[aLD (by omega),if_neg h8,aLC,w1,w2]
      unfold YQ insS;rw[aLE ⟨by omega,by omega,by omega,rfl⟩,aLB,aLc,aMd]
  ·rw[aLD h2,if_neg h2];rfl
def mSt (s:TState):Int:=if mIn s.1 0 60&&mIn s.2.1 0 40 then (if decide (s.1=0)=decide (s.2.1=0) then (if Q9 s.2.2.1=0 then mMem s.2.2.2 else Q9 s.2.2.1) else 1) else 3
structure bS (s:TState):Prop where
 c:s.2.2.1.length<BIG
 k:∀x,x ∈ s.2.2.1->x.2.1.2.1.length<BIG
 m:s.2.2.2.length<BIG
theorem Qns (s:TState) (h:bS s):QdW s=some (mSt s):=by
 unfold QdW mSt;simp only[Zn,Qap _ h.c h.k,QiP _ h.m,aLc,beqB,QN];cases mIn s.1 0 60<;>cases mIn s.2.1 0 40<;>try rfl
 simp only[aMa,aLC,aLc,aMz,if_true];by_cases h2:decide (s.1=0)=decide (s.2.1=0)
 ·rw[aLE h2,if_pos h2]
  simp only[aMa,aLC];split<;>rfl
 ·rw[aLD h2,if_neg h2];rfl
theorem Qkk (l:List (Int×Int)) (I:l.length<BIG) (p:Int×Int->Bool) (f:Int×Int->Option Bool) (J:∀a,a ∈ l->f a=some (p a)):Zk l f=some (l.any p):=by
 unfold Zk Z4;rw[Yx l p _ (fun i h=>?_) (by simp only[dge,aLC]),aLc,Zy]
 simp only[dlt h,Qb l i h,Qa l i _ h,aLB,J _ (aLl h),aLc,wsucc h I];cases p l[i]<;>rfl
theorem Qgh (l:List Int) (I:l.length<BIG) (x:Int):QD l x=some (decide (x ∈ l)):=by
 unfold QD Zd;rw[Yx l (fun a=>decide (x=a)) _ (fun i h=>?_) (by simp only[dge,aLC]),aLc,Zy,any_eq]
 simp only[dlt h,Qb l i h,Qa l i _ h,aLB,wsucc h I];cases decide (x=l[i])<;>rfl
theorem Qjq {l:TL} (I:okL l) {id:Int} (h:(mTI l id).2=0):mIn id 1 60=true:=by
 unfold mTI at h;cases h1:mIn id 1 (l.1.length:Int) with
 | false=>rw[h1] at h;simp at h
 | true=>
  rw[Qx] at h1 ⊢;have:=I.n1
  omega
theorem QrK:(BIG:Int)=4611686018427387904:=rfl
theorem wk {k:Int} (h0:0<=k) (h:k<(BIG:Int)):wrap .i64 (k+1)=k+1:=Qy (by omega) (by have:=QrK;omega)
theorem QaV {β:Type} {y:Int} (h:0<=y) (a b:β):(bif decide (y<0) then a else b)=b:=by rw[aLD (by omega)];rfl
theorem QqU (k:Int) (h0:0<=k) (hb:k<(BIG:Int)):∃t,YV k=some t:=by
 have hB:=QrK
 have hL:LIM=1073741824:=rfl
 unfold YV;by_cases hk:k<=0
 ·rw[aLE hk];exact⟨_,rfl⟩
 ·rw[aLD hk,aLC]
  generalize I:(fun (s3:Int×List UInt8)=>_)=f
  have key:∀(n:Nat) (k:Int) (acc:List UInt8),0<=k->k<(10:Int) ^ n->k<(BIG:Int)->acc.length+n<=100->∃t,Qc f (k,acc)=some t/\t.length<=100:=by
   intro n;induction n with
   | zero=>
    intro k acc h0 h1 _ J;have:k=0:=by simp at h1;omega
    subst this;exact⟨acc,Qe (by rw[<-I];simp),by omega⟩
   | succ n U=>
    intro k acc h0 h1 hb J;by_cases hk:k=0
    ·subst hk;exact⟨acc,Qe (by rw[<-I];simp),by omega⟩
    ·have hd:Int.tdiv k 10=k / 10:=Int.tdiv_eq_ediv_of_nonneg h0
     have hw:wrap .i64 (Int.tdiv k 10)=k / 10:=by rw[hd];exact Qy (by omega) (by omega)
     have hp:k / 10<(10:Int) ^ n:=by rw[Int.pow_succ] at h1;omega
     rw[Qo (s':=(k / 10,List.append (List.map (fun (b:Int)=>UInt8.ofNat b.toNat) ([wrap .u8 (wrap .i64 (48+(Int.tmod k 10)))]:List Int)) acc)) (by
      rw[<-I];simp only[show decide (0<k)=true by simp;omega,aLB,hw]
      rw[show decide (List.length (List.map (fun (b:Int)=>UInt8.ofNat b.toNat) ([wrap .u8 (wrap .i64 (48+(Int.tmod k 10)))]:List Int))+List.length acc<=LIM)=true from by simp;omega]
      rfl)]
     exact U _ _ (by omega) hp (by omega) (by simp;omega)
  obtain⟨t,ht,J⟩:=key 19 k [] h0 (by have:(10:Int) ^ 19=10000000000000000000:=(by decide);omega) hb (by simp)
  rw[ht,aLc];rw[show decide (List.length ([109]:List Nat)+List.length t<=LIM)=true from by simp;omega]
  exact⟨_,rfl⟩
noncomputable def mT (k:Int):List UInt8:=(YV k).getD []
theorem Ql4 (k:Int) (h0:0<=k) (hb:k<(BIG:Int)):YV k=some (mT k):=by
 obtain⟨t,I⟩:=QqU k h0 hb;unfold mT;rw[I];rfl
noncomputable def mkS (k:Int) (_:List UInt8):List UInt8:=mT k
def mkG (k:Int) (_:Int×Int):Int×Int:=(k,k+1)
def cS:List UInt8->Nat:=fun _=>1
def cG:Int×Int->Nat:=fun _=>2
theorem Qki (x:List (List UInt8)) (U:x.length<BIG) (k:Int) (h0:0<=k) (hb:k+(cntL cS x:Int)<(BIG:Int)):Qbi x k=some (k+(cntL cS x:Int),mkL cS mkS k x):=by
 unfold Qbi;rw[Qdk cS mkS x k h0 hb _ (fun acc i k h I hm h0 hk=>?_) (fun acc k I=>by simp only[I,dge,aLC])]
 ·rfl
 ·simp only[cS] at hk
  have J:wrap .i64 (k+1)=k+1:=wk h0 (by omega)
  simp only[dlt h,Qhg,Qb acc i h,aMd,List.set_set,QaN acc i _ _ h,getD_at acc i _ h,aLB,J,wsucc h (by omega),Ql4 k h0 (by omega),aLc]
  rfl
theorem Qlw (x:List (Int×Int)) (hl:x.length<BIG) (k:Int) (h0:0<=k) (hb:k+(cntL cG x:Int)<(BIG:Int)):Qcv x k=some (k+(cntL cG x:Int),mkL cG mkG k x):=by
 unfold Qcv;rw[Qdk cG mkG x k h0 hb _ (fun acc i k h I hm h0 hk=>?_) (fun acc k I=>by simp only[I,dge,aLC])]
 ·rfl
 ·simp only[cG] at hk
  have J:wrap .i64 (k+1)=k+1:=wk h0 (by omega)
  have U:wrap .i64 (k+1+1)=k+2:=by rw[wk (by omega) (by omega)];omega
  simp only[dlt h,Qhg,Qb acc i h,aMd,List.set_set,QaN acc i _ _ h,getD_at acc i _ h,aLB,J,U,wsucc h (by omega)]
  rfl
def cL (x:TL):Nat:=cntL cS x.1+cntL cG x.2
noncomputable def mkLd (k:Int) (x:TL):TL:=(mkL cS mkS k x.1,mkL cG mkG (k+(cntL cS x.1:Int)) x.2)
theorem QrY (x:TL):cL x=x.1.length+2 * x.2.length:=by unfold cL cS cG;rw[QfL,QfL];omega
def cI1:Int->Nat:=fun _=>1
def mkI (k:Int) (_:Int):Int:=k
def cM3:TMb->Nat:=fun _=>3
def mkM (k:Int) (_:TMb):TMb:=(k,k+1,k+2)
def cC7 (c:TCoin):Nat:=cntL cI1 c.2.1.2.1+7
def mkC7 (k:Int) (c:TCoin):TCoin:=((k,k+1),((k+2,(mkL cI1 mkI (k+3) c.2.1.2.1,(k+3+(cntL cI1 c.2.1.2.1:Int),k+4+(cntL cI1 c.2.1.2.1:Int)))),(k+5+(cntL cI1 c.2.1.2.1:Int),decide (Int.tmod (k+6+(cntL cI1 c.2.1.2.1:Int)) 3=0))))
theorem QgP (x:List Int) (U:x.length<BIG) (k:Int) (h0:0<=k) (hb:k+(cntL cI1 x:Int)<(BIG:Int)):Qaa x k=some (k+(cntL cI1 x:Int),mkL cI1 mkI k x):=by
 unfold Qaa;rw[Qdk cI1 mkI x k h0 hb _ (fun acc i k h I hm h0 hk=>?_) (fun acc k I=>by simp only[I,dge,aLC])]
 ·rfl
 ·simp only[cI1] at hk
  have J:wrap .i64 (k+1)=k+1:=wk h0 (by omega)
  simp only[dlt h,Qhg,Qb acc i h,aMd,List.set_set,QaN acc i _ _ h,getD_at acc i _ h,aLB,J,wsucc h (by omega)]
  rfl
theorem QgO (x:List Int) (U:x.length<BIG) (k:Int) (h0:0<=k) (hb:k+(cntL cI1 x:Int)<(BIG:Int)):J8 (mkL cI1 mkI k x) k=some (k+(cntL cI1 x:Int)):=by
 unfold J8;refine Qdj cI1 mkI x k h0 hb _ (fun i k h J h0 hk I=>?_) (fun k=>by simp only[Y7,dge,aLC])
 simp only[cI1] at hk;have w1:wrap .i64 (k+1)=k+1:=wk h0 (by omega)
 simp only[Y7,dlt h,Qb _ i J,aMd,getD_at _ i _ J,I,mkI,aLB,w1,aMc,aMa,aLC,wsucc h U];rfl
theorem Qdi (x:List TMb) (hl:x.length<BIG) (k:Int) (h0:0<=k) (hb:k+(cntL cM3 x:Int)<(BIG:Int)):JI x k=some (k+(cntL cM3 x:Int),mkL cM3 mkM k x):=by
 unfold JI;rw[Qdk cM3 mkM x k h0 hb _ (fun acc i k h I hm h0 hk=>?_) (fun acc k I=>by simp only[I,dge,aLC])]
 ·rfl
 ·simp only[cM3] at hk
  have J:wrap .i64 (k+1)=k+1:=wk h0 (by omega)
  have U:wrap .i64 (k+1+1)=k+2:=by rw[wk (by omega) (by omega)];omega
  have w3:wrap .i64 (k+2+1)=k+3:=by rw[wk (by omega) (by omega)];omega
  simp only[dlt h,Qhg,Qb acc i h,aMd,List.set_set,QaN acc i _ _ h,getD_at acc i _ h,aLB,J,U,w3,wsucc h (by omega)]
  rfl
theorem QhB (x:List TCoin) (hl:x.length<BIG) (I:∀c,c ∈ x->c.2.1.2.1.length<BIG) (k:Int) (h0:0<=k) (hb:k+(cntL cC7 x:Int)<(BIG:Int)):QaG x k=some (k+(cntL cC7 x:Int),mkL cC7 mkC7 k x):=by
 unfold QaG;rw[Qdk cC7 mkC7 x k h0 hb _ (fun acc i k h U hm h0 hk=>?_) (fun acc k U=>by simp only[U,dge,aLC])]
 ·rfl
 ·have J:=I _ hm
  simp only[cC7] at hk;have w1:wrap .i64 (k+1)=k+1:=wk h0 (by omega)
  have w2:wrap .i64 (k+1+1)=k+2:=by rw[wk (by omega) (by omega)];omega
  have w3:wrap .i64 (k+2+1)=k+3:=by rw[wk (by omega) (by omega)];omega
  have hm:=QgP acc[i].2.1.2.1 J (k+3) (by omega) (by omega)
  simp only[dlt h,Qhg,Qb acc i h,aMd,List.set_set,QaN acc i _ _ h,getD_at acc i _ h,aLB,w1,w2,w3,wsucc h (by omega),hm,aLc]
  generalize hn:(cntL cI1 acc[i].2.1.2.1:Int)=n at *;have hn0:0<=n:=by omega
  have v1:wrap .i64 (k+3+n+1)=k+4+n:=by rw[wk (by omega) (by omega)];omega
  have v2:wrap .i64 (k+4+n+1)=k+5+n:=by rw[wk (by omega) (by omega)];omega
  have v3:wrap .i64 (k+5+n+1)=k+6+n:=by rw[wk (by omega) (by omega)];omega
  have v4:wrap .i64 (k+6+n+1)=k+7+n:=by rw[wk (by omega) (by omega)];omega
  simp only[v1,v2,v3,v4];simp only[mkC7,hn,cC7];congr 4;rw[Int.natCast_add,hn];omega
theorem cntC (l:List TCoin):cntL cC7 l<=7 * Jr l:=by
 unfold Jr;induction l with
 | nil=>simp[cntL]
 | cons a l I=>
  have:cntL cI1 a.2.1.2.1=a.2.1.2.1.length:=by unfold cI1;rw[QfL];omega
  rw[JF,aMJ,List.sum_cons,aLh];have h2:cC7 a=QbN a+7:=by unfold cC7 QbN;omega
  omega
end GL
end Go.Dx
set_option maxHeartbeats 2000000
namespace Go.Dx
namespace GL
open IntKind Sum
end GL
end Go.Dx
set_option maxHeartbeats 2000000
namespace Go.Dx
namespace GL
open IntKind Sum
theorem QvI {α:Type} (l:List α) (h:l.length<1000000):decide (List.length ([]:List α)+List.length l<=LIM)=true:=by
 simp only[aLj,aLF];unfold LIM;omega
theorem Y.of {α:Type} {o:Option α} {a:α} {Q:α->Prop} (h:o=Option.some a) (I:Q a):Y o Q:=⟨a,h,I⟩
theorem QoZ (r:TRu) (h:r.1.length<=10):J2 r=some r:=by
 unfold J2;rw[QvI _ (by omega)];rfl
theorem Qlh (l:List TCoin) (I:l.length<BIG) (tx:Int):Qes l tx=some (l.any fun x=>decide (x.1.1=tx)):=by
 unfold Qes;refine Qhk l _ _ (fun i h=>?_) (by simp only[dge,aLC])
 simp only[dlt h,Qb l i h,Qa l i _ h,aLB,wsucc h I];cases decide (l[i].1.1=tx)<;>rfl
structure kLd (l:TL):Prop where
 a:l.1.length<=61
 b:l.2.length<=121
theorem kLd.nil:kLd (([],[]):TL):=⟨by simp,by simp⟩
abbrev TBk:=Int×Int×Int×List Int
structure kX (x:TCoin):Prop where
 k:x.2.1.2.1.length<=10
 t:0<=x.1.1/\x.1.1<=100
 a:0<=x.1.2/\x.1.2<=100
structure kXs (l:List TCoin):Prop where
 n:l.length<=41
 x:∀x,x ∈ l->kX x
theorem kXs.nil:kXs []:=⟨by simp,fun x I=>nomatch I⟩
theorem Qrr {l:List TMb} (hm:Qab l/\l.length<=8) (t:TX) (id:Int):Qab (Qco l t id).1/\(Qco l t id).1.length<=8:=by
 have ho:Qab (mOff l t):=QlJ hm.1 _
 have hol:=Qm3 l t
 have nil:Qab []/\([]:List TMb).length<=8:=⟨List.Pairwise.nil,by simp⟩
 unfold Qco;split
 ·exact nil
 ·split
  ·unfold Qjg
   split
   ·exact nil
   ·rename_i J
    split
    ·exact nil
    ·obtain⟨k,k1,k2,k3⟩:=Qoe ho t.2.1
     obtain⟨w1,w2⟩:=Qio k1 k2 k3;have U:∀y,y ∈ mOff l t->y.1 ≠ t.2.1:=fun y hy he=>by
      refine J (List.any_eq_true.2 ⟨y,hy,?_⟩);rw[aLE he];rfl
     show Qab ((mOff l t).takeWhile _++[_]++(mOff l t).dropWhile _)/\((mOff l t).takeWhile _++[_]++(mOff l t).dropWhile _).length<=8
     rw[w1,w2];refine⟨?_,?_⟩
     ·unfold Qab
      rw[List.pairwise_append,List.pairwise_append];refine⟨⟨List.Pairwise.sublist (List.take_sublist k _) ho,List.pairwise_singleton _ _,fun a I b hb=>?_⟩,List.Pairwise.sublist (List.drop_sublist k _) ho,fun a I b hb=>?_⟩
      ·rw[aLs.1 hb]
       obtain⟨i,hi,rfl⟩:=aMe.1 I;rw[aLn] at hi;rw[aMw];exact k2 i (by omega) (by omega)
      ·obtain⟨i,hi,rfl⟩:=aMe.1 hb
       rw[aLz] at hi;rw[List.getElem_drop];have h1:=k3 (k+i) (by omega) (by omega)
       have h2:=U _ (aLl (show k+i<(mOff l t).length by omega))
       rcases aMi.1 I with I | I
       ·obtain⟨j,hj,rfl⟩:=aMe.1 I
        rw[aLn] at hj;rw[aMw];have:=k2 j (by omega) (by omega)
        omega
       ·rw[aLs.1 I]
        show t.2.1<_
        omega
     ·simp only[aLi,aLh,aLj,aLn,aLz]
      omega
  ·exact⟨ho,by show (mOff l t).length<=8;have:=hm.2;omega⟩
structure kSt (x:TState):Prop where
 t:0<=x.1/\x.1<=100
 h:0<=x.2.1/\x.2.1<=100
 c:kXs x.2.2.1
 m:Qab x.2.2.2/\x.2.2.2.length<=8
theorem kSt.bS {x:TState} (h:kSt x):bS x:=⟨by have:=h.c.n;unfold BIG;omega,fun y I=>by have:=(h.c.x y I).k;unfold BIG;omega,by have:=h.m.2;unfold BIG;omega⟩
end GL
end Go.Dx
set_option maxHeartbeats 2000000
namespace Go.Dx
namespace GL
open IntKind Sum
end GL
end Go.Dx
set_option maxHeartbeats 2000000
namespace Go.Dx
namespace GL
open IntKind Sum
def mTx7 (l:List Int) (i:Nat) (x:Int):Int:=if mIn x 1 60 then (if x ∈ l.take i then 7 else 0) else 3
def mB7 (b:TBk):Int:=if mIn b.1 0 60&&(mIn b.2.1 1 40&&mIn b.2.2.1 1 999) then (if decide (b.1=0)=decide (b.2.1=1) then (if (6:Int)<(b.2.2.2.length:Int) then 2 else code (mTx7 b.2.2.2) b.2.2.2) else 1) else 3
theorem QkW {l:List Int} (I:l ≠ []) (h:∀k,k ∈ l->0<=k):cuts 43 (Zx l [43])=l.map Lib.itoa:=by
 unfold Zx;refine Qai 43 _ (by simpa using I) fun w hw=>?_
 obtain⟨k,hk,rfl⟩:=List.mem_map.1 hw;exact Ye (h k hk) 43 (by decide)
theorem QgR (b:TBk) (hb:b.2.2.2.length<BIG):QbB b=some (mB7 b):=by
 unfold QbB mB7;simp only[Zp,QdB,aLc,beqB];cases mIn b.1 0 60<;>cases mIn b.2.1 1 40<;>cases mIn b.2.2.1 1 999<;>try rfl
 simp only[aMa,aLC,aLc,aMz,if_true];by_cases h2:decide (b.1=0)=decide (b.2.1=1)
 ·rw[aLE h2,if_pos h2]
  simp only[aMa,aLC];by_cases h6:(6:Int)<(b.2.2.2.length:Int)
  ·rw[aLE h6,if_pos h6];rfl
  ·rw[aLD h6,if_neg h6,aLC]
   rw[Jy b.2.2.2 (mTx7 b.2.2.2) _ (fun i h=>?_) (by simp only[dge,aLC])]
   ·split
    ·rename_i h;rw[h]
    ·rfl
   ·simp only[dlt h,Qb _ i h,Qa _ i _ h,ZI _ i (Nat.le_of_lt h),Jq,aLB,QcS,aLc,wsucc h hb,Qgh _ (YZ hb i)]
    unfold mTx7;cases mIn b.2.2.2[i] 1 60<;>by_cases hm:b.2.2.2[i] ∈ b.2.2.2.take i<;>simp[hm]
 ·rw[aLD h2,if_neg h2];rfl
structure okB7 (b:TBk):Prop where
 p:0<=b.1/\b.1<=60
 h:1<=b.2.1/\b.2.1<=40
 m:1<=b.2.2.1/\b.2.2.1<=999
 n:b.2.2.2.length<=6
 t:∀x,x ∈ b.2.2.2->1<=x/\x<=60
theorem Qfr {b:TBk} (h:mB7 b=0):okB7 b:=by
 unfold mB7 at h;cases h1:mIn b.1 0 60&&(mIn b.2.1 1 40&&mIn b.2.2.1 1 999) with
 | false=>rw[h1] at h;simp at h
 | true=>
  rw[h1,if_pos rfl] at h;rw[aLg,aLg,Qx,Qx,Qx] at h1;by_cases h2:decide (b.1=0)=decide (b.2.1=1)
  ·rw[if_pos h2] at h
   by_cases h6:(6:Int)<(b.2.2.2.length:Int)
   ·rw[if_pos h6] at h;cases h
   ·rw[if_neg h6] at h
    refine⟨h1.1,h1.2.1,h1.2.2,by omega,fun x J=>?_⟩
    obtain⟨i,hi,rfl⟩:=aMe.1 J;have I:=YH h i _ (aLf hi)
    unfold mTx7 at I;cases h3:mIn b.2.2.2[i] 1 60 with
    | false=>rw[h3] at I;simp at I
    | true=>exact Qx.1 h3
  ·rw[if_neg h2] at h;cases h
def wBk (b:TBk):List (List UInt8):=[[98,108,111,99,107],Lib.itoa b.1,Lib.itoa b.2.1,Lib.itoa b.2.2.1,if b.2.2.2=[] then [45] else Zx b.2.2.2 [43]]
def YN (b:TBk):List UInt8:=Lib.join (wBk b) [32]
theorem Qv0 (a b c:Int):Zx [a,b,c] [32]=Lib.itoa a++32::(Lib.itoa b++32::Lib.itoa c):=by
 unfold Zx;rw[aMJ,aMJ,aMJ,List.map_nil,ZA _ _ _ (by simp),ZA _ _ _ (by simp),Lib.join_one]
theorem Qhr {b:TBk} (h:okB7 b):Qcu b=some (YN b):=by
 have J:=h.p
 have hh:=h.h
 have hm:=h.m
 have hn:=h.n
 have hk:∀k,k ∈ [b.1,b.2.1,b.2.2.1]->0<=k/\k<=1000000:=fun k hk=>by
  simp only[List.mem_cons,List.not_mem_nil,or_false] at hk;rcases hk with rfl | rfl | rfl<;>omega
 have I:∀k,k ∈ b.2.2.2->0<=k/\k<=1000000:=fun k hk=>by have:=h.t k hk;omega
 have l1:=QcU [b.1,b.2.1,b.2.2.1] [32] hk
 have l2:=QcU b.2.2.2 [43] I
 simp only[aLh,aLj] at l1 l2;unfold Qcu;obtain⟨w,hw⟩:∃w,w=if b.2.2.2=[] then [45] else Zx b.2.2.2 [43]:=⟨_,rfl⟩
 have U:w.length<=1000:=by
  rw[hw];split
  ·simp
  ·omega
 have e:(bif decide ((0:Int)<(b.2.2.2.length:Int)) then (J3 b.2.2.2 [43]).bind fun y6=>some y6 else some [45]:Option (List UInt8))=some w:=by
  rw[hw];by_cases h0:b.2.2.2=[]
  ·rw[h0,if_pos rfl];rfl
  ·have J:0<b.2.2.2.length:=List.length_pos_iff.2 h0
   rw[if_neg h0,aLE (by omega),aLB,QgN _ [43] (by omega) (by simp) I];rfl
 rw[e,aLc,QgN _ [32] (by simp) (by simp) hk,aLc]
 rw[Qm,Qm,Qm]
 ·unfold YN wBk
  rw[<-hw,Qv0,ZA _ _ _ (by simp),ZA _ _ _ (by simp),ZA _ _ _ (by simp),ZA _ _ _ (by simp),Lib.join_one]
  simp
 all_goals ((try simp only[aLo,aLi,aLh,aLj]);unfold LIM;omega)
theorem Qmw {l:List Int} (h:l ≠ []) (hk:∀k,k ∈ l->0<=k):Zx l [43] ≠ [45]:=by
 cases l with
 | nil=>exact absurd rfl h
 | cons a r=>
  intro e;have I:(45:UInt8) ∉ Lib.itoa a:=Ye (hk a aLm) 45 (by decide)
  unfold Zx at e;rw[aMJ] at e;cases r with
  | nil=>rw[List.map_nil,Lib.join_one] at e;rw[e] at I;simp at I
  | cons b r=>
   rw[aMJ,ZA _ _ _ (by simp)] at e
   have J:=congrArg List.length e
   simp only[aLi,aLh,aLj] at J;have h0:Lib.itoa a=[]:=List.length_eq_zero_iff.1 (by omega)
   rw[h0,aLx] at e;injection e with e1 U
   cases e1
theorem Qwx {b:TBk} (h:okB7 b):∀w,w ∈ wBk b->(32:UInt8) ∉ w:=by
 have U:=h.p
 have hh:=h.h
 have hm:=h.m
 intro w hw;unfold wBk at hw;simp only[List.mem_cons,List.not_mem_nil,or_false] at hw;rcases hw with rfl | rfl | rfl | rfl | rfl
 ·decide
 ·exact Ye (by omega) 32 (by decide)
 ·exact Ye (by omega) 32 (by decide)
 ·exact Ye (by omega) 32 (by decide)
 ·split
  ·decide
  ·rename_i h0
   have I:∀ws:List (List UInt8),(∀w,w ∈ ws->(32:UInt8) ∉ w)->(32:UInt8) ∉ Lib.join ws [43]:=by
    intro ws;induction ws with
    | nil=>intro _;simp[Lib.join_nil]
    | cons x ws J=>
     intro h;cases ws with
     | nil=>rw[Lib.join_one];exact h x aLm
     | cons y ws=>
      rw[ZA _ _ _ (by simp),aMi,List.mem_cons,not_or,not_or]
      exact⟨h x aLm,by decide,J fun w hw=>h w (aLp _ hw)⟩
   refine I _ fun w hw=>?_
   obtain⟨k,hk,rfl⟩:=List.mem_map.1 hw;exact Ye (by have:=h.t k hk;omega) 32 (by decide)
theorem Qnh {b:TBk} (h:okB7 b):cuts 32 (YN b)=wBk b:=Qai 32 _ (by unfold wBk;simp) (Qwx h)
theorem Ql9 {n:Int} (h:0<=n/\n<=1000):numS (Lib.itoa n)=n:=Qb8 h.1 (by omega)
theorem Qgs {b:TBk} (h:mB7 b=0) (hl:(YN b).length<=300):YC (YN b)=some (b,true):=by
 have ho:=Qfr h
 have hp:=ho.p
 have hh:=ho.h
 have hm:=ho.m
 have hB:BIG=4611686018427387904:=rfl
 have w:∀i,(List.getD (wBk b) i []).length<=300:=fun i=>by
  have:=YM 32 (YN b) i
  rw[Qnh ho] at this;omega
 unfold YC;rw[Qhd _ 32 (by omega),aLc,Qnh ho]
 have e0:decide ((300:Int)<((YN b).length:Int))=false:=aLD (by omega)
 have w1:List.getD (wBk b) (Int.toNat 1) []=Lib.itoa b.1:=rfl
 have w2:List.getD (wBk b) (Int.toNat 2) []=Lib.itoa b.2.1:=rfl
 have w3:List.getD (wBk b) (Int.toNat 3) []=Lib.itoa b.2.2.1:=rfl
 obtain⟨v,hv⟩:∃v,v=if b.2.2.2=[] then [45] else Zx b.2.2.2 [43]:=⟨_,rfl⟩
 have w4:List.getD (wBk b) (Int.toNat 4) []=v:=by rw[hv];rfl
 have i1:inB 1 (wBk b)=true:=rfl
 have i2:inB 2 (wBk b)=true:=rfl
 have i3:inB 3 (wBk b)=true:=rfl
 have i4:inB 4 (wBk b)=true:=rfl
 have l1:=w 1;have l2:=w 2;have l3:=w 3;have I:=w 4
 have l1:(Lib.itoa b.1).length<=300:=l1
 have l2:(Lib.itoa b.2.1).length<=300:=l2
 have l3:(Lib.itoa b.2.2.1).length<=300:=l3
 have I:v.length<=300:=by rw[<-w4];exact I
 have hlen:((wBk b).length:Int)=5:=rfl
 rw[e0,hlen];simp only[aLC,aMc,aMa,aLc,i1,i2,i3,i4,w1,w2,w3,w4,aLB,Jp _ (show (Lib.itoa b.1).length<=1000000 by omega),Jp _ (show (Lib.itoa b.2.1).length<=1000000 by omega),Jp _ (show (Lib.itoa b.2.2.1).length<=1000000 by omega),Ql9 (show 0<=b.1/\b.1<=1000 by omega),Ql9 (show 0<=b.2.1/\b.2.1<=1000 by omega),Ql9 (show 0<=b.2.2.1/\b.2.2.1<=1000 by omega)]
 have e:(bif !decide (v=[45]) then (Qaq v [43]).bind fun (J:List Int)=>some (b.1,(b.2.1,(b.2.2.1,J))) else some (b.1,(b.2.1,(b.2.2.1,[]))):Option TBk)=some b:=by
  rw[hv];by_cases h0:b.2.2.2=[]
  ·rw[if_pos h0,aLE rfl]
   show some (b.1,(b.2.1,(b.2.2.1,[])))=some b
   rw[<-h0]
  ·have U:=Qmw h0 fun k hk=>by have:=ho.t k hk;omega
   rw[if_neg h0,aLD U,aMB,aLB,QjY _ 43 (by rw[hv,if_neg h0] at I;omega),QkW h0 (fun k hk=>by have:=ho.t k hk;omega),aLc,List.map_map]
   have:(b.2.2.2.map (numS ∘ Lib.itoa))=b.2.2.2:=by
    have e5:b.2.2.2.map (numS ∘ Lib.itoa)=b.2.2.2.map id:=List.map_congr_left fun k hk=>Ql9 (n:=k) (by have:=ho.t k hk;omega)
    rw[e5,List.map_id]
   rw[this]
 rw[e,aLc,QgR b (by have:=ho.n;omega),aLc,h]
 simp only[aMc,aMa,aLC];rw[Qhr ho,aLc,aLE rfl];rfl
theorem QuL {α:Type} {c:Nat->α->Int} {l:List α} (h:∀i a,l[i]? = some a->c i a=0):code c l=0:=by
 unfold code;rw[(Qd4 l 0).2 (fun j a I=>by rw[aMf,if_pos (h j a I)])]
theorem QqN (l:List (List UInt8)) (I:l.length<=LIM):Z7 l=some l:=by
 unfold Z7;rw[JB I,aLB];cases l with
 | nil=>exact QdU _
 | cons a l=>rfl
theorem QqC (l:List (Int×Int)) (I:l.length<=LIM):ZG l=some l:=by
 unfold ZG;rw[JB I,aLB];cases l with
 | nil=>exact QdU _
 | cons a l=>rfl
theorem Qkd {l:TL} (h:mLF l=0):code (mTx l.1) l.1=0/\code (mSg (l.1.length:Int) l.2) l.2=0/\l.1.length<=60/\l.2.length<=120:=by
 unfold mLF at h;split at h
 ·cases h
 ·rename_i h1
  simp only[aMC,aLF,not_or] at h1;by_cases h2:code (mTx l.1) l.1=0
  ·rw[if_pos h2] at h;exact⟨h2,h,by omega,by omega⟩
  ·rw[if_neg h2] at h;exact absurd h h2
def insC (l:List TCoin) (x:TCoin):List TCoin:=l.takeWhile (fun y=>Qv y.1 x.1)++[x]++l.dropWhile (fun y=>Qv y.1 x.1)
theorem Qig (l:List TCoin) (x:TCoin):(insC l x).Perm (l++[x]):=by
 unfold insC;have h:l=l.takeWhile (fun y=>Qv y.1 x.1)++l.dropWhile (fun y=>Qv y.1 x.1):=(List.takeWhile_append_dropWhile).symm
 conv=>rhs;rw[h]
 rw[aMm,aMm];exact List.Perm.append_left _ List.perm_append_comm
theorem Qtu {α:Type} (p:α->Bool):∀(l:List α) (a:α),a ∈ l.takeWhile p->p a=true
 | [],a,h=>by cases h
 | x::l,a,h=>by
  rw[List.takeWhile_cons] at h;cases I:p x with
  | false=>rw[I] at h;cases h
  | true=>
   rw[I,if_pos rfl] at h;rcases List.mem_cons.1 h with rfl | h
   ·exact I
   ·exact Qtu p l a h
theorem Qrn {α:Type} (p:α->Bool) (c:α) (r:List α):∀(l:List α),l.dropWhile p=c::r->p c=false
 | [],h=>by cases h
 | x::l,h=>by
  rw[List.dropWhile_cons] at h;cases I:p x with
  | true=>rw[I,if_pos rfl] at h;exact Qrn p c r l h
  | false=>
   rw[I,if_neg (by simp)] at h
   rw[<-(List.cons.inj h).1];exact I
theorem Qn7 {l:List TCoin} (h:Rise l) {x:TCoin} (hx:∀y,y ∈ l->y.1 ≠ x.1):Rise (insC l x):=by
 unfold insC Rise;have hs:l=l.takeWhile (fun y=>Qv y.1 x.1)++l.dropWhile (fun y=>Qv y.1 x.1):=(List.takeWhile_append_dropWhile).symm
 have ht:∀a,a ∈ l.takeWhile (fun y=>Qv y.1 x.1)->Qv a.1 x.1=true:=fun a I=>Qtu _ l a I
 have hr:(l.takeWhile (fun y=>Qv y.1 x.1)++l.dropWhile (fun y=>Qv y.1 x.1)).Pairwise fun a b=>Qv a.1 b.1=true:=by rw[<-hs];exact h
 rw[List.pairwise_append] at hr;obtain⟨r1,U,r3⟩:=hr;have hd:∀b,b ∈ l.dropWhile (fun y=>Qv y.1 x.1)->Qv x.1 b.1=true:=by
  intro b hb;have J:∀b,b ∈ l.dropWhile (fun y=>Qv y.1 x.1)->Qv b.1 x.1=false:=by
   cases hq:l.dropWhile (fun y=>Qv y.1 x.1) with
   | nil=>intro b hb;cases hb
   | cons c r=>
    have hc:Qv c.1 x.1=false:=Qrn (fun y:TCoin=>Qv y.1 x.1) c r l hq
    intro b hb;rw[hq] at U;rcases List.mem_cons.1 hb with rfl | hb
    ·exact hc
    ·have h1:=(List.pairwise_cons.1 U).1 b hb
     cases h2:Qv b.1 x.1 with
     | false=>rfl
     | true=>rw[QcT h1 h2] at hc;cases hc
  cases h1:Qv x.1 b.1 with
  | true=>rfl
  | false=>exact absurd (Qj8 (J b hb) h1) (hx b (by rw[hs];exact List.mem_append_right _ hb))
 rw[List.pairwise_append,List.pairwise_append];refine⟨⟨r1,List.pairwise_singleton _ _,fun a I b hb=>?_⟩,U,fun a I b hb=>?_⟩
 ·rw[aLs.1 hb];exact ht a I
 ·rcases aMi.1 I with I | I
  ·exact r3 a I b hb
  ·rw[aLs.1 I];exact hd b hb
def ZF (id h:Int) (m:Bool):Nat->List TOut->List TCoin
 | _,[]=>[]
 | k,o::r=>((id,(k:Int)),(o,(h,m)))::ZF id h m (k+1) r
theorem QaD (id h:Int) (m:Bool):∀(os:List TOut) (k:Nat),(ZF id h m k os).length=os.length
 | [],_=>rfl
 | o::r,k=>by unfold ZF;rw[aLh,QaD id h m r,aLh]
theorem QhF {id h:Int} {m:Bool} {x:TCoin}:∀{os:List TOut} {k:Nat},x ∈ ZF id h m k os->x.1.1=id/\(k:Int)<=x.1.2/\x.1.2<(k:Int)+os.length/\x.2.1 ∈ os/\x.2.2.1=h
 | [],_,I=>by cases I
 | o::r,k,I=>by
  unfold ZF at I;rcases List.mem_cons.1 I with rfl | I
  ·refine⟨rfl,Int.le_refl _,?_,aLm,rfl⟩
   show (k:Int)<(k:Int)+((o::r).length:Int)
   rw[aLh];omega
  ·obtain⟨h1,h2,h3,h4,h5⟩:=QhF I
   rw[aLh];exact⟨h1,by omega,by omega,aLp _ h4,h5⟩
def YT (l:List TCoin) (xs:List TCoin):List TCoin:=xs.foldl insC l
theorem Qbs:∀(xs l:List TCoin),(YT l xs).Perm (l++xs)
 | [],l=>by unfold YT;simp
 | x::r,l=>by
  have h1:=Qbs r (insC l x)
  show (YT (insC l x) r).Perm (l++x::r)
  refine h1.trans ?_;have h2:=(Qig l x).append_right r
  rw[aMm] at h2;exact h2
theorem Qgn {id h:Int} {m:Bool}:∀(os:List TOut) (k:Nat) (l:List TCoin),Rise l->(∀y,y ∈ l->y.1.1=id->y.1.2<(k:Int))->Rise (YT l (ZF id h m k os))
 | [],_,l,I,_=>I
 | o::r,k,l,I,U=>by
  show Rise (YT (insC l _) (ZF id h m (k+1) r))
  refine Qgn r (k+1) _ (Qn7 I fun y J he=>?_) (fun y J h1=>?_)
  ·have:=U y J (by rw[he])
   rw[he] at this;exact absurd this (by simp)
  ·have:=(Qig l ((id,(k:Int)),(o,(h,m)))).mem_iff.1 J
   rcases aMi.1 this with h2 | h2
   ·have:=U y h2 h1;omega
   ·rw[aLs.1 h2];show (k:Int)<((k+1:Nat):Int);omega
theorem Qir {α:Type} {l:List α} {p:α->Bool} {k:Nat} (hk:k<l.length) (h0:p l[k]=false) (h1:∀i (h:i<l.length),i ≠ k->p l[i]=true):l.filter p=l.take k++l.drop (k+1):=by
 conv=>lhs;rw[<-List.take_append_drop k l]
 rw[aLr hk,List.filter_append,List.filter_cons,h0];rw[aMG.2 (fun a I=>?_),if_neg (by simp),aMG.2 (fun a I=>?_)]
 ·obtain⟨i,hi,rfl⟩:=aMe.1 I
  rw[aLz] at hi;rw[List.getElem_drop];exact h1 _ (by omega) (by omega)
 ·obtain⟨i,hi,rfl⟩:=aMe.1 I
  rw[aLn] at hi;rw[aMw];exact h1 _ (by omega) (by omega)
def offC (c:List TCoin) (rs:List (Int×Int)):List TCoin:=c.filter fun x=>!decide (x.1 ∈ rs)
theorem Qq0 {c:List TCoin} (hr:Rise c) (hl:c.length<=1000) (hk:∀x,x ∈ c->x.2.1.2.1.length<=1000000) {rs:List (Int×Int)} (hn:rs.Nodup) (hrl:rs.length<=1000) (hall:∀r,r ∈ rs->∃x,x ∈ c/\x.1=r):Qce c rs=some (offC c rs,0):=by
 have hB:BIG=4611686018427387904:=rfl
 unfold Qce;rw[Yi c (by omega) hk,aLc]
 generalize hf:(fun (s17:List TCoin×Int)=>_)=f
 have key:∀(d i:Nat),i+d=rs.length->Qc f (offC c (rs.take i),(i:Int))=some (inl (offC c rs)):=by
  intro d;induction d with
  | zero=>
   intro i hi;obtain rfl:i=rs.length:=by omega
   rw[List.take_length];exact Qe (by rw[<-hf];simp only[dge,aLC])
  | succ d ih=>
   intro i hi;have I:i<rs.length:=by omega
   have U:Rise (offC c (rs.take i)):=Qbu hr _
   have hlo:(offC c (rs.take i)).length<=c.length:=aME _ _
   obtain⟨x,hx,hxr⟩:=hall _ (aLl I);have hnot:rs[i] ∉ rs.take i:=fun hm=>by
    rw[List.mem_take_iff_getElem] at hm;obtain⟨j,hj,he⟩:=hm;have:=List.nodup_iff_pairwise_ne.1 hn
    rw[List.pairwise_iff_getElem] at this;exact this j i (by omega) I (by omega) he
   have hxo:x ∈ offC c (rs.take i):=aMv.2 ⟨hx,by rw[hxr,aLD hnot];rfl⟩
   obtain⟨k,k1,k2⟩:=QgX U (by omega) rs[i]
   rcases k2 with ⟨hk1,J⟩ | hno
   ·have hstep:f (offC c (rs.take i),(i:Int))=some (.inl (offC c (rs.take (i+1)),((i+1:Nat):Int))):=by
     rw[<-hf];have hdel:QW (offC c (rs.take i)) (k:Int) ((k:Int)+1)=some (offC c (rs.take (i+1))):=by
      unfold QW delS;rw[aLE ⟨by omega,by omega,by omega,by omega⟩,aLB,aMd,show ((k:Int)+1).toNat=k+1 by omega]
      congr 1;rw[<-Qir (p:=fun x=>!decide (x.1=rs[i])) hk1 (by rw[aLE J];rfl) (fun j hj hjk=>by
       rw[aLD (fun he=>?_)];rfl
       have:=QlQ U (aLl hj) (aLl hk1) (by rw[he,J])
       rcases aMg j k with h1 | h1
       ·have h2:=QbV U h1 hk1
        rw[he,J,ZL] at h2;cases h2
       ·have h2:=QbV U (show k<j by omega) hj
        rw[he,J,ZL] at h2;cases h2)]
      unfold offC;rw[List.filter_filter];congr 1
      funext x
      rw[aMl I];simp only[aMi,aLs];by_cases h1:x.1 ∈ rs.take i<;>by_cases h2:x.1=rs[i]<;>simp[h1,h2]
     have hw:wrap .i64 ((k:Int)+1)=(k:Int)+1:=Qy (by omega) (by omega)
     simp only[dlt I,Qb _ i I,Qa _ i _ I,aLB,k1,aLc,aLE (show ∃h:k<(offC c (rs.take i)).length,((offC c (rs.take i))[k]'h).1=rs[i] from ⟨hk1,J⟩),aMa,aLC,hw,hdel,wsucc I (by omega)]
    rw[Qo hstep];exact ih (i+1) (by omega)
   ·exact absurd hxr (hno x hxo)
 have:=key rs.length 0 (by omega)
 have e0:offC c (rs.take 0)=c:=by unfold offC;simp
 rw[e0] at this;show ((Qc f (c,0)).bind _)=_
 rw[show ((0:Nat):Int)=0 from rfl] at this
 rw[this];rfl
theorem QgD {X:Type} (n:Nat) (f:Int->Option (Int⊕X)) (x:X) (I:∀i:Nat,i<n->f (i:Int)=some (.inl ((i+1:Nat):Int))) (he:f (n:Int)=some (.inr x)):Qc f 0=some x:=by
 have key:∀(d i:Nat),i+d=n->Qc f (i:Int)=some x:=by
  intro d;induction d with
  | zero=>
   intro i hi;obtain rfl:i=n:=by omega
   exact Qe he
  | succ d J=>intro i hi;rw[Qo (I i (by omega))];exact J (i+1) (by omega)
 exact key n 0 (by omega)
theorem Qry (l:List TCoin) (I:l.length<BIG) (tx:Int):Qdt l tx=some (l.any fun x=>decide (x.1.1=tx)):=by
 unfold Qdt QH QM;rw[Yx l (fun x=>decide (x.1.1=tx)) _ (fun i h=>?_) (by simp only[dge,aLC]),aLc,Zy]
 ·rfl
 ·simp only[dlt h,Qb l i h,Qa l i _ h,aLB,wsucc h I]
  unfold QfM;rw[aLc,aLc];cases decide (l[i].1.1=tx)<;>rfl
def JR (l:List TCoin) (id:Int) (outs:List TOut) (h:Int) (m:Bool):List TCoin×Int:=if (l.any fun x=>decide (x.1.1=id))=true then ([],7) else if 40<l.length+outs.length then ([],2) else (YT l (ZF id h m 0 outs),0)
theorem QmH {l:List TCoin} (hr:Rise l) (hl:l.length<=1000) (hk:∀x,x ∈ l->x.2.1.2.1.length<=1000000) {id:Int} (hid:mIn id 1 60=true) {outs:List TOut} (hn:outs.length<=4) (ho:∀o,o ∈ outs->mOut o=0/\o.2.1.length<=1000000) {h:Int} (hh:mIn h 0 999=true) (m:Bool):JW l id outs h m=some (JR l id outs h m):=by
 have hB:BIG=4611686018427387904:=rfl
 unfold JW JR;rw[QcS,aLc,hid,Qa3,aLc,hh];simp only[aMa,aLC,aLc];rw[aLD (by omega),aLC]
 rw[QgD outs.length _ (inl ()) (fun i hi=>by
   have hoi:=ho _ (aLl hi)
   simp only[dlt hi,Qb _ i hi,Qa _ i _ hi,aLB,Qh7 _ (show (outs[i]).2.1.length<BIG by omega),aLc,hoi.1,aMc,aMa,aLC,wsucc hi (by omega)]) (by simp only[dge,aLC]),aLc,Sum.elim_inl,Qry _ (by omega),aLc]
 cases hany:l.any fun x=>decide (x.1.1=id) with
 | true=>rfl
 | false=>
  rw[aLC,if_neg (by simp),Qy (by omega) (by omega)]
  by_cases h40:40<l.length+outs.length
  ·rw[aLE (by omega),if_pos h40];rfl
  ·rw[aLD (by omega),if_neg h40,aLC,Yi l (by omega) hk,aLc]
   generalize hf:(fun (s37:List TCoin×Int)=>_)=f
   have key:∀(d i:Nat) (acc:List TCoin),i+d=outs.length->acc.length<=1000+i->Qc f (acc,(i:Int))=some (acc++ZF id h m i (outs.drop i)):=by
    intro d;induction d with
    | zero=>
     intro i acc hi _;obtain rfl:i=outs.length:=by omega
     rw[Qe (show f (acc,(outs.length:Int))=some (.inr acc) by rw[<-hf];simp only[dge,aLC]),aMr]
     unfold ZF;rw[List.append_nil]
    | succ d ih=>
     intro i acc hi ha;have I:i<outs.length:=by omega
     have hstep:f (acc,(i:Int))=some (.inl (acc++[((id,(i:Int)),(outs[i],(h,m)))],((i+1:Nat):Int))):=by
      rw[<-hf];have hoi:=ho _ (aLl I)
      simp only[dlt I,Qb _ i I,Qa _ i _ I,aLB,QjK _ hoi.2,aLc,wsucc I (by omega)]
      rw[Qm (by simp only[aLh,aLj];unfold LIM;omega)];rfl
     rw[Qo hstep,ih (i+1) _ (by omega) (by simp;omega),aLr I]
     show _=some (acc++(_::ZF id h m (i+1) (outs.drop (i+1))))
     rw[aMm];rfl
   have:=key outs.length 0 l (by omega) (by omega)
   rw[aMt] at this;show ((Qc f (l,0)).bind _)=_
   rw[show ((0:Nat):Int)=0 from rfl] at this
   rw[this,aLc];have J:=Qbs (ZF id h m 0 outs) l
   have U:Rise (YT l (ZF id h m 0 outs)):=Qgn outs 0 l hr fun y hy h1=>by
    rw[aMI] at hany;exact absurd (aLE h1) (hany y hy)
   rw[QjE U (fun x hx=>J.mem_iff.2 hx) J U (by rw[aLi,QaD];omega),aLc]
theorem Qkl {c:List TCoin} (hc:Rise c) {rs:List (Int×Int)} (hn:rs.Nodup) (h:(c.filter fun x=>decide (x.1 ∈ rs)).length=rs.length):∀r,r ∈ rs->∃x,x ∈ c/\x.1=r:=by
 have hp:=(Qrw hc rs hn).length_eq
 rw[h] at hp;have key:∀(l:List (Int×Int)),l.length=(l.filterMap (atC c)).length->∀r,r ∈ l->∃x,x ∈ c/\x.1=r:=by
  intro l;induction l with
  | nil=>intro _ r I;cases I
  | cons a l ih=>
   intro J r I;rw[List.filterMap_cons] at J;have hle:(l.filterMap (atC c)).length<=l.length:=List.length_filterMap_le _ _
   cases U:atC c a with
   | none=>rw[U] at J;simp only[aLh] at J;omega
   | some x=>
    rw[U] at J;simp only[aLh] at J;rcases List.mem_cons.1 I with rfl | I
    ·exact⟨x,Qf2 U⟩
    ·exact ih (by omega) r I
 exact key rs hp
def ZT (c:List TCoin) (t:TX) (id h:Int):List TCoin×Int:=if (c.any fun x=>decide (x.1.1=id))=true then ([],7) else JR (offC c t.2.2.1) id t.2.2.2 h false
theorem QkA {t:TX} (I:okT t):∀o,o ∈ t.2.2.2->mOut o=0/\o.2.1.length<=1000000:=fun o ho=>by
 obtain⟨h1,h2⟩:=I.out o ho;refine⟨?_,by have:=(Yt h2).len;omega⟩
 unfold mOut;rw[Qx.2 h1,if_pos rfl];exact h2
theorem Qs9 {c:List TCoin} (J:Q9 c=0) {t:TX} (I:okT t) (hs:(mSp c t).length=t.2.2.1.length) {id:Int} (hid:mIn id 1 60=true) {h:Int} (hh:mIn h 0 999=true):QdR c t id h=some (ZT c t id h):=by
 have hcl:=(Zf J).1
 have U:=Ja J
 have hol:(offC c t.2.2.1).length<=c.length:=aME _ _
 unfold QdR ZT;rw[Qf4 J t I,if_pos hs,aLc];simp only[aMc,aMa,aLC];rw[Qry _ (by unfold BIG;omega),aLc]
 cases hany:c.any fun x=>decide (x.1.1=id) with
 | true=>rfl
 | false=>
  rw[aLC,if_neg (by simp),Qq0 U (by omega) (Zz J) I.nd (by have:=I.li;omega) (Qkl U I.nd hs),aLc]
  have hp:=QmH (l:=offC c t.2.2.1) (Qbu U _) (by omega) (fun x hx=>Zz J x (aMv.1 hx).1) hid I.lo.2 (QkA I) hh false
  show ((JW (offC c t.2.2.1) id t.2.2.2 h false).bind _)=_
  rw[hp];rfl
theorem Qn4 {l:List TCoin} (hn:l.length<=40) (I:Rise l) (J:∀x,x ∈ l->mRef x.1=true/\mIn x.2.2.1 0 999=true/\mOut x.2.1=0):Q9 l=0:=by
 unfold Q9;rw[if_neg (by omega)]
 refine QuL fun i a U=>?_
 obtain⟨hi,rfl⟩:=aLy.1 U;obtain⟨h1,h2,h3⟩:=J _ (aLl hi);unfold QhV;rw[h1,h2,Bool.and_self,if_pos rfl,if_pos h3];rcases aMA i with h0 | h0
 ·subst h0;rfl
 ·have:=QbV I (show i - 1<i by omega) hi
  rw[aLk,aLf (by omega:i - 1<l.length),Option.getD_some,this]
  simp
theorem QmA {c:List TCoin} (h:Q9 c=0):∀x,x ∈ c->mRef x.1=true/\mIn x.2.2.1 0 999=true/\mOut x.2.1=0:=fun x I=>by
 have I:=(Zf h).2 x I
 refine⟨Qaw.2 ⟨I.tx,I.at_⟩,Qx.2 I.height,?_⟩;unfold mOut;rw[Qx.2 I.val,if_pos rfl];exact I.rule
theorem QnB {l:TL} {c:List TCoin} {t:TX} {I:Int} (h:(mChk l c t I).2=0):(mSp c t).length=t.2.2.1.length:=by
 unfold mChk Qja at h;split at h
 ·split at h
  ·cases h
  ·split at h
   ·assumption
   ·cases h
 ·cases h
end GL
end Go.Dx
set_option maxHeartbeats 2000000
namespace Go.Dx
namespace GL
open IntKind Sum
theorem QtY {α:Type} (v:α->Int) (M:Int) (I:0<=M/\M<=100000000):∀(l:List α) (a:Int) (n:Nat),(∀x,x ∈ l->0<=v x/\v x<=M)->0<=a->a<=M * n->n+l.length<=1000->0<=l.foldl (fun n x=>wrap .i64 (n+v x)) a/\l.foldl (fun n x=>wrap .i64 (n+v x)) a<=M * ((n+l.length:Nat):Int)
 | [],a,n,_,h0,h1,_=>⟨h0,by simpa using h1⟩
 | x::r,a,n,hv,h0,h1,J=>by
  have hx:=hv x aLm
  simp only[aLh] at J;have hb:M * (n:Int)<=100000000 * 1000:=by
   have h2:(n:Int)<=1000:=by omega
   calc M * (n:Int)<=100000000 * (n:Int):=Int.mul_le_mul_of_nonneg_right I.2 (by omega)
    _<=100000000 * 1000:=by omega
  have hw:wrap .i64 (a+v x)=a+v x:=Qy (by omega) (by omega)
  rw[List.foldl_cons,hw];have h3:a+v x<=M * ((n+1:Nat):Int):=by
   have:M * ((n+1:Nat):Int)=M * (n:Int)+M:=by rw[Int.natCast_add,Int.mul_add];simp
   omega
  have:=QtY v M I r (a+v x) (n+1) (fun y U=>hv y (aLp _ U)) (by omega) h3 (by omega)
  rw[aLh];rw[show n+(r.length+1)=n+1+r.length by omega]
  exact this
theorem sum0 {α:Type} (v:α->Int) (M:Int) (I:0<=M/\M<=100000000) (l:List α) (hv:∀x,x ∈ l->0<=v x/\v x<=M) (J:l.length<=1000):0<=l.foldl (fun n x=>wrap .i64 (n+v x)) 0/\l.foldl (fun n x=>wrap .i64 (n+v x)) 0<=M * (l.length:Int):=by
 have:=QtY v M I l 0 0 hv (by omega) (by simp) (by omega)
 rw[aMf] at this;exact this
theorem Qww {l:TL} {c:List TCoin} (hc:Q9 c=0) {t:TX} (U:okT t) {h:Int} (h0:(mChk l c t h).2=0):0<=(mChk l c t h).1/\(mChk l c t h).1<=40000000:=by
 have I:=Zf hc
 have hspl:(mSp c t).length<=c.length:=aME _ c
 have hlo:=U.lo
 have s1:=sum0 (fun x:TCoin=>x.2.1.1) 1000000 (by omega) (mSp c t) (fun x J=>by have:=(I.2 x (Qko J)).val;omega) (by omega)
 have s2:=sum0 (fun x:TOut=>x.1) 1000000 (by omega) t.2.2.2 (fun x J=>by have:=(U.out x J).1;omega) (by omega)
 have e1:mSum (mSp c t)=(mSp c t).foldl (fun n x=>wrap .i64 (n+x.2.1.1)) 0:=rfl
 have e2:Qe6 t.2.2.2=t.2.2.2.foldl (fun n x=>wrap .i64 (n+x.1)) 0:=rfl
 rw[<-e1] at s1;rw[<-e2] at s2;have hw:wrap .i64 (mSum (mSp c t) - Qe6 t.2.2.2)=mSum (mSp c t) - Qe6 t.2.2.2:=Qy (by omega) (by omega)
 unfold mChk at h0 ⊢;by_cases h1:(Qu t).length<=300
 ·rw[if_pos h1] at h0 ⊢
  by_cases h2:mId l (Qu t)=0
  ·rw[if_pos h2] at h0;cases h0
  ·rw[if_neg h2] at h0 ⊢
   unfold Qja Qpf at h0 ⊢;by_cases h3:(mSp c t).length=t.2.2.1.length
   ·rw[if_pos h3] at h0 ⊢
    by_cases h4:code (fun _=>mC1 l (mId l (Qu t)) h) (mSp c t)=0
    ·rw[if_pos h4] at h0 ⊢
     by_cases h5:t.1=2/\(t.2.1,mId l (Qu t)) ∉ l.2
     ·rw[if_pos h5] at h0;cases h0
     ·rw[if_neg h5] at h0 ⊢
      rw[hw] at h0 ⊢;by_cases h6:mSum (mSp c t) - Qe6 t.2.2.2<0
      ·rw[if_pos h6] at h0;cases h0
      ·rw[if_neg h6]
       show 0<=mSum (mSp c t) - Qe6 t.2.2.2/\mSum (mSp c t) - Qe6 t.2.2.2<=40000000
       omega
    ·rw[if_neg h4] at h0;exact absurd h0 h4
   ·rw[if_neg h3] at h0;cases h0
 ·rw[if_neg h1] at h0;cases h0
abbrev TUn:=Int×List (List TCoin)×List TMb
end GL
end Go.Dx
