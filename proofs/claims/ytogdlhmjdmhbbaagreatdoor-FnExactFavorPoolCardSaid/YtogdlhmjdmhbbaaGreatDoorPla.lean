/- The plain law: no program in sight -/
import Derived.Test.YtogdlhmjdmhbbaaGreatDoorSca
set_option linter.unusedVariables false
set_option linter.unusedSimpArgs false
set_option maxHeartbeats 1000000
namespace Go.Dx
namespace GL
abbrev TCoin:=(Int×Int)×(Int×List Int×Int×Int)×Int×Bool
abbrev TM:=Int×Int×Int
abbrev TState:=Int×Int×List TCoin×List TM
def QjC (l:List (List UInt8)):Nat:=l.length+(l.map List.length).sum
def Qba (c:TCoin):Nat:=c.2.1.2.1.length
def QhU (l:List TCoin):Nat:=l.length+(l.map Qba).sum
def Qgs (s:TState):Nat:=QhU s.2.2.1+s.2.2.2.length
def bL {α:Type} (p:α->Prop) (l:List α):Prop:=l.length<=9223372036854775807/\∀y,y ∈ l->p y
def bAny {α:Type} (_:α):Prop:=True
def Qpb (c:TCoin):Prop:=bL bAny c.2.1.2.1
def Qss (s:TState):Prop:=bL Qpb s.2.2.1/\bL bAny s.2.2.2
theorem Qph {s:Sh} {p:s.den->Prop} (hp:∀y,Bnd s y->p y) {l:List s.den} (h:Bnd (.list s) l):bL p l:=⟨h.1,fun y hy=>hp y (h.2 y hy)⟩
theorem Je (i n:Nat) (h:i<n) (hn:n<=9223372036854775807):IntKind.wrap .i64 ((i:Int)+1)=((i+1:Nat):Int):=by
 rw[YK (by omega) (by omega)];omega
theorem QFP (t:Nat) (left:Int) (c:Int) (h0:0<=left):(bif decide (szr t left<0) then (some (Sum.inr (Sum.inr (-1))):Option ((Int×Int)⊕(Int⊕Int))) else some (Sum.inl (szr t left,c)))=if (t:Int)<=left then some (Sum.inl (left - t,c)) else some (Sum.inr (Sum.inr (-1))):=by
 by_cases h:(t:Int)<=left
 ·have e:szr t left=left - t:=by simp[szr,h]
  have hn:¬(left - (t:Int))<0:=by omega
  simp[e,hn,h]
 ·have e:szr t left = -1:=by simp[szr,h]
  simp[e,h]
theorem QEA (t:Nat) (left:Int) (c:Int) (h0:0<=left) (h1:left<=1048576) (ht:t<=9223372036854775807):(bif decide (IntKind.wrap .i64 (left - (t:Int))<0) then (some (Sum.inr (Sum.inr (-1))):Option ((Int×Int)⊕(Int⊕Int))) else some (Sum.inl (IntKind.wrap .i64 (left - (t:Int)),c)))=if (t:Int)<=left then some (Sum.inl (left - t,c)) else some (Sum.inr (Sum.inr (-1))):=by
 rw[YK (by omega) (by omega)]
 by_cases h:(t:Int)<=left
 ·have hn:¬(left - (t:Int))<0:=by omega
  simp[hn,h]
 ·have hn:(left - (t:Int))<0:=by omega
  simp[hn,h]
theorem QqY (left:Int) (h:0<=left):szr 0 left=left:=by simp[szr,h]
theorem QtO (x:List (Int×Int)) (hx:x.length<=9223372036854775807) (left:Int) (h0:0<=left) (h1:left<=1048576):Qcv x left=some (szr x.length left):=by
 unfold Qcv
 exact QjR (b:=0) (k:=fun l=>some l) h0 h1 hx (fun h=>by rw[QqY _ (by omega)])
theorem Qs9 (x:List Int) (hx:x.length<=9223372036854775807) (left:Int) (h0:0<=left) (h1:left<=1048576):Qek x left=some (szr x.length left):=by
 unfold Qek
 exact QjR (b:=0) (k:=fun l=>some l) h0 h1 hx (fun h=>by rw[QqY _ (by omega)])
theorem Qrp (x:List TM) (hx:x.length<=9223372036854775807) (left:Int) (h0:0<=left) (h1:left<=1048576):QaG x left=some (szr x.length left):=by
 unfold QaG
 exact QjR (b:=0) (k:=fun l=>some l) h0 h1 hx (fun h=>by rw[QqY _ (by omega)])
theorem QqM (x:List (List UInt8)) (hx:bL (bL bAny) x) (left:Int) (h0:0<=left) (h1:left<=1048576):Qc0 x left=some (szr (QjC x) left):=by
 unfold Qc0
 refine QjR (b:=(x.map List.length).sum) (k:=fun l=>(Qh _ (l,0)).bind _) h0 h1 hx.1 (fun hle=>?_)
 refine QCs x List.length _ (fun i left h h0 h1=>?_) (fun left=>?_) _ (by omega) (by omega)
 ·have e1:decide ((i:Int)<(x.length:Int))=true:=by simpa using h
  simp only[e1,Qg x i h,Qf x i _ h,cond_true,Je i _ h hx.1]
  exact QEA _ _ _ h0 h1 (hx.2 _ (List.getElem_mem h)).1
 ·simp
theorem QrL (x:List (List UInt8)×List (Int×Int)) (hx:bL (bL bAny) x.1/\bL bAny x.2) (left:Int) (h0:0<=left) (h1:left<=1048576):Qem x left=some (szr (QjC x.1+x.2.length) left):=by
 unfold Qem
 rw[QqM _ hx.1 _ h0 h1,Option.bind_some]
 refine QAW _ _ _ (k:=fun y=>(Qcv x.2 y).bind fun y4=>bif decide (y4<0) then some (-1) else some y4) h0 fun h=>?_
 have hl:=QsW h
 rw[QtO _ hx.2.1 _ h (by omega),Option.bind_some]
 exact QjI _ _ h
theorem Qyy (x:List Int×Int×Int) (hx:x.1.length<=9223372036854775807) (left:Int) (h0:0<=left) (h1:left<=1048576):Qgc x left=some (szr x.1.length left):=by
 unfold Qgc
 rw[Qs9 _ hx _ h0 h1,Option.bind_some]
 exact QjI _ _ h0
theorem QzL (x:Int×List Int×Int×Int) (hx:x.2.1.length<=9223372036854775807) (left:Int) (h0:0<=left) (h1:left<=1048576):Qg7 x left=some (szr x.2.1.length left):=by
 unfold Qg7
 rw[Qyy _ hx _ h0 h1,Option.bind_some]
 exact QjI _ _ h0
theorem Qyp (x:TCoin) (hx:Qpb x) (left:Int) (h0:0<=left) (h1:left<=1048576):Qgk x left=some (szr (Qba x) left):=by
 unfold Qgk
 rw[QzL _ hx.1 _ h0 h1,Option.bind_some]
 exact QjI _ _ h0
theorem QvV (x:List TCoin) (hx:bL Qpb x) (left:Int) (h0:0<=left) (h1:left<=1048576):Qfe x left=some (szr (x.length+(x.map Qba).sum) left):=by
 unfold Qfe
 refine QjR (b:=(x.map Qba).sum) (k:=fun l=>(Qh _ (l,0)).bind _) h0 h1 hx.1 (fun hle=>?_)
 refine QCs x Qba _ (fun i left h h0 h1=>?_) (fun left=>?_) _ (by omega) (by omega)
 ·have e1:decide ((i:Int)<(x.length:Int))=true:=by simpa using h
  simp only[e1,Qg x i h,Qf x i _ h,cond_true,Je i _ h hx.1,Qyp _ (hx.2 _ (List.getElem_mem h)) _ h0 h1,Option.bind_some]
  exact QFP _ _ _ h0
 ·simp
theorem Qu6 (x:TState) (hx:Qss x) (left:Int) (h0:0<=left) (h1:left<=1048576):Qfi x left=some (szr (Qgs x) left):=by
 unfold Qfi
 rw[QvV _ hx.1 _ h0 h1,Option.bind_some]
 refine QAW _ _ _ (k:=fun y=>(QaG x.2.2.2 y).bind fun y4=>bif decide (y4<0) then some (-1) else some y4) h0 fun h=>?_
 have hl:=QsW h
 rw[Qrp _ hx.2.1 _ h (by omega),Option.bind_some]
 exact QjI _ _ h
end GL
end Go.Dx
set_option maxHeartbeats 1000000
namespace Go.Dx
namespace GL
theorem Qz6 {α:Type} (m:α->Nat):∀(l:List α) (y:α),y ∈ l->m y<=(l.map m).sum
 | x::l,y,h=>by
  simp only[List.map_cons,List.sum_cons]
  cases List.mem_cons.1 h with
  | inl h=>subst h;omega
  | inr h=>have:=Qz6 m l y h;omega
theorem Qox {n:Nat} (h:n<=1048576):(decide (0<=(n:Int))&&decide ((n:Int)<=(LIM:Int)))=true:=by
 have h1:(0:Int)<=n:=by omega
 have h2:(n:Int)<=(LIM:Int):=by unfold LIM;omega
 rw[decide_eq_true h1,decide_eq_true h2];rfl
theorem QjW {α:Type} (l:List α) (d:α) (f:List α×Int->Option ((List α×Int)⊕List α)) (hstep:∀(i:Nat) (acc:List α) (h:i<l.length),acc.length=l.length->f (acc,(i:Int))=some (.inl (acc.set i l[i],((i+1:Nat):Int))))
  (hend:∀acc,f (acc,(l.length:Int))=some (.inr acc)):(Qh f (List.replicate (Int.toNat (l.length:Int)) d,0)).bind (fun j=>some j)=some l:=by
 rw[show Int.toNat (l.length:Int)=l.length by simp,QFW l d f hstep hend];rfl
theorem Qqw (x:List (List UInt8)) (hx:x.length<=1048576):Qc4 x=some x:=by
 unfold Qc4
 have hl:x.length<=1048576:=by exact hx
 rw[Qox hl,cond_true]
 refine QjW x [] _ (fun i acc h ha=>?_) (fun acc=>?_)
 ·have e1:decide ((i:Int)<(x.length:Int))=true:=by simpa using h
  have e2:inB (i:Int) acc=true:=Qg acc i (by omega)
  have e3:Int.toNat (i:Int)=i:=by simp
  simp only[e1,Qg x i h,e2,cond_true,Qf x i _ h,Je i _ h (by omega)]
  rw[e3]
 ·simp
theorem QyN (x:Int×Int):Qgf x=some x:=rfl
theorem QoK (x:Int×Int):Qho x=some x:=rfl
theorem QsP (x:TM):Qbp x=some x:=by unfold Qbp;rw[QoK,Option.bind_some]
theorem QtI (x:List (Int×Int)) (hx:x.length<=1048576):Qfa x=some x:=by
 unfold Qfa
 have hl:x.length<=1048576:=by exact hx
 rw[Qox hl,cond_true]
 refine QjW x (0,0) _ (fun i acc h ha=>?_) (fun acc=>?_)
 ·have e1:decide ((i:Int)<(x.length:Int))=true:=by simpa using h
  have e2:inB (i:Int) acc=true:=Qg acc i (by omega)
  have e3:Int.toNat (i:Int)=i:=by simp
  have hel:Qgf (List.getD x (Int.toNat (i:Int)) (0,0))=some x[i]:=by rw[Qf x i _ h];exact QyN _
  simp only[e1,Qg x i h,e2,cond_true,hel,Option.bind_some,Je i _ h (by omega)]
  rw[e3]
 ·simp
theorem Qj9 (x:List Int) (hx:x.length<=1048576):Y2 x=some x:=by
 unfold Y2
 have hl:x.length<=1048576:=by exact hx
 rw[Qox hl,cond_true]
 refine QjW x 0 _ (fun i acc h ha=>?_) (fun acc=>?_)
 ·have e1:decide ((i:Int)<(x.length:Int))=true:=by simpa using h
  have e2:inB (i:Int) acc=true:=Qg acc i (by omega)
  have e3:Int.toNat (i:Int)=i:=by simp
  simp only[e1,Qg x i h,e2,cond_true,Qf x i _ h,Je i _ h (by omega)]
  rw[e3]
 ·simp
theorem Qrq (x:List TM) (hx:x.length<=1048576):Qdk x=some x:=by
 unfold Qdk
 have hl:x.length<=1048576:=by exact hx
 rw[Qox hl,cond_true]
 refine QjW x (0,(0,0)) _ (fun i acc h ha=>?_) (fun acc=>?_)
 ·have e1:decide ((i:Int)<(x.length:Int))=true:=by simpa using h
  have e2:inB (i:Int) acc=true:=Qg acc i (by omega)
  have e3:Int.toNat (i:Int)=i:=by simp
  have hel:Qbp (List.getD x (Int.toNat (i:Int)) (0,(0,0)))=some x[i]:=by rw[Qf x i _ h];exact QsP _
  simp only[e1,Qg x i h,e2,cond_true,hel,Option.bind_some,Je i _ h (by omega)]
  rw[e3]
 ·simp
theorem Qsy (x:List (List UInt8)×List (Int×Int)) (h1:x.1.length<=1048576) (h2:x.2.length<=1048576):Qab x=some x:=by
 unfold Qab;rw[Qqw _ h1,Option.bind_some,QtI _ h2,Option.bind_some]
theorem QwW (x:List Int×Int×Int) (h:x.1.length<=1048576):Qge x=some x:=by
 unfold Qge;rw[Qj9 _ h,Option.bind_some]
theorem QAy (x:Int×List Int×Int×Int) (h:x.2.1.length<=1048576):Qha x=some x:=by
 unfold Qha;rw[QwW _ h,Option.bind_some]
theorem QyH (x:TCoin) (h:Qba x<=1048576):QdK x=some x:=by
 unfold QdK;rw[QoK,Option.bind_some,QAy _ h,Option.bind_some]
theorem QtV (x:List TCoin) (hx:QhU x<=1048576):Qe6 x=some x:=by
 unfold Qe6
 have hl:x.length<=1048576:=by have:x.length<=QhU x:=Nat.le_add_right _ _;omega
 rw[Qox hl,cond_true]
 refine QjW x ((0,0),((0,([],(0,0))),(0,false))) _ (fun i acc h ha=>?_) (fun acc=>?_)
 ·have e1:decide ((i:Int)<(x.length:Int))=true:=by simpa using h
  have e2:inB (i:Int) acc=true:=Qg acc i (by omega)
  have e3:Int.toNat (i:Int)=i:=by simp
  have hm:Qba x[i]<=1048576:=by
   have h1:=Qz6 Qba x _ (List.getElem_mem h)
   have h2:(x.map Qba).sum<=QhU x:=Nat.le_add_left _ _
   omega
  have hel:QdK (List.getD x (Int.toNat (i:Int)) ((0,0),((0,([],(0,0))),(0,false))))=some x[i]:=by rw[Qf x i _ h];exact QyH _ hm
  simp only[e1,Qg x i h,e2,cond_true,hel,Option.bind_some,Je i _ h (by omega)]
  rw[e3]
 ·simp
theorem QvP (x:TState) (h:Qgs x<=1048576):Qay x=some x:=by
 simp only[Qgs] at h
 unfold Qay;rw[QtV _ (by omega),Option.bind_some,Qrq _ (by omega),Option.bind_some]
end GL
end Go.Dx
set_option maxHeartbeats 2000000
namespace Go.Dx
namespace GL
set_option synthInstance.maxSize 1000
set_option synthInstance.maxHeartbeats 400000
theorem beqB (a b:Bool):Sh.beq .bool a b=decide (a=b):=rfl
theorem QlE {p:Prop} [Decidable p] (w:Int):(bif !decide p then (some (Sum.inr (Sum.inr false)):Option (Int⊕(Unit⊕Bool))) else some (Sum.inl w))=if p then some (Sum.inl w) else some (Sum.inr (Sum.inr false)):=by
 by_cases h:p<;>simp[h]
theorem Qma {α:Type} [DecidableEq α] {x y:List α} (h:¬x.length=y.length):decide (x=y)=false:=decide_eq_false (fun he=>h (by rw[he]))
theorem QqK (x y:List (List UInt8)) (hx:bL (bL bAny) x):Qc3 x y=some (decide (x=y)):=by
 unfold Qc3
 by_cases hl:x.length=y.length
 ·have hc:decide ((x.length:Int)=(y.length:Int))=true:=by simp[hl]
  rw[hc,Bool.not_true,cond_false]
  refine QlZ x y hl _ (fun i h h'=>?_) ?_
  ·have e1:decide ((i:Int)<(x.length:Int))=true:=by simpa using h
   simp only[e1,Qg x i h,Qg y i h',Qf x i _ h,Qf y i _ h',cond_true,Je i _ h hx.1]
   exact QlE _
  ·simp
 ·have hc:decide ((x.length:Int)=(y.length:Int))=false:=decide_eq_false (fun h=>hl (by omega))
  rw[hc,Qma hl];rfl
theorem Qxi (x y:Int×Int):Qgg x y=some (decide (x=y)):=by
 unfold Qgg
 obtain⟨a1,a2⟩:=x;obtain⟨b1,b2⟩:=y
 by_cases h1:a1=b1<;>by_cases h2:a2=b2<;>simp[h1,h2]
theorem Qo8 (x y:Int×Int):QeA x y=some (decide (x=y)):=by
 unfold QeA
 obtain⟨a1,a2⟩:=x;obtain⟨b1,b2⟩:=y
 by_cases h1:a1=b1<;>by_cases h2:a2=b2<;>simp[h1,h2]
theorem Qsk (x y:TM):Qeh x y=some (decide (x=y)):=by
 unfold Qeh
 rw[Qo8]
 obtain⟨a1,a2⟩:=x;obtain⟨b1,b2⟩:=y
 by_cases h1:a1=b1<;>by_cases h2:a2=b2<;>simp[h1,h2]
theorem Qvv (x y:List (Int×Int)) (hx:bL bAny x):QfC x y=some (decide (x=y)):=by
 unfold QfC
 by_cases hl:x.length=y.length
 ·have hc:decide ((x.length:Int)=(y.length:Int))=true:=by simp[hl]
  rw[hc,Bool.not_true,cond_false]
  refine QlZ x y hl _ (fun i h h'=>?_) ?_
  ·have e1:decide ((i:Int)<(x.length:Int))=true:=by simpa using h
   simp only[e1,Qg x i h,Qg y i h',Qf x i _ h,Qf y i _ h',cond_true,Je i _ h hx.1,Qxi,Option.bind_some]
   exact QlE _
  ·simp
 ·have hc:decide ((x.length:Int)=(y.length:Int))=false:=decide_eq_false (fun h=>hl (by omega))
  rw[hc,Qma hl];rfl
theorem Qqz (x y:List TM) (hx:bL bAny x):Qdg x y=some (decide (x=y)):=by
 unfold Qdg
 by_cases hl:x.length=y.length
 ·have hc:decide ((x.length:Int)=(y.length:Int))=true:=by simp[hl]
  rw[hc,Bool.not_true,cond_false]
  refine QlZ x y hl _ (fun i h h'=>?_) ?_
  ·have e1:decide ((i:Int)<(x.length:Int))=true:=by simpa using h
   simp only[e1,Qg x i h,Qg y i h',Qf x i _ h,Qf y i _ h',cond_true,Je i _ h hx.1,Qsk,Option.bind_some]
   exact QlE _
  ·simp
 ·have hc:decide ((x.length:Int)=(y.length:Int))=false:=decide_eq_false (fun h=>hl (by omega))
  rw[hc,Qma hl];rfl
theorem QkL (x y:List Int) (hx:bL bAny x):Qbm x y=some (decide (x=y)):=by
 unfold Qbm
 by_cases hl:x.length=y.length
 ·have hc:decide ((x.length:Int)=(y.length:Int))=true:=by simp[hl]
  rw[hc,Bool.not_true,cond_false]
  refine QlZ x y hl _ (fun i h h'=>?_) ?_
  ·have e1:decide ((i:Int)<(x.length:Int))=true:=by simpa using h
   simp only[e1,Qg x i h,Qg y i h',Qf x i _ h,Qf y i _ h',cond_true,Je i _ h hx.1]
   exact QlE _
  ·simp
 ·have hc:decide ((x.length:Int)=(y.length:Int))=false:=decide_eq_false (fun h=>hl (by omega))
  rw[hc,Qma hl];rfl
theorem QsN (x y:List (List UInt8)×List (Int×Int)) (hx:bL (bL bAny) x.1/\bL bAny x.2):Qer x y=some (decide (x=y)):=by
 unfold Qer
 obtain⟨a1,a2⟩:=x;obtain⟨b1,b2⟩:=y
 rw[QqK _ _ hx.1,Qvv _ _ hx.2]
 by_cases h1:a1=b1<;>by_cases h2:a2=b2<;>simp[h1,h2]
theorem QyK (x y:List Int×Int×Int) (hx:bL bAny x.1):Qgi x y=some (decide (x=y)):=by
 unfold Qgi
 obtain⟨a1,a2,a3⟩:=x;obtain⟨b1,b2,b3⟩:=y
 rw[QkL _ _ hx]
 by_cases h1:a1=b1<;>by_cases h2:a2=b2<;>by_cases h3:a3=b3<;>simp[h1,h2,h3]
theorem Qzs (x y:Int×List Int×Int×Int) (hx:bL bAny x.2.1):Qhk x y=some (decide (x=y)):=by
 unfold Qhk
 obtain⟨a1,a2⟩:=x;obtain⟨b1,b2⟩:=y
 rw[QyK _ _ hx]
 by_cases h1:a1=b1<;>by_cases h2:a2=b2<;>simp[h1,h2]
theorem Qyr (x y:TCoin) (hx:Qpb x):Qf6 x y=some (decide (x=y)):=by
 unfold Qf6
 obtain⟨a1,a2,a3,a4⟩:=x;obtain⟨b1,b2,b3,b4⟩:=y
 rw[Qzs _ _ hx,Qo8,beqB]
 by_cases h1:a1=b1<;>by_cases h2:a2=b2<;>by_cases h3:a3=b3<;>by_cases h4:a4=b4<;>simp[h1,h2,h3,h4]
theorem Qtr (x y:List TCoin) (hx:bL Qpb x):Qfw x y=some (decide (x=y)):=by
 unfold Qfw
 by_cases hl:x.length=y.length
 ·have hc:decide ((x.length:Int)=(y.length:Int))=true:=by simp[hl]
  rw[hc,Bool.not_true,cond_false]
  refine QlZ x y hl _ (fun i h h'=>?_) ?_
  ·have e1:decide ((i:Int)<(x.length:Int))=true:=by simpa using h
   simp only[e1,Qg x i h,Qg y i h',Qf x i _ h,Qf y i _ h',cond_true,Je i _ h hx.1,Qyr _ _ (hx.2 _ (List.getElem_mem h)),Option.bind_some]
   exact QlE _
  ·simp
 ·have hc:decide ((x.length:Int)=(y.length:Int))=false:=decide_eq_false (fun h=>hl (by omega))
  rw[hc,Qma hl];rfl
theorem QtW (x y:TState) (hx:Qss x):Qe9 x y=some (decide (x=y)):=by
 unfold Qe9
 obtain⟨a1,a2,a3,a4⟩:=x;obtain⟨b1,b2,b3,b4⟩:=y
 rw[Qtr _ _ hx.1,Qqz _ _ hx.2]
 by_cases h1:a1=b1<;>by_cases h2:a2=b2<;>by_cases h3:a3=b3<;>by_cases h4:a4=b4<;>simp[h1,h2,h3,h4]
end GL
end Go.Dx
set_option maxHeartbeats 2000000
namespace Go.Dx
namespace GL
def mIn (v lo hi:Int):Bool:=decide (lo<=v)&&decide (v<=hi)
theorem Yv (v lo hi:Int):Zd v lo hi=some (mIn v lo hi):=by
 unfold Zd mIn
 cases decide (lo<=v)<;>rfl
theorem ZB (v lo hi:Int):QX v lo hi=some (mIn v lo hi):=by
 unfold QX mIn
 cases decide (lo<=v)<;>rfl
theorem Qhe (v:Int):QaK v=some (mIn v 1 999):=by unfold QaK;rw[Yv];rfl
theorem Qhf (v:Int):QaQ v=some (mIn v 1 999):=by unfold QaQ;rw[ZB];rfl
theorem Qp6 (v:Int):QfP v=some (mIn v 1 60):=by unfold QfP;rw[ZB];rfl
def mRef (r:Int×Int):Bool:=mIn r.1 1 60&&mIn r.2 0 3
theorem QjK (r:Int×Int):QaV r=some (mRef r):=by
 unfold QaV mRef;rw[Qp6,ZB];cases mIn r.1 1 60<;>rfl
theorem QhG (r:Int×Int):Qcf r=some (mRef r):=by
 unfold Qcf mRef;rw[Yv,Yv];cases mIn r.1 1 60<;>rfl
theorem QsH (l:List Int) (hl:l.length<BIG) (p:Int->Bool) (f:Int->Option Bool) (hf:∀a,a ∈ l->f a=some (p a)):ZS l f=some (idxF p l):=by
 unfold ZS
 refine QbQ l p _ (fun i h=>?_) (by simp only[dge,cond_false])
 simp only[dlt h,Qg l i h,Qf l i _ h,cond_true,hf _ (List.getElem_mem h),Option.bind_some,wsucc h hl]
 cases p l[i]<;>rfl
theorem Qoc (l:List Int) (hl:l.length<BIG) (p:Int->Bool) (f:Int->Option Bool) (hf:∀a,a ∈ l->f a=some (p a)):Zy l f=some (l.any p):=by
 unfold Zy
 rw[QsH l hl p f hf,Option.bind_some,ZJ]
theorem QtD (l:List Int) (hl:l.length<BIG):Qfh l=some (l.all fun k=>mIn k 1 999):=by
 unfold Qfh
 rw[Qoc l hl (fun k=>!mIn k 1 999) _ (fun a _=>by unfold QfJ;rw[Qhf];rfl),Option.bind_some]
 rw[List.all_eq_not_any_not]
def Qjh (l:List Int):Bool:=(List.range (l.length - 1)).all fun i=>decide (List.getD l i 0<List.getD l (i+1) 0)
theorem Qqb {β:Type} (l:List Int) (hl:l.length<BIG) (r:β) (f:Int->Option (Int⊕(Unit⊕β)))
  (hs:∀(i:Nat),i+1<l.length->f ((i+1:Nat):Int)=some (if List.getD l (i+1) 0<=List.getD l i 0 then .inr (.inr r) else .inl ((i+2:Nat):Int))) (he:∀n:Nat,l.length<=n->f (n:Int)=some (.inr (.inl ()))) :
  Qh f 1=some (if Qjh l then .inl () else .inr r):=by
 have key:∀(k i:Nat),i+k=l.length - 1->Qh f ((i+1:Nat):Int)=some (if (List.range' i k).all (fun i=>decide (List.getD l i 0<List.getD l (i+1) 0)) then .inl () else .inr r):=by
  intro k
  induction k with
  | zero=>intro i hi;rw[QE (he _ (by omega))];simp
  | succ k ih=>
   intro i hi
   have hs:=hs i (by omega)
   rw[List.range'_succ,List.all_cons]
   by_cases hc:List.getD l (i+1) 0<=List.getD l i 0
   ·rw[if_pos hc] at hs
    rw[QE hs,decide_eq_false (p:=List.getD l i 0<List.getD l (i+1) 0) (by omega)];rfl
   ·rw[if_neg hc] at hs
    rw[Zj hs,ih (i+1) (by omega),decide_eq_true (p:=List.getD l i 0<List.getD l (i+1) 0) (by omega),Bool.true_and]
 have:=key (l.length - 1) 0 (by omega)
 rw[<-List.range_eq_range'] at this
 exact this
theorem Qqf (l:List Int) (hl:l.length<BIG) (i:Nat) (h:i+1<l.length):decide (((i+1:Nat):Int)<(l.length:Int))=true/\inB ((i+1:Nat):Int) l=true/\inB (IntKind.wrap .i64 (((i+1:Nat):Int) - 1)) l=true/\
  List.getD l (Int.toNat ((i+1:Nat):Int)) 0=List.getD l (i+1) 0/\List.getD l (Int.toNat (IntKind.wrap .i64 (((i+1:Nat):Int) - 1))) 0=List.getD l i 0/\IntKind.wrap .i64 (((i+1:Nat):Int)+1)=((i+2:Nat):Int):=by
 rw[wpred (i:=i) (n:=l.length) (by omega) hl]
 exact⟨dlt h,Qg l _ h,Qg l _ (by omega),by simp,by simp,wsucc h hl⟩
theorem dge' {i n:Nat} (h:n<=i):decide ((i:Int)<(n:Int))=false:=by simp;omega
theorem Qsg (l:List Int) (hl:l.length<BIG):Qeg l=some (Qjh l):=by
 unfold Qeg
 rw[Qqb l hl false _ (fun i h=>by
  obtain⟨h1,h2,h3,h4,h5,h6⟩:=Qqf l hl i h
  simp only[h1,h2,h3,h4,h5,h6,cond_true]
  by_cases hc:List.getD l (i+1) 0<=List.getD l i 0
  ·rw[if_pos hc,decide_eq_true hc];rfl
  ·rw[if_neg hc,decide_eq_false hc];rfl) (fun n hn=>by simp only[dge' hn,cond_false]),Option.bind_some]
 cases Qjh l<;>rfl
theorem QDy {β:Type} (l:List Int) (hl:l.length<BIG) (r:β) (f:Int->Option (Int⊕(Unit⊕β)))
  (hs:∀(i:Nat) (h:i<l.length),f (i:Int)=some (if mIn l[i] 1 999 then .inl ((i+1:Nat):Int) else .inr (.inr r))) (he:f (l.length:Int)=some (.inr (.inl ()))) :
  Qh f 0=some (if (l.all fun k=>mIn k 1 999) then .inl () else .inr r):=by
 rw[Qbg l (fun _ a=>if !mIn a 1 999 then some r else none) f (fun i h=>by rw[hs i h];cases mIn l[i] 1 999<;>rfl) he,Qkb,List.all_eq_not_any_not]
 cases l.any fun x=>!mIn x 1 999<;>rfl
end GL
end Go.Dx
set_option maxHeartbeats 2000000
namespace Go.Dx
namespace GL
abbrev TRu:=List Int×Int×Int
abbrev TOut:=Int×List Int×Int×Int
def Zi (r:TRu):Int:=if mIn (r.1.length:Int) 1 3 then (if (r.1.all fun k=>mIn k 1 999)&&mIn r.2.1 1 (r.1.length:Int)&&mIn r.2.2 0 999 then (if Qjh r.1 then 0 else 1) else 3) else 2
theorem Qei (n:Int):Y0 n=some (mIn n 0 999):=by unfold Y0;rw[ZB];rfl
theorem Qg9 (n:Int):J8 n=some (mIn n 0 999):=by unfold J8;rw[Yv];rfl
theorem Qgx (r:TRu) (hl:r.1.length<BIG):Ju r=some (Zi r):=by
 unfold Ju Zi
 simp only[ZB,QtD _ hl,Qsg _ hl,Qei,Option.bind_some]
 cases mIn (r.1.length:Int) 1 3<;>cases (r.1.all fun k=>mIn k 1 999)<;>cases mIn r.2.1 1 (r.1.length:Int)<;>cases mIn r.2.2 0 999<;>cases Qjh r.1<;>rfl
theorem QhQ (r:TRu) (hl:r.1.length<BIG):Qaw r=some (Zi r):=by
 unfold Qaw Zi
 simp only[Yv,Qg9,Option.bind_some]
 rw[QDy r.1 hl 3 _ (fun i h=>by
  simp only[dlt h,Qg r.1 i h,Qf r.1 i _ h,cond_true,Qhe,Option.bind_some,wsucc h hl]
  cases mIn r.1[i] 1 999<;>rfl) (by simp only[dge,cond_false]),Option.bind_some]
 cases mIn (r.1.length:Int) 1 3 with
 | false=>rfl
 | true=>
  cases (r.1.all fun k=>mIn k 1 999) with
  | false=>rfl
  | true=>
   simp only[Bool.not_true,cond_false,if_true,Sum.elim_inl]
   rw[Qqb r.1 hl 1 _ (fun i h=>by
    obtain⟨h1,h2,h3,h4,h5,h6⟩:=Qqf r.1 hl i h
    simp only[h1,h2,h3,h4,h5,h6,cond_true]
    by_cases hc:List.getD r.1 (i+1) 0<=List.getD r.1 i 0
    ·rw[if_pos hc,decide_eq_true hc];rfl
    ·rw[if_neg hc,decide_eq_false hc];rfl) (fun n hn=>by simp only[dge' hn,cond_false]),Option.bind_some]
   cases mIn r.2.1 1 (r.1.length:Int)<;>cases mIn r.2.2 0 999<;>cases Qjh r.1<;>rfl
def mOut (o:TOut):Int:=if mIn o.1 1 1000000 then Zi o.2 else 3
theorem QA8 (o:TOut) (hl:o.2.1.length<BIG):Qg0 o=some (mOut o):=by
 unfold Qg0 mOut
 rw[Yv,Option.bind_some,QhQ _ hl]
 cases mIn o.1 1 1000000<;>rfl
def Zt (a b:Int×Int):Bool:=if a.1=b.1 then decide (a.2<b.2) else decide (a.1<b.1)
theorem Qtx (a b:Int×Int):Qfp a b=some (Zt a b):=by
 unfold Qfp Zt
 by_cases h:a.1=b.1<;>simp[h]
def mCmp (a b:Int):Int:=if a<b then -1 else if b<a then 1 else 0
theorem QiO (a b:Int):Ys a b=some (mCmp a b):=by
 unfold Ys Qb2 mCmp
 by_cases h1:a<b
 ·simp[h1]
 ·by_cases h2:b<a<;>simp[h1,h2]
theorem QFh (a b:Int):Qhm [a,b]=some (if a=0 then b else a):=by
 unfold Qhm
 by_cases ha:a=0
 ·subst ha
  rw[Zj (s':=(1:Int)) rfl]
  by_cases hb:b=0
  ·subst hb
   rw[Zj (s':=(2:Int)) rfl,QE (x:=Sum.inl ()) rfl];rfl
  ·rw[QE (x:=Sum.inr b) (by
    show (bif !decide (b=0) then some (Sum.inr (Sum.inr b)) else _)=_
    rw[decide_eq_false hb];rfl)]
   rfl
 ·rw[QE (x:=Sum.inr a) (by
   show (bif !decide (a=0) then some (Sum.inr (Sum.inr a)) else _)=_
   rw[decide_eq_false ha];rfl),if_neg ha]
  rfl
def Qhy (a b:Int×Int):Int:=if mCmp a.1 b.1=0 then mCmp a.2 b.2 else mCmp a.1 b.1
theorem QeY (a b:Int×Int):YM a b=some (Qhy a b):=by
 unfold YM Qhy
 rw[QiO,QiO,Option.bind_some,Option.bind_some,QFh];rfl
theorem Qs0 (a b:Int×Int):decide (0<=Qhy a b) = !Zt a b:=by
 unfold Qhy Zt mCmp
 by_cases h1:a.1<b.1
 ·have h3:¬a.1=b.1:=by omega
  simp[h1,h3]
 ·by_cases h2:b.1<a.1
  ·have h3:¬a.1=b.1:=by omega
   simp[h1,h2,h3]
  ·have h3:a.1=b.1:=by omega
   simp only[h1,h2,if_false,if_true,h3,Int.lt_irrefl]
   by_cases h4:a.2<b.2
   ·simp[h4]
   ·by_cases h5:b.2<a.2<;>simp[h4,h5]
def dC:TCoin:=((0,0),((0,([],(0,0))),(0,false)))
def QmP (l:List TCoin) (i:Nat) (x:TCoin):Int:=if mRef x.1&&mIn x.2.2.1 0 999 then (if mOut x.2.1=0 then (if decide (0<i)&&!Zt (List.getD l (i - 1) dC).1 x.1 then 1 else 0) else mOut x.2.1) else 3
def Jo (l:List TCoin):Int:=if (40:Int)<(l.length:Int) then 2 else code (QmP l) l
theorem QCh (l:List TCoin) (hl:l.length<BIG) (i:Nat) (h:i<l.length) (h0:0<i):inB (IntKind.wrap .i64 ((i:Int) - 1)) l=true/\List.getD l (Int.toNat (IntKind.wrap .i64 ((i:Int) - 1))) dC=List.getD l (i - 1) dC:=by
 obtain⟨j,rfl⟩:∃j,i=j+1:=⟨i - 1,by omega⟩
 rw[wpred (i:=j) (n:=l.length) (by omega) hl]
 exact⟨Qg l j (by omega),by simp⟩
theorem Qlo (l:List TCoin) (hl:l.length<BIG) (hk:∀x,x ∈ l->x.2.1.2.1.length<BIG):Qb6 l=some (Jo l):=by
 unfold Qb6 Jo
 by_cases h40:(40:Int)<(l.length:Int)
 ·rw[decide_eq_true h40,if_pos h40];rfl
 ·rw[decide_eq_false h40,if_neg h40,cond_false]
  refine QgR l (QmP l) _ (fun i h=>?_) (by simp only[dge,cond_false])
  have hx:=hk _ (List.getElem_mem h)
  simp only[dlt h,Qg l i h,Qf l i _ h,cond_true,wsucc h hl,QhG,Qg9,QA8 _ hx,Qtx,Option.bind_some]
  unfold QmP
  cases h1:mRef l[i].1<;>cases h2:mIn l[i].2.2.1 0 999<;>try rfl
  simp only[Bool.not_true,cond_false,Option.bind_some,Bool.true_and,if_true]
  by_cases h3:mOut l[i].2.1=0
  ·rw[decide_eq_true h3]
   simp only[h3,Bool.not_true,cond_false,if_true]
   by_cases h4:0<i
   ·obtain⟨e1,e2⟩:=QCh l hl i h h4
    rw[show decide ((0:Int)<(i:Int))=true by simpa using h4,decide_eq_true h4,cond_true,e1,cond_true]
    show (Option.bind (some (!Zt (List.getD l (Int.toNat (IntKind.wrap .i64 ((i:Int) - 1))) dC).1 l[i].1)) _)=_
    rw[e2]
    cases Zt (List.getD l (i - 1) dC).1 l[i].1<;>rfl
   ·rw[show decide ((0:Int)<(i:Int))=false by simpa using h4,decide_eq_false h4];rfl
  ·rw[decide_eq_false h3];simp[h3]
theorem QpE (l:List TCoin) (hl:l.length<BIG) (hk:∀x,x ∈ l->x.2.1.2.1.length<BIG):Qb1 l=some (Jo l):=by
 unfold Qb1 Jo
 by_cases h40:(40:Int)<(l.length:Int)
 ·rw[decide_eq_true h40,if_pos h40];rfl
 ·rw[decide_eq_false h40,if_neg h40,cond_false]
  refine QgR l (QmP l) _ (fun i h=>?_) (by simp only[dge,cond_false])
  have hx:=hk _ (List.getElem_mem h)
  simp only[dlt h,Qg l i h,Qf l i _ h,cond_true,wsucc h hl,QjK,Qei,ZB,Qgx _ hx,QeY,Option.bind_some]
  unfold QmP mOut
  cases h1:mRef l[i].1<;>cases h2:mIn l[i].2.2.1 0 999<;>try rfl
  cases h5:mIn l[i].2.1.1 1 1000000<;>try rfl
  simp only[Bool.not_true,cond_false,Option.bind_some,Bool.true_and,if_true]
  by_cases h3:Zi l[i].2.1.2=0
  ·rw[decide_eq_true h3]
   simp only[h3,Bool.not_true,cond_false,if_true]
   by_cases h4:0<i
   ·obtain⟨e1,e2⟩:=QCh l hl i h h4
    rw[show decide ((0:Int)<(i:Int))=true by simpa using h4,decide_eq_true h4,cond_true,e1,cond_true]
    show (Option.bind (some (decide (0<=Qhy (List.getD l (Int.toNat (IntKind.wrap .i64 ((i:Int) - 1))) dC).1 l[i].1))) _)=_
    rw[e2,Qs0]
    cases Zt (List.getD l (i - 1) dC).1 l[i].1<;>rfl
   ·rw[show decide ((0:Int)<(i:Int))=false by simpa using h4,decide_eq_false h4];rfl
  ·rw[decide_eq_false h3];simp[h3]
end GL
end Go.Dx
set_option maxHeartbeats 2000000
namespace Go.Dx
namespace GL
theorem QM {α:Type} {n:Nat} {x:Option α} (h:n<=LIM):(bif decide (n<=LIM) then x else none)=x:=by rw[decide_eq_true h];rfl
theorem Qdf {n:Int} (h0:0<=n) (h1:n<=9223372036854775807):Y4 n=some (Lib.itoa n):=by
 unfold Y4 Qed
 rw[QGe n (by omega) h1];rfl
theorem Yq {n:Int} (h0:0<=n) (h1:n<=9223372036854775807):Za n=some (Lib.itoa n):=QFY h0 h1
theorem ZF {v a b:Int}:mIn v a b=true↔a<=v/\v<=b:=by simp[mIn]
structure okR (r:TRu):Prop where
 len:1<=r.1.length/\r.1.length<=3
 keys:∀k,k ∈ r.1->1<=k/\k<=999
 need:1<=r.2.1/\r.2.1<=3
 after:0<=r.2.2/\r.2.2<=999
theorem Jn {r:TRu} (h:Zi r=0):okR r:=by
 unfold Zi at h
 cases h1:mIn (r.1.length:Int) 1 3 with
 | false=>rw[h1] at h;simp at h
 | true=>
  rw[h1,if_pos rfl] at h
  cases h2:(r.1.all fun k=>mIn k 1 999) with
  | false=>rw[h2] at h;simp at h
  | true=>
   cases h3:mIn r.2.1 1 (r.1.length:Int) with
   | false=>rw[h3] at h;simp at h
   | true=>
    cases h4:mIn r.2.2 0 999 with
    | false=>rw[h4] at h;simp at h
    | true=>
     rw[ZF] at h1 h3 h4
     rw[List.all_eq_true] at h2
     exact⟨by omega,fun k hk=>ZF.1 (h2 k hk),by omega,h4⟩
theorem Q5 {n:Int} (h0:0<=n) (h1:n<=1000000):(Lib.itoa n).length<=19:=QzV h0 (by omega)
def J9 (l:List Int) (sep:List UInt8):List UInt8:=Lib.join (l.map Lib.itoa) sep
theorem QF4 (l:List Int) (h:∀k,k ∈ l->0<=k/\k<=1000000):Lib.lens (l.map Lib.itoa)<=19 * l.length:=by
 induction l with
 | nil=>simp[Lib.lens]
 | cons a l ih=>
  have h1:=ih fun k hk=>h k (List.mem_cons_of_mem _ hk)
  have h2:=Q5 (h a List.mem_cons_self).1 (h a List.mem_cons_self).2
  simp only[Lib.lens,List.map_cons,List.map_map,List.sum_cons,List.length_cons] at h1 ⊢
  omega
theorem Qh8 (l:List Int) (sep:List UInt8) (h:∀k,k ∈ l->0<=k/\k<=1000000):(J9 l sep).length<=(19+sep.length) * l.length:=by
 unfold J9
 cases l with
 | nil=>simp[Lib.join_nil]
 | cons a l=>
  have:=QF4 (a::l) h
  rw[List.map_cons,Lib.join_length,List.length_map]
  rw[List.map_cons] at this
  have e:(19+sep.length) * (a::l).length=19 * (a::l).length+(sep.length * l.length+sep.length):=by
   rw[Nat.add_mul,List.length_cons,Nat.mul_succ sep.length]
  omega
theorem Qyh (l:List Int) (sep:List UInt8) (hl:l.length<=100000) (hs:sep.length<=100) (h:∀k,k ∈ l->0<=k/\k<=1000000):Qf9 l sep=some (J9 l sep):=by
 unfold Qf9
 rw[ZU (σ:=List (List UInt8)) l (fun acc a=>acc++[Lib.itoa a]) (fun t i=>(t,i)) (fun t=>t) (fun t i=>t.length=i) _ (fun i hi t ht=>by
   obtain⟨k0,k1⟩:=h _ (List.getElem_mem hi)
   refine⟨?_,by simp[ht]⟩
   simp only[dlt hi,Qg l i hi,Qf l i _ hi,cond_true,Qdf k0 (by omega),Option.bind_some,wsucc hi (by unfold BIG;omega)]
   rw[QM (by simp only[List.length_cons,List.length_nil];unfold LIM;omega)];rfl) (fun t ht=>by simp only[dge,cond_false]) [] rfl,Option.bind_some,foldl_map,List.nil_append]
 have h1:=Qh8 l sep h
 have h2:(19+sep.length) * l.length<=119 * 100000:=Nat.mul_le_mul (by omega) hl
 unfold Yd
 rw[Qrs _ _ (by rw[List.length_map];omega) (by unfold J9 at h1;omega)];rfl
def Qx (r:TRu) (b:List UInt8):List UInt8:=Lib.itoa r.2.1++b++[111,102]++b++J9 r.1 [44]++(if r.2.2=0 then [] else b++[97,102,116,101,114]++b++Lib.itoa r.2.2)
theorem QBp {r:TRu} (h:okR r) (b:List UInt8) (hb:b.length<=1):(Qx r b).length<=120:=by
 have h1:=Qh8 r.1 [44] fun k hk=>by have:=h.keys k hk;omega
 have h2:=Q5 (n:=r.2.1) (by have:=h.need;omega) (by have:=h.need;omega)
 have h3:=Q5 (n:=r.2.2) (by have:=h.after;omega) (by have:=h.after;omega)
 have h4:=h.len
 simp only[List.length_cons,List.length_nil] at h1
 unfold Qx
 split<;>simp only[List.length_append,List.length_cons,List.length_nil]<;>omega
theorem Qke {r:TRu} (h:okR r) (b:List UInt8) (hb:b.length<=1):Qbo r b=some (Qx r b):=by
 have h1:=Qh8 r.1 [44] fun k hk=>by have:=h.keys k hk;omega
 have h2:=Q5 (n:=r.2.1) (by have:=h.need;omega) (by have:=h.need;omega)
 have h3:=Q5 (n:=r.2.2) (by have:=h.after;omega) (by have:=h.after;omega)
 have h4:=h.len
 simp only[List.length_cons,List.length_nil] at h1
 unfold Qbo Qx
 rw[Qdf (n:=r.2.1) (by have:=h.need;omega) (by have:=h.need;omega),Option.bind_some,Qyh r.1 [44] (by omega) (by simp) fun k hk=>by have:=h.keys k hk;omega]
 simp only[Option.bind_some,List.append_eq]
 rw[Qdf (n:=r.2.2) (by have:=h.after;omega) (by have:=h.after;omega)]
 simp only[Option.bind_some]
 rw[QM,QM,QM,QM]
 ·by_cases ha:r.2.2=0
  ·rw[decide_eq_true ha,if_pos ha];simp
  ·rw[decide_eq_false ha,if_neg ha,Bool.not_false,cond_true,QM,QM,QM,QM]
   ·rfl
   all_goals ((try simp only[List.length_append,List.length_cons,List.length_nil]);unfold LIM;omega)
 all_goals ((try simp only[List.length_append,List.length_cons,List.length_nil]);unfold LIM;omega)
theorem Qrv {α:Type} (l:List α) (g:α->List UInt8) (f:List UInt8×Int->Option ((List UInt8×Int)⊕List UInt8)) (B:Nat->Nat)
  (hs:∀(i:Nat) (h:i<l.length) (acc:List UInt8),acc.length<=B i->f (acc,(i:Int))=some (.inl (acc++g l[i],((i+1:Nat):Int)))/\(acc++g l[i]).length<=B (i+1))
  (he:∀acc,f (acc,(l.length:Int))=some (.inr acc)):∀(k i:Nat) (acc:List UInt8),i+k=l.length->acc.length<=B i->Qh f (acc,(i:Int))=some (acc++((l.drop i).map g).flatten)
 | 0,i,acc,hi,_=>by
  obtain rfl:i=l.length:=by omega
  rw[QE (he acc)];simp
 | k+1,i,acc,hi,ha=>by
  have h1:i<l.length:=by omega
  obtain⟨hs1,hs2⟩:=hs i h1 acc ha
  rw[Zj hs1,Qrv l g f B hs he k (i+1) _ (by omega) hs2,List.drop_eq_getElem_cons h1,List.map_cons,List.flatten_cons,List.append_assoc]
theorem Qxf {r:TRu} (h:okR r):QdJ r=some (Qx r [32]):=by
 have h2:=Q5 (n:=r.2.1) (by have:=h.need;omega) (by have:=h.need;omega)
 have h3:=Q5 (n:=r.2.2) (by have:=h.after;omega) (by have:=h.after;omega)
 obtain⟨⟨k0,r1⟩,hr⟩:∃p:Int×List Int,r.1=p.1::p.2:=by
  have:=h.len
  match hq:r.1 with
  | []=>rw[hq] at this;simp at this
  | a::l=>exact⟨(a,l),rfl⟩
 have hr:r.1=k0::r1:=hr
 have hlen:=h.len
 have hk:=h.keys
 rw[hr] at hlen hk
 have hk0:=hk k0 List.mem_cons_self
 have h5:=Q5 (n:=k0) (by omega) (by omega)
 unfold QdJ Qx
 rw[hr]
 rw[Yq (n:=r.2.1) (by have:=h.need;omega) (by have:=h.need;omega),Option.bind_some]
 rw[show inB 0 (k0::r1)=true from Qg _ 0 (by simp),show List.getD (k0::r1) (Int.toNat 0) 0=k0 from rfl,cond_true,Yq (n:=k0) (by omega) (by omega),Option.bind_some]
 simp only[List.append_eq]
 rw[QM,QM]
 ·have:=Qrv (k0::r1) (fun k=>44::Lib.itoa k) (fun (s15:List UInt8×Int)=>
 bif (decide ((s15.2:Int)<(List.length (k0::r1):Int))) then
 bif decide (List.length s15.1+List.length [44]<=LIM) then
 bif (inB s15.2 (k0::r1)) then
 (Za (List.getD (k0::r1) (Int.toNat s15.2) 0)).bind fun (y16:List UInt8)=>
 bif decide (List.length (s15.1++[44])+List.length y16<=LIM) then
 some (Sum.inl (s15.1++[44]++y16,IntKind.wrap .i64 (s15.2+1)))
 else none
 else none
 else none
 else
 some (Sum.inr s15.1)) (fun i=>100+20 * i) (fun i hi acc ha=>by
    have hki:=hk _ (List.getElem_mem hi)
    have hli:=Q5 (n:=(k0::r1)[i]) (by omega) (by omega)
    refine⟨?_,by simp only[List.length_append,List.length_cons];omega⟩
    have hi3:i<3:=by omega
    simp only[dlt hi,Qg _ i hi,Qf _ i _ hi,cond_true,Yq (n:=(k0::r1)[i]) (by omega) (by omega),Option.bind_some,wsucc hi (by unfold BIG;omega)]
    rw[QM,QM]
    ·simp
    all_goals ((try simp only[List.length_append,List.length_cons,List.length_nil]);unfold LIM;omega)) (fun acc=>by simp only[dge,cond_false]) r1.length 1 (Lib.itoa r.2.1++[32,111,102,32]++Lib.itoa k0) (by simp;omega) (by simp only[List.length_append,List.length_cons,List.length_nil];omega)
  rw[show ((1:Nat):Int)=1 from rfl] at this
  rw[this,Option.bind_some,List.drop_succ_cons,List.drop_zero]
  have e1:Lib.itoa r.2.1++[32,111,102,32]++Lib.itoa k0++(r1.map fun k=>44::Lib.itoa k).flatten=Lib.itoa r.2.1++[32]++[111,102]++[32]++J9 (k0::r1) [44]:=by
   unfold J9
   rw[List.map_cons,Lib.join_cons,Lib.joinTail,List.map_map]
   simp[Function.comp_def]
  rw[e1]
  have h1:=Qh8 (k0::r1) [44] fun k hk'=>by have:=hk k hk';omega
  simp only[List.length_cons,List.length_nil] at h1 hlen
  by_cases ha:r.2.2=0
  ·rw[decide_eq_true ha,if_pos ha];simp
  ·rw[decide_eq_false ha,if_neg ha,Bool.not_false,cond_true,Yq (n:=r.2.2) (by have:=h.after;omega) (by have:=h.after;omega),Option.bind_some,QM,QM]
   ·simp
   all_goals ((try simp only[List.length_append,List.length_cons,List.length_nil]);unfold LIM;omega)
 all_goals ((try simp only[List.length_append,List.length_cons,List.length_nil]);unfold LIM;omega)
end GL
end Go.Dx
set_option maxHeartbeats 2000000
namespace Go.Dx
namespace GL
structure okC (x:TCoin):Prop where
 tx:1<=x.1.1/\x.1.1<=60
 at_:0<=x.1.2/\x.1.2<=3
 val:1<=x.2.1.1/\x.2.1.1<=1000000
 rule:Zi x.2.1.2=0
 height:0<=x.2.2.1/\x.2.2.1<=999
theorem QjT {l:List TCoin} (h:Jo l=0):l.length<=40/\∀x,x ∈ l->okC x:=by
 unfold Jo at h
 by_cases h40:(40:Int)<(l.length:Int)
 ·rw[if_pos h40] at h;cases h
 ·rw[if_neg h40] at h
  refine⟨by omega,fun x hx=>?_⟩
  obtain⟨i,hi,rfl⟩:=List.mem_iff_getElem.1 hx
  have hc:=QcU h i l[i] (List.getElem?_eq_getElem hi)
  unfold QmP at hc
  cases h1:mRef l[i].1 with
  | false=>rw[h1] at hc;simp at hc
  | true=>
   cases h2:mIn l[i].2.2.1 0 999 with
   | false=>rw[h2] at hc;simp at hc
   | true=>
    rw[h1,h2] at hc
    by_cases h3:mOut l[i].2.1=0
    ·unfold mRef at h1
     rw[Bool.and_eq_true,ZF,ZF] at h1
     unfold mOut at h3
     cases h4:mIn l[i].2.1.1 1 1000000 with
     | false=>rw[h4] at h3;simp at h3
     | true=>
      rw[h4,if_pos rfl] at h3
      exact⟨h1.1,h1.2,ZF.1 h4,h3,ZF.1 h2⟩
    ·simp[h3] at hc
end GL
end Go.Dx
set_option maxHeartbeats 2000000
namespace Go.Dx
namespace GL
def cuts (c:UInt8):List UInt8->List (List UInt8)
 | []=>[[]]
 | b::l=>if b=c then []::cuts c l else match cuts c l with | []=>[[b]] | w::ws=>(b::w)::ws
def glue (p:List UInt8):List (List UInt8)->List (List UInt8)
 | []=>[p]
 | w::ws=>(p++w)::ws
theorem QgO (c:UInt8):∀l,cuts c l ≠ []
 | []=>by simp[cuts]
 | b::l=>by
  unfold cuts
  split
  ·simp
  ·split<;>simp
theorem QzF {ws:List (List UInt8)} (h:ws ≠ []):glue [] ws=ws:=by
 cases ws with
 | nil=>exact absurd rfl h
 | cons w ws=>rfl
theorem QcN (c b:UInt8) (l:List UInt8):cuts c (b::l)=if b=c then []::cuts c l else glue [b] (cuts c l):=by
 rw[cuts]
 split
 ·rfl
 ·split
  ·rename_i h;exact absurd h (QgO c l)
  ·rename_i h;rw[h];rfl
theorem QDx (p q:List UInt8) {ws:List (List UInt8)} (h:ws ≠ []):glue p (glue q ws)=glue (p++q) ws:=by
 cases ws with
 | nil=>exact absurd rfl h
 | cons w ws=>simp[glue]
theorem QbL (c:UInt8):∀l,(cuts c l).length<=l.length+1
 | []=>by simp[cuts]
 | b::l=>by
  have:=QbL c l
  rw[QcN]
  split
  ·simp;omega
  ·cases h:cuts c l with
   | nil=>simp[glue]
   | cons w ws=>rw[h] at this;simp[glue] at this ⊢;omega
theorem QsT (c:UInt8):∀l,Lib.split l [c]=cuts c l
 | []=>by
  unfold Lib.split
  rw[Lib.count_one];rfl
 | b::l=>by
  have ih:=QsT c l
  unfold Lib.split at ih ⊢
  rw[QcN]
  by_cases hb:b=c
  ·subst hb
   rw[if_pos rfl,Lib.count_cons_eq,Nat.add_comm,Lib.splitK]
   have hix:Lib.index (b::l) [b]=0:=by rw[Lib.index];simp[List.isPrefixOf]
   rw[hix]
   simp[ih]
  ·rw[if_neg hb,Lib.count_cons_ne b c l hb]
   have hp:([c]:List UInt8).isPrefixOf (b::l)=false:=by simp[List.isPrefixOf,Ne.symm hb]
   have hix:Lib.index (b::l) [c]=if Lib.index l [c] == -1 then -1 else Lib.index l [c]+1:=by rw[Lib.index,hp];simp
   cases hk:Lib.count l [c] with
   | zero=>rw[hk] at ih;rw[<-ih];rfl
   | succ k=>
    rw[hk] at ih
    have hm:¬Lib.index l [c] = -1:=fun h=>by rw[Lib.count_miss h] at hk;cases hk
    have hge:=Lib.index_ge l [c]
    obtain⟨j,hj⟩:∃j:Nat,Lib.index l [c]=j:=⟨(Lib.index l [c]).toNat,by omega⟩
    have hix':Lib.index (b::l) [c]=((j+1:Nat):Int):=by rw[hix,if_neg (fun e=>hm (beq_iff_eq.1 e)),hj];omega
    rw[Lib.splitK,if_neg (fun e=>hm (beq_iff_eq.1 e)),hj] at ih
    rw[Lib.splitK,if_neg (fun e=>by have:=beq_iff_eq.1 e;omega),hix',<-ih]
    simp[glue]
theorem QFi (l:List UInt8) (c:UInt8) (f:List (List UInt8)×Int×Int->Option ((List (List UInt8)×Int×Int)⊕List (List UInt8)))
  (hs:∀(i fr:Nat) (h:i<l.length) (out:List (List UInt8)),fr<=i->out.length<=i->f (out,(fr:Int),(i:Int))=some (.inl (if l[i]=c then (out++[cut (fr:Int) (i:Int) l],((i+1:Nat):Int),((i+1:Nat):Int)) else (out,(fr:Int),((i+1:Nat):Int)))))
  (he:∀(fr:Nat) (out:List (List UInt8)),fr<=l.length->out.length<=l.length->Qh f (out,(fr:Int),(l.length:Int))=some (out++[cut (fr:Int) (l.length:Int) l])) :
  (Qh f ([],0,0)).bind (fun j=>some j)=some (cuts c l):=by
 have key:∀(k i fr:Nat) (out:List (List UInt8)),i+k=l.length->fr<=i->out.length<=i->Qh f (out,(fr:Int),(i:Int))=some (out++glue ((l.drop fr).take (i - fr)) (cuts c (l.drop i))):=by
  intro k
  induction k with
  | zero=>
   intro i fr out hi hf ho
   obtain rfl:i=l.length:=by omega
   rw[he fr out hf ho,List.drop_length]
   simp[cuts,glue,cut]
  | succ k ih=>
   intro i fr out hi hf ho
   have h:i<l.length:=by omega
   rw[Zj (hs i fr h out hf ho),List.drop_eq_getElem_cons h,QcN]
   by_cases hb:l[i]=c
   ·rw[if_pos hb,if_pos hb,ih (i+1) (i+1) _ (by omega) (Nat.le_refl _) (by simp;omega),Nat.sub_self,List.take_zero,QzF (QgO _ _)]
    simp[glue,cut]
   ·rw[if_neg hb,if_neg hb,ih (i+1) fr _ (by omega) (by omega) (by omega),QDx _ _ (QgO _ _)]
    have e:i+1 - fr=(i - fr)+1:=by omega
    have h2:i - fr<(l.drop fr).length:=by rw[List.length_drop];omega
    rw[e,List.take_succ_eq_append_getElem h2]
    congr 3
    simp only[List.getElem_drop]
    congr 2
    simp only[show fr+(i - fr)=i by omega]
 have:=key l.length 0 0 [] (by omega) (Nat.le_refl _) (by simp)
 simp only[List.drop_zero,Nat.sub_zero,List.take_zero,List.nil_append,QzF (QgO _ _)] at this
 rw[show ((0:Nat):Int)=0 from rfl] at this
 rw[this];rfl
theorem Qcr (l:List UInt8) (c:UInt8) (hl:l.length<LIM):Y1 l (c.toNat:Int)=some (cuts c l):=by
 have hB:l.length<BIG:=by unfold LIM at hl;unfold BIG;omega
 unfold Y1
 refine QFi l c _ (fun i fr h out hf ho=>?_) (fun fr out hf ho=>?_)
 ·have e1:decide ((i:Int)<=(l.length:Int))=true:=decide_eq_true (by omega)
  have e2:decide ((i:Int)=(l.length:Int))=false:=decide_eq_false (by omega)
  have e3:Zp (fr:Int) (i:Int) l=true:=by unfold Zp;simp;omega
  have e4:decide (((l[i].toNat:Nat):Int)=(c.toNat:Int))=decide (l[i]=c):=by
   apply decide_eq_decide.2
   constructor
   ·intro h;exact UInt8.toNat_inj.1 (by omega)
   ·intro h;rw[h]
  simp only[e1,e2,cond_true,cond_false,Qg l i h,Qf l i _ h,e4,Option.bind_some,wsucc h hB]
  by_cases hb:l[i]=c
  ·rw[decide_eq_true hb,if_pos hb,cond_true,e3,cond_true,decide_eq_true (p:=List.length out+_<=LIM) (by simp only[List.length_cons,List.length_nil];omega)]
   rfl
  ·rw[decide_eq_false hb,if_neg hb];rfl
 ·have e1:decide ((l.length:Int)<=(l.length:Int))=true:=by simp
  have e2:decide ((l.length:Int)=(l.length:Int))=true:=by simp
  have e3:Zp (fr:Int) (l.length:Int) l=true:=by unfold Zp;simp;omega
  have e5:IntKind.wrap .i64 ((l.length:Int)+1)=((l.length+1:Nat):Int):=by rw[YK (by omega) (by unfold BIG at hB;omega)];omega
  rw[Zj (s':=(out++[cut (fr:Int) (l.length:Int) l],((l.length+1:Nat):Int),((l.length+1:Nat):Int))) (by
   simp only[e1,e2,cond_true,Option.bind_some,e3,e5]
   rw[decide_eq_true (p:=List.length out+_<=LIM) (by simp only[List.length_cons,List.length_nil];omega)];rfl)]
  refine QE ?_
  have e6:decide (((l.length+1:Nat):Int)<=(l.length:Int))=false:=decide_eq_false (by omega)
  simp only[e6,cond_false]
end GL
end Go.Dx
set_option maxHeartbeats 2000000
namespace Go.Dx
namespace GL
theorem QoT (c:UInt8):∀(w:List UInt8),c ∉ w->cuts c w=[w]
 | [],_=>rfl
 | b::w,h=>by
  rw[List.mem_cons,not_or] at h
  rw[QcN,if_neg (fun e=>h.1 e.symm),QoT c w h.2];rfl
theorem Qwb (c:UInt8):∀(a b:List UInt8),cuts c (a++c::b)=cuts c a++cuts c b
 | [],b=>by rw[List.nil_append,QcN,if_pos rfl];rfl
 | x::a,b=>by
  rw[List.cons_append,QcN,QcN,Qwb c a b]
  split
  ·rfl
  ·cases h:cuts c a with
   | nil=>exact absurd h (QgO c a)
   | cons w ws=>rfl
theorem QeS (x y:List UInt8) (r:List (List UInt8)) (c:UInt8):Lib.join (x::y::r) [c]=x++c::Lib.join (y::r) [c]:=by
 rw[Lib.join_cons,Lib.join_cons]
 simp[Lib.joinTail]
theorem QcR (c:UInt8):∀(ws:List (List UInt8)),ws ≠ []->(∀w,w ∈ ws->c ∉ w)->cuts c (Lib.join ws [c])=ws
 | [],h,_=>absurd rfl h
 | [x],_,h=>by rw[Lib.join_one];exact QoT c x (h x List.mem_cons_self)
 | x::y::r,_,h=>by
  rw[QeS,Qwb,QoT c x (h x List.mem_cons_self),QcR c (y::r) (by simp) fun w hw=>h w (List.mem_cons_of_mem _ hw)];rfl
theorem QnD (c:UInt8):∀(a b:List UInt8),c ∉ a->Lib.indexByte (a++c::b) c=(a.length:Int)
 | [],b,_=>by simp[Lib.indexByte]
 | x::a,b,h=>by
  rw[List.mem_cons,not_or] at h
  have ih:=QnD c a b h.2
  have hx:(x == c)=false:=by simpa using fun e:x=c=>h.1 e.symm
  rw[List.cons_append,Lib.indexByte,hx,ih]
  have:((a.length:Int) == -1)=false:=by simp
  rw[this]
  simp
theorem QCw (c:UInt8) (a b:List UInt8) (h:c ∉ a):Lib.cut (a++c::b) [c]=(a,b,true):=by
 unfold Lib.cut
 rw[Lib.index_one,QnD c a b h,if_pos (by omega)]
 simp
theorem Qv4 (M:Nat):∀(l r:List UInt8) (acc a:Nat),Lib.parseUintM M acc l=.ok a->Lib.parseUintM M acc (l++r)=Lib.parseUintM M a r
 | [],r,acc,a,h=>by
  simp only[Lib.parseUintM] at h
  cases h;rfl
 | c::l,r,acc,a,h=>by
  rw[List.cons_append]
  unfold Lib.parseUintM at h
  conv=>lhs;unfold Lib.parseUintM
  split at h
  ·rename_i h1
   rw[if_pos h1]
   split at h
   ·cases h
   ·rename_i h2
    rw[if_neg h2]
    split at h
    ·cases h
    ·rename_i h3
     rw[if_neg h3]
     exact Qv4 M l r _ a h
  ·cases h
theorem Qp0 (M acc d:Nat) (hd:d<10) (h1:acc<1844674407370955162) (h2:acc * 10+d<=M):Lib.parseUintM M acc [UInt8.ofNat (48+d)]=.ok (acc * 10+d):=by
 have e:(UInt8.ofNat (48+d)).toNat=48+d:=by rw[UInt8.toNat_ofNat'];omega
 unfold Lib.parseUintM
 rw[e,if_pos (by omega),if_neg (by omega),if_neg (by omega)]
 rw[show acc * 10+(48+d - 48)=acc * 10+d by omega]
 rfl
theorem QD3:∀(u:Nat),u<=9223372036854775807->Lib.parseUintM (2 ^ 64 - 1) 0 (Lib.decDigits u)=.ok u:=by
 intro u
 induction u using Nat.strongRecOn with
 | ind u ih=>
  intro hu
  by_cases h:u<10
  ·rw[Lib.decDigits_one h,Qp0 _ 0 u h (by omega) (by omega)]
   simp
  ·rw[Lib.decDigits,dif_neg h,Qv4 _ _ _ 0 (u / 10) (ih (u / 10) (by omega) (by omega)),Qp0 _ (u / 10) (u % 10) (by omega) (by omega) (by omega)]
   congr 1;omega
theorem Qrk:∀(u:Nat) (b:UInt8),b ∈ Lib.decDigits u->48<=b.toNat/\b.toNat<=57:=by
 intro u
 induction u using Nat.strongRecOn with
 | ind u ih=>
  intro b hb
  have one:∀d:Nat,d<10->(UInt8.ofNat (48+d)).toNat=48+d:=fun d hd=>by
   rw[UInt8.toNat_ofNat'];omega
  by_cases h:u<10
  ·rw[Lib.decDigits_one h,List.mem_singleton] at hb
   subst hb
   rw[one u h];omega
  ·rw[Lib.decDigits,dif_neg h] at hb
   rcases List.mem_append.1 hb with hb | hb
   ·exact ih (u / 10) (by omega) b hb
   ·rw[List.mem_singleton] at hb
    subst hb
    rw[one (u % 10) (by omega)];omega
theorem QDj {n:Int} (h0:0<=n) (h1:n<=9223372036854775807):Lib.parseIntB 64 (Lib.itoa n)=.ok n:=by
 obtain⟨m,rfl⟩:=Int.eq_ofNat_of_zero_le h0
 rw[QbN]
 have hp:=QD3 m (by omega)
 have hb:=Qrk m
 have hl:1<=(Lib.decDigits m).length:=by rw[Lib.decDigits_length];exact Lib.nDigits_pos m
 match hd:Lib.decDigits m with
 | []=>rw[hd] at hl;simp at hl
 | c::r=>
  rw[hd] at hp hb
  have hc:=hb c List.mem_cons_self
  unfold Lib.parseIntB
  simp only
  rw[if_neg (by omega)]
  unfold Lib.parseUintB
  rw[if_neg (by simp),hp]
  simp only
  rw[if_neg (by omega),if_neg (by omega),if_neg (by omega)]
theorem QeW {n:Int} (h0:0<=n) (h1:n<10000000000):numS (Lib.itoa n)=n:=by
 unfold numS
 rw[QDj h0 (by omega)]
 obtain⟨m,rfl⟩:=Int.eq_ofNat_of_zero_le h0
 have hl:(Lib.itoa (m:Int)).length<=10:=by
  rw[QbN,Lib.decDigits_length]
  exact Qe7 10 m (by omega) (by decide)
 simp[hl]
end GL
end Go.Dx
set_option maxHeartbeats 2000000
namespace Go.Dx
namespace GL
abbrev TL:=List (List UInt8)×List (Int×Int)
theorem Qao {α R:Type} (l:List α) (c:Nat->α->Int) (f:Int->Option (Int⊕(Unit⊕Int)))
  (hs:∀(i:Nat) (h:i<l.length),f (i:Int)=some (if c i l[i]=0 then .inl ((i+1:Nat):Int) else .inr (.inr (c i l[i])))) (he:f (l.length:Int)=some (.inr (.inl ()))) (A:Unit->Option R) (B:Int->Option R) :
  ((Qh f 0).bind fun j=>Sum.elim A B j)=if code c l=0 then A () else B (code c l):=by
 rw[Qbg l (fun i a=>if c i a=0 then none else some (c i a)) f (fun i h=>by rw[hs i h];by_cases hc:c i l[i]=0<;>simp[hc]) he,Qc6]
 by_cases h0:code c l=0
 ·rw[if_pos h0]
  have hz:=QcU h0
  have:first (fun i a=>if c i a=0 then none else some (c i a)) 0 l=none:=(Qhr l 0).2 (fun j a ha=>by rw[Nat.zero_add,if_pos (hz j a ha)])
  rw[this]
 ·rw[if_neg h0]
  unfold code at h0 ⊢
  cases hf:first (fun i a=>if c i a=0 then none else some (c i a)) 0 l with
  | none=>rw[hf] at h0;exact absurd rfl h0
  | some r=>rfl
theorem QmX {α β γ:Type} (g:Nat->α->Option β) (h:β->γ):∀(l:List α) (i:Nat),first (fun i a=>(g i a).map h) i l=(first g i l).map h
 | [],_=>rfl
 | a::l,i=>by
  simp only[first]
  cases g i a with
  | none=>exact QmX g h l (i+1)
  | some r=>rfl
theorem QyA (t:List UInt8):Qgh t=some (mIn (t.length:Int) 1 300):=by unfold Qgh;rw[ZB];rfl
theorem any_eq {α:Type} [DecidableEq α] (x:α) (l:List α):l.any (fun a=>decide (x=a))=decide (x ∈ l):=by
 rw[Bool.eq_iff_iff];simp
theorem any_eq' {α:Type} [DecidableEq α] (x:α) (l:List α):l.any (fun a=>decide (a=x))=decide (x ∈ l):=by
 rw[Bool.eq_iff_iff];simp
theorem Qu2 (l:List (List UInt8)) (hl:l.length<BIG) (x:List UInt8):ZP l x=some (decide (x ∈ l)):=by
 unfold ZP QO
 rw[QbQ l (fun a=>decide (x=a)) _ (fun i h=>?_) (by simp only[dge,cond_false]),Option.bind_some,ZJ,any_eq]
 ·exact congrArg some (decide_eq_decide.2 Iff.rfl)
 ·simp only[dlt h,Qg l i h,Qf l i _ h,cond_true,wsucc h hl]
  cases decide (x=l[i])<;>rfl
theorem Qkf (l:List (Int×Int)) (hl:l.length<BIG) (x:Int×Int):QZ l x=some (decide (x ∈ l)):=by
 unfold QZ Yi
 rw[QbQ l (fun a=>decide (x=a)) _ (fun i h=>?_) (by simp only[dge,cond_false]),Option.bind_some,ZJ,any_eq]
 ·exact congrArg some (decide_eq_decide.2 Iff.rfl)
 ·simp only[dlt h,Qg l i h,Qf l i _ h,cond_true,wsucc h hl,Qkp]
  cases decide (x=l[i])<;>rfl
theorem QkR (l:List (Int×Int)) (hl:l.length<BIG) (x:Int×Int):QbB l x=some (decide (x ∈ l)):=by
 unfold QbB
 rw[QqX l (fun a=>decide (a=x)) _ (fun i h=>?_) (by simp only[dge,cond_false]),any_eq']
 ·exact congrArg some (decide_eq_decide.2 Iff.rfl)
 ·simp only[dlt h,Qg l i h,Qf l i _ h,cond_true,wsucc h hl,Qkp]
  cases decide (l[i]=x)<;>rfl
theorem Qp3 (l:List (List UInt8)) (hl:l.length<BIG) (x:List UInt8):QfV l x=some (idxF (fun a=>decide (a=x)) l+1):=by
 unfold QfV
 rw[Qbg l (fun i a=>(if decide (a=x)=true then some (i:Int) else none).map (· + 1)) _ (fun i h=>?_) (by simp only[dge,cond_false]),QmX,Qc6]
 ·unfold idxF
  cases first (fun i a=>if decide (a=x)=true then some (i:Int) else none) 0 l<;>rfl
 ·simp only[dlt h,Qg l i h,Qf l i _ h,cond_true,wsucc h hl]
  cases decide (l[i]=x)<;>rfl
theorem pos_at (l:List (List UInt8)) (x:List UInt8):decide (0<idxF (fun a=>decide (a=x)) l+1)=decide (x ∈ l):=by
 have h:=ZJ (fun a=>decide (a=x)) l
 have h2:(l.any fun a=>decide (a=x))=true↔x ∈ l:=by simp
 refine decide_eq_decide.2 ⟨fun h3=>h2.1 (by rw[<-h];simp;omega),fun h3=>?_⟩
 have:=h2.2 h3
 rw[<-h] at this
 have:=of_decide_eq_true this
 omega
def mTx (l:List (List UInt8)) (i:Nat) (s:List UInt8):Int:=if mIn (s.length:Int) 1 300 then (if s ∈ l.take i then 7 else 0) else 2
def mSg (n:Int) (l:List (Int×Int)) (i:Nat) (x:Int×Int):Int:=if mIn x.1 1 999&&mIn x.2 1 n then (if x ∈ l.take i then 7 else 0) else 3
def mLF (x:TL):Int:=if (decide ((60:Int)<(x.1.length:Int)) || decide ((120:Int)<(x.2.length:Int)))=true then 2 else if code (mTx x.1) x.1=0 then code (mSg (x.1.length:Int) x.2) x.2 else code (mTx x.1) x.1
theorem QeC {α:Type} {l:List α} (hl:l.length<BIG) (i:Nat):(l.take i).length<BIG:=by rw[List.length_take];omega
theorem QoZ (x:TL) (h1:x.1.length<BIG) (h2:x.2.length<BIG):Qbn x=some (mLF x):=by
 unfold Qbn mLF
 have e:∀(p q:Bool),(bif p then some true else some q:Option Bool)=some (p || q):=by intro p q;cases p<;>rfl
 rw[e,Option.bind_some]
 cases (decide ((60:Int)<(x.1.length:Int)) || decide ((120:Int)<(x.2.length:Int))) with
 | true=>rfl
 | false=>
  rw[cond_false,if_neg (by simp),Qao x.1 (mTx x.1) _ (fun i h=>?_) (by simp only[dge,cond_false])]
  ·split
   ·refine QgR _ _ _ (fun i h=>?_) (by simp only[dge,cond_false])
    simp only[dlt h,Qg x.2 i h,Qf x.2 i _ h,QbA x.2 i (Nat.le_of_lt h),Qfm,cond_true,Qhf,ZB,Option.bind_some,wsucc h h2,Qkf _ (QeC h2 i)]
    unfold mSg
    cases mIn x.2[i].1 1 999<;>cases mIn x.2[i].2 1 (x.1.length:Int)<;>by_cases hm:x.2[i] ∈ x.2.take i<;>simp[hm]
   ·rfl
  ·simp only[dlt h,Qg x.1 i h,Qf x.1 i _ h,QbA x.1 i (Nat.le_of_lt h),Qfm,cond_true,QyA,Option.bind_some,wsucc h h1,Qu2 _ (QeC h1 i)]
   unfold mTx
   cases mIn (x.1[i].length:Int) 1 300<;>by_cases hm:x.1[i] ∈ x.1.take i<;>simp[hm]
theorem Qh0 (x:TL) (h1:x.1.length<BIG) (h2:x.2.length<BIG):Qax x=some (mLF x):=by
 unfold Qax mLF
 have e:∀(p q:Bool),(bif p then some true else some q:Option Bool)=some (p || q):=by intro p q;cases p<;>rfl
 rw[e,Option.bind_some]
 cases (decide ((60:Int)<(x.1.length:Int)) || decide ((120:Int)<(x.2.length:Int))) with
 | true=>rfl
 | false=>
  rw[cond_false,if_neg (by simp),Qao x.1 (mTx x.1) _ (fun i h=>?_) (by simp only[dge,cond_false])]
  ·split
   ·refine QgR _ _ _ (fun i h=>?_) (by simp only[dge,cond_false])
    simp only[dlt h,Qg x.2 i h,Qf x.2 i _ h,QbA x.2 i (Nat.le_of_lt h),Qfm,cond_true,Qhe,Yv,Option.bind_some,wsucc h h2,QkR _ (QeC h2 i)]
    unfold mSg
    cases mIn x.2[i].1 1 999<;>cases mIn x.2[i].2 1 (x.1.length:Int)<;>by_cases hm:x.2[i] ∈ x.2.take i<;>simp[hm]
   ·rfl
  ·simp only[dlt h,Qg x.1 i h,Qf x.1 i _ h,QbA x.1 i (Nat.le_of_lt h),Qfm,cond_true,Option.bind_some,wsucc h h1,Qp3 _ (QeC h1 i),pos_at]
   have e2:∀(n:Int),(decide (n<1) || decide (300<n)) = !mIn n 1 300:=by
    intro n;unfold mIn;rw[Bool.eq_iff_iff];simp;try omega
   rw[e,e2,Option.bind_some]
   unfold mTx
   cases mIn (x.1[i].length:Int) 1 300<;>by_cases hm:x.1[i] ∈ x.1.take i<;>simp[hm]
theorem QsI {R:Type} (a:Option R):agree a a=a:=by unfold agree;simp
theorem Qk7 {α:Type} {l:List α} (h:l.length<=LIM):decide (List.length ([]:List α)+List.length l<=LIM)=true:=by simp;omega
end GL
end Go.Dx
set_option maxHeartbeats 2000000
namespace Go.Dx
namespace GL
def Y {α:Type} (o:Option α) (Q:α->Prop):Prop:=∃a,o=some a/\Q a
theorem Y.some {α:Type} {a:α} {Q:α->Prop} (h:Q a):Y (some a) Q:=⟨a,rfl,h⟩
theorem Y.bind {α β:Type} {o:Option α} {f:α->Option β} {Q:α->Prop} {R:β->Prop} (h:Y o Q) (k:∀a,Q a->Y (f a) R):Y (o.bind f) R:=by
 obtain⟨a,rfl,ha⟩:=h
 exact k a ha
theorem Y.eqb {α β:Type} {o:Option α} {a:α} {f:α->Option β} {R:β->Prop} (h:o=Option.some a) (k:Y (f a) R):Y (o.bind f) R:=by
 subst h;exact k
theorem Y.bif {α:Type} {c:Bool} {a b:Option α} {Q:α->Prop} (h1:c=true->Y a Q) (h2:c=false->Y b Q):Y (bif c then a else b) Q:=by
 cases c
 ·exact h2 rfl
 ·exact h1 rfl
theorem Y.grd {α:Type} {c:Bool} {a b:Option α} {Q:α->Prop} (h:c=true) (h1:Y a Q):Y (bif c then a else b) Q:=by rw[h];exact h1
theorem Y.loop {S X:Type} {f:S->Option (S⊕X)} {Q:X->Prop} (I:Nat->S->Prop) (hs:∀n s,I n s->Y (f s) (fun r=>match r with | .inl s'=>∃m,m<n/\I m s' | .inr x=>Q x)):∀n s,I n s->Y (Qh f s) Q:=by
 intro n
 induction n using Nat.strongRecOn with
 | ind n ih=>
  intro s hi
  obtain⟨r,h1,h2⟩:=hs n s hi
  cases r with
  | inl s'=>
   obtain⟨m,hm,hi'⟩:=h2
   obtain⟨x,h3,h4⟩:=ih m hm s' hi'
   exact⟨x,Qjt h1 h3,h4⟩
  | inr x=>exact⟨x,QE h1,h2⟩
theorem Qmb {α:Type} (l:List α) (a:α) (h:l.length<1000000):decide (List.length l+List.length [a]<=LIM)=true:=by
 simp only[List.length_cons,List.length_nil,decide_eq_true_eq]
 unfold LIM;omega
theorem QaS {α:Type} {l:List α} {i:Int} (h0:0<=i) (h:i<(l.length:Int)):inB i l=true:=by
 simp[inB,h0,h]
def dv (l:List UInt8):Nat:=l.foldl (fun a b=>a * 10+(b.toNat - 48)) 0
theorem QGl (l:List UInt8) (b:UInt8):dv (l++[b])=dv l * 10+(b.toNat - 48):=by simp[dv]
theorem QGq:∀m:Nat,dv (Lib.decDigits m)=m:=by
 intro m
 induction m using Nat.strongRecOn with
 | ind m ih=>
  have one:∀d:Nat,d<10->(UInt8.ofNat (48+d)).toNat=48+d:=fun d hd=>by
   rw[UInt8.toNat_ofNat'];omega
  by_cases h:m<10
  ·rw[Lib.decDigits_one h]
   show 0 * 10+((UInt8.ofNat (48+m)).toNat - 48)=m
   rw[one m h];omega
  ·rw[Lib.decDigits,dif_neg h,QGl,ih (m / 10) (by omega),one (m % 10) (by omega)];omega
theorem QEU:∀(m:Nat),1<=m->∀b r,Lib.decDigits m=b::r->b.toNat ≠ 48:=by
 intro m
 induction m using Nat.strongRecOn with
 | ind m ih=>
  intro hm b r h
  by_cases h10:m<10
  ·rw[Lib.decDigits_one h10] at h
   simp only[List.cons.injEq] at h
   rw[<-h.1,UInt8.toNat_ofNat'];omega
  ·rw[Lib.decDigits,dif_neg h10] at h
   cases hd:Lib.decDigits (m / 10) with
   | nil=>
    have:=Lib.decDigits_length (m / 10)
    rw[hd] at this
    have h2:=Lib.nDigits_pos (m / 10)
    simp at this;omega
   | cons c rr=>
    rw[hd,List.cons_append] at h
    simp only[List.cons.injEq] at h
    rw[<-h.1]
    exact ih (m / 10) (by omega) (by omega) c rr hd
theorem Qmj (w:List UInt8) (n:Int) (hw:w.length<BIG):Y (QR w n) (fun _=>True):=by
 unfold QR
 refine Y.bind (Q:=fun j=>True) ?_ (fun j _=>?_)
 ·refine Y.bif (fun _=>Y.some trivial) (fun h1=>Y.bif (fun _=>Y.some trivial) (fun h2=>Y.bif (fun _=>Y.grd (QaS (by omega) ?_) (Y.some trivial)) (fun _=>Y.some trivial)))
  simp at h1;omega
 ·refine Y.bif (fun _=>Y.some trivial) (fun _=>?_)
  refine Y.bind (Q:=fun _=>True) ?_ (fun j _=>by cases j<;>exact Y.some trivial)
  refine Y.loop (fun n s=>∃i:Nat,s.2=(i:Int)/\i<=w.length/\n=w.length - i) (fun n s hI=>?_) w.length (0,0) ⟨0,rfl,by omega,by omega⟩
  obtain⟨i,hi,hle,hn⟩:=hI
  obtain⟨v,i'⟩:=s
  have hi:i'=(i:Int):=hi
  subst hi
  refine Y.bif (fun h1=>?_) (fun _=>Y.some trivial)
  have hlt:i<w.length:=by simp at h1;omega
  have hb:=Qg w i hlt
  refine Y.bind (Q:=fun _=>True) (Y.grd hb (Y.bif (fun _=>Y.some trivial) (fun _=>Y.grd hb (Y.some trivial)))) (fun j _=>Y.bif (fun _=>Y.some trivial) (fun _=>Y.grd hb (Y.some ?_)))
  exact⟨w.length - (i+1),by omega,i+1,wsucc hlt hw,by omega,rfl⟩
theorem Qmp {k:Int} (h0:0<=k) (h1:k<=9999999) (n:Nat) (hn:(Lib.itoa k).length<=n):QR (Lib.itoa k) (n:Int)=some (k,true):=by
 obtain⟨m,rfl⟩:=Int.eq_ofNat_of_zero_le h0
 rw[QbN] at hn ⊢
 have hb:=Qrk m
 have hdv:=QGq m
 have hl:1<=(Lib.decDigits m).length:=by rw[Lib.decDigits_length];exact Lib.nDigits_pos m
 have h7:(Lib.decDigits m).length<=7:=by rw[Lib.decDigits_length];exact Qe7 7 m (by omega) (by decide)
 have hhd:1<(Lib.decDigits m).length->(List.getD (Lib.decDigits m) 0 0).toNat ≠ 48:=fun h=>by
  cases hd:Lib.decDigits m with
  | nil=>rw[hd] at h;simp at h
  | cons c r=>
   have hm1:1<=m:=by
    rcases Nat.eq_zero_or_pos m with h0 | h0
    ·subst h0
     rw[Lib.decDigits_one (by omega)] at h
     simp at h
    ·exact h0
   exact QEU m hm1 c r hd
 generalize Lib.decDigits m=w at *
 have hB:w.length<BIG:=by unfold BIG;omega
 unfold QR
 rw[decide_eq_false (p:=(w.length:Int)<1) (by omega),cond_false,decide_eq_false (p:=(n:Int)<(w.length:Int)) (by omega),cond_false,QaS (i:=0) (l:=w) (by omega) (by omega),cond_true]
 have e0:(bif decide (1<(w.length:Int)) then some (decide (((w.getD (Int.toNat 0) 0).toNat:Int)=48)) else some false)=some false:=by
  by_cases h:1<w.length
  ·rw[decide_eq_true (by omega),cond_true,decide_eq_false]
   have:=hhd h
   show ¬(((w.getD 0 0).toNat:Nat):Int)=48
   omega
  ·rw[decide_eq_false (by omega),cond_false]
 rw[e0,Option.bind_some,cond_false]
 rw[show ((0:Int),(0:Int))=(((0:Nat):Int),(0:Int)) from rfl]
 rw[ZU (σ:=Nat) w (fun v b=>v * 10+(b.toNat - 48)) (fun v i=>((v:Int),i)) (fun v=>Sum.inl (v:Int)) (fun v i=>v<10 ^ i) _ (fun i hi v hv=>by
   have hbi:=hb _ (List.getElem_mem hi)
   have hp:10 ^ i<=10 ^ 6:=Nat.pow_le_pow_right (by omega) (by omega)
   have hp2:(10:Nat) ^ 6=1000000:=rfl
   refine⟨?_,?_⟩
   ·simp only[dlt hi,Qg w i hi,Qf w i _ hi,cond_true,wsucc hi hB]
    rw[decide_eq_false (p:=((w[i].toNat:Nat):Int)<48) (by omega),cond_false,decide_eq_false (p:=(57:Int)<((w[i].toNat:Nat):Int)) (by omega),Option.bind_some,cond_false]
    have e1:IntKind.wrap .u8 (((w[i].toNat:Nat):Int) - 48)=((w[i].toNat - 48:Nat):Int):=by
     rw[show ((w[i].toNat:Nat):Int) - 48=((w[i].toNat - 48:Nat):Int) by omega]
     rw[show IntKind.wrap .u8 ((w[i].toNat - 48:Nat):Int)=((w[i].toNat - 48:Nat):Int) % 256 from by simp[IntKind.wrap,IntKind.bits,IntKind.signed]]
     omega
    rw[e1,YK (n:=(v:Int) * 10) (by omega) (by omega),YK (n:=((w[i].toNat - 48:Nat):Int)) (by omega) (by omega),YK (by omega) (by omega)]
    congr 3
   ·rw[Nat.pow_succ];omega) (fun v hv=>by simp only[dge,cond_false]) 0 (by simp)]
 show some (((dv w:Nat):Int),true)=_
 rw[hdv]
theorem QgA (w:List UInt8) (h:w.length<=1000000):Yc w=some (numS w):=by
 unfold Yc numO
 rw[Nat.ble_eq.mpr h];rfl
theorem Qpo (s:List UInt8) (c:UInt8) (h:s.length<=1000000):YW s [c]=some (cuts c s):=by
 unfold YW
 rw[QD8 (by simp) (by omega),QsT]
theorem QcT (c:UInt8):∀(l:List UInt8) (w:List UInt8),w ∈ cuts c l->w.length<=l.length
 | [],w,h=>by simp[cuts] at h;subst h;simp
 | b::l,w,h=>by
  rw[QcN] at h
  split at h
  ·rcases List.mem_cons.1 h with rfl | h
   ·simp
   ·have:=QcT c l w h;simp;omega
  ·have ih:=QcT c l
   cases hc:cuts c l with
   | nil=>exact absurd hc (QgO c l)
   | cons a r=>
    rw[hc] at h ih
    simp only[glue] at h
    rcases List.mem_cons.1 h with rfl | h
    ·have:=ih a List.mem_cons_self;simp;omega
    ·have:=ih w (List.mem_cons_of_mem _ h);simp;omega
theorem QcW (c:UInt8) (l:List UInt8) (i:Nat):(List.getD (cuts c l) i []).length<=l.length:=by
 rw[List.getD_eq_getElem?_getD]
 cases h:(cuts c l)[i]? with
 | none=>simp
 | some w=>exact QcT c l w (List.mem_of_getElem? h)
theorem QEf (s:List UInt8) (c:UInt8) (h:s.length<=100000):Qfk s [c]=some ((cuts c s).map numS):=by
 unfold Qfk
 have hlen:=QbL c s
 rw[Qpo s c (by omega),Option.bind_some]
 rw[ZU (σ:=List Int) (cuts c s) (fun acc a=>acc++[numS a]) (fun t i=>(t,i)) (fun t=>t) (fun t i=>t.length=i) _ (fun i hi t ht=>by
   refine⟨?_,by simp[ht]⟩
   have hw:=QcT c s _ (List.getElem_mem hi)
   simp only[dlt hi,Qg _ i hi,Qf _ i _ hi,cond_true,QgA _ (show ((cuts c s)[i]).length<=1000000 by omega),Option.bind_some,wsucc hi (by unfold BIG;omega)]
   rw[QM (by simp only[List.length_cons,List.length_nil];unfold LIM;omega)];rfl) (fun t ht=>by simp only[dge,cond_false]) [] rfl,Option.bind_some,foldl_map,List.nil_append]
end GL
end Go.Dx
set_option maxHeartbeats 2000000
namespace Go.Dx
namespace GL
theorem QDC {n:Int} (h0:0<=n) {b:UInt8} (hb:b ∈ Lib.itoa n):48<=b.toNat/\b.toNat<=57:=by
 obtain⟨m,rfl⟩:=Int.eq_ofNat_of_zero_le h0
 rw[QbN] at hb
 exact Qrk m b hb
theorem Qau {n:Int} (h0:0<=n) (c:UInt8) (hc:c.toNat<48\/57<c.toNat):c ∉ Lib.itoa n:=fun h=>by
 have:=QDC h0 h;omega
theorem Qbz (x:List UInt8) (r:List (List UInt8)) (c:UInt8) (hr:r ≠ []):Lib.join (x::r) [c]=x++c::Lib.join r [c]:=by
 cases r with
 | nil=>exact absurd rfl hr
 | cons y r=>exact QeS x y r c
theorem QF3 (l:List Int) (h:∀k,k ∈ l->0<=k) (c:UInt8) (hc:c.toNat<48\/57<c.toNat) (hc2:c ≠ 44):c ∉ J9 l [44]:=by
 unfold J9
 induction l with
 | nil=>simp[Lib.join_nil]
 | cons a l ih=>
  have ha:=Qau (h a List.mem_cons_self) c hc
  have ih:=ih fun k hk=>h k (List.mem_cons_of_mem _ hk)
  cases l with
  | nil=>rw[List.map_cons,List.map_nil,Lib.join_one];exact ha
  | cons b l=>
   rw[List.map_cons,Qbz _ _ _ (by simp),List.mem_append,List.mem_cons]
   rintro (h1 | h1 | h1)
   ·exact ha h1
   ·exact hc2 h1
   ·exact ih h1
theorem Qwa (l:List Int) (hl:l ≠ []) (h:∀k,k ∈ l->0<=k):cuts 44 (J9 l [44])=l.map Lib.itoa:=by
 unfold J9
 refine QcR 44 _ (by simpa using hl) fun w hw=>?_
 obtain⟨k,hk,rfl⟩:=List.mem_map.1 hw
 exact Qau (h k hk) 44 (by decide)
def Qhx (r:TRu):List (List UInt8):=[Lib.itoa r.2.1,[111,102],J9 r.1 [44]]++(if r.2.2=0 then [] else [[97,102,116,101,114],Lib.itoa r.2.2])
structure Blank (b:UInt8):Prop where
 d:b.toNat<48\/57<b.toNat
 c:b ≠ 44
 o:b ≠ 111/\b ≠ 102/\b ≠ 97/\b ≠ 116/\b ≠ 101/\b ≠ 114
theorem QgP:Blank 32:=⟨by decide,by decide,by decide⟩
theorem QCm:Blank 95:=⟨by decide,by decide,by decide⟩
theorem Qqk {r:TRu} (h:okR r) {b:UInt8} (hb:Blank b):∀w,w ∈ Qhx r->b ∉ w:=by
 have hof:b ∉ ([111,102]:List UInt8):=by
  have:=hb.o
  simp[this.1,this.2.1]
 have haf:b ∉ ([97,102,116,101,114]:List UInt8):=by
  have:=hb.o
  simp[this]
 have h1:=Qau (n:=r.2.1) (by have:=h.need;omega) b hb.d
 have h2:=Qau (n:=r.2.2) (by have:=h.after;omega) b hb.d
 have h3:=QF3 r.1 (fun k hk=>by have:=h.keys k hk;omega) b hb.d hb.c
 intro w hw
 unfold Qhx at hw
 split at hw<;>simp only[List.append_nil,List.cons_append,List.nil_append,List.mem_cons,List.not_mem_nil,or_false] at hw
 ·rcases hw with rfl | rfl | rfl<;>assumption
 ·rcases hw with rfl | rfl | rfl | rfl | rfl<;>assumption
theorem QiZ (r:TRu) (b:UInt8):Lib.join (Qhx r) [b]=Qx r [b]:=by
 unfold Qhx Qx
 split
 ·rw[List.append_nil,Qbz _ _ _ (by simp),Qbz _ _ _ (by simp),Lib.join_one];simp
 ·simp only[List.cons_append,List.nil_append]
  rw[Qbz _ _ _ (by simp),Qbz _ _ _ (by simp),Qbz _ _ _ (by simp),Qbz _ _ _ (by simp),Lib.join_one];simp
theorem QDr {r:TRu} (h:okR r) {b:UInt8} (hb:Blank b):cuts b (Qx r [b])=Qhx r:=by
 rw[<-QiZ]
 exact QcR b _ (by unfold Qhx;simp) (Qqk h hb)
theorem Qtc {r:TRu} (h:okR r) {b c:UInt8} (hc:Blank c) (hbc:c ≠ b):c ∉ Qx r [b]:=by
 rw[<-QiZ]
 have hw:=Qqk h hc
 have:∀ws:List (List UInt8),(∀w,w ∈ ws->c ∉ w)->c ∉ Lib.join ws [b]:=by
  intro ws
  induction ws with
  | nil=>intro _;simp[Lib.join_nil]
  | cons x ws ih=>
   intro h
   cases ws with
   | nil=>rw[Lib.join_one];exact h x List.mem_cons_self
   | cons y ws=>
    rw[Qbz _ _ _ (by simp),List.mem_append,List.mem_cons]
    rintro (h1 | h1 | h1)
    ·exact h x List.mem_cons_self h1
    ·exact hbc h1
    ·exact ih (fun w hw=>h w (List.mem_cons_of_mem _ hw)) h1
 exact this _ hw
def swp (a b:UInt8) (l:List UInt8):List UInt8:=l.map fun c=>if c=a then b else c
theorem QEt (l:List UInt8) (a b:UInt8) (h:l.length<=1000000):Qae l (a.toNat:Int) (b.toNat:Int)=some (swp a b l):=by
 unfold Qae swpS
 rw[Nat.ble_eq.mpr h,decide_eq_true (by have:=b.toNat_lt;omega)]
 show some _=_
 congr 1
 unfold swp
 refine List.map_congr_left fun c _=>?_
 by_cases hc:c=a
 ·subst hc
  rw[if_pos rfl,if_pos rfl]
  apply UInt8.toNat_inj.1
  rw[UInt8.toNat_ofNat']
  have:=b.toNat_lt
  omega
 ·rw[if_neg hc,if_neg fun h=>hc (UInt8.toNat_inj.1 (by omega))]
theorem QAG {a b:UInt8} {l:List UInt8} (h:a ∉ l):swp a b l=l:=by
 unfold swp
 have:∀c,c ∈ l->(if c=a then b else c)=id c:=fun c hc=>if_neg (fun e:c=a=>h (e ▸ hc))
 rw[List.map_congr_left this,List.map_id]
theorem QzR {a b:UInt8}:∀ws:List (List UInt8),(∀w,w ∈ ws->a ∉ w)->swp a b (Lib.join ws [a])=Lib.join ws [b]
 | [],_=>by simp[Lib.join_nil,swp]
 | [x],h=>by rw[Lib.join_one,Lib.join_one];exact QAG (h x List.mem_cons_self)
 | x::y::r,h=>by
  rw[QeS,QeS]
  have h1:=QAG (b:=b) (h x List.mem_cons_self)
  have h2:=QzR (b:=b) (y::r) fun w hw=>h w (List.mem_cons_of_mem _ hw)
  unfold swp at h1 h2 ⊢
  rw[List.map_append,List.map_cons,h1,h2,if_pos rfl]
theorem Qzc {r:TRu} (h:okR r) {a b:UInt8} (ha:Blank a):swp a b (Qx r [a])=Qx r [b]:=by
 rw[<-QiZ,<-QiZ]
 exact QzR _ (Qqk h ha)
def QyW (s:List UInt8) (b:UInt8) (x:TRu×Bool):Prop:=x.1.1.length<=s.length+1/\∀r',Zi r'=0->Qx r' [b]=s->x=(r',true)
theorem QeL {r:TRu} (h:Zi r=0) (b:UInt8):(Qx r [b]).length<=120:=QBp (Jn h) [b] (by simp)
theorem JC {r':TRu} (hr:Zi r'=0) {s:List UInt8} {b:UInt8} (hb:Blank b) (hs:Qx r' [b]=s):cuts b s=Qhx r':=by
 rw[<-hs];exact QDr (Jn hr) hb
theorem QgH (r:TRu):(Qhx r).length=if r.2.2=0 then 3 else 5:=by
 unfold Qhx;split<;>rfl
theorem QDg (s:List UInt8) (b:UInt8) (hb:Blank b) (hs:s.length<=100000):Y (Qet s [b]) (QyW s b):=by
 have hlen:=QbL b s
 have hin:∀i:Nat,i<(cuts b s).length->inB (i:Int) (cuts b s)=true:=fun i h=>Qg _ i h
 unfold Qet
 refine Y.eqb (Qpo s b (by omega)) ?_
 have hno:(∀r',Zi r'=0->Qx r' [b]=s->False)->QyW s b (([],(0,0)),false):=fun h=>⟨by simp,fun r' h1 h2=>(h r' h1 h2).elim⟩
 have hn:∀i:Nat,(List.getD (cuts b s) i []).length<=s.length:=QcW b s
 refine Y.bind (Q:=fun j=>(j=false->((cuts b s).length=3\/(cuts b s).length=5))/\(j=true->∀r',Zi r'=0->Qx r' [b]=s->False)) ?_ (fun j hj=>?_)
 ·refine Y.bif (fun h1=>Y.some ⟨(fun h=>by cases h),fun _ r' h2 h3=>?_⟩) (fun _=>Y.bif (fun h1=>Y.some ⟨(fun h=>?_),(fun h r' h2 h3=>?_)⟩) (fun h1=>Y.some ⟨(fun _=>.inl ?_),(fun h=>by cases h)⟩))
  ·have:=QeL h2 b;rw[h3] at this;simp at h1;omega
  ·right;simp at h;omega
  ·have hw:=JC h2 hb h3
   have hl:=QgH r'
   rw[<-hw] at hl
   simp at h h1
   split at hl<;>omega
  ·simp at h1;omega
 ·obtain⟨hj1,hj2⟩:=hj
  refine Y.bif (fun h=>Y.some (hno (hj2 h))) (fun h=>?_)
  have h35:=hj1 h
  refine Y.grd (hin 0 (by omega)) (Y.eqb (QgA _ (by have:=hn 0;show (List.getD (cuts b s) 0 []).length<=_;omega)) (Y.grd (hin 2 (by omega)) (Y.eqb (QEf _ 44 (by have:=hn 2;show (List.getD (cuts b s) 2 []).length<=_;omega)) ?_)))
  have hk:=QbL 44 (List.getD (cuts b s) 2 [])
  have hk2:=hn 2
  refine Y.bind (Q:=fun (x:TRu)=>x.1.length<=s.length+1/\∀r',Zi r'=0->Qx r' [b]=s->x=r') ?_ (fun x hx=>?_)
  ·have comp:∀r',Zi r'=0->Qx r' [b]=s->numS (List.getD (cuts b s) (Int.toNat 0) [])=r'.2.1/\(cuts 44 (List.getD (cuts b s) (Int.toNat 2) [])).map numS=r'.1:=fun r' h2 h3=>by
    have ho:=Jn h2
    rw[JC h2 hb h3]
    refine⟨?_,?_⟩
    ·show numS (Lib.itoa r'.2.1)=_
     exact QeW (by have:=ho.need;omega) (by have:=ho.need;omega)
    ·show (cuts 44 (J9 r'.1 [44])).map numS=_
     rw[Qwa r'.1 (fun e=>by have:=ho.len;rw[e] at this;simp at this) (fun k hk=>by have:=ho.keys k hk;omega),List.map_map]
     have hid:∀k,k ∈ r'.1->(numS ∘ Lib.itoa) k=id k:=fun k hk=>QeW (by have:=ho.keys k hk;omega) (by have:=ho.keys k hk;omega)
     rw[List.map_congr_left hid,List.map_id]
   refine Y.bif (fun h5=>?_) (fun h5=>?_)
   ·have h5:(cuts b s).length=5:=by simp at h5;omega
    refine Y.grd (hin 4 (by omega)) (Y.eqb (QgA _ (by have:=hn 4;show (List.getD (cuts b s) 4 []).length<=_;omega)) (Y.some ⟨by show (List.map numS _).length<=_;rw[List.length_map];show (cuts 44 (List.getD (cuts b s) 2 [])).length<=_;omega,fun r' h2 h3=>?_⟩))
    obtain⟨c1,c2⟩:=comp r' h2 h3
    have hw:=JC h2 hb h3
    have hl:=QgH r'
    rw[<-hw,h5] at hl
    have ha:r'.2.2 ≠ 0:=fun e=>by rw[if_pos e] at hl;omega
    have ho:=Jn h2
    rw[c1,c2]
    show (r'.1,r'.2.1,numS (List.getD (cuts b s) 4 []))=r'
    rw[hw]
    unfold Qhx
    rw[if_neg ha]
    show (r'.1,r'.2.1,numS (Lib.itoa r'.2.2))=r'
    rw[QeW (by have:=ho.after;omega) (by have:=ho.after;omega)]
   ·have h3:(cuts b s).length=3:=by simp at h5;omega
    refine Y.some ⟨by show (List.map numS _).length<=_;rw[List.length_map];show (cuts 44 (List.getD (cuts b s) 2 [])).length<=_;omega,fun r' h2 h4=>?_⟩
    obtain⟨c1,c2⟩:=comp r' h2 h4
    have hl:=QgH r'
    rw[<-JC h2 hb h4,h3] at hl
    have ha:r'.2.2=0:=by
     by_cases e:r'.2.2=0
     ·exact e
     ·rw[if_neg e] at hl;omega
    rw[c1,c2,<-ha]
  ·obtain⟨hx1,hx2⟩:=hx
   refine Y.bind (Q:=fun j=>j=true->∀r',Zi r'=0->Qx r' [b]=s->False) ?_ (fun j hj=>?_)
   ·refine Y.eqb (Qgx x (by unfold BIG;omega)) ?_
    refine Y.bif (fun h1=>Y.some (fun _ r' h2 h3=>?_)) (fun h1=>?_)
    ·rw[hx2 r' h2 h3] at h1;simp[h2] at h1
    ·have h0:Zi x=0:=by simpa using h1
     refine Y.eqb (Qke (Jn h0) [b] (by simp)) (Y.some (fun h r' h2 h3=>?_))
     rw[hx2 r' h2 h3] at h
     simp[h3] at h
   ·refine Y.bif (fun h=>Y.some (hno (hj h))) (fun h=>Y.some ⟨hx1,fun r' h2 h3=>by rw[hx2 r' h2 h3]⟩)
theorem QDA (s:List UInt8) (hs:s.length<=100000):Y (Qe4 s) (QyW s 32):=by
 have hlen:=QbL 32 s
 have hin:∀i:Nat,i<(cuts 32 s).length->inB (i:Int) (cuts 32 s)=true:=fun i h=>Qg _ i h
 have hn:∀i:Nat,(List.getD (cuts 32 s) i []).length<=s.length:=QcW 32 s
 have hno:(∀r',Zi r'=0->Qx r' [32]=s->False)->QyW s 32 (([],(0,0)),false):=fun h=>⟨by simp,fun r' h1 h2=>(h r' h1 h2).elim⟩
 have yn:∀(i:Nat) (n:Nat),Y (QR (List.getD (cuts 32 s) i []) (n:Int)) (fun r=>∀k,0<=k->k<=9999999->List.getD (cuts 32 s) i []=Lib.itoa k->(Lib.itoa k).length<=n->r=(k,true)):=fun i n=>by
  obtain⟨r,h1,_⟩:=Qmj (List.getD (cuts 32 s) i []) (n:Int) (by have:=hn i;unfold BIG;omega)
  refine⟨r,h1,fun k h0 h9 hk hl=>?_⟩
  rw[hk,Qmp h0 h9 n hl] at h1
  exact (Option.some.inj h1).symm
 have il:∀(k:Int) (n:Nat),0<=k->k<10 ^ n->1<=n->(Lib.itoa k).length<=n:=fun k n h0 h1 hn=>by
  obtain⟨m,rfl⟩:=Int.eq_ofNat_of_zero_le h0
  rw[QbN,Lib.decDigits_length]
  refine Qe7 n m ?_ hn
  have:((10:Int) ^ n)=(((10:Nat) ^ n:Nat):Int):=by norm_cast
  omega
 unfold Qe4
 refine Y.eqb (Qcr s 32 (by unfold LIM;omega)) ?_
 refine Y.bind (Q:=fun j=>(j=false->((cuts 32 s).length=3\/(cuts 32 s).length=5))/\(j=true->∀r',Zi r'=0->Qx r' [32]=s->False)) ?_ (fun j hj=>?_)
 ·have word:∀r',Zi r'=0->Qx r' [32]=s->(!decide (List.getD (cuts 32 s) (Int.toNat 1) []=[111,102]))=false:=fun r' h2 h3=>by
   rw[JC h2 QgP h3]
   show (!decide (([111,102]:List UInt8)=[111,102]))=false
   rfl
  refine Y.bif (fun h1=>Y.bif (fun h2=>Y.some ⟨(fun h=>by cases h),(fun _ r' h3 h4=>?_)⟩) (fun h2=>Y.grd (hin 1 ?_) (Y.some ⟨(fun _=>.inr ?_),(fun h r' h3 h4=>?_)⟩))) (fun h1=>Y.grd (hin 1 ?_) (Y.some ⟨(fun _=>.inl ?_),(fun h r' h3 h4=>?_)⟩))
  ·have hl:=QgH r'
   rw[<-JC h3 QgP h4] at hl
   simp at h1 h2
   split at hl<;>omega
  ·simp at h2;omega
  ·simp at h2;omega
  ·rw[word r' h3 h4] at h;cases h
  ·simp at h1;omega
  ·simp at h1;omega
  ·rw[word r' h3 h4] at h;cases h
 ·obtain⟨hj1,hj2⟩:=hj
  refine Y.bif (fun h=>Y.some (hno (hj2 h))) (fun h=>?_)
  have h35:=hj1 h
  refine Y.grd (hin 0 (by omega)) (Y.bind (yn 0 1) (fun a ha=>Y.grd (hin 2 (by omega)) (Y.eqb (Qcr _ 44 (by have:=hn 2;show (List.getD (cuts 32 s) 2 []).length<_;unfold LIM;omega)) ?_)))
  have hk:=QbL 44 (List.getD (cuts 32 s) 2 [])
  have hk2:=hn 2
  obtain⟨ks,hks⟩:∃ks,ks=cuts 44 (List.getD (cuts 32 s) (Int.toNat 2) []):=⟨_,rfl⟩
  have hks':ks=cuts 44 (List.getD (cuts 32 s) 2 []):=hks
  rw[<-hks]
  rw[<-hks'] at hk
  have hcm:∀r',Zi r'=0->Qx r' [32]=s->ks=r'.1.map Lib.itoa:=fun r' h2 h3=>by
   have ho:=Jn h2
   rw[hks',JC h2 QgP h3]
   exact Qwa r'.1 (fun e=>by have:=ho.len;rw[e] at this;simp at this) (fun k hk=>by have:=ho.keys k hk;omega)
  have hca:∀r',Zi r'=0->Qx r' [32]=s->a=(r'.2.1,true):=fun r' h2 h3=>by
   have ho:=Jn h2
   refine ha r'.2.1 (by have:=ho.need;omega) (by have:=ho.need;omega) (by rw[JC h2 QgP h3];rfl) (il _ 1 (by have:=ho.need;omega) (by have:=ho.need;omega) (by omega))
  refine Y.bind (Q:=fun (x:Bool×TRu)=>x.2.1.length<=s.length+1/\∀r',Zi r'=0->Qx r' [32]=s->x=(true,r'.1,r'.2.1,0)) ?_ (fun x hx=>?_)
  ·refine Y.loop (fun n (st:Bool×Int×List Int×Int×Int)=>∃i:Nat,st.2.1=(i:Int)/\i<=ks.length/\n=ks.length - i/\st.2.2.1.length=i/\∀r',Zi r'=0->Qx r' [32]=s->st.1=true/\st.2.2=(r'.1.take i,r'.2.1,0)) (fun n st hI=>?_) ks.length _ ⟨0,rfl,by omega,by omega,rfl,fun r' h2 h3=>by rw[hca r' h2 h3];exact⟨rfl,by simp⟩⟩
   obtain⟨i,hi,hle,hnn,hac,hcomp⟩:=hI
   obtain⟨ok,i',acc,nd,af⟩:=st
   have hi:i'=(i:Int):=hi
   subst hi
   have hac:acc.length=i:=hac
   refine Y.bif (fun h1=>?_) (fun h1=>Y.some ⟨by show acc.length<=_;omega,fun r' h2 h3=>?_⟩)
   ·have hlt:i<ks.length:=by simp at h1;omega
    have hwl:(ks[i]).length<=s.length:=by
     have:ks[i] ∈ cuts 44 (List.getD (cuts 32 s) 2 []):=hks' ▸ List.getElem_mem hlt
     have:=QcT 44 _ _ this;omega
    have hg:List.getD ks (Int.toNat (i:Int)) []=ks[i]:=Qf ks i _ hlt
    refine Y.grd (Qg _ i hlt) ?_
    have yk:Y (QR (List.getD ks (Int.toNat (i:Int)) []) 3) (fun y=>∀r',Zi r'=0->Qx r' [32]=s->∃hr:i<r'.1.length,y=(r'.1[i],true)):=by
     obtain⟨y,h4,_⟩:=Qmj (List.getD ks (Int.toNat (i:Int)) []) 3 (by rw[hg];unfold BIG;omega)
     refine⟨y,h4,fun r' h2 h3=>?_⟩
     have hm:=hcm r' h2 h3
     have hr:i<r'.1.length:=by rw[hm] at hlt;simpa using hlt
     have ho:=(Jn h2).keys _ (List.getElem_mem hr)
     have e:ks[i]=Lib.itoa r'.1[i]:=by rw[List.getElem_of_eq hm hlt];simp
     rw[hg,e] at h4
     have:=Qmp (k:=r'.1[i]) (by omega) (by omega) 3 (il _ 3 (by omega) (by omega) (by omega))
     have h4':QR (Lib.itoa r'.1[i]) ((3:Nat):Int)=some y:=h4
     rw[this] at h4'
     exact⟨hr,(Option.some.inj h4').symm⟩
    refine Y.bind yk (fun y hy=>?_)
    refine Y.bind (Q:=fun j=>∀r',Zi r'=0->Qx r' [32]=s->j=true) ?_ (fun j hj=>?_)
    ·refine Y.bif (fun h5=>Y.some (fun r' h2 h3=>by obtain⟨_,e⟩:=hy r' h2 h3;rw[e])) (fun h5=>Y.some (fun r' h2 h3=>?_))
     have:=(hcomp r' h2 h3).1
     rw[this] at h5;cases h5
    ·refine Y.grd (Qmb _ _ (by show acc.length<_;omega)) (Y.some ?_)
     refine⟨ks.length - (i+1),by omega,i+1,wsucc hlt (by unfold BIG;omega),by omega,rfl,by show (List.append acc [y.1]).length=_;simp[hac],fun r' h2 h3=>⟨hj r' h2 h3,?_⟩⟩
     obtain⟨hr,e⟩:=hy r' h2 h3
     have hc2:=(hcomp r' h2 h3).2
     simp only[Prod.mk.injEq] at hc2
     show (List.append acc [y.1],nd,af)=_
     rw[e,hc2.1,hc2.2.1,hc2.2.2,List.take_add_one,List.getElem?_eq_getElem hr]
     rfl
   ·have hge:i=ks.length:=by simp at h1;omega
    obtain⟨c1,c2⟩:=hcomp r' h2 h3
    have hkl:ks.length=r'.1.length:=by rw[hcm r' h2 h3];simp
    show (ok,acc,nd,af)=_
    have c1:ok=true:=c1
    have c2:(acc,nd,af)=(r'.1.take i,r'.2.1,0):=c2
    rw[c1,c2,hge,hkl,List.take_length]
  ·obtain⟨hx1,hx2⟩:=hx
   refine Y.bind (Q:=fun (z:Bool×TRu)=>z.2.1.length<=s.length+1/\∀r',Zi r'=0->Qx r' [32]=s->z=(true,r')) ?_ (fun z hz=>?_)
   ·refine Y.bif (fun h5=>?_) (fun h5=>?_)
    ·have h5:(cuts 32 s).length=5:=by simp at h5;omega
     refine Y.grd (hin 4 (by omega)) (Y.bind (yn 4 3) (fun y hy=>?_))
     have wd:∀r',Zi r'=0->Qx r' [32]=s->r'.2.2 ≠ 0/\cuts 32 s=[Lib.itoa r'.2.1,[111,102],J9 r'.1 [44],[97,102,116,101,114],Lib.itoa r'.2.2]:=fun r' h2 h3=>by
      have hw:=JC h2 QgP h3
      have hl:=QgH r'
      rw[<-hw,h5] at hl
      have hne:r'.2.2 ≠ 0:=fun e=>by rw[if_pos e] at hl;omega
      refine⟨hne,?_⟩
      rw[hw];unfold Qhx;rw[if_neg hne];rfl
     have hya:∀r',Zi r'=0->Qx r' [32]=s->y=(r'.2.2,true):=fun r' h2 h3=>by
      have ho:=(Jn h2).after
      exact hy r'.2.2 (by omega) (by omega) (by rw[(wd r' h2 h3).2];rfl) (il _ 3 (by omega) (by omega) (by omega))
     refine Y.bind (Q:=fun j=>∀r',Zi r'=0->Qx r' [32]=s->j=true) ?_ (fun j hj=>Y.some ⟨hx1,fun r' h2 h3=>by rw[hj r' h2 h3,hx2 r' h2 h3,hya r' h2 h3]⟩)
     refine Y.bif (fun _=>Y.bif (fun _=>Y.grd (hin 3 (by omega)) (Y.bif (fun _=>Y.some (fun r' h2 h3=>?_)) (fun h6=>Y.some (fun r' h2 h3=>?_)))) (fun h6=>Y.some (fun r' h2 h3=>?_))) (fun h6=>Y.some (fun r' h2 h3=>?_))
     ·have ho:=(Jn h2).after
      have:=(wd r' h2 h3).1
      rw[hya r' h2 h3];simp;omega
     ·rw[(wd r' h2 h3).2] at h6
      simp at h6
     ·rw[hya r' h2 h3] at h6;cases h6
     ·rw[hx2 r' h2 h3] at h6;cases h6
    ·have h3':(cuts 32 s).length=3:=by simp at h5;omega
     refine Y.some ⟨hx1,fun r' h2 h3=>?_⟩
     have hl:=QgH r'
     rw[<-JC h2 QgP h3,h3'] at hl
     have hz:r'.2.2=0:=by
      by_cases e:r'.2.2=0
      ·exact e
      ·rw[if_neg e] at hl;omega
     rw[hx2 r' h2 h3,<-hz]
   ·obtain⟨hz1,hz2⟩:=hz
    refine Y.bind (Q:=fun (u:Bool×TRu)=>u.2.1.length<=s.length+1/\∀r',Zi r'=0->Qx r' [32]=s->u=(true,r')) ?_ (fun u hu=>Y.some ⟨hu.1,fun r' h2 h3=>by rw[hu.2 r' h2 h3]⟩)
    refine Y.bif (fun _=>Y.eqb (QhQ z.2 (by unfold BIG;omega)) (Y.some ⟨hz1,fun r' h2 h3=>by rw[hz2 r' h2 h3];simp[h2]⟩)) (fun h6=>Y.some ⟨hz1,fun r' h2 h3=>?_⟩)
    rw[hz2 r' h2 h3] at h6;cases h6
end GL
end Go.Dx
set_option maxHeartbeats 2000000
namespace Go.Dx
namespace GL
abbrev TX:=Int×Int×List (Int×Int)×List TOut
theorem Qfz (l:List (Int×Int)) (hl:l.length<BIG) (x:Int×Int):Qu l x=some (decide (x ∈ l)):=by
 unfold Qu Yw
 rw[QbQ l (fun a=>decide (x=a)) _ (fun i h=>?_) (by simp only[dge,cond_false]),Option.bind_some,ZJ,any_eq]
 ·exact congrArg some (decide_eq_decide.2 Iff.rfl)
 ·simp only[dlt h,Qg l i h,Qf l i _ h,cond_true,wsucc h hl,Qkp]
  cases decide (x=l[i])<;>rfl
theorem Qat (l:List (Int×Int)) (hl:l.length<BIG) (x:Int×Int):YG l x=some (decide (x ∈ l)):=by
 unfold YG
 rw[QqX l (fun a=>decide (a=x)) _ (fun i h=>?_) (by simp only[dge,cond_false]),any_eq']
 ·exact congrArg some (decide_eq_decide.2 Iff.rfl)
 ·simp only[dlt h,Qg l i h,Qf l i _ h,cond_true,wsucc h hl,Qkp]
  cases decide (l[i]=x)<;>rfl
def mRf (l:List (Int×Int)) (i:Nat) (r:Int×Int):Int:=if mRef r then (if r ∈ l.take i then 7 else 0) else 3
def mTxO (t:TX):Int:=if code (fun _ o=>mOut o) t.2.2.2=0 then (if t.1=1/\(List.getD t.2.2.2 0 (0,([],(0,0)))).1<100 then 8 else 0) else code (fun _ o=>mOut o) t.2.2.2
def mTxF (t:TX):Int:=if mIn t.1 0 2&&(decide (t.1=0) == decide (t.2.1=0)) then (if decide (t.1=0) || mIn t.2.1 1 999 then (if mIn (t.2.2.1.length:Int) 1 4&&mIn (t.2.2.2.length:Int) 1 4 then (if code (mRf t.2.2.1) t.2.2.1=0 then mTxO t else code (mRf t.2.2.1) t.2.2.1) else 2) else 3) else 1
structure bT (t:TX):Prop where
 ins:t.2.2.1.length<BIG
 outs:t.2.2.2.length<BIG
 keys:∀o,o ∈ t.2.2.2->o.2.1.length<BIG
theorem QsY (o:TOut) (hl:o.2.1.length<BIG):J0 o=some (mOut o):=by
 unfold J0 mOut
 rw[ZB,Option.bind_some,Qgx _ hl]
 cases mIn o.1 1 1000000<;>rfl
theorem QAJ (n:Int):Qag n=some (!mIn n 1 4):=by
 unfold Qag
 have e2:(decide (n<1) || decide (4<n)) = !mIn n 1 4:=by
  unfold mIn;rw[Bool.eq_iff_iff];simp;try omega
 rw[<-e2]
 cases decide (n<1)<;>rfl
theorem QCe (t:TX) (h:0<t.2.2.2.length):((bif decide (t.1=1) then bif inB 0 t.2.2.2 then some (decide ((List.getD t.2.2.2 (Int.toNat 0) (0,([],(0,0)))).1<100)) else none else some false:Option Bool).bind fun j=>bif j then some (8:Int) else some 0)=some (if t.1=1/\(List.getD t.2.2.2 0 (0,([],(0,0)))).1<100 then 8 else 0):=by
 by_cases h1:t.1=1
 ·rw[decide_eq_true h1,cond_true,QaS (by omega) (by omega),cond_true,Option.bind_some]
  show (bif decide ((List.getD t.2.2.2 0 (0,([],(0,0)))).1<100) then some (8:Int) else some 0)=_
  by_cases h2:(List.getD t.2.2.2 0 (0,([],(0,0)))).1<100
  ·rw[decide_eq_true h2,if_pos ⟨h1,h2⟩];rfl
  ·rw[decide_eq_false h2,if_neg (fun h=>h2 h.2)];rfl
 ·rw[decide_eq_false h1,if_neg (fun h=>h1 h.1)];rfl
theorem Qnc (t:TX) (hb:bT t) (h:0<t.2.2.2.length):Qf8 t=some (mTxO t):=by
 unfold Qf8 mTxO
 rw[Qao t.2.2.2 (fun _ o=>mOut o) _ (fun i h=>?_) (by simp only[dge,cond_false]),QCe t h]
 ·split<;>rfl
 ·have hk:=hb.keys _ (List.getElem_mem h)
  simp only[dlt h,Qg _ i h,Qf _ i _ h,cond_true,Yv,QhQ _ hk,Option.bind_some,wsucc h hb.outs]
  unfold mOut
  cases mIn t.2.2.2[i].1 1 1000000
  ·rfl
  ·by_cases h3:Zi t.2.2.2[i].2=0
   ·rw[decide_eq_true h3];simp[h3]
   ·rw[decide_eq_false h3];simp[h3]
theorem Qh5 (t:TX) (hb:bT t):Qaz t=some (mTxF t):=by
 unfold Qaz mTxF
 simp only[Yv,Qhe,Option.bind_some,beqB]
 cases h1:mIn t.1 0 2
 ·rfl
 ·simp only[Bool.not_true,cond_false,Option.bind_some,Bool.true_and]
  by_cases h2:decide (t.1=0)=decide (t.2.1=0)
  ·rw[decide_eq_true h2,beq_iff_eq.2 h2,if_pos rfl]
   simp only[Bool.not_true,cond_false]
   by_cases h3:t.1=0
   all_goals skip
   ·rw[decide_eq_true h3]
    simp only[Bool.not_true,cond_false,Option.bind_some,Bool.true_or,if_true]
    cases h4:mIn (t.2.2.1.length:Int) 1 4<;>cases h5:mIn (t.2.2.2.length:Int) 1 4<;>try rfl
    simp only[Bool.not_true,cond_false,Option.bind_some,Bool.true_and,if_true]
    rw[ZF] at h5
    rw[Qao t.2.2.1 (mRf t.2.2.1) _ (fun i h=>?_) (by simp only[dge,cond_false]),Qnc t hb (by omega)]
    ·split<;>rfl
    ·simp only[dlt h,Qg _ i h,Qf _ i _ h,QbA _ i (Nat.le_of_lt h),Qfm,cond_true,QhG,Option.bind_some,wsucc h hb.ins,Qat _ (QeC hb.ins i)]
     unfold mRf
     cases mRef t.2.2.1[i]<;>by_cases hm:t.2.2.1[i] ∈ t.2.2.1.take i<;>simp[hm]
   ·rw[decide_eq_false h3]
    simp only[Bool.not_false,cond_true,Option.bind_some,Bool.false_or]
    cases h6:mIn t.2.1 1 999<;>try rfl
    simp only[Bool.not_true,cond_false,Option.bind_some,if_true]
    cases h4:mIn (t.2.2.1.length:Int) 1 4<;>cases h5:mIn (t.2.2.2.length:Int) 1 4<;>try rfl
    simp only[Bool.not_true,cond_false,Option.bind_some,Bool.true_and,if_true]
    rw[ZF] at h5
    rw[Qao t.2.2.1 (mRf t.2.2.1) _ (fun i h=>?_) (by simp only[dge,cond_false]),Qnc t hb (by omega)]
    ·split<;>rfl
    ·simp only[dlt h,Qg _ i h,Qf _ i _ h,QbA _ i (Nat.le_of_lt h),Qfm,cond_true,QhG,Option.bind_some,wsucc h hb.ins,Qat _ (QeC hb.ins i)]
     unfold mRf
     cases mRef t.2.2.1[i]<;>by_cases hm:t.2.2.1[i] ∈ t.2.2.1.take i<;>simp[hm]
  ·rw[decide_eq_false h2,beq_eq_false_iff_ne.2 h2]
   rfl
theorem Qui (t:TX) (hb:bT t):Qfo t=some (mTxF t):=by
 unfold Qfo mTxF
 simp only[ZB,Qhf,QAJ,Option.bind_some,beqB]
 cases h1:mIn t.1 0 2
 ·rfl
 ·simp only[Bool.not_true,cond_false,Option.bind_some,Bool.true_and]
  by_cases h2:decide (t.1=0)=decide (t.2.1=0)
  ·have h20:decide (t.2.1=0)=decide (t.1=0):=h2.symm
   rw[decide_eq_true h2,beq_iff_eq.2 h2,if_pos rfl,h20]
   simp only[Bool.not_true,cond_false]
   have rest:∀(hx:(decide (t.1=0) || mIn t.2.1 1 999)=true),((bif !mIn (t.2.2.1.length:Int) 1 4 then some true else (some (!mIn (t.2.2.2.length:Int) 1 4):Option Bool).bind fun y39=>some y39).bind fun j40=>bif j40 then some 2 else
     (Qh (S:=Int) (X:=(Unit)⊕(Int)) (fun (s45:Int)=>
 bif (decide ((s45:Int)<(List.length t.2.2.1:Int))) then
 bif (inB s45 t.2.2.1) then
 (QaV (List.getD t.2.2.1 (Int.toNat s45) (0,0))).bind fun (y46:Bool)=>
 bif (!y46) then
 some (Sum.inr (Sum.inr 3))
 else
 bif (Zp 0 s45 t.2.2.1) then
 (Qu (cut 0 s45 t.2.2.1) (List.getD t.2.2.1 (Int.toNat s45) (0,0))).bind fun (y47:Bool)=>
 bif y47 then
 some (Sum.inr (Sum.inr 7))
 else
 some (Sum.inl (IntKind.wrap .i64 (s45+1)))
 else none
 else none
 else
 some (Sum.inr (Sum.inl ()))) 0).bind fun (j48:(Unit)⊕(Int))=>
 Sum.elim (fun (j49:Unit)=>
 (Qh (S:=Int) (X:=(Unit)⊕(Int)) (fun (s53:Int)=>
 bif (decide ((s53:Int)<(List.length t.2.2.2:Int))) then
 bif (inB s53 t.2.2.2) then
 (J0 (List.getD t.2.2.2 (Int.toNat s53) (0,([],(0,0))))).bind fun (y54:Int)=>
 bif (!decide ((y54:Int)=0)) then
 some (Sum.inr (Sum.inr y54))
 else
 some (Sum.inl (IntKind.wrap .i64 (s53+1)))
 else none
 else
 some (Sum.inr (Sum.inl ()))) 0).bind fun (j55:(Unit)⊕(Int))=>
 Sum.elim (fun (j56:Unit)=>
 (bif (decide ((t.1:Int)=1)) then
 bif (inB 0 t.2.2.2) then
 some (decide (((List.getD t.2.2.2 (Int.toNat 0) (0,([],(0,0)))).1:Int)<100))
 else none
 else
 some false:Option (Bool)).bind fun (j58:Bool)=>
 bif j58 then
 some 8
 else
 some 0) (fun (j57:Int)=>
 some j57) j55) (fun (j50:Int)=>
 some j50) j48:Option Int)=some (if mIn (t.2.2.1.length:Int) 1 4&&mIn (t.2.2.2.length:Int) 1 4 then (if code (mRf t.2.2.1) t.2.2.1=0 then mTxO t else code (mRf t.2.2.1) t.2.2.1) else 2):=fun hx=>by
    cases h4:mIn (t.2.2.1.length:Int) 1 4<;>cases h5:mIn (t.2.2.2.length:Int) 1 4<;>try rfl
    simp only[Bool.not_true,cond_false,Option.bind_some,Bool.true_and,if_true]
    rw[ZF] at h5
    rw[Qao t.2.2.1 (mRf t.2.2.1) _ (fun i h=>?_) (by simp only[dge,cond_false])]
    ·have ho:(Qh (S:=Int) (X:=(Unit)⊕(Int)) (fun (s53:Int)=>
 bif (decide ((s53:Int)<(List.length t.2.2.2:Int))) then
 bif (inB s53 t.2.2.2) then
 (J0 (List.getD t.2.2.2 (Int.toNat s53) (0,([],(0,0))))).bind fun (y54:Int)=>
 bif (!decide ((y54:Int)=0)) then
 some (Sum.inr (Sum.inr y54))
 else
 some (Sum.inl (IntKind.wrap .i64 (s53+1)))
 else none
 else
 some (Sum.inr (Sum.inl ()))) 0).bind (fun (j55:(Unit)⊕(Int))=>
 Sum.elim (fun (j56:Unit)=>
 (bif (decide ((t.1:Int)=1)) then
 bif (inB 0 t.2.2.2) then
 some (decide (((List.getD t.2.2.2 (Int.toNat 0) (0,([],(0,0)))).1:Int)<100))
 else none
 else
 some false:Option (Bool)).bind fun (j58:Bool)=>
 bif j58 then
 some 8
 else
 some 0) (fun (j57:Int)=>
 some j57) j55)=some (mTxO t):=by
      unfold mTxO
      rw[Qao t.2.2.2 (fun _ o=>mOut o) _ (fun i h=>?_) (by simp only[dge,cond_false]),QCe t (by omega)]
      ·split<;>rfl
      ·have hk:=hb.keys _ (List.getElem_mem h)
       simp only[dlt h,Qg _ i h,Qf _ i _ h,cond_true,QsY _ hk,Option.bind_some,wsucc h hb.outs]
       by_cases h3:mOut t.2.2.2[i]=0
       ·rw[decide_eq_true h3];simp[h3]
       ·rw[decide_eq_false h3];simp[h3]
     rw[ho]
     split<;>rfl
    ·simp only[dlt h,Qg _ i h,Qf _ i _ h,QbA _ i (Nat.le_of_lt h),Qfm,cond_true,QjK,Option.bind_some,wsucc h hb.ins,Qfz _ (QeC hb.ins i)]
     unfold mRf
     cases mRef t.2.2.1[i]<;>by_cases hm:t.2.2.1[i] ∈ t.2.2.1.take i<;>simp[hm]
   cases h3:decide (t.1=0) with
   | true=>
    simp only[Bool.not_true,cond_false,Option.bind_some,Bool.true_or,if_true]
    exact rest (by rw[h3];rfl)
   | false=>
    simp only[Bool.not_false,cond_true,Option.bind_some,Bool.false_or]
    cases h6:mIn t.2.1 1 999
    ·rfl
    ·simp only[Bool.not_true,cond_false,Option.bind_some,if_true]
     exact rest (by rw[h3,h6];rfl)
  ·rw[decide_eq_false h2,beq_eq_false_iff_ne.2 h2]
   rfl
end GL
end Go.Dx
set_option maxHeartbeats 2000000
namespace Go.Dx
namespace GL
structure okT (t:TX):Prop where
 kind:0<=t.1/\t.1<=2
 mem:(t.1=0/\t.2.1=0)\/(t.1 ≠ 0/\1<=t.2.1/\t.2.1<=999)
 li:1<=t.2.2.1.length/\t.2.2.1.length<=4
 lo:1<=t.2.2.2.length/\t.2.2.2.length<=4
 ref:∀r,r ∈ t.2.2.1->mRef r=true
 nd:t.2.2.1.Nodup
 out:∀o,o ∈ t.2.2.2->(1<=o.1/\o.1<=1000000)/\Zi o.2=0
theorem QeF {r:Int×Int}:mRef r=true↔(1<=r.1/\r.1<=60)/\(0<=r.2/\r.2<=3):=by
 unfold mRef;rw[Bool.and_eq_true,ZF,ZF]
theorem QEM {α:Type} [DecidableEq α] (l:List α) (h:∀i (hi:i<l.length),l[i] ∉ l.take i):l.Nodup:=by
 rw[List.nodup_iff_pairwise_ne,List.pairwise_iff_getElem]
 intro i j hi hj hij he
 refine h j hj ?_
 rw[List.mem_take_iff_getElem]
 exact⟨i,by omega,he⟩
theorem Qbj {t:TX} (h:mTxF t=0):okT t:=by
 unfold mTxF at h
 cases h1:mIn t.1 0 2&&(decide (t.1=0) == decide (t.2.1=0)) with
 | false=>rw[h1] at h;simp at h
 | true=>
  rw[h1,if_pos rfl] at h
  cases h2:(decide (t.1=0) || mIn t.2.1 1 999) with
  | false=>rw[h2] at h;simp at h
  | true=>
   rw[h2,if_pos rfl] at h
   cases h3:(mIn (t.2.2.1.length:Int) 1 4&&mIn (t.2.2.2.length:Int) 1 4) with
   | false=>rw[h3] at h;simp at h
   | true=>
    rw[h3,if_pos rfl] at h
    by_cases h4:code (mRf t.2.2.1) t.2.2.1=0
    ·rw[if_pos h4] at h
     unfold mTxO at h
     by_cases h5:code (fun _ o=>mOut o) t.2.2.2=0
     ·rw[Bool.and_eq_true,ZF,beq_iff_eq] at h1
      rw[Bool.and_eq_true,ZF,ZF] at h3
      have hr:∀i (hi:i<t.2.2.1.length),mRef t.2.2.1[i]=true/\t.2.2.1[i] ∉ t.2.2.1.take i:=fun i hi=>by
       have hc:=QcU h4 i _ (List.getElem?_eq_getElem hi)
       unfold mRf at hc
       cases h6:mRef t.2.2.1[i] with
       | false=>rw[h6] at hc;simp at hc
       | true=>
        rw[h6,if_pos rfl] at hc
        exact⟨rfl,fun hm=>by rw[if_pos hm] at hc;cases hc⟩
      refine⟨h1.1,?_,by omega,by omega,fun r hr'=>?_,QEM _ fun i hi=>(hr i hi).2,fun o ho=>?_⟩
      ·by_cases h0:t.1=0
       ·left
        have:=h1.2
        rw[decide_eq_true h0] at this
        exact⟨h0,of_decide_eq_true this.symm⟩
       ·right
        rw[decide_eq_false h0,Bool.false_or,ZF] at h2
        exact⟨h0,h2⟩
      ·obtain⟨i,hi,rfl⟩:=List.mem_iff_getElem.1 hr'
       exact (hr i hi).1
      ·obtain⟨i,hi,rfl⟩:=List.mem_iff_getElem.1 ho
       have hc:=QcU h5 i _ (List.getElem?_eq_getElem hi)
       unfold mOut at hc
       cases h6:mIn t.2.2.2[i].1 1 1000000 with
       | false=>rw[h6] at hc;simp at hc
       | true=>
        rw[h6,if_pos rfl] at hc
        exact⟨ZF.1 h6,hc⟩
     ·rw[if_neg h5] at h;exact absurd h h5
    ·rw[if_neg h4] at h;exact absurd h h4
theorem okT.b {t:TX} (h:okT t):bT t:=by
 have hB:BIG=4611686018427387904:=rfl
 refine⟨by have:=h.li;omega,by have:=h.lo;omega,fun o ho=>?_⟩
 have:=(Jn (h.out o ho).2).len
 omega
def kw (k:Int):List UInt8:=if k=0 then [112,97,121] else if k=1 then [106,111,105,110] else [108,101,97,118,101]
def wRef (r:Int×Int):List UInt8:=Lib.itoa r.1++[58]++Lib.itoa r.2
def wOut (o:TOut):List UInt8:=Lib.itoa o.1++[61]++Qx o.2 [95]
def wTx (t:TX):List (List UInt8):=[kw t.1]++(if t.1=0 then [] else [Lib.itoa t.2.1])++[Lib.join (t.2.2.1.map wRef) [43]]++t.2.2.2.map wOut
def Qt (t:TX):List UInt8:=Lib.join (wTx t) [32]
theorem Qk2 (c:UInt8) (B:Nat):∀ws:List (List UInt8),(∀w,w ∈ ws->w.length<=B)->(Lib.join ws [c]).length<=(B+1) * ws.length
 | [],_=>by simp[Lib.join_nil]
 | [x],h=>by rw[Lib.join_one];have:=h x List.mem_cons_self;simp;omega
 | x::y::r,h=>by
  have h1:=h x List.mem_cons_self
  have h2:=Qk2 c B (y::r) fun w hw=>h w (List.mem_cons_of_mem _ hw)
  rw[QeS,List.length_append,List.length_cons]
  have e:(B+1) * (x::y::r).length=(B+1) * (y::r).length+(B+1):=by rw[List.length_cons,Nat.mul_succ]
  omega
theorem Qzv {r:Int×Int} (h:mRef r=true):(wRef r).length<=40:=by
 rw[QeF] at h
 have h1:=Q5 (n:=r.1) (by omega) (by omega)
 have h2:=Q5 (n:=r.2) (by omega) (by omega)
 unfold wRef
 simp only[List.length_append,List.length_cons,List.length_nil];omega
theorem QAu {o:TOut} (h:(1<=o.1/\o.1<=1000000)/\Zi o.2=0):(wOut o).length<=140:=by
 have h1:=Q5 (n:=o.1) (by omega) (by omega)
 have h2:=QeL h.2 95
 unfold wOut
 simp only[List.length_append,List.length_cons,List.length_nil];omega
theorem Qrd {t:TX} (h:okT t):(Lib.join (t.2.2.1.map wRef) [43]).length<=164:=by
 have:=Qk2 43 40 (t.2.2.1.map wRef) fun w hw=>by
  obtain⟨r,hr,rfl⟩:=List.mem_map.1 hw
  exact Qzv (h.ref r hr)
 rw[List.length_map] at this
 have:=h.li
 omega
theorem QEc (k:Int):(kw k).length<=5:=by
 unfold kw
 split
 ·simp
 ·split<;>simp
theorem QvT {t:TX} (h:okT t):(∀w,w ∈ wTx t->w.length<=164)/\(wTx t).length<=7:=by
 refine⟨fun w hw=>?_,?_⟩
 ·unfold wTx at hw
  simp only[List.mem_append,List.mem_singleton] at hw
  rcases hw with ((rfl | hw) | rfl) | hw
  ·have:=QEc t.1;omega
  ·split at hw
   ·simp at hw
   ·rw[List.mem_singleton] at hw;subst hw
    have:=h.mem
    have:=Q5 (n:=t.2.1) (by omega) (by omega)
    omega
  ·exact Qrd h
  ·obtain⟨o,ho,rfl⟩:=List.mem_map.1 hw
   have:=QAu (h.out o ho);omega
 ·unfold wTx
  have:=h.lo
  split<;>simp<;>omega
theorem QD4 {t:TX} (h:okT t):(Qt t).length<=1155:=by
 have:=Qk2 32 164 (wTx t) (QvT h).1
 have:=(QvT h).2
 unfold Qt
 omega
theorem Qm6 {t:TX} (h:okT t):Qdv t=some (if (Qt t).length<=300 then (Qt t,0) else ([],2)):=by
 have hk:=h.kind
 have hm:=h.mem
 have hli:=h.li
 have hlo:=h.lo
 have hB:BIG=4611686018427387904:=rfl
 have hL:LIM=1073741824:=rfl
 have hrl:=Qrd h
 have htl:=QD4 h
 unfold Qdv QaM
 rw[Option.bind_some,QaS (by omega) (by show t.1<((3:Nat):Int);omega),cond_true]
 have hkw:List.getD ([[112,97,121],[106,111,105,110],[108,101,97,118,101]]:List (List UInt8)) (Int.toNat t.1) []=kw t.1:=by
  have:t.1=0\/t.1=1\/t.1=2:=by omega
  rcases this with e | e | e<;>rw[e]<;>rfl
 simp only[hkw]
 have e1:(bif !decide (t.1=0) then (Y4 t.2.1).bind fun (y25:List UInt8)=>bif decide (List.length ([kw t.1]:List (List UInt8))+List.length ([y25]:List (List UInt8))<=LIM) then some (List.append ([kw t.1]:List (List UInt8)) ([y25]:List (List UInt8))) else none else some ([kw t.1]:List (List UInt8)))=some ([kw t.1]++(if t.1=0 then [] else [Lib.itoa t.2.1])):=by
  by_cases h0:t.1=0
  ·rw[decide_eq_true h0,if_pos h0];rfl
  ·rw[decide_eq_false h0,if_neg h0,Qdf (by omega) (by omega),Option.bind_some,QM (by simp;omega)];rfl
 rw[e1,Option.bind_some]
 rw[ZU (σ:=List (List UInt8)) t.2.2.1 (fun acc a=>acc++[wRef a]) (fun t i=>(t,i)) (fun t=>t) (fun t i=>t.length=i) _ (fun i hi x hx=>by
   have hr:=QeF.1 (h.ref _ (List.getElem_mem hi))
   have l1:=Q5 (n:=t.2.2.1[i].1) (by omega) (by omega)
   have l2:=Q5 (n:=t.2.2.1[i].2) (by omega) (by omega)
   refine⟨?_,by simp[hx]⟩
   simp only[dlt hi,Qg _ i hi,Qf _ i _ hi,cond_true,Qdf (n:=t.2.2.1[i].1) (by omega) (by omega),Qdf (n:=t.2.2.1[i].2) (by omega) (by omega),Option.bind_some,wsucc hi (by omega),List.append_eq]
   rw[QM,QM,QM]
   ·rfl
   all_goals ((try simp only[List.length_append,List.length_cons,List.length_nil]);omega)) (fun t ht=>by simp only[dge,cond_false]) [] rfl,Option.bind_some,foldl_map,List.nil_append]
 have hj1:Yd (t.2.2.1.map wRef) [43]=some (Lib.join (t.2.2.1.map wRef) [43]):=by
  unfold Yd
  exact Qrs _ _ (by rw[List.length_map];omega) (by omega)
 rw[hj1,Option.bind_some,QM (by split<;>simp<;>omega)]
 rw[ZU (σ:=List (List UInt8)) t.2.2.2 (fun acc a=>acc++[wOut a]) (fun t i=>(t,i)) (fun t=>t) (fun t i=>t.length<=3+i) _ (fun i hi x hx=>by
   have ho:=h.out _ (List.getElem_mem hi)
   have l1:=Q5 (n:=t.2.2.2[i].1) (by omega) (by omega)
   have l2:=QeL ho.2 95
   refine⟨?_,by simp;omega⟩
   simp only[dlt hi,Qg _ i hi,Qf _ i _ hi,cond_true,Qdf (n:=t.2.2.2[i].1) (by omega) (by omega),Qke (Jn ho.2) [95] (by simp),Option.bind_some,wsucc hi (by omega),List.append_eq]
   rw[QM,QM,QM]
   ·rfl
   all_goals ((try simp only[List.length_append,List.length_cons,List.length_nil]);omega)) (fun t ht=>by simp only[dge,cond_false]) _ (by split<;>simp),Option.bind_some,foldl_map]
 have hw:List.append ([kw t.1]++(if t.1=0 then [] else [Lib.itoa t.2.1])) [Lib.join (t.2.2.1.map wRef) [43]]++t.2.2.2.map wOut=wTx t:=rfl
 rw[hw]
 have hj2:Yd (wTx t) [32]=some (Qt t):=by
  unfold Yd
  have:=(QvT h).2
  exact Qrs _ _ (by omega) (by unfold Qt at htl;omega)
 rw[hj2,Option.bind_some]
 by_cases hlen:(Qt t).length<=300
 ·rw[decide_eq_false (by omega),if_pos hlen];rfl
 ·rw[decide_eq_true (by omega),if_neg hlen];rfl
theorem QoD (x:List UInt8) (ws:List (List UInt8)) (c:UInt8):Lib.join (x::ws) [c]=x++(ws.map fun w=>c::w).flatten:=by
 rw[Lib.join_cons,Lib.joinTail]
 rfl
theorem Qv9 {α:Type} (l:List α) (g:α->List UInt8) (f:List UInt8×Int->Option ((List UInt8×Int)⊕List UInt8)) (B:Nat->Nat) (j:Nat)
  (hs:∀(i:Nat) (h:i<l.length) (acc:List UInt8),j<=i->acc.length<=B i->f (acc,(i:Int))=some (.inl (acc++g l[i],((i+1:Nat):Int)))/\(acc++g l[i]).length<=B (i+1))
  (he:∀acc,f (acc,(l.length:Int))=some (.inr acc)):∀(k i:Nat) (acc:List UInt8),i+k=l.length->j<=i->acc.length<=B i->Qh f (acc,(i:Int))=some (acc++((l.drop i).map g).flatten)
 | 0,i,acc,hi,_,_=>by
  obtain rfl:i=l.length:=by omega
  rw[QE (he acc)];simp
 | k+1,i,acc,hi,hj,ha=>by
  have h1:i<l.length:=by omega
  obtain⟨hs1,hs2⟩:=hs i h1 acc hj ha
  rw[Zj hs1,Qv9 l g f B j hs he k (i+1) _ (by omega) (by omega) hs2,List.drop_eq_getElem_cons h1,List.map_cons,List.flatten_cons,List.append_assoc]
theorem QDV (l:List (Int×Int)) (f:List UInt8×Int->Option ((List UInt8×Int)⊕List UInt8)) (acc:List UInt8) (ha:acc.length<=100) (hl:1<=l.length/\l.length<=4) (hb:∀r,r ∈ l->(wRef r).length<=40)
  (hs:∀(i:Nat) (h:i<l.length) (acc:List UInt8),acc.length<=10000->f (acc,(i:Int))=some (.inl (acc++((if i=0 then 32 else 43)::wRef l[i]),((i+1:Nat):Int))))
  (he:∀acc,f (acc,(l.length:Int))=some (.inr acc)):Qh f (acc,0)=some (acc++32::Lib.join (l.map wRef) [43]):=by
 cases l with
 | nil=>simp at hl
 | cons r l=>
  have h0:=hs 0 (by simp) acc (by omega)
  rw[if_pos rfl] at h0
  have h0:f (acc,0)=some (.inl (acc++32::wRef r,((1:Nat):Int))):=h0
  have hr:=hb r List.mem_cons_self
  rw[Zj h0,Qv9 (r::l) (fun a=>43::wRef a) f (fun i=>200+50 * i) 1 (fun i hi a hj hale=>by
   have h2:=hs i hi a (by simp at hi hl;omega)
   rw[if_neg (by omega)] at h2
   have:=hb _ (List.getElem_mem hi)
   exact⟨h2,by rw[List.length_append,List.length_cons];omega⟩) he l.length 1 _ (by simp;omega) (by omega) (by rw[List.length_append,List.length_cons];omega)]
  rw[List.map_cons,QoD,List.map_map]
  simp[Function.comp_def]
theorem Qm7 {t:TX} (h:okT t):Qd1 t=some (Qt t):=by
 have hk:=h.kind
 have hm:=h.mem
 have hli:=h.li
 have hlo:=h.lo
 have hB:BIG=4611686018427387904:=rfl
 have hL:LIM=1073741824:=rfl
 have hrl:=Qrd h
 unfold Qd1
 rw[QaS (by omega) (by show t.1<((3:Nat):Int);omega),cond_true]
 obtain⟨hd,hhd⟩:∃hd,hd=if t.1=0 then kw t.1 else kw t.1++32::Lib.itoa t.2.1:=⟨_,rfl⟩
 have hdl:hd.length<=100:=by
  have h1:=QEc t.1
  rw[hhd]
  split
  ·omega
  ·have:=Q5 (n:=t.2.1) (by omega) (by omega)
   rw[List.length_append,List.length_cons];omega
 have e1:(bif !decide (t.1=0) then (Za t.2.1).bind fun (y26:List UInt8)=>
   bif decide (List.length (List.getD ([[112,97,121],[106,111,105,110,32],[108,101,97,118,101,32]]:List (List UInt8)) (Int.toNat t.1) [])+List.length y26<=LIM) then
   some (List.append (List.getD ([[112,97,121],[106,111,105,110,32],[108,101,97,118,101,32]]:List (List UInt8)) (Int.toNat t.1) []) y26)
   else none
   else some (List.getD ([[112,97,121],[106,111,105,110,32],[108,101,97,118,101,32]]:List (List UInt8)) (Int.toNat t.1) []))=some hd:=by
  rw[hhd]
  have:t.1=0\/t.1=1\/t.1=2:=by omega
  rcases this with e | e | e
  ·rw[e];rfl
  all_goals
   rw[Yq (by omega) (by omega),Option.bind_some,if_neg (by omega),decide_eq_false (by omega),Bool.not_false,cond_true]
   have:=Q5 (n:=t.2.1) (by omega) (by omega)
   rw[e,QM (by simp;omega)]
   simp[kw]
 rw[e1,Option.bind_some]
 rw[QDV t.2.2.1 _ hd hdl hli (fun r hr=>Qzv (h.ref r hr)) (fun i hi acc ha=>by
   have hr:=QeF.1 (h.ref _ (List.getElem_mem hi))
   have l1:=Q5 (n:=t.2.2.1[i].1) (by omega) (by omega)
   have l2:=Q5 (n:=t.2.2.1[i].2) (by omega) (by omega)
   simp only[dlt hi,Qg _ i hi,Qf _ i _ hi,cond_true,Yq (n:=t.2.2.1[i].1) (by omega) (by omega),Yq (n:=t.2.2.1[i].2) (by omega) (by omega),Option.bind_some,wsucc hi (by omega),List.append_eq]
   have es:(bif decide ((i:Int)=0) then some [32] else some [43]:Option (List UInt8))=some [if i=0 then 32 else 43]:=by
    by_cases h0:i=0
    ·rw[if_pos h0,decide_eq_true (by omega)];rfl
    ·rw[if_neg h0,decide_eq_false (by omega)];rfl
   rw[es,Option.bind_some,QM,QM,QM,QM]
   ·unfold wRef;simp
   all_goals ((try simp only[List.length_append,List.length_cons,List.length_nil]);omega)) (fun acc=>by simp only[dge,cond_false]),Option.bind_some]
 have:=Qrv t.2.2.2 (fun o=>32::wOut o) (fun (s44:List UInt8×Int)=>
 bif (decide ((s44.2:Int)<(List.length t.2.2.2:Int))) then
 bif decide (List.length s44.1+List.length [32]<=LIM) then
 bif (inB s44.2 t.2.2.2) then
 (Za (List.getD t.2.2.2 (Int.toNat s44.2) (0,([],(0,0)))).1).bind fun (y45:List UInt8)=>
 bif decide (List.length (List.append s44.1 [32])+List.length y45<=LIM) then
 bif decide (List.length (List.append (List.append s44.1 [32]) y45)+List.length [61]<=LIM) then
 bif (inB s44.2 t.2.2.2) then
 (QdJ (List.getD t.2.2.2 (Int.toNat s44.2) (0,([],(0,0)))).2).bind fun (y46:List UInt8)=>
 (Qae y46 32 95).bind fun (y47:List UInt8)=>
 bif decide (List.length (List.append (List.append (List.append s44.1 [32]) y45) [61])+List.length y47<=LIM) then
 some (Sum.inl (List.append (List.append (List.append (List.append s44.1 [32]) y45) [61]) y47,IntKind.wrap .i64 (s44.2+1)))
 else none
 else none
 else none
 else none
 else none
 else none
 else
 some (Sum.inr s44.1)) (fun i=>400+200 * i) (fun i hi acc ha=>by
   have ho:=h.out _ (List.getElem_mem hi)
   have l1:=Q5 (n:=t.2.2.2[i].1) (by omega) (by omega)
   have l2:=QeL ho.2 95
   have l4:=QeL ho.2 32
   have l3:=QAu ho
   refine⟨?_,by rw[List.length_append,List.length_cons];omega⟩
   have hsw:Qae (Qx t.2.2.2[i].2 [32]) 32 95=some (Qx t.2.2.2[i].2 [95]):=by
    have:=QEt (Qx t.2.2.2[i].2 [32]) 32 95 (by omega)
    rw[Qzc (Jn ho.2) QgP] at this
    exact this
   simp only[dlt hi,Qg _ i hi,Qf _ i _ hi,cond_true,Yq (n:=t.2.2.2[i].1) (by omega) (by omega),Qxf (Jn ho.2),hsw,Option.bind_some,wsucc hi (by omega),List.append_eq]
   rw[QM,QM,QM,QM]
   ·unfold wOut;simp
   all_goals ((try simp only[List.length_append,List.length_cons,List.length_nil]);omega)) (fun acc=>by simp only[dge,cond_false]) t.2.2.2.length 0 (hd++32::Lib.join (t.2.2.1.map wRef) [43]) (by omega) (by rw[List.length_append,List.length_cons];omega)
 rw[show ((0:Nat):Int)=0 from rfl] at this
 rw[this,Option.bind_some,List.drop_zero]
 congr 1
 unfold Qt wTx
 rw[hhd]
 by_cases h0:t.1=0
 ·rw[if_pos h0,if_pos h0]
  simp only[List.append_nil,List.cons_append,List.nil_append]
  rw[QoD,List.map_cons,List.flatten_cons,List.map_map]
  simp[Function.comp_def]
 ·rw[if_neg h0,if_neg h0]
  simp only[List.cons_append,List.nil_append]
  rw[QoD,List.map_cons,List.map_cons,List.flatten_cons,List.flatten_cons,List.map_map]
  simp[Function.comp_def]
theorem QyC {t:TX} (h:mTxF t=0):Qf7 t=some (if (Qt t).length<=300 then (0,Qt t) else (2,[])):=by
 unfold Qf7
 rw[Qh5 t (Qbj h).b,Option.bind_some,h,Qm7 (Qbj h)]
 simp only[decide_true,Bool.not_true,cond_false,Option.bind_some]
 by_cases hlen:(Qt t).length<=300
 ·rw[decide_eq_false (by omega),if_pos hlen];rfl
 ·rw[decide_eq_true (by omega),if_neg hlen];rfl
end GL
end Go.Dx
set_option maxHeartbeats 2000000
namespace Go.Dx
namespace GL
theorem QCb (c:UInt8) (sep:UInt8) (h0:c ≠ sep):∀ws:List (List UInt8),(∀w,w ∈ ws->c ∉ w)->c ∉ Lib.join ws [sep]
 | [],_=>by simp[Lib.join_nil]
 | [x],h=>by rw[Lib.join_one];exact h x List.mem_cons_self
 | x::y::r,h=>by
  rw[QeS,List.mem_append,List.mem_cons]
  rintro (h1 | h1 | h1)
  ·exact h x List.mem_cons_self h1
  ·exact h0 h1
  ·exact QCb c sep h0 (y::r) (fun w hw=>h w (List.mem_cons_of_mem _ hw)) h1
theorem QtY {r:Int×Int} (h:mRef r=true) (c:UInt8) (hc:c.toNat<48\/57<c.toNat) (h58:c ≠ 58):c ∉ wRef r:=by
 rw[QeF] at h
 unfold wRef
 simp only[List.mem_append,List.mem_singleton,not_or]
 exact⟨⟨Qau (by omega) c hc,h58⟩,Qau (by omega) c hc⟩
theorem QGj:Blank 61:=⟨by decide,by decide,by decide⟩
theorem QEk {o:TOut} (h:(1<=o.1/\o.1<=1000000)/\Zi o.2=0):(32:UInt8) ∉ wOut o:=by
 unfold wOut
 simp only[List.mem_append,List.mem_singleton,not_or]
 exact⟨⟨Qau (by omega) 32 (by decide),by decide⟩,Qtc (Jn h.2) QgP (by decide)⟩
theorem QF2 (k:Int):(32:UInt8) ∉ kw k:=by
 unfold kw
 split
 ·decide
 ·split<;>decide
theorem QGE {t:TX} (h:okT t):∀w,w ∈ wTx t->(32:UInt8) ∉ w:=by
 intro w hw
 unfold wTx at hw
 simp only[List.mem_append,List.mem_singleton] at hw
 rcases hw with ((rfl | hw) | rfl) | hw
 ·exact QF2 t.1
 ·split at hw
  ·simp at hw
  ·rw[List.mem_singleton] at hw;subst hw
   have:=h.mem
   exact Qau (by omega) 32 (by decide)
 ·refine QCb 32 43 (by decide) _ fun w hw=>?_
  obtain⟨r,hr,rfl⟩:=List.mem_map.1 hw
  exact QtY (h.ref r hr) 32 (by decide) (by decide)
 ·obtain⟨o,ho,rfl⟩:=List.mem_map.1 hw
  exact QEk (h.out o ho)
theorem QCo {t:TX} (h:okT t):cuts 32 (Qt t)=wTx t:=QcR 32 _ (by unfold wTx;simp) (QGE h)
theorem QEr {t:TX} (h:okT t):cuts 43 (Lib.join (t.2.2.1.map wRef) [43])=t.2.2.1.map wRef:=by
 refine QcR 43 _ (fun e=>?_) fun w hw=>?_
 ·have:=h.li
  rw[List.map_eq_nil_iff] at e
  rw[e] at this;simp at this
 ·obtain⟨r,hr,rfl⟩:=List.mem_map.1 hw
  exact QtY (h.ref r hr) 43 (by decide) (by decide)
theorem QF7 {r:Int×Int} (h:mRef r=true):Lib.cut (wRef r) [58]=(Lib.itoa r.1,Lib.itoa r.2,true):=by
 rw[QeF] at h
 have:=QCw 58 (Lib.itoa r.1) (Lib.itoa r.2) (Qau (by omega) 58 (by decide))
 unfold wRef
 simpa using this
theorem QEX {r:Int×Int} (h:mRef r=true):cuts 58 (wRef r)=[Lib.itoa r.1,Lib.itoa r.2]:=by
 rw[QeF] at h
 have:wRef r=Lib.join [Lib.itoa r.1,Lib.itoa r.2] [58]:=by rw[QeS,Lib.join_one];unfold wRef;simp
 rw[this]
 refine QcR 58 _ (by simp) fun w hw=>?_
 simp only[List.mem_cons,List.not_mem_nil,or_false] at hw
 rcases hw with rfl | rfl
 ·exact Qau (by omega) 58 (by decide)
 ·exact Qau (by omega) 58 (by decide)
theorem QGa {o:TOut} (h:(1<=o.1/\o.1<=1000000)/\Zi o.2=0):Lib.cut (wOut o) [61]=(Lib.itoa o.1,Qx o.2 [95],true):=by
 have:=QCw 61 (Lib.itoa o.1) (Qx o.2 [95]) (Qau (by omega) 61 (by decide))
 unfold wOut
 simpa using this
theorem Qy5 {o:TOut} (h:(1<=o.1/\o.1<=1000000)/\Zi o.2=0):cuts 61 (wOut o)=[Lib.itoa o.1,Qx o.2 [95]]:=by
 have:wOut o=Lib.join [Lib.itoa o.1,Qx o.2 [95]] [61]:=by rw[QeS,Lib.join_one];unfold wOut;simp
 rw[this]
 refine QcR 61 _ (by simp) fun w hw=>?_
 simp only[List.mem_cons,List.not_mem_nil,or_false] at hw
 rcases hw with rfl | rfl
 ·exact Qau (by omega) 61 (by decide)
 ·exact Qtc (Jn h.2) QGj (by decide)
theorem QFB (s:List UInt8) (c:UInt8) (h:s.length<=1000000):QdD s [c]=some (Lib.cut s [c]):=by
 unfold QdD
 exact QFU _ (by omega)
theorem QCu (s sep:List UInt8):(Lib.cut s sep).1.length<=s.length/\(Lib.cut s sep).2.1.length<=s.length:=by
 unfold Lib.cut
 split
 ·simp[List.length_take,List.length_drop];omega
 ·simp
theorem QpX (l:List (List UInt8)) (hl:l.length<BIG) (x:List UInt8):QO l x=some (idxF (fun a=>decide (x=a)) l):=by
 unfold QO
 refine QbQ l (fun a=>decide (x=a)) _ (fun i h=>?_) (by simp only[dge,cond_false])
 simp only[dlt h,Qg l i h,Qf l i _ h,cond_true,wsucc h hl]
 cases decide (x=l[i])<;>rfl
theorem QGz (w:List UInt8):Y (QO [[112,97,121],[106,111,105,110],[108,101,97,118,101]] w) (fun k=>-1<=k/\k<=2/\∀j,0<=j->j<=2->w=kw j->k=j):=by
 refine⟨_,QpX _ (by decide) w,?_⟩
 unfold idxF
 simp only[first]
 by_cases h0:w=[112,97,121]
 ·subst h0
  refine⟨by simp,by simp,fun j h1 h2 h3=>?_⟩
  have:j=0\/j=1\/j=2:=by omega
  rcases this with rfl | rfl | rfl
  ·simp
  ·simp[kw] at h3
  ·simp[kw] at h3
 ·simp only[h0,decide_false,Bool.false_eq_true,if_false]
  by_cases h1:w=[106,111,105,110]
  ·subst h1
   refine⟨by simp,by simp,fun j h1 h2 h3=>?_⟩
   have:j=0\/j=1\/j=2:=by omega
   rcases this with rfl | rfl | rfl
   ·simp[kw] at h3
   ·simp
   ·simp[kw] at h3
  ·simp only[h1,decide_false,Bool.false_eq_true,if_false]
   by_cases h2:w=[108,101,97,118,101]
   ·subst h2
    refine⟨by simp,by simp,fun j h1 h2 h3=>?_⟩
    have:j=0\/j=1\/j=2:=by omega
    rcases this with rfl | rfl | rfl
    ·simp[kw] at h3
    ·simp[kw] at h3
    ·simp
   ·simp only[h2,decide_false,Bool.false_eq_true,if_false]
    refine⟨by simp,by simp,fun j h3 h4 h5=>?_⟩
    have:j=0\/j=1\/j=2:=by omega
    rcases this with rfl | rfl | rfl
    ·exact absurd h5 h0
    ·exact absurd h5 h1
    ·exact absurd h5 h2
def okO (o:TOut):Prop:=(1<=o.1/\o.1<=1000000)/\Zi o.2=0
theorem QD2 (s:List UInt8) (hs:s.length<=1000):Y (QfA s) (fun x=>x.1.2.1.length<=1001/\∀o,okO o->wOut o=s->x=(o,true)):=by
 unfold QfA
 have hc:=QCu s [61]
 refine Y.eqb (QFB s 61 (by omega)) (Y.bind (QDg _ 95 QCm (by omega)) (fun r hr=>Y.eqb (QgA _ (by omega)) (Y.some ⟨by have:=hr.1;show r.1.1.length<=_;omega,fun o ho h=>?_⟩)))
 have e:=QGa ho
 rw[h] at e
 rw[e] at hr ⊢
 rw[hr.2 o.2 ho.2 rfl]
 show ((numS (Lib.itoa o.1),o.2),true)=_
 rw[QeW (by have:=ho.1;omega) (by have:=ho.1;omega)]
def TxQ (s:List UInt8) (x:TX×Bool):Prop:=(x.2=true->mTxF x.1=0/\Qt x.1=s)/\∀t',mTxF t'=0->Qt t'=s->x=(t',true)
theorem drop1 {α:Type} (l:List α) (h:1<=l.length):List.take (Int.toNat ((List.length l:Int) - 1)) (List.drop (Int.toNat 1) l)=l.drop 1:=by
 rw[show Int.toNat 1=1 from rfl]
 exact List.take_of_length_le (by rw[List.length_drop];omega)
theorem Qy9 {α:Type} (l:List α) (h:1<=l.length):Zp 1 (List.length l:Int) l=true:=by
 unfold Zp;simp;omega
theorem Qmg (s:List UInt8) (c:UInt8) (d i:Nat):(List.getD ((cuts c s).drop d) i []).length<=s.length:=by
 rw[List.getD_eq_getElem?_getD,List.getElem?_drop]
 have:=QcW c s (d+i)
 rw[List.getD_eq_getElem?_getD] at this
 exact this
theorem QE3 (s:List UInt8) (hs:s.length<=300):Y (Qf5 s) (TxQ s):=by
 have hB:BIG=4611686018427387904:=rfl
 have hne:=QgO 32 s
 have hlen:=QbL 32 s
 have hpos:1<=(cuts 32 s).length:=by
  cases h:cuts 32 s with
  | nil=>exact absurd h hne
  | cons a l=>simp
 have hwd:∀t',mTxF t'=0->Qt t'=s->okT t'/\cuts 32 s=wTx t':=fun t' h1 h2=>⟨Qbj h1,by rw[<-h2];exact QCo (Qbj h1)⟩
 have hno:∀t:TX,(∀t',mTxF t'=0->Qt t'=s->False)->TxQ s (t,false):=fun t h=>⟨(fun h=>by cases h),fun t' h1 h2=>(h t' h1 h2).elim⟩
 unfold Qf5 QaM
 refine Y.eqb (Qpo s 32 (by omega)) (Y.eqb rfl (Y.grd (QaS (by omega) (by omega)) (Y.bind (QGz _) (fun k hk=>?_))))
 obtain⟨hk0,hk2,hkc⟩:=hk
 have hkw:∀t',mTxF t'=0->Qt t'=s->k=t'.1:=fun t' h1 h2=>by
  obtain⟨ho,hw⟩:=hwd t' h1 h2
  refine hkc t'.1 ho.kind.1 ho.kind.2 ?_
  rw[hw];rfl
 refine Y.bind (Q:=fun j=>(j=false->0<=k)/\(j=true->k<0)) ?_ (fun j hj=>?_)
 ·refine Y.bif (fun h=>?_) (fun _=>Y.some ⟨(fun h=>?_),(fun h=>?_)⟩)
  ·simp at h;omega
  ·simp at h;omega
  ·simpa using h
 refine Y.bif (fun h=>Y.some (hno _ fun t' h1 h2=>?_)) (fun h=>?_)
 ·have:=hkw t' h1 h2
  have:=(hwd t' h1 h2).1.kind
  have:=hj.2 h
  omega
 have hk0:=hj.1 h
 rw[drop1 _ hpos]
 refine Y.grd (Qy9 _ hpos) ?_
 have hdl:((cuts 32 s).drop 1).length=(cuts 32 s).length - 1:=List.length_drop
 refine Y.bind (Q:=fun j=>(j=true↔(k ≠ 0/\1<=((cuts 32 s).drop 1).length))) ?_ (fun j hj=>?_)
 ·refine Y.bif (fun h=>Y.some ?_) (fun h=>Y.some ?_)
  ·simp at h ⊢;omega
  ·simp at h ⊢
   intro h2;exact absurd h h2
 refine Y.bind (Q:=fun (x:List (List UInt8)×TX)=>(∃d,x.1=(cuts 32 s).drop d)/\x.2.2.2=([],[])/\∀t',mTxF t'=0->Qt t'=s->x=(Lib.join (t'.2.2.1.map wRef) [43]::t'.2.2.2.map wOut,(t'.1,t'.2.1,[],[]))) ?_ (fun x hx=>?_)
 ·refine Y.bif (fun h=>?_) (fun h=>Y.some ⟨⟨1,rfl⟩,rfl,fun t' h1 h2=>?_⟩)
  ·obtain⟨hkn,h1l⟩:=hj.1 h
   refine Y.grd (QaS (by omega) (by omega)) (Y.eqb (QgA _ (by have:=Qmg s 32 1 0;show (List.getD ((cuts 32 s).drop 1) 0 []).length<=_;omega)) ?_)
   rw[drop1 _ h1l]
   refine Y.grd (Qy9 _ h1l) (Y.some ⟨⟨2,by rw[List.drop_drop]⟩,rfl,fun t' h1 h2=>?_⟩)
   obtain⟨ho,hw⟩:=hwd t' h1 h2
   have hkk:=hkw t' h1 h2
   have hm:=ho.mem
   rw[hw]
   unfold wTx
   rw[if_neg (by omega)]
   show (Lib.join (t'.2.2.1.map wRef) [43]::t'.2.2.2.map wOut,(k,numS (Lib.itoa t'.2.1),[],[]))=_
   rw[QeW (by omega) (by omega),hkk]
  ·obtain⟨ho,hw⟩:=hwd t' h1 h2
   have hkk:=hkw t' h1 h2
   have hm:=ho.mem
   have hk0':k=0:=by
    by_cases e:k=0
    ·exact e
    ·have hl:1<=((cuts 32 s).drop 1).length:=by
      rw[hw];unfold wTx;rw[if_neg (by omega)];simp
     rw[hj.2 ⟨e,hl⟩] at h;cases h
   rw[hw]
   unfold wTx
   rw[if_pos (by omega)]
   show (Lib.join (t'.2.2.1.map wRef) [43]::t'.2.2.2.map wOut,(k,0,[],[]))=_
   rw[hkk,show t'.2.1=0 by omega]
 obtain⟨⟨d,hd⟩,he,hxc⟩:=hx
 obtain⟨xw,xk,xm,xi,xo⟩:=x
 have hdx:xw=(cuts 32 s).drop d:=hd
 have he:(xi,xo)=([],[]):=he
 simp only[Prod.mk.injEq] at he
 obtain⟨rfl,rfl⟩:=he
 simp only
 have hxl:xw.length<=301:=by rw[hdx,List.length_drop];omega
 have hxw:∀i,(List.getD xw i []).length<=300:=fun i=>by rw[hdx];have:=Qmg s 32 d i;omega
 have hxc':∀t',mTxF t'=0->Qt t'=s->xw=Lib.join (t'.2.2.1.map wRef) [43]::t'.2.2.2.map wOut/\xk=t'.1/\xm=t'.2.1:=fun t' h1 h2=>by
  have:=hxc t' h1 h2
  simp only[Prod.mk.injEq] at this
  exact⟨this.1,this.2.1,this.2.2.1⟩
 refine Y.bind (Q:=fun j=>(j=false->2<=xw.length/\xw.length<=5)/\(j=true->¬(2<=xw.length/\xw.length<=5))) ?_ (fun j hj=>?_)
 ·refine Y.bif (fun h=>Y.some ⟨(fun h=>by cases h),(fun _=>?_)⟩) (fun h1=>Y.some ⟨(fun h=>?_),(fun h=>?_)⟩)
  ·simp at h;omega
  ·simp at h h1;omega
  ·simp at h;omega
 refine Y.bif (fun h=>Y.some (hno _ fun t' h1 h2=>?_)) (fun h=>?_)
 ·refine hj.2 h ?_
  obtain⟨e1,_⟩:=hxc' t' h1 h2
  have:=(hwd t' h1 h2).1.lo
  rw[e1];simp;omega
 have h25:=hj.1 h
 have hw0:=hxw 0
 refine Y.grd (QaS (by omega) (by omega)) (Y.eqb (Qpo _ 43 (by show (List.getD xw 0 []).length<=_;omega)) ?_)
 obtain⟨rs,hrs⟩:∃rs,rs=cuts 43 (List.getD xw (Int.toNat 0) []):=⟨_,rfl⟩
 have hrs':rs=cuts 43 (List.getD xw 0 []):=hrs
 rw[<-hrs]
 have hrl:rs.length<=301:=by rw[hrs'];have:=QbL 43 (List.getD xw 0 []);omega
 have hrw:∀w,w ∈ rs->w.length<=300:=fun w hw=>by rw[hrs'] at hw;have:=QcT 43 _ w hw;omega
 have hrc:∀t',mTxF t'=0->Qt t'=s->rs=t'.2.2.1.map wRef:=fun t' h1 h2=>by
  rw[hrs',(hxc' t' h1 h2).1]
  exact QEr (hwd t' h1 h2).1
 refine Y.bind (Q:=fun (t:TX)=>t.2.2.1.length<=301/\t.2.2.2=[]/\∀t',mTxF t'=0->Qt t'=s->t=(t'.1,t'.2.1,t'.2.2.1,[])) ?_ (fun t ht=>?_)
 ·refine Y.loop (fun n (st:Int×TX)=>∃i:Nat,st.1=(i:Int)/\i<=rs.length/\n=rs.length - i/\st.2.2.2.1.length=i/\st.2.2.2.2=[]/\∀t',mTxF t'=0->Qt t'=s->st.2=(t'.1,t'.2.1,t'.2.2.1.take i,[])) (fun n st hI=>?_) rs.length _ ⟨0,rfl,by omega,by omega,rfl,rfl,fun t' h1 h2=>by
   obtain⟨_,e1,e2⟩:=hxc' t' h1 h2
   show (xk,xm,[],[])=_
   rw[e1,e2];rfl⟩
  obtain⟨i,hi,hle,hnn,hac,hoz,hcomp⟩:=hI
  obtain⟨i',k',m',acc,oz⟩:=st
  have hi:i'=(i:Int):=hi
  subst hi
  have hac:acc.length=i:=hac
  have hoz:oz=[]:=hoz
  subst hoz
  refine Y.bif (fun h1=>?_) (fun h1=>Y.some ⟨by show acc.length<=_;omega,rfl,fun t' h2 h3=>?_⟩)
  ·have hlt:i<rs.length:=by simp at h1;omega
   have hg:List.getD rs (Int.toNat (i:Int)) []=rs[i]:=Qf rs i _ hlt
   have hwl:=hrw _ (List.getElem_mem hlt)
   rw[hg]
   have hcl:=QCu rs[i] [58]
   refine Y.grd (Qg _ i hlt) (Y.eqb (QFB _ 58 (by omega)) (Y.eqb (QgA _ (by omega)) (Y.eqb (QgA _ (by omega)) (Y.grd (Qmb _ _ (by show acc.length<_;omega)) (Y.some ⟨rs.length - (i+1),by omega,i+1,wsucc hlt (by omega),by omega,rfl,by show (List.append acc [_]).length=_;simp[hac],rfl,fun t' h2 h3=>?_⟩)))))
   have hm:=hrc t' h2 h3
   have hr:i<t'.2.2.1.length:=by rw[hm] at hlt;simpa using hlt
   have hok:=(hwd t' h2 h3).1.ref _ (List.getElem_mem hr)
   have e:rs[i]=wRef t'.2.2.1[i]:=by rw[List.getElem_of_eq hm hlt];simp
   have hc2:=hcomp t' h2 h3
   simp only[Prod.mk.injEq] at hc2
   rw[e,QF7 hok]
   rw[QeF] at hok
   show (k',m',List.append acc [(numS (Lib.itoa t'.2.2.1[i].1),numS (Lib.itoa t'.2.2.1[i].2))],[])=_
   rw[QeW (by omega) (by omega),QeW (by omega) (by omega),hc2.1,hc2.2.1,hc2.2.2.1,List.take_add_one,List.getElem?_eq_getElem hr]
   rfl
  ·have hge:i=rs.length:=by simp at h1;omega
   have c2:=hcomp t' h2 h3
   have hkl:rs.length=t'.2.2.1.length:=by rw[hrc t' h2 h3];simp
   rw[hge,hkl,List.take_length] at c2
   exact c2
 obtain⟨hti,hto,htc⟩:=ht
 obtain⟨tk,tm,ti,to⟩:=t
 have hto:to=[]:=hto
 subst hto
 have hti:ti.length<=301:=hti
 have hx1:1<=xw.length:=by omega
 rw[drop1 _ hx1]
 refine Y.grd (Qy9 _ hx1) ?_
 obtain⟨os,hos⟩:∃os,os=xw.drop 1:=⟨_,rfl⟩
 rw[<-hos]
 have hol:os.length<=4:=by rw[hos,List.length_drop];omega
 have how:∀w,w ∈ os->w.length<=300:=fun w hw=>by
  rw[hos,hdx,List.drop_drop] at hw
  have:=QcT 32 s w (List.mem_of_mem_drop hw);omega
 have hoc:∀t',mTxF t'=0->Qt t'=s->os=t'.2.2.2.map wOut:=fun t' h1 h2=>by
  rw[hos,(hxc' t' h1 h2).1];rfl
 refine Y.bind (Q:=fun (r:TX⊕(Bool×TX))=>match r with
   | .inl t=>t.2.2.1.length<=301/\t.2.2.2.length<=4/\(∀o,o ∈ t.2.2.2->o.2.1.length<=1001)/\∀t',mTxF t'=0->Qt t'=s->t=t'
   | .inr x=>x.1=false/\∀t',mTxF t'=0->Qt t'=s->False) ?_ (fun r hr=>?_)
 ·refine Y.loop (fun n (st:Int×TX)=>∃i:Nat,st.1=(i:Int)/\i<=os.length/\n=os.length - i/\st.2.2.2.1.length<=301/\st.2.2.2.2.length=i/\(∀o,o ∈ st.2.2.2.2->o.2.1.length<=1001)/\∀t',mTxF t'=0->Qt t'=s->st.2=(t'.1,t'.2.1,t'.2.2.1,t'.2.2.2.take i)) (fun n st hI=>?_) os.length _ ⟨0,rfl,by omega,by omega,hti,rfl,(fun o ho=>nomatch ho),fun t' h1 h2=>by
   rw[htc t' h1 h2];rfl⟩
  obtain⟨i,hi,hle,hnn,hil,hac,hkl,hcomp⟩:=hI
  obtain⟨i',k',m',il,acc⟩:=st
  have hi:i'=(i:Int):=hi
  subst hi
  have hac:acc.length=i:=hac
  refine Y.bif (fun h1=>?_) (fun h1=>Y.some ⟨hil,by show acc.length<=_;omega,hkl,fun t' h2 h3=>?_⟩)
  ·have hlt:i<os.length:=by simp at h1;omega
   have hg:List.getD os (Int.toNat (i:Int)) []=os[i]:=Qf os i _ hlt
   have hwl:=how _ (List.getElem_mem hlt)
   rw[hg]
   refine Y.grd (Qg _ i hlt) (Y.bind (QD2 _ (by omega)) (fun y hy=>?_))
   have hyc:∀t',mTxF t'=0->Qt t'=s->∃hr:i<t'.2.2.2.length,y=(t'.2.2.2[i],true):=fun t' h2 h3=>by
    have hm:=hoc t' h2 h3
    have hr:i<t'.2.2.2.length:=by rw[hm] at hlt;simpa using hlt
    have e:os[i]=wOut t'.2.2.2[i]:=by rw[List.getElem_of_eq hm hlt];simp
    exact⟨hr,hy.2 _ ((hwd t' h2 h3).1.out _ (List.getElem_mem hr)) e.symm⟩
   refine Y.bif (fun h4=>Y.some ⟨rfl,fun t' h2 h3=>?_⟩) (fun h4=>Y.grd (Qmb _ _ (by show acc.length<_;omega)) (Y.some ⟨os.length - (i+1),by omega,i+1,wsucc hlt (by omega),by omega,rfl,hil,by show (List.append acc [_]).length=_;simp[hac],fun o ho=>?_,fun t' h2 h3=>?_⟩))
   ·obtain⟨_,e⟩:=hyc t' h2 h3
    rw[e] at h4;cases h4
   ·rcases List.mem_append.1 (show o ∈ acc++[y.1] from ho) with ho | ho
    ·exact hkl o ho
    ·rw[List.mem_singleton] at ho;subst ho;exact hy.1
   ·obtain⟨hr,e⟩:=hyc t' h2 h3
    have hc2:=hcomp t' h2 h3
    simp only[Prod.mk.injEq] at hc2
    show (k',m',il,List.append acc [y.1])=_
    rw[e,hc2.1,hc2.2.1,hc2.2.2.1,hc2.2.2.2,List.take_add_one,List.getElem?_eq_getElem hr]
    rfl
  ·have hge:i=os.length:=by simp at h1;omega
   have c2:=hcomp t' h2 h3
   have hkl:os.length=t'.2.2.2.length:=by rw[hoc t' h2 h3];simp
   rw[hge,hkl,List.take_length] at c2
   exact c2
 cases r with
 | inr x=>exact Y.some (by rw[hr.1];exact hno _ hr.2)
 | inl t=>
  obtain⟨r1,r2,r3,r4⟩:=hr
  have hb:bT t:=⟨by omega,by omega,fun o ho=>by have:=r3 o ho;omega⟩
  refine Y.eqb (Qui t hb) (Y.bif (fun h=>Y.some (hno _ fun t' h1 h2=>?_)) (fun h=>?_))
  ·rw[r4 t' h1 h2,h1] at h;simp at h
  ·have h0:mTxF t=0:=by simpa using h
   refine Y.eqb (Qm6 (Qbj h0)) ?_
   by_cases hl:(Qt t).length<=300
   ·rw[if_pos hl]
    refine Y.some ⟨fun hh=>⟨h0,by simpa using hh⟩,fun t' h1 h2=>?_⟩
    obtain rfl:=r4 t' h1 h2
    show (t,decide (Qt t=s))=_
    rw[decide_eq_true h2]
   ·rw[if_neg hl]
    refine Y.some (hno _ fun t' h1 h2=>?_)
    obtain rfl:=r4 t' h1 h2
    rw[h2] at hl;exact hl hs
end GL
end Go.Dx
set_option maxHeartbeats 2000000
namespace Go.Dx
namespace GL
theorem Qpm (k:Int) (n:Nat) (h0:0<=k) (h1:k<((10 ^ n:Nat):Int)) (hn:1<=n):(Lib.itoa k).length<=n:=by
 obtain⟨m,rfl⟩:=Int.eq_ofNat_of_zero_le h0
 rw[QbN,Lib.decDigits_length]
 exact Qe7 n m (by omega) hn
theorem QyP (w:List UInt8) (n:Nat) (hw:w.length<BIG):Y (QR w (n:Int)) (fun r=>∀k,0<=k->k<=9999999->w=Lib.itoa k->(Lib.itoa k).length<=n->r=(k,true)):=by
 obtain⟨r,h1,_⟩:=Qmj w (n:Int) hw
 refine⟨r,h1,fun k h0 h9 hk hl=>?_⟩
 rw[hk,Qmp h0 h9 n hl] at h1
 exact (Option.some.inj h1).symm
theorem QDf {l:List (Int×Int)} (hl:l ≠ []) (h:∀r,r ∈ l->mRef r=true):cuts 43 (Lib.join (l.map wRef) [43])=l.map wRef:=by
 refine QcR 43 _ (fun e=>hl (List.map_eq_nil_iff.1 e)) fun w hw=>?_
 obtain⟨r,hr,rfl⟩:=List.mem_map.1 hw
 exact QtY (h r hr) 43 (by decide) (by decide)
theorem QGf (s:List UInt8) (hs:s.length<=300):Y (QhE s) (fun x=>x.1.length<=301/\∀l,l ≠ []->(∀r,r ∈ l->mRef r=true)->Lib.join (l.map wRef) [43]=s->x=(l,true)):=by
 have hB:BIG=4611686018427387904:=rfl
 unfold QhE
 refine Y.eqb (Qcr s 43 (by unfold LIM;omega)) ?_
 obtain⟨rs,hrs⟩:∃rs,rs=cuts 43 s:=⟨_,rfl⟩
 rw[<-hrs]
 have hrl:rs.length<=301:=by rw[hrs];have:=QbL 43 s;omega
 have hrw:∀w,w ∈ rs->w.length<=300:=fun w hw=>by rw[hrs] at hw;have:=QcT 43 _ w hw;omega
 have hrc:∀l,l ≠ []->(∀r,r ∈ l->mRef r=true)->Lib.join (l.map wRef) [43]=s->rs=l.map wRef:=fun l h1 h2 h3=>by
  rw[hrs,<-h3];exact QDf h1 h2
 refine Y.bind (Q:=fun (r:List (Int×Int)⊕(List (Int×Int)×Bool))=>match r with
   | .inl x=>x.length<=301/\∀l,l ≠ []->(∀r,r ∈ l->mRef r=true)->Lib.join (l.map wRef) [43]=s->x=l
   | .inr x=>x=([],false)/\∀l,l ≠ []->(∀r,r ∈ l->mRef r=true)->Lib.join (l.map wRef) [43]=s->False) ?_ (fun r hr=>?_)
 ·refine Y.loop (fun n (st:List (Int×Int)×Int)=>∃i:Nat,st.2=(i:Int)/\i<=rs.length/\n=rs.length - i/\st.1.length=i/\∀l,l ≠ []->(∀r,r ∈ l->mRef r=true)->Lib.join (l.map wRef) [43]=s->st.1=l.take i) (fun n st hI=>?_) rs.length _ ⟨0,rfl,by omega,by omega,rfl,fun l _ _ _=>rfl⟩
  obtain⟨i,hi,hle,hnn,hac,hcomp⟩:=hI
  obtain⟨acc,i'⟩:=st
  have hi:i'=(i:Int):=hi
  subst hi
  have hac:acc.length=i:=hac
  refine Y.bif (fun h1=>?_) (fun h1=>Y.some ⟨by show acc.length<=_;omega,fun l h2 h3 h4=>?_⟩)
  ·have hlt:i<rs.length:=by simp at h1;omega
   have hg:List.getD rs (Int.toNat (i:Int)) []=rs[i]:=Qf rs i _ hlt
   have hwl:=hrw _ (List.getElem_mem hlt)
   rw[hg]
   have hpc:∀l,l ≠ []->(∀r,r ∈ l->mRef r=true)->Lib.join (l.map wRef) [43]=s->∃hr:i<l.length,mRef l[i]=true/\cuts 58 rs[i]=[Lib.itoa l[i].1,Lib.itoa l[i].2]:=fun l h2 h3 h4=>by
    have hm:=hrc l h2 h3 h4
    have hr:i<l.length:=by rw[hm] at hlt;simpa using hlt
    have e:rs[i]=wRef l[i]:=by rw[List.getElem_of_eq hm hlt];simp
    have hok:=h3 _ (List.getElem_mem hr)
    exact⟨hr,hok,by rw[e];exact QEX hok⟩
   refine Y.grd (Qg _ i hlt) (Y.eqb (Qcr _ 58 (by unfold LIM;omega)) (Y.bif (fun h5=>Y.some ⟨rfl,fun l h2 h3 h4=>?_⟩) (fun h5=>?_)))
   ·obtain⟨_,_,e⟩:=hpc l h2 h3 h4
    rw[e] at h5;simp at h5
   ·have h2l:(cuts 58 rs[i]).length=2:=by simp at h5;omega
    have w0:=QcW 58 rs[i] 0
    have w1:=QcW 58 rs[i] 1
    refine Y.grd (QaS (by omega) (by omega)) (Y.bind (QyP (List.getD (cuts 58 rs[i]) (Int.toNat 0) []) 2 (by show (List.getD (cuts 58 rs[i]) 0 []).length<_;omega)) (fun a ha=>Y.grd (QaS (by omega) (by omega)) (Y.bind (QyP (List.getD (cuts 58 rs[i]) (Int.toNat 1) []) 1 (by show (List.getD (cuts 58 rs[i]) 1 []).length<_;omega)) (fun b hb=>?_))))
    have hab:∀l,l ≠ []->(∀r,r ∈ l->mRef r=true)->Lib.join (l.map wRef) [43]=s->∃hr:i<l.length,a=(l[i].1,true)/\b=(l[i].2,true):=fun l h2 h3 h4=>by
     obtain⟨hr,hok,e⟩:=hpc l h2 h3 h4
     rw[QeF] at hok
     refine⟨hr,ha _ (by omega) (by omega) (by rw[e];rfl) (Qpm _ 2 (by omega) (by omega) (by omega)),hb _ (by omega) (by omega) (by rw[e];rfl) (Qpm _ 1 (by omega) (by omega) (by omega))⟩
    refine Y.bind (Q:=fun j=>j=true->∀l,l ≠ []->(∀r,r ∈ l->mRef r=true)->Lib.join (l.map wRef) [43]=s->False) ?_ (fun j hj=>Y.bif (fun h=>Y.some ⟨rfl,hj h⟩) (fun _=>Y.grd (Qmb _ _ (by show acc.length<_;omega)) (Y.some ⟨rs.length - (i+1),by omega,i+1,wsucc hlt (by omega),by omega,rfl,by show (List.append acc [_]).length=_;simp[hac],fun l h2 h3 h4=>?_⟩)))
    ·refine Y.bif (fun h=>Y.some (fun _ l h2 h3 h4=>?_)) (fun h=>Y.some (fun h' l h2 h3 h4=>?_))
     ·obtain⟨_,e,_⟩:=hab l h2 h3 h4
      rw[e] at h;cases h
     ·obtain⟨_,_,e⟩:=hab l h2 h3 h4
      rw[e] at h';cases h'
    ·obtain⟨hr,e1,e2⟩:=hab l h2 h3 h4
     have hc2:acc=l.take i:=hcomp l h2 h3 h4
     show List.append acc [(a.1,b.1)]=_
     rw[e1,e2,hc2,List.take_add_one,List.getElem?_eq_getElem hr]
     rfl
  ·have hge:i=rs.length:=by simp at h1;omega
   have c2:acc=l.take i:=hcomp l h2 h3 h4
   have hkl:rs.length=l.length:=by rw[hrc l h2 h3 h4];simp
   show acc=l
   rw[c2,hge,hkl,List.take_length]
 cases r with
 | inl x=>exact Y.some ⟨hr.1,fun l h2 h3 h4=>by rw[hr.2 l h2 h3 h4]⟩
 | inr x=>exact Y.some ⟨by rw[hr.1];simp,fun l h2 h3 h4=>(hr.2 l h2 h3 h4).elim⟩
theorem QEd (s:List UInt8) (hs:s.length<=300):Y (Qfd s) (TxQ s):=by
 have hB:BIG=4611686018427387904:=rfl
 have hne:=QgO 32 s
 have hlen:=QbL 32 s
 have hpos:1<=(cuts 32 s).length:=by
  cases h:cuts 32 s with
  | nil=>exact absurd h hne
  | cons a l=>simp
 have hwd:∀t',mTxF t'=0->Qt t'=s->okT t'/\cuts 32 s=wTx t':=fun t' h1 h2=>⟨Qbj h1,by rw[<-h2];exact QCo (Qbj h1)⟩
 have hno:∀t:TX,(∀t',mTxF t'=0->Qt t'=s->False)->TxQ s (t,false):=fun t h=>⟨(fun h=>by cases h),fun t' h1 h2=>(h t' h1 h2).elim⟩
 unfold Qfd
 refine Y.eqb (Qcr s 32 (by unfold LIM;omega)) ?_
 obtain⟨ws,hws⟩:∃ws,ws=cuts 32 s:=⟨_,rfl⟩
 rw[<-hws]
 rw[<-hws] at hlen hpos
 simp only[<-hws] at hwd
 have hww:∀i,(List.getD ws i []).length<=300:=fun i=>by rw[hws];have:=QcW 32 s i;omega
 have hin0:inB 0 ws=true:=QaS (by omega) (by omega)
 have hw0:∀t',mTxF t'=0->Qt t'=s->List.getD ws (Int.toNat 0) []=kw t'.1:=fun t' h1 h2=>by rw[(hwd t' h1 h2).2];rfl
 refine Y.bind (Q:=fun j=>∀t',mTxF t'=0->Qt t'=s->(j=true↔t'.1 ≠ 0)) ?_ (fun j hj=>?_)
 ·have kk:∀t',mTxF t'=0->Qt t'=s->t'.1=0\/t'.1=1\/t'.1=2:=fun t' h1 h2=>by have:=(hwd t' h1 h2).1.kind;omega
  refine Y.grd hin0 (Y.bif (fun h=>Y.some (fun t' h1 h2=>?_)) (fun h=>Y.grd hin0 (Y.some (fun t' h1 h2=>?_))))
  ·rw[hw0 t' h1 h2] at h
   rcases kk t' h1 h2 with e | e | e<;>rw[e] at h ⊢<;>simp[kw] at h ⊢
  ·rw[hw0 t' h1 h2] at h ⊢
   rcases kk t' h1 h2 with e | e | e<;>rw[e] at h ⊢<;>simp[kw] at h ⊢
 refine Y.bind (Q:=fun (r:(Int×TX)⊕(Bool×TX))=>match r with
   | .inl x=>(x.1=1\/x.1=2)/\x.2.2.2=([],[])/\∀t',mTxF t'=0->Qt t'=s->x.1=(if t'.1=0 then 1 else 2)/\x.2=(t'.1,t'.2.1,[],[])
   | .inr x=>x.1=false/\∀t',mTxF t'=0->Qt t'=s->False) ?_ (fun r hr=>?_)
 ·refine Y.bif (fun h=>?_) (fun h=>Y.grd hin0 (Y.bif (fun h3=>Y.some ⟨rfl,fun t' h1 h2=>?_⟩) (fun h3=>Y.some ⟨.inl rfl,rfl,fun t' h1 h2=>?_⟩)))
  ·refine Y.bif (fun h3=>Y.some ⟨rfl,fun t' h1 h2=>?_⟩) (fun h3=>?_)
   ·have hl:2<=ws.length:=by
     rw[(hwd t' h1 h2).2];unfold wTx;simp;omega
    simp at h3;omega
   ·have h2l:2<=ws.length:=by simp at h3;omega
    have hw1:=hww 1
    refine Y.grd (QaS (by omega) (by omega)) (Y.bind (QyP (List.getD ws (Int.toNat 1) []) 3 (by show (List.getD ws 1 []).length<_;omega)) (fun m hm=>?_))
    have hmc:∀t',mTxF t'=0->Qt t'=s->m=(t'.2.1,true):=fun t' h1 h2=>by
     obtain⟨ho,hw⟩:=hwd t' h1 h2
     have hmm:=ho.mem
     have h0:=(hj t' h1 h2).1 h
     exact hm _ (by omega) (by omega) (by rw[hw];unfold wTx;rw[if_neg h0];rfl) (Qpm _ 3 (by omega) (by omega) (by omega))
    refine Y.bif (fun h4=>Y.some ⟨rfl,fun t' h1 h2=>?_⟩) (fun h4=>?_)
    ·rw[hmc t' h1 h2] at h4;cases h4
    ·refine Y.grd hin0 (Y.bind (Q:=fun (x:TX)=>x.2.2=([],[])/\∀t',mTxF t'=0->Qt t'=s->x.1=t'.1) ?_ (fun x hx=>Y.some ⟨.inr rfl,by show x.2.2=_;exact hx.1,fun t' h1 h2=>⟨?_,?_⟩⟩))
     ·have kk:∀t',mTxF t'=0->Qt t'=s->t'.1=1\/t'.1=2:=fun t' h1 h2=>by have:=(hwd t' h1 h2).1.kind;have:=(hj t' h1 h2).1 h;omega
      refine Y.bif (fun h5=>Y.some ⟨rfl,fun t' h1 h2=>?_⟩) (fun h5=>Y.some ⟨rfl,fun t' h1 h2=>?_⟩)
      ·rw[hw0 t' h1 h2] at h5
       rcases kk t' h1 h2 with e | e<;>rw[e] at h5 ⊢
       simp[kw] at h5
      ·rw[hw0 t' h1 h2] at h5
       rcases kk t' h1 h2 with e | e<;>rw[e] at h5 ⊢
       simp[kw] at h5
     ·rw[if_neg ((hj t' h1 h2).1 h)]
     ·show (x.1,m.1,x.2.2)=_
      rw[hx.1,hx.2 t' h1 h2,hmc t' h1 h2]
  ·have h0:t'.1=0:=by
    by_cases e:t'.1=0
    ·exact e
    ·rw[(hj t' h1 h2).2 e] at h;cases h
   rw[hw0 t' h1 h2,h0] at h3
   simp[kw] at h3
  ·have h0:t'.1=0:=by
    by_cases e:t'.1=0
    ·exact e
    ·rw[(hj t' h1 h2).2 e] at h;cases h
   have hmm:=(hwd t' h1 h2).1.mem
   rw[if_pos h0,h0,show t'.2.1=0 by omega]
   exact⟨rfl,rfl⟩
 cases r with
 | inr x=>exact Y.some (by obtain⟨b,t⟩:=x;have h1:b=false:=hr.1;subst h1;exact hno _ hr.2)
 | inl x=>
  obtain⟨at',xk,xm,xi,xo⟩:=x
  obtain⟨hat,hx0,hxc⟩:=hr
  have hx0:(xi,xo)=([],[]):=hx0
  simp only[Prod.mk.injEq] at hx0
  obtain⟨e1,e2⟩:=hx0
  subst e1 e2
  obtain⟨a,ha,ha12⟩:∃a:Nat,at'=(a:Int)/\(a=1\/a=2):=by
   have hat:at'=1\/at'=2:=hat
   rcases hat with rfl | rfl
   ·exact⟨1,rfl,.inl rfl⟩
   ·exact⟨2,rfl,.inr rfl⟩
  subst ha
  have hxc:∀t',mTxF t'=0->Qt t'=s->(a:Int)=(if t'.1=0 then 1 else 2)/\(xk,xm,([]:List (Int×Int)),([]:List TOut))=(t'.1,t'.2.1,[],[]):=hxc
  have htl:∀t',mTxF t'=0->Qt t'=s->ws.drop a=Lib.join (t'.2.2.1.map wRef) [43]::t'.2.2.2.map wOut:=fun t' h1 h2=>by
   rw[(hwd t' h1 h2).2]
   have:=(hxc t' h1 h2).1
   unfold wTx
   by_cases h0:t'.1=0
   ·rw[if_pos h0] at this ⊢
    obtain rfl:a=1:=by omega
    rfl
   ·rw[if_neg h0] at this ⊢
    obtain rfl:a=2:=by omega
    rfl
  simp only[Sum.elim_inl]
  have hwr:IntKind.wrap .i64 ((a:Int)+2)=((a+2:Nat):Int):=by rw[YK (by omega) (by omega)];omega
  have hwr1:IntKind.wrap .i64 ((a:Int)+1)=((a+1:Nat):Int):=by rw[YK (by omega) (by omega)];omega
  rw[hwr,hwr1]
  refine Y.bif (fun h3=>Y.some (hno _ fun t' h1 h2=>?_)) (fun h3=>?_)
  ·have:=(hwd t' h1 h2).1.lo
   have h4:(ws.drop a).length=1+t'.2.2.2.length:=by rw[htl t' h1 h2];simp;omega
   rw[List.length_drop] at h4
   simp at h3;omega
  have hal:a+2<=ws.length:=by simp at h3;omega
  have hwa:=hww a
  refine Y.grd (Qg ws a (by omega)) (Y.bind (QGf _ (by show (List.getD ws (Int.toNat (a:Int)) []).length<=_;rw[Int.toNat_natCast];exact hwa)) (fun ins hins=>?_))
  have hic:∀t',mTxF t'=0->Qt t'=s->ins=(t'.2.2.1,true):=fun t' h1 h2=>by
   have ho:=(hwd t' h1 h2).1
   refine hins.2 _ (fun e=>?_) ho.ref ?_
   ·have:=ho.li;rw[e] at this;simp at this
   ·have:List.getD ws a []=(ws.drop a).getD 0 []:=by rw[List.getD_eq_getElem?_getD,List.getD_eq_getElem?_getD,List.getElem?_drop];rfl
    rw[Int.toNat_natCast,this,htl t' h1 h2];rfl
  have how:∀i (hi:i<ws.length),(ws[i]).length<=300:=fun i hi=>by
   have:=hww i
   rwa [List.getD_eq_getElem?_getD,List.getElem?_eq_getElem hi] at this
  refine Y.bind (Q:=fun (r:(Bool×TX)⊕(Bool×TX))=>match r with
    | .inl x=>x.2.2.2.1.length<=301/\x.2.2.2.2.length<=301/\(∀o,o ∈ x.2.2.2.2->o.2.1.length<=301)/\∀t',mTxF t'=0->Qt t'=s->x=(true,t')
    | .inr x=>x.1=false/\∀t',mTxF t'=0->Qt t'=s->False) ?_ (fun r hr=>?_)
  ·refine Y.loop (fun n (st:Bool×Int×TX)=>∃i:Nat,st.2.1=((a+1+i:Nat):Int)/\a+1+i<=ws.length/\n=ws.length - (a+1+i)/\st.2.2.2.2.1.length<=301/\st.2.2.2.2.2.length=i/\(∀o,o ∈ st.2.2.2.2.2->o.2.1.length<=301)/\∀t',mTxF t'=0->Qt t'=s->st.1=true/\st.2.2=(t'.1,t'.2.1,t'.2.2.1,t'.2.2.2.take i)) (fun n st hI=>?_) (ws.length - (a+1)) _ ⟨0,rfl,by omega,by omega,hins.1,rfl,(fun o ho=>nomatch ho),fun t' h1 h2=>by
    have e:=hic t' h1 h2
    have e2:=(hxc t' h1 h2).2
    simp only[Prod.mk.injEq] at e2
    rw[e]
    refine⟨rfl,?_⟩
    show (xk,xm,t'.2.2.1,[])=_
    rw[e2.1,e2.2.1];rfl⟩
   obtain⟨i,hi,hle,hnn,hil,hac,hkl,hcomp⟩:=hI
   obtain⟨ok,i',k',m',il,acc⟩:=st
   have hi:i'=((a+1+i:Nat):Int):=hi
   subst hi
   have hac:acc.length=i:=hac
   have hol:∀t',mTxF t'=0->Qt t'=s->ws.length=a+1+t'.2.2.2.length:=fun t' h1 h2=>by
    have h4:(ws.drop a).length=1+t'.2.2.2.length:=by rw[htl t' h1 h2];simp;omega
    rw[List.length_drop] at h4;omega
   refine Y.bind (Q:=fun j=>(j=true->a+1+i<ws.length)/\(j=false->a+1+i=ws.length\/ok=false)) ?_ (fun j hj2=>?_)
   ·refine Y.bif (fun h4=>Y.some ⟨fun _=>?_,fun h5=>.inr h5⟩) (fun h4=>Y.some ⟨(fun h=>by cases h),fun _=>.inl ?_⟩)
    ·simp at h4;omega
    ·simp at h4;omega
   refine Y.bif (fun h4=>?_) (fun h4=>Y.some ⟨hil,by show acc.length<=_;omega,hkl,fun t' h1 h2=>?_⟩)
   ·have hlt:=hj2.1 h4
    have hg:List.getD ws (Int.toNat ((a+1+i:Nat):Int)) []=ws[a+1+i]:=Qf ws _ _ hlt
    have hwl:=how _ hlt
    rw[hg]
    have hoc:∀t',mTxF t'=0->Qt t'=s->∃hr:i<t'.2.2.2.length,okO t'.2.2.2[i]/\ws[a+1+i]=wOut t'.2.2.2[i]:=fun t' h1 h2=>by
     have h5:=hol t' h1 h2
     have hr:i<t'.2.2.2.length:=by omega
     refine⟨hr,(hwd t' h1 h2).1.out _ (List.getElem_mem hr),?_⟩
     have h6:(ws.drop a)[1+i]? = some ws[a+1+i]:=by rw[List.getElem?_drop,<-Nat.add_assoc,List.getElem?_eq_getElem hlt]
     rw[htl t' h1 h2,Nat.add_comm 1 i,List.getElem?_cons_succ,List.getElem?_map,List.getElem?_eq_getElem hr] at h6
     simpa using h6.symm
    refine Y.grd (Qg _ _ hlt) (Y.eqb (Qcr _ 61 (by unfold LIM;omega)) (Y.bif (fun h5=>Y.some ⟨rfl,fun t' h1 h2=>?_⟩) (fun h5=>?_)))
    ·obtain⟨_,ho,e⟩:=hoc t' h1 h2
     rw[e,Qy5 ho] at h5;simp at h5
    ·have h2l:(cuts 61 ws[a+1+i]).length=2:=by simp at h5;omega
     have w0:=QcW 61 ws[a+1+i] 0
     have w1:=QcW 61 ws[a+1+i] 1
     have hsl:(swp 95 32 (List.getD (cuts 61 ws[a+1+i]) (Int.toNat 1) [])).length<=300:=by
      unfold swp;rw[List.length_map];show (List.getD (cuts 61 ws[a+1+i]) 1 []).length<=_;omega
     refine Y.grd (QaS (by omega) (by omega)) (Y.bind (QyP (List.getD (cuts 61 ws[a+1+i]) (Int.toNat 0) []) 7 (by show (List.getD (cuts 61 ws[a+1+i]) 0 []).length<_;omega)) (fun v hv=>Y.grd (QaS (by omega) (by omega)) (Y.eqb (QEt _ 95 32 (by show (List.getD (cuts 61 ws[a+1+i]) 1 []).length<=_;omega)) (Y.bind (QDA _ (by omega)) (fun r hr=>?_)))))
     have hvr:∀t',mTxF t'=0->Qt t'=s->∃hr:i<t'.2.2.2.length,v=(t'.2.2.2[i].1,true)/\r=(t'.2.2.2[i].2,true):=fun t' h1 h2=>by
      obtain⟨hr',ho,e⟩:=hoc t' h1 h2
      have ec:cuts 61 ws[a+1+i]=[Lib.itoa t'.2.2.2[i].1,Qx t'.2.2.2[i].2 [95]]:=by rw[e];exact Qy5 ho
      have hv1:=ho.1
      refine⟨hr',hv _ (by omega) (by omega) (by rw[ec];rfl) (Qpm _ 7 (by omega) (by omega) (by omega)),hr.2 _ ho.2 ?_⟩
      rw[ec]
      exact (Qzc (Jn ho.2) QCm).symm
     refine Y.bind (Q:=fun j=>∀t',mTxF t'=0->Qt t'=s->j=true) ?_ (fun j hj3=>?_)
     ·refine Y.bif (fun h6=>Y.some (fun t' h1 h2=>?_)) (fun h6=>Y.some (fun t' h1 h2=>?_))
      ·obtain⟨_,_,e⟩:=hvr t' h1 h2;rw[e]
      ·obtain⟨_,e,_⟩:=hvr t' h1 h2;rw[e] at h6;cases h6
     ·refine Y.grd (Qmb _ _ (by show acc.length<_;omega)) (Y.some ⟨ws.length - (a+1+(i+1)),by omega,i+1,?_,by omega,rfl,hil,by show (List.append acc [_]).length=_;simp[hac],fun o ho=>?_,fun t' h1 h2=>⟨hj3 t' h1 h2,?_⟩⟩)
      ·show IntKind.wrap .i64 (((a+1+i:Nat):Int)+1)=_
       rw[wsucc hlt (by omega)];rfl
      ·rcases List.mem_append.1 (show o ∈ acc++[(v.1,r.1)] from ho) with ho | ho
       ·exact hkl o ho
       ·rw[List.mem_singleton] at ho;subst ho
        have:=hr.1
        show r.1.1.length<=_
        omega
      ·obtain⟨hr',e1,e2⟩:=hvr t' h1 h2
       have hc2:=(hcomp t' h1 h2).2
       simp only[Prod.mk.injEq] at hc2
       show (k',m',il,List.append acc [(v.1,r.1)])=_
       rw[e1,e2,hc2.1,hc2.2.1,hc2.2.2.1,hc2.2.2.2,List.take_add_one,List.getElem?_eq_getElem hr']
       rfl
   ·obtain⟨c1,c2⟩:=hcomp t' h1 h2
    have c1':ok=true:=c1
    rcases hj2.2 h4 with h5 | h5
    ·have h6:=hol t' h1 h2
     obtain rfl:i=t'.2.2.2.length:=by omega
     rw[List.take_length] at c2
     have c2:(k',m',il,acc)=t':=c2
     show (ok,k',m',il,acc)=_
     rw[c1',c2]
    ·rw[c1'] at h5;cases h5
  cases r with
  | inr x=>exact Y.some (by obtain⟨b,t⟩:=x;have h1:b=false:=hr.1;subst h1;exact hno _ hr.2)
  | inl x=>
   obtain⟨r1,r2,r3,r4⟩:=hr
   have hb:bT x.2:=⟨by omega,by omega,fun o ho=>by have:=r3 o ho;omega⟩
   refine Y.bind (Q:=fun (y:Bool×TX)=>TxQ s (y.2,y.1)) ?_ (fun y hy=>Y.some hy)
   refine Y.bif (fun h=>Y.eqb (Qh5 x.2 hb) (Y.bif (fun h3=>?_) (fun h3=>Y.some (hno _ fun t' h1 h2=>?_)))) (fun h=>Y.some (hno _ fun t' h1 h2=>?_))
   ·have h0:mTxF x.2=0:=by simpa using h3
    refine Y.eqb (Qm7 (Qbj h0)) (Y.bif (fun h4=>Y.some ⟨fun _=>⟨h0,by simpa using h4⟩,fun t' h1 h2=>?_⟩) (fun h4=>Y.some (hno _ fun t' h1 h2=>?_)))
    ·show (x.2,decide ((s.length:Int)<=300))=_
     rw[r4 t' h1 h2,decide_eq_true (by omega)]
    ·rw[r4 t' h1 h2] at h4
     simp[h2] at h4
   ·rw[r4 t' h1 h2] at h3
    simp[h1] at h3
   ·rw[r4 t' h1 h2] at h;cases h
end GL
end Go.Dx
set_option maxHeartbeats 2000000
namespace Go.Dx
namespace GL
open Classical in
noncomputable def rdTx (s:List UInt8):Option TX:=if h:∃t,mTxF t=0/\Qt t=s then some h.choose else none
theorem QoU {s:List UInt8} {t:TX} (h:rdTx s=some t):mTxF t=0/\Qt t=s:=by
 unfold rdTx at h
 split at h
 ·rename_i hh
  cases h;exact hh.choose_spec
 ·cases h
theorem QEx {s:List UInt8} (h:rdTx s=none) (t:TX) (h1:mTxF t=0) (h2:Qt t=s):False:=by
 unfold rdTx at h
 split at h
 ·cases h
 ·rename_i hh;exact hh ⟨t,h1,h2⟩
theorem QFF {s:List UInt8} {x:TX×Bool} (h:TxQ s x):(∀t,rdTx s=some t->x=(t,true))/\(rdTx s=none->x.2=false):=by
 refine⟨fun t ht=>h.2 t (QoU ht).1 (QoU ht).2,fun hn=>?_⟩
 cases hx:x.2 with
 | false=>rfl
 | true=>exact (QEx hn _ (h.1 hx).1 (h.1 hx).2).elim
structure okL (l:TL):Prop where
 n1:l.1.length<=60
 n2:l.2.length<=120
 txt:∀s,s ∈ l.1->1<=s.length/\s.length<=300
theorem QAH {l:TL} (h:mLF l=0):okL l:=by
 unfold mLF at h
 split at h
 ·cases h
 ·rename_i h1
  simp only[Bool.or_eq_true,decide_eq_true_eq,not_or] at h1
  refine⟨by omega,by omega,fun s hs=>?_⟩
  by_cases h2:code (mTx l.1) l.1=0
  ·obtain⟨i,hi,rfl⟩:=List.mem_iff_getElem.1 hs
   have hc:=QcU h2 i _ (List.getElem?_eq_getElem hi)
   unfold mTx at hc
   cases h3:mIn (l.1[i].length:Int) 1 300 with
   | false=>rw[h3] at hc;simp at hc
   | true=>rw[ZF] at h3;omega
  ·rw[if_neg h2] at h;exact absurd h h2
def noT:TX:=(0,(0,([],[])))
noncomputable def mTI (l:TL) (id:Int):TX×Int:=if mIn id 1 (l.1.length:Int) then (match rdTx (List.getD l.1 (Int.toNat (IntKind.wrap .i64 (id - 1))) []) with | some t=>(t,0) | none=>(noT,5)) else (noT,3)
theorem QCd {l:TL} (h:okL l) (i:Nat):(List.getD l.1 i []).length<=300:=by
 rw[List.getD_eq_getElem?_getD]
 cases hg:l.1[i]? with
 | none=>simp
 | some s=>exact (h.txt s (List.mem_of_getElem? hg)).2
theorem QFx {l:TL} (h:okL l) {id:Int} (hi:mIn id 1 (l.1.length:Int)=true):inB (IntKind.wrap .i64 (id - 1)) l.1=true:=by
 rw[ZF] at hi
 have:=h.n1
 rw[YK (by omega) (by omega)]
 exact QaS (by omega) (by omega)
theorem QpR {l:TL} (h:okL l) (id:Int):JI l id=some (mTI l id):=by
 unfold JI Qda QeG mTI
 rw[ZB]
 simp only[Option.bind_some]
 cases hi:mIn id 1 (l.1.length:Int) with
 | false=>rfl
 | true=>
  simp only[Bool.not_true,cond_false,QFx h hi,cond_true,Option.bind_some,decide_true,if_true]
  obtain⟨x,hx,hq⟩:=QE3 _ (QCd h (Int.toNat (IntKind.wrap .i64 (id - 1))))
  obtain⟨r1,r2⟩:=QFF hq
  rw[hx,Option.bind_some]
  cases hr:rdTx (List.getD l.1 (Int.toNat (IntKind.wrap .i64 (id - 1))) []) with
  | none=>rw[r2 hr];rfl
  | some t=>rw[r1 t hr];rfl
theorem QBs {l:TL} (h:mLF l=0) (id:Int):Qid l id=some ((mTI l id).2,(mTI l id).1):=by
 have ho:=QAH h
 have hB:BIG=4611686018427387904:=rfl
 unfold Qid QiL Qk1 QhZ mTI
 rw[Qh0 l (by have:=ho.n1;omega) (by have:=ho.n2;omega),Option.bind_some,h,Yv]
 simp only[decide_true,Bool.not_true,cond_false,Option.bind_some]
 cases hi:mIn id 1 (l.1.length:Int) with
 | false=>rfl
 | true=>
  simp only[Bool.not_true,cond_false,QFx ho hi,cond_true,Option.bind_some,decide_true,if_true]
  obtain⟨x,hx,hq⟩:=QEd _ (QCd ho (Int.toNat (IntKind.wrap .i64 (id - 1))))
  obtain⟨r1,r2⟩:=QFF hq
  rw[hx,Option.bind_some]
  cases hr:rdTx (List.getD l.1 (Int.toNat (IntKind.wrap .i64 (id - 1))) []) with
  | none=>rw[r2 hr];rfl
  | some t=>rw[r1 t hr];rfl
theorem Qta {l:TL} {id:Int} (h:(mTI l id).2=0):mTxF (mTI l id).1=0:=by
 unfold mTI at h ⊢
 split
 ·rename_i h1
  rw[if_pos h1] at h
  split
  ·rename_i t ht;exact (QoU ht).1
  ·rename_i ht;rw[ht] at h;cases h
 ·rename_i h1;rw[if_neg h1] at h;cases h
theorem QCp (n k:Nat) (hk:k<=n) (f:Int×Int->Option ((Int×Int)⊕Int))
  (hs:∀lo hi:Nat,lo<hi->hi<=n->f ((lo:Int),(hi:Int))=some (.inl (if (lo+hi) / 2<k then ((((lo+hi) / 2+1:Nat):Int),(hi:Int)) else ((lo:Int),(((lo+hi) / 2:Nat):Int)))))
  (he:∀lo:Nat,f ((lo:Int),(lo:Int))=some (.inr (lo:Int))):Qh f (0,(n:Int))=some (k:Int):=by
 have key:∀(d lo hi:Nat),hi - lo<=d->lo<=k->k<=hi->hi<=n->Qh f ((lo:Int),(hi:Int))=some (k:Int):=by
  intro d
  induction d with
  | zero=>
   intro lo hi h1 h2 h3 h4
   obtain rfl:lo=k:=by omega
   obtain rfl:lo=hi:=by omega
   exact QE (he lo)
  | succ d ih=>
   intro lo hi h1 h2 h3 h4
   by_cases h:lo<hi
   ·rw[Zj (hs lo hi h h4)]
    by_cases hm:(lo+hi) / 2<k
    ·rw[if_pos hm];exact ih _ _ (by omega) (by omega) h3 h4
    ·rw[if_neg hm];exact ih _ _ (by omega) h2 (by omega) (by omega)
   ·obtain rfl:lo=hi:=by omega
    obtain rfl:lo=k:=by omega
    exact QE (he lo)
 exact key n 0 n (by omega) (by omega) hk (by omega)
theorem QDH {lo hi:Nat} (h:lo+hi<4611686018427387904):IntKind.wrap .i64 (Int.fdiv (IntKind.wrap .u64 (IntKind.wrap .i64 ((lo:Int)+(hi:Int)))) (2 ^ 1))=(((lo+hi) / 2:Nat):Int):=by
 rw[YK (n:=(lo:Int)+(hi:Int)) (by omega) (by omega)]
 have e:IntKind.wrap .u64 ((lo:Int)+(hi:Int))=(lo:Int)+(hi:Int):=by
  simp[IntKind.wrap,IntKind.bits,IntKind.signed];omega
 rw[e]
 have e2:Int.fdiv ((lo:Int)+(hi:Int)) (2 ^ 1)=(((lo+hi) / 2:Nat):Int):=by
  rw[Int.fdiv_eq_ediv_of_nonneg _ (by decide)]
  show ((lo:Int)+(hi:Int)) / 2=_
  omega
 rw[e2]
 exact YK (by omega) (by omega)
theorem QqR (n:Nat) (p:Nat->Bool) (hm:∀i j,i<=j->j<n->p j=true->p i=true):∃k,k<=n/\(∀i,i<k->p i=true)/\(∀i,k<=i->i<n->p i=false):=by
 induction n with
 | zero=>exact⟨0,by omega,fun i hi=>by omega,fun i h1 h2=>by omega⟩
 | succ n ih=>
  obtain⟨k,h1,h2,h3⟩:=ih fun i j hij hj=>hm i j hij (by omega)
  by_cases hp:p n=true
  ·refine⟨n+1,by omega,fun i hi=>hm i n (by omega) (by omega) hp,fun i h4 h5=>by omega⟩
  ·refine⟨k,by omega,h2,fun i h4 h5=>?_⟩
   by_cases hin:i=n
   ·subst hin;simpa using hp
   ·exact h3 i h4 (by omega)
theorem QfT {a b c:Int×Int} (h1:Zt a b=true) (h2:Zt b c=true):Zt a c=true:=by
 unfold Zt at *
 split at h1<;>split at h2<;>split<;>simp at *<;>omega
theorem QcD (a:Int×Int):Zt a a=false:=by unfold Zt;simp
theorem QBP {a b:Int×Int} (h:Zt a b=true):Zt b a=false:=by
 cases h2:Zt b a with
 | false=>rfl
 | true=>have:=QfT h h2;rw[QcD] at this;cases this
theorem Qwl {a b:Int×Int} (h1:Zt a b=false) (h2:Zt b a=false):a=b:=by
 obtain⟨a1,a2⟩:=a;obtain⟨b1,b2⟩:=b
 unfold Zt at *
 simp only at h1 h2
 by_cases h:a1=b1
 ·rw[if_pos h] at h1;rw[if_pos h.symm] at h2
  simp at h1 h2
  rw[h,show a2=b2 by omega]
 ·rw[if_neg h] at h1;rw[if_neg (fun e=>h e.symm)] at h2
  simp at h1 h2
  omega
theorem QAS (a b:Int×Int):decide (Qhy a b<0)=Zt a b:=by
 have:=Qs0 a b
 cases h:Zt a b with
 | false=>rw[h] at this;simp at this ⊢;omega
 | true=>rw[h] at this;simp at this ⊢;omega
theorem QEb (a b:Int×Int):decide (Qhy a b=0)=decide (a=b):=by
 obtain⟨a1,a2⟩:=a;obtain⟨b1,b2⟩:=b
 unfold Qhy mCmp
 refine decide_eq_decide.2 ?_
 simp only[Prod.mk.injEq]
 by_cases h1:a1<b1
 ·simp[h1];omega
 ·by_cases h2:b1<a1
  ·simp[h1,h2];omega
  ·by_cases h3:a2<b2
   ·simp[h1,h2,h3];omega
   ·by_cases h4:b2<a2
    ·simp[h1,h2,h3,h4];omega
    ·simp[h1,h2,h3,h4];omega
def Rise (l:List TCoin):Prop:=l.Pairwise fun a b=>Zt a.1 b.1=true
theorem QFO {l:List TCoin} (h:Jo l=0):Rise l:=by
 unfold Jo at h
 by_cases h40:(40:Int)<(l.length:Int)
 ·rw[if_pos h40] at h;cases h
 ·rw[if_neg h40] at h
  have step:∀i (hi:i+1<l.length),Zt (l[i]'(by omega)).1 l[i+1].1=true:=fun i hi=>by
   have hc:=QcU h (i+1) _ (List.getElem?_eq_getElem hi)
   unfold QmP at hc
   cases h1:mRef l[i+1].1&&mIn l[i+1].2.2.1 0 999 with
   | false=>rw[h1] at hc;simp at hc
   | true=>
    rw[h1,if_pos rfl] at hc
    by_cases h2:mOut l[i+1].2.1=0
    ·rw[if_pos h2,Nat.add_sub_cancel,List.getD_eq_getElem?_getD,List.getElem?_eq_getElem (by omega:i<l.length)] at hc
     cases h3:Zt (l[i]'(by omega)).1 l[i+1].1 with
     | true=>rfl
     | false=>
      simp only[Option.getD_some] at hc
      simp[h3] at hc
    ·rw[if_neg h2] at hc;exact absurd hc h2
  unfold Rise
  rw[List.pairwise_iff_getElem]
  intro i j hi hj hij
  obtain⟨d,rfl⟩:∃d,j=i+1+d:=⟨j - (i+1),by omega⟩
  induction d with
  | zero=>exact step i hj
  | succ d ih=>exact QfT (ih (by omega) (by omega)) (step (i+1+d) hj)
theorem Qpd {l:List TCoin} (h:Rise l) {i j:Nat} (hij:i<j) (hj:j<l.length):Zt (l[i]'(by omega)).1 l[j].1=true:=List.pairwise_iff_getElem.1 h i j (by omega) hj hij
theorem QA5 {l:List TCoin} (h:Rise l) {a b:TCoin} (ha:a ∈ l) (hb:b ∈ l) (he:a.1=b.1):a=b:=by
 obtain⟨i,hi,rfl⟩:=List.mem_iff_getElem.1 ha
 obtain⟨j,hj,rfl⟩:=List.mem_iff_getElem.1 hb
 rcases Nat.lt_trichotomy i j with h1 | h1 | h1
 ·have:=Qpd h h1 hj;rw[he,QcD] at this;cases this
 ·subst h1;rfl
 ·have:=Qpd h h1 hi;rw[he,QcD] at this;cases this
theorem QCB {l:List TCoin} (hr:Rise l) (hl:l.length<=1000000) (r:Int×Int):∃k:Nat,Qbt l r=some ((k:Int),decide (∃h:k<l.length,(l[k]'h).1=r))/\((∃h:k<l.length,(l[k]'h).1=r)\/∀x,x ∈ l->x.1 ≠ r):=by
 obtain⟨k,h1,h2,h3⟩:=QqR l.length (fun i=>Zt (List.getD l i dC).1 r) (fun i j hij hj hp=>by
  rcases Nat.lt_or_ge i j with h | h
  ·have hi:i<l.length:=by omega
   have:=Qpd hr h hj
   have e1:List.getD l i dC=l[i]:=by rw[List.getD_eq_getElem?_getD,List.getElem?_eq_getElem hi];rfl
   have e2:List.getD l j dC=l[j]:=by rw[List.getD_eq_getElem?_getD,List.getElem?_eq_getElem hj];rfl
   simp only[e1,e2] at hp ⊢
   exact QfT this hp
  ·obtain rfl:i=j:=by omega
   exact hp)
 have hgd:∀i (hi:i<l.length),List.getD l i dC=l[i]:=fun i hi=>by rw[List.getD_eq_getElem?_getD,List.getElem?_eq_getElem hi];rfl
 refine⟨k,?_,?_⟩
 ·unfold Qbt Q7
  have hcmp:∀(x:TCoin),((QbC x r).bind fun r7=>some r7)=some (Qhy x.1 r):=fun x=>by
   unfold QbC
   rw[QeY];rfl
  simp only[hcmp,Option.bind_some]
  rw[QCp l.length k h1 _ (fun lo hi hlo hhi=>?_) (fun lo=>by simp only[Int.lt_irrefl,decide_false,cond_false]),Option.bind_some]
  ·by_cases hk:k<l.length
   ·have hd:List.getD l (Int.toNat (k:Int)) dC=l[k]:=by rw[Int.toNat_natCast];exact hgd k hk
    rw[dlt hk,cond_true,Qg l k hk,cond_true]
    show some ((k:Int),decide (Qhy (List.getD l (Int.toNat (k:Int)) dC).1 r=0))=_
    rw[hd,QEb]
    congr 2
    exact decide_eq_decide.2 ⟨fun h=>⟨hk,h⟩,fun ⟨_,h⟩=>h⟩
   ·have hf:decide (∃h:k<l.length,(l[k]'h).1=r)=false:=decide_eq_false (fun ⟨h,_⟩=>hk h)
    rw[dge' (by omega),cond_false,Option.bind_some,hf];rfl
  ·have hm:=QDH (lo:=lo) (hi:=hi) (by omega)
   have hml:(lo+hi) / 2<l.length:=by omega
   simp only[hm]
   rw[decide_eq_true (by omega),cond_true,Qg l _ hml,cond_true]
   have hd:List.getD l (Int.toNat (((lo+hi) / 2:Nat):Int)) ((0,0),((0,([],(0,0))),(0,false)))=l[(lo+hi) / 2]:=by rw[Int.toNat_natCast];exact hgd _ hml
   rw[hd,QAS,wsucc hml (by unfold BIG;omega)]
   by_cases hmk:(lo+hi) / 2<k
   ·have:=h2 _ hmk
    rw[hgd _ hml] at this
    rw[this,if_pos hmk];rfl
   ·have:=h3 _ (by omega) hml
    rw[hgd _ hml] at this
    rw[this,if_neg hmk];rfl
 ·by_cases hf:∃h:k<l.length,(l[k]'h).1=r
  ·exact .inl hf
  ·refine .inr fun x hx he=>hf ?_
   obtain⟨i,hi,rfl⟩:=List.mem_iff_getElem.1 hx
   have hik:¬i<k:=fun h=>by
    have:=h2 i h
    rw[hgd i hi,he,QcD] at this;cases this
   refine⟨by omega,?_⟩
   rcases Nat.lt_or_ge k i with h | h
   ·have h4:=Qpd hr h hi
    have h5:=h3 k (Nat.le_refl _) (by omega)
    rw[hgd k (by omega)] at h5
    rw[he] at h4
    rw[h4] at h5;cases h5
   ·obtain rfl:i=k:=by omega
    exact he
end GL
end Go.Dx
set_option maxHeartbeats 2000000
namespace Go.Dx
namespace GL
theorem QBr (l:List Int) (hl:l.length<=LIM):Yp l=some l:=by
 unfold Yp
 rw[Qk7 hl,cond_true]
 cases l with
 | nil=>exact QsI _
 | cons a l=>rfl
theorem Qw6 (o:TOut) (h:o.2.1.length<=1000000):Qgn o=some o:=by
 unfold Qgn QhV
 rw[QBr _ (by unfold LIM;omega)];rfl
theorem Qsm (l:List TCoin) (hl:l.length<=1000000) (hk:∀x,x ∈ l->x.2.1.2.1.length<=1000000):Qej l=some l:=by
 unfold Qej
 rw[ZU (σ:=List TCoin) l (fun acc a=>acc++[a]) (fun t i=>(t,i)) (fun t=>t) (fun t i=>t.length=i) _ (fun i hi t ht=>by
   refine⟨?_,by simp[ht]⟩
   simp only[dlt hi,Qg _ i hi,Qf _ i _ hi,cond_true,Qw6 _ (hk _ (List.getElem_mem hi)),Option.bind_some,wsucc hi (by unfold BIG;omega)]
   rw[QM (by simp only[List.length_cons,List.length_nil];unfold LIM;omega)];rfl) (fun t ht=>by simp only[dge,cond_false]) [] rfl,Option.bind_some,foldl_map (fun a=>a),List.map_id',List.nil_append]
theorem Qxe (l:List TCoin) (hl:l.length<=1000000) (hk:∀x,x ∈ l->x.2.1.2.1.length<=1000000):Qgq l=some l:=by
 unfold Qgq
 have h2:∀r:TRu,r.1.length<=1000000->Qgl r=some r:=fun r hr=>by
  unfold Qgl
  rw[Qk7 (by unfold LIM;omega)];rfl
 rw[ZU (σ:=List TCoin) l (fun acc a=>acc++[a]) (fun t i=>(t,i)) (fun t=>t) (fun t i=>t.length=i) _ (fun i hi t ht=>by
   refine⟨?_,by simp[ht]⟩
   simp only[dlt hi,Qg _ i hi,Qf _ i _ hi,cond_true,h2 _ (hk _ (List.getElem_mem hi)),Option.bind_some,wsucc hi (by unfold BIG;omega)]
   rw[QM (by simp only[List.length_cons,List.length_nil];unfold LIM;omega)];rfl) (fun t ht=>by simp only[dge,cond_false]) [] rfl,Option.bind_some,foldl_map (fun a=>a),List.map_id',List.nil_append]
def mSp (c:List TCoin) (t:TX):List TCoin:=c.filter fun x=>decide (x.1 ∈ t.2.2.1)
theorem QlO {c:List TCoin} (h:Jo c=0):∀x,x ∈ c->x.2.1.2.1.length<=1000000:=fun x hx=>by
 have:=(Jn ((QjT h).2 x hx).rule).len;omega
theorem Qt1 {c:List TCoin} (h:Jo c=0) (t:TX) (ht:t.2.2.1.length<=1000000):Qfl c t=some (mSp c t,decide ((mSp c t).length=t.2.2.1.length)):=by
 have hl:=(QjT h).1
 unfold Qfl mSp
 rw[ZU (σ:=List TCoin) c (fun acc a=>if decide (a.1 ∈ t.2.2.1) then acc++[a] else acc) (fun t i=>(t,i)) (fun t=>t) (fun t i=>t.length<=i) _ (fun i hi x hx=>by
   refine⟨?_,by split<;>(try simp only[List.length_append,List.length_cons,List.length_nil])<;>omega⟩
   simp only[dlt hi,Qg _ i hi,Qf _ i _ hi,cond_true,Qat t.2.2.1 (by unfold BIG;omega),Option.bind_some,wsucc hi (by unfold BIG;omega)]
   rw[QM (by simp only[List.length_cons,List.length_nil];unfold LIM;omega)]
   cases decide (c[i].1 ∈ t.2.2.1)<;>rfl) (fun t ht=>by simp only[dge,cond_false]) [] (Nat.le_refl _),Option.bind_some,foldl_filter,List.nil_append]
 rw[Qxe _ (by have:=List.length_filter_le (fun x:TCoin=>decide (x.1 ∈ t.2.2.1)) c;omega) (fun x hx=>QlO h x (List.mem_filter.1 hx).1),Option.bind_some]
 congr 2
 exact decide_eq_decide.2 (by omega)
theorem QCD {c xs ys:List TCoin} (hc:Rise c) (hx:∀x,x ∈ xs->x ∈ c) (hp:ys.Perm xs) (hy:Rise ys) (hl:xs.length<=1000000):Qgo xs=some ys:=by
 unfold Qgo ZV
 have hg:∀a b:TCoin,((YF a b).bind fun r7=>some r7)=some (Qhy a.1 b.1):=fun a b=>by
  unfold YF
  rw[QeY];rfl
 have hl':∀a b:TCoin,Qef (fun a b=>(YF a b).bind fun r7=>some r7) a b=Zt a.1 b.1:=fun a b=>by
  unfold Qef
  simp only[hg]
  exact QAS a.1 b.1
 have hso:Ql3 (fun a b=>(YF a b).bind fun r7=>some r7) xs:=by
  refine⟨fun a _ b _=>⟨_,hg a b⟩,fun a _=>by rw[hl'];exact QcD _,fun a _ b _ d _ h1 h2=>?_,fun a _ b _ d _ h1 h2=>?_,fun a ha b hb h1 h2=>?_,by omega⟩
  ·rw[hl'] at h1 h2 ⊢;exact QfT h1 h2
  ·rw[hl'] at h1 h2 ⊢
   cases h3:Zt a.1 d.1 with
   | false=>rfl
   | true=>
    cases h4:Zt d.1 b.1 with
    | true=>have:=QfT h3 h4;rw[h1] at this;cases this
    | false=>
     have e:=Qwl h2 h4
     rw[e] at h1;rw[h3] at h1;cases h1
  ·rw[hl'] at h1 h2
   exact QA5 hc (hx a ha) (hx b hb) (Qwl h1 h2)
 have hss:Sorts (fun a b=>(YF a b).bind fun r7=>some r7) xs ys:=⟨hp,List.Pairwise.imp (fun {a b} h=>by rw[hl'];exact QBP h) hy⟩
 rw[QFr hso hss];rfl
def atC (c:List TCoin) (r:Int×Int):Option TCoin:=c.find? fun x=>decide (x.1=r)
theorem Qjw {c:List TCoin} {r:Int×Int} {x:TCoin} (h:atC c r=some x):x ∈ c/\x.1=r:=⟨List.mem_of_find?_eq_some h,by simpa using List.find?_some h⟩
theorem QDM {c:List TCoin} (hc:Rise c) {x:TCoin} (hx:x ∈ c):atC c x.1=some x:=by
 cases h:atC c x.1 with
 | none=>
  unfold atC at h
  rw[List.find?_eq_none] at h
  exact absurd (by simp) (h x hx)
 | some y=>
  obtain⟨h1,h2⟩:=Qjw h
  rw[QA5 hc h1 hx h2]
theorem QEQ {c:List TCoin} {r:Int×Int} (h:∀x,x ∈ c->x.1 ≠ r):atC c r=none:=by
 unfold atC
 rw[List.find?_eq_none]
 intro x hx
 simpa using h x hx
theorem QFT {c:List TCoin} (hc:Rise c) (rs:List (Int×Int)) (hn:rs.Nodup):(c.filter fun x=>decide (x.1 ∈ rs)).Perm (rs.filterMap (atC c)):=by
 have n1:(c.filter fun x=>decide (x.1 ∈ rs)).Nodup:=by
  rw[List.nodup_iff_pairwise_ne]
  exact List.Pairwise.sublist List.filter_sublist (List.Pairwise.imp (fun {a b} h e=>by rw[e,QcD] at h;cases h) hc)
 have n2:(rs.filterMap (atC c)).Nodup:=by
  rw[List.nodup_iff_pairwise_ne,List.pairwise_filterMap]
  rw[List.nodup_iff_pairwise_ne] at hn
  refine List.Pairwise.imp (fun {a b} h x hx y hy e=>h ?_) hn
  rw[<-(Qjw hx).2,<-(Qjw hy).2,e]
 refine (List.perm_ext_iff_of_nodup n1 n2).2 fun x=>?_
 rw[List.mem_filter,List.mem_filterMap]
 constructor
 ·rintro ⟨h1,h2⟩
  exact⟨x.1,of_decide_eq_true h2,QDM hc h1⟩
 ·rintro ⟨r,h1,h2⟩
  obtain⟨h3,h4⟩:=Qjw h2
  exact⟨h3,decide_eq_true (h4 ▸ h1)⟩
theorem QFm {c:List TCoin} (hc:Rise c) (p:TCoin->Bool):Rise (c.filter p):=List.Pairwise.sublist List.filter_sublist hc
theorem Qt5 {c:List TCoin} (h:Jo c=0) (t:TX) (ht:okT t):Qfu c t=some (if (mSp c t).length=t.2.2.1.length then (mSp c t,0) else ([],4)):=by
 have hl:=(QjT h).1
 have hc:=QFO h
 have hp:=QFT hc t.2.2.1 ht.nd
 have hli:=ht.li
 have hfind:∀r:Int×Int,∃k:Int,∃b,Qbt c r=some (k,b)/\(b=true->∃x,atC c r=some x/\inB k c=true/\List.getD c (Int.toNat k) ((0,0),((0,([],(0,0))),(0,false)))=x)/\(b=false->atC c r=none):=fun r=>by
  obtain⟨k,hk,hor⟩:=QCB hc (by omega) r
  refine⟨k,_,hk,fun hb=>?_,fun hb=>?_⟩
  ·obtain⟨h1,h2⟩:=of_decide_eq_true hb
   exact⟨c[k],by rw[<-h2];exact QDM hc (List.getElem_mem h1),Qg c k h1,Qf c k _ h1⟩
  ·rcases hor with h1 | h1
   ·exact absurd h1 (of_decide_eq_false hb)
   ·exact QEQ h1
 have loop:∀(f:List TCoin×Int->Option ((List TCoin×Int)⊕(List TCoin⊕(List TCoin×Int)))),
   (∀(i:Nat) (hi:i<t.2.2.1.length) (acc:List TCoin),acc.length<=i->f (acc,(i:Int))=some (match atC c t.2.2.1[i] with | some x=>.inl (acc++[x],((i+1:Nat):Int)) | none=>.inr (.inr ([],4))))->(∀acc,f (acc,(t.2.2.1.length:Int))=some (.inr (.inl acc)))->
   Qh f ([],0)=some (if (mSp c t).length=t.2.2.1.length then .inl (t.2.2.1.filterMap (atC c)) else .inr ([],4)):=by
  intro f hs he
  have key:∀(k i:Nat) (acc:List TCoin),i+k=t.2.2.1.length->acc.length<=i->Qh f (acc,(i:Int))=some (if ((t.2.2.1.drop i).filterMap (atC c)).length=k then .inl (acc++(t.2.2.1.drop i).filterMap (atC c)) else .inr ([],4)):=by
   intro k
   induction k with
   | zero=>
    intro i acc hi ha
    obtain rfl:i=t.2.2.1.length:=by omega
    rw[QE (he acc)];simp
   | succ k ih=>
    intro i acc hi ha
    have hlt:i<t.2.2.1.length:=by omega
    have h1:=hs i hlt acc ha
    rw[List.drop_eq_getElem_cons hlt]
    have hle:=List.length_filterMap_le (atC c) (t.2.2.1.drop (i+1))
    rw[List.length_drop] at hle
    cases hx:atC c t.2.2.1[i] with
    | none=>
     rw[hx] at h1
     rw[QE h1,List.filterMap_cons_none hx,if_neg (by omega)]
    | some x=>
     rw[hx] at h1
     rw[Zj h1,ih (i+1) _ (by omega) (by simp;omega),List.filterMap_cons_some hx]
     by_cases hk:((t.2.2.1.drop (i+1)).filterMap (atC c)).length=k
     ·rw[if_pos hk,if_pos (by simp;omega)];simp
     ·rw[if_neg hk,if_neg (by simp;omega)]
  have:=key t.2.2.1.length 0 [] (by omega) (by simp)
  rw[List.drop_zero,List.nil_append,<-hp.length_eq] at this
  exact this
 unfold Qfu
 rw[loop _ (fun i hi acc ha=>?_) (fun acc=>by simp only[dge,cond_false]),Option.bind_some]
 ·by_cases hlen:(mSp c t).length=t.2.2.1.length
  ·rw[if_pos hlen,if_pos hlen]
   have hm:∀x,x ∈ t.2.2.1.filterMap (atC c)->x ∈ c:=fun x hx=>by
    obtain⟨r,_,h2⟩:=List.mem_filterMap.1 hx
    exact (Qjw h2).1
   have hfl:=List.length_filterMap_le (atC c) t.2.2.1
   rw[Sum.elim_inl,Qsm _ (by omega) (fun x hx=>QlO h x (hm x hx)),Option.bind_some,QCD hc hm hp (QFm hc _) (by omega)]
   rfl
  ·rw[if_neg hlen,if_neg hlen];rfl
 ·obtain⟨k,b,e1,e2,e3⟩:=hfind t.2.2.1[i]
  simp only[dlt hi,Qg _ i hi,Qf _ i _ hi,cond_true,e1,Option.bind_some,wsucc hi (by unfold BIG;omega)]
  cases b with
  | false=>rw[e3 rfl];rfl
  | true=>
   obtain⟨x,h1,h2,h3⟩:=e2 rfl
   rw[h1,h2,h3]
   simp only[Bool.not_true,cond_false,cond_true]
   rw[QM (by simp only[List.length_cons,List.length_nil];unfold LIM;omega)];rfl
end GL
end Go.Dx
set_option maxHeartbeats 2000000
namespace Go.Dx
namespace GL
def mCnt (l:TL) (ks:List Int) (id:Int):Int:=ks.foldl (fun n k=>if decide ((k,id) ∈ l.2) then IntKind.wrap .i64 (n+1) else n) 0
def mMet (l:TL) (r:TRu) (id h:Int):Int:=if h<r.2.2 then 9 else if mCnt l r.1 id<r.2.1 then 6 else 0
theorem QvY {l:TL} (hl:okL l) (k id:Int):Z5 l k id=some (decide ((k,id) ∈ l.2)):=by
 unfold Z5
 rw[Qkf _ (by have:=hl.n2;unfold BIG;omega)];rfl
theorem QCi {l:TL} (hl:okL l) (k id:Int):Qcb l k id=some (decide ((k,id) ∈ l.2)):=by
 unfold Qcb
 rw[QkR _ (by have:=hl.n2;unfold BIG;omega)];rfl
theorem QDZ {l:TL} (hl:okL l) (r:TRu) (hr:r.1.length<BIG) (id h:Int):JY l r id h=some (mMet l r id h):=by
 unfold JY mMet
 by_cases h1:h<r.2.2
 ·rw[decide_eq_true h1,if_pos h1];rfl
 ·rw[decide_eq_false h1,if_neg h1,cond_false]
  rw[ZU (σ:=Int) r.1 (fun n k=>if decide ((k,id) ∈ l.2) then IntKind.wrap .i64 (n+1) else n) (fun t i=>(t,i)) (fun t=>t) (fun _ _=>True) _ (fun i hi x hx=>by
    refine⟨?_,trivial⟩
    simp only[dlt hi,Qg _ i hi,Qf _ i _ hi,cond_true,QvY hl,Option.bind_some,wsucc hi hr]
    cases decide ((r.1[i],id) ∈ l.2)<;>rfl) (fun t ht=>by simp only[dge,cond_false]) 0 trivial,Option.bind_some]
  show (bif decide (mCnt l r.1 id<r.2.1) then some (6:Int) else some 0)=_
  by_cases h2:mCnt l r.1 id<r.2.1
  ·rw[decide_eq_true h2,if_pos h2];rfl
  ·rw[decide_eq_false h2,if_neg h2];rfl
theorem QGc {l:TL} (hl:okL l) (r:TRu) (hr:r.1.length<BIG) (id h:Int):Qhp l r id h=some (mMet l r id h):=by
 unfold Qhp mMet
 by_cases h1:h<r.2.2
 ·rw[decide_eq_true h1,if_pos h1];rfl
 ·rw[decide_eq_false h1,if_neg h1,cond_false]
  rw[ZU (σ:=Int) r.1 (fun n k=>if decide ((k,id) ∈ l.2) then IntKind.wrap .i64 (n+1) else n) (fun t i=>(t,i)) (fun t=>t) (fun _ _=>True) _ (fun i hi x hx=>by
    refine⟨?_,trivial⟩
    simp only[dlt hi,Qg _ i hi,Qf _ i _ hi,cond_true,QCi hl,Option.bind_some,wsucc hi hr]
    cases decide ((r.1[i],id) ∈ l.2)<;>rfl) (fun t ht=>by simp only[dge,cond_false]) 0 trivial,Option.bind_some]
  show (bif decide (mCnt l r.1 id<r.2.1) then some (6:Int) else some 0)=_
  by_cases h2:mCnt l r.1 id<r.2.1
  ·rw[decide_eq_true h2,if_pos h2];rfl
  ·rw[decide_eq_false h2,if_neg h2];rfl
def QmF (x:TCoin) (h:Int):Bool:=!x.2.2.2 || decide (IntKind.wrap .i64 (x.2.2.1+2)<=h)
theorem QE1 (x:TCoin) (h:Int):Qgb x h=some (QmF x h):=by
 unfold Qgb QmF
 cases x.2.2.2<;>rfl
theorem QFe (x:TCoin) (h:Int) (h1:mIn x.2.2.1 0 999=true) (h2:mIn h 0 999=true):Qgd x h=some (QmF x h):=by
 unfold Qgd QmF
 rw[Qei,Qei,h1,h2]
 cases x.2.2.2<;>rfl
def mSum (l:List TCoin):Int:=l.foldl (fun n x=>IntKind.wrap .i64 (n+x.2.1.1)) 0
def Qpa (l:List TOut):Int:=l.foldl (fun n x=>IntKind.wrap .i64 (n+x.1)) 0
theorem QCx (l:List TCoin) (hl:l.length<BIG):Qhu l=some (mSum l)/\Qg4 l=some (mSum l):=by
 constructor
 ·unfold Qhu
  rw[ZU (σ:=Int) l (fun n x=>IntKind.wrap .i64 (n+x.2.1.1)) (fun t i=>(t,i)) (fun t=>t) (fun _ _=>True) _ (fun i hi x hx=>by
    refine⟨?_,trivial⟩
    simp only[dlt hi,Qg _ i hi,Qf _ i _ hi,cond_true,Option.bind_some,wsucc hi hl]) (fun t ht=>by simp only[dge,cond_false]) 0 trivial,Option.bind_some];rfl
 ·unfold Qg4
  rw[ZU (σ:=Int) l (fun n x=>IntKind.wrap .i64 (n+x.2.1.1)) (fun t i=>(t,i)) (fun t=>t) (fun _ _=>True) _ (fun i hi x hx=>by
    refine⟨?_,trivial⟩
    simp only[dlt hi,Qg _ i hi,Qf _ i _ hi,cond_true,Option.bind_some,wsucc hi hl]) (fun t ht=>by simp only[dge,cond_false]) 0 trivial,Option.bind_some];rfl
theorem QAY (t:TX) (hl:t.2.2.2.length<BIG):Qgj t=some (Qpa t.2.2.2)/\Qhw t=some (Qpa t.2.2.2):=by
 constructor
 ·unfold Qgj
  rw[ZU (σ:=Int) t.2.2.2 (fun n x=>IntKind.wrap .i64 (n+x.1)) (fun t i=>(t,i)) (fun t=>t) (fun _ _=>True) _ (fun i hi x hx=>by
    refine⟨?_,trivial⟩
    simp only[dlt hi,Qg _ i hi,Qf _ i _ hi,cond_true,Option.bind_some,wsucc hi hl]) (fun t ht=>by simp only[dge,cond_false]) 0 trivial,Option.bind_some];rfl
 ·unfold Qhw
  rw[ZU (σ:=Int) t.2.2.2 (fun n x=>IntKind.wrap .i64 (n+x.1)) (fun t i=>(t,i)) (fun t=>t) (fun _ _=>True) _ (fun i hi x hx=>by
    refine⟨?_,trivial⟩
    simp only[dlt hi,Qg _ i hi,Qf _ i _ hi,cond_true,Option.bind_some,wsucc hi hl]) (fun t ht=>by simp only[dge,cond_false]) 0 trivial,Option.bind_some];rfl
def mC1 (l:TL) (id h:Int) (x:TCoin):Int:=if QmF x h then mMet l x.2.1.2 id h else 9
def QCH (l:TL) (sp:List TCoin) (t:TX) (id:Int):Int×Int:=if t.1=2/\(t.2.1,id) ∉ l.2 then (0,6) else if IntKind.wrap .i64 (mSum sp - Qpa t.2.2.2)<0 then (0,8) else (IntKind.wrap .i64 (mSum sp - Qpa t.2.2.2),0)
def Qsa (l:TL) (c:List TCoin) (t:TX) (id h:Int):Int×Int:=if (mSp c t).length=t.2.2.1.length then (if code (fun _=>mC1 l id h) (mSp c t)=0 then QCH l (mSp c t) t id else (0,code (fun _=>mC1 l id h) (mSp c t))) else (0,4)
def mId (l:TL) (s:List UInt8):Int:=idxF (fun a=>decide (a=s)) l.1+1
def mChk (l:TL) (c:List TCoin) (t:TX) (h:Int):Int×Int:=if (Qt t).length<=300 then (if mId l (Qt t)=0 then (0,4) else Qsa l c t (mId l (Qt t)) h) else (0,2)
theorem QrT {α R:Type} (l:List α) (c:α->Int) (f:Int->Option (Int⊕(Unit⊕(Int×Int))))
  (hs:∀(i:Nat) (h:i<l.length),f (i:Int)=some (if c l[i]=0 then .inl ((i+1:Nat):Int) else .inr (.inr (0,c l[i])))) (he:f (l.length:Int)=some (.inr (.inl ()))) (A:Unit->Option R) (B:Int×Int->Option R) :
  ((Qh f 0).bind fun j=>Sum.elim A B j)=if code (fun _=>c) l=0 then A () else B (0,code (fun _=>c) l):=by
 rw[Qbg l (fun i a=>(if c a=0 then none else some (c a)).map fun v=>((0:Int),v)) f (fun i h=>by rw[hs i h];by_cases hc:c l[i]=0<;>simp[hc]) he,QmX,Qc6]
 by_cases h0:code (fun _=>c) l=0
 ·rw[if_pos h0]
  have hz:=QcU h0
  have:first (fun (_:Nat) a=>if c a=0 then none else some (c a)) 0 l=none:=(Qhr l 0).2 (fun j a ha=>by rw[if_pos (hz j a ha)])
  rw[this];rfl
 ·rw[if_neg h0]
  unfold code at h0 ⊢
  cases hf:first (fun (_:Nat) a=>if c a=0 then none else some (c a)) 0 l with
  | none=>rw[hf] at h0;exact absurd rfl h0
  | some r=>rfl
theorem QA4 {c:List TCoin} {t:TX} {x:TCoin} (h:x ∈ mSp c t):x ∈ c:=(List.mem_filter.1 h).1
theorem Qmm {l:TL} (t:TX) (id:Int) (g:Int->Int->Option Bool) (hg:g t.2.1 id=some (decide ((t.2.1,id) ∈ l.2))):(bif decide (t.1=2) then (g t.2.1 id).bind fun y=>some (!y) else some false)=some (decide (t.1=2/\(t.2.1,id) ∉ l.2)):=by
 rw[hg]
 by_cases h1:t.1=2<;>by_cases h2:(t.2.1,id) ∈ l.2<;>simp[h1,h2]
theorem Qvp {l:TL} (hl:okL l) {c:List TCoin} (hc:Jo c=0) {t:TX} (ht:okT t) (id h:Int):Qcw l c t id h=some (Qsa l c t id h):=by
 have hB:BIG=4611686018427387904:=rfl
 have hcl:=(QjT hc).1
 have hspl:(mSp c t).length<=c.length:=List.length_filter_le _ c
 unfold Qcw Qsa
 rw[Qt1 hc t (by have:=ht.li;omega),Option.bind_some]
 by_cases h1:(mSp c t).length=t.2.2.1.length
 ·simp only[h1,decide_true,Bool.not_true,cond_false,if_true]
  rw[QrT (mSp c t) (mC1 l id h) _ (fun i hi=>?_) (by rw[<-h1];simp only[dge,cond_false])]
  ·by_cases h2:code (fun _=>mC1 l id h) (mSp c t)=0
   ·rw[if_pos h2,if_pos h2,Qmm (l:=l) t id (Qcb l) (QCi hl _ _),Option.bind_some,(QCx _ (by omega)).2,(QAY t ht.b.outs).2]
    unfold QCH
    by_cases h3:t.1=2/\(t.2.1,id) ∉ l.2
    ·rw[decide_eq_true h3,if_pos h3];rfl
    ·rw[decide_eq_false h3,if_neg h3]
     simp only[cond_false,Option.bind_some]
     by_cases h4:IntKind.wrap .i64 (mSum (mSp c t) - Qpa t.2.2.2)<0
     ·rw[decide_eq_true h4,if_pos h4];rfl
     ·rw[decide_eq_false h4,if_neg h4];rfl
   ·rw[if_neg h2,if_neg h2]
  ·have hr:(mSp c t)[i].2.1.2.1.length<BIG:=by have:=QlO hc _ (QA4 (List.getElem_mem hi));omega
   have hi2:i<t.2.2.1.length:=by omega
   simp only[dlt hi2,Qg _ i hi,Qf _ i _ hi,cond_true,QE1,QGc hl _ hr,Option.bind_some,wsucc hi (by omega)]
   unfold mC1
   cases QmF (mSp c t)[i] h
   ·rfl
   ·by_cases h3:mMet l (mSp c t)[i].2.1.2 id h=0
    ·rw[decide_eq_true h3];simp[h3]
    ·rw[decide_eq_false h3];simp[h3]
 ·simp only[h1,decide_false,Bool.not_false,cond_true,if_false]
theorem Qu4 {l:TL} (hl:mLF l=0) {c:List TCoin} (hc:Jo c=0) {t:TX} (ht:mTxF t=0) {h:Int} (hh:mIn h 0 999=true):Qe5 l c t h=some ((mChk l c t h).2,if (mChk l c t h).2=0 then (mChk l c t h).1 else 0):=by
 have hB:BIG=4611686018427387904:=rfl
 have hlo:=QAH hl
 have hcl:=(QjT hc).1
 unfold Qe5 mChk
 rw[Qh0 l (by have:=hlo.n1;omega) (by have:=hlo.n2;omega),Qlo c (by omega) (fun x hx=>by have:=QlO hc x hx;omega),Qh5 t (Qbj ht).b,Qg9,QyC ht]
 simp only[hl,hc,ht,hh,decide_true,Bool.not_true,cond_false,Option.bind_some]
 by_cases h1:(Qt t).length<=300
 ·rw[if_pos h1,if_pos h1]
  simp only[decide_true,Bool.not_true,cond_false]
  rw[Qp3 _ (by have:=hlo.n1;omega),Option.bind_some]
  show (bif decide (mId l (Qt t)=0) then some ((4:Int),(0:Int)) else _)=_
  by_cases h2:mId l (Qt t)=0
  ·rw[decide_eq_true h2,if_pos h2];rfl
  ·rw[decide_eq_false h2,if_neg h2,cond_false]
   show ((Qcw l c t (mId l (Qt t)) h).bind _)=_
   rw[Qvp hlo hc (Qbj ht),Option.bind_some]
   by_cases h3:(Qsa l c t (mId l (Qt t)) h).2=0
   ·rw[decide_eq_true h3,if_pos h3,h3];rfl
   ·rw[decide_eq_false h3,if_neg h3];rfl
 ·rw[if_neg h1,if_neg h1];rfl
theorem QGm (l:List (List UInt8)) (x:List UInt8):idxF (fun a=>decide (x=a)) l=idxF (fun a=>decide (a=x)) l:=by
 congr 1
 funext a
 exact decide_eq_decide.2 ⟨Eq.symm,Eq.symm⟩
theorem QGD {α:Type} (p:α->Bool) (l:List α):-1<=idxF p l/\idxF p l<l.length:=by
 cases h:l.any p with
 | false=>
  have h1:=(QCk p l).1 ((Qmt p l).2 h)
  rw[h1];omega
 | true=>
  obtain⟨k,hk,e,_⟩:=Qi5 h
  rw[e];omega
theorem QGx {l:TL} (hl:okL l) (s:List UInt8):QbH l s=some (mId l s):=by
 unfold QbH mId
 have h1:=hl.n1
 rw[QpX _ (by unfold BIG;omega),Option.bind_some,QGm]
 have:=QGD (fun a=>decide (a=s)) l.1
 rw[YK (by omega) (by omega)]
theorem Qvh {l:TL} (hl:okL l) {c:List TCoin} (hc:Jo c=0) {t:TX} (ht:okT t) {h:Int} (hh:mIn h 0 999=true):JZ l c t h=some (mChk l c t h):=by
 have hB:BIG=4611686018427387904:=rfl
 have hcl:=(QjT hc).1
 have hspl:(mSp c t).length<=c.length:=List.length_filter_le _ c
 unfold JZ mChk
 rw[Qm6 ht,Option.bind_some]
 by_cases h1:(Qt t).length<=300
 ·rw[if_pos h1,if_pos h1]
  simp only[decide_true,Bool.not_true,cond_false]
  rw[QGx hl,Option.bind_some]
  by_cases h2:mId l (Qt t)=0
  ·rw[decide_eq_true h2,if_pos h2];rfl
  ·rw[decide_eq_false h2,if_neg h2,cond_false,Qt5 hc t ht,Option.bind_some]
   generalize mId l (Qt t)=id
   unfold Qsa
   by_cases h3:(mSp c t).length=t.2.2.1.length
   ·rw[if_pos h3,if_pos h3]
    simp only[decide_true,Bool.not_true,cond_false]
    rw[QrT (mSp c t) (mC1 l id h) _ (fun i hi=>?_) (by simp only[dge,cond_false])]
    ·by_cases h2:code (fun _=>mC1 l id h) (mSp c t)=0
     ·rw[if_pos h2,if_pos h2,(QCx _ (by omega)).1,(QAY t ht.b.outs).1,Option.bind_some,Option.bind_some,Qmm (l:=l) t id (Z5 l) (QvY hl _ _),Option.bind_some]
      unfold QCH
      by_cases h3:t.1=2/\(t.2.1,id) ∉ l.2
      ·rw[decide_eq_true h3,if_pos h3];rfl
      ·rw[decide_eq_false h3,if_neg h3]
       simp only[cond_false,Option.bind_some]
       by_cases h4:IntKind.wrap .i64 (mSum (mSp c t) - Qpa t.2.2.2)<0
       ·rw[decide_eq_true h4,if_pos h4];rfl
       ·rw[decide_eq_false h4,if_neg h4];rfl
     ·rw[if_neg h2,if_neg h2]
    ·have hx:=(QjT hc).2 _ (QA4 (List.getElem_mem hi))
     have hr:(mSp c t)[i].2.1.2.1.length<BIG:=by have:=QlO hc _ (QA4 (List.getElem_mem hi));omega
     simp only[dlt hi,Qg _ i hi,Qf _ i _ hi,cond_true,QFe _ h (ZF.2 hx.height) hh,QDZ hl _ hr,Option.bind_some,wsucc hi (by omega)]
     unfold mC1
     cases QmF (mSp c t)[i] h
     ·rfl
     ·by_cases h3:mMet l (mSp c t)[i].2.1.2 id h=0
      ·rw[decide_eq_true h3];simp[h3]
      ·rw[decide_eq_false h3];simp[h3]
   ·rw[if_neg h3,if_neg h3];rfl
 ·rw[if_neg h1,if_neg h1];rfl
end GL
end Go.Dx
set_option maxHeartbeats 2000000
namespace Go.Dx
theorem QE0 {α:Type} (l:List α) (d:α) (p:α->Bool) (f:List α×Int×Int->Option ((List α×Int×Int)⊕(List α×Int)))
  (hs:∀(X:List α) (j i:Nat) (h:i<X.length),X.length=l.length->j<=i->f (X,(j:Int),(i:Int))=some (.inl (if p X[i] then (X,(j:Int),((i+1:Nat):Int)) else (X.set j X[i],((j+1:Nat):Int),((i+1:Nat):Int)))))
  (he:∀(X:List α) (j:Nat),X.length=l.length->f (X,(j:Int),(l.length:Int))=some (.inr (X,(j:Int)))) :
  ∀(k j i:Nat) (X:List α),i+k=l.length->j<=i->X.length=l.length->X.take j=(l.take i).filter (fun a=>!p a)->X.drop i=l.drop i->
   ∃(X':List α) (j':Nat),Qh f (X,(j:Int),(i:Int))=some (X',(j':Int))/\X'.length=l.length/\j'<=l.length/\X'.take j'=l.filter (fun a=>!p a):=by
 intro k
 induction k with
 | zero=>
  intro j i X hi hj hX ht hd
  obtain rfl:i=l.length:=by omega
  exact⟨X,j,QE (he X j hX),hX,hj,by rw[ht,List.take_length]⟩
 | succ k ih=>
  intro j i X hi hj hX ht hd
  have h:i<X.length:=by omega
  have h':i<l.length:=by omega
  have hx:X[i]=l[i]:=by
   rw[List.drop_eq_getElem_cons h,List.drop_eq_getElem_cons h'] at hd
   exact (List.cons.inj hd).1
  have hd':X.drop (i+1)=l.drop (i+1):=by
   rw[<-List.drop_drop,<-List.drop_drop,hd]
  have ht':(l.take (i+1)).filter (fun a=>!p a)=(l.take i).filter (fun a=>!p a)++[l[i]].filter (fun a=>!p a):=by
   rw[List.take_succ_eq_append_getElem h',List.filter_append]
  rw[Zj (hs X j i h hX hj)]
  rw[hx]
  cases hp:p l[i] with
  | true=>
   rw[if_pos rfl]
   refine ih j (i+1) X (by omega) (by omega) hX ?_ hd'
   rw[ht',ht];simp[hp]
  | false=>
   rw[if_neg (by simp)]
   refine ih (j+1) (i+1) (X.set j l[i]) (by omega) (by omega) (by simpa using hX) ?_ ?_
   ·rw[ht',<-ht]
    have hj2:j<(X.set j l[i]).length:=by rw[List.length_set];omega
    rw[List.take_succ_eq_append_getElem hj2,List.take_set_of_le (Nat.le_refl _)]
    simp[hp]
   ·rw[List.drop_set_of_lt (by omega),hd']
theorem QE6 {α β:Type} (l:List α) (p:α->Bool) (k:Nat) (hk:k<l.length) (hpre:(l.take (k+1)).filter (fun a=>!p a)=l.take k) (f:List α×Int×Int->Option ((List α×Int×Int)⊕(List α×Int))) (G:List α×Int->Option β) (r:β)
  (hs:∀(X:List α) (j i:Nat) (h:i<X.length),X.length=l.length->j<=i->f (X,(j:Int),(i:Int))=some (.inl (if p X[i] then (X,(j:Int),((i+1:Nat):Int)) else (X.set j X[i],((j+1:Nat):Int),((i+1:Nat):Int)))))
  (he:∀(X:List α) (j:Nat),X.length=l.length->f (X,(j:Int),(l.length:Int))=some (.inr (X,(j:Int))))
  (hG:∀(X':List α) (j':Nat),X'.length=l.length->j'<=l.length->X'.take j'=l.filter (fun a=>!p a)->G (X',(j':Int))=some r) :
  (Qh f (l,(k:Int),((k+1:Nat):Int))).bind G=some r:=by
 obtain⟨X',j',e1,e2,e3,e4⟩:=QE0 l l[k] p f hs he (l.length - (k+1)) k (k+1) l (by omega) (by omega) rfl hpre.symm rfl
 rw[e1,Option.bind_some]
 exact hG X' j' e2 e3 e4
namespace GL
abbrev TMb:=Int×Int×Int
theorem Qkt (l:List TMb) (hl:l.length<BIG) (p:TMb->Bool) (f:TMb->Option Bool) (hf:∀a,a ∈ l->f a=some (p a)):QQ l f=some (idxF p l):=by
 unfold QQ
 refine QbQ l p _ (fun i h=>?_) (by simp only[dge,cond_false])
 simp only[dlt h,Qg l i h,Qf l i _ h,cond_true,hf _ (List.getElem_mem h),Option.bind_some,wsucc h hl]
 cases p l[i]<;>rfl
theorem Qrr (l:List TMb) (hl:l.length<BIG) (p:TMb->Bool) (f:TMb->Option Bool) (hf:∀a,f a=some (p a)):Q8 l f=some (l.filter (fun a=>!p a)):=by
 unfold Q8
 rw[Qkt l hl p f (fun a _=>hf a),Option.bind_some]
 cases hany:l.any p with
 | false=>
  have h1:idxF p l = -1:=(QCk p l).1 ((Qmt p l).2 hany)
  rw[h1]
  simp only[decide_true,cond_true]
  congr 1
  refine (List.filter_eq_self.2 fun a ha=>?_).symm
  rw[List.any_eq_false] at hany
  simpa using hany a ha
 | true=>
  obtain⟨k,hk,h1,h2,h3⟩:=Qi5 hany
  rw[h1,decide_eq_false (by omega:¬(k:Int) = -1),cond_false,wsucc hk hl]
  have hpre:(l.take (k+1)).filter (fun a=>!p a)=l.take k:=by
   rw[List.take_succ_eq_append_getElem hk,List.filter_append]
   have e1:(l.take k).filter (fun a=>!p a)=l.take k:=List.filter_eq_self.2 fun a ha=>by
    obtain⟨j,hj,rfl⟩:=List.mem_iff_getElem.1 ha
    rw[List.length_take] at hj
    simp only[List.getElem_take]
    rw[h3 j (by omega)];rfl
   rw[e1]
   simp[h2]
  refine QE6 l p k hk hpre _ _ _ (fun X j i h hX hj=>?_) (fun X j hX=>by rw[<-hX];simp only[dge,cond_false]) (fun X' j' e2 e3 e4=>?_)
  ·have e1:decide ((i:Int)<(X.length:Int))=true:=dlt h
   simp only[e1,Qg X i h,Qf X i _ h,cond_true,hf,Option.bind_some,wsucc h (by omega:X.length<BIG),Qg X j (by omega),wsucc (by omega:j<X.length) (by omega:X.length<BIG)]
   cases p X[i] with
   | true=>rfl
   | false=>simp
  have c1:Zp (j':Int) (X'.length:Int) X'=true:=by unfold Zp;simp;omega
  have hcl:clr (s:=.prod (.int .i64) (.prod (.int .i64) (.int .i64))) (j':Int) (X'.length:Int) X'=X'.take j'++(List.replicate (X'.length - j') ((0,0,0):TMb)++[]):=by
   unfold clr
   simp[Sh.dflt]
  have c2:Zp 0 (j':Int) (clr (s:=.prod (.int .i64) (.prod (.int .i64) (.int .i64))) (j':Int) (X'.length:Int) X')=true:=by
   unfold Zp
   rw[hcl]
   simp;omega
  rw[c1,c2,cond_true,cond_true,hcl]
  simp only[Int.sub_zero,Int.toNat_natCast,Int.toNat_zero,List.drop_zero]
  rw[List.take_append_of_le_length (by rw[List.length_take];omega),List.take_take,Nat.min_self,e4]
theorem Qii (l:List TMb) (hl:l.length<BIG) (p:TMb->Bool) (f:TMb->Option Bool) (hf:∀a,a ∈ l->f a=some (p a)):QH l f=some (l.any p):=by
 unfold QH
 rw[Qkt l hl p f hf,Option.bind_some,ZJ]
def mMb (l:List TMb) (i:Nat) (x:TMb):Int:=if mIn x.1 1 999&&mRef x.2 then (if decide (0<i)&&decide (x.1<=(List.getD l (i - 1) (0,(0,0))).1) then 1 else 0) else 3
def mMd (l:List TMb) (i:Nat) (x:TMb):Int:=if (l.take i).any (fun y=>decide (y.2=x.2)) then 7 else 0
def mMem (l:List TMb):Int:=if (8:Int)<(l.length:Int) then 2 else if code (mMb l) l=0 then code (mMd l) l else code (mMb l) l
theorem QCv (l:List TMb) (hl:l.length<BIG) (i:Nat) (h:i<l.length) (h0:0<i):inB (IntKind.wrap .i64 ((i:Int) - 1)) l=true/\List.getD l (Int.toNat (IntKind.wrap .i64 ((i:Int) - 1))) (0,(0,0))=List.getD l (i - 1) (0,(0,0)):=by
 obtain⟨j,rfl⟩:∃j,i=j+1:=⟨i - 1,by omega⟩
 rw[wpred (i:=j) (n:=l.length) (by omega) hl]
 exact⟨Qg l j (by omega),by simp⟩
theorem QvU (l:List TMb) (hl:l.length<BIG):QfE l=some (mMem l):=by
 unfold QfE mMem
 by_cases h8:(8:Int)<(l.length:Int)
 ·rw[decide_eq_true h8,if_pos h8];rfl
 ·rw[decide_eq_false h8,if_neg h8,cond_false]
  rw[Qao l (mMb l) _ (fun i h=>?_) (by simp only[dge,cond_false])]
  ·split
   ·refine QgR l (mMd l) _ (fun i h=>?_) (by simp only[dge,cond_false])
    rw[dlt h,cond_true]
    have inner:=Qbg (β:=Int) (l.take i) (fun _ y=>if decide (y.2=l[i].2) then some 7 else none) (fun (s64:Int)=>
 bif (decide ((s64:Int)<(i:Int))) then
 bif (inB s64 l) then
 bif (inB (i:Int) l) then
 bif (Sh.beq (.prod (.int .i64) (.int .i64)) (List.getD l (Int.toNat s64) (0,(0,0))).2 (List.getD l (Int.toNat (i:Int)) (0,(0,0))).2) then
 some (Sum.inr (Sum.inr 7))
 else
 some (Sum.inl (IntKind.wrap .i64 (s64+1)))
 else none
 else none
 else
 some (Sum.inr (Sum.inl ()))) (fun k hk=>by
      rw[List.length_take] at hk
      have hk1:k<i:=by omega
      have hk2:k<l.length:=by omega
      simp only[List.getElem_take]
      rw[decide_eq_true (by omega),cond_true,Qg l k hk2,cond_true,Qg l i h,cond_true,Qf l k _ hk2,Qf l i _ h,Qkp,wsucc hk2 hl]
      cases decide (l[k].2=l[i].2)<;>rfl) (by
      rw[List.length_take,Nat.min_eq_left (by omega)]
      simp only[Int.lt_irrefl,decide_false,cond_false])
    rw[inner,Qc6,Qkb]
    unfold mMd
    cases (l.take i).any (fun y=>decide (y.2=l[i].2))
    ·simp only[Bool.false_eq_true,if_false,wsucc h hl,if_true]
    ·simp
   ·rfl
  ·simp only[dlt h,Qg l i h,Qf l i _ h,cond_true,Qhe,QhG,Option.bind_some,wsucc h hl]
   unfold mMb
   cases h1:mIn l[i].1 1 999<;>cases h2:mRef l[i].2<;>try rfl
   simp only[Bool.not_true,cond_false,Option.bind_some,Bool.true_and,if_true]
   by_cases h4:0<i
   ·obtain⟨e1,e2⟩:=QCv l hl i h h4
    rw[show decide ((0:Int)<(i:Int))=true by simpa using h4,decide_eq_true h4,cond_true,e1,cond_true,e2,Option.bind_some,Bool.true_and]
    cases decide (l[i].1<=(List.getD l (i - 1) (0,(0,0))).1)<;>rfl
   ·rw[show decide ((0:Int)<(i:Int))=false by simpa using h4,decide_eq_false h4];rfl
theorem QnK (l:List TMb) (hl:l.length<BIG):Qa0 l=some (mMem l):=by
 unfold Qa0 mMem
 by_cases h8:(8:Int)<(l.length:Int)
 ·rw[decide_eq_true h8,if_pos h8];rfl
 ·rw[decide_eq_false h8,if_neg h8,cond_false]
  rw[Qao l (mMb l) _ (fun i h=>?_) (by simp only[dge,cond_false])]
  ·split
   ·refine QgR l (mMd l) _ (fun i h=>?_) (by simp only[dge,cond_false])
    have hc:=Qii (l.take i) (QeC hl i) (fun y=>decide (y.2=l[i].2)) (fun a63=>(JF a63 l[i]).bind fun r64=>some r64) (fun a _=>by unfold JF;rw[Qkp];rfl)
    simp only[dlt h,Qg l i h,Qf l i _ h,QbA l i (Nat.le_of_lt h),Qfm,cond_true,hc,Option.bind_some,wsucc h hl]
    unfold mMd
    cases (l.take i).any (fun y=>decide (y.2=l[i].2))<;>simp
   ·rfl
  ·simp only[dlt h,Qg l i h,Qf l i _ h,cond_true,Qhf,QjK,Option.bind_some,wsucc h hl]
   unfold mMb
   cases h1:mIn l[i].1 1 999<;>cases h2:mRef l[i].2<;>try rfl
   simp only[Bool.not_true,cond_false,Option.bind_some,Bool.true_and,if_true]
   by_cases h4:0<i
   ·obtain⟨e1,e2⟩:=QCv l hl i h h4
    rw[show decide ((0:Int)<(i:Int))=true by simpa using h4,decide_eq_true h4,cond_true,e1,cond_true,e2,Option.bind_some,Bool.true_and]
    cases decide (l[i].1<=(List.getD l (i - 1) (0,(0,0))).1)<;>rfl
   ·rw[show decide ((0:Int)<(i:Int))=false by simpa using h4,decide_eq_false h4];rfl
def Qhg (l:List TMb):Prop:=l.Pairwise fun a b=>a.1<b.1
theorem Qz1 {l:List TMb} (h:mMem l=0):Qhg l/\l.length<=8:=by
 unfold mMem at h
 by_cases h8:(8:Int)<(l.length:Int)
 ·rw[if_pos h8] at h;cases h
 ·rw[if_neg h8] at h
  by_cases hb:code (mMb l) l=0
  ·refine⟨?_,by omega⟩
   have step:∀i (hi:i+1<l.length),(l[i]'(by omega)).1<l[i+1].1:=fun i hi=>by
    have hc:=QcU hb (i+1) _ (List.getElem?_eq_getElem hi)
    unfold mMb at hc
    cases h1:mIn l[i+1].1 1 999&&mRef l[i+1].2 with
    | false=>rw[h1] at hc;simp at hc
    | true=>
     rw[h1,if_pos rfl,Nat.add_sub_cancel,List.getD_eq_getElem?_getD,List.getElem?_eq_getElem (by omega:i<l.length)] at hc
     by_cases h3:l[i+1].1<=(l[i]'(by omega)).1
     ·simp[h3] at hc
     ·omega
   unfold Qhg
   rw[List.pairwise_iff_getElem]
   intro i j hi hj hij
   obtain⟨d,rfl⟩:∃d,j=i+1+d:=⟨j - (i+1),by omega⟩
   induction d with
   | zero=>exact step i hj
   | succ d ih=>exact Int.lt_trans (ih (by omega) (by omega)) (step (i+1+d) hj)
  ·rw[if_neg hb] at h;exact absurd h hb
theorem Qgu {l:List TMb} (h:Qhg l) {i j:Nat} (hij:i<j) (hj:j<l.length):(l[i]'(by omega)).1<l[j].1:=List.pairwise_iff_getElem.1 h i j (by omega) hj hij
theorem Qjj {l:List TMb} (hr:Qhg l) (hl:l.length<=1000000) (r:Int):∃k:Nat,k<=l.length/\Yo l r=some ((k:Int),l.any fun x=>decide (x.1=r))/\((l.any fun x=>decide (x.1=r))=true->∃h:k<l.length,(l[k]'h).1=r)/\(∀i (h:i<l.length),i<k->l[i].1<r)/\(∀i (h:i<l.length),k<=i->r<=l[i].1):=by
 obtain⟨k,h1,h2,h3⟩:=QqR l.length (fun i=>decide ((List.getD l i (0,(0,0))).1<r)) (fun i j hij hj hp=>by
  rcases Nat.lt_or_ge i j with h | h
  ·have hi:i<l.length:=by omega
   have:=Qgu hr h hj
   have e1:List.getD l i (0,(0,0))=l[i]:=by rw[List.getD_eq_getElem?_getD,List.getElem?_eq_getElem hi];rfl
   have e2:List.getD l j (0,(0,0))=l[j]:=by rw[List.getD_eq_getElem?_getD,List.getElem?_eq_getElem hj];rfl
   simp only[e1,e2,decide_eq_true_eq] at hp ⊢
   omega
  ·obtain rfl:i=j:=by omega
   exact hp)
 have hgd:∀i (hi:i<l.length),List.getD l i (0,(0,0))=l[i]:=fun i hi=>by rw[List.getD_eq_getElem?_getD,List.getElem?_eq_getElem hi];rfl
 have g1:∀i (h:i<l.length),i<k->l[i].1<r:=fun i h hk=>by have:=h2 i hk;rw[hgd i h] at this;simpa using this
 have g2:∀i (h:i<l.length),k<=i->r<=l[i].1:=fun i h hk=>by have:=h3 i hk h;rw[hgd i h] at this;simpa using this
 have hany:(l.any fun x=>decide (x.1=r))=decide (∃h:k<l.length,(l[k]'h).1=r):=by
  rw[Bool.eq_iff_iff,List.any_eq_true,decide_eq_true_eq]
  constructor
  ·rintro ⟨x,hx,he⟩
   obtain⟨i,hi,rfl⟩:=List.mem_iff_getElem.1 hx
   have he:l[i].1=r:=of_decide_eq_true he
   have hik:¬i<k:=fun h=>by have:=g1 i hi h;omega
   refine⟨by omega,?_⟩
   rcases Nat.lt_or_ge k i with h | h
   ·have h4:=Qgu hr h hi
    have h5:=g2 k (by omega) (Nat.le_refl _)
    omega
   ·obtain rfl:i=k:=by omega
    exact he
  ·rintro ⟨h,he⟩
   exact⟨_,List.getElem_mem h,decide_eq_true he⟩
 refine⟨k,h1,?_,fun h=>by rw[hany] at h;exact of_decide_eq_true h,g1,g2⟩
 rw[hany]
 unfold Yo Q2
 have hcmp:∀(x:TMb),((Qan x r).bind fun r7=>some r7)=some (mCmp x.1 r):=fun x=>by
  unfold Qan
  rw[QiO];rfl
 simp only[hcmp,Option.bind_some]
 have hneg:∀a b:Int,decide (mCmp a b<0)=decide (a<b):=fun a b=>by
  unfold mCmp
  refine decide_eq_decide.2 ?_
  split
  ·simp;omega
  ·split<;>simp<;>omega
 have hzero:∀a b:Int,decide (mCmp a b=0)=decide (a=b):=fun a b=>by
  unfold mCmp
  refine decide_eq_decide.2 ?_
  split
  ·simp;omega
  ·split
   ·simp;omega
   ·simp;omega
 rw[QCp l.length k h1 _ (fun lo hi hlo hhi=>?_) (fun lo=>by simp only[Int.lt_irrefl,decide_false,cond_false]),Option.bind_some]
 ·by_cases hk:k<l.length
  ·have hd:List.getD l (Int.toNat (k:Int)) (0,(0,0))=l[k]:=by rw[Int.toNat_natCast];exact hgd k hk
   rw[dlt hk,cond_true,Qg l k hk,cond_true]
   show some ((k:Int),decide (mCmp (List.getD l (Int.toNat (k:Int)) (0,(0,0))).1 r=0))=_
   rw[hd,hzero]
   congr 2
   exact decide_eq_decide.2 ⟨fun h=>⟨hk,h⟩,fun ⟨_,h⟩=>h⟩
  ·have hf:decide (∃h:k<l.length,(l[k]'h).1=r)=false:=decide_eq_false (fun ⟨h,_⟩=>hk h)
   rw[dge' (by omega),cond_false,Option.bind_some,hf];rfl
 ·have hm:=QDH (lo:=lo) (hi:=hi) (by omega)
  have hml:(lo+hi) / 2<l.length:=by omega
  simp only[hm]
  rw[decide_eq_true (by omega),cond_true,Qg l _ hml,cond_true]
  have hd:List.getD l (Int.toNat (((lo+hi) / 2:Nat):Int)) (0,(0,0))=l[(lo+hi) / 2]:=by rw[Int.toNat_natCast];exact hgd _ hml
  rw[hd,hneg,wsucc hml (by unfold BIG;omega)]
  by_cases hmk:(lo+hi) / 2<k
  ·rw[decide_eq_true (g1 _ hml hmk),if_pos hmk];rfl
  ·have:=g2 _ hml (by omega)
   rw[decide_eq_false (by omega),if_neg hmk];rfl
theorem QBq (l:List TMb) (hl:l.length<=LIM):Zn l=some l:=by
 unfold Zn
 rw[Qk7 hl,cond_true]
 cases l with
 | nil=>exact QsI _
 | cons a l=>rfl
def mOff (l:List TMb) (t:TX):List TMb:=l.filter fun x=>!(decide (t.1=2)&&decide (x.1=t.2.1))&&!decide (x.2 ∈ t.2.2.1)
def QyV (o:List TMb) (x:TMb):List TMb×Int:=if o.any (fun y=>decide (y.1=x.1) || decide (y.2=x.2)) then ([],7) else if 8<=o.length then ([],2) else (o.takeWhile (fun y=>decide (y.1<x.1))++[x]++o.dropWhile (fun y=>decide (y.1<x.1)),0)
def Qh9 (l:List TMb) (t:TX) (id:Int):List TMb×Int:=if t.1=2/\(l.any fun x=>decide (x.1=t.2.1))=false then ([],4) else if t.1=1 then QyV (mOff l t) (t.2.1,(id,0)) else (mOff l t,0)
theorem Qk8 (l:List TMb) (hl:l.length<BIG) (k:Int):QbV l k=some (idxF (fun x=>decide (x.1=k)) l):=by
 unfold QbV
 refine QbQ l _ _ (fun i h=>?_) (by simp only[dge,cond_false])
 simp only[dlt h,Qg l i h,Qf l i _ h,cond_true,wsucc h hl]
 cases decide (l[i].1=k)<;>rfl
theorem Qp9 {l:List TMb} {r:Int} {k:Nat} (hk:k<=l.length) (h1:∀i (h:i<l.length),i<k->l[i].1<r) (h2:∀i (h:i<l.length),k<=i->r<=l[i].1):l.takeWhile (fun y=>decide (y.1<r))=l.take k/\l.dropWhile (fun y=>decide (y.1<r))=l.drop k:=by
 have hall:∀a,a ∈ l.take k->decide (a.1<r)=true:=fun a ha=>by
  obtain⟨i,hi,rfl⟩:=List.mem_iff_getElem.1 ha
  rw[List.length_take] at hi
  simp only[List.getElem_take]
  exact decide_eq_true (h1 i (by omega) (by omega))
 have e:l=l.take k++l.drop k:=(List.take_append_drop k l).symm
 have hd:∀a rest,l.drop k=a::rest->decide (a.1<r)=false:=fun a rest h=>by
  have hkl:k<l.length:=by
   rcases Nat.lt_or_ge k l.length with h' | h'
   ·exact h'
   ·rw[List.drop_eq_nil_of_le h'] at h;cases h
  rw[List.drop_eq_getElem_cons hkl] at h
  have:=h2 k hkl (Nat.le_refl _)
  rw[<-(List.cons.inj h).1]
  exact decide_eq_false (by omega)
 constructor
 ·conv=>lhs;rw[e]
  rw[List.takeWhile_append_of_pos hall]
  cases hdr:l.drop k with
  | nil=>simp
  | cons a rest=>rw[List.takeWhile_cons,hd a rest hdr];simp
 ·conv=>lhs;rw[e]
  rw[List.dropWhile_append_of_pos hall]
  cases hdr:l.drop k with
  | nil=>simp
  | cons a rest=>rw[List.dropWhile_cons,hd a rest hdr];simp
theorem QAs {l:List TMb} (h:Qhg l) (p:TMb->Bool):Qhg (l.filter p):=List.Pairwise.sublist List.filter_sublist h
theorem QDD {o:List TMb} (hr:Qhg o) (r:Int):∃k,k<=o.length/\(∀i (h:i<o.length),i<k->o[i].1<r)/\(∀i (h:i<o.length),k<=i->r<=o[i].1):=by
 obtain⟨k,h1,h2,h3⟩:=QqR o.length (fun i=>decide ((List.getD o i (0,(0,0))).1<r)) (fun i j hij hj hp=>by
  rcases Nat.lt_or_ge i j with h | h
  ·have hi:i<o.length:=by omega
   have:=Qgu hr h hj
   have e1:List.getD o i (0,(0,0))=o[i]:=by rw[List.getD_eq_getElem?_getD,List.getElem?_eq_getElem hi];rfl
   have e2:List.getD o j (0,(0,0))=o[j]:=by rw[List.getD_eq_getElem?_getD,List.getElem?_eq_getElem hj];rfl
   simp only[e1,e2,decide_eq_true_eq] at hp ⊢
   omega
  ·obtain rfl:i=j:=by omega
   exact hp)
 have hgd:∀i (hi:i<o.length),List.getD o i (0,(0,0))=o[i]:=fun i hi=>by rw[List.getD_eq_getElem?_getD,List.getElem?_eq_getElem hi];rfl
 exact⟨k,h1,fun i h hk=>by have:=h2 i hk;rw[hgd i h] at this;simpa using this,fun i h hk=>by have:=h3 i hk h;rw[hgd i h] at this;simpa using this⟩
theorem Qxm {o:List TMb} (hr:Qhg o) (hl:o.length<=1000000) (x:TMb):Qdn o x=some (QyV o x):=by
 have hB:BIG=4611686018427387904:=rfl
 have hL:LIM=1073741824:=rfl
 unfold Qdn QyV
 rw[Qk8 _ (by omega),Option.bind_some,ZJ]
 have hor:(o.any fun y=>decide (y.1=x.1) || decide (y.2=x.2))=((o.any fun y=>decide (y.1=x.1)) || o.any fun y=>decide (y.2=x.2)):=by
  rw[Bool.eq_iff_iff];simp only[List.any_eq_true,Bool.or_eq_true]
  constructor
  ·rintro ⟨y,hy,h | h⟩
   ·exact .inl ⟨y,hy,h⟩
   ·exact .inr ⟨y,hy,h⟩
  ·rintro (⟨y,hy,h⟩ | ⟨y,hy,h⟩)
   ·exact⟨y,hy,.inl h⟩
   ·exact⟨y,hy,.inr h⟩
 rw[hor]
 cases ha:o.any fun y=>decide (y.1=x.1) with
 | true=>rfl
 | false=>
  rw[cond_false,Bool.false_or]
  obtain⟨k,k1,k2,k3⟩:=QDD hr x.1
  have loop:∀(f:Int×Int->Option ((Int×Int)⊕(Int⊕(List TMb×Int)))),
    (∀(i:Nat) (hi:i<o.length) (a:Int),f (a,(i:Int))=some (if decide (o[i].2=x.2) then .inr (.inr ([],7)) else .inl (if o[i].1<x.1 then ((i+1:Nat):Int) else a,((i+1:Nat):Int))))->(∀a,f (a,(o.length:Int))=some (.inr (.inl a)))->
    Qh f (0,0)=some (if o.any (fun y=>decide (y.2=x.2)) then .inr ([],7) else .inl (k:Int)):=by
   intro f hs he
   have key:∀(d i:Nat),i+d=o.length->Qh f (((min i k:Nat):Int),(i:Int))=some (if (o.drop i).any (fun y=>decide (y.2=x.2)) then .inr ([],7) else .inl (k:Int)):=by
    intro d
    induction d with
    | zero=>
     intro i hi
     obtain rfl:i=o.length:=by omega
     rw[QE (he _),List.drop_length,Nat.min_eq_right k1];rfl
    | succ d ih=>
     intro i hi
     have hlt:i<o.length:=by omega
     have h1:=hs i hlt ((min i k:Nat):Int)
     rw[List.drop_eq_getElem_cons hlt,List.any_cons]
     cases hd:decide (o[i].2=x.2) with
     | true=>rw[hd,if_pos rfl] at h1;rw[QE h1];rfl
     | false=>
      rw[hd,if_neg (by simp)] at h1
      rw[Zj h1,Bool.false_or]
      have e:(if o[i].1<x.1 then ((i+1:Nat):Int) else ((min i k:Nat):Int))=((min (i+1) k:Nat):Int):=by
       by_cases hik:i<k
       ·rw[if_pos (k2 i hlt hik)];omega
       ·have:=k3 i hlt (by omega)
        rw[if_neg (by omega)];omega
      rw[e]
      exact ih (i+1) (by omega)
   have:=key o.length 0 (by omega)
   rw[List.drop_zero,Nat.zero_min] at this
   exact this
  rw[loop _ (fun i hi a=>by
   simp only[dlt hi,Qg _ i hi,Qf _ i _ hi,cond_true,Qkp,wsucc hi (by omega)]
   cases decide (o[i].2=x.2)
   ·by_cases h:o[i].1<x.1
    ·rw[decide_eq_true h];simp[h]
    ·rw[decide_eq_false h];simp[h]
   ·rfl) (fun a=>by simp only[dge,cond_false]),Option.bind_some]
  cases hb:o.any fun y=>decide (y.2=x.2) with
  | true=>rfl
  | false=>
   simp only[Bool.false_eq_true,if_false,Sum.elim_inl]
   by_cases h8:8<=o.length
   ·rw[decide_eq_true (by omega),if_pos h8];rfl
   ·obtain⟨w1,w2⟩:=Qp9 k1 k2 k3
    rw[decide_eq_false (by omega),if_neg h8,cond_false,w1,w2]
    have c1:Zp 0 (k:Int) o=true:=by unfold Zp;simp;omega
    have c2:Zp (k:Int) (o.length:Int) o=true:=by unfold Zp;simp;omega
    have e1:cut 0 (k:Int) o=o.take k:=by unfold cut;simp
    have e2:cut (k:Int) (o.length:Int) o=o.drop k:=by
     unfold cut
     rw[Int.toNat_natCast]
     exact List.take_of_length_le (by rw[List.length_drop];omega)
    rw[c1,cond_true,e1,QM,QM,c2,cond_true,e2,QM]
    ·rfl
    all_goals (simp only[List.append_eq,List.length_append,List.length_cons,List.length_nil,List.length_take,List.length_drop];omega)
theorem QCn (l:List TMb) (t:TX):(mOff l t).length<=l.length:=List.length_filter_le _ l
theorem Qwt {l:List TMb} (hm:Qhg l/\l.length<=8) {t:TX} (ht:t.2.2.1.length<=1000000) (id:Int):Qgp l t id=some (Qh9 l t id):=by
 have hB:BIG=4611686018427387904:=rfl
 have hL:LIM=1073741824:=rfl
 obtain⟨hr,hl⟩:=hm
 unfold Qgp Qh9
 have e0:(bif decide (t.1=2) then (QbV l t.2.1).bind fun y=>some (decide (y<0)) else some false)=some (decide (t.1=2/\(l.any fun x=>decide (x.1=t.2.1))=false)):=by
  rw[Qk8 _ (by omega),Option.bind_some,QD6]
  by_cases h1:t.1=2
  ·cases l.any fun x=>decide (x.1=t.2.1)<;>simp[h1]
  ·simp[h1]
 rw[e0,Option.bind_some]
 by_cases h1:t.1=2/\(l.any fun x=>decide (x.1=t.2.1))=false
 ·rw[decide_eq_true h1,if_pos h1];rfl
 ·rw[decide_eq_false h1,if_neg h1,cond_false]
  rw[ZU (σ:=List TMb) l (fun acc a=>if (!(decide (t.1=2)&&decide (a.1=t.2.1))&&!decide (a.2 ∈ t.2.2.1)) then acc++[a] else acc) (fun t i=>(t,i)) (fun t=>t) (fun t i=>t.length<=i) _ (fun i hi x hx=>by
    refine⟨?_,by split<;>(try simp only[List.length_append,List.length_cons,List.length_nil])<;>omega⟩
    simp only[dlt hi,Qg _ i hi,Qf _ i _ hi,cond_true,Qat t.2.2.1 (by omega),Option.bind_some,wsucc hi (by omega)]
    rw[QM (by simp only[List.length_cons,List.length_nil];omega)]
    cases decide (t.1=2)<;>cases decide (l[i].1=t.2.1)<;>cases decide (l[i].2 ∈ t.2.2.1)<;>rfl) (fun t ht=>by simp only[dge,cond_false]) [] (Nat.le_refl _),Option.bind_some,foldl_filter,List.nil_append]
  show (bif !decide (t.1=1) then some (mOff l t,(0:Int)) else (Qdn (mOff l t) (t.2.1,(id,0))).bind fun y=>some (y.1,y.2))=_
  by_cases h2:t.1=1
  ·have:=QCn l t
   rw[decide_eq_true h2,if_pos h2,Bool.not_true,cond_false,Qxm (o:=mOff l t) (QAs hr _) (by omega)];rfl
  ·rw[decide_eq_false h2,if_neg h2];rfl
theorem filter_one {l:List TMb} {p:TMb->Bool} {k:Nat} (hk:k<l.length) (h0:p l[k]=false) (h1:∀i (h:i<l.length),i ≠ k->p l[i]=true):l.filter p=l.take k++l.drop (k+1):=by
 have e:l=l.take k++l[k]::l.drop (k+1):=by rw[<-List.drop_eq_getElem_cons hk,List.take_append_drop]
 conv=>lhs;rw[e]
 rw[List.filter_append,List.filter_cons,h0]
 rw[List.filter_eq_self.2 (fun a ha=>?_),if_neg (by simp),List.filter_eq_self.2 (fun a ha=>?_)]
 ·obtain⟨i,hi,rfl⟩:=List.mem_iff_getElem.1 ha
  rw[List.length_drop] at hi
  rw[List.getElem_drop]
  exact h1 _ (by omega) (by omega)
 ·obtain⟨i,hi,rfl⟩:=List.mem_iff_getElem.1 ha
  rw[List.length_take] at hi
  rw[List.getElem_take]
  exact h1 _ (by omega) (by omega)
theorem Qoq {l:List TMb} (hm:Qhg l/\l.length<=8) {t:TX} (ht:t.2.2.1.length<=1000000) {id:Int} (hid:mIn id 1 60=true):Qbh l t id=some (Qh9 l t id):=by
 have hB:BIG=4611686018427387904:=rfl
 have hL:LIM=1073741824:=rfl
 obtain⟨hr,hl⟩:=hm
 unfold Qbh Qh9
 rw[Qp6,hid,Option.bind_some,QBq _ (by omega)]
 simp only[Bool.not_true,cond_false,Option.bind_some]
 have first:∀G:(List TMb⊕(List TMb×Int))->Option (List TMb×Int),((bif decide (t.1=2) then (Yo l t.2.1).bind fun (y26:Int×Bool)=>bif !y26.2 then some (Sum.inr (([]:List TMb),(4:Int))) else (QG l y26.1 (IntKind.wrap .i64 (y26.1+1))).bind fun y27=>some (Sum.inl y27) else some (Sum.inl l):Option (List TMb⊕(List TMb×Int))).bind G) =
   if t.1=2/\(l.any fun x=>decide (x.1=t.2.1))=false then G (.inr ([],4)) else G (.inl (l.filter fun x=>!(decide (t.1=2)&&decide (x.1=t.2.1)))):=fun G=>by
  by_cases h1:t.1=2
  ·obtain⟨k,k1,k2,k3,k4,k5⟩:=Qjj hr (by omega) t.2.1
   rw[decide_eq_true h1,cond_true,k2,Option.bind_some]
   cases ha:l.any fun x=>decide (x.1=t.2.1) with
   | false=>rw[if_pos ⟨h1,rfl⟩];rfl
   | true=>
    obtain⟨hk,he⟩:=k3 ha
    rw[if_neg (fun h=>by cases h.2)]
    have hdel:QG l (k:Int) (IntKind.wrap .i64 ((k:Int)+1))=some (l.filter fun x=>!(true&&decide (x.1=t.2.1))):=by
     unfold QG delS
     rw[wsucc hk (by omega),decide_eq_true (by omega),cond_true]
     rw[filter_one (l:=l) (k:=k) hk (by rw[he];simp) (fun i hi hik=>by
      rcases Nat.lt_or_ge i k with h | h
      ·have:=Qgu hr h hk
       have:¬l[i].1=t.2.1:=by omega
       simp[this]
      ·have:=Qgu hr (show k<i by omega) hi
       have:¬l[i].1=t.2.1:=by omega
       simp[this])]
     simp
    show (Option.bind ((QG l (k:Int) (IntKind.wrap .i64 ((k:Int)+1))).bind fun y27=>some (Sum.inl y27)) G)=_
    rw[hdel];rfl
  ·rw[decide_eq_false h1,if_neg (fun h=>h1 h.1)]
   simp only[cond_false,Option.bind_some,Bool.false_and,Bool.not_false]
   rw[List.filter_eq_self.2 (fun a _=>rfl)]
 rw[first]
 by_cases h1:t.1=2/\(l.any fun x=>decide (x.1=t.2.1))=false
 ·rw[if_pos h1,if_pos h1];rfl
 ·rw[if_neg h1,if_neg h1,Sum.elim_inl]
  have hfl:=List.length_filter_le (fun x:TMb=>!(decide (t.1=2)&&decide (x.1=t.2.1))) l
  rw[Qrr _ (by omega) (fun x=>decide (x.2 ∈ t.2.2.1)) _ (fun a=>by unfold Qb9;rw[Qfz _ (by omega)];rfl),Option.bind_some,List.filter_filter]
  have eo:(l.filter fun a=>(!decide (a.2 ∈ t.2.2.1))&&!(decide (t.1=2)&&decide (a.1=t.2.1)))=mOff l t:=by
   unfold mOff
   congr 1
   funext a
   rw[Bool.and_comm]
  rw[eo]
  by_cases h2:t.1=1
  ·rw[decide_eq_true h2,if_pos h2,Bool.not_true,cond_false]
   have hol:=QCn l t
   have hor:Qhg (mOff l t):=QAs hr _
   obtain⟨k,k1,k2,k3,k4,k5⟩:=Qjj hor (by omega) t.2.1
   rw[k2,Option.bind_some]
   rw[Qii _ (by omega) (fun y=>decide (y.2=(id,0))) _ (fun a _=>by unfold QcC;rw[Qkp];rfl)]
   unfold QyV
   have hor:((mOff l t).any fun y=>decide (y.1=t.2.1) || decide (y.2=(id,0)))=(((mOff l t).any fun y=>decide (y.1=t.2.1)) || (mOff l t).any fun y=>decide (y.2=(id,0))):=by
    rw[Bool.eq_iff_iff];simp only[List.any_eq_true,Bool.or_eq_true]
    constructor
    ·rintro ⟨y,hy,h | h⟩
     ·exact .inl ⟨y,hy,h⟩
     ·exact .inr ⟨y,hy,h⟩
    ·rintro (⟨y,hy,h⟩ | ⟨y,hy,h⟩)
     ·exact⟨y,hy,.inl h⟩
     ·exact⟨y,hy,.inr h⟩
   rw[hor]
   cases ha:(mOff l t).any fun y=>decide (y.1=t.2.1) with
   | true=>rfl
   | false=>
    cases hb:(mOff l t).any fun y=>decide (y.2=(id,0)) with
    | true=>rfl
    | false=>
     simp only[Bool.false_or,cond_false,Option.bind_some,Bool.false_eq_true,if_false]
     by_cases h8:8<=(mOff l t).length
     ·rw[decide_eq_true (by omega),if_pos h8];rfl
     ·obtain⟨w1,w2⟩:=Qp9 k1 k4 k5
      rw[decide_eq_false (by omega),if_neg h8,cond_false,w1,w2]
      unfold ZR insS
      rw[decide_eq_true ⟨by omega,by omega,by omega,rfl⟩,cond_true,Option.bind_some,Int.toNat_natCast]
  ·rw[decide_eq_false h2,if_neg h2];rfl
end GL
end Go.Dx
set_option maxHeartbeats 2000000
namespace Go.Dx
namespace GL
def mSt (s:TState):Int:=if mIn s.1 0 60&&mIn s.2.1 0 40 then (if decide (s.1=0)=decide (s.2.1=0) then (if Jo s.2.2.1=0 then mMem s.2.2.2 else Jo s.2.2.1) else 1) else 3
structure bS (s:TState):Prop where
 c:s.2.2.1.length<BIG
 k:∀x,x ∈ s.2.2.1->x.2.1.2.1.length<BIG
 m:s.2.2.2.length<BIG
theorem Qvo (s:TState) (h:bS s):Qfy s=some (mSt s):=by
 unfold Qfy mSt
 simp only[Yv,Qlo _ h.c h.k,QvU _ h.m,Option.bind_some,beqB,QgC]
 cases mIn s.1 0 60<;>cases mIn s.2.1 0 40<;>try rfl
 simp only[Bool.not_true,cond_false,Option.bind_some,Bool.true_and,if_true]
 by_cases h2:decide (s.1=0)=decide (s.2.1=0)
 ·rw[decide_eq_true h2,if_pos h2]
  simp only[Bool.not_true,cond_false]
  split<;>rfl
 ·rw[decide_eq_false h2,if_neg h2];rfl
theorem QpB (s:TState) (h:bS s):Qb3 s=some (mSt s):=by
 unfold Qb3 mSt
 simp only[ZB,QpE _ h.c h.k,QnK _ h.m,Option.bind_some,beqB,QgC]
 cases mIn s.1 0 60<;>cases mIn s.2.1 0 40<;>try rfl
 simp only[Bool.not_true,cond_false,Option.bind_some,Bool.true_and,if_true]
 by_cases h2:decide (s.1=0)=decide (s.2.1=0)
 ·rw[decide_eq_true h2,if_pos h2]
  simp only[Bool.not_true,cond_false]
  split<;>rfl
 ·rw[decide_eq_false h2,if_neg h2];rfl
structure okS' (s:TState):Prop where
 t:0<=s.1/\s.1<=60
 h:0<=s.2.1/\s.2.1<=40
 c:Jo s.2.2.1=0
 m:mMem s.2.2.2=0
theorem QDL {s:TState} (h:mSt s=0):okS' s:=by
 unfold mSt at h
 cases h1:mIn s.1 0 60&&mIn s.2.1 0 40 with
 | false=>rw[h1] at h;simp at h
 | true=>
  rw[h1,if_pos rfl] at h
  rw[Bool.and_eq_true,ZF,ZF] at h1
  by_cases h2:decide (s.1=0)=decide (s.2.1=0)
  ·rw[if_pos h2] at h
   by_cases h3:Jo s.2.2.1=0
   ·rw[if_pos h3] at h;exact⟨h1.1,h1.2,h3,h⟩
   ·rw[if_neg h3] at h;exact absurd h h3
  ·rw[if_neg h2] at h;cases h
def QiX (s:TState):Int:=min 40 (IntKind.wrap .i64 (s.2.1+1))
theorem QAC {s:TState} (h:okS' s):mIn (QiX s) 0 999=true:=by
 have:=h.h
 unfold QiX
 rw[YK (by omega) (by omega),ZF];omega
theorem QA3 (s:TState):Qa4 s=some (QiX s):=rfl
theorem QEw (s:TState):Qfv s=some (QiX s):=by
 unfold Qfv QjO QiX
 by_cases h:IntKind.wrap .i64 (s.2.1+1)<40
 ·rw[decide_eq_true h]
  show some (IntKind.wrap .i64 (s.2.1+1))=_
  congr 1;omega
 ·rw[decide_eq_false h]
  show some (40:Int)=_
  congr 1;omega
def JH (a t:TX):Bool:=a.2.2.1.any fun r=>decide (r ∈ t.2.2.1)
theorem QuK {a t:TX} (ha:a.2.2.1.length<BIG) (ht:t.2.2.1.length<BIG):Qe3 a t=some (JH a t):=by
 unfold Qe3 JH
 refine QqX a.2.2.1 _ _ (fun i h=>?_) (by simp only[dge,cond_false])
 simp only[dlt h,Qg _ i h,Qf _ i _ h,cond_true,Qat _ ht,Option.bind_some,wsucc h ha]
 cases decide (a.2.2.1[i] ∈ t.2.2.1)<;>rfl
theorem QoX (l:List (Int×Int)) (hl:l.length<BIG) (p:Int×Int->Bool) (f:Int×Int->Option Bool) (hf:∀a,a ∈ l->f a=some (p a)):Zg l f=some (l.any p):=by
 unfold Zg Z3
 rw[QbQ l p _ (fun i h=>?_) (by simp only[dge,cond_false]),Option.bind_some,ZJ]
 simp only[dlt h,Qg l i h,Qf l i _ h,cond_true,hf _ (List.getElem_mem h),Option.bind_some,wsucc h hl]
 cases p l[i]<;>rfl
theorem QfI (l:List TX) (hl:l.length<BIG) (p:TX->Bool) (f:TX->Option Bool) (hf:∀a,a ∈ l->f a=some (p a)):QI l f=some (l.any p):=by
 unfold QI Yg
 rw[QbQ l p _ (fun i h=>?_) (by simp only[dge,cond_false]),Option.bind_some,ZJ]
 simp only[dlt h,Qg l i h,Qf l i _ h,cond_true,hf _ (List.getElem_mem h),Option.bind_some,wsucc h hl]
 cases p l[i]<;>rfl
theorem Qtz (l:List Int) (hl:l.length<BIG) (x:Int):ZZ l x=some (decide (x ∈ l)):=by
 unfold ZZ JK
 rw[QbQ l (fun a=>decide (x=a)) _ (fun i h=>?_) (by simp only[dge,cond_false]),Option.bind_some,ZJ,any_eq]
 simp only[dlt h,Qg l i h,Qf l i _ h,cond_true,wsucc h hl]
 cases decide (x=l[i])<;>rfl
theorem Qy0 {a t:TX} (ha:a.2.2.1.length<BIG) (ht:t.2.2.1.length<BIG):QhF a t=some (JH a t):=by
 unfold QhF JH
 rw[QoX _ ha (fun r=>decide (r ∈ t.2.2.1)) _ (fun r _=>by unfold Qg1;rw[Qfz _ ht];rfl)];rfl
def mAt (l:List TMb) (k:Int):Int×Int:=(List.getD l (Int.toNat (idxF (fun x=>decide (x.1=k)) l)) (0,(0,0))).2
def Qhb (l:List TMb) (t a:TX):Bool:=decide (t.1=2)&&((l.any fun x=>decide (x.1=t.2.1))&&decide (mAt l t.2.1 ∈ a.2.2.1))
theorem QDi (s:TState) (hm:s.2.2.2.length<BIG) {a t:TX} (ha:a.2.2.1.length<BIG):Qep s a t=some (Qhb s.2.2.2 t a):=by
 unfold Qep Qhb mAt
 rw[Qk8 _ hm,Option.bind_some,ZJ]
 by_cases h1:t.1=2
 ·rw[decide_eq_true h1,cond_true,Bool.true_and]
  cases hany:s.2.2.2.any fun x=>decide (x.1=t.2.1) with
  | false=>rfl
  | true=>
   have hn:0<=idxF (fun x=>decide (x.1=t.2.1)) s.2.2.2:=by rw[<-ZJ] at hany;exact of_decide_eq_true hany
   rw[cond_true,QES hn,cond_true,Qat _ ha];rfl
 ·rw[decide_eq_false h1];rfl
def QdT (l:List TMb) (t:TX) (ahead:List TX):Bool:=ahead.any fun a=>!decide (a.1=0) || Qhb l t a
noncomputable def mOne (l:TL) (s:TState) (ahead:List TX) (id:Int):TX×Int:=if (mTI l id).2=0 then (if (mChk l s.2.2.1 (mTI l id).1 (QiX s)).2=0 then (if ahead.any (fun a=>JH a (mTI l id).1) then ((mTI l id).1,7) else if (mTI l id).1.1 ≠ 0/\((Qh9 s.2.2.2 (mTI l id).1 id).2 ≠ 0\/QdT s.2.2.2 (mTI l id).1 ahead=true) then ((mTI l id).1,10) else ((mTI l id).1,0)) else ((mTI l id).1,(mChk l s.2.2.1 (mTI l id).1 (QiX s)).2)) else ((mTI l id).1,(mTI l id).2)
theorem QGw (l:TL) (s:TState) (ahead:List TX) (id:Int):(mOne l s ahead id).1=(mTI l id).1:=by
 unfold mOne
 split
 ·split
  ·split
   ·rfl
   ·split<;>rfl
  ·rfl
 ·rfl
theorem QCg {l:TL} {s:TState} {ahead:List TX} {id:Int} (h:(mOne l s ahead id).2=0):(mTI l id).2=0:=by
 unfold mOne at h
 split at h
 ·assumption
 ·exact h
theorem QtJ {ahead:List TX} (h:∀a,a ∈ ahead->okT a) {a:TX} (ha:a ∈ ahead):a.2.2.1.length<BIG:=(h a ha).b.ins
theorem QyL {l:TL} (hl:mLF l=0) {s:TState} (hs:mSt s=0) {ahead:List TX} (ha:∀a,a ∈ ahead->okT a) (hal:ahead.length<BIG) (id:Int):QdB l s ahead id=some (mOne l s ahead id):=by
 have hso:=QDL hs
 have hm:=Qz1 hso.m
 have hmB:s.2.2.2.length<BIG:=by have:=hm.2;unfold BIG;omega
 unfold QdB mOne
 rw[QBs hl,Option.bind_some]
 by_cases h1:(mTI l id).2=0
 ·have ht:=Qta h1
  have hto:=Qbj ht
  generalize (mTI l id).1=t at ht hto
  simp only[h1,decide_true,Bool.not_true,cond_false,if_true]
  rw[QEw,Option.bind_some,Qu4 hl hso.c ht (QAC hso),Option.bind_some]
  by_cases h2:(mChk l s.2.2.1 t (QiX s)).2=0
  ·simp only[h2,decide_true,Bool.not_true,cond_false,if_true]
   have loop:∀(f:Bool×Int->Option ((Bool×Int)⊕(Bool⊕(Int×TX)))),
     (∀(i:Nat) (hi:i<ahead.length) (b:Bool),f (b,(i:Int))=some (if JH ahead[i] t then .inr (.inr (7,t)) else .inl (b || (!decide (ahead[i].1=0) || Qhb s.2.2.2 t ahead[i]),((i+1:Nat):Int))))->(∀b,f (b,(ahead.length:Int))=some (.inr (.inl b)))->
     Qh f (false,0)=some (if ahead.any (fun a=>JH a t) then .inr (7,t) else .inl (QdT s.2.2.2 t ahead)):=by
    intro f hf he
    have key:∀(d i:Nat) (b:Bool),i+d=ahead.length->Qh f (b,(i:Int))=some (if (ahead.drop i).any (fun a=>JH a t) then .inr (7,t) else .inl (b || QdT s.2.2.2 t (ahead.drop i))):=by
     intro d
     induction d with
     | zero=>
      intro i b hi
      obtain rfl:i=ahead.length:=by omega
      rw[QE (he b),List.drop_length];simp[QdT]
     | succ d ih=>
      intro i b hi
      have hlt:i<ahead.length:=by omega
      have h5:=hf i hlt b
      rw[List.drop_eq_getElem_cons hlt,List.any_cons]
      cases hc:JH ahead[i] t with
      | true=>rw[hc,if_pos rfl] at h5;rw[QE h5];rfl
      | false=>
       rw[hc,if_neg (by simp)] at h5
       rw[Zj h5,ih (i+1) _ (by omega),Bool.false_or]
       have:QdT s.2.2.2 t (ahead[i]::ahead.drop (i+1))=((!decide (ahead[i].1=0) || Qhb s.2.2.2 t ahead[i]) || QdT s.2.2.2 t (ahead.drop (i+1))):=rfl
       rw[this,Bool.or_assoc]
    have:=key ahead.length 0 false (by omega)
    rw[List.drop_zero,Bool.false_or] at this
    exact this
   rw[loop _ (fun i hi b=>by
    have hai:=QtJ ha (List.getElem_mem hi)
    simp only[dlt hi,Qg _ i hi,Qf _ i _ hi,cond_true,QuK hai hto.b.ins,QDi s hmB (t:=t) hai,Option.bind_some,wsucc hi hal]
    cases JH ahead[i] t
    ·cases b
     ·by_cases h:ahead[i].1=0
      ·rw[decide_eq_true h];cases Qhb s.2.2.2 t ahead[i]<;>rfl
      ·rw[decide_eq_false h];rfl
     ·rfl
    ·rfl) (fun b=>by simp only[dge,cond_false]),Option.bind_some]
   cases hc:ahead.any fun a=>JH a t with
   | true=>rfl
   | false=>
    simp only[Bool.false_eq_true,if_false,Sum.elim_inl]
    by_cases h3:t.1=0
    ·rw[decide_eq_true h3,if_neg (fun h=>h.1 h3)];rfl
    ·rw[decide_eq_false h3,Qwt hm (by have:=hto.li;omega)]
     simp only[Bool.not_false,cond_true,Option.bind_some]
     by_cases h4:(Qh9 s.2.2.2 t id).2=0
     ·rw[decide_eq_true h4]
      cases hk:QdT s.2.2.2 t ahead with
      | true=>rw[if_pos ⟨h3,.inr rfl⟩];rfl
      | false=>rw[if_neg (fun h=>h.2.elim (fun h=>h h4) (fun h=>by cases h))];rfl
     ·rw[decide_eq_false h4,if_pos ⟨h3,.inl h4⟩];rfl
  ·simp only[h2,decide_false,Bool.not_false,cond_true,if_false]
 ·simp only[h1,decide_false,Bool.not_false,cond_true,if_false]
noncomputable def QaX (l:TL) (pool:List Int):List TX:=pool.map fun i=>(mTI l i).1
theorem QFt {l:TL} (hl:okL l) (pool:List Int) (hp:pool.length<=1000000):Qar l pool=some (QaX l pool):=by
 unfold Qar QaX
 rw[ZU (σ:=List TX) pool (fun acc i=>acc++[(mTI l i).1]) (fun t i=>(t,i)) (fun t=>t) (fun t i=>t.length=i) _ (fun i hi x hx=>by
   refine⟨?_,by simp[hx]⟩
   simp only[dlt hi,Qg _ i hi,Qf _ i _ hi,cond_true,QpR hl,Option.bind_some,wsucc hi (by unfold BIG;omega)]
   rw[QM (by simp only[List.length_cons,List.length_nil];unfold LIM;omega)];rfl) (fun t ht=>by simp only[dge,cond_false]) [] rfl,Option.bind_some,foldl_map (fun i=>(mTI l i).1),List.nil_append]
theorem QB6 {l:List TMb} {t:TX} {id:Int} (h2:t.1=2) (h:(Qh9 l t id).2=0):(l.any fun x=>decide (x.1=t.2.1))=true:=by
 unfold Qh9 at h
 cases ha:l.any fun x=>decide (x.1=t.2.1) with
 | true=>rfl
 | false=>rw[if_pos ⟨h2,ha⟩] at h;cases h
theorem QGO {l:TL} (hl:okL l) {id:Int} (h:(mTI l id).2=0):mIn id 1 60=true:=by
 unfold mTI at h
 cases h1:mIn id 1 (l.1.length:Int) with
 | false=>rw[h1] at h;simp at h
 | true=>
  rw[ZF] at h1 ⊢
  have:=hl.n1
  omega
theorem QxP {s:TState} (hs:okS' s) {t:TX} (ht:okT t) {id:Int} (hid:mIn id 1 60=true) {ahead:List TX} (ha:∀a,a ∈ ahead->okT a) (hal:ahead.length<BIG) :
  YZ s t id ahead=some (if t.1 ≠ 0/\((Qh9 s.2.2.2 t id).2 ≠ 0\/QdT s.2.2.2 t ahead=true) then 10 else 0):=by
 have hm:=Qz1 hs.m
 unfold YZ
 by_cases h0:t.1=0
 ·rw[decide_eq_true h0,if_neg (fun h=>h.1 h0)];rfl
 ·rw[decide_eq_false h0,cond_false,Qoq hm (by have:=ht.li;omega) hid,Option.bind_some]
  by_cases h1:(Qh9 s.2.2.2 t id).2=0
  ·rw[decide_eq_true h1,Bool.not_true,cond_false]
   have hcf:=QfI ahead hal (fun a=>!decide (a.1=0)) (fun a17=>(JT a17).bind fun r18=>some r18) (fun a _=>rfl)
   rw[hcf,Option.bind_some]
   cases hk:ahead.any fun a=>!decide (a.1=0) with
   | true=>
    have hk2:QdT s.2.2.2 t ahead=true:=by
     unfold QdT
     rw[List.any_eq_true] at hk ⊢
     obtain⟨a,h2,h3⟩:=hk
     exact⟨a,h2,by rw[h3];rfl⟩
    rw[if_pos ⟨h0,.inr hk2⟩];rfl
   | false=>
    rw[cond_false]
    have hkinds:QdT s.2.2.2 t ahead=ahead.any fun a=>Qhb s.2.2.2 t a:=by
     unfold QdT
     rw[Bool.eq_iff_iff,List.any_eq_true,List.any_eq_true]
     rw[List.any_eq_false] at hk
     constructor
     ·rintro ⟨a,h2,h3⟩
      refine⟨a,h2,?_⟩
      have:=hk a h2
      simp only[Bool.not_eq_true] at this
      rw[this,Bool.false_or] at h3
      exact h3
     ·rintro ⟨a,h2,h3⟩
      exact⟨a,h2,by rw[h3,Bool.or_true]⟩
    rw[hkinds]
    by_cases h2:t.1=2
    ·have hany:=QB6 h2 h1
     obtain⟨k,k1,k2,k3,k4,k5⟩:=Qjj hm.1 (by have:=hm.2;omega) t.2.1
     obtain⟨hk1,he⟩:=k3 hany
     rw[decide_eq_true h2,cond_true,k2,Option.bind_some,Qg _ k hk1,cond_true]
     have hat:(List.getD s.2.2.2 (Int.toNat (k:Int)) (0,(0,0))).2=mAt s.2.2.2 t.2.1:=by
      unfold mAt
      obtain⟨j,hj,e,hp,_⟩:=Qi5 hany
      rw[e,Int.toNat_natCast,Int.toNat_natCast]
      have hp:s.2.2.2[j].1=t.2.1:=of_decide_eq_true hp
      have:j=k:=by
       rcases Nat.lt_trichotomy j k with h | h | h
       ·have:=Qgu hm.1 h hk1;omega
       ·exact h
       ·have:=Qgu hm.1 h hj;omega
      rw[this]
     rw[hat,QfI _ hal (fun a=>decide (mAt s.2.2.2 t.2.1 ∈ a.2.2.1)) _ (fun a ha'=>by unfold JU;rw[Qfz _ (QtJ ha ha')];rfl),Option.bind_some]
     have hh:(ahead.any fun a=>Qhb s.2.2.2 t a)=ahead.any fun a=>decide (mAt s.2.2.2 t.2.1 ∈ a.2.2.1):=by
      congr 1
      funext a
      unfold Qhb
      rw[decide_eq_true h2,hany];rfl
     rw[hh]
     cases hz:ahead.any fun a=>decide (mAt s.2.2.2 t.2.1 ∈ a.2.2.1) with
     | true=>rw[if_pos ⟨h0,.inr rfl⟩];rfl
     | false=>rw[if_neg (fun h=>h.2.elim (fun h=>h h1) (fun h=>by cases h))];rfl
    ·have hh:(ahead.any fun a=>Qhb s.2.2.2 t a)=false:=by
      rw[List.any_eq_false]
      intro a _
      unfold Qhb
      rw[decide_eq_false h2];simp
     rw[hh,decide_eq_false h2,if_neg (fun h=>h.2.elim (fun h=>h h1) (fun h=>by cases h))];rfl
  ·rw[decide_eq_false h1,if_pos ⟨h0,.inl h1⟩];rfl
def QyY (l:TL) (pool:List Int):Prop:=∀i,i ∈ pool->(mTI l i).2=0
theorem QEB {l:TL} {pool:List Int} (h:QyY l pool):∀a,a ∈ QaX l pool->okT a:=fun a ha=>by
 unfold QaX at ha
 obtain⟨i,hi,rfl⟩:=List.mem_map.1 ha
 exact Qbj (Qta (h i hi))
theorem QC7 {t:TX} (h:okT t):JH t t=true:=by
 unfold JH
 have:=h.li
 cases hl:t.2.2.1 with
 | nil=>rw[hl] at this;simp at this
 | cons a l=>simp
theorem Qxx {l:TL} (hl:okL l) {s:TState} (hs:okS' s) {pool:List Int} (hp:QyY l pool) (hpl:pool.length<=1000000) (id:Int):ZY l s pool id=some (mOne l s (QaX l pool) id).2:=by
 have hB:BIG=4611686018427387904:=rfl
 have hok:=QEB hp
 have hlen:(QaX l pool).length=pool.length:=by unfold QaX;rw[List.length_map]
 unfold ZY mOne
 rw[QpR hl,Option.bind_some]
 by_cases h1:(mTI l id).2=0
 ·have ht:=Qbj (Qta h1)
  rw[decide_eq_true h1,Bool.not_true,cond_false,if_pos h1,QA3,Option.bind_some,Qvh hl hs.c ht (QAC hs),Option.bind_some]
  by_cases h2:(mChk l s.2.2.1 (mTI l id).1 (QiX s)).2=0
  ·rw[decide_eq_true h2,Bool.not_true,cond_false,if_pos h2,QFt hl pool hpl,Option.bind_some,Qtz _ (by omega),Option.bind_some]
   rw[QfI _ (by omega) (fun a=>JH a (mTI l id).1) _ (fun a ha=>by unfold Jy;rw[Qy0 (QtJ hok ha) ht.b.ins];rfl)]
   have e:(bif decide (id ∈ pool) then some true else (some ((QaX l pool).any fun a=>JH a (mTI l id).1):Option Bool).bind fun y26=>some y26)=some ((QaX l pool).any fun a=>JH a (mTI l id).1):=by
    by_cases hi:id ∈ pool
    ·rw[decide_eq_true hi,cond_true]
     congr 1
     symm
     rw[List.any_eq_true]
     exact⟨(mTI l id).1,List.mem_map.2 ⟨id,hi,rfl⟩,QC7 ht⟩
    ·rw[decide_eq_false hi];rfl
   rw[e,Option.bind_some]
   cases hc:(QaX l pool).any fun a=>JH a (mTI l id).1 with
   | true=>rfl
   | false=>
    rw[cond_false,QxP hs ht (QGO hl h1) hok (by omega),Option.bind_some]
    simp only[Bool.false_eq_true,if_false]
    split<;>rfl
  ·rw[decide_eq_false h2,if_neg h2];rfl
 ·rw[decide_eq_false h1,if_neg h1];rfl
noncomputable def mTxs (l:TL) (s:TState):List TX->List Int->List TX×Int
 | acc,[]=>(acc,0)
 | acc,id::r=>if (mOne l s acc id).2=0 then mTxs l s (acc++[(mTI l id).1]) r else ([],(mOne l s acc id).2)
def Qbl (l:TL) (s:TState) (pool:List Int):Int:=if mLF l=0 then (if mSt s=0 then (if (8:Int)<(pool.length:Int) then 2 else 0) else mSt s) else mLF l
noncomputable def QyS (l:TL) (s:TState) (pool:List Int):Int:=if Qbl l s pool=0 then (mTxs l s [] pool).2 else Qbl l s pool
structure bL' (l:TL):Prop where
 a:l.1.length<BIG
 b:l.2.length<BIG
theorem QF5 {l:TL} {s:TState} {pool:List Int} (h:Qbl l s pool=0):mLF l=0/\mSt s=0/\pool.length<=8:=by
 unfold Qbl at h
 by_cases h1:mLF l=0
 ·rw[if_pos h1] at h
  by_cases h2:mSt s=0
  ·rw[if_pos h2] at h
   by_cases h3:(8:Int)<(pool.length:Int)
   ·rw[if_pos h3] at h;cases h
   ·exact⟨h1,h2,by omega⟩
  ·rw[if_neg h2] at h;exact absurd h h2
 ·rw[if_neg h1] at h;exact absurd h h1
theorem QBy {l:TL} (hl:bL' l) {s:TState} (hs:bS s) (pool:List Int):QcZ l s pool=some (Qbl l s pool):=by
 unfold QcZ Qbl
 rw[QoZ l hl.a hl.b,Option.bind_some,QgC,QpB s hs,Option.bind_some,QgC]
 split
 ·split
  ·by_cases h:(8:Int)<(pool.length:Int)
   ·rw[decide_eq_true h,if_pos h];rfl
   ·rw[decide_eq_false h,if_neg h];rfl
  ·rfl
 ·rfl
theorem Qyt {l:TL} (hl:bL' l) {s:TState} (hs:bS s) (pool:List Int):Qgr l s pool=some (if Qbl l s pool=0 then mTxs l s [] pool else ([],Qbl l s pool)):=by
 have hB:BIG=4611686018427387904:=rfl
 have hL:LIM=1073741824:=rfl
 unfold Qgr
 rw[Qh0 l hl.a hl.b,Option.bind_some,QgC]
 by_cases h1:mLF l=0
 ·rw[if_pos h1,Qvo s hs,Option.bind_some,QgC]
  by_cases h2:mSt s=0
  ·rw[if_pos h2]
   by_cases h3:(8:Int)<(pool.length:Int)
   ·have hh:Qbl l s pool=2:=by unfold Qbl;rw[if_pos h1,if_pos h2,if_pos h3]
    rw[decide_eq_true h3,hh];rfl
   ·have hh:Qbl l s pool=0:=by unfold Qbl;rw[if_pos h1,if_pos h2,if_neg h3]
    rw[decide_eq_false h3,if_pos hh,cond_false]
    have loop:∀(f:List TX×Int->Option ((List TX×Int)⊕(List TX⊕(List TX×Int)))),
      (∀(i:Nat) (hi:i<pool.length) (acc:List TX),acc.length=i->(∀a,a ∈ acc->okT a)->f (acc,(i:Int))=some (if (mOne l s acc pool[i]).2=0 then .inl (acc++[(mTI l pool[i]).1],((i+1:Nat):Int)) else .inr (.inr ([],(mOne l s acc pool[i]).2))))->(∀acc,f (acc,(pool.length:Int))=some (.inr (.inl acc)))->
      ∀(d i:Nat) (acc:List TX),i+d=pool.length->acc.length=i->(∀a,a ∈ acc->okT a)->(Qh f (acc,(i:Int))).bind (fun j=>Sum.elim (fun j17=>some (j17,(0:Int))) (fun j18=>some (j18.1,j18.2)) j)=some (mTxs l s acc (pool.drop i)):=by
     intro f hf he d
     induction d with
     | zero=>
      intro i acc hi hac hok
      obtain rfl:i=pool.length:=by omega
      rw[QE (he acc),List.drop_length];rfl
     | succ d ih=>
      intro i acc hi hac hok
      have hlt:i<pool.length:=by omega
      have h5:=hf i hlt acc hac hok
      rw[List.drop_eq_getElem_cons hlt,mTxs]
      by_cases hc:(mOne l s acc pool[i]).2=0
      ·rw[if_pos hc] at h5 ⊢
       rw[Zj h5]
       refine ih (i+1) _ (by omega) (by simp[hac]) (fun a ha=>?_)
       rcases List.mem_append.1 ha with ha | ha
       ·exact hok a ha
       ·rw[List.mem_singleton] at ha;subst ha
        exact Qbj (Qta (QCg hc))
      ·rw[if_neg hc] at h5 ⊢
       rw[QE h5];rfl
    have:=loop (fun (s14:List TX×Int)=>
 bif (decide ((s14.2:Int)<(List.length pool:Int))) then
 bif (inB s14.2 pool) then
 (QdB l s s14.1 (List.getD pool (Int.toNat s14.2) 0)).bind fun (y15:TX×Int)=>
 bif (!decide ((y15.2:Int)=0)) then
 some (Sum.inr (Sum.inr (([]:List TX),y15.2)))
 else
 bif decide (List.length s14.1+List.length ([y15.1]:List TX)<=LIM) then
 some (Sum.inl (List.append s14.1 ([y15.1]:List TX),IntKind.wrap .i64 (s14.2+1)))
 else none
 else none
 else
 some (Sum.inr (Sum.inl s14.1))) (fun i hi acc hac hok=>by
      simp only[dlt hi,Qg _ i hi,Qf _ i _ hi,cond_true,QyL h1 h2 hok (by omega),Option.bind_some,wsucc hi (by omega),QGw]
      by_cases hc:(mOne l s acc pool[i]).2=0
      ·rw[decide_eq_true hc,if_pos hc,Bool.not_true,cond_false,QM (by simp only[List.length_cons,List.length_nil];omega)];rfl
      ·rw[decide_eq_false hc,if_neg hc];rfl) (fun acc=>by simp only[dge,cond_false]) pool.length 0 [] (by omega) rfl (fun a h=>nomatch h)
    rw[List.drop_zero] at this
    exact this
  ·have hh:Qbl l s pool=mSt s:=by unfold Qbl;rw[if_pos h1,if_neg h2]
   rw[if_neg h2,hh,if_neg h2]
 ·have hh:Qbl l s pool=mLF l:=by unfold Qbl;rw[if_neg h1]
  rw[if_neg h1,hh,if_neg h1]
theorem Qqi {l:TL} (hl:bL' l) {s:TState} (hs:bS s) (pool:List Int):Qc2 l s pool=some (QyS l s pool):=by
 have hB:BIG=4611686018427387904:=rfl
 unfold Qc2 QyS
 rw[QBy hl hs,Option.bind_some,QgC]
 by_cases hh:Qbl l s pool=0
 ·rw[if_pos hh,if_pos hh]
  obtain⟨h1,h2,h3⟩:=QF5 hh
  have hlo:=QAH h1
  have hso:=QDL h2
  have loop:∀(f:Int->Option (Int⊕(Unit⊕Int))),
    (∀(i:Nat) (hi:i<pool.length),QyY l (pool.take i)->f (i:Int)=some (if (mOne l s (QaX l (pool.take i)) pool[i]).2=0 then .inl ((i+1:Nat):Int) else .inr (.inr (mOne l s (QaX l (pool.take i)) pool[i]).2)))->(f (pool.length:Int)=some (.inr (.inl ())))->
    ∀(d i:Nat),i+d=pool.length->QyY l (pool.take i)->(Qh f (i:Int)).bind (fun j=>Sum.elim (fun _=>some (0:Int)) (fun j16=>some j16) j)=some (mTxs l s (QaX l (pool.take i)) (pool.drop i)).2:=by
   intro f hf he d
   induction d with
   | zero=>
    intro i hi hall
    obtain rfl:i=pool.length:=by omega
    rw[QE he,List.drop_length];rfl
   | succ d ih=>
    intro i hi hall
    have hlt:i<pool.length:=by omega
    have h5:=hf i hlt hall
    rw[List.drop_eq_getElem_cons hlt,mTxs]
    by_cases hc:(mOne l s (QaX l (pool.take i)) pool[i]).2=0
    ·rw[if_pos hc] at h5 ⊢
     have e:pool.take (i+1)=pool.take i++[pool[i]]:=List.take_succ_eq_append_getElem hlt
     have e2:QaX l (pool.take i)++[(mTI l pool[i]).1]=QaX l (pool.take (i+1)):=by
      unfold QaX;rw[e,List.map_append];rfl
     rw[Zj h5,e2]
     refine ih (i+1) (by omega) (fun j hj=>?_)
     rw[e,List.mem_append,List.mem_singleton] at hj
     rcases hj with hj | rfl
     ·exact hall j hj
     ·exact QCg hc
    ·rw[if_neg hc] at h5 ⊢
     rw[QE h5];rfl
  have:=loop (fun (s12:Int)=>
 bif (decide ((s12:Int)<(List.length pool:Int))) then
 bif (inB s12 pool) then
 bif (Zp 0 s12 pool) then
 (ZY l s (cut 0 s12 pool) (List.getD pool (Int.toNat s12) 0)).bind fun (y13:Int)=>
 bif (!decide ((y13:Int)=0)) then
 some (Sum.inr (Sum.inr y13))
 else
 some (Sum.inl (IntKind.wrap .i64 (s12+1)))
 else none
 else none
 else
 some (Sum.inr (Sum.inl ()))) (fun i hi hall=>by
    simp only[dlt hi,Qg _ i hi,Qf _ i _ hi,QbA _ i (Nat.le_of_lt hi),Qfm,cond_true,Qxx hlo hso hall (by rw[List.length_take];omega),Option.bind_some,wsucc hi (by omega)]
    by_cases hc:(mOne l s (QaX l (pool.take i)) pool[i]).2=0
    ·rw[decide_eq_true hc,if_pos hc];rfl
    ·rw[decide_eq_false hc,if_neg hc];rfl) (by simp only[dge,cond_false]) pool.length 0 (by omega) (fun j hj=>by simp at hj)
  rw[List.drop_zero,List.take_zero] at this
  exact this
 ·rw[if_neg hh,if_neg hh]
end GL
end Go.Dx
set_option maxHeartbeats 2000000
namespace Go.Dx
namespace GL
theorem QC0 (c:TL) (h:Bnd s1 c):bL (bL bAny) c.1/\bL bAny c.2:=⟨Qph (s:=.str) (p:=bL bAny) (fun y hy=>⟨hy,fun _ _=>trivial⟩) h.1,Qph (s:=s0) (p:=bAny) (fun _ _=>trivial) h.2⟩
theorem QEh (c:TState) (h:Bnd s10 c):Qss c:=by
 obtain⟨_,_,h5,h6⟩:=h
 exact⟨Qph (s:=s6) (p:=Qpb) (fun y hy=>by
  obtain⟨_,⟨_,hy,_⟩,_⟩:=hy
  exact Qph (s:=.int .i64) (p:=bAny) (fun _ _=>trivial) hy) h5,Qph (s:=s7) (p:=bAny) (fun _ _=>trivial) h6⟩
theorem QEP (c:List Int) (h:Bnd (.list (.int .i64)) c):bL bAny c:=Qph (s:=.int .i64) (p:=bAny) (fun _ _=>trivial) h
end GL
end Go.Dx
set_option maxHeartbeats 2000000
namespace Go.Dx
namespace GL
theorem QKe:(BIG:Int)=4611686018427387904:=rfl
theorem wk {k:Int} (h0:0<=k) (h:k<(BIG:Int)):IntKind.wrap .i64 (k+1)=k+1:=YK (by omega) (by have:=QKe;omega)
theorem QJz {β:Type} {y:Int} (h:0<=y) (a b:β):(bif decide (y<0) then a else b)=b:=by rw[decide_eq_false (by omega)];rfl
theorem QKg (k:Int) (h0:0<=k) (hb:k<(BIG:Int)):∃t,QIj k=some t:=by
 have hB:=QKe
 have hL:LIM=1073741824:=rfl
 unfold QIj
 by_cases hk:k<=0
 ·rw[decide_eq_true hk];exact⟨_,rfl⟩
 ·rw[decide_eq_false hk,cond_false]
  generalize hf:(fun (s3:Int×List UInt8)=>_)=f
  have key:∀(n:Nat) (k:Int) (acc:List UInt8),0<=k->k<(10:Int) ^ n->k<(BIG:Int)->acc.length+n<=100->∃t,Qh f (k,acc)=some t/\t.length<=100:=by
   intro n
   induction n with
   | zero=>
    intro k acc h0 h1 _ hl
    have:k=0:=by simp at h1;omega
    subst this
    exact⟨acc,QE (by rw[<-hf];simp),by omega⟩
   | succ n ih=>
    intro k acc h0 h1 hb hl
    by_cases hk:k=0
    ·subst hk;exact⟨acc,QE (by rw[<-hf];simp),by omega⟩
    ·have hd:Int.tdiv k 10=k / 10:=Int.tdiv_eq_ediv_of_nonneg h0
     have hw:IntKind.wrap .i64 (Int.tdiv k 10)=k / 10:=by rw[hd];exact YK (by omega) (by omega)
     have hp:k / 10<(10:Int) ^ n:=by rw[Int.pow_succ] at h1;omega
     rw[Zj (s':=(k / 10,List.append (List.map (fun (b:Int)=>UInt8.ofNat b.toNat) ([IntKind.wrap .u8 (IntKind.wrap .i64 (48+(Int.tmod k 10)))]:List Int)) acc)) (by
      rw[<-hf]
      simp only[show decide (0<k)=true by simp;omega,cond_true,hw]
      rw[show decide (List.length (List.map (fun (b:Int)=>UInt8.ofNat b.toNat) ([IntKind.wrap .u8 (IntKind.wrap .i64 (48+(Int.tmod k 10)))]:List Int))+List.length acc<=LIM)=true from by simp;omega]
      rfl)]
     exact ih _ _ (by omega) hp (by omega) (by simp;omega)
  obtain⟨t,ht,hl⟩:=key 19 k [] h0 (by have:(10:Int) ^ 19=10000000000000000000:=(by decide);omega) hb (by simp)
  rw[ht,Option.bind_some]
  rw[show decide (List.length ([109]:List Nat)+List.length t<=LIM)=true from by simp;omega]
  exact⟨_,rfl⟩
noncomputable def mT (k:Int):List UInt8:=(QIj k).getD []
theorem QKj (k:Int) (h0:0<=k) (hb:k<(BIG:Int)):QIj k=some (mT k):=by
 obtain⟨t,ht⟩:=QKg k h0 hb
 unfold mT;rw[ht];rfl
noncomputable def mkS (k:Int) (_:List UInt8):List UInt8:=mT k
def mkG (k:Int) (_:Int×Int):Int×Int:=(k,k+1)
def cS:List UInt8->Nat:=fun _=>1
def cG:Int×Int->Nat:=fun _=>2
theorem QJt (x:List (List UInt8)) (hl:x.length<BIG) (k:Int) (h0:0<=k) (hb:k+(cntL cS x:Int)<(BIG:Int)):QIx x k=some (k+(cntL cS x:Int),mkL cS mkS k x):=by
 unfold QIx
 rw[QHl cS mkS x k h0 hb _ (fun acc i k h ha hm h0 hk=>?_) (fun acc k ha=>by simp only[ha,dge,cond_false])]
 ·rfl
 ·simp only[cS] at hk
  have w1:IntKind.wrap .i64 (k+1)=k+1:=wk h0 (by omega)
  simp only[dlt h,QHo,Qg acc i h,Int.toNat_natCast,List.set_set,QGo acc i _ _ h,getD_at acc i _ h,cond_true,w1,wsucc h (by omega),QKj k h0 (by omega),Option.bind_some]
  rfl
theorem QJO (x:List (Int×Int)) (hl:x.length<BIG) (k:Int) (h0:0<=k) (hb:k+(cntL cG x:Int)<(BIG:Int)):QID x k=some (k+(cntL cG x:Int),mkL cG mkG k x):=by
 unfold QID
 rw[QHl cG mkG x k h0 hb _ (fun acc i k h ha hm h0 hk=>?_) (fun acc k ha=>by simp only[ha,dge,cond_false])]
 ·rfl
 ·simp only[cG] at hk
  have w1:IntKind.wrap .i64 (k+1)=k+1:=wk h0 (by omega)
  have w2:IntKind.wrap .i64 (k+1+1)=k+2:=by rw[wk (by omega) (by omega)];omega
  simp only[dlt h,QHo,Qg acc i h,Int.toNat_natCast,List.set_set,QGo acc i _ _ h,getD_at acc i _ h,cond_true,w1,w2,wsucc h (by omega)]
  rfl
def cL (x:TL):Nat:=cntL cS x.1+cntL cG x.2
noncomputable def mkLd (k:Int) (x:TL):TL:=(mkL cS mkS k x.1,mkL cG mkG (k+(cntL cS x.1:Int)) x.2)
theorem QKq (x:TL):cL x=x.1.length+2 * x.2.length:=by unfold cL cS cG;rw[QDp,QDp];omega
theorem QJA (x:TL) (h1:x.1.length<=1048576) (h2:x.2.length<=1048576) (k:Int) (h0:0<=k) (hk:k<=1000):QIp x k=some (k+(cL x:Int),mkLd k x):=by
 have hB:=QKe
 have hB':BIG=4611686018427387904:=rfl
 have hc:=QKq x
 unfold cL at hc
 unfold QIp
 rw[QJt _ (by omega) k h0 (by omega),Option.bind_some,QJO _ (by omega) _ (by omega) (by omega),Option.bind_some]
 show some (k+(cntL cS x.1:Int)+(cntL cG x.2:Int),mkLd k x)=_
 rw[show k+(cntL cS x.1:Int)+(cntL cG x.2:Int)=k+(cL x:Int) from by unfold cL;omega]
def cI1:Int->Nat:=fun _=>1
def mkI (k:Int) (_:Int):Int:=k
def cM3:TMb->Nat:=fun _=>3
def mkM (k:Int) (_:TMb):TMb:=(k,k+1,k+2)
def cC7 (c:TCoin):Nat:=cntL cI1 c.2.1.2.1+7
def mkC7 (k:Int) (c:TCoin):TCoin:=((k,k+1),((k+2,(mkL cI1 mkI (k+3) c.2.1.2.1,(k+3+(cntL cI1 c.2.1.2.1:Int),k+4+(cntL cI1 c.2.1.2.1:Int)))),(k+5+(cntL cI1 c.2.1.2.1:Int),decide (Int.tmod (k+6+(cntL cI1 c.2.1.2.1:Int)) 3=0))))
theorem QIB (x:List Int) (hl:x.length<BIG) (k:Int) (h0:0<=k) (hb:k+(cntL cI1 x:Int)<(BIG:Int)):QH5 x k=some (k+(cntL cI1 x:Int),mkL cI1 mkI k x):=by
 unfold QH5
 rw[QHl cI1 mkI x k h0 hb _ (fun acc i k h ha hm h0 hk=>?_) (fun acc k ha=>by simp only[ha,dge,cond_false])]
 ·rfl
 ·simp only[cI1] at hk
  have w1:IntKind.wrap .i64 (k+1)=k+1:=wk h0 (by omega)
  simp only[dlt h,QHo,Qg acc i h,Int.toNat_natCast,List.set_set,QGo acc i _ _ h,getD_at acc i _ h,cond_true,w1,wsucc h (by omega)]
  rfl
theorem QIQ (x:List Int) (hl:x.length<BIG) (k:Int) (h0:0<=k) (hb:k+(cntL cI1 x:Int)<(BIG:Int)):QIo (mkL cI1 mkI k x) k=some (k+(cntL cI1 x:Int)):=by
 unfold QIo
 refine QHj cI1 mkI x k h0 hb _ (fun i k h h' h0 hk hel=>?_) (fun k=>by simp only[QCl,dge,cond_false])
 simp only[cI1] at hk
 have w1:IntKind.wrap .i64 (k+1)=k+1:=wk h0 (by omega)
 simp only[QCl,dlt h,Qg _ i h',Int.toNat_natCast,getD_at _ i _ h',hel,mkI,cond_true,w1,decide_true,Bool.not_true,cond_false,wsucc h hl]
 rfl
theorem QJr (x:List TMb) (hl:x.length<BIG) (k:Int) (h0:0<=k) (hb:k+(cntL cM3 x:Int)<(BIG:Int)):QIz x k=some (k+(cntL cM3 x:Int),mkL cM3 mkM k x):=by
 unfold QIz
 rw[QHl cM3 mkM x k h0 hb _ (fun acc i k h ha hm h0 hk=>?_) (fun acc k ha=>by simp only[ha,dge,cond_false])]
 ·rfl
 ·simp only[cM3] at hk
  have w1:IntKind.wrap .i64 (k+1)=k+1:=wk h0 (by omega)
  have w2:IntKind.wrap .i64 (k+1+1)=k+2:=by rw[wk (by omega) (by omega)];omega
  have w3:IntKind.wrap .i64 (k+2+1)=k+3:=by rw[wk (by omega) (by omega)];omega
  simp only[dlt h,QHo,Qg acc i h,Int.toNat_natCast,List.set_set,QGo acc i _ _ h,getD_at acc i _ h,cond_true,w1,w2,w3,wsucc h (by omega)]
  rfl
theorem QJQ (x:List TCoin) (hl:x.length<BIG) (hk':∀c,c ∈ x->c.2.1.2.1.length<BIG) (k:Int) (h0:0<=k) (hb:k+(cntL cC7 x:Int)<(BIG:Int)):QIC x k=some (k+(cntL cC7 x:Int),mkL cC7 mkC7 k x):=by
 unfold QIC
 rw[QHl cC7 mkC7 x k h0 hb _ (fun acc i k h ha hm h0 hk=>?_) (fun acc k ha=>by simp only[ha,dge,cond_false])]
 ·rfl
 ·have hkk:=hk' _ hm
  simp only[cC7] at hk
  have w1:IntKind.wrap .i64 (k+1)=k+1:=wk h0 (by omega)
  have w2:IntKind.wrap .i64 (k+1+1)=k+2:=by rw[wk (by omega) (by omega)];omega
  have w3:IntKind.wrap .i64 (k+2+1)=k+3:=by rw[wk (by omega) (by omega)];omega
  have hm:=QIB acc[i].2.1.2.1 hkk (k+3) (by omega) (by omega)
  simp only[dlt h,QHo,Qg acc i h,Int.toNat_natCast,List.set_set,QGo acc i _ _ h,getD_at acc i _ h,cond_true,w1,w2,w3,wsucc h (by omega),hm,Option.bind_some]
  generalize hn:(cntL cI1 acc[i].2.1.2.1:Int)=n at *
  have hn0:0<=n:=by omega
  have v1:IntKind.wrap .i64 (k+3+n+1)=k+4+n:=by rw[wk (by omega) (by omega)];omega
  have v2:IntKind.wrap .i64 (k+4+n+1)=k+5+n:=by rw[wk (by omega) (by omega)];omega
  have v3:IntKind.wrap .i64 (k+5+n+1)=k+6+n:=by rw[wk (by omega) (by omega)];omega
  have v4:IntKind.wrap .i64 (k+6+n+1)=k+7+n:=by rw[wk (by omega) (by omega)];omega
  simp only[v1,v2,v3,v4]
  simp only[mkC7,hn,cC7]
  congr 4
  rw[Int.natCast_add,hn];omega
theorem QKi {s:TState} (hc:s.2.2.1.length<BIG) (hk:∀c,c ∈ s.2.2.1->c.2.1.2.1.length<BIG) (hm:s.2.2.2.length<BIG) (k:Int) (h0:0<=k) (hb:k+(cntL cC7 s.2.2.1:Int)+(cntL cM3 s.2.2.2:Int)<(BIG:Int)):∃t,QIq s k=some (k+(cntL cC7 s.2.2.1:Int)+(cntL cM3 s.2.2.2:Int),t):=by
 unfold QIq
 rw[QJQ _ hc hk k h0 (by omega),Option.bind_some,QJr _ hm _ (by omega) (by omega),Option.bind_some]
 exact⟨_,rfl⟩
theorem cntC (l:List TCoin):cntL cC7 l<=7 * QhU l:=by
 unfold QhU
 induction l with
 | nil=>simp[cntL]
 | cons a l ih=>
  have:cntL cI1 a.2.1.2.1=a.2.1.2.1.length:=by unfold cI1;rw[QDp];omega
  rw[QgK,List.map_cons,List.sum_cons,List.length_cons]
  have h2:cC7 a=Qba a+7:=by unfold cC7 Qba;omega
  omega
theorem QKo {x0:TL} {x1:TState} {x2:List Int} (h1:x0.1.length<=1048576) (h2:x0.2.length<=1048576) (ht:Qgs x1<=1048576) (h3:x2.length<=1048576) :
  ∃a b c,QIp x0 1=some a/\QIq x1 a.1=some b/\QH5 x2 b.1=some c/\0<=c.1:=by
 have hB:BIG=4611686018427387904:=rfl
 have htc:Qgs x1=QhU x1.2.2.1+x1.2.2.2.length:=rfl
 have htc2:QhU x1.2.2.1=x1.2.2.1.length+(x1.2.2.1.map Qba).sum:=rfl
 have hcc:=cntC x1.2.2.1
 have hcm:cntL cM3 x1.2.2.2=3 * x1.2.2.2.length:=by unfold cM3;rw[QDp]
 have hci:cntL cI1 x2=x2.length:=by unfold cI1;rw[QDp];omega
 have hcl:=QKq x0
 obtain⟨t,hs⟩:=QKi (s:=x1) (by omega) (fun y hy=>by
  have:=Qz6 Qba x1.2.2.1 y hy
  show Qba y<BIG
  omega) (by omega) (1+(cL x0:Int)) (by omega) (by omega)
 exact⟨_,_,_,QJA x0 h1 h2 1 (by omega) (by omega),hs,QIB x2 (by omega) _ (by omega) (by omega),by show 0<=_;omega⟩
abbrev TPR:=Int×List Int×List Int
theorem QKn (r:TPR) (h1:r.2.1.length<=100) (h2:r.2.2.length<=100):QH7 r r=some true:=by
 unfold QH7
 rw[QkL _ _ ⟨by omega,fun _ _=>trivial⟩,QkL _ _ ⟨by omega,fun _ _=>trivial⟩]
 simp
theorem QKl (r:TPR) (h1:r.2.1.length<=100) (h2:r.2.2.length<=100):∃k m,0<=k/\QIk r 1=some (k,m)/\QIc m 1=some k:=by
 have hB:BIG=4611686018427387904:=rfl
 have e1:cntL cI1 r.2.1=r.2.1.length:=by unfold cI1;rw[QDp];omega
 have e2:cntL cI1 r.2.2=r.2.2.length:=by unfold cI1;rw[QDp];omega
 refine⟨1+(cntL cI1 r.2.1:Int)+(cntL cI1 r.2.2:Int),(r.1,(mkL cI1 mkI 1 r.2.1,mkL cI1 mkI (1+(cntL cI1 r.2.1:Int)) r.2.2)),by omega,?_,?_⟩
 ·unfold QIk
  rw[QIB _ (by omega) 1 (by omega) (by omega),Option.bind_some,QIB _ (by omega) _ (by omega) (by omega)];rfl
 ·unfold QIc
  rw[QIQ _ (by omega) 1 (by omega) (by omega),Option.bind_some,QJz (by omega),QIQ _ (by omega) _ (by omega) (by omega),Option.bind_some,QJz (by omega)]
end GL
end Go.Dx
set_option maxHeartbeats 2000000
namespace Go.Dx
namespace GL
theorem QHM {l:TL} {s:TState}:∀(pool:List Int) (acc:List TX),(mTxs l s acc pool).2=0->(mTxs l s acc pool).1=acc++QaX l pool/\QyY l pool
 | [],acc,_=>⟨by unfold QaX;simp[mTxs],fun i h=>nomatch h⟩
 | id::r,acc,h=>by
  unfold mTxs at h ⊢
  by_cases hc:(mOne l s acc id).2=0
  ·rw[if_pos hc] at h ⊢
   obtain⟨h1,h2⟩:=QHM r _ h
   refine⟨by rw[h1];unfold QaX;simp,fun i hi=>?_⟩
   rcases List.mem_cons.1 hi with rfl | hi
   ·exact QCg hc
   ·exact h2 i hi
  ·rw[if_neg hc] at h;exact absurd h hc
structure okP (l:TL) (s:TState) (pool:List Int):Prop where
 hl:mLF l=0
 hs:mSt s=0
 hn:pool.length<=8
 ht:QyY l pool
 hp:(mTxs l s [] pool).2=0
theorem QHZ {l:TL} {s:TState} {pool:List Int} (h:QyS l s pool=0):okP l s pool:=by
 unfold QyS at h
 by_cases hh:Qbl l s pool=0
 ·rw[if_pos hh] at h
  obtain⟨h1,h2,h3⟩:=QF5 hh
  exact⟨h1,h2,h3,(QHM pool [] h).2,h⟩
 ·rw[if_neg hh] at h;exact absurd h hh
theorem QH1 {l:TL} (hl:bL' l) {s:TState} (hs:bS s) (pool:List Int):Qgr l s pool=some (if QyS l s pool=0 then (QaX l pool,0) else ([],QyS l s pool)):=by
 rw[Qyt hl hs]
 unfold QyS
 by_cases hh:Qbl l s pool=0
 ·rw[if_pos hh,if_pos hh]
  have key:∀(p:List Int) (acc:List TX),(mTxs l s acc p).2 ≠ 0->(mTxs l s acc p).1=[]:=by
   intro p
   induction p with
   | nil=>intro acc h;exact absurd rfl h
   | cons id r ih=>
    intro acc h
    unfold mTxs at h ⊢
    by_cases hc:(mOne l s acc id).2=0
    ·rw[if_pos hc] at h ⊢;exact ih _ h
    ·rw[if_neg hc]
  by_cases h0:(mTxs l s [] pool).2=0
  ·rw[if_pos h0]
   have:=(QHM pool [] h0).1
   rw[List.nil_append] at this
   rw[<-this,<-h0]
  ·rw[if_neg h0]
   exact congrArg some (Prod.ext (key pool [] h0) rfl)
 ·rw[if_neg hh,if_neg hh,if_neg hh]
theorem QHY (l:TL) (pool:List Int):(QaX l pool).length=pool.length:=by unfold QaX;rw[List.length_map]
noncomputable def QKh (l:TL) (s:TState) (pool:List Int) (id:Int):List Int×Int:=if (mOne l s (QaX l pool) id).2=0 then (if 8<=pool.length then ([],2) else (pool++[id],0)) else ([],(mOne l s (QaX l pool) id).2)
noncomputable def mAdd (l:TL) (s:TState) (pool:List Int) (id:Int):TPR:=if QyS l s pool=0 then ((QKh l s pool id).2,([],(QKh l s pool id).1)) else (QyS l s pool,([],[]))
theorem QKm {l:TL} (hl:mLF l=0) {s:TState} (hs:mSt s=0) {pool:List Int} (hp:QyY l pool) (hn:pool.length<=8) (id:Int):QId l s pool id=some (QKh l s pool id):=by
 unfold QId QKh
 rw[Qxx (QAH hl) (QDL hs) hp (by omega),Option.bind_some,QgC]
 by_cases h0:(mOne l s (QaX l pool) id).2=0
 ·rw[if_pos h0,if_pos h0]
  by_cases h8:8<=pool.length
  ·rw[decide_eq_true (by omega),if_pos h8];rfl
  ·rw[decide_eq_false (by omega),if_neg h8,cond_false,QBr _ (by unfold LIM;omega),Option.bind_some,QM (by simp only[List.length_cons,List.length_nil];unfold LIM;omega)];rfl
 ·rw[if_neg h0,if_neg h0]
theorem QKI {l:TL} (hl:bL' l) {s:TState} (hs:bS s) (pool:List Int) (id:Int):QKw l s pool id=some (mAdd l s pool id):=by
 have hB:BIG=4611686018427387904:=rfl
 unfold QKw mAdd QKh
 rw[QH1 hl hs,Option.bind_some]
 by_cases h0:QyS l s pool=0
 ·have ho:=QHZ h0
  have hn:=ho.hn
  rw[if_pos h0,if_pos h0]
  simp only[decide_true,Bool.not_true,cond_false]
  rw[QyL ho.hl ho.hs (QEB ho.ht) (by rw[QHY];omega),Option.bind_some,QgC]
  by_cases h1:(mOne l s (QaX l pool) id).2=0
  ·rw[if_pos h1,if_pos h1]
   by_cases h8:8<=pool.length
   ·rw[decide_eq_true (by omega),if_pos h8];rfl
   ·rw[decide_eq_false (by omega),if_neg h8,cond_false,QM (by simp only[List.length_nil];unfold LIM;omega),QM (by simp only[List.append_eq,List.nil_append,List.length_cons,List.length_nil];unfold LIM;omega)];rfl
  ·rw[if_neg h1,if_neg h1]
 ·rw[if_neg h0,if_neg h0,decide_eq_false h0];rfl
end GL
end Go.Dx
set_option maxHeartbeats 2000000
namespace Go.Dx
namespace GL
theorem QMp {l:TL} {s:TState} {ahead ahead':List TX} (hs:∀a,a ∈ ahead'->a ∈ ahead) {id:Int} (h:(mOne l s ahead id).2=0):(mOne l s ahead' id).2=0:=by
 have hany:∀p:TX->Bool,ahead.any p=false->ahead'.any p=false:=fun p hp=>by
  rw[List.any_eq_false] at hp ⊢
  exact fun a ha=>hp a (hs a ha)
 unfold mOne at h ⊢
 by_cases h1:(mTI l id).2=0
 ·rw[if_pos h1] at h ⊢
  by_cases h2:(mChk l s.2.2.1 (mTI l id).1 (QiX s)).2=0
  ·rw[if_pos h2] at h ⊢
   cases h3:ahead.any fun a=>JH a (mTI l id).1 with
   | true=>rw[if_pos h3] at h;cases h
   | false=>
    rw[if_neg (by rw[h3];simp)] at h
    rw[if_neg (by rw[hany _ h3];simp)]
    by_cases h4:(mTI l id).1.1 ≠ 0/\((Qh9 s.2.2.2 (mTI l id).1 id).2 ≠ 0\/QdT s.2.2.2 (mTI l id).1 ahead=true)
    ·rw[if_pos h4] at h;cases h
    ·rw[if_neg]
     rintro ⟨h5,h6⟩
     refine h4 ⟨h5,h6.imp (fun h=>h) (fun h7=>?_)⟩
     cases h8:QdT s.2.2.2 (mTI l id).1 ahead with
     | true=>rfl
     | false=>
      unfold QdT at h7 h8
      rw[hany _ h8] at h7;cases h7
  ·rw[if_neg h2] at h;exact absurd h h2
 ·rw[if_neg h1] at h;exact absurd h h1
theorem QMg {l:TL} {s:TState} (p:Int->Bool):∀(pool:List Int) (acc acc':List TX),(∀a,a ∈ acc'->a ∈ acc)->(mTxs l s acc pool).2=0->(mTxs l s acc' (pool.filter p)).2=0
 | [],_,_,_,_=>rfl
 | id::r,acc,acc',hs,h=>by
  unfold mTxs at h
  by_cases hc:(mOne l s acc id).2=0
  ·rw[if_pos hc] at h
   cases hp:p id with
   | true=>
    rw[List.filter_cons_of_pos hp,mTxs,if_pos (QMp hs hc)]
    refine QMg p r _ _ (fun a ha=>?_) h
    rcases List.mem_append.1 ha with ha | ha
    ·exact List.mem_append_left _ (hs a ha)
    ·exact List.mem_append_right _ ha
   | false=>
    rw[List.filter_cons_of_neg (by rw[hp];simp)]
    exact QMg p r _ _ (fun a ha=>List.mem_append_left _ (hs a ha)) h
  ·rw[if_neg hc] at h;exact absurd h hc
theorem QMr {l:TL} {s:TState} {pool:List Int} (p:Int->Bool) (h:QyS l s pool=0):QyS l s (pool.filter p)=0:=by
 have ho:=QHZ h
 have hn:=ho.hn
 have hl:=List.length_filter_le p pool
 have hh:Qbl l s (pool.filter p)=0:=by
  unfold Qbl
  rw[if_pos ho.hl,if_pos ho.hs,if_neg (by omega)]
 unfold QyS
 rw[if_pos hh]
 exact QMg p pool [] [] (fun a ha=>ha) ho.hp
noncomputable def QL5 (l:TL) (t:TX) (pool:List Int):List Int:=pool.filter fun i=>!JH (mTI l i).1 t
noncomputable def QMo (l:TL) (t:TX) (pool:List Int):List Int:=pool.filter fun i=>JH (mTI l i).1 t
noncomputable def mFav (l:TL) (s:TState) (pool:List Int) (id:Int):TPR:=if QyS l s pool=0 then (if (mTI l id).2=0 then (if (QKh l s (QL5 l (mTI l id).1 pool) id).2=0 then (0,(QMo l (mTI l id).1 pool,(QKh l s (QL5 l (mTI l id).1 pool) id).1)) else ((QKh l s (QL5 l (mTI l id).1 pool) id).2,([],[]))) else ((mTI l id).2,([],[]))) else (QyS l s pool,([],[]))
theorem QMq {l:TL} {pool:List Int} (h:QyY l pool) (p:Int->Bool):QyY l (pool.filter p):=fun i hi=>h i (List.mem_filter.1 hi).1
theorem QL6 (p:Int->Bool):∀(l:List Int) (a b:List Int),l.foldl (fun (t:List Int×List Int) x=>if p x then (t.1,t.2++[x]) else (t.1++[x],t.2)) (a,b)=(a++l.filter (fun x=>!p x),b++l.filter p)
 | [],a,b=>by simp
 | x::l,a,b=>by
  rw[List.foldl_cons]
  cases hp:p x with
  | true=>rw[if_pos rfl,QL6 p l];simp[hp]
  | false=>rw[if_neg (by simp),QL6 p l];simp[hp]
theorem QMn (p:Int->Bool) (l:List Int):(l.filter p).length<=l.length:=List.length_filter_le p l
theorem QMh {l:TL} (hl:bL' l) {s:TState} (hs:bS s) (pool:List Int) (id:Int):QL0 l s pool id=some (mFav l s pool id):=by
 have hB:BIG=4611686018427387904:=rfl
 unfold QL0 mFav
 rw[QH1 hl hs,Option.bind_some]
 by_cases h0:QyS l s pool=0
 ·have ho:=QHZ h0
  have hn:=ho.hn
  have hlen:=QHY l pool
  rw[if_pos h0,if_pos h0]
  simp only[decide_true,Bool.not_true,cond_false]
  rw[QBs ho.hl,Option.bind_some,QgC]
  by_cases h1:(mTI l id).2=0
  ·have ht:=Qbj (Qta h1)
   rw[if_pos h1,if_pos h1]
   rw[ZU (σ:=List Int×List Int) pool (fun t x=>if JH (mTI l x).1 (mTI l id).1 then (t.1,t.2++[x]) else (t.1++[x],t.2)) (fun t i=>(t.1,(t.2,i))) (fun t=>t) (fun t i=>t.1.length<=i/\t.2.length<=i) _ (fun i hi x hx=>by
     have hi2:i<(QaX l pool).length:=by omega
     have e:(QaX l pool)[i]=(mTI l pool[i]).1:=by
      show (pool.map fun i=>(mTI l i).1)[i]'(by rw[List.length_map];exact hi)=_
      exact List.getElem_map _
     refine⟨?_,by split<;>(simp only[List.length_append,List.length_cons,List.length_nil];omega)⟩
     have hok:=(QEB ho.ht _ (List.getElem_mem hi2)).b.ins
     rw[e] at hok
     simp only[dlt hi2,Qg _ i hi2,Qf _ i _ hi2,e,Qg _ i hi,Qf _ i _ hi,cond_true,QuK hok ht.b.ins,Option.bind_some,wsucc hi (by omega)]
     rw[QM (by simp only[List.length_cons,List.length_nil];unfold LIM;omega),QM (by simp only[List.length_cons,List.length_nil];unfold LIM;omega)]
     cases JH (mTI l pool[i]).1 (mTI l id).1<;>rfl) (fun t ht=>by rw[<-hlen];simp only[dge,cond_false]) ([],[]) ⟨Nat.le_refl _,Nat.le_refl _⟩,Option.bind_some,QL6,List.nil_append,List.nil_append]
   show ((QKw l s (QL5 l (mTI l id).1 pool) id).bind _)=_
   have hp:QyS l s (QL5 l (mTI l id).1 pool)=0:=QMr _ h0
   rw[QKI hl hs,Option.bind_some]
   unfold mAdd
   rw[if_pos hp]
   by_cases h2:(QKh l s (QL5 l (mTI l id).1 pool) id).2=0
   ·rw[if_pos h2]
    simp only[h2,decide_true,Bool.not_true,cond_false];rfl
   ·rw[if_neg h2]
    simp only[h2,decide_false,Bool.not_false,cond_true]
  ·rw[if_neg h1,if_neg h1]
 ·rw[if_neg h0,if_neg h0,decide_eq_false h0];rfl
theorem QMk {l:TL} (hl:bL' l) {s:TState} (hs:bS s) (pool:List Int) (id:Int):QLW l s pool id=some (mFav l s pool id):=by
 have hB:BIG=4611686018427387904:=rfl
 unfold QLW QLZ mFav
 rw[Qqi hl hs,Option.bind_some,QgC]
 by_cases h0:QyS l s pool=0
 ·have ho:=QHZ h0
  have hn:=ho.hn
  have hlen:=QHY l pool
  rw[if_pos h0,if_pos h0,QpR (QAH ho.hl),Option.bind_some,QgC]
  by_cases h1:(mTI l id).2=0
  ·have ht:=Qbj (Qta h1)
   rw[if_pos h1,if_pos h1,QFt (QAH ho.hl) pool (by omega),Option.bind_some]
   rw[ZU (σ:=List Int×List Int) pool (fun t x=>if JH (mTI l x).1 (mTI l id).1 then (t.1,t.2++[x]) else (t.1++[x],t.2)) (fun t i=>(t.1,(t.2,(QaX l pool,i)))) (fun t=>t) (fun t i=>t.1.length<=i/\t.2.length<=i) _ (fun i hi x hx=>by
     have hi2:i<(QaX l pool).length:=by omega
     have e:(QaX l pool)[i]=(mTI l pool[i]).1:=by
      show (pool.map fun i=>(mTI l i).1)[i]'(by rw[List.length_map];exact hi)=_
      exact List.getElem_map _
     refine⟨?_,by split<;>(simp only[List.length_append,List.length_cons,List.length_nil];omega)⟩
     have hok:=(QEB ho.ht _ (List.getElem_mem hi2)).b.ins
     rw[e] at hok
     have ej:(bif decide (pool[i]=id) then some true else (some (JH (mTI l pool[i]).1 (mTI l id).1):Option Bool))=some (JH (mTI l pool[i]).1 (mTI l id).1):=by
      by_cases hid:pool[i]=id
      ·rw[decide_eq_true hid,hid,QC7 ht];rfl
      ·rw[decide_eq_false hid];rfl
     simp only[dlt hi2,Qg _ i hi2,Qf _ i _ hi2,e,Qg _ i hi,Qf _ i _ hi,cond_true,Qy0 hok ht.b.ins,ej,Option.bind_some,wsucc hi (by omega)]
     rw[QM (by simp only[List.length_cons,List.length_nil];unfold LIM;omega),QM (by simp only[List.length_cons,List.length_nil];unfold LIM;omega)]
     cases JH (mTI l pool[i]).1 (mTI l id).1<;>rfl) (fun t ht=>by rw[<-hlen];simp only[dge,cond_false]) ([],[]) ⟨Nat.le_refl _,Nat.le_refl _⟩,Option.bind_some,QL6,List.nil_append,List.nil_append]
   have hll:=QMn (fun i=>!JH (mTI l i).1 (mTI l id).1) pool
   have ha:=QKm ho.hl ho.hs (pool:=QL5 l (mTI l id).1 pool) (QMq ho.ht _) (by unfold QL5;omega) id
   show (((QId l s (QL5 l (mTI l id).1 pool) id).bind _).bind _)=_
   rw[ha,Option.bind_some,QgC]
   by_cases h2:(QKh l s (QL5 l (mTI l id).1 pool) id).2=0
   ·rw[if_pos h2,if_pos h2];rfl
   ·rw[if_neg h2,if_neg h2];rfl
  ·rw[if_neg h1,if_neg h1];rfl
 ·rw[if_neg h0,if_neg h0]
theorem QKM (l:TL) (s:TState) (pool:List Int) (id:Int):(QKh l s pool id).1.length<=8:=by
 unfold QKh
 split
 ·split
  ·simp
  ·simp;omega
 ·simp
theorem QMs (l:TL) (s:TState) (pool:List Int) (id:Int):(mFav l s pool id).2.1.length<=100/\(mFav l s pool id).2.2.length<=100:=by
 unfold mFav
 have h1:=QKM l s (QL5 l (mTI l id).1 pool) id
 split
 ·rename_i h
  have hn:=(QHZ h).hn
  have h2:=QMn (fun i=>JH (mTI l i).1 (mTI l id).1) pool
  split
  ·split
   ·exact⟨by show (QMo l (mTI l id).1 pool).length<=100;unfold QMo;omega,by show (QKh l s (QL5 l (mTI l id).1 pool) id).1.length<=100;omega⟩
   ·simp
  ·simp
 ·simp
theorem QMf (x0:TL) (x1:TState) (x2:List Int) (x3:Int) (h0:bL (bL bAny) x0.1/\bL bAny x0.2) (h1:Qss x1) (h2:bL bAny x2):QLY x0 x1 x2 x3=some true:=by
 have hB:BIG=4611686018427387904:=rfl
 unfold QLY
 by_cases hx:(1048576:Int)<(x2.length:Int)
 ·rw[decide_eq_true hx];rfl
 rw[decide_eq_false hx,cond_false,QrL x0 h0 1048576 (by omega) (by omega),Option.bind_some]
 by_cases hc:szr (QjC x0.1+x0.2.length) 1048576<0
 ·rw[decide_eq_true hc];rfl
 rw[decide_eq_false hc,cond_false]
 have hz:=QsW (a:=QjC x0.1+x0.2.length) (left:=1048576) (by omega)
 rw[Qu6 x1 h1 _ (by omega) (by omega),Option.bind_some]
 by_cases hd:szr (Qgs x1) (szr (QjC x0.1+x0.2.length) 1048576)<0
 ·rw[decide_eq_true hd];rfl
 rw[decide_eq_false hd,cond_false]
 have hz2:=QsW (a:=Qgs x1) (left:=szr (QjC x0.1+x0.2.length) 1048576) (by omega)
 have ht:Qgs x1<=1048576:=by omega
 have hts:x0.1.length<=QjC x0.1:=Nat.le_add_right _ _
 have htc:Qgs x1=QhU x1.2.2.1+x1.2.2.2.length:=rfl
 have htc2:QhU x1.2.2.1=x1.2.2.1.length+(x1.2.2.1.map Qba).sum:=rfl
 have hl:bL' x0:=⟨by omega,by omega⟩
 have hs:bS x1:=⟨by omega,fun y hy=>by
  have:=Qz6 Qba x1.2.2.1 y hy
  show Qba y<BIG
  omega,by omega⟩
 rw[Qsy x0 (by omega) (by omega),QvP x1 ht,Qj9 x2 (by omega)]
 obtain⟨l1,l2⟩:=QMs x0 x1 x2 x3
 have eq:=QKn _ l1 l2
 obtain⟨k,m,hk,m1,m2⟩:=QKl _ l1 l2
 obtain⟨a,b,c,e1,e2,e3,e4⟩:=QKo (x0:=x0) (x1:=x1) (x2:=x2) (by omega) (by omega) ht (by omega)
 simp only[Option.bind_some,QMh hl hs,QMk hl hs,QsN x0 x0 h0,QtW x1 x1 h1,QkL x2 x2 h2,decide_true,Bool.not_true,cond_false,eq,e1,e2,e3,m1,m2,QJz e4,QJz hk]
end GL
end Go.Dx
