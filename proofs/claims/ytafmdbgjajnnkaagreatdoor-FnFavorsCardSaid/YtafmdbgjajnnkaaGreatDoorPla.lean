/- The plain law: no program in sight -/
import Derived.Test.YtafmdbgjajnnkaaGreatDoorSca
set_option linter.unusedVariables false
set_option linter.unusedSimpArgs false
set_option maxHeartbeats 1000000
namespace Go.Dx
namespace GL
abbrev TCoin:=(Int×Int)×(Int×List Int×Int×Int)×Int×Bool
abbrev TM:=Int×Int×Int
abbrev TState:=Int×Int×List TCoin×List TM
end GL
end Go.Dx
set_option maxHeartbeats 1000000
namespace Go.Dx
namespace GL
end GL
end Go.Dx
set_option maxHeartbeats 2000000
namespace Go.Dx
namespace GL
set_option synthInstance.maxSize 1000
set_option synthInstance.maxHeartbeats 400000
theorem beqB (a b:Bool):Sh.beq .bool a b=decide (a=b):=rfl
end GL
end Go.Dx
set_option maxHeartbeats 2000000
namespace Go.Dx
namespace GL
def mIn (v lo hi:Int):Bool:=decide (lo<=v)&&decide (v<=hi)
theorem Zp (v lo hi:Int):QZ v lo hi=some (mIn v lo hi):=by
 unfold QZ mIn
 cases decide (lo<=v)<;>rfl
theorem ZR (v lo hi:Int):Q4 v lo hi=some (mIn v lo hi):=by
 unfold Q4 mIn
 cases decide (lo<=v)<;>rfl
theorem Qdk (v:Int):JN v=some (mIn v 1 999):=by unfold JN;rw[Zp];rfl
theorem QhY (v:Int):QbY v=some (mIn v 1 999):=by unfold QbY;rw[ZR];rfl
theorem Qsi (v:Int):QgB v=some (mIn v 1 60):=by unfold QgB;rw[ZR];rfl
def mRef (r:Int×Int):Bool:=mIn r.1 1 60&&mIn r.2 0 3
theorem Qkp (r:Int×Int):QbR r=some (mRef r):=by
 unfold QbR mRef;rw[Qsi,ZR];cases mIn r.1 1 60<;>rfl
theorem QhX (r:Int×Int):Qdv r=some (mRef r):=by
 unfold Qdv mRef;rw[Zp,Zp];cases mIn r.1 1 60<;>rfl
theorem Qt7 (l:List Int) (hl:l.length<BIG) (p:Int->Bool) (f:Int->Option Bool) (hf:∀a,a ∈ l->f a=some (p a)):Ye l f=some (idxF p l):=by
 unfold Ye
 refine QcM l p _ (fun i h=>?_) (by simp only[dge,aLC])
 simp only[dlt h,Qh l i h,Qg l i _ h,aLB,hf _ (aLl h),aLc,wsucc h hl]
 cases p l[i]<;>rfl
theorem Qqp (l:List Int) (hl:l.length<BIG) (p:Int->Bool) (f:Int->Option Bool) (hf:∀a,a ∈ l->f a=some (p a)):ZP l f=some (l.any p):=by
 unfold ZP
 rw[Qt7 l hl p f hf,aLc,ZZ]
theorem QuX (l:List Int) (hl:l.length<BIG):Qgf l=some (l.all fun k=>mIn k 1 999):=by
 unfold Qgf
 rw[Qqp l hl (fun k=>!mIn k 1 999) _ (fun a _=>by unfold Qgo;rw[QhY];rfl),aLc]
 rw[List.all_eq_not_any_not]
def QjZ (l:List Int):Bool:=(List.range (l.length - 1)).all fun i=>decide (List.getD l i 0<List.getD l (i+1) 0)
theorem Qr2 {β:Type} (l:List Int) (hl:l.length<BIG) (r:β) (f:Int->Option (Int⊕(Unit⊕β)))
  (hs:∀(i:Nat),i+1<l.length->f ((i+1:Nat):Int)=some (if List.getD l (i+1) 0<=List.getD l i 0 then .inr (.inr r) else .inl ((i+2:Nat):Int))) (he:∀n:Nat,l.length<=n->f (n:Int)=some (.inr (.inl ()))) :
  Qf f 1=some (if QjZ l then .inl () else .inr r):=by
 have key:∀(k i:Nat),i+k=l.length - 1->Qf f ((i+1:Nat):Int)=some (if (List.range' i k).all (fun i=>decide (List.getD l i 0<List.getD l (i+1) 0)) then .inl () else .inr r):=by
  intro k
  induction k with
  | zero=>intro i hi;rw[QB (he _ (by omega))];simp
  | succ k ih=>
   intro i hi
   have hs:=hs i (by omega)
   rw[List.range'_succ,List.all_cons]
   by_cases hc:List.getD l (i+1) 0<=List.getD l i 0
   ·rw[if_pos hc] at hs
    rw[QB hs,aLD (p:=List.getD l i 0<List.getD l (i+1) 0) (by omega)];rfl
   ·rw[if_neg hc] at hs
    rw[Q2 hs,ih (i+1) (by omega),aLE (p:=List.getD l i 0<List.getD l (i+1) 0) (by omega),Bool.true_and]
 have:=key (l.length - 1) 0 (by omega)
 rw[<-List.range_eq_range'] at this
 exact this
theorem Qsr (l:List Int) (hl:l.length<BIG) (i:Nat) (h:i+1<l.length):decide (((i+1:Nat):Int)<(l.length:Int))=true/\inB ((i+1:Nat):Int) l=true/\inB (IntKind.wrap .i64 (((i+1:Nat):Int) - 1)) l=true/\
  List.getD l (Int.toNat ((i+1:Nat):Int)) 0=List.getD l (i+1) 0/\List.getD l (Int.toNat (IntKind.wrap .i64 (((i+1:Nat):Int) - 1))) 0=List.getD l i 0/\IntKind.wrap .i64 (((i+1:Nat):Int)+1)=((i+2:Nat):Int):=by
 rw[wpred (i:=i) (n:=l.length) (by omega) hl]
 exact⟨dlt h,Qh l _ h,Qh l _ (by omega),by simp,by simp,wsucc h hl⟩
theorem dge' {i n:Nat} (h:n<=i):decide ((i:Int)<(n:Int))=false:=by simp;omega
theorem QtU (l:List Int) (hl:l.length<BIG):Qfb l=some (QjZ l):=by
 unfold Qfb
 rw[Qr2 l hl false _ (fun i h=>by
  obtain⟨h1,h2,h3,h4,h5,h6⟩:=Qsr l hl i h
  simp only[h1,h2,h3,h4,h5,h6,aLB]
  by_cases hc:List.getD l (i+1) 0<=List.getD l i 0
  ·rw[if_pos hc,aLE hc];rfl
  ·rw[if_neg hc,aLD hc];rfl) (fun n hn=>by simp only[dge' hn,aLC]),aLc]
 cases QjZ l<;>rfl
theorem QBs {β:Type} (l:List Int) (hl:l.length<BIG) (r:β) (f:Int->Option (Int⊕(Unit⊕β)))
  (hs:∀(i:Nat) (h:i<l.length),f (i:Int)=some (if mIn l[i] 1 999 then .inl ((i+1:Nat):Int) else .inr (.inr r))) (he:f (l.length:Int)=some (.inr (.inl ()))) :
  Qf f 0=some (if (l.all fun k=>mIn k 1 999) then .inl () else .inr r):=by
 rw[Qcl l (fun _ a=>if !mIn a 1 999 then some r else none) f (fun i h=>by rw[hs i h];cases mIn l[i] 1 999<;>rfl) he,Qlm,List.all_eq_not_any_not]
 cases l.any fun x=>!mIn x 1 999<;>rfl
end GL
end Go.Dx
set_option maxHeartbeats 2000000
namespace Go.Dx
namespace GL
abbrev TRu:=List Int×Int×Int
abbrev TOut:=Int×List Int×Int×Int
def Zu (r:TRu):Int:=if mIn (r.1.length:Int) 1 3 then (if (r.1.all fun k=>mIn k 1 999)&&mIn r.2.1 1 (r.1.length:Int)&&mIn r.2.2 0 999 then (if QjZ r.1 then 0 else 1) else 3) else 2
theorem Qfa (n:Int):JE n=some (mIn n 0 999):=by unfold JE;rw[ZR];rfl
theorem QcI (n:Int):Jt n=some (mIn n 0 999):=by unfold Jt;rw[Zp];rfl
theorem Qg7 (r:TRu) (hl:r.1.length<BIG):Qak r=some (Zu r):=by
 unfold Qak Zu
 simp only[ZR,QuX _ hl,QtU _ hl,Qfa,aLc]
 cases mIn (r.1.length:Int) 1 3<;>cases (r.1.all fun k=>mIn k 1 999)<;>cases mIn r.2.1 1 (r.1.length:Int)<;>cases mIn r.2.2 0 999<;>cases QjZ r.1<;>rfl
theorem QiG (r:TRu) (hl:r.1.length<BIG):QbG r=some (Zu r):=by
 unfold QbG Zu
 simp only[Zp,QcI,aLc]
 rw[QBs r.1 hl 3 _ (fun i h=>by
  simp only[dlt h,Qh r.1 i h,Qg r.1 i _ h,aLB,Qdk,aLc,wsucc h hl]
  cases mIn r.1[i] 1 999<;>rfl) (by simp only[dge,aLC]),aLc]
 cases mIn (r.1.length:Int) 1 3 with
 | false=>rfl
 | true=>
  cases (r.1.all fun k=>mIn k 1 999) with
  | false=>rfl
  | true=>
   simp only[Bool.not_true,aLC,if_true,Sum.elim_inl]
   rw[Qr2 r.1 hl 1 _ (fun i h=>by
    obtain⟨h1,h2,h3,h4,h5,h6⟩:=Qsr r.1 hl i h
    simp only[h1,h2,h3,h4,h5,h6,aLB]
    by_cases hc:List.getD r.1 (i+1) 0<=List.getD r.1 i 0
    ·rw[if_pos hc,aLE hc];rfl
    ·rw[if_neg hc,aLD hc];rfl) (fun n hn=>by simp only[dge' hn,aLC]),aLc]
   cases mIn r.2.1 1 (r.1.length:Int)<;>cases mIn r.2.2 0 999<;>cases QjZ r.1<;>rfl
def mOut (o:TOut):Int:=if mIn o.1 1 1000000 then Zu o.2 else 3
theorem Qks (o:TOut) (hl:o.2.1.length<BIG):QfG o=some (mOut o):=by
 unfold QfG mOut
 rw[Zp,aLc,QiG _ hl]
 cases mIn o.1 1 1000000<;>rfl
def ZE (a b:Int×Int):Bool:=if a.1=b.1 then decide (a.2<b.2) else decide (a.1<b.1)
theorem Qm0 (a b:Int×Int):QdG a b=some (ZE a b):=by
 unfold QdG ZE
 by_cases h:a.1=b.1<;>simp[h]
def mCmp (a b:Int):Int:=if a<b then -1 else if b<a then 1 else 0
theorem Qjo (a b:Int):YT a b=some (mCmp a b):=by
 unfold YT Qc0 mCmp
 by_cases h1:a<b
 ·simp[h1]
 ·by_cases h2:b<a<;>simp[h1,h2]
theorem QCp (a b:Int):Qh8 [a,b]=some (if a=0 then b else a):=by
 unfold Qh8
 by_cases ha:a=0
 ·subst ha
  rw[Q2 (s':=(1:Int)) rfl]
  by_cases hb:b=0
  ·subst hb
   rw[Q2 (s':=(2:Int)) rfl,QB (x:=Sum.inl ()) rfl];rfl
  ·rw[QB (x:=Sum.inr b) (by
    show (bif !decide (b=0) then some (Sum.inr (Sum.inr b)) else _)=_
    rw[aLD hb];rfl)]
   rfl
 ·rw[QB (x:=Sum.inr a) (by
   show (bif !decide (a=0) then some (Sum.inr (Sum.inr a)) else _)=_
   rw[aLD ha];rfl),if_neg ha]
  rfl
def Qif (a b:Int×Int):Int:=if mCmp a.1 b.1=0 then mCmp a.2 b.2 else mCmp a.1 b.1
theorem Qfy (a b:Int×Int):Jn a b=some (Qif a b):=by
 unfold Jn Qif
 rw[Qjo,Qjo,aLc,aLc,QCp];rfl
theorem Qtj (a b:Int×Int):decide (0<=Qif a b) = !ZE a b:=by
 unfold Qif ZE mCmp
 by_cases h1:a.1<b.1
 ·have h3:¬a.1=b.1:=by omega
  simp[h1,h3]
 ·by_cases h2:b.1<a.1
  ·have h3:¬a.1=b.1:=by omega
   simp[h1,h2,h3]
  ·have h3:a.1=b.1:=by omega
   simp only[h1,h2,if_false,if_true,h3,Int.lt_irrefl]
   by_cases h4:a.2<b.2
   ·simp[h4]
   ·by_cases h5:b.2<a.2<;>simp[h4,h5]
def dC:TCoin:=((0,0),((0,([],(0,0))),(0,false)))
def Qod (l:List TCoin) (i:Nat) (x:TCoin):Int:=if mRef x.1&&mIn x.2.2.1 0 999 then (if mOut x.2.1=0 then (if decide (0<i)&&!ZE (List.getD l (i - 1) dC).1 x.1 then 1 else 0) else mOut x.2.1) else 3
def YY (l:List TCoin):Int:=if (40:Int)<(l.length:Int) then 2 else code (Qod l) l
theorem QzZ (l:List TCoin) (hl:l.length<BIG) (i:Nat) (h:i<l.length) (h0:0<i):inB (IntKind.wrap .i64 ((i:Int) - 1)) l=true/\List.getD l (Int.toNat (IntKind.wrap .i64 ((i:Int) - 1))) dC=List.getD l (i - 1) dC:=by
 obtain⟨j,rfl⟩:∃j,i=j+1:=⟨i - 1,by omega⟩
 rw[wpred (i:=j) (n:=l.length) (by omega) hl]
 exact⟨Qh l j (by omega),by simp⟩
theorem QbE (l:List TCoin) (hl:l.length<BIG) (hk:∀x,x ∈ l->x.2.1.2.1.length<BIG):Qai l=some (YY l):=by
 unfold Qai YY
 by_cases h40:(40:Int)<(l.length:Int)
 ·rw[aLE h40,if_pos h40];rfl
 ·rw[aLD h40,if_neg h40,aLC]
  refine Qht l (Qod l) _ (fun i h=>?_) (by simp only[dge,aLC])
  have hx:=hk _ (aLl h)
  simp only[dlt h,Qh l i h,Qg l i _ h,aLB,wsucc h hl,QhX,QcI,Qks _ hx,Qm0,aLc]
  unfold Qod
  cases h1:mRef l[i].1<;>cases h2:mIn l[i].2.2.1 0 999<;>try rfl
  simp only[Bool.not_true,aLC,aLc,Bool.true_and,if_true]
  by_cases h3:mOut l[i].2.1=0
  ·rw[aLE h3]
   simp only[h3,Bool.not_true,aLC,if_true]
   by_cases h4:0<i
   ·obtain⟨e1,e2⟩:=QzZ l hl i h h4
    rw[show decide ((0:Int)<(i:Int))=true by simpa using h4,aLE h4,aLB,e1,aLB]
    show (Option.bind (some (!ZE (List.getD l (Int.toNat (IntKind.wrap .i64 ((i:Int) - 1))) dC).1 l[i].1)) _)=_
    rw[e2]
    cases ZE (List.getD l (i - 1) dC).1 l[i].1<;>rfl
   ·rw[show decide ((0:Int)<(i:Int))=false by simpa using h4,aLD h4];rfl
  ·rw[aLD h3];simp[h3]
theorem QrR (l:List TCoin) (hl:l.length<BIG) (hk:∀x,x ∈ l->x.2.1.2.1.length<BIG):Qc3 l=some (YY l):=by
 unfold Qc3 YY
 by_cases h40:(40:Int)<(l.length:Int)
 ·rw[aLE h40,if_pos h40];rfl
 ·rw[aLD h40,if_neg h40,aLC]
  refine Qht l (Qod l) _ (fun i h=>?_) (by simp only[dge,aLC])
  have hx:=hk _ (aLl h)
  simp only[dlt h,Qh l i h,Qg l i _ h,aLB,wsucc h hl,Qkp,Qfa,ZR,Qg7 _ hx,Qfy,aLc]
  unfold Qod mOut
  cases h1:mRef l[i].1<;>cases h2:mIn l[i].2.2.1 0 999<;>try rfl
  cases h5:mIn l[i].2.1.1 1 1000000<;>try rfl
  simp only[Bool.not_true,aLC,aLc,Bool.true_and,if_true]
  by_cases h3:Zu l[i].2.1.2=0
  ·rw[aLE h3]
   simp only[h3,Bool.not_true,aLC,if_true]
   by_cases h4:0<i
   ·obtain⟨e1,e2⟩:=QzZ l hl i h h4
    rw[show decide ((0:Int)<(i:Int))=true by simpa using h4,aLE h4,aLB,e1,aLB]
    show (Option.bind (some (decide (0<=Qif (List.getD l (Int.toNat (IntKind.wrap .i64 ((i:Int) - 1))) dC).1 l[i].1))) _)=_
    rw[e2,Qtj]
    cases ZE (List.getD l (i - 1) dC).1 l[i].1<;>rfl
   ·rw[show decide ((0:Int)<(i:Int))=false by simpa using h4,aLD h4];rfl
  ·rw[aLD h3];simp[h3]
end GL
end Go.Dx
set_option maxHeartbeats 2000000
namespace Go.Dx
namespace GL
theorem Qz {α:Type} {n:Nat} {x:Option α} (h:n<=LIM):(bif decide (n<=LIM) then x else none)=x:=by rw[aLE h];rfl
theorem Qd1 {n:Int} (h0:0<=n) (h1:n<=9223372036854775807):JH n=some (Lib.itoa n):=by
 unfold JH QeW
 rw[QDC n (by omega) h1];rfl
theorem Yk {n:Int} (h0:0<=n) (h1:n<=9223372036854775807):QL n=some (Lib.itoa n):=QDQ h0 h1
theorem ZA {v a b:Int}:mIn v a b=true↔a<=v/\v<=b:=by simp[mIn]
structure okR (r:TRu):Prop where
 len:1<=r.1.length/\r.1.length<=3
 keys:∀k,k ∈ r.1->1<=k/\k<=999
 need:1<=r.2.1/\r.2.1<=3
 after:0<=r.2.2/\r.2.2<=999
theorem JD {r:TRu} (h:Zu r=0):okR r:=by
 unfold Zu at h
 cases h1:mIn (r.1.length:Int) 1 3 with
 | false=>rw[h1] at h;simp at h
 | true=>
  rw[h1,if_pos rfl] at h
  cases h2:(r.1.all fun k=>mIn k 1 999) with
  | false=>rw[h2] at h;simp at h
  | true=>
   cases h3:mIn r.2.1 1 (r.1.length:Int) with
   | false=>rw[h3] at h;simp at h
   | true=>
    cases h4:mIn r.2.2 0 999 with
    | false=>rw[h4] at h;simp at h
    | true=>
     rw[ZA] at h1 h3 h4
     rw[List.all_eq_true] at h2
     exact⟨by omega,fun k hk=>ZA.1 (h2 k hk),by omega,h4⟩
theorem Zh {n:Int} (h0:0<=n) (h1:n<=1000000):(Lib.itoa n).length<=19:=QsI h0 (by omega)
def Qa1 (l:List Int) (sep:List UInt8):List UInt8:=Lib.join (l.map Lib.itoa) sep
theorem QEg (l:List Int) (h:∀k,k ∈ l->0<=k/\k<=1000000):Lib.lens (l.map Lib.itoa)<=19 * l.length:=by
 induction l with
 | nil=>simp[Lib.lens]
 | cons a l ih=>
  have h1:=ih fun k hk=>h k (aLp _ hk)
  have h2:=Zh (h a aLm).1 (h a aLm).2
  simp only[Lib.lens,List.map_cons,List.map_map,List.sum_cons,aLh] at h1 ⊢
  omega
theorem QiK (l:List Int) (sep:List UInt8) (h:∀k,k ∈ l->0<=k/\k<=1000000):(Qa1 l sep).length<=(19+sep.length) * l.length:=by
 unfold Qa1
 cases l with
 | nil=>simp[Lib.join_nil]
 | cons a l=>
  have:=QEg (a::l) h
  rw[List.map_cons,Lib.join_length,List.length_map]
  rw[List.map_cons] at this
  have e:(19+sep.length) * (a::l).length=19 * (a::l).length+(sep.length * l.length+sep.length):=by
   rw[Nat.add_mul,aLh,Nat.mul_succ sep.length]
  omega
theorem Qxf (l:List Int) (sep:List UInt8) (hl:l.length<=100000) (hs:sep.length<=100) (h:∀k,k ∈ l->0<=k/\k<=1000000):QgR l sep=some (Qa1 l sep):=by
 unfold QgR
 rw[Yh (σ:=List (List UInt8)) l (fun acc a=>acc++[Lib.itoa a]) (fun t i=>(t,i)) (fun t=>t) (fun t i=>t.length=i) _ (fun i hi t ht=>by
   obtain⟨k0,k1⟩:=h _ (aLl hi)
   refine⟨?_,by simp[ht]⟩
   simp only[dlt hi,Qh l i hi,Qg l i _ hi,aLB,Qd1 k0 (by omega),aLc,wsucc hi (by unfold BIG;omega)]
   rw[Qz (by simp only[aLh,aLj];unfold LIM;omega)];rfl) (fun t ht=>by simp only[dge,aLC]) [] rfl,aLc,foldl_map,aLx]
 have h1:=QiK l sep h
 have h2:(19+sep.length) * l.length<=119 * 100000:=Nat.mul_le_mul (by omega) hl
 unfold YF
 rw[Qs9 _ _ (by rw[List.length_map];omega) (by unfold Qa1 at h1;omega)];rfl
def Qv (r:TRu) (b:List UInt8):List UInt8:=Lib.itoa r.2.1++b++[111,102]++b++Qa1 r.1 [44]++(if r.2.2=0 then [] else b++[97,102,116,101,114]++b++Lib.itoa r.2.2)
theorem Qr9 {r:TRu} (h:okR r) (b:List UInt8) (hb:b.length<=1):(Qv r b).length<=120:=by
 have h1:=QiK r.1 [44] fun k hk=>by have:=h.keys k hk;omega
 have h2:=Zh (n:=r.2.1) (by have:=h.need;omega) (by have:=h.need;omega)
 have h3:=Zh (n:=r.2.2) (by have:=h.after;omega) (by have:=h.after;omega)
 have h4:=h.len
 simp only[aLh,aLj] at h1
 unfold Qv
 split<;>simp only[aLi,aLh,aLj]<;>omega
theorem QkX {r:TRu} (h:okR r) (b:List UInt8) (hb:b.length<=1):Qcr r b=some (Qv r b):=by
 have h1:=QiK r.1 [44] fun k hk=>by have:=h.keys k hk;omega
 have h2:=Zh (n:=r.2.1) (by have:=h.need;omega) (by have:=h.need;omega)
 have h3:=Zh (n:=r.2.2) (by have:=h.after;omega) (by have:=h.after;omega)
 have h4:=h.len
 simp only[aLh,aLj] at h1
 unfold Qcr Qv
 rw[Qd1 (n:=r.2.1) (by have:=h.need;omega) (by have:=h.need;omega),aLc,Qxf r.1 [44] (by omega) (by simp) fun k hk=>by have:=h.keys k hk;omega]
 simp only[aLc,aLo]
 rw[Qd1 (n:=r.2.2) (by have:=h.after;omega) (by have:=h.after;omega)]
 simp only[aLc]
 rw[Qz,Qz,Qz,Qz]
 ·by_cases ha:r.2.2=0
  ·rw[aLE ha,if_pos ha];simp
  ·rw[aLD ha,if_neg ha,Bool.not_false,aLB,Qz,Qz,Qz,Qz]
   ·rfl
   all_goals ((try simp only[aLi,aLh,aLj]);unfold LIM;omega)
 all_goals ((try simp only[aLi,aLh,aLj]);unfold LIM;omega)
theorem Qs5 {α:Type} (l:List α) (g:α->List UInt8) (f:List UInt8×Int->Option ((List UInt8×Int)⊕List UInt8)) (B:Nat->Nat)
  (hs:∀(i:Nat) (h:i<l.length) (acc:List UInt8),acc.length<=B i->f (acc,(i:Int))=some (.inl (acc++g l[i],((i+1:Nat):Int)))/\(acc++g l[i]).length<=B (i+1))
  (he:∀acc,f (acc,(l.length:Int))=some (.inr acc)):∀(k i:Nat) (acc:List UInt8),i+k=l.length->acc.length<=B i->Qf f (acc,(i:Int))=some (acc++((l.drop i).map g).flatten)
 | 0,i,acc,hi,_=>by
  obtain rfl:i=l.length:=by omega
  rw[QB (he acc)];simp
 | k+1,i,acc,hi,ha=>by
  have h1:i<l.length:=by omega
  obtain⟨hs1,hs2⟩:=hs i h1 acc ha
  rw[Q2 hs1,Qs5 l g f B hs he k (i+1) _ (by omega) hs2,aLr h1,List.map_cons,List.flatten_cons,List.append_assoc]
theorem QoW {r:TRu} (h:okR r):Qei r=some (Qv r [32]):=by
 have h2:=Zh (n:=r.2.1) (by have:=h.need;omega) (by have:=h.need;omega)
 have h3:=Zh (n:=r.2.2) (by have:=h.after;omega) (by have:=h.after;omega)
 obtain⟨⟨k0,r1⟩,hr⟩:∃p:Int×List Int,r.1=p.1::p.2:=by
  have:=h.len
  match hq:r.1 with
  | []=>rw[hq] at this;simp at this
  | a::l=>exact⟨(a,l),rfl⟩
 have hr:r.1=k0::r1:=hr
 have hlen:=h.len
 have hk:=h.keys
 rw[hr] at hlen hk
 have hk0:=hk k0 aLm
 have h5:=Zh (n:=k0) (by omega) (by omega)
 unfold Qei Qv
 rw[hr]
 rw[Yk (n:=r.2.1) (by have:=h.need;omega) (by have:=h.need;omega),aLc]
 rw[show inB 0 (k0::r1)=true from Qh _ 0 (by simp),show List.getD (k0::r1) (Int.toNat 0) 0=k0 from rfl,aLB,Yk (n:=k0) (by omega) (by omega),aLc]
 simp only[aLo]
 rw[Qz,Qz]
 ·have:=Qs5 (k0::r1) (fun k=>44::Lib.itoa k) (fun (s15:List UInt8×Int)=>
 bif (decide ((s15.2:Int)<(List.length (k0::r1):Int))) then
 bif decide (List.length s15.1+List.length [44]<=LIM) then
 bif (inB s15.2 (k0::r1)) then
 (QL (List.getD (k0::r1) (Int.toNat s15.2) 0)).bind fun (y16:List UInt8)=>
 bif decide (List.length (s15.1++[44])+List.length y16<=LIM) then
 some (Sum.inl (s15.1++[44]++y16,IntKind.wrap .i64 (s15.2+1)))
 else none
 else none
 else none
 else
 some (Sum.inr s15.1)) (fun i=>100+20 * i) (fun i hi acc ha=>by
    have hki:=hk _ (aLl hi)
    have hli:=Zh (n:=(k0::r1)[i]) (by omega) (by omega)
    refine⟨?_,by simp only[aLi,aLh];omega⟩
    have hi3:i<3:=by omega
    simp only[dlt hi,Qh _ i hi,Qg _ i _ hi,aLB,Yk (n:=(k0::r1)[i]) (by omega) (by omega),aLc,wsucc hi (by unfold BIG;omega)]
    rw[Qz,Qz]
    ·simp
    all_goals ((try simp only[aLi,aLh,aLj]);unfold LIM;omega)) (fun acc=>by simp only[dge,aLC]) r1.length 1 (Lib.itoa r.2.1++[32,111,102,32]++Lib.itoa k0) (by simp;omega) (by simp only[aLi,aLh,aLj];omega)
  rw[show ((1:Nat):Int)=1 from rfl] at this
  rw[this,aLc,List.drop_succ_cons,List.drop_zero]
  have e1:Lib.itoa r.2.1++[32,111,102,32]++Lib.itoa k0++(r1.map fun k=>44::Lib.itoa k).flatten=Lib.itoa r.2.1++[32]++[111,102]++[32]++Qa1 (k0::r1) [44]:=by
   unfold Qa1
   rw[List.map_cons,Lib.join_cons,Lib.joinTail,List.map_map]
   simp[Function.comp_def]
  rw[e1]
  have h1:=QiK (k0::r1) [44] fun k hk'=>by have:=hk k hk';omega
  simp only[aLh,aLj] at h1 hlen
  by_cases ha:r.2.2=0
  ·rw[aLE ha,if_pos ha];simp
  ·rw[aLD ha,if_neg ha,Bool.not_false,aLB,Yk (n:=r.2.2) (by have:=h.after;omega) (by have:=h.after;omega),aLc,Qz,Qz]
   ·simp
   all_goals ((try simp only[aLi,aLh,aLj]);unfold LIM;omega)
 all_goals ((try simp only[aLi,aLh,aLj]);unfold LIM;omega)
end GL
end Go.Dx
set_option maxHeartbeats 2000000
namespace Go.Dx
namespace GL
structure okC (x:TCoin):Prop where
 tx:1<=x.1.1/\x.1.1<=60
 at_:0<=x.1.2/\x.1.2<=3
 val:1<=x.2.1.1/\x.2.1.1<=1000000
 rule:Zu x.2.1.2=0
 height:0<=x.2.2.1/\x.2.2.1<=999
theorem Qkj {l:List TCoin} (h:YY l=0):l.length<=40/\∀x,x ∈ l->okC x:=by
 unfold YY at h
 by_cases h40:(40:Int)<(l.length:Int)
 ·rw[if_pos h40] at h;cases h
 ·rw[if_neg h40] at h
  refine⟨by omega,fun x hx=>?_⟩
  obtain⟨i,hi,rfl⟩:=List.mem_iff_getElem.1 hx
  have hc:=QdW h i l[i] (aLf hi)
  unfold Qod at hc
  cases h1:mRef l[i].1 with
  | false=>rw[h1] at hc;simp at hc
  | true=>
   cases h2:mIn l[i].2.2.1 0 999 with
   | false=>rw[h2] at hc;simp at hc
   | true=>
    rw[h1,h2] at hc
    by_cases h3:mOut l[i].2.1=0
    ·unfold mRef at h1
     rw[aLg,ZA,ZA] at h1
     unfold mOut at h3
     cases h4:mIn l[i].2.1.1 1 1000000 with
     | false=>rw[h4] at h3;simp at h3
     | true=>
      rw[h4,if_pos rfl] at h3
      exact⟨h1.1,h1.2,ZA.1 h4,h3,ZA.1 h2⟩
    ·simp[h3] at hc
end GL
end Go.Dx
set_option maxHeartbeats 2000000
namespace Go.Dx
namespace GL
def cuts (c:UInt8):List UInt8->List (List UInt8)
 | []=>[[]]
 | b::l=>if b=c then []::cuts c l else match cuts c l with | []=>[[b]] | w::ws=>(b::w)::ws
def glue (p:List UInt8):List (List UInt8)->List (List UInt8)
 | []=>[p]
 | w::ws=>(p++w)::ws
theorem Qhi (c:UInt8):∀l,cuts c l ≠ []
 | []=>by simp[cuts]
 | b::l=>by
  unfold cuts
  split
  ·simp
  ·split<;>simp
theorem Qxx {ws:List (List UInt8)} (h:ws ≠ []):glue [] ws=ws:=by
 cases ws with
 | nil=>exact absurd rfl h
 | cons w ws=>rfl
theorem QdY (c b:UInt8) (l:List UInt8):cuts c (b::l)=if b=c then []::cuts c l else glue [b] (cuts c l):=by
 rw[cuts]
 split
 ·rfl
 ·split
  ·rename_i h;exact absurd h (Qhi c l)
  ·rename_i h;rw[h];rfl
theorem QBT (p q:List UInt8) {ws:List (List UInt8)} (h:ws ≠ []):glue p (glue q ws)=glue (p++q) ws:=by
 cases ws with
 | nil=>exact absurd rfl h
 | cons w ws=>simp[glue]
theorem QbT (c:UInt8):∀l,(cuts c l).length<=l.length+1
 | []=>by simp[cuts]
 | b::l=>by
  have:=QbT c l
  rw[QdY]
  split
  ·simp;omega
  ·cases h:cuts c l with
   | nil=>simp[glue]
   | cons w ws=>rw[h] at this;simp[glue] at this ⊢;omega
theorem QtS (c:UInt8):∀l,Lib.split l [c]=cuts c l
 | []=>by
  unfold Lib.split
  rw[Lib.count_one];rfl
 | b::l=>by
  have ih:=QtS c l
  unfold Lib.split at ih ⊢
  rw[QdY]
  by_cases hb:b=c
  ·subst hb
   rw[if_pos rfl,Lib.count_cons_eq,Nat.add_comm,Lib.splitK]
   have hix:Lib.index (b::l) [b]=0:=by rw[Lib.index];simp[List.isPrefixOf]
   rw[hix]
   simp[ih]
  ·rw[if_neg hb,Lib.count_cons_ne b c l hb]
   have hp:([c]:List UInt8).isPrefixOf (b::l)=false:=by simp[List.isPrefixOf,Ne.symm hb]
   have hix:Lib.index (b::l) [c]=if Lib.index l [c] == -1 then -1 else Lib.index l [c]+1:=by rw[Lib.index,hp];simp
   cases hk:Lib.count l [c] with
   | zero=>rw[hk] at ih;rw[<-ih];rfl
   | succ k=>
    rw[hk] at ih
    have hm:¬Lib.index l [c] = -1:=fun h=>by rw[Lib.count_miss h] at hk;cases hk
    have hge:=Lib.index_ge l [c]
    obtain⟨j,hj⟩:∃j:Nat,Lib.index l [c]=j:=⟨(Lib.index l [c]).toNat,by omega⟩
    have hix':Lib.index (b::l) [c]=((j+1:Nat):Int):=by rw[hix,if_neg (fun e=>hm (beq_iff_eq.1 e)),hj];omega
    rw[Lib.splitK,if_neg (fun e=>hm (beq_iff_eq.1 e)),hj] at ih
    rw[Lib.splitK,if_neg (fun e=>by have:=beq_iff_eq.1 e;omega),hix',<-ih]
    simp[glue]
theorem QCB (l:List UInt8) (c:UInt8) (f:List (List UInt8)×Int×Int->Option ((List (List UInt8)×Int×Int)⊕List (List UInt8)))
  (hs:∀(i fr:Nat) (h:i<l.length) (out:List (List UInt8)),fr<=i->out.length<=i->f (out,(fr:Int),(i:Int))=some (.inl (if l[i]=c then (out++[cut (fr:Int) (i:Int) l],((i+1:Nat):Int),((i+1:Nat):Int)) else (out,(fr:Int),((i+1:Nat):Int)))))
  (he:∀(fr:Nat) (out:List (List UInt8)),fr<=l.length->out.length<=l.length->Qf f (out,(fr:Int),(l.length:Int))=some (out++[cut (fr:Int) (l.length:Int) l])) :
  (Qf f ([],0,0)).bind (fun j=>some j)=some (cuts c l):=by
 have key:∀(k i fr:Nat) (out:List (List UInt8)),i+k=l.length->fr<=i->out.length<=i->Qf f (out,(fr:Int),(i:Int))=some (out++glue ((l.drop fr).take (i - fr)) (cuts c (l.drop i))):=by
  intro k
  induction k with
  | zero=>
   intro i fr out hi hf ho
   obtain rfl:i=l.length:=by omega
   rw[he fr out hf ho,List.drop_length]
   simp[cuts,glue,cut]
  | succ k ih=>
   intro i fr out hi hf ho
   have h:i<l.length:=by omega
   rw[Q2 (hs i fr h out hf ho),aLr h,QdY]
   by_cases hb:l[i]=c
   ·rw[if_pos hb,if_pos hb,ih (i+1) (i+1) _ (by omega) (Nat.le_refl _) (by simp;omega),Nat.sub_self,List.take_zero,Qxx (Qhi _ _)]
    simp[glue,cut]
   ·rw[if_neg hb,if_neg hb,ih (i+1) fr _ (by omega) (by omega) (by omega),QBT _ _ (Qhi _ _)]
    have e:i+1 - fr=(i - fr)+1:=by omega
    have h2:i - fr<(l.drop fr).length:=by rw[aLz];omega
    rw[e,List.take_succ_eq_append_getElem h2]
    congr 3
    simp only[List.getElem_drop]
    congr 2
    simp only[show fr+(i - fr)=i by omega]
 have:=key l.length 0 0 [] (by omega) (Nat.le_refl _) (by simp)
 simp only[List.drop_zero,Nat.sub_zero,List.take_zero,aLx,Qxx (Qhi _ _)] at this
 rw[show ((0:Nat):Int)=0 from rfl] at this
 rw[this];rfl
theorem QaL (l:List UInt8) (c:UInt8) (hl:l.length<LIM):Yt l (c.toNat:Int)=some (cuts c l):=by
 have hB:l.length<BIG:=by unfold LIM at hl;unfold BIG;omega
 unfold Yt
 refine QCB l c _ (fun i fr h out hf ho=>?_) (fun fr out hf ho=>?_)
 ·have e1:decide ((i:Int)<=(l.length:Int))=true:=aLE (by omega)
  have e2:decide ((i:Int)=(l.length:Int))=false:=aLD (by omega)
  have e3:QT (fr:Int) (i:Int) l=true:=by unfold QT;simp;omega
  have e4:decide (((l[i].toNat:Nat):Int)=(c.toNat:Int))=decide (l[i]=c):=by
   apply decide_eq_decide.2
   constructor
   ·intro h;exact UInt8.toNat_inj.1 (by omega)
   ·intro h;rw[h]
  simp only[e1,e2,aLB,aLC,Qh l i h,Qg l i _ h,e4,aLc,wsucc h hB]
  by_cases hb:l[i]=c
  ·rw[aLE hb,if_pos hb,aLB,e3,aLB,aLE (p:=List.length out+_<=LIM) (by simp only[aLh,aLj];omega)]
   rfl
  ·rw[aLD hb,if_neg hb];rfl
 ·have e1:decide ((l.length:Int)<=(l.length:Int))=true:=by simp
  have e2:decide ((l.length:Int)=(l.length:Int))=true:=by simp
  have e3:QT (fr:Int) (l.length:Int) l=true:=by unfold QT;simp;omega
  have e5:IntKind.wrap .i64 ((l.length:Int)+1)=((l.length+1:Nat):Int):=by rw[Qi (by omega) (by unfold BIG at hB;omega)];omega
  rw[Q2 (s':=(out++[cut (fr:Int) (l.length:Int) l],((l.length+1:Nat):Int),((l.length+1:Nat):Int))) (by
   simp only[e1,e2,aLB,aLc,e3,e5]
   rw[aLE (p:=List.length out+_<=LIM) (by simp only[aLh,aLj];omega)];rfl)]
  refine QB ?_
  have e6:decide (((l.length+1:Nat):Int)<=(l.length:Int))=false:=aLD (by omega)
  simp only[e6,aLC]
end GL
end Go.Dx
set_option maxHeartbeats 2000000
namespace Go.Dx
namespace GL
theorem QqW (c:UInt8):∀(w:List UInt8),c ∉ w->cuts c w=[w]
 | [],_=>rfl
 | b::w,h=>by
  rw[List.mem_cons,not_or] at h
  rw[QdY,if_neg (fun e=>h.1 e.symm),QqW c w h.2];rfl
theorem Qwb (c:UInt8):∀(a b:List UInt8),cuts c (a++c::b)=cuts c a++cuts c b
 | [],b=>by rw[aLx,QdY,if_pos rfl];rfl
 | x::a,b=>by
  rw[List.cons_append,QdY,QdY,Qwb c a b]
  split
  ·rfl
  ·cases h:cuts c a with
   | nil=>exact absurd h (Qhi c a)
   | cons w ws=>rfl
theorem Qfj (x y:List UInt8) (r:List (List UInt8)) (c:UInt8):Lib.join (x::y::r) [c]=x++c::Lib.join (y::r) [c]:=by
 rw[Lib.join_cons,Lib.join_cons]
 simp[Lib.joinTail]
theorem QdR (c:UInt8):∀(ws:List (List UInt8)),ws ≠ []->(∀w,w ∈ ws->c ∉ w)->cuts c (Lib.join ws [c])=ws
 | [],h,_=>absurd rfl h
 | [x],_,h=>by rw[Lib.join_one];exact QqW c x (h x aLm)
 | x::y::r,_,h=>by
  rw[Qfj,Qwb,QqW c x (h x aLm),QdR c (y::r) (by simp) fun w hw=>h w (aLp _ hw)];rfl
theorem QpE (c:UInt8):∀(a b:List UInt8),c ∉ a->Lib.indexByte (a++c::b) c=(a.length:Int)
 | [],b,_=>by simp[Lib.indexByte]
 | x::a,b,h=>by
  rw[List.mem_cons,not_or] at h
  have ih:=QpE c a b h.2
  have hx:(x == c)=false:=by simpa using fun e:x=c=>h.1 e.symm
  rw[List.cons_append,Lib.indexByte,hx,ih]
  have:((a.length:Int) == -1)=false:=by simp
  rw[this]
  simp
theorem QzR (c:UInt8) (a b:List UInt8) (h:c ∉ a):Lib.cut (a++c::b) [c]=(a,b,true):=by
 unfold Lib.cut
 rw[Lib.index_one,QpE c a b h,if_pos (by omega)]
 simp
theorem QvU (M:Nat):∀(l r:List UInt8) (acc a:Nat),Lib.parseUintM M acc l=.ok a->Lib.parseUintM M acc (l++r)=Lib.parseUintM M a r
 | [],r,acc,a,h=>by
  simp only[Lib.parseUintM] at h
  cases h;rfl
 | c::l,r,acc,a,h=>by
  rw[List.cons_append]
  unfold Lib.parseUintM at h
  conv=>lhs;unfold Lib.parseUintM
  split at h
  ·rename_i h1
   rw[if_pos h1]
   split at h
   ·cases h
   ·rename_i h2
    rw[if_neg h2]
    split at h
    ·cases h
    ·rename_i h3
     rw[if_neg h3]
     exact QvU M l r _ a h
  ·cases h
theorem Qr4 (M acc d:Nat) (hd:d<10) (h1:acc<1844674407370955162) (h2:acc * 10+d<=M):Lib.parseUintM M acc [UInt8.ofNat (48+d)]=.ok (acc * 10+d):=by
 have e:(UInt8.ofNat (48+d)).toNat=48+d:=by rw[UInt8.toNat_ofNat'];omega
 unfold Lib.parseUintM
 rw[e,if_pos (by omega),if_neg (by omega),if_neg (by omega)]
 rw[show acc * 10+(48+d - 48)=acc * 10+d by omega]
 rfl
theorem QBY:∀(u:Nat),u<=9223372036854775807->Lib.parseUintM (2 ^ 64 - 1) 0 (Lib.decDigits u)=.ok u:=by
 intro u
 induction u using Nat.strongRecOn with
 | ind u ih=>
  intro hu
  by_cases h:u<10
  ·rw[Lib.decDigits_one h,Qr4 _ 0 u h (by omega) (by omega)]
   simp
  ·rw[Lib.decDigits,dif_neg h,QvU _ _ _ 0 (u / 10) (ih (u / 10) (by omega) (by omega)),Qr4 _ (u / 10) (u % 10) (by omega) (by omega) (by omega)]
   congr 1;omega
theorem QsS:∀(u:Nat) (b:UInt8),b ∈ Lib.decDigits u->48<=b.toNat/\b.toNat<=57:=by
 intro u
 induction u using Nat.strongRecOn with
 | ind u ih=>
  intro b hb
  have one:∀d:Nat,d<10->(UInt8.ofNat (48+d)).toNat=48+d:=fun d hd=>by
   rw[UInt8.toNat_ofNat'];omega
  by_cases h:u<10
  ·rw[Lib.decDigits_one h,aLs] at hb
   subst hb
   rw[one u h];omega
  ·rw[Lib.decDigits,dif_neg h] at hb
   rcases List.mem_append.1 hb with hb | hb
   ·exact ih (u / 10) (by omega) b hb
   ·rw[aLs] at hb
    subst hb
    rw[one (u % 10) (by omega)];omega
theorem QA5 {n:Int} (h0:0<=n) (h1:n<=9223372036854775807):Lib.parseIntB 64 (Lib.itoa n)=.ok n:=by
 obtain⟨m,rfl⟩:=aLA h0
 rw[QcP]
 have hp:=QBY m (by omega)
 have hb:=QsS m
 have hl:1<=(Lib.decDigits m).length:=by rw[Lib.decDigits_length];exact Lib.nDigits_pos m
 match hd:Lib.decDigits m with
 | []=>rw[hd] at hl;simp at hl
 | c::r=>
  rw[hd] at hp hb
  have hc:=hb c aLm
  unfold Lib.parseIntB
  simp only
  rw[if_neg (by omega)]
  unfold Lib.parseUintB
  rw[if_neg (by simp),hp]
  simp only
  rw[if_neg (by omega),if_neg (by omega),if_neg (by omega)]
theorem Qfk {n:Int} (h0:0<=n) (h1:n<10000000000):numS (Lib.itoa n)=n:=by
 unfold numS
 rw[QA5 h0 (by omega)]
 obtain⟨m,rfl⟩:=aLA h0
 have hl:(Lib.itoa (m:Int)).length<=10:=by
  rw[QcP,Lib.decDigits_length]
  exact QfS 10 m (by omega) (by decide)
 simp[hl]
end GL
end Go.Dx
set_option maxHeartbeats 2000000
namespace Go.Dx
namespace GL
abbrev TL:=List (List UInt8)×List (Int×Int)
theorem Qbq {α R:Type} (l:List α) (c:Nat->α->Int) (f:Int->Option (Int⊕(Unit⊕Int)))
  (hs:∀(i:Nat) (h:i<l.length),f (i:Int)=some (if c i l[i]=0 then .inl ((i+1:Nat):Int) else .inr (.inr (c i l[i])))) (he:f (l.length:Int)=some (.inr (.inl ()))) (A:Unit->Option R) (B:Int->Option R) :
  ((Qf f 0).bind fun j=>Sum.elim A B j)=if code c l=0 then A () else B (code c l):=by
 rw[Qcl l (fun i a=>if c i a=0 then none else some (c i a)) f (fun i h=>by rw[hs i h];by_cases hc:c i l[i]=0<;>simp[hc]) he,Qd9]
 by_cases h0:code c l=0
 ·rw[if_pos h0]
  have hz:=QdW h0
  have:first (fun i a=>if c i a=0 then none else some (c i a)) 0 l=none:=(Qh6 l 0).2 (fun j a ha=>by rw[Nat.zero_add,if_pos (hz j a ha)])
  rw[this]
 ·rw[if_neg h0]
  unfold code at h0 ⊢
  cases hf:first (fun i a=>if c i a=0 then none else some (c i a)) 0 l with
  | none=>rw[hf] at h0;exact absurd rfl h0
  | some r=>rfl
theorem QnQ {α β γ:Type} (g:Nat->α->Option β) (h:β->γ):∀(l:List α) (i:Nat),first (fun i a=>(g i a).map h) i l=(first g i l).map h
 | [],_=>rfl
 | a::l,i=>by
  simp only[first]
  cases g i a with
  | none=>exact QnQ g h l (i+1)
  | some r=>rfl
theorem QwQ (t:List UInt8):QgN t=some (mIn (t.length:Int) 1 300):=by unfold QgN;rw[ZR];rfl
theorem any_eq {α:Type} [DecidableEq α] (x:α) (l:List α):l.any (fun a=>decide (x=a))=decide (x ∈ l):=by
 rw[Bool.eq_iff_iff];simp
theorem any_eq' {α:Type} [DecidableEq α] (x:α) (l:List α):l.any (fun a=>decide (a=x))=decide (x ∈ l):=by
 rw[Bool.eq_iff_iff];simp
theorem QvD (l:List (List UInt8)) (hl:l.length<BIG) (x:List UInt8):Yc l x=some (decide (x ∈ l)):=by
 unfold Yc QW
 rw[QcM l (fun a=>decide (x=a)) _ (fun i h=>?_) (by simp only[dge,aLC]),aLc,ZZ,any_eq]
 ·exact congrArg some (decide_eq_decide.2 Iff.rfl)
 ·simp only[dlt h,Qh l i h,Qg l i _ h,aLB,wsucc h hl]
  cases decide (x=l[i])<;>rfl
theorem QlB (l:List (Int×Int)) (hl:l.length<BIG) (x:Int×Int):Q9 l x=some (decide (x ∈ l)):=by
 unfold Q9 YG
 rw[QcM l (fun a=>decide (x=a)) _ (fun i h=>?_) (by simp only[dge,aLC]),aLc,ZZ,any_eq]
 ·exact congrArg some (decide_eq_decide.2 Iff.rfl)
 ·simp only[dlt h,Qh l i h,Qg l i _ h,aLB,wsucc h hl,Qlc]
  cases decide (x=l[i])<;>rfl
theorem QhI (l:List (Int×Int)) (hl:l.length<BIG) (x:Int×Int):QaT l x=some (decide (x ∈ l)):=by
 unfold QaT
 rw[Qon l (fun a=>decide (a=x)) _ (fun i h=>?_) (by simp only[dge,aLC]),any_eq']
 ·exact congrArg some (decide_eq_decide.2 Iff.rfl)
 ·simp only[dlt h,Qh l i h,Qg l i _ h,aLB,wsucc h hl,Qlc]
  cases decide (l[i]=x)<;>rfl
theorem QlR (l:List (List UInt8)) (hl:l.length<BIG) (x:List UInt8):QeN l x=some (idxF (fun a=>decide (a=x)) l+1):=by
 unfold QeN
 rw[Qcl l (fun i a=>(if decide (a=x)=true then some (i:Int) else none).map (· + 1)) _ (fun i h=>?_) (by simp only[dge,aLC]),QnQ,Qd9]
 ·unfold idxF
  cases first (fun i a=>if decide (a=x)=true then some (i:Int) else none) 0 l<;>rfl
 ·simp only[dlt h,Qh l i h,Qg l i _ h,aLB,wsucc h hl]
  cases decide (l[i]=x)<;>rfl
theorem pos_at (l:List (List UInt8)) (x:List UInt8):decide (0<idxF (fun a=>decide (a=x)) l+1)=decide (x ∈ l):=by
 have h:=ZZ (fun a=>decide (a=x)) l
 have h2:(l.any fun a=>decide (a=x))=true↔x ∈ l:=by simp
 refine decide_eq_decide.2 ⟨fun h3=>h2.1 (by rw[<-h];simp;omega),fun h3=>?_⟩
 have:=h2.2 h3
 rw[<-h] at this
 have:=aLG this
 omega
def mTx (l:List (List UInt8)) (i:Nat) (s:List UInt8):Int:=if mIn (s.length:Int) 1 300 then (if s ∈ l.take i then 7 else 0) else 2
def mSg (n:Int) (l:List (Int×Int)) (i:Nat) (x:Int×Int):Int:=if mIn x.1 1 999&&mIn x.2 1 n then (if x ∈ l.take i then 7 else 0) else 3
def mLF (x:TL):Int:=if (decide ((60:Int)<(x.1.length:Int)) || decide ((120:Int)<(x.2.length:Int)))=true then 2 else if code (mTx x.1) x.1=0 then code (mSg (x.1.length:Int) x.2) x.2 else code (mTx x.1) x.1
theorem Qfu {α:Type} {l:List α} (hl:l.length<BIG) (i:Nat):(l.take i).length<BIG:=by rw[aLn];omega
theorem QqZ (x:TL) (h1:x.1.length<BIG) (h2:x.2.length<BIG):QcH x=some (mLF x):=by
 unfold QcH mLF
 have e:∀(p q:Bool),(bif p then some true else some q:Option Bool)=some (p || q):=by intro p q;cases p<;>rfl
 rw[e,aLc]
 cases (decide ((60:Int)<(x.1.length:Int)) || decide ((120:Int)<(x.2.length:Int))) with
 | true=>rfl
 | false=>
  rw[aLC,if_neg (by simp),Qbq x.1 (mTx x.1) _ (fun i h=>?_) (by simp only[dge,aLC])]
  ·split
   ·refine Qht _ _ _ (fun i h=>?_) (by simp only[dge,aLC])
    simp only[dlt h,Qh x.2 i h,Qg x.2 i _ h,Jf x.2 i (Nat.le_of_lt h),QdF,aLB,QhY,ZR,aLc,wsucc h h2,QlB _ (Qfu h2 i)]
    unfold mSg
    cases mIn x.2[i].1 1 999<;>cases mIn x.2[i].2 1 (x.1.length:Int)<;>by_cases hm:x.2[i] ∈ x.2.take i<;>simp[hm]
   ·rfl
  ·simp only[dlt h,Qh x.1 i h,Qg x.1 i _ h,Jf x.1 i (Nat.le_of_lt h),QdF,aLB,QwQ,aLc,wsucc h h1,QvD _ (Qfu h1 i)]
   unfold mTx
   cases mIn (x.1[i].length:Int) 1 300<;>by_cases hm:x.1[i] ∈ x.1.take i<;>simp[hm]
theorem YD (x:TL) (h1:x.1.length<BIG) (h2:x.2.length<BIG):YI x=some (mLF x):=by
 unfold YI mLF
 have e:∀(p q:Bool),(bif p then some true else some q:Option Bool)=some (p || q):=by intro p q;cases p<;>rfl
 rw[e,aLc]
 cases (decide ((60:Int)<(x.1.length:Int)) || decide ((120:Int)<(x.2.length:Int))) with
 | true=>rfl
 | false=>
  rw[aLC,if_neg (by simp),Qbq x.1 (mTx x.1) _ (fun i h=>?_) (by simp only[dge,aLC])]
  ·split
   ·refine Qht _ _ _ (fun i h=>?_) (by simp only[dge,aLC])
    simp only[dlt h,Qh x.2 i h,Qg x.2 i _ h,Jf x.2 i (Nat.le_of_lt h),QdF,aLB,Qdk,Zp,aLc,wsucc h h2,QhI _ (Qfu h2 i)]
    unfold mSg
    cases mIn x.2[i].1 1 999<;>cases mIn x.2[i].2 1 (x.1.length:Int)<;>by_cases hm:x.2[i] ∈ x.2.take i<;>simp[hm]
   ·rfl
  ·simp only[dlt h,Qh x.1 i h,Qg x.1 i _ h,Jf x.1 i (Nat.le_of_lt h),QdF,aLB,aLc,wsucc h h1,QlR _ (Qfu h1 i),pos_at]
   have e2:∀(n:Int),(decide (n<1) || decide (300<n)) = !mIn n 1 300:=by
    intro n;unfold mIn;rw[Bool.eq_iff_iff];simp;try omega
   rw[e,e2,aLc]
   unfold mTx
   cases mIn (x.1[i].length:Int) 1 300<;>by_cases hm:x.1[i] ∈ x.1.take i<;>simp[hm]
theorem QtV {R:Type} (a:Option R):agree a a=a:=by unfold agree;simp
theorem Ql5 {α:Type} {l:List α} (h:l.length<=LIM):decide (List.length ([]:List α)+List.length l<=LIM)=true:=by simp;omega
end GL
end Go.Dx
set_option maxHeartbeats 2000000
namespace Go.Dx
namespace GL
def Y {α:Type} (o:Option α) (Q:α->Prop):Prop:=∃a,o=some a/\Q a
theorem Y.some {α:Type} {a:α} {Q:α->Prop} (h:Q a):Y (some a) Q:=⟨a,rfl,h⟩
theorem Y.bind {α β:Type} {o:Option α} {f:α->Option β} {Q:α->Prop} {R:β->Prop} (h:Y o Q) (k:∀a,Q a->Y (f a) R):Y (o.bind f) R:=by
 obtain⟨a,rfl,ha⟩:=h
 exact k a ha
theorem Y.eqb {α β:Type} {o:Option α} {a:α} {f:α->Option β} {R:β->Prop} (h:o=Option.some a) (k:Y (f a) R):Y (o.bind f) R:=by
 subst h;exact k
theorem Y.mono {α:Type} {o:Option α} {Q R:α->Prop} (h:Y o Q) (k:∀a,Q a->R a):Y o R:=let ⟨a,h1,h2⟩:=h;⟨a,h1,k a h2⟩
theorem Y.bif {α:Type} {c:Bool} {a b:Option α} {Q:α->Prop} (h1:c=true->Y a Q) (h2:c=false->Y b Q):Y (bif c then a else b) Q:=by
 cases c
 ·exact h2 rfl
 ·exact h1 rfl
theorem Y.grd {α:Type} {c:Bool} {a b:Option α} {Q:α->Prop} (h:c=true) (h1:Y a Q):Y (bif c then a else b) Q:=by rw[h];exact h1
theorem Y.loop {S X:Type} {f:S->Option (S⊕X)} {Q:X->Prop} (I:Nat->S->Prop) (hs:∀n s,I n s->Y (f s) (fun r=>match r with | .inl s'=>∃m,m<n/\I m s' | .inr x=>Q x)):∀n s,I n s->Y (Qf f s) Q:=by
 intro n
 induction n using Nat.strongRecOn with
 | ind n ih=>
  intro s hi
  obtain⟨r,h1,h2⟩:=hs n s hi
  cases r with
  | inl s'=>
   obtain⟨m,hm,hi'⟩:=h2
   obtain⟨x,h3,h4⟩:=ih m hm s' hi'
   exact⟨x,Qke h1 h3,h4⟩
  | inr x=>exact⟨x,QB h1,h2⟩
theorem ZW {α:Type} (l:List α) (a:α) (h:l.length<1000000):decide (List.length l+List.length [a]<=LIM)=true:=by
 simp only[aLh,aLj,aLF]
 unfold LIM;omega
theorem QV {α:Type} {l:List α} {i:Int} (h0:0<=i) (h:i<(l.length:Int)):inB i l=true:=by
 simp[inB,h0,h]
def dv (l:List UInt8):Nat:=l.foldl (fun a b=>a * 10+(b.toNat - 48)) 0
theorem QEc (l:List UInt8) (b:UInt8):dv (l++[b])=dv l * 10+(b.toNat - 48):=by simp[dv]
theorem QEH:∀m:Nat,dv (Lib.decDigits m)=m:=by
 intro m
 induction m using Nat.strongRecOn with
 | ind m ih=>
  have one:∀d:Nat,d<10->(UInt8.ofNat (48+d)).toNat=48+d:=fun d hd=>by
   rw[UInt8.toNat_ofNat'];omega
  by_cases h:m<10
  ·rw[Lib.decDigits_one h]
   show 0 * 10+((UInt8.ofNat (48+m)).toNat - 48)=m
   rw[one m h];omega
  ·rw[Lib.decDigits,dif_neg h,QEc,ih (m / 10) (by omega),one (m % 10) (by omega)];omega
theorem QCC:∀(m:Nat),1<=m->∀b r,Lib.decDigits m=b::r->b.toNat ≠ 48:=by
 intro m
 induction m using Nat.strongRecOn with
 | ind m ih=>
  intro hm b r h
  by_cases h10:m<10
  ·rw[Lib.decDigits_one h10] at h
   simp only[List.cons.injEq] at h
   rw[<-h.1,UInt8.toNat_ofNat'];omega
  ·rw[Lib.decDigits,dif_neg h10] at h
   cases hd:Lib.decDigits (m / 10) with
   | nil=>
    have:=Lib.decDigits_length (m / 10)
    rw[hd] at this
    have h2:=Lib.nDigits_pos (m / 10)
    simp at this;omega
   | cons c rr=>
    rw[hd,List.cons_append] at h
    simp only[List.cons.injEq] at h
    rw[<-h.1]
    exact ih (m / 10) (by omega) (by omega) c rr hd
theorem Qd5 (w:List UInt8) (n:Int) (hw:w.length<BIG):Y (QC w n) (fun _=>True):=by
 unfold QC
 refine Y.bind (Q:=fun j=>True) ?_ (fun j _=>?_)
 ·refine Y.bif (fun _=>Y.some trivial) (fun h1=>Y.bif (fun _=>Y.some trivial) (fun h2=>Y.bif (fun _=>Y.grd (QV (by omega) ?_) (Y.some trivial)) (fun _=>Y.some trivial)))
  simp at h1;omega
 ·refine Y.bif (fun _=>Y.some trivial) (fun _=>?_)
  refine Y.bind (Q:=fun _=>True) ?_ (fun j _=>by cases j<;>exact Y.some trivial)
  refine Y.loop (fun n s=>∃i:Nat,s.2=(i:Int)/\i<=w.length/\n=w.length - i) (fun n s hI=>?_) w.length (0,0) ⟨0,rfl,by omega,by omega⟩
  obtain⟨i,hi,hle,hn⟩:=hI
  obtain⟨v,i'⟩:=s
  have hi:i'=(i:Int):=hi
  subst hi
  refine Y.bif (fun h1=>?_) (fun _=>Y.some trivial)
  have hlt:i<w.length:=by simp at h1;omega
  have hb:=Qh w i hlt
  refine Y.bind (Q:=fun _=>True) (Y.grd hb (Y.bif (fun _=>Y.some trivial) (fun _=>Y.grd hb (Y.some trivial)))) (fun j _=>Y.bif (fun _=>Y.some trivial) (fun _=>Y.grd hb (Y.some ?_)))
  exact⟨w.length - (i+1),by omega,i+1,wsucc hlt hw,by omega,rfl⟩
theorem QnR {k:Int} (h0:0<=k) (h1:k<=9999999) (n:Nat) (hn:(Lib.itoa k).length<=n):QC (Lib.itoa k) (n:Int)=some (k,true):=by
 obtain⟨m,rfl⟩:=aLA h0
 rw[QcP] at hn ⊢
 have hb:=QsS m
 have hdv:=QEH m
 have hl:1<=(Lib.decDigits m).length:=by rw[Lib.decDigits_length];exact Lib.nDigits_pos m
 have h7:(Lib.decDigits m).length<=7:=by rw[Lib.decDigits_length];exact QfS 7 m (by omega) (by decide)
 have hhd:1<(Lib.decDigits m).length->(List.getD (Lib.decDigits m) 0 0).toNat ≠ 48:=fun h=>by
  cases hd:Lib.decDigits m with
  | nil=>rw[hd] at h;simp at h
  | cons c r=>
   have hm1:1<=m:=by
    rcases Nat.eq_zero_or_pos m with h0 | h0
    ·subst h0
     rw[Lib.decDigits_one (by omega)] at h
     simp at h
    ·exact h0
   exact QCC m hm1 c r hd
 generalize Lib.decDigits m=w at *
 have hB:w.length<BIG:=by unfold BIG;omega
 unfold QC
 rw[aLD (p:=(w.length:Int)<1) (by omega),aLC,aLD (p:=(n:Int)<(w.length:Int)) (by omega),aLC,QV (i:=0) (l:=w) (by omega) (by omega),aLB]
 have e0:(bif decide (1<(w.length:Int)) then some (decide (((w.getD (Int.toNat 0) 0).toNat:Int)=48)) else some false)=some false:=by
  by_cases h:1<w.length
  ·rw[aLE (by omega),aLB,aLD]
   have:=hhd h
   show ¬(((w.getD 0 0).toNat:Nat):Int)=48
   omega
  ·rw[aLD (by omega),aLC]
 rw[e0,aLc,aLC]
 rw[show ((0:Int),(0:Int))=(((0:Nat):Int),(0:Int)) from rfl]
 rw[Yh (σ:=Nat) w (fun v b=>v * 10+(b.toNat - 48)) (fun v i=>((v:Int),i)) (fun v=>Sum.inl (v:Int)) (fun v i=>v<10 ^ i) _ (fun i hi v hv=>by
   have hbi:=hb _ (aLl hi)
   have hp:10 ^ i<=10 ^ 6:=Nat.pow_le_pow_right (by omega) (by omega)
   have hp2:(10:Nat) ^ 6=1000000:=rfl
   refine⟨?_,?_⟩
   ·simp only[dlt hi,Qh w i hi,Qg w i _ hi,aLB,wsucc hi hB]
    rw[aLD (p:=((w[i].toNat:Nat):Int)<48) (by omega),aLC,aLD (p:=(57:Int)<((w[i].toNat:Nat):Int)) (by omega),aLc,aLC]
    have e1:IntKind.wrap .u8 (((w[i].toNat:Nat):Int) - 48)=((w[i].toNat - 48:Nat):Int):=by
     rw[show ((w[i].toNat:Nat):Int) - 48=((w[i].toNat - 48:Nat):Int) by omega]
     rw[show IntKind.wrap .u8 ((w[i].toNat - 48:Nat):Int)=((w[i].toNat - 48:Nat):Int) % 256 from by simp[IntKind.wrap,IntKind.bits,IntKind.signed]]
     omega
    rw[e1,Qi (n:=(v:Int) * 10) (by omega) (by omega),Qi (n:=((w[i].toNat - 48:Nat):Int)) (by omega) (by omega),Qi (by omega) (by omega)]
    congr 3
   ·rw[Nat.pow_succ];omega) (fun v hv=>by simp only[dge,aLC]) 0 (by simp)]
 show some (((dv w:Nat):Int),true)=_
 rw[hdv]
theorem Qhd (w:List UInt8) (h:w.length<=1000000):YA w=some (numS w):=by
 unfold YA numO
 rw[Nat.ble_eq.mpr h];rfl
theorem Qrw (s:List UInt8) (c:UInt8) (h:s.length<=1000000):Jy s [c]=some (cuts c s):=by
 unfold Jy
 rw[QCl (by simp) (by omega),QtS]
theorem QdX (c:UInt8):∀(l:List UInt8) (w:List UInt8),w ∈ cuts c l->w.length<=l.length
 | [],w,h=>by simp[cuts] at h;subst h;simp
 | b::l,w,h=>by
  rw[QdY] at h
  split at h
  ·rcases List.mem_cons.1 h with rfl | h
   ·simp
   ·have:=QdX c l w h;simp;omega
  ·have ih:=QdX c l
   cases hc:cuts c l with
   | nil=>exact absurd hc (Qhi c l)
   | cons a r=>
    rw[hc] at h ih
    simp only[glue] at h
    rcases List.mem_cons.1 h with rfl | h
    ·have:=ih a aLm;simp;omega
    ·have:=ih w (aLp _ h);simp;omega
theorem QaC (c:UInt8) (l:List UInt8) (i:Nat):(List.getD (cuts c l) i []).length<=l.length:=by
 rw[aLk]
 cases h:(cuts c l)[i]? with
 | none=>simp
 | some w=>exact QdX c l w (List.mem_of_getElem? h)
theorem QBR (s:List UInt8) (c:UInt8) (h:s.length<=100000):QfZ s [c]=some ((cuts c s).map numS):=by
 unfold QfZ
 have hlen:=QbT c s
 rw[Qrw s c (by omega),aLc]
 rw[Yh (σ:=List Int) (cuts c s) (fun acc a=>acc++[numS a]) (fun t i=>(t,i)) (fun t=>t) (fun t i=>t.length=i) _ (fun i hi t ht=>by
   refine⟨?_,by simp[ht]⟩
   have hw:=QdX c s _ (aLl hi)
   simp only[dlt hi,Qh _ i hi,Qg _ i _ hi,aLB,Qhd _ (show ((cuts c s)[i]).length<=1000000 by omega),aLc,wsucc hi (by unfold BIG;omega)]
   rw[Qz (by simp only[aLh,aLj];unfold LIM;omega)];rfl) (fun t ht=>by simp only[dge,aLC]) [] rfl,aLc,foldl_map,aLx]
end GL
end Go.Dx
set_option maxHeartbeats 2000000
namespace Go.Dx
namespace GL
theorem QBk {n:Int} (h0:0<=n) {b:UInt8} (hb:b ∈ Lib.itoa n):48<=b.toNat/\b.toNat<=57:=by
 obtain⟨m,rfl⟩:=aLA h0
 rw[QcP] at hb
 exact QsS m b hb
theorem QbC {n:Int} (h0:0<=n) (c:UInt8) (hc:c.toNat<48\/57<c.toNat):c ∉ Lib.itoa n:=fun h=>by
 have:=QBk h0 h;omega
theorem QcG (x:List UInt8) (r:List (List UInt8)) (c:UInt8) (hr:r ≠ []):Lib.join (x::r) [c]=x++c::Lib.join r [c]:=by
 cases r with
 | nil=>exact absurd rfl hr
 | cons y r=>exact Qfj x y r c
theorem QDG (l:List Int) (h:∀k,k ∈ l->0<=k) (c:UInt8) (hc:c.toNat<48\/57<c.toNat) (hc2:c ≠ 44):c ∉ Qa1 l [44]:=by
 unfold Qa1
 induction l with
 | nil=>simp[Lib.join_nil]
 | cons a l ih=>
  have ha:=QbC (h a aLm) c hc
  have ih:=ih fun k hk=>h k (aLp _ hk)
  cases l with
  | nil=>rw[List.map_cons,List.map_nil,Lib.join_one];exact ha
  | cons b l=>
   rw[List.map_cons,QcG _ _ _ (by simp),List.mem_append,List.mem_cons]
   rintro (h1 | h1 | h1)
   ·exact ha h1
   ·exact hc2 h1
   ·exact ih h1
theorem Qv2 (l:List Int) (hl:l ≠ []) (h:∀k,k ∈ l->0<=k):cuts 44 (Qa1 l [44])=l.map Lib.itoa:=by
 unfold Qa1
 refine QdR 44 _ (by simpa using hl) fun w hw=>?_
 obtain⟨k,hk,rfl⟩:=List.mem_map.1 hw
 exact QbC (h k hk) 44 (by decide)
def QhD (r:TRu):List (List UInt8):=[Lib.itoa r.2.1,[111,102],Qa1 r.1 [44]]++(if r.2.2=0 then [] else [[97,102,116,101,114],Lib.itoa r.2.2])
structure Blank (b:UInt8):Prop where
 d:b.toNat<48\/57<b.toNat
 c:b ≠ 44
 o:b ≠ 111/\b ≠ 102/\b ≠ 97/\b ≠ 116/\b ≠ 101/\b ≠ 114
theorem Qhv:Blank 32:=⟨by decide,by decide,by decide⟩
theorem Qz0:Blank 95:=⟨by decide,by decide,by decide⟩
theorem QsT {r:TRu} (h:okR r) {b:UInt8} (hb:Blank b):∀w,w ∈ QhD r->b ∉ w:=by
 have hof:b ∉ ([111,102]:List UInt8):=by
  have:=hb.o
  simp[this.1,this.2.1]
 have haf:b ∉ ([97,102,116,101,114]:List UInt8):=by
  have:=hb.o
  simp[this]
 have h1:=QbC (n:=r.2.1) (by have:=h.need;omega) b hb.d
 have h2:=QbC (n:=r.2.2) (by have:=h.after;omega) b hb.d
 have h3:=QDG r.1 (fun k hk=>by have:=h.keys k hk;omega) b hb.d hb.c
 intro w hw
 unfold QhD at hw
 split at hw<;>simp only[List.append_nil,List.cons_append,aLx,List.mem_cons,List.not_mem_nil,or_false] at hw
 ·rcases hw with rfl | rfl | rfl<;>assumption
 ·rcases hw with rfl | rfl | rfl | rfl | rfl<;>assumption
theorem QjV (r:TRu) (b:UInt8):Lib.join (QhD r) [b]=Qv r [b]:=by
 unfold QhD Qv
 split
 ·rw[List.append_nil,QcG _ _ _ (by simp),QcG _ _ _ (by simp),Lib.join_one];simp
 ·simp only[List.cons_append,aLx]
  rw[QcG _ _ _ (by simp),QcG _ _ _ (by simp),QcG _ _ _ (by simp),QcG _ _ _ (by simp),Lib.join_one];simp
theorem QAr {r:TRu} (h:okR r) {b:UInt8} (hb:Blank b):cuts b (Qv r [b])=QhD r:=by
 rw[<-QjV]
 exact QdR b _ (by unfold QhD;simp) (QsT h hb)
theorem Qtm {r:TRu} (h:okR r) {b c:UInt8} (hc:Blank c) (hbc:c ≠ b):c ∉ Qv r [b]:=by
 rw[<-QjV]
 have hw:=QsT h hc
 have:∀ws:List (List UInt8),(∀w,w ∈ ws->c ∉ w)->c ∉ Lib.join ws [b]:=by
  intro ws
  induction ws with
  | nil=>intro _;simp[Lib.join_nil]
  | cons x ws ih=>
   intro h
   cases ws with
   | nil=>rw[Lib.join_one];exact h x aLm
   | cons y ws=>
    rw[QcG _ _ _ (by simp),List.mem_append,List.mem_cons]
    rintro (h1 | h1 | h1)
    ·exact h x aLm h1
    ·exact hbc h1
    ·exact ih (fun w hw=>h w (aLp _ hw)) h1
 exact this _ hw
def swp (a b:UInt8) (l:List UInt8):List UInt8:=l.map fun c=>if c=a then b else c
theorem Qx3 (l:List UInt8) (a b:UInt8) (h:l.length<=1000000):Qa6 l (a.toNat:Int) (b.toNat:Int)=some (swp a b l):=by
 unfold Qa6 swpS
 rw[Nat.ble_eq.mpr h,aLE (by have:=b.toNat_lt;omega)]
 show some _=_
 congr 1
 unfold swp
 refine List.map_congr_left fun c _=>?_
 by_cases hc:c=a
 ·subst hc
  rw[if_pos rfl,if_pos rfl]
  apply UInt8.toNat_inj.1
  rw[UInt8.toNat_ofNat']
  have:=b.toNat_lt
  omega
 ·rw[if_neg hc,if_neg fun h=>hc (UInt8.toNat_inj.1 (by omega))]
theorem Qx4 {a b:UInt8} {l:List UInt8} (h:a ∉ l):swp a b l=l:=by
 unfold swp
 have:∀c,c ∈ l->(if c=a then b else c)=id c:=fun c hc=>if_neg (fun e:c=a=>h (e ▸ hc))
 rw[List.map_congr_left this,List.map_id]
theorem Qyz {a b:UInt8}:∀ws:List (List UInt8),(∀w,w ∈ ws->a ∉ w)->swp a b (Lib.join ws [a])=Lib.join ws [b]
 | [],_=>by simp[Lib.join_nil,swp]
 | [x],h=>by rw[Lib.join_one,Lib.join_one];exact Qx4 (h x aLm)
 | x::y::r,h=>by
  rw[Qfj,Qfj]
  have h1:=Qx4 (b:=b) (h x aLm)
  have h2:=Qyz (b:=b) (y::r) fun w hw=>h w (aLp _ hw)
  unfold swp at h1 h2 ⊢
  rw[List.map_append,List.map_cons,h1,h2,if_pos rfl]
theorem QyK {r:TRu} (h:okR r) {a b:UInt8} (ha:Blank a):swp a b (Qv r [a])=Qv r [b]:=by
 rw[<-QjV,<-QjV]
 exact Qyz _ (QsT h ha)
def Qxq (s:List UInt8) (b:UInt8) (x:TRu×Bool):Prop:=x.1.1.length<=s.length+1/\∀r',Zu r'=0->Qv r' [b]=s->x=(r',true)
theorem Qft {r:TRu} (h:Zu r=0) (b:UInt8):(Qv r [b]).length<=120:=Qr9 (JD h) [b] (by simp)
theorem Qas {r':TRu} (hr:Zu r'=0) {s:List UInt8} {b:UInt8} (hb:Blank b) (hs:Qv r' [b]=s):cuts b s=QhD r':=by
 rw[<-hs];exact QAr (JD hr) hb
theorem Qhu (r:TRu):(QhD r).length=if r.2.2=0 then 3 else 5:=by
 unfold QhD;split<;>rfl
theorem QAi (s:List UInt8) (b:UInt8) (hb:Blank b) (hs:s.length<=100000):Y (Qe5 s [b]) (Qxq s b):=by
 have hlen:=QbT b s
 have hin:∀i:Nat,i<(cuts b s).length->inB (i:Int) (cuts b s)=true:=fun i h=>Qh _ i h
 unfold Qe5
 refine Y.eqb (Qrw s b (by omega)) ?_
 have hno:(∀r',Zu r'=0->Qv r' [b]=s->False)->Qxq s b (([],(0,0)),false):=fun h=>⟨by simp,fun r' h1 h2=>(h r' h1 h2).elim⟩
 have hn:∀i:Nat,(List.getD (cuts b s) i []).length<=s.length:=QaC b s
 refine Y.bind (Q:=fun j=>(j=false->((cuts b s).length=3\/(cuts b s).length=5))/\(j=true->∀r',Zu r'=0->Qv r' [b]=s->False)) ?_ (fun j hj=>?_)
 ·refine Y.bif (fun h1=>Y.some ⟨(fun h=>by cases h),fun _ r' h2 h3=>?_⟩) (fun _=>Y.bif (fun h1=>Y.some ⟨(fun h=>?_),(fun h r' h2 h3=>?_)⟩) (fun h1=>Y.some ⟨(fun _=>.inl ?_),(fun h=>by cases h)⟩))
  ·have:=Qft h2 b;rw[h3] at this;simp at h1;omega
  ·right;simp at h;omega
  ·have hw:=Qas h2 hb h3
   have hl:=Qhu r'
   rw[<-hw] at hl
   simp at h h1
   split at hl<;>omega
  ·simp at h1;omega
 ·obtain⟨hj1,hj2⟩:=hj
  refine Y.bif (fun h=>Y.some (hno (hj2 h))) (fun h=>?_)
  have h35:=hj1 h
  refine Y.grd (hin 0 (by omega)) (Y.eqb (Qhd _ (by have:=hn 0;show (List.getD (cuts b s) 0 []).length<=_;omega)) (Y.grd (hin 2 (by omega)) (Y.eqb (QBR _ 44 (by have:=hn 2;show (List.getD (cuts b s) 2 []).length<=_;omega)) ?_)))
  have hk:=QbT 44 (List.getD (cuts b s) 2 [])
  have hk2:=hn 2
  refine Y.bind (Q:=fun (x:TRu)=>x.1.length<=s.length+1/\∀r',Zu r'=0->Qv r' [b]=s->x=r') ?_ (fun x hx=>?_)
  ·have comp:∀r',Zu r'=0->Qv r' [b]=s->numS (List.getD (cuts b s) (Int.toNat 0) [])=r'.2.1/\(cuts 44 (List.getD (cuts b s) (Int.toNat 2) [])).map numS=r'.1:=fun r' h2 h3=>by
    have ho:=JD h2
    rw[Qas h2 hb h3]
    refine⟨?_,?_⟩
    ·show numS (Lib.itoa r'.2.1)=_
     exact Qfk (by have:=ho.need;omega) (by have:=ho.need;omega)
    ·show (cuts 44 (Qa1 r'.1 [44])).map numS=_
     rw[Qv2 r'.1 (fun e=>by have:=ho.len;rw[e] at this;simp at this) (fun k hk=>by have:=ho.keys k hk;omega),List.map_map]
     have hid:∀k,k ∈ r'.1->(numS ∘ Lib.itoa) k=id k:=fun k hk=>Qfk (by have:=ho.keys k hk;omega) (by have:=ho.keys k hk;omega)
     rw[List.map_congr_left hid,List.map_id]
   refine Y.bif (fun h5=>?_) (fun h5=>?_)
   ·have h5:(cuts b s).length=5:=by simp at h5;omega
    refine Y.grd (hin 4 (by omega)) (Y.eqb (Qhd _ (by have:=hn 4;show (List.getD (cuts b s) 4 []).length<=_;omega)) (Y.some ⟨by show (List.map numS _).length<=_;rw[List.length_map];show (cuts 44 (List.getD (cuts b s) 2 [])).length<=_;omega,fun r' h2 h3=>?_⟩))
    obtain⟨c1,c2⟩:=comp r' h2 h3
    have hw:=Qas h2 hb h3
    have hl:=Qhu r'
    rw[<-hw,h5] at hl
    have ha:r'.2.2 ≠ 0:=fun e=>by rw[if_pos e] at hl;omega
    have ho:=JD h2
    rw[c1,c2]
    show (r'.1,r'.2.1,numS (List.getD (cuts b s) 4 []))=r'
    rw[hw]
    unfold QhD
    rw[if_neg ha]
    show (r'.1,r'.2.1,numS (Lib.itoa r'.2.2))=r'
    rw[Qfk (by have:=ho.after;omega) (by have:=ho.after;omega)]
   ·have h3:(cuts b s).length=3:=by simp at h5;omega
    refine Y.some ⟨by show (List.map numS _).length<=_;rw[List.length_map];show (cuts 44 (List.getD (cuts b s) 2 [])).length<=_;omega,fun r' h2 h4=>?_⟩
    obtain⟨c1,c2⟩:=comp r' h2 h4
    have hl:=Qhu r'
    rw[<-Qas h2 hb h4,h3] at hl
    have ha:r'.2.2=0:=by
     by_cases e:r'.2.2=0
     ·exact e
     ·rw[if_neg e] at hl;omega
    rw[c1,c2,<-ha]
  ·obtain⟨hx1,hx2⟩:=hx
   refine Y.bind (Q:=fun j=>j=true->∀r',Zu r'=0->Qv r' [b]=s->False) ?_ (fun j hj=>?_)
   ·refine Y.eqb (Qg7 x (by unfold BIG;omega)) ?_
    refine Y.bif (fun h1=>Y.some (fun _ r' h2 h3=>?_)) (fun h1=>?_)
    ·rw[hx2 r' h2 h3] at h1;simp[h2] at h1
    ·have h0:Zu x=0:=by simpa using h1
     refine Y.eqb (QkX (JD h0) [b] (by simp)) (Y.some (fun h r' h2 h3=>?_))
     rw[hx2 r' h2 h3] at h
     simp[h3] at h
   ·refine Y.bif (fun h=>Y.some (hno (hj h))) (fun h=>Y.some ⟨hx1,fun r' h2 h3=>by rw[hx2 r' h2 h3]⟩)
theorem QBf (s:List UInt8) (hs:s.length<=100000):Y (QfR s) (Qxq s 32):=by
 have hlen:=QbT 32 s
 have hin:∀i:Nat,i<(cuts 32 s).length->inB (i:Int) (cuts 32 s)=true:=fun i h=>Qh _ i h
 have hn:∀i:Nat,(List.getD (cuts 32 s) i []).length<=s.length:=QaC 32 s
 have hno:(∀r',Zu r'=0->Qv r' [32]=s->False)->Qxq s 32 (([],(0,0)),false):=fun h=>⟨by simp,fun r' h1 h2=>(h r' h1 h2).elim⟩
 have yn:∀(i:Nat) (n:Nat),Y (QC (List.getD (cuts 32 s) i []) (n:Int)) (fun r=>∀k,0<=k->k<=9999999->List.getD (cuts 32 s) i []=Lib.itoa k->(Lib.itoa k).length<=n->r=(k,true)):=fun i n=>by
  obtain⟨r,h1,_⟩:=Qd5 (List.getD (cuts 32 s) i []) (n:Int) (by have:=hn i;unfold BIG;omega)
  refine⟨r,h1,fun k h0 h9 hk hl=>?_⟩
  rw[hk,QnR h0 h9 n hl] at h1
  exact (Option.some.inj h1).symm
 have il:∀(k:Int) (n:Nat),0<=k->k<10 ^ n->1<=n->(Lib.itoa k).length<=n:=fun k n h0 h1 hn=>by
  obtain⟨m,rfl⟩:=aLA h0
  rw[QcP,Lib.decDigits_length]
  refine QfS n m ?_ hn
  have:((10:Int) ^ n)=(((10:Nat) ^ n:Nat):Int):=by norm_cast
  omega
 unfold QfR
 refine Y.eqb (QaL s 32 (by unfold LIM;omega)) ?_
 refine Y.bind (Q:=fun j=>(j=false->((cuts 32 s).length=3\/(cuts 32 s).length=5))/\(j=true->∀r',Zu r'=0->Qv r' [32]=s->False)) ?_ (fun j hj=>?_)
 ·have word:∀r',Zu r'=0->Qv r' [32]=s->(!decide (List.getD (cuts 32 s) (Int.toNat 1) []=[111,102]))=false:=fun r' h2 h3=>by
   rw[Qas h2 Qhv h3]
   show (!decide (([111,102]:List UInt8)=[111,102]))=false
   rfl
  refine Y.bif (fun h1=>Y.bif (fun h2=>Y.some ⟨(fun h=>by cases h),(fun _ r' h3 h4=>?_)⟩) (fun h2=>Y.grd (hin 1 ?_) (Y.some ⟨(fun _=>.inr ?_),(fun h r' h3 h4=>?_)⟩))) (fun h1=>Y.grd (hin 1 ?_) (Y.some ⟨(fun _=>.inl ?_),(fun h r' h3 h4=>?_)⟩))
  ·have hl:=Qhu r'
   rw[<-Qas h3 Qhv h4] at hl
   simp at h1 h2
   split at hl<;>omega
  ·simp at h2;omega
  ·simp at h2;omega
  ·rw[word r' h3 h4] at h;cases h
  ·simp at h1;omega
  ·simp at h1;omega
  ·rw[word r' h3 h4] at h;cases h
 ·obtain⟨hj1,hj2⟩:=hj
  refine Y.bif (fun h=>Y.some (hno (hj2 h))) (fun h=>?_)
  have h35:=hj1 h
  refine Y.grd (hin 0 (by omega)) (Y.bind (yn 0 1) (fun a ha=>Y.grd (hin 2 (by omega)) (Y.eqb (QaL _ 44 (by have:=hn 2;show (List.getD (cuts 32 s) 2 []).length<_;unfold LIM;omega)) ?_)))
  have hk:=QbT 44 (List.getD (cuts 32 s) 2 [])
  have hk2:=hn 2
  obtain⟨ks,hks⟩:∃ks,ks=cuts 44 (List.getD (cuts 32 s) (Int.toNat 2) []):=⟨_,rfl⟩
  have hks':ks=cuts 44 (List.getD (cuts 32 s) 2 []):=hks
  rw[<-hks]
  rw[<-hks'] at hk
  have hcm:∀r',Zu r'=0->Qv r' [32]=s->ks=r'.1.map Lib.itoa:=fun r' h2 h3=>by
   have ho:=JD h2
   rw[hks',Qas h2 Qhv h3]
   exact Qv2 r'.1 (fun e=>by have:=ho.len;rw[e] at this;simp at this) (fun k hk=>by have:=ho.keys k hk;omega)
  have hca:∀r',Zu r'=0->Qv r' [32]=s->a=(r'.2.1,true):=fun r' h2 h3=>by
   have ho:=JD h2
   refine ha r'.2.1 (by have:=ho.need;omega) (by have:=ho.need;omega) (by rw[Qas h2 Qhv h3];rfl) (il _ 1 (by have:=ho.need;omega) (by have:=ho.need;omega) (by omega))
  refine Y.bind (Q:=fun (x:Bool×TRu)=>x.2.1.length<=s.length+1/\∀r',Zu r'=0->Qv r' [32]=s->x=(true,r'.1,r'.2.1,0)) ?_ (fun x hx=>?_)
  ·refine Y.loop (fun n (st:Bool×Int×List Int×Int×Int)=>∃i:Nat,st.2.1=(i:Int)/\i<=ks.length/\n=ks.length - i/\st.2.2.1.length=i/\∀r',Zu r'=0->Qv r' [32]=s->st.1=true/\st.2.2=(r'.1.take i,r'.2.1,0)) (fun n st hI=>?_) ks.length _ ⟨0,rfl,by omega,by omega,rfl,fun r' h2 h3=>by rw[hca r' h2 h3];exact⟨rfl,by simp⟩⟩
   obtain⟨i,hi,hle,hnn,hac,hcomp⟩:=hI
   obtain⟨ok,i',acc,nd,af⟩:=st
   have hi:i'=(i:Int):=hi
   subst hi
   have hac:acc.length=i:=hac
   refine Y.bif (fun h1=>?_) (fun h1=>Y.some ⟨by show acc.length<=_;omega,fun r' h2 h3=>?_⟩)
   ·have hlt:i<ks.length:=by simp at h1;omega
    have hwl:(ks[i]).length<=s.length:=by
     have:ks[i] ∈ cuts 44 (List.getD (cuts 32 s) 2 []):=hks' ▸ aLl hlt
     have:=QdX 44 _ _ this;omega
    have hg:List.getD ks (Int.toNat (i:Int)) []=ks[i]:=Qg ks i _ hlt
    refine Y.grd (Qh _ i hlt) ?_
    have yk:Y (QC (List.getD ks (Int.toNat (i:Int)) []) 3) (fun y=>∀r',Zu r'=0->Qv r' [32]=s->∃hr:i<r'.1.length,y=(r'.1[i],true)):=by
     obtain⟨y,h4,_⟩:=Qd5 (List.getD ks (Int.toNat (i:Int)) []) 3 (by rw[hg];unfold BIG;omega)
     refine⟨y,h4,fun r' h2 h3=>?_⟩
     have hm:=hcm r' h2 h3
     have hr:i<r'.1.length:=by rw[hm] at hlt;simpa using hlt
     have ho:=(JD h2).keys _ (aLl hr)
     have e:ks[i]=Lib.itoa r'.1[i]:=by rw[List.getElem_of_eq hm hlt];simp
     rw[hg,e] at h4
     have:=QnR (k:=r'.1[i]) (by omega) (by omega) 3 (il _ 3 (by omega) (by omega) (by omega))
     have h4':QC (Lib.itoa r'.1[i]) ((3:Nat):Int)=some y:=h4
     rw[this] at h4'
     exact⟨hr,(Option.some.inj h4').symm⟩
    refine Y.bind yk (fun y hy=>?_)
    refine Y.bind (Q:=fun j=>∀r',Zu r'=0->Qv r' [32]=s->j=true) ?_ (fun j hj=>?_)
    ·refine Y.bif (fun h5=>Y.some (fun r' h2 h3=>by obtain⟨_,e⟩:=hy r' h2 h3;rw[e])) (fun h5=>Y.some (fun r' h2 h3=>?_))
     have:=(hcomp r' h2 h3).1
     rw[this] at h5;cases h5
    ·refine Y.grd (ZW _ _ (by show acc.length<_;omega)) (Y.some ?_)
     refine⟨ks.length - (i+1),by omega,i+1,wsucc hlt (by unfold BIG;omega),by omega,rfl,by show (List.append acc [y.1]).length=_;simp[hac],fun r' h2 h3=>⟨hj r' h2 h3,?_⟩⟩
     obtain⟨hr,e⟩:=hy r' h2 h3
     have hc2:=(hcomp r' h2 h3).2
     simp only[aLe] at hc2
     show (List.append acc [y.1],nd,af)=_
     rw[e,hc2.1,hc2.2.1,hc2.2.2,List.take_add_one,aLf hr]
     rfl
   ·have hge:i=ks.length:=by simp at h1;omega
    obtain⟨c1,c2⟩:=hcomp r' h2 h3
    have hkl:ks.length=r'.1.length:=by rw[hcm r' h2 h3];simp
    show (ok,acc,nd,af)=_
    have c1:ok=true:=c1
    have c2:(acc,nd,af)=(r'.1.take i,r'.2.1,0):=c2
    rw[c1,c2,hge,hkl,List.take_length]
  ·obtain⟨hx1,hx2⟩:=hx
   refine Y.bind (Q:=fun (z:Bool×TRu)=>z.2.1.length<=s.length+1/\∀r',Zu r'=0->Qv r' [32]=s->z=(true,r')) ?_ (fun z hz=>?_)
   ·refine Y.bif (fun h5=>?_) (fun h5=>?_)
    ·have h5:(cuts 32 s).length=5:=by simp at h5;omega
     refine Y.grd (hin 4 (by omega)) (Y.bind (yn 4 3) (fun y hy=>?_))
     have wd:∀r',Zu r'=0->Qv r' [32]=s->r'.2.2 ≠ 0/\cuts 32 s=[Lib.itoa r'.2.1,[111,102],Qa1 r'.1 [44],[97,102,116,101,114],Lib.itoa r'.2.2]:=fun r' h2 h3=>by
      have hw:=Qas h2 Qhv h3
      have hl:=Qhu r'
      rw[<-hw,h5] at hl
      have hne:r'.2.2 ≠ 0:=fun e=>by rw[if_pos e] at hl;omega
      refine⟨hne,?_⟩
      rw[hw];unfold QhD;rw[if_neg hne];rfl
     have hya:∀r',Zu r'=0->Qv r' [32]=s->y=(r'.2.2,true):=fun r' h2 h3=>by
      have ho:=(JD h2).after
      exact hy r'.2.2 (by omega) (by omega) (by rw[(wd r' h2 h3).2];rfl) (il _ 3 (by omega) (by omega) (by omega))
     refine Y.bind (Q:=fun j=>∀r',Zu r'=0->Qv r' [32]=s->j=true) ?_ (fun j hj=>Y.some ⟨hx1,fun r' h2 h3=>by rw[hj r' h2 h3,hx2 r' h2 h3,hya r' h2 h3]⟩)
     refine Y.bif (fun _=>Y.bif (fun _=>Y.grd (hin 3 (by omega)) (Y.bif (fun _=>Y.some (fun r' h2 h3=>?_)) (fun h6=>Y.some (fun r' h2 h3=>?_)))) (fun h6=>Y.some (fun r' h2 h3=>?_))) (fun h6=>Y.some (fun r' h2 h3=>?_))
     ·have ho:=(JD h2).after
      have:=(wd r' h2 h3).1
      rw[hya r' h2 h3];simp;omega
     ·rw[(wd r' h2 h3).2] at h6
      simp at h6
     ·rw[hya r' h2 h3] at h6;cases h6
     ·rw[hx2 r' h2 h3] at h6;cases h6
    ·have h3':(cuts 32 s).length=3:=by simp at h5;omega
     refine Y.some ⟨hx1,fun r' h2 h3=>?_⟩
     have hl:=Qhu r'
     rw[<-Qas h2 Qhv h3,h3'] at hl
     have hz:r'.2.2=0:=by
      by_cases e:r'.2.2=0
      ·exact e
      ·rw[if_neg e] at hl;omega
     rw[hx2 r' h2 h3,<-hz]
   ·obtain⟨hz1,hz2⟩:=hz
    refine Y.bind (Q:=fun (u:Bool×TRu)=>u.2.1.length<=s.length+1/\∀r',Zu r'=0->Qv r' [32]=s->u=(true,r')) ?_ (fun u hu=>Y.some ⟨hu.1,fun r' h2 h3=>by rw[hu.2 r' h2 h3]⟩)
    refine Y.bif (fun _=>Y.eqb (QiG z.2 (by unfold BIG;omega)) (Y.some ⟨hz1,fun r' h2 h3=>by rw[hz2 r' h2 h3];simp[h2]⟩)) (fun h6=>Y.some ⟨hz1,fun r' h2 h3=>?_⟩)
    rw[hz2 r' h2 h3] at h6;cases h6
end GL
end Go.Dx
set_option maxHeartbeats 2000000
namespace Go.Dx
namespace GL
abbrev TX:=Int×Int×List (Int×Int)×List TOut
theorem Qgj (l:List (Int×Int)) (hl:l.length<BIG) (x:Int×Int):Qx l x=some (decide (x ∈ l)):=by
 unfold Qx Y0
 rw[QcM l (fun a=>decide (x=a)) _ (fun i h=>?_) (by simp only[dge,aLC]),aLc,ZZ,any_eq]
 ·exact congrArg some (decide_eq_decide.2 Iff.rfl)
 ·simp only[dlt h,Qh l i h,Qg l i _ h,aLB,wsucc h hl,Qlc]
  cases decide (x=l[i])<;>rfl
theorem YE (l:List (Int×Int)) (hl:l.length<BIG) (x:Int×Int):ZH l x=some (decide (x ∈ l)):=by
 unfold ZH
 rw[Qon l (fun a=>decide (a=x)) _ (fun i h=>?_) (by simp only[dge,aLC]),any_eq']
 ·exact congrArg some (decide_eq_decide.2 Iff.rfl)
 ·simp only[dlt h,Qh l i h,Qg l i _ h,aLB,wsucc h hl,Qlc]
  cases decide (l[i]=x)<;>rfl
def mRf (l:List (Int×Int)) (i:Nat) (r:Int×Int):Int:=if mRef r then (if r ∈ l.take i then 7 else 0) else 3
def mTxO (t:TX):Int:=if code (fun _ o=>mOut o) t.2.2.2=0 then (if t.1=1/\(List.getD t.2.2.2 0 (0,([],(0,0)))).1<100 then 8 else 0) else code (fun _ o=>mOut o) t.2.2.2
def mTxF (t:TX):Int:=if mIn t.1 0 2&&(decide (t.1=0) == decide (t.2.1=0)) then (if decide (t.1=0) || mIn t.2.1 1 999 then (if mIn (t.2.2.1.length:Int) 1 4&&mIn (t.2.2.2.length:Int) 1 4 then (if code (mRf t.2.2.1) t.2.2.1=0 then mTxO t else code (mRf t.2.2.1) t.2.2.1) else 2) else 3) else 1
structure bT (t:TX):Prop where
 ins:t.2.2.1.length<BIG
 outs:t.2.2.2.length<BIG
 keys:∀o,o ∈ t.2.2.2->o.2.1.length<BIG
theorem QtH (o:TOut) (hl:o.2.1.length<BIG):QaZ o=some (mOut o):=by
 unfold QaZ mOut
 rw[ZR,aLc,Qg7 _ hl]
 cases mIn o.1 1 1000000<;>rfl
theorem Qyq (n:Int):Qbh n=some (!mIn n 1 4):=by
 unfold Qbh
 have e2:(decide (n<1) || decide (4<n)) = !mIn n 1 4:=by
  unfold mIn;rw[Bool.eq_iff_iff];simp;try omega
 rw[<-e2]
 cases decide (n<1)<;>rfl
theorem QzX (t:TX) (h:0<t.2.2.2.length):((bif decide (t.1=1) then bif inB 0 t.2.2.2 then some (decide ((List.getD t.2.2.2 (Int.toNat 0) (0,([],(0,0)))).1<100)) else none else some false:Option Bool).bind fun j=>bif j then some (8:Int) else some 0)=some (if t.1=1/\(List.getD t.2.2.2 0 (0,([],(0,0)))).1<100 then 8 else 0):=by
 by_cases h1:t.1=1
 ·rw[aLE h1,aLB,QV (by omega) (by omega),aLB,aLc]
  show (bif decide ((List.getD t.2.2.2 0 (0,([],(0,0)))).1<100) then some (8:Int) else some 0)=_
  by_cases h2:(List.getD t.2.2.2 0 (0,([],(0,0)))).1<100
  ·rw[aLE h2,if_pos ⟨h1,h2⟩];rfl
  ·rw[aLD h2,if_neg (fun h=>h2 h.2)];rfl
 ·rw[aLD h1,if_neg (fun h=>h1 h.1)];rfl
theorem QoV (t:TX) (hb:bT t) (h:0<t.2.2.2.length):QgQ t=some (mTxO t):=by
 unfold QgQ mTxO
 rw[Qbq t.2.2.2 (fun _ o=>mOut o) _ (fun i h=>?_) (by simp only[dge,aLC]),QzX t h]
 ·split<;>rfl
 ·have hk:=hb.keys _ (aLl h)
  simp only[dlt h,Qh _ i h,Qg _ i _ h,aLB,Zp,QiG _ hk,aLc,wsucc h hb.outs]
  unfold mOut
  cases mIn t.2.2.2[i].1 1 1000000
  ·rfl
  ·by_cases h3:Zu t.2.2.2[i].2=0
   ·rw[aLE h3];simp[h3]
   ·rw[aLD h3];simp[h3]
theorem Qf5 (t:TX) (hb:bT t):Qaj t=some (mTxF t):=by
 unfold Qaj mTxF
 simp only[Zp,Qdk,aLc,beqB]
 cases h1:mIn t.1 0 2
 ·rfl
 ·simp only[Bool.not_true,aLC,aLc,Bool.true_and]
  by_cases h2:decide (t.1=0)=decide (t.2.1=0)
  ·rw[aLE h2,beq_iff_eq.2 h2,if_pos rfl]
   simp only[Bool.not_true,aLC]
   by_cases h3:t.1=0
   all_goals skip
   ·rw[aLE h3]
    simp only[Bool.not_true,aLC,aLc,Bool.true_or,if_true]
    cases h4:mIn (t.2.2.1.length:Int) 1 4<;>cases h5:mIn (t.2.2.2.length:Int) 1 4<;>try rfl
    simp only[Bool.not_true,aLC,aLc,Bool.true_and,if_true]
    rw[ZA] at h5
    rw[Qbq t.2.2.1 (mRf t.2.2.1) _ (fun i h=>?_) (by simp only[dge,aLC]),QoV t hb (by omega)]
    ·split<;>rfl
    ·simp only[dlt h,Qh _ i h,Qg _ i _ h,Jf _ i (Nat.le_of_lt h),QdF,aLB,QhX,aLc,wsucc h hb.ins,YE _ (Qfu hb.ins i)]
     unfold mRf
     cases mRef t.2.2.1[i]<;>by_cases hm:t.2.2.1[i] ∈ t.2.2.1.take i<;>simp[hm]
   ·rw[aLD h3]
    simp only[Bool.not_false,aLB,aLc,Bool.false_or]
    cases h6:mIn t.2.1 1 999<;>try rfl
    simp only[Bool.not_true,aLC,aLc,if_true]
    cases h4:mIn (t.2.2.1.length:Int) 1 4<;>cases h5:mIn (t.2.2.2.length:Int) 1 4<;>try rfl
    simp only[Bool.not_true,aLC,aLc,Bool.true_and,if_true]
    rw[ZA] at h5
    rw[Qbq t.2.2.1 (mRf t.2.2.1) _ (fun i h=>?_) (by simp only[dge,aLC]),QoV t hb (by omega)]
    ·split<;>rfl
    ·simp only[dlt h,Qh _ i h,Qg _ i _ h,Jf _ i (Nat.le_of_lt h),QdF,aLB,QhX,aLc,wsucc h hb.ins,YE _ (Qfu hb.ins i)]
     unfold mRf
     cases mRef t.2.2.1[i]<;>by_cases hm:t.2.2.1[i] ∈ t.2.2.1.take i<;>simp[hm]
  ·rw[aLD h2,beq_eq_false_iff_ne.2 h2]
   rfl
theorem Quo (t:TX) (hb:bT t):Qge t=some (mTxF t):=by
 unfold Qge mTxF
 simp only[ZR,QhY,Qyq,aLc,beqB]
 cases h1:mIn t.1 0 2
 ·rfl
 ·simp only[Bool.not_true,aLC,aLc,Bool.true_and]
  by_cases h2:decide (t.1=0)=decide (t.2.1=0)
  ·have h20:decide (t.2.1=0)=decide (t.1=0):=h2.symm
   rw[aLE h2,beq_iff_eq.2 h2,if_pos rfl,h20]
   simp only[Bool.not_true,aLC]
   have rest:∀(hx:(decide (t.1=0) || mIn t.2.1 1 999)=true),((bif !mIn (t.2.2.1.length:Int) 1 4 then some true else (some (!mIn (t.2.2.2.length:Int) 1 4):Option Bool).bind fun y39=>some y39).bind fun j40=>bif j40 then some 2 else
     (Qf (S:=Int) (X:=(Unit)⊕(Int)) (fun (s45:Int)=>
 bif (decide ((s45:Int)<(List.length t.2.2.1:Int))) then
 bif (inB s45 t.2.2.1) then
 (QbR (List.getD t.2.2.1 (Int.toNat s45) (0,0))).bind fun (y46:Bool)=>
 bif (!y46) then
 some (Sum.inr (Sum.inr 3))
 else
 bif (QT 0 s45 t.2.2.1) then
 (Qx (cut 0 s45 t.2.2.1) (List.getD t.2.2.1 (Int.toNat s45) (0,0))).bind fun (y47:Bool)=>
 bif y47 then
 some (Sum.inr (Sum.inr 7))
 else
 some (Sum.inl (IntKind.wrap .i64 (s45+1)))
 else none
 else none
 else
 some (Sum.inr (Sum.inl ()))) 0).bind fun (j48:(Unit)⊕(Int))=>
 Sum.elim (fun (j49:Unit)=>
 (Qf (S:=Int) (X:=(Unit)⊕(Int)) (fun (s53:Int)=>
 bif (decide ((s53:Int)<(List.length t.2.2.2:Int))) then
 bif (inB s53 t.2.2.2) then
 (QaZ (List.getD t.2.2.2 (Int.toNat s53) (0,([],(0,0))))).bind fun (y54:Int)=>
 bif (!decide ((y54:Int)=0)) then
 some (Sum.inr (Sum.inr y54))
 else
 some (Sum.inl (IntKind.wrap .i64 (s53+1)))
 else none
 else
 some (Sum.inr (Sum.inl ()))) 0).bind fun (j55:(Unit)⊕(Int))=>
 Sum.elim (fun (j56:Unit)=>
 (bif (decide ((t.1:Int)=1)) then
 bif (inB 0 t.2.2.2) then
 some (decide (((List.getD t.2.2.2 (Int.toNat 0) (0,([],(0,0)))).1:Int)<100))
 else none
 else
 some false:Option (Bool)).bind fun (j58:Bool)=>
 bif j58 then
 some 8
 else
 some 0) (fun (j57:Int)=>
 some j57) j55) (fun (j50:Int)=>
 some j50) j48:Option Int)=some (if mIn (t.2.2.1.length:Int) 1 4&&mIn (t.2.2.2.length:Int) 1 4 then (if code (mRf t.2.2.1) t.2.2.1=0 then mTxO t else code (mRf t.2.2.1) t.2.2.1) else 2):=fun hx=>by
    cases h4:mIn (t.2.2.1.length:Int) 1 4<;>cases h5:mIn (t.2.2.2.length:Int) 1 4<;>try rfl
    simp only[Bool.not_true,aLC,aLc,Bool.true_and,if_true]
    rw[ZA] at h5
    rw[Qbq t.2.2.1 (mRf t.2.2.1) _ (fun i h=>?_) (by simp only[dge,aLC])]
    ·have ho:(Qf (S:=Int) (X:=(Unit)⊕(Int)) (fun (s53:Int)=>
 bif (decide ((s53:Int)<(List.length t.2.2.2:Int))) then
 bif (inB s53 t.2.2.2) then
 (QaZ (List.getD t.2.2.2 (Int.toNat s53) (0,([],(0,0))))).bind fun (y54:Int)=>
 bif (!decide ((y54:Int)=0)) then
 some (Sum.inr (Sum.inr y54))
 else
 some (Sum.inl (IntKind.wrap .i64 (s53+1)))
 else none
 else
 some (Sum.inr (Sum.inl ()))) 0).bind (fun (j55:(Unit)⊕(Int))=>
 Sum.elim (fun (j56:Unit)=>
 (bif (decide ((t.1:Int)=1)) then
 bif (inB 0 t.2.2.2) then
 some (decide (((List.getD t.2.2.2 (Int.toNat 0) (0,([],(0,0)))).1:Int)<100))
 else none
 else
 some false:Option (Bool)).bind fun (j58:Bool)=>
 bif j58 then
 some 8
 else
 some 0) (fun (j57:Int)=>
 some j57) j55)=some (mTxO t):=by
      unfold mTxO
      rw[Qbq t.2.2.2 (fun _ o=>mOut o) _ (fun i h=>?_) (by simp only[dge,aLC]),QzX t (by omega)]
      ·split<;>rfl
      ·have hk:=hb.keys _ (aLl h)
       simp only[dlt h,Qh _ i h,Qg _ i _ h,aLB,QtH _ hk,aLc,wsucc h hb.outs]
       by_cases h3:mOut t.2.2.2[i]=0
       ·rw[aLE h3];simp[h3]
       ·rw[aLD h3];simp[h3]
     rw[ho]
     split<;>rfl
    ·simp only[dlt h,Qh _ i h,Qg _ i _ h,Jf _ i (Nat.le_of_lt h),QdF,aLB,Qkp,aLc,wsucc h hb.ins,Qgj _ (Qfu hb.ins i)]
     unfold mRf
     cases mRef t.2.2.1[i]<;>by_cases hm:t.2.2.1[i] ∈ t.2.2.1.take i<;>simp[hm]
   cases h3:decide (t.1=0) with
   | true=>
    simp only[Bool.not_true,aLC,aLc,Bool.true_or,if_true]
    exact rest (by rw[h3];rfl)
   | false=>
    simp only[Bool.not_false,aLB,aLc,Bool.false_or]
    cases h6:mIn t.2.1 1 999
    ·rfl
    ·simp only[Bool.not_true,aLC,aLc,if_true]
     exact rest (by rw[h3,h6];rfl)
  ·rw[aLD h2,beq_eq_false_iff_ne.2 h2]
   rfl
end GL
end Go.Dx
set_option maxHeartbeats 2000000
namespace Go.Dx
namespace GL
structure okT (t:TX):Prop where
 kind:0<=t.1/\t.1<=2
 mem:(t.1=0/\t.2.1=0)\/(t.1 ≠ 0/\1<=t.2.1/\t.2.1<=999)
 li:1<=t.2.2.1.length/\t.2.2.1.length<=4
 lo:1<=t.2.2.2.length/\t.2.2.2.length<=4
 ref:∀r,r ∈ t.2.2.1->mRef r=true
 nd:t.2.2.1.Nodup
 out:∀o,o ∈ t.2.2.2->(1<=o.1/\o.1<=1000000)/\Zu o.2=0
theorem Qfo {r:Int×Int}:mRef r=true↔(1<=r.1/\r.1<=60)/\(0<=r.2/\r.2<=3):=by
 unfold mRef;rw[aLg,ZA,ZA]
theorem QC9 {α:Type} [DecidableEq α] (l:List α) (h:∀i (hi:i<l.length),l[i] ∉ l.take i):l.Nodup:=by
 rw[List.nodup_iff_pairwise_ne,List.pairwise_iff_getElem]
 intro i j hi hj hij he
 refine h j hj ?_
 rw[List.mem_take_iff_getElem]
 exact⟨i,by omega,he⟩
theorem Qbm {t:TX} (h:mTxF t=0):okT t:=by
 unfold mTxF at h
 cases h1:mIn t.1 0 2&&(decide (t.1=0) == decide (t.2.1=0)) with
 | false=>rw[h1] at h;simp at h
 | true=>
  rw[h1,if_pos rfl] at h
  cases h2:(decide (t.1=0) || mIn t.2.1 1 999) with
  | false=>rw[h2] at h;simp at h
  | true=>
   rw[h2,if_pos rfl] at h
   cases h3:(mIn (t.2.2.1.length:Int) 1 4&&mIn (t.2.2.2.length:Int) 1 4) with
   | false=>rw[h3] at h;simp at h
   | true=>
    rw[h3,if_pos rfl] at h
    by_cases h4:code (mRf t.2.2.1) t.2.2.1=0
    ·rw[if_pos h4] at h
     unfold mTxO at h
     by_cases h5:code (fun _ o=>mOut o) t.2.2.2=0
     ·rw[aLg,ZA,beq_iff_eq] at h1
      rw[aLg,ZA,ZA] at h3
      have hr:∀i (hi:i<t.2.2.1.length),mRef t.2.2.1[i]=true/\t.2.2.1[i] ∉ t.2.2.1.take i:=fun i hi=>by
       have hc:=QdW h4 i _ (aLf hi)
       unfold mRf at hc
       cases h6:mRef t.2.2.1[i] with
       | false=>rw[h6] at hc;simp at hc
       | true=>
        rw[h6,if_pos rfl] at hc
        exact⟨rfl,fun hm=>by rw[if_pos hm] at hc;cases hc⟩
      refine⟨h1.1,?_,by omega,by omega,fun r hr'=>?_,QC9 _ fun i hi=>(hr i hi).2,fun o ho=>?_⟩
      ·by_cases h0:t.1=0
       ·left
        have:=h1.2
        rw[aLE h0] at this
        exact⟨h0,aLG this.symm⟩
       ·right
        rw[aLD h0,Bool.false_or,ZA] at h2
        exact⟨h0,h2⟩
      ·obtain⟨i,hi,rfl⟩:=List.mem_iff_getElem.1 hr'
       exact (hr i hi).1
      ·obtain⟨i,hi,rfl⟩:=List.mem_iff_getElem.1 ho
       have hc:=QdW h5 i _ (aLf hi)
       unfold mOut at hc
       cases h6:mIn t.2.2.2[i].1 1 1000000 with
       | false=>rw[h6] at hc;simp at hc
       | true=>
        rw[h6,if_pos rfl] at hc
        exact⟨ZA.1 h6,hc⟩
     ·rw[if_neg h5] at h;exact absurd h h5
    ·rw[if_neg h4] at h;exact absurd h h4
theorem okT.b {t:TX} (h:okT t):bT t:=by
 have hB:BIG=4611686018427387904:=rfl
 refine⟨by have:=h.li;omega,by have:=h.lo;omega,fun o ho=>?_⟩
 have:=(JD (h.out o ho).2).len
 omega
def kw (k:Int):List UInt8:=if k=0 then [112,97,121] else if k=1 then [106,111,105,110] else [108,101,97,118,101]
def wRef (r:Int×Int):List UInt8:=Lib.itoa r.1++[58]++Lib.itoa r.2
def wOut (o:TOut):List UInt8:=Lib.itoa o.1++[61]++Qv o.2 [95]
def wTx (t:TX):List (List UInt8):=[kw t.1]++(if t.1=0 then [] else [Lib.itoa t.2.1])++[Lib.join (t.2.2.1.map wRef) [43]]++t.2.2.2.map wOut
def Qw (t:TX):List UInt8:=Lib.join (wTx t) [32]
theorem Ql2 (c:UInt8) (B:Nat):∀ws:List (List UInt8),(∀w,w ∈ ws->w.length<=B)->(Lib.join ws [c]).length<=(B+1) * ws.length
 | [],_=>by simp[Lib.join_nil]
 | [x],h=>by rw[Lib.join_one];have:=h x aLm;simp;omega
 | x::y::r,h=>by
  have h1:=h x aLm
  have h2:=Ql2 c B (y::r) fun w hw=>h w (aLp _ hw)
  rw[Qfj,aLi,aLh]
  have e:(B+1) * (x::y::r).length=(B+1) * (y::r).length+(B+1):=by rw[aLh,Nat.mul_succ]
  omega
theorem Qy0 {r:Int×Int} (h:mRef r=true):(wRef r).length<=40:=by
 rw[Qfo] at h
 have h1:=Zh (n:=r.1) (by omega) (by omega)
 have h2:=Zh (n:=r.2) (by omega) (by omega)
 unfold wRef
 simp only[aLi,aLh,aLj];omega
theorem QyX {o:TOut} (h:(1<=o.1/\o.1<=1000000)/\Zu o.2=0):(wOut o).length<=140:=by
 have h1:=Zh (n:=o.1) (by omega) (by omega)
 have h2:=Qft h.2 95
 unfold wOut
 simp only[aLi,aLh,aLj];omega
theorem Qtb {t:TX} (h:okT t):(Lib.join (t.2.2.1.map wRef) [43]).length<=164:=by
 have:=Ql2 43 40 (t.2.2.1.map wRef) fun w hw=>by
  obtain⟨r,hr,rfl⟩:=List.mem_map.1 hw
  exact Qy0 (h.ref r hr)
 rw[List.length_map] at this
 have:=h.li
 omega
theorem QBE (k:Int):(kw k).length<=5:=by
 unfold kw
 split
 ·simp
 ·split<;>simp
theorem QuS {t:TX} (h:okT t):(∀w,w ∈ wTx t->w.length<=164)/\(wTx t).length<=7:=by
 refine⟨fun w hw=>?_,?_⟩
 ·unfold wTx at hw
  simp only[List.mem_append,aLs] at hw
  rcases hw with ((rfl | hw) | rfl) | hw
  ·have:=QBE t.1;omega
  ·split at hw
   ·simp at hw
   ·rw[aLs] at hw;subst hw
    have:=h.mem
    have:=Zh (n:=t.2.1) (by omega) (by omega)
    omega
  ·exact Qtb h
  ·obtain⟨o,ho,rfl⟩:=List.mem_map.1 hw
   have:=QyX (h.out o ho);omega
 ·unfold wTx
  have:=h.lo
  split<;>simp<;>omega
theorem QBZ {t:TX} (h:okT t):(Qw t).length<=1155:=by
 have:=Ql2 32 164 (wTx t) (QuS h).1
 have:=(QuS h).2
 unfold Qw
 omega
theorem Qoz {t:TX} (h:okT t):Qek t=some (if (Qw t).length<=300 then (Qw t,0) else ([],2)):=by
 have hk:=h.kind
 have hm:=h.mem
 have hli:=h.li
 have hlo:=h.lo
 have hB:BIG=4611686018427387904:=rfl
 have hL:LIM=1073741824:=rfl
 have hrl:=Qtb h
 have htl:=QBZ h
 unfold Qek QbJ
 rw[aLc,QV (by omega) (by show t.1<((3:Nat):Int);omega),aLB]
 have hkw:List.getD ([[112,97,121],[106,111,105,110],[108,101,97,118,101]]:List (List UInt8)) (Int.toNat t.1) []=kw t.1:=by
  have:t.1=0\/t.1=1\/t.1=2:=by omega
  rcases this with e | e | e<;>rw[e]<;>rfl
 simp only[hkw]
 have e1:(bif !decide (t.1=0) then (JH t.2.1).bind fun (y25:List UInt8)=>bif decide (List.length ([kw t.1]:List (List UInt8))+List.length ([y25]:List (List UInt8))<=LIM) then some (List.append ([kw t.1]:List (List UInt8)) ([y25]:List (List UInt8))) else none else some ([kw t.1]:List (List UInt8)))=some ([kw t.1]++(if t.1=0 then [] else [Lib.itoa t.2.1])):=by
  by_cases h0:t.1=0
  ·rw[aLE h0,if_pos h0];rfl
  ·rw[aLD h0,if_neg h0,Qd1 (by omega) (by omega),aLc,Qz (by simp;omega)];rfl
 rw[e1,aLc]
 rw[Yh (σ:=List (List UInt8)) t.2.2.1 (fun acc a=>acc++[wRef a]) (fun t i=>(t,i)) (fun t=>t) (fun t i=>t.length=i) _ (fun i hi x hx=>by
   have hr:=Qfo.1 (h.ref _ (aLl hi))
   have l1:=Zh (n:=t.2.2.1[i].1) (by omega) (by omega)
   have l2:=Zh (n:=t.2.2.1[i].2) (by omega) (by omega)
   refine⟨?_,by simp[hx]⟩
   simp only[dlt hi,Qh _ i hi,Qg _ i _ hi,aLB,Qd1 (n:=t.2.2.1[i].1) (by omega) (by omega),Qd1 (n:=t.2.2.1[i].2) (by omega) (by omega),aLc,wsucc hi (by omega),aLo]
   rw[Qz,Qz,Qz]
   ·rfl
   all_goals ((try simp only[aLi,aLh,aLj]);omega)) (fun t ht=>by simp only[dge,aLC]) [] rfl,aLc,foldl_map,aLx]
 have hj1:YF (t.2.2.1.map wRef) [43]=some (Lib.join (t.2.2.1.map wRef) [43]):=by
  unfold YF
  exact Qs9 _ _ (by rw[List.length_map];omega) (by omega)
 rw[hj1,aLc,Qz (by split<;>simp<;>omega)]
 rw[Yh (σ:=List (List UInt8)) t.2.2.2 (fun acc a=>acc++[wOut a]) (fun t i=>(t,i)) (fun t=>t) (fun t i=>t.length<=3+i) _ (fun i hi x hx=>by
   have ho:=h.out _ (aLl hi)
   have l1:=Zh (n:=t.2.2.2[i].1) (by omega) (by omega)
   have l2:=Qft ho.2 95
   refine⟨?_,by simp;omega⟩
   simp only[dlt hi,Qh _ i hi,Qg _ i _ hi,aLB,Qd1 (n:=t.2.2.2[i].1) (by omega) (by omega),QkX (JD ho.2) [95] (by simp),aLc,wsucc hi (by omega),aLo]
   rw[Qz,Qz,Qz]
   ·rfl
   all_goals ((try simp only[aLi,aLh,aLj]);omega)) (fun t ht=>by simp only[dge,aLC]) _ (by split<;>simp),aLc,foldl_map]
 have hw:List.append ([kw t.1]++(if t.1=0 then [] else [Lib.itoa t.2.1])) [Lib.join (t.2.2.1.map wRef) [43]]++t.2.2.2.map wOut=wTx t:=rfl
 rw[hw]
 have hj2:YF (wTx t) [32]=some (Qw t):=by
  unfold YF
  have:=(QuS h).2
  exact Qs9 _ _ (by omega) (by unfold Qw at htl;omega)
 rw[hj2,aLc]
 by_cases hlen:(Qw t).length<=300
 ·rw[aLD (by omega),if_pos hlen];rfl
 ·rw[aLE (by omega),if_neg hlen];rfl
theorem Qqi (x:List UInt8) (ws:List (List UInt8)) (c:UInt8):Lib.join (x::ws) [c]=x++(ws.map fun w=>c::w).flatten:=by
 rw[Lib.join_cons,Lib.joinTail]
 rfl
theorem QvT {α:Type} (l:List α) (g:α->List UInt8) (f:List UInt8×Int->Option ((List UInt8×Int)⊕List UInt8)) (B:Nat->Nat) (j:Nat)
  (hs:∀(i:Nat) (h:i<l.length) (acc:List UInt8),j<=i->acc.length<=B i->f (acc,(i:Int))=some (.inl (acc++g l[i],((i+1:Nat):Int)))/\(acc++g l[i]).length<=B (i+1))
  (he:∀acc,f (acc,(l.length:Int))=some (.inr acc)):∀(k i:Nat) (acc:List UInt8),i+k=l.length->j<=i->acc.length<=B i->Qf f (acc,(i:Int))=some (acc++((l.drop i).map g).flatten)
 | 0,i,acc,hi,_,_=>by
  obtain rfl:i=l.length:=by omega
  rw[QB (he acc)];simp
 | k+1,i,acc,hi,hj,ha=>by
  have h1:i<l.length:=by omega
  obtain⟨hs1,hs2⟩:=hs i h1 acc hj ha
  rw[Q2 hs1,QvT l g f B j hs he k (i+1) _ (by omega) (by omega) hs2,aLr h1,List.map_cons,List.flatten_cons,List.append_assoc]
theorem QBn (l:List (Int×Int)) (f:List UInt8×Int->Option ((List UInt8×Int)⊕List UInt8)) (acc:List UInt8) (ha:acc.length<=100) (hl:1<=l.length/\l.length<=4) (hb:∀r,r ∈ l->(wRef r).length<=40)
  (hs:∀(i:Nat) (h:i<l.length) (acc:List UInt8),acc.length<=10000->f (acc,(i:Int))=some (.inl (acc++((if i=0 then 32 else 43)::wRef l[i]),((i+1:Nat):Int))))
  (he:∀acc,f (acc,(l.length:Int))=some (.inr acc)):Qf f (acc,0)=some (acc++32::Lib.join (l.map wRef) [43]):=by
 cases l with
 | nil=>simp at hl
 | cons r l=>
  have h0:=hs 0 (by simp) acc (by omega)
  rw[if_pos rfl] at h0
  have h0:f (acc,0)=some (.inl (acc++32::wRef r,((1:Nat):Int))):=h0
  have hr:=hb r aLm
  rw[Q2 h0,QvT (r::l) (fun a=>43::wRef a) f (fun i=>200+50 * i) 1 (fun i hi a hj hale=>by
   have h2:=hs i hi a (by simp at hi hl;omega)
   rw[if_neg (by omega)] at h2
   have:=hb _ (aLl hi)
   exact⟨h2,by rw[aLi,aLh];omega⟩) he l.length 1 _ (by simp;omega) (by omega) (by rw[aLi,aLh];omega)]
  rw[List.map_cons,Qqi,List.map_map]
  simp[Function.comp_def]
theorem Qop {t:TX} (h:okT t):Y3 t=some (Qw t):=by
 have hk:=h.kind
 have hm:=h.mem
 have hli:=h.li
 have hlo:=h.lo
 have hB:BIG=4611686018427387904:=rfl
 have hL:LIM=1073741824:=rfl
 have hrl:=Qtb h
 unfold Y3
 rw[QV (by omega) (by show t.1<((3:Nat):Int);omega),aLB]
 obtain⟨hd,hhd⟩:∃hd,hd=if t.1=0 then kw t.1 else kw t.1++32::Lib.itoa t.2.1:=⟨_,rfl⟩
 have hdl:hd.length<=100:=by
  have h1:=QBE t.1
  rw[hhd]
  split
  ·omega
  ·have:=Zh (n:=t.2.1) (by omega) (by omega)
   rw[aLi,aLh];omega
 have e1:(bif !decide (t.1=0) then (QL t.2.1).bind fun (y26:List UInt8)=>
   bif decide (List.length (List.getD ([[112,97,121],[106,111,105,110,32],[108,101,97,118,101,32]]:List (List UInt8)) (Int.toNat t.1) [])+List.length y26<=LIM) then
   some (List.append (List.getD ([[112,97,121],[106,111,105,110,32],[108,101,97,118,101,32]]:List (List UInt8)) (Int.toNat t.1) []) y26)
   else none
   else some (List.getD ([[112,97,121],[106,111,105,110,32],[108,101,97,118,101,32]]:List (List UInt8)) (Int.toNat t.1) []))=some hd:=by
  rw[hhd]
  have:t.1=0\/t.1=1\/t.1=2:=by omega
  rcases this with e | e | e
  ·rw[e];rfl
  all_goals
   rw[Yk (by omega) (by omega),aLc,if_neg (by omega),aLD (by omega),Bool.not_false,aLB]
   have:=Zh (n:=t.2.1) (by omega) (by omega)
   rw[e,Qz (by simp;omega)]
   simp[kw]
 rw[e1,aLc]
 rw[QBn t.2.2.1 _ hd hdl hli (fun r hr=>Qy0 (h.ref r hr)) (fun i hi acc ha=>by
   have hr:=Qfo.1 (h.ref _ (aLl hi))
   have l1:=Zh (n:=t.2.2.1[i].1) (by omega) (by omega)
   have l2:=Zh (n:=t.2.2.1[i].2) (by omega) (by omega)
   simp only[dlt hi,Qh _ i hi,Qg _ i _ hi,aLB,Yk (n:=t.2.2.1[i].1) (by omega) (by omega),Yk (n:=t.2.2.1[i].2) (by omega) (by omega),aLc,wsucc hi (by omega),aLo]
   have es:(bif decide ((i:Int)=0) then some [32] else some [43]:Option (List UInt8))=some [if i=0 then 32 else 43]:=by
    by_cases h0:i=0
    ·rw[if_pos h0,aLE (by omega)];rfl
    ·rw[if_neg h0,aLD (by omega)];rfl
   rw[es,aLc,Qz,Qz,Qz,Qz]
   ·unfold wRef;simp
   all_goals ((try simp only[aLi,aLh,aLj]);omega)) (fun acc=>by simp only[dge,aLC]),aLc]
 have:=Qs5 t.2.2.2 (fun o=>32::wOut o) (fun (s44:List UInt8×Int)=>
 bif (decide ((s44.2:Int)<(List.length t.2.2.2:Int))) then
 bif decide (List.length s44.1+List.length [32]<=LIM) then
 bif (inB s44.2 t.2.2.2) then
 (QL (List.getD t.2.2.2 (Int.toNat s44.2) (0,([],(0,0)))).1).bind fun (y45:List UInt8)=>
 bif decide (List.length (List.append s44.1 [32])+List.length y45<=LIM) then
 bif decide (List.length (List.append (List.append s44.1 [32]) y45)+List.length [61]<=LIM) then
 bif (inB s44.2 t.2.2.2) then
 (Qei (List.getD t.2.2.2 (Int.toNat s44.2) (0,([],(0,0)))).2).bind fun (y46:List UInt8)=>
 (Qa6 y46 32 95).bind fun (y47:List UInt8)=>
 bif decide (List.length (List.append (List.append (List.append s44.1 [32]) y45) [61])+List.length y47<=LIM) then
 some (Sum.inl (List.append (List.append (List.append (List.append s44.1 [32]) y45) [61]) y47,IntKind.wrap .i64 (s44.2+1)))
 else none
 else none
 else none
 else none
 else none
 else none
 else
 some (Sum.inr s44.1)) (fun i=>400+200 * i) (fun i hi acc ha=>by
   have ho:=h.out _ (aLl hi)
   have l1:=Zh (n:=t.2.2.2[i].1) (by omega) (by omega)
   have l2:=Qft ho.2 95
   have l4:=Qft ho.2 32
   have l3:=QyX ho
   refine⟨?_,by rw[aLi,aLh];omega⟩
   have hsw:Qa6 (Qv t.2.2.2[i].2 [32]) 32 95=some (Qv t.2.2.2[i].2 [95]):=by
    have:=Qx3 (Qv t.2.2.2[i].2 [32]) 32 95 (by omega)
    rw[QyK (JD ho.2) Qhv] at this
    exact this
   simp only[dlt hi,Qh _ i hi,Qg _ i _ hi,aLB,Yk (n:=t.2.2.2[i].1) (by omega) (by omega),QoW (JD ho.2),hsw,aLc,wsucc hi (by omega),aLo]
   rw[Qz,Qz,Qz,Qz]
   ·unfold wOut;simp
   all_goals ((try simp only[aLi,aLh,aLj]);omega)) (fun acc=>by simp only[dge,aLC]) t.2.2.2.length 0 (hd++32::Lib.join (t.2.2.1.map wRef) [43]) (by omega) (by rw[aLi,aLh];omega)
 rw[show ((0:Nat):Int)=0 from rfl] at this
 rw[this,aLc,List.drop_zero]
 congr 1
 unfold Qw wTx
 rw[hhd]
 by_cases h0:t.1=0
 ·rw[if_pos h0,if_pos h0]
  simp only[List.append_nil,List.cons_append,aLx]
  rw[Qqi,List.map_cons,List.flatten_cons,List.map_map]
  simp[Function.comp_def]
 ·rw[if_neg h0,if_neg h0]
  simp only[List.cons_append,aLx]
  rw[Qqi,List.map_cons,List.map_cons,List.flatten_cons,List.flatten_cons,List.map_map]
  simp[Function.comp_def]
theorem Qw9 {t:TX} (h:mTxF t=0):QgY t=some (if (Qw t).length<=300 then (0,Qw t) else (2,[])):=by
 unfold QgY
 rw[Qf5 t (Qbm h).b,aLc,h,Qop (Qbm h)]
 simp only[decide_true,Bool.not_true,aLC,aLc]
 by_cases hlen:(Qw t).length<=300
 ·rw[aLD (by omega),if_pos hlen];rfl
 ·rw[aLE (by omega),if_neg hlen];rfl
end GL
end Go.Dx
set_option maxHeartbeats 2000000
namespace Go.Dx
namespace GL
theorem Qz9 (c:UInt8) (sep:UInt8) (h0:c ≠ sep):∀ws:List (List UInt8),(∀w,w ∈ ws->c ∉ w)->c ∉ Lib.join ws [sep]
 | [],_=>by simp[Lib.join_nil]
 | [x],h=>by rw[Lib.join_one];exact h x aLm
 | x::y::r,h=>by
  rw[Qfj,List.mem_append,List.mem_cons]
  rintro (h1 | h1 | h1)
  ·exact h x aLm h1
  ·exact h0 h1
  ·exact Qz9 c sep h0 (y::r) (fun w hw=>h w (aLp _ hw)) h1
theorem Qvb {r:Int×Int} (h:mRef r=true) (c:UInt8) (hc:c.toNat<48\/57<c.toNat) (h58:c ≠ 58):c ∉ wRef r:=by
 rw[Qfo] at h
 unfold wRef
 simp only[List.mem_append,aLs,not_or]
 exact⟨⟨QbC (by omega) c hc,h58⟩,QbC (by omega) c hc⟩
theorem QDP:Blank 61:=⟨by decide,by decide,by decide⟩
theorem QBz {o:TOut} (h:(1<=o.1/\o.1<=1000000)/\Zu o.2=0):(32:UInt8) ∉ wOut o:=by
 unfold wOut
 simp only[List.mem_append,aLs,not_or]
 exact⟨⟨QbC (by omega) 32 (by decide),by decide⟩,Qtm (JD h.2) Qhv (by decide)⟩
theorem QD6 (k:Int):(32:UInt8) ∉ kw k:=by
 unfold kw
 split
 ·decide
 ·split<;>decide
theorem QED {t:TX} (h:okT t):∀w,w ∈ wTx t->(32:UInt8) ∉ w:=by
 intro w hw
 unfold wTx at hw
 simp only[List.mem_append,aLs] at hw
 rcases hw with ((rfl | hw) | rfl) | hw
 ·exact QD6 t.1
 ·split at hw
  ·simp at hw
  ·rw[aLs] at hw;subst hw
   have:=h.mem
   exact QbC (by omega) 32 (by decide)
 ·refine Qz9 32 43 (by decide) _ fun w hw=>?_
  obtain⟨r,hr,rfl⟩:=List.mem_map.1 hw
  exact Qvb (h.ref r hr) 32 (by decide) (by decide)
 ·obtain⟨o,ho,rfl⟩:=List.mem_map.1 hw
  exact QBz (h.out o ho)
theorem QzY {t:TX} (h:okT t):cuts 32 (Qw t)=wTx t:=QdR 32 _ (by unfold wTx;simp) (QED h)
theorem QCa {t:TX} (h:okT t):cuts 43 (Lib.join (t.2.2.1.map wRef) [43])=t.2.2.1.map wRef:=by
 refine QdR 43 _ (fun e=>?_) fun w hw=>?_
 ·have:=h.li
  rw[List.map_eq_nil_iff] at e
  rw[e] at this;simp at this
 ·obtain⟨r,hr,rfl⟩:=List.mem_map.1 hw
  exact Qvb (h.ref r hr) 43 (by decide) (by decide)
theorem QD3 {r:Int×Int} (h:mRef r=true):Lib.cut (wRef r) [58]=(Lib.itoa r.1,Lib.itoa r.2,true):=by
 rw[Qfo] at h
 have:=QzR 58 (Lib.itoa r.1) (Lib.itoa r.2) (QbC (by omega) 58 (by decide))
 unfold wRef
 simpa using this
theorem QC8 {r:Int×Int} (h:mRef r=true):cuts 58 (wRef r)=[Lib.itoa r.1,Lib.itoa r.2]:=by
 rw[Qfo] at h
 have:wRef r=Lib.join [Lib.itoa r.1,Lib.itoa r.2] [58]:=by rw[Qfj,Lib.join_one];unfold wRef;simp
 rw[this]
 refine QdR 58 _ (by simp) fun w hw=>?_
 simp only[List.mem_cons,List.not_mem_nil,or_false] at hw
 rcases hw with rfl | rfl
 ·exact QbC (by omega) 58 (by decide)
 ·exact QbC (by omega) 58 (by decide)
theorem QDR {o:TOut} (h:(1<=o.1/\o.1<=1000000)/\Zu o.2=0):Lib.cut (wOut o) [61]=(Lib.itoa o.1,Qv o.2 [95],true):=by
 have:=QzR 61 (Lib.itoa o.1) (Qv o.2 [95]) (QbC (by omega) 61 (by decide))
 unfold wOut
 simpa using this
theorem Qxv {o:TOut} (h:(1<=o.1/\o.1<=1000000)/\Zu o.2=0):cuts 61 (wOut o)=[Lib.itoa o.1,Qv o.2 [95]]:=by
 have:wOut o=Lib.join [Lib.itoa o.1,Qv o.2 [95]] [61]:=by rw[Qfj,Lib.join_one];unfold wOut;simp
 rw[this]
 refine QdR 61 _ (by simp) fun w hw=>?_
 simp only[List.mem_cons,List.not_mem_nil,or_false] at hw
 rcases hw with rfl | rfl
 ·exact QbC (by omega) 61 (by decide)
 ·exact Qtm (JD h.2) QDP (by decide)
theorem QDw (s:List UInt8) (c:UInt8) (h:s.length<=1000000):Qef s [c]=some (Lib.cut s [c]):=by
 unfold Qef
 exact QDV _ (by omega)
theorem Qz8 (s sep:List UInt8):(Lib.cut s sep).1.length<=s.length/\(Lib.cut s sep).2.1.length<=s.length:=by
 unfold Lib.cut
 split
 ·simp[aLn,aLz];omega
 ·simp
theorem QrS (l:List (List UInt8)) (hl:l.length<BIG) (x:List UInt8):QW l x=some (idxF (fun a=>decide (x=a)) l):=by
 unfold QW
 refine QcM l (fun a=>decide (x=a)) _ (fun i h=>?_) (by simp only[dge,aLC])
 simp only[dlt h,Qh l i h,Qg l i _ h,aLB,wsucc h hl]
 cases decide (x=l[i])<;>rfl
theorem QEG (w:List UInt8):Y (QW [[112,97,121],[106,111,105,110],[108,101,97,118,101]] w) (fun k=>-1<=k/\k<=2/\∀j,0<=j->j<=2->w=kw j->k=j):=by
 refine⟨_,QrS _ (by decide) w,?_⟩
 unfold idxF
 simp only[first]
 by_cases h0:w=[112,97,121]
 ·subst h0
  refine⟨by simp,by simp,fun j h1 h2 h3=>?_⟩
  have:j=0\/j=1\/j=2:=by omega
  rcases this with rfl | rfl | rfl
  ·simp
  ·simp[kw] at h3
  ·simp[kw] at h3
 ·simp only[h0,decide_false,Bool.false_eq_true,if_false]
  by_cases h1:w=[106,111,105,110]
  ·subst h1
   refine⟨by simp,by simp,fun j h1 h2 h3=>?_⟩
   have:j=0\/j=1\/j=2:=by omega
   rcases this with rfl | rfl | rfl
   ·simp[kw] at h3
   ·simp
   ·simp[kw] at h3
  ·simp only[h1,decide_false,Bool.false_eq_true,if_false]
   by_cases h2:w=[108,101,97,118,101]
   ·subst h2
    refine⟨by simp,by simp,fun j h1 h2 h3=>?_⟩
    have:j=0\/j=1\/j=2:=by omega
    rcases this with rfl | rfl | rfl
    ·simp[kw] at h3
    ·simp[kw] at h3
    ·simp
   ·simp only[h2,decide_false,Bool.false_eq_true,if_false]
    refine⟨by simp,by simp,fun j h3 h4 h5=>?_⟩
    have:j=0\/j=1\/j=2:=by omega
    rcases this with rfl | rfl | rfl
    ·exact absurd h5 h0
    ·exact absurd h5 h1
    ·exact absurd h5 h2
def okO (o:TOut):Prop:=(1<=o.1/\o.1<=1000000)/\Zu o.2=0
theorem QBg (s:List UInt8) (hs:s.length<=1000):Y (Qf8 s) (fun x=>x.1.2.1.length<=1001/\∀o,okO o->wOut o=s->x=(o,true)):=by
 unfold Qf8
 have hc:=Qz8 s [61]
 refine Y.eqb (QDw s 61 (by omega)) (Y.bind (QAi _ 95 Qz0 (by omega)) (fun r hr=>Y.eqb (Qhd _ (by omega)) (Y.some ⟨by have:=hr.1;show r.1.1.length<=_;omega,fun o ho h=>?_⟩)))
 have e:=QDR ho
 rw[h] at e
 rw[e] at hr ⊢
 rw[hr.2 o.2 ho.2 rfl]
 show ((numS (Lib.itoa o.1),o.2),true)=_
 rw[Qfk (by have:=ho.1;omega) (by have:=ho.1;omega)]
def TxQ (s:List UInt8) (x:TX×Bool):Prop:=(x.2=true->mTxF x.1=0/\Qw x.1=s)/\∀t',mTxF t'=0->Qw t'=s->x=(t',true)
theorem drop1 {α:Type} (l:List α) (h:1<=l.length):List.take (Int.toNat ((List.length l:Int) - 1)) (List.drop (Int.toNat 1) l)=l.drop 1:=by
 rw[show Int.toNat 1=1 from rfl]
 exact List.take_of_length_le (by rw[aLz];omega)
theorem QxG {α:Type} (l:List α) (h:1<=l.length):QT 1 (List.length l:Int) l=true:=by
 unfold QT;simp;omega
theorem Qnt (s:List UInt8) (c:UInt8) (d i:Nat):(List.getD ((cuts c s).drop d) i []).length<=s.length:=by
 rw[aLk,List.getElem?_drop]
 have:=QaC c s (d+i)
 rw[aLk] at this
 exact this
theorem QCU (s:List UInt8) (hs:s.length<=300):Y (Qg4 s) (TxQ s):=by
 have hB:BIG=4611686018427387904:=rfl
 have hne:=Qhi 32 s
 have hlen:=QbT 32 s
 have hpos:1<=(cuts 32 s).length:=by
  cases h:cuts 32 s with
  | nil=>exact absurd h hne
  | cons a l=>simp
 have hwd:∀t',mTxF t'=0->Qw t'=s->okT t'/\cuts 32 s=wTx t':=fun t' h1 h2=>⟨Qbm h1,by rw[<-h2];exact QzY (Qbm h1)⟩
 have hno:∀t:TX,(∀t',mTxF t'=0->Qw t'=s->False)->TxQ s (t,false):=fun t h=>⟨(fun h=>by cases h),fun t' h1 h2=>(h t' h1 h2).elim⟩
 unfold Qg4 QbJ
 refine Y.eqb (Qrw s 32 (by omega)) (Y.eqb rfl (Y.grd (QV (by omega) (by omega)) (Y.bind (QEG _) (fun k hk=>?_))))
 obtain⟨hk0,hk2,hkc⟩:=hk
 have hkw:∀t',mTxF t'=0->Qw t'=s->k=t'.1:=fun t' h1 h2=>by
  obtain⟨ho,hw⟩:=hwd t' h1 h2
  refine hkc t'.1 ho.kind.1 ho.kind.2 ?_
  rw[hw];rfl
 refine Y.bind (Q:=fun j=>(j=false->0<=k)/\(j=true->k<0)) ?_ (fun j hj=>?_)
 ·refine Y.bif (fun h=>?_) (fun _=>Y.some ⟨(fun h=>?_),(fun h=>?_)⟩)
  ·simp at h;omega
  ·simp at h;omega
  ·simpa using h
 refine Y.bif (fun h=>Y.some (hno _ fun t' h1 h2=>?_)) (fun h=>?_)
 ·have:=hkw t' h1 h2
  have:=(hwd t' h1 h2).1.kind
  have:=hj.2 h
  omega
 have hk0:=hj.1 h
 rw[drop1 _ hpos]
 refine Y.grd (QxG _ hpos) ?_
 have hdl:((cuts 32 s).drop 1).length=(cuts 32 s).length - 1:=aLz
 refine Y.bind (Q:=fun j=>(j=true↔(k ≠ 0/\1<=((cuts 32 s).drop 1).length))) ?_ (fun j hj=>?_)
 ·refine Y.bif (fun h=>Y.some ?_) (fun h=>Y.some ?_)
  ·simp at h ⊢;omega
  ·simp at h ⊢
   intro h2;exact absurd h h2
 refine Y.bind (Q:=fun (x:List (List UInt8)×TX)=>(∃d,x.1=(cuts 32 s).drop d)/\x.2.2.2=([],[])/\∀t',mTxF t'=0->Qw t'=s->x=(Lib.join (t'.2.2.1.map wRef) [43]::t'.2.2.2.map wOut,(t'.1,t'.2.1,[],[]))) ?_ (fun x hx=>?_)
 ·refine Y.bif (fun h=>?_) (fun h=>Y.some ⟨⟨1,rfl⟩,rfl,fun t' h1 h2=>?_⟩)
  ·obtain⟨hkn,h1l⟩:=hj.1 h
   refine Y.grd (QV (by omega) (by omega)) (Y.eqb (Qhd _ (by have:=Qnt s 32 1 0;show (List.getD ((cuts 32 s).drop 1) 0 []).length<=_;omega)) ?_)
   rw[drop1 _ h1l]
   refine Y.grd (QxG _ h1l) (Y.some ⟨⟨2,by rw[List.drop_drop]⟩,rfl,fun t' h1 h2=>?_⟩)
   obtain⟨ho,hw⟩:=hwd t' h1 h2
   have hkk:=hkw t' h1 h2
   have hm:=ho.mem
   rw[hw]
   unfold wTx
   rw[if_neg (by omega)]
   show (Lib.join (t'.2.2.1.map wRef) [43]::t'.2.2.2.map wOut,(k,numS (Lib.itoa t'.2.1),[],[]))=_
   rw[Qfk (by omega) (by omega),hkk]
  ·obtain⟨ho,hw⟩:=hwd t' h1 h2
   have hkk:=hkw t' h1 h2
   have hm:=ho.mem
   have hk0':k=0:=by
    by_cases e:k=0
    ·exact e
    ·have hl:1<=((cuts 32 s).drop 1).length:=by
      rw[hw];unfold wTx;rw[if_neg (by omega)];simp
     rw[hj.2 ⟨e,hl⟩] at h;cases h
   rw[hw]
   unfold wTx
   rw[if_pos (by omega)]
   show (Lib.join (t'.2.2.1.map wRef) [43]::t'.2.2.2.map wOut,(k,0,[],[]))=_
   rw[hkk,show t'.2.1=0 by omega]
 obtain⟨⟨d,hd⟩,he,hxc⟩:=hx
 obtain⟨xw,xk,xm,xi,xo⟩:=x
 have hdx:xw=(cuts 32 s).drop d:=hd
 have he:(xi,xo)=([],[]):=he
 simp only[aLe] at he
 obtain⟨rfl,rfl⟩:=he
 simp only
 have hxl:xw.length<=301:=by rw[hdx,aLz];omega
 have hxw:∀i,(List.getD xw i []).length<=300:=fun i=>by rw[hdx];have:=Qnt s 32 d i;omega
 have hxc':∀t',mTxF t'=0->Qw t'=s->xw=Lib.join (t'.2.2.1.map wRef) [43]::t'.2.2.2.map wOut/\xk=t'.1/\xm=t'.2.1:=fun t' h1 h2=>by
  have:=hxc t' h1 h2
  simp only[aLe] at this
  exact⟨this.1,this.2.1,this.2.2.1⟩
 refine Y.bind (Q:=fun j=>(j=false->2<=xw.length/\xw.length<=5)/\(j=true->¬(2<=xw.length/\xw.length<=5))) ?_ (fun j hj=>?_)
 ·refine Y.bif (fun h=>Y.some ⟨(fun h=>by cases h),(fun _=>?_)⟩) (fun h1=>Y.some ⟨(fun h=>?_),(fun h=>?_)⟩)
  ·simp at h;omega
  ·simp at h h1;omega
  ·simp at h;omega
 refine Y.bif (fun h=>Y.some (hno _ fun t' h1 h2=>?_)) (fun h=>?_)
 ·refine hj.2 h ?_
  obtain⟨e1,_⟩:=hxc' t' h1 h2
  have:=(hwd t' h1 h2).1.lo
  rw[e1];simp;omega
 have h25:=hj.1 h
 have hw0:=hxw 0
 refine Y.grd (QV (by omega) (by omega)) (Y.eqb (Qrw _ 43 (by show (List.getD xw 0 []).length<=_;omega)) ?_)
 obtain⟨rs,hrs⟩:∃rs,rs=cuts 43 (List.getD xw (Int.toNat 0) []):=⟨_,rfl⟩
 have hrs':rs=cuts 43 (List.getD xw 0 []):=hrs
 rw[<-hrs]
 have hrl:rs.length<=301:=by rw[hrs'];have:=QbT 43 (List.getD xw 0 []);omega
 have hrw:∀w,w ∈ rs->w.length<=300:=fun w hw=>by rw[hrs'] at hw;have:=QdX 43 _ w hw;omega
 have hrc:∀t',mTxF t'=0->Qw t'=s->rs=t'.2.2.1.map wRef:=fun t' h1 h2=>by
  rw[hrs',(hxc' t' h1 h2).1]
  exact QCa (hwd t' h1 h2).1
 refine Y.bind (Q:=fun (t:TX)=>t.2.2.1.length<=301/\t.2.2.2=[]/\∀t',mTxF t'=0->Qw t'=s->t=(t'.1,t'.2.1,t'.2.2.1,[])) ?_ (fun t ht=>?_)
 ·refine Y.loop (fun n (st:Int×TX)=>∃i:Nat,st.1=(i:Int)/\i<=rs.length/\n=rs.length - i/\st.2.2.2.1.length=i/\st.2.2.2.2=[]/\∀t',mTxF t'=0->Qw t'=s->st.2=(t'.1,t'.2.1,t'.2.2.1.take i,[])) (fun n st hI=>?_) rs.length _ ⟨0,rfl,by omega,by omega,rfl,rfl,fun t' h1 h2=>by
   obtain⟨_,e1,e2⟩:=hxc' t' h1 h2
   show (xk,xm,[],[])=_
   rw[e1,e2];rfl⟩
  obtain⟨i,hi,hle,hnn,hac,hoz,hcomp⟩:=hI
  obtain⟨i',k',m',acc,oz⟩:=st
  have hi:i'=(i:Int):=hi
  subst hi
  have hac:acc.length=i:=hac
  have hoz:oz=[]:=hoz
  subst hoz
  refine Y.bif (fun h1=>?_) (fun h1=>Y.some ⟨by show acc.length<=_;omega,rfl,fun t' h2 h3=>?_⟩)
  ·have hlt:i<rs.length:=by simp at h1;omega
   have hg:List.getD rs (Int.toNat (i:Int)) []=rs[i]:=Qg rs i _ hlt
   have hwl:=hrw _ (aLl hlt)
   rw[hg]
   have hcl:=Qz8 rs[i] [58]
   refine Y.grd (Qh _ i hlt) (Y.eqb (QDw _ 58 (by omega)) (Y.eqb (Qhd _ (by omega)) (Y.eqb (Qhd _ (by omega)) (Y.grd (ZW _ _ (by show acc.length<_;omega)) (Y.some ⟨rs.length - (i+1),by omega,i+1,wsucc hlt (by omega),by omega,rfl,by show (List.append acc [_]).length=_;simp[hac],rfl,fun t' h2 h3=>?_⟩)))))
   have hm:=hrc t' h2 h3
   have hr:i<t'.2.2.1.length:=by rw[hm] at hlt;simpa using hlt
   have hok:=(hwd t' h2 h3).1.ref _ (aLl hr)
   have e:rs[i]=wRef t'.2.2.1[i]:=by rw[List.getElem_of_eq hm hlt];simp
   have hc2:=hcomp t' h2 h3
   simp only[aLe] at hc2
   rw[e,QD3 hok]
   rw[Qfo] at hok
   show (k',m',List.append acc [(numS (Lib.itoa t'.2.2.1[i].1),numS (Lib.itoa t'.2.2.1[i].2))],[])=_
   rw[Qfk (by omega) (by omega),Qfk (by omega) (by omega),hc2.1,hc2.2.1,hc2.2.2.1,List.take_add_one,aLf hr]
   rfl
  ·have hge:i=rs.length:=by simp at h1;omega
   have c2:=hcomp t' h2 h3
   have hkl:rs.length=t'.2.2.1.length:=by rw[hrc t' h2 h3];simp
   rw[hge,hkl,List.take_length] at c2
   exact c2
 obtain⟨hti,hto,htc⟩:=ht
 obtain⟨tk,tm,ti,to⟩:=t
 have hto:to=[]:=hto
 subst hto
 have hti:ti.length<=301:=hti
 have hx1:1<=xw.length:=by omega
 rw[drop1 _ hx1]
 refine Y.grd (QxG _ hx1) ?_
 obtain⟨os,hos⟩:∃os,os=xw.drop 1:=⟨_,rfl⟩
 rw[<-hos]
 have hol:os.length<=4:=by rw[hos,aLz];omega
 have how:∀w,w ∈ os->w.length<=300:=fun w hw=>by
  rw[hos,hdx,List.drop_drop] at hw
  have:=QdX 32 s w (List.mem_of_mem_drop hw);omega
 have hoc:∀t',mTxF t'=0->Qw t'=s->os=t'.2.2.2.map wOut:=fun t' h1 h2=>by
  rw[hos,(hxc' t' h1 h2).1];rfl
 refine Y.bind (Q:=fun (r:TX⊕(Bool×TX))=>match r with
   | .inl t=>t.2.2.1.length<=301/\t.2.2.2.length<=4/\(∀o,o ∈ t.2.2.2->o.2.1.length<=1001)/\∀t',mTxF t'=0->Qw t'=s->t=t'
   | .inr x=>x.1=false/\∀t',mTxF t'=0->Qw t'=s->False) ?_ (fun r hr=>?_)
 ·refine Y.loop (fun n (st:Int×TX)=>∃i:Nat,st.1=(i:Int)/\i<=os.length/\n=os.length - i/\st.2.2.2.1.length<=301/\st.2.2.2.2.length=i/\(∀o,o ∈ st.2.2.2.2->o.2.1.length<=1001)/\∀t',mTxF t'=0->Qw t'=s->st.2=(t'.1,t'.2.1,t'.2.2.1,t'.2.2.2.take i)) (fun n st hI=>?_) os.length _ ⟨0,rfl,by omega,by omega,hti,rfl,(fun o ho=>nomatch ho),fun t' h1 h2=>by
   rw[htc t' h1 h2];rfl⟩
  obtain⟨i,hi,hle,hnn,hil,hac,hkl,hcomp⟩:=hI
  obtain⟨i',k',m',il,acc⟩:=st
  have hi:i'=(i:Int):=hi
  subst hi
  have hac:acc.length=i:=hac
  refine Y.bif (fun h1=>?_) (fun h1=>Y.some ⟨hil,by show acc.length<=_;omega,hkl,fun t' h2 h3=>?_⟩)
  ·have hlt:i<os.length:=by simp at h1;omega
   have hg:List.getD os (Int.toNat (i:Int)) []=os[i]:=Qg os i _ hlt
   have hwl:=how _ (aLl hlt)
   rw[hg]
   refine Y.grd (Qh _ i hlt) (Y.bind (QBg _ (by omega)) (fun y hy=>?_))
   have hyc:∀t',mTxF t'=0->Qw t'=s->∃hr:i<t'.2.2.2.length,y=(t'.2.2.2[i],true):=fun t' h2 h3=>by
    have hm:=hoc t' h2 h3
    have hr:i<t'.2.2.2.length:=by rw[hm] at hlt;simpa using hlt
    have e:os[i]=wOut t'.2.2.2[i]:=by rw[List.getElem_of_eq hm hlt];simp
    exact⟨hr,hy.2 _ ((hwd t' h2 h3).1.out _ (aLl hr)) e.symm⟩
   refine Y.bif (fun h4=>Y.some ⟨rfl,fun t' h2 h3=>?_⟩) (fun h4=>Y.grd (ZW _ _ (by show acc.length<_;omega)) (Y.some ⟨os.length - (i+1),by omega,i+1,wsucc hlt (by omega),by omega,rfl,hil,by show (List.append acc [_]).length=_;simp[hac],fun o ho=>?_,fun t' h2 h3=>?_⟩))
   ·obtain⟨_,e⟩:=hyc t' h2 h3
    rw[e] at h4;cases h4
   ·rcases List.mem_append.1 (show o ∈ acc++[y.1] from ho) with ho | ho
    ·exact hkl o ho
    ·rw[aLs] at ho;subst ho;exact hy.1
   ·obtain⟨hr,e⟩:=hyc t' h2 h3
    have hc2:=hcomp t' h2 h3
    simp only[aLe] at hc2
    show (k',m',il,List.append acc [y.1])=_
    rw[e,hc2.1,hc2.2.1,hc2.2.2.1,hc2.2.2.2,List.take_add_one,aLf hr]
    rfl
  ·have hge:i=os.length:=by simp at h1;omega
   have c2:=hcomp t' h2 h3
   have hkl:os.length=t'.2.2.2.length:=by rw[hoc t' h2 h3];simp
   rw[hge,hkl,List.take_length] at c2
   exact c2
 cases r with
 | inr x=>exact Y.some (by rw[hr.1];exact hno _ hr.2)
 | inl t=>
  obtain⟨r1,r2,r3,r4⟩:=hr
  have hb:bT t:=⟨by omega,by omega,fun o ho=>by have:=r3 o ho;omega⟩
  refine Y.eqb (Quo t hb) (Y.bif (fun h=>Y.some (hno _ fun t' h1 h2=>?_)) (fun h=>?_))
  ·rw[r4 t' h1 h2,h1] at h;simp at h
  ·have h0:mTxF t=0:=by simpa using h
   refine Y.eqb (Qoz (Qbm h0)) ?_
   by_cases hl:(Qw t).length<=300
   ·rw[if_pos hl]
    refine Y.some ⟨fun hh=>⟨h0,by simpa using hh⟩,fun t' h1 h2=>?_⟩
    obtain rfl:=r4 t' h1 h2
    show (t,decide (Qw t=s))=_
    rw[aLE h2]
   ·rw[if_neg hl]
    refine Y.some (hno _ fun t' h1 h2=>?_)
    obtain rfl:=r4 t' h1 h2
    rw[h2] at hl;exact hl hs
end GL
end Go.Dx
set_option maxHeartbeats 2000000
namespace Go.Dx
namespace GL
theorem Qrp (k:Int) (n:Nat) (h0:0<=k) (h1:k<((10 ^ n:Nat):Int)) (hn:1<=n):(Lib.itoa k).length<=n:=by
 obtain⟨m,rfl⟩:=aLA h0
 rw[QcP,Lib.decDigits_length]
 exact QfS n m (by omega) hn
theorem Qxn (w:List UInt8) (n:Nat) (hw:w.length<BIG):Y (QC w (n:Int)) (fun r=>∀k,0<=k->k<=9999999->w=Lib.itoa k->(Lib.itoa k).length<=n->r=(k,true)):=by
 obtain⟨r,h1,_⟩:=Qd5 w (n:Int) hw
 refine⟨r,h1,fun k h0 h9 hk hl=>?_⟩
 rw[hk,QnR h0 h9 n hl] at h1
 exact (Option.some.inj h1).symm
theorem QAk {l:List (Int×Int)} (hl:l ≠ []) (h:∀r,r ∈ l->mRef r=true):cuts 43 (Lib.join (l.map wRef) [43])=l.map wRef:=by
 refine QdR 43 _ (fun e=>hl (List.map_eq_nil_iff.1 e)) fun w hw=>?_
 obtain⟨r,hr,rfl⟩:=List.mem_map.1 hw
 exact Qvb (h r hr) 43 (by decide) (by decide)
theorem QDW (s:List UInt8) (hs:s.length<=300):Y (Qh5 s) (fun x=>x.1.length<=301/\∀l,l ≠ []->(∀r,r ∈ l->mRef r=true)->Lib.join (l.map wRef) [43]=s->x=(l,true)):=by
 have hB:BIG=4611686018427387904:=rfl
 unfold Qh5
 refine Y.eqb (QaL s 43 (by unfold LIM;omega)) ?_
 obtain⟨rs,hrs⟩:∃rs,rs=cuts 43 s:=⟨_,rfl⟩
 rw[<-hrs]
 have hrl:rs.length<=301:=by rw[hrs];have:=QbT 43 s;omega
 have hrw:∀w,w ∈ rs->w.length<=300:=fun w hw=>by rw[hrs] at hw;have:=QdX 43 _ w hw;omega
 have hrc:∀l,l ≠ []->(∀r,r ∈ l->mRef r=true)->Lib.join (l.map wRef) [43]=s->rs=l.map wRef:=fun l h1 h2 h3=>by
  rw[hrs,<-h3];exact QAk h1 h2
 refine Y.bind (Q:=fun (r:List (Int×Int)⊕(List (Int×Int)×Bool))=>match r with
   | .inl x=>x.length<=301/\∀l,l ≠ []->(∀r,r ∈ l->mRef r=true)->Lib.join (l.map wRef) [43]=s->x=l
   | .inr x=>x=([],false)/\∀l,l ≠ []->(∀r,r ∈ l->mRef r=true)->Lib.join (l.map wRef) [43]=s->False) ?_ (fun r hr=>?_)
 ·refine Y.loop (fun n (st:List (Int×Int)×Int)=>∃i:Nat,st.2=(i:Int)/\i<=rs.length/\n=rs.length - i/\st.1.length=i/\∀l,l ≠ []->(∀r,r ∈ l->mRef r=true)->Lib.join (l.map wRef) [43]=s->st.1=l.take i) (fun n st hI=>?_) rs.length _ ⟨0,rfl,by omega,by omega,rfl,fun l _ _ _=>rfl⟩
  obtain⟨i,hi,hle,hnn,hac,hcomp⟩:=hI
  obtain⟨acc,i'⟩:=st
  have hi:i'=(i:Int):=hi
  subst hi
  have hac:acc.length=i:=hac
  refine Y.bif (fun h1=>?_) (fun h1=>Y.some ⟨by show acc.length<=_;omega,fun l h2 h3 h4=>?_⟩)
  ·have hlt:i<rs.length:=by simp at h1;omega
   have hg:List.getD rs (Int.toNat (i:Int)) []=rs[i]:=Qg rs i _ hlt
   have hwl:=hrw _ (aLl hlt)
   rw[hg]
   have hpc:∀l,l ≠ []->(∀r,r ∈ l->mRef r=true)->Lib.join (l.map wRef) [43]=s->∃hr:i<l.length,mRef l[i]=true/\cuts 58 rs[i]=[Lib.itoa l[i].1,Lib.itoa l[i].2]:=fun l h2 h3 h4=>by
    have hm:=hrc l h2 h3 h4
    have hr:i<l.length:=by rw[hm] at hlt;simpa using hlt
    have e:rs[i]=wRef l[i]:=by rw[List.getElem_of_eq hm hlt];simp
    have hok:=h3 _ (aLl hr)
    exact⟨hr,hok,by rw[e];exact QC8 hok⟩
   refine Y.grd (Qh _ i hlt) (Y.eqb (QaL _ 58 (by unfold LIM;omega)) (Y.bif (fun h5=>Y.some ⟨rfl,fun l h2 h3 h4=>?_⟩) (fun h5=>?_)))
   ·obtain⟨_,_,e⟩:=hpc l h2 h3 h4
    rw[e] at h5;simp at h5
   ·have h2l:(cuts 58 rs[i]).length=2:=by simp at h5;omega
    have w0:=QaC 58 rs[i] 0
    have w1:=QaC 58 rs[i] 1
    refine Y.grd (QV (by omega) (by omega)) (Y.bind (Qxn (List.getD (cuts 58 rs[i]) (Int.toNat 0) []) 2 (by show (List.getD (cuts 58 rs[i]) 0 []).length<_;omega)) (fun a ha=>Y.grd (QV (by omega) (by omega)) (Y.bind (Qxn (List.getD (cuts 58 rs[i]) (Int.toNat 1) []) 1 (by show (List.getD (cuts 58 rs[i]) 1 []).length<_;omega)) (fun b hb=>?_))))
    have hab:∀l,l ≠ []->(∀r,r ∈ l->mRef r=true)->Lib.join (l.map wRef) [43]=s->∃hr:i<l.length,a=(l[i].1,true)/\b=(l[i].2,true):=fun l h2 h3 h4=>by
     obtain⟨hr,hok,e⟩:=hpc l h2 h3 h4
     rw[Qfo] at hok
     refine⟨hr,ha _ (by omega) (by omega) (by rw[e];rfl) (Qrp _ 2 (by omega) (by omega) (by omega)),hb _ (by omega) (by omega) (by rw[e];rfl) (Qrp _ 1 (by omega) (by omega) (by omega))⟩
    refine Y.bind (Q:=fun j=>j=true->∀l,l ≠ []->(∀r,r ∈ l->mRef r=true)->Lib.join (l.map wRef) [43]=s->False) ?_ (fun j hj=>Y.bif (fun h=>Y.some ⟨rfl,hj h⟩) (fun _=>Y.grd (ZW _ _ (by show acc.length<_;omega)) (Y.some ⟨rs.length - (i+1),by omega,i+1,wsucc hlt (by omega),by omega,rfl,by show (List.append acc [_]).length=_;simp[hac],fun l h2 h3 h4=>?_⟩)))
    ·refine Y.bif (fun h=>Y.some (fun _ l h2 h3 h4=>?_)) (fun h=>Y.some (fun h' l h2 h3 h4=>?_))
     ·obtain⟨_,e,_⟩:=hab l h2 h3 h4
      rw[e] at h;cases h
     ·obtain⟨_,_,e⟩:=hab l h2 h3 h4
      rw[e] at h';cases h'
    ·obtain⟨hr,e1,e2⟩:=hab l h2 h3 h4
     have hc2:acc=l.take i:=hcomp l h2 h3 h4
     show List.append acc [(a.1,b.1)]=_
     rw[e1,e2,hc2,List.take_add_one,aLf hr]
     rfl
  ·have hge:i=rs.length:=by simp at h1;omega
   have c2:acc=l.take i:=hcomp l h2 h3 h4
   have hkl:rs.length=l.length:=by rw[hrc l h2 h3 h4];simp
   show acc=l
   rw[c2,hge,hkl,List.take_length]
 cases r with
 | inl x=>exact Y.some ⟨hr.1,fun l h2 h3 h4=>by rw[hr.2 l h2 h3 h4]⟩
 | inr x=>exact Y.some ⟨by rw[hr.1];simp,fun l h2 h3 h4=>(hr.2 l h2 h3 h4).elim⟩
theorem QCh (s:List UInt8) (hs:s.length<=300):Y (QfT s) (TxQ s):=by
 have hB:BIG=4611686018427387904:=rfl
 have hne:=Qhi 32 s
 have hlen:=QbT 32 s
 have hpos:1<=(cuts 32 s).length:=by
  cases h:cuts 32 s with
  | nil=>exact absurd h hne
  | cons a l=>simp
 have hwd:∀t',mTxF t'=0->Qw t'=s->okT t'/\cuts 32 s=wTx t':=fun t' h1 h2=>⟨Qbm h1,by rw[<-h2];exact QzY (Qbm h1)⟩
 have hno:∀t:TX,(∀t',mTxF t'=0->Qw t'=s->False)->TxQ s (t,false):=fun t h=>⟨(fun h=>by cases h),fun t' h1 h2=>(h t' h1 h2).elim⟩
 unfold QfT
 refine Y.eqb (QaL s 32 (by unfold LIM;omega)) ?_
 obtain⟨ws,hws⟩:∃ws,ws=cuts 32 s:=⟨_,rfl⟩
 rw[<-hws]
 rw[<-hws] at hlen hpos
 simp only[<-hws] at hwd
 have hww:∀i,(List.getD ws i []).length<=300:=fun i=>by rw[hws];have:=QaC 32 s i;omega
 have hin0:inB 0 ws=true:=QV (by omega) (by omega)
 have hw0:∀t',mTxF t'=0->Qw t'=s->List.getD ws (Int.toNat 0) []=kw t'.1:=fun t' h1 h2=>by rw[(hwd t' h1 h2).2];rfl
 refine Y.bind (Q:=fun j=>∀t',mTxF t'=0->Qw t'=s->(j=true↔t'.1 ≠ 0)) ?_ (fun j hj=>?_)
 ·have kk:∀t',mTxF t'=0->Qw t'=s->t'.1=0\/t'.1=1\/t'.1=2:=fun t' h1 h2=>by have:=(hwd t' h1 h2).1.kind;omega
  refine Y.grd hin0 (Y.bif (fun h=>Y.some (fun t' h1 h2=>?_)) (fun h=>Y.grd hin0 (Y.some (fun t' h1 h2=>?_))))
  ·rw[hw0 t' h1 h2] at h
   rcases kk t' h1 h2 with e | e | e<;>rw[e] at h ⊢<;>simp[kw] at h ⊢
  ·rw[hw0 t' h1 h2] at h ⊢
   rcases kk t' h1 h2 with e | e | e<;>rw[e] at h ⊢<;>simp[kw] at h ⊢
 refine Y.bind (Q:=fun (r:(Int×TX)⊕(Bool×TX))=>match r with
   | .inl x=>(x.1=1\/x.1=2)/\x.2.2.2=([],[])/\∀t',mTxF t'=0->Qw t'=s->x.1=(if t'.1=0 then 1 else 2)/\x.2=(t'.1,t'.2.1,[],[])
   | .inr x=>x.1=false/\∀t',mTxF t'=0->Qw t'=s->False) ?_ (fun r hr=>?_)
 ·refine Y.bif (fun h=>?_) (fun h=>Y.grd hin0 (Y.bif (fun h3=>Y.some ⟨rfl,fun t' h1 h2=>?_⟩) (fun h3=>Y.some ⟨.inl rfl,rfl,fun t' h1 h2=>?_⟩)))
  ·refine Y.bif (fun h3=>Y.some ⟨rfl,fun t' h1 h2=>?_⟩) (fun h3=>?_)
   ·have hl:2<=ws.length:=by
     rw[(hwd t' h1 h2).2];unfold wTx;simp;omega
    simp at h3;omega
   ·have h2l:2<=ws.length:=by simp at h3;omega
    have hw1:=hww 1
    refine Y.grd (QV (by omega) (by omega)) (Y.bind (Qxn (List.getD ws (Int.toNat 1) []) 3 (by show (List.getD ws 1 []).length<_;omega)) (fun m hm=>?_))
    have hmc:∀t',mTxF t'=0->Qw t'=s->m=(t'.2.1,true):=fun t' h1 h2=>by
     obtain⟨ho,hw⟩:=hwd t' h1 h2
     have hmm:=ho.mem
     have h0:=(hj t' h1 h2).1 h
     exact hm _ (by omega) (by omega) (by rw[hw];unfold wTx;rw[if_neg h0];rfl) (Qrp _ 3 (by omega) (by omega) (by omega))
    refine Y.bif (fun h4=>Y.some ⟨rfl,fun t' h1 h2=>?_⟩) (fun h4=>?_)
    ·rw[hmc t' h1 h2] at h4;cases h4
    ·refine Y.grd hin0 (Y.bind (Q:=fun (x:TX)=>x.2.2=([],[])/\∀t',mTxF t'=0->Qw t'=s->x.1=t'.1) ?_ (fun x hx=>Y.some ⟨.inr rfl,by show x.2.2=_;exact hx.1,fun t' h1 h2=>⟨?_,?_⟩⟩))
     ·have kk:∀t',mTxF t'=0->Qw t'=s->t'.1=1\/t'.1=2:=fun t' h1 h2=>by have:=(hwd t' h1 h2).1.kind;have:=(hj t' h1 h2).1 h;omega
      refine Y.bif (fun h5=>Y.some ⟨rfl,fun t' h1 h2=>?_⟩) (fun h5=>Y.some ⟨rfl,fun t' h1 h2=>?_⟩)
      ·rw[hw0 t' h1 h2] at h5
       rcases kk t' h1 h2 with e | e<;>rw[e] at h5 ⊢
       simp[kw] at h5
      ·rw[hw0 t' h1 h2] at h5
       rcases kk t' h1 h2 with e | e<;>rw[e] at h5 ⊢
       simp[kw] at h5
     ·rw[if_neg ((hj t' h1 h2).1 h)]
     ·show (x.1,m.1,x.2.2)=_
      rw[hx.1,hx.2 t' h1 h2,hmc t' h1 h2]
  ·have h0:t'.1=0:=by
    by_cases e:t'.1=0
    ·exact e
    ·rw[(hj t' h1 h2).2 e] at h;cases h
   rw[hw0 t' h1 h2,h0] at h3
   simp[kw] at h3
  ·have h0:t'.1=0:=by
    by_cases e:t'.1=0
    ·exact e
    ·rw[(hj t' h1 h2).2 e] at h;cases h
   have hmm:=(hwd t' h1 h2).1.mem
   rw[if_pos h0,h0,show t'.2.1=0 by omega]
   exact⟨rfl,rfl⟩
 cases r with
 | inr x=>exact Y.some (by obtain⟨b,t⟩:=x;have h1:b=false:=hr.1;subst h1;exact hno _ hr.2)
 | inl x=>
  obtain⟨at',xk,xm,xi,xo⟩:=x
  obtain⟨hat,hx0,hxc⟩:=hr
  have hx0:(xi,xo)=([],[]):=hx0
  simp only[aLe] at hx0
  obtain⟨e1,e2⟩:=hx0
  subst e1 e2
  obtain⟨a,ha,ha12⟩:∃a:Nat,at'=(a:Int)/\(a=1\/a=2):=by
   have hat:at'=1\/at'=2:=hat
   rcases hat with rfl | rfl
   ·exact⟨1,rfl,.inl rfl⟩
   ·exact⟨2,rfl,.inr rfl⟩
  subst ha
  have hxc:∀t',mTxF t'=0->Qw t'=s->(a:Int)=(if t'.1=0 then 1 else 2)/\(xk,xm,([]:List (Int×Int)),([]:List TOut))=(t'.1,t'.2.1,[],[]):=hxc
  have htl:∀t',mTxF t'=0->Qw t'=s->ws.drop a=Lib.join (t'.2.2.1.map wRef) [43]::t'.2.2.2.map wOut:=fun t' h1 h2=>by
   rw[(hwd t' h1 h2).2]
   have:=(hxc t' h1 h2).1
   unfold wTx
   by_cases h0:t'.1=0
   ·rw[if_pos h0] at this ⊢
    obtain rfl:a=1:=by omega
    rfl
   ·rw[if_neg h0] at this ⊢
    obtain rfl:a=2:=by omega
    rfl
  simp only[Sum.elim_inl]
  have hwr:IntKind.wrap .i64 ((a:Int)+2)=((a+2:Nat):Int):=by rw[Qi (by omega) (by omega)];omega
  have hwr1:IntKind.wrap .i64 ((a:Int)+1)=((a+1:Nat):Int):=by rw[Qi (by omega) (by omega)];omega
  rw[hwr,hwr1]
  refine Y.bif (fun h3=>Y.some (hno _ fun t' h1 h2=>?_)) (fun h3=>?_)
  ·have:=(hwd t' h1 h2).1.lo
   have h4:(ws.drop a).length=1+t'.2.2.2.length:=by rw[htl t' h1 h2];simp;omega
   rw[aLz] at h4
   simp at h3;omega
  have hal:a+2<=ws.length:=by simp at h3;omega
  have hwa:=hww a
  refine Y.grd (Qh ws a (by omega)) (Y.bind (QDW _ (by show (List.getD ws (Int.toNat (a:Int)) []).length<=_;rw[Int.toNat_natCast];exact hwa)) (fun ins hins=>?_))
  have hic:∀t',mTxF t'=0->Qw t'=s->ins=(t'.2.2.1,true):=fun t' h1 h2=>by
   have ho:=(hwd t' h1 h2).1
   refine hins.2 _ (fun e=>?_) ho.ref ?_
   ·have:=ho.li;rw[e] at this;simp at this
   ·have:List.getD ws a []=(ws.drop a).getD 0 []:=by rw[aLk,aLk,List.getElem?_drop];rfl
    rw[Int.toNat_natCast,this,htl t' h1 h2];rfl
  have how:∀i (hi:i<ws.length),(ws[i]).length<=300:=fun i hi=>by
   have:=hww i
   rwa [aLk,aLf hi] at this
  refine Y.bind (Q:=fun (r:(Bool×TX)⊕(Bool×TX))=>match r with
    | .inl x=>x.2.2.2.1.length<=301/\x.2.2.2.2.length<=301/\(∀o,o ∈ x.2.2.2.2->o.2.1.length<=301)/\∀t',mTxF t'=0->Qw t'=s->x=(true,t')
    | .inr x=>x.1=false/\∀t',mTxF t'=0->Qw t'=s->False) ?_ (fun r hr=>?_)
  ·refine Y.loop (fun n (st:Bool×Int×TX)=>∃i:Nat,st.2.1=((a+1+i:Nat):Int)/\a+1+i<=ws.length/\n=ws.length - (a+1+i)/\st.2.2.2.2.1.length<=301/\st.2.2.2.2.2.length=i/\(∀o,o ∈ st.2.2.2.2.2->o.2.1.length<=301)/\∀t',mTxF t'=0->Qw t'=s->st.1=true/\st.2.2=(t'.1,t'.2.1,t'.2.2.1,t'.2.2.2.take i)) (fun n st hI=>?_) (ws.length - (a+1)) _ ⟨0,rfl,by omega,by omega,hins.1,rfl,(fun o ho=>nomatch ho),fun t' h1 h2=>by
    have e:=hic t' h1 h2
    have e2:=(hxc t' h1 h2).2
    simp only[aLe] at e2
    rw[e]
    refine⟨rfl,?_⟩
    show (xk,xm,t'.2.2.1,[])=_
    rw[e2.1,e2.2.1];rfl⟩
   obtain⟨i,hi,hle,hnn,hil,hac,hkl,hcomp⟩:=hI
   obtain⟨ok,i',k',m',il,acc⟩:=st
   have hi:i'=((a+1+i:Nat):Int):=hi
   subst hi
   have hac:acc.length=i:=hac
   have hol:∀t',mTxF t'=0->Qw t'=s->ws.length=a+1+t'.2.2.2.length:=fun t' h1 h2=>by
    have h4:(ws.drop a).length=1+t'.2.2.2.length:=by rw[htl t' h1 h2];simp;omega
    rw[aLz] at h4;omega
   refine Y.bind (Q:=fun j=>(j=true->a+1+i<ws.length)/\(j=false->a+1+i=ws.length\/ok=false)) ?_ (fun j hj2=>?_)
   ·refine Y.bif (fun h4=>Y.some ⟨fun _=>?_,fun h5=>.inr h5⟩) (fun h4=>Y.some ⟨(fun h=>by cases h),fun _=>.inl ?_⟩)
    ·simp at h4;omega
    ·simp at h4;omega
   refine Y.bif (fun h4=>?_) (fun h4=>Y.some ⟨hil,by show acc.length<=_;omega,hkl,fun t' h1 h2=>?_⟩)
   ·have hlt:=hj2.1 h4
    have hg:List.getD ws (Int.toNat ((a+1+i:Nat):Int)) []=ws[a+1+i]:=Qg ws _ _ hlt
    have hwl:=how _ hlt
    rw[hg]
    have hoc:∀t',mTxF t'=0->Qw t'=s->∃hr:i<t'.2.2.2.length,okO t'.2.2.2[i]/\ws[a+1+i]=wOut t'.2.2.2[i]:=fun t' h1 h2=>by
     have h5:=hol t' h1 h2
     have hr:i<t'.2.2.2.length:=by omega
     refine⟨hr,(hwd t' h1 h2).1.out _ (aLl hr),?_⟩
     have h6:(ws.drop a)[1+i]? = some ws[a+1+i]:=by rw[List.getElem?_drop,<-Nat.add_assoc,aLf hlt]
     rw[htl t' h1 h2,Nat.add_comm 1 i,List.getElem?_cons_succ,List.getElem?_map,aLf hr] at h6
     simpa using h6.symm
    refine Y.grd (Qh _ _ hlt) (Y.eqb (QaL _ 61 (by unfold LIM;omega)) (Y.bif (fun h5=>Y.some ⟨rfl,fun t' h1 h2=>?_⟩) (fun h5=>?_)))
    ·obtain⟨_,ho,e⟩:=hoc t' h1 h2
     rw[e,Qxv ho] at h5;simp at h5
    ·have h2l:(cuts 61 ws[a+1+i]).length=2:=by simp at h5;omega
     have w0:=QaC 61 ws[a+1+i] 0
     have w1:=QaC 61 ws[a+1+i] 1
     have hsl:(swp 95 32 (List.getD (cuts 61 ws[a+1+i]) (Int.toNat 1) [])).length<=300:=by
      unfold swp;rw[List.length_map];show (List.getD (cuts 61 ws[a+1+i]) 1 []).length<=_;omega
     refine Y.grd (QV (by omega) (by omega)) (Y.bind (Qxn (List.getD (cuts 61 ws[a+1+i]) (Int.toNat 0) []) 7 (by show (List.getD (cuts 61 ws[a+1+i]) 0 []).length<_;omega)) (fun v hv=>Y.grd (QV (by omega) (by omega)) (Y.eqb (Qx3 _ 95 32 (by show (List.getD (cuts 61 ws[a+1+i]) 1 []).length<=_;omega)) (Y.bind (QBf _ (by omega)) (fun r hr=>?_)))))
     have hvr:∀t',mTxF t'=0->Qw t'=s->∃hr:i<t'.2.2.2.length,v=(t'.2.2.2[i].1,true)/\r=(t'.2.2.2[i].2,true):=fun t' h1 h2=>by
      obtain⟨hr',ho,e⟩:=hoc t' h1 h2
      have ec:cuts 61 ws[a+1+i]=[Lib.itoa t'.2.2.2[i].1,Qv t'.2.2.2[i].2 [95]]:=by rw[e];exact Qxv ho
      have hv1:=ho.1
      refine⟨hr',hv _ (by omega) (by omega) (by rw[ec];rfl) (Qrp _ 7 (by omega) (by omega) (by omega)),hr.2 _ ho.2 ?_⟩
      rw[ec]
      exact (QyK (JD ho.2) Qz0).symm
     refine Y.bind (Q:=fun j=>∀t',mTxF t'=0->Qw t'=s->j=true) ?_ (fun j hj3=>?_)
     ·refine Y.bif (fun h6=>Y.some (fun t' h1 h2=>?_)) (fun h6=>Y.some (fun t' h1 h2=>?_))
      ·obtain⟨_,_,e⟩:=hvr t' h1 h2;rw[e]
      ·obtain⟨_,e,_⟩:=hvr t' h1 h2;rw[e] at h6;cases h6
     ·refine Y.grd (ZW _ _ (by show acc.length<_;omega)) (Y.some ⟨ws.length - (a+1+(i+1)),by omega,i+1,?_,by omega,rfl,hil,by show (List.append acc [_]).length=_;simp[hac],fun o ho=>?_,fun t' h1 h2=>⟨hj3 t' h1 h2,?_⟩⟩)
      ·show IntKind.wrap .i64 (((a+1+i:Nat):Int)+1)=_
       rw[wsucc hlt (by omega)];rfl
      ·rcases List.mem_append.1 (show o ∈ acc++[(v.1,r.1)] from ho) with ho | ho
       ·exact hkl o ho
       ·rw[aLs] at ho;subst ho
        have:=hr.1
        show r.1.1.length<=_
        omega
      ·obtain⟨hr',e1,e2⟩:=hvr t' h1 h2
       have hc2:=(hcomp t' h1 h2).2
       simp only[aLe] at hc2
       show (k',m',il,List.append acc [(v.1,r.1)])=_
       rw[e1,e2,hc2.1,hc2.2.1,hc2.2.2.1,hc2.2.2.2,List.take_add_one,aLf hr']
       rfl
   ·obtain⟨c1,c2⟩:=hcomp t' h1 h2
    have c1':ok=true:=c1
    rcases hj2.2 h4 with h5 | h5
    ·have h6:=hol t' h1 h2
     obtain rfl:i=t'.2.2.2.length:=by omega
     rw[List.take_length] at c2
     have c2:(k',m',il,acc)=t':=c2
     show (ok,k',m',il,acc)=_
     rw[c1',c2]
    ·rw[c1'] at h5;cases h5
  cases r with
  | inr x=>exact Y.some (by obtain⟨b,t⟩:=x;have h1:b=false:=hr.1;subst h1;exact hno _ hr.2)
  | inl x=>
   obtain⟨r1,r2,r3,r4⟩:=hr
   have hb:bT x.2:=⟨by omega,by omega,fun o ho=>by have:=r3 o ho;omega⟩
   refine Y.bind (Q:=fun (y:Bool×TX)=>TxQ s (y.2,y.1)) ?_ (fun y hy=>Y.some hy)
   refine Y.bif (fun h=>Y.eqb (Qf5 x.2 hb) (Y.bif (fun h3=>?_) (fun h3=>Y.some (hno _ fun t' h1 h2=>?_)))) (fun h=>Y.some (hno _ fun t' h1 h2=>?_))
   ·have h0:mTxF x.2=0:=by simpa using h3
    refine Y.eqb (Qop (Qbm h0)) (Y.bif (fun h4=>Y.some ⟨fun _=>⟨h0,by simpa using h4⟩,fun t' h1 h2=>?_⟩) (fun h4=>Y.some (hno _ fun t' h1 h2=>?_)))
    ·show (x.2,decide ((s.length:Int)<=300))=_
     rw[r4 t' h1 h2,aLE (by omega)]
    ·rw[r4 t' h1 h2] at h4
     simp[h2] at h4
   ·rw[r4 t' h1 h2] at h3
    simp[h1] at h3
   ·rw[r4 t' h1 h2] at h;cases h
end GL
end Go.Dx
set_option maxHeartbeats 2000000
namespace Go.Dx
namespace GL
open Classical in
noncomputable def rdTx (s:List UInt8):Option TX:=if h:∃t,mTxF t=0/\Qw t=s then some h.choose else none
theorem Qqv {s:List UInt8} {t:TX} (h:rdTx s=some t):mTxF t=0/\Qw t=s:=by
 unfold rdTx at h
 split at h
 ·rename_i hh
  cases h;exact hh.choose_spec
 ·cases h
theorem QBO {s:List UInt8} (h:rdTx s=none) (t:TX) (h1:mTxF t=0) (h2:Qw t=s):False:=by
 unfold rdTx at h
 split at h
 ·cases h
 ·rename_i hh;exact hh ⟨t,h1,h2⟩
theorem QDx {s:List UInt8} {x:TX×Bool} (h:TxQ s x):(∀t,rdTx s=some t->x=(t,true))/\(rdTx s=none->x.2=false):=by
 refine⟨fun t ht=>h.2 t (Qqv ht).1 (Qqv ht).2,fun hn=>?_⟩
 cases hx:x.2 with
 | false=>rfl
 | true=>exact (QBO hn _ (h.1 hx).1 (h.1 hx).2).elim
structure okL (l:TL):Prop where
 n1:l.1.length<=60
 n2:l.2.length<=120
 txt:∀s,s ∈ l.1->1<=s.length/\s.length<=300
theorem Qmi {l:TL} (h:mLF l=0):okL l:=by
 unfold mLF at h
 split at h
 ·cases h
 ·rename_i h1
  simp only[Bool.or_eq_true,aLF,not_or] at h1
  refine⟨by omega,by omega,fun s hs=>?_⟩
  by_cases h2:code (mTx l.1) l.1=0
  ·obtain⟨i,hi,rfl⟩:=List.mem_iff_getElem.1 hs
   have hc:=QdW h2 i _ (aLf hi)
   unfold mTx at hc
   cases h3:mIn (l.1[i].length:Int) 1 300 with
   | false=>rw[h3] at hc;simp at hc
   | true=>rw[ZA] at h3;omega
  ·rw[if_neg h2] at h;exact absurd h h2
def noT:TX:=(0,(0,([],[])))
noncomputable def mTI (l:TL) (id:Int):TX×Int:=if mIn id 1 (l.1.length:Int) then (match rdTx (List.getD l.1 (Int.toNat (IntKind.wrap .i64 (id - 1))) []) with | some t=>(t,0) | none=>(noT,5)) else (noT,3)
theorem Que {l:TL} (h:okL l) (i:Nat):(List.getD l.1 i []).length<=300:=by
 rw[aLk]
 cases hg:l.1[i]? with
 | none=>simp
 | some s=>exact (h.txt s (List.mem_of_getElem? hg)).2
theorem QAL {l:TL} (h:okL l) {id:Int} (hi:mIn id 1 (l.1.length:Int)=true):inB (IntKind.wrap .i64 (id - 1)) l.1=true:=by
 rw[ZA] at hi
 have:=h.n1
 rw[Qi (by omega) (by omega)]
 exact QV (by omega) (by omega)
theorem Qss {l:TL} (h:okL l) (id:Int):QaB l id=some (mTI l id):=by
 unfold QaB Qd8 Qfs mTI
 rw[ZR]
 simp only[aLc]
 cases hi:mIn id 1 (l.1.length:Int) with
 | false=>rfl
 | true=>
  simp only[Bool.not_true,aLC,QAL h hi,aLB,aLc,decide_true,if_true]
  obtain⟨x,hx,hq⟩:=QCU _ (Que h (Int.toNat (IntKind.wrap .i64 (id - 1))))
  obtain⟨r1,r2⟩:=QDx hq
  rw[hx,aLc]
  cases hr:rdTx (List.getD l.1 (Int.toNat (IntKind.wrap .i64 (id - 1))) []) with
  | none=>rw[r2 hr];rfl
  | some t=>rw[r1 t hr];rfl
theorem Qr8 {l:TL} (h:mLF l=0) (id:Int):QcN l id=some ((mTI l id).2,(mTI l id).1):=by
 have ho:=Qmi h
 have hB:BIG=4611686018427387904:=rfl
 unfold QcN Qcf QeR QiA mTI
 rw[YD l (by have:=ho.n1;omega) (by have:=ho.n2;omega),aLc,h,Zp]
 simp only[decide_true,Bool.not_true,aLC,aLc]
 cases hi:mIn id 1 (l.1.length:Int) with
 | false=>rfl
 | true=>
  simp only[Bool.not_true,aLC,QAL ho hi,aLB,aLc,decide_true,if_true]
  obtain⟨x,hx,hq⟩:=QCh _ (Que ho (Int.toNat (IntKind.wrap .i64 (id - 1))))
  obtain⟨r1,r2⟩:=QDx hq
  rw[hx,aLc]
  cases hr:rdTx (List.getD l.1 (Int.toNat (IntKind.wrap .i64 (id - 1))) []) with
  | none=>rw[r2 hr];rfl
  | some t=>rw[r1 t hr];rfl
theorem Qq1 {l:TL} {id:Int} (h:(mTI l id).2=0):mTxF (mTI l id).1=0:=by
 unfold mTI at h ⊢
 split
 ·rename_i h1
  rw[if_pos h1] at h
  split
  ·rename_i t ht;exact (Qqv ht).1
  ·rename_i ht;rw[ht] at h;cases h
 ·rename_i h1;rw[if_neg h1] at h;cases h
theorem QzN (n k:Nat) (hk:k<=n) (f:Int×Int->Option ((Int×Int)⊕Int))
  (hs:∀lo hi:Nat,lo<hi->hi<=n->f ((lo:Int),(hi:Int))=some (.inl (if (lo+hi) / 2<k then ((((lo+hi) / 2+1:Nat):Int),(hi:Int)) else ((lo:Int),(((lo+hi) / 2:Nat):Int)))))
  (he:∀lo:Nat,f ((lo:Int),(lo:Int))=some (.inr (lo:Int))):Qf f (0,(n:Int))=some (k:Int):=by
 have key:∀(d lo hi:Nat),hi - lo<=d->lo<=k->k<=hi->hi<=n->Qf f ((lo:Int),(hi:Int))=some (k:Int):=by
  intro d
  induction d with
  | zero=>
   intro lo hi h1 h2 h3 h4
   obtain rfl:lo=k:=by omega
   obtain rfl:lo=hi:=by omega
   exact QB (he lo)
  | succ d ih=>
   intro lo hi h1 h2 h3 h4
   by_cases h:lo<hi
   ·rw[Q2 (hs lo hi h h4)]
    by_cases hm:(lo+hi) / 2<k
    ·rw[if_pos hm];exact ih _ _ (by omega) (by omega) h3 h4
    ·rw[if_neg hm];exact ih _ _ (by omega) h2 (by omega) (by omega)
   ·obtain rfl:lo=hi:=by omega
    obtain rfl:lo=k:=by omega
    exact QB (he lo)
 exact key n 0 n (by omega) (by omega) hk (by omega)
theorem QCk {lo hi:Nat} (h:lo+hi<4611686018427387904):IntKind.wrap .i64 (Int.fdiv (IntKind.wrap .u64 (IntKind.wrap .i64 ((lo:Int)+(hi:Int)))) (2 ^ 1))=(((lo+hi) / 2:Nat):Int):=by
 rw[Qi (n:=(lo:Int)+(hi:Int)) (by omega) (by omega)]
 have e:IntKind.wrap .u64 ((lo:Int)+(hi:Int))=(lo:Int)+(hi:Int):=by
  simp[IntKind.wrap,IntKind.bits,IntKind.signed];omega
 rw[e]
 have e2:Int.fdiv ((lo:Int)+(hi:Int)) (2 ^ 1)=(((lo+hi) / 2:Nat):Int):=by
  rw[Int.fdiv_eq_ediv_of_nonneg _ (by decide)]
  show ((lo:Int)+(hi:Int)) / 2=_
  omega
 rw[e2]
 exact Qi (by omega) (by omega)
theorem Qs8 (n:Nat) (p:Nat->Bool) (hm:∀i j,i<=j->j<n->p j=true->p i=true):∃k,k<=n/\(∀i,i<k->p i=true)/\(∀i,k<=i->i<n->p i=false):=by
 induction n with
 | zero=>exact⟨0,by omega,fun i hi=>by omega,fun i h1 h2=>by omega⟩
 | succ n ih=>
  obtain⟨k,h1,h2,h3⟩:=ih fun i j hij hj=>hm i j hij (by omega)
  by_cases hp:p n=true
  ·refine⟨n+1,by omega,fun i hi=>hm i n (by omega) (by omega) hp,fun i h4 h5=>by omega⟩
  ·refine⟨k,by omega,h2,fun i h4 h5=>?_⟩
   by_cases hin:i=n
   ·subst hin;simpa using hp
   ·exact h3 i h4 (by omega)
theorem QgE {a b c:Int×Int} (h1:ZE a b=true) (h2:ZE b c=true):ZE a c=true:=by
 unfold ZE at *
 split at h1<;>split at h2<;>split<;>simp at *<;>omega
theorem Qc8 (a:Int×Int):ZE a a=false:=by unfold ZE;simp
theorem QzD {a b:Int×Int} (h:ZE a b=true):ZE b a=false:=by
 cases h2:ZE b a with
 | false=>rfl
 | true=>have:=QgE h h2;rw[Qc8] at this;cases this
theorem QvF {a b:Int×Int} (h1:ZE a b=false) (h2:ZE b a=false):a=b:=by
 obtain⟨a1,a2⟩:=a;obtain⟨b1,b2⟩:=b
 unfold ZE at *
 simp only at h1 h2
 by_cases h:a1=b1
 ·rw[if_pos h] at h1;rw[if_pos h.symm] at h2
  simp at h1 h2
  rw[h,show a2=b2 by omega]
 ·rw[if_neg h] at h1;rw[if_neg (fun e=>h e.symm)] at h2
  simp at h1 h2
  omega
theorem Qx1 (a b:Int×Int):decide (Qif a b<0)=ZE a b:=by
 have:=Qtj a b
 cases h:ZE a b with
 | false=>rw[h] at this;simp at this ⊢;omega
 | true=>rw[h] at this;simp at this ⊢;omega
theorem QBl (a b:Int×Int):decide (Qif a b=0)=decide (a=b):=by
 obtain⟨a1,a2⟩:=a;obtain⟨b1,b2⟩:=b
 unfold Qif mCmp
 refine decide_eq_decide.2 ?_
 simp only[aLe]
 by_cases h1:a1<b1
 ·simp[h1];omega
 ·by_cases h2:b1<a1
  ·simp[h1,h2];omega
  ·by_cases h3:a2<b2
   ·simp[h1,h2,h3];omega
   ·by_cases h4:b2<a2
    ·simp[h1,h2,h3,h4];omega
    ·simp[h1,h2,h3,h4];omega
def Rise (l:List TCoin):Prop:=l.Pairwise fun a b=>ZE a.1 b.1=true
theorem QEl {l:List TCoin} (h:YY l=0):Rise l:=by
 unfold YY at h
 by_cases h40:(40:Int)<(l.length:Int)
 ·rw[if_pos h40] at h;cases h
 ·rw[if_neg h40] at h
  have step:∀i (hi:i+1<l.length),ZE (l[i]'(by omega)).1 l[i+1].1=true:=fun i hi=>by
   have hc:=QdW h (i+1) _ (aLf hi)
   unfold Qod at hc
   cases h1:mRef l[i+1].1&&mIn l[i+1].2.2.1 0 999 with
   | false=>rw[h1] at hc;simp at hc
   | true=>
    rw[h1,if_pos rfl] at hc
    by_cases h2:mOut l[i+1].2.1=0
    ·rw[if_pos h2,Nat.add_sub_cancel,aLk,aLf (by omega:i<l.length)] at hc
     cases h3:ZE (l[i]'(by omega)).1 l[i+1].1 with
     | true=>rfl
     | false=>
      simp only[Option.getD_some] at hc
      simp[h3] at hc
    ·rw[if_neg h2] at hc;exact absurd hc h2
  unfold Rise
  rw[List.pairwise_iff_getElem]
  intro i j hi hj hij
  obtain⟨d,rfl⟩:∃d,j=i+1+d:=⟨j - (i+1),by omega⟩
  induction d with
  | zero=>exact step i hj
  | succ d ih=>exact QgE (ih (by omega) (by omega)) (step (i+1+d) hj)
theorem Qru {l:List TCoin} (h:Rise l) {i j:Nat} (hij:i<j) (hj:j<l.length):ZE (l[i]'(by omega)).1 l[j].1=true:=List.pairwise_iff_getElem.1 h i j (by omega) hj hij
theorem Qyc {l:List TCoin} (h:Rise l) {a b:TCoin} (ha:a ∈ l) (hb:b ∈ l) (he:a.1=b.1):a=b:=by
 obtain⟨i,hi,rfl⟩:=List.mem_iff_getElem.1 ha
 obtain⟨j,hj,rfl⟩:=List.mem_iff_getElem.1 hb
 rcases Nat.lt_trichotomy i j with h1 | h1 | h1
 ·have:=Qru h h1 hj;rw[he,Qc8] at this;cases this
 ·subst h1;rfl
 ·have:=Qru h h1 hi;rw[he,Qc8] at this;cases this
theorem QAE {l:List TCoin} (hr:Rise l) (hl:l.length<=1000000) (r:Int×Int):∃k:Nat,QcK l r=some ((k:Int),decide (∃h:k<l.length,(l[k]'h).1=r))/\((∃h:k<l.length,(l[k]'h).1=r)\/∀x,x ∈ l->x.1 ≠ r):=by
 obtain⟨k,h1,h2,h3⟩:=Qs8 l.length (fun i=>ZE (List.getD l i dC).1 r) (fun i j hij hj hp=>by
  rcases Nat.lt_or_ge i j with h | h
  ·have hi:i<l.length:=by omega
   have:=Qru hr h hj
   have e1:List.getD l i dC=l[i]:=by rw[aLk,aLf hi];rfl
   have e2:List.getD l j dC=l[j]:=by rw[aLk,aLf hj];rfl
   simp only[e1,e2] at hp ⊢
   exact QgE this hp
  ·obtain rfl:i=j:=by omega
   exact hp)
 have hgd:∀i (hi:i<l.length),List.getD l i dC=l[i]:=fun i hi=>by rw[aLk,aLf hi];rfl
 refine⟨k,?_,?_⟩
 ·unfold QcK Zf
  have hcmp:∀(x:TCoin),((Qcw x r).bind fun r7=>some r7)=some (Qif x.1 r):=fun x=>by
   unfold Qcw
   rw[Qfy];rfl
  simp only[hcmp,aLc]
  rw[QzN l.length k h1 _ (fun lo hi hlo hhi=>?_) (fun lo=>by simp only[Int.lt_irrefl,decide_false,aLC]),aLc]
  ·by_cases hk:k<l.length
   ·have hd:List.getD l (Int.toNat (k:Int)) dC=l[k]:=by rw[Int.toNat_natCast];exact hgd k hk
    rw[dlt hk,aLB,Qh l k hk,aLB]
    show some ((k:Int),decide (Qif (List.getD l (Int.toNat (k:Int)) dC).1 r=0))=_
    rw[hd,QBl]
    congr 2
    exact decide_eq_decide.2 ⟨fun h=>⟨hk,h⟩,fun ⟨_,h⟩=>h⟩
   ·have hf:decide (∃h:k<l.length,(l[k]'h).1=r)=false:=aLD (fun ⟨h,_⟩=>hk h)
    rw[dge' (by omega),aLC,aLc,hf];rfl
  ·have hm:=QCk (lo:=lo) (hi:=hi) (by omega)
   have hml:(lo+hi) / 2<l.length:=by omega
   simp only[hm]
   rw[aLE (by omega),aLB,Qh l _ hml,aLB]
   have hd:List.getD l (Int.toNat (((lo+hi) / 2:Nat):Int)) ((0,0),((0,([],(0,0))),(0,false)))=l[(lo+hi) / 2]:=by rw[Int.toNat_natCast];exact hgd _ hml
   rw[hd,Qx1,wsucc hml (by unfold BIG;omega)]
   by_cases hmk:(lo+hi) / 2<k
   ·have:=h2 _ hmk
    rw[hgd _ hml] at this
    rw[this,if_pos hmk];rfl
   ·have:=h3 _ (by omega) hml
    rw[hgd _ hml] at this
    rw[this,if_neg hmk];rfl
 ·by_cases hf:∃h:k<l.length,(l[k]'h).1=r
  ·exact .inl hf
  ·refine .inr fun x hx he=>hf ?_
   obtain⟨i,hi,rfl⟩:=List.mem_iff_getElem.1 hx
   have hik:¬i<k:=fun h=>by
    have:=h2 i h
    rw[hgd i hi,he,Qc8] at this;cases this
   refine⟨by omega,?_⟩
   rcases Nat.lt_or_ge k i with h | h
   ·have h4:=Qru hr h hi
    have h5:=h3 k (Nat.le_refl _) (by omega)
    rw[hgd k (by omega)] at h5
    rw[he] at h4
    rw[h4] at h5;cases h5
   ·obtain rfl:i=k:=by omega
    exact he
end GL
end Go.Dx
set_option maxHeartbeats 2000000
namespace Go.Dx
namespace GL
theorem Qr7 (l:List Int) (hl:l.length<=LIM):Z7 l=some l:=by
 unfold Z7
 rw[Ql5 hl,aLB]
 cases l with
 | nil=>exact QtV _
 | cons a l=>rfl
theorem Qwd (o:TOut) (h:o.2.1.length<=1000000):Qg2 o=some o:=by
 unfold Qg2 Qiz
 rw[Qr7 _ (by unfold LIM;omega)];rfl
theorem Qth (l:List TCoin) (hl:l.length<=1000000) (hk:∀x,x ∈ l->x.2.1.2.1.length<=1000000):QeY l=some l:=by
 unfold QeY
 rw[Yh (σ:=List TCoin) l (fun acc a=>acc++[a]) (fun t i=>(t,i)) (fun t=>t) (fun t i=>t.length=i) _ (fun i hi t ht=>by
   refine⟨?_,by simp[ht]⟩
   simp only[dlt hi,Qh _ i hi,Qg _ i _ hi,aLB,Qwd _ (hk _ (aLl hi)),aLc,wsucc hi (by unfold BIG;omega)]
   rw[Qz (by simp only[aLh,aLj];unfold LIM;omega)];rfl) (fun t ht=>by simp only[dge,aLC]) [] rfl,aLc,foldl_map (fun a=>a),List.map_id',aLx]
theorem QeB (l:List TCoin) (hl:l.length<=1000000) (hk:∀x,x ∈ l->x.2.1.2.1.length<=1000000):Qa8 l=some l:=by
 unfold Qa8
 have h2:∀r:TRu,r.1.length<=1000000->Qbc r=some r:=fun r hr=>by
  unfold Qbc
  rw[Ql5 (by unfold LIM;omega)];rfl
 rw[Yh (σ:=List TCoin) l (fun acc a=>acc++[a]) (fun t i=>(t,i)) (fun t=>t) (fun t i=>t.length=i) _ (fun i hi t ht=>by
   refine⟨?_,by simp[ht]⟩
   simp only[dlt hi,Qh _ i hi,Qg _ i _ hi,aLB,h2 _ (hk _ (aLl hi)),aLc,wsucc hi (by unfold BIG;omega)]
   rw[Qz (by simp only[aLh,aLj];unfold LIM;omega)];rfl) (fun t ht=>by simp only[dge,aLC]) [] rfl,aLc,foldl_map (fun a=>a),List.map_id',aLx]
def mSp (c:List TCoin) (t:TX):List TCoin:=c.filter fun x=>decide (x.1 ∈ t.2.2.1)
theorem Qng {c:List TCoin} (h:YY c=0):∀x,x ∈ c->x.2.1.2.1.length<=1000000:=fun x hx=>by
 have:=(JD ((Qkj h).2 x hx).rule).len;omega
theorem Qis {c:List TCoin} (h:YY c=0) (t:TX) (ht:t.2.2.1.length<=1000000):QbI c t=some (mSp c t,decide ((mSp c t).length=t.2.2.1.length)):=by
 have hl:=(Qkj h).1
 unfold QbI mSp
 rw[Yh (σ:=List TCoin) c (fun acc a=>if decide (a.1 ∈ t.2.2.1) then acc++[a] else acc) (fun t i=>(t,i)) (fun t=>t) (fun t i=>t.length<=i) _ (fun i hi x hx=>by
   refine⟨?_,by split<;>(try simp only[aLi,aLh,aLj])<;>omega⟩
   simp only[dlt hi,Qh _ i hi,Qg _ i _ hi,aLB,YE t.2.2.1 (by unfold BIG;omega),aLc,wsucc hi (by unfold BIG;omega)]
   rw[Qz (by simp only[aLh,aLj];unfold LIM;omega)]
   cases decide (c[i].1 ∈ t.2.2.1)<;>rfl) (fun t ht=>by simp only[dge,aLC]) [] (Nat.le_refl _),aLc,foldl_filter,aLx]
 rw[QeB _ (by have:=List.length_filter_le (fun x:TCoin=>decide (x.1 ∈ t.2.2.1)) c;omega) (fun x hx=>Qng h x (List.mem_filter.1 hx).1),aLc]
 congr 2
 exact decide_eq_decide.2 (by omega)
theorem QBb {c xs ys:List TCoin} (hc:Rise c) (hx:∀x,x ∈ xs->x ∈ c) (hp:ys.Perm xs) (hy:Rise ys) (hl:xs.length<=1000000):QgL xs=some ys:=by
 unfold QgL Yj
 have hg:∀a b:TCoin,((Y9 a b).bind fun r7=>some r7)=some (Qif a.1 b.1):=fun a b=>by
  unfold Y9
  rw[Qfy];rfl
 have hl':∀a b:TCoin,Qff (fun a b=>(Y9 a b).bind fun r7=>some r7) a b=ZE a.1 b.1:=fun a b=>by
  unfold Qff
  simp only[hg]
  exact Qx1 a.1 b.1
 have hso:Ql7 (fun a b=>(Y9 a b).bind fun r7=>some r7) xs:=by
  refine⟨fun a _ b _=>⟨_,hg a b⟩,fun a _=>by rw[hl'];exact Qc8 _,fun a _ b _ d _ h1 h2=>?_,fun a _ b _ d _ h1 h2=>?_,fun a ha b hb h1 h2=>?_,by omega⟩
  ·rw[hl'] at h1 h2 ⊢;exact QgE h1 h2
  ·rw[hl'] at h1 h2 ⊢
   cases h3:ZE a.1 d.1 with
   | false=>rfl
   | true=>
    cases h4:ZE d.1 b.1 with
    | true=>have:=QgE h3 h4;rw[h1] at this;cases this
    | false=>
     have e:=QvF h2 h4
     rw[e] at h1;rw[h3] at h1;cases h1
  ·rw[hl'] at h1 h2
   exact Qyc hc (hx a ha) (hx b hb) (QvF h1 h2)
 have hss:Sorts (fun a b=>(Y9 a b).bind fun r7=>some r7) xs ys:=⟨hp,List.Pairwise.imp (fun {a b} h=>by rw[hl'];exact QzD h) hy⟩
 rw[QDb hso hss];rfl
def atC (c:List TCoin) (r:Int×Int):Option TCoin:=c.find? fun x=>decide (x.1=r)
theorem Qj9 {c:List TCoin} {r:Int×Int} {x:TCoin} (h:atC c r=some x):x ∈ c/\x.1=r:=⟨List.mem_of_find?_eq_some h,by simpa using List.find?_some h⟩
theorem QB6 {c:List TCoin} (hc:Rise c) {x:TCoin} (hx:x ∈ c):atC c x.1=some x:=by
 cases h:atC c x.1 with
 | none=>
  unfold atC at h
  rw[List.find?_eq_none] at h
  exact absurd (by simp) (h x hx)
 | some y=>
  obtain⟨h1,h2⟩:=Qj9 h
  rw[Qyc hc h1 hx h2]
theorem QC1 {c:List TCoin} {r:Int×Int} (h:∀x,x ∈ c->x.1 ≠ r):atC c r=none:=by
 unfold atC
 rw[List.find?_eq_none]
 intro x hx
 simpa using h x hx
theorem QDZ {c:List TCoin} (hc:Rise c) (rs:List (Int×Int)) (hn:rs.Nodup):(c.filter fun x=>decide (x.1 ∈ rs)).Perm (rs.filterMap (atC c)):=by
 have n1:(c.filter fun x=>decide (x.1 ∈ rs)).Nodup:=by
  rw[List.nodup_iff_pairwise_ne]
  exact List.Pairwise.sublist List.filter_sublist (List.Pairwise.imp (fun {a b} h e=>by rw[e,Qc8] at h;cases h) hc)
 have n2:(rs.filterMap (atC c)).Nodup:=by
  rw[List.nodup_iff_pairwise_ne,List.pairwise_filterMap]
  rw[List.nodup_iff_pairwise_ne] at hn
  refine List.Pairwise.imp (fun {a b} h x hx y hy e=>h ?_) hn
  rw[<-(Qj9 hx).2,<-(Qj9 hy).2,e]
 refine (List.perm_ext_iff_of_nodup n1 n2).2 fun x=>?_
 rw[List.mem_filter,List.mem_filterMap]
 constructor
 ·rintro ⟨h1,h2⟩
  exact⟨x.1,aLG h2,QB6 hc h1⟩
 ·rintro ⟨r,h1,h2⟩
  obtain⟨h3,h4⟩:=Qj9 h2
  exact⟨h3,aLE (h4 ▸ h1)⟩
theorem QCO {c:List TCoin} (hc:Rise c) (p:TCoin->Bool):Rise (c.filter p):=List.Pairwise.sublist List.filter_sublist hc
theorem Qup {c:List TCoin} (h:YY c=0) (t:TX) (ht:okT t):Qf4 c t=some (if (mSp c t).length=t.2.2.1.length then (mSp c t,0) else ([],4)):=by
 have hl:=(Qkj h).1
 have hc:=QEl h
 have hp:=QDZ hc t.2.2.1 ht.nd
 have hli:=ht.li
 have hfind:∀r:Int×Int,∃k:Int,∃b,QcK c r=some (k,b)/\(b=true->∃x,atC c r=some x/\inB k c=true/\List.getD c (Int.toNat k) ((0,0),((0,([],(0,0))),(0,false)))=x)/\(b=false->atC c r=none):=fun r=>by
  obtain⟨k,hk,hor⟩:=QAE hc (by omega) r
  refine⟨k,_,hk,fun hb=>?_,fun hb=>?_⟩
  ·obtain⟨h1,h2⟩:=aLG hb
   exact⟨c[k],by rw[<-h2];exact QB6 hc (aLl h1),Qh c k h1,Qg c k _ h1⟩
  ·rcases hor with h1 | h1
   ·exact absurd h1 (aLH hb)
   ·exact QC1 h1
 have loop:∀(f:List TCoin×Int->Option ((List TCoin×Int)⊕(List TCoin⊕(List TCoin×Int)))),
   (∀(i:Nat) (hi:i<t.2.2.1.length) (acc:List TCoin),acc.length<=i->f (acc,(i:Int))=some (match atC c t.2.2.1[i] with | some x=>.inl (acc++[x],((i+1:Nat):Int)) | none=>.inr (.inr ([],4))))->(∀acc,f (acc,(t.2.2.1.length:Int))=some (.inr (.inl acc)))->
   Qf f ([],0)=some (if (mSp c t).length=t.2.2.1.length then .inl (t.2.2.1.filterMap (atC c)) else .inr ([],4)):=by
  intro f hs he
  have key:∀(k i:Nat) (acc:List TCoin),i+k=t.2.2.1.length->acc.length<=i->Qf f (acc,(i:Int))=some (if ((t.2.2.1.drop i).filterMap (atC c)).length=k then .inl (acc++(t.2.2.1.drop i).filterMap (atC c)) else .inr ([],4)):=by
   intro k
   induction k with
   | zero=>
    intro i acc hi ha
    obtain rfl:i=t.2.2.1.length:=by omega
    rw[QB (he acc)];simp
   | succ k ih=>
    intro i acc hi ha
    have hlt:i<t.2.2.1.length:=by omega
    have h1:=hs i hlt acc ha
    rw[aLr hlt]
    have hle:=List.length_filterMap_le (atC c) (t.2.2.1.drop (i+1))
    rw[aLz] at hle
    cases hx:atC c t.2.2.1[i] with
    | none=>
     rw[hx] at h1
     rw[QB h1,List.filterMap_cons_none hx,if_neg (by omega)]
    | some x=>
     rw[hx] at h1
     rw[Q2 h1,ih (i+1) _ (by omega) (by simp;omega),List.filterMap_cons_some hx]
     by_cases hk:((t.2.2.1.drop (i+1)).filterMap (atC c)).length=k
     ·rw[if_pos hk,if_pos (by simp;omega)];simp
     ·rw[if_neg hk,if_neg (by simp;omega)]
  have:=key t.2.2.1.length 0 [] (by omega) (by simp)
  rw[List.drop_zero,aLx,<-hp.length_eq] at this
  exact this
 unfold Qf4
 rw[loop _ (fun i hi acc ha=>?_) (fun acc=>by simp only[dge,aLC]),aLc]
 ·by_cases hlen:(mSp c t).length=t.2.2.1.length
  ·rw[if_pos hlen,if_pos hlen]
   have hm:∀x,x ∈ t.2.2.1.filterMap (atC c)->x ∈ c:=fun x hx=>by
    obtain⟨r,_,h2⟩:=List.mem_filterMap.1 hx
    exact (Qj9 h2).1
   have hfl:=List.length_filterMap_le (atC c) t.2.2.1
   rw[Sum.elim_inl,Qth _ (by omega) (fun x hx=>Qng h x (hm x hx)),aLc,QBb hc hm hp (QCO hc _) (by omega)]
   rfl
  ·rw[if_neg hlen,if_neg hlen];rfl
 ·obtain⟨k,b,e1,e2,e3⟩:=hfind t.2.2.1[i]
  simp only[dlt hi,Qh _ i hi,Qg _ i _ hi,aLB,e1,aLc,wsucc hi (by unfold BIG;omega)]
  cases b with
  | false=>rw[e3 rfl];rfl
  | true=>
   obtain⟨x,h1,h2,h3⟩:=e2 rfl
   rw[h1,h2,h3]
   simp only[Bool.not_true,aLC,aLB]
   rw[Qz (by simp only[aLh,aLj];unfold LIM;omega)];rfl
end GL
end Go.Dx
set_option maxHeartbeats 2000000
namespace Go.Dx
namespace GL
def mCnt (l:TL) (ks:List Int) (id:Int):Int:=ks.foldl (fun n k=>if decide ((k,id) ∈ l.2) then IntKind.wrap .i64 (n+1) else n) 0
def mMet (l:TL) (r:TRu) (id h:Int):Int:=if h<r.2.2 then 9 else if mCnt l r.1 id<r.2.1 then 6 else 0
theorem QvX {l:TL} (hl:okL l) (k id:Int):Ys l k id=some (decide ((k,id) ∈ l.2)):=by
 unfold Ys
 rw[QlB _ (by have:=hl.n2;unfold BIG;omega)];rfl
theorem QAc {l:TL} (hl:okL l) (k id:Int):QdC l k id=some (decide ((k,id) ∈ l.2)):=by
 unfold QdC
 rw[QhI _ (by have:=hl.n2;unfold BIG;omega)];rfl
theorem QBo {l:TL} (hl:okL l) (r:TRu) (hr:r.1.length<BIG) (id h:Int):QaQ l r id h=some (mMet l r id h):=by
 unfold QaQ mMet
 by_cases h1:h<r.2.2
 ·rw[aLE h1,if_pos h1];rfl
 ·rw[aLD h1,if_neg h1,aLC]
  rw[Yh (σ:=Int) r.1 (fun n k=>if decide ((k,id) ∈ l.2) then IntKind.wrap .i64 (n+1) else n) (fun t i=>(t,i)) (fun t=>t) (fun _ _=>True) _ (fun i hi x hx=>by
    refine⟨?_,trivial⟩
    simp only[dlt hi,Qh _ i hi,Qg _ i _ hi,aLB,QvX hl,aLc,wsucc hi hr]
    cases decide ((r.1[i],id) ∈ l.2)<;>rfl) (fun t ht=>by simp only[dge,aLC]) 0 trivial,aLc]
  show (bif decide (mCnt l r.1 id<r.2.1) then some (6:Int) else some 0)=_
  by_cases h2:mCnt l r.1 id<r.2.1
  ·rw[aLE h2,if_pos h2];rfl
  ·rw[aLD h2,if_neg h2];rfl
theorem QD5 {l:TL} (hl:okL l) (r:TRu) (hr:r.1.length<BIG) (id h:Int):Qh4 l r id h=some (mMet l r id h):=by
 unfold Qh4 mMet
 by_cases h1:h<r.2.2
 ·rw[aLE h1,if_pos h1];rfl
 ·rw[aLD h1,if_neg h1,aLC]
  rw[Yh (σ:=Int) r.1 (fun n k=>if decide ((k,id) ∈ l.2) then IntKind.wrap .i64 (n+1) else n) (fun t i=>(t,i)) (fun t=>t) (fun _ _=>True) _ (fun i hi x hx=>by
    refine⟨?_,trivial⟩
    simp only[dlt hi,Qh _ i hi,Qg _ i _ hi,aLB,QAc hl,aLc,wsucc hi hr]
    cases decide ((r.1[i],id) ∈ l.2)<;>rfl) (fun t ht=>by simp only[dge,aLC]) 0 trivial,aLc]
  show (bif decide (mCnt l r.1 id<r.2.1) then some (6:Int) else some 0)=_
  by_cases h2:mCnt l r.1 id<r.2.1
  ·rw[aLE h2,if_pos h2];rfl
  ·rw[aLD h2,if_neg h2];rfl
def Qn7 (x:TCoin) (h:Int):Bool:=!x.2.2.2 || decide (IntKind.wrap .i64 (x.2.2.1+2)<=h)
theorem Qs7 (x:TCoin) (h:Int):JS x h=some (Qn7 x h):=by
 unfold JS Qn7
 cases x.2.2.2<;>rfl
theorem QDi (x:TCoin) (h:Int) (h1:mIn x.2.2.1 0 999=true) (h2:mIn h 0 999=true):QgT x h=some (Qn7 x h):=by
 unfold QgT Qn7
 rw[Qfa,Qfa,h1,h2]
 cases x.2.2.2<;>rfl
def mSum (l:List TCoin):Int:=l.foldl (fun n x=>IntKind.wrap .i64 (n+x.2.1.1)) 0
def Qrn (l:List TOut):Int:=l.foldl (fun n x=>IntKind.wrap .i64 (n+x.1)) 0
theorem QAa (l:List TCoin) (hl:l.length<BIG):QhT l=some (mSum l)/\Qie l=some (mSum l):=by
 constructor
 ·unfold QhT
  rw[Yh (σ:=Int) l (fun n x=>IntKind.wrap .i64 (n+x.2.1.1)) (fun t i=>(t,i)) (fun t=>t) (fun _ _=>True) _ (fun i hi x hx=>by
    refine⟨?_,trivial⟩
    simp only[dlt hi,Qh _ i hi,Qg _ i _ hi,aLB,aLc,wsucc hi hl]) (fun t ht=>by simp only[dge,aLC]) 0 trivial,aLc];rfl
 ·unfold Qie
  rw[Yh (σ:=Int) l (fun n x=>IntKind.wrap .i64 (n+x.2.1.1)) (fun t i=>(t,i)) (fun t=>t) (fun _ _=>True) _ (fun i hi x hx=>by
    refine⟨?_,trivial⟩
    simp only[dlt hi,Qh _ i hi,Qg _ i _ hi,aLB,aLc,wsucc hi hl]) (fun t ht=>by simp only[dge,aLC]) 0 trivial,aLc];rfl
theorem QxI (t:TX) (hl:t.2.2.2.length<BIG):QgW t=some (Qrn t.2.2.2)/\QhG t=some (Qrn t.2.2.2):=by
 constructor
 ·unfold QgW
  rw[Yh (σ:=Int) t.2.2.2 (fun n x=>IntKind.wrap .i64 (n+x.1)) (fun t i=>(t,i)) (fun t=>t) (fun _ _=>True) _ (fun i hi x hx=>by
    refine⟨?_,trivial⟩
    simp only[dlt hi,Qh _ i hi,Qg _ i _ hi,aLB,aLc,wsucc hi hl]) (fun t ht=>by simp only[dge,aLC]) 0 trivial,aLc];rfl
 ·unfold QhG
  rw[Yh (σ:=Int) t.2.2.2 (fun n x=>IntKind.wrap .i64 (n+x.1)) (fun t i=>(t,i)) (fun t=>t) (fun _ _=>True) _ (fun i hi x hx=>by
    refine⟨?_,trivial⟩
    simp only[dlt hi,Qh _ i hi,Qg _ i _ hi,aLB,aLc,wsucc hi hl]) (fun t ht=>by simp only[dge,aLC]) 0 trivial,aLc];rfl
def mC1 (l:TL) (id h:Int) (x:TCoin):Int:=if Qn7 x h then mMet l x.2.1.2 id h else 9
def QBc (l:TL) (sp:List TCoin) (t:TX) (id:Int):Int×Int:=if t.1=2/\(t.2.1,id) ∉ l.2 then (0,6) else if IntKind.wrap .i64 (mSum sp - Qrn t.2.2.2)<0 then (0,8) else (IntKind.wrap .i64 (mSum sp - Qrn t.2.2.2),0)
def QtQ (l:TL) (c:List TCoin) (t:TX) (id h:Int):Int×Int:=if (mSp c t).length=t.2.2.1.length then (if code (fun _=>mC1 l id h) (mSp c t)=0 then QBc l (mSp c t) t id else (0,code (fun _=>mC1 l id h) (mSp c t))) else (0,4)
def mId (l:TL) (s:List UInt8):Int:=idxF (fun a=>decide (a=s)) l.1+1
def mChk (l:TL) (c:List TCoin) (t:TX) (h:Int):Int×Int:=if (Qw t).length<=300 then (if mId l (Qw t)=0 then (0,4) else QtQ l c t (mId l (Qw t)) h) else (0,2)
theorem Qtt {α R:Type} (l:List α) (c:α->Int) (f:Int->Option (Int⊕(Unit⊕(Int×Int))))
  (hs:∀(i:Nat) (h:i<l.length),f (i:Int)=some (if c l[i]=0 then .inl ((i+1:Nat):Int) else .inr (.inr (0,c l[i])))) (he:f (l.length:Int)=some (.inr (.inl ()))) (A:Unit->Option R) (B:Int×Int->Option R) :
  ((Qf f 0).bind fun j=>Sum.elim A B j)=if code (fun _=>c) l=0 then A () else B (0,code (fun _=>c) l):=by
 rw[Qcl l (fun i a=>(if c a=0 then none else some (c a)).map fun v=>((0:Int),v)) f (fun i h=>by rw[hs i h];by_cases hc:c l[i]=0<;>simp[hc]) he,QnQ,Qd9]
 by_cases h0:code (fun _=>c) l=0
 ·rw[if_pos h0]
  have hz:=QdW h0
  have:first (fun (_:Nat) a=>if c a=0 then none else some (c a)) 0 l=none:=(Qh6 l 0).2 (fun j a ha=>by rw[if_pos (hz j a ha)])
  rw[this];rfl
 ·rw[if_neg h0]
  unfold code at h0 ⊢
  cases hf:first (fun (_:Nat) a=>if c a=0 then none else some (c a)) 0 l with
  | none=>rw[hf] at h0;exact absurd rfl h0
  | some r=>rfl
theorem Qxu {c:List TCoin} {t:TX} {x:TCoin} (h:x ∈ mSp c t):x ∈ c:=(List.mem_filter.1 h).1
theorem Qoi {l:TL} (t:TX) (id:Int) (g:Int->Int->Option Bool) (hg:g t.2.1 id=some (decide ((t.2.1,id) ∈ l.2))):(bif decide (t.1=2) then (g t.2.1 id).bind fun y=>some (!y) else some false)=some (decide (t.1=2/\(t.2.1,id) ∉ l.2)):=by
 rw[hg]
 by_cases h1:t.1=2<;>by_cases h2:(t.2.1,id) ∈ l.2<;>simp[h1,h2]
theorem Qu6 {l:TL} (hl:okL l) {c:List TCoin} (hc:YY c=0) {t:TX} (ht:okT t) (id h:Int):Qdp l c t id h=some (QtQ l c t id h):=by
 have hB:BIG=4611686018427387904:=rfl
 have hcl:=(Qkj hc).1
 have hspl:(mSp c t).length<=c.length:=List.length_filter_le _ c
 unfold Qdp QtQ
 rw[Qis hc t (by have:=ht.li;omega),aLc]
 by_cases h1:(mSp c t).length=t.2.2.1.length
 ·simp only[h1,decide_true,Bool.not_true,aLC,if_true]
  rw[Qtt (mSp c t) (mC1 l id h) _ (fun i hi=>?_) (by rw[<-h1];simp only[dge,aLC])]
  ·by_cases h2:code (fun _=>mC1 l id h) (mSp c t)=0
   ·rw[if_pos h2,if_pos h2,Qoi (l:=l) t id (QdC l) (QAc hl _ _),aLc,(QAa _ (by omega)).2,(QxI t ht.b.outs).2]
    unfold QBc
    by_cases h3:t.1=2/\(t.2.1,id) ∉ l.2
    ·rw[aLE h3,if_pos h3];rfl
    ·rw[aLD h3,if_neg h3]
     simp only[aLC,aLc]
     by_cases h4:IntKind.wrap .i64 (mSum (mSp c t) - Qrn t.2.2.2)<0
     ·rw[aLE h4,if_pos h4];rfl
     ·rw[aLD h4,if_neg h4];rfl
   ·rw[if_neg h2,if_neg h2]
  ·have hr:(mSp c t)[i].2.1.2.1.length<BIG:=by have:=Qng hc _ (Qxu (aLl hi));omega
   have hi2:i<t.2.2.1.length:=by omega
   simp only[dlt hi2,Qh _ i hi,Qg _ i _ hi,aLB,Qs7,QD5 hl _ hr,aLc,wsucc hi (by omega)]
   unfold mC1
   cases Qn7 (mSp c t)[i] h
   ·rfl
   ·by_cases h3:mMet l (mSp c t)[i].2.1.2 id h=0
    ·rw[aLE h3];simp[h3]
    ·rw[aLD h3];simp[h3]
 ·simp only[h1,decide_false,Bool.not_false,aLB,if_false]
theorem QmG {l:TL} (hl:mLF l=0) {c:List TCoin} (hc:YY c=0) {t:TX} (ht:mTxF t=0) {h:Int} (hh:mIn h 0 999=true):Qan l c t h=some ((mChk l c t h).2,if (mChk l c t h).2=0 then (mChk l c t h).1 else 0):=by
 have hB:BIG=4611686018427387904:=rfl
 have hlo:=Qmi hl
 have hcl:=(Qkj hc).1
 unfold Qan mChk
 rw[YD l (by have:=hlo.n1;omega) (by have:=hlo.n2;omega),QbE c (by omega) (fun x hx=>by have:=Qng hc x hx;omega),Qf5 t (Qbm ht).b,QcI,Qw9 ht]
 simp only[hl,hc,ht,hh,decide_true,Bool.not_true,aLC,aLc]
 by_cases h1:(Qw t).length<=300
 ·rw[if_pos h1,if_pos h1]
  simp only[decide_true,Bool.not_true,aLC]
  rw[QlR _ (by have:=hlo.n1;omega),aLc]
  show (bif decide (mId l (Qw t)=0) then some ((4:Int),(0:Int)) else _)=_
  by_cases h2:mId l (Qw t)=0
  ·rw[aLE h2,if_pos h2];rfl
  ·rw[aLD h2,if_neg h2,aLC]
   show ((Qdp l c t (mId l (Qw t)) h).bind _)=_
   rw[Qu6 hlo hc (Qbm ht),aLc]
   by_cases h3:(QtQ l c t (mId l (Qw t)) h).2=0
   ·rw[aLE h3,if_pos h3,h3];rfl
   ·rw[aLD h3,if_neg h3];rfl
 ·rw[if_neg h1,if_neg h1];rfl
theorem QEb (l:List (List UInt8)) (x:List UInt8):idxF (fun a=>decide (x=a)) l=idxF (fun a=>decide (a=x)) l:=by
 congr 1
 funext a
 exact decide_eq_decide.2 ⟨Eq.symm,Eq.symm⟩
theorem QBL {α:Type} (p:α->Bool) (l:List α):-1<=idxF p l/\idxF p l<l.length:=by
 cases h:l.any p with
 | false=>
  have h1:=(Qz3 p l).1 ((Qn6 p l).2 h)
  rw[h1];omega
 | true=>
  obtain⟨k,hk,e,_⟩:=QjL h
  rw[e];omega
theorem QEw {l:TL} (hl:okL l) (s:List UInt8):QcA l s=some (mId l s):=by
 unfold QcA mId
 have h1:=hl.n1
 rw[QrS _ (by unfold BIG;omega),aLc,QEb]
 have:=QBL (fun a=>decide (a=s)) l.1
 rw[Qi (by omega) (by omega)]
theorem Qvq {l:TL} (hl:okL l) {c:List TCoin} (hc:YY c=0) {t:TX} (ht:okT t) {h:Int} (hh:mIn h 0 999=true):QaS l c t h=some (mChk l c t h):=by
 have hB:BIG=4611686018427387904:=rfl
 have hcl:=(Qkj hc).1
 have hspl:(mSp c t).length<=c.length:=List.length_filter_le _ c
 unfold QaS mChk
 rw[Qoz ht,aLc]
 by_cases h1:(Qw t).length<=300
 ·rw[if_pos h1,if_pos h1]
  simp only[decide_true,Bool.not_true,aLC]
  rw[QEw hl,aLc]
  by_cases h2:mId l (Qw t)=0
  ·rw[aLE h2,if_pos h2];rfl
  ·rw[aLD h2,if_neg h2,aLC,Qup hc t ht,aLc]
   generalize mId l (Qw t)=id
   unfold QtQ
   by_cases h3:(mSp c t).length=t.2.2.1.length
   ·rw[if_pos h3,if_pos h3]
    simp only[decide_true,Bool.not_true,aLC]
    rw[Qtt (mSp c t) (mC1 l id h) _ (fun i hi=>?_) (by simp only[dge,aLC])]
    ·by_cases h2:code (fun _=>mC1 l id h) (mSp c t)=0
     ·rw[if_pos h2,if_pos h2,(QAa _ (by omega)).1,(QxI t ht.b.outs).1,aLc,aLc,Qoi (l:=l) t id (Ys l) (QvX hl _ _),aLc]
      unfold QBc
      by_cases h3:t.1=2/\(t.2.1,id) ∉ l.2
      ·rw[aLE h3,if_pos h3];rfl
      ·rw[aLD h3,if_neg h3]
       simp only[aLC,aLc]
       by_cases h4:IntKind.wrap .i64 (mSum (mSp c t) - Qrn t.2.2.2)<0
       ·rw[aLE h4,if_pos h4];rfl
       ·rw[aLD h4,if_neg h4];rfl
     ·rw[if_neg h2,if_neg h2]
    ·have hx:=(Qkj hc).2 _ (Qxu (aLl hi))
     have hr:(mSp c t)[i].2.1.2.1.length<BIG:=by have:=Qng hc _ (Qxu (aLl hi));omega
     simp only[dlt hi,Qh _ i hi,Qg _ i _ hi,aLB,QDi _ h (ZA.2 hx.height) hh,QBo hl _ hr,aLc,wsucc hi (by omega)]
     unfold mC1
     cases Qn7 (mSp c t)[i] h
     ·rfl
     ·by_cases h3:mMet l (mSp c t)[i].2.1.2 id h=0
      ·rw[aLE h3];simp[h3]
      ·rw[aLD h3];simp[h3]
   ·rw[if_neg h3,if_neg h3];rfl
 ·rw[if_neg h1,if_neg h1];rfl
end GL
end Go.Dx
set_option maxHeartbeats 2000000
namespace Go.Dx
theorem QCw {α:Type} (l:List α) (d:α) (p:α->Bool) (f:List α×Int×Int->Option ((List α×Int×Int)⊕(List α×Int)))
  (hs:∀(X:List α) (j i:Nat) (h:i<X.length),X.length=l.length->j<=i->f (X,(j:Int),(i:Int))=some (.inl (if p X[i] then (X,(j:Int),((i+1:Nat):Int)) else (X.set j X[i],((j+1:Nat):Int),((i+1:Nat):Int)))))
  (he:∀(X:List α) (j:Nat),X.length=l.length->f (X,(j:Int),(l.length:Int))=some (.inr (X,(j:Int)))) :
  ∀(k j i:Nat) (X:List α),i+k=l.length->j<=i->X.length=l.length->X.take j=(l.take i).filter (fun a=>!p a)->X.drop i=l.drop i->
   ∃(X':List α) (j':Nat),Qf f (X,(j:Int),(i:Int))=some (X',(j':Int))/\X'.length=l.length/\j'<=l.length/\X'.take j'=l.filter (fun a=>!p a):=by
 intro k
 induction k with
 | zero=>
  intro j i X hi hj hX ht hd
  obtain rfl:i=l.length:=by omega
  exact⟨X,j,QB (he X j hX),hX,hj,by rw[ht,List.take_length]⟩
 | succ k ih=>
  intro j i X hi hj hX ht hd
  have h:i<X.length:=by omega
  have h':i<l.length:=by omega
  have hx:X[i]=l[i]:=by
   rw[aLr h,aLr h'] at hd
   exact (List.cons.inj hd).1
  have hd':X.drop (i+1)=l.drop (i+1):=by
   rw[<-List.drop_drop,<-List.drop_drop,hd]
  have ht':(l.take (i+1)).filter (fun a=>!p a)=(l.take i).filter (fun a=>!p a)++[l[i]].filter (fun a=>!p a):=by
   rw[List.take_succ_eq_append_getElem h',List.filter_append]
  rw[Q2 (hs X j i h hX hj)]
  rw[hx]
  cases hp:p l[i] with
  | true=>
   rw[if_pos rfl]
   refine ih j (i+1) X (by omega) (by omega) hX ?_ hd'
   rw[ht',ht];simp[hp]
  | false=>
   rw[if_neg (by simp)]
   refine ih (j+1) (i+1) (X.set j l[i]) (by omega) (by omega) (by simpa using hX) ?_ ?_
   ·rw[ht',<-ht]
    have hj2:j<(X.set j l[i]).length:=by rw[List.length_set];omega
    rw[List.take_succ_eq_append_getElem hj2,List.take_set_of_le (Nat.le_refl _)]
    simp[hp]
   ·rw[List.drop_set_of_lt (by omega),hd']
theorem QCV {α β:Type} (l:List α) (p:α->Bool) (k:Nat) (hk:k<l.length) (hpre:(l.take (k+1)).filter (fun a=>!p a)=l.take k) (f:List α×Int×Int->Option ((List α×Int×Int)⊕(List α×Int))) (G:List α×Int->Option β) (r:β)
  (hs:∀(X:List α) (j i:Nat) (h:i<X.length),X.length=l.length->j<=i->f (X,(j:Int),(i:Int))=some (.inl (if p X[i] then (X,(j:Int),((i+1:Nat):Int)) else (X.set j X[i],((j+1:Nat):Int),((i+1:Nat):Int)))))
  (he:∀(X:List α) (j:Nat),X.length=l.length->f (X,(j:Int),(l.length:Int))=some (.inr (X,(j:Int))))
  (hG:∀(X':List α) (j':Nat),X'.length=l.length->j'<=l.length->X'.take j'=l.filter (fun a=>!p a)->G (X',(j':Int))=some r) :
  (Qf f (l,(k:Int),((k+1:Nat):Int))).bind G=some r:=by
 obtain⟨X',j',e1,e2,e3,e4⟩:=QCw l l[k] p f hs he (l.length - (k+1)) k (k+1) l (by omega) (by omega) rfl hpre.symm rfl
 rw[e1,aLc]
 exact hG X' j' e2 e3 e4
namespace GL
abbrev TMb:=Int×Int×Int
theorem Qlt (l:List TMb) (hl:l.length<BIG) (p:TMb->Bool) (f:TMb->Option Bool) (hf:∀a,a ∈ l->f a=some (p a)):QY l f=some (idxF p l):=by
 unfold QY
 refine QcM l p _ (fun i h=>?_) (by simp only[dge,aLC])
 simp only[dlt h,Qh l i h,Qg l i _ h,aLB,hf _ (aLl h),aLc,wsucc h hl]
 cases p l[i]<;>rfl
theorem QsG (l:List TMb) (hl:l.length<BIG) (p:TMb->Bool) (f:TMb->Option Bool) (hf:∀a,f a=some (p a)):Zg l f=some (l.filter (fun a=>!p a)):=by
 unfold Zg
 rw[Qlt l hl p f (fun a _=>hf a),aLc]
 cases hany:l.any p with
 | false=>
  have h1:idxF p l = -1:=(Qz3 p l).1 ((Qn6 p l).2 hany)
  rw[h1]
  simp only[decide_true,aLB]
  congr 1
  refine (List.filter_eq_self.2 fun a ha=>?_).symm
  rw[List.any_eq_false] at hany
  simpa using hany a ha
 | true=>
  obtain⟨k,hk,h1,h2,h3⟩:=QjL hany
  rw[h1,aLD (by omega:¬(k:Int) = -1),aLC,wsucc hk hl]
  have hpre:(l.take (k+1)).filter (fun a=>!p a)=l.take k:=by
   rw[List.take_succ_eq_append_getElem hk,List.filter_append]
   have e1:(l.take k).filter (fun a=>!p a)=l.take k:=List.filter_eq_self.2 fun a ha=>by
    obtain⟨j,hj,rfl⟩:=List.mem_iff_getElem.1 ha
    rw[aLn] at hj
    simp only[List.getElem_take]
    rw[h3 j (by omega)];rfl
   rw[e1]
   simp[h2]
  refine QCV l p k hk hpre _ _ _ (fun X j i h hX hj=>?_) (fun X j hX=>by rw[<-hX];simp only[dge,aLC]) (fun X' j' e2 e3 e4=>?_)
  ·have e1:decide ((i:Int)<(X.length:Int))=true:=dlt h
   simp only[e1,Qh X i h,Qg X i _ h,aLB,hf,aLc,wsucc h (by omega:X.length<BIG),Qh X j (by omega),wsucc (by omega:j<X.length) (by omega:X.length<BIG)]
   cases p X[i] with
   | true=>rfl
   | false=>simp
  have c1:QT (j':Int) (X'.length:Int) X'=true:=by unfold QT;simp;omega
  have hcl:clr (s:=.prod (.int .i64) (.prod (.int .i64) (.int .i64))) (j':Int) (X'.length:Int) X'=X'.take j'++(List.replicate (X'.length - j') ((0,0,0):TMb)++[]):=by
   unfold clr
   simp[Sh.dflt]
  have c2:QT 0 (j':Int) (clr (s:=.prod (.int .i64) (.prod (.int .i64) (.int .i64))) (j':Int) (X'.length:Int) X')=true:=by
   unfold QT
   rw[hcl]
   simp;omega
  rw[c1,c2,aLB,aLB,hcl]
  simp only[Int.sub_zero,Int.toNat_natCast,Int.toNat_zero,List.drop_zero]
  rw[List.take_append_of_le_length (by rw[aLn];omega),List.take_take,Nat.min_self,e4]
theorem Qjd (l:List TMb) (hl:l.length<BIG) (p:TMb->Bool) (f:TMb->Option Bool) (hf:∀a,a ∈ l->f a=some (p a)):QN l f=some (l.any p):=by
 unfold QN
 rw[Qlt l hl p f hf,aLc,ZZ]
def mMb (l:List TMb) (i:Nat) (x:TMb):Int:=if mIn x.1 1 999&&mRef x.2 then (if decide (0<i)&&decide (x.1<=(List.getD l (i - 1) (0,(0,0))).1) then 1 else 0) else 3
def mMd (l:List TMb) (i:Nat) (x:TMb):Int:=if (l.take i).any (fun y=>decide (y.2=x.2)) then 7 else 0
def mMem (l:List TMb):Int:=if (8:Int)<(l.length:Int) then 2 else if code (mMb l) l=0 then code (mMd l) l else code (mMb l) l
theorem Qz7 (l:List TMb) (hl:l.length<BIG) (i:Nat) (h:i<l.length) (h0:0<i):inB (IntKind.wrap .i64 ((i:Int) - 1)) l=true/\List.getD l (Int.toNat (IntKind.wrap .i64 ((i:Int) - 1))) (0,(0,0))=List.getD l (i - 1) (0,(0,0)):=by
 obtain⟨j,rfl⟩:∃j,i=j+1:=⟨i - 1,by omega⟩
 rw[wpred (i:=j) (n:=l.length) (by omega) hl]
 exact⟨Qh l j (by omega),by simp⟩
theorem QuU (l:List TMb) (hl:l.length<BIG):Qf3 l=some (mMem l):=by
 unfold Qf3 mMem
 by_cases h8:(8:Int)<(l.length:Int)
 ·rw[aLE h8,if_pos h8];rfl
 ·rw[aLD h8,if_neg h8,aLC]
  rw[Qbq l (mMb l) _ (fun i h=>?_) (by simp only[dge,aLC])]
  ·split
   ·refine Qht l (mMd l) _ (fun i h=>?_) (by simp only[dge,aLC])
    rw[dlt h,aLB]
    have inner:=Qcl (β:=Int) (l.take i) (fun _ y=>if decide (y.2=l[i].2) then some 7 else none) (fun (s64:Int)=>
 bif (decide ((s64:Int)<(i:Int))) then
 bif (inB s64 l) then
 bif (inB (i:Int) l) then
 bif (Sh.beq (.prod (.int .i64) (.int .i64)) (List.getD l (Int.toNat s64) (0,(0,0))).2 (List.getD l (Int.toNat (i:Int)) (0,(0,0))).2) then
 some (Sum.inr (Sum.inr 7))
 else
 some (Sum.inl (IntKind.wrap .i64 (s64+1)))
 else none
 else none
 else
 some (Sum.inr (Sum.inl ()))) (fun k hk=>by
      rw[aLn] at hk
      have hk1:k<i:=by omega
      have hk2:k<l.length:=by omega
      simp only[List.getElem_take]
      rw[aLE (by omega),aLB,Qh l k hk2,aLB,Qh l i h,aLB,Qg l k _ hk2,Qg l i _ h,Qlc,wsucc hk2 hl]
      cases decide (l[k].2=l[i].2)<;>rfl) (by
      rw[aLn,Nat.min_eq_left (by omega)]
      simp only[Int.lt_irrefl,decide_false,aLC])
    rw[inner,Qd9,Qlm]
    unfold mMd
    cases (l.take i).any (fun y=>decide (y.2=l[i].2))
    ·simp only[Bool.false_eq_true,if_false,wsucc h hl,if_true]
    ·simp
   ·rfl
  ·simp only[dlt h,Qh l i h,Qg l i _ h,aLB,Qdk,QhX,aLc,wsucc h hl]
   unfold mMb
   cases h1:mIn l[i].1 1 999<;>cases h2:mRef l[i].2<;>try rfl
   simp only[Bool.not_true,aLC,aLc,Bool.true_and,if_true]
   by_cases h4:0<i
   ·obtain⟨e1,e2⟩:=Qz7 l hl i h h4
    rw[show decide ((0:Int)<(i:Int))=true by simpa using h4,aLE h4,aLB,e1,aLB,e2,aLc,Bool.true_and]
    cases decide (l[i].1<=(List.getD l (i - 1) (0,(0,0))).1)<;>rfl
   ·rw[show decide ((0:Int)<(i:Int))=false by simpa using h4,aLD h4];rfl
theorem QpV (l:List TMb) (hl:l.length<BIG):Qb1 l=some (mMem l):=by
 unfold Qb1 mMem
 by_cases h8:(8:Int)<(l.length:Int)
 ·rw[aLE h8,if_pos h8];rfl
 ·rw[aLD h8,if_neg h8,aLC]
  rw[Qbq l (mMb l) _ (fun i h=>?_) (by simp only[dge,aLC])]
  ·split
   ·refine Qht l (mMd l) _ (fun i h=>?_) (by simp only[dge,aLC])
    have hc:=Qjd (l.take i) (Qfu hl i) (fun y=>decide (y.2=l[i].2)) (fun a63=>(Qar a63 l[i]).bind fun r64=>some r64) (fun a _=>by unfold Qar;rw[Qlc];rfl)
    simp only[dlt h,Qh l i h,Qg l i _ h,Jf l i (Nat.le_of_lt h),QdF,aLB,hc,aLc,wsucc h hl]
    unfold mMd
    cases (l.take i).any (fun y=>decide (y.2=l[i].2))<;>simp
   ·rfl
  ·simp only[dlt h,Qh l i h,Qg l i _ h,aLB,QhY,Qkp,aLc,wsucc h hl]
   unfold mMb
   cases h1:mIn l[i].1 1 999<;>cases h2:mRef l[i].2<;>try rfl
   simp only[Bool.not_true,aLC,aLc,Bool.true_and,if_true]
   by_cases h4:0<i
   ·obtain⟨e1,e2⟩:=Qz7 l hl i h h4
    rw[show decide ((0:Int)<(i:Int))=true by simpa using h4,aLE h4,aLB,e1,aLB,e2,aLc,Bool.true_and]
    cases decide (l[i].1<=(List.getD l (i - 1) (0,(0,0))).1)<;>rfl
   ·rw[show decide ((0:Int)<(i:Int))=false by simpa using h4,aLD h4];rfl
def Qb3 (l:List TMb):Prop:=l.Pairwise fun a b=>a.1<b.1
theorem Qyp {l:List TMb} (h:mMem l=0):Qb3 l/\l.length<=8:=by
 unfold mMem at h
 by_cases h8:(8:Int)<(l.length:Int)
 ·rw[if_pos h8] at h;cases h
 ·rw[if_neg h8] at h
  by_cases hb:code (mMb l) l=0
  ·refine⟨?_,by omega⟩
   have step:∀i (hi:i+1<l.length),(l[i]'(by omega)).1<l[i+1].1:=fun i hi=>by
    have hc:=QdW hb (i+1) _ (aLf hi)
    unfold mMb at hc
    cases h1:mIn l[i+1].1 1 999&&mRef l[i+1].2 with
    | false=>rw[h1] at hc;simp at hc
    | true=>
     rw[h1,if_pos rfl,Nat.add_sub_cancel,aLk,aLf (by omega:i<l.length)] at hc
     by_cases h3:l[i+1].1<=(l[i]'(by omega)).1
     ·simp[h3] at hc
     ·omega
   unfold Qb3
   rw[List.pairwise_iff_getElem]
   intro i j hi hj hij
   obtain⟨d,rfl⟩:∃d,j=i+1+d:=⟨j - (i+1),by omega⟩
   induction d with
   | zero=>exact step i hj
   | succ d ih=>exact Int.lt_trans (ih (by omega) (by omega)) (step (i+1+d) hj)
  ·rw[if_neg hb] at h;exact absurd h hb
theorem Qg5 {l:List TMb} (h:Qb3 l) {i j:Nat} (hij:i<j) (hj:j<l.length):(l[i]'(by omega)).1<l[j].1:=List.pairwise_iff_getElem.1 h i j (by omega) hj hij
theorem Qku {l:List TMb} (hr:Qb3 l) (hl:l.length<=1000000) (r:Int):∃k:Nat,k<=l.length/\YO l r=some ((k:Int),l.any fun x=>decide (x.1=r))/\((l.any fun x=>decide (x.1=r))=true->∃h:k<l.length,(l[k]'h).1=r)/\(∀i (h:i<l.length),i<k->l[i].1<r)/\(∀i (h:i<l.length),k<=i->r<=l[i].1):=by
 obtain⟨k,h1,h2,h3⟩:=Qs8 l.length (fun i=>decide ((List.getD l i (0,(0,0))).1<r)) (fun i j hij hj hp=>by
  rcases Nat.lt_or_ge i j with h | h
  ·have hi:i<l.length:=by omega
   have:=Qg5 hr h hj
   have e1:List.getD l i (0,(0,0))=l[i]:=by rw[aLk,aLf hi];rfl
   have e2:List.getD l j (0,(0,0))=l[j]:=by rw[aLk,aLf hj];rfl
   simp only[e1,e2,aLF] at hp ⊢
   omega
  ·obtain rfl:i=j:=by omega
   exact hp)
 have hgd:∀i (hi:i<l.length),List.getD l i (0,(0,0))=l[i]:=fun i hi=>by rw[aLk,aLf hi];rfl
 have g1:∀i (h:i<l.length),i<k->l[i].1<r:=fun i h hk=>by have:=h2 i hk;rw[hgd i h] at this;simpa using this
 have g2:∀i (h:i<l.length),k<=i->r<=l[i].1:=fun i h hk=>by have:=h3 i hk h;rw[hgd i h] at this;simpa using this
 have hany:(l.any fun x=>decide (x.1=r))=decide (∃h:k<l.length,(l[k]'h).1=r):=by
  rw[Bool.eq_iff_iff,List.any_eq_true,aLF]
  constructor
  ·rintro ⟨x,hx,he⟩
   obtain⟨i,hi,rfl⟩:=List.mem_iff_getElem.1 hx
   have he:l[i].1=r:=aLG he
   have hik:¬i<k:=fun h=>by have:=g1 i hi h;omega
   refine⟨by omega,?_⟩
   rcases Nat.lt_or_ge k i with h | h
   ·have h4:=Qg5 hr h hi
    have h5:=g2 k (by omega) (Nat.le_refl _)
    omega
   ·obtain rfl:i=k:=by omega
    exact he
  ·rintro ⟨h,he⟩
   exact⟨_,aLl h,aLE he⟩
 refine⟨k,h1,?_,fun h=>by rw[hany] at h;exact aLG h,g1,g2⟩
 rw[hany]
 unfold YO Zb
 have hcmp:∀(x:TMb),((Qbt x r).bind fun r7=>some r7)=some (mCmp x.1 r):=fun x=>by
  unfold Qbt
  rw[Qjo];rfl
 simp only[hcmp,aLc]
 have hneg:∀a b:Int,decide (mCmp a b<0)=decide (a<b):=fun a b=>by
  unfold mCmp
  refine decide_eq_decide.2 ?_
  split
  ·simp;omega
  ·split<;>simp<;>omega
 have hzero:∀a b:Int,decide (mCmp a b=0)=decide (a=b):=fun a b=>by
  unfold mCmp
  refine decide_eq_decide.2 ?_
  split
  ·simp;omega
  ·split
   ·simp;omega
   ·simp;omega
 rw[QzN l.length k h1 _ (fun lo hi hlo hhi=>?_) (fun lo=>by simp only[Int.lt_irrefl,decide_false,aLC]),aLc]
 ·by_cases hk:k<l.length
  ·have hd:List.getD l (Int.toNat (k:Int)) (0,(0,0))=l[k]:=by rw[Int.toNat_natCast];exact hgd k hk
   rw[dlt hk,aLB,Qh l k hk,aLB]
   show some ((k:Int),decide (mCmp (List.getD l (Int.toNat (k:Int)) (0,(0,0))).1 r=0))=_
   rw[hd,hzero]
   congr 2
   exact decide_eq_decide.2 ⟨fun h=>⟨hk,h⟩,fun ⟨_,h⟩=>h⟩
  ·have hf:decide (∃h:k<l.length,(l[k]'h).1=r)=false:=aLD (fun ⟨h,_⟩=>hk h)
   rw[dge' (by omega),aLC,aLc,hf];rfl
 ·have hm:=QCk (lo:=lo) (hi:=hi) (by omega)
  have hml:(lo+hi) / 2<l.length:=by omega
  simp only[hm]
  rw[aLE (by omega),aLB,Qh l _ hml,aLB]
  have hd:List.getD l (Int.toNat (((lo+hi) / 2:Nat):Int)) (0,(0,0))=l[(lo+hi) / 2]:=by rw[Int.toNat_natCast];exact hgd _ hml
  rw[hd,hneg,wsucc hml (by unfold BIG;omega)]
  by_cases hmk:(lo+hi) / 2<k
  ·rw[aLE (g1 _ hml hmk),if_pos hmk];rfl
  ·have:=g2 _ hml (by omega)
   rw[aLD (by omega),if_neg hmk];rfl
theorem Qzm (l:List TMb) (hl:l.length<=LIM):Zy l=some l:=by
 unfold Zy
 rw[Ql5 hl,aLB]
 cases l with
 | nil=>exact QtV _
 | cons a l=>rfl
def mOff (l:List TMb) (t:TX):List TMb:=l.filter fun x=>!(decide (t.1=2)&&decide (x.1=t.2.1))&&!decide (x.2 ∈ t.2.2.1)
def Qub (o:List TMb) (x:TMb):List TMb×Int:=if o.any (fun y=>decide (y.1=x.1) || decide (y.2=x.2)) then ([],7) else if 8<=o.length then ([],2) else (o.takeWhile (fun y=>decide (y.1<x.1))++[x]++o.dropWhile (fun y=>decide (y.1<x.1)),0)
def Qgg (l:List TMb) (t:TX) (id:Int):List TMb×Int:=if t.1=2/\(l.any fun x=>decide (x.1=t.2.1))=false then ([],4) else if t.1=1 then Qub (mOff l t) (t.2.1,(id,0)) else (mOff l t,0)
theorem QiH (l:List TMb) (hl:l.length<BIG) (k:Int):Qbx l k=some (idxF (fun x=>decide (x.1=k)) l):=by
 unfold Qbx
 refine QcM l _ _ (fun i h=>?_) (by simp only[dge,aLC])
 simp only[dlt h,Qh l i h,Qg l i _ h,aLB,wsucc h hl]
 cases decide (l[i].1=k)<;>rfl
theorem QlX {l:List TMb} {r:Int} {k:Nat} (hk:k<=l.length) (h1:∀i (h:i<l.length),i<k->l[i].1<r) (h2:∀i (h:i<l.length),k<=i->r<=l[i].1):l.takeWhile (fun y=>decide (y.1<r))=l.take k/\l.dropWhile (fun y=>decide (y.1<r))=l.drop k:=by
 have hall:∀a,a ∈ l.take k->decide (a.1<r)=true:=fun a ha=>by
  obtain⟨i,hi,rfl⟩:=List.mem_iff_getElem.1 ha
  rw[aLn] at hi
  simp only[List.getElem_take]
  exact aLE (h1 i (by omega) (by omega))
 have e:l=l.take k++l.drop k:=(List.take_append_drop k l).symm
 have hd:∀a rest,l.drop k=a::rest->decide (a.1<r)=false:=fun a rest h=>by
  have hkl:k<l.length:=by
   rcases Nat.lt_or_ge k l.length with h' | h'
   ·exact h'
   ·rw[List.drop_eq_nil_of_le h'] at h;cases h
  rw[aLr hkl] at h
  have:=h2 k hkl (Nat.le_refl _)
  rw[<-(List.cons.inj h).1]
  exact aLD (by omega)
 constructor
 ·conv=>lhs;rw[e]
  rw[List.takeWhile_append_of_pos hall]
  cases hdr:l.drop k with
  | nil=>simp
  | cons a rest=>rw[List.takeWhile_cons,hd a rest hdr];simp
 ·conv=>lhs;rw[e]
  rw[List.dropWhile_append_of_pos hall]
  cases hdr:l.drop k with
  | nil=>simp
  | cons a rest=>rw[List.dropWhile_cons,hd a rest hdr];simp
theorem QsN {l:List TMb} (h:Qb3 l) (p:TMb->Bool):Qb3 (l.filter p):=List.Pairwise.sublist List.filter_sublist h
theorem QvQ {o:List TMb} (hr:Qb3 o) (r:Int):∃k,k<=o.length/\(∀i (h:i<o.length),i<k->o[i].1<r)/\(∀i (h:i<o.length),k<=i->r<=o[i].1):=by
 obtain⟨k,h1,h2,h3⟩:=Qs8 o.length (fun i=>decide ((List.getD o i (0,(0,0))).1<r)) (fun i j hij hj hp=>by
  rcases Nat.lt_or_ge i j with h | h
  ·have hi:i<o.length:=by omega
   have:=Qg5 hr h hj
   have e1:List.getD o i (0,(0,0))=o[i]:=by rw[aLk,aLf hi];rfl
   have e2:List.getD o j (0,(0,0))=o[j]:=by rw[aLk,aLf hj];rfl
   simp only[e1,e2,aLF] at hp ⊢
   omega
  ·obtain rfl:i=j:=by omega
   exact hp)
 have hgd:∀i (hi:i<o.length),List.getD o i (0,(0,0))=o[i]:=fun i hi=>by rw[aLk,aLf hi];rfl
 exact⟨k,h1,fun i h hk=>by have:=h2 i hk;rw[hgd i h] at this;simpa using this,fun i h hk=>by have:=h3 i hk h;rw[hgd i h] at this;simpa using this⟩
theorem Qw7 {o:List TMb} (hr:Qb3 o) (hl:o.length<=1000000) (x:TMb):QeJ o x=some (Qub o x):=by
 have hB:BIG=4611686018427387904:=rfl
 have hL:LIM=1073741824:=rfl
 unfold QeJ Qub
 rw[QiH _ (by omega),aLc,ZZ]
 have hor:(o.any fun y=>decide (y.1=x.1) || decide (y.2=x.2))=((o.any fun y=>decide (y.1=x.1)) || o.any fun y=>decide (y.2=x.2)):=by
  rw[Bool.eq_iff_iff];simp only[List.any_eq_true,Bool.or_eq_true]
  constructor
  ·rintro ⟨y,hy,h | h⟩
   ·exact .inl ⟨y,hy,h⟩
   ·exact .inr ⟨y,hy,h⟩
  ·rintro (⟨y,hy,h⟩ | ⟨y,hy,h⟩)
   ·exact⟨y,hy,.inl h⟩
   ·exact⟨y,hy,.inr h⟩
 rw[hor]
 cases ha:o.any fun y=>decide (y.1=x.1) with
 | true=>rfl
 | false=>
  rw[aLC,Bool.false_or]
  obtain⟨k,k1,k2,k3⟩:=QvQ hr x.1
  have loop:∀(f:Int×Int->Option ((Int×Int)⊕(Int⊕(List TMb×Int)))),
    (∀(i:Nat) (hi:i<o.length) (a:Int),f (a,(i:Int))=some (if decide (o[i].2=x.2) then .inr (.inr ([],7)) else .inl (if o[i].1<x.1 then ((i+1:Nat):Int) else a,((i+1:Nat):Int))))->(∀a,f (a,(o.length:Int))=some (.inr (.inl a)))->
    Qf f (0,0)=some (if o.any (fun y=>decide (y.2=x.2)) then .inr ([],7) else .inl (k:Int)):=by
   intro f hs he
   have key:∀(d i:Nat),i+d=o.length->Qf f (((min i k:Nat):Int),(i:Int))=some (if (o.drop i).any (fun y=>decide (y.2=x.2)) then .inr ([],7) else .inl (k:Int)):=by
    intro d
    induction d with
    | zero=>
     intro i hi
     obtain rfl:i=o.length:=by omega
     rw[QB (he _),List.drop_length,Nat.min_eq_right k1];rfl
    | succ d ih=>
     intro i hi
     have hlt:i<o.length:=by omega
     have h1:=hs i hlt ((min i k:Nat):Int)
     rw[aLr hlt,List.any_cons]
     cases hd:decide (o[i].2=x.2) with
     | true=>rw[hd,if_pos rfl] at h1;rw[QB h1];rfl
     | false=>
      rw[hd,if_neg (by simp)] at h1
      rw[Q2 h1,Bool.false_or]
      have e:(if o[i].1<x.1 then ((i+1:Nat):Int) else ((min i k:Nat):Int))=((min (i+1) k:Nat):Int):=by
       by_cases hik:i<k
       ·rw[if_pos (k2 i hlt hik)];omega
       ·have:=k3 i hlt (by omega)
        rw[if_neg (by omega)];omega
      rw[e]
      exact ih (i+1) (by omega)
   have:=key o.length 0 (by omega)
   rw[List.drop_zero,Nat.zero_min] at this
   exact this
  rw[loop _ (fun i hi a=>by
   simp only[dlt hi,Qh _ i hi,Qg _ i _ hi,aLB,Qlc,wsucc hi (by omega)]
   cases decide (o[i].2=x.2)
   ·by_cases h:o[i].1<x.1
    ·rw[aLE h];simp[h]
    ·rw[aLD h];simp[h]
   ·rfl) (fun a=>by simp only[dge,aLC]),aLc]
  cases hb:o.any fun y=>decide (y.2=x.2) with
  | true=>rfl
  | false=>
   simp only[Bool.false_eq_true,if_false,Sum.elim_inl]
   by_cases h8:8<=o.length
   ·rw[aLE (by omega),if_pos h8];rfl
   ·obtain⟨w1,w2⟩:=QlX k1 k2 k3
    rw[aLD (by omega),if_neg h8,aLC,w1,w2]
    have c1:QT 0 (k:Int) o=true:=by unfold QT;simp;omega
    have c2:QT (k:Int) (o.length:Int) o=true:=by unfold QT;simp;omega
    have e1:cut 0 (k:Int) o=o.take k:=by unfold cut;simp
    have e2:cut (k:Int) (o.length:Int) o=o.drop k:=by
     unfold cut
     rw[Int.toNat_natCast]
     exact List.take_of_length_le (by rw[aLz];omega)
    rw[c1,aLB,e1,Qz,Qz,c2,aLB,e2,Qz]
    ·rfl
    all_goals (simp only[aLo,aLi,aLh,aLj,aLn,aLz];omega)
theorem QvB (l:List TMb) (t:TX):(mOff l t).length<=l.length:=List.length_filter_le _ l
theorem QoN {l:List TMb} (hm:Qb3 l/\l.length<=8) {t:TX} (ht:t.2.2.1.length<=1000000) (id:Int):QeA l t id=some (Qgg l t id):=by
 have hB:BIG=4611686018427387904:=rfl
 have hL:LIM=1073741824:=rfl
 obtain⟨hr,hl⟩:=hm
 unfold QeA Qgg
 have e0:(bif decide (t.1=2) then (Qbx l t.2.1).bind fun y=>some (decide (y<0)) else some false)=some (decide (t.1=2/\(l.any fun x=>decide (x.1=t.2.1))=false)):=by
  rw[QiH _ (by omega),aLc,QB1]
  by_cases h1:t.1=2
  ·cases l.any fun x=>decide (x.1=t.2.1)<;>simp[h1]
  ·simp[h1]
 rw[e0,aLc]
 by_cases h1:t.1=2/\(l.any fun x=>decide (x.1=t.2.1))=false
 ·rw[aLE h1,if_pos h1];rfl
 ·rw[aLD h1,if_neg h1,aLC]
  rw[Yh (σ:=List TMb) l (fun acc a=>if (!(decide (t.1=2)&&decide (a.1=t.2.1))&&!decide (a.2 ∈ t.2.2.1)) then acc++[a] else acc) (fun t i=>(t,i)) (fun t=>t) (fun t i=>t.length<=i) _ (fun i hi x hx=>by
    refine⟨?_,by split<;>(try simp only[aLi,aLh,aLj])<;>omega⟩
    simp only[dlt hi,Qh _ i hi,Qg _ i _ hi,aLB,YE t.2.2.1 (by omega),aLc,wsucc hi (by omega)]
    rw[Qz (by simp only[aLh,aLj];omega)]
    cases decide (t.1=2)<;>cases decide (l[i].1=t.2.1)<;>cases decide (l[i].2 ∈ t.2.2.1)<;>rfl) (fun t ht=>by simp only[dge,aLC]) [] (Nat.le_refl _),aLc,foldl_filter,aLx]
  show (bif !decide (t.1=1) then some (mOff l t,(0:Int)) else (QeJ (mOff l t) (t.2.1,(id,0))).bind fun y=>some (y.1,y.2))=_
  by_cases h2:t.1=1
  ·have:=QvB l t
   rw[aLE h2,if_pos h2,Bool.not_true,aLC,Qw7 (o:=mOff l t) (QsN hr _) (by omega)];rfl
  ·rw[aLD h2,if_neg h2];rfl
theorem filter_one {l:List TMb} {p:TMb->Bool} {k:Nat} (hk:k<l.length) (h0:p l[k]=false) (h1:∀i (h:i<l.length),i ≠ k->p l[i]=true):l.filter p=l.take k++l.drop (k+1):=by
 have e:l=l.take k++l[k]::l.drop (k+1):=by rw[<-aLr hk,List.take_append_drop]
 conv=>lhs;rw[e]
 rw[List.filter_append,List.filter_cons,h0]
 rw[List.filter_eq_self.2 (fun a ha=>?_),if_neg (by simp),List.filter_eq_self.2 (fun a ha=>?_)]
 ·obtain⟨i,hi,rfl⟩:=List.mem_iff_getElem.1 ha
  rw[aLz] at hi
  rw[List.getElem_drop]
  exact h1 _ (by omega) (by omega)
 ·obtain⟨i,hi,rfl⟩:=List.mem_iff_getElem.1 ha
  rw[aLn] at hi
  rw[List.getElem_take]
  exact h1 _ (by omega) (by omega)
theorem QqC {l:List TMb} (hm:Qb3 l/\l.length<=8) {t:TX} (ht:t.2.2.1.length<=1000000) {id:Int} (hid:mIn id 1 60=true):Qcm l t id=some (Qgg l t id):=by
 have hB:BIG=4611686018427387904:=rfl
 have hL:LIM=1073741824:=rfl
 obtain⟨hr,hl⟩:=hm
 unfold Qcm Qgg
 rw[Qsi,hid,aLc,Qzm _ (by omega)]
 simp only[Bool.not_true,aLC,aLc]
 have first:∀G:(List TMb⊕(List TMb×Int))->Option (List TMb×Int),((bif decide (t.1=2) then (YO l t.2.1).bind fun (y26:Int×Bool)=>bif !y26.2 then some (Sum.inr (([]:List TMb),(4:Int))) else (QM l y26.1 (IntKind.wrap .i64 (y26.1+1))).bind fun y27=>some (Sum.inl y27) else some (Sum.inl l):Option (List TMb⊕(List TMb×Int))).bind G) =
   if t.1=2/\(l.any fun x=>decide (x.1=t.2.1))=false then G (.inr ([],4)) else G (.inl (l.filter fun x=>!(decide (t.1=2)&&decide (x.1=t.2.1)))):=fun G=>by
  by_cases h1:t.1=2
  ·obtain⟨k,k1,k2,k3,k4,k5⟩:=Qku hr (by omega) t.2.1
   rw[aLE h1,aLB,k2,aLc]
   cases ha:l.any fun x=>decide (x.1=t.2.1) with
   | false=>rw[if_pos ⟨h1,rfl⟩];rfl
   | true=>
    obtain⟨hk,he⟩:=k3 ha
    rw[if_neg (fun h=>by cases h.2)]
    have hdel:QM l (k:Int) (IntKind.wrap .i64 ((k:Int)+1))=some (l.filter fun x=>!(true&&decide (x.1=t.2.1))):=by
     unfold QM delS
     rw[wsucc hk (by omega),aLE (by omega),aLB]
     rw[filter_one (l:=l) (k:=k) hk (by rw[he];simp) (fun i hi hik=>by
      rcases Nat.lt_or_ge i k with h | h
      ·have:=Qg5 hr h hk
       have:¬l[i].1=t.2.1:=by omega
       simp[this]
      ·have:=Qg5 hr (show k<i by omega) hi
       have:¬l[i].1=t.2.1:=by omega
       simp[this])]
     simp
    show (Option.bind ((QM l (k:Int) (IntKind.wrap .i64 ((k:Int)+1))).bind fun y27=>some (Sum.inl y27)) G)=_
    rw[hdel];rfl
  ·rw[aLD h1,if_neg (fun h=>h1 h.1)]
   simp only[aLC,aLc,Bool.false_and,Bool.not_false]
   rw[List.filter_eq_self.2 (fun a _=>rfl)]
 rw[first]
 by_cases h1:t.1=2/\(l.any fun x=>decide (x.1=t.2.1))=false
 ·rw[if_pos h1,if_pos h1];rfl
 ·rw[if_neg h1,if_neg h1,Sum.elim_inl]
  have hfl:=List.length_filter_le (fun x:TMb=>!(decide (t.1=2)&&decide (x.1=t.2.1))) l
  rw[QsG _ (by omega) (fun x=>decide (x.2 ∈ t.2.2.1)) _ (fun a=>by unfold Qdz;rw[Qgj _ (by omega)];rfl),aLc,List.filter_filter]
  have eo:(l.filter fun a=>(!decide (a.2 ∈ t.2.2.1))&&!(decide (t.1=2)&&decide (a.1=t.2.1)))=mOff l t:=by
   unfold mOff
   congr 1
   funext a
   rw[Bool.and_comm]
  rw[eo]
  by_cases h2:t.1=1
  ·rw[aLE h2,if_pos h2,Bool.not_true,aLC]
   have hol:=QvB l t
   have hor:Qb3 (mOff l t):=QsN hr _
   obtain⟨k,k1,k2,k3,k4,k5⟩:=Qku hor (by omega) t.2.1
   rw[k2,aLc]
   rw[Qjd _ (by omega) (fun y=>decide (y.2=(id,0))) _ (fun a _=>by unfold Qdw;rw[Qlc];rfl)]
   unfold Qub
   have hor:((mOff l t).any fun y=>decide (y.1=t.2.1) || decide (y.2=(id,0)))=(((mOff l t).any fun y=>decide (y.1=t.2.1)) || (mOff l t).any fun y=>decide (y.2=(id,0))):=by
    rw[Bool.eq_iff_iff];simp only[List.any_eq_true,Bool.or_eq_true]
    constructor
    ·rintro ⟨y,hy,h | h⟩
     ·exact .inl ⟨y,hy,h⟩
     ·exact .inr ⟨y,hy,h⟩
    ·rintro (⟨y,hy,h⟩ | ⟨y,hy,h⟩)
     ·exact⟨y,hy,.inl h⟩
     ·exact⟨y,hy,.inr h⟩
   rw[hor]
   cases ha:(mOff l t).any fun y=>decide (y.1=t.2.1) with
   | true=>rfl
   | false=>
    cases hb:(mOff l t).any fun y=>decide (y.2=(id,0)) with
    | true=>rfl
    | false=>
     simp only[Bool.false_or,aLC,aLc,Bool.false_eq_true,if_false]
     by_cases h8:8<=(mOff l t).length
     ·rw[aLE (by omega),if_pos h8];rfl
     ·obtain⟨w1,w2⟩:=QlX k1 k4 k5
      rw[aLD (by omega),if_neg h8,aLC,w1,w2]
      unfold Ya insS
      rw[aLE ⟨by omega,by omega,by omega,rfl⟩,aLB,aLc,Int.toNat_natCast]
  ·rw[aLD h2,if_neg h2];rfl
end GL
end Go.Dx
set_option maxHeartbeats 2000000
namespace Go.Dx
namespace GL
def mSt (s:TState):Int:=if mIn s.1 0 60&&mIn s.2.1 0 40 then (if decide (s.1=0)=decide (s.2.1=0) then (if YY s.2.2.1=0 then mMem s.2.2.2 else YY s.2.2.1) else 1) else 3
structure bS (s:TState):Prop where
 c:s.2.2.1.length<BIG
 k:∀x,x ∈ s.2.2.1->x.2.1.2.1.length<BIG
 m:s.2.2.2.length<BIG
theorem QmH (s:TState) (h:bS s):QdE s=some (mSt s):=by
 unfold QdE mSt
 simp only[Zp,QbE _ h.c h.k,QuU _ h.m,aLc,beqB,Qa7]
 cases mIn s.1 0 60<;>cases mIn s.2.1 0 40<;>try rfl
 simp only[Bool.not_true,aLC,aLc,Bool.true_and,if_true]
 by_cases h2:decide (s.1=0)=decide (s.2.1=0)
 ·rw[aLE h2,if_pos h2]
  simp only[Bool.not_true,aLC]
  split<;>rfl
 ·rw[aLD h2,if_neg h2];rfl
theorem QrL (s:TState) (h:bS s):QcZ s=some (mSt s):=by
 unfold QcZ mSt
 simp only[ZR,QrR _ h.c h.k,QpV _ h.m,aLc,beqB,Qa7]
 cases mIn s.1 0 60<;>cases mIn s.2.1 0 40<;>try rfl
 simp only[Bool.not_true,aLC,aLc,Bool.true_and,if_true]
 by_cases h2:decide (s.1=0)=decide (s.2.1=0)
 ·rw[aLE h2,if_pos h2]
  simp only[Bool.not_true,aLC]
  split<;>rfl
 ·rw[aLD h2,if_neg h2];rfl
structure okS' (s:TState):Prop where
 t:0<=s.1/\s.1<=60
 h:0<=s.2.1/\s.2.1<=40
 c:YY s.2.2.1=0
 m:mMem s.2.2.2=0
theorem Qzb {s:TState} (h:mSt s=0):okS' s:=by
 unfold mSt at h
 cases h1:mIn s.1 0 60&&mIn s.2.1 0 40 with
 | false=>rw[h1] at h;simp at h
 | true=>
  rw[h1,if_pos rfl] at h
  rw[aLg,ZA,ZA] at h1
  by_cases h2:decide (s.1=0)=decide (s.2.1=0)
  ·rw[if_pos h2] at h
   by_cases h3:YY s.2.2.1=0
   ·rw[if_pos h3] at h;exact⟨h1.1,h1.2,h3,h⟩
   ·rw[if_neg h3] at h;exact absurd h h3
  ·rw[if_neg h2] at h;cases h
def QjY (s:TState):Int:=min 40 (IntKind.wrap .i64 (s.2.1+1))
theorem QxM {s:TState} (h:okS' s):mIn (QjY s) 0 999=true:=by
 have:=h.h
 unfold QjY
 rw[Qi (by omega) (by omega),ZA];omega
theorem QxA (s:TState):Qb9 s=some (QjY s):=rfl
theorem Qv4 (s:TState):QbD s=some (QjY s):=by
 unfold QbD Qkw QjY
 by_cases h:IntKind.wrap .i64 (s.2.1+1)<40
 ·rw[aLE h]
  show some (IntKind.wrap .i64 (s.2.1+1))=_
  congr 1;omega
 ·rw[aLD h]
  show some (40:Int)=_
  congr 1;omega
def QaF (a t:TX):Bool:=a.2.2.1.any fun r=>decide (r ∈ t.2.2.1)
theorem Quu {a t:TX} (ha:a.2.2.1.length<BIG) (ht:t.2.2.1.length<BIG):Qgk a t=some (QaF a t):=by
 unfold Qgk QaF
 refine Qon a.2.2.1 _ _ (fun i h=>?_) (by simp only[dge,aLC])
 simp only[dlt h,Qh _ i h,Qg _ i _ h,aLB,YE _ ht,aLc,wsucc h ha]
 cases decide (a.2.2.1[i] ∈ t.2.2.1)<;>rfl
theorem Qql (l:List (Int×Int)) (hl:l.length<BIG) (p:Int×Int->Bool) (f:Int×Int->Option Bool) (hf:∀a,a ∈ l->f a=some (p a)):Zt l f=some (l.any p):=by
 unfold Zt Yo
 rw[QcM l p _ (fun i h=>?_) (by simp only[dge,aLC]),aLc,ZZ]
 simp only[dlt h,Qh l i h,Qg l i _ h,aLB,hf _ (aLl h),aLc,wsucc h hl]
 cases p l[i]<;>rfl
theorem Qgp (l:List TX) (hl:l.length<BIG) (p:TX->Bool) (f:TX->Option Bool) (hf:∀a,a ∈ l->f a=some (p a)):QR l f=some (l.any p):=by
 unfold QR YC
 rw[QcM l p _ (fun i h=>?_) (by simp only[dge,aLC]),aLc,ZZ]
 simp only[dlt h,Qh l i h,Qg l i _ h,aLB,hf _ (aLl h),aLc,wsucc h hl]
 cases p l[i]<;>rfl
theorem Qve (l:List Int) (hl:l.length<BIG) (x:Int):Yn l x=some (decide (x ∈ l)):=by
 unfold Yn Qaz
 rw[QcM l (fun a=>decide (x=a)) _ (fun i h=>?_) (by simp only[dge,aLC]),aLc,ZZ,any_eq]
 simp only[dlt h,Qh l i h,Qg l i _ h,aLB,wsucc h hl]
 cases decide (x=l[i])<;>rfl
theorem Qx7 {a t:TX} (ha:a.2.2.1.length<BIG) (ht:t.2.2.1.length<BIG):Qh0 a t=some (QaF a t):=by
 unfold Qh0 QaF
 rw[Qql _ ha (fun r=>decide (r ∈ t.2.2.1)) _ (fun r _=>by unfold QhU;rw[Qgj _ ht];rfl)];rfl
def mAt (l:List TMb) (k:Int):Int×Int:=(List.getD l (Int.toNat (idxF (fun x=>decide (x.1=k)) l)) (0,(0,0))).2
def QhE (l:List TMb) (t a:TX):Bool:=decide (t.1=2)&&((l.any fun x=>decide (x.1=t.2.1))&&decide (mAt l t.2.1 ∈ a.2.2.1))
theorem QA1 (s:TState) (hm:s.2.2.2.length<BIG) {a t:TX} (ha:a.2.2.1.length<BIG):Qfc s a t=some (QhE s.2.2.2 t a):=by
 unfold Qfc QhE mAt
 rw[QiH _ hm,aLc,ZZ]
 by_cases h1:t.1=2
 ·rw[aLE h1,aLB,Bool.true_and]
  cases hany:s.2.2.2.any fun x=>decide (x.1=t.2.1) with
  | false=>rfl
  | true=>
   have hn:0<=idxF (fun x=>decide (x.1=t.2.1)) s.2.2.2:=by rw[<-ZZ] at hany;exact aLG hany
   rw[aLB,QCG hn,aLB,YE _ ha];rfl
 ·rw[aLD h1];rfl
def Qes (l:List TMb) (t:TX) (ahead:List TX):Bool:=ahead.any fun a=>!decide (a.1=0) || QhE l t a
noncomputable def mOne (l:TL) (s:TState) (ahead:List TX) (id:Int):TX×Int:=if (mTI l id).2=0 then (if (mChk l s.2.2.1 (mTI l id).1 (QjY s)).2=0 then (if ahead.any (fun a=>QaF a (mTI l id).1) then ((mTI l id).1,7) else if (mTI l id).1.1 ≠ 0/\((Qgg s.2.2.2 (mTI l id).1 id).2 ≠ 0\/Qes s.2.2.2 (mTI l id).1 ahead=true) then ((mTI l id).1,10) else ((mTI l id).1,0)) else ((mTI l id).1,(mChk l s.2.2.1 (mTI l id).1 (QjY s)).2)) else ((mTI l id).1,(mTI l id).2)
theorem QBh (l:TL) (s:TState) (ahead:List TX) (id:Int):(mOne l s ahead id).1=(mTI l id).1:=by
 unfold mOne
 split
 ·split
  ·split
   ·rfl
   ·split<;>rfl
  ·rfl
 ·rfl
theorem Qrk {l:TL} {s:TState} {ahead:List TX} {id:Int} (h:(mOne l s ahead id).2=0):(mTI l id).2=0:=by
 unfold mOne at h
 split at h
 ·assumption
 ·exact h
theorem Qvm {ahead:List TX} (h:∀a,a ∈ ahead->okT a) {a:TX} (ha:a ∈ ahead):a.2.2.1.length<BIG:=(h a ha).b.ins
theorem Qjp {l:TL} (hl:mLF l=0) {s:TState} (hs:mSt s=0) {ahead:List TX} (ha:∀a,a ∈ ahead->okT a) (hal:ahead.length<BIG) (id:Int):JW l s ahead id=some (mOne l s ahead id):=by
 have hso:=Qzb hs
 have hm:=Qyp hso.m
 have hmB:s.2.2.2.length<BIG:=by have:=hm.2;unfold BIG;omega
 unfold JW mOne
 rw[Qr8 hl,aLc]
 by_cases h1:(mTI l id).2=0
 ·have ht:=Qq1 h1
  have hto:=Qbm ht
  generalize (mTI l id).1=t at ht hto
  simp only[h1,decide_true,Bool.not_true,aLC,if_true]
  rw[Qv4,aLc,QmG hl hso.c ht (QxM hso),aLc]
  by_cases h2:(mChk l s.2.2.1 t (QjY s)).2=0
  ·simp only[h2,decide_true,Bool.not_true,aLC,if_true]
   have loop:∀(f:Bool×Int->Option ((Bool×Int)⊕(Bool⊕(Int×TX)))),
     (∀(i:Nat) (hi:i<ahead.length) (b:Bool),f (b,(i:Int))=some (if QaF ahead[i] t then .inr (.inr (7,t)) else .inl (b || (!decide (ahead[i].1=0) || QhE s.2.2.2 t ahead[i]),((i+1:Nat):Int))))->(∀b,f (b,(ahead.length:Int))=some (.inr (.inl b)))->
     Qf f (false,0)=some (if ahead.any (fun a=>QaF a t) then .inr (7,t) else .inl (Qes s.2.2.2 t ahead)):=by
    intro f hf he
    have key:∀(d i:Nat) (b:Bool),i+d=ahead.length->Qf f (b,(i:Int))=some (if (ahead.drop i).any (fun a=>QaF a t) then .inr (7,t) else .inl (b || Qes s.2.2.2 t (ahead.drop i))):=by
     intro d
     induction d with
     | zero=>
      intro i b hi
      obtain rfl:i=ahead.length:=by omega
      rw[QB (he b),List.drop_length];simp[Qes]
     | succ d ih=>
      intro i b hi
      have hlt:i<ahead.length:=by omega
      have h5:=hf i hlt b
      rw[aLr hlt,List.any_cons]
      cases hc:QaF ahead[i] t with
      | true=>rw[hc,if_pos rfl] at h5;rw[QB h5];rfl
      | false=>
       rw[hc,if_neg (by simp)] at h5
       rw[Q2 h5,ih (i+1) _ (by omega),Bool.false_or]
       have:Qes s.2.2.2 t (ahead[i]::ahead.drop (i+1))=((!decide (ahead[i].1=0) || QhE s.2.2.2 t ahead[i]) || Qes s.2.2.2 t (ahead.drop (i+1))):=rfl
       rw[this,Bool.or_assoc]
    have:=key ahead.length 0 false (by omega)
    rw[List.drop_zero,Bool.false_or] at this
    exact this
   rw[loop _ (fun i hi b=>by
    have hai:=Qvm ha (aLl hi)
    simp only[dlt hi,Qh _ i hi,Qg _ i _ hi,aLB,Quu hai hto.b.ins,QA1 s hmB (t:=t) hai,aLc,wsucc hi hal]
    cases QaF ahead[i] t
    ·cases b
     ·by_cases h:ahead[i].1=0
      ·rw[aLE h];cases QhE s.2.2.2 t ahead[i]<;>rfl
      ·rw[aLD h];rfl
     ·rfl
    ·rfl) (fun b=>by simp only[dge,aLC]),aLc]
   cases hc:ahead.any fun a=>QaF a t with
   | true=>rfl
   | false=>
    simp only[Bool.false_eq_true,if_false,Sum.elim_inl]
    by_cases h3:t.1=0
    ·rw[aLE h3,if_neg (fun h=>h.1 h3)];rfl
    ·rw[aLD h3,QoN hm (by have:=hto.li;omega)]
     simp only[Bool.not_false,aLB,aLc]
     by_cases h4:(Qgg s.2.2.2 t id).2=0
     ·rw[aLE h4]
      cases hk:Qes s.2.2.2 t ahead with
      | true=>rw[if_pos ⟨h3,.inr rfl⟩];rfl
      | false=>rw[if_neg (fun h=>h.2.elim (fun h=>h h4) (fun h=>by cases h))];rfl
     ·rw[aLD h4,if_pos ⟨h3,.inl h4⟩];rfl
  ·simp only[h2,decide_false,Bool.not_false,aLB,if_false]
 ·simp only[h1,decide_false,Bool.not_false,aLB,if_false]
noncomputable def QJ (l:TL) (pool:List Int):List TX:=pool.map fun i=>(mTI l i).1
theorem QC6 {l:TL} (hl:okL l) (pool:List Int) (hp:pool.length<=1000000):Qbp l pool=some (QJ l pool):=by
 unfold Qbp QJ
 rw[Yh (σ:=List TX) pool (fun acc i=>acc++[(mTI l i).1]) (fun t i=>(t,i)) (fun t=>t) (fun t i=>t.length=i) _ (fun i hi x hx=>by
   refine⟨?_,by simp[hx]⟩
   simp only[dlt hi,Qh _ i hi,Qg _ i _ hi,aLB,Qss hl,aLc,wsucc hi (by unfold BIG;omega)]
   rw[Qz (by simp only[aLh,aLj];unfold LIM;omega)];rfl) (fun t ht=>by simp only[dge,aLC]) [] rfl,aLc,foldl_map (fun i=>(mTI l i).1),aLx]
theorem Qzo {l:List TMb} {t:TX} {id:Int} (h2:t.1=2) (h:(Qgg l t id).2=0):(l.any fun x=>decide (x.1=t.2.1))=true:=by
 unfold Qgg at h
 cases ha:l.any fun x=>decide (x.1=t.2.1) with
 | true=>rfl
 | false=>rw[if_pos ⟨h2,ha⟩] at h;cases h
theorem QFa {l:TL} (hl:okL l) {id:Int} (h:(mTI l id).2=0):mIn id 1 60=true:=by
 unfold mTI at h
 cases h1:mIn id 1 (l.1.length:Int) with
 | false=>rw[h1] at h;simp at h
 | true=>
  rw[ZA] at h1 ⊢
  have:=hl.n1
  omega
theorem QwX {s:TState} (hs:okS' s) {t:TX} (ht:okT t) {id:Int} (hid:mIn id 1 60=true) {ahead:List TX} (ha:∀a,a ∈ ahead->okT a) (hal:ahead.length<BIG) :
  Js s t id ahead=some (if t.1 ≠ 0/\((Qgg s.2.2.2 t id).2 ≠ 0\/Qes s.2.2.2 t ahead=true) then 10 else 0):=by
 have hm:=Qyp hs.m
 unfold Js
 by_cases h0:t.1=0
 ·rw[aLE h0,if_neg (fun h=>h.1 h0)];rfl
 ·rw[aLD h0,aLC,QqC hm (by have:=ht.li;omega) hid,aLc]
  by_cases h1:(Qgg s.2.2.2 t id).2=0
  ·rw[aLE h1,Bool.not_true,aLC]
   have hcf:=Qgp ahead hal (fun a=>!decide (a.1=0)) (fun a17=>(QaH a17).bind fun r18=>some r18) (fun a _=>rfl)
   rw[hcf,aLc]
   cases hk:ahead.any fun a=>!decide (a.1=0) with
   | true=>
    have hk2:Qes s.2.2.2 t ahead=true:=by
     unfold Qes
     rw[List.any_eq_true] at hk ⊢
     obtain⟨a,h2,h3⟩:=hk
     exact⟨a,h2,by rw[h3];rfl⟩
    rw[if_pos ⟨h0,.inr hk2⟩];rfl
   | false=>
    rw[aLC]
    have hkinds:Qes s.2.2.2 t ahead=ahead.any fun a=>QhE s.2.2.2 t a:=by
     unfold Qes
     rw[Bool.eq_iff_iff,List.any_eq_true,List.any_eq_true]
     rw[List.any_eq_false] at hk
     constructor
     ·rintro ⟨a,h2,h3⟩
      refine⟨a,h2,?_⟩
      have:=hk a h2
      simp only[Bool.not_eq_true] at this
      rw[this,Bool.false_or] at h3
      exact h3
     ·rintro ⟨a,h2,h3⟩
      exact⟨a,h2,by rw[h3,Bool.or_true]⟩
    rw[hkinds]
    by_cases h2:t.1=2
    ·have hany:=Qzo h2 h1
     obtain⟨k,k1,k2,k3,k4,k5⟩:=Qku hm.1 (by have:=hm.2;omega) t.2.1
     obtain⟨hk1,he⟩:=k3 hany
     rw[aLE h2,aLB,k2,aLc,Qh _ k hk1,aLB]
     have hat:(List.getD s.2.2.2 (Int.toNat (k:Int)) (0,(0,0))).2=mAt s.2.2.2 t.2.1:=by
      unfold mAt
      obtain⟨j,hj,e,hp,_⟩:=QjL hany
      rw[e,Int.toNat_natCast,Int.toNat_natCast]
      have hp:s.2.2.2[j].1=t.2.1:=aLG hp
      have:j=k:=by
       rcases Nat.lt_trichotomy j k with h | h | h
       ·have:=Qg5 hm.1 h hk1;omega
       ·exact h
       ·have:=Qg5 hm.1 h hj;omega
      rw[this]
     rw[hat,Qgp _ hal (fun a=>decide (mAt s.2.2.2 t.2.1 ∈ a.2.2.1)) _ (fun a ha'=>by unfold Qax;rw[Qgj _ (Qvm ha ha')];rfl),aLc]
     have hh:(ahead.any fun a=>QhE s.2.2.2 t a)=ahead.any fun a=>decide (mAt s.2.2.2 t.2.1 ∈ a.2.2.1):=by
      congr 1
      funext a
      unfold QhE
      rw[aLE h2,hany];rfl
     rw[hh]
     cases hz:ahead.any fun a=>decide (mAt s.2.2.2 t.2.1 ∈ a.2.2.1) with
     | true=>rw[if_pos ⟨h0,.inr rfl⟩];rfl
     | false=>rw[if_neg (fun h=>h.2.elim (fun h=>h h1) (fun h=>by cases h))];rfl
    ·have hh:(ahead.any fun a=>QhE s.2.2.2 t a)=false:=by
      rw[List.any_eq_false]
      intro a _
      unfold QhE
      rw[aLD h2];simp
     rw[hh,aLD h2,if_neg (fun h=>h.2.elim (fun h=>h h1) (fun h=>by cases h))];rfl
  ·rw[aLD h1,if_pos ⟨h0,.inl h1⟩];rfl
def QfX (l:TL) (pool:List Int):Prop:=∀i,i ∈ pool->(mTI l i).2=0
theorem Qs1 {l:TL} {pool:List Int} (h:QfX l pool):∀a,a ∈ QJ l pool->okT a:=fun a ha=>by
 unfold QJ at ha
 obtain⟨i,hi,rfl⟩:=List.mem_map.1 ha
 exact Qbm (Qq1 (h i hi))
theorem QAU {t:TX} (h:okT t):QaF t t=true:=by
 unfold QaF
 have:=h.li
 cases hl:t.2.2.1 with
 | nil=>rw[hl] at this;simp at this
 | cons a l=>simp
theorem Qo9 {l:TL} (hl:okL l) {s:TState} (hs:okS' s) {pool:List Int} (hp:QfX l pool) (hpl:pool.length<=1000000) (id:Int):ZN l s pool id=some (mOne l s (QJ l pool) id).2:=by
 have hB:BIG=4611686018427387904:=rfl
 have hok:=Qs1 hp
 have hlen:(QJ l pool).length=pool.length:=by unfold QJ;rw[List.length_map]
 unfold ZN mOne
 rw[Qss hl,aLc]
 by_cases h1:(mTI l id).2=0
 ·have ht:=Qbm (Qq1 h1)
  rw[aLE h1,Bool.not_true,aLC,if_pos h1,QxA,aLc,Qvq hl hs.c ht (QxM hs),aLc]
  by_cases h2:(mChk l s.2.2.1 (mTI l id).1 (QjY s)).2=0
  ·rw[aLE h2,Bool.not_true,aLC,if_pos h2,QC6 hl pool hpl,aLc,Qve _ (by omega),aLc]
   rw[Qgp _ (by omega) (fun a=>QaF a (mTI l id).1) _ (fun a ha=>by unfold Qae;rw[Qx7 (Qvm hok ha) ht.b.ins];rfl)]
   have e:(bif decide (id ∈ pool) then some true else (some ((QJ l pool).any fun a=>QaF a (mTI l id).1):Option Bool).bind fun y26=>some y26)=some ((QJ l pool).any fun a=>QaF a (mTI l id).1):=by
    by_cases hi:id ∈ pool
    ·rw[aLE hi,aLB]
     congr 1
     symm
     rw[List.any_eq_true]
     exact⟨(mTI l id).1,List.mem_map.2 ⟨id,hi,rfl⟩,QAU ht⟩
    ·rw[aLD hi];rfl
   rw[e,aLc]
   cases hc:(QJ l pool).any fun a=>QaF a (mTI l id).1 with
   | true=>rfl
   | false=>
    rw[aLC,QwX hs ht (QFa hl h1) hok (by omega),aLc]
    simp only[Bool.false_eq_true,if_false]
    split<;>rfl
  ·rw[aLD h2,if_neg h2];rfl
 ·rw[aLD h1,if_neg h1];rfl
noncomputable def mTxs (l:TL) (s:TState):List TX->List Int->List TX×Int
 | acc,[]=>(acc,0)
 | acc,id::r=>if (mOne l s acc id).2=0 then mTxs l s (acc++[(mTI l id).1]) r else ([],(mOne l s acc id).2)
def ZI (l:TL) (s:TState) (pool:List Int):Int:=if mLF l=0 then (if mSt s=0 then (if (8:Int)<(pool.length:Int) then 2 else 0) else mSt s) else mLF l
noncomputable def Qe4 (l:TL) (s:TState) (pool:List Int):Int:=if ZI l s pool=0 then (mTxs l s [] pool).2 else ZI l s pool
structure bL' (l:TL):Prop where
 a:l.1.length<BIG
 b:l.2.length<BIG
theorem Qrl {l:TL} {s:TState} {pool:List Int} (h:ZI l s pool=0):mLF l=0/\mSt s=0/\pool.length<=8:=by
 unfold ZI at h
 by_cases h1:mLF l=0
 ·rw[if_pos h1] at h
  by_cases h2:mSt s=0
  ·rw[if_pos h2] at h
   by_cases h3:(8:Int)<(pool.length:Int)
   ·rw[if_pos h3] at h;cases h
   ·exact⟨h1,h2,by omega⟩
  ·rw[if_neg h2] at h;exact absurd h h2
 ·rw[if_neg h1] at h;exact absurd h h1
theorem Qr1 {l:TL} (hl:bL' l) {s:TState} (hs:bS s) (pool:List Int):QbU l s pool=some (ZI l s pool):=by
 unfold QbU ZI
 rw[QqZ l hl.a hl.b,aLc,Qa7,QrL s hs,aLc,Qa7]
 split
 ·split
  ·by_cases h:(8:Int)<(pool.length:Int)
   ·rw[aLE h,if_pos h];rfl
   ·rw[aLD h,if_neg h];rfl
  ·rfl
 ·rfl
theorem Qwg {l:TL} (hl:bL' l) {s:TState} (hs:bS s) (pool:List Int):QeI l s pool=some (if ZI l s pool=0 then mTxs l s [] pool else ([],ZI l s pool)):=by
 have hB:BIG=4611686018427387904:=rfl
 have hL:LIM=1073741824:=rfl
 unfold QeI
 rw[YD l hl.a hl.b,aLc,Qa7]
 by_cases h1:mLF l=0
 ·rw[if_pos h1,QmH s hs,aLc,Qa7]
  by_cases h2:mSt s=0
  ·rw[if_pos h2]
   by_cases h3:(8:Int)<(pool.length:Int)
   ·have hh:ZI l s pool=2:=by unfold ZI;rw[if_pos h1,if_pos h2,if_pos h3]
    rw[aLE h3,hh];rfl
   ·have hh:ZI l s pool=0:=by unfold ZI;rw[if_pos h1,if_pos h2,if_neg h3]
    rw[aLD h3,if_pos hh,aLC]
    have loop:∀(f:List TX×Int->Option ((List TX×Int)⊕(List TX⊕(List TX×Int)))),
      (∀(i:Nat) (hi:i<pool.length) (acc:List TX),acc.length=i->(∀a,a ∈ acc->okT a)->f (acc,(i:Int))=some (if (mOne l s acc pool[i]).2=0 then .inl (acc++[(mTI l pool[i]).1],((i+1:Nat):Int)) else .inr (.inr ([],(mOne l s acc pool[i]).2))))->(∀acc,f (acc,(pool.length:Int))=some (.inr (.inl acc)))->
      ∀(d i:Nat) (acc:List TX),i+d=pool.length->acc.length=i->(∀a,a ∈ acc->okT a)->(Qf f (acc,(i:Int))).bind (fun j=>Sum.elim (fun j17=>some (j17,(0:Int))) (fun j18=>some (j18.1,j18.2)) j)=some (mTxs l s acc (pool.drop i)):=by
     intro f hf he d
     induction d with
     | zero=>
      intro i acc hi hac hok
      obtain rfl:i=pool.length:=by omega
      rw[QB (he acc),List.drop_length];rfl
     | succ d ih=>
      intro i acc hi hac hok
      have hlt:i<pool.length:=by omega
      have h5:=hf i hlt acc hac hok
      rw[aLr hlt,mTxs]
      by_cases hc:(mOne l s acc pool[i]).2=0
      ·rw[if_pos hc] at h5 ⊢
       rw[Q2 h5]
       refine ih (i+1) _ (by omega) (by simp[hac]) (fun a ha=>?_)
       rcases List.mem_append.1 ha with ha | ha
       ·exact hok a ha
       ·rw[aLs] at ha;subst ha
        exact Qbm (Qq1 (Qrk hc))
      ·rw[if_neg hc] at h5 ⊢
       rw[QB h5];rfl
    have:=loop (fun (s14:List TX×Int)=>
 bif (decide ((s14.2:Int)<(List.length pool:Int))) then
 bif (inB s14.2 pool) then
 (JW l s s14.1 (List.getD pool (Int.toNat s14.2) 0)).bind fun (y15:TX×Int)=>
 bif (!decide ((y15.2:Int)=0)) then
 some (Sum.inr (Sum.inr (([]:List TX),y15.2)))
 else
 bif decide (List.length s14.1+List.length ([y15.1]:List TX)<=LIM) then
 some (Sum.inl (List.append s14.1 ([y15.1]:List TX),IntKind.wrap .i64 (s14.2+1)))
 else none
 else none
 else
 some (Sum.inr (Sum.inl s14.1))) (fun i hi acc hac hok=>by
      simp only[dlt hi,Qh _ i hi,Qg _ i _ hi,aLB,Qjp h1 h2 hok (by omega),aLc,wsucc hi (by omega),QBh]
      by_cases hc:(mOne l s acc pool[i]).2=0
      ·rw[aLE hc,if_pos hc,Bool.not_true,aLC,Qz (by simp only[aLh,aLj];omega)];rfl
      ·rw[aLD hc,if_neg hc];rfl) (fun acc=>by simp only[dge,aLC]) pool.length 0 [] (by omega) rfl (fun a h=>nomatch h)
    rw[List.drop_zero] at this
    exact this
  ·have hh:ZI l s pool=mSt s:=by unfold ZI;rw[if_pos h1,if_neg h2]
   rw[if_neg h2,hh,if_neg h2]
 ·have hh:ZI l s pool=mLF l:=by unfold ZI;rw[if_neg h1]
  rw[if_neg h1,hh,if_neg h1]
theorem QkJ {l:TL} (hl:bL' l) {s:TState} (hs:bS s) (pool:List Int):QbX l s pool=some (Qe4 l s pool):=by
 have hB:BIG=4611686018427387904:=rfl
 unfold QbX Qe4
 rw[Qr1 hl hs,aLc,Qa7]
 by_cases hh:ZI l s pool=0
 ·rw[if_pos hh,if_pos hh]
  obtain⟨h1,h2,h3⟩:=Qrl hh
  have hlo:=Qmi h1
  have hso:=Qzb h2
  have loop:∀(f:Int->Option (Int⊕(Unit⊕Int))),
    (∀(i:Nat) (hi:i<pool.length),QfX l (pool.take i)->f (i:Int)=some (if (mOne l s (QJ l (pool.take i)) pool[i]).2=0 then .inl ((i+1:Nat):Int) else .inr (.inr (mOne l s (QJ l (pool.take i)) pool[i]).2)))->(f (pool.length:Int)=some (.inr (.inl ())))->
    ∀(d i:Nat),i+d=pool.length->QfX l (pool.take i)->(Qf f (i:Int)).bind (fun j=>Sum.elim (fun _=>some (0:Int)) (fun j16=>some j16) j)=some (mTxs l s (QJ l (pool.take i)) (pool.drop i)).2:=by
   intro f hf he d
   induction d with
   | zero=>
    intro i hi hall
    obtain rfl:i=pool.length:=by omega
    rw[QB he,List.drop_length];rfl
   | succ d ih=>
    intro i hi hall
    have hlt:i<pool.length:=by omega
    have h5:=hf i hlt hall
    rw[aLr hlt,mTxs]
    by_cases hc:(mOne l s (QJ l (pool.take i)) pool[i]).2=0
    ·rw[if_pos hc] at h5 ⊢
     have e:pool.take (i+1)=pool.take i++[pool[i]]:=List.take_succ_eq_append_getElem hlt
     have e2:QJ l (pool.take i)++[(mTI l pool[i]).1]=QJ l (pool.take (i+1)):=by
      unfold QJ;rw[e,List.map_append];rfl
     rw[Q2 h5,e2]
     refine ih (i+1) (by omega) (fun j hj=>?_)
     rw[e,List.mem_append,aLs] at hj
     rcases hj with hj | rfl
     ·exact hall j hj
     ·exact Qrk hc
    ·rw[if_neg hc] at h5 ⊢
     rw[QB h5];rfl
  have:=loop (fun (s12:Int)=>
 bif (decide ((s12:Int)<(List.length pool:Int))) then
 bif (inB s12 pool) then
 bif (QT 0 s12 pool) then
 (ZN l s (cut 0 s12 pool) (List.getD pool (Int.toNat s12) 0)).bind fun (y13:Int)=>
 bif (!decide ((y13:Int)=0)) then
 some (Sum.inr (Sum.inr y13))
 else
 some (Sum.inl (IntKind.wrap .i64 (s12+1)))
 else none
 else none
 else
 some (Sum.inr (Sum.inl ()))) (fun i hi hall=>by
    simp only[dlt hi,Qh _ i hi,Qg _ i _ hi,Jf _ i (Nat.le_of_lt hi),QdF,aLB,Qo9 hlo hso hall (by rw[aLn];omega),aLc,wsucc hi (by omega)]
    by_cases hc:(mOne l s (QJ l (pool.take i)) pool[i]).2=0
    ·rw[aLE hc,if_pos hc];rfl
    ·rw[aLD hc,if_neg hc];rfl) (by simp only[dge,aLC]) pool.length 0 (by omega) (fun j hj=>by simp at hj)
  rw[List.drop_zero,List.take_zero] at this
  exact this
 ·rw[if_neg hh,if_neg hh]
end GL
end Go.Dx
set_option maxHeartbeats 2000000
namespace Go.Dx
namespace GL
abbrev TPR:=Int×List Int×List Int
theorem Quf {l:TL} {s:TState}:∀(pool:List Int) (acc:List TX),(mTxs l s acc pool).2=0->(mTxs l s acc pool).1=acc++QJ l pool/\QfX l pool
 | [],acc,_=>⟨by unfold QJ;simp[mTxs],fun i h=>nomatch h⟩
 | id::r,acc,h=>by
  unfold mTxs at h ⊢
  by_cases hc:(mOne l s acc id).2=0
  ·rw[if_pos hc] at h ⊢
   obtain⟨h1,h2⟩:=Quf r _ h
   refine⟨by rw[h1];unfold QJ;simp,fun i hi=>?_⟩
   rcases List.mem_cons.1 hi with rfl | hi
   ·exact Qrk hc
   ·exact h2 i hi
  ·rw[if_neg hc] at h;exact absurd h hc
structure okP (l:TL) (s:TState) (pool:List Int):Prop where
 hl:mLF l=0
 hs:mSt s=0
 hn:pool.length<=8
 ht:QfX l pool
 hp:(mTxs l s [] pool).2=0
theorem QEn {l:TL} {s:TState} {pool:List Int} (h:Qe4 l s pool=0):okP l s pool:=by
 unfold Qe4 at h
 by_cases hh:ZI l s pool=0
 ·rw[if_pos hh] at h
  obtain⟨h1,h2,h3⟩:=Qrl hh
  exact⟨h1,h2,h3,(Quf pool [] h).2,h⟩
 ·rw[if_neg hh] at h;exact absurd h hh
theorem QDl {l:TL} (hl:bL' l) {s:TState} (hs:bS s) (pool:List Int):QeI l s pool=some (if Qe4 l s pool=0 then (QJ l pool,0) else ([],Qe4 l s pool)):=by
 rw[Qwg hl hs]
 unfold Qe4
 by_cases hh:ZI l s pool=0
 ·rw[if_pos hh,if_pos hh]
  have key:∀(p:List Int) (acc:List TX),(mTxs l s acc p).2 ≠ 0->(mTxs l s acc p).1=[]:=by
   intro p
   induction p with
   | nil=>intro acc h;exact absurd rfl h
   | cons id r ih=>
    intro acc h
    unfold mTxs at h ⊢
    by_cases hc:(mOne l s acc id).2=0
    ·rw[if_pos hc] at h ⊢;exact ih _ h
    ·rw[if_neg hc]
  by_cases h0:(mTxs l s [] pool).2=0
  ·rw[if_pos h0]
   have:=(Quf pool [] h0).1
   rw[aLx] at this
   rw[<-this,<-h0]
  ·rw[if_neg h0]
   exact congrArg some (Prod.ext (key pool [] h0) rfl)
 ·rw[if_neg hh,if_neg hh,if_neg hh]
theorem QBM (l:TL) (pool:List Int):(QJ l pool).length=pool.length:=by unfold QJ;rw[List.length_map]
noncomputable def QjX (l:TL) (s:TState) (pool:List Int) (id:Int):List Int×Int:=if (mOne l s (QJ l pool) id).2=0 then (if 8<=pool.length then ([],2) else (pool++[id],0)) else ([],(mOne l s (QJ l pool) id).2)
noncomputable def mAdd (l:TL) (s:TState) (pool:List Int) (id:Int):TPR:=if Qe4 l s pool=0 then ((QjX l s pool id).2,([],(QjX l s pool id).1)) else (Qe4 l s pool,([],[]))
theorem QB9 {l:TL} (hl:mLF l=0) {s:TState} (hs:mSt s=0) {pool:List Int} (hp:QfX l pool) (hn:pool.length<=8) (id:Int):Jl l s pool id=some (QjX l s pool id):=by
 unfold Jl QjX
 rw[Qo9 (Qmi hl) (Qzb hs) hp (by omega),aLc,Qa7]
 by_cases h0:(mOne l s (QJ l pool) id).2=0
 ·rw[if_pos h0,if_pos h0]
  by_cases h8:8<=pool.length
  ·rw[aLE (by omega),if_pos h8];rfl
  ·rw[aLD (by omega),if_neg h8,aLC,Qr7 _ (by unfold LIM;omega),aLc,Qz (by simp only[aLh,aLj];unfold LIM;omega)];rfl
 ·rw[if_neg h0,if_neg h0]
theorem QGh {l:TL} (hl:bL' l) {s:TState} (hs:bS s) (pool:List Int) (id:Int):QFC l s pool id=some (mAdd l s pool id):=by
 unfold QFC mAdd
 rw[QkJ hl hs,aLc,Qa7]
 by_cases h0:Qe4 l s pool=0
 ·have ho:=QEn h0
  rw[if_pos h0,if_pos h0,QB9 ho.hl ho.hs ho.ht ho.hn];rfl
 ·rw[if_neg h0,if_neg h0]
theorem Qvd {l:TL} (hl:bL' l) {s:TState} (hs:bS s) (pool:List Int) (id:Int):Qgb l s pool id=some (mAdd l s pool id):=by
 have hB:BIG=4611686018427387904:=rfl
 unfold Qgb mAdd QjX
 rw[QDl hl hs,aLc]
 by_cases h0:Qe4 l s pool=0
 ·have ho:=QEn h0
  have hn:=ho.hn
  rw[if_pos h0,if_pos h0]
  simp only[decide_true,Bool.not_true,aLC]
  rw[Qjp ho.hl ho.hs (Qs1 ho.ht) (by rw[QBM];omega),aLc,Qa7]
  by_cases h1:(mOne l s (QJ l pool) id).2=0
  ·rw[if_pos h1,if_pos h1]
   by_cases h8:8<=pool.length
   ·rw[aLE (by omega),if_pos h8];rfl
   ·rw[aLD (by omega),if_neg h8,aLC,Qz (by simp only[aLj];unfold LIM;omega),Qz (by simp only[aLo,aLx,aLh,aLj];unfold LIM;omega)];rfl
  ·rw[if_neg h1,if_neg h1]
 ·rw[if_neg h0,if_neg h0,aLD h0];rfl
end GL
end Go.Dx
set_option maxHeartbeats 2000000
namespace Go.Dx
namespace GL
theorem QGv {l:TL} {s:TState} {ahead ahead':List TX} (hs:∀a,a ∈ ahead'->a ∈ ahead) {id:Int} (h:(mOne l s ahead id).2=0):(mOne l s ahead' id).2=0:=by
 have hany:∀p:TX->Bool,ahead.any p=false->ahead'.any p=false:=fun p hp=>by
  rw[List.any_eq_false] at hp ⊢
  exact fun a ha=>hp a (hs a ha)
 unfold mOne at h ⊢
 by_cases h1:(mTI l id).2=0
 ·rw[if_pos h1] at h ⊢
  by_cases h2:(mChk l s.2.2.1 (mTI l id).1 (QjY s)).2=0
  ·rw[if_pos h2] at h ⊢
   cases h3:ahead.any fun a=>QaF a (mTI l id).1 with
   | true=>rw[if_pos h3] at h;cases h
   | false=>
    rw[if_neg (by rw[h3];simp)] at h
    rw[if_neg (by rw[hany _ h3];simp)]
    by_cases h4:(mTI l id).1.1 ≠ 0/\((Qgg s.2.2.2 (mTI l id).1 id).2 ≠ 0\/Qes s.2.2.2 (mTI l id).1 ahead=true)
    ·rw[if_pos h4] at h;cases h
    ·rw[if_neg]
     rintro ⟨h5,h6⟩
     refine h4 ⟨h5,h6.imp (fun h=>h) (fun h7=>?_)⟩
     cases h8:Qes s.2.2.2 (mTI l id).1 ahead with
     | true=>rfl
     | false=>
      unfold Qes at h7 h8
      rw[hany _ h8] at h7;cases h7
  ·rw[if_neg h2] at h;exact absurd h h2
 ·rw[if_neg h1] at h;exact absurd h h1
theorem QF5 {l:TL} {s:TState} (p:Int->Bool):∀(pool:List Int) (acc acc':List TX),(∀a,a ∈ acc'->a ∈ acc)->(mTxs l s acc pool).2=0->(mTxs l s acc' (pool.filter p)).2=0
 | [],_,_,_,_=>rfl
 | id::r,acc,acc',hs,h=>by
  unfold mTxs at h
  by_cases hc:(mOne l s acc id).2=0
  ·rw[if_pos hc] at h
   cases hp:p id with
   | true=>
    rw[List.filter_cons_of_pos hp,mTxs,if_pos (QGv hs hc)]
    refine QF5 p r _ _ (fun a ha=>?_) h
    rcases List.mem_append.1 ha with ha | ha
    ·exact List.mem_append_left _ (hs a ha)
    ·exact List.mem_append_right _ ha
   | false=>
    rw[List.filter_cons_of_neg (by rw[hp];simp)]
    exact QF5 p r _ _ (fun a ha=>List.mem_append_left _ (hs a ha)) h
  ·rw[if_neg hc] at h;exact absurd h hc
theorem QGo {l:TL} {s:TState} {pool:List Int} (p:Int->Bool) (h:Qe4 l s pool=0):Qe4 l s (pool.filter p)=0:=by
 have ho:=QEn h
 have hn:=ho.hn
 have hl:=List.length_filter_le p pool
 have hh:ZI l s (pool.filter p)=0:=by
  unfold ZI
  rw[if_pos ho.hl,if_pos ho.hs,if_neg (by omega)]
 unfold Qe4
 rw[if_pos hh]
 exact QF5 p pool [] [] (fun a ha=>ha) ho.hp
noncomputable def QFu (l:TL) (t:TX) (pool:List Int):List Int:=pool.filter fun i=>!QaF (mTI l i).1 t
noncomputable def QFS (l:TL) (t:TX) (pool:List Int):List Int:=pool.filter fun i=>QaF (mTI l i).1 t
noncomputable def mFav (l:TL) (s:TState) (pool:List Int) (id:Int):TPR:=if Qe4 l s pool=0 then (if (mTI l id).2=0 then (if (QjX l s (QFu l (mTI l id).1 pool) id).2=0 then (0,(QFS l (mTI l id).1 pool,(QjX l s (QFu l (mTI l id).1 pool) id).1)) else ((QjX l s (QFu l (mTI l id).1 pool) id).2,([],[]))) else ((mTI l id).2,([],[]))) else (Qe4 l s pool,([],[]))
theorem QGy {l:TL} {pool:List Int} (h:QfX l pool) (p:Int->Bool):QfX l (pool.filter p):=fun i hi=>h i (List.mem_filter.1 hi).1
theorem QFN (p:Int->Bool):∀(l:List Int) (a b:List Int),l.foldl (fun (t:List Int×List Int) x=>if p x then (t.1,t.2++[x]) else (t.1++[x],t.2)) (a,b)=(a++l.filter (fun x=>!p x),b++l.filter p)
 | [],a,b=>by simp
 | x::l,a,b=>by
  rw[List.foldl_cons]
  cases hp:p x with
  | true=>rw[if_pos rfl,QFN p l];simp[hp]
  | false=>rw[if_neg (by simp),QFN p l];simp[hp]
theorem QGw (p:Int->Bool) (l:List Int):(l.filter p).length<=l.length:=List.length_filter_le p l
theorem QF6 {l:TL} (hl:bL' l) {s:TState} (hs:bS s) (pool:List Int) (id:Int):QFz l s pool id=some (mFav l s pool id):=by
 have hB:BIG=4611686018427387904:=rfl
 unfold QFz mFav
 rw[QDl hl hs,aLc]
 by_cases h0:Qe4 l s pool=0
 ·have ho:=QEn h0
  have hn:=ho.hn
  have hlen:=QBM l pool
  rw[if_pos h0,if_pos h0]
  simp only[decide_true,Bool.not_true,aLC]
  rw[Qr8 ho.hl,aLc,Qa7]
  by_cases h1:(mTI l id).2=0
  ·have ht:=Qbm (Qq1 h1)
   rw[if_pos h1,if_pos h1]
   rw[Yh (σ:=List Int×List Int) pool (fun t x=>if QaF (mTI l x).1 (mTI l id).1 then (t.1,t.2++[x]) else (t.1++[x],t.2)) (fun t i=>(t.1,(t.2,i))) (fun t=>t) (fun t i=>t.1.length<=i/\t.2.length<=i) _ (fun i hi x hx=>by
     have hi2:i<(QJ l pool).length:=by omega
     have e:(QJ l pool)[i]=(mTI l pool[i]).1:=by
      show (pool.map fun i=>(mTI l i).1)[i]'(by rw[List.length_map];exact hi)=_
      exact List.getElem_map _
     refine⟨?_,by split<;>(simp only[aLi,aLh,aLj];omega)⟩
     have hok:=(Qs1 ho.ht _ (aLl hi2)).b.ins
     rw[e] at hok
     simp only[dlt hi2,Qh _ i hi2,Qg _ i _ hi2,e,Qh _ i hi,Qg _ i _ hi,aLB,Quu hok ht.b.ins,aLc,wsucc hi (by omega)]
     rw[Qz (by simp only[aLh,aLj];unfold LIM;omega),Qz (by simp only[aLh,aLj];unfold LIM;omega)]
     cases QaF (mTI l pool[i]).1 (mTI l id).1<;>rfl) (fun t ht=>by rw[<-hlen];simp only[dge,aLC]) ([],[]) ⟨Nat.le_refl _,Nat.le_refl _⟩,aLc,QFN,aLx,aLx]
   show ((Qgb l s (QFu l (mTI l id).1 pool) id).bind _)=_
   have hp:Qe4 l s (QFu l (mTI l id).1 pool)=0:=QGo _ h0
   rw[Qvd hl hs,aLc]
   unfold mAdd
   rw[if_pos hp]
   by_cases h2:(QjX l s (QFu l (mTI l id).1 pool) id).2=0
   ·rw[if_pos h2]
    simp only[h2,decide_true,Bool.not_true,aLC];rfl
   ·rw[if_neg h2]
    simp only[h2,decide_false,Bool.not_false,aLB]
  ·rw[if_neg h1,if_neg h1]
 ·rw[if_neg h0,if_neg h0,aLD h0];rfl
theorem QFZ {l:TL} (hl:bL' l) {s:TState} (hs:bS s) (pool:List Int) (id:Int):QFA l s pool id=some (mFav l s pool id):=by
 have hB:BIG=4611686018427387904:=rfl
 unfold QFA QFx mFav
 rw[QkJ hl hs,aLc,Qa7]
 by_cases h0:Qe4 l s pool=0
 ·have ho:=QEn h0
  have hn:=ho.hn
  have hlen:=QBM l pool
  rw[if_pos h0,if_pos h0,Qss (Qmi ho.hl),aLc,Qa7]
  by_cases h1:(mTI l id).2=0
  ·have ht:=Qbm (Qq1 h1)
   rw[if_pos h1,if_pos h1,QC6 (Qmi ho.hl) pool (by omega),aLc]
   rw[Yh (σ:=List Int×List Int) pool (fun t x=>if QaF (mTI l x).1 (mTI l id).1 then (t.1,t.2++[x]) else (t.1++[x],t.2)) (fun t i=>(t.1,(t.2,(QJ l pool,i)))) (fun t=>t) (fun t i=>t.1.length<=i/\t.2.length<=i) _ (fun i hi x hx=>by
     have hi2:i<(QJ l pool).length:=by omega
     have e:(QJ l pool)[i]=(mTI l pool[i]).1:=by
      show (pool.map fun i=>(mTI l i).1)[i]'(by rw[List.length_map];exact hi)=_
      exact List.getElem_map _
     refine⟨?_,by split<;>(simp only[aLi,aLh,aLj];omega)⟩
     have hok:=(Qs1 ho.ht _ (aLl hi2)).b.ins
     rw[e] at hok
     have ej:(bif decide (pool[i]=id) then some true else (some (QaF (mTI l pool[i]).1 (mTI l id).1):Option Bool))=some (QaF (mTI l pool[i]).1 (mTI l id).1):=by
      by_cases hid:pool[i]=id
      ·rw[aLE hid,hid,QAU ht];rfl
      ·rw[aLD hid];rfl
     simp only[dlt hi2,Qh _ i hi2,Qg _ i _ hi2,e,Qh _ i hi,Qg _ i _ hi,aLB,Qx7 hok ht.b.ins,ej,aLc,wsucc hi (by omega)]
     rw[Qz (by simp only[aLh,aLj];unfold LIM;omega),Qz (by simp only[aLh,aLj];unfold LIM;omega)]
     cases QaF (mTI l pool[i]).1 (mTI l id).1<;>rfl) (fun t ht=>by rw[<-hlen];simp only[dge,aLC]) ([],[]) ⟨Nat.le_refl _,Nat.le_refl _⟩,aLc,QFN,aLx,aLx]
   have hll:=QGw (fun i=>!QaF (mTI l i).1 (mTI l id).1) pool
   have ha:=QB9 ho.hl ho.hs (pool:=QFu l (mTI l id).1 pool) (QGy ho.ht _) (by unfold QFu;omega) id
   show (((Jl l s (QFu l (mTI l id).1 pool) id).bind _).bind _)=_
   rw[ha,aLc,Qa7]
   by_cases h2:(QjX l s (QFu l (mTI l id).1 pool) id).2=0
   ·rw[if_pos h2,if_pos h2];rfl
   ·rw[if_neg h2,if_neg h2];rfl
  ·rw[if_neg h1,if_neg h1];rfl
 ·rw[if_neg h0,if_neg h0]
theorem QCP (l:TL) (s:TState) (pool:List Int) (id:Int):(QjX l s pool id).1.length<=8:=by
 unfold QjX
 split
 ·split
  ·simp
  ·simp;omega
 ·simp
theorem QEd (l:TL) (s:TState) (pool:List Int) (id:Int):(mAdd l s pool id).2.1.length<=100/\(mAdd l s pool id).2.2.length<=100:=by
 unfold mAdd
 have:=QCP l s pool id
 split
 ·exact⟨by simp,by show (QjX l s pool id).1.length<=100;omega⟩
 ·simp
end GL
end Go.Dx
set_option maxHeartbeats 2000000
namespace Go.Dx
namespace GL
theorem Qv7 {l:TL} {s:TState} (id:Int):∀(a:List Int) (acc:List TX),(mTxs l s acc a).2=0->(mOne l s (acc++QJ l a) id).2=0->(mTxs l s acc (a++[id])).2=0
 | [],acc,_,h=>by
  unfold QJ at h
  rw[List.map_nil,List.append_nil] at h
  show (mTxs l s acc [id]).2=0
  unfold mTxs
  rw[if_pos h];rfl
 | x::a,acc,h,h1=>by
  unfold mTxs at h
  show (mTxs l s acc (x::(a++[id]))).2=0
  unfold mTxs
  by_cases hc:(mOne l s acc x).2=0
  ·rw[if_pos hc] at h ⊢
   refine Qv7 id a _ h ?_
   have:acc++[(mTI l x).1]++QJ l a=acc++QJ l (x::a):=by unfold QJ;simp
   rw[this];exact h1
  ·rw[if_neg hc] at h;exact absurd h hc
theorem QxR (l:TL) (left:List Int) (id:Int):QJ l (left++[id])=QJ l left++[(mTI l id).1]:=by unfold QJ;simp
structure QGz (l:TL) (s:TState) (pool:List Int) (id:Int):Prop where
 pool0:Qe4 l s pool=0
 tx:(mTI l id).2=0
 val:mFav l s pool id=(0,(QFS l (mTI l id).1 pool,QFu l (mTI l id).1 pool++[id]))
 fault:Qe4 l s (QFu l (mTI l id).1 pool++[id])=0
 len:(QFu l (mTI l id).1 pool).length<8
 more:(mAdd l s (QFu l (mTI l id).1 pool++[id]) id).1 ≠ 0
theorem favors {l:TL} {s:TState} {pool:List Int} {id:Int} (h:(mFav l s pool id).1=0):QGz l s pool id:=by
 unfold mFav at h
 by_cases h0:Qe4 l s pool=0
 ·rw[if_pos h0] at h
  by_cases h1:(mTI l id).2=0
  ·rw[if_pos h1] at h
   by_cases h2:(QjX l s (QFu l (mTI l id).1 pool) id).2=0
   ·have h3:(mOne l s (QJ l (QFu l (mTI l id).1 pool)) id).2=0:=by
     unfold QjX at h2
     by_cases h3:(mOne l s (QJ l (QFu l (mTI l id).1 pool)) id).2=0
     ·exact h3
     ·rw[if_neg h3] at h2;exact absurd h2 h3
    have h4:(QFu l (mTI l id).1 pool).length<8:=by
     unfold QjX at h2
     rw[if_pos h3] at h2
     by_cases h4:8<=(QFu l (mTI l id).1 pool).length
     ·rw[if_pos h4] at h2;cases h2
     ·omega
    have e2:QjX l s (QFu l (mTI l id).1 pool) id=(QFu l (mTI l id).1 pool++[id],0):=by
     unfold QjX;rw[if_pos h3,if_neg (by omega)]
    have hL:Qe4 l s (QFu l (mTI l id).1 pool)=0:=QGo _ h0
    have ho:=QEn hL
    have hf:Qe4 l s (QFu l (mTI l id).1 pool++[id])=0:=by
     have hh:ZI l s (QFu l (mTI l id).1 pool++[id])=0:=by
      unfold ZI
      rw[if_pos ho.hl,if_pos ho.hs,if_neg (by rw[aLi];simp only[aLh,aLj];omega)]
     unfold Qe4
     rw[if_pos hh]
     exact Qv7 id _ [] ho.hp (by rw[aLx];exact h3)
    refine⟨h0,h1,?_,hf,h4,?_⟩
    ·unfold mFav
     rw[if_pos h0,if_pos h1,if_pos h2,e2]
    ·unfold mAdd
     rw[if_pos hf]
     show (QjX l s (QFu l (mTI l id).1 pool++[id]) id).2 ≠ 0
     have ht:=Qbm (Qq1 h1)
     have hany:((QJ l (QFu l (mTI l id).1 pool++[id])).any fun a=>QaF a (mTI l id).1)=true:=by
      rw[QxR,List.any_append]
      simp[QAU ht]
     have hne:(mOne l s (QJ l (QFu l (mTI l id).1 pool++[id])) id).2 ≠ 0:=by
      unfold mOne
      rw[if_pos h1]
      by_cases h5:(mChk l s.2.2.1 (mTI l id).1 (QjY s)).2=0
      ·rw[if_pos h5,if_pos hany]
       show (7:Int) ≠ 0
       decide
      ·rw[if_neg h5];exact h5
     unfold QjX
     rw[if_neg hne];exact hne
   ·rw[if_neg h2] at h;exact absurd h h2
  ·rw[if_neg h1] at h;exact absurd h h1
 ·rw[if_neg h0] at h;exact absurd h h0
end GL
end Go.Dx
set_option maxHeartbeats 2000000
namespace Go.Dx
namespace GL
theorem QmP {α:Type} (l:List α) (h:l.length<1000000):decide (List.length ([]:List α)+List.length l<=LIM)=true:=by
 simp only[aLj,aLF]
 unfold LIM;omega
structure Qqk (l:List Int):Prop where
 len:l.length<=1048576
 byte:∀a,a ∈ l->0<=a/\a<=255
structure Src (N:Nat) (s:List Int×Int):Prop where
 code:Qqk s.1
 lo:0<=s.2
 hi:s.2<=N
theorem Src.mono {N M:Nat} {s:List Int×Int} (h:Src N s) (hm:N<=M):Src M s:=⟨h.code,h.lo,by have:=h.hi;omega⟩
theorem byte_at {l:List Int} (h:Qqk l) (i:Int):0<=List.getD l (Int.toNat i) 0/\List.getD l (Int.toNat i) 0<=255:=by
 rw[aLk]
 cases hg:l[i.toNat]? with
 | none=>simp
 | some a=>exact h.byte a (List.mem_of_getElem? hg)
def QDs (N:Nat) (k:Int) (r:Int×List Int×Int):Prop:=Src (N+1) r.2/\0<=r.1/\(1<=k->r.1<k)/\(k<1->r.1=0)
theorem Q8 {N:Nat} {s:List Int×Int} (h:Src N s) (hN:N<=1000000) (k:Int) (hk:k<=2000000000):Y (Qp s k) (QDs N k):=by
 have hlo:=h.lo
 have hhi:=h.hi
 unfold Qp
 have w1:IntKind.wrap .i64 (s.2+1)=s.2+1:=Qi (by omega) (by omega)
 have w2:IntKind.wrap .i64 (s.2+1 - 1)=s.2:=by rw[show s.2+1 - 1=s.2 by omega];exact Qi (by omega) (by omega)
 simp only[w1]
 rw[show s.2+1 - 1=s.2 by omega] at w2 ⊢
 simp only[w2]
 have hS:Src (N+1) (s.1,s.2+1):=⟨h.code,by show 0<=s.2+1;omega,by show s.2+1<=((N+1:Nat):Int);omega⟩
 have fin:∀v:Int,0<=v->1<=k->QDs N k (Int.tmod v k,(s.1,s.2+1)):=fun v hv h1=>by
  refine⟨hS,?_,fun _=>?_,fun h2=>by omega⟩
  ·show 0<=v.tmod k
   rw[Int.tmod_eq_emod_of_nonneg hv];exact Int.emod_nonneg _ (by omega)
  ·show v.tmod k<k
   rw[Int.tmod_eq_emod_of_nonneg hv];exact Int.emod_lt_of_pos _ (by omega)
 refine Y.bif (fun h1=>?_) (fun h1=>?_)
 ·exact Y.some ⟨hS,Int.le_refl _,fun h2=>by simp only[aLF] at h1;omega,fun _=>rfl⟩
 ·have h1:1<=k:=by simp only[decide_eq_false_iff_not] at h1;omega
  have hk0:(!decide (k=0))=true:=by simp;omega
  refine Y.bif (fun h2=>?_) (fun h2=>?_)
  ·refine Y.grd hk0 (Y.some (fin _ ?_ h1))
   rw[Qi (n:=s.2 * 7) (by omega) (by omega)];omega
  ·have hn:0<(s.1.length:Int):=by have:=aLH h2;omega
   have hlen:=h.code.len
   have hz:(!decide ((List.length s.1:Int)=0))=true:=by rw[h2];rfl
   have md:∀v:Int,0<=v->inB (Int.tmod v (List.length s.1:Int)) s.1=true:=fun v hv=>by
    rw[Int.tmod_eq_emod_of_nonneg hv]
    exact QV (Int.emod_nonneg _ (by omega)) (Int.emod_lt_of_pos _ hn)
   refine Y.grd hz (Y.grd (md _ hlo) (Y.grd hz ?_))
   obtain⟨b1,b2⟩:=byte_at h.code (Int.tmod s.2 (List.length s.1:Int))
   have d1:0<=Int.tdiv s.2 (List.length s.1:Int):=Int.tdiv_nonneg hlo (by omega)
   have d2:Int.tdiv s.2 (List.length s.1:Int)<=s.2:=by
    rw[Int.tdiv_eq_ediv_of_nonneg hlo];exact Int.ediv_le_self _ hlo
   generalize Int.tdiv s.2 (List.length s.1:Int)=d at d1 d2
   generalize List.getD s.1 (Int.toNat (Int.tmod s.2 (List.length s.1:Int))) 0=b at b1 b2
   have wb:IntKind.wrap .i64 b=b:=Qi (by omega) (by omega)
   have wd:IntKind.wrap .i64 d=d:=Qi (by omega) (by omega)
   have wd2:IntKind.wrap .i64 (d * 37)=d * 37:=Qi (by omega) (by omega)
   have wv:IntKind.wrap .i64 (b+d * 37)=b+d * 37:=Qi (by omega) (by omega)
   simp only[wb,wd,wd2,wv]
   refine Y.bind (Q:=fun v=>0<=v) ?_ (fun v hv=>Y.grd hk0 (Y.some (fin v hv h1)))
   refine Y.bif (fun h3=>?_) (fun h3=>Y.some (by omega))
   simp only[w1]
   refine Y.grd hz (Y.grd (md _ (by omega)) ?_)
   obtain⟨c1,c2⟩:=byte_at h.code (Int.tmod (s.2+1) (List.length s.1:Int))
   generalize List.getD s.1 (Int.toNat (Int.tmod (s.2+1) (List.length s.1:Int))) 0=c at c1 c2
   refine Y.some ?_
   show 0<=_
   rw[Qi (n:=c) (by omega) (by omega),Qi (n:=c * 13) (by omega) (by omega),Qi (n:=(b+d * 37) * 251) (by omega) (by omega),Qi (n:=(b+d * 37) * 251+c * 13) (by omega) (by omega),Qi (n:=(b+d * 37) * 251+c * 13+s.2) (by omega) (by omega)]
   omega
theorem Qav {N:Nat} {s:List Int×Int} (h:Src N s) (hN:N<=1000000) (k:Int) (hk:k<=2000000000):Y (QO s k) (fun r=>Src (N+1) r.2):=by
 unfold QO
 exact Y.bind (Q8 h hN k hk) fun r hr=>Y.some hr.1
theorem Qj6 {N:Nat} {s:List Int×Int} (h:Src N s) (hN:N<=1000000) (l:List Int) (h0:0<l.length) (hl:l.length<=1000):Y (JZ s l) (fun r=>Src (N+1) r.2/\r.1 ∈ l):=by
 unfold JZ
 refine Y.bind (Q8 h hN _ (by omega)) fun r hr=>?_
 obtain⟨h1,h2,h3,_⟩:=hr
 have h3:=h3 (by omega)
 refine Y.grd (QV h2 h3) (Y.some ⟨h1,?_⟩)
 have hi:r.1.toNat<l.length:=by omega
 show List.getD l (Int.toNat r.1) 0 ∈ l
 rw[aLk,aLf hi]
 exact aLl hi
end GL
end Go.Dx
set_option maxHeartbeats 2000000
namespace Go.Dx
namespace GL
theorem Y.of {α:Type} {o:Option α} {a:α} {Q:α->Prop} (h:o=Option.some a) (hq:Q a):Y o Q:=⟨a,h,hq⟩
def kRu (r:TRu):Prop:=r.1.length<=10
theorem QD1 {N:Nat} {s:List Int×Int} (h:Src N s) (hN:N<=900000):Y (JY s) (fun r=>Src (N+7) r.2/\kRu r.1):=by
 unfold JY
 refine Y.bind (Q8 h (by omega) 3 (by omega)) fun y11 h11=>?_
 refine Y.bind (Q8 h11.1 (by omega) 3 (by omega)) fun y12 h12=>?_
 refine Y.bind (Q:=fun (j:(List Int×Int×Int)×List Int×Int)=>Src (N+4) j.2/\j.1.1.length<=3) ?_ (fun j hj=>?_)
 ·refine Y.loop (fun n (st:Int×(List Int×Int×Int)×List Int×Int)=>st.1=(n:Int)/\1<=st.2.1.1.length/\st.2.1.1.length+n<=3/\Src (N+4 - n) st.2.2/\n<=2) (fun n st hi=>?_) y12.1.toNat _ ?_
  ·obtain⟨i1,i2,i3,i4,i5⟩:=hi
   refine Y.bif (fun hc=>?_) (fun hc=>?_)
   ·have hn:0<n:=by have:=aLG hc;omega
    refine Y.grd (QV (by rw[Qi (by omega) (by omega)];omega) (by rw[Qi (by omega) (by omega)];omega)) ?_
    refine Y.bind (Q8 i4 (by omega) 2 (by omega)) fun y16 h16=>?_
    refine Y.grd (ZW _ _ (by omega)) (Y.some ⟨n - 1,by omega,?_,?_,?_,h16.1.mono (by omega),by omega⟩)
    ·show IntKind.wrap .i64 (st.1 - 1)=_
     rw[i1,Qi (by omega) (by omega)];omega
    ·show 1<=(List.append _ _).length
     simp
    ·show (List.append _ _).length+(n - 1)<=3
     simp only[aLo,aLi,aLh,aLj];omega
   ·have hn:n=0:=by have:=aLH hc;omega
    subst hn
    exact Y.some ⟨i4,by omega⟩
  ·have h1:=h12.2.1
   have h2:=h12.2.2.1 (by omega)
   exact⟨by show y12.1=_;omega,by simp,by simp only[aLh,aLj];omega,h12.1.mono (by omega),by omega⟩
 ·refine Y.bind (Q8 hj.1 (by omega) _ (by omega)) fun y18 h18=>?_
  refine Y.bind (Q8 h18.1 (by omega) 9 (by omega)) fun y19 h19=>?_
  refine Y.bind (Qj6 h19.1 (by omega) _ (by simp) (by simp)) fun y20 h20=>?_
  exact Y.some ⟨h20.1,Nat.le_trans hj.2 (by decide)⟩
def Qxj (l:List TOut):Prop:=l.length<=4/\∀x,x ∈ l->kRu x.2
theorem QBt {N:Nat} {s:List Int×Int} (h:Src N s) (hN:N<=800000):Y (Qc2 s) (fun r=>Src (N+25) r.2/\Qxj r.1):=by
 unfold Qc2
 refine Y.bind (Q8 h (by omega) 4 (by omega)) fun y10 h10=>?_
 refine Y.bind (Q:=fun (j:List TOut×List Int×Int)=>Src (N+25) j.2/\Qxj j.1) ?_ (fun j hj=>Y.some hj)
 refine Y.loop (fun n (st:List TOut×Int×List Int×Int)=>st.2.1=(n:Int)/\st.1.length+n<=3/\(∀x,x ∈ st.1->kRu x.2)/\Src (N+25 - 8 * n) st.2.2/\n<=3) (fun n st hi=>?_) y10.1.toNat _ ?_
 ·obtain⟨i1,i2,i3,i4,i5⟩:=hi
  refine Y.bif (fun hc=>?_) (fun hc=>?_)
  ·have hn:0<n:=by have:=aLG hc;omega
   refine Y.bind (Q8 i4 (by omega) 300 (by omega)) fun y16 h16=>?_
   refine Y.bind (QD1 h16.1 (by omega)) fun y17 h17=>?_
   refine Y.grd (ZW _ _ (by omega)) (Y.some ⟨n - 1,by omega,?_,?_,?_,h17.1.mono (by omega),by omega⟩)
   ·show IntKind.wrap .i64 (st.2.1 - 1)=_
    rw[i1,Qi (by omega) (by omega)];omega
   ·show (List.append _ _).length+(n - 1)<=3
    simp only[aLo,aLi,aLh,aLj];omega
   ·intro x hx
    have hx:x ∈ st.1++[(IntKind.wrap .i64 (1+y16.1),y17.1)]:=hx
    rcases List.mem_append.1 hx with hx | hx
    ·exact i3 x hx
    ·obtain rfl:=aLs.1 hx;exact h17.2
  ·have hn:n=0:=by have:=aLH hc;omega
   subst hn
   exact Y.some ⟨i4,(show st.1.length<=4 by omega),i3⟩
 ·have h1:=h10.2.1
  have h2:=h10.2.2.1 (by omega)
  exact⟨by show y10.1=_;omega,by simp only[aLj];omega,by simp,h10.1.mono (by omega),by omega⟩
def kC (x:TCoin):Prop:=x.2.1.2.1.length<=10
theorem Qov (r:TRu) (h:r.1.length<=10):Qbc r=some r:=by
 unfold Qbc
 rw[QmP _ (by omega)];rfl
theorem QzW (l:List TCoin) (x:TCoin) (hl:l.length<=100):Y (Qh2 l x) (fun r=>r.length=l.length+1/\∀y,y ∈ r->y=x\/y ∈ l):=by
 unfold Qh2
 refine Y.bind (Q:=fun (j:Int)=>0<=j/\j<=(l.length:Int)) ?_ (fun j hj=>?_)
 ·refine Y.loop (fun n (st:Int)=>0<=st/\st+(n:Int)=(l.length:Int)) (fun n st hi=>?_) l.length 0 ⟨Int.le_refl _,by omega⟩
  obtain⟨i1,i2⟩:=hi
  refine Y.bind (Q:=fun b=>b=true->st<(l.length:Int)) (Y.bif (fun hc=>?_) (fun _=>Y.some (fun h=>by cases h))) (fun b hb=>?_)
  ·have hc:=aLG hc
   refine Y.grd (QV i1 hc) ?_
   rw[Qm0]
   exact Y.some (fun _=>hc)
  ·refine Y.bif (fun hc=>?_) (fun _=>Y.some ⟨i1,by omega⟩)
   have:=hb hc
   refine Y.some ⟨n - 1,by omega,?_⟩
   rw[Qi (by omega) (by omega)]
   omega
 ·obtain⟨j1,j2⟩:=hj
  obtain⟨k,rfl⟩:=aLA j1
  have hk:k<=l.length:=by omega
  have e1:QT 0 (k:Int) l=true:=Jf l k hk
  have e2:QT (k:Int) (l.length:Int) l=true:=by unfold QT;simp;omega
  have e3:cut (k:Int) (l.length:Int) l=l.drop k:=by
   unfold cut
   simp only[Int.toNat_natCast]
   rw[List.take_of_length_le (by rw[aLz];omega)]
  rw[e1,e2,QdF,e3,aLB,aLB,aLo,aLo,aLo]
  rw[Qz,Qz,Qz]
  ·refine Y.some ⟨by simp only[aLi,aLh,aLj,aLn,aLz];omega,fun y hy=>?_⟩
   simp only[aLx,List.append_assoc,List.mem_append,aLs] at hy
   rcases hy with hy | hy | hy
   ·exact .inr (List.mem_of_mem_take hy)
   ·exact .inl hy
   ·exact .inr (List.mem_of_mem_drop hy)
  all_goals ((try simp only[aLi,aLh,aLj,aLn,aLz]);unfold LIM;omega)
theorem QlY (l:List TCoin) (hl:l.length<BIG) (tx:Int):QcT l tx=some (l.any fun x=>decide (x.1.1=tx)):=by
 unfold QcT
 refine Qon l _ _ (fun i h=>?_) (by simp only[dge,aLC])
 simp only[dlt h,Qh l i h,Qg l i _ h,aLB,wsucc h hl]
 cases decide (l[i].1.1=tx)<;>rfl
def kL (l:List TCoin):Prop:=l.length<=41/\∀x,x ∈ l->kC x
theorem QDT (l:List TCoin) (tx:Int) (outs:List TOut) (h:Int) (m:Bool) (hl:l.length+outs.length<=40) (hk:∀x,x ∈ l->kC x) (ho:∀x,x ∈ outs->kRu x.2):Y (Qc6 l tx outs h m) (fun r=>kL r.1/\r.2=l):=by
 unfold Qc6
 rw[QeB l (by omega) (fun x hx=>by have:=hk x hx;unfold kC at this;omega),aLc]
 refine Y.bind (Q:=kL) ?_ (fun j hj=>Y.some ⟨hj,rfl⟩)
 refine Y.loop (fun n (st:List TCoin×Int)=>0<=st.2/\st.2+(n:Int)=(outs.length:Int)/\st.1.length+n<=40/\∀x,x ∈ st.1->kC x) (fun n st hi=>?_) outs.length (l,0) ⟨Int.le_refl _,by simp,hl,hk⟩
 obtain⟨i1,i2,i3,i4⟩:=hi
 refine Y.bif (fun hc=>?_) (fun hc=>Y.some ⟨by omega,i4⟩)
 have hc:=aLG hc
 have hin:=QV i1 hc
 refine Y.grd hin (Y.grd hin ?_)
 obtain⟨k,hk2⟩:=aLA i1
 have hk3:k<outs.length:=by omega
 rw[hk2,Qg outs k _ hk3]
 have hor:=ho _ (aLl hk3)
 unfold kRu at hor
 rw[Qov _ (by omega),aLc]
 refine Y.bind (QzW _ _ (by omega)) fun y17 h17=>Y.some ⟨n - 1,by omega,?_⟩
 refine⟨?_,?_,?_,fun x hx=>?_⟩
 ·show 0<=IntKind.wrap .i64 ((k:Int)+1)
  rw[Qi (by omega) (by omega)];omega
 ·show IntKind.wrap .i64 ((k:Int)+1)+_=_
  rw[Qi (by omega) (by omega)];omega
 ·show y17.length+_<=40
  rw[h17.1];omega
 ·rcases h17.2 x hx with rfl | hx
  ·show (outs[k].2.1).length<=10
   omega
  ·exact i4 x hx
theorem QBw (l:List TCoin) (tx:Int) (outs:List TOut) (h:Int) (m:Bool) (hl:kL l) (ho:Qxj outs):Y (YR l tx outs h m) (fun r=>kL r.1.2/\r.2=l):=by
 have hk:∀x,x ∈ l->x.2.1.2.1.length<BIG:=fun x hx=>by
  have:=hl.2 x hx;unfold kC at this;unfold BIG;omega
 have hlB:l.length<BIG:=by have:=hl.1;unfold BIG;omega
 have nil:kL []:=⟨by simp,by simp⟩
 unfold YR
 rw[QbE l hlB hk,aLc,Zp,aLc,QcI]
 refine Y.bif (fun _=>Y.some ⟨nil,rfl⟩) (fun _=>?_)
 refine Y.bind (Q:=fun _=>True) (Y.bif (fun _=>Y.some trivial) (fun _=>Y.some trivial)) (fun b _=>?_)
 refine Y.bif (fun _=>Y.some ⟨nil,rfl⟩) (fun _=>?_)
 refine Y.bif (fun _=>Y.some ⟨nil,rfl⟩) (fun _=>?_)
 refine Y.bind (Q:=fun (j:Unit⊕(Int×List TCoin))=>match j with | .inl _=>True | .inr r=>r.2=[]) ?_ (fun j hj=>?_)
 ·refine Y.loop (fun n (st:Int)=>0<=st/\st+(n:Int)=(outs.length:Int)) (fun n st hi=>?_) outs.length 0 ⟨Int.le_refl _,by omega⟩
  obtain⟨i1,i2⟩:=hi
  refine Y.bif (fun hc=>?_) (fun hc=>Y.some trivial)
  have hc:=aLG hc
  refine Y.grd (QV i1 hc) ?_
  obtain⟨k,rfl⟩:=aLA i1
  have hk3:k<outs.length:=by omega
  rw[Qg outs k _ hk3]
  have hor:=ho.2 _ (aLl hk3)
  unfold kRu at hor
  rw[Qks _ (by unfold BIG;omega),aLc]
  refine Y.bif (fun _=>Y.some rfl) (fun _=>Y.some ⟨n - 1,by have:=ho.1;omega,?_⟩)
  have:=ho.1
  rw[Qi (by omega) (by omega)]
  omega
 ·cases j with
  | inr r=>
   refine Y.some ⟨?_,rfl⟩
   have hj:r.2=[]:=hj
   show kL r.2
   rw[hj];exact nil
  | inl _=>
   show Y ((QcT l tx).bind _) _
   rw[QlY l hlB,aLc]
   refine Y.bif (fun _=>Y.some ⟨nil,rfl⟩) (fun _=>?_)
   refine Y.bif (fun _=>Y.some ⟨nil,rfl⟩) (fun hc=>?_)
   have hc:=aLH hc
   have h1:=hl.1
   have h2:=ho.1
   rw[Qi (by omega) (by omega)] at hc
   refine Y.bind (QDT l tx outs h m (by omega) hl.2 ho.2) fun y30 h30=>Y.some ⟨h30.1,h30.2⟩
theorem QAW {N:Nat} {s:List Int×Int} (h:Src N s) (hN:N<=700000):Y (Qgh s) (fun r=>Src (N+141) r.2/\kL r.1):=by
 unfold Qgh
 refine Y.bind (Q8 h (by omega) 6 (by omega)) fun y22 h22=>?_
 refine Y.bind (Q:=fun (j:List TCoin×List Int×Int)=>Src (N+141) j.2/\kL j.1) ?_ (fun j hj=>Y.some hj)
 refine Y.loop (fun n (st:List TCoin×Int×List Int×Int)=>st.2.1=(n:Int)/\kL st.1/\Src (N+141 - 28 * n) st.2.2/\n<=5) (fun n st hi=>?_) y22.1.toNat _ ?_
 ·obtain⟨i1,i2,i3,i4⟩:=hi
  refine Y.bif (fun hc=>?_) (fun hc=>?_)
  ·have hn:0<n:=by have:=aLG hc;omega
   refine Y.bind (Q8 i3 (by omega) 6 (by omega)) fun y36 h36=>?_
   refine Y.bind (QBt h36.1 (by omega)) fun y37 h37=>?_
   refine Y.bind (Q8 h37.1 (by omega) 6 (by omega)) fun y38 h38=>?_
   refine Y.bind (Qav h38.1 (by omega) 3 (by omega)) fun y39 h39=>?_
   refine Y.bind (QBw _ _ _ _ _ i2 h37.2) fun y40 h40=>?_
   refine Y.bind (Q:=kL) (Y.bif (fun _=>Y.some h40.1) (fun _=>Y.some (by rw[h40.2];exact i2))) (fun j hj=>?_)
   refine Y.some ⟨n - 1,by omega,?_,hj,h39.mono (by omega),by omega⟩
   show IntKind.wrap .i64 (st.2.1 - 1)=_
   rw[i1,Qi (by omega) (by omega)];omega
  ·have hn:n=0:=by have:=aLH hc;omega
   subst hn
   exact Y.some ⟨i3,i2⟩
 ·have h1:=h22.2.1
  have h2:=h22.2.2.1 (by omega)
  exact⟨by show y22.1=_;omega,⟨by simp,by simp⟩,h22.1.mono (by omega),by omega⟩
def kM (l:List TCoin):Prop:=l.length<=42/\∀x,x ∈ l->kC x
theorem QyV {l:List TCoin} (h:kM l) (i:Nat) (x:TCoin) (hx:kC x):kM (List.set l i x):=⟨by rw[List.length_set];exact h.1,fun y hy=>by
 rcases List.mem_or_eq_of_mem_set hy with hy | rfl
 ·exact h.2 y hy
 ·exact hx⟩
theorem QE2 {l:List TCoin} (h:kM l) (i:Nat) (hi:i<l.length):kC (List.getD l i dC):=by
 rw[aLk,aLf hi]
 exact h.2 _ (aLl hi)
theorem QBC {N:Nat} {s:List Int×Int} (h:Src N s) (hN:N<=600000):Y (QgV s) (fun r=>kM r.1/\Src (N+201) r.2):=by
 unfold QgV
 refine Y.bind (QAW h (by omega)) fun y73 h73=>?_
 have hM:kM y73.1:=⟨by have:=h73.2.1;omega,h73.2.2⟩
 refine Y.bind (Q:=fun (j:List TCoin×List Int×Int)=>kM j.1/\Src (N+200) j.2) (Y.bif (fun hc=>?_) (fun _=>Y.some ⟨hM,h73.1.mono (by omega)⟩)) (fun j142 h142=>?_)
 ·have hc:=aLG hc
  have hin:inB 0 y73.1=true:=QV (Int.le_refl _) hc
  have h0:kC (List.getD y73.1 (Int.toNat 0) dC):=QE2 hM _ (by show 0<_;omega)
  refine Y.bind (Q8 h73.1 (by omega) 14 (by omega)) fun y108 h108=>?_
  refine Y.bind (Q:=fun (j:List TCoin×List Int×Int)=>kM j.1/\Src (N+200) j.2) (Y.bif (fun _=>?_) (fun _=>?_)) (fun j hj=>Y.some hj)
  ·refine Y.bind (Qj6 h108.1 (by omega) _ (by simp) (by simp)) fun y125 h125=>?_
   exact Y.grd hin (Y.some ⟨QyV hM _ _ h0,h125.1.mono (by omega)⟩)
  ·refine Y.bind (Q:=fun (j:List TCoin×List Int×Int)=>kM j.1/\Src (N+200) j.2) (Y.bif (fun _=>?_) (fun _=>?_)) (fun j hj=>Y.some hj)
   ·refine Y.bind (Qj6 h108.1 (by omega) _ (by simp) (by simp)) fun y133 h133=>?_
    exact Y.grd hin (Y.some ⟨QyV hM _ _ h0,h133.1.mono (by omega)⟩)
   ·refine Y.bind (Q:=kM) (Y.bif (fun _=>Y.grd hin (Y.some (QyV hM _ _ h0))) (fun _=>?_)) (fun j hj=>Y.some ⟨hj,h108.1.mono (by omega)⟩)
    refine Y.bind (Q:=kM) (Y.bif (fun _=>Y.grd hin ?_) (fun _=>Y.some hM)) (fun j hj=>Y.some hj)
    refine Y.grd (ZW _ _ (by have:=hM.1;omega)) (Y.some ⟨?_,fun x hx=>?_⟩)
    ·show (List.append _ _).length<=42
     have:=h73.2.1
     simp only[aLo,aLi,aLh,aLj];omega
    ·have hx:x ∈ y73.1++[List.getD y73.1 (Int.toNat 0) dC]:=hx
     rcases List.mem_append.1 hx with hx | hx
     ·exact hM.2 x hx
     ·rw[aLs.1 hx];exact h0
 ·refine Y.bind (Qav h142.2 (by omega) 40 (by omega)) fun y143 h143=>?_
  refine Y.bind (Q:=kM) (Y.bif (fun _=>Y.grd (by decide) (Y.some ⟨by simp,fun x hx=>?_⟩)) (fun _=>Y.some h142.1)) (fun j hj=>Y.some ⟨hj,h143⟩)
  rw[List.eq_of_mem_replicate hx]
  show ([]:List Int).length<=10
  simp
end GL
end Go.Dx
set_option maxHeartbeats 2000000
namespace Go.Dx
namespace GL
theorem QD7 (n:Int):-9223372036854775808<=IntKind.wrap .i64 n/\IntKind.wrap .i64 n<=9223372036854775807:=by
 simp only[IntKind.wrap,IntKind.bits,IntKind.signed]
 simp
 omega
structure kLd (l:TL):Prop where
 a:l.1.length<=61
 b:l.2.length<=121
theorem kLd.nil:kLd (([],[]):TL):=⟨by simp,by simp⟩
theorem kLd.bl {l:TL} (h:kLd l):bL' l:=⟨by have:=h.a;unfold BIG;omega,by have:=h.b;unfold BIG;omega⟩
theorem Qy8 {l:TL} (h:kLd l):Qet l=some l:=by
 unfold Qet
 rw[QmP _ (by have:=h.a;omega),QmP _ (by have:=h.b;omega)];rfl
theorem Qvt {l:TL} (h:kLd l) (t:List UInt8):Y (QaO l t) (fun r=>kLd r.2.2/\0<=r.2.1/\r.2.1<=61):=by
 have ha:=h.a
 have nil:kLd (([],[]):TL)/\(0:Int)<=0/\(0:Int)<=61:=⟨kLd.nil,by omega,by omega⟩
 unfold QaO
 refine Y.eqb (YD l h.bl.a h.bl.b) (Y.bif (fun _=>Y.some nil) (fun h0=>?_))
 refine Y.bind (Q:=fun _=>True) (Y.bif (fun _=>Y.some trivial) (fun _=>Y.some trivial)) (fun j _=>Y.bif (fun _=>Y.some nil) (fun _=>?_))
 refine Y.eqb (Qy8 h) (Y.eqb (QlR _ h.bl.a t) ?_)
 have hx:=QBL (fun a=>decide (a=t)) l.1
 refine Y.bif (fun _=>Y.some ⟨h,?_,?_⟩) (fun _=>Y.bif (fun _=>Y.some nil) (fun hc=>Y.grd (ZW _ _ (by omega)) (Y.some ⟨⟨?_,h.b⟩,?_,?_⟩)))
 ·show 0<=idxF _ _+1;omega
 ·show idxF _ _+1<=61;omega
 ·have hc:=aLH hc
  show (List.append l.1 [t]).length<=61
  simp only[aLo,aLi,aLh,aLj];omega
 ·show (0:Int)<=((List.append l.1 [t]).length:Int);omega
 ·have hc:=aLH hc
  show ((List.append l.1 [t]).length:Int)<=61
  simp only[aLo,aLi,aLh,aLj];omega
theorem Qz4 {l:TL} (h:kLd l) (k id:Int):Y (Qeg l k id) (fun r=>kLd r.2.2):=by
 have hb:=h.b
 unfold Qeg QeR
 refine Y.eqb (YD l h.bl.a h.bl.b) (Y.bif (fun _=>Y.some kLd.nil) (fun h0=>?_))
 refine Y.bind (Q:=fun _=>True) (Y.eqb (Qdk k) (Y.bif (fun _=>Y.some trivial) (fun _=>Y.eqb (by rw[Zp];rfl) (Y.some trivial)))) (fun j _=>Y.bif (fun _=>Y.some kLd.nil) (fun _=>?_))
 refine Y.eqb (Qy8 h) (Y.eqb (QhI _ h.bl.b _) (Y.bif (fun _=>Y.some h) (fun _=>Y.bif (fun _=>Y.some kLd.nil) (fun hc=>Y.grd (ZW _ _ (by omega)) (Y.some ⟨h.a,?_⟩)))))
 have hc:=aLH hc
 show (List.append l.2 [(k,id)]).length<=121
 simp only[aLo,aLi,aLh,aLj];omega
theorem Qwa {N:Nat} {s:List Int×Int} (h:Src N s) (hN:N<=900000):Y (JY s) (fun r=>Src (N+7) r.2/\okR r.1):=by
 unfold JY
 refine Y.bind (Q8 h (by omega) 3 (by omega)) fun y11 h11=>?_
 refine Y.bind (Q8 h11.1 (by omega) 3 (by omega)) fun y12 h12=>?_
 have b1:=h11.2.1
 have b2:=h11.2.2.1 (by omega)
 refine Y.bind (Q:=fun (j:(List Int×Int×Int)×List Int×Int)=>Src (N+4) j.2/\(1<=j.1.1.length/\j.1.1.length<=3)/\∀k,k ∈ j.1.1->1<=k/\k<=999) ?_ (fun j hj=>?_)
 ·refine Y.loop (fun n (st:Int×(List Int×Int×Int)×List Int×Int)=>st.1=(n:Int)/\1<=st.2.1.1.length/\st.2.1.1.length+n<=3/\Src (N+4 - n) st.2.2/\n<=2/\∀k,k ∈ st.2.1.1->1<=k/\k<=3 * (st.2.1.1.length:Int)) (fun n st hi=>?_) y12.1.toNat _ ?_
  ·obtain⟨i1,i2,i3,i4,i5,i6⟩:=hi
   refine Y.bif (fun hc=>?_) (fun hc=>?_)
   ·have hn:0<n:=by have:=aLG hc;omega
    have e1:IntKind.wrap .i64 ((st.2.1.1.length:Int) - 1)=((st.2.1.1.length - 1:Nat):Int):=by rw[Qi (by omega) (by omega)];omega
    rw[e1]
    refine Y.grd (QV (by omega) (by omega)) ?_
    refine Y.bind (Q8 i4 (by omega) 2 (by omega)) fun y16 h16=>?_
    have hl:st.2.1.1.length - 1<st.2.1.1.length:=by omega
    have hm:=i6 _ (aLl hl)
    have c1:=h16.2.1
    have c2:=h16.2.2.1 (by omega)
    rw[Qg _ _ _ hl]
    refine Y.grd (ZW _ _ (by omega)) (Y.some ⟨n - 1,by omega,?_,?_,?_,h16.1.mono (by omega),by omega,?_⟩)
    ·show IntKind.wrap .i64 (st.1 - 1)=_
     rw[i1,Qi (by omega) (by omega)];omega
    ·show 1<=(List.append _ _).length
     simp
    ·show (List.append _ _).length+(n - 1)<=3
     simp only[aLo,aLi,aLh,aLj];omega
    ·intro k hk
     show 1<=k/\k<=3 * ((List.append _ _).length:Int)
     simp only[aLo,aLi,aLh,aLj]
     rcases List.mem_append.1 hk with hk | hk
     ·have:=i6 k hk;omega
     ·rw[aLs.1 hk,Qi (n:=st.2.1.1[st.2.1.1.length - 1]+1) (by omega) (by omega),Qi (by omega) (by omega)];omega
   ·have hn:n=0:=by have:=aLH hc;omega
    subst hn
    exact Y.some ⟨i4,⟨i2,by omega⟩,fun k hk=>by have:=i6 k hk;omega⟩
  ·have h1:=h12.2.1
   have h2:=h12.2.2.1 (by omega)
   refine⟨by show y12.1=_;omega,by simp,by simp only[aLh,aLj];omega,h12.1.mono (by omega),by omega,fun k hk=>?_⟩
   rw[aLs.1 hk,Qi (by omega) (by omega)]
   simp only[aLh,aLj];omega
 ·obtain⟨j1,j2,j3⟩:=hj
  refine Y.bind (Q8 j1 (by omega) _ (by omega)) fun y18 h18=>?_
  refine Y.bind (Q8 h18.1 (by omega) 9 (by omega)) fun y19 h19=>?_
  refine Y.bind (Qj6 h19.1 (by omega) _ (by simp) (by simp)) fun y20 h20=>?_
  have a1:=h18.2.1
  have a2:=h18.2.2.1 (by omega)
  have a3:=h19.2.1
  have a4:=h19.2.2.1 (by omega)
  refine Y.some ⟨h20.1,j2,j3,?_,?_⟩
  ·show 1<=IntKind.wrap .i64 (1+y18.1)/\IntKind.wrap .i64 (1+y18.1)<=3
   rw[Qi (by omega) (by omega)];omega
  ·show 0<=y20.1/\y20.1<=999
   have:=h20.2
   simp only[List.mem_cons,List.not_mem_nil,or_false] at this
   omega
structure okW (t:TX):Prop where
 kind:0<=t.1/\t.1<=2
 mem:0<=t.2.1/\t.2.1<=999
 li:t.2.2.1.length<=4
 lo:t.2.2.2.length<=4
 ref:∀r,r ∈ t.2.2.1->(0<=r.1/\r.1<=100)/\(0<=r.2/\r.2<=100)
 out:∀o,o ∈ t.2.2.2->(1<=o.1/\o.1<=9223372036854775807)/\okR o.2
theorem QDY {N:Nat} {s:List Int×Int} (h:Src N s) (hN:N<=800000):Y (Qg0 s) (fun r=>Src (N+30) r.2/\okW r.1):=by
 unfold Qg0
 refine Y.bind (Qj6 h (by omega) _ (by simp) (by simp)) fun y29 h29=>?_
 have hk:0<=y29.1/\y29.1<=2:=by
  have:=h29.2
  simp only[List.mem_cons,List.not_mem_nil,or_false] at this
  omega
 refine Y.bind (Q:=fun (j:TX×List Int×Int)=>Src (N+2) j.2/\okW j.1/\j.1.2.2.1=[]/\j.1.2.2.2=[]) (Y.bif (fun _=>?_) (fun _=>?_)) (fun j hj=>?_)
 ·refine Y.bind (Q8 h29.1 (by omega) 4 (by omega)) fun y31 h31=>?_
  have b1:=h31.2.1
  have b2:=h31.2.2.1 (by omega)
  refine Y.some ⟨h31.1,⟨hk,?_,by simp,by simp,by simp,by simp⟩,rfl,rfl⟩
  show 0<=IntKind.wrap .i64 (1+y31.1)/\IntKind.wrap .i64 (1+y31.1)<=999
  rw[Qi (by omega) (by omega)];omega
 ·exact Y.some ⟨h29.1.mono (by omega),⟨hk,by show (0:Int)<=0/\(0:Int)<=999;omega,by simp,by simp,by simp,by simp⟩,rfl,rfl⟩
 ·obtain⟨j1,j2,j3,j4⟩:=hj
  refine Y.bind (Q8 j1 (by omega) 2 (by omega)) fun y33 h33=>?_
  have b1:=h33.2.1
  have b2:=h33.2.2.1 (by omega)
  refine Y.bind (Q:=fun (q:TX×List Int×Int)=>Src (N+7) q.2/\okW q.1/\q.1.2.2.2=[]) ?_ (fun q hq=>?_)
  ·refine Y.loop (fun n (st:Int×TX×List Int×Int)=>st.1=(n:Int)/\n<=2/\Src (N+7 - 2 * n) st.2.2/\okW st.2.1/\st.2.1.2.2.1.length+n<=2/\st.2.1.2.2.2=[]) (fun n st hi=>?_) (IntKind.wrap .i64 (1+y33.1)).toNat _ ?_
   ·obtain⟨i1,i2,i3,i4,i5,i6⟩:=hi
    refine Y.bif (fun hc=>?_) (fun hc=>?_)
    ·have hn:0<n:=by have:=aLG hc;omega
     refine Y.bind (Q8 i3 (by omega) 6 (by omega)) fun y43 h43=>?_
     refine Y.bind (Q8 h43.1 (by omega) 2 (by omega)) fun y44 h44=>?_
     have c1:=h43.2.1
     have c2:=h43.2.2.1 (by omega)
     have d1:=h44.2.1
     have d2:=h44.2.2.1 (by omega)
     have e1:IntKind.wrap .i64 (1+y43.1)=1+y43.1:=Qi (by omega) (by omega)
     rw[e1]
     refine Y.eqb (YE _ (by unfold BIG;omega) _) ?_
     refine Y.bind (Q:=fun (q:TX)=>okW q/\q.2.2.1.length+(n - 1)<=2/\q.2.2.2=[]) (Y.bif (fun _=>?_) (fun _=>Y.some ⟨i4,by omega,i6⟩)) (fun q hq=>?_)
     ·refine Y.grd (ZW _ _ (by omega)) (Y.some ⟨⟨i4.kind,i4.mem,?_,i4.lo,?_,i4.out⟩,?_,i6⟩)
      ·show (List.append _ _).length<=4
       simp only[aLo,aLi,aLh,aLj];omega
      ·intro r hr
       have hr:r ∈ st.2.1.2.2.1++[(1+y43.1,y44.1)]:=hr
       rcases List.mem_append.1 hr with hr | hr
       ·exact i4.ref r hr
       ·rw[aLs.1 hr]
        show (0<=1+y43.1/\1+y43.1<=100)/\(0<=y44.1/\y44.1<=100)
        omega
      ·show (List.append _ _).length+(n - 1)<=2
       simp only[aLo,aLi,aLh,aLj];omega
     ·refine Y.some ⟨n - 1,by omega,?_,by omega,h44.1.mono (by omega),hq.1,hq.2.1,hq.2.2⟩
      show IntKind.wrap .i64 (st.1 - 1)=_
      rw[i1,Qi (by omega) (by omega)];omega
    ·have hn:n=0:=by have:=aLH hc;omega
     subst hn
     exact Y.some ⟨i3,i4,i6⟩
   ·have e:IntKind.wrap .i64 (1+y33.1)=1+y33.1:=Qi (by omega) (by omega)
    rw[e]
    exact⟨by show (1+y33.1:Int)=_;omega,by omega,h33.1.mono (by omega),j2,by show j.1.2.2.1.length+_<=2;rw[j3,aLj];omega,j4⟩
  ·obtain⟨q1,q2,q3⟩:=hq
   refine Y.bind (Q8 q1 (by omega) 2 (by omega)) fun y48 h48=>?_
   have c1:=h48.2.1
   have c2:=h48.2.2.1 (by omega)
   refine Y.bind (Q:=fun (q:TX×List Int×Int)=>Src (N+30) q.2/\okW q.1) ?_ (fun q hq=>Y.some hq)
   refine Y.loop (fun n (st:Int×TX×List Int×Int)=>st.1=(n:Int)/\n<=2/\Src (N+30 - 8 * n) st.2.2/\okW st.2.1/\st.2.1.2.2.2.length+n<=2) (fun n st hi=>?_) (IntKind.wrap .i64 (1+y48.1)).toNat _ ?_
   ·obtain⟨i1,i2,i3,i4,i5⟩:=hi
    refine Y.bif (fun hc=>?_) (fun hc=>?_)
    ·have hn:0<n:=by have:=aLG hc;omega
     refine Y.bind (Q8 i3 (by omega) 99 (by omega)) fun y54 h54=>?_
     refine Y.bind (Qwa h54.1 (by omega)) fun y55 h55=>?_
     have d1:=h54.2.1
     have d2:=h54.2.2.1 (by omega)
     refine Y.grd (ZW _ _ (by omega)) (Y.some ⟨n - 1,by omega,?_,by omega,h55.1.mono (by omega),⟨i4.kind,i4.mem,i4.li,?_,i4.ref,?_⟩,?_⟩)
     ·show IntKind.wrap .i64 (st.1 - 1)=_
      rw[i1,Qi (by omega) (by omega)];omega
     ·show (List.append _ _).length<=4
      simp only[aLo,aLi,aLh,aLj];omega
     ·intro o ho
      have ho:o ∈ st.2.1.2.2.2++[(IntKind.wrap .i64 (100+y54.1),y55.1)]:=ho
      rcases List.mem_append.1 ho with ho | ho
      ·exact i4.out o ho
      ·rw[aLs.1 ho]
       refine⟨?_,h55.2⟩
       show 1<=IntKind.wrap .i64 (100+y54.1)/\IntKind.wrap .i64 (100+y54.1)<=9223372036854775807
       rw[Qi (by omega) (by omega)];omega
     ·show (List.append _ _).length+(n - 1)<=2
      simp only[aLo,aLi,aLh,aLj];omega
    ·have hn:n=0:=by have:=aLH hc;omega
     subst hn
     exact Y.some ⟨i3,i4⟩
   ·have e:IntKind.wrap .i64 (1+y48.1)=1+y48.1:=Qi (by omega) (by omega)
    rw[e]
    exact⟨by show (1+y48.1:Int)=_;omega,by omega,h48.1.mono (by omega),q2,by show q.1.2.2.2.length+_<=2;rw[q3,aLj];omega⟩
end GL
end Go.Dx
