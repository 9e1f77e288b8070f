/- The plain law: no program in sight -/
import Derived.Test.YtlpbfnhgmhpccaaGreatDoorScb
set_option linter.unusedVariables false
set_option linter.unusedSimpArgs false
set_option maxHeartbeats 1000000
namespace Go.Dx
namespace GL
abbrev TCoin:=(Int×Int)×(Int×List Int×Int×Int)×Int×Bool
abbrev TM:=Int×Int×Int
abbrev TState:=Int×Int×List TCoin×List TM
end GL
end Go.Dx
set_option maxHeartbeats 1000000
namespace Go.Dx
namespace GL
end GL
end Go.Dx
set_option maxHeartbeats 2000000
namespace Go.Dx
namespace GL
set_option synthInstance.maxSize 1000
set_option synthInstance.maxHeartbeats 400000
theorem beqB (a b:Bool):Sh.beq .bool a b=decide (a=b):=rfl
end GL
end Go.Dx
set_option maxHeartbeats 2000000
namespace Go.Dx
namespace GL
def mIn (v lo hi:Int):Bool:=decide (lo<=v)&&decide (v<=hi)
theorem Zf (v lo hi:Int):QT v lo hi=some (mIn v lo hi):=by
 unfold QT mIn;cases decide (lo<=v)<;>rfl
theorem Zk (v lo hi:Int):QO v lo hi=some (mIn v lo hi):=by
 unfold QO mIn;cases decide (lo<=v)<;>rfl
theorem Qa8 (v:Int):YP v=some (mIn v 1 999):=by unfold YP;rw[Zf];rfl
theorem QcK (v:Int):Jb v=some (mIn v 1 999):=by unfold Jb;rw[Zk];rfl
theorem QiU (v:Int):QbS v=some (mIn v 1 60):=by unfold QbS;rw[Zk];rfl
def mRef (r:Int×Int):Bool:=mIn r.1 1 60&&mIn r.2 0 3
theorem Qj7 (r:Int×Int):Qbe r=some (mRef r):=by
 unfold Qbe mRef;rw[QiU,Zk];cases mIn r.1 1 60<;>rfl
theorem Qhp (r:Int×Int):QcJ r=some (mRef r):=by
 unfold QcJ mRef;rw[Zf,Zf];cases mIn r.1 1 60<;>rfl
theorem Qrv (l:List Int) (hl:l.length<BIG) (p:Int->Bool) (f:Int->Option Bool) (I:∀a,a ∈ l->f a=some (p a)):Z6 l f=some (idxF p l):=by
 unfold Z6;refine Qbb l p _ (fun i h=>?_) (by simp only[dge,aLC])
 simp only[dlt h,Qf l i h,Qc l i _ h,aLB,I _ (aLl h),aLc,wsucc h hl];cases p l[i]<;>rfl
theorem Qos (l:List Int) (hl:l.length<BIG) (p:Int->Bool) (f:Int->Option Bool) (I:∀a,a ∈ l->f a=some (p a)):ZH l f=some (l.any p):=by
 unfold ZH;rw[Qrv l hl p f I,aLc,ZA]
theorem Qtg (l:List Int) (hl:l.length<BIG):QeO l=some (l.all fun k=>mIn k 1 999):=by
 unfold QeO;rw[Qos l hl (fun k=>!mIn k 1 999) _ (fun a _=>by unfold QfG;rw[QcK];rfl),aLc]
 rw[List.all_eq_not_any_not]
def QhX (l:List Int):Bool:=(List.range (l.length - 1)).all fun i=>decide (List.getD l i 0<List.getD l (i+1) 0)
theorem Qpk {β:Type} (l:List Int) (hl:l.length<BIG) (r:β) (f:Int->Option (Int⊕(Unit⊕β)))
  (hs:∀(i:Nat),i+1<l.length->f ((i+1:Nat):Int)=some (if List.getD l (i+1) 0<=List.getD l i 0 then .inr (.inr r) else .inl ((i+2:Nat):Int))) (he:∀n:Nat,l.length<=n->f (n:Int)=some (.inr (.inl ()))) :
  Qd f 1=some (if QhX l then .inl () else .inr r):=by
 have key:∀(k i:Nat),i+k=l.length - 1->Qd f ((i+1:Nat):Int)=some (if (List.range' i k).all (fun i=>decide (List.getD l i 0<List.getD l (i+1) 0)) then .inl () else .inr r):=by
  intro k;induction k with
  | zero=>intro i hi;rw[QM (he _ (by omega))];simp
  | succ k J=>
   intro i hi;have hs:=hs i (by omega)
   rw[List.range'_succ,List.all_cons];by_cases I:List.getD l (i+1) 0<=List.getD l i 0
   ·rw[if_pos I] at hs
    rw[QM hs,aLD (p:=List.getD l i 0<List.getD l (i+1) 0) (by omega)];rfl
   ·rw[if_neg I] at hs
    rw[Ze hs,J (i+1) (by omega),aLE (p:=List.getD l i 0<List.getD l (i+1) 0) (by omega),Bool.true_and]
 have:=key (l.length - 1) 0 (by omega)
 rw[<-List.range_eq_range'] at this;exact this
theorem Qpp (l:List Int) (hl:l.length<BIG) (i:Nat) (h:i+1<l.length):decide (((i+1:Nat):Int)<(l.length:Int))=true/\inB ((i+1:Nat):Int) l=true/\inB (IntKind.wrap .i64 (((i+1:Nat):Int) - 1)) l=true/\
  List.getD l (Int.toNat ((i+1:Nat):Int)) 0=List.getD l (i+1) 0/\List.getD l (Int.toNat (IntKind.wrap .i64 (((i+1:Nat):Int) - 1))) 0=List.getD l i 0/\IntKind.wrap .i64 (((i+1:Nat):Int)+1)=((i+2:Nat):Int):=by
 rw[wpred (i:=i) (n:=l.length) (by omega) hl]
 exact⟨dlt h,Qf l _ h,Qf l _ (by omega),by simp,by simp,wsucc h hl⟩
theorem dge' {i n:Nat} (h:n<=i):decide ((i:Int)<(n:Int))=false:=by simp;omega
theorem QqT (l:List Int) (hl:l.length<BIG):Qd9 l=some (QhX l):=by
 unfold Qd9;rw[Qpk l hl false _ (fun i h=>by
  obtain⟨h1,J,U,h4,h5,h6⟩:=Qpp l hl i h;simp only[h1,J,U,h4,h5,h6,aLB];by_cases I:List.getD l (i+1) 0<=List.getD l i 0
  ·rw[if_pos I,aLE I];rfl
  ·rw[if_neg I,aLD I];rfl) (fun n hn=>by simp only[dge' hn,aLC]),aLc]
 cases QhX l<;>rfl
theorem QBQ {β:Type} (l:List Int) (hl:l.length<BIG) (r:β) (f:Int->Option (Int⊕(Unit⊕β)))
  (hs:∀(i:Nat) (h:i<l.length),f (i:Int)=some (if mIn l[i] 1 999 then .inl ((i+1:Nat):Int) else .inr (.inr r))) (he:f (l.length:Int)=some (.inr (.inl ()))) :
  Qd f 0=some (if (l.all fun k=>mIn k 1 999) then .inl () else .inr r):=by
 rw[QbD l (fun _ a=>if !mIn a 1 999 then some r else none) f (fun i h=>by rw[hs i h];cases mIn l[i] 1 999<;>rfl) he,QkR,List.all_eq_not_any_not]
 cases l.any fun x=>!mIn x 1 999<;>rfl
end GL
end Go.Dx
set_option maxHeartbeats 2000000
namespace Go.Dx
namespace GL
abbrev TRu:=List Int×Int×Int
abbrev TOut:=Int×List Int×Int×Int
def Zb (r:TRu):Int:=if mIn (r.1.length:Int) 1 3 then (if (r.1.all fun k=>mIn k 1 999)&&mIn r.2.1 1 (r.1.length:Int)&&mIn r.2.2 0 999 then (if QhX r.1 then 0 else 1) else 3) else 2
theorem QbA (n:Int):YJ n=some (mIn n 0 999):=by unfold YJ;rw[Zk];rfl
theorem QbE (n:Int):Jn n=some (mIn n 0 999):=by unfold Jn;rw[Zf];rfl
theorem QgH (r:TRu) (hl:r.1.length<BIG):JQ r=some (Zb r):=by
 unfold JQ Zb;simp only[Zk,Qtg _ hl,QqT _ hl,QbA,aLc];cases mIn (r.1.length:Int) 1 3<;>cases (r.1.all fun k=>mIn k 1 999)<;>cases mIn r.2.1 1 (r.1.length:Int)<;>cases mIn r.2.2 0 999<;>cases QhX r.1<;>rfl
theorem QiG (r:TRu) (hl:r.1.length<BIG):QaX r=some (Zb r):=by
 unfold QaX Zb;simp only[Zf,QbE,aLc];rw[QBQ r.1 hl 3 _ (fun i h=>by
  simp only[dlt h,Qf r.1 i h,Qc r.1 i _ h,aLB,Qa8,aLc,wsucc h hl];cases mIn r.1[i] 1 999<;>rfl) (by simp only[dge,aLC]),aLc]
 cases mIn (r.1.length:Int) 1 3 with
 | false=>rfl
 | true=>
  cases (r.1.all fun k=>mIn k 1 999) with
  | false=>rfl
  | true=>
   simp only[Bool.not_true,aLC,if_true,Sum.elim_inl];rw[Qpk r.1 hl 1 _ (fun i h=>by
    obtain⟨h1,J,U,h4,h5,h6⟩:=Qpp r.1 hl i h;simp only[h1,J,U,h4,h5,h6,aLB];by_cases I:List.getD r.1 (i+1) 0<=List.getD r.1 i 0
    ·rw[if_pos I,aLE I];rfl
    ·rw[if_neg I,aLD I];rfl) (fun n hn=>by simp only[dge' hn,aLC]),aLc]
   cases mIn r.2.1 1 (r.1.length:Int)<;>cases mIn r.2.2 0 999<;>cases QhX r.1<;>rfl
def mOut (o:TOut):Int:=if mIn o.1 1 1000000 then Zb o.2 else 3
theorem Qkv (o:TOut) (hl:o.2.1.length<BIG):Qeq o=some (mOut o):=by
 unfold Qeq mOut;rw[Zf,aLc,QiG _ hl];cases mIn o.1 1 1000000<;>rfl
def Qw (a b:Int×Int):Bool:=if a.1=b.1 then decide (a.2<b.2) else decide (a.1<b.1)
theorem Ql4 (a b:Int×Int):Qco a b=some (Qw a b):=by
 unfold Qco Qw;by_cases h:a.1=b.1<;>simp[h]
def mCmp (a b:Int):Int:=if a<b then -1 else if b<a then 1 else 0
theorem Qju (a b:Int):YM a b=some (mCmp a b):=by
 unfold YM Qcb mCmp;by_cases h1:a<b
 ·simp[h1]
 ·by_cases I:b<a<;>simp[h1,I]
theorem QDs (a b:Int):Qg8 [a,b]=some (if a=0 then b else a):=by
 unfold Qg8;by_cases I:a=0
 ·subst I
  rw[Ze (s':=(1:Int)) rfl];by_cases hb:b=0
  ·subst hb
   rw[Ze (s':=(2:Int)) rfl,QM (x:=Sum.inl ()) rfl];rfl
  ·rw[QM (x:=Sum.inr b) (by
    show (bif !decide (b=0) then some (Sum.inr (Sum.inr b)) else _)=_
    rw[aLD hb];rfl)]
   rfl
 ·rw[QM (x:=Sum.inr a) (by
   show (bif !decide (a=0) then some (Sum.inr (Sum.inr a)) else _)=_
   rw[aLD I];rfl),if_neg I]
  rfl
def Qhq (a b:Int×Int):Int:=if mCmp a.1 b.1=0 then mCmp a.2 b.2 else mCmp a.1 b.1
theorem Qey (a b:Int×Int):Y4 a b=some (Qhq a b):=by
 unfold Y4 Qhq;rw[Qju,Qju,aLc,aLc,QDs];rfl
theorem QrE (a b:Int×Int):decide (0<=Qhq a b) = !Qw a b:=by
 unfold Qhq Qw mCmp;by_cases h1:a.1<b.1
 ·have I:¬a.1=b.1:=by omega
  simp[h1,I]
 ·by_cases J:b.1<a.1
  ·have I:¬a.1=b.1:=by omega
   simp[h1,J,I]
  ·have I:a.1=b.1:=by omega
   simp only[h1,J,if_false,if_true,I,Int.lt_irrefl];by_cases U:a.2<b.2
   ·simp[U]
   ·by_cases h5:b.2<a.2<;>simp[U,h5]
def dC:TCoin:=((0,0),((0,([],(0,0))),(0,false)))
def Qk4 (l:List TCoin) (i:Nat) (x:TCoin):Int:=if mRef x.1&&mIn x.2.2.1 0 999 then (if mOut x.2.1=0 then (if decide (0<i)&&!Qw (List.getD l (i - 1) dC).1 x.1 then 1 else 0) else mOut x.2.1) else 3
def ZG (l:List TCoin):Int:=if (40:Int)<(l.length:Int) then 2 else code (Qk4 l) l
theorem QzN (l:List TCoin) (hl:l.length<BIG) (i:Nat) (h:i<l.length) (I:0<i):inB (IntKind.wrap .i64 ((i:Int) - 1)) l=true/\List.getD l (Int.toNat (IntKind.wrap .i64 ((i:Int) - 1))) dC=List.getD l (i - 1) dC:=by
 obtain⟨j,rfl⟩:∃j,i=j+1:=⟨i - 1,by omega⟩
 rw[wpred (i:=j) (n:=l.length) (by omega) hl]
 exact⟨Qf l j (by omega),by simp⟩
theorem Qa0 (l:List TCoin) (hl:l.length<BIG) (hk:∀x,x ∈ l->x.2.1.2.1.length<BIG):JP l=some (ZG l):=by
 unfold JP ZG;by_cases I:(40:Int)<(l.length:Int)
 ·rw[aLE I,if_pos I];rfl
 ·rw[aLD I,if_neg I,aLC]
  refine QgR l (Qk4 l) _ (fun i h=>?_) (by simp only[dge,aLC])
  have hx:=hk _ (aLl h)
  simp only[dlt h,Qf l i h,Qc l i _ h,aLB,wsucc h hl,Qhp,QbE,Qkv _ hx,Ql4,aLc];unfold Qk4;cases h1:mRef l[i].1<;>cases h2:mIn l[i].2.2.1 0 999<;>try rfl
  simp only[Bool.not_true,aLC,aLc,Bool.true_and,if_true];by_cases U:mOut l[i].2.1=0
  ·rw[aLE U]
   simp only[U,Bool.not_true,aLC,if_true];by_cases J:0<i
   ·obtain⟨e1,e2⟩:=QzN l hl i h J
    rw[show decide ((0:Int)<(i:Int))=true by simpa using J,aLE J,aLB,e1,aLB]
    show (Option.bind (some (!Qw (List.getD l (Int.toNat (IntKind.wrap .i64 ((i:Int) - 1))) dC).1 l[i].1)) _)=_
    rw[e2];cases Qw (List.getD l (i - 1) dC).1 l[i].1<;>rfl
   ·rw[show decide ((0:Int)<(i:Int))=false by simpa using J,aLD J];rfl
  ·rw[aLD U];simp[U]
theorem QoV (l:List TCoin) (hl:l.length<BIG) (hk:∀x,x ∈ l->x.2.1.2.1.length<BIG):Qcc l=some (ZG l):=by
 unfold Qcc ZG;by_cases I:(40:Int)<(l.length:Int)
 ·rw[aLE I,if_pos I];rfl
 ·rw[aLD I,if_neg I,aLC]
  refine QgR l (Qk4 l) _ (fun i h=>?_) (by simp only[dge,aLC])
  have hx:=hk _ (aLl h)
  simp only[dlt h,Qf l i h,Qc l i _ h,aLB,wsucc h hl,Qj7,QbA,Zk,QgH _ hx,Qey,aLc];unfold Qk4 mOut;cases h1:mRef l[i].1<;>cases h2:mIn l[i].2.2.1 0 999<;>try rfl
  cases h5:mIn l[i].2.1.1 1 1000000<;>try rfl
  simp only[Bool.not_true,aLC,aLc,Bool.true_and,if_true];by_cases U:Zb l[i].2.1.2=0
  ·rw[aLE U]
   simp only[U,Bool.not_true,aLC,if_true];by_cases J:0<i
   ·obtain⟨e1,e2⟩:=QzN l hl i h J
    rw[show decide ((0:Int)<(i:Int))=true by simpa using J,aLE J,aLB,e1,aLB]
    show (Option.bind (some (decide (0<=Qhq (List.getD l (Int.toNat (IntKind.wrap .i64 ((i:Int) - 1))) dC).1 l[i].1))) _)=_
    rw[e2,QrE];cases Qw (List.getD l (i - 1) dC).1 l[i].1<;>rfl
   ·rw[show decide ((0:Int)<(i:Int))=false by simpa using J,aLD J];rfl
  ·rw[aLD U];simp[U]
end GL
end Go.Dx
set_option maxHeartbeats 2000000
namespace Go.Dx
namespace GL
theorem Qr {α:Type} {n:Nat} {x:Option α} (h:n<=LIM):(bif decide (n<=LIM) then x else none)=x:=by rw[aLE h];rfl
theorem Qc8 {n:Int} (I:0<=n) (h1:n<=9223372036854775807):Jl n=some (Lib.itoa n):=by
 unfold Jl QdU;rw[QDP n (by omega) h1];rfl
theorem Yd {n:Int} (I:0<=n) (h1:n<=9223372036854775807):QA n=some (Lib.itoa n):=QD4 I h1
theorem Qq {v a b:Int}:mIn v a b=true↔a<=v/\v<=b:=by simp[mIn]
structure okR (r:TRu):Prop where
 len:1<=r.1.length/\r.1.length<=3
 keys:∀k,k ∈ r.1->1<=k/\k<=999
 need:1<=r.2.1/\r.2.1<=3
 after:0<=r.2.2/\r.2.2<=999
theorem Y0 {r:TRu} (h:Zb r=0):okR r:=by
 unfold Zb at h;cases h1:mIn (r.1.length:Int) 1 3 with
 | false=>rw[h1] at h;simp at h
 | true=>
  rw[h1,if_pos rfl] at h;cases I:(r.1.all fun k=>mIn k 1 999) with
  | false=>rw[I] at h;simp at h
  | true=>
   cases U:mIn r.2.1 1 (r.1.length:Int) with
   | false=>rw[U] at h;simp at h
   | true=>
    cases J:mIn r.2.2 0 999 with
    | false=>rw[J] at h;simp at h
    | true=>
     rw[Qq] at h1 U J;rw[List.all_eq_true] at I;exact⟨by omega,fun k hk=>Qq.1 (I k hk),by omega,J⟩
theorem Q4 {n:Int} (I:0<=n) (h1:n<=1000000):(Lib.itoa n).length<=19:=QpM I (by omega)
def ZL (l:List Int) (sep:List UInt8):List UInt8:=Lib.join (l.map Lib.itoa) sep
theorem QEm (l:List Int) (h:∀k,k ∈ l->0<=k/\k<=1000000):Lib.lens (l.map Lib.itoa)<=19 * l.length:=by
 induction l with
 | nil=>simp[Lib.lens]
 | cons a l I=>
  have h1:=I fun k hk=>h k (aLp _ hk)
  have J:=Q4 (h a aLm).1 (h a aLm).2
  simp only[Lib.lens,List.map_cons,List.map_map,List.sum_cons,aLh] at h1 ⊢;omega
theorem QdM (l:List Int) (sep:List UInt8) (h:∀k,k ∈ l->0<=k/\k<=1000000):(ZL l sep).length<=(19+sep.length) * l.length:=by
 unfold ZL;cases l with
 | nil=>simp[Lib.join_nil]
 | cons a l=>
  have:=QEm (a::l) h
  rw[List.map_cons,Lib.join_length,List.length_map];rw[List.map_cons] at this;have e:(19+sep.length) * (a::l).length=19 * (a::l).length+(sep.length * l.length+sep.length):=by
   rw[Nat.add_mul,aLh,Nat.mul_succ sep.length]
  omega
theorem Qjk (l:List Int) (sep:List UInt8) (hl:l.length<=100000) (hs:sep.length<=100) (h:∀k,k ∈ l->0<=k/\k<=1000000):Qay l sep=some (ZL l sep):=by
 unfold Qay;rw[ZQ (σ:=List (List UInt8)) l (fun acc a=>acc++[Lib.itoa a]) (fun t i=>(t,i)) (fun t=>t) (fun t i=>t.length=i) _ (fun i hi t ht=>by
   obtain⟨k0,k1⟩:=h _ (aLl hi);refine⟨?_,by simp[ht]⟩
   simp only[dlt hi,Qf l i hi,Qc l i _ hi,aLB,Qc8 k0 (by omega),aLc,wsucc hi (by unfold BIG;omega)]
   rw[Qr (by simp only[aLh,aLj];unfold LIM;omega)];rfl) (fun t ht=>by simp only[dge,aLC]) [] rfl,aLc,foldl_map,aLx]
 have h1:=QdM l sep h
 have I:(19+sep.length) * l.length<=119 * 100000:=Nat.mul_le_mul (by omega) hl
 unfold Yu;rw[Qqa _ _ (by rw[List.length_map];omega) (by unfold ZL at h1;omega)];rfl
def Qs (r:TRu) (b:List UInt8):List UInt8:=Lib.itoa r.2.1++b++[111,102]++b++ZL r.1 [44]++(if r.2.2=0 then [] else b++[97,102,116,101,114]++b++Lib.itoa r.2.2)
theorem Qph {r:TRu} (h:okR r) (b:List UInt8) (hb:b.length<=1):(Qs r b).length<=120:=by
 have h1:=QdM r.1 [44] fun k hk=>by have:=h.keys k hk;omega
 have I:=Q4 (n:=r.2.1) (by have:=h.need;omega) (by have:=h.need;omega)
 have J:=Q4 (n:=r.2.2) (by have:=h.after;omega) (by have:=h.after;omega)
 have U:=h.len
 simp only[aLh,aLj] at h1;unfold Qs;split<;>simp only[aLi,aLh,aLj]<;>omega
theorem QkS {r:TRu} (h:okR r) (b:List UInt8) (hb:b.length<=1):QbN r b=some (Qs r b):=by
 have h1:=QdM r.1 [44] fun k hk=>by have:=h.keys k hk;omega
 have J:=Q4 (n:=r.2.1) (by have:=h.need;omega) (by have:=h.need;omega)
 have U:=Q4 (n:=r.2.2) (by have:=h.after;omega) (by have:=h.after;omega)
 have h4:=h.len
 simp only[aLh,aLj] at h1;unfold QbN Qs;rw[Qc8 (n:=r.2.1) (by have:=h.need;omega) (by have:=h.need;omega),aLc,Qjk r.1 [44] (by omega) (by simp) fun k hk=>by have:=h.keys k hk;omega]
 simp only[aLc,aLo];rw[Qc8 (n:=r.2.2) (by have:=h.after;omega) (by have:=h.after;omega)]
 simp only[aLc];rw[Qr,Qr,Qr,Qr]
 ·by_cases I:r.2.2=0
  ·rw[aLE I,if_pos I];simp
  ·rw[aLD I,if_neg I,Bool.not_false,aLB,Qr,Qr,Qr,Qr]
   ·rfl
   all_goals ((try simp only[aLi,aLh,aLj]);unfold LIM;omega)
 all_goals ((try simp only[aLi,aLh,aLj]);unfold LIM;omega)
theorem QpP {α:Type} (l:List α) (g:α->List UInt8) (f:List UInt8×Int->Option ((List UInt8×Int)⊕List UInt8)) (B:Nat->Nat)
  (hs:∀(i:Nat) (h:i<l.length) (acc:List UInt8),acc.length<=B i->f (acc,(i:Int))=some (.inl (acc++g l[i],((i+1:Nat):Int)))/\(acc++g l[i]).length<=B (i+1))
  (he:∀acc,f (acc,(l.length:Int))=some (.inr acc)):∀(k i:Nat) (acc:List UInt8),i+k=l.length->acc.length<=B i->Qd f (acc,(i:Int))=some (acc++((l.drop i).map g).flatten)
 | 0,i,acc,hi,_=>by
  obtain rfl:i=l.length:=by omega
  rw[QM (he acc)];simp
 | k+1,i,acc,hi,U=>by
  have h1:i<l.length:=by omega
  obtain⟨I,J⟩:=hs i h1 acc U;rw[Ze I,QpP l g f B hs he k (i+1) _ (by omega) J,aLr h1,List.map_cons,List.flatten_cons,List.append_assoc]
theorem Qns {r:TRu} (h:okR r):Qdp r=some (Qs r [32]):=by
 have h2:=Q4 (n:=r.2.1) (by have:=h.need;omega) (by have:=h.need;omega)
 have h3:=Q4 (n:=r.2.2) (by have:=h.after;omega) (by have:=h.after;omega)
 obtain⟨⟨k0,I⟩,hr⟩:∃p:Int×List Int,r.1=p.1::p.2:=by
  have:=h.len
  match hq:r.1 with
  | []=>rw[hq] at this;simp at this
  | a::l=>exact⟨(a,l),rfl⟩
 have hr:r.1=k0::I:=hr
 have hlen:=h.len
 have hk:=h.keys
 rw[hr] at hlen hk;have hk0:=hk k0 aLm
 have h5:=Q4 (n:=k0) (by omega) (by omega)
 unfold Qdp Qs;rw[hr];rw[Yd (n:=r.2.1) (by have:=h.need;omega) (by have:=h.need;omega),aLc]
 rw[show inB 0 (k0::I)=true from Qf _ 0 (by simp),show List.getD (k0::I) (Int.toNat 0) 0=k0 from rfl,aLB,Yd (n:=k0) (by omega) (by omega),aLc]
 simp only[aLo];rw[Qr,Qr]
 ·have:=QpP (k0::I) (fun k=>44::Lib.itoa k) (fun (s15:List UInt8×Int)=>
 bif (decide ((s15.2:Int)<(List.length (k0::I):Int))) then
 bif decide (List.length s15.1+List.length [44]<=LIM) then
 bif (inB s15.2 (k0::I)) then
 (QA (List.getD (k0::I) (Int.toNat s15.2) 0)).bind fun (J:List UInt8)=>
 bif decide (List.length (s15.1++[44])+List.length J<=LIM) then
 some (Sum.inl (s15.1++[44]++J,IntKind.wrap .i64 (s15.2+1)))
 else none
 else none
 else none
 else
 some (Sum.inr s15.1)) (fun i=>100+20 * i) (fun i hi acc U=>by
    have hki:=hk _ (aLl hi)
    have hli:=Q4 (n:=(k0::I)[i]) (by omega) (by omega)
    refine⟨?_,by simp only[aLi,aLh];omega⟩
    have hi3:i<3:=by omega
    simp only[dlt hi,Qf _ i hi,Qc _ i _ hi,aLB,Yd (n:=(k0::I)[i]) (by omega) (by omega),aLc,wsucc hi (by unfold BIG;omega)]
    rw[Qr,Qr]
    ·simp
    all_goals ((try simp only[aLi,aLh,aLj]);unfold LIM;omega)) (fun acc=>by simp only[dge,aLC]) I.length 1 (Lib.itoa r.2.1++[32,111,102,32]++Lib.itoa k0) (by simp;omega) (by simp only[aLi,aLh,aLj];omega)
  rw[show ((1:Nat):Int)=1 from rfl] at this
  rw[this,aLc,List.drop_succ_cons,List.drop_zero];have e1:Lib.itoa r.2.1++[32,111,102,32]++Lib.itoa k0++(I.map fun k=>44::Lib.itoa k).flatten=Lib.itoa r.2.1++[32]++[111,102]++[32]++ZL (k0::I) [44]:=by
   unfold ZL;rw[List.map_cons,Lib.join_cons,Lib.joinTail,List.map_map];simp[Function.comp_def]
  rw[e1];have h1:=QdM (k0::I) [44] fun k hk'=>by have:=hk k hk';omega
  simp only[aLh,aLj] at h1 hlen;by_cases U:r.2.2=0
  ·rw[aLE U,if_pos U];simp
  ·rw[aLD U,if_neg U,Bool.not_false,aLB,Yd (n:=r.2.2) (by have:=h.after;omega) (by have:=h.after;omega),aLc,Qr,Qr]
   ·simp
   all_goals ((try simp only[aLi,aLh,aLj]);unfold LIM;omega)
 all_goals ((try simp only[aLi,aLh,aLj]);unfold LIM;omega)
end GL
end Go.Dx
set_option maxHeartbeats 2000000
namespace Go.Dx
namespace GL
structure okC (x:TCoin):Prop where
 tx:1<=x.1.1/\x.1.1<=60
 at_:0<=x.1.2/\x.1.2<=3
 val:1<=x.2.1.1/\x.2.1.1<=1000000
 rule:Zb x.2.1.2=0
 height:0<=x.2.2.1/\x.2.2.1<=999
theorem Qdy {l:List TCoin} (h:ZG l=0):l.length<=40/\∀x,x ∈ l->okC x:=by
 unfold ZG at h;by_cases U:(40:Int)<(l.length:Int)
 ·rw[if_pos U] at h;cases h
 ·rw[if_neg U] at h
  refine⟨by omega,fun x hx=>?_⟩
  obtain⟨i,hi,rfl⟩:=List.mem_iff_getElem.1 hx;have I:=J4 h i l[i] (aLf hi)
  unfold Qk4 at I;cases h1:mRef l[i].1 with
  | false=>rw[h1] at I;simp at I
  | true=>
   cases h2:mIn l[i].2.2.1 0 999 with
   | false=>rw[h2] at I;simp at I
   | true=>
    rw[h1,h2] at I;by_cases J:mOut l[i].2.1=0
    ·unfold mRef at h1
     rw[aLg,Qq,Qq] at h1;unfold mOut at J;cases h4:mIn l[i].2.1.1 1 1000000 with
     | false=>rw[h4] at J;simp at J
     | true=>
      rw[h4,if_pos rfl] at J;exact⟨h1.1,h1.2,Qq.1 h4,J,Qq.1 h2⟩
    ·simp[J] at I
end GL
end Go.Dx
set_option maxHeartbeats 2000000
namespace Go.Dx
namespace GL
def cuts (c:UInt8):List UInt8->List (List UInt8)
 | []=>[[]]
 | b::l=>if b=c then []::cuts c l else match cuts c l with | []=>[[b]] | w::ws=>(b::w)::ws
def glue (p:List UInt8):List (List UInt8)->List (List UInt8)
 | []=>[p]
 | w::ws=>(p++w)::ws
theorem QgN (c:UInt8):∀l,cuts c l ≠ []
 | []=>by simp[cuts]
 | b::l=>by
  unfold cuts;split
  ·simp
  ·split<;>simp
theorem QxO {ws:List (List UInt8)} (h:ws ≠ []):glue [] ws=ws:=by
 cases ws with
 | nil=>exact absurd rfl h
 | cons w ws=>rfl
theorem QcS (c b:UInt8) (l:List UInt8):cuts c (b::l)=if b=c then []::cuts c l else glue [b] (cuts c l):=by
 rw[cuts];split
 ·rfl
 ·split
  ·rename_i h;exact absurd h (QgN c l)
  ·rename_i h;rw[h];rfl
theorem QB7 (p q:List UInt8) {ws:List (List UInt8)} (h:ws ≠ []):glue p (glue q ws)=glue (p++q) ws:=by
 cases ws with
 | nil=>exact absurd rfl h
 | cons w ws=>simp[glue]
theorem Qa3 (c:UInt8):∀l,(cuts c l).length<=l.length+1
 | []=>by simp[cuts]
 | b::l=>by
  have:=Qa3 c l
  rw[QcS];split
  ·simp;omega
  ·cases h:cuts c l with
   | nil=>simp[glue]
   | cons w ws=>rw[h] at this;simp[glue] at this ⊢;omega
theorem QrJ (c:UInt8):∀l,Lib.split l [c]=cuts c l
 | []=>by
  unfold Lib.split;rw[Lib.count_one];rfl
 | b::l=>by
  have I:=QrJ c l
  unfold Lib.split at I ⊢;rw[QcS];by_cases hb:b=c
  ·subst hb
   rw[if_pos rfl,Lib.count_cons_eq,Nat.add_comm,Lib.splitK];have J:Lib.index (b::l) [b]=0:=by rw[Lib.index];simp[List.isPrefixOf]
   rw[J];simp[I]
  ·rw[if_neg hb,Lib.count_cons_ne b c l hb]
   have hp:([c]:List UInt8).isPrefixOf (b::l)=false:=by simp[List.isPrefixOf,Ne.symm hb]
   have J:Lib.index (b::l) [c]=if Lib.index l [c] == -1 then -1 else Lib.index l [c]+1:=by rw[Lib.index,hp];simp
   cases hk:Lib.count l [c] with
   | zero=>rw[hk] at I;rw[<-I];rfl
   | succ k=>
    rw[hk] at I;have hm:¬Lib.index l [c] = -1:=fun h=>by rw[Lib.count_miss h] at hk;cases hk
    have hge:=Lib.index_ge l [c]
    obtain⟨j,hj⟩:∃j:Nat,Lib.index l [c]=j:=⟨(Lib.index l [c]).toNat,by omega⟩
    have U:Lib.index (b::l) [c]=((j+1:Nat):Int):=by rw[J,if_neg (fun e=>hm (beq_iff_eq.1 e)),hj];omega
    rw[Lib.splitK,if_neg (fun e=>hm (beq_iff_eq.1 e)),hj] at I
    rw[Lib.splitK,if_neg (fun e=>by have:=beq_iff_eq.1 e;omega),U,<-I]
    simp[glue]
theorem QCX (l:List UInt8) (c:UInt8) (f:List (List UInt8)×Int×Int->Option ((List (List UInt8)×Int×Int)⊕List (List UInt8)))
  (hs:∀(i I:Nat) (h:i<l.length) (out:List (List UInt8)),I<=i->out.length<=i->f (out,(I:Int),(i:Int))=some (.inl (if l[i]=c then (out++[cut (I:Int) (i:Int) l],((i+1:Nat):Int),((i+1:Nat):Int)) else (out,(I:Int),((i+1:Nat):Int)))))
  (he:∀(I:Nat) (out:List (List UInt8)),I<=l.length->out.length<=l.length->Qd f (out,(I:Int),(l.length:Int))=some (out++[cut (I:Int) (l.length:Int) l])) :
  (Qd f ([],0,0)).bind (fun j=>some j)=some (cuts c l):=by
 have key:∀(k i I:Nat) (out:List (List UInt8)),i+k=l.length->I<=i->out.length<=i->Qd f (out,(I:Int),(i:Int))=some (out++glue ((l.drop I).take (i - I)) (cuts c (l.drop i))):=by
  intro k;induction k with
  | zero=>
   intro i I out hi J ho;obtain rfl:i=l.length:=by omega
   rw[he I out J ho,List.drop_length];simp[cuts,glue,cut]
  | succ k U=>
   intro i I out hi J ho;have h:i<l.length:=by omega
   rw[Ze (hs i I h out J ho),aLr h,QcS];by_cases hb:l[i]=c
   ·rw[if_pos hb,if_pos hb,U (i+1) (i+1) _ (by omega) (Nat.le_refl _) (by simp;omega),Nat.sub_self,List.take_zero,QxO (QgN _ _)]
    simp[glue,cut]
   ·rw[if_neg hb,if_neg hb,U (i+1) I _ (by omega) (by omega) (by omega),QB7 _ _ (QgN _ _)]
    have e:i+1 - I=(i - I)+1:=by omega
    have h2:i - I<(l.drop I).length:=by rw[aLz];omega
    rw[e,List.take_succ_eq_append_getElem h2];congr 3;simp only[List.getElem_drop];congr 2;simp only[show I+(i - I)=i by omega]
 have:=key l.length 0 0 [] (by omega) (Nat.le_refl _) (by simp)
 simp only[List.drop_zero,Nat.sub_zero,List.take_zero,aLx,QxO (QgN _ _)] at this;rw[show ((0:Nat):Int)=0 from rfl] at this
 rw[this];rfl
theorem J7 (l:List UInt8) (c:UInt8) (hl:l.length<LIM):Yq l (c.toNat:Int)=some (cuts c l):=by
 have hB:l.length<BIG:=by unfold LIM at hl;unfold BIG;omega
 unfold Yq;refine QCX l c _ (fun i I h out hf ho=>?_) (fun I out hf ho=>?_)
 ·have e1:decide ((i:Int)<=(l.length:Int))=true:=aLE (by omega)
  have J:decide ((i:Int)=(l.length:Int))=false:=aLD (by omega)
  have U:QC (I:Int) (i:Int) l=true:=by unfold QC;simp;omega
  have e4:decide (((l[i].toNat:Nat):Int)=(c.toNat:Int))=decide (l[i]=c):=by
   apply decide_eq_decide.2;constructor
   ·intro h;exact UInt8.toNat_inj.1 (by omega)
   ·intro h;rw[h]
  simp only[e1,J,aLB,aLC,Qf l i h,Qc l i _ h,e4,aLc,wsucc h hB];by_cases hb:l[i]=c
  ·rw[aLE hb,if_pos hb,aLB,U,aLB,aLE (p:=List.length out+_<=LIM) (by simp only[aLh,aLj];omega)]
   rfl
  ·rw[aLD hb,if_neg hb];rfl
 ·have e1:decide ((l.length:Int)<=(l.length:Int))=true:=by simp
  have J:decide ((l.length:Int)=(l.length:Int))=true:=by simp
  have U:QC (I:Int) (l.length:Int) l=true:=by unfold QC;simp;omega
  have e5:IntKind.wrap .i64 ((l.length:Int)+1)=((l.length+1:Nat):Int):=by rw[Qe (by omega) (by unfold BIG at hB;omega)];omega
  rw[Ze (s':=(out++[cut (I:Int) (l.length:Int) l],((l.length+1:Nat):Int),((l.length+1:Nat):Int))) (by
   simp only[e1,J,aLB,aLc,U,e5];rw[aLE (p:=List.length out+_<=LIM) (by simp only[aLh,aLj];omega)];rfl)]
  refine QM ?_;have e6:decide (((l.length+1:Nat):Int)<=(l.length:Int))=false:=aLD (by omega)
  simp only[e6,aLC]
end GL
end Go.Dx
set_option maxHeartbeats 2000000
namespace Go.Dx
namespace GL
theorem Qn4 (c:UInt8):∀(w:List UInt8),c ∉ w->cuts c w=[w]
 | [],_=>rfl
 | b::w,h=>by
  rw[List.mem_cons,not_or] at h;rw[QcS,if_neg (fun e=>h.1 e.symm),Qn4 c w h.2];rfl
theorem QuF (c:UInt8):∀(a b:List UInt8),cuts c (a++c::b)=cuts c a++cuts c b
 | [],b=>by rw[aLx,QcS,if_pos rfl];rfl
 | x::a,b=>by
  rw[List.cons_append,QcS,QcS,QuF c a b];split
  ·rfl
  ·cases h:cuts c a with
   | nil=>exact absurd h (QgN c a)
   | cons w ws=>rfl
theorem QeE (x y:List UInt8) (r:List (List UInt8)) (c:UInt8):Lib.join (x::y::r) [c]=x++c::Lib.join (y::r) [c]:=by
 rw[Lib.join_cons,Lib.join_cons];simp[Lib.joinTail]
theorem QaT (c:UInt8):∀(ws:List (List UInt8)),ws ≠ []->(∀w,w ∈ ws->c ∉ w)->cuts c (Lib.join ws [c])=ws
 | [],h,_=>absurd rfl h
 | [x],_,h=>by rw[Lib.join_one];exact Qn4 c x (h x aLm)
 | x::y::r,_,h=>by
  rw[QeE,QuF,Qn4 c x (h x aLm),QaT c (y::r) (by simp) fun w hw=>h w (aLp _ hw)];rfl
theorem Qnl (c:UInt8):∀(a b:List UInt8),c ∉ a->Lib.indexByte (a++c::b) c=(a.length:Int)
 | [],b,_=>by simp[Lib.indexByte]
 | x::a,b,h=>by
  rw[List.mem_cons,not_or] at h;have I:=Qnl c a b h.2
  have J:(x == c)=false:=by simpa using fun e:x=c=>h.1 e.symm
  rw[List.cons_append,Lib.indexByte,J,I];have:((a.length:Int) == -1)=false:=by simp
  rw[this];simp
theorem QzL (c:UInt8) (a b:List UInt8) (h:c ∉ a):Lib.cut (a++c::b) [c]=(a,b,true):=by
 unfold Lib.cut;rw[Lib.index_one,Qnl c a b h,if_pos (by omega)]
 simp
theorem QuC (M:Nat):∀(l r:List UInt8) (acc a:Nat),Lib.parseUintM M acc l=.ok a->Lib.parseUintM M acc (l++r)=Lib.parseUintM M a r
 | [],r,acc,a,h=>by
  simp only[Lib.parseUintM] at h;cases h;rfl
 | c::l,r,acc,a,h=>by
  rw[List.cons_append];unfold Lib.parseUintM at h
  conv=>lhs;unfold Lib.parseUintM
  split at h
  ·rename_i h1
   rw[if_pos h1];split at h
   ·cases h
   ·rename_i I
    rw[if_neg I];split at h
    ·cases h
    ·rename_i J
     rw[if_neg J];exact QuC M l r _ a h
  ·cases h
theorem Qpn (M acc d:Nat) (hd:d<10) (h1:acc<1844674407370955162) (I:acc * 10+d<=M):Lib.parseUintM M acc [UInt8.ofNat (48+d)]=.ok (acc * 10+d):=by
 have e:(UInt8.ofNat (48+d)).toNat=48+d:=by rw[UInt8.toNat_ofNat'];omega
 unfold Lib.parseUintM;rw[e,if_pos (by omega),if_neg (by omega),if_neg (by omega)]
 rw[show acc * 10+(48+d - 48)=acc * 10+d by omega]
 rfl
theorem QBm:∀(u:Nat),u<=9223372036854775807->Lib.parseUintM (2 ^ 64 - 1) 0 (Lib.decDigits u)=.ok u:=by
 intro u;induction u using Nat.strongRecOn with
 | ind u I=>
  intro hu;by_cases h:u<10
  ·rw[Lib.decDigits_one h,Qpn _ 0 u h (by omega) (by omega)]
   simp
  ·rw[Lib.decDigits,dif_neg h,QuC _ _ _ 0 (u / 10) (I (u / 10) (by omega) (by omega)),Qpn _ (u / 10) (u % 10) (by omega) (by omega) (by omega)]
   congr 1;omega
theorem Qp5:∀(u:Nat) (b:UInt8),b ∈ Lib.decDigits u->48<=b.toNat/\b.toNat<=57:=by
 intro u;induction u using Nat.strongRecOn with
 | ind u I=>
  intro b hb;have one:∀d:Nat,d<10->(UInt8.ofNat (48+d)).toNat=48+d:=fun d hd=>by
   rw[UInt8.toNat_ofNat'];omega
  by_cases h:u<10
  ·rw[Lib.decDigits_one h,aLs] at hb
   subst hb;rw[one u h];omega
  ·rw[Lib.decDigits,dif_neg h] at hb
   rcases List.mem_append.1 hb with hb | hb
   ·exact I (u / 10) (by omega) b hb
   ·rw[aLs] at hb
    subst hb;rw[one (u % 10) (by omega)];omega
theorem QAR {n:Int} (I:0<=n) (h1:n<=9223372036854775807):Lib.parseIntB 64 (Lib.itoa n)=.ok n:=by
 obtain⟨m,rfl⟩:=aLA I;rw[Qb4];have hp:=QBm m (by omega)
 have hb:=Qp5 m
 have hl:1<=(Lib.decDigits m).length:=by rw[Lib.decDigits_length];exact Lib.nDigits_pos m
 match hd:Lib.decDigits m with
 | []=>rw[hd] at hl;simp at hl
 | c::r=>
  rw[hd] at hp hb;have J:=hb c aLm
  unfold Lib.parseIntB;simp only;rw[if_neg (by omega)]
  unfold Lib.parseUintB;rw[if_neg (by simp),hp]
  simp only;rw[if_neg (by omega),if_neg (by omega),if_neg (by omega)]
theorem QcR {n:Int} (I:0<=n) (h1:n<10000000000):numS (Lib.itoa n)=n:=by
 unfold numS;rw[QAR I (by omega)]
 obtain⟨m,rfl⟩:=aLA I;have hl:(Lib.itoa (m:Int)).length<=10:=by
  rw[Qb4,Lib.decDigits_length];exact Qfh 10 m (by omega) (by decide)
 simp[hl]
end GL
end Go.Dx
set_option maxHeartbeats 2000000
namespace Go.Dx
namespace GL
abbrev TL:=List (List UInt8)×List (Int×Int)
theorem JR {α R:Type} (l:List α) (c:Nat->α->Int) (f:Int->Option (Int⊕(Unit⊕Int)))
  (hs:∀(i:Nat) (h:i<l.length),f (i:Int)=some (if c i l[i]=0 then .inl ((i+1:Nat):Int) else .inr (.inr (c i l[i])))) (he:f (l.length:Int)=some (.inr (.inl ()))) (A:Unit->Option R) (B:Int->Option R) :
  ((Qd f 0).bind fun j=>Sum.elim A B j)=if code c l=0 then A () else B (code c l):=by
 rw[QbD l (fun i a=>if c i a=0 then none else some (c i a)) f (fun i h=>by rw[hs i h];by_cases J:c i l[i]=0<;>simp[J]) he,Qdg]
 by_cases I:code c l=0
 ·rw[if_pos I]
  have U:=J4 I
  have:first (fun i a=>if c i a=0 then none else some (c i a)) 0 l=none:=(Qe3 l 0).2 (fun j a ha=>by rw[Nat.zero_add,if_pos (U j a ha)])
  rw[this]
 ·rw[if_neg I]
  unfold code at I ⊢;cases hf:first (fun i a=>if c i a=0 then none else some (c i a)) 0 l with
  | none=>rw[hf] at I;exact absurd rfl I
  | some r=>rfl
theorem QmW {α β γ:Type} (g:Nat->α->Option β) (h:β->γ):∀(l:List α) (i:Nat),first (fun i a=>(g i a).map h) i l=(first g i l).map h
 | [],_=>rfl
 | a::l,i=>by
  simp only[first]
  cases g i a with
  | none=>exact QmW g h l (i+1)
  | some r=>rfl
theorem Qnj (t:List UInt8):QdC t=some (mIn (t.length:Int) 1 300):=by unfold QdC;rw[Zk];rfl
theorem any_eq {α:Type} [DecidableEq α] (x:α) (l:List α):l.any (fun a=>decide (x=a))=decide (x ∈ l):=by
 rw[Bool.eq_iff_iff];simp
theorem any_eq' {α:Type} [DecidableEq α] (x:α) (l:List α):l.any (fun a=>decide (a=x))=decide (x ∈ l):=by
 rw[Bool.eq_iff_iff];simp
theorem QtM (l:List (List UInt8)) (hl:l.length<BIG) (x:List UInt8):ZV l x=some (decide (x ∈ l)):=by
 unfold ZV QL;rw[Qbb l (fun a=>decide (x=a)) _ (fun i h=>?_) (by simp only[dge,aLC]),aLc,ZA,any_eq]
 ·exact congrArg some (decide_eq_decide.2 Iff.rfl)
 ·simp only[dlt h,Qf l i h,Qc l i _ h,aLB,wsucc h hl]
  cases decide (x=l[i])<;>rfl
theorem Qk0 (l:List (Int×Int)) (hl:l.length<BIG) (x:Int×Int):Q0 l x=some (decide (x ∈ l)):=by
 unfold Q0 YB;rw[Qbb l (fun a=>decide (x=a)) _ (fun i h=>?_) (by simp only[dge,aLC]),aLc,ZA,any_eq]
 ·exact congrArg some (decide_eq_decide.2 Iff.rfl)
 ·simp only[dlt h,Qf l i h,Qc l i _ h,aLB,wsucc h hl,Qlj]
  cases decide (x=l[i])<;>rfl
theorem QhF (l:List (Int×Int)) (hl:l.length<BIG) (x:Int×Int):Qap l x=some (decide (x ∈ l)):=by
 unfold Qap;rw[QiF l (fun a=>decide (a=x)) _ (fun i h=>?_) (by simp only[dge,aLC]),any_eq']
 ·exact congrArg some (decide_eq_decide.2 Iff.rfl)
 ·simp only[dlt h,Qf l i h,Qc l i _ h,aLB,wsucc h hl,Qlj]
  cases decide (l[i]=x)<;>rfl
theorem QlG (l:List (List UInt8)) (hl:l.length<BIG) (x:List UInt8):QdO l x=some (idxF (fun a=>decide (a=x)) l+1):=by
 unfold QdO;rw[QbD l (fun i a=>(if decide (a=x)=true then some (i:Int) else none).map (· + 1)) _ (fun i h=>?_) (by simp only[dge,aLC]),QmW,Qdg]
 ·unfold idxF
  cases first (fun i a=>if decide (a=x)=true then some (i:Int) else none) 0 l<;>rfl
 ·simp only[dlt h,Qf l i h,Qc l i _ h,aLB,wsucc h hl]
  cases decide (l[i]=x)<;>rfl
theorem pos_at (l:List (List UInt8)) (x:List UInt8):decide (0<idxF (fun a=>decide (a=x)) l+1)=decide (x ∈ l):=by
 have h:=ZA (fun a=>decide (a=x)) l
 have I:(l.any fun a=>decide (a=x))=true↔x ∈ l:=by simp
 refine decide_eq_decide.2 ⟨fun J=>I.1 (by rw[<-h];simp;omega),fun J=>?_⟩
 have:=I.2 J
 rw[<-h] at this;have:=aLG this
 omega
def mTx (l:List (List UInt8)) (i:Nat) (s:List UInt8):Int:=if mIn (s.length:Int) 1 300 then (if s ∈ l.take i then 7 else 0) else 2
def mSg (n:Int) (l:List (Int×Int)) (i:Nat) (x:Int×Int):Int:=if mIn x.1 1 999&&mIn x.2 1 n then (if x ∈ l.take i then 7 else 0) else 3
def mLF (x:TL):Int:=if (decide ((60:Int)<(x.1.length:Int)) || decide ((120:Int)<(x.2.length:Int)))=true then 2 else if code (mTx x.1) x.1=0 then code (mSg (x.1.length:Int) x.2) x.2 else code (mTx x.1) x.1
theorem Qdf {α:Type} {l:List α} (hl:l.length<BIG) (i:Nat):(l.take i).length<BIG:=by rw[aLn];omega
theorem QbG (x:TL) (h1:x.1.length<BIG) (I:x.2.length<BIG):Yp x=some (mLF x):=by
 unfold Yp mLF;have e:∀(p q:Bool),(bif p then some true else some q:Option Bool)=some (p || q):=by intro p q;cases p<;>rfl
 rw[e,aLc];cases (decide ((60:Int)<(x.1.length:Int)) || decide ((120:Int)<(x.2.length:Int))) with
 | true=>rfl
 | false=>
  rw[aLC,if_neg (by simp),JR x.1 (mTx x.1) _ (fun i h=>?_) (by simp only[dge,aLC])]
  ·split
   ·refine QgR _ _ _ (fun i h=>?_) (by simp only[dge,aLC])
    simp only[dlt h,Qf x.2 i h,Qc x.2 i _ h,YZ x.2 i (Nat.le_of_lt h),Qbw,aLB,QcK,Zk,aLc,wsucc h I,Qk0 _ (Qdf I i)];unfold mSg;cases mIn x.2[i].1 1 999<;>cases mIn x.2[i].2 1 (x.1.length:Int)<;>by_cases hm:x.2[i] ∈ x.2.take i<;>simp[hm]
   ·rfl
  ·simp only[dlt h,Qf x.1 i h,Qc x.1 i _ h,YZ x.1 i (Nat.le_of_lt h),Qbw,aLB,Qnj,aLc,wsucc h h1,QtM _ (Qdf h1 i)]
   unfold mTx;cases mIn (x.1[i].length:Int) 1 300<;>by_cases hm:x.1[i] ∈ x.1.take i<;>simp[hm]
theorem Y1 (x:TL) (h1:x.1.length<BIG) (I:x.2.length<BIG):Y2 x=some (mLF x):=by
 unfold Y2 mLF;have e:∀(p q:Bool),(bif p then some true else some q:Option Bool)=some (p || q):=by intro p q;cases p<;>rfl
 rw[e,aLc];cases (decide ((60:Int)<(x.1.length:Int)) || decide ((120:Int)<(x.2.length:Int))) with
 | true=>rfl
 | false=>
  rw[aLC,if_neg (by simp),JR x.1 (mTx x.1) _ (fun i h=>?_) (by simp only[dge,aLC])]
  ·split
   ·refine QgR _ _ _ (fun i h=>?_) (by simp only[dge,aLC])
    simp only[dlt h,Qf x.2 i h,Qc x.2 i _ h,YZ x.2 i (Nat.le_of_lt h),Qbw,aLB,Qa8,Zf,aLc,wsucc h I,QhF _ (Qdf I i)];unfold mSg;cases mIn x.2[i].1 1 999<;>cases mIn x.2[i].2 1 (x.1.length:Int)<;>by_cases hm:x.2[i] ∈ x.2.take i<;>simp[hm]
   ·rfl
  ·simp only[dlt h,Qf x.1 i h,Qc x.1 i _ h,YZ x.1 i (Nat.le_of_lt h),Qbw,aLB,aLc,wsucc h h1,QlG _ (Qdf h1 i),pos_at]
   have J:∀(n:Int),(decide (n<1) || decide (300<n)) = !mIn n 1 300:=by
    intro n;unfold mIn;rw[Bool.eq_iff_iff];simp;try omega
   rw[e,J,aLc];unfold mTx;cases mIn (x.1[i].length:Int) 1 300<;>by_cases hm:x.1[i] ∈ x.1.take i<;>simp[hm]
theorem QjO {R:Type} (a:Option R):agree a a=a:=by unfold agree;simp
theorem QfW {α:Type} {l:List α} (h:l.length<=LIM):decide (List.length ([]:List α)+List.length l<=LIM)=true:=by simp;omega
end GL
end Go.Dx
set_option maxHeartbeats 2000000
namespace Go.Dx
namespace GL
def Y {α:Type} (o:Option α) (Q:α->Prop):Prop:=∃a,o=some a/\Q a
theorem Y.some {α:Type} {a:α} {Q:α->Prop} (h:Q a):Y (some a) Q:=⟨a,rfl,h⟩
theorem Y.bind {α β:Type} {o:Option α} {f:α->Option β} {Q:α->Prop} {R:β->Prop} (h:Y o Q) (k:∀a,Q a->Y (f a) R):Y (o.bind f) R:=by
 obtain⟨a,rfl,I⟩:=h;exact k a I
theorem Y.eqb {α β:Type} {o:Option α} {a:α} {f:α->Option β} {R:β->Prop} (h:o=Option.some a) (k:Y (f a) R):Y (o.bind f) R:=by
 subst h;exact k
theorem Y.mono {α:Type} {o:Option α} {Q R:α->Prop} (h:Y o Q) (k:∀a,Q a->R a):Y o R:=let ⟨a,h1,I⟩:=h;⟨a,h1,k a I⟩
theorem Y.bif {α:Type} {c:Bool} {a b:Option α} {Q:α->Prop} (h1:c=true->Y a Q) (I:c=false->Y b Q):Y (bif c then a else b) Q:=by
 cases c
 ·exact I rfl
 ·exact h1 rfl
theorem Y.grd {α:Type} {c:Bool} {a b:Option α} {Q:α->Prop} (h:c=true) (h1:Y a Q):Y (bif c then a else b) Q:=by rw[h];exact h1
theorem Y.loop {S X:Type} {f:S->Option (S⊕X)} {Q:X->Prop} (I:Nat->S->Prop) (hs:∀n s,I n s->Y (f s) (fun r=>match r with | .inl s'=>∃m,m<n/\I m s' | .inr x=>Q x)):∀n s,I n s->Y (Qd f s) Q:=by
 intro n;induction n using Nat.strongRecOn with
 | ind n ih=>
  intro s hi;obtain⟨r,h1,U⟩:=hs n s hi;cases r with
  | inl s'=>
   obtain⟨m,hm,J⟩:=U;obtain⟨x,h3,h4⟩:=ih m hm s' J;exact⟨x,QwY h1 h3,h4⟩
  | inr x=>exact⟨x,QM h1,U⟩
theorem ZC {α:Type} (l:List α) (a:α) (h:l.length<1000000):decide (List.length l+List.length [a]<=LIM)=true:=by
 simp only[aLh,aLj,aLF];unfold LIM;omega
theorem QP {α:Type} {l:List α} {i:Int} (I:0<=i) (h:i<(l.length:Int)):inB i l=true:=by
 simp[inB,I,h]
def dv (l:List UInt8):Nat:=l.foldl (fun a b=>a * 10+(b.toNat - 48)) 0
theorem QD9 (l:List UInt8) (b:UInt8):dv (l++[b])=dv l * 10+(b.toNat - 48):=by simp[dv]
theorem QEE:∀m:Nat,dv (Lib.decDigits m)=m:=by
 intro m;induction m using Nat.strongRecOn with
 | ind m I=>
  have one:∀d:Nat,d<10->(UInt8.ofNat (48+d)).toNat=48+d:=fun d hd=>by
   rw[UInt8.toNat_ofNat'];omega
  by_cases h:m<10
  ·rw[Lib.decDigits_one h]
   show 0 * 10+((UInt8.ofNat (48+m)).toNat - 48)=m
   rw[one m h];omega
  ·rw[Lib.decDigits,dif_neg h,QD9,I (m / 10) (by omega),one (m % 10) (by omega)];omega
theorem QCO:∀(m:Nat),1<=m->∀b r,Lib.decDigits m=b::r->b.toNat ≠ 48:=by
 intro m;induction m using Nat.strongRecOn with
 | ind m J=>
  intro hm b r h;by_cases I:m<10
  ·rw[Lib.decDigits_one I] at h
   simp only[List.cons.injEq] at h;rw[<-h.1,UInt8.toNat_ofNat'];omega
  ·rw[Lib.decDigits,dif_neg I] at h
   cases hd:Lib.decDigits (m / 10) with
   | nil=>
    have:=Lib.decDigits_length (m / 10)
    rw[hd] at this;have h2:=Lib.nDigits_pos (m / 10)
    simp at this;omega
   | cons c U=>
    rw[hd,List.cons_append] at h;simp only[List.cons.injEq] at h;rw[<-h.1];exact J (m / 10) (by omega) (by omega) c U hd
theorem Qdh (w:List UInt8) (n:Int) (hw:w.length<BIG):Y (Qu w n) (fun _=>True):=by
 unfold Qu;refine Y.bind (Q:=fun j=>True) ?_ (fun j _=>?_)
 ·refine Y.bif (fun _=>Y.some trivial) (fun h1=>Y.bif (fun _=>Y.some trivial) (fun h2=>Y.bif (fun _=>Y.grd (QP (by omega) ?_) (Y.some trivial)) (fun _=>Y.some trivial)))
  simp at h1;omega
 ·refine Y.bif (fun _=>Y.some trivial) (fun _=>?_)
  refine Y.bind (Q:=fun _=>True) ?_ (fun j _=>by cases j<;>exact Y.some trivial)
  refine Y.loop (fun n s=>∃i:Nat,s.2=(i:Int)/\i<=w.length/\n=w.length - i) (fun n s J=>?_) w.length (0,0) ⟨0,rfl,by omega,by omega⟩
  obtain⟨i,hi,hle,hn⟩:=J;obtain⟨v,U⟩:=s;have hi:U=(i:Int):=hi
  subst hi;refine Y.bif (fun h1=>?_) (fun _=>Y.some trivial)
  have I:i<w.length:=by simp at h1;omega
  have hb:=Qf w i I
  refine Y.bind (Q:=fun _=>True) (Y.grd hb (Y.bif (fun _=>Y.some trivial) (fun _=>Y.grd hb (Y.some trivial)))) (fun j _=>Y.bif (fun _=>Y.some trivial) (fun _=>Y.grd hb (Y.some ?_)))
  exact⟨w.length - (i+1),by omega,i+1,wsucc I hw,by omega,rfl⟩
theorem Qm2 {k:Int} (I:0<=k) (h1:k<=9999999) (n:Nat) (hn:(Lib.itoa k).length<=n):Qu (Lib.itoa k) (n:Int)=some (k,true):=by
 obtain⟨m,rfl⟩:=aLA I;rw[Qb4] at hn ⊢;have hb:=Qp5 m
 have J:=QEE m
 have hl:1<=(Lib.decDigits m).length:=by rw[Lib.decDigits_length];exact Lib.nDigits_pos m
 have h7:(Lib.decDigits m).length<=7:=by rw[Lib.decDigits_length];exact Qfh 7 m (by omega) (by decide)
 have U:1<(Lib.decDigits m).length->(List.getD (Lib.decDigits m) 0 0).toNat ≠ 48:=fun h=>by
  cases hd:Lib.decDigits m with
  | nil=>rw[hd] at h;simp at h
  | cons c r=>
   have hm1:1<=m:=by
    rcases Nat.eq_zero_or_pos m with I | I
    ·subst I
     rw[Lib.decDigits_one (by omega)] at h
     simp at h
    ·exact I
   exact QCO m hm1 c r hd
 generalize Lib.decDigits m=w at *;have hB:w.length<BIG:=by unfold BIG;omega
 unfold Qu;rw[aLD (p:=(w.length:Int)<1) (by omega),aLC,aLD (p:=(n:Int)<(w.length:Int)) (by omega),aLC,QP (i:=0) (l:=w) (by omega) (by omega),aLB]
 have e0:(bif decide (1<(w.length:Int)) then some (decide (((w.getD (Int.toNat 0) 0).toNat:Int)=48)) else some false)=some false:=by
  by_cases h:1<w.length
  ·rw[aLE (by omega),aLB,aLD]
   have:=U h
   show ¬(((w.getD 0 0).toNat:Nat):Int)=48
   omega
  ·rw[aLD (by omega),aLC]
 rw[e0,aLc,aLC];rw[show ((0:Int),(0:Int))=(((0:Nat):Int),(0:Int)) from rfl]
 rw[ZQ (σ:=Nat) w (fun v b=>v * 10+(b.toNat - 48)) (fun v i=>((v:Int),i)) (fun v=>Sum.inl (v:Int)) (fun v i=>v<10 ^ i) _ (fun i hi v hv=>by
   have hbi:=hb _ (aLl hi)
   have hp:10 ^ i<=10 ^ 6:=Nat.pow_le_pow_right (by omega) (by omega)
   have hp2:(10:Nat) ^ 6=1000000:=rfl
   refine⟨?_,?_⟩
   ·simp only[dlt hi,Qf w i hi,Qc w i _ hi,aLB,wsucc hi hB]
    rw[aLD (p:=((w[i].toNat:Nat):Int)<48) (by omega),aLC,aLD (p:=(57:Int)<((w[i].toNat:Nat):Int)) (by omega),aLc,aLC]
    have e1:IntKind.wrap .u8 (((w[i].toNat:Nat):Int) - 48)=((w[i].toNat - 48:Nat):Int):=by
     rw[show ((w[i].toNat:Nat):Int) - 48=((w[i].toNat - 48:Nat):Int) by omega]
     rw[show IntKind.wrap .u8 ((w[i].toNat - 48:Nat):Int)=((w[i].toNat - 48:Nat):Int) % 256 from by simp[IntKind.wrap,IntKind.bits,IntKind.signed]]
     omega
    rw[e1,Qe (n:=(v:Int) * 10) (by omega) (by omega),Qe (n:=((w[i].toNat - 48:Nat):Int)) (by omega) (by omega),Qe (by omega) (by omega)]
    congr 3
   ·rw[Nat.pow_succ];omega) (fun v hv=>by simp only[dge,aLC]) 0 (by simp)]
 show some (((dv w:Nat):Int),true)=_
 rw[J]
theorem QbR (w:List UInt8) (h:w.length<=1000000):Zq w=some (numS w):=by
 unfold Zq numO;rw[Nat.ble_eq.mpr h];rfl
theorem Qmn (s:List UInt8) (c:UInt8) (h:s.length<=1000000):YL s [c]=some (cuts c s):=by
 unfold YL;rw[QCb (by simp) (by omega),QrJ]
theorem QcQ (c:UInt8):∀(l:List UInt8) (w:List UInt8),w ∈ cuts c l->w.length<=l.length
 | [],w,h=>by simp[cuts] at h;subst h;simp
 | b::l,w,h=>by
  rw[QcS] at h;split at h
  ·rcases List.mem_cons.1 h with rfl | h
   ·simp
   ·have:=QcQ c l w h;simp;omega
  ·have I:=QcQ c l
   cases J:cuts c l with
   | nil=>exact absurd J (QgN c l)
   | cons a r=>
    rw[J] at h I;simp only[glue] at h;rcases List.mem_cons.1 h with rfl | h
    ·have:=I a aLm;simp;omega
    ·have:=I w (aLp _ h);simp;omega
theorem Jt (c:UInt8) (l:List UInt8) (i:Nat):(List.getD (cuts c l) i []).length<=l.length:=by
 rw[aLk];cases h:(cuts c l)[i]? with
 | none=>simp
 | some w=>exact QcQ c l w (List.mem_of_getElem? h)
theorem Quw (s:List UInt8) (c:UInt8) (h:s.length<=100000):QaW s [c]=some ((cuts c s).map numS):=by
 unfold QaW;have hlen:=Qa3 c s
 rw[Qmn s c (by omega),aLc]
 rw[ZQ (σ:=List Int) (cuts c s) (fun acc a=>acc++[numS a]) (fun t i=>(t,i)) (fun t=>t) (fun t i=>t.length=i) _ (fun i hi t ht=>by
   refine⟨?_,by simp[ht]⟩
   have hw:=QcQ c s _ (aLl hi)
   simp only[dlt hi,Qf _ i hi,Qc _ i _ hi,aLB,QbR _ (show ((cuts c s)[i]).length<=1000000 by omega),aLc,wsucc hi (by unfold BIG;omega)]
   rw[Qr (by simp only[aLh,aLj];unfold LIM;omega)];rfl) (fun t ht=>by simp only[dge,aLC]) [] rfl,aLc,foldl_map,aLx]
end GL
end Go.Dx
set_option maxHeartbeats 2000000
namespace Go.Dx
namespace GL
theorem QBv {n:Int} (I:0<=n) {b:UInt8} (hb:b ∈ Lib.itoa n):48<=b.toNat/\b.toNat<=57:=by
 obtain⟨m,rfl⟩:=aLA I;rw[Qb4] at hb;exact Qp5 m b hb
theorem YA {n:Int} (I:0<=n) (c:UInt8) (J:c.toNat<48\/57<c.toNat):c ∉ Lib.itoa n:=fun h=>by
 have:=QBv I h;omega
theorem ZI (x:List UInt8) (r:List (List UInt8)) (c:UInt8) (I:r ≠ []):Lib.join (x::r) [c]=x++c::Lib.join r [c]:=by
 cases r with
 | nil=>exact absurd rfl I
 | cons y r=>exact QeE x y r c
theorem QDY (l:List Int) (h:∀k,k ∈ l->0<=k) (c:UInt8) (hc:c.toNat<48\/57<c.toNat) (I:c ≠ 44):c ∉ ZL l [44]:=by
 unfold ZL;induction l with
 | nil=>simp[Lib.join_nil]
 | cons a l J=>
  have U:=YA (h a aLm) c hc
  have J:=J fun k hk=>h k (aLp _ hk)
  cases l with
  | nil=>rw[List.map_cons,List.map_nil,Lib.join_one];exact U
  | cons b l=>
   rw[List.map_cons,ZI _ _ _ (by simp),List.mem_append,List.mem_cons]
   rintro (h1 | h1 | h1)
   ·exact U h1
   ·exact I h1
   ·exact J h1
theorem Qud (l:List Int) (hl:l ≠ []) (h:∀k,k ∈ l->0<=k):cuts 44 (ZL l [44])=l.map Lib.itoa:=by
 unfold ZL;refine QaT 44 _ (by simpa using hl) fun w hw=>?_
 obtain⟨k,hk,rfl⟩:=List.mem_map.1 hw;exact YA (h k hk) 44 (by decide)
def QhC (r:TRu):List (List UInt8):=[Lib.itoa r.2.1,[111,102],ZL r.1 [44]]++(if r.2.2=0 then [] else [[97,102,116,101,114],Lib.itoa r.2.2])
structure Blank (b:UInt8):Prop where
 d:b.toNat<48\/57<b.toNat
 c:b ≠ 44
 o:b ≠ 111/\b ≠ 102/\b ≠ 97/\b ≠ 116/\b ≠ 101/\b ≠ 114
theorem QgJ:Blank 32:=⟨by decide,by decide,by decide⟩
theorem QzP:Blank 95:=⟨by decide,by decide,by decide⟩
theorem Qqy {r:TRu} (h:okR r) {b:UInt8} (hb:Blank b):∀w,w ∈ QhC r->b ∉ w:=by
 have I:b ∉ ([111,102]:List UInt8):=by
  have:=hb.o
  simp[this.1,this.2.1]
 have J:b ∉ ([97,102,116,101,114]:List UInt8):=by
  have:=hb.o
  simp[this]
 have h1:=YA (n:=r.2.1) (by have:=h.need;omega) b hb.d
 have U:=YA (n:=r.2.2) (by have:=h.after;omega) b hb.d
 have h3:=QDY r.1 (fun k hk=>by have:=h.keys k hk;omega) b hb.d hb.c
 intro w hw;unfold QhC at hw;split at hw<;>simp only[List.append_nil,List.cons_append,aLx,List.mem_cons,List.not_mem_nil,or_false] at hw
 ·rcases hw with rfl | rfl | rfl<;>assumption
 ·rcases hw with rfl | rfl | rfl | rfl | rfl<;>assumption
theorem QjN (r:TRu) (b:UInt8):Lib.join (QhC r) [b]=Qs r [b]:=by
 unfold QhC Qs;split
 ·rw[List.append_nil,ZI _ _ _ (by simp),ZI _ _ _ (by simp),Lib.join_one];simp
 ·simp only[List.cons_append,aLx]
  rw[ZI _ _ _ (by simp),ZI _ _ _ (by simp),ZI _ _ _ (by simp),ZI _ _ _ (by simp),Lib.join_one];simp
theorem QAh {r:TRu} (h:okR r) {b:UInt8} (hb:Blank b):cuts b (Qs r [b])=QhC r:=by
 rw[<-QjN];exact QaT b _ (by unfold QhC;simp) (Qqy h hb)
theorem Qq7 {r:TRu} (h:okR r) {b c:UInt8} (J:Blank c) (I:c ≠ b):c ∉ Qs r [b]:=by
 rw[<-QjN];have hw:=Qqy h J
 have:∀ws:List (List UInt8),(∀w,w ∈ ws->c ∉ w)->c ∉ Lib.join ws [b]:=by
  intro ws;induction ws with
  | nil=>intro _;simp[Lib.join_nil]
  | cons x ws U=>
   intro h;cases ws with
   | nil=>rw[Lib.join_one];exact h x aLm
   | cons y ws=>
    rw[ZI _ _ _ (by simp),List.mem_append,List.mem_cons]
    rintro (h1 | h1 | h1)
    ·exact h x aLm h1
    ·exact I h1
    ·exact U (fun w hw=>h w (aLp _ hw)) h1
 exact this _ hw
def swp (a b:UInt8) (l:List UInt8):List UInt8:=l.map fun c=>if c=a then b else c
theorem Qxw (l:List UInt8) (a b:UInt8) (h:l.length<=1000000):Qau l (a.toNat:Int) (b.toNat:Int)=some (swp a b l):=by
 unfold Qau swpS;rw[Nat.ble_eq.mpr h,aLE (by have:=b.toNat_lt;omega)]
 show some _=_
 congr 1;unfold swp;refine List.map_congr_left fun c _=>?_
 by_cases I:c=a
 ·subst I
  rw[if_pos rfl,if_pos rfl];apply UInt8.toNat_inj.1;rw[UInt8.toNat_ofNat'];have:=b.toNat_lt
  omega
 ·rw[if_neg I,if_neg fun h=>I (UInt8.toNat_inj.1 (by omega))]
theorem QxU {a b:UInt8} {l:List UInt8} (h:a ∉ l):swp a b l=l:=by
 unfold swp;have:∀c,c ∈ l->(if c=a then b else c)=id c:=fun c I=>if_neg (fun e:c=a=>h (e ▸ I))
 rw[List.map_congr_left this,List.map_id]
theorem Qw5 {a b:UInt8}:∀ws:List (List UInt8),(∀w,w ∈ ws->a ∉ w)->swp a b (Lib.join ws [a])=Lib.join ws [b]
 | [],_=>by simp[Lib.join_nil,swp]
 | [x],h=>by rw[Lib.join_one,Lib.join_one];exact QxU (h x aLm)
 | x::y::r,h=>by
  rw[QeE,QeE];have h1:=QxU (b:=b) (h x aLm)
  have I:=Qw5 (b:=b) (y::r) fun w hw=>h w (aLp _ hw)
  unfold swp at h1 I ⊢;rw[List.map_append,List.map_cons,h1,I,if_pos rfl]
theorem QwE {r:TRu} (h:okR r) {a b:UInt8} (I:Blank a):swp a b (Qs r [a])=Qs r [b]:=by
 rw[<-QjN,<-QjN];exact Qw5 _ (Qqy h I)
def Qwo (s:List UInt8) (b:UInt8) (x:TRu×Bool):Prop:=x.1.1.length<=s.length+1/\∀I,Zb I=0->Qs I [b]=s->x=(I,true)
theorem Qev {r:TRu} (h:Zb r=0) (b:UInt8):(Qs r [b]).length<=120:=Qph (Y0 h) [b] (by simp)
theorem JV {I:TRu} (J:Zb I=0) {s:List UInt8} {b:UInt8} (hb:Blank b) (hs:Qs I [b]=s):cuts b s=QhC I:=by
 rw[<-hs];exact QAh (Y0 J) hb
theorem QgU (r:TRu):(QhC r).length=if r.2.2=0 then 3 else 5:=by
 unfold QhC;split<;>rfl
theorem QAm (s:List UInt8) (b:UInt8) (hb:Blank b) (hs:s.length<=100000):Y (QdZ s [b]) (Qwo s b):=by
 have hlen:=Qa3 b s
 have hin:∀i:Nat,i<(cuts b s).length->inB (i:Int) (cuts b s)=true:=fun i h=>Qf _ i h
 unfold QdZ;refine Y.eqb (Qmn s b (by omega)) ?_
 have hno:(∀I,Zb I=0->Qs I [b]=s->False)->Qwo s b (([],(0,0)),false):=fun h=>⟨by simp,fun I h1 J=>(h I h1 J).elim⟩
 have hn:∀i:Nat,(List.getD (cuts b s) i []).length<=s.length:=Jt b s
 refine Y.bind (Q:=fun j=>(j=false->((cuts b s).length=3\/(cuts b s).length=5))/\(j=true->∀I,Zb I=0->Qs I [b]=s->False)) ?_ (fun j hj=>?_)
 ·refine Y.bif (fun h1=>Y.some ⟨(fun h=>by cases h),fun _ I J U=>?_⟩) (fun _=>Y.bif (fun h1=>Y.some ⟨(fun h=>?_),(fun h I J U=>?_)⟩) (fun h1=>Y.some ⟨(fun _=>.inl ?_),(fun h=>by cases h)⟩))
  ·have:=Qev J b;rw[U] at this;simp at h1;omega
  ·right;simp at h;omega
  ·have hw:=JV J hb U
   have hl:=QgU I
   rw[<-hw] at hl;simp at h h1;split at hl<;>omega
  ·simp at h1;omega
 ·obtain⟨hj1,hj2⟩:=hj
  refine Y.bif (fun h=>Y.some (hno (hj2 h))) (fun h=>?_)
  have h35:=hj1 h
  refine Y.grd (hin 0 (by omega)) (Y.eqb (QbR _ (by have:=hn 0;show (List.getD (cuts b s) 0 []).length<=_;omega)) (Y.grd (hin 2 (by omega)) (Y.eqb (Quw _ 44 (by have:=hn 2;show (List.getD (cuts b s) 2 []).length<=_;omega)) ?_)))
  have hk:=Qa3 44 (List.getD (cuts b s) 2 [])
  have hk2:=hn 2
  refine Y.bind (Q:=fun (x:TRu)=>x.1.length<=s.length+1/\∀I,Zb I=0->Qs I [b]=s->x=I) ?_ (fun x hx=>?_)
  ·have comp:∀I,Zb I=0->Qs I [b]=s->numS (List.getD (cuts b s) (Int.toNat 0) [])=I.2.1/\(cuts 44 (List.getD (cuts b s) (Int.toNat 2) [])).map numS=I.1:=fun I J U=>by
    have ho:=Y0 J
    rw[JV J hb U];refine⟨?_,?_⟩
    ·show numS (Lib.itoa I.2.1)=_
     exact QcR (by have:=ho.need;omega) (by have:=ho.need;omega)
    ·show (cuts 44 (ZL I.1 [44])).map numS=_
     rw[Qud I.1 (fun e=>by have:=ho.len;rw[e] at this;simp at this) (fun k hk=>by have:=ho.keys k hk;omega),List.map_map]
     have hid:∀k,k ∈ I.1->(numS ∘ Lib.itoa) k=id k:=fun k hk=>QcR (by have:=ho.keys k hk;omega) (by have:=ho.keys k hk;omega)
     rw[List.map_congr_left hid,List.map_id]
   refine Y.bif (fun h5=>?_) (fun h5=>?_)
   ·have h5:(cuts b s).length=5:=by simp at h5;omega
    refine Y.grd (hin 4 (by omega)) (Y.eqb (QbR _ (by have:=hn 4;show (List.getD (cuts b s) 4 []).length<=_;omega)) (Y.some ⟨by show (List.map numS _).length<=_;rw[List.length_map];show (cuts 44 (List.getD (cuts b s) 2 [])).length<=_;omega,fun I J U=>?_⟩))
    obtain⟨c1,c2⟩:=comp I J U;have hw:=JV J hb U
    have hl:=QgU I
    rw[<-hw,h5] at hl;have ha:I.2.2 ≠ 0:=fun e=>by rw[if_pos e] at hl;omega
    have ho:=Y0 J
    rw[c1,c2];show (I.1,I.2.1,numS (List.getD (cuts b s) 4 []))=I
    rw[hw];unfold QhC;rw[if_neg ha];show (I.1,I.2.1,numS (Lib.itoa I.2.2))=I
    rw[QcR (by have:=ho.after;omega) (by have:=ho.after;omega)]
   ·have U:(cuts b s).length=3:=by simp at h5;omega
    refine Y.some ⟨by show (List.map numS _).length<=_;rw[List.length_map];show (cuts 44 (List.getD (cuts b s) 2 [])).length<=_;omega,fun I J h4=>?_⟩
    obtain⟨c1,c2⟩:=comp I J h4;have hl:=QgU I
    rw[<-JV J hb h4,U] at hl;have ha:I.2.2=0:=by
     by_cases e:I.2.2=0
     ·exact e
     ·rw[if_neg e] at hl;omega
    rw[c1,c2,<-ha]
  ·obtain⟨hx1,hx2⟩:=hx
   refine Y.bind (Q:=fun j=>j=true->∀I,Zb I=0->Qs I [b]=s->False) ?_ (fun j hj=>?_)
   ·refine Y.eqb (QgH x (by unfold BIG;omega)) ?_
    refine Y.bif (fun h1=>Y.some (fun _ I J U=>?_)) (fun h1=>?_)
    ·rw[hx2 I J U] at h1;simp[J] at h1
    ·have h0:Zb x=0:=by simpa using h1
     refine Y.eqb (QkS (Y0 h0) [b] (by simp)) (Y.some (fun h I J U=>?_))
     rw[hx2 I J U] at h;simp[U] at h
   ·refine Y.bif (fun h=>Y.some (hno (hj h))) (fun h=>Y.some ⟨hx1,fun I J U=>by rw[hx2 I J U]⟩)
theorem QBL (s:List UInt8) (hs:s.length<=100000):Y (Qfv s) (Qwo s 32):=by
 have hlen:=Qa3 32 s
 have hin:∀i:Nat,i<(cuts 32 s).length->inB (i:Int) (cuts 32 s)=true:=fun i h=>Qf _ i h
 have hn:∀i:Nat,(List.getD (cuts 32 s) i []).length<=s.length:=Jt 32 s
 have hno:(∀I,Zb I=0->Qs I [32]=s->False)->Qwo s 32 (([],(0,0)),false):=fun h=>⟨by simp,fun I h1 J=>(h I h1 J).elim⟩
 have yn:∀(i:Nat) (n:Nat),Y (Qu (List.getD (cuts 32 s) i []) (n:Int)) (fun r=>∀k,0<=k->k<=9999999->List.getD (cuts 32 s) i []=Lib.itoa k->(Lib.itoa k).length<=n->r=(k,true)):=fun i n=>by
  obtain⟨r,h1,_⟩:=Qdh (List.getD (cuts 32 s) i []) (n:Int) (by have:=hn i;unfold BIG;omega)
  refine⟨r,h1,fun k h0 h9 hk hl=>?_⟩
  rw[hk,Qm2 h0 h9 n hl] at h1;exact (Option.some.inj h1).symm
 have il:∀(k:Int) (n:Nat),0<=k->k<10 ^ n->1<=n->(Lib.itoa k).length<=n:=fun k n h0 h1 hn=>by
  obtain⟨m,rfl⟩:=aLA h0;rw[Qb4,Lib.decDigits_length];refine Qfh n m ?_ hn;have:((10:Int) ^ n)=(((10:Nat) ^ n:Nat):Int):=by norm_cast
  omega
 unfold Qfv;refine Y.eqb (J7 s 32 (by unfold LIM;omega)) ?_
 refine Y.bind (Q:=fun j=>(j=false->((cuts 32 s).length=3\/(cuts 32 s).length=5))/\(j=true->∀I,Zb I=0->Qs I [32]=s->False)) ?_ (fun j hj=>?_)
 ·have word:∀I,Zb I=0->Qs I [32]=s->(!decide (List.getD (cuts 32 s) (Int.toNat 1) []=[111,102]))=false:=fun I J U=>by
   rw[JV J QgJ U];show (!decide (([111,102]:List UInt8)=[111,102]))=false
   rfl
  refine Y.bif (fun h1=>Y.bif (fun J=>Y.some ⟨(fun h=>by cases h),(fun _ I U h4=>?_)⟩) (fun J=>Y.grd (hin 1 ?_) (Y.some ⟨(fun _=>.inr ?_),(fun h I U h4=>?_)⟩))) (fun h1=>Y.grd (hin 1 ?_) (Y.some ⟨(fun _=>.inl ?_),(fun h I U h4=>?_)⟩))
  ·have hl:=QgU I
   rw[<-JV U QgJ h4] at hl;simp at h1 J;split at hl<;>omega
  ·simp at J;omega
  ·simp at J;omega
  ·rw[word I U h4] at h;cases h
  ·simp at h1;omega
  ·simp at h1;omega
  ·rw[word I U h4] at h;cases h
 ·obtain⟨hj1,hj2⟩:=hj
  refine Y.bif (fun h=>Y.some (hno (hj2 h))) (fun h=>?_)
  have h35:=hj1 h
  refine Y.grd (hin 0 (by omega)) (Y.bind (yn 0 1) (fun a ha=>Y.grd (hin 2 (by omega)) (Y.eqb (J7 _ 44 (by have:=hn 2;show (List.getD (cuts 32 s) 2 []).length<_;unfold LIM;omega)) ?_)))
  have hk:=Qa3 44 (List.getD (cuts 32 s) 2 [])
  have hk2:=hn 2
  obtain⟨ks,hks⟩:∃ks,ks=cuts 44 (List.getD (cuts 32 s) (Int.toNat 2) []):=⟨_,rfl⟩;have hks':ks=cuts 44 (List.getD (cuts 32 s) 2 []):=hks
  rw[<-hks];rw[<-hks'] at hk;have hcm:∀I,Zb I=0->Qs I [32]=s->ks=I.1.map Lib.itoa:=fun I J U=>by
   have ho:=Y0 J
   rw[hks',JV J QgJ U];exact Qud I.1 (fun e=>by have:=ho.len;rw[e] at this;simp at this) (fun k hk=>by have:=ho.keys k hk;omega)
  have hca:∀I,Zb I=0->Qs I [32]=s->a=(I.2.1,true):=fun I J U=>by
   have ho:=Y0 J
   refine ha I.2.1 (by have:=ho.need;omega) (by have:=ho.need;omega) (by rw[JV J QgJ U];rfl) (il _ 1 (by have:=ho.need;omega) (by have:=ho.need;omega) (by omega))
  refine Y.bind (Q:=fun (x:Bool×TRu)=>x.2.1.length<=s.length+1/\∀I,Zb I=0->Qs I [32]=s->x=(true,I.1,I.2.1,0)) ?_ (fun x hx=>?_)
  ·refine Y.loop (fun n (st:Bool×Int×List Int×Int×Int)=>∃i:Nat,st.2.1=(i:Int)/\i<=ks.length/\n=ks.length - i/\st.2.2.1.length=i/\∀I,Zb I=0->Qs I [32]=s->st.1=true/\st.2.2=(I.1.take i,I.2.1,0)) (fun n st hI=>?_) ks.length _ ⟨0,rfl,by omega,by omega,rfl,fun I J U=>by rw[hca I J U];exact⟨rfl,by simp⟩⟩
   obtain⟨i,hi,hle,hnn,hac,hcomp⟩:=hI;obtain⟨ok,i',acc,nd,af⟩:=st;have hi:i'=(i:Int):=hi
   subst hi;have hac:acc.length=i:=hac
   refine Y.bif (fun h1=>?_) (fun h1=>Y.some ⟨by show acc.length<=_;omega,fun I J U=>?_⟩)
   ·have hlt:i<ks.length:=by simp at h1;omega
    have hwl:(ks[i]).length<=s.length:=by
     have:ks[i] ∈ cuts 44 (List.getD (cuts 32 s) 2 []):=hks' ▸ aLl hlt
     have:=QcQ 44 _ _ this;omega
    have hg:List.getD ks (Int.toNat (i:Int)) []=ks[i]:=Qc ks i _ hlt
    refine Y.grd (Qf _ i hlt) ?_;have yk:Y (Qu (List.getD ks (Int.toNat (i:Int)) []) 3) (fun y=>∀I,Zb I=0->Qs I [32]=s->∃hr:i<I.1.length,y=(I.1[i],true)):=by
     obtain⟨y,h4,_⟩:=Qdh (List.getD ks (Int.toNat (i:Int)) []) 3 (by rw[hg];unfold BIG;omega)
     refine⟨y,h4,fun I J U=>?_⟩
     have hm:=hcm I J U
     have hr:i<I.1.length:=by rw[hm] at hlt;simpa using hlt
     have ho:=(Y0 J).keys _ (aLl hr)
     have e:ks[i]=Lib.itoa I.1[i]:=by rw[List.getElem_of_eq hm hlt];simp
     rw[hg,e] at h4;have:=Qm2 (k:=I.1[i]) (by omega) (by omega) 3 (il _ 3 (by omega) (by omega) (by omega))
     have h4':Qu (Lib.itoa I.1[i]) ((3:Nat):Int)=some y:=h4
     rw[this] at h4';exact⟨hr,(Option.some.inj h4').symm⟩
    refine Y.bind yk (fun y hy=>?_)
    refine Y.bind (Q:=fun j=>∀I,Zb I=0->Qs I [32]=s->j=true) ?_ (fun j hj=>?_)
    ·refine Y.bif (fun h5=>Y.some (fun I J U=>by obtain⟨_,e⟩:=hy I J U;rw[e])) (fun h5=>Y.some (fun I J U=>?_))
     have:=(hcomp I J U).1
     rw[this] at h5;cases h5
    ·refine Y.grd (ZC _ _ (by show acc.length<_;omega)) (Y.some ?_)
     refine⟨ks.length - (i+1),by omega,i+1,wsucc hlt (by unfold BIG;omega),by omega,rfl,by show (List.append acc [y.1]).length=_;simp[hac],fun I J U=>⟨hj I J U,?_⟩⟩
     obtain⟨hr,e⟩:=hy I J U;have hc2:=(hcomp I J U).2
     simp only[aLe] at hc2;show (List.append acc [y.1],nd,af)=_
     rw[e,hc2.1,hc2.2.1,hc2.2.2,List.take_add_one,aLf hr];rfl
   ·have hge:i=ks.length:=by simp at h1;omega
    obtain⟨c1,c2⟩:=hcomp I J U;have hkl:ks.length=I.1.length:=by rw[hcm I J U];simp
    show (ok,acc,nd,af)=_
    have c1:ok=true:=c1
    have c2:(acc,nd,af)=(I.1.take i,I.2.1,0):=c2
    rw[c1,c2,hge,hkl,List.take_length]
  ·obtain⟨hx1,hx2⟩:=hx
   refine Y.bind (Q:=fun (z:Bool×TRu)=>z.2.1.length<=s.length+1/\∀I,Zb I=0->Qs I [32]=s->z=(true,I)) ?_ (fun z hz=>?_)
   ·refine Y.bif (fun h5=>?_) (fun h5=>?_)
    ·have h5:(cuts 32 s).length=5:=by simp at h5;omega
     refine Y.grd (hin 4 (by omega)) (Y.bind (yn 4 3) (fun y hy=>?_))
     have wd:∀I,Zb I=0->Qs I [32]=s->I.2.2 ≠ 0/\cuts 32 s=[Lib.itoa I.2.1,[111,102],ZL I.1 [44],[97,102,116,101,114],Lib.itoa I.2.2]:=fun I J U=>by
      have hw:=JV J QgJ U
      have hl:=QgU I
      rw[<-hw,h5] at hl;have hne:I.2.2 ≠ 0:=fun e=>by rw[if_pos e] at hl;omega
      refine⟨hne,?_⟩;rw[hw];unfold QhC;rw[if_neg hne];rfl
     have hya:∀I,Zb I=0->Qs I [32]=s->y=(I.2.2,true):=fun I J U=>by
      have ho:=(Y0 J).after
      exact hy I.2.2 (by omega) (by omega) (by rw[(wd I J U).2];rfl) (il _ 3 (by omega) (by omega) (by omega))
     refine Y.bind (Q:=fun j=>∀I,Zb I=0->Qs I [32]=s->j=true) ?_ (fun j hj=>Y.some ⟨hx1,fun I J U=>by rw[hj I J U,hx2 I J U,hya I J U]⟩)
     refine Y.bif (fun _=>Y.bif (fun _=>Y.grd (hin 3 (by omega)) (Y.bif (fun _=>Y.some (fun I J U=>?_)) (fun h6=>Y.some (fun I J U=>?_)))) (fun h6=>Y.some (fun I J U=>?_))) (fun h6=>Y.some (fun I J U=>?_))
     ·have ho:=(Y0 J).after
      have:=(wd I J U).1
      rw[hya I J U];simp;omega
     ·rw[(wd I J U).2] at h6
      simp at h6
     ·rw[hya I J U] at h6;cases h6
     ·rw[hx2 I J U] at h6;cases h6
    ·have h3':(cuts 32 s).length=3:=by simp at h5;omega
     refine Y.some ⟨hx1,fun I J U=>?_⟩
     have hl:=QgU I
     rw[<-JV J QgJ U,h3'] at hl;have hz:I.2.2=0:=by
      by_cases e:I.2.2=0
      ·exact e
      ·rw[if_neg e] at hl;omega
     rw[hx2 I J U,<-hz]
   ·obtain⟨hz1,hz2⟩:=hz
    refine Y.bind (Q:=fun (u:Bool×TRu)=>u.2.1.length<=s.length+1/\∀I,Zb I=0->Qs I [32]=s->u=(true,I)) ?_ (fun u hu=>Y.some ⟨hu.1,fun I J U=>by rw[hu.2 I J U]⟩)
    refine Y.bif (fun _=>Y.eqb (QiG z.2 (by unfold BIG;omega)) (Y.some ⟨hz1,fun I J U=>by rw[hz2 I J U];simp[J]⟩)) (fun h6=>Y.some ⟨hz1,fun I J U=>?_⟩)
    rw[hz2 I J U] at h6;cases h6
end GL
end Go.Dx
set_option maxHeartbeats 2000000
namespace Go.Dx
namespace GL
abbrev TX:=Int×Int×List (Int×Int)×List TOut
theorem Qfa (l:List (Int×Int)) (hl:l.length<BIG) (x:Int×Int):Qt l x=some (decide (x ∈ l)):=by
 unfold Qt YN;rw[Qbb l (fun a=>decide (x=a)) _ (fun i h=>?_) (by simp only[dge,aLC]),aLc,ZA,any_eq]
 ·exact congrArg some (decide_eq_decide.2 Iff.rfl)
 ·simp only[dlt h,Qf l i h,Qc l i _ h,aLB,wsucc h hl,Qlj]
  cases decide (x=l[i])<;>rfl
theorem Yy (l:List (Int×Int)) (hl:l.length<BIG) (x:Int×Int):Zt l x=some (decide (x ∈ l)):=by
 unfold Zt;rw[QiF l (fun a=>decide (a=x)) _ (fun i h=>?_) (by simp only[dge,aLC]),any_eq']
 ·exact congrArg some (decide_eq_decide.2 Iff.rfl)
 ·simp only[dlt h,Qf l i h,Qc l i _ h,aLB,wsucc h hl,Qlj]
  cases decide (l[i]=x)<;>rfl
def mRf (l:List (Int×Int)) (i:Nat) (r:Int×Int):Int:=if mRef r then (if r ∈ l.take i then 7 else 0) else 3
def mTxO (t:TX):Int:=if code (fun _ o=>mOut o) t.2.2.2=0 then (if t.1=1/\(List.getD t.2.2.2 0 (0,([],(0,0)))).1<100 then 8 else 0) else code (fun _ o=>mOut o) t.2.2.2
def mTxF (t:TX):Int:=if mIn t.1 0 2&&(decide (t.1=0) == decide (t.2.1=0)) then (if decide (t.1=0) || mIn t.2.1 1 999 then (if mIn (t.2.2.1.length:Int) 1 4&&mIn (t.2.2.2.length:Int) 1 4 then (if code (mRf t.2.2.1) t.2.2.1=0 then mTxO t else code (mRf t.2.2.1) t.2.2.1) else 2) else 3) else 1
structure bT (t:TX):Prop where
 ins:t.2.2.1.length<BIG
 outs:t.2.2.2.length<BIG
 keys:∀o,o ∈ t.2.2.2->o.2.1.length<BIG
theorem Qk6 (o:TOut) (hl:o.2.1.length<BIG):Je o=some (mOut o):=by
 unfold Je mOut;rw[Zk,aLc,QgH _ hl];cases mIn o.1 1 1000000<;>rfl
theorem QwQ (n:Int):QaD n=some (!mIn n 1 4):=by
 unfold QaD;have I:(decide (n<1) || decide (4<n)) = !mIn n 1 4:=by
  unfold mIn;rw[Bool.eq_iff_iff];simp;try omega
 rw[<-I];cases decide (n<1)<;>rfl
theorem QzY (t:TX) (h:0<t.2.2.2.length):((bif decide (t.1=1) then bif inB 0 t.2.2.2 then some (decide ((List.getD t.2.2.2 (Int.toNat 0) (0,([],(0,0)))).1<100)) else none else some false:Option Bool).bind fun j=>bif j then some (8:Int) else some 0)=some (if t.1=1/\(List.getD t.2.2.2 0 (0,([],(0,0)))).1<100 then 8 else 0):=by
 by_cases h1:t.1=1
 ·rw[aLE h1,aLB,QP (by omega) (by omega),aLB,aLc]
  show (bif decide ((List.getD t.2.2.2 0 (0,([],(0,0)))).1<100) then some (8:Int) else some 0)=_
  by_cases I:(List.getD t.2.2.2 0 (0,([],(0,0)))).1<100
  ·rw[aLE I,if_pos ⟨h1,I⟩];rfl
  ·rw[aLD I,if_neg (fun h=>I h.2)];rfl
 ·rw[aLD h1,if_neg (fun h=>h1 h.1)];rfl
theorem Qnc (t:TX) (hb:bT t) (h:0<t.2.2.2.length):Qf3 t=some (mTxO t):=by
 unfold Qf3 mTxO;rw[JR t.2.2.2 (fun _ o=>mOut o) _ (fun i h=>?_) (by simp only[dge,aLC]),QzY t h]
 ·split<;>rfl
 ·have hk:=hb.keys _ (aLl h)
  simp only[dlt h,Qf _ i h,Qc _ i _ h,aLB,Zf,QiG _ hk,aLc,wsucc h hb.outs];unfold mOut;cases mIn t.2.2.2[i].1 1 1000000
  ·rfl
  ·by_cases I:Zb t.2.2.2[i].2=0
   ·rw[aLE I];simp[I]
   ·rw[aLD I];simp[I]
theorem Qfm (t:TX) (hb:bT t):JG t=some (mTxF t):=by
 unfold JG mTxF;simp only[Zf,Qa8,aLc,beqB];cases h1:mIn t.1 0 2
 ·rfl
 ·simp only[Bool.not_true,aLC,aLc,Bool.true_and]
  by_cases I:decide (t.1=0)=decide (t.2.1=0)
  ·rw[aLE I,beq_iff_eq.2 I,if_pos rfl]
   simp only[Bool.not_true,aLC];by_cases U:t.1=0;all_goals skip
   ·rw[aLE U]
    simp only[Bool.not_true,aLC,aLc,Bool.true_or,if_true];cases h4:mIn (t.2.2.1.length:Int) 1 4<;>cases J:mIn (t.2.2.2.length:Int) 1 4<;>try rfl
    simp only[Bool.not_true,aLC,aLc,Bool.true_and,if_true];rw[Qq] at J;rw[JR t.2.2.1 (mRf t.2.2.1) _ (fun i h=>?_) (by simp only[dge,aLC]),Qnc t hb (by omega)]
    ·split<;>rfl
    ·simp only[dlt h,Qf _ i h,Qc _ i _ h,YZ _ i (Nat.le_of_lt h),Qbw,aLB,Qhp,aLc,wsucc h hb.ins,Yy _ (Qdf hb.ins i)]
     unfold mRf;cases mRef t.2.2.1[i]<;>by_cases hm:t.2.2.1[i] ∈ t.2.2.1.take i<;>simp[hm]
   ·rw[aLD U]
    simp only[Bool.not_false,aLB,aLc,Bool.false_or];cases h6:mIn t.2.1 1 999<;>try rfl
    simp only[Bool.not_true,aLC,aLc,if_true];cases h4:mIn (t.2.2.1.length:Int) 1 4<;>cases J:mIn (t.2.2.2.length:Int) 1 4<;>try rfl
    simp only[Bool.not_true,aLC,aLc,Bool.true_and,if_true];rw[Qq] at J;rw[JR t.2.2.1 (mRf t.2.2.1) _ (fun i h=>?_) (by simp only[dge,aLC]),Qnc t hb (by omega)]
    ·split<;>rfl
    ·simp only[dlt h,Qf _ i h,Qc _ i _ h,YZ _ i (Nat.le_of_lt h),Qbw,aLB,Qhp,aLc,wsucc h hb.ins,Yy _ (Qdf hb.ins i)]
     unfold mRf;cases mRef t.2.2.1[i]<;>by_cases hm:t.2.2.1[i] ∈ t.2.2.1.take i<;>simp[hm]
  ·rw[aLD I,beq_eq_false_iff_ne.2 I]
   rfl
theorem Qil (t:TX) (hb:bT t):QaZ t=some (mTxF t):=by
 unfold QaZ mTxF;simp only[Zk,QcK,QwQ,aLc,beqB];cases h1:mIn t.1 0 2
 ·rfl
 ·simp only[Bool.not_true,aLC,aLc,Bool.true_and]
  by_cases h2:decide (t.1=0)=decide (t.2.1=0)
  ·have h20:decide (t.2.1=0)=decide (t.1=0):=h2.symm
   rw[aLE h2,beq_iff_eq.2 h2,if_pos rfl,h20];simp only[Bool.not_true,aLC];have rest:∀(hx:(decide (t.1=0) || mIn t.2.1 1 999)=true),((bif !mIn (t.2.2.1.length:Int) 1 4 then some true else (some (!mIn (t.2.2.2.length:Int) 1 4):Option Bool).bind fun y39=>some y39).bind fun j40=>bif j40 then some 2 else
     (Qd (S:=Int) (X:=(Unit)⊕(Int)) (fun (J:Int)=>
 bif (decide ((J:Int)<(List.length t.2.2.1:Int))) then
 bif (inB J t.2.2.1) then
 (Qbe (List.getD t.2.2.1 (Int.toNat J) (0,0))).bind fun (y46:Bool)=>
 bif (!y46) then
 some (Sum.inr (Sum.inr 3))
 else
 bif (QC 0 J t.2.2.1) then
 (Qt (cut 0 J t.2.2.1) (List.getD t.2.2.1 (Int.toNat J) (0,0))).bind fun (y47:Bool)=>
 bif y47 then
 some (Sum.inr (Sum.inr 7))
 else
 some (Sum.inl (IntKind.wrap .i64 (J+1)))
 else none
 else none
 else
 some (Sum.inr (Sum.inl ()))) 0).bind fun (j48:(Unit)⊕(Int))=>
 Sum.elim (fun (j49:Unit)=>
 (Qd (S:=Int) (X:=(Unit)⊕(Int)) (fun (I:Int)=>
 bif (decide ((I:Int)<(List.length t.2.2.2:Int))) then
 bif (inB I t.2.2.2) then
 (Je (List.getD t.2.2.2 (Int.toNat I) (0,([],(0,0))))).bind fun (U:Int)=>
 bif (!decide ((U:Int)=0)) then
 some (Sum.inr (Sum.inr U))
 else
 some (Sum.inl (IntKind.wrap .i64 (I+1)))
 else none
 else
 some (Sum.inr (Sum.inl ()))) 0).bind fun (j55:(Unit)⊕(Int))=>
 Sum.elim (fun (j56:Unit)=>
 (bif (decide ((t.1:Int)=1)) then
 bif (inB 0 t.2.2.2) then
 some (decide (((List.getD t.2.2.2 (Int.toNat 0) (0,([],(0,0)))).1:Int)<100))
 else none
 else
 some false:Option (Bool)).bind fun (j58:Bool)=>
 bif j58 then
 some 8
 else
 some 0) (fun (j57:Int)=>
 some j57) j55) (fun (j50:Int)=>
 some j50) j48:Option Int)=some (if mIn (t.2.2.1.length:Int) 1 4&&mIn (t.2.2.2.length:Int) 1 4 then (if code (mRf t.2.2.1) t.2.2.1=0 then mTxO t else code (mRf t.2.2.1) t.2.2.1) else 2):=fun hx=>by
    cases h4:mIn (t.2.2.1.length:Int) 1 4<;>cases h5:mIn (t.2.2.2.length:Int) 1 4<;>try rfl
    simp only[Bool.not_true,aLC,aLc,Bool.true_and,if_true];rw[Qq] at h5;rw[JR t.2.2.1 (mRf t.2.2.1) _ (fun i h=>?_) (by simp only[dge,aLC])]
    ·have ho:(Qd (S:=Int) (X:=(Unit)⊕(Int)) (fun (I:Int)=>
 bif (decide ((I:Int)<(List.length t.2.2.2:Int))) then
 bif (inB I t.2.2.2) then
 (Je (List.getD t.2.2.2 (Int.toNat I) (0,([],(0,0))))).bind fun (U:Int)=>
 bif (!decide ((U:Int)=0)) then
 some (Sum.inr (Sum.inr U))
 else
 some (Sum.inl (IntKind.wrap .i64 (I+1)))
 else none
 else
 some (Sum.inr (Sum.inl ()))) 0).bind (fun (j55:(Unit)⊕(Int))=>
 Sum.elim (fun (j56:Unit)=>
 (bif (decide ((t.1:Int)=1)) then
 bif (inB 0 t.2.2.2) then
 some (decide (((List.getD t.2.2.2 (Int.toNat 0) (0,([],(0,0)))).1:Int)<100))
 else none
 else
 some false:Option (Bool)).bind fun (j58:Bool)=>
 bif j58 then
 some 8
 else
 some 0) (fun (j57:Int)=>
 some j57) j55)=some (mTxO t):=by
      unfold mTxO;rw[JR t.2.2.2 (fun _ o=>mOut o) _ (fun i h=>?_) (by simp only[dge,aLC]),QzY t (by omega)]
      ·split<;>rfl
      ·have hk:=hb.keys _ (aLl h)
       simp only[dlt h,Qf _ i h,Qc _ i _ h,aLB,Qk6 _ hk,aLc,wsucc h hb.outs];by_cases h3:mOut t.2.2.2[i]=0
       ·rw[aLE h3];simp[h3]
       ·rw[aLD h3];simp[h3]
     rw[ho];split<;>rfl
    ·simp only[dlt h,Qf _ i h,Qc _ i _ h,YZ _ i (Nat.le_of_lt h),Qbw,aLB,Qj7,aLc,wsucc h hb.ins,Qfa _ (Qdf hb.ins i)]
     unfold mRf;cases mRef t.2.2.1[i]<;>by_cases hm:t.2.2.1[i] ∈ t.2.2.1.take i<;>simp[hm]
   cases h3:decide (t.1=0) with
   | true=>
    simp only[Bool.not_true,aLC,aLc,Bool.true_or,if_true];exact rest (by rw[h3];rfl)
   | false=>
    simp only[Bool.not_false,aLB,aLc,Bool.false_or];cases h6:mIn t.2.1 1 999
    ·rfl
    ·simp only[Bool.not_true,aLC,aLc,if_true]
     exact rest (by rw[h3,h6];rfl)
  ·rw[aLD h2,beq_eq_false_iff_ne.2 h2]
   rfl
end GL
end Go.Dx
set_option maxHeartbeats 2000000
namespace Go.Dx
namespace GL
structure okT (t:TX):Prop where
 kind:0<=t.1/\t.1<=2
 mem:(t.1=0/\t.2.1=0)\/(t.1 ≠ 0/\1<=t.2.1/\t.2.1<=999)
 li:1<=t.2.2.1.length/\t.2.2.1.length<=4
 lo:1<=t.2.2.2.length/\t.2.2.2.length<=4
 ref:∀r,r ∈ t.2.2.1->mRef r=true
 nd:t.2.2.1.Nodup
 out:∀o,o ∈ t.2.2.2->(1<=o.1/\o.1<=1000000)/\Zb o.2=0
theorem Qb7 {r:Int×Int}:mRef r=true↔(1<=r.1/\r.1<=60)/\(0<=r.2/\r.2<=3):=by
 unfold mRef;rw[aLg,Qq,Qq]
theorem QC1 {α:Type} [DecidableEq α] (l:List α) (h:∀i (hi:i<l.length),l[i] ∉ l.take i):l.Nodup:=by
 rw[List.nodup_iff_pairwise_ne,List.pairwise_iff_getElem];intro i j hi I J he;refine h j I ?_;rw[List.mem_take_iff_getElem];exact⟨i,by omega,he⟩
theorem ZS {t:TX} (h:mTxF t=0):okT t:=by
 unfold mTxF at h;cases h1:mIn t.1 0 2&&(decide (t.1=0) == decide (t.2.1=0)) with
 | false=>rw[h1] at h;simp at h
 | true=>
  rw[h1,if_pos rfl] at h;cases U:(decide (t.1=0) || mIn t.2.1 1 999) with
  | false=>rw[U] at h;simp at h
  | true=>
   rw[U,if_pos rfl] at h;cases h3:(mIn (t.2.2.1.length:Int) 1 4&&mIn (t.2.2.2.length:Int) 1 4) with
   | false=>rw[h3] at h;simp at h
   | true=>
    rw[h3,if_pos rfl] at h;by_cases h4:code (mRf t.2.2.1) t.2.2.1=0
    ·rw[if_pos h4] at h
     unfold mTxO at h;by_cases h5:code (fun _ o=>mOut o) t.2.2.2=0
     ·rw[aLg,Qq,beq_iff_eq] at h1
      rw[aLg,Qq,Qq] at h3;have hr:∀i (hi:i<t.2.2.1.length),mRef t.2.2.1[i]=true/\t.2.2.1[i] ∉ t.2.2.1.take i:=fun i hi=>by
       have I:=J4 h4 i _ (aLf hi)
       unfold mRf at I;cases J:mRef t.2.2.1[i] with
       | false=>rw[J] at I;simp at I
       | true=>
        rw[J,if_pos rfl] at I;exact⟨rfl,fun hm=>by rw[if_pos hm] at I;cases I⟩
      refine⟨h1.1,?_,by omega,by omega,fun r hr'=>?_,QC1 _ fun i hi=>(hr i hi).2,fun o ho=>?_⟩
      ·by_cases h0:t.1=0
       ·left
        have:=h1.2
        rw[aLE h0] at this;exact⟨h0,aLG this.symm⟩
       ·right
        rw[aLD h0,Bool.false_or,Qq] at U;exact⟨h0,U⟩
      ·obtain⟨i,hi,rfl⟩:=List.mem_iff_getElem.1 hr'
       exact (hr i hi).1
      ·obtain⟨i,hi,rfl⟩:=List.mem_iff_getElem.1 ho
       have I:=J4 h5 i _ (aLf hi)
       unfold mOut at I;cases J:mIn t.2.2.2[i].1 1 1000000 with
       | false=>rw[J] at I;simp at I
       | true=>
        rw[J,if_pos rfl] at I;exact⟨Qq.1 J,I⟩
     ·rw[if_neg h5] at h;exact absurd h h5
    ·rw[if_neg h4] at h;exact absurd h h4
theorem okT.b {t:TX} (h:okT t):bT t:=by
 have I:BIG=4611686018427387904:=rfl
 refine⟨by have:=h.li;omega,by have:=h.lo;omega,fun o ho=>?_⟩
 have:=(Y0 (h.out o ho).2).len
 omega
def kw (k:Int):List UInt8:=if k=0 then [112,97,121] else if k=1 then [106,111,105,110] else [108,101,97,118,101]
def wRef (r:Int×Int):List UInt8:=Lib.itoa r.1++[58]++Lib.itoa r.2
def wOut (o:TOut):List UInt8:=Lib.itoa o.1++[61]++Qs o.2 [95]
def wTx (t:TX):List (List UInt8):=[kw t.1]++(if t.1=0 then [] else [Lib.itoa t.2.1])++[Lib.join (t.2.2.1.map wRef) [43]]++t.2.2.2.map wOut
def Qo (t:TX):List UInt8:=Lib.join (wTx t) [32]
theorem QlE (c:UInt8) (B:Nat):∀ws:List (List UInt8),(∀w,w ∈ ws->w.length<=B)->(Lib.join ws [c]).length<=(B+1) * ws.length
 | [],_=>by simp[Lib.join_nil]
 | [x],h=>by rw[Lib.join_one];have:=h x aLm;simp;omega
 | x::y::r,h=>by
  have h1:=h x aLm
  have I:=QlE c B (y::r) fun w hw=>h w (aLp _ hw)
  rw[QeE,aLi,aLh];have e:(B+1) * (x::y::r).length=(B+1) * (y::r).length+(B+1):=by rw[aLh,Nat.mul_succ]
  omega
theorem Qxo {r:Int×Int} (h:mRef r=true):(wRef r).length<=40:=by
 rw[Qb7] at h;have h1:=Q4 (n:=r.1) (by omega) (by omega)
 have I:=Q4 (n:=r.2) (by omega) (by omega)
 unfold wRef;simp only[aLi,aLh,aLj];omega
theorem Qx5 {o:TOut} (h:(1<=o.1/\o.1<=1000000)/\Zb o.2=0):(wOut o).length<=140:=by
 have h1:=Q4 (n:=o.1) (by omega) (by omega)
 have I:=Qev h.2 95
 unfold wOut;simp only[aLi,aLh,aLj];omega
theorem Qp4 {t:TX} (h:okT t):(Lib.join (t.2.2.1.map wRef) [43]).length<=164:=by
 have:=QlE 43 40 (t.2.2.1.map wRef) fun w hw=>by
  obtain⟨r,I,rfl⟩:=List.mem_map.1 hw;exact Qxo (h.ref r I)
 rw[List.length_map] at this;have:=h.li
 omega
theorem QBR (k:Int):(kw k).length<=5:=by
 unfold kw;split
 ·simp
 ·split<;>simp
theorem Qsj {t:TX} (h:okT t):(∀w,w ∈ wTx t->w.length<=164)/\(wTx t).length<=7:=by
 refine⟨fun w hw=>?_,?_⟩
 ·unfold wTx at hw
  simp only[List.mem_append,aLs] at hw;rcases hw with ((rfl | hw) | rfl) | hw
  ·have:=QBR t.1;omega
  ·split at hw
   ·simp at hw
   ·rw[aLs] at hw;subst hw
    have:=h.mem
    have:=Q4 (n:=t.2.1) (by omega) (by omega)
    omega
  ·exact Qp4 h
  ·obtain⟨o,ho,rfl⟩:=List.mem_map.1 hw
   have:=Qx5 (h.out o ho);omega
 ·unfold wTx
  have:=h.lo
  split<;>simp<;>omega
theorem QBf {t:TX} (h:okT t):(Qo t).length<=1155:=by
 have:=QlE 32 164 (wTx t) (Qsj h).1
 have:=(Qsj h).2
 unfold Qo;omega
theorem Qnn {t:TX} (h:okT t):Qdn t=some (if (Qo t).length<=300 then (Qo t,0) else ([],2)):=by
 have hk:=h.kind
 have hm:=h.mem
 have hli:=h.li
 have hlo:=h.lo
 have hB:BIG=4611686018427387904:=rfl
 have hL:LIM=1073741824:=rfl
 have hrl:=Qp4 h
 have U:=QBf h
 unfold Qdn Qa9;rw[aLc,QP (by omega) (by show t.1<((3:Nat):Int);omega),aLB]
 have hkw:List.getD ([[112,97,121],[106,111,105,110],[108,101,97,118,101]]:List (List UInt8)) (Int.toNat t.1) []=kw t.1:=by
  have:t.1=0\/t.1=1\/t.1=2:=by omega
  rcases this with e | e | e<;>rw[e]<;>rfl
 simp only[hkw];have e1:(bif !decide (t.1=0) then (Jl t.2.1).bind fun (I:List UInt8)=>bif decide (List.length ([kw t.1]:List (List UInt8))+List.length ([I]:List (List UInt8))<=LIM) then some (List.append ([kw t.1]:List (List UInt8)) ([I]:List (List UInt8))) else none else some ([kw t.1]:List (List UInt8)))=some ([kw t.1]++(if t.1=0 then [] else [Lib.itoa t.2.1])):=by
  by_cases J:t.1=0
  ·rw[aLE J,if_pos J];rfl
  ·rw[aLD J,if_neg J,Qc8 (by omega) (by omega),aLc,Qr (by simp;omega)];rfl
 rw[e1,aLc];rw[ZQ (σ:=List (List UInt8)) t.2.2.1 (fun acc a=>acc++[wRef a]) (fun t i=>(t,i)) (fun t=>t) (fun t i=>t.length=i) _ (fun i hi x hx=>by
   have hr:=Qb7.1 (h.ref _ (aLl hi))
   have l1:=Q4 (n:=t.2.2.1[i].1) (by omega) (by omega)
   have l2:=Q4 (n:=t.2.2.1[i].2) (by omega) (by omega)
   refine⟨?_,by simp[hx]⟩
   simp only[dlt hi,Qf _ i hi,Qc _ i _ hi,aLB,Qc8 (n:=t.2.2.1[i].1) (by omega) (by omega),Qc8 (n:=t.2.2.1[i].2) (by omega) (by omega),aLc,wsucc hi (by omega),aLo]
   rw[Qr,Qr,Qr]
   ·rfl
   all_goals ((try simp only[aLi,aLh,aLj]);omega)) (fun t ht=>by simp only[dge,aLC]) [] rfl,aLc,foldl_map,aLx]
 have hj1:Yu (t.2.2.1.map wRef) [43]=some (Lib.join (t.2.2.1.map wRef) [43]):=by
  unfold Yu;exact Qqa _ _ (by rw[List.length_map];omega) (by omega)
 rw[hj1,aLc,Qr (by split<;>simp<;>omega)]
 rw[ZQ (σ:=List (List UInt8)) t.2.2.2 (fun acc a=>acc++[wOut a]) (fun t i=>(t,i)) (fun t=>t) (fun t i=>t.length<=3+i) _ (fun i hi x hx=>by
   have ho:=h.out _ (aLl hi)
   have l1:=Q4 (n:=t.2.2.2[i].1) (by omega) (by omega)
   have l2:=Qev ho.2 95
   refine⟨?_,by simp;omega⟩
   simp only[dlt hi,Qf _ i hi,Qc _ i _ hi,aLB,Qc8 (n:=t.2.2.2[i].1) (by omega) (by omega),QkS (Y0 ho.2) [95] (by simp),aLc,wsucc hi (by omega),aLo]
   rw[Qr,Qr,Qr]
   ·rfl
   all_goals ((try simp only[aLi,aLh,aLj]);omega)) (fun t ht=>by simp only[dge,aLC]) _ (by split<;>simp),aLc,foldl_map]
 have hw:List.append ([kw t.1]++(if t.1=0 then [] else [Lib.itoa t.2.1])) [Lib.join (t.2.2.1.map wRef) [43]]++t.2.2.2.map wOut=wTx t:=rfl
 rw[hw];have hj2:Yu (wTx t) [32]=some (Qo t):=by
  unfold Yu;have:=(Qsj h).2
  exact Qqa _ _ (by omega) (by unfold Qo at U;omega)
 rw[hj2,aLc];by_cases hlen:(Qo t).length<=300
 ·rw[aLD (by omega),if_pos hlen];rfl
 ·rw[aLE (by omega),if_neg hlen];rfl
theorem Qou (x:List UInt8) (ws:List (List UInt8)) (c:UInt8):Lib.join (x::ws) [c]=x++(ws.map fun w=>c::w).flatten:=by
 rw[Lib.join_cons,Lib.joinTail];rfl
theorem Quz {α:Type} (l:List α) (g:α->List UInt8) (f:List UInt8×Int->Option ((List UInt8×Int)⊕List UInt8)) (B:Nat->Nat) (j:Nat)
  (hs:∀(i:Nat) (h:i<l.length) (acc:List UInt8),j<=i->acc.length<=B i->f (acc,(i:Int))=some (.inl (acc++g l[i],((i+1:Nat):Int)))/\(acc++g l[i]).length<=B (i+1))
  (he:∀acc,f (acc,(l.length:Int))=some (.inr acc)):∀(k i:Nat) (acc:List UInt8),i+k=l.length->j<=i->acc.length<=B i->Qd f (acc,(i:Int))=some (acc++((l.drop i).map g).flatten)
 | 0,i,acc,hi,_,_=>by
  obtain rfl:i=l.length:=by omega
  rw[QM (he acc)];simp
 | k+1,i,acc,hi,U,ha=>by
  have h1:i<l.length:=by omega
  obtain⟨I,J⟩:=hs i h1 acc U ha;rw[Ze I,Quz l g f B j hs he k (i+1) _ (by omega) (by omega) J,aLr h1,List.map_cons,List.flatten_cons,List.append_assoc]
theorem QCm (l:List (Int×Int)) (f:List UInt8×Int->Option ((List UInt8×Int)⊕List UInt8)) (acc:List UInt8) (ha:acc.length<=100) (hl:1<=l.length/\l.length<=4) (hb:∀r,r ∈ l->(wRef r).length<=40)
  (hs:∀(i:Nat) (h:i<l.length) (acc:List UInt8),acc.length<=10000->f (acc,(i:Int))=some (.inl (acc++((if i=0 then 32 else 43)::wRef l[i]),((i+1:Nat):Int))))
  (he:∀acc,f (acc,(l.length:Int))=some (.inr acc)):Qd f (acc,0)=some (acc++32::Lib.join (l.map wRef) [43]):=by
 cases l with
 | nil=>simp at hl
 | cons r l=>
  have I:=hs 0 (by simp) acc (by omega)
  rw[if_pos rfl] at I;have I:f (acc,0)=some (.inl (acc++32::wRef r,((1:Nat):Int))):=I
  have hr:=hb r aLm
  rw[Ze I,Quz (r::l) (fun a=>43::wRef a) f (fun i=>200+50 * i) 1 (fun i hi a hj J=>by
   have U:=hs i hi a (by simp at hi hl;omega)
   rw[if_neg (by omega)] at U
   have:=hb _ (aLl hi)
   exact⟨U,by rw[aLi,aLh];omega⟩) he l.length 1 _ (by simp;omega) (by omega) (by rw[aLi,aLh];omega)]
  rw[List.map_cons,Qou,List.map_map];simp[Function.comp_def]
theorem QnD {t:TX} (h:okT t):YS t=some (Qo t):=by
 have hk:=h.kind
 have hm:=h.mem
 have hli:=h.li
 have hlo:=h.lo
 have hB:BIG=4611686018427387904:=rfl
 have hL:LIM=1073741824:=rfl
 have hrl:=Qp4 h
 unfold YS;rw[QP (by omega) (by show t.1<((3:Nat):Int);omega),aLB]
 obtain⟨hd,U⟩:∃hd,hd=if t.1=0 then kw t.1 else kw t.1++32::Lib.itoa t.2.1:=⟨_,rfl⟩
 have hdl:hd.length<=100:=by
  have h1:=QBR t.1
  rw[U];split
  ·omega
  ·have:=Q4 (n:=t.2.1) (by omega) (by omega)
   rw[aLi,aLh];omega
 have e1:(bif !decide (t.1=0) then (QA t.2.1).bind fun (y26:List UInt8)=>
   bif decide (List.length (List.getD ([[112,97,121],[106,111,105,110,32],[108,101,97,118,101,32]]:List (List UInt8)) (Int.toNat t.1) [])+List.length y26<=LIM) then
   some (List.append (List.getD ([[112,97,121],[106,111,105,110,32],[108,101,97,118,101,32]]:List (List UInt8)) (Int.toNat t.1) []) y26)
   else none
   else some (List.getD ([[112,97,121],[106,111,105,110,32],[108,101,97,118,101,32]]:List (List UInt8)) (Int.toNat t.1) []))=some hd:=by
  rw[U];have:t.1=0\/t.1=1\/t.1=2:=by omega
  rcases this with e | e | e
  ·rw[e];rfl
  all_goals
   rw[Yd (by omega) (by omega),aLc,if_neg (by omega),aLD (by omega),Bool.not_false,aLB]
   have:=Q4 (n:=t.2.1) (by omega) (by omega)
   rw[e,Qr (by simp;omega)]
   simp[kw]
 rw[e1,aLc];rw[QCm t.2.2.1 _ hd hdl hli (fun r hr=>Qxo (h.ref r hr)) (fun i hi acc ha=>by
   have hr:=Qb7.1 (h.ref _ (aLl hi))
   have l1:=Q4 (n:=t.2.2.1[i].1) (by omega) (by omega)
   have l2:=Q4 (n:=t.2.2.1[i].2) (by omega) (by omega)
   simp only[dlt hi,Qf _ i hi,Qc _ i _ hi,aLB,Yd (n:=t.2.2.1[i].1) (by omega) (by omega),Yd (n:=t.2.2.1[i].2) (by omega) (by omega),aLc,wsucc hi (by omega),aLo]
   have es:(bif decide ((i:Int)=0) then some [32] else some [43]:Option (List UInt8))=some [if i=0 then 32 else 43]:=by
    by_cases h0:i=0
    ·rw[if_pos h0,aLE (by omega)];rfl
    ·rw[if_neg h0,aLD (by omega)];rfl
   rw[es,aLc,Qr,Qr,Qr,Qr]
   ·unfold wRef;simp
   all_goals ((try simp only[aLi,aLh,aLj]);omega)) (fun acc=>by simp only[dge,aLC]),aLc]
 have:=QpP t.2.2.2 (fun o=>32::wOut o) (fun (I:List UInt8×Int)=>
 bif (decide ((I.2:Int)<(List.length t.2.2.2:Int))) then
 bif decide (List.length I.1+List.length [32]<=LIM) then
 bif (inB I.2 t.2.2.2) then
 (QA (List.getD t.2.2.2 (Int.toNat I.2) (0,([],(0,0)))).1).bind fun (J:List UInt8)=>
 bif decide (List.length (List.append I.1 [32])+List.length J<=LIM) then
 bif decide (List.length (List.append (List.append I.1 [32]) J)+List.length [61]<=LIM) then
 bif (inB I.2 t.2.2.2) then
 (Qdp (List.getD t.2.2.2 (Int.toNat I.2) (0,([],(0,0)))).2).bind fun (y46:List UInt8)=>
 (Qau y46 32 95).bind fun (y47:List UInt8)=>
 bif decide (List.length (List.append (List.append (List.append I.1 [32]) J) [61])+List.length y47<=LIM) then
 some (Sum.inl (List.append (List.append (List.append (List.append I.1 [32]) J) [61]) y47,IntKind.wrap .i64 (I.2+1)))
 else none
 else none
 else none
 else none
 else none
 else none
 else
 some (Sum.inr I.1)) (fun i=>400+200 * i) (fun i hi acc ha=>by
   have ho:=h.out _ (aLl hi)
   have l1:=Q4 (n:=t.2.2.2[i].1) (by omega) (by omega)
   have l2:=Qev ho.2 95
   have l4:=Qev ho.2 32
   have l3:=Qx5 ho
   refine⟨?_,by rw[aLi,aLh];omega⟩
   have hsw:Qau (Qs t.2.2.2[i].2 [32]) 32 95=some (Qs t.2.2.2[i].2 [95]):=by
    have:=Qxw (Qs t.2.2.2[i].2 [32]) 32 95 (by omega)
    rw[QwE (Y0 ho.2) QgJ] at this;exact this
   simp only[dlt hi,Qf _ i hi,Qc _ i _ hi,aLB,Yd (n:=t.2.2.2[i].1) (by omega) (by omega),Qns (Y0 ho.2),hsw,aLc,wsucc hi (by omega),aLo]
   rw[Qr,Qr,Qr,Qr]
   ·unfold wOut;simp
   all_goals ((try simp only[aLi,aLh,aLj]);omega)) (fun acc=>by simp only[dge,aLC]) t.2.2.2.length 0 (hd++32::Lib.join (t.2.2.1.map wRef) [43]) (by omega) (by rw[aLi,aLh];omega)
 rw[show ((0:Nat):Int)=0 from rfl] at this
 rw[this,aLc,List.drop_zero];congr 1;unfold Qo wTx;rw[U];by_cases h0:t.1=0
 ·rw[if_pos h0,if_pos h0]
  simp only[List.append_nil,List.cons_append,aLx];rw[Qou,List.map_cons,List.flatten_cons,List.map_map];simp[Function.comp_def]
 ·rw[if_neg h0,if_neg h0]
  simp only[List.cons_append,aLx];rw[Qou,List.map_cons,List.map_cons,List.flatten_cons,List.flatten_cons,List.map_map];simp[Function.comp_def]
theorem Qvz {t:TX} (h:mTxF t=0):Qf2 t=some (if (Qo t).length<=300 then (0,Qo t) else (2,[])):=by
 unfold Qf2;rw[Qfm t (ZS h).b,aLc,h,QnD (ZS h)];simp only[decide_true,Bool.not_true,aLC,aLc];by_cases hlen:(Qo t).length<=300
 ·rw[aLD (by omega),if_pos hlen];rfl
 ·rw[aLE (by omega),if_neg hlen];rfl
end GL
end Go.Dx
set_option maxHeartbeats 2000000
namespace Go.Dx
namespace GL
theorem QzI (c:UInt8) (sep:UInt8) (I:c ≠ sep):∀ws:List (List UInt8),(∀w,w ∈ ws->c ∉ w)->c ∉ Lib.join ws [sep]
 | [],_=>by simp[Lib.join_nil]
 | [x],h=>by rw[Lib.join_one];exact h x aLm
 | x::y::r,h=>by
  rw[QeE,List.mem_append,List.mem_cons];rintro (h1 | h1 | h1)
  ·exact h x aLm h1
  ·exact I h1
  ·exact QzI c sep I (y::r) (fun w hw=>h w (aLp _ hw)) h1
theorem Qsx {r:Int×Int} (h:mRef r=true) (c:UInt8) (J:c.toNat<48\/57<c.toNat) (I:c ≠ 58):c ∉ wRef r:=by
 rw[Qb7] at h;unfold wRef;simp only[List.mem_append,aLs,not_or];exact⟨⟨YA (by omega) c J,I⟩,YA (by omega) c J⟩
theorem QDO:Blank 61:=⟨by decide,by decide,by decide⟩
theorem QBG {o:TOut} (h:(1<=o.1/\o.1<=1000000)/\Zb o.2=0):(32:UInt8) ∉ wOut o:=by
 unfold wOut;simp only[List.mem_append,aLs,not_or];exact⟨⟨YA (by omega) 32 (by decide),by decide⟩,Qq7 (Y0 h.2) QgJ (by decide)⟩
theorem QEb (k:Int):(32:UInt8) ∉ kw k:=by
 unfold kw;split
 ·decide
 ·split<;>decide
theorem QEB {t:TX} (h:okT t):∀w,w ∈ wTx t->(32:UInt8) ∉ w:=by
 intro w hw;unfold wTx at hw;simp only[List.mem_append,aLs] at hw;rcases hw with ((rfl | hw) | rfl) | hw
 ·exact QEb t.1
 ·split at hw
  ·simp at hw
  ·rw[aLs] at hw;subst hw
   have:=h.mem
   exact YA (by omega) 32 (by decide)
 ·refine QzI 32 43 (by decide) _ fun w hw=>?_
  obtain⟨r,I,rfl⟩:=List.mem_map.1 hw;exact Qsx (h.ref r I) 32 (by decide) (by decide)
 ·obtain⟨o,ho,rfl⟩:=List.mem_map.1 hw
  exact QBG (h.out o ho)
theorem QsS {t:TX} (h:okT t):cuts 32 (Qo t)=wTx t:=QaT 32 _ (by unfold wTx;simp) (QEB h)
theorem QBH {t:TX} (h:okT t):cuts 43 (Lib.join (t.2.2.1.map wRef) [43])=t.2.2.1.map wRef:=by
 refine QaT 43 _ (fun e=>?_) fun w hw=>?_
 ·have:=h.li
  rw[List.map_eq_nil_iff] at e;rw[e] at this;simp at this
 ·obtain⟨r,I,rfl⟩:=List.mem_map.1 hw
  exact Qsx (h.ref r I) 43 (by decide) (by decide)
theorem QEq {r:Int×Int} (h:mRef r=true):Lib.cut (wRef r) [58]=(Lib.itoa r.1,Lib.itoa r.2,true):=by
 rw[Qb7] at h;have:=QzL 58 (Lib.itoa r.1) (Lib.itoa r.2) (YA (by omega) 58 (by decide))
 unfold wRef;simpa using this
theorem QDg {r:Int×Int} (h:mRef r=true):cuts 58 (wRef r)=[Lib.itoa r.1,Lib.itoa r.2]:=by
 rw[Qb7] at h;have:wRef r=Lib.join [Lib.itoa r.1,Lib.itoa r.2] [58]:=by rw[QeE,Lib.join_one];unfold wRef;simp
 rw[this];refine QaT 58 _ (by simp) fun w hw=>?_
 simp only[List.mem_cons,List.not_mem_nil,or_false] at hw;rcases hw with rfl | rfl
 ·exact YA (by omega) 58 (by decide)
 ·exact YA (by omega) 58 (by decide)
theorem QDU {o:TOut} (h:(1<=o.1/\o.1<=1000000)/\Zb o.2=0):Lib.cut (wOut o) [61]=(Lib.itoa o.1,Qs o.2 [95],true):=by
 have:=QzL 61 (Lib.itoa o.1) (Qs o.2 [95]) (YA (by omega) 61 (by decide))
 unfold wOut;simpa using this
theorem QxB {o:TOut} (h:(1<=o.1/\o.1<=1000000)/\Zb o.2=0):cuts 61 (wOut o)=[Lib.itoa o.1,Qs o.2 [95]]:=by
 have:wOut o=Lib.join [Lib.itoa o.1,Qs o.2 [95]] [61]:=by rw[QeE,Lib.join_one];unfold wOut;simp
 rw[this];refine QaT 61 _ (by simp) fun w hw=>?_
 simp only[List.mem_cons,List.not_mem_nil,or_false] at hw;rcases hw with rfl | rfl
 ·exact YA (by omega) 61 (by decide)
 ·exact Qq7 (Y0 h.2) QDO (by decide)
theorem QDB (s:List UInt8) (c:UInt8) (h:s.length<=1000000):Qdv s [c]=some (Lib.cut s [c]):=by
 unfold Qdv;exact QD8 _ (by omega)
theorem QzB (s sep:List UInt8):(Lib.cut s sep).1.length<=s.length/\(Lib.cut s sep).2.1.length<=s.length:=by
 unfold Lib.cut;split
 ·simp[aLn,aLz];omega
 ·simp
theorem Qpu (l:List (List UInt8)) (hl:l.length<BIG) (x:List UInt8):QL l x=some (idxF (fun a=>decide (x=a)) l):=by
 unfold QL;refine Qbb l (fun a=>decide (x=a)) _ (fun i h=>?_) (by simp only[dge,aLC])
 simp only[dlt h,Qf l i h,Qc l i _ h,aLB,wsucc h hl];cases decide (x=l[i])<;>rfl
theorem QEC (w:List UInt8):Y (QL [[112,97,121],[106,111,105,110],[108,101,97,118,101]] w) (fun k=>-1<=k/\k<=2/\∀j,0<=j->j<=2->w=kw j->k=j):=by
 refine⟨_,Qpu _ (by decide) w,?_⟩
 unfold idxF;simp only[first]
 by_cases U:w=[112,97,121]
 ·subst U
  refine⟨by simp,by simp,fun j h1 J I=>?_⟩
  have:j=0\/j=1\/j=2:=by omega
  rcases this with rfl | rfl | rfl
  ·simp
  ·simp[kw] at I
  ·simp[kw] at I
 ·simp only[U,decide_false,Bool.false_eq_true,if_false]
  by_cases h1:w=[106,111,105,110]
  ·subst h1
   refine⟨by simp,by simp,fun j h1 J I=>?_⟩
   have:j=0\/j=1\/j=2:=by omega
   rcases this with rfl | rfl | rfl
   ·simp[kw] at I
   ·simp
   ·simp[kw] at I
  ·simp only[h1,decide_false,Bool.false_eq_true,if_false]
   by_cases J:w=[108,101,97,118,101]
   ·subst J
    refine⟨by simp,by simp,fun j h1 J I=>?_⟩
    have:j=0\/j=1\/j=2:=by omega
    rcases this with rfl | rfl | rfl
    ·simp[kw] at I
    ·simp[kw] at I
    ·simp
   ·simp only[J,decide_false,Bool.false_eq_true,if_false]
    refine⟨by simp,by simp,fun j I h4 h5=>?_⟩
    have:j=0\/j=1\/j=2:=by omega
    rcases this with rfl | rfl | rfl
    ·exact absurd h5 U
    ·exact absurd h5 h1
    ·exact absurd h5 J
def okO (o:TOut):Prop:=(1<=o.1/\o.1<=1000000)/\Zb o.2=0
theorem QBa (s:List UInt8) (hs:s.length<=1000):Y (QeM s) (fun x=>x.1.2.1.length<=1001/\∀o,okO o->wOut o=s->x=(o,true)):=by
 unfold QeM;have J:=QzB s [61]
 refine Y.eqb (QDB s 61 (by omega)) (Y.bind (QAm _ 95 QzP (by omega)) (fun r I=>Y.eqb (QbR _ (by omega)) (Y.some ⟨by have:=I.1;show r.1.1.length<=_;omega,fun o ho h=>?_⟩)))
 have e:=QDU ho
 rw[h] at e;rw[e] at I ⊢;rw[I.2 o.2 ho.2 rfl];show ((numS (Lib.itoa o.1),o.2),true)=_
 rw[QcR (by have:=ho.1;omega) (by have:=ho.1;omega)]
def TxQ (s:List UInt8) (x:TX×Bool):Prop:=(x.2=true->mTxF x.1=0/\Qo x.1=s)/\∀I,mTxF I=0->Qo I=s->x=(I,true)
theorem drop1 {α:Type} (l:List α) (h:1<=l.length):List.take (Int.toNat ((List.length l:Int) - 1)) (List.drop (Int.toNat 1) l)=l.drop 1:=by
 rw[show Int.toNat 1=1 from rfl]
 exact List.take_of_length_le (by rw[aLz];omega)
theorem QwZ {α:Type} (l:List α) (h:1<=l.length):QC 1 (List.length l:Int) l=true:=by
 unfold QC;simp;omega
theorem QlV (s:List UInt8) (c:UInt8) (d i:Nat):(List.getD ((cuts c s).drop d) i []).length<=s.length:=by
 rw[aLk,List.getElem?_drop];have:=Jt c s (d+i)
 rw[aLk] at this;exact this
theorem QCG (s:List UInt8) (hs:s.length<=300):Y (Qf8 s) (TxQ s):=by
 have hB:BIG=4611686018427387904:=rfl
 have hne:=QgN 32 s
 have hlen:=Qa3 32 s
 have hpos:1<=(cuts 32 s).length:=by
  cases h:cuts 32 s with
  | nil=>exact absurd h hne
  | cons a l=>simp
 have hwd:∀I,mTxF I=0->Qo I=s->okT I/\cuts 32 s=wTx I:=fun I h1 J=>⟨ZS h1,by rw[<-J];exact QsS (ZS h1)⟩
 have hno:∀t:TX,(∀I,mTxF I=0->Qo I=s->False)->TxQ s (t,false):=fun t h=>⟨(fun h=>by cases h),fun I h1 J=>(h I h1 J).elim⟩
 unfold Qf8 Qa9;refine Y.eqb (Qmn s 32 (by omega)) (Y.eqb rfl (Y.grd (QP (by omega) (by omega)) (Y.bind (QEC _) (fun k hk=>?_))))
 obtain⟨hk0,hk2,hkc⟩:=hk;have hkw:∀I,mTxF I=0->Qo I=s->k=I.1:=fun I h1 J=>by
  obtain⟨ho,hw⟩:=hwd I h1 J;refine hkc I.1 ho.kind.1 ho.kind.2 ?_;rw[hw];rfl
 refine Y.bind (Q:=fun j=>(j=false->0<=k)/\(j=true->k<0)) ?_ (fun j hj=>?_)
 ·refine Y.bif (fun h=>?_) (fun _=>Y.some ⟨(fun h=>?_),(fun h=>?_)⟩)
  ·simp at h;omega
  ·simp at h;omega
  ·simpa using h
 refine Y.bif (fun h=>Y.some (hno _ fun I h1 J=>?_)) (fun h=>?_)
 ·have:=hkw I h1 J
  have:=(hwd I h1 J).1.kind
  have:=hj.2 h
  omega
 have hk0:=hj.1 h
 rw[drop1 _ hpos];refine Y.grd (QwZ _ hpos) ?_;have hdl:((cuts 32 s).drop 1).length=(cuts 32 s).length - 1:=aLz
 refine Y.bind (Q:=fun j=>(j=true↔(k ≠ 0/\1<=((cuts 32 s).drop 1).length))) ?_ (fun j hj=>?_)
 ·refine Y.bif (fun h=>Y.some ?_) (fun h=>Y.some ?_)
  ·simp at h ⊢;omega
  ·simp at h ⊢
   intro J;exact absurd h J
 refine Y.bind (Q:=fun (x:List (List UInt8)×TX)=>(∃d,x.1=(cuts 32 s).drop d)/\x.2.2.2=([],[])/\∀I,mTxF I=0->Qo I=s->x=(Lib.join (I.2.2.1.map wRef) [43]::I.2.2.2.map wOut,(I.1,I.2.1,[],[]))) ?_ (fun x hx=>?_)
 ·refine Y.bif (fun h=>?_) (fun h=>Y.some ⟨⟨1,rfl⟩,rfl,fun I h1 J=>?_⟩)
  ·obtain⟨hkn,h1l⟩:=hj.1 h
   refine Y.grd (QP (by omega) (by omega)) (Y.eqb (QbR _ (by have:=QlV s 32 1 0;show (List.getD ((cuts 32 s).drop 1) 0 []).length<=_;omega)) ?_)
   rw[drop1 _ h1l];refine Y.grd (QwZ _ h1l) (Y.some ⟨⟨2,by rw[List.drop_drop]⟩,rfl,fun I h1 J=>?_⟩)
   obtain⟨ho,hw⟩:=hwd I h1 J;have hkk:=hkw I h1 J
   have hm:=ho.mem
   rw[hw];unfold wTx;rw[if_neg (by omega)]
   show (Lib.join (I.2.2.1.map wRef) [43]::I.2.2.2.map wOut,(k,numS (Lib.itoa I.2.1),[],[]))=_
   rw[QcR (by omega) (by omega),hkk]
  ·obtain⟨ho,hw⟩:=hwd I h1 J
   have hkk:=hkw I h1 J
   have hm:=ho.mem
   have hk0':k=0:=by
    by_cases e:k=0
    ·exact e
    ·have hl:1<=((cuts 32 s).drop 1).length:=by
      rw[hw];unfold wTx;rw[if_neg (by omega)];simp
     rw[hj.2 ⟨e,hl⟩] at h;cases h
   rw[hw];unfold wTx;rw[if_pos (by omega)]
   show (Lib.join (I.2.2.1.map wRef) [43]::I.2.2.2.map wOut,(k,0,[],[]))=_
   rw[hkk,show I.2.1=0 by omega]
 obtain⟨⟨d,hd⟩,he,hxc⟩:=hx;obtain⟨xw,xk,xm,xi,xo⟩:=x;have hdx:xw=(cuts 32 s).drop d:=hd
 have he:(xi,xo)=([],[]):=he
 simp only[aLe] at he;obtain⟨rfl,rfl⟩:=he;simp only;have hxl:xw.length<=301:=by rw[hdx,aLz];omega
 have hxw:∀i,(List.getD xw i []).length<=300:=fun i=>by rw[hdx];have:=QlV s 32 d i;omega
 have hxc':∀I,mTxF I=0->Qo I=s->xw=Lib.join (I.2.2.1.map wRef) [43]::I.2.2.2.map wOut/\xk=I.1/\xm=I.2.1:=fun I h1 J=>by
  have:=hxc I h1 J
  simp only[aLe] at this;exact⟨this.1,this.2.1,this.2.2.1⟩
 refine Y.bind (Q:=fun j=>(j=false->2<=xw.length/\xw.length<=5)/\(j=true->¬(2<=xw.length/\xw.length<=5))) ?_ (fun j hj=>?_)
 ·refine Y.bif (fun h=>Y.some ⟨(fun h=>by cases h),(fun _=>?_)⟩) (fun h1=>Y.some ⟨(fun h=>?_),(fun h=>?_)⟩)
  ·simp at h;omega
  ·simp at h h1;omega
  ·simp at h;omega
 refine Y.bif (fun h=>Y.some (hno _ fun I h1 J=>?_)) (fun h=>?_)
 ·refine hj.2 h ?_
  obtain⟨e1,_⟩:=hxc' I h1 J;have:=(hwd I h1 J).1.lo
  rw[e1];simp;omega
 have h25:=hj.1 h
 have hw0:=hxw 0
 refine Y.grd (QP (by omega) (by omega)) (Y.eqb (Qmn _ 43 (by show (List.getD xw 0 []).length<=_;omega)) ?_)
 obtain⟨rs,hrs⟩:∃rs,rs=cuts 43 (List.getD xw (Int.toNat 0) []):=⟨_,rfl⟩;have hrs':rs=cuts 43 (List.getD xw 0 []):=hrs
 rw[<-hrs];have hrl:rs.length<=301:=by rw[hrs'];have:=Qa3 43 (List.getD xw 0 []);omega
 have hrw:∀w,w ∈ rs->w.length<=300:=fun w hw=>by rw[hrs'] at hw;have:=QcQ 43 _ w hw;omega
 have hrc:∀I,mTxF I=0->Qo I=s->rs=I.2.2.1.map wRef:=fun I h1 J=>by
  rw[hrs',(hxc' I h1 J).1];exact QBH (hwd I h1 J).1
 refine Y.bind (Q:=fun (t:TX)=>t.2.2.1.length<=301/\t.2.2.2=[]/\∀I,mTxF I=0->Qo I=s->t=(I.1,I.2.1,I.2.2.1,[])) ?_ (fun t ht=>?_)
 ·refine Y.loop (fun n (st:Int×TX)=>∃i:Nat,st.1=(i:Int)/\i<=rs.length/\n=rs.length - i/\st.2.2.2.1.length=i/\st.2.2.2.2=[]/\∀I,mTxF I=0->Qo I=s->st.2=(I.1,I.2.1,I.2.2.1.take i,[])) (fun n st hI=>?_) rs.length _ ⟨0,rfl,by omega,by omega,rfl,rfl,fun I h1 J=>by
   obtain⟨_,e1,e2⟩:=hxc' I h1 J;show (xk,xm,[],[])=_
   rw[e1,e2];rfl⟩
  obtain⟨i,hi,hle,hnn,hac,hoz,hcomp⟩:=hI;obtain⟨i',k',m',acc,oz⟩:=st;have hi:i'=(i:Int):=hi
  subst hi;have hac:acc.length=i:=hac
  have hoz:oz=[]:=hoz
  subst hoz;refine Y.bif (fun h1=>?_) (fun h1=>Y.some ⟨by show acc.length<=_;omega,rfl,fun I J h3=>?_⟩)
  ·have U:i<rs.length:=by simp at h1;omega
   have hg:List.getD rs (Int.toNat (i:Int)) []=rs[i]:=Qc rs i _ U
   have hwl:=hrw _ (aLl U)
   rw[hg];have hcl:=QzB rs[i] [58]
   refine Y.grd (Qf _ i U) (Y.eqb (QDB _ 58 (by omega)) (Y.eqb (QbR _ (by omega)) (Y.eqb (QbR _ (by omega)) (Y.grd (ZC _ _ (by show acc.length<_;omega)) (Y.some ⟨rs.length - (i+1),by omega,i+1,wsucc U (by omega),by omega,rfl,by show (List.append acc [_]).length=_;simp[hac],rfl,fun I J h3=>?_⟩)))))
   have hm:=hrc I J h3
   have hr:i<I.2.2.1.length:=by rw[hm] at U;simpa using U
   have hok:=(hwd I J h3).1.ref _ (aLl hr)
   have e:rs[i]=wRef I.2.2.1[i]:=by rw[List.getElem_of_eq hm U];simp
   have hc2:=hcomp I J h3
   simp only[aLe] at hc2;rw[e,QEq hok];rw[Qb7] at hok;show (k',m',List.append acc [(numS (Lib.itoa I.2.2.1[i].1),numS (Lib.itoa I.2.2.1[i].2))],[])=_
   rw[QcR (by omega) (by omega),QcR (by omega) (by omega),hc2.1,hc2.2.1,hc2.2.2.1,List.take_add_one,aLf hr]
   rfl
  ·have hge:i=rs.length:=by simp at h1;omega
   have c2:=hcomp I J h3
   have hkl:rs.length=I.2.2.1.length:=by rw[hrc I J h3];simp
   rw[hge,hkl,List.take_length] at c2;exact c2
 obtain⟨hti,hto,htc⟩:=ht;obtain⟨tk,tm,ti,to⟩:=t;have hto:to=[]:=hto
 subst hto;have hti:ti.length<=301:=hti
 have hx1:1<=xw.length:=by omega
 rw[drop1 _ hx1];refine Y.grd (QwZ _ hx1) ?_;obtain⟨os,hos⟩:∃os,os=xw.drop 1:=⟨_,rfl⟩;rw[<-hos];have hol:os.length<=4:=by rw[hos,aLz];omega
 have how:∀w,w ∈ os->w.length<=300:=fun w hw=>by
  rw[hos,hdx,List.drop_drop] at hw;have:=QcQ 32 s w (List.mem_of_mem_drop hw);omega
 have hoc:∀I,mTxF I=0->Qo I=s->os=I.2.2.2.map wOut:=fun I h1 J=>by
  rw[hos,(hxc' I h1 J).1];rfl
 refine Y.bind (Q:=fun (r:TX⊕(Bool×TX))=>match r with
   | .inl t=>t.2.2.1.length<=301/\t.2.2.2.length<=4/\(∀o,o ∈ t.2.2.2->o.2.1.length<=1001)/\∀I,mTxF I=0->Qo I=s->t=I
   | .inr x=>x.1=false/\∀I,mTxF I=0->Qo I=s->False) ?_ (fun r hr=>?_)
 ·refine Y.loop (fun n (st:Int×TX)=>∃i:Nat,st.1=(i:Int)/\i<=os.length/\n=os.length - i/\st.2.2.2.1.length<=301/\st.2.2.2.2.length=i/\(∀o,o ∈ st.2.2.2.2->o.2.1.length<=1001)/\∀I,mTxF I=0->Qo I=s->st.2=(I.1,I.2.1,I.2.2.1,I.2.2.2.take i)) (fun n st hI=>?_) os.length _ ⟨0,rfl,by omega,by omega,hti,rfl,(fun o ho=>nomatch ho),fun I h1 J=>by
   rw[htc I h1 J];rfl⟩
  obtain⟨i,hi,hle,hnn,hil,hac,hkl,hcomp⟩:=hI;obtain⟨i',k',m',il,acc⟩:=st;have hi:i'=(i:Int):=hi
  subst hi;have hac:acc.length=i:=hac
  refine Y.bif (fun h1=>?_) (fun h1=>Y.some ⟨hil,by show acc.length<=_;omega,hkl,fun I J h3=>?_⟩)
  ·have U:i<os.length:=by simp at h1;omega
   have hg:List.getD os (Int.toNat (i:Int)) []=os[i]:=Qc os i _ U
   have hwl:=how _ (aLl U)
   rw[hg];refine Y.grd (Qf _ i U) (Y.bind (QBa _ (by omega)) (fun y hy=>?_))
   have hyc:∀I,mTxF I=0->Qo I=s->∃hr:i<I.2.2.2.length,y=(I.2.2.2[i],true):=fun I J h3=>by
    have hm:=hoc I J h3
    have hr:i<I.2.2.2.length:=by rw[hm] at U;simpa using U
    have e:os[i]=wOut I.2.2.2[i]:=by rw[List.getElem_of_eq hm U];simp
    exact⟨hr,hy.2 _ ((hwd I J h3).1.out _ (aLl hr)) e.symm⟩
   refine Y.bif (fun h4=>Y.some ⟨rfl,fun I J h3=>?_⟩) (fun h4=>Y.grd (ZC _ _ (by show acc.length<_;omega)) (Y.some ⟨os.length - (i+1),by omega,i+1,wsucc U (by omega),by omega,rfl,hil,by show (List.append acc [_]).length=_;simp[hac],fun o ho=>?_,fun I J h3=>?_⟩))
   ·obtain⟨_,e⟩:=hyc I J h3
    rw[e] at h4;cases h4
   ·rcases List.mem_append.1 (show o ∈ acc++[y.1] from ho) with ho | ho
    ·exact hkl o ho
    ·rw[aLs] at ho;subst ho;exact hy.1
   ·obtain⟨hr,e⟩:=hyc I J h3
    have hc2:=hcomp I J h3
    simp only[aLe] at hc2;show (k',m',il,List.append acc [y.1])=_
    rw[e,hc2.1,hc2.2.1,hc2.2.2.1,hc2.2.2.2,List.take_add_one,aLf hr];rfl
  ·have hge:i=os.length:=by simp at h1;omega
   have c2:=hcomp I J h3
   have hkl:os.length=I.2.2.2.length:=by rw[hoc I J h3];simp
   rw[hge,hkl,List.take_length] at c2;exact c2
 cases r with
 | inr x=>exact Y.some (by rw[hr.1];exact hno _ hr.2)
 | inl t=>
  obtain⟨r1,r2,r3,r4⟩:=hr;have hb:bT t:=⟨by omega,by omega,fun o ho=>by have:=r3 o ho;omega⟩
  refine Y.eqb (Qil t hb) (Y.bif (fun h=>Y.some (hno _ fun I h1 J=>?_)) (fun h=>?_))
  ·rw[r4 I h1 J,h1] at h;simp at h
  ·have h0:mTxF t=0:=by simpa using h
   refine Y.eqb (Qnn (ZS h0)) ?_;by_cases hl:(Qo t).length<=300
   ·rw[if_pos hl]
    refine Y.some ⟨fun hh=>⟨h0,by simpa using hh⟩,fun I h1 J=>?_⟩
    obtain rfl:=r4 I h1 J;show (t,decide (Qo t=s))=_
    rw[aLE J]
   ·rw[if_neg hl]
    refine Y.some (hno _ fun I h1 J=>?_)
    obtain rfl:=r4 I h1 J;rw[J] at hl;exact hl hs
end GL
end Go.Dx
set_option maxHeartbeats 2000000
namespace Go.Dx
namespace GL
theorem QoQ (k:Int) (n:Nat) (I:0<=k) (h1:k<((10 ^ n:Nat):Int)) (hn:1<=n):(Lib.itoa k).length<=n:=by
 obtain⟨m,rfl⟩:=aLA I;rw[Qb4,Lib.decDigits_length];exact Qfh n m (by omega) hn
theorem Qws (w:List UInt8) (n:Nat) (hw:w.length<BIG):Y (Qu w (n:Int)) (fun r=>∀k,0<=k->k<=9999999->w=Lib.itoa k->(Lib.itoa k).length<=n->r=(k,true)):=by
 obtain⟨r,h1,_⟩:=Qdh w (n:Int) hw;refine⟨r,h1,fun k I J hk hl=>?_⟩
 rw[hk,Qm2 I J n hl] at h1;exact (Option.some.inj h1).symm
theorem QAk {l:List (Int×Int)} (hl:l ≠ []) (h:∀r,r ∈ l->mRef r=true):cuts 43 (Lib.join (l.map wRef) [43])=l.map wRef:=by
 refine QaT 43 _ (fun e=>hl (List.map_eq_nil_iff.1 e)) fun w hw=>?_
 obtain⟨r,I,rfl⟩:=List.mem_map.1 hw;exact Qsx (h r I) 43 (by decide) (by decide)
theorem QEp (s:List UInt8) (hs:s.length<=300):Y (Qhb s) (fun x=>x.1.length<=301/\∀l,l ≠ []->(∀r,r ∈ l->mRef r=true)->Lib.join (l.map wRef) [43]=s->x=(l,true)):=by
 have hB:BIG=4611686018427387904:=rfl
 unfold Qhb;refine Y.eqb (J7 s 43 (by unfold LIM;omega)) ?_
 obtain⟨rs,hrs⟩:∃rs,rs=cuts 43 s:=⟨_,rfl⟩;rw[<-hrs];have hrl:rs.length<=301:=by rw[hrs];have:=Qa3 43 s;omega
 have hrw:∀w,w ∈ rs->w.length<=300:=fun w hw=>by rw[hrs] at hw;have:=QcQ 43 _ w hw;omega
 have hrc:∀l,l ≠ []->(∀r,r ∈ l->mRef r=true)->Lib.join (l.map wRef) [43]=s->rs=l.map wRef:=fun l h1 J I=>by
  rw[hrs,<-I];exact QAk h1 J
 refine Y.bind (Q:=fun (r:List (Int×Int)⊕(List (Int×Int)×Bool))=>match r with
   | .inl x=>x.length<=301/\∀l,l ≠ []->(∀r,r ∈ l->mRef r=true)->Lib.join (l.map wRef) [43]=s->x=l
   | .inr x=>x=([],false)/\∀l,l ≠ []->(∀r,r ∈ l->mRef r=true)->Lib.join (l.map wRef) [43]=s->False) ?_ (fun r hr=>?_)
 ·refine Y.loop (fun n (st:List (Int×Int)×Int)=>∃i:Nat,st.2=(i:Int)/\i<=rs.length/\n=rs.length - i/\st.1.length=i/\∀l,l ≠ []->(∀r,r ∈ l->mRef r=true)->Lib.join (l.map wRef) [43]=s->st.1=l.take i) (fun n st hI=>?_) rs.length _ ⟨0,rfl,by omega,by omega,rfl,fun l _ _ _=>rfl⟩
  obtain⟨i,hi,hle,hnn,hac,hcomp⟩:=hI;obtain⟨acc,i'⟩:=st;have hi:i'=(i:Int):=hi
  subst hi;have hac:acc.length=i:=hac
  refine Y.bif (fun h1=>?_) (fun h1=>Y.some ⟨by show acc.length<=_;omega,fun l J I U=>?_⟩)
  ·have hlt:i<rs.length:=by simp at h1;omega
   have hg:List.getD rs (Int.toNat (i:Int)) []=rs[i]:=Qc rs i _ hlt
   have hwl:=hrw _ (aLl hlt)
   rw[hg];have hpc:∀l,l ≠ []->(∀r,r ∈ l->mRef r=true)->Lib.join (l.map wRef) [43]=s->∃hr:i<l.length,mRef l[i]=true/\cuts 58 rs[i]=[Lib.itoa l[i].1,Lib.itoa l[i].2]:=fun l J I U=>by
    have hm:=hrc l J I U
    have hr:i<l.length:=by rw[hm] at hlt;simpa using hlt
    have e:rs[i]=wRef l[i]:=by rw[List.getElem_of_eq hm hlt];simp
    have hok:=I _ (aLl hr)
    exact⟨hr,hok,by rw[e];exact QDg hok⟩
   refine Y.grd (Qf _ i hlt) (Y.eqb (J7 _ 58 (by unfold LIM;omega)) (Y.bif (fun h5=>Y.some ⟨rfl,fun l J I U=>?_⟩) (fun h5=>?_)))
   ·obtain⟨_,_,e⟩:=hpc l J I U
    rw[e] at h5;simp at h5
   ·have h2l:(cuts 58 rs[i]).length=2:=by simp at h5;omega
    have w0:=Jt 58 rs[i] 0
    have w1:=Jt 58 rs[i] 1
    refine Y.grd (QP (by omega) (by omega)) (Y.bind (Qws (List.getD (cuts 58 rs[i]) (Int.toNat 0) []) 2 (by show (List.getD (cuts 58 rs[i]) 0 []).length<_;omega)) (fun a ha=>Y.grd (QP (by omega) (by omega)) (Y.bind (Qws (List.getD (cuts 58 rs[i]) (Int.toNat 1) []) 1 (by show (List.getD (cuts 58 rs[i]) 1 []).length<_;omega)) (fun b hb=>?_))))
    have hab:∀l,l ≠ []->(∀r,r ∈ l->mRef r=true)->Lib.join (l.map wRef) [43]=s->∃hr:i<l.length,a=(l[i].1,true)/\b=(l[i].2,true):=fun l J I U=>by
     obtain⟨hr,hok,e⟩:=hpc l J I U;rw[Qb7] at hok;refine⟨hr,ha _ (by omega) (by omega) (by rw[e];rfl) (QoQ _ 2 (by omega) (by omega) (by omega)),hb _ (by omega) (by omega) (by rw[e];rfl) (QoQ _ 1 (by omega) (by omega) (by omega))⟩
    refine Y.bind (Q:=fun j=>j=true->∀l,l ≠ []->(∀r,r ∈ l->mRef r=true)->Lib.join (l.map wRef) [43]=s->False) ?_ (fun j hj=>Y.bif (fun h=>Y.some ⟨rfl,hj h⟩) (fun _=>Y.grd (ZC _ _ (by show acc.length<_;omega)) (Y.some ⟨rs.length - (i+1),by omega,i+1,wsucc hlt (by omega),by omega,rfl,by show (List.append acc [_]).length=_;simp[hac],fun l J I U=>?_⟩)))
    ·refine Y.bif (fun h=>Y.some (fun _ l J I U=>?_)) (fun h=>Y.some (fun h' l J I U=>?_))
     ·obtain⟨_,e,_⟩:=hab l J I U
      rw[e] at h;cases h
     ·obtain⟨_,_,e⟩:=hab l J I U
      rw[e] at h';cases h'
    ·obtain⟨hr,e1,e2⟩:=hab l J I U
     have hc2:acc=l.take i:=hcomp l J I U
     show List.append acc [(a.1,b.1)]=_
     rw[e1,e2,hc2,List.take_add_one,aLf hr];rfl
  ·have hge:i=rs.length:=by simp at h1;omega
   have c2:acc=l.take i:=hcomp l J I U
   have hkl:rs.length=l.length:=by rw[hrc l J I U];simp
   show acc=l
   rw[c2,hge,hkl,List.take_length]
 cases r with
 | inl x=>exact Y.some ⟨hr.1,fun l J I U=>by rw[hr.2 l J I U]⟩
 | inr x=>exact Y.some ⟨by rw[hr.1];simp,fun l J I U=>(hr.2 l J I U).elim⟩
theorem QBj (s:List UInt8) (hs:s.length<=300):Y (Qfp s) (TxQ s):=by
 have hB:BIG=4611686018427387904:=rfl
 have hne:=QgN 32 s
 have hlen:=Qa3 32 s
 have hpos:1<=(cuts 32 s).length:=by
  cases h:cuts 32 s with
  | nil=>exact absurd h hne
  | cons a l=>simp
 have U:∀I,mTxF I=0->Qo I=s->okT I/\cuts 32 s=wTx I:=fun I h1 J=>⟨ZS h1,by rw[<-J];exact QsS (ZS h1)⟩
 have hno:∀t:TX,(∀I,mTxF I=0->Qo I=s->False)->TxQ s (t,false):=fun t h=>⟨(fun h=>by cases h),fun I h1 J=>(h I h1 J).elim⟩
 unfold Qfp;refine Y.eqb (J7 s 32 (by unfold LIM;omega)) ?_
 obtain⟨ws,hws⟩:∃ws,ws=cuts 32 s:=⟨_,rfl⟩;rw[<-hws];rw[<-hws] at hlen hpos;simp only[<-hws] at U;have hww:∀i,(List.getD ws i []).length<=300:=fun i=>by rw[hws];have:=Jt 32 s i;omega
 have hin0:inB 0 ws=true:=QP (by omega) (by omega)
 have hw0:∀I,mTxF I=0->Qo I=s->List.getD ws (Int.toNat 0) []=kw I.1:=fun I h1 J=>by rw[(U I h1 J).2];rfl
 refine Y.bind (Q:=fun j=>∀I,mTxF I=0->Qo I=s->(j=true↔I.1 ≠ 0)) ?_ (fun j hj=>?_)
 ·have kk:∀I,mTxF I=0->Qo I=s->I.1=0\/I.1=1\/I.1=2:=fun I h1 J=>by have:=(U I h1 J).1.kind;omega
  refine Y.grd hin0 (Y.bif (fun h=>Y.some (fun I h1 J=>?_)) (fun h=>Y.grd hin0 (Y.some (fun I h1 J=>?_))))
  ·rw[hw0 I h1 J] at h
   rcases kk I h1 J with e | e | e<;>rw[e] at h ⊢<;>simp[kw] at h ⊢
  ·rw[hw0 I h1 J] at h ⊢
   rcases kk I h1 J with e | e | e<;>rw[e] at h ⊢<;>simp[kw] at h ⊢
 refine Y.bind (Q:=fun (r:(Int×TX)⊕(Bool×TX))=>match r with
   | .inl x=>(x.1=1\/x.1=2)/\x.2.2.2=([],[])/\∀I,mTxF I=0->Qo I=s->x.1=(if I.1=0 then 1 else 2)/\x.2=(I.1,I.2.1,[],[])
   | .inr x=>x.1=false/\∀I,mTxF I=0->Qo I=s->False) ?_ (fun r hr=>?_)
 ·refine Y.bif (fun h=>?_) (fun h=>Y.grd hin0 (Y.bif (fun h3=>Y.some ⟨rfl,fun I h1 J=>?_⟩) (fun h3=>Y.some ⟨.inl rfl,rfl,fun I h1 J=>?_⟩)))
  ·refine Y.bif (fun h3=>Y.some ⟨rfl,fun I h1 J=>?_⟩) (fun h3=>?_)
   ·have hl:2<=ws.length:=by
     rw[(U I h1 J).2];unfold wTx;simp;omega
    simp at h3;omega
   ·have h2l:2<=ws.length:=by simp at h3;omega
    have hw1:=hww 1
    refine Y.grd (QP (by omega) (by omega)) (Y.bind (Qws (List.getD ws (Int.toNat 1) []) 3 (by show (List.getD ws 1 []).length<_;omega)) (fun m hm=>?_))
    have hmc:∀I,mTxF I=0->Qo I=s->m=(I.2.1,true):=fun I h1 J=>by
     obtain⟨ho,hw⟩:=U I h1 J;have hmm:=ho.mem
     have h0:=(hj I h1 J).1 h
     exact hm _ (by omega) (by omega) (by rw[hw];unfold wTx;rw[if_neg h0];rfl) (QoQ _ 3 (by omega) (by omega) (by omega))
    refine Y.bif (fun h4=>Y.some ⟨rfl,fun I h1 J=>?_⟩) (fun h4=>?_)
    ·rw[hmc I h1 J] at h4;cases h4
    ·refine Y.grd hin0 (Y.bind (Q:=fun (x:TX)=>x.2.2=([],[])/\∀I,mTxF I=0->Qo I=s->x.1=I.1) ?_ (fun x hx=>Y.some ⟨.inr rfl,by show x.2.2=_;exact hx.1,fun I h1 J=>⟨?_,?_⟩⟩))
     ·have kk:∀I,mTxF I=0->Qo I=s->I.1=1\/I.1=2:=fun I h1 J=>by have:=(U I h1 J).1.kind;have:=(hj I h1 J).1 h;omega
      refine Y.bif (fun h5=>Y.some ⟨rfl,fun I h1 J=>?_⟩) (fun h5=>Y.some ⟨rfl,fun I h1 J=>?_⟩)
      ·rw[hw0 I h1 J] at h5
       rcases kk I h1 J with e | e<;>rw[e] at h5 ⊢
       simp[kw] at h5
      ·rw[hw0 I h1 J] at h5
       rcases kk I h1 J with e | e<;>rw[e] at h5 ⊢
       simp[kw] at h5
     ·rw[if_neg ((hj I h1 J).1 h)]
     ·show (x.1,m.1,x.2.2)=_
      rw[hx.1,hx.2 I h1 J,hmc I h1 J]
  ·have h0:I.1=0:=by
    by_cases e:I.1=0
    ·exact e
    ·rw[(hj I h1 J).2 e] at h;cases h
   rw[hw0 I h1 J,h0] at h3;simp[kw] at h3
  ·have h0:I.1=0:=by
    by_cases e:I.1=0
    ·exact e
    ·rw[(hj I h1 J).2 e] at h;cases h
   have hmm:=(U I h1 J).1.mem
   rw[if_pos h0,h0,show I.2.1=0 by omega]
   exact⟨rfl,rfl⟩
 cases r with
 | inr x=>exact Y.some (by obtain⟨b,t⟩:=x;have h1:b=false:=hr.1;subst h1;exact hno _ hr.2)
 | inl x=>
  obtain⟨at',xk,xm,xi,xo⟩:=x;obtain⟨hat,hx0,hxc⟩:=hr;have hx0:(xi,xo)=([],[]):=hx0
  simp only[aLe] at hx0;obtain⟨e1,e2⟩:=hx0;subst e1 e2;obtain⟨a,ha,ha12⟩:∃a:Nat,at'=(a:Int)/\(a=1\/a=2):=by
   have hat:at'=1\/at'=2:=hat
   rcases hat with rfl | rfl
   ·exact⟨1,rfl,.inl rfl⟩
   ·exact⟨2,rfl,.inr rfl⟩
  subst ha;have hxc:∀I,mTxF I=0->Qo I=s->(a:Int)=(if I.1=0 then 1 else 2)/\(xk,xm,([]:List (Int×Int)),([]:List TOut))=(I.1,I.2.1,[],[]):=hxc
  have htl:∀I,mTxF I=0->Qo I=s->ws.drop a=Lib.join (I.2.2.1.map wRef) [43]::I.2.2.2.map wOut:=fun I h1 J=>by
   rw[(U I h1 J).2];have:=(hxc I h1 J).1
   unfold wTx;by_cases h0:I.1=0
   ·rw[if_pos h0] at this ⊢
    obtain rfl:a=1:=by omega
    rfl
   ·rw[if_neg h0] at this ⊢
    obtain rfl:a=2:=by omega
    rfl
  simp only[Sum.elim_inl];have hwr:IntKind.wrap .i64 ((a:Int)+2)=((a+2:Nat):Int):=by rw[Qe (by omega) (by omega)];omega
  have hwr1:IntKind.wrap .i64 ((a:Int)+1)=((a+1:Nat):Int):=by rw[Qe (by omega) (by omega)];omega
  rw[hwr,hwr1];refine Y.bif (fun h3=>Y.some (hno _ fun I h1 J=>?_)) (fun h3=>?_)
  ·have:=(U I h1 J).1.lo
   have h4:(ws.drop a).length=1+I.2.2.2.length:=by rw[htl I h1 J];simp;omega
   rw[aLz] at h4;simp at h3;omega
  have hal:a+2<=ws.length:=by simp at h3;omega
  have hwa:=hww a
  refine Y.grd (Qf ws a (by omega)) (Y.bind (QEp _ (by show (List.getD ws (Int.toNat (a:Int)) []).length<=_;rw[Int.toNat_natCast];exact hwa)) (fun ins hins=>?_))
  have hic:∀I,mTxF I=0->Qo I=s->ins=(I.2.2.1,true):=fun I h1 J=>by
   have ho:=(U I h1 J).1
   refine hins.2 _ (fun e=>?_) ho.ref ?_
   ·have:=ho.li;rw[e] at this;simp at this
   ·have:List.getD ws a []=(ws.drop a).getD 0 []:=by rw[aLk,aLk,List.getElem?_drop];rfl
    rw[Int.toNat_natCast,this,htl I h1 J];rfl
  have how:∀i (hi:i<ws.length),(ws[i]).length<=300:=fun i hi=>by
   have:=hww i
   rwa [aLk,aLf hi] at this
  refine Y.bind (Q:=fun (r:(Bool×TX)⊕(Bool×TX))=>match r with
    | .inl x=>x.2.2.2.1.length<=301/\x.2.2.2.2.length<=301/\(∀o,o ∈ x.2.2.2.2->o.2.1.length<=301)/\∀I,mTxF I=0->Qo I=s->x=(true,I)
    | .inr x=>x.1=false/\∀I,mTxF I=0->Qo I=s->False) ?_ (fun r hr=>?_)
  ·refine Y.loop (fun n (st:Bool×Int×TX)=>∃i:Nat,st.2.1=((a+1+i:Nat):Int)/\a+1+i<=ws.length/\n=ws.length - (a+1+i)/\st.2.2.2.2.1.length<=301/\st.2.2.2.2.2.length=i/\(∀o,o ∈ st.2.2.2.2.2->o.2.1.length<=301)/\∀I,mTxF I=0->Qo I=s->st.1=true/\st.2.2=(I.1,I.2.1,I.2.2.1,I.2.2.2.take i)) (fun n st hI=>?_) (ws.length - (a+1)) _ ⟨0,rfl,by omega,by omega,hins.1,rfl,(fun o ho=>nomatch ho),fun I h1 J=>by
    have e:=hic I h1 J
    have e2:=(hxc I h1 J).2
    simp only[aLe] at e2;rw[e];refine⟨rfl,?_⟩;show (xk,xm,I.2.2.1,[])=_
    rw[e2.1,e2.2.1];rfl⟩
   obtain⟨i,hi,hle,hnn,hil,hac,hkl,hcomp⟩:=hI;obtain⟨ok,i',k',m',il,acc⟩:=st;have hi:i'=((a+1+i:Nat):Int):=hi
   subst hi;have hac:acc.length=i:=hac
   have hol:∀I,mTxF I=0->Qo I=s->ws.length=a+1+I.2.2.2.length:=fun I h1 J=>by
    have h4:(ws.drop a).length=1+I.2.2.2.length:=by rw[htl I h1 J];simp;omega
    rw[aLz] at h4;omega
   refine Y.bind (Q:=fun j=>(j=true->a+1+i<ws.length)/\(j=false->a+1+i=ws.length\/ok=false)) ?_ (fun j hj2=>?_)
   ·refine Y.bif (fun h4=>Y.some ⟨fun _=>?_,fun h5=>.inr h5⟩) (fun h4=>Y.some ⟨(fun h=>by cases h),fun _=>.inl ?_⟩)
    ·simp at h4;omega
    ·simp at h4;omega
   refine Y.bif (fun h4=>?_) (fun h4=>Y.some ⟨hil,by show acc.length<=_;omega,hkl,fun I h1 J=>?_⟩)
   ·have hlt:=hj2.1 h4
    have hg:List.getD ws (Int.toNat ((a+1+i:Nat):Int)) []=ws[a+1+i]:=Qc ws _ _ hlt
    have hwl:=how _ hlt
    rw[hg];have hoc:∀I,mTxF I=0->Qo I=s->∃hr:i<I.2.2.2.length,okO I.2.2.2[i]/\ws[a+1+i]=wOut I.2.2.2[i]:=fun I h1 J=>by
     have h5:=hol I h1 J
     have hr:i<I.2.2.2.length:=by omega
     refine⟨hr,(U I h1 J).1.out _ (aLl hr),?_⟩;have h6:(ws.drop a)[1+i]? = some ws[a+1+i]:=by rw[List.getElem?_drop,<-Nat.add_assoc,aLf hlt]
     rw[htl I h1 J,Nat.add_comm 1 i,List.getElem?_cons_succ,List.getElem?_map,aLf hr] at h6;simpa using h6.symm
    refine Y.grd (Qf _ _ hlt) (Y.eqb (J7 _ 61 (by unfold LIM;omega)) (Y.bif (fun h5=>Y.some ⟨rfl,fun I h1 J=>?_⟩) (fun h5=>?_)))
    ·obtain⟨_,ho,e⟩:=hoc I h1 J
     rw[e,QxB ho] at h5;simp at h5
    ·have h2l:(cuts 61 ws[a+1+i]).length=2:=by simp at h5;omega
     have w0:=Jt 61 ws[a+1+i] 0
     have w1:=Jt 61 ws[a+1+i] 1
     have hsl:(swp 95 32 (List.getD (cuts 61 ws[a+1+i]) (Int.toNat 1) [])).length<=300:=by
      unfold swp;rw[List.length_map];show (List.getD (cuts 61 ws[a+1+i]) 1 []).length<=_;omega
     refine Y.grd (QP (by omega) (by omega)) (Y.bind (Qws (List.getD (cuts 61 ws[a+1+i]) (Int.toNat 0) []) 7 (by show (List.getD (cuts 61 ws[a+1+i]) 0 []).length<_;omega)) (fun v hv=>Y.grd (QP (by omega) (by omega)) (Y.eqb (Qxw _ 95 32 (by show (List.getD (cuts 61 ws[a+1+i]) 1 []).length<=_;omega)) (Y.bind (QBL _ (by omega)) (fun r hr=>?_)))))
     have hvr:∀I,mTxF I=0->Qo I=s->∃hr:i<I.2.2.2.length,v=(I.2.2.2[i].1,true)/\r=(I.2.2.2[i].2,true):=fun I h1 J=>by
      obtain⟨hr',ho,e⟩:=hoc I h1 J;have ec:cuts 61 ws[a+1+i]=[Lib.itoa I.2.2.2[i].1,Qs I.2.2.2[i].2 [95]]:=by rw[e];exact QxB ho
      have hv1:=ho.1
      refine⟨hr',hv _ (by omega) (by omega) (by rw[ec];rfl) (QoQ _ 7 (by omega) (by omega) (by omega)),hr.2 _ ho.2 ?_⟩
      rw[ec];exact (QwE (Y0 ho.2) QzP).symm
     refine Y.bind (Q:=fun j=>∀I,mTxF I=0->Qo I=s->j=true) ?_ (fun j hj3=>?_)
     ·refine Y.bif (fun h6=>Y.some (fun I h1 J=>?_)) (fun h6=>Y.some (fun I h1 J=>?_))
      ·obtain⟨_,_,e⟩:=hvr I h1 J;rw[e]
      ·obtain⟨_,e,_⟩:=hvr I h1 J;rw[e] at h6;cases h6
     ·refine Y.grd (ZC _ _ (by show acc.length<_;omega)) (Y.some ⟨ws.length - (a+1+(i+1)),by omega,i+1,?_,by omega,rfl,hil,by show (List.append acc [_]).length=_;simp[hac],fun o ho=>?_,fun I h1 J=>⟨hj3 I h1 J,?_⟩⟩)
      ·show IntKind.wrap .i64 (((a+1+i:Nat):Int)+1)=_
       rw[wsucc hlt (by omega)];rfl
      ·rcases List.mem_append.1 (show o ∈ acc++[(v.1,r.1)] from ho) with ho | ho
       ·exact hkl o ho
       ·rw[aLs] at ho;subst ho
        have:=hr.1
        show r.1.1.length<=_
        omega
      ·obtain⟨hr',e1,e2⟩:=hvr I h1 J
       have hc2:=(hcomp I h1 J).2
       simp only[aLe] at hc2;show (k',m',il,List.append acc [(v.1,r.1)])=_
       rw[e1,e2,hc2.1,hc2.2.1,hc2.2.2.1,hc2.2.2.2,List.take_add_one,aLf hr'];rfl
   ·obtain⟨c1,c2⟩:=hcomp I h1 J
    have c1':ok=true:=c1
    rcases hj2.2 h4 with h5 | h5
    ·have h6:=hol I h1 J
     obtain rfl:i=I.2.2.2.length:=by omega
     rw[List.take_length] at c2;have c2:(k',m',il,acc)=I:=c2
     show (ok,k',m',il,acc)=_
     rw[c1',c2]
    ·rw[c1'] at h5;cases h5
  cases r with
  | inr x=>exact Y.some (by obtain⟨b,t⟩:=x;have h1:b=false:=hr.1;subst h1;exact hno _ hr.2)
  | inl x=>
   obtain⟨r1,r2,r3,r4⟩:=hr;have hb:bT x.2:=⟨by omega,by omega,fun o ho=>by have:=r3 o ho;omega⟩
   refine Y.bind (Q:=fun (y:Bool×TX)=>TxQ s (y.2,y.1)) ?_ (fun y hy=>Y.some hy)
   refine Y.bif (fun h=>Y.eqb (Qfm x.2 hb) (Y.bif (fun h3=>?_) (fun h3=>Y.some (hno _ fun I h1 J=>?_)))) (fun h=>Y.some (hno _ fun I h1 J=>?_))
   ·have h0:mTxF x.2=0:=by simpa using h3
    refine Y.eqb (QnD (ZS h0)) (Y.bif (fun h4=>Y.some ⟨fun _=>⟨h0,by simpa using h4⟩,fun I h1 J=>?_⟩) (fun h4=>Y.some (hno _ fun I h1 J=>?_)))
    ·show (x.2,decide ((s.length:Int)<=300))=_
     rw[r4 I h1 J,aLE (by omega)]
    ·rw[r4 I h1 J] at h4
     simp[J] at h4
   ·rw[r4 I h1 J] at h3
    simp[h1] at h3
   ·rw[r4 I h1 J] at h;cases h
end GL
end Go.Dx
set_option maxHeartbeats 2000000
namespace Go.Dx
namespace GL
open Classical in
noncomputable def rdTx (s:List UInt8):Option TX:=if h:∃t,mTxF t=0/\Qo t=s then some h.choose else none
theorem Qld {s:List UInt8} {t:TX} (h:rdTx s=some t):mTxF t=0/\Qo t=s:=by
 unfold rdTx at h;split at h
 ·rename_i hh
  cases h;exact hh.choose_spec
 ·cases h
theorem QBB {s:List UInt8} (h:rdTx s=none) (t:TX) (h1:mTxF t=0) (I:Qo t=s):False:=by
 unfold rdTx at h;split at h
 ·cases h
 ·rename_i hh;exact hh ⟨t,h1,I⟩
theorem QDG {s:List UInt8} {x:TX×Bool} (h:TxQ s x):(∀t,rdTx s=some t->x=(t,true))/\(rdTx s=none->x.2=false):=by
 refine⟨fun t ht=>h.2 t (Qld ht).1 (Qld ht).2,fun hn=>?_⟩
 cases I:x.2 with
 | false=>rfl
 | true=>exact (QBB hn _ (h.1 I).1 (h.1 I).2).elim
structure okL (l:TL):Prop where
 n1:l.1.length<=60
 n2:l.2.length<=120
 txt:∀s,s ∈ l.1->1<=s.length/\s.length<=300
theorem JA {l:TL} (h:mLF l=0):okL l:=by
 unfold mLF at h;split at h
 ·cases h
 ·rename_i h1
  simp only[Bool.or_eq_true,aLF,not_or] at h1;refine⟨by omega,by omega,fun s hs=>?_⟩
  by_cases I:code (mTx l.1) l.1=0
  ·obtain⟨i,hi,rfl⟩:=List.mem_iff_getElem.1 hs
   have J:=J4 I i _ (aLf hi)
   unfold mTx at J;cases U:mIn (l.1[i].length:Int) 1 300 with
   | false=>rw[U] at J;simp at J
   | true=>rw[Qq] at U;omega
  ·rw[if_neg I] at h;exact absurd h I
def noT:TX:=(0,(0,([],[])))
noncomputable def mTI (l:TL) (id:Int):TX×Int:=if mIn id 1 (l.1.length:Int) then (match rdTx (List.getD l.1 (Int.toNat (IntKind.wrap .i64 (id - 1))) []) with | some t=>(t,0) | none=>(noT,5)) else (noT,3)
theorem QoN {l:TL} (h:okL l) (i:Nat):(List.getD l.1 i []).length<=300:=by
 rw[aLk];cases I:l.1[i]? with
 | none=>simp
 | some s=>exact (h.txt s (List.mem_of_getElem? I)).2
theorem Qwu {l:TL} (h:okL l) {id:Int} (hi:mIn id 1 (l.1.length:Int)=true):inB (IntKind.wrap .i64 (id - 1)) l.1=true:=by
 rw[Qq] at hi;have:=h.n1
 rw[Qe (by omega) (by omega)]
 exact QP (by omega) (by omega)
theorem QiI {l:TL} (h:okL l) (id:Int):Ys l id=some (mTI l id):=by
 unfold Ys Jm QbJ mTI;rw[Zk];simp only[aLc];cases hi:mIn id 1 (l.1.length:Int) with
 | false=>rfl
 | true=>
  simp only[Bool.not_true,aLC,Qwu h hi,aLB,aLc,decide_true,if_true];obtain⟨x,J,U⟩:=QCG _ (QoN h (Int.toNat (IntKind.wrap .i64 (id - 1))));obtain⟨r1,r2⟩:=QDG U;rw[J,aLc];cases I:rdTx (List.getD l.1 (Int.toNat (IntKind.wrap .i64 (id - 1))) []) with
  | none=>rw[r2 I];rfl
  | some t=>rw[r1 t I];rfl
theorem QpA {l:TL} (h:mLF l=0) (id:Int):QbX l id=some ((mTI l id).2,(mTI l id).1):=by
 have ho:=JA h
 have hB:BIG=4611686018427387904:=rfl
 unfold QbX Qbv QdN Qib mTI;rw[Y1 l (by have:=ho.n1;omega) (by have:=ho.n2;omega),aLc,h,Zf]
 simp only[decide_true,Bool.not_true,aLC,aLc];cases hi:mIn id 1 (l.1.length:Int) with
 | false=>rfl
 | true=>
  simp only[Bool.not_true,aLC,Qwu ho hi,aLB,aLc,decide_true,if_true];obtain⟨x,J,U⟩:=QBj _ (QoN ho (Int.toNat (IntKind.wrap .i64 (id - 1))));obtain⟨r1,r2⟩:=QDG U;rw[J,aLc];cases I:rdTx (List.getD l.1 (Int.toNat (IntKind.wrap .i64 (id - 1))) []) with
  | none=>rw[r2 I];rfl
  | some t=>rw[r1 t I];rfl
theorem Qdj {l:TL} {id:Int} (h:(mTI l id).2=0):mTxF (mTI l id).1=0:=by
 unfold mTI at h ⊢;split
 ·rename_i h1
  rw[if_pos h1] at h;split
  ·rename_i t ht;exact (Qld ht).1
  ·rename_i ht;rw[ht] at h;cases h
 ·rename_i h1;rw[if_neg h1] at h;cases h
theorem QzW (n k:Nat) (hk:k<=n) (f:Int×Int->Option ((Int×Int)⊕Int))
  (hs:∀lo hi:Nat,lo<hi->hi<=n->f ((lo:Int),(hi:Int))=some (.inl (if (lo+hi) / 2<k then ((((lo+hi) / 2+1:Nat):Int),(hi:Int)) else ((lo:Int),(((lo+hi) / 2:Nat):Int)))))
  (he:∀lo:Nat,f ((lo:Int),(lo:Int))=some (.inr (lo:Int))):Qd f (0,(n:Int))=some (k:Int):=by
 have key:∀(d lo hi:Nat),hi - lo<=d->lo<=k->k<=hi->hi<=n->Qd f ((lo:Int),(hi:Int))=some (k:Int):=by
  intro d;induction d with
  | zero=>
   intro lo hi h1 J U I;obtain rfl:lo=k:=by omega
   obtain rfl:lo=hi:=by omega
   exact QM (he lo)
  | succ d ih=>
   intro lo hi h1 J U I;by_cases h:lo<hi
   ·rw[Ze (hs lo hi h I)]
    by_cases hm:(lo+hi) / 2<k
    ·rw[if_pos hm];exact ih _ _ (by omega) (by omega) U I
    ·rw[if_neg hm];exact ih _ _ (by omega) J (by omega) (by omega)
   ·obtain rfl:lo=hi:=by omega
    obtain rfl:lo=k:=by omega
    exact QM (he lo)
 exact key n 0 n (by omega) (by omega) hk (by omega)
theorem QBX {lo hi:Nat} (h:lo+hi<4611686018427387904):IntKind.wrap .i64 (Int.fdiv (IntKind.wrap .u64 (IntKind.wrap .i64 ((lo:Int)+(hi:Int)))) (2 ^ 1))=(((lo+hi) / 2:Nat):Int):=by
 rw[Qe (n:=(lo:Int)+(hi:Int)) (by omega) (by omega)]
 have e:IntKind.wrap .u64 ((lo:Int)+(hi:Int))=(lo:Int)+(hi:Int):=by
  simp[IntKind.wrap,IntKind.bits,IntKind.signed];omega
 rw[e];have I:Int.fdiv ((lo:Int)+(hi:Int)) (2 ^ 1)=(((lo+hi) / 2:Nat):Int):=by
  rw[Int.fdiv_eq_ediv_of_nonneg _ (by decide)]
  show ((lo:Int)+(hi:Int)) / 2=_
  omega
 rw[I];exact Qe (by omega) (by omega)
theorem Qp9 (n:Nat) (p:Nat->Bool) (hm:∀i j,i<=j->j<n->p j=true->p i=true):∃k,k<=n/\(∀i,i<k->p i=true)/\(∀i,k<=i->i<n->p i=false):=by
 induction n with
 | zero=>exact⟨0,by omega,fun i hi=>by omega,fun i h1 U=>by omega⟩
 | succ n ih=>
  obtain⟨k,h1,U,h3⟩:=ih fun i j I hj=>hm i j I (by omega)
  by_cases hp:p n=true
  ·refine⟨n+1,by omega,fun i hi=>hm i n (by omega) (by omega) hp,fun i h4 h5=>by omega⟩
  ·refine⟨k,by omega,U,fun i h4 h5=>?_⟩
   by_cases J:i=n
   ·subst J;simpa using hp
   ·exact h3 i h4 (by omega)
theorem QbT {a b c:Int×Int} (h1:Qw a b=true) (I:Qw b c=true):Qw a c=true:=by
 unfold Qw at *;split at h1<;>split at I<;>split<;>simp at *<;>omega
theorem Yr (a:Int×Int):Qw a a=false:=by unfold Qw;simp
theorem Qy4 {a b:Int×Int} (h:Qw a b=true):Qw b a=false:=by
 cases I:Qw b a with
 | false=>rfl
 | true=>have:=QbT h I;rw[Yr] at this;cases this
theorem Qol {a b:Int×Int} (h1:Qw a b=false) (I:Qw b a=false):a=b:=by
 obtain⟨J,a2⟩:=a;obtain⟨U,b2⟩:=b;unfold Qw at *;simp only at h1 I;by_cases h:J=U
 ·rw[if_pos h] at h1;rw[if_pos h.symm] at I
  simp at h1 I;rw[h,show a2=b2 by omega]
 ·rw[if_neg h] at h1;rw[if_neg (fun e=>h e.symm)] at I
  simp at h1 I;omega
theorem Qxp (a b:Int×Int):decide (Qhq a b<0)=Qw a b:=by
 have:=QrE a b
 cases h:Qw a b with
 | false=>rw[h] at this;simp at this ⊢;omega
 | true=>rw[h] at this;simp at this ⊢;omega
theorem QCi (a b:Int×Int):decide (Qhq a b=0)=decide (a=b):=by
 obtain⟨U,a2⟩:=a;obtain⟨b1,b2⟩:=b;unfold Qhq mCmp;refine decide_eq_decide.2 ?_;simp only[aLe];by_cases h1:U<b1
 ·simp[h1];omega
 ·by_cases I:b1<U
  ·simp[h1,I];omega
  ·by_cases J:a2<b2
   ·simp[h1,I,J];omega
   ·by_cases h4:b2<a2
    ·simp[h1,I,J,h4];omega
    ·simp[h1,I,J,h4];omega
def Rise (l:List TCoin):Prop:=l.Pairwise fun a b=>Qw a.1 b.1=true
theorem Qj0 {l:List TCoin} (h:ZG l=0):Rise l:=by
 unfold ZG at h;by_cases J:(40:Int)<(l.length:Int)
 ·rw[if_pos J] at h;cases h
 ·rw[if_neg J] at h
  have step:∀i (hi:i+1<l.length),Qw (l[i]'(by omega)).1 l[i+1].1=true:=fun i hi=>by
   have I:=J4 h (i+1) _ (aLf hi)
   unfold Qk4 at I;cases h1:mRef l[i+1].1&&mIn l[i+1].2.2.1 0 999 with
   | false=>rw[h1] at I;simp at I
   | true=>
    rw[h1,if_pos rfl] at I;by_cases U:mOut l[i+1].2.1=0
    ·rw[if_pos U,Nat.add_sub_cancel,aLk,aLf (by omega:i<l.length)] at I
     cases h3:Qw (l[i]'(by omega)).1 l[i+1].1 with
     | true=>rfl
     | false=>
      simp only[Option.getD_some] at I;simp[h3] at I
    ·rw[if_neg U] at I;exact absurd I U
  unfold Rise;rw[List.pairwise_iff_getElem];intro i j hi hj hij;obtain⟨d,rfl⟩:∃d,j=i+1+d:=⟨j - (i+1),by omega⟩
  induction d with
  | zero=>exact step i hj
  | succ d ih=>exact QbT (ih (by omega) (by omega)) (step (i+1+d) hj)
theorem Qif {l:List TCoin} (h:Rise l) {i j:Nat} (I:i<j) (J:j<l.length):Qw (l[i]'(by omega)).1 l[j].1=true:=List.pairwise_iff_getElem.1 h i j (by omega) J I
theorem QmV {l:List TCoin} (h:Rise l) {a b:TCoin} (I:a ∈ l) (hb:b ∈ l) (he:a.1=b.1):a=b:=by
 obtain⟨i,hi,rfl⟩:=List.mem_iff_getElem.1 I;obtain⟨j,J,rfl⟩:=List.mem_iff_getElem.1 hb;rcases Nat.lt_trichotomy i j with h1 | h1 | h1
 ·have:=Qif h h1 J;rw[he,Yr] at this;cases this
 ·subst h1;rfl
 ·have:=Qif h h1 hi;rw[he,Yr] at this;cases this
theorem QqH {l:List TCoin} (hr:Rise l) (hl:l.length<=1000000) (r:Int×Int):∃k:Nat,Qaj l r=some ((k:Int),decide (∃h:k<l.length,(l[k]'h).1=r))/\((∃h:k<l.length,(l[k]'h).1=r)\/∀x,x ∈ l->x.1 ≠ r):=by
 obtain⟨k,h1,h2,h3⟩:=Qp9 l.length (fun i=>Qw (List.getD l i dC).1 r) (fun i j hij hj hp=>by
  rcases Nat.lt_or_ge i j with h | h
  ·have hi:i<l.length:=by omega
   have:=Qif hr h hj
   have e1:List.getD l i dC=l[i]:=by rw[aLk,aLf hi];rfl
   have e2:List.getD l j dC=l[j]:=by rw[aLk,aLf hj];rfl
   simp only[e1,e2] at hp ⊢;exact QbT this hp
  ·obtain rfl:i=j:=by omega
   exact hp)
 have I:∀i (hi:i<l.length),List.getD l i dC=l[i]:=fun i hi=>by rw[aLk,aLf hi];rfl
 refine⟨k,?_,?_⟩
 ·unfold Qaj Q7
  have hcmp:∀(x:TCoin),((QbB x r).bind fun r7=>some r7)=some (Qhq x.1 r):=fun x=>by
   unfold QbB;rw[Qey];rfl
  simp only[hcmp,aLc];rw[QzW l.length k h1 _ (fun lo hi hlo hhi=>?_) (fun lo=>by simp only[Int.lt_irrefl,decide_false,aLC]),aLc]
  ·by_cases hk:k<l.length
   ·have hd:List.getD l (Int.toNat (k:Int)) dC=l[k]:=by rw[Int.toNat_natCast];exact I k hk
    rw[dlt hk,aLB,Qf l k hk,aLB];show some ((k:Int),decide (Qhq (List.getD l (Int.toNat (k:Int)) dC).1 r=0))=_
    rw[hd,QCi];congr 2;exact decide_eq_decide.2 ⟨fun h=>⟨hk,h⟩,fun ⟨_,h⟩=>h⟩
   ·have hf:decide (∃h:k<l.length,(l[k]'h).1=r)=false:=aLD (fun ⟨h,_⟩=>hk h)
    rw[dge' (by omega),aLC,aLc,hf];rfl
  ·have hm:=QBX (lo:=lo) (hi:=hi) (by omega)
   have J:(lo+hi) / 2<l.length:=by omega
   simp only[hm];rw[aLE (by omega),aLB,Qf l _ J,aLB]
   have hd:List.getD l (Int.toNat (((lo+hi) / 2:Nat):Int)) ((0,0),((0,([],(0,0))),(0,false)))=l[(lo+hi) / 2]:=by rw[Int.toNat_natCast];exact I _ J
   rw[hd,Qxp,wsucc J (by unfold BIG;omega)]
   by_cases U:(lo+hi) / 2<k
   ·have:=h2 _ U
    rw[I _ J] at this;rw[this,if_pos U];rfl
   ·have:=h3 _ (by omega) J
    rw[I _ J] at this;rw[this,if_neg U];rfl
 ·by_cases hf:∃h:k<l.length,(l[k]'h).1=r
  ·exact .inl hf
  ·refine .inr fun x hx he=>hf ?_
   obtain⟨i,hi,rfl⟩:=List.mem_iff_getElem.1 hx;have hik:¬i<k:=fun h=>by
    have:=h2 i h
    rw[I i hi,he,Yr] at this;cases this
   refine⟨by omega,?_⟩
   rcases Nat.lt_or_ge k i with h | h
   ·have h4:=Qif hr h hi
    have h5:=h3 k (Nat.le_refl _) (by omega)
    rw[I k (by omega)] at h5
    rw[he] at h4;rw[h4] at h5;cases h5
   ·obtain rfl:i=k:=by omega
    exact he
end GL
end Go.Dx
set_option maxHeartbeats 2000000
namespace Go.Dx
namespace GL
theorem Qpm (l:List Int) (hl:l.length<=LIM):ZR l=some l:=by
 unfold ZR;rw[QfW hl,aLB];cases l with
 | nil=>exact QjO _
 | cons a l=>rfl
theorem Qnr (o:TOut) (h:o.2.1.length<=1000000):Qdo o=some o:=by
 unfold Qdo Qiu;rw[Qpm _ (by unfold LIM;omega)];rfl
theorem Qed (l:List TCoin) (hl:l.length<=1000000) (hk:∀x,x ∈ l->x.2.1.2.1.length<=1000000):Jf l=some l:=by
 unfold Jf;rw[ZQ (σ:=List TCoin) l (fun acc a=>acc++[a]) (fun t i=>(t,i)) (fun t=>t) (fun t i=>t.length=i) _ (fun i hi t ht=>by
   refine⟨?_,by simp[ht]⟩
   simp only[dlt hi,Qf _ i hi,Qc _ i _ hi,aLB,Qnr _ (hk _ (aLl hi)),aLc,wsucc hi (by unfold BIG;omega)]
   rw[Qr (by simp only[aLh,aLj];unfold LIM;omega)];rfl) (fun t ht=>by simp only[dge,aLC]) [] rfl,aLc,foldl_map (fun a=>a),List.map_id',aLx]
theorem Qdt (l:List TCoin) (hl:l.length<=1000000) (hk:∀x,x ∈ l->x.2.1.2.1.length<=1000000):Qaw l=some l:=by
 unfold Qaw;have I:∀r:TRu,r.1.length<=1000000->Qaz r=some r:=fun r J=>by
  unfold Qaz;rw[QfW (by unfold LIM;omega)];rfl
 rw[ZQ (σ:=List TCoin) l (fun acc a=>acc++[a]) (fun t i=>(t,i)) (fun t=>t) (fun t i=>t.length=i) _ (fun i hi t ht=>by
   refine⟨?_,by simp[ht]⟩
   simp only[dlt hi,Qf _ i hi,Qc _ i _ hi,aLB,I _ (hk _ (aLl hi)),aLc,wsucc hi (by unfold BIG;omega)]
   rw[Qr (by simp only[aLh,aLj];unfold LIM;omega)];rfl) (fun t ht=>by simp only[dge,aLC]) [] rfl,aLc,foldl_map (fun a=>a),List.map_id',aLx]
def mSp (c:List TCoin) (t:TX):List TCoin:=c.filter fun x=>decide (x.1 ∈ t.2.2.1)
theorem QdL {c:List TCoin} (h:ZG c=0):∀x,x ∈ c->x.2.1.2.1.length<=1000000:=fun x I=>by
 have:=(Y0 ((Qdy h).2 x I).rule).len;omega
theorem Qih {c:List TCoin} (h:ZG c=0) (t:TX) (ht:t.2.2.1.length<=1000000):QaU c t=some (mSp c t,decide ((mSp c t).length=t.2.2.1.length)):=by
 have hl:=(Qdy h).1
 unfold QaU mSp;rw[ZQ (σ:=List TCoin) c (fun acc a=>if decide (a.1 ∈ t.2.2.1) then acc++[a] else acc) (fun t i=>(t,i)) (fun t=>t) (fun t i=>t.length<=i) _ (fun i hi x I=>by
   refine⟨?_,by split<;>(try simp only[aLi,aLh,aLj])<;>omega⟩
   simp only[dlt hi,Qf _ i hi,Qc _ i _ hi,aLB,Yy t.2.2.1 (by unfold BIG;omega),aLc,wsucc hi (by unfold BIG;omega)]
   rw[Qr (by simp only[aLh,aLj];unfold LIM;omega)]
   cases decide (c[i].1 ∈ t.2.2.1)<;>rfl) (fun t ht=>by simp only[dge,aLC]) [] (Nat.le_refl _),aLc,foldl_filter,aLx]
 rw[Qdt _ (by have:=List.length_filter_le (fun x:TCoin=>decide (x.1 ∈ t.2.2.1)) c;omega) (fun x I=>QdL h x (List.mem_filter.1 I).1),aLc]
 congr 2;exact decide_eq_decide.2 (by omega)
theorem QqP {c xs ys:List TCoin} (hc:Rise c) (hx:∀x,x ∈ xs->x ∈ c) (hp:ys.Perm xs) (hy:Rise ys) (hl:xs.length<=1000000):QdB xs=some ys:=by
 unfold QdB Z8;have hg:∀a b:TCoin,((YX a b).bind fun U=>some U)=some (Qhq a.1 b.1):=fun a b=>by
  unfold YX;rw[Qey];rfl
 have I:∀a b:TCoin,Qd3 (fun a b=>(YX a b).bind fun U=>some U) a b=Qw a.1 b.1:=fun a b=>by
  unfold Qd3;simp only[hg];exact Qxp a.1 b.1
 have hso:Qmi (fun a b=>(YX a b).bind fun U=>some U) xs:=by
  refine⟨fun a _ b _=>⟨_,hg a b⟩,fun a _=>by rw[I];exact Yr _,fun a _ b _ d _ h1 J=>?_,fun a _ b _ d _ h1 J=>?_,fun a ha b hb h1 J=>?_,by omega⟩
  ·rw[I] at h1 J ⊢;exact QbT h1 J
  ·rw[I] at h1 J ⊢
   cases h3:Qw a.1 d.1 with
   | false=>rfl
   | true=>
    cases h4:Qw d.1 b.1 with
    | true=>have:=QbT h3 h4;rw[h1] at this;cases this
    | false=>
     have e:=Qol J h4
     rw[e] at h1;rw[h3] at h1;cases h1
  ·rw[I] at h1 J
   exact QmV hc (hx a ha) (hx b hb) (Qol h1 J)
 have hss:Sorts (fun a b=>(YX a b).bind fun U=>some U) xs ys:=⟨hp,List.Pairwise.imp (fun {a b} h=>by rw[I];exact Qy4 h) hy⟩
 rw[QDu hso hss];rfl
def atC (c:List TCoin) (r:Int×Int):Option TCoin:=c.find? fun x=>decide (x.1=r)
theorem Qia {c:List TCoin} {r:Int×Int} {x:TCoin} (h:atC c r=some x):x ∈ c/\x.1=r:=⟨List.mem_of_find?_eq_some h,by simpa using List.find?_some h⟩
theorem QBM {c:List TCoin} (J:Rise c) {x:TCoin} (I:x ∈ c):atC c x.1=some x:=by
 cases h:atC c x.1 with
 | none=>
  unfold atC at h;rw[List.find?_eq_none] at h;exact absurd (by simp) (h x I)
 | some y=>
  obtain⟨h1,U⟩:=Qia h;rw[QmV J h1 I U]
theorem QCD {c:List TCoin} {r:Int×Int} (h:∀x,x ∈ c->x.1 ≠ r):atC c r=none:=by
 unfold atC;rw[List.find?_eq_none];intro x I;simpa using h x I
theorem Qz3 {c:List TCoin} (J:Rise c) (rs:List (Int×Int)) (hn:rs.Nodup):(c.filter fun x=>decide (x.1 ∈ rs)).Perm (rs.filterMap (atC c)):=by
 have n1:(c.filter fun x=>decide (x.1 ∈ rs)).Nodup:=by
  rw[List.nodup_iff_pairwise_ne];exact List.Pairwise.sublist List.filter_sublist (List.Pairwise.imp (fun {a b} h e=>by rw[e,Yr] at h;cases h) J)
 have n2:(rs.filterMap (atC c)).Nodup:=by
  rw[List.nodup_iff_pairwise_ne,List.pairwise_filterMap];rw[List.nodup_iff_pairwise_ne] at hn;refine List.Pairwise.imp (fun {a b} h x U y hy e=>h ?_) hn
  rw[<-(Qia U).2,<-(Qia hy).2,e]
 refine (List.perm_ext_iff_of_nodup n1 n2).2 fun x=>?_
 rw[List.mem_filter,List.mem_filterMap];constructor
 ·rintro ⟨h1,I⟩
  exact⟨x.1,aLG I,QBM J h1⟩
 ·rintro ⟨r,h1,I⟩
  obtain⟨h3,h4⟩:=Qia I;exact⟨h3,aLE (h4 ▸ h1)⟩
theorem Qiv {c:List TCoin} (I:Rise c) (p:TCoin->Bool):Rise (c.filter p):=List.Pairwise.sublist List.filter_sublist I
theorem Qiw {c:List TCoin} (h:ZG c=0) (t:TX) (ht:okT t):QaY c t=some (if (mSp c t).length=t.2.2.1.length then (mSp c t,0) else ([],4)):=by
 have hl:=(Qdy h).1
 have U:=Qj0 h
 have hp:=Qz3 U t.2.2.1 ht.nd
 have hli:=ht.li
 have J:∀r:Int×Int,∃k:Int,∃b,Qaj c r=some (k,b)/\(b=true->∃x,atC c r=some x/\inB k c=true/\List.getD c (Int.toNat k) ((0,0),((0,([],(0,0))),(0,false)))=x)/\(b=false->atC c r=none):=fun r=>by
  obtain⟨k,hk,hor⟩:=QqH U (by omega) r
  refine⟨k,_,hk,fun hb=>?_,fun hb=>?_⟩
  ·obtain⟨h1,h2⟩:=aLG hb
   exact⟨c[k],by rw[<-h2];exact QBM U (aLl h1),Qf c k h1,Qc c k _ h1⟩
  ·rcases hor with h1 | h1
   ·exact absurd h1 (aLH hb)
   ·exact QCD h1
 have loop:∀(f:List TCoin×Int->Option ((List TCoin×Int)⊕(List TCoin⊕(List TCoin×Int)))),
   (∀(i:Nat) (hi:i<t.2.2.1.length) (acc:List TCoin),acc.length<=i->f (acc,(i:Int))=some (match atC c t.2.2.1[i] with | some x=>.inl (acc++[x],((i+1:Nat):Int)) | none=>.inr (.inr ([],4))))->(∀acc,f (acc,(t.2.2.1.length:Int))=some (.inr (.inl acc)))->
   Qd f ([],0)=some (if (mSp c t).length=t.2.2.1.length then .inl (t.2.2.1.filterMap (atC c)) else .inr ([],4)):=by
  intro f hs he;have key:∀(k i:Nat) (acc:List TCoin),i+k=t.2.2.1.length->acc.length<=i->Qd f (acc,(i:Int))=some (if ((t.2.2.1.drop i).filterMap (atC c)).length=k then .inl (acc++(t.2.2.1.drop i).filterMap (atC c)) else .inr ([],4)):=by
   intro k;induction k with
   | zero=>
    intro i acc hi ha;obtain rfl:i=t.2.2.1.length:=by omega
    rw[QM (he acc)];simp
   | succ k ih=>
    intro i acc hi ha;have hlt:i<t.2.2.1.length:=by omega
    have h1:=hs i hlt acc ha
    rw[aLr hlt];have hle:=List.length_filterMap_le (atC c) (t.2.2.1.drop (i+1))
    rw[aLz] at hle;cases I:atC c t.2.2.1[i] with
    | none=>
     rw[I] at h1;rw[QM h1,List.filterMap_cons_none I,if_neg (by omega)]
    | some x=>
     rw[I] at h1;rw[Ze h1,ih (i+1) _ (by omega) (by simp;omega),List.filterMap_cons_some I]
     by_cases hk:((t.2.2.1.drop (i+1)).filterMap (atC c)).length=k
     ·rw[if_pos hk,if_pos (by simp;omega)];simp
     ·rw[if_neg hk,if_neg (by simp;omega)]
  have:=key t.2.2.1.length 0 [] (by omega) (by simp)
  rw[List.drop_zero,aLx,<-hp.length_eq] at this;exact this
 unfold QaY;rw[loop _ (fun i hi acc ha=>?_) (fun acc=>by simp only[dge,aLC]),aLc]
 ·by_cases hlen:(mSp c t).length=t.2.2.1.length
  ·rw[if_pos hlen,if_pos hlen]
   have hm:∀x,x ∈ t.2.2.1.filterMap (atC c)->x ∈ c:=fun x I=>by
    obtain⟨r,_,h2⟩:=List.mem_filterMap.1 I;exact (Qia h2).1
   have hfl:=List.length_filterMap_le (atC c) t.2.2.1
   rw[Sum.elim_inl,Qed _ (by omega) (fun x I=>QdL h x (hm x I)),aLc,QqP U hm hp (Qiv U _) (by omega)]
   rfl
  ·rw[if_neg hlen,if_neg hlen];rfl
 ·obtain⟨k,b,e1,e2,e3⟩:=J t.2.2.1[i]
  simp only[dlt hi,Qf _ i hi,Qc _ i _ hi,aLB,e1,aLc,wsucc hi (by unfold BIG;omega)]
  cases b with
  | false=>rw[e3 rfl];rfl
  | true=>
   obtain⟨x,h1,h2,h3⟩:=e2 rfl;rw[h1,h2,h3];simp only[Bool.not_true,aLC,aLB];rw[Qr (by simp only[aLh,aLj];unfold LIM;omega)];rfl
end GL
end Go.Dx
set_option maxHeartbeats 2000000
namespace Go.Dx
namespace GL
def mCnt (l:TL) (I:List Int) (id:Int):Int:=I.foldl (fun n k=>if decide ((k,id) ∈ l.2) then IntKind.wrap .i64 (n+1) else n) 0
def mMet (l:TL) (r:TRu) (id h:Int):Int:=if h<r.2.2 then 9 else if mCnt l r.1 id<r.2.1 then 6 else 0
theorem QuE {l:TL} (hl:okL l) (k id:Int):Yl l k id=some (decide ((k,id) ∈ l.2)):=by
 unfold Yl;rw[Qk0 _ (by have:=hl.n2;unfold BIG;omega)];rfl
theorem QzV {l:TL} (hl:okL l) (k id:Int):Qcm l k id=some (decide ((k,id) ∈ l.2)):=by
 unfold Qcm;rw[QhF _ (by have:=hl.n2;unfold BIG;omega)];rfl
theorem QBZ {l:TL} (hl:okL l) (r:TRu) (J:r.1.length<BIG) (id h:Int):Qaq l r id h=some (mMet l r id h):=by
 unfold Qaq mMet;by_cases h1:h<r.2.2
 ·rw[aLE h1,if_pos h1];rfl
 ·rw[aLD h1,if_neg h1,aLC]
  rw[ZQ (σ:=Int) r.1 (fun n k=>if decide ((k,id) ∈ l.2) then IntKind.wrap .i64 (n+1) else n) (fun t i=>(t,i)) (fun t=>t) (fun _ _=>True) _ (fun i hi x U=>by
    refine⟨?_,trivial⟩;simp only[dlt hi,Qf _ i hi,Qc _ i _ hi,aLB,QuE hl,aLc,wsucc hi J];cases decide ((r.1[i],id) ∈ l.2)<;>rfl) (fun t ht=>by simp only[dge,aLC]) 0 trivial,aLc]
  show (bif decide (mCnt l r.1 id<r.2.1) then some (6:Int) else some 0)=_
  by_cases I:mCnt l r.1 id<r.2.1
  ·rw[aLE I,if_pos I];rfl
  ·rw[aLD I,if_neg I];rfl
theorem QDT {l:TL} (hl:okL l) (r:TRu) (J:r.1.length<BIG) (id h:Int):Qha l r id h=some (mMet l r id h):=by
 unfold Qha mMet;by_cases h1:h<r.2.2
 ·rw[aLE h1,if_pos h1];rfl
 ·rw[aLD h1,if_neg h1,aLC]
  rw[ZQ (σ:=Int) r.1 (fun n k=>if decide ((k,id) ∈ l.2) then IntKind.wrap .i64 (n+1) else n) (fun t i=>(t,i)) (fun t=>t) (fun _ _=>True) _ (fun i hi x U=>by
    refine⟨?_,trivial⟩;simp only[dlt hi,Qf _ i hi,Qc _ i _ hi,aLB,QzV hl,aLc,wsucc hi J];cases decide ((r.1[i],id) ∈ l.2)<;>rfl) (fun t ht=>by simp only[dge,aLC]) 0 trivial,aLc]
  show (bif decide (mCnt l r.1 id<r.2.1) then some (6:Int) else some 0)=_
  by_cases I:mCnt l r.1 id<r.2.1
  ·rw[aLE I,if_pos I];rfl
  ·rw[aLD I,if_neg I];rfl
def Qm3 (x:TCoin) (h:Int):Bool:=!x.2.2.2 || decide (IntKind.wrap .i64 (x.2.2.1+2)<=h)
theorem Qp7 (x:TCoin) (h:Int):Jv x h=some (Qm3 x h):=by
 unfold Jv Qm3;cases x.2.2.2<;>rfl
theorem QDj (x:TCoin) (h:Int) (h1:mIn x.2.2.1 0 999=true) (I:mIn h 0 999=true):Qgi x h=some (Qm3 x h):=by
 unfold Qgi Qm3;rw[QbA,QbA,h1,I];cases x.2.2.2<;>rfl
def mSum (l:List TCoin):Int:=l.foldl (fun n x=>IntKind.wrap .i64 (n+x.2.1.1)) 0
def Qgg (l:List TOut):Int:=l.foldl (fun n x=>IntKind.wrap .i64 (n+x.1)) 0
theorem QzA (l:List TCoin) (hl:l.length<BIG):Qhy l=some (mSum l)/\QgZ l=some (mSum l):=by
 constructor
 ·unfold Qhy
  rw[ZQ (σ:=Int) l (fun n x=>IntKind.wrap .i64 (n+x.2.1.1)) (fun t i=>(t,i)) (fun t=>t) (fun _ _=>True) _ (fun i hi x I=>by
    refine⟨?_,trivial⟩;simp only[dlt hi,Qf _ i hi,Qc _ i _ hi,aLB,aLc,wsucc hi hl]) (fun t ht=>by simp only[dge,aLC]) 0 trivial,aLc];rfl
 ·unfold QgZ
  rw[ZQ (σ:=Int) l (fun n x=>IntKind.wrap .i64 (n+x.2.1.1)) (fun t i=>(t,i)) (fun t=>t) (fun _ _=>True) _ (fun i hi x I=>by
    refine⟨?_,trivial⟩;simp only[dlt hi,Qf _ i hi,Qc _ i _ hi,aLB,aLc,wsucc hi hl]) (fun t ht=>by simp only[dge,aLC]) 0 trivial,aLc];rfl
theorem Qyi (t:TX) (hl:t.2.2.2.length<BIG):Qf9 t=some (Qgg t.2.2.2)/\QhK t=some (Qgg t.2.2.2):=by
 constructor
 ·unfold Qf9
  rw[ZQ (σ:=Int) t.2.2.2 (fun n x=>IntKind.wrap .i64 (n+x.1)) (fun t i=>(t,i)) (fun t=>t) (fun _ _=>True) _ (fun i hi x I=>by
    refine⟨?_,trivial⟩;simp only[dlt hi,Qf _ i hi,Qc _ i _ hi,aLB,aLc,wsucc hi hl]) (fun t ht=>by simp only[dge,aLC]) 0 trivial,aLc];rfl
 ·unfold QhK
  rw[ZQ (σ:=Int) t.2.2.2 (fun n x=>IntKind.wrap .i64 (n+x.1)) (fun t i=>(t,i)) (fun t=>t) (fun _ _=>True) _ (fun i hi x I=>by
    refine⟨?_,trivial⟩;simp only[dlt hi,Qf _ i hi,Qc _ i _ hi,aLB,aLc,wsucc hi hl]) (fun t ht=>by simp only[dge,aLC]) 0 trivial,aLc];rfl
def mC1 (l:TL) (id h:Int) (x:TCoin):Int:=if Qm3 x h then mMet l x.2.1.2 id h else 9
def Qre (l:TL) (sp:List TCoin) (t:TX) (id:Int):Int×Int:=if t.1=2/\(t.2.1,id) ∉ l.2 then (0,6) else if IntKind.wrap .i64 (mSum sp - Qgg t.2.2.2)<0 then (0,8) else (IntKind.wrap .i64 (mSum sp - Qgg t.2.2.2),0)
def Qhw (l:TL) (c:List TCoin) (t:TX) (id h:Int):Int×Int:=if (mSp c t).length=t.2.2.1.length then (if code (fun _=>mC1 l id h) (mSp c t)=0 then Qre l (mSp c t) t id else (0,code (fun _=>mC1 l id h) (mSp c t))) else (0,4)
def mId (l:TL) (s:List UInt8):Int:=idxF (fun a=>decide (a=s)) l.1+1
def mChk (l:TL) (c:List TCoin) (t:TX) (h:Int):Int×Int:=if (Qo t).length<=300 then (if mId l (Qo t)=0 then (0,4) else Qhw l c t (mId l (Qo t)) h) else (0,2)
theorem QrO {α R:Type} (l:List α) (c:α->Int) (f:Int->Option (Int⊕(Unit⊕(Int×Int))))
  (hs:∀(i:Nat) (h:i<l.length),f (i:Int)=some (if c l[i]=0 then .inl ((i+1:Nat):Int) else .inr (.inr (0,c l[i])))) (he:f (l.length:Int)=some (.inr (.inl ()))) (A:Unit->Option R) (B:Int×Int->Option R) :
  ((Qd f 0).bind fun j=>Sum.elim A B j)=if code (fun _=>c) l=0 then A () else B (0,code (fun _=>c) l):=by
 rw[QbD l (fun i a=>(if c a=0 then none else some (c a)).map fun v=>((0:Int),v)) f (fun i h=>by rw[hs i h];by_cases J:c l[i]=0<;>simp[J]) he,QmW,Qdg]
 by_cases I:code (fun _=>c) l=0
 ·rw[if_pos I]
  have U:=J4 I
  have:first (fun (_:Nat) a=>if c a=0 then none else some (c a)) 0 l=none:=(Qe3 l 0).2 (fun j a ha=>by rw[if_pos (U j a ha)])
  rw[this];rfl
 ·rw[if_neg I]
  unfold code at I ⊢;cases hf:first (fun (_:Nat) a=>if c a=0 then none else some (c a)) 0 l with
  | none=>rw[hf] at I;exact absurd rfl I
  | some r=>rfl
theorem Qrk {c:List TCoin} {t:TX} {x:TCoin} (h:x ∈ mSp c t):x ∈ c:=(List.mem_filter.1 h).1
theorem QmD {l:TL} (t:TX) (id:Int) (g:Int->Int->Option Bool) (I:g t.2.1 id=some (decide ((t.2.1,id) ∈ l.2))):(bif decide (t.1=2) then (g t.2.1 id).bind fun y=>some (!y) else some false)=some (decide (t.1=2/\(t.2.1,id) ∉ l.2)):=by
 rw[I];by_cases h1:t.1=2<;>by_cases J:(t.2.1,id) ∈ l.2<;>simp[h1,J]
theorem QsC {l:TL} (hl:okL l) {c:List TCoin} (hc:ZG c=0) {t:TX} (ht:okT t) (id h:Int):Qcl l c t id h=some (Qhw l c t id h):=by
 have hB:BIG=4611686018427387904:=rfl
 have hcl:=(Qdy hc).1
 have hspl:(mSp c t).length<=c.length:=List.length_filter_le _ c
 unfold Qcl Qhw;rw[Qih hc t (by have:=ht.li;omega),aLc]
 by_cases h1:(mSp c t).length=t.2.2.1.length
 ·simp only[h1,decide_true,Bool.not_true,aLC,if_true]
  rw[QrO (mSp c t) (mC1 l id h) _ (fun i hi=>?_) (by rw[<-h1];simp only[dge,aLC])]
  ·by_cases J:code (fun _=>mC1 l id h) (mSp c t)=0
   ·rw[if_pos J,if_pos J,QmD (l:=l) t id (Qcm l) (QzV hl _ _),aLc,(QzA _ (by omega)).2,(Qyi t ht.b.outs).2]
    unfold Qre;by_cases I:t.1=2/\(t.2.1,id) ∉ l.2
    ·rw[aLE I,if_pos I];rfl
    ·rw[aLD I,if_neg I]
     simp only[aLC,aLc];by_cases U:IntKind.wrap .i64 (mSum (mSp c t) - Qgg t.2.2.2)<0
     ·rw[aLE U,if_pos U];rfl
     ·rw[aLD U,if_neg U];rfl
   ·rw[if_neg J,if_neg J]
  ·have hr:(mSp c t)[i].2.1.2.1.length<BIG:=by have:=QdL hc _ (Qrk (aLl hi));omega
   have hi2:i<t.2.2.1.length:=by omega
   simp only[dlt hi2,Qf _ i hi,Qc _ i _ hi,aLB,Qp7,QDT hl _ hr,aLc,wsucc hi (by omega)]
   unfold mC1;cases Qm3 (mSp c t)[i] h
   ·rfl
   ·by_cases I:mMet l (mSp c t)[i].2.1.2 id h=0
    ·rw[aLE I];simp[I]
    ·rw[aLD I];simp[I]
 ·simp only[h1,decide_false,Bool.not_false,aLB,if_false]
theorem QlS {l:TL} (hl:mLF l=0) {c:List TCoin} (U:ZG c=0) {t:TX} (ht:mTxF t=0) {h:Int} (hh:mIn h 0 999=true):JK l c t h=some ((mChk l c t h).2,if (mChk l c t h).2=0 then (mChk l c t h).1 else 0):=by
 have hB:BIG=4611686018427387904:=rfl
 have I:=JA hl
 have hcl:=(Qdy U).1
 unfold JK mChk;rw[Y1 l (by have:=I.n1;omega) (by have:=I.n2;omega),Qa0 c (by omega) (fun x hx=>by have:=QdL U x hx;omega),Qfm t (ZS ht).b,QbE,Qvz ht]
 simp only[hl,U,ht,hh,decide_true,Bool.not_true,aLC,aLc];by_cases h1:(Qo t).length<=300
 ·rw[if_pos h1,if_pos h1]
  simp only[decide_true,Bool.not_true,aLC];rw[QlG _ (by have:=I.n1;omega),aLc]
  show (bif decide (mId l (Qo t)=0) then some ((4:Int),(0:Int)) else _)=_
  by_cases h2:mId l (Qo t)=0
  ·rw[aLE h2,if_pos h2];rfl
  ·rw[aLD h2,if_neg h2,aLC]
   show ((Qcl l c t (mId l (Qo t)) h).bind _)=_
   rw[QsC I U (ZS ht),aLc];by_cases J:(Qhw l c t (mId l (Qo t)) h).2=0
   ·rw[aLE J,if_pos J,J];rfl
   ·rw[aLD J,if_neg J];rfl
 ·rw[if_neg h1,if_neg h1];rfl
theorem QD5 (l:List (List UInt8)) (x:List UInt8):idxF (fun a=>decide (x=a)) l=idxF (fun a=>decide (a=x)) l:=by
 congr 1
 funext a
 exact decide_eq_decide.2 ⟨Eq.symm,Eq.symm⟩
theorem QCh {α:Type} (p:α->Bool) (l:List α):-1<=idxF p l/\idxF p l<l.length:=by
 cases h:l.any p with
 | false=>
  have h1:=(Qsh p l).1 ((QkC p l).2 h)
  rw[h1];omega
 | true=>
  obtain⟨k,hk,e,_⟩:=Qfg h;rw[e];omega
theorem QCl {l:TL} (hl:okL l) (s:List UInt8):JZ l s=some (mId l s):=by
 unfold JZ mId;have h1:=hl.n1
 rw[Qpu _ (by unfold BIG;omega),aLc,QD5]
 have:=QCh (fun a=>decide (a=s)) l.1
 rw[Qe (by omega) (by omega)]
theorem Qii {l:TL} (hl:okL l) {c:List TCoin} (U:ZG c=0) {t:TX} (ht:okT t) {h:Int} (hh:mIn h 0 999=true):Ym l c t h=some (mChk l c t h):=by
 have hB:BIG=4611686018427387904:=rfl
 have hcl:=(Qdy U).1
 have hspl:(mSp c t).length<=c.length:=List.length_filter_le _ c
 unfold Ym mChk;rw[Qnn ht,aLc];by_cases h1:(Qo t).length<=300
 ·rw[if_pos h1,if_pos h1]
  simp only[decide_true,Bool.not_true,aLC];rw[QCl hl,aLc];by_cases J:mId l (Qo t)=0
  ·rw[aLE J,if_pos J];rfl
  ·rw[aLD J,if_neg J,aLC,Qiw U t ht,aLc]
   generalize mId l (Qo t)=id;unfold Qhw;by_cases I:(mSp c t).length=t.2.2.1.length
   ·rw[if_pos I,if_pos I]
    simp only[decide_true,Bool.not_true,aLC];rw[QrO (mSp c t) (mC1 l id h) _ (fun i hi=>?_) (by simp only[dge,aLC])]
    ·by_cases J:code (fun _=>mC1 l id h) (mSp c t)=0
     ·rw[if_pos J,if_pos J,(QzA _ (by omega)).1,(Qyi t ht.b.outs).1,aLc,aLc,QmD (l:=l) t id (Yl l) (QuE hl _ _),aLc]
      unfold Qre;by_cases I:t.1=2/\(t.2.1,id) ∉ l.2
      ·rw[aLE I,if_pos I];rfl
      ·rw[aLD I,if_neg I]
       simp only[aLC,aLc];by_cases h4:IntKind.wrap .i64 (mSum (mSp c t) - Qgg t.2.2.2)<0
       ·rw[aLE h4,if_pos h4];rfl
       ·rw[aLD h4,if_neg h4];rfl
     ·rw[if_neg J,if_neg J]
    ·have hx:=(Qdy U).2 _ (Qrk (aLl hi))
     have hr:(mSp c t)[i].2.1.2.1.length<BIG:=by have:=QdL U _ (Qrk (aLl hi));omega
     simp only[dlt hi,Qf _ i hi,Qc _ i _ hi,aLB,QDj _ h (Qq.2 hx.height) hh,QBZ hl _ hr,aLc,wsucc hi (by omega)]
     unfold mC1;cases Qm3 (mSp c t)[i] h
     ·rfl
     ·by_cases I:mMet l (mSp c t)[i].2.1.2 id h=0
      ·rw[aLE I];simp[I]
      ·rw[aLD I];simp[I]
   ·rw[if_neg I,if_neg I];rfl
 ·rw[if_neg h1,if_neg h1];rfl
end GL
end Go.Dx
set_option maxHeartbeats 2000000
namespace Go.Dx
theorem QCQ {α:Type} (l:List α) (d:α) (p:α->Bool) (f:List α×Int×Int->Option ((List α×Int×Int)⊕(List α×Int)))
  (hs:∀(X:List α) (j i:Nat) (h:i<X.length),X.length=l.length->j<=i->f (X,(j:Int),(i:Int))=some (.inl (if p X[i] then (X,(j:Int),((i+1:Nat):Int)) else (X.set j X[i],((j+1:Nat):Int),((i+1:Nat):Int)))))
  (he:∀(X:List α) (j:Nat),X.length=l.length->f (X,(j:Int),(l.length:Int))=some (.inr (X,(j:Int)))) :
  ∀(k j i:Nat) (X:List α),i+k=l.length->j<=i->X.length=l.length->X.take j=(l.take i).filter (fun a=>!p a)->X.drop i=l.drop i->
   ∃(X':List α) (j':Nat),Qd f (X,(j:Int),(i:Int))=some (X',(j':Int))/\X'.length=l.length/\j'<=l.length/\X'.take j'=l.filter (fun a=>!p a):=by
 intro k;induction k with
 | zero=>
  intro j i X hi hj I ht hd;obtain rfl:i=l.length:=by omega
  exact⟨X,j,QM (he X j I),I,hj,by rw[ht,List.take_length]⟩
 | succ k ih=>
  intro j i X hi hj I ht hd;have h:i<X.length:=by omega
  have h':i<l.length:=by omega
  have hx:X[i]=l[i]:=by
   rw[aLr h,aLr h'] at hd;exact (List.cons.inj hd).1
  have J:X.drop (i+1)=l.drop (i+1):=by
   rw[<-List.drop_drop,<-List.drop_drop,hd]
  have U:(l.take (i+1)).filter (fun a=>!p a)=(l.take i).filter (fun a=>!p a)++[l[i]].filter (fun a=>!p a):=by
   rw[List.take_succ_eq_append_getElem h',List.filter_append]
  rw[Ze (hs X j i h I hj)];rw[hx];cases hp:p l[i] with
  | true=>
   rw[if_pos rfl];refine ih j (i+1) X (by omega) (by omega) I ?_ J
   rw[U,ht];simp[hp]
  | false=>
   rw[if_neg (by simp)]
   refine ih (j+1) (i+1) (X.set j l[i]) (by omega) (by omega) (by simpa using I) ?_ ?_
   ·rw[U,<-ht]
    have hj2:j<(X.set j l[i]).length:=by rw[List.length_set];omega
    rw[List.take_succ_eq_append_getElem hj2,List.take_set_of_le (Nat.le_refl _)];simp[hp]
   ·rw[List.drop_set_of_lt (by omega),J]
theorem QCW {α β:Type} (l:List α) (p:α->Bool) (k:Nat) (hk:k<l.length) (I:(l.take (k+1)).filter (fun a=>!p a)=l.take k) (f:List α×Int×Int->Option ((List α×Int×Int)⊕(List α×Int))) (G:List α×Int->Option β) (r:β)
  (hs:∀(X:List α) (j i:Nat) (h:i<X.length),X.length=l.length->j<=i->f (X,(j:Int),(i:Int))=some (.inl (if p X[i] then (X,(j:Int),((i+1:Nat):Int)) else (X.set j X[i],((j+1:Nat):Int),((i+1:Nat):Int)))))
  (he:∀(X:List α) (j:Nat),X.length=l.length->f (X,(j:Int),(l.length:Int))=some (.inr (X,(j:Int))))
  (hG:∀(J:List α) (U:Nat),J.length=l.length->U<=l.length->J.take U=l.filter (fun a=>!p a)->G (J,(U:Int))=some r) :
  (Qd f (l,(k:Int),((k+1:Nat):Int))).bind G=some r:=by
 obtain⟨J,U,e1,e2,e3,e4⟩:=QCQ l l[k] p f hs he (l.length - (k+1)) k (k+1) l (by omega) (by omega) rfl I.symm rfl
 rw[e1,aLc];exact hG J U e2 e3 e4
namespace GL
abbrev TMb:=Int×Int×Int
theorem Qk8 (l:List TMb) (hl:l.length<BIG) (p:TMb->Bool) (f:TMb->Option Bool) (I:∀a,a ∈ l->f a=some (p a)):QQ l f=some (idxF p l):=by
 unfold QQ;refine Qbb l p _ (fun i h=>?_) (by simp only[dge,aLC])
 simp only[dlt h,Qf l i h,Qc l i _ h,aLB,I _ (aLl h),aLc,wsucc h hl];cases p l[i]<;>rfl
theorem QpG (l:List TMb) (hl:l.length<BIG) (p:TMb->Bool) (f:TMb->Option Bool) (hf:∀a,f a=some (p a)):Q6 l f=some (l.filter (fun a=>!p a)):=by
 unfold Q6;rw[Qk8 l hl p f (fun a _=>hf a),aLc]
 cases I:l.any p with
 | false=>
  have h1:idxF p l = -1:=(Qsh p l).1 ((QkC p l).2 I)
  rw[h1];simp only[decide_true,aLB];congr 1;refine (List.filter_eq_self.2 fun a ha=>?_).symm
  rw[List.any_eq_false] at I;simpa using I a ha
 | true=>
  obtain⟨k,hk,h1,h2,h3⟩:=Qfg I;rw[h1,aLD (by omega:¬(k:Int) = -1),aLC,wsucc hk hl]
  have hpre:(l.take (k+1)).filter (fun a=>!p a)=l.take k:=by
   rw[List.take_succ_eq_append_getElem hk,List.filter_append];have e1:(l.take k).filter (fun a=>!p a)=l.take k:=List.filter_eq_self.2 fun a ha=>by
    obtain⟨j,hj,rfl⟩:=List.mem_iff_getElem.1 ha;rw[aLn] at hj;simp only[List.getElem_take];rw[h3 j (by omega)];rfl
   rw[e1];simp[h2]
  refine QCW l p k hk hpre _ _ _ (fun X j i h hX hj=>?_) (fun X j hX=>by rw[<-hX];simp only[dge,aLC]) (fun J U e2 e3 e4=>?_)
  ·have e1:decide ((i:Int)<(X.length:Int))=true:=dlt h
   simp only[e1,Qf X i h,Qc X i _ h,aLB,hf,aLc,wsucc h (by omega:X.length<BIG),Qf X j (by omega),wsucc (by omega:j<X.length) (by omega:X.length<BIG)]
   cases p X[i] with
   | true=>rfl
   | false=>simp
  have c1:QC (U:Int) (J.length:Int) J=true:=by unfold QC;simp;omega
  have hcl:clr (s:=.prod (.int .i64) (.prod (.int .i64) (.int .i64))) (U:Int) (J.length:Int) J=J.take U++(List.replicate (J.length - U) ((0,0,0):TMb)++[]):=by
   unfold clr;simp[Sh.dflt]
  have c2:QC 0 (U:Int) (clr (s:=.prod (.int .i64) (.prod (.int .i64) (.int .i64))) (U:Int) (J.length:Int) J)=true:=by
   unfold QC;rw[hcl];simp;omega
  rw[c1,c2,aLB,aLB,hcl];simp only[Int.sub_zero,Int.toNat_natCast,Int.toNat_zero,List.drop_zero];rw[List.take_append_of_le_length (by rw[aLn];omega),List.take_take,Nat.min_self,e4]
theorem Qi4 (l:List TMb) (hl:l.length<BIG) (p:TMb->Bool) (f:TMb->Option Bool) (I:∀a,a ∈ l->f a=some (p a)):QE l f=some (l.any p):=by
 unfold QE;rw[Qk8 l hl p f I,aLc,ZA]
def mMb (l:List TMb) (i:Nat) (x:TMb):Int:=if mIn x.1 1 999&&mRef x.2 then (if decide (0<i)&&decide (x.1<=(List.getD l (i - 1) (0,(0,0))).1) then 1 else 0) else 3
def mMd (l:List TMb) (i:Nat) (x:TMb):Int:=if (l.take i).any (fun y=>decide (y.2=x.2)) then 7 else 0
def mMem (l:List TMb):Int:=if (8:Int)<(l.length:Int) then 2 else if code (mMb l) l=0 then code (mMd l) l else code (mMb l) l
theorem QzC (l:List TMb) (hl:l.length<BIG) (i:Nat) (h:i<l.length) (I:0<i):inB (IntKind.wrap .i64 ((i:Int) - 1)) l=true/\List.getD l (Int.toNat (IntKind.wrap .i64 ((i:Int) - 1))) (0,(0,0))=List.getD l (i - 1) (0,(0,0)):=by
 obtain⟨j,rfl⟩:∃j,i=j+1:=⟨i - 1,by omega⟩
 rw[wpred (i:=j) (n:=l.length) (by omega) hl]
 exact⟨Qf l j (by omega),by simp⟩
theorem QtB (l:List TMb) (hl:l.length<BIG):Qfj l=some (mMem l):=by
 unfold Qfj mMem;by_cases h8:(8:Int)<(l.length:Int)
 ·rw[aLE h8,if_pos h8];rfl
 ·rw[aLD h8,if_neg h8,aLC]
  rw[JR l (mMb l) _ (fun i h=>?_) (by simp only[dge,aLC])]
  ·split
   ·refine QgR l (mMd l) _ (fun i h=>?_) (by simp only[dge,aLC])
    rw[dlt h,aLB];have inner:=QbD (β:=Int) (l.take i) (fun _ y=>if decide (y.2=l[i].2) then some 7 else none) (fun (I:Int)=>
 bif (decide ((I:Int)<(i:Int))) then
 bif (inB I l) then
 bif (inB (i:Int) l) then
 bif (Sh.beq (.prod (.int .i64) (.int .i64)) (List.getD l (Int.toNat I) (0,(0,0))).2 (List.getD l (Int.toNat (i:Int)) (0,(0,0))).2) then
 some (Sum.inr (Sum.inr 7))
 else
 some (Sum.inl (IntKind.wrap .i64 (I+1)))
 else none
 else none
 else
 some (Sum.inr (Sum.inl ()))) (fun k hk=>by
      rw[aLn] at hk;have hk1:k<i:=by omega
      have J:k<l.length:=by omega
      simp only[List.getElem_take];rw[aLE (by omega),aLB,Qf l k J,aLB,Qf l i h,aLB,Qc l k _ J,Qc l i _ h,Qlj,wsucc J hl]
      cases decide (l[k].2=l[i].2)<;>rfl) (by
      rw[aLn,Nat.min_eq_left (by omega)]
      simp only[Int.lt_irrefl,decide_false,aLC])
    rw[inner,Qdg,QkR];unfold mMd;cases (l.take i).any (fun y=>decide (y.2=l[i].2))
    ·simp only[Bool.false_eq_true,if_false,wsucc h hl,if_true]
    ·simp
   ·rfl
  ·simp only[dlt h,Qf l i h,Qc l i _ h,aLB,Qa8,Qhp,aLc,wsucc h hl]
   unfold mMb;cases h1:mIn l[i].1 1 999<;>cases h2:mRef l[i].2<;>try rfl
   simp only[Bool.not_true,aLC,aLc,Bool.true_and,if_true];by_cases U:0<i
   ·obtain⟨e1,e2⟩:=QzC l hl i h U
    rw[show decide ((0:Int)<(i:Int))=true by simpa using U,aLE U,aLB,e1,aLB,e2,aLc,Bool.true_and]
    cases decide (l[i].1<=(List.getD l (i - 1) (0,(0,0))).1)<;>rfl
   ·rw[show decide ((0:Int)<(i:Int))=false by simpa using U,aLD U];rfl
theorem QnM (l:List TMb) (hl:l.length<BIG):Qbl l=some (mMem l):=by
 unfold Qbl mMem;by_cases J:(8:Int)<(l.length:Int)
 ·rw[aLE J,if_pos J];rfl
 ·rw[aLD J,if_neg J,aLC]
  rw[JR l (mMb l) _ (fun i h=>?_) (by simp only[dge,aLC])]
  ·split
   ·refine QgR l (mMd l) _ (fun i h=>?_) (by simp only[dge,aLC])
    have hc:=Qi4 (l.take i) (Qdf hl i) (fun y=>decide (y.2=l[i].2)) (fun U=>(JT U l[i]).bind fun r64=>some r64) (fun a _=>by unfold JT;rw[Qlj];rfl)
    simp only[dlt h,Qf l i h,Qc l i _ h,YZ l i (Nat.le_of_lt h),Qbw,aLB,hc,aLc,wsucc h hl];unfold mMd;cases (l.take i).any (fun y=>decide (y.2=l[i].2))<;>simp
   ·rfl
  ·simp only[dlt h,Qf l i h,Qc l i _ h,aLB,QcK,Qj7,aLc,wsucc h hl]
   unfold mMb;cases h1:mIn l[i].1 1 999<;>cases h2:mRef l[i].2<;>try rfl
   simp only[Bool.not_true,aLC,aLc,Bool.true_and,if_true];by_cases I:0<i
   ·obtain⟨e1,e2⟩:=QzC l hl i h I
    rw[show decide ((0:Int)<(i:Int))=true by simpa using I,aLE I,aLB,e1,aLB,e2,aLc,Bool.true_and]
    cases decide (l[i].1<=(List.getD l (i - 1) (0,(0,0))).1)<;>rfl
   ·rw[show decide ((0:Int)<(i:Int))=false by simpa using I,aLD I];rfl
def JX (l:List TMb):Prop:=l.Pairwise fun a b=>a.1<b.1
theorem Qmy {l:List TMb} (h:mMem l=0):JX l/\l.length<=8:=by
 unfold mMem at h;by_cases J:(8:Int)<(l.length:Int)
 ·rw[if_pos J] at h;cases h
 ·rw[if_neg J] at h
  by_cases hb:code (mMb l) l=0
  ·refine⟨?_,by omega⟩
   have step:∀i (hi:i+1<l.length),(l[i]'(by omega)).1<l[i+1].1:=fun i hi=>by
    have I:=J4 hb (i+1) _ (aLf hi)
    unfold mMb at I;cases h1:mIn l[i+1].1 1 999&&mRef l[i+1].2 with
    | false=>rw[h1] at I;simp at I
    | true=>
     rw[h1,if_pos rfl,Nat.add_sub_cancel,aLk,aLf (by omega:i<l.length)] at I
     by_cases h3:l[i+1].1<=(l[i]'(by omega)).1
     ·simp[h3] at I
     ·omega
   unfold JX;rw[List.pairwise_iff_getElem];intro i j hi U hij;obtain⟨d,rfl⟩:∃d,j=i+1+d:=⟨j - (i+1),by omega⟩
   induction d with
   | zero=>exact step i U
   | succ d ih=>exact Int.lt_trans (ih (by omega) (by omega)) (step (i+1+d) U)
  ·rw[if_neg hb] at h;exact absurd h hb
theorem Qc9 {l:List TMb} (h:JX l) {i j:Nat} (I:i<j) (J:j<l.length):(l[i]'(by omega)).1<l[j].1:=List.pairwise_iff_getElem.1 h i j (by omega) J I
theorem Qkk {l:List TMb} (hr:JX l) (hl:l.length<=1000000) (r:Int):∃k:Nat,k<=l.length/\YF l r=some ((k:Int),l.any fun x=>decide (x.1=r))/\((l.any fun x=>decide (x.1=r))=true->∃h:k<l.length,(l[k]'h).1=r)/\(∀i (h:i<l.length),i<k->l[i].1<r)/\(∀i (h:i<l.length),k<=i->r<=l[i].1):=by
 obtain⟨k,h1,h2,h3⟩:=Qp9 l.length (fun i=>decide ((List.getD l i (0,(0,0))).1<r)) (fun i j hij hj hp=>by
  rcases Nat.lt_or_ge i j with h | h
  ·have hi:i<l.length:=by omega
   have:=Qc9 hr h hj
   have e1:List.getD l i (0,(0,0))=l[i]:=by rw[aLk,aLf hi];rfl
   have e2:List.getD l j (0,(0,0))=l[j]:=by rw[aLk,aLf hj];rfl
   simp only[e1,e2,aLF] at hp ⊢;omega
  ·obtain rfl:i=j:=by omega
   exact hp)
 have J:∀i (hi:i<l.length),List.getD l i (0,(0,0))=l[i]:=fun i hi=>by rw[aLk,aLf hi];rfl
 have g1:∀i (h:i<l.length),i<k->l[i].1<r:=fun i h hk=>by have:=h2 i hk;rw[J i h] at this;simpa using this
 have g2:∀i (h:i<l.length),k<=i->r<=l[i].1:=fun i h hk=>by have:=h3 i hk h;rw[J i h] at this;simpa using this
 have U:(l.any fun x=>decide (x.1=r))=decide (∃h:k<l.length,(l[k]'h).1=r):=by
  rw[Bool.eq_iff_iff,List.any_eq_true,aLF];constructor
  ·rintro ⟨x,hx,he⟩
   obtain⟨i,hi,rfl⟩:=List.mem_iff_getElem.1 hx;have he:l[i].1=r:=aLG he
   have hik:¬i<k:=fun h=>by have:=g1 i hi h;omega
   refine⟨by omega,?_⟩
   rcases Nat.lt_or_ge k i with h | h
   ·have h4:=Qc9 hr h hi
    have h5:=g2 k (by omega) (Nat.le_refl _)
    omega
   ·obtain rfl:i=k:=by omega
    exact he
  ·rintro ⟨h,he⟩
   exact⟨_,aLl h,aLE he⟩
 refine⟨k,h1,?_,fun h=>by rw[U] at h;exact aLG h,g1,g2⟩
 rw[U];unfold YF Q2;have hcmp:∀(x:TMb),((QaQ x r).bind fun r7=>some r7)=some (mCmp x.1 r):=fun x=>by
  unfold QaQ;rw[Qju];rfl
 simp only[hcmp,aLc];have hneg:∀a b:Int,decide (mCmp a b<0)=decide (a<b):=fun a b=>by
  unfold mCmp;refine decide_eq_decide.2 ?_;split
  ·simp;omega
  ·split<;>simp<;>omega
 have hzero:∀a b:Int,decide (mCmp a b=0)=decide (a=b):=fun a b=>by
  unfold mCmp;refine decide_eq_decide.2 ?_;split
  ·simp;omega
  ·split
   ·simp;omega
   ·simp;omega
 rw[QzW l.length k h1 _ (fun lo hi hlo hhi=>?_) (fun lo=>by simp only[Int.lt_irrefl,decide_false,aLC]),aLc]
 ·by_cases hk:k<l.length
  ·have hd:List.getD l (Int.toNat (k:Int)) (0,(0,0))=l[k]:=by rw[Int.toNat_natCast];exact J k hk
   rw[dlt hk,aLB,Qf l k hk,aLB];show some ((k:Int),decide (mCmp (List.getD l (Int.toNat (k:Int)) (0,(0,0))).1 r=0))=_
   rw[hd,hzero];congr 2;exact decide_eq_decide.2 ⟨fun h=>⟨hk,h⟩,fun ⟨_,h⟩=>h⟩
  ·have hf:decide (∃h:k<l.length,(l[k]'h).1=r)=false:=aLD (fun ⟨h,_⟩=>hk h)
   rw[dge' (by omega),aLC,aLc,hf];rfl
 ·have hm:=QBX (lo:=lo) (hi:=hi) (by omega)
  have I:(lo+hi) / 2<l.length:=by omega
  simp only[hm];rw[aLE (by omega),aLB,Qf l _ I,aLB]
  have hd:List.getD l (Int.toNat (((lo+hi) / 2:Nat):Int)) (0,(0,0))=l[(lo+hi) / 2]:=by rw[Int.toNat_natCast];exact J _ I
  rw[hd,hneg,wsucc I (by unfold BIG;omega)]
  by_cases hmk:(lo+hi) / 2<k
  ·rw[aLE (g1 _ I hmk),if_pos hmk];rfl
  ·have:=g2 _ I (by omega)
   rw[aLD (by omega),if_neg hmk];rfl
theorem QlA (l:List TMb) (hl:l.length<=LIM):QF l=some l:=by
 unfold QF;rw[QfW hl,aLB];cases l with
 | nil=>exact QjO _
 | cons a l=>rfl
def mOff (l:List TMb) (t:TX):List TMb:=l.filter fun x=>!(decide (t.1=2)&&decide (x.1=t.2.1))&&!decide (x.2 ∈ t.2.2.1)
def QoF (o:List TMb) (x:TMb):List TMb×Int:=if o.any (fun y=>decide (y.1=x.1) || decide (y.2=x.2)) then ([],7) else if 8<=o.length then ([],2) else (o.takeWhile (fun y=>decide (y.1<x.1))++[x]++o.dropWhile (fun y=>decide (y.1<x.1)),0)
def Jc (l:List TMb) (t:TX) (id:Int):List TMb×Int:=if t.1=2/\(l.any fun x=>decide (x.1=t.2.1))=false then ([],4) else if t.1=1 then QoF (mOff l t) (t.2.1,(id,0)) else (mOff l t,0)
theorem QiX (l:List TMb) (hl:l.length<BIG) (k:Int):QaS l k=some (idxF (fun x=>decide (x.1=k)) l):=by
 unfold QaS;refine Qbb l _ _ (fun i h=>?_) (by simp only[dge,aLC])
 simp only[dlt h,Qf l i h,Qc l i _ h,aLB,wsucc h hl];cases decide (l[i].1=k)<;>rfl
theorem Qls {l:List TMb} {r:Int} {k:Nat} (hk:k<=l.length) (h1:∀i (h:i<l.length),i<k->l[i].1<r) (h2:∀i (h:i<l.length),k<=i->r<=l[i].1):l.takeWhile (fun y=>decide (y.1<r))=l.take k/\l.dropWhile (fun y=>decide (y.1<r))=l.drop k:=by
 have I:∀a,a ∈ l.take k->decide (a.1<r)=true:=fun a ha=>by
  obtain⟨i,hi,rfl⟩:=List.mem_iff_getElem.1 ha;rw[aLn] at hi;simp only[List.getElem_take];exact aLE (h1 i (by omega) (by omega))
 have e:l=l.take k++l.drop k:=(List.take_append_drop k l).symm
 have hd:∀a rest,l.drop k=a::rest->decide (a.1<r)=false:=fun a rest h=>by
  have J:k<l.length:=by
   rcases Nat.lt_or_ge k l.length with U | U
   ·exact U
   ·rw[List.drop_eq_nil_of_le U] at h;cases h
  rw[aLr J] at h;have:=h2 k J (Nat.le_refl _)
  rw[<-(List.cons.inj h).1];exact aLD (by omega)
 constructor
 ·conv=>lhs;rw[e]
  rw[List.takeWhile_append_of_pos I];cases hdr:l.drop k with
  | nil=>simp
  | cons a rest=>rw[List.takeWhile_cons,hd a rest hdr];simp
 ·conv=>lhs;rw[e]
  rw[List.dropWhile_append_of_pos I];cases hdr:l.drop k with
  | nil=>simp
  | cons a rest=>rw[List.dropWhile_cons,hd a rest hdr];simp
theorem QpY {l:List TMb} (h:JX l) (p:TMb->Bool):JX (l.filter p):=List.Pairwise.sublist List.filter_sublist h
theorem Qun {o:List TMb} (U:JX o) (r:Int):∃k,k<=o.length/\(∀i (h:i<o.length),i<k->o[i].1<r)/\(∀i (h:i<o.length),k<=i->r<=o[i].1):=by
 obtain⟨k,h1,h2,h3⟩:=Qp9 o.length (fun i=>decide ((List.getD o i (0,(0,0))).1<r)) (fun i j hij J hp=>by
  rcases Nat.lt_or_ge i j with h | h
  ·have hi:i<o.length:=by omega
   have:=Qc9 U h J
   have e1:List.getD o i (0,(0,0))=o[i]:=by rw[aLk,aLf hi];rfl
   have e2:List.getD o j (0,(0,0))=o[j]:=by rw[aLk,aLf J];rfl
   simp only[e1,e2,aLF] at hp ⊢;omega
  ·obtain rfl:i=j:=by omega
   exact hp)
 have I:∀i (hi:i<o.length),List.getD o i (0,(0,0))=o[i]:=fun i hi=>by rw[aLk,aLf hi];rfl
 exact⟨k,h1,fun i h hk=>by have:=h2 i hk;rw[I i h] at this;simpa using this,fun i h hk=>by have:=h3 i hk h;rw[I i h] at this;simpa using this⟩
theorem QuX {o:List TMb} (hr:JX o) (hl:o.length<=1000000) (x:TMb):Qdi o x=some (QoF o x):=by
 have hB:BIG=4611686018427387904:=rfl
 have hL:LIM=1073741824:=rfl
 unfold Qdi QoF;rw[QiX _ (by omega),aLc,ZA]
 have U:(o.any fun y=>decide (y.1=x.1) || decide (y.2=x.2))=((o.any fun y=>decide (y.1=x.1)) || o.any fun y=>decide (y.2=x.2)):=by
  rw[Bool.eq_iff_iff];simp only[List.any_eq_true,Bool.or_eq_true];constructor
  ·rintro ⟨y,J,h | h⟩
   ·exact .inl ⟨y,J,h⟩
   ·exact .inr ⟨y,J,h⟩
  ·rintro (⟨y,J,h⟩ | ⟨y,J,h⟩)
   ·exact⟨y,J,.inl h⟩
   ·exact⟨y,J,.inr h⟩
 rw[U];cases ha:o.any fun y=>decide (y.1=x.1) with
 | true=>rfl
 | false=>
  rw[aLC,Bool.false_or];obtain⟨k,k1,k2,k3⟩:=Qun hr x.1;have loop:∀(f:Int×Int->Option ((Int×Int)⊕(Int⊕(List TMb×Int)))),
    (∀(i:Nat) (hi:i<o.length) (a:Int),f (a,(i:Int))=some (if decide (o[i].2=x.2) then .inr (.inr ([],7)) else .inl (if o[i].1<x.1 then ((i+1:Nat):Int) else a,((i+1:Nat):Int))))->(∀a,f (a,(o.length:Int))=some (.inr (.inl a)))->
    Qd f (0,0)=some (if o.any (fun y=>decide (y.2=x.2)) then .inr ([],7) else .inl (k:Int)):=by
   intro f hs he;have key:∀(d i:Nat),i+d=o.length->Qd f (((min i k:Nat):Int),(i:Int))=some (if (o.drop i).any (fun y=>decide (y.2=x.2)) then .inr ([],7) else .inl (k:Int)):=by
    intro d;induction d with
    | zero=>
     intro i hi;obtain rfl:i=o.length:=by omega
     rw[QM (he _),List.drop_length,Nat.min_eq_right k1];rfl
    | succ d ih=>
     intro i hi;have I:i<o.length:=by omega
     have h1:=hs i I ((min i k:Nat):Int)
     rw[aLr I,List.any_cons];cases hd:decide (o[i].2=x.2) with
     | true=>rw[hd,if_pos rfl] at h1;rw[QM h1];rfl
     | false=>
      rw[hd,if_neg (by simp)] at h1
      rw[Ze h1,Bool.false_or];have e:(if o[i].1<x.1 then ((i+1:Nat):Int) else ((min i k:Nat):Int))=((min (i+1) k:Nat):Int):=by
       by_cases hik:i<k
       ·rw[if_pos (k2 i I hik)];omega
       ·have:=k3 i I (by omega)
        rw[if_neg (by omega)];omega
      rw[e];exact ih (i+1) (by omega)
   have:=key o.length 0 (by omega)
   rw[List.drop_zero,Nat.zero_min] at this;exact this
  rw[loop _ (fun i hi a=>by
   simp only[dlt hi,Qf _ i hi,Qc _ i _ hi,aLB,Qlj,wsucc hi (by omega)]
   cases decide (o[i].2=x.2)
   ·by_cases h:o[i].1<x.1
    ·rw[aLE h];simp[h]
    ·rw[aLD h];simp[h]
   ·rfl) (fun a=>by simp only[dge,aLC]),aLc]
  cases hb:o.any fun y=>decide (y.2=x.2) with
  | true=>rfl
  | false=>
   simp only[Bool.false_eq_true,if_false,Sum.elim_inl];by_cases h8:8<=o.length
   ·rw[aLE (by omega),if_pos h8];rfl
   ·obtain⟨w1,w2⟩:=Qls k1 k2 k3
    rw[aLD (by omega),if_neg h8,aLC,w1,w2]
    have c1:QC 0 (k:Int) o=true:=by unfold QC;simp;omega
    have c2:QC (k:Int) (o.length:Int) o=true:=by unfold QC;simp;omega
    have e1:cut 0 (k:Int) o=o.take k:=by unfold cut;simp
    have e2:cut (k:Int) (o.length:Int) o=o.drop k:=by
     unfold cut;rw[Int.toNat_natCast];exact List.take_of_length_le (by rw[aLz];omega)
    rw[c1,aLB,e1,Qr,Qr,c2,aLB,e2,Qr]
    ·rfl
    all_goals (simp only[aLo,aLi,aLh,aLj,aLn,aLz];omega)
theorem Qt9 (l:List TMb) (t:TX):(mOff l t).length<=l.length:=List.length_filter_le _ l
theorem Qnk {l:List TMb} (hm:JX l/\l.length<=8) {t:TX} (ht:t.2.2.1.length<=1000000) (id:Int):Qdx l t id=some (Jc l t id):=by
 have hB:BIG=4611686018427387904:=rfl
 have hL:LIM=1073741824:=rfl
 obtain⟨J,hl⟩:=hm;unfold Qdx Jc;have U:(bif decide (t.1=2) then (QaS l t.2.1).bind fun y=>some (decide (y<0)) else some false)=some (decide (t.1=2/\(l.any fun x=>decide (x.1=t.2.1))=false)):=by
  rw[QiX _ (by omega),aLc,QB5]
  by_cases h1:t.1=2
  ·cases l.any fun x=>decide (x.1=t.2.1)<;>simp[h1]
  ·simp[h1]
 rw[U,aLc];by_cases h1:t.1=2/\(l.any fun x=>decide (x.1=t.2.1))=false
 ·rw[aLE h1,if_pos h1];rfl
 ·rw[aLD h1,if_neg h1,aLC]
  rw[ZQ (σ:=List TMb) l (fun acc a=>if (!(decide (t.1=2)&&decide (a.1=t.2.1))&&!decide (a.2 ∈ t.2.2.1)) then acc++[a] else acc) (fun t i=>(t,i)) (fun t=>t) (fun t i=>t.length<=i) _ (fun i hi x hx=>by
    refine⟨?_,by split<;>(try simp only[aLi,aLh,aLj])<;>omega⟩
    simp only[dlt hi,Qf _ i hi,Qc _ i _ hi,aLB,Yy t.2.2.1 (by omega),aLc,wsucc hi (by omega)]
    rw[Qr (by simp only[aLh,aLj];omega)]
    cases decide (t.1=2)<;>cases decide (l[i].1=t.2.1)<;>cases decide (l[i].2 ∈ t.2.2.1)<;>rfl) (fun t ht=>by simp only[dge,aLC]) [] (Nat.le_refl _),aLc,foldl_filter,aLx]
  show (bif !decide (t.1=1) then some (mOff l t,(0:Int)) else (Qdi (mOff l t) (t.2.1,(id,0))).bind fun y=>some (y.1,y.2))=_
  by_cases I:t.1=1
  ·have:=Qt9 l t
   rw[aLE I,if_pos I,Bool.not_true,aLC,QuX (o:=mOff l t) (QpY J _) (by omega)];rfl
  ·rw[aLD I,if_neg I];rfl
theorem filter_one {l:List TMb} {p:TMb->Bool} {k:Nat} (hk:k<l.length) (J:p l[k]=false) (h1:∀i (h:i<l.length),i ≠ k->p l[i]=true):l.filter p=l.take k++l.drop (k+1):=by
 have e:l=l.take k++l[k]::l.drop (k+1):=by rw[<-aLr hk,List.take_append_drop]
 conv=>lhs;rw[e]
 rw[List.filter_append,List.filter_cons,J];rw[List.filter_eq_self.2 (fun a I=>?_),if_neg (by simp),List.filter_eq_self.2 (fun a I=>?_)]
 ·obtain⟨i,hi,rfl⟩:=List.mem_iff_getElem.1 I
  rw[aLz] at hi;rw[List.getElem_drop];exact h1 _ (by omega) (by omega)
 ·obtain⟨i,hi,rfl⟩:=List.mem_iff_getElem.1 I
  rw[aLn] at hi;rw[List.getElem_take];exact h1 _ (by omega) (by omega)
theorem Qi0 {l:List TMb} (hm:JX l/\l.length<=8) {t:TX} (ht:t.2.2.1.length<=1000000) {id:Int} (hid:mIn id 1 60=true):J8 l t id=some (Jc l t id):=by
 have hB:BIG=4611686018427387904:=rfl
 have hL:LIM=1073741824:=rfl
 obtain⟨hr,hl⟩:=hm;unfold J8 Jc;rw[QiU,hid,aLc,QlA _ (by omega)]
 simp only[Bool.not_true,aLC,aLc];have first:∀G:(List TMb⊕(List TMb×Int))->Option (List TMb×Int),((bif decide (t.1=2) then (YF l t.2.1).bind fun (I:Int×Bool)=>bif !I.2 then some (Sum.inr (([]:List TMb),(4:Int))) else (QD l I.1 (IntKind.wrap .i64 (I.1+1))).bind fun J=>some (Sum.inl J) else some (Sum.inl l):Option (List TMb⊕(List TMb×Int))).bind G) =
   if t.1=2/\(l.any fun x=>decide (x.1=t.2.1))=false then G (.inr ([],4)) else G (.inl (l.filter fun x=>!(decide (t.1=2)&&decide (x.1=t.2.1)))):=fun G=>by
  by_cases h1:t.1=2
  ·obtain⟨k,k1,k2,k3,k4,k5⟩:=Qkk hr (by omega) t.2.1
   rw[aLE h1,aLB,k2,aLc];cases ha:l.any fun x=>decide (x.1=t.2.1) with
   | false=>rw[if_pos ⟨h1,rfl⟩];rfl
   | true=>
    obtain⟨hk,he⟩:=k3 ha;rw[if_neg (fun h=>by cases h.2)]
    have hdel:QD l (k:Int) (IntKind.wrap .i64 ((k:Int)+1))=some (l.filter fun x=>!(true&&decide (x.1=t.2.1))):=by
     unfold QD delS;rw[wsucc hk (by omega),aLE (by omega),aLB]
     rw[filter_one (l:=l) (k:=k) hk (by rw[he];simp) (fun i hi hik=>by
      rcases Nat.lt_or_ge i k with h | h
      ·have:=Qc9 hr h hk
       have:¬l[i].1=t.2.1:=by omega
       simp[this]
      ·have:=Qc9 hr (show k<i by omega) hi
       have:¬l[i].1=t.2.1:=by omega
       simp[this])]
     simp
    show (Option.bind ((QD l (k:Int) (IntKind.wrap .i64 ((k:Int)+1))).bind fun J=>some (Sum.inl J)) G)=_
    rw[hdel];rfl
  ·rw[aLD h1,if_neg (fun h=>h1 h.1)]
   simp only[aLC,aLc,Bool.false_and,Bool.not_false];rw[List.filter_eq_self.2 (fun a _=>rfl)]
 rw[first]
 by_cases h1:t.1=2/\(l.any fun x=>decide (x.1=t.2.1))=false
 ·rw[if_pos h1,if_pos h1];rfl
 ·rw[if_neg h1,if_neg h1,Sum.elim_inl]
  have hfl:=List.length_filter_le (fun x:TMb=>!(decide (t.1=2)&&decide (x.1=t.2.1))) l
  rw[QpG _ (by omega) (fun x=>decide (x.2 ∈ t.2.2.1)) _ (fun a=>by unfold Qcp;rw[Qfa _ (by omega)];rfl),aLc,List.filter_filter]
  have eo:(l.filter fun a=>(!decide (a.2 ∈ t.2.2.1))&&!(decide (t.1=2)&&decide (a.1=t.2.1)))=mOff l t:=by
   unfold mOff;congr 1
   funext a
   rw[Bool.and_comm]
  rw[eo];by_cases h2:t.1=1
  ·rw[aLE h2,if_pos h2,Bool.not_true,aLC]
   have hol:=Qt9 l t
   have U:JX (mOff l t):=QpY hr _
   obtain⟨k,k1,k2,k3,k4,k5⟩:=Qkk U (by omega) t.2.1
   rw[k2,aLc];rw[Qi4 _ (by omega) (fun y=>decide (y.2=(id,0))) _ (fun a _=>by unfold Qcn;rw[Qlj];rfl)]
   unfold QoF;have U:((mOff l t).any fun y=>decide (y.1=t.2.1) || decide (y.2=(id,0)))=(((mOff l t).any fun y=>decide (y.1=t.2.1)) || (mOff l t).any fun y=>decide (y.2=(id,0))):=by
    rw[Bool.eq_iff_iff];simp only[List.any_eq_true,Bool.or_eq_true];constructor
    ·rintro ⟨y,hy,h | h⟩
     ·exact .inl ⟨y,hy,h⟩
     ·exact .inr ⟨y,hy,h⟩
    ·rintro (⟨y,hy,h⟩ | ⟨y,hy,h⟩)
     ·exact⟨y,hy,.inl h⟩
     ·exact⟨y,hy,.inr h⟩
   rw[U];cases ha:(mOff l t).any fun y=>decide (y.1=t.2.1) with
   | true=>rfl
   | false=>
    cases hb:(mOff l t).any fun y=>decide (y.2=(id,0)) with
    | true=>rfl
    | false=>
     simp only[Bool.false_or,aLC,aLc,Bool.false_eq_true,if_false];by_cases h8:8<=(mOff l t).length
     ·rw[aLE (by omega),if_pos h8];rfl
     ·obtain⟨w1,w2⟩:=Qls k1 k4 k5
      rw[aLD (by omega),if_neg h8,aLC,w1,w2]
      unfold ZY insS;rw[aLE ⟨by omega,by omega,by omega,rfl⟩,aLB,aLc,Int.toNat_natCast]
  ·rw[aLD h2,if_neg h2];rfl
end GL
end Go.Dx
set_option maxHeartbeats 2000000
namespace Go.Dx
namespace GL
def mSt (s:TState):Int:=if mIn s.1 0 60&&mIn s.2.1 0 40 then (if decide (s.1=0)=decide (s.2.1=0) then (if ZG s.2.2.1=0 then mMem s.2.2.2 else ZG s.2.2.1) else 1) else 3
structure bS (s:TState):Prop where
 c:s.2.2.1.length<BIG
 k:∀x,x ∈ s.2.2.1->x.2.1.2.1.length<BIG
 m:s.2.2.2.length<BIG
theorem Qta (s:TState) (h:bS s):QeS s=some (mSt s):=by
 unfold QeS mSt;simp only[Zf,Qa0 _ h.c h.k,QtB _ h.m,aLc,beqB,Qb6];cases mIn s.1 0 60<;>cases mIn s.2.1 0 40<;>try rfl
 simp only[Bool.not_true,aLC,aLc,Bool.true_and,if_true];by_cases I:decide (s.1=0)=decide (s.2.1=0)
 ·rw[aLE I,if_pos I]
  simp only[Bool.not_true,aLC];split<;>rfl
 ·rw[aLD I,if_neg I];rfl
theorem QjF (s:TState) (h:bS s):QaE s=some (mSt s):=by
 unfold QaE mSt;simp only[Zk,QoV _ h.c h.k,QnM _ h.m,aLc,beqB,Qb6];cases mIn s.1 0 60<;>cases mIn s.2.1 0 40<;>try rfl
 simp only[Bool.not_true,aLC,aLc,Bool.true_and,if_true];by_cases I:decide (s.1=0)=decide (s.2.1=0)
 ·rw[aLE I,if_pos I]
  simp only[Bool.not_true,aLC];split<;>rfl
 ·rw[aLD I,if_neg I];rfl
structure okS' (s:TState):Prop where
 t:0<=s.1/\s.1<=60
 h:0<=s.2.1/\s.2.1<=40
 c:ZG s.2.2.1=0
 m:mMem s.2.2.2=0
theorem Qhv {s:TState} (h:mSt s=0):okS' s:=by
 unfold mSt at h;cases h1:mIn s.1 0 60&&mIn s.2.1 0 40 with
 | false=>rw[h1] at h;simp at h
 | true=>
  rw[h1,if_pos rfl] at h;rw[aLg,Qq,Qq] at h1;by_cases J:decide (s.1=0)=decide (s.2.1=0)
  ·rw[if_pos J] at h
   by_cases I:ZG s.2.2.1=0
   ·rw[if_pos I] at h;exact⟨h1.1,h1.2,I,h⟩
   ·rw[if_neg I] at h;exact absurd h I
  ·rw[if_neg J] at h;cases h
def ZD (s:TState):Int:=min 40 (IntKind.wrap .i64 (s.2.1+1))
theorem Qkd {s:TState} (h:okS' s):mIn (ZD s) 0 999=true:=by
 have:=h.h
 unfold ZD;rw[Qe (by omega) (by omega),Qq];omega
theorem QnU (s:TState):Jy s=some (ZD s):=rfl
theorem QuO (s:TState):Qa1 s=some (ZD s):=by
 unfold Qa1 Qes ZD;by_cases h:IntKind.wrap .i64 (s.2.1+1)<40
 ·rw[aLE h]
  show some (IntKind.wrap .i64 (s.2.1+1))=_
  congr 1;omega
 ·rw[aLD h]
  show some (40:Int)=_
  congr 1;omega
def Ye (a t:TX):Bool:=a.2.2.1.any fun r=>decide (r ∈ t.2.2.1)
theorem Qr6 {a t:TX} (I:a.2.2.1.length<BIG) (ht:t.2.2.1.length<BIG):Qft a t=some (Ye a t):=by
 unfold Qft Ye;refine QiF a.2.2.1 _ _ (fun i h=>?_) (by simp only[dge,aLC])
 simp only[dlt h,Qf _ i h,Qc _ i _ h,aLB,Yy _ ht,aLc,wsucc h I];cases decide (a.2.2.1[i] ∈ t.2.2.1)<;>rfl
theorem Qoh (l:List (Int×Int)) (hl:l.length<BIG) (p:Int×Int->Bool) (f:Int×Int->Option Bool) (I:∀a,a ∈ l->f a=some (p a)):Zi l f=some (l.any p):=by
 unfold Zi Yi;rw[Qbb l p _ (fun i h=>?_) (by simp only[dge,aLC]),aLc,ZA]
 simp only[dlt h,Qf l i h,Qc l i _ h,aLB,I _ (aLl h),aLc,wsucc h hl];cases p l[i]<;>rfl
theorem QfF (l:List TX) (hl:l.length<BIG) (p:TX->Bool) (f:TX->Option Bool) (I:∀a,a ∈ l->f a=some (p a)):QH l f=some (l.any p):=by
 unfold QH YC;rw[Qbb l p _ (fun i h=>?_) (by simp only[dge,aLC]),aLc,ZA]
 simp only[dlt h,Qf l i h,Qc l i _ h,aLB,I _ (aLl h),aLc,wsucc h hl];cases p l[i]<;>rfl
theorem Ql7 (l:List Int) (hl:l.length<BIG) (x:Int):Zu l x=some (decide (x ∈ l)):=by
 unfold Zu J3;rw[Qbb l (fun a=>decide (x=a)) _ (fun i h=>?_) (by simp only[dge,aLC]),aLc,ZA,any_eq]
 simp only[dlt h,Qf l i h,Qc l i _ h,aLB,wsucc h hl];cases decide (x=l[i])<;>rfl
theorem Qoj {a t:TX} (I:a.2.2.1.length<BIG) (ht:t.2.2.1.length<BIG):Qep a t=some (Ye a t):=by
 unfold Qep Ye;rw[Qoh _ I (fun r=>decide (r ∈ t.2.2.1)) _ (fun r _=>by unfold QhI;rw[Qfa _ ht];rfl)];rfl
def mAt (l:List TMb) (k:Int):Int×Int:=(List.getD l (Int.toNat (idxF (fun x=>decide (x.1=k)) l)) (0,(0,0))).2
def Qfk (l:List TMb) (t a:TX):Bool:=decide (t.1=2)&&((l.any fun x=>decide (x.1=t.2.1))&&decide (mAt l t.2.1 ∈ a.2.2.1))
theorem QAj (s:TState) (hm:s.2.2.2.length<BIG) {a t:TX} (J:a.2.2.1.length<BIG):Qd2 s a t=some (Qfk s.2.2.2 t a):=by
 unfold Qd2 Qfk mAt;rw[QiX _ hm,aLc,ZA];by_cases h1:t.1=2
 ·rw[aLE h1,aLB,Bool.true_and]
  cases I:s.2.2.2.any fun x=>decide (x.1=t.2.1) with
  | false=>rfl
  | true=>
   have hn:0<=idxF (fun x=>decide (x.1=t.2.1)) s.2.2.2:=by rw[<-ZA] at I;exact aLG I
   rw[aLB,QCU hn,aLB,Yy _ J];rfl
 ·rw[aLD h1];rfl
def QaC (l:List TMb) (t:TX) (ahead:List TX):Bool:=ahead.any fun a=>!decide (a.1=0) || Qfk l t a
noncomputable def mOne (l:TL) (s:TState) (ahead:List TX) (id:Int):TX×Int:=if (mTI l id).2=0 then (if (mChk l s.2.2.1 (mTI l id).1 (ZD s)).2=0 then (if ahead.any (fun a=>Ye a (mTI l id).1) then ((mTI l id).1,7) else if (mTI l id).1.1 ≠ 0/\((Jc s.2.2.2 (mTI l id).1 id).2 ≠ 0\/QaC s.2.2.2 (mTI l id).1 ahead=true) then ((mTI l id).1,10) else ((mTI l id).1,0)) else ((mTI l id).1,(mChk l s.2.2.1 (mTI l id).1 (ZD s)).2)) else ((mTI l id).1,(mTI l id).2)
theorem QEF (l:TL) (s:TState) (ahead:List TX) (id:Int):(mOne l s ahead id).1=(mTI l id).1:=by
 unfold mOne;split
 ·split
  ·split
   ·rfl
   ·split<;>rfl
  ·rfl
 ·rfl
theorem Qt4 {l:TL} {s:TState} {ahead:List TX} {id:Int} (h:(mOne l s ahead id).2=0):(mTI l id).2=0:=by
 unfold mOne at h;split at h
 ·assumption
 ·exact h
theorem Qsg {ahead:List TX} (h:∀a,a ∈ ahead->okT a) {a:TX} (I:a ∈ ahead):a.2.2.1.length<BIG:=(h a I).b.ins
theorem QnC {l:TL} (hl:mLF l=0) {s:TState} (hs:mSt s=0) {ahead:List TX} (ha:∀a,a ∈ ahead->okT a) (hal:ahead.length<BIG) (id:Int):Qbr l s ahead id=some (mOne l s ahead id):=by
 have I:=Qhv hs
 have hm:=Qmy I.m
 have hmB:s.2.2.2.length<BIG:=by have:=hm.2;unfold BIG;omega
 unfold Qbr mOne;rw[QpA hl,aLc];by_cases h1:(mTI l id).2=0
 ·have ht:=Qdj h1
  have J:=ZS ht
  generalize (mTI l id).1=t at ht J;simp only[h1,decide_true,Bool.not_true,aLC,if_true];rw[QuO,aLc,QlS hl I.c ht (Qkd I),aLc];by_cases h2:(mChk l s.2.2.1 t (ZD s)).2=0
  ·simp only[h2,decide_true,Bool.not_true,aLC,if_true]
   have loop:∀(f:Bool×Int->Option ((Bool×Int)⊕(Bool⊕(Int×TX)))),
     (∀(i:Nat) (hi:i<ahead.length) (b:Bool),f (b,(i:Int))=some (if Ye ahead[i] t then .inr (.inr (7,t)) else .inl (b || (!decide (ahead[i].1=0) || Qfk s.2.2.2 t ahead[i]),((i+1:Nat):Int))))->(∀b,f (b,(ahead.length:Int))=some (.inr (.inl b)))->
     Qd f (false,0)=some (if ahead.any (fun a=>Ye a t) then .inr (7,t) else .inl (QaC s.2.2.2 t ahead)):=by
    intro f hf he;have key:∀(d i:Nat) (b:Bool),i+d=ahead.length->Qd f (b,(i:Int))=some (if (ahead.drop i).any (fun a=>Ye a t) then .inr (7,t) else .inl (b || QaC s.2.2.2 t (ahead.drop i))):=by
     intro d;induction d with
     | zero=>
      intro i b hi;obtain rfl:i=ahead.length:=by omega
      rw[QM (he b),List.drop_length];simp[QaC]
     | succ d ih=>
      intro i b hi;have U:i<ahead.length:=by omega
      have h5:=hf i U b
      rw[aLr U,List.any_cons];cases hc:Ye ahead[i] t with
      | true=>rw[hc,if_pos rfl] at h5;rw[QM h5];rfl
      | false=>
       rw[hc,if_neg (by simp)] at h5
       rw[Ze h5,ih (i+1) _ (by omega),Bool.false_or]
       have:QaC s.2.2.2 t (ahead[i]::ahead.drop (i+1))=((!decide (ahead[i].1=0) || Qfk s.2.2.2 t ahead[i]) || QaC s.2.2.2 t (ahead.drop (i+1))):=rfl
       rw[this,Bool.or_assoc]
    have:=key ahead.length 0 false (by omega)
    rw[List.drop_zero,Bool.false_or] at this;exact this
   rw[loop _ (fun i hi b=>by
    have hai:=Qsg ha (aLl hi)
    simp only[dlt hi,Qf _ i hi,Qc _ i _ hi,aLB,Qr6 hai J.b.ins,QAj s hmB (t:=t) hai,aLc,wsucc hi hal];cases Ye ahead[i] t
    ·cases b
     ·by_cases h:ahead[i].1=0
      ·rw[aLE h];cases Qfk s.2.2.2 t ahead[i]<;>rfl
      ·rw[aLD h];rfl
     ·rfl
    ·rfl) (fun b=>by simp only[dge,aLC]),aLc]
   cases hc:ahead.any fun a=>Ye a t with
   | true=>rfl
   | false=>
    simp only[Bool.false_eq_true,if_false,Sum.elim_inl];by_cases h3:t.1=0
    ·rw[aLE h3,if_neg (fun h=>h.1 h3)];rfl
    ·rw[aLD h3,Qnk hm (by have:=J.li;omega)]
     simp only[Bool.not_false,aLB,aLc];by_cases h4:(Jc s.2.2.2 t id).2=0
     ·rw[aLE h4]
      cases hk:QaC s.2.2.2 t ahead with
      | true=>rw[if_pos ⟨h3,.inr rfl⟩];rfl
      | false=>rw[if_neg (fun h=>h.2.elim (fun h=>h h4) (fun h=>by cases h))];rfl
     ·rw[aLD h4,if_pos ⟨h3,.inl h4⟩];rfl
  ·simp only[h2,decide_false,Bool.not_false,aLB,if_false]
 ·simp only[h1,decide_false,Bool.not_false,aLB,if_false]
noncomputable def QJ (l:TL) (pool:List Int):List TX:=pool.map fun i=>(mTI l i).1
theorem Qxc {l:TL} (hl:okL l) (pool:List Int) (hp:pool.length<=1000000):Jd l pool=some (QJ l pool):=by
 unfold Jd QJ;rw[ZQ (σ:=List TX) pool (fun acc i=>acc++[(mTI l i).1]) (fun t i=>(t,i)) (fun t=>t) (fun t i=>t.length=i) _ (fun i hi x I=>by
   refine⟨?_,by simp[I]⟩
   simp only[dlt hi,Qf _ i hi,Qc _ i _ hi,aLB,QiI hl,aLc,wsucc hi (by unfold BIG;omega)]
   rw[Qr (by simp only[aLh,aLj];unfold LIM;omega)];rfl) (fun t ht=>by simp only[dge,aLC]) [] rfl,aLc,foldl_map (fun i=>(mTI l i).1),aLx]
theorem QyT {l:List TMb} {t:TX} {id:Int} (I:t.1=2) (h:(Jc l t id).2=0):(l.any fun x=>decide (x.1=t.2.1))=true:=by
 unfold Jc at h;cases J:l.any fun x=>decide (x.1=t.2.1) with
 | true=>rfl
 | false=>rw[if_pos ⟨I,J⟩] at h;cases h
theorem Qwq {l:TL} (hl:okL l) {id:Int} (h:(mTI l id).2=0):mIn id 1 60=true:=by
 unfold mTI at h;cases h1:mIn id 1 (l.1.length:Int) with
 | false=>rw[h1] at h;simp at h
 | true=>
  rw[Qq] at h1 ⊢;have:=hl.n1
  omega
theorem Qwa {s:TState} (hs:okS' s) {t:TX} (ht:okT t) {id:Int} (hid:mIn id 1 60=true) {ahead:List TX} (ha:∀a,a ∈ ahead->okT a) (hal:ahead.length<BIG) :
  Y9 s t id ahead=some (if t.1 ≠ 0/\((Jc s.2.2.2 t id).2 ≠ 0\/QaC s.2.2.2 t ahead=true) then 10 else 0):=by
 have hm:=Qmy hs.m
 unfold Y9;by_cases h0:t.1=0
 ·rw[aLE h0,if_neg (fun h=>h.1 h0)];rfl
 ·rw[aLD h0,aLC,Qi0 hm (by have:=ht.li;omega) hid,aLc]
  by_cases h1:(Jc s.2.2.2 t id).2=0
  ·rw[aLE h1,Bool.not_true,aLC]
   have hcf:=QfF ahead hal (fun a=>!decide (a.1=0)) (fun a17=>(J5 a17).bind fun r18=>some r18) (fun a _=>rfl)
   rw[hcf,aLc];cases hk:ahead.any fun a=>!decide (a.1=0) with
   | true=>
    have hk2:QaC s.2.2.2 t ahead=true:=by
     unfold QaC;rw[List.any_eq_true] at hk ⊢;obtain⟨a,I,h3⟩:=hk;exact⟨a,I,by rw[h3];rfl⟩
    rw[if_pos ⟨h0,.inr hk2⟩];rfl
   | false=>
    rw[aLC];have U:QaC s.2.2.2 t ahead=ahead.any fun a=>Qfk s.2.2.2 t a:=by
     unfold QaC;rw[Bool.eq_iff_iff,List.any_eq_true,List.any_eq_true];rw[List.any_eq_false] at hk;constructor
     ·rintro ⟨a,I,h3⟩
      refine⟨a,I,?_⟩;have:=hk a I
      simp only[Bool.not_eq_true] at this;rw[this,Bool.false_or] at h3;exact h3
     ·rintro ⟨a,I,h3⟩
      exact⟨a,I,by rw[h3,Bool.or_true]⟩
    rw[U];by_cases I:t.1=2
    ·have J:=QyT I h1
     obtain⟨k,k1,k2,k3,k4,k5⟩:=Qkk hm.1 (by have:=hm.2;omega) t.2.1
     obtain⟨hk1,he⟩:=k3 J;rw[aLE I,aLB,k2,aLc,Qf _ k hk1,aLB];have hat:(List.getD s.2.2.2 (Int.toNat (k:Int)) (0,(0,0))).2=mAt s.2.2.2 t.2.1:=by
      unfold mAt;obtain⟨j,hj,e,hp,_⟩:=Qfg J;rw[e,Int.toNat_natCast,Int.toNat_natCast];have hp:s.2.2.2[j].1=t.2.1:=aLG hp
      have:j=k:=by
       rcases Nat.lt_trichotomy j k with h | h | h
       ·have:=Qc9 hm.1 h hk1;omega
       ·exact h
       ·have:=Qc9 hm.1 h hj;omega
      rw[this]
     rw[hat,QfF _ hal (fun a=>decide (mAt s.2.2.2 t.2.1 ∈ a.2.2.1)) _ (fun a ha'=>by unfold JY;rw[Qfa _ (Qsg ha ha')];rfl),aLc]
     have hh:(ahead.any fun a=>Qfk s.2.2.2 t a)=ahead.any fun a=>decide (mAt s.2.2.2 t.2.1 ∈ a.2.2.1):=by
      congr 1
      funext a
      unfold Qfk;rw[aLE I,J];rfl
     rw[hh];cases hz:ahead.any fun a=>decide (mAt s.2.2.2 t.2.1 ∈ a.2.2.1) with
     | true=>rw[if_pos ⟨h0,.inr rfl⟩];rfl
     | false=>rw[if_neg (fun h=>h.2.elim (fun h=>h h1) (fun h=>by cases h))];rfl
    ·have hh:(ahead.any fun a=>Qfk s.2.2.2 t a)=false:=by
      rw[List.any_eq_false];intro a _;unfold Qfk;rw[aLD I];simp
     rw[hh,aLD I,if_neg (fun h=>h.2.elim (fun h=>h h1) (fun h=>by cases h))];rfl
  ·rw[aLD h1,if_pos ⟨h0,.inl h1⟩];rfl
def QmN (l:TL) (pool:List Int):Prop:=∀i,i ∈ pool->(mTI l i).2=0
theorem QwD {l:TL} {pool:List Int} (h:QmN l pool):∀a,a ∈ QJ l pool->okT a:=fun a I=>by
 unfold QJ at I;obtain⟨i,hi,rfl⟩:=List.mem_map.1 I;exact ZS (Qdj (h i hi))
theorem QqQ {t:TX} (h:okT t):Ye t t=true:=by
 unfold Ye;have:=h.li
 cases hl:t.2.2.1 with
 | nil=>rw[hl] at this;simp at this
 | cons a l=>simp
theorem Qu4 {l:TL} (hl:okL l) {s:TState} (hs:okS' s) {pool:List Int} (hp:QmN l pool) (U:pool.length<=1000000) (id:Int):Yc l s pool id=some (mOne l s (QJ l pool) id).2:=by
 have hB:BIG=4611686018427387904:=rfl
 have I:=QwD hp
 have hlen:(QJ l pool).length=pool.length:=by unfold QJ;rw[List.length_map]
 unfold Yc mOne;rw[QiI hl,aLc];by_cases h1:(mTI l id).2=0
 ·have ht:=ZS (Qdj h1)
  rw[aLE h1,Bool.not_true,aLC,if_pos h1,QnU,aLc,Qii hl hs.c ht (Qkd hs),aLc];by_cases J:(mChk l s.2.2.1 (mTI l id).1 (ZD s)).2=0
  ·rw[aLE J,Bool.not_true,aLC,if_pos J,Qxc hl pool U,aLc,Ql7 _ (by omega),aLc]
   rw[QfF _ (by omega) (fun a=>Ye a (mTI l id).1) _ (fun a ha=>by unfold JH;rw[Qoj (Qsg I ha) ht.b.ins];rfl)]
   have e:(bif decide (id ∈ pool) then some true else (some ((QJ l pool).any fun a=>Ye a (mTI l id).1):Option Bool).bind fun y26=>some y26)=some ((QJ l pool).any fun a=>Ye a (mTI l id).1):=by
    by_cases hi:id ∈ pool
    ·rw[aLE hi,aLB]
     congr 1
     symm
     rw[List.any_eq_true];exact⟨(mTI l id).1,List.mem_map.2 ⟨id,hi,rfl⟩,QqQ ht⟩
    ·rw[aLD hi];rfl
   rw[e,aLc];cases hc:(QJ l pool).any fun a=>Ye a (mTI l id).1 with
   | true=>rfl
   | false=>
    rw[aLC,Qwa hs ht (Qwq hl h1) I (by omega),aLc]
    simp only[Bool.false_eq_true,if_false];split<;>rfl
  ·rw[aLD J,if_neg J];rfl
 ·rw[aLD h1,if_neg h1];rfl
noncomputable def mTxs (l:TL) (s:TState):List TX->List Int->List TX×Int
 | acc,[]=>(acc,0)
 | acc,id::r=>if (mOne l s acc id).2=0 then mTxs l s (acc++[(mTI l id).1]) r else ([],(mOne l s acc id).2)
def QaI (l:TL) (s:TState) (pool:List Int):Int:=if mLF l=0 then (if mSt s=0 then (if (8:Int)<(pool.length:Int) then 2 else 0) else mSt s) else mLF l
noncomputable def QaN (l:TL) (s:TState) (pool:List Int):Int:=if QaI l s pool=0 then (mTxs l s [] pool).2 else QaI l s pool
structure bL' (l:TL):Prop where
 a:l.1.length<BIG
 b:l.2.length<BIG
theorem Qz1 {l:TL} {s:TState} {pool:List Int} (h:QaI l s pool=0):mLF l=0/\mSt s=0/\pool.length<=8:=by
 unfold QaI at h;by_cases h1:mLF l=0
 ·rw[if_pos h1] at h
  by_cases I:mSt s=0
  ·rw[if_pos I] at h
   by_cases J:(8:Int)<(pool.length:Int)
   ·rw[if_pos J] at h;cases h
   ·exact⟨h1,I,by omega⟩
  ·rw[if_neg I] at h;exact absurd h I
 ·rw[if_neg h1] at h;exact absurd h h1
theorem Qzm {l:TL} (hl:bL' l) {s:TState} (hs:bS s) (pool:List Int):Qc5 l s pool=some (QaI l s pool):=by
 unfold Qc5 QaI;rw[QbG l hl.a hl.b,aLc,Qb6,QjF s hs,aLc,Qb6];split
 ·split
  ·by_cases h:(8:Int)<(pool.length:Int)
   ·rw[aLE h,if_pos h];rfl
   ·rw[aLD h,if_neg h];rfl
  ·rfl
 ·rfl
theorem QuR {l:TL} (hl:bL' l) {s:TState} (hs:bS s) (pool:List Int):Qbq l s pool=some (if QaI l s pool=0 then mTxs l s [] pool else ([],QaI l s pool)):=by
 have hB:BIG=4611686018427387904:=rfl
 have hL:LIM=1073741824:=rfl
 unfold Qbq;rw[Y1 l hl.a hl.b,aLc,Qb6];by_cases h1:mLF l=0
 ·rw[if_pos h1,Qta s hs,aLc,Qb6]
  by_cases h2:mSt s=0
  ·rw[if_pos h2]
   by_cases h3:(8:Int)<(pool.length:Int)
   ·have hh:QaI l s pool=2:=by unfold QaI;rw[if_pos h1,if_pos h2,if_pos h3]
    rw[aLE h3,hh];rfl
   ·have hh:QaI l s pool=0:=by unfold QaI;rw[if_pos h1,if_pos h2,if_neg h3]
    rw[aLD h3,if_pos hh,aLC];have loop:∀(f:List TX×Int->Option ((List TX×Int)⊕(List TX⊕(List TX×Int)))),
      (∀(i:Nat) (hi:i<pool.length) (acc:List TX),acc.length=i->(∀a,a ∈ acc->okT a)->f (acc,(i:Int))=some (if (mOne l s acc pool[i]).2=0 then .inl (acc++[(mTI l pool[i]).1],((i+1:Nat):Int)) else .inr (.inr ([],(mOne l s acc pool[i]).2))))->(∀acc,f (acc,(pool.length:Int))=some (.inr (.inl acc)))->
      ∀(d i:Nat) (acc:List TX),i+d=pool.length->acc.length=i->(∀a,a ∈ acc->okT a)->(Qd f (acc,(i:Int))).bind (fun j=>Sum.elim (fun j17=>some (j17,(0:Int))) (fun j18=>some (j18.1,j18.2)) j)=some (mTxs l s acc (pool.drop i)):=by
     intro f hf he d;induction d with
     | zero=>
      intro i acc hi J I;obtain rfl:i=pool.length:=by omega
      rw[QM (he acc),List.drop_length];rfl
     | succ d ih=>
      intro i acc hi J I;have hlt:i<pool.length:=by omega
      have h5:=hf i hlt acc J I
      rw[aLr hlt,mTxs];by_cases hc:(mOne l s acc pool[i]).2=0
      ·rw[if_pos hc] at h5 ⊢
       rw[Ze h5];refine ih (i+1) _ (by omega) (by simp[J]) (fun a ha=>?_)
       rcases List.mem_append.1 ha with ha | ha
       ·exact I a ha
       ·rw[aLs] at ha;subst ha
        exact ZS (Qdj (Qt4 hc))
      ·rw[if_neg hc] at h5 ⊢
       rw[QM h5];rfl
    have:=loop (fun (s14:List TX×Int)=>
 bif (decide ((s14.2:Int)<(List.length pool:Int))) then
 bif (inB s14.2 pool) then
 (Qbr l s s14.1 (List.getD pool (Int.toNat s14.2) 0)).bind fun (U:TX×Int)=>
 bif (!decide ((U.2:Int)=0)) then
 some (Sum.inr (Sum.inr (([]:List TX),U.2)))
 else
 bif decide (List.length s14.1+List.length ([U.1]:List TX)<=LIM) then
 some (Sum.inl (List.append s14.1 ([U.1]:List TX),IntKind.wrap .i64 (s14.2+1)))
 else none
 else none
 else
 some (Sum.inr (Sum.inl s14.1))) (fun i hi acc J I=>by
      simp only[dlt hi,Qf _ i hi,Qc _ i _ hi,aLB,QnC h1 h2 I (by omega),aLc,wsucc hi (by omega),QEF]
      by_cases hc:(mOne l s acc pool[i]).2=0
      ·rw[aLE hc,if_pos hc,Bool.not_true,aLC,Qr (by simp only[aLh,aLj];omega)];rfl
      ·rw[aLD hc,if_neg hc];rfl) (fun acc=>by simp only[dge,aLC]) pool.length 0 [] (by omega) rfl (fun a h=>nomatch h)
    rw[List.drop_zero] at this;exact this
  ·have hh:QaI l s pool=mSt s:=by unfold QaI;rw[if_pos h1,if_neg h2]
   rw[if_neg h2,hh,if_neg h2]
 ·have hh:QaI l s pool=mLF l:=by unfold QaI;rw[if_neg h1]
  rw[if_neg h1,hh,if_neg h1]
theorem Qkl {l:TL} (hl:bL' l) {s:TState} (hs:bS s) (pool:List Int):Qbg l s pool=some (QaN l s pool):=by
 have hB:BIG=4611686018427387904:=rfl
 unfold Qbg QaN;rw[Qzm hl hs,aLc,Qb6];by_cases hh:QaI l s pool=0
 ·rw[if_pos hh,if_pos hh]
  obtain⟨h1,h2,h3⟩:=Qz1 hh;have hlo:=JA h1
  have hso:=Qhv h2
  have loop:∀(f:Int->Option (Int⊕(Unit⊕Int))),
    (∀(i:Nat) (hi:i<pool.length),QmN l (pool.take i)->f (i:Int)=some (if (mOne l s (QJ l (pool.take i)) pool[i]).2=0 then .inl ((i+1:Nat):Int) else .inr (.inr (mOne l s (QJ l (pool.take i)) pool[i]).2)))->(f (pool.length:Int)=some (.inr (.inl ())))->
    ∀(d i:Nat),i+d=pool.length->QmN l (pool.take i)->(Qd f (i:Int)).bind (fun j=>Sum.elim (fun _=>some (0:Int)) (fun j16=>some j16) j)=some (mTxs l s (QJ l (pool.take i)) (pool.drop i)).2:=by
   intro f hf he d;induction d with
   | zero=>
    intro i hi I;obtain rfl:i=pool.length:=by omega
    rw[QM he,List.drop_length];rfl
   | succ d ih=>
    intro i hi I;have U:i<pool.length:=by omega
    have h5:=hf i U I
    rw[aLr U,mTxs];by_cases J:(mOne l s (QJ l (pool.take i)) pool[i]).2=0
    ·rw[if_pos J] at h5 ⊢
     have e:pool.take (i+1)=pool.take i++[pool[i]]:=List.take_succ_eq_append_getElem U
     have e2:QJ l (pool.take i)++[(mTI l pool[i]).1]=QJ l (pool.take (i+1)):=by
      unfold QJ;rw[e,List.map_append];rfl
     rw[Ze h5,e2];refine ih (i+1) (by omega) (fun j hj=>?_)
     rw[e,List.mem_append,aLs] at hj;rcases hj with hj | rfl
     ·exact I j hj
     ·exact Qt4 J
    ·rw[if_neg J] at h5 ⊢
     rw[QM h5];rfl
  have:=loop (fun (s12:Int)=>
 bif (decide ((s12:Int)<(List.length pool:Int))) then
 bif (inB s12 pool) then
 bif (QC 0 s12 pool) then
 (Yc l s (cut 0 s12 pool) (List.getD pool (Int.toNat s12) 0)).bind fun (y13:Int)=>
 bif (!decide ((y13:Int)=0)) then
 some (Sum.inr (Sum.inr y13))
 else
 some (Sum.inl (IntKind.wrap .i64 (s12+1)))
 else none
 else none
 else
 some (Sum.inr (Sum.inl ()))) (fun i hi I=>by
    simp only[dlt hi,Qf _ i hi,Qc _ i _ hi,YZ _ i (Nat.le_of_lt hi),Qbw,aLB,Qu4 hlo hso I (by rw[aLn];omega),aLc,wsucc hi (by omega)]
    by_cases J:(mOne l s (QJ l (pool.take i)) pool[i]).2=0
    ·rw[aLE J,if_pos J];rfl
    ·rw[aLD J,if_neg J];rfl) (by simp only[dge,aLC]) pool.length 0 (by omega) (fun j hj=>by simp at hj)
  rw[List.drop_zero,List.take_zero] at this;exact this
 ·rw[if_neg hh,if_neg hh]
end GL
end Go.Dx
set_option maxHeartbeats 2000000
namespace Go.Dx
namespace GL
abbrev TPR:=Int×List Int×List Int
theorem QtG {l:TL} {s:TState}:∀(pool:List Int) (acc:List TX),(mTxs l s acc pool).2=0->(mTxs l s acc pool).1=acc++QJ l pool/\QmN l pool
 | [],acc,_=>⟨by unfold QJ;simp[mTxs],fun i h=>nomatch h⟩
 | id::r,acc,h=>by
  unfold mTxs at h ⊢;by_cases I:(mOne l s acc id).2=0
  ·rw[if_pos I] at h ⊢
   obtain⟨h1,J⟩:=QtG r _ h;refine⟨by rw[h1];unfold QJ;simp,fun i hi=>?_⟩
   rcases List.mem_cons.1 hi with rfl | hi
   ·exact Qt4 I
   ·exact J i hi
  ·rw[if_neg I] at h;exact absurd h I
structure okP (l:TL) (s:TState) (pool:List Int):Prop where
 hl:mLF l=0
 hs:mSt s=0
 hn:pool.length<=8
 ht:QmN l pool
 hp:(mTxs l s [] pool).2=0
theorem QoA {l:TL} {s:TState} {pool:List Int} (h:QaN l s pool=0):okP l s pool:=by
 unfold QaN at h;by_cases hh:QaI l s pool=0
 ·rw[if_pos hh] at h
  obtain⟨h1,I,J⟩:=Qz1 hh;exact⟨h1,I,J,(QtG pool [] h).2,h⟩
 ·rw[if_neg hh] at h;exact absurd h hh
theorem QxK {l:TL} (hl:bL' l) {s:TState} (hs:bS s) (pool:List Int):Qbq l s pool=some (if QaN l s pool=0 then (QJ l pool,0) else ([],QaN l s pool)):=by
 rw[QuR hl hs];unfold QaN;by_cases hh:QaI l s pool=0
 ·rw[if_pos hh,if_pos hh]
  have key:∀(p:List Int) (acc:List TX),(mTxs l s acc p).2 ≠ 0->(mTxs l s acc p).1=[]:=by
   intro p;induction p with
   | nil=>intro acc h;exact absurd rfl h
   | cons id r U=>
    intro acc h;unfold mTxs at h ⊢;by_cases J:(mOne l s acc id).2=0
    ·rw[if_pos J] at h ⊢;exact U _ h
    ·rw[if_neg J]
  by_cases I:(mTxs l s [] pool).2=0
  ·rw[if_pos I]
   have:=(QtG pool [] I).1
   rw[aLx] at this;rw[<-this,<-I]
  ·rw[if_neg I]
   exact congrArg some (Prod.ext (key pool [] I) rfl)
 ·rw[if_neg hh,if_neg hh,if_neg hh]
def mFee (l:TL) (s:TState) (I:List TX):Int:=I.foldl (fun n t=>IntKind.wrap .i64 (n+(mChk l s.2.2.1 t (ZD s)).1)) 0
noncomputable def Qwv (l:TL) (s:TState) (pool:List Int):Int×Int:=if QaN l s pool=0 then (0,mFee l s (QJ l pool)) else (QaN l s pool,0)
theorem QqZ (l:TL) (pool:List Int):(QJ l pool).length=pool.length:=by unfold QJ;rw[List.length_map]
theorem QEW {l:TL} {pool:List Int} (h:QmN l pool):∀a,a ∈ QJ l pool->mTxF a=0:=fun a I=>by
 unfold QJ at I;obtain⟨i,hi,rfl⟩:=List.mem_map.1 I;exact Qdj (h i hi)
theorem QvI {l:TL} (hl:bL' l) {s:TState} (hs:bS s) (pool:List Int):Qgl l s pool=some (Qwv l s pool):=by
 have U:BIG=4611686018427387904:=rfl
 unfold Qgl Qwv;rw[Qkl hl hs,aLc,Qb6];by_cases I:QaN l s pool=0
 ·rw[if_pos I,if_pos I]
  have ho:=QoA I
  have J:=Qhv ho.hs
  have hlen:=QqZ l pool
  have hn:=ho.hn
  rw[Qxc (JA ho.hl) pool (by omega),aLc]
  rw[ZQ (σ:=Int) (QJ l pool) (fun n t=>IntKind.wrap .i64 (n+(mChk l s.2.2.1 t (ZD s)).1)) (fun t i=>(t,(QJ l pool,i))) (fun t=>t) (fun _ _=>True) _ (fun i hi x hx=>by
    refine⟨?_,trivial⟩;simp only[dlt hi,Qf _ i hi,Qc _ i _ hi,aLB,QnU,Qii (JA ho.hl) J.c (ZS (QEW ho.ht _ (aLl hi))) (Qkd J),aLc,wsucc hi (by omega)]) (fun t ht=>by simp only[dge,aLC]) 0 trivial]
  rfl
 ·rw[if_neg I,if_neg I]
noncomputable def QoG (l:TL) (s:TState) (pool:List Int) (id:Int):List Int×Int:=if (mOne l s (QJ l pool) id).2=0 then (if 8<=pool.length then ([],2) else (pool++[id],0)) else ([],(mOne l s (QJ l pool) id).2)
noncomputable def mAdd (l:TL) (s:TState) (pool:List Int) (id:Int):TPR:=if QaN l s pool=0 then ((QoG l s pool id).2,([],(QoG l s pool id).1)) else (QaN l s pool,([],[]))
theorem Qtq {l:TL} (hl:bL' l) {s:TState} (hs:bS s) (pool:List Int) (id:Int):Qfl l s pool id=some (mAdd l s pool id):=by
 have U:BIG=4611686018427387904:=rfl
 unfold Qfl mAdd QoG;rw[QxK hl hs,aLc];by_cases I:QaN l s pool=0
 ·have ho:=QoA I
  have hn:=ho.hn
  rw[if_pos I,if_pos I];simp only[decide_true,Bool.not_true,aLC];rw[QnC ho.hl ho.hs (QwD ho.ht) (by rw[QqZ];omega),aLc,Qb6]
  by_cases h1:(mOne l s (QJ l pool) id).2=0
  ·rw[if_pos h1,if_pos h1]
   by_cases J:8<=pool.length
   ·rw[aLE (by omega),if_pos J];rfl
   ·rw[aLD (by omega),if_neg J,aLC,Qr (by simp only[aLj];unfold LIM;omega),Qr (by simp only[aLo,aLx,aLh,aLj];unfold LIM;omega)];rfl
  ·rw[if_neg h1,if_neg h1]
 ·rw[if_neg I,if_neg I,aLD I];rfl
abbrev TBR:=Int×Int×Int×Int×List Int
noncomputable def QiR (l:TL) (s:TState) (pool:List Int) (m:Int):TBR:=if QaN l s pool=0 then (if mIn m 1 999 then (if 40<=s.2.1 then (2,(0,(0,(0,[])))) else (0,(s.1,(IntKind.wrap .i64 (s.2.1+1),(m,pool.take 6))))) else (3,(0,(0,(0,[]))))) else (QaN l s pool,(0,(0,(0,[]))))
theorem cut6 (pool:List Int) (hn:pool.length<=8):QC 0 (min 6 (pool.length:Int)) pool=true/\cut 0 (min 6 (pool.length:Int)) pool=pool.take 6:=by
 refine⟨by unfold QC;simp;omega,?_⟩
 unfold cut;rw[show (min 6 (pool.length:Int) - 0).toNat=min 6 pool.length by omega]
 simp only[Int.toNat_zero,List.drop_zero];by_cases h:pool.length<=6
 ·rw[List.take_of_length_le (by omega),List.take_of_length_le (by omega)]
 ·rw[show min 6 pool.length=6 by omega]
theorem Qqw {l:TL} (hl:bL' l) {s:TState} (hs:bS s) (pool:List Int) (m:Int):QcY l s pool m=some (QiR l s pool m):=by
 unfold QcY QiR Qb5;rw[Qkl hl hs,aLc,Qb6];by_cases I:QaN l s pool=0
 ·have ho:=QoA I
  have hn:=ho.hn
  have hh:=(Qhv ho.hs).h
  obtain⟨c1,c2⟩:=cut6 pool hn;rw[if_pos I,if_pos I,QcK,aLc];cases mIn m 1 999
  ·rfl
  ·simp only[Bool.not_true,aLC,if_true]
   by_cases J:40<=s.2.1
   ·rw[aLE (by omega),if_pos J];rfl
   ·rw[aLD (by omega),if_neg J,aLC,c1,aLB,c2,Qpm _ (by rw[aLn];unfold LIM;omega)];rfl
 ·rw[if_neg I,if_neg I]
theorem Qki {l:TL} (hl:bL' l) {s:TState} (hs:bS s) (pool:List Int) (m:Int):QG l s pool m=some (QiR l s pool m):=by
 unfold QG QiR Qes;rw[QxK hl hs,aLc];by_cases I:QaN l s pool=0
 ·have ho:=QoA I
  have hn:=ho.hn
  obtain⟨c1,c2⟩:=cut6 pool hn;rw[if_pos I,if_pos I];simp only[decide_true,Bool.not_true,aLC];rw[Qa8,aLc];cases mIn m 1 999
  ·rfl
  ·simp only[Bool.not_true,aLC,if_true]
   by_cases J:40<=s.2.1
   ·rw[aLE (by omega),if_pos J];rfl
   ·rw[aLD (by omega),if_neg J,aLC]
    have e6:(bif decide ((pool.length:Int)<6) then some (pool.length:Int) else some 6)=some (min 6 (pool.length:Int)):=by
     by_cases U:(pool.length:Int)<6
     ·rw[aLE U];show some (pool.length:Int)=_;congr 1;omega
     ·rw[aLD U];show some (6:Int)=_;congr 1;omega
    rw[e6,aLc,c1,aLB,c2,Qr (by simp only[aLj,aLn];unfold LIM;omega)];rfl
 ·rw[if_neg I,if_neg I,aLD I];rfl
end GL
end Go.Dx
set_option maxHeartbeats 2000000
namespace Go.Dx
namespace GL
theorem QDh (l:TL) (s:TState) (pool:List Int) (id:Int):(QoG l s pool id).1.length<=8:=by
 unfold QoG;split
 ·split
  ·simp
  ·simp;omega
 ·simp
theorem QEr (l:TL) (s:TState) (pool:List Int) (id:Int):(mAdd l s pool id).2.1.length<=100/\(mAdd l s pool id).2.2.length<=100:=by
 unfold mAdd;have:=QDh l s pool id
 split
 ·exact⟨by simp,by show (QoG l s pool id).1.length<=100;omega⟩
 ·simp
end GL
end Go.Dx
set_option maxHeartbeats 2000000
namespace Go.Dx
namespace GL
theorem QCS (l:TL) (left:List Int) (id:Int):QJ l (left++[id])=QJ l left++[(mTI l id).1]:=by unfold QJ;simp
end GL
end Go.Dx
set_option maxHeartbeats 2000000
namespace Go.Dx
namespace GL
theorem QlX {α:Type} (l:List α) (h:l.length<1000000):decide (List.length ([]:List α)+List.length l<=LIM)=true:=by
 simp only[aLj,aLF];unfold LIM;omega
structure Qot (l:List Int):Prop where
 len:l.length<=1048576
 byte:∀a,a ∈ l->0<=a/\a<=255
structure Src (N:Nat) (s:List Int×Int):Prop where
 code:Qot s.1
 lo:0<=s.2
 hi:s.2<=N
theorem Src.mono {N M:Nat} {s:List Int×Int} (h:Src N s) (hm:N<=M):Src M s:=⟨h.code,h.lo,by have:=h.hi;omega⟩
theorem byte_at {l:List Int} (h:Qot l) (i:Int):0<=List.getD l (Int.toNat i) 0/\List.getD l (Int.toNat i) 0<=255:=by
 rw[aLk];cases I:l[i.toNat]? with
 | none=>simp
 | some a=>exact h.byte a (List.mem_of_getElem? I)
def QDF (N:Nat) (k:Int) (r:Int×List Int×Int):Prop:=Src (N+1) r.2/\0<=r.1/\(1<=k->r.1<k)/\(k<1->r.1=0)
theorem QY {N:Nat} {s:List Int×Int} (h:Src N s) (hN:N<=1000000) (k:Int) (hk:k<=2000000000):Y (Ql s k) (QDF N k):=by
 have I:=h.lo
 have hhi:=h.hi
 unfold Ql;have w1:IntKind.wrap .i64 (s.2+1)=s.2+1:=Qe (by omega) (by omega)
 have w2:IntKind.wrap .i64 (s.2+1 - 1)=s.2:=by rw[show s.2+1 - 1=s.2 by omega];exact Qe (by omega) (by omega)
 simp only[w1];rw[show s.2+1 - 1=s.2 by omega] at w2 ⊢
 simp only[w2];have hS:Src (N+1) (s.1,s.2+1):=⟨h.code,by show 0<=s.2+1;omega,by show s.2+1<=((N+1:Nat):Int);omega⟩
 have fin:∀v:Int,0<=v->1<=k->QDF N k (Int.tmod v k,(s.1,s.2+1)):=fun v hv h1=>by
  refine⟨hS,?_,fun _=>?_,fun J=>by omega⟩
  ·show 0<=v.tmod k
   rw[Int.tmod_eq_emod_of_nonneg hv];exact Int.emod_nonneg _ (by omega)
  ·show v.tmod k<k
   rw[Int.tmod_eq_emod_of_nonneg hv];exact Int.emod_lt_of_pos _ (by omega)
 refine Y.bif (fun h1=>?_) (fun h1=>?_)
 ·exact Y.some ⟨hS,Int.le_refl _,fun J=>by simp only[aLF] at h1;omega,fun _=>rfl⟩
 ·have h1:1<=k:=by simp only[decide_eq_false_iff_not] at h1;omega
  have U:(!decide (k=0))=true:=by simp;omega
  refine Y.bif (fun J=>?_) (fun J=>?_)
  ·refine Y.grd U (Y.some (fin _ ?_ h1))
   rw[Qe (n:=s.2 * 7) (by omega) (by omega)];omega
  ·have hn:0<(s.1.length:Int):=by have:=aLH J;omega
   have hlen:=h.code.len
   have hz:(!decide ((List.length s.1:Int)=0))=true:=by rw[J];rfl
   have md:∀v:Int,0<=v->inB (Int.tmod v (List.length s.1:Int)) s.1=true:=fun v hv=>by
    rw[Int.tmod_eq_emod_of_nonneg hv];exact QP (Int.emod_nonneg _ (by omega)) (Int.emod_lt_of_pos _ hn)
   refine Y.grd hz (Y.grd (md _ I) (Y.grd hz ?_));obtain⟨b1,b2⟩:=byte_at h.code (Int.tmod s.2 (List.length s.1:Int));have d1:0<=Int.tdiv s.2 (List.length s.1:Int):=Int.tdiv_nonneg I (by omega)
   have d2:Int.tdiv s.2 (List.length s.1:Int)<=s.2:=by
    rw[Int.tdiv_eq_ediv_of_nonneg I];exact Int.ediv_le_self _ I
   generalize Int.tdiv s.2 (List.length s.1:Int)=d at d1 d2;generalize List.getD s.1 (Int.toNat (Int.tmod s.2 (List.length s.1:Int))) 0=b at b1 b2;have wb:IntKind.wrap .i64 b=b:=Qe (by omega) (by omega)
   have wd:IntKind.wrap .i64 d=d:=Qe (by omega) (by omega)
   have wd2:IntKind.wrap .i64 (d * 37)=d * 37:=Qe (by omega) (by omega)
   have wv:IntKind.wrap .i64 (b+d * 37)=b+d * 37:=Qe (by omega) (by omega)
   simp only[wb,wd,wd2,wv];refine Y.bind (Q:=fun v=>0<=v) ?_ (fun v hv=>Y.grd U (Y.some (fin v hv h1)))
   refine Y.bif (fun h3=>?_) (fun h3=>Y.some (by omega))
   simp only[w1];refine Y.grd hz (Y.grd (md _ (by omega)) ?_)
   obtain⟨c1,c2⟩:=byte_at h.code (Int.tmod (s.2+1) (List.length s.1:Int));generalize List.getD s.1 (Int.toNat (Int.tmod (s.2+1) (List.length s.1:Int))) 0=c at c1 c2;refine Y.some ?_;show 0<=_
   rw[Qe (n:=c) (by omega) (by omega),Qe (n:=c * 13) (by omega) (by omega),Qe (n:=(b+d * 37) * 251) (by omega) (by omega),Qe (n:=(b+d * 37) * 251+c * 13) (by omega) (by omega),Qe (n:=(b+d * 37) * 251+c * 13+s.2) (by omega) (by omega)]
   omega
theorem QaR {N:Nat} {s:List Int×Int} (h:Src N s) (I:N<=1000000) (k:Int) (hk:k<=2000000000):Y (QS s k) (fun r=>Src (N+1) r.2):=by
 unfold QS;exact Y.bind (QY h I k hk) fun r J=>Y.some J.1
theorem QiC {N:Nat} {s:List Int×Int} (h:Src N s) (J:N<=1000000) (l:List Int) (h0:0<l.length) (hl:l.length<=1000):Y (YT s l) (fun r=>Src (N+1) r.2/\r.1 ∈ l):=by
 unfold YT;refine Y.bind (QY h J _ (by omega)) fun r U=>?_
 obtain⟨h1,h2,I,_⟩:=U;have I:=I (by omega)
 refine Y.grd (QP h2 I) (Y.some ⟨h1,?_⟩);have hi:r.1.toNat<l.length:=by omega
 show List.getD l (Int.toNat r.1) 0 ∈ l
 rw[aLk,aLf hi];exact aLl hi
end GL
end Go.Dx
set_option maxHeartbeats 2000000
namespace Go.Dx
namespace GL
theorem Y.of {α:Type} {o:Option α} {a:α} {Q:α->Prop} (h:o=Option.some a) (I:Q a):Y o Q:=⟨a,h,I⟩
def kRu (r:TRu):Prop:=r.1.length<=10
theorem QEh {N:Nat} {s:List Int×Int} (h:Src N s) (hN:N<=900000):Y (Ju s) (fun r=>Src (N+7) r.2/\kRu r.1):=by
 unfold Ju;refine Y.bind (QY h (by omega) 3 (by omega)) fun y11 U=>?_
 refine Y.bind (QY U.1 (by omega) 3 (by omega)) fun J I=>?_
 refine Y.bind (Q:=fun (j:(List Int×Int×Int)×List Int×Int)=>Src (N+4) j.2/\j.1.1.length<=3) ?_ (fun j hj=>?_)
 ·refine Y.loop (fun n (st:Int×(List Int×Int×Int)×List Int×Int)=>st.1=(n:Int)/\1<=st.2.1.1.length/\st.2.1.1.length+n<=3/\Src (N+4 - n) st.2.2/\n<=2) (fun n st hi=>?_) J.1.toNat _ ?_
  ·obtain⟨i1,i2,i3,i4,i5⟩:=hi
   refine Y.bif (fun hc=>?_) (fun hc=>?_)
   ·have hn:0<n:=by have:=aLG hc;omega
    refine Y.grd (QP (by rw[Qe (by omega) (by omega)];omega) (by rw[Qe (by omega) (by omega)];omega)) ?_
    refine Y.bind (QY i4 (by omega) 2 (by omega)) fun y16 h16=>?_
    refine Y.grd (ZC _ _ (by omega)) (Y.some ⟨n - 1,by omega,?_,?_,?_,h16.1.mono (by omega),by omega⟩)
    ·show IntKind.wrap .i64 (st.1 - 1)=_
     rw[i1,Qe (by omega) (by omega)];omega
    ·show 1<=(List.append _ _).length
     simp
    ·show (List.append _ _).length+(n - 1)<=3
     simp only[aLo,aLi,aLh,aLj];omega
   ·have hn:n=0:=by have:=aLH hc;omega
    subst hn;exact Y.some ⟨i4,by omega⟩
  ·have h1:=I.2.1
   have h2:=I.2.2.1 (by omega)
   exact⟨by show J.1=_;omega,by simp,by simp only[aLh,aLj];omega,I.1.mono (by omega),by omega⟩
 ·refine Y.bind (QY hj.1 (by omega) _ (by omega)) fun y18 h18=>?_
  refine Y.bind (QY h18.1 (by omega) 9 (by omega)) fun y19 h19=>?_
  refine Y.bind (QiC h19.1 (by omega) _ (by simp) (by simp)) fun y20 h20=>?_
  exact Y.some ⟨h20.1,Nat.le_trans hj.2 (by decide)⟩
def Qwp (l:List TOut):Prop:=l.length<=4/\∀x,x ∈ l->kRu x.2
theorem QBN {N:Nat} {s:List Int×Int} (h:Src N s) (hN:N<=800000):Y (Qcf s) (fun r=>Src (N+25) r.2/\Qwp r.1):=by
 unfold Qcf;refine Y.bind (QY h (by omega) 4 (by omega)) fun U I=>?_
 refine Y.bind (Q:=fun (j:List TOut×List Int×Int)=>Src (N+25) j.2/\Qwp j.1) ?_ (fun j hj=>Y.some hj)
 refine Y.loop (fun n (st:List TOut×Int×List Int×Int)=>st.2.1=(n:Int)/\st.1.length+n<=3/\(∀x,x ∈ st.1->kRu x.2)/\Src (N+25 - 8 * n) st.2.2/\n<=3) (fun n st hi=>?_) U.1.toNat _ ?_
 ·obtain⟨i1,i2,i3,i4,i5⟩:=hi
  refine Y.bif (fun hc=>?_) (fun hc=>?_)
  ·have hn:0<n:=by have:=aLG hc;omega
   refine Y.bind (QY i4 (by omega) 300 (by omega)) fun y16 h16=>?_
   refine Y.bind (QEh h16.1 (by omega)) fun y17 h17=>?_
   refine Y.grd (ZC _ _ (by omega)) (Y.some ⟨n - 1,by omega,?_,?_,?_,h17.1.mono (by omega),by omega⟩)
   ·show IntKind.wrap .i64 (st.2.1 - 1)=_
    rw[i1,Qe (by omega) (by omega)];omega
   ·show (List.append _ _).length+(n - 1)<=3
    simp only[aLo,aLi,aLh,aLj];omega
   ·intro x J
    have J:x ∈ st.1++[(IntKind.wrap .i64 (1+y16.1),y17.1)]:=J
    rcases List.mem_append.1 J with J | J
    ·exact i3 x J
    ·obtain rfl:=aLs.1 J;exact h17.2
  ·have hn:n=0:=by have:=aLH hc;omega
   subst hn;exact Y.some ⟨i4,(show st.1.length<=4 by omega),i3⟩
 ·have h1:=I.2.1
  have h2:=I.2.2.1 (by omega)
  exact⟨by show U.1=_;omega,by simp only[aLj];omega,by simp,I.1.mono (by omega),by omega⟩
def kC (x:TCoin):Prop:=x.2.1.2.1.length<=10
theorem Qnx (r:TRu) (h:r.1.length<=10):Qaz r=some r:=by
 unfold Qaz;rw[QlX _ (by omega)];rfl
theorem QzH (l:List TCoin) (x:TCoin) (hl:l.length<=100):Y (Qhd l x) (fun r=>r.length=l.length+1/\∀y,y ∈ r->y=x\/y ∈ l):=by
 unfold Qhd;refine Y.bind (Q:=fun (j:Int)=>0<=j/\j<=(l.length:Int)) ?_ (fun j U=>?_)
 ·refine Y.loop (fun n (st:Int)=>0<=st/\st+(n:Int)=(l.length:Int)) (fun n st hi=>?_) l.length 0 ⟨Int.le_refl _,by omega⟩
  obtain⟨i1,i2⟩:=hi;refine Y.bind (Q:=fun b=>b=true->st<(l.length:Int)) (Y.bif (fun J=>?_) (fun _=>Y.some (fun h=>by cases h))) (fun b hb=>?_)
  ·have J:=aLG J
   refine Y.grd (QP i1 J) ?_;rw[Ql4];exact Y.some (fun _=>J)
  ·refine Y.bif (fun J=>?_) (fun _=>Y.some ⟨i1,by omega⟩)
   have:=hb J
   refine Y.some ⟨n - 1,by omega,?_⟩
   rw[Qe (by omega) (by omega)]
   omega
 ·obtain⟨j1,j2⟩:=U
  obtain⟨k,rfl⟩:=aLA j1;have hk:k<=l.length:=by omega
  have e1:QC 0 (k:Int) l=true:=YZ l k hk
  have e2:QC (k:Int) (l.length:Int) l=true:=by unfold QC;simp;omega
  have e3:cut (k:Int) (l.length:Int) l=l.drop k:=by
   unfold cut;simp only[Int.toNat_natCast];rw[List.take_of_length_le (by rw[aLz];omega)]
  rw[e1,e2,Qbw,e3,aLB,aLB,aLo,aLo,aLo];rw[Qr,Qr,Qr]
  ·refine Y.some ⟨by simp only[aLi,aLh,aLj,aLn,aLz];omega,fun y I=>?_⟩
   simp only[aLx,List.append_assoc,List.mem_append,aLs] at I;rcases I with I | I | I
   ·exact .inr (List.mem_of_mem_take I)
   ·exact .inl I
   ·exact .inr (List.mem_of_mem_drop I)
  all_goals ((try simp only[aLi,aLh,aLj,aLn,aLz]);unfold LIM;omega)
theorem QlB (l:List TCoin) (hl:l.length<BIG) (tx:Int):QbQ l tx=some (l.any fun x=>decide (x.1.1=tx)):=by
 unfold QbQ;refine QiF l _ _ (fun i h=>?_) (by simp only[dge,aLC])
 simp only[dlt h,Qf l i h,Qc l i _ h,aLB,wsucc h hl];cases decide (l[i].1.1=tx)<;>rfl
def kL (l:List TCoin):Prop:=l.length<=41/\∀x,x ∈ l->kC x
theorem QEd (l:List TCoin) (tx:Int) (outs:List TOut) (h:Int) (m:Bool) (hl:l.length+outs.length<=40) (hk:∀x,x ∈ l->kC x) (ho:∀x,x ∈ outs->kRu x.2):Y (QcD l tx outs h m) (fun r=>kL r.1/\r.2=l):=by
 unfold QcD;rw[Qdt l (by omega) (fun x I=>by have:=hk x I;unfold kC at this;omega),aLc]
 refine Y.bind (Q:=kL) ?_ (fun j hj=>Y.some ⟨hj,rfl⟩)
 refine Y.loop (fun n (st:List TCoin×Int)=>0<=st.2/\st.2+(n:Int)=(outs.length:Int)/\st.1.length+n<=40/\∀x,x ∈ st.1->kC x) (fun n st hi=>?_) outs.length (l,0) ⟨Int.le_refl _,by simp,hl,hk⟩
 obtain⟨i1,i2,i3,i4⟩:=hi;refine Y.bif (fun hc=>?_) (fun hc=>Y.some ⟨by omega,i4⟩)
 have hc:=aLG hc
 have J:=QP i1 hc
 refine Y.grd J (Y.grd J ?_);obtain⟨k,hk2⟩:=aLA i1;have U:k<outs.length:=by omega
 rw[hk2,Qc outs k _ U];have hor:=ho _ (aLl U)
 unfold kRu at hor;rw[Qnx _ (by omega),aLc]
 refine Y.bind (QzH _ _ (by omega)) fun y17 h17=>Y.some ⟨n - 1,by omega,?_⟩
 refine⟨?_,?_,?_,fun x I=>?_⟩
 ·show 0<=IntKind.wrap .i64 ((k:Int)+1)
  rw[Qe (by omega) (by omega)];omega
 ·show IntKind.wrap .i64 ((k:Int)+1)+_=_
  rw[Qe (by omega) (by omega)];omega
 ·show y17.length+_<=40
  rw[h17.1];omega
 ·rcases h17.2 x I with rfl | I
  ·show (outs[k].2.1).length<=10
   omega
  ·exact i4 x I
theorem QBt (l:List TCoin) (tx:Int) (outs:List TOut) (h:Int) (m:Bool) (hl:kL l) (ho:Qwp outs):Y (YK l tx outs h m) (fun r=>kL r.1.2/\r.2=l):=by
 have hk:∀x,x ∈ l->x.2.1.2.1.length<BIG:=fun x hx=>by
  have:=hl.2 x hx;unfold kC at this;unfold BIG;omega
 have J:l.length<BIG:=by have:=hl.1;unfold BIG;omega
 have nil:kL []:=⟨by simp,by simp⟩
 unfold YK;rw[Qa0 l J hk,aLc,Zf,aLc,QbE];refine Y.bif (fun _=>Y.some ⟨nil,rfl⟩) (fun _=>?_)
 refine Y.bind (Q:=fun _=>True) (Y.bif (fun _=>Y.some trivial) (fun _=>Y.some trivial)) (fun b _=>?_)
 refine Y.bif (fun _=>Y.some ⟨nil,rfl⟩) (fun _=>?_)
 refine Y.bif (fun _=>Y.some ⟨nil,rfl⟩) (fun _=>?_)
 refine Y.bind (Q:=fun (j:Unit⊕(Int×List TCoin))=>match j with | .inl _=>True | .inr r=>r.2=[]) ?_ (fun j hj=>?_)
 ·refine Y.loop (fun n (st:Int)=>0<=st/\st+(n:Int)=(outs.length:Int)) (fun n st hi=>?_) outs.length 0 ⟨Int.le_refl _,by omega⟩
  obtain⟨i1,i2⟩:=hi;refine Y.bif (fun I=>?_) (fun I=>Y.some trivial)
  have I:=aLG I
  refine Y.grd (QP i1 I) ?_;obtain⟨k,rfl⟩:=aLA i1;have U:k<outs.length:=by omega
  rw[Qc outs k _ U];have hor:=ho.2 _ (aLl U)
  unfold kRu at hor;rw[Qkv _ (by unfold BIG;omega),aLc]
  refine Y.bif (fun _=>Y.some rfl) (fun _=>Y.some ⟨n - 1,by have:=ho.1;omega,?_⟩)
  have:=ho.1
  rw[Qe (by omega) (by omega)]
  omega
 ·cases j with
  | inr r=>
   refine Y.some ⟨?_,rfl⟩;have hj:r.2=[]:=hj
   show kL r.2
   rw[hj];exact nil
  | inl _=>
   show Y ((QbQ l tx).bind _) _
   rw[QlB l J,aLc];refine Y.bif (fun _=>Y.some ⟨nil,rfl⟩) (fun _=>?_)
   refine Y.bif (fun _=>Y.some ⟨nil,rfl⟩) (fun I=>?_)
   have I:=aLH I
   have h1:=hl.1
   have h2:=ho.1
   rw[Qe (by omega) (by omega)] at I
   refine Y.bind (QEd l tx outs h m (by omega) hl.2 ho.2) fun y30 h30=>Y.some ⟨h30.1,h30.2⟩
theorem QA0 {N:Nat} {s:List Int×Int} (h:Src N s) (hN:N<=700000):Y (QeR s) (fun r=>Src (N+141) r.2/\kL r.1):=by
 unfold QeR;refine Y.bind (QY h (by omega) 6 (by omega)) fun J I=>?_
 refine Y.bind (Q:=fun (j:List TCoin×List Int×Int)=>Src (N+141) j.2/\kL j.1) ?_ (fun j hj=>Y.some hj)
 refine Y.loop (fun n (st:List TCoin×Int×List Int×Int)=>st.2.1=(n:Int)/\kL st.1/\Src (N+141 - 28 * n) st.2.2/\n<=5) (fun n st hi=>?_) J.1.toNat _ ?_
 ·obtain⟨i1,i2,i3,i4⟩:=hi
  refine Y.bif (fun hc=>?_) (fun hc=>?_)
  ·have hn:0<n:=by have:=aLG hc;omega
   refine Y.bind (QY i3 (by omega) 6 (by omega)) fun y36 h36=>?_
   refine Y.bind (QBN h36.1 (by omega)) fun y37 U=>?_
   refine Y.bind (QY U.1 (by omega) 6 (by omega)) fun y38 h38=>?_
   refine Y.bind (QaR h38.1 (by omega) 3 (by omega)) fun y39 h39=>?_
   refine Y.bind (QBt _ _ _ _ _ i2 U.2) fun y40 h40=>?_
   refine Y.bind (Q:=kL) (Y.bif (fun _=>Y.some h40.1) (fun _=>Y.some (by rw[h40.2];exact i2))) (fun j hj=>?_)
   refine Y.some ⟨n - 1,by omega,?_,hj,h39.mono (by omega),by omega⟩
   show IntKind.wrap .i64 (st.2.1 - 1)=_
   rw[i1,Qe (by omega) (by omega)];omega
  ·have hn:n=0:=by have:=aLH hc;omega
   subst hn;exact Y.some ⟨i3,i2⟩
 ·have h1:=I.2.1
  have h2:=I.2.2.1 (by omega)
  exact⟨by show J.1=_;omega,⟨by simp,by simp⟩,I.1.mono (by omega),by omega⟩
def kM (l:List TCoin):Prop:=l.length<=42/\∀x,x ∈ l->kC x
theorem Qxa {l:List TCoin} (h:kM l) (i:Nat) (x:TCoin) (J:kC x):kM (List.set l i x):=⟨by rw[List.length_set];exact h.1,fun y I=>by
 rcases List.mem_or_eq_of_mem_set I with I | rfl
 ·exact h.2 y I
 ·exact J⟩
theorem QES {l:List TCoin} (h:kM l) (i:Nat) (hi:i<l.length):kC (List.getD l i dC):=by
 rw[aLk,aLf hi];exact h.2 _ (aLl hi)
theorem QBd {N:Nat} {s:List Int×Int} (h:Src N s) (hN:N<=600000):Y (QfZ s) (fun r=>kM r.1/\Src (N+201) r.2):=by
 unfold QfZ;refine Y.bind (QA0 h (by omega)) fun I J=>?_
 have hM:kM I.1:=⟨by have:=J.2.1;omega,J.2.2⟩
 refine Y.bind (Q:=fun (j:List TCoin×List Int×Int)=>kM j.1/\Src (N+200) j.2) (Y.bif (fun hc=>?_) (fun _=>Y.some ⟨hM,J.1.mono (by omega)⟩)) (fun j142 h142=>?_)
 ·have hc:=aLG hc
  have hin:inB 0 I.1=true:=QP (Int.le_refl _) hc
  have h0:kC (List.getD I.1 (Int.toNat 0) dC):=QES hM _ (by show 0<_;omega)
  refine Y.bind (QY J.1 (by omega) 14 (by omega)) fun y108 U=>?_
  refine Y.bind (Q:=fun (j:List TCoin×List Int×Int)=>kM j.1/\Src (N+200) j.2) (Y.bif (fun _=>?_) (fun _=>?_)) (fun j hj=>Y.some hj)
  ·refine Y.bind (QiC U.1 (by omega) _ (by simp) (by simp)) fun y125 h125=>?_
   exact Y.grd hin (Y.some ⟨Qxa hM _ _ h0,h125.1.mono (by omega)⟩)
  ·refine Y.bind (Q:=fun (j:List TCoin×List Int×Int)=>kM j.1/\Src (N+200) j.2) (Y.bif (fun _=>?_) (fun _=>?_)) (fun j hj=>Y.some hj)
   ·refine Y.bind (QiC U.1 (by omega) _ (by simp) (by simp)) fun y133 h133=>?_
    exact Y.grd hin (Y.some ⟨Qxa hM _ _ h0,h133.1.mono (by omega)⟩)
   ·refine Y.bind (Q:=kM) (Y.bif (fun _=>Y.grd hin (Y.some (Qxa hM _ _ h0))) (fun _=>?_)) (fun j hj=>Y.some ⟨hj,U.1.mono (by omega)⟩)
    refine Y.bind (Q:=kM) (Y.bif (fun _=>Y.grd hin ?_) (fun _=>Y.some hM)) (fun j hj=>Y.some hj)
    refine Y.grd (ZC _ _ (by have:=hM.1;omega)) (Y.some ⟨?_,fun x hx=>?_⟩)
    ·show (List.append _ _).length<=42
     have:=J.2.1
     simp only[aLo,aLi,aLh,aLj];omega
    ·have hx:x ∈ I.1++[List.getD I.1 (Int.toNat 0) dC]:=hx
     rcases List.mem_append.1 hx with hx | hx
     ·exact hM.2 x hx
     ·rw[aLs.1 hx];exact h0
 ·refine Y.bind (QaR h142.2 (by omega) 40 (by omega)) fun y143 h143=>?_
  refine Y.bind (Q:=kM) (Y.bif (fun _=>Y.grd (by decide) (Y.some ⟨by simp,fun x hx=>?_⟩)) (fun _=>Y.some h142.1)) (fun j hj=>Y.some ⟨hj,h143⟩)
  rw[List.eq_of_mem_replicate hx];show ([]:List Int).length<=10
  simp
end GL
end Go.Dx
set_option maxHeartbeats 2000000
namespace Go.Dx
namespace GL
theorem QDS (n:Int):-9223372036854775808<=IntKind.wrap .i64 n/\IntKind.wrap .i64 n<=9223372036854775807:=by
 simp only[IntKind.wrap,IntKind.bits,IntKind.signed];simp;omega
structure kLd (l:TL):Prop where
 a:l.1.length<=61
 b:l.2.length<=121
theorem kLd.nil:kLd (([],[]):TL):=⟨by simp,by simp⟩
theorem kLd.bl {l:TL} (h:kLd l):bL' l:=⟨by have:=h.a;unfold BIG;omega,by have:=h.b;unfold BIG;omega⟩
theorem Qxf {l:TL} (h:kLd l):Qdz l=some l:=by
 unfold Qdz;rw[QlX _ (by have:=h.a;omega),QlX _ (by have:=h.b;omega)];rfl
theorem QsF {l:TL} (h:kLd l) (t:List UInt8):Y (Qan l t) (fun r=>kLd r.2.2/\0<=r.2.1/\r.2.1<=61):=by
 have J:=h.a
 have nil:kLd (([],[]):TL)/\(0:Int)<=0/\(0:Int)<=61:=⟨kLd.nil,by omega,by omega⟩
 unfold Qan;refine Y.eqb (Y1 l h.bl.a h.bl.b) (Y.bif (fun _=>Y.some nil) (fun U=>?_))
 refine Y.bind (Q:=fun _=>True) (Y.bif (fun _=>Y.some trivial) (fun _=>Y.some trivial)) (fun j _=>Y.bif (fun _=>Y.some nil) (fun _=>?_))
 refine Y.eqb (Qxf h) (Y.eqb (QlG _ h.bl.a t) ?_);have hx:=QCh (fun a=>decide (a=t)) l.1
 refine Y.bif (fun _=>Y.some ⟨h,?_,?_⟩) (fun _=>Y.bif (fun _=>Y.some nil) (fun I=>Y.grd (ZC _ _ (by omega)) (Y.some ⟨⟨?_,h.b⟩,?_,?_⟩)))
 ·show 0<=idxF _ _+1;omega
 ·show idxF _ _+1<=61;omega
 ·have I:=aLH I
  show (List.append l.1 [t]).length<=61
  simp only[aLo,aLi,aLh,aLj];omega
 ·show (0:Int)<=((List.append l.1 [t]).length:Int);omega
 ·have I:=aLH I
  show ((List.append l.1 [t]).length:Int)<=61
  simp only[aLo,aLi,aLh,aLj];omega
theorem QzM {l:TL} (h:kLd l) (k id:Int):Y (QdD l k id) (fun r=>kLd r.2.2):=by
 have hb:=h.b
 unfold QdD QdN;refine Y.eqb (Y1 l h.bl.a h.bl.b) (Y.bif (fun _=>Y.some kLd.nil) (fun J=>?_))
 refine Y.bind (Q:=fun _=>True) (Y.eqb (Qa8 k) (Y.bif (fun _=>Y.some trivial) (fun _=>Y.eqb (by rw[Zf];rfl) (Y.some trivial)))) (fun j _=>Y.bif (fun _=>Y.some kLd.nil) (fun _=>?_))
 refine Y.eqb (Qxf h) (Y.eqb (QhF _ h.bl.b _) (Y.bif (fun _=>Y.some h) (fun _=>Y.bif (fun _=>Y.some kLd.nil) (fun I=>Y.grd (ZC _ _ (by omega)) (Y.some ⟨h.a,?_⟩)))))
 have I:=aLH I
 show (List.append l.2 [(k,id)]).length<=121
 simp only[aLo,aLi,aLh,aLj];omega
theorem QuI {N:Nat} {s:List Int×Int} (h:Src N s) (hN:N<=900000):Y (Ju s) (fun r=>Src (N+7) r.2/\okR r.1):=by
 unfold Ju;refine Y.bind (QY h (by omega) 3 (by omega)) fun y11 I=>?_
 refine Y.bind (QY I.1 (by omega) 3 (by omega)) fun y12 J=>?_
 have b1:=I.2.1
 have b2:=I.2.2.1 (by omega)
 refine Y.bind (Q:=fun (j:(List Int×Int×Int)×List Int×Int)=>Src (N+4) j.2/\(1<=j.1.1.length/\j.1.1.length<=3)/\∀k,k ∈ j.1.1->1<=k/\k<=999) ?_ (fun j hj=>?_)
 ·refine Y.loop (fun n (st:Int×(List Int×Int×Int)×List Int×Int)=>st.1=(n:Int)/\1<=st.2.1.1.length/\st.2.1.1.length+n<=3/\Src (N+4 - n) st.2.2/\n<=2/\∀k,k ∈ st.2.1.1->1<=k/\k<=3 * (st.2.1.1.length:Int)) (fun n st hi=>?_) y12.1.toNat _ ?_
  ·obtain⟨i1,i2,i3,i4,i5,i6⟩:=hi
   refine Y.bif (fun hc=>?_) (fun hc=>?_)
   ·have hn:0<n:=by have:=aLG hc;omega
    have e1:IntKind.wrap .i64 ((st.2.1.1.length:Int) - 1)=((st.2.1.1.length - 1:Nat):Int):=by rw[Qe (by omega) (by omega)];omega
    rw[e1];refine Y.grd (QP (by omega) (by omega)) ?_
    refine Y.bind (QY i4 (by omega) 2 (by omega)) fun y16 U=>?_
    have hl:st.2.1.1.length - 1<st.2.1.1.length:=by omega
    have hm:=i6 _ (aLl hl)
    have c1:=U.2.1
    have c2:=U.2.2.1 (by omega)
    rw[Qc _ _ _ hl];refine Y.grd (ZC _ _ (by omega)) (Y.some ⟨n - 1,by omega,?_,?_,?_,U.1.mono (by omega),by omega,?_⟩)
    ·show IntKind.wrap .i64 (st.1 - 1)=_
     rw[i1,Qe (by omega) (by omega)];omega
    ·show 1<=(List.append _ _).length
     simp
    ·show (List.append _ _).length+(n - 1)<=3
     simp only[aLo,aLi,aLh,aLj];omega
    ·intro k hk
     show 1<=k/\k<=3 * ((List.append _ _).length:Int)
     simp only[aLo,aLi,aLh,aLj];rcases List.mem_append.1 hk with hk | hk
     ·have:=i6 k hk;omega
     ·rw[aLs.1 hk,Qe (n:=st.2.1.1[st.2.1.1.length - 1]+1) (by omega) (by omega),Qe (by omega) (by omega)];omega
   ·have hn:n=0:=by have:=aLH hc;omega
    subst hn;exact Y.some ⟨i4,⟨i2,by omega⟩,fun k hk=>by have:=i6 k hk;omega⟩
  ·have h1:=J.2.1
   have h2:=J.2.2.1 (by omega)
   refine⟨by show y12.1=_;omega,by simp,by simp only[aLh,aLj];omega,J.1.mono (by omega),by omega,fun k hk=>?_⟩
   rw[aLs.1 hk,Qe (by omega) (by omega)]
   simp only[aLh,aLj];omega
 ·obtain⟨j1,j2,j3⟩:=hj
  refine Y.bind (QY j1 (by omega) _ (by omega)) fun y18 h18=>?_
  refine Y.bind (QY h18.1 (by omega) 9 (by omega)) fun y19 h19=>?_
  refine Y.bind (QiC h19.1 (by omega) _ (by simp) (by simp)) fun y20 h20=>?_
  have a1:=h18.2.1
  have a2:=h18.2.2.1 (by omega)
  have a3:=h19.2.1
  have a4:=h19.2.2.1 (by omega)
  refine Y.some ⟨h20.1,j2,j3,?_,?_⟩
  ·show 1<=IntKind.wrap .i64 (1+y18.1)/\IntKind.wrap .i64 (1+y18.1)<=3
   rw[Qe (by omega) (by omega)];omega
  ·show 0<=y20.1/\y20.1<=999
   have:=h20.2
   simp only[List.mem_cons,List.not_mem_nil,or_false] at this;omega
structure okW (t:TX):Prop where
 kind:0<=t.1/\t.1<=2
 mem:0<=t.2.1/\t.2.1<=999
 li:t.2.2.1.length<=4
 lo:t.2.2.2.length<=4
 ref:∀r,r ∈ t.2.2.1->(0<=r.1/\r.1<=100)/\(0<=r.2/\r.2<=100)
 out:∀o,o ∈ t.2.2.2->(1<=o.1/\o.1<=9223372036854775807)/\okR o.2
theorem QD7 {N:Nat} {s:List Int×Int} (h:Src N s) (hN:N<=800000):Y (Qgo s) (fun r=>Src (N+30) r.2/\okW r.1):=by
 unfold Qgo;refine Y.bind (QiC h (by omega) _ (by simp) (by simp)) fun y29 h29=>?_
 have hk:0<=y29.1/\y29.1<=2:=by
  have:=h29.2
  simp only[List.mem_cons,List.not_mem_nil,or_false] at this;omega
 refine Y.bind (Q:=fun (j:TX×List Int×Int)=>Src (N+2) j.2/\okW j.1/\j.1.2.2.1=[]/\j.1.2.2.2=[]) (Y.bif (fun _=>?_) (fun _=>?_)) (fun j hj=>?_)
 ·refine Y.bind (QY h29.1 (by omega) 4 (by omega)) fun y31 h31=>?_
  have b1:=h31.2.1
  have b2:=h31.2.2.1 (by omega)
  refine Y.some ⟨h31.1,⟨hk,?_,by simp,by simp,by simp,by simp⟩,rfl,rfl⟩
  show 0<=IntKind.wrap .i64 (1+y31.1)/\IntKind.wrap .i64 (1+y31.1)<=999
  rw[Qe (by omega) (by omega)];omega
 ·exact Y.some ⟨h29.1.mono (by omega),⟨hk,by show (0:Int)<=0/\(0:Int)<=999;omega,by simp,by simp,by simp,by simp⟩,rfl,rfl⟩
 ·obtain⟨j1,j2,j3,j4⟩:=hj
  refine Y.bind (QY j1 (by omega) 2 (by omega)) fun J h33=>?_
  have b1:=h33.2.1
  have b2:=h33.2.2.1 (by omega)
  refine Y.bind (Q:=fun (q:TX×List Int×Int)=>Src (N+7) q.2/\okW q.1/\q.1.2.2.2=[]) ?_ (fun q hq=>?_)
  ·refine Y.loop (fun n (st:Int×TX×List Int×Int)=>st.1=(n:Int)/\n<=2/\Src (N+7 - 2 * n) st.2.2/\okW st.2.1/\st.2.1.2.2.1.length+n<=2/\st.2.1.2.2.2=[]) (fun n st hi=>?_) (IntKind.wrap .i64 (1+J.1)).toNat _ ?_
   ·obtain⟨i1,i2,i3,i4,i5,i6⟩:=hi
    refine Y.bif (fun hc=>?_) (fun hc=>?_)
    ·have hn:0<n:=by have:=aLG hc;omega
     refine Y.bind (QY i3 (by omega) 6 (by omega)) fun I h43=>?_
     refine Y.bind (QY h43.1 (by omega) 2 (by omega)) fun y44 h44=>?_
     have c1:=h43.2.1
     have c2:=h43.2.2.1 (by omega)
     have d1:=h44.2.1
     have d2:=h44.2.2.1 (by omega)
     have e1:IntKind.wrap .i64 (1+I.1)=1+I.1:=Qe (by omega) (by omega)
     rw[e1];refine Y.eqb (Yy _ (by unfold BIG;omega) _) ?_
     refine Y.bind (Q:=fun (q:TX)=>okW q/\q.2.2.1.length+(n - 1)<=2/\q.2.2.2=[]) (Y.bif (fun _=>?_) (fun _=>Y.some ⟨i4,by omega,i6⟩)) (fun q hq=>?_)
     ·refine Y.grd (ZC _ _ (by omega)) (Y.some ⟨⟨i4.kind,i4.mem,?_,i4.lo,?_,i4.out⟩,?_,i6⟩)
      ·show (List.append _ _).length<=4
       simp only[aLo,aLi,aLh,aLj];omega
      ·intro r hr
       have hr:r ∈ st.2.1.2.2.1++[(1+I.1,y44.1)]:=hr
       rcases List.mem_append.1 hr with hr | hr
       ·exact i4.ref r hr
       ·rw[aLs.1 hr]
        show (0<=1+I.1/\1+I.1<=100)/\(0<=y44.1/\y44.1<=100)
        omega
      ·show (List.append _ _).length+(n - 1)<=2
       simp only[aLo,aLi,aLh,aLj];omega
     ·refine Y.some ⟨n - 1,by omega,?_,by omega,h44.1.mono (by omega),hq.1,hq.2.1,hq.2.2⟩
      show IntKind.wrap .i64 (st.1 - 1)=_
      rw[i1,Qe (by omega) (by omega)];omega
    ·have hn:n=0:=by have:=aLH hc;omega
     subst hn;exact Y.some ⟨i3,i4,i6⟩
   ·have e:IntKind.wrap .i64 (1+J.1)=1+J.1:=Qe (by omega) (by omega)
    rw[e];exact⟨by show (1+J.1:Int)=_;omega,by omega,h33.1.mono (by omega),j2,by show j.1.2.2.1.length+_<=2;rw[j3,aLj];omega,j4⟩
  ·obtain⟨q1,q2,q3⟩:=hq
   refine Y.bind (QY q1 (by omega) 2 (by omega)) fun U h48=>?_
   have c1:=h48.2.1
   have c2:=h48.2.2.1 (by omega)
   refine Y.bind (Q:=fun (q:TX×List Int×Int)=>Src (N+30) q.2/\okW q.1) ?_ (fun q hq=>Y.some hq)
   refine Y.loop (fun n (st:Int×TX×List Int×Int)=>st.1=(n:Int)/\n<=2/\Src (N+30 - 8 * n) st.2.2/\okW st.2.1/\st.2.1.2.2.2.length+n<=2) (fun n st hi=>?_) (IntKind.wrap .i64 (1+U.1)).toNat _ ?_
   ·obtain⟨i1,i2,i3,i4,i5⟩:=hi
    refine Y.bif (fun hc=>?_) (fun hc=>?_)
    ·have hn:0<n:=by have:=aLG hc;omega
     refine Y.bind (QY i3 (by omega) 99 (by omega)) fun y54 h54=>?_
     refine Y.bind (QuI h54.1 (by omega)) fun y55 h55=>?_
     have d1:=h54.2.1
     have d2:=h54.2.2.1 (by omega)
     refine Y.grd (ZC _ _ (by omega)) (Y.some ⟨n - 1,by omega,?_,by omega,h55.1.mono (by omega),⟨i4.kind,i4.mem,i4.li,?_,i4.ref,?_⟩,?_⟩)
     ·show IntKind.wrap .i64 (st.1 - 1)=_
      rw[i1,Qe (by omega) (by omega)];omega
     ·show (List.append _ _).length<=4
      simp only[aLo,aLi,aLh,aLj];omega
     ·intro o ho
      have ho:o ∈ st.2.1.2.2.2++[(IntKind.wrap .i64 (100+y54.1),y55.1)]:=ho
      rcases List.mem_append.1 ho with ho | ho
      ·exact i4.out o ho
      ·rw[aLs.1 ho]
       refine⟨?_,h55.2⟩;show 1<=IntKind.wrap .i64 (100+y54.1)/\IntKind.wrap .i64 (100+y54.1)<=9223372036854775807
       rw[Qe (by omega) (by omega)];omega
     ·show (List.append _ _).length+(n - 1)<=2
      simp only[aLo,aLi,aLh,aLj];omega
    ·have hn:n=0:=by have:=aLH hc;omega
     subst hn;exact Y.some ⟨i3,i4⟩
   ·have e:IntKind.wrap .i64 (1+U.1)=1+U.1:=Qe (by omega) (by omega)
    rw[e];exact⟨by show (1+U.1:Int)=_;omega,by omega,h48.1.mono (by omega),q2,by show q.1.2.2.2.length+_<=2;rw[q3,aLj];omega⟩
end GL
end Go.Dx
set_option maxHeartbeats 2000000
namespace Go.Dx
namespace GL
theorem Qi1 {n:Int} (I:0<=n) (h1:n<=9223372036854775807):Y (QA n) (fun r=>r.length<=19):=Y.of (Yd I h1) (QpM I h1)
theorem Yk {α β:Type} (l:List α) (m:List β) (hl:l.length<=1000000) (hm:m.length<=1000000):decide (List.length l+List.length m<=LIM)=true:=by
 rw[aLF];unfold LIM;omega
theorem QzX {t:TX} (h:okW t):Y (YS t) (fun r=>r.length<=5000):=by
 have hk:=h.kind
 have hm:=h.mem
 have hli:=h.li
 have hlo:=h.lo
 unfold YS;refine Y.grd (QP (by omega) (by show t.1<((3:Nat):Int);omega)) ?_
 have hkw:(List.getD ([[112,97,121],[106,111,105,110,32],[108,101,97,118,101,32]]:List (List UInt8)) (Int.toNat t.1) []).length<=6:=by
  have:t.1=0\/t.1=1\/t.1=2:=by omega
  rcases this with e | e | e<;>rw[e]<;>decide
 refine Y.bind (Q:=fun (j:List UInt8)=>j.length<=100) (Y.bif (fun _=>?_) (fun _=>Y.some (by omega))) (fun j27 h27=>?_)
 ·refine Y.bind (Qi1 (n:=t.2.1) (by omega) (by omega)) fun y26 h26=>?_
  refine Y.grd (Yk _ _ (by omega) (by omega)) (Y.some ?_)
  simp only[aLo,aLi];omega
 ·refine Y.bind (Q:=fun (j:List UInt8)=>j.length<=500) ?_ (fun j37 h37=>?_)
  ·refine Y.loop (fun n (st:List UInt8×Int)=>0<=st.2/\st.2+(n:Int)=(t.2.2.1.length:Int)/\st.1.length+100 * n<=500) (fun n st hi=>?_) t.2.2.1.length (j27,0) ⟨Int.le_refl _,by simp,by show j27.length+_<=500;omega⟩
   obtain⟨i1,i2,i3⟩:=hi;refine Y.bif (fun U=>?_) (fun U=>Y.some (by show st.1.length<=500;omega))
   have U:=aLG U
   have I:=QP i1 U
   obtain⟨k,hk2⟩:=aLA i1;have J:k<t.2.2.1.length:=by omega
   have hr:=h.ref _ (aLl J)
   have hg:List.getD t.2.2.1 (Int.toNat st.2) (0,0)=t.2.2.1[k]:=by rw[hk2,Qc _ k _ J]
   refine Y.bind (Q:=fun (q:List UInt8)=>q.length=1) (Y.bif (fun _=>Y.some rfl) (fun _=>Y.some rfl)) (fun q hq=>?_)
   refine Y.grd (Yk _ _ (by omega) (by omega)) (Y.grd I ?_)
   rw[hg];refine Y.bind (Qi1 (by omega) (by omega)) fun y35 h35=>?_
   refine Y.grd (Yk _ _ (by simp only[aLo,aLi];omega) (by omega)) (Y.grd (Yk _ _ (by simp only[aLo,aLi];omega) (by simp)) (Y.grd I ?_))
   refine Y.bind (Qi1 (by omega) (by omega)) fun y36 h36=>?_
   refine Y.grd (Yk _ _ (by simp only[aLo,aLi,aLh,aLj];omega) (by omega)) (Y.some ⟨n - 1,by omega,?_,?_,?_⟩)
   ·show 0<=IntKind.wrap .i64 (st.2+1)
    rw[Qe (by omega) (by omega)];omega
   ·show IntKind.wrap .i64 (st.2+1)+_=_
    rw[Qe (by omega) (by omega)];omega
   ·show (List.append _ _).length+100 * (n - 1)<=500
    simp only[aLo,aLi,aLh,aLj];omega
  ·refine Y.bind (Q:=fun (j:List UInt8)=>j.length<=5000) ?_ (fun j48 h48=>Y.some h48)
   refine Y.loop (fun n (st:List UInt8×Int)=>0<=st.2/\st.2+(n:Int)=(t.2.2.2.length:Int)/\st.1.length+1000 * n<=5000) (fun n st hi=>?_) t.2.2.2.length (j37,0) ⟨Int.le_refl _,by simp,by show j37.length+_<=5000;omega⟩
   obtain⟨i1,i2,i3⟩:=hi;refine Y.bif (fun U=>?_) (fun U=>Y.some (by show st.1.length<=5000;omega))
   have U:=aLG U
   have I:=QP i1 U
   obtain⟨k,hk2⟩:=aLA i1;have J:k<t.2.2.2.length:=by omega
   have hr:=h.out _ (aLl J)
   have hg:List.getD t.2.2.2 (Int.toNat st.2) (0,([],(0,0)))=t.2.2.2[k]:=by rw[hk2,Qc _ k _ J]
   refine Y.grd (Yk _ _ (by omega) (by simp)) (Y.grd I ?_)
   rw[hg];refine Y.bind (Qi1 (by omega) (by omega)) fun y45 h45=>?_
   refine Y.grd (Yk _ _ (by simp only[aLo,aLi,aLh,aLj];omega) (by omega)) (Y.grd (Yk _ _ (by simp only[aLo,aLi,aLh,aLj];omega) (by simp)) (Y.grd I ?_))
   have l2:=Qph hr.2 [32] (by simp)
   refine Y.eqb (Qns hr.2) (Y.eqb (Qxw (Qs t.2.2.2[k].2 [32]) 32 95 (by omega)) ?_)
   have l3:(swp 32 95 (Qs t.2.2.2[k].2 [32])).length=(Qs t.2.2.2[k].2 [32]).length:=by unfold swp;rw[List.length_map]
   refine Y.grd (Yk _ _ (by simp only[aLo,aLi,aLh,aLj];omega) (by omega)) (Y.some ⟨n - 1,by omega,?_,?_,?_⟩)
   ·show 0<=IntKind.wrap .i64 (st.2+1)
    rw[Qe (by omega) (by omega)];omega
   ·show IntKind.wrap .i64 (st.2+1)+_=_
    rw[Qe (by omega) (by omega)];omega
   ·show (List.append _ _).length+1000 * (n - 1)<=5000
    simp only[aLo,aLi,aLh,aLj];omega
abbrev TBk:=Int×Int×Int×List Int
structure okB (b:TBk):Prop where
 p:0<=b.1/\b.1<=1000
 h:0<=b.2.1/\b.2.1<=1000
 m:0<=b.2.2.1/\b.2.2.1<=1000
 n:b.2.2.2.length<=10
 t:∀x,x ∈ b.2.2.2->0<=x/\x<=1000
theorem QAS {b:TBk} (h:okB b):Y (QfY b) (fun r=>r.length<=5000):=by
 have hp:=h.p
 have hh:=h.h
 have hm:=h.m
 have hn:=h.n
 unfold QfY;refine Y.bind (Qi1 (by omega) (by omega)) fun y11 h11=>?_
 refine Y.grd (Yk _ _ (by simp) (by omega)) (Y.grd (Yk _ _ (by simp only[aLo,aLi,aLh,aLj];omega) (by simp)) ?_)
 refine Y.bind (Qi1 (by omega) (by omega)) fun y12 h12=>?_
 refine Y.grd (Yk _ _ (by simp only[aLo,aLi,aLh,aLj];omega) (by omega)) (Y.grd (Yk _ _ (by simp only[aLo,aLi,aLh,aLj];omega) (by simp)) ?_)
 refine Y.bind (Qi1 (by omega) (by omega)) fun y13 h13=>?_
 refine Y.grd (Yk _ _ (by simp only[aLo,aLi,aLh,aLj];omega) (by omega)) ?_
 obtain⟨hd,I⟩:∃hd,hd=List.append (List.append (List.append (List.append (List.append [98,108,111,99,107,32] y11) [32]) y12) [32]) y13:=⟨_,rfl⟩;have hl:hd.length<=100:=by rw[I];simp only[aLo,aLi,aLh,aLj];omega
 rw[<-I];refine Y.bif (fun _=>Y.grd (Yk _ _ (by omega) (by simp)) (Y.some (by simp only[aLo,aLi,aLh,aLj];omega))) (fun _=>?_)
 refine Y.bind (Q:=fun (j:List UInt8)=>j.length<=5000) ?_ (fun j20 h20=>Y.some h20)
 refine Y.loop (fun n (st:List UInt8×Int)=>0<=st.2/\st.2+(n:Int)=(b.2.2.2.length:Int)/\st.1.length+100 * n<=5000) (fun n st hi=>?_) b.2.2.2.length (hd,0) ⟨Int.le_refl _,by simp,by show hd.length+_<=5000;omega⟩
 obtain⟨i1,i2,i3⟩:=hi;refine Y.bif (fun U=>?_) (fun U=>Y.some (by show st.1.length<=5000;omega))
 have U:=aLG U
 have hin:=QP i1 U
 obtain⟨k,hk2⟩:=aLA i1;have J:k<b.2.2.2.length:=by omega
 have hr:=h.t _ (aLl J)
 have hg:List.getD b.2.2.2 (Int.toNat st.2) 0=b.2.2.2[k]:=by rw[hk2,Qc _ k _ J]
 refine Y.bind (Q:=fun (q:List UInt8)=>q.length=1) (Y.bif (fun _=>Y.some rfl) (fun _=>Y.some rfl)) (fun q hq=>?_)
 refine Y.grd (Yk _ _ (by omega) (by omega)) (Y.grd hin ?_)
 rw[hg];refine Y.bind (Qi1 (by omega) (by omega)) fun y19 h19=>?_
 refine Y.grd (Yk _ _ (by simp only[aLo,aLi];omega) (by omega)) (Y.some ⟨n - 1,by omega,?_,?_,?_⟩)
 ·show 0<=IntKind.wrap .i64 (st.2+1)
  rw[Qe (by omega) (by omega)];omega
 ·show IntKind.wrap .i64 (st.2+1)+_=_
  rw[Qe (by omega) (by omega)];omega
 ·show (List.append _ _).length+100 * (n - 1)<=5000
  simp only[aLo,aLi,aLh,aLj];omega
structure kX (x:TCoin):Prop where
 k:x.2.1.2.1.length<=10
 t:0<=x.1.1/\x.1.1<=100
 a:0<=x.1.2/\x.1.2<=100
structure kXs (l:List TCoin):Prop where
 n:l.length<=41
 x:∀x,x ∈ l->kX x
theorem kXs.kL {l:List TCoin} (h:kXs l):kL l:=⟨h.n,fun x I=>(h.x x I).k⟩
theorem kXs.nil:kXs []:=⟨by simp,fun x I=>nomatch I⟩
theorem QDr (l:List TCoin) (tx:Int) (outs:List TOut) (h:Int) (m:Bool) (hl:l.length+outs.length<=40) (hk:∀x,x ∈ l->kX x) (ho:∀x,x ∈ outs->kRu x.2) (ht:0<=tx/\tx<=100):Y (QcD l tx outs h m) (fun r=>kXs r.1/\r.2=l):=by
 unfold QcD;rw[Qdt l (by omega) (fun x I=>by have:=(hk x I).k;omega),aLc]
 refine Y.bind (Q:=kXs) ?_ (fun j hj=>Y.some ⟨hj,rfl⟩)
 refine Y.loop (fun n (st:List TCoin×Int)=>0<=st.2/\st.2+(n:Int)=(outs.length:Int)/\st.1.length+n<=40/\∀x,x ∈ st.1->kX x) (fun n st hi=>?_) outs.length (l,0) ⟨Int.le_refl _,by simp,hl,hk⟩
 obtain⟨i1,i2,i3,i4⟩:=hi;refine Y.bif (fun hc=>?_) (fun hc=>Y.some ⟨by omega,i4⟩)
 have hc:=aLG hc
 have J:=QP i1 hc
 refine Y.grd J (Y.grd J ?_);obtain⟨k,hk2⟩:=aLA i1;have U:k<outs.length:=by omega
 rw[hk2,Qc outs k _ U];have hor:=ho _ (aLl U)
 unfold kRu at hor;rw[Qnx _ (by omega),aLc]
 refine Y.bind (QzH _ _ (by omega)) fun y17 h17=>Y.some ⟨n - 1,by omega,?_⟩
 refine⟨?_,?_,?_,fun x I=>?_⟩
 ·show 0<=IntKind.wrap .i64 ((k:Int)+1)
  rw[Qe (by omega) (by omega)];omega
 ·show IntKind.wrap .i64 ((k:Int)+1)+_=_
  rw[Qe (by omega) (by omega)];omega
 ·show y17.length+_<=40
  rw[h17.1];omega
 ·rcases h17.2 x I with rfl | I
  ·exact⟨by show (outs[k].2.1).length<=10;omega,ht,by show 0<=(k:Int)/\(k:Int)<=100;omega⟩
  ·exact i4 x I
theorem Qra (l:List TCoin) (tx:Int) (outs:List TOut) (h:Int) (m:Bool) (hl:kXs l) (ho:Qwp outs):Y (YK l tx outs h m) (fun r=>kXs r.1.2/\r.2=l):=by
 have hk:∀x,x ∈ l->x.2.1.2.1.length<BIG:=fun x hx=>by
  have:=(hl.x x hx).k;unfold BIG;omega
 have J:l.length<BIG:=by have:=hl.n;unfold BIG;omega
 unfold YK;rw[Qa0 l J hk,aLc,Zf,aLc,QbE];refine Y.bif (fun _=>Y.some ⟨kXs.nil,rfl⟩) (fun _=>?_)
 refine Y.bind (Q:=fun b=>b=false->mIn tx 1 60=true) (Y.bif (fun _=>Y.some (fun h=>by cases h)) (fun h1=>Y.some (fun _=>by simpa using h1))) (fun b hb=>?_)
 refine Y.bif (fun _=>Y.some ⟨kXs.nil,rfl⟩) (fun hb2=>?_)
 have htx:=Qq.1 (hb hb2)
 refine Y.bif (fun _=>Y.some ⟨kXs.nil,rfl⟩) (fun _=>?_)
 refine Y.bind (Q:=fun (j:Unit⊕(Int×List TCoin))=>match j with | .inl _=>True | .inr r=>r.2=[]) ?_ (fun j hj=>?_)
 ·refine Y.loop (fun n (st:Int)=>0<=st/\st+(n:Int)=(outs.length:Int)) (fun n st hi=>?_) outs.length 0 ⟨Int.le_refl _,by omega⟩
  obtain⟨i1,i2⟩:=hi;refine Y.bif (fun I=>?_) (fun I=>Y.some trivial)
  have I:=aLG I
  refine Y.grd (QP i1 I) ?_;obtain⟨k,rfl⟩:=aLA i1;have U:k<outs.length:=by omega
  rw[Qc outs k _ U];have hor:=ho.2 _ (aLl U)
  unfold kRu at hor;rw[Qkv _ (by unfold BIG;omega),aLc]
  refine Y.bif (fun _=>Y.some rfl) (fun _=>Y.some ⟨n - 1,by have:=ho.1;omega,?_⟩)
  have:=ho.1
  rw[Qe (by omega) (by omega)]
  omega
 ·cases j with
  | inr r=>
   refine Y.some ⟨?_,rfl⟩;have hj:r.2=[]:=hj
   show kXs r.2
   rw[hj];exact kXs.nil
  | inl _=>
   show Y ((QbQ l tx).bind _) _
   rw[QlB l J,aLc];refine Y.bif (fun _=>Y.some ⟨kXs.nil,rfl⟩) (fun _=>?_)
   refine Y.bif (fun _=>Y.some ⟨kXs.nil,rfl⟩) (fun I=>?_)
   have I:=aLH I
   have h1:=hl.n
   have h2:=ho.1
   rw[Qe (by omega) (by omega)] at I
   refine Y.bind (QDr l tx outs h m (by omega) hl.x ho.2 (by omega)) fun y30 h30=>Y.some ⟨h30.1,h30.2⟩
theorem QE3 (l:List TCoin) (hl:l.length<=1000000) (r:Int×Int):Y (QiL l r) (fun k=>k<(l.length:Int)):=by
 unfold QiL;refine Y.bind (Q:=fun (j:Unit⊕Int)=>match j with | .inl _=>True | .inr k=>k<(l.length:Int)) ?_ (fun j J=>?_)
 ·refine Y.loop (fun n (st:Int)=>0<=st/\st+(n:Int)=(l.length:Int)) (fun n st hi=>?_) l.length 0 ⟨Int.le_refl _,by omega⟩
  obtain⟨i1,i2⟩:=hi;refine Y.bif (fun I=>?_) (fun I=>Y.some trivial)
  have I:=aLG I
  refine Y.grd (QP i1 I) (Y.bif (fun _=>Y.some I) (fun _=>Y.some ⟨n - 1,by omega,?_⟩))
  rw[Qe (by omega) (by omega)];omega
 ·cases j with
  | inl _=>exact Y.some (by show (-1:Int)<_;omega)
  | inr k=>exact Y.some J
theorem QdG {l:List TCoin} (hl:kXs l) (refs:List (Int×Int)) (hr:refs.length<=1000000):Y (Qf6 l refs) (fun r=>kXs r.1/\r.2.2=l):=by
 unfold Qf6;rw[Qdt l (by have:=hl.n;omega) (fun x I=>by have:=(hl.x x I).k;omega),aLc]
 refine Y.bind (Q:=fun (j:List TCoin⊕(List TCoin×Bool))=>match j with | .inl a=>kXs a | .inr a=>kXs a.1) ?_ (fun j hj=>?_)
 ·refine Y.loop (fun n (st:List TCoin×Int)=>0<=st.2/\st.2+(n:Int)=(refs.length:Int)/\kXs st.1) (fun n st hi=>?_) refs.length (l,0) ⟨Int.le_refl _,by simp,hl⟩
  obtain⟨i1,i2,i3⟩:=hi;have hn:=i3.n
  refine Y.bif (fun J=>?_) (fun J=>Y.some i3)
  have J:=aLG J
  refine Y.grd (QP i1 J) (Y.bind (QE3 _ (by omega) _) fun U h13=>Y.bif (fun _=>Y.some kXs.nil) (fun h0=>?_))
  have h0:=aLH h0
  obtain⟨k,rfl⟩:=aLA (show 0<=U by omega)
  have hk:k<st.1.length:=by omega
  have e1:IntKind.wrap .i64 ((k:Int)+1)=((k+1:Nat):Int):=by rw[Qe (by omega) (by omega)];omega
  rw[e1];have c1:QC 0 (k:Int) st.1=true:=YZ st.1 k (by omega)
  have c2:QC ((k+1:Nat):Int) (st.1.length:Int) st.1=true:=by unfold QC;simp;omega
  have ll:∀a b:Nat,(List.take a (List.drop b st.1)).length<=41:=fun a b=>by rw[aLn,aLz];omega
  have l1:=ll (Int.toNat ((k:Int) - 0)) (Int.toNat 0)
  have l2:=ll (Int.toNat ((st.1.length:Int) - ((k+1:Nat):Int))) (Int.toNat ((k+1:Nat):Int))
  refine Y.grd c1 (Y.grd (Yk _ _ (by simp) (by omega)) (Y.grd c2 (Y.grd (Yk _ _ (by simp only[aLo,aLi,aLj];omega) (by omega)) (Y.some ⟨n - 1,by omega,?_,?_,?_,?_⟩))))
  ·show 0<=IntKind.wrap .i64 (st.2+1)
   rw[Qe (by omega) (by omega)];omega
  ·show IntKind.wrap .i64 (st.2+1)+_=_
   rw[Qe (by omega) (by omega)];omega
  ·show (List.append _ _).length<=41
   simp only[aLo,aLi,aLj,aLn,aLz];omega
  ·intro x I
   have I:x ∈ ([]++List.take (Int.toNat ((k:Int) - 0)) (List.drop (Int.toNat 0) st.1))++List.take (Int.toNat ((st.1.length:Int) - ((k+1:Nat):Int))) (List.drop (Int.toNat ((k+1:Nat):Int)) st.1):=I
   rw[aLx] at I;rcases List.mem_append.1 I with I | I
   ·exact i3.x x (List.mem_of_mem_drop (List.mem_of_mem_take I))
   ·exact i3.x x (List.mem_of_mem_drop (List.mem_of_mem_take I))
 ·cases j with
  | inl a=>exact Y.some ⟨hj,rfl⟩
  | inr a=>exact Y.some ⟨hj,rfl⟩
theorem QDw {l:List TCoin} (hl:kXs l) {t:TX} (ht:mTxF t=0) (id h:Int):Y (Qe8 l t id h) (fun r=>kXs r.1.2/\r.2=l):=by
 have hB:BIG=4611686018427387904:=rfl
 have I:=ZS ht
 have hk:∀x,x ∈ l->x.2.1.2.1.length<BIG:=fun x U=>by
  have:=(hl.x x U).k;omega
 have J:l.length<BIG:=by have:=hl.n;omega
 unfold Qe8 Qh7;refine Y.bind (Q:=fun (r:Int×List TCoin)=>r.1 ≠ 0->r.2=[]) ?_ (fun y5 h5=>?_)
 ·refine Y.eqb (Qa0 l J hk) (Y.bif (fun _=>Y.some (fun _=>rfl)) (fun h0=>?_))
  have h0:ZG l=0:=by simpa using h0
  refine Y.eqb (Qfm t I.b) (Y.bif (fun _=>Y.some (fun _=>rfl)) (fun _=>?_))
  refine Y.eqb (Qih h0 t (by have:=I.li;omega)) (Y.bif (fun _=>Y.some (fun _=>rfl)) (fun _=>Y.some (fun h=>absurd rfl h)))
 ·refine Y.bif (fun h=>Y.some ⟨?_,rfl⟩) (fun _=>?_)
  ·have:y5.1 ≠ 0:=by simpa using h
   show kXs y5.2
   rw[h5 this];exact kXs.nil
  ·refine Y.eqb (QlB l J id) (Y.bif (fun _=>Y.some ⟨kXs.nil,rfl⟩) (fun _=>?_))
   refine Y.bind (QdG hl _ (by have:=I.li;omega)) fun y7 h7=>?_
   refine Y.bind (Qra _ _ _ _ _ h7.1 ⟨I.lo.2,fun x U=>?_⟩) fun y8 h8=>Y.some ⟨h8.1,h7.2⟩
   have:=(Y0 (I.out x U).2).len
   unfold kRu;omega
end GL
end Go.Dx
