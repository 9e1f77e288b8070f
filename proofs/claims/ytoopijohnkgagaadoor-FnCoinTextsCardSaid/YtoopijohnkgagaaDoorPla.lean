/- The plain law: no program in sight -/
import Derived.Test.YtoopijohnkgagaaDoorSca
set_option linter.unusedVariables false
set_option linter.unusedSimpArgs false
set_option maxHeartbeats 1000000
namespace Go.Dx
namespace DL
abbrev TCoin:=(Int×Int)×(Int×List Int×Int×Int)×Int×Bool
end DL
end Go.Dx
set_option maxHeartbeats 1000000
namespace Go.Dx
namespace DL
end DL
end Go.Dx
set_option maxHeartbeats 2000000
namespace Go.Dx
namespace DL
set_option synthInstance.maxSize 1000
set_option synthInstance.maxHeartbeats 400000
end DL
end Go.Dx
set_option maxHeartbeats 2000000
namespace Go.Dx
namespace DL
def mIn (v lo hi:Int):Bool:=decide (lo≤v)&&decide (v≤hi)
theorem P_spec_l1In (v lo hi:Int):F_spec_l1In v lo hi=some (mIn v lo hi):=by
 unfold F_spec_l1In mIn
 cases decide (lo≤v)<;>rfl
theorem P_impl_within (v lo hi:Int):F_impl_within v lo hi=some (mIn v lo hi):=by
 unfold F_impl_within mIn
 cases decide (lo≤v)<;>rfl
theorem P_spec_l1Key (v:Int):F_spec_l1Key v=some (mIn v 1 999):=by unfold F_spec_l1Key;rw[P_spec_l1In];rfl
theorem P_impl_isKey (v:Int):F_impl_isKey v=some (mIn v 1 999):=by unfold F_impl_isKey;rw[P_impl_within];rfl
theorem P_impl_isId (v:Int):F_impl_isId v=some (mIn v 1 60):=by unfold F_impl_isId;rw[P_impl_within];rfl
def mRef (r:Int×Int):Bool:=mIn r.1 1 60&&mIn r.2 0 3
theorem P_impl_isRef (r:Int×Int):F_impl_isRef r=some (mRef r):=by
 unfold F_impl_isRef mRef;rw[P_impl_isId,P_impl_within];cases mIn r.1 1 60<;>rfl
theorem P_spec_l3Ref (r:Int×Int):F_spec_l3Ref r=some (mRef r):=by
 unfold F_spec_l3Ref mRef;rw[P_spec_l1In,P_spec_l1In];cases mIn r.1 1 60<;>rfl
theorem P_IndexFunc_int (l:List Int) (hl:l.length<BIG) (p:Int→Bool) (f:Int→Option Bool) (hf:∀a,a ∈ l→f a=some (p a)):F_slices_IndexFunc_Lint64_int64 l f=some (idxF p l):=by
 unfold F_slices_IndexFunc_Lint64_int64
 refine loop_idx l p _ (fun i h=>?_) (by simp only[dge,cond_false])
 simp only[dlt h,inB_nat l i h,getD_toNat l i _ h,cond_true,hf _ (List.getElem_mem h),Option.bind_some,wsucc h hl]
 cases p l[i]<;>rfl
theorem P_ContainsFunc_int (l:List Int) (hl:l.length<BIG) (p:Int→Bool) (f:Int→Option Bool) (hf:∀a,a ∈ l→f a=some (p a)):F_slices_ContainsFunc_Lint64_int64 l f=some (l.any p):=by
 unfold F_slices_ContainsFunc_Lint64_int64
 rw[P_IndexFunc_int l hl p f hf,Option.bind_some,idxF_nonneg]
theorem P_impl_areKeys (l:List Int) (hl:l.length<BIG):F_impl_areKeys l=some (l.all fun k=>mIn k 1 999):=by
 unfold F_impl_areKeys
 rw[P_ContainsFunc_int l hl (fun k=>!mIn k 1 999) _ (fun a _=>by unfold F_impl_areKeys_c1;rw[P_impl_isKey];rfl),Option.bind_some]
 rw[List.all_eq_not_any_not]
def mRising (l:List Int):Bool:=(List.range (l.length - 1)).all fun i=>decide (List.getD l i 0<List.getD l (i+1) 0)
theorem loop_rising {β:Type} (l:List Int) (hl:l.length<BIG) (r:β) (f:Int→Option (Int⊕(Unit⊕β)))
  (hs:∀(i:Nat),i+1<l.length→f ((i+1:Nat):Int)=some (if List.getD l (i+1) 0≤List.getD l i 0 then .inr (.inr r) else .inl ((i+2:Nat):Int))) (he:∀n:Nat,l.length≤n→f (n:Int)=some (.inr (.inl ()))) :
  loopO f 1=some (if mRising l then .inl () else .inr r):=by
 have key:∀(k i:Nat),i+k=l.length - 1→loopO f ((i+1:Nat):Int)=some (if (List.range' i k).all (fun i=>decide (List.getD l i 0<List.getD l (i+1) 0)) then .inl () else .inr r):=by
  intro k
  induction k with
  | zero=>intro i hi;rw[loopO_out (he _ (by omega))];simp
  | succ k ih=>
   intro i hi
   have hs:=hs i (by omega)
   rw[List.range'_succ,List.all_cons]
   by_cases hc:List.getD l (i+1) 0≤List.getD l i 0
   ·rw[if_pos hc] at hs
    rw[loopO_out hs,decide_eq_false (p:=List.getD l i 0<List.getD l (i+1) 0) (by omega)];rfl
   ·rw[if_neg hc] at hs
    rw[loopO_next hs,ih (i+1) (by omega),decide_eq_true (p:=List.getD l i 0<List.getD l (i+1) 0) (by omega),Bool.true_and]
 have:=key (l.length - 1) 0 (by omega)
 rw[←List.range_eq_range'] at this
 exact this
theorem rising_step (l:List Int) (hl:l.length<BIG) (i:Nat) (h:i+1<l.length):decide (((i+1:Nat):Int)<(l.length:Int))=true∧inB ((i+1:Nat):Int) l=true∧inB (IntKind.wrap .i64 (((i+1:Nat):Int) - 1)) l=true∧
  List.getD l (Int.toNat ((i+1:Nat):Int)) 0=List.getD l (i+1) 0∧List.getD l (Int.toNat (IntKind.wrap .i64 (((i+1:Nat):Int) - 1))) 0=List.getD l i 0∧IntKind.wrap .i64 (((i+1:Nat):Int)+1)=((i+2:Nat):Int):=by
 rw[wpred (i:=i) (n:=l.length) (by omega) hl]
 exact⟨dlt h,inB_nat l _ h,inB_nat l _ (by omega),by simp,by simp,wsucc h hl⟩
theorem dge' {i n:Nat} (h:n≤i):decide ((i:Int)<(n:Int))=false:=by simp;omega
theorem P_impl_isRising (l:List Int) (hl:l.length<BIG):F_impl_isRising l=some (mRising l):=by
 unfold F_impl_isRising
 rw[loop_rising l hl false _ (fun i h=>by
  obtain⟨h1,h2,h3,h4,h5,h6⟩:=rising_step l hl i h
  simp only[h1,h2,h3,h4,h5,h6,cond_true]
  by_cases hc:List.getD l (i+1) 0≤List.getD l i 0
  ·rw[if_pos hc,decide_eq_true hc];rfl
  ·rw[if_neg hc,decide_eq_false hc];rfl) (fun n hn=>by simp only[dge' hn,cond_false]),Option.bind_some]
 cases mRising l<;>rfl
theorem keys_loop {β:Type} (l:List Int) (hl:l.length<BIG) (r:β) (f:Int→Option (Int⊕(Unit⊕β)))
  (hs:∀(i:Nat) (h:i<l.length),f (i:Int)=some (if mIn l[i] 1 999 then .inl ((i+1:Nat):Int) else .inr (.inr r))) (he:f (l.length:Int)=some (.inr (.inl ()))) :
  loopO f 0=some (if (l.all fun k=>mIn k 1 999) then .inl () else .inr r):=by
 rw[loop_first l (fun _ a=>if !mIn a 1 999 then some r else none) f (fun i h=>by rw[hs i h];cases mIn l[i] 1 999<;>rfl) he,first_any,List.all_eq_not_any_not]
 cases l.any fun x=>!mIn x 1 999<;>rfl
end DL
end Go.Dx
set_option maxHeartbeats 2000000
namespace Go.Dx
namespace DL
abbrev TRu:=List Int×Int×Int
abbrev TOut:=Int×List Int×Int×Int
def mRule (r:TRu):Int:=if mIn (r.1.length:Int) 1 3 then (if (r.1.all fun k=>mIn k 1 999)&&mIn r.2.1 1 (r.1.length:Int)&&mIn r.2.2 0 999 then (if mRising r.1 then 0 else 1) else 3) else 2
theorem P_impl_isHeight (n:Int):F_impl_isHeight n=some (mIn n 0 999):=by unfold F_impl_isHeight;rw[P_impl_within];rfl
theorem P_spec_l2Height (n:Int):F_spec_l2Height n=some (mIn n 0 999):=by unfold F_spec_l2Height;rw[P_spec_l1In];rfl
theorem P_impl_RuleFault (r:TRu) (hl:r.1.length<BIG):F_impl_RuleFault r=some (mRule r):=by
 unfold F_impl_RuleFault mRule
 simp only[P_impl_within,P_impl_areKeys _ hl,P_impl_isRising _ hl,P_impl_isHeight,Option.bind_some]
 cases mIn (r.1.length:Int) 1 3<;>cases (r.1.all fun k=>mIn k 1 999)<;>cases mIn r.2.1 1 (r.1.length:Int)<;>cases mIn r.2.2 0 999<;>cases mRising r.1<;>rfl
theorem P_spec_l2Fault (r:TRu) (hl:r.1.length<BIG):F_spec_l2Fault r=some (mRule r):=by
 unfold F_spec_l2Fault mRule
 simp only[P_spec_l1In,P_spec_l2Height,Option.bind_some]
 rw[keys_loop r.1 hl 3 _ (fun i h=>by
  simp only[dlt h,inB_nat r.1 i h,getD_toNat r.1 i _ h,cond_true,P_spec_l1Key,Option.bind_some,wsucc h hl]
  cases mIn r.1[i] 1 999<;>rfl) (by simp only[dge,cond_false]),Option.bind_some]
 cases mIn (r.1.length:Int) 1 3 with
 | false=>rfl
 | true=>
  cases (r.1.all fun k=>mIn k 1 999) with
  | false=>rfl
  | true=>
   simp only[Bool.not_true,cond_false,if_true,Sum.elim_inl]
   rw[loop_rising r.1 hl 1 _ (fun i h=>by
    obtain⟨h1,h2,h3,h4,h5,h6⟩:=rising_step r.1 hl i h
    simp only[h1,h2,h3,h4,h5,h6,cond_true]
    by_cases hc:List.getD r.1 (i+1) 0≤List.getD r.1 i 0
    ·rw[if_pos hc,decide_eq_true hc];rfl
    ·rw[if_neg hc,decide_eq_false hc];rfl) (fun n hn=>by simp only[dge' hn,cond_false]),Option.bind_some]
   cases mIn r.2.1 1 (r.1.length:Int)<;>cases mIn r.2.2 0 999<;>cases mRising r.1<;>rfl
def mOut (o:TOut):Int:=if mIn o.1 1 1000000 then mRule o.2 else 3
theorem P_spec_l4Out (o:TOut) (hl:o.2.1.length<BIG):F_spec_l4Out o=some (mOut o):=by
 unfold F_spec_l4Out mOut
 rw[P_spec_l1In,Option.bind_some,P_spec_l2Fault _ hl]
 cases mIn o.1 1 1000000<;>rfl
def mAhead (a b:Int×Int):Bool:=if a.1=b.1 then decide (a.2<b.2) else decide (a.1<b.1)
theorem P_spec_l4Ahead (a b:Int×Int):F_spec_l4Ahead a b=some (mAhead a b):=by
 unfold F_spec_l4Ahead mAhead
 by_cases h:a.1=b.1<;>simp[h]
def mCmp (a b:Int):Int:=if a<b then -1 else if b<a then 1 else 0
theorem P_cmp_Compare (a b:Int):F_cmp_Compare_int64 a b=some (mCmp a b):=by
 unfold F_cmp_Compare_int64 F_cmp_isNaN_int64 mCmp
 by_cases h1:a<b
 ·simp[h1]
 ·by_cases h2:b<a<;>simp[h1,h2]
theorem P_cmp_Or (a b:Int):F_cmp_Or_int [a,b]=some (if a=0 then b else a):=by
 unfold F_cmp_Or_int
 by_cases ha:a=0
 ·subst ha
  rw[loopO_next (s':=(1:Int)) rfl]
  by_cases hb:b=0
  ·subst hb
   rw[loopO_next (s':=(2:Int)) rfl,loopO_out (x:=Sum.inl ()) rfl];rfl
  ·rw[loopO_out (x:=Sum.inr b) (by
    show (bif !decide (b=0) then some (Sum.inr (Sum.inr b)) else _)=_
    rw[decide_eq_false hb];rfl)]
   rfl
 ·rw[loopO_out (x:=Sum.inr a) (by
   show (bif !decide (a=0) then some (Sum.inr (Sum.inr a)) else _)=_
   rw[decide_eq_false ha];rfl),if_neg ha]
  rfl
def mCmpR (a b:Int×Int):Int:=if mCmp a.1 b.1=0 then mCmp a.2 b.2 else mCmp a.1 b.1
theorem P_impl_compareRefs (a b:Int×Int):F_impl_compareRefs a b=some (mCmpR a b):=by
 unfold F_impl_compareRefs mCmpR
 rw[P_cmp_Compare,P_cmp_Compare,Option.bind_some,Option.bind_some,P_cmp_Or];rfl
theorem cmpR_ahead (a b:Int×Int):decide (0≤mCmpR a b) = !mAhead a b:=by
 unfold mCmpR mAhead mCmp
 by_cases h1:a.1<b.1
 ·have h3:¬a.1=b.1:=by omega
  simp[h1,h3]
 ·by_cases h2:b.1<a.1
  ·have h3:¬a.1=b.1:=by omega
   simp[h1,h2,h3]
  ·have h3:a.1=b.1:=by omega
   simp only[h1,h2,if_false,if_true,h3,Int.lt_irrefl]
   by_cases h4:a.2<b.2
   ·simp[h4]
   ·by_cases h5:b.2<a.2<;>simp[h4,h5]
def dC:TCoin:=((0,0),((0,([],(0,0))),(0,false)))
def mCoin (l:List TCoin) (i:Nat) (x:TCoin):Int:=if mRef x.1&&mIn x.2.2.1 0 999 then (if mOut x.2.1=0 then (if decide (0<i)&&!mAhead (List.getD l (i - 1) dC).1 x.1 then 1 else 0) else mOut x.2.1) else 3
def mCoins (l:List TCoin):Int:=if (40:Int)<(l.length:Int) then 2 else code (mCoin l) l
theorem prev_at (l:List TCoin) (hl:l.length<BIG) (i:Nat) (h:i<l.length) (h0:0<i):inB (IntKind.wrap .i64 ((i:Int) - 1)) l=true∧List.getD l (Int.toNat (IntKind.wrap .i64 ((i:Int) - 1))) dC=List.getD l (i - 1) dC:=by
 obtain⟨j,rfl⟩:∃j,i=j+1:=⟨i - 1,by omega⟩
 rw[wpred (i:=j) (n:=l.length) (by omega) hl]
 exact⟨inB_nat l j (by omega),by simp⟩
theorem P_spec_l4Fault (l:List TCoin) (hl:l.length<BIG) (hk:∀x,x ∈ l→x.2.1.2.1.length<BIG):F_spec_l4Fault l=some (mCoins l):=by
 unfold F_spec_l4Fault mCoins
 by_cases h40:(40:Int)<(l.length:Int)
 ·rw[decide_eq_true h40,if_pos h40];rfl
 ·rw[decide_eq_false h40,if_neg h40,cond_false]
  refine loop_code l (mCoin l) _ (fun i h=>?_) (by simp only[dge,cond_false])
  have hx:=hk _ (List.getElem_mem h)
  simp only[dlt h,inB_nat l i h,getD_toNat l i _ h,cond_true,wsucc h hl,P_spec_l3Ref,P_spec_l2Height,P_spec_l4Out _ hx,P_spec_l4Ahead,Option.bind_some]
  unfold mCoin
  cases h1:mRef l[i].1<;>cases h2:mIn l[i].2.2.1 0 999<;>try rfl
  simp only[Bool.not_true,cond_false,Option.bind_some,Bool.true_and,if_true]
  by_cases h3:mOut l[i].2.1=0
  ·rw[decide_eq_true h3]
   simp only[h3,Bool.not_true,cond_false,if_true]
   by_cases h4:0<i
   ·obtain⟨e1,e2⟩:=prev_at l hl i h h4
    rw[show decide ((0:Int)<(i:Int))=true by simpa using h4,decide_eq_true h4,cond_true,e1,cond_true]
    show (Option.bind (some (!mAhead (List.getD l (Int.toNat (IntKind.wrap .i64 ((i:Int) - 1))) dC).1 l[i].1)) _)=_
    rw[e2]
    cases mAhead (List.getD l (i - 1) dC).1 l[i].1<;>rfl
   ·rw[show decide ((0:Int)<(i:Int))=false by simpa using h4,decide_eq_false h4];rfl
  ·rw[decide_eq_false h3];simp[h3]
theorem P_impl_CoinsFault (l:List TCoin) (hl:l.length<BIG) (hk:∀x,x ∈ l→x.2.1.2.1.length<BIG):F_impl_CoinsFault l=some (mCoins l):=by
 unfold F_impl_CoinsFault mCoins
 by_cases h40:(40:Int)<(l.length:Int)
 ·rw[decide_eq_true h40,if_pos h40];rfl
 ·rw[decide_eq_false h40,if_neg h40,cond_false]
  refine loop_code l (mCoin l) _ (fun i h=>?_) (by simp only[dge,cond_false])
  have hx:=hk _ (List.getElem_mem h)
  simp only[dlt h,inB_nat l i h,getD_toNat l i _ h,cond_true,wsucc h hl,P_impl_isRef,P_impl_isHeight,P_impl_within,P_impl_RuleFault _ hx,P_impl_compareRefs,Option.bind_some]
  unfold mCoin mOut
  cases h1:mRef l[i].1<;>cases h2:mIn l[i].2.2.1 0 999<;>try rfl
  cases h5:mIn l[i].2.1.1 1 1000000<;>try rfl
  simp only[Bool.not_true,cond_false,Option.bind_some,Bool.true_and,if_true]
  by_cases h3:mRule l[i].2.1.2=0
  ·rw[decide_eq_true h3]
   simp only[h3,Bool.not_true,cond_false,if_true]
   by_cases h4:0<i
   ·obtain⟨e1,e2⟩:=prev_at l hl i h h4
    rw[show decide ((0:Int)<(i:Int))=true by simpa using h4,decide_eq_true h4,cond_true,e1,cond_true]
    show (Option.bind (some (decide (0≤mCmpR (List.getD l (Int.toNat (IntKind.wrap .i64 ((i:Int) - 1))) dC).1 l[i].1))) _)=_
    rw[e2,cmpR_ahead]
    cases mAhead (List.getD l (i - 1) dC).1 l[i].1<;>rfl
   ·rw[show decide ((0:Int)<(i:Int))=false by simpa using h4,decide_eq_false h4];rfl
  ·rw[decide_eq_false h3];simp[h3]
end DL
end Go.Dx
set_option maxHeartbeats 2000000
namespace Go.Dx
namespace DL
theorem lim_ok {α:Type} {n:Nat} {x:Option α} (h:n≤LIM):(bif decide (n≤LIM) then x else none)=x:=by rw[decide_eq_true h];rfl
theorem P_impl_dec {n:Int} (h0:0≤n) (h1:n≤9223372036854775807):F_impl_dec n=some (Lib.itoa n):=by
 unfold F_impl_dec F_strconv_FormatInt
 rw[fmtS_eq n (by omega) h1];rfl
theorem P_spec_l2Digits {n:Int} (h0:0≤n) (h1:n≤9223372036854775807):F_spec_l2Digits n=some (Lib.itoa n):=digS_eq h0 h1
theorem mIn_iff {v a b:Int}:mIn v a b=true↔a≤v∧v≤b:=by simp[mIn]
structure okR (r:TRu):Prop where
 len:1≤r.1.length∧r.1.length≤3
 keys:∀k,k ∈ r.1→1≤k∧k≤999
 need:1≤r.2.1∧r.2.1≤3
 after:0≤r.2.2∧r.2.2≤999
theorem okR_of {r:TRu} (h:mRule r=0):okR r:=by
 unfold mRule at h
 cases h1:mIn (r.1.length:Int) 1 3 with
 | false=>rw[h1] at h;simp at h
 | true=>
  rw[h1,if_pos rfl] at h
  cases h2:(r.1.all fun k=>mIn k 1 999) with
  | false=>rw[h2] at h;simp at h
  | true=>
   cases h3:mIn r.2.1 1 (r.1.length:Int) with
   | false=>rw[h3] at h;simp at h
   | true=>
    cases h4:mIn r.2.2 0 999 with
    | false=>rw[h4] at h;simp at h
    | true=>
     rw[mIn_iff] at h1 h3 h4
     rw[List.all_eq_true] at h2
     exact⟨by omega,fun k hk=>mIn_iff.1 (h2 k hk),by omega,h4⟩
theorem itoa_len19 {n:Int} (h0:0≤n) (h1:n≤1000000):(Lib.itoa n).length≤19:=itoa_len h0 (by omega)
def txtKeys (l:List Int) (sep:List UInt8):List UInt8:=Lib.join (l.map Lib.itoa) sep
theorem lens_le (l:List Int) (h:∀k,k ∈ l→0≤k∧k≤1000000):Lib.lens (l.map Lib.itoa)≤19 * l.length:=by
 induction l with
 | nil=>simp[Lib.lens]
 | cons a l ih=>
  have h1:=ih fun k hk=>h k (List.mem_cons_of_mem _ hk)
  have h2:=itoa_len19 (h a List.mem_cons_self).1 (h a List.mem_cons_self).2
  simp only[Lib.lens,List.map_cons,List.map_map,List.sum_cons,List.length_cons] at h1 ⊢
  omega
theorem txtKeys_len (l:List Int) (sep:List UInt8) (h:∀k,k ∈ l→0≤k∧k≤1000000):(txtKeys l sep).length≤(19+sep.length) * l.length:=by
 unfold txtKeys
 cases l with
 | nil=>simp[Lib.join_nil]
 | cons a l=>
  have:=lens_le (a::l) h
  rw[List.map_cons,Lib.join_length,List.length_map]
  rw[List.map_cons] at this
  have e:(19+sep.length) * (a::l).length=19 * (a::l).length+(sep.length * l.length+sep.length):=by
   rw[Nat.add_mul,List.length_cons,Nat.mul_succ sep.length]
  omega
theorem P_impl_joined (l:List Int) (sep:List UInt8) (hl:l.length≤100000) (hs:sep.length≤100) (h:∀k,k ∈ l→0≤k∧k≤1000000):F_impl_joined l sep=some (txtKeys l sep):=by
 unfold F_impl_joined
 rw[loop_fold (σ:=List (List UInt8)) l (fun acc a=>acc++[Lib.itoa a]) (fun t i=>(t,i)) (fun t=>t) (fun t i=>t.length=i) _ (fun i hi t ht=>by
   obtain⟨k0,k1⟩:=h _ (List.getElem_mem hi)
   refine⟨?_,by simp[ht]⟩
   simp only[dlt hi,inB_nat l i hi,getD_toNat l i _ hi,cond_true,P_impl_dec k0 (by omega),Option.bind_some,wsucc hi (by unfold BIG;omega)]
   rw[lim_ok (by simp only[List.length_cons,List.length_nil];unfold LIM;omega)];rfl) (fun t ht=>by simp only[dge,cond_false]) [] rfl,Option.bind_some,foldl_map,List.nil_append]
 have h1:=txtKeys_len l sep h
 have h2:(19+sep.length) * l.length≤119 * 100000:=Nat.mul_le_mul (by omega) hl
 unfold F_strings_Join
 rw[joinS_eq _ _ (by rw[List.length_map];omega) (by unfold txtKeys at h1;omega)];rfl
def txtRule (r:TRu) (b:List UInt8):List UInt8:=Lib.itoa r.2.1++b++[111,102]++b++txtKeys r.1 [44]++(if r.2.2=0 then [] else b++[97,102,116,101,114]++b++Lib.itoa r.2.2)
theorem txtRule_len {r:TRu} (h:okR r) (b:List UInt8) (hb:b.length≤1):(txtRule r b).length≤120:=by
 have h1:=txtKeys_len r.1 [44] fun k hk=>by have:=h.keys k hk;omega
 have h2:=itoa_len19 (n:=r.2.1) (by have:=h.need;omega) (by have:=h.need;omega)
 have h3:=itoa_len19 (n:=r.2.2) (by have:=h.after;omega) (by have:=h.after;omega)
 have h4:=h.len
 simp only[List.length_cons,List.length_nil] at h1
 unfold txtRule
 split<;>simp only[List.length_append,List.length_cons,List.length_nil]<;>omega
theorem P_impl_ruleText {r:TRu} (h:okR r) (b:List UInt8) (hb:b.length≤1):F_impl_ruleText r b=some (txtRule r b):=by
 have h1:=txtKeys_len r.1 [44] fun k hk=>by have:=h.keys k hk;omega
 have h2:=itoa_len19 (n:=r.2.1) (by have:=h.need;omega) (by have:=h.need;omega)
 have h3:=itoa_len19 (n:=r.2.2) (by have:=h.after;omega) (by have:=h.after;omega)
 have h4:=h.len
 simp only[List.length_cons,List.length_nil] at h1
 unfold F_impl_ruleText txtRule
 rw[P_impl_dec (n:=r.2.1) (by have:=h.need;omega) (by have:=h.need;omega),Option.bind_some,P_impl_joined r.1 [44] (by omega) (by simp) fun k hk=>by have:=h.keys k hk;omega]
 simp only[Option.bind_some,List.append_eq]
 rw[P_impl_dec (n:=r.2.2) (by have:=h.after;omega) (by have:=h.after;omega)]
 simp only[Option.bind_some]
 rw[lim_ok,lim_ok,lim_ok,lim_ok]
 ·by_cases ha:r.2.2=0
  ·rw[decide_eq_true ha,if_pos ha];simp
  ·rw[decide_eq_false ha,if_neg ha,Bool.not_false,cond_true,lim_ok,lim_ok,lim_ok,lim_ok]
   ·rfl
   all_goals ((try simp only[List.length_append,List.length_cons,List.length_nil]);unfold LIM;omega)
 all_goals ((try simp only[List.length_append,List.length_cons,List.length_nil]);unfold LIM;omega)
theorem loop_cat {α:Type} (l:List α) (g:α→List UInt8) (f:List UInt8×Int→Option ((List UInt8×Int)⊕List UInt8)) (B:Nat→Nat)
  (hs:∀(i:Nat) (h:i<l.length) (acc:List UInt8),acc.length≤B i→f (acc,(i:Int))=some (.inl (acc++g l[i],((i+1:Nat):Int)))∧(acc++g l[i]).length≤B (i+1))
  (he:∀acc,f (acc,(l.length:Int))=some (.inr acc)):∀(k i:Nat) (acc:List UInt8),i+k=l.length→acc.length≤B i→loopO f (acc,(i:Int))=some (acc++((l.drop i).map g).flatten)
 | 0,i,acc,hi,_=>by
  obtain rfl:i=l.length:=by omega
  rw[loopO_out (he acc)];simp
 | k+1,i,acc,hi,ha=>by
  have h1:i<l.length:=by omega
  obtain⟨hs1,hs2⟩:=hs i h1 acc ha
  rw[loopO_next hs1,loop_cat l g f B hs he k (i+1) _ (by omega) hs2,List.drop_eq_getElem_cons h1,List.map_cons,List.flatten_cons,List.append_assoc]
theorem P_spec_l2Text {r:TRu} (h:okR r):F_spec_l2Text r=some (txtRule r [32]):=by
 have h2:=itoa_len19 (n:=r.2.1) (by have:=h.need;omega) (by have:=h.need;omega)
 have h3:=itoa_len19 (n:=r.2.2) (by have:=h.after;omega) (by have:=h.after;omega)
 obtain⟨⟨k0,r1⟩,hr⟩:∃p:Int×List Int,r.1=p.1::p.2:=by
  have:=h.len
  match hq:r.1 with
  | []=>rw[hq] at this;simp at this
  | a::l=>exact⟨(a,l),rfl⟩
 have hr:r.1=k0::r1:=hr
 have hlen:=h.len
 have hk:=h.keys
 rw[hr] at hlen hk
 have hk0:=hk k0 List.mem_cons_self
 have h5:=itoa_len19 (n:=k0) (by omega) (by omega)
 unfold F_spec_l2Text txtRule
 rw[hr]
 rw[P_spec_l2Digits (n:=r.2.1) (by have:=h.need;omega) (by have:=h.need;omega),Option.bind_some]
 rw[show inB 0 (k0::r1)=true from inB_nat _ 0 (by simp),show List.getD (k0::r1) (Int.toNat 0) 0=k0 from rfl,cond_true,P_spec_l2Digits (n:=k0) (by omega) (by omega),Option.bind_some]
 simp only[List.append_eq]
 rw[lim_ok,lim_ok]
 ·have:=loop_cat (k0::r1) (fun k=>44::Lib.itoa k) (fun (s15:List UInt8×Int)=>
 bif (decide ((s15.2:Int)<(List.length (k0::r1):Int))) then
 bif decide (List.length s15.1+List.length [44]≤LIM) then
 bif (inB s15.2 (k0::r1)) then
 (F_spec_l2Digits (List.getD (k0::r1) (Int.toNat s15.2) 0)).bind fun (y16:List UInt8)=>
 bif decide (List.length (s15.1++[44])+List.length y16≤LIM) then
 some (Sum.inl (s15.1++[44]++y16,IntKind.wrap .i64 (s15.2+1)))
 else none
 else none
 else none
 else
 some (Sum.inr s15.1)) (fun i=>100+20 * i) (fun i hi acc ha=>by
    have hki:=hk _ (List.getElem_mem hi)
    have hli:=itoa_len19 (n:=(k0::r1)[i]) (by omega) (by omega)
    refine⟨?_,by simp only[List.length_append,List.length_cons];omega⟩
    have hi3:i<3:=by omega
    simp only[dlt hi,inB_nat _ i hi,getD_toNat _ i _ hi,cond_true,P_spec_l2Digits (n:=(k0::r1)[i]) (by omega) (by omega),Option.bind_some,wsucc hi (by unfold BIG;omega)]
    rw[lim_ok,lim_ok]
    ·simp
    all_goals ((try simp only[List.length_append,List.length_cons,List.length_nil]);unfold LIM;omega)) (fun acc=>by simp only[dge,cond_false]) r1.length 1 (Lib.itoa r.2.1++[32,111,102,32]++Lib.itoa k0) (by simp;omega) (by simp only[List.length_append,List.length_cons,List.length_nil];omega)
  rw[show ((1:Nat):Int)=1 from rfl] at this
  rw[this,Option.bind_some,List.drop_succ_cons,List.drop_zero]
  have e1:Lib.itoa r.2.1++[32,111,102,32]++Lib.itoa k0++(r1.map fun k=>44::Lib.itoa k).flatten=Lib.itoa r.2.1++[32]++[111,102]++[32]++txtKeys (k0::r1) [44]:=by
   unfold txtKeys
   rw[List.map_cons,Lib.join_cons,Lib.joinTail,List.map_map]
   simp[Function.comp_def]
  rw[e1]
  have h1:=txtKeys_len (k0::r1) [44] fun k hk'=>by have:=hk k hk';omega
  simp only[List.length_cons,List.length_nil] at h1 hlen
  by_cases ha:r.2.2=0
  ·rw[decide_eq_true ha,if_pos ha];simp
  ·rw[decide_eq_false ha,if_neg ha,Bool.not_false,cond_true,P_spec_l2Digits (n:=r.2.2) (by have:=h.after;omega) (by have:=h.after;omega),Option.bind_some,lim_ok,lim_ok]
   ·simp
   all_goals ((try simp only[List.length_append,List.length_cons,List.length_nil]);unfold LIM;omega)
 all_goals ((try simp only[List.length_append,List.length_cons,List.length_nil]);unfold LIM;omega)
end DL
end Go.Dx
set_option maxHeartbeats 2000000
namespace Go.Dx
namespace DL
theorem cat_bind {α:Type} (l:List α) (g:α→List UInt8) (f:List UInt8×Int→Option ((List UInt8×Int)⊕List UInt8)) (B:Nat→Nat)
  (hs:∀(i:Nat) (h:i<l.length) (acc:List UInt8),acc.length≤B i→f (acc,(i:Int))=some (.inl (acc++g l[i],((i+1:Nat):Int)))∧(acc++g l[i]).length≤B (i+1))
  (he:∀acc,f (acc,(l.length:Int))=some (.inr acc)):(loopO f ([],0)).bind (fun j=>some j)=some ((l.map g).flatten):=by
 have:=loop_cat l g f B hs he l.length 0 [] (by omega) (Nat.zero_le _)
 rw[show ((0:Nat):Int)=0 from rfl] at this
 rw[this];simp
structure okC (x:TCoin):Prop where
 tx:1≤x.1.1∧x.1.1≤60
 at_:0≤x.1.2∧x.1.2≤3
 val:1≤x.2.1.1∧x.2.1.1≤1000000
 rule:mRule x.2.1.2=0
 height:0≤x.2.2.1∧x.2.2.1≤999
theorem okC_of {l:List TCoin} (h:mCoins l=0):l.length≤40∧∀x,x ∈ l→okC x:=by
 unfold mCoins at h
 by_cases h40:(40:Int)<(l.length:Int)
 ·rw[if_pos h40] at h;cases h
 ·rw[if_neg h40] at h
  refine⟨by omega,fun x hx=>?_⟩
  obtain⟨i,hi,rfl⟩:=List.mem_iff_getElem.1 hx
  have hc:=code_zero h i l[i] (List.getElem?_eq_getElem hi)
  unfold mCoin at hc
  cases h1:mRef l[i].1 with
  | false=>rw[h1] at hc;simp at hc
  | true=>
   cases h2:mIn l[i].2.2.1 0 999 with
   | false=>rw[h2] at hc;simp at hc
   | true=>
    rw[h1,h2] at hc
    by_cases h3:mOut l[i].2.1=0
    ·unfold mRef at h1
     rw[Bool.and_eq_true,mIn_iff,mIn_iff] at h1
     unfold mOut at h3
     cases h4:mIn l[i].2.1.1 1 1000000 with
     | false=>rw[h4] at h3;simp at h3
     | true=>
      rw[h4,if_pos rfl] at h3
      exact⟨h1.1,h1.2,mIn_iff.1 h4,h3,mIn_iff.1 h2⟩
    ·simp[h3] at hc
def txtCoin (x:TCoin):List UInt8:=[99,111,105,110,32]++Lib.itoa x.1.1++[58]++Lib.itoa x.1.2++[32]++Lib.itoa x.2.1.1++[32]++txtRule x.2.1.2 [32]++[10]
theorem txtCoin_len {x:TCoin} (h:okC x):(txtCoin x).length≤260:=by
 have h1:=itoa_len19 (n:=x.1.1) (by have:=h.tx;omega) (by have:=h.tx;omega)
 have h2:=itoa_len19 (n:=x.1.2) (by have:=h.at_;omega) (by have:=h.at_;omega)
 have h3:=itoa_len19 (n:=x.2.1.1) (by have:=h.val;omega) (by have:=h.val;omega)
 have h4:=txtRule_len (okR_of h.rule) [32] (by simp)
 unfold txtCoin
 simp only[List.length_append,List.length_cons,List.length_nil];omega
def txtCoins (l:List TCoin):List UInt8:=(l.map txtCoin).flatten
theorem P_impl_coinsText (l:List TCoin) (hl:l.length≤40) (hk:∀x,x ∈ l→okC x):F_impl_coinsText l=some (txtCoins l):=by
 unfold F_impl_coinsText
 simp only[List.append_eq]
 refine cat_bind l txtCoin _ (fun i=>260 * i) (fun i hi acc ha=>?_) (fun acc=>by simp only[dge,cond_false])
 ·skip
  have hx:=hk _ (List.getElem_mem hi)
  have h0:=txtCoin_len hx
  have h1:=itoa_len19 (n:=l[i].1.1) (by have:=hx.tx;omega) (by have:=hx.tx;omega)
  have h2:=itoa_len19 (n:=l[i].1.2) (by have:=hx.at_;omega) (by have:=hx.at_;omega)
  have h3:=itoa_len19 (n:=l[i].2.1.1) (by have:=hx.val;omega) (by have:=hx.val;omega)
  have h4:=txtRule_len (okR_of hx.rule) [32] (by simp)
  refine⟨?_,by simp only[List.length_append];omega⟩
  simp only[dlt hi,inB_nat l i hi,getD_toNat l i _ hi,cond_true,wsucc hi (by unfold BIG;omega),P_impl_dec (n:=l[i].1.1) (by have:=hx.tx;omega) (by have:=hx.tx;omega),
   P_impl_dec (n:=l[i].1.2) (by have:=hx.at_;omega) (by have:=hx.at_;omega),P_impl_dec (n:=l[i].2.1.1) (by have:=hx.val;omega) (by have:=hx.val;omega),P_impl_ruleText (okR_of hx.rule) [32] (by simp),Option.bind_some]
  rw[lim_ok,lim_ok,lim_ok,lim_ok,lim_ok,lim_ok,lim_ok,lim_ok,lim_ok]
  ·rfl
  all_goals ((try simp only[List.length_append,List.length_cons,List.length_nil]);unfold LIM;omega)
theorem P_spec_l16Coins (l:List TCoin) (hl:l.length≤40) (hk:∀x,x ∈ l→okC x):F_spec_l16Coins l=some (txtCoins l):=by
 unfold F_spec_l16Coins
 simp only[List.append_eq]
 refine cat_bind l txtCoin _ (fun i=>260 * i) (fun i hi acc ha=>?_) (fun acc=>by simp only[dge,cond_false])
 ·skip
  have hx:=hk _ (List.getElem_mem hi)
  have h0:=txtCoin_len hx
  have h1:=itoa_len19 (n:=l[i].1.1) (by have:=hx.tx;omega) (by have:=hx.tx;omega)
  have h2:=itoa_len19 (n:=l[i].1.2) (by have:=hx.at_;omega) (by have:=hx.at_;omega)
  have h3:=itoa_len19 (n:=l[i].2.1.1) (by have:=hx.val;omega) (by have:=hx.val;omega)
  have h4:=txtRule_len (okR_of hx.rule) [32] (by simp)
  refine⟨?_,by simp only[List.length_append];omega⟩
  simp only[dlt hi,inB_nat l i hi,getD_toNat l i _ hi,cond_true,wsucc hi (by unfold BIG;omega),P_spec_l2Digits (n:=l[i].1.1) (by have:=hx.tx;omega) (by have:=hx.tx;omega),
   P_spec_l2Digits (n:=l[i].1.2) (by have:=hx.at_;omega) (by have:=hx.at_;omega),P_spec_l2Digits (n:=l[i].2.1.1) (by have:=hx.val;omega) (by have:=hx.val;omega),P_spec_l2Text (okR_of hx.rule),Option.bind_some]
  rw[lim_ok,lim_ok,lim_ok,lim_ok,lim_ok,lim_ok,lim_ok,lim_ok,lim_ok]
  ·simp only[txtCoin,List.append_assoc]
  all_goals ((try simp only[List.length_append,List.length_cons,List.length_nil]);unfold LIM;omega)
def mCoinsText (l:List TCoin):Int×List UInt8:=if mCoins l=0 then (0,txtCoins l) else (mCoins l,[])
theorem P_impl_CoinsText (l:List TCoin) (hl:l.length<BIG) (hk:∀x,x ∈ l→x.2.1.2.1.length<BIG):F_impl_CoinsText l=some (mCoinsText l):=by
 unfold F_impl_CoinsText mCoinsText
 rw[P_impl_CoinsFault l hl hk,Option.bind_some,bif_code]
 by_cases h:mCoins l=0
 ·rw[if_pos h,if_pos h,P_impl_coinsText l (okC_of h).1 (okC_of h).2];rfl
 ·rw[if_neg h,if_neg h]
theorem P_spec_CoinsText (l:List TCoin) (hl:l.length<BIG) (hk:∀x,x ∈ l→x.2.1.2.1.length<BIG):F_spec_CoinsText l=some (mCoinsText l):=by
 unfold F_spec_CoinsText mCoinsText
 rw[P_spec_l4Fault l hl hk,Option.bind_some,bif_code]
 by_cases h:mCoins l=0
 ·rw[if_pos h,if_pos h,P_spec_l16Coins l (okC_of h).1 (okC_of h).2];rfl
 ·rw[if_neg h,if_neg h]
end DL
end Go.Dx
set_option maxHeartbeats 2000000
namespace Go.Dx
namespace DL
def cuts (c:UInt8):List UInt8→List (List UInt8)
 | []=>[[]]
 | b::l=>if b=c then []::cuts c l else match cuts c l with | []=>[[b]] | w::ws=>(b::w)::ws
def glue (p:List UInt8):List (List UInt8)→List (List UInt8)
 | []=>[p]
 | w::ws=>(p++w)::ws
theorem cuts_ne (c:UInt8):∀l,cuts c l ≠ []
 | []=>by simp[cuts]
 | b::l=>by
  unfold cuts
  split
  ·simp
  ·split<;>simp
theorem cuts_cons (c b:UInt8) (l:List UInt8):cuts c (b::l)=if b=c then []::cuts c l else glue [b] (cuts c l):=by
 rw[cuts]
 split
 ·rfl
 ·split
  ·rename_i h;exact absurd h (cuts_ne c l)
  ·rename_i h;rw[h];rfl
theorem cuts_len (c:UInt8):∀l,(cuts c l).length≤l.length+1
 | []=>by simp[cuts]
 | b::l=>by
  have:=cuts_len c l
  rw[cuts_cons]
  split
  ·simp;omega
  ·cases h:cuts c l with
   | nil=>simp[glue]
   | cons w ws=>rw[h] at this;simp[glue] at this ⊢;omega
theorem split_cuts (c:UInt8):∀l,Lib.split l [c]=cuts c l
 | []=>by
  unfold Lib.split
  rw[Lib.count_one];rfl
 | b::l=>by
  have ih:=split_cuts c l
  unfold Lib.split at ih ⊢
  rw[cuts_cons]
  by_cases hb:b=c
  ·subst hb
   rw[if_pos rfl,Lib.count_cons_eq,Nat.add_comm,Lib.splitK]
   have hix:Lib.index (b::l) [b]=0:=by rw[Lib.index];simp[List.isPrefixOf]
   rw[hix]
   simp[ih]
  ·rw[if_neg hb,Lib.count_cons_ne b c l hb]
   have hp:([c]:List UInt8).isPrefixOf (b::l)=false:=by simp[List.isPrefixOf,Ne.symm hb]
   have hix:Lib.index (b::l) [c]=if Lib.index l [c] == -1 then -1 else Lib.index l [c]+1:=by rw[Lib.index,hp];simp
   cases hk:Lib.count l [c] with
   | zero=>rw[hk] at ih;rw[←ih];rfl
   | succ k=>
    rw[hk] at ih
    have hm:¬Lib.index l [c] = -1:=fun h=>by rw[Lib.count_miss h] at hk;cases hk
    have hge:=Lib.index_ge l [c]
    obtain⟨j,hj⟩:∃j:Nat,Lib.index l [c]=j:=⟨(Lib.index l [c]).toNat,by omega⟩
    have hix':Lib.index (b::l) [c]=((j+1:Nat):Int):=by rw[hix,if_neg (fun e=>hm (beq_iff_eq.1 e)),hj];omega
    rw[Lib.splitK,if_neg (fun e=>hm (beq_iff_eq.1 e)),hj] at ih
    rw[Lib.splitK,if_neg (fun e=>by have:=beq_iff_eq.1 e;omega),hix',←ih]
    simp[glue]
end DL
end Go.Dx
set_option maxHeartbeats 2000000
namespace Go.Dx
theorem del_loop {α:Type} (l:List α) (d:α) (p:α→Bool) (f:List α×Int×Int→Option ((List α×Int×Int)⊕(List α×Int)))
  (hs:∀(X:List α) (j i:Nat) (h:i<X.length),X.length=l.length→j≤i→f (X,(j:Int),(i:Int))=some (.inl (if p X[i] then (X,(j:Int),((i+1:Nat):Int)) else (X.set j X[i],((j+1:Nat):Int),((i+1:Nat):Int)))))
  (he:∀(X:List α) (j:Nat),X.length=l.length→f (X,(j:Int),(l.length:Int))=some (.inr (X,(j:Int)))) :
  ∀(k j i:Nat) (X:List α),i+k=l.length→j≤i→X.length=l.length→X.take j=(l.take i).filter (fun a=>!p a)→X.drop i=l.drop i→
   ∃(X':List α) (j':Nat),loopO f (X,(j:Int),(i:Int))=some (X',(j':Int))∧X'.length=l.length∧j'≤l.length∧X'.take j'=l.filter (fun a=>!p a):=by
 intro k
 induction k with
 | zero=>
  intro j i X hi hj hX ht hd
  obtain rfl:i=l.length:=by omega
  exact⟨X,j,loopO_out (he X j hX),hX,hj,by rw[ht,List.take_length]⟩
 | succ k ih=>
  intro j i X hi hj hX ht hd
  have h:i<X.length:=by omega
  have h':i<l.length:=by omega
  have hx:X[i]=l[i]:=by
   rw[List.drop_eq_getElem_cons h,List.drop_eq_getElem_cons h'] at hd
   exact (List.cons.inj hd).1
  have hd':X.drop (i+1)=l.drop (i+1):=by
   rw[←List.drop_drop,←List.drop_drop,hd]
  have ht':(l.take (i+1)).filter (fun a=>!p a)=(l.take i).filter (fun a=>!p a)++[l[i]].filter (fun a=>!p a):=by
   rw[List.take_succ_eq_append_getElem h',List.filter_append]
  rw[loopO_next (hs X j i h hX hj)]
  rw[hx]
  cases hp:p l[i] with
  | true=>
   rw[if_pos rfl]
   refine ih j (i+1) X (by omega) (by omega) hX ?_ hd'
   rw[ht',ht];simp[hp]
  | false=>
   rw[if_neg (by simp)]
   refine ih (j+1) (i+1) (X.set j l[i]) (by omega) (by omega) (by simpa using hX) ?_ ?_
   ·rw[ht',←ht]
    have hj2:j<(X.set j l[i]).length:=by rw[List.length_set];omega
    rw[List.take_succ_eq_append_getElem hj2,List.take_set_of_le (Nat.le_refl _)]
    simp[hp]
   ·rw[List.drop_set_of_lt (by omega),hd']
theorem del_bind {α β:Type} (l:List α) (p:α→Bool) (k:Nat) (hk:k<l.length) (hpre:(l.take (k+1)).filter (fun a=>!p a)=l.take k) (f:List α×Int×Int→Option ((List α×Int×Int)⊕(List α×Int))) (G:List α×Int→Option β) (r:β)
  (hs:∀(X:List α) (j i:Nat) (h:i<X.length),X.length=l.length→j≤i→f (X,(j:Int),(i:Int))=some (.inl (if p X[i] then (X,(j:Int),((i+1:Nat):Int)) else (X.set j X[i],((j+1:Nat):Int),((i+1:Nat):Int)))))
  (he:∀(X:List α) (j:Nat),X.length=l.length→f (X,(j:Int),(l.length:Int))=some (.inr (X,(j:Int))))
  (hG:∀(X':List α) (j':Nat),X'.length=l.length→j'≤l.length→X'.take j'=l.filter (fun a=>!p a)→G (X',(j':Int))=some r) :
  (loopO f (l,(k:Int),((k+1:Nat):Int))).bind G=some r:=by
 obtain⟨X',j',e1,e2,e3,e4⟩:=del_loop l l[k] p f hs he (l.length - (k+1)) k (k+1) l (by omega) (by omega) rfl hpre.symm rfl
 rw[e1,Option.bind_some]
 exact hG X' j' e2 e3 e4
namespace DL
theorem P_IndexFunc_str (l:List (List UInt8)) (hl:l.length<BIG) (p:List UInt8→Bool) (f:List UInt8→Option Bool) (hf:∀a,a ∈ l→f a=some (p a)):F_slices_IndexFunc_Lstring_string l f=some (idxF p l):=by
 unfold F_slices_IndexFunc_Lstring_string
 refine loop_idx l p _ (fun i h=>?_) (by simp only[dge,cond_false])
 simp only[dlt h,inB_nat l i h,getD_toNat l i _ h,cond_true,hf _ (List.getElem_mem h),Option.bind_some,wsucc h hl]
 cases p l[i]<;>rfl
theorem P_DeleteFunc_str (l:List (List UInt8)) (hl:l.length<BIG) (p:List UInt8→Bool) (f:List UInt8→Option Bool) (hf:∀a,f a=some (p a)):F_slices_DeleteFunc_Lstring_string l f=some (l.filter (fun a=>!p a)):=by
 unfold F_slices_DeleteFunc_Lstring_string
 rw[P_IndexFunc_str l hl p f (fun a _=>hf a),Option.bind_some]
 cases hany:l.any p with
 | false=>
  have h1:idxF p l = -1:=(idxF_ge p l).1 ((idxF_neg p l).2 hany)
  rw[h1]
  simp only[decide_true,cond_true]
  congr 1
  refine (List.filter_eq_self.2 fun a ha=>?_).symm
  rw[List.any_eq_false] at hany
  simpa using hany a ha
 | true=>
  obtain⟨k,hk,h1,h2,h3⟩:=idxF_found hany
  rw[h1,decide_eq_false (by omega:¬(k:Int) = -1),cond_false,wsucc hk hl]
  have hpre:(l.take (k+1)).filter (fun a=>!p a)=l.take k:=by
   rw[List.take_succ_eq_append_getElem hk,List.filter_append]
   have e1:(l.take k).filter (fun a=>!p a)=l.take k:=List.filter_eq_self.2 fun a ha=>by
    obtain⟨j,hj,rfl⟩:=List.mem_iff_getElem.1 ha
    rw[List.length_take] at hj
    simp only[List.getElem_take]
    rw[h3 j (by omega)];rfl
   rw[e1]
   simp[h2]
  refine del_bind l p k hk hpre _ _ _ (fun X j i h hX hj=>?_) (fun X j hX=>by rw[←hX];simp only[dge,cond_false]) (fun X' j' e2 e3 e4=>?_)
  ·have e1:decide ((i:Int)<(X.length:Int))=true:=dlt h
   simp only[e1,inB_nat X i h,getD_toNat X i _ h,cond_true,hf,Option.bind_some,wsucc h (by omega:X.length<BIG),inB_nat X j (by omega),wsucc (by omega:j<X.length) (by omega:X.length<BIG)]
   cases p X[i] with
   | true=>rfl
   | false=>simp
  have c1:cutOk (j':Int) (X'.length:Int) X'=true:=by unfold cutOk;simp;omega
  have hcl:clr (s:=.str) (j':Int) (X'.length:Int) X'=X'.take j'++(List.replicate (X'.length - j') []++[]):=by
   unfold clr
   simp[Sh.dflt]
  have c2:cutOk 0 (j':Int) (clr (s:=.str) (j':Int) (X'.length:Int) X')=true:=by
   unfold cutOk
   rw[hcl]
   simp;omega
  rw[c1,c2,cond_true,cond_true,hcl]
  simp only[Int.sub_zero,Int.toNat_natCast,Int.toNat_zero,List.drop_zero]
  rw[List.take_append_of_le_length (by rw[List.length_take];omega),List.take_take,Nat.min_self,e4]
end DL
end Go.Dx
set_option maxHeartbeats 2000000
namespace Go.Dx
namespace DL
theorem LIM_BIG' {n:Nat} (h:n≤LIM):n<BIG:=by unfold LIM at h;unfold BIG;omega
def mWords (l:List UInt8):List (List UInt8):=(cuts 32 l).filter (fun w=>!decide (w=[]))
theorem P_impl_WordsOf (l:List UInt8) (hl:l.length≤1048576):F_impl_WordsOf l=some (0,mWords l):=by
 unfold F_impl_WordsOf F_impl_wordsOf F_strings_Split
 have hc:=cuts_len 32 l
 rw[splitS_eq (by simp) (by omega),Option.bind_some,split_cuts,P_DeleteFunc_str (cuts 32 l) (LIM_BIG' (by unfold LIM;omega)) (fun w=>decide (w=[])) (fun (a6:List UInt8)=>(F_impl_wordsOf_c1 a6).bind fun r7=>some r7) (fun a=>rfl)]
 rfl
end DL
end Go.Dx
set_option maxHeartbeats 2000000
namespace Go.Dx
namespace DL
def Y {α:Type} (o:Option α) (Q:α→Prop):Prop:=∃a,o=some a∧Q a
theorem Y.some {α:Type} {a:α} {Q:α→Prop} (h:Q a):Y (some a) Q:=⟨a,rfl,h⟩
theorem Y.bind {α β:Type} {o:Option α} {f:α→Option β} {Q:α→Prop} {R:β→Prop} (h:Y o Q) (k:∀a,Q a→Y (f a) R):Y (o.bind f) R:=by
 obtain⟨a,rfl,ha⟩:=h
 exact k a ha
theorem Y.mono {α:Type} {o:Option α} {Q R:α→Prop} (h:Y o Q) (k:∀a,Q a→R a):Y o R:=let ⟨a,h1,h2⟩:=h;⟨a,h1,k a h2⟩
theorem Y.bif {α:Type} {c:Bool} {a b:Option α} {Q:α→Prop} (h1:c=true→Y a Q) (h2:c=false→Y b Q):Y (bif c then a else b) Q:=by
 cases c
 ·exact h2 rfl
 ·exact h1 rfl
theorem Y.grd {α:Type} {c:Bool} {a b:Option α} {Q:α→Prop} (h:c=true) (h1:Y a Q):Y (bif c then a else b) Q:=by rw[h];exact h1
theorem Y.loop {S X:Type} {f:S→Option (S⊕X)} {Q:X→Prop} (I:Nat→S→Prop) (hs:∀n s,I n s→Y (f s) (fun r=>match r with | .inl s'=>∃m,m<n∧I m s' | .inr x=>Q x)):∀n s,I n s→Y (loopO f s) Q:=by
 intro n
 induction n using Nat.strongRecOn with
 | ind n ih=>
  intro s hi
  obtain⟨r,h1,h2⟩:=hs n s hi
  cases r with
  | inl s'=>
   obtain⟨m,hm,hi'⟩:=h2
   obtain⟨x,h3,h4⟩:=ih m hm s' hi'
   exact⟨x,loopO_go h1 h3,h4⟩
  | inr x=>exact⟨x,loopO_out h1,h2⟩
theorem lim_one {α:Type} (l:List α) (a:α) (h:l.length<1000000):decide (List.length l+List.length [a]≤LIM)=true:=by
 simp only[List.length_cons,List.length_nil,decide_eq_true_eq]
 unfold LIM;omega
theorem lim_nil {α:Type} (l:List α) (h:l.length<1000000):decide (List.length ([]:List α)+List.length l≤LIM)=true:=by
 simp only[List.length_nil,decide_eq_true_eq]
 unfold LIM;omega
theorem inB_of {α:Type} {l:List α} {i:Int} (h0:0≤i) (h:i<(l.length:Int)):inB i l=true:=by
 simp[inB,h0,h]
structure CodeOk (l:List Int):Prop where
 len:l.length≤1048576
 byte:∀a,a ∈ l→0≤a∧a≤255
structure Src (N:Nat) (s:List Int×Int):Prop where
 code:CodeOk s.1
 lo:0≤s.2
 hi:s.2≤N
theorem Src.mono {N M:Nat} {s:List Int×Int} (h:Src N s) (hm:N≤M):Src M s:=⟨h.code,h.lo,by have:=h.hi;omega⟩
theorem byte_at {l:List Int} (h:CodeOk l) (i:Int):0≤List.getD l (Int.toNat i) 0∧List.getD l (Int.toNat i) 0≤255:=by
 rw[List.getD_eq_getElem?_getD]
 cases hg:l[i.toNat]? with
 | none=>simp
 | some a=>exact h.byte a (List.mem_of_getElem? hg)
def NextQ (N:Nat) (k:Int) (r:Int×List Int×Int):Prop:=Src (N+1) r.2∧0≤r.1∧(1≤k→r.1<k)∧(k<1→r.1=0)
theorem next_ok {N:Nat} {s:List Int×Int} (h:Src N s) (hN:N≤1000000) (k:Int) (hk:k≤2000000000):Y (F_spec_l1Next s k) (NextQ N k):=by
 have hlo:=h.lo
 have hhi:=h.hi
 unfold F_spec_l1Next
 have w1:IntKind.wrap .i64 (s.2+1)=s.2+1:=wrap_id (by omega) (by omega)
 have w2:IntKind.wrap .i64 (s.2+1 - 1)=s.2:=by rw[show s.2+1 - 1=s.2 by omega];exact wrap_id (by omega) (by omega)
 simp only[w1]
 rw[show s.2+1 - 1=s.2 by omega] at w2 ⊢
 simp only[w2]
 have hS:Src (N+1) (s.1,s.2+1):=⟨h.code,by show 0≤s.2+1;omega,by show s.2+1≤((N+1:Nat):Int);omega⟩
 have fin:∀v:Int,0≤v→1≤k→NextQ N k (Int.tmod v k,(s.1,s.2+1)):=fun v hv h1=>by
  refine⟨hS,?_,fun _=>?_,fun h2=>by omega⟩
  ·show 0≤v.tmod k
   rw[Int.tmod_eq_emod_of_nonneg hv];exact Int.emod_nonneg _ (by omega)
  ·show v.tmod k<k
   rw[Int.tmod_eq_emod_of_nonneg hv];exact Int.emod_lt_of_pos _ (by omega)
 refine Y.bif (fun h1=>?_) (fun h1=>?_)
 ·exact Y.some ⟨hS,Int.le_refl _,fun h2=>by simp only[decide_eq_true_eq] at h1;omega,fun _=>rfl⟩
 ·have h1:1≤k:=by simp only[decide_eq_false_iff_not] at h1;omega
  have hk0:(!decide (k=0))=true:=by simp;omega
  refine Y.bif (fun h2=>?_) (fun h2=>?_)
  ·refine Y.grd hk0 (Y.some (fin _ ?_ h1))
   rw[wrap_id (n:=s.2 * 7) (by omega) (by omega)];omega
  ·have hn:0<(s.1.length:Int):=by have:=of_decide_eq_false h2;omega
   have hlen:=h.code.len
   have hz:(!decide ((List.length s.1:Int)=0))=true:=by rw[h2];rfl
   have md:∀v:Int,0≤v→inB (Int.tmod v (List.length s.1:Int)) s.1=true:=fun v hv=>by
    rw[Int.tmod_eq_emod_of_nonneg hv]
    exact inB_of (Int.emod_nonneg _ (by omega)) (Int.emod_lt_of_pos _ hn)
   refine Y.grd hz (Y.grd (md _ hlo) (Y.grd hz ?_))
   obtain⟨b1,b2⟩:=byte_at h.code (Int.tmod s.2 (List.length s.1:Int))
   have d1:0≤Int.tdiv s.2 (List.length s.1:Int):=Int.tdiv_nonneg hlo (by omega)
   have d2:Int.tdiv s.2 (List.length s.1:Int)≤s.2:=by
    rw[Int.tdiv_eq_ediv_of_nonneg hlo];exact Int.ediv_le_self _ hlo
   generalize Int.tdiv s.2 (List.length s.1:Int)=d at d1 d2
   generalize List.getD s.1 (Int.toNat (Int.tmod s.2 (List.length s.1:Int))) 0=b at b1 b2
   have wb:IntKind.wrap .i64 b=b:=wrap_id (by omega) (by omega)
   have wd:IntKind.wrap .i64 d=d:=wrap_id (by omega) (by omega)
   have wd2:IntKind.wrap .i64 (d * 37)=d * 37:=wrap_id (by omega) (by omega)
   have wv:IntKind.wrap .i64 (b+d * 37)=b+d * 37:=wrap_id (by omega) (by omega)
   simp only[wb,wd,wd2,wv]
   refine Y.bind (Q:=fun v=>0≤v) ?_ (fun v hv=>Y.grd hk0 (Y.some (fin v hv h1)))
   refine Y.bif (fun h3=>?_) (fun h3=>Y.some (by omega))
   simp only[w1]
   refine Y.grd hz (Y.grd (md _ (by omega)) ?_)
   obtain⟨c1,c2⟩:=byte_at h.code (Int.tmod (s.2+1) (List.length s.1:Int))
   generalize List.getD s.1 (Int.toNat (Int.tmod (s.2+1) (List.length s.1:Int))) 0=c at c1 c2
   refine Y.some ?_
   show 0≤_
   rw[wrap_id (n:=c) (by omega) (by omega),wrap_id (n:=c * 13) (by omega) (by omega),wrap_id (n:=(b+d * 37) * 251) (by omega) (by omega),wrap_id (n:=(b+d * 37) * 251+c * 13) (by omega) (by omega),wrap_id (n:=(b+d * 37) * 251+c * 13+s.2) (by omega) (by omega)]
   omega
theorem chance_ok {N:Nat} {s:List Int×Int} (h:Src N s) (hN:N≤1000000) (k:Int) (hk:k≤2000000000):Y (F_spec_l1Chance s k) (fun r=>Src (N+1) r.2):=by
 unfold F_spec_l1Chance
 exact Y.bind (next_ok h hN k hk) fun r hr=>Y.some hr.1
theorem pick_ok {N:Nat} {s:List Int×Int} (h:Src N s) (hN:N≤1000000) (l:List Int) (h0:0<l.length) (hl:l.length≤1000):Y (F_spec_l1Pick s l) (fun r=>Src (N+1) r.2∧r.1 ∈ l):=by
 unfold F_spec_l1Pick
 refine Y.bind (next_ok h hN _ (by omega)) fun r hr=>?_
 obtain⟨h1,h2,h3,_⟩:=hr
 have h3:=h3 (by omega)
 refine Y.grd (inB_of h2 h3) (Y.some ⟨h1,?_⟩)
 have hi:r.1.toNat<l.length:=by omega
 show List.getD l (Int.toNat r.1) 0 ∈ l
 rw[List.getD_eq_getElem?_getD,List.getElem?_eq_getElem hi]
 exact List.getElem_mem hi
end DL
end Go.Dx
set_option maxHeartbeats 2000000
namespace Go.Dx
namespace DL
def kRu (r:TRu):Prop:=r.1.length≤3
theorem draw_l2 {N:Nat} {s:List Int×Int} (h:Src N s) (hN:N≤900000):Y (F_spec_l2Draw s) (fun r=>Src (N+7) r.2∧kRu r.1):=by
 unfold F_spec_l2Draw
 refine Y.bind (next_ok h (by omega) 3 (by omega)) fun y11 h11=>?_
 refine Y.bind (next_ok h11.1 (by omega) 3 (by omega)) fun y12 h12=>?_
 refine Y.bind (Q:=fun (j:(List Int×Int×Int)×List Int×Int)=>Src (N+4) j.2∧j.1.1.length≤3) ?_ (fun j hj=>?_)
 ·refine Y.loop (fun n (st:Int×(List Int×Int×Int)×List Int×Int)=>st.1=(n:Int)∧1≤st.2.1.1.length∧st.2.1.1.length+n≤3∧Src (N+4 - n) st.2.2∧n≤2) (fun n st hi=>?_) y12.1.toNat _ ?_
  ·obtain⟨i1,i2,i3,i4,i5⟩:=hi
   refine Y.bif (fun hc=>?_) (fun hc=>?_)
   ·have hn:0<n:=by have:=of_decide_eq_true hc;omega
    refine Y.grd (inB_of (by rw[wrap_id (by omega) (by omega)];omega) (by rw[wrap_id (by omega) (by omega)];omega)) ?_
    refine Y.bind (next_ok i4 (by omega) 2 (by omega)) fun y16 h16=>?_
    refine Y.grd (lim_one _ _ (by omega)) (Y.some ⟨n - 1,by omega,?_,?_,?_,h16.1.mono (by omega),by omega⟩)
    ·show IntKind.wrap .i64 (st.1 - 1)=_
     rw[i1,wrap_id (by omega) (by omega)];omega
    ·show 1≤(List.append _ _).length
     simp
    ·show (List.append _ _).length+(n - 1)≤3
     simp only[List.append_eq,List.length_append,List.length_cons,List.length_nil];omega
   ·have hn:n=0:=by have:=of_decide_eq_false hc;omega
    subst hn
    exact Y.some ⟨i4,by omega⟩
  ·have h1:=h12.2.1
   have h2:=h12.2.2.1 (by omega)
   exact⟨by show y12.1=_;omega,by simp,by simp only[List.length_cons,List.length_nil];omega,h12.1.mono (by omega),by omega⟩
 ·refine Y.bind (next_ok hj.1 (by omega) _ (by omega)) fun y18 h18=>?_
  refine Y.bind (next_ok h18.1 (by omega) 9 (by omega)) fun y19 h19=>?_
  refine Y.bind (pick_ok h19.1 (by omega) _ (by simp) (by simp)) fun y20 h20=>?_
  exact Y.some ⟨h20.1,hj.2⟩
def kOuts (l:List TOut):Prop:=l.length≤3∧∀x,x ∈ l→kRu x.2
theorem draw_outs {N:Nat} {s:List Int×Int} (h:Src N s) (hN:N≤800000):Y (F_spec_l4DrawOuts s) (fun r=>Src (N+25) r.2∧kOuts r.1):=by
 unfold F_spec_l4DrawOuts
 refine Y.bind (next_ok h (by omega) 4 (by omega)) fun y10 h10=>?_
 refine Y.bind (Q:=fun (j:List TOut×List Int×Int)=>Src (N+25) j.2∧kOuts j.1) ?_ (fun j hj=>Y.some hj)
 refine Y.loop (fun n (st:List TOut×Int×List Int×Int)=>st.2.1=(n:Int)∧st.1.length+n≤3∧(∀x,x ∈ st.1→kRu x.2)∧Src (N+25 - 8 * n) st.2.2∧n≤3) (fun n st hi=>?_) y10.1.toNat _ ?_
 ·obtain⟨i1,i2,i3,i4,i5⟩:=hi
  refine Y.bif (fun hc=>?_) (fun hc=>?_)
  ·have hn:0<n:=by have:=of_decide_eq_true hc;omega
   refine Y.bind (next_ok i4 (by omega) 300 (by omega)) fun y16 h16=>?_
   refine Y.bind (draw_l2 h16.1 (by omega)) fun y17 h17=>?_
   refine Y.grd (lim_one _ _ (by omega)) (Y.some ⟨n - 1,by omega,?_,?_,?_,h17.1.mono (by omega),by omega⟩)
   ·show IntKind.wrap .i64 (st.2.1 - 1)=_
    rw[i1,wrap_id (by omega) (by omega)];omega
   ·show (List.append _ _).length+(n - 1)≤3
    simp only[List.append_eq,List.length_append,List.length_cons,List.length_nil];omega
   ·intro x hx
    have hx:x ∈ st.1++[(IntKind.wrap .i64 (1+y16.1),y17.1)]:=hx
    rcases List.mem_append.1 hx with hx | hx
    ·exact i3 x hx
    ·obtain rfl:=List.mem_singleton.1 hx;exact h17.2
  ·have hn:n=0:=by have:=of_decide_eq_false hc;omega
   subst hn
   exact Y.some ⟨i4,by omega,i3⟩
 ·have h1:=h10.2.1
  have h2:=h10.2.2.1 (by omega)
  exact⟨by show y10.1=_;omega,by simp only[List.length_nil];omega,by simp,h10.1.mono (by omega),by omega⟩
def kC (x:TCoin):Prop:=x.2.1.2.1.length≤10
theorem P_spec_l2Copy (r:TRu) (h:r.1.length≤10):F_spec_l2Copy r=some r:=by
 unfold F_spec_l2Copy
 rw[lim_nil _ (by omega)];rfl
theorem P_spec_l4Copy (l:List TCoin) (hl:l.length≤100) (hk:∀x,x ∈ l→kC x):F_spec_l4Copy l=some l:=by
 unfold F_spec_l4Copy
 rw[loop_fold (σ:=List TCoin) l (fun acc a=>acc++[a]) (fun t i=>(t,i)) (fun t=>t) (fun t i=>t.length=i) _ (fun i h t ht=>by
  have hx:=hk _ (List.getElem_mem h)
  refine⟨?_,by simp[ht]⟩
  simp only[dlt h,inB_nat l i h,getD_toNat l i _ h,cond_true,wsucc h (by unfold BIG;omega),P_spec_l2Copy _ hx,Option.bind_some]
  rw[lim_one _ _ (by omega)];rfl) (fun t _=>by simp only[dge,cond_false]) [] rfl,Option.bind_some]
 have:=foldl_map (fun a:TCoin=>a) l []
 rw[this];simp
theorem put_add (l:List TCoin) (x:TCoin) (hl:l.length≤100):Y (F_spec_l4Add l x) (fun r=>r.length=l.length+1∧∀y,y ∈ r→y=x∨y ∈ l):=by
 unfold F_spec_l4Add
 refine Y.bind (Q:=fun (j:Int)=>0≤j∧j≤(l.length:Int)) ?_ (fun j hj=>?_)
 ·refine Y.loop (fun n (st:Int)=>0≤st∧st+(n:Int)=(l.length:Int)) (fun n st hi=>?_) l.length 0 ⟨Int.le_refl _,by omega⟩
  obtain⟨i1,i2⟩:=hi
  refine Y.bind (Q:=fun b=>b=true→st<(l.length:Int)) (Y.bif (fun hc=>?_) (fun _=>Y.some (fun h=>by cases h))) (fun b hb=>?_)
  ·have hc:=of_decide_eq_true hc
   refine Y.grd (inB_of i1 hc) ?_
   rw[P_spec_l4Ahead]
   exact Y.some (fun _=>hc)
  ·refine Y.bif (fun hc=>?_) (fun _=>Y.some ⟨i1,by omega⟩)
   have:=hb hc
   refine Y.some ⟨n - 1,by omega,?_⟩
   rw[wrap_id (by omega) (by omega)]
   omega
 ·obtain⟨j1,j2⟩:=hj
  obtain⟨k,rfl⟩:=Int.eq_ofNat_of_zero_le j1
  have hk:k≤l.length:=by omega
  have e1:cutOk 0 (k:Int) l=true:=cutOk_nat l k hk
  have e2:cutOk (k:Int) (l.length:Int) l=true:=by unfold cutOk;simp;omega
  have e3:cut (k:Int) (l.length:Int) l=l.drop k:=by
   unfold cut
   simp only[Int.toNat_natCast]
   rw[List.take_of_length_le (by rw[List.length_drop];omega)]
  rw[e1,e2,cut_nat,e3,cond_true,cond_true,List.append_eq,List.append_eq,List.append_eq]
  rw[lim_ok,lim_ok,lim_ok]
  ·refine Y.some ⟨by simp only[List.length_append,List.length_cons,List.length_nil,List.length_take,List.length_drop];omega,fun y hy=>?_⟩
   simp only[List.nil_append,List.append_assoc,List.mem_append,List.mem_singleton] at hy
   rcases hy with hy | hy | hy
   ·exact .inr (List.mem_of_mem_take hy)
   ·exact .inl hy
   ·exact .inr (List.mem_of_mem_drop hy)
  all_goals ((try simp only[List.length_append,List.length_cons,List.length_nil,List.length_take,List.length_drop]);unfold LIM;omega)
theorem P_spec_l4Of (l:List TCoin) (hl:l.length<BIG) (tx:Int):F_spec_l4Of l tx=some (l.any fun x=>decide (x.1.1=tx)):=by
 unfold F_spec_l4Of
 refine loop_any l _ _ (fun i h=>?_) (by simp only[dge,cond_false])
 simp only[dlt h,inB_nat l i h,getD_toNat l i _ h,cond_true,wsucc h hl]
 cases decide (l[i].1.1=tx)<;>rfl
def kL (l:List TCoin):Prop:=l.length≤41∧∀x,x ∈ l→kC x
theorem put_put (l:List TCoin) (tx:Int) (outs:List TOut) (h:Int) (m:Bool) (hl:l.length+outs.length≤40) (hk:∀x,x ∈ l→kC x) (ho:∀x,x ∈ outs→kRu x.2):Y (F_spec_l4Put l tx outs h m) (fun r=>kL r.1∧r.2=l):=by
 unfold F_spec_l4Put
 rw[P_spec_l4Copy l (by omega) hk,Option.bind_some]
 refine Y.bind (Q:=kL) ?_ (fun j hj=>Y.some ⟨hj,rfl⟩)
 refine Y.loop (fun n (st:List TCoin×Int)=>0≤st.2∧st.2+(n:Int)=(outs.length:Int)∧st.1.length+n≤40∧∀x,x ∈ st.1→kC x) (fun n st hi=>?_) outs.length (l,0) ⟨Int.le_refl _,by simp,hl,hk⟩
 obtain⟨i1,i2,i3,i4⟩:=hi
 refine Y.bif (fun hc=>?_) (fun hc=>Y.some ⟨by omega,i4⟩)
 have hc:=of_decide_eq_true hc
 have hin:=inB_of i1 hc
 refine Y.grd hin (Y.grd hin ?_)
 obtain⟨k,hk2⟩:=Int.eq_ofNat_of_zero_le i1
 have hk3:k<outs.length:=by omega
 rw[hk2,getD_toNat outs k _ hk3]
 have hor:=ho _ (List.getElem_mem hk3)
 unfold kRu at hor
 rw[P_spec_l2Copy _ (by omega),Option.bind_some]
 refine Y.bind (put_add _ _ (by omega)) fun y17 h17=>Y.some ⟨n - 1,by omega,?_⟩
 refine⟨?_,?_,?_,fun x hx=>?_⟩
 ·show 0≤IntKind.wrap .i64 ((k:Int)+1)
  rw[wrap_id (by omega) (by omega)];omega
 ·show IntKind.wrap .i64 ((k:Int)+1)+_=_
  rw[wrap_id (by omega) (by omega)];omega
 ·show y17.length+_≤40
  rw[h17.1];omega
 ·rcases h17.2 x hx with rfl | hx
  ·show (outs[k].2.1).length≤10
   omega
  ·exact i4 x hx
theorem put_coins (l:List TCoin) (tx:Int) (outs:List TOut) (h:Int) (m:Bool) (hl:kL l) (ho:kOuts outs):Y (F_spec_PutCoins l tx outs h m) (fun r=>kL r.1.2∧r.2=l):=by
 have hk:∀x,x ∈ l→x.2.1.2.1.length<BIG:=fun x hx=>by
  have:=hl.2 x hx;unfold kC at this;unfold BIG;omega
 have hlB:l.length<BIG:=by have:=hl.1;unfold BIG;omega
 have nil:kL []:=⟨by simp,by simp⟩
 unfold F_spec_PutCoins
 rw[P_spec_l4Fault l hlB hk,Option.bind_some,P_spec_l1In,Option.bind_some,P_spec_l2Height]
 refine Y.bif (fun _=>Y.some ⟨nil,rfl⟩) (fun _=>?_)
 refine Y.bind (Q:=fun _=>True) (Y.bif (fun _=>Y.some trivial) (fun _=>Y.some trivial)) (fun b _=>?_)
 refine Y.bif (fun _=>Y.some ⟨nil,rfl⟩) (fun _=>?_)
 refine Y.bif (fun _=>Y.some ⟨nil,rfl⟩) (fun _=>?_)
 refine Y.bind (Q:=fun (j:Unit⊕(Int×List TCoin))=>match j with | .inl _=>True | .inr r=>r.2=[]) ?_ (fun j hj=>?_)
 ·refine Y.loop (fun n (st:Int)=>0≤st∧st+(n:Int)=(outs.length:Int)) (fun n st hi=>?_) outs.length 0 ⟨Int.le_refl _,by omega⟩
  obtain⟨i1,i2⟩:=hi
  refine Y.bif (fun hc=>?_) (fun hc=>Y.some trivial)
  have hc:=of_decide_eq_true hc
  refine Y.grd (inB_of i1 hc) ?_
  obtain⟨k,rfl⟩:=Int.eq_ofNat_of_zero_le i1
  have hk3:k<outs.length:=by omega
  rw[getD_toNat outs k _ hk3]
  have hor:=ho.2 _ (List.getElem_mem hk3)
  unfold kRu at hor
  rw[P_spec_l4Out _ (by unfold BIG;omega),Option.bind_some]
  refine Y.bif (fun _=>Y.some rfl) (fun _=>Y.some ⟨n - 1,by have:=ho.1;omega,?_⟩)
  have:=ho.1
  rw[wrap_id (by omega) (by omega)]
  omega
 ·cases j with
  | inr r=>
   refine Y.some ⟨?_,rfl⟩
   have hj:r.2=[]:=hj
   show kL r.2
   rw[hj];exact nil
  | inl _=>
   show Y ((F_spec_l4Of l tx).bind _) _
   rw[P_spec_l4Of l hlB,Option.bind_some]
   refine Y.bif (fun _=>Y.some ⟨nil,rfl⟩) (fun _=>?_)
   refine Y.bif (fun _=>Y.some ⟨nil,rfl⟩) (fun hc=>?_)
   have hc:=of_decide_eq_false hc
   have h1:=hl.1
   have h2:=ho.1
   rw[wrap_id (by omega) (by omega)] at hc
   refine Y.bind (put_put l tx outs h m (by omega) hl.2 ho.2) fun y30 h30=>Y.some ⟨h30.1,h30.2⟩
theorem draw_right {N:Nat} {s:List Int×Int} (h:Src N s) (hN:N≤700000):Y (F_spec_l4Right s) (fun r=>Src (N+141) r.2∧kL r.1):=by
 unfold F_spec_l4Right
 refine Y.bind (next_ok h (by omega) 6 (by omega)) fun y22 h22=>?_
 refine Y.bind (Q:=fun (j:List TCoin×List Int×Int)=>Src (N+141) j.2∧kL j.1) ?_ (fun j hj=>Y.some hj)
 refine Y.loop (fun n (st:List TCoin×Int×List Int×Int)=>st.2.1=(n:Int)∧kL st.1∧Src (N+141 - 28 * n) st.2.2∧n≤5) (fun n st hi=>?_) y22.1.toNat _ ?_
 ·obtain⟨i1,i2,i3,i4⟩:=hi
  refine Y.bif (fun hc=>?_) (fun hc=>?_)
  ·have hn:0<n:=by have:=of_decide_eq_true hc;omega
   refine Y.bind (next_ok i3 (by omega) 6 (by omega)) fun y36 h36=>?_
   refine Y.bind (draw_outs h36.1 (by omega)) fun y37 h37=>?_
   refine Y.bind (next_ok h37.1 (by omega) 6 (by omega)) fun y38 h38=>?_
   refine Y.bind (chance_ok h38.1 (by omega) 3 (by omega)) fun y39 h39=>?_
   refine Y.bind (put_coins _ _ _ _ _ i2 h37.2) fun y40 h40=>?_
   refine Y.bind (Q:=kL) (Y.bif (fun _=>Y.some h40.1) (fun _=>Y.some (by rw[h40.2];exact i2))) (fun j hj=>?_)
   refine Y.some ⟨n - 1,by omega,?_,hj,h39.mono (by omega),by omega⟩
   show IntKind.wrap .i64 (st.2.1 - 1)=_
   rw[i1,wrap_id (by omega) (by omega)];omega
  ·have hn:n=0:=by have:=of_decide_eq_false hc;omega
   subst hn
   exact Y.some ⟨i3,i2⟩
 ·have h1:=h22.2.1
  have h2:=h22.2.2.1 (by omega)
  exact⟨by show y22.1=_;omega,⟨by simp,by simp⟩,h22.1.mono (by omega),by omega⟩
def kM (l:List TCoin):Prop:=l.length≤42∧∀x,x ∈ l→kC x
theorem kM_set {l:List TCoin} (h:kM l) (i:Nat) (x:TCoin) (hx:kC x):kM (List.set l i x):=⟨by rw[List.length_set];exact h.1,fun y hy=>by
 rcases List.mem_or_eq_of_mem_set hy with hy | rfl
 ·exact h.2 y hy
 ·exact hx⟩
theorem kC_at {l:List TCoin} (h:kM l) (i:Nat) (hi:i<l.length):kC (List.getD l i dC):=by
 rw[List.getD_eq_getElem?_getD,List.getElem?_eq_getElem hi]
 exact h.2 _ (List.getElem_mem hi)
theorem draw_bent {N:Nat} {s:List Int×Int} (h:Src N s) (hN:N≤600000):Y (F_spec_l4Bent s) (fun r=>kM r.1):=by
 unfold F_spec_l4Bent
 refine Y.bind (draw_right h (by omega)) fun y73 h73=>?_
 have hM:kM y73.1:=⟨by have:=h73.2.1;omega,h73.2.2⟩
 refine Y.bind (Q:=fun (j:List TCoin×List Int×Int)=>kM j.1∧Src (N+200) j.2) (Y.bif (fun hc=>?_) (fun _=>Y.some ⟨hM,h73.1.mono (by omega)⟩)) (fun j142 h142=>?_)
 ·have hc:=of_decide_eq_true hc
  have hin:inB 0 y73.1=true:=inB_of (Int.le_refl _) hc
  have h0:kC (List.getD y73.1 (Int.toNat 0) dC):=kC_at hM _ (by show 0<_;omega)
  refine Y.bind (next_ok h73.1 (by omega) 14 (by omega)) fun y108 h108=>?_
  refine Y.bind (Q:=fun (j:List TCoin×List Int×Int)=>kM j.1∧Src (N+200) j.2) (Y.bif (fun _=>?_) (fun _=>?_)) (fun j hj=>Y.some hj)
  ·refine Y.bind (pick_ok h108.1 (by omega) _ (by simp) (by simp)) fun y125 h125=>?_
   exact Y.grd hin (Y.some ⟨kM_set hM _ _ h0,h125.1.mono (by omega)⟩)
  ·refine Y.bind (Q:=fun (j:List TCoin×List Int×Int)=>kM j.1∧Src (N+200) j.2) (Y.bif (fun _=>?_) (fun _=>?_)) (fun j hj=>Y.some hj)
   ·refine Y.bind (pick_ok h108.1 (by omega) _ (by simp) (by simp)) fun y133 h133=>?_
    exact Y.grd hin (Y.some ⟨kM_set hM _ _ h0,h133.1.mono (by omega)⟩)
   ·refine Y.bind (Q:=kM) (Y.bif (fun _=>Y.grd hin (Y.some (kM_set hM _ _ h0))) (fun _=>?_)) (fun j hj=>Y.some ⟨hj,h108.1.mono (by omega)⟩)
    refine Y.bind (Q:=kM) (Y.bif (fun _=>Y.grd hin ?_) (fun _=>Y.some hM)) (fun j hj=>Y.some hj)
    refine Y.grd (lim_one _ _ (by have:=hM.1;omega)) (Y.some ⟨?_,fun x hx=>?_⟩)
    ·show (List.append _ _).length≤42
     have:=h73.2.1
     simp only[List.append_eq,List.length_append,List.length_cons,List.length_nil];omega
    ·have hx:x ∈ y73.1++[List.getD y73.1 (Int.toNat 0) dC]:=hx
     rcases List.mem_append.1 hx with hx | hx
     ·exact hM.2 x hx
     ·rw[List.mem_singleton.1 hx];exact h0
 ·refine Y.bind (chance_ok h142.2 (by omega) 40 (by omega)) fun y143 h143=>?_
  refine Y.bind (Q:=kM) (Y.bif (fun _=>Y.grd (by decide) (Y.some ⟨by simp,fun x hx=>?_⟩)) (fun _=>Y.some h142.1)) (fun j hj=>Y.some hj)
  rw[List.eq_of_mem_replicate hx]
  show ([]:List Int).length≤10
  simp
theorem draw_coins (x:List Int) (h:CodeOk x):Y (F_spec_DrawCoinsText x) kM:=by
 unfold F_spec_DrawCoinsText F_spec_l1Source
 have hS:Src 0 (x,(0:Int)):=⟨h,Int.le_refl _,Int.le_refl _⟩
 rw[Option.bind_some]
 exact Y.bind (draw_bent hS (by omega)) fun y hy=>Y.some hy
end DL
end Go.Dx
set_option maxHeartbeats 2000000
namespace Go.Dx
namespace DL
theorem cuts_sep (c:UInt8):∀(a b:List UInt8),cuts c (a++c::b)=cuts c a++cuts c b
 | [],b=>by rw[List.nil_append,cuts_cons,if_pos rfl];rfl
 | x::a,b=>by
  rw[List.cons_append,cuts_cons,cuts_cons,cuts_sep c a b]
  split
  ·rfl
  ·cases h:cuts c a with
   | nil=>exact absurd h (cuts_ne c a)
   | cons w ws=>rfl
def nW (l:List UInt8):Nat:=(mWords l).length
theorem nW_sep (a b:List UInt8):nW (a++32::b)=nW a+nW b:=by
 unfold nW mWords
 rw[cuts_sep,List.filter_append,List.length_append]
theorem nW_pos:∀(l:List UInt8) (x:UInt8),x ∈ l→x ≠ 32→1≤nW l
 | [],x,h,_=>by cases h
 | b::l,x,h,hx=>by
  unfold nW mWords
  rw[cuts_cons]
  by_cases hb:b=32
  ·rw[if_pos hb]
   rcases List.mem_cons.1 h with rfl | h
   ·exact absurd hb hx
   ·have:=nW_pos l x h hx
    unfold nW mWords at this
    simpa using this
  ·rw[if_neg hb]
   cases hc:cuts 32 l with
   | nil=>exact absurd hc (cuts_ne _ _)
   | cons w ws=>simp[glue]
theorem dec_digit:∀(u:Nat) (b:UInt8),b ∈ Lib.decDigits u→48≤b.toNat∧b.toNat≤57:=by
 intro u
 induction u using Nat.strongRecOn with
 | ind u ih=>
  intro b hb
  have one:∀d:Nat,d<10→(UInt8.ofNat (48+d)).toNat=48+d:=fun d hd=>by
   rw[UInt8.toNat_ofNat'];omega
  by_cases h:u<10
  ·rw[Lib.decDigits_one h,List.mem_singleton] at hb
   subst hb
   rw[one u h];omega
  ·rw[Lib.decDigits,dif_neg h] at hb
   rcases List.mem_append.1 hb with hb | hb
   ·exact ih (u / 10) (by omega) b hb
   ·rw[List.mem_singleton] at hb
    subst hb
    rw[one (u % 10) (by omega)];omega
theorem itoa_digit {n:Int} (h0:0≤n) (b:UInt8) (hb:b ∈ Lib.itoa n):48≤b.toNat∧b.toNat≤57:=by
 obtain⟨m,rfl⟩:=Int.eq_ofNat_of_zero_le h0
 rw[itoa_nat] at hb
 exact dec_digit m b hb
theorem itoa_ne {n:Int} (h0:0≤n):∃b,b ∈ Lib.itoa n:=by
 obtain⟨m,rfl⟩:=Int.eq_ofNat_of_zero_le h0
 rw[itoa_nat]
 have h:=Lib.decDigits_length m
 have h1:=Lib.nDigits_pos m
 exact List.exists_mem_of_length_pos (by omega)
theorem digit_ne {b c:UInt8} (h:48≤b.toNat∧b.toNat≤57) (hc:c.toNat<48):b ≠ c:=fun e=>by rw[e] at h;omega
theorem words_ge:∀(l:List TCoin) (p:List UInt8),(∀x,x ∈ l→okC x)→3 * l.length≤nW (p++txtCoins l)
 | [],p,_=>by simp
 | x::l,p,h=>by
  have hx:=h x List.mem_cons_self
  have ih:=words_ge l (txtRule x.2.1.2 [32]++[10]) fun y hy=>h y (List.mem_cons_of_mem _ hy)
  have e:p++txtCoins (x::l)=(p++[99,111,105,110])++32::((Lib.itoa x.1.1++[58]++Lib.itoa x.1.2)++32::(Lib.itoa x.2.1.1++32::((txtRule x.2.1.2 [32]++[10])++txtCoins l))):=by
   unfold txtCoins
   rw[List.map_cons,List.flatten_cons]
   unfold txtCoin
   simp
  rw[e,nW_sep,nW_sep,nW_sep]
  have h1:=nW_pos (p++[99,111,105,110]) 99 (by simp) (by decide)
  have h2:=nW_pos (Lib.itoa x.1.1++[58]++Lib.itoa x.1.2) 58 (by simp) (by decide)
  obtain⟨b,hb⟩:=itoa_ne (n:=x.2.1.1) (by have:=hx.val;omega)
  have h3:=nW_pos (Lib.itoa x.2.1.1) b hb (digit_ne (itoa_digit (by have:=hx.val;omega) b hb) (by decide))
  rw[List.length_cons]
  omega
def nl (b:UInt8):Bool:=decide ((b.toNat:Int)=10)
theorem nl_itoa {n:Int} (h0:0≤n):(Lib.itoa n).countP nl=0:=by
 rw[List.countP_eq_zero]
 intro b hb
 have:=itoa_digit h0 b hb
 simp[nl];omega
theorem nl_tail (sep:List UInt8) (hs:sep.countP nl=0):∀(l:List (List UInt8)),(∀w,w ∈ l→w.countP nl=0)→(Lib.joinTail sep l).countP nl=0
 | [],_=>rfl
 | a::r,h=>by
  have:=nl_tail sep hs r fun w hw=>h w (List.mem_cons_of_mem _ hw)
  unfold Lib.joinTail at this ⊢
  rw[List.map_cons,List.flatten_cons,List.countP_append,List.countP_append,hs,h a List.mem_cons_self,this]
theorem nl_join (l:List (List UInt8)) (sep:List UInt8) (hs:sep.countP nl=0) (h:∀w,w ∈ l→w.countP nl=0):(Lib.join l sep).countP nl=0:=by
 cases l with
 | nil=>rfl
 | cons a l=>
  rw[Lib.join_cons,List.countP_append,h a List.mem_cons_self,nl_tail sep hs l fun w hw=>h w (List.mem_cons_of_mem _ hw)]
theorem nl_rule {r:TRu} (h:okR r):(txtRule r [32]).countP nl=0:=by
 have h1:(txtKeys r.1 [44]).countP nl=0:=nl_join _ _ (by decide) fun w hw=>by
  obtain⟨k,hk,rfl⟩:=List.mem_map.1 hw
  exact nl_itoa (by have:=h.keys k hk;omega)
 have h2:=nl_itoa (n:=r.2.1) (by have:=h.need;omega)
 have h3:=nl_itoa (n:=r.2.2) (by have:=h.after;omega)
 have e1:([111,102]:List UInt8).countP nl=0:=by decide
 have e2:([32]:List UInt8).countP nl=0:=by decide
 have e3:([97,102,116,101,114]:List UInt8).countP nl=0:=by decide
 unfold txtRule
 split<;>simp only[List.countP_append,List.countP_nil,h1,h2,h3,e1,e2,e3]
theorem nl_coin {x:TCoin} (h:okC x):(txtCoin x).countP nl=1:=by
 have h1:=nl_itoa (n:=x.1.1) (by have:=h.tx;omega)
 have h2:=nl_itoa (n:=x.1.2) (by have:=h.at_;omega)
 have h3:=nl_itoa (n:=x.2.1.1) (by have:=h.val;omega)
 have h4:=nl_rule (okR_of h.rule)
 have e1:([99,111,105,110,32]:List UInt8).countP nl=0:=by decide
 have e2:([58]:List UInt8).countP nl=0:=by decide
 have e3:([32]:List UInt8).countP nl=0:=by decide
 have e4:([10]:List UInt8).countP nl=1:=by decide
 unfold txtCoin
 simp only[List.countP_append,h1,h2,h3,h4,e1,e2,e3,e4]
theorem nl_coins:∀(l:List TCoin),(∀x,x ∈ l→okC x)→(txtCoins l).countP nl=l.length
 | [],_=>rfl
 | x::l,h=>by
  have:=nl_coins l fun y hy=>h y (List.mem_cons_of_mem _ hy)
  unfold txtCoins at this ⊢
  rw[List.map_cons,List.flatten_cons,List.countP_append,nl_coin (h x List.mem_cons_self),this,List.length_cons];omega
theorem txtCoins_len:∀(l:List TCoin),(∀x,x ∈ l→okC x)→(txtCoins l).length≤260 * l.length
 | [],_=>by simp[txtCoins]
 | x::l,h=>by
  have h1:=txtCoins_len l fun y hy=>h y (List.mem_cons_of_mem _ hy)
  have h2:=txtCoin_len (h x List.mem_cons_self)
  unfold txtCoins at h1 ⊢
  rw[List.map_cons,List.flatten_cons,List.length_append,List.length_cons];omega
theorem Y_true {o:Option Bool} (h:Y o (fun b=>b=true)):o=some true:=by obtain⟨b,h1,h2⟩:=h;rw[h1,h2]
def bCode (x:List Int):Prop:=List.length x≤maxLen∧∀y,y ∈ x→(Lit.int .u8 y).wf=true
theorem code_ok {x:List Int} (h:bCode x) (hl:x.length≤1048576):CodeOk x:=by
 refine⟨hl,fun a ha=>?_⟩
 have:=h.2 a ha
 simp only[Lit.wf,Bool.and_eq_true,decide_eq_true_eq] at this
 have e1:IntKind.u8.min=0:=by decide
 have e2:IntKind.u8.max=255:=by decide
 rw[e1,e2] at this
 exact this
theorem law_FnCoinTexts (x:List Int) (hb:bCode x):F_laws_FnCoinTexts x=some true:=by
 apply Y_true
 unfold F_laws_FnCoinTexts F_laws_lwBig
 rw[Option.bind_some]
 refine Y.bif (fun _=>Y.some rfl) (fun hc=>?_)
 have hc:=of_decide_eq_false hc
 refine Y.bind (draw_coins x (code_ok hb (by omega))) fun l hl=>?_
 have hk:∀y,y ∈ l→y.2.1.2.1.length<BIG:=fun y hy=>by
  have:=hl.2 y hy;unfold kC at this;unfold BIG;omega
 have hlB:l.length<BIG:=by have:=hl.1;unfold BIG;omega
 rw[P_impl_CoinsText l hlB hk,Option.bind_some,P_spec_CoinsText l hlB hk]
 unfold mCoinsText
 by_cases h0:mCoins l=0
 ·rw[if_pos h0]
  obtain⟨hlen,hok⟩:=okC_of h0
  have ht:=txtCoins_len l hok
  have hn:=nl_coins l hok
  have hw:=words_ge l [] hok
  rw[List.nil_append] at hw
  have hw:3 * l.length≤(mWords (txtCoins l)).length:=hw
  simp only[decide_true,Bool.not_true,cond_false]
  rw[loop_fold (σ:=Int) (txtCoins l) (fun n a=>if nl a then n+1 else n) (fun t i=>(t,i)) (fun t=>t) (fun t i=>0≤t∧t≤(i:Int)) _ (fun i h t ht2=>by
   have hB:(txtCoins l).length<BIG:=by unfold BIG;omega
   refine⟨?_,?_⟩
   ·simp only[dlt h,inB_nat _ i h,getD_toNat _ i _ h,cond_true,wsucc h hB]
    unfold nl
    cases decide ((((txtCoins l)[i]).toNat:Int)=10) with
    | true=>
     simp only[cond_true,Option.bind_some,if_true]
     rw[wrap_id (by omega) (by unfold BIG at hB;omega)]
    | false=>rfl
   ·split<;>omega) (fun t _=>by simp only[dge,cond_false]) 0 ⟨Int.le_refl _,Int.le_refl _⟩,Option.bind_some,foldl_count,hn]
  have e1:decide ((0:Int)+(l.length:Int)=(l.length:Int))=true:=by simp
  rw[e1,cond_true,Option.bind_some]
  simp only[decide_true,cond_true]
  rw[P_impl_WordsOf _ (by omega),Option.bind_some]
  refine Y.some ?_
  rw[wrap_id (by omega) (by omega)]
  exact decide_eq_true (by
   show 3 * ((0:Int)+(l.length:Int))≤((mWords (txtCoins l)).length:Int)
   omega)
 ·rw[if_neg h0]
  simp only[Option.bind_some]
  rw[decide_eq_false h0]
  exact Y.some (by simp)
end DL
end Go.Dx
