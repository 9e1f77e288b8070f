/- The plain law: no program in sight -/
import Derived.Test.YtoopijohnkgagaaDoorSca
set_option linter.unusedVariables false
set_option linter.unusedSimpArgs false
set_option maxHeartbeats 1000000
namespace Go.Dx
namespace DL
abbrev TCoin:=(Int×Int)×(Int×List Int×Int×Int)×Int×Bool
def totCoin (c:TCoin):Nat:=c.2.1.2.1.length
def totCoins (l:List TCoin):Nat:=l.length+(l.map totCoin).sum
def bL {α:Type} (p:α→Prop) (l:List α):Prop:=l.length≤9223372036854775807∧∀y,y ∈ l→p y
def bAny {α:Type} (_:α):Prop:=True
def bCoin (c:TCoin):Prop:=bL bAny c.2.1.2.1
theorem bL_of {s:Sh} {p:s.den→Prop} (hp:∀y,Bnd s y→p y) {l:List s.den} (h:Bnd (.list s) l):bL p l:=⟨h.1,fun y hy=>hp y (h.2 y hy)⟩
theorem bCoins_of (c:List TCoin) (h:Bnd (.list s6) c):bL bCoin c:=
 bL_of (s:=s6) (p:=bCoin) (fun y hy=>by
  obtain⟨_,⟨_,hy,_⟩,_⟩:=hy
  exact bL_of (s:=.int .i64) (p:=bAny) (fun _ _=>trivial) hy) h
theorem wrap_succ (i n:Nat) (h:i<n) (hn:n≤9223372036854775807):IntKind.wrap .i64 ((i:Int)+1)=((i+1:Nat):Int):=by
 rw[wrap_id (by omega) (by omega)];omega
theorem step_sz (t:Nat) (left:Int) (c:Int) (h0:0≤left):(bif decide (szr t left<0) then (some (Sum.inr (Sum.inr (-1))):Option ((Int×Int)⊕(Int⊕Int))) else some (Sum.inl (szr t left,c)))=if (t:Int)≤left then some (Sum.inl (left - t,c)) else some (Sum.inr (Sum.inr (-1))):=by
 by_cases h:(t:Int)≤left
 ·have e:szr t left=left - t:=by simp[szr,h]
  have hn:¬(left - (t:Int))<0:=by omega
  simp[e,hn,h]
 ·have e:szr t left = -1:=by simp[szr,h]
  simp[e,h]
theorem szr_zero (left:Int) (h:0≤left):szr 0 left=left:=by simp[szr,h]
theorem P_laws_szInt64S (x:List Int) (hx:x.length≤9223372036854775807) (left:Int) (h0:0≤left) (h1:left≤1048576):F_laws_szInt64S x left=some (szr x.length left):=by
 unfold F_laws_szInt64S
 exact szr_lead (b:=0) (k:=fun l=>some l) h0 h1 hx (fun h=>by rw[szr_zero _ (by omega)])
theorem P_laws_szRule (x:List Int×Int×Int) (hx:x.1.length≤9223372036854775807) (left:Int) (h0:0≤left) (h1:left≤1048576):F_laws_szRule x left=some (szr x.1.length left):=by
 unfold F_laws_szRule
 rw[P_laws_szInt64S _ hx _ h0 h1,Option.bind_some]
 exact szr_last _ _ h0
theorem P_laws_szOut (x:Int×List Int×Int×Int) (hx:x.2.1.length≤9223372036854775807) (left:Int) (h0:0≤left) (h1:left≤1048576):F_laws_szOut x left=some (szr x.2.1.length left):=by
 unfold F_laws_szOut
 rw[P_laws_szRule _ hx _ h0 h1,Option.bind_some]
 exact szr_last _ _ h0
theorem P_laws_szCoin (x:TCoin) (hx:bCoin x) (left:Int) (h0:0≤left) (h1:left≤1048576):F_laws_szCoin x left=some (szr (totCoin x) left):=by
 unfold F_laws_szCoin
 rw[P_laws_szOut _ hx.1 _ h0 h1,Option.bind_some]
 exact szr_last _ _ h0
theorem P_laws_szCoinS (x:List TCoin) (hx:bL bCoin x) (left:Int) (h0:0≤left) (h1:left≤1048576):F_laws_szCoinS x left=some (szr (x.length+(x.map totCoin).sum) left):=by
 unfold F_laws_szCoinS
 refine szr_lead (b:=(x.map totCoin).sum) (k:=fun l=>(loopO _ (l,0)).bind _) h0 h1 hx.1 (fun hle=>?_)
 refine sz_loop x totCoin _ (fun i left h h0 h1=>?_) (fun left=>?_) _ (by omega) (by omega)
 ·have e1:decide ((i:Int)<(x.length:Int))=true:=by simpa using h
  simp only[e1,inB_nat x i h,getD_toNat x i _ h,cond_true,wrap_succ i _ h hx.1,P_laws_szCoin _ (hx.2 _ (List.getElem_mem h)) _ h0 h1,Option.bind_some]
  exact step_sz _ _ _ h0
 ·simp
end DL
end Go.Dx
set_option maxHeartbeats 1000000
namespace Go.Dx
namespace DL
theorem le_sum {α:Type} (m:α→Nat):∀(l:List α) (y:α),y ∈ l→m y≤(l.map m).sum
 | x::l,y,h=>by
  simp only[List.map_cons,List.sum_cons]
  cases List.mem_cons.1 h with
  | inl h=>subst h;omega
  | inr h=>have:=le_sum m l y h;omega
theorem cap_ok {n:Nat} (h:n≤1048576):(decide (0≤(n:Int))&&decide ((n:Int)≤(LIM:Int)))=true:=by
 have h1:(0:Int)≤n:=by omega
 have h2:(n:Int)≤(LIM:Int):=by unfold LIM;omega
 rw[decide_eq_true h1,decide_eq_true h2];rfl
theorem to_loop' {α:Type} (l:List α) (d:α) (f:List α×Int→Option ((List α×Int)⊕List α)) (hstep:∀(i:Nat) (acc:List α) (h:i<l.length),acc.length=l.length→f (acc,(i:Int))=some (.inl (acc.set i l[i],((i+1:Nat):Int))))
  (hend:∀acc,f (acc,(l.length:Int))=some (.inr acc)):(loopO f (List.replicate (Int.toNat (l.length:Int)) d,0)).bind (fun j=>some j)=some l:=by
 rw[show Int.toNat (l.length:Int)=l.length by simp,to_loop l d f hstep hend];rfl
theorem P_laws_toRef (x:Int×Int):F_laws_toRef x=some x:=rfl
theorem P_laws_toInt64S (x:List Int) (hx:x.length≤1048576):F_laws_toInt64S x=some x:=by
 unfold F_laws_toInt64S
 have hl:x.length≤1048576:=by exact hx
 rw[cap_ok hl,cond_true]
 refine to_loop' x 0 _ (fun i acc h ha=>?_) (fun acc=>?_)
 ·have e1:decide ((i:Int)<(x.length:Int))=true:=by simpa using h
  have e2:inB (i:Int) acc=true:=inB_nat acc i (by omega)
  have e3:Int.toNat (i:Int)=i:=by simp
  simp only[e1,inB_nat x i h,e2,cond_true,getD_toNat x i _ h,wrap_succ i _ h (by omega)]
  rw[e3]
 ·simp
theorem P_laws_toRule (x:List Int×Int×Int) (h:x.1.length≤1048576):F_laws_toRule x=some x:=by
 unfold F_laws_toRule;rw[P_laws_toInt64S _ h,Option.bind_some]
theorem P_laws_toOut (x:Int×List Int×Int×Int) (h:x.2.1.length≤1048576):F_laws_toOut x=some x:=by
 unfold F_laws_toOut;rw[P_laws_toRule _ h,Option.bind_some]
theorem P_laws_toCoin (x:TCoin) (h:totCoin x≤1048576):F_laws_toCoin x=some x:=by
 unfold F_laws_toCoin;rw[P_laws_toRef,Option.bind_some,P_laws_toOut _ h,Option.bind_some]
theorem P_laws_toCoinS (x:List TCoin) (hx:totCoins x≤1048576):F_laws_toCoinS x=some x:=by
 unfold F_laws_toCoinS
 have hl:x.length≤1048576:=by have:x.length≤totCoins x:=Nat.le_add_right _ _;omega
 rw[cap_ok hl,cond_true]
 refine to_loop' x ((0,0),((0,([],(0,0))),(0,false))) _ (fun i acc h ha=>?_) (fun acc=>?_)
 ·have e1:decide ((i:Int)<(x.length:Int))=true:=by simpa using h
  have e2:inB (i:Int) acc=true:=inB_nat acc i (by omega)
  have e3:Int.toNat (i:Int)=i:=by simp
  have hm:totCoin x[i]≤1048576:=by
   have h1:=le_sum totCoin x _ (List.getElem_mem h)
   have h2:(x.map totCoin).sum≤totCoins x:=Nat.le_add_left _ _
   omega
  have hel:F_laws_toCoin (List.getD x (Int.toNat (i:Int)) ((0,0),((0,([],(0,0))),(0,false))))=some x[i]:=by rw[getD_toNat x i _ h];exact P_laws_toCoin _ hm
  simp only[e1,inB_nat x i h,e2,cond_true,hel,Option.bind_some,wrap_succ i _ h (by omega)]
  rw[e3]
 ·simp
end DL
end Go.Dx
set_option maxHeartbeats 2000000
namespace Go.Dx
namespace DL
set_option synthInstance.maxSize 1000
set_option synthInstance.maxHeartbeats 400000
theorem beqB (a b:Bool):Sh.beq .bool a b=decide (a=b):=rfl
theorem eq_step {p:Prop} [Decidable p] (w:Int):(bif !decide p then (some (Sum.inr (Sum.inr false)):Option (Int⊕(Unit⊕Bool))) else some (Sum.inl w))=if p then some (Sum.inl w) else some (Sum.inr (Sum.inr false)):=by
 by_cases h:p<;>simp[h]
theorem neq_len {α:Type} [DecidableEq α] {x y:List α} (h:¬x.length=y.length):decide (x=y)=false:=decide_eq_false (fun he=>h (by rw[he]))
theorem P_laws_eqRef (x y:Int×Int):F_laws_eqRef x y=some (decide (x=y)):=by
 unfold F_laws_eqRef
 obtain⟨a1,a2⟩:=x;obtain⟨b1,b2⟩:=y
 by_cases h1:a1=b1<;>by_cases h2:a2=b2<;>simp[h1,h2]
theorem P_laws_eqInt64S (x y:List Int) (hx:bL bAny x):F_laws_eqInt64S x y=some (decide (x=y)):=by
 unfold F_laws_eqInt64S
 by_cases hl:x.length=y.length
 ·have hc:decide ((x.length:Int)=(y.length:Int))=true:=by simp[hl]
  rw[hc,Bool.not_true,cond_false]
  refine eq_loop x y hl _ (fun i h h'=>?_) ?_
  ·have e1:decide ((i:Int)<(x.length:Int))=true:=by simpa using h
   simp only[e1,inB_nat x i h,inB_nat y i h',getD_toNat x i _ h,getD_toNat y i _ h',cond_true,wrap_succ i _ h hx.1]
   exact eq_step _
  ·simp
 ·have hc:decide ((x.length:Int)=(y.length:Int))=false:=decide_eq_false (fun h=>hl (by omega))
  rw[hc,neq_len hl];rfl
theorem P_laws_eqRule (x y:List Int×Int×Int) (hx:bL bAny x.1):F_laws_eqRule x y=some (decide (x=y)):=by
 unfold F_laws_eqRule
 obtain⟨a1,a2,a3⟩:=x;obtain⟨b1,b2,b3⟩:=y
 rw[P_laws_eqInt64S _ _ hx]
 by_cases h1:a1=b1<;>by_cases h2:a2=b2<;>by_cases h3:a3=b3<;>simp[h1,h2,h3]
theorem P_laws_eqOut (x y:Int×List Int×Int×Int) (hx:bL bAny x.2.1):F_laws_eqOut x y=some (decide (x=y)):=by
 unfold F_laws_eqOut
 obtain⟨a1,a2⟩:=x;obtain⟨b1,b2⟩:=y
 rw[P_laws_eqRule _ _ hx]
 by_cases h1:a1=b1<;>by_cases h2:a2=b2<;>simp[h1,h2]
theorem P_laws_eqCoin (x y:TCoin) (hx:bCoin x):F_laws_eqCoin x y=some (decide (x=y)):=by
 unfold F_laws_eqCoin
 obtain⟨a1,a2,a3,a4⟩:=x;obtain⟨b1,b2,b3,b4⟩:=y
 rw[P_laws_eqOut _ _ hx,P_laws_eqRef,beqB]
 by_cases h1:a1=b1<;>by_cases h2:a2=b2<;>by_cases h3:a3=b3<;>by_cases h4:a4=b4<;>simp[h1,h2,h3,h4]
theorem P_laws_eqCoinS (x y:List TCoin) (hx:bL bCoin x):F_laws_eqCoinS x y=some (decide (x=y)):=by
 unfold F_laws_eqCoinS
 by_cases hl:x.length=y.length
 ·have hc:decide ((x.length:Int)=(y.length:Int))=true:=by simp[hl]
  rw[hc,Bool.not_true,cond_false]
  refine eq_loop x y hl _ (fun i h h'=>?_) ?_
  ·have e1:decide ((i:Int)<(x.length:Int))=true:=by simpa using h
   simp only[e1,inB_nat x i h,inB_nat y i h',getD_toNat x i _ h,getD_toNat y i _ h',cond_true,wrap_succ i _ h hx.1,P_laws_eqCoin _ _ (hx.2 _ (List.getElem_mem h)),Option.bind_some]
   exact eq_step _
  ·simp
 ·have hc:decide ((x.length:Int)=(y.length:Int))=false:=decide_eq_false (fun h=>hl (by omega))
  rw[hc,neq_len hl];rfl
end DL
end Go.Dx
set_option maxHeartbeats 2000000
namespace Go.Dx
namespace DL
def mIn (v lo hi:Int):Bool:=decide (lo≤v)&&decide (v≤hi)
theorem P_spec_l1In (v lo hi:Int):F_spec_l1In v lo hi=some (mIn v lo hi):=by
 unfold F_spec_l1In mIn
 cases decide (lo≤v)<;>rfl
theorem P_impl_within (v lo hi:Int):F_impl_within v lo hi=some (mIn v lo hi):=by
 unfold F_impl_within mIn
 cases decide (lo≤v)<;>rfl
theorem P_spec_l1Key (v:Int):F_spec_l1Key v=some (mIn v 1 999):=by unfold F_spec_l1Key;rw[P_spec_l1In];rfl
theorem P_impl_isKey (v:Int):F_impl_isKey v=some (mIn v 1 999):=by unfold F_impl_isKey;rw[P_impl_within];rfl
theorem P_impl_isId (v:Int):F_impl_isId v=some (mIn v 1 60):=by unfold F_impl_isId;rw[P_impl_within];rfl
def mRef (r:Int×Int):Bool:=mIn r.1 1 60&&mIn r.2 0 3
theorem P_impl_isRef (r:Int×Int):F_impl_isRef r=some (mRef r):=by
 unfold F_impl_isRef mRef;rw[P_impl_isId,P_impl_within];cases mIn r.1 1 60<;>rfl
theorem P_spec_l3Ref (r:Int×Int):F_spec_l3Ref r=some (mRef r):=by
 unfold F_spec_l3Ref mRef;rw[P_spec_l1In,P_spec_l1In];cases mIn r.1 1 60<;>rfl
theorem P_IndexFunc_int (l:List Int) (hl:l.length<BIG) (p:Int→Bool) (f:Int→Option Bool) (hf:∀a,a ∈ l→f a=some (p a)):F_slices_IndexFunc_Lint64_int64 l f=some (idxF p l):=by
 unfold F_slices_IndexFunc_Lint64_int64
 refine loop_idx l p _ (fun i h=>?_) (by simp only[dge,cond_false])
 simp only[dlt h,inB_nat l i h,getD_toNat l i _ h,cond_true,hf _ (List.getElem_mem h),Option.bind_some,wsucc h hl]
 cases p l[i]<;>rfl
theorem P_ContainsFunc_int (l:List Int) (hl:l.length<BIG) (p:Int→Bool) (f:Int→Option Bool) (hf:∀a,a ∈ l→f a=some (p a)):F_slices_ContainsFunc_Lint64_int64 l f=some (l.any p):=by
 unfold F_slices_ContainsFunc_Lint64_int64
 rw[P_IndexFunc_int l hl p f hf,Option.bind_some,idxF_nonneg]
theorem P_impl_areKeys (l:List Int) (hl:l.length<BIG):F_impl_areKeys l=some (l.all fun k=>mIn k 1 999):=by
 unfold F_impl_areKeys
 rw[P_ContainsFunc_int l hl (fun k=>!mIn k 1 999) _ (fun a _=>by unfold F_impl_areKeys_c1;rw[P_impl_isKey];rfl),Option.bind_some]
 rw[List.all_eq_not_any_not]
def mRising (l:List Int):Bool:=(List.range (l.length - 1)).all fun i=>decide (List.getD l i 0<List.getD l (i+1) 0)
theorem loop_rising {β:Type} (l:List Int) (hl:l.length<BIG) (r:β) (f:Int→Option (Int⊕(Unit⊕β)))
  (hs:∀(i:Nat),i+1<l.length→f ((i+1:Nat):Int)=some (if List.getD l (i+1) 0≤List.getD l i 0 then .inr (.inr r) else .inl ((i+2:Nat):Int))) (he:∀n:Nat,l.length≤n→f (n:Int)=some (.inr (.inl ()))) :
  loopO f 1=some (if mRising l then .inl () else .inr r):=by
 have key:∀(k i:Nat),i+k=l.length - 1→loopO f ((i+1:Nat):Int)=some (if (List.range' i k).all (fun i=>decide (List.getD l i 0<List.getD l (i+1) 0)) then .inl () else .inr r):=by
  intro k
  induction k with
  | zero=>intro i hi;rw[loopO_out (he _ (by omega))];simp
  | succ k ih=>
   intro i hi
   have hs:=hs i (by omega)
   rw[List.range'_succ,List.all_cons]
   by_cases hc:List.getD l (i+1) 0≤List.getD l i 0
   ·rw[if_pos hc] at hs
    rw[loopO_out hs,decide_eq_false (p:=List.getD l i 0<List.getD l (i+1) 0) (by omega)];rfl
   ·rw[if_neg hc] at hs
    rw[loopO_next hs,ih (i+1) (by omega),decide_eq_true (p:=List.getD l i 0<List.getD l (i+1) 0) (by omega),Bool.true_and]
 have:=key (l.length - 1) 0 (by omega)
 rw[←List.range_eq_range'] at this
 exact this
theorem rising_step (l:List Int) (hl:l.length<BIG) (i:Nat) (h:i+1<l.length):decide (((i+1:Nat):Int)<(l.length:Int))=true∧inB ((i+1:Nat):Int) l=true∧inB (IntKind.wrap .i64 (((i+1:Nat):Int) - 1)) l=true∧
  List.getD l (Int.toNat ((i+1:Nat):Int)) 0=List.getD l (i+1) 0∧List.getD l (Int.toNat (IntKind.wrap .i64 (((i+1:Nat):Int) - 1))) 0=List.getD l i 0∧IntKind.wrap .i64 (((i+1:Nat):Int)+1)=((i+2:Nat):Int):=by
 rw[wpred (i:=i) (n:=l.length) (by omega) hl]
 exact⟨dlt h,inB_nat l _ h,inB_nat l _ (by omega),by simp,by simp,wsucc h hl⟩
theorem dge' {i n:Nat} (h:n≤i):decide ((i:Int)<(n:Int))=false:=by simp;omega
theorem P_impl_isRising (l:List Int) (hl:l.length<BIG):F_impl_isRising l=some (mRising l):=by
 unfold F_impl_isRising
 rw[loop_rising l hl false _ (fun i h=>by
  obtain⟨h1,h2,h3,h4,h5,h6⟩:=rising_step l hl i h
  simp only[h1,h2,h3,h4,h5,h6,cond_true]
  by_cases hc:List.getD l (i+1) 0≤List.getD l i 0
  ·rw[if_pos hc,decide_eq_true hc];rfl
  ·rw[if_neg hc,decide_eq_false hc];rfl) (fun n hn=>by simp only[dge' hn,cond_false]),Option.bind_some]
 cases mRising l<;>rfl
theorem keys_loop {β:Type} (l:List Int) (hl:l.length<BIG) (r:β) (f:Int→Option (Int⊕(Unit⊕β)))
  (hs:∀(i:Nat) (h:i<l.length),f (i:Int)=some (if mIn l[i] 1 999 then .inl ((i+1:Nat):Int) else .inr (.inr r))) (he:f (l.length:Int)=some (.inr (.inl ()))) :
  loopO f 0=some (if (l.all fun k=>mIn k 1 999) then .inl () else .inr r):=by
 rw[loop_first l (fun _ a=>if !mIn a 1 999 then some r else none) f (fun i h=>by rw[hs i h];cases mIn l[i] 1 999<;>rfl) he,first_any,List.all_eq_not_any_not]
 cases l.any fun x=>!mIn x 1 999<;>rfl
end DL
end Go.Dx
set_option maxHeartbeats 2000000
namespace Go.Dx
namespace DL
abbrev TRu:=List Int×Int×Int
abbrev TOut:=Int×List Int×Int×Int
def mRule (r:TRu):Int:=if mIn (r.1.length:Int) 1 3 then (if (r.1.all fun k=>mIn k 1 999)&&mIn r.2.1 1 (r.1.length:Int)&&mIn r.2.2 0 999 then (if mRising r.1 then 0 else 1) else 3) else 2
theorem P_impl_isHeight (n:Int):F_impl_isHeight n=some (mIn n 0 999):=by unfold F_impl_isHeight;rw[P_impl_within];rfl
theorem P_spec_l2Height (n:Int):F_spec_l2Height n=some (mIn n 0 999):=by unfold F_spec_l2Height;rw[P_spec_l1In];rfl
theorem P_impl_RuleFault (r:TRu) (hl:r.1.length<BIG):F_impl_RuleFault r=some (mRule r):=by
 unfold F_impl_RuleFault mRule
 simp only[P_impl_within,P_impl_areKeys _ hl,P_impl_isRising _ hl,P_impl_isHeight,Option.bind_some]
 cases mIn (r.1.length:Int) 1 3<;>cases (r.1.all fun k=>mIn k 1 999)<;>cases mIn r.2.1 1 (r.1.length:Int)<;>cases mIn r.2.2 0 999<;>cases mRising r.1<;>rfl
theorem P_spec_l2Fault (r:TRu) (hl:r.1.length<BIG):F_spec_l2Fault r=some (mRule r):=by
 unfold F_spec_l2Fault mRule
 simp only[P_spec_l1In,P_spec_l2Height,Option.bind_some]
 rw[keys_loop r.1 hl 3 _ (fun i h=>by
  simp only[dlt h,inB_nat r.1 i h,getD_toNat r.1 i _ h,cond_true,P_spec_l1Key,Option.bind_some,wsucc h hl]
  cases mIn r.1[i] 1 999<;>rfl) (by simp only[dge,cond_false]),Option.bind_some]
 cases mIn (r.1.length:Int) 1 3 with
 | false=>rfl
 | true=>
  cases (r.1.all fun k=>mIn k 1 999) with
  | false=>rfl
  | true=>
   simp only[Bool.not_true,cond_false,if_true,Sum.elim_inl]
   rw[loop_rising r.1 hl 1 _ (fun i h=>by
    obtain⟨h1,h2,h3,h4,h5,h6⟩:=rising_step r.1 hl i h
    simp only[h1,h2,h3,h4,h5,h6,cond_true]
    by_cases hc:List.getD r.1 (i+1) 0≤List.getD r.1 i 0
    ·rw[if_pos hc,decide_eq_true hc];rfl
    ·rw[if_neg hc,decide_eq_false hc];rfl) (fun n hn=>by simp only[dge' hn,cond_false]),Option.bind_some]
   cases mIn r.2.1 1 (r.1.length:Int)<;>cases mIn r.2.2 0 999<;>cases mRising r.1<;>rfl
def mOut (o:TOut):Int:=if mIn o.1 1 1000000 then mRule o.2 else 3
theorem P_spec_l4Out (o:TOut) (hl:o.2.1.length<BIG):F_spec_l4Out o=some (mOut o):=by
 unfold F_spec_l4Out mOut
 rw[P_spec_l1In,Option.bind_some,P_spec_l2Fault _ hl]
 cases mIn o.1 1 1000000<;>rfl
def mAhead (a b:Int×Int):Bool:=if a.1=b.1 then decide (a.2<b.2) else decide (a.1<b.1)
theorem P_spec_l4Ahead (a b:Int×Int):F_spec_l4Ahead a b=some (mAhead a b):=by
 unfold F_spec_l4Ahead mAhead
 by_cases h:a.1=b.1<;>simp[h]
def mCmp (a b:Int):Int:=if a<b then -1 else if b<a then 1 else 0
theorem P_cmp_Compare (a b:Int):F_cmp_Compare_int64 a b=some (mCmp a b):=by
 unfold F_cmp_Compare_int64 F_cmp_isNaN_int64 mCmp
 by_cases h1:a<b
 ·simp[h1]
 ·by_cases h2:b<a<;>simp[h1,h2]
theorem P_cmp_Or (a b:Int):F_cmp_Or_int [a,b]=some (if a=0 then b else a):=by
 unfold F_cmp_Or_int
 by_cases ha:a=0
 ·subst ha
  rw[loopO_next (s':=(1:Int)) rfl]
  by_cases hb:b=0
  ·subst hb
   rw[loopO_next (s':=(2:Int)) rfl,loopO_out (x:=Sum.inl ()) rfl];rfl
  ·rw[loopO_out (x:=Sum.inr b) (by
    show (bif !decide (b=0) then some (Sum.inr (Sum.inr b)) else _)=_
    rw[decide_eq_false hb];rfl)]
   rfl
 ·rw[loopO_out (x:=Sum.inr a) (by
   show (bif !decide (a=0) then some (Sum.inr (Sum.inr a)) else _)=_
   rw[decide_eq_false ha];rfl),if_neg ha]
  rfl
def mCmpR (a b:Int×Int):Int:=if mCmp a.1 b.1=0 then mCmp a.2 b.2 else mCmp a.1 b.1
theorem P_impl_compareRefs (a b:Int×Int):F_impl_compareRefs a b=some (mCmpR a b):=by
 unfold F_impl_compareRefs mCmpR
 rw[P_cmp_Compare,P_cmp_Compare,Option.bind_some,Option.bind_some,P_cmp_Or];rfl
theorem cmpR_ahead (a b:Int×Int):decide (0≤mCmpR a b) = !mAhead a b:=by
 unfold mCmpR mAhead mCmp
 by_cases h1:a.1<b.1
 ·have h3:¬a.1=b.1:=by omega
  simp[h1,h3]
 ·by_cases h2:b.1<a.1
  ·have h3:¬a.1=b.1:=by omega
   simp[h1,h2,h3]
  ·have h3:a.1=b.1:=by omega
   simp only[h1,h2,if_false,if_true,h3,Int.lt_irrefl]
   by_cases h4:a.2<b.2
   ·simp[h4]
   ·by_cases h5:b.2<a.2<;>simp[h4,h5]
def dC:TCoin:=((0,0),((0,([],(0,0))),(0,false)))
def mCoin (l:List TCoin) (i:Nat) (x:TCoin):Int:=if mRef x.1&&mIn x.2.2.1 0 999 then (if mOut x.2.1=0 then (if decide (0<i)&&!mAhead (List.getD l (i - 1) dC).1 x.1 then 1 else 0) else mOut x.2.1) else 3
def mCoins (l:List TCoin):Int:=if (40:Int)<(l.length:Int) then 2 else code (mCoin l) l
theorem prev_at (l:List TCoin) (hl:l.length<BIG) (i:Nat) (h:i<l.length) (h0:0<i):inB (IntKind.wrap .i64 ((i:Int) - 1)) l=true∧List.getD l (Int.toNat (IntKind.wrap .i64 ((i:Int) - 1))) dC=List.getD l (i - 1) dC:=by
 obtain⟨j,rfl⟩:∃j,i=j+1:=⟨i - 1,by omega⟩
 rw[wpred (i:=j) (n:=l.length) (by omega) hl]
 exact⟨inB_nat l j (by omega),by simp⟩
theorem P_spec_l4Fault (l:List TCoin) (hl:l.length<BIG) (hk:∀x,x ∈ l→x.2.1.2.1.length<BIG):F_spec_l4Fault l=some (mCoins l):=by
 unfold F_spec_l4Fault mCoins
 by_cases h40:(40:Int)<(l.length:Int)
 ·rw[decide_eq_true h40,if_pos h40];rfl
 ·rw[decide_eq_false h40,if_neg h40,cond_false]
  refine loop_code l (mCoin l) _ (fun i h=>?_) (by simp only[dge,cond_false])
  have hx:=hk _ (List.getElem_mem h)
  simp only[dlt h,inB_nat l i h,getD_toNat l i _ h,cond_true,wsucc h hl,P_spec_l3Ref,P_spec_l2Height,P_spec_l4Out _ hx,P_spec_l4Ahead,Option.bind_some]
  unfold mCoin
  cases h1:mRef l[i].1<;>cases h2:mIn l[i].2.2.1 0 999<;>try rfl
  simp only[Bool.not_true,cond_false,Option.bind_some,Bool.true_and,if_true]
  by_cases h3:mOut l[i].2.1=0
  ·rw[decide_eq_true h3]
   simp only[h3,Bool.not_true,cond_false,if_true]
   by_cases h4:0<i
   ·obtain⟨e1,e2⟩:=prev_at l hl i h h4
    rw[show decide ((0:Int)<(i:Int))=true by simpa using h4,decide_eq_true h4,cond_true,e1,cond_true]
    show (Option.bind (some (!mAhead (List.getD l (Int.toNat (IntKind.wrap .i64 ((i:Int) - 1))) dC).1 l[i].1)) _)=_
    rw[e2]
    cases mAhead (List.getD l (i - 1) dC).1 l[i].1<;>rfl
   ·rw[show decide ((0:Int)<(i:Int))=false by simpa using h4,decide_eq_false h4];rfl
  ·rw[decide_eq_false h3];simp[h3]
theorem P_impl_CoinsFault (l:List TCoin) (hl:l.length<BIG) (hk:∀x,x ∈ l→x.2.1.2.1.length<BIG):F_impl_CoinsFault l=some (mCoins l):=by
 unfold F_impl_CoinsFault mCoins
 by_cases h40:(40:Int)<(l.length:Int)
 ·rw[decide_eq_true h40,if_pos h40];rfl
 ·rw[decide_eq_false h40,if_neg h40,cond_false]
  refine loop_code l (mCoin l) _ (fun i h=>?_) (by simp only[dge,cond_false])
  have hx:=hk _ (List.getElem_mem h)
  simp only[dlt h,inB_nat l i h,getD_toNat l i _ h,cond_true,wsucc h hl,P_impl_isRef,P_impl_isHeight,P_impl_within,P_impl_RuleFault _ hx,P_impl_compareRefs,Option.bind_some]
  unfold mCoin mOut
  cases h1:mRef l[i].1<;>cases h2:mIn l[i].2.2.1 0 999<;>try rfl
  cases h5:mIn l[i].2.1.1 1 1000000<;>try rfl
  simp only[Bool.not_true,cond_false,Option.bind_some,Bool.true_and,if_true]
  by_cases h3:mRule l[i].2.1.2=0
  ·rw[decide_eq_true h3]
   simp only[h3,Bool.not_true,cond_false,if_true]
   by_cases h4:0<i
   ·obtain⟨e1,e2⟩:=prev_at l hl i h h4
    rw[show decide ((0:Int)<(i:Int))=true by simpa using h4,decide_eq_true h4,cond_true,e1,cond_true]
    show (Option.bind (some (decide (0≤mCmpR (List.getD l (Int.toNat (IntKind.wrap .i64 ((i:Int) - 1))) dC).1 l[i].1))) _)=_
    rw[e2,cmpR_ahead]
    cases mAhead (List.getD l (i - 1) dC).1 l[i].1<;>rfl
   ·rw[show decide ((0:Int)<(i:Int))=false by simpa using h4,decide_eq_false h4];rfl
  ·rw[decide_eq_false h3];simp[h3]
end DL
end Go.Dx
set_option maxHeartbeats 2000000
namespace Go.Dx
namespace DL
theorem lim_ok {α:Type} {n:Nat} {x:Option α} (h:n≤LIM):(bif decide (n≤LIM) then x else none)=x:=by rw[decide_eq_true h];rfl
theorem P_impl_dec {n:Int} (h0:0≤n) (h1:n≤9223372036854775807):F_impl_dec n=some (Lib.itoa n):=by
 unfold F_impl_dec F_strconv_FormatInt
 rw[fmtS_eq n (by omega) h1];rfl
theorem P_spec_l2Digits {n:Int} (h0:0≤n) (h1:n≤9223372036854775807):F_spec_l2Digits n=some (Lib.itoa n):=digS_eq h0 h1
theorem mIn_iff {v a b:Int}:mIn v a b=true↔a≤v∧v≤b:=by simp[mIn]
structure okR (r:TRu):Prop where
 len:1≤r.1.length∧r.1.length≤3
 keys:∀k,k ∈ r.1→1≤k∧k≤999
 need:1≤r.2.1∧r.2.1≤3
 after:0≤r.2.2∧r.2.2≤999
theorem okR_of {r:TRu} (h:mRule r=0):okR r:=by
 unfold mRule at h
 cases h1:mIn (r.1.length:Int) 1 3 with
 | false=>rw[h1] at h;simp at h
 | true=>
  rw[h1,if_pos rfl] at h
  cases h2:(r.1.all fun k=>mIn k 1 999) with
  | false=>rw[h2] at h;simp at h
  | true=>
   cases h3:mIn r.2.1 1 (r.1.length:Int) with
   | false=>rw[h3] at h;simp at h
   | true=>
    cases h4:mIn r.2.2 0 999 with
    | false=>rw[h4] at h;simp at h
    | true=>
     rw[mIn_iff] at h1 h3 h4
     rw[List.all_eq_true] at h2
     exact⟨by omega,fun k hk=>mIn_iff.1 (h2 k hk),by omega,h4⟩
theorem itoa_len19 {n:Int} (h0:0≤n) (h1:n≤1000000):(Lib.itoa n).length≤19:=itoa_len h0 (by omega)
def txtKeys (l:List Int) (sep:List UInt8):List UInt8:=Lib.join (l.map Lib.itoa) sep
theorem lens_le (l:List Int) (h:∀k,k ∈ l→0≤k∧k≤1000000):Lib.lens (l.map Lib.itoa)≤19 * l.length:=by
 induction l with
 | nil=>simp[Lib.lens]
 | cons a l ih=>
  have h1:=ih fun k hk=>h k (List.mem_cons_of_mem _ hk)
  have h2:=itoa_len19 (h a List.mem_cons_self).1 (h a List.mem_cons_self).2
  simp only[Lib.lens,List.map_cons,List.map_map,List.sum_cons,List.length_cons] at h1 ⊢
  omega
theorem txtKeys_len (l:List Int) (sep:List UInt8) (h:∀k,k ∈ l→0≤k∧k≤1000000):(txtKeys l sep).length≤(19+sep.length) * l.length:=by
 unfold txtKeys
 cases l with
 | nil=>simp[Lib.join_nil]
 | cons a l=>
  have:=lens_le (a::l) h
  rw[List.map_cons,Lib.join_length,List.length_map]
  rw[List.map_cons] at this
  have e:(19+sep.length) * (a::l).length=19 * (a::l).length+(sep.length * l.length+sep.length):=by
   rw[Nat.add_mul,List.length_cons,Nat.mul_succ sep.length]
  omega
theorem P_impl_joined (l:List Int) (sep:List UInt8) (hl:l.length≤100000) (hs:sep.length≤100) (h:∀k,k ∈ l→0≤k∧k≤1000000):F_impl_joined l sep=some (txtKeys l sep):=by
 unfold F_impl_joined
 rw[loop_fold (σ:=List (List UInt8)) l (fun acc a=>acc++[Lib.itoa a]) (fun t i=>(t,i)) (fun t=>t) (fun t i=>t.length=i) _ (fun i hi t ht=>by
   obtain⟨k0,k1⟩:=h _ (List.getElem_mem hi)
   refine⟨?_,by simp[ht]⟩
   simp only[dlt hi,inB_nat l i hi,getD_toNat l i _ hi,cond_true,P_impl_dec k0 (by omega),Option.bind_some,wsucc hi (by unfold BIG;omega)]
   rw[lim_ok (by simp only[List.length_cons,List.length_nil];unfold LIM;omega)];rfl) (fun t ht=>by simp only[dge,cond_false]) [] rfl,Option.bind_some,foldl_map,List.nil_append]
 have h1:=txtKeys_len l sep h
 have h2:(19+sep.length) * l.length≤119 * 100000:=Nat.mul_le_mul (by omega) hl
 unfold F_strings_Join
 rw[joinS_eq _ _ (by rw[List.length_map];omega) (by unfold txtKeys at h1;omega)];rfl
def txtRule (r:TRu) (b:List UInt8):List UInt8:=Lib.itoa r.2.1++b++[111,102]++b++txtKeys r.1 [44]++(if r.2.2=0 then [] else b++[97,102,116,101,114]++b++Lib.itoa r.2.2)
theorem txtRule_len {r:TRu} (h:okR r) (b:List UInt8) (hb:b.length≤1):(txtRule r b).length≤120:=by
 have h1:=txtKeys_len r.1 [44] fun k hk=>by have:=h.keys k hk;omega
 have h2:=itoa_len19 (n:=r.2.1) (by have:=h.need;omega) (by have:=h.need;omega)
 have h3:=itoa_len19 (n:=r.2.2) (by have:=h.after;omega) (by have:=h.after;omega)
 have h4:=h.len
 simp only[List.length_cons,List.length_nil] at h1
 unfold txtRule
 split<;>simp only[List.length_append,List.length_cons,List.length_nil]<;>omega
theorem P_impl_ruleText {r:TRu} (h:okR r) (b:List UInt8) (hb:b.length≤1):F_impl_ruleText r b=some (txtRule r b):=by
 have h1:=txtKeys_len r.1 [44] fun k hk=>by have:=h.keys k hk;omega
 have h2:=itoa_len19 (n:=r.2.1) (by have:=h.need;omega) (by have:=h.need;omega)
 have h3:=itoa_len19 (n:=r.2.2) (by have:=h.after;omega) (by have:=h.after;omega)
 have h4:=h.len
 simp only[List.length_cons,List.length_nil] at h1
 unfold F_impl_ruleText txtRule
 rw[P_impl_dec (n:=r.2.1) (by have:=h.need;omega) (by have:=h.need;omega),Option.bind_some,P_impl_joined r.1 [44] (by omega) (by simp) fun k hk=>by have:=h.keys k hk;omega]
 simp only[Option.bind_some,List.append_eq]
 rw[P_impl_dec (n:=r.2.2) (by have:=h.after;omega) (by have:=h.after;omega)]
 simp only[Option.bind_some]
 rw[lim_ok,lim_ok,lim_ok,lim_ok]
 ·by_cases ha:r.2.2=0
  ·rw[decide_eq_true ha,if_pos ha];simp
  ·rw[decide_eq_false ha,if_neg ha,Bool.not_false,cond_true,lim_ok,lim_ok,lim_ok,lim_ok]
   ·rfl
   all_goals ((try simp only[List.length_append,List.length_cons,List.length_nil]);unfold LIM;omega)
 all_goals ((try simp only[List.length_append,List.length_cons,List.length_nil]);unfold LIM;omega)
theorem loop_cat {α:Type} (l:List α) (g:α→List UInt8) (f:List UInt8×Int→Option ((List UInt8×Int)⊕List UInt8)) (B:Nat→Nat)
  (hs:∀(i:Nat) (h:i<l.length) (acc:List UInt8),acc.length≤B i→f (acc,(i:Int))=some (.inl (acc++g l[i],((i+1:Nat):Int)))∧(acc++g l[i]).length≤B (i+1))
  (he:∀acc,f (acc,(l.length:Int))=some (.inr acc)):∀(k i:Nat) (acc:List UInt8),i+k=l.length→acc.length≤B i→loopO f (acc,(i:Int))=some (acc++((l.drop i).map g).flatten)
 | 0,i,acc,hi,_=>by
  obtain rfl:i=l.length:=by omega
  rw[loopO_out (he acc)];simp
 | k+1,i,acc,hi,ha=>by
  have h1:i<l.length:=by omega
  obtain⟨hs1,hs2⟩:=hs i h1 acc ha
  rw[loopO_next hs1,loop_cat l g f B hs he k (i+1) _ (by omega) hs2,List.drop_eq_getElem_cons h1,List.map_cons,List.flatten_cons,List.append_assoc]
theorem P_spec_l2Text {r:TRu} (h:okR r):F_spec_l2Text r=some (txtRule r [32]):=by
 have h2:=itoa_len19 (n:=r.2.1) (by have:=h.need;omega) (by have:=h.need;omega)
 have h3:=itoa_len19 (n:=r.2.2) (by have:=h.after;omega) (by have:=h.after;omega)
 obtain⟨⟨k0,r1⟩,hr⟩:∃p:Int×List Int,r.1=p.1::p.2:=by
  have:=h.len
  match hq:r.1 with
  | []=>rw[hq] at this;simp at this
  | a::l=>exact⟨(a,l),rfl⟩
 have hr:r.1=k0::r1:=hr
 have hlen:=h.len
 have hk:=h.keys
 rw[hr] at hlen hk
 have hk0:=hk k0 List.mem_cons_self
 have h5:=itoa_len19 (n:=k0) (by omega) (by omega)
 unfold F_spec_l2Text txtRule
 rw[hr]
 rw[P_spec_l2Digits (n:=r.2.1) (by have:=h.need;omega) (by have:=h.need;omega),Option.bind_some]
 rw[show inB 0 (k0::r1)=true from inB_nat _ 0 (by simp),show List.getD (k0::r1) (Int.toNat 0) 0=k0 from rfl,cond_true,P_spec_l2Digits (n:=k0) (by omega) (by omega),Option.bind_some]
 simp only[List.append_eq]
 rw[lim_ok,lim_ok]
 ·have:=loop_cat (k0::r1) (fun k=>44::Lib.itoa k) (fun (s15:List UInt8×Int)=>
 bif (decide ((s15.2:Int)<(List.length (k0::r1):Int))) then
 bif decide (List.length s15.1+List.length [44]≤LIM) then
 bif (inB s15.2 (k0::r1)) then
 (F_spec_l2Digits (List.getD (k0::r1) (Int.toNat s15.2) 0)).bind fun (y16:List UInt8)=>
 bif decide (List.length (s15.1++[44])+List.length y16≤LIM) then
 some (Sum.inl (s15.1++[44]++y16,IntKind.wrap .i64 (s15.2+1)))
 else none
 else none
 else none
 else
 some (Sum.inr s15.1)) (fun i=>100+20 * i) (fun i hi acc ha=>by
    have hki:=hk _ (List.getElem_mem hi)
    have hli:=itoa_len19 (n:=(k0::r1)[i]) (by omega) (by omega)
    refine⟨?_,by simp only[List.length_append,List.length_cons];omega⟩
    have hi3:i<3:=by omega
    simp only[dlt hi,inB_nat _ i hi,getD_toNat _ i _ hi,cond_true,P_spec_l2Digits (n:=(k0::r1)[i]) (by omega) (by omega),Option.bind_some,wsucc hi (by unfold BIG;omega)]
    rw[lim_ok,lim_ok]
    ·simp
    all_goals ((try simp only[List.length_append,List.length_cons,List.length_nil]);unfold LIM;omega)) (fun acc=>by simp only[dge,cond_false]) r1.length 1 (Lib.itoa r.2.1++[32,111,102,32]++Lib.itoa k0) (by simp;omega) (by simp only[List.length_append,List.length_cons,List.length_nil];omega)
  rw[show ((1:Nat):Int)=1 from rfl] at this
  rw[this,Option.bind_some,List.drop_succ_cons,List.drop_zero]
  have e1:Lib.itoa r.2.1++[32,111,102,32]++Lib.itoa k0++(r1.map fun k=>44::Lib.itoa k).flatten=Lib.itoa r.2.1++[32]++[111,102]++[32]++txtKeys (k0::r1) [44]:=by
   unfold txtKeys
   rw[List.map_cons,Lib.join_cons,Lib.joinTail,List.map_map]
   simp[Function.comp_def]
  rw[e1]
  have h1:=txtKeys_len (k0::r1) [44] fun k hk'=>by have:=hk k hk';omega
  simp only[List.length_cons,List.length_nil] at h1 hlen
  by_cases ha:r.2.2=0
  ·rw[decide_eq_true ha,if_pos ha];simp
  ·rw[decide_eq_false ha,if_neg ha,Bool.not_false,cond_true,P_spec_l2Digits (n:=r.2.2) (by have:=h.after;omega) (by have:=h.after;omega),Option.bind_some,lim_ok,lim_ok]
   ·simp
   all_goals ((try simp only[List.length_append,List.length_cons,List.length_nil]);unfold LIM;omega)
 all_goals ((try simp only[List.length_append,List.length_cons,List.length_nil]);unfold LIM;omega)
end DL
end Go.Dx
set_option maxHeartbeats 2000000
namespace Go.Dx
namespace DL
theorem cat_bind {α:Type} (l:List α) (g:α→List UInt8) (f:List UInt8×Int→Option ((List UInt8×Int)⊕List UInt8)) (B:Nat→Nat)
  (hs:∀(i:Nat) (h:i<l.length) (acc:List UInt8),acc.length≤B i→f (acc,(i:Int))=some (.inl (acc++g l[i],((i+1:Nat):Int)))∧(acc++g l[i]).length≤B (i+1))
  (he:∀acc,f (acc,(l.length:Int))=some (.inr acc)):(loopO f ([],0)).bind (fun j=>some j)=some ((l.map g).flatten):=by
 have:=loop_cat l g f B hs he l.length 0 [] (by omega) (Nat.zero_le _)
 rw[show ((0:Nat):Int)=0 from rfl] at this
 rw[this];simp
structure okC (x:TCoin):Prop where
 tx:1≤x.1.1∧x.1.1≤60
 at_:0≤x.1.2∧x.1.2≤3
 val:1≤x.2.1.1∧x.2.1.1≤1000000
 rule:mRule x.2.1.2=0
 height:0≤x.2.2.1∧x.2.2.1≤999
theorem okC_of {l:List TCoin} (h:mCoins l=0):l.length≤40∧∀x,x ∈ l→okC x:=by
 unfold mCoins at h
 by_cases h40:(40:Int)<(l.length:Int)
 ·rw[if_pos h40] at h;cases h
 ·rw[if_neg h40] at h
  refine⟨by omega,fun x hx=>?_⟩
  obtain⟨i,hi,rfl⟩:=List.mem_iff_getElem.1 hx
  have hc:=code_zero h i l[i] (List.getElem?_eq_getElem hi)
  unfold mCoin at hc
  cases h1:mRef l[i].1 with
  | false=>rw[h1] at hc;simp at hc
  | true=>
   cases h2:mIn l[i].2.2.1 0 999 with
   | false=>rw[h2] at hc;simp at hc
   | true=>
    rw[h1,h2] at hc
    by_cases h3:mOut l[i].2.1=0
    ·unfold mRef at h1
     rw[Bool.and_eq_true,mIn_iff,mIn_iff] at h1
     unfold mOut at h3
     cases h4:mIn l[i].2.1.1 1 1000000 with
     | false=>rw[h4] at h3;simp at h3
     | true=>
      rw[h4,if_pos rfl] at h3
      exact⟨h1.1,h1.2,mIn_iff.1 h4,h3,mIn_iff.1 h2⟩
    ·simp[h3] at hc
def txtCoin (x:TCoin):List UInt8:=[99,111,105,110,32]++Lib.itoa x.1.1++[58]++Lib.itoa x.1.2++[32]++Lib.itoa x.2.1.1++[32]++txtRule x.2.1.2 [32]++[10]
theorem txtCoin_len {x:TCoin} (h:okC x):(txtCoin x).length≤260:=by
 have h1:=itoa_len19 (n:=x.1.1) (by have:=h.tx;omega) (by have:=h.tx;omega)
 have h2:=itoa_len19 (n:=x.1.2) (by have:=h.at_;omega) (by have:=h.at_;omega)
 have h3:=itoa_len19 (n:=x.2.1.1) (by have:=h.val;omega) (by have:=h.val;omega)
 have h4:=txtRule_len (okR_of h.rule) [32] (by simp)
 unfold txtCoin
 simp only[List.length_append,List.length_cons,List.length_nil];omega
def txtCoins (l:List TCoin):List UInt8:=(l.map txtCoin).flatten
theorem P_impl_coinsText (l:List TCoin) (hl:l.length≤40) (hk:∀x,x ∈ l→okC x):F_impl_coinsText l=some (txtCoins l):=by
 unfold F_impl_coinsText
 simp only[List.append_eq]
 refine cat_bind l txtCoin _ (fun i=>260 * i) (fun i hi acc ha=>?_) (fun acc=>by simp only[dge,cond_false])
 ·skip
  have hx:=hk _ (List.getElem_mem hi)
  have h0:=txtCoin_len hx
  have h1:=itoa_len19 (n:=l[i].1.1) (by have:=hx.tx;omega) (by have:=hx.tx;omega)
  have h2:=itoa_len19 (n:=l[i].1.2) (by have:=hx.at_;omega) (by have:=hx.at_;omega)
  have h3:=itoa_len19 (n:=l[i].2.1.1) (by have:=hx.val;omega) (by have:=hx.val;omega)
  have h4:=txtRule_len (okR_of hx.rule) [32] (by simp)
  refine⟨?_,by simp only[List.length_append];omega⟩
  simp only[dlt hi,inB_nat l i hi,getD_toNat l i _ hi,cond_true,wsucc hi (by unfold BIG;omega),P_impl_dec (n:=l[i].1.1) (by have:=hx.tx;omega) (by have:=hx.tx;omega),
   P_impl_dec (n:=l[i].1.2) (by have:=hx.at_;omega) (by have:=hx.at_;omega),P_impl_dec (n:=l[i].2.1.1) (by have:=hx.val;omega) (by have:=hx.val;omega),P_impl_ruleText (okR_of hx.rule) [32] (by simp),Option.bind_some]
  rw[lim_ok,lim_ok,lim_ok,lim_ok,lim_ok,lim_ok,lim_ok,lim_ok,lim_ok]
  ·rfl
  all_goals ((try simp only[List.length_append,List.length_cons,List.length_nil]);unfold LIM;omega)
theorem P_spec_l16Coins (l:List TCoin) (hl:l.length≤40) (hk:∀x,x ∈ l→okC x):F_spec_l16Coins l=some (txtCoins l):=by
 unfold F_spec_l16Coins
 simp only[List.append_eq]
 refine cat_bind l txtCoin _ (fun i=>260 * i) (fun i hi acc ha=>?_) (fun acc=>by simp only[dge,cond_false])
 ·skip
  have hx:=hk _ (List.getElem_mem hi)
  have h0:=txtCoin_len hx
  have h1:=itoa_len19 (n:=l[i].1.1) (by have:=hx.tx;omega) (by have:=hx.tx;omega)
  have h2:=itoa_len19 (n:=l[i].1.2) (by have:=hx.at_;omega) (by have:=hx.at_;omega)
  have h3:=itoa_len19 (n:=l[i].2.1.1) (by have:=hx.val;omega) (by have:=hx.val;omega)
  have h4:=txtRule_len (okR_of hx.rule) [32] (by simp)
  refine⟨?_,by simp only[List.length_append];omega⟩
  simp only[dlt hi,inB_nat l i hi,getD_toNat l i _ hi,cond_true,wsucc hi (by unfold BIG;omega),P_spec_l2Digits (n:=l[i].1.1) (by have:=hx.tx;omega) (by have:=hx.tx;omega),
   P_spec_l2Digits (n:=l[i].1.2) (by have:=hx.at_;omega) (by have:=hx.at_;omega),P_spec_l2Digits (n:=l[i].2.1.1) (by have:=hx.val;omega) (by have:=hx.val;omega),P_spec_l2Text (okR_of hx.rule),Option.bind_some]
  rw[lim_ok,lim_ok,lim_ok,lim_ok,lim_ok,lim_ok,lim_ok,lim_ok,lim_ok]
  ·simp only[txtCoin,List.append_assoc]
  all_goals ((try simp only[List.length_append,List.length_cons,List.length_nil]);unfold LIM;omega)
def mCoinsText (l:List TCoin):Int×List UInt8:=if mCoins l=0 then (0,txtCoins l) else (mCoins l,[])
theorem P_impl_CoinsText (l:List TCoin) (hl:l.length<BIG) (hk:∀x,x ∈ l→x.2.1.2.1.length<BIG):F_impl_CoinsText l=some (mCoinsText l):=by
 unfold F_impl_CoinsText mCoinsText
 rw[P_impl_CoinsFault l hl hk,Option.bind_some,bif_code]
 by_cases h:mCoins l=0
 ·rw[if_pos h,if_pos h,P_impl_coinsText l (okC_of h).1 (okC_of h).2];rfl
 ·rw[if_neg h,if_neg h]
theorem P_spec_CoinsText (l:List TCoin) (hl:l.length<BIG) (hk:∀x,x ∈ l→x.2.1.2.1.length<BIG):F_spec_CoinsText l=some (mCoinsText l):=by
 unfold F_spec_CoinsText mCoinsText
 rw[P_spec_l4Fault l hl hk,Option.bind_some,bif_code]
 by_cases h:mCoins l=0
 ·rw[if_pos h,if_pos h,P_spec_l16Coins l (okC_of h).1 (okC_of h).2];rfl
 ·rw[if_neg h,if_neg h]
theorem law_FnExactCoinsText (x:List TCoin) (hx:bL bCoin x):F_laws_FnExactCoinsText x=some true:=by
 unfold F_laws_FnExactCoinsText
 rw[P_laws_szCoinS x hx 1048576 (by omega) (by omega),Option.bind_some]
 cases hc:decide (szr (x.length+(x.map totCoin).sum) 1048576<0) with
 | true=>rfl
 | false=>
  have h1:0≤szr (x.length+(x.map totCoin).sum) 1048576:=by have:=of_decide_eq_false hc;omega
  have hl1:=szr_le h1
  have ht:totCoins x≤1048576:=by unfold totCoins;omega
  have hk:∀y,y ∈ x→y.2.1.2.1.length<BIG:=fun y hy=>by
   have:=le_sum totCoin x y hy
   show totCoin y<BIG
   unfold BIG;omega
  rw[cond_false,P_laws_toCoinS x ht,Option.bind_some,P_spec_CoinsText x (by unfold BIG;omega) hk,Option.bind_some,Option.bind_some,P_impl_CoinsText x (by unfold BIG;omega) hk,Option.bind_some]
  unfold F_laws_eqTextResult
  simp[P_laws_eqCoinS x x hx]
end DL
end Go.Dx
