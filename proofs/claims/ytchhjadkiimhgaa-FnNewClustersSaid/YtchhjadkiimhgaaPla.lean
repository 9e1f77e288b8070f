/- The plain law: no program in sight -/
import Derived.Test.YtchhjadkiimhgaaSca
set_option linter.unusedVariables false
set_option linter.unusedSimpArgs false
set_option maxHeartbeats 2000000
namespace Go.Dx
namespace CL
abbrev TN:=Int×Int×Int
abbrev TC:=(Int×Int)×Int
abbrev TR:=Int×Int×List TC
abbrev TV:=Int×Int×Int×(Int×Int)×Int
abbrev TQ:=List Int×Int
abbrev TK:=TQ×List Int×List TN×List TR×List TV×List (List Int)
def mIn (v lo hi:Int):Bool:=decide (lo≤v)&&decide (v≤hi)
theorem P_spec_l1In (v lo hi:Int):F_spec_l1In v lo hi=some (mIn v lo hi):=by
 unfold F_spec_l1In mIn
 cases decide (lo≤v)<;>rfl
theorem P_impl_within (v lo hi:Int):F_impl_within v lo hi=some (mIn v lo hi):=by
 unfold F_impl_within mIn
 cases decide (lo≤v)<;>rfl
theorem P_spec_l1Key (v:Int):F_spec_l1Key v=some (mIn v 1 999):=by unfold F_spec_l1Key;rw[P_spec_l1In];rfl
theorem P_impl_isKey (v:Int):F_impl_isKey v=some (mIn v 1 999):=by unfold F_impl_isKey;rw[P_impl_within];rfl
theorem P_impl_isId (v:Int):F_impl_isId v=some (mIn v 1 60):=by unfold F_impl_isId;rw[P_impl_within];rfl
def mRef (r:Int×Int):Bool:=mIn r.1 1 60&&mIn r.2 0 3
theorem P_impl_isRef (r:Int×Int):F_impl_isRef r=some (mRef r):=by
 unfold F_impl_isRef mRef;rw[P_impl_isId,P_impl_within];cases mIn r.1 1 60<;>rfl
theorem P_IndexFunc_int (l:List Int) (hl:l.length<BIG) (p:Int→Bool) (f:Int→Option Bool) (hf:∀a,a ∈ l→f a=some (p a)):F_slices_IndexFunc_Lint64_int64 l f=some (idxF p l):=by
 unfold F_slices_IndexFunc_Lint64_int64
 refine loop_idx l p _ (fun i h=>?_) (by simp only[dge,cond_false])
 simp only[dlt h,inB_nat l i h,getD_toNat l i _ h,cond_true,hf _ (List.getElem_mem h),Option.bind_some,wsucc h hl]
 cases p l[i]<;>rfl
theorem P_IndexFunc_node (l:List TN) (hl:l.length<BIG) (p:TN→Bool) (f:TN→Option Bool) (hf:∀a,a ∈ l→f a=some (p a)):F_slices_IndexFunc_Limpl_Node_impl_Node l f=some (idxF p l):=by
 unfold F_slices_IndexFunc_Limpl_Node_impl_Node
 refine loop_idx l p _ (fun i h=>?_) (by simp only[dge,cond_false])
 simp only[dlt h,inB_nat l i h,getD_toNat l i _ h,cond_true,hf _ (List.getElem_mem h),Option.bind_some,wsucc h hl]
 cases p l[i]<;>rfl
theorem P_IndexFunc_voter (l:List TR) (hl:l.length<BIG) (p:TR→Bool) (f:TR→Option Bool) (hf:∀a,a ∈ l→f a=some (p a)):F_slices_IndexFunc_Limpl_Voter_impl_Voter l f=some (idxF p l):=by
 unfold F_slices_IndexFunc_Limpl_Voter_impl_Voter
 refine loop_idx l p _ (fun i h=>?_) (by simp only[dge,cond_false])
 simp only[dlt h,inB_nat l i h,getD_toNat l i _ h,cond_true,hf _ (List.getElem_mem h),Option.bind_some,wsucc h hl]
 cases p l[i]<;>rfl
theorem P_IndexFunc_choice (l:List TC) (hl:l.length<BIG) (p:TC→Bool) (f:TC→Option Bool) (hf:∀a,a ∈ l→f a=some (p a)):F_slices_IndexFunc_Limpl_Choice_impl_Choice l f=some (idxF p l):=by
 unfold F_slices_IndexFunc_Limpl_Choice_impl_Choice
 refine loop_idx l p _ (fun i h=>?_) (by simp only[dge,cond_false])
 simp only[dlt h,inB_nat l i h,getD_toNat l i _ h,cond_true,hf _ (List.getElem_mem h),Option.bind_some,wsucc h hl]
 cases p l[i]<;>rfl
theorem P_ContainsFunc_int (l:List Int) (hl:l.length<BIG) (p:Int→Bool) (f:Int→Option Bool) (hf:∀a,a ∈ l→f a=some (p a)):F_slices_ContainsFunc_Lint64_int64 l f=some (l.any p):=by
 unfold F_slices_ContainsFunc_Lint64_int64
 rw[P_IndexFunc_int l hl p f hf,Option.bind_some,idxF_nonneg]
theorem P_ContainsFunc_choice (l:List TC) (hl:l.length<BIG) (p:TC→Bool) (f:TC→Option Bool) (hf:∀a,a ∈ l→f a=some (p a)):F_slices_ContainsFunc_Limpl_Choice_impl_Choice l f=some (l.any p):=by
 unfold F_slices_ContainsFunc_Limpl_Choice_impl_Choice
 rw[P_IndexFunc_choice l hl p f hf,Option.bind_some,idxF_nonneg]
theorem any_eq {α:Type} [DecidableEq α] (x:α) (l:List α):l.any (fun a=>decide (x=a))=decide (x ∈ l):=by
 rw[Bool.eq_iff_iff];simp
theorem any_eq' {α:Type} [DecidableEq α] (x:α) (l:List α):l.any (fun a=>decide (a=x))=decide (x ∈ l):=by
 rw[Bool.eq_iff_iff];simp
theorem P_Index_int (l:List Int) (hl:l.length<BIG) (x:Int):F_slices_Index_Lint64_int64 l x=some (idxF (fun a=>decide (x=a)) l):=by
 unfold F_slices_Index_Lint64_int64
 refine loop_idx l _ _ (fun i h=>?_) (by simp only[dge,cond_false])
 simp only[dlt h,inB_nat l i h,getD_toNat l i _ h,cond_true,wsucc h hl]
 cases decide (x=l[i])<;>rfl
theorem P_Contains_int (l:List Int) (hl:l.length<BIG) (x:Int):F_slices_Contains_Lint64_int64 l x=some (decide (x ∈ l)):=by
 unfold F_slices_Contains_Lint64_int64
 rw[P_Index_int l hl,Option.bind_some,idxF_nonneg,any_eq]
theorem beqV (a b:TV):Sh.beq (.prod (.int .i64) (.prod (.int .i64) (.prod (.int .i64) (.prod (.prod (.int .i64) (.int .i64)) (.int .i64))))) a b=decide (a=b):=by
 obtain⟨a1,a2,a3,⟨a4,a5⟩,a6⟩:=a;obtain⟨b1,b2,b3,⟨b4,b5⟩,b6⟩:=b
 rw[Bool.eq_iff_iff];simp[Sh.beq,and_assoc]
theorem beqC (a b:TC):Sh.beq (.prod (.prod (.int .i64) (.int .i64)) (.int .i64)) a b=decide (a=b):=by
 obtain⟨⟨a4,a5⟩,a6⟩:=a;obtain⟨⟨b4,b5⟩,b6⟩:=b
 rw[Bool.eq_iff_iff];simp[Sh.beq,and_assoc]
theorem P_Index_vote (l:List TV) (hl:l.length<BIG) (x:TV):F_slices_Index_Limpl_Vote_impl_Vote l x=some (idxF (fun a=>decide (x=a)) l):=by
 unfold F_slices_Index_Limpl_Vote_impl_Vote
 refine loop_idx l _ _ (fun i h=>?_) (by simp only[dge,cond_false])
 simp only[dlt h,inB_nat l i h,getD_toNat l i _ h,cond_true,wsucc h hl,beqV]
 cases decide (x=l[i])<;>rfl
theorem P_Contains_vote (l:List TV) (hl:l.length<BIG) (x:TV):F_slices_Contains_Limpl_Vote_impl_Vote l x=some (decide (x ∈ l)):=by
 unfold F_slices_Contains_Limpl_Vote_impl_Vote
 rw[P_Index_vote l hl,Option.bind_some,idxF_nonneg,any_eq]
 exact congrArg some (decide_eq_decide.2 Iff.rfl)
theorem P_Index_choice (l:List TC) (hl:l.length<BIG) (x:TC):F_slices_Index_Limpl_Choice_impl_Choice l x=some (idxF (fun a=>decide (x=a)) l):=by
 unfold F_slices_Index_Limpl_Choice_impl_Choice
 refine loop_idx l _ _ (fun i h=>?_) (by simp only[dge,cond_false])
 simp only[dlt h,inB_nat l i h,getD_toNat l i _ h,cond_true,wsucc h hl,beqC]
 cases decide (x=l[i])<;>rfl
theorem P_Contains_choice (l:List TC) (hl:l.length<BIG) (x:TC):F_slices_Contains_Limpl_Choice_impl_Choice l x=some (decide (x ∈ l)):=by
 unfold F_slices_Contains_Limpl_Choice_impl_Choice
 rw[P_Index_choice l hl,Option.bind_some,idxF_nonneg,any_eq]
 exact congrArg some (decide_eq_decide.2 Iff.rfl)
theorem agree_self {R:Type} (a:Option R):agree a a=a:=by unfold agree;simp
theorem P_Clone_int (l:List Int) (hl:l.length≤LIM):F_slices_Clone_Lint64_int64 l=some l:=by
 unfold F_slices_Clone_Lint64_int64
 cases l with
 | nil=>exact agree_self _
 | cons a l=>
  simp only[List.isEmpty_cons,cond_false]
  rw[show decide (List.length ([]:List Int)+List.length (a::l)≤LIM)=true by simpa using hl];rfl
theorem LIM_BIG {n:Nat} (h:n≤LIM):n<BIG:=by unfold LIM at h;unfold BIG;omega
theorem P_impl_areKeys (l:List Int) (hl:l.length<BIG):F_impl_areKeys l=some (l.all fun k=>mIn k 1 999):=by
 unfold F_impl_areKeys
 rw[P_ContainsFunc_int l hl (fun k=>!mIn k 1 999) _ (fun a _=>by unfold F_impl_areKeys_c1;rw[P_impl_isKey];rfl),Option.bind_some]
 rw[List.all_eq_not_any_not]
def mRising (l:List Int):Bool:=(List.range (l.length - 1)).all fun i=>decide (List.getD l i 0<List.getD l (i+1) 0)
theorem loop_rising {β:Type} (l:List Int) (hl:l.length<BIG) (r:β) (f:Int→Option (Int⊕(Unit⊕β)))
  (hs:∀(i:Nat),i+1<l.length→f ((i+1:Nat):Int)=some (if List.getD l (i+1) 0≤List.getD l i 0 then .inr (.inr r) else .inl ((i+2:Nat):Int))) (he:∀n:Nat,l.length≤n→f (n:Int)=some (.inr (.inl ()))) :
  loopO f 1=some (if mRising l then .inl () else .inr r):=by
 have key:∀(k i:Nat),i+k=l.length - 1→loopO f ((i+1:Nat):Int)=some (if (List.range' i k).all (fun i=>decide (List.getD l i 0<List.getD l (i+1) 0)) then .inl () else .inr r):=by
  intro k
  induction k with
  | zero=>intro i hi;rw[loopO_out (he _ (by omega))];simp
  | succ k ih=>
   intro i hi
   have hs:=hs i (by omega)
   rw[List.range'_succ,List.all_cons]
   by_cases hc:List.getD l (i+1) 0≤List.getD l i 0
   ·rw[if_pos hc] at hs
    rw[loopO_out hs,decide_eq_false (p:=List.getD l i 0<List.getD l (i+1) 0) (by omega)];rfl
   ·rw[if_neg hc] at hs
    rw[loopO_next hs,ih (i+1) (by omega),decide_eq_true (p:=List.getD l i 0<List.getD l (i+1) 0) (by omega),Bool.true_and]
 have:=key (l.length - 1) 0 (by omega)
 rw[←List.range_eq_range'] at this
 exact this
theorem rising_step (l:List Int) (hl:l.length<BIG) (i:Nat) (h:i+1<l.length):decide (((i+1:Nat):Int)<(l.length:Int))=true∧inB ((i+1:Nat):Int) l=true∧inB (IntKind.wrap .i64 (((i+1:Nat):Int) - 1)) l=true∧
  List.getD l (Int.toNat ((i+1:Nat):Int)) 0=List.getD l (i+1) 0∧List.getD l (Int.toNat (IntKind.wrap .i64 (((i+1:Nat):Int) - 1))) 0=List.getD l i 0∧IntKind.wrap .i64 (((i+1:Nat):Int)+1)=((i+2:Nat):Int):=by
 rw[wpred (i:=i) (n:=l.length) (by omega) hl]
 exact⟨dlt h,inB_nat l _ h,inB_nat l _ (by omega),by simp,by simp,wsucc h hl⟩
theorem dge' {i n:Nat} (h:n≤i):decide ((i:Int)<(n:Int))=false:=by simp;omega
theorem P_impl_isRising (l:List Int) (hl:l.length<BIG):F_impl_isRising l=some (mRising l):=by
 unfold F_impl_isRising
 rw[loop_rising l hl false _ (fun i h=>by
  obtain⟨h1,h2,h3,h4,h5,h6⟩:=rising_step l hl i h
  simp only[h1,h2,h3,h4,h5,h6,cond_true]
  by_cases hc:List.getD l (i+1) 0≤List.getD l i 0
  ·rw[if_pos hc,decide_eq_true hc];rfl
  ·rw[if_neg hc,decide_eq_false hc];rfl) (fun n hn=>by simp only[dge' hn,cond_false]),Option.bind_some]
 cases mRising l<;>rfl
def mQF (q:TQ):Int:=if mIn (q.1.length:Int) 1 8 then (if (q.1.all fun k=>mIn k 1 999)&&mIn q.2 1 (q.1.length:Int) then (if mRising q.1 then 0 else 1) else 3) else 2
theorem P_impl_QuorumFault (q:TQ) (hl:q.1.length<BIG):F_impl_QuorumFault q=some (mQF q):=by
 unfold F_impl_QuorumFault mQF
 simp only[P_impl_within,P_impl_areKeys _ hl,P_impl_isRising _ hl,Option.bind_some]
 cases mIn (q.1.length:Int) 1 8<;>cases (q.1.all fun k=>mIn k 1 999)<;>cases mIn q.2 1 (q.1.length:Int)<;>cases mRising q.1<;>rfl
theorem keys_loop {β:Type} (l:List Int) (hl:l.length<BIG) (r:β) (f:Int→Option (Int⊕(Unit⊕β)))
  (hs:∀(i:Nat) (h:i<l.length),f (i:Int)=some (if mIn l[i] 1 999 then .inl ((i+1:Nat):Int) else .inr (.inr r))) (he:f (l.length:Int)=some (.inr (.inl ()))) :
  loopO f 0=some (if (l.all fun k=>mIn k 1 999) then .inl () else .inr r):=by
 rw[loop_first l (fun _ a=>if !mIn a 1 999 then some r else none) f (fun i h=>by rw[hs i h];cases mIn l[i] 1 999<;>rfl) he,first_any,List.all_eq_not_any_not]
 cases l.any fun x=>!mIn x 1 999<;>rfl
theorem P_spec_l10Fault (q:TQ) (hl:q.1.length<BIG):F_spec_l10Fault q=some (mQF q):=by
 unfold F_spec_l10Fault mQF
 simp only[P_spec_l1In,Option.bind_some]
 rw[keys_loop q.1 hl 3 _ (fun i h=>by
  simp only[dlt h,inB_nat q.1 i h,getD_toNat q.1 i _ h,cond_true,P_spec_l1Key,Option.bind_some,wsucc h hl]
  cases mIn q.1[i] 1 999<;>rfl) (by simp only[dge,cond_false]),Option.bind_some]
 cases mIn (q.1.length:Int) 1 8 with
 | false=>rfl
 | true=>
  cases (q.1.all fun k=>mIn k 1 999) with
  | false=>rfl
  | true=>
   cases mIn q.2 1 (q.1.length:Int) with
   | false=>rfl
   | true=>
    simp only[Bool.not_true,cond_false,if_true,Sum.elim_inl,Bool.true_and]
    rw[loop_rising q.1 hl 1 _ (fun i h=>by
     obtain⟨h1,h2,h3,h4,h5,h6⟩:=rising_step q.1 hl i h
     simp only[h1,h2,h3,h4,h5,h6,cond_true]
     by_cases hc:List.getD q.1 (i+1) 0≤List.getD q.1 i 0
     ·rw[if_pos hc,decide_eq_true hc];rfl
     ·rw[if_neg hc,decide_eq_false hc];rfl) (fun n hn=>by simp only[dge' hn,cond_false]),Option.bind_some]
    cases mRising q.1<;>rfl
def mBF (l:List Int):Int:=if (l.all fun k=>mIn k 1 999) then (if mRising l then 0 else 1) else 3
theorem P_impl_badFault (l:List Int) (hl:l.length<BIG):F_impl_badFault l=some (mBF l):=by
 unfold F_impl_badFault mBF
 simp only[P_impl_areKeys _ hl,P_impl_isRising _ hl,Option.bind_some]
 cases (l.all fun k=>mIn k 1 999)<;>cases mRising l<;>rfl
theorem P_spec_l12Bad (l:List Int) (hl:l.length<BIG):F_spec_l12Bad l=some (mBF l):=by
 unfold F_spec_l12Bad mBF
 rw[keys_loop l hl 3 _ (fun i h=>by
  simp only[dlt h,inB_nat l i h,getD_toNat l i _ h,cond_true,P_spec_l1Key,Option.bind_some,wsucc h hl]
  cases mIn l[i] 1 999<;>rfl) (by simp only[dge,cond_false]),Option.bind_some]
 cases (l.all fun k=>mIn k 1 999) with
 | false=>rfl
 | true=>
  simp only[if_true,Sum.elim_inl]
  rw[loop_rising l hl 1 _ (fun i h=>by
   obtain⟨h1,h2,h3,h4,h5,h6⟩:=rising_step l hl i h
   simp only[h1,h2,h3,h4,h5,h6,cond_true]
   by_cases hc:List.getD l (i+1) 0≤List.getD l i 0
   ·rw[if_pos hc,decide_eq_true hc];rfl
   ·rw[if_neg hc,decide_eq_false hc];rfl) (fun n hn=>by simp only[dge' hn,cond_false]),Option.bind_some]
  cases mRising l<;>rfl
end CL
end Go.Dx
set_option maxHeartbeats 2000000
namespace Go.Dx
namespace CL
theorem getD_nat {α:Type} (l:List α) (i:Nat) (d:α) (h:i<l.length):List.getD l i d=l[i]:=by simp[List.getD_eq_getElem?_getD,List.getElem?_eq_getElem h]
theorem P_DeleteFunc_int (l:List Int) (hl:l.length<BIG) (p:Int→Bool) (f:Int→Option Bool) (hf:∀a,a ∈ l→f a=some (p a)):F_slices_DeleteFunc_Lint64_int64 l f=some (l.filter fun a=>!p a):=by
 unfold F_slices_DeleteFunc_Lint64_int64
 rw[P_IndexFunc_int l hl p f hf,Option.bind_some]
 cases hany:l.any p with
 | false=>
  have h1:idxF p l<0:=(idxF_neg p l).2 hany
  have h2:idxF p l = -1:=by
   rw[idxF_eq] at h1 ⊢
   cases hfi:List.findIdx? p l with
   | none=>rfl
   | some k=>rw[hfi] at h1;simp only at h1;omega
  rw[h2]
  simp only[decide_true,cond_true]
  congr 1
  symm
  rw[List.filter_eq_self]
  intro a ha
  rw[List.any_eq_false] at hany
  simpa using hany a ha
 | true=>
  obtain⟨k,hk,hidx,hpk,hlt⟩:=idxF_found hany
  rw[hidx]
  have hne:decide ((k:Int) = -1)=false:=decide_eq_false (by omega)
  rw[hne,cond_false,wsucc hk hl]
  have key:∀(n i j:Nat) (acc:List Int),j+n=l.length→acc.length=l.length→i<j→acc.take i=(l.take j).filter (fun a=>!p a)→acc.drop j=l.drop j→
    ∃(acc':List Int) (i':Nat),loopO (S:=List Int×Int×Int) (X:=List Int×Int) (fun (s15:List Int×Int×Int)=>
     bif (decide ((s15.2.2:Int)<(List.length s15.1:Int))) then
     bif (inB s15.2.2 s15.1) then
     (f (List.getD s15.1 (Int.toNat s15.2.2) 0)).bind fun (y16:Bool)=>
     (bif (!y16) then
     bif (inB s15.2.1 s15.1) then
     some (List.set s15.1 (Int.toNat s15.2.1) (List.getD s15.1 (Int.toNat s15.2.2) 0),IntKind.wrap .i64 (s15.2.1+1))
     else none
     else
     some (s15.1,s15.2.1):Option (List Int×Int)).bind fun (j17:List Int×Int)=>
     some (Sum.inl (j17.1,(j17.2,IntKind.wrap .i64 (s15.2.2+1))))
     else none
     else
     some (Sum.inr (s15.1,s15.2.1))) (acc,((i:Int),(j:Int)))=some (acc',(i':Int))∧acc'.length=l.length∧i'≤l.length∧acc'.take i'=l.filter (fun a=>!p a):=by
   intro n
   induction n with
   | zero=>
    intro i j acc hj hacc hij ht hd
    obtain rfl:j=l.length:=by omega
    refine⟨acc,i,loopO_out ?_,hacc,by omega,by rw[ht,List.take_length]⟩
    simp only[hacc,dge,cond_false]
   | succ n ih=>
    intro i j acc hj hacc hij ht hd
    have hjl:j<l.length:=by omega
    have hja:j<acc.length:=by omega
    have hel:acc[j]=l[j]:=by
     have h1:=List.drop_eq_getElem_cons hja
     have h2:=List.drop_eq_getElem_cons hjl
     rw[h1,h2] at hd
     exact (List.cons.inj hd).1
    have hdn:acc.drop (j+1)=l.drop (j+1):=by
     have h1:=List.drop_eq_getElem_cons hja
     have h2:=List.drop_eq_getElem_cons hjl
     rw[h1,h2] at hd
     exact (List.cons.inj hd).2
    have hstep:l.take (j+1)=l.take j++[l[j]]:=(List.take_append_getElem hjl).symm
    cases hp:p l[j] with
    | true=>
     obtain⟨acc',i',h1,h2⟩:=ih i (j+1) acc (by omega) hacc (by omega) (by rw[hstep,List.filter_append,ht];simp[hp]) hdn
     refine⟨acc',i',(loopO_next ?_).trans h1,h2⟩
     simp only[dlt hja,inB_nat acc j hja,getD_toNat acc j _ hja,cond_true,hel,hf _ (List.getElem_mem hjl),hp,Option.bind_some,Bool.not_true,cond_false,wsucc hjl hl]
    | false=>
     have hia:i<acc.length:=by omega
     obtain⟨acc',i',h1,h2⟩:=ih (i+1) (j+1) (acc.set i l[j]) (by omega) (by simpa using hacc) (by omega) (by
      rw[hstep,List.filter_append,←ht]
      simp only[List.filter_cons,hp,Bool.not_false,if_true,List.filter_nil]
      rw[List.take_set,←List.take_append_getElem hia,List.set_append_right _ _ (by simp;omega)]
      simp[Nat.min_eq_left (Nat.le_of_lt hia)]) (by rw[List.drop_set_of_lt (by omega)];exact hdn)
     refine⟨acc',i',(loopO_next ?_).trans h1,h2⟩
     simp only[dlt hja,inB_nat acc j hja,inB_nat acc i hia,Int.toNat_natCast,getD_nat acc j _ hja,cond_true,hel,hf _ (List.getElem_mem hjl),hp,Option.bind_some,Bool.not_false,wsucc hjl hl,wsucc (i:=i) (n:=l.length) (by omega) hl]
  obtain⟨acc',i',h1,h2,h3,h4⟩:=key (l.length - (k+1)) k (k+1) l (by omega) rfl (by omega) (by
   symm
   rw[←List.take_append_getElem hk,List.filter_append]
   simp only[List.filter_cons,hpk,Bool.not_true,Bool.false_eq_true,if_false,List.filter_nil,List.append_nil]
   rw[List.filter_eq_self]
   intro a ha
   obtain⟨j,hj,rfl⟩:=List.getElem_of_mem ha
   simp only[List.length_take] at hj
   rw[List.getElem_take]
   simpa using hlt j (by omega)) rfl
  rw[h1,Option.bind_some]
  have c1:cutOk (i':Int) (acc'.length:Int) acc'=true:=by simp[cutOk,h2];omega
  have c2:cutOk 0 (i':Int) (clr (s:=.int .i64) (i':Int) (acc'.length:Int) acc')=true:=by
   simp only[cutOk,Bool.and_eq_true,decide_eq_true_eq]
   refine⟨⟨by omega,by omega⟩,?_⟩
   show (i':Int)≤((List.take (Int.toNat i') acc'++(List.replicate (((acc'.length:Int) - i').toNat) (0:Int)++List.drop (Int.toNat (acc'.length:Int)) acc')).length:Int)
   simp;omega
  simp only[c1,c2,cond_true]
  congr 1
  show List.take (Int.toNat ((i':Int) - 0)) (List.drop (Int.toNat 0) (List.take (Int.toNat i') acc'++(List.replicate (((acc'.length:Int) - i').toNat) (0:Int)++List.drop (Int.toNat (acc'.length:Int)) acc')))=_
  simp only[Int.sub_zero,Int.toNat_natCast,show Int.toNat 0=0 from rfl,List.drop_zero]
  rw[List.take_append_of_le_length (by simp;omega),List.take_take,Nat.min_self,h4]
theorem P_spec_l4Among (l:List Int) (hl:l.length<BIG) (x:Int):F_spec_l4Among l x=some (decide (x ∈ l)):=by
 unfold F_spec_l4Among
 rw[←any_eq']
 refine loop_any l _ _ (fun i h=>?_) (by simp only[dge,cond_false])
 simp only[dlt h,inB_nat l i h,getD_toNat l i _ h,cond_true,wsucc h hl]
 cases decide (l[i]=x)<;>rfl
def mGood (q:TQ) (bad:List Int):List Int:=q.1.filter fun k=>!decide (k ∈ bad)
theorem P_impl_goodKeys (q:TQ) (bad:List Int) (hl:q.1.length≤LIM) (hb:bad.length<BIG):F_impl_goodKeys q bad=some (mGood q bad):=by
 unfold F_impl_goodKeys mGood
 rw[P_Clone_int _ hl,Option.bind_some,P_DeleteFunc_int q.1 (LIM_BIG hl) (fun k=>decide (k ∈ bad)) _ (fun a _=>by unfold F_impl_goodKeys_c1;rw[P_Contains_int bad hb];rfl)]
 rfl
theorem P_spec_l12Good (q:TQ) (bad:List Int) (hl:q.1.length<LIM) (hb:bad.length<BIG):F_spec_l12Good q bad=some (mGood q bad):=by
 unfold F_spec_l12Good mGood
 have hB:q.1.length<BIG:=LIM_BIG (Nat.le_of_lt hl)
 rw[loop_fold q.1 (fun acc k=>if !decide (k ∈ bad) then acc++[k] else acc) (fun t i=>(t,i)) (fun t=>t) (fun t i=>t.length≤i) _ (fun i h t ht=>?_) (fun t ht=>by simp only[dge,cond_false]) ([]:List Int) (by simp),foldl_filter]
 ·rfl
 ·have h1:=append_one_lim t q.1[i] i ht (by omega)
  simp only[dlt h,inB_nat q.1 i h,getD_toNat q.1 i _ h,cond_true,P_spec_l4Among bad hb,Option.bind_some,wsucc h hB,h1]
  cases decide (q.1[i] ∈ bad)
  ·exact⟨rfl,by simp;omega⟩
  ·exact⟨rfl,by simp;omega⟩
end CL
end Go.Dx
set_option maxHeartbeats 2000000
namespace Go.Dx
namespace CL
def idT (t:List TN) (id:Int):Int:=idxF (fun n=>decide (n.1=id)) t
theorem P_impl_findNode (t:List TN) (ht:t.length<BIG) (id:Int):F_impl_findNode t id=some (idT t id):=by
 unfold F_impl_findNode idT
 rw[P_IndexFunc_node t ht (fun n=>decide (n.1=id)) _ (fun a _=>by unfold F_impl_findNode_c1;rfl)]
 rfl
theorem idT_inB {t:List TN} {id:Int} (h:¬idT t id<0):inB (idT t id) t=true:=idxF_inB (by unfold idT at h;omega)
theorem nonneg_dec (x:Int):decide (0≤x) = !decide (x<0):=by
 by_cases h:x<0
 ·rw[decide_eq_true h,decide_eq_false (by omega)];rfl
 ·rw[decide_eq_false h,decide_eq_true (by omega)];rfl
def mNode (t:List TN) (n:TN):Int:=
 if mIn n.1 1 60&&mIn n.2.2 1 40 then
  if idT t n.1<0 then
   if n.2.1=0 then (if n.2.2=1 then 0 else 1)
   else if idT t n.2.1<0 then 4 else if n.2.2=IntKind.wrap .i64 ((List.getD t (Int.toNat (idT t n.2.1)) (0,(0,0))).2.2+1) then 0 else 1
  else 7
 else 3
theorem P_impl_nodeFault (t:List TN) (ht:t.length<BIG) (n:TN):F_impl_nodeFault t n=some (mNode t n):=by
 unfold F_impl_nodeFault mNode
 simp only[P_impl_findNode t ht,P_impl_isId,P_impl_within,Option.bind_some,nonneg_dec]
 by_cases hp:n.2.1=0
 ·simp only[hp,decide_true,Bool.not_true,cond_false,Option.bind_some,if_true]
  cases mIn n.1 1 60<;>cases mIn n.2.2 1 40<;>by_cases h1:idT t n.1<0<;>by_cases h2:n.2.2=1<;>simp[h1,h2]
 ·simp only[hp,decide_false,Bool.not_false,cond_true,Option.bind_some,if_false]
  by_cases hq:idT t n.2.1<0
  ·simp only[hq,decide_true,Bool.not_true,cond_false,Option.bind_some,if_true]
   cases mIn n.1 1 60<;>cases mIn n.2.2 1 40<;>by_cases h1:idT t n.1<0<;>simp[h1]
  ·simp only[hq,decide_false,Bool.not_false,cond_true,idT_inB hq,Option.bind_some,if_false]
   generalize IntKind.wrap .i64 ((List.getD t (Int.toNat (idT t n.2.1)) (0,(0,0))).2.2+1)=hh
   cases mIn n.1 1 60<;>cases mIn n.2.2 1 40<;>by_cases h1:idT t n.1<0<;>by_cases h2:n.2.2=hh<;>simp[h1,h2]
def mTree (t:List TN):Int:=if (60:Int)<(t.length:Int) then 2 else code (fun i n=>mNode (t.take i) n) t
theorem take_BIG {α:Type} {l:List α} (hl:l.length<BIG) (i:Nat):(l.take i).length<BIG:=by rw[List.length_take];omega
theorem P_impl_TreeFault (t:List TN) (ht:t.length<BIG):F_impl_TreeFault t=some (mTree t):=by
 unfold F_impl_TreeFault mTree
 by_cases hl:(60:Int)<(t.length:Int)
 ·simp only[hl,decide_true,cond_true,if_true]
 ·simp only[hl,decide_false,cond_false,if_false]
  refine loop_code t _ _ (fun i h=>?_) (by simp only[dge,cond_false])
  simp only[dlt h,inB_nat t i h,cutOk_nat t i (Nat.le_of_lt h),cut_nat,getD_toNat t i _ h,cond_true,P_impl_nodeFault _ (take_BIG ht i),Option.bind_some,wsucc h ht,bif_code]
  split<;>rfl
structure Right (t:List TN):Prop where
 len:t.length≤60
 id:∀i (h:i<t.length),1≤t[i].1
 prev:∀i (h:i<t.length),t[i].2.1 ≠ 0→∃j,∃(hj:j<i),(t[j]'(by omega)).1=t[i].2.1
theorem right_of {t:List TN} (h:mTree t=0):Right t:=by
 unfold mTree at h
 by_cases hl:(60:Int)<(t.length:Int)
 ·rw[if_pos hl] at h;cases h
 ·rw[if_neg hl] at h
  have hc:=code_zero h
  refine⟨by omega,fun i hi=>?_,fun i hi hp=>?_⟩
  ·have:=hc i _ (List.getElem?_eq_getElem hi)
   unfold mNode at this
   split at this
   ·rename_i hh
    simp only[Bool.and_eq_true,mIn,decide_eq_true_eq] at hh
    exact hh.1.1
   ·cases this
  ·have:=hc i _ (List.getElem?_eq_getElem hi)
   unfold mNode at this
   split at this
   ·split at this
    ·(try rw[if_neg hp] at this)
     split at this
     ·cases this
     ·rename_i hq
      unfold idT at hq
      have hany:(t.take i).any (fun n=>decide (n.1=t[i].2.1))=true:=by
       rw[←idxF_nonneg];simp;omega
      obtain⟨k,hk,_,hkk,_⟩:=idxF_found hany
      simp only[List.length_take] at hk
      rw[List.getElem_take] at hkk
      exact⟨k,by omega,by simpa using hkk⟩
    ·cases this
   ·cases this
def up (t:List TN):Nat→Int→List Int
 | 0,_=>[]
 | n+1,b=>if idT t b<0 then [] else b::up t n (List.getD t (Int.toNat (idT t b)) (0,(0,0))).2.1
theorem up_len (t:List TN):∀n b,(up t n b).length≤n
 | 0,b=>by simp[up]
 | n+1,b=>by
  unfold up
  split
  ·simp
  ·simp[up_len t n]
theorem idT_found {t:List TN} {b:Int} (h:¬idT t b<0):∃(k:Nat) (hk:k<t.length),idT t b=(k:Int)∧t[k].1=b∧∀j (hj:j<k),(t[j]'(by omega)).1 ≠ b:=by
 have hany:t.any (fun n=>decide (n.1=b))=true:=by
  rw[←idxF_nonneg];unfold idT at h;simp;omega
 obtain⟨k,hk,h1,h2,h3⟩:=idxF_found hany
 exact⟨k,hk,h1,by simpa using h2,fun j hj=>by simpa using h3 j hj⟩
theorem idT_le {t:List TN} {b:Int} {j:Nat} (hj:j<t.length) (h:t[j].1=b):¬idT t b<0∧idT t b≤(j:Int):=by
 have h1:¬idT t b<0:=by
  intro hh
  have:=(idxF_neg _ _).1 hh
  rw[List.any_eq_false] at this
  exact this _ (List.getElem_mem hj) (by simpa using h)
 refine⟨h1,?_⟩
 obtain⟨k,hk,h2,h3,h4⟩:=idT_found h1
 rw[h2]
 rcases Nat.lt_or_ge j k with hh | hh
 ·exact absurd h (h4 j hh)
 ·omega
def pos (t:List TN) (b:Int):Nat:=(idT t b+1).toNat
theorem Right.zero {t:List TN} (h:Right t):idT t 0<0:=by
 rcases Int.lt_or_le (idT t 0) 0 with hh | hh
 ·exact hh
 ·obtain⟨k,hk,_,h3,_⟩:=idT_found (t:=t) (b:=0) (by omega)
  have:=h.id k hk;omega
theorem Right.down {t:List TN} (h:Right t) {b:Int} (hb:¬idT t b<0):pos t (List.getD t (Int.toNat (idT t b)) (0,(0,0))).2.1<pos t b:=by
 obtain⟨k,hk,h1,h2,h3⟩:=idT_found hb
 rw[h1,Int.toNat_natCast,getD_nat t k _ hk]
 unfold pos
 rw[h1]
 by_cases hp:t[k].2.1=0
 ·rw[hp];have:=h.zero;omega
 ·obtain⟨j,hj,hjj⟩:=h.prev k hk hp
  obtain⟨_,h5⟩:=idT_le (t:=t) (j:=j) (by omega) hjj
  omega
theorem pos_le (t:List TN) (b:Int):pos t b≤t.length:=by
 unfold pos
 rcases Int.lt_or_le (idT t b) 0 with hh | hh
 ·have:=(idxF_ge _ _).1 hh;unfold idT;rw[this];simp
 ·obtain⟨k,hk,h1,_⟩:=idT_found (t:=t) (b:=b) (by omega)
  rw[h1];omega
def mAbove (t:List TN) (a b:Int):Bool:=decide (a ∈ up t t.length b)
theorem P_impl_pathTo (t:List TN) (hR:Right t) (b:Int):F_impl_pathTo t b=some (up t t.length b).reverse:=by
 have ht:t.length<BIG:=by have:=hR.len;unfold BIG;omega
 unfold F_impl_pathTo
 rw[P_impl_findNode t ht,Option.bind_some]
 generalize hf:(fun (s11:List Int×Int)=>_)=f
 have key:∀(n:Nat) (b:Int) (acc:List Int),pos t b≤n→acc.length+n≤60→loopO f (acc,idT t b)=some (acc++up t n b):=by
  intro n
  induction n with
  | zero=>
   intro b acc hb hl
   have hneg:idT t b<0:=by unfold pos at hb;omega
   rw[loopO_out (x:=acc) (by rw[←hf];simp[show ¬0≤idT t b by omega])];simp[up]
  | succ n ih=>
   intro b acc hb hl
   unfold up
   by_cases hneg:idT t b<0
   ·rw[if_pos hneg,loopO_out (x:=acc) (by rw[←hf];simp[show ¬0≤idT t b by omega])];simp
   ·rw[if_neg hneg]
    obtain⟨k,hk,h1,h2,h3⟩:=idT_found hneg
    have hid:(List.getD t (Int.toNat (idT t b)) (0,(0,0))).1=b:=by rw[h1,Int.toNat_natCast,getD_nat t k _ hk,h2]
    have hlim:decide (List.length acc+List.length [b]≤LIM)=true:=append_one_lim acc b 60 (by omega) (by decide)
    rw[loopO_next (s':=(acc++[b],idT t (List.getD t (Int.toNat (idT t b)) (0,(0,0))).2.1)) (by
     rw[←hf]
     simp only[show decide (0≤idT t b)=true by simp;omega,cond_true,idT_inB hneg,hid,hlim,P_impl_findNode t ht,Option.bind_some];rfl),ih _ _ (by have:=hR.down hneg;omega) (by simp;omega)]
    simp
 rw[key t.length b [] (pos_le t b) (by simpa using hR.len),Option.bind_some]
 unfold F_slices_Reverse_Lint64_int64
 have hl:=up_len t t.length b
 have:=hR.len
 rw[show Nat.ble (List.length ([]++up t t.length b)) 9223372036854775807=true from by rw[Nat.ble_eq];simp;omega]
 simp
theorem P_impl_isAbove (t:List TN) (hR:Right t) (a b:Int):F_impl_isAbove t a b=some (mAbove t a b):=by
 unfold F_impl_isAbove mAbove
 have hl:=up_len t t.length b
 have:=hR.len
 rw[P_impl_pathTo t hR,Option.bind_some,P_Contains_int _ (by rw[List.length_reverse];unfold BIG;omega)]
 simp
end CL
end Go.Dx
set_option maxHeartbeats 2000000
namespace Go.Dx
namespace CL
theorem cmp_loop {β γ:Type} [DecidableEq γ] (l r:List γ) (hl:l.length=r.length) (b:β) (f:Int→Option (Int⊕(Unit⊕β)))
  (hs:∀(i:Nat) (h:i<l.length) (h':i<r.length),f (i:Int)=some (if l[i]=r[i] then .inl ((i+1:Nat):Int) else .inr (.inr b))) (he:f (l.length:Int)=some (.inr (.inl ()))) :
  loopO f 0=some (if l=r then .inl () else .inr b):=by
 have key:∀(k i:Nat),i+k=l.length→loopO f (i:Int)=some (if l.drop i=r.drop i then .inl () else .inr b):=by
  intro k
  induction k with
  | zero=>
   intro i hi
   obtain rfl:i=l.length:=by omega
   rw[loopO_out he,List.drop_length,hl,List.drop_length,if_pos rfl]
  | succ k ih=>
   intro i hi
   have h1:i<l.length:=by omega
   have h2:i<r.length:=by omega
   have hs:=hs i h1 h2
   rw[List.drop_eq_getElem_cons h1,List.drop_eq_getElem_cons h2]
   by_cases he:l[i]=r[i]
   ·rw[if_pos he] at hs
    rw[loopO_next hs,ih (i+1) (by omega),he]
    by_cases hab:List.drop (i+1) l=List.drop (i+1) r
    ·rw[if_pos hab,if_pos (by rw[hab])]
    ·rw[if_neg hab,if_neg (fun h=>hab (List.cons.inj h).2)]
   ·rw[if_neg he] at hs
    rw[loopO_out hs,if_neg (fun h=>he (List.cons.inj h).1)]
 have:=key l.length 0 (by omega)
 simpa using this
def chAt (v:TR) (r:Int×Int):Int:=idxF (fun c=>decide (c.1=r)) v.2.2
def mChoice (l:List TC) (i:Nat) (c:TC):Int:=if mRef c.1&&mIn c.2 1 60 then (if (l.take i).any (fun y=>decide (y.1=c.1)) then 7 else 0) else 3
def mVoter (v:TR):Int:=if mIn v.1 1 999&&mIn v.2.1 0 60 then (if (40:Int)<(v.2.2.length:Int) then 2 else code (mChoice v.2.2) v.2.2) else 3
theorem P_impl_VoterFault (v:TR) (hv:v.2.2.length<BIG):F_impl_VoterFault v=some (mVoter v):=by
 unfold F_impl_VoterFault mVoter
 simp only[P_impl_isKey,P_impl_within,Option.bind_some]
 have hloop:∀f,(∀(i:Nat) (h:i<v.2.2.length),f (i:Int)=some (if mChoice v.2.2 i v.2.2[i]=0 then Sum.inl ((i+1:Nat):Int) else Sum.inr (Sum.inr (mChoice v.2.2 i v.2.2[i]))))→f (v.2.2.length:Int)=some (.inr (.inl ()))→
   ((loopO f 0).bind fun (j:Unit⊕Int)=>Sum.elim (fun _=>some 0) (fun j=>some j) j)=some (code (mChoice v.2.2) v.2.2):=fun f h1 h2=>loop_code _ _ f h1 h2
 rw[hloop _ (fun i h=>?_) (by simp only[dge,cond_false])]
 ·by_cases h40:(40:Int)<(v.2.2.length:Int)
  ·cases mIn v.1 1 999<;>cases mIn v.2.1 0 60<;>simp[h40]
  ·cases mIn v.1 1 999<;>cases mIn v.2.1 0 60<;>simp[h40]
 ·simp only[dlt h,inB_nat v.2.2 i h,getD_toNat v.2.2 i _ h,cutOk_nat v.2.2 i (Nat.le_of_lt h),cut_nat,cond_true,P_impl_isRef,P_impl_isId,Option.bind_some,wsucc h hv]
  rw[P_ContainsFunc_choice _ (take_BIG hv i) (fun y=>decide (y.1=v.2.2[i].1)) _ (fun a _=>by unfold F_impl_VoterFault_c1;rw[beqP2];rfl)]
  unfold mChoice
  cases mRef v.2.2[i].1<;>cases mIn v.2.2[i].2 1 60<;>cases (v.2.2.take i).any (fun y=>decide (y.1=v.2.2[i].1))<;>rfl
def mVoters (c:TK):Int:=if c.2.2.2.1.map (·.1)=mGood c.1 c.2.1 then code (fun _ v=>mVoter v) c.2.2.2.1 else 1
structure Small (c:TK):Prop where
 keys:c.1.1.length<LIM
 bad:c.2.1.length<LIM
 tree:c.2.2.1.length<LIM
 voters:c.2.2.2.1.length<LIM
 choices:∀v,v ∈ c.2.2.2.1→v.2.2.length<LIM
 votes:c.2.2.2.2.1.length<LIM
 heard:c.2.2.2.2.2.length<LIM
 heards:∀l,l ∈ c.2.2.2.2.2→l.length<LIM
theorem lB {n:Nat} (h:n<LIM):n<BIG:=LIM_BIG (Nat.le_of_lt h)
theorem P_impl_votersFault (c:TK) (hc:Small c):F_impl_Cluster_votersFault c=some (mVoters c):=by
 unfold F_impl_Cluster_votersFault mVoters
 rw[P_impl_goodKeys _ _ (Nat.le_of_lt hc.keys) (lB hc.bad),Option.bind_some]
 have heq:F_slices_EqualFunc_Limpl_Voter_Lint64_impl_Voter_int64 c.2.2.2.1 (mGood c.1 c.2.1) (fun (a14:TR) (a15:Int)=>(F_impl_Cluster_votersFault_c1 a14 a15).bind fun r16=>some r16)=some (decide (c.2.2.2.1.map (·.1)=mGood c.1 c.2.1)):=by
  unfold F_slices_EqualFunc_Limpl_Voter_Lint64_impl_Voter_int64
  by_cases hl:c.2.2.2.1.length=(mGood c.1 c.2.1).length
  ·rw[show decide ((c.2.2.2.1.length:Int)=((mGood c.1 c.2.1).length:Int))=true by simp[hl]]
   simp only[Bool.not_true,cond_false]
   rw[cmp_loop (c.2.2.2.1.map (·.1)) (mGood c.1 c.2.1) (by simpa using hl) false _ (fun i h h'=>by
    have h:i<c.2.2.2.1.length:=by simpa using h
    simp only[dlt h,inB_nat _ i h,inB_nat _ i h',getD_toNat _ i _ h,getD_toNat _ i _ h',cond_true,List.getElem_map,wsucc h (lB hc.voters)]
    unfold F_impl_Cluster_votersFault_c1
    simp only[Option.bind_some]
    by_cases hq:c.2.2.2.1[i].1=(mGood c.1 c.2.1)[i]<;>simp[hq]) (by simp only[List.length_map,dge,cond_false]),Option.bind_some]
   split
   ·rename_i h;rw[decide_eq_true h];rfl
   ·rename_i h;rw[decide_eq_false h];rfl
  ·rw[show decide ((c.2.2.2.1.length:Int)=((mGood c.1 c.2.1).length:Int))=false by simp;omega]
   rw[decide_eq_false (fun h=>hl (by rw[←h];simp))]
   rfl
 rw[heq,Option.bind_some]
 by_cases hq:c.2.2.2.1.map (·.1)=mGood c.1 c.2.1
 ·rw[decide_eq_true hq,if_pos hq]
  simp only[Bool.not_true,cond_false]
  refine loop_code c.2.2.2.1 _ _ (fun i h=>?_) (by simp only[dge,cond_false])
  simp only[dlt h,inB_nat _ i h,getD_toNat _ i _ h,cond_true,P_impl_VoterFault _ (lB (hc.choices _ (List.getElem_mem h))),Option.bind_some,wsucc h (lB hc.voters),bif_code]
  split<;>rfl
 ·rw[decide_eq_false hq,if_neg hq];rfl
def mVote (x:TV):Int:=
 if x.2.1=1 then (if x.2.2.2.1=(0,0) then (if x.2.2.2.2=0 then (if mIn x.1 1 999&&mIn x.2.2.1 1 60 then 0 else 3) else 1) else 1)
 else if x.2.1=2 then (if x.2.2.1=0 then (if mIn x.1 1 999&&(mRef x.2.2.2.1&&mIn x.2.2.2.2 1 60) then 0 else 3) else 1)
 else 1
theorem P_impl_VoteFault (x:TV):F_impl_VoteFault x=some (mVote x):=by
 unfold F_impl_VoteFault mVote
 simp only[P_impl_isId,P_impl_isKey,P_impl_isRef,Option.bind_some,beqP2]
 by_cases h1:x.2.1=1
 ·simp only[h1,decide_true,cond_true,if_true]
  by_cases h2:x.2.2.2.1=(0,0)<;>by_cases h3:x.2.2.2.2=0<;>cases mIn x.1 1 999<;>cases mIn x.2.2.1 1 60<;>simp[h2,h3]
 ·simp only[h1,decide_false,cond_false,if_false]
  by_cases h2:x.2.1=2
  ·simp only[h2,decide_true,cond_true,if_true]
   by_cases h3:x.2.2.1=0<;>cases mIn x.1 1 999<;>cases mRef x.2.2.2.1<;>cases mIn x.2.2.2.2 1 60<;>simp[h3]
  ·simp[h2]
def vAt (c:TK) (key:Int):Int:=idxF (fun v=>decide (v.1=key)) c.2.2.2.1
theorem P_impl_findVoter (c:TK) (hc:Small c) (key:Int):F_impl_Cluster_findVoter c key=some (vAt c key):=by
 unfold F_impl_Cluster_findVoter vAt
 rw[P_IndexFunc_voter _ (lB hc.voters) (fun v=>decide (v.1=key)) _ (fun a _=>by unfold F_impl_Cluster_findVoter_c1;rfl)]
 rfl
def vOf (c:TK) (key:Int):TR:=List.getD c.2.2.2.1 (Int.toNat (vAt c key)) (0,(0,[]))
def mStands (c:TK) (x:TV):Bool:=
 if vAt c x.1<0 then true
 else if x.2.1=1 then mAbove c.2.2.1 x.2.2.1 (vOf c x.1).2.1
 else !decide (chAt (vOf c x.1) x.2.2.2.1<0)&&decide ((List.getD (vOf c x.1).2.2 (Int.toNat (chAt (vOf c x.1) x.2.2.2.1)) ((0,0),0)).2=x.2.2.2.2)
theorem vOf_mem {c:TK} {key:Int} (h:¬vAt c key<0):vOf c key ∈ c.2.2.2.1∧inB (vAt c key) c.2.2.2.1=true:=by
 have hany:c.2.2.2.1.any (fun v=>decide (v.1=key))=true:=by
  rw[←idxF_nonneg];unfold vAt at h;simp;omega
 obtain⟨k,hk,h1,_⟩:=idxF_found hany
 unfold vOf vAt
 rw[h1,Int.toNat_natCast,getD_nat _ k _ hk]
 exact⟨List.getElem_mem hk,inB_nat _ k hk⟩
theorem P_impl_isVoted (c:TK) (hc:Small c) (hR:Right c.2.2.1) (x:TV) (hv:¬vAt c x.1<0) (hx:mVote x=0):F_impl_Cluster_isVoted c x=some (mStands c x):=by
 unfold F_impl_Cluster_isVoted mStands
 obtain⟨hm,hi⟩:=vOf_mem hv
 rw[P_impl_findVoter c hc,Option.bind_some,hi,cond_true,if_neg hv]
 rw[show List.getD c.2.2.2.1 (Int.toNat (vAt c x.1)) (0,(0,[]))=vOf c x.1 from rfl]
 by_cases h1:x.2.1=1
 ·rw[decide_eq_true h1,if_pos h1,cond_true,P_impl_isAbove _ hR];rfl
 ·rw[decide_eq_false h1,if_neg h1,cond_false]
  have hch:F_impl_Voter_chosen (vOf c x.1) x.2.2.2.1=some (if chAt (vOf c x.1) x.2.2.2.1<0 then 0 else (List.getD (vOf c x.1).2.2 (Int.toNat (chAt (vOf c x.1) x.2.2.2.1)) ((0,0),0)).2):=by
   unfold F_impl_Voter_chosen
   rw[P_IndexFunc_choice _ (lB (hc.choices _ hm)) (fun c=>decide (c.1=x.2.2.2.1)) _ (fun a _=>by unfold F_impl_Voter_chosen_c1;rw[beqP2];rfl),Option.bind_some]
   rw[show idxF (fun (c:TC)=>decide (c.1=x.2.2.2.1)) (vOf c x.1).2.2=chAt (vOf c x.1) x.2.2.2.1 from rfl]
   by_cases h2:chAt (vOf c x.1) x.2.2.2.1<0
   ·simp[h2]
   ·have hi2:inB (chAt (vOf c x.1) x.2.2.2.1) (vOf c x.1).2.2=true:=idxF_inB (by unfold chAt at h2;omega)
    simp[h2,hi2]
  rw[hch,Option.bind_some]
  have htx:x.2.2.2.2 ≠ 0:=by
   unfold mVote at hx
   rw[if_neg h1] at hx
   split at hx
   ·split at hx
    ·split at hx
     ·rename_i hh
      simp only[Bool.and_eq_true,mIn,decide_eq_true_eq] at hh
      omega
     ·cases hx
    ·cases hx
   ·cases hx
  by_cases h2:chAt (vOf c x.1) x.2.2.2.1<0
  ·simp[h2];omega
  ·simp[h2]
theorem mem_good {c:TK} {k:Int} (hv:c.2.2.2.1.map (·.1)=mGood c.1 c.2.1) (hk:k ∈ c.1.1):vAt c k<0↔k ∈ c.2.1:=by
 unfold vAt
 rw[idxF_neg,List.any_eq_false]
 have:(∀x,x ∈ c.2.2.2.1→¬decide (x.1=k)=true)↔k ∉ c.2.2.2.1.map (·.1):=by
  simp only[decide_eq_true_eq,List.mem_map,not_exists,not_and]
 rw[this,hv]
 unfold mGood
 simp[hk]
def mVotesC (c:TK) (i:Nat) (x:TV):Int:=if mVote x=0 then (if x.1 ∈ c.1.1 then (if x ∈ c.2.2.2.2.1.take i then 7 else if mStands c x then 0 else 6) else 4) else mVote x
def mVotes (c:TK):Int:=code (mVotesC c) c.2.2.2.2.1
theorem P_impl_votesFault (c:TK) (hc:Small c) (hR:Right c.2.2.1) (hv:c.2.2.2.1.map (·.1)=mGood c.1 c.2.1):F_impl_Cluster_votesFault c=some (mVotes c):=by
 unfold F_impl_Cluster_votesFault mVotes
 refine loop_code _ _ _ (fun i h=>?_) (by simp only[dge,cond_false])
 simp only[dlt h,inB_nat _ i h,getD_toNat _ i _ h,cutOk_nat _ i (Nat.le_of_lt h),cut_nat,cond_true,P_impl_VoteFault,P_Contains_int _ (lB hc.keys),P_Contains_int _ (lB hc.bad),P_Contains_vote _ (take_BIG (lB hc.votes) i),Option.bind_some,wsucc h (lB hc.votes),bif_code]
 generalize hx:c.2.2.2.2.1[i]=x
 unfold mVotesC
 by_cases h1:mVote x=0
 ·simp only[h1,if_true]
  by_cases h2:x.1 ∈ c.1.1
  ·by_cases h3:x ∈ c.2.2.2.2.1.take i
   ·simp[h2,h3]
   ·have hg:=mem_good hv h2
    by_cases h4:x.1 ∈ c.2.1
    ·have:mStands c x=true:=by unfold mStands;rw[if_pos (hg.2 h4)]
     simp[h2,h3,h4,this]
    ·have hnv:¬vAt c x.1<0:=fun hh=>h4 (hg.1 hh)
     rw[P_impl_isVoted c hc hR x hnv h1]
     cases hs:mStands c x<;>simp[h2,h3,h4]
  ·simp[h2]
 ·simp[h1]
def mHeardL (n:Int) (l:List Int):Int:=if l.any (fun a=>!mIn a 0 n) then 3 else code (fun i a=>if a ∈ l.take i then 7 else 0) l
def mHeard (c:TK):Int:=code (fun _ l=>mHeardL (IntKind.wrap .i64 ((c.2.2.2.2.1.length:Int) - 1)) l) c.2.2.2.2.2
theorem loop_codeK {α R:Type} (l:List α) (c:Nat→α→Int) (f:Int→Option (Int⊕(Unit⊕Int)))
  (hs:∀(i:Nat) (h:i<l.length),f (i:Int)=some (if c i l[i]=0 then .inl ((i+1:Nat):Int) else .inr (.inr (c i l[i])))) (he:f (l.length:Int)=some (.inr (.inl ()))) (A:Unit→Option R) (B:Int→Option R) :
  ((loopO f 0).bind fun j=>Sum.elim A B j)=if code c l=0 then A () else B (code c l):=by
 rw[loop_first l (fun i a=>if c i a=0 then none else some (c i a)) f (fun i h=>by rw[hs i h];by_cases hc:c i l[i]=0<;>simp[hc]) he,bind_first]
 by_cases h0:code c l=0
 ·rw[if_pos h0]
  have hz:=code_zero h0
  have:first (fun i a=>if c i a=0 then none else some (c i a)) 0 l=none:=(first_none l 0).2 (fun j a ha=>by rw[Nat.zero_add,if_pos (hz j a ha)])
  rw[this]
 ·rw[if_neg h0]
  unfold code at h0 ⊢
  cases hf:first (fun i a=>if c i a=0 then none else some (c i a)) 0 l with
  | none=>rw[hf] at h0;exact absurd rfl h0
  | some r=>rfl
theorem P_impl_heardFault (c:TK) (hc:Small c):F_impl_Cluster_heardFault c=some (mHeard c):=by
 unfold F_impl_Cluster_heardFault mHeard
 refine loop_code _ _ _ (fun i h=>?_) (by simp only[dge,cond_false])
 simp only[dlt h,inB_nat _ i h,getD_toNat _ i _ h,cond_true]
 have hl:=lB (hc.heards _ (List.getElem_mem h))
 generalize c.2.2.2.2.2[i]=l at hl ⊢
 rw[P_ContainsFunc_int l hl (fun a=>!mIn a 0 (IntKind.wrap .i64 ((c.2.2.2.2.1.length:Int) - 1))) _ (fun a _=>by unfold F_impl_Cluster_heardFault_c1;rw[P_impl_within];rfl),Option.bind_some]
 unfold mHeardL
 cases l.any (fun a=>!mIn a 0 (IntKind.wrap .i64 ((c.2.2.2.2.1.length:Int) - 1))) with
 | true=>rfl
 | false=>
  simp only[cond_false,Bool.false_eq_true,if_false]
  rw[loop_codeK l (fun i a=>if a ∈ l.take i then 7 else 0) _ (fun j hj=>by
   simp only[dlt hj,inB_nat _ j hj,getD_toNat _ j _ hj,cutOk_nat _ j (Nat.le_of_lt hj),cut_nat,cond_true,P_Contains_int _ (take_BIG hl j),Option.bind_some,wsucc hj hl]
   by_cases hm:l[j] ∈ l.take j<;>simp[hm]) (by simp only[dge,cond_false]),wsucc h (lB hc.heard)]
  split<;>rfl
def mMany (c:TK):Bool:=decide ((20:Int)<(c.2.1.length:Int)) || decide ((100:Int)<(c.2.2.2.2.1.length:Int)) || !mIn (c.2.2.2.2.2.length:Int) 1 4
def mCF (c:TK):Int:=
 if mQF c.1=0 then if mMany c then 2 else if mBF c.2.1=0 then if mTree c.2.2.1=0 then if mVoters c=0 then if mVotes c=0 then mHeard c else mVotes c else mVoters c else mTree c.2.2.1 else mBF c.2.1 else mQF c.1
theorem voters_good {c:TK} (h:mVoters c=0):c.2.2.2.1.map (·.1)=mGood c.1 c.2.1:=by
 unfold mVoters at h
 split at h
 ·assumption
 ·cases h
theorem P_impl_ClusterFault (c:TK) (hc:Small c):F_impl_ClusterFault c=some (mCF c):=by
 unfold F_impl_ClusterFault mCF
 simp only[P_impl_QuorumFault _ (lB hc.keys),P_impl_within,P_impl_badFault _ (lB hc.bad),P_impl_TreeFault _ (lB hc.tree),P_impl_votersFault c hc,P_impl_heardFault c hc,Option.bind_some,bif_code]
 split
 ·have hm:((bif decide ((20:Int)<(c.2.1.length:Int)) then some true else bif decide ((100:Int)<(c.2.2.2.2.1.length:Int)) then some true else some (!mIn (c.2.2.2.2.2.length:Int) 1 4)):Option Bool)=some (mMany c):=by
   unfold mMany
   cases decide ((20:Int)<(c.2.1.length:Int))<;>cases decide ((100:Int)<(c.2.2.2.2.1.length:Int))<;>rfl
  rw[hm,Option.bind_some]
  cases mMany c with
  | true=>rfl
  | false=>
   simp only[cond_false,Bool.false_eq_true,if_false]
   split
   ·split
    ·rename_i ht
     split
     ·rename_i hv
      rw[P_impl_votesFault c hc (right_of ht) (voters_good hv),Option.bind_some]
      split<;>rfl
     ·rfl
    ·rfl
   ·rfl
 ·rfl
end CL
end Go.Dx
set_option maxHeartbeats 2000000
namespace Go.Dx
namespace CL
set_option synthInstance.maxSize 1000
set_option synthInstance.maxHeartbeats 400000
end CL
end Go.Dx
set_option maxHeartbeats 2000000
namespace Go.Dx
namespace CL
def mCount (votes:List TV) (q:TQ) (x:TV):Int:=((q.1.countP fun k=>decide ((k,x.2) ∈ votes):Nat):Int)
theorem fold_count (votes:List TV):∀(l:List Int) (t:Int×TV),(l.foldl (fun (t:Int×TV) k=>(if decide ((k,t.2.2) ∈ votes) then t.1+1 else t.1,(k,t.2.2))) t).1=t.1+((l.countP fun k=>decide ((k,t.2.2) ∈ votes):Nat):Int)
 | [],t=>by simp
 | a::l,t=>by
  rw[List.foldl_cons,fold_count votes l]
  simp only[List.countP_cons]
  cases h:decide ((a,t.2.2) ∈ votes)
  ·simp
  ·simp;omega
theorem fold_count1 (votes:List TV) (l:List Int) (x:TV):(l.foldl (fun (t:Int×TV) k=>(if decide ((k,t.2.2) ∈ votes) then t.1+1 else t.1,(k,t.2.2))) (0,x)).1=((l.countP fun k=>decide ((k,x.2) ∈ votes):Nat):Int):=by
 rw[fold_count];simp
theorem P_impl_countFor (votes:List TV) (q:TQ) (x:TV) (hv:votes.length<BIG) (hq:q.1.length<BIG):F_impl_countFor votes q x=some (mCount votes q x):=by
 unfold F_impl_countFor mCount
 have hbig:(BIG:Int)=4611686018427387904:=rfl
 rw[loop_fold q.1 (fun (t:Int×TV) k=>(if decide ((k,t.2.2) ∈ votes) then t.1+1 else t.1,(k,t.2.2))) (fun t i=>(t.1,i,t.2)) (fun t=>t.1) (fun t i=>0≤t.1∧t.1≤(i:Int)) _ (fun i h t ht=>?_) (fun t ht=>by simp only[dge,cond_false]) (0,x) (by simp),Option.bind_some,fold_count1]
 have w:IntKind.wrap .i64 (t.1+1)=t.1+1:=wrap_id (by omega) (by omega)
 simp only[dlt h,inB_nat _ i h,getD_toNat _ i _ h,cond_true,P_Contains_vote votes hv,Option.bind_some,wsucc h hq,w]
 cases hd:decide ((q.1[i],t.2.2) ∈ votes)
 ·exact⟨by simp,by simp;omega⟩
 ·exact⟨by simp,by simp;omega⟩
def nodeVote (n:TN):TV:=(0,1,n.1,(0,0),0)
def mLocks (c:TK) (votes:List TV):List Int:=(c.2.2.1.filter fun n=>decide (c.1.2≤mCount votes c.1 (nodeVote n))).map (·.1)
theorem P_impl_lockedBy (c:TK) (hc:Small c) (votes:List TV) (hv:votes.length<BIG):F_impl_Cluster_lockedBy c votes=some (mLocks c votes):=by
 unfold F_impl_Cluster_lockedBy mLocks
 rw[loop_fold c.2.2.1 (fun acc n=>if decide (c.1.2≤mCount votes c.1 (nodeVote n)) then acc++[n.1] else acc) (fun t i=>(t,i)) (fun t=>t) (fun t i=>t.length≤i) _ (fun i h t ht=>?_) (fun t ht=>by simp only[dge,cond_false]) ([]:List Int) (by simp),foldl_filterMap]
 ·rfl
 ·have h1:=append_one_lim t c.2.2.1[i].1 i ht (Nat.lt_trans h hc.tree)
  simp only[dlt h,inB_nat _ i h,getD_toNat _ i _ h,cond_true,P_impl_countFor _ _ _ hv (lB hc.keys),Option.bind_some,wsucc h (lB hc.tree),h1]
  rw[show ((0,1,c.2.2.1[i].1,(0,0),0):TV)=nodeVote c.2.2.1[i] from rfl]
  cases decide (c.1.2≤mCount votes c.1 (nodeVote c.2.2.1[i]))
  ·exact⟨rfl,by simp;omega⟩
  ·exact⟨rfl,by simp;omega⟩
def mLB (c:TK):Int×List Int:=if mCF c=0 then (0,mLocks c c.2.2.2.2.1) else (mCF c,[])
theorem P_impl_LockedBlocks (c:TK) (hc:Small c):F_impl_LockedBlocks c=some (mLB c):=by
 unfold F_impl_LockedBlocks mLB
 simp only[P_impl_ClusterFault c hc,P_impl_lockedBy c hc _ (lB hc.votes),Option.bind_some,bif_code]
 split<;>rfl
end CL
end Go.Dx
set_option maxHeartbeats 2000000
namespace Go.Dx
namespace CL
def c1:Int→Nat:=fun _=>1
end CL
end Go.Dx
set_option maxHeartbeats 2000000
namespace Go.Dx
namespace CL
end CL
end Go.Dx
set_option maxHeartbeats 2000000
namespace Go.Dx
namespace CL
end CL
end Go.Dx
set_option maxHeartbeats 2000000
namespace Go.Dx
namespace CL
def ownC (x:TV):TC:=(x.2.2.2.1,x.2.2.2.2)
def lockP (c:TK) (x:TV):Bool:=decide (x.2.1=2)&&decide (c.1.2≤mCount c.2.2.2.2.1 c.1 x)
def coinStep (c:TK) (acc:List TC) (x:TV):List TC:=if lockP c x&&!decide (ownC x ∈ acc) then acc++[ownC x] else acc
def mCoins (c:TK):List TC:=c.2.2.2.2.1.foldl (coinStep c) []
theorem coinStep_len (c:TK) (acc:List TC) (x:TV) (i:Nat) (h:acc.length≤i):(coinStep c acc x).length≤i+1:=by
 unfold coinStep;split
 ·simp;omega
 ·omega
def mLC (c:TK):Int×List TC:=if mCF c=0 then (0,mCoins c) else (mCF c,[])
theorem P_impl_LockedCoins (c:TK) (hc:Small c):F_impl_LockedCoins c=some (mLC c):=by
 unfold F_impl_LockedCoins mLC
 simp only[P_impl_ClusterFault c hc,Option.bind_some,bif_code]
 split
 ·rw[loop_fold c.2.2.2.2.1 (coinStep c) (fun t i=>(t,i)) (fun t=>t) (fun t i=>t.length≤i) _ (fun i h t ht=>?_) (fun t ht=>by simp only[dge,cond_false]) ([]:List TC) (by simp)]
  ·rfl
  ·have h1:=append_one_lim t (ownC c.2.2.2.2.1[i]) i ht (Nat.lt_trans h hc.votes)
   refine⟨?_,coinStep_len c t _ i ht⟩
   have hlim:=hc.votes
   have hL:LIM=1073741824:=rfl
   simp only[dlt h,inB_nat _ i h,getD_toNat _ i _ h,cond_true,wsucc h (lB hc.votes),P_Contains_choice t (by unfold BIG;omega),P_impl_countFor _ _ _ (lB hc.votes) (lB hc.keys),Option.bind_some]
   rw[show ((c.2.2.2.2.1[i].2.2.2.1,c.2.2.2.2.1[i].2.2.2.2):TC)=ownC c.2.2.2.2.1[i] from rfl]
   simp only[h1,cond_true]
   unfold coinStep lockP
   cases decide (c.2.2.2.2.1[i].2.1=2)<;>cases decide (ownC c.2.2.2.2.1[i] ∈ t)<;>cases decide (c.1.2≤mCount c.2.2.2.2.1 c.1 c.2.2.2.2.1[i])<;>rfl
 ·rfl
end CL
end Go.Dx
set_option maxHeartbeats 2000000
namespace Go.Dx
namespace CL
def noK:TK:=(([],0),[],[],[],[],[])
def errK (k:Int):Int×TK:=(k,noK)
theorem P_spec_l12Err (k:Int):F_spec_l12Err k=some (errK k):=rfl
end CL
end Go.Dx
set_option maxHeartbeats 2000000
namespace Go.Dx
namespace CL
theorem voter_40 {v:TR} (h:mVoter v=0):v.2.2.length≤40:=by
 unfold mVoter at h
 split at h
 ·split at h
  ·cases h
  ·omega
 ·cases h
end CL
end Go.Dx
set_option maxHeartbeats 2000000
namespace Go.Dx
namespace CL
end CL
end Go.Dx
set_option maxHeartbeats 2000000
namespace Go.Dx
namespace CL
end CL
end Go.Dx
set_option maxHeartbeats 2000000
namespace Go.Dx
namespace CL
theorem quorum_num {c:TK} (h:mQF c.1=0):1≤c.1.2∧c.1.2≤(c.1.1.length:Int)∧c.1.1.length≤8:=by
 unfold mQF at h
 split at h
 ·rename_i h1
  split at h
  ·rename_i h2
   simp only[mIn,Bool.and_eq_true,decide_eq_true_eq] at h1 h2
   exact⟨h2.2.1,h2.2.2,by omega⟩
  ·cases h
 ·cases h
end CL
end Go.Dx
set_option maxHeartbeats 2000000
namespace Go.Dx
namespace CL
end CL
end Go.Dx
set_option maxHeartbeats 2000000
namespace Go.Dx
namespace CL
theorem code_of {α:Type} {c:Nat→α→Int} {l:List α} (h:∀i a,l[i]? = some a→c i a=0):code c l=0:=by
 unfold code
 rw[(first_none l 0).2 (fun i a ha=>by rw[Nat.zero_add,if_pos (h i a ha)])]
theorem nodup_take {α:Type} (l:List α):(∀i a,l[i]? = some a→a ∉ l.take i)↔l.Nodup:=by
 unfold List.Nodup
 rw[List.pairwise_iff_getElem]
 constructor
 ·intro h i j hi hj hij he
  refine h j _ (List.getElem?_eq_getElem hj) ?_
  rw[List.mem_take_iff_getElem]
  exact⟨i,by omega,he⟩
 ·intro h i a ha hm
  obtain⟨hi,rfl⟩:=List.getElem?_eq_some_iff.1 ha
  rw[List.mem_take_iff_getElem] at hm
  obtain⟨k,hk,hke⟩:=hm
  exact h k i (by omega) hi (by omega) hke
structure RC (c:TK):Prop where
 q:mQF c.1=0
 many:mMany c=false
 bad:mBF c.2.1=0
 tree:mTree c.2.2.1=0
 keys:c.2.2.2.1.map (·.1)=mGood c.1 c.2.1
 voter:∀v,v ∈ c.2.2.2.1→mVoter v=0
 vote:∀x,x ∈ c.2.2.2.2.1→mVote x=0∧x.1 ∈ c.1.1∧mStands c x=true
 nodup:c.2.2.2.2.1.Nodup
 heard:∀l,l ∈ c.2.2.2.2.2→(∀a,a ∈ l→0≤a∧a<(c.2.2.2.2.1.length:Int))∧l.Nodup
theorem many_nums {c:TK} (h:mMany c=false):c.2.1.length≤20∧c.2.2.2.2.1.length≤100∧1≤c.2.2.2.2.2.length∧c.2.2.2.2.2.length≤4:=by
 unfold mMany mIn at h
 simp only[Bool.or_eq_false_iff,decide_eq_false_iff_not,Bool.not_eq_false',Bool.and_eq_true,decide_eq_true_eq] at h
 obtain⟨⟨h1,h2⟩,h3,h4⟩:=h
 exact⟨by omega,by omega,by omega,by omega⟩
theorem heardL_zero {n:Nat} (hn:n<1000) (l:List Int):mHeardL (IntKind.wrap .i64 ((n:Int) - 1)) l=0↔(∀a,a ∈ l→0≤a∧a<(n:Int))∧l.Nodup:=by
 rw[wrap_id (by omega) (by omega)]
 unfold mHeardL
 have hany:l.any (fun a=>!mIn a 0 ((n:Int) - 1))=false↔∀a,a ∈ l→0≤a∧a<(n:Int):=by
  rw[List.any_eq_false]
  constructor
  ·intro h a ha
   have:=h a ha
   unfold mIn at this
   simp only[Bool.not_eq_true',Bool.not_eq_false,Bool.and_eq_true,decide_eq_true_eq] at this
   omega
  ·intro h a ha
   have:=h a ha
   unfold mIn
   simp only[Bool.not_eq_true',Bool.not_eq_false,Bool.and_eq_true,decide_eq_true_eq]
   omega
 have hcode:code (fun i a=>if a ∈ l.take i then (7:Int) else 0) l=0↔l.Nodup:=by
  rw[←nodup_take]
  constructor
  ·intro h i a ha hm
   have:=code_zero h i a ha
   rw[if_pos hm] at this;cases this
  ·intro h
   exact code_of fun i a ha=>by rw[if_neg (h i a ha)]
 cases hb:l.any (fun a=>!mIn a 0 ((n:Int) - 1)) with
 | true=>
  rw[if_pos rfl]
  constructor
  ·intro h;cases h
  ·intro h;have:=hany.2 h.1;rw[hb] at this;cases this
 | false=>
  rw[if_neg (by simp),hcode]
  exact⟨fun h=>⟨hany.1 hb,h⟩,fun h=>h.2⟩
theorem RC.zero {c:TK} (h:RC c):mCF c=0:=by
 obtain⟨n1,n2,n3,n4⟩:=many_nums h.many
 have h3:mVoters c=0:=by
  unfold mVoters
  rw[if_pos h.keys]
  exact code_of fun i a ha=>h.voter a (List.mem_of_getElem? ha)
 have h4:mVotes c=0:=code_of fun i a ha=>by
  obtain⟨v1,v2,v3⟩:=h.vote a (List.mem_of_getElem? ha)
  unfold mVotesC
  rw[if_pos v1,if_pos v2,if_neg ((nodup_take _).2 h.nodup i a ha),v3,if_pos rfl]
 have h5:mHeard c=0:=code_of fun i a ha=>(heardL_zero (by omega) a).2 (h.heard a (List.mem_of_getElem? ha))
 unfold mCF
 rw[if_pos h.q,h.many,if_neg (by simp),if_pos h.bad,if_pos h.tree,if_pos h3,if_pos h4,h5]
theorem pigeonN:∀(n:Nat) (l:List Int),l.Nodup→(∀a,a ∈ l→0≤a∧a<(n:Int))→l.length≤n
 | 0,l,_,h=>by
  cases l with
  | nil=>simp
  | cons a l=>have:=h a List.mem_cons_self;omega
 | n+1,l,hn,h=>by
  have ih:=pigeonN n (l.filter fun a=>!decide (a=(n:Int))) (hn.sublist List.filter_sublist) (fun a ha=>by
   rw[List.mem_filter] at ha
   have h1:=h a ha.1
   have h2:=ha.2
   simp only[Bool.not_eq_true',decide_eq_false_iff_not] at h2
   omega)
  have hc:l.count (n:Int)≤1:=List.nodup_iff_count.1 hn _
  have hl:=List.length_eq_countP_add_countP (fun a=>decide (a=(n:Int))) (l:=l)
  rw[←List.countP_eq_length_filter] at ih
  have e1:l.countP (fun a=>decide (a=(n:Int)))=l.count (n:Int):=by
   unfold List.count
   exact List.countP_congr fun a _=>by simp
  have e2:l.countP (fun a=>decide ¬decide (a=(n:Int))=true)=l.countP (fun a=>!decide (a=(n:Int))):=List.countP_congr fun a _=>by simp
  omega
theorem RC.small {c:TK} (h:RC c):Small c:=by
 obtain⟨n1,n2,n3,n4⟩:=many_nums h.many
 obtain⟨q1,q2,q3⟩:=quorum_num h.q
 have ht:=(right_of h.tree).len
 have hv:c.2.2.2.1.length≤8:=by
  have:=congrArg List.length h.keys
  rw[List.length_map] at this
  unfold mGood at this
  have h2:=List.length_filter_le (fun k=>!decide (k ∈ c.2.1)) c.1.1
  omega
 have hlim:LIM=1073741824:=rfl
 refine⟨by omega,by omega,by omega,by omega,fun v hv=>?_,by omega,by omega,fun l hl=>?_⟩
 ·have:=voter_40 (h.voter v hv);omega
 ·have:=pigeonN _ l (h.heard l hl).2 (h.heard l hl).1;omega
end CL
end Go.Dx
set_option maxHeartbeats 2000000
namespace Go.Dx
namespace CL
def Y {α:Type} (o:Option α) (Q:α→Prop):Prop:=∃a,o=some a∧Q a
theorem Y.some {α:Type} {a:α} {Q:α→Prop} (h:Q a):Y (some a) Q:=⟨a,rfl,h⟩
theorem Y.bind {α β:Type} {o:Option α} {f:α→Option β} {Q:α→Prop} {R:β→Prop} (h:Y o Q) (k:∀a,Q a→Y (f a) R):Y (o.bind f) R:=by
 obtain⟨a,rfl,ha⟩:=h
 exact k a ha
theorem Y.mono {α:Type} {o:Option α} {Q R:α→Prop} (h:Y o Q) (k:∀a,Q a→R a):Y o R:=let ⟨a,h1,h2⟩:=h;⟨a,h1,k a h2⟩
theorem Y.bif {α:Type} {c:Bool} {a b:Option α} {Q:α→Prop} (h1:c=true→Y a Q) (h2:c=false→Y b Q):Y (bif c then a else b) Q:=by
 cases c
 ·exact h2 rfl
 ·exact h1 rfl
theorem Y.grd {α:Type} {c:Bool} {a b:Option α} {Q:α→Prop} (h:c=true) (h1:Y a Q):Y (bif c then a else b) Q:=by rw[h];exact h1
theorem Y.loop {S X:Type} {f:S→Option (S⊕X)} {Q:X→Prop} (I:Nat→S→Prop) (hs:∀n s,I n s→Y (f s) (fun r=>match r with | .inl s'=>∃m,m<n∧I m s' | .inr x=>Q x)):∀n s,I n s→Y (loopO f s) Q:=by
 intro n
 induction n using Nat.strongRecOn with
 | ind n ih=>
  intro s hi
  obtain⟨r,h1,h2⟩:=hs n s hi
  cases r with
  | inl s'=>
   obtain⟨m,hm,hi'⟩:=h2
   obtain⟨x,h3,h4⟩:=ih m hm s' hi'
   exact⟨x,loopO_go h1 h3,h4⟩
  | inr x=>exact⟨x,loopO_out h1,h2⟩
theorem lim_one {α:Type} (l:List α) (a:α) (h:l.length<1000000):decide (List.length l+List.length [a]≤LIM)=true:=by
 simp only[List.length_cons,List.length_nil,decide_eq_true_eq]
 unfold LIM;omega
theorem inB_of {α:Type} {l:List α} {i:Int} (h0:0≤i) (h:i<(l.length:Int)):inB i l=true:=by
 simp[inB,h0,h]
structure CodeOk (l:List Int):Prop where
 len:l.length≤1048576
 byte:∀a,a ∈ l→0≤a∧a≤255
structure Src (N:Nat) (s:List Int×Int):Prop where
 code:CodeOk s.1
 lo:0≤s.2
 hi:s.2≤N
theorem Src.mono {N M:Nat} {s:List Int×Int} (h:Src N s) (hm:N≤M):Src M s:=⟨h.code,h.lo,by have:=h.hi;omega⟩
theorem byte_at {l:List Int} (h:CodeOk l) (i:Int):0≤List.getD l (Int.toNat i) 0∧List.getD l (Int.toNat i) 0≤255:=by
 rw[List.getD_eq_getElem?_getD]
 cases hg:l[i.toNat]? with
 | none=>simp
 | some a=>exact h.byte a (List.mem_of_getElem? hg)
def NextQ (N:Nat) (k:Int) (r:Int×List Int×Int):Prop:=Src (N+1) r.2∧0≤r.1∧(1≤k→r.1<k)∧(k<1→r.1=0)
theorem next_ok {N:Nat} {s:List Int×Int} (h:Src N s) (hN:N≤1000000) (k:Int) (hk:k≤2000000000):Y (F_spec_l1Next s k) (NextQ N k):=by
 have hlo:=h.lo
 have hhi:=h.hi
 unfold F_spec_l1Next
 have w1:IntKind.wrap .i64 (s.2+1)=s.2+1:=wrap_id (by omega) (by omega)
 have w2:IntKind.wrap .i64 (s.2+1 - 1)=s.2:=by rw[show s.2+1 - 1=s.2 by omega];exact wrap_id (by omega) (by omega)
 simp only[w1]
 rw[show s.2+1 - 1=s.2 by omega] at w2 ⊢
 simp only[w2]
 have hS:Src (N+1) (s.1,s.2+1):=⟨h.code,by show 0≤s.2+1;omega,by show s.2+1≤((N+1:Nat):Int);omega⟩
 have fin:∀v:Int,0≤v→1≤k→NextQ N k (Int.tmod v k,(s.1,s.2+1)):=fun v hv h1=>by
  refine⟨hS,?_,fun _=>?_,fun h2=>by omega⟩
  ·show 0≤v.tmod k
   rw[Int.tmod_eq_emod_of_nonneg hv];exact Int.emod_nonneg _ (by omega)
  ·show v.tmod k<k
   rw[Int.tmod_eq_emod_of_nonneg hv];exact Int.emod_lt_of_pos _ (by omega)
 refine Y.bif (fun h1=>?_) (fun h1=>?_)
 ·exact Y.some ⟨hS,Int.le_refl _,fun h2=>by simp only[decide_eq_true_eq] at h1;omega,fun _=>rfl⟩
 ·have h1:1≤k:=by simp only[decide_eq_false_iff_not] at h1;omega
  have hk0:(!decide (k=0))=true:=by simp;omega
  refine Y.bif (fun h2=>?_) (fun h2=>?_)
  ·refine Y.grd hk0 (Y.some (fin _ ?_ h1))
   rw[wrap_id (n:=s.2 * 7) (by omega) (by omega)];omega
  ·have hn:0<(s.1.length:Int):=by have:=of_decide_eq_false h2;omega
   have hlen:=h.code.len
   have hz:(!decide ((List.length s.1:Int)=0))=true:=by rw[h2];rfl
   have md:∀v:Int,0≤v→inB (Int.tmod v (List.length s.1:Int)) s.1=true:=fun v hv=>by
    rw[Int.tmod_eq_emod_of_nonneg hv]
    exact inB_of (Int.emod_nonneg _ (by omega)) (Int.emod_lt_of_pos _ hn)
   refine Y.grd hz (Y.grd (md _ hlo) (Y.grd hz ?_))
   obtain⟨b1,b2⟩:=byte_at h.code (Int.tmod s.2 (List.length s.1:Int))
   have d1:0≤Int.tdiv s.2 (List.length s.1:Int):=Int.tdiv_nonneg hlo (by omega)
   have d2:Int.tdiv s.2 (List.length s.1:Int)≤s.2:=by
    rw[Int.tdiv_eq_ediv_of_nonneg hlo];exact Int.ediv_le_self _ hlo
   generalize Int.tdiv s.2 (List.length s.1:Int)=d at d1 d2
   generalize List.getD s.1 (Int.toNat (Int.tmod s.2 (List.length s.1:Int))) 0=b at b1 b2
   have wb:IntKind.wrap .i64 b=b:=wrap_id (by omega) (by omega)
   have wd:IntKind.wrap .i64 d=d:=wrap_id (by omega) (by omega)
   have wd2:IntKind.wrap .i64 (d * 37)=d * 37:=wrap_id (by omega) (by omega)
   have wv:IntKind.wrap .i64 (b+d * 37)=b+d * 37:=wrap_id (by omega) (by omega)
   simp only[wb,wd,wd2,wv]
   refine Y.bind (Q:=fun v=>0≤v) ?_ (fun v hv=>Y.grd hk0 (Y.some (fin v hv h1)))
   refine Y.bif (fun h3=>?_) (fun h3=>Y.some (by omega))
   simp only[w1]
   refine Y.grd hz (Y.grd (md _ (by omega)) ?_)
   obtain⟨c1,c2⟩:=byte_at h.code (Int.tmod (s.2+1) (List.length s.1:Int))
   generalize List.getD s.1 (Int.toNat (Int.tmod (s.2+1) (List.length s.1:Int))) 0=c at c1 c2
   refine Y.some ?_
   show 0≤_
   rw[wrap_id (n:=c) (by omega) (by omega),wrap_id (n:=c * 13) (by omega) (by omega),wrap_id (n:=(b+d * 37) * 251) (by omega) (by omega),wrap_id (n:=(b+d * 37) * 251+c * 13) (by omega) (by omega),wrap_id (n:=(b+d * 37) * 251+c * 13+s.2) (by omega) (by omega)]
   omega
theorem pick_ok {N:Nat} {s:List Int×Int} (h:Src N s) (hN:N≤1000000) (l:List Int) (h0:0<l.length) (hl:l.length≤1000):Y (F_spec_l1Pick s l) (fun r=>Src (N+1) r.2∧r.1 ∈ l):=by
 unfold F_spec_l1Pick
 refine Y.bind (next_ok h hN _ (by omega)) fun r hr=>?_
 obtain⟨h1,h2,h3,_⟩:=hr
 have h3:=h3 (by omega)
 refine Y.grd (inB_of h2 h3) (Y.some ⟨h1,?_⟩)
 have hi:r.1.toNat<l.length:=by omega
 show List.getD l (Int.toNat r.1) 0 ∈ l
 rw[List.getD_eq_getElem?_getD,List.getElem?_eq_getElem hi]
 exact List.getElem_mem hi
end CL
end Go.Dx
set_option maxHeartbeats 2000000
namespace Go.Dx
namespace CL
structure Rise (l:List Int) (m:Int):Prop where
 pw:l.Pairwise (· < ·)
 mem:∀a,a ∈ l→1≤a∧a≤m
theorem Rise.push {l:List Int} {m a:Int} (h:Rise l m) (h1:m<a) (h0:0≤m):Rise (l++[a]) a:=by
 refine⟨?_,fun x hx=>?_⟩
 ·rw[List.pairwise_append]
  refine⟨h.pw,by simp,fun x hx y hy=>?_⟩
  rw[List.mem_singleton] at hy
  have:=(h.mem x hx).2
  omega
 ·rcases List.mem_append.1 hx with hx | hx
  ·have:=h.mem x hx;omega
  ·rw[List.mem_singleton] at hx;omega
theorem Rise.keys {l:List Int} {m:Int} (h:Rise l m) (hm:m≤999):(l.all fun k=>mIn k 1 999)=true:=by
 rw[List.all_eq_true]
 intro a ha
 have:=h.mem a ha
 unfold mIn
 simp only[Bool.and_eq_true,decide_eq_true_eq]
 omega
theorem drawKeys_ok {N:Nat} {s:List Int×Int} (h:Src N s) (hN:N≤900000) (n:Nat) (hn:n≤8):Y (F_spec_l10DrawKeys s (n:Int)) (fun r=>Src (N+8) r.2∧r.1.length=n∧Rise r.1 24):=by
 unfold F_spec_l10DrawKeys
 refine Y.bind (Q:=fun (j:List Int×List Int×Int)=>Src (N+8) j.2∧j.1.length=n∧Rise j.1 24) ?_ (fun j hj=>Y.some hj)
 refine Y.loop (fun m (st:Int×List Int×Int×List Int×Int)=>st.1=(m:Int)∧st.2.1.length+m=n∧Src (N+st.2.1.length) st.2.2.2∧Rise st.2.1 st.2.2.1∧0≤st.2.2.1∧st.2.2.1≤3 * (st.2.1.length:Int)) (fun m st hI=>?_) n _ ⟨rfl,by simp,by simpa using h,⟨by simp,by simp⟩,Int.le_refl _,by simp⟩
 obtain⟨i1,i2,i3,i4,i5,i6⟩:=hI
 refine Y.bif (fun h1=>?_) (fun h1=>?_)
 ·have h1:=of_decide_eq_true h1
  refine Y.bind (next_ok i3 (by omega) 3 (by omega)) fun r hr=>?_
  have hr3:=hr.2.2.1 (by omega)
  have hr0:=hr.2.1
  have w:IntKind.wrap .i64 (IntKind.wrap .i64 (st.2.2.1+1)+r.1)=st.2.2.1+1+r.1:=by
   rw[wrap_id (n:=st.2.2.1+1) (by omega) (by omega),wrap_id (n:=st.2.2.1+1+r.1) (by omega) (by omega)]
  rw[w]
  refine Y.grd (lim_one _ _ (by omega)) (Y.some ?_)
  refine⟨m - 1,by omega,?_,?_,?_,i4.push (by omega) i5,by show 0≤st.2.2.1+1+r.1;omega,?_⟩
  ·show IntKind.wrap .i64 (st.1 - 1)=_
   rw[wrap_id (n:=st.1 - 1) (by omega) (by omega)];omega
  ·show (st.2.1++[_]).length+_=n
   simp only[List.length_append,List.length_cons,List.length_nil];omega
  ·show Src (N+(st.2.1++[_]).length) r.2
   simp only[List.length_append,List.length_cons,List.length_nil]
   exact hr.1
  ·show st.2.2.1+1+r.1≤3 * ((st.2.1++[_]).length:Int)
   simp only[List.length_append,List.length_cons,List.length_nil];omega
 ·have h1:=of_decide_eq_false h1
  exact Y.some ⟨i3.mono (by omega),by show st.2.1.length=n;omega,i4.pw,fun a ha=>by have:=i4.mem a ha;omega⟩
theorem draw10_ok {N:Nat} {s:List Int×Int} (h:Src N s) (hN:N≤800000):Y (F_spec_l10Draw s) (fun r=>Src (N+11) r.2∧1≤r.1.1.length∧r.1.1.length≤8∧Rise r.1.1 24∧1≤r.1.2∧r.1.2≤(r.1.1.length:Int)):=by
 unfold F_spec_l10Draw
 refine Y.bind (next_ok h (by omega) 8 (by omega)) fun r1 h1=>?_
 have a0:=h1.2.1
 have a1:=h1.2.2.1 (by omega)
 obtain⟨n,hn⟩:∃n:Nat,1+r1.1=(n:Int):=⟨(1+r1.1).toNat,by omega⟩
 have w:IntKind.wrap .i64 (1+r1.1)=(n:Int):=by rw[wrap_id (n:=1+r1.1) (by omega) (by omega),hn]
 simp only[w]
 refine Y.bind (drawKeys_ok h1.1 (by omega) n (by omega)) fun r2 h2=>?_
 refine Y.bind (next_ok h2.1 (by omega) (n:Int) (by omega)) fun r3 h3=>?_
 have b0:=h3.2.1
 have b1:=h3.2.2.1 (by omega)
 have w2:IntKind.wrap .i64 (1+r3.1)=1+r3.1:=wrap_id (by omega) (by omega)
 have w3:IntKind.wrap .i64 (2 * (n:Int))=2 * (n:Int):=wrap_id (by omega) (by omega)
 have w4:Int.tdiv (2 * (n:Int)) 3=2 * (n:Int) / 3:=Int.tdiv_eq_ediv_of_nonneg (by omega)
 have w5:IntKind.wrap .i64 (2 * (n:Int) / 3)=2 * (n:Int) / 3:=wrap_id (by omega) (by omega)
 have w6:IntKind.wrap .i64 (2 * (n:Int) / 3+1)=2 * (n:Int) / 3+1:=wrap_id (by omega) (by omega)
 simp only[w2,w3,w4,w5,w6]
 refine Y.bind (pick_ok h3.1 (by omega) _ (by simp) (by simp)) fun r4 h4=>?_
 refine Y.some ⟨h4.1.mono (by omega),?_⟩
 have hl:=h2.2.1
 refine⟨by show 1≤r2.1.length;omega,by show r2.1.length≤8;omega,h2.2.2,?_⟩
 have hm:=h4.2
 simp only[List.mem_cons,List.not_mem_nil,or_false] at hm
 show 1≤r4.1∧r4.1≤(r2.1.length:Int)
 rcases hm with hm | hm<;>omega
def newC (q:TQ) (bad:List Int) (n:Int):TK:=(q,bad,[],(mGood q bad).map (fun k=>(k,0,[])),[],List.replicate n.toNat [])
def mNew (q:TQ) (bad:List Int) (n:Int):Int×TK:=
 if mQF q=0 then (if decide ((20:Int)<(bad.length:Int)) || !mIn n 1 4 then errK 2 else if mBF bad=0 then (0,newC q bad n) else errK (mBF bad)) else errK (mQF q)
theorem P_spec_NewCluster (q:TQ) (bad:List Int) (n:Int) (hq:q.1.length<LIM) (hb:bad.length<LIM):F_spec_NewCluster q bad n=some (mNew q bad n):=by
 unfold F_spec_NewCluster mNew
 simp only[P_spec_l10Fault _ (lB hq),P_spec_l12Bad _ (lB hb),P_spec_l12Err,Option.bind_some,P_spec_l1In,bif_code]
 by_cases h1:mQF q=0
 ·rw[if_pos h1,if_pos h1]
  have e:((bif decide ((20:Int)<(List.length bad:Int)) then some true else some (!mIn n 1 4)):Option Bool)=some (decide ((20:Int)<(bad.length:Int)) || !mIn n 1 4):=by
   cases decide ((20:Int)<(bad.length:Int))<;>rfl
  rw[e,Option.bind_some]
  cases hm:(decide ((20:Int)<(bad.length:Int)) || !mIn n 1 4) with
  | true=>rfl
  | false=>
   rw[cond_false,if_neg (show ¬false=true by simp)]
   simp only[Bool.or_eq_false_iff,Bool.not_eq_false'] at hm
   have hn:1≤n∧n≤4:=by have:=hm.2;unfold mIn at this;simpa using this
   by_cases hbf:mBF bad=0
   ·rw[if_pos hbf,if_pos hbf]
    rw[P_spec_l12Good q bad hq (lB hb)]
    rw[show decide (List.length ([]:List Int)+List.length q.1≤LIM)=true from decide_eq_true (by simp;omega),show decide (List.length ([]:List Int)+List.length bad≤LIM)=true from decide_eq_true (by simp;omega),show (decide (0≤n)&&decide (n≤(LIM:Int)))=true by simp;exact⟨by omega,by unfold LIM;omega⟩]
    simp only[cond_true,Option.bind_some]
    have hlen:(mGood q bad).length≤q.1.length:=by unfold mGood;exact List.length_filter_le _ _
    rw[loop_fold (mGood q bad) (fun (acc:List TR) k=>acc++[(k,0,[])]) (fun t i=>(i,((List.append [] q.1,q.2),(List.append [] bad,([],(t,([],List.replicate (Int.toNat n) []))))))) (fun t=>((List.append [] q.1,q.2),(List.append [] bad,([],(t,([],List.replicate (Int.toNat n) [])))))) (fun t i=>t.length≤i) _ (fun i h t ht=>?_) (fun t ht=>by simp only[dge,cond_false]) [] (by simp),foldl_map]
    ·rfl
    ·simp only[dlt h,inB_nat _ i h,getD_toNat _ i _ h,cond_true,wsucc h (lB (by omega:(mGood q bad).length<LIM))]
     rw[append_one_lim _ _ i ht (by omega)]
     exact⟨rfl,by simp;omega⟩
   ·rw[if_neg hbf,if_neg hbf]
 ·rw[if_neg h1,if_neg h1]
theorem new_rc {q:TQ} {bad:List Int} {n:Int} (h0:(mNew q bad n).1=0):RC (mNew q bad n).2:=by
 unfold mNew at h0 ⊢
 split
 ·rename_i hq
  rw[if_pos hq] at h0
  split
  ·rename_i hm;rw[if_pos hm] at h0;cases h0
  ·rename_i hm
   rw[if_neg hm] at h0
   split
   ·rename_i hb
    have hm:decide ((20:Int)<(bad.length:Int))=false∧mIn n 1 4=true:=by
     simp only[Bool.or_eq_true,Bool.not_eq_true',not_or,Bool.not_eq_true,Bool.not_eq_false] at hm
     exact hm
    have hn:1≤n∧n≤4:=by have:=hm.2;unfold mIn at this;simpa using this
    have hall:(q.1.all fun k=>mIn k 1 999)=true:=by
     unfold mQF at hq
     split at hq
     ·split at hq
      ·rename_i hh;simp only[Bool.and_eq_true] at hh;exact hh.1
      ·cases hq
     ·cases hq
    refine⟨hq,?_,hb,?_,?_,fun v hv=>?_,fun x hx=>(by cases hx),List.nodup_nil,fun l hl=>?_⟩
    ·unfold mMany
     show (decide ((20:Int)<(bad.length:Int)) || decide ((100:Int)<(([]:List TV).length:Int)) || !mIn ((List.replicate n.toNat ([]:List Int)).length:Int) 1 4)=false
     rw[hm.1,List.length_replicate]
     unfold mIn
     simp;omega
    ·unfold mTree code;rfl
    ·show ((mGood q bad).map (fun k=>((k,0,[]):TR))).map (·.1)=mGood q bad
     rw[List.map_map];exact List.map_id' _
    ·obtain⟨k,hk,rfl⟩:=List.mem_map.1 hv
     unfold mGood at hk
     rw[List.mem_filter] at hk
     have hk1:=List.all_eq_true.1 hall k hk.1
     unfold mVoter
     rw[if_pos (by simp only[Bool.and_eq_true];exact⟨hk1,rfl⟩),if_neg (by simp)]
     rfl
    ·have:=List.eq_of_mem_replicate hl
     subst this
     exact⟨fun a ha=>(by cases ha),List.nodup_nil⟩
   ·rename_i hb;rw[if_neg hb] at h0;exact absurd h0 hb
 ·rename_i hq;rw[if_neg hq] at h0;exact absurd h0 hq
theorem bent10_ok {N:Nat} {s:List Int×Int} (h:Src N s) (hN:N≤800000):Y (F_spec_l10Bent s) (fun r=>Src (N+13) r.2∧r.1.1.length≤9):=by
 unfold F_spec_l10Bent
 refine Y.bind (draw10_ok h hN) fun r1 h1=>?_
 have hl:=h1.2.2.1
 refine Y.bind (next_ok h1.1 (by omega) 10 (by omega)) fun r2 h2=>?_
 refine Y.bind (Q:=fun (j:TQ×List Int×Int)=>Src (N+13) j.2∧j.1.1.length≤9) ?_ (fun j hj=>Y.some hj)
 refine Y.bif (fun _=>Y.bind (pick_ok h2.1 (by omega) _ (by simp) (by simp)) fun r3 h3=>Y.some ⟨h3.1,by show r1.1.1.length≤9;omega⟩) (fun _=>?_)
 refine Y.bind (Q:=fun (j:TQ×List Int×Int)=>Src (N+13) j.2∧j.1.1.length≤9) ?_ (fun j hj=>Y.some hj)
 refine Y.bif (fun _=>Y.bind (pick_ok h2.1 (by omega) _ (by simp) (by simp)) fun r3 h3=>?_) (fun _=>?_)
 ·refine Y.grd (lim_one _ _ (by omega)) (Y.some ⟨h3.1,?_⟩)
  show (r1.1.1++[_]).length≤9
  simp only[List.length_append,List.length_cons,List.length_nil];omega
 ·refine Y.bind (Q:=fun (j:TQ)=>j.1.length≤9) ?_ (fun j hj=>Y.some ⟨h2.1.mono (by omega),hj⟩)
  exact Y.bif (fun _=>Y.some (by simp)) (fun _=>Y.some (by omega))
end CL
end Go.Dx
set_option maxHeartbeats 2000000
namespace Go.Dx
namespace CL
def bCode (x:List Int):Prop:=List.length x≤maxLen∧∀y,y ∈ x→(Lit.int .u8 y).wf=true
theorem code_ok {x:List Int} (h:bCode x) (hl:x.length≤1048576):CodeOk x:=by
 refine⟨hl,fun a ha=>?_⟩
 have:=h.2 a ha
 simp only[Lit.wf,Bool.and_eq_true,decide_eq_true_eq] at this
 have e1:IntKind.u8.min=0:=by decide
 have e2:IntKind.u8.max=255:=by decide
 rw[e1,e2] at this
 exact this
theorem src_start {x:List Int} (h:CodeOk x):Src 0 (x,0):=⟨h,Int.le_refl _,Int.le_refl _⟩
theorem P_laws_lwHas (a:List Int) (ha:a.length<BIG) (v:Int):F_laws_lwHas a v=some (decide (v ∈ a)):=by
 unfold F_laws_lwHas
 rw[loop_first a (fun _ y=>if decide (y=v) then some true else none) _ (fun i h=>?_) (by simp only[dge,cond_false]),first_any,bind_first]
 ·rw[any_eq']
  by_cases h:v ∈ a
  ·rw[decide_eq_true h];rfl
  ·rw[decide_eq_false h];rfl
 ·simp only[dlt h,inB_nat a i h,getD_toNat a i _ h,cond_true,wsucc h ha]
  by_cases he:a[i]=v<;>simp[he]
theorem Y_true {o:Option Bool} (h:Y o (fun b=>b=true)):o=some true:=by obtain⟨b,h1,h2⟩:=h;rw[h1,h2]
end CL
end Go.Dx
set_option maxHeartbeats 2000000
namespace Go.Dx
namespace CL
theorem rise_pw {l:List Int} (h:mRising l=true):l.Pairwise (· < ·):=by
 unfold mRising at h
 rw[List.all_eq_true] at h
 have step:∀i (hi:i+1<l.length),l[i]<l[i+1]:=fun i hi=>by
  have:=of_decide_eq_true (h i (List.mem_range.2 (by omega)))
  rw[getD_nat l i 0 (by omega),getD_nat l (i+1) 0 hi] at this
  exact this
 rw[List.pairwise_iff_getElem]
 intro i j hi hj hij
 obtain⟨k,rfl⟩:∃k,j=i+1+k:=⟨j - (i+1),by omega⟩
 clear hij
 induction k with
 | zero=>exact step i (by omega)
 | succ k ih=>
  have h1:=ih (by omega)
  have h2:=step (i+1+k) (by omega)
  exact Int.lt_trans h1 h2
theorem mQF_rise {q:TQ} (h:mQF q=0):q.1.Pairwise (· < ·):=by
 unfold mQF at h
 split at h
 ·split at h
  ·split at h
   ·rename_i hr;exact rise_pw hr
   ·cases h
  ·cases h
 ·cases h
theorem cmp_voter (a b:TR):((F_impl_NewCluster_c1 a b).bind fun r=>some r)=some (if a.1<b.1 then -1 else if b.1<a.1 then 1 else 0):=by
 unfold F_impl_NewCluster_c1 F_cmp_Compare_int64
 have hn:∀z:Int,F_cmp_isNaN_int64 z=some false:=fun z=>by unfold F_cmp_isNaN_int64;simp
 simp only[hn,Option.bind_some,cond_false]
 by_cases h1:a.1<b.1
 ·simp[h1]
 ·by_cases h2:b.1<a.1<;>simp[h1,h2]
theorem sort_voters {l:List Int} (h:l.Pairwise (· < ·)) (hl:l.length<1000) (g:TR→TR→Option Int) (hg:∀a b,g a b=some (if a.1<b.1 then -1 else if b.1<a.1 then 1 else 0)) :
  sortO (l.map fun k=>((k,0,[]):TR)) g=some (l.map fun k=>((k,0,[]):TR)):=by
 have hless:∀a b,lessS g a b=decide (a.1<b.1):=fun a b=>by
  unfold lessS
  rw[hg]
  by_cases h1:a.1<b.1
  ·simp[h1]
  ·by_cases h2:b.1<a.1<;>simp[h1,h2]
 refine sortO_eq ⟨fun a _ b _=>⟨_,hg a b⟩,fun a _=>by rw[hless];simp,fun a _ b _ c _ h1 h2=>?_,fun a _ b _ c _ h1 h2=>?_,fun a ha b hb h1 h2=>?_,by rw[List.length_map];omega⟩ ⟨List.Perm.refl _,?_⟩
 ·rw[hless] at *;simp only[decide_eq_true_eq] at *;omega
 ·rw[hless] at *;simp only[decide_eq_false_iff_not] at *;omega
 ·rw[hless] at *
  simp only[decide_eq_false_iff_not] at *
  obtain⟨k,_,rfl⟩:=List.mem_map.1 ha
  obtain⟨k2,_,rfl⟩:=List.mem_map.1 hb
  have:k=k2:=by simp only at h1 h2;omega
  rw[this]
 ·rw[List.pairwise_map]
  exact h.imp fun {a b} hab=>by rw[hless];simp;omega
theorem P_impl_NewCluster (q:TQ) (bad:List Int) (n:Int) (hq:q.1.length<LIM) (hb:bad.length<LIM):F_impl_NewCluster q bad n=some (mNew q bad n):=by
 unfold F_impl_NewCluster mNew
 simp only[P_impl_QuorumFault _ (lB hq),P_impl_badFault _ (lB hb),Option.bind_some,P_impl_within,bif_code]
 by_cases h1:mQF q=0
 ·rw[if_pos h1,if_pos h1]
  have e:((bif decide ((20:Int)<(List.length bad:Int)) then some true else some (!mIn n 1 4)):Option Bool)=some (decide ((20:Int)<(bad.length:Int)) || !mIn n 1 4):=by
   cases decide ((20:Int)<(bad.length:Int))<;>rfl
  rw[e,Option.bind_some]
  cases hm:(decide ((20:Int)<(bad.length:Int)) || !mIn n 1 4) with
  | true=>rfl
  | false=>
   rw[cond_false,if_neg (show ¬false=true by simp)]
   simp only[Bool.or_eq_false_iff,Bool.not_eq_false'] at hm
   have hn:1≤n∧n≤4:=by have:=hm.2;unfold mIn at this;simpa using this
   by_cases hbf:mBF bad=0
   ·rw[if_pos hbf,if_pos hbf]
    rw[P_Clone_int _ (Nat.le_of_lt hq),P_Clone_int _ (Nat.le_of_lt hb),Option.bind_some,Option.bind_some,P_impl_goodKeys q bad (Nat.le_of_lt hq) (lB hb),show (decide (0≤n)&&decide (n≤(LIM:Int)))=true by simp;exact⟨by omega,by unfold LIM;omega⟩]
    simp only[cond_true,Option.bind_some]
    have hlen:(mGood q bad).length≤q.1.length:=by unfold mGood;exact List.length_filter_le _ _
    have h8:=(quorum_num (c:=(q,([],[],[],[],[]))) h1).2.2
    have h8:q.1.length≤8:=h8
    rw[loop_fold (mGood q bad) (fun (acc:List TR) k=>acc++[(k,0,[])]) (fun t i=>(i,((q.1,q.2),(bad,([],(t,([],List.replicate (Int.toNat n) []))))))) (fun t=>((q.1,q.2),(bad,([],(t,([],List.replicate (Int.toNat n) [])))))) (fun t i=>t.length≤i) _ (fun i h t ht=>?_) (fun t ht=>by simp only[dge,cond_false]) [] (by simp),foldl_map]
    ·rw[Option.bind_some]
     simp only[List.nil_append]
     have hpw:(mGood q bad).Pairwise (· < ·):=(mQF_rise h1).sublist (by unfold mGood;exact List.filter_sublist)
     unfold F_slices_SortFunc_Limpl_Voter_impl_Voter
     rw[sort_voters hpw (by omega) _ (fun a b=>cmp_voter a b)]
     rfl
    ·simp only[dlt h,inB_nat _ i h,getD_toNat _ i _ h,cond_true,wsucc h (lB (by omega:(mGood q bad).length<LIM))]
     rw[append_one_lim _ _ i ht (by omega)]
     exact⟨rfl,by simp;omega⟩
   ·rw[if_neg hbf,if_neg hbf];rfl
 ·rw[if_neg h1,if_neg h1];rfl
end CL
end Go.Dx
set_option maxHeartbeats 2000000
namespace Go.Dx
namespace CL
theorem drawNew_ok {x:List Int} (hk:CodeOk x):Y (F_spec_DrawNewCluster x) (fun r=>r.1.1.length<1000∧r.2.1.length<1000):=by
 unfold F_spec_DrawNewCluster
 rw[show F_spec_l1Source x=some (x,0) from rfl,Option.bind_some]
 refine Y.bind (bent10_ok (src_start hk) (by omega)) fun r1 h1=>?_
 refine Y.bind (next_ok h1.1 (by omega) 4 (by omega)) fun r2 h2=>?_
 have a0:=h2.2.1
 have a1:=h2.2.2.1 (by omega)
 obtain⟨n,hn⟩:∃n:Nat,r2.1=(n:Int):=⟨r2.1.toNat,by omega⟩
 rw[hn]
 refine Y.bind (drawKeys_ok h2.1 (by omega) n (by omega)) fun r3 h3=>?_
 have h3l:=h3.2.1
 refine Y.bind (next_ok h3.1 (by omega) 12 (by omega)) fun r4 h4=>?_
 refine Y.bind (Q:=fun (j:List Int×List Int×Int)=>Src 100 j.2∧j.1.length<1000) ?_ (fun j hj=>?_)
 ·refine Y.bif (fun _=>?_) (fun _=>?_)
  ·refine Y.bind (pick_ok h4.1 (by omega) _ (by simp) (by simp)) fun r5 h5=>?_
   refine Y.grd (lim_one _ _ (by omega)) (Y.some ⟨h5.1.mono (by omega),?_⟩)
   show (r3.1++[_]).length<1000
   simp only[List.length_append,List.length_cons,List.length_nil];omega
  ·refine Y.bind (Q:=fun (l:List Int)=>l.length<1000) ?_ (fun l hl=>Y.some ⟨h4.1.mono (by omega),hl⟩)
   exact Y.bif (fun _=>Y.grd (by decide) (Y.some (by simp))) (fun _=>Y.some (by omega))
 ·refine Y.bind (pick_ok hj.1 (by omega) _ (by simp) (by simp)) fun r5 h5=>Y.some ⟨?_,hj.2⟩
  show r1.1.1.length<1000
  have:=h1.2;omega
theorem law_FnNewClusters (x:List Int) (hx:bCode x):F_laws_FnNewClusters x=some true:=by
 unfold F_laws_FnNewClusters F_laws_lwBig
 rw[Option.bind_some]
 cases hb:decide ((1048576:Int)<(List.length x:Int)) with
 | true=>rfl
 | false=>
  rw[cond_false]
  have hk:=code_ok hx (by have:=of_decide_eq_false hb;omega)
  refine Y_true ?_
  have hlim:LIM=1073741824:=rfl
  refine Y.bind (drawNew_ok hk) fun r hr=>?_
  obtain⟨q,bad,n⟩:=r
  have h1:q.1.length<1000:=hr.1
  have h2:bad.length<1000:=hr.2
  simp only[P_impl_NewCluster q bad n (by omega) (by omega),P_spec_NewCluster q bad n (by omega) (by omega),Option.bind_some]
  refine Y.bif (fun _=>Y.some (by simp)) (fun h0=>?_)
  have h0:(mNew q bad n).1=0:=by simpa using h0
  have hrc:=new_rc h0
  have e:(mNew q bad n).2=newC q bad n∧1≤n∧n≤4:=by
   unfold mNew at h0 ⊢
   split
   ·rename_i hq
    rw[if_pos hq] at h0
    split
    ·rename_i hm;rw[if_pos hm] at h0;cases h0
    ·rename_i hm
     rw[if_neg hm] at h0
     have hm:decide ((20:Int)<(bad.length:Int))=false∧mIn n 1 4=true:=by
      simp only[Bool.or_eq_true,Bool.not_eq_true',not_or,Bool.not_eq_true,Bool.not_eq_false] at hm
      exact hm
     have hn:1≤n∧n≤4:=by have:=hm.2;unfold mIn at this;simpa using this
     split
     ·exact⟨rfl,hn⟩
     ·rename_i hb;rw[if_neg hb] at h0;exact absurd h0 hb
   ·rename_i hq;rw[if_neg hq] at h0;exact absurd h0 hq
  obtain⟨e,n1,n4⟩:=e
  rw[e] at hrc ⊢
  have hs:=hrc.small
  refine Y.bind (Q:=fun (j:Unit⊕Bool)=>j=Sum.inl ()) ?_ (fun j hj=>?_)
  ·refine Y.loop (fun m (st:Int)=>∃i:Nat,st=(i:Int)∧i+m=(newC q bad n).2.2.2.1.length) (fun m st hI=>?_) (newC q bad n).2.2.2.1.length 0 ⟨0,rfl,by omega⟩
   obtain⟨i,rfl,hi⟩:=hI
   refine Y.bif (fun g=>?_) (fun _=>Y.some rfl)
   have g:=of_decide_eq_true g
   have hi':i<(newC q bad n).2.2.2.1.length:=by omega
   have hmem:((newC q bad n).2.2.2.1[i]).1 ∈ mGood (newC q bad n).1 (newC q bad n).2.1:=by rw[←hrc.keys];exact List.mem_map.2 ⟨_,List.getElem_mem hi',rfl⟩
   unfold mGood at hmem
   rw[List.mem_filter] at hmem
   have hnb:((newC q bad n).2.2.2.1[i]).1 ∉ bad:=fun hb=>by have:=hmem.2;simp at this;exact this hb
   rw[inB_nat _ i hi',getD_toNat _ i _ hi',P_laws_lwHas bad (by unfold BIG;omega),decide_eq_false hnb,P_laws_lwHas q.1 (by unfold BIG;omega),decide_eq_true (show ((newC q bad n).2.2.2.1[i]).1 ∈ q.1 from hmem.1),wsucc hi' (lB hs.voters)]
   exact Y.some ⟨m - 1,by omega,i+1,rfl,by omega⟩
  ·subst hj
   have hlb:mLB (newC q bad n)=(0,[]):=by unfold mLB;rw[if_pos hrc.zero];rfl
   have hlc:mLC (newC q bad n)=(0,[]):=by unfold mLC;rw[if_pos hrc.zero];rfl
   have hnf:F_impl_NoFork (newC q bad n)=some true:=by
    unfold F_impl_NoFork
    rw[P_impl_LockedBlocks _ hs,hlb,Option.bind_some,loopO_out (x:=Sum.inl ()) (by simp)]
    rfl
   have hnd:F_impl_NoDouble (newC q bad n)=some true:=by
    unfold F_impl_NoDouble
    rw[P_impl_LockedCoins _ hs,hlc,Option.bind_some,loopO_out (x:=Sum.inl ()) (by simp)]
    rfl
   have hhl:(newC q bad n).2.2.2.2.2.length=n.toNat:=by unfold newC;simp
   simp only[Sum.elim_inl,P_impl_LockedBlocks _ hs,P_impl_ClusterFault _ hs,hnf,hnd,hrc.zero,hlb,Option.bind_some,e,hhl]
   rw[show decide (((n.toNat:Nat):Int)=n)=true by simp;omega]
   simp only[decide_true,cond_true,List.length_nil]
   exact Y.some rfl
end CL
end Go.Dx
